import Derived.Shelf.SlSortCmp.NoneTotal
import Derived.WalkKit
import Derived.Test.YtngiefchigcphaaGreatDoorW1
import Derived.Test.YtngiefchigcphaaGreatDoorW2
import Derived.Test.YtngiefchigcphaaGreatDoorW3
import Derived.Test.YtngiefchigcphaaGreatDoorW4
import Derived.Test.YtngiefchigcphaaGreatDoorW5
import Derived.Test.YtngiefchigcphaaGreatDoorW6
import Derived.Test.YtngiefchigcphaaGreatDoorW7
import Derived.Test.YtngiefchigcphaaGreatDoorW8
import Derived.Test.YtngiefchigcphaaGreatDoorW9
import Derived.Test.YtngiefchigcphaaGreatDoorW10
/- A part of the proof of the law AsofMore: where what it reads holds at most 1048576 values and letters, the call returns true and its arguments read as they did. Conditions: that bound, and that the listed table starts as the program lays it. -/
set_option linter.unusedVariables false
set_option linter.unusedSimpArgs false
namespace Go.Proofs
open Go.Shelf Go.RowKit Go.Lib Go.Sort
set_option maxHeartbeats 1000000 in
theorem Tryz.closure151 (x y:Go.Sg.OSeat) (W:World):Calls Tryz.prog 151 #[.agg (Go.Sg.OSeat.cells x).toArray,.agg (Go.Sg.OSeat.cells y).toArray] W fun e w'=>e=.returned (.int .i64 (Lib.compareInt x.person y.person))∧∃ q os',w'=grow (W.drewN q) os':=by
 have hcon:=fun W'=>Tryz.cmp_Compare_int x.person y.person W'
 generalize Lib.compareInt x.person y.person=r at hcon ⊢
 unfold Go.Sg.OSeat.cells
 go_enter Tryz.func151,Tryz.ntmps151
 go_wp2_with (go_at_call 152;refine (hcon _).mono ?_;rintro e w' ⟨rfl,rfl⟩)
 go_ret
 exact ⟨rfl,0,_,by rw [alloc_eq_grow,alloc_eq_grow,grow_grow];rfl⟩
theorem Tryz.ltSeat (x y:Go.Sg.OSeat):ltOf (fun x y:Go.Sg.OSeat=>Lib.compareInt x.person y.person) x y=decide (x.person < y.person):=by
 unfold ltOf Lib.compareInt
 by_cases h1:x.person < y.person
 ·simp [h1]
 ·by_cases h2:y.person < x.person <;> simp [h1,h2]
theorem Tryz.swoSeat:SWO (ltOf fun x y:Go.Sg.OSeat=>Lib.compareInt x.person y.person) where
 irrefl x:=by rw [Tryz.ltSeat];simp
 trans x y z h1 h2:=by rw [Tryz.ltSeat] at *;simp at *;omega
 ntrans x y z h1 h2:=by rw [Tryz.ltSeat] at *;simp at *;omega
end Go.Proofs
namespace Go.Sg
open Go.Proofs Go.RowKit Go.Sort
set_option maxRecDepth 100000
theorem vp {h:HF}:∀ {cl:List Value} {xs:List OSeat},bW OSeat.rp h cl xs→cl=xs.flatMap OSeat.cells
 | _,[],hc=>hc
 | _,x::xs,⟨cs,rest,e,_,hr,hc⟩=>by
  have:cs=OSeat.cells x:=hr
  rw [e,this,vp hc];rfl
theorem vR (h:HF):∀ xs:List OSeat,bW OSeat.rp h (xs.flatMap OSeat.cells) xs
 | []=>rfl
 | x::xs=>⟨OSeat.cells x,xs.flatMap OSeat.cells,rfl,rfl,rfl,vR h xs⟩
theorem zy:∀ (xs:List OSeat) (j:Nat),j < xs.length * 2→(xs.flatMap OSeat.cells)[j]? = some ((OSeat.cells (xs.getD (j / 2) default)).getD (j % 2) undef)
 | [],j,hj=>by simp at hj
 | x::xs,0,_=>by simp [OSeat.cells]
 | x::xs,1,_=>by simp [OSeat.cells]
 | x::xs,j+2,hj=>by
  have ih:=zy xs j (by simp at hj;omega)
  simp only [List.flatMap_cons]
  rw [List.getElem?_append_right (by simp [OSeat.cells])]
  simp only [OSeat.cells,List.length_cons,List.length_nil]
  rw [show j+2 - (0+1+1)=j from by omega,show (j+2) / 2=j / 2+1 from by omega,show (j+2) % 2=j % 2 from by omega]
  simpa [OSeat.cells] using ih
theorem nG (xs:List OSeat):(xs.flatMap OSeat.cells).length=xs.length * 2:=by
 induction xs with
 | nil=>rfl
 | cons x xs ih=>rw [List.flatMap_cons,List.length_append,ih];simp [OSeat.cells];omega
theorem yr (xs:List OSeat):(flatK OSeat.cells 2 xs.toArray).toList=xs.flatMap OSeat.cells:=by
 apply List.ext_getElem?
 intro j
 rcases Nat.lt_or_ge j (xs.length * 2) with hj | hj
 ·rw [zy xs j hj]
  have h1:=get_flatK OSeat.cells 2 xs.toArray j (by simpa using hj)
  have h2:j < (flatK OSeat.cells 2 xs.toArray).size:=by rw [size_flatK];simpa using hj
  rw [getElem!_pos _ j h2] at h1
  rw [Array.getElem?_toList,Array.getElem?_eq_getElem h2,h1]
  have h3:j / 2 < xs.length:=by omega
  congr 1
  rw [getElem!_pos xs.toArray (j / 2) (by simpa using h3)]
  have h4:j % 2 < 2:=Nat.mod_lt _ (by omega)
  simp only [List.getElem_toArray,List.getD,List.getElem?_eq_getElem h3,Option.getD_some]
  rw [getElem!_pos _ (j % 2) (by simpa [OSeat.cells] using h4)]
  rw [List.getElem?_eq_getElem (by simpa [OSeat.cells] using h4),Option.getD_some]
 ·rw [List.getElem?_eq_none (by rw [Array.length_toList,size_flatK];simpa using hj),List.getElem?_eq_none (by rw [nG];exact hj)]
theorem BR (F cur:Array Value) (h:F.size≤cur.size):(putCells id 0 F cur).toList=F.toList++cur.toList.drop F.size:=by
 apply List.ext_getElem?
 intro j
 rcases Nat.lt_or_ge j cur.size with hj | hj
 ·have e1:(putCells id 0 F cur).toList[j]? = some (if j < F.size then F[j]! else cur[j]):=by
   rw [Array.getElem?_toList]
   simp [putCells,hj]
  rw [e1]
  rcases Nat.lt_or_ge j F.size with h1 | h1
  ·rw [if_pos h1,List.getElem?_append_left (by simpa using h1),Array.getElem?_toList,Array.getElem?_eq_getElem h1,getElem!_pos _ j h1]
  ·rw [if_neg (by omega),List.getElem?_append_right (by simpa using h1),List.getElem?_drop,Array.getElem?_toList,Array.length_toList,show F.size+(j - F.size)=j from by omega,Array.getElem?_eq_getElem hj]
 ·rw [List.getElem?_eq_none (by simpa [putCells] using hj),List.getElem?_eq_none (by simp;omega)]
theorem GJ {w:World} {g n:Nat} {os:Array Obj} {cur:Array Value} {e:TypeId} {fr:Nat×Nat} (d:Array Value) (hb:w.heap[g]? = some (.cells cur e fr)):
  (grow (putRow id (Sort.ahead w n) g 0 d) os).heap[g]? = some (.cells (putCells id 0 d cur) e fr):=by
 have hg:g < w.heap.size:=(Array.getElem?_eq_some_iff.1 hb).1
 rw [heap_grow_old _ _ (by simpa using hg)]
 simp [putRow,mapBlock,Sort.ahead,Array.getElem?_modify,hb,onCells]
theorem Fg {w:World} {g n:Nat} {os:Array Obj} (d:Array Value):(grow (putRow id (Sort.ahead w n) g 0 d) os).os=w.os∧(grow (putRow id (Sort.ahead w n) g 0 d) os).tape=w.tape∧(grow (putRow id (Sort.ahead w n) g 0 d) os).output=w.output ∧
  w.heap.size≤(grow (putRow id (Sort.ahead w n) g 0 d) os).heap.size∧∀ k,k < w.heap.size→k≠g→(grow (putRow id (Sort.ahead w n) g 0 d) os).heap[k]? = w.heap[k]?:=by
 refine ⟨rfl,rfl,rfl,by simp [putRow,mapBlock,Sort.ahead],fun k hk hne=>?_⟩
 rw [heap_grow_old _ _ (by simpa using hk)]
 simp [putRow,mapBlock,Sort.ahead,Array.getElem?_modify,Ne.symm hne]
theorem pk (h:HF) (xs:List OSeat) (b:Option Addr) (c:Nat) (G:LH) (hG:ei OSeat.rp 212 h xs b c G) (hsz:xs.length≤1000000000000):
  oq Tryz.prog 211 [.slice b xs.length c,.func (.func 151) #[] #[]].toArray h G (fun r h' G'=>h'=h∧r=.returned (.tuple #[])∧∃ ys,ys.Perm xs∧ys.Pairwise (fun x y=>x.person≤y.person)∧ei OSeat.rp 212 h ys b c G'):=by
 intro w hp
 rcases hG with ⟨rfl,rfl,rfl,rfl⟩ | ⟨bk,cl,sp,rfl,hcl,hlen,hcap,hmax,rfl⟩
 ·refine (iR (AnyF.slices_SortFunc_none Tryz.sortSeat none 0 (.func (.func 151) #[] #[]) w) (fun w' hw=>by cases hw.1)).mono ?_
  rintro e w' ⟨rfl,rfl⟩
  exact ⟨h,[],St.start hp,rfl,rfl,[],List.Perm.refl _,List.Pairwise.nil,ei.nil⟩
 ·have hb:=hp.own _ (List.mem_singleton.2 rfl)
  simp only at hb
  have hcl':=vp hcl
  subst hcl'
  have hfl:=yr xs
  have hH:HoldsK OSeat.cells 2 w bk 0 xs.toArray:=by
   intro j hj
   rw [size_flatK] at hj
   have hj':j < xs.length * 2:=by simpa using hj
   refine ⟨?_,by simp [World.frozen?,hb]⟩
   have h2:j < (flatK OSeat.cells 2 xs.toArray).size:=by rw [size_flatK];exact hj
   have h3:(flatK OSeat.cells 2 xs.toArray).toList[j]? = some (flatK OSeat.cells 2 xs.toArray)[j]!:=by
    rw [Array.getElem?_toList,Array.getElem?_eq_getElem h2,getElem!_pos _ j h2]
   rw [hfl] at h3
   have h4:(xs.flatMap OSeat.cells++sp)[j]? = some (flatK OSeat.cells 2 xs.toArray)[j]!:=by
    rw [List.getElem?_append_left (by rw [nG];exact hj')];exact h3
   simp only [World.cell?,hb,Nat.zero_add]
   simpa using h4
  have eg:∀ args w,(callFunc 151 args).run Tryz.prog w=.ok (.enter 151 args) w:=Tryz.call151
  have hcall:=AnyQ.slices_SortFunc Tryz.sortSeat 2 Tryz.isAgg212 Tryz.sizeOf212 OSeat.cells (fun _=>rfl) (fun x v hv=>by simp [OSeat.cells] at hv;rcases hv with rfl | rfl <;> rfl)
   (fun x y=>Lib.compareInt x.person y.person) Tryz.swoSeat 151 #[] bk 0 c xs.toArray w eg (fun _ _ _ _ x y=>Tryz.closure151 x y _) hH (fE hb) (by simp;omega)
  change Calls Tryz.prog 211 _ _ _ at hcall
  rw [List.size_toArray] at hcall
  refine (iR hcall (fun w' hw=>by cases hw.1)).mono ?_
  rintro e w' ⟨rfl,d',n,os,⟨hds,_,hperm⟩,hsorted,rfl⟩
  have hds':d'.size=xs.length:=by simpa using hds
  have hF:(flatK OSeat.cells 2 d').toList=d'.toList.flatMap OSeat.cells:=by have:=yr d'.toList;simpa using this
  have hFs:(flatK OSeat.cells 2 d').size=xs.length * 2:=by rw [size_flatK,hds']
  obtain ⟨g1,g2,g3,g4,g5⟩:=Fg (w:=w) (g:=bk) (n:=n) (os:=os) (flatK OSeat.cells 2 d')
  have hnew:=GJ (w:=w) (g:=bk) (n:=n) (os:=os) (flatK OSeat.cells 2 d') hb
  have hcur:(putCells id 0 (flatK OSeat.cells 2 d') (xs.flatMap OSeat.cells++sp).toArray).toList=d'.toList.flatMap OSeat.cells++sp:=by
   rw [BR _ _ (by rw [hFs,← nG];simp),hF,hFs]
   congr 1
   rw [← nG]
   exact List.drop_left' rfl
  have hcur':putCells id 0 (flatK OSeat.cells 2 d') (xs.flatMap OSeat.cells++sp).toArray=(d'.toList.flatMap OSeat.cells++sp).toArray:=by rw [← hcur]
  rw [hcur'] at hnew
  have hperm':d'.toList.Perm xs:=by
   have e1:d'.extract 0 xs.length=d':=by rw [← hds'];simp
   have e2:xs.toArray.extract 0 xs.length=xs.toArray:=by simp
   rw [e1,e2] at hperm;exact hperm
  refine ⟨h,[(bk,.cells (d'.toList.flatMap OSeat.cells++sp).toArray 212 (0,0))],⟨g1,g2,g3,g4,fun k hk hM=>g5 k hk (fun e=>hM (by subst e;simp)),fun _ _ e=>e,fun _ _=>rfl,fun k o e=>?_,fun q hq=>?_,?_,?_,?_⟩,rfl,rfl,d'.toList,hperm',?_,?_⟩
  ·have hne:k≠bk:=fun e'=>by
    have:=hp.free _ (List.mem_singleton.2 rfl)
    simp only at this
    rw [e',this] at e;cases e
   exact (g5 k (fE (hp.imm k o e)) hne).trans (hp.imm k o e)
  ·rw [List.mem_singleton.1 hq];exact hnew
  ·simp
  ·intro q hq;rw [List.mem_singleton.1 hq];exact hp.free (bk,Obj.cells (xs.flatMap OSeat.cells++sp).toArray 212 (0,0)) (List.mem_singleton.2 rfl)
  ·intro q hq;rw [List.mem_singleton.1 hq];exact .inr (by simp)
  ·rw [List.pairwise_iff_getElem]
   intro i j hi hj hij
   have hj':j < d'.size:=by simpa using hj
   have hi':i < d'.size:=by simpa using hi
   have:=hsorted i j (Nat.zero_le _) hij (by omega)
   rw [Tryz.ltSeat,getElem!_pos _ j hj',getElem!_pos _ i hi'] at this
   simp only [Array.getElem_toList]
   simpa using this
  ·refine .inr ⟨bk,d'.toList.flatMap OSeat.cells,sp,rfl,vR h _,?_,?_,?_,rfl⟩
   ·rw [List.length_append,nG,hperm'.length_eq,← nG,← List.length_append];exact hlen
   ·rw [hperm'.length_eq];exact hcap
   ·rw [hperm'.length_eq];exact hmax
theorem oX (h:HF) (it:Value) (ks:List OSeat) (hit:vh Tryz.prog it (fun (k:OSeat) (_:HF) (vs:List Value)=>vs=[OSeat.enc k]) (fun xs=>xs.Perm ks) h) (hk:ks.length≤1000000000000):
  jP Tryz.prog 153 [it,.func (.func 151) #[] #[]] h (fun v h'=>∃ (b:Option Addr) (c:Nat) (ys:List OSeat),ys.Perm ks∧ys.Pairwise (fun x y=>x.person≤y.person)∧v=.slice b ys.length c∧SlC OSeat.rp h' b c ys):=by
 refine aw Tryz.func153 rfl Tryz.ntmps153 rfl fun X hM hX=>?_
 refine ad (ah (bi (ac (ad (ah (aa ?_))))))
 refine a8 (tU Tryz.call210 (yK h it _ hit (fun xs hx=>by rw [hx.length_eq];exact hk)) rfl (fun h' xs bb c G hle hxs hG=>?_))
 refine bi (ac (ad (ah (aa (aa ?_)))))
 refine a8 (qX [] G [] Tryz.call211 (pk h' xs bb c G hG (by rw [hxs.length_eq];exact hk)) (by simp) rfl (fun G' hG'=>?_))
 obtain ⟨ys,hp,hs,hG'⟩:=hG'
 refine ac (ad (ah (aa (bi (ac ?_)))))
 refine gi OSeat.aJ [] G' [] (by simp) hM hG' (fun h2 hle2 sl=>?_)
 exact dQ [.slice bb xs.length c] Tryz.func153 rfl ⟨rfl,trivial⟩ ⟨bb,c,ys,hp.trans hxs,hs,by rw [hp.length_eq];rfl,sl⟩
end Go.Sg
namespace Go.Sg
open Go.Proofs
set_option maxHeartbeats 2000000
set_option maxRecDepth 100000
set_option linter.unusedVariables false
theorem me (h:HF) (q:aS) (jo:gF) (iD:Int) (hq:aS.ok h q jo) (hsm:smR q.Register) (hk:Kinds h):jP Tryz.prog 65 [.agg (aS.cells q jo).toArray,I iD] h (fun v h'=>∃ (rb0:Option Addr) (rc0:Nat),v=.tuple #[.slice rb0 ((av q iD).1).length rc0,I ((av q iD).2)]∧SlC Policy.rp h' rb0 rc0 ((av q iD).1)):=by
 refine aw Tryz.func65 U Tryz.ntmps65 U fun X hM hX=>?_
 have hs0:av q iD=av q iD:=rfl
 have hsv:=hsm.vers
 have hsl:=hsv.len
 refine sr (dC (fun b1=>bi (an (sr (ay qn U (ay mA U (aL 0 ty26 U U U (ay mw U (ay oW U (aL 0 ty3 U U U (aa (ay AP U (aL 0 ty3 U U U (a8 (dp Tryz.call44 (sX h q.Register.Versions jo.Register.gq jo.Register.gp q.doc.At iD q.known hq.Register.Versions ob hk) U (fun v1 h1 hle1 hp1=>?_))))))))))))))))
 obtain ⟨rb1,rc1,rfl,sl1⟩:=hp1
 refine aa (bR U U (bR U U (bR U U (bi (bi (an (ad (sr (aa (aF U (ac ?_)))))))))))
 refine aB U (fun c1=>?_) (fun c1=>?_)
 ·have hs1:=hs0.trans (bt c1)
  refine sr (bi (an ?_))
  have hs2:av q iD=([],0):=hs1
  exact dQ [.slice none 0 0,I 0] Tryz.func65 U rd ⟨none,0,congrArg (fun r:((List Policy)×Int)=>(.tuple #[.slice none r.1.length 0,I r.2]:Value)) hs2.symm,(by rw [hs2];exact SlC.nil)⟩
 ·have hs3:=hs0.trans (bf c1)
  refine ai (ad (sr (ay qn U (ay mA U (aL 0 ty26 U U U (bE lu U (aa (ac ?_))))))))
  let z2:Nat×Obj:=(b1,O (aS.cells q jo) 77)
  refine bq (ι:=Nat×(List Policy)×Option Addr×Nat×LH) (fun i=>[(4,.slice i.2.2.1 i.2.1.length i.2.2.2.1),(5,I ((aV q.Register.Versions q.doc.At iD q.known).2.1))]) (fun i=>h1) (fun i=>[z2]++(i.2.2.2.2)) (fun i=>i.1≤q.Register.Versions.length∧av q iD=((av.K1 q iD) i.2.1)∧ei Policy.rp 68 h1 i.2.1 i.2.2.1 i.2.2.2.1 i.2.2.2.2∧i.2.1.length≤0+i.1) ?_ (fun hx1=>?_)
  ·rintro ⟨i1,ku,oc,oa,pF⟩ ⟨bd,hs4,lr,rP⟩ e
   try dsimp only at bd lr rP
   try dsimp only
   refine sr (aa (aa (bi (an ?_))))
   refine gi Policy.aJ ([z2]) pF ([]) ap hM lr (fun h3 hle3 sl3=>?_)
   have hs5:av q iD=(ku,(aV q.Register.Versions q.doc.At iD q.known).2.1):=hs4
   exact dQ [.slice oc ku.length oa,I ((aV q.Register.Versions q.doc.At iD q.known).2.1)] Tryz.func65 U rd ⟨oc,oa,congrArg (fun r:((List Policy)×Int)=>(.tuple #[.slice oc r.1.length oa,I r.2]:Value)) hs5.symm,(by rw [hs5];exact sl3)⟩
  ·refine ck (ι:=Nat×(List Policy)×Option Addr×Nat×LH×List Version) (fun i=>[(4,.slice i.2.2.1 i.2.1.length i.2.2.2.1),(5,I ((aV q.Register.Versions q.doc.At iD q.known).2.1)),(6,.slice rb1 (((aV q.Register.Versions q.doc.At iD q.known).1).length) rc1),(28,.slice jo.Register.gq q.Register.Versions.length jo.Register.gp),(29,I ((q.Register.Versions.length:Nat):Int)),(30,I ((i.1:Nat):Int))]) (fun i=>h1) (fun i=>[z2]++(i.2.2.2.2.1)) (fun i=>q.Register.Versions.drop i.1=i.2.2.2.2.2∧i.1≤q.Register.Versions.length∧av q iD=((av.L1 q iD (av.K1 q iD)) i.2.2.2.2.2 i.2.1)∧ei Policy.rp 68 h1 i.2.1 i.2.2.1 i.2.2.2.1 i.2.2.2.2.1∧i.2.1.length≤0+i.1) (fun i=>i.2.2.2.2.2.length) (0,[],none,0,[],q.Register.Versions) rd sw ⟨U,Nat.zero_le _,hs3,ei.nil,lo⟩ ?_
   rintro ⟨i1,ku,oc,oa,pF,s1⟩ ⟨hd1,bd,hs6,lr,rP⟩ ag1 e
   try dsimp only at hd1 bd lr rP
   rcases s1 with _ | ⟨y1,rz1⟩
   ·have dJ:=cS hd1
    try dsimp only
    refine sr (az (v':=.bool false) U (cb dJ) (ac (ad (ba U (bM U ?_)))))
    exact hx1 (i1,ku,oc,oa,pF) _ ⟨bd,hs6,lr,lo⟩ rd
   ·have dI:=dV hd1
    have bh:=cU hd1
    have e9:=aP hd1
    have gO:=(hq.Register.Versions.mono Version.aJ hle1).1.1
    try dsimp only
    refine sr (az (v':=.bool true) U (cb dI) (ac (ad (bj U (ai (ad (aU (sr (a8 (gX lu ty70 (hq.Register.Versions.mono Version.aJ hle1).1 (nthZ bh) (bA bh) U U U (fun q2 cs2 A2 ln2 rr2=>?_)))))))))))
    obtain ⟨r2,rfl,ok2⟩:=rr2
    refine dT ty70 A2 U U (bT zc70 (fun b4=>bJ 0 ty70 U U U U U U (iF (L':=[(b4,O (Version.cells y1 r2) 70),z2]++(pF)) U (ac (sr ?_)))))
    refine aa (ay oT U (aL 0 ty3 U U U (aA (v:=.bool (fQ ((aV q.Register.Versions q.doc.At iD q.known).1) y1.No)) Tryz.call111 (pU h1 ((aV q.Register.Versions q.doc.At iD q.known).1) rb1 rc1 y1.No sl1) U ?_)))
    refine ac ?_
    refine aB U (fun c3=>?_) (fun c3=>?_)
    ·have hs8:=hs6.trans (bt c3)
     refine ah (aa (ay qo U (dh 0 ty68 U U U (a8 (cf (cells:=[.string y1.Policy.Name,.slice r2.Policy.fM y1.Policy.Kinds.length r2.Policy.fL,.slice r2.Policy.dB y1.Policy.Offices.length r2.Policy.dA,.slice r2.Policy.ji y1.Policy.Rules.length r2.Policy.jh,I y1.Policy.Change.Kind,I y1.Policy.Change.N,I y1.Policy.Change.No,.string y1.Policy.Change.Name,.slice r2.Policy.Change.iE y1.Policy.Change.L.length r2.Policy.Change.iG,I y1.Policy.Mode]) Bi ty68 zc68 U U kr (fun b5=>?_))))))
     let z1:Nat×Obj:=(b5,O [.string y1.Policy.Name,.slice r2.Policy.fM y1.Policy.Kinds.length r2.Policy.fL,.slice r2.Policy.dB y1.Policy.Offices.length r2.Policy.dA,.slice r2.Policy.ji y1.Policy.Rules.length r2.Policy.jh,I y1.Policy.Change.Kind,I y1.Policy.Change.N,I y1.Policy.Change.No,.string y1.Policy.Change.Name,.slice r2.Policy.Change.iE y1.Policy.Change.L.length r2.Policy.Change.iG,I y1.Policy.Mode] 68)
     refine a8 (eK Policy.eZ ([z1,(b4,O (Version.cells y1 r2) 70),z2]) ([]) (fun G=>[z1,(b4,O (Version.cells y1 r2) 70),z2]++(G)) ap (fun _=>ap) Bi ty68 zc68 U bytes68 lr U U (ff 0 U (show bW Policy.rp h1 [.string y1.Policy.Name,.slice r2.Policy.fM y1.Policy.Kinds.length r2.Policy.fL,.slice r2.Policy.dB y1.Policy.Offices.length r2.Policy.dA,.slice r2.Policy.ji y1.Policy.Rules.length r2.Policy.jh,I y1.Policy.Change.Kind,I y1.Policy.Change.N,I y1.Policy.Change.No,.string y1.Policy.Change.Name,.slice r2.Policy.Change.iE y1.Policy.Change.L.length r2.Policy.Change.iG,I y1.Policy.Mode] ([y1.Policy]) from ⟨[.string y1.Policy.Name,.slice r2.Policy.fM y1.Policy.Kinds.length r2.Policy.fL,.slice r2.Policy.dB y1.Policy.Offices.length r2.Policy.dA,.slice r2.Policy.ji y1.Policy.Rules.length r2.Policy.jh,I y1.Policy.Change.Kind,I y1.Policy.Change.N,I y1.Policy.Change.No,.string y1.Policy.Change.Name,.slice r2.Policy.Change.iE y1.Policy.Change.L.length r2.Policy.Change.iG,I y1.Policy.Mode],[],U,U,⟨r2.Policy,U,ok2.Policy⟩,U⟩)) lo lo (fun ob2 oc2 G2 gr2=>?_))
     refine an (ao (ah (az (v':=I (((i1+1):Nat):Int)) U (bP ob) (aa (ac ?_)))))
     refine cE (L':=[z2]++(G2)) js ?_
     exact ag1 ((i1+1),(ku++[y1.Policy]),ob2,oc2,G2,rz1) _ (Nat.lt_succ_self _) ⟨bF hd1,aP hd1,hs8,gr2,lo⟩ rd
    ·have hs9:=hs6.trans (bf c3)
     refine ai (ao (ah (az (v':=I (((i1+1):Nat):Int)) U (bP ob) (aa (ac ?_)))))
     refine cE (L':=[z2]++(pF)) js ?_
     exact ag1 ((i1+1),ku,oc,oa,pF,rz1) _ (Nat.lt_succ_self _) ⟨bF hd1,aP hd1,hs9,lr,lo⟩ rd
theorem nN (h:HF) (seq:(List Holder)) (seq_v:Value) (hseq:Itr Tryz.prog seq_v lV seq h) (hsz:seq.length≤2000000):jP Tryz.prog 149 [.slice none 0 0,seq_v] h (fun v h'=>∃ (rb0:Option Addr) (rc0:Nat),v=.slice rb0 (co seq).length rc0∧SlC Holder.rp h' rb0 rc0 (co seq)):=by
 refine aw Tryz.func149 U Tryz.ntmps149 U fun X hM hX=>?_
 have hs0:co seq=co seq:=rfl
 refine sr (dC (fun b1=>an (ad (sr (aa (ac (aU ?_)))))))
 refine gv ?_
 refine dW (L':=([(b1,O [.slice none 0 0] 101)])++markB []) ap ?_
 refine kc (it:=seq_v) (xs:=seq) (ι:=(List Holder)×Option Addr×Nat×LH×HF) [] (fun i=>i.2.2.2.2) (fun i=>[(b1,O [.slice i.2.1 i.1.length i.2.2.1] 101)]++(i.2.2.2.1)) (fun s i=>co seq=((co.L1 (co.K1)) s i.1)∧ei Holder.rp 133 i.2.2.2.2 i.1 i.2.1 i.2.2.1 i.2.2.2.1∧HF.le h i.2.2.2.2∧i.1.length+s.length≤seq.length) (fun _=>False) (fun _=>False) 0 (fun _ _ _=>False) ([],none,0,[],h) Tryz.func149 U hseq U nV (fun _ _ _ _ _ hq=>hq) U (show [(b1,O [.slice none 0 0] 101)]=_ from U) ⟨hs0,ei.nil,(HF.le_refl h),(by simp)⟩ ?_ ?_ ?_ ?_ ?_
 ·rintro l1 dm1 lp1 y1 rz1 vs1 ⟨da,pE,pD,rO,hh1⟩ hr1 X hFR1 ⟨hs1,gT,hl1,u1_0⟩ hl01 hlr1 hv1 hX hXM hlp1 nx1 rt1 ex1 pn1
  try dsimp only at gT hl1 u1_0 hlr1
  obtain rfl:=hv1
  simp only [List.length_cons] at u1_0
  let z1:Nat×Obj:=(b1,O [.slice pE da.length pD] 101)
  let z3:Nat×Obj:=(dm1,.deferred (some []))
  refine dW (L':=[(l1,.loop lp1),z3,z1]++(rO++(markB []))) ap ?_
  refine ah (bT zc133 (fun b4=>bJ 0 ty133 U U U U U U (iF (L':=[(b4,O (Holder.cells y1) 133),(l1,.loop lp1),z3,z1]++(rO++(markB []))) U ?_)))
  let z4:Nat×Obj:=(l1,.loop { lp1 with state:=.busy })
  let z5:Nat×Obj:=(b4,O (Holder.cells y1) 133)
  refine ac (kd 1 U hlp1 (aU (ah (aL 3 ty101 U U U (dh 0 ty133 U U U (a8 (cf (cells:=[I y1.Person,I y1.Weight]) wC ty133 zc133 U U kr (fun b5=>a8 (eK Holder.eZ ([(b5,O [I y1.Person,I y1.Weight] 133),z5,z4,z3,z1]) (markB []) (fun G=>[(b5,O [I y1.Person,I y1.Weight] 133),z5,z4,z3,z1]++(markB []++(G))) ap (fun _=>ap) wC ty133 zc133 U bytes133 (gT.mono Holder.aJ hlr1) U U (ff 0 U (show bW Holder.rp hr1 [I y1.Person,I y1.Weight] ([y1]) from ⟨[I y1.Person,I y1.Weight],[],U,U,U,U⟩)) lo lo (fun ob2 oc2 G2 gr2=>?_))))))))))
  refine wj (rZ ([(b5,O [I y1.Person,I y1.Weight] 133),z5,z4,z3,z1]) G2 (markB [])) ?_
  refine du 4 ty101 U U U U U U (ac (ao ?_))
  let z6:Nat×Obj:=(b1,O [.slice ob2 ((da++[y1]).length) oc2] 101)
  refine cE (L':=[z4,z3,z6]++(G2++(markB []))) js ?_
  refine dW (L':=rdH l1 dm1 lp1 (([z6]++(G2))++markB [])) ap ?_
  exact nx1 ((da++[y1]),ob2,oc2,G2,hr1) _ _ ⟨hs1,gr2,(hl1.t hlr1),(by simp only [List.length_append,List.length_cons,List.length_nil] at *;omega)⟩ (HF.le_refl _)
 ·rintro dm1 ⟨da,pE,pD,rO,hh1⟩ hn1 ⟨hs2,gT,hl1,u1_0⟩ hln1 hl01
  try dsimp only at gT hl1 u1_0 hln1
  let z2:Nat×Obj:=(b1,O [.slice pE da.length pD] 101)
  refine dW (L':=[z2]++(rO++(markB (dm1::[])))) ap ?_
  refine ao (sr (aL 0 ty101 U U U (an ?_)))
  refine gi Holder.aJ ([z2]) rO (markB (dm1::[])) ap hM (gT.mono Holder.aJ hln1) (fun h2 hle2 sl2=>?_)
  have hs3:co seq=da:=hs2
  refine dW (L':=([z2])++markB (dm1::[])) ap ?_
  exact pj (dm1::[]) [.slice pE da.length pD] Tryz.func149 U rd ⟨pE,pD,congrArg (fun r:(List Holder)=>(.slice pE r.length pD:Value)) hs3.symm,(by rw [hs3];exact sl2)⟩
 ·exact fun _ _ _ hF=>hF.elim
 ·exact fun _ _ _ hF=>hF.elim
 ·exact fun _ _ _ _ hF=>hF.elim
theorem o9 (h:HF) (seq:(List Holder)) (seq_v:Value) (hseq:Itr Tryz.prog seq_v lV seq h) (hsz:seq.length≤2000000):jP Tryz.prog 91 [seq_v] h (fun v h'=>∃ (rb0:Option Addr) (rc0:Nat),v=.slice rb0 (ft seq).length rc0∧SlC Holder.rp h' rb0 rc0 (ft seq)):=by
 refine aw Tryz.func91 U Tryz.ntmps91 U fun X hM hX=>?_
 have hs0:ft seq=ft seq:=rfl
 refine sr (an (sr (aa (a8 (dp Tryz.call149 (nN h seq seq_v hseq ob) U (fun v1 h1 hle1 hp1=>?_))))))
 obtain ⟨rb1,rc1,rfl,sl1⟩:=hp1
 refine an ?_
 have hs1:ft seq=(co seq):=hs0
 exact dQ [.slice rb1 ((co seq).length) rc1] Tryz.func91 U rd ⟨rb1,rc1,congrArg (fun r:(List Holder)=>(.slice rb1 r.length rc1:Value)) hs1.symm,(by rw [hs1];exact sl1)⟩
theorem rq (h:HF) (m:(List (OSeat×Appoint))) (AG:Nat) (m_q:Addr) (office:Int) (office_q:Addr) (hm:ou OSeat.enc (kp Appoint.rp) h AG m) (am:At h m_q [.map (some AG)]) (aoffice:At h office_q [I office]) (hsz:m.length≤1000000000):Itr Tryz.prog (.func (.func 150) #[] (List.toArray [.pointer (some m_q),.pointer (some office_q)])) lV (bV m office) h:=by
 refine uR Tryz.call150 ?_
 intro yf ya yb C Sp Pn h1 A hle m1 m2 m3 hC hy
 refine jW Fx U Tryz.ntmps150 U fun X hXM hX=>?_
 have hs0:bV m office=[]++bV m office:=rfl
 refine sr (an (sr (eM ty159 (am.mono hle) U (a8 (dp Tryz.call154 (rx h1 m AG (hm.mono (kp.mono Appoint.aJ) hle)) U (fun v1 h2 hle1 hp1=>aa (a8 (dp Tryz.call153 (oX h2 v1 (m.map Prod.fst) hp1 (by rw [List.length_map];omega)) U (fun v2 h3 hle2 hp2=>?_)))))))))
 obtain ⟨rb1,rc1,ys_,hper_,hsrt_,rfl,sl1⟩:=hp2
 have Je:bV m office=[]++((bV.L1 m office (bV.K1)) ys_ ):=yZ (by obtain ⟨_,_,q⟩:=hm;exact q.nodup) hper_ hsrt_
 refine bE FY U (aa (ac ?_))
 refine bq (ι:=Nat×List Holder×LH×HF) (fun i=>[]) (fun i=>i.2.2.2) (fun i=>i.2.2.1) (fun i=>i.1≤ys_.length∧bV m office=i.2.1++((bV.K1))∧C i.2.1 i.2.2.2 i.2.2.1∧HF.le h3 i.2.2.2) ?_ (fun hx1=>?_)
 ·rintro ⟨i1,dn1,A1_,hh1⟩ ⟨bd,hs1,hC1_,hl1⟩ e
  try dsimp only at bd hC1_ hl1
  try dsimp only
  refine gv ?_
  have hs2:bV m office=dn1:=hs1.trans (List.append_nil _)
  exact uS [] (A:=A1_) Fx U (List.Sublist.refl _) (.inl (hs2 ▸ hC1_))
 ·refine ck (ι:=Nat×List Holder×LH×HF×List OSeat) (fun i=>[(0,.func yf ya yb),(1,.pointer (some m_q)),(2,.pointer (some office_q)),(11,.slice rb1 ys_.length rc1),(12,I ((ys_.length:Nat):Int)),(13,I ((i.1:Nat):Int))]) (fun i=>i.2.2.2.1) (fun i=>i.2.2.1) (fun i=>ys_.drop i.1=i.2.2.2.2∧i.1≤ys_.length∧bV m office=i.2.1++((bV.L1 m office (bV.K1)) i.2.2.2.2 )∧C i.2.1 i.2.2.2.1 i.2.2.1∧HF.le h3 i.2.2.2.1) (fun i=>i.2.2.2.2.length) (0,[],A,h3,ys_) rd sw ⟨U,Nat.zero_le _,Je,(m1 _ _ _ _ (hle1.t hle2) hC),(HF.le_refl h3)⟩ ?_
  rintro ⟨i1,dn1,A1_,hh1,s1⟩ ⟨hd1,bd,hs3,hC1_,hl1⟩ ag1 e
  try dsimp only at hd1 bd hC1_ hl1
  rcases s1 with _ | ⟨y1,rz1⟩
  ·have dJ:=cS hd1
   try dsimp only
   refine sr (az (v':=.bool false) U (cb dJ) (ac (ad (ba U (bM U ?_)))))
   exact hx1 (i1,dn1,A1_,hh1) _ ⟨bd,hs3,hC1_,hl1⟩ trivial
  ·have dI:=dV hd1
   have bh:=cU hd1
   have e9:=aP hd1
   have gO:=sl1.1.1
   try dsimp only
   refine sr (az (v':=.bool true) U (cb dI) (ac (ad (bj U (ai (ad (aU (sr (a8 (fZ (enc:=OSeat.cells) (fun _ _ _ e=>e) FY ty212 (sl1.mono OSeat.aJ hl1).1 (nthZ bh) (bA bh) U U U (fun q2 A2=>?_)))))))))))
   refine dT ty212 A2 U U (bT zc212 (fun b3=>bJ 0 ty212 U U U U U U (iF (L':=[(b3,O (OSeat.cells y1) 212)]++(A1_)) U (ac (sr (eM ty159 (am.mono (((hle.t hle1).t hle2).t hl1)) U ?_))))))
   refine dh 0 ty212 U U U ?_
   obtain ⟨o2,hb2,hm2⟩:=(hm.mono (kp.mono Appoint.aJ) (((hle.t hle1).t hle2).t hl1))
   refine a8 (pm (k:=y1) FE tj hb2 hm2 (jr zv59) (show (kp Appoint.rp) _ (.agg (List.toArray [I 0,I 0,I 0,I 0,I 0,I 0,.bool false])) (Appoint.mk 0 0 0 0 0 0 false) from ⟨_,U,U⟩) U U (fun v4 hv2=>?_))
   obtain ⟨_,rfl,rfl⟩:=hv2
   refine bT zc59 (fun b4=>bJ 0 ty59 U U U U U U (iF (L':=[(b4,O (Appoint.cells (mgetD m y1 (Appoint.mk 0 0 0 0 0 0 false))) 59),(b3,O (OSeat.cells y1) 212)]++(A1_)) U (ac (sr ?_))))
   refine ay GY U (aL 1 ty3 U U U (eM ty3 (aoffice.mono (((hle.t hle1).t hle2).t hl1)) U (aF U (aa ?_))))
   refine tq 4 [(0,.func yf ya yb),(1,.pointer (some m_q)),(2,.pointer (some office_q)),(7,Q b4),(11,.slice rb1 ys_.length rc1),(12,I ((ys_.length:Nat):Int)),(13,I ((i1:Nat):Int)),(28,.bool ((y1.office==office)&&(!((mgetD m y1 (Appoint.mk 0 0 0 0 0 0 false)).Gone))))] (fun hk1=>?_) (fun e=>?_)
   ·refine au 24 U (fun c1=>?_) (fun c1=>?_)
    ·refine ay AQ U (aL 0 ty4 U U U (cR U (ae U ?_)))
     exact hk1 _ ⟨U,U,U,U,U,U,U,(cb (cY c1)),trivial⟩
    ·refine kq (bY (ae U ?_))
     exact hk1 _ ⟨U,U,U,U,U,U,U,(cb (cZ c1)),trivial⟩
   refine aa ?_
   refine au 29 U (fun c2=>?_) (fun c2=>?_)
   ·have hs5:=hs3.trans (congrArg (dn1++·) (bt c2))
    refine aa (ay ug U (aL 0 ty3 U U U (ay sf U (aL 0 ty3 U U U (a8 (fO (cells:=[I ((mgetD m y1 (Appoint.mk 0 0 0 0 0 0 false)).Person),I ((mgetD m y1 (Appoint.mk 0 0 0 0 0 0 false)).Weight)]) (places:=[(0,1),(1,1)]) Tryz.underlying133 zc133 kr kr ?_))))))
    have hx1:bV m office=dn1++((Holder.mk ((mgetD m y1 (Appoint.mk 0 0 0 0 0 0 false)).Person) ((mgetD m y1 (Appoint.mk 0 0 0 0 0 0 false)).Weight))::(bV.L1 m office (bV.K1) rz1 )):=hs5
    refine a8 (lL ([(b4,O (Appoint.cells (mgetD m y1 (Appoint.mk 0 0 0 0 0 0 false))) 59),(b3,O (OSeat.cells y1) 212)]) A1_ ap (hy dn1 (Holder.mk ((mgetD m y1 (Appoint.mk 0 0 0 0 0 0 false)).Person) ((mgetD m y1 (Appoint.mk 0 0 0 0 0 0 false)).Weight)) _ _ _ _ hx1 ((hle1.t hle2).t hl1) hC1_ U) U U (fun h4 A3 hle3 hC1=>?_) (fun h5 A4 hle4 hS1=>?_) (fun ch1 h6 A5 hle5 hP1 e=>jj (qh [] (A:=A5) Fx (List.sublist_append_right _ _) hP1)))
    ·have hs6:bV m office=(dn1++[(Holder.mk ((mgetD m y1 (Appoint.mk 0 0 0 0 0 0 false)).Person) ((mgetD m y1 (Appoint.mk 0 0 0 0 0 0 false)).Weight))])++((bV.L1 m office (bV.K1) rz1 )):=hx1.trans ap
     refine cR U (ae U (ac (ba U (ai (ao (ah (az (v':=I (((i1+1):Nat):Int)) U (bP ob) (aa (ac ?_)))))))))
     refine cE (L':=A3) js ?_
     exact ag1 ((i1+1),(dn1++[(Holder.mk ((mgetD m y1 (Appoint.mk 0 0 0 0 0 0 false)).Person) ((mgetD m y1 (Appoint.mk 0 0 0 0 0 0 false)).Weight))]),A3,h4,rz1) _ (Nat.lt_succ_self _) ⟨bF hd1,aP hd1,hs6,hC1,(hl1.t hle3)⟩ rd
    ·refine cR U (ae U (ac (bj U ?_)))
     refine gv ?_
     exact qg [] (A:=A4) Fx U js (.inr hS1)
   ·have hs7:=hs3.trans (congrArg (dn1++·) (bf c2))
    refine kq (kq (kq (kq (ae U (ac (ba U (ai (ao (ah (az (v':=I (((i1+1):Nat):Int)) U (bP ob) (aa (ac ?_))))))))))))
    refine cE (L':=A1_) js ?_
    exact ag1 ((i1+1),dn1,A1_,hh1,rz1) _ (Nat.lt_succ_self _) ⟨bF hd1,aP hd1,hs7,hC1_,hl1⟩ rd
end Go.Sg
namespace Go.Sg
open Go.Proofs
set_option maxHeartbeats 2000000
set_option maxRecDepth 100000
set_option linter.unusedVariables false
theorem te (h:HF) (m:(List (OSeat×Appoint))) (AG:Nat) (office:Int) (hm:ou OSeat.enc (kp Appoint.rp) h AG m) (hsz:m.length≤1000000000):jP Tryz.prog 92 [.map (some AG),I office] h (fun v h'=>∃ (rv0:Value),v=rv0∧Itr Tryz.prog rv0 lV (ic m office) h'):=by
 refine aw Tryz.func92 U Tryz.ntmps92 U fun X hM hX=>?_
 have hs0:ic m office=ic m office:=rfl
 refine sr (dC (fun b1=>dC (fun b2=>an (sr (cn 1 U hM (fun h1 hle1 hb1=>cn 0 U hM (fun h2 hle2 hb2=>a8 (gj U U (an ?_)))))))))
 have hs1:ic m office=(bV m office):=hs0
 exact dQ [.func (.func 150) #[] #[Q b1,Q b2]] Tryz.func92 U rd ⟨(.func (.func 150) #[] #[Q b1,Q b2]),congrArg (fun r:(List Holder)=>((.func (.func 150) #[] #[Q b1,Q b2]):Value)) hs1.symm,(by rw [hs1];exact (rq h2 m AG ⟨b1,0,none⟩ office ⟨b2,0,none⟩ (hm.mono (kp.mono Appoint.aJ) (hle1.t hle2)) ((dP hb1).mono hle2) (dP hb2) ob))⟩
theorem qE (h:HF) (x:Appoint) (v0:Int) (v0_q:Addr) (v1:Int) (v1_q:Addr) (av0:At h v0_q [I v0]) (av1:At h v1_q [I v1]):Ret Tryz.prog 155 [.agg (Appoint.cells x).toArray,.pointer (some v0_q),.pointer (some v1_q)] h (.tuple #[.agg (OSeat.cells ((ed x v0 v1).1)).toArray,.bool ((ed x v0 v1).2)]):=by
 refine aw Tryz.func155 U Tryz.ntmps155 U fun X hM hX=>?_
 have hs0:ed x v0 v1=ed x v0 v1:=rfl
 refine sr (dC (fun b1=>bT zc212 (fun b2=>an (ad ?_))))
 let z1:Nat×Obj:=(b1,O (Appoint.cells x) 59)
 refine HB ([(b2,O [I x.Office,I x.Person] 212),z1]) [(4,Q b2),(5,.bool (decide (x.At≤v0)&&decide (x.Known≤v1)))] (fun e=>?_) (fun hk1=>?_)
 rotate_left
 ·refine gr ([z1]) mixed kr jn (fun fd _=>?_)
  refine tf 0 U U (fun _ _ _=>dO wu U) (tf 1 U U (fun _ _ hj=>hY ty3 U (hj.nth (i:=0) U) U) ?_)
  refine tf 2 U U (fun _ _ _=>dO ug U) (tf 3 U U (fun _ _ hj=>hY ty3 U (hj.nth (i:=0) U) U) ?_)
  refine tf 5 U U (fun _ _ _=>dO qp U) (tf 6 U U (fun _ _ hj=>hY ty3 U (hj.nth (i:=0) U) U) ?_)
  refine tf 7 U U (fun _ _ hj=>gu ty3 (av0.mono hj.1) U) (tf 8 U U (fun _ _ _=>iH U) ?_)
  refine tm 9 U ?_
  refine eI 15 U (fun c1=>?_) (fun c1=>?_)
  ·have c1p:=of_decide_eq_true c1
   refine tf 10 U U (fun _ _ _=>dO uh U) (tf 11 U U (fun _ _ hj=>hY ty3 U (hj.nth (i:=0) U) U) ?_)
   refine tf 12 U U (fun _ _ hj=>gu ty3 (av1.mono hj.1) U) (tf 13 U U (fun _ _ _=>iH U) ?_)
   refine tf 14 U U (fun _ _ _=>cr U) (tn 4 U (fO (cells:=[I x.Office,I x.Person]) (places:=[(0,1),(1,1)]) Ee zc212 kr kr ?_))
   refine ⟨jn,(tn 15 U (wS 0 ty212 U U U U U U ?_))⟩
   refine ⟨jn,(tf 16 U U (fun _ _ _=>gG) ?_)⟩
   refine cd kr ?_
   exact hk1 _ ⟨U,(cb (show decide (x.Known≤v1)=(decide (x.At≤v0)&&decide (x.Known≤v1)) from by rw [c1] <;> rfl)),trivial⟩
  ·have c1p:=of_decide_eq_false c1
   refine tk 10 U U (tk 11 U U (tk 12 U U ?_))
   refine tk 13 U U (tf 14 U U (fun _ _ _=>cr U) (tn 4 U (fO (cells:=[I x.Office,I x.Person]) (places:=[(0,1),(1,1)]) Ee zc212 kr kr ?_)))
   refine ⟨jn,(tn 15 U (wS 0 ty212 U U U U U U ?_))⟩
   refine ⟨jn,(tf 16 U U (fun _ _ _=>gG) ?_)⟩
   refine cd kr ?_
   exact hk1 _ ⟨U,(cb (show false=(decide (x.At≤v0)&&decide (x.Known≤v1)) from by rw [c1] <;> rfl)),trivial⟩
 have hs1:ed x v0 v1=((OSeat.mk x.Office x.Person),(decide (x.At≤v0)&&decide (x.Known≤v1))):=hs0
 exact ar [.agg (List.toArray [I x.Office,I x.Person]),.bool (decide (x.At≤v0)&&decide (x.Known≤v1))] Tryz.func155 U hX ⟨⟨0,_,_,_,_,U,U,.inl ⟨ty212,U⟩⟩,U,trivial⟩ (congrArg (fun r:(OSeat×Bool)=>(.tuple #[.agg (OSeat.cells r.1).toArray,.bool r.2]:Value)) hs1.symm)
theorem pr (h:HF) (l:(List Appoint)) (fc:Option Addr) (fb:Nat) (key:(Appoint→OSeat×Bool)) (key_v:Value) (later:(Appoint→Appoint→Bool)) (later_v:Value) (hl:SlC Appoint.rp h fc fb l) (hkey:∀ (h':HF) (cD:Appoint),HF.le h h'→vf Tryz.prog key_v [.agg (Appoint.cells cD).toArray] h' [] (.tuple #[.agg (OSeat.cells ((key cD).1)).toArray,.bool ((key cD).2)])) (hlater:∀ (h':HF) (cD:Appoint) (Jc:Appoint),HF.le h h'→vf Tryz.prog later_v [.agg (Appoint.cells cD).toArray,.agg (Appoint.cells Jc).toArray] h' [] (.bool (later cD Jc))):jP Tryz.prog 156 [.slice fc l.length fb,key_v,later_v] h (fun v h'=>∃ (rk0:Nat),v=.map (some rk0)∧ou OSeat.enc (kp Appoint.rp) h' rk0 (bN l key later)):=by
 refine aw Tryz.func156 U Tryz.ntmps156 U fun X hM hX=>?_
 have hs0:bN l key later=bN l key later:=rfl
 refine sr (an (sr (a8 (oC (fun b1=>an (ad (sr (aa (bE lY U (aa (ac ?_)))))))))))
 refine bq (ι:=Nat×(List (OSeat×Appoint))×Obj) (fun i=>[(7,.map (some b1))]) (fun i=>h) (fun i=>[(b1,i.2.2)]) (fun i=>i.1≤l.length∧bN l key later=((bN.K1) i.2.1)∧gJ OSeat.enc (kp Appoint.rp) h i.2.2 i.2.1∧i.2.1.length≤0+i.1) ?_ (fun hx1=>?_)
 ·rintro ⟨i1,da,km⟩ ⟨bd,hs1,gT,n9⟩ e
  try dsimp only at bd gT n9
  try dsimp only
  refine sr (aa (an ?_))
  refine fV 0 U hM (fun h1 hle1 hb1=>?_)
  have mc1:ou OSeat.enc (kp Appoint.rp) h1 b1 da:=⟨_,hb1,gT.mono (kp.mono Appoint.aJ) hle1⟩
  have hs2:bN l key later=da:=hs1
  exact dQ [.map (some b1)] Tryz.func156 U rd ⟨b1,congrArg (fun r:(List (OSeat×Appoint))=>(.map (some b1):Value)) hs2.symm,(by rw [hs2];exact mc1)⟩
 ·refine ck (ι:=Nat×(List (OSeat×Appoint))×Obj×List Appoint) (fun i=>[(1,key_v),(2,later_v),(7,.map (some b1)),(15,.slice fc l.length fb),(16,I ((l.length:Nat):Int)),(17,I ((i.1:Nat):Int))]) (fun i=>h) (fun i=>[(b1,i.2.2.1)]) (fun i=>l.drop i.1=i.2.2.2∧i.1≤l.length∧bN l key later=((bN.L1 key later (bN.K1)) i.2.2.2 i.2.1)∧gJ OSeat.enc (kp Appoint.rp) h i.2.2.1 i.2.1∧i.2.1.length≤0+i.1) (fun i=>i.2.2.2.length) (0,[],.map #[] 0,l) rd sw ⟨U,Nat.zero_le _,hs0,(gJ.nil (enc:=OSeat.enc) (V:=(kp Appoint.rp)) (h:=h)),lc⟩ ?_
  rintro ⟨i1,da,km,s1⟩ ⟨hd1,bd,hs3,gT,n9⟩ ag1 e
  try dsimp only at hd1 bd gT n9
  rcases s1 with _ | ⟨y1,rz1⟩
  ·have dJ:=cS hd1
   try dsimp only
   refine sr (az (v':=.bool false) U (cb dJ) (ac (ad (ba U (bM U ?_)))))
   exact hx1 (i1,da,km) _ ⟨bd,hs3,gT,lc⟩ rd
  ·have dI:=dV hd1
   have bh:=cU hd1
   have e9:=aP hd1
   have gO:=hl.1.1
   try dsimp only
   refine sr (az (v':=.bool true) U (cb dI) (ac (ad (bj U (ai (ad (aU (sr (a8 (fZ (enc:=Appoint.cells) (fun _ _ _ e=>e) lY ty59 hl.1 (nthZ bh) (bA bh) U U U (fun q2 A2=>?_)))))))))))
   refine dT ty59 A2 U U (bT zc59 (fun b5=>bJ 0 ty59 U U U U U U (ac (sr (aa (dh 0 ty59 U U U (a8 (nv (v:=.tuple #[.agg (OSeat.cells ((key y1).1)).toArray,.bool ((key y1).2)]) [] (List.nil_sublist _) (hkey h y1 (HF.le_refl _)) U U ?_))))))))
   refine aa (bR U U (bR U U (bT zc212 (fun b6=>bJ 0 ty212 U U U U U U (an (sr (aa (dh 0 ty212 U U U (a8 (wT 2 (k:=(key y1).1) FE tj U gT (jr zv59) (show (kp Appoint.rp) _ (.agg (List.toArray [I 0,I 0,I 0,I 0,I 0,I 0,.bool false])) (Appoint.mk 0 0 0 0 0 0 false) from ⟨_,U,U⟩) U U (fun v2 hv2=>?_)))))))))))
   obtain ⟨_,rfl,rfl⟩:=hv2
   refine aa (bR U U (bR U U (bT zc59 (fun b7=>bJ 0 ty59 U U U U U U (an (sr (aa (aa ?_))))))))
   refine tq 10 [(1,key_v),(2,later_v),(7,.map (some b1)),(9,Q b5),(10,Q b6),(15,.slice fc l.length fb),(16,I ((l.length:Nat):Int)),(17,I ((i1:Nat):Int)),(44,.bool ((key y1).2&&((!(mhas da ((key y1).1)))||(!(later (mgetD da ((key y1).1) (Appoint.mk 0 0 0 0 0 0 false)) y1)))))] (fun hk1=>?_) (fun e=>?_)
   ·refine au 34 U (fun c1=>?_) (fun c1=>?_)
    ·refine aa (cR U (aa ?_))
     refine tq 6 [(1,key_v),(2,later_v),(7,.map (some b1)),(9,Q b5),(10,Q b6),(15,.slice fc l.length fb),(16,I ((l.length:Nat):Int)),(17,I ((i1:Nat):Int)),(34,.bool true),(43,.bool ((!(mhas da ((key y1).1)))||(!(later (mgetD da ((key y1).1) (Appoint.mk 0 0 0 0 0 0 false)) y1))))] (fun hk2=>?_) (fun e=>?_)
     ·refine au 37 U (fun c2=>?_) (fun c2=>?_)
      ·refine kq (kq (bY (ae U ?_)))
       exact hk2 _ ⟨U,U,U,U,U,U,U,U,U,(cb (eB c2)),trivial⟩
      ·refine aa (dh 0 ty59 U U U (dh 2 ty59 U U U (a8 (nv (v:=.bool (later (mgetD da ((key y1).1) (Appoint.mk 0 0 0 0 0 0 false)) y1)) [] (List.nil_sublist _) (hlater h (mgetD da ((key y1).1) (Appoint.mk 0 0 0 0 0 0 false)) y1 (HF.le_refl _)) U U ?_))))
       refine cR U (ae U ?_)
       exact hk2 _ ⟨U,U,U,U,U,U,U,U,U,(cb (eE c2)),trivial⟩
     refine ae U ?_
     exact hk1 _ ⟨U,U,U,U,U,U,U,U,(cb (cY c1)),trivial⟩
    ·refine kq (kq (kq (kq (bY (ae U ?_)))))
     exact hk1 _ ⟨U,U,U,U,U,U,U,U,(cb (cZ c1)),trivial⟩
   refine ac ?_
   refine aB U (fun c3=>?_) (fun c3=>?_)
   ·have hs5:=hs3.trans (bt c3)
    refine ah (aa (dh 1 ty212 U U U (dh 2 ty59 U U U (a8 (kg 3 (k:=(key y1).1) (x:=y1) FE tj U gT U U ⟨_,U,U⟩ (fun mo1 hm1=>ac (ao (ah (az (v':=I (((i1+1):Nat):Int)) U (bP ob) ?_)))))))))
    refine aa (ac ?_)
    refine cE (L':=[(b1,mo1)]) js ?_
    exact ag1 ((i1+1),(mput da ((key y1).1) y1),mo1,rz1) _ (Nat.lt_succ_self _) ⟨bF hd1,aP hd1,hs5,hm1,(by have:=gy da ((key y1).1) y1;first | omega | (simp only [List.length_nil,List.length_cons] at *;omega))⟩ rd
   ·have hs6:=hs3.trans (bf c3)
    refine ai (ao (ah (az (v':=I (((i1+1):Nat):Int)) U (bP ob) (aa (ac ?_)))))
    refine cE (L':=[(b1,km)]) js ?_
    exact ag1 ((i1+1),da,km,rz1) _ (Nat.lt_succ_self _) ⟨bF hd1,aP hd1,hs6,gT,lc⟩ rd
theorem qD (h:HF) (a:Appoint) (gI:Appoint)  : Ret Tryz.prog 157 [.agg (Appoint.cells a).toArray,.agg (Appoint.cells gI).toArray] h (.bool (iy a gI)):=by
 refine aw Tryz.func157 U Tryz.ntmps157 U fun X hM hX=>?_
 have hs0:iy a gI=iy a gI:=rfl
 refine sr (dC (fun b1=>dC (fun b2=>an (sr (ay qp U (aL 1 ty3 U U U (ay qp U (aL 0 ty3 U U U (aF U (an ?_))))))))))
 exact ar [.bool (decide (gI.At < a.At))] Tryz.func157 U hX rd (cs hs0)
theorem sB (h:HF) (l:(List Appoint)) (fc:Option Addr) (fb:Nat) (iD:Int) (known:Int) (hl:SlC Appoint.rp h fc fb l):jP Tryz.prog 93 [.slice fc l.length fb,I iD,I known] h (fun v h'=>∃ (rk0:Nat),v=.map (some rk0)∧ou OSeat.enc (kp Appoint.rp) h' rk0 (eV l iD known)):=by
 refine aw Tryz.func93 U Tryz.ntmps93 U fun X hM hX=>?_
 have hs0:eV l iD known=eV l iD known:=rfl
 refine sr (dC (fun b1=>dC (fun b2=>an (sr (cn 1 U hM (fun h1 hle1 hb1=>cn 0 U hM (fun h2 hle2 hb2=>a8 (gj U U (an (sr (aa (aa (a8 (dp Tryz.call156 (pr h2 l fc fb (fun cD=>ed cD iD known) (.func (.func 155) #[] #[Q b1,Q b2]) iy (.func (.func 157) #[] #[]) (hl.mono Appoint.aJ (hle1.t hle2)) (fun h' cD hle =>je Tryz.call155 (qE h' cD iD ⟨b1,0,none⟩ known ⟨b2,0,none⟩  (((dP hb1).mono hle2).mono hle) ((dP hb2).mono hle))) (fun h' cD Jc hle =>je Tryz.call157 (qD h' cD Jc    ))) U (fun v1 h3 hle3 hp1=>?_)))))))))))))))
 obtain ⟨rk1,rfl,mo1⟩:=hp1
 refine an ?_
 have hs1:eV l iD known=(bN l (fun cD=>ed cD iD known) iy):=hs0
 exact dQ [.map (some rk1)] Tryz.func93 U rd ⟨rk1,congrArg (fun r:(List (OSeat×Appoint))=>(.map (some rk1):Value)) hs1.symm,(by rw [hs1];exact mo1)⟩
theorem tg (h:HF) (l:(List Appoint)) (fc:Option Addr) (fb:Nat) (office:Int) (bQ:Int) (known:Int) (hl:SlC Appoint.rp h fc fb l) (hsz:l.length≤2000000):jP Tryz.prog 47 [.slice fc l.length fb,I office,I bQ,I known] h (fun v h'=>∃ (rb0:Option Addr) (rc0:Nat),v=.tuple #[.slice rb0 ((dy l office bQ known).1).length rc0,I ((dy l office bQ known).2)]∧SlC Holder.rp h' rb0 rc0 ((dy l office bQ known).1)):=by
 refine aw Dy U Tryz.ntmps47 U fun X hM hX=>?_
 have hs0:dy l office bQ known=dy l office bQ known:=rfl
 refine sr (bi (an (ad (sr (aa (aA (v:=I (cx l)) Tryz.call51 (pt h l fc fb hl) U (an (sr (aa (aF U (ac ?_)))))))))))
 refine aB U (fun c1=>?_) (fun c1=>?_)
 ·have hs1:=hs0.trans (bt c1)
  refine sr (aa (bi (an ?_)))
  have hs2:dy l office bQ known=([],(cx l)):=hs1
  exact dQ [.slice none 0 0,I (cx l)] Dy U rd ⟨none,0,congrArg (fun r:((List Holder)×Int)=>(.tuple #[.slice none r.1.length 0,I r.2]:Value)) hs2.symm,(by rw [hs2];exact SlC.nil)⟩
 ·have hs3:=hs0.trans (bf c1)
  refine ai (ad (sr (aa (aA (v:=.bool (dM office)) Tryz.call89 (ly h office ) U (cR U (aa ?_))))))
  refine tq 4 [(0,.slice fc l.length fb),(1,I office),(2,I bQ),(3,I known),(22,.bool ((!(dM office))||(!(bH bQ))))] (fun hk1=>?_) (fun e=>?_)
  ·refine au 18 U (fun c2=>?_) (fun c2=>?_)
   ·refine kq (bY (ae U ?_))
    exact hk1 _ ⟨U,U,U,U,(cb (eB c2)),trivial⟩
   ·refine aa (aA (v:=.bool (bH bQ)) Bq (jt h bQ ) U (cR U (ae U ?_)))
    exact hk1 _ ⟨U,U,U,U,(cb (eE c2)),trivial⟩
  refine aa ?_
  refine tq 4 [(0,.slice fc l.length fb),(1,I office),(2,I bQ),(3,I known),(27,.bool (((!(dM office))||(!(bH bQ)))||(!(bH known))))] (fun hk2=>?_) (fun e=>?_)
  ·refine au 23 U (fun c3=>?_) (fun c3=>?_)
   ·refine kq (bY (ae U ?_))
    exact hk2 _ ⟨U,U,U,U,(cb (eB c3)),trivial⟩
   ·refine aa (aA (v:=.bool (bH known)) Bq (jt h known ) U (cR U (ae U ?_)))
    exact hk2 _ ⟨U,U,U,U,(cb (eE c3)),trivial⟩
  refine ac ?_
  refine aB U (fun c4=>?_) (fun c4=>?_)
  ·have hs4:=hs3.trans (bt c4)
   refine sr (bi (an ?_))
   have hs5:dy l office bQ known=([],1):=hs4
   exact dQ [.slice none 0 0,I 1] Dy U rd ⟨none,0,congrArg (fun r:((List Holder)×Int)=>(.tuple #[.slice none r.1.length 0,I r.2]:Value)) hs5.symm,(by rw [hs5];exact SlC.nil)⟩
  ·have hs6:=hs3.trans (bf c4)
   refine ai (sr (aa (aa (aa (a8 (dp Tryz.call93 (sB h l fc fb bQ known hl) U (fun v1 h1 hle1 hp1=>?_)))))))
   obtain ⟨rk1,rfl,mo1⟩:=hp1
   refine aa (a8 (dp Tryz.call92 (te h1 (eV l bQ known) rk1 office mo1 (by have:=pS l bQ known;omega)) U (fun v2 h2 hle2 hp2=>?_)))
   obtain ⟨_,rfl,mo2⟩:=hp2
   refine a8 (dp Tryz.call91 (o9 h2 (ic (eV l bQ known) office) v2 mo2 (by have h1:=pS l bQ known;have h2:=vF (eV l bQ known) office;omega)) U (fun v3 h3 hle3 hp3=>?_))
   obtain ⟨rb1,rc1,rfl,sl1⟩:=hp3
   refine bi (an ?_)
   have hs7:dy l office bQ known=((ft (ic (eV l bQ known) office)),0):=hs6
   exact dQ [.slice rb1 ((ft (ic (eV l bQ known) office)).length) rc1,I 0] Dy U rd ⟨rb1,rc1,congrArg (fun r:((List Holder)×Int)=>(.tuple #[.slice rb1 r.1.length rc1,I r.2]:Value)) hs7.symm,(by rw [hs7];exact sl1)⟩
theorem lJ (h:HF) (q:aS) (jo:gF) (p:Policy) (fp:fh) (bQ:Int) (hq:aS.ok h q jo) (hp:Policy.ok h p fp) (hsm:smR q.Register) (hszp:p.Offices.length≤2000000):jP Tryz.prog 66 [.agg (aS.cells q jo).toArray,.agg (Policy.cells p fp).toArray,I bQ] h (fun v h'=>∃ (rb0:Option Addr) (rc0:Nat),v=.slice rb0 (aD q p bQ).length rc0∧SlC (Rp.sl Holder.rp) h' rb0 rc0 (aD q p bQ)):=by
 refine aw Tryz.func66 U Tryz.ntmps66 U fun X hM hX=>?_
 have hs0:aD q p bQ=aD q p bQ:=rfl
 refine sr (dC (fun b1=>dC (fun b2=>an (ad (sr (ay jO U (aL 0 ty62 U U U (bE kV U (aa (ac ?_))))))))))
 let z2:Nat×Obj:=(b1,O (aS.cells q jo) 77)
 let z3:Nat×Obj:=(b2,O (Policy.cells p fp) 68)
 refine bq (ι:=Nat×(List (List Holder))×Option Addr×Nat×LH×HF) (fun i=>[(6,.slice i.2.2.1 i.2.1.length i.2.2.2.1)]) (fun i=>i.2.2.2.2.2) (fun i=>[z3,z2]++(i.2.2.2.2.1)) (fun i=>i.1≤p.Offices.length∧aD q p bQ=((aD.K1) i.2.1)∧ei (Rp.sl Holder.rp) 101 i.2.2.2.2.2 i.2.1 i.2.2.1 i.2.2.2.1 i.2.2.2.2.1∧i.2.1.length≤0+i.1∧HF.le h i.2.2.2.2.2) ?_ (fun hx1=>?_)
 ·rintro ⟨i1,nn,CB,CA,GS,hh1⟩ ⟨bd,hs1,zZ,GR,hl1⟩ e
  try dsimp only at bd zZ GR hl1
  try dsimp only
  refine sr (aa (an ?_))
  refine gi (Rp.rT Holder.aJ) ([z3,z2]) GS ([]) ap hM zZ (fun h3 hle3 sl3=>?_)
  have hs2:aD q p bQ=nn:=hs1
  exact dQ [.slice CB nn.length CA] Tryz.func66 U rd ⟨CB,CA,congrArg (fun r:(List (List Holder))=>(.slice CB r.length CA:Value)) hs2.symm,(by rw [hs2];exact sl3)⟩
 ·refine ck (ι:=Nat×(List (List Holder))×Option Addr×Nat×LH×HF×List ByteArray) (fun i=>[(2,I bQ),(3,Q b1),(6,.slice i.2.2.1 i.2.1.length i.2.2.2.1),(12,I ((p.Offices.length:Nat):Int)),(13,I ((i.1:Nat):Int))]) (fun i=>i.2.2.2.2.2.1) (fun i=>[z3,z2]++(i.2.2.2.2.1)) (fun i=>p.Offices.drop i.1=i.2.2.2.2.2.2∧i.1≤p.Offices.length∧aD q p bQ=((aD.L1 q bQ (aD.K1)) i.2.2.2.2.2.2 i.1 i.2.1)∧ei (Rp.sl Holder.rp) 101 i.2.2.2.2.2.1 i.2.1 i.2.2.1 i.2.2.2.1 i.2.2.2.2.1∧i.2.1.length≤0+i.1∧HF.le h i.2.2.2.2.2.1) (fun i=>i.2.2.2.2.2.2.length) (0,[],none,0,[],h,p.Offices) rd sw ⟨U,Nat.zero_le _,hs0,ei.nil,lo,(HF.le_refl h)⟩ ?_
  rintro ⟨i1,nn,CB,CA,GS,hh1,s1⟩ ⟨hd1,bd,hs3,zZ,GR,hl1⟩ ag1 e
  try dsimp only at hd1 bd zZ GR hl1
  rcases s1 with _ | ⟨y1,rz1⟩
  ·have dJ:=cS hd1
   try dsimp only
   refine sr (az (v':=.bool false) U (cb dJ) (ac (ad (ba U (bM U ?_)))))
   exact hx1 (i1,nn,CB,CA,GS,hh1) _ ⟨bd,hs3,zZ,lo,hl1⟩ rd
  ·have dI:=dV hd1
   have bh:=cU hd1
   have e9:=aP hd1
   have gO:=hp.Offices.1.1
   try dsimp only
   refine sr (az (v':=.bool true) U (cb dI) (ac (ad (bj U (ai (ad (aU (sr (aa (an (sr (ay qn U (ay nE U (aL 1 ty22 U U U ?_))))))))))))))
   refine aa (aa (ay AP U (aL 1 ty3 U U U (a8 (dp Tryz.call47 (tg hh1 q.Register.Appoints jo.Register.gQ jo.Register.gP ((i1:Nat):Int) bQ q.known (hq.Register.Appoints.mono Appoint.aJ hl1) hsm.2.1) U (fun v2 h4 hle4 hp2=>?_))))))
   obtain ⟨rb2,rc2,rfl,sl4⟩:=hp2
   refine aa (bR U U (bR U U (bi (an (ah (aa (aa (a8 (cf (cells:=[.slice rb2 (((dy q.Register.Appoints ((i1:Nat):Int) bQ q.known).1).length) rc2]) wD ty101 zc101 U U kr (fun b4=>?_))))))))))
   let z1:Nat×Obj:=(b4,O [.slice rb2 (((dy q.Register.Appoints ((i1:Nat):Int) bQ q.known).1).length) rc2] 101)
   refine a8 (eK (Rp.HM Holder.aJ) ([z1,z3,z2]) ([]) (fun G=>[z1,z3,z2]++(G)) ap (fun _=>ap) wD ty101 zc101 U bytes101 (zZ.mono (Rp.rT Holder.aJ) hle4) U U (ff 0 U (show bW (Rp.sl Holder.rp) h4 [.slice rb2 (((dy q.Register.Appoints ((i1:Nat):Int) bQ q.known).1).length) rc2] ([(dy q.Register.Appoints ((i1:Nat):Int) bQ q.known).1]) from ⟨[.slice rb2 (((dy q.Register.Appoints ((i1:Nat):Int) bQ q.known).1).length) rc2],[],U,U,⟨rb2,rc2,U,sl4⟩,U⟩)) lo lo (fun ob2 oc2 G2 gr2=>?_))
   refine an (ao (ah (az (v':=I (((i1+1):Nat):Int)) U (bP ob) (aa (ac ?_)))))
   refine cE (L':=[z3,z2]++(G2)) js ?_
   exact ag1 ((i1+1),(nn++[(dy q.Register.Appoints ((i1:Nat):Int) bQ q.known).1]),ob2,oc2,G2,h4,rz1) _ (Nat.lt_succ_self _) ⟨bF hd1,aP hd1,hs3,gr2,lo,(hl1.t hle4)⟩ rd
theorem mG (h:HF) (q:aS) (jo:gF) (who:(List Int)) (em:Option Addr) (el:Nat) (bQ:Int) (hq:aS.ok h q jo) (hwho:SlC Rp.int h em el who) (hsm:smR q.Register) (hov:okV q.Register.Versions) (hod:(0≤q.doc.At∧q.doc.At≤1099511627776)∧0≤q.doc.Kind) (hsw:who.length≤2000000) (hk:Kinds h):Ret Tryz.prog 30 [.agg (aS.cells q jo).toArray,.slice em who.length el,I bQ] h (.bool (bn q who bQ)):=by
 refine aw Tryz.func30 U Tryz.ntmps30 U fun X hM hX=>?_
 have hs0:bn q who bQ=bn q who bQ:=rfl
 have hjl:=xF q bQ
 have hvl:=hsm.vers.len
 obtain ⟨hod,hdk⟩:=hod
 refine sr (dC (fun b1=>dC (fun b2=>an (ad (sr (aL 0 ty3 U U U (ay mw U (ay oW U (aL 1 ty3 U U U (aF U (aa ?_)))))))))))
 refine tq 6 [(1,.slice em who.length el),(3,Q b1),(5,Q b2),(31,.bool (decide (bQ < q.doc.At)||decide (q.doc.Until≤bQ)))] (fun hk1=>?_) (fun e=>?_)
 ·refine au 25 U (fun c1=>?_) (fun c1=>?_)
  ·refine kq (kq (bY (ae U ?_)))
   exact hk1 _ ⟨U,U,U,(cb (eB c1)),trivial⟩
  ·refine aL 0 ty3 U U U (ay mw U (ay sj U (aL 1 ty3 U U U (aF U (ae U ?_)))))
   exact hk1 _ ⟨U,U,U,(cb (eE c1)),trivial⟩
 refine ac ?_
 refine aB U (fun c2=>?_) (fun c2=>?_)
 ·have hs1:=hs0.trans (bt c2)
  refine sr (an ?_)
  exact ar [.bool false] Tryz.func30 U hX rd (cs hs1)
 ·have hs3:=hs0.trans (bf c2)
  refine ai (sr (cn 1 U hM (fun h1 hle1 hb1=>cn 0 U hM (fun h2 hle2 hb2=>a8 (gj U U (an (sr (aa (a8 (HQ Tryz.call40 (lw h2 who em el (hwho.mono Rp.cm (hle1.t hle2)) (by first | assumption | omega)) U (fun ob1 oc1 G1 gr1=>?_)))))))))))
  refine aa (a8 (qX (v:=.slice ob1 (bx who (fun cD=>bo cD q bQ)).length oc1) ([]) G1 ([]) Tryz.call64 (oZ h2 who ob1 oc1 G1 (fun cD=>bo cD q bQ) (.func (.func 63) #[] #[Q b1,Q b2]) gr1 (fun h' cD hle =>je Tryz.call63 (ph h' cD q jo ⟨b1,0,none⟩ bQ ⟨b2,0,none⟩  ((hq.mono (hle1.t hle2)).mono hle) (((dP hb1).mono hle2).mono hle) ((dP hb2).mono hle) hsm)) (by first | assumption | omega)) ap U (fun G2 gr2=>?_)))
  refine iF (L':=G2) ap (lP Rp.cm ([]) G2 ([]) ap hM gr2 (fun h3 hle3 sl1=>?_))
  refine an (sr (an (sr (dT ty77 ((dP hb1).mono (hle2.t hle3)) U U (eM ty3 ((dP hb2).mono hle3) U (a8 (dp Tryz.call65 (me h3 q jo bQ (hq.mono ((hle1.t hle2).t hle3)) ob (hk.mono ((hle1.t hle2).t hle3))) U (fun v1 h4 hle4 hp1=>?_))))))))
  obtain ⟨rb1,rc1,rfl,sl2⟩:=hp1
  refine aa (bR U U (bR U U (bi (an (ad (sr (aa (bE Bi U (aa (ac ?_))))))))))
  refine bq (ι:=Nat×(List Bool)×Option Addr×Nat×LH×HF) (fun i=>[(9,.slice i.2.2.1 i.2.1.length i.2.2.2.1),(11,I ((av q bQ).2))]) (fun i=>i.2.2.2.2.2) (fun i=>i.2.2.2.2.1) (fun i=>i.1≤((av q bQ).1).length∧bn q who bQ=((bn.K1 q bQ) i.2.1)∧ei Rp.bool 4 i.2.2.2.2.2 i.2.1 i.2.2.1 i.2.2.2.1 i.2.2.2.2.1∧i.2.1.length≤0+i.1∧HF.le h4 i.2.2.2.2.2) ?_ (fun hx1=>?_)
  ·rintro ⟨i1,pg,Cz,Cy,EJ,hh1⟩ ⟨bd,hs4,yg,GQ,hl1⟩ e
   try dsimp only at bd yg GQ hl1
   try dsimp only
   refine sr (aa (aa (lP Rp.vc ([]) EJ ([]) ap hM yg (fun h5 hle5 sl3=>aA (v:=.tuple #[.bool ((fw ((av q bQ).2) pg).1),I ((fw ((av q bQ).2) pg).2)]) Tryz.call49 (sY h5 ((av q bQ).2) pg Cz Cy sl3 ob) U ?_))))
   refine aa (bR U U (bR U U (bi (an (sr (aa (aa ?_)))))))
   refine tq 3 [(106,.bool ((fw ((av q bQ).2) pg).1&&((fw ((av q bQ).2) pg).2==0)))] (fun hk2=>?_) (fun e=>?_)
   ·refine au 103 U (fun c3=>?_) (fun c3=>?_)
    ·refine aa (aF U (ae U ?_))
     exact hk2 _ ⟨(cb (cY c3)),trivial⟩
    ·refine kq (ae U ?_)
     exact hk2 _ ⟨(cb (cZ c3)),trivial⟩
   refine an ?_
   exact ar [.bool ((fw ((av q bQ).2) pg).1&&((fw ((av q bQ).2) pg).2==0))] Tryz.func30 U hX rd (cs hs4)
  ·refine ck (ι:=Nat×(List Bool)×Option Addr×Nat×LH×HF×List Policy) (fun i=>[(3,Q b1),(5,Q b2),(8,.slice ob1 ((bx who (fun cD=>bo cD q bQ)).length) oc1),(9,.slice i.2.2.1 i.2.1.length i.2.2.2.1),(11,I ((av q bQ).2)),(43,.slice rb1 (((av q bQ).1).length) rc1),(44,I ((((av q bQ).1).length:Nat):Int)),(45,I ((i.1:Nat):Int))]) (fun i=>i.2.2.2.2.2.1) (fun i=>i.2.2.2.2.1) (fun i=>((av q bQ).1).drop i.1=i.2.2.2.2.2.2∧i.1≤((av q bQ).1).length∧bn q who bQ=((bn.L1 q who bQ (bn.K1 q bQ)) i.2.2.2.2.2.2 i.2.1)∧ei Rp.bool 4 i.2.2.2.2.2.1 i.2.1 i.2.2.1 i.2.2.2.1 i.2.2.2.2.1∧i.2.1.length≤0+i.1∧HF.le h4 i.2.2.2.2.2.1) (fun i=>i.2.2.2.2.2.2.length) (0,[],none,0,[],h4,(av q bQ).1) rd sw ⟨U,Nat.zero_le _,hs3,ei.nil,lo,(HF.le_refl h4)⟩ ?_
   rintro ⟨i1,pg,Cz,Cy,EJ,hh1,s1⟩ ⟨hd1,bd,hs6,yg,GQ,hl1⟩ ag1 e
   try dsimp only at hd1 bd yg GQ hl1
   rcases s1 with _ | ⟨y1,rz1⟩
   ·have dJ:=cS hd1
    try dsimp only
    refine sr (az (v':=.bool false) U (cb dJ) (ac (ad (ba U (bM U ?_)))))
    exact hx1 (i1,pg,Cz,Cy,EJ,hh1) _ ⟨bd,hs6,yg,lo,hl1⟩ rd
   ·have dI:=dV hd1
    have bh:=cU hd1
    have e9:=aP hd1
    have gO:=sl2.1.1
    obtain ⟨v_,hv_,hve_⟩:=qe (gm hd1)
    have hsp:=hsm.vers.2 v_ hv_
    rw [hve_] at hsp
    have hvt:=hov.2 v_ hv_
    rw [hve_] at hvt
    have hofl:=hsp.2.2.2.1
    try dsimp only
    refine sr (az (v':=.bool true) U (cb dI) (ac (ad (bj U (ai (ad (aU (sr (a8 (gX Bi ty68 (sl2.mono Policy.aJ hl1).1 (nthZ bh) (bA bh) U U U (fun q3 cs3 A3 ln3 rr3=>?_)))))))))))
    obtain ⟨r3,rfl,ok3⟩:=rr3
    refine dT ty68 A3 U U (bT zc68 (fun b4=>bJ 0 ty68 U U U U U U (iF (L':=[(b4,O (Policy.cells y1 r3) 68)]++(EJ)) U (ac (sr (ay mw U (ay uj U (ns (j:=9) ty3 ((dP hb1).mono (((hle2.t hle3).t hle4).t hl1)) U U ?_))))))))
    refine an (ad ?_)
    refine mL [(3,Q b1),(5,Q b2),(8,.slice ob1 ((bx who (fun cD=>bo cD q bQ)).length) oc1),(9,.slice Cz pg.length Cy),(11,I ((av q bQ).2)),(13,Q b4),(14,I q.doc.Kind),(15,.bool (decide (q.doc.Kind < ((y1.Rules.length:Nat):Int))&&decide ((q.doc.At+(nthI y1.Rules q.doc.Kind).Think)≤bQ))),(43,.slice rb1 (((av q bQ).1).length) rc1),(44,I ((((av q bQ).1).length:Nat):Int)),(45,I ((i1:Nat):Int))] (fun e=>?_) (fun hk3=>?_)
    rotate_left
    ·refine gr ([(b4,O (Policy.cells y1 r3) 68)]) mixed kr jn (fun fd _=>?_)
     refine tm 0 U (tf 1 U U (fun _ _ _=>dO fC U) (tf 2 U U (fun _ _ hj=>hY ty63 U (hj.nth (i:=0) U) U) ?_))
     refine tf 3 U U (fun _ _ _=>Gp jV U) (tf 4 U U (fun _ _ _=>iH U) (tm 5 U ?_))
     refine eI 57 U (fun c4=>?_) (fun c4=>?_)
     ·have c4p:=of_decide_eq_true c4
      refine tf 6 U U (fun _ _ hj=>gu ty3 (((dP hb2).mono ((hle3.t hle4).t hl1)).mono hj.1) U) (tf 7 U U (fun _ _ _=>dO mw U) ?_)
      refine tf 8 U U (fun _ _ _=>dO oW U) (tf 9 U U (fun _ _ hj=>vv 8 ty3 (((dP hb1).mono (((hle2.t hle3).t hle4).t hl1)).mono hj.1) U U) ?_)
      refine tf 10 U U (fun _ _ _=>dO fC U) (tf 11 U U (fun _ _ hj=>hY ty63 U (hj.nth (i:=0) U) U) ?_)
      refine tm 12 U ?_
      have ho2:0≤(q.doc.Kind:Int)∧(q.doc.Kind:Int) < ((y1.Rules).length:Int):=ob
      refine jC 13 fd jn jV ty107 ok3.Rules.1 ho2 (eN ho2) U U U U kr (fun q4 cs4 A4 ln4 rr4=>?_)
      obtain ⟨r4,rfl,ok4⟩:=rr4
      refine tf 14 U U (fun _ _ _=>dO og U) (tf 15 U U (fun _ _ hj=>vv 2 ty3 (A4.mono hj.1) U U) ?_)
      refine tf 16 U U (fun _ _ _=>nl (v':=I (q.doc.At+(nthI y1.Rules q.doc.Kind).Think)) U (iZ (by first | omega | (have hth:=hvt.2 _ (ki ob);omega)))) ?_
      refine tf 17 U U (fun _ _ _=>iH U) (tf 18 U U (fun _ _ _=>cr U) (tf 19 U U (fun _ _ _=>gG) ?_))
      refine cd kr ?_
      exact hk3 _ ⟨U,U,U,U,U,U,U,(cb (show decide ((q.doc.At+(nthI y1.Rules q.doc.Kind).Think)≤bQ)=(decide (q.doc.Kind < ((y1.Rules.length:Nat):Int))&&decide ((q.doc.At+(nthI y1.Rules q.doc.Kind).Think)≤bQ)) from by rw [c4] <;> rfl)),U,U,U,trivial⟩
     ·have c4p:=of_decide_eq_false c4
      refine tk 6 U U (tk 7 U U (tk 8 U U ?_))
      refine tk 9 U U (tk 10 U U (tk 11 U U ?_))
      refine tk 12 U U (tk 13 U U (tk 14 U U ?_))
      refine tk 15 U U (tk 16 U U (tk 17 U U ?_))
      refine tf 18 U U (fun _ _ _=>cr U) (tf 19 U U (fun _ _ _=>gG) (cd kr ?_))
      exact hk3 _ ⟨U,U,U,U,U,U,U,(cb (show false=(decide (q.doc.Kind < ((y1.Rules.length:Nat):Int))&&decide ((q.doc.At+(nthI y1.Rules q.doc.Kind).Think)≤bQ)) from by rw [c4] <;> rfl)),U,U,U,trivial⟩
    refine ad (sr (aa (ac ?_)))
    refine aB U (fun c5=>?_) (fun c5=>?_)
    ·have hs8:=hs6.trans (bt c5)
     refine ad ?_
     let z1:Nat×Obj:=(b4,O (Policy.cells y1 r3) 68)
     refine gr ([z1]) mixed kr jn (fun xK _=>?_)
     refine tf 0 U U (fun _ _ hj=>kZ ty68 U (hj.nth (i:=0) U) U) (tm 1 U (tf 2 U U (fun _ _ _=>dO mw U) ?_))
     refine tf 3 U U (fun _ _ _=>dO ui U) (tf 4 U U (fun _ _ hj=>vv 10 ty3 (((dP hb1).mono (((hle2.t hle3).t hle4).t hl1)).mono hj.1) U U) ?_)
     refine tf 5 U U (fun _ _ hj=>j8 ty77 (((dP hb1).mono (((hle2.t hle3).t hle4).t hl1)).mono hj.1) U U) (tf 6 U U (fun _ _ hj=>kZ ty68 U (hj.nth (i:=0) U) U) ?_)
     refine tf 7 U U (fun _ _ hj=>gu ty3 (((dP hb2).mono ((hle3.t hle4).t hl1)).mono hj.1) U) (tm 9 U ?_)
     refine tn 8 U (dp Tryz.call66 (lJ hh1 q jo y1 r3 bQ (hq.mono ((((hle1.t hle2).t hle3).t hle4).t hl1)) ok3 ob ob) U (fun v2 h6 hle6 hp2=>?_))
     obtain ⟨rb2,rc2,rfl,sl4⟩:=hp2
     refine ⟨⟨hle6,fun _ hp=>List.Sublist.subset js hp⟩,vl (K2:=[z1]) hle6 (fun _ hp=>hp) (tn 10 U (fU (v:=.tuple #[.bool ((cp y1 q.doc.Kind q.doc.Value (aD q y1 bQ) (bx who (fun cD=>bo cD q bQ))).1),I ((cp y1 q.doc.Kind q.doc.Value (aD q y1 bQ) (bx who (fun cD=>bo cD q bQ))).2)]) Tryz.call48 (tc h6 y1 r3 q.doc.Kind q.doc.Value (aD q y1 bQ) rb2 rc2 (bx who (fun cD=>bo cD q bQ)) ob1 oc1 (ok3.mono hle6) sl4 (sl1.mono Rp.cm ((hle4.t hl1).t hle6)) ob (rj hsm.2.1 _ _) (Nat.le_trans (Fm _ _) hsw) (hk.mono (((((hle1.t hle2).t hle3).t hle4).t hl1).t hle6))) U ?_))⟩
     refine ⟨jn,(tm 11 U ?_)⟩
     refine tf 12 U U (fun _ _ _=>rW U U) (tf 13 U U (fun _ _ _=>rW U U) (tf 14 U U (fun _ _ _=>gG) ?_))
     refine tf 15 U U (fun _ _ _=>gG) (cd kr ?_)
     refine ah (aa (aa ?_))
     refine tq 3 [(3,Q b1),(5,Q b2),(8,.slice ob1 ((bx who (fun cD=>bo cD q bQ)).length) oc1),(9,.slice Cz pg.length Cy),(11,I ((av q bQ).2)),(43,.slice rb1 (((av q bQ).1).length) rc1),(44,I ((((av q bQ).1).length:Nat):Int)),(45,I ((i1:Nat):Int)),(90,.bool ((cp y1 q.doc.Kind q.doc.Value (aD q y1 bQ) (bx who (fun cD=>bo cD q bQ))).1&&((cp y1 q.doc.Kind q.doc.Value (aD q y1 bQ) (bx who (fun cD=>bo cD q bQ))).2==0)))] (fun hk4=>?_) (fun e=>?_)
     ·refine au 87 U (fun c6=>?_) (fun c6=>?_)
      ·refine aa (aF U (ae U ?_))
       exact hk4 _ ⟨U,U,U,U,U,U,U,U,(cb (cY c6)),trivial⟩
      ·refine kq (ae U ?_)
       exact hk4 _ ⟨U,U,U,U,U,U,U,U,(cb (cZ c6)),trivial⟩
     refine an (ah (aa (aa (a8 (cf (cells:=[.bool ((cp y1 q.doc.Kind q.doc.Value (aD q y1 bQ) (bx who (fun cD=>bo cD q bQ))).1&&((cp y1 q.doc.Kind q.doc.Value (aD q y1 bQ) (bx who (fun cD=>bo cD q bQ))).2==0))]) qS ty4 zc4 U U kr (fun b5=>?_))))))
     refine a8 (eK Rp.Ae ([(b5,O [.bool ((cp y1 q.doc.Kind q.doc.Value (aD q y1 bQ) (bx who (fun cD=>bo cD q bQ))).1&&((cp y1 q.doc.Kind q.doc.Value (aD q y1 bQ) (bx who (fun cD=>bo cD q bQ))).2==0))] 4),z1]) ([]) (fun G=>[(b5,O [.bool ((cp y1 q.doc.Kind q.doc.Value (aD q y1 bQ) (bx who (fun cD=>bo cD q bQ))).1&&((cp y1 q.doc.Kind q.doc.Value (aD q y1 bQ) (bx who (fun cD=>bo cD q bQ))).2==0))] 4),z1]++(G)) ap (fun _=>ap) qS ty4 zc4 U bytes4 (yg.mono Rp.vc hle6) U U (ff 0 U (show bW Rp.bool h6 [.bool ((cp y1 q.doc.Kind q.doc.Value (aD q y1 bQ) (bx who (fun cD=>bo cD q bQ))).1&&((cp y1 q.doc.Kind q.doc.Value (aD q y1 bQ) (bx who (fun cD=>bo cD q bQ))).2==0))] ([((cp y1 q.doc.Kind q.doc.Value (aD q y1 bQ) (bx who (fun cD=>bo cD q bQ))).1&&((cp y1 q.doc.Kind q.doc.Value (aD q y1 bQ) (bx who (fun cD=>bo cD q bQ))).2==0))]) from ⟨[.bool ((cp y1 q.doc.Kind q.doc.Value (aD q y1 bQ) (bx who (fun cD=>bo cD q bQ))).1&&((cp y1 q.doc.Kind q.doc.Value (aD q y1 bQ) (bx who (fun cD=>bo cD q bQ))).2==0))],[],U,U,U,U⟩)) lo lo (fun ob2 oc2 G3 gr3=>?_))
     refine an (ao (ah (az (v':=I (((i1+1):Nat):Int)) U (bP (by first | omega | (have hth:=hvt.2 _ (ki ob);omega))) (aa (ac ?_)))))
     refine cE (L':=G3) js ?_
     exact ag1 ((i1+1),(pg++[((cp y1 q.doc.Kind q.doc.Value (aD q y1 bQ) (bx who (fun cD=>bo cD q bQ))).1&&((cp y1 q.doc.Kind q.doc.Value (aD q y1 bQ) (bx who (fun cD=>bo cD q bQ))).2==0))]),ob2,oc2,G3,h6,rz1) _ (Nat.lt_succ_self _) ⟨bF hd1,aP hd1,hs8,gr3,lo,(hl1.t hle6)⟩ rd
    ·have hs9:=hs6.trans (bf c5)
     refine ai (ah (aa (aa (a8 (cf (cells:=[.bool (decide (q.doc.Kind < ((y1.Rules.length:Nat):Int))&&decide ((q.doc.At+(nthI y1.Rules q.doc.Kind).Think)≤bQ))]) qS ty4 zc4 U U kr (fun b6=>a8 (eK Rp.Ae ([(b6,O [.bool (decide (q.doc.Kind < ((y1.Rules.length:Nat):Int))&&decide ((q.doc.At+(nthI y1.Rules q.doc.Kind).Think)≤bQ))] 4),(b4,O (Policy.cells y1 r3) 68)]) ([]) (fun G=>[(b6,O [.bool (decide (q.doc.Kind < ((y1.Rules.length:Nat):Int))&&decide ((q.doc.At+(nthI y1.Rules q.doc.Kind).Think)≤bQ))] 4),(b4,O (Policy.cells y1 r3) 68)]++(G)) ap (fun _=>ap) qS ty4 zc4 U bytes4 yg U U (ff 0 U (show bW Rp.bool hh1 [.bool (decide (q.doc.Kind < ((y1.Rules.length:Nat):Int))&&decide ((q.doc.At+(nthI y1.Rules q.doc.Kind).Think)≤bQ))] ([(decide (q.doc.Kind < ((y1.Rules.length:Nat):Int))&&decide ((q.doc.At+(nthI y1.Rules q.doc.Kind).Think)≤bQ))]) from ⟨[.bool (decide (q.doc.Kind < ((y1.Rules.length:Nat):Int))&&decide ((q.doc.At+(nthI y1.Rules q.doc.Kind).Think)≤bQ))],[],U,U,U,U⟩)) lo lo (fun ob3 oc3 G4 gr4=>?_))))))))
     refine an (ao (ah (az (v':=I (((i1+1):Nat):Int)) U (bP (by first | omega | (have hth:=hvt.2 _ (ki ob);omega))) (aa (ac ?_)))))
     refine cE (L':=G4) js ?_
     exact ag1 ((i1+1),(pg++[(decide (q.doc.Kind < ((y1.Rules.length:Nat):Int))&&decide ((q.doc.At+(nthI y1.Rules q.doc.Kind).Think)≤bQ))]),ob3,oc3,G4,hh1,rz1) _ (Nat.lt_succ_self _) ⟨bF hd1,aP hd1,hs9,gr4,lo,hl1⟩ rd
end Go.Sg
