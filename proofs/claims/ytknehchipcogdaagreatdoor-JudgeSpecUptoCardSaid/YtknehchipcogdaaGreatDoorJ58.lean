import Derived.Shelf.SlSortCmp.NoneTotal
import Derived.WalkKit
import Derived.Test.YtknehchipcogdaaGreatDoorJ56
/- Part of JudgeSpec. -/
set_option linter.unusedVariables false
set_option linter.unusedSimpArgs false
set_option maxRecDepth 100000
open List renaming length_cons→xA,not_mem_nil→vA,length_append→kA,length_nil→xB,toArray→vB,mem_singleton→kB,mem_cons→vC,mem_append→qE,foldl_cons→zK,ext_getElem?→YA
open Go.Sg.Rp renaming int→jB,bG→vJ,bool→vV,fR→XZ
open Go.Value renaming int→jC,bool→vT
open Go.Sg.HF renaming le_trans→xD,le_refl→vF
open Nat renaming le_refl→zE,zero_le→kJ,lt_or_ge→vR
open Go.Sg.OSeat renaming cells→jE,enc→jS,rp→Zk
open Go.Sg.Stp renaming mono→Y7
namespace Go.Sg
section
open Go.Proofs Go.Proofs.Tryz
set_option maxHeartbeats 4000000
theorem Iu(h l eP eO gv bQ j7 j6 aU ad)(hl:SlC av.rp h eP eO l)(vv:SlC jB h j7 j6 bQ):Ret prog 245 [.slice eP l.length eO,I gv,.slice j7 bQ.length j6,I aU,I ad] h (I (lg l gv bQ aU ad)):=by
 refine sVv func245 ntmps245 ?_
 generalize hz:(lg l gv bQ aU ad)=z
 exact W
theorem EV(h l eP eO aI aT ad)(hl:SlC aA.rp h eP eO l):j0 prog 198 [.slice eP l.length eO,I aI,I aT,I ad] h (λv h'=>∃(rb0:Option Addr)(rc0:Nat),v=.tuple #[.slice rb0 ((dP l aI aT ad).1).length rc0,I ((dP l aI aT ad).2)]/\SlC aV.rp h' rb0 rc0 ((dP l aI aT ad).1)):=by
 refine sVv func198 ntmps198 ?_
 generalize hz:(dP l aI aT ad)=z
 have q0:=@KJ
 have HA:=lM [0,1,2,3] 12 (.mG 11 aV.rp 284 .mE) (λs0 i w=>((dP.L1 l aI aT ad (dP.K1)) s0 i w.1))
 exact W
end
end Go.Sg
namespace Go.Proofs
open Go.Shelf Go.RowKit Go.Lib Go.Sort
set_option maxHeartbeats 1000000 in
theorem Tryz.closure178(x y:Go.Sg.OSeat)(W:World):Calls Tryz.prog 339 #[.agg (Go.Sg.OSeat.cells x).toArray,.agg (Go.Sg.OSeat.cells y).toArray] W λe w'=>e=.returned (.int .i64 (Lib.compareInt x.bu y.bu))/\∃q os',w'=grow (W.drewN q) os':=by
 have hcon:=λW'=>Tryz.cmp_Compare_int x.bu y.bu W'
 generalize Lib.compareInt x.bu y.bu=r at hcon ⊢
 unfold Go.Sg.OSeat.cells
 go_enter Tryz.func339,Tryz.ntmps339
 go_wp2_with (go_at_call 86;refine(hcon _).mono ?_;rintro e w' ⟨rfl,rfl⟩)
 go_ret
 exact⟨rfl,0,_,by rw[alloc_eq_grow,alloc_eq_grow,grow_grow];rfl⟩
theorem Tryz.ltSeat(x y:Go.Sg.OSeat):ltOf (λx y:Go.Sg.OSeat=>Lib.compareInt x.bu y.bu) x y=decide (x.bu<y.bu):=by grind [ltOf,Lib.compareInt]
theorem Tryz.swoSeat:SWO (ltOf λx y:Go.Sg.OSeat=>Lib.compareInt x.bu y.bu) where
 irrefl x:=by rw[Tryz.ltSeat];simp
 trans x y z h1 h2:=by rw[Tryz.ltSeat]at *;simp at *;omega
 ntrans x y z h1 h2:=by rw[Tryz.ltSeat]at *;simp at *;omega
end Go.Proofs
namespace Go.Sg
variable {n:Nat}{os:Array Obj}{w:World}
section
open Go.Proofs Go.Proofs.Tryz Go.RowKit Go.Sort
theorem FH{h:HF}:∀{cl:List Value}{xs:List OSeat},bW Zk h cl xs->cl=xs.flatMap jE
 |_,[],hc=>hc
 |_,x::xs,⟨cs,rest,e,_,hr,hc⟩=>by
  have:cs=jE x:=hr
  rw[e,this,FH hc];rfl
theorem Gr(h:HF):∀xs:List OSeat,bW Zk h (xs.flatMap jE) xs
 |[]=>rfl
 |x::xs=>⟨jE x,xs.flatMap jE,rfl,rfl,rfl,Gr h xs⟩
theorem Lx:∀(xs:List OSeat)(j:Nat),j<xs.length*2->(xs.flatMap jE)[j]? = some ((jE (xs.getD (j/2) default)).getD (j%2) undef)
 |[],j,hj=>by simp at hj
 |x::xs,0,_=>by simp[jE]
 |x::xs,1,_=>by simp[jE]
 |x::xs,j+2,hj=>by
  have ih:=Lx xs j (by simp at hj;omega)
  grind [jE,xA,xB]
theorem uP(xs:List OSeat):(xs.flatMap jE).length=xs.length*2:=by
 induction xs with
 |nil=>rfl
 |cons x xs ih=>rw[List.flatMap_cons,kA,ih];simp[jE];omega
theorem JU(xs:List OSeat):(flatK jE 2 xs.toArray).toList=xs.flatMap jE:=by
 apply YA
 intro j
 rcases vR j (xs.length*2)with hj|hj
 .rw[Lx xs j hj]
  have h1:=get_flatK jE 2 xs.toArray j (by simpa using hj)
  have h2:j<(flatK jE 2 xs.toArray).size:=by rw[size_flatK];simpa using hj
  grind [List.getD,jE]
 .rw[List.getElem?_eq_none (by rw[Array.length_toList,size_flatK];simpa using hj),List.getElem?_eq_none (by rw[uP];exact hj)]
theorem OX(F cur:Array Value)(h:F.size<=cur.size):(putCells id 0 F cur).toList=F.toList++cur.toList.drop F.size:=by
 apply YA
 grind [putCells]
theorem UB{g:Nat}{cur:Array Value}{e:TypeId}{fr:Nat×Nat}(d:Array Value)(hb:w.heap[g]? = some (.cells cur e fr)):
  (grow (putRow id (Sort.ahead w n) g 0 d) os).heap[g]? = some (.cells (putCells id 0 d cur) e fr):=by
 have hg:g<w.heap.size:=(Array.getElem?_eq_some_iff.1 hb).1
 rw[heap_grow_old _ _ (by simpa using hg)]
 grind [putRow,mapBlock,Sort.ahead,onCells]
theorem ST{g:Nat}(d:Array Value):(grow (putRow id (Sort.ahead w n) g 0 d) os).os=w.os/\(grow (putRow id (Sort.ahead w n) g 0 d) os).tape=w.tape/\(grow (putRow id (Sort.ahead w n) g 0 d) os).output=w.output /\
  w.heap.size<=(grow (putRow id (Sort.ahead w n) g 0 d) os).heap.size/\∀k,k<w.heap.size->k≠g->(grow (putRow id (Sort.ahead w n) g 0 d) os).heap[k]? = w.heap[k]?:=by
 refine⟨rfl,rfl,rfl,by simp[putRow,mapBlock,Sort.ahead],λk hk hne=>?_⟩
 rw[heap_grow_old _ _ (by simpa using hk)]
 grind [putRow,mapBlock,Sort.ahead]
theorem xu(h:HF)(xs:List OSeat)(b:Option Addr)(c:Nat)(G:LH)(hG:di Zk 325 h xs b c G)(hsz:xs.length<=1000000000000):
  qf prog 387 [.slice b xs.length c,.func (.func 339) #[] #[]].toArray h G (λr h' G'=>h'=h/\r=.returned (.tuple #[])/\∃ys,ys.Perm xs/\ys.Pairwise (λx y=>x.bu<=y.bu)/\di Zk 325 h ys b c G'):=by
 intro w hp
 rcases hG with⟨rfl,rfl,rfl,rfl⟩|⟨bk,cl,sp,rfl,hcl,hlen,hcap,hmax,rfl⟩
 .refine(mZ (AnyF.slices_SortFunc_none Tryz.sortSeat none 0 (.func (.func 339) #[] #[]) w) (λw' hw=>by cases hw.1)).mono ?_
  rintro e w' ⟨rfl,rfl⟩
  exact⟨h,[],St.start hp,rfl,rfl,[],List.Perm.refl _,List.Pairwise.nil,di.nil⟩
 .have hb:=hp.own _ (kB.2 rfl)
  simp only at hb
  have hcl':=FH hcl
  subst hcl'
  have hfl:=JU xs
  have hH:HoldsK jE 2 w bk 0 xs.toArray:=by
   intro j hj
   rw[size_flatK]at hj
   have hj':j<xs.length*2:=by simpa using hj
   refine⟨?_,by simp[World.frozen?,hb]⟩
   have h2:j<(flatK jE 2 xs.toArray).size:=by rw[size_flatK];exact hj
   have h3:(flatK jE 2 xs.toArray).toList[j]? = some (flatK jE 2 xs.toArray)[j]!:=by
    rw[Array.getElem?_toList,Array.getElem?_eq_getElem h2,getElem!_pos _ j h2]
   rw[hfl]at h3
   have h4:(xs.flatMap jE++sp)[j]? = some (flatK jE 2 xs.toArray)[j]!:=by
    rw[List.getElem?_append_left (by rw[uP];exact hj')];exact h3
   simp only[World.cell?,hb,Nat.zero_add]
   simpa using h4
  have eg:∀args w,(callFunc 339 args).run prog w=.ok (.enter 339 args) w:=call339
  have hcall:=AnyQ.slices_SortFunc Tryz.sortSeat 2 Tryz.isAgg325 Tryz.sizeOf325 jE (λ_=>rfl) (λx v hv=>by simp[jE]at hv;rcases hv with rfl|rfl<;>rfl)
   (λx y=>Lib.compareInt x.bu y.bu) Tryz.swoSeat 339 #[] bk 0 c xs.toArray w eg (λ_ _ _ _ x y=>Tryz.closure178 x y _) hH (jX hb) (by simp;omega)
  change Calls prog 387 _ _ _ at hcall
  rw[List.size_toArray]at hcall
  refine(mZ hcall (λw' hw=>by cases hw.1)).mono ?_
  rintro e w' ⟨rfl,d',n,os,⟨hds,_,hperm⟩,hsorted,rfl⟩
  have hds':d'.size=xs.length:=by simpa using hds
  have hF:(flatK jE 2 d').toList=d'.toList.flatMap jE:=by have:=JU d'.toList;simpa using this
  have hFs:(flatK jE 2 d').size=xs.length*2:=by rw[size_flatK,hds']
  obtain⟨g1,g2,g3,g4,g5⟩:=ST (w:=w) (g:=bk) (n:=n) (os:=os) (flatK jE 2 d')
  have hnew:=UB (w:=w) (g:=bk) (n:=n) (os:=os) (flatK jE 2 d') hb
  have hcur:(putCells id 0 (flatK jE 2 d') (xs.flatMap jE++sp).toArray).toList=d'.toList.flatMap jE++sp:=by
   rw[OX _ _ (by rw[hFs,←uP];simp),hF,hFs]
   congr 1
   rw[←uP]
   exact List.drop_left' rfl
  have hcur':putCells id 0 (flatK jE 2 d') (xs.flatMap jE++sp).toArray=(d'.toList.flatMap jE++sp).toArray:=by rw[←hcur]
  rw[hcur']at hnew
  have hperm':d'.toList.Perm xs:=by
   have e1:d'.extract 0 xs.length=d':=by rw[←hds'];simp
   have e2:xs.toArray.extract 0 xs.length=xs.toArray:=by simp
   rw[e1,e2]at hperm;exact hperm
  refine⟨h,[(bk,.cells (d'.toList.flatMap jE++sp).toArray 325 (0,0))],⟨g1,g2,g3,g4,λk hk hM=>g5 k hk (λe=>hM (by subst e;simp)),λ_ _ e=>e,λ_ _=>rfl,λk o e=>?_,λq hq=>?_,?_,?_,?_⟩,rfl,rfl,d'.toList,hperm',?_,?_⟩
  .have hne:k≠bk:=λe'=>by
    have:=hp.free _ (kB.2 rfl)
    simp only at this
    rw[e',this]at e;cases e
   exact(g5 k (jX (hp.imm k o e)) hne).trans (hp.imm k o e)
  .rw[kB.1 hq];exact hnew
  .simp
  .intro q hq;rw[kB.1 hq];exact hp.free (bk,Obj.cells (xs.flatMap jE++sp).toArray 325 (0,0)) (kB.2 rfl)
  .intro q hq;rw[kB.1 hq];exact .inr (by simp)
  .rw[List.pairwise_iff_getElem]
   intro i j hi hj hij
   have hj':j<d'.size:=by simpa using hj
   have hi':i<d'.size:=by simpa using hi
   have:=hsorted i j (kJ _) hij (by omega)
   rw[Tryz.ltSeat,getElem!_pos _ j hj',getElem!_pos _ i hi']at this
   simp only[Array.getElem_toList]
   simpa using this
  .refine .inr ⟨bk,d'.toList.flatMap jE,sp,rfl,Gr h _,?_,?_,?_,rfl⟩
   .rw[kA,uP,hperm'.length_eq,←uP,←kA];exact hlen
   .rw[hperm'.length_eq];exact hcap
   .rw[hperm'.length_eq];exact hmax
theorem wU(h:HF)(it:Value)(ks:List OSeat)(hit:Kk prog it (λ(k:OSeat)(_:HF)(vs:List Value)=>vs=[jS k]) (λxs=>xs.Perm ks) h)(hk:ks.length<=1000000000000):
  j0 prog 340 [it,.func (.func 339) #[] #[]] h (λv h'=>∃(b:Option Addr)(c:Nat)(ys:List OSeat),ys.Perm ks/\ys.Pairwise (λx y=>x.bu<=y.bu)/\v=.slice b ys.length c/\SlC Zk h' b c ys):=by
 refine el func340 rfl ntmps340 rfl λX hM hX=>?_
 refine eI (cB (jj (ck (eI (cB (dU ?_))))))
 refine aS (DG call386 (Kn h it _ hit (λxs hx=>by rw[hx.length_eq];exact hk)) rfl (λh' xs bb c G eT hxs hG=>?_))
 refine jj (ck (eI (cB (dU (dU ?_)))))
 refine aS (pT [] G [] call387 (xu h' xs bb c G hG (by rw[hxs.length_eq];exact hk)) (by simp) rfl (λG' hG'=>?_))
 obtain⟨ys,hp,hs,hG'⟩:=hG'
 refine ck (eI (cB (dU (jj (ck ?_)))))
 refine jz OSeat.aB [] G' [] (by simp) hM hG' (λh2 kF sl=>?_)
 exact mK [.slice bb xs.length c] func340 rfl ⟨rfl,trivial⟩ ⟨bb,c,ys,hp.trans hxs,hs,by rw[hp.length_eq];rfl,sl⟩
end
variable {m3:List (Int×Option Addr×Nat×Nat)}{om:Obj}
section
open Go.Proofs Go.Proofs.Tryz
set_option maxHeartbeats 4000000
theorem Dk(h)(x:ae):Ret prog 87 [.agg (ae.cells x).toArray] h (.bool (lA x)):=by
 refine sVv func87 ntmps87 ?_
 generalize hz:(lA x)=z
 exact W
instance k87:Ct 87:=⟨_,call87,@Dk⟩
theorem AR(h)(m:List (OSeat×aA))(RT m_q aI office_q)(hm:uN jS (mT aA.rp) h RT m)(am:At h m_q [.map (some RT)])(aoffice:At h office_q [I aI])(hsz:m.length<=1000000000):Itr prog (.func (.func 338) #[] (vB [.pointer (some m_q),.pointer (some office_q)])) rg (cm m aI) h:=by
 refine vt call338 ?_
 intro yf ya yb C Sp Pn h1 A eT m1 m2 m3 hC hy
 refine oA Tn U ntmps338 U λX hXM hX=>?_
 have hs0:cm m aI=[]++cm m aI:=rfl
 refine qT 6 U (iw ty288 (am.mono eT) U (aS (eb call341 (AW h1 m RT (hm.mono (mT.mono aA.aB) eT)) U (λv1 h2 kE hp1=>dU (aS (eb call340 (wU h2 v1 (m.map Prod.fst) hp1 (by rw[List.length_map];omega)) U (λv2 h3 kF hp2=>?_)))))))
 obtain⟨rb1,rc1,ys_,hper_,hsrt_,rfl,sl1⟩:=hp2
 have Xu:cm m aI=[]++((cm.L1 m aI (cm.K1)) ys_):=K5 (by obtain⟨_,_,q⟩:=hm;exact q.nodup) hper_ hsrt_
 refine qL 3 [] U ?_
 refine lp2 ys_ (λi w=>[(0,.func yf ya yb),(1,.pointer (some m_q)),(2,.pointer (some office_q)),(11,.slice rb1 ys_.length rc1),(12,I (ys_.length:Int)),(13,I (i:Int))]) (λw=>w.2.2) (λw=>w.2.1) (λi w=>C w.1 w.2.2 w.2.1/\HF.le h3 w.2.2) (λs1 i w=>w.1++(cm.L1 m aI (cm.K1)) s1) ([],A,h3) sl1.1.1 Xu ⟨(m1 _ _ _ _ (kE.t kF) hC),lf⟩ ?_ ?_
 .rintro i1 ⟨dn1,A1_,hh1⟩ pq hs1 ⟨hC1_,hl1⟩ e
  refine ke ?_
  have hs2:cm m aI=dn1:=hs1.trans (List.append_nil _)
  exact Fa [] (A:=A1_) Tn U (List.Sublist.refl _) (.inl (hs2▸hC1_))
 rintro i1 ⟨dn1,A1_,hh1⟩ y1 rz1 hd1 ns iI po xe hs3 ⟨hC1_,hl1⟩ hx1 ag1 e
 refine sr (tO ns U (qO 8 U (aS (iF jE We ty325 (sl1.mono OSeat.aB hl1).1 iI U U U (λq2 A2=>lh ty325 A2 U U (cS zc325 (λb3=>cJ 0 ty325 U U U U U U (mf (L':=[(b3,O (jE y1) 325)]++(A1_)) U (qO 3 U (iw ty288 (am.mono (((eT.t kE).t kF).t hl1)) U (ga 0 ty325 U U U ?_)))))))))))
 obtain⟨o2,hb2,hm2⟩:=(hm.mono (mT.mono aA.aB) (((eT.t kE).t kF).t hl1))
 refine aS (ru (k:=y1) underlying288 Jc hb2 hm2 (gF zv76) (show(mT aA.rp) _ (.agg (vB [I 0,I 0,I 0,I 0,I 0,I 0,.bool false])) (aA.mk 0 0 0 0 0 0 false)from⟨_,U,U⟩) U U (λv4 hv2=>?_))
 obtain⟨_,rfl,rfl⟩:=hv2
 refine cS zc76 (λb4=>cJ 0 ty76 U U U U U U (mf (L':=[(b4,O (aA.cells (mgetD m y1 (aA.mk 0 0 0 0 0 0 false))) 76),(b3,O (jE y1) 325)]++(A1_)) U (qL 5 [1] U (iw ty3 (aoffice.mono (((eT.t kE).t kF).t hl1)) U (qO 2 U (pF 4 [24,25,26,27,28] 24 28 (!((mgetD m y1 (aA.mk 0 0 0 0 0 0 false)).mU)) U (λc1 hk1=>?_) (λe=>?_)))))))
 .exact qL 4 [0] U (hk1 _ U)
 refine dU (xp 29 U (λc2=>?_) (λc2=>?_))
 .have hs4:=hs3.trans (congrArg (dn1++·) (bt c2))
  refine qL 5 [0,0] U (aS (ia (cells:=[I ((mgetD m y1 (aA.mk 0 0 0 0 0 0 false)).bw),I ((mgetD m y1 (aA.mk 0 0 0 0 0 0 false)).fD)]) (places:=[(0,1),(1,1)]) underlying284 zc284 kr kr ?_))
  have hx1:cm m aI=dn1++((aV.mk ((mgetD m y1 (aA.mk 0 0 0 0 0 0 false)).bw) ((mgetD m y1 (aA.mk 0 0 0 0 0 0 false)).fD))::(cm.L1 m aI (cm.K1) rz1)):=hs4
  refine aS (sZ ([(b4,O (aA.cells (mgetD m y1 (aA.mk 0 0 0 0 0 0 false))) 76),(b3,O (jE y1) 325)]) A1_ ap (hy dn1 (aV.mk ((mgetD m y1 (aA.mk 0 0 0 0 0 0 false)).bw) ((mgetD m y1 (aA.mk 0 0 0 0 0 0 false)).fD)) _ _ _ _ hx1 ((kE.t kF).t hl1) hC1_ U) U U (λh4 A3 kG hC1=>?_) (λh5 A4 kK hS1=>?_) (λch1 h6 A5 kP hP1 e=>nK (Bd [] (A:=A5) Tn (List.sublist_append_right _ _) hP1)))
  .have hs5:cm m aI=(dn1++[(aV.mk ((mgetD m y1 (aA.mk 0 0 0 0 0 0 false)).bw) ((mgetD m y1 (aA.mk 0 0 0 0 0 0 false)).fD))])++((cm.L1 m aI (cm.K1) rz1)):=hx1.trans ap
   exact sF U (qO 6 U (oi i1 U (qO 2 U (ek (L':=A3) js (ag1 ((dn1++[(aV.mk ((mgetD m y1 (aA.mk 0 0 0 0 0 0 false)).bw) ((mgetD m y1 (aA.mk 0 0 0 0 0 0 false)).fD))]),A3,h4) hs5 ⟨hC1,(hl1.t kG)⟩)))))
  exact sF U (qO 3 U (ke (Bc [] (A:=A4) Tn U js (.inr hS1))))
 have hs6:=hs3.trans (congrArg (dn1++·) (bf c2))
 exact kq (qO 12 U (oi i1 U (qO 2 U (ek (L':=A1_) js (ag1 (dn1,A1_,hh1) hs6 ⟨hC1_,hl1⟩)))))
instance kI338:CtI 338:=⟨_,@AR⟩
theorem IN(h l eP eO vK bV bU)(wj:Int)(aU)(hl:SlC aj.rp h eP eO l)(iC:SlC jB h bV bU vK)(hsg:vK.length=l.length)(hsn:vK.length<=2000000)(hnd:∀d∈l,d.eQ.length<=16)(hi:0<=wj/\wj<(l.length:Int)):Ret prog 188 [.slice eP l.length eO,.slice bV vK.length bU,I wj,I aU] h (.tuple #[I ((il l vK wj aU).1),I ((il l vK wj aU).2)]):=by
 refine sT func188 U ntmps188 U λX hM hX hF=>?_
 have hs0:=@rfl _ (il l vK wj aU)
 have hll:=Tc l vK aU hsg
 refine qT 10 U (aS (eb call289 (IP _ _ _ _ _ _ _ aU hl iC ob ob ob) U (λv1 h1 kE hp1=>?_)))
 obtain⟨rb1,rc1,rfl,sl1⟩:=hp1
 refine qO 4 U (aS (lC Do ty4 (λb1=>qO 7 U ?_)))
 obtain⟨G2,gr2,ge1⟩:∃G:LH,di vV 4 h1 ([]) (zAD b1) 0 G/\[(b1,O [] 4)]=G:=⟨_,di.lit (show bW vV h1 [] ([])from rfl) rfl,rfl⟩
 refine eA (L':=([])++([(b1,O [] 4)]++([]))) ap ?_
 rw[ge1]
 refine jy (List.Perm.append_left _ List.perm_append_comm) (eA (L':=G2) ap ?_)
 refine lp4 l (λi w=>[(0,.slice eP l.length eO),(1,.slice bV vK.length bU),(2,I wj),(3,I aU),(10,.slice rb1 ((bx l vK aU).length) rc1),(11,.slice w.2.1 w.1.length w.2.2.1),(12,I (i:Int))]) (λ_=>h1) (λw=>w.2.2.2) (λi w=>di vV 4 h1 w.1 w.2.1 w.2.2.1 w.2.2.2/\w.1.length<=0+i/\w.1.length=i) (λi w=>di vV 4 h1 w.1 w.2.1 w.2.2.1 w.2.2.2/\w.1.length<=0+i/\w.1.length=l.length) (λi g hi h=>⟨h.1,h.2.1,h.2.2.trans hi⟩) (λs1 i w=>(il.L1 l vK aU (il.K1 l vK wj aU)) s1 i w.1) ([],(zAD b1),0,G2) ((hl.mono aj.aB kE).1.1) hs0 ⟨gr2,lo,U⟩ ?_ ?_ ?_
 .rintro i1 ⟨gZ,JM,JL,Da⟩ pq hs1 ⟨vW,C9,kR⟩ e
  try dsimp only at vW C9 kR
  refine qT 5 U (aS (eb call291 (AK _ _ _ _ aU (iC.mono vJ kE) ob) U (λv3 h4 kK hp3=>?_)))
  obtain⟨rb3,rc3,rfl,sl4⟩:=hp3
  refine qO 3 U (sP Rp.sV ([]) Da ([]) ap hM (vW.mono Rp.sV kK) (λh5 kP sl5=>e9 call290 (AJ _ _ _ _ _ _ _ _ _ _ wj aU (hl.mono aj.aB ((kE.t kK).t kP)) (sl4.mono vJ kP) sl5 (λx hx=>by have hq:=uV vK aU x hx;omega) ob) U (qO 12 U (dy hs1 U (λc2 hs2=>?_) (λc2 hs3=>?_)))))
  .refine qT 3 U ?_
   have ho3:0<=(wj:Int)/\(wj:Int)<(((bx l vK aU)).length:Int):=ob
   refine aS (tW (enc:=λy=>[I y]) ei fm ty3 (sl1.mono vJ (kK.t kP)).1 ho3 (eu ho3) U U U (λq3 A3=>iw ty3 A3 U (qO 9 U ?_)))
   have hs4:il l vK wj aU=((fg l (aX vK aU) gZ wj aU).1,(nthI (bx l vK aU) wj)):=hs2
   exact nretP [I ((fg l (aX vK aU) gZ wj aU).1),I (nthI (bx l vK aU) wj)] (hs4▸U)
  refine qT 8 U ?_
  have hs5:il l vK wj aU=((fg l (aX vK aU) gZ wj aU).1,(fg l (aX vK aU) gZ wj aU).2):=hs3
  exact nretP [I ((fg l (aX vK aU) gZ wj aU).1),I ((fg l (aX vK aU) gZ wj aU).2)] (hs5▸U)
 .rintro i1 ⟨gZ,JM,JL,Da⟩ y1 rz1 hd1 ns iI po xe hs6 ⟨vW,C9,kR⟩ hx1 ag1 e
  try dsimp only at vW C9 kR
  refine qK 6 [] U (tO ns U (qO 9 U ?_))
  have ho4:0<=((i1:Int):Int)/\((i1:Int):Int)<(((bx l vK aU)).length:Int):=ob
  refine aS (tW (enc:=λy=>[I y]) ei fm ty3 sl1.1 ho4 (eu ho4) U U U (λq4 A4=>iw ty3 A4 U (RK U (aS (cM (cells:=[.bool (decide ((nthI (bx l vK aU) (i1:Int))<0))]) Do ty4 zc4 U U kr (λb3=>?_))))))
  let z1:Nat×Obj:=(b3,O [.bool (decide ((nthI (bx l vK aU) (i1:Int))<0))] 4)
  exact aS (dN Rp.Fv ([z1]) ([]) (λG=>[z1]++G) ap (λ_=>ap) Do ty4 zc4 U bytes4 vW U U (gQ 0 U (cE (decide ((nthI (bx l vK aU) (i1:Int))<0)) U U)) lo lo (λob2 oc2 G3 gr3=>qO 5 U (oi i1 U (an (ek (L':=G3) js (ag1 ((gZ++[decide ((nthI (bx l vK aU) (i1:Int))<0)]),ob2,oc2,G3) hs6 ⟨gr3,lo,lo⟩))))))
 rintro i1 ⟨gZ,JM,JL,Da⟩ hd1 rZ hx e
 exact qK 6 [] U (fO rZ U (qO 3 U (hx _ rd)))
instance k188:Ct 188:=⟨_,call188,@IN⟩
theorem wH(h l eP eO)(hl:SlC aE.rp h eP eO l):Ret prog 46 [.slice eP l.length eO] h (I (dG l)):=by
 refine sVv func46 ntmps46 ?_
 generalize hz:(dG l)=z
 have HA:=h1 [9,10] 11 (λw=>[(3,I w)]) (λs1 i w=>(dG.L1 (dG.K1)) s1 w)
 exact W
instance k46:Ct 46:=⟨_,call46,@wH⟩
theorem vZ(h p jv p_q eB)(hp:ud.ok h p jv)(ap_z:At h p_q (ud.cells p jv))(hsg:p.signed.length<20):j0 prog 169 [.pointer (some p_q),I eB] h (λv h'=>∃(rv0:Value),v=rv0/\Itr prog rv0 BS (bj p eB) h'):=by
 refine sT func169 U ntmps169 U λX hM hX hF=>?_
 have hs0:=@rfl _ (bj p eB)
 refine sr (j2 (λb1=>qL 10 [0] U (aS (fU (gK U) (qL 1 [] U (nm (j:=2) ty31 ap_z U U (qL 3 [] U ?_)))))))
 let z1:Nat×Obj:=(b1,O [.pointer (some p_q)] 153)
 refine lp2 p.signed (λi w=>[(1,I eB),(2,Q b1),(5,.slice w.2.1 w.1.length w.2.2.1),(11,.slice jv.bV p.signed.length jv.bU),(12,I (p.signed.length:Int)),(13,I (i:Int))]) (λ_=>h) (λw=>[z1]++(w.2.2.2)) (λi w=>di jB 3 h w.1 w.2.1 w.2.2.1 w.2.2.2/\w.1.length<=0+i/\(∀x∈w.1,0<=x/\x<(p.signed.length:Int))) (λs1 i w=>(bj.L1 eB (bj.K1 p)) s1 i w.1) ([],none,0,[]) hp.signed.1.1 hs0 ⟨di.nil,lo,(λx hx=>(vA hx).elim)⟩ ?_ ?_
 .rintro i1 ⟨gL,zz,zy,R1⟩ pq hs1 ⟨tK,JI,kR⟩ e
  try dsimp only at tK JI kR
  refine qT 3 U (dV 0 U hM (λh1 kE hb1=>aS (kw U U (aS (pT ([]) R1 ([]) call258 (tU h1 gL zz zy R1 (λfX Ko=>jw fX Ko p) (.func (.func 259) #[] #[Q b1]) (tK.mono vJ kE) (λh' fX Ko eT Xb Xv=>oO call259 (ua h' fX Ko p jv p_q ⟨b1,0,none⟩  ((hp.mono kE).mono eT) ((ap_z.mono kE).mono eT) ((gM hb1).mono eT) (kR _ Xb) (kR _ Xv))) (by first|assumption|omega)) ap U (λG1 gr1=>mf (L':=G1) ap (qO 4 U (sP vJ ([]) G1 ([]) ap hM gr1 (λh2 kF sl1=>aS (eb call260 (AD _ _ _ _ sl1) (by first|rfl|(simp only[H6,kO];rfl)) (λv1 h3 kG hp1=>?_)))))))))))
  obtain⟨_,rfl,mo1⟩:=hp1
  refine an ?_
  have hs2:bj p eB=(lN (fa gL (λfX Ko=>jw fX Ko p))):=hs1
  exact nretH [v1] (hs2▸⟨v1,U,mo1⟩)
 rintro i1 ⟨gL,zz,zy,R1⟩ y1 rz1 hd1 ns iI po xe hs3 ⟨tK,JI,kR⟩ hx1 ag1 e
 try dsimp only at tK JI kR
 refine sr (tO ns U (qO 9 U (aS (iF (λy=>[I y]) fm ty3 hp.signed.1 iI U U U (λq2 A2=>iw ty3 A2 U (qO 8 U (pF 4 [20,21,22,23,24] 20 24 (decide (y1<=eB)) U (λc1 hk1=>?_) (λe=>?_))))))))
 .exact dU (qO 3 U (hk1 _ U))
 refine ck (dy hs3 U (λc2 hs4=>?_) (λc2 hs5=>?_))
 .exact cB (qO 2 U (aS (cM (cells:=[I (i1:Int)]) fm ty3 zc3 U U kr (λb2=>aS (dN XZ ([(b2,O [I (i1:Int)] 3),z1]) ([]) (λG=>[(b2,O [I (i1:Int)] 3),z1]++G) ap (λ_=>ap) fm ty3 zc3 U bytes3 tK U U (gQ 0 U (cE (i1:Int) U U)) lo lo (λob1 oc1 G2 gr2=>qO 4 U (oi i1 U (qO 2 U (ek (L':=[z1]++G2) js (ag1 ((gL++[(i1:Int)]),ob1,oc1,G2) hs4 ⟨gr2,lo,(by first|assumption|exact λx hx=>(qE.1 hx).elim (kR x) (λhx=>by rw[kB.1 hx];omega))⟩))))))))))
 exact jf (qT 2 U (oi i1 U (qO 2 U (ag1 (gL,zz,zy,R1) hs5 ⟨tK,lo,(by first|assumption|exact λx hx=>(qE.1 hx).elim (kR x) (λhx=>by rw[kB.1 hx];omega))⟩))))
theorem KD(h l eP eO u xl xk Wn vN dh ad)(hl:SlC Budget.rp h eP eO l)(hu:SlC Use.rp h xl xk u)(hsz:l.length<=2000000):Ret prog 114 [.slice eP l.length eO,.slice xl u.length xk,I Wn,I vN,I dh,I ad] h (.tuple #[I ((gH l u Wn vN dh ad).1),.bool ((gH l u Wn vN dh ad).2.1),I ((gH l u Wn vN dh ad).2.2)]):=by
 refine sVv func114 ntmps114 ?_
 generalize hz:(gH l u Wn vN dh ad)=z
 have q0:=@M6
 have HA:=h0 [1,3,4,5,16] 17 (λs1 i=>(gH.L1 u vN dh ad (gH.K1)) s1)
 exact W
instance k114:Ct 114:=⟨_,call114,@KD⟩
theorem IY(h l eP eO aI bu aU ad)(hl:SlC aA.rp h eP eO l):Ret prog 153 [.slice eP l.length eO,I aI,I bu,I aU,I ad] h (.tuple #[I ((oG l aI bu aU ad).1),I ((oG l aI bu aU ad).2.1),.bool ((oG l aI bu aU ad).2.2.1),I ((oG l aI bu aU ad).2.2.2)]):=by
 refine sVv func153 ntmps153 ?_
 generalize hz:(oG l aI bu aU ad)=z
 have q0:=@SN
 exact W
instance k153:Ct 153:=⟨_,call153,@IY⟩
theorem Pj(h s):Ret prog 398 [.string s] h (.bool (hY s)):=by
 refine sVv func398 ntmps398 ?_
 generalize hz:(hY s)=z
 have q4:=λ(a:(s.toList==(⟨#[]⟩:ByteArray).toList||decide (32<(s.size:Int)))=false)=>(show 0<=(0:Int)/\(0:Int)<(s.size:Int)from by have:=Rs (Bool.or_eq_false_iff.1 a).1;omega)
 have q0:=@Rs
 have HA:=h0 [0,19] 20 (λs1 i=>((hY.L1 s (hY.K1)) s1 i))
 exact W
instance k398:Ct 398:=⟨_,call398,@Pj⟩
theorem Be(h l eP eO bu bQ j7 j6 aU ad)(hl:SlC av.rp h eP eO l)(vv:SlC jB h j7 j6 bQ):Ret prog 318 [.slice eP l.length eO,I bu,.slice j7 bQ.length j6,I aU,I ad] h (I (cG l bu bQ aU ad)):=by
 refine sVv func318 ntmps318 ?_
 generalize hz:(cG l bu bQ aU ad)=z
 have HA:=h1 [1,2,3,4,20,21] 22 (λw=>[(12,I w)]) (λs1 i w=>(cG.L1 (cG.K1 bu bQ aU ad)) s1 w)
 exact W
theorem IV(h l eP eO)(hl:SlC aE.rp h eP eO l):Ret prog 53 [.slice eP l.length eO] h (I (jd l)):=by
 refine sVv func53 ntmps53 ?_
 generalize hz:(jd l)=z
 have HA:=h0 [0] 3 (λs1 i=>(jd.L1 l (jd.K1)) s1 i)
 exact W
instance k53:Ct 53:=⟨_,call53,@IV⟩
theorem Iy(h l eP eO)(hl:SlC ae.rp h eP eO l):Ret prog 58 [.slice eP l.length eO] h (I (gV l)):=by
 refine sVv func58 ntmps58 ?_
 generalize hz:(gV l)=z
 have HA:=h0 [0] 3 (λs1 i=>(gV.L1 l (gV.K1)) s1 i)
 exact W
instance k58:Ct 58:=⟨_,call58,@Iy⟩
theorem xX(h l eP eO)(hl:SlC aA.rp h eP eO l):Ret prog 45 [.slice eP l.length eO] h (I (du l)):=by
 refine sVv func45 ntmps45 ?_
 generalize hz:(du l)=z
 have HA:=h1 [9,10] 11 (λw=>[(3,I w)]) (λs1 i w=>(du.L1 (du.K1)) s1 w)
 exact W
instance k45:Ct 45:=⟨_,call45,@xX⟩
theorem Qg(s:List Int):lN s=s:=by
  show eR.L1 eR.K1 s=s
  induction s with
  |nil=>rfl
  |cons y s ih=>simp only[eR.L1,ih]
theorem Jk(cmp:Int->Int->Int):∀(m i:Nat)(xs:List Int),m=0\/i+m<=xs.length->∀x∈insOut cmp m i xs,x∈xs
  |0,_,_,_,x,hx=>hx
  |m+1,i,xs,h,x,hx=>by
    simp only[insOut]at hx
    exact Fc cmp i xs ob x (Jk cmp m (i+1) _ (by rw[BT];omega) x hx)
theorem Qi(xs:List Int)(cmp:Int->Int->Int):∀x∈fa xs cmp,x∈xs:=Jk _ _ _ _ ob
theorem Ib(p:ff)(aT):∀(s:List Int)(i:Nat)(g:List Int),(∀x∈g,0<=x/\x<(i:Int))->g.length<=i ->
  (∀x∈bj.L1 aT (bj.K1 p) s i g,0<=x/\x<((i+s.length:Nat):Int))/\(bj.L1 aT (bj.K1 p) s i g).length<=i+s.length:=by
 intro s
 induction s with
 |nil=>
  intro i g hg hl
  simp only[bj.L1,bj.K1,Qg,xB,Nat.add_zero,H6]
  exact⟨λx hx=>hg x (Qi _ _ x hx),hl⟩
 |cons y s ih=>
  intro i g hg hl
  have e1:i+(y::s).length=(i+1)+s.length:=by simp only[xA];omega
  rw[e1]
  simp only[bj.L1,Bool.cond_eq_ite]
  split
  .refine ih (i+1) _ (λx hx=>?_) lo
   rcases qE.1 hx with hx|hx
   .have:=hg x hx;omega
   rw[kB.1 hx];omega
  exact ih (i+1) g (λx hx=>by have:=hg x hx;omega) ob
theorem OL(p:ff)(aT):∀x∈bj p aT,0<=x/\x<(p.signed.length:Int):=by
  have:=(Ib p aT p.signed 0 [] (λ_ h=>(vA h).elim) (zE _)).1
  simpa[bj]using this
theorem OK(p:ff)(aT):(bj p aT).length<=p.signed.length:=by
  have:=(Ib p aT p.signed 0 [] (λ_ h=>(vA h).elim) (zE _)).2
  simpa[bj]using this
theorem FRi.mono{h h':HF}(hl:h.le h'){m:List (Int×Option Addr×Nat×Nat)}{f:List (Int×List Int)}{G:LH}(x:FRi h m f G):FRi h' m f G:=FRg.mono vJ hl x
section
variable {b0:Frame} {n:Nat} {ops:Array Oper} {F:List Frame->(Machine->Prop)->Prop} {ds:List Deferred} {X:Cx} {e:Env} {h h':HF} {L:LH} {l:List aj} {lb:Option Addr} {lc_z:Nat} {sg:List Int} {sb:Option Addr} {sc:Nat} {at_:Int} {q4:Addr} {a b c d f g t:Bool} {ty:TypeId} {pos:String} {af:Array Edge}
theorem Xt(hl:SlC aj.rp h lb lc_z l)(hI:PlI h l lb lc_z sg sb sc at_ q4 false b c d f g t e h' L):
    Stp prog b0 n ops F ds X ⟨some 17,.call ⟨.value (.func 130),#[.tmp 16],#[27]⟩,ty,pos,af,none⟩ e h' L (λe2 h2 L2=>Jst h [] h2 L2/\PlI h l lb lc_z sg sb sc at_ q4 true b c d f g t e2 h2 L2):=by
  obtain⟨hv,eT,⟨k2,k4,k16,k18,k20,k23⟩,sq,b5,b8,b9,b12,b11,x1,x5,x8,x9,x12,x10,x11,hL⟩:=hI
  cases g<;>cases t<;>simp at hv
  refine eb call130 (sK h' l lb lc_z (hl.mono aj.aB eT)) (congrArg (λx=>[x]) k16) (λv h2 hl2 hp=>?_)
  obtain⟨r2,rfl,ok2⟩:=hp
  exact⟨⟨xD eT hl2,λ_ hp=>(vA hp).elim⟩,U,xD eT hl2,⟨k2,k4,k16,k18,k20,k23⟩,r2,b5,b8,b9,b12,b11,λ_=>⟨U,ok2⟩,x5,x8,x9,x12,λh=>(by cases h),λh=>(by cases h),hL⟩
theorem Xs(hn:l.length<20)(hI:PlI h l lb lc_z sg sb sc at_ q4 a false c d f g t e h' L):
    Stp prog b0 n ops F ds X ⟨some 21,.makeSlice 168 (.tmp 20) (.tmp 20),ty,pos,af,none⟩ e h' L (λe2 h2 L2=>Jst h [] h2 L2/\PlI h l lb lc_z sg sb sc at_ q4 a true c d f g t e2 h2 L2):=by
  obtain⟨hv,eT,⟨k2,k4,k16,k18,k20,k23⟩,sq,b5,b8,b9,b12,b11,x1,x5,x8,x9,x12,x10,x11,hL⟩:=hI
  cases g<;>cases t<;>simp at hv
  refine Ly Do zc4 ty4 bytes4 k20 k20 ob ob (λbk=>?_)
  exact⟨⟨eT,λ_ hp=>(vA hp).elim⟩,U,eT,⟨k2,k4,k16,k18,k20,k23⟩,sq,bk,b8,b9,b12,b11,x1,λ_=>U,x8,x9,x12,λh=>(by cases h),λh=>(by cases h),
    (List.Perm.cons _ hL).trans (pmid (pmid (pmid (pmid (List.Perm.refl _)))))⟩
theorem Xr(hn:l.length<20)(hI:PlI h l lb lc_z sg sb sc at_ q4 a b false d f g t e h' L):
    Stp prog b0 n ops F ds X ⟨some 24,.makeSlice 31 (.tmp 23) (.tmp 23),ty,pos,af,none⟩ e h' L (λe2 h2 L2=>Jst h [] h2 L2/\PlI h l lb lc_z sg sb sc at_ q4 a b true d f g t e2 h2 L2):=by
  obtain⟨hv,eT,⟨k2,k4,k16,k18,k20,k23⟩,sq,b5,b8,b9,b12,b11,x1,x5,x8,x9,x12,x10,x11,hL⟩:=hI
  cases g<;>cases t<;>simp at hv
  refine Ly fm zc3 ty3 bytes3 k23 k23 ob ob (λbk=>?_)
  exact⟨⟨eT,λ_ hp=>(vA hp).elim⟩,U,eT,⟨k2,k4,k16,k18,k20,k23⟩,sq,b5,bk,b9,b12,b11,x1,x5,λ_=>U,x9,x12,λh=>(by cases h),λh=>(by cases h),
    (List.Perm.cons _ hL).trans (pmid (pmid (pmid (List.Perm.refl _))))⟩
theorem Xq(hI:PlI h l lb lc_z sg sb sc at_ q4 a b c false f g t e h' L):
    Stp prog b0 n ops F ds X ⟨some 25,.makeMap 133 none,ty,pos,af,none⟩ e h' L (λe2 h2 L2=>Jst h [] h2 L2/\PlI h l lb lc_z sg sb sc at_ q4 a b c true f g t e2 h2 L2):=by
  obtain⟨hv,eT,⟨k2,k4,k16,k18,k20,k23⟩,sq,b5,b8,b9,b12,b11,x1,x5,x8,x9,x12,x10,x11,hL⟩:=hI
  cases g<;>cases t<;>simp at hv
  refine uw (λbk=>?_)
  exact⟨⟨eT,λ_ hp=>(vA hp).elim⟩,U,eT,⟨k2,k4,k16,k18,k20,k23⟩,sq,b5,b8,bk,b12,b11,x1,x5,x8,λ_=>U,x12,λh=>(by cases h),λh=>(by cases h),
    (List.Perm.cons _ hL).trans (pmid (pmid (List.Perm.refl _)))⟩
theorem W7(hI:PlI h l lb lc_z sg sb sc at_ q4 a b c d false g t e h' L):
    Stp prog b0 n ops F ds X ⟨some 7,.alloc 153,ty,pos,af,none⟩ e h' L (λe2 h2 L2=>Jst h [] h2 L2/\PlI h l lb lc_z sg sb sc at_ q4 a b c d true g t e2 h2 L2):=by
  obtain⟨hv,eT,⟨k2,k4,k16,k18,k20,k23⟩,sq,b5,b8,b9,b12,b11,x1,x5,x8,x9,x12,x10,x11,hL⟩:=hI
  refine BH zc153 (λbk=>?_)
  exact⟨⟨eT,λ_ hp=>(vA hp).elim⟩,hv,eT,⟨k2,k4,k16,k18,k20,k23⟩,sq,b5,b8,b9,bk,b11,x1,x5,x8,x9,λ_=>U,x10,x11,
    (List.Perm.cons _ hL).trans (pmid (List.Perm.refl _))⟩
theorem W9(ha:(a&&b&&c&&d)=true)(hI:PlI h l lb lc_z sg sb sc at_ q4 a b c d f false t e h' L):
    Stp prog b0 n ops F ds X ⟨some 26,.build 218 #[(0,.tmp 17),(1,.tmp 18),(2,.tmp 21),(3,.tmp 24),(4,.tmp 25)],ty,pos,af,none⟩ e h' L (λe2 h2 L2=>Jst h [] h2 L2/\PlI h l lb lc_z sg sb sc at_ q4 a b c d f true t e2 h2 L2):=by
  obtain⟨hv,eT,⟨k2,k4,k16,k18,k20,k23⟩,sq,b5,b8,b9,b12,b11,x1,x5,x8,x9,x12,x10,x11,hL⟩:=hI
  cases a<;>cases b<;>cases c<;>cases d<;>simp at ha
  cases t<;>simp at hv
  obtain⟨x1,o1⟩:=x1 rfl
  replace x5:=x5 rfl
  replace x8:=x8 rfl
  replace x9:=x9 rfl
  refine MO [(17,_),(18,_),(21,_),(24,_),(25,_)] ⟨x1,k18,x5,x8,x9,trivial⟩ ?_
  have hc:ff.cells (playP l sg) (playR l.length sq sb sc b5 b8 b9)=[.slice sq.J6 (aG l).docs.length sq.J5,.map (some sq.P9),.slice sb sg.length sc,.slice (zAD b5) l.length l.length,.slice (zAD b8) l.length l.length,.map (some b9)]:=by simp[ff.cells,playP,playR]
  exact ia (cells:=[.slice sq.J6 (aG l).docs.length sq.J5,.map (some sq.P9),.slice sb sg.length sc,.slice (zAD b5) l.length l.length,.slice (zAD b8) l.length l.length,.map (some b9)]) (places:=[(0,2),(2,1),(3,1),(4,1),(5,1)]) underlying218 zc218 kr kr (⟨⟨eT,λ_ hp=>(vA hp).elim⟩,U,eT,⟨k2,k4,k16,U,k20,k23⟩,sq,b5,b8,b9,b12,b11,λ_=>⟨U,o1⟩,λ_=>U,λ_=>U,λ_=>U,x12,λ_=>(congrArg (λz:List Value=>Value.agg z.toArray) hc).symm,λh=>(by cases h),hL⟩)
theorem W8(hI:PlI h l lb lc_z sg sb sc at_ q4 a b c d f true false e h' L):
    Stp prog b0 n ops F ds X ⟨some 27,.box 218 (.tmp 26),ty,pos,af,none⟩ e h' L (λe2 h2 L2=>Jst h [] h2 L2/\PlI h l lb lc_z sg sb sc at_ q4 a b c d f true true e2 h2 L2):=by
  obtain⟨hv,eT,⟨k2,k4,k16,k18,k20,k23⟩,sq,b5,b8,b9,b12,b11,x1,x5,x8,x9,x12,x10,x11,hL⟩:=hI
  replace x10:=x10 rfl
  refine MO [(26,_)] ⟨x10,trivial⟩ (W3 (λbk=>?_))
  exact⟨⟨eT,λ_ hp=>(vA hp).elim⟩,hv,eT,⟨k2,k4,k16,k18,k20,k23⟩,sq,b5,b8,b9,b12,bk,x1,x5,x8,x9,x12,λ_=>U,λ_=>U,List.Perm.cons _ hL⟩
end
theorem VF{i:Nat}{a b c d f g t:Bool}(h:i∈plN a b c d f g t):(i=1/\a=false)\/(i=5/\b=false)\/(i=8/\c=false)\/(i=9/\d=false)\/(i=10/\(a&&b&&c&&d)=true/\g=false)\/(i=11/\g=true/\t=false)\/(i=12/\f=false)\/(a=true/\b=true/\c=true/\d=true/\f=true/\g=true/\t=true):=by
 simp only[plN,qE]at h
 rcases h with h|h|h|h|h|h|h|h
 .cases a with
  |true=>simp at h
  |false=>simp at h;exact .inl ⟨h,rfl⟩
 .cases b with
  |true=>simp at h
  |false=>simp at h;exact .inr (.inl ⟨h,rfl⟩)
 .cases c with
  |true=>simp at h
  |false=>simp at h;exact .inr (.inr (.inl ⟨h,rfl⟩))
 .cases d with
  |true=>simp at h
  |false=>simp at h;exact .inr (.inr (.inr (.inl ⟨h,rfl⟩)))
 .cases g with
  |true=>simp at h
  |false=>
   cases hh:(a&&b&&c&&d)with
   |false=>rw[hh]at h;simp at h
   |true=>rw[hh]at h;simp at h;exact .inr (.inr (.inr (.inr (.inl ⟨h,rfl,rfl⟩))))
 .cases g with
  |false=>simp at h
  |true=>
   cases t with
   |true=>simp at h
   |false=>simp at h;exact .inr (.inr (.inr (.inr (.inr (.inl ⟨h,rfl,rfl⟩)))))
 .cases f with
  |true=>simp at h
  |false=>simp at h;exact .inr (.inr (.inr (.inr (.inr (.inr (.inl ⟨h,rfl⟩))))))
 cases a<;>cases b<;>cases c<;>cases d<;>cases f<;>cases g<;>cases t<;>simp at h
 exact .inr (.inr (.inr (.inr (.inr (.inr (.inr ⟨U,U,U,U,U,U,U⟩))))))
theorem Ul{a b c d f g t:Bool}(h:plM a b c d f g t=0):a=true/\b=true/\c=true/\d=true/\f=true/\g=true/\t=true:=by
  cases a<;>cases b<;>cases c<;>cases d<;>cases f<;>cases g<;>cases t<;>simp[plM]at h<;>simp
theorem zY.mono{h h':HF}{b5 b8 br:Nat}{P:ff}{Gf:LH}(o:zY h n b5 b8 br P om m3 Gf)(hl:h.le h'):zY h' n b5 b8 br P om m3 Gf:=
  ⟨o.done,o.lacks,o.map.mono V3.mono hl,o.rev.mono hl⟩
theorem Gs(h):∀xs:List Bool,bW vV h (xs.map vT) xs
  |[]=>rfl
  |x::xs=>⟨[.bool x],xs.map vT,rfl,rfl,rfl,Gs h xs⟩
theorem FX(h):∀xs:List Int,bW jB h (xs.map (jC .i64)) xs
  |[]=>rfl
  |x::xs=>⟨[I x],xs.map (jC .i64),rfl,rfl,rfl,FX h xs⟩
theorem zY.lent{h h1:HF}{b5 b8 br:Nat}{P:ff}{Gf:LH}{sq:pO}{sb:Option Addr}{sc:Nat}(o:zY h n b5 b8 br P om m3 Gf)(hn:n<20)(hs:jo.ok h P.shelf sq)(hg:SlC jB h sb sc P.signed)(hl:h.le h1)(hL:∀p∈plB b5 b8 br P om Gf,h1 p.1=some p.2):ff.ok h1 P (playR n sq sb sc b5 b8 br):=by
  have h5:=hL (b5,.cells (P.done.map vT).toArray 4 (0,0)) (by simp[plB])
  have h8:=hL (b8,.cells (P.lacks.map (jC .i64)).toArray 3 (0,0)) (by simp[plB])
  have hr:=hL (br,om) (by simp[plB])
  have hd:=o.done
  have hk:=o.lacks
  exact⟨hs.mono hl,hg.mono vJ hl,bW.slB0 (Gs h1 _) h5 ob (by rw[hd];exact zE _),bW.slB0 (FX h1 _) h8 ob (by rw[hk];exact zE _),
    ⟨om,hr,FRg.frozen vJ o.map o.rev hl (λp hp=>hL p (by simp[plB,hp]))⟩⟩
theorem KS(l:List aj):(aG l).docs=l:=by
  have:∀(s:List aj)(i:Nat)(g:List (Int×Int)),(aG.L1 (aG.K1 l) s i g).docs=l:=by
    intro s
    induction s with
    |nil=>intro i g;rfl
    |cons y s ih=>intro i g;exact ih _ _
  exact this _ _ _
theorem O6(l:List aj)(hl:0<l.length)(k):0<=mgetD (aG l).at_ k 0/\mgetD (aG l).at_ k 0<(l.length:Int):=by
  have key:∀(s:List aj)(i:Nat)(g:List (Int×Int)),i+s.length=l.length->(∀p∈g,0<=p.2/\p.2<(l.length:Int))->∀p∈(aG.L1 (aG.K1 l) s i g).at_,0<=p.2/\p.2<(l.length:Int):=by
    intro s
    induction s with
    |nil=>intro i g _ hg;exact hg
    |cons y s ih=>
      intro i g hi hg
      simp only[xA]at hi
      exact ih (i+1) _ ob (AS (P:=λx:Int=>0<=x/\x<(l.length:Int)) _ hg ob)
  exact BP (P:=λx:Int=>0<=x/\x<(l.length:Int)) k (key l 0 [] (by simp) (λ_ h=>(vA h).elim)) ob
theorem CM{α : Type}(f:α->Value)(xs:List α)(k)(y:α):splice (xs.map f) (k*1) [f y]=(xs.set k y).map f:=by
  simp[splice,qh,List.map_set]
theorem I2{l:List aj}{sg:List Int}{P:ff}{r:sX}(h1:P.shelf=aG l)(h2:P.signed=sg)(h3:P.done.length=l.length)(h4:P.lacks.length=l.length):ff.cells P r=ff.cells (playP l sg) r:=by
  simp[ff.cells,playP,h1,h2,h3,h4]
theorem AP(sg:List Int)(i no)(P:ff):(playLack sg i P no).shelf=P.shelf/\(playLack sg i P no).signed=P.signed/\(playLack sg i P no).done=P.done/\(playLack sg i P no).lacks.length=P.lacks.length/\(playLack sg i P no).revoked=P.revoked:=by
  unfold playLack
  cases(cu P (mgetD P.shelf.at_ no 0) (nthI sg i)).1 != 0<;>simp
theorem MX{d:aj}{Q_z:ff}{y:Int}{P:List (Int×List Int)}{i:Nat}(h:∀k,(mgetD Q_z.revoked k []).length<=(mgetD P k []).length+i):∀k,(mgetD (playRevoke d Q_z y).revoked k []).length<=(mgetD P k []).length+(i+1):=λk=>by
 show(mgetD (mput Q_z.revoked y (mgetD Q_z.revoked y []++[d.No])) k []).length<=_
 rw[vq]
 split
 .next hk=>subst hk;have:=h k;simp only[kA,xA,xB];omega
 have:=h k;omega
theorem Ut{p:Prop}(h:p:=by
  refine tn 15 U (pS 7 (k:=y) (x:=(gb',(mgetD QD.revoked y []++[d.No]).length,gc')) Rg (im qZ) U ownQ.map U U U (λoR hmR=>⟨jn,dJ kr ?_⟩))
  obtain⟨G',hfr',hp'⟩:=hput gb' gc' _ G1' hG'
  refine qT 2 U (oi i U (qO 2 U (eA (L':=[zn,zd,zi,zl,zr,z5,(b8,.cells (QD.lacks.map (λv=>Value.int .i64 v)).toArray 3 (0,0)),(br,oR)]++(G2++G1')) U ?_)))
  exact jy (L':=zn::([zd,zi,zl,zr]++plB b5 b8 br (playRevoke d QD y) oR G')) (List.Perm.append_left [_,_,_,_,_,_,_,_] (List.perm_append_comm.trans hp'.symm)) (ek (L':=[zd,zi,zl,zr]++plB b5 b8 br (playRevoke d QD y) oR G') js (ag (i+1,playRevoke d QD y,oR,mput mQ y (gb',(mgetD QD.revoked y []++[d.No]).length,gc'),G') _ (by show d.eX.length-(i+1)<d.eX.length-i;omega) ⟨hfQ,hi,⟨ownQ.done,ownQ.lacks,hmR,hfr'⟩,hQs,hQg,MX hQc⟩ rd))):p:=h
theorem un(h l eP eO vK bV bU aT)(hl:SlC aj.rp h eP eO l)(iC:SlC jB h bV bU vK)(hck:aR l=0)(hsg:vK.length=l.length)(hln:l.length<20):
  j0 prog 96 [.slice eP l.length eO,.slice bV vK.length bU,I aT] h (λv h'=>∃(rq0:Addr)(rr0:sX),v=.pointer (some rq0)/\ff.ok h' (co l vK aT) rr0/\At h' rq0 (ff.cells (co l vK aT) rr0)):=by
 refine el func96 U ntmps96 U λX hM hX=>?_
 refine sr (j2 (λb4=>an ?_))
 refine fK 0 U hM (λh1 l1 f4=>?_)
 have a4:=gM f4
 show TT _ _ _ _ _ _ _ _ h1 []
 refine eI (hU [] mixed kr jn (λhsep _=>?_))
 refine tm 0 U (tf 2 U U (rh ty31 a4 U) (tm 3 U (tf 4 U U (λ_ _ _=>LG MG U) (tm 6 U (tf 7 U U (λ_ _ _=>LG MG U) ?_)))))
 refine Wt (σ:=Bool×Bool×Bool×Bool×Bool×Bool×Bool) 1 (λs e2 h2 L2=>PlI h1 l eP eO vK bV bU aT ⟨b4,0,none⟩ s.1 s.2.1 s.2.2.1 s.2.2.2.1 s.2.2.2.2.1 s.2.2.2.2.2.1 s.2.2.2.2.2.2 e2 h2 L2)
  (λs=>plM s.1 s.2.1 s.2.2.1 s.2.2.2.1 s.2.2.2.2.1 s.2.2.2.2.2.1 s.2.2.2.2.2.2) (λs=>plD s.1 s.2.1 s.2.2.1 s.2.2.2.1 s.2.2.2.2.1 s.2.2.2.2.2.1 s.2.2.2.2.2.2) ?_ ?_ 7 (false,false,false,false,false,false,false) _ _ _ rfl
  ⟨rfl,vF _,⟨rfl,rfl,rfl,rfl,rfl,rfl⟩,⟨none,0,0⟩,0,0,0,0,0,λh=>(by cases h),λh=>(by cases h),λh=>(by cases h),λh=>(by cases h),λh=>(by cases h),λh=>(by cases h),λh=>(by cases h),List.Perm.refl _⟩
 .rintro⟨a,b,c,d,f,g,t⟩ e2 h2 L2 hI hμ
  obtain⟨e1,e2',e3,e4,e5,e6,e7⟩:=Ul hμ
  dsimp only at e1 e2' e3 e4 e5 e6 e7
  subst e1 e2' e3 e4 e5 e6 e7
  obtain⟨_,eT,⟨k2,k4,_,_,_,_⟩,sr0,b5,b8,br,b12,b11,x1,_,_,_,x12,_,x11,hL⟩:=hI
  obtain⟨_,oks⟩:=x1 rfl
  have k7:=x12 rfl
  have k27:=x11 rfl
  clear x1 x12 x11
  dsimp only at k7 k27 oks hL k2 k4
  have J2:∀{L:LH},Jst h1 [] h2 L:=⟨eT,λ_ hp=>(vA hp).elim⟩
  refine tn 13 U (Ie hL (MO [(7,Q b12),(27,Q b11)] ⟨k7,k27,trivial⟩ (qi 1 (off:=0) (vs:=[Q b11]) ty153 U U U U (by rfl) U ⟨J2,dJ kr (Wr [(2,I aT),(4,Q b4),(7,Q b12)] ⟨k2,k4,U,trivial⟩ (fK 1 U hM (λh3 l3 f12=>fK 0 U hM (λh4 l4 f11=>?_))))⟩)))
  have A7:=(gM f12).mono l4
  have A11:=gM f11
  have l24:h2.le h4:=xD l3 l4
  have l04:h.le h4:=xD l1 (xD eT l24)
  replace oks:=oks.mono l24
  replace a4:=a4.mono (xD eT l24)
  clear f12 f11 l3 l4 J2 hL k2 k4 k7 k27
  refine jy (L':=plB b5 b8 br (playP l vK) (.map #[] 0) []) (by
   have h9:plB b5 b8 br (playP l vK) (.map #[] 0) []=[(b5,.cells (List.replicate l.length (.bool false)).toArray 4 (0,0)),(b8,.cells (List.replicate l.length (I 0)).toArray 3 (0,0)),(br,.map #[] 0)]:=by simp[plB,playP,List.map_replicate]
   rw[h9]
   exact List.reverse_perm [(b5,O (List.replicate l.length (.bool false)) 4),(b8,.cells (List.replicate l.length (I 0)).toArray 3 (0,0)),(br,.map #[] 0)]) ?_
  have hl4:=hl.mono aj.aB l04
  have hs4:=iC.mono vJ l04
  refine qT 3 U (iw ty153 A7 U (dU (aS (eb call169 (vZ h4 (playP l vK) (playR l.length sr0 bV bU b5 b8 br) ⟨b11,0,none⟩ aT ⟨hs4⟩ A11 (by show vK.length<20;omega)) U (λv5 h5 l5 hp=>?_)))))
  obtain⟨rv,rfl,hit⟩:=hp
  refine qO 2 U (ke ?_)
  have hord:=OL (playP l vK) aT
  have hordl:=OK (playP l vK) aT
  have hsl:(playP l vK).signed.length=l.length:=hsg
  replace a4:=a4.mono l5
  replace A7:=A7.mono l5
  replace A11:=A11.mono l5
  replace hl4:=hl4.mono aj.aB l5
  replace hs4:=hs4.mono vJ l5
  replace oks:=oks.mono l5
  have hdr:=Fp hck
  refine pz (it:=v5) (xs:=bj (playP l vK) aT) (ι:=ff×Obj×List (Int×Option Addr×Nat×Nat)×LH×HF) [] (λi=>i.2.2.2.2) (λi=>plB b5 b8 br i.1 i.2.1 i.2.2.2.1)
   (λrest i=>rest.foldl playStep i.1=co l vK aT/\i.1.shelf=aG l/\i.1.signed=vK/\zY i.2.2.2.2 l.length b5 b8 br i.1 i.2.1 i.2.2.1 i.2.2.2.1/\h5.le i.2.2.2.2/\(∀x∈rest,0<=x/\x<(l.length:Int))/\(∀k,(mgetD i.1.revoked k []).length+16*rest.length<=320))
   (λ_=>False) (λ_=>False) 0 (λ_ _ _=>False) (playP l vK,.map #[] 0,[],[],h5) func96 rfl hit rfl AZ (λ_ _ _ _ _ hq=>hq) rfl rfl
   ⟨rfl,rfl,rfl,⟨by simp[playP],by simp[playP],lB.nil,rfl⟩,vF _,λx hx=>hsl▸hord x hx,λk=>by show 0+16*_<=320;omega⟩ ?_ ?_ (λ_ _ _ hF=>hF.elim) (λ_ _ _ hF=>hF.elim) (λ_ _ _ _ hF=>hF.elim)
  .rintro Xn r1 lp1 x rest vs1 ⟨P,om,m3,Gf,hh⟩ h7 X' FR ⟨hfold,hsh,hsgd,hown,h5h,hin,hcnt⟩ h57 hh7 hv hX' hXM hlp nx rt ex pn
   dsimp only at hfold hsh hsgd hown h5h hin hcnt hh7
   obtain rfl:=hv
   have hPl:P.signed.length=l.length:=by rw[hsgd];exact hsg
   have hD:=KS l
   have hx0:=hin x (List.mem_cons_self ..)
   have hx:0<=x/\x<((aG l).docs.length:Int):=by rw[hD];exact hx0
   have hxn:x.toNat<l.length:=by omega
   replace hown:=hown.mono hh7
   have oks7:=oks.mono h57
   have A7':=A7.mono h57
   have A11':=A11.mono h57
   have a4':=a4.mono h57
   have hs7:=hs4.mono vJ h57
   have hpd:=hown.done
   have hpl:=hown.lacks
   clear hh7
   refine cB (cS zc3 (λbi=>dK 0 ty3 U U U U U U (ck ?_)))
   let zi:Nat×Obj:=(bi,O [I x] 3)
   let zl:Nat×Obj:=(Xn,.loop { lp1 with state:=.busy })
   let zr:Nat×Obj:=(r1,.deferred (some []))
   refine nJ 1 U hlp (nI (eA (L':=[zi,zl,zr]++plB b5 b8 br P om Gf) (show[zi,zl,zr]++(plB b5 b8 br P om Gf++markB [])=_ from by simp[markB]) (eI (hU [zi] mixed kr jn (λhs4 _=>?_)))))
   refine tf 0 U U (rh ty153 A7' U) (tf 1 U U (λ_ _ _=>gK U) (qB [2,3] U (tf 4 U U (rh ty27 A11' U) (tf 5 U U (rj 0 ty3 U U U) (sY 6 hs4 jn MG ty54 oks7.docs.1 hx (eu hx) U U U U kr (λq1 cs1 B1 ln1 rr1=>?_))))))
   obtain⟨dr,rfl,okd⟩:=rr1
   refine tf 7 U U (λ_ _ hj=>s5 ty54 (B1.mono hj.1) U U) (tn 8 U (BH zc54 (λbd=>⟨jn,(tn 9 U (tl 0 ty54 U U U U U U ⟨jn,dJ kr ?_⟩))⟩)))
   generalize hdd:nthI (aG l).docs x=d at okd B1
   let zd:Nat×Obj:=(bd,O (aj.cells d dr) 54)
   have hdP:nthI P.shelf.docs x=d:=by rw[hsh];exact hdd
   have hdl:d∈l:=by have h9:=lu hx;rw[hdd,hD]at h9;exact h9
   have hgd:=hdr d hdl
   show TT _ _ _ _ _ _ _ _ h7 ([zd,zi,zl,zr]++plB b5 b8 br P om Gf)
   refine eI (hU [zd,zi] mixed kr jn (λhs5 _=>?_))
   refine tf 0 U U (rh ty153 A7' U) (tf 1 U U (λ_ _ _=>gK U) (qB [2] U (tf 3 U U (rH 4 ty31 A11' U U) (tf 4 U U (rj 1 ty3 U U U) (tf 5 U U (λ_ _ _=>nU (R:=jB) (xs:=P.lacks) (bk:=b8) (z:=x) fm ty3 U ob U (by simp[playP,hpl]) U) (tn 6 U (qi 5 (off:=x.toNat*1) (vs:=[I (-1)]) ty3 U U U U (Nat.ble_eq_true_of_le (by simp only[List.length_map,xA,xB];omega)) U ⟨jn,dJ kr (eA (L':=[zd,zi,zl,zr]++plB b5 b8 br { P with lacks:=P.lacks.set x.toNat (-1) } om Gf) (by rw[CM (jC .i64)];rfl) ?_)⟩)))))))
   have own1:zY h7 l.length b5 b8 br { P with lacks:=P.lacks.set x.toNat (-1) } om m3 Gf:=⟨hpd,by simpa using hpl,hown.map,hown.rev⟩
   refine qT 3 U (lT VX U (qm 0 ty31 U U U (aS (eb call170 (yA h7 d.eQ _ _ okd.eQ) U (λv8 h8 l8 hp8=>?_)))))
   obtain⟨rv8,rfl,hit8⟩:=hp8
   refine qO 2 U ?_
   refine Sv (it:=v8) (xs:=j9 d.eQ) 2 U (λdone h' L'=>h8.le h'/\zY h' l.length b5 b8 br (done.foldl (λq(z:Int×Int)=>playLack P.signed x q z.2) { P with lacks:=P.lacks.set x.toNat (-1) }) om m3 Gf/\L'=[zd,zi,zl,zr]++plB b5 b8 br (done.foldl (λq(z:Int×Int)=>playLack P.signed x q z.2) { P with lacks:=P.lacks.set x.toNat (-1) }) om Gf)
    rfl hit8 rfl zu (λ_ _ _ _ hl⟨a,b,c⟩=>⟨xD a hl,b.mono hl,c⟩) ⟨vF _,own1.mono l8,rfl⟩ ?_ ?_
   .rintro l2 lp2 done z rest2 vs2 h9 L9 X9 hxs h89 ⟨h89',own2,rfl⟩ hv2 hlp2 hX9 hXM9
    obtain rfl:=hv2
    obtain⟨Pm,hPm⟩:∃Pm,Pm=done.foldl (λq(z:Int×Int)=>playLack P.signed x q z.2) { P with lacks:=P.lacks.set x.toNat (-1) }:=⟨_,rfl⟩
    have hPs:Pm.shelf=aG l/\Pm.signed=vK:=by
     rw[hPm]
     have:∀(s:List (Int×Int))(QD:ff),QD.shelf=aG l/\QD.signed=vK->(s.foldl (λq(z:Int×Int)=>playLack P.signed x q z.2) QD).shelf=aG l/\(s.foldl (λq(z:Int×Int)=>playLack P.signed x q z.2) QD).signed=vK:=by
      intro s
      induction s with
      |nil=>intro QD h;exact h
      |cons y s ih=>intro QD h;obtain⟨a1,a2,_⟩:=AP P.signed x y.2 QD;exact ih _ ⟨a1.trans h.1,a2.trans h.2⟩
     exact this _ _ ⟨hsh,hsgd⟩
    rw[←hPm]at own2
    have l79:h7.le h9:=xD l8 h89
    have A79:=A7'.mono l79
    have B79:=A11'.mono l79
    refine qT 3 U (nJ 0 U hlp2 (nI ?_))
    rw[←hPm]
    refine eA (L':=[(l2,.loop { lp2 with state:=.busy }),zd,zi,zl,zr]++plB b5 b8 br Pm om Gf) U (eI (hU [zi] mixed kr jn (λhs8 _=>?_)))
    refine tf 0 U U (rh ty153 A79 U) (tf 1 U U (rh ty153 A79 U) (tf 2 U U (λ_ _ _=>gK U) (qB [3,4] U (tf 5 U U (rH 1 ty183 B79 U U) (tm 6 U (tf 8 U U (rh ty31 (a4'.mono l79) U) (tf 9 U U (rj 0 ty3 U U U) ?_)))))))
    have hxs:0<=x/\x<(vK.length:Int):=by omega
    refine jr 10 (enc:=λy=>[I y]) hs8 jn (λ_ _ _ e=>e) fm ty3 (hs7.mono vJ l79).1 hxs (eu hxs) U U U U kr (λq3 B3=>?_)
    refine tf 11 U U (rh ty3 B3 U) ?_
    obtain⟨mo,hmb,hmm⟩:=(oks7.mono l79).at_
    refine tn 7 U (ru (k:=z.2) Dp (im qZ) hmb hmm (gF zv3) (show Ao _ (I 0) 0 from U) U U (λv hv=>?_))
    obtain rfl:=hv
    refine⟨jn,?_⟩
    have hat:=O6 l ob z.2
    refine tn 12 U (T7 (v:=.tuple #[I (cu Pm (mgetD (aG l).at_ z.2 0) (nthI vK x)).1,I (cu Pm (mgetD (aG l).at_ z.2 0) (nthI vK x)).2]) call97 (λhz lz hall=>oy hz Pm (playR l.length sr0 bV bU b5 b8 br) ⟨b11,0,none⟩ (mgetD (aG l).at_ z.2 0) (nthI vK x)
     (own2.lent hln (hPs.1▸oks7.mono l79) (hPs.2▸hs7.mono vJ l79) lz (λp hp=>hall p (by simp only[qE,vC];exact .inr hp))) (by rw[I2 hPs.1 hPs.2 own2.done own2.lacks];exact(A11'.mono l79).mono lz) (by rw[hPs.1,hD];exact hat) (by rw[hPs.1,hD];exact⟨own2.done,own2.lacks⟩)) rfl ⟨jn,?_⟩)
    refine qR 13 5 U (dJ kr (qT 5 U ?_))
    have hlk:playLack P.signed x Pm z.2=bif(cu Pm (mgetD (aG l).at_ z.2 0) (nthI vK x)).1 != 0 then { Pm with lacks:=Pm.lacks.set x.toNat z.2 }else Pm:=by
     unfold playLack;rw[hPs.1,hsgd]
    have hnx:(done++[z]).foldl (λq(z:Int×Int)=>playLack P.signed x q z.2) { P with lacks:=P.lacks.set x.toNat (-1) }=playLack P.signed x Pm z.2:=by rw[List.foldl_append,hPm];rfl
    refine lL U (λc1=>?_) (λc1=>qT 2 U ?_)
    .refine hU [zi] mixed kr jn (λhs9 _=>?_)
     refine tf 0 U U (rh ty153 A79 U) (tf 1 U U (λ_ _ _=>gK U) (qB [2] U (tf 3 U U (rH 4 ty31 B79 U U) (tf 4 U U (rj 0 ty3 U U U) (tm 5 U ?_)))))
     have hml:=own2.lacks
     refine tf 6 U U (λ_ _ _=>nU (R:=jB) (xs:=Pm.lacks) (bk:=b8) (z:=x) fm ty3 U ob U (by simp[playP,hml]) U) (tn 7 U (qi 6 (off:=x.toNat*1) (vs:=[I z.2]) ty3 U U U U (Nat.ble_eq_true_of_le (by simp only[List.length_map,xA,xB];omega)) U ⟨jn,dJ kr (gU ?_)⟩))
     rw[c1,cond_true]at hlk
     refine eA (L':=(l2,.loop { lp2 with state:=.busy })::([zd,zi,zl,zr]++plB b5 b8 br { Pm with lacks:=Pm.lacks.set x.toNat z.2 } om Gf)) (by rw[CM (jC .i64)];rfl) ?_
     refine RB U ⟨h89',?_,?_⟩
     .rw[hnx,hlk];exact⟨own2.done,by simpa using hml,own2.map,own2.rev⟩
     rw[hnx,hlk]
    rw[c1,cond_false]at hlk
    refine RB U ⟨h89',?_,?_⟩
    .rw[hnx,hlk];exact own2
    rw[hnx,hlk];rfl
   rintro h9 L9 h89 ⟨h89',own2,rfl⟩
   obtain⟨Pm,hPm⟩:∃Pm,Pm=(j9 d.eQ).foldl (λq(z:Int×Int)=>playLack P.signed x q z.2) { P with lacks:=P.lacks.set x.toNat (-1) }:=⟨_,rfl⟩
   rw[←hPm]at own2
   rw[←hPm]
   have hPs:Pm.shelf=aG l/\Pm.signed=vK/\Pm.revoked=P.revoked:=by
    rw[hPm]
    have:∀(s:List (Int×Int))(QD:ff),QD.shelf=aG l/\QD.signed=vK/\QD.revoked=P.revoked->(s.foldl (λq(z:Int×Int)=>playLack P.signed x q z.2) QD).shelf=aG l/\(s.foldl (λq(z:Int×Int)=>playLack P.signed x q z.2) QD).signed=vK/\(s.foldl (λq(z:Int×Int)=>playLack P.signed x q z.2) QD).revoked=P.revoked:=by
     intro s
     induction s with
     |nil=>intro QD h;exact h
     |cons y s ih=>intro QD h;obtain⟨a1,a2,_,_,a5⟩:=AP P.signed x y.2 QD;exact ih _ ⟨a1.trans h.1,a2.trans h.2.1,a5.trans h.2.2⟩
    exact this _ _ ⟨hsh,hsgd,U⟩
   have hmid:playMid P x=Pm:=by unfold playMid;rw[hdP];exact hPm.symm
   have hstep:playStep P x=bif decide (nthI Pm.lacks x<0)then d.eX.foldl (playRevoke d) (playDone Pm x)else playDone Pm x:=by
    unfold playStep;rw[hmid,hdP]
   have l79:h7.le h9:=xD l8 h89
   have A79:=A7'.mono l79
   have B79:=A11'.mono l79
   have hmd:=own2.done
   have hml:=own2.lacks
   refine qT 2 U (hU [zd,zi] mixed kr jn (λhs11 _=>?_))
   refine tf 0 U U (rh ty153 A79 U) (tf 1 U U (λ_ _ _=>gK U) (qB [2] U (tf 3 U U (rH 3 ty168 B79 U U) (tf 4 U U (rj 1 ty3 U U U) (tf 5 U U (λ_ _ _=>nU (R:=vV) (xs:=Pm.done) (bk:=b5) (z:=x) Do ty4 U ob U (by simp[playP,hmd]) U) (tn 6 U (qi 4 (off:=x.toNat*1) (vs:=[.bool true]) ty4 U U U U (Nat.ble_eq_true_of_le (by simp only[List.length_map,xA,xB];omega)) U ⟨jn,dJ kr (eA (L':=[zd,zi,zl,zr]++plB b5 b8 br (playDone Pm x) om Gf) (by rw[CM vT];rfl) ?_)⟩)))))))
   have own3:zY h9 l.length b5 b8 br (playDone Pm x) om m3 Gf:=⟨by simpa[playDone]using hmd,hml,own2.map,own2.rev⟩
   have JB:∀{A:LH},Jst h9 [zi,(b8,.cells (Pm.lacks.map (jC .i64)).toArray 3 (0,0))] h9 ([zd,zi,zl,zr]++plB b5 b8 br (playDone Pm x) om A):=⟨vF _,λp hp=>by
    simp only[vC,vA,or_false]at hp
    rcases hp with rfl|rfl<;>simp[plB,playDone]⟩
   refine eI (hU [zi,(b8,.cells (Pm.lacks.map (jC .i64)).toArray 3 (0,0))] mixed kr JB (λhs12 _=>?_))
   refine j5 0 hs12 JB U U kr U (rh ty153 A79 U) (j5 1 hs12 JB U U kr U (λ_ _ _=>gK U) (j5 2 hs12 JB U U kr U (λ_ _ _=>AL UX U) (j5 3 hs12 JB U U kr U (rH 4 ty31 B79 U U) (j5 4 hs12 JB U U kr U (rj 0 ty3 U U U) (j5 5 hs12 JB U U kr U (λ_ _ _=>nU (R:=jB) (xs:=Pm.lacks) (bk:=b8) (z:=x) fm ty3 U ob U (by simp[playP,hml]) U) ?_)))))
   have hlx:(Pm.lacks.map (jC .i64))[x.toNat*1]? = some (I (nthI Pm.lacks x)):=by
    rw[Nat.mul_one,List.getElem?_map,eu ob];rfl
   refine j5 6 hs12 JB U U kr U (λ_ _ hj=>Ab ty3 U (hj.nth (i:=1) U) (by rw[ja];exact hlx)) (j5 7 hs12 JB U U kr U (λ_ _ _=>RF U) (dJ kr ?_))
   have hin':∀y∈rest,0<=y/\y<(l.length:Int):=λy hy=>hin y (List.mem_cons_of_mem _ hy)
   have h59:h5.le h9:=xD h57 l79
   refine lL U (λc1=>?_) (λc1=>qT 2 U ?_)
   .rw[c1,cond_true]at hstep
    have hrl:=hgd.revokes.2
    refine sr (lT VY U (qm 0 ty31 U U U (RJ fm U (qO 2 U ?_))))
    have hfin:∀(QD:ff)(oQ:Obj)(mQ:List (Int×Option Addr×Nat×Nat))(GQ:LH)(e':Env),QD=d.eX.foldl (playRevoke d) (playDone Pm x)->zY h9 l.length b5 b8 br QD oQ mQ GQ->QD.shelf=aG l->QD.signed=vK->(∀k,(mgetD QD.revoked k []).length<=(mgetD P.revoked k []).length+d.eX.length) ->
      TT prog (roundFrame Xn 96) 114 [.inBlock 1] FR e' [] X' h9 ([zd,zi,zl,zr]++plB b5 b8 br QD oQ GQ):=by
     intro QD oQ mQ GQ e' hQ ownQ hQs hQg hQc
     refine gU (ek (L':=[zl,zr]++plB b5 b8 br QD oQ GQ) js (eA (L':=rdH Xn r1 lp1 (plB b5 b8 br QD oQ GQ++markB [])) (by simp[markB,rdH,zl,zr]) ?_))
     refine nx (QD,oQ,mQ,GQ,h9) _ _ ⟨?_,hQs,hQg,ownQ,h59,hin',λk=>?_⟩ lf
     .rw[←hfold,zK,hstep,hQ]
     have h1':=hcnt k
     have h2':=hQc k
     simp only[xA]at h1'
     show(mgetD QD.revoked k []).length+16*rest.length<=320
     omega
    refine km (ι:=ff×Obj×List (Int×Option Addr×Nat×Nat)×LH) (λi=>[]) (λi=>h9) (λi=>[zd,zi,zl,zr]++plB b5 b8 br i.1 i.2.1 i.2.2.2)
     (λi=>i.1=d.eX.foldl (playRevoke d) (playDone Pm x)/\zY h9 l.length b5 b8 br i.1 i.2.1 i.2.2.1 i.2.2.2/\i.1.shelf=aG l/\i.1.signed=vK/\∀k,(mgetD i.1.revoked k []).length<=(mgetD P.revoked k []).length+d.eX.length) ?_ (λhx4=>?_)
    .rintro⟨QD,oQ,mQ,GQ⟩ ⟨q1,q2,q3,q4,q5⟩ e4
     exact hfin QD oQ mQ GQ _ q1 q2 q3 q4 q5
    refine mL (ι:=Nat×ff×Obj×List (Int×Option Addr×Nat×Nat)×LH) (λi=>[(7,Q b12),(9,Q bd),(91,.slice dr.uU d.eX.length dr.uT),(92,I (d.eX.length:Int)),(93,I (i.1:Int))]) (λi=>h9)
     (λi=>[zd,zi,zl,zr]++plB b5 b8 br i.2.1 i.2.2.1 i.2.2.2.2)
     (λi=>(d.eX.drop i.1).foldl (playRevoke d) i.2.1=d.eX.foldl (playRevoke d) (playDone Pm x)/\i.1<=d.eX.length/\zY h9 l.length b5 b8 br i.2.1 i.2.2.1 i.2.2.2.1 i.2.2.2.2/\i.2.1.shelf=aG l/\i.2.1.signed=vK/\∀k,(mgetD i.2.1.revoked k []).length<=(mgetD P.revoked k []).length+i.1)
     (λi=>d.eX.length-i.1) (0,playDone Pm x,om,m3,Gf) rd (λw hw=>hw) ⟨rfl,kJ _,own3,hPs.1,hPs.2.1,λk=>by show(mgetD Pm.revoked k []).length<=_;rw[hPs.2.2];omega⟩ ?_
    rintro⟨i,QD,oQ,mQ,GQ⟩ ⟨hfQ,hiQ,ownQ,hQs,hQg,hQc⟩ ag e5
    dsimp only at hfQ hiQ ownQ hQs hQg hQc
    show TT _ _ _ _ _ (upds e5 [(7,Q b12),(9,Q bd),(91,.slice dr.uU d.eX.length dr.uT),(92,I (d.eX.length:Int)),(93,I (i:Int))]) _ _ h9 ([zd,zi,zl,zr]++plB b5 b8 br QD oQ GQ)
    rcases vR i d.eX.length with hi|hi
    .have hgi:d.eX[i]? = some d.eX[i]:=List.getElem?_eq_getElem hi
     obtain⟨y,hy⟩:∃y,d.eX[i]=y:=⟨_,rfl⟩
     rw[hy]at hgi
     have hdrop:d.eX.drop i=y::d.eX.drop (i+1):=by rw[List.drop_eq_getElem_cons hi,hy]
     rw[hdrop,zK]at hfQ
     obtain⟨gb,gc,G1,G2,hget,hgrow,hperm,hput⟩:=ownQ.rev.get y
     have hcy:=hQc y
     have hcP:=hcnt y
     refine sr (tO (decide_eq_true ob) U (qO 8 U (aS (tW (enc:=λy=>[I y]) (λ_ _ _ e=>e) fm ty3 (okd.eX.mono vJ l79).1 (nthZ hgi) (jk hgi) U U U (λq6 B6=>?_)))))
     refine iw ty3 B6 U (an (hU [zd] mixed kr jn (λhs16 _=>?_)))
     refine tf 0 U U (rh ty153 A79 U) (tf 1 U U (λ_ _ _=>gK U) (qB [2] U (tf 3 U U (rH 5 ty133 B79 U U) (tm 4 U (tf 5 U U (rh ty153 A79 U) (tf 6 U U (λ_ _ _=>gK U) (qB [7] U (tf 8 U U (rH 5 ty133 B79 U U) (qB [9,11] U (tf 12 U U (rj 0 ty3 U U U) ?_))))))))))
     refine np 10 13 kr U U ?_ ?_
     .refine ve 6 (k:=y) Rg (im qZ) U ownQ.map (gF zv31) (show V3 _ (zSN) (none,0,0)from U) U U (λv hv=>?_)
      rw[hget]at hv
      obtain rfl:=hv
      refine⟨jn,(tn 13 U (cM (cells:=[I d.No]) fm ty3 zc3 U U kr (λbn=>⟨jn,?_⟩)))⟩
      let zn:Nat×Obj:=(bn,O [I d.No] 3)
      let z5:Nat×Obj:=(b5,O (QD.done.map vT) 4)
      refine tn 14 U (Ie (List.Perm.append_left ([zn,zd,zi,zl,zr,z5,(b8,.cells (QD.lacks.map (jC .i64)).toArray 3 (0,0)),(br,oQ)]:LH) hperm) (dN XZ [zn,zd,zi,zl,zr,z5,(b8,.cells (QD.lacks.map (jC .i64)).toArray 3 (0,0)),(br,oQ)] G2 (λG=>[zn,zd,zi,zl,zr,z5,(b8,.cells (QD.lacks.map (jC .i64)).toArray 3 (0,0)),(br,oQ)]++(G2++G)) U (λ_=>U) fm ty3 zc3 U bytes3 hgrow U U (gQ 0 U (show bW jB h9 [I d.No] [d.No]from⟨[I d.No],[],U,U,U,U⟩)) (by simp only[xA,xB]at *;omega) (by simp only[xA,xB]at *;omega) (λgb' gc' G1' hG'=>⟨jn,?_⟩)))
      exact Ut
     refine cM (cells:=[I d.No]) fm ty3 zc3 U U kr (λbn=>⟨jn,?_⟩)
     let zn:Nat×Obj:=(bn,O [I d.No] 3)
     let z5:Nat×Obj:=(b5,O (QD.done.map vT) 4)
     refine tn 10 U (ve 7 (k:=y) Rg (im qZ) U ownQ.map (gF zv31) (show V3 _ (zSN) (none,0,0)from U) U U (λv hv=>?_))
     rw[hget]at hv
     obtain rfl:=hv
     refine⟨jn,(tn 14 U (Ie (List.Perm.append_left ([zn,zd,zi,zl,zr,z5,(b8,.cells (QD.lacks.map (jC .i64)).toArray 3 (0,0)),(br,oQ)]:LH) hperm) (dN XZ [zn,zd,zi,zl,zr,z5,(b8,.cells (QD.lacks.map (jC .i64)).toArray 3 (0,0)),(br,oQ)] G2 (λG=>[zn,zd,zi,zl,zr,z5,(b8,.cells (QD.lacks.map (jC .i64)).toArray 3 (0,0)),(br,oQ)]++(G2++G)) U (λ_=>U) fm ty3 zc3 U bytes3 hgrow U U (gQ 0 U (show bW jB h9 [I d.No] [d.No]from⟨[I d.No],[],U,U,U,U⟩)) (by simp only[xA,xB]at *;omega) (by simp only[xA,xB]at *;omega) (λgb' gc' G1' hG'=>⟨jn,?_⟩))))⟩
     exact Ut
    refine sr (fO (decide_eq_false ob) U (qO 4 U ?_))
    have hie:i=d.eX.length:=by omega
    refine hx4 (QD,oQ,mQ,GQ) _ ⟨?_,ownQ,hQs,hQg,λk=>?_⟩ trivial
    .rw[hie,List.drop_length]at hfQ;exact hfQ
    have:=hQc k;show(mgetD QD.revoked k []).length<=_;omega
   rw[c1,cond_false]at hstep
   refine ek (L':=[zl,zr]++plB b5 b8 br (playDone Pm x) om Gf) js (eA (L':=rdH Xn r1 lp1 (plB b5 b8 br (playDone Pm x) om Gf++markB [])) (by simp[markB,rdH,zl,zr]) ?_)
   refine nx (playDone Pm x,om,m3,Gf,h9) _ _ ⟨?_,hPs.1,hPs.2.1,own3,h59,hin',λk=>?_⟩ lf
   .rw[←hfold,zK,hstep]
   have:=hcnt k
   simp only[xA]at this
   show(mgetD Pm.revoked k []).length+16*rest.length<=320
   rw[hPs.2.2];omega
  rintro r1 ⟨P,om,m3,Gf,hh⟩ h7 ⟨hfold,hsh,hsgd,hown,h5h,hin,hcnt⟩ hh7 h57
  dsimp only at hfold hsh hsgd hown h5h hin hcnt hh7
  replace hown:=hown.mono hh7
  have hPl:P.signed.length=l.length:=by rw[hsgd];exact hsg
  refine qT 3 U (iw ty153 (A7.mono h57) U (an (HT [] (plB b5 b8 br P om Gf) (markB [r1]) U hM (λh8 l8 hG=>?_))))
  have hP:P=co l vK aT:=hfold
  have okP:=hown.lent (sq:=sr0) (sb:=bV) (sc:=bU) hln (hsh▸oks.mono h57) (hsgd▸hs4.mono vJ h57) l8 hG
  exact uX [r1] [Q b11] func96 U rd ⟨⟨b11,0,none⟩,playR l.length sr0 bV bU b5 b8 br,U,hP▸okP,by
   rw[←hP,I2 hsh hsgd hown.done hown.lacks];exact A11.mono (xD h57 l8)⟩
 rintro⟨a,b,c,d,f,g,t⟩ e2 h2 L2 hI hμ
 dsimp only at hI hμ ⊢
 have hv:=hI.1
 refine Vq (plN a b c d f g t) ?_ ?_ (λi hi o ho=>?_)
 .clear hI hμ
  revert hv
  cases a<;>cases b<;>cases c<;>cases d<;>cases f<;>cases g<;>cases t<;>intro hv<;>first|exact absurd hv (by decide)|kernel_rfl
 .clear hI
  revert hv hμ
  cases a<;>cases b<;>cases c<;>cases d<;>cases f<;>cases g<;>cases t<;>intro hμ hv<;>first|exact absurd hv (by decide)|exact absurd rfl hμ|decide
 rcases VF hi with⟨rfl,rfl⟩|⟨rfl,rfl⟩|⟨rfl,rfl⟩|⟨rfl,rfl⟩|⟨rfl,ha,rfl⟩|⟨rfl,rfl,rfl⟩|⟨rfl,rfl⟩|⟨rfl,rfl,rfl,rfl,rfl,rfl,rfl⟩
 .obtain rfl:=Option.some.inj (show some _=some o from ho)
  exact Y7 (λ_ _ _ q=>⟨q.1,(true,b,c,d,f,g,t),by simp only[plM,cond_true,cond_false];omega,pmid (pmid (pmid (pmid (pmid (pmid (List.Perm.refl _)))))),q.2⟩) (Xt (hl.mono aj.aB l1) hI)
 .obtain rfl:=Option.some.inj (show some _=some o from ho)
  exact Y7 (λ_ _ _ q=>⟨q.1,(a,true,c,d,f,g,t),by simp only[plM,cond_true,cond_false];omega,pmid (pmid (pmid (pmid (pmid (List.Perm.refl _))))),q.2⟩) (Xs hln hI)
 .obtain rfl:=Option.some.inj (show some _=some o from ho)
  exact Y7 (λ_ _ _ q=>⟨q.1,(a,b,true,d,f,g,t),by simp only[plM,cond_true,cond_false];omega,pmid (pmid (pmid (pmid (List.Perm.refl _)))),q.2⟩) (Xr hln hI)
 .obtain rfl:=Option.some.inj (show some _=some o from ho)
  exact Y7 (λ_ _ _ q=>⟨q.1,(a,b,c,true,f,g,t),by simp only[plM,cond_true,cond_false];omega,pmid (pmid (pmid (List.Perm.refl _))),q.2⟩) (Xq hI)
 .obtain rfl:=Option.some.inj (show some _=some o from ho)
  exact Y7 (λ_ _ _ q=>⟨q.1,(a,b,c,d,f,true,t),by simp only[plM,cond_true,cond_false];omega,pmid (List.Perm.refl _),q.2⟩) (W9 ha hI)
 .obtain rfl:=Option.some.inj (show some _=some o from ho)
  exact Y7 (λ_ _ _ q=>⟨q.1,(a,b,c,d,f,true,true),by simp only[plM,cond_true,cond_false],List.Perm.refl _,q.2⟩) (W8 hI)
 .obtain rfl:=Option.some.inj (show some _=some o from ho)
  exact Y7 (λ_ _ _ q=>⟨q.1,(a,b,c,d,true,g,t),by simp only[plM,cond_true,cond_false];omega,pmid (pmid (List.Perm.refl _)),q.2⟩) (W7 hI)
 exact absurd U hμ
instance k96:Ct 96:=⟨_,call96,@un⟩
end
end Go.Sg
