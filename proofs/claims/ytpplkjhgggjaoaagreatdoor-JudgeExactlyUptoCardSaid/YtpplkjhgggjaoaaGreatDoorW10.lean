import Derived.Shelf.SlSortCmp.NoneTotal
import Derived.WalkKit
import Derived.Test.YtpplkjhgggjaoaaGreatDoorW9
/- A part of the proof of JudgeExactly. -/
set_option linter.unusedVariables false
set_option linter.unusedSimpArgs false
set_option maxRecDepth 100000
open List renaming length_cons→zA,length_append→jA,length_nil→jB,toArray→vB,mem_singleton→kC,append_assoc→qE,getElem?_eq_getElem→kF,getElem?_eq_none→vL,ext_getElem?→aBk
open Go.Sg.Rp renaming int→qC,aO→vG
open Go.Sg.Expr renaming cells→zC,ok→jF,mk→qG,jf→aAe
open Go.Sg.Appoint renaming mk→jC,rp→xH,aj→kP,cells→jR
open Go.IntKind renaming wrap→vC
open Go.Sg.Interest renaming cells→jD,rp→kM,mk→aAv
open Go.Sg.Policy renaming cells→kD,mk→xM,ok→zN
open Go.Sg.OSeat renaming cells→jE,enc→aAl,rp→aB9
open Go.Sg.SlC renaming nil→vE
open Go.Sg.HF renaming le_trans→zF,le→jM,le_refl→qP
open Nat renaming le_refl→xG,zero_le→jL,lt_or_ge→jP,le_trans→xS
open Go.Sg.Document renaming aj→zH,rp→vR
open Go.Sg.Approval renaming aj→jH,rp→kL,mk→qV
open Go.Obj renaming cells→kH
open Go.Sg.Register renaming mk→xJ,ok→zL,cells→xL
open Go.Sg.Version renaming aj→vM,rp→qQ,mk→aAZ
open Go.Sg.Deputy renaming cells→vN,aj→jS,rp→aAq,mk→aBc
open Array renaming getElem?_eq_getElem→aAd,getElem?_modify→aCm
open Go.Sg.Expr.ok renaming of→aAf
open Go.Sg.Budget renaming rp→aAk,mk→aAW,aj→aBu
open Go.Sg.Holder renaming cells→aAo,aj→aAV,rp→aBt,mk→aCG
open Go.Sg.Rule renaming mk→aBf
open Option renaming getD_some→aBv

namespace Go.Proofs
open Go.Shelf Go.RowKit Go.Lib Go.Sort
set_option maxHeartbeats 1000000 in
theorem Tryz.closure178(x y:Go.Sg.OSeat)(W:World):Calls Tryz.prog 178 #[.agg (Go.Sg.OSeat.cells x).toArray,.agg (Go.Sg.OSeat.cells y).toArray] W λe w'=>e=.returned (.int .i64 (Lib.compareInt x.person y.person))/\∃q os',w'=grow (W.drewN q) os':=by
 have hcon:=λW'=>Tryz.cmp_Compare_int x.person y.person W'
 generalize Lib.compareInt x.person y.person=r at hcon ⊢
 unfold Go.Sg.OSeat.cells
 go_enter Tryz.func178,Tryz.ntmps178
 go_wp2_with (go_at_call 118;refine(hcon _).mono ?_;rintro e w' ⟨rfl,rfl⟩)
 go_ret
 exact⟨rfl,0,_,by rw[alloc_eq_grow,alloc_eq_grow,grow_grow];rfl⟩
theorem Tryz.ltSeat(x y:Go.Sg.OSeat):ltOf (λx y:Go.Sg.OSeat=>Lib.compareInt x.person y.person) x y=decide (x.person<y.person):=by
 unfold ltOf Lib.compareInt
 by_cases h1:x.person<y.person
 .simp[h1]
 .by_cases h2:y.person<x.person<;>simp[h1,h2]
theorem Tryz.swoSeat:SWO (ltOf λx y:Go.Sg.OSeat=>Lib.compareInt x.person y.person) where
 irrefl x:=by rw[Tryz.ltSeat];simp
 trans x y z h1 h2:=by rw[Tryz.ltSeat]at *;simp at *;omega
 ntrans x y z h1 h2:=by rw[Tryz.ltSeat]at *;simp at *;omega
end Go.Proofs
namespace Go.Sg
open Go.Proofs Go.Proofs.Tryz Go.RowKit Go.Sort
theorem CH{h:HF}:∀{cl:List Value}{xs:List OSeat},bI aB9 h cl xs->cl=xs.flatMap jE
 |_,[],hc=>hc
 |_,x::xs,⟨cs,rest,e,_,hr,hc⟩=>by
  have:cs=jE x:=hr
  rw[e,this,CH hc];rfl
theorem Dg(h:HF):∀xs:List OSeat,bI aB9 h (xs.flatMap jE) xs
 |[]=>rfl
 |x::xs=>⟨jE x,xs.flatMap jE,rfl,rfl,rfl,Dg h xs⟩
theorem GK:∀(xs:List OSeat)(j:Nat),j<xs.length*2->(xs.flatMap jE)[j]? = some ((jE (xs.getD (j/2) default)).getD (j%2) undef)
 |[],j,hj=>by simp at hj
 |x::xs,0,_=>by simp[jE]
 |x::xs,1,_=>by simp[jE]
 |x::xs,j+2,hj=>by
  have ih:=GK xs j (by simp at hj;omega)
  simp only[List.flatMap_cons]
  rw[List.getElem?_append_right (by simp[jE])]
  simp only[jE,zA,jB]
  rw[show j+2-(0+1+1)=j from by omega,show(j+2)/2=j/2+1 from by omega,show(j+2)%2=j%2 from by omega]
  simpa[jE]using ih
theorem rK(xs:List OSeat):(xs.flatMap jE).length=xs.length*2:=by
 induction xs with
 |nil=>rfl
 |cons x xs ih=>rw[List.flatMap_cons,jA,ih];simp[jE];omega
theorem Fv(xs:List OSeat):(flatK jE 2 xs.toArray).toList=xs.flatMap jE:=by
 apply aBk
 intro j
 rcases jP j (xs.length*2)with hj|hj
 .rw[GK xs j hj]
  have h1:=get_flatK jE 2 xs.toArray j (by simpa using hj)
  have h2:j<(flatK jE 2 xs.toArray).size:=by rw[size_flatK];simpa using hj
  rw[getElem!_pos _ j h2]at h1
  rw[Array.getElem?_toList,aAd h2,h1]
  have h3:j/2<xs.length:=by omega
  congr 1
  rw[getElem!_pos xs.toArray (j/2) (by simpa using h3)]
  have h4:j%2<2:=Nat.mod_lt _ (by omega)
  simp only[List.getElem_toArray,List.getD,kF h3,aBv]
  rw[getElem!_pos _ (j%2) (by simpa[jE]using h4)]
  rw[kF (by simpa[jE]using h4),aBv]
 .rw[vL (by rw[Array.length_toList,size_flatK];simpa using hj),vL (by rw[rK];exact hj)]
theorem I3(F cur:Array Value)(h:F.size<=cur.size):(putCells id 0 F cur).toList=F.toList++cur.toList.drop F.size:=by
 apply aBk
 intro j
 rcases jP j cur.size with hj|hj
 .have e1:(putCells id 0 F cur).toList[j]? = some (if j<F.size then F[j]! else cur[j]):=by
   rw[Array.getElem?_toList]
   simp[putCells,hj]
  rw[e1]
  rcases jP j F.size with h1|h1
  .rw[if_pos h1,List.getElem?_append_left (by simpa using h1),Array.getElem?_toList,aAd h1,getElem!_pos _ j h1]
  .rw[if_neg (by omega),List.getElem?_append_right (by simpa using h1),List.getElem?_drop,Array.getElem?_toList,Array.length_toList,show F.size+(j-F.size)=j from by omega,aAd hj]
 .rw[vL (by simpa[putCells]using hj),vL (by simp;omega)]
theorem Ox{w:World}{g n:Nat}{os:Array Obj}{cur:Array Value}{e:TypeId}{fr:Nat×Nat}(d:Array Value)(hb:w.heap[g]? = some (.cells cur e fr)):
  (grow (putRow id (Sort.ahead w n) g 0 d) os).heap[g]? = some (.cells (putCells id 0 d cur) e fr):=by
 have hg:g<w.heap.size:=(Array.getElem?_eq_some_iff.1 hb).1
 rw[heap_grow_old _ _ (by simpa using hg)]
 simp[putRow,mapBlock,Sort.ahead,aCm,hb,onCells]
theorem MT{w:World}{g n:Nat}{os:Array Obj}(d:Array Value):(grow (putRow id (Sort.ahead w n) g 0 d) os).os=w.os/\(grow (putRow id (Sort.ahead w n) g 0 d) os).tape=w.tape/\(grow (putRow id (Sort.ahead w n) g 0 d) os).output=w.output /\
  w.heap.size<=(grow (putRow id (Sort.ahead w n) g 0 d) os).heap.size/\∀k,k<w.heap.size->k≠g->(grow (putRow id (Sort.ahead w n) g 0 d) os).heap[k]? = w.heap[k]?:=by
 refine⟨rfl,rfl,rfl,by simp[putRow,mapBlock,Sort.ahead],λk hk hne=>?_⟩
 rw[heap_grow_old _ _ (by simpa using hk)]
 simp[putRow,mapBlock,Sort.ahead,aCm,Ne.symm hne]
theorem ut(h:HF)(xs:List OSeat)(b:Option Addr)(c:Nat)(G:LH)(hG:dG aB9 182 h xs b c G)(hsz:xs.length<=1000000000000):
  od prog 274 [.slice b xs.length c,.func (.func 178) #[] #[]].toArray h G (λr h' G'=>h'=h/\r=.returned (.tuple #[])/\∃ys,ys.Perm xs/\ys.Pairwise (λx y=>x.person<=y.person)/\dG aB9 182 h ys b c G'):=by
 intro w hp
 rcases hG with⟨rfl,rfl,rfl,rfl⟩|⟨bk,cl,sp,rfl,hcl,hlen,hcap,hmax,rfl⟩
 .refine(kn (AnyF.slices_SortFunc_none Tryz.sortSeat none 0 (.func (.func 178) #[] #[]) w) (λw' hw=>by cases hw.1)).mono ?_
  rintro e w' ⟨rfl,rfl⟩
  exact⟨h,[],St.start hp,rfl,rfl,[],List.Perm.refl _,List.Pairwise.nil,dG.nil⟩
 .have hb:=hp.own _ (kC.2 rfl)
  simp only at hb
  have hcl':=CH hcl
  subst hcl'
  have hfl:=Fv xs
  have hH:HoldsK jE 2 w bk 0 xs.toArray:=by
   intro j hj
   rw[size_flatK]at hj
   have hj':j<xs.length*2:=by simpa using hj
   refine⟨?_,by simp[World.frozen?,hb]⟩
   have h2:j<(flatK jE 2 xs.toArray).size:=by rw[size_flatK];exact hj
   have h3:(flatK jE 2 xs.toArray).toList[j]? = some (flatK jE 2 xs.toArray)[j]!:=by
    rw[Array.getElem?_toList,aAd h2,getElem!_pos _ j h2]
   rw[hfl]at h3
   have h4:(xs.flatMap jE++sp)[j]? = some (flatK jE 2 xs.toArray)[j]!:=by
    rw[List.getElem?_append_left (by rw[rK];exact hj')];exact h3
   simp only[World.cell?,hb,Nat.zero_add]
   simpa using h4
  have eg:∀args w,(callFunc 178 args).run prog w=.ok (.enter 178 args) w:=call178
  have hcall:=AnyQ.slices_SortFunc Tryz.sortSeat 2 Tryz.isAgg182 Tryz.sizeOf182 jE (λ_=>rfl) (λx v hv=>by simp[jE]at hv;rcases hv with rfl|rfl<;>rfl)
   (λx y=>Lib.compareInt x.person y.person) Tryz.swoSeat 178 #[] bk 0 c xs.toArray w eg (λ_ _ _ _ x y=>Tryz.closure178 x y _) hH (ib hb) (by simp;omega)
  change Calls prog 274 _ _ _ at hcall
  rw[List.size_toArray]at hcall
  refine(kn hcall (λw' hw=>by cases hw.1)).mono ?_
  rintro e w' ⟨rfl,d',n,os,⟨hds,_,hperm⟩,hsorted,rfl⟩
  have hds':d'.size=xs.length:=by simpa using hds
  have hF:(flatK jE 2 d').toList=d'.toList.flatMap jE:=by have:=Fv d'.toList;simpa using this
  have hFs:(flatK jE 2 d').size=xs.length*2:=by rw[size_flatK,hds']
  obtain⟨g1,g2,g3,g4,g5⟩:=MT (w:=w) (g:=bk) (n:=n) (os:=os) (flatK jE 2 d')
  have hnew:=Ox (w:=w) (g:=bk) (n:=n) (os:=os) (flatK jE 2 d') hb
  have hcur:(putCells id 0 (flatK jE 2 d') (xs.flatMap jE++sp).toArray).toList=d'.toList.flatMap jE++sp:=by
   rw[I3 _ _ (by rw[hFs,←rK];simp),hF,hFs]
   congr 1
   rw[←rK]
   exact List.drop_left' rfl
  have hcur':putCells id 0 (flatK jE 2 d') (xs.flatMap jE++sp).toArray=(d'.toList.flatMap jE++sp).toArray:=by rw[←hcur]
  rw[hcur']at hnew
  have hperm':d'.toList.Perm xs:=by
   have e1:d'.extract 0 xs.length=d':=by rw[←hds'];simp
   have e2:xs.toArray.extract 0 xs.length=xs.toArray:=by simp
   rw[e1,e2]at hperm;exact hperm
  refine⟨h,[(bk,.cells (d'.toList.flatMap jE++sp).toArray 182 (0,0))],⟨g1,g2,g3,g4,λk hk hM=>g5 k hk (λe=>hM (by subst e;simp)),λ_ _ e=>e,λ_ _=>rfl,λk o e=>?_,λq hq=>?_,?_,?_,?_⟩,rfl,rfl,d'.toList,hperm',?_,?_⟩
  .have hne:k≠bk:=λe'=>by
    have:=hp.free _ (kC.2 rfl)
    simp only at this
    rw[e',this]at e;cases e
   exact(g5 k (ib (hp.imm k o e)) hne).trans (hp.imm k o e)
  .rw[kC.1 hq];exact hnew
  .simp
  .intro q hq;rw[kC.1 hq];exact hp.free (bk,kH (xs.flatMap jE++sp).toArray 182 (0,0)) (kC.2 rfl)
  .intro q hq;rw[kC.1 hq];exact .inr (by simp)
  .rw[List.pairwise_iff_getElem]
   intro i j hi hj hij
   have hj':j<d'.size:=by simpa using hj
   have hi':i<d'.size:=by simpa using hi
   have:=hsorted i j (jL _) hij (by omega)
   rw[Tryz.ltSeat,getElem!_pos _ j hj',getElem!_pos _ i hi']at this
   simp only[Array.getElem_toList]
   simpa using this
  .refine .inr ⟨bk,d'.toList.flatMap jE,sp,rfl,Dg h _,?_,?_,?_,rfl⟩
   .rw[jA,rK,hperm'.length_eq,←rK,←jA];exact hlen
   .rw[hperm'.length_eq];exact hcap
   .rw[hperm'.length_eq];exact hmax
theorem tR(h:HF)(it:Value)(ks:List OSeat)(hit:FS prog it (λ(k:OSeat)(_:HF)(vs:List Value)=>vs=[aAl k]) (λxs=>xs.Perm ks) h)(hk:ks.length<=1000000000000):
  j1 prog 179 [it,.func (.func 178) #[] #[]] h (λv h'=>∃(b:Option Addr)(c:Nat)(ys:List OSeat),ys.Perm ks/\ys.Pairwise (λx y=>x.person<=y.person)/\v=.slice b ys.length c/\SlC aB9 h' b c ys):=by
 refine cJ func179 rfl ntmps179 rfl λX hM hX=>?_
 refine el (bE (gj (aJ (el (bE (av ?_))))))
 refine aC (AK call273 (FW h it _ hit (λxs hx=>by rw[hx.length_eq];exact hk)) rfl (λh' xs bb c G hle hxs hG=>?_))
 refine gj (aJ (el (bE (av (av ?_)))))
 refine aC (nd [] G [] call274 (ut h' xs bb c G hG (by rw[hxs.length_eq];exact hk)) (by simp) rfl (λG' hG'=>?_))
 obtain⟨ys,hp,hs,hG'⟩:=hG'
 refine aJ (el (bE (av (gj (aJ ?_)))))
 refine fF OSeat.aj [] G' [] (by simp) hM hG' (λh2 hle2 sl=>?_)
 exact jx [.slice bb xs.length c] func179 rfl ⟨rfl,trivial⟩ ⟨bb,c,ys,hp.trans hxs,hs,by rw[hp.length_eq];rfl,sl⟩
end Go.Sg

namespace Go.Sg
open Go.Proofs Go.Proofs.Tryz
set_option maxHeartbeats 2000000
theorem w7(h:HF)(m:List (OSeat×Appoint))(KA:Nat)(m_q:Addr)(office:Int)(office_q:Addr)(hm:s7 aAl (iT xH) h KA m)(am:At h m_q [.map (some KA)])(aoffice:At h office_q [I office])(hsz:m.length<=1000000000):Itr prog (.func (.func 177) #[] (vB [.pointer (some m_q),.pointer (some office_q)])) ox (cj m office) h:=by
 refine sE call177 ?_
 intro yf ya yb C Sp Pn h1 A hle m1 m2 m3 hC hy
 refine jg Ni U ntmps177 U λX hXM hX=>?_
 have hs0:cj m office=[]++cj m office:=rfl
 refine qT 6 U (dh ty162 (am.mono hle) U (aC (cS call180 (xg h1 m KA (hm.mono (iT.mono kP) hle)) U (λv1 h2 hle1 hp1=>av (aC (cS call179 (tR h2 v1 (m.map Prod.fst) hp1 (by rw[List.length_map];omega)) U (λv2 h3 hle2 hp2=>?_)))))))
 obtain⟨rb1,rc1,ys_,hper_,hsrt_,rfl,sl1⟩:=hp2
 have Rj:cj m office=[]++((cj.L1 m office (cj.K1)) ys_):=Gh (by obtain⟨_,_,q⟩:=hm;exact q.nodup) hper_ hsrt_
 refine qL 3 [] U ?_
 refine lp2 ys_ (λi w=>[(0,.func yf ya yb),(1,.pointer (some m_q)),(2,.pointer (some office_q)),(11,.slice rb1 ys_.length rc1),(12,I (ys_.length:Int)),(13,I (i:Int))]) (λw=>w.2.2) (λw=>w.2.1) (λi w=>C w.1 w.2.2 w.2.1/\jM h3 w.2.2) (λs1 i w=>w.1++(cj.L1 m office (cj.K1)) s1) ([],A,h3) sl1.1.1 Rj ⟨(m1 _ _ _ _ (hle1.t hle2) hC),lf⟩ ?_ ?_
 .rintro i1 ⟨dn1,A1_,hh1⟩ fp hs1 ⟨hC1_,hl1⟩ e
  refine et ?_
  have hs2:cj m office=dn1:=hs1.trans (List.append_nil _)
  exact sF [] (A:=A1_) Ni U (List.Sublist.refl _) (.inl (hs2▸hC1_))
 rintro i1 ⟨dn1,A1_,hh1⟩ y1 rz1 hd1 dj aY er gr hs3 ⟨hC1_,hl1⟩ hx1 ag1 e
 refine sr (tO dj U (qO 8 U (aC (iF jE P4 ty182 (sl1.mono OSeat.aj hl1).1 aY U U U (λq2 A2=>dz ty182 A2 U U (ba zc182 (λb3=>aQ 0 ty182 U U U U U U (il (L':=[(b3,O (jE y1) 182)]++(A1_)) U (qO 3 U (dh ty162 (am.mono (((hle.t hle1).t hle2).t hl1)) U (cK 0 ty182 U U U ?_)))))))))))
 obtain⟨o2,hb2,hm2⟩:=(hm.mono (iT.mono kP) (((hle.t hle1).t hle2).t hl1))
 refine aC (nD (k:=y1) Ld uY hb2 hm2 (e8 zv89) (show(iT xH) _ (.agg (vB [I 0,I 0,I 0,I 0,I 0,I 0,.bool false])) (jC 0 0 0 0 0 0 false)from⟨_,U,U⟩) U U (λv4 hv2=>?_))
 obtain⟨_,rfl,rfl⟩:=hv2
 refine ba zc89 (λb4=>aQ 0 ty89 U U U U U U (il (L':=[(b4,O (jR (mgetD m y1 (jC 0 0 0 0 0 0 false))) 89),(b3,O (jE y1) 182)]++(A1_)) U (qL 5 [1] U (dh ty3 (aoffice.mono (((hle.t hle1).t hle2).t hl1)) U (qO 2 U (bj 4 [24,25,26,27,28] 24 28 (!((mgetD m y1 (jC 0 0 0 0 0 0 false)).Gone)) U (λc1 hk1=>?_) (λe=>?_)))))))
 .exact qL 4 [0] U (hk1 _ U)
 refine av (us 29 U (λc2=>?_) (λc2=>?_))
 .have hs4:=hs3.trans (congrArg (dn1++·) (bt c2))
  refine qL 5 [0,0] U (aC (fN (cells:=[I ((mgetD m y1 (jC 0 0 0 0 0 0 false)).Person),I ((mgetD m y1 (jC 0 0 0 0 0 0 false)).Weight)]) (places:=[(0,1),(1,1)]) underlying158 zc158 kr kr ?_))
  have hx1:cj m office=dn1++((aCG ((mgetD m y1 (jC 0 0 0 0 0 0 false)).Person) ((mgetD m y1 (jC 0 0 0 0 0 0 false)).Weight))::(cj.L1 m office (cj.K1) rz1)):=hs4
  refine aC (kp ([(b4,O (jR (mgetD m y1 (jC 0 0 0 0 0 0 false))) 89),(b3,O (jE y1) 182)]) A1_ ap (hy dn1 (aCG ((mgetD m y1 (jC 0 0 0 0 0 0 false)).Person) ((mgetD m y1 (jC 0 0 0 0 0 0 false)).Weight)) _ _ _ _ hx1 ((hle1.t hle2).t hl1) hC1_ U) U U (λh4 A3 hle3 hC1=>?_) (λh5 A4 hle4 hS1=>?_) (λch1 h6 A5 hle5 hP1 e=>gH (mP [] (A:=A5) Ni (List.sublist_append_right _ _) hP1)))
  .have hs5:cj m office=(dn1++[(aCG ((mgetD m y1 (jC 0 0 0 0 0 0 false)).Person) ((mgetD m y1 (jC 0 0 0 0 0 0 false)).Weight))])++((cj.L1 m office (cj.K1) rz1)):=hx1.trans ap
   exact mU U (qO 6 U (oi i1 U (qO 2 U (bz (L':=A3) js (ag1 ((dn1++[(aCG ((mgetD m y1 (jC 0 0 0 0 0 0 false)).Person) ((mgetD m y1 (jC 0 0 0 0 0 0 false)).Weight))]),A3,h4) hs5 ⟨hC1,(hl1.t hle3)⟩)))))
  exact mU U (qO 3 U (et (mF [] (A:=A4) Ni U js (.inr hS1))))
 have hs6:=hs3.trans (congrArg (dn1++·) (bf c2))
 exact kq (qO 12 U (oi i1 U (qO 2 U (bz (L':=A1_) js (ag1 (dn1,A1_,hh1) hs6 ⟨hC1_,hl1⟩)))))
theorem zz(h:HF)(m:List (OSeat×Appoint))(KA:Nat)(office:Int)(hm:s7 aAl (iT xH) h KA m)(hsz:m.length<=1000000000):j1 prog 92 [.map (some KA),I office] h (λv h'=>∃(rv0:Value),v=rv0/\Itr prog rv0 ox (iN m office) h'):=by
 refine sT func92 U ntmps92 U λX hM hX hF=>?_
 have hs0:iN m office=iN m office:=rfl
 refine sr (cy (λb1=>cy (λb2=>qO 4 U (aX 1 U hM (λh1 hle1 hb1=>aX 0 U hM (λh2 hle2 hb2=>aC (eG U U (an ?_))))))))
 have hs1:iN m office=(cj m office):=hs0
 exact nretH [.func (.func 177) #[] #[Q b1,Q b2]] ⟨(.func (.func 177) #[] #[Q b1,Q b2]),congrArg (λr:List Holder=>((.func (.func 177) #[] #[Q b1,Q b2]):Value)) hs1.symm,(by rw[hs1];exact(w7 h2 m KA ⟨b1,0,none⟩ office ⟨b2,0,none⟩ (hm.mono (iT.mono kP) (hle1.t hle2)) ((cA hb1).mono hle2) (cA hb2) ob))⟩
theorem sA(h:HF)(l:List Appoint)(eP:Option Addr)(eO:Nat)(office:Int)(bp:Int)(known:Int)(hl:SlC xH h eP eO l)(hsz:l.length<=2000000):j1 prog 24 [.slice eP l.length eO,I office,I bp,I known] h (λv h'=>∃(rb0:Option Addr)(rc0:Nat),v=.tuple #[.slice rb0 ((cW l office bp known).1).length rc0,I ((cW l office bp known).2)]/\SlC aBt h' rb0 rc0 ((cW l office bp known).1)):=by
 refine sT func24 U ntmps24 U λX hM hX hF=>?_
 have hs0:cW l office bp known=cW l office bp known:=rfl
 refine qT 9 U (ai call65 (pK _ _ _ _ hl) U (qO 7 U (ae hs0 U (λc1 hs1=>?_) (λc1 hs2=>?_))))
 .refine qT 6 U ?_
  have hs3:cW l office bp known=([],(dg l)):=hs1
  exact nretH [.slice none 0 0,I (dg l)] ⟨none,0,congrArg (λr:(List Holder×Int)=>(.tuple #[.slice none r.1.length 0,I r.2]:Value)) hs3.symm,(by rw[hs3];exact vE)⟩
 refine qT 5 U (ai NE (lU h office) U (qO 2 U (bV 4 [18,19,20,21,22] 18 22 (!(dv bp)) U (λc2 hk1=>?_) (λe=>?_))))
 .exact av (ai DX (iZ h bp) U (qO 2 U (hk1 _ U)))
 refine av (bV 4 [23,24,25,26,27] 23 27 (!(dv known)) U (λc3 hk2=>?_) (λe=>?_))
 .exact av (ai DX (iZ h known) U (qO 2 U (hk2 _ U)))
 refine aJ (ae hs2 U (λc4 hs4=>?_) (λc4 hs5=>?_))
 .refine qT 5 U ?_
  have hs6:cW l office bp known=([],1):=hs4
  exact nretH [.slice none 0 0,I 1] ⟨none,0,congrArg (λr:(List Holder×Int)=>(.tuple #[.slice none r.1.length 0,I r.2]:Value)) hs6.symm,(by rw[hs6];exact vE)⟩
 refine qT 6 U (aC (cS call93 (rl _ _ _ _ bp known hl) U (λv1 h1 hle1 hp1=>?_)))
 obtain⟨rk1,rfl,mo1⟩:=hp1
 refine av (aC (cS call92 (zz h1 (dx l bp known) rk1 office mo1 (by have:=uQ l bp known;omega)) U (λv2 h2 hle2 hp2=>?_)))
 obtain⟨_,rfl,mo2⟩:=hp2
 refine aC (cS call91 (tU h2 (iN (dx l bp known) office) v2 mo2 (by have h1:=uQ l bp known;have h2:=C4 (dx l bp known) office;omega)) U (λv3 h3 hle3 hp3=>?_))
 obtain⟨rb1,rc1,rfl,sl1⟩:=hp3
 refine qO 3 U ?_
 have hs7:cW l office bp known=((fT (iN (dx l bp known) office)),0):=hs5
 exact nretH [.slice rb1 ((fT (iN (dx l bp known) office)).length) rc1,I 0] ⟨rb1,rc1,congrArg (λr:(List Holder×Int)=>(.tuple #[.slice rb1 r.1.length rc1,I r.2]:Value)) hs7.symm,(by rw[hs7];exact sl1)⟩
theorem tB(h:HF)(who:List Int)(rS:Option Addr)(rR:Nat)(hwho:SlC qC h rS rR who):Ret prog 96 [.slice rS who.length rR] h (.bool (eV who)):=by
 refine sT func96 U ntmps96 U λX hM hX hF=>?_
 have hs0:eV who=eV who:=rfl
 refine qK 15 [] U ?_
 refine lp1 who (λi w=>[(3,I w),(6,.slice rS who.length rR),(7,I (who.length:Int)),(8,I (i:Int))]) ([]) (λs1 i w=>(eV.L1 (eV.K1)) s1 w) (-1) hwho.1.1 hs0 ?_ ?_
 .rintro i1 iB fp hs1 e
  exact sr (an (nretP [.bool true] (cs hs1)))
 rintro i1 iB y1 rz1 hd1 dj aY er gr hs3 hx1 ag1 e
 refine sr (tO dj U (qO 8 U (aC (iF (λy=>[I y]) dY ty3 hwho.1 aY U U U (λq2 A2=>dh ty3 A2 U (qO 9 U (bV 3 [15,16,17,18] 15 18 (decide (64<=y1)) U (λc1 hk1=>?_) (λe=>?_))))))))
 .exact av (qO 2 U (hk1 _ U))
 refine aJ (ae hs3 U (λc2 hs4=>?_) (λc2 hs5=>?_))
 .exact sr (an (nretP [.bool false] (cs hs4)))
 exact aN (qT 6 U (oi i1 U (qO 2 U (ag1 y1 hs5))))
theorem BT(h:HF)(holders:List (List Holder))(kw:Option Addr)(kv:Nat)(offices:Int)(hholders:SlC (Rp.sl aBt) h kw kv holders)(hsz0:∀y∈holders,y.length<=2000000):Ret prog 95 [.slice kw holders.length kv,I offices] h (.bool (eD holders offices)):=by
 refine sT func95 U ntmps95 U λX hM hX hF=>?_
 have hs0:eD holders offices=eD holders offices:=rfl
 refine qK 11 [] U ?_
 refine lp2 holders (λi w=>[(0,.slice kw holders.length kv),(1,I offices),(10,.slice kw holders.length kv),(11,I (holders.length:Int)),(12,I (i:Int))]) (λw=>w) (λw=>[]) (λi w=>jM h w) (λs1 i w=>(eD.L1 (eD.K1 holders offices)) s1) h hholders.1.1 hs0 lf ?_ ?_
 .rintro i1 hh1 fp hs1 hl1 e
  try dsimp only at hl1
  exact qK 8 [] U (nretP [.bool ((holders.length:Int)==offices)] (cs hs1))
 rintro i1 hh1 y1 rz1 hd1 dj aY er gr hs3 hl1 hx1 ag1 e
 try dsimp only at hl1
 have hszy:=hsz0 y1 (fX hd1)
 refine sr (tO dj U (qO 8 U (aC (iG Iu ty68 (hholders.mono (Rp.s9 aAV) hl1).1 aY U U U (λq3 cs2 A3 ln2 rr2=>?_)))))
 obtain⟨rb2,rc2,rfl,sl2⟩:=rr2
 refine dh ty68 A3 U (qL 13 [] U ?_)
 refine lp2 y1 (λi w=>[(0,.slice kw holders.length kv),(1,I offices),(7,.slice w.2.1 w.1.length w.2.2.1),(10,.slice kw holders.length kv),(11,I (holders.length:Int)),(12,I (i1:Int)),(16,.slice rb2 y1.length rc2),(17,I (y1.length:Int)),(18,I (i:Int))]) (λ_=>hh1) (λw=>w.2.2.2) (λi w=>dG qC 3 hh1 w.1 w.2.1 w.2.2.1 w.2.2.2/\w.1.length<=0+i) (λs3 i w=>(eD.L3 (λzg3_7=>(bif(!(eV zg3_7))then false else(eD.L1 (eD.K1 holders offices) rz1)))) s3 w.1) ([],none,0,[]) sl2.1.1 hs3 ⟨dG.nil,lo⟩ ?_ ?_
 .rintro i3 ⟨MV,Q2,Q1,OD⟩ xn hs4 ⟨Jz,OC⟩ e
  try dsimp only at Jz OC
  refine qT 3 U (m7 vG ([]) OD ([]) ap hM Jz (λh1 hle1 sl3=>ai call96 (tB _ _ _ _ sl3) U (qO 2 U (ae hs4 U (λc2 hs5=>?_) (λc2 hs6=>?_)))))
  .exact sr (an (nretP [.bool false] (cs hs5)))
  exact aN (qT 2 U (oi i1 U (qO 2 U (ag1 h1 hs6 (hl1.t hle1)))))
 rintro i3 ⟨MV,Q2,Q1,OD⟩ y3 rz3 hd3 Cl C6 C5 PJ hs8 ⟨Jz,OC⟩ hx3 ag2 e
 try dsimp only at Jz OC
 refine sr (tO Cl U (qO 8 U (aC (iF aAo Nj ty158 sl2.1 C6 U U U (λq5 A5=>dz ty158 A5 U U (ba zc158 (λb3=>aQ 0 ty158 U U U U U U (il (L':=[(b3,O (aAo y3) 158)]++(OD)) U (qL 8 [0] U (bV 4 [25,26,27,28,29] 25 29 (decide (64<y3.Weight)) U (λc3 hk1=>?_) (λe=>?_)))))))))))
 .exact qL 4 [0] U (hk1 _ U)
 refine aJ (ae hs8 U (λc4 hs9=>?_) (λc4 hs10=>?_))
 .exact sr (an (nretP [.bool false] (cs hs9)))
 exact qK 5 [0] U (aC (bK (cells:=[I y3.Person]) dY ty3 zc3 U U kr (λb4=>aC (dK Rp.iK ([(b4,O [I y3.Person] 3),(b3,O (aAo y3) 158)]) ([]) (λG=>[(b4,O [I y3.Person] 3),(b3,O (aAo y3) 158)]++G) ap (λ_=>ap) dY ty3 zc3 U bytes3 Jz U U (fd 0 U (cE (y3.Person) U U)) lo lo (λob1 oc1 G1 gr1=>qO 4 U (oi i3 U (qO 2 U (bz (L':=G1) js (ag2 ((MV++[y3.Person]),ob1,oc1,G1) hs10 ⟨gr1,lo⟩)))))))))
theorem rE(h:HF)(q:bo)(sX:iE)(q_q:Addr)(office:Int)(office_q:Addr)(hq:bo.ok h q sX)(aq:At h q_q (bo.cells q sX))(aoffice:At h office_q [I office])(hno:0<=office/\office<(q.holders.length:Int))(hso:q.who.Pairwise (·<=·))(hsw:q.who.length<=2000000):Itr prog (.func (.func 330) #[] (vB [.pointer (some q_q),.pointer (some office_q)])) ox (cu q office) h:=by
 refine sE call330 ?_
 intro yf ya yb C Sp Pn h1 A hle m1 m2 m3 hC hy
 refine jg Nh U ntmps330 U λX hXM hX=>?_
 have hs0:cu q office=[]++cu q office:=rfl
 refine qK 3 [] U (jb (j:=1) ty67 (aq.mono hle) U U (dh ty3 (aoffice.mono hle) U ?_))
 have ho1:0<=(office:Int)/\(office:Int)<((q.holders).length:Int):=ob
 refine aC (Lw Iu ty68 (hq.holders.mono (Rp.s9 aAV) hle).1 ho1 (cN ho1) U U U (λq1 cs1 A1 ln1 rr1=>?_))
 obtain⟨rb1,rc1,rfl,sl1⟩:=rr1
 refine dh ty68 A1 U (qL 3 [] U ?_)
 refine lp2 (nthI q.holders office) (λi w=>[(0,.func yf ya yb),(1,.pointer (some q_q)),(12,.slice rb1 ((nthI q.holders office).length) rc1),(13,I ((nthI q.holders office).length:Int)),(14,I (i:Int))]) (λw=>w.2.2) (λw=>w.2.1) (λi w=>C w.1 w.2.2 w.2.1/\jM h1 w.2.2) (λs1 i w=>w.1++(cu.L1 q (cu.K1)) s1) ([],A,h1) sl1.1.1 hs0 ⟨hC,lf⟩ ?_ ?_
 .rintro i1 ⟨dn1,A1_,hh1⟩ fp hs1 ⟨hC1_,hl1⟩ e
  refine et ?_
  have hs2:cu q office=dn1:=hs1.trans (List.append_nil _)
  exact sF [] (A:=A1_) Nh U (List.Sublist.refl _) (.inl (hs2▸hC1_))
 rintro i1 ⟨dn1,A1_,hh1⟩ y1 rz1 hd1 dj aY er gr hs3 ⟨hC1_,hl1⟩ hx1 ag1 e
 refine sr (tO dj U (qO 8 U (aC (iF aAo Nj ty158 (sl1.mono aAV hl1).1 aY U U U (λq3 A6=>dz ty158 A6 U U (ba zc158 (λb2=>aQ 0 ty158 U U U U U U (il (L':=[(b2,O (aAo y1) 158)]++(A1_)) U (qL 4 [] U (jb (j:=2) ty31 (aq.mono (hle.t hl1)) U U (qL 2 [0] U (ai call114 (m9 _ _ _ _ y1.Person (hq.who.mono vG (hle.t hl1)) ob ob) U (qO 10 U (us 27 U (λc2=>?_) (λc2=>?_)))))))))))))))
 .have hs4:=hs3.trans (congrArg (dn1++·) (bt c2))
  refine av (cK 0 ty158 U U U ?_)
  have hx2:cu q office=dn1++(y1::(cu.L1 q (cu.K1) rz1)):=hs4
  refine aC (kp ([(b2,O (aAo y1) 158)]) A1_ ap (hy dn1 y1 _ _ _ _ hx2 hl1 hC1_ U) U U (λh5 A7 hle4 hC2=>?_) (λh6 A8 hle5 hS2=>?_) (λch2 h7 A9 hle6 hP2 e=>gH (mP [] (A:=A9) Nh (List.sublist_append_right _ _) hP2)))
  .have hs5:cu q office=(dn1++[y1])++((cu.L1 q (cu.K1) rz1)):=hx2.trans ap
   exact mU U (qO 6 U (oi i1 U (qO 2 U (bz (L':=A7) js (ag1 ((dn1++[y1]),A7,h5) hs5 ⟨hC2,(hl1.t hle4)⟩)))))
  exact mU U (qO 3 U (et (mF [] (A:=A8) Nh U js (.inr hS2))))
 have hs6:=hs3.trans (congrArg (dn1++·) (bf c2))
 exact kq (qO 8 U (oi i1 U (qO 2 U (bz (L':=A1_) js (ag1 (dn1,A1_,hh1) hs6 ⟨hC1_,hl1⟩)))))
theorem nR(h:HF)(q:bo)(sX:iE)(office:Int)(hq:bo.ok h q sX)(hno:0<=office/\office<(q.holders.length:Int))(hso:q.who.Pairwise (·<=·))(hsw:q.who.length<=2000000):j1 prog 285 [.agg (bo.cells q sX).toArray,I office] h (λv h'=>∃(rv0:Value),v=rv0/\Itr prog rv0 ox (gK q office) h'):=by
 refine sT func285 U ntmps285 U λX hM hX hF=>?_
 have hs0:gK q office=gK q office:=rfl
 refine sr (cy (λb1=>cy (λb2=>qO 4 U (aX 1 U hM (λh1 hle1 hb1=>aX 0 U hM (λh2 hle2 hb2=>aC (eG U U (an ?_))))))))
 have hs1:gK q office=(cu q office):=hs0
 exact nretH [.func (.func 330) #[] #[Q b1,Q b2]] ⟨(.func (.func 330) #[] #[Q b1,Q b2]),congrArg (λr:List Holder=>((.func (.func 330) #[] #[Q b1,Q b2]):Value)) hs1.symm,(by rw[hs1];exact(rE h2 q sX ⟨b1,0,none⟩ office ⟨b2,0,none⟩ (hq.mono (hle1.t hle2)) ((cA hb1).mono hle2) (cA hb2) ob ob ob))⟩
theorem ue(h:HF)(q:bo)(sX:iE)(x:Expr)(gd:cL)(hq:bo.ok h q sX)(hx:jF h x gd)(hno:0<=x.No/\x.No<(q.holders.length:Int))(hso:q.who.Pairwise (·<=·))(hsw:q.who.length<=2000000):Ret prog 186 [.agg (bo.cells q sX).toArray,.agg (zC x gd).toArray] h (.bool (ej q x)):=by
 refine cJ Ng U ntmps186 U λX hM hX=>?_
 have hs0:ej q x=ej q x:=rfl
 refine sr (cy (λb1=>cy (λb2=>ba zc4 (λb3=>qO 4 U (cK 2 ty167 U U U (qL 2 [1] U (aC (cS call285 (nR _ _ _ x.No hq ob ob ob) U (λv1 h1 hle1 hp1=>?_)))))))))
 obtain⟨_,rfl,mo1⟩:=hp1
 refine qO 2 U (et ?_)
 let z1:Nat×Obj:=(b1,O (bo.cells q sX) 167)
 let z2:Nat×Obj:=(b2,O (zC x gd) 62)
 refine cn (L':=([(b3,O [.bool false] 4),z2,z1])++markB []) ap ?_
 refine j3 (it:=v1) (xs:=(gK q x.No)) (ι:=Bool×HF) [] (λi=>i.2) (λi=>[(b3,O [.bool i.1] 4),z2,z1]) (λs i=>ej q x=((ej.L1 (ej.K1)) s i.1)/\jM h1 i.2) (λi=>ej q x=i.1/\jM h1 i.2) (λ_=>False) 0 (λ_ _ _=>False) (false,h1) Ng U mo1 U sC (λ_ _ _ _ _ hq=>hq) U (show[(b3,O [.bool false] 4),z2,z1]=_ from U) ⟨hs0,lf⟩ ?_ ?_ ?_ ?_ ?_
 .rintro l1 dm1 lp1 y1 rz1 vs1 ⟨ck,hh1⟩ hr1 X hFR1 ⟨hs1,hl1⟩ hl01 hlr1 hv1 hX hXM hlp1 nx1 rt1 ex1 pn1
  obtain rfl:=hv1
  exact cn (L':=[(l1,.loop lp1),(dm1,.deferred (some [])),(b3,O [.bool ck] 4),z2,z1]++(markB [])) ap (aN (jy 0 U hlp1 (qT 3 U (cT 2 ty4 U U U U U U (aJ (cn (L':=rdH l1 dm1 lp1 (([(b3,O [.bool true] 4),z2,z1])++markB [])) ap (rt1 (true,hr1) _ _ _ ⟨hs1,(hl1.t hlr1)⟩ lf)))))))
 .rintro dm1 ⟨ck,hh1⟩ hn1 ⟨hs2,hl1⟩ hln1 hl01
  refine cn (L':=[(b3,O [.bool ck] 4),z2,z1]++(markB (dm1::[]))) ap (qT 3 U (cT 0 ty4 U U U U U U (aJ ?_)))
  have hs3:ej q x=false:=hs2
  exact cn (L':=([(b3,O [.bool false] 4),z2,z1])++markB (dm1::[])) ap (rY (dm1::[]) [.bool false] Ng U hX ⟨⟨0,_,_,_,_,U,U,.inr ⟨_,ty4,U⟩⟩,trivial⟩ (cs hs3))
 .rintro dm1 ⟨ck,hh1⟩ hn1 ⟨hs4,hl1⟩ hln1 hl01
  refine cn (L':=[(b3,O [.bool ck] 4),z2,z1]++(markB (dm1::[]))) ap ?_
  have hs5:ej q x=ck:=hs4
  exact cn (L':=([(b3,O [.bool ck] 4),z2,z1])++markB (dm1::[])) ap (rY (dm1::[]) [.bool ck] Ng U hX ⟨⟨0,_,_,_,_,U,U,.inr ⟨_,ty4,U⟩⟩,trivial⟩ (cs hs5))
 .exact xf
 exact xf
end Go.Sg

namespace Go.Sg
open Go.Proofs Go.Proofs.Tryz
theorem In(h:HF)(x:Holder)(s:Int)(bk:Nat):od prog 286 [.agg (aAo x).toArray,.pointer (some ⟨bk,0,none⟩)].toArray h [(bk,kH (vB [.int .i64 s]) 3 (0,0))]
  (λr h' B=>r=.returned (.tuple #[])/\h'=h/\B=[(bk,kH (vB [.int .i64 (vC .i64 (s+x.Weight))]) 3 (0,0))]):=by
 refine cJ func286 rfl ntmps286 rfl λX hM hX=>?_
 refine el (bE (cy (λb2=>aJ (bE (nW 1 ty3 rfl rfl rfl (jY OU rfl (nW 0 ty3 rfl rfl rfl (LI rfl (cT 1 ty3 rfl rfl rfl rfl rfl rfl (aJ ?_))))))))))
 exact wI func286 (λa _ w _=>mb rfl a w) (λw hw=>hw.sub (List.sublist_cons_self _ _)) ⟨rfl,rfl,rfl⟩
end Go.Sg

namespace Go.Sg
open Go.Proofs Go.Proofs.Tryz
set_option maxHeartbeats 2000000
theorem su(h:HF)(q:bo)(sX:iE)(x:Expr)(gd:cL)(hq:bo.ok h q sX)(hx:jF h x gd)(hno:0<=x.No/\x.No<(q.holders.length:Int))(hso:q.who.Pairwise (·<=·))(hsw:q.who.length<=2000000):Ret prog 187 [.agg (bo.cells q sX).toArray,.agg (zC x gd).toArray] h (.bool (dW q x)):=by
 refine cJ func187 U ntmps187 U λX hM hX=>?_
 have hs0:dW q x=dW q x:=rfl
 refine sr (cy (λb1=>cy (λb2=>qO 4 U (ba zc3 (λb3=>cT 0 ty3 U U U U U U (qO 3 U (aC (eG U U (ba zc330 (λb4=>cT 0 ty330 U U U U U U (qO 4 U (cK 3 ty167 U U U (qL 2 [2] U (aC (cS call285 (nR _ _ _ x.No hq ob ob ob) U (λv1 h1 hle1 hp1=>?_))))))))))))))))
 obtain⟨_,rfl,mo1⟩:=hp1
 refine qO 2 U (et ?_)
 let z1:Nat×Obj:=(b4,O [.func (.func 286) #[] #[Q b3]] 330)
 let z2:Nat×Obj:=(b1,O (bo.cells q sX) 167)
 let z3:Nat×Obj:=(b2,O (zC x gd) 62)
 refine cn (L':=([z1,(b3,O [I 0] 3),z3,z2])++markB []) ap ?_
 refine j3 (it:=v1) (xs:=(gK q x.No)) (ι:=Int×HF) [] (λi=>i.2) (λi=>[z1,(b3,O [I i.1] 3),z3,z2]) (λs i=>dW q x=((dW.L1 (dW.K1 x)) s i.1)/\jM h1 i.2) (λ_=>False) (λ_=>False) 0 (λ_ _ _=>False) (0,h1) func187 U mo1 U sC (λ_ _ _ _ _ hq=>hq) U (show[z1,(b3,O [I 0] 3),z3,z2]=_ from U) ⟨hs0,lf⟩ ?_ ?_ ?_ ?_ ?_
 .rintro l1 dm1 lp1 y1 rz1 vs1 ⟨ck,hh1⟩ hr1 X hFR1 ⟨hs1,hl1⟩ hl01 hlr1 hv1 hX hXM hlp1 nx1 rt1 ex1 pn1
  obtain rfl:=hv1
  refine cn (L':=[(l1,.loop lp1),(dm1,.deferred (some [])),z1,(b3,O [I ck] 3),z3,z2]++(markB [])) ap (bE (ba zc158 (λb6=>aQ 0 ty158 U U U U U U (aJ (jy 1 U hlp1 (qK 3 [3] U (cK 0 ty158 U U U (aC (N5 4 (o':=O [I (vC .i64 (ck+y1.Weight))] 3) U (m8 (args:=[.agg (aAo y1).toArray]) (cap:=[Q b3]) call286 (In hr1 y1 ck b3)) U U (qO 2 U ?_))))))))))
  let z4:Nat×Obj:=(b3,O [I (vC .i64 (ck+y1.Weight))] 3)
  exact bz (L':=[(l1,.loop { lp1 with state:=.busy }),(dm1,.deferred (some [])),z1,z4,z3,z2]++(markB [])) js (cn (L':=rdH l1 dm1 lp1 (([z1,z4,z3,z2])++markB [])) ap (nx1 ((vC .i64 (ck+y1.Weight)),hr1) _ _ ⟨hs1,(hl1.t hlr1)⟩ lf))
 .rintro dm1 ⟨ck,hh1⟩ hn1 ⟨hs2,hl1⟩ hln1 hl01
  refine cn (L':=[z1,(b3,O [I ck] 3),z3,z2]++(markB (dm1::[]))) ap (qK 9 [1,2] U ?_)
  have hs3:dW q x=decide (x.N<=ck):=hs2
  exact cn (L':=([z1,(b3,O [I ck] 3),z3,z2])++markB (dm1::[])) ap (rY (dm1::[]) [.bool (decide (x.N<=ck))] func187 U hX rd (cs hs3))
 .exact xf
 .exact xf
 exact xf
theorem uv(rec:bo->Expr->Bool)(h:HF)(q:bo)(sX:iE)(x:Expr)(gd:cL)(hrec:∀(h:HF)(qq:bo)(BQ:iE)(qx:Expr)(kU:cL)(hqq:bo.ok h qq BQ)(hqx:jF h qx kU)(hok:OkX (qq.holders.length:Int) qx)(hso:qq.who.Pairwise (·<=·))(hsw:qq.who.length<=2000000)(_:qx.dep<x.dep),Ret prog 97 [.agg (bo.cells qq BQ).toArray,.agg (zC qx kU).toArray] h (.bool (rec qq qx)))(hq:bo.ok h q sX)(hx:jF h x gd)(hok:OkX (q.holders.length:Int) x)(hso:q.who.Pairwise (·<=·))(hsw:q.who.length<=2000000):Ret prog 188 [.agg (bo.cells q sX).toArray,.agg (zC x gd).toArray] h (.bool (fo.F rec q x)):=by
 refine sT func188 U ntmps188 U λX hM hX hF=>?_
 have hs0:fo.F rec q x=fo.F rec q x:=rfl
 refine sr (cy (λb1=>cy (λb2=>qL 14 [0] U ?_)))
 let z1:Nat×Obj:=(b1,O (bo.cells q sX) 167)
 let z2:Nat×Obj:=(b2,O (zC x gd) 62)
 refine lp1 x.L (λi w=>[(2,Q b1),(3,Q b2),(5,I w),(9,.slice gd.lX x.L.length gd.mm),(10,I (x.L.length:Int)),(11,I (i:Int))]) ([z2,z1]) (λs1 i w=>(fo.L1 rec q (fo.K1 x)) s1 w) 0 hx.list.1.1 hs0 ?_ ?_
 .rintro i1 eW fp hs1 e
  exact qK 8 [0] U (nretP [.bool (decide (x.N<=eW))] (cs hs1))
 rintro i1 eW y1 rz1 hd1 dj aY er gr hs3 hx1 ag1 e
 have hoy:=hok.sub y1 (fX hd1)
 refine sr (tO dj U (qO 8 U (aC (iR lB ty62 hx.list.1 aY U U U (λ_ _ _ e=>e) (λq2 r2 A2 ok2=>dz ty62 A2 U U (ba zc62 (λb4=>aQ 0 ty62 U U U U U U (qO 3 U (cK 2 ty167 U U U (cK 0 ty62 U U U (ai Nf (hrec _ _ _ _ _ hq ok2 ob ob ob (aAe (fX hd1))) U (aJ (ae hs3 U (λc2 hs4=>?_) (λc2 hs5=>?_))))))))))))))
 .exact bE (qO 6 U (oi i1 U (qO 2 U (bz (L':=[z2,z1]) js (ag1 (vC .i64 (eW+1)) hs4)))))
 exact aN (qT 2 U (oi i1 U (qO 2 U (bz (L':=[z2,z1]) js (ag1 eW hs5)))))
theorem sY(rec:bo->Expr->Bool)(h:HF)(q:bo)(sX:iE)(x:Expr)(gd:cL)(hrec:∀(h:HF)(qq:bo)(BQ:iE)(qx:Expr)(kU:cL)(hqq:bo.ok h qq BQ)(hqx:jF h qx kU)(hok:OkX (qq.holders.length:Int) qx)(hso:qq.who.Pairwise (·<=·))(hsw:qq.who.length<=2000000)(_:qx.dep<x.dep),Ret prog 97 [.agg (bo.cells qq BQ).toArray,.agg (zC qx kU).toArray] h (.bool (rec qq qx)))(hq:bo.ok h q sX)(hx:jF h x gd)(hok:OkX (q.holders.length:Int) x)(hso:q.who.Pairwise (·<=·))(hsw:q.who.length<=2000000)(hk4:x.Kind=4):Ret prog 189 [.agg (bo.cells q sX).toArray,.agg (zC x gd).toArray] h (.bool (kc.F rec q x)):=by
 refine sT func189 U ntmps189 U λX hM hX hF=>?_
 have hs0:kc.F rec q x=kc.F rec q x:=rfl
 have hl2:=hok.two hk4
 refine sr (cy (λb1=>cy (λb2=>qL 11 [1,0] U (ae hs0 U (λc1 hs1=>?_) (λc1 hs2=>?_)))))
 .have c1p:=of_decide_eq_true c1
  refine el (eM ([(b2,O (zC x gd) 62),(b1,O (bo.cells q sX) 167)]) mixed kr jn (λem _=>tf 0 U U (λ_ _ hj=>jO ty167 U (hj.nth (i:=1) U) U) (qB [1] U (tf 2 U U (rj 0 ty60 U U U) ?_))))
  have ho1:0<=(0:Int)/\(0:Int)<((x.L).length:Int):=ob
  refine jt 3 em jn lB ty62 hx.list.1 ho1 (cN ho1) U U U U kr (λq1 cs1 A1 ln1 rr1=>?_)
  obtain⟨r1,rfl,ok1⟩:=rr1
  exact tf 4 U U (λ_ _ hj=>lM ty62 (A1.mono hj.1) U U) (tn 5 U (fe Nf (hrec _ _ _ _ _ hq ok1 (hok.sub _ (nZ ob)) ob ob (aAe (nZ ob))) U (⟨jn,(qA [6] U (aV kr (nretP [.bool (rec q (nthI x.L 0))] (cs hs1))))⟩)))
 have c1p:=of_decide_eq_false c1
 refine qT 2 U (eM ([(b2,O (zC x gd) 62),(b1,O (bo.cells q sX) 167)]) mixed kr jn (λmq _=>tf 0 U U (λ_ _ hj=>jO ty167 U (hj.nth (i:=1) U) U) (qB [1] U (tf 2 U U (rj 0 ty60 U U U) ?_))))
 have ho2:0<=(1:Int)/\(1:Int)<((x.L).length:Int):=ob
 refine jt 3 mq jn lB ty62 hx.list.1 ho2 (cN ho2) U U U U kr (λq2 cs2 A2 ln2 rr2=>?_)
 obtain⟨r2,rfl,ok2⟩:=rr2
 exact tf 4 U U (λ_ _ hj=>lM ty62 (A2.mono hj.1) U U) (tn 5 U (fe Nf (hrec _ _ _ _ _ hq ok2 (hok.sub _ (nZ ob)) ob ob (aAe (nZ ob))) U (⟨jn,(qA [6] U (aV kr (nretP [.bool (rec q (nthI x.L 1))] (cs hs2))))⟩)))
theorem OP(rec:bo->Expr->Bool)(h:HF)(q:bo)(sX:iE)(x:Expr)(gd:cL)(hq:bo.ok h q sX)(hx:jF h x gd)(hrec:∀(h:HF)(qq:bo)(BQ:iE)(qx:Expr)(kU:cL)(_:bo.ok h qq BQ)(_:jF h qx kU)(_:OkX (qq.holders.length:Int) qx)(_:qq.who.Pairwise (·<=·))(_:qq.who.length<=2000000)(_:qx.dep<x.dep),Ret prog 97 [.agg (bo.cells qq BQ).toArray,.agg (zC qx kU).toArray] h (.bool (rec qq qx)))(hok:OkX (q.holders.length:Int) x)(hso:q.who.Pairwise (·<=·))(hsw:q.who.length<=2000000):
  um prog (List.getD [.nilFunc,.func (.func 186) #[] #[],.func (.func 187) #[] #[],.func (.func 188) #[] #[],.func (.func 189) #[] #[]] x.Kind.toNat .nilFunc) [.agg (bo.cells q sX).toArray,.agg (zC x gd).toArray] h [] (.bool (fulQ rec q x)):=by
 have hk:=hok.kind
 have hc:x.Kind=1\/x.Kind=2\/x.Kind=3\/x.Kind=4:=by omega
 rcases hc with e|e|e|e
 .rw[show fulQ rec q x=ej q x from by simp[fulQ,e],e];exact iJ (cap:=[]) call186 (ue h q sX x gd hq hx (hok.no ob) hso hsw)
 .rw[show fulQ rec q x=dW q x from by simp[fulQ,e],e];exact iJ (cap:=[]) call187 (su h q sX x gd hq hx (hok.no ob) hso hsw)
 .rw[show fulQ rec q x=fo.F rec q x from by simp[fulQ,e],e];exact iJ (cap:=[]) call188 (uv rec h q sX x gd hrec hq hx hok hso hsw)
 rw[show fulQ rec q x=kc.F rec q x from by simp[fulQ,e],e];exact iJ (cap:=[]) call189 (sY rec h q sX x gd hrec hq hx hok hso hsw e)
theorem rD(rec:bo->Expr->Bool)(h:HF)(q:bo)(sX:iE)(x:Expr)(gd:cL)(hrec:∀(h:HF)(qq:bo)(BQ:iE)(qx:Expr)(kU:cL)(hqq:bo.ok h qq BQ)(hqx:jF h qx kU)(hok:OkX (qq.holders.length:Int) qx)(hso:qq.who.Pairwise (·<=·))(hsw:qq.who.length<=2000000)(_:qx.dep<x.dep),Ret prog 97 [.agg (bo.cells qq BQ).toArray,.agg (zC qx kU).toArray] h (.bool (rec qq qx)))(hq:bo.ok h q sX)(hx:jF h x gd)(hok:OkX (q.holders.length:Int) x)(hso:q.who.Pairwise (·<=·))(hsw:q.who.length<=2000000):Ret prog 97 [.agg (bo.cells q sX).toArray,.agg (zC x gd).toArray] h (.bool (dX.F rec q x)):=by
 refine sT func97 U ntmps97 U λX hM hX hF=>?_
 have hs0:dX.F rec q x=dX.F rec q x:=rfl
 have hkd:=hok.kind
 refine sr (cy (λb1=>cy (λb2=>qO 4 U (aC (N6 (cells:=[.nilFunc,.func (.func 186) #[] #[],.func (.func 187) #[] #[],.func (.func 188) #[] #[],.func (.func 189) #[] #[]]) underlying261 ty260 zc261 kr (ba zc261 (λb3=>aQ 0 ty261 U U U U U U (qO 2 U (eR 0 U hM (λh1 hle1 hb1=>eM ([(b2,O (zC x gd) 62),(b1,O (bo.cells q sX) 167)]) mixed kr jn (λem _=>qB [0] U (tf 1 U U (rj 0 ty3 U U U) ?_))))))))))))
 have ho1:0<=(x.Kind:Int)/\(x.Kind:Int)<5:=ob
 have A1:=QP (cA hb1) ho1
 exact tf 2 U U (λ_ _ _=>Oa underlying261 ty260 U U ho1) (tf 3 U U (rh ty260 A1 U) (tf 4 U U (λ_ _ hj=>jO ty167 U (hj.nth (i:=1) U) U) (tf 5 U U (λ_ _ hj=>jO ty62 U (hj.nth (i:=0) U) U) (tn 6 U (lT (v:=.bool (fulQ rec q x)) [] (List.nil_sublist _) (OP rec h1 q sX x gd (hq.mono hle1) (hx.mono hle1) hrec hok hso hsw) U U (⟨jn,(qA [7] U (aV kr (nretP [.bool (fulQ rec q x)] (cs hs0))))⟩))))))
theorem mp:∀(m:Nat)(h:HF)(q:bo)(sX:iE)(x:Expr)(gd:cL)(_:x.dep<=m)(hq:bo.ok h q sX)(hx:jF h x gd)(hok:OkX (q.holders.length:Int) x)(hso:q.who.Pairwise (·<=·))(hsw:q.who.length<=2000000),Ret prog 97 [.agg (bo.cells q sX).toArray,.agg (zC x gd).toArray] h (.bool (dX.go m q x))
 |0,h,q,sX,x,gd,hd,hq,hx,hok,hso,hsw=>absurd hd (Nat.not_le.2 (Expr.lO _))
 |m+1,h,q,sX,x,gd,hd,hq,hx,hok,hso,hsw=>rD (dX.go m) h q sX x gd (λqh_ qq BQ qx kU qhq qhx qhok qhso qhsw qd=>mp m qh_ qq BQ qx kU ob qhq qhx qhok qhso qhsw) hq hx hok hso hsw
theorem sx(h:HF)(q:bo)(sX:iE)(x:Expr)(gd:cL)(hq:bo.ok h q sX)(hx:jF h x gd)(hok:OkX (q.holders.length:Int) x)(hso:q.who.Pairwise (·<=·))(hsw:q.who.length<=2000000):Ret prog 97 [.agg (bo.cells q sX).toArray,.agg (zC x gd).toArray] h (.bool (dX q x)):=mp _ h q sX x gd (xG _) hq hx hok hso hsw
theorem sy(h:HF)(p:Policy)(gS:eA)(kind:Int)(value:Int)(holders:List (List Holder))(kw:Option Addr)(kv:Nat)(who:List Int)(rS:Option Addr)(rR:Nat)(hp:zN h p gS)(hholders:SlC (Rp.sl aBt) h kw kv holders)(hwho:SlC qC h rS rR who)(hsm:smP p)(hsz0:∀y∈holders,y.length<=2000000)(hsw:who.length<=2000000)(hk:Kinds h):Ret prog 25 [.agg (kD p gS).toArray,I kind,I value,.slice kw holders.length kv,.slice rS who.length rR] h (.tuple #[.bool ((cB p kind value holders who).1),I ((cB p kind value holders who).2)]):=by
 refine sT func25 U ntmps25 U λX hM hX hF=>?_
 have hs0:cB p kind value holders who=cB p kind value holders who:=rfl
 refine sr (cy (λb1=>qO 6 U (cK 0 ty64 U U U (ai call94 (tz _ _ _ hp ob hk) U (qO 7 U (ae hs0 U (λc1 hs1=>?_) (λc1 hs2=>?_)))))))
 .refine qT 6 U ?_
  have hs3:cB p kind value holders who=(false,(df p)):=hs1
  exact nretP [.bool false,I (df p)] (congrArg (λr:(Bool×Int)=>(.tuple #[.bool r.1,I r.2]:Value)) hs3.symm)
 refine qT 8 U (bV 6 [21,22,23,24,25,26,27] 21 27 (decide ((p.Kinds.length:Int)<=kind)) U (λc2 hk1=>?_) (λe=>?_))
 .exact qL 6 [0] U (hk1 _ U)
 refine av (bV 3 [28,29,30,31] 28 31 (decide (value<0)) U (λc3 hk2=>?_) (λe=>?_))
 .exact av (qO 2 U (hk2 _ U))
 refine av (bV 3 [32,33,34,35] 32 35 (decide (1099511627776<value)) U (λc4 hk3=>?_) (λe=>?_))
 .exact av (qO 2 U (hk3 _ U))
 refine an (ae hs2 U (λc5 hs4=>?_) (λc5 hs5=>?_))
 .refine qT 5 U ?_
  have hs6:cB p kind value holders who=(false,1):=hs4
  exact nretP [.bool false,I 1] (congrArg (λr:(Bool×Int)=>(.tuple #[.bool r.1,I r.2]:Value)) hs6.symm)
 refine qK 6 [0] U (ai call95 (BT _ _ _ _ (p.Offices.length:Int) hholders ob) U (qO 3 U (ae hs5 U (λc6 hs7=>?_) (λc6 hs8=>?_))))
 .refine qT 5 U ?_
  have hs9:cB p kind value holders who=(false,210):=hs7
  exact nretP [.bool false,I 210] (congrArg (λr:(Bool×Int)=>(.tuple #[.bool r.1,I r.2]:Value)) hs9.symm)
 refine qT 3 U (ai call96 (tB _ _ _ _ hwho) U (qO 3 U (ae hs8 U (λc7 hs10=>?_) (λc7 hs11=>?_))))
 .refine qT 5 U ?_
  have hs12:cB p kind value holders who=(false,1):=hs10
  exact nretP [.bool false,I 1] (congrArg (λr:(Bool×Int)=>(.tuple #[.bool r.1,I r.2]:Value)) hs12.symm)
 refine qT 7 U (aC (fN (cells:=[I value,.slice kw holders.length kv,.slice rS who.length rR]) (places:=[(0,1),(1,1),(2,1)]) underlying167 zc167 kr kr (qL 3 [0] U ?_)))
 have ho1:0<=(kind:Int)/\(kind:Int)<((p.Rules).length:Int):=(by have hq:=yp (by simpa using c1);simp only[decide_eq_true_eq,decide_eq_false_iff_not,Bool.and_eq_true,Bool.or_eq_true,Bool.not_eq_true',Bool.not_eq_false',Bool.and_eq_false_iff,Bool.or_eq_false_iff,beq_iff_eq,beq_eq_false_iff_ne,bne_iff_ne,bne_eq_false_iff_eq,jA,zA,jB,List.length_drop]at c5;omega)
 refine aC (si wi ty79 hp.Rules.1 ho1 (cN ho1) U U U (λ_ _ _ e=>e) (λq1 r1 A1 ok1=>qL 1 [] U (zI (j:=3) ty62 A1 U U (ai Nf (sx _ _ _ _ _ (show bo.ok h (bo.mk value holders who) (iE.mk kw kv rS rR)from⟨hholders,hwho⟩) ok1.Expr (by have hq:=yp (by simpa using c1);have hr:=MI (by simpa using c6);show OkX (holders.length:Int) _;rw[hr];exact hq.2.2 _ (Fx (nZ ho1))) (F8 (by simpa using c7)) hsw) U (qO 3 U ?_)))))
 have hs13:cB p kind value holders who=((dX (bo.mk value holders who) ((nthI p.Rules kind).Expr)),0):=hs11
 exact nretP [.bool (dX (bo.mk value holders who) ((nthI p.Rules kind).Expr)),I 0] (congrArg (λr:(Bool×Int)=>(.tuple #[.bool r.1,I r.2]:Value)) hs13.symm)
theorem ui(h:HF)(c:bN)(oa:j2)(p:Policy)(gS:eA)(who:List Int)(rS:Option Addr)(rR:Nat)(hc:bN.ok h c oa)(hp:zN h p gS)(hwho:SlC qC h rS rR who)(hsm:smR c.Register)(hco:iU c)(hsp:smP p)(hofl:p.Offices.length<=32)(hsw:who.length<=2000000)(hk:Kinds h):Ret prog 135 [.agg (bN.cells c oa).toArray,.agg (kD p gS).toArray,.slice rS who.length rR] h (.bool (ek c p who)):=by
 refine sT func135 U ntmps135 U λX hM hX hF=>?_
 have hs0:ek c p who=ek c p who:=rfl
 refine sr (cy (λb1=>cy (λb2=>qL 14 [0] U ?_)))
 let z1:Nat×Obj:=(b1,O (bN.cells c oa) 123)
 let z2:Nat×Obj:=(b2,O (kD p gS) 64)
 refine lp2 p.Offices (λi w=>[(2,.slice rS who.length rR),(3,Q b1),(4,Q b2),(7,.slice w.2.1 w.1.length w.2.2.1),(15,I (p.Offices.length:Int)),(16,I (i:Int))]) (λw=>w.2.2.2.2) (λw=>[z2,z1]++(w.2.2.2.1)) (λi w=>dG (Rp.sl aBt) 68 w.2.2.2.2 w.1 w.2.1 w.2.2.1 w.2.2.2.1/\w.1.length<=0+i/\jM h w.2.2.2.2/\(∀y∈w.1,y.length<=2000000)) (λs1 i w=>(ek.L1 c (ek.K1 c p who)) s1 i w.1) ([],none,0,[],h) hp.Offices.1.1 hs0 ⟨dG.nil,lo,lf,(λy hy=>(List.not_mem_nil hy).elim)⟩ ?_ ?_
 .rintro i1 ⟨DB,Q4,Q3,Qd,hh1⟩ fp hs1 ⟨JE,OJ,hl1,u1_0⟩ e
  try dsimp only at JE OJ hl1 u1_0
  refine sr (cK 0 ty64 U U U (qL 8 [1,1] U (m7 (Rp.s9 aAV) ([z2,z1]) Qd ([]) ap hM JE (λh3 hle3 sl3=>ai call25 (sy _ _ _ c.doc.Kind c.doc.Value _ _ _ _ _ _ (hp.mono (hl1.t hle3)) sl3 (hwho.mono vG (hl1.t hle3)) hsp ob ob (hk.mono (hl1.t hle3))) U (qO 10 U (bj 3 [52,53,54,55] 52 55 ((cB p c.doc.Kind c.doc.Value DB who).2==0) U (λc1 hk1=>?_) (λe=>?_)))))))
  .exact av (qO 2 U (hk1 _ U))
  exact an (nretP [.bool ((cB p c.doc.Kind c.doc.Value DB who).1&&((cB p c.doc.Kind c.doc.Value DB who).2==0))] (cs hs1))
 rintro i1 ⟨DB,Q4,Q3,Qd,hh1⟩ y1 rz1 hd1 dj aY er gr hs3 ⟨JE,OJ,hl1,u1_0⟩ hx1 ag1 e
 try dsimp only at JE OJ hl1 u1_0
 refine sr (tO dj U (qL 21 [1,1,1] U (aC (cS call24 (sA _ _ _ _ (i1:Int) c.at_ c.known (hc.Register.Appoints.mono kP hl1) hsm.2.1) U (λv2 h4 hle4 hp2=>?_)))))
 obtain⟨rb2,rc2,rfl,sl4⟩:=hp2
 exact av (qO 8 U (aC (nY uq (ij h4 ((cW c.Register.Appoints (i1:Int) c.at_ c.known).2)) (lV (Dl ((ly _).1 hco.chk).1 ob hco.time hco.know)) U (qO 4 U (aC (bK (cells:=[.slice rb2 (((cW c.Register.Appoints (i1:Int) c.at_ c.known).1).length) rc2]) Iu ty68 zc68 U U kr (λb4=>aC (dK (Rp.Ls aAV) ([(b4,O [.slice rb2 (((cW c.Register.Appoints (i1:Int) c.at_ c.known).1).length) rc2] 68),z2,z1]) ([]) (λG=>[(b4,O [.slice rb2 (((cW c.Register.Appoints (i1:Int) c.at_ c.known).1).length) rc2] 68),z2,z1]++G) ap (λ_=>ap) Iu ty68 zc68 U bytes68 (JE.mono (Rp.s9 aAV) hle4) U U (fd 0 U (cE (R:=(Rp.sl aBt)) ((cW c.Register.Appoints (i1:Int) c.at_ c.known).1) U ⟨rb2,rc2,U,sl4⟩)) lo lo (λob2 oc2 G2 gr2=>qO 4 U (oi i1 U (qO 2 U (bz (L':=[z2,z1]++G2) js (ag1 ((DB++[(cW c.Register.Appoints (i1:Int) c.at_ c.known).1]),ob2,oc2,G2,h4) hs3 ⟨gr2,lo,(hl1.t hle4),(λy hy=>(List.mem_append.1 hy).elim (u1_0 y) (λhy=>by rw[kC.1 hy];exact xS (Dk _ _ _ _) hsm.2.1))⟩)))))))))))))
theorem BK{α : Type}{xs:List α}{i:Nat}{y:α}(h:xs[i]? = some y):xs.take (i+1)=xs.take i++[y]:=by
  rw[List.take_add_one,h];rfl
theorem zZ(h:HF)(c:bN)(oa:j2)(bv:Nat)(s0 b0:Int)(hc:bN.ok h c oa)(hsm:smR c.Register)(hco:iU c)(hat:c.doc.At<=c.at_)(hk:Kinds h):
  od prog 59 (vB [.agg (bN.cells c oa).toArray,Q bv]) h [(bv,verO s0 b0 none 0 0 none 0 0)]
   (λr h' B=>∃vb vc wb wc G,r=.returned (.bool (eE c))/\B=(bv,verO s0 b0 vb (askJ c).1.length vc wb (askAll c).length wc)::G/\SlC qC h' vb vc (askJ c).1/\dG qC 3 h' (askAll c) wb wc G):=by
 have hJ:Jdg c.Register.Versions (askJ c):=Ht hco.vers hco.good.at_ hco.time hco.know hat
 have hJl:(askJ c).1.length<=256:=xS (Ao _ _ _ _) hco.vers.len
 have hpx:∀y∈(askJ c).1,exOk (dS c y):=λy hy=>AU (hJ.mem y hy)
 have hpk:∀y∈(askJ c).1,Mp (askP c y):=λy hy=>vj hco hsm (PZ (hpx y hy))
 refine cJ func59 U ntmps59 U λX hM hX=>?_
 refine sr (cy (λb2=>an ?_))
 refine sr (jY OX U (jY PY U (nW 0 ty26 U U U (jY Fu U (jY PU U (nW 0 ty3 U U U (jY OW U (nW 0 ty3 U U U (jY OV U (nW 0 ty3 U U U (aC (cS call22 (rU h c.Register.Versions _ _ c.doc.At c.at_ c.known hc.Register.Versions hsm.vers hk) U (λv1 h1 hle1 hp1=>?_)))))))))))))
 obtain⟨vb,vc,rfl,slv⟩:=hp1
 refine qO 11 U (aC (nY uq (ij h1 _) (lV hJ.err) U (qO 9 U (LG dY U (qO 2 U ?_)))))
 refine lp2 (γ:=List Bool×Option Addr×Nat×LH×List Int×Option Addr×Nat×LH×HF) (x0:=(askJ c).1) (askJ c).1
  (λi g=>[(1,Q bv),(2,Q b2),(5,.slice vb (askJ c).1.length vc),(6,I (askJ c).2.1),(8,.slice g.2.1 g.1.length g.2.2.1),(31,.slice vb (askJ c).1.length vc),(32,I (((askJ c).1.length:Nat):Int)),(33,I (i:Int))])
  (λg=>g.2.2.2.2.2.2.2.2)
  (λg=>[(b2,O (bN.cells c oa) 123),(bv,verO s0 b0 none 0 0 g.2.2.2.2.2.1 g.2.2.2.2.1.length g.2.2.2.2.2.2.1)]++(g.2.2.2.1++g.2.2.2.2.2.2.2.1))
  (λi g=>g.1=((askJ c).1.take i).map (askAns c)/\g.2.2.2.2.1=((askJ c).1.take i).flatMap (askWho c)/\dG Rp.bool 4 g.2.2.2.2.2.2.2.2 g.1 g.2.1 g.2.2.1 g.2.2.2.1/\dG qC 3 g.2.2.2.2.2.2.2.2 g.2.2.2.2.1 g.2.2.2.2.2.1 g.2.2.2.2.2.2.1 g.2.2.2.2.2.2.2.1/\h1.le g.2.2.2.2.2.2.2.2/\g.1.length<=i/\g.2.2.2.2.1.length<=i*2000000)
  (λs i _=>(askJ c).1.take i++s) ([],none,0,[],[],none,0,[],h1) ob rfl ⟨rfl,rfl,dG.nil,dG.nil,qP _,jL _,jL _⟩ ?_ ?_
 .rintro i ⟨az,ab,ac,Ga,ws,wb,wc,Gw,hh⟩ hil hx0 ⟨ha,hw,gA,gW,hle,la,lw⟩ e
  dsimp only at ha hw gA gW hle la lw hx0
  rw[List.append_nil]at hx0
  rw[←hx0]at ha hw
  subst ha hw
  obtain⟨ws,hws⟩:∃ws,ws=(askJ c).1.flatMap (askWho c):=⟨_,rfl⟩
  have hall:askAll c=slices_Compact_int (sortI ws):=by rw[hws];rfl
  rw[←hws]at gW lw
  obtain⟨az,has⟩:∃az,az=(askJ c).1.map (askAns c):=⟨_,rfl⟩
  rw[←has]at gA la
  show TT _ _ _ _ _ (upds e [(1,Q bv),(2,Q b2),(5,.slice vb (askJ c).1.length vc),(6,I (askJ c).2.1),(8,.slice ab ((askJ c).1.map (askAns c)).length ac),(31,.slice vb (askJ c).1.length vc),(32,I (((askJ c).1.length:Nat):Int)),(33,I (i:Int))]) _ _ hh ([(b2,O (bN.cells c oa) 123),(bv,verO s0 b0 none 0 0 wb ((askJ c).1.flatMap (askWho c)).length wc)]++(Ga++Gw))
  rw[←hws,←has]
  refine qT 3 U (aC (fw (fW U) (jY Bp U (nW 1 ty31 U U U (aC (nd ([(b2,O (bN.cells c oa) 123),(bv,verO s0 b0 none 0 0 wb ws.length wc)]++Ga) Gw [] Nq (mw hh ws wb wc Gw gW ob) (by simp only[qE,List.cons_append,List.nil_append,List.append_nil]) U (λG2 g2=>aJ ?_)))))))
  refine qT 6 U (aC (fw (fW U) (jY Bp U (nW 1 ty31 U U U (aC (nd (v:=.slice wb (slices_Compact_int (sortI ws)).length wc) ([(b2,O (bN.cells c oa) 123),(bv,verO s0 b0 none 0 0 wb ws.length wc)]++Ga) G2 [] call136 (py hh (sortI ws) wb wc G2 g2) U (by simp only[iw];rfl) (λG3 g3=>?_)))))))
  refine aC (fw (fW U) (jY PW U (cT 1 ty31 U U U U U U (aC (fw (fW U) (jY Bp U (cT 1 ty31 U U U U U U (aJ (cn (L':=[(b2,O (bN.cells c oa) 123),(bv,verO s0 b0 vb (askJ c).1.length vc wb (slices_Compact_int (sortI ws)).length wc)]++(Ga++G3)) (by rw[List.append_nil,qE];rfl) ?_)))))))))
  have fin:∀(hz:HF)(r:Bool),hh.le hz->r=eE c->∀(e:Env),e 4=.bool r->∀k,TT prog (bodyFrame 59) 88 (.code .ret::k) (lS prog X (λr h' B=>∃vb vc wb wc G,r=.returned (.bool (eE c))/\B=(bv,verO s0 b0 vb (askJ c).1.length vc wb (askAll c).length wc)::G/\SlC qC h' vb vc (askJ c).1/\dG qC 3 h' (askAll c) wb wc G)) e [] X hz ([(b2,O (bN.cells c oa) 123),(bv,verO s0 b0 vb (askJ c).1.length vc wb (slices_Compact_int (sortI ws)).length wc)]++(Ga++G3)):=by
   intro hz r hlz hr e he k
   subst hr
   refine pH (v:=.bool (eE c)) (h2:=hz) (B:=(bv,verO s0 b0 vb (askJ c).1.length vc wb (slices_Compact_int (sortI ws)).length wc)::G3) func59 (λa ha w _=>by rw[←he];exact res1 U a ha w) (λw hw=>hw.sub (.cons _ (.cons_cons _ (List.sublist_append_right _ _)))) ⟨vb,vc,wb,wc,G3,U,?_,slv.mono vG (zF hle hlz),?_⟩
   .rw[hall]
   rw[hall];exact g3.mono vG hlz
  refine qT 6 U ?_
  refine j8 U (λc1=>?_) (λc1=>?_)
  .exact sr (an (fin hh false lf (by unfold eE;rw[show((askJ c).2.1==0)=true from c1];rfl) _ U _))
  have hm:=hJ.mode2 (by simpa using c1)
  have hal:az.length<=256:=by rw[has,List.length_map];exact hJl
  refine qT 5 U (aC (Eg ([(b2,O (bN.cells c oa) 123),(bv,verO s0 b0 vb (askJ c).1.length vc wb (slices_Compact_int (sortI ws)).length wc)]) Ga G3 (v:=.tuple #[.bool ((gC (askJ c).2.1 az).1),I ((gC (askJ c).2.1 az).2)]) call26 Rp.nM gA U (λhz lz sl=>rV hz (askJ c).2.1 az ab ac sl ob) U ?_))
  exact av (qO 8 U (aC (nY uq (ij hh _) (lV (FU hm hal)) U (qO 6 U (fin hh _ lf (by unfold eE;rw[show((askJ c).2.1==0)=false from c1,cond_false,←has]) _ U _)))))
 rintro i ⟨az,ab,ac,Ga,ws,wb,wc,Gw,hh⟩ y r hd hlt hget hltp hbd hx0 ⟨ha,hw,gA,gW,hle,la,lw⟩ hx ag e
 dsimp only at ha hw gA gW hle la lw
 have hy:y∈(askJ c).1:=List.mem_of_getElem? hget
 have hcc:=hc.mono (zF hle1 hle)
 show TT _ _ _ _ _ (upds e [(1,Q bv),(2,Q b2),(5,.slice vb (askJ c).1.length vc),(6,I (askJ c).2.1),(8,.slice ab az.length ac),(31,.slice vb (askJ c).1.length vc),(32,I (((askJ c).1.length:Nat):Int)),(33,I (i:Int))]) _ _ hh ([(b2,O (bN.cells c oa) 123),(bv,verO s0 b0 none 0 0 wb ws.length wc)]++(Ga++Gw))
 refine sr (tO hlt U (qO 8 U (aC (na (enc:=λy=>[I y]) (λ_ _ _ e=>e) dY ty3 (slv.mono vG hle).1 (nthZ hget) (fq hget) U U U (λq1 A1=>dh ty3 A1 U (an ?_))))))
 refine sr (cK 0 ty123 U U U (av (aC (GN call80 (pz hh c oa y hcc) (hpx y hy) U (λv3 h3 hle3 hp3=>?_)))))
 obtain⟨pr,rfl,okp⟩:=hp3
 refine ba zc64 (λb11=>aQ 0 ty64 U U U U U U (aJ ?_))
 refine sr (cK 1 ty123 U U U (cK 0 ty64 U U U (aC (cS call79 (pA h3 c oa (askP c y) pr (hcc.mono hle3) okp hsm hco (hpk y hy).rules) U (λv4 h4 hle4 hp4=>?_)))))
 obtain⟨ub,uc,rfl,slu⟩:=hp4
 refine qO 5 U (cK 1 ty123 U U U (cK 0 ty64 U U U (av (ai (v:=.bool (askAns c y)) call135 (ui h4 c oa (askP c y) pr (askWho c y) ub uc (hcc.mono (zF hle3 hle4)) (okp.mono hle4) slu hsm hco (hpk y hy).sm (hpk y hy).off (uX hsm _) (hk.mono (zF hle1 (zF hle (zF hle3 hle4))))) U ?_))))
 have hl4:hh.le h4:=zF hle3 hle4
 have hwl:=uX hsm (askP c y)
 refine aC (bK (cells:=[.bool (askAns c y)]) rW ty4 zc4 U U kr (λb13=>?_))
 refine aC (dK Rp.Ct ([(b13,O [.bool (askAns c y)] 4),(b11,O (kD (askP c y) pr) 64),(b2,O (bN.cells c oa) 123),(bv,verO s0 b0 none 0 0 wb ws.length wc)]) Gw (λG=>[(b13,O [.bool (askAns c y)] 4),(b11,O (kD (askP c y) pr) 64),(b2,O (bN.cells c oa) 123),(bv,verO s0 b0 none 0 0 wb ws.length wc)]++(Gw++G)) U (λ_=>U) rW ty4 zc4 U bytes4 (gA.mono Rp.nM hl4) U U (fd (ys:=[askAns c y]) 0 U ⟨[.bool (askAns c y)],[],U,U,U,U⟩) lo lo (λab2 ac2 Ga2 gA2=>an ?_))
 refine qT 3 U (aC (fw (fW U) (jY Bp U (nW 3 ty31 U U U (av (aC (dK Rp.iK ([(b13,O [.bool (askAns c y)] 4),(b11,O (kD (askP c y) pr) 64),(b2,O (bN.cells c oa) 123),(bv,verO s0 b0 none 0 0 wb ws.length wc)]) Ga2 (λG=>[(b13,O [.bool (askAns c y)] 4),(b11,O (kD (askP c y) pr) 64),(b2,O (bN.cells c oa) 123),(bv,verO s0 b0 none 0 0 wb ws.length wc)]++(Ga2++G)) U (λ_=>U) dY ty3 zc3 U bytes3 (gW.mono vG hl4) U U (mu slu.1) (by show(_+(askWho c y).length)*_<=_;unfold askWho;omega) (by show _+(askWho c y).length<=_;unfold askWho;omega) (λwb2 wc2 Gw2 gW2=>?_))))))))
 refine aC (fw (fW U) (jY Bp U (cT 3 ty31 U U U U U U (aJ (bz (L':=[(b2,O (bN.cells c oa) 123),(bv,verO s0 b0 none 0 0 wb2 (ws++askWho c y).length wc2)]++(Ga2++Gw2)) js (qT 2 U (iQ (v':=I (((i+1:Nat)):Int)) U (KW ob) (qO 2 U ?_))))))))
 refine ag (az++[askAns c y],ab2,ac2,Ga2,ws++askWho c y,wb2,wc2,Gw2,h4) (by rw[BK hget,qE];exact hx0) ⟨?_,?_,gA2,gW2,zF hle hl4,?_,?_⟩
 .show az++[askAns c y]=_;rw[BK hget,ha,List.map_append];rfl
 .show ws++askWho c y=_;rw[BK hget,hw,List.flatMap_append];simp
 .show(az++[askAns c y]).length<=i+1;rw[jA];simp only[zA,jB];omega
 show(ws++askWho c y).length<=(i+1)*2000000;rw[jA];unfold askWho;omega
theorem KF(h:HF)(c:bN)(oa:j2)(q:Addr)(bv:Nat)(s0 b0:Int)(hc:bN.ok h c oa)(aq:At h q (bN.cells c oa))(hsm:smR c.Register)(hco:iU c)(hat:c.doc.At<=c.at_)(hk:Kinds h):
    od prog 58 (vB [.pointer (some q),Q bv]) h [(bv,verO s0 b0 none 0 0 none 0 0)]
      (λr h' B=>∃vb vc wb wc G,r=.returned (.bool (!(eE c)))/\B=(bv,verO s0 b0 vb (askJ c).1.length vc wb (askAll c).length wc)::G/\SlC qC h' vb vc (askJ c).1/\dG qC 3 h' (askAll c) wb wc G):=by
  refine cJ func58 U ntmps58 U λX hM hX=>?_
  refine qT 6 rfl (dz ty123 aq rfl rfl (aC (mO (A:=[(bv,verO s0 b0 none 0 0 none 0 0)]) (Fr:=[]) call59 rfl (zZ h c oa bv s0 b0 hc hsm hco hat hk) rfl (λv h2 B hle hR=>?_) (λch h2 B hle hR=>by obtain⟨_,_,_,_,_,hr,_⟩:=hR;cases hr))))
  obtain⟨vb,vc,wb,wc,G,hr,rfl,s1,g1⟩:=hR
  cases hr
  exact mU U (an (pH (v:=.bool (!(eE c))) (h2:=h2) (B:=(bv,verO s0 b0 vb (askJ c).1.length vc wb (askAll c).length wc)::G) func58 (λa ha w hw=>mA (rs:=[.tmp 2]) (vs:=[.bool (!(eE c))]) U rd a ha w hw) (λw hw=>by simpa using hw) ⟨vb,vc,wb,wc,G,U,U,s1,g1⟩))
theorem KE(h:HF)(r:Register)(Rs:dD)(qr:Addr)(u:List Use)(qU:Option Addr)(qI:Nat)(qu:Addr)(c:bN)(oa:j2)(qc:Addr)(at_ known:Int)(qa qk:Addr)(bv:Nat)(s0 b0:Int)(vb:Option Addr)(vn vc:Nat)(wb:Option Addr)(wn wc:Nat)(hr:zL h r Rs)(ar:At h qr (xL r Rs))(hu:SlC Use.rp h qU qI u)(au:At h qu [.slice qU u.length qI])(ac:At h qc (bN.cells c oa))(aa:At h qa [I at_])(ak:At h qk [I known])(hsm:smR r)(he:(judgeRoom c r u at_ known).2.2=0):
  od prog 60 (vB [.pointer (some qr),.pointer (some qu),.pointer (some qc),.pointer (some qa),.pointer (some qk),Q bv]) h [(bv,verO s0 b0 vb vn vc wb wn wc)]
   (λx h' B=>x=.returned (.bool (!(judgeRoom c r u at_ known).2.1))/\h'=h/\B=[(bv,verO s0 (bif !(judgeRoom c r u at_ known).2.1 then(judgeRoom c r u at_ known).1 else b0) vb vn vc wb wn wc)]):=by
 refine cJ func60 U ntmps60 U λX hM hX=>?_
 refine qT 6 U (jY Mf U (jb (j:=3) ty25 ar U U (dh ty32 au U (jY Fu U (jY PT U (jb (j:=9) ty3 ac U U (jY Fu U (jY PS U (jb (j:=10) ty3 ac U U (dh ty3 aa U (dh ty3 ak U (ai (v:=.tuple #[I (judgeRoom c r u at_ known).1,.bool (judgeRoom c r u at_ known).2.1,I (judgeRoom c r u at_ known).2.2]) Kj (oh h r.Budgets _ _ u qU qI c.doc.Kind c.doc.Value at_ known hr.Budgets hu hsm.2.2.2.2.1) U (qO 11 U (aC (nY uq (ij h _) (lV he) U (qO 7 U ?_))))))))))))))))
 refine j8 U (λc1=>?_) (λc1=>?_)
 .exact bE (av (jY Me U (cT 0 ty3 U U U U U U (qO 7 U (pH (v:=.bool (!(judgeRoom c r u at_ known).2.1)) (h2:=h) (B:=[(bv,verO s0 (judgeRoom c r u at_ known).1 vb vn vc wb wn wc)]) func60 (λa ha w hw=>mA (rs:=[.tmp 6]) (vs:=[.bool (!(judgeRoom c r u at_ known).2.1)]) U rd a ha w hw) (λw hw=>hw) ⟨U,U,by rw[show(!(judgeRoom c r u at_ known).2.1)=true from c1];rfl⟩)))))
 exact aN (qT 6 U (pH (v:=.bool (!(judgeRoom c r u at_ known).2.1)) (h2:=h) (B:=[(bv,verO s0 b0 vb vn vc wb wn wc)]) func60 (λa ha w hw=>mA (rs:=[.tmp 6]) (vs:=[.bool (!(judgeRoom c r u at_ known).2.1)]) U rd a ha w hw) (λw hw=>hw) ⟨U,U,by rw[show(!(judgeRoom c r u at_ known).2.1)=false from c1];rfl⟩))
theorem EK{e:Int}{ee:Int}(h:lA e=.error ee):(e != 0)=true/\ee=e:=by
  unfold lA at h
  cases hc:e != 0 with
  |true=>rw[hc]at h;cases h;exact⟨rfl,rfl⟩
  |false=>rw[hc]at h;cases h
theorem BX{e:Int}{u:Unit}(h:lA e=.ok u):e=0:=by
  unfold lA at h
  cases hc:e != 0 with
  |true=>rw[hc]at h;cases h
  |false=>simpa using hc
theorem me(h:HF)(aL:Register)(fx:dD)(signed:List Int)(bZ:Option Addr)(bY:Nat)(u:List Use)(qU:Option Addr)(qI:Nat)(doc:Int)(aK:Int)(known:Int)(iW:zL h aL fx)(hsigned:SlC qC h bZ bY signed)(hu:SlC Use.rp h qU qI u)(hsm:smR aL)(hln:aL.Docs.length<20)(hk:Kinds h):
  j1 prog 11 [.agg (xL aL fx).toArray,.slice bZ signed.length bY,.slice qU u.length qI,I doc,I aK,I known] h (λv h'=>∃rr0:sS,v=.tuple #[.agg (gy.cells (aG aL signed u doc aK known).1 rr0).toArray,I ((aG aL signed u doc aK known).2)]/\gy.ok h' (aG aL signed u doc aK known).1 rr0):=by
 refine cJ func11 U ntmps11 U λX hM hX=>?_
 refine sr (cy (λb6=>cy (λb7=>cy (λb8=>cy (λb10=>cy (λb11=>ba zc36 (λb12=>ba zc37 (λb13=>aJ ?_))))))))
 refine sr (GG U U (aJ ?_))
 have fin:∀(hh:HF)(V:gy)(vb:Option Addr)(vc:Nat)(wb:Option Addr)(wc:Nat)(ee:Int)(B:LH)(e:Env),aG aL signed u doc aK known=(V,ee)->SlC qC hh vb vc V.Versions->SlC qC hh wb wc V.Who->e 12=Q b12->e 13=Q b13->∀a:Act,envOf a=e->∀w,St X hh ([(b13,O [I ee] 37)]++((b12,verO V.State V.Budget vb V.Versions.length vc wb V.Who.length wc)::B)) w ->
   ∃v h2 B2,(results Tryz.f11 a.tmps).run prog w=.ok v w/\St X h2 B2 w/\(B2=[]/\∃v',Ending.returned v=.returned v'/\(λv h'=>∃rr0:sS,v=.tuple #[.agg (gy.cells (aG aL signed u doc aK known).1 rr0).toArray,I ((aG aL signed u doc aK known).2)]/\gy.ok h' (aG aL signed u doc aK known).1 rr0) v' h2):=by
  intro hh V vb vc wb wc ee B e he h1 h2 h12 h13 a ha w hw
  refine⟨_,hh,[],mA (rs:=[.cell 12 36,.cell 13 37]) (vs:=[.agg (gy.cells V ⟨vb,vc,wb,wc⟩).toArray,I ee]) U ⟨⟨1,b12,_,36,(0,0),U,h12,.inl ⟨ty36,U⟩⟩,⟨0,b13,[I ee],37,(0,0),U,h13,.inr ⟨_,ty37,U⟩⟩,trivial⟩ a ha w hw,hw.sub (List.nil_sublist _),U,_,U,⟨vb,vc,wb,wc⟩,?_,?_⟩
  .rw[he];rfl
  rw[he];exact⟨h1,h2⟩
 have pan:∀(hh:HF)(e0 ee:Int)(B:LH)(e:Env),aG aL signed u doc aK known=(⟨0,0,[],[]⟩,ee)->e 12=Q b12->e 13=Q b13 ->
   TP prog (bodyFrame 11) 69 [{ v:=errV ee,recovered:=false }] (lS prog X (λx h' B=>B=[]/\∃v,x=.returned v/\(λv h'=>∃rr0:sS,v=.tuple #[.agg (gy.cells (aG aL signed u doc aK known).1 rr0).toArray,I ((aG aL signed u doc aK known).2)]/\gy.ok h' (aG aL signed u doc aK known).1 rr0) v h')) e [{ target:=.fn (.func 50) #[],args:=vB [Q b13] }] X hh ((b13,O [I e0] 37)::(b12,verO 0 0 none 0 0 none 0 0)::B):=by
  intro hh e0 ee B e he h12 h13
  refine D2 (c:=bodyOf Tryz.f50) (cap:=[Q b13]) (A:=[(b13,O [I e0] 37)]) (R':=λh'' B=>h''=hh/\B=[(b13,O [I ee] 37)]) func11 Gy U K9 U K8 (λX' _=>Ak hh b13 e0 ee X') U ?_
  rintro h'' B2 _ ⟨rfl,rfl⟩ a ha w hw
  exact fin _ ⟨0,0,[],[]⟩ none 0 none 0 ee B e he vE vE h12 h13 a ha w hw
 refine sr (cK 6 ty30 U U U (ai (v:=I (dR aL)) Nn (oX h aL fx iW hsm hk) U ?_))
 refine rJ uq (ij h (dR aL)).toXH U (λv_ v h1 hx1 hle1 hp1=>?_) (λee h1 hx1 hle1=>?_)
 rotate_left
 .obtain⟨e1,rfl⟩:=EK hx1
  exact pan h1 _ _ _ _ (by unfold aG;rw[e1];rfl) U U
 obtain⟨rfl,rfl⟩:=hp1
 have hc0:=BX hx1
 refine qO 3 U (jY PX U (nW 6 ty27 U U U (nW 5 ty31 U U U (aC (cS call52 (ny h1 aL.Docs _ _ signed bZ bY 0 iW.Docs hsigned hln) U (λv2 h2 hle2 hp2=>?_))))))
 obtain⟨fb,fc,rfl,_⟩:=hp2
 refine qO 3 U (cT 0 ty37 U U U U U U (qO 3 U (nW 0 ty37 U U U ?_)))
 refine rJ uq (ij h2 (aZ aL.Docs signed 0).2).toXH U (λv_ v h3 hx3 hle3 hp3=>?_) (λee h3 hx3 hle3=>?_)
 rotate_left
 .obtain⟨e1,rfl⟩:=EK hx3
  exact pan h3 _ _ _ _ (by unfold aG;rw[hc0,e1];rfl) U U
 obtain⟨rfl,rfl⟩:=hp3
 have hf0:=BX hx3
 refine qO 3 U (jY Mf U (nW 6 ty25 U U U (nW 4 ty32 U U U (ai (v:=.tuple #[I (bD aL.Budgets u 0 0 0 0).1,.bool (bD aL.Budgets u 0 0 0 0).2.1,I (bD aL.Budgets u 0 0 0 0).2.2]) Kj (oh h3 aL.Budgets _ _ u qU qI 0 0 0 0 (iW.mono hle2).Budgets (hu.mono Use.aj hle2) hsm.2.2.2.2.1) U (qO 4 U (cT 0 ty37 U U U U U U (qO 3 U (nW 0 ty37 U U U ?_))))))))
 refine rJ uq (ij h3 (bD aL.Budgets u 0 0 0 0).2.2).toXH U (λv_ v h4 hx4 hle4 hp4=>?_) (λee h4 hx4 hle4=>?_)
 rotate_left
 .obtain⟨e1,rfl⟩:=EK hx4
  exact pan h4 _ _ _ _ (by unfold aG;rw[hc0,hf0,e1];rfl) U U
 obtain⟨rfl,rfl⟩:=hp4
 have hb0:=BX hx4
 refine qO 3 U (cK 6 ty30 U U U (av (nW 3 ty3 U U U (nW 2 ty3 U U U ?_))))
 refine rJ call53 (yY h4 aL fx doc aK known (iW.mono hle2)) U (λc v h5 hx5 hle5 hp5=>?_) (λee h5 hx5 hle5=>?_)
 rotate_left
 .exact pan h5 _ _ _ _ (by unfold aG;rw[hc0,hf0,hb0,hx5];rfl) U U
 obtain⟨cr,rfl,okc⟩:=hp5
 have hj:aG aL signed u doc aK known=(judgeC c aL signed u aK known,0):=by unfold aG;rw[hc0,hf0,hb0,hx5];rfl
 obtain⟨hce,hco,_,_⟩:=HS hc0 hx5
 have hreg:c.Register=aL:=by rw[hce]
 have hca:c.at_=aK:=by rw[hce]
 have hck:c.known=known:=by rw[hce]
 have hsc:smR c.Register:=by rw[hreg];exact hsm
 have hlc:c.Register.Docs.length<20:=by rw[hreg];exact hln
 have hsg:cg c.Register.Docs signed=true:=by rw[hreg];exact H4 hf0
 have hroom:(judgeRoom c aL u aK known).2.2=0:=IX hb0 hco.kind hco.good.value (hca▸hco.time) (hck▸hco.know)
 rw[hb0]
 refine ba zc123 (λb14=>aQ 0 ty123 U U U U U U (aJ ?_))
 refine sr (jY Me U (cT 2 ty3 U U U U U U (aJ (eR 0 U hM (λg1 l1 f14=>eR 2 U hM (λg2 l2 f11=>eR 2 U hM (λg3 l3 f10=>eR 2 U hM (λg4 l4 f8=>eR 2 U hM (λg5 l5 f7=>eR 2 U hM (λg6 l6 f6=>?_))))))))))
 have a14:=(cA f14).mono (zF l2 (zF l3 (zF l4 (zF l5 l6))))
 have a11:=(cA f11).mono (zF l3 (zF l4 (zF l5 l6)))
 have a10:=(cA f10).mono (zF l4 (zF l5 l6))
 have a8:=(cA f8).mono (zF l5 l6)
 have a7:=(cA f7).mono l6
 have a6:=cA f6
 have l56:h5.le g6:=zF l1 (zF l2 (zF l3 (zF l4 (zF l5 l6))))
 have l06:h1.le g6:=zF hle2 (zF hle5 l56)
 have okg:=okc.mono l56
 have okr:=iW.mono l06
 have hsg6:=hsigned.mono vG l06
 have hu6:=hu.mono Use.aj l06
 have hk6:=hk.mono l06
 clear f14 f11 f10 f8 f7 f6
 show TT _ _ _ _ _ _ _ _ g6 [(b13,O [I 0] 37),(b12,verO 0 (-1) none 0 0 none 0 0)]
 refine qT 3 U (aC (eG U U (aC (fN (cells:=[I 1,.func (.func 54) #[] #[Q b14,Q b7]]) (places:=[(0,1),(1,1)]) Ki zc126 kr kr (aC (eG U U (aC (fN (cells:=[I 2,.func (.func 56) #[] #[Q b14,Q b7]]) (places:=[(0,1),(1,1)]) Ki zc126 kr kr (aC (eG U U (aC (fN (cells:=[I 3,.func (.func 58) #[] #[Q b14,Q b12]]) (places:=[(0,1),(1,1)]) Ki zc126 kr kr (aC (eG U U (aC (fN (cells:=[I 4,.func (.func 60) #[] #[Q b6,Q b8,Q b14,Q b10,Q b11,Q b12]]) (places:=[(0,1),(1,1)]) Ki zc126 kr kr (aC (bK (cells:=[I 1,.func (.func 54) #[] #[Q b14,Q b7],I 2,.func (.func 56) #[] #[Q b14,Q b7],I 3,.func (.func 58) #[] #[Q b14,Q b12],I 4,.func (.func 60) #[] #[Q b6,Q b8,Q b14,Q b10,Q b11,Q b12]]) It ty126 zc126 U U kr (λb15=>LG It U (qO 2 U ?_))))))))))))))))))))
 have ret:∀(hh:HF)(V:gy)(vb:Option Addr)(vc:Nat)(wb:Option Addr)(wc:Nat)(B:LH)(e:Env)(k:List Item),judgeC c aL signed u aK known=V->SlC qC hh vb vc V.Versions->SlC qC hh wb wc V.Who->e 12=Q b12->e 13=Q b13 ->
   TT prog (bodyFrame 11) 69 (.code .ret::k) (lS prog X (λx h' B=>B=[]/\∃v,x=.returned v/\(λv h'=>∃rr0:sS,v=.tuple #[.agg (gy.cells (aG aL signed u doc aK known).1 rr0).toArray,I ((aG aL signed u doc aK known).2)]/\gy.ok h' (aG aL signed u doc aK known).1 rr0) v h')) e [{ target:=.fn (.func 50) #[],args:=vB [Q b13] }] X hh ((b13,O [I 0] 37)::(b12,verO V.State V.Budget vb V.Versions.length vc wb V.Who.length wc)::B):=by
  intro hh V vb vc wb wc B e k hv h1 h2 h12 h13
  refine IE (c:=bodyOf Tryz.f50) (cap:=[Q b13]) (A:=[(b13,O [I 0] 37)]) (R':=λh'' B=>h''=hh/\B=[(b13,O [I 0] 37)]) func11 Gy U K9 U K8 (λX' _=>FL hh b13 0 X') U ?_
  rintro h'' B2 _ ⟨rfl,rfl⟩ a ha w hw
  exact fin _ V vb vc wb wc 0 B e (by rw[hj,hv]) h1 h2 h12 h13 a ha w hw
 refine lZ (D0 (sr (iQ (v':=.bool true) U U (qO 8 U (aC (fw (CP (i:=0) It ty126 U U ob) (cK 0 ty126 U U U (ba zc126 (λc0=>aQ 0 ty126 U U U U U U (aJ ?_))))))))))
 refine sr (jY Br U (nW 0 ty33 U U U (aC (lT (v:=.bool (eI c signed)) [] (List.nil_sublist _) (iJ (cap:=[Q b14,Q b7]) call54 (Cf g6 c cr ⟨b14,0,none⟩ signed bZ bY ⟨b7,0,none⟩ okg a14 hsg6 a7 hsc hco hlc hsg)) U U (aJ ?_)))))
 refine j8 U (λk1=>?_) (λk1=>?_)
 .exact sr (jY Bs U (nW 0 ty3 U U U (jY Bq U (cT 3 ty3 U U U U U U (qO 3 U (cK 3 ty36 U U U (aQ 3 ty36 U U U U U U (cT 2 ty37 U U U U U U (aJ (bz (.cons _ (.cons _ (List.Sublist.refl _))) (ret g6 ⟨1,-1,[],[]⟩ none 0 none 0 [] _ _ (by unfold judgeC;rw[show eI c signed=true from k1];rfl) vE vE U U)))))))))))
 replace k1:eI c signed=false:=k1
 have hat:c.doc.At<=c.at_:=M3 k1
 refine qT 3 U (iQ (v':=I 1) U U (qO 2 U (Az (bz (.cons _ (List.Sublist.refl _)) (sr (iQ (v':=.bool true) U U (qO 8 U (aC (fw (CP (i:=1) It ty126 U U ob) (cK 0 ty126 U U U (ba zc126 (λc1=>aQ 0 ty126 U U U U U U (aJ ?_)))))))))))))
 refine sr (jY Br U (nW 0 ty33 U U U (aC (lT (v:=.bool (fA c signed)) [] (List.nil_sublist _) (iJ (cap:=[Q b14,Q b7]) call56 (Ce g6 c cr ⟨b14,0,none⟩ signed bZ bY ⟨b7,0,none⟩ okg a14 hsg6 a7 hsc hco hlc hsg)) U U (aJ ?_)))))
 refine j8 U (λk2=>?_) (λk2=>?_)
 .exact sr (jY Bs U (nW 0 ty3 U U U (jY Bq U (cT 3 ty3 U U U U U U (qO 3 U (cK 3 ty36 U U U (aQ 3 ty36 U U U U U U (cT 2 ty37 U U U U U U (aJ (bz (.cons _ (.cons _ (List.Sublist.refl _))) (ret g6 ⟨2,-1,[],[]⟩ none 0 none 0 [] _ _ (by unfold judgeC;rw[k1,show fA c signed=true from k2];rfl) vE vE U U)))))))))))
 replace k2:fA c signed=false:=k2
 refine qT 3 U (iQ (v':=I 2) U U (qO 2 U (Az (bz (.cons _ (List.Sublist.refl _)) (sr (iQ (v':=.bool true) U U (qO 8 U (aC (fw (CP (i:=2) It ty126 U U ob) (cK 0 ty126 U U U (ba zc126 (λc2=>aQ 0 ty126 U U U U U U (aJ ?_)))))))))))))
 refine sr (jY Br rfl (nW 0 ty33 rfl rfl rfl (aC (AJ [(c2,O [I 3,.func (.func 58) #[] #[Q b14,Q b12]] 126),(b15,O [I 1,.func (.func 54) #[] #[Q b14,Q b7],I 2,.func (.func 56) #[] #[Q b14,Q b7],I 3,.func (.func 58) #[] #[Q b14,Q b12],I 4,.func (.func 60) #[] #[Q b6,Q b8,Q b14,Q b10,Q b11,Q b12]] 126),(b13,O [I 0] 37)] [(b12,verO 0 (-1) none 0 0 none 0 0)] rfl (m8 (args:=[]) (cap:=[Q b14,Q b12]) call58 (KF g6 c cr ⟨b14,0,none⟩ b12 0 (-1) okg a14 hsc hco hat hk6)) rfl rfl (λv7 h7 B7 l7 hR=>?_) (λch h7 B7 l7 hR=>by obtain⟨_,_,_,_,_,hr,_⟩:=hR;cases hr)))))
 obtain⟨vb,vc,wb,wc,G,hr,rfl,sv7,gw⟩:=hR
 cases hr
 refine aJ (fF vG ([(c2,O [I 3,.func (.func 58) #[] #[Q b14,Q b12]] 126),(b15,O [I 1,.func (.func 54) #[] #[Q b14,Q b7],I 2,.func (.func 56) #[] #[Q b14,Q b7],I 3,.func (.func 58) #[] #[Q b14,Q b12],I 4,.func (.func 60) #[] #[Q b6,Q b8,Q b14,Q b10,Q b11,Q b12]] 126),(b13,O [I 0] 37)]++[(b12,verO 0 (-1) vb (askJ c).1.length vc wb (askAll c).length wc)]) G [] (by rw[List.append_nil];rfl) hM gw (λh8 l8 sw_z=>?_))
 have sv:=sv7.mono vG l8
 have l68:g6.le h8:=zF l7 l8
 refine cn (L':=[(c2,O [I 3,.func (.func 58) #[] #[Q b14,Q b12]] 126),(b15,O [I 1,.func (.func 54) #[] #[Q b14,Q b7],I 2,.func (.func 56) #[] #[Q b14,Q b7],I 3,.func (.func 58) #[] #[Q b14,Q b12],I 4,.func (.func 60) #[] #[Q b6,Q b8,Q b14,Q b10,Q b11,Q b12]] 126),(b13,O [I 0] 37),(b12,verO 0 (-1) vb (askJ c).1.length vc wb (askAll c).length wc)]) (by rw[List.append_nil];rfl) ?_
 refine j8 U (λk3=>?_) (λk3=>?_)
 .exact sr (jY Bs U (nW 0 ty3 U U U (jY Bq U (cT 3 ty3 U U U U U U (qO 3 U (cK 3 ty36 U U U (aQ 3 ty36 U U U U U U (cT 2 ty37 U U U U U U (aJ (bz (.cons _ (.cons _ (List.Sublist.refl _))) (ret h8 ⟨3,-1,(askJ c).1,askAll c⟩ vb vc wb wc [] _ _ (by unfold judgeC;rw[k1,k2,show(!(eE c))=true from k3];rfl) sv sw_z U U)))))))))))
 replace k3:(!(eE c))=false:=k3
 refine qT 3 U (iQ (v':=I 3) U U (qO 2 U (Az (bz (.cons _ (List.Sublist.refl _)) (sr (iQ (v':=.bool true) U U (qO 8 U (aC (fw (CP (i:=3) It ty126 U U ob) (cK 0 ty126 U U U (ba zc126 (λc3=>aQ 0 ty126 U U U U U U (aJ ?_)))))))))))))
 refine sr (jY Br U (nW 0 ty33 U U U (aC (AJ [(c3,O [I 4,.func (.func 60) #[] #[Q b6,Q b8,Q b14,Q b10,Q b11,Q b12]] 126),(b15,O [I 1,.func (.func 54) #[] #[Q b14,Q b7],I 2,.func (.func 56) #[] #[Q b14,Q b7],I 3,.func (.func 58) #[] #[Q b14,Q b12],I 4,.func (.func 60) #[] #[Q b6,Q b8,Q b14,Q b10,Q b11,Q b12]] 126),(b13,O [I 0] 37)] [(b12,verO 0 (-1) vb (askJ c).1.length vc wb (askAll c).length wc)] U (m8 (args:=[]) (cap:=[Q b6,Q b8,Q b14,Q b10,Q b11,Q b12]) call60 (KE h8 aL fx ⟨b6,0,none⟩ u qU qI ⟨b8,0,none⟩ c cr ⟨b14,0,none⟩ aK known ⟨b10,0,none⟩ ⟨b11,0,none⟩ b12 0 (-1) vb (askJ c).1.length vc wb (askAll c).length wc (okr.mono l68) (a6.mono l68) (hu6.mono Use.aj l68) (a8.mono l68) (a14.mono l68) (a10.mono l68) (a11.mono l68) hsm hroom)) U U (λv9 h9 B9 l9 hR=>?_) (λch h9 B9 l9 hR=>by cases hR.1)))))
 obtain⟨hr,rfl,rfl⟩:=hR
 cases hr
 refine aJ (j8 U (λk4=>?_) (λk4=>?_))
 .exact cn (L':=[(c3,O [I 4,.func (.func 60) #[] #[Q b6,Q b8,Q b14,Q b10,Q b11,Q b12]] 126),(b15,O [I 1,.func (.func 54) #[] #[Q b14,Q b7],I 2,.func (.func 56) #[] #[Q b14,Q b7],I 3,.func (.func 58) #[] #[Q b14,Q b12],I 4,.func (.func 60) #[] #[Q b6,Q b8,Q b14,Q b10,Q b11,Q b12]] 126),(b13,O [I 0] 37),(b12,verO 0 (judgeRoom c aL u aK known).1 vb (askJ c).1.length vc wb (askAll c).length wc)]) (by rw[show(!(judgeRoom c aL u aK known).2.1)=true from k4];rfl) (sr (jY Bs U (nW 0 ty3 U U U (jY Bq U (cT 3 ty3 U U U U U U (qO 3 U (cK 3 ty36 U U U (aQ 3 ty36 U U U U U U (cT 2 ty37 U U U U U U (aJ (bz (.cons _ (.cons _ (List.Sublist.refl _))) (ret h9 ⟨4,(judgeRoom c aL u aK known).1,(askJ c).1,askAll c⟩ vb vc wb wc [] _ _ (by unfold judgeC;rw[k1,k2,k3,show(!(judgeRoom c aL u aK known).2.1)=true from k4];rfl) sv sw_z U U))))))))))))
 replace k4:(!(judgeRoom c aL u aK known).2.1)=false:=k4
 exact cn (L':=[(c3,O [I 4,.func (.func 60) #[] #[Q b6,Q b8,Q b14,Q b10,Q b11,Q b12]] 126),(b15,O [I 1,.func (.func 54) #[] #[Q b14,Q b7],I 2,.func (.func 56) #[] #[Q b14,Q b7],I 3,.func (.func 58) #[] #[Q b14,Q b12],I 4,.func (.func 60) #[] #[Q b6,Q b8,Q b14,Q b10,Q b11,Q b12]] 126),(b13,O [I 0] 37),(b12,verO 0 (-1) vb (askJ c).1.length vc wb (askAll c).length wc)]) (by rw[k4];rfl) (qT 3 U (iQ (v':=I 4) U U (qO 2 U (Az (bz (.cons _ (List.Sublist.refl _)) (sr (iQ (v':=.bool false) U U (qO 6 U (jY Bq U (cT 2 ty3 U U U U U U (qO 3 U (cK 2 ty36 U U U (aQ 2 ty36 U U U U U U (cT 1 ty37 U U U U U U (aJ (bz (.cons _ (List.Sublist.refl _)) (ret h9 ⟨0,-1,(askJ c).1,askAll c⟩ vb vc wb wc [] _ _ (by unfold judgeC;rw[k1,k2,k3,k4];rfl) sv sw_z U U)))))))))))))))))
theorem tg(h:HF)(a:List Int)(QR:Option Addr)(QQ:Nat)(j0:List Int)(FN:Option Addr)(FM:Nat)(ha:SlC qC h QR QQ a)(yL:SlC qC h FN FM j0):Ret prog 18 [.slice QR a.length QQ,.slice FN j0.length FM] h (.bool (fH a j0)):=by
 refine sT func18 U ntmps18 U λX hM hX hF=>?_
 have hs0:fH a j0=fH a j0:=rfl
 refine qK 13 [] U (ae hs0 U (λc1 hs1=>?_) (λc1 hs2=>?_))
 .exact sr (an (nretP [.bool false] (cs hs1)))
 refine qT 6 U ?_
 refine lp0 a (λi=>[(0,.slice QR a.length QQ),(1,.slice FN j0.length FM),(5,I (i:Int))]) ([]) (λs1 i=>(fH.L1 j0 (fH.K1)) s1 i) ha.1.1 hs2 ?_ ?_ ?_
 .rintro i1 fp hs4 e
  exact sr (an (nretP [.bool true] (cs hs4)))
 .rintro i1 y1 rz1 hd1 dj aY er gr hs6 hx1 ag1 e
  refine qK 6 [] U (tO dj U (qO 6 U (eM ([]) mixed kr jn (λem _=>qA [0,1] U (eS 2 (enc:=λy=>[I y]) em jn ei dY ty3 ha.1 (nthZ aY) (fq aY) U U U U kr (λq3 A3=>tf 3 U U (rh ty3 A3 U) (qA [4,5] U ?_)))))))
  have ho2:0<=((i1:Int):Int)/\((i1:Int):Int)<((j0).length:Int):=ob
  refine eS 6 (enc:=λy=>[I y]) em jn ei dY ty3 yL.1 ho2 (cN ho2) U U U U kr (λq4 A4=>tf 7 U U (rh ty3 A4 U) (qA [8] U (aV kr (ae hs6 U (λc3 hs7=>?_) (λc3 hs8=>?_)))))
  .exact sr (an (nretP [.bool false] (cs hs7)))
  exact aN (qT 3 U (oi i1 U (an (ag1 hs8))))
 rintro i1 hd1 ga hx e
 exact qK 6 [] U (fO ga U (qO 3 U (hx _ rd)))
theorem EV(h:HF)   : j1 prog 122 [] h (λv h'=>∃(rr0:eA),v=.agg (kD (cx) rr0).toArray/\zN h' (cx) rr0):=by
 refine cJ func122 U ntmps122 U λX hM hX=>?_
 have hs0:cx=cx:=rfl
 refine sr (ba zc64 (λb1=>qO 3 U (aC (fN (cells:=[I 1,I 0,I 0,.string (⟨#[100,105,114,101,99,116,111,114]⟩:ByteArray),.slice none 0 0]) (places:=[(0,1),(1,1),(2,1),(3,1),(4,1)]) underlying62 zc62 kr kr (ba zc62 (λb2=>aQ 0 ty62 U U U U U U (qO 3 U (aC (bK (cells:=[.string (⟨#[99,111,110,116,114,97,99,116]⟩:ByteArray)]) vy ty9 zc9 U U kr (λb3=>aC (bK (cells:=[.string (⟨#[100,105,114,101,99,116,111,114]⟩:ByteArray)]) vy ty9 zc9 U U kr (λb4=>cK 2 ty62 U U U (aC (fN (cells:=[.string (⟨#[99,111,110,116,114,97,99,116]⟩:ByteArray),I 0,I 3,I 1,I 0,I 0,.string (⟨#[100,105,114,101,99,116,111,114]⟩:ByteArray),.slice none 0 0]) (places:=[(0,1),(1,1),(2,1),(3,5)]) underlying79 zc79 kr kr (aC (bK (cells:=[.string (⟨#[99,111,110,116,114,97,99,116]⟩:ByteArray),I 0,I 3,I 1,I 0,I 0,.string (⟨#[100,105,114,101,99,116,111,114]⟩:ByteArray),.slice none 0 0]) wi ty79 zc79 U U kr (λb5=>cK 3 ty62 U U U (aC (fN (cells:=[.string (⟨#[98,111,97,114,100]⟩:ByteArray),.slice (some ⟨b3,0,none⟩) 1 1,.slice (some ⟨b4,0,none⟩) 1 1,.slice (some ⟨b5,0,none⟩) 1 1,I 1,I 0,I 0,.string (⟨#[100,105,114,101,99,116,111,114]⟩:ByteArray),.slice none 0 0,I 2]) (places:=[(0,1),(1,1),(2,1),(3,1),(4,5),(9,1)]) Lm zc64 kr kr (aQ 4 ty64 U U U U U U (aJ (eR 2 U hM (λh1 hle1 hb1=>?_)))))))))))))))))))))))
 have sl1:SlC Rp.str h1 (some ⟨b3,0,none⟩) 1 ([(⟨#[99,111,110,116,114,97,99,116]⟩:ByteArray)]):=bI.slB0 (T:=9) (fz:=(0,0)) ((show bI Rp.str h [.string (⟨#[99,111,110,116,114,97,99,116]⟩:ByteArray)] ([(⟨#[99,111,110,116,114,97,99,116]⟩:ByteArray)])from⟨[.string (⟨#[99,111,110,116,114,97,99,116]⟩:ByteArray)],[],rfl,rfl,rfl,rfl⟩).mono Rp.hU hle1) hb1
 refine eR 1 U hM (λh2 hle2 hb2=>?_)
 have sl2:SlC Rp.str h2 (some ⟨b4,0,none⟩) 1 ([(⟨#[100,105,114,101,99,116,111,114]⟩:ByteArray)]):=bI.slB0 (T:=9) (fz:=(0,0)) ((show bI Rp.str h1 [.string (⟨#[100,105,114,101,99,116,111,114]⟩:ByteArray)] ([(⟨#[100,105,114,101,99,116,111,114]⟩:ByteArray)])from⟨[.string (⟨#[100,105,114,101,99,116,111,114]⟩:ByteArray)],[],rfl,rfl,rfl,rfl⟩).mono Rp.hU hle2) hb2
 refine eR 0 U hM (λh3 hle3 hb3=>?_)
 have sl3:SlC Rule.rp h3 (some ⟨b5,0,none⟩) 1 ([(aBf (⟨#[99,111,110,116,114,97,99,116]⟩:ByteArray) 0 3 (qG 1 0 0 (⟨#[100,105,114,101,99,116,111,114]⟩:ByteArray) ([])))]):=bI.slB0 (T:=79) (fz:=(0,0)) ((show bI Rule.rp h2 [.string (⟨#[99,111,110,116,114,97,99,116]⟩:ByteArray),I 0,I 3,I 1,I 0,I 0,.string (⟨#[100,105,114,101,99,116,111,114]⟩:ByteArray),.slice none 0 0] ([(aBf (⟨#[99,111,110,116,114,97,99,116]⟩:ByteArray) 0 3 (qG 1 0 0 (⟨#[100,105,114,101,99,116,111,114]⟩:ByteArray) ([])))])from⟨[.string (⟨#[99,111,110,116,114,97,99,116]⟩:ByteArray),I 0,I 3,I 1,I 0,I 0,.string (⟨#[100,105,114,101,99,116,111,114]⟩:ByteArray),.slice none 0 0],[],rfl,rfl,⟨(BJ.mk (cL.mk none 0)),rfl,((show Rule.ok h (aBf (⟨#[99,111,110,116,114,97,99,116]⟩:ByteArray) 0 3 (qG 1 0 0 (⟨#[100,105,114,101,99,116,111,114]⟩:ByteArray) ([]))) (BJ.mk (cL.mk none 0))from⟨(show jF h (qG 1 0 0 (⟨#[100,105,114,101,99,116,111,114]⟩:ByteArray) ([])) (cL.mk none 0)from aAf vE)⟩).mono (hle1.t hle2))⟩,rfl⟩).mono Rule.aj hle3) hb3
 have hs1:cx=(xM (⟨#[98,111,97,114,100]⟩:ByteArray) ([(⟨#[99,111,110,116,114,97,99,116]⟩:ByteArray)]) ([(⟨#[100,105,114,101,99,116,111,114]⟩:ByteArray)]) ([(aBf (⟨#[99,111,110,116,114,97,99,116]⟩:ByteArray) 0 3 (qG 1 0 0 (⟨#[100,105,114,101,99,116,111,114]⟩:ByteArray) ([])))]) (qG 1 0 0 (⟨#[100,105,114,101,99,116,111,114]⟩:ByteArray) ([])) 2):=hs0
 exact jx [.agg (vB [.string (⟨#[98,111,97,114,100]⟩:ByteArray),.slice (some ⟨b3,0,none⟩) 1 1,.slice (some ⟨b4,0,none⟩) 1 1,.slice (some ⟨b5,0,none⟩) 1 1,I 1,I 0,I 0,.string (⟨#[100,105,114,101,99,116,111,114]⟩:ByteArray),.slice none 0 0,I 2])] func122 U ⟨⟨1,_,_,_,_,U,U,.inl ⟨ty64,U⟩⟩,trivial⟩ ⟨(eA.mk (some ⟨b3,0,none⟩) 1 (some ⟨b4,0,none⟩) 1 (some ⟨b5,0,none⟩) 1 (cL.mk none 0)),congrArg (λr:Policy=>(.agg (kD r (eA.mk (some ⟨b3,0,none⟩) 1 (some ⟨b4,0,none⟩) 1 (some ⟨b5,0,none⟩) 1 (cL.mk none 0))).toArray:Value)) hs1.symm,(by rw[hs1];exact(show zN h3 (xM (⟨#[98,111,97,114,100]⟩:ByteArray) ([(⟨#[99,111,110,116,114,97,99,116]⟩:ByteArray)]) ([(⟨#[100,105,114,101,99,116,111,114]⟩:ByteArray)]) ([(aBf (⟨#[99,111,110,116,114,97,99,116]⟩:ByteArray) 0 3 (qG 1 0 0 (⟨#[100,105,114,101,99,116,111,114]⟩:ByteArray) ([])))]) (qG 1 0 0 (⟨#[100,105,114,101,99,116,111,114]⟩:ByteArray) ([])) 2) (eA.mk (some ⟨b3,0,none⟩) 1 (some ⟨b4,0,none⟩) 1 (some ⟨b5,0,none⟩) 1 (cL.mk none 0))from⟨(sl1.mono Rp.hU (hle2.t hle3)),(sl2.mono Rp.hU hle3),sl3,(show jF h3 (qG 1 0 0 (⟨#[100,105,114,101,99,116,111,114]⟩:ByteArray) ([])) (cL.mk none 0)from aAf vE)⟩))⟩
theorem gE(h:HF):od prog 47 (vB []) h [] (λr h' B=>∃(bk:Nat)(db:Option Addr)(dc:Nat)(vb:Option Addr)(vc:Nat)(ob_z:Option Addr)(oc:Nat)(ab:Option Addr)(ac:Nat),r=.returned (.agg (vB [.slice (some ⟨bk,0,none⟩) 1 1,.slice db 1 dc,.slice none 0 0,.slice none 0 0,.slice vb 1 vc,.slice ob_z 1 oc,.slice ab 1 ac]))/\B=[(bk,O [I 0,I 0,I 0,I 0,I 2,I 1,.bool false] 89)]/\SlC aAq h' db dc aw.Deputies/\SlC qQ h' vb vc aw.Versions/\SlC vR h' ob_z oc aw.Docs/\SlC kL h' ab ac aw.Approvals):=by
 refine cJ func47 U ntmps47 U λX hM hX=>?_
 have hs0:aw=aw:=rfl
 refine sr (ba zc30 (λb1=>qO 3 U (aC (fN (cells:=[I 0,I 0,I 0,I 0,I 2,I 1,.bool false]) (places:=[(0,1),(1,1),(2,1),(3,1),(4,1),(5,1),(6,1)]) underlying89 zc89 kr kr (aC (bK (cells:=[I 0,I 0,I 0,I 0,I 2,I 1,.bool false]) DY ty89 zc89 U U kr (λb2=>aC (cS call122 (EV h) U (λv1 h1 hle1 hp1=>?_)))))))))
 obtain⟨rr1,rfl,ok1⟩:=hp1
 refine aC (fN (cells:=[I 1,I 0,I 0,.string cx.Name,.slice rr1.i8 cx.Kinds.length rr1.i7,.slice rr1.gq cx.Offices.length rr1.gp,.slice rr1.nO cx.Rules.length rr1.nN,I cx.Change.Kind,I cx.Change.N,I cx.Change.No,.string cx.Change.Name,.slice rr1.Change.lX cx.Change.L.length rr1.Change.mm,I cx.Mode]) (places:=[(0,1),(1,1),(2,1),(3,10)]) underlying105 zc105 kr kr (aC (bK (cells:=[I 1,I 0,I 0,.string cx.Name,.slice rr1.i8 cx.Kinds.length rr1.i7,.slice rr1.gq cx.Offices.length rr1.gp,.slice rr1.nO cx.Rules.length rr1.nN,I cx.Change.Kind,I cx.Change.N,I cx.Change.No,.string cx.Change.Name,.slice rr1.Change.lX cx.Change.L.length rr1.Change.mm,I cx.Mode]) yz ty105 zc105 U U kr (λb3=>aC (fN (cells:=[.slice (some ⟨b2,0,none⟩) 1 1,.slice none 0 0,.slice none 0 0,.slice none 0 0,.slice (some ⟨b3,0,none⟩) 1 1,.slice none 0 0,.slice none 0 0]) (places:=[(0,1),(1,1),(2,1),(3,1),(4,1),(5,1),(6,1)]) NH zc30 kr kr (ba zc30 (λb4=>aQ 0 ty30 U U U U U U (qO 3 U (aC (fN (cells:=[I 0,I 0,I 0,I 40,I 2,I 5,I 0,I (-1),I 100,.bool false]) (places:=[(0,1),(1,1),(2,1),(3,1),(4,1),(5,1),(6,1),(7,1),(8,1),(9,1)]) underlying93 zc93 kr kr (aC (bK (cells:=[I 0,I 0,I 0,I 40,I 2,I 5,I 0,I (-1),I 100,.bool false]) wG ty93 zc93 U U kr (λb5=>qL 1 [] U (cT 1 ty23 U U U U U U (qO 3 U (aC (bK (cells:=[I 9]) dY ty3 zc3 U U kr (λb6=>aC (fN (cells:=[I 7,I 1,I 0,I 60,I 0,I 50,.slice (some ⟨b6,0,none⟩) 1 1,.slice none 0 0,.slice none 0 0,Y 0,Y 0,Y 0,Y 0,Y 0,Y 0,Y 0,Y 0,Y 0,Y 0,Y 0,Y 0,Y 0,Y 0,Y 0,Y 0,Y 0,Y 0,Y 0,Y 0,Y 0,Y 0,Y 0,Y 0,Y 0,Y 0,Y 0,Y 0,Y 0,Y 0,Y 0,Y 0]) (places:=[(0,1),(1,1),(2,1),(3,1),(4,1),(5,1),(6,1),(7,1),(8,1),(9,32)]) underlying51 zc51 kr kr (aX 0 U hM (λh2 hle2 hb1=>?_)))))))))))))))))))))
 have sl1:SlC qC h2 (some ⟨b6,0,none⟩) 1 ([9]):=bI.slB0 (T:=3) (fz:=(0,0)) ((show bI qC h1 [I 9] ([9])from⟨[I 9],[],rfl,rfl,rfl,rfl⟩).mono vG hle2) hb1
 refine aC (bK (cells:=[I 7,I 1,I 0,I 60,I 0,I 50,.slice (some ⟨b6,0,none⟩) 1 1,.slice none 0 0,.slice none 0 0,Y 0,Y 0,Y 0,Y 0,Y 0,Y 0,Y 0,Y 0,Y 0,Y 0,Y 0,Y 0,Y 0,Y 0,Y 0,Y 0,Y 0,Y 0,Y 0,Y 0,Y 0,Y 0,Y 0,Y 0,Y 0,Y 0,Y 0,Y 0,Y 0,Y 0,Y 0,Y 0]) nA ty51 zc51 U U kr (λb7=>qL 1 [] U (cT 2 ty27 U U U U U U (qO 3 U (aC (fN (cells:=[I 3,I 4,I 6,I 7,I 5,I 2,I 0,.bool false]) (places:=[(0,1),(1,1),(2,1),(3,1),(4,1),(5,1),(6,1),(7,1)]) underlying81 zc81 kr kr (aC (bK (cells:=[I 3,I 4,I 6,I 7,I 5,I 2,I 0,.bool false]) zk ty81 zc81 U U kr (λb8=>qL 1 [] U (cT 3 ty28 U U U U U U (qO 3 U (cK 3 ty30 U U U (aQ 6 ty30 U U U U U U (aJ ?_))))))))))))))
 have hle3:=qP h2
 refine eR 2 U hM (λh4 hle4 hb3=>?_)
 have sl3:SlC aAq h4 (some ⟨b5,0,none⟩) 1 ([(aBc 0 0 0 40 2 5 0 (-1) 100 false)]):=bI.slB0 (T:=93) (fz:=(0,0)) ((show bI aAq h2 [I 0,I 0,I 0,I 40,I 2,I 5,I 0,I (-1),I 100,.bool false] ([(aBc 0 0 0 40 2 5 0 (-1) 100 false)])from⟨[I 0,I 0,I 0,I 40,I 2,I 5,I 0,I (-1),I 100,.bool false],[],rfl,rfl,rfl,rfl⟩).mono jS hle4) hb3
 refine eR 3 U hM (λh5 hle5 hb4=>?_)
 have sl4:SlC qQ h5 (some ⟨b3,0,none⟩) 1 ([(aAZ 1 0 0 cx)]):=bI.slB0 (T:=105) (fz:=(0,0)) ((show bI qQ h4 [I 1,I 0,I 0,.string cx.Name,.slice rr1.i8 cx.Kinds.length rr1.i7,.slice rr1.gq cx.Offices.length rr1.gp,.slice rr1.nO cx.Rules.length rr1.nN,I cx.Change.Kind,I cx.Change.N,I cx.Change.No,.string cx.Change.Name,.slice rr1.Change.lX cx.Change.L.length rr1.Change.mm,I cx.Mode] ([(aAZ 1 0 0 cx)])from⟨[I 1,I 0,I 0,.string cx.Name,.slice rr1.i8 cx.Kinds.length rr1.i7,.slice rr1.gq cx.Offices.length rr1.gp,.slice rr1.nO cx.Rules.length rr1.nN,I cx.Change.Kind,I cx.Change.N,I cx.Change.No,.string cx.Change.Name,.slice rr1.Change.lX cx.Change.L.length rr1.Change.mm,I cx.Mode],[],rfl,rfl,⟨(pq.mk rr1),rfl,((show Version.ok h1 (aAZ 1 0 0 cx) (pq.mk rr1)from⟨ok1⟩).mono ((hle2.t hle3).t hle4))⟩,rfl⟩).mono vM hle5) hb4
 refine eR 1 U hM (λh6 hle6 hb5=>?_)
 have sl5:SlC vR h6 (some ⟨b7,0,none⟩) 1 ([(Document.mk 7 1 0 60 0 50 ([9]) ([]) ([]) (λ_=>0))]):=bI.slB0 (T:=51) (fz:=(0,0)) ((show bI vR h5 [I 7,I 1,I 0,I 60,I 0,I 50,.slice (some ⟨b6,0,none⟩) 1 1,.slice none 0 0,.slice none 0 0,Y 0,Y 0,Y 0,Y 0,Y 0,Y 0,Y 0,Y 0,Y 0,Y 0,Y 0,Y 0,Y 0,Y 0,Y 0,Y 0,Y 0,Y 0,Y 0,Y 0,Y 0,Y 0,Y 0,Y 0,Y 0,Y 0,Y 0,Y 0,Y 0,Y 0,Y 0,Y 0] ([(Document.mk 7 1 0 60 0 50 ([9]) ([]) ([]) (λ_=>0))])from⟨[I 7,I 1,I 0,I 60,I 0,I 50,.slice (some ⟨b6,0,none⟩) 1 1,.slice none 0 0,.slice none 0 0,Y 0,Y 0,Y 0,Y 0,Y 0,Y 0,Y 0,Y 0,Y 0,Y 0,Y 0,Y 0,Y 0,Y 0,Y 0,Y 0,Y 0,Y 0,Y 0,Y 0,Y 0,Y 0,Y 0,Y 0,Y 0,Y 0,Y 0,Y 0,Y 0,Y 0,Y 0,Y 0],[],rfl,rfl,⟨(ke.mk (some ⟨b6,0,none⟩) 1 none 0 none 0),rfl,((show Document.ok h2 (Document.mk 7 1 0 60 0 50 ([9]) ([]) ([]) (λ_=>0)) (ke.mk (some ⟨b6,0,none⟩) 1 none 0 none 0)from⟨sl1,vE,vE⟩).mono ((hle3.t hle4).t hle5))⟩,rfl⟩).mono zH hle6) hb5
 refine eR 0 U hM (λh7 hle7 hb6=>?_)
 have sl6:SlC kL h7 (some ⟨b8,0,none⟩) 1 ([(qV 3 4 6 7 5 2 0 false)]):=bI.slB0 (T:=81) (fz:=(0,0)) ((show bI kL h6 [I 3,I 4,I 6,I 7,I 5,I 2,I 0,.bool false] ([(qV 3 4 6 7 5 2 0 false)])from⟨[I 3,I 4,I 6,I 7,I 5,I 2,I 0,.bool false],[],rfl,rfl,rfl,rfl⟩).mono jH hle7) hb6
 exact pH (v:=.agg (vB [.slice (some ⟨b2,0,none⟩) 1 1,.slice (some ⟨b5,0,none⟩) 1 1,.slice none 0 0,.slice none 0 0,.slice (some ⟨b3,0,none⟩) 1 1,.slice (some ⟨b7,0,none⟩) 1 1,.slice (some ⟨b8,0,none⟩) 1 1])) (h2:=h7) (B:=[(b2,O [I 0,I 0,I 0,I 0,I 2,I 1,.bool false] 89)]) func47 (λa ha w hw=>mA (rs:=[.cell 0 30]) (vs:=[.agg (vB [.slice (some ⟨b2,0,none⟩) 1 1,.slice (some ⟨b5,0,none⟩) 1 1,.slice none 0 0,.slice none 0 0,.slice (some ⟨b3,0,none⟩) 1 1,.slice (some ⟨b7,0,none⟩) 1 1,.slice (some ⟨b8,0,none⟩) 1 1])]) U ⟨⟨2,_,_,_,_,U,U,.inl ⟨ty30,U⟩⟩,trivial⟩ a ha w hw) (λw hw=>hw.sub (.cons _ (.cons_cons _ (.cons _ .slnil)))) ⟨b2,some ⟨b5,0,none⟩,1,some ⟨b3,0,none⟩,1,some ⟨b7,0,none⟩,1,some ⟨b8,0,none⟩,1,U,U,(sl3.mono jS ((hle5.t hle6).t hle7)),(sl4.mono vM (hle6.t hle7)),(sl5.mono zH hle7),sl6⟩
theorem np(h:HF)(aL:Register)(fx:dD)(ig:Int)(state:Int)(iW:zL h aL fx)(hsm:smR aL)(hln:aL.Docs.length<20)(hk:Kinds h):Ret prog 48 [.agg (xL aL fx).toArray,I ig,I state] h (.bool (EU aL ig state)):=by
 refine sT func48 U ntmps48 U λX hM hX hF=>?_
 have hs0:EU aL ig state=EU aL ig state:=rfl
 refine sr (cy (λb1=>qO 4 U (cK 0 ty30 U U U (aC (bK (cells:=[I (-1)]) dY ty3 zc3 U U kr (λb2=>av (aX 0 U hM (λh1 hle1 hb1=>?_))))))))
 have sl1:SlC qC h1 (some ⟨b2,0,none⟩) 1 ([(-1)]):=bI.slB0 (T:=3) (fz:=(0,0)) ((show bI qC h [I (-1)] ([(-1)])from⟨[I (-1)],[],rfl,rfl,rfl,rfl⟩).mono vG hle1) hb1
 refine aC (cS Is (me _ _ _ _ _ _ ([]) none 0 7 ig 100 (iW.mono hle1) sl1 vE ob ob (hk.mono hle1)) U (λv1 h2 hle2 hp1=>?_))
 obtain⟨rr1,rfl,ok1⟩:=hp1
 refine qO 3 U (ba zc36 (λb3=>aQ 0 ty36 U U U U U U (qO 7 U (bj 5 [18,19,20,21,22,23] 18 23 (((aG aL ([(-1)]) ([]) 7 ig 100).1).State==state) U (λc1 hk1=>?_) (λe=>?_)))))
 .exact qL 5 [0] U (hk1 _ U)
 exact an (nretP [.bool (((aG aL ([(-1)]) ([]) 7 ig 100).2==0)&&(((aG aL ([(-1)]) ([]) 7 ig 100).1).State==state))] (cs hs0))
theorem Ge(h:HF)(hk:Kinds h):Ret prog 9 [] h (.bool (sB)):=by
 refine sT func9 U ntmps9 U λX hM hX hF=>?_
 have hs0:sB=sB:=rfl
 refine qT 6 U (aC (fN (cells:=[.slice none 0 0,.slice none 0 0,.slice none 0 0,.slice none 0 0,.slice none 0 0,.slice none 0 0,.slice none 0 0]) (places:=[(0,1),(1,1),(2,1),(3,1),(4,1),(5,1),(6,1)]) NH zc30 kr kr (aC (cS Is (me h (xJ ([]) ([]) ([]) ([]) ([]) ([]) ([])) (dD.mk none 0 none 0 none 0 none 0 none 0 none 0 none 0) ([]) none 0 ([]) none 0 0 0 0 (show zL h (xJ ([]) ([]) ([]) ([]) ([]) ([]) ([])) (dD.mk none 0 none 0 none 0 none 0 none 0 none 0 none 0)from⟨vE,vE,vE,vE,vE,vE,vE⟩) vE vE (by first|exact mv|exact kd (by decide) (by decide) (by decide)) (by decide) hk) U (λv1 h1 hle1 hp1=>?_)))))
 rw[show(aG (xJ ([]) ([]) ([]) ([]) ([]) ([]) ([])) ([]) ([]) 0 0 0)=((gy.mk 0 0 [] []),1)from by kernel_rfl]at hp1
 obtain⟨rr1,rfl,ok1⟩:=hp1
 refine qO 3 U (ba zc36 (λb1=>aQ 0 ty36 U U U U U U (qO 4 U ?_)))
 let z3:Nat×Obj:=(b1,O [I 0,I 0,.slice rr1.kY 0 rr1.kX,.slice rr1.FP 0 rr1.FO] 36)
 refine aC (mO (A:=[]) (Fr:=[z3]) vw rfl (gE h1) rfl (λv2 h2 B1 hle2 hp2=>?_) (λ_ _ _ _ hR_=>by obtain⟨_,_,_,_,_,_,_,_,_,hr_,_⟩:=hR_;cases hr_))
 obtain⟨b2,q1,q2,q3,q4,q5,q6,q7,q8,hr_,rfl,sl1,sl2,sl3,sl4⟩:=hp2
 cases hr_
 refine aX 0 U hM (λh3 hle3 hb1=>?_)
 have sl5:SlC xH h3 (some ⟨b2,0,none⟩) 1 ([(jC 0 0 0 0 2 1 false)]):=bI.slB0 (T:=89) (fz:=(0,0)) ((show bI xH h2 [I 0,I 0,I 0,I 0,I 2,I 1,.bool false] ([(jC 0 0 0 0 2 1 false)])from⟨[I 0,I 0,I 0,I 0,I 2,I 1,.bool false],[],rfl,rfl,rfl,rfl⟩).mono kP hle3) hb1
 refine aC (cS call16 (qZ h3 (xJ ([(jC 0 0 0 0 2 1 false)]) aw.Deputies ([]) ([]) aw.Versions aw.Docs aw.Approvals) (dD.mk (some ⟨b2,0,none⟩) 1 q1 q2 none 0 none 0 q3 q4 q5 q6 q7 q8) 7 1 10 100 (show zL h3 (xJ ([(jC 0 0 0 0 2 1 false)]) aw.Deputies ([]) ([]) aw.Versions aw.Docs aw.Approvals) (dD.mk (some ⟨b2,0,none⟩) 1 q1 q2 none 0 none 0 q3 q4 q5 q6 q7 q8)from⟨sl5,(sl1.mono jS hle3),vE,vE,(sl2.mono vM hle3),(sl3.mono zH hle3),(sl4.mono jH hle3)⟩) (by first|exact mv|exact kd (by decide) (by decide) (by decide)) (⟨_,kC.2 U,U⟩) (hk.mono ((hle1.t hle2).t hle3))) U (λv3 h4 hle4 hp3=>?_))
 rw[show(cz (xJ ([(jC 0 0 0 0 2 1 false)]) aw.Deputies ([]) ([]) aw.Versions aw.Docs aw.Approvals) 7 1 10 100)=([2],0)from by kernel_rfl]at hp3
 obtain⟨rb1,rc1,rfl,sl6⟩:=hp3
 refine qO 8 rfl (aC (mO (A:=[]) (Fr:=[z3]) vw rfl (gE h4) rfl (λv4 h5 B2 hle5 hp4=>?_) (λ_ _ _ _ hR_=>by obtain⟨_,_,_,_,_,_,_,_,_,hr_,_⟩:=hR_;cases hr_)))
 obtain⟨b3,q9,q10,q11,q12,q13,q14,q15,q16,hr_,rfl,sl7,sl8,sl9,sl10⟩:=hp4
 cases hr_
 refine aX 0 U hM (λh6 hle6 hb2=>?_)
 have sl11:SlC xH h6 (some ⟨b3,0,none⟩) 1 ([(jC 0 0 0 0 2 1 false)]):=bI.slB0 (T:=89) (fz:=(0,0)) ((show bI xH h5 [I 0,I 0,I 0,I 0,I 2,I 1,.bool false] ([(jC 0 0 0 0 2 1 false)])from⟨[I 0,I 0,I 0,I 0,I 2,I 1,.bool false],[],rfl,rfl,rfl,rfl⟩).mono kP hle6) hb2
 refine aC (cS call16 (qZ h6 (xJ ([(jC 0 0 0 0 2 1 false)]) aw.Deputies ([]) ([]) aw.Versions aw.Docs aw.Approvals) (dD.mk (some ⟨b3,0,none⟩) 1 q9 q10 none 0 none 0 q11 q12 q13 q14 q15 q16) 7 1 10 5 (show zL h6 (xJ ([(jC 0 0 0 0 2 1 false)]) aw.Deputies ([]) ([]) aw.Versions aw.Docs aw.Approvals) (dD.mk (some ⟨b3,0,none⟩) 1 q9 q10 none 0 none 0 q11 q12 q13 q14 q15 q16)from⟨sl11,(sl7.mono jS hle6),vE,vE,(sl8.mono vM hle6),(sl9.mono zH hle6),(sl10.mono jH hle6)⟩) (by first|exact mv|exact kd (by decide) (by decide) (by decide)) (⟨_,kC.2 U,U⟩) (hk.mono (((((hle1.t hle2).t hle3).t hle4).t hle5).t hle6))) U (λv5 h7 hle7 hp5=>?_))
 rw[show(cz (xJ ([(jC 0 0 0 0 2 1 false)]) aw.Deputies ([]) ([]) aw.Versions aw.Docs aw.Approvals) 7 1 10 5)=([],0)from by kernel_rfl]at hp5
 obtain⟨rb2,rc2,rfl,sl12⟩:=hp5
 refine qO 8 rfl (aC (mO (A:=[]) (Fr:=[z3]) vw rfl (gE h7) rfl (λv6 h8 B3 hle8 hp6=>?_) (λ_ _ _ _ hR_=>by obtain⟨_,_,_,_,_,_,_,_,_,hr_,_⟩:=hR_;cases hr_)))
 obtain⟨b4,q17,q18,q19,q20,q21,q22,q23,q24,hr_,rfl,sl13,sl14,sl15,sl16⟩:=hp6
 cases hr_
 refine aX 0 U hM (λh9 hle9 hb3=>?_)
 have sl17:SlC xH h9 (some ⟨b4,0,none⟩) 1 ([(jC 0 0 0 0 2 1 false)]):=bI.slB0 (T:=89) (fz:=(0,0)) ((show bI xH h8 [I 0,I 0,I 0,I 0,I 2,I 1,.bool false] ([(jC 0 0 0 0 2 1 false)])from⟨[I 0,I 0,I 0,I 0,I 2,I 1,.bool false],[],rfl,rfl,rfl,rfl⟩).mono kP hle9) hb3
 refine aC (cS Is (me h9 (xJ ([(jC 0 0 0 0 2 1 false)]) aw.Deputies ([]) ([]) aw.Versions aw.Docs aw.Approvals) (dD.mk (some ⟨b4,0,none⟩) 1 q17 q18 none 0 none 0 q19 q20 q21 q22 q23 q24) ([]) none 0 ([]) none 0 7 10 100 (show zL h9 (xJ ([(jC 0 0 0 0 2 1 false)]) aw.Deputies ([]) ([]) aw.Versions aw.Docs aw.Approvals) (dD.mk (some ⟨b4,0,none⟩) 1 q17 q18 none 0 none 0 q19 q20 q21 q22 q23 q24)from⟨sl17,(sl13.mono jS hle9),vE,vE,(sl14.mono vM hle9),(sl15.mono zH hle9),(sl16.mono jH hle9)⟩) vE vE (by first|exact mv|exact kd (by decide) (by decide) (by decide)) (by decide) (hk.mono ((((((((hle1.t hle2).t hle3).t hle4).t hle5).t hle6).t hle7).t hle8).t hle9))) U (λv7 h10 hle10 hp7=>?_))
 rw[show(aG (xJ ([(jC 0 0 0 0 2 1 false)]) aw.Deputies ([]) ([]) aw.Versions aw.Docs aw.Approvals) ([]) ([]) 7 10 100)=((gy.mk 0 0 [] []),1)from by kernel_rfl]at hp7
 obtain⟨rr2,rfl,ok2⟩:=hp7
 refine qO 3 U (ba zc36 (λb5=>aQ 0 ty36 U U U U U U (qO 4 U ?_)))
 let z5:Nat×Obj:=(b5,O [I 0,I 0,.slice rr2.kY 0 rr2.kX,.slice rr2.FP 0 rr2.FO] 36)
 refine aC (mO (A:=[]) (Fr:=[z5,z3]) vw rfl (gE h10) rfl (λv8 h11 B4 hle11 hp8=>?_) (λ_ _ _ _ hR_=>by obtain⟨_,_,_,_,_,_,_,_,_,hr_,_⟩:=hR_;cases hr_))
 obtain⟨b6,q25,q26,q27,q28,q29,q30,q31,q32,hr_,rfl,sl18,sl19,sl20,sl21⟩:=hp8
 cases hr_
 refine ba zc30 (λb7=>aQ 0 ty30 U U U U U U (qL 5 [0] U (aC (fw (CP (i:=0) DY ty89 U U ob) (qL 1 [] U (cT 1 ty3 U U U U U U (qO 3 U ?_)))))))
 let z1:Nat×Obj:=(b7,O [.slice (some ⟨b6,0,none⟩) 1 1,.slice q25 1 q26,.slice none 0 0,.slice none 0 0,.slice q27 1 q28,.slice q29 1 q30,.slice q31 1 q32] 30)
 refine aC (mO (A:=[]) (Fr:=[z1,(b6,O [I 0,I 0,I 0,I 0,I 2,I 0,.bool false] 89),z5,z3]) vw rfl (gE h11) rfl (λv9 h12 B5 hle12 hp9=>?_) (λ_ _ _ _ hR_=>by obtain⟨_,_,_,_,_,_,_,_,_,hr_,_⟩:=hR_;cases hr_))
 obtain⟨b8,q33,q34,q35,q36,q37,q38,q39,q40,hr_,rfl,sl22,sl23,sl24,sl25⟩:=hp9
 cases hr_
 refine ba zc30 (λb9=>aQ 0 ty30 U U U U U U (qO 3 U (aC (fN (cells:=[I 0,I 0,I 0,I 5,I 9,.bool false,.bool false]) (places:=[(0,1),(1,1),(2,1),(3,1),(4,1),(5,1),(6,1)]) underlying97 zc97 kr kr (aC (bK (cells:=[I 0,I 0,I 0,I 5,I 9,.bool false,.bool false]) vx ty97 zc97 U U kr (λb10=>qL 1 [] U (cT 1 ty24 U U U U U U (qO 4 U (aC (fN (cells:=[.slice none 0 0,.slice none 0 0,.slice none 0 0,.slice none 0 0,.slice none 0 0,.slice none 0 0,.slice none 0 0]) (places:=[(0,1),(1,1),(2,1),(3,1),(4,1),(5,1),(6,1)]) NH zc30 kr kr (ai (v:=I 0) Nn (tZ (oX h12 (xJ ([]) ([]) ([]) ([]) ([]) ([]) ([])) (dD.mk none 0 none 0 none 0 none 0 none 0 none 0 none 0) (show zL h12 (xJ ([]) ([]) ([]) ([]) ([]) ([]) ([])) (dD.mk none 0 none 0 none 0 none 0 none 0 none 0 none 0)from⟨vE,vE,vE,vE,vE,vE,vE⟩) (by first|exact mv|exact kd (by decide) (by decide) (by decide)) (hk.mono (((((((((((hle1.t hle2).t hle3).t hle4).t hle5).t hle6).t hle7).t hle8).t hle9).t hle10).t hle11).t hle12))) kr) U (qO 2 U (cK 3 ty30 U U U (aX 4 U hM (λh13 hle13 hb4=>?_))))))))))))))))
 have sl26:SlC xH h13 (some ⟨b6,0,none⟩) 1 ([(jC 0 0 0 0 2 0 false)]):=bI.slB0 (T:=89) (fz:=(0,0)) ((show bI xH h12 [I 0,I 0,I 0,I 0,I 2,I 0,.bool false] ([(jC 0 0 0 0 2 0 false)])from⟨[I 0,I 0,I 0,I 0,I 2,I 0,.bool false],[],rfl,rfl,rfl,rfl⟩).mono kP hle13) hb4
 refine ai (v:=I 300) Nn (tZ (oX h13 (xJ ([(jC 0 0 0 0 2 0 false)]) aw.Deputies ([]) ([]) aw.Versions aw.Docs aw.Approvals) (dD.mk (some ⟨b6,0,none⟩) 1 q25 q26 none 0 none 0 q27 q28 q29 q30 q31 q32) (show zL h13 (xJ ([(jC 0 0 0 0 2 0 false)]) aw.Deputies ([]) ([]) aw.Versions aw.Docs aw.Approvals) (dD.mk (some ⟨b6,0,none⟩) 1 q25 q26 none 0 none 0 q27 q28 q29 q30 q31 q32)from⟨sl26,(sl18.mono jS (hle12.t hle13)),vE,vE,(sl19.mono vM (hle12.t hle13)),(sl20.mono zH (hle12.t hle13)),(sl21.mono jH (hle12.t hle13))⟩) (by first|exact mv|exact kd (by decide) (by decide) (by decide)) (hk.mono ((((((((((((hle1.t hle2).t hle3).t hle4).t hle5).t hle6).t hle7).t hle8).t hle9).t hle10).t hle11).t hle12).t hle13))) kr) U (qO 20 U (aC (bK (cells:=[I 2]) dY ty3 zc3 U U kr (λb11=>aX 0 U hM (λh14 hle14 hb5=>?_)))))
 have sl27:SlC qC h14 (some ⟨b11,0,none⟩) 1 ([2]):=bI.slB0 (T:=3) (fz:=(0,0)) ((show bI qC h13 [I 2] ([2])from⟨[I 2],[],rfl,rfl,rfl,rfl⟩).mono vG hle14) hb5
 refine ai (v:=.bool true) call18 (tZ (tg h14 ([2]) rb1 rc1 ([2]) (some ⟨b11,0,none⟩) 1 (sl6.mono vG (((((((((hle5.t hle6).t hle7).t hle8).t hle9).t hle10).t hle11).t hle12).t hle13).t hle14)) sl27) kr) U (qL 12 [] U ?_)
 let z2:Nat×Obj:=(b9,O [.slice (some ⟨b8,0,none⟩) 1 1,.slice q33 1 q34,.slice (some ⟨b10,0,none⟩) 1 1,.slice none 0 0,.slice q35 1 q36,.slice q37 1 q38,.slice q39 1 q40] 30)
 let z8:Nat×Obj:=(b10,O [I 0,I 0,I 0,I 5,I 9,.bool false,.bool false] 97)
 let z9:Nat×Obj:=(b8,O [I 0,I 0,I 0,I 0,I 2,I 1,.bool false] 89)
 refine aC (mO (A:=[]) (Fr:=[z8,z2,z9,z1,z5,z3]) vw rfl (gE h14) rfl (λv10 h15 B6 hle15 hp10=>?_) (λ_ _ _ _ hR_=>by obtain⟨_,_,_,_,_,_,_,_,_,hr_,_⟩:=hR_;cases hr_))
 obtain⟨b12,q41,q42,q43,q44,q45,q46,q47,q48,hr_,rfl,sl28,sl29,sl30,sl31⟩:=hp10
 cases hr_
 refine ba zc30 (λb13=>aQ 0 ty30 U U U U U U (qO 3 U (aC (fN (cells:=[I 8,I 0,I 0,I (-1),I 10,I 1,I 59,.bool false]) (places:=[(0,1),(1,1),(2,1),(3,1),(4,1),(5,1),(6,1),(7,1)]) underlying101 zc101 kr kr (aC (bK (cells:=[I 8,I 0,I 0,I (-1),I 10,I 1,I 59,.bool false]) uo ty101 zc101 U U kr (λb14=>qL 1 [] U (cT 1 ty25 U U U U U U (qO 3 U (cK 1 ty30 U U U (aC (bK (cells:=[I (-1)]) dY ty3 zc3 U U kr (λb15=>aX 3 U hM (λh16 hle16 hb6=>?_))))))))))))))
 have sl32:SlC xH h16 (some ⟨b12,0,none⟩) 1 ([(jC 0 0 0 0 2 1 false)]):=bI.slB0 (T:=89) (fz:=(0,0)) ((show bI xH h15 [I 0,I 0,I 0,I 0,I 2,I 1,.bool false] ([(jC 0 0 0 0 2 1 false)])from⟨[I 0,I 0,I 0,I 0,I 2,I 1,.bool false],[],rfl,rfl,rfl,rfl⟩).mono kP hle16) hb6
 refine aX 1 U hM (λh17 hle17 hb7=>?_)
 have sl33:SlC aAk h17 (some ⟨b14,0,none⟩) 1 ([(aAW 8 0 0 (-1) 10 1 59 false)]):=bI.slB0 (T:=101) (fz:=(0,0)) ((show bI aAk h16 [I 8,I 0,I 0,I (-1),I 10,I 1,I 59,.bool false] ([(aAW 8 0 0 (-1) 10 1 59 false)])from⟨[I 8,I 0,I 0,I (-1),I 10,I 1,I 59,.bool false],[],rfl,rfl,rfl,rfl⟩).mono aBu hle17) hb7
 refine aX 0 U hM (λh18 hle18 hb8=>?_)
 have sl34:SlC qC h18 (some ⟨b15,0,none⟩) 1 ([(-1)]):=bI.slB0 (T:=3) (fz:=(0,0)) ((show bI qC h17 [I (-1)] ([(-1)])from⟨[I (-1)],[],rfl,rfl,rfl,rfl⟩).mono vG hle18) hb8
 refine aC (cS Is (me h18 (xJ ([(jC 0 0 0 0 2 1 false)]) aw.Deputies ([]) ([(aAW 8 0 0 (-1) 10 1 59 false)]) aw.Versions aw.Docs aw.Approvals) (dD.mk (some ⟨b12,0,none⟩) 1 q41 q42 none 0 (some ⟨b14,0,none⟩) 1 q43 q44 q45 q46 q47 q48) ([(-1)]) (some ⟨b15,0,none⟩) 1 ([]) none 0 7 10 100 (show zL h18 (xJ ([(jC 0 0 0 0 2 1 false)]) aw.Deputies ([]) ([(aAW 8 0 0 (-1) 10 1 59 false)]) aw.Versions aw.Docs aw.Approvals) (dD.mk (some ⟨b12,0,none⟩) 1 q41 q42 none 0 (some ⟨b14,0,none⟩) 1 q43 q44 q45 q46 q47 q48)from⟨(sl32.mono kP (hle17.t hle18)),(sl28.mono jS ((hle16.t hle17).t hle18)),vE,(sl33.mono aBu hle18),(sl29.mono vM ((hle16.t hle17).t hle18)),(sl30.mono zH ((hle16.t hle17).t hle18)),(sl31.mono jH ((hle16.t hle17).t hle18))⟩) sl34 vE (by first|exact mv|exact kd (by decide) (by decide) (by decide)) (by decide) (hk.mono (((((((((((((((((hle1.t hle2).t hle3).t hle4).t hle5).t hle6).t hle7).t hle8).t hle9).t hle10).t hle11).t hle12).t hle13).t hle14).t hle15).t hle16).t hle17).t hle18))) U (λv11 h19 hle19 hp11=>?_))
 rw[show(aG (xJ ([(jC 0 0 0 0 2 1 false)]) aw.Deputies ([]) ([(aAW 8 0 0 (-1) 10 1 59 false)]) aw.Versions aw.Docs aw.Approvals) ([(-1)]) ([]) 7 10 100)=((gy.mk 4 8 [1] [2]),0)from by kernel_rfl]at hp11
 obtain⟨rr3,rfl,ok3⟩:=hp11
 refine qO 3 U (ba zc36 (λb16=>aQ 0 ty36 U U U U U U (qO 4 U ?_)))
 let z4:Nat×Obj:=(b13,O [.slice (some ⟨b12,0,none⟩) 1 1,.slice q41 1 q42,.slice none 0 0,.slice (some ⟨b14,0,none⟩) 1 1,.slice q43 1 q44,.slice q45 1 q46,.slice q47 1 q48] 30)
 let z6:Nat×Obj:=(b16,O [I 4,I 8,.slice rr3.kY 1 rr3.kX,.slice rr3.FP 1 rr3.FO] 36)
 refine aC (mO (A:=[]) (Fr:=[z6,z4,z8,z2,z9,z1,z5,z3]) vw rfl (gE h19) rfl (λv12 h20 B7 hle20 hp12=>?_) (λ_ _ _ _ hR_=>by obtain⟨_,_,_,_,_,_,_,_,_,hr_,_⟩:=hR_;cases hr_))
 obtain⟨b17,q49,q50,q51,q52,q53,q54,q55,q56,hr_,rfl,sl35,sl36,sl37,sl38⟩:=hp12
 cases hr_
 refine aC (bK (cells:=[I 9]) dY ty3 zc3 U U kr (λb18=>aX 1 U hM (λh21 hle21 hb9=>?_)))
 have sl39:SlC xH h21 (some ⟨b17,0,none⟩) 1 ([(jC 0 0 0 0 2 1 false)]):=bI.slB0 (T:=89) (fz:=(0,0)) ((show bI xH h20 [I 0,I 0,I 0,I 0,I 2,I 1,.bool false] ([(jC 0 0 0 0 2 1 false)])from⟨[I 0,I 0,I 0,I 0,I 2,I 1,.bool false],[],rfl,rfl,rfl,rfl⟩).mono kP hle21) hb9
 refine aX 0 U hM (λh22 hle22 hb10=>?_)
 have sl40:SlC qC h22 (some ⟨b18,0,none⟩) 1 ([9]):=bI.slB0 (T:=3) (fz:=(0,0)) ((show bI qC h21 [I 9] ([9])from⟨[I 9],[],rfl,rfl,rfl,rfl⟩).mono vG hle22) hb10
 refine aC (cS Is (me h22 (xJ ([(jC 0 0 0 0 2 1 false)]) aw.Deputies ([]) ([]) aw.Versions aw.Docs aw.Approvals) (dD.mk (some ⟨b17,0,none⟩) 1 q49 q50 none 0 none 0 q51 q52 q53 q54 q55 q56) ([9]) (some ⟨b18,0,none⟩) 1 ([]) none 0 7 10 100 (show zL h22 (xJ ([(jC 0 0 0 0 2 1 false)]) aw.Deputies ([]) ([]) aw.Versions aw.Docs aw.Approvals) (dD.mk (some ⟨b17,0,none⟩) 1 q49 q50 none 0 none 0 q51 q52 q53 q54 q55 q56)from⟨(sl39.mono kP hle22),(sl35.mono jS (hle21.t hle22)),vE,vE,(sl36.mono vM (hle21.t hle22)),(sl37.mono zH (hle21.t hle22)),(sl38.mono jH (hle21.t hle22))⟩) sl40 vE (by first|exact mv|exact kd (by decide) (by decide) (by decide)) (by decide) (hk.mono (((((((((((((((((((((hle1.t hle2).t hle3).t hle4).t hle5).t hle6).t hle7).t hle8).t hle9).t hle10).t hle11).t hle12).t hle13).t hle14).t hle15).t hle16).t hle17).t hle18).t hle19).t hle20).t hle21).t hle22))) U (λv13 h23 hle23 hp13=>?_))
 rw[show(aG (xJ ([(jC 0 0 0 0 2 1 false)]) aw.Deputies ([]) ([]) aw.Versions aw.Docs aw.Approvals) ([9]) ([]) 7 10 100)=((gy.mk 1 (-1) [] []),0)from by kernel_rfl]at hp13
 obtain⟨rr4,rfl,ok4⟩:=hp13
 refine qO 3 U (ba zc36 (λb19=>aQ 0 ty36 U U U U U U (qL 37 [1,1,0,0] U ?_)))
 let z7:Nat×Obj:=(b19,O [I 1,I (-1),.slice rr4.kY 0 rr4.kX,.slice rr4.FP 0 rr4.FO] 36)
 refine aC (mO (A:=[]) (Fr:=[z7,z6,z4,z8,z2,z9,z1,z5,z3]) vw rfl (gE h23) rfl (λv14 h24 B8 hle24 hp14=>?_) (λ_ _ _ _ hR_=>by obtain⟨_,_,_,_,_,_,_,_,_,hr_,_⟩:=hR_;cases hr_))
 obtain⟨b20,q57,q58,q59,q60,q61,q62,q63,q64,hr_,rfl,sl41,sl42,sl43,sl44⟩:=hp14
 cases hr_
 refine aX 0 U hM (λh25 hle25 hb11=>?_)
 have sl45:SlC xH h25 (some ⟨b20,0,none⟩) 1 ([(jC 0 0 0 0 2 1 false)]):=bI.slB0 (T:=89) (fz:=(0,0)) ((show bI xH h24 [I 0,I 0,I 0,I 0,I 2,I 1,.bool false] ([(jC 0 0 0 0 2 1 false)])from⟨[I 0,I 0,I 0,I 0,I 2,I 1,.bool false],[],rfl,rfl,rfl,rfl⟩).mono kP hle25) hb11
 refine ai (v:=.bool true) Gx (tZ (np h25 (xJ ([(jC 0 0 0 0 2 1 false)]) aw.Deputies ([]) ([]) aw.Versions aw.Docs aw.Approvals) (dD.mk (some ⟨b20,0,none⟩) 1 q57 q58 none 0 none 0 q59 q60 q61 q62 q63 q64) 0 1 (show zL h25 (xJ ([(jC 0 0 0 0 2 1 false)]) aw.Deputies ([]) ([]) aw.Versions aw.Docs aw.Approvals) (dD.mk (some ⟨b20,0,none⟩) 1 q57 q58 none 0 none 0 q59 q60 q61 q62 q63 q64)from⟨sl45,(sl41.mono jS hle25),vE,vE,(sl42.mono vM hle25),(sl43.mono zH hle25),(sl44.mono jH hle25)⟩) (by first|exact mv|exact kd (by decide) (by decide) (by decide)) (by decide) (hk.mono ((((((((((((((((((((((((hle1.t hle2).t hle3).t hle4).t hle5).t hle6).t hle7).t hle8).t hle9).t hle10).t hle11).t hle12).t hle13).t hle14).t hle15).t hle16).t hle17).t hle18).t hle19).t hle20).t hle21).t hle22).t hle23).t hle24).t hle25))) kr) rfl (av (aC (mO (A:=[]) (Fr:=[z7,z6,z4,z8,z2,z9,z1,z5,z3]) vw rfl (gE h25) rfl (λv15 h26 B9 hle26 hp15=>?_) (λ_ _ _ _ hR_=>by obtain⟨_,_,_,_,_,_,_,_,_,hr_,_⟩:=hR_;cases hr_))))
 obtain⟨b21,q65,q66,q67,q68,q69,q70,q71,q72,hr_,rfl,sl46,sl47,sl48,sl49⟩:=hp15
 cases hr_
 refine aX 0 U hM (λh27 hle27 hb12=>?_)
 have sl50:SlC xH h27 (some ⟨b21,0,none⟩) 1 ([(jC 0 0 0 0 2 1 false)]):=bI.slB0 (T:=89) (fz:=(0,0)) ((show bI xH h26 [I 0,I 0,I 0,I 0,I 2,I 1,.bool false] ([(jC 0 0 0 0 2 1 false)])from⟨[I 0,I 0,I 0,I 0,I 2,I 1,.bool false],[],rfl,rfl,rfl,rfl⟩).mono kP hle27) hb12
 refine ai (v:=.bool true) Gx (tZ (np h27 (xJ ([(jC 0 0 0 0 2 1 false)]) aw.Deputies ([]) ([]) aw.Versions aw.Docs aw.Approvals) (dD.mk (some ⟨b21,0,none⟩) 1 q65 q66 none 0 none 0 q67 q68 q69 q70 q71 q72) 6 3 (show zL h27 (xJ ([(jC 0 0 0 0 2 1 false)]) aw.Deputies ([]) ([]) aw.Versions aw.Docs aw.Approvals) (dD.mk (some ⟨b21,0,none⟩) 1 q65 q66 none 0 none 0 q67 q68 q69 q70 q71 q72)from⟨sl50,(sl46.mono jS hle27),vE,vE,(sl47.mono vM hle27),(sl48.mono zH hle27),(sl49.mono jH hle27)⟩) (by first|exact mv|exact kd (by decide) (by decide) (by decide)) (by decide) (hk.mono ((((((((((((((((((((((((((hle1.t hle2).t hle3).t hle4).t hle5).t hle6).t hle7).t hle8).t hle9).t hle10).t hle11).t hle12).t hle13).t hle14).t hle15).t hle16).t hle17).t hle18).t hle19).t hle20).t hle21).t hle22).t hle23).t hle24).t hle25).t hle26).t hle27))) kr) rfl (qO 2 rfl (aC (mO (A:=[]) (Fr:=[z7,z6,z4,z8,z2,z9,z1,z5,z3]) vw rfl (gE h27) rfl (λv16 h28 B10 hle28 hp16=>?_) (λ_ _ _ _ hR_=>by obtain⟨_,_,_,_,_,_,_,_,_,hr_,_⟩:=hR_;cases hr_))))
 obtain⟨b22,q73,q74,q75,q76,q77,q78,q79,q80,hr_,rfl,sl51,sl52,sl53,sl54⟩:=hp16
 cases hr_
 refine aX 0 U hM (λh29 hle29 hb13=>?_)
 have sl55:SlC xH h29 (some ⟨b22,0,none⟩) 1 ([(jC 0 0 0 0 2 1 false)]):=bI.slB0 (T:=89) (fz:=(0,0)) ((show bI xH h28 [I 0,I 0,I 0,I 0,I 2,I 1,.bool false] ([(jC 0 0 0 0 2 1 false)])from⟨[I 0,I 0,I 0,I 0,I 2,I 1,.bool false],[],rfl,rfl,rfl,rfl⟩).mono kP hle29) hb13
 refine ai (v:=.bool true) Gx (tZ (np h29 (xJ ([(jC 0 0 0 0 2 1 false)]) aw.Deputies ([]) ([]) aw.Versions aw.Docs aw.Approvals) (dD.mk (some ⟨b22,0,none⟩) 1 q73 q74 none 0 none 0 q75 q76 q77 q78 q79 q80) 7 0 (show zL h29 (xJ ([(jC 0 0 0 0 2 1 false)]) aw.Deputies ([]) ([]) aw.Versions aw.Docs aw.Approvals) (dD.mk (some ⟨b22,0,none⟩) 1 q73 q74 none 0 none 0 q75 q76 q77 q78 q79 q80)from⟨sl55,(sl51.mono jS hle29),vE,vE,(sl52.mono vM hle29),(sl53.mono zH hle29),(sl54.mono jH hle29)⟩) (by first|exact mv|exact kd (by decide) (by decide) (by decide)) (by decide) (hk.mono ((((((((((((((((((((((((((((hle1.t hle2).t hle3).t hle4).t hle5).t hle6).t hle7).t hle8).t hle9).t hle10).t hle11).t hle12).t hle13).t hle14).t hle15).t hle16).t hle17).t hle18).t hle19).t hle20).t hle21).t hle22).t hle23).t hle24).t hle25).t hle26).t hle27).t hle28).t hle29))) kr) rfl (qO 2 rfl (aC (mO (A:=[]) (Fr:=[z7,z6,z4,z8,z2,z9,z1,z5,z3]) vw rfl (gE h29) rfl (λv17 h30 B11 hle30 hp17=>?_) (λ_ _ _ _ hR_=>by obtain⟨_,_,_,_,_,_,_,_,_,hr_,_⟩:=hR_;cases hr_))))
 obtain⟨b23,q81,q82,q83,q84,q85,q86,q87,q88,hr_,rfl,sl56,sl57,sl58,sl59⟩:=hp17
 cases hr_
 refine aX 0 U hM (λh31 hle31 hb14=>?_)
 have sl60:SlC xH h31 (some ⟨b23,0,none⟩) 1 ([(jC 0 0 0 0 2 1 false)]):=bI.slB0 (T:=89) (fz:=(0,0)) ((show bI xH h30 [I 0,I 0,I 0,I 0,I 2,I 1,.bool false] ([(jC 0 0 0 0 2 1 false)])from⟨[I 0,I 0,I 0,I 0,I 2,I 1,.bool false],[],rfl,rfl,rfl,rfl⟩).mono kP hle31) hb14
 refine ai (v:=.bool true) Gx (tZ (np h31 (xJ ([(jC 0 0 0 0 2 1 false)]) aw.Deputies ([]) ([]) aw.Versions aw.Docs aw.Approvals) (dD.mk (some ⟨b23,0,none⟩) 1 q81 q82 none 0 none 0 q83 q84 q85 q86 q87 q88) 39 0 (show zL h31 (xJ ([(jC 0 0 0 0 2 1 false)]) aw.Deputies ([]) ([]) aw.Versions aw.Docs aw.Approvals) (dD.mk (some ⟨b23,0,none⟩) 1 q81 q82 none 0 none 0 q83 q84 q85 q86 q87 q88)from⟨sl60,(sl56.mono jS hle31),vE,vE,(sl57.mono vM hle31),(sl58.mono zH hle31),(sl59.mono jH hle31)⟩) (by first|exact mv|exact kd (by decide) (by decide) (by decide)) (by decide) (hk.mono ((((((((((((((((((((((((((((((hle1.t hle2).t hle3).t hle4).t hle5).t hle6).t hle7).t hle8).t hle9).t hle10).t hle11).t hle12).t hle13).t hle14).t hle15).t hle16).t hle17).t hle18).t hle19).t hle20).t hle21).t hle22).t hle23).t hle24).t hle25).t hle26).t hle27).t hle28).t hle29).t hle30).t hle31))) kr) rfl (qO 2 rfl (aC (mO (A:=[]) (Fr:=[z7,z6,z4,z8,z2,z9,z1,z5,z3]) vw rfl (gE h31) rfl (λv18 h32 B12 hle32 hp18=>?_) (λ_ _ _ _ hR_=>by obtain⟨_,_,_,_,_,_,_,_,_,hr_,_⟩:=hR_;cases hr_))))
 obtain⟨b24,q89,q90,q91,q92,q93,q94,q95,q96,hr_,rfl,sl61,sl62,sl63,sl64⟩:=hp18
 cases hr_
 refine aX 0 U hM (λh33 hle33 hb15=>?_)
 have sl65:SlC xH h33 (some ⟨b24,0,none⟩) 1 ([(jC 0 0 0 0 2 1 false)]):=bI.slB0 (T:=89) (fz:=(0,0)) ((show bI xH h32 [I 0,I 0,I 0,I 0,I 2,I 1,.bool false] ([(jC 0 0 0 0 2 1 false)])from⟨[I 0,I 0,I 0,I 0,I 2,I 1,.bool false],[],rfl,rfl,rfl,rfl⟩).mono kP hle33) hb15
 refine ai (v:=.bool true) Gx (tZ (np h33 (xJ ([(jC 0 0 0 0 2 1 false)]) aw.Deputies ([]) ([]) aw.Versions aw.Docs aw.Approvals) (dD.mk (some ⟨b24,0,none⟩) 1 q89 q90 none 0 none 0 q91 q92 q93 q94 q95 q96) 40 3 (show zL h33 (xJ ([(jC 0 0 0 0 2 1 false)]) aw.Deputies ([]) ([]) aw.Versions aw.Docs aw.Approvals) (dD.mk (some ⟨b24,0,none⟩) 1 q89 q90 none 0 none 0 q91 q92 q93 q94 q95 q96)from⟨sl65,(sl61.mono jS hle33),vE,vE,(sl62.mono vM hle33),(sl63.mono zH hle33),(sl64.mono jH hle33)⟩) (by first|exact mv|exact kd (by decide) (by decide) (by decide)) (by decide) (hk.mono ((((((((((((((((((((((((((((((((hle1.t hle2).t hle3).t hle4).t hle5).t hle6).t hle7).t hle8).t hle9).t hle10).t hle11).t hle12).t hle13).t hle14).t hle15).t hle16).t hle17).t hle18).t hle19).t hle20).t hle21).t hle22).t hle23).t hle24).t hle25).t hle26).t hle27).t hle28).t hle29).t hle30).t hle31).t hle32).t hle33))) kr) rfl (qO 2 rfl (aC (mO (A:=[]) (Fr:=[z7,z6,z4,z8,z2,z9,z1,z5,z3]) vw rfl (gE h33) rfl (λv19 h34 B13 hle34 hp19=>?_) (λ_ _ _ _ hR_=>by obtain⟨_,_,_,_,_,_,_,_,_,hr_,_⟩:=hR_;cases hr_))))
 obtain⟨b25,q97,q98,q99,q100,q101,q102,q103,q104,hr_,rfl,sl66,sl67,sl68,sl69⟩:=hp19
 cases hr_
 refine aX 0 U hM (λh35 hle35 hb16=>?_)
 have sl70:SlC xH h35 (some ⟨b25,0,none⟩) 1 ([(jC 0 0 0 0 2 1 false)]):=bI.slB0 (T:=89) (fz:=(0,0)) ((show bI xH h34 [I 0,I 0,I 0,I 0,I 2,I 1,.bool false] ([(jC 0 0 0 0 2 1 false)])from⟨[I 0,I 0,I 0,I 0,I 2,I 1,.bool false],[],rfl,rfl,rfl,rfl⟩).mono kP hle35) hb16
 refine ai (v:=.bool true) Gx (tZ (np h35 (xJ ([(jC 0 0 0 0 2 1 false)]) aw.Deputies ([]) ([]) aw.Versions aw.Docs aw.Approvals) (dD.mk (some ⟨b25,0,none⟩) 1 q97 q98 none 0 none 0 q99 q100 q101 q102 q103 q104) 50 1 (show zL h35 (xJ ([(jC 0 0 0 0 2 1 false)]) aw.Deputies ([]) ([]) aw.Versions aw.Docs aw.Approvals) (dD.mk (some ⟨b25,0,none⟩) 1 q97 q98 none 0 none 0 q99 q100 q101 q102 q103 q104)from⟨sl70,(sl66.mono jS hle35),vE,vE,(sl67.mono vM hle35),(sl68.mono zH hle35),(sl69.mono jH hle35)⟩) (by first|exact mv|exact kd (by decide) (by decide) (by decide)) (by decide) (hk.mono ((((((((((((((((((((((((((((((((((hle1.t hle2).t hle3).t hle4).t hle5).t hle6).t hle7).t hle8).t hle9).t hle10).t hle11).t hle12).t hle13).t hle14).t hle15).t hle16).t hle17).t hle18).t hle19).t hle20).t hle21).t hle22).t hle23).t hle24).t hle25).t hle26).t hle27).t hle28).t hle29).t hle30).t hle31).t hle32).t hle33).t hle34).t hle35))) kr) U (qO 2 U (cK 4 ty30 U U U (aX 5 U hM (λh36 hle36 hb17=>?_))))
 have sl71:SlC xH h36 (some ⟨b8,0,none⟩) 1 ([(jC 0 0 0 0 2 1 false)]):=bI.slB0 (T:=89) (fz:=(0,0)) ((show bI xH h35 [I 0,I 0,I 0,I 0,I 2,I 1,.bool false] ([(jC 0 0 0 0 2 1 false)])from⟨[I 0,I 0,I 0,I 0,I 2,I 1,.bool false],[],rfl,rfl,rfl,rfl⟩).mono kP hle36) hb17
 refine aX 3 U hM (λh37 hle37 hb18=>?_)
 have sl72:SlC kM h37 (some ⟨b10,0,none⟩) 1 ([(aAv 0 0 0 5 9 false false)]):=bI.slB0 (T:=97) (fz:=(0,0)) ((show bI kM h36 [I 0,I 0,I 0,I 5,I 9,.bool false,.bool false] ([(aAv 0 0 0 5 9 false false)])from⟨[I 0,I 0,I 0,I 5,I 9,.bool false,.bool false],[],rfl,rfl,rfl,rfl⟩).mono Interest.aj hle37) hb18
 exact ai (v:=.bool true) Gx (tZ (np h37 (xJ ([(jC 0 0 0 0 2 1 false)]) aw.Deputies ([(aAv 0 0 0 5 9 false false)]) ([]) aw.Versions aw.Docs aw.Approvals) (dD.mk (some ⟨b8,0,none⟩) 1 q33 q34 (some ⟨b10,0,none⟩) 1 none 0 q35 q36 q37 q38 q39 q40) 10 3 (show zL h37 (xJ ([(jC 0 0 0 0 2 1 false)]) aw.Deputies ([(aAv 0 0 0 5 9 false false)]) ([]) aw.Versions aw.Docs aw.Approvals) (dD.mk (some ⟨b8,0,none⟩) 1 q33 q34 (some ⟨b10,0,none⟩) 1 none 0 q35 q36 q37 q38 q39 q40)from⟨(sl71.mono kP hle37),(sl22.mono jS ((((((((((((((((((((((((hle13.t hle14).t hle15).t hle16).t hle17).t hle18).t hle19).t hle20).t hle21).t hle22).t hle23).t hle24).t hle25).t hle26).t hle27).t hle28).t hle29).t hle30).t hle31).t hle32).t hle33).t hle34).t hle35).t hle36).t hle37)),sl72,vE,(sl23.mono vM ((((((((((((((((((((((((hle13.t hle14).t hle15).t hle16).t hle17).t hle18).t hle19).t hle20).t hle21).t hle22).t hle23).t hle24).t hle25).t hle26).t hle27).t hle28).t hle29).t hle30).t hle31).t hle32).t hle33).t hle34).t hle35).t hle36).t hle37)),(sl24.mono zH ((((((((((((((((((((((((hle13.t hle14).t hle15).t hle16).t hle17).t hle18).t hle19).t hle20).t hle21).t hle22).t hle23).t hle24).t hle25).t hle26).t hle27).t hle28).t hle29).t hle30).t hle31).t hle32).t hle33).t hle34).t hle35).t hle36).t hle37)),(sl25.mono jH ((((((((((((((((((((((((hle13.t hle14).t hle15).t hle16).t hle17).t hle18).t hle19).t hle20).t hle21).t hle22).t hle23).t hle24).t hle25).t hle26).t hle27).t hle28).t hle29).t hle30).t hle31).t hle32).t hle33).t hle34).t hle35).t hle36).t hle37))⟩) (by first|exact mv|exact kd (by decide) (by decide) (by decide)) (by decide) (hk.mono ((((((((((((((((((((((((((((((((((((hle1.t hle2).t hle3).t hle4).t hle5).t hle6).t hle7).t hle8).t hle9).t hle10).t hle11).t hle12).t hle13).t hle14).t hle15).t hle16).t hle17).t hle18).t hle19).t hle20).t hle21).t hle22).t hle23).t hle24).t hle25).t hle26).t hle27).t hle28).t hle29).t hle30).t hle31).t hle32).t hle33).t hle34).t hle35).t hle36).t hle37))) kr) U (qO 3 U (nretP [.bool true] (cs hs0)))
theorem Dm(rec:Expr->Int->Int)(h:HF)(x:Expr)(gd:cL)(limit:Int)(hrec:∀(h:HF)(qx:Expr)(kU:cL)(qlimit:Int)(hqx:jF h qx kU)(_:qx.dep<x.dep),Ret prog 123 [.agg (zC qx kU).toArray,I qlimit] h (I (rec qx qlimit)))(hx:jF h x gd):Ret prog 123 [.agg (zC x gd).toArray,I limit] h (I (fY.F rec x limit)):=by
 refine sT func123 U ntmps123 U λX hM hX hF=>?_
 have hs0:fY.F rec x limit=fY.F rec x limit:=rfl
 refine sr (cy (λb1=>qO 11 U ?_))
 refine lp1 x.L (λi w=>[(1,I limit),(2,Q b1),(5,I w),(6,I (i:Int))]) ([(b1,O (zC x gd) 62)]) (λs1 i w=>(fY.L1 rec limit (fY.K1)) s1 w) 1 hx.list.1.1 hs0 ?_ ?_ ?_
 .rintro i1 eW fp hs1 e
  exact sr (qO 3 U (nretP [I eW] (ci hs1)))
 .rintro i1 eW y1 rz1 hd1 dj aY er gr hs3 hx1 ag1 e
  refine qK 7 [0] U (tO dj U (qO 6 U (ae hs3 U (λc2 hs4=>?_) (λc2 hs5=>?_))))
  .have c2p:=of_decide_eq_true c2
   exact qK 8 [0] U (aC (iR lB ty62 hx.list.1 aY U U U (λ_ _ _ e=>e) (λq2 r2 A2 ok2=>dz ty62 A2 U U (qO 3 U (ai call123 (hrec _ _ _ (vC .i64 (limit-eW)) ok2 (aAe (fX hd1))) U (qO 6 U (oi i1 U (qO 2 U (ag1 (vC .i64 (eW+(rec y1 (vC .i64 (limit-eW))))) hs4)))))))))
  have c2p:=of_decide_eq_false c2
  exact lI U (hx1 i1 eW hs5)
 rintro i1 eW hd1 ga hx e
 exact qK 7 [0] U (fO ga U (qO 8 U (hx _ rd)))
theorem te:∀(m:Nat)(h:HF)(x:Expr)(gd:cL)(limit:Int)(_:x.dep<=m)(hx:jF h x gd),Ret prog 123 [.agg (zC x gd).toArray,I limit] h (I (fY.go m x limit))
 |0,h,x,gd,limit,hd,hx=>absurd hd (Nat.not_le.2 (Expr.lO _))
 |m+1,h,x,gd,limit,hd,hx=>Dm (fY.go m) h x gd limit (λqh_ qx kU qlimit qhx qd=>te m qh_ qx kU qlimit ob qhx) hx
theorem wO(h:HF)(x:Expr)(gd:cL)(limit:Int)(hx:jF h x gd):Ret prog 123 [.agg (zC x gd).toArray,I limit] h (I (fY x limit)):=te _ h x gd limit (xG _) hx
theorem wP(h:HF)(l:List Version)(eP:Option Addr)(eO:Nat)(hl:SlC qQ h eP eO l):Ret prog 49 [.slice eP l.length eO] h (.bool (dV l)):=by
 refine sT func49 U ntmps49 U λX hM hX hF=>?_
 have hs0:dV l=dV l:=rfl
 refine qK 11 [] U (ae hs0 U (λc1 hs1=>?_) (λc1 hs2=>?_))
 .have c1p:=of_decide_eq_true c1
  exact sr (an (nretP [.bool false] (cs hs1)))
 have c1p:=of_decide_eq_false c1
 refine qT 6 U ?_
 refine lp0 l (λi=>[(0,.slice eP l.length eO),(3,I (i:Int))]) ([]) (λs1 i=>(dV.L1 (dV.K1)) s1) hl.1.1 hs2 ?_ ?_ ?_
 .rintro i1 fp hs4 e
  exact sr (an (nretP [.bool true] (cs hs4)))
 .rintro i1 y1 rz1 hd1 dj aY er gr hs6 hx1 ag1 e
  refine qK 6 [] U (tO dj U (qO 9 U (aC (iR yz ty105 hl.1 aY U U U (λ_ _ _ e=>e) (λq2 r2 A2 ok2=>qL 1 [] U (zI (j:=3) ty64 A2 U U (ba zc64 (λb2=>aQ 0 ty64 U U U U U U (qL 9 [0] U (bV 5 [24,25,26,27,28,29] 24 29 (decide (40<(y1.Policy.Offices.length:Int))) U (λc2 hk1=>?_) (λe=>?_)))))))))))
  .exact qL 5 [0] U (hk1 _ U)
  refine av (bV 5 [30,31,32,33,34,35] 30 35 (decide (20<(y1.Policy.Rules.length:Int))) U (λc3 hk2=>?_) (λe=>?_))
  .exact qL 5 [0] U (hk2 _ U)
  refine av (bV 5 [36,37,38,39,40,41] 36 41 (decide (40<(fY y1.Policy.Change 40))) U (λc4 hk3=>?_) (λe=>?_))
  .exact qL 1 [] U (cK 0 ty62 U U U (ai call123 (wO _ _ _ 40 ok2.Policy.Change) U (qO 2 U (hk3 _ U))))
  refine aJ (ae hs6 U (λc5 hs7=>?_) (λc5 hs8=>?_))
  .exact sr (an (nretP [.bool false] (cs hs7)))
  refine qT 5 U ?_
  refine lp0 y1.Policy.Rules (λi=>[(0,.slice eP l.length eO),(3,I (i1:Int)),(4,Q b2),(5,I (i:Int))]) ([(b2,O (kD y1.Policy r2.Policy) 64)]) (λs3 i=>(dV.L3 ((dV.L1 (dV.K1) rz1))) s3) ok2.Policy.Rules.1.1 hs8 ?_ ?_ ?_
  .rintro i3 xn hs10 e
   exact eF (qT 2 U (oi i1 U (an (bz (L':=[]) js (ag1 hs10)))))
  .rintro i3 y3 rz3 hd3 Cl C6 C5 PJ hs11 hx3 ag2 e
   refine qK 7 [0] U (tO Cl U (qL 10 [0] U (aC (iR wi ty79 ok2.Policy.Rules.1 C6 U U U (λ_ _ _ e=>e) (λq4 r4 A4 ok4=>qL 1 [] U (zI (j:=3) ty62 A4 U U (ai call123 (wO _ _ _ 40 ok4.Expr) U (qO 2 U (ae hs11 U (λc7 hs12=>?_) (λc7 hs13=>?_))))))))))
   .have c7p:=of_decide_eq_true c7
    exact sr (an (nretP [.bool false] (cs hs12)))
   have c7p:=of_decide_eq_false c7
   exact aN (qT 3 U (oi i3 U (an (ag2 hs13))))
  rintro i3 hd3 Ov hx e
  exact qK 7 [0] U (fO Ov U (qO 3 U (hx _ rd)))
 rintro i1 hd1 ga hx e
 exact qK 6 [] U (fO ga U (qO 3 U (hx _ rd)))
theorem HH(h:HF)(aL:Register)(fx:dD)(iW:zL h aL fx):Ret prog 10 [.agg (xL aL fx).toArray] h (.bool (lq aL)):=by
 refine sT func10 U ntmps10 U λX hM hX hF=>?_
 have hs0:lq aL=lq aL:=rfl
 refine sr (cy (λb1=>qL 10 [0] U (bV 5 [8,9,10,11,12,13] 8 13 (decide (12<(aL.Deputies.length:Int))) U (λc1 hk1=>?_) (λe=>?_))))
 .exact qL 5 [0] U (hk1 _ U)
 refine av (bV 5 [14,15,16,17,18,19] 14 19 (decide (12<(aL.Interests.length:Int))) U (λc2 hk2=>?_) (λe=>?_))
 .exact qL 5 [0] U (hk2 _ U)
 refine av (bV 5 [20,21,22,23,24,25] 20 25 (decide (12<(aL.Budgets.length:Int))) U (λc3 hk3=>?_) (λe=>?_))
 .exact qL 5 [0] U (hk3 _ U)
 refine av (bV 5 [26,27,28,29,30,31] 26 31 (decide (8<(aL.Docs.length:Int))) U (λc4 hk4=>?_) (λe=>?_))
 .exact qL 5 [0] U (hk4 _ U)
 refine av (bV 5 [32,33,34,35,36,37] 32 37 (decide (24<(aL.Approvals.length:Int))) U (λc5 hk5=>?_) (λe=>?_))
 .exact qL 5 [0] U (hk5 _ U)
 refine av (bV 5 [38,39,40,41,42,43] 38 43 (!(dV aL.Versions)) U (λc6 hk6=>?_) (λe=>?_))
 .exact qL 2 [0] U (ai call49 (wP _ _ _ _ iW.Versions) U (qO 2 U (hk6 _ U)))
 refine aJ (ae hs0 U (λc7 hs1=>?_) (λc7 hs2=>?_))
 .exact sr (an (nretP [.bool false] (cs hs1)))
 refine qT 6 U ?_
 refine lp0 aL.Docs (λi=>[(1,Q b1),(3,I (i:Int))]) ([(b1,O (xL aL fx) 30)]) (λs1 i=>(lq.L1 (lq.K1)) s1) iW.Docs.1.1 hs2 ?_ ?_ ?_
 .rintro i1 fp hs4 e
  exact sr (an (nretP [.bool true] (cs hs4)))
 .rintro i1 y1 rz1 hd1 dj aY er gr hs6 hx1 ag1 e
  refine qK 7 [0] U (tO dj U (qL 10 [0] U (aC (iR nA ty51 iW.Docs.1 aY U U U (λ_ _ _ e=>e) (λq3 r3 A3 ok3=>qL 1 [] U (jb (j:=6) ty31 A3 U U (qL 3 [] U (bV 9 [59,60,61,62,63,64,65,66,67,68] 59 68 (decide (20<(y1.Revokes.length:Int))) U (λc8 hk7=>?_) (λe=>?_)))))))))
  .exact qL 3 [0] U (aC (iR nA ty51 iW.Docs.1 aY U U U (λ_ _ _ e=>e) (λq4 r4 A4 ok4=>qL 1 [] U (jb (j:=7) ty31 A4 U U (qL 3 [] U (hk7 _ U))))))
  refine av (bV 9 [69,70,71,72,73,74,75,76,77,78] 69 78 (decide (20<(y1.Needs.length:Int))) U (λc9 hk8=>?_) (λe=>?_))
  .exact qL 3 [0] U (aC (iR nA ty51 iW.Docs.1 aY U U U (λ_ _ _ e=>e) (λq5 r5 A5 ok5=>qL 1 [] U (jb (j:=8) ty31 A5 U U (qL 3 [] U (hk8 _ U))))))
  refine aJ (ae hs6 U (λc10 hs7=>?_) (λc10 hs8=>?_))
  .exact sr (an (nretP [.bool false] (cs hs7)))
  exact aN (qT 3 U (oi i1 U (an (ag1 hs8))))
 rintro i1 hd1 ga hx e
 exact qK 7 [0] U (fO ga U (qO 3 U (hx _ rd)))
theorem AP(h:HF)(aL:Register)(fx:dD)(no:Int)(iW:zL h aL fx):Ret prog 20 [.agg (xL aL fx).toArray,I no] h (I (aA aL no)):=by
 refine sT func20 U ntmps20 U λX hM hX hF=>?_
 have hs0:aA aL no=aA aL no:=rfl
 refine sr (cy (λb1=>qO 7 U ?_))
 refine lp0 aL.Docs (λi=>[(1,I no),(2,Q b1),(5,I (i:Int))]) ([(b1,O (xL aL fx) 30)]) (λs1 i=>(aA.L1 no (aA.K1)) s1 i) iW.Docs.1.1 hs0 ?_ ?_ ?_
 .rintro i1 fp hs1 e
  exact sr (an (nretP [I (-1)] (ci hs1)))
 .rintro i1 y1 rz1 hd1 dj aY er gr hs3 hx1 ag1 e
  refine qK 7 [0] U (tO dj U (qL 10 [0] U (aC (iR nA ty51 iW.Docs.1 aY U U U (λ_ _ _ e=>e) (λq2 r2 A2 ok2=>qL 1 [] U (dh ty3 A2 U (qO 3 U (ae hs3 U (λc2 hs4=>?_) (λc2 hs5=>?_)))))))))
  .exact sr (qO 3 U (nretP [I (i1:Int)] (ci hs4)))
  exact aN (qT 3 U (oi i1 U (an (ag1 hs5))))
 rintro i1 hd1 ga hx e
 exact qK 7 [0] U (fO ga U (qO 3 U (hx _ rd)))
theorem yW(h:HF)(ep:Int)  : Ret prog 240 [I ep] h (.bool (nk ep)):=by
 refine sT func240 U ntmps240 U λX hM hX hF=>?_
 have hs0:nk ep=nk ep:=rfl
 refine qT 9 U (bj 3 [5,6,7,8] 5 8 (decide (ep<1099511627776)) U (λc1 hk1=>?_) (λe=>?_))
 .exact av (qO 2 U (hk1 _ U))
 exact an (nretP [.bool (decide (0<=ep)&&decide (ep<1099511627776))] (cs hs0))
theorem Du(h:HF)(ep:Int)  : Ret prog 241 [I ep] h (.bool (nH ep)):=by
 refine sT func241 U ntmps241 U λX hM hX hF=>?_
 have hs0:nH ep=nH ep:=rfl
 refine qT 9 U (bj 3 [5,6,7,8] 5 8 (decide (ep<32)) U (λc1 hk1=>?_) (λe=>?_))
 .exact av (qO 2 U (hk1 _ U))
 exact an (nretP [.bool (decide (0<=ep)&&decide (ep<32))] (cs hs0))
theorem Dt(h:HF)(ep:Int)  : Ret prog 242 [I ep] h (.bool (nG ep)):=by
 refine sT func242 U ntmps242 U λX hM hX hF=>?_
 have hs0:nG ep=nG ep:=rfl
 refine qT 9 U (bj 3 [5,6,7,8] 5 8 (decide (ep<64)) U (λc1 hk1=>?_) (λe=>?_))
 .exact av (qO 2 U (hk1 _ U))
 exact an (nretP [.bool (decide (0<=ep)&&decide (ep<64))] (cs hs0))
theorem EE(h:HF)(x:Appoint)  : Ret prog 153 [.agg (jR x).toArray] h (.bool (jo x)):=by
 refine sT func153 U ntmps153 U λX hM hX hF=>?_
 have hs0:jo x=jo x:=rfl
 refine sr (cy (λb1=>qL 9 [0] U (bV 4 [6,7,8,9,10] 6 10 (decide (1048576<x.No)) U (λc1 hk1=>?_) (λe=>?_))))
 .exact qL 4 [0] U (hk1 _ U)
 refine av (bV 5 [11,12,13,14,15,16] 11 16 (!(nk x.At)) U (λc2 hk2=>?_) (λe=>?_))
 .exact qL 2 [0] U (ai call240 (yW h x.At) U (qO 2 U (hk2 _ U)))
 refine av (bV 5 [17,18,19,20,21,22] 17 22 (!(nk x.Known)) U (λc3 hk3=>?_) (λe=>?_))
 .exact qL 2 [0] U (ai call240 (yW h x.Known) U (qO 2 U (hk3 _ U)))
 refine av (bV 5 [23,24,25,26,27,28] 23 28 (!(nH x.Office)) U (λc4 hk4=>?_) (λe=>?_))
 .exact qL 2 [0] U (ai call241 (Du h x.Office) U (qO 2 U (hk4 _ U)))
 refine av (bV 5 [29,30,31,32,33,34] 29 34 (!(nG x.Person)) U (λc5 hk5=>?_) (λe=>?_))
 .exact qL 2 [0] U (ai call242 (Dt h x.Person) U (qO 2 U (hk5 _ U)))
 refine aJ (ae hs0 U (λc6 hs1=>?_) (λc6 hs2=>?_))
 .exact sr (an (nretP [.bool false] (cs hs1)))
 refine qK 7 [0] U (ae hs2 U (λc7 hs4=>?_) (λc7 hs5=>?_))
 .exact qK 7 [0] U (nretP [.bool (x.Weight==0)] (cs hs4))
 refine qK 7 [0] U (bj 4 [43,44,45,46,47] 43 47 (decide (x.Weight<=64)) U (λc8 hk6=>?_) (λe=>?_))
 .exact qL 4 [0] U (hk6 _ U)
 exact an (nretP [.bool (decide (1<=x.Weight)&&decide (x.Weight<=64))] (cs hs5))
theorem EF(h:HF)(l:List Appoint)(eP:Option Addr)(eO:Nat)(hl:SlC xH h eP eO l):Ret prog 72 [.slice eP l.length eO] h (I (ir l)):=by
 refine sT func72 U ntmps72 U λX hM hX hF=>?_
 have hs0:ir l=ir l:=rfl
 refine qK 11 [] U (ae hs0 U (λc1 hs1=>?_) (λc1 hs2=>?_))
 .have c1p:=of_decide_eq_true c1
  exact sr (an (nretP [I 2] (ci hs1)))
 have c1p:=of_decide_eq_false c1
 refine qT 6 U ?_
 refine lp0 l (λi=>[(0,.slice eP l.length eO),(3,I (i:Int))]) ([]) (λs1 i=>(ir.L1 l (ir.K1)) s1 i) hl.1.1 hs2 ?_ ?_ ?_
 .rintro i1 fp hs4 e
  exact sr (an (nretP [I 0] (ci hs4)))
 .rintro i1 y1 rz1 hd1 dj aY er gr hs6 hx1 ag1 e
  refine qK 6 [] U (tO dj U (qO 6 U ?_))
  refine oo [(0,.slice eP l.length eO),(3,I (i1:Int)),(36,.bool ((!(jo y1))||(decide (0<(i1:Int))&&decide (y1.No<=(nthI l ((i1:Int)-1)).No))))] (λe=>?_) (λhk1=>?_)
  rotate_left
  .refine eM ([]) mixed kr jn (λem _=>?_)
   refine qA [0,1] U (eS 2 (enc:=jR) em jn ei DY ty89 hl.1 (nthZ aY) (fq aY) U U U U kr (λq4 A4=>tf 3 U U (λ_ _ hj=>lM ty89 (A4.mono hj.1) U U) (tn 4 U (fe call153 (EE h y1) U (⟨jn,qA [5,6] U ?_⟩)))))
   refine du 19 U (λc2=>?_) (λc2=>?_)
   .exact tk 7 U U (qR 8 16 U (aV kr (hk1 _ ⟨U,U,(cb (show true=((!(jo y1))||(decide (0<(i1:Int))&&decide (y1.No<=(nthI l ((i1:Int)-1)).No)))from by rw[c2]<;>rfl)),trivial⟩)))
   refine qR 7 3 U ?_
   refine du 22 U (λc3=>?_) (λc3=>?_)
   .have c3p:=of_decide_eq_true c3
    refine qA [10,11] U (tf 12 U U (λ_ _ _=>nl (v':=I ((i1:Int)-1)) U (jv ob)) ?_)
    have ho2:0<=(((i1:Int)-1):Int)/\(((i1:Int)-1):Int)<((l).length:Int):=ob
    exact eS 13 (enc:=jR) em jn ei DY ty89 hl.1 ho2 (cN ho2) U U U U kr (λq5 A5=>qB [14] U (tf 15 U U (rh ty3 A5 U) (qA [16,17] U (eS 18 (enc:=jR) em jn ei DY ty89 hl.1 (nthZ aY) (fq aY) U U U U kr (λq6 A6=>qB [19] U (tf 20 U U (rh ty3 A6 U) (qR 21 3 U (aV kr (hk1 _ ⟨U,U,(cb (show decide (y1.No<=(nthI l ((i1:Int)-1)).No)=((!(jo y1))||(decide (0<(i1:Int))&&decide (y1.No<=(nthI l ((i1:Int)-1)).No)))from by rw[c2,c3]<;>rfl)),trivial⟩)))))))))
   have c3p:=of_decide_eq_false c3
   exact tk 10 U U (qR 11 13 U (aV kr (hk1 _ ⟨U,U,(cb (show false=((!(jo y1))||(decide (0<(i1:Int))&&decide (y1.No<=(nthI l ((i1:Int)-1)).No)))from by rw[c2,c3]<;>rfl)),trivial⟩)))
  refine ae hs6 U (λc4 hs7=>?_) (λc4 hs8=>?_)
  .exact sr (an (nretP [I 150] (ci hs7)))
  exact aN (qT 3 U (oi i1 U (an (ag1 hs8))))
 rintro i1 hd1 ga hx e
 exact qK 6 [] U (fO ga U (qO 3 U (hx _ rd)))
theorem lF(h:HF)(ep:Int)(low:Int)(high:Int)  : Ret prog 243 [I ep,I low,I high] h (.bool (gZ ep low high)):=by
 refine sT func243 U ntmps243 U λX hM hX hF=>?_
 have hs0:gZ ep low high=gZ ep low high:=rfl
 refine qT 10 U (bj 4 [10,11,12,13,14] 10 14 (decide (ep<=high)) U (λc1 hk1=>?_) (λe=>?_))
 .exact av (qO 3 U (hk1 _ U))
 exact an (nretP [.bool (decide (low<=ep)&&decide (ep<=high))] (cs hs0))
theorem yV(h:HF)(ep:Int)  : Ret prog 244 [I ep] h (.bool (nj ep)):=by
 refine sT func244 U ntmps244 U λX hM hX hF=>?_
 have hs0:nj ep=nj ep:=rfl
 exact sr (qO 5 U (ai Ir (lF h ep 0 1099511627775) U (an (nretP [.bool (gZ ep 0 1099511627775)] (cs hs0)))))
theorem vU(h:HF)(ep:Int)  : Ret prog 245 [I ep] h (.bool (lL ep)):=by
 refine sT func245 U ntmps245 U λX hM hX hF=>?_
 have hs0:lL ep=lL ep:=rfl
 exact sr (qO 5 U (ai Ir (lF h ep 0 63) U (an (nretP [.bool (gZ ep 0 63)] (cs hs0)))))
theorem EC(h:HF)(x:Deputy)  : Ret prog 154 [.agg (vN x).toArray] h (.bool (jm x)):=by
 refine sT func154 U ntmps154 U λX hM hX hF=>?_
 have hs0:jm x=jm x:=rfl
 refine sr (cy (λb1=>qL 7 [0] U (ai Ir (lF h x.No 0 1048576) U (qO 2 U (bV 5 [7,8,9,10,11,12] 7 12 (!(nj x.At)) U (λc1 hk1=>?_) (λe=>?_))))))
 .exact qL 2 [0] U (ai call244 (yV h x.At) U (qO 2 U (hk1 _ U)))
 refine av (bV 5 [13,14,15,16,17,18] 13 18 (!(nj x.Known)) U (λc2 hk2=>?_) (λe=>?_))
 .exact qL 2 [0] U (ai call244 (yV h x.Known) U (qO 2 U (hk2 _ U)))
 refine av (bV 5 [19,20,21,22,23,24] 19 24 (!(lL x.From)) U (λc3 hk3=>?_) (λe=>?_))
 .exact qL 2 [0] U (ai call245 (vU h x.From) U (qO 2 U (hk3 _ U)))
 refine av (bV 5 [25,26,27,28,29,30] 25 30 (!(lL x.To)) U (λc4 hk4=>?_) (λe=>?_))
 .exact qL 2 [0] U (ai call245 (vU h x.To) U (qO 2 U (hk4 _ U)))
 refine av (bV 6 [31,32,33,34,35,36,37] 31 37 (x.From==x.To) U (λc5 hk5=>?_) (λe=>?_))
 .exact qL 6 [0,0] U (hk5 _ U)
 refine aJ (ae hs0 U (λc6 hs1=>?_) (λc6 hs2=>?_))
 .exact sr (an (nretP [.bool false] (cs hs1)))
 refine qK 6 [0] U (ai Ir (lF h x.Office 0 31) U (qO 2 U (bV 5 [42,43,44,45,46,47] 42 47 (!(gZ x.Kind (-1) 15)) U (λc7 hk6=>?_) (λe=>?_))))
 .exact qL 2 [0] U (ai Ir (lF h x.Kind (-1) 15) U (qO 2 U (hk6 _ U)))
 refine aJ (ae hs2 U (λc8 hs4=>?_) (λc8 hs5=>?_))
 .exact sr (an (nretP [.bool false] (cs hs4)))
 refine qK 7 [0] U (ae hs5 U (λc9 hs7=>?_) (λc9 hs8=>?_))
 .refine qK 6 [0] U (bj 4 [53,54,55,56,57] 53 57 (x.Most==0) U (λc10 hk7=>?_) (λe=>?_))
  .exact qL 4 [0] U (hk7 _ U)
  exact an (nretP [.bool ((x.Until==0)&&(x.Most==0))] (cs hs7))
 refine qK 9 [0,0] U (bj 4 [63,64,65,66,67] 63 67 (decide (x.Until<=1099511627776)) U (λc11 hk8=>?_) (λe=>?_))
 .exact qL 4 [0] U (hk8 _ U)
 refine av (bj 4 [68,69,70,71,72] 68 72 (gZ x.Most 0 1099511627776) U (λc12 hk9=>?_) (λe=>?_))
 .exact qL 2 [0] U (ai Ir (lF h x.Most 0 1099511627776) U (eN U (hk9 _ U)))
 exact an (nretP [.bool ((decide (x.At<x.Until)&&decide (x.Until<=1099511627776))&&(gZ x.Most 0 1099511627776))] (cs hs8))
theorem ED(h:HF)(l:List Deputy)(eP:Option Addr)(eO:Nat)(hl:SlC aAq h eP eO l):Ret prog 73 [.slice eP l.length eO] h (I (gX l)):=by
 refine sT func73 U ntmps73 U λX hM hX hF=>?_
 have hs0:gX l=gX l:=rfl
 refine qK 11 [] U (ae hs0 U (λc1 hs1=>?_) (λc1 hs2=>?_))
 .have c1p:=of_decide_eq_true c1
  exact sr (an (nretP [I 2] (ci hs1)))
 have c1p:=of_decide_eq_false c1
 refine qT 6 U ?_
 refine lp0 l (λi=>[(0,.slice eP l.length eO),(3,I (i:Int))]) ([]) (λs1 i=>(gX.L1 l (gX.K1)) s1 i) hl.1.1 hs2 ?_ ?_ ?_
 .rintro i1 fp hs4 e
  exact sr (an (nretP [I 0] (ci hs4)))
 .rintro i1 y1 rz1 hd1 dj aY er gr hs6 hx1 ag1 e
  refine qK 6 [] U (tO dj U (qO 6 U ?_))
  refine oo [(0,.slice eP l.length eO),(3,I (i1:Int)),(36,.bool ((!(jm y1))||(decide (0<(i1:Int))&&decide (y1.No<=(nthI l ((i1:Int)-1)).No))))] (λe=>?_) (λhk1=>?_)
  rotate_left
  .refine eM ([]) mixed kr jn (λem _=>?_)
   refine qA [0,1] U (eS 2 (enc:=vN) em jn ei wG ty93 hl.1 (nthZ aY) (fq aY) U U U U kr (λq4 A4=>tf 3 U U (λ_ _ hj=>lM ty93 (A4.mono hj.1) U U) (tn 4 U (fe call154 (EC h y1) U (⟨jn,qA [5,6] U ?_⟩)))))
   refine du 19 U (λc2=>?_) (λc2=>?_)
   .exact tk 7 U U (qR 8 16 U (aV kr (hk1 _ ⟨U,U,(cb (show true=((!(jm y1))||(decide (0<(i1:Int))&&decide (y1.No<=(nthI l ((i1:Int)-1)).No)))from by rw[c2]<;>rfl)),trivial⟩)))
   refine qR 7 3 U ?_
   refine du 22 U (λc3=>?_) (λc3=>?_)
   .have c3p:=of_decide_eq_true c3
    refine qA [10,11] U (tf 12 U U (λ_ _ _=>nl (v':=I ((i1:Int)-1)) U (jv ob)) ?_)
    have ho2:0<=(((i1:Int)-1):Int)/\(((i1:Int)-1):Int)<((l).length:Int):=ob
    exact eS 13 (enc:=vN) em jn ei wG ty93 hl.1 ho2 (cN ho2) U U U U kr (λq5 A5=>qB [14] U (tf 15 U U (rh ty3 A5 U) (qA [16,17] U (eS 18 (enc:=vN) em jn ei wG ty93 hl.1 (nthZ aY) (fq aY) U U U U kr (λq6 A6=>qB [19] U (tf 20 U U (rh ty3 A6 U) (qR 21 3 U (aV kr (hk1 _ ⟨U,U,(cb (show decide (y1.No<=(nthI l ((i1:Int)-1)).No)=((!(jm y1))||(decide (0<(i1:Int))&&decide (y1.No<=(nthI l ((i1:Int)-1)).No)))from by rw[c2,c3]<;>rfl)),trivial⟩)))))))))
   have c3p:=of_decide_eq_false c3
   exact tk 10 U U (qR 11 13 U (aV kr (hk1 _ ⟨U,U,(cb (show false=((!(jm y1))||(decide (0<(i1:Int))&&decide (y1.No<=(nthI l ((i1:Int)-1)).No)))from by rw[c2,c3]<;>rfl)),trivial⟩)))
  refine ae hs6 U (λc4 hs7=>?_) (λc4 hs8=>?_)
  .exact sr (an (nretP [I 160] (ci hs7)))
  exact aN (qT 3 U (oi i1 U (an (ag1 hs8))))
 rintro i1 hd1 ga hx e
 exact qK 6 [] U (fO ga U (qO 3 U (hx _ rd)))
theorem yQ(h:HF)(t:Int)  : Ret prog 246 [I t] h (.bool (ng t)):=by
 refine sT func246 U ntmps246 U λX hM hX hF=>?_
 have hs0:ng t=ng t:=rfl
 refine qT 9 U (bj 3 [5,6,7,8] 5 8 (decide (t<1099511627776)) U (λc1 hk1=>?_) (λe=>?_))
 .exact av (qO 2 U (hk1 _ U))
 exact an (nretP [.bool (decide (0<=t)&&decide (t<1099511627776))] (cs hs0))
theorem wQ(h:HF)(ep:Int)  : Ret prog 247 [I ep] h (.bool (mn ep)):=by
 refine sT func247 U ntmps247 U λX hM hX hF=>?_
 have hs0:mn ep=mn ep:=rfl
 refine qT 9 U (bj 3 [5,6,7,8] 5 8 (decide (ep<=1048576)) U (λc1 hk1=>?_) (λe=>?_))
 .exact av (qO 2 U (hk1 _ U))
 exact an (nretP [.bool (decide (0<=ep)&&decide (ep<=1048576))] (cs hs0))
theorem Dn(h:HF)(ep:Int)  : Ret prog 248 [I ep] h (.bool (nE ep)):=by
 refine sT func248 U ntmps248 U λX hM hX hF=>?_
 have hs0:nE ep=nE ep:=rfl
 refine qT 9 U (bj 3 [5,6,7,8] 5 8 (decide (ep<64)) U (λc1 hk1=>?_) (λe=>?_))
 .exact av (qO 2 U (hk1 _ U))
 exact an (nretP [.bool (decide (0<=ep)&&decide (ep<64))] (cs hs0))
theorem Er(h:HF)(x:Interest)  : Ret prog 155 [.agg (jD x).toArray] h (.bool (jh x)):=by
 refine sT func155 U ntmps155 U λX hM hX hF=>?_
 have hs0:jh x=jh x:=rfl
 refine sr (cy (λb1=>qL 9 [0] U (bV 4 [6,7,8,9,10] 6 10 (decide (1048576<x.No)) U (λc1 hk1=>?_) (λe=>?_))))
 .exact qL 4 [0] U (hk1 _ U)
 refine av (bV 5 [11,12,13,14,15,16] 11 16 (!(ng x.At)) U (λc2 hk2=>?_) (λe=>?_))
 .exact qL 2 [0] U (ai call246 (yQ h x.At) U (qO 2 U (hk2 _ U)))
 refine av (bV 5 [17,18,19,20,21,22] 17 22 (!(ng x.Known)) U (λc3 hk3=>?_) (λe=>?_))
 .exact qL 2 [0] U (ai call246 (yQ h x.Known) U (qO 2 U (hk3 _ U)))
 refine av (bV 5 [23,24,25,26,27,28] 23 28 (!(mn x.Party)) U (λc4 hk4=>?_) (λe=>?_))
 .exact qL 2 [0] U (ai call247 (wQ h x.Party) U (qO 2 U (hk4 _ U)))
 refine aJ (ae hs0 U (λc5 hs1=>?_) (λc5 hs2=>?_))
 .exact sr (an (nretP [.bool false] (cs hs1)))
 refine qK 7 [0] U (ae hs2 U (λc6 hs4=>?_) (λc6 hs5=>?_))
 .refine qK 4 [0] U (ai call247 (wQ h x.Person) U (av (bj 6 [34,35,36,37,38,39,40] 34 40 (x.Person != x.Party) U (λc7 hk5=>?_) (λe=>?_))))
  .exact qL 6 [0,0] U (hk5 _ U)
  exact an (nretP [.bool ((mn x.Person)&&(x.Person != x.Party))] (cs hs4))
 exact qK 5 [0] U (ai call248 (Dn h x.Person) U (an (nretP [.bool (nE x.Person)] (cs hs5))))
theorem Es(h:HF)(l:List Interest)(eP:Option Addr)(eO:Nat)(hl:SlC kM h eP eO l):Ret prog 74 [.slice eP l.length eO] h (I (gU l)):=by
 refine sT func74 U ntmps74 U λX hM hX hF=>?_
 have hs0:gU l=gU l:=rfl
 refine qK 11 [] U (ae hs0 U (λc1 hs1=>?_) (λc1 hs2=>?_))
 .have c1p:=of_decide_eq_true c1
  exact sr (an (nretP [I 2] (ci hs1)))
 have c1p:=of_decide_eq_false c1
 refine qT 6 U ?_
 refine lp0 l (λi=>[(0,.slice eP l.length eO),(3,I (i:Int))]) ([]) (λs1 i=>(gU.L1 l (gU.K1)) s1 i) hl.1.1 hs2 ?_ ?_ ?_
 .rintro i1 fp hs4 e
  exact sr (an (nretP [I 0] (ci hs4)))
 .rintro i1 y1 rz1 hd1 dj aY er gr hs6 hx1 ag1 e
  refine qK 6 [] U (tO dj U (qO 6 U ?_))
  refine oo [(0,.slice eP l.length eO),(3,I (i1:Int)),(36,.bool ((!(jh y1))||(decide (0<(i1:Int))&&decide (y1.No<=(nthI l ((i1:Int)-1)).No))))] (λe=>?_) (λhk1=>?_)
  rotate_left
  .refine eM ([]) mixed kr jn (λem _=>?_)
   refine qA [0,1] U (eS 2 (enc:=jD) em jn ei vx ty97 hl.1 (nthZ aY) (fq aY) U U U U kr (λq4 A4=>tf 3 U U (λ_ _ hj=>lM ty97 (A4.mono hj.1) U U) (tn 4 U (fe call155 (Er h y1) U (⟨jn,qA [5,6] U ?_⟩)))))
   refine du 19 U (λc2=>?_) (λc2=>?_)
   .exact tk 7 U U (qR 8 16 U (aV kr (hk1 _ ⟨U,U,(cb (show true=((!(jh y1))||(decide (0<(i1:Int))&&decide (y1.No<=(nthI l ((i1:Int)-1)).No)))from by rw[c2]<;>rfl)),trivial⟩)))
   refine qR 7 3 U ?_
   refine du 22 U (λc3=>?_) (λc3=>?_)
   .have c3p:=of_decide_eq_true c3
    refine qA [10,11] U (eS 12 (enc:=jD) em jn ei vx ty97 hl.1 (nthZ aY) (fq aY) U U U U kr (λq5 A5=>qB [13] U (tf 14 U U (rh ty3 A5 U) (qA [15,16] U (tf 17 U U (λ_ _ _=>nl (v':=I ((i1:Int)-1)) U (jv ob)) ?_)))))
    have ho2:0<=(((i1:Int)-1):Int)/\(((i1:Int)-1):Int)<((l).length:Int):=ob
    exact eS 18 (enc:=jD) em jn ei vx ty97 hl.1 ho2 (cN ho2) U U U U kr (λq6 A6=>qB [19] U (tf 20 U U (rh ty3 A6 U) (qR 21 3 U (aV kr (hk1 _ ⟨U,U,(cb (show decide (y1.No<=(nthI l ((i1:Int)-1)).No)=((!(jh y1))||(decide (0<(i1:Int))&&decide (y1.No<=(nthI l ((i1:Int)-1)).No)))from by rw[c2,c3]<;>rfl)),trivial⟩)))))
   have c3p:=of_decide_eq_false c3
   exact tk 10 U U (qR 11 13 U (aV kr (hk1 _ ⟨U,U,(cb (show false=((!(jh y1))||(decide (0<(i1:Int))&&decide (y1.No<=(nthI l ((i1:Int)-1)).No)))from by rw[c2,c3]<;>rfl)),trivial⟩)))
  refine ae hs6 U (λc4 hs7=>?_) (λc4 hs8=>?_)
  .exact sr (an (nretP [I 290] (ci hs7)))
  exact aN (qT 3 U (oi i1 U (an (ag1 hs8))))
 rintro i1 hd1 ga hx e
 exact qK 6 [] U (fO ga U (qO 3 U (hx _ rd)))
theorem j6(h:HF)(ep:Int)(least:Int)(most:Int)  : Ret prog 227 [I ep,I least,I most] h (.bool (fD ep least most)):=by
 refine sT func227 U ntmps227 U λX hM hX hF=>?_
 have hs0:fD ep least most=fD ep least most:=rfl
 refine qT 10 U (bj 4 [10,11,12,13,14] 10 14 (decide (ep<=most)) U (λc1 hk1=>?_) (λe=>?_))
 .exact av (qO 3 U (hk1 _ U))
 exact an (nretP [.bool (decide (least<=ep)&&decide (ep<=most))] (cs hs0))
end Go.Sg
