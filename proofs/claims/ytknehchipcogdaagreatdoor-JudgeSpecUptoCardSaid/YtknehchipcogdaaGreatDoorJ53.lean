import Derived.Shelf.SlSortCmp.NoneTotal
import Derived.WalkKit
import Derived.Test.YtknehchipcogdaaGreatDoorJ51
import Derived.Test.YtknehchipcogdaaGreatDoorJ52
/- Part of JudgeSpec. -/
set_option linter.unusedVariables false
set_option linter.unusedSimpArgs false
set_option maxRecDepth 100000
open List renaming length_cons→xA,length_append→kA,length_nil→xB,toArray→vB,append_assoc→zC,nil_append→qD,range→xF,cons_append→jK
open Go.Sg.Rp renaming int→jB,bG→vJ,bool→vV
namespace Go.Sg
variable {p:Prop}{q:ae->Bool}
open Go.Proofs Go.Proofs.Tryz
set_option maxHeartbeats 4000000
theorem RO(h:p:=by
  refine ck (dy hs1 U (λc2 hs2=>?_) (λc2 hs3=>?_))
  .let z11:Nat×Obj:=(b7,O (ae.cells (mgetD df (bF y1) (ae.mk 0 0 0 0 0 0 0 false))) 67)
   refine hU ([z11,z7,z3,z6,z1,z2]) mixed kr jn (λow _=>?_)
   exact tf 0 U U (rj 4 ty391 U U U) (tf 1 U U (λ_ _ hj=>nQ ty67 U (hj.nth (i:=1) U) U) (tf 3 U U (λ_ _ hj=>nQ ty67 U (hj.nth (i:=1) U) U) (tn 2 U (kg Rf (lW hr1 y1) U (⟨jn,tn 4 U (pS 5 (k:=(bF y1)) (x:=y1) Ok pC U (mY.mono (mT.mono ae.aB) hlr1) U U ⟨_,U,U⟩ (λmo2 hm1=>⟨jn,dJ kr (gU (ek (L':=[z3,z6,z1,(b2,mo2),z2]++(markB [])) js (eA (L':=rdH l1 dm1 lp1 (([z1,(b2,mo2),z2])++markB [])) ap (nx1 ((mput df (bF y1) y1),mo2,hr1) _ _ ⟨hs2,hm1,(hl1.t hlr1)⟩ lf))))⟩))⟩)))))
  exact jf (gU (ek (L':=[z3,z6,z1,(b2,fG),z2]++(markB [])) js (eA (L':=rdH l1 dm1 lp1 (([z1,(b2,fG),z2])++markB [])) ap (nx1 (df,fG,hr1) _ _ ⟨hs3,(mY.mono (mT.mono ae.aB) hlr1),(hl1.t hlr1)⟩ lf))))):p:=h
theorem Am(h l eP eO bD aT ad)(hl:SlC ae.rp h eP eO l)(hsz:l.length<=2000000):Xk prog 329 [.slice eP l.length eO,I bD,I aT,I ad] h ae.rp 67 (aK l bD aT ad):=by
 refine el Tq U ntmps329 U λX hM hX=>?_
 have hs0:=@rfl _ (aK l bD aT ad)
 refine sr (cS zc28 (λb1=>qO 3 U (aS (uw (λb2=>cS zc391 (λb3=>dK 0 ty391 U U U U U U (qO 8 U (aS (eb call378 (sN _ _ _ _ bD aT ad hl) U (λv1 h1 hle1 hp1=>?_))))))))))
 obtain⟨_,rfl,mo1⟩:=hp1
 refine qO 2 U (ke ?_)
 let z1:Nat×Obj:=(b3,O [.map (some b2)] 391)
 let z2:Nat×Obj:=(b1,O [zSN] 28)
 refine eA (L':=([z1,(b2,.map #[] 0),z2])++markB []) ap ?_
 refine pz (it:=v1) (xs:=(fS l bD aT ad)) (ι:=(List (eY×ae))×Obj×HF) [] (λi=>i.2.2) (λi=>[z1,(b2,i.2.1),z2]) (λs i=>aK l bD aT ad=((aK.L1 (aK.K1 l bD aT ad)) s i.1)/\lB eY.enc (mT ae.rp) i.2.2 i.2.1 i.1/\HF.le h1 i.2.2) (λ_=>False) (λ_=>False) 0 (λ_ _ _=>False) ([],.map #[] 0,h1) Tq U mo1 U qn (λ_ _ _ _ _ hq=>hq) U (show[z1,(b2,.map #[] 0),z2]=_ from U) ⟨hs0,((lB.nil (enc:=eY.enc) (V:=(mT ae.rp)) (h:=h)).mono (mT.mono ae.aB) hle1),lf⟩ ?_ ?_ ?_ ?_ ?_
 .rintro l1 dm1 lp1 y1 rz1 vs1 ⟨df,fG,hh1⟩ hr1 X hFR1 ⟨hs1,mY,hl1⟩ hl01 hlr1 hv1 hX hXM hlp1 nx1 rt1 ex1 pn1
  obtain rfl:=hv1
  let z6:Nat×Obj:=(dm1,.deferred (some []))
  refine eA (L':=[(l1,.loop lp1),z6,z1,(b2,fG),z2]++(markB [])) ap (cB (cS zc67 (λb6=>cJ 0 ty67 U U U U U U (ck (nJ 1 U hlp1 (qT 2 U ?_))))))
  let z3:Nat×Obj:=(l1,.loop { lp1 with state:=.busy })
  let z7:Nat×Obj:=(b6,O (ae.cells y1) 67)
  refine hU ([z7,z3,z6,z1,(b2,fG),z2]) mixed kr jn (λkI _=>?_)
  refine tf 0 U U (rj 3 ty391 U U U) (tf 1 U U (λ_ _ hj=>nQ ty67 U (hj.nth (i:=0) U) U) ?_)
  refine np 2 7 kr U U ?_ ?_
  .refine kg Rf (lW hr1 y1) U (⟨jn,?_⟩)
   refine np 3 7 kr U U ?_ ?_
   .refine oM 4 (k:=(bF y1)) Ok pC U (mY.mono (mT.mono ae.aB) hlr1) (gF zv67) (show(mT ae.rp) _ (.agg (vB [I 0,I 0,I 0,I 0,I 0,I 0,I 0,.bool false])) (ae.mk 0 0 0 0 0 0 0 false)from⟨_,U,U⟩) U U (λv3 hv2=>?_)
    obtain⟨_,rfl,rfl⟩:=hv2
    refine⟨jn,qR 4 3 U (tn 7 U (BH zc67 (λb7=>⟨jn,tn 8 U (tl 0 ty67 U U U U U U (⟨jn,qA [9] U (dJ kr (qT 5 U (pH 6 [30,31,32,33,34,35,36] 30 36 (decide ((mgetD df (bF y1) (ae.mk 0 0 0 0 0 0 0 false)).At<=y1.At)) U (λc1 hk1=>?_) (λe=>?_))))⟩))⟩)))⟩
    .exact qL 6 [1,0] U (hk1 _ U)
    exact RO
   refine BH zc67 (λb8=>⟨jn,tn 3 U (oM 5 (k:=(bF y1)) Ok pC U (mY.mono (mT.mono ae.aB) hlr1) (gF zv67) (show(mT ae.rp) _ (.agg (vB [I 0,I 0,I 0,I 0,I 0,I 0,I 0,.bool false])) (ae.mk 0 0 0 0 0 0 0 false)from⟨_,U,U⟩) U U (λv4 hv3=>?_))⟩)
   obtain⟨_,rfl,rfl⟩:=hv3
   refine⟨jn,qR 4 3 U (tn 8 U (tl 0 ty67 U U U U U U (⟨jn,qA [9] U (dJ kr (qT 5 U (pH 6 [30,31,32,33,34,35,36] 30 36 (decide ((mgetD df (bF y1) (ae.mk 0 0 0 0 0 0 0 false)).At<=y1.At)) U (λc3 hk2=>?_) (λe=>?_))))⟩)))⟩
   .exact qL 6 [1,0] U (hk2 _ U)
   refine ck (dy hs1 U (λc4 hs4=>?_) (λc4 hs5=>?_))
   .let z12:Nat×Obj:=(b8,O (ae.cells (mgetD df (bF y1) (ae.mk 0 0 0 0 0 0 0 false))) 67)
    refine hU ([z12,z7,z3,z6,z1,z2]) mixed kr jn (λF4 _=>?_)
    exact tf 0 U U (rj 4 ty391 U U U) (tf 1 U U (λ_ _ hj=>nQ ty67 U (hj.nth (i:=1) U) U) (tf 3 U U (λ_ _ hj=>nQ ty67 U (hj.nth (i:=1) U) U) (tn 2 U (kg Rf (lW hr1 y1) U (⟨jn,tn 4 U (pS 5 (k:=(bF y1)) (x:=y1) Ok pC U (mY.mono (mT.mono ae.aB) hlr1) U U ⟨_,U,U⟩ (λmo3 hm2=>⟨jn,dJ kr (gU (ek (L':=[z3,z6,z1,(b2,mo3),z2]++(markB [])) js (eA (L':=rdH l1 dm1 lp1 (([z1,(b2,mo3),z2])++markB [])) ap (nx1 ((mput df (bF y1) y1),mo3,hr1) _ _ ⟨hs4,hm2,(hl1.t hlr1)⟩ lf))))⟩))⟩)))))
   exact jf (gU (ek (L':=[z3,z6,z1,(b2,fG),z2]++(markB [])) js (eA (L':=rdH l1 dm1 lp1 (([z1,(b2,fG),z2])++markB [])) ap (nx1 (df,fG,hr1) _ _ ⟨hs5,(mY.mono (mT.mono ae.aB) hlr1),(hl1.t hlr1)⟩ lf))))
  refine BH zc67 (λb7=>⟨jn,tn 2 U (kg Rf (lW hr1 y1) U (⟨jn,tn 3 U (oM 5 (k:=(bF y1)) Ok pC U (mY.mono (mT.mono ae.aB) hlr1) (gF zv67) (show(mT ae.rp) _ (.agg (vB [I 0,I 0,I 0,I 0,I 0,I 0,I 0,.bool false])) (ae.mk 0 0 0 0 0 0 0 false)from⟨_,U,U⟩) U U (λv5 hv3=>?_))⟩))⟩)
  obtain⟨_,rfl,rfl⟩:=hv3
  refine⟨jn,qR 4 3 U (tn 8 U (tl 0 ty67 U U U U U U (⟨jn,qA [9] U (dJ kr (qT 5 U (pH 6 [30,31,32,33,34,35,36] 30 36 (decide ((mgetD df (bF y1) (ae.mk 0 0 0 0 0 0 0 false)).At<=y1.At)) U (λc3 hk2=>?_) (λe=>?_))))⟩)))⟩
  .exact qL 6 [1,0] U (hk2 _ U)
  exact RO
 .rintro dm1 ⟨df,fG,hh1⟩ hn1 ⟨hs8,mY,hl1⟩ hln1 hl01
  refine eA (L':=[z1,(b2,fG),z2]++(markB (dm1::[]))) ap (qT 8 U (aS (eb call378 (sN _ _ _ _ bD aT ad (hl.mono ae.aB ((hle1.t hl1).t hln1))) U (λv6 h2 hle2 hp2=>?_))))
  obtain⟨_,rfl,mo5⟩:=hp2
  refine qO 2 U (eA (L':=([z1,(b2,fG),z2])++markB (dm1::[])) ap ?_)
  refine pz (it:=v6) (xs:=(fS l bD aT ad)) (ι:=(List ae)×Option Addr×Nat×LH×HF) (dm1::[]) (λi=>i.2.2.2.2) (λi=>[z1,(b2,fG),(b1,O [.slice i.2.1 i.1.length i.2.2.1] 28)]++(i.2.2.2.1)) (λs i=>aK l bD aT ad=((aK.L2 df (aK.K2)) s i.1)/\di ae.rp 67 i.2.2.2.2 i.1 i.2.1 i.2.2.1 i.2.2.2.1/\HF.le h2 i.2.2.2.2/\i.1.length+s.length<=l.length) (λ_=>False) (λ_=>False) 0 (λ_ _ _=>False) ([],none,0,[],h2) Tq U mo5 U qn (λ_ _ _ _ _ hq=>hq) U (show[z1,(b2,fG),z2]=_ from U) ⟨hs8,di.nil,lf,(by have hc:=sx l bD aT ad;simpa using hc)⟩ ?_ ?_ ?_ ?_ ?_
  .rintro l2 dm2 lp2 y2 rz2 vs2 ⟨pK,Ef,Ee,sf,hh2⟩ hr2 X hFR2 ⟨hs9,Ed,hl2,u2_0⟩ hl02 hlr2 hv2 hX hXM hlp2 nx2 rt2 ex2 pn2
   obtain rfl:=hv2
   simp only[xA]at u2_0
   let z4:Nat×Obj:=(b1,O [.slice Ef pK.length Ee] 28)
   let z10:Nat×Obj:=(dm2,.deferred (some []))
   refine eA (L':=[(l2,.loop lp2),z10,z1,(b2,fG),z4]++(sf++(markB (dm1::[])))) ap (cB (cS zc67 (λb11=>cJ 0 ty67 U U U U U U (mf (L':=[(b11,O (ae.cells y2) 67),(l2,.loop lp2),z10,z1,(b2,fG),z4]++(sf++(markB (dm1::[])))) U (ck (nJ 1 U hlp2 (qT 2 U ?_)))))))
   refine MJ [(8,Q b1),(13,Q b11),(57,.bool ((!y2.mU)&&(decide ((mgetD df (bF y2) (ae.mk 0 0 0 0 0 0 0 false))=y2))))] (λe=>?_) (λhk4=>?_)
   rotate_left
   .refine hU ([(b11,O (ae.cells y2) 67),(l2,.loop { lp2 with state:=.busy }),z10,z1,(b2,fG),z4]) mixed kr jn (λXL _=>?_)
    refine qB [0] U (tf 1 U U (rj 0 ty4 U U U) (qA [2,3] U ?_))
    refine pk 50 U (λc7=>?_) (λc7=>?_)
    .refine tf 4 U U (rj 3 ty391 U U U) (tf 5 U U (λ_ _ hj=>nQ ty67 U (hj.nth (i:=0) U) U) (tf 8 U U (λ_ _ hj=>nQ ty67 U (hj.nth (i:=0) U) U) (tn 6 U (kg Rf (lW hr2 y2) U (⟨jn,tn 7 U (ve 4 (k:=(bF y2)) Ok pC U (mY.mono (mT.mono ae.aB) (((hln1.t hle2).t hl2).t hlr2)) (gF zv67) (show(mT ae.rp) _ (.agg (vB [I 0,I 0,I 0,I 0,I 0,I 0,I 0,.bool false])) (ae.mk 0 0 0 0 0 0 0 false)from⟨_,U,U⟩) U U (λv8 hv6=>?_))⟩)))))
     obtain⟨_,rfl,rfl⟩:=hv6
     exact⟨jn,tf 9 U U (λ_ _ _=>Wi (NV (mgetD df (bF y2) (ae.mk 0 0 0 0 0 0 0 false)) y2) eqg67 U U) (qA [10] U (dJ kr (hk4 _ ⟨U,U,(cb (show(decide ((mgetD df (bF y2) (ae.mk 0 0 0 0 0 0 0 false))=y2))=((!y2.mU)&&(decide ((mgetD df (bF y2) (ae.mk 0 0 0 0 0 0 0 false))=y2)))from by rw[c7]<;>rfl)),trivial⟩)))⟩
    exact tk 4 U U (qR 5 6 U (dJ kr (hk4 _ ⟨U,U,(cb (show false=((!y2.mU)&&(decide ((mgetD df (bF y2) (ae.mk 0 0 0 0 0 0 0 false))=y2)))from by rw[c7]<;>rfl)),trivial⟩)))
   refine dy hs9 U (λc8 hs10=>?_) (λc8 hs11=>?_)
   .refine qK 2 [5] U (ga 0 ty67 U U U (aS (cM (cells:=[I y2.No,I y2.At,I y2.eH,I y2.Doc,I y2.By,I y2.For,I y2.dQ,.bool y2.mU]) MF ty67 zc67 U U kr (λb12=>?_))))
    let z8:Nat×Obj:=(b12,O [I y2.No,I y2.At,I y2.eH,I y2.Doc,I y2.By,I y2.For,I y2.dQ,.bool y2.mU] 67)
    let z9:Nat×Obj:=(l2,.loop { lp2 with state:=.busy })
    let z14:Nat×Obj:=(b11,O (ae.cells y2) 67)
    refine aS (dN ae.ft ([z8,z14,z9,z10,z1,(b2,fG),z4]) (markB (dm1::[])) (λG=>[z8,z14,z9,z10,z1,(b2,fG),z4]++(markB (dm1::[])++G)) ap (λ_=>ap) MF ty67 zc67 U bytes67 (Ed.mono ae.aB hlr2) U U (gQ 0 U (cE y2 U U)) lo lo (λob1 oc1 G1 gr1=>wl (BN ([z8,z14,z9,z10,z1,(b2,fG),z4]) G1 (markB (dm1::[]))) (dK 6 ty28 U U U U U U (qO 2 U ?_))))
    let z15:Nat×Obj:=(b1,O [.slice ob1 ((pK++[y2]).length) oc1] 28)
    exact ek (L':=[z9,z10,z1,(b2,fG),z15]++(G1++(markB (dm1::[])))) js (eA (L':=rdH l2 dm2 lp2 (([z1,(b2,fG),z15]++G1)++markB (dm1::[]))) ap (nx2 ((pK++[y2]),ob1,oc1,G1,hr2) _ _ ⟨hs10,gr1,(hl2.t hlr2),(by first|omega|(simp only[kA,xA,xB]at *;omega))⟩ lf))
   exact jf (gU (ek (L':=[(l2,.loop { lp2 with state:=.busy }),z10,z1,(b2,fG),z4]++(sf++(markB (dm1::[])))) js (eA (L':=rdH l2 dm2 lp2 (([z1,(b2,fG),z4]++(sf))++markB (dm1::[]))) ap (nx2 (pK,Ef,Ee,sf,hr2) _ _ ⟨hs11,(Ed.mono ae.aB hlr2),(hl2.t hlr2),(by first|omega|(simp only[kA,xA,xB]at *;omega))⟩ lf))))
  .rintro dm2 ⟨pK,Ef,Ee,sf,hh2⟩ hn2 ⟨hs12,Ed,hl2,u2_0⟩ hln2 hl02
   let z5:Nat×Obj:=(b1,O [.slice Ef pK.length Ee] 28)
   refine eA (L':=[z1,(b2,fG),z5]++(sf++(markB (dm2::(dm1::[]))))) ap (qK 4 [2] U (dK 2 ty28 U U U U U U (ck ?_)))
   have hs13:aK l bD aT ad=pK:=hs12
   exact eA (L':=([z1,(b2,fG),z5]++(sf))++markB (dm2::(dm1::[]))) ap (Vj (dm2::(dm1::[])) (A:=[z1,(b2,fG),z5]) (G:=sf) (Q:=[]) Tq U hX ap (λh1=>di.flat (λ_ _ _ _ e=>e) (Ed.mono ae.aB hln2)) ⟨⟨2,_,_,_,_,U,U,.inr ⟨_,ty28,U⟩⟩,trivial⟩ hs13)
  .exact xf
  .exact xf
  exact xf
 .exact xf
 .exact xf
 exact xf
theorem yZ(l:List ae)(bD aT ad):(aK l bD aT ad).length<=l.length:=by
 have h2:∀(g:List (eY×ae))(s acc:List ae),(aK.L2 g aK.K2 s acc).length<=acc.length+s.length:=by
  intro g s
  induction s with
  |nil=>intro acc;exact Nat.le_refl _
  |cons y s ih=>
   intro acc
   simp only[aK.L2,Bool.cond_eq_ite]
   split
   .have:=ih (acc++[y]);simp only[kA,xA,xB]at *;omega
   have:=ih acc;simp only[xA];omega
 have h1:∀(s:List ae)(g:List (eY×ae)),(aK.L1 (aK.K1 l bD aT ad) s g).length<=l.length:=by
  intro s
  induction s with
  |nil=>
   intro g
   have h3:=h2 g (fS l bD aT ad) []
   have h4:=sx l bD aT ad
   show(aK.L2 g aK.K2 (fS l bD aT ad) []).length<=l.length
   simp only[xB]at h3;omega
  |cons y s ih=>intro g;simp only[aK.L1,Bool.cond_eq_ite];split<;>exact ih _
 exact h1 _ _
section
open Go.Proofs Go.Proofs.Tryz
set_option maxHeartbeats 4000000
theorem IP(h l eP eO vK bV bU aT)(hl:SlC aj.rp h eP eO l)(iC:SlC jB h bV bU vK)(hsg:vK.length=l.length)(hsn:vK.length<=2000000)(hnd:∀d∈l,d.eQ.length<=16):j0 prog 289 [.slice eP l.length eO,.slice bV vK.length bU,I aT] h (λv h'=>∃(rb0:Option Addr)(rc0:Nat),v=.slice rb0 (bx l vK aT).length rc0/\SlC jB h' rb0 rc0 (bx l vK aT)):=by
 refine sT func289 U ntmps289 U λX hM hX hF=>?_
 have hs0:=@rfl _ (bx l vK aT)
 refine qT 8 U (aS (eb call291 (AK _ _ _ _ aT iC ob) U (λv1 h1 hle1 hp1=>?_)))
 obtain⟨rb1,rc1,rfl,sl1⟩:=hp1
 refine qL 6 [] U (aS (T5 (R:=vV) (x0:=false) (m:=l.length) (λG=>G) U U (λ_=>ap) Do zc4 ty4 bytes4 U U ob ob (λb1 G1 gr1=>qO 4 U (aS (lC fm ty3 (λb2=>qO 7 U ?_))))))
 obtain⟨G6,gr6,ge1⟩:∃G:LH,di jB 3 h1 ([]) (zAD b2) 0 G/\[(b2,O [] 3)]=G:=⟨_,di.lit (show bW jB h1 [] ([])from rfl) rfl,rfl⟩
 refine eA (L':=([])++([(b2,O [] 3)]++G1)) ap ?_
 rw[ge1]
 refine jy (List.Perm.append_left _ List.perm_append_comm) (eA (L':=G1++G6) ap ?_)
 refine lp4 l (λi w=>[(0,.slice eP l.length eO),(1,.slice bV vK.length bU),(7,.slice rb1 ((aX vK aT).length) rc1),(8,.slice (zAD b1) ((List.replicate l.length false).length) l.length),(9,.slice w.2.1 w.1.length w.2.2.1),(10,I (i:Int))]) (λ_=>h1) (λw=>G1++(w.2.2.2)) (λi w=>di jB 3 h1 w.1 w.2.1 w.2.2.1 w.2.2.2/\w.1.length<=0+i/\w.1.length=i) (λi w=>di jB 3 h1 w.1 w.2.1 w.2.2.1 w.2.2.2/\w.1.length<=0+i/\w.1.length=l.length) (λi g hi h=>⟨h.1,h.2.1,h.2.2.trans hi⟩) (λs1 i w=>(bx.L1 (bx.K1 l vK aT)) s1 w.1) ([],(zAD b2),0,G6) ((hl.mono aj.aB hle1).1.1) hs0 ⟨gr6,lo,U⟩ ?_ ?_ ?_
 .rintro i1 ⟨pw,UO,UN,UP⟩ pq hs1 ⟨PK,UM,u1_0⟩ e
  try dsimp only at PK UM u1_0
  refine qT 5 U ?_
  refine lp2 (aX vK aT) (λi w=>[(0,.slice eP l.length eO),(1,.slice bV vK.length bU),(7,.slice rb1 ((aX vK aT).length) rc1),(8,.slice w.2.1 w.1.length w.2.2.1),(9,.slice w.2.2.2.2.2.1 w.2.2.2.2.1.length w.2.2.2.2.2.2.1),(11,I (i:Int))]) (λ_=>h1) (λw=>w.2.2.2.1++(w.2.2.2.2.2.2.2)) (λi w=>di vV 4 h1 w.1 w.2.1 w.2.2.1 w.2.2.2.1/\di jB 3 h1 w.2.2.2.2.1 w.2.2.2.2.2.1 w.2.2.2.2.2.2.1 w.2.2.2.2.2.2.2/\w.1.length=l.length/\w.2.2.2.2.1.length=l.length) (λs2 i w=>(bx.L2 l vK aT (bx.K2)) s2 i w.1 w.2.2.2.2.1) ((List.replicate l.length false),(zAD b1),l.length,G1,pw,UO,UN,UP) sl1.1.1 hs1 ⟨gr1,PK,List.length_replicate,ob⟩ ?_ ?_ ?_
  .rintro i2 ⟨nX,yh,yg,um,ri,Mb,Ma,R0⟩ Ff hs2 ⟨zx,PJ,u2_0,u2_1⟩ e
   try dsimp only at zx PJ u2_0 u2_1
   refine qT 5 U (jz vJ (um) R0 ([]) ap hM PJ (λh2 hle2 sl8=>eA (L':=um) ap ?_))
   have hs3:bx l vK aT=ri:=hs2
   exact nretH [.slice Mb ri.length Ma] ⟨Mb,Ma,congrArg (λr:List Int=>(.slice Mb r.length Ma:Value)) hs3.symm,(by rw[hs3];exact sl8)⟩
  .rintro i2 ⟨nX,yh,yg,um,ri,Mb,Ma,R0⟩ y2 rz2 hd2 Cr zw L8 UC hs4 ⟨zx,PJ,u2_0,u2_1⟩ hx2 ag1 e
   try dsimp only at zx PJ u2_0 u2_1
   have hnl:=Nq (P:=λd:aj=>d.eQ.length<=16) hnd (Nat.zero_le _) y2
   refine qK 6 [] U (tO Cr U (qO 9 U (aS (iF (λy=>[I y]) fm ty3 sl1.1 zw U U U (λq35 A35=>iw ty3 A35 U (qO 7 U ?_))))))
   have ho40:0<=(y2:Int)/\(y2:Int)<((l).length:Int):=(by first|omega|(have hq:=uV vK aT _ (fe hd2);omega))
   refine aS (If MG ty54 (hl.mono aj.aB hle1).1 ho40 (eu ho40) U U U (λ_ _ _ e=>e) (λq36 r15 A36 ok15=>qL 1 [] U (nm (j:=8) ty31 A36 U U (qL 1 [] U (ls (v':=I ((((nthI l y2).eQ.length:Nat):Int)-1)) U (nv ob) (an ?_))))))
   refine km (ι:=Nat×List Int×Option Addr×Nat×LH) (λi=>[(0,.slice eP l.length eO),(1,.slice bV vK.length bU),(7,.slice rb1 ((aX vK aT).length) rc1),(8,.slice yh nX.length yg),(9,.slice i.2.2.1 i.2.1.length i.2.2.2.1),(11,I (i2:Int)),(12,I y2)]) (λi=>h1) (λi=>um++(i.2.2.2.2)) (λi=>i.1<=(xF ((nthI l y2).eQ.length)).length/\bx l vK aT=((λzg4_9=>(bx.L2 l vK aT (bx.K2) rz2 (i2+1) (nX.set (y2:Int).toNat (decide ((nthI zg4_9 y2)<0))) zg4_9)) i.2.1)/\di jB 3 h1 i.2.1 i.2.2.1 i.2.2.2.1 i.2.2.2.2/\i.2.1.length=l.length) ?_ (λhx4=>?_)
   .rintro⟨i4,sa,Jv,Ju,D9⟩ ⟨SS,hs5,CG,u4_0⟩ e
    try dsimp only at SS CG u4_0
    refine qT 5 U ?_
    have ho49:0<=(y2:Int)/\(y2:Int)<((sa).length:Int):=ob
    have hgz:=di.pE CG (by omega)
    obtain⟨bk10,hbk10⟩:=hgz
    refine aS (fU (nU (R:=jB) (xs:=sa) fm ty3 hbk10 ho49 U U U) (aS (fU (Cz (R:=jB) (i:=(y2:Int).toNat) (off:=0) ty3 CG hbk10 (eu ho49) (λcs_z hcs=>by rw[show cs_z=[I (nthI sa y2)]from hcs];rfl) U mh) (RK U ?_))))
    have ho50:0<=(y2:Int)/\(y2:Int)<((nX).length:Int):=ob
    have hgz:=di.pE zx (by omega)
    obtain⟨bk11,hbk11⟩:=hgz
    exact aS (fU (nU (R:=vV) (xs:=nX) Do ty4 hbk11 ho50 U U U) (aS (DE (R:=vV) (i:=(y2:Int).toNat) (off:=0) (u:=(nthI nX y2)) (u':=decide ((nthI sa y2)<0)) (v:=.bool (decide ((nthI sa y2)<0))) ([]) um (D9) ty4 U zx ap hbk11 (eu ho50) (by decide) (λcs_z hcs=>by rw[show cs_z=[.bool (nthI nX y2)]from hcs];rfl) U U U (λG12 gr12=>mf (L':=G12++(D9)) (by first|rfl|simp only[List.length_set,zC,jK,qD,List.append_nil]) (Wf 8 (.slice yh ((nX.set (y2:Int).toNat (decide ((nthI sa y2)<0))).length) yg) (congrArg (λn_=>Value.slice yh n_ yg) (List.length_set ..).symm) (qO 4 U (oi i2 U (an (ag1 ((nX.set (y2:Int).toNat (decide ((nthI sa y2)<0))),yh,yg,G12,sa,Jv,Ju,D9) hs5 ⟨gr12,CG,(by first|assumption|(rw[List.length_set];assumption)),(by first|assumption|(rw[List.length_set];assumption))⟩)))))))))
   refine mL (ι:=Nat×List Int×Option Addr×Nat×LH×List Nat) (λi=>[(0,.slice eP l.length eO),(1,.slice bV vK.length bU),(7,.slice rb1 ((aX vK aT).length) rc1),(8,.slice yh nX.length yg),(9,.slice i.2.2.1 i.2.1.length i.2.2.2.1),(11,I (i2:Int)),(12,I y2),(13,I ((((((nthI l y2).eQ.length)-i.1):Nat):Int)-1))]) (λi=>h1) (λi=>um++(i.2.2.2.2.1)) (λi=>(xF ((nthI l y2).eQ.length)).drop i.1=i.2.2.2.2.2/\i.1<=(xF ((nthI l y2).eQ.length)).length/\bx l vK aT=((bx.L4 l vK aT i2 y2 nX (λzg4_9=>(bx.L2 l vK aT (bx.K2) rz2 (i2+1) (nX.set (y2:Int).toNat (decide ((nthI zg4_9 y2)<0))) zg4_9))) i.2.2.2.2.2 i.1 i.2.1)/\di jB 3 h1 i.2.1 i.2.2.1 i.2.2.2.1 i.2.2.2.2.1/\i.2.1.length=l.length) (λi=>i.2.2.2.2.2.length) (0,ri,Mb,Ma,R0,(xF ((nthI l y2).eQ.length))) ⟨U,U,U,U,U,U,U,(congrArg (Value.int .i64) (show((((nthI l y2).eQ.length:Nat):Int)-1)=((((((nthI l y2).eQ.length)-0):Nat):Int)-1)from by omega)),trivial⟩ sw ⟨U,Nat.zero_le _,hs4,PJ,ob⟩ ?_
   rintro⟨i4,sa,Jv,Ju,D9,s4⟩ ⟨hd4,SR,hs6,CG,u4_0⟩ ag2 e
   try dsimp only at hd4 SR CG u4_0
   rcases s4 with _|⟨y4,rz4⟩
   .have WN:decide (0<=((((((nthI l y2).eQ.length)-i4):Nat):Int)-1))=false:=decide_eq_false (by have q_:=of_decide_eq_false (rm hd4);rw[List.length_range]at q_;omega)
    exact eI (qT 3 U (fO WN U (qO 3 U (hx4 (i4,sa,Jv,Ju,D9) _ ⟨SR,hs6,CG,u4_0⟩ rd))))
   have WM:decide (0<=((((((nthI l y2).eQ.length)-i4):Nat):Int)-1))=true:=decide_eq_true (by have q_:=kl hd4;rw[List.length_range]at q_;omega)
   have PG:i4<((nthI l y2).eQ.length):=by simpa using kl hd4
   refine qT 4 U (tO WM U (qO 6 U (hU (um++(D9)) mixed kr jn (λkI _=>qR 0 3 U (EI 3 kI jn fm ty3 sl1.1 sl1.2 ob U U U U kr (λsb8 sc8 sl10=>qR 4 4 U ?_))))))
   have ho51:0<=(y2:Int)/\(y2:Int)<((l).length:Int):=(by first|omega|(have hq:=uV vK aT _ (fe hd2);omega))
   refine sY 8 kI jn MG ty54 (hl.mono aj.aB hle1).1 ho51 (eu ho51) U U U U kr (λq42 cs18 A42 ln18 rr18=>?_)
   obtain⟨r18,rfl,ok18⟩:=rr18
   refine qB [9] U (tf 10 U U (rH 8 ty31 A42 U U) (tm 11 U ?_))
   have ho52:0<=(((((((nthI l y2).eQ.length)-i4):Nat):Int)-1):Int)/\(((((((nthI l y2).eQ.length)-i4):Nat):Int)-1):Int)<(((nthI l y2).eQ).length:Int):=ob
   refine jr 12 (enc:=λy=>[I y]) kI jn ei fm ty3 ok18.eQ.1 ho52 (eu ho52) U U U U kr (λq43 A43=>tf 13 U U (rh ty3 A43 U) (qA [15,16] U ?_))
   have ho53:0<=(y2:Int)/\(y2:Int)<((vK).length:Int):=(by first|omega|(have hq:=uV vK aT _ (fe hd2);omega))
   refine jr 17 (enc:=λy=>[I y]) kI jn ei fm ty3 (iC.mono vJ hle1).1 ho53 (eu ho53) U U U U kr (λq44 A44=>tf 18 U U (rh ty3 A44 U) (tn 14 U (kg call195 (Cy _ _ _ _ (nthI ((nthI l y2).eQ) ((((((nthI l y2).eQ.length)-i4):Nat):Int)-1)) (hl.mono aj.aB hle1)) U (⟨jn,tn 19 U (Ig ([]) um (D9) call290 Rp.sV zx ap (λhq1 hqle1 hqsl=>AJ hq1 l eP eO ((aX vK aT).take (((i2:Int):Int)).toNat) sb8 sc8 nX yh yg (cD l (nthI ((nthI l y2).eQ) ((((((nthI l y2).eQ.length)-i4):Nat):Int)-1))) (nthI vK y2) (hl.mono aj.aB (hle1.t hqle1)) (sl10.mono vJ hqle1) hqsl (λx hx=>by have hq:=uV vK aT x (List.mem_of_mem_take hx);omega) ob) U (⟨jn,(qR 20 5 U (dJ kr (qT 5 U (dy hs6 U (λc15 hs8=>?_) (λc15 hs9=>?_)))))⟩))⟩))))
   .refine qT 5 U ?_
    have ho54:0<=(y2:Int)/\(y2:Int)<((l).length:Int):=(by first|omega|(have hq:=uV vK aT _ (fe hd2);omega))
    refine aS (If MG ty54 (hl.mono aj.aB hle1).1 ho54 (eu ho54) U U U (λ_ _ _ e=>e) (λq45 r19 A45 ok19=>qL 1 [] U (nm (j:=8) ty31 A45 U U (dU ?_))))
    have ho55:0<=(((((((nthI l y2).eQ.length)-i4):Nat):Int)-1):Int)/\(((((((nthI l y2).eQ.length)-i4):Nat):Int)-1):Int)<(((nthI l y2).eQ).length:Int):=ob
    refine aS (tW (enc:=λy=>[I y]) ei fm ty3 ok19.eQ.1 ho55 (eu ho55) U U U (λq46 A46=>iw ty3 A46 U ?_))
    have ho56:0<=(y2:Int)/\(y2:Int)<((sa).length:Int):=ob
    have hgz:=di.pE CG (by omega)
    obtain⟨bk12,hbk12⟩:=hgz
    exact aS (fU (nU (R:=jB) (xs:=sa) fm ty3 hbk12 ho56 U U U) (aS (DE (R:=jB) (i:=(y2:Int).toNat) (off:=0) (u:=(nthI sa y2)) (u':=(nthI ((nthI l y2).eQ) ((((((nthI l y2).eQ.length)-i4):Nat):Int)-1))) (v:=I (nthI ((nthI l y2).eQ) ((((((nthI l y2).eQ.length)-i4):Nat):Int)-1))) (um) D9 ([]) ty3 U CG ap hbk12 (eu ho56) (by decide) (λcs_z hcs=>by rw[show cs_z=[I (nthI sa y2)]from hcs];rfl) U U U (λG13 gr13=>mf (L':=um++G13) (by first|rfl|simp only[List.length_set,zC,jK,qD,List.append_nil]) (Wf 9 (.slice Jv ((sa.set (y2:Int).toNat (nthI ((nthI l y2).eQ) ((((((nthI l y2).eQ.length)-i4):Nat):Int)-1))).length) Ju) (congrArg (λn_=>Value.slice Jv n_ Ju) (List.length_set ..).symm) (qO 4 U (ls (v':=I ((((((nthI l y2).eQ.length)-(i4+1)):Nat):Int)-1)) U (Sd PG ob) (an (ag2 ((i4+1),(sa.set (y2:Int).toNat (nthI ((nthI l y2).eQ) ((((((nthI l y2).eQ.length)-i4):Nat):Int)-1))),Jv,Ju,G13,rz4) _ (Nat.lt_succ_self _) ⟨nl hd4,kl hd4,hs8,gr13,(by first|assumption|(rw[List.length_set];assumption))⟩ rd)))))))))
   exact jf (qT 3 U (ls (v':=I ((((((nthI l y2).eQ.length)-(i4+1)):Nat):Int)-1)) U (Sd PG ob) (an (ag2 ((i4+1),sa,Jv,Ju,D9,rz4) _ (Nat.lt_succ_self _) ⟨nl hd4,kl hd4,hs9,CG,(by first|assumption|(rw[List.length_set];assumption))⟩ rd))))
  rintro i2 ⟨nX,yh,yg,um,ri,Mb,Ma,R0⟩ hd2 PH hx e
  exact qK 6 [] U (fO PH U (qO 3 U (hx _ rd)))
 .rintro i1 ⟨pw,UO,UN,UP⟩ y1 rz1 hd1 ns iI po xe hs10 ⟨PK,UM,u1_0⟩ hx1 ag3 e
  try dsimp only at PK UM u1_0
  exact qK 6 [] U (tO ns U (qO 7 U (aS (cM (cells:=[I (-1)]) fm ty3 zc3 U U kr (λb4=>aS (dN Rp.fR ([(b4,O [I (-1)] 3)]++G1) ([]) (λG=>[(b4,O [I (-1)] 3)]++(G1++G)) ap (λ_=>ap) fm ty3 zc3 U bytes3 PK U U (gQ 0 U (cE (-1) U U)) lo lo (λob2 oc2 G14 gr14=>qO 5 U (oi i1 U (an (ek (L':=G1++G14) js (ag3 ((pw++[(-1)]),ob2,oc2,G14) hs10 ⟨gr14,lo,lo⟩)))))))))))
 rintro i1 ⟨pw,UO,UN,UP⟩ hd1 rZ hx e
 exact qK 6 [] U (fO rZ U (qO 3 U (hx _ rd)))
theorem qv(h most l eP eO)(hl:SlC jB h eP eO l):Ret prog 162 [I most,.slice eP l.length eO] h (.bool (eN most l)):=by
 refine sVv func162 ntmps162 ?_
 generalize hz:(eN most l)=z
 exact W
instance k162:Ct 162:=⟨_,call162,@qv⟩
theorem tN(h)(q:bL)(l eP eO)(hl:SlC aE.rp h eP eO l):j0 prog 333 [.agg (bL.cells q).toArray,.slice eP l.length eO] h (λv h'=>∃(rv0:Value),v=rv0/\Itr prog rv0 vr (aL q l) h'):=by
 refine sT func333 U ntmps333 U λX hM hX hF=>?_
 have hs0:=@rfl _ (aL q l)
 refine sr (j2 (λb1=>j2 (λb2=>qO 4 U (ga 1 ty341 U U U (aS (kw U U (cS zc178 (λb3=>dK 0 ty178 U U U U U U (qO 3 U (aS (uw (λb4=>cS zc398 (λb5=>dK 0 ty398 U U U U U U (qL 8 [3] U ?_))))))))))))))
 let z1:Nat×Obj:=(b3,O [.func (.func 381) #[.agg (bL.cells q).toArray] #[]] 178)
 let z2:Nat×Obj:=(b2,O [.slice eP l.length eO] 23)
 let z3:Nat×Obj:=(b1,O (bL.cells q) 341)
 let z4:Nat×Obj:=(b5,O [.map (some b4)] 398)
 refine lp2 l (λi w=>[(2,Q b1),(3,Q b2),(5,Q b3),(6,Q b5),(15,.slice eP l.length eO),(16,I (l.length:Int)),(17,I (i:Int))]) (λ_=>h) (λw=>[z4,(b4,w.2),z1,z2,z3]) (λi w=>lB ea.enc (mT aE.rp) h w.2 w.1/\w.1.length<=0+i) (λs1 i w=>(aL.L1 q (aL.K1 q l)) s1 w.1) ([],.map #[] 0) hl.1.1 hs0 ⟨(lB.nil (enc:=ea.enc) (V:=(mT aE.rp)) (h:=h)),lc⟩ ?_ ?_
 .rintro i1 ⟨fh,JA⟩ pq hs1 ⟨Bj,UL⟩ e
  refine sr (dV 3 U hM (λh1 hle1 hb1=>dV 0 U hM (λh2 hle2 hb2=>dV 1 U hM (λh3 hle3 hb3=>dV 1 U hM (λh4 hle4 hb4=>aS (kw U U (an (fK 0 U hM (λh5 hle5 hb5=>?_)))))))))
  have mc1:uN ea.enc (mT aE.rp) h5 b4 fh:=⟨_,hb5,(Bj.mono (mT.mono aE.aB) (((hle1.t hle2).t hle3).t hle4)).mono (mT.mono aE.aB) hle5⟩
  have hs2:aL q l=(bX l fh (dC q) q):=hs1
  exact nretH [.func (.func 382) #[] #[Q b2,Q b5,Q b3,Q b1]] (hs2▸⟨(.func (.func 382) #[] #[Q b2,Q b5,Q b3,Q b1]),U,(nZ h5 l eP eO ⟨b2,0,none⟩ fh b4 ⟨b5,0,none⟩ (dC q) (.func (.func 381) #[.agg (bL.cells q).toArray] #[]) ⟨b3,0,none⟩ q ⟨b1,0,none⟩ (hl.mono aE.aB ((((hle1.t hle2).t hle3).t hle4).t hle5)) ((gM hb1).mono (((hle2.t hle3).t hle4).t hle5)) mc1 ((gM hb2).mono ((hle3.t hle4).t hle5)) (λh' fX eT=>OU (fl:=[.agg (bL.cells q).toArray]) (cap:=[]) call381 (pN h' q fX)) ((gM hb3).mono (hle4.t hle5)) ((gM hb4).mono hle5))⟩)
 rintro i1 ⟨fh,JA⟩ y1 rz1 hd1 ns iI po xe hs3 ⟨Bj,UL⟩ hx1 ag1 e
 refine sr (tO ns U (qO 8 U (aS (iF aE.cells ur ty150 hl.1 iI U U U (λq2 A2=>lh ty150 A2 U U (cS zc150 (λb9=>cJ 0 ty150 U U U U U U (qL 11 [0,0,0,0] U (aS (ia (cells:=[I y1.From,I y1.To,I y1.dQ,I y1.Kind]) (places:=[(0,1),(1,1),(2,1),(3,1)]) TC zc400 kr kr (cS zc400 (λb10=>cJ 0 ty400 U U U U U U (qL 4 [2] U (ga 0 ty400 U U U (aS (oM 3 (k:=(ea.mk y1.From y1.To y1.dQ y1.Kind)) underlying398 w8 U Bj (gF zv150) (show(mT aE.rp) _ (.agg (vB [I 0,I 0,I 0,I 0,I 0,I 0,I 0,I 0,I 0,.bool false])) (aE.mk 0 0 0 0 0 0 0 0 0 false)from⟨_,U,U⟩) U U (λv2 hv2=>?_)))))))))))))))))
 obtain⟨_,rfl,rfl⟩:=hv2
 refine qO 3 U (cS zc150 (λb11=>cJ 0 ty150 U U U U U U (qL 5 [5] U (ga 2 ty150 U U U (aS (wo (v:=.bool (dC q y1)) [] (List.nil_sublist _) (OU (fl:=[.agg (bL.cells q).toArray]) (args:=[.agg (aE.cells y1).toArray]) (cap:=[]) call381 (pN h q y1)) U U (dU (pF 10 [39,40,41,42,43,44,45,46,47,48,49] 39 49 ((!(mhas fh (ea.mk y1.From y1.To y1.dQ y1.Kind)))||decide ((mgetD fh (ea.mk y1.From y1.To y1.dQ y1.Kind) (aE.mk 0 0 0 0 0 0 0 0 0 false)).At<=y1.At)) U (λc1 hk1=>?_) (λe=>?_)))))))))
 .refine qO 3 U (pH 6 [42,43,44,45,46,47,48] 42 48 (decide ((mgetD fh (ea.mk y1.From y1.To y1.dQ y1.Kind) (aE.mk 0 0 0 0 0 0 0 0 0 false)).At<=y1.At)) U (λc2 hk2=>?_) (λe=>?_))
  .exact qL 6 [2,0] U (hk2 _ U)
  exact I6 U (hk1 _ U)
 refine ck (dy hs3 U (λc3 hs4=>?_) (λc3 hs5=>?_))
 .exact qK 2 [3] U (ga 1 ty400 U U U (ga 2 ty150 U U U (aS (pS 4 (k:=(ea.mk y1.From y1.To y1.dQ y1.Kind)) (x:=y1) underlying398 w8 U Bj U U ⟨_,U,U⟩ (λmo1 hm1=>qO 3 U (oi i1 U (qO 2 U (ek (L':=[z4,(b4,mo1),z1,z2,z3]) js (ag1 ((mput fh (ea.mk y1.From y1.To y1.dQ y1.Kind) y1),mo1) hs4 ⟨hm1,(by have:=rV fh (ea.mk y1.From y1.To y1.dQ y1.Kind) y1;first|omega|(simp only[xB,xA]at *;omega))⟩)))))))))
 exact jf (qT 2 U (oi i1 U (qO 2 U (ek (L':=[z4,(b4,JA),z1,z2,z3]) js (ag1 (fh,JA) hs5 ⟨Bj,lc⟩)))))
theorem sL(q:bL)(l:List aE):(aL q l).length<=l.length:=by
 have h1:∀(v:List (ea×aE))(s:List aE),(bX.L1 v (dC q) q bX.K1 s).length<=s.length:=by
  intro v s
  induction s with
  |nil=>exact Nat.le_refl _
  |cons y s ih=>simp only[bX.L1,Bool.cond_eq_ite];split<;>simp only[xA]<;>omega
 have h2:∀(s:List aE)(g:List (ea×aE)),(aL.L1 q (aL.K1 q l) s g).length<=l.length:=by
  intro s
  induction s with
  |nil=>intro g;exact h1 g l
  |cons y s ih=>intro g;simp only[aL.L1,Bool.cond_eq_ite];split<;>exact ih _
 exact h2 _ _
theorem IQ(h l eP eO)(hl:SlC aj.rp h eP eO l):Ret prog 57 [.slice eP l.length eO] h (I (dH l)):=by
 refine sVv func57 ntmps57 ?_
 generalize hz:(dH l)=z
 have HA:=h0 [0] 3 (λs1 i=>(dH.L1 l (dH.K1)) s1 i)
 exact W
instance k57:Ct 57:=⟨_,call57,@IQ⟩
theorem w7(h q xm x gN)(hq:ba.ok h q xm)(hx:ai.ok h x gN)(hno:0<=x.No/\x.No<(q.bh.length:Int))(hso:q.gv.Pairwise (·<=·))(hsw:q.gv.length<=2000000):Ret prog 345 [.agg (ba.cells q xm).toArray,.agg (ai.cells x gN).toArray] h (.bool (fp q x)):=by
 refine sVv func345 ntmps345 ?_
 generalize hz:(fp q x)=z
 have HA:=λ{b3}=>lS z (λw=>w.1) (.mD b3 (λv=>[.bool v]) 4 .mE) (λs w=>((fp.L1 (fp.K1)) s w.1))
 exact W
theorem Iv(h l eP eO)(hl:SlC av.rp h eP eO l):Ret prog 54 [.slice eP l.length eO] h (I (iS l)):=by
 refine sVv func54 ntmps54 ?_
 generalize hz:(iS l)=z
 have HA:=h0 [0] 3 (λs1 i=>(iS.L1 l (iS.K1)) s1 i)
 exact W
instance k54:Ct 54:=⟨_,call54,@Iv⟩
theorem DS(h l eP eO nA aT ad)(hl:SlC Budget.rp h eP eO l)(hsz0:l.length<=2000000):j0 prog 193 [.slice eP l.length eO,I nA,I aT,I ad] h (λv h'=>∃(rb0:Option Addr)(rc0:Nat),v=.slice rb0 (eK l nA aT ad).length rc0/\SlC Budget.rp h' rb0 rc0 (eK l nA aT ad)):=by
 refine sVv func193 ntmps193 ?_
 generalize hz:(eK l nA aT ad)=z
 have HA:=hG [0,1,2,3] 10 9 Budget.rp 81 (λs1 i w=>(eK.L1 l nA aT ad (eK.K1)) s1 i w)
 exact W
instance k193:Ct 193:=⟨_,call193,@DS⟩
theorem DU(h l eP eO aI vL vN dh ad)(hl:SlC aE.rp h eP eO l)(hsz0:l.length<=2000000):j0 prog 360 [.slice eP l.length eO,I aI,I vL,I vN,I dh,I ad] h (λv h'=>∃(rb0:Option Addr)(rc0:Nat),v=.slice rb0 (eL l aI vL vN dh ad).length rc0/\SlC aE.rp h' rb0 rc0 (eL l aI vL vN dh ad)):=by
 refine sVv func360 ntmps360 ?_
 generalize hz:(eL l aI vL vN dh ad)=z
 have q0:=@OC
 have ho0:=Nat.le_trans (OC l dh ad) hsz0
 have HA:=hG [1,2,3,14] 15 13 aE.rp 150 (λs1 i w=>(eL.L1 aI vL vN (eL.K1)) s1 w)
 exact W
end
section
open Go.Proofs Go.Proofs.Tryz
theorem Oc(h:HF)(x:aV)(s:Int)(bk:Nat):qf prog 390 [.agg (aV.cells x).toArray,.pointer (some ⟨bk,0,none⟩)].toArray h [(bk,Obj.cells (vB [.int .i64 s]) 3 (0,0))]
  (λr h' B=>r=.returned (.tuple #[])/\h'=h/\B=[(bk,Obj.cells (vB [.int .i64 (IntKind.wrap .i64 (s+x.fD))]) 3 (0,0))]):=by
 refine el func390 rfl ntmps390 rfl λX hM hX=>?_
 refine eI (cB (j2 (λb2=>ck (cB (qm 1 ty3 rfl rfl rfl (lT UW rfl (qm 0 ty3 rfl rfl rfl (RK rfl (dK 1 ty3 rfl rfl rfl rfl rfl rfl (ck ?_))))))))))
 exact Az func390 (λa _ w _=>ol rfl a w) (λw hw=>hw.sub (List.sublist_cons_self _ _)) ⟨rfl,rfl,rfl⟩
end
end Go.Sg
