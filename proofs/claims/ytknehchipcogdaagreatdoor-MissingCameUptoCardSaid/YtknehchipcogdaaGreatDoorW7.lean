import Derived.Test.YtknehchipcogdaaGreatDoorW6
/- A part of the proof of MissingCame. -/
set_option linter.unusedVariables false
set_option linter.unusedSimpArgs false
set_option maxRecDepth 100000
open List renaming length_cons→xA,not_mem_nil→jA,length_append→vA,mem_cons_self→xB,length_nil→jB,toArray→kB,mem_cons_of_mem→qC,append_assoc→zC,mem_singleton→xC,mem_cons→kC,range→zD,mem_of_getElem?→xD,nil_append→vD,mem_append→kF,mem_append_right→xN,map_append→qW,getElem?_map→Yv,nodup_nil→Yx,mem_map_of_mem→YI,nodup_append→YX
open Go.Sg.HF renaming le_trans→kA,le_refl→qF,le→jL
open Go.Sg.Rp renaming int→vB,bU→kM
open Go.Value renaming int→jC
open Bool renaming or_eq_true→kD
open Nat renaming le_refl→xE,zero_le→jH,lt_or_ge→zK,le_trans→kK
open Go.Sg.OSeat renaming cells→xF,enc→xV,rp→ZI
open Go.Sg.SlC renaming nil→qH
open Go.Obj renaming cells→zH

namespace Go.Sg
section
open Go.Proofs Go.Proofs.Tryz
set_option maxHeartbeats 2000000
theorem yK(h v0 ye yd v0_q v1 v1_q v2 v2_q v3 v3_q)(hv0:SlC ai.rp h ye yd v0)(av0:At h v0_q [.slice ye v0.length yd])(av1:At h v1_q [I v1])(av2:At h v2_q [I v2])(av3:At h v3_q [I v3]):Itr prog (.func (.func 401) #[] (kB [.pointer (some v0_q),.pointer (some v1_q),.pointer (some v2_q),.pointer (some v3_q)])) rR (cM v0 v1 v2 v3) h:=by
 refine sR call401 ?_
 generalize hz:cM v0 v1 v2 v3=z;have hs:=hz.symm
 intro yf ya yb C Sp Pn h1 A dN m1 m2 m3 hC hy
 refine sTY func401 U ntmps401 U λX hXM hX hF=>?_
 have hv:z=[]++z:=rfl
 have HA:=h0 [0,2,3,4,8,9] 10 (λs1 i=>(cM.L1 v1 v2 v3 (cM.K1)) s1)
 exact W
instance kI401:CtI 401:=⟨_,@yK⟩
theorem sI(h l fm fj aP bD ah)(hl:SlC ai.rp h fm fj l):jv prog 378 [.slice fm l.length fj,I aP,I bD,I ah] h (λv h'=>∃(rv0:Value),v=rv0/\Itr prog rv0 rR (eV l aP bD ah) h'):=by
 refine sVv func378 ntmps378 ?_
 generalize hz:(eV l aP bD ah)=z
 exact W
theorem sn(l:List ai)(aP bD ah):(eV l aP bD ah).length<=l.length:=by
 show(cM.L1 aP bD ah cM.K1 l).length<=l.length
 induction l with
 |nil=>exact xE _
 |cons y l ih=>simp only[cM.L1,Bool.cond_eq_ite];split<;>simp only[xA]<;>omega
theorem lr(h)(x:ai)  : Ret prog 379 [.agg (ai.cells x).toArray] h (.agg (eE.cells (aW x)).toArray):=by
 refine sVv func379 ntmps379 ?_
 generalize hz:(aW x)=z
 exact W
theorem Rc{p:Prop}(h:p:=by
  refine bM (cQ hs1 U (λc2 hs2=>?_) (λc2 hs3=>?_))
  .let z11:Nat×Obj:=(b7,O (ai.cells (mgetD cB (aW y1) (ai.mk 0 0 0 0 0 0 0 false))) 67)
   refine fQ ([z11,z7,z3,z6,z1,z2]) mixed kr jn (λpc _=>?_)
   exact tf 0 U U (rj 4 ty391 U U U) (tf 1 U U (λ_ _ hj=>oA ty67 U (hj.nth (i:=1) U) U) (tf 3 U U (λ_ _ hj=>oA ty67 U (hj.nth (i:=1) U) U) (tn 2 U (jq QR (lr hr1 y1) U (⟨jn,tn 4 U (pq 5 (k:=(aW y1)) (x:=y1) ND oN U (mb.mono (lY.mono ai.aK) hlr1) U U ⟨_,U,U⟩ (λmo2 hm1=>⟨jn,dO kr (fP (dE (L':=[z3,z6,z1,(b2,mo2),z2]++(markB [])) js (dV (L':=rdH l1 dm1 lp1 (([z1,(b2,mo2),z2])++markB [])) ap (nx1 ((mput cB (aW y1) y1),mo2,hr1) _ _ ⟨hs2,hm1,(hl1.t hlr1)⟩ lf))))⟩))⟩)))))
  exact iL (fP (dE (L':=[z3,z6,z1,(b2,fe),z2]++(markB [])) js (dV (L':=rdH l1 dm1 lp1 (([z1,(b2,fe),z2])++markB [])) ap (nx1 (cB,fe,hr1) _ _ ⟨hs3,(mb.mono (lY.mono ai.aK) hlr1),(hl1.t hlr1)⟩ lf))))):p:=h
theorem Au(h l fm fj aP bD ah)(hl:SlC ai.rp h fm fj l)(hsz:l.length<=2000000):XF prog 329 [.slice fm l.length fj,I aP,I bD,I ah] h ai.rp 67 (aF l aP bD ah):=by
 refine dL Td U ntmps329 U λX hM hX=>?_
 have hs0:=@rfl _ (aF l aP bD ah)
 refine sr (cD zc28 (λb1=>qO 3 U (aM (s7 (λb2=>cD zc391 (λb3=>dD 0 ty391 U U U U U U (qO 8 U (aM (cW call378 (sI _ _ _ _ aP bD ah hl) U (λv1 h1 hle1 hp1=>?_))))))))))
 obtain⟨_,rfl,mo1⟩:=hp1
 refine qO 2 U (ij ?_)
 let z1:Nat×Obj:=(b3,O [.map (some b2)] 391)
 let z2:Nat×Obj:=(b1,O [zSN] 28)
 refine dV (L':=([z1,(b2,.map #[] 0),z2])++markB []) ap ?_
 refine nF (it:=v1) (xs:=(eV l aP bD ah)) (ι:=(List (eE×ai))×Obj×HF) [] (λi=>i.2.2) (λi=>[z1,(b2,i.2.1),z2]) (λs i=>aF l aP bD ah=((aF.L1 (aF.K1 l aP bD ah)) s i.1)/\ki eE.enc (lY ai.rp) i.2.2 i.2.1 i.1/\jL h1 i.2.2) (λ_=>False) (λ_=>False) 0 (λ_ _ _=>False) ([],.map #[] 0,h1) Td U mo1 U pL (λ_ _ _ _ _ hq=>hq) U (show[z1,(b2,.map #[] 0),z2]=_ from U) ⟨hs0,((ki.nil (enc:=eE.enc) (V:=(lY ai.rp)) (h:=h)).mono (lY.mono ai.aK) hle1),lf⟩ ?_ ?_ ?_ ?_ ?_
 .rintro l1 dm1 lp1 y1 rz1 vs1 ⟨cB,fe,hh1⟩ hr1 X hFR1 ⟨hs1,mb,hl1⟩ hl01 hlr1 hv1 hX hXM hlp1 nx1 rt1 ex1 pn1
  obtain rfl:=hv1
  let z6:Nat×Obj:=(dm1,.deferred (some []))
  refine dV (L':=[(l1,.loop lp1),z6,z1,(b2,fe),z2]++(markB [])) ap (bS (cD zc67 (λb6=>ct 0 ty67 U U U U U U (bM (mU 1 U hlp1 (qT 2 U ?_))))))
  let z3:Nat×Obj:=(l1,.loop { lp1 with state:=.busy })
  let z7:Nat×Obj:=(b6,O (ai.cells y1) 67)
  refine fQ ([z7,z3,z6,z1,(b2,fe),z2]) mixed kr jn (λlA _=>?_)
  refine tf 0 U U (rj 3 ty391 U U U) (tf 1 U U (λ_ _ hj=>oA ty67 U (hj.nth (i:=0) U) U) ?_)
  refine nq 2 7 kr U U ?_ ?_ 
  .refine jq QR (lr hr1 y1) U (⟨jn,?_⟩)
   refine nq 3 7 kr U U ?_ ?_ 
   .refine n8 4 (k:=(aW y1)) ND oN U (mb.mono (lY.mono ai.aK) hlr1) (fG zv67) (show(lY ai.rp) _ (.agg (kB [I 0,I 0,I 0,I 0,I 0,I 0,I 0,.bool false])) (ai.mk 0 0 0 0 0 0 0 false)from⟨_,U,U⟩) U U (λv3 hv2=>?_)
    obtain⟨_,rfl,rfl⟩:=hv2
    refine⟨jn,qR 4 3 U (tn 7 U (BT zc67 (λb7=>⟨jn,tn 8 U (vu 0 ty67 U U U U U U (⟨jn,qA [9] U (dO kr (qT 5 U (nH 6 [30,31,32,33,34,35,36] 30 36 (decide ((mgetD cB (aW y1) (ai.mk 0 0 0 0 0 0 0 false)).At<=y1.At)) U (λc1 hk1=>?_) (λe=>?_))))⟩))⟩)))⟩
    .exact qL 6 [1,0] U (hk1 _ U)
    exact Rc
   refine BT zc67 (λb8=>⟨jn,tn 3 U (n8 5 (k:=(aW y1)) ND oN U (mb.mono (lY.mono ai.aK) hlr1) (fG zv67) (show(lY ai.rp) _ (.agg (kB [I 0,I 0,I 0,I 0,I 0,I 0,I 0,.bool false])) (ai.mk 0 0 0 0 0 0 0 false)from⟨_,U,U⟩) U U (λv4 hv3=>?_))⟩)
   obtain⟨_,rfl,rfl⟩:=hv3
   refine⟨jn,qR 4 3 U (tn 8 U (vu 0 ty67 U U U U U U (⟨jn,qA [9] U (dO kr (qT 5 U (nH 6 [30,31,32,33,34,35,36] 30 36 (decide ((mgetD cB (aW y1) (ai.mk 0 0 0 0 0 0 0 false)).At<=y1.At)) U (λc3 hk2=>?_) (λe=>?_))))⟩)))⟩
   .exact qL 6 [1,0] U (hk2 _ U)
   refine bM (cQ hs1 U (λc4 hs4=>?_) (λc4 hs5=>?_))
   .let z12:Nat×Obj:=(b8,O (ai.cells (mgetD cB (aW y1) (ai.mk 0 0 0 0 0 0 0 false))) 67)
    refine fQ ([z12,z7,z3,z6,z1,z2]) mixed kr jn (λOX _=>?_)
    exact tf 0 U U (rj 4 ty391 U U U) (tf 1 U U (λ_ _ hj=>oA ty67 U (hj.nth (i:=1) U) U) (tf 3 U U (λ_ _ hj=>oA ty67 U (hj.nth (i:=1) U) U) (tn 2 U (jq QR (lr hr1 y1) U (⟨jn,tn 4 U (pq 5 (k:=(aW y1)) (x:=y1) ND oN U (mb.mono (lY.mono ai.aK) hlr1) U U ⟨_,U,U⟩ (λmo3 hm2=>⟨jn,dO kr (fP (dE (L':=[z3,z6,z1,(b2,mo3),z2]++(markB [])) js (dV (L':=rdH l1 dm1 lp1 (([z1,(b2,mo3),z2])++markB [])) ap (nx1 ((mput cB (aW y1) y1),mo3,hr1) _ _ ⟨hs4,hm2,(hl1.t hlr1)⟩ lf))))⟩))⟩)))))
   exact iL (fP (dE (L':=[z3,z6,z1,(b2,fe),z2]++(markB [])) js (dV (L':=rdH l1 dm1 lp1 (([z1,(b2,fe),z2])++markB [])) ap (nx1 (cB,fe,hr1) _ _ ⟨hs5,(mb.mono (lY.mono ai.aK) hlr1),(hl1.t hlr1)⟩ lf))))
  refine BT zc67 (λb7=>⟨jn,tn 2 U (jq QR (lr hr1 y1) U (⟨jn,tn 3 U (n8 5 (k:=(aW y1)) ND oN U (mb.mono (lY.mono ai.aK) hlr1) (fG zv67) (show(lY ai.rp) _ (.agg (kB [I 0,I 0,I 0,I 0,I 0,I 0,I 0,.bool false])) (ai.mk 0 0 0 0 0 0 0 false)from⟨_,U,U⟩) U U (λv5 hv3=>?_))⟩))⟩)
  obtain⟨_,rfl,rfl⟩:=hv3
  refine⟨jn,qR 4 3 U (tn 8 U (vu 0 ty67 U U U U U U (⟨jn,qA [9] U (dO kr (qT 5 U (nH 6 [30,31,32,33,34,35,36] 30 36 (decide ((mgetD cB (aW y1) (ai.mk 0 0 0 0 0 0 0 false)).At<=y1.At)) U (λc3 hk2=>?_) (λe=>?_))))⟩)))⟩
  .exact qL 6 [1,0] U (hk2 _ U)
  exact Rc
 .rintro dm1 ⟨cB,fe,hh1⟩ hn1 ⟨hs8,mb,hl1⟩ hln1 hl01
  refine dV (L':=[z1,(b2,fe),z2]++(markB (dm1::[]))) ap (qT 8 U (aM (cW call378 (sI _ _ _ _ aP bD ah (hl.mono ai.aK ((hle1.t hl1).t hln1))) U (λv6 h2 hle2 hp2=>?_))))
  obtain⟨_,rfl,mo5⟩:=hp2
  refine qO 2 U (dV (L':=([z1,(b2,fe),z2])++markB (dm1::[])) ap ?_)
  refine nF (it:=v6) (xs:=(eV l aP bD ah)) (ι:=(List ai)×Option Addr×Nat×LH×HF) (dm1::[]) (λi=>i.2.2.2.2) (λi=>[z1,(b2,fe),(b1,O [.slice i.2.1 i.1.length i.2.2.1] 28)]++(i.2.2.2.1)) (λs i=>aF l aP bD ah=((aF.L2 cB (aF.K2)) s i.1)/\cI ai.rp 67 i.2.2.2.2 i.1 i.2.1 i.2.2.1 i.2.2.2.1/\jL h2 i.2.2.2.2/\i.1.length+s.length<=l.length) (λ_=>False) (λ_=>False) 0 (λ_ _ _=>False) ([],none,0,[],h2) Td U mo5 U pL (λ_ _ _ _ _ hq=>hq) U (show[z1,(b2,fe),z2]=_ from U) ⟨hs8,cI.nil,lf,(by have hc:=sn l aP bD ah;simpa using hc)⟩ ?_ ?_ ?_ ?_ ?_
  .rintro l2 dm2 lp2 y2 rz2 vs2 ⟨pg,Eo,En,rW,hh2⟩ hr2 X hFR2 ⟨hs9,Em,hl2,u2_0⟩ hl02 hlr2 hv2 hX hXM hlp2 nx2 rt2 ex2 pn2
   obtain rfl:=hv2
   simp only[xA]at u2_0
   let z4:Nat×Obj:=(b1,O [.slice Eo pg.length En] 28)
   let z10:Nat×Obj:=(dm2,.deferred (some []))
   refine dV (L':=[(l2,.loop lp2),z10,z1,(b2,fe),z4]++(rW++(markB (dm1::[])))) ap (bS (cD zc67 (λb11=>ct 0 ty67 U U U U U U (kX (L':=[(b11,O (ai.cells y2) 67),(l2,.loop lp2),z10,z1,(b2,fe),z4]++(rW++(markB (dm1::[])))) U (bM (mU 1 U hlp2 (qT 2 U ?_)))))))
   refine Wv [(8,Q b1),(13,Q b11),(57,.bool ((!y2.nA)&&(decide ((mgetD cB (aW y2) (ai.mk 0 0 0 0 0 0 0 false))=y2))))] (λe=>?_) (λhk4=>?_)
   rotate_left
   .refine fQ ([(b11,O (ai.cells y2) 67),(l2,.loop { lp2 with state:=.busy }),z10,z1,(b2,fe),z4]) mixed kr jn (λYi _=>?_)
    refine qB [0] U (tf 1 U U (rj 0 ty4 U U U) (qA [2,3] U ?_))
    refine AF 50 U (λc7=>?_) (λc7=>?_)
    .refine tf 4 U U (rj 3 ty391 U U U) (tf 5 U U (λ_ _ hj=>oA ty67 U (hj.nth (i:=0) U) U) (tf 8 U U (λ_ _ hj=>oA ty67 U (hj.nth (i:=0) U) U) (tn 6 U (jq QR (lr hr2 y2) U (⟨jn,tn 7 U (vx 4 (k:=(aW y2)) ND oN U (mb.mono (lY.mono ai.aK) (((hln1.t hle2).t hl2).t hlr2)) (fG zv67) (show(lY ai.rp) _ (.agg (kB [I 0,I 0,I 0,I 0,I 0,I 0,I 0,.bool false])) (ai.mk 0 0 0 0 0 0 0 false)from⟨_,U,U⟩) U U (λv8 hv6=>?_))⟩)))))
     obtain⟨_,rfl,rfl⟩:=hv6
     exact⟨jn,tf 9 U U (λ_ _ _=>TV (Nc (mgetD cB (aW y2) (ai.mk 0 0 0 0 0 0 0 false)) y2) eqg67 U U) (qA [10] U (dO kr (hk4 _ ⟨U,U,(cb (show(decide ((mgetD cB (aW y2) (ai.mk 0 0 0 0 0 0 0 false))=y2))=((!y2.nA)&&(decide ((mgetD cB (aW y2) (ai.mk 0 0 0 0 0 0 0 false))=y2)))from by rw[c7]<;>rfl)),trivial⟩)))⟩
    exact tk 4 U U (qR 5 6 U (dO kr (hk4 _ ⟨U,U,(cb (show false=((!y2.nA)&&(decide ((mgetD cB (aW y2) (ai.mk 0 0 0 0 0 0 0 false))=y2)))from by rw[c7]<;>rfl)),trivial⟩)))
   refine cQ hs9 U (λc8 hs10=>?_) (λc8 hs11=>?_)
   .refine qK 2 [5] U (eS 0 ty67 U U U (aM (bW (cells:=[I y2.No,I y2.At,I y2.fX,I y2.Doc,I y2.By,I y2.For,I y2.ea,.bool y2.nA]) oT ty67 zc67 U U kr (λb12=>?_))))
    let z8:Nat×Obj:=(b12,O [I y2.No,I y2.At,I y2.fX,I y2.Doc,I y2.By,I y2.For,I y2.ea,.bool y2.nA] 67)
    let z9:Nat×Obj:=(l2,.loop { lp2 with state:=.busy })
    let z14:Nat×Obj:=(b11,O (ai.cells y2) 67)
    refine aM (fd ai.eF ([z8,z14,z9,z10,z1,(b2,fe),z4]) (markB (dm1::[])) (λG=>[z8,z14,z9,z10,z1,(b2,fe),z4]++(markB (dm1::[])++G)) ap (λ_=>ap) oT ty67 zc67 U bytes67 (Em.mono ai.aK hlr2) U U (iM 0 U (cE y2 U U)) lo lo (λob1 oc1 G1 gr1=>uC (BY ([z8,z14,z9,z10,z1,(b2,fe),z4]) G1 (markB (dm1::[]))) (dD 6 ty28 U U U U U U (qO 2 U ?_))))
    let z15:Nat×Obj:=(b1,O [.slice ob1 ((pg++[y2]).length) oc1] 28)
    exact dE (L':=[z9,z10,z1,(b2,fe),z15]++(G1++(markB (dm1::[])))) js (dV (L':=rdH l2 dm2 lp2 (([z1,(b2,fe),z15]++G1)++markB (dm1::[]))) ap (nx2 ((pg++[y2]),ob1,oc1,G1,hr2) _ _ ⟨hs10,gr1,(hl2.t hlr2),(by first|omega|(simp only[vA,xA,jB]at *;omega))⟩ lf))
   exact iL (fP (dE (L':=[(l2,.loop { lp2 with state:=.busy }),z10,z1,(b2,fe),z4]++(rW++(markB (dm1::[])))) js (dV (L':=rdH l2 dm2 lp2 (([z1,(b2,fe),z4]++(rW))++markB (dm1::[]))) ap (nx2 (pg,Eo,En,rW,hr2) _ _ ⟨hs11,(Em.mono ai.aK hlr2),(hl2.t hlr2),(by first|omega|(simp only[vA,xA,jB]at *;omega))⟩ lf))))
  .rintro dm2 ⟨pg,Eo,En,rW,hh2⟩ hn2 ⟨hs12,Em,hl2,u2_0⟩ hln2 hl02
   let z5:Nat×Obj:=(b1,O [.slice Eo pg.length En] 28)
   refine dV (L':=[z1,(b2,fe),z5]++(rW++(markB (dm2::(dm1::[]))))) ap (qK 4 [2] U (dD 2 ty28 U U U U U U (bM ?_)))
   have hs13:aF l aP bD ah=pg:=hs12
   exact dV (L':=([z1,(b2,fe),z5]++(rW))++markB (dm2::(dm1::[]))) ap (Vd (dm2::(dm1::[])) (A:=[z1,(b2,fe),z5]) (G:=rW) (Q:=[]) Td U hX ap (λh1=>cI.flat (λ_ _ _ _ e=>e) (Em.mono ai.aK hln2)) ⟨⟨2,_,_,_,_,U,U,.inr ⟨_,ty28,U⟩⟩,trivial⟩ hs13)
  .exact xf
  .exact xf
  exact xf
 .exact xf
 .exact xf
 exact xf
theorem zx(l:List ai)(aP bD ah):(aF l aP bD ah).length<=l.length:=by
 have h2:∀(g:List (eE×ai))(s acc:List ai),(aF.L2 g aF.K2 s acc).length<=acc.length+s.length:=by
  intro g s
  induction s with
  |nil=>intro acc;exact xE _
  |cons y s ih=>
   intro acc
   simp only[aF.L2,Bool.cond_eq_ite]
   split
   .have:=ih (acc++[y]);simp only[vA,xA,jB]at *;omega
   have:=ih acc;simp only[xA];omega
 have h1:∀(s:List ai)(g:List (eE×ai)),(aF.L1 (aF.K1 l aP bD ah) s g).length<=l.length:=by
  intro s
  induction s with
  |nil=>
   intro g
   have h3:=h2 g (eV l aP bD ah) []
   have h4:=sn l aP bD ah
   show(aF.L2 g aF.K2 (eV l aP bD ah) []).length<=l.length
   simp only[jB]at h3;omega
  |cons y s ih=>intro g;simp only[aF.L1,Bool.cond_eq_ite];split<;>exact ih _
 exact h1 _ _
theorem yL(h)(y:ai)(db begun_q at_ at__q think think_q)(abegun:At h begun_q [I db])(aat_:At h at__q [I at_])(athink:At h think_q [I think]):Ret prog 330 [.agg (ai.cells y).toArray,.pointer (some begun_q),.pointer (some at__q),.pointer (some think_q)] h (.bool (iq y db at_ think)):=by
 refine sVv func330 ntmps330 ?_
 generalize hz:(iq y db at_ think)=z
 exact W
theorem Av(h l fm fj aP db think cL ah)(hl:SlC ai.rp h fm fj l)(hsz:l.length<=2000000):jv prog 255 [.slice fm l.length fj,I aP,I db,I think,I cL,I ah] h (λv h'=>∃(rb0:Option Addr)(rc0:Nat),v=.tuple #[.slice rb0 ((ck l aP db think cL ah).1).length rc0,I ((ck l aP db think cL ah).2)]/\SlC ai.rp h' rb0 rc0 ((ck l aP db think cL ah).1)):=by
 refine sT func255 U ntmps255 U λX hM hX hF=>?_
 have hs0:=@rfl _ (ck l aP db think cL ah)
 have hst:=zx l aP cL ah
 refine sr (iA (λb1=>iA (λb2=>iA (λb3=>qO 7 U (dP call51 (qZ _ _ _ _ hl) U (qO 7 U (cQ hs0 U (λc1 hs1=>?_) (λc1 hs2=>?_))))))))
 .refine qT 6 U ?_
  have hs3:ck l aP db think cL ah=([],(aX l)):=hs1
  exact nretH [zSN,I (aX l)] (hs3▸⟨none,0,U,qH⟩)
 refine qT 5 U (aM (bW (cells:=[I aP]) fa ty3 zc3 U U kr (λb4=>dF 0 U hM (λh1 hle1 hb1=>?_))))
 have sl1:SlC vB h1 (zAD b4) 1 ([aP]):=dC.slB0 (T:=3) (fz:=(0,0)) ((show dC vB h [I aP] ([aP])from⟨[I aP],[],rfl,rfl,rfl,rfl⟩).mono kM hle1) hb1
 refine dP call162 (pT _ 4095 _ _ _ sl1) U (qO 2 U (nH 8 [23,24,25,26,27,28,29,30,31] 23 31 (!(dB 1099511627775 ([db,think,cL,ah]))) U (λc2 hk1=>?_) (λe=>?_)))
 .refine qL 4 [2,1,0] U (aM (bW (cells:=[I db,I think,I cL,I ah]) fa ty3 zc3 U U kr (λb5=>dF 0 U hM (λh2 hle2 hb2=>?_))))
  have sl2:SlC vB h2 (zAD b5) 4 ([db,think,cL,ah]):=dC.slB0 (T:=3) (fz:=(0,0)) ((show dC vB h1 [I db,I think,I cL,I ah] ([db,think,cL,ah])from⟨[I db],[I think,I cL,I ah],rfl,rfl,rfl,⟨[I think],[I cL,I ah],rfl,rfl,rfl,⟨[I cL],[I ah],rfl,rfl,rfl,⟨[I ah],[],rfl,rfl,rfl,rfl⟩⟩⟩⟩).mono kM hle2) hb2
  exact dP call162 (pT _ 1099511627775 _ _ _ sl2) U (qO 2 U (Ha (h:=h1) hle2 hX hle1 (hk1 _ U)))
 refine bM (cQ hs2 U (λc3 hs4=>?_) (λc3 hs5=>?_))
 .refine qT 5 U ?_
  have hs6:ck l aP db think cL ah=([],1):=hs4
  exact nretH [zSN,I 1] (hs6▸⟨none,0,U,qH⟩)
 refine qK 7 [0] U (aM (Vp call329 (Au _ _ _ _ aP cL ah (hl.mono ai.aK hle1) ob) U (λob1 oc1 G1 gr1=>dF 2 U hM (λh3 hle3 hb3=>dF 0 U hM (λh4 hle4 hb4=>dF 0 U hM (λh5 hle5 hb5=>aM (jy U U (aM (ni (v:=.slice ob1 (fR (aF l aP cL ah) (λfh=>iq fh db cL think)).length oc1) ([]) G1 ([]) call328 (tq h5 (aF l aP cL ah) ob1 oc1 G1 (λfh=>iq fh db cL think) (.func (.func 330) #[] #[Q b1,Q b3,Q b2]) (gr1.mono ai.aK ((hle3.t hle4).t hle5)) (λh' fh dN=>jd call330 (yL h' fh db ⟨b1,0,none⟩ cL ⟨b3,0,none⟩ think ⟨b2,0,none⟩  (((fJ hb3).mono (hle4.t hle5)).mono dN) (((fJ hb4).mono hle5).mono dN) ((fJ hb5).mono dN))) ob) ap U (λG2 gr2=>kX (L':=G2) ap (sL ai.aK ([]) G2 ([]) ap hM gr2 (λh6 hle6 sl3=>qO 3 U ?_))))))))))))
 have hs7:ck l aP db think cL ah=((fR (aF l aP cL ah) (λfh=>iq fh db cL think)),0):=hs5
 exact nretH [.slice ob1 ((fR (aF l aP cL ah) (λfh=>iq fh db cL think)).length) oc1,I 0] (hs7▸⟨ob1,oc1,U,sl3⟩)
theorem GV(h l fm fj ep to)(q:cn)(hl:SlC bj.rp h fm fj l):Ret prog 331 [.slice fm l.length fj,I ep,I to,.agg (cn.cells q).toArray] h (I (lm l ep to q)):=by
 refine sVv func331 ntmps331 ?_
 generalize hz:(lm l ep to q)=z
 exact W
theorem vt(h)(seq:List bj)(seq_v)(hseq:Itr prog seq_v wh seq h)(hsz:seq.length<=2000000):jv prog 380 [zSN,seq_v] h (λv h'=>∃(rb0:Option Addr)(rc0:Nat),v=.slice rb0 (cR seq).length rc0/\SlC bj.rp h' rb0 rc0 (cR seq)):=by
 refine sVv func380 ntmps380 ?_
 generalize hz:(cR seq)=z
 have HA:=λ{b1}=>lR (.mF b1 (λl b c=>[.slice b l.length c]) 23 bj.rp 150 .mE) (λs w=>((cR.L1 (cR.K1)) s w.1))
 exact W
instance kC380:Ct 380:=⟨_,call380,@vt⟩
theorem xl(h)(seq:List bj)(seq_v)(hseq:Itr prog seq_v wh seq h)(hsz:seq.length<=2000000):jv prog 332 [seq_v] h (λv h'=>∃(rb0:Option Addr)(rc0:Nat),v=.slice rb0 (dj seq).length rc0/\SlC bj.rp h' rb0 rc0 (dj seq)):=by
 refine sVv func332 ntmps332 ?_
 generalize hz:(dj seq)=z
 exact W
theorem xm(s:List bj):dj s=s:=by
 have:∀(s acc:List bj),cR.L1 cR.K1 s acc=acc++s:=by
  intro s
  induction s with
  |nil=>intro acc;exact(List.append_nil _).symm
  |cons y s ih=>intro acc;simp only[cR.L1,ih,zC,List.cons_append,vD]
 exact(this s []).trans (vD _)
theorem pi(h)(q:cn)(x:bj)  : Ret prog 381 [.agg (cn.cells q).toArray,.agg (bj.cells x).toArray] h (.bool (gC q x)):=by
 refine sVv func381 ntmps381 ?_
 generalize hz:(gC q x)=z
 exact W
theorem uV(h)(q:cn)(x:bj)  : Ret prog 383 [.agg (cn.cells q).toArray,.agg (bj.cells x).toArray] h (.bool (nt q x)):=by
 refine sVv func383 ntmps383 ?_
 generalize hz:(nt q x)=z
 exact W
instance kC383:Ct 383:=⟨_,call383,@uV⟩
theorem nw(h v0 ye yd v0_q)(v1:List (et×bj))(SW v1_q)(v2:(bj->Bool))(v2_v v2_q)(v3:cn)(v3_q)(hv0:SlC bj.rp h ye yd v0)(av0:At h v0_q [.slice ye v0.length yd])(hv1:uY et.enc (lY bj.rp) h SW v1)(av1:At h v1_q [.map (some SW)])(hv2:∀(h':HF)(fh:bj),jL h h'->ra prog v2_v [.agg (bj.cells fh).toArray] h' [] (.bool (v2 fh)))(av2:At h v2_q [v2_v])(av3:At h v3_q (cn.cells v3)):Itr prog (.func (.func 382) #[] (kB [.pointer (some v0_q),.pointer (some v1_q),.pointer (some v2_q),.pointer (some v3_q)])) wh (cV v0 v1 v2 v3) h:=by
 refine sR call382 ?_
 generalize hz:cV v0 v1 v2 v3=z;have hs:=hz.symm
 intro yf ya yb C Sp Pn h1 A dN m1 m2 m3 hC hy
 refine sTY func382 U ntmps382 U λX hXM hX hF=>?_
 have hv:z=[]++z:=rfl
 have HA:=h0 [0,2,3,4,8,9] 10 (λs1 i=>(cV.L1 v1 v2 v3 (cV.K1)) s1)
 exact W
instance kI382:CtI 382:=⟨_,@nw⟩
theorem tU(h)(q:cn)(l fm fj)(hl:SlC bj.rp h fm fj l):jv prog 333 [.agg (cn.cells q).toArray,.slice fm l.length fj] h (λv h'=>∃(rv0:Value),v=rv0/\Itr prog rv0 wh (aR q l) h'):=by
 refine sT func333 U ntmps333 U λX hM hX hF=>?_
 have hs0:=@rfl _ (aR q l)
 refine sr (iA (λb1=>iA (λb2=>qO 4 U (eS 1 ty341 U U U (aM (jy U U (cD zc178 (λb3=>dD 0 ty178 U U U U U U (qO 3 U (aM (s7 (λb4=>cD zc398 (λb5=>dD 0 ty398 U U U U U U (qL 8 [3] U ?_))))))))))))))
 let z1:Nat×Obj:=(b3,O [.func (.func 381) #[.agg (cn.cells q).toArray] #[]] 178)
 let z2:Nat×Obj:=(b2,O [.slice fm l.length fj] 23)
 let z3:Nat×Obj:=(b1,O (cn.cells q) 341)
 let z4:Nat×Obj:=(b5,O [.map (some b4)] 398)
 refine lp2 l (λi w=>[(2,Q b1),(3,Q b2),(5,Q b3),(6,Q b5),(15,.slice fm l.length fj),(16,I (l.length:Int)),(17,I (i:Int))]) (λ_=>h) (λw=>[z4,(b4,w.2),z1,z2,z3]) (λi w=>ki et.enc (lY bj.rp) h w.2 w.1/\w.1.length<=0+i) (λs1 i w=>(aR.L1 q (aR.K1 q l)) s1 w.1) ([],.map #[] 0) hl.1.1 hs0 ⟨(ki.nil (enc:=et.enc) (V:=(lY bj.rp)) (h:=h)),lc⟩ ?_ ?_
 .rintro i1 ⟨eL,Ji⟩ m4 hs1 ⟨Bx,Uy⟩ e
  refine sr (dF 3 U hM (λh1 hle1 hb1=>dF 0 U hM (λh2 hle2 hb2=>dF 1 U hM (λh3 hle3 hb3=>dF 1 U hM (λh4 hle4 hb4=>aM (jy U U (an (gM 0 U hM (λh5 hle5 hb5=>?_)))))))))
  have mc1:uY et.enc (lY bj.rp) h5 b4 eL:=⟨_,hb5,(Bx.mono (lY.mono bj.aK) (((hle1.t hle2).t hle3).t hle4)).mono (lY.mono bj.aK) hle5⟩
  have hs2:aR q l=(cV l eL (gC q) q):=hs1
  exact nretH [.func (.func 382) #[] #[Q b2,Q b5,Q b3,Q b1]] (hs2▸⟨(.func (.func 382) #[] #[Q b2,Q b5,Q b3,Q b1]),U,(nw h5 l fm fj ⟨b2,0,none⟩ eL b4 ⟨b5,0,none⟩ (gC q) (.func (.func 381) #[.agg (cn.cells q).toArray] #[]) ⟨b3,0,none⟩ q ⟨b1,0,none⟩ (hl.mono bj.aK ((((hle1.t hle2).t hle3).t hle4).t hle5)) ((fJ hb1).mono (((hle2.t hle3).t hle4).t hle5)) mc1 ((fJ hb2).mono ((hle3.t hle4).t hle5)) (λh' fh dN=>Oa (fl:=[.agg (cn.cells q).toArray]) (cap:=[]) call381 (pi h' q fh)) ((fJ hb3).mono (hle4.t hle5)) ((fJ hb4).mono hle5))⟩)
 rintro i1 ⟨eL,Ji⟩ y1 rz1 hd1 mN kl oD yD hs3 ⟨Bx,Uy⟩ hx1 ag1 e
 refine sr (tO mN U (qO 8 U (aM (iF bj.cells Tk ty150 hl.1 kl U U U (λq2 A2=>gV ty150 A2 U U (cD zc150 (λb9=>ct 0 ty150 U U U U U U (qL 11 [0,0,0,0] U (aM (ja (cells:=[I y1.From,I y1.To,I y1.ea,I y1.Kind]) (places:=[(0,1),(1,1),(2,1),(3,1)]) Ti zc400 kr kr (cD zc400 (λb10=>ct 0 ty400 U U U U U U (qL 4 [2] U (eS 0 ty400 U U U (aM (n8 3 (k:=(et.mk y1.From y1.To y1.ea y1.Kind)) underlying398 xr U Bx (fG zv150) (show(lY bj.rp) _ (.agg (kB [I 0,I 0,I 0,I 0,I 0,I 0,I 0,I 0,I 0,.bool false])) (bj.mk 0 0 0 0 0 0 0 0 0 false)from⟨_,U,U⟩) U U (λv2 hv2=>?_)))))))))))))))))
 obtain⟨_,rfl,rfl⟩:=hv2
 refine qO 3 U (cD zc150 (λb11=>ct 0 ty150 U U U U U U (qL 5 [5] U (eS 2 ty150 U U U (aM (kj (v:=.bool (gC q y1)) [] (List.nil_sublist _) (Oa (fl:=[.agg (cn.cells q).toArray]) (args:=[.agg (bj.cells y1).toArray]) (cap:=[]) call381 (pi h q y1)) U U (cN (nY 10 [39,40,41,42,43,44,45,46,47,48,49] 39 49 ((!(mhas eL (et.mk y1.From y1.To y1.ea y1.Kind)))||decide ((mgetD eL (et.mk y1.From y1.To y1.ea y1.Kind) (bj.mk 0 0 0 0 0 0 0 0 0 false)).At<=y1.At)) U (λc1 hk1=>?_) (λe=>?_)))))))))
 .refine qO 3 U (nH 6 [42,43,44,45,46,47,48] 42 48 (decide ((mgetD eL (et.mk y1.From y1.To y1.ea y1.Kind) (bj.mk 0 0 0 0 0 0 0 0 0 false)).At<=y1.At)) U (λc2 hk2=>?_) (λe=>?_))
  .exact qL 6 [2,0] U (hk2 _ U)
  exact sP U (hk1 _ U)
 refine bM (cQ hs3 U (λc3 hs4=>?_) (λc3 hs5=>?_))
 .exact qK 2 [3] U (eS 1 ty400 U U U (eS 2 ty150 U U U (aM (pq 4 (k:=(et.mk y1.From y1.To y1.ea y1.Kind)) (x:=y1) underlying398 xr U Bx U U ⟨_,U,U⟩ (λmo1 hm1=>qO 3 U (oi i1 U (qO 2 U (dE (L':=[z4,(b4,mo1),z1,z2,z3]) js (ag1 ((mput eL (et.mk y1.From y1.To y1.ea y1.Kind) y1),mo1) hs4 ⟨hm1,(by have:=rP eL (et.mk y1.From y1.To y1.ea y1.Kind) y1;first|omega|(simp only[jB,xA]at *;omega))⟩)))))))))
 exact iL (qT 2 U (oi i1 U (qO 2 U (dE (L':=[z4,(b4,Ji),z1,z2,z3]) js (ag1 (eL,Ji) hs5 ⟨Bx,lc⟩)))))
theorem sH(q:cn)(l:List bj):(aR q l).length<=l.length:=by
 have h1:∀(v:List (et×bj))(s:List bj),(cV.L1 v (gC q) q cV.K1 s).length<=s.length:=by
  intro v s
  induction s with
  |nil=>exact xE _
  |cons y s ih=>simp only[cV.L1,Bool.cond_eq_ite];split<;>simp only[xA]<;>omega
 have h2:∀(s:List bj)(g:List (et×bj)),(aR.L1 q (aR.K1 q l) s g).length<=l.length:=by
  intro s
  induction s with
  |nil=>intro g;exact h1 g l
  |cons y s ih=>intro g;simp only[aR.L1,Bool.cond_eq_ite];split<;>exact ih _
 exact h2 _ _
theorem ED(h l fm fj ep to bw kind value mf ah)(hl:SlC bj.rp h fm fj l)(hsz:l.length<=2000000):jv prog 256 [.slice fm l.length fj,I ep,I to,I bw,I kind,I value,I mf,I ah] h (λv h'=>∃(rb0:Option Addr)(rc0:Nat),v=.tuple #[.slice rb0 ((aH l ep to bw kind value mf ah).1).length rc0,.bool ((aH l ep to bw kind value mf ah).2.1),I ((aH l ep to bw kind value mf ah).2.2)]/\SlC vB h' rb0 rc0 ((aH l ep to bw kind value mf ah).1)):=by
 refine sT func256 U ntmps256 U λX hM hX hF=>?_
 have hs0:=@rfl _ (aH l ep to bw kind value mf ah)
 have hcv:(dj (aR (cn.mk bw kind value mf ah) l)).length<=2000000:=by rw[xm];exact kK (sH _ _) hsz
 refine qT 13 U (aM (ja (cells:=[I bw,I kind,I value,I mf,I ah]) (places:=[(0,1),(1,1),(2,1),(3,1),(4,1)]) underlying341 zc341 kr kr (cD zc341 (λb1=>ct 0 ty341 U U U U U U (qO 7 U (eS 0 ty341 U U U (dP call331 (GV _ _ _ _ ep to (cn.mk bw kind value mf ah) hl) U (qO 7 U (cQ hs0 U (λc1 hs1=>?_) (λc1 hs2=>?_))))))))))
 .refine qT 7 U ?_
  have hs3:aH l ep to bw kind value mf ah=([],false,(lm l ep to (cn.mk bw kind value mf ah))):=hs1
  exact nretH [zSN,.bool false,I (lm l ep to (cn.mk bw kind value mf ah))] (hs3▸⟨none,0,U,qH⟩)
 refine qT 3 U (eS 0 ty341 U U U (cN (aM (cW call333 (tU _ (cn.mk bw kind value mf ah) _ _ _ hl) U (λv1 h1 hle1 hp1=>?_)))))
 obtain⟨_,rfl,mo1⟩:=hp1
 refine aM (cW call332 (xl h1 (aR (cn.mk bw kind value mf ah) l) v1 mo1 (kK (sH _ _) hsz)) U (λv2 h2 hle2 hp2=>?_))
 obtain⟨rb1,rc1,rfl,sl1⟩:=hp2
 refine qO 4 U (aM (s7 (λb2=>cN (aM (vw 0 (k:=to) (x:=0) Dv (ga nz) U (ki.nil (enc:=(jC .i64)) (V:=Aw) (h:=h2)) U U U (λmo2 hm1=>qO 8 U ?_))))))
 let z1:Nat×Obj:=(b1,O [I bw,I kind,I value,I mf,I ah] 341)
 refine fZ (ι:=Nat×(List (Int×Int))×Obj) (λi=>[(1,I ep),(16,zSN),(20,.slice rb1 ((dj (aR (cn.mk bw kind value mf ah) l)).length) rc1),(21,.map (some b2))]) (λi=>h2) (λi=>[(b2,i.2.2),z1]) (λi=>i.1<=(zD 8).length/\aH l ep to bw kind value mf ah=((aH.K1 l ep bw kind value mf ah) i.2.1)/\ki (jC .i64) Aw h2 i.2.2 i.2.1/\(∀p∈i.2.1,0<=p.2/\p.2<=8)) ?_ (λhx1=>?_)
 .rintro⟨i1,cB,fe⟩ ⟨m4,hs4,mb,u1_0⟩ e
  try dsimp only at m4 mb u1_0
  have hf8:=(B4 (P:=λx:Int=>0<=x/\x<=8) ep u1_0 (show(0:Int)<=0/\(0:Int)<=8 from⟨Int.le_refl _,by omega⟩))
  have hrg:=List.length_range (n:=(mgetD cB ep 0).toNat)
  refine qT 4 U (aM (n8 0 (k:=ep) Dv (ga nz) U mb (fG zv3) (show Aw _ (I 0) 0 from U) U U (λv5 hv3=>?_)))
  obtain rfl:=hv3
  refine qO 12 U (cQ hs4 U (λc3 hs5=>?_) (λc3 hs6=>?_))
  .refine qT 6 U ?_
   have hs7:aH l ep to bw kind value mf ah=([],false,0):=hs5
   exact nretH [zSN,.bool false,I 0] (hs7▸⟨none,0,U,qH⟩)
  refine qT 7 U ?_
  refine fZ (ι:=Nat×List Int×Option Addr×Nat×LH×Int) (λi=>[(16,.slice i.2.2.1 i.2.1.length i.2.2.2.1)]) (λi=>h2) (λi=>[(b2,fe),z1]++(i.2.2.2.2.1)) (λi=>i.1<=(zD (((mgetD cB ep 0)).toNat)).length/\aH l ep to bw kind value mf ah=((aH.K4) i.2.1 i.2.2.2.2.2)/\cI vB 3 h2 i.2.1 i.2.2.1 i.2.2.2.1 i.2.2.2.2.1/\i.2.1.length<=i.1) ?_ (λhx4=>?_)
  .rintro⟨i4,Bt,Jc,Jb,M3,Gb⟩ ⟨Ed,hs8,Fv,Qj⟩ e
   try dsimp only at Ed Fv Qj
   refine qT 7 U (ib kM ([(b2,fe),z1]) M3 ([]) ap hM Fv (λh3 hle3 sl2=>?_))
   have hs9:aH l ep to bw kind value mf ah=(Bt,true,0):=hs8
   exact nretH [.slice Jc Bt.length Jb,.bool true,I 0] (hs9▸⟨Jc,Jb,U,sl2⟩)
  refine i9 (ι:=Nat×List Int×Option Addr×Nat×LH×Int×List Nat) (λi=>[(16,.slice i.2.2.1 i.2.1.length i.2.2.2.1),(20,.slice rb1 ((dj (aR (cn.mk bw kind value mf ah) l)).length) rc1),(21,.map (some b2)),(29,I ((((((mgetD cB ep 0)).toNat)-i.1):Nat):Int)),(31,I i.2.2.2.2.2.1)]) (λi=>h2) (λi=>[(b2,fe),z1]++(i.2.2.2.2.1)) (λi=>(zD (((mgetD cB ep 0)).toNat)).drop i.1=i.2.2.2.2.2.2/\i.1<=(zD (((mgetD cB ep 0)).toNat)).length/\aH l ep to bw kind value mf ah=((aH.L4 l ep bw kind value mf ah cB (aH.K4)) i.2.2.2.2.2.2 i.1 i.2.1 i.2.2.2.2.2.1)/\cI vB 3 h2 i.2.1 i.2.2.1 i.2.2.2.1 i.2.2.2.2.1/\i.2.1.length<=i.1) (λi=>i.2.2.2.2.2.2.length) (0,[],none,0,[],ep,(zD (((mgetD cB ep 0)).toNat))) ⟨U,U,U,(congrArg (jC .i64) (show(mgetD cB ep 0)=((((((mgetD cB ep 0)).toNat)-0):Nat):Int)from(by have hq:=(B4 (P:=λx:Int=>0<=x/\x<=8) ep u1_0 (show(0:Int)<=0/\(0:Int)<=8 from⟨Int.le_refl _,by omega⟩));omega))),U,trivial⟩ sw ⟨U,jH _,hs6,cI.nil,lo⟩ ?_
  rintro⟨i4,Bt,Jc,Jb,M3,Gb,s4⟩ ⟨hd4,Qb,hs10,Fv,Qj⟩ ag1 e
  try dsimp only at hd4 Qb Fv Qj
  rcases s4 with _|⟨y4,rz4⟩
  .have W0:decide (0<((((((mgetD cB ep 0)).toNat)-i4):Nat):Int))=false:=decide_eq_false (by have q_:=of_decide_eq_false (oW hd4);rw[List.length_range]at q_;omega)
   exact dZ (qT 3 U (fO W0 U (qO 3 U (hx4 (i4,Bt,Jc,Jb,M3,Gb) _ ⟨Qb,hs10,Fv,lo⟩ rd))))
  have Uk:decide (0<((((((mgetD cB ep 0)).toNat)-i4):Nat):Int))=true:=decide_eq_true (by have q_:=iy hd4;rw[List.length_range]at q_;omega)
  have LA:i4<(((mgetD cB ep 0)).toNat):=by simpa using iy hd4
  refine qT 4 U (tO Uk U (qL 11 [] U ?_))
  refine lp3 (dj (aR (cn.mk bw kind value mf ah) l)) (λi w=>[(16,.slice w.2.1 w.1.length w.2.2.1),(20,.slice rb1 ((dj (aR (cn.mk bw kind value mf ah) l)).length) rc1),(21,.map (some b2)),(29,I ((((((mgetD cB ep 0)).toNat)-i4):Nat):Int)),(31,I w.2.2.2.2),(110,.slice rb1 ((dj (aR (cn.mk bw kind value mf ah) l)).length) rc1),(111,I (((dj (aR (cn.mk bw kind value mf ah) l)).length:Nat):Int)),(112,I (i:Int))]) (λ_=>h2) (λw=>[(b2,fe),z1]++(w.2.2.2.1)) (λi w=>cI vB 3 h2 w.1 w.2.1 w.2.2.1 w.2.2.2.1/\w.1.length<=i4) (λi w=>cI vB 3 h2 w.1 w.2.1 w.2.2.1 w.2.2.2.1/\w.1.length<=i4+1) (λ_ _ h=>⟨h.1,Nat.le_succ_of_le h.2⟩) (λs6 i w=>(aH.L6 ep cB i4 (λzg6_16 zg6_31=>(aH.L4 l ep bw kind value mf ah cB (aH.K4) rz4 (i4+1) zg6_16 zg6_31))) s6 w.1 w.2.2.2.2) (Bt,Jc,Jb,M3,Gb) sl1.1.1 hs10 ⟨Fv,lo⟩ ?_ ?_
  .rintro i6 ⟨Ee,Qi,Qh,I8,F9⟩ M1 hs12 ⟨Fu,Qg⟩ e
   try dsimp only at Fu Qg
   exact fP (qT 2 U (gE (v':=I ((((((mgetD cB ep 0)).toNat)-(i4+1)):Nat):Int)) U (Nf LA ob) (an (ag1 ((i4+1),Ee,Qi,Qh,I8,F9,rz4) _ (Nat.lt_succ_self _) ⟨ll hd4,iy hd4,hs12,Fu,lo⟩ rd))))
  rintro i6 ⟨Ee,Qi,Qh,I8,F9⟩ y6 rz6 hd6 WY Ul Xs X3 hs13 ⟨Fu,Qg⟩ hx6 ag2 e
  try dsimp only at Fu Qg
  refine sr (tO WY U (qO 8 U (aM (iF bj.cells Tk ty150 sl1.1 Ul U U U (λq4 A4=>gV ty150 A4 U U (cD zc150 (λb6=>ct 0 ty150 U U U U U U (kX (L':=[(b6,O (bj.cells y6) 150),(b2,fe),z1]++(I8)) U (qL 6 [0] U (aM (n8 1 (k:=y6.To) Dv (ga nz) U mb (fG zv3) (show Aw _ (I 0) 0 from U) U U (λv8 hv6=>?_))))))))))))
  obtain rfl:=hv6
  refine qL 13 [0] U (nY 2 [127,128,129] 127 129 (mhas cB y6.To) U (λc5 hk1=>?_) (λe=>?_))
  .exact cN (sP U (hk1 _ U))
  refine cN (nY 5 [130,131,132,133,134,135] 130 135 ((mgetD cB y6.To 0)==((((((mgetD cB ep 0)).toNat)-(i4+1)):Nat):Int)) U (λc6 hk2=>?_) (λe=>?_))
  .exact cN (cN (gE (v':=I ((((((mgetD cB ep 0)).toNat)-(i4+1)):Nat):Int)) U (Nf LA ob) (qO 2 U (hk2 _ U))))
  refine bM (cQ hs13 U (λc7 hs14=>?_) (λc7 hs15=>?_))
  .refine dZ ?_
   let z2:Nat×Obj:=(b6,O (bj.cells y6) 150)
   refine fQ ([z2,(b2,fe),z1]) mixed kr jn (λlA _=>?_)
   exact tm 0 U (qB [1] U (tf 2 U U (rj 0 ty3 U U U) (qB [5] U (tf 6 U U (rj 0 ty3 U U U) (tn 3 U (bW (cells:=[I y6.No]) fa ty3 zc3 U U kr (λb7=>⟨jn,tn 4 U (fd Rp.j4 ([(b7,O [I y6.No] 3),z2,(b2,fe),z1]) ([]) (λG=>[(b7,O [I y6.No] 3),z2,(b2,fe),z1]++G) ap (λ_=>ap) fa ty3 zc3 U bytes3 Fu U U (iM 0 U (cE (y6.No) U U)) lo lo (λob1 oc1 G1 gr1=>⟨jn,qA [7,8] U (dO kr (jZ U (dE (L':=[(b2,fe),z1]++G1) js (hx6 i6 ((Ee++[y6.No]),ob1,oc1,G1,y6.To) hs14 ⟨gr1,lo⟩))))⟩))⟩)))))))
  exact iL (qT 2 U (oi i6 U (qO 2 U (dE (L':=[(b2,fe),z1]++(I8)) js (ag2 (Ee,Qi,Qh,I8,F9) hs15 ⟨Fu,lo⟩)))))
 refine i9 (ι:=Nat×(List (Int×Int))×Obj×List Nat) (λi=>[(1,I ep),(16,zSN),(20,.slice rb1 ((dj (aR (cn.mk bw kind value mf ah) l)).length) rc1),(21,.map (some b2)),(57,I (i.1:Int))]) (λi=>h2) (λi=>[(b2,i.2.2.1),z1]) (λi=>(zD 8).drop i.1=i.2.2.2/\i.1<=(zD 8).length/\aH l ep to bw kind value mf ah=((aH.L1 l bw kind value mf ah (aH.K1 l ep bw kind value mf ah)) i.2.2.2 i.1 i.2.1)/\ki (jC .i64) Aw h2 i.2.2.1 i.2.1/\(∀p∈i.2.1,0<=p.2/\p.2<=8)) (λi=>i.2.2.2.length) (0,(mput ([]) to 0),mo2,(zD 8)) rd sw ⟨U,jH _,hs2,hm1,(λp hp=>by rw[xC.1 hp];exact⟨Int.le_refl _,by omega⟩)⟩ ?_
 rintro⟨i1,cB,fe,s1⟩ ⟨hd1,m4,hs16,mb,u1_0⟩ ag3 e
 try dsimp only at hd1 m4 mb u1_0
 rcases s1 with _|⟨y1,rz1⟩
 .have uQ:decide ((i1:Int)<8)=false:=by simpa using oW hd1
  exact sr (fO uQ U (qO 4 U (hx1 (i1,cB,fe) _ ⟨m4,hs16,mb,u1_0⟩ rd)))
 have mN:decide ((i1:Int)<8)=true:=by simpa using wp hd1
 have oD:i1<8:=by simpa using iy hd1
 have hr8:i1<8:=oD
 refine sr (tO mN U (qL 17 [] U ?_))
 refine lp2 (dj (aR (cn.mk bw kind value mf ah) l)) (λi w=>[(1,I ep),(16,zSN),(20,.slice rb1 ((dj (aR (cn.mk bw kind value mf ah) l)).length) rc1),(21,.map (some b2)),(22,I (i1:Int)),(57,I (i1:Int)),(60,.slice rb1 ((dj (aR (cn.mk bw kind value mf ah) l)).length) rc1),(61,I (((dj (aR (cn.mk bw kind value mf ah) l)).length:Nat):Int)),(62,I (i:Int))]) (λ_=>h2) (λw=>[(b2,w.2),z1]) (λi w=>ki (jC .i64) Aw h2 w.2 w.1/\(∀p∈w.1,0<=p.2/\p.2<=8)) (λs3 i w=>(aH.L3 i1 (λzg3_b2_0=>(aH.L1 l bw kind value mf ah (aH.K1 l ep bw kind value mf ah) rz1 (i1+1) zg3_b2_0))) s3 w.1) (cB,fe) sl1.1.1 hs16 ⟨mb,ob⟩ ?_ ?_
 .rintro i3 ⟨pd,Eh⟩ Qb hs18 ⟨tH,u3_0⟩ e
  try dsimp only at tH u3_0
  exact fP (bS (oi i1 U (qO 2 U (ag3 ((i1+1),pd,Eh,rz1) _ (Nat.lt_succ_self _) ⟨ll hd1,iy hd1,hs18,tH,ob⟩ rd))))
 rintro i3 ⟨pd,Eh⟩ y3 rz3 hd3 Qa Um OY X4 hs19 ⟨tH,u3_0⟩ hx3 ag4 e
 try dsimp only at tH u3_0
 refine sr (tO Qa U (qO 8 U (aM (iF bj.cells Tk ty150 sl1.1 Um U U U (λq6 A6=>gV ty150 A6 U U (cD zc150 (λb9=>ct 0 ty150 U U U U U U (qL 6 [0] U (aM (n8 1 (k:=y3.From) Dv (ga nz) U tH (fG zv3) (show Aw _ (I 0) 0 from U) U U (λv11 hv9=>?_)))))))))))
 obtain rfl:=hv9
 refine qL 11 [0] U (aM (n8 1 (k:=y3.To) Dv (ga nz) U tH (fG zv3) (show Aw _ (I 0) 0 from U) U U (λv12 hv10=>?_)))
 obtain rfl:=hv10
 refine qO 10 U (nY 4 [81,82,83,84,85] 81 85 ((mgetD pd y3.To 0)==(i1:Int)) U (λc8 hk3=>?_) (λe=>?_))
 .exact cN (qO 3 U (hk3 _ U))
 refine cN (nY 3 [86,87,88,89] 86 89 (!(mhas pd y3.From)) U (λc9 hk4=>?_) (λe=>?_))
 .exact cN (qO 2 U (hk4 _ U))
 refine bM (cQ hs19 U (λc10 hs20=>?_) (λc10 hs21=>?_))
 .exact qK 5 [0] U (oi i1 U (aM (pq 1 (k:=y3.From) (x:=(((i1+1):Nat):Int)) Dv (ga nz) U tH U U U (λmo3 hm2=>qO 3 U (oi i3 U (qO 2 U (dE (L':=[(b2,mo3),z1]) js (ag4 ((mput pd y3.From (((i1+1):Nat):Int)),mo3) hs20 ⟨hm2,(by first|assumption|exact Ba (P:=λx:Int=>0<=x/\x<=8) _ ob ob)⟩))))))))
 exact iL (qT 2 U (oi i3 U (qO 2 U (dE (L':=[(b2,Eh),z1]) js (ag4 (pd,Eh) hs21 ⟨tH,(by first|assumption|exact Ba (P:=λx:Int=>0<=x/\x<=8) _ ob ob)⟩)))))
theorem Bp(h l fm fj bY ey nL nK dU ah)(hl:SlC aG.rp h fm fj l)(I1:SlC vB h nL nK ey):Ret prog 318 [.slice fm l.length fj,I bY,.slice nL ey.length nK,I dU,I ah] h (I (dx l bY ey dU ah)):=by
 refine sVv func318 ntmps318 ?_
 generalize hz:(dx l bY ey dU ah)=z
 have HA:=h1 [1,2,3,4,20,21] 22 (λw=>[(12,I w)]) (λs1 i w=>(dx.L1 (dx.K1 bY ey dU ah)) s1 w)
 exact W
theorem yC(h v0 ye yd v0_q)(v1:List (eR×aG))(SW v1_q)(hv0:SlC aG.rp h ye yd v0)(av0:At h v0_q [.slice ye v0.length yd])(hv1:uY eR.enc (lY aG.rp) h SW v1)(av1:At h v1_q [.map (some SW)]):Itr prog (.func (.func 373) #[] (kB [.pointer (some v0_q),.pointer (some v1_q)])) zk (eY v0 v1) h:=by
 refine sR call373 ?_
 generalize hz:eY v0 v1=z;have hs:=hz.symm
 intro yf ya yb C Sp Pn h1 A dN m1 m2 m3 hC hy
 refine sTY func373 U ntmps373 U λX hXM hX hF=>?_
 have hv:z=[]++z:=rfl
 have HA:=h0 [0,2,6,7] 8 (λs1 i=>(eY.L1 v1 (eY.K1)) s1)
 exact W
instance kI373:CtI 373:=⟨_,@yC⟩
end
section
open Go.Proofs Go.Proofs.Tryz Go.RowKit
theorem KJ{out:List Int}{x:Int}:(compStep out x).getLast? = some x:=by
 unfold compStep
 split
 .assumption
 .simp
theorem JM(xs:List Int):∀k,k<=xs.length->Lib.compactUpTo xs.toArray k=compI (xs.take k)/\(0<k->(compI (xs.take k)).getLast? = xs[k-1]?)
 |0,_=>⟨by simp[Lib.compactUpTo,compI],λh=>absurd h (Nat.lt_irrefl _)⟩
 |k+1,hk=>by
  obtain⟨h1,h2⟩:=JM xs k (by omega)
  have hx:xs[k]? = some xs[k]:=List.getElem?_eq_getElem (by omega)
  have ht:xs.take (k+1)=xs.take k++[xs[k]]:=by rw[List.take_add_one,hx];rfl
  have hc:compI (xs.take (k+1))=compStep (compI (xs.take k)) xs[k]:=by unfold compI;rw[ht,List.foldl_append];rfl
  refine⟨?_,λ_=>by rw[hc,KJ,Nat.add_sub_cancel,hx]⟩
  rw[Lib.compactUpTo_succ,h1,hc]
  have hd:xs.toArray[k]! = xs[k]:=by simp[getElem!_pos,show k<xs.length by omega]
  rcases Nat.eq_zero_or_pos k with rfl|hk0
  .simp[Lib.keeps,compI,compStep,hd]
  .have hl:=h2 hk0
   have hd1:xs.toArray[k-1]! = xs[k-1]:=by simp[getElem!_pos,show k-1<xs.length by omega]
   have hx1:xs[k-1]? = some xs[k-1]:=List.getElem?_eq_getElem (by omega)
   unfold compStep
   rw[hl,hx1,hd]
   by_cases he:xs[k-1]=xs[k]
   .have:Lib.keeps xs.toArray k=false:=Lib.keeps_neg hk0 (by rw[hd,hd1,he])
    simp[this,he]
   .have:Lib.keeps xs.toArray k=true:=Lib.keeps_pos (by rw[hd,hd1];exact λe=>he e.symm)
    simp[this,he]
theorem Qv(xs:List Int):Lib.compact xs=compI xs:=by
 have:=(JM xs xs.length (xE _)).1
 rw[List.take_length]at this
 exact this
theorem Pf(xs:List Int):(compI xs).length<=xs.length:=by
 have:∀(l acc:List Int),(l.foldl compStep acc).length<=acc.length+l.length:=by
  intro l
  induction l with
  |nil=>intro acc;exact xE _
  |cons y l ih=>
   grind [compStep,xA]
 have h3:=this xs []
 simpa[compI]using h3
theorem oU(h:HF)(xs:List Int)(b:Option Addr)(c:Nat)(G:LH)(hG:cI vB 3 h xs b c G):
  oX prog 111 [.slice b xs.length c].toArray h G (λr h' G'=>h'=h/\r=.returned (.slice b (slices_Compact_int xs).length c)/\cI vB 3 h (slices_Compact_int xs) b c G'):=by
 intro w hp
 rcases hG with⟨rfl,rfl,rfl,rfl⟩|⟨bk,cl,sp,rfl,hcl,hlen,hcap,hmax,rfl⟩
 .refine(jW (Tryz.slices_Compact_int_empty none 0 w) (λw' hw=>by cases hw.1)).mono ?_
  rintro e w' ⟨rfl,rfl⟩
  exact⟨h,[],St.start hp,rfl,rfl,cI.nil⟩
 .have hb:=hp.own _ (xC.2 rfl)
  simp only at hb
  have hcl':cl=xs.map (jC .i64):=by
   clear hlen hb hp hcap hmax
   induction xs generalizing cl with
   |nil=>exact hcl
   |cons y l ih=>
    obtain⟨cs,r,rfl,_,hr,hl⟩:=hcl
    have:cs=[.int .i64 y]:=hr
    rw[this,ih r hl];rfl
  subst hcl'
  have hH:Sort.Holds (jC .i64) w bk 0 xs.toArray:=by
   refine holds_of_blockI (cur:=(xs.map (jC .i64)++sp).toArray) (e:=3) hb ?_
   simp
  refine(jW (Tryz.slices_Compact_int bk 0 c xs w hH hmax hcap) (λw' hw=>by cases hw.1)).mono ?_
  rw[Qv]
  have dN:=Pf xs
  rintro e w' ⟨rfl,n,rfl⟩
  let ys:List Int:=compI xs++List.replicate (xs.length-(compI xs).length) 0
  have hys:ys.length=xs.length:=by simp[ys];omega
  obtain⟨g1,g2,g3,g4,g5⟩:=grownBy_sortedI (w:=w) (g:=bk) (n:=n) (os:=#[]) ys.toArray
  have hnew:=heap_sortedI (w:=w) (g:=bk) (n:=n) (os:=#[]) ys.toArray hb
  have htake:=take_putCellsI (xs.map (jC .i64)++sp).toArray ys (by rw[hys];simp)
  have hgr:∀W:World,Go.Sort.grow W #[]=W:=λW=>by simp[Go.Sort.grow]
  rw[hgr]at g1 g2 g3 g4 g5 hnew
  refine⟨h,[(bk,.cells (Sort.putCells (jC .i64) 0 ys.toArray (xs.map (jC .i64)++sp).toArray) 3 (0,0))],⟨g1,g2,g3,g4,λk hk hM=>g5 k hk (λe=>hM (by cases e;simp)),λ_ _ e=>e,λ_ _=>rfl,λk o e=>?_,λq hq=>?_,?_,?_,?_⟩,rfl,rfl,?_⟩
  .have hne:k≠bk:=λe'=>by
    have:=hp.free _ (xC.2 rfl)
    simp only at this
    rw[e',this]at e;cases e
   exact(g5 k (ie (hp.imm k o e)) (λe'=>by cases e';exact hne rfl)).trans (hp.imm k o e)
  .rw[xC.1 hq];exact hnew
  .simp
  .intro q hq;rw[xC.1 hq];exact hp.free (bk,zH (xs.map (jC .i64)++sp).toArray 3 (0,0)) (xC.2 rfl)
  .intro q hq;rw[xC.1 hq];exact .inr (by simp)
  .have hcells:∀l:List Int,dC vB h (l.map (jC .i64)) l:=by
    intro l
    induction l with
    |nil=>rfl
    |cons y l ih=>exact⟨[.int .i64 y],l.map (jC .i64),rfl,rfl,rfl,ih⟩
   have hg:cI vB 3 h ys (some ⟨bk,0,none⟩) c [(bk,.cells (Sort.putCells (jC .i64) 0 ys.toArray (xs.map (jC .i64)++sp).toArray) 3 (0,0))]:=by
    refine .inr ⟨bk,ys.map (jC .i64),(Sort.putCells (jC .i64) 0 ys.toArray (xs.map (jC .i64)++sp).toArray).toList.drop ys.length,rfl,hcells _,?_,by rw[hys];exact hcap,by rw[hys];exact hmax,?_⟩
    .rw[←htake,List.take_append_drop]
     simpa[Sort.putCells]using hlen
    .rw[←htake,List.take_append_drop]
   have:=hg.take (compI xs).length
   rwa [show ys.take (compI xs).length=compI xs from by simp[ys]]at this
end
variable {κ:Type}
section
open Go.Proofs Go.Proofs.Tryz
theorem sy.length{κ α : Type}{enc:κ->Value}{V:HF->Value->α->Prop}{h:HF}:∀{es:List MapEntry}{m:List (κ×α)},sy enc V h es m->es.length=m.length
 |[],[],_=>rfl
 |_::_,(_,_)::_,⟨_,_,c⟩=>by simp[sy.length c]
 |[],_::_,x=>x.elim
 |_::_,[],x=>x.elim
theorem C4[Inhabited κ](ks:List κ)(is:List Nat)(hn:is.Nodup)(hlt:∀i∈is,i<ks.length)(hall:∀i,i<ks.length->i∈is):(is.map λi=>(ks[i]?).getD default).Perm ks:=by
 have h1:is.Perm (zD ks.length):=(List.perm_ext_iff_of_nodup hn List.nodup_range).2 (λi=>by rw[List.mem_range];exact⟨hlt i,hall i⟩)
 refine(h1.map _).trans (List.Perm.of_eq ?_)
 apply List.ext_getElem (by simp)
 grind
theorem AX[Inhabited κ](ks:List κ)(is:List Nat)(hn:is.Nodup)(hlt:∀i∈is,i<ks.length):∃rest,((is.map λi=>(ks[i]?).getD default)++rest).Perm ks:=by
 let js:=(zD ks.length).filter λi=>!is.contains i
 have hd:(is++js).Nodup:=by
  rw[YX]
  refine⟨hn,List.nodup_range.filter _,λa ha b hb e=>?_⟩
  subst e
  simp[js]at hb
  exact hb.2 ha
 refine⟨js.map λi=>(ks[i]?).getD default,?_⟩
 rw[←qW]
 grind [js,C4]
theorem ze(h:HF)(m:List (Int×aD))(bk:Nat)(q:Addr)(hm:uY (jC .i64) (lY aD.rp) h bk m)(aq:At h q [.map (some bk)]):
  J7 prog (.func (.func 336) #[] #[.pointer (some q)]) (λk _ vs=>vs=[(jC .i64) k]) (λxs=>xs.Perm (m.map (·.1))) h:=by
 refine⟨336,[.pointer (some q)],rfl,call336,?_⟩
 intro yf ya yb C Sp Pn h1 A dN m1 m2 m3 hC hy
 obtain⟨o,hb,m0,hpm,hnd0,es,clock,rfl,hE,hP,hcl⟩:=hm.mono (lY.mono aD.aK) dN
 have hnod:(es.map (·.born)).Nodup:=hP.imp (λh=>Nat.ne_of_lt h)
 have hkeys:=hE.keys
 have hlen:es.length=(m0.map (·.1)).length:=by rw[hE.length];simp
 let ks:=m0.map (·.1)
 let kf:Nat->Int:=λi=>(ks[i]?).getD default
 let bf:Nat->Nat:=λi=>(es[i]?.map (·.born)).getD 0
 have hkey:∀(i:Nat)(en:MapEntry),es[i]? = some en->en.key=(jC .i64) (kf i):=by
  intro i en hi
  have h2:(es.map (·.key))[i]? = some en.key:=by simp[hi]
  rw[hkeys]at h2
  simp only[Yv]at h2
  simp only[kf,ks,Yv]
  cases hq:m0[i]? with
  |none=>rw[hq]at h2;simp at h2
  |some p=>rw[hq]at h2;simp at h2;simp[←h2]
 refine nI (args:=[.func yf ya yb]) (cap:=[.pointer (some q)]) call336 ?_
 refine mP Tc rfl ntmps336 rfl λX hXM hX=>?_
 refine dZ (bS (fV ty280 (aq.mono dN) rfl (aM (Mq Tb hb rfl (λit=>bM ?_)))))
 refine fZ (ι:=List Nat×LH×HF) (λi=>[]) (λi=>i.2.2) (λi=>[(it,Obj.mapIter (some bk) clock (kB (i.1.map bf)) clock)]++i.2.1) (λi=>(i.1.Nodup/\(∀j∈i.1,j<es.length)/\(∀j,j<es.length->j∈i.1))/\C (i.1.map kf) i.2.2 i.2.1) ?_ (λhx=>?_)
 .rintro⟨js,A1,h2⟩ ⟨⟨hn,hl,ha⟩,hC1⟩ e
  exact AE Tc (λa _ w _=>nJ rfl a w) (λw hw=>hw.sub (List.sublist_append_right _ _)) (.inl ⟨rfl,.inl ⟨_,(C4 ks js hn (λi hi=>by rw[←hlen];exact hl i hi) (λi hi=>ha i (by rw[hlen];exact hi))).trans (hpm.map _),hC1⟩⟩)
 refine i9 (ι:=List Nat×LH×HF) (λi=>[(0,.func yf ya yb),(5,.pointer (some ⟨it,0,none⟩))]) (λi=>i.2.2) (λi=>[(it,Obj.mapIter (some bk) clock (kB (i.1.map bf)) clock)]++i.2.1) (λi=>i.1.Nodup/\(∀j∈i.1,j<es.length)/\C (i.1.map kf) i.2.2 i.2.1/\jL h1 i.2.2) (λi=>es.length-i.1.length) ([],A,h1) ⟨rfl,rfl,trivial⟩ (λw hw=>hw) ⟨Yx,λ_ hj=>(jA hj).elim,hC,qF _⟩ ?_
 rintro⟨js,A1,h2⟩ ⟨hn,hl,hC1,hle2⟩ ag e
 dsimp only at hn hl hC1 hle2
 have hlp:=Bg hnod js hl
 show TT _ _ _ _ _ (upds e [(0,.func yf ya yb),(5,.pointer (some ⟨it,0,none⟩))]) _ _ h2 ([(it,Obj.mapIter (some bk) clock (kB (js.map bf)) clock)]++A1)
 refine dZ (bS (aM (PM 0 rfl (hle2 _ _ hb) (λx hx=>hcl x (by simpa using hx)) (xE _) rfl (λh0=>?_) (λen hen=>?_))))
 .refine oM rfl rfl (bM (dZ (oy rfl (jZ rfl ?_))))
  exact hx (js,A1,h2) _ ⟨⟨hn,hl,hlp.1 h0⟩,hC1⟩ trivial
 .obtain⟨i,hi,hni⟩:=hlp.2 en hen
  have hil:i<es.length:=by
   rcases zK i es.length with h3|h3
   .exact h3
   .simp[List.getElem?_eq_none h3]at hi
  have hmem:en∈es.toArray.toList:=by simpa using xD hi
  have hn':(js++[i]).Nodup:=by
   rw[YX];exact⟨hn,by simp,λa ha b hb' e'=>by simp at hb';subst hb';subst e';exact hni ha⟩
  have hl':∀j∈js++[i],j<es.length:=λj hj=>by
   rcases kF.1 hj with h3|h3
   .exact hl j h3
   .simp at h3;subst h3;exact hil
  obtain⟨rest,hrest⟩:=AX ks (js++[i]) hn' (λj hj=>by rw[←hlen];exact hl' j hj)
  have Ar:js.length+1<=es.length:=by
   have h9:=hrest.length_eq
   rw[vA,List.length_map,vA]at h9
   have h10:ks.length=es.length:=hlen.symm
   simp only[xA,jB]at h9
   omega
  have hrest':(js.map kf++kf i::rest).Perm (m.map (·.1)):=by
   rw[qW,zC]at hrest
   exact List.Perm.trans hrest (hpm.map _)
  obtain⟨ekey,evl,eborn⟩:=en
  have hk':ekey=(jC .i64) (kf i):=hkey i _ hi
  subst hk'
  refine oM rfl rfl (bM ?_)
  refine dZ (rD rfl (iL (nf ?_)))
  refine dZ (bS ?_)
  refine aM (em (ME 0 rfl (hle2 _ _ hb) hmem (by simpa using hnod) rfl) ?_)
  refine oM rfl rfl (iB (bM ?_))
  refine dZ (bS (cN (cN ?_)))
  refine aM (qn [(it,Obj.mapIter (some bk) clock ((kB (js.map bf)).push eborn) clock)] A1 rfl (hy (js.map kf) (kf i) [(jC .i64) (kf i)] h2 A1 ⟨rest,hrest'⟩ hle2 hC1 rfl) rfl rfl (λh3 B hle3 hC3=>?_) (λh3 B hle3 hS3=>?_) (λch h3 B hle3 hP3 e'=>?_))
  .refine qf rfl (bM (oy rfl (iL (fP ?_))))
   have hpush:((kB (js.map bf)).push eborn)=kB ((js++[i]).map bf):=by simp[bf,hi]
   rw[hpush]
   refine ag (js++[i],B,h3) _ (by show es.length-(js++[i]).length<es.length-js.length;rw[vA];simp only[xA,jB];omega) ⟨hn',hl',by simpa using hC3,kA hle2 hle3⟩ ⟨rfl,rfl,trivial⟩
  .refine qf rfl (bM (rD rfl ?_))
   exact mp Tc (λa _ w _=>nJ rfl a w) (λw hw=>hw.sub (List.sublist_append_right _ _)) (.inl ⟨rfl,.inr hS3⟩)
  .exact Tr Tc (λw hw=>hw.sub (List.sublist_append_right _ _)) (.inr ⟨ch,rfl,hP3⟩)
theorem zf(h:HF)(m:List (OSeat×aQ))(bk:Nat)(q:Addr)(hm:uY xV (lY aQ.rp) h bk m)(aq:At h q [.map (some bk)]):
  J7 prog (.func (.func 388) #[] #[.pointer (some q)]) (λk _ vs=>vs=[xV k]) (λxs=>xs.Perm (m.map (·.1))) h:=by
 refine⟨388,[.pointer (some q)],rfl,call388,?_⟩
 intro yf ya yb C Sp Pn h1 A dN m1 m2 m3 hC hy
 obtain⟨o,hb,m0,hpm,hnd0,es,clock,rfl,hE,hP,hcl⟩:=hm.mono (lY.mono aQ.aK) dN
 have hnod:(es.map (·.born)).Nodup:=hP.imp (λh=>Nat.ne_of_lt h)
 have hkeys:=hE.keys
 have hlen:es.length=(m0.map (·.1)).length:=by rw[hE.length];simp
 let ks:=m0.map (·.1)
 let kf:Nat->OSeat:=λi=>(ks[i]?).getD default
 let bf:Nat->Nat:=λi=>(es[i]?.map (·.born)).getD 0
 have hkey:∀(i:Nat)(en:MapEntry),es[i]? = some en->en.key=xV (kf i):=by
  intro i en hi
  have h2:(es.map (·.key))[i]? = some en.key:=by simp[hi]
  rw[hkeys]at h2
  simp only[Yv]at h2
  simp only[kf,ks,Yv]
  cases hq:m0[i]? with
  |none=>rw[hq]at h2;simp at h2
  |some p=>rw[hq]at h2;simp at h2;simp[←h2]
 refine nI (args:=[.func yf ya yb]) (cap:=[.pointer (some q)]) call388 ?_
 refine mP Ta rfl ntmps388 rfl λX hXM hX=>?_
 refine dZ (bS (fV ty288 (aq.mono dN) rfl (aM (Mq underlying288 hb rfl (λit=>bM ?_)))))
 refine fZ (ι:=List Nat×LH×HF) (λi=>[]) (λi=>i.2.2) (λi=>[(it,Obj.mapIter (some bk) clock (kB (i.1.map bf)) clock)]++i.2.1) (λi=>(i.1.Nodup/\(∀j∈i.1,j<es.length)/\(∀j,j<es.length->j∈i.1))/\C (i.1.map kf) i.2.2 i.2.1) ?_ (λhx=>?_)
 .rintro⟨js,A1,h2⟩ ⟨⟨hn,hl,ha⟩,hC1⟩ e
  exact AE Ta (λa _ w _=>nJ rfl a w) (λw hw=>hw.sub (List.sublist_append_right _ _)) (.inl ⟨rfl,.inl ⟨_,(C4 ks js hn (λi hi=>by rw[←hlen];exact hl i hi) (λi hi=>ha i (by rw[hlen];exact hi))).trans (hpm.map _),hC1⟩⟩)
 refine i9 (ι:=List Nat×LH×HF) (λi=>[(0,.func yf ya yb),(5,.pointer (some ⟨it,0,none⟩))]) (λi=>i.2.2) (λi=>[(it,Obj.mapIter (some bk) clock (kB (i.1.map bf)) clock)]++i.2.1) (λi=>i.1.Nodup/\(∀j∈i.1,j<es.length)/\C (i.1.map kf) i.2.2 i.2.1/\jL h1 i.2.2) (λi=>es.length-i.1.length) ([],A,h1) ⟨rfl,rfl,trivial⟩ (λw hw=>hw) ⟨Yx,λ_ hj=>(jA hj).elim,hC,qF _⟩ ?_
 rintro⟨js,A1,h2⟩ ⟨hn,hl,hC1,hle2⟩ ag e
 dsimp only at hn hl hC1 hle2
 have hlp:=Bg hnod js hl
 show TT _ _ _ _ _ (upds e [(0,.func yf ya yb),(5,.pointer (some ⟨it,0,none⟩))]) _ _ h2 ([(it,Obj.mapIter (some bk) clock (kB (js.map bf)) clock)]++A1)
 refine dZ (bS (aM (PM 0 rfl (hle2 _ _ hb) (λx hx=>hcl x (by simpa using hx)) (xE _) rfl (λh0=>?_) (λen hen=>?_))))
 .refine oM rfl rfl (bM (dZ (oy rfl (jZ rfl ?_))))
  exact hx (js,A1,h2) _ ⟨⟨hn,hl,hlp.1 h0⟩,hC1⟩ trivial
 .obtain⟨i,hi,hni⟩:=hlp.2 en hen
  have hil:i<es.length:=by
   rcases zK i es.length with h3|h3
   .exact h3
   .simp[List.getElem?_eq_none h3]at hi
  have hmem:en∈es.toArray.toList:=by simpa using xD hi
  have hn':(js++[i]).Nodup:=by
   rw[YX];exact⟨hn,by simp,λa ha b hb' e'=>by simp at hb';subst hb';subst e';exact hni ha⟩
  have hl':∀j∈js++[i],j<es.length:=λj hj=>by
   rcases kF.1 hj with h3|h3
   .exact hl j h3
   .simp at h3;subst h3;exact hil
  obtain⟨rest,hrest⟩:=AX ks (js++[i]) hn' (λj hj=>by rw[←hlen];exact hl' j hj)
  have Ar:js.length+1<=es.length:=by
   have h9:=hrest.length_eq
   rw[vA,List.length_map,vA]at h9
   have h10:ks.length=es.length:=hlen.symm
   simp only[xA,jB]at h9
   omega
  have hrest':(js.map kf++kf i::rest).Perm (m.map (·.1)):=by
   rw[qW,zC]at hrest
   exact List.Perm.trans hrest (hpm.map _)
  obtain⟨ekey,evl,eborn⟩:=en
  have hk':ekey=xV (kf i):=hkey i _ hi
  subst hk'
  refine oM rfl rfl (bM ?_)
  refine dZ (rD rfl (iL (nf ?_)))
  refine dZ (bS ?_)
  refine aM (em (ME 0 rfl (hle2 _ _ hb) hmem (by simpa using hnod) rfl) ?_)
  refine oM rfl rfl (cD zc325 (λb3=>ct 0 ty325 rfl rfl rfl rfl rfl rfl (bM ?_)))
  refine dZ (bS (cN (eS 0 ty325 rfl rfl rfl ?_)))
  refine aM (qn [(b3,zH (xF (kf i)).toArray 325 (0,0)),(it,Obj.mapIter (some bk) clock ((kB (js.map bf)).push eborn) clock)] A1 rfl (hy (js.map kf) (kf i) [xV (kf i)] h2 A1 ⟨rest,hrest'⟩ hle2 hC1 rfl) rfl rfl (λh3 B hle3 hC3=>?_) (λh3 B hle3 hS3=>?_) (λch h3 B hle3 hP3 e'=>?_))
  .refine qf rfl (bM (oy rfl (iL (fP ?_))))
   have hpush:((kB (js.map bf)).push eborn)=kB ((js++[i]).map bf):=by simp[bf,hi]
   rw[hpush]
   refine dE (L':=[(it,Obj.mapIter (some bk) clock (kB ((js++[i]).map bf)) clock)]++B) (.cons _ (List.Sublist.refl _)) ?_
   refine ag (js++[i],B,h3) _ (by show es.length-(js++[i]).length<es.length-js.length;rw[vA];simp only[xA,jB];omega) ⟨hn',hl',by simpa using hC3,kA hle2 hle3⟩ ⟨rfl,rfl,trivial⟩
  .refine qf rfl (bM (rD rfl ?_))
   exact mp Ta (λa _ w _=>nJ rfl a w) (λw hw=>hw.sub (List.sublist_append_right _ _)) (.inl ⟨rfl,.inr hS3⟩)
  .exact Tr Ta (λw hw=>hw.sub (List.sublist_append_right _ _)) (.inr ⟨ch,rfl,hP3⟩)
end
section
open Go.Proofs Go.Proofs.Tryz
abbrev PD{α : Type}(P:Program)(f:FuncId)(args:List Value)(h:HF)(R:Rp α)(E:TypeId)(S:List α->Prop):Prop:=
 oX P f args.toArray h [] (λr h' G=>∃xs bb c,S xs/\r=.returned (.slice bb xs.length c)/\cI R E h' xs bb c G)
section steps
variable {P:Program} {b:Frame} {n:Nat} {ops:Array Oper} {F:List Frame->(Machine->Prop)->Prop} {e:Env} {ds:List Deferred} {X:Cx} {h:HF} {L:LH} {K:Env->HF->LH->Prop}
variable {d:Option Nat} {ty:TypeId} {pos:String} {af:Array Edge} {g:Option (Nat×Bool)}
theorem DO{α : Type}{R:Rp α}{E:TypeId}{S:List α->Prop}{f:FuncId}{ass:Array Operand}{ats:Array TypeId}{vs:List Value}(hc:∀args w,(callFunc f args).run P w=.ok (.enter f args) w)(hs:PD P f vs h R E S)(hvs:ass.toList.map e.ev=vs)(t':∀h' xs bb c G,h.le h'->S xs->cI R E h' xs bb c G->K (pute e d (.slice bb xs.length c)) h' (L++G))(hg:guardB ops e ⟨d,.call ⟨.value (.func f),ass,ats⟩,ty,pos,af,g⟩=true:=by rfl):
  Stp P b n ops F ds X ⟨d,.call ⟨.value (.func f),ass,ats⟩,ty,pos,af,g⟩ e h L K:=by
 unfold Stp
 rw[if_pos hg]
 intro w hw
 have harr:ass.map e.ev=vs.toArray:=Array.ext' (by simp[←hvs])
 have hr:(execOp e.ev ⟨d,.call ⟨.value (.func f),ass,ats⟩,ty,pos,af,g⟩).run P w=.ok (.enter f vs.toArray) w:=by
  simp[execOp,resolve,Env.ev,Deferred.ofValue,invoke,harr,hc]
 rw[hr]
 refine mn (by simp) (j8 (sK.mono (hs w (hw.sub (List.nil_sublist _)).pre) ?_))
 rintro x w' ⟨h',B,hst,xs,bb,c,hS,rfl,hG⟩
 exact⟨h',_,(St.after (A:=[]) (F:=L) hw hst).perm List.perm_append_comm,t' h' xs bb c B hst.le hS hG⟩
end steps
theorem GY(h:HF)(it:Value)(S:List Int->Prop)(hit:J7 prog it (λ(k:Int)(_:HF)(vs:List Value)=>vs=[jC .i64 k]) S h)(hS:∀xs,S xs->xs.length<=1000000000000):PD prog 234 [.slice none 0 0,it] h vB 3 S:=by
 refine dL func234 rfl ntmps234 rfl λX hM hX=>?_
 refine dZ (bS (iA (λb1=>iB (bM (dZ (dZ (bS (cN (bM (nf (?_)))))))))))
 refine KY (it:=it) (S:=S) (ps:=[7])
  (λdone h' L'=>∃gb gc G,L'=[(b1,zH (kB [.slice gb done.length gc]) 31 (0,0))]++G/\cI vB 3 h' done gb gc G)
  (λ_ _ _=>False) (λ_ _ _=>False) rfl hit rfl (λx h' vs hv=>by rw[hv];rfl) ?_ (λ_ _ _ _ _ hf=>hf) (λ_ _ _ _ _ hf=>hf) ⟨none,0,[],rfl,cI.nil⟩ ?_ ?_ (λ_ _ _ _ _ hf=>hf.elim) (λ_ _ _ _ _ hf=>hf.elim)
 .rintro done h1 h2 B hl ⟨gb,gc,G,rfl,hG⟩;exact⟨gb,gc,G,rfl,hG.mono kM hl⟩
 .rintro l1 r1 lp1 done y vs hr L' X' ⟨rest,hrest⟩ dN ⟨gb,gc,G,rfl,hG⟩ hv hlp hX' hXM
  obtain rfl:=hv
  have hlen:=hS _ hrest
  simp only[vA,xA]at hlen
  refine bS (iB (bM ?_))
  refine mU 0 rfl hlp (nf (bS ?_))
  refine pJ 2 ty31 rfl rfl rfl (cN ?_)
  refine aM (bW (cells:=[.int .i64 y]) fa ty3 zc3 rfl rfl (by kernel_rfl) (λb3=>?_))
  refine aM (fd Rp.j4 ([(b3,zH (kB [.int .i64 y]) 3 (0,0)),(l1,.loop { lp1 with state:=.busy }),(r1,.deferred (some [])),(b1,zH (kB [.slice gb done.length gc]) 31 (0,0))]) [] (λG=>[(b3,zH (kB [.int .i64 y]) 3 (0,0)),(l1,.loop { lp1 with state:=.busy }),(r1,.deferred (some [])),(b1,zH (kB [.slice gb done.length gc]) 31 (0,0))]++G) (G:=G) (show _=[(b3,zH (kB [.int .i64 y]) 3 (0,0)),(l1,.loop { lp1 with state:=.busy }),(r1,.deferred (some [])),(b1,zH (kB [.slice gb done.length gc]) 31 (0,0))]++(G++[])from by rw[List.append_nil];rfl) (λ_=>by first|rfl|simp only[vD]) fa ty3 zc3 rfl bytes3 hG rfl rfl (iM (ys:=[y]) 0 rfl (show dC vB hr [.int .i64 y] [y]from⟨[.int .i64 y],[],rfl,rfl,rfl,rfl⟩)) (by simp only[vA,xA,jB];omega) (by simp only[vA,xA,jB];omega) (λob2 oc2 G2 gr2=>?_))
  refine dD 3 ty31 rfl rfl rfl rfl rfl rfl (bM (fP ?_))
  refine dE (L':=(l1,.loop { lp1 with state:=.busy })::(r1,.deferred (some []))::([(b1,zH (kB [.slice ob2 (done++[y]).length oc2]) 31 (0,0))]++G2)) (.cons _ (List.Sublist.refl _)) ?_
  exact MD rfl ⟨ob2,oc2,G2,rfl,gr2⟩
 .rintro r1 xs h2 L' hxs dN ⟨gb,gc,G,rfl,hG⟩
  refine fP (dZ (bS (pJ 1 ty31 rfl rfl rfl (iB (bM ?_)))))
  refine jw (L':=([(b1,zH (kB [.slice gb xs.length gc]) 31 (0,0))]++G)++markB [r1]) (List.perm_append_singleton _ _).symm ?_
  exact yR [r1] func234 (λa ha w hw=>res1 rfl a ha w) (λw hw=>hw.sub (L':=G) (List.sublist_append_right _ _)) ⟨xs,gb,gc,hxs,rfl,hG⟩
theorem KS(h:HF)(it:Value)(S:List Int->Prop)(hit:J7 prog it (λ(k:Int)(_:HF)(vs:List Value)=>vs=[jC .i64 k]) S h)(hS:∀xs,S xs->xs.length<=1000000000000):PD prog 145 [it] h vB 3 S:=by
 refine dL func145 rfl ntmps145 rfl λX hM hX=>?_
 refine dZ (bS (iB (bM (dZ (bS (cN ?_))))))
 refine aM (DO call234 (GY h it S hit hS) rfl (λh' xs bb c G dN hxs hG=>?_))
 refine iB (bM ?_)
 exact mp func145 (λa ha w hw=>res1 rfl a ha w) (λw hw=>hw.sub (L':=G) (List.sublist_append_right _ _)) ⟨xs,bb,c,hxs,rfl,hG⟩
theorem FH(h:HF)(it:Value)(S:List OSeat->Prop)(hit:J7 prog it (λ(k:OSeat)(_:HF)(vs:List Value)=>vs=[xV k]) S h)(hS:∀xs,S xs->xs.length<=1000000000000):PD prog 403 [.slice none 0 0,it] h ZI 325 S:=by
 refine dL func403 rfl ntmps403 rfl λX hM hX=>?_
 refine dZ (bS (iA (λb1=>iB (bM (dZ (dZ (bS (cN (bM (nf (?_)))))))))))
 refine KY (it:=it) (S:=S) (ps:=[7])
  (λdone h' L'=>∃gb gc G,L'=[(b1,zH (kB [.slice gb done.length gc]) 351 (0,0))]++G/\cI ZI 325 h' done gb gc G)
  (λ_ _ _=>False) (λ_ _ _=>False) rfl hit rfl (λx h' vs hv=>by rw[hv];rfl) ?_ (λ_ _ _ _ _ hf=>hf) (λ_ _ _ _ _ hf=>hf) ⟨none,0,[],rfl,cI.nil⟩ ?_ ?_ (λ_ _ _ _ _ hf=>hf.elim) (λ_ _ _ _ _ hf=>hf.elim)
 .rintro done h1 h2 B hl ⟨gb,gc,G,rfl,hG⟩;exact⟨gb,gc,G,rfl,hG.mono OSeat.aK hl⟩
 .rintro l1 r1 lp1 done y vs hr L' X' ⟨rest,hrest⟩ dN ⟨gb,gc,G,rfl,hG⟩ hv hlp hX' hXM
  obtain rfl:=hv
  have hlen:=hS _ hrest
  simp only[vA,xA]at hlen
  refine bS (cD zc325 (λb2=>ct 0 ty325 rfl rfl rfl rfl rfl rfl (bM ?_)))
  refine mU 1 rfl hlp (nf (bS ?_))
  refine pJ 3 ty351 rfl rfl rfl (eS 0 ty325 rfl rfl rfl ?_)
  refine aM (bW (cells:=[.int .i64 y.bw,.int .i64 y.bY]) Wd ty325 zc325 rfl rfl (by kernel_rfl) (λb3=>?_))
  refine aM (fd OSeat.eF ([(b3,zH (kB [.int .i64 y.bw,.int .i64 y.bY]) 325 (0,0)),(b2,zH (xF y).toArray 325 (0,0)),(l1,.loop { lp1 with state:=.busy }),(r1,.deferred (some [])),(b1,zH (kB [.slice gb done.length gc]) 351 (0,0))]) [] (λG=>[(b3,zH (kB [.int .i64 y.bw,.int .i64 y.bY]) 325 (0,0)),(b2,zH (xF y).toArray 325 (0,0)),(l1,.loop { lp1 with state:=.busy }),(r1,.deferred (some [])),(b1,zH (kB [.slice gb done.length gc]) 351 (0,0))]++G) (G:=G) (show _=[(b3,zH (kB [.int .i64 y.bw,.int .i64 y.bY]) 325 (0,0)),(b2,zH (xF y).toArray 325 (0,0)),(l1,.loop { lp1 with state:=.busy }),(r1,.deferred (some [])),(b1,zH (kB [.slice gb done.length gc]) 351 (0,0))]++(G++[])from by rw[List.append_nil];rfl) (λ_=>by first|rfl|simp only[vD]) Wd ty325 zc325 rfl bytes325 hG rfl rfl (iM (ys:=[y]) 0 rfl (show dC ZI hr [.int .i64 y.bw,.int .i64 y.bY] [y]from⟨[.int .i64 y.bw,.int .i64 y.bY],[],rfl,rfl,rfl,rfl⟩)) (by simp only[vA,xA,jB];omega) (by simp only[vA,xA,jB];omega) (λob2 oc2 G2 gr2=>?_))
  refine dD 4 ty351 rfl rfl rfl rfl rfl rfl (bM (fP ?_))
  refine dE (L':=(l1,.loop { lp1 with state:=.busy })::(r1,.deferred (some []))::([(b1,zH (kB [.slice ob2 (done++[y]).length oc2]) 351 (0,0))]++G2)) (.cons _ (.cons _ (List.Sublist.refl _))) ?_
  exact MD rfl ⟨ob2,oc2,G2,rfl,gr2⟩
 .rintro r1 xs h2 L' hxs dN ⟨gb,gc,G,rfl,hG⟩
  refine fP (dZ (bS (pJ 1 ty351 rfl rfl rfl (iB (bM ?_)))))
  refine jw (L':=([(b1,zH (kB [.slice gb xs.length gc]) 351 (0,0))]++G)++markB [r1]) (List.perm_append_singleton _ _).symm ?_
  exact yR [r1] func403 (λa ha w hw=>res1 rfl a ha w) (λw hw=>hw.sub (L':=G) (List.sublist_append_right _ _)) ⟨xs,gb,gc,hxs,rfl,hG⟩
theorem Kb(h:HF)(it:Value)(S:List OSeat->Prop)(hit:J7 prog it (λ(k:OSeat)(_:HF)(vs:List Value)=>vs=[xV k]) S h)(hS:∀xs,S xs->xs.length<=1000000000000):PD prog 386 [it] h ZI 325 S:=by
 refine dL func386 rfl ntmps386 rfl λX hM hX=>?_
 refine dZ (bS (iB (bM (dZ (bS (cN ?_))))))
 refine aM (DO call403 (FH h it S hit hS) rfl (λh' xs bb c G dN hxs hG=>?_))
 refine iB (bM ?_)
 exact mp func386 (λa ha w hw=>res1 rfl a ha w) (λw hw=>hw.sub (L':=G) (List.sublist_append_right _ _)) ⟨xs,bb,c,hxs,rfl,hG⟩
end
section
open Go.Proofs Go.Proofs.Tryz
theorem Cm(h:HF)(it:Value)(ks:List Int)(hit:J7 prog it (λ(k:Int)(_:HF)(vs:List Value)=>vs=[jC .i64 k]) (λxs=>xs.Perm ks) h)(hk:ks.length<=1000000000000):
  jv prog 263 [it] h (λv h'=>∃(b:Option Addr)(c:Nat),v=.slice b (sortI ks).length c/\SlC vB h' b c (sortI ks)):=by
 refine dL func263 rfl ntmps263 rfl λX hM hX=>?_
 refine dZ (bS (iB (bM (dZ (bS (cN ?_))))))
 refine aM (DO call145 (KS h it _ hit (λxs hx=>by rw[hx.length_eq];exact hk)) rfl (λh' xs bb c G dN hxs hG=>?_))
 refine iB (bM (dZ (bS (cN ?_))))
 refine aM (ni [] G [] QQ (mW h' xs bb c G hG (by rw[hxs.length_eq];exact hk)) (by simp) rfl (λG' hG'=>?_))
 refine bM (dZ (bS (cN (iB (bM ?_)))))
 refine ib kM [] G' [] (by simp) hM hG' (λh2 hle2 sl=>?_)
 refine lD [.slice bb xs.length c] func263 rfl ⟨rfl,trivial⟩ ⟨bb,c,?_,?_⟩
 .rw[←NS hxs,iE];rfl
 .rw[←NS hxs];exact sl
theorem Be(h:HF)(m:List (Int×aD))(Rg:Nat)(hm:uY (jC .i64) (lY aD.rp) h Rg m):jv prog 264 [.map (some Rg)] h (λv h'=>J7 prog v (λ(k:Int)(_:HF)(vs:List Value)=>vs=[(jC .i64) k]) (λxs=>xs.Perm (m.map (·.1))) h'):=by
 refine dL func264 rfl ntmps264 rfl λX hM hX=>?_
 refine dZ (bS (iA (λb1=>iB (bM (dZ (bS ?_))))))
 refine dF 0 rfl hM (λh2 hle2 hb2=>?_)
 refine aM (jy rfl rfl ?_)
 refine iB (bM ?_)
 refine lD [.func (.func 336) #[] #[.pointer (some ⟨b1,0,none⟩)]] func264 rfl ⟨rfl,trivial⟩ ?_
 exact ze h2 m Rg ⟨b1,0,none⟩ (hm.mono (lY.mono aD.aK) hle2) (fJ hb2)
theorem Bf(h:HF)(m:List (OSeat×aQ))(Rg:Nat)(hm:uY xV (lY aQ.rp) h Rg m):jv prog 341 [.map (some Rg)] h (λv h'=>J7 prog v (λ(k:OSeat)(_:HF)(vs:List Value)=>vs=[xV k]) (λxs=>xs.Perm (m.map (·.1))) h'):=by
 refine dL func341 rfl ntmps341 rfl λX hM hX=>?_
 refine dZ (bS (iA (λb1=>iB (bM (dZ (bS ?_))))))
 refine dF 0 rfl hM (λh2 hle2 hb2=>?_)
 refine aM (jy rfl rfl ?_)
 refine iB (bM ?_)
 refine lD [.func (.func 388) #[] #[.pointer (some ⟨b1,0,none⟩)]] func341 rfl ⟨rfl,trivial⟩ ?_
 exact zf h2 m Rg ⟨b1,0,none⟩ (hm.mono (lY.mono aQ.aK) hle2) (fJ hb2)
end
section
open Go.Proofs Go.Proofs.Tryz
set_option maxHeartbeats 2000000
theorem Aq(h l fm fj lx ah)(hl:SlC aG.rp h fm fj l):jv prog 320 [.slice fm l.length fj,I lx,I ah] h (λv h'=>∃(rv0:Value),v=rv0/\Itr prog rv0 zk (dA l lx ah) h'):=by
 refine sVv func320 ntmps320 ?_
 generalize hz:(dA l lx ah)=z
 have HA:=λ{b2}=>lM [1,2,3,7,14,15] 16 (.mM b2 eR.enc (lY aG.rp) .mE) (λs1 i w=>(dA.L1 lx ah (dA.K1 l)) s1 w.1)
 exact W
theorem yM.mono{h h':HF}(hl:h.le h'):∀{vs:List Value}{ws:List iu},yM h vs ws->yM h' vs ws
 |[],[],_=>trivial
 |_::_,_::_,⟨⟨r,e,o⟩,t⟩=>⟨⟨r,e,o.mono hl⟩,yM.mono hl t⟩
 |[],_::_,x=>x.elim
 |_::_,[],x=>x.elim
theorem yM.snoc{h:HF}{v:Value}{w:iu}(hw:∃r,v=.agg (iu.cells w r).toArray/\iu.ok h w r):∀{vs:List Value}{ws:List iu},yM h vs ws->yM h (vs++[v]) (ws++[w])
 |[],[],_=>⟨hw,trivial⟩
 |_::_,_::_,⟨a,t⟩=>⟨a,yM.snoc hw t⟩
 |[],_::_,x=>x.elim
 |_::_,[],x=>x.elim
theorem yM.len{h:HF}:∀{vs:List Value}{ws:List iu},yM h vs ws->vs.length=ws.length
 |[],[],_=>rfl
 |_::_,_::_,⟨_,t⟩=>by simp[yM.len t]
 |[],_::_,x=>x.elim
 |_::_,[],x=>x.elim
theorem nN(h w Xc q1 q2 bm bc om)(m:List (Int×Bool))(cap s r:Nat)(vs:List Value)(q:List iu)(hw:iu.ok h w Xc)(a1:At h q1 [.map (some bm)])(a2:At h q2 [.chan (some bc)])(hm:ki (jC .i64) sJ h om m)(hq:yM h vs q)(hroom:mgetD m w.to false=false->vs.length<cap):
  ny prog (.func (.func 319) #[] #[.pointer (some q1),.pointer (some q2)]) #[.agg (iu.cells w Xc).toArray] h [(bm,om),(bc,.chan cap vs.toArray false s r false)]
   (λx h' B=>x=.returned (.tuple #[])/\h'=h/\∃om' vs' s',ki (jC .i64) sJ h om' (conPut w m q).1/\yM h vs' (conPut w m q).2/\B=[(bm,om'),(bc,.chan cap vs'.toArray false s' r false)]):=by
 refine nI (args:=[.agg (iu.cells w Xc).toArray]) (cap:=[.pointer (some q1),.pointer (some q2)]) call319 (dL func319 U ntmps319 U λX hM hX=>sr (iA (λb1=>qO 3 U (fV ty224 a1 U (qL 2 [0] U (aM (vx 1 (k:=w.to) underlying224 (ga nz) U hm (fG zv4) (show sJ _ (.bool false) false from U) U U (λv hv=>?_))))))))
 obtain rfl:=hv
 cases hc:mgetD m w.to false with
 |true=>
  refine qO 4 U ?_
  have e1:conPut w m q=(m,q):=by simp[conPut,hc]
  refine AE func319 (λa ha w hw=>nJ U a w) (λw hw=>(hw.sub (L':=[(bm,om),(bc,.chan cap vs.toArray false s r false)]) js).lower) ⟨U,hX,om,vs,s,?_,?_,U⟩
  .rw[e1];exact hm
  rw[e1];exact hq
 |false=>
  refine qO 3 U ?_
  have e1:conPut w m q=(mput m w.to true,q++[w]):=by simp[conPut,hc]
  refine sr (fV ty224 a1 U (qL 2 [0] U (aM (pq 1 (k:=w.to) (x:=true) underlying224 (ga nz) U hm U U U (λom' hm'=>qO 2 U (fV ty327 a2 U (eS 0 ty329 U U U (WT 2 U U U (hroom hc) (bM ?_)))))))))
  refine AE func319 (λa ha w hw=>nJ U a w) (λww hww=>(hww.sub (L':=[(bm,om'),(bc,.chan cap (vs++[Value.agg (iu.cells w Xc).toArray]).toArray false (s+1) r false)]) js).lower) ⟨U,hX,om',vs++[.agg (iu.cells w Xc).toArray],s+1,?_,?_,U⟩
  .rw[e1];exact hm'
  rw[e1];exact yM.snoc ⟨Xc,rfl,hw⟩ hq
theorem FR.mono{h h':HF}(hl:h.le h'){m:List (Int×Option Addr×Nat×Nat)}{f:List (Int×List aG)}{G:LH}(x:FR h m f G):FR h' m f G:=FRg.mono aG.aK hl x
theorem Jx(k:Int->Int):∀(l:List Int)(g:Int),dx.L1 k l g=0->(∀x∈l,g<x/\x<=1048576)/\l.Pairwise (·<·)/\∃g',k g'=0
 |[],g,h=>⟨λ_ h=>(jA h).elim,List.Pairwise.nil,g,h⟩
 |y::l,g,h=>by
  simp only[dx.L1,Bool.cond_eq_ite,kD,decide_eq_true_eq]at h
  split at h
  .omega
  next hc=>
  obtain⟨h1,h2,h3⟩:=Jx k l y h
  refine⟨λx hx=>?_,List.pairwise_cons.2 ⟨λx hx=>(h1 x hx).1,h2⟩,h3⟩
  rcases kC.1 hx with rfl|hx
  .omega
  have:=h1 x hx;omega
theorem GU{l:List aG}{bY:Int}{ey:List Int}{a b:Int}(h:dx l bY ey a b=0):ey.Pairwise (·<=·)/\ey.length<=16:=by
 unfold dx at h
 rw[Bool.cond_eq_ite]at h
 split at h
 .next hc=>simp at hc;exact absurd h hc
 obtain⟨_,h2,g',h3⟩:=Jx _ _ _ h
 refine⟨h2.imp (λh=>Int.le_of_lt h),?_⟩
 unfold dx.K1 at h3
 rw[Bool.cond_eq_ite]at h3
 split at h3
 .omega
 next hc=>
 simp only[kD,not_or,decide_eq_true_eq]at hc
 omega
theorem vp(h b)(n c:Nat)(hc:n<=c):Ret prog 322 [.slice b n c] h (.slice b n n):=by
 exact dL func322 U ntmps322 U λX hM hX=>qK 11 [] U (aM (em (WK fa ty3 U U U hc) (an (wQ [.slice b n n] func322 U hX rd U))))
theorem sE(h l fm fj bY ey nL nK dU ah)(hl:SlC aG.rp h fm fj l)(I1:SlC vB h nL nK ey)(hsz:l.length<=2000000):
  jv prog 237 [.slice fm l.length fj,I bY,.slice nL ey.length nK,I dU,I ah] h
   (λv h'=>∃(rb0:Option Addr)(rc0:Nat),v=.tuple #[.slice rb0 ((dc l bY ey dU ah).1.length) rc0,.bool ((dc l bY ey dU ah).2.1),I ((dc l bY ey dU ah).2.2)]/\SlC vB h' rb0 rc0 ((dc l bY ey dU ah).1)):=by
 refine dL QO U ntmps237 U λX hM hX=>sr (iA (λb1=>qL 12 [0] U (dP (v:=I (dx l bY ey dU ah)) call318 (Bp h l fm fj bY ey nL nK dU ah hl I1) U (qO 7 U (ld U (λc1=>?_) (λc1=>?_))))))
 .have e1:dc l bY ey dU ah=([],false,dx l bY ey dU ah):=by unfold dc;rw[c1];rfl
  exact sr (qO 5 U (lD [zSN,.bool false,I (dx l bY ey dU ah)] QO U rd ⟨none,0,by rw[e1];rfl,by rw[e1];exact qH⟩))
 have hex:dx l bY ey dU ah=0:=by simpa using c1
 obtain⟨hps,hpl⟩:=GU hex
 have e1:dc l bY ey dU ah=((conFind l bY ey (dA l dU ah)).1,(conFind l bY ey (dA l dU ah)).2,0):=by unfold dc;rw[c1];rfl
 rw[e1]
 have hstl:=NQ l dU ah
 generalize hst:dA l dU ah=st at hstl
 refine qT 3 U (aM (s7 (λbf=>cD zc326 (λb14=>dD 0 ty326 U U U U U U (qO 3 U (aM (s7 (λbm=>cD zc224 (λb15=>dD 0 ty224 U U U U U U (qL 5 [] U (aM (TI underlying327 bytes329 U ob (by decide) (λbc=>cD zc327 (λb16=>dD 0 ty327 U U U U U U (qO 3 U (aM (jy U U (cD zc330 (λb17=>dD 0 ty330 U U U U U U (bM (gM 0 U hM (λh1 l1 f17=>gM 0 U hM (λh2 l2 f16=>gM 1 U hM (λh3 l3 f15=>gM 2 U hM (λh4 l4 f14=>gM 3 U hM (λh5 l5 f1=>?_))))))))))))))))))))))))))
 have a17:=(fJ f17).mono (l2.t (l3.t (l4.t l5)))
 have a16:=(fJ f16).mono (l3.t (l4.t l5))
 have a15:=(fJ f15).mono (l4.t l5)
 have a14:=(fJ f14).mono l5
 have a1:=fJ f1
 have l05:h.le h5:=kA l1 (l2.t (l3.t (l4.t l5)))
 clear f17 f16 f15 f14 f1 l1 l2 l3 l4 l5
 refine qT 6 U (aM (cW call320 (Aq h5 l fm fj dU ah (hl.mono aG.aK l05)) U (λv1 h6 l6 hp1=>?_)))
 obtain⟨_,rfl,hit⟩:=hp1
 rw[hst]at hit
 refine qO 2 U (ij ?_)
 refine nF (it:=v1) (xs:=st) (ι:=List (Int×List aG)×List (Int×Bool)×List iu×List Value×Nat×Obj×List (Int×Option Addr×Nat×Nat)×Obj×LH×HF) [] (λi=>i.2.2.2.2.2.2.2.2.2)
  (λi=>[(bc,.chan l.length i.2.2.2.1.toArray false i.2.2.2.2.1 0 false),(bm,i.2.2.2.2.2.1),(bf,i.2.2.2.2.2.2.2.1)]++i.2.2.2.2.2.2.2.2.1)
  (λrest i=>(conFill bY rest i.1 i.2.1 i.2.2.1=conFill bY st [] [] []/\(∀x∈rest,x∈st))/\(yM i.2.2.2.2.2.2.2.2.2 i.2.2.2.1 i.2.2.1/\ki (jC .i64) sJ i.2.2.2.2.2.2.2.2.2 i.2.2.2.2.2.1 i.2.1/\ki (jC .i64) V3 i.2.2.2.2.2.2.2.2.2 i.2.2.2.2.2.2.2.1 i.2.2.2.2.2.2.1/\FR i.2.2.2.2.2.2.2.2.2 i.2.2.2.2.2.2.1 i.1 i.2.2.2.2.2.2.2.2.1)/\(yP st i.2.1 i.2.2.1/\RZ st i.1)/\h6.le i.2.2.2.2.2.2.2.2.2/\(∀k,(mgetD i.1 k []).length+rest.length<=l.length))
  (λ_=>False) (λ_=>False) 0 (λ_ _ _=>False) ([],[],[],[],0,.map #[] 0,[],.map #[] 0,[],h6) QO rfl hit rfl yB (λ_ _ _ _ _ hq=>hq) rfl rfl
  ⟨⟨rfl,λ_ hx=>hx⟩,⟨trivial,ki.nil,ki.nil,rfl⟩,⟨⟨λ_ hp=>(jA hp).elim,xE _,λ_ hp=>(jA hp).elim⟩,λ_ _ hx=>(jA hx).elim⟩,qF _,λk=>by simp[mgetD,mget?];exact hstl⟩ ?_ ?_ (λ_ _ _ hF=>hF.elim) (λ_ _ _ hF=>hF.elim) (λ_ _ _ _ hF=>hF.elim)
 .rintro l1 r1 lp1 x rest vs1 ⟨f,m,q,vs,s,om,m3,o3,Gf,hh⟩ h7 X' hFR ⟨⟨hfill,hin⟩,⟨hwy,hmm,hm3,hfr⟩,⟨hgq,hgf⟩,h6h,hlen⟩ h67 hh7 hv hX' hXM hlp nx rt ex pn
  dsimp only at hfill hin hwy hmm hm3 hfr hgq hgf h6h hh7 hlen
  obtain rfl:=hv
  have hxst:x∈st:=hin x (xB ..)
  have hin':∀y∈rest,y∈st:=λy hy=>hin y (qC _ hy)
  have h57:h5.le h7:=kA l6 h67
  replace hwy:=hwy.mono hh7
  replace hmm:=hmm.mono sJ.mono hh7
  replace hm3:=hm3.mono V3.mono hh7
  replace hfr:=hfr.mono hh7
  have h67':h6.le h7:=h67
  clear hh7 h6h
  refine bS (cD zc78 (λb18=>ct 0 ty78 U U U U U U (bM (mU 1 U hlp (qT 2 U (dV (L':=[(b18,.cells (aG.cells x).toArray 78 (0,0)),(l1,.loop { lp1 with state:=.busy }),(r1,.deferred (some [])),(bc,.chan l.length vs.toArray false s 0 false),(bm,om),(bf,o3)]++Gf) (by simp[markB,setNth]) (qK 6 [0] U (ld U (λcO=>?_) (λcO=>?_)))))))))
  .obtain⟨gb,gc,G1,G2,hget,hgrow,hperm,hput⟩:=hfr.get x.dz
   have hlx:=hlen x.dz
   simp only[xA]at hlx
   have hnext:conFill bY rest (mput f x.dz (mgetD f x.dz []++[x])) m q=conFill bY st [] [] []:=by
    rw[←hfill];simp[conFill,cO]
   have hlen':∀k,(mgetD (mput f x.dz (mgetD f x.dz []++[x])) k []).length+rest.length<=l.length:=λk=>by
    rw[Db]
    split
    .simp only[vA,xA,jB];omega
    have:=hlen k;simp only[xA]at this;omega
   have fin:∀(e':Env)(b8:Nat)(o8:Obj)(o3':Obj)(gb':Option Addr)(gc':Nat)(G1':LH),cI aG.rp 78 h7 (mgetD f x.dz []++[x]) gb' gc' G1'->ki (jC .i64) V3 h7 o3' (mput m3 x.dz (gb',(mgetD f x.dz []++[x]).length,gc')) ->
     TT prog (roundFrame l1 237) 111 [.inBlock 2,.inBlock 1] hFR e' [] X' h7 ([(b8,o8),(b18,.cells (aG.cells x).toArray 78 (0,0)),(l1,.loop { lp1 with state:=.busy }),(r1,.deferred (some [])),(bc,.chan l.length vs.toArray false s 0 false),(bm,om),(bf,o3')]++(G2++G1')):=by
    intro e' b8 o8 o3' gb' gc' G1' hG' hm'
    obtain⟨G',hfr',hp'⟩:=hput gb' gc' _ G1' hG'
    exact fP (fP (dE (L':=[(l1,.loop { lp1 with state:=.busy }),(r1,.deferred (some [])),(bc,.chan l.length vs.toArray false s 0 false),(bm,om),(bf,o3')]++(G2++G1')) js (jw (L':=[(l1,.loop { lp1 with state:=.busy }),(r1,.deferred (some [])),(bc,.chan l.length vs.toArray false s 0 false),(bm,om),(bf,o3')]++G') (List.Perm.append_left _ (List.perm_append_comm.trans hp'.symm)) (dV (L':=rdH l1 r1 lp1 (([(bc,.chan l.length vs.toArray false s 0 false),(bm,om),(bf,o3')]++G')++markB [])) (by simp[markB]) (nx (mput f x.dz (mgetD f x.dz []++[x]),m,q,vs,s,om,mput m3 x.dz (gb',(mgetD f x.dz []++[x]).length,gc'),o3',G',h7) _ _ ⟨⟨hnext,hin'⟩,⟨hwy,hmm,hm',hfr'⟩,⟨hgq,hgf.put hxst⟩,h67',hlen'⟩ lf)))))
   have hJ:∀{L:LH},Jst h7 [(b18,.cells (aG.cells x).toArray 78 (0,0))] h7 ((b18,.cells (aG.cells x).toArray 78 (0,0))::L):=Eb js
   have hJ2:∀{L:LH}{p:Nat×Obj},Jst h7 [(b18,.cells (aG.cells x).toArray 78 (0,0))] h7 (p::(b18,.cells (aG.cells x).toArray 78 (0,0))::L):=Eb js
   refine fQ [(b18,.cells (aG.cells x).toArray 78 (0,0))] mixed kr hJ (λhsep _=>?_)
   refine ic 0 hsep hJ U U kr U (rh ty326 (a14.mono h57) U) (ic 1 hsep hJ U U kr U (λ_ _ _=>DZ RD U) (ic 2 hsep hJ U U kr U (rj 0 ty3 U U U) (ic 3 hsep hJ U U kr U (rh ty326 (a14.mono h57) U) (ic 4 hsep hJ U U kr U (λ_ _ _=>DZ RD U) (ic 5 hsep hJ U U kr U (rj 0 ty3 U U U) (ic 7 hsep hJ U U kr U (λ_ _ hj=>oA ty78 U (hj.nth (i:=0) U) U) ?_))))))
   refine nq 6 8 kr U U ?_ ?_
   .refine vx 5 (k:=x.dz) QN (ga nz) U hm3 (fG zv24) (show V3 _ (zSN) (none,0,0)from U) U U (λv hv=>?_)
    rw[hget]at hv
    obtain rfl:=hv
    exact⟨hJ,tn 8 U (bW (cells:=aG.cells x) NF ty78 zc78 U U kr (λb8=>⟨hJ2,tn 9 U (EZ (List.Perm.append_left ([(b8,.cells (aG.cells x).toArray 78 (0,0)),(b18,.cells (aG.cells x).toArray 78 (0,0)),(l1,.loop { lp1 with state:=.busy }),(r1,.deferred (some [])),(bc,.chan l.length vs.toArray false s 0 false),(bm,om),(bf,o3)]:LH) hperm) (fd aG.eF [(b8,.cells (aG.cells x).toArray 78 (0,0)),(b18,.cells (aG.cells x).toArray 78 (0,0)),(l1,.loop { lp1 with state:=.busy }),(r1,.deferred (some [])),(bc,.chan l.length vs.toArray false s 0 false),(bm,om),(bf,o3)] G2 (λG=>[(b8,.cells (aG.cells x).toArray 78 (0,0)),(b18,.cells (aG.cells x).toArray 78 (0,0)),(l1,.loop { lp1 with state:=.busy }),(r1,.deferred (some [])),(bc,.chan l.length vs.toArray false s 0 false),(bm,om),(bf,o3)]++(G2++G)) U (λ_=>U) NF ty78 zc78 U bytes78 hgrow U U (iM 0 U (show dC aG.rp h7 (aG.cells x) [x]from⟨aG.cells x,[],by simp,U,U,U⟩)) lo lo (λgb' gc' G1' hG'=>⟨hJ2,tn 10 U (pq 6 (k:=x.dz) (x:=(gb',(mgetD f x.dz []++[x]).length,gc')) QN (ga nz) U hm3 U U U (λo3' hm'=>⟨hJ2,dO kr (fin _ b8 _ o3' gb' gc' G1' hG' hm')⟩))⟩)))⟩))⟩
   refine bW (cells:=aG.cells x) NF ty78 zc78 U U kr (λb8=>⟨hJ2,tn 6 U (vx 6 (k:=x.dz) QN (ga nz) U hm3 (fG zv24) (show V3 _ (zSN) (none,0,0)from U) U U (λv hv=>?_))⟩)
   rw[hget]at hv
   obtain rfl:=hv
   exact⟨hJ2,tn 9 U (EZ (List.Perm.append_left ([(b8,.cells (aG.cells x).toArray 78 (0,0)),(b18,.cells (aG.cells x).toArray 78 (0,0)),(l1,.loop { lp1 with state:=.busy }),(r1,.deferred (some [])),(bc,.chan l.length vs.toArray false s 0 false),(bm,om),(bf,o3)]:LH) hperm) (fd aG.eF [(b8,.cells (aG.cells x).toArray 78 (0,0)),(b18,.cells (aG.cells x).toArray 78 (0,0)),(l1,.loop { lp1 with state:=.busy }),(r1,.deferred (some [])),(bc,.chan l.length vs.toArray false s 0 false),(bm,om),(bf,o3)] G2 (λG=>[(b8,.cells (aG.cells x).toArray 78 (0,0)),(b18,.cells (aG.cells x).toArray 78 (0,0)),(l1,.loop { lp1 with state:=.busy }),(r1,.deferred (some [])),(bc,.chan l.length vs.toArray false s 0 false),(bm,om),(bf,o3)]++(G2++G)) U (λ_=>U) NF ty78 zc78 U bytes78 hgrow U U (iM 0 U (show dC aG.rp h7 (aG.cells x) [x]from⟨aG.cells x,[],by simp,U,U,U⟩)) lo lo (λgb' gc' G1' hG'=>⟨hJ2,tn 10 U (pq 6 (k:=x.dz) (x:=(gb',(mgetD f x.dz []++[x]).length,gc')) QN (ga nz) U hm3 U U U (λo3' hm'=>⟨hJ2,dO kr (fin _ b8 _ o3' gb' gc' G1' hG' hm')⟩))⟩)))⟩
  refine qK 4 [0] U (fV ty3 (a1.mono h57) U (qO 3 U ?_))
  have hlen':∀k,(mgetD f k []).length+rest.length<=l.length:=λk=>by have:=hlen k;simp only[xA]at this;omega
  refine ld U (λcP=>?_) (λcP=>?_)
  .have hnext:conFill bY rest f (conPut ⟨[x.No],x.jt⟩ m q).1 (conPut ⟨[x.No],x.jt⟩ m q).2=conFill bY st [] [] []:=by
    rw[←hfill];simp only[conFill,cO,cond_false,cP,cond_true]
   have hpty:(iu.mk [x.No] x.jt).to∈st.map (·.jt):=YI hxst
   refine bS (fV ty330 (a17.mono h57) U (qL 2 [0] U (aM (E1 (cells:=[I x.No]) hXM fa ty3 zc3 U U kr (λb65 hb65=>CU 0 U hb65 (λh8 l8 f8=>?_))))))
   have sl8:SlC vB h8 (zAD b65) 1 [x.No]:=dC.slB0 (T:=3) (fz:=(0,0)) (show dC vB h8 [I x.No] [x.No]from⟨[I x.No],[],rfl,rfl,rfl,rfl⟩) f8
   refine qL 2 [0] U (aM (ja (cells:=iu.cells ⟨[x.No],x.jt⟩ ⟨zAD b65,1⟩) (places:=[(0,1),(1,1)]) underlying329 zc329 kr kr ?_))
   refine aM (Mt (vs:=[.agg (iu.cells ⟨[x.No],x.jt⟩ ⟨zAD b65,1⟩).toArray]) [(bm,om),(bc,.chan l.length vs.toArray false s 0 false)] ([(b18,.cells (aG.cells x).toArray 78 (0,0)),(l1,.loop { lp1 with state:=.busy }),(r1,.deferred (some [])),(bf,o3)]++Gf) ?_
    (nN h8 ⟨[x.No],x.jt⟩ ⟨zAD b65,1⟩ ⟨b15,0,none⟩ ⟨b16,0,none⟩ bm bc om m l.length s 0 vs q ⟨sl8⟩ (a15.mono (h57.t l8)) (a16.mono (h57.t l8)) (hmm.mono sJ.mono l8) (hwy.mono l8) (λhno=>by rw[hwy.len];exact BL hgq hmm.nodup hpty hstl hno)) rfl rfl (λB hB=>?_))
   .exact BW [(b18,.cells (aG.cells x).toArray 78 (0,0)),(l1,.loop { lp1 with state:=.busy }),(r1,.deferred (some []))] ((bf,o3)::Gf) (bc,.chan l.length vs.toArray false s 0 false) (bm,om)
   obtain⟨om',vs',s',hm',hw',rfl⟩:=hB
   refine qO 3 U (dE (L':=[(bm,om'),(bc,.chan l.length vs'.toArray false s' 0 false)]++([(l1,.loop { lp1 with state:=.busy }),(r1,.deferred (some [])),(bf,o3)]++Gf)) js ?_)
   refine jw (L':=rdH l1 r1 lp1 (([(bc,.chan l.length vs'.toArray false s' 0 false),(bm,om'),(bf,o3)]++Gf)++markB [])) ?_ ?_
   .rw[show markB []=([]:LH)from rfl,List.append_nil]
    exact(BW [(l1,Obj.loop { lp1 with state:=.busy }),(r1,.deferred (some []))] ((bf,o3)::Gf) (bc,.chan l.length vs'.toArray false s' 0 false) (bm,om')).symm
   exact nx (f,(conPut ⟨[x.No],x.jt⟩ m q).1,(conPut ⟨[x.No],x.jt⟩ m q).2,vs',s',om',m3,o3,Gf,h8) _ _ ⟨⟨hnext,hin'⟩,⟨hw',hm',hm3.mono V3.mono l8,hfr.mono l8⟩,⟨xe hgq hpty (by simp),hgf⟩,kA h67' l8,hlen'⟩ lf
  have hnext:conFill bY rest f m q=conFill bY st [] [] []:=by
   rw[←hfill];simp only[conFill,cO,cond_false,cP]
  exact iL (qT 2 U (dE (L':=[(l1,.loop { lp1 with state:=.busy }),(r1,.deferred (some [])),(bc,.chan l.length vs.toArray false s 0 false),(bm,om),(bf,o3)]++Gf) js (dV (L':=rdH l1 r1 lp1 (([(bc,.chan l.length vs.toArray false s 0 false),(bm,om),(bf,o3)]++Gf)++markB [])) (by simp[markB]) (nx (f,m,q,vs,s,om,m3,o3,Gf,h7) _ _ ⟨⟨hnext,hin'⟩,⟨hwy,hmm,hm3,hfr⟩,⟨hgq,hgf⟩,h67',hlen'⟩ lf))))
 rintro dm ⟨f,m0,q0,vs0,s0,om0,m3,o3,Gf,hh⟩ h7 ⟨⟨hfill,_⟩,⟨hwy,hmm,hm3,hfr⟩,⟨hgq,hgf⟩,h6h,hlen⟩ hh7 h67
 dsimp only at hfill hwy hmm hm3 hfr hgq hgf h6h hh7 hlen
 refine fP (gM 2 U hM (λh8 l8 f8=>HJ [(bc,.chan l.length vs0.toArray false s0 0 false),(bm,om0)] Gf (markB [dm]) U hM (λh9 l9 hG9=>?_)))
 have h89:hh.le h9:=kA hh7 (l8.t l9)
 have hmF:ki (jC .i64) (VSl aG.rp) h9 o3 f:=FRg.frozen aG.aK hm3 hfr h89 hG9
 have hbf:h9 bf=some o3:=l9 _ _ f8
 have h59:h5.le h9:=kA l6 (h67.t (l8.t l9))
 replace a14:=a14.mono h59
 replace a15:=a15.mono h59
 replace a16:=a16.mono h59
 replace a17:=a17.mono h59
 have hpar:=(I1.mono kM l05).mono kM h59
 have hcf:conFind l bY ey st=conLoop ey f (l.length+1) m0 q0:=by
  unfold conFind;rw[←hfill];rfl
 have hwy0:=hwy.mono h89
 have hmm0:=hmm.mono sJ.mono h89
 clear hwy hmm hm3 hfr hG9 l8 f8 h6h hh7 h67 hfill a1
 generalize hCF:conFind l bY ey st=CF at hcf
 refine dZ ?_
 refine fZ (ι:=List Value×Nat×Nat×Obj×HF) (λi=>[]) (λi=>i.2.2.2.2) (λi=>[(bc,.chan l.length i.1.toArray false i.2.1 i.2.2.1 false),(bm,i.2.2.2.1)]++markB [dm]) (λi=>CF=([],false)) ?_ (λhx=>?_)
 .rintro⟨vs,s,r,om,hh⟩ hc e
  exact sr (qO 4 U (rC [dm] [zSN,.bool false,I 0] QO U rd ⟨none,0,by rw[hc];rfl,by rw[hc];exact qH⟩))
 refine i9 (ι:=Nat×List (Int×Bool)×List iu×List Value×Nat×Nat×Obj×HF) (λi=>[(2,.slice nL ey.length nK),(14,Q b14),(16,Q b16),(17,Q b17)]) (λi=>i.2.2.2.2.2.2.2)
  (λi=>[(bc,.chan l.length i.2.2.2.1.toArray false i.2.2.2.2.1 i.2.2.2.2.2.1 false),(bm,i.2.2.2.2.2.2.1)]++markB [dm])
  (λi=>CF=conLoop ey f i.1 i.2.1 i.2.2.1/\i.2.2.1.length+(l.length-i.2.1.length)<i.1/\yM i.2.2.2.2.2.2.2 i.2.2.2.1 i.2.2.1/\ki (jC .i64) sJ i.2.2.2.2.2.2.2 i.2.2.2.2.2.2.1 i.2.1/\yP st i.2.1 i.2.2.1/\h9.le i.2.2.2.2.2.2.2)
  (λi=>i.1) (l.length+1,m0,q0,vs0,s0,0,om0,h9) rd (λw hw=>hw) ⟨hcf,?_,hwy0,hmm0,hgq,qF _⟩ ?_
 .show q0.length+(l.length-m0.length)<l.length+1
  have:=hgq.2.1;have:=Uc hgq hmm0.nodup;omega
 clear hcf hwy0 hmm0 hgq
 rintro⟨n,m,q,vs,s,r,om,hh⟩ ⟨hcf,hn,hwy,hmm,hgq,h9h⟩ ag e
 dsimp only at hcf hn hwy hmm hgq h9h
 obtain⟨n,rfl⟩:∃n',n=n'+1:=⟨n-1,by omega⟩
 refine qT 3 U (fV ty327 (a16.mono h9h) U (aM (em (WJ underlying327 (xB ..) U) ?_)))
 rcases q with _|⟨w,q⟩
 .have hv0:vs=[]:=List.eq_nil_of_length_eq_zero hwy.len
  subst hv0
  exact gE (v':=.bool false) U U (qO 3 U (hx ([],s,r,om,hh) _ hcf trivial))
 rcases vs with _|⟨v,vs⟩
 .exact hwy.elim
 obtain⟨⟨wr,rfl,hok⟩,hwy⟩:=hwy
 refine tO (decide_eq_true (by simp)) U (qO 6 U (fV ty327 (a16.mono h9h) U (WU 0 underlying327 zv329 U U (cD zc329 (λb19=>ct 0 ty329 U U U U U U (qL 7 [0] U (dP (v:=.tuple #[I (slices_BinarySearch_int ey w.to).1,.bool (slices_BinarySearch_int ey w.to).2]) call321 (po hh ey nL nK w.to (hpar.mono kM h9h) hps ob) U (qO 10 U ?_))))))))
 have hgq':yP st m q:=⟨hgq.1,by have:=hgq.2.1;simp only[xA]at this;omega,λw' hw'=>hgq.2.2 w' (qC _ hw')⟩
 have hw8:=hgq.2.2 w (xB ..)
 simp only[xA]at hn
 refine ld U (λcF=>?_) (λcF=>?_)
 .have hc2:CF=(w.path,true):=by
   rw[hcf];simp only[conLoop];rw[show ey.contains w.to=true from cF];rfl
  exact qK 8 [0] U (dE (L':=[(bc,.chan l.length vs.toArray false s (r+1) false),(bm,om)]++markB [dm]) js (rC [dm] [.slice wr.AY w.path.length wr.C5,.bool true,I 0] QO U rd ⟨wr.AY,wr.C5,by rw[hc2];rfl,by rw[hc2];exact hok.path⟩))
 have hc2:CF=(bif(w.path.length:Int)==8 then conLoop ey f n m q else conLoop ey f n (conStep w.path (mgetD f w.to []) m q).1 (conStep w.path (mgetD f w.to []) m q).2):=by
  rw[hcf];simp only[conLoop];rw[show ey.contains w.to=false from cF];rfl
 refine qK 9 [0] U (ld U (λc8=>?_) (λc8=>?_))
 .rw[show((w.path.length:Int)==8)=true from c8]at hc2
  exact jZ U (dE (L':=[(bc,.chan l.length vs.toArray false s (r+1) false),(bm,om)]++markB [dm]) js (ag (n,m,q,vs,s,r+1,om,hh) _ (Nat.lt_succ_self _) ⟨hc2,by show q.length+(l.length-m.length)<n;omega,hwy,hmm,hgq',h9h⟩ rd))
 rw[show((w.path.length:Int)==8)=false from c8]at hc2
 refine qT 3 U (fV ty326 (a14.mono h9h) U (qL 2 [0] U (aM (rg (k:=w.to) QN (ga nz) (h9h _ _ hbf) (hmF.mono (VSl.mono aG.aK) h9h) (fG zv24) (show VSl aG.rp _ (zSN) []from⟨none,0,U,qH⟩) U U (λv hv=>?_)))))
 obtain⟨xb,xc,rfl,slx⟩:=hv
 have hxs:∀y∈mgetD f w.to [],y∈st:=hgf w.to
 generalize mgetD f w.to []=xs at slx hc2 hxs
 refine qL 3 [] U ?_
 have hw7:w.path.length+1<=8:=by simp at c8;omega
 have hsum:=EF (path:=w.path) hstl hw7 hxs hgq' hmm.nodup
 generalize hcs:conStep w.path xs m q=CS at hc2 hsum
 refine fZ (ι:=List Value×Nat×Obj×HF) (λi=>[(2,.slice nL ey.length nK),(14,Q b14),(16,Q b16),(17,Q b17)]) (λi=>i.2.2.2) (λi=>[(b19,.cells (iu.cells w wr).toArray 329 (0,0)),(bc,.chan l.length i.1.toArray false i.2.1 (r+1) false),(bm,i.2.2.1)]++markB [dm])
  (λi=>yM i.2.2.2 i.1 CS.2/\ki (jC .i64) sJ i.2.2.2 i.2.2.1 CS.1/\yP st CS.1 CS.2/\hh.le i.2.2.2) ?_ (λhx2=>?_)
 .rintro⟨vs2,s2,om2,h10⟩ ⟨hw2,hm2,hg2,hle2⟩ e2
  exact fP (dE (L':=[(bc,.chan l.length vs2.toArray false s2 (r+1) false),(bm,om2)]++markB [dm]) js (ag (n,CS.1,CS.2,vs2,s2,r+1,om2,h10) _ (Nat.lt_succ_self _) ⟨hc2,by show CS.2.length+(l.length-CS.1.length)<n;omega,hw2,hm2,hg2,kA h9h hle2⟩ rd))
 refine i9 (ι:=Nat×List (Int×Bool)×List iu×List Value×Nat×Obj×HF×List aG) (λi=>[(2,.slice nL ey.length nK),(14,Q b14),(16,Q b16),(17,Q b17),(19,Q b19),(92,.slice xb xs.length xc),(93,I (xs.length:Int)),(94,I (i.1:Int))]) (λi=>i.2.2.2.2.2.2.1)
  (λi=>[(b19,.cells (iu.cells w wr).toArray 329 (0,0)),(bc,.chan l.length i.2.2.2.1.toArray false i.2.2.2.2.1 (r+1) false),(bm,i.2.2.2.2.2.1)]++markB [dm])
  (λi=>xs.drop i.1=i.2.2.2.2.2.2.2/\conStep w.path i.2.2.2.2.2.2.2 i.2.1 i.2.2.1=CS/\yM i.2.2.2.2.2.2.1 i.2.2.2.1 i.2.2.1/\ki (jC .i64) sJ i.2.2.2.2.2.2.1 i.2.2.2.2.2.1 i.2.1/\yP st i.2.1 i.2.2.1/\hh.le i.2.2.2.2.2.2.1)
  (λi=>i.2.2.2.2.2.2.2.length) (0,m,q,vs,s,om,hh,xs) rd (λw hw=>hw) ⟨rfl,hcs,hwy,hmm,hgq',qF _⟩ ?_
 rintro⟨i1,m2,q2,vs2,s2,om2,h10,rest⟩ ⟨hd1,hcs2,hw2,hm2,hg2,hle2⟩ ag2 e2
 dsimp only at hd1 hcs2 hw2 hm2 hg2 hle2
 rcases rest with _|⟨x,rest⟩
 .have hge:=oW hd1
  refine sr (fO hge U (qO 4 U ?_))
  obtain rfl:(m2,q2)=CS:=hcs2
  exact hx2 (vs2,s2,om2,h10) _ ⟨hw2,hm2,hg2,hle2⟩ rd
 have hlt:=wp hd1
 have hget:=ui hd1
 have hxst:x∈st:=hxs x (eM hd1)
 have hpty:(iu.mk (w.path++[x.No]) x.jt).to∈st.map (·.jt):=YI hxst
 have slx2:=slx.mono aG.aK hle2
 have hokp:=hok.path.mono kM hle2
 have yD:=slx.1.1
 have oD:=iy hd1
 have h910:h9.le h10:=kA h9h hle2
 refine sr (tO hlt U (qO 8 U (aM (iF aG.cells NF ty78 slx2.1 hget U U U (λqx Ax=>gV ty78 Ax U U (cD zc78 (λb23=>ct 0 ty78 U U U U U U (bM ?_))))))))
 refine Vg (ι:=List Value×Nat×Obj×HF) (λi=>[(2,.slice nL ey.length nK),(14,Q b14),(16,Q b16),(17,Q b17),(19,Q b19),(92,.slice xb xs.length xc),(93,I (xs.length:Int)),(94,I (i1:Int))]) (λi=>i.2.2.2) (λi=>[(b19,.cells (iu.cells w wr).toArray 329 (0,0)),(bc,.chan l.length i.1.toArray false i.2.1 (r+1) false),(bm,i.2.2.1)]++markB [dm])
  (λi=>h10.le i.2.2.2/\yM i.2.2.2 i.1 (conPut ⟨w.path++[x.No],x.jt⟩ m2 q2).2/\ki (jC .i64) sJ i.2.2.2 i.2.2.1 (conPut ⟨w.path++[x.No],x.jt⟩ m2 q2).1) ?_ (λfin=>?_)
 .rintro⟨vs3,s3,om3,h11⟩ ⟨l11,hw3,hm3⟩ e3
  dsimp only at l11 hw3 hm3
  exact fP (bS (oi i1 U (qO 2 U (ag2 (i1+1,(conPut ⟨w.path++[x.No],x.jt⟩ m2 q2).1,(conPut ⟨w.path++[x.No],x.jt⟩ m2 q2).2,vs3,s3,om3,h11,rest) _ (Nat.lt_succ_self _) ⟨ll hd1,hcs2,hw3,hm3,xe hg2 hpty (by simpa using hw7),kA hle2 l11⟩ rd))))
 have hKs:∀p∈([(b23,.cells (aG.cells x).toArray 78 (0,0)),(b19,.cells (iu.cells w wr).toArray 329 (0,0))]:LH),p∈([(b23,.cells (aG.cells x).toArray 78 (0,0)),(b19,.cells (iu.cells w wr).toArray 329 (0,0)),(bc,.chan l.length vs2.toArray false s2 (r+1) false),(bm,om2)]++markB [dm]:LH):=λp hp=>by
  rcases kC.1 hp with rfl|hp
  .simp
  rw[xC.1 hp];simp
 have hJ:Jst h10 [(b23,.cells (aG.cells x).toArray 78 (0,0)),(b19,.cells (iu.cells w wr).toArray 329 (0,0))] h10 ([(b23,.cells (aG.cells x).toArray 78 (0,0)),(b19,.cells (iu.cells w wr).toArray 329 (0,0)),(bc,.chan l.length vs2.toArray false s2 (r+1) false),(bm,om2)]++markB [dm]):=⟨qF _,hKs⟩
 refine fQ [(b23,.cells (aG.cells x).toArray 78 (0,0)),(b19,.cells (iu.cells w wr).toArray 329 (0,0))] mixed kr hJ (λhsep _=>?_)
 refine ic 0 hsep hJ U U kr U (rh ty330 (a17.mono h910) U) (ic 1 hsep hJ U U kr U (λ_ _ _=>DZ UJ U) (ic 2 hsep hJ U U kr U (rj 1 ty31 U U U) (ic 4 hsep hJ U U kr U (λ_ _ _=>DZ VS U) (ic 5 hsep hJ U U kr U (rj 0 ty3 U U U) (ic 8 hsep hJ U U kr U (λ_ _ _=>DZ VR U) (ic 9 hsep hJ U U kr U (rj 0 ty3 U U U) ?_))))))
 have hpl8:w.path.length<=wr.C5:=hokp.2
 have hpn:=hokp.1.1
 refine nq 3 6 kr U U ?_ ?_
 .refine jq (v:=.slice wr.AY w.path.length w.path.length) call322 (vp h10 wr.AY w.path.length wr.C5 hpl8) U ⟨hJ,tn 6 U (bW (cells:=[I x.No]) fa ty3 zc3 U U kr (λb6=>⟨⟨qF _,λp hp=>qC _ (hKs p hp)⟩,tn 7 U (Le (R:=vB) (xs:=w.path) (ys:=[x.No]) fa ty3 zc3 U bytes3 (lH hokp.1) U U (iM 0 U (show dC vB h10 [I x.No] [x.No]from⟨[I x.No],[],U,U,U,U⟩)) (by simp) lo lo (λnb nc NG hNG=>⟨⟨qF _,λp hp=>xN NG (qC _ (hKs p hp))⟩,tn 10 U (ja (cells:=iu.cells ⟨w.path++[x.No],x.jt⟩ ⟨nb,nc⟩) (places:=[(0,1),(1,1)]) underlying329 zc329 kr kr ⟨⟨qF _,λp hp=>xN NG (qC _ (hKs p hp))⟩,tn 11 U (BS kM [] NG ((b6,.cells [jC .i64 x.No].toArray 3 (0,0))::[(b23,.cells (aG.cells x).toArray 78 (0,0)),(b19,.cells (iu.cells w wr).toArray 329 (0,0)),(bc,.chan l.length vs2.toArray false s2 (r+1) false),(bm,om2)]++markB [dm]) U hM hNG (λh11 l11 slN=>?_))⟩)⟩))⟩))⟩
  refine Mt (vs:=[.agg (iu.cells ⟨w.path++[x.No],x.jt⟩ ⟨nb,nc⟩).toArray]) [(bm,om2),(bc,.chan l.length vs2.toArray false s2 (r+1) false)] ([(b6,.cells [jC .i64 x.No].toArray 3 (0,0)),(b23,.cells (aG.cells x).toArray 78 (0,0)),(b19,.cells (iu.cells w wr).toArray 329 (0,0))]++markB [dm]) ?_
   (nN h11 ⟨w.path++[x.No],x.jt⟩ ⟨nb,nc⟩ ⟨b15,0,none⟩ ⟨b16,0,none⟩ bm bc om2 m2 l.length s2 (r+1) vs2 q2 ⟨slN⟩ (a15.mono (h910.t l11)) (a16.mono (h910.t l11)) (hm2.mono sJ.mono l11) (hw2.mono l11) (λhno=>by rw[hw2.len];exact BL hg2 hm2.nodup hpty hstl hno)) rfl rfl (λB hB=>?_)
  .exact BW [(b6,.cells [jC .i64 x.No].toArray 3 (0,0)),(b23,.cells (aG.cells x).toArray 78 (0,0)),(b19,.cells (iu.cells w wr).toArray 329 (0,0))] (markB [dm]) (bc,.chan l.length vs2.toArray false s2 (r+1) false) (bm,om2)
  obtain⟨om3,vs3,s3,hm3,hw3,rfl⟩:=hB
  exact⟨⟨l11,λp hp=>by rcases hp with _|⟨_,_|⟨_,h⟩⟩;simp;simp;cases h⟩,NN (K2:=[(b23,.cells (aG.cells x).toArray 78 (0,0)),(b19,.cells (iu.cells w wr).toArray 329 (0,0))]) l11 (λ_ hp=>hp) (dO kr (jw (BW [(b6,.cells [jC .i64 x.No].toArray 3 (0,0)),(b23,.cells (aG.cells x).toArray 78 (0,0)),(b19,.cells (iu.cells w wr).toArray 329 (0,0))] (markB [dm]) (bc,.chan l.length vs3.toArray false s3 (r+1) false) (bm,om3)).symm (dE (L':=[(b19,.cells (iu.cells w wr).toArray 329 (0,0)),(bc,.chan l.length vs3.toArray false s3 (r+1) false),(bm,om3)]++markB [dm]) js (fin (vs3,s3,om3,h11) _ ⟨l11,hw3,hm3⟩ rd))))⟩
 refine bW (cells:=[I x.No]) fa ty3 zc3 U U kr (λb6=>⟨⟨qF _,λp hp=>qC _ (hKs p hp)⟩,tn 3 U (jq (v:=.slice wr.AY w.path.length w.path.length) call322 (vp h10 wr.AY w.path.length wr.C5 hpl8) U ⟨⟨qF _,λp hp=>qC _ (hKs p hp)⟩,tn 7 U (Le (R:=vB) (xs:=w.path) (ys:=[x.No]) fa ty3 zc3 U bytes3 (lH hokp.1) U U (iM 0 U (show dC vB h10 [I x.No] [x.No]from⟨[I x.No],[],U,U,U,U⟩)) (by simp) lo lo (λnb nc NG hNG=>⟨⟨qF _,λp hp=>xN NG (qC _ (hKs p hp))⟩,tn 10 U (ja (cells:=iu.cells ⟨w.path++[x.No],x.jt⟩ ⟨nb,nc⟩) (places:=[(0,1),(1,1)]) underlying329 zc329 kr kr ⟨⟨qF _,λp hp=>xN NG (qC _ (hKs p hp))⟩,tn 11 U (BS kM [] NG ((b6,.cells [jC .i64 x.No].toArray 3 (0,0))::[(b23,.cells (aG.cells x).toArray 78 (0,0)),(b19,.cells (iu.cells w wr).toArray 329 (0,0)),(bc,.chan l.length vs2.toArray false s2 (r+1) false),(bm,om2)]++markB [dm]) U hM hNG (λh11 l11 slN=>?_))⟩)⟩))⟩)⟩)
 refine Mt (vs:=[.agg (iu.cells ⟨w.path++[x.No],x.jt⟩ ⟨nb,nc⟩).toArray]) [(bm,om2),(bc,.chan l.length vs2.toArray false s2 (r+1) false)] ([(b6,.cells [jC .i64 x.No].toArray 3 (0,0)),(b23,.cells (aG.cells x).toArray 78 (0,0)),(b19,.cells (iu.cells w wr).toArray 329 (0,0))]++markB [dm]) ?_
  (nN h11 ⟨w.path++[x.No],x.jt⟩ ⟨nb,nc⟩ ⟨b15,0,none⟩ ⟨b16,0,none⟩ bm bc om2 m2 l.length s2 (r+1) vs2 q2 ⟨slN⟩ (a15.mono (h910.t l11)) (a16.mono (h910.t l11)) (hm2.mono sJ.mono l11) (hw2.mono l11) (λhno=>by rw[hw2.len];exact BL hg2 hm2.nodup hpty hstl hno)) rfl rfl (λB hB=>?_)
 .exact BW [(b6,.cells [jC .i64 x.No].toArray 3 (0,0)),(b23,.cells (aG.cells x).toArray 78 (0,0)),(b19,.cells (iu.cells w wr).toArray 329 (0,0))] (markB [dm]) (bc,.chan l.length vs2.toArray false s2 (r+1) false) (bm,om2)
 obtain⟨om3,vs3,s3,hm3,hw3,rfl⟩:=hB
 exact⟨⟨l11,λp hp=>by rcases hp with _|⟨_,_|⟨_,h⟩⟩;simp;simp;cases h⟩,NN (K2:=[(b23,.cells (aG.cells x).toArray 78 (0,0)),(b19,.cells (iu.cells w wr).toArray 329 (0,0))]) l11 (λ_ hp=>hp) (dO kr (jw (BW [(b6,.cells [jC .i64 x.No].toArray 3 (0,0)),(b23,.cells (aG.cells x).toArray 78 (0,0)),(b19,.cells (iu.cells w wr).toArray 329 (0,0))] (markB [dm]) (bc,.chan l.length vs3.toArray false s3 (r+1) false) (bm,om3)).symm (dE (L':=[(b19,.cells (iu.cells w wr).toArray 329 (0,0)),(bc,.chan l.length vs3.toArray false s3 (r+1) false),(bm,om3)]++markB [dm]) js (fin (vs3,s3,om3,h11) _ ⟨l11,hw3,hm3⟩ rd))))⟩
instance kC237:Ct 237:=⟨_,call237,@sE⟩
theorem sD(h c rB)(bY:Int)(hc:bI.ok h c rB)(hsm:smR c.Register)(hco:iI c)(hpp:0<=bY/\bY<64):Ret prog 257 [.agg (bI.cells c rB).toArray,I bY] h (.bool (jO c bY)):=by
 refine sVv func257 ntmps257 ?_
 generalize hz:(jO c bY)=z
 have hsq:=hsm;unfold smR at hsq
 have q1:=λ{e:Int}(a:e=0)=>(show lP e=.ok ()from by subst a;rfl)
 have hcq:=hco;cases hcq
 have q0:=@Qu
 exact W
theorem Ao(h c rB c_q p je p_q)(hc:bI.ok h c rB)(ac:At h c_q (bI.cells c rB))(hp:ay.ok h p je)(ap_z:At h p_q (ay.cells p je))(hsm:smR c.Register)(hco:iI c)(hpr:p.cZ.length=p.dM.length/\∀y∈p.cZ,0<=y.gf/\y.gf<=1099511627775):Itr prog (.func (.func 254) #[] (kB [.pointer (some c_q),.pointer (some p_q)])) rR (cU c p) h:=by
 refine sR call254 ?_
 intro yf ya yb C Sp Pn h1 A dN m1 m2 m3 hC hy
 refine mP QM U ntmps254 U λX hXM hX=>?_
 have hs0:cU c p=[]++cU c p:=rfl
 have hkd:=hco.kind
 refine qK 5 [] U (nv (j:=9) ty3 (ac.mono dN) U U (qL 1 [] U (nv (j:=1) ty55 (ap_z.mono dN) U U (qL 3 [] U (ld U (λc1=>?_) (λc1=>?_))))))
 .have c1p:=of_decide_eq_true c1
  have hs1:=hs0.trans (congrArg ([]++·) (bt c1))
  refine ij ?_
  have hs2:cU c p=[]:=hs1.trans (List.append_nil _)
  exact xI [] (A:=A) QM U (List.Sublist.refl _) (.inl (hs2▸hC))
 have c1p:=of_decide_eq_false c1
 have hs3:=hs0.trans (congrArg ([]++·) (bf c1))
 refine qT 2 U (fQ ([]) mixed kr jn (λlA _=>qB [0,1] U (tf 2 U U (rH 6 ty28 (ac.mono dN) U U) (qB [3,4] U (tf 5 U U (rH 7 ty3 (ac.mono dN) U U) (qB [6,7] U (tf 8 U U (rH 8 ty3 (ac.mono dN) U U) (qB [9] U (tf 10 U U (rH 3 ty56 (ap_z.mono dN) U U) (qB [11,12] U (tf 13 U U (rH 9 ty3 (ac.mono dN) U U) ?_)))))))))))
 have ho1:0<=(c.aP.Kind:Int)/\(c.aP.Kind:Int)<((p.cZ).length:Int):=ob
 refine sZ 14 lA jn Hu ty65 (hp.cZ.mono fg.aK dN).1 ho1 (eH ho1) U U U U kr (λq1 cs1 A1 ln1 rr1=>?_)
 obtain⟨r1,rfl,ok1⟩:=rr1
 refine qB [15] U (tf 16 U U (rH 2 ty3 A1 U U) (qB [17] U (tf 18 U U (rH 48 ty3 (ac.mono dN) U U) (qB [19] U (tf 20 U U (rH 49 ty3 (ac.mono dN) U U) (tn 21 U (cW call255 (Av _ _ _ _ c.aP.No c.aP.At ((nthI p.cZ c.aP.Kind).gf) c.at_ c.ah (hc.Register.bO.mono ai.aK dN) hsm.2.2.2.2.2.2) U (λv1 h2 hle1 hp1=>?_))))))))
 obtain⟨rb1,rc1,rfl,sl1⟩:=hp1
 refine⟨⟨hle1,λ_ hp=>List.Sublist.subset (List.nil_sublist _) hp⟩,NN (K2:=[]) hle1 (λ_ hp=>hp) (qR 22 5 U (dO kr (qT 3 U (aM (yl CG (kh h2 ((ck c.Register.bO c.aP.No c.aP.At ((nthI p.cZ c.aP.Kind).gf) c.at_ c.ah).2)) (by first|exact qp (BJ hco hpr ob)|exact qp (BI hco (eM hd1))|exact qp (BK hco (eM hd1))) U (qL 7 [] U ?_))))))⟩
 refine lp2 ((ck c.Register.bO c.aP.No c.aP.At ((nthI p.cZ c.aP.Kind).gf) c.at_ c.ah).1) (λi w=>[(0,.func yf ya yb),(1,.pointer (some c_q)),(48,.slice rb1 (((ck c.Register.bO c.aP.No c.aP.At ((nthI p.cZ c.aP.Kind).gf) c.at_ c.ah).1).length) rc1),(49,I ((((ck c.Register.bO c.aP.No c.aP.At ((nthI p.cZ c.aP.Kind).gf) c.at_ c.ah).1).length:Nat):Int)),(50,I (i:Int))]) (λw=>w.2.2) (λw=>w.2.1) (λi w=>C w.1 w.2.2 w.2.1/\jL h2 w.2.2) (λs1 i w=>w.1++(cU.L1 c (cU.K1)) s1) ([],A,h2) sl1.1.1 hs3 ⟨(m1 _ _ _ _ hle1 hC),lf⟩ ?_ ?_
 .rintro i1 ⟨dn1,A1_,hh1⟩ m4 hs4 ⟨hC1_,hl1⟩ e
  refine ij ?_
  have hs5:cU c p=dn1:=hs4.trans (List.append_nil _)
  exact Bo [] (A:=A1_) QM U (List.Sublist.refl _) (.inl (hs5▸hC1_))
 rintro i1 ⟨dn1,A1_,hh1⟩ y1 rz1 hd1 mN kl oD yD hs6 ⟨hC1_,hl1⟩ hx1 ag1 e
 refine sr (tO mN U (qO 8 U (aM (iF ai.cells oT ty67 (sl1.mono ai.aK hl1).1 kl U U U (λq3 A3=>gV ty67 A3 U U (cD zc67 (λb2=>ct 0 ty67 U U U U U U (kX (L':=[(b2,O (ai.cells y1) 67)]++(A1_)) U (qL 5 [] U (fV ty22 (ac.mono ((dN.t hle1).t hl1)) U (qL 5 [0,0] U (nv (j:=48) ty3 (ac.mono ((dN.t hle1).t hl1)) U U (qL 1 [] U (nv (j:=49) ty3 (ac.mono ((dN.t hle1).t hl1)) U U (dP call236 (yt _ _ _ _ y1.ea y1.For c.at_ c.ah (hc.Register.da.mono aQ.aK ((dN.t hle1).t hl1))) U (qO 13 U (aM (yl CG (kh hh1 ((ew c.Register.da y1.ea y1.For c.at_ c.ah).2.2.2)) (by first|exact qp (BJ hco hpr ob)|exact qp (BI hco (eM hd1))|exact qp (BK hco (eM hd1))) U (qL 5 [] U (nv (j:=1) ty23 (ac.mono ((dN.t hle1).t hl1)) U U (qL 8 [0,0,0] U (nv (j:=9) ty3 (ac.mono ((dN.t hle1).t hl1)) U U (qL 2 [] U (nv (j:=10) ty3 (ac.mono ((dN.t hle1).t hl1)) U U (qL 1 [] U (nv (j:=48) ty3 (ac.mono ((dN.t hle1).t hl1)) U U (qL 1 [] U (nv (j:=49) ty3 (ac.mono ((dN.t hle1).t hl1)) U U (aM (cW call256 (ED _ _ _ _ y1.For y1.By y1.ea c.aP.Kind c.aP.Value c.at_ c.ah (hc.Register.eI.mono bj.aK ((dN.t hle1).t hl1)) hsm.2.2.1) U (λv3 h4 hle3 hp3=>?_)))))))))))))))))))))))))))))))
 obtain⟨rb3,rc3,rfl,sl3⟩:=hp3
 refine qO 11 U (aM (yl CG (kh h4 ((aH c.Register.eI y1.For y1.By y1.ea c.aP.Kind c.aP.Value c.at_ c.ah).2.2)) (by first|exact qp (BJ hco hpr ob)|exact qp (BI hco (eM hd1))|exact qp (BK hco (eM hd1))) U (qO 5 U (nY 2 [100,101,102] 100 102 ((aH c.Register.eI y1.For y1.By y1.ea c.aP.Kind c.aP.Value c.at_ c.ah).2.1) U (λc2 hk1=>?_) (λe=>?_)))))
 .exact cN (sP U (hk1 _ U))
 refine cN (nY 6 [103,104,105,106,107,108,109] 103 109 (!(jO c y1.For)) U (λc3 hk2=>?_) (λe=>?_))
 .exact gV ty91 (ac.mono (((dN.t hle1).t hl1).t hle3)) U U (qL 2 [0] U (dP call257 (sD _ _ _ y1.For (hc.mono (((dN.t hle1).t hl1).t hle3)) hsm ob (by first|exact LR hco (eM hd1)|exact Pd hco (eM hd1))) U (qO 2 U (hk2 _ U))))
 refine cN (nY 6 [110,111,112,113,114,115,116] 110 116 (!(jO c y1.By)) U (λc4 hk3=>?_) (λe=>?_))
 .exact gV ty91 (ac.mono (((dN.t hle1).t hl1).t hle3)) U U (qL 2 [0] U (dP call257 (sD _ _ _ y1.By (hc.mono (((dN.t hle1).t hl1).t hle3)) hsm ob (by first|exact LR hco (eM hd1)|exact Pd hco (eM hd1))) U (qO 2 U (hk3 _ U))))
 refine cN (vo 117 U (λc5=>?_) (λc5=>?_))
 .have hs7:=hs6.trans (congrArg (dn1++·) (bt c5))
  refine cN (eS 0 ty67 U U U ?_)
  have hx1:cU c p=dn1++(y1::(cU.L1 c (cU.K1) rz1)):=hs7
  refine aM (qn ([(b2,O (ai.cells y1) 67)]) A1_ ap (hy dn1 y1 _ _ _ _ hx1 ((hle1.t hl1).t hle3) (m1 _ _ _ _ hle3 hC1_) U) U U (λh5 A4 hle4 hC1=>?_) (λh6 A5 hle5 hS1=>?_) (λch1 h7 A6 hle6 hP1 e=>mz (xO [] (A:=A6) QM (List.sublist_append_right _ _) hP1)))
  .have hs8:cU c p=(dn1++[y1])++((cU.L1 c (cU.K1) rz1)):=hx1.trans ap
   exact qf U (qO 6 U (oi i1 U (qO 2 U (dE (L':=A4) js (ag1 ((dn1++[y1]),A4,h5) hs8 ⟨hC1,((hl1.t hle3).t hle4)⟩)))))
  exact qf U (qO 3 U (ij (xI [] (A:=A5) QM U js (.inr hS1))))
 have hs9:=hs6.trans (congrArg (dn1++·) (bf c5))
 exact kq (qO 8 U (oi i1 U (qO 2 U (dE (L':=A1_) js (ag1 (dn1,A1_,h4) hs9 ⟨(m1 _ _ _ _ hle3 hC1_),(hl1.t hle3)⟩)))))
instance kI254:CtI 254:=⟨_,@Ao⟩
theorem CB(h c rB p je)(hc:bI.ok h c rB)(hp:ay.ok h p je)(hsm:smR c.Register)(hco:iI c)(hpr:p.cZ.length=p.dM.length/\∀y∈p.cZ,0<=y.gf/\y.gf<=1099511627775):jv prog 165 [.agg (bI.cells c rB).toArray,.agg (ay.cells p je).toArray] h (λv h'=>∃(rv0:Value),v=rv0/\Itr prog rv0 rR (gF c p) h'):=by
 refine sVv func165 ntmps165 ?_
 generalize hz:(gF c p)=z
 have hsq:=hsm;unfold smR at hsq
 have hcq:=hco;cases hcq
 exact W
theorem sC(h c rB p je)(hc:bI.ok h c rB)(hp:ay.ok h p je)(hsm:smR c.Register)(hco:iI c)(hpr:p.cZ.length=p.dM.length/\∀y∈p.cZ,0<=y.gf/\y.gf<=1099511627775):jv prog 90 [.agg (bI.cells c rB).toArray,.agg (ay.cells p je).toArray] h (λv h'=>∃(rb0:Option Addr)(rc0:Nat),v=.slice rb0 (cq c p).length rc0/\SlC vB h' rb0 rc0 (cq c p)):=by
 refine dL func90 U ntmps90 U λX hM hX=>?_
 have hs0:=@rfl _ (cq c p)
 refine sr (iA (λb1=>iA (λb2=>cD zc31 (λb3=>qO 4 U (eS 2 ty91 U U U (eS 1 ty61 U U U (aM (cW call165 (CB _ _ _ _ _ hc hp ob ob ob) U (λv1 h1 hle1 hp1=>?_)))))))))
 obtain⟨_,rfl,mo1⟩:=hp1
 refine qO 2 U (ij ?_)
 let z1:Nat×Obj:=(b2,O (ay.cells p je) 61)
 let z2:Nat×Obj:=(b1,O (bI.cells c rB) 91)
 refine dV (L':=([(b3,O [zSN] 31),z1,z2])++markB []) ap ?_
 refine nF (it:=v1) (xs:=(gF c p)) (ι:=(List Int)×Option Addr×Nat×LH×HF) [] (λi=>i.2.2.2.2) (λi=>[(b3,O [.slice i.2.1 i.1.length i.2.2.1] 31),z1,z2]++(i.2.2.2.1)) (λs i=>cq c p=((cq.L1 (cq.K1)) s i.1)/\cI vB 3 i.2.2.2.2 i.1 i.2.1 i.2.2.1 i.2.2.2.1/\jL h1 i.2.2.2.2/\i.1.length+s.length<=2000000) (λ_=>False) (λ_=>False) 0 (λ_ _ _=>False) ([],none,0,[],h1) func90 U mo1 U pL (λ_ _ _ _ _ hq=>hq) U (show[(b3,O [zSN] 31),z1,z2]=_ from U) ⟨hs0,cI.nil,lf,(by have hc:=Ur hsm p;simpa using hc)⟩ ?_ ?_ ?_ ?_ ?_
 .rintro l1 dm1 lp1 y1 rz1 vs1 ⟨cG,mK,mI,mL,hh1⟩ hr1 X hFR1 ⟨hs1,oH,hl1,u1_0⟩ hl01 hlr1 hv1 hX hXM hlp1 nx1 rt1 ex1 pn1
  try dsimp only at oH hl1 u1_0 hlr1
  obtain rfl:=hv1
  simp only[xA]at u1_0
  let z3:Nat×Obj:=(b3,O [.slice mK cG.length mI] 31)
  let z6:Nat×Obj:=(dm1,.deferred (some []))
  refine dV (L':=[(l1,.loop lp1),z6,z3,z1,z2]++(mL++(markB []))) ap (bS (cD zc67 (λb6=>ct 0 ty67 U U U U U U (kX (L':=[(b6,O (ai.cells y1) 67),(l1,.loop lp1),z6,z3,z1,z2]++(mL++(markB []))) U ?_))))
  let z7:Nat×Obj:=(l1,.loop { lp1 with state:=.busy })
  let z8:Nat×Obj:=(b6,O (ai.cells y1) 67)
  refine bM (mU 1 U hlp1 (qK 5 [3,0] U (aM (bW (cells:=[I y1.For]) fa ty3 zc3 U U kr (λb7=>aM (fd Rp.j4 ([(b7,O [I y1.For] 3),z8,z7,z6,z3,z1,z2]) (markB []) (λG=>[(b7,O [I y1.For] 3),z8,z7,z6,z3,z1,z2]++(markB []++G)) ap (λ_=>ap) fa ty3 zc3 U bytes3 (oH.mono kM hlr1) U U (iM 0 U (cE (y1.For) U U)) lo lo (λob2 oc2 G4 gr4=>uC (BY ([(b7,O [I y1.For] 3),z8,z7,z6,z3,z1,z2]) G4 (markB [])) (dD 4 ty31 U U U U U U (qO 2 U ?_)))))))))
  let z9:Nat×Obj:=(b3,O [.slice ob2 ((cG++[y1.For]).length) oc2] 31)
  exact dE (L':=[z7,z6,z9,z1,z2]++(G4++(markB []))) js (dV (L':=rdH l1 dm1 lp1 (([z9,z1,z2]++G4)++markB [])) ap (nx1 ((cG++[y1.For]),ob2,oc2,G4,hr1) _ _ ⟨hs1,gr4,(hl1.t hlr1),(by first|omega|(simp only[vA,xA,jB]at *;omega))⟩ lf))
 .rintro dm1 ⟨cG,mK,mI,mL,hh1⟩ hn1 ⟨hs2,oH,hl1,u1_0⟩ hln1 hl01
  try dsimp only at oH hl1 u1_0 hln1
  let z4:Nat×Obj:=(b3,O [.slice mK cG.length mI] 31)
  refine dV (L':=[z4,z1,z2]++(mL++(markB (dm1::[])))) ap (qK 4 [0] U (aM (ni ([z4,z1,z2]) mL (markB (dm1::[])) QQ (mW hn1 cG mK mI mL (oH.mono kM hln1) (by first|assumption|omega|(simp only[vA,xA,jB] ;omega))) ap U (λG5 gr5=>qL 4 [0] U (aM (ni (v:=.slice mK (slices_Compact_int (sortI cG)).length mI) ([z4,z1,z2]) G5 (markB (dm1::[])) call111 (oU hn1 (sortI cG) mK mI G5 gr5) ap (by first|rfl|(simp only[iE];rfl)) (λG6 gr6=>kX (L':=[z4,z1,z2]++(G6++(markB (dm1::[])))) ap (dD 0 ty31 U U U U U U (bM ?_)))))))))
  let z5:Nat×Obj:=(b3,O [.slice mK ((slices_Compact_int (sortI cG)).length) mI] 31)
  refine ib kM ([z5,z1,z2]) G6 (markB (dm1::[])) ap hM gr6 (λh3 hle3 sl2=>?_)
  have hs3:cq c p=(slices_Compact_int (sortI cG)):=hs2
  exact dV (L':=([z5,z1,z2])++markB (dm1::[])) ap (rC (dm1::[]) [.slice mK ((slices_Compact_int (sortI cG)).length) mI] func90 U ⟨⟨0,_,_,_,_,U,U,.inr ⟨_,ty31,U⟩⟩,trivial⟩ ⟨mK,mI,congrArg (λr:List Int=>(.slice mK r.length mI:Value)) hs3.symm,(by rw[hs3];exact sl2)⟩)
 .exact xf
 .exact xf
 exact xf
theorem uE(h s qy pZ)(f:(aD->Bool))(f_v)(hs:SlC aD.rp h qy pZ s)(hf:∀(h':HF)(fh:aD)(KR:nP),jL h h'->aD.ok h' fh KR->ra prog f_v [.agg (aD.cells fh KR).toArray] h' [] (.bool (f fh))):Ret prog 166 [.slice qy s.length pZ,f_v] h (I (bG s f)):=by
 refine sVv func166 ntmps166 ?_
 generalize hz:(bG s f)=z
 have HA:=h0 [0,1,7] 8 (λs1 i=>(bG.L1 f (bG.K1)) s1 i)
 exact W
instance kC166:Ct 166:=⟨_,call166,@uE⟩
theorem GT(s:List aD)(f:aD->Bool):bG s f<(s.length:Int):=by
 have key:∀(l:List aD)(i:Nat),bG.L1 f bG.K1 l i<((i+l.length:Nat):Int):=by
  intro l
  induction l with
  |nil=>intro i;simp only[bG.L1,bG.K1];omega
  |cons y l ih=>
   intro i
   simp only[bG.L1,Bool.cond_eq_ite,xA]
   split
   .omega
   have:=ih (i+1);omega
 have:=key s 0
 simpa[bG]using this
end
end Go.Sg
