import Derived.Test.YtngiefchigcphaaGreatDoorW1
import Derived.Test.YtngiefchigcphaaGreatDoorW2
import Derived.Test.YtngiefchigcphaaGreatDoorW3
import Derived.Test.YtngiefchigcphaaGreatDoorW4
import Derived.Test.YtngiefchigcphaaGreatDoorW5
import Derived.Test.YtngiefchigcphaaGreatDoorW6
import Derived.Test.YtngiefchigcphaaGreatDoorW7
import Derived.Test.YtngiefchigcphaaGreatDoorW8
/- A part of the proof of the law AsofMore: where what it reads holds at most 1048576 values and letters, the call returns true and its arguments read as they did. Conditions: that bound, and that the listed table starts as the program lays it. -/
set_option linter.unusedVariables false
set_option linter.unusedSimpArgs false
namespace Go.Sg
open Go.Proofs
set_option maxHeartbeats 2000000
set_option maxRecDepth 100000
set_option linter.unusedVariables false
theorem oA (h:HF) (l:(List Int)) (fc:Option Addr) (fb:Nat) (l_q:Addr) (hl:SlC Rp.int h fc fb l) (al:At h l_q [.slice fc l.length fb]):Itr Tryz.prog (.func (.func 62) #[] (List.toArray [.pointer (some l_q)])) xG (aX l) h:=by
 refine uR Tryz.call62 ?_
 intro yf ya yb C Sp Pn h1 A hle m1 m2 m3 hC hy
 refine jW Bn U Tryz.ntmps62 U fun X hXM hX=>?_
 have hs0:aX l=[]++aX l:=rfl
 refine sr (eM ty31 (al.mono hle) U (bE eG U (aa (ac ?_))))
 refine bq (ι:=Nat×List Span×LH×HF) (fun i=>[]) (fun i=>i.2.2.2) (fun i=>i.2.2.1) (fun i=>i.1≤l.length∧aX l=i.2.1++((aX.K1))∧C i.2.1 i.2.2.2 i.2.2.1∧HF.le h1 i.2.2.2) ?_ (fun hx1=>?_)
 ·rintro ⟨i1,dn1,A1_,hh1⟩ ⟨bd,hs1,hC1_,hl1⟩ e
  try dsimp only at bd hC1_ hl1
  try dsimp only
  refine gv ?_
  have hs2:aX l=dn1:=hs1.trans (List.append_nil _)
  exact uS [] (A:=A1_) Bn U (List.Sublist.refl _) (.inl (hs2 ▸ hC1_))
 ·refine ck (ι:=Nat×List Span×LH×HF×List Int) (fun i=>[(0,.func yf ya yb),(1,.pointer (some l_q)),(6,.slice fc l.length fb),(7,I ((l.length:Nat):Int)),(8,I ((i.1:Nat):Int))]) (fun i=>i.2.2.2.1) (fun i=>i.2.2.1) (fun i=>l.drop i.1=i.2.2.2.2∧i.1≤l.length∧aX l=i.2.1++((aX.L1 l (aX.K1)) i.2.2.2.2 i.1)∧C i.2.1 i.2.2.2.1 i.2.2.1∧HF.le h1 i.2.2.2.1) (fun i=>i.2.2.2.2.length) (0,[],A,h1,l) rd sw ⟨U,Nat.zero_le _,hs0,hC,(HF.le_refl h1)⟩ ?_
  rintro ⟨i1,dn1,A1_,hh1,s1⟩ ⟨hd1,bd,hs3,hC1_,hl1⟩ ag1 e
  try dsimp only at hd1 bd hC1_ hl1
  rcases s1 with _ | ⟨y1,rz1⟩
  ·have dJ:=cS hd1
   try dsimp only
   refine sr (az (v':=.bool false) U (cb dJ) (ac (ad (ba U (bM U ?_)))))
   exact hx1 (i1,dn1,A1_,hh1) _ ⟨bd,hs3,hC1_,hl1⟩ trivial
  ·have dI:=dV hd1
   have bh:=cU hd1
   have e9:=aP hd1
   have gO:=(hl.mono Rp.cm hle).1.1
   try dsimp only
   refine sr (az (v':=.bool true) U (cb dI) (ac (ad (bj U (ai (ad (aU (sr (aa (a8 (fZ (enc:=fun y=>[I y]) (fun _ _ _ e=>e) eG ty3 (hl.mono Rp.cm (hle.t hl1)).1 (nthZ bh) (bA bh) U U U (fun q3 A6=>?_))))))))))))
   refine eM ty3 A6 U (bi (an (sr (an (ad (sr (aa (az (v':=I (((i1+1):Nat):Int)) U (bP ob) (eM ty31 (al.mono (hle.t hl1)) U (bE eG U ?_))))))))))
   refine aF U (ac ?_)
   refine aB U (fun c3=>?_) (fun c3=>?_)
   ·have c3p:=of_decide_eq_true c3
    have hs5:=hs3.trans (congrArg (dn1++·) (bt c3))
    refine ah (aa (eM ty31 (al.mono (hle.t hl1)) U (aa (az (v':=I (((i1+1):Nat):Int)) U (bP ob) ?_))))
    have ho2:0≤((((i1+1):Nat):Int):Int)∧((((i1+1):Nat):Int):Int) < ((l).length:Int):=ob
    refine a8 (fZ (enc:=fun y=>[I y]) (fun _ _ _ e=>e) eG ty3 (hl.mono Rp.cm (hle.t hl1)).1 ho2 (eN ho2) U U U (fun q4 A7=>eM ty3 A7 U (a8 (gW (I0 U U) (an (sr ?_))))))
    refine aa (aa (aF U (aa ?_)))
    refine au 28 U (fun c4=>?_) (fun c4=>?_)
    ·have c4p:=of_decide_eq_true c4
     have hs6:=hs5.trans (congrArg (dn1++·) (bt c4))
     refine aa (aa (aa (a8 (fO (cells:=[I y1,I (min 1099511627776 (nthI l (((i1+1):Nat):Int)))]) (places:=[(0,1),(1,1)]) zu zc46 kr kr ?_))))
     have hx2:aX l=dn1++((Span.mk y1 (min 1099511627776 (nthI l (((i1+1):Nat):Int))))::(aX.L1 l (aX.K1) rz1 ((i1+1)))):=hs6
     refine a8 (lL ([]) A1_ ap (hy dn1 (Span.mk y1 (min 1099511627776 (nthI l (((i1+1):Nat):Int)))) _ _ _ _ hx2 hl1 hC1_ U) U U (fun h5 A8 hle4 hC2=>?_) (fun h6 A9 hle5 hS2=>?_) (fun ch2 h7 A10 hle6 hP2 e=>jj (qh [] (A:=A10) Bn (List.sublist_append_right _ _) hP2)))
     ·have hs7:aX l=(dn1++[(Span.mk y1 (min 1099511627776 (nthI l (((i1+1):Nat):Int))))])++((aX.L1 l (aX.K1) rz1 ((i1+1)))):=hx2.trans ap
      refine cR U (ae U (ac (ba U (ai (ao (ah (az (v':=I (((i1+1):Nat):Int)) U (bP ob) (aa (ac ?_)))))))))
      exact ag1 ((i1+1),(dn1++[(Span.mk y1 (min 1099511627776 (nthI l (((i1+1):Nat):Int))))]),A8,h5,rz1) _ (Nat.lt_succ_self _) ⟨bF hd1,aP hd1,hs7,hC2,(hl1.t hle4)⟩ rd
     ·refine cR U (ae U (ac (bj U ?_)))
      refine gv ?_
      exact qg [] (A:=A9) Bn U (List.Sublist.refl _) (.inr hS2)
    ·have c4p:=of_decide_eq_false c4
     have hs8:=hs5.trans (congrArg (dn1++·) (bf c4))
     refine kq (kq (kq (ae U (ac (ba U (ai (ao (ah (az (v':=I (((i1+1):Nat):Int)) U (bP ob) (aa (ac ?_)))))))))))
     exact ag1 ((i1+1),dn1,A1_,hh1,rz1) _ (Nat.lt_succ_self _) ⟨bF hd1,aP hd1,hs8,hC1_,hl1⟩ rd
   ·have c3p:=of_decide_eq_false c3
    have hs9:=hs3.trans (congrArg (dn1++·) (bf c3))
    refine ai (sr (aa (aa (aF U (aa ?_)))))
    refine au 28 U (fun c5=>?_) (fun c5=>?_)
    ·have c5p:=of_decide_eq_true c5
     have hs10:=hs9.trans (congrArg (dn1++·) (bt c5))
     refine aa (aa (aa (a8 (fO (cells:=[I y1,I 1099511627776]) (places:=[(0,1),(1,1)]) zu zc46 kr kr ?_))))
     have hx3:aX l=dn1++((Span.mk y1 1099511627776)::(aX.L1 l (aX.K1) rz1 ((i1+1)))):=hs10
     refine a8 (lL ([]) A1_ ap (hy dn1 (Span.mk y1 1099511627776) _ _ _ _ hx3 hl1 hC1_ U) U U (fun h8 A11 hle7 hC3=>?_) (fun h9 A12 hle8 hS3=>?_) (fun ch3 h10 A13 hle9 hP3 e=>jj (qh [] (A:=A13) Bn (List.sublist_append_right _ _) hP3)))
     ·have hs11:aX l=(dn1++[(Span.mk y1 1099511627776)])++((aX.L1 l (aX.K1) rz1 ((i1+1)))):=hx3.trans ap
      refine cR U (ae U (ac (ba U (ai (ao (ah (az (v':=I (((i1+1):Nat):Int)) U (bP ob) (aa (ac ?_)))))))))
      exact ag1 ((i1+1),(dn1++[(Span.mk y1 1099511627776)]),A11,h8,rz1) _ (Nat.lt_succ_self _) ⟨bF hd1,aP hd1,hs11,hC3,(hl1.t hle7)⟩ rd
     ·refine cR U (ae U (ac (bj U ?_)))
      refine gv ?_
      exact qg [] (A:=A12) Bn U (List.Sublist.refl _) (.inr hS3)
    ·have c5p:=of_decide_eq_false c5
     have hs12:=hs9.trans (congrArg (dn1++·) (bf c5))
     refine kq (kq (kq (ae U (ac (ba U (ai (ao (ah (az (v':=I (((i1+1):Nat):Int)) U (bP ob) (aa (ac ?_)))))))))))
     exact ag1 ((i1+1),dn1,A1_,hh1,rz1) _ (Nat.lt_succ_self _) ⟨bF hd1,aP hd1,hs12,hC1_,hl1⟩ rd
theorem pK (h:HF) (q:aS) (jo:gF) (hq:aS.ok h q jo) (hsm:smR q.Register) (hov:okV q.Register.Versions) (hod:0≤q.doc.At∧q.doc.At≤1099511627776):jP Tryz.prog 29 [.agg (aS.cells q jo).toArray] h (fun v h'=>∃ (rv0:Value),v=rv0∧Itr Tryz.prog rv0 xG (aE q) h'):=by
 refine aw Tryz.func29 U Tryz.ntmps29 U fun X hM hX=>?_
 have hs0:aE q=aE q:=rfl
 have hm1:=gy (mput (mput ([]:List (Int×Bool)) 0 true) q.doc.At true) q.doc.Until true
 have hm2:=gy (mput ([]:List (Int×Bool)) 0 true) q.doc.At true
 have hm3:=gy ([]:List (Int×Bool)) 0 true
 have hs1:=hsm.2.1
 have hs2:=hsm.2.2.2.1
 have hs3:=hov.1
 simp only [List.length_nil] at hm3
 refine sr (dC (fun b1=>an (ad ?_)))
 let z1:Nat×Obj:=(b1,O (aS.cells q jo) 77)
 refine Ai (ι:=Nat×Obj) (fun i=>[(1,Q b1),(3,.map (some i.1))]) (fun i=>[(i.1,i.2),z1]) (fun i=>gJ (Value.int .i64) ir h i.2 (mput (mput (mput ([]) 0 true) q.doc.At true) q.doc.Until true)) ?_ (fun hk1=>?_)
 rotate_left
 ·refine gr ([z1]) mixed kr jn (fun fd _=>?_)
  refine tf 2 U U (fun _ _ _=>dO mw U) (tf 3 U U (fun _ _ _=>dO oW U) (tf 4 U U (fun _ _ hj=>hY ty3 U (hj.nth (i:=0) U) U) ?_))
  refine tf 6 U U (fun _ _ _=>dO mw U) (tf 7 U U (fun _ _ _=>dO sj U) (tf 8 U U (fun _ _ hj=>hY ty3 U (hj.nth (i:=0) U) U) ?_))
  refine tn 0 U (oC (fun b3=>⟨jn,?_⟩))
  refine F6 1 5 9 kr U U U ?_ ?_ ?_ 
  ·refine iL 0 (k:=0) (x:=true) kW (e7 kx) U (gJ.nil (enc:=(Value.int .i64)) (V:=ir) (h:=h)) U U U (fun mo2 hm2=>⟨jn,?_⟩)
   refine lQ 5 9 kr U U ?_ ?_ 
   ·refine iL 0 (k:=q.doc.At) (x:=true) kW (e7 kx) U hm2 U U U (fun mo3 hm3=>⟨jn,?_⟩)
    refine tn 9 U (iL 0 (k:=q.doc.Until) (x:=true) kW (e7 kx) U hm3 U U U (fun mo4 hm4=>⟨jn,?_⟩))
    refine tm 10 U (tf 11 U U (fun _ _ _=>gG) (cd kr ?_))
    exact hk1 (b3,mo4) _ hm4 rd
   ·refine iL 0 (k:=q.doc.Until) (x:=true) kW (e7 kx) U hm2 U U U (fun mo5 hm5=>⟨jn,?_⟩)
    refine tn 5 U (iL 0 (k:=q.doc.At) (x:=true) kW (e7 kx) U hm5 U U U (fun mo6 hm6=>⟨jn,?_⟩))
    refine tm 10 U (tf 11 U U (fun _ _ _=>gG) (cd kr ?_))
    exact hk1 (b3,mo6) _ (gJ.perm hm6 (nT true (p132 0 q.doc.At q.doc.Until) List.nodup_nil)) rd
  ·refine iL 0 (k:=q.doc.At) (x:=true) kW (e7 kx) U (gJ.nil (enc:=(Value.int .i64)) (V:=ir) (h:=h)) U U U (fun mo7 hm7=>⟨jn,?_⟩)
   refine lQ 1 9 kr U U ?_ ?_ 
   ·refine iL 0 (k:=0) (x:=true) kW (e7 kx) U hm7 U U U (fun mo8 hm8=>⟨jn,?_⟩)
    refine tn 9 U (iL 0 (k:=q.doc.Until) (x:=true) kW (e7 kx) U hm8 U U U (fun mo9 hm9=>⟨jn,?_⟩))
    refine tm 10 U (tf 11 U U (fun _ _ _=>gG) (cd kr ?_))
    exact hk1 (b3,mo9) _ (gJ.perm hm9 (nT true (p213 0 q.doc.At q.doc.Until) List.nodup_nil)) rd
   ·refine iL 0 (k:=q.doc.Until) (x:=true) kW (e7 kx) U hm7 U U U (fun mo10 hm10=>⟨jn,?_⟩)
    refine tn 1 U (iL 0 (k:=0) (x:=true) kW (e7 kx) U hm10 U U U (fun mo11 hm11=>⟨jn,?_⟩))
    refine tm 10 U (tf 11 U U (fun _ _ _=>gG) (cd kr ?_))
    exact hk1 (b3,mo11) _ (gJ.perm hm11 (nT true (p231 0 q.doc.At q.doc.Until) List.nodup_nil)) rd
  ·refine iL 0 (k:=q.doc.Until) (x:=true) kW (e7 kx) U (gJ.nil (enc:=(Value.int .i64)) (V:=ir) (h:=h)) U U U (fun mo12 hm12=>⟨jn,?_⟩)
   refine lQ 1 5 kr U U ?_ ?_ 
   ·refine iL 0 (k:=0) (x:=true) kW (e7 kx) U hm12 U U U (fun mo13 hm13=>⟨jn,?_⟩)
    refine tn 5 U (iL 0 (k:=q.doc.At) (x:=true) kW (e7 kx) U hm13 U U U (fun mo14 hm14=>⟨jn,?_⟩))
    refine tm 10 U (tf 11 U U (fun _ _ _=>gG) (cd kr ?_))
    exact hk1 (b3,mo14) _ (gJ.perm hm14 (nT true (p312 0 q.doc.At q.doc.Until) List.nodup_nil)) rd
   ·refine iL 0 (k:=q.doc.At) (x:=true) kW (e7 kx) U hm12 U U U (fun mo15 hm15=>⟨jn,?_⟩)
    refine tn 1 U (iL 0 (k:=0) (x:=true) kW (e7 kx) U hm15 U U U (fun mo16 hm16=>⟨jn,?_⟩))
    refine tm 10 U (tf 11 U U (fun _ _ _=>gG) (cd kr ?_))
    exact hk1 (b3,mo16) _ (gJ.perm hm16 (nT true (p321 0 q.doc.At q.doc.Until) List.nodup_nil)) rd
 rintro ⟨b2,mo1⟩ hm1 e
 try dsimp only at hm1
 try dsimp only
 refine ad (sr (ay qn U (ay nE U (aL 1 ty22 U U U (bE lY U (aa (ac ?_)))))))
 refine bq (ι:=Nat×(List (Int×Bool))×Obj) (fun i=>[(1,Q b1),(3,.map (some b2))]) (fun i=>h) (fun i=>[(b2,i.2.2),z1]) (fun i=>i.1≤q.Register.Appoints.length∧aE q=((aE.K1 q) i.2.1)∧gJ (Value.int .i64) ir h i.2.2 i.2.1∧i.2.1.length≤(mput (mput (mput ([]) 0 true) q.doc.At true) q.doc.Until true).length+i.1) ?_ (fun hx1=>?_)
 ·rintro ⟨i1,dx,jp⟩ ⟨bd,hs1,fS,jN⟩ e
  try dsimp only at bd fS jN
  try dsimp only
  refine ad (sr (ay qn U (ay mV U (aL 1 ty24 U U U (bE mJ U (aa (ac ?_)))))))
  refine bq (ι:=Nat×(List (Int×Bool))×Obj) (fun i=>[(1,Q b1),(3,.map (some b2))]) (fun i=>h) (fun i=>[(b2,i.2.2),z1]) (fun i=>i.1≤q.Register.Interests.length∧aE q=((aE.K2 q) i.2.1)∧gJ (Value.int .i64) ir h i.2.2 i.2.1∧i.2.1.length≤dx.length+i.1) ?_ (fun hx2=>?_)
  ·rintro ⟨i2,j0,xU⟩ ⟨j4,hs2,pA,xV⟩ e
   try dsimp only at j4 pA xV
   try dsimp only
   refine ad (sr (ay qn U (ay mA U (aL 1 ty26 U U U (bE lu U (aa (ac ?_)))))))
   refine bq (ι:=Nat×(List (Int×Bool))×Obj) (fun i=>[(3,.map (some b2))]) (fun i=>h) (fun i=>[(b2,i.2.2),z1]) (fun i=>i.1≤q.Register.Versions.length∧aE q=((aE.K3) i.2.1)∧gJ (Value.int .i64) ir h i.2.2 i.2.1∧i.2.1.length≤j0.length+17 * i.1) ?_ (fun hx3=>?_)
   ·rintro ⟨i3,i0,Cp⟩ ⟨oz,hs3,pz,xQ⟩ e
    try dsimp only at oz pz xQ
    try dsimp only
    refine sr (aa (cn 0 U hM (fun h1 hle1 hb1=>?_)))
    have mc1:ou (Value.int .i64) ir h1 b2 i0:=⟨_,hb1,pz.mono ir.mono hle1⟩
    refine a8 (dp Tryz.call61 (oQ h1 i0 b2 mc1) U (fun v1 h2 hle2 hp1=>a8 (dp Tryz.call60 (lv h2 v1 (i0.map Prod.fst) hp1 (by rw [List.length_map];omega)) U (fun v2 h3 hle3 hp2=>?_))))
    obtain ⟨rb1,rc1,rfl,sl1⟩:=hp2
    refine bT zc31 (fun b17=>du 0 ty31 U U U U U U (ac (sr (cn 0 U hM (fun h4 hle4 hb2=>a8 (gj U U (an ?_)))))))
    have hs4:aE q=(aX (sortI (i0.map Prod.fst))):=hs3
    exact dQ [.func (.func 62) #[] #[Q b17]] Tryz.func29 U rd ⟨(.func (.func 62) #[] #[Q b17]),congrArg (fun r:(List Span)=>((.func (.func 62) #[] #[Q b17]):Value)) hs4.symm,(by rw [hs4];exact (oA h4 (sortI (i0.map Prod.fst)) rb1 rc1 ⟨b17,0,none⟩ (sl1.mono Rp.cm hle4) (dP hb2)))⟩
   ·refine ck (ι:=Nat×(List (Int×Bool))×Obj×List Version) (fun i=>[(1,Q b1),(3,.map (some b2)),(47,.slice jo.Register.gq q.Register.Versions.length jo.Register.gp),(48,I ((q.Register.Versions.length:Nat):Int)),(49,I ((i.1:Nat):Int))]) (fun i=>h) (fun i=>[(b2,i.2.2.1),z1]) (fun i=>q.Register.Versions.drop i.1=i.2.2.2∧i.1≤q.Register.Versions.length∧aE q=((aE.L3 q (aE.K3)) i.2.2.2 i.2.1)∧gJ (Value.int .i64) ir h i.2.2.1 i.2.1∧i.2.1.length≤j0.length+17 * i.1) (fun i=>i.2.2.2.length) (0,j0,xU,q.Register.Versions) rd sw ⟨U,Nat.zero_le _,hs2,pA,lc⟩ ?_
    rintro ⟨i3,i0,Cp,s3⟩ ⟨hd3,oz,hs5,pz,xQ⟩ ag1 e
    try dsimp only at hd3 oz pz xQ
    rcases s3 with _ | ⟨y3,rz3⟩
    ·have AN:=cS hd3
     try dsimp only
     refine sr (az (v':=.bool false) U (cb AN) (ac (ad (ba U (bM U ?_)))))
     exact hx3 (i3,i0,Cp) _ ⟨oz,hs5,pz,lc⟩ rd
    ·have AM:=dV hd3
     have qA:=cU hd3
     have EF:=aP hd3
     have H0:=hq.Register.Versions.1.1
     have hml:=gy i0 y3.At true
     have hvr:=(hov.2 y3 (gm hd3)).1
     try dsimp only
     refine sr (az (v':=.bool true) U (cb AM) (ac (ad (bj U (ai (ad (aU (sr (a8 (gX lu ty70 hq.Register.Versions.1 (nthZ qA) (bA qA) U U U (fun q14 cs9 A14 ln9 rr9=>?_)))))))))))
     obtain ⟨r9,rfl,ok9⟩:=rr9
     refine dT ty70 A14 U U (bT zc70 (fun b18=>bJ 0 ty70 U U U U U U (ac (sr (aa (ay ue U (aL 0 ty3 U U U (a8 (kg 1 (k:=y3.At) (x:=true) kW (e7 kx) U pz U U U (fun mo30 hm30=>?_))))))))))
     refine ac (sr (ay qo U (ay fC U (aL 0 ty63 U U U (bE jV U (aa (ac ?_)))))))
     let z2:Nat×Obj:=(b18,O (Version.cells y3 r9) 70)
     refine bq (ι:=Nat×(List (Int×Bool))×Obj) (fun i=>[(1,Q b1),(3,.map (some b2)),(47,.slice jo.Register.gq q.Register.Versions.length jo.Register.gp),(48,I ((q.Register.Versions.length:Nat):Int)),(49,I ((i3:Nat):Int))]) (fun i=>h) (fun i=>[z2,(b2,i.2.2),z1]) (fun i=>i.1≤y3.Policy.Rules.length∧aE q=((fun zg5_b2_0=>(aE.L3 q (aE.K3) rz3 zg5_b2_0)) i.2.1)∧gJ (Value.int .i64) ir h i.2.2 i.2.1∧i.2.1.length≤(mput i0 y3.At true).length+i.1) ?_ (fun hx5=>?_)
     ·rintro ⟨i5,ju,lH⟩ ⟨Ff,hs7,kl,nY⟩ e
      try dsimp only at Ff kl nY
      try dsimp only
      refine ao (ah (az (v':=I (((i3+1):Nat):Int)) U (bP ob) (aa (ac ?_))))
      refine cE (L':=[(b2,lH),z1]) js ?_
      exact ag1 ((i3+1),ju,lH,rz3) _ (Nat.lt_succ_self _) ⟨bF hd3,aP hd3,hs7,kl,lc⟩ rd
     ·refine ck (ι:=Nat×(List (Int×Bool))×Obj×List Rule) (fun i=>[(1,Q b1),(3,.map (some b2)),(47,.slice jo.Register.gq q.Register.Versions.length jo.Register.gp),(48,I ((q.Register.Versions.length:Nat):Int)),(49,I ((i3:Nat):Int)),(58,.slice r9.Policy.ji y3.Policy.Rules.length r9.Policy.jh),(59,I ((y3.Policy.Rules.length:Nat):Int)),(60,I ((i.1:Nat):Int))]) (fun i=>h) (fun i=>[z2,(b2,i.2.2.1),z1]) (fun i=>y3.Policy.Rules.drop i.1=i.2.2.2∧i.1≤y3.Policy.Rules.length∧aE q=((aE.L5 q (fun zg5_b2_0=>(aE.L3 q (aE.K3) rz3 zg5_b2_0))) i.2.2.2 i.2.1)∧gJ (Value.int .i64) ir h i.2.2.1 i.2.1∧i.2.1.length≤(mput i0 y3.At true).length+i.1) (fun i=>i.2.2.2.length) (0,(mput i0 y3.At true),mo30,y3.Policy.Rules) rd sw ⟨U,Nat.zero_le _,hs5,hm30,(by have:=gy i0 y3.At true;first | omega | (simp only [List.length_nil,List.length_cons] at *;omega))⟩ ?_
      rintro ⟨i5,ju,lH,s5⟩ ⟨hd5,za,hs8,kl,nY⟩ ag2 e
      try dsimp only at hd5 za kl nY
      rcases s5 with _ | ⟨y5,rz5⟩
      ·have GI:=cS hd5
       try dsimp only
       refine sr (az (v':=.bool false) U (cb GI) (ac (ad (ba U (bM U ?_)))))
       exact hx5 (i5,ju,lH) _ ⟨za,hs8,kl,lc⟩ rd
      ·have GH:=dV hd5
       have vG:=cU hd5
       have Ia:=aP hd5
       have I6:=ok9.Policy.Rules.1.1
       have hth:=(hov.2 y3 (gm hd3)).2 y5 (gm hd5)
       try dsimp only
       refine sr (az (v':=.bool true) U (cb GH) (ac (ad (bj U (ai (ad (aU (sr (a8 (gX jV ty107 ok9.Policy.Rules.1 (nthZ vG) (bA vG) U U U (fun q16 cs11 A16 ln11 rr11=>?_)))))))))))
       obtain ⟨r11,rfl,ok11⟩:=rr11
       refine dT ty107 A16 U U (bT zc107 (fun b20=>bJ 0 ty107 U U U U U U (ac (ah (aa (ay mw U (ay oW U (aL 3 ty3 U U U (ay og U (aL 0 ty3 U U U (az (v':=I (q.doc.At+y5.Think)) U (iZ ob) ?_)))))))))))
       refine a8 (kg 2 (k:=(q.doc.At+y5.Think)) (x:=true) kW (e7 kx) U kl U U U (fun mo32 hm32=>ac (ao (ah (az (v':=I (((i5+1):Nat):Int)) U (bP ob) (aa ?_))))))
       refine ac ?_
       refine cE (L':=[z2,(b2,mo32),z1]) js ?_
       exact ag2 ((i5+1),(mput ju (q.doc.At+y5.Think) true),mo32,rz5) _ (Nat.lt_succ_self _) ⟨bF hd5,aP hd5,hs8,hm32,(by have:=gy ju (q.doc.At+y5.Think) true;first | omega | (simp only [List.length_nil,List.length_cons] at *;omega))⟩ rd
  ·refine ck (ι:=Nat×(List (Int×Bool))×Obj×List Interest) (fun i=>[(1,Q b1),(3,.map (some b2)),(35,.slice jo.Register.gN q.Register.Interests.length jo.Register.gM),(36,I ((q.Register.Interests.length:Nat):Int)),(37,I ((i.1:Nat):Int))]) (fun i=>h) (fun i=>[(b2,i.2.2.1),z1]) (fun i=>q.Register.Interests.drop i.1=i.2.2.2∧i.1≤q.Register.Interests.length∧aE q=((aE.L2 (aE.K2 q)) i.2.2.2 i.2.1)∧gJ (Value.int .i64) ir h i.2.2.1 i.2.1∧i.2.1.length≤dx.length+i.1) (fun i=>i.2.2.2.length) (0,dx,jp,q.Register.Interests) rd sw ⟨U,Nat.zero_le _,hs1,fS,lc⟩ ?_
   rintro ⟨i2,j0,xU,s2⟩ ⟨hd2,j4,hs10,pA,xV⟩ ag3 e
   try dsimp only at hd2 j4 pA xV
   rcases s2 with _ | ⟨y2,rz2⟩
   ·have tz:=cS hd2
    try dsimp only
    refine sr (az (v':=.bool false) U (cb tz) (ac (ad (ba U (bM U ?_)))))
    exact hx2 (i2,j0,xU) _ ⟨j4,hs10,pA,lc⟩ rd
   ·have qH:=dV hd2
    have lG:=cU hd2
    have xL:=aP hd2
    have DR:=hq.Register.Interests.1.1
    try dsimp only
    refine sr (az (v':=.bool true) U (cb qH) (ac (ad (bj U (ai (ad (aU (sr (a8 (fZ (enc:=Interest.cells) (fun _ _ _ e=>e) mJ ty61 hq.Register.Interests.1 (nthZ lG) (bA lG) U U U (fun q17 A17=>?_)))))))))))
    refine dT ty61 A17 U U (bT zc61 (fun b21=>bJ 0 ty61 U U U U U U (ac (ah (aa (ay se U (aL 0 ty3 U U U (a8 (kg 1 (k:=y2.At) (x:=true) kW (e7 kx) U pA U U U (fun mo33 hm33=>?_))))))))))
    refine ac (ao (ah (az (v':=I (((i2+1):Nat):Int)) U (bP ob) (aa (ac ?_)))))
    refine cE (L':=[(b2,mo33),z1]) js ?_
    exact ag3 ((i2+1),(mput j0 y2.At true),mo33,rz2) _ (Nat.lt_succ_self _) ⟨bF hd2,aP hd2,hs10,hm33,(by have:=gy j0 y2.At true;first | omega | (simp only [List.length_nil,List.length_cons] at *;omega))⟩ rd
 ·refine ck (ι:=Nat×(List (Int×Bool))×Obj×List Appoint) (fun i=>[(1,Q b1),(3,.map (some b2)),(23,.slice jo.Register.gQ q.Register.Appoints.length jo.Register.gP),(24,I ((q.Register.Appoints.length:Nat):Int)),(25,I ((i.1:Nat):Int))]) (fun i=>h) (fun i=>[(b2,i.2.2.1),z1]) (fun i=>q.Register.Appoints.drop i.1=i.2.2.2∧i.1≤q.Register.Appoints.length∧aE q=((aE.L1 (aE.K1 q)) i.2.2.2 i.2.1)∧gJ (Value.int .i64) ir h i.2.2.1 i.2.1∧i.2.1.length≤(mput (mput (mput ([]) 0 true) q.doc.At true) q.doc.Until true).length+i.1) (fun i=>i.2.2.2.length) (0,(mput (mput (mput ([]) 0 true) q.doc.At true) q.doc.Until true),mo1,q.Register.Appoints) rd sw ⟨U,Nat.zero_le _,hs0,hm1,(by have:=gy (mput (mput ([]) 0 true) q.doc.At true) q.doc.Until true;have:=gy (mput ([]) 0 true) q.doc.At true;have:=gy ([]) 0 true;first | omega | (simp only [List.length_nil,List.length_cons] at *;omega))⟩ ?_
  rintro ⟨i1,dx,jp,s1⟩ ⟨hd1,bd,hs12,fS,jN⟩ ag4 e
  try dsimp only at hd1 bd fS jN
  rcases s1 with _ | ⟨y1,rz1⟩
  ·have dJ:=cS hd1
   try dsimp only
   refine sr (az (v':=.bool false) U (cb dJ) (ac (ad (ba U (bM U ?_)))))
   exact hx1 (i1,dx,jp) _ ⟨bd,hs12,fS,lc⟩ rd
  ·have dI:=dV hd1
   have bh:=cU hd1
   have e9:=aP hd1
   have gO:=hq.Register.Appoints.1.1
   try dsimp only
   refine sr (az (v':=.bool true) U (cb dI) (ac (ad (bj U (ai (ad (aU (sr (a8 (fZ (enc:=Appoint.cells) (fun _ _ _ e=>e) lY ty59 hq.Register.Appoints.1 (nthZ bh) (bA bh) U U U (fun q18 A18=>?_)))))))))))
   refine dT ty59 A18 U U (bT zc59 (fun b22=>bJ 0 ty59 U U U U U U (ac (ah (aa (ay qp U (aL 0 ty3 U U U (a8 (kg 1 (k:=y1.At) (x:=true) kW (e7 kx) U fS U U U (fun mo34 hm34=>?_))))))))))
   refine ac (ao (ah (az (v':=I (((i1+1):Nat):Int)) U (bP ob) (aa (ac ?_)))))
   refine cE (L':=[(b2,mo34),z1]) js ?_
   exact ag4 ((i1+1),(mput dx y1.At true),mo34,rz1) _ (Nat.lt_succ_self _) ⟨bF hd1,aP hd1,hs12,hm34,(by have:=gy dx y1.At true;first | omega | (simp only [List.length_nil,List.length_cons] at *;omega))⟩ rd
theorem oN (h:HF) (who:(List Int)) (em:Option Addr) (el:Nat) (hwho:SlC Rp.int h em el who):Ret Tryz.prog 96 [.slice em who.length el] h (.bool (df who)):=by
 refine aw Tryz.func96 U Tryz.ntmps96 U fun X hM hX=>?_
 have hs0:df who=df who:=rfl
 refine sr (an (sr (an (ad (sr (aa (bE eG U (aa (ac ?_)))))))))
 refine bq (ι:=Nat×Int) (fun i=>[]) (fun i=>h) (fun i=>[]) (fun i=>i.1≤who.length∧df who=((df.K1) i.2)) ?_ (fun hx1=>?_)
 ·rintro ⟨i1,gf⟩ ⟨bd,hs1⟩ e
  try dsimp only at bd
  try dsimp only
  refine sr (an ?_)
  exact ar [.bool true] Tryz.func96 U hX rd (cs hs1)
 ·refine ck (ι:=Nat×Int×List Int) (fun i=>[(3,I i.2.1),(6,.slice em who.length el),(7,I ((who.length:Nat):Int)),(8,I ((i.1:Nat):Int))]) (fun i=>h) (fun i=>[]) (fun i=>who.drop i.1=i.2.2∧i.1≤who.length∧df who=((df.L1 (df.K1)) i.2.2 i.2.1)) (fun i=>i.2.2.length) (0,(-1),who) rd sw ⟨U,Nat.zero_le _,hs0⟩ ?_
  rintro ⟨i1,gf,s1⟩ ⟨hd1,bd,hs3⟩ ag1 e
  try dsimp only at hd1 bd
  rcases s1 with _ | ⟨y1,rz1⟩
  ·have dJ:=cS hd1
   try dsimp only
   refine sr (az (v':=.bool false) U (cb dJ) (ac (ad (ba U (bM U ?_)))))
   exact hx1 (i1,gf) _ ⟨bd,hs3⟩ trivial
  ·have dI:=dV hd1
   have bh:=cU hd1
   have e9:=aP hd1
   have gO:=hwho.1.1
   try dsimp only
   refine sr (az (v':=.bool true) U (cb dI) (ac (ad (bj U (ai (ad (aU (sr (a8 (fZ (enc:=fun y=>[I y]) (fun _ _ _ e=>e) eG ty3 hwho.1 (nthZ bh) (bA bh) U U U (fun q2 A2=>?_)))))))))))
   refine eM ty3 A2 U (an (ad (sr (aa (aa (aF U (aa ?_)))))))
   refine tq 3 [(5,I y1),(6,.slice em who.length el),(7,I ((who.length:Nat):Int)),(8,I ((i1:Nat):Int)),(18,.bool (decide (y1≤gf)||decide (64≤y1)))] (fun hk1=>?_) (fun e=>?_)
   ·refine au 15 U (fun c1=>?_) (fun c1=>?_)
    ·refine kq (ae U ?_)
     exact hk1 _ ⟨U,U,U,U,(cb (eB c1)),trivial⟩
    ·refine aa (aF U (ae U ?_))
     exact hk1 _ ⟨U,U,U,U,(cb (eE c1)),trivial⟩
   refine ac ?_
   refine aB U (fun c2=>?_) (fun c2=>?_)
   ·have hs5:=hs3.trans (bt c2)
    refine sr (an ?_)
    exact ar [.bool false] Tryz.func96 U hX rd (cs hs5)
   ·have hs7:=hs3.trans (bf c2)
    refine ai (ah (aa (an (ao (ah (az (v':=I (((i1+1):Nat):Int)) U (bP ob) (aa (ac ?_))))))))
    exact ag1 ((i1+1),y1,rz1) _ (Nat.lt_succ_self _) ⟨bF hd1,aP hd1,hs7⟩ rd
theorem uM (h:HF) (holders:(List (List Holder))) (gd:Option Addr) (ga:Nat) (offices:Int) (hholders:SlC (Rp.sl Holder.rp) h gd ga holders) (hsz0:∀ y∈holders,y.length≤2000000):Ret Tryz.prog 95 [.slice gd holders.length ga,I offices] h (.bool (cJ holders offices)):=by
 refine aw FD U Tryz.ntmps95 U fun X hM hX=>?_
 have hs0:cJ holders offices=cJ holders offices:=rfl
 refine sr (an (ad (sr (aa (bE wD U (aa (ac ?_)))))))
 refine bq (ι:=Nat×HF) (fun i=>[(0,.slice gd holders.length ga),(1,I offices)]) (fun i=>i.2) (fun i=>[]) (fun i=>i.1≤holders.length∧cJ holders offices=((cJ.K1 holders offices))∧HF.le h i.2) ?_ (fun hx1=>?_)
 ·rintro ⟨i1,hh1⟩ ⟨bd,hs1,hl1⟩ e
  try dsimp only at bd hl1
  try dsimp only
  refine sr (aa (bE wD U (aa (aF U (an ?_)))))
  exact ar [.bool (((holders.length:Nat):Int)==offices)] FD U hX rd (cs hs1)
 ·refine ck (ι:=Nat×HF×List (List Holder)) (fun i=>[(0,.slice gd holders.length ga),(1,I offices),(10,.slice gd holders.length ga),(11,I ((holders.length:Nat):Int)),(12,I ((i.1:Nat):Int))]) (fun i=>i.2.1) (fun i=>[]) (fun i=>holders.drop i.1=i.2.2∧i.1≤holders.length∧cJ holders offices=((cJ.L1 (cJ.K1 holders offices)) i.2.2 )∧HF.le h i.2.1) (fun i=>i.2.2.length) (0,h,holders) rd sw ⟨U,Nat.zero_le _,hs0,(HF.le_refl h)⟩ ?_
  rintro ⟨i1,hh1,s1⟩ ⟨hd1,bd,hs3,hl1⟩ ag1 e
  try dsimp only at hd1 bd hl1
  rcases s1 with _ | ⟨y1,rz1⟩
  ·have dJ:=cS hd1
   try dsimp only
   refine sr (az (v':=.bool false) U (cb dJ) (ac (ad (ba U (bM U ?_)))))
   exact hx1 (i1,hh1) _ ⟨bd,hs3,hl1⟩ rd
  ·have dI:=dV hd1
   have bh:=cU hd1
   have e9:=aP hd1
   have gO:=hholders.1.1
   have hszy:=hsz0 y1 (gm hd1)
   try dsimp only
   refine sr (az (v':=.bool true) U (cb dI) (ac (ad (bj U (ai (ad (aU (sr (a8 (gX wD ty101 (hholders.mono (Rp.rT Holder.aJ) hl1).1 (nthZ bh) (bA bh) U U U (fun q3 cs2 A3 ln2 rr2=>?_)))))))))))
   obtain ⟨rb2,rc2,rfl,sl2⟩:=rr2
   refine eM ty101 A3 U (an (sr (an (ad (sr (aa (bE wC U (aa (ac ?_)))))))))
   refine bq (ι:=Nat×(List Int)×Option Addr×Nat×LH) (fun i=>[(0,.slice gd holders.length ga),(1,I offices),(7,.slice i.2.2.1 i.2.1.length i.2.2.2.1),(10,.slice gd holders.length ga),(11,I ((holders.length:Nat):Int)),(12,I ((i1:Nat):Int))]) (fun i=>hh1) (fun i=>i.2.2.2.2) (fun i=>i.1≤y1.length∧cJ holders offices=((fun zg3_7=>(bif (!(df zg3_7)) then false else (cJ.L1 (cJ.K1 holders offices) rz1 ))) i.2.1)∧ei Rp.int 3 hh1 i.2.1 i.2.2.1 i.2.2.2.1 i.2.2.2.2∧i.2.1.length≤0+i.1) ?_ (fun hx3=>?_)
   ·rintro ⟨i3,zb,EH,EG,EI⟩ ⟨j4,hs5,zV,GK⟩ e
    try dsimp only at j4 zV GK
    try dsimp only
    refine sr (aa (lP Rp.cm ([]) EI ([]) ap hM zV (fun h1 hle1 sl3=>aA (v:=.bool (df zb)) Tryz.call96 (oN h1 zb EH EG sl3) U ?_)))
    refine cR U (ac ?_)
    refine aB U (fun c2=>?_) (fun c2=>?_)
    ·have hs6:=hs5.trans (bt c2)
     refine sr (an ?_)
     exact ar [.bool false] FD U hX rd (cs hs6)
    ·have hs8:=hs5.trans (bf c2)
     refine ai (ao (ah (az (v':=I (((i1+1):Nat):Int)) U (bP ob) (aa (ac ?_)))))
     exact ag1 ((i1+1),h1,rz1) _ (Nat.lt_succ_self _) ⟨bF hd1,aP hd1,hs8,(hl1.t hle1)⟩ rd
   ·refine ck (ι:=Nat×(List Int)×Option Addr×Nat×LH×List Holder) (fun i=>[(0,.slice gd holders.length ga),(1,I offices),(7,.slice i.2.2.1 i.2.1.length i.2.2.2.1),(10,.slice gd holders.length ga),(11,I ((holders.length:Nat):Int)),(12,I ((i1:Nat):Int)),(16,.slice rb2 y1.length rc2),(17,I ((y1.length:Nat):Int)),(18,I ((i.1:Nat):Int))]) (fun i=>hh1) (fun i=>i.2.2.2.2.1) (fun i=>y1.drop i.1=i.2.2.2.2.2∧i.1≤y1.length∧cJ holders offices=((cJ.L3 (fun zg3_7=>(bif (!(df zg3_7)) then false else (cJ.L1 (cJ.K1 holders offices) rz1 )))) i.2.2.2.2.2 i.2.1)∧ei Rp.int 3 hh1 i.2.1 i.2.2.1 i.2.2.2.1 i.2.2.2.2.1∧i.2.1.length≤0+i.1) (fun i=>i.2.2.2.2.2.length) (0,[],none,0,[],y1) rd sw ⟨U,Nat.zero_le _,hs3,ei.nil,lo⟩ ?_
    rintro ⟨i3,zb,EH,EG,EI,s3⟩ ⟨hd3,oz,hs9,zV,GK⟩ ag2 e
    try dsimp only at hd3 oz zV GK
    rcases s3 with _ | ⟨y3,rz3⟩
    ·have AN:=cS hd3
     try dsimp only
     refine sr (az (v':=.bool false) U (cb AN) (ac (ad (ba U (bM U ?_)))))
     exact hx3 (i3,zb,EH,EG,EI) _ ⟨oz,hs9,zV,lo⟩ rd
    ·have AM:=dV hd3
     have qA:=cU hd3
     have EF:=aP hd3
     have H0:=sl2.1.1
     try dsimp only
     refine sr (az (v':=.bool true) U (cb AM) (ac (ad (bj U (ai (ad (aU (sr (a8 (fZ (enc:=Holder.cells) (fun _ _ _ e=>e) wC ty133 sl2.1 (nthZ qA) (bA qA) U U U (fun q5 A5=>?_)))))))))))
     refine dT ty133 A5 U U (bT zc133 (fun b3=>bJ 0 ty133 U U U U U U (iF (L':=[(b3,O (Holder.cells y3) 133)]++(EI)) U (ac (ad (sr (ay yp U (aL 0 ty3 U U U (aF U ?_)))))))))
     refine aa ?_
     refine tq 4 [(0,.slice gd holders.length ga),(1,I offices),(7,.slice EH zb.length EG),(9,Q b3),(10,.slice gd holders.length ga),(11,I ((holders.length:Nat):Int)),(12,I ((i1:Nat):Int)),(16,.slice rb2 y1.length rc2),(17,I ((y1.length:Nat):Int)),(18,I ((i3:Nat):Int)),(29,.bool (decide (y3.Weight < 1)||decide (64 < y3.Weight)))] (fun hk1=>?_) (fun e=>?_)
     ·refine au 25 U (fun c3=>?_) (fun c3=>?_)
      ·refine kq (bY (ae U ?_))
       exact hk1 _ ⟨U,U,U,U,U,U,U,U,U,U,(cb (eB c3)),trivial⟩
      ·refine ay yp U (aL 0 ty3 U U U (aF U (ae U ?_)))
       exact hk1 _ ⟨U,U,U,U,U,U,U,U,U,U,(cb (eE c3)),trivial⟩
     refine ac ?_
     refine aB U (fun c4=>?_) (fun c4=>?_)
     ·have hs11:=hs9.trans (bt c4)
      refine sr (an ?_)
      exact ar [.bool false] FD U hX rd (cs hs11)
     ·have hs13:=hs9.trans (bf c4)
      refine ai (ah (aa (ay yq U (aL 0 ty3 U U U (a8 (cf (cells:=[I y3.Person]) eG ty3 zc3 U U kr (fun b4=>a8 (eK Rp.jY ([(b4,O [I y3.Person] 3),(b3,O (Holder.cells y3) 133)]) ([]) (fun G=>[(b4,O [I y3.Person] 3),(b3,O (Holder.cells y3) 133)]++(G)) ap (fun _=>ap) eG ty3 zc3 U bytes3 zV U U (ff 0 U (show bW Rp.int hh1 [I y3.Person] ([y3.Person]) from ⟨[I y3.Person],[],U,U,U,U⟩)) lo lo (fun ob1 oc1 G1 gr1=>?_)))))))))
      refine an (ao (ah (az (v':=I (((i3+1):Nat):Int)) U (bP ob) (aa (ac ?_)))))
      refine cE (L':=G1) js ?_
      exact ag2 ((i3+1),(zb++[y3.Person]),ob1,oc1,G1,rz3) _ (Nat.lt_succ_self _) ⟨bF hd3,aP hd3,hs13,gr1,lo⟩ rd
end Go.Sg
namespace Go.Sg
open Go.Proofs
set_option maxRecDepth 100000
theorem Bd (h:HF) (x:Holder) (s:Int) (bk:Nat):oq Tryz.prog 223 [.agg (Holder.cells x).toArray,.pointer (some ⟨bk,0,none⟩)].toArray h [(bk,Obj.cells (List.toArray [.int .i64 s]) 3 (0,0))]
  (fun r h' B=>r=.returned (.tuple #[])∧h'=h∧B=[(bk,Obj.cells (List.toArray [.int .i64 (IntKind.wrap .i64 (s+x.Weight))]) 3 (0,0))]):=by
 refine aw Tryz.func223 rfl Tryz.ntmps223 rfl fun X hM hX=>?_
 refine ad (ah (dC (fun b2=>ac (ah (aL 1 ty3 rfl rfl rfl (ay yp rfl (aL 0 ty3 rfl rfl rfl (aF rfl (du 1 ty3 rfl rfl rfl rfl rfl rfl (ac ?_))))))))))
 exact uE Tryz.func223 (fun a _ w _=>kF rfl a w) (fun w hw=>hw.sub (List.sublist_cons_self _ _)) ⟨rfl,rfl,rfl⟩
end Go.Sg
namespace Go.Sg
open Go.Proofs
set_option maxHeartbeats 2000000
set_option maxRecDepth 100000
set_option linter.unusedVariables false
theorem ny (h:HF) (q:bp) (jo:gD) (q_q:Addr) (office:Int) (office_q:Addr) (hq:bp.ok h q jo) (aq:At h q_q (bp.cells q jo)) (aoffice:At h office_q [I office]) (hno:0≤office∧office < (q.holders.length:Int)) (hso:q.who.Pairwise (·≤·)) (hsw:q.who.length≤2000000):Itr Tryz.prog (.func (.func 248) #[] (List.toArray [.pointer (some q_q),.pointer (some office_q)])) lV (bI q office) h:=by
 refine uR Tryz.call248 ?_
 intro yf ya yb C Sp Pn h1 A hle m1 m2 m3 hC hy
 refine jW FC U Tryz.ntmps248 U fun X hXM hX=>?_
 have hs0:bI q office=[]++bI q office:=rfl
 refine sr (ay G0 U (ns (j:=1) ty100 (aq.mono hle) U U (eM ty3 (aoffice.mono hle) U ?_)))
 have ho1:0≤(office:Int)∧(office:Int) < ((q.holders).length:Int):=ob
 refine a8 (gX wD ty101 (hq.holders.mono (Rp.rT Holder.aJ) hle).1 ho1 (eN ho1) U U U (fun q1 cs1 A1 ln1 rr1=>?_))
 obtain ⟨rb1,rc1,rfl,sl1⟩:=rr1
 refine eM ty101 A1 U (bE wC U (aa (ac ?_)))
 refine bq (ι:=Nat×List Holder×LH×HF) (fun i=>[]) (fun i=>i.2.2.2) (fun i=>i.2.2.1) (fun i=>i.1≤(nthI q.holders office).length∧bI q office=i.2.1++((bI.K1))∧C i.2.1 i.2.2.2 i.2.2.1∧HF.le h1 i.2.2.2) ?_ (fun hx1=>?_)
 ·rintro ⟨i1,dn1,A1_,hh1⟩ ⟨bd,hs1,hC1_,hl1⟩ e
  try dsimp only at bd hC1_ hl1
  try dsimp only
  refine gv ?_
  have hs2:bI q office=dn1:=hs1.trans (List.append_nil _)
  exact uS [] (A:=A1_) FC U (List.Sublist.refl _) (.inl (hs2 ▸ hC1_))
 ·refine ck (ι:=Nat×List Holder×LH×HF×List Holder) (fun i=>[(0,.func yf ya yb),(1,.pointer (some q_q)),(12,.slice rb1 ((nthI q.holders office).length) rc1),(13,I (((nthI q.holders office).length:Nat):Int)),(14,I ((i.1:Nat):Int))]) (fun i=>i.2.2.2.1) (fun i=>i.2.2.1) (fun i=>(nthI q.holders office).drop i.1=i.2.2.2.2∧i.1≤(nthI q.holders office).length∧bI q office=i.2.1++((bI.L1 q (bI.K1)) i.2.2.2.2 )∧C i.2.1 i.2.2.2.1 i.2.2.1∧HF.le h1 i.2.2.2.1) (fun i=>i.2.2.2.2.length) (0,[],A,h1,(nthI q.holders office)) rd sw ⟨U,Nat.zero_le _,hs0,hC,(HF.le_refl h1)⟩ ?_
  rintro ⟨i1,dn1,A1_,hh1,s1⟩ ⟨hd1,bd,hs3,hC1_,hl1⟩ ag1 e
  try dsimp only at hd1 bd hC1_ hl1
  rcases s1 with _ | ⟨y1,rz1⟩
  ·have dJ:=cS hd1
   try dsimp only
   refine sr (az (v':=.bool false) U (cb dJ) (ac (ad (ba U (bM U ?_)))))
   exact hx1 (i1,dn1,A1_,hh1) _ ⟨bd,hs3,hC1_,hl1⟩ trivial
  ·have dI:=dV hd1
   have bh:=cU hd1
   have e9:=aP hd1
   have gO:=sl1.1.1
   try dsimp only
   refine sr (az (v':=.bool true) U (cb dI) (ac (ad (bj U (ai (ad (aU (sr (a8 (fZ (enc:=Holder.cells) (fun _ _ _ e=>e) wC ty133 (sl1.mono Holder.aJ hl1).1 (nthZ bh) (bA bh) U U U (fun q3 A6=>?_)))))))))))
   refine dT ty133 A6 U U (bT zc133 (fun b2=>bJ 0 ty133 U U U U U U (iF (L':=[(b2,O (Holder.cells y1) 133)]++(A1_)) U (ac (sr (ay GZ U (ns (j:=2) ty31 (aq.mono (hle.t hl1)) U U ?_)))))))
   refine ay yq U (aL 0 ty3 U U U (aA (v:=.tuple #[I ((slices_BinarySearch_int q.who y1.Person).1),.bool ((slices_BinarySearch_int q.who y1.Person).2)]) Tryz.call87 (kX hh1 q.who jo.em jo.el y1.Person (hq.who.mono Rp.cm (hle.t hl1)) ob ob) U ?_))
   refine aa (bR U U (bR U U (bi (an (sr (aa (aa ?_)))))))
   refine au 27 U (fun c2=>?_) (fun c2=>?_)
   ·have hs5:=hs3.trans (congrArg (dn1++·) (bt c2))
    refine aa (dh 0 ty133 U U U ?_)
    have hx2:bI q office=dn1++(y1::(bI.L1 q (bI.K1) rz1 )):=hs5
    refine a8 (lL ([(b2,O (Holder.cells y1) 133)]) A1_ ap (hy dn1 y1 _ _ _ _ hx2 hl1 hC1_ U) U U (fun h5 A7 hle4 hC2=>?_) (fun h6 A8 hle5 hS2=>?_) (fun ch2 h7 A9 hle6 hP2 e=>jj (qh [] (A:=A9) FC (List.sublist_append_right _ _) hP2)))
    ·have hs6:bI q office=(dn1++[y1])++((bI.L1 q (bI.K1) rz1 )):=hx2.trans ap
     refine cR U (ae U (ac (ba U (ai (ao (ah (az (v':=I (((i1+1):Nat):Int)) U (bP ob) (aa (ac ?_)))))))))
     refine cE (L':=A7) js ?_
     exact ag1 ((i1+1),(dn1++[y1]),A7,h5,rz1) _ (Nat.lt_succ_self _) ⟨bF hd1,aP hd1,hs6,hC2,(hl1.t hle4)⟩ rd
    ·refine cR U (ae U (ac (bj U ?_)))
     refine gv ?_
     exact qg [] (A:=A8) FC U js (.inr hS2)
   ·have hs7:=hs3.trans (congrArg (dn1++·) (bf c2))
    refine kq (kq (ae U (ac (ba U (ai (ao (ah (az (v':=I (((i1+1):Nat):Int)) U (bP ob) (aa (ac ?_))))))))))
    refine cE (L':=A1_) js ?_
    exact ag1 ((i1+1),dn1,A1_,hh1,rz1) _ (Nat.lt_succ_self _) ⟨bF hd1,aP hd1,hs7,hC1_,hl1⟩ rd
theorem lq (h:HF) (q:bp) (jo:gD) (office:Int) (hq:bp.ok h q jo) (hno:0≤office∧office < (q.holders.length:Int)) (hso:q.who.Pairwise (·≤·)) (hsw:q.who.length≤2000000):jP Tryz.prog 222 [.agg (bp.cells q jo).toArray,I office] h (fun v h'=>∃ (rv0:Value),v=rv0∧Itr Tryz.prog rv0 lV (dH q office) h'):=by
 refine aw Tryz.func222 U Tryz.ntmps222 U fun X hM hX=>?_
 have hs0:dH q office=dH q office:=rfl
 refine sr (dC (fun b1=>dC (fun b2=>an (sr (cn 1 U hM (fun h1 hle1 hb1=>cn 0 U hM (fun h2 hle2 hb2=>a8 (gj U U (an ?_)))))))))
 have hs1:dH q office=(bI q office):=hs0
 exact dQ [.func (.func 248) #[] #[Q b1,Q b2]] Tryz.func222 U rd ⟨(.func (.func 248) #[] #[Q b1,Q b2]),congrArg (fun r:(List Holder)=>((.func (.func 248) #[] #[Q b1,Q b2]):Value)) hs1.symm,(by rw [hs1];exact (ny h2 q jo ⟨b1,0,none⟩ office ⟨b2,0,none⟩ (hq.mono (hle1.t hle2)) ((dP hb1).mono hle2) (dP hb2) ob ob ob))⟩
theorem pc (h:HF) (q:bp) (jo:gD) (x:Expr) (fu:cM) (hq:bp.ok h q jo) (hx:Expr.ok h x fu) (hno:0≤x.No∧x.No < (q.holders.length:Int)) (hso:q.who.Pairwise (·≤·)) (hsw:q.who.length≤2000000):Ret Tryz.prog 160 [.agg (bp.cells q jo).toArray,.agg (Expr.cells x fu).toArray] h (.bool (dG q x)):=by
 refine aw FB U Tryz.ntmps160 U fun X hM hX=>?_
 have hs0:dG q x=dG q x:=rfl
 refine sr (dC (fun b1=>dC (fun b2=>bT zc4 (fun b3=>ac (ad (sr (dh 2 ty164 U U U (ay mU U (aL 1 ty3 U U U (a8 (dp Tryz.call222 (lq h q jo x.No hq ob ob ob) U (fun v1 h1 hle1 hp1=>?_))))))))))))
 obtain ⟨_,rfl,mo1⟩:=hp1
 refine ac (aU ?_)
 refine gv ?_
 let z1:Nat×Obj:=(b1,O (bp.cells q jo) 164)
 let z2:Nat×Obj:=(b2,O (Expr.cells x fu) 66)
 refine dW (L':=([(b3,O [.bool false] 4),z2,z1])++markB []) ap ?_
 refine kc (it:=v1) (xs:=(dH q x.No)) (ι:=Bool×HF) [] (fun i=>i.2) (fun i=>[(b3,O [.bool i.1] 4),z2,z1]) (fun s i=>dG q x=((dG.L1 (dG.K1)) s i.1)∧HF.le h1 i.2) (fun i=>dG q x=i.1∧HF.le h1 i.2) (fun _=>False) 0 (fun _ _ _=>False) (false,h1) FB U mo1 U nV (fun _ _ _ _ _ hq=>hq) U (show [(b3,O [.bool false] 4),z2,z1]=_ from U) ⟨hs0,(HF.le_refl h1)⟩ ?_ ?_ ?_ ?_ ?_
 ·rintro l1 dm1 lp1 y1 rz1 vs1 ⟨aH,hh1⟩ hr1 X hFR1 ⟨hs1,hl1⟩ hl01 hlr1 hv1 hX hXM hlp1 nx1 rt1 ex1 pn1
  try dsimp only at hl1 hlr1
  obtain rfl:=hv1
  refine dW (L':=[(l1,.loop lp1),(dm1,.deferred (some [])),(b3,O [.bool aH] 4),z2,z1]++(markB [])) ap ?_
  refine ai (kd 0 U hlp1 (aU (sr (du 2 ty4 U U U U U U (ac ?_)))))
  refine dW (L':=rdH l1 dm1 lp1 (([(b3,O [.bool true] 4),z2,z1])++markB [])) ap ?_
  exact rt1 (true,hr1) _ _ _ ⟨hs1,(hl1.t hlr1)⟩ (HF.le_refl _)
 ·rintro dm1 ⟨aH,hh1⟩ hn1 ⟨hs2,hl1⟩ hln1 hl01
  try dsimp only at hl1 hln1
  refine dW (L':=[(b3,O [.bool aH] 4),z2,z1]++(markB (dm1::[]))) ap ?_
  refine ao (sr (du 0 ty4 U U U U U U (ac ?_)))
  have hs3:dG q x=false:=hs2
  refine dW (L':=([(b3,O [.bool false] 4),z2,z1])++markB (dm1::[])) ap ?_
  exact qU (dm1::[]) [.bool false] FB U hX ⟨⟨0,_,_,_,_,U,U,.inr ⟨_,ty4,U⟩⟩,trivial⟩ (cs hs3)
 ·rintro dm1 ⟨aH,hh1⟩ hn1 ⟨hs4,hl1⟩ hln1 hl01
  try dsimp only at hl1 hln1
  refine dW (L':=[(b3,O [.bool aH] 4),z2,z1]++(markB (dm1::[]))) ap ?_
  have hs5:dG q x=aH:=hs4
  refine dW (L':=([(b3,O [.bool aH] 4),z2,z1])++markB (dm1::[])) ap ?_
  exact qU (dm1::[]) [.bool aH] FB U hX ⟨⟨0,_,_,_,_,U,U,.inr ⟨_,ty4,U⟩⟩,trivial⟩ (cs hs5)
 ·exact fun _ _ _ hF=>hF.elim
 ·exact fun _ _ _ _ hF=>hF.elim
theorem nR (h:HF) (q:bp) (jo:gD) (x:Expr) (fu:cM) (hq:bp.ok h q jo) (hx:Expr.ok h x fu) (hno:0≤x.No∧x.No < (q.holders.length:Int)) (hso:q.who.Pairwise (·≤·)) (hsw:q.who.length≤2000000):Ret Tryz.prog 161 [.agg (bp.cells q jo).toArray,.agg (Expr.cells x fu).toArray] h (.bool (cI q x)):=by
 refine aw Tryz.func161 U Tryz.ntmps161 U fun X hM hX=>?_
 have hs0:cI q x=cI q x:=rfl
 refine sr (dC (fun b1=>dC (fun b2=>an (sr (bT zc3 (fun b3=>du 0 ty3 U U U U U U (ac (sr (a8 (gj U U (bT zc261 (fun b4=>du 0 ty261 U U U U U U ?_))))))))))))
 refine ac (ad (sr (dh 3 ty164 U U U (ay mU U (aL 2 ty3 U U U (a8 (dp Tryz.call222 (lq h q jo x.No hq ob ob ob) U (fun v1 h1 hle1 hp1=>?_))))))))
 obtain ⟨_,rfl,mo1⟩:=hp1
 refine ac (aU ?_)
 refine gv ?_
 let z1:Nat×Obj:=(b4,O [.func (.func 223) #[] #[Q b3]] 261)
 let z2:Nat×Obj:=(b1,O (bp.cells q jo) 164)
 let z3:Nat×Obj:=(b2,O (Expr.cells x fu) 66)
 refine dW (L':=([z1,(b3,O [I 0] 3),z3,z2])++markB []) ap ?_
 refine kc (it:=v1) (xs:=(dH q x.No)) (ι:=Int×HF) [] (fun i=>i.2) (fun i=>[z1,(b3,O [I i.1] 3),z3,z2]) (fun s i=>cI q x=((cI.L1 (cI.K1 x)) s i.1)∧HF.le h1 i.2) (fun _=>False) (fun _=>False) 0 (fun _ _ _=>False) (0,h1) Tryz.func161 U mo1 U nV (fun _ _ _ _ _ hq=>hq) U (show [z1,(b3,O [I 0] 3),z3,z2]=_ from U) ⟨hs0,(HF.le_refl h1)⟩ ?_ ?_ ?_ ?_ ?_
 ·rintro l1 dm1 lp1 y1 rz1 vs1 ⟨aH,hh1⟩ hr1 X hFR1 ⟨hs1,hl1⟩ hl01 hlr1 hv1 hX hXM hlp1 nx1 rt1 ex1 pn1
  try dsimp only at hl1 hlr1
  obtain rfl:=hv1
  refine dW (L':=[(l1,.loop lp1),(dm1,.deferred (some [])),z1,(b3,O [I aH] 3),z3,z2]++(markB [])) ap ?_
  refine ah (bT zc133 (fun b6=>bJ 0 ty133 U U U U U U (ac (kd 1 U hlp1 (aU (ah (aL 3 ty261 U U U (dh 0 ty133 U U U (a8 (Gl 4 (o':=O [I (IntKind.wrap .i64 (aH+y1.Weight))] 3) U (kE (args:=[.agg (Holder.cells y1).toArray]) (cap:=[Q b3]) Tryz.call223 (Bd hr1 y1 aH b3)) U U ?_))))))))))
  refine ac (ao ?_)
  let z4:Nat×Obj:=(b3,O [I (IntKind.wrap .i64 (aH+y1.Weight))] 3)
  refine cE (L':=[(l1,.loop { lp1 with state:=.busy }),(dm1,.deferred (some [])),z1,z4,z3,z2]++(markB [])) js ?_
  refine dW (L':=rdH l1 dm1 lp1 (([z1,z4,z3,z2])++markB [])) ap ?_
  exact nx1 ((IntKind.wrap .i64 (aH+y1.Weight)),hr1) _ _ ⟨hs1,(hl1.t hlr1)⟩ (HF.le_refl _)
 ·rintro dm1 ⟨aH,hh1⟩ hn1 ⟨hs2,hl1⟩ hln1 hl01
  try dsimp only at hl1 hln1
  refine dW (L':=[z1,(b3,O [I aH] 3),z3,z2]++(markB (dm1::[]))) ap ?_
  refine ao (sr (aL 1 ty3 U U U (ay ka U (aL 2 ty3 U U U (aF U (an ?_))))))
  have hs3:cI q x=decide (x.N≤aH):=hs2
  refine dW (L':=([z1,(b3,O [I aH] 3),z3,z2])++markB (dm1::[])) ap ?_
  exact qU (dm1::[]) [.bool (decide (x.N≤aH))] Tryz.func161 U hX rd (cs hs3)
 ·exact fun _ _ _ hF=>hF.elim
 ·exact fun _ _ _ hF=>hF.elim
 ·exact fun _ _ _ _ hF=>hF.elim
theorem pp (rec:bp→Expr→Bool) (h:HF) (q:bp) (jo:gD) (x:Expr) (fu:cM) (hrec:∀ (h:HF) (qq:bp) (uK:gD) (qx:Expr) (jA:cM) (hqq:bp.ok h qq uK) (hqx:Expr.ok h qx jA) (hok:OkX (qq.holders.length:Int) qx) (hso:qq.who.Pairwise (·≤·)) (hsw:qq.who.length≤2000000) (_:qx.dep < x.dep),Ret Tryz.prog 97 [.agg (bp.cells qq uK).toArray,.agg (Expr.cells qx jA).toArray] h (.bool (rec qq qx))) (hq:bp.ok h q jo) (hx:Expr.ok h x fu) (hok:OkX (q.holders.length:Int) x) (hso:q.who.Pairwise (·≤·)) (hsw:q.who.length≤2000000):Ret Tryz.prog 162 [.agg (bp.cells q jo).toArray,.agg (Expr.cells x fu).toArray] h (.bool (db.F rec q x)):=by
 refine aw Tryz.func162 U Tryz.ntmps162 U fun X hM hX=>?_
 have hs0:db.F rec q x=db.F rec q x:=rfl
 refine sr (dC (fun b1=>dC (fun b2=>an (sr (an (ad (sr (ay dF U (aL 0 ty64 U U U (bE gg U (aa (ac ?_))))))))))))
 let z1:Nat×Obj:=(b1,O (bp.cells q jo) 164)
 let z2:Nat×Obj:=(b2,O (Expr.cells x fu) 66)
 refine bq (ι:=Nat×Int) (fun i=>[(3,Q b2),(5,I i.2)]) (fun i=>h) (fun i=>[z2,z1]) (fun i=>i.1≤x.L.length∧db.F rec q x=((db.K1 x) i.2)) ?_ (fun hx1=>?_)
 ·rintro ⟨i1,iY⟩ ⟨bd,hs1⟩ e
  try dsimp only at bd
  try dsimp only
  refine sr (aa (ay ka U (aL 0 ty3 U U U (aF U (an ?_)))))
  exact ar [.bool (decide (x.N≤iY))] Tryz.func162 U hX rd (cs hs1)
 ·refine ck (ι:=Nat×Int×List Expr) (fun i=>[(2,Q b1),(3,Q b2),(5,I i.2.1),(9,.slice fu.iE x.L.length fu.iG),(10,I ((x.L.length:Nat):Int)),(11,I ((i.1:Nat):Int))]) (fun i=>h) (fun i=>[z2,z1]) (fun i=>x.L.drop i.1=i.2.2∧i.1≤x.L.length∧db.F rec q x=((db.L1 rec q (db.K1 x)) i.2.2 i.2.1)) (fun i=>i.2.2.length) (0,0,x.L) rd sw ⟨U,Nat.zero_le _,hs0⟩ ?_
  rintro ⟨i1,iY,s1⟩ ⟨hd1,bd,hs3⟩ ag1 e
  try dsimp only at hd1 bd
  rcases s1 with _ | ⟨y1,rz1⟩
  ·have dJ:=cS hd1
   try dsimp only
   refine sr (az (v':=.bool false) U (cb dJ) (ac (ad (ba U (bM U ?_)))))
   exact hx1 (i1,iY) _ ⟨bd,hs3⟩ rd
  ·have dI:=dV hd1
   have bh:=cU hd1
   have e9:=aP hd1
   have gO:=hx.list.1.1
   have hoy:=hok.sub y1 (gm hd1)
   try dsimp only
   refine sr (az (v':=.bool true) U (cb dI) (ac (ad (bj U (ai (ad (aU (sr (a8 (gX gg ty66 hx.list.1 (nthZ bh) (bA bh) U U U (fun q2 cs2 A2 ln2 rr2=>?_)))))))))))
   obtain ⟨r2,rfl,ok2⟩:=rr2
   refine dT ty66 A2 U U (bT zc66 (fun b4=>bJ 0 ty66 U U U U U U (ac (sr (dh 2 ty164 U U U (dh 0 ty66 U U U (aA (v:=.bool (rec q y1)) FA (hrec h q jo y1 r2 hq ok2 ob ob ob (Expr.iv (gm hd1))) U ?_)))))))
   refine ac ?_
   refine aB U (fun c2=>?_) (fun c2=>?_)
   ·have hs5:=hs3.trans (bt c2)
    refine ah (aa (aF U (an (ao (ah (az (v':=I (((i1+1):Nat):Int)) U (bP ob) (aa (ac ?_))))))))
    refine cE (L':=[z2,z1]) js ?_
    exact ag1 ((i1+1),(IntKind.wrap .i64 (iY+1)),rz1) _ (Nat.lt_succ_self _) ⟨bF hd1,aP hd1,hs5⟩ rd
   ·have hs6:=hs3.trans (bf c2)
    refine ai (ao (ah (az (v':=I (((i1+1):Nat):Int)) U (bP ob) (aa (ac ?_)))))
    refine cE (L':=[z2,z1]) js ?_
    exact ag1 ((i1+1),iY,rz1) _ (Nat.lt_succ_self _) ⟨bF hd1,aP hd1,hs6⟩ rd
theorem oy (rec:bp→Expr→Bool) (h:HF) (q:bp) (jo:gD) (x:Expr) (fu:cM) (hrec:∀ (h:HF) (qq:bp) (uK:gD) (qx:Expr) (jA:cM) (hqq:bp.ok h qq uK) (hqx:Expr.ok h qx jA) (hok:OkX (qq.holders.length:Int) qx) (hso:qq.who.Pairwise (·≤·)) (hsw:qq.who.length≤2000000) (_:qx.dep < x.dep),Ret Tryz.prog 97 [.agg (bp.cells qq uK).toArray,.agg (Expr.cells qx jA).toArray] h (.bool (rec qq qx))) (hq:bp.ok h q jo) (hx:Expr.ok h x fu) (hok:OkX (q.holders.length:Int) x) (hso:q.who.Pairwise (·≤·)) (hsw:q.who.length≤2000000) (hk4:x.Kind=4):Ret Tryz.prog 163 [.agg (bp.cells q jo).toArray,.agg (Expr.cells x fu).toArray] h (.bool (iu.F rec q x)):=by
 refine aw Tryz.func163 U Tryz.ntmps163 U fun X hM hX=>?_
 have hs0:iu.F rec q x=iu.F rec q x:=rfl
 have hl2:=hok.two hk4
 refine sr (dC (fun b1=>dC (fun b2=>an (ad (sr (ay G9 U (aL 1 ty3 U U U (ay ka U (aL 0 ty3 U U U (aF U (ac ?_)))))))))))
 refine aB U (fun c1=>?_) (fun c1=>?_)
 ·have c1p:=of_decide_eq_true c1
  have hs1:=hs0.trans (bt c1)
  refine ad ?_
  refine gr ([(b2,O (Expr.cells x fu) 66),(b1,O (bp.cells q jo) 164)]) mixed kr jn (fun fd _=>?_)
  refine tf 0 U U (fun _ _ hj=>kZ ty164 U (hj.nth (i:=1) U) U) (tf 1 U U (fun _ _ _=>dO dF U) (tf 2 U U (fun _ _ hj=>hY ty64 U (hj.nth (i:=0) U) U) ?_))
  have ho1:0≤(0:Int)∧(0:Int) < ((x.L).length:Int):=ob
  refine jC 3 fd jn gg ty66 hx.list.1 ho1 (eN ho1) U U U U kr (fun q1 cs1 A1 ln1 rr1=>?_)
  obtain ⟨r1,rfl,ok1⟩:=rr1
  refine tf 4 U U (fun _ _ hj=>j8 ty66 (A1.mono hj.1) U U) (tn 5 U (fU (v:=.bool (rec q (nthI x.L 0))) FA (hrec h q jo (nthI x.L 0) r1 hq ok1 (hok.sub _ (ki ob)) ob ob (Expr.iv (ki ob))) U ?_))
  refine ⟨jn,(tf 6 U U (fun _ _ _=>gG) ?_)⟩
  refine cd kr ?_
  exact ar [.bool (rec q (nthI x.L 0))] Tryz.func163 U hX rd (cs hs1)
 ·have c1p:=of_decide_eq_false c1
  have hs3:=hs0.trans (bf c1)
  refine ai (ad ?_)
  refine gr ([(b2,O (Expr.cells x fu) 66),(b1,O (bp.cells q jo) 164)]) mixed kr jn (fun xK _=>?_)
  refine tf 0 U U (fun _ _ hj=>kZ ty164 U (hj.nth (i:=1) U) U) (tf 1 U U (fun _ _ _=>dO dF U) (tf 2 U U (fun _ _ hj=>hY ty64 U (hj.nth (i:=0) U) U) ?_))
  have ho2:0≤(1:Int)∧(1:Int) < ((x.L).length:Int):=ob
  refine jC 3 xK jn gg ty66 hx.list.1 ho2 (eN ho2) U U U U kr (fun q2 cs2 A2 ln2 rr2=>?_)
  obtain ⟨r2,rfl,ok2⟩:=rr2
  refine tf 4 U U (fun _ _ hj=>j8 ty66 (A2.mono hj.1) U U) (tn 5 U (fU (v:=.bool (rec q (nthI x.L 1))) FA (hrec h q jo (nthI x.L 1) r2 hq ok2 (hok.sub _ (ki ob)) ob ob (Expr.iv (ki ob))) U ?_))
  refine ⟨jn,(tf 6 U U (fun _ _ _=>gG) ?_)⟩
  refine cd kr ?_
  exact ar [.bool (rec q (nthI x.L 1))] Tryz.func163 U hX rd (cs hs3)
theorem GV (rec:bp→Expr→Bool) (h:HF) (q:bp) (jo:gD) (x:Expr) (fu:cM) (hq:bp.ok h q jo) (hx:Expr.ok h x fu)
  (hrec:∀ (h:HF) (qq:bp) (uK:gD) (qx:Expr) (jA:cM) (_:bp.ok h qq uK) (_:Expr.ok h qx jA) (_:OkX (qq.holders.length:Int) qx) (_:qq.who.Pairwise (·≤·)) (_:qq.who.length≤2000000) (_:qx.dep < x.dep),Ret Tryz.prog 97 [.agg (bp.cells qq uK).toArray,.agg (Expr.cells qx jA).toArray] h (.bool (rec qq qx)))
  (hok:OkX (q.holders.length:Int) x) (hso:q.who.Pairwise (·≤·)) (hsw:q.who.length≤2000000):
  vf Tryz.prog (List.getD [.nilFunc,.func (.func 160) #[] #[],.func (.func 161) #[] #[],.func (.func 162) #[] #[],.func (.func 163) #[] #[]] x.Kind.toNat .nilFunc) [.agg (bp.cells q jo).toArray,.agg (Expr.cells x fu).toArray] h [] (.bool (fulQ rec q x)):=by
 have hk:=hok.kind
 have hc:x.Kind=1∨x.Kind=2∨x.Kind=3∨x.Kind=4:=by omega
 rcases hc with e | e | e | e
 ·rw [show fulQ rec q x=dG q x from by simp [fulQ,e],e];exact je (cap:=[]) Tryz.call160 (pc h q jo x fu hq hx (hok.no ob) hso hsw)
 ·rw [show fulQ rec q x=cI q x from by simp [fulQ,e],e];exact je (cap:=[]) Tryz.call161 (nR h q jo x fu hq hx (hok.no ob) hso hsw)
 ·rw [show fulQ rec q x=db.F rec q x from by simp [fulQ,e],e];exact je (cap:=[]) Tryz.call162 (pp rec h q jo x fu hrec hq hx hok hso hsw)
 ·rw [show fulQ rec q x=iu.F rec q x from by simp [fulQ,e],e];exact je (cap:=[]) Tryz.call163 (oy rec h q jo x fu hrec hq hx hok hso hsw e)
theorem nw (rec:bp→Expr→Bool) (h:HF) (q:bp) (jo:gD) (x:Expr) (fu:cM) (hrec:∀ (h:HF) (qq:bp) (uK:gD) (qx:Expr) (jA:cM) (hqq:bp.ok h qq uK) (hqx:Expr.ok h qx jA) (hok:OkX (qq.holders.length:Int) qx) (hso:qq.who.Pairwise (·≤·)) (hsw:qq.who.length≤2000000) (_:qx.dep < x.dep),Ret Tryz.prog 97 [.agg (bp.cells qq uK).toArray,.agg (Expr.cells qx jA).toArray] h (.bool (rec qq qx))) (hq:bp.ok h q jo) (hx:Expr.ok h x fu) (hok:OkX (q.holders.length:Int) x) (hso:q.who.Pairwise (·≤·)) (hsw:q.who.length≤2000000):Ret Tryz.prog 97 [.agg (bp.cells q jo).toArray,.agg (Expr.cells x fu).toArray] h (.bool (cw.F rec q x)):=by
 refine aw Tryz.func97 U Tryz.ntmps97 U fun X hM hX=>?_
 have hs0:cw.F rec q x=cw.F rec q x:=rfl
 have hkd:=hok.kind
 refine sr (dC (fun b1=>dC (fun b2=>an (sr (a8 (Gm (cells:=[.nilFunc,.func (.func 160) #[] #[],.func (.func 161) #[] #[],.func (.func 162) #[] #[],.func (.func 163) #[] #[]]) Tryz.underlying227 ty226 zc227 kr ?_))))))
 refine bT zc227 (fun b3=>bJ 0 ty227 U U U U U U (ac (ad (fV 0 U hM (fun h1 hle1 hb1=>?_)))))
 refine gr ([(b2,O (Expr.cells x fu) 66),(b1,O (bp.cells q jo) 164)]) mixed kr jn (fun fd _=>?_)
 refine tf 0 U U (fun _ _ _=>dO kP U) (tf 1 U U (fun _ _ hj=>hY ty3 U (hj.nth (i:=0) U) U) ?_)
 have ho1:0≤(x.Kind:Int)∧(x.Kind:Int) < 5:=ob
 have A1:=IN (dP hb1) ho1
 refine tf 2 U U (fun _ _ _=>Gr Tryz.underlying227 ty226 U U ho1) (tf 3 U U (fun _ _ hj=>gu ty226 (A1.mono hj.1) U) (tf 4 U U (fun _ _ hj=>kZ ty164 U (hj.nth (i:=1) U) U) ?_))
 refine tf 5 U U (fun _ _ hj=>kZ ty66 U (hj.nth (i:=0) U) U) (tn 6 U (nv (v:=.bool (fulQ rec q x)) [] (List.nil_sublist _) (GV rec h1 q jo x fu (hq.mono hle1) (hx.mono hle1) hrec hok hso hsw) U U ?_))
 refine ⟨jn,(tf 7 U U (fun _ _ _=>gG) ?_)⟩
 refine cd kr ?_
 exact ar [.bool (fulQ rec q x)] Tryz.func97 U hX rd (cs hs0)
theorem kv:∀ (m:Nat) (h:HF) (q:bp) (jo:gD) (x:Expr) (fu:cM) (_:x.dep≤m) (hq:bp.ok h q jo) (hx:Expr.ok h x fu) (hok:OkX (q.holders.length:Int) x) (hso:q.who.Pairwise (·≤·)) (hsw:q.who.length≤2000000),Ret Tryz.prog 97 [.agg (bp.cells q jo).toArray,.agg (Expr.cells x fu).toArray] h (.bool (cw.go m q x))
 | 0,h,q,jo,x,fu,hd,hq,hx,hok,hso,hsw=>absurd hd (Nat.not_le.2 (Expr.j1 _))
 | m+1,h,q,jo,x,fu,hd,hq,hx,hok,hso,hsw=>nw (cw.go m) h q jo x fu (fun qh_ qq uK qx jA qhq qhx qhok qhso qhsw qd=>kv m qh_ qq uK qx jA ob qhq qhx qhok qhso qhsw) hq hx hok hso hsw
theorem nS (h:HF) (q:bp) (jo:gD) (x:Expr) (fu:cM) (hq:bp.ok h q jo) (hx:Expr.ok h x fu) (hok:OkX (q.holders.length:Int) x) (hso:q.who.Pairwise (·≤·)) (hsw:q.who.length≤2000000):Ret Tryz.prog 97 [.agg (bp.cells q jo).toArray,.agg (Expr.cells x fu).toArray] h (.bool (cw q x)):=kv _ h q jo x fu (Nat.le_refl _) hq hx hok hso hsw
end Go.Sg
namespace Go.Sg
open Go.Proofs
set_option maxHeartbeats 2000000
set_option maxRecDepth 100000
set_option linter.unusedVariables false
theorem tc (h:HF) (p:Policy) (fp:fh) (kind:Int) (value:Int) (holders:(List (List Holder))) (gd:Option Addr) (ga:Nat) (who:(List Int)) (em:Option Addr) (el:Nat) (hp:Policy.ok h p fp) (hholders:SlC (Rp.sl Holder.rp) h gd ga holders) (hwho:SlC Rp.int h em el who) (hsm:smP p) (hsz0:∀ y∈holders,y.length≤2000000) (hsw:who.length≤2000000) (hk:Kinds h):Ret Tryz.prog 48 [.agg (Policy.cells p fp).toArray,I kind,I value,.slice gd holders.length ga,.slice em who.length el] h (.tuple #[.bool ((cp p kind value holders who).1),I ((cp p kind value holders who).2)]):=by
 refine aw Bm U Tryz.ntmps48 U fun X hM hX=>?_
 have hs0:cp p kind value holders who=cp p kind value holders who:=rfl
 refine sr (dC (fun b1=>bi (an (ad (sr (dh 0 ty68 U U U (aA (v:=I (cy p)) Tryz.call94 (oM h p fp hp ob hk) U ?_)))))))
 refine an (sr (aa (aF U (ac ?_))))
 refine aB U (fun c1=>?_) (fun c1=>?_)
 ·have hs1:=hs0.trans (bt c1)
  refine sr (aa (bi (an ?_)))
  have hs2:cp p kind value holders who=(false,(cy p)):=hs1
  exact ar [.bool false,I (cy p)] Bm U hX rd (congrArg (fun r:(Bool×Int)=>(.tuple #[.bool r.1,I r.2]:Value)) hs2.symm)
 ·have hs3:=hs0.trans (bf c1)
  refine ai (ad (aU (sr (aa (aF U (aa ?_))))))
  refine tq 6 [(1,I kind),(2,I value),(3,.slice gd holders.length ga),(4,.slice em who.length el),(5,Q b1),(27,.bool (decide (kind < 0)||decide (((p.Kinds.length:Nat):Int)≤kind)))] (fun hk1=>?_) (fun e=>?_)
  ·refine au 21 U (fun c2=>?_) (fun c2=>?_)
   ·refine kq (kq (bY (ae U ?_)))
    exact hk1 _ ⟨U,U,U,U,U,(cb (eB c2)),trivial⟩
   ·refine aa (ay kO U (aL 0 ty62 U U U (bE kV U (aF U (ae U ?_)))))
    exact hk1 _ ⟨U,U,U,U,U,(cb (eE c2)),trivial⟩
  refine aa ?_
  refine tq 3 [(1,I kind),(2,I value),(3,.slice gd holders.length ga),(4,.slice em who.length el),(5,Q b1),(31,.bool ((decide (kind < 0)||decide (((p.Kinds.length:Nat):Int)≤kind))||decide (value < 0)))] (fun hk2=>?_) (fun e=>?_)
  ·refine au 28 U (fun c3=>?_) (fun c3=>?_)
   ·refine kq (ae U ?_)
    exact hk2 _ ⟨U,U,U,U,U,(cb (eB c3)),trivial⟩
   ·refine aa (aF U (ae U ?_))
    exact hk2 _ ⟨U,U,U,U,U,(cb (eE c3)),trivial⟩
  refine aa ?_
  refine tq 3 [(1,I kind),(2,I value),(3,.slice gd holders.length ga),(4,.slice em who.length el),(5,Q b1),(35,.bool (((decide (kind < 0)||decide (((p.Kinds.length:Nat):Int)≤kind))||decide (value < 0))||decide (1099511627776 < value)))] (fun hk3=>?_) (fun e=>?_)
  ·refine au 32 U (fun c4=>?_) (fun c4=>?_)
   ·refine kq (ae U ?_)
    exact hk3 _ ⟨U,U,U,U,U,(cb (eB c4)),trivial⟩
   ·refine aa (aF U (ae U ?_))
    exact hk3 _ ⟨U,U,U,U,U,(cb (eE c4)),trivial⟩
  refine an ?_
  refine aB U (fun c5=>?_) (fun c5=>?_)
  ·have hs4:=hs3.trans (bt c5)
   refine sr (bi (an ?_))
   have hs5:cp p kind value holders who=(false,1):=hs4
   exact ar [.bool false,I 1] Bm U hX rd (congrArg (fun r:(Bool×Int)=>(.tuple #[.bool r.1,I r.2]:Value)) hs5.symm)
  ·have hs6:=hs3.trans (bf c5)
   refine sr (aa (ay jO U (aL 0 ty62 U U U (bE kV U (aA (v:=.bool (cJ holders ((p.Offices.length:Nat):Int))) Tryz.call95 (uM h holders gd ga ((p.Offices.length:Nat):Int) hholders ob) U ?_)))))
   refine cR U (an ?_)
   refine aB U (fun c6=>?_) (fun c6=>?_)
   ·have hs7:=hs6.trans (bt c6)
    refine sr (bi (an ?_))
    have hs8:cp p kind value holders who=(false,210):=hs7
    exact ar [.bool false,I 210] Bm U hX rd (congrArg (fun r:(Bool×Int)=>(.tuple #[.bool r.1,I r.2]:Value)) hs8.symm)
   ·have hs9:=hs6.trans (bf c6)
    refine sr (aa (aA (v:=.bool (df who)) Tryz.call96 (oN h who em el hwho) U (cR U (an ?_))))
    refine aB U (fun c7=>?_) (fun c7=>?_)
    ·have hs10:=hs9.trans (bt c7)
     refine sr (bi (an ?_))
     have hs11:cp p kind value holders who=(false,1):=hs10
     exact ar [.bool false,I 1] Bm U hX rd (congrArg (fun r:(Bool×Int)=>(.tuple #[.bool r.1,I r.2]:Value)) hs11.symm)
    ·have hs12:=hs9.trans (bf c7)
     refine ai (ao (sr (aa (aa (aa (a8 (fO (cells:=[I value,.slice gd holders.length ga,.slice em who.length el]) (places:=[(0,1),(1,1),(2,1)]) Tryz.underlying164 zc164 kr kr ?_)))))))
     refine ay fC U (aL 0 ty63 U U U (aa ?_))
     have ho1:0≤(kind:Int)∧(kind:Int) < ((p.Rules).length:Int):=(by have hq:=uZ (by simpa using c1);simp only [decide_eq_true_eq,decide_eq_false_iff_not,Bool.and_eq_true,Bool.or_eq_true,Bool.not_eq_true',Bool.not_eq_false',Bool.and_eq_false_iff,Bool.or_eq_false_iff,beq_iff_eq,beq_eq_false_iff_ne,bne_iff_ne,bne_eq_false_iff_eq,List.length_append,List.length_cons,List.length_nil,List.length_drop] at c5;omega)
     refine a8 (gX jV ty107 hp.Rules.1 ho1 (eN ho1) U U U (fun q1 cs1 A1 ln1 rr1=>?_))
     obtain ⟨r1,rfl,ok1⟩:=rr1
     refine ay kn U (uO (j:=3) ty66 A1 U U (aA (v:=.bool (cw (bp.mk value holders who) ((nthI p.Rules kind).Expr))) FA (nS h (bp.mk value holders who) (gD.mk gd ga em el) ((nthI p.Rules kind).Expr) r1.Expr (show bp.ok h (bp.mk value holders who) (gD.mk gd ga em el) from ⟨hholders,hwho⟩) ok1.Expr (by have hq:=uZ (by simpa using c1);have hr:=E7 (by simpa using c6);show OkX (holders.length:Int) _;rw [hr];exact hq.2.2 _ (DS (ki ho1))) (yT (by simpa using c7)) hsw) U ?_))
     refine bi (an ?_)
     have hs13:cp p kind value holders who=((cw (bp.mk value holders who) ((nthI p.Rules kind).Expr)),0):=hs12
     exact ar [.bool (cw (bp.mk value holders who) ((nthI p.Rules kind).Expr)),I 0] Bm U hX rd (congrArg (fun r:(Bool×Int)=>(.tuple #[.bool r.1,I r.2]:Value)) hs13.symm)
theorem mW (h:HF) (l:(List Version)) (fc:Option Addr) (fb:Nat) (old:Bool) (hl:SlC Version.rp h fc fb l):jP Tryz.prog 142 [.slice fc l.length fb,.bool old] h (fun v h'=>∃ (rb0:Option Addr) (rc0:Nat),v=.slice rb0 (il l old).length rc0∧SlC Version.rp h' rb0 rc0 (il l old)):=by
 refine aw Tryz.func142 U Tryz.ntmps142 U fun X hM hX=>?_
 have hs0:il l old=il l old:=rfl
 refine sr (an (sr (aa (an ?_))))
 have hs1:il l old=l:=hs0
 exact dQ [.slice fc l.length fb] Tryz.func142 U rd ⟨fc,fb,congrArg (fun r:(List Version)=>(.slice fc r.length fb:Value)) hs1.symm,(by rw [hs1];exact hl)⟩
theorem qP (h:HF) (l:(List Version)) (fc:Option Addr) (fb:Nat) (old:Bool) (hl:SlC Version.rp h fc fb l) (hne:0 < l.length):jP Tryz.prog 143 [.slice fc l.length fb,.bool old] h (fun v h'=>∃ (rb0:Option Addr) (rc0:Nat),v=.slice rb0 (gR l old).length rc0∧SlC Version.rp h' rb0 rc0 (gR l old)):=by
 refine aw Tryz.func143 U Tryz.ntmps143 U fun X hM hX=>?_
 have hs0:gR l old=gR l old:=rfl
 refine sr (an (ad (sr (aa (cR U (ac ?_))))))
 refine aB U (fun c1=>?_) (fun c1=>?_)
 ·have hs1:=hs0.trans (bt c1)
  refine sr (an ?_)
  have hs2:gR l old=[]:=hs1
  exact dQ [.slice none 0 0] Tryz.func143 U rd ⟨none,0,congrArg (fun r:(List Version)=>(.slice none r.length 0:Value)) hs2.symm,(by rw [hs2];exact SlC.nil)⟩
 ·have hs3:=hs0.trans (bf c1)
  refine ai (sr (aa (a8 (Gd lu ty70 hl.1 hl.2 ob U U U (fun sb1 sc1 sl1=>?_)))))
  refine an ?_
  have hs4:gR l old=(l.take ((1:Int)).toNat):=hs3
  exact dQ [.slice sb1 ((l.take ((1:Int)).toNat).length) sc1] Tryz.func143 U rd ⟨sb1,sc1,congrArg (fun r:(List Version)=>(.slice sb1 r.length sc1:Value)) hs4.symm,(by rw [hs4];exact sl1)⟩
theorem qO (h:HF) (l:(List Version)) (fc:Option Addr) (fb:Nat) (old:Bool) (hl:SlC Version.rp h fc fb l) (hne:0 < l.length):jP Tryz.prog 144 [.slice fc l.length fb,.bool old] h (fun v h'=>∃ (rb0:Option Addr) (rc0:Nat),v=.slice rb0 (ik l old).length rc0∧SlC Version.rp h' rb0 rc0 (ik l old)):=by
 refine aw Tryz.func144 U Tryz.ntmps144 U fun X hM hX=>?_
 have hs0:ik l old=ik l old:=rfl
 have hbl:=hl.1.1
 refine sr (an (sr (aa (aa (bE lu U (az (v':=I (((l.length:Nat):Int) - 1)) U (iZ ob) ?_))))))
 refine a8 (Ge lu ty70 hl.1 hl.2 ob U U U (fun sb1 sc1 sl1=>?_))
 refine an ?_
 have hs1:ik l old=(l.drop (((((l.length:Nat):Int) - 1):Int)).toNat):=hs0
 exact dQ [.slice sb1 ((l.drop (((((l.length:Nat):Int) - 1):Int)).toNat).length) sc1] Tryz.func144 U rd ⟨sb1,sc1,congrArg (fun r:(List Version)=>(.slice sb1 r.length sc1:Value)) hs1.symm,(by rw [hs1];exact sl1)⟩
theorem nI (h:HF)   : jP Tryz.prog 83 [] h (fun v h'=>∃ (rk0:Nat),v=.map (some rk0)∧ou (Value.int .i64) VFn h' rk0 (jQ)):=by
 refine aw Tryz.func83 U Tryz.ntmps83 U fun X hM hX=>?_
 have hs0:jQ=jQ:=rfl
 refine sr (an (sr (an (sr (a8 (oC (fun b1=>a8 (iL 0 (k:=1) (x:=(Value.func (.func 143) #[] #[])) Bl (e7 kx) U (gJ.nil (enc:=(Value.int .i64)) (V:=VFn) (h:=h)) U U U (fun mo1 hm1=>?_)))))))))
 refine a8 (iL 0 (k:=2) (x:=(Value.func (.func 144) #[] #[])) Bl (e7 kx) U hm1 U U U (fun mo2 hm2=>aa (a8 (iL 0 (k:=3) (x:=(Value.func (.func 142) #[] #[])) Bl (e7 kx) U hm2 U U U (fun mo3 hm3=>?_)))))
 refine aa (a8 (iL 0 (k:=4) (x:=(Value.func (.func 142) #[] #[])) Bl (e7 kx) U hm3 U U U (fun mo4 hm4=>aa (an ?_))))
 refine fV 0 U hM (fun h1 hle1 hb1=>?_)
 have mc1:ou (Value.int .i64) VFn h1 b1 (mput (mput (mput (mput ([]) 1 (Value.func (.func 143) #[] #[])) 2 (Value.func (.func 144) #[] #[])) 3 (Value.func (.func 142) #[] #[])) 4 (Value.func (.func 142) #[] #[])):=⟨_,hb1,hm4.mono VFn.mono hle1⟩
 have hs1:jQ=(mput (mput (mput (mput ([]) 1 (Value.func (.func 143) #[] #[])) 2 (Value.func (.func 144) #[] #[])) 3 (Value.func (.func 142) #[] #[])) 4 (Value.func (.func 142) #[] #[])):=hs0
 exact dQ [.map (some b1)] Tryz.func83 U rd ⟨b1,congrArg (fun r:(List (Int×Value))=>(.map (some b1):Value)) hs1.symm,(by rw [hs1];exact mc1)⟩
theorem Ch (mode:Int) (l:List Version) (old:Bool):(judgesP mode l old).length≤l.length:=by
 unfold judgesP il gR ik
 cases mode==1 <;> cases mode==2 <;> cases old <;> simp <;> omega
theorem Cf (h:HF) (mode:Int) (hm:1≤mode∧mode≤4) (l:List Version) (fc:Option Addr) (fb:Nat) (old:Bool) (hl:SlC Version.rp h fc fb l) (hne:0 < l.length):
  Ih Tryz.prog (mgetD jQ mode Value.nilFunc) [.slice fc l.length fb,.bool old] h (fun v h'=>∃ (rb0:Option Addr) (rc0:Nat),v=.slice rb0 (judgesP mode l old).length rc0∧SlC Version.rp h' rb0 rc0 (judgesP mode l old)):=by
 have:mode=1∨mode=2∨mode=3∨mode=4:=by omega
 rcases this with rfl | rfl | rfl | rfl
 ·exact kE (cap:=[]) (args:=[.slice fc l.length fb,.bool old]) Tryz.call143 (qP h l fc fb old hl hne)
 ·exact kE (cap:=[]) (args:=[.slice fc l.length fb,.bool old]) Tryz.call144 (qO h l fc fb old hl hne)
 ·exact kE (cap:=[]) (args:=[.slice fc l.length fb,.bool old]) Tryz.call142 (mW h l fc fb old hl)
 ·exact kE (cap:=[]) (args:=[.slice fc l.length fb,.bool old]) Tryz.call142 (mW h l fc fb old hl)
theorem tJ (h:HF) (mode:Int) (permits:(List Bool)) (jc:Option Addr) (jb:Nat) (hpermits:SlC Rp.bool h jc jb permits):Ret Tryz.prog 164 [I mode,.slice jc permits.length jb] h (I (fN mode permits)):=by
 refine aw Fz U Tryz.ntmps164 U fun X hM hX=>?_
 have hs0:fN mode permits=fN mode permits:=rfl
 refine sr (an (ad (sr (a8 (dp Tryz.call83 (nI h  ) U (fun v1 h1 hle1 hp1=>?_))))))
 obtain ⟨rk1,rfl,mo1⟩:=hp1
 refine aa ?_
 obtain ⟨o1,hb1,hm1⟩:=mo1
 refine a8 (vq (k:=mode) Bl (e7 kx) hb1 hm1 (jr zv141) (show VFn _ (.nilFunc) Value.nilFunc from U) U U (fun v2 hv1=>?_))
 obtain rfl:=hv1
 refine aa (bR U U (bR U U (bi (an (sr (aa (cR U (ac ?_))))))))
 refine aB U (fun c1=>?_) (fun c1=>?_)
 ·have hs1:=hs0.trans (bt c1)
  refine sr (an ?_)
  exact ar [I 270] Fz U hX rd (ci hs1)
 ·have hs3:=hs0.trans (bf c1)
  refine ai (ad (sr (aa (bE qS U (aF U (ac ?_))))))
  refine aB U (fun c2=>?_) (fun c2=>?_)
  ·have c2p:=of_decide_eq_true c2
   have hs4:=hs3.trans (bt c2)
   refine sr (an ?_)
   exact ar [I 1] Fz U hX rd (ci hs4)
  ·have c2p:=of_decide_eq_false c2
   have hs6:=hs3.trans (bf c2)
   refine ai (sr (an ?_))
   exact ar [I 0] Fz U hX rd (ci hs6)
theorem oY (h:HF) (s:(List Bool)) (pP:Option Addr) (pi:Nat) (f:(Bool→Bool)) (f_v:Value) (hs:SlC Rp.bool h pP pi s) (hf:∀ (h':HF) (cD:Bool),HF.le h h'→vf Tryz.prog f_v [.bool cD] h' [] (.bool (f cD))):Ret Tryz.prog 224 [.slice pP s.length pi,f_v] h (I (cV s f)):=by
 refine aw Tryz.func224 U Tryz.ntmps224 U fun X hM hX=>?_
 have hs0:cV s f=cV s f:=rfl
 refine sr (an (ad (sr (aa (bE qS U (aa (ac ?_)))))))
 refine bq (ι:=Nat) (fun i=>[]) (fun i=>h) (fun i=>[]) (fun i=>i≤s.length∧cV s f=((cV.K1))) ?_ (fun hx1=>?_)
 ·rintro i1 ⟨bd,hs1⟩ e
  try dsimp only at bd
  try dsimp only
  refine sr (an ?_)
  exact ar [I (-1)] Tryz.func224 U hX rd (ci hs1)
 ·refine ck (ι:=Nat×List Bool) (fun i=>[(0,.slice pP s.length pi),(1,f_v),(7,I ((s.length:Nat):Int)),(8,I ((i.1:Nat):Int))]) (fun i=>h) (fun i=>[]) (fun i=>s.drop i.1=i.2∧i.1≤s.length∧cV s f=((cV.L1 f (cV.K1)) i.2 i.1)) (fun i=>i.2.length) (0,s) rd sw ⟨U,Nat.zero_le _,hs0⟩ ?_
  rintro ⟨i1,s1⟩ ⟨hd1,bd,hs3⟩ ag1 e
  try dsimp only at hd1 bd
  rcases s1 with _ | ⟨y1,rz1⟩
  ·have dJ:=cS hd1
   try dsimp only
   refine sr (az (v':=.bool false) U (cb dJ) (ac (ad (ba U (bM U ?_)))))
   exact hx1 i1 _ ⟨bd,hs3⟩ trivial
  ·have dI:=dV hd1
   have bh:=cU hd1
   have e9:=aP hd1
   have gO:=hs.1.1
   try dsimp only
   refine sr (az (v':=.bool true) U (cb dI) (ac (ad (bj U (ai (ad (aU (sr (aa (an (sr (aa (aa (aa (a8 (fZ (enc:=fun y=>[.bool y]) (fun _ _ _ e=>e) qS ty4 hs.1 (nthZ bh) (bA bh) U U U (fun q2 A2=>?_)))))))))))))))))
   refine eM ty4 A2 U (a8 (nv (v:=.bool (f y1)) [] (List.nil_sublist _) (hf h y1 (HF.le_refl _)) U U (ac ?_)))
   refine aB U (fun c2=>?_) (fun c2=>?_)
   ·have hs5:=hs3.trans (bt c2)
    refine sr (aa (an ?_))
    exact ar [I ((i1:Nat):Int)] Tryz.func224 U hX rd (ci hs5)
   ·have hs7:=hs3.trans (bf c2)
    refine ai (ao (ah (az (v':=I (((i1+1):Nat):Int)) U (bP ob) (aa (ac ?_)))))
    exact ag1 ((i1+1),rz1) _ (Nat.lt_succ_self _) ⟨bF hd1,aP hd1,hs7⟩ rd
theorem mK (h:HF) (l:(List Bool)) (fc:Option Addr) (fb:Nat) (ok:(Bool→Bool)) (ok_v:Value) (hl:SlC Rp.bool h fc fb l) (hok:∀ (h':HF) (cD:Bool),HF.le h h'→vf Tryz.prog ok_v [.bool cD] h' [] (.bool (ok cD))):Ret Tryz.prog 165 [.slice fc l.length fb,ok_v] h (I (bL l ok)):=by
 refine aw Tryz.func165 U Tryz.ntmps165 U fun X hM hX=>?_
 have hs0:bL l ok=bL l ok:=rfl
 refine sr (an (sr (aa (aa (aA (v:=I (cV l ok)) Tryz.call224 (oY h l fc fb ok ok_v hl hok) U (an ?_))))))
 exact ar [I (cV l ok)] Tryz.func165 U hX rd (ci hs0)
end Go.Sg
