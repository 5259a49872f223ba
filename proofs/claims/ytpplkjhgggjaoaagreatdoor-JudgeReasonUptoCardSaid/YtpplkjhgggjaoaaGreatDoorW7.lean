import Derived.Test.YtpplkjhgggjaoaaGreatDoorW6
/- A part of the proof of JudgeReason. -/
set_option linter.unusedVariables false
set_option linter.unusedSimpArgs false
set_option maxRecDepth 100000
namespace Go.Sg
open Go.Proofs Go.Proofs.Tryz
set_option maxHeartbeats 2000000
theorem nX (h:HF) (l:List Approval) (e8:Option Addr) (eZ:Nat) (doc:Int) (begun:Int) (think:Int) (fC:Int) (known:Int) (hl:SlC Approval.rp h e8 eZ l) (hsz:l.length≤2000000):jN prog 28 [.slice e8 l.length eZ,I doc,I begun,I think,I fC,I known] h (fun v h'=>∃ (rb0:Option Addr) (rc0:Nat),v=.tuple #[.slice rb0 ((bH l doc begun think fC known).1).length rc0,I ((bH l doc begun think fC known).2)]∧SlC Approval.rp h' rb0 rc0 ((bH l doc begun think fC known).1)):=by
 refine sT func28 U ntmps28 U fun X hM hX hF=>?_
 have hs0:bH l doc begun think fC known=bH l doc begun think fC known:=rfl
 have hst:=sL l doc fC known
 refine sr (cA (fun b1=>cA (fun b2=>cA (fun b3=>qO 7 U (av call71 (qj _ _ _ _ hl) U (qO 7 U (ai hs0 U (fun c1 hs1=>?_) (fun c1 hs2=>?_))))))))
 ·refine qT 6 U ?_
  have hs3:bH l doc begun think fC known=([],(bU l)):=hs1
  exact nretH [.slice none 0 0,I (bU l)] ⟨none,0,congrArg (fun r:(List Approval×Int)=>(.tuple #[.slice none r.1.length 0,I r.2]:Value)) hs3.symm,(by rw [hs3];exact SlC.nil)⟩
 refine qT 5 U (aF (bV (cells:=[I doc]) fa ty3 zc3 U U kr (fun b4=>aT 0 U hM (fun h1 hle1 hb1=>?_))))
 have sl1:SlC Rp.int h1 (some ⟨b4,0,none⟩) 1 ([doc]):=bu.slB0 (T:=3) (fz:=(0,0)) ((show bu Rp.int h [I doc] ([doc]) from ⟨[I doc],[],rfl,rfl,rfl,rfl⟩).mono Rp.aY hle1) hb1
 refine av C1 (iK _ 4095 _ _ _ sl1) U (qO 2 U (bY 8 [23,24,25,26,27,28,29,30,31] 23 31 (!(dh 1099511627775 ([begun,think,fC,known]))) U (fun c2 hk1=>?_) (fun e=>?_)))
 ·refine qL 4 [2,1,0] U (aF (bV (cells:=[I begun,I think,I fC,I known]) fa ty3 zc3 U U kr (fun b5=>aT 0 U hM (fun h2 hle2 hb2=>?_))))
  have sl2:SlC Rp.int h2 (some ⟨b5,0,none⟩) 4 ([begun,think,fC,known]):=bu.slB0 (T:=3) (fz:=(0,0)) ((show bu Rp.int h1 [I begun,I think,I fC,I known] ([begun,think,fC,known]) from ⟨[I begun],[I think,I fC,I known],rfl,rfl,rfl,⟨[I think],[I fC,I known],rfl,rfl,rfl,⟨[I fC],[I known],rfl,rfl,rfl,⟨[I known],[],rfl,rfl,rfl,rfl⟩⟩⟩⟩).mono Rp.aY hle2) hb2
  exact av C1 (iK _ 1099511627775 _ _ _ sl2) U (qO 2 U (jP (h:=h1) hle2 hX hle1 (hk1 _ U)))
 refine aD (ai hs2 U (fun c3 hs4=>?_) (fun c3 hs5=>?_))
 ·refine qT 5 U ?_
  have hs6:bH l doc begun think fC known=([],1):=hs4
  exact nretH [.slice none 0 0,I 1] ⟨none,0,congrArg (fun r:(List Approval×Int)=>(.tuple #[.slice none r.1.length 0,I r.2]:Value)) hs6.symm,(by rw [hs6];exact SlC.nil)⟩
 refine qK 7 [0] U (aF (Le call105 (tx _ _ _ _ doc fC known (hl.mono Approval.ao hle1) ob) U (fun ob1 oc1 G1 gr1=>aT 2 U hM (fun h3 hle3 hb3=>aT 0 U hM (fun h4 hle4 hb4=>aT 0 U hM (fun h5 hle5 hb5=>aF (et U U (aF (lV (v:=.slice ob1 (fh (aI l doc fC known) (fun dB=>hU dB begun fC think)).length oc1) ([]) G1 ([]) call104 (ot h5 (aI l doc fC known) ob1 oc1 G1 (fun dB=>hU dB begun fC think) (.func (.func 106) #[] #[Q b1,Q b3,Q b2]) (gr1.mono Approval.ao ((hle3.t hle4).t hle5)) (fun h' dB hle =>iu call106 (sa h' dB begun ⟨b1,0,none⟩ fC ⟨b3,0,none⟩ think ⟨b2,0,none⟩  (((ct hb3).mono (hle4.t hle5)).mono hle) (((ct hb4).mono hle5).mono hle) ((ct hb5).mono hle))) ob) ap U (fun G2 gr2=>iw (L':=G2) ap (pG Approval.ao ([]) G2 ([]) ap hM gr2 (fun h6 hle6 sl3=>qO 3 U ?_))))))))))))
 have hs7:bH l doc begun think fC known=((fh (aI l doc fC known) (fun dB=>hU dB begun fC think)),0):=hs5
 exact nretH [.slice ob1 ((fh (aI l doc fC known) (fun dB=>hU dB begun fC think)).length) oc1,I 0] ⟨ob1,oc1,congrArg (fun r:(List Approval×Int)=>(.tuple #[.slice ob1 r.1.length oc1,I r.2]:Value)) hs7.symm,(by rw [hs7];exact sl3)⟩
theorem tj (h:HF) (x:Appoint) (v0:Int) (v0_q:Addr) (v1:Int) (v1_q:Addr) (av0:At h v0_q [I v0]) (av1:At h v1_q [I v1]):Ret prog 181 [.agg (Appoint.cells x).toArray,.pointer (some v0_q),.pointer (some v1_q)] h (.tuple #[.agg (OSeat.cells ((ia x v0 v1).1)).toArray,.bool ((ia x v0 v1).2)]):=by
 refine cz func181 U ntmps181 U fun X hM hX=>?_
 have hs0:ia x v0 v1=ia x v0 v1:=rfl
 refine sr (cA (fun b1=>aV zc182 (fun b2=>qO 3 U ?_)))
 let z1:Nat×Obj:=(b1,O (Appoint.cells x) 89)
 refine KZ ([(b2,O [I x.Office,I x.Person] 182),z1]) [(4,Q b2),(5,.bool (decide (x.At≤v0)&&decide (x.Known≤v1)))] (fun e=>?_) (fun hk1=>?_)
 rotate_left
 ·refine eQ ([z1]) mixed kr jn (fun dH _=>?_)
  refine qB [0] U (tf 1 U U (fun _ _ hj=>fH ty3 U (hj.nth (i:=0) U) U) (qB [2] U (tf 3 U U (fun _ _ hj=>fH ty3 U (hj.nth (i:=0) U) U) (qB [5] U (tf 6 U U (fun _ _ hj=>fH ty3 U (hj.nth (i:=0) U) U) (tf 7 U U (fun _ _ hj=>eV ty3 (av0.mono hj.1) U) (qA [8,9] U ?_)))))))
  refine dt 15 U (fun c1=>?_) (fun c1=>?_)
  ·have c1p:=of_decide_eq_true c1
   exact tf 10 U U (fun _ _ _=>jS Lz U) (tf 11 U U (fun _ _ hj=>fH ty3 U (hj.nth (i:=0) U) U) (tf 12 U U (fun _ _ hj=>eV ty3 (av1.mono hj.1) U) (qA [13,14] U (tn 4 U (fw (cells:=[I x.Office,I x.Person]) (places:=[(0,1),(1,1)]) EE zc182 kr kr (⟨jn,(tn 15 U (nj 0 ty182 U U U U U U (⟨jn,(qA [16] U (aW kr (hk1 _ ⟨U,(cb (show decide (x.Known≤v1)=(decide (x.At≤v0)&&decide (x.Known≤v1)) from by rw [c1] <;> rfl)),trivial⟩)))⟩)))⟩))))))
  have c1p:=of_decide_eq_false c1
  exact tk 10 U U (qR 11 4 U (tn 4 U (fw (cells:=[I x.Office,I x.Person]) (places:=[(0,1),(1,1)]) EE zc182 kr kr (⟨jn,(tn 15 U (nj 0 ty182 U U U U U U (⟨jn,(qA [16] U (aW kr (hk1 _ ⟨U,(cb (show false=(decide (x.At≤v0)&&decide (x.Known≤v1)) from by rw [c1] <;> rfl)),trivial⟩)))⟩)))⟩))))
 have hs1:ia x v0 v1=((OSeat.mk x.Office x.Person),(decide (x.At≤v0)&&decide (x.Known≤v1))):=hs0
 exact qv [.agg (List.toArray [I x.Office,I x.Person]),.bool (decide (x.At≤v0)&&decide (x.Known≤v1))] func181 U hX ⟨⟨0,_,_,_,_,U,U,.inl ⟨ty182,U⟩⟩,U,trivial⟩ (congrArg (fun r:(OSeat×Bool)=>(.tuple #[.agg (OSeat.cells r.1).toArray,.bool r.2]:Value)) hs1.symm)
theorem rO (h:HF) (l:List Appoint) (e8:Option Addr) (eZ:Nat) (key:(Appoint→OSeat×Bool)) (key_v:Value) (later:(Appoint→Appoint→Bool)) (later_v:Value) (hl:SlC Appoint.rp h e8 eZ l) (hkey:∀ (h':HF) (dB:Appoint),HF.le h h'→rH prog key_v [.agg (Appoint.cells dB).toArray] h' [] (.tuple #[.agg (OSeat.cells ((key dB).1)).toArray,.bool ((key dB).2)])) (hlater:∀ (h':HF) (dB:Appoint) (Af:Appoint),HF.le h h'→rH prog later_v [.agg (Appoint.cells dB).toArray,.agg (Appoint.cells Af).toArray] h' [] (.bool (later dB Af))):jN prog 182 [.slice e8 l.length eZ,key_v,later_v] h (fun v h'=>∃ (rk0:Nat),v=.map (some rk0)∧qt OSeat.enc (iH Appoint.rp) h' rk0 (dg l key later)):=by
 refine sT func182 U ntmps182 U fun X hM hX hF=>?_
 have hs0:dg l key later=dg l key later:=rfl
 refine qT 6 U (aF (mr (fun b1=>qL 9 [] U ?_)))
 refine lp2 l (fun i w=>[(1,key_v),(2,later_v),(7,.map (some b1)),(15,.slice e8 l.length eZ),(16,I (l.length:Int)),(17,I (i:Int))]) (fun _=>h) (fun w=>[(b1,w.2)]) (fun i w=>iL OSeat.enc (iH Appoint.rp) h w.2 w.1∧w.1.length≤0+i) (fun s1 i w=>(dg.L1 key later (dg.K1)) s1 w.1) ([],.map #[] 0) hl.1.1 hs0 ⟨(iL.nil (enc:=OSeat.enc) (V:=(iH Appoint.rp)) (h:=h)),lc⟩ ?_ ?_
 ·rintro i1 ⟨bz,gS⟩ fA hs1 ⟨fo,mm⟩ e
  refine qT 5 U (eI 0 U hM (fun h1 hle1 hb1=>?_))
  have mc1:qt OSeat.enc (iH Appoint.rp) h1 b1 bz:=⟨_,hb1,fo.mono (iH.mono Appoint.ao) hle1⟩
  have hs2:dg l key later=bz:=hs1
  exact nretH [.map (some b1)] ⟨b1,congrArg (fun r:(List (OSeat×Appoint))=>(.map (some b1):Value)) hs2.symm,(by rw [hs2];exact mc1)⟩
 rintro i1 ⟨bz,gS⟩ y1 rz1 hd1 dx aL eH hO hs3 ⟨fo,mm⟩ hx1 ag1 e
 refine sr (aw (v':=.bool true) U (cb dx) (qO 8 U (aF (fj (enc:=Appoint.cells) ei Al ty89 hl.1 (nthZ aL) (ba aL) U U U (fun q2 A2=>dz ty89 A2 U U (aV zc89 (fun b5=>aS 0 ty89 U U U U U U (qO 4 U (cW 0 ty89 U U U (aF (kH (v:=.tuple #[.agg (OSeat.cells ((key y1).1)).toArray,.bool ((key y1).2)]) [] (List.nil_sublist _) (hkey h y1 lf) U U (qO 3 U (aV zc182 (fun b6=>aS 0 ty182 U U U U U U (qO 5 U (cW 0 ty182 U U U (aF (kh 2 (k:=(key y1).1) Ha sB U fo (eG zv89) (show (iH Appoint.rp) _ (.agg (List.toArray [I 0,I 0,I 0,I 0,I 0,I 0,.bool false])) (Appoint.mk 0 0 0 0 0 0 false) from ⟨_,U,U⟩) U U (fun v2 hv2=>?_)))))))))))))))))))
 obtain ⟨_,rfl,rfl⟩:=hv2
 refine qO 3 U (aV zc89 (fun b7=>aS 0 ty89 U U U U U U (qO 6 U (bC 10 [34,35,36,37,38,39,40,41,42,43,44] 34 44 ((!(mhas bz ((key y1).1)))||(!(later (mgetD bz ((key y1).1) (Appoint.mk 0 0 0 0 0 0 false)) y1))) U (fun c1 hk1=>?_) (fun e=>?_)))))
 ·refine qO 3 U (bY 6 [37,38,39,40,41,42,43] 37 43 (!(later (mgetD bz ((key y1).1) (Appoint.mk 0 0 0 0 0 0 false)) y1)) U (fun c2 hk2=>?_) (fun e=>?_))
  ·exact aj (cW 0 ty89 U U U (cW 2 ty89 U U U (aF (kH (v:=.bool (later (mgetD bz ((key y1).1) (Appoint.mk 0 0 0 0 0 0 false)) y1)) [] (List.nil_sublist _) (hlater h (mgetD bz ((key y1).1) (Appoint.mk 0 0 0 0 0 0 false)) y1 lf) U U (qO 2 U (hk2 _ U))))))
  exact ek U (hk1 _ U)
 refine aD (ai hs3 U (fun c3 hs4=>?_) (fun c3 hs5=>?_))
 ·exact ay (aj (cW 1 ty182 U U U (cW 2 ty89 U U U (aF (jJ 3 (k:=(key y1).1) (x:=y1) Ha sB U fo U U ⟨_,U,U⟩ (fun mo1 hm1=>qO 3 U (aw (v':=I (((i1+1):Nat):Int)) U (bw ob) (qO 2 U (bB (L':=[(b1,mo1)]) js (ag1 ((mput bz ((key y1).1) y1),mo1) hs4 ⟨hm1,(by have:=ly bz ((key y1).1) y1;first | omega | (simp only [List.length_nil,List.length_cons] at *;omega))⟩))))))))))
 exact aJ (qT 2 U (aw (v':=I (((i1+1):Nat):Int)) U (bw ob) (qO 2 U (bB (L':=[(b1,gS)]) js (ag1 (bz,gS) hs5 ⟨fo,lc⟩)))))
theorem tg (h:HF) (a:Appoint) (jt:Appoint)  : Ret prog 183 [.agg (Appoint.cells a).toArray,.agg (Appoint.cells jt).toArray] h (.bool (iT a jt)):=by
 refine sT func183 U ntmps183 U fun X hM hX hF=>?_
 have hs0:iT a jt=iT a jt:=rfl
 exact sr (cA (fun b1=>cA (fun b2=>qL 11 [1,0] U (nretP [.bool (decide (jt.At < a.At))] (cs hs0)))))
theorem oY (h:HF) (l:List Appoint) (e8:Option Addr) (eZ:Nat) (jR:Int) (known:Int) (hl:SlC Appoint.rp h e8 eZ l):jN prog 93 [.slice e8 l.length eZ,I jR,I known] h (fun v h'=>∃ (rk0:Nat),v=.map (some rk0)∧qt OSeat.enc (iH Appoint.rp) h' rk0 (dk l jR known)):=by
 refine sT func93 U ntmps93 U fun X hM hX hF=>?_
 have hs0:dk l jR known=dk l jR known:=rfl
 refine sr (cA (fun b1=>cA (fun b2=>qO 4 U (aT 1 U hM (fun h1 hle1 hb1=>aT 0 U hM (fun h2 hle2 hb2=>aF (et U U (qO 6 U (aF (cY call182 (rO _ _ _ _ (fun dB=>ia dB jR known) (.func (.func 181) #[] #[Q b1,Q b2]) iT (.func (.func 183) #[] #[]) (hl.mono Appoint.ao (hle1.t hle2)) (fun h' dB hle =>iu call181 (tj h' dB jR ⟨b1,0,none⟩ known ⟨b2,0,none⟩  (((ct hb1).mono hle2).mono hle) ((ct hb2).mono hle))) (fun h' dB Af hle =>iu call183 (tg h' dB Af))) U (fun v1 h3 hle3 hp1=>?_)))))))))))
 obtain ⟨rk1,rfl,mo1⟩:=hp1
 refine an ?_
 have hs1:dk l jR known=(dg l (fun dB=>ia dB jR known) iT):=hs0
 exact nretH [.map (some rk1)] ⟨rk1,congrArg (fun r:(List (OSeat×Appoint))=>(.map (some rk1):Value)) hs1.symm,(by rw [hs1];exact mo1)⟩
theorem rP (h:HF) (l:List Appoint) (e8:Option Addr) (eZ:Nat) (office:Int) (person:Int) (cL:Int) (known:Int) (hl:SlC Appoint.rp h e8 eZ l):Ret prog 29 [.slice e8 l.length eZ,I office,I person,I cL,I known] h (.tuple #[I ((fe l office person cL known).1),I ((fe l office person cL known).2.1),.bool ((fe l office person cL known).2.2.1),I ((fe l office person cL known).2.2.2)]):=by
 refine sT func29 U ntmps29 U fun X hM hX hF=>?_
 have hs0:fe l office person cL known=fe l office person cL known:=rfl
 refine qT 11 U (av call65 (n8 _ _ _ _ hl) U (qO 7 U (ai hs0 U (fun c1 hs1=>?_) (fun c1 hs2=>?_))))
 ·refine qT 8 U ?_
  have hs3:fe l office person cL known=(0,0,false,(cZ l)):=hs1
  exact nretP [I 0,I 0,.bool false,I (cZ l)] (congrArg (fun r:(Int×Int×Bool×Int)=>(.tuple #[I r.1,I r.2.1,.bool r.2.2.1,I r.2.2.2]:Value)) hs3.symm)
 refine qT 5 U (av Jn (kI h office) U (qO 2 U (bY 4 [24,25,26,27,28] 24 28 (!(fy person)) U (fun c2 hk1=>?_) (fun e=>?_))))
 ·exact aj (av call107 (mH h person) U (qO 2 U (hk1 _ U)))
 refine aj (bY 4 [29,30,31,32,33] 29 33 (!(di cL)) U (fun c3 hk2=>?_) (fun e=>?_))
 ·exact aj (av Ak (iM h cL) U (qO 2 U (hk2 _ U)))
 refine aj (bY 4 [34,35,36,37,38] 34 38 (!(di known)) U (fun c4 hk3=>?_) (fun e=>?_))
 ·exact aj (av Ak (iM h known) U (qO 2 U (hk3 _ U)))
 refine aD (ai hs2 U (fun c5 hs4=>?_) (fun c5 hs5=>?_))
 ·refine qT 7 U ?_
  have hs6:fe l office person cL known=(0,0,false,1):=hs4
  exact nretP [I 0,I 0,.bool false,I 1] (congrArg (fun r:(Int×Int×Bool×Int)=>(.tuple #[I r.1,I r.2.1,.bool r.2.2.1,I r.2.2.2]:Value)) hs6.symm)
 refine qT 6 U (aF (cY call93 (oY _ _ _ _ cL known hl) U (fun v1 h1 hle1 hp1=>?_)))
 obtain ⟨rk1,rfl,mo1⟩:=hp1
 refine qO 2 U (aF (fw (cells:=[I office,I person]) (places:=[(0,1),(1,1)]) EE zc182 kr kr ?_))
 obtain ⟨o1,hb1,hm1⟩:=mo1
 refine aF (qw (k:=(OSeat.mk office person)) Ha sB hb1 hm1 (eG zv89) (show (iH Appoint.rp) _ (.agg (List.toArray [I 0,I 0,I 0,I 0,I 0,I 0,.bool false])) (Appoint.mk 0 0 0 0 0 0 false) from ⟨_,U,U⟩) U U (fun v2 hv1=>?_))
 obtain ⟨_,rfl,rfl⟩:=hv1
 refine qO 3 U (aV zc89 (fun b1=>aS 0 ty89 U U U U U U (qO 8 U (bY 3 [52,53,54,55] 52 55 ((mgetD (dk l cL known) (OSeat.mk office person) (Appoint.mk 0 0 0 0 0 0 false)).Gone) U (fun c6 hk4=>?_) (fun e=>?_)))))
 ·exact qL 3 [0] U (hk4 _ U)
 refine aD (ai hs5 U (fun c7 hs7=>?_) (fun c7 hs8=>?_))
 ·refine qT 7 U ?_
  have hs9:fe l office person cL known=(0,0,false,0):=hs7
  exact nretP [I 0,I 0,.bool false,I 0] (congrArg (fun r:(Int×Int×Bool×Int)=>(.tuple #[I r.1,I r.2.1,.bool r.2.2.1,I r.2.2.2]:Value)) hs9.symm)
 refine qT 2 U (eQ ([(b1,O (Appoint.cells (mgetD (dk l cL known) (OSeat.mk office person) (Appoint.mk 0 0 0 0 0 0 false))) 89)]) mixed kr jn (fun dH _=>qB [0] U (tf 1 U U (fun _ _ hj=>fH ty3 U (hj.nth (i:=0) U) U) (qB [2] U (tf 3 U U (fun _ _ hj=>fH ty3 U (hj.nth (i:=0) U) U) (qR 4 4 U (aW kr ?_)))))))
 have hs10:fe l office person cL known=((mgetD (dk l cL known) (OSeat.mk office person) (Appoint.mk 0 0 0 0 0 0 false)).No,(mgetD (dk l cL known) (OSeat.mk office person) (Appoint.mk 0 0 0 0 0 0 false)).Weight,true,0):=hs8
 exact nretP [I ((mgetD (dk l cL known) (OSeat.mk office person) (Appoint.mk 0 0 0 0 0 0 false)).No),I ((mgetD (dk l cL known) (OSeat.mk office person) (Appoint.mk 0 0 0 0 0 0 false)).Weight),.bool true,I 0] (congrArg (fun r:(Int×Int×Bool×Int)=>(.tuple #[I r.1,I r.2.1,.bool r.2.2.1,I r.2.2.2]:Value)) hs10.symm)
theorem zM (h:HF) (l:List Deputy) (e8:Option Addr) (eZ:Nat) (dM:Int) (to:Int) (q:cE) (hl:SlC Deputy.rp h e8 eZ l):Ret prog 108 [.slice e8 l.length eZ,I dM,I to,.agg (cE.cells q).toArray] h (I (kc l dM to q)):=by
 refine sT func108 U ntmps108 U fun X hM hX hF=>?_
 have hs0:kc l dM to q=kc l dM to q:=rfl
 refine sr (cA (fun b1=>qO 6 U (av call66 (qS _ _ _ _ hl) U (qO 7 U (ai hs0 U (fun c1 hs1=>?_) (fun c1 hs2=>?_))))))
 ·exact sr (qO 3 U (nretP [I (dq l)] (ci hs1)))
 refine qT 5 U (av Jl (kA h dM) U (qO 2 U (bY 4 [18,19,20,21,22] 18 22 (!(fB to)) U (fun c2 hk1=>?_) (fun e=>?_))))
 ·exact aj (av Jl (kA h to) U (qO 2 U (hk1 _ U)))
 refine aj (bY 5 [23,24,25,26,27,28] 23 28 (!(cQ q.office 0 31)) U (fun c3 hk2=>?_) (fun e=>?_))
 ·exact qL 2 [0] U (av yI (ic h q.office 0 31) U (qO 2 U (hk2 _ U)))
 refine aj (bY 5 [29,30,31,32,33,34] 29 34 (!(cQ q.kind 0 15)) U (fun c4 hk3=>?_) (fun e=>?_))
 ·exact qL 2 [0] U (av yI (ic h q.kind 0 15) U (qO 2 U (hk3 _ U)))
 refine aj (bY 5 [35,36,37,38,39,40] 35 40 (!(cQ q.value 0 1099511627776)) U (fun c5 hk4=>?_) (fun e=>?_))
 ·exact qL 2 [0] U (av yI (ic h q.value 0 1099511627776) U (qO 2 U (hk4 _ U)))
 refine aj (bY 5 [41,42,43,44,45,46] 41 46 (!(fV q.at_)) U (fun c6 hk5=>?_) (fun e=>?_))
 ·exact qL 2 [0] U (av Jm (ls h q.at_) U (qO 2 U (hk5 _ U)))
 refine aj (bY 5 [47,48,49,50,51,52] 47 52 (!(fV q.known)) U (fun c7 hk6=>?_) (fun e=>?_))
 ·exact qL 2 [0] U (av Jm (ls h q.known) U (qO 2 U (hk6 _ U)))
 refine aD (ai hs2 U (fun c8 hs4=>?_) (fun c8 hs5=>?_))
 ·exact sr (an (nretP [I 1] (ci hs4)))
 exact aJ (qT 4 U (nretP [I 0] (ci hs5)))
theorem pJ (h:HF) (seq:List Deputy) (seq_v:Value) (hseq:Itr prog seq_v pT seq h) (hsz:seq.length≤2000000):jN prog 203 [.slice none 0 0,seq_v] h (fun v h'=>∃ (rb0:Option Addr) (rc0:Nat),v=.slice rb0 (cH seq).length rc0∧SlC Deputy.rp h' rb0 rc0 (cH seq)):=by
 refine cz func203 U ntmps203 U fun X hM hX=>?_
 have hs0:cH seq=cH seq:=rfl
 refine sr (cA (fun b1=>qO 8 U (dY (cu (L':=([(b1,O [.slice none 0 0] 23)])++markB []) ap ?_))))
 refine jw (it:=seq_v) (xs:=seq) (ι:=(List Deputy)×Option Addr×Nat×LH×HF) [] (fun i=>i.2.2.2.2) (fun i=>[(b1,O [.slice i.2.1 i.1.length i.2.2.1] 23)]++(i.2.2.2.1)) (fun s i=>cH seq=((cH.L1 (cH.K1)) s i.1)∧em Deputy.rp 93 i.2.2.2.2 i.1 i.2.1 i.2.2.1 i.2.2.2.1∧HF.le h i.2.2.2.2∧i.1.length+s.length≤seq.length) (fun _=>False) (fun _=>False) 0 (fun _ _ _=>False) ([],none,0,[],h) func203 U hseq U Bt (fun _ _ _ _ _ hq=>hq) U (show [(b1,O [.slice none 0 0] 23)]=_ from U) ⟨hs0,em.nil,lf,(by simp)⟩ ?_ ?_ ?_ ?_ ?_
 ·rintro l1 dm1 lp1 y1 rz1 vs1 ⟨bz,kT,kS,mn,hh1⟩ hr1 X hFR1 ⟨hs1,fo,hl1,u1_0⟩ hl01 hlr1 hv1 hX hXM hlp1 nx1 rt1 ex1 pn1
  obtain rfl:=hv1
  simp only [List.length_cons] at u1_0
  let z1:Nat×Obj:=(b1,O [.slice kT bz.length kS] 23)
  let z4:Nat×Obj:=(dm1,.deferred (some []))
  refine cu (L':=[(l1,.loop lp1),z4,z1]++(mn++(markB []))) ap (ay (aV zc93 (fun b4=>aS 0 ty93 U U U U U U (iw (L':=[(b4,O (Deputy.cells y1) 93),(l1,.loop lp1),z4,z1]++(mn++(markB []))) U (aD (jh 1 U hlp1 (qK 3 [3] U (cW 0 ty93 U U U (aF (bV (cells:=[I y1.No,I y1.At,I y1.Known,I y1.Until,I y1.From,I y1.To,I y1.Office,I y1.Kind,I y1.Most,.bool y1.Gone]) tJ ty93 zc93 U U kr (fun b5=>?_)))))))))))
  let z3:Nat×Obj:=(b5,O [I y1.No,I y1.At,I y1.Known,I y1.Until,I y1.From,I y1.To,I y1.Office,I y1.Kind,I y1.Most,.bool y1.Gone] 93)
  let z5:Nat×Obj:=(l1,.loop { lp1 with state:=.busy })
  let z6:Nat×Obj:=(b4,O (Deputy.cells y1) 93)
  refine aF (eR Deputy.eF ([z3,z6,z5,z4,z1]) (markB []) (fun G=>[z3,z6,z5,z4,z1]++(markB []++G)) ap (fun _=>ap) tJ ty93 zc93 U bytes93 (fo.mono Deputy.ao hlr1) U U (fI 0 U (show bu Deputy.rp hr1 [I y1.No,I y1.At,I y1.Known,I y1.Until,I y1.From,I y1.To,I y1.Office,I y1.Kind,I y1.Most,.bool y1.Gone] ([y1]) from ⟨[I y1.No,I y1.At,I y1.Known,I y1.Until,I y1.From,I y1.To,I y1.Office,I y1.Kind,I y1.Most,.bool y1.Gone],[],U,U,U,U⟩)) lo lo (fun ob2 oc2 G2 gr2=>uI (py ([z3,z6,z5,z4,z1]) G2 (markB [])) (cJ 4 ty23 U U U U U U (qO 2 U ?_))))
  let z7:Nat×Obj:=(b1,O [.slice ob2 ((bz++[y1]).length) oc2] 23)
  exact bB (L':=[z5,z4,z7]++(G2++(markB []))) js (cu (L':=rdH l1 dm1 lp1 (([z7]++G2)++markB [])) ap (nx1 ((bz++[y1]),ob2,oc2,G2,hr1) _ _ ⟨hs1,gr2,(hl1.t hlr1),(by simp only [List.length_append,List.length_cons,List.length_nil] at *;omega)⟩ lf))
 ·rintro dm1 ⟨bz,kT,kS,mn,hh1⟩ hn1 ⟨hs2,fo,hl1,u1_0⟩ hln1 hl01
  let z2:Nat×Obj:=(b1,O [.slice kT bz.length kS] 23)
  refine cu (L':=[z2]++(mn++(markB (dm1::[])))) ap (qK 6 [0] U (gL Deputy.ao ([z2]) mn (markB (dm1::[])) ap hM (fo.mono Deputy.ao hln1) (fun h2 hle2 sl2=>?_)))
  have hs3:cH seq=bz:=hs2
  exact cu (L':=([z2])++markB (dm1::[])) ap (oq (dm1::[]) [.slice kT bz.length kS] func203 U rd ⟨kT,kS,congrArg (fun r:List Deputy=>(.slice kT r.length kS:Value)) hs3.symm,(by rw [hs3];exact sl2)⟩)
 ·exact xf
 ·exact xf
 exact xf
theorem rm (h:HF) (seq:List Deputy) (seq_v:Value) (hseq:Itr prog seq_v pT seq h) (hsz:seq.length≤2000000):jN prog 109 [seq_v] h (fun v h'=>∃ (rb0:Option Addr) (rc0:Nat),v=.slice rb0 (cU seq).length rc0∧SlC Deputy.rp h' rb0 rc0 (cU seq)):=by
 refine sT func109 U ntmps109 U fun X hM hX hF=>?_
 have hs0:cU seq=cU seq:=rfl
 refine qT 7 U (aF (cY call203 (pJ h seq seq_v hseq ob) U (fun v1 h1 hle1 hp1=>?_)))
 obtain ⟨rb1,rc1,rfl,sl1⟩:=hp1
 refine an ?_
 have hs1:cU seq=(cH seq):=hs0
 exact nretH [.slice rb1 ((cH seq).length) rc1] ⟨rb1,rc1,congrArg (fun r:List Deputy=>(.slice rb1 r.length rc1:Value)) hs1.symm,(by rw [hs1];exact sl1)⟩
theorem rn (s:List Deputy):cU s=s:=by
 have:∀ (s acc:List Deputy),cH.L1 cH.K1 s acc=acc++s:=by
  intro s
  induction s with
  | nil=>intro acc;exact (List.append_nil _).symm
  | cons y s ih=>intro acc;simp only [cH.L1,ih,List.append_assoc,List.cons_append,List.nil_append]
 exact (this s []).trans (List.nil_append _)
theorem lR (h:HF) (q:cE) (x:Deputy)  : Ret prog 204 [.agg (cE.cells q).toArray,.agg (Deputy.cells x).toArray] h (.bool (ff q x)):=by
 refine sT func204 U ntmps204 U fun X hM hX hF=>?_
 have hs0:ff q x=ff q x:=rfl
 refine sr (cA (fun b1=>cA (fun b2=>qL 10 [0,1] U (bC 6 [10,11,12,13,14,15,16] 10 16 (decide (x.Known≤q.known)) U (fun c1 hk1=>?_) (fun e=>?_)))))
 ·exact qL 6 [0,1] U (hk1 _ U)
 exact an (nretP [.bool (decide (x.At≤q.at_)&&decide (x.Known≤q.known))] (cs hs0))
theorem po (h:HF) (q:cE) (x:Deputy)  : Ret prog 206 [.agg (cE.cells q).toArray,.agg (Deputy.cells x).toArray] h (.bool (fT q x)):=by
 refine sT func206 U ntmps206 U fun X hM hX hF=>?_
 have hs0:fT q x=fT q x:=rfl
 refine sr (cA (fun b1=>cA (fun b2=>qL 8 [0] U (bC 6 [8,9,10,11,12,13,14] 8 14 (decide (q.at_ < x.Until)) U (fun c1 hk1=>?_) (fun e=>?_)))))
 ·exact qL 6 [1,0] U (hk1 _ U)
 refine aj (bC 6 [15,16,17,18,19,20,21] 15 21 (x.Office==q.office) U (fun c2 hk2=>?_) (fun e=>?_))
 ·exact qL 6 [0,1] U (hk2 _ U)
 refine aj (bC 11 [22,23,24,25,26,27,28,29,30,31,32,33] 22 33 ((x.Kind==(-1))||(x.Kind==q.kind)) U (fun c3 hk3=>?_) (fun e=>?_))
 ·refine qL 4 [0] U (bY 6 [26,27,28,29,30,31,32] 26 32 (x.Kind==q.kind) U (fun c4 hk4=>?_) (fun e=>?_))
  ·exact qL 6 [0,1] U (hk4 _ U)
  exact ek U (hk3 _ U)
 refine aj (bC 6 [34,35,36,37,38,39,40] 34 40 (decide (q.value≤x.Most)) U (fun c5 hk5=>?_) (fun e=>?_))
 ·exact qL 6 [1,0] U (hk5 _ U)
 exact an (nretP [.bool (((((!x.Gone)&&decide (q.at_ < x.Until))&&(x.Office==q.office))&&((x.Kind==(-1))||(x.Kind==q.kind)))&&decide (q.value≤x.Most))] (cs hs0))
theorem nM (h:HF) (v0:List Deputy) (ri:Option Addr) (rh:Nat) (v0_q:Addr) (v1:List (dW×Deputy)) (IT:Nat) (v1_q:Addr) (v2:(Deputy→Bool)) (v2_v:Value) (v2_q:Addr) (v3:cE) (v3_q:Addr) (hv0:SlC Deputy.rp h ri rh v0) (av0:At h v0_q [.slice ri v0.length rh]) (hv1:qt dW.enc (iH Deputy.rp) h IT v1) (av1:At h v1_q [.map (some IT)]) (hv2:∀ (h':HF) (dB:Deputy),HF.le h h'→rH prog v2_v [.agg (Deputy.cells dB).toArray] h' [] (.bool (v2 dB))) (av2:At h v2_q [v2_v]) (av3:At h v3_q (cE.cells v3)):Itr prog (.func (.func 205) #[] (List.toArray [.pointer (some v0_q),.pointer (some v1_q),.pointer (some v2_q),.pointer (some v3_q)])) pT (aH v0 v1 v2 v3) h:=by
 refine pU call205 ?_
 intro yf ya yb C Sp Pn h1 A hle m1 m2 m3 hC hy
 refine iV Aj U ntmps205 U fun X hXM hX=>?_
 have hs0:aH v0 v1 v2 v3=[]++aH v0 v1 v2 v3:=rfl
 refine sr (dF ty23 (av0.mono hle) U (qL 3 [] U ?_))
 refine lp2 v0 (fun i w=>[(0,.func yf ya yb),(2,.pointer (some v1_q)),(3,.pointer (some v2_q)),(4,.pointer (some v3_q)),(8,.slice ri v0.length rh),(9,I (v0.length:Int)),(10,I (i:Int))]) (fun w=>w.2.2) (fun w=>w.2.1) (fun i w=>C w.1 w.2.2 w.2.1∧HF.le h1 w.2.2) (fun s1 i w=>w.1++(aH.L1 v1 v2 v3 (aH.K1)) s1) ([],A,h1) ((hv0.mono Deputy.ao hle).1.1) hs0 ⟨hC,lf⟩ ?_ ?_
 ·rintro i1 ⟨dn1,A1_,hh1⟩ fA hs1 ⟨hC1_,hl1⟩ e
  refine dY ?_
  have hs2:aH v0 v1 v2 v3=dn1:=hs1.trans (List.append_nil _)
  exact pV [] (A:=A1_) Aj U (List.Sublist.refl _) (.inl (hs2 ▸ hC1_))
 rintro i1 ⟨dn1,A1_,hh1⟩ y1 rz1 hd1 dx aL eH hO hs3 ⟨hC1_,hl1⟩ hx1 ag1 e
 refine sr (aw (v':=.bool true) U (cb dx) (qO 8 U (aF (fj (enc:=Deputy.cells) ei tJ ty93 (hv0.mono Deputy.ao (hle.t hl1)).1 (nthZ aL) (ba aL) U U U (fun q2 A2=>dz ty93 A2 U U (aV zc93 (fun b2=>aS 0 ty93 U U U U U U (iw (L':=[(b2,O (Deputy.cells y1) 93)]++(A1_)) U (qO 2 U ?_)))))))))
 let z1:Nat×Obj:=(b2,O (Deputy.cells y1) 93)
 refine eQ ([z1]) mixed kr jn (fun dH _=>?_)
 refine tf 0 U U (fun _ _ hj=>eV ty277 ((av1.mono (hle.t hl1)).mono hj.1) U) (qB [1] U (tf 2 U U (fun _ _ hj=>fH ty3 U (hj.nth (i:=0) U) U) (qB [3] U (tf 4 U U (fun _ _ hj=>fH ty3 U (hj.nth (i:=0) U) U) (qB [5] U (tf 6 U U (fun _ _ hj=>fH ty3 U (hj.nth (i:=0) U) U) (qB [7] U (tf 8 U U (fun _ _ hj=>fH ty3 U (hj.nth (i:=0) U) U) (tf 11 U U (fun _ _ hj=>je ty93 U (hj.nth (i:=0) U) U) (tn 9 U (fw (cells:=[I y1.From,I y1.To,I y1.Office,I y1.Kind]) (places:=[(0,1),(1,1),(2,1),(3,1)]) Hg zc279 kr kr (⟨jn,tn 10 U ?_⟩))))))))))))
 obtain ⟨o2,hb2,hm2⟩:=(hv1.mono (iH.mono Deputy.ao) (hle.t hl1))
 refine mt (k:=(dW.mk y1.From y1.To y1.Office y1.Kind)) underlying277 rB hb2 hm2 (eG zv93) (show (iH Deputy.rp) _ (.agg (List.toArray [I 0,I 0,I 0,I 0,I 0,I 0,I 0,I 0,I 0,.bool false])) (Deputy.mk 0 0 0 0 0 0 0 0 0 false) from ⟨_,U,U⟩) U U (fun v2 hv2=>?_)
 obtain ⟨_,rfl,rfl⟩:=hv2
 refine ⟨jn,(tf 12 U U (fun _ _ _=>Hv (GK (mgetD v1 (dW.mk y1.From y1.To y1.Office y1.Kind) (Deputy.mk 0 0 0 0 0 0 0 0 0 false)) y1) eqg93 U U) (tm 13 U ?_))⟩
 refine dt 27 U (fun c1=>?_) (fun c1=>?_)
 ·refine tf 14 U U (fun _ _ hj=>eV ty223 ((av2.mono (hle.t hl1)).mono hj.1) U) (tf 15 U U (fun _ _ hj=>je ty93 U (hj.nth (i:=0) U) U) (tn 16 U (kH (v:=.bool (v2 y1)) [] (List.nil_sublist _) (hv2 hh1 y1 (hle.t hl1)) U U (⟨jn,qA [17,18] U ?_⟩))))
  refine dt 32 U (fun c2=>?_) (fun c2=>?_)
  ·refine tf 19 U U (fun _ _ hj=>j9 ty184 ((av3.mono (hle.t hl1)).mono hj.1) U U) (tf 20 U U (fun _ _ hj=>je ty93 U (hj.nth (i:=0) U) U) (tn 21 U (eP call206 (po hh1 v3 y1) U (⟨jn,tf 22 U U (fun _ _ _=>mz U (cb (show (fT v3 y1)=(((decide ((mgetD v1 (dW.mk y1.From y1.To y1.Office y1.Kind) (Deputy.mk 0 0 0 0 0 0 0 0 0 false))=y1))&&(v2 y1))&&(fT v3 y1)) from by first | (rw [c1];rw [c2];rfl) | (rw [c2];rfl) | simp [c1,c2]))) (tm 23 U ?_)⟩))))
   refine dt 37 U (fun c3=>?_) (fun c3=>?_)
   ·have ct1:=c3
    have hs4:=hs3.trans (congrArg (dn1++·) (bt ct1))
    refine tm 24 U (tf 25 U U (fun _ _ hj=>je ty93 U (hj.nth (i:=0) U) U) ?_)
    have hx1:aH v0 v1 v2 v3=dn1++(y1::(aH.L1 v1 v2 v3 (aH.K1) rz1)):=hs4
    refine tn 26 U (jW ([z1]) A1_ ap (hy dn1 y1 _ _ _ _ hx1 hl1 hC1_ U) U U (fun h2 A3 hle1 hC1=>?_) (fun h3 A4 hle2 hS1=>?_) (fun ch1 h4 A5 hle3 hP1 e=>gp (lG [] (A:=A5) Aj (List.sublist_append_right _ _) hP1)))
    ·have hs5:aH v0 v1 v2 v3=(dn1++[y1])++((aH.L1 v1 v2 v3 (aH.K1) rz1)):=hx1.trans ap
     exact ⟨⟨hle1,fun _ hp=>List.Sublist.subset js hp⟩,mD (K2:=[z1]) hle1 (fun _ hp=>hp) (qA [27,28] U (aW kr (qT 4 U (aw (v':=I (((i1+1):Nat):Int)) U (bw ob) (qO 2 U (bB (L':=A3) js (ag1 ((dn1++[y1]),A3,h2) hs5 ⟨hC1,(hl1.t hle1)⟩)))))))⟩
    exact ⟨⟨hle2,fun _ hp=>List.Sublist.subset js hp⟩,mD (K2:=[z1]) hle2 (fun _ hp=>hp) (qA [27,28] U (aW kr (iq U (dY (lq [] (A:=A4) Aj U js (.inr hS1))))))⟩
   have ct2:=c3
   have hs6:=hs3.trans (congrArg (dn1++·) (bf ct2))
   exact tk 24 U U (qR 25 4 U (aW kr (qT 4 U (aw (v':=I (((i1+1):Nat):Int)) U (bw ob) (qO 2 U (bB (L':=A1_) js (ag1 (dn1,A1_,hh1) hs6 ⟨hC1_,hl1⟩)))))))
  refine qR 19 3 U (tf 22 U U (fun _ _ _=>mz U (cb (show false=(((decide ((mgetD v1 (dW.mk y1.From y1.To y1.Office y1.Kind) (Deputy.mk 0 0 0 0 0 0 0 0 0 false))=y1))&&(v2 y1))&&(fT v3 y1)) from by first | (rw [c1];rw [c2];rfl) | (rw [c2];rfl) | simp [c1,c2]))) (tm 23 U ?_))
  refine dt 37 U (fun c4=>?_) (fun c4=>?_)
  ·have ct3:=c4
   have hs7:=hs3.trans (congrArg (dn1++·) (bt ct3))
   refine tm 24 U (tf 25 U U (fun _ _ hj=>je ty93 U (hj.nth (i:=0) U) U) ?_)
   have hx2:aH v0 v1 v2 v3=dn1++(y1::(aH.L1 v1 v2 v3 (aH.K1) rz1)):=hs7
   refine tn 26 U (jW ([z1]) A1_ ap (hy dn1 y1 _ _ _ _ hx2 hl1 hC1_ U) U U (fun h5 A6 hle4 hC2=>?_) (fun h6 A7 hle5 hS2=>?_) (fun ch2 h7 A8 hle6 hP2 e=>gp (lG [] (A:=A8) Aj (List.sublist_append_right _ _) hP2)))
   ·have hs8:aH v0 v1 v2 v3=(dn1++[y1])++((aH.L1 v1 v2 v3 (aH.K1) rz1)):=hx2.trans ap
    exact ⟨⟨hle4,fun _ hp=>List.Sublist.subset js hp⟩,mD (K2:=[z1]) hle4 (fun _ hp=>hp) (qA [27,28] U (aW kr (qT 4 U (aw (v':=I (((i1+1):Nat):Int)) U (bw ob) (qO 2 U (bB (L':=A6) js (ag1 ((dn1++[y1]),A6,h5) hs8 ⟨hC2,(hl1.t hle4)⟩)))))))⟩
   exact ⟨⟨hle5,fun _ hp=>List.Sublist.subset js hp⟩,mD (K2:=[z1]) hle5 (fun _ hp=>hp) (qA [27,28] U (aW kr (iq U (dY (lq [] (A:=A7) Aj U js (.inr hS2))))))⟩
  have ct4:=c4
  have hs9:=hs3.trans (congrArg (dn1++·) (bf ct4))
  exact tk 24 U U (qR 25 4 U (aW kr (qT 4 U (aw (v':=I (((i1+1):Nat):Int)) U (bw ob) (qO 2 U (bB (L':=A1_) js (ag1 (dn1,A1_,hh1) hs9 ⟨hC1_,hl1⟩)))))))
 refine qR 14 8 U (tf 22 U U (fun _ _ _=>mz U (cb (show false=(((decide ((mgetD v1 (dW.mk y1.From y1.To y1.Office y1.Kind) (Deputy.mk 0 0 0 0 0 0 0 0 0 false))=y1))&&(v2 y1))&&(fT v3 y1)) from by first | (rw [c1];rfl) | (rw [c1];rfl) | simp [c1]))) (tm 23 U ?_))
 refine dt 37 U (fun c5=>?_) (fun c5=>?_)
 ·have ct5:=c5
  have hs10:=hs3.trans (congrArg (dn1++·) (bt ct5))
  refine tm 24 U (tf 25 U U (fun _ _ hj=>je ty93 U (hj.nth (i:=0) U) U) ?_)
  have hx3:aH v0 v1 v2 v3=dn1++(y1::(aH.L1 v1 v2 v3 (aH.K1) rz1)):=hs10
  refine tn 26 U (jW ([z1]) A1_ ap (hy dn1 y1 _ _ _ _ hx3 hl1 hC1_ U) U U (fun h8 A9 hle7 hC3=>?_) (fun h9 A10 hle8 hS3=>?_) (fun ch3 h10 A11 hle9 hP3 e=>gp (lG [] (A:=A11) Aj (List.sublist_append_right _ _) hP3)))
  ·have hs11:aH v0 v1 v2 v3=(dn1++[y1])++((aH.L1 v1 v2 v3 (aH.K1) rz1)):=hx3.trans ap
   exact ⟨⟨hle7,fun _ hp=>List.Sublist.subset js hp⟩,mD (K2:=[z1]) hle7 (fun _ hp=>hp) (qA [27,28] U (aW kr (qT 4 U (aw (v':=I (((i1+1):Nat):Int)) U (bw ob) (qO 2 U (bB (L':=A9) js (ag1 ((dn1++[y1]),A9,h8) hs11 ⟨hC3,(hl1.t hle7)⟩)))))))⟩
  exact ⟨⟨hle8,fun _ hp=>List.Sublist.subset js hp⟩,mD (K2:=[z1]) hle8 (fun _ hp=>hp) (qA [27,28] U (aW kr (iq U (dY (lq [] (A:=A10) Aj U js (.inr hS3))))))⟩
 have ct6:=c5
 have hs12:=hs3.trans (congrArg (dn1++·) (bf ct6))
 exact tk 24 U U (qR 25 4 U (aW kr (qT 4 U (aw (v':=I (((i1+1):Nat):Int)) U (bw ob) (qO 2 U (bB (L':=A1_) js (ag1 (dn1,A1_,hh1) hs12 ⟨hC1_,hl1⟩)))))))
theorem oI (h:HF) (q:cE) (l:List Deputy) (e8:Option Addr) (eZ:Nat) (hl:SlC Deputy.rp h e8 eZ l):jN prog 110 [.agg (cE.cells q).toArray,.slice e8 l.length eZ] h (fun v h'=>∃ (rv0:Value),v=rv0∧Itr prog rv0 pT (aO q l) h'):=by
 refine sT func110 U ntmps110 U fun X hM hX hF=>?_
 have hs0:aO q l=aO q l:=rfl
 refine sr (cA (fun b1=>cA (fun b2=>qO 4 U (cW 1 ty184 U U U (aF (et U U (aV zc223 (fun b3=>cJ 0 ty223 U U U U U U (qO 3 U (aF (mr (fun b4=>aV zc277 (fun b5=>cJ 0 ty277 U U U U U U (qL 8 [3] U ?_))))))))))))))
 let z1:Nat×Obj:=(b3,O [.func (.func 204) #[.agg (cE.cells q).toArray] #[]] 223)
 let z2:Nat×Obj:=(b2,O [.slice e8 l.length eZ] 23)
 let z3:Nat×Obj:=(b1,O (cE.cells q) 184)
 let z4:Nat×Obj:=(b5,O [.map (some b4)] 277)
 refine lp2 l (fun i w=>[(2,Q b1),(3,Q b2),(5,Q b3),(6,Q b5),(15,.slice e8 l.length eZ),(16,I (l.length:Int)),(17,I (i:Int))]) (fun _=>h) (fun w=>[z4,(b4,w.2),z1,z2,z3]) (fun i w=>iL dW.enc (iH Deputy.rp) h w.2 w.1∧w.1.length≤0+i) (fun s1 i w=>(aO.L1 q (aO.K1 q l)) s1 w.1) ([],.map #[] 0) hl.1.1 hs0 ⟨(iL.nil (enc:=dW.enc) (V:=(iH Deputy.rp)) (h:=h)),lc⟩ ?_ ?_
 ·rintro i1 ⟨dA,BG⟩ fA hs1 ⟨uz,Kp⟩ e
  refine sr (aT 3 U hM (fun h1 hle1 hb1=>aT 0 U hM (fun h2 hle2 hb2=>aT 1 U hM (fun h3 hle3 hb3=>aT 1 U hM (fun h4 hle4 hb4=>aF (et U U (an (eI 0 U hM (fun h5 hle5 hb5=>?_)))))))))
  have mc1:qt dW.enc (iH Deputy.rp) h5 b4 dA:=⟨_,hb5,(uz.mono (iH.mono Deputy.ao) (((hle1.t hle2).t hle3).t hle4)).mono (iH.mono Deputy.ao) hle5⟩
  have hs2:aO q l=(aH l dA (ff q) q):=hs1
  exact nretH [.func (.func 205) #[] #[Q b2,Q b5,Q b3,Q b1]] ⟨(.func (.func 205) #[] #[Q b2,Q b5,Q b3,Q b1]),congrArg (fun r:List Deputy=>((.func (.func 205) #[] #[Q b2,Q b5,Q b3,Q b1]):Value)) hs2.symm,(by rw [hs2];exact (nM h5 l e8 eZ ⟨b2,0,none⟩ dA b4 ⟨b5,0,none⟩ (ff q) (.func (.func 204) #[.agg (cE.cells q).toArray] #[]) ⟨b3,0,none⟩ q ⟨b1,0,none⟩ (hl.mono Deputy.ao ((((hle1.t hle2).t hle3).t hle4).t hle5)) ((ct hb1).mono (((hle2.t hle3).t hle4).t hle5)) mc1 ((ct hb2).mono ((hle3.t hle4).t hle5)) (fun h' dB hle =>E0 (fl:=[.agg (cE.cells q).toArray]) (cap:=[]) call204 (lR h' q dB)) ((ct hb3).mono (hle4.t hle5)) ((ct hb4).mono hle5)))⟩
 rintro i1 ⟨dA,BG⟩ y1 rz1 hd1 dx aL eH hO hs3 ⟨uz,Kp⟩ hx1 ag1 e
 refine sr (aw (v':=.bool true) U (cb dx) (qO 8 U (aF (fj (enc:=Deputy.cells) ei tJ ty93 hl.1 (nthZ aL) (ba aL) U U U (fun q2 A2=>dz ty93 A2 U U (aV zc93 (fun b9=>aS 0 ty93 U U U U U U (qL 11 [0,0,0,0] U (aF (fw (cells:=[I y1.From,I y1.To,I y1.Office,I y1.Kind]) (places:=[(0,1),(1,1),(2,1),(3,1)]) Hg zc279 kr kr (aV zc279 (fun b10=>aS 0 ty279 U U U U U U (qL 4 [2] U (cW 0 ty279 U U U (aF (kh 3 (k:=(dW.mk y1.From y1.To y1.Office y1.Kind)) underlying277 rB U uz (eG zv93) (show (iH Deputy.rp) _ (.agg (List.toArray [I 0,I 0,I 0,I 0,I 0,I 0,I 0,I 0,I 0,.bool false])) (Deputy.mk 0 0 0 0 0 0 0 0 0 false) from ⟨_,U,U⟩) U U (fun v2 hv2=>?_)))))))))))))))))
 obtain ⟨_,rfl,rfl⟩:=hv2
 refine qO 3 U (aV zc93 (fun b11=>aS 0 ty93 U U U U U U (qL 5 [5] U (cW 2 ty93 U U U (aF (kH (v:=.bool (ff q y1)) [] (List.nil_sublist _) (E0 (fl:=[.agg (cE.cells q).toArray]) (args:=[.agg (Deputy.cells y1).toArray]) (cap:=[]) call204 (lR h q y1)) U U (aj (bC 10 [39,40,41,42,43,44,45,46,47,48,49] 39 49 ((!(mhas dA (dW.mk y1.From y1.To y1.Office y1.Kind)))||decide ((mgetD dA (dW.mk y1.From y1.To y1.Office y1.Kind) (Deputy.mk 0 0 0 0 0 0 0 0 0 false)).At≤y1.At)) U (fun c1 hk1=>?_) (fun e=>?_)))))))))
 ·refine qO 3 U (bY 6 [42,43,44,45,46,47,48] 42 48 (decide ((mgetD dA (dW.mk y1.From y1.To y1.Office y1.Kind) (Deputy.mk 0 0 0 0 0 0 0 0 0 false)).At≤y1.At)) U (fun c2 hk2=>?_) (fun e=>?_))
  ·exact qL 6 [2,0] U (hk2 _ U)
  exact ek U (hk1 _ U)
 refine aD (ai hs3 U (fun c3 hs4=>?_) (fun c3 hs5=>?_))
 ·exact qK 2 [3] U (cW 1 ty279 U U U (cW 2 ty93 U U U (aF (jJ 4 (k:=(dW.mk y1.From y1.To y1.Office y1.Kind)) (x:=y1) underlying277 rB U uz U U ⟨_,U,U⟩ (fun mo1 hm1=>qO 3 U (aw (v':=I (((i1+1):Nat):Int)) U (bw ob) (qO 2 U (bB (L':=[z4,(b4,mo1),z1,z2,z3]) js (ag1 ((mput dA (dW.mk y1.From y1.To y1.Office y1.Kind) y1),mo1) hs4 ⟨hm1,(by have:=ly dA (dW.mk y1.From y1.To y1.Office y1.Kind) y1;first | omega | (simp only [List.length_nil,List.length_cons] at *;omega))⟩)))))))))
 exact aJ (qT 2 U (aw (v':=I (((i1+1):Nat):Int)) U (bw ob) (qO 2 U (bB (L':=[z4,(b4,BG),z1,z2,z3]) js (ag1 (dA,BG) hs5 ⟨uz,lc⟩)))))
theorem nU (q:cE) (l:List Deputy):(aO q l).length≤l.length:=by
 have h1:∀ (v:List (dW×Deputy)) (s:List Deputy),(aH.L1 v (ff q) q aH.K1 s).length≤s.length:=by
  intro v s
  induction s with
  | nil=>exact Nat.le_refl _
  | cons y s ih=>simp only [aH.L1,Bool.cond_eq_ite];split <;> simp only [List.length_cons] <;> omega
 have h2:∀ (s:List Deputy) (g:List (dW×Deputy)),(aO.L1 q (aO.K1 q l) s g).length≤l.length:=by
  intro s
  induction s with
  | nil=>intro g;exact h1 g l
  | cons y s ih=>intro g;simp only [aO.L1,Bool.cond_eq_ite];split <;> exact ih _
 exact h2 _ _
theorem qU (h:HF) (l:List Deputy) (e8:Option Addr) (eZ:Nat) (dM:Int) (to:Int) (office:Int) (kind:Int) (value:Int) (jT:Int) (known:Int) (hl:SlC Deputy.rp h e8 eZ l) (hsz:l.length≤2000000):jN prog 30 [.slice e8 l.length eZ,I dM,I to,I office,I kind,I value,I jT,I known] h (fun v h'=>∃ (rb0:Option Addr) (rc0:Nat),v=.tuple #[.slice rb0 ((aE l dM to office kind value jT known).1).length rc0,.bool ((aE l dM to office kind value jT known).2.1),I ((aE l dM to office kind value jT known).2.2)]∧SlC Rp.int h' rb0 rc0 ((aE l dM to office kind value jT known).1)):=by
 refine sT func30 U ntmps30 U fun X hM hX hF=>?_
 have hs0:aE l dM to office kind value jT known=aE l dM to office kind value jT known:=rfl
 have hcv:(cU (aO (cE.mk office kind value jT known) l)).length≤2000000:=by rw [rn];exact Nat.le_trans (nU _ _) hsz
 refine qT 13 U (aF (fw (cells:=[I office,I kind,I value,I jT,I known]) (places:=[(0,1),(1,1),(2,1),(3,1),(4,1)]) underlying184 zc184 kr kr (aV zc184 (fun b1=>aS 0 ty184 U U U U U U (qO 7 U (cW 0 ty184 U U U (av call108 (zM _ _ _ _ dM to (cE.mk office kind value jT known) hl) U (qO 7 U (ai hs0 U (fun c1 hs1=>?_) (fun c1 hs2=>?_))))))))))
 ·refine qT 7 U ?_
  have hs3:aE l dM to office kind value jT known=([],false,(kc l dM to (cE.mk office kind value jT known))):=hs1
  exact nretH [.slice none 0 0,.bool false,I (kc l dM to (cE.mk office kind value jT known))] ⟨none,0,congrArg (fun r:(List Int×Bool×Int)=>(.tuple #[.slice none r.1.length 0,.bool r.2.1,I r.2.2]:Value)) hs3.symm,(by rw [hs3];exact SlC.nil)⟩
 refine qT 3 U (cW 0 ty184 U U U (aj (aF (cY call110 (oI _ (cE.mk office kind value jT known) _ _ _ hl) U (fun v1 h1 hle1 hp1=>?_)))))
 obtain ⟨_,rfl,mo1⟩:=hp1
 refine aF (cY call109 (rm h1 (aO (cE.mk office kind value jT known) l) v1 mo1 (Nat.le_trans (nU _ _) hsz)) U (fun v2 h2 hle2 hp2=>?_))
 obtain ⟨rb1,rc1,rfl,sl1⟩:=hp2
 refine qO 4 U (aF (mr (fun b2=>aj (aF (tQ 0 (k:=to) (x:=0) wH (eY lS) U (iL.nil (enc:=(Value.int .i64)) (V:=sM) (h:=h2)) U U U (fun mo2 hm1=>qO 8 U ?_))))))
 let z1:Nat×Obj:=(b1,O [I office,I kind,I value,I jT,I known] 184)
 refine jx (ι:=Nat×(List (Int×Int))×Obj) (fun i=>[(1,I dM),(16,.slice none 0 0),(20,.slice rb1 ((cU (aO (cE.mk office kind value jT known) l)).length) rc1),(21,.map (some b2))]) (fun i=>h2) (fun i=>[(b2,i.2.2),z1]) (fun i=>i.1≤(List.range 8).length∧aE l dM to office kind value jT known=((aE.K1 l dM office kind value jT known) i.2.1)∧iL (Value.int .i64) sM h2 i.2.2 i.2.1∧(∀ p∈i.2.1,0≤p.2∧p.2≤8)) ?_ (fun hx1=>?_)
 ·rintro ⟨i1,bS,dR⟩ ⟨fA,hs4,gd,u1_0⟩ e
  try dsimp only at fA gd u1_0
  have hf8:=(uQ (P:=fun x:Int=>0≤x∧x≤8) dM u1_0 (show (0:Int)≤0∧(0:Int)≤8 from ⟨Int.le_refl _,by omega⟩))
  have hrg:=List.length_range (n:=(mgetD bS dM 0).toNat)
  refine qT 4 U (aF (kh 0 (k:=dM) wH (eY lS) U gd (eG zv3) (show sM _ (I 0) 0 from U) U U (fun v5 hv3=>?_)))
  obtain rfl:=hv3
  refine qO 12 U (ai hs4 U (fun c3 hs5=>?_) (fun c3 hs6=>?_))
  ·refine qT 6 U ?_
   have hs7:aE l dM to office kind value jT known=([],false,0):=hs5
   exact nretH [.slice none 0 0,.bool false,I 0] ⟨none,0,congrArg (fun r:(List Int×Bool×Int)=>(.tuple #[.slice none r.1.length 0,.bool r.2.1,I r.2.2]:Value)) hs7.symm,(by rw [hs7];exact SlC.nil)⟩
  refine qT 7 U ?_
  refine jx (ι:=Nat×List Int×Option Addr×Nat×LH×Int) (fun i=>[(16,.slice i.2.2.1 i.2.1.length i.2.2.2.1)]) (fun i=>h2) (fun i=>[(b2,dR),z1]++(i.2.2.2.2.1)) (fun i=>i.1≤(List.range (((mgetD bS dM 0)).toNat)).length∧aE l dM to office kind value jT known=((aE.K4) i.2.1 i.2.2.2.2.2)∧em Rp.int 3 h2 i.2.1 i.2.2.1 i.2.2.2.1 i.2.2.2.2.1∧i.2.1.length≤i.1) ?_ (fun hx4=>?_)
  ·rintro ⟨i4,uw,yx,yw,Eb,zg⟩ ⟨zJ,hs8,yv,GJ⟩ e
   try dsimp only at zJ yv GJ
   refine qT 7 U (gL Rp.aY ([(b2,dR),z1]) Eb ([]) ap hM yv (fun h3 hle3 sl2=>?_))
   have hs9:aE l dM to office kind value jT known=(uw,true,0):=hs8
   exact nretH [.slice yx uw.length yw,.bool true,I 0] ⟨yx,yw,congrArg (fun r:(List Int×Bool×Int)=>(.tuple #[.slice yx r.1.length yw,.bool r.2.1,I r.2.2]:Value)) hs9.symm,(by rw [hs9];exact sl2)⟩
  refine ku (ι:=Nat×List Int×Option Addr×Nat×LH×Int×List Nat) (fun i=>[(16,.slice i.2.2.1 i.2.1.length i.2.2.2.1),(20,.slice rb1 ((cU (aO (cE.mk office kind value jT known) l)).length) rc1),(21,.map (some b2)),(29,I ((((((mgetD bS dM 0)).toNat) - i.1):Nat):Int)),(31,I i.2.2.2.2.2.1)]) (fun i=>h2) (fun i=>[(b2,dR),z1]++(i.2.2.2.2.1)) (fun i=>(List.range (((mgetD bS dM 0)).toNat)).drop i.1=i.2.2.2.2.2.2∧i.1≤(List.range (((mgetD bS dM 0)).toNat)).length∧aE l dM to office kind value jT known=((aE.L4 l dM office kind value jT known bS (aE.K4)) i.2.2.2.2.2.2 i.1 i.2.1 i.2.2.2.2.2.1)∧em Rp.int 3 h2 i.2.1 i.2.2.1 i.2.2.2.1 i.2.2.2.2.1∧i.2.1.length≤i.1) (fun i=>i.2.2.2.2.2.2.length) (0,[],none,0,[],dM,(List.range (((mgetD bS dM 0)).toNat))) ⟨U,U,U,(congrArg (Value.int .i64) (show (mgetD bS dM 0)=((((((mgetD bS dM 0)).toNat) - 0):Nat):Int) from (by have hq:=(uQ (P:=fun x:Int=>0≤x∧x≤8) dM u1_0 (show (0:Int)≤0∧(0:Int)≤8 from ⟨Int.le_refl _,by omega⟩));omega))),U,trivial⟩ sw ⟨U,Nat.zero_le _,hs6,em.nil,lo⟩ ?_
  rintro ⟨i4,uw,yx,yw,Eb,zg,s4⟩ ⟨hd4,Mw,hs10,yv,GJ⟩ ag1 e
  try dsimp only at hd4 Mw yv GJ
  rcases s4 with _ | ⟨y4,rz4⟩
  ·have Nb:decide (0 < ((((((mgetD bS dM 0)).toNat) - i4):Nat):Int))=false:=decide_eq_false (by have q_:=of_decide_eq_false (nH hd4);rw [List.length_range] at q_;omega)
   exact aR (qT 3 U (aw (v':=.bool false) U (cb Nb) (qO 3 U (hx4 (i4,uw,yx,yw,Eb,zg) _ ⟨Mw,hs10,yv,lo⟩ rd))))
  have Na:decide (0 < ((((((mgetD bS dM 0)).toNat) - i4):Nat):Int))=true:=decide_eq_true (by have q_:=jr hd4;rw [List.length_range] at q_;omega)
  have LW:i4 < (((mgetD bS dM 0)).toNat):=by simpa using jr hd4
  refine qT 4 U (aw (v':=.bool true) U (cb Na) (qL 11 [] U ?_))
  refine lp3 (cU (aO (cE.mk office kind value jT known) l)) (fun i w=>[(16,.slice w.2.1 w.1.length w.2.2.1),(20,.slice rb1 ((cU (aO (cE.mk office kind value jT known) l)).length) rc1),(21,.map (some b2)),(29,I ((((((mgetD bS dM 0)).toNat) - i4):Nat):Int)),(31,I w.2.2.2.2),(110,.slice rb1 ((cU (aO (cE.mk office kind value jT known) l)).length) rc1),(111,I (((cU (aO (cE.mk office kind value jT known) l)).length:Nat):Int)),(112,I (i:Int))]) (fun _=>h2) (fun w=>[(b2,dR),z1]++(w.2.2.2.1)) (fun i w=>em Rp.int 3 h2 w.1 w.2.1 w.2.2.1 w.2.2.2.1∧w.1.length≤i4) (fun i w=>em Rp.int 3 h2 w.1 w.2.1 w.2.2.1 w.2.2.2.1∧w.1.length≤i4+1) (fun _ _ h=>⟨h.1,Nat.le_succ_of_le h.2⟩) (fun s6 i w=>(aE.L6 dM bS i4 (fun zg6_16 zg6_31=>(aE.L4 l dM office kind value jT known bS (aE.K4) rz4 (i4+1) zg6_16 zg6_31))) s6 w.1 w.2.2.2.2) (uw,yx,yw,Eb,zg) sl1.1.1 hs10 ⟨yv,lo⟩ ?_ ?_
  ·rintro i6 ⟨xe,GI,GH,BC,zf⟩ MQ hs12 ⟨yu,GG⟩ e
   try dsimp only at yu GG
   exact da (qT 2 U (aw (v':=I ((((((mgetD bS dM 0)).toNat) - (i4+1)):Nat):Int)) U (KG LW ob) (an (ag1 ((i4+1),xe,GI,GH,BC,zf,rz4) _ (Nat.lt_succ_self _) ⟨lQ hd4,jr hd4,hs12,yu,lo⟩ rd))))
  rintro i6 ⟨xe,GI,GH,BC,zf⟩ y6 rz6 hd6 M9 LX Nm Nr hs13 ⟨yu,GG⟩ hx6 ag2 e
  try dsimp only at yu GG
  refine sr (aw (v':=.bool true) U (cb M9) (qO 8 U (aF (fj (enc:=Deputy.cells) ei tJ ty93 sl1.1 (nthZ LX) (ba LX) U U U (fun q4 A4=>dz ty93 A4 U U (aV zc93 (fun b6=>aS 0 ty93 U U U U U U (iw (L':=[(b6,O (Deputy.cells y6) 93),(b2,dR),z1]++(BC)) U (qL 6 [0] U (aF (kh 1 (k:=y6.To) wH (eY lS) U gd (eG zv3) (show sM _ (I 0) 0 from U) U U (fun v8 hv6=>?_))))))))))))
  obtain rfl:=hv6
  refine qL 13 [0] U (bC 2 [127,128,129] 127 129 (mhas bS y6.To) U (fun c5 hk1=>?_) (fun e=>?_))
  ·exact aj (ek U (hk1 _ U))
  refine aj (bC 5 [130,131,132,133,134,135] 130 135 ((mgetD bS y6.To 0)==((((((mgetD bS dM 0)).toNat) - (i4+1)):Nat):Int)) U (fun c6 hk2=>?_) (fun e=>?_))
  ·exact aj (aj (aw (v':=I ((((((mgetD bS dM 0)).toNat) - (i4+1)):Nat):Int)) U (KG LW ob) (qO 2 U (hk2 _ U))))
  refine aD (ai hs13 U (fun c7 hs14=>?_) (fun c7 hs15=>?_))
  ·refine aR ?_
   let z2:Nat×Obj:=(b6,O (Deputy.cells y6) 93)
   refine eQ ([z2,(b2,dR),z1]) mixed kr jn (fun dH _=>?_)
   exact tm 0 U (qB [1] U (tf 2 U U (fun _ _ hj=>fH ty3 U (hj.nth (i:=0) U) U) (qB [5] U (tf 6 U U (fun _ _ hj=>fH ty3 U (hj.nth (i:=0) U) U) (tn 3 U (bV (cells:=[I y6.No]) fa ty3 zc3 U U kr (fun b7=>⟨jn,tn 4 U (eR Rp.kR ([(b7,O [I y6.No] 3),z2,(b2,dR),z1]) ([]) (fun G=>[(b7,O [I y6.No] 3),z2,(b2,dR),z1]++G) ap (fun _=>ap) fa ty3 zc3 U bytes3 yu U U (fI 0 U (show bu Rp.int h2 [I y6.No] ([y6.No]) from ⟨[I y6.No],[],U,U,U,U⟩)) lo lo (fun ob1 oc1 G1 gr1=>⟨jn,qA [7,8] U (aW kr (kv U (bB (L':=[(b2,dR),z1]++G1) js (hx6 i6 ((xe++[y6.No]),ob1,oc1,G1,y6.To) hs14 ⟨gr1,lo⟩))))⟩))⟩)))))))
  exact aJ (qT 2 U (aw (v':=I (((i6+1):Nat):Int)) U (bw ob) (qO 2 U (bB (L':=[(b2,dR),z1]++(BC)) js (ag2 (xe,GI,GH,BC,zf) hs15 ⟨yu,lo⟩)))))
 refine ku (ι:=Nat×(List (Int×Int))×Obj×List Nat) (fun i=>[(1,I dM),(16,.slice none 0 0),(20,.slice rb1 ((cU (aO (cE.mk office kind value jT known) l)).length) rc1),(21,.map (some b2)),(57,I (i.1:Int))]) (fun i=>h2) (fun i=>[(b2,i.2.2.1),z1]) (fun i=>(List.range 8).drop i.1=i.2.2.2∧i.1≤(List.range 8).length∧aE l dM to office kind value jT known=((aE.L1 l office kind value jT known (aE.K1 l dM office kind value jT known)) i.2.2.2 i.1 i.2.1)∧iL (Value.int .i64) sM h2 i.2.2.1 i.2.1∧(∀ p∈i.2.1,0≤p.2∧p.2≤8)) (fun i=>i.2.2.2.length) (0,(mput ([]) to 0),mo2,(List.range 8)) rd sw ⟨U,Nat.zero_le _,hs2,hm1,(fun p hp=>by rw [List.mem_singleton.1 hp];exact ⟨Int.le_refl _,by omega⟩)⟩ ?_
 rintro ⟨i1,bS,dR,s1⟩ ⟨hd1,fA,hs16,gd,u1_0⟩ ag3 e
 try dsimp only at hd1 fA gd u1_0
 rcases s1 with _ | ⟨y1,rz1⟩
 ·have il:decide ((i1:Int) < 8)=false:=by simpa using nH hd1
  exact sr (aw (v':=.bool false) U (cb il) (qO 4 U (hx1 (i1,bS,dR) _ ⟨fA,hs16,gd,u1_0⟩ rd)))
 have dx:decide ((i1:Int) < 8)=true:=by simpa using rW hd1
 have eH:i1 < 8:=by simpa using jr hd1
 have hr8:i1 < 8:=eH
 refine sr (aw (v':=.bool true) U (cb dx) (qL 17 [] U ?_))
 refine lp2 (cU (aO (cE.mk office kind value jT known) l)) (fun i w=>[(1,I dM),(16,.slice none 0 0),(20,.slice rb1 ((cU (aO (cE.mk office kind value jT known) l)).length) rc1),(21,.map (some b2)),(22,I (i1:Int)),(57,I (i1:Int)),(60,.slice rb1 ((cU (aO (cE.mk office kind value jT known) l)).length) rc1),(61,I (((cU (aO (cE.mk office kind value jT known) l)).length:Nat):Int)),(62,I (i:Int))]) (fun _=>h2) (fun w=>[(b2,w.2),z1]) (fun i w=>iL (Value.int .i64) sM h2 w.2 w.1∧(∀ p∈w.1,0≤p.2∧p.2≤8)) (fun s3 i w=>(aE.L3 i1 (fun zg3_b2_0=>(aE.L1 l office kind value jT known (aE.K1 l dM office kind value jT known) rz1 (i1+1) zg3_b2_0))) s3 w.1) (bS,dR) sl1.1.1 hs16 ⟨gd,ob⟩ ?_ ?_
 ·rintro i3 ⟨lL,xg⟩ Mw hs18 ⟨oC,u3_0⟩ e
  try dsimp only at oC u3_0
  exact da (ay (aw (v':=I (((i1+1):Nat):Int)) U (bw ob) (qO 2 U (ag3 ((i1+1),lL,xg,rz1) _ (Nat.lt_succ_self _) ⟨lQ hd1,jr hd1,hs18,oC,ob⟩ rd))))
 rintro i3 ⟨lL,xg⟩ y3 rz3 hd3 D9 sZ HE Lu hs19 ⟨oC,u3_0⟩ hx3 ag4 e
 try dsimp only at oC u3_0
 refine sr (aw (v':=.bool true) U (cb D9) (qO 8 U (aF (fj (enc:=Deputy.cells) ei tJ ty93 sl1.1 (nthZ sZ) (ba sZ) U U U (fun q6 A6=>dz ty93 A6 U U (aV zc93 (fun b9=>aS 0 ty93 U U U U U U (qL 6 [0] U (aF (kh 1 (k:=y3.From) wH (eY lS) U oC (eG zv3) (show sM _ (I 0) 0 from U) U U (fun v11 hv9=>?_)))))))))))
 obtain rfl:=hv9
 refine qL 11 [0] U (aF (kh 1 (k:=y3.To) wH (eY lS) U oC (eG zv3) (show sM _ (I 0) 0 from U) U U (fun v12 hv10=>?_)))
 obtain rfl:=hv10
 refine qO 10 U (bC 4 [81,82,83,84,85] 81 85 ((mgetD lL y3.To 0)==(i1:Int)) U (fun c8 hk3=>?_) (fun e=>?_))
 ·exact aj (qO 3 U (hk3 _ U))
 refine aj (bC 3 [86,87,88,89] 86 89 (!(mhas lL y3.From)) U (fun c9 hk4=>?_) (fun e=>?_))
 ·exact aj (qO 2 U (hk4 _ U))
 refine aD (ai hs19 U (fun c10 hs20=>?_) (fun c10 hs21=>?_))
 ·exact qK 5 [0] U (aw (v':=I (((i1+1):Nat):Int)) U (bw ob) (aF (jJ 1 (k:=y3.From) (x:=(((i1+1):Nat):Int)) wH (eY lS) U oC U U U (fun mo3 hm2=>qO 3 U (aw (v':=I (((i3+1):Nat):Int)) U (bw ob) (qO 2 U (bB (L':=[(b2,mo3),z1]) js (ag4 ((mput lL y3.From (((i1+1):Nat):Int)),mo3) hs20 ⟨hm2,(by first | assumption | exact rQ (P:=fun x:Int=>0≤x∧x≤8) _ ob ob)⟩))))))))
 exact aJ (qT 2 U (aw (v':=I (((i3+1):Nat):Int)) U (bw ob) (qO 2 U (bB (L':=[(b2,xg),z1]) js (ag4 (lL,xg) hs21 ⟨oC,(by first | assumption | exact rQ (P:=fun x:Int=>0≤x∧x≤8) _ ob ob)⟩)))))
theorem ut (h:HF) (l:List Interest) (e8:Option Addr) (eZ:Nat) (person:Int) (parties:List Int) (kg:Option Addr) (ke:Nat) (cL:Int) (known:Int) (hl:SlC Interest.rp h e8 eZ l) (hparties:SlC Rp.int h kg ke parties):Ret prog 111 [.slice e8 l.length eZ,I person,.slice kg parties.length ke,I cL,I known] h (I (cM l person parties cL known)):=by
 refine sT func111 U ntmps111 U fun X hM hX hF=>?_
 have hs0:cM l person parties cL known=cM l person parties cL known:=rfl
 refine qT 8 U (av call67 (pW _ _ _ _ hl) U (qO 7 U (ai hs0 U (fun c1 hs1=>?_) (fun c1 hs2=>?_))))
 ·exact sr (qO 3 U (nretP [I (cN l)] (ci hs1)))
 refine qK 12 [] U ?_
 refine lp1 parties (fun i w=>[(1,I person),(2,.slice kg parties.length ke),(3,I cL),(4,I known),(12,I w),(20,.slice kg parties.length ke),(21,I (parties.length:Int)),(22,I (i:Int))]) ([]) (fun s1 i w=>(cM.L1 (cM.K1 person parties cL known)) s1 w) (-1) hparties.1.1 hs2 ?_ ?_
 ·rintro i1 Dt fA hs4 e
  refine qT 4 U (av yH (gJ h person 64) U (qO 2 U (bY 4 [38,39,40,41,42] 38 42 (decide (16 < (parties.length:Int))) U (fun c2 hk1=>?_) (fun e=>?_))))
  ·exact qL 4 [] U (hk1 _ U)
  refine aj (bY 4 [43,44,45,46,47] 43 47 (!(bI cL 1099511627776)) U (fun c3 hk2=>?_) (fun e=>?_))
  ·exact aj (av yH (gJ h cL 1099511627776) U (qO 2 U (hk2 _ U)))
  refine aj (bY 4 [48,49,50,51,52] 48 52 (!(bI known 1099511627776)) U (fun c4 hk3=>?_) (fun e=>?_))
  ·exact aj (av yH (gJ h known 1099511627776) U (qO 2 U (hk3 _ U)))
  refine aD (ai hs4 U (fun c5 hs5=>?_) (fun c5 hs6=>?_))
  ·exact sr (an (nretP [I 1] (ci hs5)))
  exact aJ (qT 4 U (nretP [I 0] (ci hs6)))
 rintro i1 Dt y1 rz1 hd1 dx aL eH hO hs9 hx1 ag1 e
 refine sr (aw (v':=.bool true) U (cb dx) (qO 8 U (aF (fj (enc:=fun y=>[I y]) ei fa ty3 hparties.1 (nthZ aL) (ba aL) U U U (fun q2 A2=>dF ty3 A2 U (qO 9 U (bY 3 [29,30,31,32] 29 32 (decide (1048576 < y1)) U (fun c6 hk4=>?_) (fun e=>?_))))))))
 ·exact aj (qO 2 U (hk4 _ U))
 refine aD (ai hs9 U (fun c7 hs10=>?_) (fun c7 hs11=>?_))
 ·exact sr (an (nretP [I 1] (ci hs10)))
 exact aJ (qT 6 U (aw (v':=I (((i1+1):Nat):Int)) U (bw ob) (qO 2 U (ag1 y1 hs11))))
theorem rU (h:HF) (v0:List Interest) (ri:Option Addr) (rh:Nat) (v0_q:Addr) (v1:List (dS×Interest)) (IT:Nat) (v1_q:Addr) (hv0:SlC Interest.rp h ri rh v0) (av0:At h v0_q [.slice ri v0.length rh]) (hv1:qt dS.enc (iH Interest.rp) h IT v1) (av1:At h v1_q [.map (some IT)]):Itr prog (.func (.func 208) #[] (List.toArray [.pointer (some v0_q),.pointer (some v1_q)])) sF (bT v0 v1) h:=by
 refine pU call208 ?_
 intro yf ya yb C Sp Pn h1 A hle m1 m2 m3 hC hy
 refine iV EA U ntmps208 U fun X hXM hX=>?_
 have hs0:bT v0 v1=[]++bT v0 v1:=rfl
 refine sr (dF ty24 (av0.mono hle) U (qL 3 [] U ?_))
 refine lp2 v0 (fun i w=>[(0,.func yf ya yb),(2,.pointer (some v1_q)),(6,.slice ri v0.length rh),(7,I (v0.length:Int)),(8,I (i:Int))]) (fun w=>w.2.2) (fun w=>w.2.1) (fun i w=>C w.1 w.2.2 w.2.1∧HF.le h1 w.2.2) (fun s1 i w=>w.1++(bT.L1 v1 (bT.K1)) s1) ([],A,h1) ((hv0.mono Interest.ao hle).1.1) hs0 ⟨hC,lf⟩ ?_ ?_
 ·rintro i1 ⟨dn1,A1_,hh1⟩ fA hs1 ⟨hC1_,hl1⟩ e
  refine dY ?_
  have hs2:bT v0 v1=dn1:=hs1.trans (List.append_nil _)
  exact pV [] (A:=A1_) EA U (List.Sublist.refl _) (.inl (hs2 ▸ hC1_))
 rintro i1 ⟨dn1,A1_,hh1⟩ y1 rz1 hd1 dx aL eH hO hs3 ⟨hC1_,hl1⟩ hx1 ag1 e
 refine sr (aw (v':=.bool true) U (cb dx) (qO 8 U (aF (fj (enc:=Interest.cells) ei sU ty97 (hv0.mono Interest.ao (hle.t hl1)).1 (nthZ aL) (ba aL) U U U (fun q2 A2=>dz ty97 A2 U U (aV zc97 (fun b2=>aS 0 ty97 U U U U U U (iw (L':=[(b2,O (Interest.cells y1) 97)]++(A1_)) U (qO 2 U ?_)))))))))
 let z1:Nat×Obj:=(b2,O (Interest.cells y1) 97)
 refine eQ ([z1]) mixed kr jn (fun dH _=>?_)
 refine qB [0] U (tf 1 U U (fun _ _ hj=>fH ty4 U (hj.nth (i:=0) U) U) (qA [2,3] U ?_))
 refine dt 15 U (fun c1=>?_) (fun c1=>?_)
 ·refine tf 4 U U (fun _ _ hj=>eV ty282 ((av1.mono (hle.t hl1)).mono hj.1) U) (qB [5] U (tf 6 U U (fun _ _ hj=>fH ty3 U (hj.nth (i:=0) U) U) (qB [7] U (tf 8 U U (fun _ _ hj=>fH ty3 U (hj.nth (i:=0) U) U) (qB [9] U (tf 10 U U (fun _ _ hj=>fH ty4 U (hj.nth (i:=0) U) U) (tf 13 U U (fun _ _ hj=>je ty97 U (hj.nth (i:=0) U) U) (tn 11 U (fw (cells:=[I y1.Person,I y1.Party,.bool y1.Of]) (places:=[(0,1),(1,1),(2,1)]) Hf zc284 kr kr (⟨jn,tn 12 U ?_⟩))))))))))
  obtain ⟨o2,hb2,hm2⟩:=(hv1.mono (iH.mono Interest.ao) (hle.t hl1))
  refine mt (k:=(dS.mk y1.Person y1.Party y1.Of)) underlying282 rA hb2 hm2 (eG zv97) (show (iH Interest.rp) _ (.agg (List.toArray [I 0,I 0,I 0,I 0,I 0,.bool false,.bool false])) (Interest.mk 0 0 0 0 0 false false) from ⟨_,U,U⟩) U U (fun v2 hv2=>?_)
  obtain ⟨_,rfl,rfl⟩:=hv2
  refine ⟨jn,(tf 14 U U (fun _ _ _=>Hv (Eg (mgetD v1 (dS.mk y1.Person y1.Party y1.Of) (Interest.mk 0 0 0 0 0 false false)) y1) eqg97 U U) (tf 15 U U (fun _ _ _=>mz U (cb (show (decide ((mgetD v1 (dS.mk y1.Person y1.Party y1.Of) (Interest.mk 0 0 0 0 0 false false))=y1))=((!y1.Gone)&&(decide ((mgetD v1 (dS.mk y1.Person y1.Party y1.Of) (Interest.mk 0 0 0 0 0 false false))=y1))) from by first | (rw [c1];rfl) | (rw [c1];rfl) | simp [c1]))) (tm 16 U ?_)))⟩
  refine dt 28 U (fun c2=>?_) (fun c2=>?_)
  ·have ct1:=c2
   have hs4:=hs3.trans (congrArg (dn1++·) (bt ct1))
   refine tm 17 U (tf 18 U U (fun _ _ hj=>je ty97 U (hj.nth (i:=0) U) U) ?_)
   have hx1:bT v0 v1=dn1++(y1::(bT.L1 v1 (bT.K1) rz1)):=hs4
   refine tn 19 U (jW ([z1]) A1_ ap (hy dn1 y1 _ _ _ _ hx1 hl1 hC1_ U) U U (fun h2 A3 hle1 hC1=>?_) (fun h3 A4 hle2 hS1=>?_) (fun ch1 h4 A5 hle3 hP1 e=>gp (lG [] (A:=A5) EA (List.sublist_append_right _ _) hP1)))
   ·have hs5:bT v0 v1=(dn1++[y1])++((bT.L1 v1 (bT.K1) rz1)):=hx1.trans ap
    exact ⟨⟨hle1,fun _ hp=>List.Sublist.subset js hp⟩,mD (K2:=[z1]) hle1 (fun _ hp=>hp) (qA [20,21] U (aW kr (qT 4 U (aw (v':=I (((i1+1):Nat):Int)) U (bw ob) (qO 2 U (bB (L':=A3) js (ag1 ((dn1++[y1]),A3,h2) hs5 ⟨hC1,(hl1.t hle1)⟩)))))))⟩
   exact ⟨⟨hle2,fun _ hp=>List.Sublist.subset js hp⟩,mD (K2:=[z1]) hle2 (fun _ hp=>hp) (qA [20,21] U (aW kr (iq U (dY (lq [] (A:=A4) EA U js (.inr hS1))))))⟩
  have ct2:=c2
  have hs6:=hs3.trans (congrArg (dn1++·) (bf ct2))
  exact tk 17 U U (qR 18 4 U (aW kr (qT 4 U (aw (v':=I (((i1+1):Nat):Int)) U (bw ob) (qO 2 U (bB (L':=A1_) js (ag1 (dn1,A1_,hh1) hs6 ⟨hC1_,hl1⟩)))))))
 refine qR 4 11 U (tf 15 U U (fun _ _ _=>mz U (cb (show false=((!y1.Gone)&&(decide ((mgetD v1 (dS.mk y1.Person y1.Party y1.Of) (Interest.mk 0 0 0 0 0 false false))=y1))) from by first | (rw [c1];rfl) | (rw [c1];rfl) | simp [c1]))) (tm 16 U ?_))
 refine dt 28 U (fun c3=>?_) (fun c3=>?_)
 ·have ct3:=c3
  have hs7:=hs3.trans (congrArg (dn1++·) (bt ct3))
  refine tm 17 U (tf 18 U U (fun _ _ hj=>je ty97 U (hj.nth (i:=0) U) U) ?_)
  have hx2:bT v0 v1=dn1++(y1::(bT.L1 v1 (bT.K1) rz1)):=hs7
  refine tn 19 U (jW ([z1]) A1_ ap (hy dn1 y1 _ _ _ _ hx2 hl1 hC1_ U) U U (fun h5 A6 hle4 hC2=>?_) (fun h6 A7 hle5 hS2=>?_) (fun ch2 h7 A8 hle6 hP2 e=>gp (lG [] (A:=A8) EA (List.sublist_append_right _ _) hP2)))
  ·have hs8:bT v0 v1=(dn1++[y1])++((bT.L1 v1 (bT.K1) rz1)):=hx2.trans ap
   exact ⟨⟨hle4,fun _ hp=>List.Sublist.subset js hp⟩,mD (K2:=[z1]) hle4 (fun _ hp=>hp) (qA [20,21] U (aW kr (qT 4 U (aw (v':=I (((i1+1):Nat):Int)) U (bw ob) (qO 2 U (bB (L':=A6) js (ag1 ((dn1++[y1]),A6,h5) hs8 ⟨hC2,(hl1.t hle4)⟩)))))))⟩
  exact ⟨⟨hle5,fun _ hp=>List.Sublist.subset js hp⟩,mD (K2:=[z1]) hle5 (fun _ hp=>hp) (qA [20,21] U (aW kr (iq U (dY (lq [] (A:=A7) EA U js (.inr hS2))))))⟩
 have ct4:=c3
 have hs9:=hs3.trans (congrArg (dn1++·) (bf ct4))
 exact tk 17 U U (qR 18 4 U (aW kr (qT 4 U (aw (v':=I (((i1+1):Nat):Int)) U (bw ob) (qO 2 U (bB (L':=A1_) js (ag1 (dn1,A1_,hh1) hs9 ⟨hC1_,hl1⟩)))))))
end Go.Sg
namespace Go.Sg
open Go.Proofs Go.Proofs.Tryz Go.RowKit
theorem CN {out:List Int} {x:Int}:(compStep out x).getLast? = some x:=by
 unfold compStep
 split
 ·assumption
 ·simp
theorem Cd (xs:List Int):∀ k,k≤xs.length→Lib.compactUpTo xs.toArray k=compI (xs.take k)∧(0 < k→(compI (xs.take k)).getLast? = xs[k - 1]?)
 | 0,_=>⟨by simp [Lib.compactUpTo,compI],fun h=>absurd h (Nat.lt_irrefl _)⟩
 | k+1,hk=>by
  obtain ⟨h1,h2⟩:=Cd xs k (by omega)
  have hx:xs[k]? = some xs[k]:=List.getElem?_eq_getElem (by omega)
  have ht:xs.take (k+1)=xs.take k++[xs[k]]:=by rw [List.take_add_one,hx];rfl
  have hc:compI (xs.take (k+1))=compStep (compI (xs.take k)) xs[k]:=by unfold compI;rw [ht,List.foldl_append];rfl
  refine ⟨?_,fun _=>by rw [hc,CN,Nat.add_sub_cancel,hx]⟩
  rw [Lib.compactUpTo_succ,h1,hc]
  have hd:xs.toArray[k]! = xs[k]:=by simp [getElem!_pos,show k < xs.length by omega]
  rcases Nat.eq_zero_or_pos k with rfl | hk0
  ·simp [Lib.keeps,compI,compStep,hd]
  ·have hl:=h2 hk0
   have hd1:xs.toArray[k - 1]! = xs[k - 1]:=by simp [getElem!_pos,show k - 1 < xs.length by omega]
   have hx1:xs[k - 1]? = some xs[k - 1]:=List.getElem?_eq_getElem (by omega)
   unfold compStep
   rw [hl,hx1,hd]
   by_cases he:xs[k - 1]=xs[k]
   ·have:Lib.keeps xs.toArray k=false:=Lib.keeps_neg hk0 (by rw [hd,hd1,he])
    simp [this,he]
   ·have:Lib.keeps xs.toArray k=true:=Lib.keeps_pos (by rw [hd,hd1];exact fun e=>he e.symm)
    simp [this,he]
theorem GN (xs:List Int):Lib.compact xs=compI xs:=by
 have:=(Cd xs xs.length (Nat.le_refl _)).1
 rw [List.take_length] at this
 exact this
theorem KJ (xs:List Int):(compI xs).length≤xs.length:=by
 have:∀ (l acc:List Int),(l.foldl compStep acc).length≤acc.length+l.length:=by
  intro l
  induction l with
  | nil=>intro acc;exact Nat.le_refl _
  | cons y l ih=>
   intro acc
   have h1:=ih (compStep acc y)
   have h2:(compStep acc y).length≤acc.length+1:=by unfold compStep;split <;> simp
   simp only [List.foldl_cons,List.length_cons];omega
 have h3:=this xs []
 simpa [compI] using h3
theorem nO (h:HF) (xs:List Int) (b:Option Addr) (c:Nat) (G:LH) (hG:em Rp.int 3 h xs b c G):
  mP prog 136 [.slice b xs.length c].toArray h G (fun r h' G'=>h'=h∧r=.returned (.slice b (slices_Compact_int xs).length c)∧em Rp.int 3 h (slices_Compact_int xs) b c G'):=by
 intro w hp
 rcases hG with ⟨rfl,rfl,rfl,rfl⟩ | ⟨bk,cl,sp,rfl,hcl,hlen,hcap,hmax,rfl⟩
 ·refine (jU (Tryz.slices_Compact_int_empty none 0 w) (fun w' hw=>by cases hw.1)).mono ?_
  rintro e w' ⟨rfl,rfl⟩
  exact ⟨h,[],St.start hp,rfl,rfl,em.nil⟩
 ·have hb:=hp.own _ (List.mem_singleton.2 rfl)
  simp only at hb
  have hcl':cl=xs.map (Value.int .i64):=by
   clear hlen hb hp hcap hmax
   induction xs generalizing cl with
   | nil=>exact hcl
   | cons y l ih=>
    obtain ⟨cs,r,rfl,_,hr,hl⟩:=hcl
    have:cs=[.int .i64 y]:=hr
    rw [this,ih r hl];rfl
  subst hcl'
  have hH:Sort.Holds (Value.int .i64) w bk 0 xs.toArray:=by
   refine holds_of_blockI (cur:=(xs.map (Value.int .i64)++sp).toArray) (e:=3) hb ?_
   simp
  refine (jU (Tryz.slices_Compact_int bk 0 c xs w hH hmax hcap) (fun w' hw=>by cases hw.1)).mono ?_
  rw [GN]
  have hle:=KJ xs
  rintro e w' ⟨rfl,n,rfl⟩
  let ys:List Int:=compI xs++List.replicate (xs.length - (compI xs).length) 0
  have hys:ys.length=xs.length:=by simp [ys];omega
  obtain ⟨g1,g2,g3,g4,g5⟩:=grownBy_sortedI (w:=w) (g:=bk) (n:=n) (os:=#[]) ys.toArray
  have hnew:=heap_sortedI (w:=w) (g:=bk) (n:=n) (os:=#[]) ys.toArray hb
  have htake:=take_putCellsI (xs.map (Value.int .i64)++sp).toArray ys (by rw [hys];simp)
  have hgr:∀ W:World,Go.Sort.grow W #[]=W:=fun W=>by simp [Go.Sort.grow]
  rw [hgr] at g1 g2 g3 g4 g5 hnew
  refine ⟨h,[(bk,.cells (Sort.putCells (Value.int .i64) 0 ys.toArray (xs.map (Value.int .i64)++sp).toArray) 3 (0,0))],⟨g1,g2,g3,g4,fun k hk hM=>g5 k hk (fun e=>hM (by cases e;simp)),fun _ _ e=>e,fun _ _=>rfl,fun k o e=>?_,fun q hq=>?_,?_,?_,?_⟩,rfl,rfl,?_⟩
  ·have hne:k≠bk:=fun e'=>by
    have:=hp.free _ (List.mem_singleton.2 rfl)
    simp only at this
    rw [e',this] at e;cases e
   exact (g5 k (gQ (hp.imm k o e)) (fun e'=>by cases e';exact hne rfl)).trans (hp.imm k o e)
  ·rw [List.mem_singleton.1 hq];exact hnew
  ·simp
  ·intro q hq;rw [List.mem_singleton.1 hq];exact hp.free (bk,Obj.cells (xs.map (Value.int .i64)++sp).toArray 3 (0,0)) (List.mem_singleton.2 rfl)
  ·intro q hq;rw [List.mem_singleton.1 hq];exact .inr (by simp)
  ·have hcells:∀ l:List Int,bu Rp.int h (l.map (Value.int .i64)) l:=by
    intro l
    induction l with
    | nil=>rfl
    | cons y l ih=>exact ⟨[.int .i64 y],l.map (Value.int .i64),rfl,rfl,rfl,ih⟩
   have hg:em Rp.int 3 h ys (some ⟨bk,0,none⟩) c [(bk,.cells (Sort.putCells (Value.int .i64) 0 ys.toArray (xs.map (Value.int .i64)++sp).toArray) 3 (0,0))]:=by
    refine .inr ⟨bk,ys.map (Value.int .i64),(Sort.putCells (Value.int .i64) 0 ys.toArray (xs.map (Value.int .i64)++sp).toArray).toList.drop ys.length,rfl,hcells _,?_,by rw [hys];exact hcap,by rw [hys];exact hmax,?_⟩
    ·rw [← htake,List.take_append_drop]
     simpa [Sort.putCells] using hlen
    ·rw [← htake,List.take_append_drop]
   have:=hg.take (compI xs).length
   rwa [show ys.take (compI xs).length=compI xs from by simp [ys]] at this
end Go.Sg
namespace Go.Sg
open Go.Proofs Go.Proofs.Tryz
theorem nf.length {κ α : Type} {enc:κ→Value} {V:HF→Value→α→Prop} {h:HF}:∀ {es:List MapEntry} {m:List (κ×α)},nf enc V h es m→es.length=m.length
 | [],[],_=>rfl
 | _::_,(_,_)::_,⟨_,_,c⟩=>by simp [nf.length c]
 | [],_::_,x=>x.elim
 | _::_,[],x=>x.elim
theorem vY {κ : Type} [Inhabited κ] (ks:List κ) (is:List Nat) (hn:is.Nodup) (hlt:∀ i∈is,i < ks.length) (hall:∀ i,i < ks.length→i∈is):(is.map fun i=>(ks[i]?).getD default).Perm ks:=by
 have h1:is.Perm (List.range ks.length):=(List.perm_ext_iff_of_nodup hn List.nodup_range).2 (fun i=>by rw [List.mem_range];exact ⟨hlt i,hall i⟩)
 refine (h1.map _).trans (List.Perm.of_eq ?_)
 apply List.ext_getElem (by simp)
 intro i h2 h3
 simp at h2
 simp [List.getElem?_eq_getElem h2]
theorem yU {κ : Type} [Inhabited κ] (ks:List κ) (is:List Nat) (hn:is.Nodup) (hlt:∀ i∈is,i < ks.length):∃ rest,((is.map fun i=>(ks[i]?).getD default)++rest).Perm ks:=by
 let js:=(List.range ks.length).filter fun i=>!is.contains i
 have hd:(is++js).Nodup:=by
  rw [List.nodup_append]
  refine ⟨hn,List.nodup_range.filter _,fun a ha b hb e=>?_⟩
  subst e
  simp [js] at hb
  exact hb.2 ha
 refine ⟨js.map fun i=>(ks[i]?).getD default,?_⟩
 rw [← List.map_append]
 refine vY ks (is++js) hd (fun i hi=>?_) (fun i hi=>?_)
 ·rcases List.mem_append.1 hi with h | h
  ·exact hlt i h
  ·simp [js] at h;exact h.1
 ·by_cases hm:i∈is
  ·exact List.mem_append_left _ hm
  ·exact List.mem_append_right _ (by simp [js,hi,hm])
theorem sC (h:HF) (m:List (Int×Version)) (bk:Nat) (q:Addr) (hm:qt (Value.int .i64) (iH Version.rp) h bk m) (aq:At h q [.map (some bk)]):
  Cl prog (.func (.func 262) #[] #[.pointer (some q)]) (fun k _ vs=>vs=[(Value.int .i64) k]) (fun xs=>xs.Perm (m.map (·.1))) h:=by
 refine ⟨262,[.pointer (some q)],rfl,call262,?_⟩
 intro yf ya yb C Sp Pn h1 A hle m1 m2 m3 hC hy
 obtain ⟨o,hb,m0,hpm,hnd0,es,clock,rfl,hE,hP,hcl⟩:=hm.mono (iH.mono Version.ao) hle
 have hnod:(es.map (·.born)).Nodup:=hP.imp (fun h=>Nat.ne_of_lt h)
 have hkeys:=hE.keys
 have hlen:es.length=(m0.map (·.1)).length:=by rw [hE.length];simp
 let ks:=m0.map (·.1)
 let kf:Nat→Int:=fun i=>(ks[i]?).getD default
 let bf:Nat→Nat:=fun i=>(es[i]?.map (·.born)).getD 0
 have hkey:∀ (i:Nat) (en:MapEntry),es[i]? = some en→en.key=(Value.int .i64) (kf i):=by
  intro i en hi
  have h2:(es.map (·.key))[i]? = some en.key:=by simp [hi]
  rw [hkeys] at h2
  simp only [List.getElem?_map] at h2
  simp only [kf,ks,List.getElem?_map]
  cases hq:m0[i]? with
  | none=>rw [hq] at h2;simp at h2
  | some p=>rw [hq] at h2;simp at h2;simp [← h2]
 refine lT (args:=[.func yf ya yb]) (cap:=[.pointer (some q)]) call262 ?_
 refine iV Jc rfl ntmps262 rfl fun X hXM hX=>?_
 refine aR (ay (dF ty240 (aq.mono hle) rfl (aF (Hq Jb hb rfl (fun it=>aD ?_)))))
 refine jx (ι:=List Nat×LH×HF) (fun i=>[]) (fun i=>i.2.2) (fun i=>[(it,Obj.mapIter (some bk) clock (List.toArray (i.1.map bf)) clock)]++i.2.1) (fun i=>(i.1.Nodup∧(∀ j∈i.1,j < es.length)∧(∀ j,j < es.length→j∈i.1))∧C (i.1.map kf) i.2.2 i.2.1) ?_ (fun hx=>?_)
 ·rintro ⟨js,A1,h2⟩ ⟨⟨hn,hl,ha⟩,hC1⟩ e
  exact tL Jc (fun a _ w _=>kO rfl a w) (fun w hw=>hw.sub (List.sublist_append_right _ _)) (.inl ⟨rfl,.inl ⟨_,(vY ks js hn (fun i hi=>by rw [← hlen];exact hl i hi) (fun i hi=>ha i (by rw [hlen];exact hi))).trans (hpm.map _),hC1⟩⟩)
 refine ku (ι:=List Nat×LH×HF) (fun i=>[(0,.func yf ya yb),(5,.pointer (some ⟨it,0,none⟩))]) (fun i=>i.2.2) (fun i=>[(it,Obj.mapIter (some bk) clock (List.toArray (i.1.map bf)) clock)]++i.2.1) (fun i=>i.1.Nodup∧(∀ j∈i.1,j < es.length)∧C (i.1.map kf) i.2.2 i.2.1∧HF.le h1 i.2.2) (fun i=>es.length - i.1.length) ([],A,h1) ⟨rfl,rfl,trivial⟩ (fun w hw=>hw) ⟨List.nodup_nil,fun _ hj=>(List.not_mem_nil hj).elim,hC,HF.le_refl _⟩ ?_
 rintro ⟨js,A1,h2⟩ ⟨hn,hl,hC1,hle2⟩ ag e
 dsimp only at hn hl hC1 hle2
 have hlp:=yW hnod js hl
 show TT _ _ _ _ _ (upds e [(0,.func yf ya yb),(5,.pointer (some ⟨it,0,none⟩))]) _ _ h2 ([(it,Obj.mapIter (some bk) clock (List.toArray (js.map bf)) clock)]++A1)
 refine aR (ay (aF (JO 0 rfl (hle2 _ _ hb) (fun x hx=>hcl x (by simpa using hx)) (Nat.le_refl _) rfl (fun h0=>?_) (fun en hen=>?_))))
 ·refine fM rfl rfl (aD (aR (kL rfl (kv rfl ?_))))
  exact hx (js,A1,h2) _ ⟨⟨hn,hl,hlp.1 h0⟩,hC1⟩ trivial
 ·obtain ⟨i,hi,hni⟩:=hlp.2 en hen
  have hil:i < es.length:=by
   rcases Nat.lt_or_ge i es.length with h3 | h3
   ·exact h3
   ·simp [List.getElem?_eq_none h3] at hi
  have hmem:en∈es.toArray.toList:=by simpa using List.mem_of_getElem? hi
  have hn':(js++[i]).Nodup:=by
   rw [List.nodup_append];exact ⟨hn,by simp,fun a ha b hb' e'=>by simp at hb';subst hb';subst e';exact hni ha⟩
  have hl':∀ j∈js++[i],j < es.length:=fun j hj=>by
   rcases List.mem_append.1 hj with h3 | h3
   ·exact hl j h3
   ·simp at h3;subst h3;exact hil
  obtain ⟨rest,hrest⟩:=yU ks (js++[i]) hn' (fun j hj=>by rw [← hlen];exact hl' j hj)
  have uv:js.length+1≤es.length:=by
   have h9:=hrest.length_eq
   rw [List.length_append,List.length_map,List.length_append] at h9
   have h10:ks.length=es.length:=hlen.symm
   simp only [List.length_cons,List.length_nil] at h9
   omega
  have hrest':(js.map kf++kf i::rest).Perm (m.map (·.1)):=by
   rw [List.map_append,List.append_assoc] at hrest
   exact List.Perm.trans hrest (hpm.map _)
  obtain ⟨ekey,evl,eborn⟩:=en
  have hk':ekey=(Value.int .i64) (kf i):=hkey i _ hi
  subst hk'
  refine fM rfl rfl (aD ?_)
  refine aR (iq rfl (aJ (ie ?_)))
  refine aR (ay ?_)
  refine aF (fg (Hw 0 rfl (hle2 _ _ hb) hmem (by simpa using hnod) rfl) ?_)
  refine fM rfl rfl (cK (aD ?_))
  refine aR (ay (aj (aj ?_)))
  refine aF (jW [(it,Obj.mapIter (some bk) clock ((List.toArray (js.map bf)).push eborn) clock)] A1 rfl (hy (js.map kf) (kf i) [(Value.int .i64) (kf i)] h2 A1 ⟨rest,hrest'⟩ hle2 hC1 rfl) rfl rfl (fun h3 B hle3 hC3=>?_) (fun h3 B hle3 hS3=>?_) (fun ch h3 B hle3 hP3 e'=>?_))
  ·refine kz rfl (aD (kL rfl (aJ (da ?_))))
   have hpush:((List.toArray (js.map bf)).push eborn)=List.toArray ((js++[i]).map bf):=by simp [bf,hi]
   rw [hpush]
   refine ag (js++[i],B,h3) _ (by show es.length - (js++[i]).length < es.length - js.length;rw [List.length_append];simp only [List.length_cons,List.length_nil];omega) ⟨hn',hl',by simpa using hC3,HF.le_trans hle2 hle3⟩ ⟨rfl,rfl,trivial⟩
  ·refine kz rfl (aD (iq rfl ?_))
   exact nY Jc (fun a _ w _=>kO rfl a w) (fun w hw=>hw.sub (List.sublist_append_right _ _)) (.inl ⟨rfl,.inr hS3⟩)
  ·exact Ju Jc (fun w hw=>hw.sub (List.sublist_append_right _ _)) (.inr ⟨ch,rfl,hP3⟩)
theorem sD (h:HF) (m:List (OSeat×Appoint)) (bk:Nat) (q:Addr) (hm:qt OSeat.enc (iH Appoint.rp) h bk m) (aq:At h q [.map (some bk)]):
  Cl prog (.func (.func 275) #[] #[.pointer (some q)]) (fun k _ vs=>vs=[OSeat.enc k]) (fun xs=>xs.Perm (m.map (·.1))) h:=by
 refine ⟨275,[.pointer (some q)],rfl,call275,?_⟩
 intro yf ya yb C Sp Pn h1 A hle m1 m2 m3 hC hy
 obtain ⟨o,hb,m0,hpm,hnd0,es,clock,rfl,hE,hP,hcl⟩:=hm.mono (iH.mono Appoint.ao) hle
 have hnod:(es.map (·.born)).Nodup:=hP.imp (fun h=>Nat.ne_of_lt h)
 have hkeys:=hE.keys
 have hlen:es.length=(m0.map (·.1)).length:=by rw [hE.length];simp
 let ks:=m0.map (·.1)
 let kf:Nat→OSeat:=fun i=>(ks[i]?).getD default
 let bf:Nat→Nat:=fun i=>(es[i]?.map (·.born)).getD 0
 have hkey:∀ (i:Nat) (en:MapEntry),es[i]? = some en→en.key=OSeat.enc (kf i):=by
  intro i en hi
  have h2:(es.map (·.key))[i]? = some en.key:=by simp [hi]
  rw [hkeys] at h2
  simp only [List.getElem?_map] at h2
  simp only [kf,ks,List.getElem?_map]
  cases hq:m0[i]? with
  | none=>rw [hq] at h2;simp at h2
  | some p=>rw [hq] at h2;simp at h2;simp [← h2]
 refine lT (args:=[.func yf ya yb]) (cap:=[.pointer (some q)]) call275 ?_
 refine iV Ja rfl ntmps275 rfl fun X hXM hX=>?_
 refine aR (ay (dF ty162 (aq.mono hle) rfl (aF (Hq Ha hb rfl (fun it=>aD ?_)))))
 refine jx (ι:=List Nat×LH×HF) (fun i=>[]) (fun i=>i.2.2) (fun i=>[(it,Obj.mapIter (some bk) clock (List.toArray (i.1.map bf)) clock)]++i.2.1) (fun i=>(i.1.Nodup∧(∀ j∈i.1,j < es.length)∧(∀ j,j < es.length→j∈i.1))∧C (i.1.map kf) i.2.2 i.2.1) ?_ (fun hx=>?_)
 ·rintro ⟨js,A1,h2⟩ ⟨⟨hn,hl,ha⟩,hC1⟩ e
  exact tL Ja (fun a _ w _=>kO rfl a w) (fun w hw=>hw.sub (List.sublist_append_right _ _)) (.inl ⟨rfl,.inl ⟨_,(vY ks js hn (fun i hi=>by rw [← hlen];exact hl i hi) (fun i hi=>ha i (by rw [hlen];exact hi))).trans (hpm.map _),hC1⟩⟩)
 refine ku (ι:=List Nat×LH×HF) (fun i=>[(0,.func yf ya yb),(5,.pointer (some ⟨it,0,none⟩))]) (fun i=>i.2.2) (fun i=>[(it,Obj.mapIter (some bk) clock (List.toArray (i.1.map bf)) clock)]++i.2.1) (fun i=>i.1.Nodup∧(∀ j∈i.1,j < es.length)∧C (i.1.map kf) i.2.2 i.2.1∧HF.le h1 i.2.2) (fun i=>es.length - i.1.length) ([],A,h1) ⟨rfl,rfl,trivial⟩ (fun w hw=>hw) ⟨List.nodup_nil,fun _ hj=>(List.not_mem_nil hj).elim,hC,HF.le_refl _⟩ ?_
 rintro ⟨js,A1,h2⟩ ⟨hn,hl,hC1,hle2⟩ ag e
 dsimp only at hn hl hC1 hle2
 have hlp:=yW hnod js hl
 show TT _ _ _ _ _ (upds e [(0,.func yf ya yb),(5,.pointer (some ⟨it,0,none⟩))]) _ _ h2 ([(it,Obj.mapIter (some bk) clock (List.toArray (js.map bf)) clock)]++A1)
 refine aR (ay (aF (JO 0 rfl (hle2 _ _ hb) (fun x hx=>hcl x (by simpa using hx)) (Nat.le_refl _) rfl (fun h0=>?_) (fun en hen=>?_))))
 ·refine fM rfl rfl (aD (aR (kL rfl (kv rfl ?_))))
  exact hx (js,A1,h2) _ ⟨⟨hn,hl,hlp.1 h0⟩,hC1⟩ trivial
 ·obtain ⟨i,hi,hni⟩:=hlp.2 en hen
  have hil:i < es.length:=by
   rcases Nat.lt_or_ge i es.length with h3 | h3
   ·exact h3
   ·simp [List.getElem?_eq_none h3] at hi
  have hmem:en∈es.toArray.toList:=by simpa using List.mem_of_getElem? hi
  have hn':(js++[i]).Nodup:=by
   rw [List.nodup_append];exact ⟨hn,by simp,fun a ha b hb' e'=>by simp at hb';subst hb';subst e';exact hni ha⟩
  have hl':∀ j∈js++[i],j < es.length:=fun j hj=>by
   rcases List.mem_append.1 hj with h3 | h3
   ·exact hl j h3
   ·simp at h3;subst h3;exact hil
  obtain ⟨rest,hrest⟩:=yU ks (js++[i]) hn' (fun j hj=>by rw [← hlen];exact hl' j hj)
  have uv:js.length+1≤es.length:=by
   have h9:=hrest.length_eq
   rw [List.length_append,List.length_map,List.length_append] at h9
   have h10:ks.length=es.length:=hlen.symm
   simp only [List.length_cons,List.length_nil] at h9
   omega
  have hrest':(js.map kf++kf i::rest).Perm (m.map (·.1)):=by
   rw [List.map_append,List.append_assoc] at hrest
   exact List.Perm.trans hrest (hpm.map _)
  obtain ⟨ekey,evl,eborn⟩:=en
  have hk':ekey=OSeat.enc (kf i):=hkey i _ hi
  subst hk'
  refine fM rfl rfl (aD ?_)
  refine aR (iq rfl (aJ (ie ?_)))
  refine aR (ay ?_)
  refine aF (fg (Hw 0 rfl (hle2 _ _ hb) hmem (by simpa using hnod) rfl) ?_)
  refine fM rfl rfl (aV zc182 (fun b3=>aS 0 ty182 rfl rfl rfl rfl rfl rfl (aD ?_)))
  refine aR (ay (aj (cW 0 ty182 rfl rfl rfl ?_)))
  refine aF (jW [(b3,Obj.cells (OSeat.cells (kf i)).toArray 182 (0,0)),(it,Obj.mapIter (some bk) clock ((List.toArray (js.map bf)).push eborn) clock)] A1 rfl (hy (js.map kf) (kf i) [OSeat.enc (kf i)] h2 A1 ⟨rest,hrest'⟩ hle2 hC1 rfl) rfl rfl (fun h3 B hle3 hC3=>?_) (fun h3 B hle3 hS3=>?_) (fun ch h3 B hle3 hP3 e'=>?_))
  ·refine kz rfl (aD (kL rfl (aJ (da ?_))))
   have hpush:((List.toArray (js.map bf)).push eborn)=List.toArray ((js++[i]).map bf):=by simp [bf,hi]
   rw [hpush]
   refine bB (L':=[(it,Obj.mapIter (some bk) clock (List.toArray ((js++[i]).map bf)) clock)]++B) (.cons _ (List.Sublist.refl _)) ?_
   refine ag (js++[i],B,h3) _ (by show es.length - (js++[i]).length < es.length - js.length;rw [List.length_append];simp only [List.length_cons,List.length_nil];omega) ⟨hn',hl',by simpa using hC3,HF.le_trans hle2 hle3⟩ ⟨rfl,rfl,trivial⟩
  ·refine kz rfl (aD (iq rfl ?_))
   exact nY Ja (fun a _ w _=>kO rfl a w) (fun w hw=>hw.sub (List.sublist_append_right _ _)) (.inl ⟨rfl,.inr hS3⟩)
  ·exact Ju Ja (fun w hw=>hw.sub (List.sublist_append_right _ _)) (.inr ⟨ch,rfl,hP3⟩)
end Go.Sg
namespace Go.Sg
open Go.Proofs Go.Proofs.Tryz
abbrev Gb {α : Type} (P:Program) (f:FuncId) (args:List Value) (h:HF) (R:Rp α) (E:TypeId) (S:List α→Prop):Prop:=
 mP P f args.toArray h [] (fun r h' G=>∃ xs bb c,S xs∧r=.returned (.slice bb xs.length c)∧em R E h' xs bb c G)
section steps
variable {P:Program} {b:Frame} {n:Nat} {ops:Array Oper} {F:List Frame→(Machine→Prop)→Prop} {e:Env} {ds:List Deferred} {X:Cx} {h:HF} {L:LH} {K:Env→HF→LH→Prop}
variable {d:Option Nat} {ty:TypeId} {pos:String} {af:Array Edge} {g:Option (Nat×Bool)}
theorem wV {α : Type} {R:Rp α} {E:TypeId} {S:List α→Prop} {f:FuncId} {ass:Array Operand} {ats:Array TypeId} {vs:List Value}
  (hc:∀ args w,(callFunc f args).run P w=.ok (.enter f args) w) (hs:Gb P f vs h R E S) (hvs:ass.toList.map e.ev=vs)
  (t':∀ h' xs bb c G,h.le h'→S xs→em R E h' xs bb c G→K (pute e d (.slice bb xs.length c)) h' (L++G))
  (hg:guardB ops e ⟨d,.call ⟨.value (.func f),ass,ats⟩,ty,pos,af,g⟩=true:=by rfl):
  Stp P b n ops F ds X ⟨d,.call ⟨.value (.func f),ass,ats⟩,ty,pos,af,g⟩ e h L K:=by
 unfold Stp
 rw [if_pos hg]
 intro w hw
 have harr:ass.map e.ev=vs.toArray:=Array.ext' (by simp [← hvs])
 have hr:(execOp e.ev ⟨d,.call ⟨.value (.func f),ass,ats⟩,ty,pos,af,g⟩).run P w=.ok (.enter f vs.toArray) w:=by
  simp [execOp,resolve,Env.ev,Deferred.ofValue,invoke,harr,hc]
 rw [hr]
 refine kD (by simp) (jD (o9.mono (hs w (hw.sub (List.nil_sublist _)).pre) ?_))
 rintro x w' ⟨h',B,hst,xs,bb,c,hS,rfl,hG⟩
 exact ⟨h',_,(St.after (A:=[]) (F:=L) hw hst).perm List.perm_append_comm,t' h' xs bb c B hst.le hS hG⟩
end steps
theorem zP (h:HF) (it:Value) (S:List Int→Prop) (hit:Cl prog it (fun (k:Int) (_:HF) (vs:List Value)=>vs=[Value.int .i64 k]) S h) (hS:∀ xs,S xs→xs.length≤1000000000000):Gb prog 315 [.slice none 0 0,it] h Rp.int 3 S:=by
 refine cz func315 rfl ntmps315 rfl fun X hM hX=>?_
 refine aR (ay (cA (fun b1=>cK (aD (aR (aR (ay (aj (aD (ie (?_)))))))))))
 refine C5 (it:=it) (S:=S) (ps:=[7])
  (fun done h' L'=>∃ gb gc G,L'=[(b1,Obj.cells (List.toArray [.slice gb done.length gc]) 31 (0,0))]++G∧em Rp.int 3 h' done gb gc G)
  (fun _ _ _=>False) (fun _ _ _=>False) rfl hit rfl (fun x h' vs hv=>by rw [hv];rfl) ?_ (fun _ _ _ _ _ hf=>hf) (fun _ _ _ _ _ hf=>hf) ⟨none,0,[],rfl,em.nil⟩ ?_ ?_ (fun _ _ _ _ _ hf=>hf.elim) (fun _ _ _ _ _ hf=>hf.elim)
 ·rintro done h1 h2 B hl ⟨gb,gc,G,rfl,hG⟩;exact ⟨gb,gc,G,rfl,hG.mono Rp.aY hl⟩
 ·rintro l1 r1 lp1 done y vs hr L' X' ⟨rest,hrest⟩ hle ⟨gb,gc,G,rfl,hG⟩ hv hlp hX' hXM
  obtain rfl:=hv
  have hlen:=hS _ hrest
  simp only [List.length_append,List.length_cons] at hlen
  refine ay (cK (aD ?_))
  refine jh 0 rfl hlp (ie (ay ?_))
  refine kl 2 ty31 rfl rfl rfl (aj ?_)
  refine aF (bV (cells:=[.int .i64 y]) fa ty3 zc3 rfl rfl (by kernel_rfl) (fun b3=>?_))
  refine aF (eR Rp.kR ([(b3,Obj.cells (List.toArray [.int .i64 y]) 3 (0,0)),(l1,.loop { lp1 with state:=.busy }),(r1,.deferred (some [])),(b1,Obj.cells (List.toArray [.slice gb done.length gc]) 31 (0,0))]) [] (fun G=>[(b3,Obj.cells (List.toArray [.int .i64 y]) 3 (0,0)),(l1,.loop { lp1 with state:=.busy }),(r1,.deferred (some [])),(b1,Obj.cells (List.toArray [.slice gb done.length gc]) 31 (0,0))]++G) (G:=G) (show _=[(b3,Obj.cells (List.toArray [.int .i64 y]) 3 (0,0)),(l1,.loop { lp1 with state:=.busy }),(r1,.deferred (some [])),(b1,Obj.cells (List.toArray [.slice gb done.length gc]) 31 (0,0))]++(G++[]) from by rw [List.append_nil];rfl) (fun _=>by first | rfl | simp only [List.nil_append]) fa ty3 zc3 rfl bytes3 hG rfl rfl (fI (ys:=[y]) 0 rfl (show bu Rp.int hr [.int .i64 y] [y] from ⟨[.int .i64 y],[],rfl,rfl,rfl,rfl⟩)) (by simp only [List.length_append,List.length_cons,List.length_nil];omega) (by simp only [List.length_append,List.length_cons,List.length_nil];omega) (fun ob2 oc2 G2 gr2=>?_))
  refine cJ 3 ty31 rfl rfl rfl rfl rfl rfl (aD (da ?_))
  refine bB (L':=(l1,.loop { lp1 with state:=.busy })::(r1,.deferred (some []))::([(b1,Obj.cells (List.toArray [.slice ob2 (done++[y]).length oc2]) 31 (0,0))]++G2)) (.cons _ (List.Sublist.refl _)) ?_
  exact DU rfl ⟨ob2,oc2,G2,rfl,gr2⟩
 ·rintro r1 xs h2 L' hxs hle ⟨gb,gc,G,rfl,hG⟩
  refine da (aR (ay (kl 1 ty31 rfl rfl rfl (cK (aD ?_)))))
  refine mp (L':=([(b1,Obj.cells (List.toArray [.slice gb xs.length gc]) 31 (0,0))]++G)++markB [r1]) (List.perm_append_singleton _ _).symm ?_
  exact sj [r1] func315 (fun a ha w hw=>res1 rfl a ha w) (fun w hw=>hw.sub (L':=G) (List.sublist_append_right _ _)) ⟨xs,gb,gc,hxs,rfl,hG⟩
theorem CW (h:HF) (it:Value) (S:List Int→Prop) (hit:Cl prog it (fun (k:Int) (_:HF) (vs:List Value)=>vs=[Value.int .i64 k]) S h) (hS:∀ xs,S xs→xs.length≤1000000000000):Gb prog 261 [it] h Rp.int 3 S:=by
 refine cz func261 rfl ntmps261 rfl fun X hM hX=>?_
 refine aR (ay (cK (aD (aR (ay (aj ?_))))))
 refine aF (wV call315 (zP h it S hit hS) rfl (fun h' xs bb c G hle hxs hG=>?_))
 refine cK (aD ?_)
 exact nY func261 (fun a ha w hw=>res1 rfl a ha w) (fun w hw=>hw.sub (L':=G) (List.sublist_append_right _ _)) ⟨xs,bb,c,hxs,rfl,hG⟩
theorem yF (h:HF) (it:Value) (S:List OSeat→Prop) (hit:Cl prog it (fun (k:OSeat) (_:HF) (vs:List Value)=>vs=[OSeat.enc k]) S h) (hS:∀ xs,S xs→xs.length≤1000000000000):Gb prog 321 [.slice none 0 0,it] h OSeat.rp 182 S:=by
 refine cz func321 rfl ntmps321 rfl fun X hM hX=>?_
 refine aR (ay (cA (fun b1=>cK (aD (aR (aR (ay (aj (aD (ie (?_)))))))))))
 refine C5 (it:=it) (S:=S) (ps:=[7])
  (fun done h' L'=>∃ gb gc G,L'=[(b1,Obj.cells (List.toArray [.slice gb done.length gc]) 249 (0,0))]++G∧em OSeat.rp 182 h' done gb gc G)
  (fun _ _ _=>False) (fun _ _ _=>False) rfl hit rfl (fun x h' vs hv=>by rw [hv];rfl) ?_ (fun _ _ _ _ _ hf=>hf) (fun _ _ _ _ _ hf=>hf) ⟨none,0,[],rfl,em.nil⟩ ?_ ?_ (fun _ _ _ _ _ hf=>hf.elim) (fun _ _ _ _ _ hf=>hf.elim)
 ·rintro done h1 h2 B hl ⟨gb,gc,G,rfl,hG⟩;exact ⟨gb,gc,G,rfl,hG.mono OSeat.ao hl⟩
 ·rintro l1 r1 lp1 done y vs hr L' X' ⟨rest,hrest⟩ hle ⟨gb,gc,G,rfl,hG⟩ hv hlp hX' hXM
  obtain rfl:=hv
  have hlen:=hS _ hrest
  simp only [List.length_append,List.length_cons] at hlen
  refine ay (aV zc182 (fun b2=>aS 0 ty182 rfl rfl rfl rfl rfl rfl (aD ?_)))
  refine jh 1 rfl hlp (ie (ay ?_))
  refine kl 3 ty249 rfl rfl rfl (cW 0 ty182 rfl rfl rfl ?_)
  refine aF (bV (cells:=[.int .i64 y.office,.int .i64 y.person]) LT ty182 zc182 rfl rfl (by kernel_rfl) (fun b3=>?_))
  refine aF (eR OSeat.eF ([(b3,Obj.cells (List.toArray [.int .i64 y.office,.int .i64 y.person]) 182 (0,0)),(b2,Obj.cells (OSeat.cells y).toArray 182 (0,0)),(l1,.loop { lp1 with state:=.busy }),(r1,.deferred (some [])),(b1,Obj.cells (List.toArray [.slice gb done.length gc]) 249 (0,0))]) [] (fun G=>[(b3,Obj.cells (List.toArray [.int .i64 y.office,.int .i64 y.person]) 182 (0,0)),(b2,Obj.cells (OSeat.cells y).toArray 182 (0,0)),(l1,.loop { lp1 with state:=.busy }),(r1,.deferred (some [])),(b1,Obj.cells (List.toArray [.slice gb done.length gc]) 249 (0,0))]++G) (G:=G) (show _=[(b3,Obj.cells (List.toArray [.int .i64 y.office,.int .i64 y.person]) 182 (0,0)),(b2,Obj.cells (OSeat.cells y).toArray 182 (0,0)),(l1,.loop { lp1 with state:=.busy }),(r1,.deferred (some [])),(b1,Obj.cells (List.toArray [.slice gb done.length gc]) 249 (0,0))]++(G++[]) from by rw [List.append_nil];rfl) (fun _=>by first | rfl | simp only [List.nil_append]) LT ty182 zc182 rfl bytes182 hG rfl rfl (fI (ys:=[y]) 0 rfl (show bu OSeat.rp hr [.int .i64 y.office,.int .i64 y.person] [y] from ⟨[.int .i64 y.office,.int .i64 y.person],[],rfl,rfl,rfl,rfl⟩)) (by simp only [List.length_append,List.length_cons,List.length_nil];omega) (by simp only [List.length_append,List.length_cons,List.length_nil];omega) (fun ob2 oc2 G2 gr2=>?_))
  refine cJ 4 ty249 rfl rfl rfl rfl rfl rfl (aD (da ?_))
  refine bB (L':=(l1,.loop { lp1 with state:=.busy })::(r1,.deferred (some []))::([(b1,Obj.cells (List.toArray [.slice ob2 (done++[y]).length oc2]) 249 (0,0))]++G2)) (.cons _ (.cons _ (List.Sublist.refl _))) ?_
  exact DU rfl ⟨ob2,oc2,G2,rfl,gr2⟩
 ·rintro r1 xs h2 L' hxs hle ⟨gb,gc,G,rfl,hG⟩
  refine da (aR (ay (kl 1 ty249 rfl rfl rfl (cK (aD ?_)))))
  refine mp (L':=([(b1,Obj.cells (List.toArray [.slice gb xs.length gc]) 249 (0,0))]++G)++markB [r1]) (List.perm_append_singleton _ _).symm ?_
  exact sj [r1] func321 (fun a ha w hw=>res1 rfl a ha w) (fun w hw=>hw.sub (L':=G) (List.sublist_append_right _ _)) ⟨xs,gb,gc,hxs,rfl,hG⟩
theorem Cn (h:HF) (it:Value) (S:List OSeat→Prop) (hit:Cl prog it (fun (k:OSeat) (_:HF) (vs:List Value)=>vs=[OSeat.enc k]) S h) (hS:∀ xs,S xs→xs.length≤1000000000000):Gb prog 273 [it] h OSeat.rp 182 S:=by
 refine cz func273 rfl ntmps273 rfl fun X hM hX=>?_
 refine aR (ay (cK (aD (aR (ay (aj ?_))))))
 refine aF (wV call321 (yF h it S hit hS) rfl (fun h' xs bb c G hle hxs hG=>?_))
 refine cK (aD ?_)
 exact nY func273 (fun a ha w hw=>res1 rfl a ha w) (fun w hw=>hw.sub (L':=G) (List.sublist_append_right _ _)) ⟨xs,bb,c,hxs,rfl,hG⟩
end Go.Sg
namespace Go.Sg
open Go.Proofs Go.Proofs.Tryz
theorem vg (h:HF) (it:Value) (ks:List Int) (hit:Cl prog it (fun (k:Int) (_:HF) (vs:List Value)=>vs=[Value.int .i64 k]) (fun xs=>xs.Perm ks) h) (hk:ks.length≤1000000000000):
  jN prog 168 [it] h (fun v h'=>∃ (b:Option Addr) (c:Nat),v=.slice b (sortI ks).length c∧SlC Rp.int h' b c (sortI ks)):=by
 refine cz func168 rfl ntmps168 rfl fun X hM hX=>?_
 refine aR (ay (cK (aD (aR (ay (aj ?_))))))
 refine aF (wV call261 (CW h it _ hit (fun xs hx=>by rw [hx.length_eq];exact hk)) rfl (fun h' xs bb c G hle hxs hG=>?_))
 refine cK (aD (aR (ay (aj ?_))))
 refine aF (lV [] G [] I9 (lh h' xs bb c G hG (by rw [hxs.length_eq];exact hk)) (by simp) rfl (fun G' hG'=>?_))
 refine aD (aR (ay (aj (cK (aD ?_)))))
 refine gL Rp.aY [] G' [] (by simp) hM hG' (fun h2 hle2 sl=>?_)
 refine jd [.slice bb xs.length c] func168 rfl ⟨rfl,trivial⟩ ⟨bb,c,?_,?_⟩
 ·rw [← EM hxs,ir];rfl
 ·rw [← EM hxs];exact sl
theorem un (h:HF) (m:List (Int×Version)) (Gz:Nat) (hm:qt (Value.int .i64) (iH Version.rp) h Gz m):jN prog 169 [.map (some Gz)] h (fun v h'=>Cl prog v (fun (k:Int) (_:HF) (vs:List Value)=>vs=[(Value.int .i64) k]) (fun xs=>xs.Perm (m.map (·.1))) h'):=by
 refine cz func169 rfl ntmps169 rfl fun X hM hX=>?_
 refine aR (ay (cA (fun b1=>cK (aD (aR (ay ?_))))))
 refine aT 0 rfl hM (fun h2 hle2 hb2=>?_)
 refine aF (et rfl rfl ?_)
 refine cK (aD ?_)
 refine jd [.func (.func 262) #[] #[.pointer (some ⟨b1,0,none⟩)]] func169 rfl ⟨rfl,trivial⟩ ?_
 exact sC h2 m Gz ⟨b1,0,none⟩ (hm.mono (iH.mono Version.ao) hle2) (ct hb2)
theorem uo (h:HF) (m:List (OSeat×Appoint)) (Gz:Nat) (hm:qt OSeat.enc (iH Appoint.rp) h Gz m):jN prog 180 [.map (some Gz)] h (fun v h'=>Cl prog v (fun (k:OSeat) (_:HF) (vs:List Value)=>vs=[OSeat.enc k]) (fun xs=>xs.Perm (m.map (·.1))) h'):=by
 refine cz func180 rfl ntmps180 rfl fun X hM hX=>?_
 refine aR (ay (cA (fun b1=>cK (aD (aR (ay ?_))))))
 refine aT 0 rfl hM (fun h2 hle2 hb2=>?_)
 refine aF (et rfl rfl ?_)
 refine cK (aD ?_)
 refine jd [.func (.func 275) #[] #[.pointer (some ⟨b1,0,none⟩)]] func180 rfl ⟨rfl,trivial⟩ ?_
 exact sD h2 m Gz ⟨b1,0,none⟩ (hm.mono (iH.mono Appoint.ao) hle2) (ct hb2)
end Go.Sg
