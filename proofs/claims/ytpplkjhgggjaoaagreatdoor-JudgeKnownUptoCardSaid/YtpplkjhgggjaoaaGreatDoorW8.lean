import Derived.Test.YtpplkjhgggjaoaaGreatDoorW7
/- A part of the proof of JudgeKnown. -/
set_option linter.unusedVariables false
set_option linter.unusedSimpArgs false
set_option maxRecDepth 100000
open List renaming length_cons→xA,length_append→jA,mem_cons_of_mem→vA,not_mem_nil→kA,mem_cons_self→zB,toArray→jB,length_nil→vB,mem_cons→qC,mem_singleton→jD,append_assoc→kD,mem_of_getElem?→vE,getElem?_eq_getElem→vF,nil_append→zG,range→qH,mem_append→kH,perm_append_comm→vJ,map_cons→xK,mem_append_right→zM,getElem?_eq_none→xM,mem_map_of_mem→kM,nodup_cons→kR,getElem?_map→kT,mem_append_left→aAl,map_append→aAF,nodup_nil→aAO,nodup_append→aA0
open Go.Sg.Rp renaming int→kB,aP→jH
open Go.Sg.Approval renaming cells→xC,ai→zH,rp→xL
open Go.Sg.Appoint renaming mk→jC,rp→kG,cells→qM,ai→kP
open Go.Value renaming int→kC
open Go.Sg.Interest renaming cells→zD,rp→kL,mk→zV,ai→aAj
open Bool renaming or_eq_true→xD
open Go.Sg.Policy renaming cells→xE,ok→vP
open Go.Sg.OSeat renaming cells→jE,enc→aAs,mk→aBj,rp→aCb
open Go.Sg.SlC renaming nil→qF
open Go.Sg.HF renaming le_trans→zF,le→vM,le_refl→vQ
open Nat renaming le_refl→kF,zero_le→zN,lt_or_ge→xQ,le_trans→kS
open Go.Obj renaming cells→zJ
open Go.Sg.Deputy renaming cells→kK,ai→qS,rp→aAh,mk→aBe
open Go.Sg.Version renaming ai→jM,rp→jN

namespace Go.Sg
open Go.Proofs Go.Proofs.Tryz
set_option maxHeartbeats 2000000
theorem w8(h:HF)(l:List Approval)(eu:Option Addr)(et:Nat)(doc:Int)(begun:Int)(think:Int)(cX:Int)(known:Int)(hl:SlC xL h eu et l)(hsz:l.length<=2000000):jv prog 28 [.slice eu l.length et,I doc,I begun,I think,I cX,I known] h (λv h'=>∃(rb0:Option Addr)(rc0:Nat),v=.tuple #[.slice rb0 ((cA l doc begun think cX known).1).length rc0,I ((cA l doc begun think cX known).2)]/\SlC xL h' rb0 rc0 ((cA l doc begun think cX known).1)):=by
 refine sT func28 U ntmps28 U λX hM hX hF=>?_
 have hs0:cA l doc begun think cX known=cA l doc begun think cX known:=rfl
 have hst:=we l doc cX known
 refine sr (cz (λb1=>cz (λb2=>cz (λb3=>qO 7 U (aj call71 (tl _ _ _ _ hl) U (qO 7 U (ae hs0 U (λc1 hs1=>?_) (λc1 hs2=>?_))))))))
 .refine qT 6 U ?_
  have hs3:cA l doc begun think cX known=([],(bK l)):=hs1
  exact nretH [.slice none 0 0,I (bK l)] ⟨none,0,congrArg (λr:(List Approval×Int)=>(.tuple #[.slice none r.1.length 0,I r.2]:Value)) hs3.symm,(by rw[hs3];exact qF)⟩
 refine qT 5 U (aB (bB (cells:=[I doc]) ej ty3 zc3 U U kr (λb4=>aU 0 U hM (λh1 hle1 hb1=>?_))))
 have sl1:SlC kB h1 (some ⟨b4,0,none⟩) 1 ([doc]):=bI.slB0 (T:=3) (fz:=(0,0)) ((show bI kB h [I doc] ([doc])from⟨[I doc],[],rfl,rfl,rfl,rfl⟩).mono jH hle1) hb1
 refine aj HE (jm _ 4095 _ _ _ sl1) U (qO 2 U (ce 8 [23,24,25,26,27,28,29,30,31] 23 31 (!(dv 1099511627775 ([begun,think,cX,known]))) U (λc2 hk1=>?_) (λe=>?_)))
 .refine qL 4 [2,1,0] U (aB (bB (cells:=[I begun,I think,I cX,I known]) ej ty3 zc3 U U kr (λb5=>aU 0 U hM (λh2 hle2 hb2=>?_))))
  have sl2:SlC kB h2 (some ⟨b5,0,none⟩) 4 ([begun,think,cX,known]):=bI.slB0 (T:=3) (fz:=(0,0)) ((show bI kB h1 [I begun,I think,I cX,I known] ([begun,think,cX,known])from⟨[I begun],[I think,I cX,I known],rfl,rfl,rfl,⟨[I think],[I cX,I known],rfl,rfl,rfl,⟨[I cX],[I known],rfl,rfl,rfl,⟨[I known],[],rfl,rfl,rfl,rfl⟩⟩⟩⟩).mono jH hle2) hb2
  exact aj HE (jm _ 1099511627775 _ _ _ sl2) U (qO 2 U (kZ (h:=h1) hle2 hX hle1 (hk1 _ U)))
 refine aJ (ae hs2 U (λc3 hs4=>?_) (λc3 hs5=>?_))
 .refine qT 5 U ?_
  have hs6:cA l doc begun think cX known=([],1):=hs4
  exact nretH [.slice none 0 0,I 1] ⟨none,0,congrArg (λr:(List Approval×Int)=>(.tuple #[.slice none r.1.length 0,I r.2]:Value)) hs6.symm,(by rw[hs6];exact qF)⟩
 refine qK 7 [0] U (aB (Qj call105 (w7 _ _ _ _ doc cX known (hl.mono zH hle1) ob) U (λob1 oc1 G1 gr1=>aU 2 U hM (λh3 hle3 hb3=>aU 0 U hM (λh4 hle4 hb4=>aU 0 U hM (λh5 hle5 hb5=>aB (eL U U (aB (nw (v:=.slice ob1 (fQ (aG l doc cX known) (λdl=>iJ dl begun cX think)).length oc1) ([]) G1 ([]) call104 (qy h5 (aG l doc cX known) ob1 oc1 G1 (λdl=>iJ dl begun cX think) (.func (.func 106) #[] #[Q b1,Q b3,Q b2]) (gr1.mono zH ((hle3.t hle4).t hle5)) (λh' dl hle=>gM call106 (u9 h' dl begun ⟨b1,0,none⟩ cX ⟨b3,0,none⟩ think ⟨b2,0,none⟩  (((cL hb3).mono (hle4.t hle5)).mono hle) (((cL hb4).mono hle5).mono hle) ((cL hb5).mono hle))) ob) ap U (λG2 gr2=>gJ (L':=G2) ap (oF zH ([]) G2 ([]) ap hM gr2 (λh6 hle6 sl3=>qO 3 U ?_))))))))))))
 have hs7:cA l doc begun think cX known=((fQ (aG l doc cX known) (λdl=>iJ dl begun cX think)),0):=hs5
 exact nretH [.slice ob1 ((fQ (aG l doc cX known) (λdl=>iJ dl begun cX think)).length) oc1,I 0] ⟨ob1,oc1,congrArg (λr:(List Approval×Int)=>(.tuple #[.slice ob1 r.1.length oc1,I r.2]:Value)) hs7.symm,(by rw[hs7];exact sl3)⟩
theorem wO(h:HF)(x:Appoint)(v0:Int)(v0_q:Addr)(v1:Int)(v1_q:Addr)(av0:At h v0_q [I v0])(av1:At h v1_q [I v1]):Ret prog 181 [.agg (qM x).toArray,.pointer (some v0_q),.pointer (some v1_q)] h (.tuple #[.agg (jE ((gi x v0 v1).1)).toArray,.bool ((gi x v0 v1).2)]):=by
 refine cZ func181 U ntmps181 U λX hM hX=>?_
 have hs0:gi x v0 v1=gi x v0 v1:=rfl
 refine sr (cz (λb1=>aT zc182 (λb2=>qO 3 U ?_)))
 let z1:Nat×Obj:=(b1,O (qM x) 89)
 refine P9 ([(b2,O [I x.Office,I x.Person] 182),z1]) [(4,Q b2),(5,.bool (decide (x.At<=v0)&&decide (x.Known<=v1)))] (λe=>?_) (λhk1=>?_)
 rotate_left
 .refine eT ([z1]) mixed kr jn (λeo _=>?_)
  refine qB [0] U (tf 1 U U (rj 0 ty3 U U U) (qB [2] U (tf 3 U U (rj 0 ty3 U U U) (qB [5] U (tf 6 U U (rj 0 ty3 U U U) (tf 7 U U (rh ty3 av0 U) (qA [8,9] U ?_)))))))
  refine dx 15 U (λc1=>?_) (λc1=>?_)
  .have c1p:=of_decide_eq_true c1
   exact tf 10 U U (λ_ _ _=>tQ QE U) (tf 11 U U (rj 0 ty3 U U U) (tf 12 U U (rh ty3 av1 U) (qA [13,14] U (tn 4 U (fV (cells:=[I x.Office,I x.Person]) (places:=[(0,1),(1,1)]) Jz zc182 kr kr (⟨jn,(tn 15 U (sI 0 ty182 U U U U U U (⟨jn,(qA [16] U (aQ kr (hk1 _ ⟨U,(cb (show decide (x.Known<=v1)=(decide (x.At<=v0)&&decide (x.Known<=v1))from by rw[c1]<;>rfl)),trivial⟩)))⟩)))⟩))))))
  have c1p:=of_decide_eq_false c1
  exact tk 10 U U (qR 11 4 U (tn 4 U (fV (cells:=[I x.Office,I x.Person]) (places:=[(0,1),(1,1)]) Jz zc182 kr kr (⟨jn,(tn 15 U (sI 0 ty182 U U U U U U (⟨jn,(qA [16] U (aQ kr (hk1 _ ⟨U,(cb (show false=(decide (x.At<=v0)&&decide (x.Known<=v1))from by rw[c1]<;>rfl)),trivial⟩)))⟩)))⟩))))
 have hs1:gi x v0 v1=((aBj x.Office x.Person),(decide (x.At<=v0)&&decide (x.Known<=v1))):=hs0
 exact tC [.agg (jB [I x.Office,I x.Person]),.bool (decide (x.At<=v0)&&decide (x.Known<=v1))] func181 U hX ⟨⟨0,_,_,_,_,U,U,.inl ⟨ty182,U⟩⟩,U,trivial⟩ (congrArg (λr:(OSeat×Bool)=>(.tuple #[.agg (jE r.1).toArray,.bool r.2]:Value)) hs1.symm)
theorem uL(h:HF)(l:List Appoint)(eu:Option Addr)(et:Nat)(key:(Appoint->OSeat×Bool))(key_v:Value)(later:(Appoint->Appoint->Bool))(later_v:Value)(hl:SlC kG h eu et l)(hkey:∀(h':HF)(dl:Appoint),vM h h'->pQ prog key_v [.agg (qM dl).toArray] h' [] (.tuple #[.agg (jE ((key dl).1)).toArray,.bool ((key dl).2)]))(hlater:∀(h':HF)(dl:Appoint)(ED:Appoint),vM h h'->pQ prog later_v [.agg (qM dl).toArray,.agg (qM ED).toArray] h' [] (.bool (later dl ED))):jv prog 182 [.slice eu l.length et,key_v,later_v] h (λv h'=>∃(rk0:Nat),v=.map (some rk0)/\tA aAs (jf kG) h' rk0 (cJ l key later)):=by
 refine sT func182 U ntmps182 U λX hM hX hF=>?_
 have hs0:cJ l key later=cJ l key later:=rfl
 refine qT 6 U (aB (oB (λb1=>qL 9 [] U ?_)))
 refine lp2 l (λi w=>[(1,key_v),(2,later_v),(7,.map (some b1)),(15,.slice eu l.length et),(16,I (l.length:Int)),(17,I (i:Int))]) (λ_=>h) (λw=>[(b1,w.2)]) (λi w=>j8 aAs (jf kG) h w.2 w.1/\w.1.length<=0+i) (λs1 i w=>(cJ.L1 key later (cJ.K1)) s1 w.1) ([],.map #[] 0) hl.1.1 hs0 ⟨(j8.nil (enc:=aAs) (V:=(jf kG)) (h:=h)),lc⟩ ?_ ?_
 .rintro i1 ⟨bD,iu⟩ ft hs1 ⟨fR,nM⟩ e
  refine qT 5 U (eW 0 U hM (λh1 hle1 hb1=>?_))
  have mc1:tA aAs (jf kG) h1 b1 bD:=⟨_,hb1,fR.mono (jf.mono kP) hle1⟩
  have hs2:cJ l key later=bD:=hs1
  exact nretH [.map (some b1)] ⟨b1,congrArg (λr:(List (OSeat×Appoint))=>(.map (some b1):Value)) hs2.symm,(by rw[hs2];exact mc1)⟩
 rintro i1 ⟨bD,iu⟩ y1 rz1 hd1 df aS dZ gy hs3 ⟨fR,nM⟩ hx1 ag1 e
 refine sr (tO df U (qO 8 U (aB (iF qM Ac ty89 hl.1 aS U U U (λq2 A2=>dq ty89 A2 U U (aT zc89 (λb5=>aL 0 ty89 U U U U U U (qO 4 U (cI 0 ty89 U U U (aB (ke (v:=.tuple #[.agg (jE ((key y1).1)).toArray,.bool ((key y1).2)]) [] (List.nil_sublist _) (hkey h y1 lf) U U (qO 3 U (aT zc182 (λb6=>aL 0 ty182 U U U U U U (qO 5 U (cI 0 ty182 U U U (aB (lN 2 (k:=(key y1).1) Mp vt U fR (fw zv89) (show(jf kG) _ (.agg (jB [I 0,I 0,I 0,I 0,I 0,I 0,.bool false])) (jC 0 0 0 0 0 0 false)from⟨_,U,U⟩) U U (λv2 hv2=>?_)))))))))))))))))))
 obtain⟨_,rfl,rfl⟩:=hv2
 refine qO 3 U (aT zc89 (λb7=>aL 0 ty89 U U U U U U (qO 6 U (bA 10 [34,35,36,37,38,39,40,41,42,43,44] 34 44 ((!(mhas bD ((key y1).1)))||(!(later (mgetD bD ((key y1).1) (jC 0 0 0 0 0 0 false)) y1))) U (λc1 hk1=>?_) (λe=>?_)))))
 .refine qO 3 U (ce 6 [37,38,39,40,41,42,43] 37 43 (!(later (mgetD bD ((key y1).1) (jC 0 0 0 0 0 0 false)) y1)) U (λc2 hk2=>?_) (λe=>?_))
  .exact av (cI 0 ty89 U U U (cI 2 ty89 U U U (aB (ke (v:=.bool (later (mgetD bD ((key y1).1) (jC 0 0 0 0 0 0 false)) y1)) [] (List.nil_sublist _) (hlater h (mgetD bD ((key y1).1) (jC 0 0 0 0 0 0 false)) y1 lf) U U (qO 2 U (hk2 _ U))))))
  exact eU U (hk1 _ U)
 refine aJ (ae hs3 U (λc3 hs4=>?_) (λc3 hs5=>?_))
 .exact bE (av (cI 1 ty182 U U U (cI 2 ty89 U U U (aB (lg 3 (k:=(key y1).1) (x:=y1) Mp vt U fR U U ⟨_,U,U⟩ (λmo1 hm1=>qO 3 U (oi i1 U (qO 2 U (aX (L':=[(b1,mo1)]) js (ag1 ((mput bD ((key y1).1) y1),mo1) hs4 ⟨hm1,(by have:=m9 bD ((key y1).1) y1;first|omega|(simp only[vB,xA]at *;omega))⟩))))))))))
 exact aI (qT 2 U (oi i1 U (qO 2 U (aX (L':=[(b1,iu)]) js (ag1 (bD,iu) hs5 ⟨fR,lc⟩)))))
theorem wN(h:HF)(a:Appoint)(jh:Appoint)  : Ret prog 183 [.agg (qM a).toArray,.agg (qM jh).toArray] h (.bool (jI a jh)):=by
 refine sT func183 U ntmps183 U λX hM hX hF=>?_
 have hs0:jI a jh=jI a jh:=rfl
 exact sr (cz (λb1=>cz (λb2=>qL 11 [1,0] U (nretP [.bool (decide (jh.At<a.At))] (cs hs0)))))
theorem rJ(h:HF)(l:List Appoint)(eu:Option Addr)(et:Nat)(iw:Int)(known:Int)(hl:SlC kG h eu et l):jv prog 93 [.slice eu l.length et,I iw,I known] h (λv h'=>∃(rk0:Nat),v=.map (some rk0)/\tA aAs (jf kG) h' rk0 (cW l iw known)):=by
 refine sT func93 U ntmps93 U λX hM hX hF=>?_
 have hs0:cW l iw known=cW l iw known:=rfl
 refine sr (cz (λb1=>cz (λb2=>qO 4 U (aU 1 U hM (λh1 hle1 hb1=>aU 0 U hM (λh2 hle2 hb2=>aB (eL U U (qO 6 U (aB (cT call182 (uL _ _ _ _ (λdl=>gi dl iw known) (.func (.func 181) #[] #[Q b1,Q b2]) jI (.func (.func 183) #[] #[]) (hl.mono kP (hle1.t hle2)) (λh' dl hle=>gM call181 (wO h' dl iw ⟨b1,0,none⟩ known ⟨b2,0,none⟩  (((cL hb1).mono hle2).mono hle) ((cL hb2).mono hle))) (λh' dl ED hle=>gM call183 (wN h' dl ED))) U (λv1 h3 hle3 hp1=>?_)))))))))))
 obtain⟨rk1,rfl,mo1⟩:=hp1
 refine an ?_
 have hs1:cW l iw known=(cJ l (λdl=>gi dl iw known) jI):=hs0
 exact nretH [.map (some rk1)] ⟨rk1,congrArg (λr:(List (OSeat×Appoint))=>(.map (some rk1):Value)) hs1.symm,(by rw[hs1];exact mo1)⟩
theorem CX(h:HF)(l:List Appoint)(eu:Option Addr)(et:Nat)(office:Int)(person:Int)(dt:Int)(known:Int)(hl:SlC kG h eu et l):Ret prog 29 [.slice eu l.length et,I office,I person,I dt,I known] h (.tuple #[I ((gf l office person dt known).1),I ((gf l office person dt known).2.1),.bool ((gf l office person dt known).2.2.1),I ((gf l office person dt known).2.2.2)]):=by
 refine sT func29 U ntmps29 U λX hM hX hF=>?_
 have hs0:gf l office person dt known=gf l office person dt known:=rfl
 refine qT 11 U (aj call65 (qh _ _ _ _ hl) U (qO 7 U (ae hs0 U (λc1 hs1=>?_) (λc1 hs2=>?_))))
 .refine qT 8 U ?_
  have hs3:gf l office person dt known=(0,0,false,(cw l)):=hs1
  exact nretP [I 0,I 0,.bool false,I (cw l)] (congrArg (λr:(Int×Int×Bool×Int)=>(.tuple #[I r.1,I r.2.1,.bool r.2.2.1,I r.2.2.2]:Value)) hs3.symm)
 refine qT 5 U (aj OE (mv h office) U (qO 2 U (ce 4 [24,25,26,27,28] 24 28 (!(fY person)) U (λc2 hk1=>?_) (λe=>?_))))
 .exact av (aj call107 (ol h person) U (qO 2 U (hk1 _ U)))
 refine av (ce 4 [29,30,31,32,33] 29 33 (!(dz dt)) U (λc3 hk2=>?_) (λe=>?_))
 .exact av (aj EJ (jq h dt) U (qO 2 U (hk2 _ U)))
 refine av (ce 4 [34,35,36,37,38] 34 38 (!(dz known)) U (λc4 hk3=>?_) (λe=>?_))
 .exact av (aj EJ (jq h known) U (qO 2 U (hk3 _ U)))
 refine aJ (ae hs2 U (λc5 hs4=>?_) (λc5 hs5=>?_))
 .refine qT 7 U ?_
  have hs6:gf l office person dt known=(0,0,false,1):=hs4
  exact nretP [I 0,I 0,.bool false,I 1] (congrArg (λr:(Int×Int×Bool×Int)=>(.tuple #[I r.1,I r.2.1,.bool r.2.2.1,I r.2.2.2]:Value)) hs6.symm)
 refine qT 6 U (aB (cT call93 (rJ _ _ _ _ dt known hl) U (λv1 h1 hle1 hp1=>?_)))
 obtain⟨rk1,rfl,mo1⟩:=hp1
 refine qO 2 U (aB (fV (cells:=[I office,I person]) (places:=[(0,1),(1,1)]) Jz zc182 kr kr ?_))
 obtain⟨o1,hb1,hm1⟩:=mo1
 refine aB (tE (k:=(aBj office person)) Mp vt hb1 hm1 (fw zv89) (show(jf kG) _ (.agg (jB [I 0,I 0,I 0,I 0,I 0,I 0,.bool false])) (jC 0 0 0 0 0 0 false)from⟨_,U,U⟩) U U (λv2 hv1=>?_))
 obtain⟨_,rfl,rfl⟩:=hv1
 refine qO 3 U (aT zc89 (λb1=>aL 0 ty89 U U U U U U (qO 8 U (ce 3 [52,53,54,55] 52 55 ((mgetD (cW l dt known) (aBj office person) (jC 0 0 0 0 0 0 false)).Gone) U (λc6 hk4=>?_) (λe=>?_)))))
 .exact qL 3 [0] U (hk4 _ U)
 refine aJ (ae hs5 U (λc7 hs7=>?_) (λc7 hs8=>?_))
 .refine qT 7 U ?_
  have hs9:gf l office person dt known=(0,0,false,0):=hs7
  exact nretP [I 0,I 0,.bool false,I 0] (congrArg (λr:(Int×Int×Bool×Int)=>(.tuple #[I r.1,I r.2.1,.bool r.2.2.1,I r.2.2.2]:Value)) hs9.symm)
 refine qT 2 U (eT ([(b1,O (qM (mgetD (cW l dt known) (aBj office person) (jC 0 0 0 0 0 0 false))) 89)]) mixed kr jn (λeo _=>qB [0] U (tf 1 U U (rj 0 ty3 U U U) (qB [2] U (tf 3 U U (rj 0 ty3 U U U) (qR 4 4 U (aQ kr ?_)))))))
 have hs10:gf l office person dt known=((mgetD (cW l dt known) (aBj office person) (jC 0 0 0 0 0 0 false)).No,(mgetD (cW l dt known) (aBj office person) (jC 0 0 0 0 0 0 false)).Weight,true,0):=hs8
 exact nretP [I ((mgetD (cW l dt known) (aBj office person) (jC 0 0 0 0 0 0 false)).No),I ((mgetD (cW l dt known) (aBj office person) (jC 0 0 0 0 0 0 false)).Weight),.bool true,I 0] (congrArg (λr:(Int×Int×Bool×Int)=>(.tuple #[I r.1,I r.2.1,.bool r.2.2.1,I r.2.2.2]:Value)) hs10.symm)
theorem El(h:HF)(l:List Deputy)(eu:Option Addr)(et:Nat)(dT:Int)(to:Int)(q:cD)(hl:SlC aAh h eu et l):Ret prog 108 [.slice eu l.length et,I dT,I to,.agg (cD.cells q).toArray] h (I (jy l dT to q)):=by
 refine sT func108 U ntmps108 U λX hM hX hF=>?_
 have hs0:jy l dT to q=jy l dT to q:=rfl
 refine sr (cz (λb1=>qO 6 U (aj call66 (ua _ _ _ _ hl) U (qO 7 U (ae hs0 U (λc1 hs1=>?_) (λc1 hs2=>?_))))))
 .exact sr (qO 3 U (nretP [I (cS l)] (ci hs1)))
 refine qT 5 U (aj OC (mi h dT) U (qO 2 U (ce 4 [18,19,20,21,22] 18 22 (!(ga to)) U (λc2 hk1=>?_) (λe=>?_))))
 .exact av (aj OC (mi h to) U (qO 2 U (hk1 _ U)))
 refine av (ce 5 [23,24,25,26,27,28] 23 28 (!(dg q.office 0 31)) U (λc3 hk2=>?_) (λe=>?_))
 .exact qL 2 [0] U (aj Do (iO h q.office 0 31) U (qO 2 U (hk2 _ U)))
 refine av (ce 5 [29,30,31,32,33,34] 29 34 (!(dg q.kind 0 15)) U (λc4 hk3=>?_) (λe=>?_))
 .exact qL 2 [0] U (aj Do (iO h q.kind 0 15) U (qO 2 U (hk3 _ U)))
 refine av (ce 5 [35,36,37,38,39,40] 35 40 (!(dg q.value 0 1099511627776)) U (λc5 hk4=>?_) (λe=>?_))
 .exact qL 2 [0] U (aj Do (iO h q.value 0 1099511627776) U (qO 2 U (hk4 _ U)))
 refine av (ce 5 [41,42,43,44,45,46] 41 46 (!(gE q.at_)) U (λc6 hk5=>?_) (λe=>?_))
 .exact qL 2 [0] U (aj OD (m6 h q.at_) U (qO 2 U (hk5 _ U)))
 refine av (ce 5 [47,48,49,50,51,52] 47 52 (!(gE q.known)) U (λc7 hk6=>?_) (λe=>?_))
 .exact qL 2 [0] U (aj OD (m6 h q.known) U (qO 2 U (hk6 _ U)))
 refine aJ (ae hs2 U (λc8 hs4=>?_) (λc8 hs5=>?_))
 .exact sr (an (nretP [I 1] (ci hs4)))
 exact aI (qT 4 U (nretP [I 0] (ci hs5)))
theorem sH(h:HF)(seq:List Deputy)(seq_v:Value)(hseq:Itr prog seq_v sU seq h)(hsz:seq.length<=2000000):jv prog 203 [.slice none 0 0,seq_v] h (λv h'=>∃(rb0:Option Addr)(rc0:Nat),v=.slice rb0 (cV seq).length rc0/\SlC aAh h' rb0 rc0 (cV seq)):=by
 refine cZ func203 U ntmps203 U λX hM hX=>?_
 have hs0:cV seq=cV seq:=rfl
 refine sr (cz (λb1=>qO 8 U (ew (cv (L':=([(b1,O [.slice none 0 0] 23)])++markB []) ap ?_))))
 refine kp (it:=seq_v) (xs:=seq) (ι:=(List Deputy)×Option Addr×Nat×LH×HF) [] (λi=>i.2.2.2.2) (λi=>[(b1,O [.slice i.2.1 i.1.length i.2.2.1] 23)]++(i.2.2.2.1)) (λs i=>cV seq=((cV.L1 (cV.K1)) s i.1)/\dC aAh 93 i.2.2.2.2 i.1 i.2.1 i.2.2.1 i.2.2.2.1/\vM h i.2.2.2.2/\i.1.length+s.length<=seq.length) (λ_=>False) (λ_=>False) 0 (λ_ _ _=>False) ([],none,0,[],h) func203 U hseq U FP (λ_ _ _ _ _ hq=>hq) U (show[(b1,O [.slice none 0 0] 23)]=_ from U) ⟨hs0,dC.nil,lf,(by simp)⟩ ?_ ?_ ?_ ?_ ?_
 .rintro l1 dm1 lp1 y1 rz1 vs1 ⟨bD,mG,mF,nN,hh1⟩ hr1 X hFR1 ⟨hs1,fR,hl1,u1_0⟩ hl01 hlr1 hv1 hX hXM hlp1 nx1 rt1 ex1 pn1
  obtain rfl:=hv1
  simp only[xA]at u1_0
  let z1:Nat×Obj:=(b1,O [.slice mG bD.length mF] 23)
  let z4:Nat×Obj:=(dm1,.deferred (some []))
  refine cv (L':=[(l1,.loop lp1),z4,z1]++(nN++(markB []))) ap (bE (aT zc93 (λb4=>aL 0 ty93 U U U U U U (gJ (L':=[(b4,O (kK y1) 93),(l1,.loop lp1),z4,z1]++(nN++(markB []))) U (aJ (kc 1 U hlp1 (qK 3 [3] U (cI 0 ty93 U U U (aB (bB (cells:=[I y1.No,I y1.At,I y1.Known,I y1.Until,I y1.From,I y1.To,I y1.Office,I y1.Kind,I y1.Most,.bool y1.Gone]) tB ty93 zc93 U U kr (λb5=>?_)))))))))))
  let z3:Nat×Obj:=(b5,O [I y1.No,I y1.At,I y1.Known,I y1.Until,I y1.From,I y1.To,I y1.Office,I y1.Kind,I y1.Most,.bool y1.Gone] 93)
  let z5:Nat×Obj:=(l1,.loop { lp1 with state:=.busy })
  let z6:Nat×Obj:=(b4,O (kK y1) 93)
  refine aB (dy Deputy.em ([z3,z6,z5,z4,z1]) (markB []) (λG=>[z3,z6,z5,z4,z1]++(markB []++G)) ap (λ_=>ap) tB ty93 zc93 U bytes93 (fR.mono qS hlr1) U U (eF 0 U (cE y1 U U)) lo lo (λob2 oc2 G2 gr2=>yR (sj ([z3,z6,z5,z4,z1]) G2 (markB [])) (cM 4 ty23 U U U U U U (qO 2 U ?_))))
  let z7:Nat×Obj:=(b1,O [.slice ob2 ((bD++[y1]).length) oc2] 23)
  exact aX (L':=[z5,z4,z7]++(G2++(markB []))) js (cv (L':=rdH l1 dm1 lp1 (([z7]++G2)++markB [])) ap (nx1 ((bD++[y1]),ob2,oc2,G2,hr1) _ _ ⟨hs1,gr2,(hl1.t hlr1),(by simp only[jA,xA,vB]at *;omega)⟩ lf))
 .rintro dm1 ⟨bD,mG,mF,nN,hh1⟩ hn1 ⟨hs2,fR,hl1,u1_0⟩ hln1 hl01
  let z2:Nat×Obj:=(b1,O [.slice mG bD.length mF] 23)
  refine cv (L':=[z2]++(nN++(markB (dm1::[])))) ap (qK 6 [0] U (eK qS ([z2]) nN (markB (dm1::[])) ap hM (fR.mono qS hln1) (λh2 hle2 sl2=>?_)))
  have hs3:cV seq=bD:=hs2
  exact cv (L':=([z2])++markB (dm1::[])) ap (qw (dm1::[]) [.slice mG bD.length mF] func203 U rd ⟨mG,mF,congrArg (λr:List Deputy=>(.slice mG r.length mF:Value)) hs3.symm,(by rw[hs3];exact sl2)⟩)
 .exact xf
 .exact xf
 exact xf
theorem un(h:HF)(seq:List Deputy)(seq_v:Value)(hseq:Itr prog seq_v sU seq h)(hsz:seq.length<=2000000):jv prog 109 [seq_v] h (λv h'=>∃(rb0:Option Addr)(rc0:Nat),v=.slice rb0 (dj seq).length rc0/\SlC aAh h' rb0 rc0 (dj seq)):=by
 refine sT func109 U ntmps109 U λX hM hX hF=>?_
 have hs0:dj seq=dj seq:=rfl
 refine qT 7 U (aB (cT call203 (sH h seq seq_v hseq ob) U (λv1 h1 hle1 hp1=>?_)))
 obtain⟨rb1,rc1,rfl,sl1⟩:=hp1
 refine an ?_
 have hs1:dj seq=(cV seq):=hs0
 exact nretH [.slice rb1 ((cV seq).length) rc1] ⟨rb1,rc1,congrArg (λr:List Deputy=>(.slice rb1 r.length rc1:Value)) hs1.symm,(by rw[hs1];exact sl1)⟩
theorem uo(s:List Deputy):dj s=s:=by
 have:∀(s acc:List Deputy),cV.L1 cV.K1 s acc=acc++s:=by
  intro s
  induction s with
  |nil=>intro acc;exact(List.append_nil _).symm
  |cons y s ih=>intro acc;simp only[cV.L1,ih,kD,List.cons_append,zG]
 exact(this s []).trans (zG _)
theorem nt(h:HF)(q:cD)(x:Deputy)  : Ret prog 204 [.agg (cD.cells q).toArray,.agg (kK x).toArray] h (.bool (eh q x)):=by
 refine sT func204 U ntmps204 U λX hM hX hF=>?_
 have hs0:eh q x=eh q x:=rfl
 refine sr (cz (λb1=>cz (λb2=>qL 10 [0,1] U (bA 6 [10,11,12,13,14,15,16] 10 16 (decide (x.Known<=q.known)) U (λc1 hk1=>?_) (λe=>?_)))))
 .exact qL 6 [0,1] U (hk1 _ U)
 exact an (nretP [.bool (decide (x.At<=q.at_)&&decide (x.Known<=q.known))] (cs hs0))
theorem rZ(h:HF)(q:cD)(x:Deputy)  : Ret prog 206 [.agg (cD.cells q).toArray,.agg (kK x).toArray] h (.bool (gz q x)):=by
 refine sT func206 U ntmps206 U λX hM hX hF=>?_
 have hs0:gz q x=gz q x:=rfl
 refine sr (cz (λb1=>cz (λb2=>qL 8 [0] U (bA 6 [8,9,10,11,12,13,14] 8 14 (decide (q.at_<x.Until)) U (λc1 hk1=>?_) (λe=>?_)))))
 .exact qL 6 [1,0] U (hk1 _ U)
 refine av (bA 6 [15,16,17,18,19,20,21] 15 21 (x.Office==q.office) U (λc2 hk2=>?_) (λe=>?_))
 .exact qL 6 [0,1] U (hk2 _ U)
 refine av (bA 11 [22,23,24,25,26,27,28,29,30,31,32,33] 22 33 ((x.Kind==(-1))||(x.Kind==q.kind)) U (λc3 hk3=>?_) (λe=>?_))
 .refine qL 4 [0] U (ce 6 [26,27,28,29,30,31,32] 26 32 (x.Kind==q.kind) U (λc4 hk4=>?_) (λe=>?_))
  .exact qL 6 [0,1] U (hk4 _ U)
  exact eU U (hk3 _ U)
 refine av (bA 6 [34,35,36,37,38,39,40] 34 40 (decide (q.value<=x.Most)) U (λc5 hk5=>?_) (λe=>?_))
 .exact qL 6 [1,0] U (hk5 _ U)
 exact an (nretP [.bool (((((!x.Gone)&&decide (q.at_<x.Until))&&(x.Office==q.office))&&((x.Kind==(-1))||(x.Kind==q.kind)))&&decide (q.value<=x.Most))] (cs hs0))
theorem pP(h:HF)(v0:List Deputy)(uj:Option Addr)(ui:Nat)(v0_q:Addr)(v1:List (dS×Deputy))(N7:Nat)(v1_q:Addr)(v2:(Deputy->Bool))(v2_v:Value)(v2_q:Addr)(v3:cD)(v3_q:Addr)(hv0:SlC aAh h uj ui v0)(av0:At h v0_q [.slice uj v0.length ui])(hv1:tA dS.enc (jf aAh) h N7 v1)(av1:At h v1_q [.map (some N7)])(hv2:∀(h':HF)(dl:Deputy),vM h h'->pQ prog v2_v [.agg (kK dl).toArray] h' [] (.bool (v2 dl)))(av2:At h v2_q [v2_v])(av3:At h v3_q (cD.cells v3)):Itr prog (.func (.func 205) #[] (jB [.pointer (some v0_q),.pointer (some v1_q),.pointer (some v2_q),.pointer (some v3_q)])) sU (aC v0 v1 v2 v3) h:=by
 refine sV call205 ?_
 intro yf ya yb C Sp Pn h1 A hle m1 m2 m3 hC hy
 refine jW EI U ntmps205 U λX hXM hX=>?_
 have hs0:aC v0 v1 v2 v3=[]++aC v0 v1 v2 v3:=rfl
 refine sr (dB ty23 (av0.mono hle) U (qL 3 [] U ?_))
 refine lp2 v0 (λi w=>[(0,.func yf ya yb),(2,.pointer (some v1_q)),(3,.pointer (some v2_q)),(4,.pointer (some v3_q)),(8,.slice uj v0.length ui),(9,I (v0.length:Int)),(10,I (i:Int))]) (λw=>w.2.2) (λw=>w.2.1) (λi w=>C w.1 w.2.2 w.2.1/\vM h1 w.2.2) (λs1 i w=>w.1++(aC.L1 v1 v2 v3 (aC.K1)) s1) ([],A,h1) ((hv0.mono qS hle).1.1) hs0 ⟨hC,lf⟩ ?_ ?_
 .rintro i1 ⟨dn1,A1_,hh1⟩ ft hs1 ⟨hC1_,hl1⟩ e
  refine ew ?_
  have hs2:aC v0 v1 v2 v3=dn1:=hs1.trans (List.append_nil _)
  exact sW [] (A:=A1_) EI U (List.Sublist.refl _) (.inl (hs2▸hC1_))
 rintro i1 ⟨dn1,A1_,hh1⟩ y1 rz1 hd1 df aS dZ gy hs3 ⟨hC1_,hl1⟩ hx1 ag1 e
 refine sr (tO df U (qO 8 U (aB (iF kK tB ty93 (hv0.mono qS (hle.t hl1)).1 aS U U U (λq2 A2=>dq ty93 A2 U U (aT zc93 (λb2=>aL 0 ty93 U U U U U U (gJ (L':=[(b2,O (kK y1) 93)]++(A1_)) U (qO 2 U ?_)))))))))
 let z1:Nat×Obj:=(b2,O (kK y1) 93)
 refine eT ([z1]) mixed kr jn (λeo _=>?_)
 refine tf 0 U U (rh ty277 (av1.mono (hle.t hl1)) U) (qB [1] U (tf 2 U U (rj 0 ty3 U U U) (qB [3] U (tf 4 U U (rj 0 ty3 U U U) (qB [5] U (tf 6 U U (rj 0 ty3 U U U) (qB [7] U (tf 8 U U (rj 0 ty3 U U U) (tf 11 U U (λ_ _ hj=>kg ty93 U (hj.nth (i:=0) U) U) (tn 9 U (fV (cells:=[I y1.From,I y1.To,I y1.Office,I y1.Kind]) (places:=[(0,1),(1,1),(2,1),(3,1)]) Mv zc279 kr kr (⟨jn,tn 10 U ?_⟩))))))))))))
 obtain⟨o2,hb2,hm2⟩:=(hv1.mono (jf.mono qS) (hle.t hl1))
 refine nS (k:=(dS.mk y1.From y1.To y1.Office y1.Kind)) underlying277 ux hb2 hm2 (fw zv93) (show(jf aAh) _ (.agg (jB [I 0,I 0,I 0,I 0,I 0,I 0,I 0,I 0,I 0,.bool false])) (aBe 0 0 0 0 0 0 0 0 0 false)from⟨_,U,U⟩) U U (λv2 hv2=>?_)
 obtain⟨_,rfl,rfl⟩:=hv2
 refine⟨jn,(tf 12 U U (λ_ _ _=>MI (LY (mgetD v1 (dS.mk y1.From y1.To y1.Office y1.Kind) (aBe 0 0 0 0 0 0 0 0 0 false)) y1) eqg93 U U) (tm 13 U ?_))⟩
 refine dx 27 U (λc1=>?_) (λc1=>?_)
 .refine tf 14 U U (rh ty223 (av2.mono (hle.t hl1)) U) (tf 15 U U (λ_ _ hj=>kg ty93 U (hj.nth (i:=0) U) U) (tn 16 U (ke (v:=.bool (v2 y1)) [] (List.nil_sublist _) (hv2 hh1 y1 (hle.t hl1)) U U (⟨jn,qA [17,18] U ?_⟩))))
  refine dx 32 U (λc2=>?_) (λc2=>?_)
  .refine tf 19 U U (λ_ _ hj=>mg ty184 ((av3.mono (hle.t hl1)).mono hj.1) U U) (tf 20 U U (λ_ _ hj=>kg ty93 U (hj.nth (i:=0) U) U) (tn 21 U (fo call206 (rZ hh1 v3 y1) U (⟨jn,tf 22 U U (λ_ _ _=>nX U (cb (show(gz v3 y1)=(((decide ((mgetD v1 (dS.mk y1.From y1.To y1.Office y1.Kind) (aBe 0 0 0 0 0 0 0 0 0 false))=y1))&&(v2 y1))&&(gz v3 y1))from by first|(rw[c1];rw[c2];rfl)|(rw[c2];rfl)|simp[c1,c2]))) (tm 23 U ?_)⟩))))
   refine dx 37 U (λc3=>?_) (λc3=>?_)
   .have ct1:=c3
    have hs4:=hs3.trans (congrArg (dn1++·) (bt ct1))
    refine tm 24 U (tf 25 U U (λ_ _ hj=>kg ty93 U (hj.nth (i:=0) U) U) ?_)
    have hx1:aC v0 v1 v2 v3=dn1++(y1::(aC.L1 v1 v2 v3 (aC.K1) rz1)):=hs4
    refine tn 26 U (ll ([z1]) A1_ ap (hy dn1 y1 _ _ _ _ hx1 hl1 hC1_ U) U U (λh2 A3 hle1 hC1=>?_) (λh3 A4 hle2 hS1=>?_) (λch1 h4 A5 hle3 hP1 e=>gV (nh [] (A:=A5) EI (List.sublist_append_right _ _) hP1)))
    .have hs5:aC v0 v1 v2 v3=(dn1++[y1])++((aC.L1 v1 v2 v3 (aC.K1) rz1)):=hx1.trans ap
     exact⟨⟨hle1,λ_ hp=>List.Sublist.subset js hp⟩,n9 (K2:=[z1]) hle1 (λ_ hp=>hp) (qA [27,28] U (aQ kr (qT 4 U (oi i1 U (qO 2 U (aX (L':=A3) js (ag1 ((dn1++[y1]),A3,h2) hs5 ⟨hC1,(hl1.t hle1)⟩)))))))⟩
    exact⟨⟨hle2,λ_ hp=>List.Sublist.subset js hp⟩,n9 (K2:=[z1]) hle2 (λ_ hp=>hp) (qA [27,28] U (aQ kr (lM U (ew (m4 [] (A:=A4) EI U js (.inr hS1))))))⟩
   have ct2:=c3
   have hs6:=hs3.trans (congrArg (dn1++·) (bf ct2))
   exact tk 24 U U (qR 25 4 U (aQ kr (qT 4 U (oi i1 U (qO 2 U (aX (L':=A1_) js (ag1 (dn1,A1_,hh1) hs6 ⟨hC1_,hl1⟩)))))))
  refine qR 19 3 U (tf 22 U U (λ_ _ _=>nX U (cb (show false=(((decide ((mgetD v1 (dS.mk y1.From y1.To y1.Office y1.Kind) (aBe 0 0 0 0 0 0 0 0 0 false))=y1))&&(v2 y1))&&(gz v3 y1))from by first|(rw[c1];rw[c2];rfl)|(rw[c2];rfl)|simp[c1,c2]))) (tm 23 U ?_))
  refine dx 37 U (λc4=>?_) (λc4=>?_)
  .have ct3:=c4
   have hs7:=hs3.trans (congrArg (dn1++·) (bt ct3))
   refine tm 24 U (tf 25 U U (λ_ _ hj=>kg ty93 U (hj.nth (i:=0) U) U) ?_)
   have hx2:aC v0 v1 v2 v3=dn1++(y1::(aC.L1 v1 v2 v3 (aC.K1) rz1)):=hs7
   refine tn 26 U (ll ([z1]) A1_ ap (hy dn1 y1 _ _ _ _ hx2 hl1 hC1_ U) U U (λh5 A6 hle4 hC2=>?_) (λh6 A7 hle5 hS2=>?_) (λch2 h7 A8 hle6 hP2 e=>gV (nh [] (A:=A8) EI (List.sublist_append_right _ _) hP2)))
   .have hs8:aC v0 v1 v2 v3=(dn1++[y1])++((aC.L1 v1 v2 v3 (aC.K1) rz1)):=hx2.trans ap
    exact⟨⟨hle4,λ_ hp=>List.Sublist.subset js hp⟩,n9 (K2:=[z1]) hle4 (λ_ hp=>hp) (qA [27,28] U (aQ kr (qT 4 U (oi i1 U (qO 2 U (aX (L':=A6) js (ag1 ((dn1++[y1]),A6,h5) hs8 ⟨hC2,(hl1.t hle4)⟩)))))))⟩
   exact⟨⟨hle5,λ_ hp=>List.Sublist.subset js hp⟩,n9 (K2:=[z1]) hle5 (λ_ hp=>hp) (qA [27,28] U (aQ kr (lM U (ew (m4 [] (A:=A7) EI U js (.inr hS2))))))⟩
  have ct4:=c4
  have hs9:=hs3.trans (congrArg (dn1++·) (bf ct4))
  exact tk 24 U U (qR 25 4 U (aQ kr (qT 4 U (oi i1 U (qO 2 U (aX (L':=A1_) js (ag1 (dn1,A1_,hh1) hs9 ⟨hC1_,hl1⟩)))))))
 refine qR 14 8 U (tf 22 U U (λ_ _ _=>nX U (cb (show false=(((decide ((mgetD v1 (dS.mk y1.From y1.To y1.Office y1.Kind) (aBe 0 0 0 0 0 0 0 0 0 false))=y1))&&(v2 y1))&&(gz v3 y1))from by first|(rw[c1];rfl)|(rw[c1];rfl)|simp[c1]))) (tm 23 U ?_))
 refine dx 37 U (λc5=>?_) (λc5=>?_)
 .have ct5:=c5
  have hs10:=hs3.trans (congrArg (dn1++·) (bt ct5))
  refine tm 24 U (tf 25 U U (λ_ _ hj=>kg ty93 U (hj.nth (i:=0) U) U) ?_)
  have hx3:aC v0 v1 v2 v3=dn1++(y1::(aC.L1 v1 v2 v3 (aC.K1) rz1)):=hs10
  refine tn 26 U (ll ([z1]) A1_ ap (hy dn1 y1 _ _ _ _ hx3 hl1 hC1_ U) U U (λh8 A9 hle7 hC3=>?_) (λh9 A10 hle8 hS3=>?_) (λch3 h10 A11 hle9 hP3 e=>gV (nh [] (A:=A11) EI (List.sublist_append_right _ _) hP3)))
  .have hs11:aC v0 v1 v2 v3=(dn1++[y1])++((aC.L1 v1 v2 v3 (aC.K1) rz1)):=hx3.trans ap
   exact⟨⟨hle7,λ_ hp=>List.Sublist.subset js hp⟩,n9 (K2:=[z1]) hle7 (λ_ hp=>hp) (qA [27,28] U (aQ kr (qT 4 U (oi i1 U (qO 2 U (aX (L':=A9) js (ag1 ((dn1++[y1]),A9,h8) hs11 ⟨hC3,(hl1.t hle7)⟩)))))))⟩
  exact⟨⟨hle8,λ_ hp=>List.Sublist.subset js hp⟩,n9 (K2:=[z1]) hle8 (λ_ hp=>hp) (qA [27,28] U (aQ kr (lM U (ew (m4 [] (A:=A10) EI U js (.inr hS3))))))⟩
 have ct6:=c5
 have hs12:=hs3.trans (congrArg (dn1++·) (bf ct6))
 exact tk 24 U U (qR 25 4 U (aQ kr (qT 4 U (oi i1 U (qO 2 U (aX (L':=A1_) js (ag1 (dn1,A1_,hh1) hs12 ⟨hC1_,hl1⟩)))))))
theorem ry(h:HF)(q:cD)(l:List Deputy)(eu:Option Addr)(et:Nat)(hl:SlC aAh h eu et l):jv prog 110 [.agg (cD.cells q).toArray,.slice eu l.length et] h (λv h'=>∃(rv0:Value),v=rv0/\Itr prog rv0 sU (aD q l) h'):=by
 refine sT func110 U ntmps110 U λX hM hX hF=>?_
 have hs0:aD q l=aD q l:=rfl
 refine sr (cz (λb1=>cz (λb2=>qO 4 U (cI 1 ty184 U U U (aB (eL U U (aT zc223 (λb3=>cM 0 ty223 U U U U U U (qO 3 U (aB (oB (λb4=>aT zc277 (λb5=>cM 0 ty277 U U U U U U (qL 8 [3] U ?_))))))))))))))
 let z1:Nat×Obj:=(b3,O [.func (.func 204) #[.agg (cD.cells q).toArray] #[]] 223)
 let z2:Nat×Obj:=(b2,O [.slice eu l.length et] 23)
 let z3:Nat×Obj:=(b1,O (cD.cells q) 184)
 let z4:Nat×Obj:=(b5,O [.map (some b4)] 277)
 refine lp2 l (λi w=>[(2,Q b1),(3,Q b2),(5,Q b3),(6,Q b5),(15,.slice eu l.length et),(16,I (l.length:Int)),(17,I (i:Int))]) (λ_=>h) (λw=>[z4,(b4,w.2),z1,z2,z3]) (λi w=>j8 dS.enc (jf aAh) h w.2 w.1/\w.1.length<=0+i) (λs1 i w=>(aD.L1 q (aD.K1 q l)) s1 w.1) ([],.map #[] 0) hl.1.1 hs0 ⟨(j8.nil (enc:=dS.enc) (V:=(jf aAh)) (h:=h)),lc⟩ ?_ ?_
 .rintro i1 ⟨eR,F9⟩ ft hs1 ⟨yz,PB⟩ e
  refine sr (aU 3 U hM (λh1 hle1 hb1=>aU 0 U hM (λh2 hle2 hb2=>aU 1 U hM (λh3 hle3 hb3=>aU 1 U hM (λh4 hle4 hb4=>aB (eL U U (an (eW 0 U hM (λh5 hle5 hb5=>?_)))))))))
  have mc1:tA dS.enc (jf aAh) h5 b4 eR:=⟨_,hb5,(yz.mono (jf.mono qS) (((hle1.t hle2).t hle3).t hle4)).mono (jf.mono qS) hle5⟩
  have hs2:aD q l=(aC l eR (eh q) q):=hs1
  exact nretH [.func (.func 205) #[] #[Q b2,Q b5,Q b3,Q b1]] ⟨(.func (.func 205) #[] #[Q b2,Q b5,Q b3,Q b1]),congrArg (λr:List Deputy=>((.func (.func 205) #[] #[Q b2,Q b5,Q b3,Q b1]):Value)) hs2.symm,(by rw[hs2];exact(pP h5 l eu et ⟨b2,0,none⟩ eR b4 ⟨b5,0,none⟩ (eh q) (.func (.func 204) #[.agg (cD.cells q).toArray] #[]) ⟨b3,0,none⟩ q ⟨b1,0,none⟩ (hl.mono qS ((((hle1.t hle2).t hle3).t hle4).t hle5)) ((cL hb1).mono (((hle2.t hle3).t hle4).t hle5)) mc1 ((cL hb2).mono ((hle3.t hle4).t hle5)) (λh' dl hle=>J7 (fl:=[.agg (cD.cells q).toArray]) (cap:=[]) call204 (nt h' q dl)) ((cL hb3).mono (hle4.t hle5)) ((cL hb4).mono hle5)))⟩
 rintro i1 ⟨eR,F9⟩ y1 rz1 hd1 df aS dZ gy hs3 ⟨yz,PB⟩ hx1 ag1 e
 refine sr (tO df U (qO 8 U (aB (iF kK tB ty93 hl.1 aS U U U (λq2 A2=>dq ty93 A2 U U (aT zc93 (λb9=>aL 0 ty93 U U U U U U (qL 11 [0,0,0,0] U (aB (fV (cells:=[I y1.From,I y1.To,I y1.Office,I y1.Kind]) (places:=[(0,1),(1,1),(2,1),(3,1)]) Mv zc279 kr kr (aT zc279 (λb10=>aL 0 ty279 U U U U U U (qL 4 [2] U (cI 0 ty279 U U U (aB (lN 3 (k:=(dS.mk y1.From y1.To y1.Office y1.Kind)) underlying277 ux U yz (fw zv93) (show(jf aAh) _ (.agg (jB [I 0,I 0,I 0,I 0,I 0,I 0,I 0,I 0,I 0,.bool false])) (aBe 0 0 0 0 0 0 0 0 0 false)from⟨_,U,U⟩) U U (λv2 hv2=>?_)))))))))))))))))
 obtain⟨_,rfl,rfl⟩:=hv2
 refine qO 3 U (aT zc93 (λb11=>aL 0 ty93 U U U U U U (qL 5 [5] U (cI 2 ty93 U U U (aB (ke (v:=.bool (eh q y1)) [] (List.nil_sublist _) (J7 (fl:=[.agg (cD.cells q).toArray]) (args:=[.agg (kK y1).toArray]) (cap:=[]) call204 (nt h q y1)) U U (av (bA 10 [39,40,41,42,43,44,45,46,47,48,49] 39 49 ((!(mhas eR (dS.mk y1.From y1.To y1.Office y1.Kind)))||decide ((mgetD eR (dS.mk y1.From y1.To y1.Office y1.Kind) (aBe 0 0 0 0 0 0 0 0 0 false)).At<=y1.At)) U (λc1 hk1=>?_) (λe=>?_)))))))))
 .refine qO 3 U (ce 6 [42,43,44,45,46,47,48] 42 48 (decide ((mgetD eR (dS.mk y1.From y1.To y1.Office y1.Kind) (aBe 0 0 0 0 0 0 0 0 0 false)).At<=y1.At)) U (λc2 hk2=>?_) (λe=>?_))
  .exact qL 6 [2,0] U (hk2 _ U)
  exact eU U (hk1 _ U)
 refine aJ (ae hs3 U (λc3 hs4=>?_) (λc3 hs5=>?_))
 .exact qK 2 [3] U (cI 1 ty279 U U U (cI 2 ty93 U U U (aB (lg 4 (k:=(dS.mk y1.From y1.To y1.Office y1.Kind)) (x:=y1) underlying277 ux U yz U U ⟨_,U,U⟩ (λmo1 hm1=>qO 3 U (oi i1 U (qO 2 U (aX (L':=[z4,(b4,mo1),z1,z2,z3]) js (ag1 ((mput eR (dS.mk y1.From y1.To y1.Office y1.Kind) y1),mo1) hs4 ⟨hm1,(by have:=m9 eR (dS.mk y1.From y1.To y1.Office y1.Kind) y1;first|omega|(simp only[vB,xA]at *;omega))⟩)))))))))
 exact aI (qT 2 U (oi i1 U (qO 2 U (aX (L':=[z4,(b4,F9),z1,z2,z3]) js (ag1 (eR,F9) hs5 ⟨yz,lc⟩)))))
theorem pY(q:cD)(l:List Deputy):(aD q l).length<=l.length:=by
 have h1:∀(v:List (dS×Deputy))(s:List Deputy),(aC.L1 v (eh q) q aC.K1 s).length<=s.length:=by
  intro v s
  induction s with
  |nil=>exact kF _
  |cons y s ih=>simp only[aC.L1,Bool.cond_eq_ite];split<;>simp only[xA]<;>omega
 have h2:∀(s:List Deputy)(g:List (dS×Deputy)),(aD.L1 q (aD.K1 q l) s g).length<=l.length:=by
  intro s
  induction s with
  |nil=>intro g;exact h1 g l
  |cons y s ih=>intro g;simp only[aD.L1,Bool.cond_eq_ite];split<;>exact ih _
 exact h2 _ _
theorem Cv(h:HF)(l:List Deputy)(eu:Option Addr)(et:Nat)(dT:Int)(to:Int)(office:Int)(kind:Int)(value:Int)(li:Int)(known:Int)(hl:SlC aAh h eu et l)(hsz:l.length<=2000000):jv prog 30 [.slice eu l.length et,I dT,I to,I office,I kind,I value,I li,I known] h (λv h'=>∃(rb0:Option Addr)(rc0:Nat),v=.tuple #[.slice rb0 ((aE l dT to office kind value li known).1).length rc0,.bool ((aE l dT to office kind value li known).2.1),I ((aE l dT to office kind value li known).2.2)]/\SlC kB h' rb0 rc0 ((aE l dT to office kind value li known).1)):=by
 refine sT func30 U ntmps30 U λX hM hX hF=>?_
 have hs0:aE l dT to office kind value li known=aE l dT to office kind value li known:=rfl
 have hcv:(dj (aD (cD.mk office kind value li known) l)).length<=2000000:=by rw[uo];exact kS (pY _ _) hsz
 refine qT 13 U (aB (fV (cells:=[I office,I kind,I value,I li,I known]) (places:=[(0,1),(1,1),(2,1),(3,1),(4,1)]) underlying184 zc184 kr kr (aT zc184 (λb1=>aL 0 ty184 U U U U U U (qO 7 U (cI 0 ty184 U U U (aj call108 (El _ _ _ _ dT to (cD.mk office kind value li known) hl) U (qO 7 U (ae hs0 U (λc1 hs1=>?_) (λc1 hs2=>?_))))))))))
 .refine qT 7 U ?_
  have hs3:aE l dT to office kind value li known=([],false,(jy l dT to (cD.mk office kind value li known))):=hs1
  exact nretH [.slice none 0 0,.bool false,I (jy l dT to (cD.mk office kind value li known))] ⟨none,0,congrArg (λr:(List Int×Bool×Int)=>(.tuple #[.slice none r.1.length 0,.bool r.2.1,I r.2.2]:Value)) hs3.symm,(by rw[hs3];exact qF)⟩
 refine qT 3 U (cI 0 ty184 U U U (av (aB (cT call110 (ry _ (cD.mk office kind value li known) _ _ _ hl) U (λv1 h1 hle1 hp1=>?_)))))
 obtain⟨_,rfl,mo1⟩:=hp1
 refine aB (cT call109 (un h1 (aD (cD.mk office kind value li known) l) v1 mo1 (kS (pY _ _) hsz)) U (λv2 h2 hle2 hp2=>?_))
 obtain⟨rb1,rc1,rfl,sl1⟩:=hp2
 refine qO 4 U (aB (oB (λb2=>av (aB (xq 0 (k:=to) (x:=0) Br (fZ oe) U (j8.nil (enc:=(kC .i64)) (V:=wg) (h:=h2)) U U U (λmo2 hm1=>qO 8 U ?_))))))
 let z1:Nat×Obj:=(b1,O [I office,I kind,I value,I li,I known] 184)
 refine iX (ι:=Nat×(List (Int×Int))×Obj) (λi=>[(1,I dT),(16,.slice none 0 0),(20,.slice rb1 ((dj (aD (cD.mk office kind value li known) l)).length) rc1),(21,.map (some b2))]) (λi=>h2) (λi=>[(b2,i.2.2),z1]) (λi=>i.1<=(qH 8).length/\aE l dT to office kind value li known=((aE.K1 l dT office kind value li known) i.2.1)/\j8 (kC .i64) wg h2 i.2.2 i.2.1/\(∀p∈i.2.1,0<=p.2/\p.2<=8)) ?_ (λhx1=>?_)
 .rintro⟨i1,bV,ec⟩ ⟨ft,hs4,gK,u1_0⟩ e
  try dsimp only at ft gK u1_0
  have hf8:=(yZ (P:=λx:Int=>0<=x/\x<=8) dT u1_0 (show(0:Int)<=0/\(0:Int)<=8 from⟨Int.le_refl _,by omega⟩))
  have hrg:=List.length_range (n:=(mgetD bV dT 0).toNat)
  refine qT 4 U (aB (lN 0 (k:=dT) Br (fZ oe) U gK (fw zv3) (show wg _ (I 0) 0 from U) U U (λv5 hv3=>?_)))
  obtain rfl:=hv3
  refine qO 12 U (ae hs4 U (λc3 hs5=>?_) (λc3 hs6=>?_))
  .refine qT 6 U ?_
   have hs7:aE l dT to office kind value li known=([],false,0):=hs5
   exact nretH [.slice none 0 0,.bool false,I 0] ⟨none,0,congrArg (λr:(List Int×Bool×Int)=>(.tuple #[.slice none r.1.length 0,.bool r.2.1,I r.2.2]:Value)) hs7.symm,(by rw[hs7];exact qF)⟩
  refine qT 7 U ?_
  refine iX (ι:=Nat×List Int×Option Addr×Nat×LH×Int) (λi=>[(16,.slice i.2.2.1 i.2.1.length i.2.2.2.1)]) (λi=>h2) (λi=>[(b2,ec),z1]++(i.2.2.2.2.1)) (λi=>i.1<=(qH (((mgetD bV dT 0)).toNat)).length/\aE l dT to office kind value li known=((aE.K4) i.2.1 i.2.2.2.2.2)/\dC kB 3 h2 i.2.1 i.2.2.1 i.2.2.2.1 i.2.2.2.2.1/\i.2.1.length<=i.1) ?_ (λhx4=>?_)
  .rintro⟨i4,yy,De,Dd,I3,DS⟩ ⟨AZ,hs8,Dc,LU⟩ e
   try dsimp only at AZ Dc LU
   refine qT 7 U (eK jH ([(b2,ec),z1]) I3 ([]) ap hM Dc (λh3 hle3 sl2=>?_))
   have hs9:aE l dT to office kind value li known=(yy,true,0):=hs8
   exact nretH [.slice De yy.length Dd,.bool true,I 0] ⟨De,Dd,congrArg (λr:(List Int×Bool×Int)=>(.tuple #[.slice De r.1.length Dd,.bool r.2.1,I r.2.2]:Value)) hs9.symm,(by rw[hs9];exact sl2)⟩
  refine kY (ι:=Nat×List Int×Option Addr×Nat×LH×Int×List Nat) (λi=>[(16,.slice i.2.2.1 i.2.1.length i.2.2.2.1),(20,.slice rb1 ((dj (aD (cD.mk office kind value li known) l)).length) rc1),(21,.map (some b2)),(29,I ((((((mgetD bV dT 0)).toNat)-i.1):Nat):Int)),(31,I i.2.2.2.2.2.1)]) (λi=>h2) (λi=>[(b2,ec),z1]++(i.2.2.2.2.1)) (λi=>(qH (((mgetD bV dT 0)).toNat)).drop i.1=i.2.2.2.2.2.2/\i.1<=(qH (((mgetD bV dT 0)).toNat)).length/\aE l dT to office kind value li known=((aE.L4 l dT office kind value li known bV (aE.K4)) i.2.2.2.2.2.2 i.1 i.2.1 i.2.2.2.2.2.1)/\dC kB 3 h2 i.2.1 i.2.2.1 i.2.2.2.1 i.2.2.2.2.1/\i.2.1.length<=i.1) (λi=>i.2.2.2.2.2.2.length) (0,[],none,0,[],dT,(qH (((mgetD bV dT 0)).toNat))) ⟨U,U,U,(congrArg (kC .i64) (show(mgetD bV dT 0)=((((((mgetD bV dT 0)).toNat)-0):Nat):Int)from(by have hq:=(yZ (P:=λx:Int=>0<=x/\x<=8) dT u1_0 (show(0:Int)<=0/\(0:Int)<=8 from⟨Int.le_refl _,by omega⟩));omega))),U,trivial⟩ sw ⟨U,zN _,hs6,dC.nil,lo⟩ ?_
  rintro⟨i4,yy,De,Dd,I3,DS,s4⟩ ⟨hd4,NO,hs10,Dc,LU⟩ ag1 e
  try dsimp only at hd4 NO Dc LU
  rcases s4 with _|⟨y4,rz4⟩
  .have Rw:decide (0<((((((mgetD bV dT 0)).toNat)-i4):Nat):Int))=false:=decide_eq_false (by have q_:=of_decide_eq_false (ni hd4);rw[List.length_range]at q_;omega)
   exact el (qT 3 U (fO Rw U (qO 3 U (hx4 (i4,yy,De,Dd,I3,DS) _ ⟨NO,hs10,Dc,lo⟩ rd))))
  have Rv:decide (0<((((((mgetD bV dT 0)).toNat)-i4):Nat):Int))=true:=decide_eq_true (by have q_:=iB hd4;rw[List.length_range]at q_;omega)
  have KH:i4<(((mgetD bV dT 0)).toNat):=by simpa using iB hd4
  refine qT 4 U (tO Rv U (qL 11 [] U ?_))
  refine lp3 (dj (aD (cD.mk office kind value li known) l)) (λi w=>[(16,.slice w.2.1 w.1.length w.2.2.1),(20,.slice rb1 ((dj (aD (cD.mk office kind value li known) l)).length) rc1),(21,.map (some b2)),(29,I ((((((mgetD bV dT 0)).toNat)-i4):Nat):Int)),(31,I w.2.2.2.2),(110,.slice rb1 ((dj (aD (cD.mk office kind value li known) l)).length) rc1),(111,I (((dj (aD (cD.mk office kind value li known) l)).length:Nat):Int)),(112,I (i:Int))]) (λ_=>h2) (λw=>[(b2,ec),z1]++(w.2.2.2.1)) (λi w=>dC kB 3 h2 w.1 w.2.1 w.2.2.1 w.2.2.2.1/\w.1.length<=i4) (λi w=>dC kB 3 h2 w.1 w.2.1 w.2.2.1 w.2.2.2.1/\w.1.length<=i4+1) (λ_ _ h=>⟨h.1,Nat.le_succ_of_le h.2⟩) (λs6 i w=>(aE.L6 dT bV i4 (λzg6_16 zg6_31=>(aE.L4 l dT office kind value li known bV (aE.K4) rz4 (i4+1) zg6_16 zg6_31))) s6 w.1 w.2.2.2.2) (yy,De,Dd,I3,DS) sl1.1.1 hs10 ⟨Dc,lo⟩ ?_ ?_
  .rintro i6 ⟨BZ,LT,LS,F2,DR⟩ I2 hs12 ⟨Db,LR⟩ e
   try dsimp only at Db LR
   exact fe (qT 2 U (jO (v':=I ((((((mgetD bV dT 0)).toNat)-(i4+1)):Nat):Int)) U (Je KH ob) (an (ag1 ((i4+1),BZ,LT,LS,F2,DR,rz4) _ (Nat.lt_succ_self _) ⟨kO hd4,iB hd4,hs12,Db,lo⟩ rd))))
  rintro i6 ⟨BZ,LT,LS,F2,DR⟩ y6 rz6 hd6 Sd RS Sn Sr hs13 ⟨Db,LR⟩ hx6 ag2 e
  try dsimp only at Db LR
  refine sr (tO Sd U (qO 8 U (aB (iF kK tB ty93 sl1.1 RS U U U (λq4 A4=>dq ty93 A4 U U (aT zc93 (λb6=>aL 0 ty93 U U U U U U (gJ (L':=[(b6,O (kK y6) 93),(b2,ec),z1]++(F2)) U (qL 6 [0] U (aB (lN 1 (k:=y6.To) Br (fZ oe) U gK (fw zv3) (show wg _ (I 0) 0 from U) U U (λv8 hv6=>?_))))))))))))
  obtain rfl:=hv6
  refine qL 13 [0] U (bA 2 [127,128,129] 127 129 (mhas bV y6.To) U (λc5 hk1=>?_) (λe=>?_))
  .exact av (eU U (hk1 _ U))
  refine av (bA 5 [130,131,132,133,134,135] 130 135 ((mgetD bV y6.To 0)==((((((mgetD bV dT 0)).toNat)-(i4+1)):Nat):Int)) U (λc6 hk2=>?_) (λe=>?_))
  .exact av (av (jO (v':=I ((((((mgetD bV dT 0)).toNat)-(i4+1)):Nat):Int)) U (Je KH ob) (qO 2 U (hk2 _ U))))
  refine aJ (ae hs13 U (λc7 hs14=>?_) (λc7 hs15=>?_))
  .refine el ?_
   let z2:Nat×Obj:=(b6,O (kK y6) 93)
   refine eT ([z2,(b2,ec),z1]) mixed kr jn (λeo _=>?_)
   exact tm 0 U (qB [1] U (tf 2 U U (rj 0 ty3 U U U) (qB [5] U (tf 6 U U (rj 0 ty3 U U U) (tn 3 U (bB (cells:=[I y6.No]) ej ty3 zc3 U U kr (λb7=>⟨jn,tn 4 U (dy Rp.iI ([(b7,O [I y6.No] 3),z2,(b2,ec),z1]) ([]) (λG=>[(b7,O [I y6.No] 3),z2,(b2,ec),z1]++G) ap (λ_=>ap) ej ty3 zc3 U bytes3 Db U U (eF 0 U (cE (y6.No) U U)) lo lo (λob1 oc1 G1 gr1=>⟨jn,qA [7,8] U (aQ kr (md U (aX (L':=[(b2,ec),z1]++G1) js (hx6 i6 ((BZ++[y6.No]),ob1,oc1,G1,y6.To) hs14 ⟨gr1,lo⟩))))⟩))⟩)))))))
  exact aI (qT 2 U (oi i6 U (qO 2 U (aX (L':=[(b2,ec),z1]++(F2)) js (ag2 (BZ,LT,LS,F2,DR) hs15 ⟨Db,lo⟩)))))
 refine kY (ι:=Nat×(List (Int×Int))×Obj×List Nat) (λi=>[(1,I dT),(16,.slice none 0 0),(20,.slice rb1 ((dj (aD (cD.mk office kind value li known) l)).length) rc1),(21,.map (some b2)),(57,I (i.1:Int))]) (λi=>h2) (λi=>[(b2,i.2.2.1),z1]) (λi=>(qH 8).drop i.1=i.2.2.2/\i.1<=(qH 8).length/\aE l dT to office kind value li known=((aE.L1 l office kind value li known (aE.K1 l dT office kind value li known)) i.2.2.2 i.1 i.2.1)/\j8 (kC .i64) wg h2 i.2.2.1 i.2.1/\(∀p∈i.2.1,0<=p.2/\p.2<=8)) (λi=>i.2.2.2.length) (0,(mput ([]) to 0),mo2,(qH 8)) rd sw ⟨U,zN _,hs2,hm1,(λp hp=>by rw[jD.1 hp];exact⟨Int.le_refl _,by omega⟩)⟩ ?_
 rintro⟨i1,bV,ec,s1⟩ ⟨hd1,ft,hs16,gK,u1_0⟩ ag3 e
 try dsimp only at hd1 ft gK u1_0
 rcases s1 with _|⟨y1,rz1⟩
 .have gu:decide ((i1:Int)<8)=false:=by simpa using ni hd1
  exact sr (fO gu U (qO 4 U (hx1 (i1,bV,ec) _ ⟨ft,hs16,gK,u1_0⟩ rd)))
 have df:decide ((i1:Int)<8)=true:=by simpa using tj hd1
 have dZ:i1<8:=by simpa using iB hd1
 have hr8:i1<8:=dZ
 refine sr (tO df U (qL 17 [] U ?_))
 refine lp2 (dj (aD (cD.mk office kind value li known) l)) (λi w=>[(1,I dT),(16,.slice none 0 0),(20,.slice rb1 ((dj (aD (cD.mk office kind value li known) l)).length) rc1),(21,.map (some b2)),(22,I (i1:Int)),(57,I (i1:Int)),(60,.slice rb1 ((dj (aD (cD.mk office kind value li known) l)).length) rc1),(61,I (((dj (aD (cD.mk office kind value li known) l)).length:Nat):Int)),(62,I (i:Int))]) (λ_=>h2) (λw=>[(b2,w.2),z1]) (λi w=>j8 (kC .i64) wg h2 w.2 w.1/\(∀p∈w.1,0<=p.2/\p.2<=8)) (λs3 i w=>(aE.L3 i1 (λzg3_b2_0=>(aE.L1 l office kind value li known (aE.K1 l dT office kind value li known) rz1 (i1+1) zg3_b2_0))) s3 w.1) (bV,ec) sl1.1.1 hs16 ⟨gK,ob⟩ ?_ ?_
 .rintro i3 ⟨nn,Cb⟩ NO hs18 ⟨rg,u3_0⟩ e
  try dsimp only at rg u3_0
  exact fe (bE (oi i1 U (qO 2 U (ag3 ((i1+1),nn,Cb,rz1) _ (Nat.lt_succ_self _) ⟨kO hd1,iB hd1,hs18,rg,ob⟩ rd))))
 rintro i3 ⟨nn,Cb⟩ y3 rz3 hd3 FY H8 FX Rx hs19 ⟨rg,u3_0⟩ hx3 ag4 e
 try dsimp only at rg u3_0
 refine sr (tO FY U (qO 8 U (aB (iF kK tB ty93 sl1.1 H8 U U U (λq6 A6=>dq ty93 A6 U U (aT zc93 (λb9=>aL 0 ty93 U U U U U U (qL 6 [0] U (aB (lN 1 (k:=y3.From) Br (fZ oe) U rg (fw zv3) (show wg _ (I 0) 0 from U) U U (λv11 hv9=>?_)))))))))))
 obtain rfl:=hv9
 refine qL 11 [0] U (aB (lN 1 (k:=y3.To) Br (fZ oe) U rg (fw zv3) (show wg _ (I 0) 0 from U) U U (λv12 hv10=>?_)))
 obtain rfl:=hv10
 refine qO 10 U (bA 4 [81,82,83,84,85] 81 85 ((mgetD nn y3.To 0)==(i1:Int)) U (λc8 hk3=>?_) (λe=>?_))
 .exact av (qO 3 U (hk3 _ U))
 refine av (bA 3 [86,87,88,89] 86 89 (!(mhas nn y3.From)) U (λc9 hk4=>?_) (λe=>?_))
 .exact av (qO 2 U (hk4 _ U))
 refine aJ (ae hs19 U (λc10 hs20=>?_) (λc10 hs21=>?_))
 .exact qK 5 [0] U (oi i1 U (aB (lg 1 (k:=y3.From) (x:=(((i1+1):Nat):Int)) Br (fZ oe) U rg U U U (λmo3 hm2=>qO 3 U (oi i3 U (qO 2 U (aX (L':=[(b2,mo3),z1]) js (ag4 ((mput nn y3.From (((i1+1):Nat):Int)),mo3) hs20 ⟨hm2,(by first|assumption|exact yj (P:=λx:Int=>0<=x/\x<=8) _ ob ob)⟩))))))))
 exact aI (qT 2 U (oi i3 U (qO 2 U (aX (L':=[(b2,Cb),z1]) js (ag4 (nn,Cb) hs21 ⟨rg,(by first|assumption|exact yj (P:=λx:Int=>0<=x/\x<=8) _ ob ob)⟩)))))
theorem yt(h:HF)(l:List Interest)(eu:Option Addr)(et:Nat)(person:Int)(parties:List Int)(lL:Option Addr)(lK:Nat)(dt:Int)(known:Int)(hl:SlC kL h eu et l)(hparties:SlC kB h lL lK parties):Ret prog 111 [.slice eu l.length et,I person,.slice lL parties.length lK,I dt,I known] h (I (cK l person parties dt known)):=by
 refine sT func111 U ntmps111 U λX hM hX hF=>?_
 have hs0:cK l person parties dt known=cK l person parties dt known:=rfl
 refine qT 8 U (aj call67 (sX _ _ _ _ hl) U (qO 7 U (ae hs0 U (λc1 hs1=>?_) (λc1 hs2=>?_))))
 .exact sr (qO 3 U (nretP [I (cq l)] (ci hs1)))
 refine qK 12 [] U ?_
 refine lp1 parties (λi w=>[(1,I person),(2,.slice lL parties.length lK),(3,I dt),(4,I known),(12,I w),(20,.slice lL parties.length lK),(21,I (parties.length:Int)),(22,I (i:Int))]) ([]) (λs1 i w=>(cK.L1 (cK.K1 person parties dt known)) s1 w) (-1) hparties.1.1 hs2 ?_ ?_
 .rintro i1 ow ft hs4 e
  refine qT 4 U (aj Dn (il h person 64) U (qO 2 U (ce 4 [38,39,40,41,42] 38 42 (decide (16<(parties.length:Int))) U (λc2 hk1=>?_) (λe=>?_))))
  .exact qL 4 [] U (hk1 _ U)
  refine av (ce 4 [43,44,45,46,47] 43 47 (!(bJ dt 1099511627776)) U (λc3 hk2=>?_) (λe=>?_))
  .exact av (aj Dn (il h dt 1099511627776) U (qO 2 U (hk2 _ U)))
  refine av (ce 4 [48,49,50,51,52] 48 52 (!(bJ known 1099511627776)) U (λc4 hk3=>?_) (λe=>?_))
  .exact av (aj Dn (il h known 1099511627776) U (qO 2 U (hk3 _ U)))
  refine aJ (ae hs4 U (λc5 hs5=>?_) (λc5 hs6=>?_))
  .exact sr (an (nretP [I 1] (ci hs5)))
  exact aI (qT 4 U (nretP [I 0] (ci hs6)))
 rintro i1 ow y1 rz1 hd1 df aS dZ gy hs9 hx1 ag1 e
 refine sr (tO df U (qO 8 U (aB (iF (λy=>[I y]) ej ty3 hparties.1 aS U U U (λq2 A2=>dB ty3 A2 U (qO 9 U (ce 3 [29,30,31,32] 29 32 (decide (1048576<y1)) U (λc6 hk4=>?_) (λe=>?_))))))))
 .exact av (qO 2 U (hk4 _ U))
 refine aJ (ae hs9 U (λc7 hs10=>?_) (λc7 hs11=>?_))
 .exact sr (an (nretP [I 1] (ci hs10)))
 exact aI (qT 6 U (oi i1 U (qO 2 U (ag1 y1 hs11))))
theorem uT(h:HF)(v0:List Interest)(uj:Option Addr)(ui:Nat)(v0_q:Addr)(v1:List (dp×Interest))(N7:Nat)(v1_q:Addr)(hv0:SlC kL h uj ui v0)(av0:At h v0_q [.slice uj v0.length ui])(hv1:tA dp.enc (jf kL) h N7 v1)(av1:At h v1_q [.map (some N7)]):Itr prog (.func (.func 208) #[] (jB [.pointer (some v0_q),.pointer (some v1_q)])) vz (bG v0 v1) h:=by
 refine sV call208 ?_
 intro yf ya yb C Sp Pn h1 A hle m1 m2 m3 hC hy
 refine jW Jv U ntmps208 U λX hXM hX=>?_
 have hs0:bG v0 v1=[]++bG v0 v1:=rfl
 refine sr (dB ty24 (av0.mono hle) U (qL 3 [] U ?_))
 refine lp2 v0 (λi w=>[(0,.func yf ya yb),(2,.pointer (some v1_q)),(6,.slice uj v0.length ui),(7,I (v0.length:Int)),(8,I (i:Int))]) (λw=>w.2.2) (λw=>w.2.1) (λi w=>C w.1 w.2.2 w.2.1/\vM h1 w.2.2) (λs1 i w=>w.1++(bG.L1 v1 (bG.K1)) s1) ([],A,h1) ((hv0.mono aAj hle).1.1) hs0 ⟨hC,lf⟩ ?_ ?_
 .rintro i1 ⟨dn1,A1_,hh1⟩ ft hs1 ⟨hC1_,hl1⟩ e
  refine ew ?_
  have hs2:bG v0 v1=dn1:=hs1.trans (List.append_nil _)
  exact sW [] (A:=A1_) Jv U (List.Sublist.refl _) (.inl (hs2▸hC1_))
 rintro i1 ⟨dn1,A1_,hh1⟩ y1 rz1 hd1 df aS dZ gy hs3 ⟨hC1_,hl1⟩ hx1 ag1 e
 refine sr (tO df U (qO 8 U (aB (iF zD sC ty97 (hv0.mono aAj (hle.t hl1)).1 aS U U U (λq2 A2=>dq ty97 A2 U U (aT zc97 (λb2=>aL 0 ty97 U U U U U U (gJ (L':=[(b2,O (zD y1) 97)]++(A1_)) U (qO 2 U ?_)))))))))
 let z1:Nat×Obj:=(b2,O (zD y1) 97)
 refine eT ([z1]) mixed kr jn (λeo _=>?_)
 refine qB [0] U (tf 1 U U (rj 0 ty4 U U U) (qA [2,3] U ?_))
 refine dx 15 U (λc1=>?_) (λc1=>?_)
 .refine tf 4 U U (rh ty282 (av1.mono (hle.t hl1)) U) (qB [5] U (tf 6 U U (rj 0 ty3 U U U) (qB [7] U (tf 8 U U (rj 0 ty3 U U U) (qB [9] U (tf 10 U U (rj 0 ty4 U U U) (tf 13 U U (λ_ _ hj=>kg ty97 U (hj.nth (i:=0) U) U) (tn 11 U (fV (cells:=[I y1.Person,I y1.Party,.bool y1.Of]) (places:=[(0,1),(1,1),(2,1)]) Mu zc284 kr kr (⟨jn,tn 12 U ?_⟩))))))))))
  obtain⟨o2,hb2,hm2⟩:=(hv1.mono (jf.mono aAj) (hle.t hl1))
  refine nS (k:=(dp.mk y1.Person y1.Party y1.Of)) underlying282 uw hb2 hm2 (fw zv97) (show(jf kL) _ (.agg (jB [I 0,I 0,I 0,I 0,I 0,.bool false,.bool false])) (zV 0 0 0 0 0 false false)from⟨_,U,U⟩) U U (λv2 hv2=>?_)
  obtain⟨_,rfl,rfl⟩:=hv2
  refine⟨jn,(tf 14 U U (λ_ _ _=>MI (I9 (mgetD v1 (dp.mk y1.Person y1.Party y1.Of) (zV 0 0 0 0 0 false false)) y1) eqg97 U U) (tf 15 U U (λ_ _ _=>nX U (cb (show(decide ((mgetD v1 (dp.mk y1.Person y1.Party y1.Of) (zV 0 0 0 0 0 false false))=y1))=((!y1.Gone)&&(decide ((mgetD v1 (dp.mk y1.Person y1.Party y1.Of) (zV 0 0 0 0 0 false false))=y1)))from by first|(rw[c1];rfl)|(rw[c1];rfl)|simp[c1]))) (tm 16 U ?_)))⟩
  refine dx 28 U (λc2=>?_) (λc2=>?_)
  .have ct1:=c2
   have hs4:=hs3.trans (congrArg (dn1++·) (bt ct1))
   refine tm 17 U (tf 18 U U (λ_ _ hj=>kg ty97 U (hj.nth (i:=0) U) U) ?_)
   have hx1:bG v0 v1=dn1++(y1::(bG.L1 v1 (bG.K1) rz1)):=hs4
   refine tn 19 U (ll ([z1]) A1_ ap (hy dn1 y1 _ _ _ _ hx1 hl1 hC1_ U) U U (λh2 A3 hle1 hC1=>?_) (λh3 A4 hle2 hS1=>?_) (λch1 h4 A5 hle3 hP1 e=>gV (nh [] (A:=A5) Jv (List.sublist_append_right _ _) hP1)))
   .have hs5:bG v0 v1=(dn1++[y1])++((bG.L1 v1 (bG.K1) rz1)):=hx1.trans ap
    exact⟨⟨hle1,λ_ hp=>List.Sublist.subset js hp⟩,n9 (K2:=[z1]) hle1 (λ_ hp=>hp) (qA [20,21] U (aQ kr (qT 4 U (oi i1 U (qO 2 U (aX (L':=A3) js (ag1 ((dn1++[y1]),A3,h2) hs5 ⟨hC1,(hl1.t hle1)⟩)))))))⟩
   exact⟨⟨hle2,λ_ hp=>List.Sublist.subset js hp⟩,n9 (K2:=[z1]) hle2 (λ_ hp=>hp) (qA [20,21] U (aQ kr (lM U (ew (m4 [] (A:=A4) Jv U js (.inr hS1))))))⟩
  have ct2:=c2
  have hs6:=hs3.trans (congrArg (dn1++·) (bf ct2))
  exact tk 17 U U (qR 18 4 U (aQ kr (qT 4 U (oi i1 U (qO 2 U (aX (L':=A1_) js (ag1 (dn1,A1_,hh1) hs6 ⟨hC1_,hl1⟩)))))))
 refine qR 4 11 U (tf 15 U U (λ_ _ _=>nX U (cb (show false=((!y1.Gone)&&(decide ((mgetD v1 (dp.mk y1.Person y1.Party y1.Of) (zV 0 0 0 0 0 false false))=y1)))from by first|(rw[c1];rfl)|(rw[c1];rfl)|simp[c1]))) (tm 16 U ?_))
 refine dx 28 U (λc3=>?_) (λc3=>?_)
 .have ct3:=c3
  have hs7:=hs3.trans (congrArg (dn1++·) (bt ct3))
  refine tm 17 U (tf 18 U U (λ_ _ hj=>kg ty97 U (hj.nth (i:=0) U) U) ?_)
  have hx2:bG v0 v1=dn1++(y1::(bG.L1 v1 (bG.K1) rz1)):=hs7
  refine tn 19 U (ll ([z1]) A1_ ap (hy dn1 y1 _ _ _ _ hx2 hl1 hC1_ U) U U (λh5 A6 hle4 hC2=>?_) (λh6 A7 hle5 hS2=>?_) (λch2 h7 A8 hle6 hP2 e=>gV (nh [] (A:=A8) Jv (List.sublist_append_right _ _) hP2)))
  .have hs8:bG v0 v1=(dn1++[y1])++((bG.L1 v1 (bG.K1) rz1)):=hx2.trans ap
   exact⟨⟨hle4,λ_ hp=>List.Sublist.subset js hp⟩,n9 (K2:=[z1]) hle4 (λ_ hp=>hp) (qA [20,21] U (aQ kr (qT 4 U (oi i1 U (qO 2 U (aX (L':=A6) js (ag1 ((dn1++[y1]),A6,h5) hs8 ⟨hC2,(hl1.t hle4)⟩)))))))⟩
  exact⟨⟨hle5,λ_ hp=>List.Sublist.subset js hp⟩,n9 (K2:=[z1]) hle5 (λ_ hp=>hp) (qA [20,21] U (aQ kr (lM U (ew (m4 [] (A:=A7) Jv U js (.inr hS2))))))⟩
 have ct4:=c3
 have hs9:=hs3.trans (congrArg (dn1++·) (bf ct4))
 exact tk 17 U U (qR 18 4 U (aQ kr (qT 4 U (oi i1 U (qO 2 U (aX (L':=A1_) js (ag1 (dn1,A1_,hh1) hs9 ⟨hC1_,hl1⟩)))))))
end Go.Sg

namespace Go.Sg
open Go.Proofs Go.Proofs.Tryz Go.RowKit
theorem Hp{out:List Int}{x:Int}:(compStep out x).getLast? = some x:=by
 unfold compStep
 split
 .assumption
 .simp
theorem GA(xs:List Int):∀k,k<=xs.length->Lib.compactUpTo xs.toArray k=compI (xs.take k)/\(0<k->(compI (xs.take k)).getLast? = xs[k-1]?)
 |0,_=>⟨by simp[Lib.compactUpTo,compI],λh=>absurd h (Nat.lt_irrefl _)⟩
 |k+1,hk=>by
  obtain⟨h1,h2⟩:=GA xs k (by omega)
  have hx:xs[k]? = some xs[k]:=vF (by omega)
  have ht:xs.take (k+1)=xs.take k++[xs[k]]:=by rw[List.take_add_one,hx];rfl
  have hc:compI (xs.take (k+1))=compStep (compI (xs.take k)) xs[k]:=by unfold compI;rw[ht,List.foldl_append];rfl
  refine⟨?_,λ_=>by rw[hc,Hp,Nat.add_sub_cancel,hx]⟩
  rw[Lib.compactUpTo_succ,h1,hc]
  have hd:xs.toArray[k]! = xs[k]:=by simp[getElem!_pos,show k<xs.length by omega]
  rcases Nat.eq_zero_or_pos k with rfl|hk0
  .simp[Lib.keeps,compI,compStep,hd]
  .have hl:=h2 hk0
   have hd1:xs.toArray[k-1]! = xs[k-1]:=by simp[getElem!_pos,show k-1<xs.length by omega]
   have hx1:xs[k-1]? = some xs[k-1]:=vF (by omega)
   unfold compStep
   rw[hl,hx1,hd]
   by_cases he:xs[k-1]=xs[k]
   .have:Lib.keeps xs.toArray k=false:=Lib.keeps_neg hk0 (by rw[hd,hd1,he])
    simp[this,he]
   .have:Lib.keeps xs.toArray k=true:=Lib.keeps_pos (by rw[hd,hd1];exact λe=>he e.symm)
    simp[this,he]
theorem Ma(xs:List Int):Lib.compact xs=compI xs:=by
 have:=(GA xs xs.length (kF _)).1
 rw[List.take_length]at this
 exact this
theorem PS(xs:List Int):(compI xs).length<=xs.length:=by
 have:∀(l acc:List Int),(l.foldl compStep acc).length<=acc.length+l.length:=by
  intro l
  induction l with
  |nil=>intro acc;exact kF _
  |cons y l ih=>
   intro acc
   have h1:=ih (compStep acc y)
   have h2:(compStep acc y).length<=acc.length+1:=by unfold compStep;split<;>simp
   simp only[List.foldl_cons,xA];omega
 have h3:=this xs []
 simpa[compI]using h3
theorem pS(h:HF)(xs:List Int)(b:Option Addr)(c:Nat)(G:LH)(hG:dC kB 3 h xs b c G):
  oA prog 136 [.slice b xs.length c].toArray h G (λr h' G'=>h'=h/\r=.returned (.slice b (slices_Compact_int xs).length c)/\dC kB 3 h (slices_Compact_int xs) b c G'):=by
 intro w hp
 rcases hG with⟨rfl,rfl,rfl,rfl⟩|⟨bk,cl,sp,rfl,hcl,hlen,hcap,hmax,rfl⟩
 .refine(lj (Tryz.slices_Compact_int_empty none 0 w) (λw' hw=>by cases hw.1)).mono ?_
  rintro e w' ⟨rfl,rfl⟩
  exact⟨h,[],St.start hp,rfl,rfl,dC.nil⟩
 .have hb:=hp.own _ (jD.2 rfl)
  simp only at hb
  have hcl':cl=xs.map (kC .i64):=by
   clear hlen hb hp hcap hmax
   induction xs generalizing cl with
   |nil=>exact hcl
   |cons y l ih=>
    obtain⟨cs,r,rfl,_,hr,hl⟩:=hcl
    have:cs=[.int .i64 y]:=hr
    rw[this,ih r hl];rfl
  subst hcl'
  have hH:Sort.Holds (kC .i64) w bk 0 xs.toArray:=by
   refine holds_of_blockI (cur:=(xs.map (kC .i64)++sp).toArray) (e:=3) hb ?_
   simp
  refine(lj (Tryz.slices_Compact_int bk 0 c xs w hH hmax hcap) (λw' hw=>by cases hw.1)).mono ?_
  rw[Ma]
  have hle:=PS xs
  rintro e w' ⟨rfl,n,rfl⟩
  let ys:List Int:=compI xs++List.replicate (xs.length-(compI xs).length) 0
  have hys:ys.length=xs.length:=by simp[ys];omega
  obtain⟨g1,g2,g3,g4,g5⟩:=grownBy_sortedI (w:=w) (g:=bk) (n:=n) (os:=#[]) ys.toArray
  have hnew:=heap_sortedI (w:=w) (g:=bk) (n:=n) (os:=#[]) ys.toArray hb
  have htake:=take_putCellsI (xs.map (kC .i64)++sp).toArray ys (by rw[hys];simp)
  have hgr:∀W:World,Go.Sort.grow W #[]=W:=λW=>by simp[Go.Sort.grow]
  rw[hgr]at g1 g2 g3 g4 g5 hnew
  refine⟨h,[(bk,.cells (Sort.putCells (kC .i64) 0 ys.toArray (xs.map (kC .i64)++sp).toArray) 3 (0,0))],⟨g1,g2,g3,g4,λk hk hM=>g5 k hk (λe=>hM (by cases e;simp)),λ_ _ e=>e,λ_ _=>rfl,λk o e=>?_,λq hq=>?_,?_,?_,?_⟩,rfl,rfl,?_⟩
  .have hne:k≠bk:=λe'=>by
    have:=hp.free _ (jD.2 rfl)
    simp only at this
    rw[e',this]at e;cases e
   exact(g5 k (iq (hp.imm k o e)) (λe'=>by cases e';exact hne rfl)).trans (hp.imm k o e)
  .rw[jD.1 hq];exact hnew
  .simp
  .intro q hq;rw[jD.1 hq];exact hp.free (bk,zJ (xs.map (kC .i64)++sp).toArray 3 (0,0)) (jD.2 rfl)
  .intro q hq;rw[jD.1 hq];exact .inr (by simp)
  .have hcells:∀l:List Int,bI kB h (l.map (kC .i64)) l:=by
    intro l
    induction l with
    |nil=>rfl
    |cons y l ih=>exact⟨[.int .i64 y],l.map (kC .i64),rfl,rfl,rfl,ih⟩
   have hg:dC kB 3 h ys (some ⟨bk,0,none⟩) c [(bk,.cells (Sort.putCells (kC .i64) 0 ys.toArray (xs.map (kC .i64)++sp).toArray) 3 (0,0))]:=by
    refine .inr ⟨bk,ys.map (kC .i64),(Sort.putCells (kC .i64) 0 ys.toArray (xs.map (kC .i64)++sp).toArray).toList.drop ys.length,rfl,hcells _,?_,by rw[hys];exact hcap,by rw[hys];exact hmax,?_⟩
    .rw[←htake,List.take_append_drop]
     simpa[Sort.putCells]using hlen
    .rw[←htake,List.take_append_drop]
   have:=hg.take (compI xs).length
   rwa [show ys.take (compI xs).length=compI xs from by simp[ys]]at this
end Go.Sg

namespace Go.Sg
open Go.Proofs Go.Proofs.Tryz
theorem pM.length{κ α : Type}{enc:κ->Value}{V:HF->Value->α->Prop}{h:HF}:∀{es:List MapEntry}{m:List (κ×α)},pM enc V h es m->es.length=m.length
 |[],[],_=>rfl
 |_::_,(_,_)::_,⟨_,_,c⟩=>by simp[pM.length c]
 |[],_::_,x=>x.elim
 |_::_,[],x=>x.elim
theorem AK{κ : Type}[Inhabited κ](ks:List κ)(is:List Nat)(hn:is.Nodup)(hlt:∀i∈is,i<ks.length)(hall:∀i,i<ks.length->i∈is):(is.map λi=>(ks[i]?).getD default).Perm ks:=by
 have h1:is.Perm (qH ks.length):=(List.perm_ext_iff_of_nodup hn List.nodup_range).2 (λi=>by rw[List.mem_range];exact⟨hlt i,hall i⟩)
 refine(h1.map _).trans (List.Perm.of_eq ?_)
 apply List.ext_getElem (by simp)
 intro i h2 h3
 simp at h2
 simp[vF h2]
theorem DD{κ : Type}[Inhabited κ](ks:List κ)(is:List Nat)(hn:is.Nodup)(hlt:∀i∈is,i<ks.length):∃rest,((is.map λi=>(ks[i]?).getD default)++rest).Perm ks:=by
 let js:=(qH ks.length).filter λi=>!is.contains i
 have hd:(is++js).Nodup:=by
  rw[aA0]
  refine⟨hn,List.nodup_range.filter _,λa ha b hb e=>?_⟩
  subst e
  simp[js]at hb
  exact hb.2 ha
 refine⟨js.map λi=>(ks[i]?).getD default,?_⟩
 rw[←aAF]
 refine AK ks (is++js) hd (λi hi=>?_) (λi hi=>?_)
 .rcases kH.1 hi with h|h
  .exact hlt i h
  .simp[js]at h;exact h.1
 .by_cases hm:i∈is
  .exact aAl _ hm
  .exact zM _ (by simp[js,hi,hm])
theorem vu(h:HF)(m:List (Int×Version))(bk:Nat)(q:Addr)(hm:tA (kC .i64) (jf jN) h bk m)(aq:At h q [.map (some bk)]):
  GJ prog (.func (.func 262) #[] #[.pointer (some q)]) (λk _ vs=>vs=[(kC .i64) k]) (λxs=>xs.Perm (m.map (·.1))) h:=by
 refine⟨262,[.pointer (some q)],rfl,call262,?_⟩
 intro yf ya yb C Sp Pn h1 A hle m1 m2 m3 hC hy
 obtain⟨o,hb,m0,hpm,hnd0,es,clock,rfl,hE,hP,hcl⟩:=hm.mono (jf.mono jM) hle
 have hnod:(es.map (·.born)).Nodup:=hP.imp (λh=>Nat.ne_of_lt h)
 have hkeys:=hE.keys
 have hlen:es.length=(m0.map (·.1)).length:=by rw[hE.length];simp
 let ks:=m0.map (·.1)
 let kf:Nat->Int:=λi=>(ks[i]?).getD default
 let bf:Nat->Nat:=λi=>(es[i]?.map (·.born)).getD 0
 have hkey:∀(i:Nat)(en:MapEntry),es[i]? = some en->en.key=(kC .i64) (kf i):=by
  intro i en hi
  have h2:(es.map (·.key))[i]? = some en.key:=by simp[hi]
  rw[hkeys]at h2
  simp only[kT]at h2
  simp only[kf,ks,kT]
  cases hq:m0[i]? with
  |none=>rw[hq]at h2;simp at h2
  |some p=>rw[hq]at h2;simp at h2;simp[←h2]
 refine nu (args:=[.func yf ya yb]) (cap:=[.pointer (some q)]) call262 ?_
 refine jW Ot rfl ntmps262 rfl λX hXM hX=>?_
 refine el (bE (dB ty240 (aq.mono hle) rfl (aB (MF Oq hb rfl (λit=>aJ ?_)))))
 refine iX (ι:=List Nat×LH×HF) (λi=>[]) (λi=>i.2.2) (λi=>[(it,Obj.mapIter (some bk) clock (jB (i.1.map bf)) clock)]++i.2.1) (λi=>(i.1.Nodup/\(∀j∈i.1,j<es.length)/\(∀j,j<es.length->j∈i.1))/\C (i.1.map kf) i.2.2 i.2.1) ?_ (λhx=>?_)
 .rintro⟨js,A1,h2⟩ ⟨⟨hn,hl,ha⟩,hC1⟩ e
  exact xk Ot (λa _ w _=>mC rfl a w) (λw hw=>hw.sub (List.sublist_append_right _ _)) (.inl ⟨rfl,.inl ⟨_,(AK ks js hn (λi hi=>by rw[←hlen];exact hl i hi) (λi hi=>ha i (by rw[hlen];exact hi))).trans (hpm.map _),hC1⟩⟩)
 refine kY (ι:=List Nat×LH×HF) (λi=>[(0,.func yf ya yb),(5,.pointer (some ⟨it,0,none⟩))]) (λi=>i.2.2) (λi=>[(it,Obj.mapIter (some bk) clock (jB (i.1.map bf)) clock)]++i.2.1) (λi=>i.1.Nodup/\(∀j∈i.1,j<es.length)/\C (i.1.map kf) i.2.2 i.2.1/\vM h1 i.2.2) (λi=>es.length-i.1.length) ([],A,h1) ⟨rfl,rfl,trivial⟩ (λw hw=>hw) ⟨aAO,λ_ hj=>(kA hj).elim,hC,vQ _⟩ ?_
 rintro⟨js,A1,h2⟩ ⟨hn,hl,hC1,hle2⟩ ag e
 dsimp only at hn hl hC1 hle2
 have hlp:=DG hnod js hl
 show TT _ _ _ _ _ (upds e [(0,.func yf ya yb),(5,.pointer (some ⟨it,0,none⟩))]) _ _ h2 ([(it,Obj.mapIter (some bk) clock (jB (js.map bf)) clock)]++A1)
 refine el (bE (aB (OX 0 rfl (hle2 _ _ hb) (λx hx=>hcl x (by simpa using hx)) (kF _) rfl (λh0=>?_) (λen hen=>?_))))
 .refine oV rfl rfl (aJ (el (pb rfl (md rfl ?_))))
  exact hx (js,A1,h2) _ ⟨⟨hn,hl,hlp.1 h0⟩,hC1⟩ trivial
 .obtain⟨i,hi,hni⟩:=hlp.2 en hen
  have hil:i<es.length:=by
   rcases xQ i es.length with h3|h3
   .exact h3
   .simp[xM h3]at hi
  have hmem:en∈es.toArray.toList:=by simpa using vE hi
  have hn':(js++[i]).Nodup:=by
   rw[aA0];exact⟨hn,by simp,λa ha b hb' e'=>by simp at hb';subst hb';subst e';exact hni ha⟩
  have hl':∀j∈js++[i],j<es.length:=λj hj=>by
   rcases kH.1 hj with h3|h3
   .exact hl j h3
   .simp at h3;subst h3;exact hil
  obtain⟨rest,hrest⟩:=DD ks (js++[i]) hn' (λj hj=>by rw[←hlen];exact hl' j hj)
  have yx:js.length+1<=es.length:=by
   have h9:=hrest.length_eq
   rw[jA,List.length_map,jA]at h9
   have h10:ks.length=es.length:=hlen.symm
   simp only[xA,vB]at h9
   omega
  have hrest':(js.map kf++kf i::rest).Perm (m.map (·.1)):=by
   rw[aAF,kD]at hrest
   exact List.Perm.trans hrest (hpm.map _)
  obtain⟨ekey,evl,eborn⟩:=en
  have hk':ekey=(kC .i64) (kf i):=hkey i _ hi
  subst hk'
  refine oV rfl rfl (aJ ?_)
  refine el (lM rfl (aI (mA ?_)))
  refine el (bE ?_)
  refine aB (fK (MJ 0 rfl (hle2 _ _ hb) hmem (by simpa using hnod) rfl) ?_)
  refine oV rfl rfl (gG (aJ ?_))
  refine el (bE (av (av ?_)))
  refine aB (ll [(it,Obj.mapIter (some bk) clock ((jB (js.map bf)).push eborn) clock)] A1 rfl (hy (js.map kf) (kf i) [(kC .i64) (kf i)] h2 A1 ⟨rest,hrest'⟩ hle2 hC1 rfl) rfl rfl (λh3 B hle3 hC3=>?_) (λh3 B hle3 hS3=>?_) (λch h3 B hle3 hP3 e'=>?_))
  .refine nl rfl (aJ (pb rfl (aI (fe ?_))))
   have hpush:((jB (js.map bf)).push eborn)=jB ((js++[i]).map bf):=by simp[bf,hi]
   rw[hpush]
   refine ag (js++[i],B,h3) _ (by show es.length-(js++[i]).length<es.length-js.length;rw[jA];simp only[xA,vB];omega) ⟨hn',hl',by simpa using hC3,zF hle2 hle3⟩ ⟨rfl,rfl,trivial⟩
  .refine nl rfl (aJ (lM rfl ?_))
   exact qe Ot (λa _ w _=>mC rfl a w) (λw hw=>hw.sub (List.sublist_append_right _ _)) (.inl ⟨rfl,.inr hS3⟩)
  .exact OM Ot (λw hw=>hw.sub (List.sublist_append_right _ _)) (.inr ⟨ch,rfl,hP3⟩)
theorem vv(h:HF)(m:List (OSeat×Appoint))(bk:Nat)(q:Addr)(hm:tA aAs (jf kG) h bk m)(aq:At h q [.map (some bk)]):
  GJ prog (.func (.func 275) #[] #[.pointer (some q)]) (λk _ vs=>vs=[aAs k]) (λxs=>xs.Perm (m.map (·.1))) h:=by
 refine⟨275,[.pointer (some q)],rfl,call275,?_⟩
 intro yf ya yb C Sp Pn h1 A hle m1 m2 m3 hC hy
 obtain⟨o,hb,m0,hpm,hnd0,es,clock,rfl,hE,hP,hcl⟩:=hm.mono (jf.mono kP) hle
 have hnod:(es.map (·.born)).Nodup:=hP.imp (λh=>Nat.ne_of_lt h)
 have hkeys:=hE.keys
 have hlen:es.length=(m0.map (·.1)).length:=by rw[hE.length];simp
 let ks:=m0.map (·.1)
 let kf:Nat->OSeat:=λi=>(ks[i]?).getD default
 let bf:Nat->Nat:=λi=>(es[i]?.map (·.born)).getD 0
 have hkey:∀(i:Nat)(en:MapEntry),es[i]? = some en->en.key=aAs (kf i):=by
  intro i en hi
  have h2:(es.map (·.key))[i]? = some en.key:=by simp[hi]
  rw[hkeys]at h2
  simp only[kT]at h2
  simp only[kf,ks,kT]
  cases hq:m0[i]? with
  |none=>rw[hq]at h2;simp at h2
  |some p=>rw[hq]at h2;simp at h2;simp[←h2]
 refine nu (args:=[.func yf ya yb]) (cap:=[.pointer (some q)]) call275 ?_
 refine jW Oo rfl ntmps275 rfl λX hXM hX=>?_
 refine el (bE (dB ty162 (aq.mono hle) rfl (aB (MF Mp hb rfl (λit=>aJ ?_)))))
 refine iX (ι:=List Nat×LH×HF) (λi=>[]) (λi=>i.2.2) (λi=>[(it,Obj.mapIter (some bk) clock (jB (i.1.map bf)) clock)]++i.2.1) (λi=>(i.1.Nodup/\(∀j∈i.1,j<es.length)/\(∀j,j<es.length->j∈i.1))/\C (i.1.map kf) i.2.2 i.2.1) ?_ (λhx=>?_)
 .rintro⟨js,A1,h2⟩ ⟨⟨hn,hl,ha⟩,hC1⟩ e
  exact xk Oo (λa _ w _=>mC rfl a w) (λw hw=>hw.sub (List.sublist_append_right _ _)) (.inl ⟨rfl,.inl ⟨_,(AK ks js hn (λi hi=>by rw[←hlen];exact hl i hi) (λi hi=>ha i (by rw[hlen];exact hi))).trans (hpm.map _),hC1⟩⟩)
 refine kY (ι:=List Nat×LH×HF) (λi=>[(0,.func yf ya yb),(5,.pointer (some ⟨it,0,none⟩))]) (λi=>i.2.2) (λi=>[(it,Obj.mapIter (some bk) clock (jB (i.1.map bf)) clock)]++i.2.1) (λi=>i.1.Nodup/\(∀j∈i.1,j<es.length)/\C (i.1.map kf) i.2.2 i.2.1/\vM h1 i.2.2) (λi=>es.length-i.1.length) ([],A,h1) ⟨rfl,rfl,trivial⟩ (λw hw=>hw) ⟨aAO,λ_ hj=>(kA hj).elim,hC,vQ _⟩ ?_
 rintro⟨js,A1,h2⟩ ⟨hn,hl,hC1,hle2⟩ ag e
 dsimp only at hn hl hC1 hle2
 have hlp:=DG hnod js hl
 show TT _ _ _ _ _ (upds e [(0,.func yf ya yb),(5,.pointer (some ⟨it,0,none⟩))]) _ _ h2 ([(it,Obj.mapIter (some bk) clock (jB (js.map bf)) clock)]++A1)
 refine el (bE (aB (OX 0 rfl (hle2 _ _ hb) (λx hx=>hcl x (by simpa using hx)) (kF _) rfl (λh0=>?_) (λen hen=>?_))))
 .refine oV rfl rfl (aJ (el (pb rfl (md rfl ?_))))
  exact hx (js,A1,h2) _ ⟨⟨hn,hl,hlp.1 h0⟩,hC1⟩ trivial
 .obtain⟨i,hi,hni⟩:=hlp.2 en hen
  have hil:i<es.length:=by
   rcases xQ i es.length with h3|h3
   .exact h3
   .simp[xM h3]at hi
  have hmem:en∈es.toArray.toList:=by simpa using vE hi
  have hn':(js++[i]).Nodup:=by
   rw[aA0];exact⟨hn,by simp,λa ha b hb' e'=>by simp at hb';subst hb';subst e';exact hni ha⟩
  have hl':∀j∈js++[i],j<es.length:=λj hj=>by
   rcases kH.1 hj with h3|h3
   .exact hl j h3
   .simp at h3;subst h3;exact hil
  obtain⟨rest,hrest⟩:=DD ks (js++[i]) hn' (λj hj=>by rw[←hlen];exact hl' j hj)
  have yx:js.length+1<=es.length:=by
   have h9:=hrest.length_eq
   rw[jA,List.length_map,jA]at h9
   have h10:ks.length=es.length:=hlen.symm
   simp only[xA,vB]at h9
   omega
  have hrest':(js.map kf++kf i::rest).Perm (m.map (·.1)):=by
   rw[aAF,kD]at hrest
   exact List.Perm.trans hrest (hpm.map _)
  obtain⟨ekey,evl,eborn⟩:=en
  have hk':ekey=aAs (kf i):=hkey i _ hi
  subst hk'
  refine oV rfl rfl (aJ ?_)
  refine el (lM rfl (aI (mA ?_)))
  refine el (bE ?_)
  refine aB (fK (MJ 0 rfl (hle2 _ _ hb) hmem (by simpa using hnod) rfl) ?_)
  refine oV rfl rfl (aT zc182 (λb3=>aL 0 ty182 rfl rfl rfl rfl rfl rfl (aJ ?_)))
  refine el (bE (av (cI 0 ty182 rfl rfl rfl ?_)))
  refine aB (ll [(b3,zJ (jE (kf i)).toArray 182 (0,0)),(it,Obj.mapIter (some bk) clock ((jB (js.map bf)).push eborn) clock)] A1 rfl (hy (js.map kf) (kf i) [aAs (kf i)] h2 A1 ⟨rest,hrest'⟩ hle2 hC1 rfl) rfl rfl (λh3 B hle3 hC3=>?_) (λh3 B hle3 hS3=>?_) (λch h3 B hle3 hP3 e'=>?_))
  .refine nl rfl (aJ (pb rfl (aI (fe ?_))))
   have hpush:((jB (js.map bf)).push eborn)=jB ((js++[i]).map bf):=by simp[bf,hi]
   rw[hpush]
   refine aX (L':=[(it,Obj.mapIter (some bk) clock (jB ((js++[i]).map bf)) clock)]++B) (.cons _ (List.Sublist.refl _)) ?_
   refine ag (js++[i],B,h3) _ (by show es.length-(js++[i]).length<es.length-js.length;rw[jA];simp only[xA,vB];omega) ⟨hn',hl',by simpa using hC3,zF hle2 hle3⟩ ⟨rfl,rfl,trivial⟩
  .refine nl rfl (aJ (lM rfl ?_))
   exact qe Oo (λa _ w _=>mC rfl a w) (λw hw=>hw.sub (List.sublist_append_right _ _)) (.inl ⟨rfl,.inr hS3⟩)
  .exact OM Oo (λw hw=>hw.sub (List.sublist_append_right _ _)) (.inr ⟨ch,rfl,hP3⟩)
end Go.Sg

namespace Go.Sg
open Go.Proofs Go.Proofs.Tryz
abbrev Lg{α : Type}(P:Program)(f:FuncId)(args:List Value)(h:HF)(R:Rp α)(E:TypeId)(S:List α->Prop):Prop:=
 oA P f args.toArray h [] (λr h' G=>∃xs bb c,S xs/\r=.returned (.slice bb xs.length c)/\dC R E h' xs bb c G)
section steps
variable {P:Program} {b:Frame} {n:Nat} {ops:Array Oper} {F:List Frame->(Machine->Prop)->Prop} {e:Env} {ds:List Deferred} {X:Cx} {h:HF} {L:LH} {K:Env->HF->LH->Prop}
variable {d:Option Nat} {ty:TypeId} {pos:String} {af:Array Edge} {g:Option (Nat×Bool)}
theorem BH{α : Type}{R:Rp α}{E:TypeId}{S:List α->Prop}{f:FuncId}{ass:Array Operand}{ats:Array TypeId}{vs:List Value}(hc:∀args w,(callFunc f args).run P w=.ok (.enter f args) w)(hs:Lg P f vs h R E S)(hvs:ass.toList.map e.ev=vs)(t':∀h' xs bb c G,h.le h'->S xs->dC R E h' xs bb c G->K (pute e d (.slice bb xs.length c)) h' (L++G))(hg:guardB ops e ⟨d,.call ⟨.value (.func f),ass,ats⟩,ty,pos,af,g⟩=true:=by rfl):
  Stp P b n ops F ds X ⟨d,.call ⟨.value (.func f),ass,ats⟩,ty,pos,af,g⟩ e h L K:=by
 unfold Stp
 rw[if_pos hg]
 intro w hw
 have harr:ass.map e.ev=vs.toArray:=Array.ext' (by simp[←hvs])
 have hr:(execOp e.ev ⟨d,.call ⟨.value (.func f),ass,ats⟩,ty,pos,af,g⟩).run P w=.ok (.enter f vs.toArray) w:=by
  simp[execOp,resolve,Env.ev,Deferred.ofValue,invoke,harr,hc]
 rw[hr]
 refine mm (by simp) (kw (rL.mono (hs w (hw.sub (List.nil_sublist _)).pre) ?_))
 rintro x w' ⟨h',B,hst,xs,bb,c,hS,rfl,hG⟩
 exact⟨h',_,(St.after (A:=[]) (F:=L) hw hst).perm vJ,t' h' xs bb c B hst.le hS hG⟩
end steps
theorem Er(h:HF)(it:Value)(S:List Int->Prop)(hit:GJ prog it (λ(k:Int)(_:HF)(vs:List Value)=>vs=[kC .i64 k]) S h)(hS:∀xs,S xs->xs.length<=1000000000000):Lg prog 315 [.slice none 0 0,it] h kB 3 S:=by
 refine cZ func315 rfl ntmps315 rfl λX hM hX=>?_
 refine el (bE (cz (λb1=>gG (aJ (el (el (bE (av (aJ (mA (?_)))))))))))
 refine HJ (it:=it) (S:=S) (ps:=[7])
  (λdone h' L'=>∃gb gc G,L'=[(b1,zJ (jB [.slice gb done.length gc]) 31 (0,0))]++G/\dC kB 3 h' done gb gc G)
  (λ_ _ _=>False) (λ_ _ _=>False) rfl hit rfl (λx h' vs hv=>by rw[hv];rfl) ?_ (λ_ _ _ _ _ hf=>hf) (λ_ _ _ _ _ hf=>hf) ⟨none,0,[],rfl,dC.nil⟩ ?_ ?_ (λ_ _ _ _ _ hf=>hf.elim) (λ_ _ _ _ _ hf=>hf.elim)
 .rintro done h1 h2 B hl ⟨gb,gc,G,rfl,hG⟩;exact⟨gb,gc,G,rfl,hG.mono jH hl⟩
 .rintro l1 r1 lp1 done y vs hr L' X' ⟨rest,hrest⟩ hle ⟨gb,gc,G,rfl,hG⟩ hv hlp hX' hXM
  obtain rfl:=hv
  have hlen:=hS _ hrest
  simp only[jA,xA]at hlen
  refine bE (gG (aJ ?_))
  refine kc 0 rfl hlp (mA (bE ?_))
  refine oo 2 ty31 rfl rfl rfl (av ?_)
  refine aB (bB (cells:=[.int .i64 y]) ej ty3 zc3 rfl rfl (by kernel_rfl) (λb3=>?_))
  refine aB (dy Rp.iI ([(b3,zJ (jB [.int .i64 y]) 3 (0,0)),(l1,.loop { lp1 with state:=.busy }),(r1,.deferred (some [])),(b1,zJ (jB [.slice gb done.length gc]) 31 (0,0))]) [] (λG=>[(b3,zJ (jB [.int .i64 y]) 3 (0,0)),(l1,.loop { lp1 with state:=.busy }),(r1,.deferred (some [])),(b1,zJ (jB [.slice gb done.length gc]) 31 (0,0))]++G) (G:=G) (show _=[(b3,zJ (jB [.int .i64 y]) 3 (0,0)),(l1,.loop { lp1 with state:=.busy }),(r1,.deferred (some [])),(b1,zJ (jB [.slice gb done.length gc]) 31 (0,0))]++(G++[])from by rw[List.append_nil];rfl) (λ_=>by first|rfl|simp only[zG]) ej ty3 zc3 rfl bytes3 hG rfl rfl (eF (ys:=[y]) 0 rfl (show bI kB hr [.int .i64 y] [y]from⟨[.int .i64 y],[],rfl,rfl,rfl,rfl⟩)) (by simp only[jA,xA,vB];omega) (by simp only[jA,xA,vB];omega) (λob2 oc2 G2 gr2=>?_))
  refine cM 3 ty31 rfl rfl rfl rfl rfl rfl (aJ (fe ?_))
  refine aX (L':=(l1,.loop { lp1 with state:=.busy })::(r1,.deferred (some []))::([(b1,zJ (jB [.slice ob2 (done++[y]).length oc2]) 31 (0,0))]++G2)) (.cons _ (List.Sublist.refl _)) ?_
  exact IJ rfl ⟨ob2,oc2,G2,rfl,gr2⟩
 .rintro r1 xs h2 L' hxs hle ⟨gb,gc,G,rfl,hG⟩
  refine fe (el (bE (oo 1 ty31 rfl rfl rfl (gG (aJ ?_)))))
  refine mb (L':=([(b1,zJ (jB [.slice gb xs.length gc]) 31 (0,0))]++G)++markB [r1]) (List.perm_append_singleton _ _).symm ?_
  exact vh [r1] func315 (λa ha w hw=>res1 rfl a ha w) (λw hw=>hw.sub (L':=G) (List.sublist_append_right _ _)) ⟨xs,gb,gc,hxs,rfl,hG⟩
theorem Hz(h:HF)(it:Value)(S:List Int->Prop)(hit:GJ prog it (λ(k:Int)(_:HF)(vs:List Value)=>vs=[kC .i64 k]) S h)(hS:∀xs,S xs->xs.length<=1000000000000):Lg prog 261 [it] h kB 3 S:=by
 refine cZ func261 rfl ntmps261 rfl λX hM hX=>?_
 refine el (bE (gG (aJ (el (bE (av ?_))))))
 refine aB (BH call315 (Er h it S hit hS) rfl (λh' xs bb c G hle hxs hG=>?_))
 refine gG (aJ ?_)
 exact qe func261 (λa ha w hw=>res1 rfl a ha w) (λw hw=>hw.sub (L':=G) (List.sublist_append_right _ _)) ⟨xs,bb,c,hxs,rfl,hG⟩
theorem Dm(h:HF)(it:Value)(S:List OSeat->Prop)(hit:GJ prog it (λ(k:OSeat)(_:HF)(vs:List Value)=>vs=[aAs k]) S h)(hS:∀xs,S xs->xs.length<=1000000000000):Lg prog 321 [.slice none 0 0,it] h aCb 182 S:=by
 refine cZ func321 rfl ntmps321 rfl λX hM hX=>?_
 refine el (bE (cz (λb1=>gG (aJ (el (el (bE (av (aJ (mA (?_)))))))))))
 refine HJ (it:=it) (S:=S) (ps:=[7])
  (λdone h' L'=>∃gb gc G,L'=[(b1,zJ (jB [.slice gb done.length gc]) 249 (0,0))]++G/\dC aCb 182 h' done gb gc G)
  (λ_ _ _=>False) (λ_ _ _=>False) rfl hit rfl (λx h' vs hv=>by rw[hv];rfl) ?_ (λ_ _ _ _ _ hf=>hf) (λ_ _ _ _ _ hf=>hf) ⟨none,0,[],rfl,dC.nil⟩ ?_ ?_ (λ_ _ _ _ _ hf=>hf.elim) (λ_ _ _ _ _ hf=>hf.elim)
 .rintro done h1 h2 B hl ⟨gb,gc,G,rfl,hG⟩;exact⟨gb,gc,G,rfl,hG.mono OSeat.ai hl⟩
 .rintro l1 r1 lp1 done y vs hr L' X' ⟨rest,hrest⟩ hle ⟨gb,gc,G,rfl,hG⟩ hv hlp hX' hXM
  obtain rfl:=hv
  have hlen:=hS _ hrest
  simp only[jA,xA]at hlen
  refine bE (aT zc182 (λb2=>aL 0 ty182 rfl rfl rfl rfl rfl rfl (aJ ?_)))
  refine kc 1 rfl hlp (mA (bE ?_))
  refine oo 3 ty249 rfl rfl rfl (cI 0 ty182 rfl rfl rfl ?_)
  refine aB (bB (cells:=[.int .i64 y.office,.int .i64 y.person]) QV ty182 zc182 rfl rfl (by kernel_rfl) (λb3=>?_))
  refine aB (dy OSeat.em ([(b3,zJ (jB [.int .i64 y.office,.int .i64 y.person]) 182 (0,0)),(b2,zJ (jE y).toArray 182 (0,0)),(l1,.loop { lp1 with state:=.busy }),(r1,.deferred (some [])),(b1,zJ (jB [.slice gb done.length gc]) 249 (0,0))]) [] (λG=>[(b3,zJ (jB [.int .i64 y.office,.int .i64 y.person]) 182 (0,0)),(b2,zJ (jE y).toArray 182 (0,0)),(l1,.loop { lp1 with state:=.busy }),(r1,.deferred (some [])),(b1,zJ (jB [.slice gb done.length gc]) 249 (0,0))]++G) (G:=G) (show _=[(b3,zJ (jB [.int .i64 y.office,.int .i64 y.person]) 182 (0,0)),(b2,zJ (jE y).toArray 182 (0,0)),(l1,.loop { lp1 with state:=.busy }),(r1,.deferred (some [])),(b1,zJ (jB [.slice gb done.length gc]) 249 (0,0))]++(G++[])from by rw[List.append_nil];rfl) (λ_=>by first|rfl|simp only[zG]) QV ty182 zc182 rfl bytes182 hG rfl rfl (eF (ys:=[y]) 0 rfl (show bI aCb hr [.int .i64 y.office,.int .i64 y.person] [y]from⟨[.int .i64 y.office,.int .i64 y.person],[],rfl,rfl,rfl,rfl⟩)) (by simp only[jA,xA,vB];omega) (by simp only[jA,xA,vB];omega) (λob2 oc2 G2 gr2=>?_))
  refine cM 4 ty249 rfl rfl rfl rfl rfl rfl (aJ (fe ?_))
  refine aX (L':=(l1,.loop { lp1 with state:=.busy })::(r1,.deferred (some []))::([(b1,zJ (jB [.slice ob2 (done++[y]).length oc2]) 249 (0,0))]++G2)) (.cons _ (.cons _ (List.Sublist.refl _))) ?_
  exact IJ rfl ⟨ob2,oc2,G2,rfl,gr2⟩
 .rintro r1 xs h2 L' hxs hle ⟨gb,gc,G,rfl,hG⟩
  refine fe (el (bE (oo 1 ty249 rfl rfl rfl (gG (aJ ?_)))))
  refine mb (L':=([(b1,zJ (jB [.slice gb xs.length gc]) 249 (0,0))]++G)++markB [r1]) (List.perm_append_singleton _ _).symm ?_
  exact vh [r1] func321 (λa ha w hw=>res1 rfl a ha w) (λw hw=>hw.sub (L':=G) (List.sublist_append_right _ _)) ⟨xs,gb,gc,hxs,rfl,hG⟩
theorem GN(h:HF)(it:Value)(S:List OSeat->Prop)(hit:GJ prog it (λ(k:OSeat)(_:HF)(vs:List Value)=>vs=[aAs k]) S h)(hS:∀xs,S xs->xs.length<=1000000000000):Lg prog 273 [it] h aCb 182 S:=by
 refine cZ func273 rfl ntmps273 rfl λX hM hX=>?_
 refine el (bE (gG (aJ (el (bE (av ?_))))))
 refine aB (BH call321 (Dm h it S hit hS) rfl (λh' xs bb c G hle hxs hG=>?_))
 refine gG (aJ ?_)
 exact qe func273 (λa ha w hw=>res1 rfl a ha w) (λw hw=>hw.sub (L':=G) (List.sublist_append_right _ _)) ⟨xs,bb,c,hxs,rfl,hG⟩
end Go.Sg

namespace Go.Sg
open Go.Proofs Go.Proofs.Tryz
theorem zu(h:HF)(it:Value)(ks:List Int)(hit:GJ prog it (λ(k:Int)(_:HF)(vs:List Value)=>vs=[kC .i64 k]) (λxs=>xs.Perm ks) h)(hk:ks.length<=1000000000000):
  jv prog 168 [it] h (λv h'=>∃(b:Option Addr)(c:Nat),v=.slice b (sortI ks).length c/\SlC kB h' b c (sortI ks)):=by
 refine cZ func168 rfl ntmps168 rfl λX hM hX=>?_
 refine el (bE (gG (aJ (el (bE (av ?_))))))
 refine aB (BH call261 (Hz h it _ hit (λxs hx=>by rw[hx.length_eq];exact hk)) rfl (λh' xs bb c G hle hxs hG=>?_))
 refine gG (aJ (el (bE (av ?_))))
 refine aB (nw [] G [] On (mS h' xs bb c G hG (by rw[hxs.length_eq];exact hk)) (by simp) rfl (λG' hG'=>?_))
 refine aJ (el (bE (av (gG (aJ ?_)))))
 refine eK jH [] G' [] (by simp) hM hG' (λh2 hle2 sl=>?_)
 refine kX [.slice bb xs.length c] func168 rfl ⟨rfl,trivial⟩ ⟨bb,c,?_,?_⟩
 .rw[←JM hxs,jc];rfl
 .rw[←JM hxs];exact sl
theorem yn(h:HF)(m:List (Int×Version))(LJ:Nat)(hm:tA (kC .i64) (jf jN) h LJ m):jv prog 169 [.map (some LJ)] h (λv h'=>GJ prog v (λ(k:Int)(_:HF)(vs:List Value)=>vs=[(kC .i64) k]) (λxs=>xs.Perm (m.map (·.1))) h'):=by
 refine cZ func169 rfl ntmps169 rfl λX hM hX=>?_
 refine el (bE (cz (λb1=>gG (aJ (el (bE ?_))))))
 refine aU 0 rfl hM (λh2 hle2 hb2=>?_)
 refine aB (eL rfl rfl ?_)
 refine gG (aJ ?_)
 refine kX [.func (.func 262) #[] #[.pointer (some ⟨b1,0,none⟩)]] func169 rfl ⟨rfl,trivial⟩ ?_
 exact vu h2 m LJ ⟨b1,0,none⟩ (hm.mono (jf.mono jM) hle2) (cL hb2)
theorem yo(h:HF)(m:List (OSeat×Appoint))(LJ:Nat)(hm:tA aAs (jf kG) h LJ m):jv prog 180 [.map (some LJ)] h (λv h'=>GJ prog v (λ(k:OSeat)(_:HF)(vs:List Value)=>vs=[aAs k]) (λxs=>xs.Perm (m.map (·.1))) h'):=by
 refine cZ func180 rfl ntmps180 rfl λX hM hX=>?_
 refine el (bE (cz (λb1=>gG (aJ (el (bE ?_))))))
 refine aU 0 rfl hM (λh2 hle2 hb2=>?_)
 refine aB (eL rfl rfl ?_)
 refine gG (aJ ?_)
 refine kX [.func (.func 275) #[] #[.pointer (some ⟨b1,0,none⟩)]] func180 rfl ⟨rfl,trivial⟩ ?_
 exact vv h2 m LJ ⟨b1,0,none⟩ (hm.mono (jf.mono kP) hle2) (cL hb2)
end Go.Sg

namespace Go.Sg
open Go.Proofs Go.Proofs.Tryz
set_option maxHeartbeats 2000000
theorem w4(h:HF)(l:List Interest)(eu:Option Addr)(et:Nat)(iw:Int)(known:Int)(hl:SlC kL h eu et l):jv prog 113 [.slice eu l.length et,I iw,I known] h (λv h'=>∃(rv0:Value),v=rv0/\Itr prog rv0 vz (bQ l iw known) h'):=by
 refine sT func113 U ntmps113 U λX hM hX hF=>?_
 have hs0:bQ l iw known=bQ l iw known:=rfl
 refine sr (cz (λb1=>qO 4 U (aB (oB (λb2=>aT zc282 (λb3=>cM 0 ty282 U U U U U U (qL 8 [2] U ?_)))))))
 let z1:Nat×Obj:=(b1,O [.slice eu l.length et] 24)
 let z2:Nat×Obj:=(b3,O [.map (some b2)] 282)
 refine lp2 l (λi w=>[(1,I iw),(2,I known),(3,Q b1),(7,Q b3),(14,.slice eu l.length et),(15,I (l.length:Int)),(16,I (i:Int))]) (λ_=>h) (λw=>[z2,(b2,w.2),z1]) (λi w=>j8 dp.enc (jf kL) h w.2 w.1/\w.1.length<=0+i) (λs1 i w=>(bQ.L1 iw known (bQ.K1 l)) s1 w.1) ([],.map #[] 0) hl.1.1 hs0 ⟨(j8.nil (enc:=dp.enc) (V:=(jf kL)) (h:=h)),lc⟩ ?_ ?_
 .rintro i1 ⟨bV,ec⟩ ft hs1 ⟨gK,Ge⟩ e
  refine sr (aU 2 U hM (λh1 hle1 hb1=>aU 0 U hM (λh2 hle2 hb2=>aB (eL U U (an (eW 0 U hM (λh3 hle3 hb3=>?_)))))))
  have mc1:tA dp.enc (jf kL) h3 b2 bV:=⟨_,hb3,(gK.mono (jf.mono aAj) (hle1.t hle2)).mono (jf.mono aAj) hle3⟩
  have hs2:bQ l iw known=(bG l bV):=hs1
  exact nretH [.func (.func 208) #[] #[Q b1,Q b3]] ⟨(.func (.func 208) #[] #[Q b1,Q b3]),congrArg (λr:List Interest=>((.func (.func 208) #[] #[Q b1,Q b3]):Value)) hs2.symm,(by rw[hs2];exact(uT h3 l eu et ⟨b1,0,none⟩ bV b2 ⟨b3,0,none⟩ (hl.mono aAj ((hle1.t hle2).t hle3)) ((cL hb1).mono (hle2.t hle3)) mc1 ((cL hb2).mono hle3)))⟩
 rintro i1 ⟨bV,ec⟩ y1 rz1 hd1 df aS dZ gy hs3 ⟨gK,Ge⟩ hx1 ag1 e
 refine sr (tO df U (qO 8 U (aB (iF zD sC ty97 hl.1 aS U U U (λq2 A2=>dq ty97 A2 U U (aT zc97 (λb5=>aL 0 ty97 U U U U U U (qL 9 [0] U (ce 5 [24,25,26,27,28,29] 24 29 (decide (known<y1.Known)) U (λc1 hk1=>?_) (λe=>?_))))))))))
 .exact qL 5 [0] U (hk1 _ U)
 refine aJ (ae hs3 U (λc2 hs4=>?_) (λc2 hs5=>?_))
 .exact md U (bE (oi i1 U (qO 2 U (aX (L':=[z2,(b2,ec),z1]) js (ag1 (bV,ec) hs4 ⟨gK,lc⟩)))))
 refine qK 9 [0,0,0] U (aB (fV (cells:=[I y1.Person,I y1.Party,.bool y1.Of]) (places:=[(0,1),(1,1),(2,1)]) Mu zc284 kr kr (aT zc284 (λb6=>aL 0 ty284 U U U U U U (qL 4 [2] U (cI 0 ty284 U U U (aB (lN 3 (k:=(dp.mk y1.Person y1.Party y1.Of)) underlying282 uw U gK (fw zv97) (show(jf kL) _ (.agg (jB [I 0,I 0,I 0,I 0,I 0,.bool false,.bool false])) (zV 0 0 0 0 0 false false)from⟨_,U,U⟩) U U (λv1 hv1=>?_)))))))))
 obtain⟨_,rfl,rfl⟩:=hv1
 refine qO 3 U (aT zc97 (λb7=>aL 0 ty97 U U U U U U (qO 7 U (ce 6 [45,46,47,48,49,50,51] 45 51 (decide ((mgetD bV (dp.mk y1.Person y1.Party y1.Of) (zV 0 0 0 0 0 false false)).At<=y1.At)) U (λc3 hk2=>?_) (λe=>?_)))))
 .exact qL 6 [2,0] U (hk2 _ U)
 refine aJ (ae hs5 U (λc4 hs6=>?_) (λc4 hs7=>?_))
 .exact qK 2 [3] U (cI 1 ty284 U U U (cI 2 ty97 U U U (aB (lg 4 (k:=(dp.mk y1.Person y1.Party y1.Of)) (x:=y1) underlying282 uw U gK U U ⟨_,U,U⟩ (λmo1 hm1=>qO 3 U (oi i1 U (qO 2 U (aX (L':=[z2,(b2,mo1),z1]) js (ag1 ((mput bV (dp.mk y1.Person y1.Party y1.Of) y1),mo1) hs6 ⟨hm1,(by have:=m9 bV (dp.mk y1.Person y1.Party y1.Of) y1;first|omega|(simp only[vB,xA]at *;omega))⟩)))))))))
 exact aI (qT 2 U (oi i1 U (qO 2 U (aX (L':=[z2,(b2,ec),z1]) js (ag1 (bV,ec) hs7 ⟨gK,lc⟩)))))
theorem ve.mono{h h':HF}(hl:h.le h'):∀{vs:List Value}{ws:List gU},ve h vs ws->ve h' vs ws
 |[],[],_=>trivial
 |_::_,_::_,⟨⟨r,e,o⟩,t⟩=>⟨⟨r,e,o.mono hl⟩,ve.mono hl t⟩
 |[],_::_,x=>x.elim
 |_::_,[],x=>x.elim
theorem ve.snoc{h:HF}{v:Value}{w:gU}(hw:∃r,v=.agg (gU.cells w r).toArray/\gU.ok h w r):∀{vs:List Value}{ws:List gU},ve h vs ws->ve h (vs++[v]) (ws++[w])
 |[],[],_=>⟨hw,trivial⟩
 |_::_,_::_,⟨a,t⟩=>⟨a,ve.snoc hw t⟩
 |[],_::_,x=>x.elim
 |_::_,[],x=>x.elim
theorem ve.len{h:HF}:∀{vs:List Value}{ws:List gU},ve h vs ws->vs.length=ws.length
 |[],[],_=>rfl
 |_::_,_::_,⟨_,t⟩=>by simp[ve.len t]
 |[],_::_,x=>x.elim
 |_::_,[],x=>x.elim
theorem mE(h:HF)(w:gU)(RL:Nl)(q1 q2:Addr)(bm bc:Nat)(om:Obj)(m:List (Int×Bool))(cap s r:Nat)(vs:List Value)(q:List gU)(hw:gU.ok h w RL)(a1:At h q1 [.map (some bm)])(a2:At h q2 [.chan (some bc)])(hm:j8 (kC .i64) qb h om m)(hq:ve h vs q)(hroom:mgetD m w.to false=false->vs.length<cap):
  mM prog (.func (.func 112) #[] #[.pointer (some q1),.pointer (some q2)]) #[.agg (gU.cells w RL).toArray] h [(bm,om),(bc,.chan cap vs.toArray false s r false)]
   (λx h' B=>x=.returned (.tuple #[])/\h'=h/\∃om' vs' s',j8 (kC .i64) qb h om' (conPut w m q).1/\ve h vs' (conPut w m q).2/\B=[(bm,om'),(bc,.chan cap vs'.toArray false s' r false)]):=by
 refine nu (args:=[.agg (gU.cells w RL).toArray]) (cap:=[.pointer (some q1),.pointer (some q2)]) call112 (cZ func112 U ntmps112 U λX hM hX=>sr (cz (λb1=>qO 3 U (dB ty56 a1 U (qL 2 [0] U (aB (qz 1 (k:=w.to) Om (fZ oe) U hm (fw zv4) (show qb _ (.bool false) false from U) U U (λv hv=>?_))))))))
 obtain rfl:=hv
 cases hc:mgetD m w.to false with
 |true=>
  refine qO 4 U ?_
  have e1:conPut w m q=(m,q):=by simp[conPut,hc]
  refine xk func112 (λa ha w hw=>mC U a w) (λw hw=>(hw.sub (L':=[(bm,om),(bc,.chan cap vs.toArray false s r false)]) js).lower) ⟨U,hX,om,vs,s,?_,?_,U⟩
  .rw[e1];exact hm
  rw[e1];exact hq
 |false=>
  refine qO 3 U ?_
  have e1:conPut w m q=(mput m w.to true,q++[w]):=by simp[conPut,hc]
  refine sr (dB ty56 a1 U (qL 2 [0] U (aB (lg 1 (k:=w.to) (x:=true) Om (fZ oe) U hm U U U (λom' hm'=>qO 2 U (dB ty194 a2 U (cI 0 ty196 U U U (Rs 2 U U U (hroom hc) (aJ ?_)))))))))
  refine xk func112 (λa ha w hw=>mC U a w) (λww hww=>(hww.sub (L':=[(bm,om'),(bc,.chan cap (vs++[Value.agg (gU.cells w RL).toArray]).toArray false (s+1) r false)]) js).lower) ⟨U,hX,om',vs++[.agg (gU.cells w RL).toArray],s+1,?_,?_,U⟩
  .rw[e1];exact hm'
  rw[e1];exact ve.snoc ⟨RL,rfl,hw⟩ hq
theorem V3.mono:Ay V3:=λ_ _ _ _ _ e=>e
theorem FR.mono{h h':HF}(hl:h.le h'):∀{m:List (Int×Option Addr×Nat×Nat)}{f:List (Int×List Interest)}{G:LH},FR h m f G->FR h' m f G
 |[],[],_,e=>e
 |(_,_)::_,(_,_)::_,_,⟨a,b,G1,G2,c,d,t⟩=>⟨a,b,G1,G2,c,d.mono aAj hl,FR.mono hl t⟩
 |[],(_,_)::_,_,x=>x.elim
 |(_,_)::_,[],_,x=>x.elim
theorem FR.get{h:HF}(k:Int):∀{m:List (Int×Option Addr×Nat×Nat)}{f:List (Int×List Interest)}{G:LH},FR h m f G ->
  ∃b c G1 G2,mgetD m k (none,0,0)=(b,(mgetD f k []).length,c)/\dC kL 97 h (mgetD f k []) b c G1/\G.Perm (G1++G2) /\
   ∀b' c' xs' G1',dC kL 97 h xs' b' c' G1'->∃G',FR h (mput m k (b',xs'.length,c')) (mput f k xs') G'/\G'.Perm (G1'++G2)
 |[],[],G,e=>by
  subst e
  refine⟨none,0,[],[],U,dC.nil,List.Perm.refl _,λb' c' xs' G1' hG=>⟨G1',⟨U,U,G1',[],by simp,hG,U⟩,by simp⟩⟩
 |(k0,x)::m,(k',xs)::f,G,⟨e,hn,G1,G2,hG,hg,t⟩=>by
  subst e hG
  by_cases hk:k=k0
  .subst hk
   refine⟨x.1,x.2.2,G1,G2,?_,?_,List.Perm.refl _,λb' c' xs' G1' hG'=>⟨G1'++G2,?_,List.Perm.refl _⟩⟩
   .simp[mgetD,mget?,←hn]
   .simpa[mgetD,mget?]using hg
   simp only[mput,if_true]
   exact⟨U,U,G1',G2,U,hG',t⟩
  obtain⟨b,c,H1,H2,h1,h2,h3,h4⟩:=FR.get k t
  refine⟨b,c,H1,G1++H2,?_,?_,?_,λb' c' xs' G1' hG'=>?_⟩
  .simpa[mgetD,mget?,hk]using h1
  .simpa[mgetD,mget?,hk]using h2
  .refine(List.Perm.append_left G1 h3).trans ?_
   rw[←kD,←kD];exact List.Perm.append_right H2 vJ
  obtain⟨G',g1,g2⟩:=h4 b' c' xs' G1' hG'
  refine⟨G1++G',?_,?_⟩
  .simp only[mput,hk,if_false]
   exact⟨U,hn,G1,G',U,hg,g1⟩
  refine(List.Perm.append_left G1 g2).trans ?_
  rw[←kD,←kD];exact List.Perm.append_right H2 vJ
 |[],(_,_)::_,_,x=>x.elim
 |(_,_)::_,[],_,x=>x.elim
theorem FR.keys{h:HF}:∀{m:List (Int×Option Addr×Nat×Nat)}{f:List (Int×List Interest)}{G:LH},FR h m f G->m.map (·.1)=f.map (·.1)
 |[],[],_,_=>rfl
 |(_,_)::_,(_,_)::_,_,⟨a,_,_,_,_,_,t⟩=>by simp[a,FR.keys t]
 |[],(_,_)::_,_,x=>x.elim
 |(_,_)::_,[],_,x=>x.elim
theorem FR.mem{h:HF}:∀{m:List (Int×Option Addr×Nat×Nat)}{f:List (Int×List Interest)}{G:LH},FR h m f G->(m.map (·.1)).Nodup->∀p∈m,p.2.2.1=(mgetD f p.1 []).length/\∃G1,(∀q∈G1,q∈G)/\dC kL 97 h (mgetD f p.1 []) p.2.1 p.2.2.2 G1
 |[],[],_,_,_,_,hp=>(kA hp).elim
 |(k,x)::m,(k',xs)::f,G,⟨e,hn,G1,G2,hG,hg,t⟩,hnd,p,hp=>by
  subst e hG
  rw[xK,kR]at hnd
  rcases qC.1 hp with rfl|hp
  .exact⟨by simp[mgetD,mget?,hn],G1,λq hq=>aAl _ hq,by simpa[mgetD,mget?]using hg⟩
  have hne:¬p.1=k:=λe=>hnd.1 (by have h9:=kM (f:=(·.1)) hp;rw[e]at h9;exact h9)
  obtain⟨h1,H,h2,h3⟩:=FR.mem t hnd.2 p hp
  exact⟨by simpa[mgetD,mget?,hne]using h1,H,λq hq=>zM _ (h2 q hq),by simpa[mgetD,mget?,hne]using h3⟩
 |[],(_,_)::_,_,x,_,_,_=>x.elim
 |(_,_)::_,[],_,x,_,_,_=>x.elim
theorem Kq{α : Type}:∀{f:List (Int×α)}(z:α),(f.map (·.1)).Nodup->f=f.map λp=>(p.1,mgetD f p.1 z)
 |[],_,_=>rfl
 |(k,x)::f,z,hn=>by
  rw[xK,kR]at hn
  rw[xK]
  congr 1
  .simp[mgetD,mget?]
  have ih:=Kq z hn.2
  conv=>lhs;rw[ih]
  apply List.map_congr_left
  intro p hp
  have hne:¬p.1=k:=λe=>hn.1 (by have h9:=kM (f:=(·.1)) hp;rw[e]at h9;exact h9)
  simp[mgetD,mget?,hne]
theorem Lm{h:HF}{h2:HF}(g:Int->List Interest):∀{es:List MapEntry}{m:List (Int×Option Addr×Nat×Nat)},pM (kC .i64) V3 h es m ->
  (∀p∈m,p.2.2.1=(g p.1).length/\SlC kL h2 p.2.1 p.2.2.2 (g p.1))->pM (kC .i64) (VSl kL) h2 es (m.map λp=>(p.1,g p.1))
 |[],[],_,_=>trivial
 |e::es,(k,x)::m,⟨a,b,c⟩,hg=>by
  obtain⟨h1,h3⟩:=hg (k,x) (zB ..)
  refine⟨a,⟨x.1,x.2.2,?_,h3⟩,Lm g c λp hp=>hg p (vA _ hp)⟩
  rw[show e.val=.slice x.1 x.2.1 x.2.2 from b,h1]
 |[],_::_,x,_=>x.elim
 |_::_,[],x,_=>x.elim
theorem FR.frozen{h h2:HF}{o:Obj}{m:List (Int×Option Addr×Nat×Nat)}{f:List (Int×List Interest)}{G:LH}(hm:j8 (kC .i64) V3 h o m)(hf:FR h m f G)(hl:h.le h2)(hG:∀p∈G,h2 p.1=some p.2):
  j8 (kC .i64) (VSl kL) h2 o f:=by
 have hnd:=hm.nodup
 have hk:=hf.keys
 obtain⟨m',hp,hn,es,c,rfl,hE,h1,h3⟩:=hm
 have hmem:=hf.mem hnd
 have hfe:=Kq (f:=f) [] (hk▸hnd)
 have hfm:f=m.map λp=>(p.1,mgetD f p.1 []):=by
  have e1:(f.map λp=>(p.1,mgetD f p.1 []))=(f.map (·.1)).map λk=>(k,mgetD f k []):=by rw[List.map_map];rfl
  have e2:(m.map λp=>(p.1,mgetD f p.1 []))=(m.map (·.1)).map λk=>(k,mgetD f k []):=by rw[List.map_map];rfl
  rw[e2,hk,←e1];exact hfe
 refine⟨m'.map λp=>(p.1,mgetD f p.1 []),?_,?_,es,c,U,Lm (λk=>mgetD f k []) hE λp hp'=>?_,h1,h3⟩
 .have hpm:=hp.map λp=>(p.1,mgetD f p.1 ([]:List Interest))
  rw[←hfm]at hpm;exact hpm
 .rw[List.map_map];exact hn
 obtain⟨h5,G1,h6,h7⟩:=hmem p (hp.mem_iff.1 hp')
 exact⟨h5,h7.frozen aAj hl λq hq=>hG q (h6 q hq)⟩
theorem Gr(k:Int->Int):∀(l:List Int)(g:Int),cK.L1 k l g=0->(∀x∈l,g<x/\x<=1048576)/\l.Pairwise (·<·)/\∃g',k g'=0
 |[],g,h=>⟨λ_ h=>(kA h).elim,List.Pairwise.nil,g,h⟩
 |y::l,g,h=>by
  simp only[cK.L1,Bool.cond_eq_ite,xD,decide_eq_true_eq]at h
  split at h
  .omega
  next hc=>
  obtain⟨h1,h2,h3⟩:=Gr k l y h
  refine⟨λx hx=>?_,List.pairwise_cons.2 ⟨λx hx=>(h1 x hx).1,h2⟩,h3⟩
  rcases qC.1 hx with rfl|hx
  .omega
  have:=h1 x hx;omega
theorem Ek{l:List Interest}{person:Int}{parties:List Int}{a b:Int}(h:cK l person parties a b=0):parties.Pairwise (·<=·)/\parties.length<=16:=by
 unfold cK at h
 rw[Bool.cond_eq_ite]at h
 split at h
 .next hc=>simp at hc;exact absurd h hc
 obtain⟨_,h2,g',h3⟩:=Gr _ _ _ h
 refine⟨h2.imp (λh=>Int.le_of_lt h),?_⟩
 unfold cK.K1 at h3
 rw[Bool.cond_eq_ite]at h3
 split at h3
 .omega
 next hc=>
 simp only[xD,not_or,decide_eq_true_eq]at hc
 omega
theorem sF(h:HF)(b:Option Addr)(n c:Nat)(hc:n<=c):Ret prog 115 [.slice b n c] h (.slice b n n):=by
 exact cZ func115 U ntmps115 U λX hM hX=>qK 11 [] U (aB (fK (Rl ej ty3 U U U hc) (an (tC [.slice b n n] func115 U hX rd U))))
theorem w5(h:HF)(l:List Interest)(eu:Option Addr)(et:Nat)(person:Int)(parties:List Int)(lL:Option Addr)(lK:Nat)(dt known:Int)(hl:SlC kL h eu et l)(hparties:SlC kB h lL lK parties)(hsz:l.length<=2000000):
  jv prog 31 [.slice eu l.length et,I person,.slice lL parties.length lK,I dt,I known] h
   (λv h'=>∃(rb0:Option Addr)(rc0:Nat),v=.tuple #[.slice rb0 ((eC l person parties dt known).1.length) rc0,.bool ((eC l person parties dt known).2.1),I ((eC l person parties dt known).2.2)]/\SlC kB h' rb0 rc0 ((eC l person parties dt known).1)):=by
 refine cZ Mo U ntmps31 U λX hM hX=>sr (cz (λb1=>qL 12 [0] U (aj (v:=I (cK l person parties dt known)) call111 (yt h l eu et person parties lL lK dt known hl hparties) U (qO 7 U (ky U (λc1=>?_) (λc1=>?_))))))
 .have e1:eC l person parties dt known=([],false,cK l person parties dt known):=by unfold eC;rw[c1];rfl
  exact sr (qO 5 U (kX [.slice none 0 0,.bool false,I (cK l person parties dt known)] Mo U rd ⟨none,0,by rw[e1];rfl,by rw[e1];exact qF⟩))
 have hex:cK l person parties dt known=0:=by simpa using c1
 obtain⟨hps,hpl⟩:=Ek hex
 have e1:eC l person parties dt known=((conFind l person parties (bQ l dt known)).1,(conFind l person parties (bQ l dt known)).2,0):=by unfold eC;rw[c1];rfl
 rw[e1]
 have hstl:=JJ l dt known
 generalize hst:bQ l dt known=st at hstl
 refine qT 3 U (aB (oB (λbf=>aT zc193 (λb14=>cM 0 ty193 U U U U U U (qO 3 U (aB (oB (λbm=>aT zc56 (λb15=>cM 0 ty56 U U U U U U (qL 5 [] U (aB (O0 underlying194 bytes196 U ob (by decide) (λbc=>aT zc194 (λb16=>cM 0 ty194 U U U U U U (qO 3 U (aB (eL U U (aT zc197 (λb17=>cM 0 ty197 U U U U U U (aJ (eW 0 U hM (λh1 l1 f17=>eW 0 U hM (λh2 l2 f16=>eW 1 U hM (λh3 l3 f15=>eW 2 U hM (λh4 l4 f14=>eW 3 U hM (λh5 l5 f1=>?_))))))))))))))))))))))))))
 have a17:=(cL f17).mono (l2.t (l3.t (l4.t l5)))
 have a16:=(cL f16).mono (l3.t (l4.t l5))
 have a15:=(cL f15).mono (l4.t l5)
 have a14:=(cL f14).mono l5
 have a1:=cL f1
 have l05:h.le h5:=zF l1 (l2.t (l3.t (l4.t l5)))
 clear f17 f16 f15 f14 f1 l1 l2 l3 l4 l5
 refine qT 6 U (aB (cT call113 (w4 h5 l eu et dt known (hl.mono aAj l05)) U (λv1 h6 l6 hp1=>?_)))
 obtain⟨_,rfl,hit⟩:=hp1
 rw[hst]at hit
 refine qO 2 U (ew ?_)
 refine kp (it:=v1) (xs:=st) (ι:=List (Int×List Interest)×List (Int×Bool)×List gU×List Value×Nat×Obj×List (Int×Option Addr×Nat×Nat)×Obj×LH×HF) [] (λi=>i.2.2.2.2.2.2.2.2.2)
  (λi=>[(bc,.chan l.length i.2.2.2.1.toArray false i.2.2.2.2.1 0 false),(bm,i.2.2.2.2.2.1),(bf,i.2.2.2.2.2.2.2.1)]++i.2.2.2.2.2.2.2.2.1)
  (λrest i=>(conFill person rest i.1 i.2.1 i.2.2.1=conFill person st [] [] []/\(∀x∈rest,x∈st))/\(ve i.2.2.2.2.2.2.2.2.2 i.2.2.2.1 i.2.2.1/\j8 (kC .i64) qb i.2.2.2.2.2.2.2.2.2 i.2.2.2.2.2.1 i.2.1/\j8 (kC .i64) V3 i.2.2.2.2.2.2.2.2.2 i.2.2.2.2.2.2.2.1 i.2.2.2.2.2.2.1/\FR i.2.2.2.2.2.2.2.2.2 i.2.2.2.2.2.2.1 i.1 i.2.2.2.2.2.2.2.2.1)/\(pL st i.2.1 i.2.2.1/\GK st i.1)/\h6.le i.2.2.2.2.2.2.2.2.2/\(∀k,(mgetD i.1 k []).length+rest.length<=l.length))
  (λ_=>False) (λ_=>False) 0 (λ_ _ _=>False) ([],[],[],[],0,.map #[] 0,[],.map #[] 0,[],h6) Mo rfl hit rfl C5 (λ_ _ _ _ _ hq=>hq) rfl rfl
  ⟨⟨rfl,λ_ hx=>hx⟩,⟨trivial,j8.nil,j8.nil,rfl⟩,⟨⟨λ_ hp=>(kA hp).elim,kF _,λ_ hp=>(kA hp).elim⟩,λ_ _ hx=>(kA hx).elim⟩,vQ _,λk=>by simp[mgetD,mget?];exact hstl⟩ ?_ ?_ (λ_ _ _ hF=>hF.elim) (λ_ _ _ hF=>hF.elim) (λ_ _ _ _ hF=>hF.elim)
 .rintro l1 r1 lp1 x rest vs1 ⟨f,m,q,vs,s,om,m3,o3,Gf,hh⟩ h7 X' hFR ⟨⟨hfill,hin⟩,⟨hwy,hmm,hm3,hfr⟩,⟨hgq,hgf⟩,h6h,hlen⟩ h67 hh7 hv hX' hXM hlp nx rt ex pn
  dsimp only at hfill hin hwy hmm hm3 hfr hgq hgf h6h hh7 hlen
  obtain rfl:=hv
  have hxst:x∈st:=hin x (zB ..)
  have hin':∀y∈rest,y∈st:=λy hy=>hin y (vA _ hy)
  have h57:h5.le h7:=zF l6 h67
  replace hwy:=hwy.mono hh7
  replace hmm:=hmm.mono qb.mono hh7
  replace hm3:=hm3.mono V3.mono hh7
  replace hfr:=hfr.mono hh7
  have h67':h6.le h7:=h67
  clear hh7 h6h
  refine bE (aT zc97 (λb18=>aL 0 ty97 U U U U U U (aJ (kc 1 U hlp (qT 2 U (cv (L':=[(b18,.cells (zD x).toArray 97 (0,0)),(l1,.loop { lp1 with state:=.busy }),(r1,.deferred (some [])),(bc,.chan l.length vs.toArray false s 0 false),(bm,om),(bf,o3)]++Gf) (by simp[markB,setNth]) (qK 6 [0] U (ky U (λcO=>?_) (λcO=>?_)))))))))
  .obtain⟨gb,gc,G1,G2,hget,hgrow,hperm,hput⟩:=hfr.get x.Person
   have hlx:=hlen x.Person
   simp only[xA]at hlx
   have hnext:conFill person rest (mput f x.Person (mgetD f x.Person []++[x])) m q=conFill person st [] [] []:=by
    rw[←hfill];simp[conFill,cO]
   have hlen':∀k,(mgetD (mput f x.Person (mgetD f x.Person []++[x])) k []).length+rest.length<=l.length:=λk=>by
    rw[AR]
    split
    .simp only[jA,xA,vB];omega
    have:=hlen k;simp only[xA]at this;omega
   have fin:∀(e':Env)(b8:Nat)(o8:Obj)(o3':Obj)(gb':Option Addr)(gc':Nat)(G1':LH),dC kL 97 h7 (mgetD f x.Person []++[x]) gb' gc' G1'->j8 (kC .i64) V3 h7 o3' (mput m3 x.Person (gb',(mgetD f x.Person []++[x]).length,gc')) ->
     TT prog (roundFrame l1 31) 111 [.inBlock 2,.inBlock 1] hFR e' [] X' h7 ([(b8,o8),(b18,.cells (zD x).toArray 97 (0,0)),(l1,.loop { lp1 with state:=.busy }),(r1,.deferred (some [])),(bc,.chan l.length vs.toArray false s 0 false),(bm,om),(bf,o3')]++(G2++G1')):=by
    intro e' b8 o8 o3' gb' gc' G1' hG' hm'
    obtain⟨G',hfr',hp'⟩:=hput gb' gc' _ G1' hG'
    exact fe (fe (aX (L':=[(l1,.loop { lp1 with state:=.busy }),(r1,.deferred (some [])),(bc,.chan l.length vs.toArray false s 0 false),(bm,om),(bf,o3')]++(G2++G1')) js (mb (L':=[(l1,.loop { lp1 with state:=.busy }),(r1,.deferred (some [])),(bc,.chan l.length vs.toArray false s 0 false),(bm,om),(bf,o3')]++G') (List.Perm.append_left _ (List.perm_append_comm.trans hp'.symm)) (cv (L':=rdH l1 r1 lp1 (([(bc,.chan l.length vs.toArray false s 0 false),(bm,om),(bf,o3')]++G')++markB [])) (by simp[markB]) (nx (mput f x.Person (mgetD f x.Person []++[x]),m,q,vs,s,om,mput m3 x.Person (gb',(mgetD f x.Person []++[x]).length,gc'),o3',G',h7) _ _ ⟨⟨hnext,hin'⟩,⟨hwy,hmm,hm',hfr'⟩,⟨hgq,hgf.put hxst⟩,h67',hlen'⟩ lf)))))
   have hJ:∀{L:LH},Jst h7 [(b18,.cells (zD x).toArray 97 (0,0))] h7 ((b18,.cells (zD x).toArray 97 (0,0))::L):=BX js
   have hJ2:∀{L:LH}{p:Nat×Obj},Jst h7 [(b18,.cells (zD x).toArray 97 (0,0))] h7 (p::(b18,.cells (zD x).toArray 97 (0,0))::L):=BX js
   refine eT [(b18,.cells (zD x).toArray 97 (0,0))] mixed kr hJ (λhsep _=>?_)
   refine jt 0 hsep hJ U U kr U (rh ty193 (a14.mono h57) U) (jt 1 hsep hJ U U kr U (λ_ _ _=>tQ M7 U) (jt 2 hsep hJ U U kr U (rj 0 ty3 U U U) (jt 3 hsep hJ U U kr U (rh ty193 (a14.mono h57) U) (jt 4 hsep hJ U U kr U (λ_ _ _=>tQ M7 U) (jt 5 hsep hJ U U kr U (rj 0 ty3 U U U) (jt 7 hsep hJ U U kr U (λ_ _ hj=>kg ty97 U (hj.nth (i:=0) U) U) ?_))))))
   refine og 6 8 kr U U ?_ ?_
   .refine qz 5 (k:=x.Person) Mn (fZ oe) U hm3 (fw zv24) (show V3 _ (.slice none 0 0) (none,0,0)from U) U U (λv hv=>?_)
    rw[hget]at hv
    obtain rfl:=hv
    exact⟨hJ,tn 8 U (bB (cells:=zD x) sC ty97 zc97 U U kr (λb8=>⟨hJ2,tn 9 U (E3 (List.Perm.append_left ([(b8,.cells (zD x).toArray 97 (0,0)),(b18,.cells (zD x).toArray 97 (0,0)),(l1,.loop { lp1 with state:=.busy }),(r1,.deferred (some [])),(bc,.chan l.length vs.toArray false s 0 false),(bm,om),(bf,o3)]:LH) hperm) (dy Interest.em [(b8,.cells (zD x).toArray 97 (0,0)),(b18,.cells (zD x).toArray 97 (0,0)),(l1,.loop { lp1 with state:=.busy }),(r1,.deferred (some [])),(bc,.chan l.length vs.toArray false s 0 false),(bm,om),(bf,o3)] G2 (λG=>[(b8,.cells (zD x).toArray 97 (0,0)),(b18,.cells (zD x).toArray 97 (0,0)),(l1,.loop { lp1 with state:=.busy }),(r1,.deferred (some [])),(bc,.chan l.length vs.toArray false s 0 false),(bm,om),(bf,o3)]++(G2++G)) U (λ_=>U) sC ty97 zc97 U bytes97 hgrow U U (eF 0 U (show bI kL h7 (zD x) [x]from⟨zD x,[],by simp,U,U,U⟩)) lo lo (λgb' gc' G1' hG'=>⟨hJ2,tn 10 U (lg 6 (k:=x.Person) (x:=(gb',(mgetD f x.Person []++[x]).length,gc')) Mn (fZ oe) U hm3 U U U (λo3' hm'=>⟨hJ2,aQ kr (fin _ b8 _ o3' gb' gc' G1' hG' hm')⟩))⟩)))⟩))⟩
   refine bB (cells:=zD x) sC ty97 zc97 U U kr (λb8=>⟨hJ2,tn 6 U (qz 6 (k:=x.Person) Mn (fZ oe) U hm3 (fw zv24) (show V3 _ (.slice none 0 0) (none,0,0)from U) U U (λv hv=>?_))⟩)
   rw[hget]at hv
   obtain rfl:=hv
   exact⟨hJ2,tn 9 U (E3 (List.Perm.append_left ([(b8,.cells (zD x).toArray 97 (0,0)),(b18,.cells (zD x).toArray 97 (0,0)),(l1,.loop { lp1 with state:=.busy }),(r1,.deferred (some [])),(bc,.chan l.length vs.toArray false s 0 false),(bm,om),(bf,o3)]:LH) hperm) (dy Interest.em [(b8,.cells (zD x).toArray 97 (0,0)),(b18,.cells (zD x).toArray 97 (0,0)),(l1,.loop { lp1 with state:=.busy }),(r1,.deferred (some [])),(bc,.chan l.length vs.toArray false s 0 false),(bm,om),(bf,o3)] G2 (λG=>[(b8,.cells (zD x).toArray 97 (0,0)),(b18,.cells (zD x).toArray 97 (0,0)),(l1,.loop { lp1 with state:=.busy }),(r1,.deferred (some [])),(bc,.chan l.length vs.toArray false s 0 false),(bm,om),(bf,o3)]++(G2++G)) U (λ_=>U) sC ty97 zc97 U bytes97 hgrow U U (eF 0 U (show bI kL h7 (zD x) [x]from⟨zD x,[],by simp,U,U,U⟩)) lo lo (λgb' gc' G1' hG'=>⟨hJ2,tn 10 U (lg 6 (k:=x.Person) (x:=(gb',(mgetD f x.Person []++[x]).length,gc')) Mn (fZ oe) U hm3 U U U (λo3' hm'=>⟨hJ2,aQ kr (fin _ b8 _ o3' gb' gc' G1' hG' hm')⟩))⟩)))⟩
  refine qK 4 [0] U (dB ty3 (a1.mono h57) U (qO 3 U ?_))
  have hlen':∀k,(mgetD f k []).length+rest.length<=l.length:=λk=>by have:=hlen k;simp only[xA]at this;omega
  refine ky U (λcP=>?_) (λcP=>?_)
  .have hnext:conFill person rest f (conPut ⟨[x.No],x.Party⟩ m q).1 (conPut ⟨[x.No],x.Party⟩ m q).2=conFill person st [] [] []:=by
    rw[←hfill];simp only[conFill,cO,cond_false,cP,cond_true]
   have hpty:(gU.mk [x.No] x.Party).to∈st.map (·.Party):=kM hxst
   refine bE (dB ty197 (a17.mono h57) U (qL 2 [0] U (aB (NA (cells:=[I x.No]) hXM ej ty3 zc3 U U kr (λb65 hb65=>ER 0 U hb65 (λh8 l8 f8=>?_))))))
   have sl8:SlC kB h8 (some ⟨b65,0,none⟩) 1 [x.No]:=bI.slB0 (T:=3) (fz:=(0,0)) (show bI kB h8 [I x.No] [x.No]from⟨[I x.No],[],rfl,rfl,rfl,rfl⟩) f8
   refine qL 2 [0] U (aB (fV (cells:=gU.cells ⟨[x.No],x.Party⟩ ⟨some ⟨b65,0,none⟩,1⟩) (places:=[(0,1),(1,1)]) underlying196 zc196 kr kr ?_))
   refine aB (ID (vs:=[.agg (gU.cells ⟨[x.No],x.Party⟩ ⟨some ⟨b65,0,none⟩,1⟩).toArray]) [(bm,om),(bc,.chan l.length vs.toArray false s 0 false)] ([(b18,.cells (zD x).toArray 97 (0,0)),(l1,.loop { lp1 with state:=.busy }),(r1,.deferred (some [])),(bf,o3)]++Gf) ?_
    (mE h8 ⟨[x.No],x.Party⟩ ⟨some ⟨b65,0,none⟩,1⟩ ⟨b15,0,none⟩ ⟨b16,0,none⟩ bm bc om m l.length s 0 vs q ⟨sl8⟩ (a15.mono (h57.t l8)) (a16.mono (h57.t l8)) (hmm.mono qb.mono l8) (hwy.mono l8) (λhno=>by rw[hwy.len];exact yJ hgq hmm.nodup hpty hstl hno)) rfl rfl (λB hB=>?_))
   .exact yX [(b18,.cells (zD x).toArray 97 (0,0)),(l1,.loop { lp1 with state:=.busy }),(r1,.deferred (some []))] ((bf,o3)::Gf) (bc,.chan l.length vs.toArray false s 0 false) (bm,om)
   obtain⟨om',vs',s',hm',hw',rfl⟩:=hB
   refine qO 3 U (aX (L':=[(bm,om'),(bc,.chan l.length vs'.toArray false s' 0 false)]++([(l1,.loop { lp1 with state:=.busy }),(r1,.deferred (some [])),(bf,o3)]++Gf)) js ?_)
   refine mb (L':=rdH l1 r1 lp1 (([(bc,.chan l.length vs'.toArray false s' 0 false),(bm,om'),(bf,o3)]++Gf)++markB [])) ?_ ?_
   .rw[show markB []=([]:LH)from rfl,List.append_nil]
    exact(yX [(l1,Obj.loop { lp1 with state:=.busy }),(r1,.deferred (some []))] ((bf,o3)::Gf) (bc,.chan l.length vs'.toArray false s' 0 false) (bm,om')).symm
   exact nx (f,(conPut ⟨[x.No],x.Party⟩ m q).1,(conPut ⟨[x.No],x.Party⟩ m q).2,vs',s',om',m3,o3,Gf,h8) _ _ ⟨⟨hnext,hin'⟩,⟨hw',hm',hm3.mono V3.mono l8,hfr.mono l8⟩,⟨oZ hgq hpty (by simp),hgf⟩,zF h67' l8,hlen'⟩ lf
  have hnext:conFill person rest f m q=conFill person st [] [] []:=by
   rw[←hfill];simp only[conFill,cO,cond_false,cP]
  exact aI (qT 2 U (aX (L':=[(l1,.loop { lp1 with state:=.busy }),(r1,.deferred (some [])),(bc,.chan l.length vs.toArray false s 0 false),(bm,om),(bf,o3)]++Gf) js (cv (L':=rdH l1 r1 lp1 (([(bc,.chan l.length vs.toArray false s 0 false),(bm,om),(bf,o3)]++Gf)++markB [])) (by simp[markB]) (nx (f,m,q,vs,s,om,m3,o3,Gf,h7) _ _ ⟨⟨hnext,hin'⟩,⟨hwy,hmm,hm3,hfr⟩,⟨hgq,hgf⟩,h67',hlen'⟩ lf))))
 rintro dm ⟨f,m0,q0,vs0,s0,om0,m3,o3,Gf,hh⟩ h7 ⟨⟨hfill,_⟩,⟨hwy,hmm,hm3,hfr⟩,⟨hgq,hgf⟩,h6h,hlen⟩ hh7 h67
 dsimp only at hfill hwy hmm hm3 hfr hgq hgf h6h hh7 hlen
 refine fe (eW 2 U hM (λh8 l8 f8=>EN [(bc,.chan l.length vs0.toArray false s0 0 false),(bm,om0)] Gf (markB [dm]) U hM (λh9 l9 hG9=>?_)))
 have h89:hh.le h9:=zF hh7 (l8.t l9)
 have hmF:j8 (kC .i64) (VSl kL) h9 o3 f:=FR.frozen hm3 hfr h89 hG9
 have hbf:h9 bf=some o3:=l9 _ _ f8
 have h59:h5.le h9:=zF l6 (h67.t (l8.t l9))
 replace a14:=a14.mono h59
 replace a15:=a15.mono h59
 replace a16:=a16.mono h59
 replace a17:=a17.mono h59
 have hpar:=(hparties.mono jH l05).mono jH h59
 have hcf:conFind l person parties st=conLoop parties f (l.length+1) m0 q0:=by
  unfold conFind;rw[←hfill];rfl
 have hwy0:=hwy.mono h89
 have hmm0:=hmm.mono qb.mono h89
 clear hwy hmm hm3 hfr hG9 l8 f8 h6h hh7 h67 hfill a1
 generalize hCF:conFind l person parties st=CF at hcf
 refine el ?_
 refine iX (ι:=List Value×Nat×Nat×Obj×HF) (λi=>[]) (λi=>i.2.2.2.2) (λi=>[(bc,.chan l.length i.1.toArray false i.2.1 i.2.2.1 false),(bm,i.2.2.2.1)]++markB [dm]) (λi=>CF=([],false)) ?_ (λhx=>?_)
 .rintro⟨vs,s,r,om,hh⟩ hc e
  exact sr (qO 4 U (qw [dm] [.slice none 0 0,.bool false,I 0] Mo U rd ⟨none,0,by rw[hc];rfl,by rw[hc];exact qF⟩))
 refine kY (ι:=Nat×List (Int×Bool)×List gU×List Value×Nat×Nat×Obj×HF) (λi=>[(2,.slice lL parties.length lK),(14,Q b14),(16,Q b16),(17,Q b17)]) (λi=>i.2.2.2.2.2.2.2)
  (λi=>[(bc,.chan l.length i.2.2.2.1.toArray false i.2.2.2.2.1 i.2.2.2.2.2.1 false),(bm,i.2.2.2.2.2.2.1)]++markB [dm])
  (λi=>CF=conLoop parties f i.1 i.2.1 i.2.2.1/\i.2.2.1.length+(l.length-i.2.1.length)<i.1/\ve i.2.2.2.2.2.2.2 i.2.2.2.1 i.2.2.1/\j8 (kC .i64) qb i.2.2.2.2.2.2.2 i.2.2.2.2.2.2.1 i.2.1/\pL st i.2.1 i.2.2.1/\h9.le i.2.2.2.2.2.2.2)
  (λi=>i.1) (l.length+1,m0,q0,vs0,s0,0,om0,h9) rd (λw hw=>hw) ⟨hcf,?_,hwy0,hmm0,hgq,vQ _⟩ ?_
 .show q0.length+(l.length-m0.length)<l.length+1
  have:=hgq.2.1;have:=Pk hgq hmm0.nodup;omega
 clear hcf hwy0 hmm0 hgq
 rintro⟨n,m,q,vs,s,r,om,hh⟩ ⟨hcf,hn,hwy,hmm,hgq,h9h⟩ ag e
 dsimp only at hcf hn hwy hmm hgq h9h
 obtain⟨n,rfl⟩:∃n',n=n'+1:=⟨n-1,by omega⟩
 refine qT 3 U (dB ty194 (a16.mono h9h) U (aB (fK (Rj underlying194 (zB ..) U) ?_)))
 rcases q with _|⟨w,q⟩
 .have hv0:vs=[]:=List.eq_nil_of_length_eq_zero hwy.len
  subst hv0
  exact jO (v':=.bool false) U U (qO 3 U (hx ([],s,r,om,hh) _ hcf trivial))
 rcases vs with _|⟨v,vs⟩
 .exact hwy.elim
 obtain⟨⟨wr,rfl,hok⟩,hwy⟩:=hwy
 refine tO (decide_eq_true (by simp)) U (qO 6 U (dB ty194 (a16.mono h9h) U (Rt 0 underlying194 zv196 U U (aT zc196 (λb19=>aL 0 ty196 U U U U U U (qL 7 [0] U (aj (v:=.tuple #[I (slices_BinarySearch_int parties w.to).1,.bool (slices_BinarySearch_int parties w.to).2]) call114 (nv hh parties lL lK w.to (hpar.mono jH h9h) hps ob) U (qO 10 U ?_))))))))
 have hgq':pL st m q:=⟨hgq.1,by have:=hgq.2.1;simp only[xA]at this;omega,λw' hw'=>hgq.2.2 w' (vA _ hw')⟩
 have hw8:=hgq.2.2 w (zB ..)
 simp only[xA]at hn
 refine ky U (λcF=>?_) (λcF=>?_)
 .have hc2:CF=(w.path,true):=by
   rw[hcf];simp only[conLoop];rw[show parties.contains w.to=true from cF];rfl
  exact qK 8 [0] U (aX (L':=[(bc,.chan l.length vs.toArray false s (r+1) false),(bm,om)]++markB [dm]) js (qw [dm] [.slice wr.yg w.path.length wr.AL,.bool true,I 0] Mo U rd ⟨wr.yg,wr.AL,by rw[hc2];rfl,by rw[hc2];exact hok.path⟩))
 have hc2:CF=(bif(w.path.length:Int)==8 then conLoop parties f n m q else conLoop parties f n (conStep w.path (mgetD f w.to []) m q).1 (conStep w.path (mgetD f w.to []) m q).2):=by
  rw[hcf];simp only[conLoop];rw[show parties.contains w.to=false from cF];rfl
 refine qK 9 [0] U (ky U (λc8=>?_) (λc8=>?_))
 .rw[show((w.path.length:Int)==8)=true from c8]at hc2
  exact md U (aX (L':=[(bc,.chan l.length vs.toArray false s (r+1) false),(bm,om)]++markB [dm]) js (ag (n,m,q,vs,s,r+1,om,hh) _ (Nat.lt_succ_self _) ⟨hc2,by show q.length+(l.length-m.length)<n;omega,hwy,hmm,hgq',h9h⟩ rd))
 rw[show((w.path.length:Int)==8)=false from c8]at hc2
 refine qT 3 U (dB ty193 (a14.mono h9h) U (qL 2 [0] U (aB (nS (k:=w.to) Mn (fZ oe) (h9h _ _ hbf) (hmF.mono (VSl.mono aAj) h9h) (fw zv24) (show VSl kL _ (.slice none 0 0) []from⟨none,0,U,qF⟩) U U (λv hv=>?_)))))
 obtain⟨xb,xc,rfl,slx⟩:=hv
 have hxs:∀y∈mgetD f w.to [],y∈st:=hgf w.to
 generalize mgetD f w.to []=xs at slx hc2 hxs
 refine qL 3 [] U ?_
 have hw7:w.path.length+1<=8:=by simp at c8;omega
 have hsum:=vY (path:=w.path) hstl hw7 hxs hgq' hmm.nodup
 generalize hcs:conStep w.path xs m q=CS at hc2 hsum
 refine iX (ι:=List Value×Nat×Obj×HF) (λi=>[(2,.slice lL parties.length lK),(14,Q b14),(16,Q b16),(17,Q b17)]) (λi=>i.2.2.2) (λi=>[(b19,.cells (gU.cells w wr).toArray 196 (0,0)),(bc,.chan l.length i.1.toArray false i.2.1 (r+1) false),(bm,i.2.2.1)]++markB [dm])
  (λi=>ve i.2.2.2 i.1 CS.2/\j8 (kC .i64) qb i.2.2.2 i.2.2.1 CS.1/\pL st CS.1 CS.2/\hh.le i.2.2.2) ?_ (λhx2=>?_)
 .rintro⟨vs2,s2,om2,h10⟩ ⟨hw2,hm2,hg2,hle2⟩ e2
  exact fe (aX (L':=[(bc,.chan l.length vs2.toArray false s2 (r+1) false),(bm,om2)]++markB [dm]) js (ag (n,CS.1,CS.2,vs2,s2,r+1,om2,h10) _ (Nat.lt_succ_self _) ⟨hc2,by show CS.2.length+(l.length-CS.1.length)<n;omega,hw2,hm2,hg2,zF h9h hle2⟩ rd))
 refine kY (ι:=Nat×List (Int×Bool)×List gU×List Value×Nat×Obj×HF×List Interest) (λi=>[(2,.slice lL parties.length lK),(14,Q b14),(16,Q b16),(17,Q b17),(19,Q b19),(92,.slice xb xs.length xc),(93,I (xs.length:Int)),(94,I (i.1:Int))]) (λi=>i.2.2.2.2.2.2.1)
  (λi=>[(b19,.cells (gU.cells w wr).toArray 196 (0,0)),(bc,.chan l.length i.2.2.2.1.toArray false i.2.2.2.2.1 (r+1) false),(bm,i.2.2.2.2.2.1)]++markB [dm])
  (λi=>xs.drop i.1=i.2.2.2.2.2.2.2/\conStep w.path i.2.2.2.2.2.2.2 i.2.1 i.2.2.1=CS/\ve i.2.2.2.2.2.2.1 i.2.2.2.1 i.2.2.1/\j8 (kC .i64) qb i.2.2.2.2.2.2.1 i.2.2.2.2.2.1 i.2.1/\pL st i.2.1 i.2.2.1/\hh.le i.2.2.2.2.2.2.1)
  (λi=>i.2.2.2.2.2.2.2.length) (0,m,q,vs,s,om,hh,xs) rd (λw hw=>hw) ⟨rfl,hcs,hwy,hmm,hgq',vQ _⟩ ?_
 rintro⟨i1,m2,q2,vs2,s2,om2,h10,rest⟩ ⟨hd1,hcs2,hw2,hm2,hg2,hle2⟩ ag2 e2
 dsimp only at hd1 hcs2 hw2 hm2 hg2 hle2
 rcases rest with _|⟨x,rest⟩
 .have hge:=ni hd1
  refine sr (fO hge U (qO 4 U ?_))
  obtain rfl:(m2,q2)=CS:=hcs2
  exact hx2 (vs2,s2,om2,h10) _ ⟨hw2,hm2,hg2,hle2⟩ rd
 have hlt:=tj hd1
 have hget:=pI hd1
 have hxst:x∈st:=hxs x (gp hd1)
 have hpty:(gU.mk (w.path++[x.No]) x.Party).to∈st.map (·.Party):=kM hxst
 have slx2:=slx.mono aAj hle2
 have hokp:=hok.path.mono jH hle2
 have gy:=slx.1.1
 have dZ:=iB hd1
 have h910:h9.le h10:=zF h9h hle2
 refine sr (tO hlt U (qO 8 U (aB (iF zD sC ty97 slx2.1 hget U U U (λqx Ax=>dq ty97 Ax U U (aT zc97 (λb23=>aL 0 ty97 U U U U U U (aJ ?_))))))))
 refine Qa (ι:=List Value×Nat×Obj×HF) (λi=>[(2,.slice lL parties.length lK),(14,Q b14),(16,Q b16),(17,Q b17),(19,Q b19),(92,.slice xb xs.length xc),(93,I (xs.length:Int)),(94,I (i1:Int))]) (λi=>i.2.2.2) (λi=>[(b19,.cells (gU.cells w wr).toArray 196 (0,0)),(bc,.chan l.length i.1.toArray false i.2.1 (r+1) false),(bm,i.2.2.1)]++markB [dm])
  (λi=>h10.le i.2.2.2/\ve i.2.2.2 i.1 (conPut ⟨w.path++[x.No],x.Party⟩ m2 q2).2/\j8 (kC .i64) qb i.2.2.2 i.2.2.1 (conPut ⟨w.path++[x.No],x.Party⟩ m2 q2).1) ?_ (λfin=>?_)
 .rintro⟨vs3,s3,om3,h11⟩ ⟨l11,hw3,hm3⟩ e3
  dsimp only at l11 hw3 hm3
  exact fe (bE (oi i1 U (qO 2 U (ag2 (i1+1,(conPut ⟨w.path++[x.No],x.Party⟩ m2 q2).1,(conPut ⟨w.path++[x.No],x.Party⟩ m2 q2).2,vs3,s3,om3,h11,rest) _ (Nat.lt_succ_self _) ⟨kO hd1,hcs2,hw3,hm3,oZ hg2 hpty (by simpa using hw7),zF hle2 l11⟩ rd))))
 have hKs:∀p∈([(b23,.cells (zD x).toArray 97 (0,0)),(b19,.cells (gU.cells w wr).toArray 196 (0,0))]:LH),p∈([(b23,.cells (zD x).toArray 97 (0,0)),(b19,.cells (gU.cells w wr).toArray 196 (0,0)),(bc,.chan l.length vs2.toArray false s2 (r+1) false),(bm,om2)]++markB [dm]:LH):=λp hp=>by
  rcases qC.1 hp with rfl|hp
  .simp
  rw[jD.1 hp];simp
 have hJ:Jst h10 [(b23,.cells (zD x).toArray 97 (0,0)),(b19,.cells (gU.cells w wr).toArray 196 (0,0))] h10 ([(b23,.cells (zD x).toArray 97 (0,0)),(b19,.cells (gU.cells w wr).toArray 196 (0,0)),(bc,.chan l.length vs2.toArray false s2 (r+1) false),(bm,om2)]++markB [dm]):=⟨vQ _,hKs⟩
 refine eT [(b23,.cells (zD x).toArray 97 (0,0)),(b19,.cells (gU.cells w wr).toArray 196 (0,0))] mixed kr hJ (λhsep _=>?_)
 refine jt 0 hsep hJ U U kr U (rh ty197 (a17.mono h910) U) (jt 1 hsep hJ U U kr U (λ_ _ _=>tQ PK U) (jt 2 hsep hJ U U kr U (rj 1 ty31 U U U) (jt 4 hsep hJ U U kr U (λ_ _ _=>tQ QC U) (jt 5 hsep hJ U U kr U (rj 0 ty3 U U U) (jt 8 hsep hJ U U kr U (λ_ _ _=>tQ QB U) (jt 9 hsep hJ U U kr U (rj 0 ty3 U U U) ?_))))))
 have hpl8:w.path.length<=wr.AL:=hokp.2
 have hpn:=hokp.1.1
 refine og 3 6 kr U U ?_ ?_
 .refine fo (v:=.slice wr.yg w.path.length w.path.length) call115 (sF h10 wr.yg w.path.length wr.AL hpl8) U ⟨hJ,tn 6 U (bB (cells:=[I x.No]) ej ty3 zc3 U U kr (λb6=>⟨⟨vQ _,λp hp=>vA _ (hKs p hp)⟩,tn 7 U (HT (R:=kB) (xs:=w.path) (ys:=[x.No]) ej ty3 zc3 U bytes3 (mO hokp.1) U U (eF 0 U (show bI kB h10 [I x.No] [x.No]from⟨[I x.No],[],U,U,U,U⟩)) (by simp) lo lo (λnb nc NG hNG=>⟨⟨vQ _,λp hp=>zM NG (vA _ (hKs p hp))⟩,tn 10 U (fV (cells:=gU.cells ⟨w.path++[x.No],x.Party⟩ ⟨nb,nc⟩) (places:=[(0,1),(1,1)]) underlying196 zc196 kr kr ⟨⟨vQ _,λp hp=>zM NG (vA _ (hKs p hp))⟩,tn 11 U (HR jH [] NG ((b6,.cells [kC .i64 x.No].toArray 3 (0,0))::[(b23,.cells (zD x).toArray 97 (0,0)),(b19,.cells (gU.cells w wr).toArray 196 (0,0)),(bc,.chan l.length vs2.toArray false s2 (r+1) false),(bm,om2)]++markB [dm]) U hM hNG (λh11 l11 slN=>?_))⟩)⟩))⟩))⟩
  refine ID (vs:=[.agg (gU.cells ⟨w.path++[x.No],x.Party⟩ ⟨nb,nc⟩).toArray]) [(bm,om2),(bc,.chan l.length vs2.toArray false s2 (r+1) false)] ([(b6,.cells [kC .i64 x.No].toArray 3 (0,0)),(b23,.cells (zD x).toArray 97 (0,0)),(b19,.cells (gU.cells w wr).toArray 196 (0,0))]++markB [dm]) ?_
   (mE h11 ⟨w.path++[x.No],x.Party⟩ ⟨nb,nc⟩ ⟨b15,0,none⟩ ⟨b16,0,none⟩ bm bc om2 m2 l.length s2 (r+1) vs2 q2 ⟨slN⟩ (a15.mono (h910.t l11)) (a16.mono (h910.t l11)) (hm2.mono qb.mono l11) (hw2.mono l11) (λhno=>by rw[hw2.len];exact yJ hg2 hm2.nodup hpty hstl hno)) rfl rfl (λB hB=>?_)
  .exact yX [(b6,.cells [kC .i64 x.No].toArray 3 (0,0)),(b23,.cells (zD x).toArray 97 (0,0)),(b19,.cells (gU.cells w wr).toArray 196 (0,0))] (markB [dm]) (bc,.chan l.length vs2.toArray false s2 (r+1) false) (bm,om2)
  obtain⟨om3,vs3,s3,hm3,hw3,rfl⟩:=hB
  exact⟨⟨l11,λp hp=>by rcases hp with _|⟨_,_|⟨_,h⟩⟩;simp;simp;cases h⟩,n9 (K2:=[(b23,.cells (zD x).toArray 97 (0,0)),(b19,.cells (gU.cells w wr).toArray 196 (0,0))]) l11 (λ_ hp=>hp) (aQ kr (mb (yX [(b6,.cells [kC .i64 x.No].toArray 3 (0,0)),(b23,.cells (zD x).toArray 97 (0,0)),(b19,.cells (gU.cells w wr).toArray 196 (0,0))] (markB [dm]) (bc,.chan l.length vs3.toArray false s3 (r+1) false) (bm,om3)).symm (aX (L':=[(b19,.cells (gU.cells w wr).toArray 196 (0,0)),(bc,.chan l.length vs3.toArray false s3 (r+1) false),(bm,om3)]++markB [dm]) js (fin (vs3,s3,om3,h11) _ ⟨l11,hw3,hm3⟩ rd))))⟩
 refine bB (cells:=[I x.No]) ej ty3 zc3 U U kr (λb6=>⟨⟨vQ _,λp hp=>vA _ (hKs p hp)⟩,tn 3 U (fo (v:=.slice wr.yg w.path.length w.path.length) call115 (sF h10 wr.yg w.path.length wr.AL hpl8) U ⟨⟨vQ _,λp hp=>vA _ (hKs p hp)⟩,tn 7 U (HT (R:=kB) (xs:=w.path) (ys:=[x.No]) ej ty3 zc3 U bytes3 (mO hokp.1) U U (eF 0 U (show bI kB h10 [I x.No] [x.No]from⟨[I x.No],[],U,U,U,U⟩)) (by simp) lo lo (λnb nc NG hNG=>⟨⟨vQ _,λp hp=>zM NG (vA _ (hKs p hp))⟩,tn 10 U (fV (cells:=gU.cells ⟨w.path++[x.No],x.Party⟩ ⟨nb,nc⟩) (places:=[(0,1),(1,1)]) underlying196 zc196 kr kr ⟨⟨vQ _,λp hp=>zM NG (vA _ (hKs p hp))⟩,tn 11 U (HR jH [] NG ((b6,.cells [kC .i64 x.No].toArray 3 (0,0))::[(b23,.cells (zD x).toArray 97 (0,0)),(b19,.cells (gU.cells w wr).toArray 196 (0,0)),(bc,.chan l.length vs2.toArray false s2 (r+1) false),(bm,om2)]++markB [dm]) U hM hNG (λh11 l11 slN=>?_))⟩)⟩))⟩)⟩)
 refine ID (vs:=[.agg (gU.cells ⟨w.path++[x.No],x.Party⟩ ⟨nb,nc⟩).toArray]) [(bm,om2),(bc,.chan l.length vs2.toArray false s2 (r+1) false)] ([(b6,.cells [kC .i64 x.No].toArray 3 (0,0)),(b23,.cells (zD x).toArray 97 (0,0)),(b19,.cells (gU.cells w wr).toArray 196 (0,0))]++markB [dm]) ?_
  (mE h11 ⟨w.path++[x.No],x.Party⟩ ⟨nb,nc⟩ ⟨b15,0,none⟩ ⟨b16,0,none⟩ bm bc om2 m2 l.length s2 (r+1) vs2 q2 ⟨slN⟩ (a15.mono (h910.t l11)) (a16.mono (h910.t l11)) (hm2.mono qb.mono l11) (hw2.mono l11) (λhno=>by rw[hw2.len];exact yJ hg2 hm2.nodup hpty hstl hno)) rfl rfl (λB hB=>?_)
 .exact yX [(b6,.cells [kC .i64 x.No].toArray 3 (0,0)),(b23,.cells (zD x).toArray 97 (0,0)),(b19,.cells (gU.cells w wr).toArray 196 (0,0))] (markB [dm]) (bc,.chan l.length vs2.toArray false s2 (r+1) false) (bm,om2)
 obtain⟨om3,vs3,s3,hm3,hw3,rfl⟩:=hB
 exact⟨⟨l11,λp hp=>by rcases hp with _|⟨_,_|⟨_,h⟩⟩;simp;simp;cases h⟩,n9 (K2:=[(b23,.cells (zD x).toArray 97 (0,0)),(b19,.cells (gU.cells w wr).toArray 196 (0,0))]) l11 (λ_ hp=>hp) (aQ kr (mb (yX [(b6,.cells [kC .i64 x.No].toArray 3 (0,0)),(b23,.cells (zD x).toArray 97 (0,0)),(b19,.cells (gU.cells w wr).toArray 196 (0,0))] (markB [dm]) (bc,.chan l.length vs3.toArray false s3 (r+1) false) (bm,om3)).symm (aX (L':=[(b19,.cells (gU.cells w wr).toArray 196 (0,0)),(bc,.chan l.length vs3.toArray false s3 (r+1) false),(bm,om3)]++markB [dm]) js (fin (vs3,s3,om3,h11) _ ⟨l11,hw3,hm3⟩ rd))))⟩
theorem pV(h:HF)(c:bU)(oy:kn)(person:Int)(hc:bU.ok h c oy)(hsm:smR c.Register)(hco:jr c)(hpp:0<=person/\person<64):Ret prog 256 [.agg (bU.cells c oy).toArray,I person] h (.bool (ia c person)):=by
 refine sT func256 U ntmps256 U λX hM hX hF=>?_
 have hs0:ia c person=ia c person:=rfl
 refine sr (cz (λb1=>qL 15 [0,0,0,0] U (aB (cT call31 (w5 _ _ _ _ person _ _ _ c.at_ c.known hc.Register.Interests hc.doc.Parties hsm.2.2.2.1) U (λv1 h1 hle1 hp1=>?_)))))
 obtain⟨rb1,rc1,rfl,sl1⟩:=hp1
 exact av (qO 10 U (aB (ou uF (iz h1 ((eC c.Register.Interests person c.doc.Parties c.at_ c.known).2.2)) (mw (L8 hco hpp)) U (qO 6 U (nretP [.bool ((eC c.Register.Interests person c.doc.Parties c.at_ c.known).2.1)] (cs hs0))))))
theorem wY(h:HF)(c:bU)(oy:kn)(c_q:Addr)(p:Policy)(ie:fd)(p_q:Addr)(hc:bU.ok h c oy)(ac:At h c_q (bU.cells c oy))(hp:vP h p ie)(ap_z:At h p_q (xE p ie))(hsm:smR c.Register)(hco:jr c)(hpr:p.Rules.length=p.Kinds.length/\∀y∈p.Rules,0<=y.Think/\y.Think<=1099511627775):Itr prog (.func (.func 255) #[] (jB [.pointer (some c_q),.pointer (some p_q)])) pw (cR c p) h:=by
 refine sV call255 ?_
 intro yf ya yb C Sp Pn h1 A hle m1 m2 m3 hC hy
 refine jW Mm U ntmps255 U λX hXM hX=>?_
 have hs0:cR c p=[]++cR c p:=rfl
 have hkd:=hco.kind
 refine qK 5 [] U (ju (j:=9) ty3 (ac.mono hle) U U (qL 1 [] U (ju (j:=1) ty58 (ap_z.mono hle) U U (qL 3 [] U (ky U (λc1=>?_) (λc1=>?_))))))
 .have c1p:=of_decide_eq_true c1
  have hs1:=hs0.trans (congrArg ([]++·) (bt c1))
  refine ew ?_
  have hs2:cR c p=[]:=hs1.trans (List.append_nil _)
  exact m4 [] (A:=A) Mm U (List.Sublist.refl _) (.inl (hs2▸hC))
 have c1p:=of_decide_eq_false c1
 have hs3:=hs0.trans (congrArg ([]++·) (bf c1))
 refine qT 2 U (eT ([]) mixed kr jn (λeo _=>qB [0,1] U (tf 2 U U (rH 6 ty28 (ac.mono hle) U U) (qB [3,4] U (tf 5 U U (rH 7 ty3 (ac.mono hle) U U) (qB [6,7] U (tf 8 U U (rH 8 ty3 (ac.mono hle) U U) (qB [9] U (tf 10 U U (rH 3 ty59 (ap_z.mono hle) U U) (qB [11,12] U (tf 13 U U (rH 9 ty3 (ac.mono hle) U U) ?_)))))))))))
 have ho1:0<=(c.doc.Kind:Int)/\(c.doc.Kind:Int)<((p.Rules).length:Int):=ob
 refine j9 14 eo jn wL ty79 (hp.Rules.mono Rule.ai hle).1 ho1 (dh ho1) U U U U kr (λq1 cs1 A1 ln1 rr1=>?_)
 obtain⟨r1,rfl,ok1⟩:=rr1
 refine qB [15] U (tf 16 U U (rH 2 ty3 A1 U U) (qB [17] U (tf 18 U U (rH 48 ty3 (ac.mono hle) U U) (qB [19] U (tf 20 U U (rH 49 ty3 (ac.mono hle) U U) (tn 21 U (cT call28 (w8 _ _ _ _ c.doc.No c.doc.At ((nthI p.Rules c.doc.Kind).Think) c.at_ c.known (hc.Register.Approvals.mono zH hle) hsm.2.2.2.2.2.2) U (λv1 h2 hle1 hp1=>?_))))))))
 obtain⟨rb1,rc1,rfl,sl1⟩:=hp1
 refine⟨⟨hle1,λ_ hp=>List.Sublist.subset (List.nil_sublist _) hp⟩,n9 (K2:=[]) hle1 (λ_ hp=>hp) (qR 22 5 U (aQ kr (qT 3 U (aB (ou uF (iz h2 ((cA c.Register.Approvals c.doc.No c.doc.At ((nthI p.Rules c.doc.Kind).Think) c.at_ c.known).2)) (by first|exact mw (yH hco hpr ob)|exact mw (yG hco (gp hd1))|exact mw (yI hco (gp hd1))) U (qL 7 [] U ?_))))))⟩
 refine lp2 ((cA c.Register.Approvals c.doc.No c.doc.At ((nthI p.Rules c.doc.Kind).Think) c.at_ c.known).1) (λi w=>[(0,.func yf ya yb),(1,.pointer (some c_q)),(48,.slice rb1 (((cA c.Register.Approvals c.doc.No c.doc.At ((nthI p.Rules c.doc.Kind).Think) c.at_ c.known).1).length) rc1),(49,I ((((cA c.Register.Approvals c.doc.No c.doc.At ((nthI p.Rules c.doc.Kind).Think) c.at_ c.known).1).length:Nat):Int)),(50,I (i:Int))]) (λw=>w.2.2) (λw=>w.2.1) (λi w=>C w.1 w.2.2 w.2.1/\vM h2 w.2.2) (λs1 i w=>w.1++(cR.L1 c (cR.K1)) s1) ([],A,h2) sl1.1.1 hs3 ⟨(m1 _ _ _ _ hle1 hC),lf⟩ ?_ ?_
 .rintro i1 ⟨dn1,A1_,hh1⟩ ft hs4 ⟨hC1_,hl1⟩ e
  refine ew ?_
  have hs5:cR c p=dn1:=hs4.trans (List.append_nil _)
  exact sW [] (A:=A1_) Mm U (List.Sublist.refl _) (.inl (hs5▸hC1_))
 rintro i1 ⟨dn1,A1_,hh1⟩ y1 rz1 hd1 df aS dZ gy hs6 ⟨hC1_,hl1⟩ hx1 ag1 e
 refine sr (tO df U (qO 8 U (aB (iF xC wJ ty81 (sl1.mono zH hl1).1 aS U U U (λq3 A3=>dq ty81 A3 U U (aT zc81 (λb2=>aL 0 ty81 U U U U U U (gJ (L':=[(b2,O (xC y1) 81)]++(A1_)) U (qL 5 [] U (dB ty22 (ac.mono ((hle.t hle1).t hl1)) U (qL 5 [0,0] U (ju (j:=48) ty3 (ac.mono ((hle.t hle1).t hl1)) U U (qL 1 [] U (ju (j:=49) ty3 (ac.mono ((hle.t hle1).t hl1)) U U (aj call29 (CX _ _ _ _ y1.Office y1.For c.at_ c.known (hc.Register.Appoints.mono kP ((hle.t hle1).t hl1))) U (qO 13 U (aB (ou uF (iz hh1 ((gf c.Register.Appoints y1.Office y1.For c.at_ c.known).2.2.2)) (by first|exact mw (yH hco hpr ob)|exact mw (yG hco (gp hd1))|exact mw (yI hco (gp hd1))) U (qL 5 [] U (ju (j:=1) ty23 (ac.mono ((hle.t hle1).t hl1)) U U (qL 8 [0,0,0] U (ju (j:=9) ty3 (ac.mono ((hle.t hle1).t hl1)) U U (qL 2 [] U (ju (j:=10) ty3 (ac.mono ((hle.t hle1).t hl1)) U U (qL 1 [] U (ju (j:=48) ty3 (ac.mono ((hle.t hle1).t hl1)) U U (qL 1 [] U (ju (j:=49) ty3 (ac.mono ((hle.t hle1).t hl1)) U U (aB (cT call30 (Cv _ _ _ _ y1.For y1.By y1.Office c.doc.Kind c.doc.Value c.at_ c.known (hc.Register.Deputies.mono qS ((hle.t hle1).t hl1)) hsm.2.2.1) U (λv3 h4 hle3 hp3=>?_)))))))))))))))))))))))))))))))
 obtain⟨rb3,rc3,rfl,sl3⟩:=hp3
 refine qO 11 U (aB (ou uF (iz h4 ((aE c.Register.Deputies y1.For y1.By y1.Office c.doc.Kind c.doc.Value c.at_ c.known).2.2)) (by first|exact mw (yH hco hpr ob)|exact mw (yG hco (gp hd1))|exact mw (yI hco (gp hd1))) U (qO 5 U (bA 2 [100,101,102] 100 102 ((aE c.Register.Deputies y1.For y1.By y1.Office c.doc.Kind c.doc.Value c.at_ c.known).2.1) U (λc2 hk1=>?_) (λe=>?_)))))
 .exact av (eU U (hk1 _ U))
 refine av (bA 6 [103,104,105,106,107,108,109] 103 109 (!(ia c y1.For)) U (λc3 hk2=>?_) (λe=>?_))
 .exact dq ty123 (ac.mono (((hle.t hle1).t hl1).t hle3)) U U (qL 2 [0] U (aj call256 (pV _ _ _ y1.For (hc.mono (((hle.t hle1).t hl1).t hle3)) hsm ob (by first|exact Ih hco (gp hd1)|exact KY hco (gp hd1))) U (qO 2 U (hk2 _ U))))
 refine av (bA 6 [110,111,112,113,114,115,116] 110 116 (!(ia c y1.By)) U (λc4 hk3=>?_) (λe=>?_))
 .exact dq ty123 (ac.mono (((hle.t hle1).t hl1).t hle3)) U U (qL 2 [0] U (aj call256 (pV _ _ _ y1.By (hc.mono (((hle.t hle1).t hl1).t hle3)) hsm ob (by first|exact Ih hco (gp hd1)|exact KY hco (gp hd1))) U (qO 2 U (hk3 _ U))))
 refine av (uG 117 U (λc5=>?_) (λc5=>?_))
 .have hs7:=hs6.trans (congrArg (dn1++·) (bt c5))
  refine av (cI 0 ty81 U U U ?_)
  have hx1:cR c p=dn1++(y1::(cR.L1 c (cR.K1) rz1)):=hs7
  refine aB (ll ([(b2,O (xC y1) 81)]) A1_ ap (hy dn1 y1 _ _ _ _ hx1 ((hle1.t hl1).t hle3) (m1 _ _ _ _ hle3 hC1_) U) U U (λh5 A4 hle4 hC1=>?_) (λh6 A5 hle5 hS1=>?_) (λch1 h7 A6 hle6 hP1 e=>gV (nh [] (A:=A6) Mm (List.sublist_append_right _ _) hP1)))
  .have hs8:cR c p=(dn1++[y1])++((cR.L1 c (cR.K1) rz1)):=hx1.trans ap
   exact nl U (qO 6 U (oi i1 U (qO 2 U (aX (L':=A4) js (ag1 ((dn1++[y1]),A4,h5) hs8 ⟨hC1,((hl1.t hle3).t hle4)⟩)))))
  exact nl U (qO 3 U (ew (m4 [] (A:=A5) Mm U js (.inr hS1))))
 have hs9:=hs6.trans (congrArg (dn1++·) (bf c5))
 exact kq (qO 8 U (oi i1 U (qO 2 U (aX (L':=A1_) js (ag1 (dn1,A1_,h4) hs9 ⟨(m1 _ _ _ _ hle3 hC1_),(hl1.t hle3)⟩)))))
theorem zY(h:HF)(c:bU)(oy:kn)(p:Policy)(ie:fd)(hc:bU.ok h c oy)(hp:vP h p ie)(hsm:smR c.Register)(hco:jr c)(hpr:p.Rules.length=p.Kinds.length/\∀y∈p.Rules,0<=y.Think/\y.Think<=1099511627775):jv prog 162 [.agg (bU.cells c oy).toArray,.agg (xE p ie).toArray] h (λv h'=>∃(rv0:Value),v=rv0/\Itr prog rv0 pw (gS c p) h'):=by
 refine sT func162 U ntmps162 U λX hM hX hF=>?_
 have hs0:gS c p=gS c p:=rfl
 refine sr (cz (λb1=>cz (λb2=>qO 4 U (aU 1 U hM (λh1 hle1 hb1=>aU 0 U hM (λh2 hle2 hb2=>aB (eL U U (an ?_))))))))
 have hs1:gS c p=(cR c p):=hs0
 exact nretH [.func (.func 255) #[] #[Q b1,Q b2]] ⟨(.func (.func 255) #[] #[Q b1,Q b2]),congrArg (λr:List Approval=>((.func (.func 255) #[] #[Q b1,Q b2]):Value)) hs1.symm,(by rw[hs1];exact(wY h2 c oy ⟨b1,0,none⟩ p ie ⟨b2,0,none⟩ (hc.mono (hle1.t hle2)) ((cL hb1).mono hle2) (hp.mono (hle1.t hle2)) (cL hb2) ob ob ob))⟩
theorem pU(h:HF)(c:bU)(oy:kn)(p:Policy)(ie:fd)(hc:bU.ok h c oy)(hp:vP h p ie)(hsm:smR c.Register)(hco:jr c)(hpr:p.Rules.length=p.Kinds.length/\∀y∈p.Rules,0<=y.Think/\y.Think<=1099511627775):jv prog 79 [.agg (bU.cells c oy).toArray,.agg (xE p ie).toArray] h (λv h'=>∃(rb0:Option Addr)(rc0:Nat),v=.slice rb0 (da c p).length rc0/\SlC kB h' rb0 rc0 (da c p)):=by
 refine cZ func79 U ntmps79 U λX hM hX=>?_
 have hs0:da c p=da c p:=rfl
 refine sr (cz (λb1=>cz (λb2=>aT zc31 (λb3=>qO 4 U (cI 2 ty123 U U U (cI 1 ty64 U U U (aB (cT call162 (zY _ _ _ _ _ hc hp ob ob ob) U (λv1 h1 hle1 hp1=>?_)))))))))
 obtain⟨_,rfl,mo1⟩:=hp1
 refine qO 2 U (ew ?_)
 let z1:Nat×Obj:=(b1,O (bU.cells c oy) 123)
 let z2:Nat×Obj:=(b2,O (xE p ie) 64)
 refine cv (L':=([(b3,O [.slice none 0 0] 31),z2,z1])++markB []) ap ?_
 refine kp (it:=v1) (xs:=(gS c p)) (ι:=(List Int)×Option Addr×Nat×LH×HF) [] (λi=>i.2.2.2.2) (λi=>[(b3,O [.slice i.2.1 i.1.length i.2.2.1] 31),z2,z1]++(i.2.2.2.1)) (λs i=>da c p=((da.L1 (da.K1)) s i.1)/\dC kB 3 i.2.2.2.2 i.1 i.2.1 i.2.2.1 i.2.2.2.1/\vM h1 i.2.2.2.2/\i.1.length+s.length<=2000000) (λ_=>False) (λ_=>False) 0 (λ_ _ _=>False) ([],none,0,[],h1) func79 U mo1 U qj (λ_ _ _ _ _ hq=>hq) U (show[(b3,O [.slice none 0 0] 31),z2,z1]=_ from U) ⟨hs0,dC.nil,lf,(by have hc:=Pw hsm p;simpa using hc)⟩ ?_ ?_ ?_ ?_ ?_
 .rintro l1 dm1 lp1 y1 rz1 vs1 ⟨ct,lD,lC,lE,hh1⟩ hr1 X hFR1 ⟨hs1,na,hl1,u1_0⟩ hl01 hlr1 hv1 hX hXM hlp1 nx1 rt1 ex1 pn1
  try dsimp only at na hl1 u1_0 hlr1
  obtain rfl:=hv1
  simp only[xA]at u1_0
  let z3:Nat×Obj:=(b3,O [.slice lD ct.length lC] 31)
  let z6:Nat×Obj:=(dm1,.deferred (some []))
  refine cv (L':=[(l1,.loop lp1),z6,z3,z2,z1]++(lE++(markB []))) ap (bE (aT zc81 (λb6=>aL 0 ty81 U U U U U U (gJ (L':=[(b6,O (xC y1) 81),(l1,.loop lp1),z6,z3,z2,z1]++(lE++(markB []))) U ?_))))
  let z7:Nat×Obj:=(l1,.loop { lp1 with state:=.busy })
  let z8:Nat×Obj:=(b6,O (xC y1) 81)
  refine aJ (kc 1 U hlp1 (qK 5 [3,0] U (aB (bB (cells:=[I y1.For]) ej ty3 zc3 U U kr (λb7=>aB (dy Rp.iI ([(b7,O [I y1.For] 3),z8,z7,z6,z3,z2,z1]) (markB []) (λG=>[(b7,O [I y1.For] 3),z8,z7,z6,z3,z2,z1]++(markB []++G)) ap (λ_=>ap) ej ty3 zc3 U bytes3 (na.mono jH hlr1) U U (eF 0 U (cE (y1.For) U U)) lo lo (λob2 oc2 G4 gr4=>yR (sj ([(b7,O [I y1.For] 3),z8,z7,z6,z3,z2,z1]) G4 (markB [])) (cM 4 ty31 U U U U U U (qO 2 U ?_)))))))))
  let z9:Nat×Obj:=(b3,O [.slice ob2 ((ct++[y1.For]).length) oc2] 31)
  exact aX (L':=[z7,z6,z9,z2,z1]++(G4++(markB []))) js (cv (L':=rdH l1 dm1 lp1 (([z9,z2,z1]++G4)++markB [])) ap (nx1 ((ct++[y1.For]),ob2,oc2,G4,hr1) _ _ ⟨hs1,gr4,(hl1.t hlr1),(by first|omega|(simp only[jA,xA,vB]at *;omega))⟩ lf))
 .rintro dm1 ⟨ct,lD,lC,lE,hh1⟩ hn1 ⟨hs2,na,hl1,u1_0⟩ hln1 hl01
  try dsimp only at na hl1 u1_0 hln1
  let z4:Nat×Obj:=(b3,O [.slice lD ct.length lC] 31)
  refine cv (L':=[z4,z2,z1]++(lE++(markB (dm1::[])))) ap (qK 4 [0] U (aB (nw ([z4,z2,z1]) lE (markB (dm1::[])) On (mS hn1 ct lD lC lE (na.mono jH hln1) (by first|assumption|omega|(simp only[jA,xA,vB] ;omega))) ap U (λG5 gr5=>qL 4 [0] U (aB (nw (v:=.slice lD (slices_Compact_int (sortI ct)).length lC) ([z4,z2,z1]) G5 (markB (dm1::[])) call136 (pS hn1 (sortI ct) lD lC G5 gr5) ap (by first|rfl|(simp only[jc];rfl)) (λG6 gr6=>gJ (L':=[z4,z2,z1]++(G6++(markB (dm1::[])))) ap (cM 0 ty31 U U U U U U (aJ ?_)))))))))
  let z5:Nat×Obj:=(b3,O [.slice lD ((slices_Compact_int (sortI ct)).length) lC] 31)
  refine eK jH ([z5,z2,z1]) G6 (markB (dm1::[])) ap hM gr6 (λh3 hle3 sl2=>?_)
  have hs3:da c p=(slices_Compact_int (sortI ct)):=hs2
  exact cv (L':=([z5,z2,z1])++markB (dm1::[])) ap (qw (dm1::[]) [.slice lD ((slices_Compact_int (sortI ct)).length) lC] func79 U ⟨⟨0,_,_,_,_,U,U,.inr ⟨_,ty31,U⟩⟩,trivial⟩ ⟨lD,lC,congrArg (λr:List Int=>(.slice lD r.length lC:Value)) hs3.symm,(by rw[hs3];exact sl2)⟩)
 .exact xf
 .exact xf
 exact xf
theorem rQ(h:HF)(s:List Version)(sK:Option Addr)(sJ:Nat)(f:(Version->Bool))(f_v:Value)(hs:SlC jN h sK sJ s)(hf:∀(h':HF)(dl:Version)(uC:nO),vM h h'->Version.ok h' dl uC->pQ prog f_v [.agg (Version.cells dl uC).toArray] h' [] (.bool (f dl))):Ret prog 163 [.slice sK s.length sJ,f_v] h (I (aY s f)):=by
 refine sT func163 U ntmps163 U λX hM hX hF=>?_
 have hs0:aY s f=aY s f:=rfl
 refine qK 11 [] U ?_
 refine lp0 s (λi=>[(0,.slice sK s.length sJ),(1,f_v),(7,I (s.length:Int)),(8,I (i:Int))]) ([]) (λs1 i=>(aY.L1 f (aY.K1)) s1 i) hs.1.1 hs0 ?_ ?_
 .rintro i1 ft hs1 e
  exact sr (an (nretP [I (-1)] (ci hs1)))
 rintro i1 y1 rz1 hd1 df aS dZ gy hs3 hx1 ag1 e
 refine sr (tO df U (qO 16 U (aB (iR wK ty105 hs.1 aS U U U (λ_ _ _ e=>e) (λq2 r2 A2 ok2=>dq ty105 A2 U U (aB (ke (v:=.bool (f y1)) [] (List.nil_sublist _) (hf h y1 r2 lf ok2) U U (aJ (ae hs3 U (λc2 hs4=>?_) (λc2 hs5=>?_))))))))))
 .exact sr (qO 3 U (nretP [I (i1:Int)] (ci hs4)))
 exact aI (qT 2 U (oi i1 U (qO 2 U (ag1 hs5))))
theorem Ei(s:List Version)(f:Version->Bool):aY s f<(s.length:Int):=by
 have key:∀(l:List Version)(i:Nat),aY.L1 f aY.K1 l i<((i+l.length:Nat):Int):=by
  intro l
  induction l with
  |nil=>intro i;simp only[aY.L1,aY.K1];omega
  |cons y l ih=>
   intro i
   simp only[aY.L1,Bool.cond_eq_ite,xA]
   split
   .omega
   have:=ih (i+1);omega
 have:=key s 0
 simpa[aY]using this
end Go.Sg
