import Derived.Test.YtpplkjhgggjaoaaGreatDoorW7
/- A part of the proof of JudgeExactly. -/
set_option linter.unusedVariables false
set_option linter.unusedSimpArgs false
set_option maxRecDepth 100000
open List renaming length_cons→zA,length_append→jA,mem_cons_of_mem→vA,not_mem_nil→kA,mem_cons_self→zB,length_nil→jB,toArray→vB,mem_cons→kB,mem_singleton→kC,append_assoc→qE,mem_of_getElem?→xE,getElem?_eq_getElem→kF,nil_append→jG,range→kG,mem_append→qH,perm_append_comm→jJ,map_cons→xK,getElem?_eq_none→vL,mem_append_right→zP,mem_map_of_mem→vP,nodup_cons→xR,getElem?_map→aAa,mem_append_left→aAc,map_append→aAA,nodup_nil→aAI,nodup_append→aAY
open Go.Sg.Rp renaming int→qC,aO→vG
open Go.Value renaming int→xC
open Go.Sg.Approval renaming cells→zD,aj→jH
open Bool renaming or_eq_true→xD
open Go.Sg.Interest renaming cells→jD,rp→kM,aj→aAt,mk→aAv
open Go.Sg.Policy renaming cells→kD,mk→xM,ok→zN
open Go.Sg.OSeat renaming cells→jE,enc→aAl,rp→aB9
open Go.Sg.SlC renaming nil→vE
open Go.Sg.HF renaming le_trans→zF,le→jM,le_refl→qP
open Go.Sg.Expr renaming mk→qG
open Nat renaming le_refl→xG,zero_le→jL,lt_or_ge→jP,le_trans→xS
open Go.Sg.Appoint renaming rp→xH,aj→kP
open Go.Obj renaming cells→kH
open Go.Deferred renaming ofValue→kJ
open Go.Sg.Register renaming cells→xL
open Go.Sg.Version renaming aj→vM,rp→qQ,cells→aAz,mk→aAZ,ok→aB1
open Go.Sg.Deputy renaming cells→vN,aj→jS,rp→aAq,mk→aBc
open Array renaming ext'→aAs

namespace Go.Sg
open Go.Proofs Go.Proofs.Tryz
set_option maxHeartbeats 2000000
theorem tV(h:HF)(seq:List Deputy)(seq_v:Value)(hseq:Itr prog seq_v sD seq h)(hsz:seq.length<=2000000):j1 prog 109 [seq_v] h (λv h'=>∃(rb0:Option Addr)(rc0:Nat),v=.slice rb0 (de seq).length rc0/\SlC aAq h' rb0 rc0 (de seq)):=by
 refine sT func109 U ntmps109 U λX hM hX hF=>?_
 have hs0:de seq=de seq:=rfl
 refine qT 7 U (aC (cS call203 (se h seq seq_v hseq ob) U (λv1 h1 hle1 hp1=>?_)))
 obtain⟨rb1,rc1,rfl,sl1⟩:=hp1
 refine an ?_
 have hs1:de seq=(cM seq):=hs0
 exact nretH [.slice rb1 ((cM seq).length) rc1] ⟨rb1,rc1,congrArg (λr:List Deputy=>(.slice rb1 r.length rc1:Value)) hs1.symm,(by rw[hs1];exact sl1)⟩
theorem tW(s:List Deputy):de s=s:=by
 have:∀(s acc:List Deputy),cM.L1 cM.K1 s acc=acc++s:=by
  intro s
  induction s with
  |nil=>intro acc;exact(List.append_nil _).symm
  |cons y s ih=>intro acc;simp only[cM.L1,ih,qE,List.cons_append,jG]
 exact(this s []).trans (jG _)
theorem m5(h:HF)(q:cI)(x:Deputy)  : Ret prog 204 [.agg (cI.cells q).toArray,.agg (vN x).toArray] h (.bool (fE q x)):=by
 refine sT func204 U ntmps204 U λX hM hX hF=>?_
 have hs0:fE q x=fE q x:=rfl
 refine sr (cy (λb1=>cy (λb2=>qL 10 [0,1] U (bj 6 [10,11,12,13,14,15,16] 10 16 (decide (x.Known<=q.known)) U (λc1 hk1=>?_) (λe=>?_)))))
 .exact qL 6 [0,1] U (hk1 _ U)
 exact an (nretP [.bool (decide (x.At<=q.at_)&&decide (x.Known<=q.known))] (cs hs0))
theorem rI(h:HF)(q:cI)(x:Deputy)  : Ret prog 206 [.agg (cI.cells q).toArray,.agg (vN x).toArray] h (.bool (gg q x)):=by
 refine sT func206 U ntmps206 U λX hM hX hF=>?_
 have hs0:gg q x=gg q x:=rfl
 refine sr (cy (λb1=>cy (λb2=>qL 8 [0] U (bj 6 [8,9,10,11,12,13,14] 8 14 (decide (q.at_<x.Until)) U (λc1 hk1=>?_) (λe=>?_)))))
 .exact qL 6 [1,0] U (hk1 _ U)
 refine av (bj 6 [15,16,17,18,19,20,21] 15 21 (x.Office==q.office) U (λc2 hk2=>?_) (λe=>?_))
 .exact qL 6 [0,1] U (hk2 _ U)
 refine av (bj 11 [22,23,24,25,26,27,28,29,30,31,32,33] 22 33 ((x.Kind==(-1))||(x.Kind==q.kind)) U (λc3 hk3=>?_) (λe=>?_))
 .refine qL 4 [0] U (bV 6 [26,27,28,29,30,31,32] 26 32 (x.Kind==q.kind) U (λc4 hk4=>?_) (λe=>?_))
  .exact qL 6 [0,1] U (hk4 _ U)
  exact eN U (hk3 _ U)
 refine av (bj 6 [34,35,36,37,38,39,40] 34 40 (decide (q.value<=x.Most)) U (λc5 hk5=>?_) (λe=>?_))
 .exact qL 6 [1,0] U (hk5 _ U)
 exact an (nretP [.bool (((((!x.Gone)&&decide (q.at_<x.Until))&&(x.Office==q.office))&&((x.Kind==(-1))||(x.Kind==q.kind)))&&decide (q.value<=x.Most))] (cs hs0))
theorem pw(h:HF)(v0:List Deputy)(tQ:Option Addr)(tP:Nat)(v0_q:Addr)(v1:List (eo×Deputy))(Nb:Nat)(v1_q:Addr)(v2:(Deputy->Bool))(v2_v:Value)(v2_q:Addr)(v3:cI)(v3_q:Addr)(hv0:SlC aAq h tQ tP v0)(av0:At h v0_q [.slice tQ v0.length tP])(hv1:s7 eo.enc (iT aAq) h Nb v1)(av1:At h v1_q [.map (some Nb)])(hv2:∀(h':HF)(dF:Deputy),jM h h'->um prog v2_v [.agg (vN dF).toArray] h' [] (.bool (v2 dF)))(av2:At h v2_q [v2_v])(av3:At h v3_q (cI.cells v3)):Itr prog (.func (.func 205) #[] (vB [.pointer (some v0_q),.pointer (some v1_q),.pointer (some v2_q),.pointer (some v3_q)])) sD (aF v0 v1 v2 v3) h:=by
 refine sE call205 ?_
 intro yf ya yb C Sp Pn h1 A hle m1 m2 m3 hC hy
 refine jg DW U ntmps205 U λX hXM hX=>?_
 have hs0:aF v0 v1 v2 v3=[]++aF v0 v1 v2 v3:=rfl
 refine sr (dh ty23 (av0.mono hle) U (qL 3 [] U ?_))
 refine lp2 v0 (λi w=>[(0,.func yf ya yb),(2,.pointer (some v1_q)),(3,.pointer (some v2_q)),(4,.pointer (some v3_q)),(8,.slice tQ v0.length tP),(9,I (v0.length:Int)),(10,I (i:Int))]) (λw=>w.2.2) (λw=>w.2.1) (λi w=>C w.1 w.2.2 w.2.1/\jM h1 w.2.2) (λs1 i w=>w.1++(aF.L1 v1 v2 v3 (aF.K1)) s1) ([],A,h1) ((hv0.mono jS hle).1.1) hs0 ⟨hC,lf⟩ ?_ ?_
 .rintro i1 ⟨dn1,A1_,hh1⟩ fp hs1 ⟨hC1_,hl1⟩ e
  refine et ?_
  have hs2:aF v0 v1 v2 v3=dn1:=hs1.trans (List.append_nil _)
  exact sF [] (A:=A1_) DW U (List.Sublist.refl _) (.inl (hs2▸hC1_))
 rintro i1 ⟨dn1,A1_,hh1⟩ y1 rz1 hd1 dj aY er gr hs3 ⟨hC1_,hl1⟩ hx1 ag1 e
 refine sr (tO dj U (qO 8 U (aC (iF vN wG ty93 (hv0.mono jS (hle.t hl1)).1 aY U U U (λq2 A2=>dz ty93 A2 U U (ba zc93 (λb2=>aQ 0 ty93 U U U U U U (il (L':=[(b2,O (vN y1) 93)]++(A1_)) U (qO 2 U ?_)))))))))
 let z1:Nat×Obj:=(b2,O (vN y1) 93)
 refine eM ([z1]) mixed kr jn (λem _=>?_)
 refine tf 0 U U (rh ty277 (av1.mono (hle.t hl1)) U) (qB [1] U (tf 2 U U (rj 0 ty3 U U U) (qB [3] U (tf 4 U U (rj 0 ty3 U U U) (qB [5] U (tf 6 U U (rj 0 ty3 U U U) (qB [7] U (tf 8 U U (rj 0 ty3 U U U) (tf 11 U U (λ_ _ hj=>jO ty93 U (hj.nth (i:=0) U) U) (tn 9 U (fN (cells:=[I y1.From,I y1.To,I y1.Office,I y1.Kind]) (places:=[(0,1),(1,1),(2,1),(3,1)]) Lk zc279 kr kr (⟨jn,tn 10 U ?_⟩))))))))))))
 obtain⟨o2,hb2,hm2⟩:=(hv1.mono (iT.mono jS) (hle.t hl1))
 refine nD (k:=(eo.mk y1.From y1.To y1.Office y1.Kind)) underlying277 ug hb2 hm2 (e8 zv93) (show(iT aAq) _ (.agg (vB [I 0,I 0,I 0,I 0,I 0,I 0,I 0,I 0,I 0,.bool false])) (aBc 0 0 0 0 0 0 0 0 0 false)from⟨_,U,U⟩) U U (λv2 hv2=>?_)
 obtain⟨_,rfl,rfl⟩:=hv2
 refine⟨jn,(tf 12 U U (λ_ _ _=>Ly (KT (mgetD v1 (eo.mk y1.From y1.To y1.Office y1.Kind) (aBc 0 0 0 0 0 0 0 0 0 false)) y1) eqg93 U U) (tm 13 U ?_))⟩
 refine du 27 U (λc1=>?_) (λc1=>?_)
 .refine tf 14 U U (rh ty223 (av2.mono (hle.t hl1)) U) (tf 15 U U (λ_ _ hj=>jO ty93 U (hj.nth (i:=0) U) U) (tn 16 U (lT (v:=.bool (v2 y1)) [] (List.nil_sublist _) (hv2 hh1 y1 (hle.t hl1)) U U (⟨jn,qA [17,18] U ?_⟩))))
  refine du 32 U (λc2=>?_) (λc2=>?_)
  .refine tf 19 U U (λ_ _ hj=>lM ty184 ((av3.mono (hle.t hl1)).mono hj.1) U U) (tf 20 U U (λ_ _ hj=>jO ty93 U (hj.nth (i:=0) U) U) (tn 21 U (fe call206 (rI hh1 v3 y1) U (⟨jn,tf 22 U U (λ_ _ _=>nI U (cb (show(gg v3 y1)=(((decide ((mgetD v1 (eo.mk y1.From y1.To y1.Office y1.Kind) (aBc 0 0 0 0 0 0 0 0 0 false))=y1))&&(v2 y1))&&(gg v3 y1))from by first|(rw[c1];rw[c2];rfl)|(rw[c2];rfl)|simp[c1,c2]))) (tm 23 U ?_)⟩))))
   refine du 37 U (λc3=>?_) (λc3=>?_)
   .have ct1:=c3
    have hs4:=hs3.trans (congrArg (dn1++·) (bt ct1))
    refine tm 24 U (tf 25 U U (λ_ _ hj=>jO ty93 U (hj.nth (i:=0) U) U) ?_)
    have hx1:aF v0 v1 v2 v3=dn1++(y1::(aF.L1 v1 v2 v3 (aF.K1) rz1)):=hs4
    refine tn 26 U (kp ([z1]) A1_ ap (hy dn1 y1 _ _ _ _ hx1 hl1 hC1_ U) U U (λh2 A3 hle1 hC1=>?_) (λh3 A4 hle2 hS1=>?_) (λch1 h4 A5 hle3 hP1 e=>gH (mP [] (A:=A5) DW (List.sublist_append_right _ _) hP1)))
    .have hs5:aF v0 v1 v2 v3=(dn1++[y1])++((aF.L1 v1 v2 v3 (aF.K1) rz1)):=hx1.trans ap
     exact⟨⟨hle1,λ_ hp=>List.Sublist.subset js hp⟩,nQ (K2:=[z1]) hle1 (λ_ hp=>hp) (qA [27,28] U (aV kr (qT 4 U (oi i1 U (qO 2 U (bz (L':=A3) js (ag1 ((dn1++[y1]),A3,h2) hs5 ⟨hC1,(hl1.t hle1)⟩)))))))⟩
    exact⟨⟨hle2,λ_ hp=>List.Sublist.subset js hp⟩,nQ (K2:=[z1]) hle2 (λ_ hp=>hp) (qA [27,28] U (aV kr (lu U (et (mF [] (A:=A4) DW U js (.inr hS1))))))⟩
   have ct2:=c3
   have hs6:=hs3.trans (congrArg (dn1++·) (bf ct2))
   exact tk 24 U U (qR 25 4 U (aV kr (qT 4 U (oi i1 U (qO 2 U (bz (L':=A1_) js (ag1 (dn1,A1_,hh1) hs6 ⟨hC1_,hl1⟩)))))))
  refine qR 19 3 U (tf 22 U U (λ_ _ _=>nI U (cb (show false=(((decide ((mgetD v1 (eo.mk y1.From y1.To y1.Office y1.Kind) (aBc 0 0 0 0 0 0 0 0 0 false))=y1))&&(v2 y1))&&(gg v3 y1))from by first|(rw[c1];rw[c2];rfl)|(rw[c2];rfl)|simp[c1,c2]))) (tm 23 U ?_))
  refine du 37 U (λc4=>?_) (λc4=>?_)
  .have ct3:=c4
   have hs7:=hs3.trans (congrArg (dn1++·) (bt ct3))
   refine tm 24 U (tf 25 U U (λ_ _ hj=>jO ty93 U (hj.nth (i:=0) U) U) ?_)
   have hx2:aF v0 v1 v2 v3=dn1++(y1::(aF.L1 v1 v2 v3 (aF.K1) rz1)):=hs7
   refine tn 26 U (kp ([z1]) A1_ ap (hy dn1 y1 _ _ _ _ hx2 hl1 hC1_ U) U U (λh5 A6 hle4 hC2=>?_) (λh6 A7 hle5 hS2=>?_) (λch2 h7 A8 hle6 hP2 e=>gH (mP [] (A:=A8) DW (List.sublist_append_right _ _) hP2)))
   .have hs8:aF v0 v1 v2 v3=(dn1++[y1])++((aF.L1 v1 v2 v3 (aF.K1) rz1)):=hx2.trans ap
    exact⟨⟨hle4,λ_ hp=>List.Sublist.subset js hp⟩,nQ (K2:=[z1]) hle4 (λ_ hp=>hp) (qA [27,28] U (aV kr (qT 4 U (oi i1 U (qO 2 U (bz (L':=A6) js (ag1 ((dn1++[y1]),A6,h5) hs8 ⟨hC2,(hl1.t hle4)⟩)))))))⟩
   exact⟨⟨hle5,λ_ hp=>List.Sublist.subset js hp⟩,nQ (K2:=[z1]) hle5 (λ_ hp=>hp) (qA [27,28] U (aV kr (lu U (et (mF [] (A:=A7) DW U js (.inr hS2))))))⟩
  have ct4:=c4
  have hs9:=hs3.trans (congrArg (dn1++·) (bf ct4))
  exact tk 24 U U (qR 25 4 U (aV kr (qT 4 U (oi i1 U (qO 2 U (bz (L':=A1_) js (ag1 (dn1,A1_,hh1) hs9 ⟨hC1_,hl1⟩)))))))
 refine qR 14 8 U (tf 22 U U (λ_ _ _=>nI U (cb (show false=(((decide ((mgetD v1 (eo.mk y1.From y1.To y1.Office y1.Kind) (aBc 0 0 0 0 0 0 0 0 0 false))=y1))&&(v2 y1))&&(gg v3 y1))from by first|(rw[c1];rfl)|(rw[c1];rfl)|simp[c1]))) (tm 23 U ?_))
 refine du 37 U (λc5=>?_) (λc5=>?_)
 .have ct5:=c5
  have hs10:=hs3.trans (congrArg (dn1++·) (bt ct5))
  refine tm 24 U (tf 25 U U (λ_ _ hj=>jO ty93 U (hj.nth (i:=0) U) U) ?_)
  have hx3:aF v0 v1 v2 v3=dn1++(y1::(aF.L1 v1 v2 v3 (aF.K1) rz1)):=hs10
  refine tn 26 U (kp ([z1]) A1_ ap (hy dn1 y1 _ _ _ _ hx3 hl1 hC1_ U) U U (λh8 A9 hle7 hC3=>?_) (λh9 A10 hle8 hS3=>?_) (λch3 h10 A11 hle9 hP3 e=>gH (mP [] (A:=A11) DW (List.sublist_append_right _ _) hP3)))
  .have hs11:aF v0 v1 v2 v3=(dn1++[y1])++((aF.L1 v1 v2 v3 (aF.K1) rz1)):=hx3.trans ap
   exact⟨⟨hle7,λ_ hp=>List.Sublist.subset js hp⟩,nQ (K2:=[z1]) hle7 (λ_ hp=>hp) (qA [27,28] U (aV kr (qT 4 U (oi i1 U (qO 2 U (bz (L':=A9) js (ag1 ((dn1++[y1]),A9,h8) hs11 ⟨hC3,(hl1.t hle7)⟩)))))))⟩
  exact⟨⟨hle8,λ_ hp=>List.Sublist.subset js hp⟩,nQ (K2:=[z1]) hle8 (λ_ hp=>hp) (qA [27,28] U (aV kr (lu U (et (mF [] (A:=A10) DW U js (.inr hS3))))))⟩
 have ct6:=c5
 have hs12:=hs3.trans (congrArg (dn1++·) (bf ct6))
 exact tk 24 U U (qR 25 4 U (aV kr (qT 4 U (oi i1 U (qO 2 U (bz (L':=A1_) js (ag1 (dn1,A1_,hh1) hs12 ⟨hC1_,hl1⟩)))))))
theorem qv(h:HF)(q:cI)(l:List Deputy)(eP:Option Addr)(eO:Nat)(hl:SlC aAq h eP eO l):j1 prog 110 [.agg (cI.cells q).toArray,.slice eP l.length eO] h (λv h'=>∃(rv0:Value),v=rv0/\Itr prog rv0 sD (aU q l) h'):=by
 refine sT func110 U ntmps110 U λX hM hX hF=>?_
 have hs0:aU q l=aU q l:=rfl
 refine sr (cy (λb1=>cy (λb2=>qO 4 U (cK 1 ty184 U U U (aC (eG U U (ba zc223 (λb3=>cT 0 ty223 U U U U U U (qO 3 U (aC (nC (λb4=>ba zc277 (λb5=>cT 0 ty277 U U U U U U (qL 8 [3] U ?_))))))))))))))
 let z1:Nat×Obj:=(b3,O [.func (.func 204) #[.agg (cI.cells q).toArray] #[]] 223)
 let z2:Nat×Obj:=(b2,O [.slice eP l.length eO] 23)
 let z3:Nat×Obj:=(b1,O (cI.cells q) 184)
 let z4:Nat×Obj:=(b5,O [.map (some b4)] 277)
 refine lp2 l (λi w=>[(2,Q b1),(3,Q b2),(5,Q b3),(6,Q b5),(15,.slice eP l.length eO),(16,I (l.length:Int)),(17,I (i:Int))]) (λ_=>h) (λw=>[z4,(b4,w.2),z1,z2,z3]) (λi w=>ja eo.enc (iT aAq) h w.2 w.1/\w.1.length<=0+i) (λs1 i w=>(aU.L1 q (aU.K1 q l)) s1 w.1) ([],.map #[] 0) hl.1.1 hs0 ⟨(ja.nil (enc:=eo.enc) (V:=(iT aAq)) (h:=h)),lc⟩ ?_ ?_
 .rintro i1 ⟨dC,kl⟩ fp hs1 ⟨mJ,OI⟩ e
  refine sr (aX 3 U hM (λh1 hle1 hb1=>aX 0 U hM (λh2 hle2 hb2=>aX 1 U hM (λh3 hle3 hb3=>aX 1 U hM (λh4 hle4 hb4=>aC (eG U U (an (eR 0 U hM (λh5 hle5 hb5=>?_)))))))))
  have mc1:s7 eo.enc (iT aAq) h5 b4 dC:=⟨_,hb5,(mJ.mono (iT.mono jS) (((hle1.t hle2).t hle3).t hle4)).mono (iT.mono jS) hle5⟩
  have hs2:aU q l=(aF l dC (fE q) q):=hs1
  exact nretH [.func (.func 205) #[] #[Q b2,Q b5,Q b3,Q b1]] ⟨(.func (.func 205) #[] #[Q b2,Q b5,Q b3,Q b1]),congrArg (λr:List Deputy=>((.func (.func 205) #[] #[Q b2,Q b5,Q b3,Q b1]):Value)) hs2.symm,(by rw[hs2];exact(pw h5 l eP eO ⟨b2,0,none⟩ dC b4 ⟨b5,0,none⟩ (fE q) (.func (.func 204) #[.agg (cI.cells q).toArray] #[]) ⟨b3,0,none⟩ q ⟨b1,0,none⟩ (hl.mono jS ((((hle1.t hle2).t hle3).t hle4).t hle5)) ((cA hb1).mono (((hle2.t hle3).t hle4).t hle5)) mc1 ((cA hb2).mono ((hle3.t hle4).t hle5)) (λh' dF hle=>IZ (fl:=[.agg (cI.cells q).toArray]) (cap:=[]) call204 (m5 h' q dF)) ((cA hb3).mono (hle4.t hle5)) ((cA hb4).mono hle5)))⟩
 rintro i1 ⟨dC,kl⟩ y1 rz1 hd1 dj aY er gr hs3 ⟨mJ,OI⟩ hx1 ag1 e
 refine sr (tO dj U (qO 8 U (aC (iF vN wG ty93 hl.1 aY U U U (λq2 A2=>dz ty93 A2 U U (ba zc93 (λb9=>aQ 0 ty93 U U U U U U (qL 11 [0,0,0,0] U (aC (fN (cells:=[I y1.From,I y1.To,I y1.Office,I y1.Kind]) (places:=[(0,1),(1,1),(2,1),(3,1)]) Lk zc279 kr kr (ba zc279 (λb10=>aQ 0 ty279 U U U U U U (qL 4 [2] U (cK 0 ty279 U U U (aC (lv 3 (k:=(eo.mk y1.From y1.To y1.Office y1.Kind)) underlying277 ug U mJ (e8 zv93) (show(iT aAq) _ (.agg (vB [I 0,I 0,I 0,I 0,I 0,I 0,I 0,I 0,I 0,.bool false])) (aBc 0 0 0 0 0 0 0 0 0 false)from⟨_,U,U⟩) U U (λv2 hv2=>?_)))))))))))))))))
 obtain⟨_,rfl,rfl⟩:=hv2
 refine qO 3 U (ba zc93 (λb11=>aQ 0 ty93 U U U U U U (qL 5 [5] U (cK 2 ty93 U U U (aC (lT (v:=.bool (fE q y1)) [] (List.nil_sublist _) (IZ (fl:=[.agg (cI.cells q).toArray]) (args:=[.agg (vN y1).toArray]) (cap:=[]) call204 (m5 h q y1)) U U (av (bj 10 [39,40,41,42,43,44,45,46,47,48,49] 39 49 ((!(mhas dC (eo.mk y1.From y1.To y1.Office y1.Kind)))||decide ((mgetD dC (eo.mk y1.From y1.To y1.Office y1.Kind) (aBc 0 0 0 0 0 0 0 0 0 false)).At<=y1.At)) U (λc1 hk1=>?_) (λe=>?_)))))))))
 .refine qO 3 U (bV 6 [42,43,44,45,46,47,48] 42 48 (decide ((mgetD dC (eo.mk y1.From y1.To y1.Office y1.Kind) (aBc 0 0 0 0 0 0 0 0 0 false)).At<=y1.At)) U (λc2 hk2=>?_) (λe=>?_))
  .exact qL 6 [2,0] U (hk2 _ U)
  exact eN U (hk1 _ U)
 refine aJ (ae hs3 U (λc3 hs4=>?_) (λc3 hs5=>?_))
 .exact qK 2 [3] U (cK 1 ty279 U U U (cK 2 ty93 U U U (aC (kb 4 (k:=(eo.mk y1.From y1.To y1.Office y1.Kind)) (x:=y1) underlying277 ug U mJ U U ⟨_,U,U⟩ (λmo1 hm1=>qO 3 U (oi i1 U (qO 2 U (bz (L':=[z4,(b4,mo1),z1,z2,z3]) js (ag1 ((mput dC (eo.mk y1.From y1.To y1.Office y1.Kind) y1),mo1) hs4 ⟨hm1,(by have:=mI dC (eo.mk y1.From y1.To y1.Office y1.Kind) y1;first|omega|(simp only[jB,zA]at *;omega))⟩)))))))))
 exact aN (qT 2 U (oi i1 U (qO 2 U (bz (L':=[z4,(b4,kl),z1,z2,z3]) js (ag1 (dC,kl) hs5 ⟨mJ,lc⟩)))))
theorem pE(q:cI)(l:List Deputy):(aU q l).length<=l.length:=by
 have h1:∀(v:List (eo×Deputy))(s:List Deputy),(aF.L1 v (fE q) q aF.K1 s).length<=s.length:=by
  intro v s
  induction s with
  |nil=>exact xG _
  |cons y s ih=>simp only[aF.L1,Bool.cond_eq_ite];split<;>simp only[zA]<;>omega
 have h2:∀(s:List Deputy)(g:List (eo×Deputy)),(aU.L1 q (aU.K1 q l) s g).length<=l.length:=by
  intro s
  induction s with
  |nil=>intro g;exact h1 g l
  |cons y s ih=>intro g;simp only[aU.L1,Bool.cond_eq_ite];split<;>exact ih _
 exact h2 _ _
theorem Bw(h:HF)(l:List Deputy)(eP:Option Addr)(eO:Nat)(dL:Int)(to:Int)(office:Int)(kind:Int)(value:Int)(km:Int)(known:Int)(hl:SlC aAq h eP eO l)(hsz:l.length<=2000000):j1 prog 30 [.slice eP l.length eO,I dL,I to,I office,I kind,I value,I km,I known] h (λv h'=>∃(rb0:Option Addr)(rc0:Nat),v=.tuple #[.slice rb0 ((aH l dL to office kind value km known).1).length rc0,.bool ((aH l dL to office kind value km known).2.1),I ((aH l dL to office kind value km known).2.2)]/\SlC qC h' rb0 rc0 ((aH l dL to office kind value km known).1)):=by
 refine sT func30 U ntmps30 U λX hM hX hF=>?_
 have hs0:aH l dL to office kind value km known=aH l dL to office kind value km known:=rfl
 have hcv:(de (aU (cI.mk office kind value km known) l)).length<=2000000:=by rw[tW];exact xS (pE _ _) hsz
 refine qT 13 U (aC (fN (cells:=[I office,I kind,I value,I km,I known]) (places:=[(0,1),(1,1),(2,1),(3,1),(4,1)]) underlying184 zc184 kr kr (ba zc184 (λb1=>aQ 0 ty184 U U U U U U (qO 7 U (cK 0 ty184 U U U (ai call108 (DD _ _ _ _ dL to (cI.mk office kind value km known) hl) U (qO 7 U (ae hs0 U (λc1 hs1=>?_) (λc1 hs2=>?_))))))))))
 .refine qT 7 U ?_
  have hs3:aH l dL to office kind value km known=([],false,(ll l dL to (cI.mk office kind value km known))):=hs1
  exact nretH [.slice none 0 0,.bool false,I (ll l dL to (cI.mk office kind value km known))] ⟨none,0,congrArg (λr:(List Int×Bool×Int)=>(.tuple #[.slice none r.1.length 0,.bool r.2.1,I r.2.2]:Value)) hs3.symm,(by rw[hs3];exact vE)⟩
 refine qT 3 U (cK 0 ty184 U U U (av (aC (cS call110 (qv _ (cI.mk office kind value km known) _ _ _ hl) U (λv1 h1 hle1 hp1=>?_)))))
 obtain⟨_,rfl,mo1⟩:=hp1
 refine aC (cS call109 (tV h1 (aU (cI.mk office kind value km known) l) v1 mo1 (xS (pE _ _) hsz)) U (λv2 h2 hle2 hp2=>?_))
 obtain⟨rb1,rc1,rfl,sl1⟩:=hp2
 refine qO 4 U (aC (nC (λb2=>av (aC (wN 0 (k:=to) (x:=0) Av (fC m6) U (ja.nil (enc:=(xC .i64)) (V:=vm) (h:=h2)) U U U (λmo2 hm1=>qO 8 U ?_))))))
 let z1:Nat×Obj:=(b1,O [I office,I kind,I value,I km,I known] 184)
 refine iL (ι:=Nat×(List (Int×Int))×Obj) (λi=>[(1,I dL),(16,.slice none 0 0),(20,.slice rb1 ((de (aU (cI.mk office kind value km known) l)).length) rc1),(21,.map (some b2))]) (λi=>h2) (λi=>[(b2,i.2.2),z1]) (λi=>i.1<=(kG 8).length/\aH l dL to office kind value km known=((aH.K1 l dL office kind value km known) i.2.1)/\ja (xC .i64) vm h2 i.2.2 i.2.1/\(∀p∈i.2.1,0<=p.2/\p.2<=8)) ?_ (λhx1=>?_)
 .rintro⟨i1,bM,ec⟩ ⟨fp,hs4,gv,u1_0⟩ e
  try dsimp only at fp gv u1_0
  have hf8:=(yk (P:=λx:Int=>0<=x/\x<=8) dL u1_0 (show(0:Int)<=0/\(0:Int)<=8 from⟨Int.le_refl _,by omega⟩))
  have hrg:=List.length_range (n:=(mgetD bM dL 0).toNat)
  refine qT 4 U (aC (lv 0 (k:=dL) Av (fC m6) U gv (e8 zv3) (show vm _ (I 0) 0 from U) U U (λv5 hv3=>?_)))
  obtain rfl:=hv3
  refine qO 12 U (ae hs4 U (λc3 hs5=>?_) (λc3 hs6=>?_))
  .refine qT 6 U ?_
   have hs7:aH l dL to office kind value km known=([],false,0):=hs5
   exact nretH [.slice none 0 0,.bool false,I 0] ⟨none,0,congrArg (λr:(List Int×Bool×Int)=>(.tuple #[.slice none r.1.length 0,.bool r.2.1,I r.2.2]:Value)) hs7.symm,(by rw[hs7];exact vE)⟩
  refine qT 7 U ?_
  refine iL (ι:=Nat×List Int×Option Addr×Nat×LH×Int) (λi=>[(16,.slice i.2.2.1 i.2.1.length i.2.2.2.1)]) (λi=>h2) (λi=>[(b2,ec),z1]++(i.2.2.2.2.1)) (λi=>i.1<=(kG (((mgetD bM dL 0)).toNat)).length/\aH l dL to office kind value km known=((aH.K4) i.2.1 i.2.2.2.2.2)/\dG qC 3 h2 i.2.1 i.2.2.1 i.2.2.2.1 i.2.2.2.2.1/\i.2.1.length<=i.1) ?_ (λhx4=>?_)
  .rintro⟨i4,xq,Cq,Cp,H6,C9⟩ ⟨xn,hs8,Co,KM⟩ e
   try dsimp only at xn Co KM
   refine qT 7 U (fF vG ([(b2,ec),z1]) H6 ([]) ap hM Co (λh3 hle3 sl2=>?_))
   have hs9:aH l dL to office kind value km known=(xq,true,0):=hs8
   exact nretH [.slice Cq xq.length Cp,.bool true,I 0] ⟨Cq,Cp,congrArg (λr:(List Int×Bool×Int)=>(.tuple #[.slice Cq r.1.length Cp,.bool r.2.1,I r.2.2]:Value)) hs9.symm,(by rw[hs9];exact sl2)⟩
  refine kg (ι:=Nat×List Int×Option Addr×Nat×LH×Int×List Nat) (λi=>[(16,.slice i.2.2.1 i.2.1.length i.2.2.2.1),(20,.slice rb1 ((de (aU (cI.mk office kind value km known) l)).length) rc1),(21,.map (some b2)),(29,I ((((((mgetD bM dL 0)).toNat)-i.1):Nat):Int)),(31,I i.2.2.2.2.2.1)]) (λi=>h2) (λi=>[(b2,ec),z1]++(i.2.2.2.2.1)) (λi=>(kG (((mgetD bM dL 0)).toNat)).drop i.1=i.2.2.2.2.2.2/\i.1<=(kG (((mgetD bM dL 0)).toNat)).length/\aH l dL to office kind value km known=((aH.L4 l dL office kind value km known bM (aH.K4)) i.2.2.2.2.2.2 i.1 i.2.1 i.2.2.2.2.2.1)/\dG qC 3 h2 i.2.1 i.2.2.1 i.2.2.2.1 i.2.2.2.2.1/\i.2.1.length<=i.1) (λi=>i.2.2.2.2.2.2.length) (0,[],none,0,[],dL,(kG (((mgetD bM dL 0)).toNat))) ⟨U,U,U,(congrArg (xC .i64) (show(mgetD bM dL 0)=((((((mgetD bM dL 0)).toNat)-0):Nat):Int)from(by have hq:=(yk (P:=λx:Int=>0<=x/\x<=8) dL u1_0 (show(0:Int)<=0/\(0:Int)<=8 from⟨Int.le_refl _,by omega⟩));omega))),U,trivial⟩ sw ⟨U,jL _,hs6,dG.nil,lo⟩ ?_
  rintro⟨i4,xq,Cq,Cp,H6,C9,s4⟩ ⟨hd4,Jx,hs10,Co,KM⟩ ag1 e
  try dsimp only at hd4 Jx Co KM
  rcases s4 with _|⟨y4,rz4⟩
  .have QG:decide (0<((((((mgetD bM dL 0)).toNat)-i4):Nat):Int))=false:=decide_eq_false (by have q_:=of_decide_eq_false (mR hd4);rw[List.length_range]at q_;omega)
   exact el (qT 3 U (fO QG U (qO 3 U (hx4 (i4,xq,Cq,Cp,H6,C9) _ ⟨Jx,hs10,Co,lo⟩ rd))))
  have KG:decide (0<((((((mgetD bM dL 0)).toNat)-i4):Nat):Int))=true:=decide_eq_true (by have q_:=io hd4;rw[List.length_range]at q_;omega)
  have E1:i4<(((mgetD bM dL 0)).toNat):=by simpa using io hd4
  refine qT 4 U (tO KG U (qL 11 [] U ?_))
  refine lp3 (de (aU (cI.mk office kind value km known) l)) (λi w=>[(16,.slice w.2.1 w.1.length w.2.2.1),(20,.slice rb1 ((de (aU (cI.mk office kind value km known) l)).length) rc1),(21,.map (some b2)),(29,I ((((((mgetD bM dL 0)).toNat)-i4):Nat):Int)),(31,I w.2.2.2.2),(110,.slice rb1 ((de (aU (cI.mk office kind value km known) l)).length) rc1),(111,I (((de (aU (cI.mk office kind value km known) l)).length:Nat):Int)),(112,I (i:Int))]) (λ_=>h2) (λw=>[(b2,ec),z1]++(w.2.2.2.1)) (λi w=>dG qC 3 h2 w.1 w.2.1 w.2.2.1 w.2.2.2.1/\w.1.length<=i4) (λi w=>dG qC 3 h2 w.1 w.2.1 w.2.2.1 w.2.2.2.1/\w.1.length<=i4+1) (λ_ _ h=>⟨h.1,Nat.le_succ_of_le h.2⟩) (λs6 i w=>(aH.L6 dL bM i4 (λzg6_16 zg6_31=>(aH.L4 l dL office kind value km known bM (aH.K4) rz4 (i4+1) zg6_16 zg6_31))) s6 w.1 w.2.2.2.2) (xq,Cq,Cp,H6,C9) sl1.1.1 hs10 ⟨Co,lo⟩ ?_ ?_
  .rintro i6 ⟨Bd,KK,KJ,E6,C7⟩ E3 hs12 ⟨Cn,KI⟩ e
   try dsimp only at Cn KI
   exact eF (qT 2 U (iQ (v':=I ((((((mgetD bM dL 0)).toNat)-(i4+1)):Nat):Int)) U (Ih E1 ob) (an (ag1 ((i4+1),Bd,KK,KJ,E6,C7,rz4) _ (Nat.lt_succ_self _) ⟨kx hd4,io hd4,hs12,Cn,lo⟩ rd))))
  rintro i6 ⟨Bd,KK,KJ,E6,C7⟩ y6 rz6 hd6 Ou Jy P9 Q0 hs13 ⟨Cn,KI⟩ hx6 ag2 e
  try dsimp only at Cn KI
  refine sr (tO Ou U (qO 8 U (aC (iF vN wG ty93 sl1.1 Jy U U U (λq4 A4=>dz ty93 A4 U U (ba zc93 (λb6=>aQ 0 ty93 U U U U U U (il (L':=[(b6,O (vN y6) 93),(b2,ec),z1]++(E6)) U (qL 6 [0] U (aC (lv 1 (k:=y6.To) Av (fC m6) U gv (e8 zv3) (show vm _ (I 0) 0 from U) U U (λv8 hv6=>?_))))))))))))
  obtain rfl:=hv6
  refine qL 13 [0] U (bj 2 [127,128,129] 127 129 (mhas bM y6.To) U (λc5 hk1=>?_) (λe=>?_))
  .exact av (eN U (hk1 _ U))
  refine av (bj 5 [130,131,132,133,134,135] 130 135 ((mgetD bM y6.To 0)==((((((mgetD bM dL 0)).toNat)-(i4+1)):Nat):Int)) U (λc6 hk2=>?_) (λe=>?_))
  .exact av (av (iQ (v':=I ((((((mgetD bM dL 0)).toNat)-(i4+1)):Nat):Int)) U (Ih E1 ob) (qO 2 U (hk2 _ U))))
  refine aJ (ae hs13 U (λc7 hs14=>?_) (λc7 hs15=>?_))
  .refine el ?_
   let z2:Nat×Obj:=(b6,O (vN y6) 93)
   refine eM ([z2,(b2,ec),z1]) mixed kr jn (λem _=>?_)
   exact tm 0 U (qB [1] U (tf 2 U U (rj 0 ty3 U U U) (qB [5] U (tf 6 U U (rj 0 ty3 U U U) (tn 3 U (bK (cells:=[I y6.No]) dY ty3 zc3 U U kr (λb7=>⟨jn,tn 4 U (dK Rp.iK ([(b7,O [I y6.No] 3),z2,(b2,ec),z1]) ([]) (λG=>[(b7,O [I y6.No] 3),z2,(b2,ec),z1]++G) ap (λ_=>ap) dY ty3 zc3 U bytes3 Cn U U (fd 0 U (cE (y6.No) U U)) lo lo (λob1 oc1 G1 gr1=>⟨jn,qA [7,8] U (aV kr (lI U (bz (L':=[(b2,ec),z1]++G1) js (hx6 i6 ((Bd++[y6.No]),ob1,oc1,G1,y6.To) hs14 ⟨gr1,lo⟩))))⟩))⟩)))))))
  exact aN (qT 2 U (oi i6 U (qO 2 U (bz (L':=[(b2,ec),z1]++(E6)) js (ag2 (Bd,KK,KJ,E6,C7) hs15 ⟨Cn,lo⟩)))))
 refine kg (ι:=Nat×(List (Int×Int))×Obj×List Nat) (λi=>[(1,I dL),(16,.slice none 0 0),(20,.slice rb1 ((de (aU (cI.mk office kind value km known) l)).length) rc1),(21,.map (some b2)),(57,I (i.1:Int))]) (λi=>h2) (λi=>[(b2,i.2.2.1),z1]) (λi=>(kG 8).drop i.1=i.2.2.2/\i.1<=(kG 8).length/\aH l dL to office kind value km known=((aH.L1 l office kind value km known (aH.K1 l dL office kind value km known)) i.2.2.2 i.1 i.2.1)/\ja (xC .i64) vm h2 i.2.2.1 i.2.1/\(∀p∈i.2.1,0<=p.2/\p.2<=8)) (λi=>i.2.2.2.length) (0,(mput ([]) to 0),mo2,(kG 8)) rd sw ⟨U,jL _,hs2,hm1,(λp hp=>by rw[kC.1 hp];exact⟨Int.le_refl _,by omega⟩)⟩ ?_
 rintro⟨i1,bM,ec,s1⟩ ⟨hd1,fp,hs16,gv,u1_0⟩ ag3 e
 try dsimp only at hd1 fp gv u1_0
 rcases s1 with _|⟨y1,rz1⟩
 .have ga:decide ((i1:Int)<8)=false:=by simpa using mR hd1
  exact sr (fO ga U (qO 4 U (hx1 (i1,bM,ec) _ ⟨fp,hs16,gv,u1_0⟩ rd)))
 have dj:decide ((i1:Int)<8)=true:=by simpa using sQ hd1
 have er:i1<8:=by simpa using io hd1
 have hr8:i1<8:=er
 refine sr (tO dj U (qL 17 [] U ?_))
 refine lp2 (de (aU (cI.mk office kind value km known) l)) (λi w=>[(1,I dL),(16,.slice none 0 0),(20,.slice rb1 ((de (aU (cI.mk office kind value km known) l)).length) rc1),(21,.map (some b2)),(22,I (i1:Int)),(57,I (i1:Int)),(60,.slice rb1 ((de (aU (cI.mk office kind value km known) l)).length) rc1),(61,I (((de (aU (cI.mk office kind value km known) l)).length:Nat):Int)),(62,I (i:Int))]) (λ_=>h2) (λw=>[(b2,w.2),z1]) (λi w=>ja (xC .i64) vm h2 w.2 w.1/\(∀p∈w.1,0<=p.2/\p.2<=8)) (λs3 i w=>(aH.L3 i1 (λzg3_b2_0=>(aH.L1 l office kind value km known (aH.K1 l dL office kind value km known) rz1 (i1+1) zg3_b2_0))) s3 w.1) (bM,ec) sl1.1.1 hs16 ⟨gv,ob⟩ ?_ ?_
 .rintro i3 ⟨mW,Bf⟩ Jx hs18 ⟨qi,u3_0⟩ e
  try dsimp only at qi u3_0
  exact eF (bE (oi i1 U (qO 2 U (ag3 ((i1+1),mW,Bf,rz1) _ (Nat.lt_succ_self _) ⟨kx hd1,io hd1,hs18,qi,ob⟩ rd))))
 rintro i3 ⟨mW,Bf⟩ y3 rz3 hd3 Cl C6 C5 PJ hs19 ⟨qi,u3_0⟩ hx3 ag4 e
 try dsimp only at qi u3_0
 refine sr (tO Cl U (qO 8 U (aC (iF vN wG ty93 sl1.1 C6 U U U (λq6 A6=>dz ty93 A6 U U (ba zc93 (λb9=>aQ 0 ty93 U U U U U U (qL 6 [0] U (aC (lv 1 (k:=y3.From) Av (fC m6) U qi (e8 zv3) (show vm _ (I 0) 0 from U) U U (λv11 hv9=>?_)))))))))))
 obtain rfl:=hv9
 refine qL 11 [0] U (aC (lv 1 (k:=y3.To) Av (fC m6) U qi (e8 zv3) (show vm _ (I 0) 0 from U) U U (λv12 hv10=>?_)))
 obtain rfl:=hv10
 refine qO 10 U (bj 4 [81,82,83,84,85] 81 85 ((mgetD mW y3.To 0)==(i1:Int)) U (λc8 hk3=>?_) (λe=>?_))
 .exact av (qO 3 U (hk3 _ U))
 refine av (bj 3 [86,87,88,89] 86 89 (!(mhas mW y3.From)) U (λc9 hk4=>?_) (λe=>?_))
 .exact av (qO 2 U (hk4 _ U))
 refine aJ (ae hs19 U (λc10 hs20=>?_) (λc10 hs21=>?_))
 .exact qK 5 [0] U (oi i1 U (aC (kb 1 (k:=y3.From) (x:=(((i1+1):Nat):Int)) Av (fC m6) U qi U U U (λmo3 hm2=>qO 3 U (oi i3 U (qO 2 U (bz (L':=[(b2,mo3),z1]) js (ag4 ((mput mW y3.From (((i1+1):Nat):Int)),mo3) hs20 ⟨hm2,(by first|assumption|exact uy (P:=λx:Int=>0<=x/\x<=8) _ ob ob)⟩))))))))
 exact aN (qT 2 U (oi i3 U (qO 2 U (bz (L':=[(b2,Bf),z1]) js (ag4 (mW,Bf) hs21 ⟨qi,(by first|assumption|exact uy (P:=λx:Int=>0<=x/\x<=8) _ ob ob)⟩)))))
theorem xk(h:HF)(l:List Interest)(eP:Option Addr)(eO:Nat)(person:Int)(parties:List Int)(ls:Option Addr)(lr:Nat)(dl:Int)(known:Int)(hl:SlC kM h eP eO l)(hparties:SlC qC h ls lr parties):Ret prog 111 [.slice eP l.length eO,I person,.slice ls parties.length lr,I dl,I known] h (I (cV l person parties dl known)):=by
 refine sT func111 U ntmps111 U λX hM hX hF=>?_
 have hs0:cV l person parties dl known=cV l person parties dl known:=rfl
 refine qT 8 U (ai call67 (sG _ _ _ _ hl) U (qO 7 U (ae hs0 U (λc1 hs1=>?_) (λc1 hs2=>?_))))
 .exact sr (qO 3 U (nretP [I (cX l)] (ci hs1)))
 refine qK 12 [] U ?_
 refine lp1 parties (λi w=>[(1,I person),(2,.slice ls parties.length lr),(3,I dl),(4,I known),(12,I w),(20,.slice ls parties.length lr),(21,I (parties.length:Int)),(22,I (i:Int))]) ([]) (λs1 i w=>(cV.L1 (cV.K1 person parties dl known)) s1 w) (-1) hparties.1.1 hs2 ?_ ?_
 .rintro i1 n8 fp hs4 e
  refine qT 4 U (ai CA (hO h person 64) U (qO 2 U (bV 4 [38,39,40,41,42] 38 42 (decide (16<(parties.length:Int))) U (λc2 hk1=>?_) (λe=>?_))))
  .exact qL 4 [] U (hk1 _ U)
  refine av (bV 4 [43,44,45,46,47] 43 47 (!(bJ dl 1099511627776)) U (λc3 hk2=>?_) (λe=>?_))
  .exact av (ai CA (hO h dl 1099511627776) U (qO 2 U (hk2 _ U)))
  refine av (bV 4 [48,49,50,51,52] 48 52 (!(bJ known 1099511627776)) U (λc4 hk3=>?_) (λe=>?_))
  .exact av (ai CA (hO h known 1099511627776) U (qO 2 U (hk3 _ U)))
  refine aJ (ae hs4 U (λc5 hs5=>?_) (λc5 hs6=>?_))
  .exact sr (an (nretP [I 1] (ci hs5)))
  exact aN (qT 4 U (nretP [I 0] (ci hs6)))
 rintro i1 n8 y1 rz1 hd1 dj aY er gr hs9 hx1 ag1 e
 refine sr (tO dj U (qO 8 U (aC (iF (λy=>[I y]) dY ty3 hparties.1 aY U U U (λq2 A2=>dh ty3 A2 U (qO 9 U (bV 3 [29,30,31,32] 29 32 (decide (1048576<y1)) U (λc6 hk4=>?_) (λe=>?_))))))))
 .exact av (qO 2 U (hk4 _ U))
 refine aJ (ae hs9 U (λc7 hs10=>?_) (λc7 hs11=>?_))
 .exact sr (an (nretP [I 1] (ci hs10)))
 exact aN (qT 6 U (oi i1 U (qO 2 U (ag1 y1 hs11))))
theorem uC(h:HF)(v0:List Interest)(tQ:Option Addr)(tP:Nat)(v0_q:Addr)(v1:List (ed×Interest))(Nb:Nat)(v1_q:Addr)(hv0:SlC kM h tQ tP v0)(av0:At h v0_q [.slice tQ v0.length tP])(hv1:s7 ed.enc (iT kM) h Nb v1)(av1:At h v1_q [.map (some Nb)]):Itr prog (.func (.func 208) #[] (vB [.pointer (some v0_q),.pointer (some v1_q)])) ve (bW v0 v1) h:=by
 refine sE call208 ?_
 intro yf ya yb C Sp Pn h1 A hle m1 m2 m3 hC hy
 refine jg Iy U ntmps208 U λX hXM hX=>?_
 have hs0:bW v0 v1=[]++bW v0 v1:=rfl
 refine sr (dh ty24 (av0.mono hle) U (qL 3 [] U ?_))
 refine lp2 v0 (λi w=>[(0,.func yf ya yb),(2,.pointer (some v1_q)),(6,.slice tQ v0.length tP),(7,I (v0.length:Int)),(8,I (i:Int))]) (λw=>w.2.2) (λw=>w.2.1) (λi w=>C w.1 w.2.2 w.2.1/\jM h1 w.2.2) (λs1 i w=>w.1++(bW.L1 v1 (bW.K1)) s1) ([],A,h1) ((hv0.mono aAt hle).1.1) hs0 ⟨hC,lf⟩ ?_ ?_
 .rintro i1 ⟨dn1,A1_,hh1⟩ fp hs1 ⟨hC1_,hl1⟩ e
  refine et ?_
  have hs2:bW v0 v1=dn1:=hs1.trans (List.append_nil _)
  exact sF [] (A:=A1_) Iy U (List.Sublist.refl _) (.inl (hs2▸hC1_))
 rintro i1 ⟨dn1,A1_,hh1⟩ y1 rz1 hd1 dj aY er gr hs3 ⟨hC1_,hl1⟩ hx1 ag1 e
 refine sr (tO dj U (qO 8 U (aC (iF jD vx ty97 (hv0.mono aAt (hle.t hl1)).1 aY U U U (λq2 A2=>dz ty97 A2 U U (ba zc97 (λb2=>aQ 0 ty97 U U U U U U (il (L':=[(b2,O (jD y1) 97)]++(A1_)) U (qO 2 U ?_)))))))))
 let z1:Nat×Obj:=(b2,O (jD y1) 97)
 refine eM ([z1]) mixed kr jn (λem _=>?_)
 refine qB [0] U (tf 1 U U (rj 0 ty4 U U U) (qA [2,3] U ?_))
 refine du 15 U (λc1=>?_) (λc1=>?_)
 .refine tf 4 U U (rh ty282 (av1.mono (hle.t hl1)) U) (qB [5] U (tf 6 U U (rj 0 ty3 U U U) (qB [7] U (tf 8 U U (rj 0 ty3 U U U) (qB [9] U (tf 10 U U (rj 0 ty4 U U U) (tf 13 U U (λ_ _ hj=>jO ty97 U (hj.nth (i:=0) U) U) (tn 11 U (fN (cells:=[I y1.Person,I y1.Party,.bool y1.Of]) (places:=[(0,1),(1,1),(2,1)]) Lj zc284 kr kr (⟨jn,tn 12 U ?_⟩))))))))))
  obtain⟨o2,hb2,hm2⟩:=(hv1.mono (iT.mono aAt) (hle.t hl1))
  refine nD (k:=(ed.mk y1.Person y1.Party y1.Of)) underlying282 uf hb2 hm2 (e8 zv97) (show(iT kM) _ (.agg (vB [I 0,I 0,I 0,I 0,I 0,.bool false,.bool false])) (aAv 0 0 0 0 0 false false)from⟨_,U,U⟩) U U (λv2 hv2=>?_)
  obtain⟨_,rfl,rfl⟩:=hv2
  refine⟨jn,(tf 14 U U (λ_ _ _=>Ly (Ic (mgetD v1 (ed.mk y1.Person y1.Party y1.Of) (aAv 0 0 0 0 0 false false)) y1) eqg97 U U) (tf 15 U U (λ_ _ _=>nI U (cb (show(decide ((mgetD v1 (ed.mk y1.Person y1.Party y1.Of) (aAv 0 0 0 0 0 false false))=y1))=((!y1.Gone)&&(decide ((mgetD v1 (ed.mk y1.Person y1.Party y1.Of) (aAv 0 0 0 0 0 false false))=y1)))from by first|(rw[c1];rfl)|(rw[c1];rfl)|simp[c1]))) (tm 16 U ?_)))⟩
  refine du 28 U (λc2=>?_) (λc2=>?_)
  .have ct1:=c2
   have hs4:=hs3.trans (congrArg (dn1++·) (bt ct1))
   refine tm 17 U (tf 18 U U (λ_ _ hj=>jO ty97 U (hj.nth (i:=0) U) U) ?_)
   have hx1:bW v0 v1=dn1++(y1::(bW.L1 v1 (bW.K1) rz1)):=hs4
   refine tn 19 U (kp ([z1]) A1_ ap (hy dn1 y1 _ _ _ _ hx1 hl1 hC1_ U) U U (λh2 A3 hle1 hC1=>?_) (λh3 A4 hle2 hS1=>?_) (λch1 h4 A5 hle3 hP1 e=>gH (mP [] (A:=A5) Iy (List.sublist_append_right _ _) hP1)))
   .have hs5:bW v0 v1=(dn1++[y1])++((bW.L1 v1 (bW.K1) rz1)):=hx1.trans ap
    exact⟨⟨hle1,λ_ hp=>List.Sublist.subset js hp⟩,nQ (K2:=[z1]) hle1 (λ_ hp=>hp) (qA [20,21] U (aV kr (qT 4 U (oi i1 U (qO 2 U (bz (L':=A3) js (ag1 ((dn1++[y1]),A3,h2) hs5 ⟨hC1,(hl1.t hle1)⟩)))))))⟩
   exact⟨⟨hle2,λ_ hp=>List.Sublist.subset js hp⟩,nQ (K2:=[z1]) hle2 (λ_ hp=>hp) (qA [20,21] U (aV kr (lu U (et (mF [] (A:=A4) Iy U js (.inr hS1))))))⟩
  have ct2:=c2
  have hs6:=hs3.trans (congrArg (dn1++·) (bf ct2))
  exact tk 17 U U (qR 18 4 U (aV kr (qT 4 U (oi i1 U (qO 2 U (bz (L':=A1_) js (ag1 (dn1,A1_,hh1) hs6 ⟨hC1_,hl1⟩)))))))
 refine qR 4 11 U (tf 15 U U (λ_ _ _=>nI U (cb (show false=((!y1.Gone)&&(decide ((mgetD v1 (ed.mk y1.Person y1.Party y1.Of) (aAv 0 0 0 0 0 false false))=y1)))from by first|(rw[c1];rfl)|(rw[c1];rfl)|simp[c1]))) (tm 16 U ?_))
 refine du 28 U (λc3=>?_) (λc3=>?_)
 .have ct3:=c3
  have hs7:=hs3.trans (congrArg (dn1++·) (bt ct3))
  refine tm 17 U (tf 18 U U (λ_ _ hj=>jO ty97 U (hj.nth (i:=0) U) U) ?_)
  have hx2:bW v0 v1=dn1++(y1::(bW.L1 v1 (bW.K1) rz1)):=hs7
  refine tn 19 U (kp ([z1]) A1_ ap (hy dn1 y1 _ _ _ _ hx2 hl1 hC1_ U) U U (λh5 A6 hle4 hC2=>?_) (λh6 A7 hle5 hS2=>?_) (λch2 h7 A8 hle6 hP2 e=>gH (mP [] (A:=A8) Iy (List.sublist_append_right _ _) hP2)))
  .have hs8:bW v0 v1=(dn1++[y1])++((bW.L1 v1 (bW.K1) rz1)):=hx2.trans ap
   exact⟨⟨hle4,λ_ hp=>List.Sublist.subset js hp⟩,nQ (K2:=[z1]) hle4 (λ_ hp=>hp) (qA [20,21] U (aV kr (qT 4 U (oi i1 U (qO 2 U (bz (L':=A6) js (ag1 ((dn1++[y1]),A6,h5) hs8 ⟨hC2,(hl1.t hle4)⟩)))))))⟩
  exact⟨⟨hle5,λ_ hp=>List.Sublist.subset js hp⟩,nQ (K2:=[z1]) hle5 (λ_ hp=>hp) (qA [20,21] U (aV kr (lu U (et (mF [] (A:=A7) Iy U js (.inr hS2))))))⟩
 have ct4:=c3
 have hs9:=hs3.trans (congrArg (dn1++·) (bf ct4))
 exact tk 17 U U (qR 18 4 U (aV kr (qT 4 U (oi i1 U (qO 2 U (bz (L':=A1_) js (ag1 (dn1,A1_,hh1) hs9 ⟨hC1_,hl1⟩)))))))
end Go.Sg

namespace Go.Sg
open Go.Proofs Go.Proofs.Tryz Go.RowKit
theorem Gn{out:List Int}{x:Int}:(compStep out x).getLast? = some x:=by
 unfold compStep
 split
 .assumption
 .simp
theorem FH(xs:List Int):∀k,k<=xs.length->Lib.compactUpTo xs.toArray k=compI (xs.take k)/\(0<k->(compI (xs.take k)).getLast? = xs[k-1]?)
 |0,_=>⟨by simp[Lib.compactUpTo,compI],λh=>absurd h (Nat.lt_irrefl _)⟩
 |k+1,hk=>by
  obtain⟨h1,h2⟩:=FH xs k (by omega)
  have hx:xs[k]? = some xs[k]:=kF (by omega)
  have ht:xs.take (k+1)=xs.take k++[xs[k]]:=by rw[List.take_add_one,hx];rfl
  have hc:compI (xs.take (k+1))=compStep (compI (xs.take k)) xs[k]:=by unfold compI;rw[ht,List.foldl_append];rfl
  refine⟨?_,λ_=>by rw[hc,Gn,Nat.add_sub_cancel,hx]⟩
  rw[Lib.compactUpTo_succ,h1,hc]
  have hd:xs.toArray[k]! = xs[k]:=by simp[getElem!_pos,show k<xs.length by omega]
  rcases Nat.eq_zero_or_pos k with rfl|hk0
  .simp[Lib.keeps,compI,compStep,hd]
  .have hl:=h2 hk0
   have hd1:xs.toArray[k-1]! = xs[k-1]:=by simp[getElem!_pos,show k-1<xs.length by omega]
   have hx1:xs[k-1]? = some xs[k-1]:=kF (by omega)
   unfold compStep
   rw[hl,hx1,hd]
   by_cases he:xs[k-1]=xs[k]
   .have:Lib.keeps xs.toArray k=false:=Lib.keeps_neg hk0 (by rw[hd,hd1,he])
    simp[this,he]
   .have:Lib.keeps xs.toArray k=true:=Lib.keeps_pos (by rw[hd,hd1];exact λe=>he e.symm)
    simp[this,he]
theorem KY(xs:List Int):Lib.compact xs=compI xs:=by
 have:=(FH xs xs.length (xG _)).1
 rw[List.take_length]at this
 exact this
theorem O2(xs:List Int):(compI xs).length<=xs.length:=by
 have:∀(l acc:List Int),(l.foldl compStep acc).length<=acc.length+l.length:=by
  intro l
  induction l with
  |nil=>intro acc;exact xG _
  |cons y l ih=>
   intro acc
   have h1:=ih (compStep acc y)
   have h2:(compStep acc y).length<=acc.length+1:=by unfold compStep;split<;>simp
   simp only[List.foldl_cons,zA];omega
 have h3:=this xs []
 simpa[compI]using h3
theorem py(h:HF)(xs:List Int)(b:Option Addr)(c:Nat)(G:LH)(hG:dG qC 3 h xs b c G):
  od prog 136 [.slice b xs.length c].toArray h G (λr h' G'=>h'=h/\r=.returned (.slice b (slices_Compact_int xs).length c)/\dG qC 3 h (slices_Compact_int xs) b c G'):=by
 intro w hp
 rcases hG with⟨rfl,rfl,rfl,rfl⟩|⟨bk,cl,sp,rfl,hcl,hlen,hcap,hmax,rfl⟩
 .refine(kn (Tryz.slices_Compact_int_empty none 0 w) (λw' hw=>by cases hw.1)).mono ?_
  rintro e w' ⟨rfl,rfl⟩
  exact⟨h,[],St.start hp,rfl,rfl,dG.nil⟩
 .have hb:=hp.own _ (kC.2 rfl)
  simp only at hb
  have hcl':cl=xs.map (xC .i64):=by
   clear hlen hb hp hcap hmax
   induction xs generalizing cl with
   |nil=>exact hcl
   |cons y l ih=>
    obtain⟨cs,r,rfl,_,hr,hl⟩:=hcl
    have:cs=[.int .i64 y]:=hr
    rw[this,ih r hl];rfl
  subst hcl'
  have hH:Sort.Holds (xC .i64) w bk 0 xs.toArray:=by
   refine holds_of_blockI (cur:=(xs.map (xC .i64)++sp).toArray) (e:=3) hb ?_
   simp
  refine(kn (Tryz.slices_Compact_int bk 0 c xs w hH hmax hcap) (λw' hw=>by cases hw.1)).mono ?_
  rw[KY]
  have hle:=O2 xs
  rintro e w' ⟨rfl,n,rfl⟩
  let ys:List Int:=compI xs++List.replicate (xs.length-(compI xs).length) 0
  have hys:ys.length=xs.length:=by simp[ys];omega
  obtain⟨g1,g2,g3,g4,g5⟩:=grownBy_sortedI (w:=w) (g:=bk) (n:=n) (os:=#[]) ys.toArray
  have hnew:=heap_sortedI (w:=w) (g:=bk) (n:=n) (os:=#[]) ys.toArray hb
  have htake:=take_putCellsI (xs.map (xC .i64)++sp).toArray ys (by rw[hys];simp)
  have hgr:∀W:World,Go.Sort.grow W #[]=W:=λW=>by simp[Go.Sort.grow]
  rw[hgr]at g1 g2 g3 g4 g5 hnew
  refine⟨h,[(bk,.cells (Sort.putCells (xC .i64) 0 ys.toArray (xs.map (xC .i64)++sp).toArray) 3 (0,0))],⟨g1,g2,g3,g4,λk hk hM=>g5 k hk (λe=>hM (by cases e;simp)),λ_ _ e=>e,λ_ _=>rfl,λk o e=>?_,λq hq=>?_,?_,?_,?_⟩,rfl,rfl,?_⟩
  .have hne:k≠bk:=λe'=>by
    have:=hp.free _ (kC.2 rfl)
    simp only at this
    rw[e',this]at e;cases e
   exact(g5 k (ib (hp.imm k o e)) (λe'=>by cases e';exact hne rfl)).trans (hp.imm k o e)
  .rw[kC.1 hq];exact hnew
  .simp
  .intro q hq;rw[kC.1 hq];exact hp.free (bk,kH (xs.map (xC .i64)++sp).toArray 3 (0,0)) (kC.2 rfl)
  .intro q hq;rw[kC.1 hq];exact .inr (by simp)
  .have hcells:∀l:List Int,bI qC h (l.map (xC .i64)) l:=by
    intro l
    induction l with
    |nil=>rfl
    |cons y l ih=>exact⟨[.int .i64 y],l.map (xC .i64),rfl,rfl,rfl,ih⟩
   have hg:dG qC 3 h ys (some ⟨bk,0,none⟩) c [(bk,.cells (Sort.putCells (xC .i64) 0 ys.toArray (xs.map (xC .i64)++sp).toArray) 3 (0,0))]:=by
    refine .inr ⟨bk,ys.map (xC .i64),(Sort.putCells (xC .i64) 0 ys.toArray (xs.map (xC .i64)++sp).toArray).toList.drop ys.length,rfl,hcells _,?_,by rw[hys];exact hcap,by rw[hys];exact hmax,?_⟩
    .rw[←htake,List.take_append_drop]
     simpa[Sort.putCells]using hlen
    .rw[←htake,List.take_append_drop]
   have:=hg.take (compI xs).length
   rwa [show ys.take (compI xs).length=compI xs from by simp[ys]]at this
end Go.Sg

namespace Go.Sg
open Go.Proofs Go.Proofs.Tryz
theorem oK.length{κ α : Type}{enc:κ->Value}{V:HF->Value->α->Prop}{h:HF}:∀{es:List MapEntry}{m:List (κ×α)},oK enc V h es m->es.length=m.length
 |[],[],_=>rfl
 |_::_,(_,_)::_,⟨_,_,c⟩=>by simp[oK.length c]
 |[],_::_,x=>x.elim
 |_::_,[],x=>x.elim
theorem zx{κ : Type}[Inhabited κ](ks:List κ)(is:List Nat)(hn:is.Nodup)(hlt:∀i∈is,i<ks.length)(hall:∀i,i<ks.length->i∈is):(is.map λi=>(ks[i]?).getD default).Perm ks:=by
 have h1:is.Perm (kG ks.length):=(List.perm_ext_iff_of_nodup hn List.nodup_range).2 (λi=>by rw[List.mem_range];exact⟨hlt i,hall i⟩)
 refine(h1.map _).trans (List.Perm.of_eq ?_)
 apply List.ext_getElem (by simp)
 intro i h2 h3
 simp at h2
 simp[kF h2]
theorem CT{κ : Type}[Inhabited κ](ks:List κ)(is:List Nat)(hn:is.Nodup)(hlt:∀i∈is,i<ks.length):∃rest,((is.map λi=>(ks[i]?).getD default)++rest).Perm ks:=by
 let js:=(kG ks.length).filter λi=>!is.contains i
 have hd:(is++js).Nodup:=by
  rw[aAY]
  refine⟨hn,List.nodup_range.filter _,λa ha b hb e=>?_⟩
  subst e
  simp[js]at hb
  exact hb.2 ha
 refine⟨js.map λi=>(ks[i]?).getD default,?_⟩
 rw[←aAA]
 refine zx ks (is++js) hd (λi hi=>?_) (λi hi=>?_)
 .rcases qH.1 hi with h|h
  .exact hlt i h
  .simp[js]at h;exact h.1
 .by_cases hm:i∈is
  .exact aAc _ hm
  .exact zP _ (by simp[js,hi,hm])
theorem uZ(h:HF)(m:List (Int×Version))(bk:Nat)(q:Addr)(hm:s7 (xC .i64) (iT qQ) h bk m)(aq:At h q [.map (some bk)]):
  FS prog (.func (.func 262) #[] #[.pointer (some q)]) (λk _ vs=>vs=[(xC .i64) k]) (λxs=>xs.Perm (m.map (·.1))) h:=by
 refine⟨262,[.pointer (some q)],rfl,call262,?_⟩
 intro yf ya yb C Sp Pn h1 A hle m1 m2 m3 hC hy
 obtain⟨o,hb,m0,hpm,hnd0,es,clock,rfl,hE,hP,hcl⟩:=hm.mono (iT.mono vM) hle
 have hnod:(es.map (·.born)).Nodup:=hP.imp (λh=>Nat.ne_of_lt h)
 have hkeys:=hE.keys
 have hlen:es.length=(m0.map (·.1)).length:=by rw[hE.length];simp
 let ks:=m0.map (·.1)
 let kf:Nat->Int:=λi=>(ks[i]?).getD default
 let bf:Nat->Nat:=λi=>(es[i]?.map (·.born)).getD 0
 have hkey:∀(i:Nat)(en:MapEntry),es[i]? = some en->en.key=(xC .i64) (kf i):=by
  intro i en hi
  have h2:(es.map (·.key))[i]? = some en.key:=by simp[hi]
  rw[hkeys]at h2
  simp only[aAa]at h2
  simp only[kf,ks,aAa]
  cases hq:m0[i]? with
  |none=>rw[hq]at h2;simp at h2
  |some p=>rw[hq]at h2;simp at h2;simp[←h2]
 refine m8 (args:=[.func yf ya yb]) (cap:=[.pointer (some q)]) call262 ?_
 refine jg Nt rfl ntmps262 rfl λX hXM hX=>?_
 refine el (bE (dh ty240 (aq.mono hle) rfl (aC (Lv Ns hb rfl (λit=>aJ ?_)))))
 refine iL (ι:=List Nat×LH×HF) (λi=>[]) (λi=>i.2.2) (λi=>[(it,Obj.mapIter (some bk) clock (vB (i.1.map bf)) clock)]++i.2.1) (λi=>(i.1.Nodup/\(∀j∈i.1,j<es.length)/\(∀j,j<es.length->j∈i.1))/\C (i.1.map kf) i.2.2 i.2.1) ?_ (λhx=>?_)
 .rintro⟨js,A1,h2⟩ ⟨⟨hn,hl,ha⟩,hC1⟩ e
  exact wI Nt (λa _ w _=>mb rfl a w) (λw hw=>hw.sub (List.sublist_append_right _ _)) (.inl ⟨rfl,.inl ⟨_,(zx ks js hn (λi hi=>by rw[←hlen];exact hl i hi) (λi hi=>ha i (by rw[hlen];exact hi))).trans (hpm.map _),hC1⟩⟩)
 refine kg (ι:=List Nat×LH×HF) (λi=>[(0,.func yf ya yb),(5,.pointer (some ⟨it,0,none⟩))]) (λi=>i.2.2) (λi=>[(it,Obj.mapIter (some bk) clock (vB (i.1.map bf)) clock)]++i.2.1) (λi=>i.1.Nodup/\(∀j∈i.1,j<es.length)/\C (i.1.map kf) i.2.2 i.2.1/\jM h1 i.2.2) (λi=>es.length-i.1.length) ([],A,h1) ⟨rfl,rfl,trivial⟩ (λw hw=>hw) ⟨aAI,λ_ hj=>(kA hj).elim,hC,qP _⟩ ?_
 rintro⟨js,A1,h2⟩ ⟨hn,hl,hC1,hle2⟩ ag e
 dsimp only at hn hl hC1 hle2
 have hlp:=CV hnod js hl
 show TT _ _ _ _ _ (upds e [(0,.func yf ya yb),(5,.pointer (some ⟨it,0,none⟩))]) _ _ h2 ([(it,Obj.mapIter (some bk) clock (vB (js.map bf)) clock)]++A1)
 refine el (bE (aC (NX 0 rfl (hle2 _ _ hb) (λx hx=>hcl x (by simpa using hx)) (xG _) rfl (λh0=>?_) (λen hen=>?_))))
 .refine oF rfl rfl (aJ (el (oL rfl (lI rfl ?_))))
  exact hx (js,A1,h2) _ ⟨⟨hn,hl,hlp.1 h0⟩,hC1⟩ trivial
 .obtain⟨i,hi,hni⟩:=hlp.2 en hen
  have hil:i<es.length:=by
   rcases jP i es.length with h3|h3
   .exact h3
   .simp[vL h3]at hi
  have hmem:en∈es.toArray.toList:=by simpa using xE hi
  have hn':(js++[i]).Nodup:=by
   rw[aAY];exact⟨hn,by simp,λa ha b hb' e'=>by simp at hb';subst hb';subst e';exact hni ha⟩
  have hl':∀j∈js++[i],j<es.length:=λj hj=>by
   rcases qH.1 hj with h3|h3
   .exact hl j h3
   .simp at h3;subst h3;exact hil
  obtain⟨rest,hrest⟩:=CT ks (js++[i]) hn' (λj hj=>by rw[←hlen];exact hl' j hj)
  have xm:js.length+1<=es.length:=by
   have h9:=hrest.length_eq
   rw[jA,List.length_map,jA]at h9
   have h10:ks.length=es.length:=hlen.symm
   simp only[zA,jB]at h9
   omega
  have hrest':(js.map kf++kf i::rest).Perm (m.map (·.1)):=by
   rw[aAA,qE]at hrest
   exact List.Perm.trans hrest (hpm.map _)
  obtain⟨ekey,evl,eborn⟩:=en
  have hk':ekey=(xC .i64) (kf i):=hkey i _ hi
  subst hk'
  refine oF rfl rfl (aJ ?_)
  refine el (lu rfl (aN (lZ ?_)))
  refine el (bE ?_)
  refine aC (fw (Lz 0 rfl (hle2 _ _ hb) hmem (by simpa using hnod) rfl) ?_)
  refine oF rfl rfl (gj (aJ ?_))
  refine el (bE (av (av ?_)))
  refine aC (kp [(it,Obj.mapIter (some bk) clock ((vB (js.map bf)).push eborn) clock)] A1 rfl (hy (js.map kf) (kf i) [(xC .i64) (kf i)] h2 A1 ⟨rest,hrest'⟩ hle2 hC1 rfl) rfl rfl (λh3 B hle3 hC3=>?_) (λh3 B hle3 hS3=>?_) (λch h3 B hle3 hP3 e'=>?_))
  .refine mU rfl (aJ (oL rfl (aN (eF ?_))))
   have hpush:((vB (js.map bf)).push eborn)=vB ((js++[i]).map bf):=by simp[bf,hi]
   rw[hpush]
   refine ag (js++[i],B,h3) _ (by show es.length-(js++[i]).length<es.length-js.length;rw[jA];simp only[zA,jB];omega) ⟨hn',hl',by simpa using hC3,zF hle2 hle3⟩ ⟨rfl,rfl,trivial⟩
  .refine mU rfl (aJ (lu rfl ?_))
   exact pH Nt (λa _ w _=>mb rfl a w) (λw hw=>hw.sub (List.sublist_append_right _ _)) (.inl ⟨rfl,.inr hS3⟩)
  .exact NM Nt (λw hw=>hw.sub (List.sublist_append_right _ _)) (.inr ⟨ch,rfl,hP3⟩)
theorem u0(h:HF)(m:List (OSeat×Appoint))(bk:Nat)(q:Addr)(hm:s7 aAl (iT xH) h bk m)(aq:At h q [.map (some bk)]):
  FS prog (.func (.func 275) #[] #[.pointer (some q)]) (λk _ vs=>vs=[aAl k]) (λxs=>xs.Perm (m.map (·.1))) h:=by
 refine⟨275,[.pointer (some q)],rfl,call275,?_⟩
 intro yf ya yb C Sp Pn h1 A hle m1 m2 m3 hC hy
 obtain⟨o,hb,m0,hpm,hnd0,es,clock,rfl,hE,hP,hcl⟩:=hm.mono (iT.mono kP) hle
 have hnod:(es.map (·.born)).Nodup:=hP.imp (λh=>Nat.ne_of_lt h)
 have hkeys:=hE.keys
 have hlen:es.length=(m0.map (·.1)).length:=by rw[hE.length];simp
 let ks:=m0.map (·.1)
 let kf:Nat->OSeat:=λi=>(ks[i]?).getD default
 let bf:Nat->Nat:=λi=>(es[i]?.map (·.born)).getD 0
 have hkey:∀(i:Nat)(en:MapEntry),es[i]? = some en->en.key=aAl (kf i):=by
  intro i en hi
  have h2:(es.map (·.key))[i]? = some en.key:=by simp[hi]
  rw[hkeys]at h2
  simp only[aAa]at h2
  simp only[kf,ks,aAa]
  cases hq:m0[i]? with
  |none=>rw[hq]at h2;simp at h2
  |some p=>rw[hq]at h2;simp at h2;simp[←h2]
 refine m8 (args:=[.func yf ya yb]) (cap:=[.pointer (some q)]) call275 ?_
 refine jg Nr rfl ntmps275 rfl λX hXM hX=>?_
 refine el (bE (dh ty162 (aq.mono hle) rfl (aC (Lv Ld hb rfl (λit=>aJ ?_)))))
 refine iL (ι:=List Nat×LH×HF) (λi=>[]) (λi=>i.2.2) (λi=>[(it,Obj.mapIter (some bk) clock (vB (i.1.map bf)) clock)]++i.2.1) (λi=>(i.1.Nodup/\(∀j∈i.1,j<es.length)/\(∀j,j<es.length->j∈i.1))/\C (i.1.map kf) i.2.2 i.2.1) ?_ (λhx=>?_)
 .rintro⟨js,A1,h2⟩ ⟨⟨hn,hl,ha⟩,hC1⟩ e
  exact wI Nr (λa _ w _=>mb rfl a w) (λw hw=>hw.sub (List.sublist_append_right _ _)) (.inl ⟨rfl,.inl ⟨_,(zx ks js hn (λi hi=>by rw[←hlen];exact hl i hi) (λi hi=>ha i (by rw[hlen];exact hi))).trans (hpm.map _),hC1⟩⟩)
 refine kg (ι:=List Nat×LH×HF) (λi=>[(0,.func yf ya yb),(5,.pointer (some ⟨it,0,none⟩))]) (λi=>i.2.2) (λi=>[(it,Obj.mapIter (some bk) clock (vB (i.1.map bf)) clock)]++i.2.1) (λi=>i.1.Nodup/\(∀j∈i.1,j<es.length)/\C (i.1.map kf) i.2.2 i.2.1/\jM h1 i.2.2) (λi=>es.length-i.1.length) ([],A,h1) ⟨rfl,rfl,trivial⟩ (λw hw=>hw) ⟨aAI,λ_ hj=>(kA hj).elim,hC,qP _⟩ ?_
 rintro⟨js,A1,h2⟩ ⟨hn,hl,hC1,hle2⟩ ag e
 dsimp only at hn hl hC1 hle2
 have hlp:=CV hnod js hl
 show TT _ _ _ _ _ (upds e [(0,.func yf ya yb),(5,.pointer (some ⟨it,0,none⟩))]) _ _ h2 ([(it,Obj.mapIter (some bk) clock (vB (js.map bf)) clock)]++A1)
 refine el (bE (aC (NX 0 rfl (hle2 _ _ hb) (λx hx=>hcl x (by simpa using hx)) (xG _) rfl (λh0=>?_) (λen hen=>?_))))
 .refine oF rfl rfl (aJ (el (oL rfl (lI rfl ?_))))
  exact hx (js,A1,h2) _ ⟨⟨hn,hl,hlp.1 h0⟩,hC1⟩ trivial
 .obtain⟨i,hi,hni⟩:=hlp.2 en hen
  have hil:i<es.length:=by
   rcases jP i es.length with h3|h3
   .exact h3
   .simp[vL h3]at hi
  have hmem:en∈es.toArray.toList:=by simpa using xE hi
  have hn':(js++[i]).Nodup:=by
   rw[aAY];exact⟨hn,by simp,λa ha b hb' e'=>by simp at hb';subst hb';subst e';exact hni ha⟩
  have hl':∀j∈js++[i],j<es.length:=λj hj=>by
   rcases qH.1 hj with h3|h3
   .exact hl j h3
   .simp at h3;subst h3;exact hil
  obtain⟨rest,hrest⟩:=CT ks (js++[i]) hn' (λj hj=>by rw[←hlen];exact hl' j hj)
  have xm:js.length+1<=es.length:=by
   have h9:=hrest.length_eq
   rw[jA,List.length_map,jA]at h9
   have h10:ks.length=es.length:=hlen.symm
   simp only[zA,jB]at h9
   omega
  have hrest':(js.map kf++kf i::rest).Perm (m.map (·.1)):=by
   rw[aAA,qE]at hrest
   exact List.Perm.trans hrest (hpm.map _)
  obtain⟨ekey,evl,eborn⟩:=en
  have hk':ekey=aAl (kf i):=hkey i _ hi
  subst hk'
  refine oF rfl rfl (aJ ?_)
  refine el (lu rfl (aN (lZ ?_)))
  refine el (bE ?_)
  refine aC (fw (Lz 0 rfl (hle2 _ _ hb) hmem (by simpa using hnod) rfl) ?_)
  refine oF rfl rfl (ba zc182 (λb3=>aQ 0 ty182 rfl rfl rfl rfl rfl rfl (aJ ?_)))
  refine el (bE (av (cK 0 ty182 rfl rfl rfl ?_)))
  refine aC (kp [(b3,kH (jE (kf i)).toArray 182 (0,0)),(it,Obj.mapIter (some bk) clock ((vB (js.map bf)).push eborn) clock)] A1 rfl (hy (js.map kf) (kf i) [aAl (kf i)] h2 A1 ⟨rest,hrest'⟩ hle2 hC1 rfl) rfl rfl (λh3 B hle3 hC3=>?_) (λh3 B hle3 hS3=>?_) (λch h3 B hle3 hP3 e'=>?_))
  .refine mU rfl (aJ (oL rfl (aN (eF ?_))))
   have hpush:((vB (js.map bf)).push eborn)=vB ((js++[i]).map bf):=by simp[bf,hi]
   rw[hpush]
   refine bz (L':=[(it,Obj.mapIter (some bk) clock (vB ((js++[i]).map bf)) clock)]++B) (.cons _ (List.Sublist.refl _)) ?_
   refine ag (js++[i],B,h3) _ (by show es.length-(js++[i]).length<es.length-js.length;rw[jA];simp only[zA,jB];omega) ⟨hn',hl',by simpa using hC3,zF hle2 hle3⟩ ⟨rfl,rfl,trivial⟩
  .refine mU rfl (aJ (lu rfl ?_))
   exact pH Nr (λa _ w _=>mb rfl a w) (λw hw=>hw.sub (List.sublist_append_right _ _)) (.inl ⟨rfl,.inr hS3⟩)
  .exact NM Nr (λw hw=>hw.sub (List.sublist_append_right _ _)) (.inr ⟨ch,rfl,hP3⟩)
end Go.Sg

namespace Go.Sg
open Go.Proofs Go.Proofs.Tryz
abbrev Kc{α : Type}(P:Program)(f:FuncId)(args:List Value)(h:HF)(R:Rp α)(E:TypeId)(S:List α->Prop):Prop:=
 od P f args.toArray h [] (λr h' G=>∃xs bb c,S xs/\r=.returned (.slice bb xs.length c)/\dG R E h' xs bb c G)
section steps
variable {P:Program} {b:Frame} {n:Nat} {ops:Array Oper} {F:List Frame->(Machine->Prop)->Prop} {e:Env} {ds:List Deferred} {X:Cx} {h:HF} {L:LH} {K:Env->HF->LH->Prop}
variable {d:Option Nat} {ty:TypeId} {pos:String} {af:Array Edge} {g:Option (Nat×Bool)}
theorem AK{α : Type}{R:Rp α}{E:TypeId}{S:List α->Prop}{f:FuncId}{ass:Array Operand}{ats:Array TypeId}{vs:List Value}(hc:∀args w,(callFunc f args).run P w=.ok (.enter f args) w)(hs:Kc P f vs h R E S)(hvs:ass.toList.map e.ev=vs)(t':∀h' xs bb c G,h.le h'->S xs->dG R E h' xs bb c G->K (pute e d (.slice bb xs.length c)) h' (L++G))(hg:guardB ops e ⟨d,.call ⟨.value (.func f),ass,ats⟩,ty,pos,af,g⟩=true:=by rfl):
  Stp P b n ops F ds X ⟨d,.call ⟨.value (.func f),ass,ats⟩,ty,pos,af,g⟩ e h L K:=by
 unfold Stp
 rw[if_pos hg]
 intro w hw
 have harr:ass.map e.ev=vs.toArray:=aAs (by simp[←hvs])
 have hr:(execOp e.ev ⟨d,.call ⟨.value (.func f),ass,ats⟩,ty,pos,af,g⟩).run P w=.ok (.enter f vs.toArray) w:=by
  simp[execOp,resolve,Env.ev,kJ,invoke,harr,hc]
 rw[hr]
 refine lP (by simp) (j7 (rq.mono (hs w (hw.sub (List.nil_sublist _)).pre) ?_))
 rintro x w' ⟨h',B,hst,xs,bb,c,hS,rfl,hG⟩
 exact⟨h',_,(St.after (A:=[]) (F:=L) hw hst).perm jJ,t' h' xs bb c B hst.le hS hG⟩
end steps
theorem DH(h:HF)(it:Value)(S:List Int->Prop)(hit:FS prog it (λ(k:Int)(_:HF)(vs:List Value)=>vs=[xC .i64 k]) S h)(hS:∀xs,S xs->xs.length<=1000000000000):Kc prog 315 [.slice none 0 0,it] h qC 3 S:=by
 refine cJ func315 rfl ntmps315 rfl λX hM hX=>?_
 refine el (bE (cy (λb1=>gj (aJ (el (el (bE (av (aJ (lZ (?_)))))))))))
 refine GF (it:=it) (S:=S) (ps:=[7])
  (λdone h' L'=>∃gb gc G,L'=[(b1,kH (vB [.slice gb done.length gc]) 31 (0,0))]++G/\dG qC 3 h' done gb gc G)
  (λ_ _ _=>False) (λ_ _ _=>False) rfl hit rfl (λx h' vs hv=>by rw[hv];rfl) ?_ (λ_ _ _ _ _ hf=>hf) (λ_ _ _ _ _ hf=>hf) ⟨none,0,[],rfl,dG.nil⟩ ?_ ?_ (λ_ _ _ _ _ hf=>hf.elim) (λ_ _ _ _ _ hf=>hf.elim)
 .rintro done h1 h2 B hl ⟨gb,gc,G,rfl,hG⟩;exact⟨gb,gc,G,rfl,hG.mono vG hl⟩
 .rintro l1 r1 lp1 done y vs hr L' X' ⟨rest,hrest⟩ hle ⟨gb,gc,G,rfl,hG⟩ hv hlp hX' hXM
  obtain rfl:=hv
  have hlen:=hS _ hrest
  simp only[jA,zA]at hlen
  refine bE (gj (aJ ?_))
  refine jy 0 rfl hlp (lZ (bE ?_))
  refine nW 2 ty31 rfl rfl rfl (av ?_)
  refine aC (bK (cells:=[.int .i64 y]) dY ty3 zc3 rfl rfl (by kernel_rfl) (λb3=>?_))
  refine aC (dK Rp.iK ([(b3,kH (vB [.int .i64 y]) 3 (0,0)),(l1,.loop { lp1 with state:=.busy }),(r1,.deferred (some [])),(b1,kH (vB [.slice gb done.length gc]) 31 (0,0))]) [] (λG=>[(b3,kH (vB [.int .i64 y]) 3 (0,0)),(l1,.loop { lp1 with state:=.busy }),(r1,.deferred (some [])),(b1,kH (vB [.slice gb done.length gc]) 31 (0,0))]++G) (G:=G) (show _=[(b3,kH (vB [.int .i64 y]) 3 (0,0)),(l1,.loop { lp1 with state:=.busy }),(r1,.deferred (some [])),(b1,kH (vB [.slice gb done.length gc]) 31 (0,0))]++(G++[])from by rw[List.append_nil];rfl) (λ_=>by first|rfl|simp only[jG]) dY ty3 zc3 rfl bytes3 hG rfl rfl (fd (ys:=[y]) 0 rfl (show bI qC hr [.int .i64 y] [y]from⟨[.int .i64 y],[],rfl,rfl,rfl,rfl⟩)) (by simp only[jA,zA,jB];omega) (by simp only[jA,zA,jB];omega) (λob2 oc2 G2 gr2=>?_))
  refine cT 3 ty31 rfl rfl rfl rfl rfl rfl (aJ (eF ?_))
  refine bz (L':=(l1,.loop { lp1 with state:=.busy })::(r1,.deferred (some []))::([(b1,kH (vB [.slice ob2 (done++[y]).length oc2]) 31 (0,0))]++G2)) (.cons _ (List.Sublist.refl _)) ?_
  exact HK rfl ⟨ob2,oc2,G2,rfl,gr2⟩
 .rintro r1 xs h2 L' hxs hle ⟨gb,gc,G,rfl,hG⟩
  refine eF (el (bE (nW 1 ty31 rfl rfl rfl (gj (aJ ?_)))))
  refine lH (L':=([(b1,kH (vB [.slice gb xs.length gc]) 31 (0,0))]++G)++markB [r1]) (List.perm_append_singleton _ _).symm ?_
  exact uO [r1] func315 (λa ha w hw=>res1 rfl a ha w) (λw hw=>hw.sub (L':=G) (List.sublist_append_right _ _)) ⟨xs,gb,gc,hxs,rfl,hG⟩
theorem Gv(h:HF)(it:Value)(S:List Int->Prop)(hit:FS prog it (λ(k:Int)(_:HF)(vs:List Value)=>vs=[xC .i64 k]) S h)(hS:∀xs,S xs->xs.length<=1000000000000):Kc prog 261 [it] h qC 3 S:=by
 refine cJ func261 rfl ntmps261 rfl λX hM hX=>?_
 refine el (bE (gj (aJ (el (bE (av ?_))))))
 refine aC (AK call315 (DH h it S hit hS) rfl (λh' xs bb c G hle hxs hG=>?_))
 refine gj (aJ ?_)
 exact pH func261 (λa ha w hw=>res1 rfl a ha w) (λw hw=>hw.sub (L':=G) (List.sublist_append_right _ _)) ⟨xs,bb,c,hxs,rfl,hG⟩
theorem Cz(h:HF)(it:Value)(S:List OSeat->Prop)(hit:FS prog it (λ(k:OSeat)(_:HF)(vs:List Value)=>vs=[aAl k]) S h)(hS:∀xs,S xs->xs.length<=1000000000000):Kc prog 321 [.slice none 0 0,it] h aB9 182 S:=by
 refine cJ func321 rfl ntmps321 rfl λX hM hX=>?_
 refine el (bE (cy (λb1=>gj (aJ (el (el (bE (av (aJ (lZ (?_)))))))))))
 refine GF (it:=it) (S:=S) (ps:=[7])
  (λdone h' L'=>∃gb gc G,L'=[(b1,kH (vB [.slice gb done.length gc]) 249 (0,0))]++G/\dG aB9 182 h' done gb gc G)
  (λ_ _ _=>False) (λ_ _ _=>False) rfl hit rfl (λx h' vs hv=>by rw[hv];rfl) ?_ (λ_ _ _ _ _ hf=>hf) (λ_ _ _ _ _ hf=>hf) ⟨none,0,[],rfl,dG.nil⟩ ?_ ?_ (λ_ _ _ _ _ hf=>hf.elim) (λ_ _ _ _ _ hf=>hf.elim)
 .rintro done h1 h2 B hl ⟨gb,gc,G,rfl,hG⟩;exact⟨gb,gc,G,rfl,hG.mono OSeat.aj hl⟩
 .rintro l1 r1 lp1 done y vs hr L' X' ⟨rest,hrest⟩ hle ⟨gb,gc,G,rfl,hG⟩ hv hlp hX' hXM
  obtain rfl:=hv
  have hlen:=hS _ hrest
  simp only[jA,zA]at hlen
  refine bE (ba zc182 (λb2=>aQ 0 ty182 rfl rfl rfl rfl rfl rfl (aJ ?_)))
  refine jy 1 rfl hlp (lZ (bE ?_))
  refine nW 3 ty249 rfl rfl rfl (cK 0 ty182 rfl rfl rfl ?_)
  refine aC (bK (cells:=[.int .i64 y.office,.int .i64 y.person]) P4 ty182 zc182 rfl rfl (by kernel_rfl) (λb3=>?_))
  refine aC (dK OSeat.eQ ([(b3,kH (vB [.int .i64 y.office,.int .i64 y.person]) 182 (0,0)),(b2,kH (jE y).toArray 182 (0,0)),(l1,.loop { lp1 with state:=.busy }),(r1,.deferred (some [])),(b1,kH (vB [.slice gb done.length gc]) 249 (0,0))]) [] (λG=>[(b3,kH (vB [.int .i64 y.office,.int .i64 y.person]) 182 (0,0)),(b2,kH (jE y).toArray 182 (0,0)),(l1,.loop { lp1 with state:=.busy }),(r1,.deferred (some [])),(b1,kH (vB [.slice gb done.length gc]) 249 (0,0))]++G) (G:=G) (show _=[(b3,kH (vB [.int .i64 y.office,.int .i64 y.person]) 182 (0,0)),(b2,kH (jE y).toArray 182 (0,0)),(l1,.loop { lp1 with state:=.busy }),(r1,.deferred (some [])),(b1,kH (vB [.slice gb done.length gc]) 249 (0,0))]++(G++[])from by rw[List.append_nil];rfl) (λ_=>by first|rfl|simp only[jG]) P4 ty182 zc182 rfl bytes182 hG rfl rfl (fd (ys:=[y]) 0 rfl (show bI aB9 hr [.int .i64 y.office,.int .i64 y.person] [y]from⟨[.int .i64 y.office,.int .i64 y.person],[],rfl,rfl,rfl,rfl⟩)) (by simp only[jA,zA,jB];omega) (by simp only[jA,zA,jB];omega) (λob2 oc2 G2 gr2=>?_))
  refine cT 4 ty249 rfl rfl rfl rfl rfl rfl (aJ (eF ?_))
  refine bz (L':=(l1,.loop { lp1 with state:=.busy })::(r1,.deferred (some []))::([(b1,kH (vB [.slice ob2 (done++[y]).length oc2]) 249 (0,0))]++G2)) (.cons _ (.cons _ (List.Sublist.refl _))) ?_
  exact HK rfl ⟨ob2,oc2,G2,rfl,gr2⟩
 .rintro r1 xs h2 L' hxs hle ⟨gb,gc,G,rfl,hG⟩
  refine eF (el (bE (nW 1 ty249 rfl rfl rfl (gj (aJ ?_)))))
  refine lH (L':=([(b1,kH (vB [.slice gb xs.length gc]) 249 (0,0))]++G)++markB [r1]) (List.perm_append_singleton _ _).symm ?_
  exact uO [r1] func321 (λa ha w hw=>res1 rfl a ha w) (λw hw=>hw.sub (L':=G) (List.sublist_append_right _ _)) ⟨xs,gb,gc,hxs,rfl,hG⟩
theorem FW(h:HF)(it:Value)(S:List OSeat->Prop)(hit:FS prog it (λ(k:OSeat)(_:HF)(vs:List Value)=>vs=[aAl k]) S h)(hS:∀xs,S xs->xs.length<=1000000000000):Kc prog 273 [it] h aB9 182 S:=by
 refine cJ func273 rfl ntmps273 rfl λX hM hX=>?_
 refine el (bE (gj (aJ (el (bE (av ?_))))))
 refine aC (AK call321 (Cz h it S hit hS) rfl (λh' xs bb c G hle hxs hG=>?_))
 refine gj (aJ ?_)
 exact pH func273 (λa ha w hw=>res1 rfl a ha w) (λw hw=>hw.sub (L':=G) (List.sublist_append_right _ _)) ⟨xs,bb,c,hxs,rfl,hG⟩
end Go.Sg

namespace Go.Sg
open Go.Proofs Go.Proofs.Tryz
theorem yA(h:HF)(it:Value)(ks:List Int)(hit:FS prog it (λ(k:Int)(_:HF)(vs:List Value)=>vs=[xC .i64 k]) (λxs=>xs.Perm ks) h)(hk:ks.length<=1000000000000):
  j1 prog 168 [it] h (λv h'=>∃(b:Option Addr)(c:Nat),v=.slice b (sortI ks).length c/\SlC qC h' b c (sortI ks)):=by
 refine cJ func168 rfl ntmps168 rfl λX hM hX=>?_
 refine el (bE (gj (aJ (el (bE (av ?_))))))
 refine aC (AK call261 (Gv h it _ hit (λxs hx=>by rw[hx.length_eq];exact hk)) rfl (λh' xs bb c G hle hxs hG=>?_))
 refine gj (aJ (el (bE (av ?_))))
 refine aC (nd [] G [] Nq (mw h' xs bb c G hG (by rw[hxs.length_eq];exact hk)) (by simp) rfl (λG' hG'=>?_))
 refine aJ (el (bE (av (gj (aJ ?_)))))
 refine fF vG [] G' [] (by simp) hM hG' (λh2 hle2 sl=>?_)
 refine jx [.slice bb xs.length c] func168 rfl ⟨rfl,trivial⟩ ⟨bb,c,?_,?_⟩
 .rw[←IK hxs,iw];rfl
 .rw[←IK hxs];exact sl
theorem xe(h:HF)(m:List (Int×Version))(KA:Nat)(hm:s7 (xC .i64) (iT qQ) h KA m):j1 prog 169 [.map (some KA)] h (λv h'=>FS prog v (λ(k:Int)(_:HF)(vs:List Value)=>vs=[(xC .i64) k]) (λxs=>xs.Perm (m.map (·.1))) h'):=by
 refine cJ func169 rfl ntmps169 rfl λX hM hX=>?_
 refine el (bE (cy (λb1=>gj (aJ (el (bE ?_))))))
 refine aX 0 rfl hM (λh2 hle2 hb2=>?_)
 refine aC (eG rfl rfl ?_)
 refine gj (aJ ?_)
 refine jx [.func (.func 262) #[] #[.pointer (some ⟨b1,0,none⟩)]] func169 rfl ⟨rfl,trivial⟩ ?_
 exact uZ h2 m KA ⟨b1,0,none⟩ (hm.mono (iT.mono vM) hle2) (cA hb2)
theorem xg(h:HF)(m:List (OSeat×Appoint))(KA:Nat)(hm:s7 aAl (iT xH) h KA m):j1 prog 180 [.map (some KA)] h (λv h'=>FS prog v (λ(k:OSeat)(_:HF)(vs:List Value)=>vs=[aAl k]) (λxs=>xs.Perm (m.map (·.1))) h'):=by
 refine cJ func180 rfl ntmps180 rfl λX hM hX=>?_
 refine el (bE (cy (λb1=>gj (aJ (el (bE ?_))))))
 refine aX 0 rfl hM (λh2 hle2 hb2=>?_)
 refine aC (eG rfl rfl ?_)
 refine gj (aJ ?_)
 refine jx [.func (.func 275) #[] #[.pointer (some ⟨b1,0,none⟩)]] func180 rfl ⟨rfl,trivial⟩ ?_
 exact u0 h2 m KA ⟨b1,0,none⟩ (hm.mono (iT.mono kP) hle2) (cA hb2)
end Go.Sg

namespace Go.Sg
open Go.Proofs Go.Proofs.Tryz
set_option maxHeartbeats 2000000
theorem wp(h:HF)(l:List Interest)(eP:Option Addr)(eO:Nat)(ig:Int)(known:Int)(hl:SlC kM h eP eO l):j1 prog 113 [.slice eP l.length eO,I ig,I known] h (λv h'=>∃(rv0:Value),v=rv0/\Itr prog rv0 ve (da l ig known) h'):=by
 refine sT func113 U ntmps113 U λX hM hX hF=>?_
 have hs0:da l ig known=da l ig known:=rfl
 refine sr (cy (λb1=>qO 4 U (aC (nC (λb2=>ba zc282 (λb3=>cT 0 ty282 U U U U U U (qL 8 [2] U ?_)))))))
 let z1:Nat×Obj:=(b1,O [.slice eP l.length eO] 24)
 let z2:Nat×Obj:=(b3,O [.map (some b2)] 282)
 refine lp2 l (λi w=>[(1,I ig),(2,I known),(3,Q b1),(7,Q b3),(14,.slice eP l.length eO),(15,I (l.length:Int)),(16,I (i:Int))]) (λ_=>h) (λw=>[z2,(b2,w.2),z1]) (λi w=>ja ed.enc (iT kM) h w.2 w.1/\w.1.length<=0+i) (λs1 i w=>(da.L1 ig known (da.K1 l)) s1 w.1) ([],.map #[] 0) hl.1.1 hs0 ⟨(ja.nil (enc:=ed.enc) (V:=(iT kM)) (h:=h)),lc⟩ ?_ ?_
 .rintro i1 ⟨bM,ec⟩ fp hs1 ⟨gv,Fj⟩ e
  refine sr (aX 2 U hM (λh1 hle1 hb1=>aX 0 U hM (λh2 hle2 hb2=>aC (eG U U (an (eR 0 U hM (λh3 hle3 hb3=>?_)))))))
  have mc1:s7 ed.enc (iT kM) h3 b2 bM:=⟨_,hb3,(gv.mono (iT.mono aAt) (hle1.t hle2)).mono (iT.mono aAt) hle3⟩
  have hs2:da l ig known=(bW l bM):=hs1
  exact nretH [.func (.func 208) #[] #[Q b1,Q b3]] ⟨(.func (.func 208) #[] #[Q b1,Q b3]),congrArg (λr:List Interest=>((.func (.func 208) #[] #[Q b1,Q b3]):Value)) hs2.symm,(by rw[hs2];exact(uC h3 l eP eO ⟨b1,0,none⟩ bM b2 ⟨b3,0,none⟩ (hl.mono aAt ((hle1.t hle2).t hle3)) ((cA hb1).mono (hle2.t hle3)) mc1 ((cA hb2).mono hle3)))⟩
 rintro i1 ⟨bM,ec⟩ y1 rz1 hd1 dj aY er gr hs3 ⟨gv,Fj⟩ hx1 ag1 e
 refine sr (tO dj U (qO 8 U (aC (iF jD vx ty97 hl.1 aY U U U (λq2 A2=>dz ty97 A2 U U (ba zc97 (λb5=>aQ 0 ty97 U U U U U U (qL 9 [0] U (bV 5 [24,25,26,27,28,29] 24 29 (decide (known<y1.Known)) U (λc1 hk1=>?_) (λe=>?_))))))))))
 .exact qL 5 [0] U (hk1 _ U)
 refine aJ (ae hs3 U (λc2 hs4=>?_) (λc2 hs5=>?_))
 .exact lI U (bE (oi i1 U (qO 2 U (bz (L':=[z2,(b2,ec),z1]) js (ag1 (bM,ec) hs4 ⟨gv,lc⟩)))))
 refine qK 9 [0,0,0] U (aC (fN (cells:=[I y1.Person,I y1.Party,.bool y1.Of]) (places:=[(0,1),(1,1),(2,1)]) Lj zc284 kr kr (ba zc284 (λb6=>aQ 0 ty284 U U U U U U (qL 4 [2] U (cK 0 ty284 U U U (aC (lv 3 (k:=(ed.mk y1.Person y1.Party y1.Of)) underlying282 uf U gv (e8 zv97) (show(iT kM) _ (.agg (vB [I 0,I 0,I 0,I 0,I 0,.bool false,.bool false])) (aAv 0 0 0 0 0 false false)from⟨_,U,U⟩) U U (λv1 hv1=>?_)))))))))
 obtain⟨_,rfl,rfl⟩:=hv1
 refine qO 3 U (ba zc97 (λb7=>aQ 0 ty97 U U U U U U (qO 7 U (bV 6 [45,46,47,48,49,50,51] 45 51 (decide ((mgetD bM (ed.mk y1.Person y1.Party y1.Of) (aAv 0 0 0 0 0 false false)).At<=y1.At)) U (λc3 hk2=>?_) (λe=>?_)))))
 .exact qL 6 [2,0] U (hk2 _ U)
 refine aJ (ae hs5 U (λc4 hs6=>?_) (λc4 hs7=>?_))
 .exact qK 2 [3] U (cK 1 ty284 U U U (cK 2 ty97 U U U (aC (kb 4 (k:=(ed.mk y1.Person y1.Party y1.Of)) (x:=y1) underlying282 uf U gv U U ⟨_,U,U⟩ (λmo1 hm1=>qO 3 U (oi i1 U (qO 2 U (bz (L':=[z2,(b2,mo1),z1]) js (ag1 ((mput bM (ed.mk y1.Person y1.Party y1.Of) y1),mo1) hs6 ⟨hm1,(by have:=mI bM (ed.mk y1.Person y1.Party y1.Of) y1;first|omega|(simp only[jB,zA]at *;omega))⟩)))))))))
 exact aN (qT 2 U (oi i1 U (qO 2 U (bz (L':=[z2,(b2,ec),z1]) js (ag1 (bM,ec) hs7 ⟨gv,lc⟩)))))
theorem uL.mono{h h':HF}(hl:h.le h'):∀{vs:List Value}{ws:List gT},uL h vs ws->uL h' vs ws
 |[],[],_=>trivial
 |_::_,_::_,⟨⟨r,e,o⟩,t⟩=>⟨⟨r,e,o.mono hl⟩,uL.mono hl t⟩
 |[],_::_,x=>x.elim
 |_::_,[],x=>x.elim
theorem uL.snoc{h:HF}{v:Value}{w:gT}(hw:∃r,v=.agg (gT.cells w r).toArray/\gT.ok h w r):∀{vs:List Value}{ws:List gT},uL h vs ws->uL h (vs++[v]) (ws++[w])
 |[],[],_=>⟨hw,trivial⟩
 |_::_,_::_,⟨a,t⟩=>⟨a,uL.snoc hw t⟩
 |[],_::_,x=>x.elim
 |_::_,[],x=>x.elim
theorem uL.len{h:HF}:∀{vs:List Value}{ws:List gT},uL h vs ws->vs.length=ws.length
 |[],[],_=>rfl
 |_::_,_::_,⟨_,t⟩=>by simp[uL.len t]
 |[],_::_,x=>x.elim
 |_::_,[],x=>x.elim
theorem mf(h:HF)(w:gT)(QS:Mr)(q1 q2:Addr)(bm bc:Nat)(om:Obj)(m:List (Int×Bool))(cap s r:Nat)(vs:List Value)(q:List gT)(hw:gT.ok h w QS)(a1:At h q1 [.map (some bm)])(a2:At h q2 [.chan (some bc)])(hm:ja (xC .i64) nz h om m)(hq:uL h vs q)(hroom:mgetD m w.to false=false->vs.length<cap):
  mr prog (.func (.func 112) #[] #[.pointer (some q1),.pointer (some q2)]) #[.agg (gT.cells w QS).toArray] h [(bm,om),(bc,.chan cap vs.toArray false s r false)]
   (λx h' B=>x=.returned (.tuple #[])/\h'=h/\∃om' vs' s',ja (xC .i64) nz h om' (conPut w m q).1/\uL h vs' (conPut w m q).2/\B=[(bm,om'),(bc,.chan cap vs'.toArray false s' r false)]):=by
 refine m8 (args:=[.agg (gT.cells w QS).toArray]) (cap:=[.pointer (some q1),.pointer (some q2)]) call112 (cJ func112 U ntmps112 U λX hM hX=>sr (cy (λb1=>qO 3 U (dh ty56 a1 U (qL 2 [0] U (aC (oN 1 (k:=w.to) Gz (fC m6) U hm (e8 zv4) (show nz _ (.bool false) false from U) U U (λv hv=>?_))))))))
 obtain rfl:=hv
 cases hc:mgetD m w.to false with
 |true=>
  refine qO 4 U ?_
  have e1:conPut w m q=(m,q):=by simp[conPut,hc]
  refine wI func112 (λa ha w hw=>mb U a w) (λw hw=>(hw.sub (L':=[(bm,om),(bc,.chan cap vs.toArray false s r false)]) js).lower) ⟨U,hX,om,vs,s,?_,?_,U⟩
  .rw[e1];exact hm
  rw[e1];exact hq
 |false=>
  refine qO 3 U ?_
  have e1:conPut w m q=(mput m w.to true,q++[w]):=by simp[conPut,hc]
  refine sr (dh ty56 a1 U (qL 2 [0] U (aC (kb 1 (k:=w.to) (x:=true) Gz (fC m6) U hm U U U (λom' hm'=>qO 2 U (dh ty194 a2 U (cK 0 ty196 U U U (QC 2 U U U (hroom hc) (aJ ?_)))))))))
  refine wI func112 (λa ha w hw=>mb U a w) (λww hww=>(hww.sub (L':=[(bm,om'),(bc,.chan cap (vs++[Value.agg (gT.cells w QS).toArray]).toArray false (s+1) r false)]) js).lower) ⟨U,hX,om',vs++[.agg (gT.cells w QS).toArray],s+1,?_,?_,U⟩
  .rw[e1];exact hm'
  rw[e1];exact uL.snoc ⟨QS,rfl,hw⟩ hq
theorem V3.mono:zh V3:=λ_ _ _ _ _ e=>e
theorem FR.mono{h h':HF}(hl:h.le h'):∀{m:List (Int×Option Addr×Nat×Nat)}{f:List (Int×List Interest)}{G:LH},FR h m f G->FR h' m f G
 |[],[],_,e=>e
 |(_,_)::_,(_,_)::_,_,⟨a,b,G1,G2,c,d,t⟩=>⟨a,b,G1,G2,c,d.mono aAt hl,FR.mono hl t⟩
 |[],(_,_)::_,_,x=>x.elim
 |(_,_)::_,[],_,x=>x.elim
theorem FR.get{h:HF}(k:Int):∀{m:List (Int×Option Addr×Nat×Nat)}{f:List (Int×List Interest)}{G:LH},FR h m f G ->
  ∃b c G1 G2,mgetD m k (none,0,0)=(b,(mgetD f k []).length,c)/\dG kM 97 h (mgetD f k []) b c G1/\G.Perm (G1++G2) /\
   ∀b' c' xs' G1',dG kM 97 h xs' b' c' G1'->∃G',FR h (mput m k (b',xs'.length,c')) (mput f k xs') G'/\G'.Perm (G1'++G2)
 |[],[],G,e=>by
  subst e
  refine⟨none,0,[],[],U,dG.nil,List.Perm.refl _,λb' c' xs' G1' hG=>⟨G1',⟨U,U,G1',[],by simp,hG,U⟩,by simp⟩⟩
 |(k0,x)::m,(k',xs)::f,G,⟨e,hn,G1,G2,hG,hg,t⟩=>by
  subst e hG
  by_cases hk:k=k0
  .subst hk
   refine⟨x.1,x.2.2,G1,G2,?_,?_,List.Perm.refl _,λb' c' xs' G1' hG'=>⟨G1'++G2,?_,List.Perm.refl _⟩⟩
   .simp[mgetD,mget?,←hn]
   .simpa[mgetD,mget?]using hg
   simp only[mput,if_true]
   exact⟨U,U,G1',G2,U,hG',t⟩
  obtain⟨b,c,H1,H2,h1,h2,h3,h4⟩:=FR.get k t
  refine⟨b,c,H1,G1++H2,?_,?_,?_,λb' c' xs' G1' hG'=>?_⟩
  .simpa[mgetD,mget?,hk]using h1
  .simpa[mgetD,mget?,hk]using h2
  .refine(List.Perm.append_left G1 h3).trans ?_
   rw[←qE,←qE];exact List.Perm.append_right H2 jJ
  obtain⟨G',g1,g2⟩:=h4 b' c' xs' G1' hG'
  refine⟨G1++G',?_,?_⟩
  .simp only[mput,hk,if_false]
   exact⟨U,hn,G1,G',U,hg,g1⟩
  refine(List.Perm.append_left G1 g2).trans ?_
  rw[←qE,←qE];exact List.Perm.append_right H2 jJ
 |[],(_,_)::_,_,x=>x.elim
 |(_,_)::_,[],_,x=>x.elim
theorem FR.keys{h:HF}:∀{m:List (Int×Option Addr×Nat×Nat)}{f:List (Int×List Interest)}{G:LH},FR h m f G->m.map (·.1)=f.map (·.1)
 |[],[],_,_=>rfl
 |(_,_)::_,(_,_)::_,_,⟨a,_,_,_,_,_,t⟩=>by simp[a,FR.keys t]
 |[],(_,_)::_,_,x=>x.elim
 |(_,_)::_,[],_,x=>x.elim
theorem FR.mem{h:HF}:∀{m:List (Int×Option Addr×Nat×Nat)}{f:List (Int×List Interest)}{G:LH},FR h m f G->(m.map (·.1)).Nodup->∀p∈m,p.2.2.1=(mgetD f p.1 []).length/\∃G1,(∀q∈G1,q∈G)/\dG kM 97 h (mgetD f p.1 []) p.2.1 p.2.2.2 G1
 |[],[],_,_,_,_,hp=>(kA hp).elim
 |(k,x)::m,(k',xs)::f,G,⟨e,hn,G1,G2,hG,hg,t⟩,hnd,p,hp=>by
  subst e hG
  rw[xK,xR]at hnd
  rcases kB.1 hp with rfl|hp
  .exact⟨by simp[mgetD,mget?,hn],G1,λq hq=>aAc _ hq,by simpa[mgetD,mget?]using hg⟩
  have hne:¬p.1=k:=λe=>hnd.1 (by have h9:=vP (f:=(·.1)) hp;rw[e]at h9;exact h9)
  obtain⟨h1,H,h2,h3⟩:=FR.mem t hnd.2 p hp
  exact⟨by simpa[mgetD,mget?,hne]using h1,H,λq hq=>zP _ (h2 q hq),by simpa[mgetD,mget?,hne]using h3⟩
 |[],(_,_)::_,_,x,_,_,_=>x.elim
 |(_,_)::_,[],_,x,_,_,_=>x.elim
theorem Ji{α : Type}:∀{f:List (Int×α)}(z:α),(f.map (·.1)).Nodup->f=f.map λp=>(p.1,mgetD f p.1 z)
 |[],_,_=>rfl
 |(k,x)::f,z,hn=>by
  rw[xK,xR]at hn
  rw[xK]
  congr 1
  .simp[mgetD,mget?]
  have ih:=Ji z hn.2
  conv=>lhs;rw[ih]
  apply List.map_congr_left
  intro p hp
  have hne:¬p.1=k:=λe=>hn.1 (by have h9:=vP (f:=(·.1)) hp;rw[e]at h9;exact h9)
  simp[mgetD,mget?,hne]
theorem Kd{h:HF}{h2:HF}(g:Int->List Interest):∀{es:List MapEntry}{m:List (Int×Option Addr×Nat×Nat)},oK (xC .i64) V3 h es m ->
  (∀p∈m,p.2.2.1=(g p.1).length/\SlC kM h2 p.2.1 p.2.2.2 (g p.1))->oK (xC .i64) (VSl kM) h2 es (m.map λp=>(p.1,g p.1))
 |[],[],_,_=>trivial
 |e::es,(k,x)::m,⟨a,b,c⟩,hg=>by
  obtain⟨h1,h3⟩:=hg (k,x) (zB ..)
  refine⟨a,⟨x.1,x.2.2,?_,h3⟩,Kd g c λp hp=>hg p (vA _ hp)⟩
  rw[show e.val=.slice x.1 x.2.1 x.2.2 from b,h1]
 |[],_::_,x,_=>x.elim
 |_::_,[],x,_=>x.elim
theorem FR.frozen{h h2:HF}{o:Obj}{m:List (Int×Option Addr×Nat×Nat)}{f:List (Int×List Interest)}{G:LH}(hm:ja (xC .i64) V3 h o m)(hf:FR h m f G)(hl:h.le h2)(hG:∀p∈G,h2 p.1=some p.2):
  ja (xC .i64) (VSl kM) h2 o f:=by
 have hnd:=hm.nodup
 have hk:=hf.keys
 obtain⟨m',hp,hn,es,c,rfl,hE,h1,h3⟩:=hm
 have hmem:=hf.mem hnd
 have hfe:=Ji (f:=f) [] (hk▸hnd)
 have hfm:f=m.map λp=>(p.1,mgetD f p.1 []):=by
  have e1:(f.map λp=>(p.1,mgetD f p.1 []))=(f.map (·.1)).map λk=>(k,mgetD f k []):=by rw[List.map_map];rfl
  have e2:(m.map λp=>(p.1,mgetD f p.1 []))=(m.map (·.1)).map λk=>(k,mgetD f k []):=by rw[List.map_map];rfl
  rw[e2,hk,←e1];exact hfe
 refine⟨m'.map λp=>(p.1,mgetD f p.1 []),?_,?_,es,c,U,Kd (λk=>mgetD f k []) hE λp hp'=>?_,h1,h3⟩
 .have hpm:=hp.map λp=>(p.1,mgetD f p.1 ([]:List Interest))
  rw[←hfm]at hpm;exact hpm
 .rw[List.map_map];exact hn
 obtain⟨h5,G1,h6,h7⟩:=hmem p (hp.mem_iff.1 hp')
 exact⟨h5,h7.frozen aAt hl λq hq=>hG q (h6 q hq)⟩
theorem Fy(k:Int->Int):∀(l:List Int)(g:Int),cV.L1 k l g=0->(∀x∈l,g<x/\x<=1048576)/\l.Pairwise (·<·)/\∃g',k g'=0
 |[],g,h=>⟨λ_ h=>(kA h).elim,List.Pairwise.nil,g,h⟩
 |y::l,g,h=>by
  simp only[cV.L1,Bool.cond_eq_ite,xD,decide_eq_true_eq]at h
  split at h
  .omega
  next hc=>
  obtain⟨h1,h2,h3⟩:=Fy k l y h
  refine⟨λx hx=>?_,List.pairwise_cons.2 ⟨λx hx=>(h1 x hx).1,h2⟩,h3⟩
  rcases kB.1 hx with rfl|hx
  .omega
  have:=h1 x hx;omega
theorem DC{l:List Interest}{person:Int}{parties:List Int}{a b:Int}(h:cV l person parties a b=0):parties.Pairwise (·<=·)/\parties.length<=16:=by
 unfold cV at h
 rw[Bool.cond_eq_ite]at h
 split at h
 .next hc=>simp at hc;exact absurd h hc
 obtain⟨_,h2,g',h3⟩:=Fy _ _ _ h
 refine⟨h2.imp (λh=>Int.le_of_lt h),?_⟩
 unfold cV.K1 at h3
 rw[Bool.cond_eq_ite]at h3
 split at h3
 .omega
 next hc=>
 simp only[xD,not_or,decide_eq_true_eq]at hc
 omega
theorem sa(h:HF)(b:Option Addr)(n c:Nat)(hc:n<=c):Ret prog 115 [.slice b n c] h (.slice b n n):=by
 exact cJ func115 U ntmps115 U λX hM hX=>qK 11 [] U (aC (fw (Qw dY ty3 U U U hc) (an (s8 [.slice b n n] func115 U hX rd U))))
theorem wq(h:HF)(l:List Interest)(eP:Option Addr)(eO:Nat)(person:Int)(parties:List Int)(ls:Option Addr)(lr:Nat)(dl known:Int)(hl:SlC kM h eP eO l)(hparties:SlC qC h ls lr parties)(hsz:l.length<=2000000):
  j1 prog 31 [.slice eP l.length eO,I person,.slice ls parties.length lr,I dl,I known] h
   (λv h'=>∃(rb0:Option Addr)(rc0:Nat),v=.tuple #[.slice rb0 ((fm l person parties dl known).1.length) rc0,.bool ((fm l person parties dl known).2.1),I ((fm l person parties dl known).2.2)]/\SlC qC h' rb0 rc0 ((fm l person parties dl known).1)):=by
 refine cJ Lc U ntmps31 U λX hM hX=>sr (cy (λb1=>qL 12 [0] U (ai (v:=I (cV l person parties dl known)) call111 (xk h l eP eO person parties ls lr dl known hl hparties) U (qO 7 U (j8 U (λc1=>?_) (λc1=>?_))))))
 .have e1:fm l person parties dl known=([],false,cV l person parties dl known):=by unfold fm;rw[c1];rfl
  exact sr (qO 5 U (jx [.slice none 0 0,.bool false,I (cV l person parties dl known)] Lc U rd ⟨none,0,by rw[e1];rfl,by rw[e1];exact vE⟩))
 have hex:cV l person parties dl known=0:=by simpa using c1
 obtain⟨hps,hpl⟩:=DC hex
 have e1:fm l person parties dl known=((conFind l person parties (da l dl known)).1,(conFind l person parties (da l dl known)).2,0):=by unfold fm;rw[c1];rfl
 rw[e1]
 have hstl:=II l dl known
 generalize hst:da l dl known=st at hstl
 refine qT 3 U (aC (nC (λbf=>ba zc193 (λb14=>cT 0 ty193 U U U U U U (qO 3 U (aC (nC (λbm=>ba zc56 (λb15=>cT 0 ty56 U U U U U U (qL 5 [] U (aC (N1 underlying194 bytes196 U ob (by decide) (λbc=>ba zc194 (λb16=>cT 0 ty194 U U U U U U (qO 3 U (aC (eG U U (ba zc197 (λb17=>cT 0 ty197 U U U U U U (aJ (eR 0 U hM (λh1 l1 f17=>eR 0 U hM (λh2 l2 f16=>eR 1 U hM (λh3 l3 f15=>eR 2 U hM (λh4 l4 f14=>eR 3 U hM (λh5 l5 f1=>?_))))))))))))))))))))))))))
 have a17:=(cA f17).mono (l2.t (l3.t (l4.t l5)))
 have a16:=(cA f16).mono (l3.t (l4.t l5))
 have a15:=(cA f15).mono (l4.t l5)
 have a14:=(cA f14).mono l5
 have a1:=cA f1
 have l05:h.le h5:=zF l1 (l2.t (l3.t (l4.t l5)))
 clear f17 f16 f15 f14 f1 l1 l2 l3 l4 l5
 refine qT 6 U (aC (cS call113 (wp h5 l eP eO dl known (hl.mono aAt l05)) U (λv1 h6 l6 hp1=>?_)))
 obtain⟨_,rfl,hit⟩:=hp1
 rw[hst]at hit
 refine qO 2 U (et ?_)
 refine j3 (it:=v1) (xs:=st) (ι:=List (Int×List Interest)×List (Int×Bool)×List gT×List Value×Nat×Obj×List (Int×Option Addr×Nat×Nat)×Obj×LH×HF) [] (λi=>i.2.2.2.2.2.2.2.2.2)
  (λi=>[(bc,.chan l.length i.2.2.2.1.toArray false i.2.2.2.2.1 0 false),(bm,i.2.2.2.2.2.1),(bf,i.2.2.2.2.2.2.2.1)]++i.2.2.2.2.2.2.2.2.1)
  (λrest i=>(conFill person rest i.1 i.2.1 i.2.2.1=conFill person st [] [] []/\(∀x∈rest,x∈st))/\(uL i.2.2.2.2.2.2.2.2.2 i.2.2.2.1 i.2.2.1/\ja (xC .i64) nz i.2.2.2.2.2.2.2.2.2 i.2.2.2.2.2.1 i.2.1/\ja (xC .i64) V3 i.2.2.2.2.2.2.2.2.2 i.2.2.2.2.2.2.2.1 i.2.2.2.2.2.2.1/\FR i.2.2.2.2.2.2.2.2.2 i.2.2.2.2.2.2.1 i.1 i.2.2.2.2.2.2.2.2.1)/\(uM st i.2.1 i.2.2.1/\Ms st i.1)/\h6.le i.2.2.2.2.2.2.2.2.2/\(∀k,(mgetD i.1 k []).length+rest.length<=l.length))
  (λ_=>False) (λ_=>False) 0 (λ_ _ _=>False) ([],[],[],[],0,.map #[] 0,[],.map #[] 0,[],h6) Lc rfl hit rfl Cg (λ_ _ _ _ _ hq=>hq) rfl rfl
  ⟨⟨rfl,λ_ hx=>hx⟩,⟨trivial,ja.nil,ja.nil,rfl⟩,⟨⟨λ_ hp=>(kA hp).elim,xG _,λ_ hp=>(kA hp).elim⟩,λ_ _ hx=>(kA hx).elim⟩,qP _,λk=>by simp[mgetD,mget?];exact hstl⟩ ?_ ?_ (λ_ _ _ hF=>hF.elim) (λ_ _ _ hF=>hF.elim) (λ_ _ _ _ hF=>hF.elim)
 .rintro l1 r1 lp1 x rest vs1 ⟨f,m,q,vs,s,om,m3,o3,Gf,hh⟩ h7 X' hFR ⟨⟨hfill,hin⟩,⟨hwy,hmm,hm3,hfr⟩,⟨hgq,hgf⟩,h6h,hlen⟩ h67 hh7 hv hX' hXM hlp nx rt ex pn
  dsimp only at hfill hin hwy hmm hm3 hfr hgq hgf h6h hh7 hlen
  obtain rfl:=hv
  have hxst:x∈st:=hin x (zB ..)
  have hin':∀y∈rest,y∈st:=λy hy=>hin y (vA _ hy)
  have h57:h5.le h7:=zF l6 h67
  replace hwy:=hwy.mono hh7
  replace hmm:=hmm.mono nz.mono hh7
  replace hm3:=hm3.mono V3.mono hh7
  replace hfr:=hfr.mono hh7
  have h67':h6.le h7:=h67
  clear hh7 h6h
  refine bE (ba zc97 (λb18=>aQ 0 ty97 U U U U U U (aJ (jy 1 U hlp (qT 2 U (cn (L':=[(b18,.cells (jD x).toArray 97 (0,0)),(l1,.loop { lp1 with state:=.busy }),(r1,.deferred (some [])),(bc,.chan l.length vs.toArray false s 0 false),(bm,om),(bf,o3)]++Gf) (by simp[markB,setNth]) (qK 6 [0] U (j8 U (λcO=>?_) (λcO=>?_)))))))))
  .obtain⟨gb,gc,G1,G2,hget,hgrow,hperm,hput⟩:=hfr.get x.Person
   have hlx:=hlen x.Person
   simp only[zA]at hlx
   have hnext:conFill person rest (mput f x.Person (mgetD f x.Person []++[x])) m q=conFill person st [] [] []:=by
    rw[←hfill];simp[conFill,cO]
   have hlen':∀k,(mgetD (mput f x.Person (mgetD f x.Person []++[x])) k []).length+rest.length<=l.length:=λk=>by
    rw[zU]
    split
    .simp only[jA,zA,jB];omega
    have:=hlen k;simp only[zA]at this;omega
   have fin:∀(e':Env)(b8:Nat)(o8:Obj)(o3':Obj)(gb':Option Addr)(gc':Nat)(G1':LH),dG kM 97 h7 (mgetD f x.Person []++[x]) gb' gc' G1'->ja (xC .i64) V3 h7 o3' (mput m3 x.Person (gb',(mgetD f x.Person []++[x]).length,gc')) ->
     TT prog (roundFrame l1 31) 111 [.inBlock 2,.inBlock 1] hFR e' [] X' h7 ([(b8,o8),(b18,.cells (jD x).toArray 97 (0,0)),(l1,.loop { lp1 with state:=.busy }),(r1,.deferred (some [])),(bc,.chan l.length vs.toArray false s 0 false),(bm,om),(bf,o3')]++(G2++G1')):=by
    intro e' b8 o8 o3' gb' gc' G1' hG' hm'
    obtain⟨G',hfr',hp'⟩:=hput gb' gc' _ G1' hG'
    exact eF (eF (bz (L':=[(l1,.loop { lp1 with state:=.busy }),(r1,.deferred (some [])),(bc,.chan l.length vs.toArray false s 0 false),(bm,om),(bf,o3')]++(G2++G1')) js (lH (L':=[(l1,.loop { lp1 with state:=.busy }),(r1,.deferred (some [])),(bc,.chan l.length vs.toArray false s 0 false),(bm,om),(bf,o3')]++G') (List.Perm.append_left _ (List.perm_append_comm.trans hp'.symm)) (cn (L':=rdH l1 r1 lp1 (([(bc,.chan l.length vs.toArray false s 0 false),(bm,om),(bf,o3')]++G')++markB [])) (by simp[markB]) (nx (mput f x.Person (mgetD f x.Person []++[x]),m,q,vs,s,om,mput m3 x.Person (gb',(mgetD f x.Person []++[x]).length,gc'),o3',G',h7) _ _ ⟨⟨hnext,hin'⟩,⟨hwy,hmm,hm',hfr'⟩,⟨hgq,hgf.put hxst⟩,h67',hlen'⟩ lf)))))
   have hJ:∀{L:LH},Jst h7 [(b18,.cells (jD x).toArray 97 (0,0))] h7 ((b18,.cells (jD x).toArray 97 (0,0))::L):=Bb js
   have hJ2:∀{L:LH}{p:Nat×Obj},Jst h7 [(b18,.cells (jD x).toArray 97 (0,0))] h7 (p::(b18,.cells (jD x).toArray 97 (0,0))::L):=Bb js
   refine eM [(b18,.cells (jD x).toArray 97 (0,0))] mixed kr hJ (λhsep _=>?_)
   refine i9 0 hsep hJ U U kr U (rh ty193 (a14.mono h57) U) (i9 1 hsep hJ U U kr U (λ_ _ _=>tx Md U) (i9 2 hsep hJ U U kr U (rj 0 ty3 U U U) (i9 3 hsep hJ U U kr U (rh ty193 (a14.mono h57) U) (i9 4 hsep hJ U U kr U (λ_ _ _=>tx Md U) (i9 5 hsep hJ U U kr U (rj 0 ty3 U U U) (i9 7 hsep hJ U U kr U (λ_ _ hj=>jO ty97 U (hj.nth (i:=0) U) U) ?_))))))
   refine nT 6 8 kr U U ?_ ?_
   .refine oN 5 (k:=x.Person) Lb (fC m6) U hm3 (e8 zv24) (show V3 _ (.slice none 0 0) (none,0,0)from U) U U (λv hv=>?_)
    rw[hget]at hv
    obtain rfl:=hv
    exact⟨hJ,tn 8 U (bK (cells:=jD x) vx ty97 zc97 U U kr (λb8=>⟨hJ2,tn 9 U (Ef (List.Perm.append_left ([(b8,.cells (jD x).toArray 97 (0,0)),(b18,.cells (jD x).toArray 97 (0,0)),(l1,.loop { lp1 with state:=.busy }),(r1,.deferred (some [])),(bc,.chan l.length vs.toArray false s 0 false),(bm,om),(bf,o3)]:LH) hperm) (dK Interest.eQ [(b8,.cells (jD x).toArray 97 (0,0)),(b18,.cells (jD x).toArray 97 (0,0)),(l1,.loop { lp1 with state:=.busy }),(r1,.deferred (some [])),(bc,.chan l.length vs.toArray false s 0 false),(bm,om),(bf,o3)] G2 (λG=>[(b8,.cells (jD x).toArray 97 (0,0)),(b18,.cells (jD x).toArray 97 (0,0)),(l1,.loop { lp1 with state:=.busy }),(r1,.deferred (some [])),(bc,.chan l.length vs.toArray false s 0 false),(bm,om),(bf,o3)]++(G2++G)) U (λ_=>U) vx ty97 zc97 U bytes97 hgrow U U (fd 0 U (show bI kM h7 (jD x) [x]from⟨jD x,[],by simp,U,U,U⟩)) lo lo (λgb' gc' G1' hG'=>⟨hJ2,tn 10 U (kb 6 (k:=x.Person) (x:=(gb',(mgetD f x.Person []++[x]).length,gc')) Lb (fC m6) U hm3 U U U (λo3' hm'=>⟨hJ2,aV kr (fin _ b8 _ o3' gb' gc' G1' hG' hm')⟩))⟩)))⟩))⟩
   refine bK (cells:=jD x) vx ty97 zc97 U U kr (λb8=>⟨hJ2,tn 6 U (oN 6 (k:=x.Person) Lb (fC m6) U hm3 (e8 zv24) (show V3 _ (.slice none 0 0) (none,0,0)from U) U U (λv hv=>?_))⟩)
   rw[hget]at hv
   obtain rfl:=hv
   exact⟨hJ2,tn 9 U (Ef (List.Perm.append_left ([(b8,.cells (jD x).toArray 97 (0,0)),(b18,.cells (jD x).toArray 97 (0,0)),(l1,.loop { lp1 with state:=.busy }),(r1,.deferred (some [])),(bc,.chan l.length vs.toArray false s 0 false),(bm,om),(bf,o3)]:LH) hperm) (dK Interest.eQ [(b8,.cells (jD x).toArray 97 (0,0)),(b18,.cells (jD x).toArray 97 (0,0)),(l1,.loop { lp1 with state:=.busy }),(r1,.deferred (some [])),(bc,.chan l.length vs.toArray false s 0 false),(bm,om),(bf,o3)] G2 (λG=>[(b8,.cells (jD x).toArray 97 (0,0)),(b18,.cells (jD x).toArray 97 (0,0)),(l1,.loop { lp1 with state:=.busy }),(r1,.deferred (some [])),(bc,.chan l.length vs.toArray false s 0 false),(bm,om),(bf,o3)]++(G2++G)) U (λ_=>U) vx ty97 zc97 U bytes97 hgrow U U (fd 0 U (show bI kM h7 (jD x) [x]from⟨jD x,[],by simp,U,U,U⟩)) lo lo (λgb' gc' G1' hG'=>⟨hJ2,tn 10 U (kb 6 (k:=x.Person) (x:=(gb',(mgetD f x.Person []++[x]).length,gc')) Lb (fC m6) U hm3 U U U (λo3' hm'=>⟨hJ2,aV kr (fin _ b8 _ o3' gb' gc' G1' hG' hm')⟩))⟩)))⟩
  refine qK 4 [0] U (dh ty3 (a1.mono h57) U (qO 3 U ?_))
  have hlen':∀k,(mgetD f k []).length+rest.length<=l.length:=λk=>by have:=hlen k;simp only[zA]at this;omega
  refine j8 U (λcP=>?_) (λcP=>?_)
  .have hnext:conFill person rest f (conPut ⟨[x.No],x.Party⟩ m q).1 (conPut ⟨[x.No],x.Party⟩ m q).2=conFill person st [] [] []:=by
    rw[←hfill];simp only[conFill,cO,cond_false,cP,cond_true]
   have hpty:(gT.mk [x.No] x.Party).to∈st.map (·.Party):=vP hxst
   refine bE (dh ty197 (a17.mono h57) U (qL 2 [0] U (aC (ME (cells:=[I x.No]) hXM dY ty3 zc3 U U kr (λb65 hb65=>D5 0 U hb65 (λh8 l8 f8=>?_))))))
   have sl8:SlC qC h8 (some ⟨b65,0,none⟩) 1 [x.No]:=bI.slB0 (T:=3) (fz:=(0,0)) (show bI qC h8 [I x.No] [x.No]from⟨[I x.No],[],rfl,rfl,rfl,rfl⟩) f8
   refine qL 2 [0] U (aC (fN (cells:=gT.cells ⟨[x.No],x.Party⟩ ⟨some ⟨b65,0,none⟩,1⟩) (places:=[(0,1),(1,1)]) underlying196 zc196 kr kr ?_))
   refine aC (HE (vs:=[.agg (gT.cells ⟨[x.No],x.Party⟩ ⟨some ⟨b65,0,none⟩,1⟩).toArray]) [(bm,om),(bc,.chan l.length vs.toArray false s 0 false)] ([(b18,.cells (jD x).toArray 97 (0,0)),(l1,.loop { lp1 with state:=.busy }),(r1,.deferred (some [])),(bf,o3)]++Gf) ?_
    (mf h8 ⟨[x.No],x.Party⟩ ⟨some ⟨b65,0,none⟩,1⟩ ⟨b15,0,none⟩ ⟨b16,0,none⟩ bm bc om m l.length s 0 vs q ⟨sl8⟩ (a15.mono (h57.t l8)) (a16.mono (h57.t l8)) (hmm.mono nz.mono l8) (hwy.mono l8) (λhno=>by rw[hwy.len];exact xO hgq hmm.nodup hpty hstl hno)) rfl rfl (λB hB=>?_))
   .exact yi [(b18,.cells (jD x).toArray 97 (0,0)),(l1,.loop { lp1 with state:=.busy }),(r1,.deferred (some []))] ((bf,o3)::Gf) (bc,.chan l.length vs.toArray false s 0 false) (bm,om)
   obtain⟨om',vs',s',hm',hw',rfl⟩:=hB
   refine qO 3 U (bz (L':=[(bm,om'),(bc,.chan l.length vs'.toArray false s' 0 false)]++([(l1,.loop { lp1 with state:=.busy }),(r1,.deferred (some [])),(bf,o3)]++Gf)) js ?_)
   refine lH (L':=rdH l1 r1 lp1 (([(bc,.chan l.length vs'.toArray false s' 0 false),(bm,om'),(bf,o3)]++Gf)++markB [])) ?_ ?_
   .rw[show markB []=([]:LH)from rfl,List.append_nil]
    exact(yi [(l1,Obj.loop { lp1 with state:=.busy }),(r1,.deferred (some []))] ((bf,o3)::Gf) (bc,.chan l.length vs'.toArray false s' 0 false) (bm,om')).symm
   exact nx (f,(conPut ⟨[x.No],x.Party⟩ m q).1,(conPut ⟨[x.No],x.Party⟩ m q).2,vs',s',om',m3,o3,Gf,h8) _ _ ⟨⟨hnext,hin'⟩,⟨hw',hm',hm3.mono V3.mono l8,hfr.mono l8⟩,⟨tI hgq hpty (by simp),hgf⟩,zF h67' l8,hlen'⟩ lf
  have hnext:conFill person rest f m q=conFill person st [] [] []:=by
   rw[←hfill];simp only[conFill,cO,cond_false,cP]
  exact aN (qT 2 U (bz (L':=[(l1,.loop { lp1 with state:=.busy }),(r1,.deferred (some [])),(bc,.chan l.length vs.toArray false s 0 false),(bm,om),(bf,o3)]++Gf) js (cn (L':=rdH l1 r1 lp1 (([(bc,.chan l.length vs.toArray false s 0 false),(bm,om),(bf,o3)]++Gf)++markB [])) (by simp[markB]) (nx (f,m,q,vs,s,om,m3,o3,Gf,h7) _ _ ⟨⟨hnext,hin'⟩,⟨hwy,hmm,hm3,hfr⟩,⟨hgq,hgf⟩,h67',hlen'⟩ lf))))
 rintro dm ⟨f,m0,q0,vs0,s0,om0,m3,o3,Gf,hh⟩ h7 ⟨⟨hfill,_⟩,⟨hwy,hmm,hm3,hfr⟩,⟨hgq,hgf⟩,h6h,hlen⟩ hh7 h67
 dsimp only at hfill hwy hmm hm3 hfr hgq hgf h6h hh7 hlen
 refine eF (eR 2 U hM (λh8 l8 f8=>D1 [(bc,.chan l.length vs0.toArray false s0 0 false),(bm,om0)] Gf (markB [dm]) U hM (λh9 l9 hG9=>?_)))
 have h89:hh.le h9:=zF hh7 (l8.t l9)
 have hmF:ja (xC .i64) (VSl kM) h9 o3 f:=FR.frozen hm3 hfr h89 hG9
 have hbf:h9 bf=some o3:=l9 _ _ f8
 have h59:h5.le h9:=zF l6 (h67.t (l8.t l9))
 replace a14:=a14.mono h59
 replace a15:=a15.mono h59
 replace a16:=a16.mono h59
 replace a17:=a17.mono h59
 have hpar:=(hparties.mono vG l05).mono vG h59
 have hcf:conFind l person parties st=conLoop parties f (l.length+1) m0 q0:=by
  unfold conFind;rw[←hfill];rfl
 have hwy0:=hwy.mono h89
 have hmm0:=hmm.mono nz.mono h89
 clear hwy hmm hm3 hfr hG9 l8 f8 h6h hh7 h67 hfill a1
 generalize hCF:conFind l person parties st=CF at hcf
 refine el ?_
 refine iL (ι:=List Value×Nat×Nat×Obj×HF) (λi=>[]) (λi=>i.2.2.2.2) (λi=>[(bc,.chan l.length i.1.toArray false i.2.1 i.2.2.1 false),(bm,i.2.2.2.1)]++markB [dm]) (λi=>CF=([],false)) ?_ (λhx=>?_)
 .rintro⟨vs,s,r,om,hh⟩ hc e
  exact sr (qO 4 U (pV [dm] [.slice none 0 0,.bool false,I 0] Lc U rd ⟨none,0,by rw[hc];rfl,by rw[hc];exact vE⟩))
 refine kg (ι:=Nat×List (Int×Bool)×List gT×List Value×Nat×Nat×Obj×HF) (λi=>[(2,.slice ls parties.length lr),(14,Q b14),(16,Q b16),(17,Q b17)]) (λi=>i.2.2.2.2.2.2.2)
  (λi=>[(bc,.chan l.length i.2.2.2.1.toArray false i.2.2.2.2.1 i.2.2.2.2.2.1 false),(bm,i.2.2.2.2.2.2.1)]++markB [dm])
  (λi=>CF=conLoop parties f i.1 i.2.1 i.2.2.1/\i.2.2.1.length+(l.length-i.2.1.length)<i.1/\uL i.2.2.2.2.2.2.2 i.2.2.2.1 i.2.2.1/\ja (xC .i64) nz i.2.2.2.2.2.2.2 i.2.2.2.2.2.2.1 i.2.1/\uM st i.2.1 i.2.2.1/\h9.le i.2.2.2.2.2.2.2)
  (λi=>i.1) (l.length+1,m0,q0,vs0,s0,0,om0,h9) rd (λw hw=>hw) ⟨hcf,?_,hwy0,hmm0,hgq,qP _⟩ ?_
 .show q0.length+(l.length-m0.length)<l.length+1
  have:=hgq.2.1;have:=Ol hgq hmm0.nodup;omega
 clear hcf hwy0 hmm0 hgq
 rintro⟨n,m,q,vs,s,r,om,hh⟩ ⟨hcf,hn,hwy,hmm,hgq,h9h⟩ ag e
 dsimp only at hcf hn hwy hmm hgq h9h
 obtain⟨n,rfl⟩:∃n',n=n'+1:=⟨n-1,by omega⟩
 refine qT 3 U (dh ty194 (a16.mono h9h) U (aC (fw (Qu underlying194 (zB ..) U) ?_)))
 rcases q with _|⟨w,q⟩
 .have hv0:vs=[]:=List.eq_nil_of_length_eq_zero hwy.len
  subst hv0
  exact iQ (v':=.bool false) U U (qO 3 U (hx ([],s,r,om,hh) _ hcf trivial))
 rcases vs with _|⟨v,vs⟩
 .exact hwy.elim
 obtain⟨⟨wr,rfl,hok⟩,hwy⟩:=hwy
 refine tO (decide_eq_true (by simp)) U (qO 6 U (dh ty194 (a16.mono h9h) U (QE 0 underlying194 zv196 U U (ba zc196 (λb19=>aQ 0 ty196 U U U U U U (qL 7 [0] U (ai (v:=.tuple #[I (slices_BinarySearch_int parties w.to).1,.bool (slices_BinarySearch_int parties w.to).2]) call114 (m9 hh parties ls lr w.to (hpar.mono vG h9h) hps ob) U (qO 10 U ?_))))))))
 have hgq':uM st m q:=⟨hgq.1,by have:=hgq.2.1;simp only[zA]at this;omega,λw' hw'=>hgq.2.2 w' (vA _ hw')⟩
 have hw8:=hgq.2.2 w (zB ..)
 simp only[zA]at hn
 refine j8 U (λcF=>?_) (λcF=>?_)
 .have hc2:CF=(w.path,true):=by
   rw[hcf];simp only[conLoop];rw[show parties.contains w.to=true from cF];rfl
  exact qK 8 [0] U (bz (L':=[(bc,.chan l.length vs.toArray false s (r+1) false),(bm,om)]++markB [dm]) js (pV [dm] [.slice wr.w6 w.path.length wr.zy,.bool true,I 0] Lc U rd ⟨wr.w6,wr.zy,by rw[hc2];rfl,by rw[hc2];exact hok.path⟩))
 have hc2:CF=(bif(w.path.length:Int)==8 then conLoop parties f n m q else conLoop parties f n (conStep w.path (mgetD f w.to []) m q).1 (conStep w.path (mgetD f w.to []) m q).2):=by
  rw[hcf];simp only[conLoop];rw[show parties.contains w.to=false from cF];rfl
 refine qK 9 [0] U (j8 U (λc8=>?_) (λc8=>?_))
 .rw[show((w.path.length:Int)==8)=true from c8]at hc2
  exact lI U (bz (L':=[(bc,.chan l.length vs.toArray false s (r+1) false),(bm,om)]++markB [dm]) js (ag (n,m,q,vs,s,r+1,om,hh) _ (Nat.lt_succ_self _) ⟨hc2,by show q.length+(l.length-m.length)<n;omega,hwy,hmm,hgq',h9h⟩ rd))
 rw[show((w.path.length:Int)==8)=false from c8]at hc2
 refine qT 3 U (dh ty193 (a14.mono h9h) U (qL 2 [0] U (aC (nD (k:=w.to) Lb (fC m6) (h9h _ _ hbf) (hmF.mono (VSl.mono aAt) h9h) (e8 zv24) (show VSl kM _ (.slice none 0 0) []from⟨none,0,U,vE⟩) U U (λv hv=>?_)))))
 obtain⟨xb,xc,rfl,slx⟩:=hv
 have hxs:∀y∈mgetD f w.to [],y∈st:=hgf w.to
 generalize mgetD f w.to []=xs at slx hc2 hxs
 refine qL 3 [] U ?_
 have hw7:w.path.length+1<=8:=by simp at c8;omega
 have hsum:=BA (path:=w.path) hstl hw7 hxs hgq' hmm.nodup
 generalize hcs:conStep w.path xs m q=CS at hc2 hsum
 refine iL (ι:=List Value×Nat×Obj×HF) (λi=>[(2,.slice ls parties.length lr),(14,Q b14),(16,Q b16),(17,Q b17)]) (λi=>i.2.2.2) (λi=>[(b19,.cells (gT.cells w wr).toArray 196 (0,0)),(bc,.chan l.length i.1.toArray false i.2.1 (r+1) false),(bm,i.2.2.1)]++markB [dm])
  (λi=>uL i.2.2.2 i.1 CS.2/\ja (xC .i64) nz i.2.2.2 i.2.2.1 CS.1/\uM st CS.1 CS.2/\hh.le i.2.2.2) ?_ (λhx2=>?_)
 .rintro⟨vs2,s2,om2,h10⟩ ⟨hw2,hm2,hg2,hle2⟩ e2
  exact eF (bz (L':=[(bc,.chan l.length vs2.toArray false s2 (r+1) false),(bm,om2)]++markB [dm]) js (ag (n,CS.1,CS.2,vs2,s2,r+1,om2,h10) _ (Nat.lt_succ_self _) ⟨hc2,by show CS.2.length+(l.length-CS.1.length)<n;omega,hw2,hm2,hg2,zF h9h hle2⟩ rd))
 refine kg (ι:=Nat×List (Int×Bool)×List gT×List Value×Nat×Obj×HF×List Interest) (λi=>[(2,.slice ls parties.length lr),(14,Q b14),(16,Q b16),(17,Q b17),(19,Q b19),(92,.slice xb xs.length xc),(93,I (xs.length:Int)),(94,I (i.1:Int))]) (λi=>i.2.2.2.2.2.2.1)
  (λi=>[(b19,.cells (gT.cells w wr).toArray 196 (0,0)),(bc,.chan l.length i.2.2.2.1.toArray false i.2.2.2.2.1 (r+1) false),(bm,i.2.2.2.2.2.1)]++markB [dm])
  (λi=>xs.drop i.1=i.2.2.2.2.2.2.2/\conStep w.path i.2.2.2.2.2.2.2 i.2.1 i.2.2.1=CS/\uL i.2.2.2.2.2.2.1 i.2.2.2.1 i.2.2.1/\ja (xC .i64) nz i.2.2.2.2.2.2.1 i.2.2.2.2.2.1 i.2.1/\uM st i.2.1 i.2.2.1/\hh.le i.2.2.2.2.2.2.1)
  (λi=>i.2.2.2.2.2.2.2.length) (0,m,q,vs,s,om,hh,xs) rd (λw hw=>hw) ⟨rfl,hcs,hwy,hmm,hgq',qP _⟩ ?_
 rintro⟨i1,m2,q2,vs2,s2,om2,h10,rest⟩ ⟨hd1,hcs2,hw2,hm2,hg2,hle2⟩ ag2 e2
 dsimp only at hd1 hcs2 hw2 hm2 hg2 hle2
 rcases rest with _|⟨x,rest⟩
 .have hge:=mR hd1
  refine sr (fO hge U (qO 4 U ?_))
  obtain rfl:(m2,q2)=CS:=hcs2
  exact hx2 (vs2,s2,om2,h10) _ ⟨hw2,hm2,hg2,hle2⟩ rd
 have hlt:=sQ hd1
 have hget:=rg hd1
 have hxst:x∈st:=hxs x (fX hd1)
 have hpty:(gT.mk (w.path++[x.No]) x.Party).to∈st.map (·.Party):=vP hxst
 have slx2:=slx.mono aAt hle2
 have hokp:=hok.path.mono vG hle2
 have gr:=slx.1.1
 have er:=io hd1
 have h910:h9.le h10:=zF h9h hle2
 refine sr (tO hlt U (qO 8 U (aC (iF jD vx ty97 slx2.1 hget U U U (λqx Ax=>dz ty97 Ax U U (ba zc97 (λb23=>aQ 0 ty97 U U U U U U (aJ ?_))))))))
 refine Pj (ι:=List Value×Nat×Obj×HF) (λi=>[(2,.slice ls parties.length lr),(14,Q b14),(16,Q b16),(17,Q b17),(19,Q b19),(92,.slice xb xs.length xc),(93,I (xs.length:Int)),(94,I (i1:Int))]) (λi=>i.2.2.2) (λi=>[(b19,.cells (gT.cells w wr).toArray 196 (0,0)),(bc,.chan l.length i.1.toArray false i.2.1 (r+1) false),(bm,i.2.2.1)]++markB [dm])
  (λi=>h10.le i.2.2.2/\uL i.2.2.2 i.1 (conPut ⟨w.path++[x.No],x.Party⟩ m2 q2).2/\ja (xC .i64) nz i.2.2.2 i.2.2.1 (conPut ⟨w.path++[x.No],x.Party⟩ m2 q2).1) ?_ (λfin=>?_)
 .rintro⟨vs3,s3,om3,h11⟩ ⟨l11,hw3,hm3⟩ e3
  dsimp only at l11 hw3 hm3
  exact eF (bE (oi i1 U (qO 2 U (ag2 (i1+1,(conPut ⟨w.path++[x.No],x.Party⟩ m2 q2).1,(conPut ⟨w.path++[x.No],x.Party⟩ m2 q2).2,vs3,s3,om3,h11,rest) _ (Nat.lt_succ_self _) ⟨kx hd1,hcs2,hw3,hm3,tI hg2 hpty (by simpa using hw7),zF hle2 l11⟩ rd))))
 have hKs:∀p∈([(b23,.cells (jD x).toArray 97 (0,0)),(b19,.cells (gT.cells w wr).toArray 196 (0,0))]:LH),p∈([(b23,.cells (jD x).toArray 97 (0,0)),(b19,.cells (gT.cells w wr).toArray 196 (0,0)),(bc,.chan l.length vs2.toArray false s2 (r+1) false),(bm,om2)]++markB [dm]:LH):=λp hp=>by
  rcases kB.1 hp with rfl|hp
  .simp
  rw[kC.1 hp];simp
 have hJ:Jst h10 [(b23,.cells (jD x).toArray 97 (0,0)),(b19,.cells (gT.cells w wr).toArray 196 (0,0))] h10 ([(b23,.cells (jD x).toArray 97 (0,0)),(b19,.cells (gT.cells w wr).toArray 196 (0,0)),(bc,.chan l.length vs2.toArray false s2 (r+1) false),(bm,om2)]++markB [dm]):=⟨qP _,hKs⟩
 refine eM [(b23,.cells (jD x).toArray 97 (0,0)),(b19,.cells (gT.cells w wr).toArray 196 (0,0))] mixed kr hJ (λhsep _=>?_)
 refine i9 0 hsep hJ U U kr U (rh ty197 (a17.mono h910) U) (i9 1 hsep hJ U U kr U (λ_ _ _=>tx OT U) (i9 2 hsep hJ U U kr U (rj 1 ty31 U U U) (i9 4 hsep hJ U U kr U (λ_ _ _=>tx PO U) (i9 5 hsep hJ U U kr U (rj 0 ty3 U U U) (i9 8 hsep hJ U U kr U (λ_ _ _=>tx PN U) (i9 9 hsep hJ U U kr U (rj 0 ty3 U U U) ?_))))))
 have hpl8:w.path.length<=wr.zy:=hokp.2
 have hpn:=hokp.1.1
 refine nT 3 6 kr U U ?_ ?_
 .refine fe (v:=.slice wr.w6 w.path.length w.path.length) call115 (sa h10 wr.w6 w.path.length wr.zy hpl8) U ⟨hJ,tn 6 U (bK (cells:=[I x.No]) dY ty3 zc3 U U kr (λb6=>⟨⟨qP _,λp hp=>vA _ (hKs p hp)⟩,tn 7 U (GO (R:=qC) (xs:=w.path) (ys:=[x.No]) dY ty3 zc3 U bytes3 (mu hokp.1) U U (fd 0 U (show bI qC h10 [I x.No] [x.No]from⟨[I x.No],[],U,U,U,U⟩)) (by simp) lo lo (λnb nc NG hNG=>⟨⟨qP _,λp hp=>zP NG (vA _ (hKs p hp))⟩,tn 10 U (fN (cells:=gT.cells ⟨w.path++[x.No],x.Party⟩ ⟨nb,nc⟩) (places:=[(0,1),(1,1)]) underlying196 zc196 kr kr ⟨⟨qP _,λp hp=>zP NG (vA _ (hKs p hp))⟩,tn 11 U (GM vG [] NG ((b6,.cells [xC .i64 x.No].toArray 3 (0,0))::[(b23,.cells (jD x).toArray 97 (0,0)),(b19,.cells (gT.cells w wr).toArray 196 (0,0)),(bc,.chan l.length vs2.toArray false s2 (r+1) false),(bm,om2)]++markB [dm]) U hM hNG (λh11 l11 slN=>?_))⟩)⟩))⟩))⟩
  refine HE (vs:=[.agg (gT.cells ⟨w.path++[x.No],x.Party⟩ ⟨nb,nc⟩).toArray]) [(bm,om2),(bc,.chan l.length vs2.toArray false s2 (r+1) false)] ([(b6,.cells [xC .i64 x.No].toArray 3 (0,0)),(b23,.cells (jD x).toArray 97 (0,0)),(b19,.cells (gT.cells w wr).toArray 196 (0,0))]++markB [dm]) ?_
   (mf h11 ⟨w.path++[x.No],x.Party⟩ ⟨nb,nc⟩ ⟨b15,0,none⟩ ⟨b16,0,none⟩ bm bc om2 m2 l.length s2 (r+1) vs2 q2 ⟨slN⟩ (a15.mono (h910.t l11)) (a16.mono (h910.t l11)) (hm2.mono nz.mono l11) (hw2.mono l11) (λhno=>by rw[hw2.len];exact xO hg2 hm2.nodup hpty hstl hno)) rfl rfl (λB hB=>?_)
  .exact yi [(b6,.cells [xC .i64 x.No].toArray 3 (0,0)),(b23,.cells (jD x).toArray 97 (0,0)),(b19,.cells (gT.cells w wr).toArray 196 (0,0))] (markB [dm]) (bc,.chan l.length vs2.toArray false s2 (r+1) false) (bm,om2)
  obtain⟨om3,vs3,s3,hm3,hw3,rfl⟩:=hB
  exact⟨⟨l11,λp hp=>by rcases hp with _|⟨_,_|⟨_,h⟩⟩;simp;simp;cases h⟩,nQ (K2:=[(b23,.cells (jD x).toArray 97 (0,0)),(b19,.cells (gT.cells w wr).toArray 196 (0,0))]) l11 (λ_ hp=>hp) (aV kr (lH (yi [(b6,.cells [xC .i64 x.No].toArray 3 (0,0)),(b23,.cells (jD x).toArray 97 (0,0)),(b19,.cells (gT.cells w wr).toArray 196 (0,0))] (markB [dm]) (bc,.chan l.length vs3.toArray false s3 (r+1) false) (bm,om3)).symm (bz (L':=[(b19,.cells (gT.cells w wr).toArray 196 (0,0)),(bc,.chan l.length vs3.toArray false s3 (r+1) false),(bm,om3)]++markB [dm]) js (fin (vs3,s3,om3,h11) _ ⟨l11,hw3,hm3⟩ rd))))⟩
 refine bK (cells:=[I x.No]) dY ty3 zc3 U U kr (λb6=>⟨⟨qP _,λp hp=>vA _ (hKs p hp)⟩,tn 3 U (fe (v:=.slice wr.w6 w.path.length w.path.length) call115 (sa h10 wr.w6 w.path.length wr.zy hpl8) U ⟨⟨qP _,λp hp=>vA _ (hKs p hp)⟩,tn 7 U (GO (R:=qC) (xs:=w.path) (ys:=[x.No]) dY ty3 zc3 U bytes3 (mu hokp.1) U U (fd 0 U (show bI qC h10 [I x.No] [x.No]from⟨[I x.No],[],U,U,U,U⟩)) (by simp) lo lo (λnb nc NG hNG=>⟨⟨qP _,λp hp=>zP NG (vA _ (hKs p hp))⟩,tn 10 U (fN (cells:=gT.cells ⟨w.path++[x.No],x.Party⟩ ⟨nb,nc⟩) (places:=[(0,1),(1,1)]) underlying196 zc196 kr kr ⟨⟨qP _,λp hp=>zP NG (vA _ (hKs p hp))⟩,tn 11 U (GM vG [] NG ((b6,.cells [xC .i64 x.No].toArray 3 (0,0))::[(b23,.cells (jD x).toArray 97 (0,0)),(b19,.cells (gT.cells w wr).toArray 196 (0,0)),(bc,.chan l.length vs2.toArray false s2 (r+1) false),(bm,om2)]++markB [dm]) U hM hNG (λh11 l11 slN=>?_))⟩)⟩))⟩)⟩)
 refine HE (vs:=[.agg (gT.cells ⟨w.path++[x.No],x.Party⟩ ⟨nb,nc⟩).toArray]) [(bm,om2),(bc,.chan l.length vs2.toArray false s2 (r+1) false)] ([(b6,.cells [xC .i64 x.No].toArray 3 (0,0)),(b23,.cells (jD x).toArray 97 (0,0)),(b19,.cells (gT.cells w wr).toArray 196 (0,0))]++markB [dm]) ?_
  (mf h11 ⟨w.path++[x.No],x.Party⟩ ⟨nb,nc⟩ ⟨b15,0,none⟩ ⟨b16,0,none⟩ bm bc om2 m2 l.length s2 (r+1) vs2 q2 ⟨slN⟩ (a15.mono (h910.t l11)) (a16.mono (h910.t l11)) (hm2.mono nz.mono l11) (hw2.mono l11) (λhno=>by rw[hw2.len];exact xO hg2 hm2.nodup hpty hstl hno)) rfl rfl (λB hB=>?_)
 .exact yi [(b6,.cells [xC .i64 x.No].toArray 3 (0,0)),(b23,.cells (jD x).toArray 97 (0,0)),(b19,.cells (gT.cells w wr).toArray 196 (0,0))] (markB [dm]) (bc,.chan l.length vs2.toArray false s2 (r+1) false) (bm,om2)
 obtain⟨om3,vs3,s3,hm3,hw3,rfl⟩:=hB
 exact⟨⟨l11,λp hp=>by rcases hp with _|⟨_,_|⟨_,h⟩⟩;simp;simp;cases h⟩,nQ (K2:=[(b23,.cells (jD x).toArray 97 (0,0)),(b19,.cells (gT.cells w wr).toArray 196 (0,0))]) l11 (λ_ hp=>hp) (aV kr (lH (yi [(b6,.cells [xC .i64 x.No].toArray 3 (0,0)),(b23,.cells (jD x).toArray 97 (0,0)),(b19,.cells (gT.cells w wr).toArray 196 (0,0))] (markB [dm]) (bc,.chan l.length vs3.toArray false s3 (r+1) false) (bm,om3)).symm (bz (L':=[(b19,.cells (gT.cells w wr).toArray 196 (0,0)),(bc,.chan l.length vs3.toArray false s3 (r+1) false),(bm,om3)]++markB [dm]) js (fin (vs3,s3,om3,h11) _ ⟨l11,hw3,hm3⟩ rd))))⟩
theorem pB(h:HF)(c:bN)(oa:j2)(person:Int)(hc:bN.ok h c oa)(hsm:smR c.Register)(hco:iU c)(hpp:0<=person/\person<64):Ret prog 256 [.agg (bN.cells c oa).toArray,I person] h (.bool (iz c person)):=by
 refine sT func256 U ntmps256 U λX hM hX hF=>?_
 have hs0:iz c person=iz c person:=rfl
 refine sr (cy (λb1=>qL 15 [0,0,0,0] U (aC (cS call31 (wq _ _ _ _ person _ _ _ c.at_ c.known hc.Register.Interests hc.doc.Parties hsm.2.2.2.1) U (λv1 h1 hle1 hp1=>?_)))))
 obtain⟨rb1,rc1,rfl,sl1⟩:=hp1
 exact av (qO 10 U (aC (nY uq (ij h1 ((fm c.Register.Interests person c.doc.Parties c.at_ c.known).2.2)) (lV (KX hco hpp)) U (qO 6 U (nretP [.bool ((fm c.Register.Interests person c.doc.Parties c.at_ c.known).2.1)] (cs hs0))))))
theorem wm(h:HF)(c:bN)(oa:j2)(c_q:Addr)(p:Policy)(gS:eA)(p_q:Addr)(hc:bN.ok h c oa)(ac:At h c_q (bN.cells c oa))(hp:zN h p gS)(ap_z:At h p_q (kD p gS))(hsm:smR c.Register)(hco:iU c)(hpr:p.Rules.length=p.Kinds.length/\∀y∈p.Rules,0<=y.Think/\y.Think<=1099511627775):Itr prog (.func (.func 255) #[] (vB [.pointer (some c_q),.pointer (some p_q)])) oY (cG c p) h:=by
 refine sE call255 ?_
 intro yf ya yb C Sp Pn h1 A hle m1 m2 m3 hC hy
 refine jg La U ntmps255 U λX hXM hX=>?_
 have hs0:cG c p=[]++cG c p:=rfl
 have hkd:=hco.kind
 refine qK 5 [] U (jb (j:=9) ty3 (ac.mono hle) U U (qL 1 [] U (jb (j:=1) ty58 (ap_z.mono hle) U U (qL 3 [] U (j8 U (λc1=>?_) (λc1=>?_))))))
 .have c1p:=of_decide_eq_true c1
  have hs1:=hs0.trans (congrArg ([]++·) (bt c1))
  refine et ?_
  have hs2:cG c p=[]:=hs1.trans (List.append_nil _)
  exact mF [] (A:=A) La U (List.Sublist.refl _) (.inl (hs2▸hC))
 have c1p:=of_decide_eq_false c1
 have hs3:=hs0.trans (congrArg ([]++·) (bf c1))
 refine qT 2 U (eM ([]) mixed kr jn (λem _=>qB [0,1] U (tf 2 U U (rH 6 ty28 (ac.mono hle) U U) (qB [3,4] U (tf 5 U U (rH 7 ty3 (ac.mono hle) U U) (qB [6,7] U (tf 8 U U (rH 8 ty3 (ac.mono hle) U U) (qB [9] U (tf 10 U U (rH 3 ty59 (ap_z.mono hle) U U) (qB [11,12] U (tf 13 U U (rH 9 ty3 (ac.mono hle) U U) ?_)))))))))))
 have ho1:0<=(c.doc.Kind:Int)/\(c.doc.Kind:Int)<((p.Rules).length:Int):=ob
 refine jt 14 em jn wi ty79 (hp.Rules.mono Rule.aj hle).1 ho1 (cN ho1) U U U U kr (λq1 cs1 A1 ln1 rr1=>?_)
 obtain⟨r1,rfl,ok1⟩:=rr1
 refine qB [15] U (tf 16 U U (rH 2 ty3 A1 U U) (qB [17] U (tf 18 U U (rH 48 ty3 (ac.mono hle) U U) (qB [19] U (tf 20 U U (rH 49 ty3 (ac.mono hle) U U) (tn 21 U (cS call28 (wx _ _ _ _ c.doc.No c.doc.At ((nthI p.Rules c.doc.Kind).Think) c.at_ c.known (hc.Register.Approvals.mono jH hle) hsm.2.2.2.2.2.2) U (λv1 h2 hle1 hp1=>?_))))))))
 obtain⟨rb1,rc1,rfl,sl1⟩:=hp1
 refine⟨⟨hle1,λ_ hp=>List.Sublist.subset (List.nil_sublist _) hp⟩,nQ (K2:=[]) hle1 (λ_ hp=>hp) (qR 22 5 U (aV kr (qT 3 U (aC (nY uq (ij h2 ((cR c.Register.Approvals c.doc.No c.doc.At ((nthI p.Rules c.doc.Kind).Think) c.at_ c.known).2)) (by first|exact lV (xz hco hpr ob)|exact lV (xy hco (fX hd1))|exact lV (xI hco (fX hd1))) U (qL 7 [] U ?_))))))⟩
 refine lp2 ((cR c.Register.Approvals c.doc.No c.doc.At ((nthI p.Rules c.doc.Kind).Think) c.at_ c.known).1) (λi w=>[(0,.func yf ya yb),(1,.pointer (some c_q)),(48,.slice rb1 (((cR c.Register.Approvals c.doc.No c.doc.At ((nthI p.Rules c.doc.Kind).Think) c.at_ c.known).1).length) rc1),(49,I ((((cR c.Register.Approvals c.doc.No c.doc.At ((nthI p.Rules c.doc.Kind).Think) c.at_ c.known).1).length:Nat):Int)),(50,I (i:Int))]) (λw=>w.2.2) (λw=>w.2.1) (λi w=>C w.1 w.2.2 w.2.1/\jM h2 w.2.2) (λs1 i w=>w.1++(cG.L1 c (cG.K1)) s1) ([],A,h2) sl1.1.1 hs3 ⟨(m1 _ _ _ _ hle1 hC),lf⟩ ?_ ?_
 .rintro i1 ⟨dn1,A1_,hh1⟩ fp hs4 ⟨hC1_,hl1⟩ e
  refine et ?_
  have hs5:cG c p=dn1:=hs4.trans (List.append_nil _)
  exact sF [] (A:=A1_) La U (List.Sublist.refl _) (.inl (hs5▸hC1_))
 rintro i1 ⟨dn1,A1_,hh1⟩ y1 rz1 hd1 dj aY er gr hs6 ⟨hC1_,hl1⟩ hx1 ag1 e
 refine sr (tO dj U (qO 8 U (aC (iF zD zk ty81 (sl1.mono jH hl1).1 aY U U U (λq3 A3=>dz ty81 A3 U U (ba zc81 (λb2=>aQ 0 ty81 U U U U U U (il (L':=[(b2,O (zD y1) 81)]++(A1_)) U (qL 5 [] U (dh ty22 (ac.mono ((hle.t hle1).t hl1)) U (qL 5 [0,0] U (jb (j:=48) ty3 (ac.mono ((hle.t hle1).t hl1)) U U (qL 1 [] U (jb (j:=49) ty3 (ac.mono ((hle.t hle1).t hl1)) U U (ai call29 (BV _ _ _ _ y1.Office y1.For c.at_ c.known (hc.Register.Appoints.mono kP ((hle.t hle1).t hl1))) U (qO 13 U (aC (nY uq (ij hh1 ((gP c.Register.Appoints y1.Office y1.For c.at_ c.known).2.2.2)) (by first|exact lV (xz hco hpr ob)|exact lV (xy hco (fX hd1))|exact lV (xI hco (fX hd1))) U (qL 5 [] U (jb (j:=1) ty23 (ac.mono ((hle.t hle1).t hl1)) U U (qL 8 [0,0,0] U (jb (j:=9) ty3 (ac.mono ((hle.t hle1).t hl1)) U U (qL 2 [] U (jb (j:=10) ty3 (ac.mono ((hle.t hle1).t hl1)) U U (qL 1 [] U (jb (j:=48) ty3 (ac.mono ((hle.t hle1).t hl1)) U U (qL 1 [] U (jb (j:=49) ty3 (ac.mono ((hle.t hle1).t hl1)) U U (aC (cS call30 (Bw _ _ _ _ y1.For y1.By y1.Office c.doc.Kind c.doc.Value c.at_ c.known (hc.Register.Deputies.mono jS ((hle.t hle1).t hl1)) hsm.2.2.1) U (λv3 h4 hle3 hp3=>?_)))))))))))))))))))))))))))))))
 obtain⟨rb3,rc3,rfl,sl3⟩:=hp3
 refine qO 11 U (aC (nY uq (ij h4 ((aH c.Register.Deputies y1.For y1.By y1.Office c.doc.Kind c.doc.Value c.at_ c.known).2.2)) (by first|exact lV (xz hco hpr ob)|exact lV (xy hco (fX hd1))|exact lV (xI hco (fX hd1))) U (qO 5 U (bj 2 [100,101,102] 100 102 ((aH c.Register.Deputies y1.For y1.By y1.Office c.doc.Kind c.doc.Value c.at_ c.known).2.1) U (λc2 hk1=>?_) (λe=>?_)))))
 .exact av (eN U (hk1 _ U))
 refine av (bj 6 [103,104,105,106,107,108,109] 103 109 (!(iz c y1.For)) U (λc3 hk2=>?_) (λe=>?_))
 .exact dz ty123 (ac.mono (((hle.t hle1).t hl1).t hle3)) U U (qL 2 [0] U (ai call256 (pB _ _ _ y1.For (hc.mono (((hle.t hle1).t hl1).t hle3)) hsm ob (by first|exact Hp hco (fX hd1)|exact JW hco (fX hd1))) U (qO 2 U (hk2 _ U))))
 refine av (bj 6 [110,111,112,113,114,115,116] 110 116 (!(iz c y1.By)) U (λc4 hk3=>?_) (λe=>?_))
 .exact dz ty123 (ac.mono (((hle.t hle1).t hl1).t hle3)) U U (qL 2 [0] U (ai call256 (pB _ _ _ y1.By (hc.mono (((hle.t hle1).t hl1).t hle3)) hsm ob (by first|exact Hp hco (fX hd1)|exact JW hco (fX hd1))) U (qO 2 U (hk3 _ U))))
 refine av (us 117 U (λc5=>?_) (λc5=>?_))
 .have hs7:=hs6.trans (congrArg (dn1++·) (bt c5))
  refine av (cK 0 ty81 U U U ?_)
  have hx1:cG c p=dn1++(y1::(cG.L1 c (cG.K1) rz1)):=hs7
  refine aC (kp ([(b2,O (zD y1) 81)]) A1_ ap (hy dn1 y1 _ _ _ _ hx1 ((hle1.t hl1).t hle3) (m1 _ _ _ _ hle3 hC1_) U) U U (λh5 A4 hle4 hC1=>?_) (λh6 A5 hle5 hS1=>?_) (λch1 h7 A6 hle6 hP1 e=>gH (mP [] (A:=A6) La (List.sublist_append_right _ _) hP1)))
  .have hs8:cG c p=(dn1++[y1])++((cG.L1 c (cG.K1) rz1)):=hx1.trans ap
   exact mU U (qO 6 U (oi i1 U (qO 2 U (bz (L':=A4) js (ag1 ((dn1++[y1]),A4,h5) hs8 ⟨hC1,((hl1.t hle3).t hle4)⟩)))))
  exact mU U (qO 3 U (et (mF [] (A:=A5) La U js (.inr hS1))))
 have hs9:=hs6.trans (congrArg (dn1++·) (bf c5))
 exact kq (qO 8 U (oi i1 U (qO 2 U (bz (L':=A1_) js (ag1 (dn1,A1_,h4) hs9 ⟨(m1 _ _ _ _ hle3 hC1_),(hl1.t hle3)⟩)))))
theorem yJ(h:HF)(c:bN)(oa:j2)(p:Policy)(gS:eA)(hc:bN.ok h c oa)(hp:zN h p gS)(hsm:smR c.Register)(hco:iU c)(hpr:p.Rules.length=p.Kinds.length/\∀y∈p.Rules,0<=y.Think/\y.Think<=1099511627775):j1 prog 162 [.agg (bN.cells c oa).toArray,.agg (kD p gS).toArray] h (λv h'=>∃(rv0:Value),v=rv0/\Itr prog rv0 oY (gF c p) h'):=by
 refine sT func162 U ntmps162 U λX hM hX hF=>?_
 have hs0:gF c p=gF c p:=rfl
 refine sr (cy (λb1=>cy (λb2=>qO 4 U (aX 1 U hM (λh1 hle1 hb1=>aX 0 U hM (λh2 hle2 hb2=>aC (eG U U (an ?_))))))))
 have hs1:gF c p=(cG c p):=hs0
 exact nretH [.func (.func 255) #[] #[Q b1,Q b2]] ⟨(.func (.func 255) #[] #[Q b1,Q b2]),congrArg (λr:List Approval=>((.func (.func 255) #[] #[Q b1,Q b2]):Value)) hs1.symm,(by rw[hs1];exact(wm h2 c oa ⟨b1,0,none⟩ p gS ⟨b2,0,none⟩ (hc.mono (hle1.t hle2)) ((cA hb1).mono hle2) (hp.mono (hle1.t hle2)) (cA hb2) ob ob ob))⟩
theorem pA(h:HF)(c:bN)(oa:j2)(p:Policy)(gS:eA)(hc:bN.ok h c oa)(hp:zN h p gS)(hsm:smR c.Register)(hco:iU c)(hpr:p.Rules.length=p.Kinds.length/\∀y∈p.Rules,0<=y.Think/\y.Think<=1099511627775):j1 prog 79 [.agg (bN.cells c oa).toArray,.agg (kD p gS).toArray] h (λv h'=>∃(rb0:Option Addr)(rc0:Nat),v=.slice rb0 (dk c p).length rc0/\SlC qC h' rb0 rc0 (dk c p)):=by
 refine cJ func79 U ntmps79 U λX hM hX=>?_
 have hs0:dk c p=dk c p:=rfl
 refine sr (cy (λb1=>cy (λb2=>ba zc31 (λb3=>qO 4 U (cK 2 ty123 U U U (cK 1 ty64 U U U (aC (cS call162 (yJ _ _ _ _ _ hc hp ob ob ob) U (λv1 h1 hle1 hp1=>?_)))))))))
 obtain⟨_,rfl,mo1⟩:=hp1
 refine qO 2 U (et ?_)
 let z1:Nat×Obj:=(b1,O (bN.cells c oa) 123)
 let z2:Nat×Obj:=(b2,O (kD p gS) 64)
 refine cn (L':=([(b3,O [.slice none 0 0] 31),z2,z1])++markB []) ap ?_
 refine j3 (it:=v1) (xs:=(gF c p)) (ι:=(List Int)×Option Addr×Nat×LH×HF) [] (λi=>i.2.2.2.2) (λi=>[(b3,O [.slice i.2.1 i.1.length i.2.2.1] 31),z2,z1]++(i.2.2.2.1)) (λs i=>dk c p=((dk.L1 (dk.K1)) s i.1)/\dG qC 3 i.2.2.2.2 i.1 i.2.1 i.2.2.1 i.2.2.2.1/\jM h1 i.2.2.2.2/\i.1.length+s.length<=2000000) (λ_=>False) (λ_=>False) 0 (λ_ _ _=>False) ([],none,0,[],h1) func79 U mo1 U pL (λ_ _ _ _ _ hq=>hq) U (show[(b3,O [.slice none 0 0] 31),z2,z1]=_ from U) ⟨hs0,dG.nil,lf,(by have hc:=Oz hsm p;simpa using hc)⟩ ?_ ?_ ?_ ?_ ?_
 .rintro l1 dm1 lp1 y1 rz1 vs1 ⟨ck,lg,ld,lh,hh1⟩ hr1 X hFR1 ⟨hs1,mK,hl1,u1_0⟩ hl01 hlr1 hv1 hX hXM hlp1 nx1 rt1 ex1 pn1
  try dsimp only at mK hl1 u1_0 hlr1
  obtain rfl:=hv1
  simp only[zA]at u1_0
  let z3:Nat×Obj:=(b3,O [.slice lg ck.length ld] 31)
  let z6:Nat×Obj:=(dm1,.deferred (some []))
  refine cn (L':=[(l1,.loop lp1),z6,z3,z2,z1]++(lh++(markB []))) ap (bE (ba zc81 (λb6=>aQ 0 ty81 U U U U U U (il (L':=[(b6,O (zD y1) 81),(l1,.loop lp1),z6,z3,z2,z1]++(lh++(markB []))) U ?_))))
  let z7:Nat×Obj:=(l1,.loop { lp1 with state:=.busy })
  let z8:Nat×Obj:=(b6,O (zD y1) 81)
  refine aJ (jy 1 U hlp1 (qK 5 [3,0] U (aC (bK (cells:=[I y1.For]) dY ty3 zc3 U U kr (λb7=>aC (dK Rp.iK ([(b7,O [I y1.For] 3),z8,z7,z6,z3,z2,z1]) (markB []) (λG=>[(b7,O [I y1.For] 3),z8,z7,z6,z3,z2,z1]++(markB []++G)) ap (λ_=>ap) dY ty3 zc3 U bytes3 (mK.mono vG hlr1) U U (fd 0 U (cE (y1.For) U U)) lo lo (λob2 oc2 G4 gr4=>yd (rP ([(b7,O [I y1.For] 3),z8,z7,z6,z3,z2,z1]) G4 (markB [])) (cT 4 ty31 U U U U U U (qO 2 U ?_)))))))))
  let z9:Nat×Obj:=(b3,O [.slice ob2 ((ck++[y1.For]).length) oc2] 31)
  exact bz (L':=[z7,z6,z9,z2,z1]++(G4++(markB []))) js (cn (L':=rdH l1 dm1 lp1 (([z9,z2,z1]++G4)++markB [])) ap (nx1 ((ck++[y1.For]),ob2,oc2,G4,hr1) _ _ ⟨hs1,gr4,(hl1.t hlr1),(by first|omega|(simp only[jA,zA,jB]at *;omega))⟩ lf))
 .rintro dm1 ⟨ck,lg,ld,lh,hh1⟩ hn1 ⟨hs2,mK,hl1,u1_0⟩ hln1 hl01
  try dsimp only at mK hl1 u1_0 hln1
  let z4:Nat×Obj:=(b3,O [.slice lg ck.length ld] 31)
  refine cn (L':=[z4,z2,z1]++(lh++(markB (dm1::[])))) ap (qK 4 [0] U (aC (nd ([z4,z2,z1]) lh (markB (dm1::[])) Nq (mw hn1 ck lg ld lh (mK.mono vG hln1) (by first|assumption|omega|(simp only[jA,zA,jB] ;omega))) ap U (λG5 gr5=>qL 4 [0] U (aC (nd (v:=.slice lg (slices_Compact_int (sortI ck)).length ld) ([z4,z2,z1]) G5 (markB (dm1::[])) call136 (py hn1 (sortI ck) lg ld G5 gr5) ap (by first|rfl|(simp only[iw];rfl)) (λG6 gr6=>il (L':=[z4,z2,z1]++(G6++(markB (dm1::[])))) ap (cT 0 ty31 U U U U U U (aJ ?_)))))))))
  let z5:Nat×Obj:=(b3,O [.slice lg ((slices_Compact_int (sortI ck)).length) ld] 31)
  refine fF vG ([z5,z2,z1]) G6 (markB (dm1::[])) ap hM gr6 (λh3 hle3 sl2=>?_)
  have hs3:dk c p=(slices_Compact_int (sortI ck)):=hs2
  exact cn (L':=([z5,z2,z1])++markB (dm1::[])) ap (pV (dm1::[]) [.slice lg ((slices_Compact_int (sortI ck)).length) ld] func79 U ⟨⟨0,_,_,_,_,U,U,.inr ⟨_,ty31,U⟩⟩,trivial⟩ ⟨lg,ld,congrArg (λr:List Int=>(.slice lg r.length ld:Value)) hs3.symm,(by rw[hs3];exact sl2)⟩)
 .exact xf
 .exact xf
 exact xf
theorem ry(h:HF)(s:List Version)(sk:Option Addr)(sj:Nat)(f:(Version->Bool))(f_v:Value)(hs:SlC qQ h sk sj s)(hf:∀(h':HF)(dF:Version)(yN:pq),jM h h'->aB1 h' dF yN->um prog f_v [.agg (aAz dF yN).toArray] h' [] (.bool (f dF))):Ret prog 163 [.slice sk s.length sj,f_v] h (I (aS s f)):=by
 refine sT func163 U ntmps163 U λX hM hX hF=>?_
 have hs0:aS s f=aS s f:=rfl
 refine qK 11 [] U ?_
 refine lp0 s (λi=>[(0,.slice sk s.length sj),(1,f_v),(7,I (s.length:Int)),(8,I (i:Int))]) ([]) (λs1 i=>(aS.L1 f (aS.K1)) s1 i) hs.1.1 hs0 ?_ ?_
 .rintro i1 fp hs1 e
  exact sr (an (nretP [I (-1)] (ci hs1)))
 rintro i1 y1 rz1 hd1 dj aY er gr hs3 hx1 ag1 e
 refine sr (tO dj U (qO 16 U (aC (iR yz ty105 hs.1 aY U U U (λ_ _ _ e=>e) (λq2 r2 A2 ok2=>dz ty105 A2 U U (aC (lT (v:=.bool (f y1)) [] (List.nil_sublist _) (hf h y1 r2 lf ok2) U U (aJ (ae hs3 U (λc2 hs4=>?_) (λc2 hs5=>?_))))))))))
 .exact sr (qO 3 U (nretP [I (i1:Int)] (ci hs4)))
 exact aN (qT 2 U (oi i1 U (qO 2 U (ag1 hs5))))
theorem DA(s:List Version)(f:Version->Bool):aS s f<(s.length:Int):=by
 have key:∀(l:List Version)(i:Nat),aS.L1 f aS.K1 l i<((i+l.length:Nat):Int):=by
  intro l
  induction l with
  |nil=>intro i;simp only[aS.L1,aS.K1];omega
  |cons y l ih=>
   intro i
   simp only[aS.L1,Bool.cond_eq_ite,zA]
   split
   .omega
   have:=ih (i+1);omega
 have:=key s 0
 simpa[aS]using this
theorem uz(h:HF)(v:Version)(Ro:pq)(v0:Int)(v0_q:Addr)(hv:aB1 h v Ro)(av0:At h v0_q [I v0]):Ret prog 164 [.agg (aAz v Ro).toArray,.pointer (some v0_q)] h (.bool (dE v v0)):=by
 refine sT func164 U ntmps164 U λX hM hX hF=>?_
 have hs0:dE v v0=dE v v0:=rfl
 exact sr (cy (λb1=>qL 6 [0] U (dh ty3 av0 U (qO 3 U (nretP [.bool (v.No==v0)] (cs hs0))))))
theorem pz(h:HF)(c:bN)(oa:j2)(no:Int)(hc:bN.ok h c oa):Hr prog 80 [.agg (bN.cells c oa).toArray,I no] h errV (dS c no) (λ(r:Policy)v h'=>∃(rr0:eA),v=.agg (kD r rr0).toArray/\zN h' r rr0):=by
 refine cJ func80 U ntmps80 U λX hM hX=>?_
 have hs0:dS c no=dS c no:=rfl
 refine sr (cy (λb1=>cy (λb2=>ba zc64 (λb3=>qL 6 [2] U (aX 1 U hM (λh1 hle1 hb1=>aC (eG U U (ai call163 (ry _ _ _ _ (λdF=>dE dF no) (.func (.func 164) #[] #[Q b2]) (hc.Register.Versions.mono vM hle1) (λh' dF yN hle a0_o=>iJ call164 (uz h' dF yN no ⟨b2,0,none⟩ a0_o ((cA hb1).mono hle)))) U (qO 8 U (ae hs0 U (λc1 hs1=>?_) (λc1 hs2=>?_)))))))))))
 .have c1p:=of_decide_eq_true c1
  exact bE (aC (fw (DO Nw U U) (aC (DK U yg (λe=>gH (IG [] func80 hs1))))))
 have c1p:=of_decide_eq_false c1
 refine qK 7 [1] U ?_
 have ho1:0<=((aS c.Register.Versions (λdF=>dE dF no)):Int)/\((aS c.Register.Versions (λdF=>dE dF no)):Int)<((c.Register.Versions).length:Int):=(by have hq:=DA c.Register.Versions (λdF=>dE dF no);simp only[decide_eq_true_eq,decide_eq_false_iff_not,Bool.and_eq_true,xD,Bool.not_eq_true',Bool.not_eq_false',Bool.and_eq_false_iff,Bool.or_eq_false_iff,beq_iff_eq,beq_eq_false_iff_ne,bne_iff_ne,bne_eq_false_iff_eq,jA,zA,jB,List.length_drop]at *;omega)
 refine aC (si yz ty105 (hc.Register.Versions.mono vM hle1).1 ho1 (cN ho1) U U U (λ_ _ _ e=>e) (λq1 r1 A1 ok1=>qL 1 [] U (zI (j:=3) ty64 A1 U U (aQ 0 ty64 U U U U U U (aJ ?_)))))
 have hs3:dS c no=(Except.ok ((nthI c.Register.Versions (aS c.Register.Versions (λdF=>dE dF no))).Policy)):=hs2
 exact et (ID [] [.agg (kD ((nthI c.Register.Versions (aS c.Register.Versions (λdF=>dE dF no))).Policy) r1.Policy).toArray] func80 U ⟨⟨0,_,_,_,_,U,U,.inl ⟨ty64,U⟩⟩,trivial⟩ hs3 ⟨r1.Policy,U,ok1.Policy⟩)
section
variable {P:Program} {e:Env} {X:Cx} {h:HF} {L:LH} {d:Option Nat} {ty:TypeId} {pos:String} {af:Array Edge} {g:Option (Nat×Bool)}
theorem Py{t u:TypeId}{x:Operand}(hT:∃ms,P.underlying t=some (.interface ms))(hx:e.ev x=.nilIface):∀w,St X h L w->(execOp e.ev ⟨d,.binOp .eql t x (.const .nilIface) u,ty,pos,af,g⟩).run P w=.ok (.value (.bool true)) w:=
 λw _=>by
  obtain⟨ms,hT⟩:=hT
  have hc:e.ev (.const .nilIface)=.nilIface:=rfl
  have he:(Op.equal t .nilIface .nilIface).run P w=.ok true w:=by
   rw[Op.equal,Op.maxDepth,show(10000:Nat)=9999+1 from rfl,Op.equalIn];simp[run_underlying hT]
  simp[execOp,hx,hc,eqGuard,binOp,he]
theorem Px{t u:TypeId}{x:Operand}{T:TypeId}{v:Value}(hT:∃ms,P.underlying t=some (.interface ms))(hx:e.ev x=.iface T v):∀w,St X h L w->(execOp e.ev ⟨d,.binOp .eql t x (.const .nilIface) u,ty,pos,af,g⟩).run P w=.ok (.value (.bool false)) w:=
 λw _=>by
  obtain⟨ms,hT⟩:=hT
  have hc:e.ev (.const .nilIface)=.nilIface:=rfl
  have he:(Op.equal t (.iface T v) .nilIface).run P w=.ok false w:=by
   rw[Op.equal,Op.maxDepth,show(10000:Nat)=9999+1 from rfl,Op.equalIn];simp[run_underlying hT]
  simp[execOp,hx,hc,eqGuard,binOp,he]
theorem Ku{x:Operand}{xt T:TypeId}{k:IntKind}{v:Value}(hT:P.underlying T=some (.int k))(hx:e.ev x=.iface T v):∀w,St X h L w->(execOp e.ev ⟨d,.typeAssert x xt T true,ty,pos,af,g⟩).run P w=.ok (.value (.tuple #[v,.bool true])) w:=
 λw _=>by simp[execOp,hx,Instr.typeAssert,run_underlying hT]
end
theorem FL(h:HF)(b1:Nat)(e0:Int)(X':Cx):TT prog (deferFrame 50) 14 [.code (bodyOf Tryz.f50)] (FT prog X' .returning (λh' B=>h'=h/\B=[(b1,O [I e0] 37)])) (envArgs [Q b1]) [] X' h [(b1,O [I e0] 37)]:=by
 exact sr (CC (λcs_z Φ⟨c,rest,hcs,hm,_⟩=>by subst hcs;simp[recoverD,hm]) (qO 4 U (aC (fw (Py ⟨_,NA⟩ U) (qO 6 U (Hz Gy U ⟨U,U⟩))))))
theorem Ak(h:HF)(b1:Nat)(e0 ee:Int)(X':Cx):TT prog (deferFrame 50) 14 [.code (bodyOf Tryz.f50)]
  (λcs_z Φ=>∃c rest,cs_z=c::rest/\c.mode=.panicking [{ v:=errV ee,recovered:=false }]/\FT prog X' (.panicking [{ v:=errV ee,recovered:=true }]) (λh' B=>h'=h/\B=[(b1,O [I ee] 37)]) ({ c with mode:=(.panicking [{ v:=errV ee,recovered:=true }]) }::rest) Φ)
  (envArgs [Q b1]) [] X' h [(b1,O [I e0] 37)]:=by
 exact sr (D4 (F':=FT prog X' (.panicking [{ v:=errV ee,recovered:=true }]) (λh' B=>h'=h/\B=[(b1,O [I ee] 37)])) (errV ee) (λcs_z Φ⟨c,rest,hcs,hm,hF⟩=>⟨_,by subst hcs;simp[recoverD,hm],hF⟩) (qO 4 U (aC (fw (Px ⟨_,NA⟩ U) (qO 4 U (aC (fw (Ku Nw U) (qO 11 U (aC (fw (fW U) (cT 0 ty37 U U U U U U (qO 2 U (Hz Gy U ⟨U,U⟩)))))))))))))
theorem rJ{P:Program}{b:Frame}{n:Nat}{ops:Array Oper}{l:List Oper}{k:List Item}{F:List Frame->(Machine->Prop)->Prop}{e:Env}{ds:List Deferred}{X:Cx}{h:HF}{L:LH}{d:Nat}{ty:TypeId}{pos:String}{af:Array Edge}{g:Option (Nat×Bool)}{f:FuncId}{ass:Array Operand}{ats:Array TypeId}{vs:List Value}{ρ : Type}{pe:Int->Value}{x:Except Int ρ}{φ : ρ->Value->HF->Prop}(hc:∀args w,(callFunc f args).run P w=.ok (.enter f args) w)(hs:Hr P f vs h pe x φ)(hvs:ass.toList.map e.ev=vs)(t':∀u v h',x=.ok u->h.le h'->φ u v h'->TO P b n ops l k F (upd e d v) ds X h' L)(tp:∀p h',x=.error p->h.le h'->TP P b n [{ v:=pe p,recovered:=false }] F e ds X h' L)(hdn:Nat.blt d n=true:=by rfl)(hg:guardB ops e ⟨some d,.call ⟨.value (.func f),ass,ats⟩,ty,pos,af,g⟩=true:=by rfl):
  TO P b n ops (⟨some d,.call ⟨.value (.func f),ass,ats⟩,ty,pos,af,g⟩::l) k F e ds X h L:=by
 refine Hy U (oB hdn) U hg (λw hw=>?_)
 have harr:ass.map e.ev=vs.toArray:=aAs (by simp[←hvs])
 refine⟨.enter f vs.toArray,w,?_,?_⟩
 .simp[execOp,resolve,Env.ev,kJ,invoke,harr,hc]
 refine j7 (rq.mono (hs w (hw.sub (List.nil_sublist _)).pre) ?_)
 rintro y w' ⟨h',B,hst,rfl,hv⟩
 have hw2:=St.after (A:=[]) (B:=[]) (F:=L) hw hst
 cases y with
 |outgrown=>trivial
 |returned v=>
  cases x with
  |ok u=>obtain⟨v',hv,hφ⟩:=hv;cases hv;exact⟨h',_,hw2,t' _ _ _ rfl hst.le hφ⟩
  |error p=>cases hv
 |panicked ch=>
  cases x with
  |ok u=>obtain⟨v',hv,_⟩:=hv;cases hv
  |error p=>cases hv;exact⟨h',_,hw2,tp _ _ rfl hst.le⟩
theorem Gu.toXH{P:Program}{f:FuncId}{vs:List Value}{h:HF}{ρ : Type}{pe:Int->Value}{enc:ρ->Value}{x:Except Int ρ}(hs:Gu P f vs h (exW pe enc x)):Hr P f vs h pe x (λu v h'=>v=enc u/\h'=h):=
 od.mono hs (λr h' B hl hR=>by
  obtain⟨rfl,rfl,hv⟩:=hR
  refine⟨U,?_⟩
  cases x with
  |ok u=>simp only[exW]at hv;exact⟨_,hv,rfl,rfl⟩
  |error p=>simp only[exW]at hv;exact hv)
theorem qZ(h:HF)(aL:Register)(fx:dD)(doc:Int)(version:Int)(dl:Int)(known:Int)(iW:Register.ok h aL fx)(hsm:smR aL)(hpo:∃v∈aL.Versions,v.No=version)(hk:Kinds h):
  j1 prog 16 [.agg (xL aL fx).toArray,I doc,I version,I dl,I known] h (λv h'=>∃(rb0:Option Addr)(rc0:Nat),v=.tuple #[.slice rb0 ((cz aL doc version dl known).1).length rc0,I ((cz aL doc version dl known).2)]/\SlC qC h' rb0 rc0 ((cz aL doc version dl known).1)):=by
 refine cJ Np U ntmps16 U λX hM hX=>sr (cy (λb5=>gj (ba zc37 (λb11=>qO 3 U (GG U U (aJ ?_))))))
 have fin:∀(hh:HF)(xs:List Int)(rb:Option Addr)(rc:Nat)(ee:Int)(B:LH)(e:Env),cz aL doc version dl known=(xs,ee)->SlC qC hh rb rc xs->e 10=.slice rb xs.length rc->e 11=Q b11->∀a:Act,envOf a=e->∀w,St X hh ([(b11,O [I ee] 37)]++B) w ->
   ∃v h2 B2,(results Tryz.f16 a.tmps).run prog w=.ok v w/\St X h2 B2 w/\(B2=[]/\∃v',Ending.returned v=.returned v'/\∃(rb0:Option Addr)(rc0:Nat),v'=.tuple #[.slice rb0 ((cz aL doc version dl known).1).length rc0,I ((cz aL doc version dl known).2)]/\SlC qC h2 rb0 rc0 ((cz aL doc version dl known).1)):=by
  intro hh xs rb rc ee B e he hs h10 h11 a ha w hw
  rw[he]
  exact⟨_,hh,[],mA (rs:=[.tmp 10,.cell 11 37]) (vs:=[.slice rb xs.length rc,I ee]) U ⟨h10,⟨0,b11,[I ee],37,(0,0),U,h11,.inr ⟨_,ty37,U⟩⟩,trivial⟩ a ha w hw,hw.sub (List.nil_sublist _),U,_,U,rb,rc,U,hs⟩
 refine sr (cK 1 ty30 U U U (ai (v:=I (dR aL)) Nn (oX h aL fx iW hsm hk) U ?_))
 refine rJ uq (ij h (dR aL)).toXH U (λu v h1 hx1 hle1 hp1=>?_) (λee h1 hx1 hle1=>?_)
 rotate_left
 .have e1:cz aL doc version dl known=([],ee):=by
   unfold lA at hx1;unfold cz
   cases hc:dR aL != 0 with
   |true=>rw[hc]at hx1;cases hx1;rfl
   |false=>rw[hc]at hx1;cases hx1
  refine D2 (c:=bodyOf Tryz.f50) (cap:=[Q b11]) (A:=[(b11,O [I 0] 37)]) (R':=λh'' B=>h''=h1/\B=[(b11,O [I ee] 37)]) Np Gy U K9 U K8 (λX' _=>Ak h1 b11 0 ee X') U ?_
  rintro h'' B _ ⟨rfl,rfl⟩ a ha w hw
  exact fin _ [] none 0 ee _ _ e1 vE U U a ha w hw
 obtain⟨rfl,rfl⟩:=hp1
 have hc0:dR aL=0:=by
  unfold lA at hx1
  cases hc:dR aL != 0 with
  |true=>rw[hc]at hx1;cases hx1
  |false=>simpa using hc
 refine qO 3 U (cK 1 ty30 U U U (qO 3 U ?_))
 refine rJ call53 (yY h1 aL fx doc dl known iW) U (λc v h2 hx2 hle2 hp2=>?_) (λee h2 hx2 hle2=>?_)
 rotate_left
 .have e1:cz aL doc version dl known=([],ee):=by unfold cz;rw[hc0,hx2];rfl
  refine D2 (c:=bodyOf Tryz.f50) (cap:=[Q b11]) (A:=[(b11,O [I 0] 37)]) (R':=λh'' B=>h''=h2/\B=[(b11,O [I ee] 37)]) Np Gy U K9 U K8 (λX' _=>Ak h2 b11 0 ee X') U ?_
  rintro h'' B _ ⟨rfl,rfl⟩ a ha w hw
  exact fin _ [] none 0 ee _ _ e1 vE U U a ha w hw
 obtain⟨cr,rfl,okc⟩:=hp2
 obtain⟨hce,hco,_,_⟩:=HS hc0 hx2
 have hreg:c.Register=aL:=by rw[hce]
 have hsc:smR c.Register:=by rw[hreg];exact hsm
 obtain⟨p,hpp⟩:∃p,dS c version=.ok p:=by
  have hq:=AU (c:=c) (no:=version) (by rw[hreg];exact hpo)
  cases hcp:dS c version with
  |ok p=>exact⟨p,rfl⟩
  |error e=>rw[hcp]at hq;exact hq.elim
 have hpk:=vj hco hsc hpp
 have hpx:exOk (dS c version):=by rw[hpp];trivial
 have e1:cz aL doc version dl known=(dk c p,0):=by unfold cz;rw[hc0,hx2];simp only[bne_self_eq_false,cond_false,hpp]
 refine ba zc123 (λb12=>aQ 0 ty123 U U U U U U (aJ ?_))
 let z1:Nat×Obj:=(b12,O (bN.cells c cr) 123)
 obtain⟨K,hK⟩:∃K:LH,K=[z1]:=⟨_,rfl⟩
 have J:∀{h':HF}{A:LH},h2.le h'->Jst h2 [z1] h' (z1::A):=λhl=>⟨hl,λq hq=>by rw[kC.1 hq];exact zB ..⟩
 refine el (eM [z1] mixed kr (J lf) (λhsep _=>i9 0 hsep (J lf) U U kr U (λ_ _ hj=>jO ty123 U (hj.nth (i:=0) U) U) (i9 1 hsep (J lf) U U kr U (λ_ _ hj=>jO ty123 U (hj.nth (i:=0) U) U) (i9 2 hsep (J lf) U U kr U (λ_ _ _=>mE) (tn 3 U (GN call80 (pz h2 c cr version okc) hpx U (λv h3 hle3 hp3=>⟨J hle3,?_⟩)))))))
 rw[OZ hpp]at hp3
 obtain⟨pr,rfl,okp⟩:=hp3
 refine tn 4 U (cS call79 (pA h3 c cr p pr (okc.mono hle3) okp hsc hco hpk.rules) U (λv h4 hle4 hp4=>⟨J (hle3.t hle4),?_⟩))
 obtain⟨rb,rc,rfl,sl⟩:=hp4
 refine i9 5 hsep (J (hle3.t hle4)) U U kr U (λ_ _ _=>Od) (tn 6 U (ku 1 (off:=0) (vs:=[I 0]) ty37 U U U U (by rfl) U ⟨J (hle3.t hle4),aV kr (lH (L':=[(b11,O [I 0] 37)]++[z1,(b5,O (xL aL fx) 30)]) (List.Perm.swap _ _ _) (IE (c:=bodyOf Tryz.f50) (cap:=[Q b11]) (A:=[(b11,O [I 0] 37)]) (R':=λh'' B=>h''=h4/\B=[(b11,O [I 0] 37)]) Np Gy U K9 U K8 (λX' _=>FL h4 b11 0 X') U ?_))⟩))
 rintro h'' B _ ⟨rfl,rfl⟩ a ha w hw
 exact fin _ _ rb rc 0 _ _ e1 sl U U a ha w hw
theorem ol(h:HF)(ep:Int)  : Ret prog 85 [I ep] h (.bool (gB ep)):=by
 refine sT func85 U ntmps85 U λX hM hX hF=>?_
 have hs0:gB ep=gB ep:=rfl
 refine qT 9 U (bj 3 [5,6,7,8] 5 8 (decide (ep<1099511627776)) U (λc1 hk1=>?_) (λe=>?_))
 .exact av (qO 2 U (hk1 _ U))
 exact an (nretP [.bool (decide (0<=ep)&&decide (ep<1099511627776))] (cs hs0))
theorem wg(h:HF)(l:List Version)(eP:Option Addr)(eO:Nat)(l_q:Addr)(known:Int)(known_q:Addr)(eY:Int)(from__q:Addr)(hl:SlC qQ h eP eO l)(al:At h l_q [.slice eP l.length eO])(aknown:At h known_q [I known])(afrom_:At h from__q [I eY])(hsz:l.length<=2000000):Itr prog (.func (.func 167) #[] (vB [.pointer (some l_q),.pointer (some known_q),.pointer (some from__q)])) ra (bL l known eY) h:=by
 refine sE call167 ?_
 intro yf ya yb C Sp Pn h1 A hle m1 m2 m3 hC hy
 refine jg Nm U ntmps167 U λX hXM hX=>?_
 have hs0:bL l known eY=[]++bL l known eY:=rfl
 refine sr (aC (NY hXM (λb1 b1M=>qO 9 U (dh ty26 (al.mono hle) U (qL 3 [] U ?_)))))
 refine lp2 l (λi w=>[(0,.func yf ya yb),(2,.pointer (some known_q)),(3,.pointer (some from__q)),(5,.map (some b1)),(6,I w.1),(13,.slice eP l.length eO),(14,I (l.length:Int)),(15,I (i:Int))]) (λ_=>h1) (λw=>[(b1,w.2.2)]++(A)) (λi w=>ja (xC .i64) (iT qQ) h1 w.2.2 w.2.1/\w.2.1.length<=0+i) (λs1 i w=>[]++(bL.L1 known eY (bL.K1)) s1 w.1 w.2.1) ((-1),[],.map #[] 0) ((hl.mono vM hle).1.1) hs0 ⟨(ja.nil (enc:=(xC .i64)) (V:=(iT qQ)) (h:=h1)),lc⟩ ?_ ?_
 .rintro i1 ⟨re,bC,ie⟩ fp hs1 ⟨fI,nv⟩ e
  try dsimp only at fI nv
  refine qT 3 U (D5 0 U b1M (λh8 hle7 hb3=>?_))
  have mc2:s7 (xC .i64) (iT qQ) h8 b1 bC:=⟨_,hb3,fI.mono (iT.mono vM) hle7⟩
  refine aC (cS call169 (xe h8 bC b1 mc2) U (λv4 h9 hle8 hp3=>aC (cS call168 (yA h9 v4 (bC.map Prod.fst) hp3 (by rw[List.length_map];omega)) U (λv5 h10 hle9 hp4=>?_))))
  obtain⟨rb2,rc2,rfl,sl2⟩:=hp4
  refine qL 3 [] U ?_
  refine lp2 (sortI (bC.map Prod.fst)) (λi w=>[(0,.func yf ya yb),(5,.map (some b1)),(39,.slice rb2 ((sortI (bC.map Prod.fst)).length) rc2),(40,I ((sortI (bC.map Prod.fst)).length:Int)),(41,I (i:Int))]) (λw=>w.2.2) (λw=>w.2.1) (λi w=>C w.1 w.2.2 w.2.1/\jM h10 w.2.2) (λs2 i w=>w.1++(bL.L2 bC (bL.K2)) s2) ([],A,h10) sl2.1.1 hs1 ⟨(m1 _ _ _ _ ((hle7.t hle8).t hle9) hC),lf⟩ ?_ ?_
  .rintro i2 ⟨dn2,A2_,hh2⟩ xn hs2 ⟨hC2_,hl2⟩ e
   try dsimp only at hC2_ hl2
   refine et ?_
   have hs3:bL l known eY=dn2:=hs2.trans (List.append_nil _)
   exact sF [] (A:=A2_) Nm U (List.Sublist.refl _) (.inl (hs3▸hC2_))
  rintro i2 ⟨dn2,A2_,hh2⟩ y2 rz2 hd2 xm sH E2 KH hs4 ⟨hC2_,hl2⟩ hx2 ag1 e
  try dsimp only at hC2_ hl2
  refine sr (tO xm U (qO 8 U (aC (iF (λy=>[I y]) dY ty3 (sl2.mono vG hl2).1 sH U U U (λq4 A10=>dh ty3 A10 U (qO 8 U ?_))))))
  obtain⟨o3,hb5,hm5⟩:=(mc2.mono (iT.mono vM) ((hle8.t hle9).t hl2))
  refine aC (nD (k:=y2) Ns (fC m6) hb5 hm5 (e8 zv105) (show(iT qQ) _ (.agg (vB [I 0,I 0,I 0,.string (⟨#[]⟩:ByteArray),.slice none 0 0,.slice none 0 0,.slice none 0 0,I 0,I 0,I 0,.string (⟨#[]⟩:ByteArray),.slice none 0 0,I 0])) (aAZ 0 0 0 (xM (⟨#[]⟩:ByteArray) [] [] [] (qG 0 0 0 (⟨#[]⟩:ByteArray) []) 0))from⟨_,U,(pq.mk (eA.mk none 0 none 0 none 0 (cL.mk none 0))),U,⟨⟨vE,vE,vE,(Expr.ok.of vE)⟩⟩⟩) U U (λv7 hv3=>?_))
  obtain⟨_,rfl,rr4,rfl,ok4⟩:=hv3
  have hx3:bL l known eY=dn2++((y2,(mgetD bC y2 (aAZ 0 0 0 (xM (⟨#[]⟩:ByteArray) [] [] [] (qG 0 0 0 (⟨#[]⟩:ByteArray) []) 0))))::(bL.L2 bC (bL.K2) rz2)):=hs4
  refine aC (kp ([]) A2_ ap (hy dn2 (y2,(mgetD bC y2 (aAZ 0 0 0 (xM (⟨#[]⟩:ByteArray) [] [] [] (qG 0 0 0 (⟨#[]⟩:ByteArray) []) 0)))) _ _ _ _ hx3 (((hle7.t hle8).t hle9).t hl2) hC2_ ⟨rr4,U,ok4⟩) U U (λh14 A11 hle13 hC3=>?_) (λh15 A12 hle14 hS3=>?_) (λch3 h16 A13 hle15 hP3 e=>gH (mP [] (A:=A13) Nm (List.sublist_append_right _ _) hP3)))
  .have hs5:bL l known eY=(dn2++[(y2,(mgetD bC y2 (aAZ 0 0 0 (xM (⟨#[]⟩:ByteArray) [] [] [] (qG 0 0 0 (⟨#[]⟩:ByteArray) []) 0))))])++((bL.L2 bC (bL.K2) rz2)):=hx3.trans ap
   exact mU U (qO 5 U (oi i2 U (qO 2 U (ag1 ((dn2++[(y2,(mgetD bC y2 (aAZ 0 0 0 (xM (⟨#[]⟩:ByteArray) [] [] [] (qG 0 0 0 (⟨#[]⟩:ByteArray) []) 0))))]),A11,h14) hs5 ⟨hC3,(hl2.t hle13)⟩))))
  exact mU U (qO 2 U (et (mF [] (A:=A12) Nm U (List.Sublist.refl _) (.inr hS3))))
 rintro i1 ⟨re,bC,ie⟩ y1 rz1 hd1 dj aY er gr hs6 ⟨fI,nv⟩ hx1 ag2 e
 try dsimp only at fI nv
 refine sr (tO dj U (qO 8 U (aC (iR yz ty105 (hl.mono vM hle).1 aY U U U (λ_ _ _ e=>e) (λq5 r2 A14 ok5=>dz ty105 A14 U U (ba zc105 (λb3=>aQ 0 ty105 U U U U U U (il (L':=[(b3,O (aAz y1 r2) 105),(b1,ie)]++(A)) U (qL 6 [0] U (dh ty3 (aknown.mono hle) U (qO 2 U (j8 U (λc5=>?_) (λc5=>?_)))))))))))))
 .have c5p:=of_decide_eq_true c5
  have hs7:=hs6.trans (congrArg ([]++·) (bt c5))
  exact lI U (bE (oi i1 U (qO 2 U (bz (L':=[(b1,ie)]++(A)) js (ag2 (re,bC,ie) hs7 ⟨fI,lc⟩)))))
 have c5p:=of_decide_eq_false c5
 have hs8:=hs6.trans (congrArg ([]++·) (bf c5))
 refine qK 11 [0] U (dh ty3 (afrom_.mono hle) U (qO 2 U (j8 U (λc6=>?_) (λc6=>?_))))
 .have c6p:=of_decide_eq_true c6
  have hs9:=hs8.trans (congrArg ([]++·) (bt c6))
  refine qT 7 U (j8 U (λc7=>?_) (λc7=>?_))
  .have c7p:=of_decide_eq_true c7
   have hs10:=hs9.trans (congrArg ([]++·) (bt c7))
   exact lI U (bE (oi i1 U (qO 2 U (bz (L':=[(b1,ie)]++(A)) js (ag2 (re,bC,ie) hs10 ⟨fI,lc⟩)))))
  have c7p:=of_decide_eq_false c7
  have hs11:=hs9.trans (congrArg ([]++·) (bf c7))
  exact aN (eM ([(b3,O (aAz y1 r2) 105),(b1,ie)]) mixed kr jn (λem _=>tm 0 U (tf 1 U U (rh ty3 (afrom_.mono hle) U) (qA [2,3] U (aV kr (qT 3 U (cK 0 ty105 U U U (aC (kb 1 (k:=eY) (x:=y1) Ns (fC m6) U fI U U ⟨_,U,r2,U,ok5⟩ (λmo3 hm6=>qO 3 U (oi i1 U (qO 2 U (bz (L':=[(b1,mo3)]++(A)) js (ag2 (y1.At,(mput bC eY y1),mo3) hs11 ⟨hm6,(by have:=mI bC eY y1;first|omega|(simp only[jB,zA]at *;omega))⟩))))))))))))))
 have c6p:=of_decide_eq_false c6
 have hs12:=hs8.trans (congrArg ([]++·) (bf c6))
 exact aN (qT 3 U (cK 0 ty105 U U U (aC (kb 1 (k:=y1.At) (x:=y1) Ns (fC m6) U fI U U ⟨_,U,r2,U,ok5⟩ (λmo4 hm7=>qO 3 U (oi i1 U (qO 2 U (bz (L':=[(b1,mo4)]++(A)) js (ag2 (re,(mput bC y1.At y1),mo4) hs12 ⟨hm7,(by have:=mI bC y1.At y1;first|omega|(simp only[jB,zA]at *;omega))⟩)))))))))
theorem yy(h:HF)(l:List Version)(eP:Option Addr)(eO:Nat)(dL:Int)(known:Int)(hl:SlC qQ h eP eO l)(hsz:l.length<=2000000):j1 prog 86 [.slice eP l.length eO,I dL,I known] h (λv h'=>∃(rv0:Value),v=rv0/\Itr prog rv0 ra (fL l dL known) h'):=by
 refine sT func86 U ntmps86 U λX hM hX hF=>?_
 have hs0:fL l dL known=fL l dL known:=rfl
 refine sr (cy (λb1=>cy (λb2=>cy (λb3=>qO 4 U (aX 2 U hM (λh1 hle1 hb1=>aX 0 U hM (λh2 hle2 hb2=>aX 0 U hM (λh3 hle3 hb3=>aC (eG U U (qO 2 U ?_))))))))))
 have hs1:fL l dL known=(bL l known dL):=hs0
 exact nretH [.func (.func 167) #[] #[Q b1,Q b3,Q b2]] ⟨(.func (.func 167) #[] #[Q b1,Q b3,Q b2]),congrArg (λr:(List (Int×Version))=>((.func (.func 167) #[] #[Q b1,Q b3,Q b2]):Value)) hs1.symm,(by rw[hs1];exact(wg h3 l eP eO ⟨b1,0,none⟩ known ⟨b3,0,none⟩ dL ⟨b2,0,none⟩ (hl.mono vM ((hle1.t hle2).t hle3)) ((cA hb1).mono (hle2.t hle3)) ((cA hb2).mono hle3) (cA hb3) ob))⟩
end Go.Sg
