import Derived.Test.YtpplkjhgggjaoaaGreatDoorW10
/- A part of the proof of JudgeExactly. -/
set_option linter.unusedVariables false
set_option linter.unusedSimpArgs false
set_option maxRecDepth 100000
open List renaming length_cons→zA,length_append→jA,length_nil→jB,toArray→vB,append_assoc→qE,nil_append→jG,range→kG,perm_append_comm→jJ,cons_append→jN
open Bool renaming and_eq_true→xB,or_eq_true→xD,not_eq_true'→zE
open Go.Sg.Rp renaming int→qC,aO→vG,str→aAM,bool→aAT,hU→aBr,iK→aBI
open Go.Sg.Expr renaming cells→zC,ok→jF,mk→qG,jf→aAe,aj→aAi,rp→aAF,lO→aBe,eQ→aBJ
open Go.Value renaming int→xC
open Go.IntKind renaming wrap→vC
open Go.Sg.Approval renaming cells→zD
open Go.Sg.Policy renaming cells→kD,mk→xM,ok→zN
open Go.Sg.SlC renaming nil→vE
open Nat renaming le_refl→xG,zero_le→jL
open Go.Sg.Document renaming aj→zH,rp→vR
open Go.Sg.Budget renaming cells→zK,rp→aAk,aj→aBu
open Go.Sg.Register renaming ok→zL,cells→xL
open Go.Sg.HF renaming le→jM
open Go.Sg.Expr.ok renaming of→aAf
open Go.Sg.Use renaming cells→aAx,rp→aCo
open Go.Sg.Rule renaming mk→aBf,aj→aBx

namespace Go.Sg
open Go.Proofs Go.Proofs.Tryz
set_option maxHeartbeats 2000000
theorem lE(h:HF)(ep:Int)  : Ret prog 228 [I ep] h (.bool (gJ ep)):=by
 refine sT func228 U ntmps228 U λX hM hX hF=>?_
 have hs0:gJ ep=gJ ep:=rfl
 refine qT 9 U (bj 3 [5,6,7,8] 5 8 (decide (ep<1099511627776)) U (λc1 hk1=>?_) (λe=>?_))
 .exact av (qO 2 U (hk1 _ U))
 exact an (nretP [.bool (decide (0<=ep)&&decide (ep<1099511627776))] (cs hs0))
theorem Ey(h:HF)(x:Budget)  : Ret prog 156 [.agg (zK x).toArray] h (.bool (jk x)):=by
 refine sT func156 U ntmps156 U λX hM hX hF=>?_
 have hs0:jk x=jk x:=rfl
 refine sr (cy (λb1=>qL 7 [0] U (ai DU (j6 h x.No 0 1048576) U (qO 2 U (bV 5 [7,8,9,10,11,12] 7 12 (!(gJ x.At)) U (λc1 hk1=>?_) (λe=>?_))))))
 .exact qL 2 [0] U (ai Iq (lE h x.At) U (qO 2 U (hk1 _ U)))
 refine av (bV 5 [13,14,15,16,17,18] 13 18 (!(gJ x.Known)) U (λc2 hk2=>?_) (λe=>?_))
 .exact qL 2 [0] U (ai Iq (lE h x.Known) U (qO 2 U (hk2 _ U)))
 refine av (bV 5 [19,20,21,22,23,24] 19 24 (!(fD x.Kind (-1) 15)) U (λc3 hk3=>?_) (λe=>?_))
 .exact qL 2 [0] U (ai DU (j6 h x.Kind (-1) 15) U (qO 2 U (hk3 _ U)))
 refine av (bV 5 [25,26,27,28,29,30] 25 30 (!(fD x.Period 1 1099511627776)) U (λc4 hk4=>?_) (λe=>?_))
 .exact qL 2 [0] U (ai DU (j6 h x.Period 1 1099511627776) U (qO 2 U (hk4 _ U)))
 refine aJ (ae hs0 U (λc5 hs1=>?_) (λc5 hs2=>?_))
 .exact sr (an (nretP [.bool false] (cs hs1)))
 refine qK 7 [0] U (ae hs2 U (λc6 hs4=>?_) (λc6 hs5=>?_))
 .refine qK 6 [0] U (bj 4 [36,37,38,39,40] 36 40 (x.Value==0) U (λc7 hk5=>?_) (λe=>?_))
  .exact qL 4 [0] U (hk5 _ U)
  exact an (nretP [.bool ((x.Count==0)&&(x.Value==0))] (cs hs4))
 refine qK 5 [0] U (ai DU (j6 h x.Count 0 1048576) U (av (bj 4 [44,45,46,47,48] 44 48 (fD x.Value 0 1099511627776) U (λc8 hk6=>?_) (λe=>?_))))
 .exact qL 2 [0] U (ai DU (j6 h x.Value 0 1099511627776) U (eN U (hk6 _ U)))
 exact an (nretP [.bool ((fD x.Count 0 1048576)&&(fD x.Value 0 1099511627776))] (cs hs5))
theorem wV(h:HF)(l:List Budget)(eP:Option Addr)(eO:Nat)(hl:SlC aAk h eP eO l):Ret prog 75 [.slice eP l.length eO] h (I (fy l)):=by
 refine sT func75 U ntmps75 U λX hM hX hF=>?_
 have hs0:fy l=fy l:=rfl
 refine qK 11 [] U (ae hs0 U (λc1 hs1=>?_) (λc1 hs2=>?_))
 .have c1p:=of_decide_eq_true c1
  exact sr (an (nretP [I 2] (ci hs1)))
 have c1p:=of_decide_eq_false c1
 refine qT 6 U ?_
 refine lp0 l (λi=>[(0,.slice eP l.length eO),(3,I (i:Int))]) ([]) (λs1 i=>(fy.L1 l (fy.K1)) s1 i) hl.1.1 hs2 ?_ ?_ ?_
 .rintro i1 fp hs4 e
  exact sr (an (nretP [I 0] (ci hs4)))
 .rintro i1 y1 rz1 hd1 dj aY er gr hs6 hx1 ag1 e
  refine qK 6 [] U (tO dj U (qO 6 U ?_))
  refine oo [(0,.slice eP l.length eO),(3,I (i1:Int)),(36,.bool ((!(jk y1))||(decide (0<(i1:Int))&&decide (y1.No<=(nthI l ((i1:Int)-1)).No))))] (λe=>?_) (λhk1=>?_)
  rotate_left
  .refine eM ([]) mixed kr jn (λem _=>?_)
   refine qA [0,1] U (eS 2 (enc:=zK) em jn ei uo ty101 hl.1 (nthZ aY) (fq aY) U U U U kr (λq4 A4=>tf 3 U U (λ_ _ hj=>lM ty101 (A4.mono hj.1) U U) (tn 4 U (fe call156 (Ey h y1) U (⟨jn,qA [5,6] U ?_⟩)))))
   refine du 19 U (λc2=>?_) (λc2=>?_)
   .exact tk 7 U U (qR 8 16 U (aV kr (hk1 _ ⟨U,U,(cb (show true=((!(jk y1))||(decide (0<(i1:Int))&&decide (y1.No<=(nthI l ((i1:Int)-1)).No)))from by rw[c2]<;>rfl)),trivial⟩)))
   refine qR 7 3 U ?_
   refine du 22 U (λc3=>?_) (λc3=>?_)
   .have c3p:=of_decide_eq_true c3
    refine qA [10,11] U (tf 12 U U (λ_ _ _=>nl (v':=I ((i1:Int)-1)) U (jv ob)) ?_)
    have ho2:0<=(((i1:Int)-1):Int)/\(((i1:Int)-1):Int)<((l).length:Int):=ob
    exact eS 13 (enc:=zK) em jn ei uo ty101 hl.1 ho2 (cN ho2) U U U U kr (λq5 A5=>qB [14] U (tf 15 U U (rh ty3 A5 U) (qA [16,17] U (eS 18 (enc:=zK) em jn ei uo ty101 hl.1 (nthZ aY) (fq aY) U U U U kr (λq6 A6=>qB [19] U (tf 20 U U (rh ty3 A6 U) (qR 21 3 U (aV kr (hk1 _ ⟨U,U,(cb (show decide (y1.No<=(nthI l ((i1:Int)-1)).No)=((!(jk y1))||(decide (0<(i1:Int))&&decide (y1.No<=(nthI l ((i1:Int)-1)).No)))from by rw[c2,c3]<;>rfl)),trivial⟩)))))))))
   have c3p:=of_decide_eq_false c3
   exact tk 10 U U (qR 11 13 U (aV kr (hk1 _ ⟨U,U,(cb (show false=((!(jk y1))||(decide (0<(i1:Int))&&decide (y1.No<=(nthI l ((i1:Int)-1)).No)))from by rw[c2,c3]<;>rfl)),trivial⟩)))
  refine ae hs6 U (λc4 hs7=>?_) (λc4 hs8=>?_)
  .exact sr (an (nretP [I 180] (ci hs7)))
  exact aN (qT 3 U (oi i1 U (an (ag1 hs8))))
 rintro i1 hd1 ga hx e
 exact qK 6 [] U (fO ga U (qO 3 U (hx _ rd)))
theorem pO(h:HF)(ep:Int)  : Ret prog 157 [I ep] h (.bool (fB ep)):=by
 refine sT func157 U ntmps157 U λX hM hX hF=>?_
 have hs0:fB ep=fB ep:=rfl
 refine qT 9 U (bj 3 [5,6,7,8] 5 8 (decide (ep<1099511627776)) U (λc1 hk1=>?_) (λe=>?_))
 .exact av (qO 2 U (hk1 _ U))
 exact an (nretP [.bool (decide (0<=ep)&&decide (ep<1099511627776))] (cs hs0))
theorem Dq(rec:Expr->Int->Int)(h:HF)(x:Expr)(gd:cL)(limit:Int)(hrec:∀(h:HF)(qx:Expr)(kU:cL)(qlimit:Int)(hqx:jF h qx kU)(_:qx.dep<x.dep),Ret prog 366 [.agg (zC qx kU).toArray,I qlimit] h (I (rec qx qlimit)))(hx:jF h x gd):Ret prog 366 [.agg (zC x gd).toArray,I limit] h (I (dy.F rec x limit)):=by
 refine sT func366 U ntmps366 U λX hM hX hF=>?_
 have hs0:dy.F rec x limit=dy.F rec x limit:=rfl
 refine sr (cy (λb1=>qO 11 U ?_))
 refine lp1 x.L (λi w=>[(1,I limit),(2,Q b1),(5,I w),(6,I (i:Int))]) ([(b1,O (zC x gd) 62)]) (λs1 i w=>(dy.L1 rec limit (dy.K1)) s1 w) 1 hx.list.1.1 hs0 ?_ ?_ ?_
 .rintro i1 eW fp hs1 e
  exact sr (qO 3 U (nretP [I eW] (ci hs1)))
 .rintro i1 eW y1 rz1 hd1 dj aY er gr hs3 hx1 ag1 e
  refine qK 7 [0] U (tO dj U (qO 6 U (ae hs3 U (λc2 hs4=>?_) (λc2 hs5=>?_))))
  .have c2p:=of_decide_eq_true c2
   exact qK 8 [0] U (aC (iR lB ty62 hx.list.1 aY U U U (λ_ _ _ e=>e) (λq2 r2 A2 ok2=>dz ty62 A2 U U (qO 3 U (ai call366 (hrec _ _ _ (vC .i64 (limit-eW)) ok2 (aAe (fX hd1))) U (qO 6 U (oi i1 U (qO 2 U (ag1 (vC .i64 (eW+(rec y1 (vC .i64 (limit-eW))))) hs4)))))))))
  have c2p:=of_decide_eq_false c2
  exact lI U (hx1 i1 eW hs5)
 rintro i1 eW hd1 ga hx e
 exact qK 7 [0] U (fO ga U (qO 8 U (hx _ rd)))
theorem tv:∀(m:Nat)(h:HF)(x:Expr)(gd:cL)(limit:Int)(_:x.dep<=m)(hx:jF h x gd),Ret prog 366 [.agg (zC x gd).toArray,I limit] h (I (dy.go m x limit))
 |0,h,x,gd,limit,hd,hx=>absurd hd (Nat.not_le.2 (aBe _))
 |m+1,h,x,gd,limit,hd,hx=>Dq (dy.go m) h x gd limit (λqh_ qx kU qlimit qhx qd=>tv m qh_ qx kU qlimit ob qhx) hx
theorem Ew(h:HF)(x:Expr)(gd:cL)(limit:Int)(hx:jF h x gd):Ret prog 366 [.agg (zC x gd).toArray,I limit] h (I (dy x limit)):=tv _ h x gd limit (xG _) hx
theorem Dr(rec:Expr->Int)(h:HF)(x:Expr)(gd:cL)(hrec:∀(h:HF)(qx:Expr)(kU:cL)(hqx:jF h qx kU)(_:qx.dep<x.dep),Ret prog 367 [.agg (zC qx kU).toArray] h (I (rec qx)))(hx:jF h x gd):Ret prog 367 [.agg (zC x gd).toArray] h (I (bu.F rec x)):=by
 refine sT func367 U ntmps367 U λX hM hX hF=>?_
 have hs0:bu.F rec x=bu.F rec x:=rfl
 refine sr (cy (λb1=>qO 11 U ?_))
 refine lp1 x.L (λi w=>[(1,Q b1),(3,I w),(4,I (i:Int))]) ([(b1,O (zC x gd) 62)]) (λs1 i w=>(bu.L1 rec (bu.K1)) s1 w) 0 hx.list.1.1 hs0 ?_ ?_ ?_
 .rintro i1 iB fp hs1 e
  exact sr (qO 4 U (nretP [I (vC .i64 (iB+1))] (ci hs1)))
 .rintro i1 iB y1 rz1 hd1 dj aY er gr hs3 hx1 ag1 e
  exact qK 7 [0] U (tO dj U (qL 10 [0] U (aC (iR lB ty62 hx.list.1 aY U U U (λ_ _ _ e=>e) (λq2 r2 A2 ok2=>dz ty62 A2 U U (ai call367 (hrec _ _ _ ok2 (aAe (fX hd1))) U (aC (fw (P7 U U) (qO 5 U (oi i1 U (an (ag1 (max iB (rec y1)) hs3))))))))))))
 rintro i1 iB hd1 ga hx e
 exact qK 7 [0] U (fO ga U (qO 3 U (hx _ rd)))
theorem tw:∀(m:Nat)(h:HF)(x:Expr)(gd:cL)(_:x.dep<=m)(hx:jF h x gd),Ret prog 367 [.agg (zC x gd).toArray] h (I (bu.go m x))
 |0,h,x,gd,hd,hx=>absurd hd (Nat.not_le.2 (aBe _))
 |m+1,h,x,gd,hd,hx=>Dr (bu.go m) h x gd (λqh_ qx kU qhx qd=>tw m qh_ qx kU ob qhx) hx
theorem Ex(h:HF)(x:Expr)(gd:cL)(hx:jF h x gd):Ret prog 367 [.agg (zC x gd).toArray] h (I (bu x)):=tw _ h x gd (xG _) hx
theorem wS(h:HF)(x:Expr)(gd:cL)(hx:jF h x gd):Ret prog 338 [.agg (zC x gd).toArray] h (.bool (jj x)):=by
 refine sT func338 U ntmps338 U λX hM hX hF=>?_
 have hs0:jj x=jj x:=rfl
 refine sr (cy (λb1=>qO 4 U (cK 0 ty62 U U U (ai call366 (Ew _ _ _ 256 hx) U (qO 2 U (bV 4 [6,7,8,9,10] 6 10 (decide (16<(bu x))) U (λc1 hk1=>?_) (λe=>?_)))))))
 .exact cK 0 ty62 U U U (ai call367 (Ex _ _ _ hx) U (qO 2 U (hk1 _ U)))
 exact an (nretP [.bool (decide (256<(dy x 256))||decide (16<(bu x)))] (cs hs0))
theorem AQ(h:HF)(p:Policy)(gS:eA)(hp:zN h p gS):Ret prog 304 [.agg (kD p gS).toArray] h (.bool (e9 p)):=by
 refine sT func304 U ntmps304 U λX hM hX hF=>?_
 have hs0:e9 p=e9 p:=rfl
 refine sr (cy (λb1=>qL 10 [0] U (bV 5 [8,9,10,11,12,13] 8 13 (decide (16<(p.Kinds.length:Int))) U (λc1 hk1=>?_) (λe=>?_))))
 .exact qL 5 [0] U (hk1 _ U)
 refine av (bV 5 [14,15,16,17,18,19] 14 19 (decide (16<(p.Rules.length:Int))) U (λc2 hk2=>?_) (λe=>?_))
 .exact qL 5 [0] U (hk2 _ U)
 refine av (bV 4 [20,21,22,23,24] 20 24 (jj p.Change) U (λc3 hk3=>?_) (λe=>?_))
 .exact qL 1 [] U (cK 0 ty62 U U U (ai call338 (wS _ _ _ hp.Change) U (eN U (hk3 _ U))))
 refine aJ (ae hs0 U (λc4 hs1=>?_) (λc4 hs2=>?_))
 .exact sr (an (nretP [.bool true] (cs hs1)))
 refine qT 6 U ?_
 refine lp0 p.Rules (λi=>[(1,Q b1),(3,I (i:Int))]) ([(b1,O (kD p gS) 64)]) (λs1 i=>(e9.L1 (e9.K1)) s1) hp.Rules.1.1 hs2 ?_ ?_ ?_
 .rintro i1 fp hs4 e
  exact sr (an (nretP [.bool false] (cs hs4)))
 .rintro i1 y1 rz1 hd1 dj aY er gr hs6 hx1 ag1 e
  refine qK 7 [0] U (tO dj U (qL 10 [0] U (aC (iR wi ty79 hp.Rules.1 aY U U U (λ_ _ _ e=>e) (λq2 r2 A2 ok2=>qL 1 [] U (zI (j:=3) ty62 A2 U U (ai call338 (wS _ _ _ ok2.Expr) U (aJ (ae hs6 U (λc6 hs7=>?_) (λc6 hs8=>?_))))))))))
  .exact sr (an (nretP [.bool true] (cs hs7)))
  exact aN (qT 3 U (oi i1 U (an (ag1 hs8))))
 rintro i1 hd1 ga hx e
 exact qK 7 [0] U (fO ga U (qO 3 U (hx _ rd)))
theorem vW(h:HF)(c:Int)  : Ret prog 379 [Y c] h (.bool (ki c)):=by
 refine sT func379 U ntmps379 U λX hM hX hF=>?_
 have hs0:ki c=ki c:=rfl
 refine qT 9 U (bj 3 [5,6,7,8] 5 8 (decide (c<=122)) U (λc1 hk1=>?_) (λe=>?_))
 .exact av (qO 2 U (hk1 _ U))
 refine av (bV 7 [9,10,11,12,13,14,15,16] 9 16 (decide (65<=c)&&decide (c<=90)) U (λc2 hk2=>?_) (λe=>?_))
 .refine qO 3 U (bj 3 [12,13,14,15] 12 15 (decide (c<=90)) U (λc3 hk3=>?_) (λe=>?_))
  .exact av (qO 2 U (hk3 _ U))
  exact eN U (hk2 _ U)
 exact an (nretP [.bool ((decide (97<=c)&&decide (c<=122))||(decide (65<=c)&&decide (c<=90)))] (cs hs0))
theorem Dv(h:HF)(c:Int)  : Ret prog 386 [Y c] h (.bool (mD c)):=by
 refine sT func386 U ntmps386 U λX hM hX hF=>?_
 have hs0:mD c=mD c:=rfl
 refine qT 9 U (bj 3 [5,6,7,8] 5 8 (decide (c<=57)) U (λc1 hk1=>?_) (λe=>?_))
 .exact av (qO 2 U (hk1 _ U))
 exact an (nretP [.bool (decide (48<=c)&&decide (c<=57))] (cs hs0))
theorem F3(h:HF)(c:Int)  : Ret prog 380 [Y c] h (.bool (pJ c)):=by
 refine sT func380 U ntmps380 U λX hM hX hF=>?_
 have hs0:pJ c=pJ c:=rfl
 refine qT 7 U (ai call379 (vW h c) U (av (bV 3 [5,6,7,8] 5 8 (mD c) U (λc1 hk1=>?_) (λe=>?_))))
 .exact av (ai call386 (Dv h c) U (eN U (hk1 _ U)))
 refine av (bV 3 [9,10,11,12] 9 12 (c==95) U (λc2 hk2=>?_) (λe=>?_))
 .exact av (qO 2 U (hk2 _ U))
 exact an (nretP [.bool (((ki c)||(mD c))||(c==95))] (cs hs0))
theorem F4(h:HF)(s:ByteArray)  : Ret prog 368 [.string s] h (.bool (gz s)):=by
 refine sT func368 U ntmps368 U λX hM hX hF=>?_
 have hs0:gz s=gz s:=rfl
 refine qT 8 U (aC (fw (BP Ay U) (qO 2 U (bV 4 [7,8,9,10,11] 7 11 (decide (32<(s.size:Int))) U (λc1 hk1=>?_) (λe=>?_)))))
 .exact av (aC (fw (BP Ay U) (qO 2 U (hk1 _ U))))
 refine av (bV 5 [12,13,14,15,16,17] 12 17 (!(ki ((s.data.getD (0:Int).toNat 0).toNat:Int))) U (λc2 hk2=>?_) (λe=>?_))
 .refine av ?_
  have ho1:0<=(0:Int)/\(0:Int)<(s.size:Int):=ob
  exact aC (fw (HL Ay U U ho1) (ai call379 (vW h ((s.data.getD (0:Int).toNat 0).toNat:Int)) U (qO 2 U (hk2 _ U))))
 refine aJ (ae hs0 U (λc3 hs1=>?_) (λc3 hs2=>?_))
 .exact sr (an (nretP [.bool false] (cs hs1)))
 refine qT 6 U ?_
 refine iL (ι:=Nat) (λi=>[]) (λi=>h) (λi=>[]) (λi=>i<=(kG s.size).length/\gz s=((gz.K1))) ?_ (λhx1=>?_)
 .rintro i1 ⟨fp,hs4⟩ e
  exact sr (an (nretP [.bool true] (cs hs4)))
 refine kg (ι:=Nat×List Nat) (λi=>[(0,.string s),(3,I (i.1:Int))]) (λi=>h) (λi=>[]) (λi=>(kG s.size).drop i.1=i.2/\i.1<=(kG s.size).length/\gz s=((gz.L1 s (gz.K1)) i.2 i.1)) (λi=>i.2.length) (0,(kG s.size)) rd sw ⟨U,jL _,hs2⟩ ?_
 rintro⟨i1,s1⟩ ⟨hd1,fp,hs6⟩ ag1 e
 rcases s1 with _|⟨y1,rz1⟩
 .have ga:decide ((i1:Int)<(s.size:Int))=false:=by simpa using mR hd1
  exact el (qT 4 U (aC (fw (BP Ay U) (fO ga U (qO 3 U (hx1 i1 _ ⟨fp,hs6⟩ trivial))))))
 have dj:decide ((i1:Int)<(s.size:Int))=true:=by simpa using sQ hd1
 have er:i1<s.size:=by simpa using io hd1
 refine qT 5 U (aC (fw (BP Ay U) (tO dj U (qO 9 U ?_))))
 have ho3:0<=((i1:Int):Int)/\((i1:Int):Int)<(s.size:Int):=ob
 refine aC (fw (HL Ay U U ho3) (ai call380 (F3 h ((s.data.getD ((i1:Int):Int).toNat 0).toNat:Int)) U (qO 2 U (ae hs6 U (λc5 hs8=>?_) (λc5 hs9=>?_)))))
 .exact sr (an (nretP [.bool false] (cs hs8)))
 exact aN (qT 3 U (oi i1 U (an (ag1 ((i1+1),rz1) _ (Nat.lt_succ_self _) ⟨kx hd1,io hd1,hs9⟩ rd))))
theorem FX(h:HF)(s:ByteArray)  : Ret prog 369 [.string s] h (.bool (ni s)):=by
 refine sT func369 U ntmps369 U λX hM hX hF=>?_
 have hs0:ni s=ni s:=rfl
 refine qT 16 U (ae hs0 U (λc1 hs1=>?_) (λc1 hs2=>?_))
 .refine aN (ae hs1 U (λc2 hs3=>?_) (λc2 hs4=>?_))
  .exact sr (an (nretP [.bool true] (cs hs3)))
  exact aN (qT 5 U (nretP [.bool false] (cs hs4)))
 refine qT 5 U (ae hs2 U (λc3 hs7=>?_) (λc3 hs8=>?_))
 .refine aN (ae hs7 U (λc4 hs9=>?_) (λc4 hs10=>?_))
  .exact sr (an (nretP [.bool true] (cs hs9)))
  exact aN (qT 5 U (nretP [.bool false] (cs hs10)))
 refine qT 5 U (ae hs8 U (λc5 hs13=>?_) (λc5 hs14=>?_))
 .refine aN (ae hs13 U (λc6 hs15=>?_) (λc6 hs16=>?_))
  .exact sr (an (nretP [.bool true] (cs hs15)))
  exact aN (qT 5 U (nretP [.bool false] (cs hs16)))
 refine qT 5 U (ae hs14 U (λc7 hs19=>?_) (λc7 hs20=>?_))
 .refine aN (ae hs19 U (λc8 hs21=>?_) (λc8 hs22=>?_))
  .exact sr (an (nretP [.bool true] (cs hs21)))
  exact aN (qT 5 U (nretP [.bool false] (cs hs22)))
 refine qT 5 U (ae hs20 U (λc9 hs25=>?_) (λc9 hs26=>?_))
 .refine aN (ae hs25 U (λc10 hs27=>?_) (λc10 hs28=>?_))
  .exact sr (an (nretP [.bool true] (cs hs27)))
  exact aN (qT 5 U (nretP [.bool false] (cs hs28)))
 refine qT 5 U (ae hs26 U (λc11 hs31=>?_) (λc11 hs32=>?_))
 .refine aN (ae hs31 U (λc12 hs33=>?_) (λc12 hs34=>?_))
  .exact sr (an (nretP [.bool true] (cs hs33)))
  exact aN (qT 5 U (nretP [.bool false] (cs hs34)))
 refine qT 5 U (ae hs32 U (λc13 hs37=>?_) (λc13 hs38=>?_))
 .refine aN (ae hs37 U (λc14 hs39=>?_) (λc14 hs40=>?_))
  .exact sr (an (nretP [.bool true] (cs hs39)))
  exact aN (qT 5 U (nretP [.bool false] (cs hs40)))
 refine qT 5 U (ae hs38 U (λc15 hs43=>?_) (λc15 hs44=>?_))
 .refine aN (ae hs43 U (λc16 hs45=>?_) (λc16 hs46=>?_))
  .exact sr (an (nretP [.bool true] (cs hs45)))
  exact aN (qT 5 U (nretP [.bool false] (cs hs46)))
 refine qT 5 U (ae hs44 U (λc17 hs49=>?_) (λc17 hs50=>?_))
 .refine aN (ae hs49 U (λc18 hs51=>?_) (λc18 hs52=>?_))
  .exact sr (an (nretP [.bool true] (cs hs51)))
  exact aN (qT 5 U (nretP [.bool false] (cs hs52)))
 refine qT 5 U (ae hs50 U (λc19 hs55=>?_) (λc19 hs56=>?_))
 .refine aN (ae hs55 U (λc20 hs57=>?_) (λc20 hs58=>?_))
  .exact sr (an (nretP [.bool true] (cs hs57)))
  exact aN (qT 5 U (nretP [.bool false] (cs hs58)))
 refine qT 5 U (ae hs56 U (λc21 hs61=>?_) (λc21 hs62=>?_))
 .refine aN (ae hs61 U (λc22 hs63=>?_) (λc22 hs64=>?_))
  .exact sr (an (nretP [.bool true] (cs hs63)))
  exact aN (qT 5 U (nretP [.bool false] (cs hs64)))
 refine qT 5 U (ae hs62 U (λc23 hs67=>?_) (λc23 hs68=>?_))
 .refine aN (ae hs67 U (λc24 hs69=>?_) (λc24 hs70=>?_))
  .exact sr (an (nretP [.bool true] (cs hs69)))
  exact aN (qT 5 U (nretP [.bool false] (cs hs70)))
 refine qT 5 U (ae hs68 U (λc25 hs73=>?_) (λc25 hs74=>?_))
 .refine aN (ae hs73 U (λc26 hs75=>?_) (λc26 hs76=>?_))
  .exact sr (an (nretP [.bool true] (cs hs75)))
  exact aN (qT 5 U (nretP [.bool false] (cs hs76)))
 refine qT 5 U (ae hs74 U (λc27 hs79=>?_) (λc27 hs80=>?_))
 .refine aN (ae hs79 U (λc28 hs81=>?_) (λc28 hs82=>?_))
  .exact sr (an (nretP [.bool true] (cs hs81)))
  exact aN (qT 5 U (nretP [.bool false] (cs hs82)))
 refine qT 5 U (ae hs80 U (λc29 hs85=>?_) (λc29 hs86=>?_))
 .refine aN (ae hs85 U (λc30 hs87=>?_) (λc30 hs88=>?_))
  .exact sr (an (nretP [.bool true] (cs hs87)))
  exact aN (qT 5 U (nretP [.bool false] (cs hs88)))
 refine qT 4 U (ae hs86 U (λc31 hs91=>?_) (λc31 hs92=>?_))
 .exact sr (an (nretP [.bool true] (cs hs91)))
 exact aN (qT 5 U (nretP [.bool false] (cs hs92)))
theorem yS(h:HF)(s:ByteArray)  : Ret prog 339 [.string s] h (.bool (mB s)):=by
 refine sT func339 U ntmps339 U λX hM hX hF=>?_
 have hs0:mB s=mB s:=rfl
 refine qT 7 U (ai call368 (F4 h s) U (av (bj 4 [5,6,7,8,9] 5 9 (!(ni s)) U (λc1 hk1=>?_) (λe=>?_))))
 .exact av (ai call369 (FX h s) U (qO 2 U (hk1 _ U)))
 exact an (nretP [.bool ((gz s)&&(!(ni s)))] (cs hs0))
theorem ss(h:HF)(l:List ByteArray)(eP:Option Addr)(eO:Nat)(s:ByteArray)(hl:SlC aAM h eP eO l):Ret prog 343 [.slice eP l.length eO,.string s] h (I (eu l s)):=by
 refine sT func343 U ntmps343 U λX hM hX hF=>?_
 have hs0:eu l s=eu l s:=rfl
 refine qT 9 U ?_
 refine lp0 l (λi=>[(0,.slice eP l.length eO),(1,.string s),(5,I (i:Int))]) ([]) (λs1 i=>(eu.L1 s (eu.K1)) s1 i) hl.1.1 hs0 ?_ ?_ ?_
 .rintro i1 fp hs1 e
  exact sr (an (nretP [I (-1)] (ci hs1)))
 .rintro i1 y1 rz1 hd1 dj aY er gr hs3 hx1 ag1 e
  refine qK 6 [] U (tO dj U (qO 9 U (aC (iF (λy=>[.string y]) vy ty9 hl.1 aY U U U (λq2 A2=>dh ty9 A2 U (qO 3 U (ae hs3 U (λc2 hs4=>?_) (λc2 hs5=>?_))))))))
  .exact sr (qO 3 U (nretP [I (i1:Int)] (ci hs4)))
  exact aN (qT 3 U (oi i1 U (an (ag1 hs5))))
 rintro i1 hd1 ga hx e
 exact qK 6 [] U (fO ga U (qO 3 U (hx _ rd)))
theorem tq(h:HF)(l:List ByteArray)(eP:Option Addr)(eO:Nat)(hl:SlC aAM h eP eO l):Ret prog 340 [.slice eP l.length eO] h (.bool (eB l)):=by
 refine sT func340 U ntmps340 U λX hM hX hF=>?_
 have hs0:eB l=eB l:=rfl
 refine qT 9 U ?_
 refine lp0 l (λi=>[(0,.slice eP l.length eO),(3,I (i:Int))]) ([]) (λs1 i=>(eB.L1 l (eB.K1)) s1 i) hl.1.1 hs0 ?_ ?_ ?_
 .rintro i1 fp hs1 e
  exact sr (an (nretP [.bool true] (cs hs1)))
 .rintro i1 y1 rz1 hd1 dj aY er gr hs3 hx1 ag1 e
  refine qK 6 [] U (tO dj U (qO 9 U (aC (iF (λy=>[.string y]) vy ty9 hl.1 aY U U U (λq3 A3=>dh ty9 A3 U (ai call339 (yS h y1) U (qO 2 U (bV 9 [16,17,18,19,20,21,22,23,24,25] 16 25 ((eu l y1) != (i1:Int)) U (λc1 hk1=>?_) (λe=>?_)))))))))
  .exact av (qO 2 U (aC (iF (λy=>[.string y]) vy ty9 hl.1 aY U U U (λq4 A4=>dh ty9 A4 U (ai call343 (ss _ _ _ _ y1 hl) U (qO 3 U (hk1 _ U)))))))
  refine aJ (ae hs3 U (λc2 hs4=>?_) (λc2 hs5=>?_))
  .exact sr (an (nretP [.bool false] (cs hs4)))
  exact aN (qT 3 U (oi i1 U (an (ag1 hs5))))
 rintro i1 hd1 ga hx e
 exact qK 6 [] U (fO ga U (qO 3 U (hx _ rd)))
theorem Do(rec:List ByteArray->Expr->Bool)(h:HF)(offices:List ByteArray)(dI:Option Addr)(dH:Nat)(x:Expr)(gd:cL)(hrec:∀(h:HF)(qoffices:List ByteArray)(jW:Option Addr)(jU:Nat)(qx:Expr)(kU:cL)(hqoffices:SlC aAM h jW jU qoffices)(hqx:jF h qx kU)(_:qx.dep<x.dep),Ret prog 341 [.slice jW qoffices.length jU,.agg (zC qx kU).toArray] h (.bool (rec qoffices qx)))(hoffices:SlC aAM h dI dH offices)(hx:jF h x gd):Ret prog 341 [.slice dI offices.length dH,.agg (zC x gd).toArray] h (.bool (bO.F rec offices x)):=by
 refine sT func341 U ntmps341 U λX hM hX hF=>?_
 have hs0:bO.F rec offices x=bO.F rec offices x:=rfl
 refine sr (cy (λb1=>qL 9 [0] U (bV 4 [9,10,11,12,13] 9 13 (x.Kind==2) U (λc1 hk1=>?_) (λe=>?_))))
 .exact qL 4 [0] U (hk1 _ U)
 refine av (bj 6 [14,15,16,17,18,19,20] 14 20 (decide ((eu offices x.Name)<0)) U (λc2 hk2=>?_) (λe=>?_))
 .exact qL 3 [0] U (ai call343 (ss _ _ _ _ x.Name hoffices) U (qO 2 U (hk2 _ U)))
 refine aJ (ae hs0 U (λc3 hs1=>?_) (λc3 hs2=>?_))
 .exact sr (an (nretP [.bool false] (cs hs1)))
 refine qT 6 U ?_
 refine lp0 x.L (λi=>[(0,.slice dI offices.length dH),(3,Q b1),(5,I (i:Int))]) ([(b1,O (zC x gd) 62)]) (λs1 i=>(bO.L1 rec offices (bO.K1)) s1) hx.list.1.1 hs2 ?_ ?_ ?_
 .rintro i1 fp hs4 e
  exact sr (an (nretP [.bool true] (cs hs4)))
 .rintro i1 y1 rz1 hd1 dj aY er gr hs6 hx1 ag1 e
  refine qK 7 [0] U (tO dj U (qL 11 [0] U (aC (iR lB ty62 hx.list.1 aY U U U (λ_ _ _ e=>e) (λq2 r2 A2 ok2=>dz ty62 A2 U U (ai call341 (hrec _ _ _ _ _ _ hoffices ok2 (aAe (fX hd1))) U (qO 2 U (ae hs6 U (λc5 hs7=>?_) (λc5 hs8=>?_)))))))))
  .exact sr (an (nretP [.bool false] (cs hs7)))
  exact aN (qT 3 U (oi i1 U (an (ag1 hs8))))
 rintro i1 hd1 ga hx e
 exact qK 7 [0] U (fO ga U (qO 3 U (hx _ rd)))
theorem tl:∀(m:Nat)(h:HF)(offices:List ByteArray)(dI:Option Addr)(dH:Nat)(x:Expr)(gd:cL)(_:x.dep<=m)(hoffices:SlC aAM h dI dH offices)(hx:jF h x gd),Ret prog 341 [.slice dI offices.length dH,.agg (zC x gd).toArray] h (.bool (bO.go m offices x))
 |0,h,offices,dI,dH,x,gd,hd,hoffices,hx=>absurd hd (Nat.not_le.2 (aBe _))
 |m+1,h,offices,dI,dH,x,gd,hd,hoffices,hx=>Do (bO.go m) h offices dI dH x gd (λqh_ qoffices jW jU qx kU qhoffices qhx qd=>tl m qh_ qoffices jW jU qx kU ob qhoffices qhx) hoffices hx
theorem wR(h:HF)(offices:List ByteArray)(dI:Option Addr)(dH:Nat)(x:Expr)(gd:cL)(hoffices:SlC aAM h dI dH offices)(hx:jF h x gd):Ret prog 341 [.slice dI offices.length dH,.agg (zC x gd).toArray] h (.bool (bO offices x)):=tl _ h offices dI dH x gd (xG _) hoffices hx
theorem Ev(h:HF)(p:Policy)(gS:eA)(hp:zN h p gS):Ret prog 305 [.agg (kD p gS).toArray] h (.bool (gI p)):=by
 refine sT func305 U ntmps305 U λX hM hX hF=>?_
 have hs0:gI p=gI p:=rfl
 refine sr (cy (λb1=>qL 7 [0] U (ai call339 (yS h p.Name) U (qO 2 U (bV 5 [8,9,10,11,12,13] 8 13 (!(eB p.Offices)) U (λc1 hk1=>?_) (λe=>?_))))))
 .exact qL 2 [0] U (ai call340 (tq _ _ _ _ hp.Offices) U (qO 2 U (hk1 _ U)))
 refine av (bV 5 [14,15,16,17,18,19] 14 19 (!(eB p.Kinds)) U (λc2 hk2=>?_) (λe=>?_))
 .exact qL 2 [0] U (ai call340 (tq _ _ _ _ hp.Kinds) U (qO 2 U (hk2 _ U)))
 refine aJ (ae hs0 U (λc3 hs1=>?_) (λc3 hs2=>?_))
 .exact sr (an (nretP [.bool false] (cs hs1)))
 refine qT 6 U ?_
 let z1:Nat×Obj:=(b1,O (kD p gS) 64)
 refine lp0 p.Rules (λi=>[(1,Q b1),(3,I (i:Int))]) ([z1]) (λs1 i=>(gI.L1 p (gI.K1 p)) s1) hp.Rules.1.1 hs2 ?_ ?_ ?_
 .rintro i1 fp hs4 e
  exact qK 5 [0] U (cK 0 ty62 U U U (ai call341 (wR _ _ _ _ _ _ hp.Offices hp.Change) U (an (nretP [.bool (bO p.Offices p.Change)] (cs hs4)))))
 .rintro i1 y1 rz1 hd1 dj aY er gr hs6 hx1 ag1 e
  refine qK 7 [0] U (tO dj U (qO 6 U (eM ([z1]) mixed kr jn (λem _=>qB [0] U (tf 1 U U (rj 0 ty58 U U U) (qB [2] U (tf 3 U U (rj 0 ty59 U U U) (tm 4 U (jt 5 em jn wi ty79 hp.Rules.1 (nthZ aY) (fq aY) U U U U kr (λq2 cs2 A2 ln2 rr2=>?_))))))))))
  obtain⟨r2,rfl,ok2⟩:=rr2
  refine qB [6] U (tf 7 U U (λ_ _ hj=>N9 3 ty62 (A2.mono hj.1) U U) (tn 8 U (fe call341 (wR _ _ _ _ _ _ hp.Offices ok2.Expr) U (⟨jn,(qA [9] U (aV kr (ae hs6 U (λc5 hs7=>?_) (λc5 hs8=>?_))))⟩))))
  .exact sr (an (nretP [.bool false] (cs hs7)))
  exact aN (qT 3 U (oi i1 U (an (ag1 hs8))))
 rintro i1 hd1 ga hx e
 exact qK 7 [0] U (fO ga U (qO 3 U (hx _ rd)))
theorem wT(rec:Expr->Bool->Bool)(h:HF)(x:Expr)(gd:cL)(upto:Bool)(hrec:∀(h:HF)(qx:Expr)(kU:cL)(qupto:Bool)(hqx:jF h qx kU)(_:qx.dep<x.dep),Ret prog 342 [.agg (zC qx kU).toArray,.bool qupto] h (.bool (rec qx qupto)))(hx:jF h x gd):Ret prog 342 [.agg (zC x gd).toArray,.bool upto] h (.bool (aE.F rec x upto)):=by
 refine sT func342 U ntmps342 U λX hM hX hF=>?_
 have hs0:aE.F rec x upto=aE.F rec x upto:=rfl
 refine sr (cy (λb1=>qO 7 U ?_))
 refine lp0 x.L (λi=>[(1,.bool upto),(2,Q b1),(5,I (i:Int))]) ([(b1,O (zC x gd) 62)]) (λs1 i=>(aE.L1 rec upto (aE.K1 x upto)) s1) hx.list.1.1 hs0 ?_ ?_ ?_
 .rintro i1 fp hs1 e
  refine qK 12 [0] U (ae hs1 U (λc3 hs2=>?_) (λc3 hs3=>?_))
  .refine qK 6 [0] U (bj 5 [28,29,30,31,32,33] 28 33 ((x.L.length:Int)==0) U (λc4 hk1=>?_) (λe=>?_))
   .exact qL 5 [0] U (hk1 _ U)
   exact an (nretP [.bool ((x.N==0)&&((x.L.length:Int)==0))] (cs hs2))
  refine qT 5 U (ae hs3 U (λc5 hs5=>?_) (λc5 hs6=>?_))
  .refine qK 6 [0] U (bj 4 [39,40,41,42,43] 39 43 (decide (x.N<=4096)) U (λc6 hk2=>?_) (λe=>?_))
   .exact qL 4 [0] U (hk2 _ U)
   refine av (bj 5 [44,45,46,47,48,49] 44 49 ((x.L.length:Int)==0) U (λc7 hk3=>?_) (λe=>?_))
   .exact qL 5 [0] U (hk3 _ U)
   exact an (nretP [.bool ((decide (1<=x.N)&&decide (x.N<=4096))&&((x.L.length:Int)==0))] (cs hs5))
  refine qT 5 U (ae hs6 U (λc8 hs8=>?_) (λc8 hs9=>?_))
  .refine qK 6 [0] U (bj 5 [55,56,57,58,59,60] 55 60 (decide (1<=(x.L.length:Int))) U (λc9 hk4=>?_) (λe=>?_))
   .exact qL 5 [0] U (hk4 _ U)
   refine av (bj 5 [61,62,63,64,65,66] 61 66 (decide ((x.L.length:Int)<=16)) U (λc10 hk5=>?_) (λe=>?_))
   .exact qL 5 [0] U (hk5 _ U)
   refine av (bj 4 [67,68,69,70,71] 67 71 (decide (1<=x.N)) U (λc11 hk6=>?_) (λe=>?_))
   .exact qL 4 [0] U (hk6 _ U)
   refine av (bj 7 [72,73,74,75,76,77,78,79] 72 79 (decide (x.N<=(x.L.length:Int))) U (λc12 hk7=>?_) (λe=>?_))
   .exact qL 7 [0,0] U (hk7 _ U)
   exact an (nretP [.bool (((((x.Name.toList==(⟨#[]⟩:ByteArray).toList)&&decide (1<=(x.L.length:Int)))&&decide ((x.L.length:Int)<=16))&&decide (1<=x.N))&&decide (x.N<=(x.L.length:Int)))] (cs hs8))
  refine qT 5 U (ae hs9 U (λc13 hs11=>?_) (λc13 hs12=>?_))
  .refine qT 4 U (bj 4 [83,84,85,86,87] 83 87 (x.Name.toList==(⟨#[]⟩:ByteArray).toList) U (λc14 hk8=>?_) (λe=>?_))
   .exact qL 4 [0] U (hk8 _ U)
   refine av (bj 5 [88,89,90,91,92,93] 88 93 ((x.L.length:Int)==2) U (λc15 hk9=>?_) (λe=>?_))
   .exact qL 5 [0] U (hk9 _ U)
   refine av (bj 4 [94,95,96,97,98] 94 98 (decide (0<=x.N)) U (λc16 hk10=>?_) (λe=>?_))
   .exact qL 4 [0] U (hk10 _ U)
   refine av (bj 4 [99,100,101,102,103] 99 103 (decide (x.N<=1099511627776)) U (λc17 hk11=>?_) (λe=>?_))
   .exact qL 4 [0] U (hk11 _ U)
   exact an (nretP [.bool ((((upto&&(x.Name.toList==(⟨#[]⟩:ByteArray).toList))&&((x.L.length:Int)==2))&&decide (0<=x.N))&&decide (x.N<=1099511627776))] (cs hs11))
  exact aN (qT 5 U (nretP [.bool false] (cs hs12)))
 .rintro i1 y1 rz1 hd1 dj aY er gr hs15 hx1 ag1 e
  refine qK 7 [0] U (tO dj U (qL 10 [0] U (aC (iR lB ty62 hx.list.1 aY U U U (λ_ _ _ e=>e) (λq2 r2 A2 ok2=>dz ty62 A2 U U (av (ai call342 (hrec _ _ _ upto ok2 (aAe (fX hd1))) U (qO 2 U (ae hs15 U (λc18 hs16=>?_) (λc18 hs17=>?_))))))))))
  .exact sr (an (nretP [.bool false] (cs hs16)))
  exact aN (qT 3 U (oi i1 U (an (ag1 hs17))))
 rintro i1 hd1 ga hx e
 exact qK 7 [0] U (fO ga U (qO 3 U (hx _ rd)))
theorem oS:∀(m:Nat)(h:HF)(x:Expr)(gd:cL)(upto:Bool)(_:x.dep<=m)(hx:jF h x gd),Ret prog 342 [.agg (zC x gd).toArray,.bool upto] h (.bool (aE.go m x upto))
 |0,h,x,gd,upto,hd,hx=>absurd hd (Nat.not_le.2 (aBe _))
 |m+1,h,x,gd,upto,hd,hx=>wT (aE.go m) h x gd upto (λqh_ qx kU qupto qhx qd=>oS m qh_ qx kU qupto ob qhx) hx
theorem ri(h:HF)(x:Expr)(gd:cL)(upto:Bool)(hx:jF h x gd):Ret prog 342 [.agg (zC x gd).toArray,.bool upto] h (.bool (aE x upto)):=oS _ h x gd upto (xG _) hx
theorem Dp(h:HF)(p:Policy)(gS:eA)(hp:zN h p gS):Ret prog 306 [.agg (kD p gS).toArray] h (.bool (fP p)):=by
 refine sT func306 U ntmps306 U λX hM hX hF=>?_
 have hs0:fP p=fP p:=rfl
 refine sr (cy (λb1=>qL 10 [0] U (bV 8 [9,10,11,12,13,14,15,16,17] 9 17 ((p.Rules.length:Int) != (p.Kinds.length:Int)) U (λc1 hk1=>?_) (λe=>?_))))
 .exact qL 8 [0,0] U (hk1 _ U)
 refine av (bV 4 [18,19,20,21,22] 18 22 (decide (p.Mode<1)) U (λc2 hk2=>?_) (λe=>?_))
 .exact qL 4 [0] U (hk2 _ U)
 refine av (bV 4 [23,24,25,26,27] 23 27 (decide (4<p.Mode)) U (λc3 hk3=>?_) (λe=>?_))
 .exact qL 4 [0] U (hk3 _ U)
 refine aJ (ae hs0 U (λc4 hs1=>?_) (λc4 hs2=>?_))
 .exact sr (an (nretP [.bool false] (cs hs1)))
 refine qT 6 U ?_
 let z1:Nat×Obj:=(b1,O (kD p gS) 64)
 refine lp0 p.Rules (λi=>[(1,Q b1),(3,I (i:Int))]) ([z1]) (λs1 i=>(fP.L1 p (fP.K1 p)) s1 i) hp.Rules.1.1 hs2 ?_ ?_ ?_
 .rintro i1 fp hs4 e
  exact qK 3 [] U (cK 0 ty62 U U U (ai call342 (ri _ _ _ false hp.Change) U (an (nretP [.bool (aE p.Change false)] (cs hs4)))))
 .rintro i1 y1 rz1 hd1 dj aY er gr hs6 hx1 ag1 e
  refine qK 7 [0] U (tO dj U (qL 10 [0] U (aC (iR wi ty79 hp.Rules.1 aY U U U (λ_ _ _ e=>e) (λq3 r2 A3 ok2=>dz ty79 A3 U U (ba zc79 (λb3=>aQ 0 ty79 U U U U U U (qO 2 U ?_))))))))
  refine oo [(1,Q b1),(3,I (i1:Int)),(63,.bool ((((!(y1.Kind.toList==(nthI p.Kinds (i1:Int)).toList))||decide (y1.Think<0))||decide (1099511627776<=y1.Think))||(!(aE y1.Expr true))))] (λe=>?_) (λhk4=>?_)
  rotate_left
  .refine eM ([(b3,O (Rule.cells y1 r2) 79),z1]) mixed kr jn (λem _=>?_)
   refine qB [0] U (tf 1 U U (rj 0 ty9 U U U) (qB [2] U (tf 3 U U (rj 1 ty58 U U U) (tm 4 U ?_))))
   have ho2:0<=((i1:Int):Int)/\((i1:Int):Int)<((p.Kinds).length:Int):=ob
   refine eS 5 (enc:=λy=>[.string y]) em jn ei vy ty9 hp.Kinds.1 ho2 (cN ho2) U U U U kr (λq4 A4=>tf 6 U U (rh ty9 A4 U) (qA [7,8] U ?_))
   refine du 48 U (λc5=>?_) (λc5=>?_)
   .exact tk 9 U U (qR 10 14 U (aV kr (hk4 _ ⟨U,U,(cb (show true=((((!(y1.Kind.toList==(nthI p.Kinds (i1:Int)).toList))||decide (y1.Think<0))||decide (1099511627776<=y1.Think))||(!(aE y1.Expr true)))from by rw[c5]<;>rfl)),trivial⟩)))
   refine qB [9] U (tf 10 U U (rj 0 ty3 U U U) (qR 11 3 U ?_))
   refine du 53 U (λc6=>?_) (λc6=>?_)
   .have c6p:=of_decide_eq_true c6
    exact tk 14 U U (qR 15 9 U (aV kr (hk4 _ ⟨U,U,(cb (show true=((((!(y1.Kind.toList==(nthI p.Kinds (i1:Int)).toList))||decide (y1.Think<0))||decide (1099511627776<=y1.Think))||(!(aE y1.Expr true)))from by rw[c5,c6]<;>rfl)),trivial⟩)))
   have c6p:=of_decide_eq_false c6
   refine qB [14] U (tf 15 U U (rj 0 ty3 U U U) (qR 16 3 U ?_))
   refine du 58 U (λc7=>?_) (λc7=>?_)
   .have c7p:=of_decide_eq_true c7
    exact tk 19 U U (qR 20 4 U (aV kr (hk4 _ ⟨U,U,(cb (show true=((((!(y1.Kind.toList==(nthI p.Kinds (i1:Int)).toList))||decide (y1.Think<0))||decide (1099511627776<=y1.Think))||(!(aE y1.Expr true)))from by rw[c5,c6,c7]<;>rfl)),trivial⟩)))
   have c7p:=of_decide_eq_false c7
   exact tf 19 U U (λ_ _ _=>tx PQ U) (tf 20 U U (λ_ _ hj=>jO ty62 U (hj.nth (i:=0) U) U) (tn 21 U (fe call342 (ri _ _ _ true ok2.Expr) U (⟨jn,qA [22,23] U (aV kr (hk4 _ ⟨U,U,(cb (show(!(aE y1.Expr true))=((((!(y1.Kind.toList==(nthI p.Kinds (i1:Int)).toList))||decide (y1.Think<0))||decide (1099511627776<=y1.Think))||(!(aE y1.Expr true)))from by rw[c5,c6,c7]<;>rfl)),trivial⟩))⟩))))
  refine ae hs6 U (λc8 hs7=>?_) (λc8 hs8=>?_)
  .exact sr (an (nretP [.bool false] (cs hs7)))
  exact aN (qT 3 U (oi i1 U (an (bz (L':=[z1]) js (ag1 hs8)))))
 rintro i1 hd1 ga hx e
 exact qK 7 [0] U (fO ga U (qO 3 U (hx _ rd)))
theorem zq(rec:List ByteArray->Expr->Expr)(h:HF)(offices:List ByteArray)(dI:Option Addr)(dH:Nat)(x:Expr)(gd:cL)(hrec:∀(h:HF)(qoffices:List ByteArray)(jW:Option Addr)(jU:Nat)(qx:Expr)(kU:cL)(hqoffices:SlC aAM h jW jU qoffices)(hqx:jF h qx kU)(hsz:qx.dep<=2000000)(_:qx.dep<x.dep),j1 prog 307 [.slice jW qoffices.length jU,.agg (zC qx kU).toArray] h (λv h'=>∃(rr0:cL),v=.agg (zC (rec qoffices qx) rr0).toArray/\jF h' (rec qoffices qx) rr0))(hoffices:SlC aAM h dI dH offices)(hx:jF h x gd)(hsz:x.dep<=2000000):j1 prog 307 [.slice dI offices.length dH,.agg (zC x gd).toArray] h (λv h'=>∃(rr0:cL),v=.agg (zC (ah.F rec offices x) rr0).toArray/\jF h' (ah.F rec offices x) rr0):=by
 refine cJ func307 U ntmps307 U λX hM hX=>?_
 have hs0:ah.F rec offices x=ah.F rec offices x:=rfl
 have hln:=Expr.On x
 refine sr (cy (λb1=>ba zc62 (λb2=>qO 3 U (cK 1 ty62 U U U (ba zc62 (λb3=>aQ 0 ty62 U U U U U U (qL 4 [] U (cT 0 ty3 U U U U U U (qL 8 [2] U (bV 4 [12,13,14,15,16] 12 16 (x.Kind==2) U (λc1 hk1=>?_) (λe=>?_)))))))))))
 .exact qL 4 [2] U (hk1 _ U)
 refine aJ (ae hs0 U (λc2 hs1=>?_) (λc2 hs2=>?_))
 .refine qK 4 [2] U (ai call343 (ss _ _ _ _ x.Name hoffices) U (qL 1 [] U (cT 0 ty3 U U U U U U (qL 4 [] U (cT 0 ty60 U U U U U U (qO 6 U ?_))))))
  let z1:Nat×Obj:=(b2,O [I 0,I 0,I 0,.string (⟨#[]⟩:ByteArray),.slice none 0 0] 62)
  let z3:Nat×Obj:=(b1,O (zC x gd) 62)
  refine lp2 x.L (λi w=>[(0,.slice dI offices.length dH),(3,Q b1),(4,Q b2),(5,Q b3),(6,I (i:Int))]) (λw=>w.2.2.2.2) (λw=>[(b3,O [I x.Kind,I x.N,I (eu offices x.Name),.string x.Name,.slice w.2.1 w.1.length w.2.2.1] 62),z1,z3]++(w.2.2.2.1)) (λi w=>dG aAF 62 w.2.2.2.2 w.1 w.2.1 w.2.2.1 w.2.2.2.1/\w.1.length<=0+i/\jM h w.2.2.2.2) (λs1 i w=>(ah.L1 rec offices (ah.K1 offices x)) s1 w.1) ([],none,0,[],h) hx.list.1.1 hs1 ⟨dG.nil,lo,lf⟩ ?_ ?_ ?_
  .rintro i1 ⟨ka,nu,nt,Bl,hh1⟩ fp hs3 ⟨sK,Fg,hl1⟩ e
   try dsimp only at sK Fg hl1
   let z5:Nat×Obj:=(b3,O [I x.Kind,I x.N,I (eu offices x.Name),.string x.Name,.slice nu ka.length nt] 62)
   let z19:Nat×Obj:=(b2,O [I x.Kind,I x.N,I (eu offices x.Name),.string x.Name,.slice nu ka.length nt] 62)
   refine sr (cK 0 ty62 U U U (aQ 1 ty62 U U U U U U (il (L':=[z5,z19,z3]++(Bl)) U (aJ (fF aAi ([z5,z19,z3]) Bl ([]) ap hM sK (λh3 hle3 sl2=>?_))))))
   have hs4:ah.F rec offices x=(qG x.Kind x.N (eu offices x.Name) x.Name ka):=hs3
   exact jx [.agg (vB [I x.Kind,I x.N,I (eu offices x.Name),.string x.Name,.slice nu ka.length nt])] func307 U ⟨⟨1,_,_,_,_,U,U,.inl ⟨ty62,U⟩⟩,trivial⟩ ⟨(cL.mk nu nt),congrArg (λr:Expr=>(.agg (zC r (cL.mk nu nt)).toArray:Value)) hs4.symm,(by rw[hs4];exact(show jF h3 (qG x.Kind x.N (eu offices x.Name) x.Name ka) (cL.mk nu nt)from aAf sl2))⟩
  .rintro i1 ⟨ka,nu,nt,Bl,hh1⟩ y1 rz1 hd1 dj aY er gr hs5 ⟨sK,Fg,hl1⟩ hx1 ag1 e
   try dsimp only at sK Fg hl1
   have hdy:=aAe (fX hd1)
   refine qK 7 [2] U (tO dj U (qO 5 U (eM ([z1,z3]) mixed kr jn (λem _=>qB [0,2,3] U (tf 4 U U (rj 1 ty60 U U U) (tm 5 U (jt 6 em jn lB ty62 (hx.list.mono aAi hl1).1 (nthZ aY) (fq aY) U U U U kr (λq2 cs2 A2 ln2 rr3=>?_))))))))
   obtain⟨r2,rfl,ok3⟩:=rr3
   refine tf 7 U U (λ_ _ hj=>lM ty62 (A2.mono hj.1) U U) ?_
   refine nT 1 8 kr U U ?_ ?_ 
   .refine fw (zw ty60 U (oe (i:=0) U) U) (⟨jn,tn 8 U (cS Ip (hrec _ _ _ _ _ _ (hoffices.mono aBr hl1) ok3 ob (aAe (fX hd1))) U (λv2 h4 hle4 hp2=>?_))⟩)
    obtain⟨rr4,rfl,ok4⟩:=hp2
    refine⟨jl hle4,tu hle4 (tn 9 U (bK (cells:=[I ((rec offices y1).Kind),I ((rec offices y1).N),I ((rec offices y1).No),.string ((rec offices y1).Name),.slice rr4.lX ((rec offices y1).L.length) rr4.mm]) lB ty62 zc62 U U kr (λb5=>⟨jn,?_⟩)))⟩
    let z6:Nat×Obj:=(b3,O [I x.Kind,I x.N,I (eu offices x.Name),.string x.Name,.slice nu ka.length nt] 62)
    let z15:Nat×Obj:=(b5,O [I ((rec offices y1).Kind),I ((rec offices y1).N),I ((rec offices y1).No),.string ((rec offices y1).Name),.slice rr4.lX ((rec offices y1).L.length) rr4.mm] 62)
    exact tn 10 U (dK aBJ ([z15,z6,z1,z3]) ([]) (λG=>[z15,z6,z1,z3]++G) ap (λ_=>ap) lB ty62 zc62 U bytes62 (sK.mono aAi hle4) U U (fd 0 U (cE (R:=aAF) (rec offices y1) U ⟨rr4,U,ok4⟩)) lo lo (λob2 oc2 G2 gr2=>⟨jn,qB [11] U (tn 12 U (ku 1 ty60 U U U U U U (⟨jn,aV kr (qT 3 U (oi i1 U (an (bz (L':=[(b3,O [I x.Kind,I x.N,I (eu offices x.Name),.string x.Name,.slice ob2 ((ka++[(rec offices y1)]).length) oc2] 62),z1,z3]++G2) js (ag1 ((ka++[(rec offices y1)]),ob2,oc2,G2,h4) hs5 ⟨gr2,lo,(hl1.t hle4)⟩)))))⟩)))⟩))
   refine cS Ip (hrec _ _ _ _ _ _ (hoffices.mono aBr hl1) ok3 ob (aAe (fX hd1))) U (λv3 h5 hle5 hp3=>?_)
   obtain⟨rr5,rfl,ok5⟩:=hp3
   refine⟨jl hle5,tu hle5 ?_⟩
   refine nT 1 9 kr U U ?_ ?_ 
   .refine fw (zw ty60 U (oe (i:=0) U) U) (⟨jn,tn 9 U (bK (cells:=[I ((rec offices y1).Kind),I ((rec offices y1).N),I ((rec offices y1).No),.string ((rec offices y1).Name),.slice rr5.lX ((rec offices y1).L.length) rr5.mm]) lB ty62 zc62 U U kr (λb6=>⟨jn,?_⟩))⟩)
    let z7:Nat×Obj:=(b3,O [I x.Kind,I x.N,I (eu offices x.Name),.string x.Name,.slice nu ka.length nt] 62)
    let z16:Nat×Obj:=(b6,O [I ((rec offices y1).Kind),I ((rec offices y1).N),I ((rec offices y1).No),.string ((rec offices y1).Name),.slice rr5.lX ((rec offices y1).L.length) rr5.mm] 62)
    exact tn 10 U (dK aBJ ([z16,z7,z1,z3]) ([]) (λG=>[z16,z7,z1,z3]++G) ap (λ_=>ap) lB ty62 zc62 U bytes62 (sK.mono aAi hle5) U U (fd 0 U (cE (R:=aAF) (rec offices y1) U ⟨rr5,U,ok5⟩)) lo lo (λob3 oc3 G3 gr3=>⟨jn,qB [11] U (tn 12 U (ku 1 ty60 U U U U U U (⟨jn,aV kr (qT 3 U (oi i1 U (an (bz (L':=[(b3,O [I x.Kind,I x.N,I (eu offices x.Name),.string x.Name,.slice ob3 ((ka++[(rec offices y1)]).length) oc3] 62),z1,z3]++G3) js (ag1 ((ka++[(rec offices y1)]),ob3,oc3,G3,h5) hs5 ⟨gr3,lo,(hl1.t hle5)⟩)))))⟩)))⟩))
   refine bK (cells:=[I ((rec offices y1).Kind),I ((rec offices y1).N),I ((rec offices y1).No),.string ((rec offices y1).Name),.slice rr5.lX ((rec offices y1).L.length) rr5.mm]) lB ty62 zc62 U U kr (λb7=>⟨jn,tn 1 U (fw (zw ty60 U (oe (i:=1) U) U) (⟨jn,?_⟩))⟩)
   let z8:Nat×Obj:=(b3,O [I x.Kind,I x.N,I (eu offices x.Name),.string x.Name,.slice nu ka.length nt] 62)
   let z17:Nat×Obj:=(b7,O [I ((rec offices y1).Kind),I ((rec offices y1).N),I ((rec offices y1).No),.string ((rec offices y1).Name),.slice rr5.lX ((rec offices y1).L.length) rr5.mm] 62)
   exact tn 10 U (dK aBJ ([z17,z8,z1,z3]) ([]) (λG=>[z17,z8,z1,z3]++G) ap (λ_=>ap) lB ty62 zc62 U bytes62 (sK.mono aAi hle5) U U (fd 0 U (cE (R:=aAF) (rec offices y1) U ⟨rr5,U,ok5⟩)) lo lo (λob4 oc4 G4 gr4=>⟨jn,qB [11] U (tn 12 U (ku 1 ty60 U U U U U U (⟨jn,aV kr (qT 3 U (oi i1 U (an (bz (L':=[(b3,O [I x.Kind,I x.N,I (eu offices x.Name),.string x.Name,.slice ob4 ((ka++[(rec offices y1)]).length) oc4] 62),z1,z3]++G4) js (ag1 ((ka++[(rec offices y1)]),ob4,oc4,G4,h5) hs5 ⟨gr4,lo,(hl1.t hle5)⟩)))))⟩)))⟩))
  rintro i1 ⟨ka,nu,nt,Bl,hh1⟩ hd1 ga hx e
  exact qK 7 [2] U (fO ga U (qO 3 U (hx _ rd)))
 refine qK 4 [] U (cT 0 ty60 U U U U U U (qO 6 U ?_))
 let z2:Nat×Obj:=(b2,O [I 0,I 0,I 0,.string (⟨#[]⟩:ByteArray),.slice none 0 0] 62)
 let z4:Nat×Obj:=(b1,O (zC x gd) 62)
 refine lp2 x.L (λi w=>[(0,.slice dI offices.length dH),(3,Q b1),(4,Q b2),(5,Q b3),(6,I (i:Int))]) (λw=>w.2.2.2.2) (λw=>[(b3,O [I x.Kind,I x.N,I 0,.string x.Name,.slice w.2.1 w.1.length w.2.2.1] 62),z2,z4]++(w.2.2.2.1)) (λi w=>dG aAF 62 w.2.2.2.2 w.1 w.2.1 w.2.2.1 w.2.2.2.1/\w.1.length<=0+i/\jM h w.2.2.2.2) (λs2 i w=>(ah.L2 rec offices (ah.K2 x)) s2 w.1) ([],none,0,[],h) hx.list.1.1 hs2 ⟨dG.nil,lo,lf⟩ ?_ ?_ ?_
 .rintro i2 ⟨j9,ns,nr,Bg,hh2⟩ xn hs6 ⟨sI,Fc,hl2⟩ e
  try dsimp only at sI Fc hl2
  let z9:Nat×Obj:=(b3,O [I x.Kind,I x.N,I 0,.string x.Name,.slice ns j9.length nr] 62)
  let z20:Nat×Obj:=(b2,O [I x.Kind,I x.N,I 0,.string x.Name,.slice ns j9.length nr] 62)
  refine sr (cK 0 ty62 U U U (aQ 1 ty62 U U U U U U (il (L':=[z9,z20,z4]++(Bg)) U (aJ (fF aAi ([z9,z20,z4]) Bg ([]) ap hM sI (λh8 hle8 sl4=>?_))))))
  have hs7:ah.F rec offices x=(qG x.Kind x.N 0 x.Name j9):=hs6
  exact jx [.agg (vB [I x.Kind,I x.N,I 0,.string x.Name,.slice ns j9.length nr])] func307 U ⟨⟨1,_,_,_,_,U,U,.inl ⟨ty62,U⟩⟩,trivial⟩ ⟨(cL.mk ns nr),congrArg (λr:Expr=>(.agg (zC r (cL.mk ns nr)).toArray:Value)) hs7.symm,(by rw[hs7];exact(show jF h8 (qG x.Kind x.N 0 x.Name j9) (cL.mk ns nr)from aAf sl4))⟩
 .rintro i2 ⟨j9,ns,nr,Bg,hh2⟩ y2 rz2 hd2 xm sH E2 KH hs8 ⟨sI,Fc,hl2⟩ hx2 ag2 e
  try dsimp only at sI Fc hl2
  have hdy:=aAe (fX hd2)
  refine qK 7 [2] U (tO xm U (qO 5 U (eM ([z2,z4]) mixed kr jn (λmq _=>qB [0,2,3] U (tf 4 U U (rj 1 ty60 U U U) (tm 5 U (jt 6 mq jn lB ty62 (hx.list.mono aAi hl2).1 (nthZ sH) (fq sH) U U U U kr (λq4 cs4 A4 ln4 rr8=>?_))))))))
  obtain⟨r4,rfl,ok8⟩:=rr8
  refine tf 7 U U (λ_ _ hj=>lM ty62 (A4.mono hj.1) U U) ?_
  refine nT 1 8 kr U U ?_ ?_ 
  .refine fw (zw ty60 U (oe (i:=0) U) U) (⟨jn,tn 8 U (cS Ip (hrec _ _ _ _ _ _ (hoffices.mono aBr hl2) ok8 ob (aAe (fX hd2))) U (λv5 h9 hle9 hp5=>?_))⟩)
   obtain⟨rr9,rfl,ok9⟩:=hp5
   refine⟨jl hle9,tu hle9 (tn 9 U (bK (cells:=[I ((rec offices y2).Kind),I ((rec offices y2).N),I ((rec offices y2).No),.string ((rec offices y2).Name),.slice rr9.lX ((rec offices y2).L.length) rr9.mm]) lB ty62 zc62 U U kr (λb9=>⟨jn,?_⟩)))⟩
   let z10:Nat×Obj:=(b3,O [I x.Kind,I x.N,I 0,.string x.Name,.slice ns j9.length nr] 62)
   let z18:Nat×Obj:=(b9,O [I ((rec offices y2).Kind),I ((rec offices y2).N),I ((rec offices y2).No),.string ((rec offices y2).Name),.slice rr9.lX ((rec offices y2).L.length) rr9.mm] 62)
   exact tn 10 U (dK aBJ ([z18,z10,z2,z4]) ([]) (λG=>[z18,z10,z2,z4]++G) ap (λ_=>ap) lB ty62 zc62 U bytes62 (sI.mono aAi hle9) U U (fd 0 U (cE (R:=aAF) (rec offices y2) U ⟨rr9,U,ok9⟩)) lo lo (λob6 oc6 G6 gr6=>⟨jn,qB [11] U (tn 12 U (ku 1 ty60 U U U U U U (⟨jn,aV kr (qT 3 U (oi i2 U (an (bz (L':=[(b3,O [I x.Kind,I x.N,I 0,.string x.Name,.slice ob6 ((j9++[(rec offices y2)]).length) oc6] 62),z2,z4]++G6) js (ag2 ((j9++[(rec offices y2)]),ob6,oc6,G6,h9) hs8 ⟨gr6,lo,(hl2.t hle9)⟩)))))⟩)))⟩))
  refine cS Ip (hrec _ _ _ _ _ _ (hoffices.mono aBr hl2) ok8 ob (aAe (fX hd2))) U (λv6 h10 hle10 hp6=>?_)
  obtain⟨rr10,rfl,ok10⟩:=hp6
  refine⟨jl hle10,tu hle10 ?_⟩
  refine nT 1 9 kr U U ?_ ?_ 
  .refine fw (zw ty60 U (oe (i:=0) U) U) (⟨jn,tn 9 U (bK (cells:=[I ((rec offices y2).Kind),I ((rec offices y2).N),I ((rec offices y2).No),.string ((rec offices y2).Name),.slice rr10.lX ((rec offices y2).L.length) rr10.mm]) lB ty62 zc62 U U kr (λb10=>⟨jn,?_⟩))⟩)
   let z11:Nat×Obj:=(b3,O [I x.Kind,I x.N,I 0,.string x.Name,.slice ns j9.length nr] 62)
   let z13:Nat×Obj:=(b10,O [I ((rec offices y2).Kind),I ((rec offices y2).N),I ((rec offices y2).No),.string ((rec offices y2).Name),.slice rr10.lX ((rec offices y2).L.length) rr10.mm] 62)
   exact tn 10 U (dK aBJ ([z13,z11,z2,z4]) ([]) (λG=>[z13,z11,z2,z4]++G) ap (λ_=>ap) lB ty62 zc62 U bytes62 (sI.mono aAi hle10) U U (fd 0 U (cE (R:=aAF) (rec offices y2) U ⟨rr10,U,ok10⟩)) lo lo (λob7 oc7 G7 gr7=>⟨jn,qB [11] U (tn 12 U (ku 1 ty60 U U U U U U (⟨jn,aV kr (qT 3 U (oi i2 U (an (bz (L':=[(b3,O [I x.Kind,I x.N,I 0,.string x.Name,.slice ob7 ((j9++[(rec offices y2)]).length) oc7] 62),z2,z4]++G7) js (ag2 ((j9++[(rec offices y2)]),ob7,oc7,G7,h10) hs8 ⟨gr7,lo,(hl2.t hle10)⟩)))))⟩)))⟩))
  refine bK (cells:=[I ((rec offices y2).Kind),I ((rec offices y2).N),I ((rec offices y2).No),.string ((rec offices y2).Name),.slice rr10.lX ((rec offices y2).L.length) rr10.mm]) lB ty62 zc62 U U kr (λb11=>⟨jn,tn 1 U (fw (zw ty60 U (oe (i:=1) U) U) (⟨jn,?_⟩))⟩)
  let z12:Nat×Obj:=(b3,O [I x.Kind,I x.N,I 0,.string x.Name,.slice ns j9.length nr] 62)
  let z14:Nat×Obj:=(b11,O [I ((rec offices y2).Kind),I ((rec offices y2).N),I ((rec offices y2).No),.string ((rec offices y2).Name),.slice rr10.lX ((rec offices y2).L.length) rr10.mm] 62)
  exact tn 10 U (dK aBJ ([z14,z12,z2,z4]) ([]) (λG=>[z14,z12,z2,z4]++G) ap (λ_=>ap) lB ty62 zc62 U bytes62 (sI.mono aAi hle10) U U (fd 0 U (cE (R:=aAF) (rec offices y2) U ⟨rr10,U,ok10⟩)) lo lo (λob8 oc8 G8 gr8=>⟨jn,qB [11] U (tn 12 U (ku 1 ty60 U U U U U U (⟨jn,aV kr (qT 3 U (oi i2 U (an (bz (L':=[(b3,O [I x.Kind,I x.N,I 0,.string x.Name,.slice ob8 ((j9++[(rec offices y2)]).length) oc8] 62),z2,z4]++G8) js (ag2 ((j9++[(rec offices y2)]),ob8,oc8,G8,h10) hs8 ⟨gr8,lo,(hl2.t hle10)⟩)))))⟩)))⟩))
 rintro i2 ⟨j9,ns,nr,Bg,hh2⟩ hd2 Ow hx e
 exact qK 7 [2] U (fO Ow U (qO 3 U (hx _ rd)))
theorem pZ:∀(m:Nat)(h:HF)(offices:List ByteArray)(dI:Option Addr)(dH:Nat)(x:Expr)(gd:cL)(_:x.dep<=m)(hoffices:SlC aAM h dI dH offices)(hx:jF h x gd)(hsz:x.dep<=2000000),j1 prog 307 [.slice dI offices.length dH,.agg (zC x gd).toArray] h (λv h'=>∃(rr0:cL),v=.agg (zC (ah.go m offices x) rr0).toArray/\jF h' (ah.go m offices x) rr0)
 |0,h,offices,dI,dH,x,gd,hd,hoffices,hx,hsz=>absurd hd (Nat.not_le.2 (aBe _))
 |m+1,h,offices,dI,dH,x,gd,hd,hoffices,hx,hsz=>zq (ah.go m) h offices dI dH x gd (λqh_ qoffices jW jU qx kU qhoffices qhx qhsz qd=>pZ m qh_ qoffices jW jU qx kU ob qhoffices qhx qhsz) hoffices hx hsz
theorem tj(h:HF)(offices:List ByteArray)(dI:Option Addr)(dH:Nat)(x:Expr)(gd:cL)(hoffices:SlC aAM h dI dH offices)(hx:jF h x gd)(hsz:x.dep<=2000000):j1 prog 307 [.slice dI offices.length dH,.agg (zC x gd).toArray] h (λv h'=>∃(rr0:cL),v=.agg (zC (ah offices x) rr0).toArray/\jF h' (ah offices x) rr0):=pZ _ h offices dI dH x gd (xG _) hoffices hx hsz
theorem BN(h:HF)(p:Policy)(gS:eA)(hp:zN h p gS)(hsm:smP p):j1 prog 249 [.agg (kD p gS).toArray] h (λv h'=>∃(rr0:eA),v=.tuple #[.agg (kD ((dU p).1) rr0).toArray,I ((dU p).2)]/\zN h' ((dU p).1) rr0):=by
 refine cJ K7 U ntmps249 U λX hM hX=>?_
 have hs0:dU p=dU p:=rfl
 have hsc:=hsm.change
 have hsr:=hsm.rules
 refine sr (cy (λb1=>ba zc64 (λb2=>qO 5 U (cK 1 ty64 U U U (ai call304 (AQ _ _ _ hp) U (aJ (ae hs0 U (λc1 hs1=>?_) (λc1 hs2=>?_))))))))
 .refine sr (aC (fN (cells:=[.string (⟨#[]⟩:ByteArray),.slice none 0 0,.slice none 0 0,.slice none 0 0,I 0,I 0,I 0,.string (⟨#[]⟩:ByteArray),.slice none 0 0,I 0]) (places:=[(0,1),(1,1),(2,1),(3,1),(4,5),(9,1)]) Lm zc64 kr kr (aQ 0 ty64 U U U U U U (an ?_))))
  have hs3:dU p=((xM (⟨#[]⟩:ByteArray) ([]) ([]) ([]) (qG 0 0 0 (⟨#[]⟩:ByteArray) ([])) 0),2):=hs1
  exact jx [.agg (vB [.string (⟨#[]⟩:ByteArray),.slice none 0 0,.slice none 0 0,.slice none 0 0,I 0,I 0,I 0,.string (⟨#[]⟩:ByteArray),.slice none 0 0,I 0]),I 2] K7 U ⟨⟨0,_,_,_,_,U,U,.inl ⟨ty64,U⟩⟩,U,trivial⟩ ⟨(eA.mk none 0 none 0 none 0 (cL.mk none 0)),congrArg (λr:(Policy×Int)=>(.tuple #[.agg (kD r.1 (eA.mk none 0 none 0 none 0 (cL.mk none 0))).toArray,I r.2]:Value)) hs3.symm,(by rw[hs3];exact(show zN h (xM (⟨#[]⟩:ByteArray) ([]) ([]) ([]) (qG 0 0 0 (⟨#[]⟩:ByteArray) ([])) 0) (eA.mk none 0 none 0 none 0 (cL.mk none 0))from⟨vE,vE,vE,(show jF h (qG 0 0 0 (⟨#[]⟩:ByteArray) ([])) (cL.mk none 0)from aAf vE)⟩))⟩
 refine qT 4 U (cK 1 ty64 U U U (ai call305 (Ev _ _ _ hp) U (qO 2 U (ae hs2 U (λc2 hs4=>?_) (λc2 hs5=>?_)))))
 .refine sr (aC (fN (cells:=[.string (⟨#[]⟩:ByteArray),.slice none 0 0,.slice none 0 0,.slice none 0 0,I 0,I 0,I 0,.string (⟨#[]⟩:ByteArray),.slice none 0 0,I 0]) (places:=[(0,1),(1,1),(2,1),(3,1),(4,5),(9,1)]) Lm zc64 kr kr (aQ 0 ty64 U U U U U U (an ?_))))
  have hs6:dU p=((xM (⟨#[]⟩:ByteArray) ([]) ([]) ([]) (qG 0 0 0 (⟨#[]⟩:ByteArray) ([])) 0),201):=hs4
  exact jx [.agg (vB [.string (⟨#[]⟩:ByteArray),.slice none 0 0,.slice none 0 0,.slice none 0 0,I 0,I 0,I 0,.string (⟨#[]⟩:ByteArray),.slice none 0 0,I 0]),I 201] K7 U ⟨⟨0,_,_,_,_,U,U,.inl ⟨ty64,U⟩⟩,U,trivial⟩ ⟨(eA.mk none 0 none 0 none 0 (cL.mk none 0)),congrArg (λr:(Policy×Int)=>(.tuple #[.agg (kD r.1 (eA.mk none 0 none 0 none 0 (cL.mk none 0))).toArray,I r.2]:Value)) hs6.symm,(by rw[hs6];exact(show zN h (xM (⟨#[]⟩:ByteArray) ([]) ([]) ([]) (qG 0 0 0 (⟨#[]⟩:ByteArray) ([])) 0) (eA.mk none 0 none 0 none 0 (cL.mk none 0))from⟨vE,vE,vE,(show jF h (qG 0 0 0 (⟨#[]⟩:ByteArray) ([])) (cL.mk none 0)from aAf vE)⟩))⟩
 refine qT 4 U (cK 1 ty64 U U U (ai call306 (Dp _ _ _ hp) U (qO 2 U (ae hs5 U (λc3 hs7=>?_) (λc3 hs8=>?_)))))
 .refine sr (aC (fN (cells:=[.string (⟨#[]⟩:ByteArray),.slice none 0 0,.slice none 0 0,.slice none 0 0,I 0,I 0,I 0,.string (⟨#[]⟩:ByteArray),.slice none 0 0,I 0]) (places:=[(0,1),(1,1),(2,1),(3,1),(4,5),(9,1)]) Lm zc64 kr kr (aQ 0 ty64 U U U U U U (an ?_))))
  have hs9:dU p=((xM (⟨#[]⟩:ByteArray) ([]) ([]) ([]) (qG 0 0 0 (⟨#[]⟩:ByteArray) ([])) 0),200):=hs7
  exact jx [.agg (vB [.string (⟨#[]⟩:ByteArray),.slice none 0 0,.slice none 0 0,.slice none 0 0,I 0,I 0,I 0,.string (⟨#[]⟩:ByteArray),.slice none 0 0,I 0]),I 200] K7 U ⟨⟨0,_,_,_,_,U,U,.inl ⟨ty64,U⟩⟩,U,trivial⟩ ⟨(eA.mk none 0 none 0 none 0 (cL.mk none 0)),congrArg (λr:(Policy×Int)=>(.tuple #[.agg (kD r.1 (eA.mk none 0 none 0 none 0 (cL.mk none 0))).toArray,I r.2]:Value)) hs9.symm,(by rw[hs9];exact(show zN h (xM (⟨#[]⟩:ByteArray) ([]) ([]) ([]) (qG 0 0 0 (⟨#[]⟩:ByteArray) ([])) 0) (eA.mk none 0 none 0 none 0 (cL.mk none 0))from⟨vE,vE,vE,(show jF h (qG 0 0 0 (⟨#[]⟩:ByteArray) ([])) (cL.mk none 0)from aAf vE)⟩))⟩
 refine qT 3 U (cK 1 ty64 U U U (ba zc64 (λb3=>aQ 0 ty64 U U U U U U (qL 4 [] U (cT 0 ty59 U U U U U U (qO 6 U ?_))))))
 let z4:Nat×Obj:=(b2,O [.string (⟨#[]⟩:ByteArray),.slice none 0 0,.slice none 0 0,.slice none 0 0,I 0,I 0,I 0,.string (⟨#[]⟩:ByteArray),.slice none 0 0,I 0] 64)
 let z7:Nat×Obj:=(b1,O (kD p gS) 64)
 refine lp2 p.Rules (λi w=>[(1,Q b1),(2,Q b2),(4,Q b3),(5,I (i:Int))]) (λw=>w.2.2.2.2) (λw=>[(b3,O [.string p.Name,.slice gS.i8 p.Kinds.length gS.i7,.slice gS.gq p.Offices.length gS.gp,.slice w.2.1 w.1.length w.2.2.1,I p.Change.Kind,I p.Change.N,I p.Change.No,.string p.Change.Name,.slice gS.Change.lX p.Change.L.length gS.Change.mm,I p.Mode] 64),z4,z7]++(w.2.2.2.1)) (λi w=>dG Rule.rp 79 w.2.2.2.2 w.1 w.2.1 w.2.2.1 w.2.2.2.1/\w.1.length<=0+i/\jM h w.2.2.2.2) (λs1 i w=>(dU.L1 p (dU.K1 p)) s1 i w.1) ([],none,0,[],h) hp.Rules.1.1 hs8 ⟨dG.nil,lo,lf⟩ ?_ ?_ ?_
 .rintro i1 ⟨lW,pg,pf,xu,hh1⟩ fp hs10 ⟨xr,Fh,hl1⟩ e
  try dsimp only at xr Fh hl1
  refine qK 5 [2] U (cK 2 ty62 U U U (aC (cS Ip (tj _ _ _ _ _ _ (hp.Offices.mono aBr hl1) (hp.Change.mono hl1) ob) U (λv3 h4 hle4 hp3=>?_))))
  obtain⟨rr4,rfl,ok4⟩:=hp3
  let z2:Nat×Obj:=(b3,O [.string p.Name,.slice gS.i8 p.Kinds.length gS.i7,.slice gS.gq p.Offices.length gS.gp,.slice pg lW.length pf,I ((ah p.Offices p.Change).Kind),I ((ah p.Offices p.Change).N),I ((ah p.Offices p.Change).No),.string ((ah p.Offices p.Change).Name),.slice rr4.lX ((ah p.Offices p.Change).L.length) rr4.mm,I p.Mode] 64)
  let z3:Nat×Obj:=(b2,O [.string p.Name,.slice gS.i8 p.Kinds.length gS.i7,.slice gS.gq p.Offices.length gS.gp,.slice pg lW.length pf,I ((ah p.Offices p.Change).Kind),I ((ah p.Offices p.Change).N),I ((ah p.Offices p.Change).No),.string ((ah p.Offices p.Change).Name),.slice rr4.lX ((ah p.Offices p.Change).L.length) rr4.mm,I p.Mode] 64)
  refine qL 1 [] U (cT 0 ty62 U U U U U U (qO 3 U (cK 0 ty64 U U U (aQ 1 ty64 U U U U U U (il (L':=[z2,z3,z7]++(xu)) U (an (fF aBx ([z2,z3,z7]) xu ([]) ap hM (xr.mono aBx hle4) (λh5 hle5 sl2=>?_))))))))
  have hs11:dU p=((xM p.Name p.Kinds p.Offices lW (qG ((ah p.Offices p.Change).Kind) ((ah p.Offices p.Change).N) ((ah p.Offices p.Change).No) ((ah p.Offices p.Change).Name) ((ah p.Offices p.Change).L)) p.Mode),0):=hs10
  exact jx [.agg (kD (xM p.Name p.Kinds p.Offices lW (qG ((ah p.Offices p.Change).Kind) ((ah p.Offices p.Change).N) ((ah p.Offices p.Change).No) ((ah p.Offices p.Change).Name) ((ah p.Offices p.Change).L)) p.Mode) (eA.mk gS.i8 gS.i7 gS.gq gS.gp pg pf (cL.mk rr4.lX rr4.mm))).toArray,I 0] K7 U ⟨⟨1,_,_,_,_,U,U,.inl ⟨ty64,U⟩⟩,U,trivial⟩ ⟨(eA.mk gS.i8 gS.i7 gS.gq gS.gp pg pf (cL.mk rr4.lX rr4.mm)),congrArg (λr:(Policy×Int)=>(.tuple #[.agg (kD r.1 (eA.mk gS.i8 gS.i7 gS.gq gS.gp pg pf (cL.mk rr4.lX rr4.mm))).toArray,I r.2]:Value)) hs11.symm,(by rw[hs11];exact(show zN h5 (xM p.Name p.Kinds p.Offices lW (qG ((ah p.Offices p.Change).Kind) ((ah p.Offices p.Change).N) ((ah p.Offices p.Change).No) ((ah p.Offices p.Change).Name) ((ah p.Offices p.Change).L)) p.Mode) (eA.mk gS.i8 gS.i7 gS.gq gS.gp pg pf (cL.mk rr4.lX rr4.mm))from⟨(hp.Kinds.mono aBr ((hl1.t hle4).t hle5)),(hp.Offices.mono aBr ((hl1.t hle4).t hle5)),sl2,(show jF h5 (qG ((ah p.Offices p.Change).Kind) ((ah p.Offices p.Change).N) ((ah p.Offices p.Change).No) ((ah p.Offices p.Change).Name) ((ah p.Offices p.Change).L)) (cL.mk rr4.lX rr4.mm)from aAf (ok4.list.mono aAi hle5))⟩))⟩
 .rintro i1 ⟨lW,pg,pf,xu,hh1⟩ y1 rz1 hd1 dj aY er gr hs12 ⟨xr,Fh,hl1⟩ hx1 ag1 e
  try dsimp only at xr Fh hl1
  have hsy:=hsm.2.1 y1 (fX hd1)
  refine qK 7 [2] U (tO dj U (qL 9 [2] U ?_))
  let z1:Nat×Obj:=(b3,O [.string p.Name,.slice gS.i8 p.Kinds.length gS.i7,.slice gS.gq p.Offices.length gS.gp,.slice pg lW.length pf,I p.Change.Kind,I p.Change.N,I p.Change.No,.string p.Change.Name,.slice gS.Change.lX p.Change.L.length gS.Change.mm,I p.Mode] 64)
  refine av (aC (iR wi ty79 (hp.Rules.mono aBx hl1).1 aY U U U (λ_ _ _ e=>e) (λq2 r2 A2 ok5=>dz ty79 A2 U U (ba zc79 (λb6=>aQ 0 ty79 U U U U U U (il (L':=[(b6,O (Rule.cells y1 r2) 79),z1,z4,z7]++(xu)) U (qL 5 [] U (cT 0 ty3 U U U U U U (qL 6 [3] U (cK 0 ty62 U U U (aC (cS Ip (tj _ _ _ _ _ _ (hp.Offices.mono aBr hl1) ok5.Expr ob) U (λv4 h6 hle6 hp4=>?_)))))))))))))
  obtain⟨rr6,rfl,ok6⟩:=hp4
  refine qL 1 [] U (cT 0 ty62 U U U U U U (qL 4 [1] U (cK 0 ty79 U U U (aC (bK (cells:=[.string y1.Kind,I (i1:Int),I y1.Think,I ((ah p.Offices y1.Expr).Kind),I ((ah p.Offices y1.Expr).N),I ((ah p.Offices y1.Expr).No),.string ((ah p.Offices y1.Expr).Name),.slice rr6.lX ((ah p.Offices y1.Expr).L.length) rr6.mm]) wi ty79 zc79 U U kr (λb7=>?_))))))
  let z5:Nat×Obj:=(b7,O [.string y1.Kind,I (i1:Int),I y1.Think,I ((ah p.Offices y1.Expr).Kind),I ((ah p.Offices y1.Expr).N),I ((ah p.Offices y1.Expr).No),.string ((ah p.Offices y1.Expr).Name),.slice rr6.lX ((ah p.Offices y1.Expr).L.length) rr6.mm] 79)
  let z6:Nat×Obj:=(b6,O [.string y1.Kind,I (i1:Int),I y1.Think,I ((ah p.Offices y1.Expr).Kind),I ((ah p.Offices y1.Expr).N),I ((ah p.Offices y1.Expr).No),.string ((ah p.Offices y1.Expr).Name),.slice rr6.lX ((ah p.Offices y1.Expr).L.length) rr6.mm] 79)
  refine aC (dK Rule.eQ ([z5,z6,z1,z4,z7]) ([]) (λG=>[z5,z6,z1,z4,z7]++G) ap (λ_=>ap) wi ty79 zc79 U bytes79 (xr.mono aBx hle6) U U (fd 0 U (cE (R:=Rule.rp) (aBf y1.Kind (i1:Int) y1.Think (qG ((ah p.Offices y1.Expr).Kind) ((ah p.Offices y1.Expr).N) ((ah p.Offices y1.Expr).No) ((ah p.Offices y1.Expr).Name) ((ah p.Offices y1.Expr).L))) U ⟨(BJ.mk (cL.mk rr6.lX rr6.mm)),U,(show Rule.ok h6 (aBf y1.Kind (i1:Int) y1.Think (qG ((ah p.Offices y1.Expr).Kind) ((ah p.Offices y1.Expr).N) ((ah p.Offices y1.Expr).No) ((ah p.Offices y1.Expr).Name) ((ah p.Offices y1.Expr).L))) (BJ.mk (cL.mk rr6.lX rr6.mm))from⟨(show jF h6 (qG ((ah p.Offices y1.Expr).Kind) ((ah p.Offices y1.Expr).N) ((ah p.Offices y1.Expr).No) ((ah p.Offices y1.Expr).Name) ((ah p.Offices y1.Expr).L)) (cL.mk rr6.lX rr6.mm)from aAf ok6.list)⟩)⟩)) lo lo (λob2 oc2 G2 gr2=>qL 1 [] U (cT 2 ty59 U U U U U U (qO 4 U (oi i1 U (an (bz (L':=[(b3,O [.string p.Name,.slice gS.i8 p.Kinds.length gS.i7,.slice gS.gq p.Offices.length gS.gp,.slice ob2 ((lW++[(aBf y1.Kind (i1:Int) y1.Think (qG ((ah p.Offices y1.Expr).Kind) ((ah p.Offices y1.Expr).N) ((ah p.Offices y1.Expr).No) ((ah p.Offices y1.Expr).Name) ((ah p.Offices y1.Expr).L)))]).length) oc2,I p.Change.Kind,I p.Change.N,I p.Change.No,.string p.Change.Name,.slice gS.Change.lX p.Change.L.length gS.Change.mm,I p.Mode] 64),z4,z7]++G2) js ?_)))))))
  exact ag1 ((lW++[(aBf y1.Kind (i1:Int) y1.Think (qG ((ah p.Offices y1.Expr).Kind) ((ah p.Offices y1.Expr).N) ((ah p.Offices y1.Expr).No) ((ah p.Offices y1.Expr).Name) ((ah p.Offices y1.Expr).L)))]),ob2,oc2,G2,h6) hs12 ⟨gr2,lo,(hl1.t hle6)⟩
 rintro i1 ⟨lW,pg,pf,xu,hh1⟩ hd1 ga hx e
 exact qK 7 [2] U (fO ga U (qO 3 U (hx _ rd)))
theorem so(h:HF)(a:List ByteArray)(QR:Option Addr)(QQ:Nat)(j0:List ByteArray)(FN:Option Addr)(FM:Nat)(ha:SlC aAM h QR QQ a)(yL:SlC aAM h FN FM j0):Ret prog 308 [.slice QR a.length QQ,.slice FN j0.length FM] h (.bool (ew a j0)):=by
 refine sT func308 U ntmps308 U λX hM hX hF=>?_
 have hs0:ew a j0=ew a j0:=rfl
 refine qK 13 [] U (ae hs0 U (λc1 hs1=>?_) (λc1 hs2=>?_))
 .exact sr (an (nretP [.bool false] (cs hs1)))
 refine qT 6 U ?_
 refine lp0 a (λi=>[(0,.slice QR a.length QQ),(1,.slice FN j0.length FM),(5,I (i:Int))]) ([]) (λs1 i=>(ew.L1 j0 (ew.K1)) s1 i) ha.1.1 hs2 ?_ ?_ ?_
 .rintro i1 fp hs4 e
  exact sr (an (nretP [.bool true] (cs hs4)))
 .rintro i1 y1 rz1 hd1 dj aY er gr hs6 hx1 ag1 e
  refine qK 6 [] U (tO dj U (qO 6 U (eM ([]) mixed kr jn (λem _=>qA [0,1] U (eS 2 (enc:=λy=>[.string y]) em jn ei vy ty9 ha.1 (nthZ aY) (fq aY) U U U U kr (λq3 A3=>tf 3 U U (rh ty9 A3 U) (qA [4,5] U ?_)))))))
  have ho2:0<=((i1:Int):Int)/\((i1:Int):Int)<((j0).length:Int):=ob
  refine eS 6 (enc:=λy=>[.string y]) em jn ei vy ty9 yL.1 ho2 (cN ho2) U U U U kr (λq4 A4=>tf 7 U U (rh ty9 A4 U) (qA [8] U (aV kr (ae hs6 U (λc3 hs7=>?_) (λc3 hs8=>?_)))))
  .exact sr (an (nretP [.bool false] (cs hs7)))
  exact aN (qT 3 U (oi i1 U (an (ag1 hs8))))
 rintro i1 hd1 ga hx e
 exact qK 6 [] U (fO ga U (qO 3 U (hx _ rd)))
theorem zt(rec:Expr->Expr->Bool)(h:HF)(a:Expr)(Im:cL)(j0:Expr)(pF:cL)(hrec:∀(h:HF)(qa:Expr)(Pz:cL)(Oe:Expr)(HM:cL)(hqa:jF h qa Pz)(Rv:jF h Oe HM)(_:qa.dep<a.dep),Ret prog 309 [.agg (zC qa Pz).toArray,.agg (zC Oe HM).toArray] h (.bool (rec qa Oe)))(ha:jF h a Im)(yL:jF h j0 pF):Ret prog 309 [.agg (zC a Im).toArray,.agg (zC j0 pF).toArray] h (.bool (bq.F rec a j0)):=by
 refine sT func309 U ntmps309 U λX hM hX hF=>?_
 have hs0:bq.F rec a j0=bq.F rec a j0:=rfl
 refine sr (cy (λb1=>cy (λb2=>qL 11 [1,0] U (bV 6 [11,12,13,14,15,16,17] 11 17 (a.N != j0.N) U (λc1 hk1=>?_) (λe=>?_)))))
 .exact qL 6 [1,0] U (hk1 _ U)
 refine av (bV 6 [18,19,20,21,22,23,24] 18 24 (a.No != j0.No) U (λc2 hk2=>?_) (λe=>?_))
 .exact qL 6 [1,0] U (hk2 _ U)
 refine av (bV 6 [25,26,27,28,29,30,31] 25 31 (!(a.Name.toList==j0.Name.toList)) U (λc3 hk3=>?_) (λe=>?_))
 .exact qL 6 [1,0] U (hk3 _ U)
 refine av (bV 8 [32,33,34,35,36,37,38,39,40] 32 40 ((a.L.length:Int) != (j0.L.length:Int)) U (λc4 hk4=>?_) (λe=>?_))
 .exact qL 8 [1,0] U (hk4 _ U)
 refine aJ (ae hs0 U (λc5 hs1=>?_) (λc5 hs2=>?_))
 .exact sr (an (nretP [.bool false] (cs hs1)))
 refine qT 6 U ?_
 let z1:Nat×Obj:=(b2,O (zC j0 pF) 62)
 let z2:Nat×Obj:=(b1,O (zC a Im) 62)
 refine lp0 a.L (λi=>[(2,Q b1),(3,Q b2),(5,I (i:Int))]) ([z1,z2]) (λs1 i=>(bq.L1 rec j0 (bq.K1)) s1 i) ha.list.1.1 hs2 ?_ ?_ ?_
 .rintro i1 fp hs4 e
  exact sr (an (nretP [.bool true] (cs hs4)))
 .rintro i1 y1 rz1 hd1 dj aY er gr hs6 hx1 ag1 e
  refine qK 7 [1] U (tO dj U (qO 6 U (eM ([z1,z2]) mixed kr jn (λem _=>qB [0] U (tf 1 U U (rj 1 ty60 U U U) (tm 2 U (jt 3 em jn lB ty62 ha.list.1 (nthZ aY) (fq aY) U U U U kr (λq3 cs3 A3 ln3 rr3=>?_))))))))
  obtain⟨r3,rfl,ok3⟩:=rr3
  refine tf 4 U U (λ_ _ hj=>lM ty62 (A3.mono hj.1) U U) (qB [5] U (tf 6 U U (rj 0 ty60 U U U) (tm 7 U ?_)))
  have ho2:0<=((i1:Int):Int)/\((i1:Int):Int)<((j0.L).length:Int):=ob
  refine jt 8 em jn lB ty62 yL.list.1 ho2 (cN ho2) U U U U kr (λq4 cs4 A4 ln4 rr4=>?_)
  obtain⟨r4,rfl,ok4⟩:=rr4
  refine tf 9 U U (λ_ _ hj=>lM ty62 (A4.mono hj.1) U U) (tn 10 U (fe call309 (hrec _ _ _ _ _ ok3 ok4 (aAe (fX hd1))) U (⟨jn,qA [11] U (aV kr (ae hs6 U (λc7 hs7=>?_) (λc7 hs8=>?_)))⟩)))
  .exact sr (an (nretP [.bool false] (cs hs7)))
  exact aN (qT 3 U (oi i1 U (an (ag1 hs8))))
 rintro i1 hd1 ga hx e
 exact qK 7 [1] U (fO ga U (qO 3 U (hx _ rd)))
theorem qb:∀(m:Nat)(h:HF)(a:Expr)(Im:cL)(j0:Expr)(pF:cL)(_:a.dep<=m)(ha:jF h a Im)(yL:jF h j0 pF),Ret prog 309 [.agg (zC a Im).toArray,.agg (zC j0 pF).toArray] h (.bool (bq.go m a j0))
 |0,h,a,Im,j0,pF,hd,ha,yL=>absurd hd (Nat.not_le.2 (aBe _))
 |m+1,h,a,Im,j0,pF,hd,ha,yL=>zt (bq.go m) h a Im j0 pF (λqh_ qa Pz Oe HM qha QV qd=>qb m qh_ qa Pz Oe HM ob qha QV) ha yL
theorem tr(h:HF)(a:Expr)(Im:cL)(j0:Expr)(pF:cL)(ha:jF h a Im)(yL:jF h j0 pF):Ret prog 309 [.agg (zC a Im).toArray,.agg (zC j0 pF).toArray] h (.bool (bq a j0)):=qb _ h a Im j0 pF (xG _) ha yL
theorem FY(h:HF)(a:Policy)(Im:eA)(j0:Policy)(pF:eA)(ha:zN h a Im)(yL:zN h j0 pF):Ret prog 250 [.agg (kD a Im).toArray,.agg (kD j0 pF).toArray] h (.bool (hZ a j0)):=by
 refine sT func250 U ntmps250 U λX hM hX hF=>?_
 have hs0:hZ a j0=hZ a j0:=rfl
 refine sr (cy (λb1=>cy (λb2=>qL 11 [1,0] U (bV 6 [13,14,15,16,17,18,19] 13 19 (a.Mode != j0.Mode) U (λc1 hk1=>?_) (λe=>?_)))))
 .exact qL 6 [1,0] U (hk1 _ U)
 refine av (bV 7 [20,21,22,23,24,25,26,27] 20 27 (!(ew a.Offices j0.Offices)) U (λc2 hk2=>?_) (λe=>?_))
 .exact qL 4 [1,0] U (ai call308 (so _ _ _ _ _ _ _ ha.Offices yL.Offices) U (qO 2 U (hk2 _ U)))
 refine av (bV 7 [28,29,30,31,32,33,34,35] 28 35 (!(ew a.Kinds j0.Kinds)) U (λc3 hk3=>?_) (λe=>?_))
 .exact qL 4 [1,0] U (ai call308 (so _ _ _ _ _ _ _ ha.Kinds yL.Kinds) U (qO 2 U (hk3 _ U)))
 refine av (bV 8 [36,37,38,39,40,41,42,43,44] 36 44 ((a.Rules.length:Int) != (j0.Rules.length:Int)) U (λc4 hk4=>?_) (λe=>?_))
 .exact qL 8 [1,0] U (hk4 _ U)
 refine av (bV 7 [45,46,47,48,49,50,51,52] 45 52 (!(bq a.Change j0.Change)) U (λc5 hk5=>?_) (λe=>?_))
 .exact qL 1 [] U (cK 1 ty62 U U U (qL 1 [] U (cK 0 ty62 U U U (ai call309 (tr _ _ _ _ _ ha.Change yL.Change) U (qO 2 U (hk5 _ U))))))
 refine aJ (ae hs0 U (λc6 hs1=>?_) (λc6 hs2=>?_))
 .exact sr (an (nretP [.bool false] (cs hs1)))
 refine qT 6 U ?_
 refine lp0 a.Rules (λi=>[(2,Q b1),(3,Q b2),(5,I (i:Int))]) ([(b2,O (kD j0 pF) 64),(b1,O (kD a Im) 64)]) (λs1 i=>(hZ.L1 j0 (hZ.K1)) s1 i) ha.Rules.1.1 hs2 ?_ ?_ ?_
 .rintro i1 fp hs4 e
  exact sr (an (nretP [.bool true] (cs hs4)))
 .rintro i1 y1 rz1 hd1 dj aY er gr hs6 hx1 ag1 e
  refine qK 7 [1] U (tO dj U (qL 10 [1] U (aC (iR wi ty79 ha.Rules.1 aY U U U (λ_ _ _ e=>e) (λq3 r3 A3 ok3=>dz ty79 A3 U U (ba zc79 (λb5=>aQ 0 ty79 U U U U U U (qL 6 [1] U ?_))))))))
  have ho2:0<=((i1:Int):Int)/\((i1:Int):Int)<((j0.Rules).length:Int):=ob
  refine aC (si wi ty79 yL.Rules.1 ho2 (cN ho2) U U U (λ_ _ _ e=>e) (λq4 r4 A4 ok4=>dz ty79 A4 U U (ba zc79 (λb6=>aQ 0 ty79 U U U U U U (qL 9 [1,0] U (bV 6 [75,76,77,78,79,80,81] 75 81 (y1.KindNo != (nthI j0.Rules (i1:Int)).KindNo) U (λc7 hk6=>?_) (λe=>?_)))))))
  .exact qL 6 [1,0] U (hk6 _ U)
  refine av (bV 6 [82,83,84,85,86,87,88] 82 88 (y1.Think != (nthI j0.Rules (i1:Int)).Think) U (λc8 hk7=>?_) (λe=>?_))
  .exact qL 6 [1,0] U (hk7 _ U)
  refine av (bV 7 [89,90,91,92,93,94,95,96] 89 96 (!(bq y1.Expr ((nthI j0.Rules (i1:Int)).Expr))) U (λc9 hk8=>?_) (λe=>?_))
  .exact qL 1 [] U (cK 1 ty62 U U U (qL 1 [] U (cK 0 ty62 U U U (ai call309 (tr _ _ _ _ _ ok3.Expr ok4.Expr) U (qO 2 U (hk8 _ U))))))
  refine aJ (ae hs6 U (λc10 hs7=>?_) (λc10 hs8=>?_))
  .exact sr (an (nretP [.bool false] (cs hs7)))
  exact aN (qT 3 U (oi i1 U (an (bz (L':=[(b2,O (kD j0 pF) 64),(b1,O (kD a Im) 64)]) js (ag1 hs8)))))
 rintro i1 hd1 ga hx e
 exact qK 7 [1] U (fO ga U (qO 3 U (hx _ rd)))
theorem wU(h:HF)(p:Policy)(gS:eA)(hp:zN h p gS)(hsm:smP p):Ret prog 158 [.agg (kD p gS).toArray] h (I (gf p)):=by
 refine sT func158 U ntmps158 U λX hM hX hF=>?_
 have hs0:gf p=gf p:=rfl
 refine sr (cy (λb1=>qO 4 U (cK 0 ty64 U U U (aC (cS call249 (BN _ _ _ hp ob) U (λv1 h1 hle1 hp1=>?_))))))
 obtain⟨rr1,rfl,ok1⟩:=hp1
 refine qO 3 U (ba zc64 (λb2=>aQ 0 ty64 U U U U U U (qO 8 U (ae hs0 U (λc1 hs1=>?_) (λc1 hs2=>?_)))))
 .exact sr (qO 3 U (nretP [I ((dU p).2)] (ci hs1)))
 refine qT 4 U (cK 0 ty64 U U U (cK 1 ty64 U U U (ai call250 (FY _ _ _ _ _ ok1 (hp.mono hle1)) U (qO 2 U (ae hs2 U (λc2 hs4=>?_) (λc2 hs5=>?_))))))
 .exact sr (an (nretP [I 200] (ci hs4)))
 exact aN (qT 4 U (nretP [I 0] (ci hs5)))
theorem AR(h:HF)(l:List Version)(eP:Option Addr)(eO:Nat)(hl:SlC Version.rp h eP eO l)(hsm:smV l):Ret prog 76 [.slice eP l.length eO] h (I (dO l)):=by
 refine sT func76 U ntmps76 U λX hM hX hF=>?_
 have hs0:dO l=dO l:=rfl
 refine qK 11 [] U (ae hs0 U (λc1 hs1=>?_) (λc1 hs2=>?_))
 .have c1p:=of_decide_eq_true c1
  exact sr (an (nretP [I 2] (ci hs1)))
 have c1p:=of_decide_eq_false c1
 refine qT 6 U ?_
 refine lp0 l (λi=>[(0,.slice eP l.length eO),(3,I (i:Int))]) ([]) (λs1 i=>(dO.L1 l (dO.K1)) s1 i) hl.1.1 hs2 ?_ ?_ ?_
 .rintro i1 fp hs4 e
  exact sr (an (nretP [I 0] (ci hs4)))
 .rintro i1 y1 rz1 hd1 dj aY er gr hs6 hx1 ag1 e
  have hsy:=hsm.2 y1 (fX hd1)
  refine qK 6 [] U (tO dj U (qO 9 U (aC (iR yz ty105 hl.1 aY U U U (λ_ _ _ e=>e) (λq2 r2 A2 ok2=>dz ty105 A2 U U (ba zc105 (λb2=>aQ 0 ty105 U U U U U U (qO 2 U ?_))))))))
  refine oo [(0,.slice eP l.length eO),(3,I (i1:Int)),(58,.bool (((((decide (y1.No<0)||decide (1048576<y1.No))||(decide (0<(i1:Int))&&decide (y1.No<=(nthI l ((i1:Int)-1)).No)))||(!(fB y1.At)))||(!(fB y1.Known)))||((gf y1.Policy) != 0)))] (λe=>?_) (λhk1=>?_)
  rotate_left
  .let z1:Nat×Obj:=(b2,O (Version.cells y1 r2) 105)
   refine eM ([z1]) mixed kr jn (λem _=>?_)
   refine qB [0] U (tf 1 U U (rj 0 ty3 U U U) (qA [2,3] U ?_))
   refine du 21 U (λc2=>?_) (λc2=>?_)
   .have c2p:=of_decide_eq_true c2
    exact tk 4 U U (qR 5 36 U (aV kr (hk1 _ ⟨U,U,(cb (show true=(((((decide (y1.No<0)||decide (1048576<y1.No))||(decide (0<(i1:Int))&&decide (y1.No<=(nthI l ((i1:Int)-1)).No)))||(!(fB y1.At)))||(!(fB y1.Known)))||((gf y1.Policy) != 0))from by rw[c2]<;>rfl)),trivial⟩)))
   have c2p:=of_decide_eq_false c2
   refine qB [4] U (tf 5 U U (rj 0 ty3 U U U) (qR 6 3 U ?_))
   refine du 26 U (λc3=>?_) (λc3=>?_)
   .have c3p:=of_decide_eq_true c3
    exact tk 9 U U (qR 10 31 U (aV kr (hk1 _ ⟨U,U,(cb (show true=(((((decide (y1.No<0)||decide (1048576<y1.No))||(decide (0<(i1:Int))&&decide (y1.No<=(nthI l ((i1:Int)-1)).No)))||(!(fB y1.At)))||(!(fB y1.Known)))||((gf y1.Policy) != 0))from by rw[c2,c3]<;>rfl)),trivial⟩)))
   have c3p:=of_decide_eq_false c3
   refine qR 9 3 U ?_
   refine du 29 U (λc4=>?_) (λc4=>?_)
   .have c4p:=of_decide_eq_true c4
    refine qA [12,13] U (tf 14 U U (λ_ _ _=>nl (v':=I ((i1:Int)-1)) U (jv ob)) ?_)
    have ho1:0<=(((i1:Int)-1):Int)/\(((i1:Int)-1):Int)<((l).length:Int):=ob
    refine jt 15 em jn yz ty105 hl.1 ho1 (cN ho1) U U U U kr (λq3 cs3 A3 ln3 rr3=>?_)
    obtain⟨r3,rfl,ok3⟩:=rr3
    refine qB [16] U (tf 17 U U (rh ty3 A3 U) (qB [18] U (tf 19 U U (rj 0 ty3 U U U) (qR 20 4 U ?_))))
    refine du 41 U (λc5=>?_) (λc5=>?_)
    .have c5p:=of_decide_eq_true c5
     exact tk 24 U U (qR 25 16 U (aV kr (hk1 _ ⟨U,U,(cb (show true=(((((decide (y1.No<0)||decide (1048576<y1.No))||(decide (0<(i1:Int))&&decide (y1.No<=(nthI l ((i1:Int)-1)).No)))||(!(fB y1.At)))||(!(fB y1.Known)))||((gf y1.Policy) != 0))from by rw[c2,c3,c4,c5]<;>rfl)),trivial⟩)))
    have c5p:=of_decide_eq_false c5
    refine qB [24] U (tf 25 U U (rj 0 ty3 U U U) (tn 26 U (fe Kh (pO h y1.At) U (⟨jn,(qR 27 3 U ?_)⟩))))
    refine du 47 U (λc6=>?_) (λc6=>?_)
    .exact tk 30 U U (qR 31 10 U (aV kr (hk1 _ ⟨U,U,(cb (show true=(((((decide (y1.No<0)||decide (1048576<y1.No))||(decide (0<(i1:Int))&&decide (y1.No<=(nthI l ((i1:Int)-1)).No)))||(!(fB y1.At)))||(!(fB y1.Known)))||((gf y1.Policy) != 0))from by rw[c2,c3,c4,c5,c6]<;>rfl)),trivial⟩)))
    refine qB [30] U (tf 31 U U (rj 0 ty3 U U U) (tn 32 U (fe Kh (pO h y1.Known) U (⟨jn,(qR 33 3 U ?_)⟩))))
    refine du 53 U (λc7=>?_) (λc7=>?_)
    .exact tk 36 U U (qR 37 4 U (aV kr (hk1 _ ⟨U,U,(cb (show true=(((((decide (y1.No<0)||decide (1048576<y1.No))||(decide (0<(i1:Int))&&decide (y1.No<=(nthI l ((i1:Int)-1)).No)))||(!(fB y1.At)))||(!(fB y1.Known)))||((gf y1.Policy) != 0))from by rw[c2,c3,c4,c5,c6,c7]<;>rfl)),trivial⟩)))
    exact tf 36 U U (λ_ _ _=>tx JM U) (tf 37 U U (λ_ _ hj=>jO ty64 U (hj.nth (i:=0) U) U) (tn 38 U (fe call158 (wU _ _ _ ok2.Policy ob) U (⟨jn,(qA [39,40] U (aV kr (hk1 _ ⟨U,U,(cb (show((gf y1.Policy) != 0)=(((((decide (y1.No<0)||decide (1048576<y1.No))||(decide (0<(i1:Int))&&decide (y1.No<=(nthI l ((i1:Int)-1)).No)))||(!(fB y1.At)))||(!(fB y1.Known)))||((gf y1.Policy) != 0))from by rw[c2,c3,c4,c5,c6,c7]<;>rfl)),trivial⟩)))⟩))))
   have c4p:=of_decide_eq_false c4
   refine qD 12 13 U (tf 25 U U (rj 0 ty3 U U U) (tn 26 U (fe Kh (pO h y1.At) U (⟨jn,qR 27 3 U ?_⟩))))
   refine du 47 U (λc8=>?_) (λc8=>?_)
   .exact tk 30 U U (qR 31 10 U (aV kr (hk1 _ ⟨U,U,(cb (show true=(((((decide (y1.No<0)||decide (1048576<y1.No))||(decide (0<(i1:Int))&&decide (y1.No<=(nthI l ((i1:Int)-1)).No)))||(!(fB y1.At)))||(!(fB y1.Known)))||((gf y1.Policy) != 0))from by rw[c2,c3,c4,c8]<;>rfl)),trivial⟩)))
   refine qB [30] U (tf 31 U U (rj 0 ty3 U U U) (tn 32 U (fe Kh (pO h y1.Known) U (⟨jn,(qR 33 3 U ?_)⟩))))
   refine du 53 U (λc9=>?_) (λc9=>?_)
   .exact tk 36 U U (qR 37 4 U (aV kr (hk1 _ ⟨U,U,(cb (show true=(((((decide (y1.No<0)||decide (1048576<y1.No))||(decide (0<(i1:Int))&&decide (y1.No<=(nthI l ((i1:Int)-1)).No)))||(!(fB y1.At)))||(!(fB y1.Known)))||((gf y1.Policy) != 0))from by rw[c2,c3,c4,c8,c9]<;>rfl)),trivial⟩)))
   exact tf 36 U U (λ_ _ _=>tx JM U) (tf 37 U U (λ_ _ hj=>jO ty64 U (hj.nth (i:=0) U) U) (tn 38 U (fe call158 (wU _ _ _ ok2.Policy ob) U (⟨jn,(qA [39,40] U (aV kr (hk1 _ ⟨U,U,(cb (show((gf y1.Policy) != 0)=(((((decide (y1.No<0)||decide (1048576<y1.No))||(decide (0<(i1:Int))&&decide (y1.No<=(nthI l ((i1:Int)-1)).No)))||(!(fB y1.At)))||(!(fB y1.Known)))||((gf y1.Policy) != 0))from by rw[c2,c3,c4,c8,c9]<;>rfl)),trivial⟩)))⟩))))
  refine ae hs6 U (λc10 hs7=>?_) (λc10 hs8=>?_)
  .exact sr (an (nretP [I 200] (ci hs7)))
  exact aN (qT 3 U (oi i1 U (an (bz (L':=[]) js (ag1 hs8)))))
 rintro i1 hd1 ga hx e
 exact qK 6 [] U (fO ga U (qO 3 U (hx _ rd)))
theorem ud(h:HF)(t:Int)  : Ret prog 223 [I t] h (.bool (lx t)):=by
 refine sT func223 U ntmps223 U λX hM hX hF=>?_
 have hs0:lx t=lx t:=rfl
 refine qT 9 U (bj 3 [5,6,7,8] 5 8 (decide (t<1099511627776)) U (λc1 hk1=>?_) (λe=>?_))
 .exact av (qO 2 U (hk1 _ U))
 exact an (nretP [.bool (decide (0<=t)&&decide (t<1099511627776))] (cs hs0))
theorem ua(h:HF)(l:List Int)(eP:Option Addr)(eO:Nat)(limit:Int)(hl:SlC qC h eP eO l):Ret prog 251 [.slice eP l.length eO,I limit] h (.bool (eH l limit)):=by
 refine sT func251 U ntmps251 U λX hM hX hF=>?_
 have hs0:eH l limit=eH l limit:=rfl
 refine qT 9 U ?_
 refine lp0 l (λi=>[(0,.slice eP l.length eO),(1,I limit),(5,I (i:Int))]) ([]) (λs1 i=>(eH.L1 l limit (eH.K1 l)) s1 i) hl.1.1 hs0 ?_ ?_ ?_
 .rintro i1 fp hs1 e
  exact qK 7 [] U (nretP [.bool (decide ((l.length:Int)<=16))] (cs hs1))
 .rintro i1 y1 rz1 hd1 dj aY er gr hs3 hx1 ag1 e
  refine qK 6 [] U (tO dj U (qO 6 U ?_))
  refine oo [(0,.slice eP l.length eO),(1,I limit),(5,I (i1:Int)),(40,.bool ((decide (y1<0)||decide (limit<=y1))||(decide (0<(i1:Int))&&decide (y1<=(nthI l ((i1:Int)-1))))))] (λe=>?_) (λhk1=>?_)
  rotate_left
  .refine eM ([]) mixed kr jn (λem _=>?_)
   refine qA [0,1] U (eS 2 (enc:=λy=>[I y]) em jn ei dY ty3 hl.1 (nthZ aY) (fq aY) U U U U kr (λq3 A3=>tf 3 U U (rh ty3 A3 U) (qA [4,5] U ?_)))
   refine du 17 U (λc1=>?_) (λc1=>?_)
   .have c1p:=of_decide_eq_true c1
    exact tk 6 U U (qR 7 22 U (aV kr (hk1 _ ⟨U,U,U,(cb (show true=((decide (y1<0)||decide (limit<=y1))||(decide (0<(i1:Int))&&decide (y1<=(nthI l ((i1:Int)-1)))))from by rw[c1]<;>rfl)),trivial⟩)))
   have c1p:=of_decide_eq_false c1
   refine qA [6,7] U (eS 8 (enc:=λy=>[I y]) em jn ei dY ty3 hl.1 (nthZ aY) (fq aY) U U U U kr (λq4 A4=>tf 9 U U (rh ty3 A4 U) (qR 10 4 U ?_)))
   refine du 25 U (λc2=>?_) (λc2=>?_)
   .have c2p:=of_decide_eq_true c2
    exact tk 14 U U (qR 15 14 U (aV kr (hk1 _ ⟨U,U,U,(cb (show true=((decide (y1<0)||decide (limit<=y1))||(decide (0<(i1:Int))&&decide (y1<=(nthI l ((i1:Int)-1)))))from by rw[c1,c2]<;>rfl)),trivial⟩)))
   have c2p:=of_decide_eq_false c2
   refine qR 14 3 U ?_
   refine du 28 U (λc3=>?_) (λc3=>?_)
   .have c3p:=of_decide_eq_true c3
    refine qA [17,18] U (eS 19 (enc:=λy=>[I y]) em jn ei dY ty3 hl.1 (nthZ aY) (fq aY) U U U U kr (λq5 A5=>tf 20 U U (rh ty3 A5 U) (qA [21,22] U (tf 23 U U (λ_ _ _=>nl (v':=I ((i1:Int)-1)) U (jv ob)) ?_))))
    have ho1:0<=(((i1:Int)-1):Int)/\(((i1:Int)-1):Int)<((l).length:Int):=ob
    exact eS 24 (enc:=λy=>[I y]) em jn ei dY ty3 hl.1 ho1 (cN ho1) U U U U kr (λq6 A6=>tf 25 U U (rh ty3 A6 U) (qR 26 3 U (aV kr (hk1 _ ⟨U,U,U,(cb (show decide (y1<=(nthI l ((i1:Int)-1)))=((decide (y1<0)||decide (limit<=y1))||(decide (0<(i1:Int))&&decide (y1<=(nthI l ((i1:Int)-1)))))from by rw[c1,c2,c3]<;>rfl)),trivial⟩))))
   have c3p:=of_decide_eq_false c3
   exact tk 17 U U (qR 18 11 U (aV kr (hk1 _ ⟨U,U,U,(cb (show false=((decide (y1<0)||decide (limit<=y1))||(decide (0<(i1:Int))&&decide (y1<=(nthI l ((i1:Int)-1)))))from by rw[c1,c2,c3]<;>rfl)),trivial⟩)))
  refine ae hs3 U (λc4 hs4=>?_) (λc4 hs5=>?_)
  .exact sr (an (nretP [.bool false] (cs hs4)))
  exact aN (qT 3 U (oi i1 U (an (ag1 hs5))))
 rintro i1 hd1 ga hx e
 exact qK 6 [] U (fO ga U (qO 3 U (hx _ rd)))
theorem EA(h:HF)(d:Document)(DE:ke)(hd:Document.ok h d DE):Ret prog 159 [.agg (Document.cells d DE).toArray] h (.bool (iq d)):=by
 refine sT func159 U ntmps159 U λX hM hX hF=>?_
 have hs0:iq d=iq d:=rfl
 refine sr (cy (λb1=>qL 9 [0] U (bV 4 [6,7,8,9,10] 6 10 (decide (4096<=d.No)) U (λc1 hk1=>?_) (λe=>?_))))
 .exact qL 4 [0] U (hk1 _ U)
 refine av (bV 5 [11,12,13,14,15,16] 11 16 (!(lx d.At)) U (λc2 hk2=>?_) (λe=>?_))
 .exact qL 2 [0] U (ai call223 (ud h d.At) U (qO 2 U (hk2 _ U)))
 refine av (bV 4 [17,18,19,20,21] 17 21 (decide (d.Kind<0)) U (λc3 hk3=>?_) (λe=>?_))
 .exact qL 4 [0] U (hk3 _ U)
 refine av (bV 4 [22,23,24,25,26] 22 26 (decide (16<=d.Kind)) U (λc4 hk4=>?_) (λe=>?_))
 .exact qL 4 [0] U (hk4 _ U)
 refine av (bV 4 [27,28,29,30,31] 27 31 (decide (d.Value<0)) U (λc5 hk5=>?_) (λe=>?_))
 .exact qL 4 [0] U (hk5 _ U)
 refine av (bV 4 [32,33,34,35,36] 32 36 (decide (1099511627776<d.Value)) U (λc6 hk6=>?_) (λe=>?_))
 .exact qL 4 [0] U (hk6 _ U)
 refine aJ (ae hs0 U (λc7 hs1=>?_) (λc7 hs2=>?_))
 .exact sr (an (nretP [.bool false] (cs hs1)))
 refine qK 7 [0] U (bj 6 [40,41,42,43,44,45,46] 40 46 (decide (d.From<d.Until)) U (λc8 hk7=>?_) (λe=>?_))
 .exact qL 6 [0,0] U (hk7 _ U)
 refine av (bj 4 [47,48,49,50,51] 47 51 (decide (d.Until<=1099511627776)) U (λc9 hk8=>?_) (λe=>?_))
 .exact qL 4 [0] U (hk8 _ U)
 refine av (bj 4 [52,53,54,55,56] 52 56 (eH d.Parties 1048577) U (λc10 hk9=>?_) (λe=>?_))
 .exact qL 2 [0] U (ai call251 (ua _ _ _ _ 1048577 hd.Parties) U (eN U (hk9 _ U)))
 refine av (bj 6 [57,58,59,60,61,62,63] 57 63 (eH d.Revokes d.No) U (λc11 hk10=>?_) (λe=>?_))
 .exact qL 4 [0,0] U (ai call251 (ua _ _ _ _ d.No hd.Revokes) U (eN U (hk10 _ U)))
 refine av (bj 6 [64,65,66,67,68,69,70] 64 70 (eH d.Needs d.No) U (λc12 hk11=>?_) (λe=>?_))
 .exact qL 4 [0,0] U (ai call251 (ua _ _ _ _ d.No hd.Needs) U (eN U (hk11 _ U)))
 exact an (nretP [.bool (((((decide (0<=d.From)&&decide (d.From<d.Until))&&decide (d.Until<=1099511627776))&&(eH d.Parties 1048577))&&(eH d.Revokes d.No))&&(eH d.Needs d.No))] (cs hs2))
theorem yU(h:HF)(l:List Document)(eP:Option Addr)(eO:Nat)(no:Int)(hl:SlC vR h eP eO l):Ret prog 231 [.slice eP l.length eO,I no] h (I (fV l no)):=by
 refine sT func231 U ntmps231 U λX hM hX hF=>?_
 have hs0:fV l no=fV l no:=rfl
 refine qT 9 U ?_
 refine lp0 l (λi=>[(0,.slice eP l.length eO),(1,I no),(5,I (i:Int))]) ([]) (λs1 i=>(fV.L1 no (fV.K1)) s1 i) hl.1.1 hs0 ?_ ?_ ?_
 .rintro i1 fp hs1 e
  exact sr (an (nretP [I (-1)] (ci hs1)))
 .rintro i1 y1 rz1 hd1 dj aY er gr hs3 hx1 ag1 e
  refine qK 6 [] U (tO dj U (qO 9 U (aC (iR nA ty51 hl.1 aY U U U (λ_ _ _ e=>e) (λq2 r2 A2 ok2=>qL 1 [] U (dh ty3 A2 U (qO 3 U (ae hs3 U (λc2 hs4=>?_) (λc2 hs5=>?_)))))))))
  .exact sr (qO 3 U (nretP [I (i1:Int)] (ci hs4)))
  exact aN (qT 3 U (oi i1 U (an (ag1 hs5))))
 rintro i1 hd1 ga hx e
 exact qK 6 [] U (fO ga U (qO 3 U (hx _ rd)))
theorem oT(h:HF)(l:List Document)(eP:Option Addr)(eO:Nat)(nos:List Int)(Oj:Option Addr)(Oi:Nat)(hl:SlC vR h eP eO l)(hnos:SlC qC h Oj Oi nos):Ret prog 160 [.slice eP l.length eO,.slice Oj nos.length Oi] h (.bool (dw l nos)):=by
 refine sT func160 U ntmps160 U λX hM hX hF=>?_
 have hs0:dw l nos=dw l nos:=rfl
 refine qT 9 U ?_
 refine lp0 nos (λi=>[(0,.slice eP l.length eO),(1,.slice Oj nos.length Oi),(5,I (i:Int))]) ([]) (λs1 i=>(dw.L1 l (dw.K1)) s1) hnos.1.1 hs0 ?_ ?_ ?_
 .rintro i1 fp hs1 e
  exact sr (an (nretP [.bool true] (cs hs1)))
 .rintro i1 y1 rz1 hd1 dj aY er gr hs3 hx1 ag1 e
  refine qK 6 [] U (tO dj U (qO 10 U (aC (iF (λy=>[I y]) dY ty3 hnos.1 aY U U U (λq2 A2=>dh ty3 A2 U (ai call231 (yU _ _ _ _ y1 hl) U (qO 2 U (ae hs3 U (λc2 hs4=>?_) (λc2 hs5=>?_)))))))))
  .have c2p:=of_decide_eq_true c2
   exact sr (an (nretP [.bool false] (cs hs4)))
  have c2p:=of_decide_eq_false c2
  exact aN (qT 3 U (oi i1 U (an (ag1 hs5))))
 rintro i1 hd1 ga hx e
 exact qK 6 [] U (fO ga U (qO 3 U (hx _ rd)))
theorem wY(h:HF)(l:List Document)(eP:Option Addr)(eO:Nat)(hl:SlC vR h eP eO l):Ret prog 77 [.slice eP l.length eO] h (I (dP l)):=by
 refine sT func77 U ntmps77 U λX hM hX hF=>?_
 have hs0:dP l=dP l:=rfl
 refine qK 11 [] U (ae hs0 U (λc1 hs1=>?_) (λc1 hs2=>?_))
 .have c1p:=of_decide_eq_true c1
  exact sr (an (nretP [I 2] (ci hs1)))
 have c1p:=of_decide_eq_false c1
 refine qT 6 U ?_
 refine lp0 l (λi=>[(0,.slice eP l.length eO),(3,I (i:Int))]) ([]) (λs1 i=>(dP.L1 l (dP.K1)) s1 i) hl.1.1 hs2 ?_ ?_ ?_
 .rintro i1 fp hs4 e
  exact sr (an (nretP [I 0] (ci hs4)))
 .rintro i1 y1 rz1 hd1 dj aY er gr hs6 hx1 ag1 e
  refine qK 6 [] U (tO dj U (qO 6 U ?_))
  refine oo [(0,.slice eP l.length eO),(3,I (i1:Int)),(56,.bool ((((!(iq y1))||(decide (0<(i1:Int))&&decide (y1.No<=(nthI l ((i1:Int)-1)).No)))||(!(dw l y1.Revokes)))||(!(dw l y1.Needs))))] (λe=>?_) (λhk1=>?_)
  rotate_left
  .refine eM ([]) mixed kr jn (λem _=>?_)
   refine qA [0,1] U (jt 2 em jn nA ty51 hl.1 (nthZ aY) (fq aY) U U U U kr (λq4 cs4 A4 ln4 rr4=>?_))
   obtain⟨r4,rfl,ok4⟩:=rr4
   refine tf 3 U U (λ_ _ hj=>lM ty51 (A4.mono hj.1) U U) (tn 4 U (fe call159 (EA _ _ _ ok4) U (⟨jn,qA [5,6] U ?_⟩)))
   refine du 19 U (λc2=>?_) (λc2=>?_)
   .exact tk 7 U U (qR 8 36 U (aV kr (hk1 _ ⟨U,U,(cb (show true=((((!(iq y1))||(decide (0<(i1:Int))&&decide (y1.No<=(nthI l ((i1:Int)-1)).No)))||(!(dw l y1.Revokes)))||(!(dw l y1.Needs)))from by rw[c2]<;>rfl)),trivial⟩)))
   refine qR 7 3 U ?_
   refine du 22 U (λc3=>?_) (λc3=>?_)
   .have c3p:=of_decide_eq_true c3
    refine qA [10,11] U (jt 12 em jn nA ty51 hl.1 (nthZ aY) (fq aY) U U U U kr (λq5 cs5 A5 ln5 rr5=>?_))
    obtain⟨r5,rfl,ok5⟩:=rr5
    refine qB [13] U (tf 14 U U (rh ty3 A5 U) (qA [15,16] U (tf 17 U U (λ_ _ _=>nl (v':=I ((i1:Int)-1)) U (jv ob)) ?_)))
    have ho2:0<=(((i1:Int)-1):Int)/\(((i1:Int)-1):Int)<((l).length:Int):=ob
    refine jt 18 em jn nA ty51 hl.1 ho2 (cN ho2) U U U U kr (λq6 cs6 A6 ln6 rr6=>?_)
    obtain⟨r6,rfl,ok6⟩:=rr6
    refine qB [19] U (tf 20 U U (rh ty3 A6 U) (qR 21 4 U ?_))
    refine du 37 U (λc4=>?_) (λc4=>?_)
    .have c4p:=of_decide_eq_true c4
     exact tk 25 U U (qR 26 18 U (aV kr (hk1 _ ⟨U,U,(cb (show true=((((!(iq y1))||(decide (0<(i1:Int))&&decide (y1.No<=(nthI l ((i1:Int)-1)).No)))||(!(dw l y1.Revokes)))||(!(dw l y1.Needs)))from by rw[c2,c3,c4]<;>rfl)),trivial⟩)))
    have c4p:=of_decide_eq_false c4
    refine qR 25 3 U (jt 28 em jn nA ty51 hl.1 (nthZ aY) (fq aY) U U U U kr (λq7 cs7 A7 ln7 rr7=>?_))
    obtain⟨r7,rfl,ok7⟩:=rr7
    refine qB [29] U (tf 30 U U (rH 7 ty31 A7 U U) (tn 31 U (fe Kg (oT _ _ _ _ _ _ _ hl ok7.Revokes) U (⟨jn,(qR 32 3 U ?_)⟩))))
    refine du 47 U (λc5=>?_) (λc5=>?_)
    .exact tk 35 U U (qR 36 8 U (aV kr (hk1 _ ⟨U,U,(cb (show true=((((!(iq y1))||(decide (0<(i1:Int))&&decide (y1.No<=(nthI l ((i1:Int)-1)).No)))||(!(dw l y1.Revokes)))||(!(dw l y1.Needs)))from by rw[c2,c3,c4,c5]<;>rfl)),trivial⟩)))
    refine qR 35 3 U (jt 38 em jn nA ty51 hl.1 (nthZ aY) (fq aY) U U U U kr (λq8 cs8 A8 ln8 rr8=>?_))
    obtain⟨r8,rfl,ok8⟩:=rr8
    exact tf 39 U U (λ_ _ _=>tx Ib U) (tf 40 U U (rH 8 ty31 A8 U U) (tn 41 U (fe Kg (oT _ _ _ _ _ _ _ hl ok8.Needs) U (⟨jn,(qA [42,43] U (aV kr (hk1 _ ⟨U,U,(cb (show(!(dw l y1.Needs))=((((!(iq y1))||(decide (0<(i1:Int))&&decide (y1.No<=(nthI l ((i1:Int)-1)).No)))||(!(dw l y1.Revokes)))||(!(dw l y1.Needs)))from by rw[c2,c3,c4,c5]<;>rfl)),trivial⟩)))⟩))))
   have c3p:=of_decide_eq_false c3
   refine qR 10 18 U (jt 28 em jn nA ty51 hl.1 (nthZ aY) (fq aY) U U U U kr (λq9 cs9 A9 ln9 rr9=>?_))
   obtain⟨r9,rfl,ok9⟩:=rr9
   refine qB [29] U (tf 30 U U (rH 7 ty31 A9 U U) (tn 31 U (fe Kg (oT _ _ _ _ _ _ _ hl ok9.Revokes) U (⟨jn,(qR 32 3 U ?_)⟩))))
   refine du 47 U (λc6=>?_) (λc6=>?_)
   .exact tk 35 U U (qR 36 8 U (aV kr (hk1 _ ⟨U,U,(cb (show true=((((!(iq y1))||(decide (0<(i1:Int))&&decide (y1.No<=(nthI l ((i1:Int)-1)).No)))||(!(dw l y1.Revokes)))||(!(dw l y1.Needs)))from by rw[c2,c3,c6]<;>rfl)),trivial⟩)))
   refine qR 35 3 U (jt 38 em jn nA ty51 hl.1 (nthZ aY) (fq aY) U U U U kr (λq10 cs10 A10 ln10 rr10=>?_))
   obtain⟨r10,rfl,ok10⟩:=rr10
   exact tf 39 U U (λ_ _ _=>tx Ib U) (tf 40 U U (rH 8 ty31 A10 U U) (tn 41 U (fe Kg (oT _ _ _ _ _ _ _ hl ok10.Needs) U (⟨jn,(qA [42,43] U (aV kr (hk1 _ ⟨U,U,(cb (show(!(dw l y1.Needs))=((((!(iq y1))||(decide (0<(i1:Int))&&decide (y1.No<=(nthI l ((i1:Int)-1)).No)))||(!(dw l y1.Revokes)))||(!(dw l y1.Needs)))from by rw[c2,c3,c6]<;>rfl)),trivial⟩)))⟩))))
  refine ae hs6 U (λc7 hs7=>?_) (λc7 hs8=>?_)
  .exact sr (an (nretP [I 170] (ci hs7)))
  exact aN (qT 3 U (oi i1 U (an (ag1 hs8))))
 rintro i1 hd1 ga hx e
 exact qK 6 [] U (fO ga U (qO 3 U (hx _ rd)))
theorem lD(h:HF)(ep:Int)(most:Int)  : Ret prog 252 [I ep,I most] h (.bool (gk ep most)):=by
 refine sT func252 U ntmps252 U λX hM hX hF=>?_
 have hs0:gk ep most=gk ep most:=rfl
 refine qT 9 U (bj 4 [7,8,9,10,11] 7 11 (decide (ep<=most)) U (λc1 hk1=>?_) (λe=>?_))
 .exact av (qO 3 U (hk1 _ U))
 exact an (nretP [.bool (decide (0<=ep)&&decide (ep<=most))] (cs hs0))
theorem yR(h:HF)(ep:Int)  : Ret prog 253 [I ep] h (.bool (nh ep)):=by
 refine sT func253 U ntmps253 U λX hM hX hF=>?_
 have hs0:nh ep=nh ep:=rfl
 exact sr (qO 5 U (ai Io (lD h ep 1099511627775) U (an (nretP [.bool (gk ep 1099511627775)] (cs hs0)))))
theorem HI(h:HF)(ep:Int)  : Ret prog 254 [I ep] h (.bool (rO ep)):=by
 refine sT func254 U ntmps254 U λX hM hX hF=>?_
 have hs0:rO ep=rO ep:=rfl
 exact sr (qO 5 U (ai Io (lD h ep 4095) U (an (nretP [.bool (gk ep 4095)] (cs hs0)))))
theorem Et(h:HF)(x:Approval)  : Ret prog 161 [.agg (zD x).toArray] h (.bool (ji x)):=by
 refine sT func161 U ntmps161 U λX hM hX hF=>?_
 have hs0:ji x=ji x:=rfl
 refine sr (cy (λb1=>qL 7 [0] U (ai Io (lD h x.No 1048576) U (qO 2 U (bV 5 [7,8,9,10,11,12] 7 12 (!(nh x.At)) U (λc1 hk1=>?_) (λe=>?_))))))
 .exact qL 2 [0] U (ai call253 (yR h x.At) U (qO 2 U (hk1 _ U)))
 refine av (bV 5 [13,14,15,16,17,18] 13 18 (!(nh x.Known)) U (λc2 hk2=>?_) (λe=>?_))
 .exact qL 2 [0] U (ai call253 (yR h x.Known) U (qO 2 U (hk2 _ U)))
 refine av (bV 5 [19,20,21,22,23,24] 19 24 (!(rO x.Doc)) U (λc3 hk3=>?_) (λe=>?_))
 .exact qL 2 [0] U (ai call254 (HI h x.Doc) U (qO 2 U (hk3 _ U)))
 refine aJ (ae hs0 U (λc4 hs1=>?_) (λc4 hs2=>?_))
 .exact sr (an (nretP [.bool false] (cs hs1)))
 refine qK 5 [0] U (ai Io (lD h x.By 63) U (av (bj 4 [28,29,30,31,32] 28 32 (gk x.For 63) U (λc5 hk4=>?_) (λe=>?_))))
 .exact qL 2 [0] U (ai Io (lD h x.For 63) U (eN U (hk4 _ U)))
 refine av (bj 4 [33,34,35,36,37] 33 37 (gk x.Office 31) U (λc6 hk5=>?_) (λe=>?_))
 .exact qL 2 [0] U (ai Io (lD h x.Office 31) U (eN U (hk5 _ U)))
 exact an (nretP [.bool (((gk x.By 63)&&(gk x.For 63))&&(gk x.Office 31))] (cs hs2))
theorem Eu(h:HF)(l:List Approval)(eP:Option Addr)(eO:Nat)(hl:SlC Approval.rp h eP eO l):Ret prog 78 [.slice eP l.length eO] h (I (gV l)):=by
 refine sT func78 U ntmps78 U λX hM hX hF=>?_
 have hs0:gV l=gV l:=rfl
 refine qK 11 [] U (ae hs0 U (λc1 hs1=>?_) (λc1 hs2=>?_))
 .have c1p:=of_decide_eq_true c1
  exact sr (an (nretP [I 2] (ci hs1)))
 have c1p:=of_decide_eq_false c1
 refine qT 6 U ?_
 refine lp0 l (λi=>[(0,.slice eP l.length eO),(3,I (i:Int))]) ([]) (λs1 i=>(gV.L1 l (gV.K1)) s1 i) hl.1.1 hs2 ?_ ?_ ?_
 .rintro i1 fp hs4 e
  exact sr (an (nretP [I 0] (ci hs4)))
 .rintro i1 y1 rz1 hd1 dj aY er gr hs6 hx1 ag1 e
  refine qK 6 [] U (tO dj U (qO 6 U ?_))
  refine oo [(0,.slice eP l.length eO),(3,I (i1:Int)),(36,.bool ((!(ji y1))||(decide (0<(i1:Int))&&decide (y1.No<=(nthI l ((i1:Int)-1)).No))))] (λe=>?_) (λhk1=>?_)
  rotate_left
  .refine eM ([]) mixed kr jn (λem _=>?_)
   refine qA [0,1] U (eS 2 (enc:=zD) em jn ei zk ty81 hl.1 (nthZ aY) (fq aY) U U U U kr (λq4 A4=>tf 3 U U (λ_ _ hj=>lM ty81 (A4.mono hj.1) U U) (tn 4 U (fe call161 (Et h y1) U (⟨jn,qA [5,6] U ?_⟩)))))
   refine du 19 U (λc2=>?_) (λc2=>?_)
   .exact tk 7 U U (qR 8 16 U (aV kr (hk1 _ ⟨U,U,(cb (show true=((!(ji y1))||(decide (0<(i1:Int))&&decide (y1.No<=(nthI l ((i1:Int)-1)).No)))from by rw[c2]<;>rfl)),trivial⟩)))
   refine qR 7 3 U ?_
   refine du 22 U (λc3=>?_) (λc3=>?_)
   .have c3p:=of_decide_eq_true c3
    refine qA [10,11] U (tf 12 U U (λ_ _ _=>nl (v':=I ((i1:Int)-1)) U (jv ob)) ?_)
    have ho2:0<=(((i1:Int)-1):Int)/\(((i1:Int)-1):Int)<((l).length:Int):=ob
    exact eS 13 (enc:=zD) em jn ei zk ty81 hl.1 ho2 (cN ho2) U U U U kr (λq5 A5=>qB [14] U (tf 15 U U (rh ty3 A5 U) (qA [16,17] U (eS 18 (enc:=zD) em jn ei zk ty81 hl.1 (nthZ aY) (fq aY) U U U U kr (λq6 A6=>qB [19] U (tf 20 U U (rh ty3 A6 U) (qR 21 3 U (aV kr (hk1 _ ⟨U,U,(cb (show decide (y1.No<=(nthI l ((i1:Int)-1)).No)=((!(ji y1))||(decide (0<(i1:Int))&&decide (y1.No<=(nthI l ((i1:Int)-1)).No)))from by rw[c2,c3]<;>rfl)),trivial⟩)))))))))
   have c3p:=of_decide_eq_false c3
   exact tk 10 U U (qR 11 13 U (aV kr (hk1 _ ⟨U,U,(cb (show false=((!(ji y1))||(decide (0<(i1:Int))&&decide (y1.No<=(nthI l ((i1:Int)-1)).No)))from by rw[c2,c3]<;>rfl)),trivial⟩)))
  refine ae hs6 U (λc4 hs7=>?_) (λc4 hs8=>?_)
  .exact sr (an (nretP [I 280] (ci hs7)))
  exact aN (qT 3 U (oi i1 U (an (ag1 hs8))))
 rintro i1 hd1 ga hx e
 exact qK 6 [] U (fO ga U (qO 3 U (hx _ rd)))
theorem Ep(h:HF)(aL:Register)(fx:dD)(iW:zL h aL fx)(hsm:smR aL):Ret prog 14 [.agg (xL aL fx).toArray] h (I (kk aL)):=by
 refine sT func14 U ntmps14 U λX hM hX hF=>?_
 have hs0:kk aL=kk aL:=rfl
 have hsv:=hsm.vers
 refine sr (cy (λb1=>qL 7 [0] U (ai call72 (EF _ _ _ _ iW.Appoints) U (qO 2 U (bV 5 [7,8,9,10,11,12] 7 12 ((gX aL.Deputies) != 0) U (λc1 hk1=>?_) (λe=>?_))))))
 .exact qL 2 [0] U (ai call73 (ED _ _ _ _ iW.Deputies) U (qO 2 U (hk1 _ U)))
 refine av (bV 5 [13,14,15,16,17,18] 13 18 ((gU aL.Interests) != 0) U (λc2 hk2=>?_) (λe=>?_))
 .exact qL 2 [0] U (ai call74 (Es _ _ _ _ iW.Interests) U (qO 2 U (hk2 _ U)))
 refine av (bV 5 [19,20,21,22,23,24] 19 24 ((fy aL.Budgets) != 0) U (λc3 hk3=>?_) (λe=>?_))
 .exact qL 2 [0] U (ai call75 (wV _ _ _ _ iW.Budgets) U (qO 2 U (hk3 _ U)))
 refine aJ (ae hs0 U (λc4 hs1=>?_) (λc4 hs2=>?_))
 .exact sr (an (nretP [I 300] (ci hs1)))
 refine qK 6 [0] U (ai call76 (AR _ _ _ _ iW.Versions ob) U (qO 2 U (bV 5 [29,30,31,32,33,34] 29 34 ((dP aL.Docs) != 0) U (λc5 hk4=>?_) (λe=>?_))))
 .exact qL 2 [0] U (ai call77 (wY _ _ _ _ iW.Docs) U (qO 2 U (hk4 _ U)))
 refine av (bV 5 [35,36,37,38,39,40] 35 40 ((gV aL.Approvals) != 0) U (λc6 hk5=>?_) (λe=>?_))
 .exact qL 2 [0] U (ai call78 (Eu _ _ _ _ iW.Approvals) U (qO 2 U (hk5 _ U)))
 refine aJ (ae hs2 U (λc7 hs4=>?_) (λc7 hs5=>?_))
 .exact sr (an (nretP [I 300] (ci hs4)))
 exact aN (qT 4 U (nretP [I 0] (ci hs5)))
theorem vI(h:HF)(ep:Int)  : Ret prog 82 [I ep] h (.bool (lK ep)):=by
 refine sT func82 U ntmps82 U λX hM hX hF=>?_
 have hs0:lK ep=lK ep:=rfl
 refine qT 9 U (bj 3 [5,6,7,8] 5 8 (decide (ep<1099511627776)) U (λc1 hk1=>?_) (λe=>?_))
 .exact av (qO 2 U (hk1 _ U))
 exact an (nretP [.bool (decide (0<=ep)&&decide (ep<1099511627776))] (cs hs0))
theorem AT(h:HF)(l:List Document)(eP:Option Addr)(eO:Nat)(signed:List Int)(bZ:Option Addr)(bY:Nat)(hl:SlC vR h eP eO l)(hsigned:SlC qC h bZ bY signed):Ret prog 222 [.slice eP l.length eO,.slice bZ signed.length bY] h (.bool (eC l signed)):=by
 refine sT func222 U ntmps222 U λX hM hX hF=>?_
 have hs0:eC l signed=eC l signed:=rfl
 refine qT 9 U ?_
 refine lp0 signed (λi=>[(0,.slice eP l.length eO),(1,.slice bZ signed.length bY),(5,I (i:Int))]) ([]) (λs1 i=>(eC.L1 (eC.K1 l signed)) s1) hsigned.1.1 hs0 ?_ ?_ ?_
 .rintro i1 fp hs1 e
  exact qK 9 [] U (nretP [.bool ((signed.length:Int)==(l.length:Int))] (cs hs1))
 .rintro i1 y1 rz1 hd1 dj aY er gr hs3 hx1 ag1 e
  refine qK 6 [] U (tO dj U (qO 9 U (aC (iF (λy=>[I y]) dY ty3 hsigned.1 aY U U U (λq3 A3=>dh ty3 A3 U (qO 2 U (bj 7 [17,18,19,20,21,22,23,24] 17 24 (!(lx y1)) U (λc1 hk1=>?_) (λe=>?_))))))))
  .exact av (av (aC (iF (λy=>[I y]) dY ty3 hsigned.1 aY U U U (λq4 A4=>dh ty3 A4 U (ai call223 (ud h y1) U (qO 2 U (hk1 _ U)))))))
  refine aJ (ae hs3 U (λc2 hs4=>?_) (λc2 hs5=>?_))
  .exact sr (an (nretP [.bool false] (cs hs4)))
  exact aN (qT 3 U (oi i1 U (an (ag1 hs5))))
 rintro i1 hd1 ga hx e
 exact qK 6 [] U (fO ga U (qO 3 U (hx _ rd)))
theorem uV(h:HF)(l:List Int)(eP:Option Addr)(eO:Nat)(BY:Int)(hl:SlC qC h eP eO l):Ret prog 334 [.slice eP l.length eO,I BY] h (.bool (fQ l BY)):=by
 refine sT func334 U ntmps334 U λX hM hX hF=>?_
 have hs0:fQ l BY=fQ l BY:=rfl
 refine qT 9 U ?_
 refine lp0 l (λi=>[(0,.slice eP l.length eO),(1,I BY),(5,I (i:Int))]) ([]) (λs1 i=>(fQ.L1 BY (fQ.K1)) s1) hl.1.1 hs0 ?_ ?_ ?_
 .rintro i1 fp hs1 e
  exact sr (an (nretP [.bool false] (cs hs1)))
 .rintro i1 y1 rz1 hd1 dj aY er gr hs3 hx1 ag1 e
  refine qK 6 [] U (tO dj U (qO 9 U (aC (iF (λy=>[I y]) dY ty3 hl.1 aY U U U (λq2 A2=>dh ty3 A2 U (qO 3 U (ae hs3 U (λc2 hs4=>?_) (λc2 hs5=>?_))))))))
  .exact sr (an (nretP [.bool true] (cs hs4)))
  exact aN (qT 3 U (oi i1 U (an (ag1 hs5))))
 rintro i1 hd1 ga hx e
 exact qK 6 [] U (fO ga U (qO 3 U (hx _ rd)))
theorem wW(h:HF)(l:List Document)(eP:Option Addr)(eO:Nat)(done:List Int)(Ag:Option Addr)(Af:Nat)(effective:List Bool)(tG:Option Addr)(tE:Nat)(og:Int)(aK:Int)(hl:SlC vR h eP eO l)(hdone:SlC qC h Ag Af done)(heffective:SlC aAT h tG tE effective)(hdn:∀x∈done,0<=x/\x<(l.length:Int))(hef:effective.length=l.length):Ret prog 295 [.slice eP l.length eO,.slice Ag done.length Af,.slice tG effective.length tE,I og,I aK] h (.tuple #[I ((eL l done effective og aK).1),I ((eL l done effective og aK).2)]):=by
 refine sT func295 U ntmps295 U λX hM hX hF=>?_
 have hs0:eL l done effective og aK=eL l done effective og aK:=rfl
 refine qT 10 U (ai call334 (uV _ _ _ _ og hdone) U (qO 2 U (ae hs0 U (λc1 hs1=>?_) (λc1 hs2=>?_))))
 .refine qT 5 U ?_
  have hs3:eL l done effective og aK=(1,(-1)):=hs1
  exact nretP [I 1,I (-1)] (congrArg (λr:(Int×Int)=>(.tuple #[I r.1,I r.2]:Value)) hs3.symm)
 refine qT 6 U ?_
 have ho1:0<=(og:Int)/\(og:Int)<((effective).length:Int):=(by first|omega|exact E4 hdn hef ob)
 refine aC (na (enc:=λy=>[.bool y]) ei rW ty4 heffective.1 ho1 (cN ho1) U U U (λq1 A1=>dh ty4 A1 U (qO 2 U (ae hs2 U (λc2 hs4=>?_) (λc2 hs5=>?_)))))
 .refine qT 5 U ?_
  have hs6:eL l done effective og aK=(4,(-1)):=hs4
  exact nretP [I 4,I (-1)] (congrArg (λr:(Int×Int)=>(.tuple #[I r.1,I r.2]:Value)) hs6.symm)
 refine qT 6 U ?_
 refine lp0 l (λi=>[(0,.slice eP l.length eO),(1,.slice Ag done.length Af),(2,.slice tG effective.length tE),(3,I og),(4,I aK),(12,I (i:Int))]) ([]) (λs1 i=>(eL.L1 l done effective og (eL.K1 l og aK)) s1 i) hl.1.1 hs5 ?_ ?_ ?_
 .rintro i1 fp hs7 e
  refine qT 6 U ?_
  have ho3:0<=(og:Int)/\(og:Int)<((l).length:Int):=(by first|omega|exact E4 hdn rfl ob)
  refine aC (si nA ty51 hl.1 ho3 (cN ho3) U U U (λ_ _ _ e=>e) (λq3 r1 A3 ok1=>qL 1 [] U (jb (j:=4) ty3 A3 U U (qO 2 U (ae hs7 U (λc3 hs8=>?_) (λc3 hs9=>?_))))))
  .have c3p:=of_decide_eq_true c3
   refine qT 5 U ?_
   have hs10:eL l done effective og aK=(2,(-1)):=hs8
   exact nretP [I 2,I (-1)] (congrArg (λr:(Int×Int)=>(.tuple #[I r.1,I r.2]:Value)) hs10.symm)
  have c3p:=of_decide_eq_false c3
  refine qT 7 U ?_
  have ho4:0<=(og:Int)/\(og:Int)<((l).length:Int):=(by first|omega|exact E4 hdn rfl ob)
  refine aC (si nA ty51 hl.1 ho4 (cN ho4) U U U (λ_ _ _ e=>e) (λq4 r2 A4 ok2=>qL 1 [] U (jb (j:=5) ty3 A4 U U (qO 2 U (ae hs9 U (λc4 hs11=>?_) (λc4 hs12=>?_))))))
  .have c4p:=of_decide_eq_true c4
   refine qT 5 U ?_
   have hs13:eL l done effective og aK=(3,(-1)):=hs11
   exact nretP [I 3,I (-1)] (congrArg (λr:(Int×Int)=>(.tuple #[I r.1,I r.2]:Value)) hs13.symm)
  have c4p:=of_decide_eq_false c4
  refine qT 6 U ?_
  have hs14:eL l done effective og aK=(0,(-1)):=hs12
  exact nretP [I 0,I (-1)] (congrArg (λr:(Int×Int)=>(.tuple #[I r.1,I r.2]:Value)) hs14.symm)
 .rintro i1 y1 rz1 hd1 dj aY er gr hs15 hx1 ag1 e
  refine qK 6 [] U (tO dj U (qO 6 U ?_))
  refine oo [(0,.slice eP l.length eO),(1,.slice Ag done.length Af),(2,.slice tG effective.length tE),(3,I og),(4,I aK),(12,I (i1:Int)),(49,.bool (((fQ done (i1:Int))&&(nthI effective (i1:Int)))&&(fQ y1.Revokes ((nthI l og).No))))] (λe=>?_) (λhk1=>?_)
  rotate_left
  .refine eM ([]) mixed kr jn (λem _=>?_)
   refine qA [0,1] U (tn 2 U (fe call334 (uV _ _ _ _ (i1:Int) hdone) U (⟨jn,(tm 3 U ?_)⟩)))
   refine du 31 U (λc5=>?_) (λc5=>?_)
   .refine qA [4,5] U ?_
    have ho5:0<=((i1:Int):Int)/\((i1:Int):Int)<((effective).length:Int):=(by first|omega|exact E4 hdn hef ob)
    refine eS 6 (enc:=λy=>[.bool y]) em jn ei rW ty4 heffective.1 ho5 (cN ho5) U U U U kr (λq5 A5=>tf 7 U U (rh ty4 A5 U) (qA [8,9] U ?_))
    refine du 37 U (λc6=>?_) (λc6=>?_)
    .refine qA [10,11] U (jt 12 em jn nA ty51 hl.1 (nthZ aY) (fq aY) U U U U kr (λq6 cs3 A6 ln3 rr3=>?_))
     obtain⟨r3,rfl,ok3⟩:=rr3
     refine qB [13] U (tf 14 U U (rH 7 ty31 A6 U U) (qA [15,16] U ?_))
     have ho6:0<=(og:Int)/\(og:Int)<((l).length:Int):=(by first|omega|exact E4 hdn rfl ob)
     refine jt 17 em jn nA ty51 hl.1 ho6 (cN ho6) U U U U kr (λq7 cs4 A7 ln4 rr4=>?_)
     obtain⟨r4,rfl,ok4⟩:=rr4
     exact tf 18 U U (λ_ _ _=>tx PV U) (tf 19 U U (rh ty3 A7 U) (tn 20 U (fe call334 (uV _ _ _ _ ((nthI l og).No) ok3.Revokes) U (⟨jn,(qA [21] U (aV kr (hk1 _ ⟨U,U,U,U,U,U,(cb (show(fQ y1.Revokes ((nthI l og).No))=(((fQ done (i1:Int))&&(nthI effective (i1:Int)))&&(fQ y1.Revokes ((nthI l og).No)))from by rw[c5,c6]<;>rfl)),trivial⟩)))⟩))))
    exact tk 10 U U (qR 11 11 U (aV kr (hk1 _ ⟨U,U,U,U,U,U,(cb (show false=(((fQ done (i1:Int))&&(nthI effective (i1:Int)))&&(fQ y1.Revokes ((nthI l og).No)))from by rw[c5,c6]<;>rfl)),trivial⟩)))
   exact tk 4 U U (qR 5 17 U (aV kr (hk1 _ ⟨U,U,U,U,U,U,(cb (show false=(((fQ done (i1:Int))&&(nthI effective (i1:Int)))&&(fQ y1.Revokes ((nthI l og).No)))from by rw[c5]<;>rfl)),trivial⟩)))
  refine ae hs15 U (λc7 hs16=>?_) (λc7 hs17=>?_)
  .refine el (eM ([]) mixed kr jn (λmq _=>qA [0,1] U (jt 2 mq jn nA ty51 hl.1 (nthZ aY) (fq aY) U U U U kr (λq8 cs5 A8 ln5 rr5=>?_))))
   obtain⟨r5,rfl,ok5⟩:=rr5
   refine qB [3] U (tf 4 U U (rh ty3 A8 U) (qA [5,6] U (aV kr ?_)))
   have hs18:eL l done effective og aK=(5,y1.No):=hs16
   exact nretP [I 5,I y1.No] (congrArg (λr:(Int×Int)=>(.tuple #[I r.1,I r.2]:Value)) hs18.symm)
  exact aN (qT 3 U (oi i1 U (an (ag1 hs17))))
 rintro i1 hd1 ga hx e
 exact qK 6 [] U (fO ga U (qO 3 U (hx _ rd)))
theorem wX(h:HF)(signed:List Int)(bZ:Option Addr)(bY:Nat)(ig:Int)(hsigned:SlC qC h bZ bY signed)(hsn:signed.length<=2000000):j1 prog 296 [.slice bZ signed.length bY,I ig] h (λv h'=>∃(rb0:Option Addr)(rc0:Nat),v=.slice rb0 (cd signed ig).length rc0/\SlC qC h' rb0 rc0 (cd signed ig)):=by
 refine sT func296 U ntmps296 U λX hM hX hF=>?_
 have hs0:cd signed ig=cd signed ig:=rfl
 refine qT 6 U (aC (pI dY ty3 (λb1=>qO 7 U (eR 0 U hM (λh1 hle1 hb1=>?_)))))
 have sl1:SlC qC h1 (some ⟨b1,0,none⟩) 0 ([]):=bI.slB0 (T:=3) (fz:=(0,0)) ((show bI qC h [] ([])from rfl).mono vG hle1) hb1
 refine lp2 signed (λi w=>[(0,.slice bZ signed.length bY),(1,I ig),(5,.slice w.2.1 w.1.length w.2.2.1),(6,I (i:Int))]) (λw=>w.2.2.2) (λw=>[]) (λi w=>SlC qC w.2.2.2 w.2.1 w.2.2.1 w.1/\w.1.length<=i/\jM h1 w.2.2.2/\(∀x∈w.1,0<=x/\x<(signed.length:Int))) (λs1 i w=>(cd.L1 signed ig (cd.K1)) s1 i w.1) ([],(some ⟨b1,0,none⟩),0,h1) ((hsigned.mono vG hle1).1.1) hs0 ⟨sl1,(by first|omega|(simp only[jA,zA,jB];omega)|(simp only[jA,zA,jB,List.length_take,List.length_drop];first|omega|(dsimp only;omega))),lf,(λx hx=>(List.not_mem_nil hx).elim)⟩ ?_ ?_ ?_
 .rintro i1 ⟨eW,vZ,vY,hh1⟩ fp hs1 ⟨qs,Fl,hl1,u1_0⟩ e
  try dsimp only at qs Fl hl1 u1_0
  refine qT 5 U ?_
  have hs2:cd signed ig=eW:=hs1
  exact nretH [.slice vZ eW.length vY] ⟨vZ,vY,congrArg (λr:List Int=>(.slice vZ r.length vY:Value)) hs2.symm,(by rw[hs2];exact qs)⟩
 .rintro i1 ⟨eW,vZ,vY,hh1⟩ y1 rz1 hd1 dj aY er gr hs3 ⟨qs,Fl,hl1,u1_0⟩ hx1 ag1 e
  try dsimp only at qs Fl hl1 u1_0
  refine qK 6 [] U (tO dj U (qO 10 U (aC (iF (λy=>[I y]) dY ty3 (hsigned.mono vG (hle1.t hl1)).1 aY U U U (λq3 A3=>dh ty3 A3 U (qO 2 U (bV 7 [20,21,22,23,24,25,26,27] 20 27 (decide (ig<y1)) U (λc1 hk1=>?_) (λe=>?_))))))))
  .exact av (av (aC (iF (λy=>[I y]) dY ty3 (hsigned.mono vG (hle1.t hl1)).1 aY U U U (λq4 A4=>dh ty3 A4 U (qO 3 U (hk1 _ U))))))
  refine aJ (ae hs3 U (λc2 hs4=>?_) (λc2 hs5=>?_))
  .exact lI U (qT 2 U (oi i1 U (an (ag1 (eW,vZ,vY,hh1) hs4 ⟨qs,(by first|omega|(simp only[jA,zA,jB];omega)|(simp only[jA,zA,jB,List.length_take,List.length_drop];first|omega|(dsimp only;omega))),hl1,(by first|assumption|exact AY u1_0 ob)⟩))))
  refine qK 8 [] U ?_
  refine iL (ι:=Nat) (λi=>[(0,.slice bZ signed.length bY),(1,I ig),(5,.slice vZ eW.length vY),(6,I (i1:Int)),(7,I (((eW.length-i):Nat):Int))]) (λi=>hh1) (λi=>[]) (λi=>i<=(kG eW.length).length/\cd signed ig=((λzi3=>(cd.L1 signed ig (cd.K1) rz1 (i1+1) (((eW.take (((((eW.length-zi3):Nat):Int):Int)).toNat)++[(i1:Int)])++(eW.drop (((((eW.length-zi3):Nat):Int):Int)).toNat)))) i)) ?_ (λhx3=>?_)
  .rintro i3 ⟨xn,hs6⟩ e
   try dsimp only at xn
   refine eM ([]) mixed kr jn (λem _=>?_)
   refine qA [1,2] U (GI 3 em jn dY ty3 qs.1 qs.2 ob U U U U kr (λsb3 sc3 sl5=>qA [5,8,9] U (Mz 10 em jn dY ty3 qs.1 qs.2 ob U U U U kr (λsb4 sc4 sl6=>?_))))
   refine nT 0 6 kr U U ?_ ?_ 
   .refine pI dY ty3 (λb4=>⟨jn,?_⟩)
    refine nT 4 6 kr U U ?_ ?_ 
    .refine dK aBI ([]) ([]) (λG=>G) ap (λ_=>ap) dY ty3 zc3 U bytes3 (dG.lit (show bI qC hh1 [] ([])from U) U) U U (mu sl5.1) lo lo (λob4 oc4 G4 gr4=>⟨jn,(tn 6 U (bK (cells:=[I (i1:Int)]) dY ty3 zc3 U U kr (λb5=>?_)))⟩)
     let z3:Nat×Obj:=(b5,O [I (i1:Int)] 3)
     exact⟨jn,(tn 7 U (dK aBI ([z3]) ([]) (λG=>[z3]++G) ap (λ_=>ap) dY ty3 zc3 U bytes3 gr4 U U (fd 0 U (cE (i1:Int) U U)) lo lo (λob5 oc5 G5 gr5=>⟨jn,(tn 11 U (dK aBI ([z3]) ([]) (λG=>[z3]++G) ap (λ_=>ap) dY ty3 zc3 U bytes3 gr5 U U (mu sl6.1) lo lo (λob6 oc6 G6 gr6=>⟨jn,(qA [12] U (aV kr (qT 3 U (oi i1 U (an (fF vG ([z3]) G6 ([]) ap hM gr6 (λh3 hle3 sl7=>bz (L':=[]) js (ag1 ((((eW.take (((((eW.length-i3):Nat):Int):Int)).toNat)++[(i1:Int)])++(eW.drop (((((eW.length-i3):Nat):Int):Int)).toNat)),ob6,oc6,h3) hs6 ⟨sl7,(by first|omega|(simp only[jA,zA,jB];omega)|(simp only[jA,zA,jB,List.length_take,List.length_drop];first|omega|(dsimp only;omega))),(hl1.t hle3),(by first|assumption|exact AY u1_0 ob)⟩))))))))⟩)))⟩)))⟩
    refine bK (cells:=[I (i1:Int)]) dY ty3 zc3 U U kr (λb6=>⟨jn,(tn 4 U ?_)⟩)
    let z1:Nat×Obj:=(b6,O [I (i1:Int)] 3)
    exact dK aBI ([z1]) ([]) (λG=>[z1]++G) ap (λ_=>ap) dY ty3 zc3 U bytes3 (dG.lit (show bI qC hh1 [] ([])from U) U) U U (mu sl5.1) lo lo (λob7 oc7 G7 gr7=>⟨jn,(tn 7 U (dK aBI ([z1]) ([]) (λG=>[z1]++G) ap (λ_=>ap) dY ty3 zc3 U bytes3 gr7 U U (fd 0 U (cE (i1:Int) U U)) lo lo (λob8 oc8 G8 gr8=>⟨jn,(tn 11 U (dK aBI ([z1]) ([]) (λG=>[z1]++G) ap (λ_=>ap) dY ty3 zc3 U bytes3 gr8 U U (mu sl6.1) lo lo (λob9 oc9 G9 gr9=>⟨jn,(qA [12] U (aV kr (qT 3 U (oi i1 U (an (fF vG ([z1]) G9 ([]) ap hM gr9 (λh4 hle4 sl8=>bz (L':=[]) js (ag1 ((((eW.take (((((eW.length-i3):Nat):Int):Int)).toNat)++[(i1:Int)])++(eW.drop (((((eW.length-i3):Nat):Int):Int)).toNat)),ob9,oc9,h4) hs6 ⟨sl8,(by first|omega|(simp only[jA,zA,jB];omega)|(simp only[jA,zA,jB,List.length_take,List.length_drop];first|omega|(dsimp only;omega))),(hl1.t hle4),(by first|assumption|exact AY u1_0 ob)⟩))))))))⟩)))⟩)))⟩)
   refine bK (cells:=[I (i1:Int)]) dY ty3 zc3 U U kr (λb7=>⟨jn,(tn 0 U ?_)⟩)
   let z2:Nat×Obj:=(b7,O [I (i1:Int)] 3)
   exact pI dY ty3 (λb8=>⟨jn,(tn 4 U (dK aBI ([]) ([z2]) (λG=>[z2]++G) ap (λ_=>ap) dY ty3 zc3 U bytes3 (dG.lit (show bI qC hh1 [] ([])from U) U) U U (mu sl5.1) lo lo (λob10 oc10 G10 gr10=>⟨jn,(tn 7 U (dK aBI ([z2]) ([]) (λG=>[z2]++G) ap (λ_=>ap) dY ty3 zc3 U bytes3 gr10 U U (fd 0 U (cE (i1:Int) U U)) lo lo (λob11 oc11 G11 gr11=>⟨jn,(tn 11 U (dK aBI ([z2]) ([]) (λG=>[z2]++G) ap (λ_=>ap) dY ty3 zc3 U bytes3 gr11 U U (mu sl6.1) lo lo (λob12 oc12 G12 gr12=>⟨jn,(qA [12] U (aV kr (qT 3 U (oi i1 U (an (fF vG ([z2]) G12 ([]) ap hM gr12 (λh5 hle5 sl9=>bz (L':=[]) js (ag1 ((((eW.take (((((eW.length-i3):Nat):Int):Int)).toNat)++[(i1:Int)])++(eW.drop (((((eW.length-i3):Nat):Int):Int)).toNat)),ob12,oc12,h5) hs6 ⟨sl9,(by first|omega|(simp only[jA,zA,jB];omega)|(simp only[jA,zA,jB,List.length_take,List.length_drop];first|omega|(dsimp only;omega))),(hl1.t hle5),(by first|assumption|exact AY u1_0 ob)⟩))))))))⟩)))⟩)))⟩)))⟩)
  refine kg (ι:=Nat×List Nat) (λi=>[(0,.slice bZ signed.length bY),(1,I ig),(5,.slice vZ eW.length vY),(6,I (i1:Int)),(7,I (((eW.length-i.1):Nat):Int))]) (λi=>hh1) (λi=>[]) (λi=>(kG eW.length).drop i.1=i.2/\i.1<=(kG eW.length).length/\cd signed ig=((cd.L3 signed y1 eW (λzi3=>(cd.L1 signed ig (cd.K1) rz1 (i1+1) (((eW.take (((((eW.length-zi3):Nat):Int):Int)).toNat)++[(i1:Int)])++(eW.drop (((((eW.length-zi3):Nat):Int):Int)).toNat))))) i.2 i.1)) (λi=>i.2.length) (0,(kG eW.length)) ⟨U,U,U,U,(congrArg (xC .i64) (show(eW.length:Int)=(((eW.length-0):Nat):Int)from by omega)),trivial⟩ sw ⟨U,jL _,hs5⟩ ?_
  rintro⟨i3,s3⟩ ⟨hd3,E3,hs7⟩ ag2 e
  try dsimp only at hd3 E3
  rcases s3 with _|⟨y3,rz3⟩
  .have Ov:decide (0<(((eW.length-i3):Nat):Int))=false:=decide_eq_false (by have q_:=of_decide_eq_false (mR hd3);rw[List.length_range]at q_;omega)
   exact el (el (eM ([]) mixed kr jn (λmq _=>tm 0 U (tf 1 U U (λ_ _ _=>nl (v':=.bool false) U (cb Ov)) (qR 2 15 U (aV kr (qT 2 U (hx3 i3 _ ⟨E3,hs7⟩ rd))))))))
  have Cl:decide (0<(((eW.length-i3):Nat):Int))=true:=decide_eq_true (by have q_:=io hd3;rw[List.length_range]at q_;omega)
  have C5:i3<eW.length:=by simpa using io hd3
  refine qT 2 U (eM ([]) mixed kr jn (λJw _=>tm 0 U (tf 1 U U (λ_ _ _=>nl (v':=.bool true) U (cb Cl)) (qR 2 4 U (tf 6 U U (λ_ _ _=>nl (v':=I (((eW.length-(i3+1)):Nat):Int)) U (Ih C5 ob)) ?_)))))
  have ho3:0<=((((eW.length-(i3+1)):Nat):Int):Int)/\((((eW.length-(i3+1)):Nat):Int):Int)<((eW).length:Int):=ob
  refine eS 7 (enc:=λy=>[I y]) Jw jn ei dY ty3 qs.1 ho3 (cN ho3) U U U U kr (λq8 A8=>tf 8 U U (rh ty3 A8 U) ?_)
  have ho4:0<=((nthI eW (((eW.length-(i3+1)):Nat):Int)):Int)/\((nthI eW (((eW.length-(i3+1)):Nat):Int)):Int)<((signed).length:Int):=(by first|omega|exact PB u1_0 ob _)
  refine eS 9 (enc:=λy=>[I y]) Jw jn ei dY ty3 (hsigned.mono vG (hle1.t hl1)).1 ho4 (cN ho4) U U U U kr (λq9 A9=>tf 10 U U (rh ty3 A9 U) (qA [11,12] U (eS 13 (enc:=λy=>[I y]) Jw jn ei dY ty3 (hsigned.mono vG (hle1.t hl1)).1 (nthZ aY) (fq aY) U U U U kr (λq10 A10=>tf 14 U U (rh ty3 A10 U) (qA [15,16] U (aV kr (ae hs7 U (λc4 hs9=>?_) (λc4 hs10=>?_))))))))
  .have c4p:=of_decide_eq_true c4
   exact aN (qT 3 U (iQ (v':=I (((eW.length-(i3+1)):Nat):Int)) U (Ih C5 ob) (qO 3 U (ag2 ((i3+1),rz3) _ (Nat.lt_succ_self _) ⟨kx hd3,io hd3,hs9⟩ rd))))
  have c4p:=of_decide_eq_false c4
  exact lI U (hx3 i3 _ ⟨E3,hs10⟩ rd)
 rintro i1 ⟨eW,vZ,vY,hh1⟩ hd1 ga hx e
 exact qK 6 [] U (fO ga U (qO 3 U (hx _ rd)))
theorem EB(h:HF)(l:List Document)(eP:Option Addr)(eO:Nat)(signed:List Int)(bZ:Option Addr)(bY:Nat)(bp:Int)(hl:SlC vR h eP eO l)(hsigned:SlC qC h bZ bY signed)(hsg:signed.length=l.length)(hsn:signed.length<=2000000)(hnd:∀d∈l,d.Needs.length<=16):j1 prog 294 [.slice eP l.length eO,.slice bZ signed.length bY,I bp] h (λv h'=>∃(rb0:Option Addr)(rc0:Nat),v=.slice rb0 (ce l signed bp).length rc0/\SlC qC h' rb0 rc0 (ce l signed bp)):=by
 refine sT func294 U ntmps294 U λX hM hX hF=>?_
 have hs0:ce l signed bp=ce l signed bp:=rfl
 refine qT 8 U (aC (cS call296 (wX _ _ _ _ bp hsigned ob) U (λv1 h1 hle1 hp1=>?_)))
 obtain⟨rb1,rc1,rfl,sl1⟩:=hp1
 refine qL 6 [] U (aC (N0 (R:=aAT) (x0:=false) (m:=l.length) (λG=>G) U U (λ_=>ap) rW zc4 ty4 bytes4 U U ob ob (λb1 G1 gr1=>qO 4 U (aC (pI dY ty3 (λb2=>qO 7 U ?_))))))
 obtain⟨G6,gr6,ge1⟩:∃G:LH,dG qC 3 h1 ([]) (some ⟨b2,0,none⟩) 0 G/\[(b2,O [] 3)]=G:=⟨_,dG.lit (show bI qC h1 [] ([])from rfl) rfl,rfl⟩
 refine cn (L':=([])++([(b2,O [] 3)]++G1)) ap ?_
 rw[ge1]
 refine lH (List.Perm.append_left _ jJ) (cn (L':=G1++G6) ap ?_)
 refine lp4 l (λi w=>[(0,.slice eP l.length eO),(1,.slice bZ signed.length bY),(7,.slice rb1 ((cd signed bp).length) rc1),(8,.slice (some ⟨b1,0,none⟩) ((List.replicate l.length false).length) l.length),(9,.slice w.2.1 w.1.length w.2.2.1),(10,I (i:Int))]) (λ_=>h1) (λw=>G1++(w.2.2.2)) (λi w=>dG qC 3 h1 w.1 w.2.1 w.2.2.1 w.2.2.2/\w.1.length<=0+i/\w.1.length=i) (λi w=>dG qC 3 h1 w.1 w.2.1 w.2.2.1 w.2.2.2/\w.1.length<=0+i/\w.1.length=l.length) (λi g hi h=>⟨h.1,h.2.1,h.2.2.trans hi⟩) (λs1 i w=>(ce.L1 (ce.K1 l signed bp)) s1 w.1) ([],(some ⟨b2,0,none⟩),0,G6) ((hl.mono zH hle1).1.1) hs0 ⟨gr6,lo,U⟩ ?_ ?_ ?_
 .rintro i1 ⟨mL,qp,qo,uD⟩ fp hs1 ⟨ph,xx,u1_0⟩ e
  try dsimp only at ph xx u1_0
  refine qT 5 U ?_
  refine lp2 (cd signed bp) (λi w=>[(0,.slice eP l.length eO),(1,.slice bZ signed.length bY),(7,.slice rb1 ((cd signed bp).length) rc1),(8,.slice w.2.1 w.1.length w.2.2.1),(9,.slice w.2.2.2.2.2.1 w.2.2.2.2.1.length w.2.2.2.2.2.2.1),(11,I (i:Int))]) (λ_=>h1) (λw=>w.2.2.2.1++(w.2.2.2.2.2.2.2)) (λi w=>dG aAT 4 h1 w.1 w.2.1 w.2.2.1 w.2.2.2.1/\dG qC 3 h1 w.2.2.2.2.1 w.2.2.2.2.2.1 w.2.2.2.2.2.2.1 w.2.2.2.2.2.2.2/\w.1.length=l.length/\w.2.2.2.2.1.length=l.length) (λs2 i w=>(ce.L2 l signed bp (ce.K2)) s2 i w.1 w.2.2.2.2.1) ((List.replicate l.length false),(some ⟨b1,0,none⟩),l.length,G1,mL,qp,qo,uD) sl1.1.1 hs1 ⟨gr1,ph,List.length_replicate,ob⟩ ?_ ?_ ?_
  .rintro i2 ⟨kZ,oH,oG,nS,Fe,Hd,Hc,LW⟩ xn hs2 ⟨pd,JC,u2_0,u2_1⟩ e
   try dsimp only at pd JC u2_0 u2_1
   refine qT 5 U (fF vG (nS) LW ([]) ap hM JC (λh2 hle2 sl8=>cn (L':=nS) ap ?_))
   have hs3:ce l signed bp=Fe:=hs2
   exact nretH [.slice Hd Fe.length Hc] ⟨Hd,Hc,congrArg (λr:List Int=>(.slice Hd r.length Hc:Value)) hs3.symm,(by rw[hs3];exact sl8)⟩
  .rintro i2 ⟨kZ,oH,oG,nS,Fe,Hd,Hc,LW⟩ y2 rz2 hd2 xm sH E2 KH hs4 ⟨pd,JC,u2_0,u2_1⟩ hx2 ag1 e
   try dsimp only at pd JC u2_0 u2_1
   have hnl:=LK (P:=λd:Document=>d.Needs.length<=16) hnd (jL _) y2
   refine qK 6 [] U (tO xm U (qO 9 U (aC (iF (λy=>[I y]) dY ty3 sl1.1 sH U U U (λq35 A35=>dh ty3 A35 U (qO 7 U ?_))))))
   have ho40:0<=(y2:Int)/\(y2:Int)<((l).length:Int):=(by first|omega|(have hq:=rQ signed bp _ (fX hd2);omega))
   refine aC (si nA ty51 (hl.mono zH hle1).1 ho40 (cN ho40) U U U (λ_ _ _ e=>e) (λq36 r15 A36 ok15=>qL 1 [] U (jb (j:=8) ty31 A36 U U (qL 1 [] U (iQ (v':=I ((((nthI l y2).Needs.length:Nat):Int)-1)) U (jv ob) (an ?_))))))
   refine iL (ι:=Nat×List Int×Option Addr×Nat×LH) (λi=>[(0,.slice eP l.length eO),(1,.slice bZ signed.length bY),(7,.slice rb1 ((cd signed bp).length) rc1),(8,.slice oH kZ.length oG),(9,.slice i.2.2.1 i.2.1.length i.2.2.2.1),(11,I (i2:Int)),(12,I y2)]) (λi=>h1) (λi=>nS++(i.2.2.2.2)) (λi=>i.1<=(kG ((nthI l y2).Needs.length)).length/\ce l signed bp=((λzg4_9=>(ce.L2 l signed bp (ce.K2) rz2 (i2+1) (kZ.set (y2:Int).toNat (decide ((nthI zg4_9 y2)<0))) zg4_9)) i.2.1)/\dG qC 3 h1 i.2.1 i.2.2.1 i.2.2.2.1 i.2.2.2.2/\i.2.1.length=l.length) ?_ (λhx4=>?_)
   .rintro⟨i4,sZ,E9,E8,Be⟩ ⟨E3,hs5,zb,u4_0⟩ e
    try dsimp only at E3 zb u4_0
    refine qT 5 U ?_
    have ho49:0<=(y2:Int)/\(y2:Int)<((sZ).length:Int):=ob
    have hgz:=dG.yq zb (by omega)
    obtain⟨bk10,hbk10⟩:=hgz
    refine aC (fw (ou (R:=qC) (xs:=sZ) dY ty3 hbk10 ho49 U U U) (aC (fw (EG (R:=qC) (i:=(y2:Int).toNat) (off:=0) ty3 zb hbk10 (cN ho49) (λcs_z hcs=>by rw[show cs_z=[I (nthI sZ y2)]from hcs];rfl) U mh) (LI U ?_))))
    have ho50:0<=(y2:Int)/\(y2:Int)<((kZ).length:Int):=ob
    have hgz:=dG.yq pd (by omega)
    obtain⟨bk11,hbk11⟩:=hgz
    exact aC (fw (ou (R:=aAT) (xs:=kZ) rW ty4 hbk11 ho50 U U U) (aC (AI (R:=aAT) (i:=(y2:Int).toNat) (off:=0) (u:=(nthI kZ y2)) (u':=decide ((nthI sZ y2)<0)) (v:=.bool (decide ((nthI sZ y2)<0))) ([]) nS (Be) ty4 U pd ap hbk11 (cN ho50) (by decide) (λcs_z hcs=>by rw[show cs_z=[.bool (nthI kZ y2)]from hcs];rfl) U U U (λG12 gr12=>il (L':=G12++(Be)) (by first|rfl|simp only[List.length_set,qE,jN,jG,List.append_nil]) (P5 8 (.slice oH ((kZ.set (y2:Int).toNat (decide ((nthI sZ y2)<0))).length) oG) (congrArg (λn_=>Value.slice oH n_ oG) (List.length_set ..).symm) (qO 4 U (oi i2 U (an (ag1 ((kZ.set (y2:Int).toNat (decide ((nthI sZ y2)<0))),oH,oG,G12,sZ,E9,E8,Be) hs5 ⟨gr12,zb,(by first|assumption|(rw[List.length_set];assumption)),(by first|assumption|(rw[List.length_set];assumption))⟩)))))))))
   refine kg (ι:=Nat×List Int×Option Addr×Nat×LH×List Nat) (λi=>[(0,.slice eP l.length eO),(1,.slice bZ signed.length bY),(7,.slice rb1 ((cd signed bp).length) rc1),(8,.slice oH kZ.length oG),(9,.slice i.2.2.1 i.2.1.length i.2.2.2.1),(11,I (i2:Int)),(12,I y2),(13,I ((((((nthI l y2).Needs.length)-i.1):Nat):Int)-1))]) (λi=>h1) (λi=>nS++(i.2.2.2.2.1)) (λi=>(kG ((nthI l y2).Needs.length)).drop i.1=i.2.2.2.2.2/\i.1<=(kG ((nthI l y2).Needs.length)).length/\ce l signed bp=((ce.L4 l signed bp i2 y2 kZ (λzg4_9=>(ce.L2 l signed bp (ce.K2) rz2 (i2+1) (kZ.set (y2:Int).toNat (decide ((nthI zg4_9 y2)<0))) zg4_9))) i.2.2.2.2.2 i.1 i.2.1)/\dG qC 3 h1 i.2.1 i.2.2.1 i.2.2.2.1 i.2.2.2.2.1/\i.2.1.length=l.length) (λi=>i.2.2.2.2.2.length) (0,Fe,Hd,Hc,LW,(kG ((nthI l y2).Needs.length))) ⟨U,U,U,U,U,U,U,(congrArg (xC .i64) (show((((nthI l y2).Needs.length:Nat):Int)-1)=((((((nthI l y2).Needs.length)-0):Nat):Int)-1)from by omega)),trivial⟩ sw ⟨U,jL _,hs4,JC,ob⟩ ?_
   rintro⟨i4,sZ,E9,E8,Be,s4⟩ ⟨hd4,Jx,hs6,zb,u4_0⟩ ag2 e
   try dsimp only at hd4 Jx zb u4_0
   rcases s4 with _|⟨y4,rz4⟩
   .have QG:decide (0<=((((((nthI l y2).Needs.length)-i4):Nat):Int)-1))=false:=decide_eq_false (by have q_:=of_decide_eq_false (mR hd4);rw[List.length_range]at q_;omega)
    exact el (qT 3 U (fO QG U (qO 3 U (hx4 (i4,sZ,E9,E8,Be) _ ⟨Jx,hs6,zb,u4_0⟩ rd))))
   have KG:decide (0<=((((((nthI l y2).Needs.length)-i4):Nat):Int)-1))=true:=decide_eq_true (by have q_:=io hd4;rw[List.length_range]at q_;omega)
   have E1:i4<((nthI l y2).Needs.length):=by simpa using io hd4
   refine qT 4 U (tO KG U (qO 6 U (eM (nS++(Be)) mixed kr jn (λem _=>qR 0 3 U (GI 3 em jn dY ty3 sl1.1 sl1.2 ob U U U U kr (λsb8 sc8 sl10=>qR 4 4 U ?_))))))
   have ho51:0<=(y2:Int)/\(y2:Int)<((l).length:Int):=(by first|omega|(have hq:=rQ signed bp _ (fX hd2);omega))
   refine jt 8 em jn nA ty51 (hl.mono zH hle1).1 ho51 (cN ho51) U U U U kr (λq42 cs18 A42 ln18 rr18=>?_)
   obtain⟨r18,rfl,ok18⟩:=rr18
   refine qB [9] U (tf 10 U U (rH 8 ty31 A42 U U) (tm 11 U ?_))
   have ho52:0<=(((((((nthI l y2).Needs.length)-i4):Nat):Int)-1):Int)/\(((((((nthI l y2).Needs.length)-i4):Nat):Int)-1):Int)<(((nthI l y2).Needs).length:Int):=ob
   refine eS 12 (enc:=λy=>[I y]) em jn ei dY ty3 ok18.Needs.1 ho52 (cN ho52) U U U U kr (λq43 A43=>tf 13 U U (rh ty3 A43 U) (qA [15,16] U ?_))
   have ho53:0<=(y2:Int)/\(y2:Int)<((signed).length:Int):=(by first|omega|(have hq:=rQ signed bp _ (fX hd2);omega))
   refine eS 17 (enc:=λy=>[I y]) em jn ei dY ty3 (hsigned.mono vG hle1).1 ho53 (cN ho53) U U U U kr (λq44 A44=>tf 18 U U (rh ty3 A44 U) (tn 14 U (fe call231 (yU _ _ _ _ (nthI ((nthI l y2).Needs) ((((((nthI l y2).Needs.length)-i4):Nat):Int)-1)) (hl.mono zH hle1)) U (⟨jn,tn 19 U (Eg ([]) nS (Be) call295 Rp.nM pd ap (λhq1 hqle1 hqsl=>wW hq1 l eP eO ((cd signed bp).take (((i2:Int):Int)).toNat) sb8 sc8 kZ oH oG (fV l (nthI ((nthI l y2).Needs) ((((((nthI l y2).Needs.length)-i4):Nat):Int)-1))) (nthI signed y2) (hl.mono zH (hle1.t hqle1)) (sl10.mono vG hqle1) hqsl (λx hx=>by have hq:=rQ signed bp x (List.mem_of_mem_take hx);omega) ob) U (⟨jn,(qR 20 5 U (aV kr (qT 5 U (ae hs6 U (λc15 hs8=>?_) (λc15 hs9=>?_)))))⟩))⟩))))
   .refine qT 5 U ?_
    have ho54:0<=(y2:Int)/\(y2:Int)<((l).length:Int):=(by first|omega|(have hq:=rQ signed bp _ (fX hd2);omega))
    refine aC (si nA ty51 (hl.mono zH hle1).1 ho54 (cN ho54) U U U (λ_ _ _ e=>e) (λq45 r19 A45 ok19=>qL 1 [] U (jb (j:=8) ty31 A45 U U (av ?_))))
    have ho55:0<=(((((((nthI l y2).Needs.length)-i4):Nat):Int)-1):Int)/\(((((((nthI l y2).Needs.length)-i4):Nat):Int)-1):Int)<(((nthI l y2).Needs).length:Int):=ob
    refine aC (na (enc:=λy=>[I y]) ei dY ty3 ok19.Needs.1 ho55 (cN ho55) U U U (λq46 A46=>dh ty3 A46 U ?_))
    have ho56:0<=(y2:Int)/\(y2:Int)<((sZ).length:Int):=ob
    have hgz:=dG.yq zb (by omega)
    obtain⟨bk12,hbk12⟩:=hgz
    exact aC (fw (ou (R:=qC) (xs:=sZ) dY ty3 hbk12 ho56 U U U) (aC (AI (R:=qC) (i:=(y2:Int).toNat) (off:=0) (u:=(nthI sZ y2)) (u':=(nthI ((nthI l y2).Needs) ((((((nthI l y2).Needs.length)-i4):Nat):Int)-1))) (v:=I (nthI ((nthI l y2).Needs) ((((((nthI l y2).Needs.length)-i4):Nat):Int)-1))) (nS) Be ([]) ty3 U zb ap hbk12 (cN ho56) (by decide) (λcs_z hcs=>by rw[show cs_z=[I (nthI sZ y2)]from hcs];rfl) U U U (λG13 gr13=>il (L':=nS++G13) (by first|rfl|simp only[List.length_set,qE,jN,jG,List.append_nil]) (P5 9 (.slice E9 ((sZ.set (y2:Int).toNat (nthI ((nthI l y2).Needs) ((((((nthI l y2).Needs.length)-i4):Nat):Int)-1))).length) E8) (congrArg (λn_=>Value.slice E9 n_ E8) (List.length_set ..).symm) (qO 4 U (iQ (v':=I ((((((nthI l y2).Needs.length)-(i4+1)):Nat):Int)-1)) U (Mh E1 ob) (an (ag2 ((i4+1),(sZ.set (y2:Int).toNat (nthI ((nthI l y2).Needs) ((((((nthI l y2).Needs.length)-i4):Nat):Int)-1))),E9,E8,G13,rz4) _ (Nat.lt_succ_self _) ⟨kx hd4,io hd4,hs8,gr13,(by first|assumption|(rw[List.length_set];assumption))⟩ rd)))))))))
   exact aN (qT 3 U (iQ (v':=I ((((((nthI l y2).Needs.length)-(i4+1)):Nat):Int)-1)) U (Mh E1 ob) (an (ag2 ((i4+1),sZ,E9,E8,Be,rz4) _ (Nat.lt_succ_self _) ⟨kx hd4,io hd4,hs9,zb,(by first|assumption|(rw[List.length_set];assumption))⟩ rd))))
  rintro i2 ⟨kZ,oH,oG,nS,Fe,Hd,Hc,LW⟩ hd2 Ow hx e
  exact qK 6 [] U (fO Ow U (qO 3 U (hx _ rd)))
 .rintro i1 ⟨mL,qp,qo,uD⟩ y1 rz1 hd1 dj aY er gr hs10 ⟨ph,xx,u1_0⟩ hx1 ag3 e
  try dsimp only at ph xx u1_0
  exact qK 6 [] U (tO dj U (qO 7 U (aC (bK (cells:=[I (-1)]) dY ty3 zc3 U U kr (λb4=>aC (dK aBI ([(b4,O [I (-1)] 3)]++G1) ([]) (λG=>[(b4,O [I (-1)] 3)]++(G1++G)) ap (λ_=>ap) dY ty3 zc3 U bytes3 ph U U (fd 0 U (cE (-1) U U)) lo lo (λob2 oc2 G14 gr14=>qO 5 U (oi i1 U (an (bz (L':=G1++G14) js (ag3 ((mL++[(-1)]),ob2,oc2,G14) hs10 ⟨gr14,lo,lo⟩)))))))))))
 rintro i1 ⟨mL,qp,qo,uD⟩ hd1 ga hx e
 exact qK 6 [] U (fO ga U (qO 3 U (hx _ rd)))
theorem Ez(h:HF)(l:List Document)(eP:Option Addr)(eO:Nat)(signed:List Int)(bZ:Option Addr)(bY:Nat)(Ap:Int)(dl:Int)(hl:SlC vR h eP eO l)(hsigned:SlC qC h bZ bY signed)(hsg:signed.length=l.length)(hsn:signed.length<=2000000)(hnd:∀d∈l,d.Needs.length<=16)(hi:0<=Ap/\Ap<(l.length:Int)):Ret prog 224 [.slice eP l.length eO,.slice bZ signed.length bY,I Ap,I dl] h (.tuple #[I ((iY l signed Ap dl).1),I ((iY l signed Ap dl).2)]):=by
 refine sT func224 U ntmps224 U λX hM hX hF=>?_
 have hs0:iY l signed Ap dl=iY l signed Ap dl:=rfl
 have hll:=M9 l signed dl hsg
 refine qT 10 U (aC (cS call294 (EB _ _ _ _ _ _ _ dl hl hsigned ob ob ob) U (λv1 h1 hle1 hp1=>?_)))
 obtain⟨rb1,rc1,rfl,sl1⟩:=hp1
 refine qO 4 U (aC (pI rW ty4 (λb1=>qO 7 U ?_)))
 obtain⟨G2,gr2,ge1⟩:∃G:LH,dG aAT 4 h1 ([]) (some ⟨b1,0,none⟩) 0 G/\[(b1,O [] 4)]=G:=⟨_,dG.lit (show bI aAT h1 [] ([])from rfl) rfl,rfl⟩
 refine cn (L':=([])++([(b1,O [] 4)]++([]))) ap ?_
 rw[ge1]
 refine lH (List.Perm.append_left _ jJ) (cn (L':=G2) ap ?_)
 refine lp4 l (λi w=>[(0,.slice eP l.length eO),(1,.slice bZ signed.length bY),(2,I Ap),(3,I dl),(10,.slice rb1 ((ce l signed dl).length) rc1),(11,.slice w.2.1 w.1.length w.2.2.1),(12,I (i:Int))]) (λ_=>h1) (λw=>w.2.2.2) (λi w=>dG aAT 4 h1 w.1 w.2.1 w.2.2.1 w.2.2.2/\w.1.length<=0+i/\w.1.length=i) (λi w=>dG aAT 4 h1 w.1 w.2.1 w.2.2.1 w.2.2.2/\w.1.length<=0+i/\w.1.length=l.length) (λi g hi h=>⟨h.1,h.2.1,h.2.2.trans hi⟩) (λs1 i w=>(iY.L1 l signed dl (iY.K1 l signed Ap dl)) s1 i w.1) ([],(some ⟨b1,0,none⟩),0,G2) ((hl.mono zH hle1).1.1) hs0 ⟨gr2,lo,U⟩ ?_ ?_ ?_
 .rintro i1 ⟨lm,OO,ON,KR⟩ fp hs1 ⟨Fo,KQ,u1_0⟩ e
  try dsimp only at Fo KQ u1_0
  refine qT 5 U (aC (cS call296 (wX _ _ _ _ dl (hsigned.mono vG hle1) ob) U (λv3 h4 hle4 hp3=>?_)))
  obtain⟨rb3,rc3,rfl,sl4⟩:=hp3
  refine qO 3 U (m7 Rp.nM ([]) KR ([]) ap hM (Fo.mono Rp.nM hle4) (λh5 hle5 sl5=>ai call295 (wW _ _ _ _ _ _ _ _ _ _ Ap dl (hl.mono zH ((hle1.t hle4).t hle5)) (sl4.mono vG hle5) sl5 (λx hx=>by have hq:=rQ signed dl x hx;omega) ob) U (qO 12 U (ae hs1 U (λc2 hs2=>?_) (λc2 hs3=>?_)))))
  .refine qT 3 U ?_
   have ho3:0<=(Ap:Int)/\(Ap:Int)<(((ce l signed dl)).length:Int):=ob
   refine aC (na (enc:=λy=>[I y]) ei dY ty3 (sl1.mono vG (hle4.t hle5)).1 ho3 (cN ho3) U U U (λq3 A3=>dh ty3 A3 U (qO 9 U ?_)))
   have hs4:iY l signed Ap dl=((eL l (cd signed dl) lm Ap dl).1,(nthI (ce l signed dl) Ap)):=hs2
   exact nretP [I ((eL l (cd signed dl) lm Ap dl).1),I (nthI (ce l signed dl) Ap)] (congrArg (λr:(Int×Int)=>(.tuple #[I r.1,I r.2]:Value)) hs4.symm)
  refine qT 8 U ?_
  have hs5:iY l signed Ap dl=((eL l (cd signed dl) lm Ap dl).1,(eL l (cd signed dl) lm Ap dl).2):=hs3
  exact nretP [I ((eL l (cd signed dl) lm Ap dl).1),I ((eL l (cd signed dl) lm Ap dl).2)] (congrArg (λr:(Int×Int)=>(.tuple #[I r.1,I r.2]:Value)) hs5.symm)
 .rintro i1 ⟨lm,OO,ON,KR⟩ y1 rz1 hd1 dj aY er gr hs6 ⟨Fo,KQ,u1_0⟩ hx1 ag1 e
  try dsimp only at Fo KQ u1_0
  refine qK 6 [] U (tO dj U (qO 9 U ?_))
  have ho4:0<=((i1:Int):Int)/\((i1:Int):Int)<(((ce l signed dl)).length:Int):=ob
  refine aC (na (enc:=λy=>[I y]) ei dY ty3 sl1.1 ho4 (cN ho4) U U U (λq4 A4=>dh ty3 A4 U (LI U (aC (bK (cells:=[.bool (decide ((nthI (ce l signed dl) (i1:Int))<0))]) rW ty4 zc4 U U kr (λb3=>?_))))))
  let z1:Nat×Obj:=(b3,O [.bool (decide ((nthI (ce l signed dl) (i1:Int))<0))] 4)
  exact aC (dK Rp.Ct ([z1]) ([]) (λG=>[z1]++G) ap (λ_=>ap) rW ty4 zc4 U bytes4 Fo U U (fd 0 U (cE (decide ((nthI (ce l signed dl) (i1:Int))<0)) U U)) lo lo (λob2 oc2 G3 gr3=>qO 5 U (oi i1 U (an (bz (L':=G3) js (ag1 ((lm++[decide ((nthI (ce l signed dl) (i1:Int))<0)]),ob2,oc2,G3) hs6 ⟨gr3,lo,lo⟩))))))
 rintro i1 ⟨lm,OO,ON,KR⟩ hd1 ga hx e
 exact qK 6 [] U (fO ga U (qO 3 U (hx _ rd)))
theorem BO(h:HF)(l:List Document)(eP:Option Addr)(eO:Nat)(signed:List Int)(bZ:Option Addr)(bY:Nat)(bp:Int)(hl:SlC vR h eP eO l)(hsigned:SlC qC h bZ bY signed)(hsn:l.length<=2000000):j1 prog 137 [.slice eP l.length eO,.slice bZ signed.length bY,I bp] h (λv h'=>∃(rb0:Option Addr)(rc0:Nat),v=.tuple #[.slice rb0 ((fj l signed bp).1).length rc0,I ((fj l signed bp).2)]/\SlC qC h' rb0 rc0 ((fj l signed bp).1)):=by
 refine sT func137 U ntmps137 U λX hM hX hF=>?_
 have hs0:fj l signed bp=fj l signed bp:=rfl
 refine qT 8 U (ai call77 (wY _ _ _ _ hl) U (qO 8 U (ae hs0 U (λc1 hs1=>?_) (λc1 hs2=>?_))))
 .refine qT 6 U ?_
  have hs3:fj l signed bp=([],(dP l)):=hs1
  exact nretH [.slice none 0 0,I (dP l)] ⟨none,0,congrArg (λr:(List Int×Int)=>(.tuple #[.slice none r.1.length 0,I r.2]:Value)) hs3.symm,(by rw[hs3];exact vE)⟩
 refine qT 6 U (ai call222 (AT _ _ _ _ _ _ _ hl hsigned) U (qO 2 U (bV 4 [22,23,24,25,26] 22 26 (!(lx bp)) U (λc2 hk1=>?_) (λe=>?_))))
 .exact av (ai call223 (ud h bp) U (qO 2 U (hk1 _ U)))
 refine aJ (ae hs2 U (λc3 hs4=>?_) (λc3 hs5=>?_))
 .refine qT 5 U ?_
  have hs6:fj l signed bp=([],1):=hs4
  exact nretH [.slice none 0 0,I 1] ⟨none,0,congrArg (λr:(List Int×Int)=>(.tuple #[.slice none r.1.length 0,I r.2]:Value)) hs6.symm,(by rw[hs6];exact vE)⟩
 refine qT 3 U (aC (pI dY ty3 (λb1=>qO 7 U ?_)))
 obtain⟨G2,gr2,ge1⟩:∃G:LH,dG qC 3 h ([]) (some ⟨b1,0,none⟩) 0 G/\[(b1,O [] 3)]=G:=⟨_,dG.lit (show bI qC h [] ([])from rfl) rfl,rfl⟩
 refine cn (L':=([])++([(b1,O [] 3)]++([]))) ap ?_
 rw[ge1]
 refine lH (List.Perm.append_left _ jJ) (cn (L':=G2) ap ?_)
 refine lp2 l (λi w=>[(0,.slice eP l.length eO),(1,.slice bZ signed.length bY),(2,I bp),(9,.slice w.2.1 w.1.length w.2.2.1),(10,I (i:Int))]) (λ_=>h) (λw=>w.2.2.2) (λi w=>dG qC 3 h w.1 w.2.1 w.2.2.1 w.2.2.2/\w.1.length<=0+i) (λs1 i w=>(fj.L1 l signed bp (fj.K1)) s1 i w.1) ([],(some ⟨b1,0,none⟩),0,G2) hl.1.1 hs5 ⟨gr2,lo⟩ ?_ ?_ ?_
 .rintro i1 ⟨mL,qp,qo,uD⟩ fp hs7 ⟨ph,xx⟩ e
  try dsimp only at ph xx
  refine qT 6 U (fF vG ([]) uD ([]) ap hM ph (λh2 hle2 sl2=>?_))
  have hs8:fj l signed bp=(mL,0):=hs7
  exact nretH [.slice qp mL.length qo,I 0] ⟨qp,qo,congrArg (λr:(List Int×Int)=>(.tuple #[.slice qp r.1.length qo,I r.2]:Value)) hs8.symm,(by rw[hs8];exact sl2)⟩
 .rintro i1 ⟨mL,qp,qo,uD⟩ y1 rz1 hd1 dj aY er gr hs9 ⟨ph,xx⟩ hx1 ag1 e
  try dsimp only at ph xx
  refine qK 6 [] U (tO dj U (qO 11 U (ai call224 (Ez _ _ _ _ _ _ _ (i1:Int) bp hl hsigned (vo (by simp only[decide_eq_true_eq,decide_eq_false_iff_not,xB,xD,zE,Bool.not_eq_false',Bool.and_eq_false_iff,Bool.or_eq_false_iff,beq_iff_eq,beq_eq_false_iff_ne,bne_iff_ne,bne_eq_false_iff_eq,jA,zA,jB,List.length_drop]at *;first|assumption|exact(by assumption:_/\_).1|exact(by assumption:(_/\_)/\_).1.1)) (by rw[show signed.length=l.length from(vo (by simp only[decide_eq_true_eq,decide_eq_false_iff_not,xB,xD,zE,Bool.not_eq_false',Bool.and_eq_false_iff,Bool.or_eq_false_iff,beq_iff_eq,beq_eq_false_iff_ne,bne_iff_ne,bne_eq_false_iff_eq,jA,zA,jB,List.length_drop]at *;first|assumption|exact(by assumption:_/\_).1|exact(by assumption:(_/\_)/\_).1.1))];exact hsn) (J4 ob) (by first|omega|exact Find_ok ob)) U (qO 11 U (ae hs9 U (λc5 hs10=>?_) (λc5 hs11=>?_))))))
  .exact bE (qO 3 U (aC (iR nA ty51 hl.1 aY U U U (λ_ _ _ e=>e) (λq2 r2 A2 ok2=>qL 1 [] U (dh ty3 A2 U (aC (bK (cells:=[I y1.No]) dY ty3 zc3 U U kr (λb3=>aC (dK aBI ([(b3,O [I y1.No] 3)]) ([]) (λG=>[(b3,O [I y1.No] 3)]++G) ap (λ_=>ap) dY ty3 zc3 U bytes3 ph U U (fd 0 U (cE (y1.No) U U)) lo lo (λob2 oc2 G3 gr3=>qO 5 U (oi i1 U (an (bz (L':=G3) js (ag1 ((mL++[y1.No]),ob2,oc2,G3) hs10 ⟨gr3,lo⟩))))))))))))))
  exact aN (qT 3 U (oi i1 U (an (ag1 (mL,qp,qo,uD) hs11 ⟨ph,lo⟩))))
 rintro i1 ⟨mL,qp,qo,uD⟩ hd1 ga hx e
 exact qK 6 [] U (fO ga U (qO 3 U (hx _ rd)))
theorem yT(h:HF)(ep:Int)  : Ret prog 226 [I ep] h (.bool (ot ep)):=by
 refine sT func226 U ntmps226 U λX hM hX hF=>?_
 have hs0:ot ep=ot ep:=rfl
 refine qT 9 U (bj 3 [5,6,7,8] 5 8 (decide (ep<16)) U (λc1 hk1=>?_) (λe=>?_))
 .exact av (qO 2 U (hk1 _ U))
 exact an (nretP [.bool (decide (0<=ep)&&decide (ep<16))] (cs hs0))
theorem F0(h:HF)(u:List Use)(qU:Option Addr)(qI:Nat)(hu:SlC aCo h qU qI u):Ret prog 225 [.slice qU u.length qI] h (.bool (ff u)):=by
 refine sT func225 U ntmps225 U λX hM hX hF=>?_
 have hs0:ff u=ff u:=rfl
 refine qT 9 U ?_
 refine lp0 u (λi=>[(0,.slice qU u.length qI),(3,I (i:Int))]) ([]) (λs1 i=>(ff.L1 u (ff.K1)) s1 i) hu.1.1 hs0 ?_ ?_ ?_
 .rintro i1 fp hs1 e
  exact sr (an (nretP [.bool true] (cs hs1)))
 .rintro i1 y1 rz1 hd1 dj aY er gr hs3 hx1 ag1 e
  refine qK 6 [] U (tO dj U (qO 10 U (aC (iF aAx ur ty111 hu.1 aY U U U (λq3 A3=>qL 1 [] U (dh ty3 A3 U (ai DU (j6 h y1.Doc 0 4095) U (qO 2 U (bV 8 [18,19,20,21,22,23,24,25,26] 18 26 (!(ot y1.Kind)) U (λc1 hk1=>?_) (λe=>?_))))))))))
  .exact av (av (aC (iF aAx ur ty111 hu.1 aY U U U (λq4 A4=>qL 1 [] U (jb (j:=1) ty3 A4 U U (ai call226 (yT h y1.Kind) U (qO 2 U (hk1 _ U))))))))
  refine av (bV 8 [27,28,29,30,31,32,33,34,35] 27 35 (!(fD y1.Value 0 1099511627776)) U (λc2 hk2=>?_) (λe=>?_))
  .exact av (av (aC (iF aAx ur ty111 hu.1 aY U U U (λq5 A5=>qL 1 [] U (jb (j:=2) ty3 A5 U U (ai DU (j6 h y1.Value 0 1099511627776) U (qO 2 U (hk2 _ U))))))))
  refine av (bV 8 [36,37,38,39,40,41,42,43,44] 36 44 (!(gJ y1.At)) U (λc3 hk3=>?_) (λe=>?_))
  .exact av (av (aC (iF aAx ur ty111 hu.1 aY U U U (λq6 A6=>qL 1 [] U (jb (j:=3) ty3 A6 U U (ai Iq (lE h y1.At) U (qO 2 U (hk3 _ U))))))))
  refine av (bV 8 [45,46,47,48,49,50,51,52,53] 45 53 (!(gJ y1.Known)) U (λc4 hk4=>?_) (λe=>?_))
  .exact av (av (aC (iF aAx ur ty111 hu.1 aY U U U (λq7 A7=>qL 1 [] U (jb (j:=4) ty3 A7 U U (ai Iq (lE h y1.Known) U (qO 2 U (hk4 _ U))))))))
  refine aJ (ae hs3 U (λc5 hs4=>?_) (λc5 hs5=>?_))
  .exact sr (an (nretP [.bool false] (cs hs4)))
  refine qT 5 U ?_
  refine iL (ι:=Nat) (λi=>[(0,.slice qU u.length qI),(3,I (i1:Int))]) (λi=>h) (λi=>[]) (λi=>i<=(kG i1).length/\ff u=(((ff.L1 u (ff.K1) rz1 (i1+1))))) ?_ (λhx3=>?_)
  .rintro i3 ⟨xn,hs7⟩ e
   exact eF (qT 2 U (oi i1 U (an (ag1 hs7))))
  refine kg (ι:=Nat×List Nat) (λi=>[(0,.slice qU u.length qI),(3,I (i1:Int)),(4,I (i.1:Int))]) (λi=>h) (λi=>[]) (λi=>(kG i1).drop i.1=i.2/\i.1<=(kG i1).length/\ff u=((ff.L3 u y1 ((ff.L1 u (ff.K1) rz1 (i1+1)))) i.2 i.1)) (λi=>i.2.length) (0,(kG i1)) rd sw ⟨U,jL _,hs5⟩ ?_
  rintro⟨i3,s3⟩ ⟨hd3,E3,hs8⟩ ag2 e
  rcases s3 with _|⟨y3,rz3⟩
  .have Ov:decide ((i3:Int)<(i1:Int))=false:=by simpa using mR hd3
   exact el (qT 4 U (fO Ov U (qO 3 U (hx3 i3 _ ⟨E3,hs8⟩ rd))))
  have Cl:decide ((i3:Int)<(i1:Int))=true:=by simpa using sQ hd3
  have C5:i3<i1:=by simpa using io hd3
  refine qT 5 U (tO Cl U (qO 6 U (eM ([]) mixed kr jn (λem _=>qA [0,1] U ?_))))
  have ho2:0<=((i3:Int):Int)/\((i3:Int):Int)<((u).length:Int):=ob
  refine eS 2 (enc:=aAx) em jn ei ur ty111 hu.1 ho2 (cN ho2) U U U U kr (λq10 A10=>qB [3] U (tf 4 U U (rh ty3 A10 U) (qA [5,6] U (eS 7 (enc:=aAx) em jn ei ur ty111 hu.1 (nthZ aY) (fq aY) U U U U kr (λq11 A11=>qB [8] U (tf 9 U U (rh ty3 A11 U) (qA [10] U (aV kr (ae hs8 U (λc7 hs10=>?_) (λc7 hs11=>?_))))))))))
  .exact sr (an (nretP [.bool false] (cs hs10)))
  exact aN (qT 3 U (oi i3 U (an (ag2 ((i3+1),rz3) _ (Nat.lt_succ_self _) ⟨kx hd3,io hd3,hs11⟩ rd))))
 rintro i1 hd1 ga hx e
 exact qK 6 [] U (fO ga U (qO 3 U (hx _ rd)))
theorem vO(h:HF)(x:Budget)(ig:Int)(known:Int)  : Ret prog 335 [.agg (zK x).toArray,I ig,I known] h (.bool (mC x ig known)):=by
 refine sT func335 U ntmps335 U λX hM hX hF=>?_
 have hs0:mC x ig known=mC x ig known:=rfl
 refine sr (cy (λb1=>qL 9 [0] U (bj 5 [11,12,13,14,15,16] 11 16 (decide (x.Known<=known)) U (λc1 hk1=>?_) (λe=>?_))))
 .exact qL 5 [0] U (hk1 _ U)
 exact an (nretP [.bool (decide (x.At<=ig)&&decide (x.Known<=known))] (cs hs0))
theorem Ds(h:HF)(l:List Budget)(eP:Option Addr)(eO:Nat)(nK:Int)(bp:Int)(known:Int)(hl:SlC aAk h eP eO l)(hi:0<=nK/\nK<(l.length:Int)):Ret prog 297 [.slice eP l.length eO,I nK,I bp,I known] h (.bool (jc l nK bp known)):=by
 refine sT func297 U ntmps297 U λX hM hX hF=>?_
 have hs0:jc l nK bp known=jc l nK bp known:=rfl
 refine qT 8 U ?_
 have ho1:0<=(nK:Int)/\(nK:Int)<((l).length:Int):=ob
 refine aC (na (enc:=zK) ei uo ty101 hl.1 ho1 (cN ho1) U U U (λq1 A1=>dz ty101 A1 U U (ba zc101 (λb1=>aQ 0 ty101 U U U U U U (qL 7 [0] U (bV 6 [18,19,20,21,22,23,24] 18 24 (!(mC (nthI l nK) bp known)) U (λc1 hk1=>?_) (λe=>?_)))))))
 .exact cK 0 ty101 U U U (qO 2 U (ai call335 (vO h (nthI l nK) bp known) U (qO 2 U (hk1 _ U))))
 refine aJ (ae hs0 U (λc2 hs1=>?_) (λc2 hs2=>?_))
 .exact sr (an (nretP [.bool false] (cs hs1)))
 refine qT 6 U ?_
 refine lp0 l (λi=>[(0,.slice eP l.length eO),(2,I bp),(3,I known),(9,Q b1),(10,I (i:Int))]) ([(b1,O (zK (nthI l nK)) 101)]) (λs1 i=>(jc.L1 l nK bp known (jc.K1)) s1) hl.1.1 hs2 ?_ ?_ ?_
 .rintro i1 fp hs4 e
  exact sr (an (nretP [.bool true] (cs hs4)))
 .rintro i1 y1 rz1 hd1 dj aY er gr hs6 hx1 ag1 e
  refine qK 6 [] U (tO dj U (qO 9 U (aC (iF zK uo ty101 hl.1 aY U U U (λq3 A3=>dz ty101 A3 U U (ba zc101 (λb3=>aQ 0 ty101 U U U U U U (qL 9 [0,1] U (bj 6 [40,41,42,43,44,45,46] 40 46 (y1.Period==(nthI l nK).Period) U (λc3 hk2=>?_) (λe=>?_))))))))))
  .exact qL 6 [0,1] U (hk2 _ U)
  refine av (bj 5 [47,48,49,50,51,52] 47 52 (mC y1 bp known) U (λc4 hk3=>?_) (λe=>?_))
  .exact cK 0 ty101 U U U (qO 2 U (ai call335 (vO h y1 bp known) U (eN U (hk3 _ U))))
  refine av (bj 20 [53,54,55,56,57,58,59,60,61,62,63,64,65,66,67,68,69,70,71,72,73] 53 73 (decide ((nthI l nK).At<y1.At)||((y1.At==(nthI l nK).At)&&decide ((nthI l nK).No<y1.No))) U (λc5 hk4=>?_) (λe=>?_))
  .refine qL 6 [0,1] U (bV 13 [59,60,61,62,63,64,65,66,67,68,69,70,71,72] 59 72 ((y1.At==(nthI l nK).At)&&decide ((nthI l nK).No<y1.No)) U (λc6 hk5=>?_) (λe=>?_))
   .refine qL 6 [0,1] U (bj 6 [65,66,67,68,69,70,71] 65 71 (decide ((nthI l nK).No<y1.No)) U (λc7 hk6=>?_) (λe=>?_))
    .exact qL 6 [0,1] U (hk6 _ U)
    exact eN U (hk5 _ U)
   exact eN U (hk4 _ U)
  refine aJ (ae hs6 U (λc8 hs7=>?_) (λc8 hs8=>?_))
  .exact sr (an (nretP [.bool false] (cs hs7)))
  exact aN (qT 3 U (oi i1 U (an (bz (L':=[(b1,O (zK (nthI l nK)) 101)]) js (ag1 hs8)))))
 rintro i1 hd1 ga hx e
 exact qK 6 [] U (fO ga U (qO 3 U (hx _ rd)))
theorem AS(h:HF)(l:List Budget)(eP:Option Addr)(eO:Nat)(BY:Int)(bp:Int)(known:Int)(hl:SlC aAk h eP eO l)(hsz0:l.length<=2000000):j1 prog 229 [.slice eP l.length eO,I BY,I bp,I known] h (λv h'=>∃(rb0:Option Addr)(rc0:Nat),v=.slice rb0 (eT l BY bp known).length rc0/\SlC aAk h' rb0 rc0 (eT l BY bp known)):=by
 refine sT func229 U ntmps229 U λX hM hX hF=>?_
 have hs0:eT l BY bp known=eT l BY bp known:=rfl
 refine qT 6 U (aC (pI uo ty101 (λb1=>qO 7 U ?_)))
 obtain⟨G1,gr1,ge1⟩:∃G:LH,dG aAk 101 h ([]) (some ⟨b1,0,none⟩) 0 G/\[(b1,O [] 101)]=G:=⟨_,dG.lit (show bI aAk h [] ([])from rfl) rfl,rfl⟩
 refine cn (L':=([])++([(b1,O [] 101)]++([]))) ap ?_
 rw[ge1]
 refine lH (List.Perm.append_left _ jJ) (cn (L':=G1) ap ?_)
 refine lp2 l (λi w=>[(0,.slice eP l.length eO),(1,I BY),(2,I bp),(3,I known),(9,.slice w.2.1 w.1.length w.2.2.1),(10,I (i:Int))]) (λ_=>h) (λw=>w.2.2.2) (λi w=>dG aAk 101 h w.1 w.2.1 w.2.2.1 w.2.2.2/\w.1.length<=0+i) (λs1 i w=>(eT.L1 l BY bp known (eT.K1)) s1 i w.1) ([],(some ⟨b1,0,none⟩),0,G1) hl.1.1 hs0 ⟨gr1,lo⟩ ?_ ?_ ?_
 .rintro i1 ⟨mL,qp,qo,uD⟩ fp hs1 ⟨ph,xx⟩ e
  try dsimp only at ph xx
  refine qT 5 U (fF aBu ([]) uD ([]) ap hM ph (λh1 hle1 sl1=>?_))
  have hs2:eT l BY bp known=mL:=hs1
  exact nretH [.slice qp mL.length qo] ⟨qp,qo,congrArg (λr:List Budget=>(.slice qp r.length qo:Value)) hs2.symm,(by rw[hs2];exact sl1)⟩
 .rintro i1 ⟨mL,qp,qo,uD⟩ y1 rz1 hd1 dj aY er gr hs3 ⟨ph,xx⟩ hx1 ag1 e
  try dsimp only at ph xx
  refine qK 6 [] U (tO dj U (qO 9 U (aC (iF zK uo ty101 hl.1 aY U U U (λq3 A3=>qL 1 [] U (jb (j:=3) ty3 A3 U U (qO 2 U (bV 8 [24,25,26,27,28,29,30,31,32] 24 32 (y1.Kind==BY) U (λc1 hk1=>?_) (λe=>?_)))))))))
  .exact av (av (aC (iF zK uo ty101 hl.1 aY U U U (λq4 A4=>qL 1 [] U (jb (j:=3) ty3 A4 U U (qO 3 U (hk1 _ U)))))))
  refine av (bj 6 [33,34,35,36,37,38,39] 33 39 (jc l (i1:Int) bp known) U (λc2 hk2=>?_) (λe=>?_))
  .exact av (qO 3 U (ai call297 (Ds _ _ _ _ (i1:Int) bp known hl ob) U (eN U (hk2 _ U))))
  refine aJ (ae hs3 U (λc3 hs4=>?_) (λc3 hs5=>?_))
  .refine qT 4 U (aC (iF zK uo ty101 hl.1 aY U U U (λq5 A5=>dz ty101 A5 U U (aC (bK (cells:=[I y1.No,I y1.At,I y1.Known,I y1.Kind,I y1.Period,I y1.Count,I y1.Value,.bool y1.Gone]) uo ty101 zc101 U U kr (λb2=>?_))))))
   let z1:Nat×Obj:=(b2,O [I y1.No,I y1.At,I y1.Known,I y1.Kind,I y1.Period,I y1.Count,I y1.Value,.bool y1.Gone] 101)
   exact aC (dK Budget.eQ ([z1]) ([]) (λG=>[z1]++G) ap (λ_=>ap) uo ty101 zc101 U bytes101 ph U U (fd 0 U (cE y1 U U)) lo lo (λob1 oc1 G2 gr2=>qO 5 U (oi i1 U (an (bz (L':=G2) js (ag1 ((mL++[y1]),ob1,oc1,G2) hs4 ⟨gr2,lo⟩))))))
  exact aN (qT 3 U (oi i1 U (an (ag1 (mL,qp,qo,uD) hs5 ⟨ph,lo⟩))))
 rintro i1 ⟨mL,qp,qo,uD⟩ hd1 ga hx e
 exact qK 6 [] U (fO ga U (qO 3 U (hx _ rd)))
theorem FZ(h:HF)(x:Budget)(u:List Use)(qU:Option Addr)(qI:Nat)(value:Int)(dl:Int)(known:Int)(hu:SlC aCo h qU qI u)(hxp:x.Period≠0):Ret prog 230 [.agg (zK x).toArray,.slice qU u.length qI,I value,I dl,I known] h (.bool (kO x u value dl known)):=by
 refine sT func230 U ntmps230 U λX hM hX hF=>?_
 have hs0:kO x u value dl known=kO x u value dl known:=rfl
 refine sr (cy (λb1=>qO 16 U ?_))
 refine lp1 u (λi w=>[(1,.slice qU u.length qI),(3,I dl),(4,I known),(5,Q b1),(11,I w.1),(12,I w.2),(13,I (i:Int))]) ([(b1,O (zK x) 101)]) (λs1 i w=>(kO.L1 x dl known (kO.K1 x)) s1 w.1 w.2) (0,value) hu.1.1 hs0 ?_ ?_ ?_
 .rintro i1 ⟨lm,n8⟩ fp hs1 e
  refine qK 7 [0] U (bV 5 [71,72,73,74,75,76] 71 76 (decide (x.Value<n8)) U (λc1 hk1=>?_) (λe=>?_))
  .exact qL 5 [0] U (hk1 _ U)
  exact an (nretP [.bool (decide (x.Count<=lm)||decide (x.Value<n8))] (cs hs1))
 .rintro i1 ⟨lm,n8⟩ y1 rz1 hd1 dj aY er gr hs3 hx1 ag1 e
  refine qK 6 [] U (tO dj U (qO 6 U ?_))
  refine oo [(1,.slice qU u.length qI),(3,I dl),(4,I known),(5,Q b1),(11,I lm),(12,I n8),(13,I (i1:Int)),(57,.bool ((decide (y1.Known<=known)&&((x.Kind==(-1))||(x.Kind==y1.Kind)))&&((vC .i64 (y1.At.tdiv x.Period))==(vC .i64 (dl.tdiv x.Period)))))] (λe=>?_) (λhk2=>?_)
  rotate_left
  .refine eM ([(b1,O (zK x) 101)]) mixed kr jn (λem _=>?_)
   refine qA [0,1] U (eS 2 (enc:=aAx) em jn ei ur ty111 hu.1 (nthZ aY) (fq aY) U U U U kr (λq3 A3=>qB [3] U (tf 4 U U (rH 4 ty3 A3 U U) (qR 5 3 U ?_))))
   refine du 28 U (λc2=>?_) (λc2=>?_)
   .have c2p:=of_decide_eq_true c2
    refine qB [8] U (tf 9 U U (rj 0 ty3 U U U) (qA [10,11] U ?_))
    refine du 32 U (λc3=>?_) (λc3=>?_)
    .exact tk 12 U U (qR 13 12 U (eS 25 (enc:=aAx) em jn ei ur ty111 hu.1 (nthZ aY) (fq aY) U U U U kr (λq4 A4=>qB [26] U (tf 27 U U (rH 3 ty3 A4 U U) (qB [28] U (tf 29 U U (rj 0 ty3 U U U) (tf 30 U U (λ_ _ _=>CO U U ob) (qB [31,32] U (tf 33 U U (rj 0 ty3 U U U) (tf 34 U U (λ_ _ _=>CO U U ob) (qA [35,36] U (aV kr (hk2 _ ⟨U,U,U,U,U,U,U,(cb (show((vC .i64 (y1.At.tdiv x.Period))==(vC .i64 (dl.tdiv x.Period)))=((decide (y1.Known<=known)&&((x.Kind==(-1))||(x.Kind==y1.Kind)))&&((vC .i64 (y1.At.tdiv x.Period))==(vC .i64 (dl.tdiv x.Period))))from by rw[c2,c3]<;>rfl)),trivial⟩)))))))))))))
    refine qB [12] U (tf 13 U U (rj 0 ty3 U U U) (qA [14,15] U (eS 16 (enc:=aAx) em jn ei ur ty111 hu.1 (nthZ aY) (fq aY) U U U U kr (λq5 A5=>qB [17] U (tf 18 U U (rH 1 ty3 A5 U U) (qR 19 4 U ?_))))))
    refine du 43 U (λc4=>?_) (λc4=>?_)
    .exact tm 23 U (tm 24 U (eS 25 (enc:=aAx) em jn ei ur ty111 hu.1 (nthZ aY) (fq aY) U U U U kr (λq6 A6=>qB [26] U (tf 27 U U (rH 3 ty3 A6 U U) (qB [28] U (tf 29 U U (rj 0 ty3 U U U) (tf 30 U U (λ_ _ _=>CO U U ob) (qB [31,32] U (tf 33 U U (rj 0 ty3 U U U) (tf 34 U U (λ_ _ _=>CO U U ob) (qA [35,36] U (aV kr (hk2 _ ⟨U,U,U,U,U,U,U,(cb (show((vC .i64 (y1.At.tdiv x.Period))==(vC .i64 (dl.tdiv x.Period)))=((decide (y1.Known<=known)&&((x.Kind==(-1))||(x.Kind==y1.Kind)))&&((vC .i64 (y1.At.tdiv x.Period))==(vC .i64 (dl.tdiv x.Period))))from by rw[c2,c3,c4]<;>rfl)),trivial⟩)))))))))))))
    exact tk 23 U U (qR 24 13 U (aV kr (hk2 _ ⟨U,U,U,U,U,U,U,(cb (show false=((decide (y1.Known<=known)&&((x.Kind==(-1))||(x.Kind==y1.Kind)))&&((vC .i64 (y1.At.tdiv x.Period))==(vC .i64 (dl.tdiv x.Period))))from by rw[c2,c3,c4]<;>rfl)),trivial⟩)))
   have c2p:=of_decide_eq_false c2
   exact tk 8 U U (qR 9 28 U (aV kr (hk2 _ ⟨U,U,U,U,U,U,U,(cb (show false=((decide (y1.Known<=known)&&((x.Kind==(-1))||(x.Kind==y1.Kind)))&&((vC .i64 (y1.At.tdiv x.Period))==(vC .i64 (dl.tdiv x.Period))))from by rw[c2]<;>rfl)),trivial⟩)))
  refine ae hs3 U (λc5 hs4=>?_) (λc5 hs5=>?_)
  .exact sr (qO 8 U (aC (iF aAx ur ty111 hu.1 aY U U U (λq7 A7=>qL 1 [] U (jb (j:=2) ty3 A7 U U (qO 6 U (oi i1 U (an (ag1 ((vC .i64 (lm+1)),(vC .i64 (n8+y1.Value))) hs4)))))))))
  exact aN (qT 3 U (oi i1 U (an (ag1 (lm,n8) hs5))))
 rintro i1 ⟨lm,n8⟩ hd1 ga hx e
 exact qK 6 [] U (fO ga U (qO 3 U (hx _ rd)))
theorem F1(h:HF)(l:List Budget)(eP:Option Addr)(eO:Nat)(u:List Use)(qU:Option Addr)(qI:Nat)(HZ:Int)(value:Int)(aK:Int)(known:Int)(hl:SlC aAk h eP eO l)(hu:SlC aCo h qU qI u)(hsz:l.length<=2000000):Ret prog 138 [.slice eP l.length eO,.slice qU u.length qI,I HZ,I value,I aK,I known] h (.tuple #[I ((gi l u HZ value aK known).1),.bool ((gi l u HZ value aK known).2.1),I ((gi l u HZ value aK known).2.2)]):=by
 refine sT func138 U ntmps138 U λX hM hX hF=>?_
 have hs0:gi l u HZ value aK known=gi l u HZ value aK known:=rfl
 refine qT 9 U (ai call75 (wV _ _ _ _ hl) U (qO 8 U (ae hs0 U (λc1 hs1=>?_) (λc1 hs2=>?_))))
 .refine qT 7 U ?_
  have hs3:gi l u HZ value aK known=(0,false,(fy l)):=hs1
  exact nretP [I 0,.bool false,I (fy l)] (congrArg (λr:(Int×Bool×Int)=>(.tuple #[I r.1,.bool r.2.1,I r.2.2]:Value)) hs3.symm)
 refine qK 8 [] U (ae hs2 U (λc2 hs4=>?_) (λc2 hs5=>?_))
 .have c2p:=of_decide_eq_true c2
  refine qT 6 U ?_
  have hs6:gi l u HZ value aK known=(0,false,2):=hs4
  exact nretP [I 0,.bool false,I 2] (congrArg (λr:(Int×Bool×Int)=>(.tuple #[I r.1,.bool r.2.1,I r.2.2]:Value)) hs6.symm)
 have c2p:=of_decide_eq_false c2
 refine qT 5 U (ai call225 (F0 _ _ _ _ hu) U (qO 2 U (ae hs5 U (λc3 hs7=>?_) (λc3 hs8=>?_))))
 .refine qT 6 U ?_
  have hs9:gi l u HZ value aK known=(0,false,180):=hs7
  exact nretP [I 0,.bool false,I 180] (congrArg (λr:(Int×Bool×Int)=>(.tuple #[I r.1,.bool r.2.1,I r.2.2]:Value)) hs9.symm)
 refine qT 5 U (ai call226 (yT h HZ) U (qO 2 U (bV 4 [32,33,34,35,36] 32 36 (!(fD value 0 1099511627776)) U (λc4 hk1=>?_) (λe=>?_))))
 .exact av (ai DU (j6 h value 0 1099511627776) U (qO 2 U (hk1 _ U)))
 refine av (bV 4 [37,38,39,40,41] 37 41 (!(gJ aK)) U (λc5 hk2=>?_) (λe=>?_))
 .exact av (ai Iq (lE h aK) U (qO 2 U (hk2 _ U)))
 refine av (bV 4 [42,43,44,45,46] 42 46 (!(gJ known)) U (λc6 hk3=>?_) (λe=>?_))
 .exact av (ai Iq (lE h known) U (qO 2 U (hk3 _ U)))
 refine aJ (ae hs8 U (λc7 hs10=>?_) (λc7 hs11=>?_))
 .refine qT 6 U ?_
  have hs12:gi l u HZ value aK known=(0,false,1):=hs10
  exact nretP [I 0,.bool false,I 1] (congrArg (λr:(Int×Bool×Int)=>(.tuple #[I r.1,.bool r.2.1,I r.2.2]:Value)) hs12.symm)
 refine qT 7 U (aC (cS call229 (AS _ _ _ _ HZ aK known hl ob) U (λv1 h1 hle1 hp1=>?_)))
 obtain⟨rb1,rc1,rfl,sl1⟩:=hp1
 refine qO 7 U ?_
 refine lp0 (eT l HZ aK known) (λi=>[(1,.slice qU u.length qI),(3,I value),(4,I aK),(5,I known),(16,.slice rb1 ((eT l HZ aK known).length) rc1),(17,I (i:Int))]) ([]) (λs1 i=>(gi.L1 u value aK known (gi.K1)) s1) sl1.1.1 hs11 ?_ ?_ ?_
 .rintro i1 fp hs13 e
  refine qT 6 U ?_
  have hs14:gi l u HZ value aK known=((-1),true,0):=hs13
  exact nretP [I (-1),.bool true,I 0] (congrArg (λr:(Int×Bool×Int)=>(.tuple #[I r.1,.bool r.2.1,I r.2.2]:Value)) hs14.symm)
 .rintro i1 y1 rz1 hd1 dj aY er gr hs15 hx1 ag1 e
  refine qK 6 [] U (tO dj U (qO 9 U (aC (iF zK uo ty101 sl1.1 aY U U U (λq3 A3=>dz ty101 A3 U U (qO 4 U (ai call230 (FZ _ y1 _ _ _ value aK known (hu.mono Use.aj hle1) (HJ (by simpa using c1) (fX hd1))) U (aJ (ae hs15 U (λc9 hs16=>?_) (λc9 hs17=>?_))))))))))
  .refine qT 4 U (aC (iF zK uo ty101 sl1.1 aY U U U (λq4 A4=>qL 1 [] U (dh ty3 A4 U (qO 4 U ?_)))))
   have hs18:gi l u HZ value aK known=(y1.No,false,0):=hs16
   exact nretP [I y1.No,.bool false,I 0] (congrArg (λr:(Int×Bool×Int)=>(.tuple #[I r.1,.bool r.2.1,I r.2.2]:Value)) hs18.symm)
  exact aN (qT 3 U (oi i1 U (an (ag1 hs17))))
 rintro i1 hd1 ga hx e
 exact qK 6 [] U (fO ga U (qO 3 U (hx _ rd)))
theorem Eo(h:HF)(aL:Register)(fx:dD)(signed:List Int)(bZ:Option Addr)(bY:Nat)(u:List Use)(qU:Option Addr)(qI:Nat)(doc:Int)(aK:Int)(known:Int)(iW:zL h aL fx)(hsigned:SlC qC h bZ bY signed)(hu:SlC aCo h qU qI u)(hsm:smR aL):Ret prog 61 [.agg (xL aL fx).toArray,.slice bZ signed.length bY,.slice qU u.length qI,I doc,I aK,I known] h (I (nf aL signed u doc aK known)):=by
 refine sT func61 U ntmps61 U λX hM hX hF=>?_
 have hs0:nf aL signed u doc aK known=nf aL signed u doc aK known:=rfl
 refine sr (cy (λb1=>qO 5 U (cK 0 ty30 U U U (ai call14 (Ep _ _ _ iW ob) U (qO 2 U (ae hs0 U (λc1 hs1=>?_) (λc1 hs2=>?_)))))))
 .exact sr (an (nretP [I 300] (ci hs1)))
 refine qK 6 [0] U (aC (cS call137 (BO _ _ _ _ _ _ _ 0 iW.Docs hsigned hsm.2.2.2.2.2.1) U (λv1 h1 hle1 hp1=>?_)))
 obtain⟨rb1,rc1,rfl,sl1⟩:=hp1
 refine qO 12 U (ae hs2 U (λc2 hs4=>?_) (λc2 hs5=>?_))
 .exact sr (qO 3 U (nretP [I ((fj aL.Docs signed 0).2)] (ci hs4)))
 refine qK 6 [0] U (ai call138 (F1 _ _ _ _ _ _ _ 0 0 0 0 (iW.Budgets.mono aBu hle1) (hu.mono Use.aj hle1) hsm.2.2.2.2.1) U (qO 14 U (ae hs5 U (λc3 hs7=>?_) (λc3 hs8=>?_))))
 .exact sr (qO 3 U (nretP [I ((gi aL.Budgets u 0 0 0 0).2.2)] (ci hs7)))
 refine qT 4 U (cK 0 ty30 U U U (av (ai call20 (AP _ _ _ doc (iW.mono hle1)) U (qO 2 U (bV 4 [46,47,48,49,50] 46 50 (!(lK aK)) U (λc4 hk1=>?_) (λe=>?_))))))
 .exact av (ai call82 (vI h1 aK) U (qO 2 U (hk1 _ U)))
 refine av (bV 4 [51,52,53,54,55] 51 55 (!(lK known)) U (λc5 hk2=>?_) (λe=>?_))
 .exact av (ai call82 (vI h1 known) U (qO 2 U (hk2 _ U)))
 refine aJ (ae hs8 U (λc6 hs10=>?_) (λc6 hs11=>?_))
 .exact sr (an (nretP [I 1] (ci hs10)))
 exact aN (qT 4 U (nretP [I 0] (ci hs11)))
end Go.Sg
