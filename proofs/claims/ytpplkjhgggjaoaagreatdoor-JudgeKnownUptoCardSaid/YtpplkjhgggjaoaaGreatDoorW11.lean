import Derived.Test.YtpplkjhgggjaoaaGreatDoorW10
/- A part of the proof of JudgeKnown. -/
set_option linter.unusedVariables false
set_option linter.unusedSimpArgs false
set_option maxRecDepth 100000
open List renaming length_cons→xA,length_append→jA,toArray→jB,length_nil→vB,append_assoc→kD,nil_append→zG,range→qH,perm_append_comm→vJ,cons_append→qP
open Bool renaming and_eq_true→xB,or_eq_true→xD,not_eq_true'→qE
open Go.Sg.Rp renaming int→kB,aP→jH,str→aAQ,bool→aA4,iC→aBv,iI→aBw
open Go.Sg.Expr renaming cells→zC,ok→jF,mk→xG,jU→aAn,ai→aAq,rp→aAL,mj→aBh,em→aBM
open Go.Sg.Approval renaming cells→xC
open Go.IntKind renaming wrap→vC
open Go.Value renaming int→kC
open Go.Sg.Interest renaming cells→zD
open Go.Sg.Policy renaming cells→xE,mk→kN,ok→vP
open Go.Sg.SlC renaming nil→qF
open Nat renaming le_refl→kF,zero_le→zN
open Go.Sg.Budget renaming cells→xH
open Go.Sg.Document renaming ai→vH,rp→xS
open Go.Sg.Deputy renaming cells→kK
open Go.Sg.HF renaming le→vM
open Go.Sg.Expr.ok renaming of→aAu
open Go.Sg.Rule renaming mk→aBi,ai→aBz

namespace Go.Sg
open Go.Proofs Go.Proofs.Tryz
set_option maxHeartbeats 2000000
theorem Fs(h:HF)(x:Deputy)  : Ret prog 154 [.agg (kK x).toArray] h (.bool (j3 x)):=by
 refine sT func154 U ntmps154 U λX hM hX hF=>?_
 have hs0:j3 x=j3 x:=rfl
 refine sr (cz (λb1=>qL 7 [0] U (aj Jq (ma h x.No 0 1048576) U (qO 2 U (ce 5 [7,8,9,10,11,12] 7 12 (!(nC x.At)) U (λc1 hk1=>?_) (λe=>?_))))))
 .exact qL 2 [0] U (aj call244 (Aj h x.At) U (qO 2 U (hk1 _ U)))
 refine av (ce 5 [13,14,15,16,17,18] 13 18 (!(nC x.Known)) U (λc2 hk2=>?_) (λe=>?_))
 .exact qL 2 [0] U (aj call244 (Aj h x.Known) U (qO 2 U (hk2 _ U)))
 refine av (ce 5 [19,20,21,22,23,24] 19 24 (!(mf x.From)) U (λc3 hk3=>?_) (λe=>?_))
 .exact qL 2 [0] U (aj call245 (wx h x.From) U (qO 2 U (hk3 _ U)))
 refine av (ce 5 [25,26,27,28,29,30] 25 30 (!(mf x.To)) U (λc4 hk4=>?_) (λe=>?_))
 .exact qL 2 [0] U (aj call245 (wx h x.To) U (qO 2 U (hk4 _ U)))
 refine av (ce 6 [31,32,33,34,35,36,37] 31 37 (x.From==x.To) U (λc5 hk5=>?_) (λe=>?_))
 .exact qL 6 [0,0] U (hk5 _ U)
 refine aJ (ae hs0 U (λc6 hs1=>?_) (λc6 hs2=>?_))
 .exact sr (an (nretP [.bool false] (cs hs1)))
 refine qK 6 [0] U (aj Jq (ma h x.Office 0 31) U (qO 2 U (ce 5 [42,43,44,45,46,47] 42 47 (!(ik x.Kind (-1) 15)) U (λc7 hk6=>?_) (λe=>?_))))
 .exact qL 2 [0] U (aj Jq (ma h x.Kind (-1) 15) U (qO 2 U (hk6 _ U)))
 refine aJ (ae hs2 U (λc8 hs4=>?_) (λc8 hs5=>?_))
 .exact sr (an (nretP [.bool false] (cs hs4)))
 refine qK 7 [0] U (ae hs5 U (λc9 hs7=>?_) (λc9 hs8=>?_))
 .refine qK 6 [0] U (bA 4 [53,54,55,56,57] 53 57 (x.Most==0) U (λc10 hk7=>?_) (λe=>?_))
  .exact qL 4 [0] U (hk7 _ U)
  exact an (nretP [.bool ((x.Until==0)&&(x.Most==0))] (cs hs7))
 refine qK 9 [0,0] U (bA 4 [63,64,65,66,67] 63 67 (decide (x.Until<=1099511627776)) U (λc11 hk8=>?_) (λe=>?_))
 .exact qL 4 [0] U (hk8 _ U)
 refine av (bA 4 [68,69,70,71,72] 68 72 (ik x.Most 0 1099511627776) U (λc12 hk9=>?_) (λe=>?_))
 .exact qL 2 [0] U (aj Jq (ma h x.Most 0 1099511627776) U (eU U (hk9 _ U)))
 exact an (nretP [.bool ((decide (x.At<x.Until)&&decide (x.Until<=1099511627776))&&(ik x.Most 0 1099511627776))] (cs hs8))
theorem Ft(h:HF)(l:List Deputy)(eu:Option Addr)(et:Nat)(hl:SlC Deputy.rp h eu et l):Ret prog 73 [.slice eu l.length et] h (I (ij l)):=by
 refine sT func73 U ntmps73 U λX hM hX hF=>?_
 have hs0:ij l=ij l:=rfl
 refine qK 11 [] U (ae hs0 U (λc1 hs1=>?_) (λc1 hs2=>?_))
 .have c1p:=of_decide_eq_true c1
  exact sr (an (nretP [I 2] (ci hs1)))
 have c1p:=of_decide_eq_false c1
 refine qT 6 U ?_
 refine lp0 l (λi=>[(0,.slice eu l.length et),(3,I (i:Int))]) ([]) (λs1 i=>(ij.L1 l (ij.K1)) s1 i) hl.1.1 hs2 ?_ ?_ ?_
 .rintro i1 ft hs4 e
  exact sr (an (nretP [I 0] (ci hs4)))
 .rintro i1 y1 rz1 hd1 df aS dZ gy hs6 hx1 ag1 e
  refine qK 6 [] U (tO df U (qO 6 U ?_))
  refine oE [(0,.slice eu l.length et),(3,I (i1:Int)),(36,.bool ((!(j3 y1))||(decide (0<(i1:Int))&&decide (y1.No<=(nthI l ((i1:Int)-1)).No))))] (λe=>?_) (λhk1=>?_)
  rotate_left
  .refine eT ([]) mixed kr jn (λeo _=>?_)
   refine qA [0,1] U (eX 2 (enc:=kK) eo jn ei tB ty93 hl.1 (nthZ aS) (fH aS) U U U U kr (λq4 A4=>tf 3 U U (λ_ _ hj=>mg ty93 (A4.mono hj.1) U U) (tn 4 U (fo call154 (Fs h y1) U (⟨jn,qA [5,6] U ?_⟩)))))
   refine dx 19 U (λc2=>?_) (λc2=>?_)
   .exact tk 7 U U (qR 8 16 U (aQ kr (hk1 _ ⟨U,U,(cb (show true=((!(j3 y1))||(decide (0<(i1:Int))&&decide (y1.No<=(nthI l ((i1:Int)-1)).No)))from by rw[c2]<;>rfl)),trivial⟩)))
   refine qR 7 3 U ?_
   refine dx 22 U (λc3=>?_) (λc3=>?_)
   .have c3p:=of_decide_eq_true c3
    refine qA [10,11] U (tf 12 U U (λ_ _ _=>nE (v':=I ((i1:Int)-1)) U (lk ob)) ?_)
    have ho2:0<=(((i1:Int)-1):Int)/\(((i1:Int)-1):Int)<((l).length:Int):=ob
    exact eX 13 (enc:=kK) eo jn ei tB ty93 hl.1 ho2 (dh ho2) U U U U kr (λq5 A5=>qB [14] U (tf 15 U U (rh ty3 A5 U) (qA [16,17] U (eX 18 (enc:=kK) eo jn ei tB ty93 hl.1 (nthZ aS) (fH aS) U U U U kr (λq6 A6=>qB [19] U (tf 20 U U (rh ty3 A6 U) (qR 21 3 U (aQ kr (hk1 _ ⟨U,U,(cb (show decide (y1.No<=(nthI l ((i1:Int)-1)).No)=((!(j3 y1))||(decide (0<(i1:Int))&&decide (y1.No<=(nthI l ((i1:Int)-1)).No)))from by rw[c2,c3]<;>rfl)),trivial⟩)))))))))
   have c3p:=of_decide_eq_false c3
   exact tk 10 U U (qR 11 13 U (aQ kr (hk1 _ ⟨U,U,(cb (show false=((!(j3 y1))||(decide (0<(i1:Int))&&decide (y1.No<=(nthI l ((i1:Int)-1)).No)))from by rw[c2,c3]<;>rfl)),trivial⟩)))
  refine ae hs6 U (λc4 hs7=>?_) (λc4 hs8=>?_)
  .exact sr (an (nretP [I 160] (ci hs7)))
  exact aI (qT 3 U (oi i1 U (an (ag1 hs8))))
 rintro i1 hd1 gu hx e
 exact qK 6 [] U (fO gu U (qO 3 U (hx _ rd)))
theorem Ae(h:HF)(t:Int)  : Ret prog 246 [I t] h (.bool (nz t)):=by
 refine sT func246 U ntmps246 U λX hM hX hF=>?_
 have hs0:nz t=nz t:=rfl
 refine qT 9 U (bA 3 [5,6,7,8] 5 8 (decide (t<1099511627776)) U (λc1 hk1=>?_) (λe=>?_))
 .exact av (qO 2 U (hk1 _ U))
 exact an (nretP [.bool (decide (0<=t)&&decide (t<1099511627776))] (cs hs0))
theorem xx(h:HF)(er:Int)  : Ret prog 247 [I er] h (.bool (mI er)):=by
 refine sT func247 U ntmps247 U λX hM hX hF=>?_
 have hs0:mI er=mI er:=rfl
 refine qT 9 U (bA 3 [5,6,7,8] 5 8 (decide (er<=1048576)) U (λc1 hk1=>?_) (λe=>?_))
 .exact av (qO 2 U (hk1 _ U))
 exact an (nretP [.bool (decide (0<=er)&&decide (er<=1048576))] (cs hs0))
theorem D5(h:HF)(er:Int)  : Ret prog 248 [I er] h (.bool (nT er)):=by
 refine sT func248 U ntmps248 U λX hM hX hF=>?_
 have hs0:nT er=nT er:=rfl
 refine qT 9 U (bA 3 [5,6,7,8] 5 8 (decide (er<64)) U (λc1 hk1=>?_) (λe=>?_))
 .exact av (qO 2 U (hk1 _ U))
 exact an (nretP [.bool (decide (0<=er)&&decide (er<64))] (cs hs0))
theorem Ff(h:HF)(x:Interest)  : Ret prog 155 [.agg (zD x).toArray] h (.bool (jX x)):=by
 refine sT func155 U ntmps155 U λX hM hX hF=>?_
 have hs0:jX x=jX x:=rfl
 refine sr (cz (λb1=>qL 9 [0] U (ce 4 [6,7,8,9,10] 6 10 (decide (1048576<x.No)) U (λc1 hk1=>?_) (λe=>?_))))
 .exact qL 4 [0] U (hk1 _ U)
 refine av (ce 5 [11,12,13,14,15,16] 11 16 (!(nz x.At)) U (λc2 hk2=>?_) (λe=>?_))
 .exact qL 2 [0] U (aj call246 (Ae h x.At) U (qO 2 U (hk2 _ U)))
 refine av (ce 5 [17,18,19,20,21,22] 17 22 (!(nz x.Known)) U (λc3 hk3=>?_) (λe=>?_))
 .exact qL 2 [0] U (aj call246 (Ae h x.Known) U (qO 2 U (hk3 _ U)))
 refine av (ce 5 [23,24,25,26,27,28] 23 28 (!(mI x.Party)) U (λc4 hk4=>?_) (λe=>?_))
 .exact qL 2 [0] U (aj call247 (xx h x.Party) U (qO 2 U (hk4 _ U)))
 refine aJ (ae hs0 U (λc5 hs1=>?_) (λc5 hs2=>?_))
 .exact sr (an (nretP [.bool false] (cs hs1)))
 refine qK 7 [0] U (ae hs2 U (λc6 hs4=>?_) (λc6 hs5=>?_))
 .refine qK 4 [0] U (aj call247 (xx h x.Person) U (av (bA 6 [34,35,36,37,38,39,40] 34 40 (x.Person != x.Party) U (λc7 hk5=>?_) (λe=>?_))))
  .exact qL 6 [0,0] U (hk5 _ U)
  exact an (nretP [.bool ((mI x.Person)&&(x.Person != x.Party))] (cs hs4))
 exact qK 5 [0] U (aj call248 (D5 h x.Person) U (an (nretP [.bool (nT x.Person)] (cs hs5))))
theorem Fg(h:HF)(l:List Interest)(eu:Option Addr)(et:Nat)(hl:SlC Interest.rp h eu et l):Ret prog 74 [.slice eu l.length et] h (I (ig l)):=by
 refine sT func74 U ntmps74 U λX hM hX hF=>?_
 have hs0:ig l=ig l:=rfl
 refine qK 11 [] U (ae hs0 U (λc1 hs1=>?_) (λc1 hs2=>?_))
 .have c1p:=of_decide_eq_true c1
  exact sr (an (nretP [I 2] (ci hs1)))
 have c1p:=of_decide_eq_false c1
 refine qT 6 U ?_
 refine lp0 l (λi=>[(0,.slice eu l.length et),(3,I (i:Int))]) ([]) (λs1 i=>(ig.L1 l (ig.K1)) s1 i) hl.1.1 hs2 ?_ ?_ ?_
 .rintro i1 ft hs4 e
  exact sr (an (nretP [I 0] (ci hs4)))
 .rintro i1 y1 rz1 hd1 df aS dZ gy hs6 hx1 ag1 e
  refine qK 6 [] U (tO df U (qO 6 U ?_))
  refine oE [(0,.slice eu l.length et),(3,I (i1:Int)),(36,.bool ((!(jX y1))||(decide (0<(i1:Int))&&decide (y1.No<=(nthI l ((i1:Int)-1)).No))))] (λe=>?_) (λhk1=>?_)
  rotate_left
  .refine eT ([]) mixed kr jn (λeo _=>?_)
   refine qA [0,1] U (eX 2 (enc:=zD) eo jn ei sC ty97 hl.1 (nthZ aS) (fH aS) U U U U kr (λq4 A4=>tf 3 U U (λ_ _ hj=>mg ty97 (A4.mono hj.1) U U) (tn 4 U (fo call155 (Ff h y1) U (⟨jn,qA [5,6] U ?_⟩)))))
   refine dx 19 U (λc2=>?_) (λc2=>?_)
   .exact tk 7 U U (qR 8 16 U (aQ kr (hk1 _ ⟨U,U,(cb (show true=((!(jX y1))||(decide (0<(i1:Int))&&decide (y1.No<=(nthI l ((i1:Int)-1)).No)))from by rw[c2]<;>rfl)),trivial⟩)))
   refine qR 7 3 U ?_
   refine dx 22 U (λc3=>?_) (λc3=>?_)
   .have c3p:=of_decide_eq_true c3
    refine qA [10,11] U (eX 12 (enc:=zD) eo jn ei sC ty97 hl.1 (nthZ aS) (fH aS) U U U U kr (λq5 A5=>qB [13] U (tf 14 U U (rh ty3 A5 U) (qA [15,16] U (tf 17 U U (λ_ _ _=>nE (v':=I ((i1:Int)-1)) U (lk ob)) ?_)))))
    have ho2:0<=(((i1:Int)-1):Int)/\(((i1:Int)-1):Int)<((l).length:Int):=ob
    exact eX 18 (enc:=zD) eo jn ei sC ty97 hl.1 ho2 (dh ho2) U U U U kr (λq6 A6=>qB [19] U (tf 20 U U (rh ty3 A6 U) (qR 21 3 U (aQ kr (hk1 _ ⟨U,U,(cb (show decide (y1.No<=(nthI l ((i1:Int)-1)).No)=((!(jX y1))||(decide (0<(i1:Int))&&decide (y1.No<=(nthI l ((i1:Int)-1)).No)))from by rw[c2,c3]<;>rfl)),trivial⟩)))))
   have c3p:=of_decide_eq_false c3
   exact tk 10 U U (qR 11 13 U (aQ kr (hk1 _ ⟨U,U,(cb (show false=((!(jX y1))||(decide (0<(i1:Int))&&decide (y1.No<=(nthI l ((i1:Int)-1)).No)))from by rw[c2,c3]<;>rfl)),trivial⟩)))
  refine ae hs6 U (λc4 hs7=>?_) (λc4 hs8=>?_)
  .exact sr (an (nretP [I 290] (ci hs7)))
  exact aI (qT 3 U (oi i1 U (an (ag1 hs8))))
 rintro i1 hd1 gu hx e
 exact qK 6 [] U (fO gu U (qO 3 U (hx _ rd)))
theorem ku(h:HF)(er:Int)(least:Int)(most:Int)  : Ret prog 227 [I er,I least,I most] h (.bool (fP er least most)):=by
 refine sT func227 U ntmps227 U λX hM hX hF=>?_
 have hs0:fP er least most=fP er least most:=rfl
 refine qT 10 U (bA 4 [10,11,12,13,14] 10 14 (decide (er<=most)) U (λc1 hk1=>?_) (λe=>?_))
 .exact av (qO 3 U (hk1 _ U))
 exact an (nretP [.bool (decide (least<=er)&&decide (er<=most))] (cs hs0))
theorem lZ(h:HF)(er:Int)  : Ret prog 228 [I er] h (.bool (gY er)):=by
 refine sT func228 U ntmps228 U λX hM hX hF=>?_
 have hs0:gY er=gY er:=rfl
 refine qT 9 U (bA 3 [5,6,7,8] 5 8 (decide (er<1099511627776)) U (λc1 hk1=>?_) (λe=>?_))
 .exact av (qO 2 U (hk1 _ U))
 exact an (nretP [.bool (decide (0<=er)&&decide (er<1099511627776))] (cs hs0))
theorem Fm(h:HF)(x:Budget)  : Ret prog 156 [.agg (xH x).toArray] h (.bool (j0 x)):=by
 refine sT func156 U ntmps156 U λX hM hX hF=>?_
 have hs0:j0 x=j0 x:=rfl
 refine sr (cz (λb1=>qL 7 [0] U (aj EG (ku h x.No 0 1048576) U (qO 2 U (ce 5 [7,8,9,10,11,12] 7 12 (!(gY x.At)) U (λc1 hk1=>?_) (λe=>?_))))))
 .exact qL 2 [0] U (aj Jp (lZ h x.At) U (qO 2 U (hk1 _ U)))
 refine av (ce 5 [13,14,15,16,17,18] 13 18 (!(gY x.Known)) U (λc2 hk2=>?_) (λe=>?_))
 .exact qL 2 [0] U (aj Jp (lZ h x.Known) U (qO 2 U (hk2 _ U)))
 refine av (ce 5 [19,20,21,22,23,24] 19 24 (!(fP x.Kind (-1) 15)) U (λc3 hk3=>?_) (λe=>?_))
 .exact qL 2 [0] U (aj EG (ku h x.Kind (-1) 15) U (qO 2 U (hk3 _ U)))
 refine av (ce 5 [25,26,27,28,29,30] 25 30 (!(fP x.Period 1 1099511627776)) U (λc4 hk4=>?_) (λe=>?_))
 .exact qL 2 [0] U (aj EG (ku h x.Period 1 1099511627776) U (qO 2 U (hk4 _ U)))
 refine aJ (ae hs0 U (λc5 hs1=>?_) (λc5 hs2=>?_))
 .exact sr (an (nretP [.bool false] (cs hs1)))
 refine qK 7 [0] U (ae hs2 U (λc6 hs4=>?_) (λc6 hs5=>?_))
 .refine qK 6 [0] U (bA 4 [36,37,38,39,40] 36 40 (x.Value==0) U (λc7 hk5=>?_) (λe=>?_))
  .exact qL 4 [0] U (hk5 _ U)
  exact an (nretP [.bool ((x.Count==0)&&(x.Value==0))] (cs hs4))
 refine qK 5 [0] U (aj EG (ku h x.Count 0 1048576) U (av (bA 4 [44,45,46,47,48] 44 48 (fP x.Value 0 1099511627776) U (λc8 hk6=>?_) (λe=>?_))))
 .exact qL 2 [0] U (aj EG (ku h x.Value 0 1099511627776) U (eU U (hk6 _ U)))
 exact an (nretP [.bool ((fP x.Count 0 1048576)&&(fP x.Value 0 1099511627776))] (cs hs5))
theorem xU(h:HF)(l:List Budget)(eu:Option Addr)(et:Nat)(hl:SlC Budget.rp h eu et l):Ret prog 75 [.slice eu l.length et] h (I (fL l)):=by
 refine sT func75 U ntmps75 U λX hM hX hF=>?_
 have hs0:fL l=fL l:=rfl
 refine qK 11 [] U (ae hs0 U (λc1 hs1=>?_) (λc1 hs2=>?_))
 .have c1p:=of_decide_eq_true c1
  exact sr (an (nretP [I 2] (ci hs1)))
 have c1p:=of_decide_eq_false c1
 refine qT 6 U ?_
 refine lp0 l (λi=>[(0,.slice eu l.length et),(3,I (i:Int))]) ([]) (λs1 i=>(fL.L1 l (fL.K1)) s1 i) hl.1.1 hs2 ?_ ?_ ?_
 .rintro i1 ft hs4 e
  exact sr (an (nretP [I 0] (ci hs4)))
 .rintro i1 y1 rz1 hd1 df aS dZ gy hs6 hx1 ag1 e
  refine qK 6 [] U (tO df U (qO 6 U ?_))
  refine oE [(0,.slice eu l.length et),(3,I (i1:Int)),(36,.bool ((!(j0 y1))||(decide (0<(i1:Int))&&decide (y1.No<=(nthI l ((i1:Int)-1)).No))))] (λe=>?_) (λhk1=>?_)
  rotate_left
  .refine eT ([]) mixed kr jn (λeo _=>?_)
   refine qA [0,1] U (eX 2 (enc:=xH) eo jn ei sA ty101 hl.1 (nthZ aS) (fH aS) U U U U kr (λq4 A4=>tf 3 U U (λ_ _ hj=>mg ty101 (A4.mono hj.1) U U) (tn 4 U (fo call156 (Fm h y1) U (⟨jn,qA [5,6] U ?_⟩)))))
   refine dx 19 U (λc2=>?_) (λc2=>?_)
   .exact tk 7 U U (qR 8 16 U (aQ kr (hk1 _ ⟨U,U,(cb (show true=((!(j0 y1))||(decide (0<(i1:Int))&&decide (y1.No<=(nthI l ((i1:Int)-1)).No)))from by rw[c2]<;>rfl)),trivial⟩)))
   refine qR 7 3 U ?_
   refine dx 22 U (λc3=>?_) (λc3=>?_)
   .have c3p:=of_decide_eq_true c3
    refine qA [10,11] U (tf 12 U U (λ_ _ _=>nE (v':=I ((i1:Int)-1)) U (lk ob)) ?_)
    have ho2:0<=(((i1:Int)-1):Int)/\(((i1:Int)-1):Int)<((l).length:Int):=ob
    exact eX 13 (enc:=xH) eo jn ei sA ty101 hl.1 ho2 (dh ho2) U U U U kr (λq5 A5=>qB [14] U (tf 15 U U (rh ty3 A5 U) (qA [16,17] U (eX 18 (enc:=xH) eo jn ei sA ty101 hl.1 (nthZ aS) (fH aS) U U U U kr (λq6 A6=>qB [19] U (tf 20 U U (rh ty3 A6 U) (qR 21 3 U (aQ kr (hk1 _ ⟨U,U,(cb (show decide (y1.No<=(nthI l ((i1:Int)-1)).No)=((!(j0 y1))||(decide (0<(i1:Int))&&decide (y1.No<=(nthI l ((i1:Int)-1)).No)))from by rw[c2,c3]<;>rfl)),trivial⟩)))))))))
   have c3p:=of_decide_eq_false c3
   exact tk 10 U U (qR 11 13 U (aQ kr (hk1 _ ⟨U,U,(cb (show false=((!(j0 y1))||(decide (0<(i1:Int))&&decide (y1.No<=(nthI l ((i1:Int)-1)).No)))from by rw[c2,c3]<;>rfl)),trivial⟩)))
  refine ae hs6 U (λc4 hs7=>?_) (λc4 hs8=>?_)
  .exact sr (an (nretP [I 180] (ci hs7)))
  exact aI (qT 3 U (oi i1 U (an (ag1 hs8))))
 rintro i1 hd1 gu hx e
 exact qK 6 [] U (fO gu U (qO 3 U (hx _ rd)))
theorem qm(h:HF)(er:Int)  : Ret prog 157 [I er] h (.bool (fM er)):=by
 refine sT func157 U ntmps157 U λX hM hX hF=>?_
 have hs0:fM er=fM er:=rfl
 refine qT 9 U (bA 3 [5,6,7,8] 5 8 (decide (er<1099511627776)) U (λc1 hk1=>?_) (λe=>?_))
 .exact av (qO 2 U (hk1 _ U))
 exact an (nretP [.bool (decide (0<=er)&&decide (er<1099511627776))] (cs hs0))
theorem D8(rec:Expr->Int->Int)(h:HF)(x:Expr)(gv:de)(limit:Int)(hrec:∀(h:HF)(qx:Expr)(ly:de)(qlimit:Int)(hqx:jF h qx ly)(_:qx.dep<x.dep),Ret prog 366 [.agg (zC qx ly).toArray,I qlimit] h (I (rec qx qlimit)))(hx:jF h x gv):Ret prog 366 [.agg (zC x gv).toArray,I limit] h (I (dD.F rec x limit)):=by
 refine sT func366 U ntmps366 U λX hM hX hF=>?_
 have hs0:dD.F rec x limit=dD.F rec x limit:=rfl
 refine sr (cz (λb1=>qO 11 U ?_))
 refine lp1 x.L (λi w=>[(1,I limit),(2,Q b1),(5,I w),(6,I (i:Int))]) ([(b1,O (zC x gv) 62)]) (λs1 i w=>(dD.L1 rec limit (dD.K1)) s1 w) 1 hx.list.1.1 hs0 ?_ ?_ ?_
 .rintro i1 fa ft hs1 e
  exact sr (qO 3 U (nretP [I fa] (ci hs1)))
 .rintro i1 fa y1 rz1 hd1 df aS dZ gy hs3 hx1 ag1 e
  refine qK 7 [0] U (tO df U (qO 6 U (ae hs3 U (λc2 hs4=>?_) (λc2 hs5=>?_))))
  .have c2p:=of_decide_eq_true c2
   exact qK 8 [0] U (aB (iR lW ty62 hx.list.1 aS U U U (λ_ _ _ e=>e) (λq2 r2 A2 ok2=>dq ty62 A2 U U (qO 3 U (aj call366 (hrec _ _ _ (vC .i64 (limit-fa)) ok2 (aAn (gp hd1))) U (qO 6 U (oi i1 U (qO 2 U (ag1 (vC .i64 (fa+(rec y1 (vC .i64 (limit-fa))))) hs4)))))))))
  have c2p:=of_decide_eq_false c2
  exact md U (hx1 i1 fa hs5)
 rintro i1 fa hd1 gu hx e
 exact qK 7 [0] U (fO gu U (qO 8 U (hx _ rd)))
theorem tN:∀(m:Nat)(h:HF)(x:Expr)(gv:de)(limit:Int)(_:x.dep<=m)(hx:jF h x gv),Ret prog 366 [.agg (zC x gv).toArray,I limit] h (I (dD.go m x limit))
 |0,h,x,gv,limit,hd,hx=>absurd hd (Nat.not_le.2 (aBh _))
 |m+1,h,x,gv,limit,hd,hx=>D8 (dD.go m) h x gv limit (λqh_ qx ly qlimit qhx qd=>tN m qh_ qx ly qlimit ob qhx) hx
theorem Fk(h:HF)(x:Expr)(gv:de)(limit:Int)(hx:jF h x gv):Ret prog 366 [.agg (zC x gv).toArray,I limit] h (I (dD x limit)):=tN _ h x gv limit (kF _) hx
theorem D9(rec:Expr->Int)(h:HF)(x:Expr)(gv:de)(hrec:∀(h:HF)(qx:Expr)(ly:de)(hqx:jF h qx ly)(_:qx.dep<x.dep),Ret prog 367 [.agg (zC qx ly).toArray] h (I (rec qx)))(hx:jF h x gv):Ret prog 367 [.agg (zC x gv).toArray] h (I (bj.F rec x)):=by
 refine sT func367 U ntmps367 U λX hM hX hF=>?_
 have hs0:bj.F rec x=bj.F rec x:=rfl
 refine sr (cz (λb1=>qO 11 U ?_))
 refine lp1 x.L (λi w=>[(1,Q b1),(3,I w),(4,I (i:Int))]) ([(b1,O (zC x gv) 62)]) (λs1 i w=>(bj.L1 rec (bj.K1)) s1 w) 0 hx.list.1.1 hs0 ?_ ?_ ?_
 .rintro i1 iQ ft hs1 e
  exact sr (qO 4 U (nretP [I (vC .i64 (iQ+1))] (ci hs1)))
 .rintro i1 iQ y1 rz1 hd1 df aS dZ gy hs3 hx1 ag1 e
  exact qK 7 [0] U (tO df U (qL 10 [0] U (aB (iR lW ty62 hx.list.1 aS U U U (λ_ _ _ e=>e) (λq2 r2 A2 ok2=>dq ty62 A2 U U (aj call367 (hrec _ _ _ ok2 (aAn (gp hd1))) U (aB (fK (QY U U) (qO 5 U (oi i1 U (an (ag1 (max iQ (rec y1)) hs3))))))))))))
 rintro i1 iQ hd1 gu hx e
 exact qK 7 [0] U (fO gu U (qO 3 U (hx _ rd)))
theorem tP:∀(m:Nat)(h:HF)(x:Expr)(gv:de)(_:x.dep<=m)(hx:jF h x gv),Ret prog 367 [.agg (zC x gv).toArray] h (I (bj.go m x))
 |0,h,x,gv,hd,hx=>absurd hd (Nat.not_le.2 (aBh _))
 |m+1,h,x,gv,hd,hx=>D9 (bj.go m) h x gv (λqh_ qx ly qhx qd=>tP m qh_ qx ly ob qhx) hx
theorem Fl(h:HF)(x:Expr)(gv:de)(hx:jF h x gv):Ret prog 367 [.agg (zC x gv).toArray] h (I (bj x)):=tP _ h x gv (kF _) hx
theorem xz(h:HF)(x:Expr)(gv:de)(hx:jF h x gv):Ret prog 338 [.agg (zC x gv).toArray] h (.bool (jZ x)):=by
 refine sT func338 U ntmps338 U λX hM hX hF=>?_
 have hs0:jZ x=jZ x:=rfl
 refine sr (cz (λb1=>qO 4 U (cI 0 ty62 U U U (aj call366 (Fk _ _ _ 256 hx) U (qO 2 U (ce 4 [6,7,8,9,10] 6 10 (decide (16<(bj x))) U (λc1 hk1=>?_) (λe=>?_)))))))
 .exact cI 0 ty62 U U U (aj call367 (Fl _ _ _ hx) U (qO 2 U (hk1 _ U)))
 exact an (nretP [.bool (decide (256<(dD x 256))||decide (16<(bj x)))] (cs hs0))
theorem BM(h:HF)(p:Policy)(ie:fd)(hp:vP h p ie):Ret prog 304 [.agg (xE p ie).toArray] h (.bool (fh p)):=by
 refine sT func304 U ntmps304 U λX hM hX hF=>?_
 have hs0:fh p=fh p:=rfl
 refine sr (cz (λb1=>qL 10 [0] U (ce 5 [8,9,10,11,12,13] 8 13 (decide (16<(p.Kinds.length:Int))) U (λc1 hk1=>?_) (λe=>?_))))
 .exact qL 5 [0] U (hk1 _ U)
 refine av (ce 5 [14,15,16,17,18,19] 14 19 (decide (16<(p.Rules.length:Int))) U (λc2 hk2=>?_) (λe=>?_))
 .exact qL 5 [0] U (hk2 _ U)
 refine av (ce 4 [20,21,22,23,24] 20 24 (jZ p.Change) U (λc3 hk3=>?_) (λe=>?_))
 .exact qL 1 [] U (cI 0 ty62 U U U (aj call338 (xz _ _ _ hp.Change) U (eU U (hk3 _ U))))
 refine aJ (ae hs0 U (λc4 hs1=>?_) (λc4 hs2=>?_))
 .exact sr (an (nretP [.bool true] (cs hs1)))
 refine qT 6 U ?_
 refine lp0 p.Rules (λi=>[(1,Q b1),(3,I (i:Int))]) ([(b1,O (xE p ie) 64)]) (λs1 i=>(fh.L1 (fh.K1)) s1) hp.Rules.1.1 hs2 ?_ ?_ ?_
 .rintro i1 ft hs4 e
  exact sr (an (nretP [.bool false] (cs hs4)))
 .rintro i1 y1 rz1 hd1 df aS dZ gy hs6 hx1 ag1 e
  refine qK 7 [0] U (tO df U (qL 10 [0] U (aB (iR wL ty79 hp.Rules.1 aS U U U (λ_ _ _ e=>e) (λq2 r2 A2 ok2=>qL 1 [] U (AO (j:=3) ty62 A2 U U (aj call338 (xz _ _ _ ok2.Expr) U (aJ (ae hs6 U (λc6 hs7=>?_) (λc6 hs8=>?_))))))))))
  .exact sr (an (nretP [.bool true] (cs hs7)))
  exact aI (qT 3 U (oi i1 U (an (ag1 hs8))))
 rintro i1 hd1 gu hx e
 exact qK 7 [0] U (fO gu U (qO 3 U (hx _ rd)))
theorem wy(h:HF)(c:Int)  : Ret prog 379 [Y c] h (.bool (ld c)):=by
 refine sT func379 U ntmps379 U λX hM hX hF=>?_
 have hs0:ld c=ld c:=rfl
 refine qT 9 U (bA 3 [5,6,7,8] 5 8 (decide (c<=122)) U (λc1 hk1=>?_) (λe=>?_))
 .exact av (qO 2 U (hk1 _ U))
 refine av (ce 7 [9,10,11,12,13,14,15,16] 9 16 (decide (65<=c)&&decide (c<=90)) U (λc2 hk2=>?_) (λe=>?_))
 .refine qO 3 U (bA 3 [12,13,14,15] 12 15 (decide (c<=90)) U (λc3 hk3=>?_) (λe=>?_))
  .exact av (qO 2 U (hk3 _ U))
  exact eU U (hk2 _ U)
 exact an (nretP [.bool ((decide (97<=c)&&decide (c<=122))||(decide (65<=c)&&decide (c<=90)))] (cs hs0))
theorem Ed(h:HF)(c:Int)  : Ret prog 386 [Y c] h (.bool (mY c)):=by
 refine sT func386 U ntmps386 U λX hM hX hF=>?_
 have hs0:mY c=mY c:=rfl
 refine qT 9 U (bA 3 [5,6,7,8] 5 8 (decide (c<=57)) U (λc1 hk1=>?_) (λe=>?_))
 .exact av (qO 2 U (hk1 _ U))
 exact an (nretP [.bool (decide (48<=c)&&decide (c<=57))] (cs hs0))
theorem GY(h:HF)(c:Int)  : Ret prog 380 [Y c] h (.bool (qg c)):=by
 refine sT func380 U ntmps380 U λX hM hX hF=>?_
 have hs0:qg c=qg c:=rfl
 refine qT 7 U (aj call379 (wy h c) U (av (ce 3 [5,6,7,8] 5 8 (mY c) U (λc1 hk1=>?_) (λe=>?_))))
 .exact av (aj call386 (Ed h c) U (eU U (hk1 _ U)))
 refine av (ce 3 [9,10,11,12] 9 12 (c==95) U (λc2 hk2=>?_) (λe=>?_))
 .exact av (qO 2 U (hk2 _ U))
 exact an (nretP [.bool (((ld c)||(mY c))||(c==95))] (cs hs0))
theorem GZ(h:HF)(s:ByteArray)  : Ret prog 368 [.string s] h (.bool (gN s)):=by
 refine sT func368 U ntmps368 U λX hM hX hF=>?_
 have hs0:gN s=gN s:=rfl
 refine qT 8 U (aB (fK (CQ Bt U) (qO 2 U (ce 4 [7,8,9,10,11] 7 11 (decide (32<(s.size:Int))) U (λc1 hk1=>?_) (λe=>?_)))))
 .exact av (aB (fK (CQ Bt U) (qO 2 U (hk1 _ U))))
 refine av (ce 5 [12,13,14,15,16,17] 12 17 (!(ld ((s.data.getD (0:Int).toNat 0).toNat:Int))) U (λc2 hk2=>?_) (λe=>?_))
 .refine av ?_
  have ho1:0<=(0:Int)/\(0:Int)<(s.size:Int):=ob
  exact aB (fK (IK Bt U U ho1) (aj call379 (wy h ((s.data.getD (0:Int).toNat 0).toNat:Int)) U (qO 2 U (hk2 _ U))))
 refine aJ (ae hs0 U (λc3 hs1=>?_) (λc3 hs2=>?_))
 .exact sr (an (nretP [.bool false] (cs hs1)))
 refine qT 6 U ?_
 refine iX (ι:=Nat) (λi=>[]) (λi=>h) (λi=>[]) (λi=>i<=(qH s.size).length/\gN s=((gN.K1))) ?_ (λhx1=>?_)
 .rintro i1 ⟨ft,hs4⟩ e
  exact sr (an (nretP [.bool true] (cs hs4)))
 refine kY (ι:=Nat×List Nat) (λi=>[(0,.string s),(3,I (i.1:Int))]) (λi=>h) (λi=>[]) (λi=>(qH s.size).drop i.1=i.2/\i.1<=(qH s.size).length/\gN s=((gN.L1 s (gN.K1)) i.2 i.1)) (λi=>i.2.length) (0,(qH s.size)) rd sw ⟨U,zN _,hs2⟩ ?_
 rintro⟨i1,s1⟩ ⟨hd1,ft,hs6⟩ ag1 e
 rcases s1 with _|⟨y1,rz1⟩
 .have gu:decide ((i1:Int)<(s.size:Int))=false:=by simpa using ni hd1
  exact el (qT 4 U (aB (fK (CQ Bt U) (fO gu U (qO 3 U (hx1 i1 _ ⟨ft,hs6⟩ trivial))))))
 have df:decide ((i1:Int)<(s.size:Int))=true:=by simpa using tj hd1
 have dZ:i1<s.size:=by simpa using iB hd1
 refine qT 5 U (aB (fK (CQ Bt U) (tO df U (qO 9 U ?_))))
 have ho3:0<=((i1:Int):Int)/\((i1:Int):Int)<(s.size:Int):=ob
 refine aB (fK (IK Bt U U ho3) (aj call380 (GY h ((s.data.getD ((i1:Int):Int).toNat 0).toNat:Int)) U (qO 2 U (ae hs6 U (λc5 hs8=>?_) (λc5 hs9=>?_)))))
 .exact sr (an (nretP [.bool false] (cs hs8)))
 exact aI (qT 3 U (oi i1 U (an (ag1 ((i1+1),rz1) _ (Nat.lt_succ_self _) ⟨kO hd1,iB hd1,hs9⟩ rd))))
theorem GS(h:HF)(s:ByteArray)  : Ret prog 369 [.string s] h (.bool (nB s)):=by
 refine sT func369 U ntmps369 U λX hM hX hF=>?_
 have hs0:nB s=nB s:=rfl
 refine qT 16 U (ae hs0 U (λc1 hs1=>?_) (λc1 hs2=>?_))
 .refine aI (ae hs1 U (λc2 hs3=>?_) (λc2 hs4=>?_))
  .exact sr (an (nretP [.bool true] (cs hs3)))
  exact aI (qT 5 U (nretP [.bool false] (cs hs4)))
 refine qT 5 U (ae hs2 U (λc3 hs7=>?_) (λc3 hs8=>?_))
 .refine aI (ae hs7 U (λc4 hs9=>?_) (λc4 hs10=>?_))
  .exact sr (an (nretP [.bool true] (cs hs9)))
  exact aI (qT 5 U (nretP [.bool false] (cs hs10)))
 refine qT 5 U (ae hs8 U (λc5 hs13=>?_) (λc5 hs14=>?_))
 .refine aI (ae hs13 U (λc6 hs15=>?_) (λc6 hs16=>?_))
  .exact sr (an (nretP [.bool true] (cs hs15)))
  exact aI (qT 5 U (nretP [.bool false] (cs hs16)))
 refine qT 5 U (ae hs14 U (λc7 hs19=>?_) (λc7 hs20=>?_))
 .refine aI (ae hs19 U (λc8 hs21=>?_) (λc8 hs22=>?_))
  .exact sr (an (nretP [.bool true] (cs hs21)))
  exact aI (qT 5 U (nretP [.bool false] (cs hs22)))
 refine qT 5 U (ae hs20 U (λc9 hs25=>?_) (λc9 hs26=>?_))
 .refine aI (ae hs25 U (λc10 hs27=>?_) (λc10 hs28=>?_))
  .exact sr (an (nretP [.bool true] (cs hs27)))
  exact aI (qT 5 U (nretP [.bool false] (cs hs28)))
 refine qT 5 U (ae hs26 U (λc11 hs31=>?_) (λc11 hs32=>?_))
 .refine aI (ae hs31 U (λc12 hs33=>?_) (λc12 hs34=>?_))
  .exact sr (an (nretP [.bool true] (cs hs33)))
  exact aI (qT 5 U (nretP [.bool false] (cs hs34)))
 refine qT 5 U (ae hs32 U (λc13 hs37=>?_) (λc13 hs38=>?_))
 .refine aI (ae hs37 U (λc14 hs39=>?_) (λc14 hs40=>?_))
  .exact sr (an (nretP [.bool true] (cs hs39)))
  exact aI (qT 5 U (nretP [.bool false] (cs hs40)))
 refine qT 5 U (ae hs38 U (λc15 hs43=>?_) (λc15 hs44=>?_))
 .refine aI (ae hs43 U (λc16 hs45=>?_) (λc16 hs46=>?_))
  .exact sr (an (nretP [.bool true] (cs hs45)))
  exact aI (qT 5 U (nretP [.bool false] (cs hs46)))
 refine qT 5 U (ae hs44 U (λc17 hs49=>?_) (λc17 hs50=>?_))
 .refine aI (ae hs49 U (λc18 hs51=>?_) (λc18 hs52=>?_))
  .exact sr (an (nretP [.bool true] (cs hs51)))
  exact aI (qT 5 U (nretP [.bool false] (cs hs52)))
 refine qT 5 U (ae hs50 U (λc19 hs55=>?_) (λc19 hs56=>?_))
 .refine aI (ae hs55 U (λc20 hs57=>?_) (λc20 hs58=>?_))
  .exact sr (an (nretP [.bool true] (cs hs57)))
  exact aI (qT 5 U (nretP [.bool false] (cs hs58)))
 refine qT 5 U (ae hs56 U (λc21 hs61=>?_) (λc21 hs62=>?_))
 .refine aI (ae hs61 U (λc22 hs63=>?_) (λc22 hs64=>?_))
  .exact sr (an (nretP [.bool true] (cs hs63)))
  exact aI (qT 5 U (nretP [.bool false] (cs hs64)))
 refine qT 5 U (ae hs62 U (λc23 hs67=>?_) (λc23 hs68=>?_))
 .refine aI (ae hs67 U (λc24 hs69=>?_) (λc24 hs70=>?_))
  .exact sr (an (nretP [.bool true] (cs hs69)))
  exact aI (qT 5 U (nretP [.bool false] (cs hs70)))
 refine qT 5 U (ae hs68 U (λc25 hs73=>?_) (λc25 hs74=>?_))
 .refine aI (ae hs73 U (λc26 hs75=>?_) (λc26 hs76=>?_))
  .exact sr (an (nretP [.bool true] (cs hs75)))
  exact aI (qT 5 U (nretP [.bool false] (cs hs76)))
 refine qT 5 U (ae hs74 U (λc27 hs79=>?_) (λc27 hs80=>?_))
 .refine aI (ae hs79 U (λc28 hs81=>?_) (λc28 hs82=>?_))
  .exact sr (an (nretP [.bool true] (cs hs81)))
  exact aI (qT 5 U (nretP [.bool false] (cs hs82)))
 refine qT 5 U (ae hs80 U (λc29 hs85=>?_) (λc29 hs86=>?_))
 .refine aI (ae hs85 U (λc30 hs87=>?_) (λc30 hs88=>?_))
  .exact sr (an (nretP [.bool true] (cs hs87)))
  exact aI (qT 5 U (nretP [.bool false] (cs hs88)))
 refine qT 4 U (ae hs86 U (λc31 hs91=>?_) (λc31 hs92=>?_))
 .exact sr (an (nretP [.bool true] (cs hs91)))
 exact aI (qT 5 U (nretP [.bool false] (cs hs92)))
theorem Ag(h:HF)(s:ByteArray)  : Ret prog 339 [.string s] h (.bool (mW s)):=by
 refine sT func339 U ntmps339 U λX hM hX hF=>?_
 have hs0:mW s=mW s:=rfl
 refine qT 7 U (aj call368 (GZ h s) U (av (bA 4 [5,6,7,8,9] 5 9 (!(nB s)) U (λc1 hk1=>?_) (λe=>?_))))
 .exact av (aj call369 (GS h s) U (qO 2 U (hk1 _ U)))
 exact an (nretP [.bool ((gN s)&&(!(nB s)))] (cs hs0))
theorem sN(h:HF)(l:List ByteArray)(eu:Option Addr)(et:Nat)(s:ByteArray)(hl:SlC aAQ h eu et l):Ret prog 343 [.slice eu l.length et,.string s] h (I (eA l s)):=by
 refine sT func343 U ntmps343 U λX hM hX hF=>?_
 have hs0:eA l s=eA l s:=rfl
 refine qT 9 U ?_
 refine lp0 l (λi=>[(0,.slice eu l.length et),(1,.string s),(5,I (i:Int))]) ([]) (λs1 i=>(eA.L1 s (eA.K1)) s1 i) hl.1.1 hs0 ?_ ?_ ?_
 .rintro i1 ft hs1 e
  exact sr (an (nretP [I (-1)] (ci hs1)))
 .rintro i1 y1 rz1 hd1 df aS dZ gy hs3 hx1 ag1 e
  refine qK 6 [] U (tO df U (qO 9 U (aB (iF (λy=>[.string y]) wp ty9 hl.1 aS U U U (λq2 A2=>dB ty9 A2 U (qO 3 U (ae hs3 U (λc2 hs4=>?_) (λc2 hs5=>?_))))))))
  .exact sr (qO 3 U (nretP [I (i1:Int)] (ci hs4)))
  exact aI (qT 3 U (oi i1 U (an (ag1 hs5))))
 rintro i1 hd1 gu hx e
 exact qK 6 [] U (fO gu U (qO 3 U (hx _ rd)))
theorem tL(h:HF)(l:List ByteArray)(eu:Option Addr)(et:Nat)(hl:SlC aAQ h eu et l):Ret prog 340 [.slice eu l.length et] h (.bool (eH l)):=by
 refine sT func340 U ntmps340 U λX hM hX hF=>?_
 have hs0:eH l=eH l:=rfl
 refine qT 9 U ?_
 refine lp0 l (λi=>[(0,.slice eu l.length et),(3,I (i:Int))]) ([]) (λs1 i=>(eH.L1 l (eH.K1)) s1 i) hl.1.1 hs0 ?_ ?_ ?_
 .rintro i1 ft hs1 e
  exact sr (an (nretP [.bool true] (cs hs1)))
 .rintro i1 y1 rz1 hd1 df aS dZ gy hs3 hx1 ag1 e
  refine qK 6 [] U (tO df U (qO 9 U (aB (iF (λy=>[.string y]) wp ty9 hl.1 aS U U U (λq3 A3=>dB ty9 A3 U (aj call339 (Ag h y1) U (qO 2 U (ce 9 [16,17,18,19,20,21,22,23,24,25] 16 25 ((eA l y1) != (i1:Int)) U (λc1 hk1=>?_) (λe=>?_)))))))))
  .exact av (qO 2 U (aB (iF (λy=>[.string y]) wp ty9 hl.1 aS U U U (λq4 A4=>dB ty9 A4 U (aj call343 (sN _ _ _ _ y1 hl) U (qO 3 U (hk1 _ U)))))))
  refine aJ (ae hs3 U (λc2 hs4=>?_) (λc2 hs5=>?_))
  .exact sr (an (nretP [.bool false] (cs hs4)))
  exact aI (qT 3 U (oi i1 U (an (ag1 hs5))))
 rintro i1 hd1 gu hx e
 exact qK 6 [] U (fO gu U (qO 3 U (hx _ rd)))
theorem D6(rec:List ByteArray->Expr->Bool)(h:HF)(offices:List ByteArray)(dI:Option Addr)(dH:Nat)(x:Expr)(gv:de)(hrec:∀(h:HF)(qoffices:List ByteArray)(ki:Option Addr)(kh:Nat)(qx:Expr)(ly:de)(hqoffices:SlC aAQ h ki kh qoffices)(hqx:jF h qx ly)(_:qx.dep<x.dep),Ret prog 341 [.slice ki qoffices.length kh,.agg (zC qx ly).toArray] h (.bool (rec qoffices qx)))(hoffices:SlC aAQ h dI dH offices)(hx:jF h x gv):Ret prog 341 [.slice dI offices.length dH,.agg (zC x gv).toArray] h (.bool (bP.F rec offices x)):=by
 refine sT func341 U ntmps341 U λX hM hX hF=>?_
 have hs0:bP.F rec offices x=bP.F rec offices x:=rfl
 refine sr (cz (λb1=>qL 9 [0] U (ce 4 [9,10,11,12,13] 9 13 (x.Kind==2) U (λc1 hk1=>?_) (λe=>?_))))
 .exact qL 4 [0] U (hk1 _ U)
 refine av (bA 6 [14,15,16,17,18,19,20] 14 20 (decide ((eA offices x.Name)<0)) U (λc2 hk2=>?_) (λe=>?_))
 .exact qL 3 [0] U (aj call343 (sN _ _ _ _ x.Name hoffices) U (qO 2 U (hk2 _ U)))
 refine aJ (ae hs0 U (λc3 hs1=>?_) (λc3 hs2=>?_))
 .exact sr (an (nretP [.bool false] (cs hs1)))
 refine qT 6 U ?_
 refine lp0 x.L (λi=>[(0,.slice dI offices.length dH),(3,Q b1),(5,I (i:Int))]) ([(b1,O (zC x gv) 62)]) (λs1 i=>(bP.L1 rec offices (bP.K1)) s1) hx.list.1.1 hs2 ?_ ?_ ?_
 .rintro i1 ft hs4 e
  exact sr (an (nretP [.bool true] (cs hs4)))
 .rintro i1 y1 rz1 hd1 df aS dZ gy hs6 hx1 ag1 e
  refine qK 7 [0] U (tO df U (qL 11 [0] U (aB (iR lW ty62 hx.list.1 aS U U U (λ_ _ _ e=>e) (λq2 r2 A2 ok2=>dq ty62 A2 U U (aj call341 (hrec _ _ _ _ _ _ hoffices ok2 (aAn (gp hd1))) U (qO 2 U (ae hs6 U (λc5 hs7=>?_) (λc5 hs8=>?_)))))))))
  .exact sr (an (nretP [.bool false] (cs hs7)))
  exact aI (qT 3 U (oi i1 U (an (ag1 hs8))))
 rintro i1 hd1 gu hx e
 exact qK 7 [0] U (fO gu U (qO 3 U (hx _ rd)))
theorem tK:∀(m:Nat)(h:HF)(offices:List ByteArray)(dI:Option Addr)(dH:Nat)(x:Expr)(gv:de)(_:x.dep<=m)(hoffices:SlC aAQ h dI dH offices)(hx:jF h x gv),Ret prog 341 [.slice dI offices.length dH,.agg (zC x gv).toArray] h (.bool (bP.go m offices x))
 |0,h,offices,dI,dH,x,gv,hd,hoffices,hx=>absurd hd (Nat.not_le.2 (aBh _))
 |m+1,h,offices,dI,dH,x,gv,hd,hoffices,hx=>D6 (bP.go m) h offices dI dH x gv (λqh_ qoffices ki kh qx ly qhoffices qhx qd=>tK m qh_ qoffices ki kh qx ly ob qhoffices qhx) hoffices hx
theorem xy(h:HF)(offices:List ByteArray)(dI:Option Addr)(dH:Nat)(x:Expr)(gv:de)(hoffices:SlC aAQ h dI dH offices)(hx:jF h x gv):Ret prog 341 [.slice dI offices.length dH,.agg (zC x gv).toArray] h (.bool (bP offices x)):=tK _ h offices dI dH x gv (kF _) hoffices hx
theorem Fj(h:HF)(p:Policy)(ie:fd)(hp:vP h p ie):Ret prog 305 [.agg (xE p ie).toArray] h (.bool (gX p)):=by
 refine sT func305 U ntmps305 U λX hM hX hF=>?_
 have hs0:gX p=gX p:=rfl
 refine sr (cz (λb1=>qL 7 [0] U (aj call339 (Ag h p.Name) U (qO 2 U (ce 5 [8,9,10,11,12,13] 8 13 (!(eH p.Offices)) U (λc1 hk1=>?_) (λe=>?_))))))
 .exact qL 2 [0] U (aj call340 (tL _ _ _ _ hp.Offices) U (qO 2 U (hk1 _ U)))
 refine av (ce 5 [14,15,16,17,18,19] 14 19 (!(eH p.Kinds)) U (λc2 hk2=>?_) (λe=>?_))
 .exact qL 2 [0] U (aj call340 (tL _ _ _ _ hp.Kinds) U (qO 2 U (hk2 _ U)))
 refine aJ (ae hs0 U (λc3 hs1=>?_) (λc3 hs2=>?_))
 .exact sr (an (nretP [.bool false] (cs hs1)))
 refine qT 6 U ?_
 let z1:Nat×Obj:=(b1,O (xE p ie) 64)
 refine lp0 p.Rules (λi=>[(1,Q b1),(3,I (i:Int))]) ([z1]) (λs1 i=>(gX.L1 p (gX.K1 p)) s1) hp.Rules.1.1 hs2 ?_ ?_ ?_
 .rintro i1 ft hs4 e
  exact qK 5 [0] U (cI 0 ty62 U U U (aj call341 (xy _ _ _ _ _ _ hp.Offices hp.Change) U (an (nretP [.bool (bP p.Offices p.Change)] (cs hs4)))))
 .rintro i1 y1 rz1 hd1 df aS dZ gy hs6 hx1 ag1 e
  refine qK 7 [0] U (tO df U (qO 6 U (eT ([z1]) mixed kr jn (λeo _=>qB [0] U (tf 1 U U (rj 0 ty58 U U U) (qB [2] U (tf 3 U U (rj 0 ty59 U U U) (tm 4 U (j9 5 eo jn wL ty79 hp.Rules.1 (nthZ aS) (fH aS) U U U U kr (λq2 cs2 A2 ln2 rr2=>?_))))))))))
  obtain⟨r2,rfl,ok2⟩:=rr2
  refine qB [6] U (tf 7 U U (λ_ _ hj=>O7 3 ty62 (A2.mono hj.1) U U) (tn 8 U (fo call341 (xy _ _ _ _ _ _ hp.Offices ok2.Expr) U (⟨jn,(qA [9] U (aQ kr (ae hs6 U (λc5 hs7=>?_) (λc5 hs8=>?_))))⟩))))
  .exact sr (an (nretP [.bool false] (cs hs7)))
  exact aI (qT 3 U (oi i1 U (an (ag1 hs8))))
 rintro i1 hd1 gu hx e
 exact qK 7 [0] U (fO gu U (qO 3 U (hx _ rd)))
theorem xI(rec:Expr->Bool->Bool)(h:HF)(x:Expr)(gv:de)(upto:Bool)(hrec:∀(h:HF)(qx:Expr)(ly:de)(qupto:Bool)(hqx:jF h qx ly)(_:qx.dep<x.dep),Ret prog 342 [.agg (zC qx ly).toArray,.bool qupto] h (.bool (rec qx qupto)))(hx:jF h x gv):Ret prog 342 [.agg (zC x gv).toArray,.bool upto] h (.bool (aF.F rec x upto)):=by
 refine sT func342 U ntmps342 U λX hM hX hF=>?_
 have hs0:aF.F rec x upto=aF.F rec x upto:=rfl
 refine sr (cz (λb1=>qO 7 U ?_))
 refine lp0 x.L (λi=>[(1,.bool upto),(2,Q b1),(5,I (i:Int))]) ([(b1,O (zC x gv) 62)]) (λs1 i=>(aF.L1 rec upto (aF.K1 x upto)) s1) hx.list.1.1 hs0 ?_ ?_ ?_
 .rintro i1 ft hs1 e
  refine qK 12 [0] U (ae hs1 U (λc3 hs2=>?_) (λc3 hs3=>?_))
  .refine qK 6 [0] U (bA 5 [28,29,30,31,32,33] 28 33 ((x.L.length:Int)==0) U (λc4 hk1=>?_) (λe=>?_))
   .exact qL 5 [0] U (hk1 _ U)
   exact an (nretP [.bool ((x.N==0)&&((x.L.length:Int)==0))] (cs hs2))
  refine qT 5 U (ae hs3 U (λc5 hs5=>?_) (λc5 hs6=>?_))
  .refine qK 6 [0] U (bA 4 [39,40,41,42,43] 39 43 (decide (x.N<=4096)) U (λc6 hk2=>?_) (λe=>?_))
   .exact qL 4 [0] U (hk2 _ U)
   refine av (bA 5 [44,45,46,47,48,49] 44 49 ((x.L.length:Int)==0) U (λc7 hk3=>?_) (λe=>?_))
   .exact qL 5 [0] U (hk3 _ U)
   exact an (nretP [.bool ((decide (1<=x.N)&&decide (x.N<=4096))&&((x.L.length:Int)==0))] (cs hs5))
  refine qT 5 U (ae hs6 U (λc8 hs8=>?_) (λc8 hs9=>?_))
  .refine qK 6 [0] U (bA 5 [55,56,57,58,59,60] 55 60 (decide (1<=(x.L.length:Int))) U (λc9 hk4=>?_) (λe=>?_))
   .exact qL 5 [0] U (hk4 _ U)
   refine av (bA 5 [61,62,63,64,65,66] 61 66 (decide ((x.L.length:Int)<=16)) U (λc10 hk5=>?_) (λe=>?_))
   .exact qL 5 [0] U (hk5 _ U)
   refine av (bA 4 [67,68,69,70,71] 67 71 (decide (1<=x.N)) U (λc11 hk6=>?_) (λe=>?_))
   .exact qL 4 [0] U (hk6 _ U)
   refine av (bA 7 [72,73,74,75,76,77,78,79] 72 79 (decide (x.N<=(x.L.length:Int))) U (λc12 hk7=>?_) (λe=>?_))
   .exact qL 7 [0,0] U (hk7 _ U)
   exact an (nretP [.bool (((((x.Name.toList==(⟨#[]⟩:ByteArray).toList)&&decide (1<=(x.L.length:Int)))&&decide ((x.L.length:Int)<=16))&&decide (1<=x.N))&&decide (x.N<=(x.L.length:Int)))] (cs hs8))
  refine qT 5 U (ae hs9 U (λc13 hs11=>?_) (λc13 hs12=>?_))
  .refine qT 4 U (bA 4 [83,84,85,86,87] 83 87 (x.Name.toList==(⟨#[]⟩:ByteArray).toList) U (λc14 hk8=>?_) (λe=>?_))
   .exact qL 4 [0] U (hk8 _ U)
   refine av (bA 5 [88,89,90,91,92,93] 88 93 ((x.L.length:Int)==2) U (λc15 hk9=>?_) (λe=>?_))
   .exact qL 5 [0] U (hk9 _ U)
   refine av (bA 4 [94,95,96,97,98] 94 98 (decide (0<=x.N)) U (λc16 hk10=>?_) (λe=>?_))
   .exact qL 4 [0] U (hk10 _ U)
   refine av (bA 4 [99,100,101,102,103] 99 103 (decide (x.N<=1099511627776)) U (λc17 hk11=>?_) (λe=>?_))
   .exact qL 4 [0] U (hk11 _ U)
   exact an (nretP [.bool ((((upto&&(x.Name.toList==(⟨#[]⟩:ByteArray).toList))&&((x.L.length:Int)==2))&&decide (0<=x.N))&&decide (x.N<=1099511627776))] (cs hs11))
  exact aI (qT 5 U (nretP [.bool false] (cs hs12)))
 .rintro i1 y1 rz1 hd1 df aS dZ gy hs15 hx1 ag1 e
  refine qK 7 [0] U (tO df U (qL 10 [0] U (aB (iR lW ty62 hx.list.1 aS U U U (λ_ _ _ e=>e) (λq2 r2 A2 ok2=>dq ty62 A2 U U (av (aj call342 (hrec _ _ _ upto ok2 (aAn (gp hd1))) U (qO 2 U (ae hs15 U (λc18 hs16=>?_) (λc18 hs17=>?_))))))))))
  .exact sr (an (nretP [.bool false] (cs hs16)))
  exact aI (qT 3 U (oi i1 U (an (ag1 hs17))))
 rintro i1 hd1 gu hx e
 exact qK 7 [0] U (fO gu U (qO 3 U (hx _ rd)))
theorem pi:∀(m:Nat)(h:HF)(x:Expr)(gv:de)(upto:Bool)(_:x.dep<=m)(hx:jF h x gv),Ret prog 342 [.agg (zC x gv).toArray,.bool upto] h (.bool (aF.go m x upto))
 |0,h,x,gv,upto,hd,hx=>absurd hd (Nat.not_le.2 (aBh _))
 |m+1,h,x,gv,upto,hd,hx=>xI (aF.go m) h x gv upto (λqh_ qx ly qupto qhx qd=>pi m qh_ qx ly qupto ob qhx) hx
theorem rG(h:HF)(x:Expr)(gv:de)(upto:Bool)(hx:jF h x gv):Ret prog 342 [.agg (zC x gv).toArray,.bool upto] h (.bool (aF x upto)):=pi _ h x gv upto (kF _) hx
theorem D7(h:HF)(p:Policy)(ie:fd)(hp:vP h p ie):Ret prog 306 [.agg (xE p ie).toArray] h (.bool (fW p)):=by
 refine sT func306 U ntmps306 U λX hM hX hF=>?_
 have hs0:fW p=fW p:=rfl
 refine sr (cz (λb1=>qL 10 [0] U (ce 8 [9,10,11,12,13,14,15,16,17] 9 17 ((p.Rules.length:Int) != (p.Kinds.length:Int)) U (λc1 hk1=>?_) (λe=>?_))))
 .exact qL 8 [0,0] U (hk1 _ U)
 refine av (ce 4 [18,19,20,21,22] 18 22 (decide (p.Mode<1)) U (λc2 hk2=>?_) (λe=>?_))
 .exact qL 4 [0] U (hk2 _ U)
 refine av (ce 4 [23,24,25,26,27] 23 27 (decide (4<p.Mode)) U (λc3 hk3=>?_) (λe=>?_))
 .exact qL 4 [0] U (hk3 _ U)
 refine aJ (ae hs0 U (λc4 hs1=>?_) (λc4 hs2=>?_))
 .exact sr (an (nretP [.bool false] (cs hs1)))
 refine qT 6 U ?_
 let z1:Nat×Obj:=(b1,O (xE p ie) 64)
 refine lp0 p.Rules (λi=>[(1,Q b1),(3,I (i:Int))]) ([z1]) (λs1 i=>(fW.L1 p (fW.K1 p)) s1 i) hp.Rules.1.1 hs2 ?_ ?_ ?_
 .rintro i1 ft hs4 e
  exact qK 3 [] U (cI 0 ty62 U U U (aj call342 (rG _ _ _ false hp.Change) U (an (nretP [.bool (aF p.Change false)] (cs hs4)))))
 .rintro i1 y1 rz1 hd1 df aS dZ gy hs6 hx1 ag1 e
  refine qK 7 [0] U (tO df U (qL 10 [0] U (aB (iR wL ty79 hp.Rules.1 aS U U U (λ_ _ _ e=>e) (λq3 r2 A3 ok2=>dq ty79 A3 U U (aT zc79 (λb3=>aL 0 ty79 U U U U U U (qO 2 U ?_))))))))
  refine oE [(1,Q b1),(3,I (i1:Int)),(63,.bool ((((!(y1.Kind.toList==(nthI p.Kinds (i1:Int)).toList))||decide (y1.Think<0))||decide (1099511627776<=y1.Think))||(!(aF y1.Expr true))))] (λe=>?_) (λhk4=>?_)
  rotate_left
  .refine eT ([(b3,O (Rule.cells y1 r2) 79),z1]) mixed kr jn (λeo _=>?_)
   refine qB [0] U (tf 1 U U (rj 0 ty9 U U U) (qB [2] U (tf 3 U U (rj 1 ty58 U U U) (tm 4 U ?_))))
   have ho2:0<=((i1:Int):Int)/\((i1:Int):Int)<((p.Kinds).length:Int):=ob
   refine eX 5 (enc:=λy=>[.string y]) eo jn ei wp ty9 hp.Kinds.1 ho2 (dh ho2) U U U U kr (λq4 A4=>tf 6 U U (rh ty9 A4 U) (qA [7,8] U ?_))
   refine dx 48 U (λc5=>?_) (λc5=>?_)
   .exact tk 9 U U (qR 10 14 U (aQ kr (hk4 _ ⟨U,U,(cb (show true=((((!(y1.Kind.toList==(nthI p.Kinds (i1:Int)).toList))||decide (y1.Think<0))||decide (1099511627776<=y1.Think))||(!(aF y1.Expr true)))from by rw[c5]<;>rfl)),trivial⟩)))
   refine qB [9] U (tf 10 U U (rj 0 ty3 U U U) (qR 11 3 U ?_))
   refine dx 53 U (λc6=>?_) (λc6=>?_)
   .have c6p:=of_decide_eq_true c6
    exact tk 14 U U (qR 15 9 U (aQ kr (hk4 _ ⟨U,U,(cb (show true=((((!(y1.Kind.toList==(nthI p.Kinds (i1:Int)).toList))||decide (y1.Think<0))||decide (1099511627776<=y1.Think))||(!(aF y1.Expr true)))from by rw[c5,c6]<;>rfl)),trivial⟩)))
   have c6p:=of_decide_eq_false c6
   refine qB [14] U (tf 15 U U (rj 0 ty3 U U U) (qR 16 3 U ?_))
   refine dx 58 U (λc7=>?_) (λc7=>?_)
   .have c7p:=of_decide_eq_true c7
    exact tk 19 U U (qR 20 4 U (aQ kr (hk4 _ ⟨U,U,(cb (show true=((((!(y1.Kind.toList==(nthI p.Kinds (i1:Int)).toList))||decide (y1.Think<0))||decide (1099511627776<=y1.Think))||(!(aF y1.Expr true)))from by rw[c5,c6,c7]<;>rfl)),trivial⟩)))
   have c7p:=of_decide_eq_false c7
   exact tf 19 U U (λ_ _ _=>tQ QF U) (tf 20 U U (λ_ _ hj=>kg ty62 U (hj.nth (i:=0) U) U) (tn 21 U (fo call342 (rG _ _ _ true ok2.Expr) U (⟨jn,qA [22,23] U (aQ kr (hk4 _ ⟨U,U,(cb (show(!(aF y1.Expr true))=((((!(y1.Kind.toList==(nthI p.Kinds (i1:Int)).toList))||decide (y1.Think<0))||decide (1099511627776<=y1.Think))||(!(aF y1.Expr true)))from by rw[c5,c6,c7]<;>rfl)),trivial⟩))⟩))))
  refine ae hs6 U (λc8 hs7=>?_) (λc8 hs8=>?_)
  .exact sr (an (nretP [.bool false] (cs hs7)))
  exact aI (qT 3 U (oi i1 U (an (aX (L':=[z1]) js (ag1 hs8)))))
 rintro i1 hd1 gu hx e
 exact qK 7 [0] U (fO gu U (qO 3 U (hx _ rd)))
theorem AF(rec:List ByteArray->Expr->Expr)(h:HF)(offices:List ByteArray)(dI:Option Addr)(dH:Nat)(x:Expr)(gv:de)(hrec:∀(h:HF)(qoffices:List ByteArray)(ki:Option Addr)(kh:Nat)(qx:Expr)(ly:de)(hqoffices:SlC aAQ h ki kh qoffices)(hqx:jF h qx ly)(hsz:qx.dep<=2000000)(_:qx.dep<x.dep),jv prog 307 [.slice ki qoffices.length kh,.agg (zC qx ly).toArray] h (λv h'=>∃(rr0:de),v=.agg (zC (rec qoffices qx) rr0).toArray/\jF h' (rec qoffices qx) rr0))(hoffices:SlC aAQ h dI dH offices)(hx:jF h x gv)(hsz:x.dep<=2000000):jv prog 307 [.slice dI offices.length dH,.agg (zC x gv).toArray] h (λv h'=>∃(rr0:de),v=.agg (zC (ah.F rec offices x) rr0).toArray/\jF h' (ah.F rec offices x) rr0):=by
 refine cZ func307 U ntmps307 U λX hM hX=>?_
 have hs0:ah.F rec offices x=ah.F rec offices x:=rfl
 have hln:=Expr.Po x
 refine sr (cz (λb1=>aT zc62 (λb2=>qO 3 U (cI 1 ty62 U U U (aT zc62 (λb3=>aL 0 ty62 U U U U U U (qL 4 [] U (cM 0 ty3 U U U U U U (qL 8 [2] U (ce 4 [12,13,14,15,16] 12 16 (x.Kind==2) U (λc1 hk1=>?_) (λe=>?_)))))))))))
 .exact qL 4 [2] U (hk1 _ U)
 refine aJ (ae hs0 U (λc2 hs1=>?_) (λc2 hs2=>?_))
 .refine qK 4 [2] U (aj call343 (sN _ _ _ _ x.Name hoffices) U (qL 1 [] U (cM 0 ty3 U U U U U U (qL 4 [] U (cM 0 ty60 U U U U U U (qO 6 U ?_))))))
  let z1:Nat×Obj:=(b2,O [I 0,I 0,I 0,.string (⟨#[]⟩:ByteArray),.slice none 0 0] 62)
  let z3:Nat×Obj:=(b1,O (zC x gv) 62)
  refine lp2 x.L (λi w=>[(0,.slice dI offices.length dH),(3,Q b1),(4,Q b2),(5,Q b3),(6,I (i:Int))]) (λw=>w.2.2.2.2) (λw=>[(b3,O [I x.Kind,I x.N,I (eA offices x.Name),.string x.Name,.slice w.2.1 w.1.length w.2.2.1] 62),z1,z3]++(w.2.2.2.1)) (λi w=>dC aAL 62 w.2.2.2.2 w.1 w.2.1 w.2.2.1 w.2.2.2.1/\w.1.length<=0+i/\vM h w.2.2.2.2) (λs1 i w=>(ah.L1 rec offices (ah.K1 offices x)) s1 w.1) ([],none,0,[],h) hx.list.1.1 hs1 ⟨dC.nil,lo,lf⟩ ?_ ?_ ?_
  .rintro i1 ⟨kI,nL,nK,Ch,hh1⟩ ft hs3 ⟨s8,Gb,hl1⟩ e
   try dsimp only at s8 Gb hl1
   let z5:Nat×Obj:=(b3,O [I x.Kind,I x.N,I (eA offices x.Name),.string x.Name,.slice nL kI.length nK] 62)
   let z19:Nat×Obj:=(b2,O [I x.Kind,I x.N,I (eA offices x.Name),.string x.Name,.slice nL kI.length nK] 62)
   refine sr (cI 0 ty62 U U U (aL 1 ty62 U U U U U U (gJ (L':=[z5,z19,z3]++(Ch)) U (aJ (eK aAq ([z5,z19,z3]) Ch ([]) ap hM s8 (λh3 hle3 sl2=>?_))))))
   have hs4:ah.F rec offices x=(xG x.Kind x.N (eA offices x.Name) x.Name kI):=hs3
   exact kX [.agg (jB [I x.Kind,I x.N,I (eA offices x.Name),.string x.Name,.slice nL kI.length nK])] func307 U ⟨⟨1,_,_,_,_,U,U,.inl ⟨ty62,U⟩⟩,trivial⟩ ⟨(de.mk nL nK),congrArg (λr:Expr=>(.agg (zC r (de.mk nL nK)).toArray:Value)) hs4.symm,(by rw[hs4];exact(show jF h3 (xG x.Kind x.N (eA offices x.Name) x.Name kI) (de.mk nL nK)from aAu sl2))⟩
  .rintro i1 ⟨kI,nL,nK,Ch,hh1⟩ y1 rz1 hd1 df aS dZ gy hs5 ⟨s8,Gb,hl1⟩ hx1 ag1 e
   try dsimp only at s8 Gb hl1
   have hdy:=aAn (gp hd1)
   refine qK 7 [2] U (tO df U (qO 5 U (eT ([z1,z3]) mixed kr jn (λeo _=>qB [0,2,3] U (tf 4 U U (rj 1 ty60 U U U) (tm 5 U (j9 6 eo jn lW ty62 (hx.list.mono aAq hl1).1 (nthZ aS) (fH aS) U U U U kr (λq2 cs2 A2 ln2 rr3=>?_))))))))
   obtain⟨r2,rfl,ok3⟩:=rr3
   refine tf 7 U U (λ_ _ hj=>mg ty62 (A2.mono hj.1) U U) ?_
   refine og 1 8 kr U U ?_ ?_ 
   .refine fK (AI ty60 U (oC (i:=0) U) U) (⟨jn,tn 8 U (cT Jo (hrec _ _ _ _ _ _ (hoffices.mono aBv hl1) ok3 ob (aAn (gp hd1))) U (λv2 h4 hle4 hp2=>?_))⟩)
    obtain⟨rr4,rfl,ok4⟩:=hp2
    refine⟨jl hle4,tu hle4 (tn 9 U (bB (cells:=[I ((rec offices y1).Kind),I ((rec offices y1).N),I ((rec offices y1).No),.string ((rec offices y1).Name),.slice rr4.mt ((rec offices y1).L.length) rr4.mu]) lW ty62 zc62 U U kr (λb5=>⟨jn,?_⟩)))⟩
    let z6:Nat×Obj:=(b3,O [I x.Kind,I x.N,I (eA offices x.Name),.string x.Name,.slice nL kI.length nK] 62)
    let z15:Nat×Obj:=(b5,O [I ((rec offices y1).Kind),I ((rec offices y1).N),I ((rec offices y1).No),.string ((rec offices y1).Name),.slice rr4.mt ((rec offices y1).L.length) rr4.mu] 62)
    exact tn 10 U (dy aBM ([z15,z6,z1,z3]) ([]) (λG=>[z15,z6,z1,z3]++G) ap (λ_=>ap) lW ty62 zc62 U bytes62 (s8.mono aAq hle4) U U (eF 0 U (cE (R:=aAL) (rec offices y1) U ⟨rr4,U,ok4⟩)) lo lo (λob2 oc2 G2 gr2=>⟨jn,qB [11] U (tn 12 U (lm 1 ty60 U U U U U U (⟨jn,aQ kr (qT 3 U (oi i1 U (an (aX (L':=[(b3,O [I x.Kind,I x.N,I (eA offices x.Name),.string x.Name,.slice ob2 ((kI++[(rec offices y1)]).length) oc2] 62),z1,z3]++G2) js (ag1 ((kI++[(rec offices y1)]),ob2,oc2,G2,h4) hs5 ⟨gr2,lo,(hl1.t hle4)⟩)))))⟩)))⟩))
   refine cT Jo (hrec _ _ _ _ _ _ (hoffices.mono aBv hl1) ok3 ob (aAn (gp hd1))) U (λv3 h5 hle5 hp3=>?_)
   obtain⟨rr5,rfl,ok5⟩:=hp3
   refine⟨jl hle5,tu hle5 ?_⟩
   refine og 1 9 kr U U ?_ ?_ 
   .refine fK (AI ty60 U (oC (i:=0) U) U) (⟨jn,tn 9 U (bB (cells:=[I ((rec offices y1).Kind),I ((rec offices y1).N),I ((rec offices y1).No),.string ((rec offices y1).Name),.slice rr5.mt ((rec offices y1).L.length) rr5.mu]) lW ty62 zc62 U U kr (λb6=>⟨jn,?_⟩))⟩)
    let z7:Nat×Obj:=(b3,O [I x.Kind,I x.N,I (eA offices x.Name),.string x.Name,.slice nL kI.length nK] 62)
    let z16:Nat×Obj:=(b6,O [I ((rec offices y1).Kind),I ((rec offices y1).N),I ((rec offices y1).No),.string ((rec offices y1).Name),.slice rr5.mt ((rec offices y1).L.length) rr5.mu] 62)
    exact tn 10 U (dy aBM ([z16,z7,z1,z3]) ([]) (λG=>[z16,z7,z1,z3]++G) ap (λ_=>ap) lW ty62 zc62 U bytes62 (s8.mono aAq hle5) U U (eF 0 U (cE (R:=aAL) (rec offices y1) U ⟨rr5,U,ok5⟩)) lo lo (λob3 oc3 G3 gr3=>⟨jn,qB [11] U (tn 12 U (lm 1 ty60 U U U U U U (⟨jn,aQ kr (qT 3 U (oi i1 U (an (aX (L':=[(b3,O [I x.Kind,I x.N,I (eA offices x.Name),.string x.Name,.slice ob3 ((kI++[(rec offices y1)]).length) oc3] 62),z1,z3]++G3) js (ag1 ((kI++[(rec offices y1)]),ob3,oc3,G3,h5) hs5 ⟨gr3,lo,(hl1.t hle5)⟩)))))⟩)))⟩))
   refine bB (cells:=[I ((rec offices y1).Kind),I ((rec offices y1).N),I ((rec offices y1).No),.string ((rec offices y1).Name),.slice rr5.mt ((rec offices y1).L.length) rr5.mu]) lW ty62 zc62 U U kr (λb7=>⟨jn,tn 1 U (fK (AI ty60 U (oC (i:=1) U) U) (⟨jn,?_⟩))⟩)
   let z8:Nat×Obj:=(b3,O [I x.Kind,I x.N,I (eA offices x.Name),.string x.Name,.slice nL kI.length nK] 62)
   let z17:Nat×Obj:=(b7,O [I ((rec offices y1).Kind),I ((rec offices y1).N),I ((rec offices y1).No),.string ((rec offices y1).Name),.slice rr5.mt ((rec offices y1).L.length) rr5.mu] 62)
   exact tn 10 U (dy aBM ([z17,z8,z1,z3]) ([]) (λG=>[z17,z8,z1,z3]++G) ap (λ_=>ap) lW ty62 zc62 U bytes62 (s8.mono aAq hle5) U U (eF 0 U (cE (R:=aAL) (rec offices y1) U ⟨rr5,U,ok5⟩)) lo lo (λob4 oc4 G4 gr4=>⟨jn,qB [11] U (tn 12 U (lm 1 ty60 U U U U U U (⟨jn,aQ kr (qT 3 U (oi i1 U (an (aX (L':=[(b3,O [I x.Kind,I x.N,I (eA offices x.Name),.string x.Name,.slice ob4 ((kI++[(rec offices y1)]).length) oc4] 62),z1,z3]++G4) js (ag1 ((kI++[(rec offices y1)]),ob4,oc4,G4,h5) hs5 ⟨gr4,lo,(hl1.t hle5)⟩)))))⟩)))⟩))
  rintro i1 ⟨kI,nL,nK,Ch,hh1⟩ hd1 gu hx e
  exact qK 7 [2] U (fO gu U (qO 3 U (hx _ rd)))
 refine qK 4 [] U (cM 0 ty60 U U U U U U (qO 6 U ?_))
 let z2:Nat×Obj:=(b2,O [I 0,I 0,I 0,.string (⟨#[]⟩:ByteArray),.slice none 0 0] 62)
 let z4:Nat×Obj:=(b1,O (zC x gv) 62)
 refine lp2 x.L (λi w=>[(0,.slice dI offices.length dH),(3,Q b1),(4,Q b2),(5,Q b3),(6,I (i:Int))]) (λw=>w.2.2.2.2) (λw=>[(b3,O [I x.Kind,I x.N,I 0,.string x.Name,.slice w.2.1 w.1.length w.2.2.1] 62),z2,z4]++(w.2.2.2.1)) (λi w=>dC aAL 62 w.2.2.2.2 w.1 w.2.1 w.2.2.1 w.2.2.2.1/\w.1.length<=0+i/\vM h w.2.2.2.2) (λs2 i w=>(ah.L2 rec offices (ah.K2 x)) s2 w.1) ([],none,0,[],h) hx.list.1.1 hs2 ⟨dC.nil,lo,lf⟩ ?_ ?_ ?_
 .rintro i2 ⟨kz,nJ,nI,Cc,hh2⟩ AZ hs6 ⟨s5,F5,hl2⟩ e
  try dsimp only at s5 F5 hl2
  let z9:Nat×Obj:=(b3,O [I x.Kind,I x.N,I 0,.string x.Name,.slice nJ kz.length nI] 62)
  let z20:Nat×Obj:=(b2,O [I x.Kind,I x.N,I 0,.string x.Name,.slice nJ kz.length nI] 62)
  refine sr (cI 0 ty62 U U U (aL 1 ty62 U U U U U U (gJ (L':=[z9,z20,z4]++(Cc)) U (aJ (eK aAq ([z9,z20,z4]) Cc ([]) ap hM s5 (λh8 hle8 sl4=>?_))))))
  have hs7:ah.F rec offices x=(xG x.Kind x.N 0 x.Name kz):=hs6
  exact kX [.agg (jB [I x.Kind,I x.N,I 0,.string x.Name,.slice nJ kz.length nI])] func307 U ⟨⟨1,_,_,_,_,U,U,.inl ⟨ty62,U⟩⟩,trivial⟩ ⟨(de.mk nJ nI),congrArg (λr:Expr=>(.agg (zC r (de.mk nJ nI)).toArray:Value)) hs7.symm,(by rw[hs7];exact(show jF h8 (xG x.Kind x.N 0 x.Name kz) (de.mk nJ nI)from aAu sl4))⟩
 .rintro i2 ⟨kz,nJ,nI,Cc,hh2⟩ y2 rz2 hd2 yx sZ FZ LQ hs8 ⟨s5,F5,hl2⟩ hx2 ag2 e
  try dsimp only at s5 F5 hl2
  have hdy:=aAn (gp hd2)
  refine qK 7 [2] U (tO yx U (qO 5 U (eT ([z2,z4]) mixed kr jn (λmK _=>qB [0,2,3] U (tf 4 U U (rj 1 ty60 U U U) (tm 5 U (j9 6 mK jn lW ty62 (hx.list.mono aAq hl2).1 (nthZ sZ) (fH sZ) U U U U kr (λq4 cs4 A4 ln4 rr8=>?_))))))))
  obtain⟨r4,rfl,ok8⟩:=rr8
  refine tf 7 U U (λ_ _ hj=>mg ty62 (A4.mono hj.1) U U) ?_
  refine og 1 8 kr U U ?_ ?_ 
  .refine fK (AI ty60 U (oC (i:=0) U) U) (⟨jn,tn 8 U (cT Jo (hrec _ _ _ _ _ _ (hoffices.mono aBv hl2) ok8 ob (aAn (gp hd2))) U (λv5 h9 hle9 hp5=>?_))⟩)
   obtain⟨rr9,rfl,ok9⟩:=hp5
   refine⟨jl hle9,tu hle9 (tn 9 U (bB (cells:=[I ((rec offices y2).Kind),I ((rec offices y2).N),I ((rec offices y2).No),.string ((rec offices y2).Name),.slice rr9.mt ((rec offices y2).L.length) rr9.mu]) lW ty62 zc62 U U kr (λb9=>⟨jn,?_⟩)))⟩
   let z10:Nat×Obj:=(b3,O [I x.Kind,I x.N,I 0,.string x.Name,.slice nJ kz.length nI] 62)
   let z18:Nat×Obj:=(b9,O [I ((rec offices y2).Kind),I ((rec offices y2).N),I ((rec offices y2).No),.string ((rec offices y2).Name),.slice rr9.mt ((rec offices y2).L.length) rr9.mu] 62)
   exact tn 10 U (dy aBM ([z18,z10,z2,z4]) ([]) (λG=>[z18,z10,z2,z4]++G) ap (λ_=>ap) lW ty62 zc62 U bytes62 (s5.mono aAq hle9) U U (eF 0 U (cE (R:=aAL) (rec offices y2) U ⟨rr9,U,ok9⟩)) lo lo (λob6 oc6 G6 gr6=>⟨jn,qB [11] U (tn 12 U (lm 1 ty60 U U U U U U (⟨jn,aQ kr (qT 3 U (oi i2 U (an (aX (L':=[(b3,O [I x.Kind,I x.N,I 0,.string x.Name,.slice ob6 ((kz++[(rec offices y2)]).length) oc6] 62),z2,z4]++G6) js (ag2 ((kz++[(rec offices y2)]),ob6,oc6,G6,h9) hs8 ⟨gr6,lo,(hl2.t hle9)⟩)))))⟩)))⟩))
  refine cT Jo (hrec _ _ _ _ _ _ (hoffices.mono aBv hl2) ok8 ob (aAn (gp hd2))) U (λv6 h10 hle10 hp6=>?_)
  obtain⟨rr10,rfl,ok10⟩:=hp6
  refine⟨jl hle10,tu hle10 ?_⟩
  refine og 1 9 kr U U ?_ ?_ 
  .refine fK (AI ty60 U (oC (i:=0) U) U) (⟨jn,tn 9 U (bB (cells:=[I ((rec offices y2).Kind),I ((rec offices y2).N),I ((rec offices y2).No),.string ((rec offices y2).Name),.slice rr10.mt ((rec offices y2).L.length) rr10.mu]) lW ty62 zc62 U U kr (λb10=>⟨jn,?_⟩))⟩)
   let z11:Nat×Obj:=(b3,O [I x.Kind,I x.N,I 0,.string x.Name,.slice nJ kz.length nI] 62)
   let z13:Nat×Obj:=(b10,O [I ((rec offices y2).Kind),I ((rec offices y2).N),I ((rec offices y2).No),.string ((rec offices y2).Name),.slice rr10.mt ((rec offices y2).L.length) rr10.mu] 62)
   exact tn 10 U (dy aBM ([z13,z11,z2,z4]) ([]) (λG=>[z13,z11,z2,z4]++G) ap (λ_=>ap) lW ty62 zc62 U bytes62 (s5.mono aAq hle10) U U (eF 0 U (cE (R:=aAL) (rec offices y2) U ⟨rr10,U,ok10⟩)) lo lo (λob7 oc7 G7 gr7=>⟨jn,qB [11] U (tn 12 U (lm 1 ty60 U U U U U U (⟨jn,aQ kr (qT 3 U (oi i2 U (an (aX (L':=[(b3,O [I x.Kind,I x.N,I 0,.string x.Name,.slice ob7 ((kz++[(rec offices y2)]).length) oc7] 62),z2,z4]++G7) js (ag2 ((kz++[(rec offices y2)]),ob7,oc7,G7,h10) hs8 ⟨gr7,lo,(hl2.t hle10)⟩)))))⟩)))⟩))
  refine bB (cells:=[I ((rec offices y2).Kind),I ((rec offices y2).N),I ((rec offices y2).No),.string ((rec offices y2).Name),.slice rr10.mt ((rec offices y2).L.length) rr10.mu]) lW ty62 zc62 U U kr (λb11=>⟨jn,tn 1 U (fK (AI ty60 U (oC (i:=1) U) U) (⟨jn,?_⟩))⟩)
  let z12:Nat×Obj:=(b3,O [I x.Kind,I x.N,I 0,.string x.Name,.slice nJ kz.length nI] 62)
  let z14:Nat×Obj:=(b11,O [I ((rec offices y2).Kind),I ((rec offices y2).N),I ((rec offices y2).No),.string ((rec offices y2).Name),.slice rr10.mt ((rec offices y2).L.length) rr10.mu] 62)
  exact tn 10 U (dy aBM ([z14,z12,z2,z4]) ([]) (λG=>[z14,z12,z2,z4]++G) ap (λ_=>ap) lW ty62 zc62 U bytes62 (s5.mono aAq hle10) U U (eF 0 U (cE (R:=aAL) (rec offices y2) U ⟨rr10,U,ok10⟩)) lo lo (λob8 oc8 G8 gr8=>⟨jn,qB [11] U (tn 12 U (lm 1 ty60 U U U U U U (⟨jn,aQ kr (qT 3 U (oi i2 U (an (aX (L':=[(b3,O [I x.Kind,I x.N,I 0,.string x.Name,.slice ob8 ((kz++[(rec offices y2)]).length) oc8] 62),z2,z4]++G8) js (ag2 ((kz++[(rec offices y2)]),ob8,oc8,G8,h10) hs8 ⟨gr8,lo,(hl2.t hle10)⟩)))))⟩)))⟩))
 rintro i2 ⟨kz,nJ,nI,Cc,hh2⟩ hd2 Pt hx e
 exact qK 7 [2] U (fO Pt U (qO 3 U (hx _ rd)))
theorem qX:∀(m:Nat)(h:HF)(offices:List ByteArray)(dI:Option Addr)(dH:Nat)(x:Expr)(gv:de)(_:x.dep<=m)(hoffices:SlC aAQ h dI dH offices)(hx:jF h x gv)(hsz:x.dep<=2000000),jv prog 307 [.slice dI offices.length dH,.agg (zC x gv).toArray] h (λv h'=>∃(rr0:de),v=.agg (zC (ah.go m offices x) rr0).toArray/\jF h' (ah.go m offices x) rr0)
 |0,h,offices,dI,dH,x,gv,hd,hoffices,hx,hsz=>absurd hd (Nat.not_le.2 (aBh _))
 |m+1,h,offices,dI,dH,x,gv,hd,hoffices,hx,hsz=>AF (ah.go m) h offices dI dH x gv (λqh_ qoffices ki kh qx ly qhoffices qhx qhsz qd=>qX m qh_ qoffices ki kh qx ly ob qhoffices qhx qhsz) hoffices hx hsz
theorem tJ(h:HF)(offices:List ByteArray)(dI:Option Addr)(dH:Nat)(x:Expr)(gv:de)(hoffices:SlC aAQ h dI dH offices)(hx:jF h x gv)(hsz:x.dep<=2000000):jv prog 307 [.slice dI offices.length dH,.agg (zC x gv).toArray] h (λv h'=>∃(rr0:de),v=.agg (zC (ah offices x) rr0).toArray/\jF h' (ah offices x) rr0):=qX _ h offices dI dH x gv (kF _) hoffices hx hsz
theorem CO(h:HF)(p:Policy)(ie:fd)(hp:vP h p ie)(hsm:smP p):jv prog 249 [.agg (xE p ie).toArray] h (λv h'=>∃(rr0:fd),v=.tuple #[.agg (xE ((dR p).1) rr0).toArray,I ((dR p).2)]/\vP h' ((dR p).1) rr0):=by
 refine cZ Mj U ntmps249 U λX hM hX=>?_
 have hs0:dR p=dR p:=rfl
 have hsc:=hsm.change
 have hsr:=hsm.rules
 refine sr (cz (λb1=>aT zc64 (λb2=>qO 5 U (cI 1 ty64 U U U (aj call304 (BM _ _ _ hp) U (aJ (ae hs0 U (λc1 hs1=>?_) (λc1 hs2=>?_))))))))
 .refine sr (aB (fV (cells:=[.string (⟨#[]⟩:ByteArray),.slice none 0 0,.slice none 0 0,.slice none 0 0,I 0,I 0,I 0,.string (⟨#[]⟩:ByteArray),.slice none 0 0,I 0]) (places:=[(0,1),(1,1),(2,1),(3,1),(4,5),(9,1)]) Mx zc64 kr kr (aL 0 ty64 U U U U U U (an ?_))))
  have hs3:dR p=((kN (⟨#[]⟩:ByteArray) ([]) ([]) ([]) (xG 0 0 0 (⟨#[]⟩:ByteArray) ([])) 0),2):=hs1
  exact kX [.agg (jB [.string (⟨#[]⟩:ByteArray),.slice none 0 0,.slice none 0 0,.slice none 0 0,I 0,I 0,I 0,.string (⟨#[]⟩:ByteArray),.slice none 0 0,I 0]),I 2] Mj U ⟨⟨0,_,_,_,_,U,U,.inl ⟨ty64,U⟩⟩,U,trivial⟩ ⟨(fd.mk none 0 none 0 none 0 (de.mk none 0)),congrArg (λr:(Policy×Int)=>(.tuple #[.agg (xE r.1 (fd.mk none 0 none 0 none 0 (de.mk none 0))).toArray,I r.2]:Value)) hs3.symm,(by rw[hs3];exact(show vP h (kN (⟨#[]⟩:ByteArray) ([]) ([]) ([]) (xG 0 0 0 (⟨#[]⟩:ByteArray) ([])) 0) (fd.mk none 0 none 0 none 0 (de.mk none 0))from⟨qF,qF,qF,(show jF h (xG 0 0 0 (⟨#[]⟩:ByteArray) ([])) (de.mk none 0)from aAu qF)⟩))⟩
 refine qT 4 U (cI 1 ty64 U U U (aj call305 (Fj _ _ _ hp) U (qO 2 U (ae hs2 U (λc2 hs4=>?_) (λc2 hs5=>?_)))))
 .refine sr (aB (fV (cells:=[.string (⟨#[]⟩:ByteArray),.slice none 0 0,.slice none 0 0,.slice none 0 0,I 0,I 0,I 0,.string (⟨#[]⟩:ByteArray),.slice none 0 0,I 0]) (places:=[(0,1),(1,1),(2,1),(3,1),(4,5),(9,1)]) Mx zc64 kr kr (aL 0 ty64 U U U U U U (an ?_))))
  have hs6:dR p=((kN (⟨#[]⟩:ByteArray) ([]) ([]) ([]) (xG 0 0 0 (⟨#[]⟩:ByteArray) ([])) 0),201):=hs4
  exact kX [.agg (jB [.string (⟨#[]⟩:ByteArray),.slice none 0 0,.slice none 0 0,.slice none 0 0,I 0,I 0,I 0,.string (⟨#[]⟩:ByteArray),.slice none 0 0,I 0]),I 201] Mj U ⟨⟨0,_,_,_,_,U,U,.inl ⟨ty64,U⟩⟩,U,trivial⟩ ⟨(fd.mk none 0 none 0 none 0 (de.mk none 0)),congrArg (λr:(Policy×Int)=>(.tuple #[.agg (xE r.1 (fd.mk none 0 none 0 none 0 (de.mk none 0))).toArray,I r.2]:Value)) hs6.symm,(by rw[hs6];exact(show vP h (kN (⟨#[]⟩:ByteArray) ([]) ([]) ([]) (xG 0 0 0 (⟨#[]⟩:ByteArray) ([])) 0) (fd.mk none 0 none 0 none 0 (de.mk none 0))from⟨qF,qF,qF,(show jF h (xG 0 0 0 (⟨#[]⟩:ByteArray) ([])) (de.mk none 0)from aAu qF)⟩))⟩
 refine qT 4 U (cI 1 ty64 U U U (aj call306 (D7 _ _ _ hp) U (qO 2 U (ae hs5 U (λc3 hs7=>?_) (λc3 hs8=>?_)))))
 .refine sr (aB (fV (cells:=[.string (⟨#[]⟩:ByteArray),.slice none 0 0,.slice none 0 0,.slice none 0 0,I 0,I 0,I 0,.string (⟨#[]⟩:ByteArray),.slice none 0 0,I 0]) (places:=[(0,1),(1,1),(2,1),(3,1),(4,5),(9,1)]) Mx zc64 kr kr (aL 0 ty64 U U U U U U (an ?_))))
  have hs9:dR p=((kN (⟨#[]⟩:ByteArray) ([]) ([]) ([]) (xG 0 0 0 (⟨#[]⟩:ByteArray) ([])) 0),200):=hs7
  exact kX [.agg (jB [.string (⟨#[]⟩:ByteArray),.slice none 0 0,.slice none 0 0,.slice none 0 0,I 0,I 0,I 0,.string (⟨#[]⟩:ByteArray),.slice none 0 0,I 0]),I 200] Mj U ⟨⟨0,_,_,_,_,U,U,.inl ⟨ty64,U⟩⟩,U,trivial⟩ ⟨(fd.mk none 0 none 0 none 0 (de.mk none 0)),congrArg (λr:(Policy×Int)=>(.tuple #[.agg (xE r.1 (fd.mk none 0 none 0 none 0 (de.mk none 0))).toArray,I r.2]:Value)) hs9.symm,(by rw[hs9];exact(show vP h (kN (⟨#[]⟩:ByteArray) ([]) ([]) ([]) (xG 0 0 0 (⟨#[]⟩:ByteArray) ([])) 0) (fd.mk none 0 none 0 none 0 (de.mk none 0))from⟨qF,qF,qF,(show jF h (xG 0 0 0 (⟨#[]⟩:ByteArray) ([])) (de.mk none 0)from aAu qF)⟩))⟩
 refine qT 3 U (cI 1 ty64 U U U (aT zc64 (λb3=>aL 0 ty64 U U U U U U (qL 4 [] U (cM 0 ty59 U U U U U U (qO 6 U ?_))))))
 let z4:Nat×Obj:=(b2,O [.string (⟨#[]⟩:ByteArray),.slice none 0 0,.slice none 0 0,.slice none 0 0,I 0,I 0,I 0,.string (⟨#[]⟩:ByteArray),.slice none 0 0,I 0] 64)
 let z7:Nat×Obj:=(b1,O (xE p ie) 64)
 refine lp2 p.Rules (λi w=>[(1,Q b1),(2,Q b2),(4,Q b3),(5,I (i:Int))]) (λw=>w.2.2.2.2) (λw=>[(b3,O [.string p.Name,.slice ie.i5 p.Kinds.length ie.iZ,.slice ie.gr p.Offices.length ie.gq,.slice w.2.1 w.1.length w.2.2.1,I p.Change.Kind,I p.Change.N,I p.Change.No,.string p.Change.Name,.slice ie.Change.mt p.Change.L.length ie.Change.mu,I p.Mode] 64),z4,z7]++(w.2.2.2.1)) (λi w=>dC Rule.rp 79 w.2.2.2.2 w.1 w.2.1 w.2.2.1 w.2.2.2.1/\w.1.length<=0+i/\vM h w.2.2.2.2) (λs1 i w=>(dR.L1 p (dR.K1 p)) s1 i w.1) ([],none,0,[],h) hp.Rules.1.1 hs8 ⟨dC.nil,lo,lf⟩ ?_ ?_ ?_
 .rintro i1 ⟨my,pC,pB,yB,hh1⟩ ft hs10 ⟨yA,Gc,hl1⟩ e
  try dsimp only at yA Gc hl1
  refine qK 5 [2] U (cI 2 ty62 U U U (aB (cT Jo (tJ _ _ _ _ _ _ (hp.Offices.mono aBv hl1) (hp.Change.mono hl1) ob) U (λv3 h4 hle4 hp3=>?_))))
  obtain⟨rr4,rfl,ok4⟩:=hp3
  let z2:Nat×Obj:=(b3,O [.string p.Name,.slice ie.i5 p.Kinds.length ie.iZ,.slice ie.gr p.Offices.length ie.gq,.slice pC my.length pB,I ((ah p.Offices p.Change).Kind),I ((ah p.Offices p.Change).N),I ((ah p.Offices p.Change).No),.string ((ah p.Offices p.Change).Name),.slice rr4.mt ((ah p.Offices p.Change).L.length) rr4.mu,I p.Mode] 64)
  let z3:Nat×Obj:=(b2,O [.string p.Name,.slice ie.i5 p.Kinds.length ie.iZ,.slice ie.gr p.Offices.length ie.gq,.slice pC my.length pB,I ((ah p.Offices p.Change).Kind),I ((ah p.Offices p.Change).N),I ((ah p.Offices p.Change).No),.string ((ah p.Offices p.Change).Name),.slice rr4.mt ((ah p.Offices p.Change).L.length) rr4.mu,I p.Mode] 64)
  refine qL 1 [] U (cM 0 ty62 U U U U U U (qO 3 U (cI 0 ty64 U U U (aL 1 ty64 U U U U U U (gJ (L':=[z2,z3,z7]++(yB)) U (an (eK aBz ([z2,z3,z7]) yB ([]) ap hM (yA.mono aBz hle4) (λh5 hle5 sl2=>?_))))))))
  have hs11:dR p=((kN p.Name p.Kinds p.Offices my (xG ((ah p.Offices p.Change).Kind) ((ah p.Offices p.Change).N) ((ah p.Offices p.Change).No) ((ah p.Offices p.Change).Name) ((ah p.Offices p.Change).L)) p.Mode),0):=hs10
  exact kX [.agg (xE (kN p.Name p.Kinds p.Offices my (xG ((ah p.Offices p.Change).Kind) ((ah p.Offices p.Change).N) ((ah p.Offices p.Change).No) ((ah p.Offices p.Change).Name) ((ah p.Offices p.Change).L)) p.Mode) (fd.mk ie.i5 ie.iZ ie.gr ie.gq pC pB (de.mk rr4.mt rr4.mu))).toArray,I 0] Mj U ⟨⟨1,_,_,_,_,U,U,.inl ⟨ty64,U⟩⟩,U,trivial⟩ ⟨(fd.mk ie.i5 ie.iZ ie.gr ie.gq pC pB (de.mk rr4.mt rr4.mu)),congrArg (λr:(Policy×Int)=>(.tuple #[.agg (xE r.1 (fd.mk ie.i5 ie.iZ ie.gr ie.gq pC pB (de.mk rr4.mt rr4.mu))).toArray,I r.2]:Value)) hs11.symm,(by rw[hs11];exact(show vP h5 (kN p.Name p.Kinds p.Offices my (xG ((ah p.Offices p.Change).Kind) ((ah p.Offices p.Change).N) ((ah p.Offices p.Change).No) ((ah p.Offices p.Change).Name) ((ah p.Offices p.Change).L)) p.Mode) (fd.mk ie.i5 ie.iZ ie.gr ie.gq pC pB (de.mk rr4.mt rr4.mu))from⟨(hp.Kinds.mono aBv ((hl1.t hle4).t hle5)),(hp.Offices.mono aBv ((hl1.t hle4).t hle5)),sl2,(show jF h5 (xG ((ah p.Offices p.Change).Kind) ((ah p.Offices p.Change).N) ((ah p.Offices p.Change).No) ((ah p.Offices p.Change).Name) ((ah p.Offices p.Change).L)) (de.mk rr4.mt rr4.mu)from aAu (ok4.list.mono aAq hle5))⟩))⟩
 .rintro i1 ⟨my,pC,pB,yB,hh1⟩ y1 rz1 hd1 df aS dZ gy hs12 ⟨yA,Gc,hl1⟩ hx1 ag1 e
  try dsimp only at yA Gc hl1
  have hsy:=hsm.2.1 y1 (gp hd1)
  refine qK 7 [2] U (tO df U (qL 9 [2] U ?_))
  let z1:Nat×Obj:=(b3,O [.string p.Name,.slice ie.i5 p.Kinds.length ie.iZ,.slice ie.gr p.Offices.length ie.gq,.slice pC my.length pB,I p.Change.Kind,I p.Change.N,I p.Change.No,.string p.Change.Name,.slice ie.Change.mt p.Change.L.length ie.Change.mu,I p.Mode] 64)
  refine av (aB (iR wL ty79 (hp.Rules.mono aBz hl1).1 aS U U U (λ_ _ _ e=>e) (λq2 r2 A2 ok5=>dq ty79 A2 U U (aT zc79 (λb6=>aL 0 ty79 U U U U U U (gJ (L':=[(b6,O (Rule.cells y1 r2) 79),z1,z4,z7]++(yB)) U (qL 5 [] U (cM 0 ty3 U U U U U U (qL 6 [3] U (cI 0 ty62 U U U (aB (cT Jo (tJ _ _ _ _ _ _ (hp.Offices.mono aBv hl1) ok5.Expr ob) U (λv4 h6 hle6 hp4=>?_)))))))))))))
  obtain⟨rr6,rfl,ok6⟩:=hp4
  refine qL 1 [] U (cM 0 ty62 U U U U U U (qL 4 [1] U (cI 0 ty79 U U U (aB (bB (cells:=[.string y1.Kind,I (i1:Int),I y1.Think,I ((ah p.Offices y1.Expr).Kind),I ((ah p.Offices y1.Expr).N),I ((ah p.Offices y1.Expr).No),.string ((ah p.Offices y1.Expr).Name),.slice rr6.mt ((ah p.Offices y1.Expr).L.length) rr6.mu]) wL ty79 zc79 U U kr (λb7=>?_))))))
  let z5:Nat×Obj:=(b7,O [.string y1.Kind,I (i1:Int),I y1.Think,I ((ah p.Offices y1.Expr).Kind),I ((ah p.Offices y1.Expr).N),I ((ah p.Offices y1.Expr).No),.string ((ah p.Offices y1.Expr).Name),.slice rr6.mt ((ah p.Offices y1.Expr).L.length) rr6.mu] 79)
  let z6:Nat×Obj:=(b6,O [.string y1.Kind,I (i1:Int),I y1.Think,I ((ah p.Offices y1.Expr).Kind),I ((ah p.Offices y1.Expr).N),I ((ah p.Offices y1.Expr).No),.string ((ah p.Offices y1.Expr).Name),.slice rr6.mt ((ah p.Offices y1.Expr).L.length) rr6.mu] 79)
  refine aB (dy Rule.em ([z5,z6,z1,z4,z7]) ([]) (λG=>[z5,z6,z1,z4,z7]++G) ap (λ_=>ap) wL ty79 zc79 U bytes79 (yA.mono aBz hle6) U U (eF 0 U (cE (R:=Rule.rp) (aBi y1.Kind (i1:Int) y1.Think (xG ((ah p.Offices y1.Expr).Kind) ((ah p.Offices y1.Expr).N) ((ah p.Offices y1.Expr).No) ((ah p.Offices y1.Expr).Name) ((ah p.Offices y1.Expr).L))) U ⟨(CJ.mk (de.mk rr6.mt rr6.mu)),U,(show Rule.ok h6 (aBi y1.Kind (i1:Int) y1.Think (xG ((ah p.Offices y1.Expr).Kind) ((ah p.Offices y1.Expr).N) ((ah p.Offices y1.Expr).No) ((ah p.Offices y1.Expr).Name) ((ah p.Offices y1.Expr).L))) (CJ.mk (de.mk rr6.mt rr6.mu))from⟨(show jF h6 (xG ((ah p.Offices y1.Expr).Kind) ((ah p.Offices y1.Expr).N) ((ah p.Offices y1.Expr).No) ((ah p.Offices y1.Expr).Name) ((ah p.Offices y1.Expr).L)) (de.mk rr6.mt rr6.mu)from aAu ok6.list)⟩)⟩)) lo lo (λob2 oc2 G2 gr2=>qL 1 [] U (cM 2 ty59 U U U U U U (qO 4 U (oi i1 U (an (aX (L':=[(b3,O [.string p.Name,.slice ie.i5 p.Kinds.length ie.iZ,.slice ie.gr p.Offices.length ie.gq,.slice ob2 ((my++[(aBi y1.Kind (i1:Int) y1.Think (xG ((ah p.Offices y1.Expr).Kind) ((ah p.Offices y1.Expr).N) ((ah p.Offices y1.Expr).No) ((ah p.Offices y1.Expr).Name) ((ah p.Offices y1.Expr).L)))]).length) oc2,I p.Change.Kind,I p.Change.N,I p.Change.No,.string p.Change.Name,.slice ie.Change.mt p.Change.L.length ie.Change.mu,I p.Mode] 64),z4,z7]++G2) js ?_)))))))
  exact ag1 ((my++[(aBi y1.Kind (i1:Int) y1.Think (xG ((ah p.Offices y1.Expr).Kind) ((ah p.Offices y1.Expr).N) ((ah p.Offices y1.Expr).No) ((ah p.Offices y1.Expr).Name) ((ah p.Offices y1.Expr).L)))]),ob2,oc2,G2,h6) hs12 ⟨gr2,lo,(hl1.t hle6)⟩
 rintro i1 ⟨my,pC,pB,yB,hh1⟩ hd1 gu hx e
 exact qK 7 [2] U (fO gu U (qO 3 U (hx _ rd)))
theorem sM(h:HF)(a:List ByteArray)(RK:Option Addr)(RJ:Nat)(jh:List ByteArray)(GG:Option Addr)(GF:Nat)(ha:SlC aAQ h RK RJ a)(vO:SlC aAQ h GG GF jh):Ret prog 308 [.slice RK a.length RJ,.slice GG jh.length GF] h (.bool (eE a jh)):=by
 refine sT func308 U ntmps308 U λX hM hX hF=>?_
 have hs0:eE a jh=eE a jh:=rfl
 refine qK 13 [] U (ae hs0 U (λc1 hs1=>?_) (λc1 hs2=>?_))
 .exact sr (an (nretP [.bool false] (cs hs1)))
 refine qT 6 U ?_
 refine lp0 a (λi=>[(0,.slice RK a.length RJ),(1,.slice GG jh.length GF),(5,I (i:Int))]) ([]) (λs1 i=>(eE.L1 jh (eE.K1)) s1 i) ha.1.1 hs2 ?_ ?_ ?_
 .rintro i1 ft hs4 e
  exact sr (an (nretP [.bool true] (cs hs4)))
 .rintro i1 y1 rz1 hd1 df aS dZ gy hs6 hx1 ag1 e
  refine qK 6 [] U (tO df U (qO 6 U (eT ([]) mixed kr jn (λeo _=>qA [0,1] U (eX 2 (enc:=λy=>[.string y]) eo jn ei wp ty9 ha.1 (nthZ aS) (fH aS) U U U U kr (λq3 A3=>tf 3 U U (rh ty9 A3 U) (qA [4,5] U ?_)))))))
  have ho2:0<=((i1:Int):Int)/\((i1:Int):Int)<((jh).length:Int):=ob
  refine eX 6 (enc:=λy=>[.string y]) eo jn ei wp ty9 vO.1 ho2 (dh ho2) U U U U kr (λq4 A4=>tf 7 U U (rh ty9 A4 U) (qA [8] U (aQ kr (ae hs6 U (λc3 hs7=>?_) (λc3 hs8=>?_)))))
  .exact sr (an (nretP [.bool false] (cs hs7)))
  exact aI (qT 3 U (oi i1 U (an (ag1 hs8))))
 rintro i1 hd1 gu hx e
 exact qK 6 [] U (fO gu U (qO 3 U (hx _ rd)))
theorem AG(rec:Expr->Expr->Bool)(h:HF)(a:Expr)(Hv:de)(jh:Expr)(oz:de)(hrec:∀(h:HF)(qa:Expr)(Qp:de)(Pc:Expr)(IL:de)(hqa:jF h qa Qp)(Sm:jF h Pc IL)(_:qa.dep<a.dep),Ret prog 309 [.agg (zC qa Qp).toArray,.agg (zC Pc IL).toArray] h (.bool (rec qa Pc)))(ha:jF h a Hv)(vO:jF h jh oz):Ret prog 309 [.agg (zC a Hv).toArray,.agg (zC jh oz).toArray] h (.bool (bh.F rec a jh)):=by
 refine sT func309 U ntmps309 U λX hM hX hF=>?_
 have hs0:bh.F rec a jh=bh.F rec a jh:=rfl
 refine sr (cz (λb1=>cz (λb2=>qL 11 [1,0] U (ce 6 [11,12,13,14,15,16,17] 11 17 (a.N != jh.N) U (λc1 hk1=>?_) (λe=>?_)))))
 .exact qL 6 [1,0] U (hk1 _ U)
 refine av (ce 6 [18,19,20,21,22,23,24] 18 24 (a.No != jh.No) U (λc2 hk2=>?_) (λe=>?_))
 .exact qL 6 [1,0] U (hk2 _ U)
 refine av (ce 6 [25,26,27,28,29,30,31] 25 31 (!(a.Name.toList==jh.Name.toList)) U (λc3 hk3=>?_) (λe=>?_))
 .exact qL 6 [1,0] U (hk3 _ U)
 refine av (ce 8 [32,33,34,35,36,37,38,39,40] 32 40 ((a.L.length:Int) != (jh.L.length:Int)) U (λc4 hk4=>?_) (λe=>?_))
 .exact qL 8 [1,0] U (hk4 _ U)
 refine aJ (ae hs0 U (λc5 hs1=>?_) (λc5 hs2=>?_))
 .exact sr (an (nretP [.bool false] (cs hs1)))
 refine qT 6 U ?_
 let z1:Nat×Obj:=(b2,O (zC jh oz) 62)
 let z2:Nat×Obj:=(b1,O (zC a Hv) 62)
 refine lp0 a.L (λi=>[(2,Q b1),(3,Q b2),(5,I (i:Int))]) ([z1,z2]) (λs1 i=>(bh.L1 rec jh (bh.K1)) s1 i) ha.list.1.1 hs2 ?_ ?_ ?_
 .rintro i1 ft hs4 e
  exact sr (an (nretP [.bool true] (cs hs4)))
 .rintro i1 y1 rz1 hd1 df aS dZ gy hs6 hx1 ag1 e
  refine qK 7 [1] U (tO df U (qO 6 U (eT ([z1,z2]) mixed kr jn (λeo _=>qB [0] U (tf 1 U U (rj 1 ty60 U U U) (tm 2 U (j9 3 eo jn lW ty62 ha.list.1 (nthZ aS) (fH aS) U U U U kr (λq3 cs3 A3 ln3 rr3=>?_))))))))
  obtain⟨r3,rfl,ok3⟩:=rr3
  refine tf 4 U U (λ_ _ hj=>mg ty62 (A3.mono hj.1) U U) (qB [5] U (tf 6 U U (rj 0 ty60 U U U) (tm 7 U ?_)))
  have ho2:0<=((i1:Int):Int)/\((i1:Int):Int)<((jh.L).length:Int):=ob
  refine j9 8 eo jn lW ty62 vO.list.1 ho2 (dh ho2) U U U U kr (λq4 cs4 A4 ln4 rr4=>?_)
  obtain⟨r4,rfl,ok4⟩:=rr4
  refine tf 9 U U (λ_ _ hj=>mg ty62 (A4.mono hj.1) U U) (tn 10 U (fo call309 (hrec _ _ _ _ _ ok3 ok4 (aAn (gp hd1))) U (⟨jn,qA [11] U (aQ kr (ae hs6 U (λc7 hs7=>?_) (λc7 hs8=>?_)))⟩)))
  .exact sr (an (nretP [.bool false] (cs hs7)))
  exact aI (qT 3 U (oi i1 U (an (ag1 hs8))))
 rintro i1 hd1 gu hx e
 exact qK 7 [1] U (fO gu U (qO 3 U (hx _ rd)))
theorem qY:∀(m:Nat)(h:HF)(a:Expr)(Hv:de)(jh:Expr)(oz:de)(_:a.dep<=m)(ha:jF h a Hv)(vO:jF h jh oz),Ret prog 309 [.agg (zC a Hv).toArray,.agg (zC jh oz).toArray] h (.bool (bh.go m a jh))
 |0,h,a,Hv,jh,oz,hd,ha,vO=>absurd hd (Nat.not_le.2 (aBh _))
 |m+1,h,a,Hv,jh,oz,hd,ha,vO=>AG (bh.go m) h a Hv jh oz (λqh_ qa Qp Pc IL qha RO qd=>qY m qh_ qa Qp Pc IL ob qha RO) ha vO
theorem tM(h:HF)(a:Expr)(Hv:de)(jh:Expr)(oz:de)(ha:jF h a Hv)(vO:jF h jh oz):Ret prog 309 [.agg (zC a Hv).toArray,.agg (zC jh oz).toArray] h (.bool (bh a jh)):=qY _ h a Hv jh oz (kF _) ha vO
theorem GT(h:HF)(a:Policy)(Hv:fd)(jh:Policy)(oz:fd)(ha:vP h a Hv)(vO:vP h jh oz):Ret prog 250 [.agg (xE a Hv).toArray,.agg (xE jh oz).toArray] h (.bool (io a jh)):=by
 refine sT func250 U ntmps250 U λX hM hX hF=>?_
 have hs0:io a jh=io a jh:=rfl
 refine sr (cz (λb1=>cz (λb2=>qL 11 [1,0] U (ce 6 [13,14,15,16,17,18,19] 13 19 (a.Mode != jh.Mode) U (λc1 hk1=>?_) (λe=>?_)))))
 .exact qL 6 [1,0] U (hk1 _ U)
 refine av (ce 7 [20,21,22,23,24,25,26,27] 20 27 (!(eE a.Offices jh.Offices)) U (λc2 hk2=>?_) (λe=>?_))
 .exact qL 4 [1,0] U (aj call308 (sM _ _ _ _ _ _ _ ha.Offices vO.Offices) U (qO 2 U (hk2 _ U)))
 refine av (ce 7 [28,29,30,31,32,33,34,35] 28 35 (!(eE a.Kinds jh.Kinds)) U (λc3 hk3=>?_) (λe=>?_))
 .exact qL 4 [1,0] U (aj call308 (sM _ _ _ _ _ _ _ ha.Kinds vO.Kinds) U (qO 2 U (hk3 _ U)))
 refine av (ce 8 [36,37,38,39,40,41,42,43,44] 36 44 ((a.Rules.length:Int) != (jh.Rules.length:Int)) U (λc4 hk4=>?_) (λe=>?_))
 .exact qL 8 [1,0] U (hk4 _ U)
 refine av (ce 7 [45,46,47,48,49,50,51,52] 45 52 (!(bh a.Change jh.Change)) U (λc5 hk5=>?_) (λe=>?_))
 .exact qL 1 [] U (cI 1 ty62 U U U (qL 1 [] U (cI 0 ty62 U U U (aj call309 (tM _ _ _ _ _ ha.Change vO.Change) U (qO 2 U (hk5 _ U))))))
 refine aJ (ae hs0 U (λc6 hs1=>?_) (λc6 hs2=>?_))
 .exact sr (an (nretP [.bool false] (cs hs1)))
 refine qT 6 U ?_
 refine lp0 a.Rules (λi=>[(2,Q b1),(3,Q b2),(5,I (i:Int))]) ([(b2,O (xE jh oz) 64),(b1,O (xE a Hv) 64)]) (λs1 i=>(io.L1 jh (io.K1)) s1 i) ha.Rules.1.1 hs2 ?_ ?_ ?_
 .rintro i1 ft hs4 e
  exact sr (an (nretP [.bool true] (cs hs4)))
 .rintro i1 y1 rz1 hd1 df aS dZ gy hs6 hx1 ag1 e
  refine qK 7 [1] U (tO df U (qL 10 [1] U (aB (iR wL ty79 ha.Rules.1 aS U U U (λ_ _ _ e=>e) (λq3 r3 A3 ok3=>dq ty79 A3 U U (aT zc79 (λb5=>aL 0 ty79 U U U U U U (qL 6 [1] U ?_))))))))
  have ho2:0<=((i1:Int):Int)/\((i1:Int):Int)<((jh.Rules).length:Int):=ob
  refine aB (ur wL ty79 vO.Rules.1 ho2 (dh ho2) U U U (λ_ _ _ e=>e) (λq4 r4 A4 ok4=>dq ty79 A4 U U (aT zc79 (λb6=>aL 0 ty79 U U U U U U (qL 9 [1,0] U (ce 6 [75,76,77,78,79,80,81] 75 81 (y1.KindNo != (nthI jh.Rules (i1:Int)).KindNo) U (λc7 hk6=>?_) (λe=>?_)))))))
  .exact qL 6 [1,0] U (hk6 _ U)
  refine av (ce 6 [82,83,84,85,86,87,88] 82 88 (y1.Think != (nthI jh.Rules (i1:Int)).Think) U (λc8 hk7=>?_) (λe=>?_))
  .exact qL 6 [1,0] U (hk7 _ U)
  refine av (ce 7 [89,90,91,92,93,94,95,96] 89 96 (!(bh y1.Expr ((nthI jh.Rules (i1:Int)).Expr))) U (λc9 hk8=>?_) (λe=>?_))
  .exact qL 1 [] U (cI 1 ty62 U U U (qL 1 [] U (cI 0 ty62 U U U (aj call309 (tM _ _ _ _ _ ok3.Expr ok4.Expr) U (qO 2 U (hk8 _ U))))))
  refine aJ (ae hs6 U (λc10 hs7=>?_) (λc10 hs8=>?_))
  .exact sr (an (nretP [.bool false] (cs hs7)))
  exact aI (qT 3 U (oi i1 U (an (aX (L':=[(b2,O (xE jh oz) 64),(b1,O (xE a Hv) 64)]) js (ag1 hs8)))))
 rintro i1 hd1 gu hx e
 exact qK 7 [1] U (fO gu U (qO 3 U (hx _ rd)))
theorem xO(h:HF)(p:Policy)(ie:fd)(hp:vP h p ie)(hsm:smP p):Ret prog 158 [.agg (xE p ie).toArray] h (I (gx p)):=by
 refine sT func158 U ntmps158 U λX hM hX hF=>?_
 have hs0:gx p=gx p:=rfl
 refine sr (cz (λb1=>qO 4 U (cI 0 ty64 U U U (aB (cT call249 (CO _ _ _ hp ob) U (λv1 h1 hle1 hp1=>?_))))))
 obtain⟨rr1,rfl,ok1⟩:=hp1
 refine qO 3 U (aT zc64 (λb2=>aL 0 ty64 U U U U U U (qO 8 U (ae hs0 U (λc1 hs1=>?_) (λc1 hs2=>?_)))))
 .exact sr (qO 3 U (nretP [I ((dR p).2)] (ci hs1)))
 refine qT 4 U (cI 0 ty64 U U U (cI 1 ty64 U U U (aj call250 (GT _ _ _ _ _ ok1 (hp.mono hle1)) U (qO 2 U (ae hs2 U (λc2 hs4=>?_) (λc2 hs5=>?_))))))
 .exact sr (an (nretP [I 200] (ci hs4)))
 exact aI (qT 4 U (nretP [I 0] (ci hs5)))
theorem BN(h:HF)(l:List Version)(eu:Option Addr)(et:Nat)(hl:SlC Version.rp h eu et l)(hsm:smV l):Ret prog 76 [.slice eu l.length et] h (I (dN l)):=by
 refine sT func76 U ntmps76 U λX hM hX hF=>?_
 have hs0:dN l=dN l:=rfl
 refine qK 11 [] U (ae hs0 U (λc1 hs1=>?_) (λc1 hs2=>?_))
 .have c1p:=of_decide_eq_true c1
  exact sr (an (nretP [I 2] (ci hs1)))
 have c1p:=of_decide_eq_false c1
 refine qT 6 U ?_
 refine lp0 l (λi=>[(0,.slice eu l.length et),(3,I (i:Int))]) ([]) (λs1 i=>(dN.L1 l (dN.K1)) s1 i) hl.1.1 hs2 ?_ ?_ ?_
 .rintro i1 ft hs4 e
  exact sr (an (nretP [I 0] (ci hs4)))
 .rintro i1 y1 rz1 hd1 df aS dZ gy hs6 hx1 ag1 e
  have hsy:=hsm.2 y1 (gp hd1)
  refine qK 6 [] U (tO df U (qO 9 U (aB (iR wK ty105 hl.1 aS U U U (λ_ _ _ e=>e) (λq2 r2 A2 ok2=>dq ty105 A2 U U (aT zc105 (λb2=>aL 0 ty105 U U U U U U (qO 2 U ?_))))))))
  refine oE [(0,.slice eu l.length et),(3,I (i1:Int)),(58,.bool (((((decide (y1.No<0)||decide (1048576<y1.No))||(decide (0<(i1:Int))&&decide (y1.No<=(nthI l ((i1:Int)-1)).No)))||(!(fM y1.At)))||(!(fM y1.Known)))||((gx y1.Policy) != 0)))] (λe=>?_) (λhk1=>?_)
  rotate_left
  .let z1:Nat×Obj:=(b2,O (Version.cells y1 r2) 105)
   refine eT ([z1]) mixed kr jn (λeo _=>?_)
   refine qB [0] U (tf 1 U U (rj 0 ty3 U U U) (qA [2,3] U ?_))
   refine dx 21 U (λc2=>?_) (λc2=>?_)
   .have c2p:=of_decide_eq_true c2
    exact tk 4 U U (qR 5 36 U (aQ kr (hk1 _ ⟨U,U,(cb (show true=(((((decide (y1.No<0)||decide (1048576<y1.No))||(decide (0<(i1:Int))&&decide (y1.No<=(nthI l ((i1:Int)-1)).No)))||(!(fM y1.At)))||(!(fM y1.Known)))||((gx y1.Policy) != 0))from by rw[c2]<;>rfl)),trivial⟩)))
   have c2p:=of_decide_eq_false c2
   refine qB [4] U (tf 5 U U (rj 0 ty3 U U U) (qR 6 3 U ?_))
   refine dx 26 U (λc3=>?_) (λc3=>?_)
   .have c3p:=of_decide_eq_true c3
    exact tk 9 U U (qR 10 31 U (aQ kr (hk1 _ ⟨U,U,(cb (show true=(((((decide (y1.No<0)||decide (1048576<y1.No))||(decide (0<(i1:Int))&&decide (y1.No<=(nthI l ((i1:Int)-1)).No)))||(!(fM y1.At)))||(!(fM y1.Known)))||((gx y1.Policy) != 0))from by rw[c2,c3]<;>rfl)),trivial⟩)))
   have c3p:=of_decide_eq_false c3
   refine qR 9 3 U ?_
   refine dx 29 U (λc4=>?_) (λc4=>?_)
   .have c4p:=of_decide_eq_true c4
    refine qA [12,13] U (tf 14 U U (λ_ _ _=>nE (v':=I ((i1:Int)-1)) U (lk ob)) ?_)
    have ho1:0<=(((i1:Int)-1):Int)/\(((i1:Int)-1):Int)<((l).length:Int):=ob
    refine j9 15 eo jn wK ty105 hl.1 ho1 (dh ho1) U U U U kr (λq3 cs3 A3 ln3 rr3=>?_)
    obtain⟨r3,rfl,ok3⟩:=rr3
    refine qB [16] U (tf 17 U U (rh ty3 A3 U) (qB [18] U (tf 19 U U (rj 0 ty3 U U U) (qR 20 4 U ?_))))
    refine dx 41 U (λc5=>?_) (λc5=>?_)
    .have c5p:=of_decide_eq_true c5
     exact tk 24 U U (qR 25 16 U (aQ kr (hk1 _ ⟨U,U,(cb (show true=(((((decide (y1.No<0)||decide (1048576<y1.No))||(decide (0<(i1:Int))&&decide (y1.No<=(nthI l ((i1:Int)-1)).No)))||(!(fM y1.At)))||(!(fM y1.Known)))||((gx y1.Policy) != 0))from by rw[c2,c3,c4,c5]<;>rfl)),trivial⟩)))
    have c5p:=of_decide_eq_false c5
    refine qB [24] U (tf 25 U U (rj 0 ty3 U U U) (tn 26 U (fo Lr (qm h y1.At) U (⟨jn,(qR 27 3 U ?_)⟩))))
    refine dx 47 U (λc6=>?_) (λc6=>?_)
    .exact tk 30 U U (qR 31 10 U (aQ kr (hk1 _ ⟨U,U,(cb (show true=(((((decide (y1.No<0)||decide (1048576<y1.No))||(decide (0<(i1:Int))&&decide (y1.No<=(nthI l ((i1:Int)-1)).No)))||(!(fM y1.At)))||(!(fM y1.Known)))||((gx y1.Policy) != 0))from by rw[c2,c3,c4,c5,c6]<;>rfl)),trivial⟩)))
    refine qB [30] U (tf 31 U U (rj 0 ty3 U U U) (tn 32 U (fo Lr (qm h y1.Known) U (⟨jn,(qR 33 3 U ?_)⟩))))
    refine dx 53 U (λc7=>?_) (λc7=>?_)
    .exact tk 36 U U (qR 37 4 U (aQ kr (hk1 _ ⟨U,U,(cb (show true=(((((decide (y1.No<0)||decide (1048576<y1.No))||(decide (0<(i1:Int))&&decide (y1.No<=(nthI l ((i1:Int)-1)).No)))||(!(fM y1.At)))||(!(fM y1.Known)))||((gx y1.Policy) != 0))from by rw[c2,c3,c4,c5,c6,c7]<;>rfl)),trivial⟩)))
    exact tf 36 U U (λ_ _ _=>tQ KQ U) (tf 37 U U (λ_ _ hj=>kg ty64 U (hj.nth (i:=0) U) U) (tn 38 U (fo call158 (xO _ _ _ ok2.Policy ob) U (⟨jn,(qA [39,40] U (aQ kr (hk1 _ ⟨U,U,(cb (show((gx y1.Policy) != 0)=(((((decide (y1.No<0)||decide (1048576<y1.No))||(decide (0<(i1:Int))&&decide (y1.No<=(nthI l ((i1:Int)-1)).No)))||(!(fM y1.At)))||(!(fM y1.Known)))||((gx y1.Policy) != 0))from by rw[c2,c3,c4,c5,c6,c7]<;>rfl)),trivial⟩)))⟩))))
   have c4p:=of_decide_eq_false c4
   refine qD 12 13 U (tf 25 U U (rj 0 ty3 U U U) (tn 26 U (fo Lr (qm h y1.At) U (⟨jn,qR 27 3 U ?_⟩))))
   refine dx 47 U (λc8=>?_) (λc8=>?_)
   .exact tk 30 U U (qR 31 10 U (aQ kr (hk1 _ ⟨U,U,(cb (show true=(((((decide (y1.No<0)||decide (1048576<y1.No))||(decide (0<(i1:Int))&&decide (y1.No<=(nthI l ((i1:Int)-1)).No)))||(!(fM y1.At)))||(!(fM y1.Known)))||((gx y1.Policy) != 0))from by rw[c2,c3,c4,c8]<;>rfl)),trivial⟩)))
   refine qB [30] U (tf 31 U U (rj 0 ty3 U U U) (tn 32 U (fo Lr (qm h y1.Known) U (⟨jn,(qR 33 3 U ?_)⟩))))
   refine dx 53 U (λc9=>?_) (λc9=>?_)
   .exact tk 36 U U (qR 37 4 U (aQ kr (hk1 _ ⟨U,U,(cb (show true=(((((decide (y1.No<0)||decide (1048576<y1.No))||(decide (0<(i1:Int))&&decide (y1.No<=(nthI l ((i1:Int)-1)).No)))||(!(fM y1.At)))||(!(fM y1.Known)))||((gx y1.Policy) != 0))from by rw[c2,c3,c4,c8,c9]<;>rfl)),trivial⟩)))
   exact tf 36 U U (λ_ _ _=>tQ KQ U) (tf 37 U U (λ_ _ hj=>kg ty64 U (hj.nth (i:=0) U) U) (tn 38 U (fo call158 (xO _ _ _ ok2.Policy ob) U (⟨jn,(qA [39,40] U (aQ kr (hk1 _ ⟨U,U,(cb (show((gx y1.Policy) != 0)=(((((decide (y1.No<0)||decide (1048576<y1.No))||(decide (0<(i1:Int))&&decide (y1.No<=(nthI l ((i1:Int)-1)).No)))||(!(fM y1.At)))||(!(fM y1.Known)))||((gx y1.Policy) != 0))from by rw[c2,c3,c4,c8,c9]<;>rfl)),trivial⟩)))⟩))))
  refine ae hs6 U (λc10 hs7=>?_) (λc10 hs8=>?_)
  .exact sr (an (nretP [I 200] (ci hs7)))
  exact aI (qT 3 U (oi i1 U (an (aX (L':=[]) js (ag1 hs8)))))
 rintro i1 hd1 gu hx e
 exact qK 6 [] U (fO gu U (qO 3 U (hx _ rd)))
theorem uu(h:HF)(t:Int)  : Ret prog 223 [I t] h (.bool (lO t)):=by
 refine sT func223 U ntmps223 U λX hM hX hF=>?_
 have hs0:lO t=lO t:=rfl
 refine qT 9 U (bA 3 [5,6,7,8] 5 8 (decide (t<1099511627776)) U (λc1 hk1=>?_) (λe=>?_))
 .exact av (qO 2 U (hk1 _ U))
 exact an (nretP [.bool (decide (0<=t)&&decide (t<1099511627776))] (cs hs0))
theorem ut(h:HF)(l:List Int)(eu:Option Addr)(et:Nat)(limit:Int)(hl:SlC kB h eu et l):Ret prog 251 [.slice eu l.length et,I limit] h (.bool (eM l limit)):=by
 refine sT func251 U ntmps251 U λX hM hX hF=>?_
 have hs0:eM l limit=eM l limit:=rfl
 refine qT 9 U ?_
 refine lp0 l (λi=>[(0,.slice eu l.length et),(1,I limit),(5,I (i:Int))]) ([]) (λs1 i=>(eM.L1 l limit (eM.K1 l)) s1 i) hl.1.1 hs0 ?_ ?_ ?_
 .rintro i1 ft hs1 e
  exact qK 7 [] U (nretP [.bool (decide ((l.length:Int)<=16))] (cs hs1))
 .rintro i1 y1 rz1 hd1 df aS dZ gy hs3 hx1 ag1 e
  refine qK 6 [] U (tO df U (qO 6 U ?_))
  refine oE [(0,.slice eu l.length et),(1,I limit),(5,I (i1:Int)),(40,.bool ((decide (y1<0)||decide (limit<=y1))||(decide (0<(i1:Int))&&decide (y1<=(nthI l ((i1:Int)-1))))))] (λe=>?_) (λhk1=>?_)
  rotate_left
  .refine eT ([]) mixed kr jn (λeo _=>?_)
   refine qA [0,1] U (eX 2 (enc:=λy=>[I y]) eo jn ei ej ty3 hl.1 (nthZ aS) (fH aS) U U U U kr (λq3 A3=>tf 3 U U (rh ty3 A3 U) (qA [4,5] U ?_)))
   refine dx 17 U (λc1=>?_) (λc1=>?_)
   .have c1p:=of_decide_eq_true c1
    exact tk 6 U U (qR 7 22 U (aQ kr (hk1 _ ⟨U,U,U,(cb (show true=((decide (y1<0)||decide (limit<=y1))||(decide (0<(i1:Int))&&decide (y1<=(nthI l ((i1:Int)-1)))))from by rw[c1]<;>rfl)),trivial⟩)))
   have c1p:=of_decide_eq_false c1
   refine qA [6,7] U (eX 8 (enc:=λy=>[I y]) eo jn ei ej ty3 hl.1 (nthZ aS) (fH aS) U U U U kr (λq4 A4=>tf 9 U U (rh ty3 A4 U) (qR 10 4 U ?_)))
   refine dx 25 U (λc2=>?_) (λc2=>?_)
   .have c2p:=of_decide_eq_true c2
    exact tk 14 U U (qR 15 14 U (aQ kr (hk1 _ ⟨U,U,U,(cb (show true=((decide (y1<0)||decide (limit<=y1))||(decide (0<(i1:Int))&&decide (y1<=(nthI l ((i1:Int)-1)))))from by rw[c1,c2]<;>rfl)),trivial⟩)))
   have c2p:=of_decide_eq_false c2
   refine qR 14 3 U ?_
   refine dx 28 U (λc3=>?_) (λc3=>?_)
   .have c3p:=of_decide_eq_true c3
    refine qA [17,18] U (eX 19 (enc:=λy=>[I y]) eo jn ei ej ty3 hl.1 (nthZ aS) (fH aS) U U U U kr (λq5 A5=>tf 20 U U (rh ty3 A5 U) (qA [21,22] U (tf 23 U U (λ_ _ _=>nE (v':=I ((i1:Int)-1)) U (lk ob)) ?_))))
    have ho1:0<=(((i1:Int)-1):Int)/\(((i1:Int)-1):Int)<((l).length:Int):=ob
    exact eX 24 (enc:=λy=>[I y]) eo jn ei ej ty3 hl.1 ho1 (dh ho1) U U U U kr (λq6 A6=>tf 25 U U (rh ty3 A6 U) (qR 26 3 U (aQ kr (hk1 _ ⟨U,U,U,(cb (show decide (y1<=(nthI l ((i1:Int)-1)))=((decide (y1<0)||decide (limit<=y1))||(decide (0<(i1:Int))&&decide (y1<=(nthI l ((i1:Int)-1)))))from by rw[c1,c2,c3]<;>rfl)),trivial⟩))))
   have c3p:=of_decide_eq_false c3
   exact tk 17 U U (qR 18 11 U (aQ kr (hk1 _ ⟨U,U,U,(cb (show false=((decide (y1<0)||decide (limit<=y1))||(decide (0<(i1:Int))&&decide (y1<=(nthI l ((i1:Int)-1)))))from by rw[c1,c2,c3]<;>rfl)),trivial⟩)))
  refine ae hs3 U (λc4 hs4=>?_) (λc4 hs5=>?_)
  .exact sr (an (nretP [.bool false] (cs hs4)))
  exact aI (qT 3 U (oi i1 U (an (ag1 hs5))))
 rintro i1 hd1 gu hx e
 exact qK 6 [] U (fO gu U (qO 3 U (hx _ rd)))
theorem Fp(h:HF)(d:Document)(KX:ls)(hd:Document.ok h d KX):Ret prog 159 [.agg (Document.cells d KX).toArray] h (.bool (iE d)):=by
 refine sT func159 U ntmps159 U λX hM hX hF=>?_
 have hs0:iE d=iE d:=rfl
 refine sr (cz (λb1=>qL 9 [0] U (ce 4 [6,7,8,9,10] 6 10 (decide (4096<=d.No)) U (λc1 hk1=>?_) (λe=>?_))))
 .exact qL 4 [0] U (hk1 _ U)
 refine av (ce 5 [11,12,13,14,15,16] 11 16 (!(lO d.At)) U (λc2 hk2=>?_) (λe=>?_))
 .exact qL 2 [0] U (aj call223 (uu h d.At) U (qO 2 U (hk2 _ U)))
 refine av (ce 4 [17,18,19,20,21] 17 21 (decide (d.Kind<0)) U (λc3 hk3=>?_) (λe=>?_))
 .exact qL 4 [0] U (hk3 _ U)
 refine av (ce 4 [22,23,24,25,26] 22 26 (decide (16<=d.Kind)) U (λc4 hk4=>?_) (λe=>?_))
 .exact qL 4 [0] U (hk4 _ U)
 refine av (ce 4 [27,28,29,30,31] 27 31 (decide (d.Value<0)) U (λc5 hk5=>?_) (λe=>?_))
 .exact qL 4 [0] U (hk5 _ U)
 refine av (ce 4 [32,33,34,35,36] 32 36 (decide (1099511627776<d.Value)) U (λc6 hk6=>?_) (λe=>?_))
 .exact qL 4 [0] U (hk6 _ U)
 refine aJ (ae hs0 U (λc7 hs1=>?_) (λc7 hs2=>?_))
 .exact sr (an (nretP [.bool false] (cs hs1)))
 refine qK 7 [0] U (bA 6 [40,41,42,43,44,45,46] 40 46 (decide (d.From<d.Until)) U (λc8 hk7=>?_) (λe=>?_))
 .exact qL 6 [0,0] U (hk7 _ U)
 refine av (bA 4 [47,48,49,50,51] 47 51 (decide (d.Until<=1099511627776)) U (λc9 hk8=>?_) (λe=>?_))
 .exact qL 4 [0] U (hk8 _ U)
 refine av (bA 4 [52,53,54,55,56] 52 56 (eM d.Parties 1048577) U (λc10 hk9=>?_) (λe=>?_))
 .exact qL 2 [0] U (aj call251 (ut _ _ _ _ 1048577 hd.Parties) U (eU U (hk9 _ U)))
 refine av (bA 6 [57,58,59,60,61,62,63] 57 63 (eM d.Revokes d.No) U (λc11 hk10=>?_) (λe=>?_))
 .exact qL 4 [0,0] U (aj call251 (ut _ _ _ _ d.No hd.Revokes) U (eU U (hk10 _ U)))
 refine av (bA 6 [64,65,66,67,68,69,70] 64 70 (eM d.Needs d.No) U (λc12 hk11=>?_) (λe=>?_))
 .exact qL 4 [0,0] U (aj call251 (ut _ _ _ _ d.No hd.Needs) U (eU U (hk11 _ U)))
 exact an (nretP [.bool (((((decide (0<=d.From)&&decide (d.From<d.Until))&&decide (d.Until<=1099511627776))&&(eM d.Parties 1048577))&&(eM d.Revokes d.No))&&(eM d.Needs d.No))] (cs hs2))
theorem Ai(h:HF)(l:List Document)(eu:Option Addr)(et:Nat)(no:Int)(hl:SlC xS h eu et l):Ret prog 231 [.slice eu l.length et,I no] h (I (gg l no)):=by
 refine sT func231 U ntmps231 U λX hM hX hF=>?_
 have hs0:gg l no=gg l no:=rfl
 refine qT 9 U ?_
 refine lp0 l (λi=>[(0,.slice eu l.length et),(1,I no),(5,I (i:Int))]) ([]) (λs1 i=>(gg.L1 no (gg.K1)) s1 i) hl.1.1 hs0 ?_ ?_ ?_
 .rintro i1 ft hs1 e
  exact sr (an (nretP [I (-1)] (ci hs1)))
 .rintro i1 y1 rz1 hd1 df aS dZ gy hs3 hx1 ag1 e
  refine qK 6 [] U (tO df U (qO 9 U (aB (iR oq ty51 hl.1 aS U U U (λ_ _ _ e=>e) (λq2 r2 A2 ok2=>qL 1 [] U (dB ty3 A2 U (qO 3 U (ae hs3 U (λc2 hs4=>?_) (λc2 hs5=>?_)))))))))
  .exact sr (qO 3 U (nretP [I (i1:Int)] (ci hs4)))
  exact aI (qT 3 U (oi i1 U (an (ag1 hs5))))
 rintro i1 hd1 gu hx e
 exact qK 6 [] U (fO gu U (qO 3 U (hx _ rd)))
theorem pj(h:HF)(l:List Document)(eu:Option Addr)(et:Nat)(nos:List Int)(Ph:Option Addr)(Pg:Nat)(hl:SlC xS h eu et l)(hnos:SlC kB h Ph Pg nos):Ret prog 160 [.slice eu l.length et,.slice Ph nos.length Pg] h (.bool (dA l nos)):=by
 refine sT func160 U ntmps160 U λX hM hX hF=>?_
 have hs0:dA l nos=dA l nos:=rfl
 refine qT 9 U ?_
 refine lp0 nos (λi=>[(0,.slice eu l.length et),(1,.slice Ph nos.length Pg),(5,I (i:Int))]) ([]) (λs1 i=>(dA.L1 l (dA.K1)) s1) hnos.1.1 hs0 ?_ ?_ ?_
 .rintro i1 ft hs1 e
  exact sr (an (nretP [.bool true] (cs hs1)))
 .rintro i1 y1 rz1 hd1 df aS dZ gy hs3 hx1 ag1 e
  refine qK 6 [] U (tO df U (qO 10 U (aB (iF (λy=>[I y]) ej ty3 hnos.1 aS U U U (λq2 A2=>dB ty3 A2 U (aj call231 (Ai _ _ _ _ y1 hl) U (qO 2 U (ae hs3 U (λc2 hs4=>?_) (λc2 hs5=>?_)))))))))
  .have c2p:=of_decide_eq_true c2
   exact sr (an (nretP [.bool false] (cs hs4)))
  have c2p:=of_decide_eq_false c2
  exact aI (qT 3 U (oi i1 U (an (ag1 hs5))))
 rintro i1 hd1 gu hx e
 exact qK 6 [] U (fO gu U (qO 3 U (hx _ rd)))
theorem xZ(h:HF)(l:List Document)(eu:Option Addr)(et:Nat)(hl:SlC xS h eu et l):Ret prog 77 [.slice eu l.length et] h (I (dO l)):=by
 refine sT func77 U ntmps77 U λX hM hX hF=>?_
 have hs0:dO l=dO l:=rfl
 refine qK 11 [] U (ae hs0 U (λc1 hs1=>?_) (λc1 hs2=>?_))
 .have c1p:=of_decide_eq_true c1
  exact sr (an (nretP [I 2] (ci hs1)))
 have c1p:=of_decide_eq_false c1
 refine qT 6 U ?_
 refine lp0 l (λi=>[(0,.slice eu l.length et),(3,I (i:Int))]) ([]) (λs1 i=>(dO.L1 l (dO.K1)) s1 i) hl.1.1 hs2 ?_ ?_ ?_
 .rintro i1 ft hs4 e
  exact sr (an (nretP [I 0] (ci hs4)))
 .rintro i1 y1 rz1 hd1 df aS dZ gy hs6 hx1 ag1 e
  refine qK 6 [] U (tO df U (qO 6 U ?_))
  refine oE [(0,.slice eu l.length et),(3,I (i1:Int)),(56,.bool ((((!(iE y1))||(decide (0<(i1:Int))&&decide (y1.No<=(nthI l ((i1:Int)-1)).No)))||(!(dA l y1.Revokes)))||(!(dA l y1.Needs))))] (λe=>?_) (λhk1=>?_)
  rotate_left
  .refine eT ([]) mixed kr jn (λeo _=>?_)
   refine qA [0,1] U (j9 2 eo jn oq ty51 hl.1 (nthZ aS) (fH aS) U U U U kr (λq4 cs4 A4 ln4 rr4=>?_))
   obtain⟨r4,rfl,ok4⟩:=rr4
   refine tf 3 U U (λ_ _ hj=>mg ty51 (A4.mono hj.1) U U) (tn 4 U (fo call159 (Fp _ _ _ ok4) U (⟨jn,qA [5,6] U ?_⟩)))
   refine dx 19 U (λc2=>?_) (λc2=>?_)
   .exact tk 7 U U (qR 8 36 U (aQ kr (hk1 _ ⟨U,U,(cb (show true=((((!(iE y1))||(decide (0<(i1:Int))&&decide (y1.No<=(nthI l ((i1:Int)-1)).No)))||(!(dA l y1.Revokes)))||(!(dA l y1.Needs)))from by rw[c2]<;>rfl)),trivial⟩)))
   refine qR 7 3 U ?_
   refine dx 22 U (λc3=>?_) (λc3=>?_)
   .have c3p:=of_decide_eq_true c3
    refine qA [10,11] U (j9 12 eo jn oq ty51 hl.1 (nthZ aS) (fH aS) U U U U kr (λq5 cs5 A5 ln5 rr5=>?_))
    obtain⟨r5,rfl,ok5⟩:=rr5
    refine qB [13] U (tf 14 U U (rh ty3 A5 U) (qA [15,16] U (tf 17 U U (λ_ _ _=>nE (v':=I ((i1:Int)-1)) U (lk ob)) ?_)))
    have ho2:0<=(((i1:Int)-1):Int)/\(((i1:Int)-1):Int)<((l).length:Int):=ob
    refine j9 18 eo jn oq ty51 hl.1 ho2 (dh ho2) U U U U kr (λq6 cs6 A6 ln6 rr6=>?_)
    obtain⟨r6,rfl,ok6⟩:=rr6
    refine qB [19] U (tf 20 U U (rh ty3 A6 U) (qR 21 4 U ?_))
    refine dx 37 U (λc4=>?_) (λc4=>?_)
    .have c4p:=of_decide_eq_true c4
     exact tk 25 U U (qR 26 18 U (aQ kr (hk1 _ ⟨U,U,(cb (show true=((((!(iE y1))||(decide (0<(i1:Int))&&decide (y1.No<=(nthI l ((i1:Int)-1)).No)))||(!(dA l y1.Revokes)))||(!(dA l y1.Needs)))from by rw[c2,c3,c4]<;>rfl)),trivial⟩)))
    have c4p:=of_decide_eq_false c4
    refine qR 25 3 U (j9 28 eo jn oq ty51 hl.1 (nthZ aS) (fH aS) U U U U kr (λq7 cs7 A7 ln7 rr7=>?_))
    obtain⟨r7,rfl,ok7⟩:=rr7
    refine qB [29] U (tf 30 U U (rH 7 ty31 A7 U U) (tn 31 U (fo Lq (pj _ _ _ _ _ _ _ hl ok7.Revokes) U (⟨jn,(qR 32 3 U ?_)⟩))))
    refine dx 47 U (λc5=>?_) (λc5=>?_)
    .exact tk 35 U U (qR 36 8 U (aQ kr (hk1 _ ⟨U,U,(cb (show true=((((!(iE y1))||(decide (0<(i1:Int))&&decide (y1.No<=(nthI l ((i1:Int)-1)).No)))||(!(dA l y1.Revokes)))||(!(dA l y1.Needs)))from by rw[c2,c3,c4,c5]<;>rfl)),trivial⟩)))
    refine qR 35 3 U (j9 38 eo jn oq ty51 hl.1 (nthZ aS) (fH aS) U U U U kr (λq8 cs8 A8 ln8 rr8=>?_))
    obtain⟨r8,rfl,ok8⟩:=rr8
    exact tf 39 U U (λ_ _ _=>tQ I8 U) (tf 40 U U (rH 8 ty31 A8 U U) (tn 41 U (fo Lq (pj _ _ _ _ _ _ _ hl ok8.Needs) U (⟨jn,(qA [42,43] U (aQ kr (hk1 _ ⟨U,U,(cb (show(!(dA l y1.Needs))=((((!(iE y1))||(decide (0<(i1:Int))&&decide (y1.No<=(nthI l ((i1:Int)-1)).No)))||(!(dA l y1.Revokes)))||(!(dA l y1.Needs)))from by rw[c2,c3,c4,c5]<;>rfl)),trivial⟩)))⟩))))
   have c3p:=of_decide_eq_false c3
   refine qR 10 18 U (j9 28 eo jn oq ty51 hl.1 (nthZ aS) (fH aS) U U U U kr (λq9 cs9 A9 ln9 rr9=>?_))
   obtain⟨r9,rfl,ok9⟩:=rr9
   refine qB [29] U (tf 30 U U (rH 7 ty31 A9 U U) (tn 31 U (fo Lq (pj _ _ _ _ _ _ _ hl ok9.Revokes) U (⟨jn,(qR 32 3 U ?_)⟩))))
   refine dx 47 U (λc6=>?_) (λc6=>?_)
   .exact tk 35 U U (qR 36 8 U (aQ kr (hk1 _ ⟨U,U,(cb (show true=((((!(iE y1))||(decide (0<(i1:Int))&&decide (y1.No<=(nthI l ((i1:Int)-1)).No)))||(!(dA l y1.Revokes)))||(!(dA l y1.Needs)))from by rw[c2,c3,c6]<;>rfl)),trivial⟩)))
   refine qR 35 3 U (j9 38 eo jn oq ty51 hl.1 (nthZ aS) (fH aS) U U U U kr (λq10 cs10 A10 ln10 rr10=>?_))
   obtain⟨r10,rfl,ok10⟩:=rr10
   exact tf 39 U U (λ_ _ _=>tQ I8 U) (tf 40 U U (rH 8 ty31 A10 U U) (tn 41 U (fo Lq (pj _ _ _ _ _ _ _ hl ok10.Needs) U (⟨jn,(qA [42,43] U (aQ kr (hk1 _ ⟨U,U,(cb (show(!(dA l y1.Needs))=((((!(iE y1))||(decide (0<(i1:Int))&&decide (y1.No<=(nthI l ((i1:Int)-1)).No)))||(!(dA l y1.Revokes)))||(!(dA l y1.Needs)))from by rw[c2,c3,c6]<;>rfl)),trivial⟩)))⟩))))
  refine ae hs6 U (λc7 hs7=>?_) (λc7 hs8=>?_)
  .exact sr (an (nretP [I 170] (ci hs7)))
  exact aI (qT 3 U (oi i1 U (an (ag1 hs8))))
 rintro i1 hd1 gu hx e
 exact qK 6 [] U (fO gu U (qO 3 U (hx _ rd)))
theorem lY(h:HF)(er:Int)(most:Int)  : Ret prog 252 [I er,I most] h (.bool (gH er most)):=by
 refine sT func252 U ntmps252 U λX hM hX hF=>?_
 have hs0:gH er most=gH er most:=rfl
 refine qT 9 U (bA 4 [7,8,9,10,11] 7 11 (decide (er<=most)) U (λc1 hk1=>?_) (λe=>?_))
 .exact av (qO 3 U (hk1 _ U))
 exact an (nretP [.bool (decide (0<=er)&&decide (er<=most))] (cs hs0))
theorem Af(h:HF)(er:Int)  : Ret prog 253 [I er] h (.bool (nA er)):=by
 refine sT func253 U ntmps253 U λX hM hX hF=>?_
 have hs0:nA er=nA er:=rfl
 exact sr (qO 5 U (aj Jn (lY h er 1099511627775) U (an (nretP [.bool (gH er 1099511627775)] (cs hs0)))))
theorem IH(h:HF)(er:Int)  : Ret prog 254 [I er] h (.bool (si er)):=by
 refine sT func254 U ntmps254 U λX hM hX hF=>?_
 have hs0:si er=si er:=rfl
 exact sr (qO 5 U (aj Jn (lY h er 4095) U (an (nretP [.bool (gH er 4095)] (cs hs0)))))
theorem Fh(h:HF)(x:Approval)  : Ret prog 161 [.agg (xC x).toArray] h (.bool (jY x)):=by
 refine sT func161 U ntmps161 U λX hM hX hF=>?_
 have hs0:jY x=jY x:=rfl
 refine sr (cz (λb1=>qL 7 [0] U (aj Jn (lY h x.No 1048576) U (qO 2 U (ce 5 [7,8,9,10,11,12] 7 12 (!(nA x.At)) U (λc1 hk1=>?_) (λe=>?_))))))
 .exact qL 2 [0] U (aj call253 (Af h x.At) U (qO 2 U (hk1 _ U)))
 refine av (ce 5 [13,14,15,16,17,18] 13 18 (!(nA x.Known)) U (λc2 hk2=>?_) (λe=>?_))
 .exact qL 2 [0] U (aj call253 (Af h x.Known) U (qO 2 U (hk2 _ U)))
 refine av (ce 5 [19,20,21,22,23,24] 19 24 (!(si x.Doc)) U (λc3 hk3=>?_) (λe=>?_))
 .exact qL 2 [0] U (aj call254 (IH h x.Doc) U (qO 2 U (hk3 _ U)))
 refine aJ (ae hs0 U (λc4 hs1=>?_) (λc4 hs2=>?_))
 .exact sr (an (nretP [.bool false] (cs hs1)))
 refine qK 5 [0] U (aj Jn (lY h x.By 63) U (av (bA 4 [28,29,30,31,32] 28 32 (gH x.For 63) U (λc5 hk4=>?_) (λe=>?_))))
 .exact qL 2 [0] U (aj Jn (lY h x.For 63) U (eU U (hk4 _ U)))
 refine av (bA 4 [33,34,35,36,37] 33 37 (gH x.Office 31) U (λc6 hk5=>?_) (λe=>?_))
 .exact qL 2 [0] U (aj Jn (lY h x.Office 31) U (eU U (hk5 _ U)))
 exact an (nretP [.bool (((gH x.By 63)&&(gH x.For 63))&&(gH x.Office 31))] (cs hs2))
theorem Fi(h:HF)(l:List Approval)(eu:Option Addr)(et:Nat)(hl:SlC Approval.rp h eu et l):Ret prog 78 [.slice eu l.length et] h (I (ii l)):=by
 refine sT func78 U ntmps78 U λX hM hX hF=>?_
 have hs0:ii l=ii l:=rfl
 refine qK 11 [] U (ae hs0 U (λc1 hs1=>?_) (λc1 hs2=>?_))
 .have c1p:=of_decide_eq_true c1
  exact sr (an (nretP [I 2] (ci hs1)))
 have c1p:=of_decide_eq_false c1
 refine qT 6 U ?_
 refine lp0 l (λi=>[(0,.slice eu l.length et),(3,I (i:Int))]) ([]) (λs1 i=>(ii.L1 l (ii.K1)) s1 i) hl.1.1 hs2 ?_ ?_ ?_
 .rintro i1 ft hs4 e
  exact sr (an (nretP [I 0] (ci hs4)))
 .rintro i1 y1 rz1 hd1 df aS dZ gy hs6 hx1 ag1 e
  refine qK 6 [] U (tO df U (qO 6 U ?_))
  refine oE [(0,.slice eu l.length et),(3,I (i1:Int)),(36,.bool ((!(jY y1))||(decide (0<(i1:Int))&&decide (y1.No<=(nthI l ((i1:Int)-1)).No))))] (λe=>?_) (λhk1=>?_)
  rotate_left
  .refine eT ([]) mixed kr jn (λeo _=>?_)
   refine qA [0,1] U (eX 2 (enc:=xC) eo jn ei wJ ty81 hl.1 (nthZ aS) (fH aS) U U U U kr (λq4 A4=>tf 3 U U (λ_ _ hj=>mg ty81 (A4.mono hj.1) U U) (tn 4 U (fo call161 (Fh h y1) U (⟨jn,qA [5,6] U ?_⟩)))))
   refine dx 19 U (λc2=>?_) (λc2=>?_)
   .exact tk 7 U U (qR 8 16 U (aQ kr (hk1 _ ⟨U,U,(cb (show true=((!(jY y1))||(decide (0<(i1:Int))&&decide (y1.No<=(nthI l ((i1:Int)-1)).No)))from by rw[c2]<;>rfl)),trivial⟩)))
   refine qR 7 3 U ?_
   refine dx 22 U (λc3=>?_) (λc3=>?_)
   .have c3p:=of_decide_eq_true c3
    refine qA [10,11] U (tf 12 U U (λ_ _ _=>nE (v':=I ((i1:Int)-1)) U (lk ob)) ?_)
    have ho2:0<=(((i1:Int)-1):Int)/\(((i1:Int)-1):Int)<((l).length:Int):=ob
    exact eX 13 (enc:=xC) eo jn ei wJ ty81 hl.1 ho2 (dh ho2) U U U U kr (λq5 A5=>qB [14] U (tf 15 U U (rh ty3 A5 U) (qA [16,17] U (eX 18 (enc:=xC) eo jn ei wJ ty81 hl.1 (nthZ aS) (fH aS) U U U U kr (λq6 A6=>qB [19] U (tf 20 U U (rh ty3 A6 U) (qR 21 3 U (aQ kr (hk1 _ ⟨U,U,(cb (show decide (y1.No<=(nthI l ((i1:Int)-1)).No)=((!(jY y1))||(decide (0<(i1:Int))&&decide (y1.No<=(nthI l ((i1:Int)-1)).No)))from by rw[c2,c3]<;>rfl)),trivial⟩)))))))))
   have c3p:=of_decide_eq_false c3
   exact tk 10 U U (qR 11 13 U (aQ kr (hk1 _ ⟨U,U,(cb (show false=((!(jY y1))||(decide (0<(i1:Int))&&decide (y1.No<=(nthI l ((i1:Int)-1)).No)))from by rw[c2,c3]<;>rfl)),trivial⟩)))
  refine ae hs6 U (λc4 hs7=>?_) (λc4 hs8=>?_)
  .exact sr (an (nretP [I 280] (ci hs7)))
  exact aI (qT 3 U (oi i1 U (an (ag1 hs8))))
 rintro i1 hd1 gu hx e
 exact qK 6 [] U (fO gu U (qO 3 U (hx _ rd)))
theorem Fe(h:HF)(cH:Register)(gB:dK)(kx:Register.ok h cH gB)(hsm:smR cH):Ret prog 14 [.agg (Register.cells cH gB).toArray] h (I (lh cH)):=by
 refine sT func14 U ntmps14 U λX hM hX hF=>?_
 have hs0:lh cH=lh cH:=rfl
 have hsv:=hsm.vers
 refine sr (cz (λb1=>qL 7 [0] U (aj call72 (Fv _ _ _ _ kx.Appoints) U (qO 2 U (ce 5 [7,8,9,10,11,12] 7 12 ((ij cH.Deputies) != 0) U (λc1 hk1=>?_) (λe=>?_))))))
 .exact qL 2 [0] U (aj call73 (Ft _ _ _ _ kx.Deputies) U (qO 2 U (hk1 _ U)))
 refine av (ce 5 [13,14,15,16,17,18] 13 18 ((ig cH.Interests) != 0) U (λc2 hk2=>?_) (λe=>?_))
 .exact qL 2 [0] U (aj call74 (Fg _ _ _ _ kx.Interests) U (qO 2 U (hk2 _ U)))
 refine av (ce 5 [19,20,21,22,23,24] 19 24 ((fL cH.Budgets) != 0) U (λc3 hk3=>?_) (λe=>?_))
 .exact qL 2 [0] U (aj call75 (xU _ _ _ _ kx.Budgets) U (qO 2 U (hk3 _ U)))
 refine aJ (ae hs0 U (λc4 hs1=>?_) (λc4 hs2=>?_))
 .exact sr (an (nretP [I 300] (ci hs1)))
 refine qK 6 [0] U (aj call76 (BN _ _ _ _ kx.Versions ob) U (qO 2 U (ce 5 [29,30,31,32,33,34] 29 34 ((dO cH.Docs) != 0) U (λc5 hk4=>?_) (λe=>?_))))
 .exact qL 2 [0] U (aj call77 (xZ _ _ _ _ kx.Docs) U (qO 2 U (hk4 _ U)))
 refine av (ce 5 [35,36,37,38,39,40] 35 40 ((ii cH.Approvals) != 0) U (λc6 hk5=>?_) (λe=>?_))
 .exact qL 2 [0] U (aj call78 (Fi _ _ _ _ kx.Approvals) U (qO 2 U (hk5 _ U)))
 refine aJ (ae hs2 U (λc7 hs4=>?_) (λc7 hs5=>?_))
 .exact sr (an (nretP [I 300] (ci hs4)))
 exact aI (qT 4 U (nretP [I 0] (ci hs5)))
theorem wu(h:HF)(er:Int)  : Ret prog 82 [I er] h (.bool (me er)):=by
 refine sT func82 U ntmps82 U λX hM hX hF=>?_
 have hs0:me er=me er:=rfl
 refine qT 9 U (bA 3 [5,6,7,8] 5 8 (decide (er<1099511627776)) U (λc1 hk1=>?_) (λe=>?_))
 .exact av (qO 2 U (hk1 _ U))
 exact an (nretP [.bool (decide (0<=er)&&decide (er<1099511627776))] (cs hs0))
theorem BP(h:HF)(l:List Document)(eu:Option Addr)(et:Nat)(signed:List Int)(ck:Option Addr)(cj:Nat)(hl:SlC xS h eu et l)(hsigned:SlC kB h ck cj signed):Ret prog 222 [.slice eu l.length et,.slice ck signed.length cj] h (.bool (eI l signed)):=by
 refine sT func222 U ntmps222 U λX hM hX hF=>?_
 have hs0:eI l signed=eI l signed:=rfl
 refine qT 9 U ?_
 refine lp0 signed (λi=>[(0,.slice eu l.length et),(1,.slice ck signed.length cj),(5,I (i:Int))]) ([]) (λs1 i=>(eI.L1 (eI.K1 l signed)) s1) hsigned.1.1 hs0 ?_ ?_ ?_
 .rintro i1 ft hs1 e
  exact qK 9 [] U (nretP [.bool ((signed.length:Int)==(l.length:Int))] (cs hs1))
 .rintro i1 y1 rz1 hd1 df aS dZ gy hs3 hx1 ag1 e
  refine qK 6 [] U (tO df U (qO 9 U (aB (iF (λy=>[I y]) ej ty3 hsigned.1 aS U U U (λq3 A3=>dB ty3 A3 U (qO 2 U (bA 7 [17,18,19,20,21,22,23,24] 17 24 (!(lO y1)) U (λc1 hk1=>?_) (λe=>?_))))))))
  .exact av (av (aB (iF (λy=>[I y]) ej ty3 hsigned.1 aS U U U (λq4 A4=>dB ty3 A4 U (aj call223 (uu h y1) U (qO 2 U (hk1 _ U)))))))
  refine aJ (ae hs3 U (λc2 hs4=>?_) (λc2 hs5=>?_))
  .exact sr (an (nretP [.bool false] (cs hs4)))
  exact aI (qT 3 U (oi i1 U (an (ag1 hs5))))
 rintro i1 hd1 gu hx e
 exact qK 6 [] U (fO gu U (qO 3 U (hx _ rd)))
theorem vq(h:HF)(l:List Int)(eu:Option Addr)(et:Nat)(C0:Int)(hl:SlC kB h eu et l):Ret prog 334 [.slice eu l.length et,I C0] h (.bool (fX l C0)):=by
 refine sT func334 U ntmps334 U λX hM hX hF=>?_
 have hs0:fX l C0=fX l C0:=rfl
 refine qT 9 U ?_
 refine lp0 l (λi=>[(0,.slice eu l.length et),(1,I C0),(5,I (i:Int))]) ([]) (λs1 i=>(fX.L1 C0 (fX.K1)) s1) hl.1.1 hs0 ?_ ?_ ?_
 .rintro i1 ft hs1 e
  exact sr (an (nretP [.bool false] (cs hs1)))
 .rintro i1 y1 rz1 hd1 df aS dZ gy hs3 hx1 ag1 e
  refine qK 6 [] U (tO df U (qO 9 U (aB (iF (λy=>[I y]) ej ty3 hl.1 aS U U U (λq2 A2=>dB ty3 A2 U (qO 3 U (ae hs3 U (λc2 hs4=>?_) (λc2 hs5=>?_))))))))
  .exact sr (an (nretP [.bool true] (cs hs4)))
  exact aI (qT 3 U (oi i1 U (an (ag1 hs5))))
 rintro i1 hd1 gu hx e
 exact qK 6 [] U (fO gu U (qO 3 U (hx _ rd)))
theorem xX(h:HF)(l:List Document)(eu:Option Addr)(et:Nat)(done:List Int)(Be:Option Addr)(Bd:Nat)(effective:List Bool)(tZ:Option Addr)(tX:Nat)(uU:Int)(cX:Int)(hl:SlC xS h eu et l)(hdone:SlC kB h Be Bd done)(heffective:SlC aA4 h tZ tX effective)(hdn:∀x∈done,0<=x/\x<(l.length:Int))(hef:effective.length=l.length):Ret prog 295 [.slice eu l.length et,.slice Be done.length Bd,.slice tZ effective.length tX,I uU,I cX] h (.tuple #[I ((eQ l done effective uU cX).1),I ((eQ l done effective uU cX).2)]):=by
 refine sT func295 U ntmps295 U λX hM hX hF=>?_
 have hs0:eQ l done effective uU cX=eQ l done effective uU cX:=rfl
 refine qT 10 U (aj call334 (vq _ _ _ _ uU hdone) U (qO 2 U (ae hs0 U (λc1 hs1=>?_) (λc1 hs2=>?_))))
 .refine qT 5 U ?_
  have hs3:eQ l done effective uU cX=(1,(-1)):=hs1
  exact nretP [I 1,I (-1)] (congrArg (λr:(Int×Int)=>(.tuple #[I r.1,I r.2]:Value)) hs3.symm)
 refine qT 6 U ?_
 have ho1:0<=(uU:Int)/\(uU:Int)<((effective).length:Int):=(by first|omega|exact F0 hdn hef ob)
 refine aB (pd (enc:=λy=>[.bool y]) ei uE ty4 heffective.1 ho1 (dh ho1) U U U (λq1 A1=>dB ty4 A1 U (qO 2 U (ae hs2 U (λc2 hs4=>?_) (λc2 hs5=>?_)))))
 .refine qT 5 U ?_
  have hs6:eQ l done effective uU cX=(4,(-1)):=hs4
  exact nretP [I 4,I (-1)] (congrArg (λr:(Int×Int)=>(.tuple #[I r.1,I r.2]:Value)) hs6.symm)
 refine qT 6 U ?_
 refine lp0 l (λi=>[(0,.slice eu l.length et),(1,.slice Be done.length Bd),(2,.slice tZ effective.length tX),(3,I uU),(4,I cX),(12,I (i:Int))]) ([]) (λs1 i=>(eQ.L1 l done effective uU (eQ.K1 l uU cX)) s1 i) hl.1.1 hs5 ?_ ?_ ?_
 .rintro i1 ft hs7 e
  refine qT 6 U ?_
  have ho3:0<=(uU:Int)/\(uU:Int)<((l).length:Int):=(by first|omega|exact F0 hdn rfl ob)
  refine aB (ur oq ty51 hl.1 ho3 (dh ho3) U U U (λ_ _ _ e=>e) (λq3 r1 A3 ok1=>qL 1 [] U (ju (j:=4) ty3 A3 U U (qO 2 U (ae hs7 U (λc3 hs8=>?_) (λc3 hs9=>?_))))))
  .have c3p:=of_decide_eq_true c3
   refine qT 5 U ?_
   have hs10:eQ l done effective uU cX=(2,(-1)):=hs8
   exact nretP [I 2,I (-1)] (congrArg (λr:(Int×Int)=>(.tuple #[I r.1,I r.2]:Value)) hs10.symm)
  have c3p:=of_decide_eq_false c3
  refine qT 7 U ?_
  have ho4:0<=(uU:Int)/\(uU:Int)<((l).length:Int):=(by first|omega|exact F0 hdn rfl ob)
  refine aB (ur oq ty51 hl.1 ho4 (dh ho4) U U U (λ_ _ _ e=>e) (λq4 r2 A4 ok2=>qL 1 [] U (ju (j:=5) ty3 A4 U U (qO 2 U (ae hs9 U (λc4 hs11=>?_) (λc4 hs12=>?_))))))
  .have c4p:=of_decide_eq_true c4
   refine qT 5 U ?_
   have hs13:eQ l done effective uU cX=(3,(-1)):=hs11
   exact nretP [I 3,I (-1)] (congrArg (λr:(Int×Int)=>(.tuple #[I r.1,I r.2]:Value)) hs13.symm)
  have c4p:=of_decide_eq_false c4
  refine qT 6 U ?_
  have hs14:eQ l done effective uU cX=(0,(-1)):=hs12
  exact nretP [I 0,I (-1)] (congrArg (λr:(Int×Int)=>(.tuple #[I r.1,I r.2]:Value)) hs14.symm)
 .rintro i1 y1 rz1 hd1 df aS dZ gy hs15 hx1 ag1 e
  refine qK 6 [] U (tO df U (qO 6 U ?_))
  refine oE [(0,.slice eu l.length et),(1,.slice Be done.length Bd),(2,.slice tZ effective.length tX),(3,I uU),(4,I cX),(12,I (i1:Int)),(49,.bool (((fX done (i1:Int))&&(nthI effective (i1:Int)))&&(fX y1.Revokes ((nthI l uU).No))))] (λe=>?_) (λhk1=>?_)
  rotate_left
  .refine eT ([]) mixed kr jn (λeo _=>?_)
   refine qA [0,1] U (tn 2 U (fo call334 (vq _ _ _ _ (i1:Int) hdone) U (⟨jn,(tm 3 U ?_)⟩)))
   refine dx 31 U (λc5=>?_) (λc5=>?_)
   .refine qA [4,5] U ?_
    have ho5:0<=((i1:Int):Int)/\((i1:Int):Int)<((effective).length:Int):=(by first|omega|exact F0 hdn hef ob)
    refine eX 6 (enc:=λy=>[.bool y]) eo jn ei uE ty4 heffective.1 ho5 (dh ho5) U U U U kr (λq5 A5=>tf 7 U U (rh ty4 A5 U) (qA [8,9] U ?_))
    refine dx 37 U (λc6=>?_) (λc6=>?_)
    .refine qA [10,11] U (j9 12 eo jn oq ty51 hl.1 (nthZ aS) (fH aS) U U U U kr (λq6 cs3 A6 ln3 rr3=>?_))
     obtain⟨r3,rfl,ok3⟩:=rr3
     refine qB [13] U (tf 14 U U (rH 7 ty31 A6 U U) (qA [15,16] U ?_))
     have ho6:0<=(uU:Int)/\(uU:Int)<((l).length:Int):=(by first|omega|exact F0 hdn rfl ob)
     refine j9 17 eo jn oq ty51 hl.1 ho6 (dh ho6) U U U U kr (λq7 cs4 A7 ln4 rr4=>?_)
     obtain⟨r4,rfl,ok4⟩:=rr4
     exact tf 18 U U (λ_ _ _=>tQ QK U) (tf 19 U U (rh ty3 A7 U) (tn 20 U (fo call334 (vq _ _ _ _ ((nthI l uU).No) ok3.Revokes) U (⟨jn,(qA [21] U (aQ kr (hk1 _ ⟨U,U,U,U,U,U,(cb (show(fX y1.Revokes ((nthI l uU).No))=(((fX done (i1:Int))&&(nthI effective (i1:Int)))&&(fX y1.Revokes ((nthI l uU).No)))from by rw[c5,c6]<;>rfl)),trivial⟩)))⟩))))
    exact tk 10 U U (qR 11 11 U (aQ kr (hk1 _ ⟨U,U,U,U,U,U,(cb (show false=(((fX done (i1:Int))&&(nthI effective (i1:Int)))&&(fX y1.Revokes ((nthI l uU).No)))from by rw[c5,c6]<;>rfl)),trivial⟩)))
   exact tk 4 U U (qR 5 17 U (aQ kr (hk1 _ ⟨U,U,U,U,U,U,(cb (show false=(((fX done (i1:Int))&&(nthI effective (i1:Int)))&&(fX y1.Revokes ((nthI l uU).No)))from by rw[c5]<;>rfl)),trivial⟩)))
  refine ae hs15 U (λc7 hs16=>?_) (λc7 hs17=>?_)
  .refine el (eT ([]) mixed kr jn (λmK _=>qA [0,1] U (j9 2 mK jn oq ty51 hl.1 (nthZ aS) (fH aS) U U U U kr (λq8 cs5 A8 ln5 rr5=>?_))))
   obtain⟨r5,rfl,ok5⟩:=rr5
   refine qB [3] U (tf 4 U U (rh ty3 A8 U) (qA [5,6] U (aQ kr ?_)))
   have hs18:eQ l done effective uU cX=(5,y1.No):=hs16
   exact nretP [I 5,I y1.No] (congrArg (λr:(Int×Int)=>(.tuple #[I r.1,I r.2]:Value)) hs18.symm)
  exact aI (qT 3 U (oi i1 U (an (ag1 hs17))))
 rintro i1 hd1 gu hx e
 exact qK 6 [] U (fO gu U (qO 3 U (hx _ rd)))
theorem xY(h:HF)(signed:List Int)(ck:Option Addr)(cj:Nat)(iw:Int)(hsigned:SlC kB h ck cj signed)(hsn:signed.length<=2000000):jv prog 296 [.slice ck signed.length cj,I iw] h (λv h'=>∃(rb0:Option Addr)(rc0:Nat),v=.slice rb0 (bY signed iw).length rc0/\SlC kB h' rb0 rc0 (bY signed iw)):=by
 refine sT func296 U ntmps296 U λX hM hX hF=>?_
 have hs0:bY signed iw=bY signed iw:=rfl
 refine qT 6 U (aB (qf ej ty3 (λb1=>qO 7 U (eW 0 U hM (λh1 hle1 hb1=>?_)))))
 have sl1:SlC kB h1 (some ⟨b1,0,none⟩) 0 ([]):=bI.slB0 (T:=3) (fz:=(0,0)) ((show bI kB h [] ([])from rfl).mono jH hle1) hb1
 refine lp2 signed (λi w=>[(0,.slice ck signed.length cj),(1,I iw),(5,.slice w.2.1 w.1.length w.2.2.1),(6,I (i:Int))]) (λw=>w.2.2.2) (λw=>[]) (λi w=>SlC kB w.2.2.2 w.2.1 w.2.2.1 w.1/\w.1.length<=i/\vM h1 w.2.2.2/\(∀x∈w.1,0<=x/\x<(signed.length:Int))) (λs1 i w=>(bY.L1 signed iw (bY.K1)) s1 i w.1) ([],(some ⟨b1,0,none⟩),0,h1) ((hsigned.mono jH hle1).1.1) hs0 ⟨sl1,(by first|omega|(simp only[jA,xA,vB];omega)|(simp only[jA,xA,vB,List.length_take,List.length_drop];first|omega|(dsimp only;omega))),lf,(λx hx=>(List.not_mem_nil hx).elim)⟩ ?_ ?_ ?_
 .rintro i1 ⟨fa,wB,wA,hh1⟩ ft hs1 ⟨ru,Gh,hl1,u1_0⟩ e
  try dsimp only at ru Gh hl1 u1_0
  refine qT 5 U ?_
  have hs2:bY signed iw=fa:=hs1
  exact nretH [.slice wB fa.length wA] ⟨wB,wA,congrArg (λr:List Int=>(.slice wB r.length wA:Value)) hs2.symm,(by rw[hs2];exact ru)⟩
 .rintro i1 ⟨fa,wB,wA,hh1⟩ y1 rz1 hd1 df aS dZ gy hs3 ⟨ru,Gh,hl1,u1_0⟩ hx1 ag1 e
  try dsimp only at ru Gh hl1 u1_0
  refine qK 6 [] U (tO df U (qO 10 U (aB (iF (λy=>[I y]) ej ty3 (hsigned.mono jH (hle1.t hl1)).1 aS U U U (λq3 A3=>dB ty3 A3 U (qO 2 U (ce 7 [20,21,22,23,24,25,26,27] 20 27 (decide (iw<y1)) U (λc1 hk1=>?_) (λe=>?_))))))))
  .exact av (av (aB (iF (λy=>[I y]) ej ty3 (hsigned.mono jH (hle1.t hl1)).1 aS U U U (λq4 A4=>dB ty3 A4 U (qO 3 U (hk1 _ U))))))
  refine aJ (ae hs3 U (λc2 hs4=>?_) (λc2 hs5=>?_))
  .exact md U (qT 2 U (oi i1 U (an (ag1 (fa,wB,wA,hh1) hs4 ⟨ru,(by first|omega|(simp only[jA,xA,vB];omega)|(simp only[jA,xA,vB,List.length_take,List.length_drop];first|omega|(dsimp only;omega))),hl1,(by first|assumption|exact BT u1_0 ob)⟩))))
  refine qK 8 [] U ?_
  refine iX (ι:=Nat) (λi=>[(0,.slice ck signed.length cj),(1,I iw),(5,.slice wB fa.length wA),(6,I (i1:Int)),(7,I (((fa.length-i):Nat):Int))]) (λi=>hh1) (λi=>[]) (λi=>i<=(qH fa.length).length/\bY signed iw=((λzi3=>(bY.L1 signed iw (bY.K1) rz1 (i1+1) (((fa.take (((((fa.length-zi3):Nat):Int):Int)).toNat)++[(i1:Int)])++(fa.drop (((((fa.length-zi3):Nat):Int):Int)).toNat)))) i)) ?_ (λhx3=>?_)
  .rintro i3 ⟨AZ,hs6⟩ e
   try dsimp only at AZ
   refine eT ([]) mixed kr jn (λeo _=>?_)
   refine qA [1,2] U (HM 3 eo jn ej ty3 ru.1 ru.2 ob U U U U kr (λsb3 sc3 sl5=>qA [5,8,9] U (Nu 10 eo jn ej ty3 ru.1 ru.2 ob U U U U kr (λsb4 sc4 sl6=>?_))))
   refine og 0 6 kr U U ?_ ?_ 
   .refine qf ej ty3 (λb4=>⟨jn,?_⟩)
    refine og 4 6 kr U U ?_ ?_ 
    .refine dy aBw ([]) ([]) (λG=>G) ap (λ_=>ap) ej ty3 zc3 U bytes3 (dC.lit (show bI kB hh1 [] ([])from U) U) U U (mO sl5.1) lo lo (λob4 oc4 G4 gr4=>⟨jn,(tn 6 U (bB (cells:=[I (i1:Int)]) ej ty3 zc3 U U kr (λb5=>?_)))⟩)
     let z3:Nat×Obj:=(b5,O [I (i1:Int)] 3)
     exact⟨jn,(tn 7 U (dy aBw ([z3]) ([]) (λG=>[z3]++G) ap (λ_=>ap) ej ty3 zc3 U bytes3 gr4 U U (eF 0 U (cE (i1:Int) U U)) lo lo (λob5 oc5 G5 gr5=>⟨jn,(tn 11 U (dy aBw ([z3]) ([]) (λG=>[z3]++G) ap (λ_=>ap) ej ty3 zc3 U bytes3 gr5 U U (mO sl6.1) lo lo (λob6 oc6 G6 gr6=>⟨jn,(qA [12] U (aQ kr (qT 3 U (oi i1 U (an (eK jH ([z3]) G6 ([]) ap hM gr6 (λh3 hle3 sl7=>aX (L':=[]) js (ag1 ((((fa.take (((((fa.length-i3):Nat):Int):Int)).toNat)++[(i1:Int)])++(fa.drop (((((fa.length-i3):Nat):Int):Int)).toNat)),ob6,oc6,h3) hs6 ⟨sl7,(by first|omega|(simp only[jA,xA,vB];omega)|(simp only[jA,xA,vB,List.length_take,List.length_drop];first|omega|(dsimp only;omega))),(hl1.t hle3),(by first|assumption|exact BT u1_0 ob)⟩))))))))⟩)))⟩)))⟩
    refine bB (cells:=[I (i1:Int)]) ej ty3 zc3 U U kr (λb6=>⟨jn,(tn 4 U ?_)⟩)
    let z1:Nat×Obj:=(b6,O [I (i1:Int)] 3)
    exact dy aBw ([z1]) ([]) (λG=>[z1]++G) ap (λ_=>ap) ej ty3 zc3 U bytes3 (dC.lit (show bI kB hh1 [] ([])from U) U) U U (mO sl5.1) lo lo (λob7 oc7 G7 gr7=>⟨jn,(tn 7 U (dy aBw ([z1]) ([]) (λG=>[z1]++G) ap (λ_=>ap) ej ty3 zc3 U bytes3 gr7 U U (eF 0 U (cE (i1:Int) U U)) lo lo (λob8 oc8 G8 gr8=>⟨jn,(tn 11 U (dy aBw ([z1]) ([]) (λG=>[z1]++G) ap (λ_=>ap) ej ty3 zc3 U bytes3 gr8 U U (mO sl6.1) lo lo (λob9 oc9 G9 gr9=>⟨jn,(qA [12] U (aQ kr (qT 3 U (oi i1 U (an (eK jH ([z1]) G9 ([]) ap hM gr9 (λh4 hle4 sl8=>aX (L':=[]) js (ag1 ((((fa.take (((((fa.length-i3):Nat):Int):Int)).toNat)++[(i1:Int)])++(fa.drop (((((fa.length-i3):Nat):Int):Int)).toNat)),ob9,oc9,h4) hs6 ⟨sl8,(by first|omega|(simp only[jA,xA,vB];omega)|(simp only[jA,xA,vB,List.length_take,List.length_drop];first|omega|(dsimp only;omega))),(hl1.t hle4),(by first|assumption|exact BT u1_0 ob)⟩))))))))⟩)))⟩)))⟩)
   refine bB (cells:=[I (i1:Int)]) ej ty3 zc3 U U kr (λb7=>⟨jn,(tn 0 U ?_)⟩)
   let z2:Nat×Obj:=(b7,O [I (i1:Int)] 3)
   exact qf ej ty3 (λb8=>⟨jn,(tn 4 U (dy aBw ([]) ([z2]) (λG=>[z2]++G) ap (λ_=>ap) ej ty3 zc3 U bytes3 (dC.lit (show bI kB hh1 [] ([])from U) U) U U (mO sl5.1) lo lo (λob10 oc10 G10 gr10=>⟨jn,(tn 7 U (dy aBw ([z2]) ([]) (λG=>[z2]++G) ap (λ_=>ap) ej ty3 zc3 U bytes3 gr10 U U (eF 0 U (cE (i1:Int) U U)) lo lo (λob11 oc11 G11 gr11=>⟨jn,(tn 11 U (dy aBw ([z2]) ([]) (λG=>[z2]++G) ap (λ_=>ap) ej ty3 zc3 U bytes3 gr11 U U (mO sl6.1) lo lo (λob12 oc12 G12 gr12=>⟨jn,(qA [12] U (aQ kr (qT 3 U (oi i1 U (an (eK jH ([z2]) G12 ([]) ap hM gr12 (λh5 hle5 sl9=>aX (L':=[]) js (ag1 ((((fa.take (((((fa.length-i3):Nat):Int):Int)).toNat)++[(i1:Int)])++(fa.drop (((((fa.length-i3):Nat):Int):Int)).toNat)),ob12,oc12,h5) hs6 ⟨sl9,(by first|omega|(simp only[jA,xA,vB];omega)|(simp only[jA,xA,vB,List.length_take,List.length_drop];first|omega|(dsimp only;omega))),(hl1.t hle5),(by first|assumption|exact BT u1_0 ob)⟩))))))))⟩)))⟩)))⟩)))⟩)
  refine kY (ι:=Nat×List Nat) (λi=>[(0,.slice ck signed.length cj),(1,I iw),(5,.slice wB fa.length wA),(6,I (i1:Int)),(7,I (((fa.length-i.1):Nat):Int))]) (λi=>hh1) (λi=>[]) (λi=>(qH fa.length).drop i.1=i.2/\i.1<=(qH fa.length).length/\bY signed iw=((bY.L3 signed y1 fa (λzi3=>(bY.L1 signed iw (bY.K1) rz1 (i1+1) (((fa.take (((((fa.length-zi3):Nat):Int):Int)).toNat)++[(i1:Int)])++(fa.drop (((((fa.length-zi3):Nat):Int):Int)).toNat))))) i.2 i.1)) (λi=>i.2.length) (0,(qH fa.length)) ⟨U,U,U,U,(congrArg (kC .i64) (show(fa.length:Int)=(((fa.length-0):Nat):Int)from by omega)),trivial⟩ sw ⟨U,zN _,hs5⟩ ?_
  rintro⟨i3,s3⟩ ⟨hd3,I2,hs7⟩ ag2 e
  try dsimp only at hd3 I2
  rcases s3 with _|⟨y3,rz3⟩
  .have Ps:decide (0<(((fa.length-i3):Nat):Int))=false:=decide_eq_false (by have q_:=of_decide_eq_false (ni hd3);rw[List.length_range]at q_;omega)
   exact el (el (eT ([]) mixed kr jn (λmK _=>tm 0 U (tf 1 U U (λ_ _ _=>nE (v':=.bool false) U (cb Ps)) (qR 2 15 U (aQ kr (qT 2 U (hx3 i3 _ ⟨I2,hs7⟩ rd))))))))
  have FY:decide (0<(((fa.length-i3):Nat):Int))=true:=decide_eq_true (by have q_:=iB hd3;rw[List.length_range]at q_;omega)
  have FX:i3<fa.length:=by simpa using iB hd3
  refine qT 2 U (eT ([]) mixed kr jn (λKG _=>tm 0 U (tf 1 U U (λ_ _ _=>nE (v':=.bool true) U (cb FY)) (qR 2 4 U (tf 6 U U (λ_ _ _=>nE (v':=I (((fa.length-(i3+1)):Nat):Int)) U (Je FX ob)) ?_)))))
  have ho3:0<=((((fa.length-(i3+1)):Nat):Int):Int)/\((((fa.length-(i3+1)):Nat):Int):Int)<((fa).length:Int):=ob
  refine eX 7 (enc:=λy=>[I y]) KG jn ei ej ty3 ru.1 ho3 (dh ho3) U U U U kr (λq8 A8=>tf 8 U U (rh ty3 A8 U) ?_)
  have ho4:0<=((nthI fa (((fa.length-(i3+1)):Nat):Int)):Int)/\((nthI fa (((fa.length-(i3+1)):Nat):Int)):Int)<((signed).length:Int):=(by first|omega|exact Qr u1_0 ob _)
  refine eX 9 (enc:=λy=>[I y]) KG jn ei ej ty3 (hsigned.mono jH (hle1.t hl1)).1 ho4 (dh ho4) U U U U kr (λq9 A9=>tf 10 U U (rh ty3 A9 U) (qA [11,12] U (eX 13 (enc:=λy=>[I y]) KG jn ei ej ty3 (hsigned.mono jH (hle1.t hl1)).1 (nthZ aS) (fH aS) U U U U kr (λq10 A10=>tf 14 U U (rh ty3 A10 U) (qA [15,16] U (aQ kr (ae hs7 U (λc4 hs9=>?_) (λc4 hs10=>?_))))))))
  .have c4p:=of_decide_eq_true c4
   exact aI (qT 3 U (jO (v':=I (((fa.length-(i3+1)):Nat):Int)) U (Je FX ob) (qO 3 U (ag2 ((i3+1),rz3) _ (Nat.lt_succ_self _) ⟨kO hd3,iB hd3,hs9⟩ rd))))
  have c4p:=of_decide_eq_false c4
  exact md U (hx3 i3 _ ⟨I2,hs10⟩ rd)
 rintro i1 ⟨fa,wB,wA,hh1⟩ hd1 gu hx e
 exact qK 6 [] U (fO gu U (qO 3 U (hx _ rd)))
theorem Fq(h:HF)(l:List Document)(eu:Option Addr)(et:Nat)(signed:List Int)(ck:Option Addr)(cj:Nat)(aH:Int)(hl:SlC xS h eu et l)(hsigned:SlC kB h ck cj signed)(hsg:signed.length=l.length)(hsn:signed.length<=2000000)(hnd:∀d∈l,d.Needs.length<=16):jv prog 294 [.slice eu l.length et,.slice ck signed.length cj,I aH] h (λv h'=>∃(rb0:Option Addr)(rc0:Nat),v=.slice rb0 (bZ l signed aH).length rc0/\SlC kB h' rb0 rc0 (bZ l signed aH)):=by
 refine sT func294 U ntmps294 U λX hM hX hF=>?_
 have hs0:bZ l signed aH=bZ l signed aH:=rfl
 refine qT 8 U (aB (cT call296 (xY _ _ _ _ aH hsigned ob) U (λv1 h1 hle1 hp1=>?_)))
 obtain⟨rb1,rc1,rfl,sl1⟩:=hp1
 refine qL 6 [] U (aB (OZ (R:=aA4) (x0:=false) (m:=l.length) (λG=>G) U U (λ_=>ap) uE zc4 ty4 bytes4 U U ob ob (λb1 G1 gr1=>qO 4 U (aB (qf ej ty3 (λb2=>qO 7 U ?_))))))
 obtain⟨G6,gr6,ge1⟩:∃G:LH,dC kB 3 h1 ([]) (some ⟨b2,0,none⟩) 0 G/\[(b2,O [] 3)]=G:=⟨_,dC.lit (show bI kB h1 [] ([])from rfl) rfl,rfl⟩
 refine cv (L':=([])++([(b2,O [] 3)]++G1)) ap ?_
 rw[ge1]
 refine mb (List.Perm.append_left _ vJ) (cv (L':=G1++G6) ap ?_)
 refine lp4 l (λi w=>[(0,.slice eu l.length et),(1,.slice ck signed.length cj),(7,.slice rb1 ((bY signed aH).length) rc1),(8,.slice (some ⟨b1,0,none⟩) ((List.replicate l.length false).length) l.length),(9,.slice w.2.1 w.1.length w.2.2.1),(10,I (i:Int))]) (λ_=>h1) (λw=>G1++(w.2.2.2)) (λi w=>dC kB 3 h1 w.1 w.2.1 w.2.2.1 w.2.2.2/\w.1.length<=0+i/\w.1.length=i) (λi w=>dC kB 3 h1 w.1 w.2.1 w.2.2.1 w.2.2.2/\w.1.length<=0+i/\w.1.length=l.length) (λi g hi h=>⟨h.1,h.2.1,h.2.2.trans hi⟩) (λs1 i w=>(bZ.L1 (bZ.K1 l signed aH)) s1 w.1) ([],(some ⟨b2,0,none⟩),0,G6) ((hl.mono vH hle1).1.1) hs0 ⟨gr6,lo,U⟩ ?_ ?_ ?_
 .rintro i1 ⟨nd,rq,rn,uV⟩ ft hs1 ⟨pD,yD,u1_0⟩ e
  try dsimp only at pD yD u1_0
  refine qT 5 U ?_
  refine lp2 (bY signed aH) (λi w=>[(0,.slice eu l.length et),(1,.slice ck signed.length cj),(7,.slice rb1 ((bY signed aH).length) rc1),(8,.slice w.2.1 w.1.length w.2.2.1),(9,.slice w.2.2.2.2.2.1 w.2.2.2.2.1.length w.2.2.2.2.2.2.1),(11,I (i:Int))]) (λ_=>h1) (λw=>w.2.2.2.1++(w.2.2.2.2.2.2.2)) (λi w=>dC aA4 4 h1 w.1 w.2.1 w.2.2.1 w.2.2.2.1/\dC kB 3 h1 w.2.2.2.2.1 w.2.2.2.2.2.1 w.2.2.2.2.2.2.1 w.2.2.2.2.2.2.2/\w.1.length=l.length/\w.2.2.2.2.1.length=l.length) (λs2 i w=>(bZ.L2 l signed aH (bZ.K2)) s2 i w.1 w.2.2.2.2.1) ((List.replicate l.length false),(some ⟨b1,0,none⟩),l.length,G1,nd,rq,rn,uV) sl1.1.1 hs1 ⟨gr1,pD,List.length_replicate,ob⟩ ?_ ?_ ?_
  .rintro i2 ⟨lB,oX,oW,od,F7,Ia,H9,MY⟩ AZ hs2 ⟨pA,KL,u2_0,u2_1⟩ e
   try dsimp only at pA KL u2_0 u2_1
   refine qT 5 U (eK jH (od) MY ([]) ap hM KL (λh2 hle2 sl8=>cv (L':=od) ap ?_))
   have hs3:bZ l signed aH=F7:=hs2
   exact nretH [.slice Ia F7.length H9] ⟨Ia,H9,congrArg (λr:List Int=>(.slice Ia r.length H9:Value)) hs3.symm,(by rw[hs3];exact sl8)⟩
  .rintro i2 ⟨lB,oX,oW,od,F7,Ia,H9,MY⟩ y2 rz2 hd2 yx sZ FZ LQ hs4 ⟨pA,KL,u2_0,u2_1⟩ hx2 ag1 e
   try dsimp only at pA KL u2_0 u2_1
   have hnl:=MO (P:=λd:Document=>d.Needs.length<=16) hnd (zN _) y2
   refine qK 6 [] U (tO yx U (qO 9 U (aB (iF (λy=>[I y]) ej ty3 sl1.1 sZ U U U (λq35 A35=>dB ty3 A35 U (qO 7 U ?_))))))
   have ho40:0<=(y2:Int)/\(y2:Int)<((l).length:Int):=(by first|omega|(have hq:=ss signed aH _ (gp hd2);omega))
   refine aB (ur oq ty51 (hl.mono vH hle1).1 ho40 (dh ho40) U U U (λ_ _ _ e=>e) (λq36 r15 A36 ok15=>qL 1 [] U (ju (j:=8) ty31 A36 U U (qL 1 [] U (jO (v':=I ((((nthI l y2).Needs.length:Nat):Int)-1)) U (lk ob) (an ?_))))))
   refine iX (ι:=Nat×List Int×Option Addr×Nat×LH) (λi=>[(0,.slice eu l.length et),(1,.slice ck signed.length cj),(7,.slice rb1 ((bY signed aH).length) rc1),(8,.slice oX lB.length oW),(9,.slice i.2.2.1 i.2.1.length i.2.2.2.1),(11,I (i2:Int)),(12,I y2)]) (λi=>h1) (λi=>od++(i.2.2.2.2)) (λi=>i.1<=(qH ((nthI l y2).Needs.length)).length/\bZ l signed aH=((λzg4_9=>(bZ.L2 l signed aH (bZ.K2) rz2 (i2+1) (lB.set (y2:Int).toNat (decide ((nthI zg4_9 y2)<0))) zg4_9)) i.2.1)/\dC kB 3 h1 i.2.1 i.2.2.1 i.2.2.2.1 i.2.2.2.2/\i.2.1.length=l.length) ?_ (λhx4=>?_)
   .rintro⟨i4,tz,F4,F3,Ca⟩ ⟨I2,hs5,Ap,u4_0⟩ e
    try dsimp only at I2 Ap u4_0
    refine qT 5 U ?_
    have ho49:0<=(y2:Int)/\(y2:Int)<((tz).length:Int):=ob
    have hgz:=dC.zj Ap (by omega)
    obtain⟨bk10,hbk10⟩:=hgz
    refine aB (fK (oJ (R:=kB) (xs:=tz) ej ty3 hbk10 ho49 U U U) (aB (fK (Fw (R:=kB) (i:=(y2:Int).toNat) (off:=0) ty3 Ap hbk10 (dh ho49) (λcs_z hcs=>by rw[show cs_z=[I (nthI tz y2)]from hcs];rfl) U mh) (MM U ?_))))
    have ho50:0<=(y2:Int)/\(y2:Int)<((lB).length:Int):=ob
    have hgz:=dC.zj pA (by omega)
    obtain⟨bk11,hbk11⟩:=hgz
    exact aB (fK (oJ (R:=aA4) (xs:=lB) uE ty4 hbk11 ho50 U U U) (aB (BF (R:=aA4) (i:=(y2:Int).toNat) (off:=0) (u:=(nthI lB y2)) (u':=decide ((nthI tz y2)<0)) (v:=.bool (decide ((nthI tz y2)<0))) ([]) od (Ca) ty4 U pA ap hbk11 (dh ho50) (by decide) (λcs_z hcs=>by rw[show cs_z=[.bool (nthI lB y2)]from hcs];rfl) U U U (λG12 gr12=>gJ (L':=G12++(Ca)) (by first|rfl|simp only[List.length_set,kD,qP,zG,List.append_nil]) (QW 8 (.slice oX ((lB.set (y2:Int).toNat (decide ((nthI tz y2)<0))).length) oW) (congrArg (λn_=>Value.slice oX n_ oW) (List.length_set ..).symm) (qO 4 U (oi i2 U (an (ag1 ((lB.set (y2:Int).toNat (decide ((nthI tz y2)<0))),oX,oW,G12,tz,F4,F3,Ca) hs5 ⟨gr12,Ap,(by first|assumption|(rw[List.length_set];assumption)),(by first|assumption|(rw[List.length_set];assumption))⟩)))))))))
   refine kY (ι:=Nat×List Int×Option Addr×Nat×LH×List Nat) (λi=>[(0,.slice eu l.length et),(1,.slice ck signed.length cj),(7,.slice rb1 ((bY signed aH).length) rc1),(8,.slice oX lB.length oW),(9,.slice i.2.2.1 i.2.1.length i.2.2.2.1),(11,I (i2:Int)),(12,I y2),(13,I ((((((nthI l y2).Needs.length)-i.1):Nat):Int)-1))]) (λi=>h1) (λi=>od++(i.2.2.2.2.1)) (λi=>(qH ((nthI l y2).Needs.length)).drop i.1=i.2.2.2.2.2/\i.1<=(qH ((nthI l y2).Needs.length)).length/\bZ l signed aH=((bZ.L4 l signed aH i2 y2 lB (λzg4_9=>(bZ.L2 l signed aH (bZ.K2) rz2 (i2+1) (lB.set (y2:Int).toNat (decide ((nthI zg4_9 y2)<0))) zg4_9))) i.2.2.2.2.2 i.1 i.2.1)/\dC kB 3 h1 i.2.1 i.2.2.1 i.2.2.2.1 i.2.2.2.2.1/\i.2.1.length=l.length) (λi=>i.2.2.2.2.2.length) (0,F7,Ia,H9,MY,(qH ((nthI l y2).Needs.length))) ⟨U,U,U,U,U,U,U,(congrArg (kC .i64) (show((((nthI l y2).Needs.length:Nat):Int)-1)=((((((nthI l y2).Needs.length)-0):Nat):Int)-1)from by omega)),trivial⟩ sw ⟨U,zN _,hs4,KL,ob⟩ ?_
   rintro⟨i4,tz,F4,F3,Ca,s4⟩ ⟨hd4,NO,hs6,Ap,u4_0⟩ ag2 e
   try dsimp only at hd4 NO Ap u4_0
   rcases s4 with _|⟨y4,rz4⟩
   .have Rw:decide (0<=((((((nthI l y2).Needs.length)-i4):Nat):Int)-1))=false:=decide_eq_false (by have q_:=of_decide_eq_false (ni hd4);rw[List.length_range]at q_;omega)
    exact el (qT 3 U (fO Rw U (qO 3 U (hx4 (i4,tz,F4,F3,Ca) _ ⟨NO,hs6,Ap,u4_0⟩ rd))))
   have Rv:decide (0<=((((((nthI l y2).Needs.length)-i4):Nat):Int)-1))=true:=decide_eq_true (by have q_:=iB hd4;rw[List.length_range]at q_;omega)
   have KH:i4<((nthI l y2).Needs.length):=by simpa using iB hd4
   refine qT 4 U (tO Rv U (qO 6 U (eT (od++(Ca)) mixed kr jn (λeo _=>qR 0 3 U (HM 3 eo jn ej ty3 sl1.1 sl1.2 ob U U U U kr (λsb8 sc8 sl10=>qR 4 4 U ?_))))))
   have ho51:0<=(y2:Int)/\(y2:Int)<((l).length:Int):=(by first|omega|(have hq:=ss signed aH _ (gp hd2);omega))
   refine j9 8 eo jn oq ty51 (hl.mono vH hle1).1 ho51 (dh ho51) U U U U kr (λq42 cs18 A42 ln18 rr18=>?_)
   obtain⟨r18,rfl,ok18⟩:=rr18
   refine qB [9] U (tf 10 U U (rH 8 ty31 A42 U U) (tm 11 U ?_))
   have ho52:0<=(((((((nthI l y2).Needs.length)-i4):Nat):Int)-1):Int)/\(((((((nthI l y2).Needs.length)-i4):Nat):Int)-1):Int)<(((nthI l y2).Needs).length:Int):=ob
   refine eX 12 (enc:=λy=>[I y]) eo jn ei ej ty3 ok18.Needs.1 ho52 (dh ho52) U U U U kr (λq43 A43=>tf 13 U U (rh ty3 A43 U) (qA [15,16] U ?_))
   have ho53:0<=(y2:Int)/\(y2:Int)<((signed).length:Int):=(by first|omega|(have hq:=ss signed aH _ (gp hd2);omega))
   refine eX 17 (enc:=λy=>[I y]) eo jn ei ej ty3 (hsigned.mono jH hle1).1 ho53 (dh ho53) U U U U kr (λq44 A44=>tf 18 U U (rh ty3 A44 U) (tn 14 U (fo call231 (Ai _ _ _ _ (nthI ((nthI l y2).Needs) ((((((nthI l y2).Needs.length)-i4):Nat):Int)-1)) (hl.mono vH hle1)) U (⟨jn,tn 19 U (E4 ([]) od (Ca) call295 Rp.ql pA ap (λhq1 hqle1 hqsl=>xX hq1 l eu et ((bY signed aH).take (((i2:Int):Int)).toNat) sb8 sc8 lB oX oW (gg l (nthI ((nthI l y2).Needs) ((((((nthI l y2).Needs.length)-i4):Nat):Int)-1))) (nthI signed y2) (hl.mono vH (hle1.t hqle1)) (sl10.mono jH hqle1) hqsl (λx hx=>by have hq:=ss signed aH x (List.mem_of_mem_take hx);omega) ob) U (⟨jn,(qR 20 5 U (aQ kr (qT 5 U (ae hs6 U (λc15 hs8=>?_) (λc15 hs9=>?_)))))⟩))⟩))))
   .refine qT 5 U ?_
    have ho54:0<=(y2:Int)/\(y2:Int)<((l).length:Int):=(by first|omega|(have hq:=ss signed aH _ (gp hd2);omega))
    refine aB (ur oq ty51 (hl.mono vH hle1).1 ho54 (dh ho54) U U U (λ_ _ _ e=>e) (λq45 r19 A45 ok19=>qL 1 [] U (ju (j:=8) ty31 A45 U U (av ?_))))
    have ho55:0<=(((((((nthI l y2).Needs.length)-i4):Nat):Int)-1):Int)/\(((((((nthI l y2).Needs.length)-i4):Nat):Int)-1):Int)<(((nthI l y2).Needs).length:Int):=ob
    refine aB (pd (enc:=λy=>[I y]) ei ej ty3 ok19.Needs.1 ho55 (dh ho55) U U U (λq46 A46=>dB ty3 A46 U ?_))
    have ho56:0<=(y2:Int)/\(y2:Int)<((tz).length:Int):=ob
    have hgz:=dC.zj Ap (by omega)
    obtain⟨bk12,hbk12⟩:=hgz
    exact aB (fK (oJ (R:=kB) (xs:=tz) ej ty3 hbk12 ho56 U U U) (aB (BF (R:=kB) (i:=(y2:Int).toNat) (off:=0) (u:=(nthI tz y2)) (u':=(nthI ((nthI l y2).Needs) ((((((nthI l y2).Needs.length)-i4):Nat):Int)-1))) (v:=I (nthI ((nthI l y2).Needs) ((((((nthI l y2).Needs.length)-i4):Nat):Int)-1))) (od) Ca ([]) ty3 U Ap ap hbk12 (dh ho56) (by decide) (λcs_z hcs=>by rw[show cs_z=[I (nthI tz y2)]from hcs];rfl) U U U (λG13 gr13=>gJ (L':=od++G13) (by first|rfl|simp only[List.length_set,kD,qP,zG,List.append_nil]) (QW 9 (.slice F4 ((tz.set (y2:Int).toNat (nthI ((nthI l y2).Needs) ((((((nthI l y2).Needs.length)-i4):Nat):Int)-1))).length) F3) (congrArg (λn_=>Value.slice F4 n_ F3) (List.length_set ..).symm) (qO 4 U (jO (v':=I ((((((nthI l y2).Needs.length)-(i4+1)):Nat):Int)-1)) U (Nb KH ob) (an (ag2 ((i4+1),(tz.set (y2:Int).toNat (nthI ((nthI l y2).Needs) ((((((nthI l y2).Needs.length)-i4):Nat):Int)-1))),F4,F3,G13,rz4) _ (Nat.lt_succ_self _) ⟨kO hd4,iB hd4,hs8,gr13,(by first|assumption|(rw[List.length_set];assumption))⟩ rd)))))))))
   exact aI (qT 3 U (jO (v':=I ((((((nthI l y2).Needs.length)-(i4+1)):Nat):Int)-1)) U (Nb KH ob) (an (ag2 ((i4+1),tz,F4,F3,Ca,rz4) _ (Nat.lt_succ_self _) ⟨kO hd4,iB hd4,hs9,Ap,(by first|assumption|(rw[List.length_set];assumption))⟩ rd))))
  rintro i2 ⟨lB,oX,oW,od,F7,Ia,H9,MY⟩ hd2 Pt hx e
  exact qK 6 [] U (fO Pt U (qO 3 U (hx _ rd)))
 .rintro i1 ⟨nd,rq,rn,uV⟩ y1 rz1 hd1 df aS dZ gy hs10 ⟨pD,yD,u1_0⟩ hx1 ag3 e
  try dsimp only at pD yD u1_0
  exact qK 6 [] U (tO df U (qO 7 U (aB (bB (cells:=[I (-1)]) ej ty3 zc3 U U kr (λb4=>aB (dy aBw ([(b4,O [I (-1)] 3)]++G1) ([]) (λG=>[(b4,O [I (-1)] 3)]++(G1++G)) ap (λ_=>ap) ej ty3 zc3 U bytes3 pD U U (eF 0 U (cE (-1) U U)) lo lo (λob2 oc2 G14 gr14=>qO 5 U (oi i1 U (an (aX (L':=G1++G14) js (ag3 ((nd++[(-1)]),ob2,oc2,G14) hs10 ⟨gr14,lo,lo⟩)))))))))))
 rintro i1 ⟨nd,rq,rn,uV⟩ hd1 gu hx e
 exact qK 6 [] U (fO gu U (qO 3 U (hx _ rd)))
theorem Fo(h:HF)(l:List Document)(eu:Option Addr)(et:Nat)(signed:List Int)(ck:Option Addr)(cj:Nat)(Bm:Int)(dt:Int)(hl:SlC xS h eu et l)(hsigned:SlC kB h ck cj signed)(hsg:signed.length=l.length)(hsn:signed.length<=2000000)(hnd:∀d∈l,d.Needs.length<=16)(hi:0<=Bm/\Bm<(l.length:Int)):Ret prog 224 [.slice eu l.length et,.slice ck signed.length cj,I Bm,I dt] h (.tuple #[I ((jp l signed Bm dt).1),I ((jp l signed Bm dt).2)]):=by
 refine sT func224 U ntmps224 U λX hM hX hF=>?_
 have hs0:jp l signed Bm dt=jp l signed Bm dt:=rfl
 have hll:=N5 l signed dt hsg
 refine qT 10 U (aB (cT call294 (Fq _ _ _ _ _ _ _ dt hl hsigned ob ob ob) U (λv1 h1 hle1 hp1=>?_)))
 obtain⟨rb1,rc1,rfl,sl1⟩:=hp1
 refine qO 4 U (aB (qf uE ty4 (λb1=>qO 7 U ?_)))
 obtain⟨G2,gr2,ge1⟩:∃G:LH,dC aA4 4 h1 ([]) (some ⟨b1,0,none⟩) 0 G/\[(b1,O [] 4)]=G:=⟨_,dC.lit (show bI aA4 h1 [] ([])from rfl) rfl,rfl⟩
 refine cv (L':=([])++([(b1,O [] 4)]++([]))) ap ?_
 rw[ge1]
 refine mb (List.Perm.append_left _ vJ) (cv (L':=G2) ap ?_)
 refine lp4 l (λi w=>[(0,.slice eu l.length et),(1,.slice ck signed.length cj),(2,I Bm),(3,I dt),(10,.slice rb1 ((bZ l signed dt).length) rc1),(11,.slice w.2.1 w.1.length w.2.2.1),(12,I (i:Int))]) (λ_=>h1) (λw=>w.2.2.2) (λi w=>dC aA4 4 h1 w.1 w.2.1 w.2.2.1 w.2.2.2/\w.1.length<=0+i/\w.1.length=i) (λi w=>dC aA4 4 h1 w.1 w.2.1 w.2.2.1 w.2.2.2/\w.1.length<=0+i/\w.1.length=l.length) (λi g hi h=>⟨h.1,h.2.1,h.2.2.trans hi⟩) (λs1 i w=>(jp.L1 l signed dt (jp.K1 l signed Bm dt)) s1 i w.1) ([],(some ⟨b1,0,none⟩),0,G2) ((hl.mono vH hle1).1.1) hs0 ⟨gr2,lo,U⟩ ?_ ?_ ?_
 .rintro i1 ⟨lI,PG,PF,LX⟩ ft hs1 ⟨Gi,LW,u1_0⟩ e
  try dsimp only at Gi LW u1_0
  refine qT 5 U (aB (cT call296 (xY _ _ _ _ dt (hsigned.mono jH hle1) ob) U (λv3 h4 hle4 hp3=>?_)))
  obtain⟨rb3,rc3,rfl,sl4⟩:=hp3
  refine qO 3 U (oF Rp.ql ([]) LX ([]) ap hM (Gi.mono Rp.ql hle4) (λh5 hle5 sl5=>aj call295 (xX _ _ _ _ _ _ _ _ _ _ Bm dt (hl.mono vH ((hle1.t hle4).t hle5)) (sl4.mono jH hle5) sl5 (λx hx=>by have hq:=ss signed dt x hx;omega) ob) U (qO 12 U (ae hs1 U (λc2 hs2=>?_) (λc2 hs3=>?_)))))
  .refine qT 3 U ?_
   have ho3:0<=(Bm:Int)/\(Bm:Int)<(((bZ l signed dt)).length:Int):=ob
   refine aB (pd (enc:=λy=>[I y]) ei ej ty3 (sl1.mono jH (hle4.t hle5)).1 ho3 (dh ho3) U U U (λq3 A3=>dB ty3 A3 U (qO 9 U ?_)))
   have hs4:jp l signed Bm dt=((eQ l (bY signed dt) lI Bm dt).1,(nthI (bZ l signed dt) Bm)):=hs2
   exact nretP [I ((eQ l (bY signed dt) lI Bm dt).1),I (nthI (bZ l signed dt) Bm)] (congrArg (λr:(Int×Int)=>(.tuple #[I r.1,I r.2]:Value)) hs4.symm)
  refine qT 8 U ?_
  have hs5:jp l signed Bm dt=((eQ l (bY signed dt) lI Bm dt).1,(eQ l (bY signed dt) lI Bm dt).2):=hs3
  exact nretP [I ((eQ l (bY signed dt) lI Bm dt).1),I ((eQ l (bY signed dt) lI Bm dt).2)] (congrArg (λr:(Int×Int)=>(.tuple #[I r.1,I r.2]:Value)) hs5.symm)
 .rintro i1 ⟨lI,PG,PF,LX⟩ y1 rz1 hd1 df aS dZ gy hs6 ⟨Gi,LW,u1_0⟩ hx1 ag1 e
  try dsimp only at Gi LW u1_0
  refine qK 6 [] U (tO df U (qO 9 U ?_))
  have ho4:0<=((i1:Int):Int)/\((i1:Int):Int)<(((bZ l signed dt)).length:Int):=ob
  refine aB (pd (enc:=λy=>[I y]) ei ej ty3 sl1.1 ho4 (dh ho4) U U U (λq4 A4=>dB ty3 A4 U (MM U (aB (bB (cells:=[.bool (decide ((nthI (bZ l signed dt) (i1:Int))<0))]) uE ty4 zc4 U U kr (λb3=>?_))))))
  let z1:Nat×Obj:=(b3,O [.bool (decide ((nthI (bZ l signed dt) (i1:Int))<0))] 4)
  exact aB (dy Rp.Ik ([z1]) ([]) (λG=>[z1]++G) ap (λ_=>ap) uE ty4 zc4 U bytes4 Gi U U (eF 0 U (cE (decide ((nthI (bZ l signed dt) (i1:Int))<0)) U U)) lo lo (λob2 oc2 G3 gr3=>qO 5 U (oi i1 U (an (aX (L':=G3) js (ag1 ((lI++[decide ((nthI (bZ l signed dt) (i1:Int))<0)]),ob2,oc2,G3) hs6 ⟨gr3,lo,lo⟩))))))
 rintro i1 ⟨lI,PG,PF,LX⟩ hd1 gu hx e
 exact qK 6 [] U (fO gu U (qO 3 U (hx _ rd)))
theorem CP(h:HF)(l:List Document)(eu:Option Addr)(et:Nat)(signed:List Int)(ck:Option Addr)(cj:Nat)(aH:Int)(hl:SlC xS h eu et l)(hsigned:SlC kB h ck cj signed)(hsn:l.length<=2000000):jv prog 137 [.slice eu l.length et,.slice ck signed.length cj,I aH] h (λv h'=>∃(rb0:Option Addr)(rc0:Nat),v=.tuple #[.slice rb0 ((fx l signed aH).1).length rc0,I ((fx l signed aH).2)]/\SlC kB h' rb0 rc0 ((fx l signed aH).1)):=by
 refine sT func137 U ntmps137 U λX hM hX hF=>?_
 have hs0:fx l signed aH=fx l signed aH:=rfl
 refine qT 8 U (aj call77 (xZ _ _ _ _ hl) U (qO 8 U (ae hs0 U (λc1 hs1=>?_) (λc1 hs2=>?_))))
 .refine qT 6 U ?_
  have hs3:fx l signed aH=([],(dO l)):=hs1
  exact nretH [.slice none 0 0,I (dO l)] ⟨none,0,congrArg (λr:(List Int×Int)=>(.tuple #[.slice none r.1.length 0,I r.2]:Value)) hs3.symm,(by rw[hs3];exact qF)⟩
 refine qT 6 U (aj call222 (BP _ _ _ _ _ _ _ hl hsigned) U (qO 2 U (ce 4 [22,23,24,25,26] 22 26 (!(lO aH)) U (λc2 hk1=>?_) (λe=>?_))))
 .exact av (aj call223 (uu h aH) U (qO 2 U (hk1 _ U)))
 refine aJ (ae hs2 U (λc3 hs4=>?_) (λc3 hs5=>?_))
 .refine qT 5 U ?_
  have hs6:fx l signed aH=([],1):=hs4
  exact nretH [.slice none 0 0,I 1] ⟨none,0,congrArg (λr:(List Int×Int)=>(.tuple #[.slice none r.1.length 0,I r.2]:Value)) hs6.symm,(by rw[hs6];exact qF)⟩
 refine qT 3 U (aB (qf ej ty3 (λb1=>qO 7 U ?_)))
 obtain⟨G2,gr2,ge1⟩:∃G:LH,dC kB 3 h ([]) (some ⟨b1,0,none⟩) 0 G/\[(b1,O [] 3)]=G:=⟨_,dC.lit (show bI kB h [] ([])from rfl) rfl,rfl⟩
 refine cv (L':=([])++([(b1,O [] 3)]++([]))) ap ?_
 rw[ge1]
 refine mb (List.Perm.append_left _ vJ) (cv (L':=G2) ap ?_)
 refine lp2 l (λi w=>[(0,.slice eu l.length et),(1,.slice ck signed.length cj),(2,I aH),(9,.slice w.2.1 w.1.length w.2.2.1),(10,I (i:Int))]) (λ_=>h) (λw=>w.2.2.2) (λi w=>dC kB 3 h w.1 w.2.1 w.2.2.1 w.2.2.2/\w.1.length<=0+i) (λs1 i w=>(fx.L1 l signed aH (fx.K1)) s1 i w.1) ([],(some ⟨b1,0,none⟩),0,G2) hl.1.1 hs5 ⟨gr2,lo⟩ ?_ ?_ ?_
 .rintro i1 ⟨nd,rq,rn,uV⟩ ft hs7 ⟨pD,yD⟩ e
  try dsimp only at pD yD
  refine qT 6 U (eK jH ([]) uV ([]) ap hM pD (λh2 hle2 sl2=>?_))
  have hs8:fx l signed aH=(nd,0):=hs7
  exact nretH [.slice rq nd.length rn,I 0] ⟨rq,rn,congrArg (λr:(List Int×Int)=>(.tuple #[.slice rq r.1.length rn,I r.2]:Value)) hs8.symm,(by rw[hs8];exact sl2)⟩
 .rintro i1 ⟨nd,rq,rn,uV⟩ y1 rz1 hd1 df aS dZ gy hs9 ⟨pD,yD⟩ hx1 ag1 e
  try dsimp only at pD yD
  refine qK 6 [] U (tO df U (qO 11 U (aj call224 (Fo _ _ _ _ _ _ _ (i1:Int) aH hl hsigned (wh (by simp only[decide_eq_true_eq,decide_eq_false_iff_not,xB,xD,qE,Bool.not_eq_false',Bool.and_eq_false_iff,Bool.or_eq_false_iff,beq_iff_eq,beq_eq_false_iff_ne,bne_iff_ne,bne_eq_false_iff_eq,jA,xA,vB,List.length_drop]at *;first|assumption|exact(by assumption:_/\_).1|exact(by assumption:(_/\_)/\_).1.1)) (by rw[show signed.length=l.length from(wh (by simp only[decide_eq_true_eq,decide_eq_false_iff_not,xB,xD,qE,Bool.not_eq_false',Bool.and_eq_false_iff,Bool.or_eq_false_iff,beq_iff_eq,beq_eq_false_iff_ne,bne_iff_ne,bne_eq_false_iff_eq,jA,xA,vB,List.length_drop]at *;first|assumption|exact(by assumption:_/\_).1|exact(by assumption:(_/\_)/\_).1.1))];exact hsn) (K7 ob) (by first|omega|exact Find_ok ob)) U (qO 11 U (ae hs9 U (λc5 hs10=>?_) (λc5 hs11=>?_))))))
  .exact bE (qO 3 U (aB (iR oq ty51 hl.1 aS U U U (λ_ _ _ e=>e) (λq2 r2 A2 ok2=>qL 1 [] U (dB ty3 A2 U (aB (bB (cells:=[I y1.No]) ej ty3 zc3 U U kr (λb3=>aB (dy aBw ([(b3,O [I y1.No] 3)]) ([]) (λG=>[(b3,O [I y1.No] 3)]++G) ap (λ_=>ap) ej ty3 zc3 U bytes3 pD U U (eF 0 U (cE (y1.No) U U)) lo lo (λob2 oc2 G3 gr3=>qO 5 U (oi i1 U (an (aX (L':=G3) js (ag1 ((nd++[y1.No]),ob2,oc2,G3) hs10 ⟨gr3,lo⟩))))))))))))))
  exact aI (qT 3 U (oi i1 U (an (ag1 (nd,rq,rn,uV) hs11 ⟨pD,lo⟩))))
 rintro i1 ⟨nd,rq,rn,uV⟩ hd1 gu hx e
 exact qK 6 [] U (fO gu U (qO 3 U (hx _ rd)))
theorem Ah(h:HF)(er:Int)  : Ret prog 226 [I er] h (.bool (oI er)):=by
 refine sT func226 U ntmps226 U λX hM hX hF=>?_
 have hs0:oI er=oI er:=rfl
 refine qT 9 U (bA 3 [5,6,7,8] 5 8 (decide (er<16)) U (λc1 hk1=>?_) (λe=>?_))
 .exact av (qO 2 U (hk1 _ U))
 exact an (nretP [.bool (decide (0<=er)&&decide (er<16))] (cs hs0))
end Go.Sg
