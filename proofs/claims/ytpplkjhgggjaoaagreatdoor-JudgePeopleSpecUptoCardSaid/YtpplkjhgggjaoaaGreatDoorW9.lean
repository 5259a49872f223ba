import Derived.Test.YtpplkjhgggjaoaaGreatDoorCards
import Derived.Test.YtpplkjhgggjaoaaGreatDoorTie
import Derived.ProofKit
import Derived.Deep.DeepHandedRow
import Derived.Test.YtpplkjhgggjaoaaGreatDoorW8
/- A part of the proof of JudgePeopleSpec. -/
set_option linter.unusedVariables false
set_option linter.unusedSimpArgs false
set_option maxRecDepth 100000
open Go.Sg.Rp renaming int→kB,aL→xH,ep→SL
open Go.Sg.Approval renaming cells→zC,aj→zH
open Go.Sg.Interest renaming cells→xC,rp→xK,aj→vQ
open Go.Sg.Policy renaming cells→xE
open Go.Sg.SlC renaming nil→vE
open Go.Sg.Deputy renaming cells→jG,aj→zM,rp→xN
open List renaming perm_append_comm→kH,range→zK
open Go.Sg.Register renaming cells→vK,ok→xV
open Go.Sg.HF renaming le→xM
open Go.Sg.Document renaming cells→qP,ok→SG
open Nat renaming le_trans→xS

namespace Go.Sg
section
open Go.Proofs Go.Proofs.Tryz
set_option maxHeartbeats 2000000
theorem Bs(h:HF)(l:List Deputy)(dU:Option Addr)(dT:Nat)(office:Int)(kind:Int)(value:Int)(eB:Int)(known:Int)(hl:SlC xN h dU dT l)(hsz0:l.length<=2000000):i9 prog 312 [.slice dU l.length dT,I office,I kind,I value,I eB,I known] h (λv h'=>∃(rb0:Option Addr)(rc0:Nat),v=.slice rb0 (dQ l office kind value eB known).length rc0/\SlC xN h' rb0 rc0 (dQ l office kind value eB known)):=by
 refine sT func312 U ntmps312 U λX hM hX hF=>?_
 have hs0:=@rfl _ (dQ l office kind value eB known)
 refine qT 6 U (aA (jI nr ty93 (λb1=>qO 7 U (aA (cC call347 (Bt _ _ _ _ eB known hl ob) U (λv1 h1 hle1 hp1=>?_))))))
 obtain⟨rb1,rc1,rfl,sl1⟩:=hp1
 refine qO 7 U ?_
 obtain⟨G2,gr2,ge1⟩:∃G:LH,cZ xN 93 h1 ([]) (some ⟨b1,0,none⟩) 0 G/\[(b1,O [] 93)]=G:=⟨_,cZ.lit (show aY xN h1 [] ([])from rfl) rfl,rfl⟩
 refine bW (L':=([])++([(b1,O [] 93)]++([]))) ap ?_
 rw[ge1]
 refine lL (List.Perm.append_left _ kH) (bW (L':=G2) ap ?_)
 refine lp2 (ck l eB known) (λi w=>[(1,I office),(2,I kind),(3,I value),(13,.slice w.2.1 w.1.length w.2.2.1),(14,.slice rb1 ((ck l eB known).length) rc1),(15,I (i:Int))]) (λ_=>h1) (λw=>w.2.2.2) (λi w=>cZ xN 93 h1 w.1 w.2.1 w.2.2.1 w.2.2.2/\w.1.length<=0+i) (λs1 i w=>(dQ.L1 office kind value (dQ.K1)) s1 w.1) ([],(some ⟨b1,0,none⟩),0,G2) sl1.1.1 hs0 ⟨gr2,lo⟩ ?_ ?_ ?_
 .rintro i1 ⟨vf,CP,CO,IM⟩ ft hs1 ⟨CN,LI⟩ e
  try dsimp only at CN LI
  refine qT 5 U (eY zM ([]) IM ([]) ap hM CN (λh3 hle3 sl3=>?_))
  have hs2:dQ l office kind value eB known=vf:=hs1
  exact nretH [.slice CP vf.length CO] ⟨CP,CO,congrArg (λr:List Deputy=>(.slice CP r.length CO:Value)) hs2.symm,(by rw[hs2];exact sl3)⟩
 .rintro i1 ⟨vf,CP,CO,IM⟩ y1 rz1 hd1 cY aJ dY gy hs3 ⟨CN,LI⟩ hx1 ag1 e
  try dsimp only at CN LI
  have hq_:=xS (OL l eB known) hsz0
  refine qK 6 [] U (tO cY U (qO 9 U (aA (iF jG nr ty93 sl1.1 aJ U U U (λq3 A3=>dv ty93 A3 U U (qO 3 U (ai call348 (DQ h1 y1 office kind value) U (aI (ae hs3 U (λc2 hs4=>?_) (λc2 hs5=>?_))))))))))
  .refine qT 4 U (aA (iF jG nr ty93 sl1.1 aJ U U U (λq4 A4=>dv ty93 A4 U U (aA (aV (cells:=[I y1.No,I y1.At,I y1.Known,I y1.Until,I y1.From,I y1.To,I y1.Office,I y1.Kind,I y1.Most,.bool y1.Gone]) nr ty93 zc93 U U kr (λb3=>?_))))))
   let z1:Nat×Obj:=(b3,O [I y1.No,I y1.At,I y1.Known,I y1.Until,I y1.From,I y1.To,I y1.Office,I y1.Kind,I y1.Most,.bool y1.Gone] 93)
   exact aA (cd Deputy.eo ([z1]) ([]) (λG=>[z1]++G) ap (λ_=>ap) nr ty93 zc93 U bytes93 CN U U (dX 0 U (cE y1 U U)) lo lo (λob2 oc2 G3 gr3=>qO 5 U (oi i1 U (an (ba (L':=G3) js (ag1 ((vf++[y1]),ob2,oc2,G3) hs4 ⟨gr3,lo⟩))))))
  exact aH (qT 3 U (oi i1 U (an (ag1 (vf,CP,CO,IM) hs5 ⟨CN,lo⟩))))
 rintro i1 ⟨vf,CP,CO,IM⟩ hd1 fL hx e
 exact qK 6 [] U (fO fL U (qO 3 U (hx _ rd)))
theorem Il(h:HF)(l:List Int)(dU:Option Addr)(dT:Nat)(nH:Int)(hl:SlC kB h dU dT l):Ret prog 349 [.slice dU l.length dT,I nH] h (.bool (kh l nH)):=by
 refine sT func349 U ntmps349 U λX hM hX hF=>?_
 have hs0:=@rfl _ (kh l nH)
 refine qT 9 U ?_
 refine lp0 l (λi=>[(0,.slice dU l.length dT),(1,I nH),(5,I (i:Int))]) ([]) (λs1 i=>(kh.L1 nH (kh.K1)) s1) hl.1.1 hs0 ?_ ?_ ?_
 .rintro i1 ft hs1 e
  exact sr (an (nretP [.bool false] (cs hs1)))
 .rintro i1 y1 rz1 hd1 cY aJ dY gy hs3 hx1 ag1 e
  refine qK 6 [] U (tO cY U (qO 9 U (aA (iF (λy=>[I y]) dy ty3 hl.1 aJ U U U (λq2 A2=>dD ty3 A2 U (qO 3 U (ae hs3 U (λc2 hs4=>?_) (λc2 hs5=>?_))))))))
  .exact sr (an (nretP [.bool true] (cs hs4)))
  exact aH (qT 3 U (oi i1 U (an (ag1 hs5))))
 rintro i1 hd1 fL hx e
 exact qK 6 [] U (fO fL U (qO 3 U (hx _ rd)))
theorem E3(rec:List Deputy->List Int->Int->Int->(List Int×Bool))(hrp:∀(q:List Deputy)(p:List Int)(b n:Int),0<=n->(rec q p b n).1.length<=n.toNat)(h:HF)(l:List Deputy)(dU:Option Addr)(dT:Nat)(people:List Int)(mU:Option Addr)(mT:Nat)(to:Int)(many:Int)(hrec:∀(h:HF)(ql:List Deputy)(Qr:Option Addr)(Qq:Nat)(qpeople:List Int)(yN:Option Addr)(yM:Nat)(qto:Int)(qmany:Int)(hql:SlC xN h Qr Qq ql)(hqpeople:SlC kB h yN yM qpeople)(hmn:(0<=qmany/\qmany<=8)/\(0<qpeople.length/\qpeople.length+qmany.toNat<=100))(_:(qmany.toNat+1)<(many.toNat+1)),i9 prog 313 [.slice Qr ql.length Qq,.slice yN qpeople.length yM,I qto,I qmany] h (λv h'=>∃(rb0:Option Addr)(rc0:Nat),v=.tuple #[.slice rb0 ((rec ql qpeople qto qmany).1).length rc0,.bool ((rec ql qpeople qto qmany).2)]/\SlC kB h' rb0 rc0 ((rec ql qpeople qto qmany).1)))(hl:SlC xN h dU dT l)(hpeople:SlC kB h mU mT people)(hmn:(0<=many/\many<=8)/\(0<people.length/\people.length+many.toNat<=100)):i9 prog 313 [.slice dU l.length dT,.slice mU people.length mT,I to,I many] h (λv h'=>∃(rb0:Option Addr)(rc0:Nat),v=.tuple #[.slice rb0 ((cA.F rec l people to many).1).length rc0,.bool ((cA.F rec l people to many).2)]/\SlC kB h' rb0 rc0 ((cA.F rec l people to many).1)):=by
 refine sT func313 U ntmps313 U λX hM hX hF=>?_
 have hs0:=@rfl _ (cA.F rec l people to many)
 refine qK 10 [] U (j9 (v':=I ((people.length:Int)-1)) U (j0 ob) ?_)
 have ho1:0<=(((people.length:Int)-1):Int)/\(((people.length:Int)-1):Int)<((people).length:Int):=ob
 refine aA (rO (enc:=λy=>[I y]) ei dy ty3 hpeople.1 ho1 (de ho1) U U U (λq1 A1=>dD ty3 A1 U (qO 8 U (ae hs0 U (λc1 hs1=>?_) (λc1 hs2=>?_)))))
 .refine sr (aA (jI dy ty3 (λb1=>qO 6 U (eC 0 U hM (λh1 hle1 hb1=>?_)))))
  have sl1:SlC kB h1 (some ⟨b1,0,none⟩) 0 ([]):=aY.slB0 (T:=3) (fz:=(0,0)) ((show aY kB h [] ([])from rfl).mono xH hle1) hb1
  have hs3:cA.F rec l people to many=([],((nthI people ((people.length:Int)-1))==to)):=hs1
  exact nretH [.slice (some ⟨b1,0,none⟩) 0 0,.bool ((nthI people ((people.length:Int)-1))==to)] (hs3▸⟨(some ⟨b1,0,none⟩),0,U,sl1⟩)
 refine qT 6 U ?_
 refine lp2 l (λi w=>[(0,.slice dU l.length dT),(1,.slice mU people.length mT),(2,I to),(3,I many),(10,I (nthI people ((people.length:Int)-1))),(11,I (i:Int))]) (λw=>w) (λw=>[]) (λi w=>xM h w) (λs1 i w=>(cA.L1 rec l people to many (cA.K1)) s1) h hl.1.1 hs2 lf ?_ ?_ ?_
 .rintro i1 hh1 ft hs4 hl1 e
  try dsimp only at hl1
  refine qT 5 U ?_
  have hs5:cA.F rec l people to many=([],false):=hs4
  exact nretH [.slice none 0 0,.bool false] (hs5▸⟨none,0,U,vE⟩)
 .rintro i1 hh1 y1 rz1 hd1 cY aJ dY gy hs6 hl1 hx1 ag1 e
  try dsimp only at hl1
  have hq:=hrp l ([]++people++[y1.To]) to (many-1) (by simp only[beq_eq_false_iff_ne]at *;omega)
  refine qK 6 [] U (tO cY U (qO 10 U (aA (iF jG nr ty93 (hl.mono zM hl1).1 aJ U U U (λq4 A4=>qL 1 [] U (jk (j:=4) ty3 A4 U U (qO 3 U (bL 8 [39,40,41,42,43,44,45,46,47] 39 47 (kh people y1.To) U (λc2 hk1=>?_) (λe=>?_)))))))))
  .exact av (qO 2 U (aA (iF jG nr ty93 (hl.mono zM hl1).1 aJ U U U (λq5 A5=>qL 1 [] U (jk (j:=5) ty3 A5 U U (ai call349 (Il _ _ _ _ y1.To (hpeople.mono xH hl1)) U (eE U (hk1 _ U))))))))
  refine aI (ae hs6 U (λc3 hs7=>?_) (λc3 hs8=>?_))
  .exact lM U (qT 2 U (oi i1 U (an (ag1 hh1 hs7 hl1))))
  refine qT 2 U (eh ([]) mixed kr jn (λdt _=>qA [0,2,4,5] U (cU 6 (enc:=jG) dt jn ei nr ty93 (hl.mono zM hl1).1 (nthZ aJ) (dq aJ) U U U U kr (λq6 A6=>qB [7] U (tf 8 U U (rH 5 ty3 A6 U U) (qA [11,12] U (tf 13 U U (λ_ _ _=>oy (v':=I (many-1)) U (j0 ob)) ?_)))))))
  refine lY 1 9 kr U U ?_ ?_ 
  .refine jI dy ty3 (λb2=>⟨jn,?_⟩)
   refine lY 3 9 kr U U ?_ ?_ 
   .refine cd SL ([]) ([]) (λG=>G) ap (λ_=>ap) dy ty3 zc3 U bytes3 (cZ.lit (show aY kB hh1 [] ([])from U) U) U U (gl (hpeople.mono xH hl1).1) lo lo (λob1 oc1 G1 gr1=>⟨jn,(tn 9 U (aV (cells:=[I y1.To]) dy ty3 zc3 U U kr (λb3=>⟨jn,tn 10 U (cd SL ([(b3,O [I y1.To] 3)]) ([]) (λG=>[(b3,O [I y1.To] 3)]++G) ap (λ_=>ap) dy ty3 zc3 U bytes3 gr1 U U (dX 0 U (cE (y1.To) U U)) lo lo (λob2 oc2 G2 gr2=>⟨jn,(tn 14 U (lV xH ([(b3,O [I y1.To] 3)]) G2 ([]) ap hM gr2 (λh2 hle2 sl2=>cC K0 (hrec _ _ _ _ _ _ _ to (many-1) (hl.mono zM (hl1.t hle2)) sl2 ob (by simp only[beq_eq_false_iff_ne]at *;omega)) U (λv1 h3 hle3 hp1=>?_))))⟩))⟩)))⟩)
    obtain⟨rb1,rc1,rfl,sl3⟩:=hp1
    refine⟨⟨(hle2.t hle3),λ_ hp=>List.Sublist.subset js hp⟩,lk (K2:=[]) (hle2.t hle3) (λ_ hp=>hp) (qR 15 5 U (aG kr (qT 4 U (ae hs8 U (λc4 hs9=>?_) (λc4 hs10=>?_)))))⟩
    .refine qT 4 U (aA (iF jG nr ty93 (hl.mono zM ((hl1.t hle2).t hle3)).1 aJ U U U (λq7 A7=>qL 1 [] U (dD ty3 A7 U (aA (aV (cells:=[I y1.No]) dy ty3 zc3 U U kr (λb4=>av (aA (cd SL ([]) ([(b3,O [I y1.To] 3)]) (λG=>[(b3,O [I y1.To] 3)]++G) ap (λ_=>ap) dy ty3 zc3 U bytes3 (cZ.lit (show aY kB h3 [I y1.No] ([y1.No])from⟨[I y1.No],[],U,U,U,U⟩) U) U U (gl sl3.1) lo lo (λob3 oc3 G3 gr3=>qO 3 U (eY xH ([(b3,O [I y1.To] 3)]) G3 ([]) ap hM gr3 (λh4 hle4 sl4=>?_))))))))))))
     have hs11:cA.F rec l people to many=(([y1.No]++(rec l (people++[y1.To]) to (many-1)).1),true):=hs9
     exact nretH [.slice ob3 (([y1.No]++(rec l (people++[y1.To]) to (many-1)).1).length) oc3,.bool true] (hs11▸⟨ob3,oc3,U,sl4⟩)
    exact aH (qT 3 U (oi i1 U (an (ba (L':=[]) js (ag1 h3 hs10 ((hl1.t hle2).t hle3))))))
   refine aV (cells:=[I y1.To]) dy ty3 zc3 U U kr (λb5=>⟨jn,(tn 3 U (cd SL ([(b5,O [I y1.To] 3)]) ([]) (λG=>[(b5,O [I y1.To] 3)]++G) ap (λ_=>ap) dy ty3 zc3 U bytes3 (cZ.lit (show aY kB hh1 [] ([])from U) U) U U (gl (hpeople.mono xH hl1).1) lo lo (λob4 oc4 G4 gr4=>⟨jn,(tn 10 U (cd SL ([(b5,O [I y1.To] 3)]) ([]) (λG=>[(b5,O [I y1.To] 3)]++G) ap (λ_=>ap) dy ty3 zc3 U bytes3 gr4 U U (dX 0 U (cE (y1.To) U U)) lo lo (λob5 oc5 G5 gr5=>⟨jn,(tn 14 U (lV xH ([(b5,O [I y1.To] 3)]) G5 ([]) ap hM gr5 (λh5 hle5 sl5=>cC K0 (hrec _ _ _ _ _ _ _ to (many-1) (hl.mono zM (hl1.t hle5)) sl5 ob (by simp only[beq_eq_false_iff_ne]at *;omega)) U (λv2 h6 hle6 hp2=>?_))))⟩)))⟩)))⟩)
   obtain⟨rb2,rc2,rfl,sl6⟩:=hp2
   refine⟨⟨(hle5.t hle6),λ_ hp=>List.Sublist.subset js hp⟩,lk (K2:=[]) (hle5.t hle6) (λ_ hp=>hp) (qR 15 5 U (aG kr (qT 4 U (ae hs8 U (λc5 hs12=>?_) (λc5 hs13=>?_)))))⟩
   .refine qT 4 U (aA (iF jG nr ty93 (hl.mono zM ((hl1.t hle5).t hle6)).1 aJ U U U (λq8 A8=>qL 1 [] U (dD ty3 A8 U (aA (aV (cells:=[I y1.No]) dy ty3 zc3 U U kr (λb6=>av (aA (cd SL ([]) ([(b5,O [I y1.To] 3)]) (λG=>[(b5,O [I y1.To] 3)]++G) ap (λ_=>ap) dy ty3 zc3 U bytes3 (cZ.lit (show aY kB h6 [I y1.No] ([y1.No])from⟨[I y1.No],[],U,U,U,U⟩) U) U U (gl sl6.1) lo lo (λob6 oc6 G6 gr6=>qO 3 U (eY xH ([(b5,O [I y1.To] 3)]) G6 ([]) ap hM gr6 (λh7 hle7 sl7=>?_))))))))))))
    have hs14:cA.F rec l people to many=(([y1.No]++(rec l (people++[y1.To]) to (many-1)).1),true):=hs12
    exact nretH [.slice ob6 (([y1.No]++(rec l (people++[y1.To]) to (many-1)).1).length) oc6,.bool true] (hs14▸⟨ob6,oc6,U,sl7⟩)
   exact aH (qT 3 U (oi i1 U (an (ba (L':=[]) js (ag1 h6 hs13 ((hl1.t hle5).t hle6))))))
  refine aV (cells:=[I y1.To]) dy ty3 zc3 U U kr (λb7=>⟨jn,(tn 1 U (jI dy ty3 (λb8=>⟨jn,(tn 3 U (cd SL ([]) ([(b7,O [I y1.To] 3)]) (λG=>[(b7,O [I y1.To] 3)]++G) ap (λ_=>ap) dy ty3 zc3 U bytes3 (cZ.lit (show aY kB hh1 [] ([])from U) U) U U (gl (hpeople.mono xH hl1).1) lo lo (λob7 oc7 G7 gr7=>⟨jn,(tn 10 U (cd SL ([(b7,O [I y1.To] 3)]) ([]) (λG=>[(b7,O [I y1.To] 3)]++G) ap (λ_=>ap) dy ty3 zc3 U bytes3 gr7 U U (dX 0 U (cE (y1.To) U U)) lo lo (λob8 oc8 G8 gr8=>⟨jn,(tn 14 U (lV xH ([(b7,O [I y1.To] 3)]) G8 ([]) ap hM gr8 (λh8 hle8 sl8=>cC K0 (hrec _ _ _ _ _ _ _ to (many-1) (hl.mono zM (hl1.t hle8)) sl8 ob (by simp only[beq_eq_false_iff_ne]at *;omega)) U (λv3 h9 hle9 hp3=>?_))))⟩)))⟩)))⟩)))⟩)
  obtain⟨rb3,rc3,rfl,sl9⟩:=hp3
  refine⟨⟨(hle8.t hle9),λ_ hp=>List.Sublist.subset js hp⟩,lk (K2:=[]) (hle8.t hle9) (λ_ hp=>hp) (qR 15 5 U (aG kr (qT 4 U (ae hs8 U (λc6 hs15=>?_) (λc6 hs16=>?_)))))⟩
  .refine qT 4 U (aA (iF jG nr ty93 (hl.mono zM ((hl1.t hle8).t hle9)).1 aJ U U U (λq9 A9=>qL 1 [] U (dD ty3 A9 U (aA (aV (cells:=[I y1.No]) dy ty3 zc3 U U kr (λb9=>av (aA (cd SL ([]) ([(b7,O [I y1.To] 3)]) (λG=>[(b7,O [I y1.To] 3)]++G) ap (λ_=>ap) dy ty3 zc3 U bytes3 (cZ.lit (show aY kB h9 [I y1.No] ([y1.No])from⟨[I y1.No],[],U,U,U,U⟩) U) U U (gl sl9.1) lo lo (λob9 oc9 G9 gr9=>qO 3 U (eY xH ([(b7,O [I y1.To] 3)]) G9 ([]) ap hM gr9 (λh10 hle10 sl10=>?_))))))))))))
   have hs17:cA.F rec l people to many=(([y1.No]++(rec l (people++[y1.To]) to (many-1)).1),true):=hs15
   exact nretH [.slice ob9 (([y1.No]++(rec l (people++[y1.To]) to (many-1)).1).length) oc9,.bool true] (hs17▸⟨ob9,oc9,U,sl10⟩)
  exact aH (qT 3 U (oi i1 U (an (ba (L':=[]) js (ag1 h9 hs16 ((hl1.t hle8).t hle9))))))
 rintro i1 hh1 hd1 fL hx e
 exact qK 6 [] U (fO fL U (qO 3 U (hx _ rd)))
theorem uR:∀(m:Nat)(h:HF)(l:List Deputy)(dU:Option Addr)(dT:Nat)(people:List Int)(mU:Option Addr)(mT:Nat)(to:Int)(many:Int)(_:(many.toNat+1)<=m)(hl:SlC xN h dU dT l)(hpeople:SlC kB h mU mT people)(hmn:(0<=many/\many<=8)/\(0<people.length/\people.length+many.toNat<=100)),i9 prog 313 [.slice dU l.length dT,.slice mU people.length mT,I to,I many] h (λv h'=>∃(rb0:Option Addr)(rc0:Nat),v=.tuple #[.slice rb0 ((cA.go m l people to many).1).length rc0,.bool ((cA.go m l people to many).2)]/\SlC kB h' rb0 rc0 ((cA.go m l people to many).1))
 |0,h,l,dU,dT,people,mU,mT,to,many,hd,hl,hpeople,hmn=>absurd hd (Nat.not_le.2 (Nat.succ_pos _))
 |m+1,h,l,dU,dT,people,mU,mT,to,many,hd,hl,hpeople,hmn=>E3 (cA.go m) (Ej m) h l dU dT people mU mT to many (λqh_ ql Qr Qq qpeople yN yM qto qmany qhl qhpeople qhmn qd=>uR m qh_ ql Qr Qq qpeople yN yM qto qmany ob qhl qhpeople qhmn) hl hpeople hmn
theorem Gx(h:HF)(l:List Deputy)(dU:Option Addr)(dT:Nat)(people:List Int)(mU:Option Addr)(mT:Nat)(to:Int)(many:Int)(hl:SlC xN h dU dT l)(hpeople:SlC kB h mU mT people)(hmn:(0<=many/\many<=8)/\(0<people.length/\people.length+many.toNat<=100)):i9 prog 313 [.slice dU l.length dT,.slice mU people.length mT,I to,I many] h (λv h'=>∃(rb0:Option Addr)(rc0:Nat),v=.tuple #[.slice rb0 ((cA l people to many).1).length rc0,.bool ((cA l people to many).2)]/\SlC kB h' rb0 rc0 ((cA l people to many).1)):=uR _ h l dU dT people mU mT to many (Nat.le_refl _) hl hpeople hmn
theorem E7(h:HF)(l:List Deputy)(dU:Option Addr)(dT:Nat)(cu:Int)(to:Int)(office:Int)(kind:Int)(value:Int)(gP:Int)(known:Int)(hl:SlC xN h dU dT l)(hsz0:l.length<=2000000):i9 prog 259 [.slice dU l.length dT,I cu,I to,I office,I kind,I value,I gP,I known] h (λv h'=>∃(rb0:Option Addr)(rc0:Nat),v=.tuple #[.slice rb0 ((eV l cu to office kind value gP known).1).length rc0,.bool ((eV l cu to office kind value gP known).2.1),I ((eV l cu to office kind value gP known).2.2)]/\SlC kB h' rb0 rc0 ((eV l cu to office kind value gP known).1)):=by
 refine sT func259 U ntmps259 U λX hM hX hF=>?_
 have hs0:=@rfl _ (eV l cu to office kind value gP known)
 refine qT 16 U (ai call311 (E6 _ _ _ _ cu to office kind value gP known hl) U (qO 8 U (ae hs0 U (λc1 hs1=>?_) (λc1 hs2=>?_))))
 .refine qT 7 U ?_
  have hs3:eV l cu to office kind value gP known=([],false,(mp l cu to office kind value gP known)):=hs1
  exact nretH [.slice none 0 0,.bool false,I (mp l cu to office kind value gP known)] (hs3▸⟨none,0,U,vE⟩)
 refine qT 9 U (aA (cC call312 (Bs _ _ _ _ office kind value gP known hl ob) U (λv1 h1 hle1 hp1=>?_)))
 obtain⟨rb1,rc1,rfl,sl1⟩:=hp1
 refine qO 7 U ?_
 refine iT (ι:=Nat×HF) (λi=>[]) (λi=>i.2) (λi=>[]) (λi=>i.1<=(zK 9).length/\eV l cu to office kind value gP known=((eV.K1))/\xM h1 i.2) ?_ (λhx1=>?_)
 .rintro⟨i1,hh1⟩ ⟨ft,hs4,hl1⟩ e
  refine qT 6 U ?_
  have hs5:eV l cu to office kind value gP known=([],false,0):=hs4
  exact nretH [.slice none 0 0,.bool false,I 0] (hs5▸⟨none,0,U,vE⟩)
 refine ls (ι:=Nat×HF×List Nat) (λi=>[(1,I cu),(2,I to),(20,.slice rb1 ((dQ l office kind value gP known).length) rc1),(21,I (i.1:Int))]) (λi=>i.2.1) (λi=>[]) (λi=>(zK 9).drop i.1=i.2.2/\i.1<=(zK 9).length/\eV l cu to office kind value gP known=((eV.L1 l cu to office kind value gP known (eV.K1)) i.2.2 i.1)/\xM h1 i.2.1) (λi=>i.2.2.length) (0,h1,(zK 9)) rd sw ⟨U,Nat.zero_le _,hs2,lf⟩ ?_
 rintro⟨i1,hh1,s1⟩ ⟨hd1,ft,hs6,hl1⟩ ag1 e
 rcases s1 with _|⟨y1,rz1⟩
 .have fL:decide ((i1:Int)<=8)=false:=decide_eq_false (by have q_:=of_decide_eq_false (oC hd1);rw[List.length_range]at q_;omega)
  exact ew (qT 3 U (fO fL U (qO 3 U (hx1 (i1,hh1) _ ⟨ft,hs6,hl1⟩ trivial))))
 have cY:decide ((i1:Int)<=8)=true:=decide_eq_true (by have q_:=iX hd1;rw[List.length_range]at q_;omega)
 have dY:i1<9:=by simpa using iX hd1
 refine qT 4 U (tO cY U (qO 9 U (aA (aV (cells:=[I cu]) dy ty3 zc3 U U kr (λb2=>qO 2 U (aO 0 U hM (λh4 hle4 hb2=>?_)))))))
 have sl4:SlC kB h4 (some ⟨b2,0,none⟩) 1 ([cu]):=aY.slB0 (T:=3) (fz:=(0,0)) ((show aY kB hh1 [I cu] ([cu])from⟨[I cu],[],rfl,rfl,rfl,rfl⟩).mono xH hle4) hb2
 refine aA (cC K0 (Gx _ _ _ _ _ _ _ to (i1:Int) (sl1.mono zM (hl1.t hle4)) sl4 ob) U (λv3 h5 hle5 hp3=>?_))
 obtain⟨rb3,rc3,rfl,sl5⟩:=hp3
 refine qO 10 U (ae hs6 U (λc3 hs8=>?_) (λc3 hs9=>?_))
 .refine qT 7 U ?_
  have hs10:eV l cu to office kind value gP known=((cA (dQ l office kind value gP known) ([cu]) to (i1:Int)).1,true,0):=hs8
  exact nretH [.slice rb3 (((cA (dQ l office kind value gP known) ([cu]) to (i1:Int)).1).length) rc3,.bool true,I 0] (hs10▸⟨rb3,rc3,U,sl5⟩)
 exact aH (qT 3 U (oi i1 U (an (ag1 ((i1+1),h5,rz1) _ (Nat.lt_succ_self _) ⟨mK hd1,iX hd1,hs9,((hl1.t hle4).t hle5)⟩ rd))))
theorem Ck(h:HF)(l:List Int)(dU:Option Addr)(dT:Nat)(hl:SlC kB h dU dT l):Ret prog 372 [.slice dU l.length dT] h (.bool (fy l)):=by
 refine sT func372 U ntmps372 U λX hM hX hF=>?_
 have hs0:=@rfl _ (fy l)
 refine qT 9 U ?_
 refine lp0 l (λi=>[(0,.slice dU l.length dT),(3,I (i:Int))]) ([]) (λs1 i=>(fy.L1 l (fy.K1 l)) s1 i) hl.1.1 hs0 ?_ ?_ ?_
 .rintro i1 ft hs1 e
  exact qK 7 [] U (nretP [.bool (decide ((l.length:Int)<=16))] (cs hs1))
 .rintro i1 y1 rz1 hd1 cY aJ dY gy hs3 hx1 ag1 e
  refine qK 6 [] U (tO cY U (qO 6 U ?_))
  refine m8 [(0,.slice dU l.length dT),(3,I (i1:Int)),(31,.bool ((!(iQ y1))||(decide (0<(i1:Int))&&decide (y1<=(nthI l ((i1:Int)-1))))))] (λe=>?_) (λhk1=>?_)
  rotate_left
  .refine eh ([]) mixed kr jn (λdt _=>?_)
   refine qA [0,1] U (cU 2 (enc:=λy=>[I y]) dt jn ei dy ty3 hl.1 (nthZ aJ) (dq aJ) U U U U kr (λq4 A4=>tf 3 U U (rh ty3 A4 U) (tn 4 U (et call247 (s5 h y1) U (⟨jn,qA [5,6] U ?_⟩)))))
   refine cB 16 U (λc1=>?_) (λc1=>?_)
   .exact tk 7 U U (qR 8 14 U (aG kr (hk1 _ ⟨U,U,(cb (show true=((!(iQ y1))||(decide (0<(i1:Int))&&decide (y1<=(nthI l ((i1:Int)-1)))))from by rw[c1]<;>rfl)),trivial⟩)))
   refine qR 7 3 U ?_
   refine cB 19 U (λc2=>?_) (λc2=>?_)
   .have c2p:=of_decide_eq_true c2
    refine qA [10,11] U (cU 12 (enc:=λy=>[I y]) dt jn ei dy ty3 hl.1 (nthZ aJ) (dq aJ) U U U U kr (λq5 A5=>tf 13 U U (rh ty3 A5 U) (qA [14,15] U (tf 16 U U (λ_ _ _=>oy (v':=I ((i1:Int)-1)) U (j0 ob)) ?_))))
    have ho2:0<=(((i1:Int)-1):Int)/\(((i1:Int)-1):Int)<((l).length:Int):=ob
    exact cU 17 (enc:=λy=>[I y]) dt jn ei dy ty3 hl.1 ho2 (de ho2) U U U U kr (λq6 A6=>tf 18 U U (rh ty3 A6 U) (qR 19 3 U (aG kr (hk1 _ ⟨U,U,(cb (show decide (y1<=(nthI l ((i1:Int)-1)))=((!(iQ y1))||(decide (0<(i1:Int))&&decide (y1<=(nthI l ((i1:Int)-1)))))from by rw[c1,c2]<;>rfl)),trivial⟩))))
   have c2p:=of_decide_eq_false c2
   exact tk 10 U U (qR 11 11 U (aG kr (hk1 _ ⟨U,U,(cb (show false=((!(iQ y1))||(decide (0<(i1:Int))&&decide (y1<=(nthI l ((i1:Int)-1)))))from by rw[c1,c2]<;>rfl)),trivial⟩)))
  refine ae hs3 U (λc3 hs4=>?_) (λc3 hs5=>?_)
  .exact sr (an (nretP [.bool false] (cs hs4)))
  exact aH (qT 3 U (oi i1 U (an (ag1 hs5))))
 rintro i1 hd1 fL hx e
 exact qK 6 [] U (fO fL U (qO 3 U (hx _ rd)))
theorem ER(h:HF)(l:List Interest)(dU:Option Addr)(dT:Nat)(who:Int)(parties:List Int)(ij:Option Addr)(ii:Nat)(bw:Int)(known:Int)(hl:SlC xK h dU dT l)(hparties:SlC kB h ij ii parties):Ret prog 350 [.slice dU l.length dT,I who,.slice ij parties.length ii,I bw,I known] h (I (je l who parties bw known)):=by
 refine sT func350 U ntmps350 U λX hM hX hF=>?_
 have hs0:=@rfl _ (je l who parties bw known)
 refine qT 7 U (ai call74 (xr _ _ _ _ hl) U (qO 8 U (ae hs0 U (λc1 hs1=>?_) (λc1 hs2=>?_))))
 .exact sr (qO 3 U (nretP [I (gg l)] (ci hs1)))
 refine qT 5 U (ai call248 (wB h who) U (qO 2 U (bL 4 [20,21,22,23,24] 20 24 (!(fy parties)) U (λc2 hk1=>?_) (λe=>?_))))
 .exact av (ai call372 (Ck _ _ _ _ hparties) U (qO 2 U (hk1 _ U)))
 refine av (bL 4 [25,26,27,28,29] 25 29 (!(kz bw)) U (λc3 hk2=>?_) (λe=>?_))
 .exact av (ai K7 (qs h bw) U (qO 2 U (hk2 _ U)))
 refine av (bL 4 [30,31,32,33,34] 30 34 (!(kz known)) U (λc4 hk3=>?_) (λe=>?_))
 .exact av (ai K7 (qs h known) U (qO 2 U (hk3 _ U)))
 refine aI (ae hs2 U (λc5 hs4=>?_) (λc5 hs5=>?_))
 .exact sr (an (nretP [I 1] (ci hs4)))
 exact aH (qT 4 U (nretP [I 0] (ci hs5)))
theorem wC(h:HF)(x:Interest)(eU:Int)(known:Int)  : Ret prog 381 [.agg (xC x).toArray,I eU,I known] h (.bool (iv x eU known)):=by
 refine sT func381 U ntmps381 U λX hM hX hF=>?_
 have hs0:=@rfl _ (iv x eU known)
 refine sr (bS (λb1=>qL 9 [0] U (aU 5 [11,12,13,14,15,16] 11 16 (decide (x.Known<=known)) U (λc1 hk1=>?_) (λe=>?_))))
 .exact qL 5 [0] U (hk1 _ U)
 exact an (nretP [.bool (decide (x.At<=eU)&&decide (x.Known<=known))] (cs hs0))
theorem ES(h:HF)(a:Interest)(jy:Interest)  : Ret prog 382 [.agg (xC a).toArray,.agg (xC jy).toArray] h (.bool (lm a jy)):=by
 refine sT func382 U ntmps382 U λX hM hX hF=>?_
 have hs0:=@rfl _ (lm a jy)
 refine sr (bS (λb1=>bS (λb2=>qL 10 [1,0] U (aU 6 [10,11,12,13,14,15,16] 10 16 (a.Party==jy.Party) U (λc1 hk1=>?_) (λe=>?_)))))
 .exact qL 6 [1,0] U (hk1 _ U)
 refine av (aU 6 [17,18,19,20,21,22,23] 17 23 (a.Of==jy.Of) U (λc2 hk2=>?_) (λe=>?_))
 .exact qL 4 [1,0] U (aA (fj (RH Sc U U) (eE U (hk2 _ U))))
 exact an (nretP [.bool (((a.Person==jy.Person)&&(a.Party==jy.Party))&&(a.Of==jy.Of))] (cs hs0))
theorem DK(h:HF)(l:List Interest)(dU:Option Addr)(dT:Nat)(x:Interest)(bI:Int)(known:Int)(hl:SlC xK h dU dT l):Ret prog 373 [.slice dU l.length dT,.agg (xC x).toArray,I bI,I known] h (.bool (fS l x bI known)):=by
 refine sT func373 U ntmps373 U λX hM hX hF=>?_
 have hs0:=@rfl _ (fS l x bI known)
 refine sr (bS (λb1=>qL 8 [0] U (bL 6 [12,13,14,15,16,17,18] 12 18 (!(iv x bI known)) U (λc1 hk1=>?_) (λe=>?_))))
 .exact cN 0 ty97 U U U (qO 2 U (ai call381 (wC h x bI known) U (qO 2 U (hk1 _ U))))
 refine aI (ae hs0 U (λc2 hs1=>?_) (λc2 hs2=>?_))
 .exact sr (an (nretP [.bool false] (cs hs1)))
 refine qT 6 U ?_
 let z1:Nat×Obj:=(b1,O (xC x) 97)
 refine lp0 l (λi=>[(0,.slice dU l.length dT),(2,I bI),(3,I known),(5,Q b1),(9,I (i:Int))]) ([z1]) (λs1 i=>(fS.L1 x bI known (fS.K1)) s1) hl.1.1 hs2 ?_ ?_ ?_
 .rintro i1 ft hs4 e
  exact sr (an (nretP [.bool true] (cs hs4)))
 .rintro i1 y1 rz1 hd1 cY aJ dY gy hs6 hx1 ag1 e
  refine qK 6 [] U (tO cY U (qO 6 U ?_))
  refine m8 [(0,.slice dU l.length dT),(2,I bI),(3,I known),(5,Q b1),(9,I (i1:Int)),(69,.bool (((lm y1 x)&&(iv y1 bI known))&&(decide (x.At<y1.At)||((y1.At==x.At)&&decide (x.No<y1.No)))))] (λe=>?_) (λhk2=>?_)
  rotate_left
  .refine eh ([z1]) mixed kr jn (λdt _=>?_)
   refine qA [0,1] U (cU 2 (enc:=xC) dt jn ei pg ty97 hl.1 (nthZ aJ) (dq aJ) U U U U kr (λq3 A3=>tf 3 U U (λ_ _ hj=>iP ty97 (A3.mono hj.1) U U) (tf 4 U U (λ_ _ hj=>i7 ty97 U (hj.nth (i:=0) U) U) (tn 5 U (et call382 (ES h y1 x) U (⟨jn,(tm 6 U ?_)⟩))))))
   refine cB 31 U (λc3=>?_) (λc3=>?_)
   .refine qA [7,8] U (cU 9 (enc:=xC) dt jn ei pg ty97 hl.1 (nthZ aJ) (dq aJ) U U U U kr (λq4 A4=>tf 10 U U (λ_ _ hj=>iP ty97 (A4.mono hj.1) U U) (qA [11,12] U (tn 13 U (et call381 (wC h y1 bI known) U (⟨jn,qA [14,15] U ?_⟩))))))
    refine cB 40 U (λc4=>?_) (λc4=>?_)
    .refine qA [16,17] U (cU 18 (enc:=xC) dt jn ei pg ty97 hl.1 (nthZ aJ) (dq aJ) U U U U kr (λq5 A5=>qB [19] U (tf 20 U U (rH 1 ty3 A5 U U) (qB [21] U (tf 22 U U (rj 0 ty3 U U U) (qA [23,24] U ?_))))))
     refine cB 49 U (λc5=>?_) (λc5=>?_)
     .have c5p:=of_decide_eq_true c5
      exact tk 25 U U (qR 26 19 U (aG kr (hk2 _ ⟨U,U,U,U,U,(cb (show true=(((lm y1 x)&&(iv y1 bI known))&&(decide (x.At<y1.At)||((y1.At==x.At)&&decide (x.No<y1.No))))from by rw[c3,c4,c5]<;>rfl)),trivial⟩)))
     have c5p:=of_decide_eq_false c5
     refine qA [25,26] U (cU 27 (enc:=xC) dt jn ei pg ty97 hl.1 (nthZ aJ) (dq aJ) U U U U kr (λq6 A6=>qB [28] U (tf 29 U U (rH 1 ty3 A6 U U) (qB [30] U (tf 31 U U (rj 0 ty3 U U U) (qA [32,33] U ?_))))))
     refine cB 58 U (λc6=>?_) (λc6=>?_)
     .exact tm 34 U (tm 35 U (cU 36 (enc:=xC) dt jn ei pg ty97 hl.1 (nthZ aJ) (dq aJ) U U U U kr (λq7 A7=>qB [37] U (tf 38 U U (rh ty3 A7 U) (qB [39] U (tf 40 U U (rj 0 ty3 U U U) (qR 41 4 U (aG kr (hk2 _ ⟨U,U,U,U,U,(cb (show decide (x.No<y1.No)=(((lm y1 x)&&(iv y1 bI known))&&(decide (x.At<y1.At)||((y1.At==x.At)&&decide (x.No<y1.No))))from by rw[c3,c4,c5,c6]<;>rfl)),trivial⟩)))))))))
     exact tk 34 U U (qR 35 10 U (aG kr (hk2 _ ⟨U,U,U,U,U,(cb (show false=(((lm y1 x)&&(iv y1 bI known))&&(decide (x.At<y1.At)||((y1.At==x.At)&&decide (x.No<y1.No))))from by rw[c3,c4,c5,c6]<;>rfl)),trivial⟩)))
    exact tk 16 U U (qR 17 28 U (aG kr (hk2 _ ⟨U,U,U,U,U,(cb (show false=(((lm y1 x)&&(iv y1 bI known))&&(decide (x.At<y1.At)||((y1.At==x.At)&&decide (x.No<y1.No))))from by rw[c3,c4]<;>rfl)),trivial⟩)))
   exact tk 7 U U (qR 8 37 U (aG kr (hk2 _ ⟨U,U,U,U,U,(cb (show false=(((lm y1 x)&&(iv y1 bI known))&&(decide (x.At<y1.At)||((y1.At==x.At)&&decide (x.No<y1.No))))from by rw[c3]<;>rfl)),trivial⟩)))
  refine ae hs6 U (λc7 hs7=>?_) (λc7 hs8=>?_)
  .exact sr (an (nretP [.bool false] (cs hs7)))
  exact aH (qT 3 U (oi i1 U (an (ag1 hs8))))
 rintro i1 hd1 fL hx e
 exact qK 6 [] U (fO fL U (qO 3 U (hx _ rd)))
theorem Bm(h:HF)(l:List Interest)(dU:Option Addr)(dT:Nat)(eU:Int)(known:Int)(hl:SlC xK h dU dT l)(hsz:l.length<=2000000):i9 prog 351 [.slice dU l.length dT,I eU,I known] h (λv h'=>∃(rb0:Option Addr)(rc0:Nat),v=.slice rb0 (dg l eU known).length rc0/\SlC xK h' rb0 rc0 (dg l eU known)):=by
 refine sT func351 U ntmps351 U λX hM hX hF=>?_
 have hs0:=@rfl _ (dg l eU known)
 refine qT 6 U (aA (jI pg ty97 (λb1=>qO 7 U ?_)))
 obtain⟨G2,gr2,ge1⟩:∃G:LH,cZ xK 97 h ([]) (some ⟨b1,0,none⟩) 0 G/\[(b1,O [] 97)]=G:=⟨_,cZ.lit (show aY xK h [] ([])from rfl) rfl,rfl⟩
 refine bW (L':=([])++([(b1,O [] 97)]++([]))) ap ?_
 rw[ge1]
 refine lL (List.Perm.append_left _ kH) (bW (L':=G2) ap ?_)
 refine lp2 l (λi w=>[(0,.slice dU l.length dT),(1,I eU),(2,I known),(7,.slice w.2.1 w.1.length w.2.2.1),(8,I (i:Int))]) (λ_=>h) (λw=>w.2.2.2) (λi w=>cZ xK 97 h w.1 w.2.1 w.2.2.1 w.2.2.2/\w.1.length<=0+i) (λs1 i w=>(dg.L1 l eU known (dg.K1)) s1 w.1) ([],(some ⟨b1,0,none⟩),0,G2) hl.1.1 hs0 ⟨gr2,lo⟩ ?_ ?_ ?_
 .rintro i1 ⟨mu,rF,rE,u0⟩ ft hs1 ⟨pG,yx⟩ e
  try dsimp only at pG yx
  refine qT 5 U (eY vQ ([]) u0 ([]) ap hM pG (λh2 hle2 sl2=>?_))
  have hs2:dg l eU known=mu:=hs1
  exact nretH [.slice rF mu.length rE] ⟨rF,rE,congrArg (λr:List Interest=>(.slice rF r.length rE:Value)) hs2.symm,(by rw[hs2];exact sl2)⟩
 .rintro i1 ⟨mu,rF,rE,u0⟩ y1 rz1 hd1 cY aJ dY gy hs3 ⟨pG,yx⟩ hx1 ag1 e
  try dsimp only at pG yx
  refine qK 6 [] U (tO cY U (qO 10 U (aA (iF xC pg ty97 hl.1 aJ U U U (λq3 A3=>dv ty97 A3 U U (qO 2 U (ai call373 (DK _ _ _ _ y1 eU known hl) U (aI (ae hs3 U (λc2 hs4=>?_) (λc2 hs5=>?_))))))))))
  .refine qT 4 U (aA (iF xC pg ty97 hl.1 aJ U U U (λq4 A4=>dv ty97 A4 U U (aA (aV (cells:=[I y1.No,I y1.At,I y1.Known,I y1.Person,I y1.Party,.bool y1.Of,.bool y1.Gone]) pg ty97 zc97 U U kr (λb3=>?_))))))
   let z1:Nat×Obj:=(b3,O [I y1.No,I y1.At,I y1.Known,I y1.Person,I y1.Party,.bool y1.Of,.bool y1.Gone] 97)
   exact aA (cd Interest.eo ([z1]) ([]) (λG=>[z1]++G) ap (λ_=>ap) pg ty97 zc97 U bytes97 pG U U (dX 0 U (cE y1 U U)) lo lo (λob2 oc2 G3 gr3=>qO 5 U (oi i1 U (an (ba (L':=G3) js (ag1 ((mu++[y1]),ob2,oc2,G3) hs4 ⟨gr3,lo⟩))))))
  exact aH (qT 3 U (oi i1 U (an (ag1 (mu,rF,rE,u0) hs5 ⟨pG,lo⟩))))
 rintro i1 ⟨mu,rF,rE,u0⟩ hd1 fL hx e
 exact qK 6 [] U (fO fL U (qO 3 U (hx _ rd)))
theorem lO(h:HF)(l:List eF)(b:Option Addr)(c:Nat)(G:LH)(x:eF)(fY:ow)(hG:cZ eF.rp 381 h l b c G)(hx:eF.ok h x fY)(hsz:l.length<=2000000):
  oo prog 352 [.slice b l.length c,.agg (eF.cells x fY).toArray].toArray h G (λr h' G'=>∃b' c',h'=h/\r=.returned (.slice b' (rwPut l x).length c')/\cZ eF.rp 381 h (rwPut l x) b' c' G'):=by
 refine cH func352 U ntmps352 U λX hM hX=>sr (bS (λb1=>qO 7 U ?_))
 let z1:Nat×Obj:=(b1,.cells (eF.cells x fY).toArray 381 (0,0))
 refine lp0 l (λi=>[(0,.slice b l.length c),(3,Q b1),(5,I (i:Int))]) ([z1]++G) (λs _=>bif s.any (λw=>w.To==x.To)then l else l++[x]) hG.bound (show rwPut l x=_ from U) ?_ ?_ ?_
 .rintro i _ hs e
  replace hs:rwPut l x=l++[x]:=hs
  refine qT 3 U (cN 0 ty381 U U U (aA (aV (cells:=eF.cells x fY) C0 ty381 zc381 U U kr (λb2=>?_))))
  let z2:Nat×Obj:=(b2,.cells (eF.cells x fY).toArray 381 (0,0))
  refine aA (cd eF.eo ([z2,z1]) [] (λG'=>[z2,z1]++([]++G')) ap (λ_=>U) C0 ty381 zc381 U bytes381 hG U U
   (dX 0 rfl (show aY eF.rp h (eF.cells x fY) [x]from⟨eF.cells x fY,[],rfl,rfl,⟨fY,rfl,hx⟩,rfl⟩)) lo lo (λb3 c3 G3 hG3=>?_))
  refine an ?_
  refine oO func352 (λa ha w hw=>res1 U a ha w) (λw hw=>(hw.sub (L':=G3) js).lower) ⟨b3,c3,hX,?_,?_⟩
  .rw[hs];rfl
  rw[hs];exact hG3
 .rintro i y r hd hlt hget hltp hbd hs hx1 ag e
  obtain⟨bk,hbk⟩:=hG.qp ob
  refine qK 6 [] rfl (tO hlt rfl (qO 6 rfl (eh ([z1]++G) mixed kr jn (λhsep hJ=>iJ 0 hsep hJ rfl rfl kr rfl (λ_ _ _=>mz) (iJ 1 hsep hJ rfl rfl kr rfl (λ_ _ _=>mz) (iJ 2 hsep hJ rfl rfl kr rfl (λ_ _ _=>nB (R:=eF.rp) (xs:=l) (z:=(i:Int)) C0 ty381 hbk ob rfl rfl rfl) (iJ 3 hsep hJ rfl rfl kr rfl (λ_ _ _=>tc KA rfl) (iJ 4 hsep hJ rfl rfl kr rfl (λ_ _ hj=>Bu (R:=eF.rp) (i:=(i:Int).toNat) (off:=1) ty3 hG hbk (dq hget) (λcs_z hcs=>by obtain⟨q,e1,_⟩:=hcs;rw[e1];rfl) rfl (λp hp=>hj.2 p (List.mem_append_right _ hp))) (iJ 5 hsep hJ rfl rfl kr rfl (λ_ _ _=>tc KA rfl) (iJ 6 hsep hJ rfl rfl kr rfl (rj 0 ty3 rfl rfl rfl) ?_))))))))))
  refine iJ 7 hsep hJ U U kr U (λ_ _ _=>MC U) (aG kr (j1 (t:=y.To==x.To) U (λc1=>?_) (λc1=>?_)))
  .replace hs:rwPut l x=l:=hs.trans (by simp only[List.any_cons,c1,Bool.true_or,cond_true])
   refine qT 5 U ?_
   refine oO func352 (λa ha w hw=>res1 U a ha w) (λw hw=>(hw.sub (List.sublist_append_right _ _)).lower) ⟨b,c,hX,?_,?_⟩
   .rw[hs];rfl
   rw[hs];exact hG
  exact aH (qT 3 U (oi i U (an (ag (hs.trans (by simp only[List.any_cons,c1,Bool.false_or]))))))
 rintro i hd hge hx e
 exact qK 6 [] U (fO hge U (qO 3 U (hx _ rd)))
theorem Ik(h:HF)(l:List Int)(dU:Option Addr)(dT:Nat)(nH:Int)(hl:SlC kB h dU dT l):Ret prog 353 [.slice dU l.length dT,I nH] h (.bool (kI l nH)):=by
 refine sT func353 U ntmps353 U λX hM hX hF=>?_
 have hs0:=@rfl _ (kI l nH)
 refine qT 9 U ?_
 refine lp0 l (λi=>[(0,.slice dU l.length dT),(1,I nH),(5,I (i:Int))]) ([]) (λs1 i=>(kI.L1 nH (kI.K1)) s1) hl.1.1 hs0 ?_ ?_ ?_
 .rintro i1 ft hs1 e
  exact sr (an (nretP [.bool false] (cs hs1)))
 .rintro i1 y1 rz1 hd1 cY aJ dY gy hs3 hx1 ag1 e
  refine qK 6 [] U (tO cY U (qO 9 U (aA (iF (λy=>[I y]) dy ty3 hl.1 aJ U U U (λq2 A2=>dD ty3 A2 U (qO 3 U (ae hs3 U (λc2 hs4=>?_) (λc2 hs5=>?_))))))))
  .exact sr (an (nretP [.bool true] (cs hs4)))
  exact aH (qT 3 U (oi i1 U (an (ag1 hs5))))
 rintro i1 hd1 fL hx e
 exact qK 6 [] U (fO fL U (qO 3 U (hx _ rd)))
theorem Bn(h:HF)(l:List Interest)(dU:Option Addr)(dT:Nat)(who:Int)(parties:List Int)(ij:Option Addr)(ii:Nat)(bw:Int)(known:Int)(hl:SlC xK h dU dT l)(hparties:SlC kB h ij ii parties)(hsz:l.length<=2000000):i9 prog 314 [.slice dU l.length dT,I who,.slice ij parties.length ii,I bw,I known] h (λv h'=>∃(rb0:Option Addr)(rc0:Nat),v=.tuple #[.slice rb0 ((bD l who parties bw known).1).length rc0,.bool ((bD l who parties bw known).2.1),I ((bD l who parties bw known).2.2)]/\SlC kB h' rb0 rc0 ((bD l who parties bw known).1)):=by
 refine sT func314 U ntmps314 U λX hM hX hF=>?_
 have hs0:=@rfl _ (bD l who parties bw known)
 have hall:=Gq l bw known
 refine qT 13 U (ai call350 (ER _ _ _ _ who _ _ _ bw known hl hparties) U (qO 8 U (ae hs0 U (λc1 hs1=>?_) (λc1 hs2=>?_))))
 .refine qT 7 U ?_
  have hs3:bD l who parties bw known=([],false,(je l who parties bw known)):=hs1
  exact nretH [.slice none 0 0,.bool false,I (je l who parties bw known)] (hs3▸⟨none,0,U,vE⟩)
 refine qT 6 U (aA (cC call351 (Bm _ _ _ _ bw known hl ob) U (λv1 h1 hle1 hp1=>?_)))
 obtain⟨rb1,rc1,rfl,sl1⟩:=hp1
 refine qO 4 U (aA (jI C0 ty381 (λb1=>qO 7 U ?_)))
 obtain⟨G1,gr1,ge1⟩:∃G:LH,cZ eF.rp 381 h1 ([]) (some ⟨b1,0,none⟩) 0 G/\[(b1,O [] 381)]=G:=⟨_,cZ.lit (show aY eF.rp h1 [] ([])from rfl) rfl,rfl⟩
 refine bW (L':=([])++([(b1,O [] 381)]++([]))) ap ?_
 rw[ge1]
 refine lL (List.Perm.append_left _ kH) (bW (L':=G1) ap ?_)
 refine lp2 (dg l bw known) (λi w=>[(1,I who),(2,.slice ij parties.length ii),(14,.slice rb1 ((dg l bw known).length) rc1),(15,.slice w.2.1 w.1.length w.2.2.1),(16,I (i:Int))]) (λw=>w.2.2.2.2) (λw=>w.2.2.2.1) (λi w=>cZ eF.rp 381 w.2.2.2.2 w.1 w.2.1 w.2.2.1 w.2.2.2.1/\xM h1 w.2.2.2.2/\sd (dg l bw known) w.1) (λs1 i w=>(bD.L1 who (bD.K1 l parties bw known)) s1 w.1) ([],(some ⟨b1,0,none⟩),0,G1,h1) sl1.1.1 hs2 ⟨gr1,lf,sd.nil⟩ ?_ ?_ ?_
 .rintro i1 ⟨ve,FS,FQ,CM,hh1⟩ ft hs4 ⟨CL,hl1,u1_0⟩ e
  try dsimp only at CL hl1 u1_0
  refine qT 5 U ?_
  refine iT (ι:=Nat×List eF×Option Addr×Nat×LH×HF) (λi=>[]) (λi=>i.2.2.2.2.2) (λi=>i.2.2.2.2.1) (λi=>bD l who parties bw known=(bD.K2) i.1 i.2.1/\cZ eF.rp 381 i.2.2.2.2.2 i.2.1 i.2.2.1 i.2.2.2.1 i.2.2.2.2.1/\xM hh1 i.2.2.2.2.2) ?_ (λhx2=>?_)
  .rintro⟨i2,mt,IJ,II,IK,hh2⟩ ⟨hs5,rS,hl2⟩ e
   try dsimp only at rS hl2
   refine qT 6 U ?_
   have hs6:bD l who parties bw known=([],false,0):=hs5
   exact nretH [.slice none 0 0,.bool false,I 0] (hs6▸⟨none,0,U,vE⟩)
  refine ls (ι:=Nat×List eF×Option Addr×Nat×LH×HF×Nat) (λi=>[(2,.slice ij parties.length ii),(14,.slice rb1 ((dg l bw known).length) rc1),(15,.slice i.2.2.1 i.2.1.length i.2.2.2.1),(17,I (i.1:Int))]) (λi=>i.2.2.2.2.2.1) (λi=>i.2.2.2.2.1) (λi=>bD l who parties bw known=(bD.L2 l parties bw known (bD.K2)) i.2.2.2.2.2.2 i.1 i.2.1/\i.2.2.2.2.2.2+i.1=(l.length+1)/\cZ eF.rp 381 i.2.2.2.2.2.1 i.2.1 i.2.2.1 i.2.2.2.1 i.2.2.2.2.1/\xM hh1 i.2.2.2.2.2.1/\sd (dg l bw known) i.2.1) (λi=>i.2.2.2.2.2.2) (0,ve,FS,FQ,CM,hh1,(l.length+1)) rd sw ⟨hs4,U,CL,lf,ob⟩ ?_
  rintro⟨i2,mt,IJ,II,IK,hh2,rz2⟩ ⟨hs7,hf2,rS,hl2,u2_0⟩ ag1 e
  try dsimp only at hf2 rS hl2 u2_0
  have hwl:=u2_0.len
  rcases Nat.lt_or_ge i2 mt.length with Fz|hge2p
  .obtain⟨rz2,rfl⟩:∃q,rz2=q+1:=⟨rz2-1,by omega⟩
   have wX:decide ((i2:Int)<(mt.length:Int))=true:=decide_eq_true ob
   have hs8:=hs7.trans (bt wX)
   refine qK 6 [] U (tO wX U (qO 11 U ?_))
   have ho1:0<=((i2:Int):Int)/\((i2:Int):Int)<((mt).length:Int):=ob
   have hgz:=cZ.qp rS (by omega)
   obtain⟨bk1,hbk1⟩:=hgz
   refine aA (fj (nB (R:=eF.rp) (xs:=mt) C0 ty381 hbk1 ho1 rfl rfl rfl) (qL 1 [] rfl (aA (fj (Bu (R:=eF.rp) (i:=((i2:Int):Int).toNat) (off:=1) ty3 rS hbk1 (de ho1) (λcs_z hcs=>by obtain⟨q,e1,_⟩:=hcs;rw[e1];rfl) rfl mh) (ai call353 (Ik _ _ _ _ ((nthI mt (i2:Int)).To) (hparties.mono xH ((hle1.t hl1).t hl2))) rfl (aI (ae hs8 rfl (λc2 hs9=>?_) (λc2 hs10=>?_))))))))
   .refine qT 4 U ?_
    have ho2:0<=((i2:Int):Int)/\((i2:Int):Int)<((mt).length:Int):=ob
    have hgz:=cZ.qp rS (by omega)
    obtain⟨bk2,hbk2⟩:=hgz
    refine aA (fj (nB (R:=eF.rp) (xs:=mt) C0 ty381 hbk2 ho2 U U U) (qL 1 [] U ?_))
    obtain⟨_,⟨r1,rfl,ok1⟩,hi1⟩:=cZ.elem rS (de ho2)
    refine aA (fj (Fa (off:=0) ty31 hi1 hbk2 U U mh) (qO 4 U ?_))
    have hs11:bD l who parties bw known=((nthI mt (i2:Int)).jb,true,0):=hs9
    exact nretH [.slice r1.IX ((nthI mt (i2:Int)).jb.length) r1.IW,.bool true,I 0] (hs11▸⟨r1.IX,r1.IW,U,ok1.jb⟩)
   refine qT 6 U ?_
   have ho3:0<=((i2:Int):Int)/\((i2:Int):Int)<((mt).length:Int):=ob
   have hgz:=cZ.qp rS (by omega)
   obtain⟨bk3,hbk3⟩:=hgz
   refine aA (fj (nB (R:=eF.rp) (xs:=mt) C0 ty381 hbk3 ho3 U U U) (qL 1 [] U ?_))
   obtain⟨_,⟨r2,rfl,ok2⟩,hi2⟩:=cZ.elem rS (de ho3)
   refine aA (fj (Fa (off:=0) ty31 hi2 hbk3 U U mh) (qL 3 [] U (ae hs10 U (λc3 hs12=>?_) (λc3 hs13=>?_))))
   .exact lM U (qT 2 U (oi i2 U (an (ag1 ((i2+1),mt,IJ,II,IK,hh2,rz2) _ (Nat.lt_succ_self _) ⟨hs12,(by dsimp only;omega),rS,hl2,ob⟩ rd))))
   refine qT 5 U ?_
   refine lp2 (dg l bw known) (λi w=>[(2,.slice ij parties.length ii),(14,.slice rb1 ((dg l bw known).length) rc1),(15,.slice w.2.1 w.1.length w.2.2.1),(17,I (i2:Int)),(18,I (i:Int))]) (λw=>w.2.2.2.2) (λw=>w.2.2.2.1) (λi w=>cZ eF.rp 381 w.2.2.2.2 w.1 w.2.1 w.2.2.1 w.2.2.2.1/\xM hh2 w.2.2.2.2/\sd (dg l bw known) w.1/\i2<w.1.length/\nthI w.1 (i2:Int)=nthI mt (i2:Int)) (λs3 i w=>(bD.L3 i2 (λzg3_15=>(bD.L2 l parties bw known (bD.K2) rz2 (i2+1) zg3_15))) s3 w.1) (mt,IJ,II,IK,hh2) ((sl1.mono vQ (hl1.t hl2)).1.1) hs13 ⟨rS,lf,ob,ob,U⟩ ?_ ?_ ?_
   .rintro i3 ⟨fG,qn,qm,fm,hh3⟩ CG hs14 ⟨mC,hl3,u3_0,u3_1,u3_2⟩ e
    try dsimp only at mC hl3 u3_0 u3_1 u3_2
    exact eX (qT 2 U (oi i2 U (an (ag1 ((i2+1),fG,qn,qm,fm,hh3,rz2) _ (Nat.lt_succ_self _) ⟨hs14,(by dsimp only;omega),mC,(hl2.t hl3),ob⟩ rd))))
   .rintro i3 ⟨fG,qn,qm,fm,hh3⟩ y3 rz3 hd3 Fy m6 Kr Pi hs15 ⟨mC,hl3,u3_0,u3_1,u3_2⟩ hx3 ag2 e
    try dsimp only at mC hl3 u3_0 u3_1 u3_2
    have hpl:(nthI fG (i2:Int)).jb.length<=7:=(by have q8:=sd.at u3_0 u3_1;rw[u3_2]at q8 ⊢;simp only[beq_eq_false_iff_ne]at *;omega)
    have hW3:=sd.put (x:=(eF.mk ((nthI fG (i2:Int)).jb++[y3.No]) y3.Party)) u3_0 (Hx (gj hd3)) lo
    have hN3:=Nat.lt_of_lt_of_le u3_1 (JF fG (eF.mk ((nthI fG (i2:Int)).jb++[y3.No]) y3.Party))
    have hR3:=(Hq (eF.mk ((nthI fG (i2:Int)).jb++[y3.No]) y3.Party) u3_1).trans u3_2
    have hL3:=u3_0.len
    refine qK 6 [] U (tO Fy U (qO 6 U ?_))
    refine m8 [(2,.slice ij parties.length ii),(14,.slice rb1 ((dg l bw known).length) rc1),(15,.slice qn fG.length qm),(17,I (i2:Int)),(18,I (i3:Int)),(116,.bool (y3.Of&&(y3.Person==(nthI fG (i2:Int)).To)))] (λe=>?_) (λhk1=>?_)
    rotate_left
    .refine eh (fm) mixed kr jn (λdt _=>?_)
     refine qA [0,1] U (cU 2 (enc:=xC) dt jn ei pg ty97 (sl1.mono vQ ((hl1.t hl2).t hl3)).1 (nthZ m6) (dq m6) U U U U kr (λq5 A5=>qB [3] U (tf 4 U U (rH 5 ty4 A5 U U) (tm 5 U ?_))))
     refine cB 104 U (λc4=>?_) (λc4=>?_)
     .refine qA [6,7] U (cU 8 (enc:=xC) dt jn ei pg ty97 (sl1.mono vQ ((hl1.t hl2).t hl3)).1 (nthZ m6) (dq m6) U U U U kr (λq6 A6=>qB [9] U (tf 10 U U (rH 3 ty3 A6 U U) (qA [11,12] U ?_))))
      have ho5:0<=((i2:Int):Int)/\((i2:Int):Int)<((fG).length:Int):=ob
      have hgz:=cZ.qp mC (by omega)
      obtain⟨bk5,hbk5⟩:=hgz
      exact tf 13 rfl rfl (λ_ _ _=>nB (R:=eF.rp) (xs:=fG) C0 ty381 hbk5 ho5 rfl rfl rfl) (qB [14] rfl (tf 15 rfl rfl (λ_ _ hj=>Bu (R:=eF.rp) (i:=((i2:Int):Int).toNat) (off:=1) ty3 mC hbk5 (de ho5) (λcs_z hcs=>by obtain⟨q,e1,_⟩:=hcs;rw[e1];rfl) rfl (mj hj)) (qA [16,17] rfl (aG kr (hk1 _ ⟨rfl,rfl,rfl,rfl,rfl,(cb (show(y3.Person==(nthI fG (i2:Int)).To)=(y3.Of&&(y3.Person==(nthI fG (i2:Int)).To))from by rw[c4]<;>rfl)),trivial⟩)))))
     exact tk 6 U U (qR 7 11 U (aG kr (hk1 _ ⟨U,U,U,U,U,(cb (show false=(y3.Of&&(y3.Person==(nthI fG (i2:Int)).To))from by rw[c4]<;>rfl)),trivial⟩)))
    refine ae hs15 U (λc5 hs16=>?_) (λc5 hs17=>?_)
    .refine eh ([]) mixed kr jn (λmF _=>?_)
     refine qA [0,2,3] U ?_
     have ho6:0<=((i2:Int):Int)/\((i2:Int):Int)<((fG).length:Int):=ob
     have hgz:=cZ.qp mC (by omega)
     obtain⟨bk6,hbk6⟩:=hgz
     refine tf 4 U U (λ_ _ _=>nB (R:=eF.rp) (xs:=fG) C0 ty381 hbk6 ho6 U U U) (qB [5,8,9] U (cU 10 (enc:=xC) mF jn ei pg ty97 (sl1.mono vQ ((hl1.t hl2).t hl3)).1 (nthZ m6) (dq m6) U U U U kr (λq7 A7=>qB [11] U (tf 12 U U (rh ty3 A7 U) (qA [15,16] U (cU 17 (enc:=xC) mF jn ei pg ty97 (sl1.mono vQ ((hl1.t hl2).t hl3)).1 (nthZ m6) (dq m6) U U U U kr (λq8 A8=>qB [18] U (tf 19 U U (rH 4 ty3 A8 U U) ?_))))))))
     refine OJ 1 6 13 kr U U U ?_ ?_ ?_ 
     .refine jI dy ty3 (λb2=>⟨jn,?_⟩)
      refine lY 6 13 kr U U ?_ ?_ 
      .obtain⟨_,⟨r3,rfl,ok3⟩,hi3⟩:=cZ.elem mC (de ho6)
       refine fj (Fa (off:=0) ty31 hi3 hbk6 U U mh) (⟨jn,?_⟩)
       refine lY 7 13 kr U U ?_ ?_ 
       .exact cd SL ([]) (fm) (λG=>fm++G) ap (λ_=>ap) dy ty3 zc3 U bytes3 (cZ.lit (show aY kB hh3 [] ([])from U) U) U U (gl ok3.jb.1) lo lo (λob1 oc1 G2 gr2=>⟨jn,(tn 13 U (aV (cells:=[I y3.No]) dy ty3 zc3 U U kr (λb3=>⟨jn,(tn 14 U (cd SL ([(b3,O [I y3.No] 3)]++(fm)) ([]) (λG=>[(b3,O [I y3.No] 3)]++(fm++G)) ap (λ_=>ap) dy ty3 zc3 U bytes3 gr2 U U (dX 0 U (cE (y3.No) U U)) lo lo (λob2 oc2 G3 gr3=>⟨jn,(tn 20 U (e9 (cells:=[.slice ob2 (((nthI fG (i2:Int)).jb++[y3.No]).length) oc2,I y3.Party]) (places:=[(0,1),(1,1)]) CZ zc381 kr kr (⟨jn,(tn 21 U (lV xH ([(b3,O [I y3.No] 3)]++(fm)) G3 ([]) ap hM gr3 (λh2 hle2 sl2=>pm ([(b3,O [I y3.No] 3)]) fm ([]) (λG=>[(b3,O [I y3.No] 3)]++G) CY (lO h2 fG qn qm fm (eF.mk ((nthI fG (i2:Int)).jb++[y3.No]) y3.Party) (ow.mk ob2 oc2) (mC.mono eF.aj hle2) (show eF.ok h2 (eF.mk ((nthI fG (i2:Int)).jb++[y3.No]) y3.Party) (ow.mk ob2 oc2)from⟨sl2⟩) ob) ap (λ_=>ap) U (λob3 oc3 G4 gr4=>⟨⟨hle2,λ_ hp=>List.Sublist.subset js hp⟩,lk (K2:=[]) hle2 (λ_ hp=>hp) (qA [22] U (aG kr (qT 3 U (oi i3 U (an (ba (L':=G4) js (ag2 ((rwPut fG (eF.mk ((nthI fG (i2:Int)).jb++[y3.No]) y3.Party)),ob3,oc3,G4,h2) hs16 ⟨gr4,(hl3.t hle2),ob,ob,ob⟩)))))))⟩))))⟩)))⟩)))⟩)))⟩)
       exact aV (cells:=[I y3.No]) dy ty3 zc3 U U kr (λb4=>⟨jn,(tn 7 U (cd SL ([(b4,O [I y3.No] 3)]) (fm) (λG=>[(b4,O [I y3.No] 3)]++(fm++G)) ap (λ_=>ap) dy ty3 zc3 U bytes3 (cZ.lit (show aY kB hh3 [] ([])from U) U) U U (gl ok3.jb.1) lo lo (λob4 oc4 G5 gr5=>⟨jn,(tn 14 U (cd SL ([(b4,O [I y3.No] 3)]++(fm)) ([]) (λG=>[(b4,O [I y3.No] 3)]++(fm++G)) ap (λ_=>ap) dy ty3 zc3 U bytes3 gr5 U U (dX 0 U (cE (y3.No) U U)) lo lo (λob5 oc5 G6 gr6=>⟨jn,(tn 20 U (e9 (cells:=[.slice ob5 (((nthI fG (i2:Int)).jb++[y3.No]).length) oc5,I y3.Party]) (places:=[(0,1),(1,1)]) CZ zc381 kr kr (⟨jn,(tn 21 U (lV xH ([(b4,O [I y3.No] 3)]++(fm)) G6 ([]) ap hM gr6 (λh3 hle3 sl3=>pm ([(b4,O [I y3.No] 3)]) fm ([]) (λG=>[(b4,O [I y3.No] 3)]++G) CY (lO h3 fG qn qm fm (eF.mk ((nthI fG (i2:Int)).jb++[y3.No]) y3.Party) (ow.mk ob5 oc5) (mC.mono eF.aj hle3) (show eF.ok h3 (eF.mk ((nthI fG (i2:Int)).jb++[y3.No]) y3.Party) (ow.mk ob5 oc5)from⟨sl3⟩) ob) ap (λ_=>ap) U (λob6 oc6 G7 gr7=>⟨⟨hle3,λ_ hp=>List.Sublist.subset js hp⟩,lk (K2:=[]) hle3 (λ_ hp=>hp) (qA [22] U (aG kr (qT 3 U (oi i3 U (an (ba (L':=G7) js (ag2 ((rwPut fG (eF.mk ((nthI fG (i2:Int)).jb++[y3.No]) y3.Party)),ob6,oc6,G7,h3) hs16 ⟨gr7,(hl3.t hle3),ob,ob,ob⟩)))))))⟩))))⟩)))⟩)))⟩)))⟩)
      refine aV (cells:=[I y3.No]) dy ty3 zc3 U U kr (λb5=>⟨jn,(tn 6 U ?_)⟩)
      obtain⟨_,⟨r4,rfl,ok4⟩,hi4⟩:=cZ.elem mC (de ho6)
      exact fj (Fa (off:=0) ty31 hi4 hbk6 U U mh) (⟨jn,tn 7 U (cd SL ([(b5,O [I y3.No] 3)]) (fm) (λG=>[(b5,O [I y3.No] 3)]++(fm++G)) ap (λ_=>ap) dy ty3 zc3 U bytes3 (cZ.lit (show aY kB hh3 [] ([])from U) U) U U (gl ok4.jb.1) lo lo (λob7 oc7 G8 gr8=>⟨jn,(tn 14 U (cd SL ([(b5,O [I y3.No] 3)]++(fm)) ([]) (λG=>[(b5,O [I y3.No] 3)]++(fm++G)) ap (λ_=>ap) dy ty3 zc3 U bytes3 gr8 U U (dX 0 U (cE (y3.No) U U)) lo lo (λob8 oc8 G9 gr9=>⟨jn,(tn 20 U (e9 (cells:=[.slice ob8 (((nthI fG (i2:Int)).jb++[y3.No]).length) oc8,I y3.Party]) (places:=[(0,1),(1,1)]) CZ zc381 kr kr (⟨jn,(tn 21 U (lV xH ([(b5,O [I y3.No] 3)]++(fm)) G9 ([]) ap hM gr9 (λh4 hle4 sl4=>pm ([(b5,O [I y3.No] 3)]) fm ([]) (λG=>[(b5,O [I y3.No] 3)]++G) CY (lO h4 fG qn qm fm (eF.mk ((nthI fG (i2:Int)).jb++[y3.No]) y3.Party) (ow.mk ob8 oc8) (mC.mono eF.aj hle4) (show eF.ok h4 (eF.mk ((nthI fG (i2:Int)).jb++[y3.No]) y3.Party) (ow.mk ob8 oc8)from⟨sl4⟩) ob) ap (λ_=>ap) U (λob9 oc9 G10 gr10=>⟨⟨hle4,λ_ hp=>List.Sublist.subset js hp⟩,lk (K2:=[]) hle4 (λ_ hp=>hp) (qA [22] U (aG kr (qT 3 U (oi i3 U (an (ba (L':=G10) js (ag2 ((rwPut fG (eF.mk ((nthI fG (i2:Int)).jb++[y3.No]) y3.Party)),ob9,oc9,G10,h4) hs16 ⟨gr10,(hl3.t hle4),ob,ob,ob⟩)))))))⟩))))⟩)))⟩)))⟩))⟩)
     .obtain⟨_,⟨r5,rfl,ok5⟩,hi5⟩:=cZ.elem mC (de ho6)
      refine fj (Fa (off:=0) ty31 hi5 hbk6 U U mh) (⟨jn,?_⟩)
      refine lY 1 13 kr U U ?_ ?_ 
      .refine jI dy ty3 (λb6=>⟨jn,?_⟩)
       refine lY 7 13 kr U U ?_ ?_ 
       .exact cd SL ([]) (fm) (λG=>fm++G) ap (λ_=>ap) dy ty3 zc3 U bytes3 (cZ.lit (show aY kB hh3 [] ([])from U) U) U U (gl ok5.jb.1) lo lo (λob10 oc10 G11 gr11=>⟨jn,(tn 13 U (aV (cells:=[I y3.No]) dy ty3 zc3 U U kr (λb7=>⟨jn,(tn 14 U (cd SL ([(b7,O [I y3.No] 3)]++(fm)) ([]) (λG=>[(b7,O [I y3.No] 3)]++(fm++G)) ap (λ_=>ap) dy ty3 zc3 U bytes3 gr11 U U (dX 0 U (cE (y3.No) U U)) lo lo (λob11 oc11 G12 gr12=>⟨jn,(tn 20 U (e9 (cells:=[.slice ob11 (((nthI fG (i2:Int)).jb++[y3.No]).length) oc11,I y3.Party]) (places:=[(0,1),(1,1)]) CZ zc381 kr kr (⟨jn,(tn 21 U (lV xH ([(b7,O [I y3.No] 3)]++(fm)) G12 ([]) ap hM gr12 (λh5 hle5 sl5=>pm ([(b7,O [I y3.No] 3)]) fm ([]) (λG=>[(b7,O [I y3.No] 3)]++G) CY (lO h5 fG qn qm fm (eF.mk ((nthI fG (i2:Int)).jb++[y3.No]) y3.Party) (ow.mk ob11 oc11) (mC.mono eF.aj hle5) (show eF.ok h5 (eF.mk ((nthI fG (i2:Int)).jb++[y3.No]) y3.Party) (ow.mk ob11 oc11)from⟨sl5⟩) ob) ap (λ_=>ap) U (λob12 oc12 G13 gr13=>⟨⟨hle5,λ_ hp=>List.Sublist.subset js hp⟩,lk (K2:=[]) hle5 (λ_ hp=>hp) (qA [22] U (aG kr (qT 3 U (oi i3 U (an (ba (L':=G13) js (ag2 ((rwPut fG (eF.mk ((nthI fG (i2:Int)).jb++[y3.No]) y3.Party)),ob12,oc12,G13,h5) hs16 ⟨gr13,(hl3.t hle5),ob,ob,ob⟩)))))))⟩))))⟩)))⟩)))⟩)))⟩)
       exact aV (cells:=[I y3.No]) dy ty3 zc3 U U kr (λb8=>⟨jn,(tn 7 U (cd SL ([(b8,O [I y3.No] 3)]) (fm) (λG=>[(b8,O [I y3.No] 3)]++(fm++G)) ap (λ_=>ap) dy ty3 zc3 U bytes3 (cZ.lit (show aY kB hh3 [] ([])from U) U) U U (gl ok5.jb.1) lo lo (λob13 oc13 G14 gr14=>⟨jn,(tn 14 U (cd SL ([(b8,O [I y3.No] 3)]++(fm)) ([]) (λG=>[(b8,O [I y3.No] 3)]++(fm++G)) ap (λ_=>ap) dy ty3 zc3 U bytes3 gr14 U U (dX 0 U (cE (y3.No) U U)) lo lo (λob14 oc14 G15 gr15=>⟨jn,(tn 20 U (e9 (cells:=[.slice ob14 (((nthI fG (i2:Int)).jb++[y3.No]).length) oc14,I y3.Party]) (places:=[(0,1),(1,1)]) CZ zc381 kr kr (⟨jn,(tn 21 U (lV xH ([(b8,O [I y3.No] 3)]++(fm)) G15 ([]) ap hM gr15 (λh6 hle6 sl6=>pm ([(b8,O [I y3.No] 3)]) fm ([]) (λG=>[(b8,O [I y3.No] 3)]++G) CY (lO h6 fG qn qm fm (eF.mk ((nthI fG (i2:Int)).jb++[y3.No]) y3.Party) (ow.mk ob14 oc14) (mC.mono eF.aj hle6) (show eF.ok h6 (eF.mk ((nthI fG (i2:Int)).jb++[y3.No]) y3.Party) (ow.mk ob14 oc14)from⟨sl6⟩) ob) ap (λ_=>ap) U (λob15 oc15 G16 gr16=>⟨⟨hle6,λ_ hp=>List.Sublist.subset js hp⟩,lk (K2:=[]) hle6 (λ_ hp=>hp) (qA [22] U (aG kr (qT 3 U (oi i3 U (an (ba (L':=G16) js (ag2 ((rwPut fG (eF.mk ((nthI fG (i2:Int)).jb++[y3.No]) y3.Party)),ob15,oc15,G16,h6) hs16 ⟨gr16,(hl3.t hle6),ob,ob,ob⟩)))))))⟩))))⟩)))⟩)))⟩)))⟩)
      exact aV (cells:=[I y3.No]) dy ty3 zc3 U U kr (λb9=>⟨jn,(tn 1 U (jI dy ty3 (λb10=>⟨jn,(tn 7 U (cd SL ([]) ([(b9,O [I y3.No] 3)]++(fm)) (λG=>[(b9,O [I y3.No] 3)]++(fm++G)) ap (λ_=>ap) dy ty3 zc3 U bytes3 (cZ.lit (show aY kB hh3 [] ([])from U) U) U U (gl ok5.jb.1) lo lo (λob16 oc16 G17 gr17=>⟨jn,(tn 14 U (cd SL ([(b9,O [I y3.No] 3)]++(fm)) ([]) (λG=>[(b9,O [I y3.No] 3)]++(fm++G)) ap (λ_=>ap) dy ty3 zc3 U bytes3 gr17 U U (dX 0 U (cE (y3.No) U U)) lo lo (λob17 oc17 G18 gr18=>⟨jn,(tn 20 U (e9 (cells:=[.slice ob17 (((nthI fG (i2:Int)).jb++[y3.No]).length) oc17,I y3.Party]) (places:=[(0,1),(1,1)]) CZ zc381 kr kr (⟨jn,(tn 21 U (lV xH ([(b9,O [I y3.No] 3)]++(fm)) G18 ([]) ap hM gr18 (λh7 hle7 sl7=>pm ([(b9,O [I y3.No] 3)]) fm ([]) (λG=>[(b9,O [I y3.No] 3)]++G) CY (lO h7 fG qn qm fm (eF.mk ((nthI fG (i2:Int)).jb++[y3.No]) y3.Party) (ow.mk ob17 oc17) (mC.mono eF.aj hle7) (show eF.ok h7 (eF.mk ((nthI fG (i2:Int)).jb++[y3.No]) y3.Party) (ow.mk ob17 oc17)from⟨sl7⟩) ob) ap (λ_=>ap) U (λob18 oc18 G19 gr19=>⟨⟨hle7,λ_ hp=>List.Sublist.subset js hp⟩,lk (K2:=[]) hle7 (λ_ hp=>hp) (qA [22] U (aG kr (qT 3 U (oi i3 U (an (ba (L':=G19) js (ag2 ((rwPut fG (eF.mk ((nthI fG (i2:Int)).jb++[y3.No]) y3.Party)),ob18,oc18,G19,h7) hs16 ⟨gr19,(hl3.t hle7),ob,ob,ob⟩)))))))⟩))))⟩)))⟩)))⟩)))⟩)))⟩)
     refine aV (cells:=[I y3.No]) dy ty3 zc3 U U kr (λb11=>⟨jn,?_⟩)
     refine lY 1 6 kr U U ?_ ?_ 
     .refine jI dy ty3 (λb12=>⟨jn,(tn 6 U ?_)⟩)
      obtain⟨_,⟨r6,rfl,ok6⟩,hi6⟩:=cZ.elem mC (de ho6)
      exact fj (Fa (off:=0) ty31 hi6 hbk6 U U mh) (⟨jn,tn 7 U (cd SL ([]) ([(b11,O [I y3.No] 3)]++(fm)) (λG=>[(b11,O [I y3.No] 3)]++(fm++G)) ap (λ_=>ap) dy ty3 zc3 U bytes3 (cZ.lit (show aY kB hh3 [] ([])from U) U) U U (gl ok6.jb.1) lo lo (λob19 oc19 G20 gr20=>⟨jn,(tn 14 U (cd SL ([(b11,O [I y3.No] 3)]++(fm)) ([]) (λG=>[(b11,O [I y3.No] 3)]++(fm++G)) ap (λ_=>ap) dy ty3 zc3 U bytes3 gr20 U U (dX 0 U (cE (y3.No) U U)) lo lo (λob20 oc20 G21 gr21=>⟨jn,(tn 20 U (e9 (cells:=[.slice ob20 (((nthI fG (i2:Int)).jb++[y3.No]).length) oc20,I y3.Party]) (places:=[(0,1),(1,1)]) CZ zc381 kr kr (⟨jn,(tn 21 U (lV xH ([(b11,O [I y3.No] 3)]++(fm)) G21 ([]) ap hM gr21 (λh8 hle8 sl8=>pm ([(b11,O [I y3.No] 3)]) fm ([]) (λG=>[(b11,O [I y3.No] 3)]++G) CY (lO h8 fG qn qm fm (eF.mk ((nthI fG (i2:Int)).jb++[y3.No]) y3.Party) (ow.mk ob20 oc20) (mC.mono eF.aj hle8) (show eF.ok h8 (eF.mk ((nthI fG (i2:Int)).jb++[y3.No]) y3.Party) (ow.mk ob20 oc20)from⟨sl8⟩) ob) ap (λ_=>ap) U (λob21 oc21 G22 gr22=>⟨⟨hle8,λ_ hp=>List.Sublist.subset js hp⟩,lk (K2:=[]) hle8 (λ_ hp=>hp) (qA [22] U (aG kr (qT 3 U (oi i3 U (an (ba (L':=G22) js (ag2 ((rwPut fG (eF.mk ((nthI fG (i2:Int)).jb++[y3.No]) y3.Party)),ob21,oc21,G22,h8) hs16 ⟨gr22,(hl3.t hle8),ob,ob,ob⟩)))))))⟩))))⟩)))⟩)))⟩))⟩)
     obtain⟨_,⟨r7,rfl,ok7⟩,hi7⟩:=cZ.elem mC (de ho6)
     exact fj (Fa (off:=0) ty31 hi7 hbk6 U U mh) (⟨jn,tn 1 U (jI dy ty3 (λb13=>⟨jn,(tn 7 U (cd SL ([]) ([(b11,O [I y3.No] 3)]++(fm)) (λG=>[(b11,O [I y3.No] 3)]++(fm++G)) ap (λ_=>ap) dy ty3 zc3 U bytes3 (cZ.lit (show aY kB hh3 [] ([])from U) U) U U (gl ok7.jb.1) lo lo (λob22 oc22 G23 gr23=>⟨jn,(tn 14 U (cd SL ([(b11,O [I y3.No] 3)]++(fm)) ([]) (λG=>[(b11,O [I y3.No] 3)]++(fm++G)) ap (λ_=>ap) dy ty3 zc3 U bytes3 gr23 U U (dX 0 U (cE (y3.No) U U)) lo lo (λob23 oc23 G24 gr24=>⟨jn,(tn 20 U (e9 (cells:=[.slice ob23 (((nthI fG (i2:Int)).jb++[y3.No]).length) oc23,I y3.Party]) (places:=[(0,1),(1,1)]) CZ zc381 kr kr (⟨jn,(tn 21 U (lV xH ([(b11,O [I y3.No] 3)]++(fm)) G24 ([]) ap hM gr24 (λh9 hle9 sl9=>pm ([(b11,O [I y3.No] 3)]) fm ([]) (λG=>[(b11,O [I y3.No] 3)]++G) CY (lO h9 fG qn qm fm (eF.mk ((nthI fG (i2:Int)).jb++[y3.No]) y3.Party) (ow.mk ob23 oc23) (mC.mono eF.aj hle9) (show eF.ok h9 (eF.mk ((nthI fG (i2:Int)).jb++[y3.No]) y3.Party) (ow.mk ob23 oc23)from⟨sl9⟩) ob) ap (λ_=>ap) U (λob24 oc24 G25 gr25=>⟨⟨hle9,λ_ hp=>List.Sublist.subset js hp⟩,lk (K2:=[]) hle9 (λ_ hp=>hp) (qA [22] U (aG kr (qT 3 U (oi i3 U (an (ba (L':=G25) js (ag2 ((rwPut fG (eF.mk ((nthI fG (i2:Int)).jb++[y3.No]) y3.Party)),ob24,oc24,G25,h9) hs16 ⟨gr25,(hl3.t hle9),ob,ob,ob⟩)))))))⟩))))⟩)))⟩)))⟩)))⟩))⟩)
    exact aH (qT 3 U (oi i3 U (an (ag2 (fG,qn,qm,fm,hh3) hs17 ⟨mC,hl3,ob,ob,ob⟩))))
   rintro i3 ⟨fG,qn,qm,fm,hh3⟩ hd3 Pg hx e
   exact qK 6 [] U (fO Pg U (qO 3 U (hx _ rd)))
  have NI:decide ((i2:Int)<(mt.length:Int))=false:=decide_eq_false ob
  have hs8:bD l who parties bw known=(bD.K2) i2 mt:=by cases rz2 with|zero=>exact hs7|succ q=>exact hs7.trans (bf NI)
  exact qK 6 [] U (fO NI U (qO 3 U (hx2 (i2,mt,IJ,II,IK,hh2) _ ⟨hs8,rS,hl2⟩ trivial)))
 .rintro i1 ⟨ve,FS,FQ,CM,hh1⟩ y1 rz1 hd1 cY aJ dY gy hs18 ⟨CL,hl1,u1_0⟩ hx1 ag3 e
  try dsimp only at CL hl1 u1_0
  have hL1:=u1_0.len
  have hW1:=sd.put (x:=(eF.mk [y1.No] y1.Party)) u1_0 (Hx (gj hd1)) (by simp)
  refine qK 6 [] U (tO cY U (qO 9 U (aA (iF xC pg ty97 (sl1.mono vQ hl1).1 aJ U U U (λq9 A9=>qL 1 [] U (jk (j:=5) ty4 A9 U U (qO 2 U (aU 8 [45,46,47,48,49,50,51,52,53] 45 53 (y1.Person==who) U (λc6 hk2=>?_) (λe=>?_)))))))))
  .exact av (av (aA (iF xC pg ty97 (sl1.mono vQ hl1).1 aJ U U U (λq10 A10=>qL 1 [] U (jk (j:=3) ty3 A10 U U (qO 3 U (hk2 _ U)))))))
  refine aI (ae hs18 U (λc7 hs19=>?_) (λc7 hs20=>?_))
  .refine eh ([]) mixed kr jn (λML _=>?_)
   refine qR 0 3 U (cU 3 (enc:=xC) ML jn ei pg ty97 (sl1.mono vQ hl1).1 (nthZ aJ) (dq aJ) U U U U kr (λq11 A11=>qB [4] U (tf 5 U U (rh ty3 A11 U) (qA [7,8] U (cU 9 (enc:=xC) ML jn ei pg ty97 (sl1.mono vQ hl1).1 (nthZ aJ) (dq aJ) U U U U kr (λq12 A12=>qB [10] U (tf 11 U U (rH 4 ty3 A12 U U) (tn 6 U (aV (cells:=[I y1.No]) dy ty3 zc3 U U kr (λb14=>⟨jn,tn 12 U (e9 (cells:=[.slice (some ⟨b14,0,none⟩) 1 1,I y1.Party]) (places:=[(0,1),(1,1)]) CZ zc381 kr kr (⟨jn,tn 13 U (Nr 0 U hM (λh10 hle10 hb1=>?_))⟩))⟩))))))))))
   have sl10:SlC kB h10 (some ⟨b14,0,none⟩) 1 ([y1.No]):=aY.slB0 (T:=3) (fz:=(0,0)) ((show aY kB hh1 [I y1.No] ([y1.No])from⟨[I y1.No],[],rfl,rfl,rfl,rfl⟩).mono xH hle10) hb1
   exact pm ([]) CM ([]) (λG=>G) CY (lO h10 ve FS FQ CM (eF.mk ([y1.No]) y1.Party) (ow.mk (some ⟨b14,0,none⟩) 1) (CL.mono eF.aj hle10) (show eF.ok h10 (eF.mk ([y1.No]) y1.Party) (ow.mk (some ⟨b14,0,none⟩) 1)from⟨sl10⟩) ob) ap (λ_=>ap) U (λob25 oc25 G26 gr26=>⟨⟨hle10,λ_ hp=>List.Sublist.subset (List.nil_sublist _) hp⟩,lk (K2:=[]) hle10 (λ_ hp=>hp) (qA [14] U (aG kr (qT 3 U (oi i1 U (an (ag3 ((rwPut ve (eF.mk ([y1.No]) y1.Party)),ob25,oc25,G26,h10) hs19 ⟨gr26,(hl1.t hle10),ob⟩))))))⟩)
  exact aH (qT 3 U (oi i1 U (an (ag3 (ve,FS,FQ,CM,hh1) hs20 ⟨CL,hl1,ob⟩))))
 rintro i1 ⟨ve,FS,FQ,CM,hh1⟩ hd1 fL hx e
 exact qK 6 [] U (fO fL U (qO 3 U (hx _ rd)))
theorem zU(h:HF)(cv:Register)(fF:fq)(person:Int)(d:Document)(CR:jZ)(bw:Int)(known:Int)(jw:xV h cv fF)(hd:SG h d CR)(hsm:smR cv):Ret prog 260 [.agg (vK cv fF).toArray,I person,.agg (qP d CR).toArray,I bw,I known] h (.bool (nj cv person d bw known)):=by
 refine sT func260 U ntmps260 U λX hM hX hF=>?_
 have hs0:=@rfl _ (nj cv person d bw known)
 refine sr (bS (λb1=>bS (λb2=>qL 11 [1,0] U (aA (cC call314 (Bn _ _ _ _ person _ _ _ bw known jw.Interests hd.Parties hsm.2.2.2.1) U (λv1 h1 hle1 hp1=>?_))))))
 obtain⟨rb1,rc1,rfl,sl1⟩:=hp1
 exact av (qO 13 U (nretP [.bool (!((bD cv.Interests person d.Parties bw known).2.1))] (cs hs0)))
theorem Gr(h:HF)(cv:Register)(fF:fq)(x:Approval)(d:Document)(CR:jZ)(bw:Int)(known:Int)(jw:xV h cv fF)(hd:SG h d CR)(hsm:smR cv):Ret prog 166 [.agg (vK cv fF).toArray,.agg (zC x).toArray,.agg (qP d CR).toArray,I bw,I known] h (.bool (nR cv x d bw known)):=by
 refine sT func166 U ntmps166 U λX hM hX hF=>?_
 have hs0:=@rfl _ (nR cv x d bw known)
 refine sr (bS (λb1=>bS (λb2=>bS (λb3=>qL 12 [2,1,1] U (ai call258 (E9 _ _ _ _ x.Office x.For bw known jw.Appoints) U (qL 26 [2,1,1,1,0,0] U (aA (cC call259 (E7 _ _ _ _ x.For x.By x.Office d.Kind d.Value bw known jw.Deputies hsm.2.2.1) U (λv1 h1 hle1 hp1=>?_)))))))))
 obtain⟨rb1,rc1,rfl,sl1⟩:=hp1
 refine qO 12 U (aU 2 [52,53,54] 52 54 ((eV cv.Deputies x.For x.By x.Office d.Kind d.Value bw known).2.1) U (λc1 hk1=>?_) (λe=>?_))
 .exact av (eE U (hk1 _ U))
 refine av (aU 8 [55,56,57,58,59,60,61,62,63] 55 63 (nj cv x.For d bw known) U (λc2 hk2=>?_) (λe=>?_))
 .exact cN 2 ty30 U U U (qL 2 [1] U (cN 0 ty51 U U U (qO 2 U (ai call260 (zU _ _ _ x.For _ _ bw known (jw.mono hle1) (hd.mono hle1) ob) U (eE U (hk2 _ U))))))
 refine av (aU 8 [64,65,66,67,68,69,70,71,72] 64 72 (nj cv x.By d bw known) U (λc3 hk3=>?_) (λe=>?_))
 .exact cN 2 ty30 U U U (qL 2 [1] U (cN 0 ty51 U U U (qO 2 U (ai call260 (zU _ _ _ x.By _ _ bw known (jw.mono hle1) (hd.mono hle1) ob) U (eE U (hk3 _ U))))))
 exact an (nretP [.bool ((((jO cv.Appoints x.Office x.For bw known).2.2.1&&(eV cv.Deputies x.For x.By x.Office d.Kind d.Value bw known).2.1)&&(nj cv x.For d bw known))&&(nj cv x.By d bw known))] (cs hs0))
theorem DH(h:HF)(cv:Register)(fF:fq)(d:Document)(CR:jZ)(p:Policy)(gQ:eQ)(bw:Int)(known:Int)(jw:xV h cv fF)(hd:SG h d CR)(hp:Policy.ok h p gQ)(hsm:smR cv)(hpk:p.Rules.length=p.Kinds.length/\0<=d.Kind):i9 prog 83 [.agg (vK cv fF).toArray,.agg (qP d CR).toArray,.agg (xE p gQ).toArray,I bw,I known] h (λv h'=>∃(rb0:Option Addr)(rc0:Nat),v=.slice rb0 (fJ cv d p bw known).length rc0/\SlC kB h' rb0 rc0 (fJ cv d p bw known)):=by
 refine sT func83 U ntmps83 U λX hM hX hF=>?_
 have hs0:=@rfl _ (fJ cv d p bw known)
 refine sr (bS (λb1=>bS (λb2=>bS (λb3=>qO 4 U (aA (jI dy ty3 (λb4=>qL 12 [2,1] U (ae hs0 U (λc1 hs1=>?_) (λc1 hs2=>?_)))))))))
 .have c1p:=of_decide_eq_true c1
  refine qT 5 U (eC 0 U hM (λh1 hle1 hb1=>?_))
  have sl1:SlC kB h1 (some ⟨b4,0,none⟩) 0 ([]):=aY.slB0 (T:=3) (fz:=(0,0)) ((show aY kB h [] ([])from rfl).mono xH hle1) hb1
  have hs3:fJ cv d p bw known=[]:=hs1
  exact nretH [.slice (some ⟨b4,0,none⟩) 0 0] ⟨(some ⟨b4,0,none⟩),0,congrArg (λr:List Int=>(.slice (some ⟨b4,0,none⟩) r.length 0:Value)) hs3.symm,(by rw[hs3];exact sl1)⟩
 have c1p:=of_decide_eq_false c1
 refine qT 2 U ?_
 let z1:Nat×Obj:=(b1,O (vK cv fF) 30)
 let z2:Nat×Obj:=(b2,O (qP d CR) 51)
 let z3:Nat×Obj:=(b3,O (xE p gQ) 64)
 refine eh ([(b4,O [] 3),z3,z2,z1]) mixed kr jn (λdt _=>?_)
 refine qB [0] U (tf 1 U U (rj 3 ty28 U U U) (qB [2] U (tf 3 U U (rj 2 ty3 U U U) (qB [4] U (tf 5 U U (rj 2 ty3 U U U) (qB [6] U (tf 7 U U (rj 1 ty59 U U U) (qB [8] U (tf 9 U U (rj 2 ty3 U U U) ?_)))))))))
 have ho1:0<=(d.Kind:Int)/\(d.Kind:Int)<((p.Rules).length:Int):=ob
 refine j3 10 dt jn vq ty79 hp.Rules.1 ho1 (de ho1) U U U U kr (λq1 cs1 A1 ln1 rr1=>?_)
 obtain⟨r1,rfl,ok1⟩:=rr1
 refine qB [11] U (tf 12 U U (rH 2 ty3 A1 U U) (qA [13,14] U (tn 15 U (cC call165 (Bp _ _ _ _ d.No d.At ((nthI p.Rules d.Kind).Think) bw known jw.Approvals hsm.2.2.2.2.2.2) U (λv1 h2 hle2 hp1=>?_)))))
 obtain⟨rb1,rc1,rfl,sl2⟩:=hp1
 refine⟨jl hle2,tu hle2 (qR 16 5 U (aG kr (qT 5 U (eC 0 U hM (λh4 hle4 hb2=>?_)))))⟩
 have sl4:SlC kB h4 (some ⟨b4,0,none⟩) 0 ([]):=aY.slB0 (T:=3) (fz:=(0,0)) ((show aY kB h2 [] ([])from rfl).mono xH hle4) hb2
 refine lp2 ((dF cv.Approvals d.No d.At ((nthI p.Rules d.Kind).Think) bw known).1) (λi w=>[(3,I bw),(4,I known),(5,Q b1),(6,Q b2),(11,.slice w.2.1 w.1.length w.2.2.1),(12,.slice rb1 (((dF cv.Approvals d.No d.At ((nthI p.Rules d.Kind).Think) bw known).1).length) rc1),(14,I (i:Int))]) (λw=>w.2.2.2) (λw=>[z3,z2,z1]) (λi w=>SlC kB w.2.2.2 w.2.1 w.2.2.1 w.1/\w.1.length<=0+i/\xM h4 w.2.2.2) (λs1 i w=>(fJ.L1 cv d bw known (fJ.K1)) s1 w.1) ([],(some ⟨b4,0,none⟩),0,h4) ((sl2.mono zH hle4).1.1) hs2 ⟨sl4,lo,lf⟩ ?_ ?_ ?_
 .rintro i1 ⟨gY,rV,rU,hh1⟩ ft hs4 ⟨qo,AG,hl1⟩ e
  try dsimp only at qo AG hl1
  refine qT 5 U ?_
  have hs5:fJ cv d p bw known=gY:=hs4
  exact nretH [.slice rV gY.length rU] ⟨rV,rU,congrArg (λr:List Int=>(.slice rV r.length rU:Value)) hs5.symm,(by rw[hs5];exact qo)⟩
 .rintro i1 ⟨gY,rV,rU,hh1⟩ y1 rz1 hd1 cY aJ dY gy hs6 ⟨qo,AG,hl1⟩ hx1 ag1 e
  try dsimp only at qo AG hl1
  have hq_:=xS (NT cv.Approvals d.No d.At ((nthI p.Rules d.Kind).Think) bw known) hsm.2.2.2.2.2.2
  have hp_:=Ny gY y1.For
  refine qK 6 [] U (tO cY U (qO 6 U (eh ([z3,z2,z1]) mixed kr jn (λmF _=>tf 0 U U (λ_ _ hj=>i7 ty30 U (hj.nth (i:=2) U) U) (qA [1,2] U (cU 3 (enc:=zC) mF jn ei oD ty81 (sl2.mono zH (hle4.t hl1)).1 (nthZ aJ) (dq aJ) U U U U kr (λq4 A4=>tf 4 U U (λ_ _ hj=>iP ty81 (A4.mono hj.1) U U) (tf 5 U U (λ_ _ hj=>i7 ty51 U (hj.nth (i:=1) U) U) (qA [6,7] U (tn 8 U (et call166 (Gr _ _ _ y1 _ _ bw known (jw.mono ((hle2.t hle4).t hl1)) (hd.mono ((hle2.t hle4).t hl1)) ob) U (⟨jn,aG kr (ae hs6 U (λc3 hs7=>?_) (λc3 hs8=>?_))⟩))))))))))))
  .refine qT 4 U (aA (iF zC oD ty81 (sl2.mono zH (hle4.t hl1)).1 aJ U U U (λq5 A5=>qL 1 [] U (jk (j:=5) ty3 A5 U U (aA (cC call143 (Ih _ _ _ _ y1.For qo ob) U (λv3 h5 hle5 hp3=>?_)))))))
   obtain⟨rb3,rc3,rfl,sl5⟩:=hp3
   exact an (qT 3 U (oi i1 U (an (ag1 ((fR gY y1.For),rb3,rc3,h5) hs7 ⟨sl5,lo,(hl1.t hle5)⟩))))
  exact aH (qT 3 U (oi i1 U (an (ag1 (gY,rV,rU,hh1) hs8 ⟨qo,lo,hl1⟩))))
 rintro i1 ⟨gY,rV,rU,hh1⟩ hd1 fL hx e
 exact qK 6 [] U (fO fL U (qO 3 U (hx _ rd)))
theorem DJ(h:HF)(cv:Register)(fF:fq)(doc:Int)(no:Int)(bw:Int)(known:Int)(jw:xV h cv fF)(hsm:smR cv):i9 prog 17 [.agg (vK cv fF).toArray,I doc,I no,I bw,I known] h (λv h'=>∃(rb0:Option Addr)(rc0:Nat),v=.tuple #[.slice rb0 ((iL cv doc no bw known).1).length rc0,I ((iL cv doc no bw known).2)]/\SlC kB h' rb0 rc0 ((iL cv doc no bw known).1)):=by
 refine sT func17 U ntmps17 U λX hM hX hF=>?_
 have hs0:=@rfl _ (iL cv doc no bw known)
 refine sr (bS (λb1=>qO 6 U (cN 0 ty30 U U U (ai call14 (EP _ _ _ jw ob) U (qO 2 U (ae hs0 U (λc1 hs1=>?_) (λc1 hs2=>?_)))))))
 .refine qT 5 U ?_
  have hs3:iL cv doc no bw known=([],300):=hs1
  exact nretH [.slice none 0 0,I 300] (hs3▸⟨none,0,U,vE⟩)
 refine qT 3 U (cN 0 ty30 U U U (av (ai call20 (Ij _ _ _ doc jw) U (qO 4 U (cN 0 ty30 U U U (av (ai call81 (Cj _ _ _ no jw) U (qO 8 U (bL 3 [25,26,27,28] 25 28 (decide ((cT cv no)<0)) U (λc2 hk1=>?_) (λe=>?_))))))))))
 .exact av (qO 2 U (hk1 _ U))
 refine av (bL 4 [29,30,31,32,33] 29 33 (!(hU bw)) U (λc3 hk2=>?_) (λe=>?_))
 .exact av (ai call82 (wA h bw) U (qO 2 U (hk2 _ U)))
 refine av (bL 4 [34,35,36,37,38] 34 38 (!(hU known)) U (λc4 hk3=>?_) (λe=>?_))
 .exact av (ai call82 (wA h known) U (qO 2 U (hk3 _ U)))
 refine aI (ae hs2 U (λc5 hs4=>?_) (λc5 hs5=>?_))
 .refine qT 5 U ?_
  have hs6:iL cv doc no bw known=([],1):=hs4
  exact nretH [.slice none 0 0,I 1] (hs6▸⟨none,0,U,vE⟩)
 refine qT 2 U (eh ([(b1,O (vK cv fF) 30)]) mixed kr jn (λdt _=>tf 0 U U (λ_ _ hj=>i7 ty30 U (hj.nth (i:=0) U) U) (qB [1] U (tf 2 U U (rj 0 ty27 U U U) (tm 3 U ?_)))))
 have ho1:0<=((dp cv doc):Int)/\((dp cv doc):Int)<((cv.Docs).length:Int):=(by have hq:=(Ip (doc:=doc) (no:=no) (t:=bw) (known:=known) hsm ob ob);omega)
 refine j3 4 dt jn sf ty51 jw.Docs.1 ho1 (de ho1) U U U U kr (λq1 cs1 A1 ln1 rr1=>?_)
 obtain⟨r1,rfl,ok1⟩:=rr1
 refine tf 5 U U (λ_ _ hj=>iP ty51 (A1.mono hj.1) U U) (qB [6] U (tf 7 U U (rj 0 ty26 U U U) (tm 8 U ?_)))
 have ho2:0<=((cT cv no):Int)/\((cT cv no):Int)<((cv.Versions).length:Int):=(by have hq:=(Ip (doc:=doc) (no:=no) (t:=bw) (known:=known) hsm ob ob);omega)
 refine j3 9 dt jn xg ty105 jw.Versions.1 ho2 (de ho2) U U U U kr (λq2 cs2 A2 ln2 rr2=>?_)
 obtain⟨r2,rfl,ok2⟩:=rr2
 refine qB [10] U (tf 11 U U (λ_ _ hj=>Lq 3 ty64 (A2.mono hj.1) U U) (qA [12,13] U (tn 14 U (cC call83 (DH _ _ _ _ _ _ _ bw known jw ok1 ok2.Policy ob ((Ip (doc:=doc) (no:=no) (t:=bw) (known:=known) hsm ob ob)).2.2) U (λv1 h1 hle1 hp1=>?_)))))
 obtain⟨rb1,rc1,rfl,sl1⟩:=hp1
 refine⟨⟨hle1,λ_ hp=>List.Sublist.subset (List.Sublist.refl _) hp⟩,lk (K2:=[(b1,O (vK cv fF) 30)]) hle1 (λ_ hp=>hp) (qA [15,16] U (aG kr ?_))⟩
 have hs7:iL cv doc no bw known=((fJ cv (nthI cv.Docs (dp cv doc)) ((nthI cv.Versions (cT cv no)).Policy) bw known),0):=hs5
 exact nretH [.slice rb1 ((fJ cv (nthI cv.Docs (dp cv doc)) ((nthI cv.Versions (cT cv no)).Policy) bw known).length) rc1,I 0] (hs7▸⟨rb1,rc1,U,sl1⟩)
end
section
open Go.Proofs Go.Proofs.Tryz
set_option maxHeartbeats 2000000
theorem law30_JudgePeopleSpec_top{w:World}(h:HF)(hp:Pre h [] w)(cv:Register)(fF:fq)(doc:Int)(version:Int)(bw:Int)(known:Int)(jw:xV h cv fF)(hsm:smR cv)(hk:Kinds h):Calls prog 4 [.agg (vK cv fF).toArray,I doc,I version,I bw,I known].toArray w λe w'=>e=.returned (.bool (mg cv doc version bw known))/\RowKit.Below w.heap.size w w':=by
 refine KQ hp OB U ntmps4 U λX hM hX=>?_
 have hs0:=@rfl _ (mg cv doc version bw known)
 refine sr (bS (λb1=>qO 5 U (ai call9 (GJ h  hk) U (qO 2 U (ae hs0 U (λc1 hs1=>?_) (λc1 hs2=>?_))))))
 .exact sr (an (Er [.bool false] OB U hX rd (cs hs1)))
 .refine qT 4 U (cN 0 ty30 U U U (ai call10 (Ii _ _ _ jw) U (qO 2 U (ae hs2 U (λc2 hs4=>?_) (λc2 hs5=>?_)))))
  .exact sr (an (Er [.bool true] OB U hX rd (cs hs4)))
  .refine qT 3 U (cN 0 ty30 U U U (qO 4 U (aA (cC call16 (rP _ _ _ doc version bw known jw ob hk) U (λv1 h1 hle1 hp1=>?_)))))
   obtain⟨rb1,rc1,rfl,sl1⟩:=hp1
   refine qO 8 U (cN 0 ty30 U U U (qO 4 U (aA (cC call17 (DJ _ _ _ doc version bw known (jw.mono hle1) ob) U (λv2 h2 hle2 hp2=>?_)))))
   obtain⟨rb2,rc2,rfl,sl2⟩:=hp2
   refine qO 10 U (ai call18 (tW _ _ _ _ _ _ _ (sl1.mono xH hle2) sl2) U (av (aU 4 [41,42,43,44,45] 41 45 ((fh cv doc version bw known).2==(iL cv doc version bw known).2) U (λc3 hk1=>?_) (λe=>?_))))
   .exact av (qO 3 U (hk1 _ U))
   exact an (Er [.bool ((gp ((fh cv doc version bw known).1) ((iL cv doc version bw known).1))&&((fh cv doc version bw known).2==(iL cv doc version bw known).2))] OB U hX rd (cs hs5))
end
end Go.Sg

namespace Go.Proofs.YtpplkjhgggjaoaaGreatDoor.judgePeopleSpec
open Go.ChangeShapes Go.WideShapes Go.ChangeAt Go.RowKit
theorem own:ownKnob Tryz.prog.godebug=none:=by kernel_rfl
theorem laidOut:laidOutB Tryz.prog=true:=by kernel_rfl
theorem contract(H:Type)(enc:TypeId×Value->H)(W:World)(base:Nat)(args:Array Value)(ds gs:List (DataW H))(before:List MemPlace)(hval:∀(j:Nat)t v,Tryz.f4.params[j]? = some t->args[j]? = some v->Value.okWide Tryz.prog W .any base t v)(hW:DataW.Whole enc Tryz.prog Tryz.f4.params.toList Rows.judgePeopleSpecSpec.vars false W args.toList ds gs before)(hcond:Rows.uptoSmall H (ds++gs)=true)(hL:laidMetH Tryz.prog Rows.judgePeopleSpecUptoRow.laid W):
    Calls Tryz.prog 4 args W λe W'=>∃v,e=.returned v/\Rows.judgePeopleSpecSpec.post enc Tryz.prog Tryz.f4 false true false false W args v W':=by
  have hW':=hW
  obtain⟨p,q,hA0,hV,rfl,hfz,hnd⟩:=hW
  have hA:DataW.TrodAll enc Tryz.prog W 0 (λ_=>true) true Tryz.f4.params.toList args.toList ds p:=hA0
  rw[Tryz.params4]at hA hval
  obtain⟨v0,vs0,d0,ds0,p0,z0,hargs,rfl,rfl,h0,t0⟩:=trodAll_cons hA
  obtain⟨v1,vs1,d1,ds1,p1,z1,rfl,rfl,rfl,h1,t1⟩:=trodAll_cons t0
  obtain⟨v2,vs2,d2,ds2,p2,z2,rfl,rfl,rfl,h2,t2⟩:=trodAll_cons t1
  obtain⟨v3,vs3,d3,ds3,p3,z3,rfl,rfl,rfl,h3,t3⟩:=trodAll_cons t2
  obtain⟨v4,vs4,d4,ds4,p4,z4,rfl,rfl,rfl,h4,t4⟩:=trodAll_cons t3
  obtain⟨rfl,rfl,rfl⟩:=trodAll_nil t4
  obtain rfl:args=#[v0,v1,v2,v3,v4]:=by cases args;simp_all
  obtain⟨rfl,rfl⟩:=trodVars_none hV
  clear hA0 hA
  have h0k:=h0
  have h1k:=h1
  have h2k:=h2
  have h3k:=h3
  have h4k:=h4
  simp only[List.append_nil]at hW' hcond
  have hB:Rows.uptoBulkAll [d0,d1,d2,d3,d4]<=1048576:=of_decide_eq_true hcond
  obtain⟨a0,rfl,_⟩:=okWide_struct Tryz.underlying30 (hval 0 30 v0 rfl rfl)
  obtain⟨f0,g0⟩:=h0
  obtain⟨x0,⟨r0,e0,o0⟩,q0⟩:=Sg.opn_Register f0 _ _ _ g0
  obtain rfl:a0=(Sg.Register.cells x0 r0).toArray:=by
    apply Array.toList_inj.1;exact e0
  obtain⟨n1,rfl⟩:=okWide_int Tryz.underlying3 (hval 1 3 v1 rfl rfl)
  obtain⟨n2,rfl⟩:=okWide_int Tryz.underlying3 (hval 2 3 v2 rfl rfl)
  obtain⟨n3,rfl⟩:=okWide_int Tryz.underlying3 (hval 3 3 v3 rfl rfl)
  obtain⟨n4,rfl⟩:=okWide_int Tryz.underlying3 (hval 4 3 v4 rfl rfl)
  simp only[Rows.uptoBulkAll]at hB
  have z0b:=Sg.bulk_one d0
  have z1b:=Sg.bulk_one d1
  have z2b:=Sg.bulk_one d2
  have z3b:=Sg.bulk_one d3
  have z4b:=Sg.bulk_one d4
  have walk:=Sg.law30_JudgePeopleSpec_top (Sg.hOf W) (Sg.pre_hOf W) x0 r0 n1 n2 n3 n4 o0 (Sg.smR_of (by omega)) (Sg.kinds_of hL)
  rw[Sg.peopleSpec_true (Sg.smR_of (by omega))]at walk
  refine walk.mono λe W'⟨he,hb⟩=>?_
  subst he
  exact⟨_,rfl,Sg.post_below (pa:=p0++(p1++(p2++(p3++(p4++([])))))) (pv:=[]) hW' (λ_ _ _=>trodAll_cons_mk (shut_bool Tryz.underlying4 _) trodAll_mk0) (λsp hsp=>(trodAll_cons_mk (Sg.stays laidOut (by kernel_rfl) (by kernel_rfl) h0k hb hW'.lt (λx hx=>by simp[hx]) hsp) (trodAll_cons_mk (Sg.stays laidOut (by kernel_rfl) (by kernel_rfl) h1k hb hW'.lt (λx hx=>by simp[hx]) hsp) (trodAll_cons_mk (Sg.stays laidOut (by kernel_rfl) (by kernel_rfl) h2k hb hW'.lt (λx hx=>by simp[hx]) hsp) (trodAll_cons_mk (Sg.stays laidOut (by kernel_rfl) (by kernel_rfl) h3k hb hW'.lt (λx hx=>by simp[hx]) hsp) (trodAll_cons_mk (Sg.stays laidOut (by kernel_rfl) (by kernel_rfl) h4k hb hW'.lt (λx hx=>by simp[hx]) hsp) trodAll_mk0)))))) (λ_ _=>rfl) (by simp) hb (ok_one (by kernel_rfl) rfl (okWide_bool_mk Tryz.underlying4 _))⟩
end Go.Proofs.YtpplkjhgggjaoaaGreatDoor.judgePeopleSpec
