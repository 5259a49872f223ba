import Derived.Test.YtpplkjhgggjaoaaGreatDoorCards
import Derived.Test.YtpplkjhgggjaoaaGreatDoorTie
import Derived.ProofKit
import Derived.Deep.DeepHandedRow
import Derived.Test.YtpplkjhgggjaoaaGreatDoorW11
/- A part of the proof of JudgeExactly. -/
set_option linter.unusedVariables false
set_option linter.unusedSimpArgs false
set_option maxRecDepth 100000
open Go.Sg.Rp renaming int→qC,aO→vG
open Go.Value renaming int→xC
open Go.Sg.Policy renaming cells→kD,mk→xM,ok→zN
open Go.Sg.SlC renaming nil→vE
open Go.Sg.Expr renaming mk→qG
open Go.Sg.Register renaming ok→zL,cells→xL
open Go.Sg.Document renaming cells→xN
open Go.Sg.HF renaming le_refl→qP
open Go.Sg.Holder renaming aj→aAV,rp→aBt
open Go.Sg.Budget renaming aj→aBu

namespace Go.Sg
open Go.Proofs Go.Proofs.Tryz
set_option maxHeartbeats 2000000
theorem ET(h:HF)(aL:Register)(fx:dD)(signed:List Int)(bZ:Option Addr)(bY:Nat)(u:List Use)(qU:Option Addr)(qI:Nat)(doc:Int)(aK:Int)(known:Int)(iW:zL h aL fx)(hsigned:SlC qC h bZ bY signed)(hu:SlC Use.rp h qU qI u)(hsm:smR aL):Ret prog 19 [.agg (xL aL fx).toArray,.slice bZ signed.length bY,.slice qU u.length qI,I doc,I aK,I known] h (.bool (gm aL signed u doc aK known)):=by
 refine sT func19 U ntmps19 U λX hM hX hF=>?_
 have hs0:gm aL signed u doc aK known=gm aL signed u doc aK known:=rfl
 refine sr (cy (λb1=>qO 4 U (cK 0 ty30 U U U (ai call10 (HH _ _ _ iW) U (av (bj 4 [15,16,17,18,19] 15 19 (decide ((signed.length:Int)<=40)) U (λc1 hk1=>?_) (λe=>?_)))))))
 .exact qL 4 [] U (hk1 _ U)
 refine av (bj 4 [20,21,22,23,24] 20 24 (decide ((u.length:Int)<=30)) U (λc2 hk2=>?_) (λe=>?_))
 .exact qL 4 [] U (hk2 _ U)
 refine av (bj 9 [25,26,27,28,29,30,31,32,33,34] 25 34 ((nf aL signed u doc aK known)==0) U (λc3 hk3=>?_) (λe=>?_))
 .exact cK 0 ty30 U U U (qO 5 U (ai call61 (Eo _ _ _ _ _ _ _ _ _ doc aK known iW hsigned hu ob) U (qO 2 U (hk3 _ U))))
 exact an (nretP [.bool ((((lq aL)&&decide ((signed.length:Int)<=40))&&decide ((u.length:Int)<=30))&&((nf aL signed u doc aK known)==0))] (cs hs0))
theorem Gg(h:HF)(aL:Register)(fx:dD)(signed:List Int)(bZ:Option Addr)(bY:Nat)(d:Document)(DE:ke)(og:Int)(aK:Int)(iW:zL h aL fx)(hsigned:SlC qC h bZ bY signed)(hd:Document.ok h d DE)(hln:aL.Docs.length<20)(hxi:0<=og/\og<(signed.length:Int)):Ret prog 21 [.agg (xL aL fx).toArray,.slice bZ signed.length bY,.agg (xN d DE).toArray,I og,I aK] h (.tuple #[.bool ((bQ aL signed d og aK).1),.bool ((bQ aL signed d og aK).2.1),.bool ((bQ aL signed d og aK).2.2)]):=by
 refine sT func21 U ntmps21 U λX hM hX hF=>?_
 have hs0:bQ aL signed d og aK=bQ aL signed d og aK:=rfl
 refine sr (cy (λb1=>cy (λb2=>qL 11 [0] U (bj 5 [31,32,33,34,35,36] 31 36 (decide (aK<d.Until)) U (λc1 hk1=>?_) (λe=>?_)))))
 .exact qL 5 [0] U (hk1 _ U)
 refine av (bj 14 [37,38,39,40,41,42,43,44,45,46,47,48,49,50,51] 37 51 (decide ((nthI signed og)<0)||decide (aK<(nthI signed og))) U (λc2 hk2=>?_) (λe=>?_))
 .refine qO 2 U ?_
  have ho1:0<=(og:Int)/\(og:Int)<((signed).length:Int):=ob
  refine aC (na (enc:=λy=>[I y]) ei dY ty3 hsigned.1 ho1 (cN ho1) U U U (λq1 A1=>dh ty3 A1 U (qO 2 U (bV 7 [43,44,45,46,47,48,49,50] 43 50 (decide (aK<(nthI signed og))) U (λc3 hk3=>?_) (λe=>?_)))))
  .refine qO 2 U ?_
   have ho2:0<=(og:Int)/\(og:Int)<((signed).length:Int):=ob
   exact aC (na (enc:=λy=>[I y]) ei dY ty3 hsigned.1 ho2 (cN ho2) U U U (λq2 A2=>dh ty3 A2 U (qO 3 U (hk3 _ U))))
  exact eN U (hk2 _ U)
 refine qL 10 [1] U ?_
 let z1:Nat×Obj:=(b1,O (xL aL fx) 30)
 let z2:Nat×Obj:=(b2,O (xN d DE) 51)
 refine lp1 aL.Docs (λi w=>[(1,.slice bZ signed.length bY),(4,I aK),(5,Q b1),(7,Q b2),(10,.bool w),(53,.slice fx.Cy aL.Docs.length fx.Cw),(54,I (aL.Docs.length:Int)),(55,I (i:Int))]) ([z2,z1]) (λs1 i w=>(bQ.L1 aL signed d aK (bQ.K1 aL signed d aK)) s1 w) ((decide (d.At<=aK)&&decide (aK<d.Until))&&(decide ((nthI signed og)<0)||decide (aK<(nthI signed og)))) iW.Docs.1.1 hs0 ?_ ?_
 .rintro i1 rm fp hs1 e
  refine qK 6 [1] U (aC (cS call52 (ny _ _ _ _ _ _ _ aK iW.Docs hsigned ob) U (λv1 h1 hle1 hp1=>?_)))
  obtain⟨rb1,rc1,rfl,sl1⟩:=hp1
  refine qL 18 [0] U ?_
  refine lp1 d.Needs (λi w=>[(10,.bool rm),(11,.bool w),(20,.slice rb1 (((aZ aL.Docs signed aK).1).length) rc1),(21,I ((aZ aL.Docs signed aK).2)),(102,.slice DE.yv d.Needs.length DE.yu),(103,I (d.Needs.length:Int)),(104,I (i:Int))]) ([z2,z1]) (λs4 i w=>(bQ.L4 aL signed aK (bQ.K4 aL signed aK rm)) s4 w) true ((hd.Needs.mono vG hle1).1.1) hs1 ?_ ?_
  .rintro i4 vX xn hs2 e
   refine qT 10 U ?_
   have hs3:bQ aL signed d og aK=(rm,vX,((aZ aL.Docs signed aK).2==0)):=hs2
   exact nretP [.bool rm,.bool vX,.bool ((aZ aL.Docs signed aK).2==0)] (congrArg (λr:(Bool×Bool×Bool)=>(.tuple #[.bool r.1,.bool r.2.1,.bool r.2.2]:Value)) hs3.symm)
  rintro i4 vX y4 rz4 hd4 KG Qa E1 Rm hs4 hx4 ag1 e
  refine sr (tO KG U (qO 8 U (aC (iF (λy=>[I y]) dY ty3 (hd.Needs.mono vG hle1).1 Qa U U U (λq8 A8=>dh ty3 A8 U (qL 13 [] U ?_))))))
  refine lp1 ((aZ aL.Docs signed aK).1) (λi w=>[(10,.bool rm),(11,.bool vX),(20,.slice rb1 (((aZ aL.Docs signed aK).1).length) rc1),(21,I ((aZ aL.Docs signed aK).2)),(23,I y4),(24,.bool w),(102,.slice DE.yv d.Needs.length DE.yu),(103,I (d.Needs.length:Int)),(104,I (i4:Int)),(108,.slice rb1 (((aZ aL.Docs signed aK).1).length) rc1),(109,I (((aZ aL.Docs signed aK).1).length:Int)),(110,I (i:Int))]) ([z2,z1]) (λs6 i w=>(bQ.L6 y4 (λzg6_24=>(bQ.L4 aL signed aK (bQ.K4 aL signed aK rm) rz4 (vX&&zg6_24)))) s6 w) false sl1.1.1 hs4 ?_ ?_
  .rintro i6 C8 E3 hs5 e
   refine qT 3 U (bj 2 [122,123,124] 122 124 C8 U (λc8 hk4=>?_) (λe=>?_))
   .exact av (eN U (hk4 _ U))
   exact an (qT 2 U (oi i4 U (qO 2 U (ag1 (vX&&C8) hs5))))
  rintro i6 C8 y6 rz6 hd6 Ou Jy P9 Q0 hs6 hx6 ag2 e
  refine sr (tO Ou U (qO 8 U (aC (iF (λy=>[I y]) dY ty3 sl1.1 Jy U U U (λq10 A10=>dh ty3 A10 U (qO 5 U (bV 4 [115,116,117,118,119] 115 119 (y6==y4) U (λc9 hk5=>?_) (λe=>?_))))))))
  .exact av (qO 3 U (hk5 _ U))
  exact an (qT 2 U (oi i6 U (qO 2 U (ag2 (C8||(y6==y4)) hs6))))
 rintro i1 rm y1 rz1 hd1 dj aY er gr hs7 hx1 ag3 e
 refine sr (tO dj U (qO 8 U (aC (iR nA ty51 iW.Docs.1 aY U U U (λ_ _ _ e=>e) (λq11 r2 A11 ok2=>dz ty51 A11 U U (ba zc51 (λb4=>aQ 0 ty51 U U U U U U (qL 9 [2,0] U (ai call84 (uF _ _ _ _ _ _ _ y1.No aK iW.Docs hsigned ob) U (qO 14 U (ae hs7 U (λc10 hs8=>?_) (λc10 hs9=>?_))))))))))))
 .refine qT 6 U ?_
  have hs10:bQ aL signed d og aK=(false,false,false):=hs8
  exact nretP [.bool false,.bool false,.bool false] (congrArg (λr:(Bool×Bool×Bool)=>(.tuple #[.bool r.1,.bool r.2.1,.bool r.2.2]:Value)) hs10.symm)
 refine qK 8 [0] U ?_
 refine lp1 y1.Revokes (λi w=>[(1,.slice bZ signed.length bY),(4,I aK),(5,Q b1),(7,Q b2),(10,.bool w),(15,I ((cU aL.Docs signed y1.No aK).1)),(53,.slice fx.Cy aL.Docs.length fx.Cw),(54,I (aL.Docs.length:Int)),(55,I (i1:Int)),(73,.slice r2.pN y1.Revokes.length r2.pM),(74,I (y1.Revokes.length:Int)),(75,I (i:Int))]) ([(b4,O (xN y1 r2) 51),z2,z1]) (λs3 i w=>(bQ.L3 aL signed d aK y1 (λzg3_10=>(bQ.L1 aL signed d aK (bQ.K1 aL signed d aK) rz1 zg3_10))) s3 w) rm ok2.Revokes.1.1 hs9 ?_ ?_
 .rintro i3 Fb Jx hs11 e
  exact eF (bE (oi i1 U (qO 2 U (bz (L':=[z2,z1]) js (ag3 Fb hs11)))))
 rintro i3 Fb y3 rz3 hd3 Cl C6 C5 PJ hs12 hx3 ag4 e
 refine sr (tO Cl U (qO 8 U (aC (iF (λy=>[I y]) dY ty3 ok2.Revokes.1 C6 U U U (λq13 A13=>dh ty3 A13 U (qL 9 [1] U (bj 3 [83,84,85,86] 83 86 ((cU aL.Docs signed y1.No aK).1 != 1) U (λc11 hk6=>?_) (λe=>?_))))))))
 .exact av (qO 2 U (hk6 _ U))
 refine av (bj 3 [87,88,89,90] 87 90 ((cU aL.Docs signed y1.No aK).1 != 4) U (λc12 hk7=>?_) (λe=>?_))
 .exact av (qO 2 U (hk7 _ U))
 refine aJ (ae hs12 U (λc13 hs13=>?_) (λc13 hs14=>?_))
 .exact bE (qO 4 U (oi i3 U (qO 2 U (ag4 false hs13))))
 exact aN (qT 2 U (oi i3 U (qO 2 U (ag4 Fb hs14))))
theorem Dx(h:HF)(aL:Register)(fx:dD)(no:Int)(iW:zL h aL fx):j1 prog 23 [.agg (xL aL fx).toArray,I no] h (λv h'=>∃(rr0:eA),v=.tuple #[.agg (kD ((bA aL no).1) rr0).toArray,.bool ((bA aL no).2)]/\zN h' ((bA aL no).1) rr0):=by
 refine cJ func23 U ntmps23 U λX hM hX=>?_
 have hs0:bA aL no=bA aL no:=rfl
 refine sr (cy (λb1=>ba zc64 (λb2=>qL 10 [1] U ?_)))
 let z1:Nat×Obj:=(b2,O [.string (⟨#[]⟩:ByteArray),.slice none 0 0,.slice none 0 0,.slice none 0 0,I 0,I 0,I 0,.string (⟨#[]⟩:ByteArray),.slice none 0 0,I 0] 64)
 refine lp0 aL.Versions (λi=>[(1,I no),(4,Q b2),(9,.slice fx.kY aL.Versions.length fx.kX),(10,I (aL.Versions.length:Int)),(11,I (i:Int))]) ([z1,(b1,O (xL aL fx) 30)]) (λs1 i=>(bA.L1 no (bA.K1)) s1) iW.Versions.1.1 hs0 ?_ ?_
 .rintro i1 fp hs1 e
  refine sr (cK 0 ty64 U U U (aQ 0 ty64 U U U U U U (an ?_)))
  have hs2:bA aL no=((xM (⟨#[]⟩:ByteArray) ([]) ([]) ([]) (qG 0 0 0 (⟨#[]⟩:ByteArray) ([])) 0),false):=hs1
  exact jx [.agg (List.toArray [.string (⟨#[]⟩:ByteArray),.slice none 0 0,.slice none 0 0,.slice none 0 0,I 0,I 0,I 0,.string (⟨#[]⟩:ByteArray),.slice none 0 0,I 0]),.bool false] func23 U ⟨⟨0,_,_,_,_,U,U,.inl ⟨ty64,U⟩⟩,U,trivial⟩ ⟨(eA.mk none 0 none 0 none 0 (cL.mk none 0)),congrArg (λr:(Policy×Bool)=>(.tuple #[.agg (kD r.1 (eA.mk none 0 none 0 none 0 (cL.mk none 0))).toArray,.bool r.2]:Value)) hs2.symm,(by rw[hs2];exact(show zN h (xM (⟨#[]⟩:ByteArray) ([]) ([]) ([]) (qG 0 0 0 (⟨#[]⟩:ByteArray) ([])) 0) (eA.mk none 0 none 0 none 0 (cL.mk none 0))from⟨vE,vE,vE,(show Expr.ok h (qG 0 0 0 (⟨#[]⟩:ByteArray) ([])) (cL.mk none 0)from Expr.ok.of vE)⟩))⟩
 rintro i1 y1 rz1 hd1 dj aY er gr hs3 hx1 ag1 e
 refine sr (tO dj U (qO 8 U (aC (iR yz ty105 iW.Versions.1 aY U U U (λ_ _ _ e=>e) (λq2 r2 A2 ok2=>dz ty105 A2 U U (ba zc105 (λb4=>aQ 0 ty105 U U U U U U (qL 8 [0] U (ae hs3 U (λc2 hs4=>?_) (λc2 hs5=>?_))))))))))
 .refine qK 3 [] U (cK 0 ty64 U U U (aQ 1 ty64 U U U U U U (an ?_)))
  have hs6:bA aL no=(y1.Policy,true):=hs4
  exact jx [.agg (kD y1.Policy r2.Policy).toArray,.bool true] func23 U ⟨⟨1,_,_,_,_,U,U,.inl ⟨ty64,U⟩⟩,U,trivial⟩ ⟨r2.Policy,congrArg (λr:(Policy×Bool)=>(.tuple #[.agg (kD r.1 r2.Policy).toArray,.bool r.2]:Value)) hs6.symm,(by rw[hs6];exact ok2.Policy)⟩
 exact aN (qT 2 U (oi i1 U (qO 2 U (bz (L':=[z1,(b1,O (xL aL fx) 30)]) js (ag1 hs5)))))
end Go.Sg

namespace Go.Sg
open Go.Proofs Go.Proofs.Tryz
set_option maxHeartbeats 2000000
theorem law30_JudgeExactly_top{w:World}(h:HF)(hp:Pre h [] w)(aL:Register)(fx:dD)(signed:List Int)(bZ:Option Addr)(bY:Nat)(u:List Use)(qU:Option Addr)(qI:Nat)(doc:Int)(aK:Int)(known:Int)(iW:zL h aL fx)(hsigned:SlC qC h bZ bY signed)(hu:SlC Use.rp h qU qI u)(hsm:smR aL)(hk:Kinds h):Calls prog 5 [.agg (xL aL fx).toArray,.slice bZ signed.length bY,.slice qU u.length qI,I doc,I aK,I known].toArray w λe w'=>e=.returned (.bool (aT aL signed u doc aK known))/\RowKit.Below w.heap.size w w':=by
 refine J8 hp wF U ntmps5 U λX hM hX=>?_
 have hs0:aT aL signed u doc aK known=aT aL signed u doc aK known:=rfl
 refine sr (cy (λb1=>qO 5 U (ai call9 (Ge h  hk) U (qO 2 U (ae hs0 U (λc1 hs1=>?_) (λc1 hs2=>?_))))))
 .exact sr (an (kj [.bool false] wF U hX rd (cs hs1)))
 .refine qT 4 U (cK 0 ty30 U U U (qO 5 U (ai call19 (ET _ _ _ _ _ _ _ _ _ doc aK known iW hsigned hu ob) U (qO 2 U (ae hs2 U (λc2 hs4=>?_) (λc2 hs5=>?_))))))
  .exact sr (an (kj [.bool true] wF U hX rd (cs hs4)))
  .refine qT 3 U (cK 0 ty30 U U U (qO 5 U (aC (cS Is (me _ _ _ _ _ _ _ _ _ doc aK known iW hsigned hu ob (show aL.Docs.length<20 from(CK (by simpa using(by assumption:(!(gm aL signed u doc aK known))=false))).1) hk) U (λv1 h1 hle1 hp1=>?_)))))
   obtain⟨rr1,rfl,ok1⟩:=hp1
   refine qO 3 U (ba zc36 (λb2=>aQ 0 ty36 U U U U U U (qO 4 U (cK 1 ty30 U U U (av (ai call20 (AP _ _ _ doc (iW.mono hle1)) U (qL 7 [1] U ?_)))))))
   have ho1:0<=((aA aL doc):Int)/\((aA aL doc):Int)<((aL.Docs).length:Int):=(by have hq:=(GS hsm (by simpa using(by assumption:(!(gm aL signed u doc aK known))=false)));omega)
   refine aC (si nA ty51 (iW.Docs.mono Document.aj hle1).1 ho1 (cN ho1) U U U (λ_ _ _ e=>e) (λq1 r1 A1 ok2=>dz ty51 A1 U U (ba zc51 (λb3=>aQ 0 ty51 U U U U U U (qO 3 U (cK 2 ty30 U U U (av (cK 0 ty51 U U U (qO 2 U (ai call21 (Gg _ _ _ _ _ _ _ _ (aA aL doc) aK (iW.mono hle1) (hsigned.mono vG hle1) ok2 (show aL.Docs.length<20 from(CK (by simpa using(by assumption:(!(gm aL signed u doc aK known))=false))).1) (by have hq:=(GS hsm (by simpa using(by assumption:(!(gm aL signed u doc aK known))=false)));omega)) U (qO 14 U (bV 3 [88,89,90,91] 88 91 (!((bQ aL signed (nthI aL.Docs (aA aL doc)) (aA aL doc) aK).2.2)) U (λc3 hk1=>?_) (λe=>?_)))))))))))))
   .exact av (qO 2 U (hk1 _ U))
   refine aJ (ae hs5 U (λc4 hs7=>?_) (λc4 hs8=>?_))
   .exact sr (an (kj [.bool false] wF U hX rd (cs hs7)))
   .refine qT 7 U (bV 3 [94,95,96,97] 94 97 (!((bQ aL signed (nthI aL.Docs (aA aL doc)) (aA aL doc) aK).2.1)) U (λc5 hk2=>?_) (λe=>?_))
    .exact av (qO 2 U (hk2 _ U))
    refine aJ (ae hs8 U (λc6 hs10=>?_) (λc6 hs11=>?_))
    .refine qT 10 U (ae hs10 U (λc7 hs12=>?_) (λc7 hs13=>?_))
     .refine qK 10 [1] U (bj 9 [104,105,106,107,108,109,110,111,112,113] 104 113 ((((((aG aL signed u doc aK known).1).Versions.length:Nat):Int)+((((aG aL signed u doc aK known).1).Who.length:Nat):Int))==0) U (λc8 hk3=>?_) (λe=>?_))
      .exact qL 6 [1,1] U (iQ (v':=I (((((aG aL signed u doc aK known).1).Versions.length:Nat):Int)+((((aG aL signed u doc aK known).1).Who.length:Nat):Int))) U (jv (by have hq:=Cr (signed:=signed) (u:=u) (doc:=doc) (t:=aK) (known:=known) hsm ob;omega)) (qO 2 U (hk3 _ U)))
      refine av (bj 4 [114,115,116,117,118] 114 118 (((aG aL signed u doc aK known).1).Budget==(-1)) U (λc9 hk4=>?_) (λe=>?_))
      .exact qL 4 [1] U (hk4 _ U)
      exact an (kj [.bool (((((aG aL signed u doc aK known).1).State==1)&&((((((aG aL signed u doc aK known).1).Versions.length:Nat):Int)+((((aG aL signed u doc aK known).1).Who.length:Nat):Int))==0))&&(((aG aL signed u doc aK known).1).Budget==(-1)))] wF U hX rd (cs hs12))
     .refine qK 8 [1] U (bj 9 [104,105,106,107,108,109,110,111,112,113] 104 113 ((((((aG aL signed u doc aK known).1).Versions.length:Nat):Int)+((((aG aL signed u doc aK known).1).Who.length:Nat):Int))==0) U (λc10 hk5=>?_) (λe=>?_))
      .exact qL 6 [1,1] U (iQ (v':=I (((((aG aL signed u doc aK known).1).Versions.length:Nat):Int)+((((aG aL signed u doc aK known).1).Who.length:Nat):Int))) U (jv (by have hq:=Cr (signed:=signed) (u:=u) (doc:=doc) (t:=aK) (known:=known) hsm ob;omega)) (qO 2 U (hk5 _ U)))
      refine av (bj 4 [114,115,116,117,118] 114 118 (((aG aL signed u doc aK known).1).Budget==(-1)) U (λc11 hk6=>?_) (λe=>?_))
      .exact qL 4 [1] U (hk6 _ U)
      exact an (kj [.bool (((((aG aL signed u doc aK known).1).State==2)&&((((((aG aL signed u doc aK known).1).Versions.length:Nat):Int)+((((aG aL signed u doc aK known).1).Who.length:Nat):Int))==0))&&(((aG aL signed u doc aK known).1).Budget==(-1)))] wF U hX rd (cs hs13))
    .refine qK 9 [2,0] U (aC (cS call22 (rU _ _ _ _ ((nthI aL.Docs (aA aL doc)).At) aK known (iW.Versions.mono Version.aj hle1) hsm.vers (hk.mono hle1)) U (λv2 h2 hle2 hp2=>?_)))
     obtain⟨rb1,rc1,rfl,sl1⟩:=hp2
     refine qO 14 U (bV 6 [132,133,134,135,136,137,138] 132 138 (!(fH ((aD aL.Versions ((nthI aL.Docs (aA aL doc)).At) aK known).1) (((aG aL signed u doc aK known).1).Versions))) U (λc12 hk7=>?_) (λe=>?_))
     .exact qL 3 [1] U (ai call18 (tg _ _ _ _ _ _ _ sl1 (ok1.Versions.mono vG hle2)) U (qO 2 U (hk7 _ U)))
     refine aJ (ae hs11 U (λc13 hs16=>?_) (λc13 hs17=>?_))
     .exact sr (an (kj [.bool false] wF U hX rd (cs hs16)))
     .refine qT 3 U (aC (nC (λb4=>qL 13 [] U ?_)))
      let z2:Nat×Obj:=(b2,O (gy.cells ((aG aL signed u doc aK known).1) rr1) 36)
      let z3:Nat×Obj:=(b3,O (xN (nthI aL.Docs (aA aL doc)) r1) 51)
      let z5:Nat×Obj:=(b1,O (xL aL fx) 30)
      refine lp2 ((aD aL.Versions ((nthI aL.Docs (aA aL doc)).At) aK known).1) (λi w=>[(2,.slice qU u.length qI),(3,I doc),(4,I aK),(5,I known),(6,Q b1),(13,Q b2),(16,Q b3),(22,I ((aD aL.Versions ((nthI aL.Docs (aA aL doc)).At) aK known).2.1)),(24,.map (some b4)),(25,.slice w.2.1 w.1.length w.2.2.1),(140,.slice rb1 (((aD aL.Versions ((nthI aL.Docs (aA aL doc)).At) aK known).1).length) rc1),(141,I ((((aD aL.Versions ((nthI aL.Docs (aA aL doc)).At) aK known).1).length:Nat):Int)),(142,I (i:Int))]) (λw=>w.2.2.2.2.2.2) (λw=>[(b4,w.2.2.2.2.2.1),z3,z2,z5]++(w.2.2.2.1)) (λi w=>dG Rp.bool 4 w.2.2.2.2.2.2 w.1 w.2.1 w.2.2.1 w.2.2.2.1/\w.1.length<=0+i/\ja (xC .i64) nz w.2.2.2.2.2.2 w.2.2.2.2.2.1 w.2.2.2.2.1/\HF.le h2 w.2.2.2.2.2.2) (λs1 i w=>(aT.L1 aL doc aK known (aT.K1 aL signed u doc aK known)) s1 w.1 w.2.2.2.2.1) ([],none,0,[],[],.map #[] 0,h2) sl1.1.1 hs17 ⟨dG.nil,lo,(ja.nil (enc:=(xC .i64)) (V:=nz) (h:=h2)),(qP h2)⟩ ?_ ?_
      .rintro i1 ⟨qt,KP,KO,ul,dC,kl,hh1⟩ fp hs19 ⟨Fm,KN,mJ,hl1⟩ e
       try dsimp only at Fm KN mJ hl1
       refine qT 4 U (aC (fw (N8 0 Gz U U mJ) (qL 5 [2] U (ae hs19 U (λc14 hs20=>?_) (λc14 hs21=>?_)))))
       .exact sr (an (kj [.bool false] wF U hX rd (cs hs20)))
       .refine qK 9 [2] U ?_
        refine lp0 (((aG aL signed u doc aK known).1).Who) (λi=>[(2,.slice qU u.length qI),(4,I aK),(5,I known),(6,Q b1),(13,Q b2),(16,Q b3),(22,I ((aD aL.Versions ((nthI aL.Docs (aA aL doc)).At) aK known).2.1)),(24,.map (some b4)),(25,.slice KP qt.length KO),(225,.slice rr1.FP (((aG aL signed u doc aK known).1).Who.length) rr1.FO),(226,I ((((aG aL signed u doc aK known).1).Who.length:Nat):Int)),(227,I (i:Int))]) ([(b4,kl),z3,z2,z5]++(ul)) (λs6 i=>(aT.L6 aL signed u doc aK known dC (aT.K6 aL signed u doc aK known qt)) s6 i) ((ok1.Who.mono vG (hle2.t hl1)).1.1) hs21 ?_ ?_
        .rintro i6 xn hs23 e
         refine qT 10 U (ae hs23 U (λc15 hs24=>?_) (λc15 hs25=>?_))
         .refine qT 4 U (m7 Rp.nM ([(b4,kl),z3,z2,z5]) ul ([]) ap hM Fm (λh5 hle5 sl3=>ai call26 (rV _ ((aD aL.Versions ((nthI aL.Docs (aA aL doc)).At) aK known).2.1) _ _ _ sl3 (by have hq:=((exCtx (doc:=doc) (t:=aK) (known:=known) hsm ob ob)).len;omega)) U (qO 12 U (ae hs24 U (λc16 hs26=>?_) (λc16 hs27=>?_)))))
          .exact sr (an (kj [.bool false] wF U hX rd (cs hs26)))
          .refine qK 16 [3,1,1] U (ai Kj (oh _ _ _ _ _ _ _ ((nthI aL.Docs (aA aL doc)).Kind) ((nthI aL.Docs (aA aL doc)).Value) aK known (iW.Budgets.mono aBu (((hle1.t hle2).t hl1).t hle5)) (hu.mono Use.aj (((hle1.t hle2).t hl1).t hle5)) hsm.2.2.2.2.1) U (qO 16 U (ae hs27 U (λc17 hs29=>?_) (λc17 hs30=>?_))))
           .exact sr (an (kj [.bool false] wF U hX rd (cs hs29)))
           .refine qT 6 U (ae hs30 U (λc18 hs32=>?_) (λc18 hs33=>?_))
            .refine qK 6 [2] U (bj 4 [285,286,287,288,289] 285 289 (((aG aL signed u doc aK known).1).Budget==(-1)) U (λc19 hk8=>?_) (λe=>?_))
             .exact qL 4 [2] U (hk8 _ U)
             exact an (kj [.bool ((((aG aL signed u doc aK known).1).State==3)&&(((aG aL signed u doc aK known).1).Budget==(-1)))] wF U hX rd (cs hs32))
            .refine qT 6 U (ae hs33 U (λc20 hs35=>?_) (λc20 hs36=>?_))
             .refine qK 6 [2] U (bj 5 [296,297,298,299,300,301] 296 301 (((aG aL signed u doc aK known).1).Budget==(bD aL.Budgets u ((nthI aL.Docs (aA aL doc)).Kind) ((nthI aL.Docs (aA aL doc)).Value) aK known).1) U (λc21 hk9=>?_) (λe=>?_))
              .exact qL 5 [2] U (hk9 _ U)
              exact an (kj [.bool ((((aG aL signed u doc aK known).1).State==4)&&(((aG aL signed u doc aK known).1).Budget==(bD aL.Budgets u ((nthI aL.Docs (aA aL doc)).Kind) ((nthI aL.Docs (aA aL doc)).Value) aK known).1))] wF U hX rd (cs hs35))
             .refine qK 8 [2] U (bj 4 [305,306,307,308,309] 305 309 (((aG aL signed u doc aK known).1).Budget==(-1)) U (λc22 hk10=>?_) (λe=>?_))
              .exact qL 4 [2] U (hk10 _ U)
              exact an (kj [.bool ((((aG aL signed u doc aK known).1).State==0)&&(((aG aL signed u doc aK known).1).Budget==(-1)))] wF U hX rd (cs hs36))
         .refine qK 12 [3,1,1] U (ai Kj (oh _ _ _ _ _ _ _ ((nthI aL.Docs (aA aL doc)).Kind) ((nthI aL.Docs (aA aL doc)).Value) aK known (iW.Budgets.mono aBu ((hle1.t hle2).t hl1)) (hu.mono Use.aj ((hle1.t hle2).t hl1)) hsm.2.2.2.2.1) U (qO 16 U (ae hs25 U (λc23 hs39=>?_) (λc23 hs40=>?_))))
          .exact sr (an (kj [.bool false] wF U hX rd (cs hs39)))
          .refine qK 13 [2] U (bj 4 [285,286,287,288,289] 285 289 (((aG aL signed u doc aK known).1).Budget==(-1)) U (λc24 hk11=>?_) (λe=>?_))
           .exact qL 4 [2] U (hk11 _ U)
           exact an (kj [.bool ((((aG aL signed u doc aK known).1).State==3)&&(((aG aL signed u doc aK known).1).Budget==(-1)))] wF U hX rd (cs hs40))
        .rintro i6 y6 rz6 hd6 Ou Jy P9 Q0 hs43 hx6 ag1 e
         refine sr (tO Ou U (qO 9 U (aC (iF (λy=>[I y]) dY ty3 (ok1.Who.mono vG (hle2.t hl1)).1 Jy U U U (λq5 A5=>dh ty3 A5 U (qO 7 U (aC (oN 0 (k:=y6) Gz (fC m6) U mJ (e8 zv4) (show nz _ (.bool false) false from U) U U (λv6 hv2=>?_)))))))))
         obtain rfl:=hv2
         refine qO 2 U (bV 13 [236,237,238,239,240,241,242,243,244,245,246,247,248,249] 236 249 (decide (0<(i6:Int))&&decide (y6<=(nthI (((aG aL signed u doc aK known).1).Who) ((i6:Int)-1)))) U (λc25 hk12=>?_) (λe=>?_))
         .refine qO 3 U (bj 9 [239,240,241,242,243,244,245,246,247,248] 239 248 (decide (y6<=(nthI (((aG aL signed u doc aK known).1).Who) ((i6:Int)-1)))) U (λc26 hk13=>?_) (λe=>?_))
          .refine qL 3 [2] U (iQ (v':=I ((i6:Int)-1)) U (jv (by have hq:=Cr (signed:=signed) (u:=u) (doc:=doc) (t:=aK) (known:=known) hsm ob;omega)) ?_)
           have ho3:0<=(((i6:Int)-1):Int)/\(((i6:Int)-1):Int)<((((aG aL signed u doc aK known).1).Who).length:Int):=ob
           exact aC (na (enc:=λy=>[I y]) ei dY ty3 (ok1.Who.mono vG (hle2.t hl1)).1 ho3 (cN ho3) U U U (λq6 A6=>dh ty3 A6 U (qO 3 U (hk13 _ U))))
          exact eN U (hk12 _ U)
         refine aJ (ae hs43 U (λc27 hs44=>?_) (λc27 hs45=>?_))
         .exact sr (an (kj [.bool false] wF U hX rd (cs hs44)))
         .exact aN (qT 2 U (oi i6 U (qO 2 U (ag1 hs45))))
      .rintro i1 ⟨qt,KP,KO,ul,dC,kl,hh1⟩ y1 rz1 hd1 dj aY er gr hs47 ⟨Fm,KN,mJ,hl1⟩ hx1 ag2 e
       try dsimp only at Fm KN mJ hl1
       have hE_:=(exCtx (doc:=doc) (t:=aK) (known:=known) hsm ob ob)
       have hEl_:=hE_.len
       refine sr (tO dj U (qO 8 U (aC (iF (λy=>[I y]) dY ty3 (sl1.mono vG hl1).1 aY U U U (λq7 A7=>dh ty3 A7 U (qO 4 U (cK 3 ty30 U U U (av (aC (cS call23 (Dx _ _ _ y1 (iW.mono ((hle1.t hle2).t hl1))) U (λv7 h6 hle6 hp5=>?_)))))))))))
       obtain⟨rr4,rfl,ok4⟩:=hp5
       refine qO 3 U (ba zc64 (λb6=>aQ 0 ty64 U U U U U U (il (L':=[(b6,O (kD ((bA aL y1).1) rr4) 64),(b4,kl),z3,z2,z5]++(ul)) U (qO 4 U (cK 4 ty30 U U U (qO 4 U (aC (cS call16 (qZ _ _ _ doc y1 aK known (iW.mono (((hle1.t hle2).t hl1).t hle6)) ob (hE_.jdg.mem _ (fX hd1)) (hk.mono (((hle1.t hle2).t hl1).t hle6))) U (λv8 h7 hle7 hp6=>?_)))))))))
       obtain⟨rb3,rc3,rfl,sl4⟩:=hp6
       refine qO 12 U (bV 3 [163,164,165,166] 163 166 ((cz aL doc y1 aK known).2 != 0) U (λc28 hk14=>?_) (λe=>?_))
       .exact av (qO 2 U (hk14 _ U))
       refine aJ (ae hs47 U (λc29 hs48=>?_) (λc29 hs49=>?_))
       .exact sr (an (kj [.bool false] wF U hX rd (cs hs48)))
       .refine qK 13 [0] U ?_
        let z4:Nat×Obj:=(b6,O (kD ((bA aL y1).1) rr4) 64)
        refine lp2 (((bA aL y1).1).Offices) (λi w=>[(2,.slice qU u.length qI),(3,I doc),(4,I aK),(5,I known),(6,Q b1),(13,Q b2),(16,Q b3),(22,I ((aD aL.Versions ((nthI aL.Docs (aA aL doc)).At) aK known).2.1)),(24,.map (some b4)),(25,.slice KP qt.length KO),(28,Q b6),(30,.slice rb3 (((cz aL doc y1 aK known).1).length) rc3),(32,.slice w.2.1 w.1.length w.2.2.1),(140,.slice rb1 (((aD aL.Versions ((nthI aL.Docs (aA aL doc)).At) aK known).1).length) rc1),(141,I ((((aD aL.Versions ((nthI aL.Docs (aA aL doc)).At) aK known).1).length:Nat):Int)),(142,I (i1:Int)),(169,I ((((bA aL y1).1).Offices.length:Nat):Int)),(170,I (i:Int))]) (λw=>w.2.2.2.2) (λw=>[z4,(b4,kl),z3,z2,z5]++(ul++(w.2.2.2.1))) (λi w=>dG (Rp.sl aBt) 68 w.2.2.2.2 w.1 w.2.1 w.2.2.1 w.2.2.2.1/\w.1.length<=0+i/\HF.le h7 w.2.2.2.2/\(∀y∈w.1,y.length<=2000000)) (λs4 i w=>(aT.L4 aL aK known (λzg4_32=>((aT.L5 (λzg5_b4_0=>(aT.L1 aL doc aK known (aT.K1 aL signed u doc aK known) rz1 (qt++[((cB ((bA aL y1).1) ((nthI aL.Docs (aA aL doc)).Kind) ((nthI aL.Docs (aA aL doc)).Value) zg4_32 ((cz aL doc y1 aK known).1)).1&&((cB ((bA aL y1).1) ((nthI aL.Docs (aA aL doc)).Kind) ((nthI aL.Docs (aA aL doc)).Value) zg4_32 ((cz aL doc y1 aK known).1)).2==0))]) zg5_b4_0))) ((cz aL doc y1 aK known).1) dC))) s4 i w.1) ([],none,0,[],h7) ((ok4.Offices.mono Rp.hU hle7).1.1) hs49 ⟨dG.nil,lo,(qP h7),(λy hy=>(List.not_mem_nil hy).elim)⟩ ?_ ?_
        .rintro i4 ⟨pb,QJ,QI,OB,hh4⟩ E3 hs51 ⟨Fa,KL,hl4,u4_0⟩ e
         try dsimp only at Fa KL hl4 u4_0
         refine sr (cK 0 ty64 U U U (qL 6 [2,2] U (m7 (Rp.s9 aAV) ([z4,(b4,kl),z3,z2,z5]++(ul)) OB ([]) ap hM Fa (λh10 hle10 sl7=>il (L':=[z4,(b4,kl),z3,z2,z5]++(ul)) ap (ai call25 (sy _ _ _ ((nthI aL.Docs (aA aL doc)).Kind) ((nthI aL.Docs (aA aL doc)).Value) _ _ _ _ _ _ (ok4.mono ((hle7.t hl4).t hle10)) sl7 (sl4.mono vG (hl4.t hle10)) (hE_.pol _ (JL ob)).sm u4_0 (MY hsm _ _ _ _) (hk.mono ((((((hle1.t hle2).t hl1).t hle6).t hle7).t hl4).t hle10))) U (qO 11 U (bj 3 [202,203,204,205] 202 205 ((cB ((bA aL y1).1) ((nthI aL.Docs (aA aL doc)).Kind) ((nthI aL.Docs (aA aL doc)).Value) pb ((cz aL doc y1 aK known).1)).2==0) U (λc31 hk15=>?_) (λe=>?_))))))))
         .exact av (qO 2 U (hk15 _ U))
         refine aC (bK (cells:=[.bool ((cB ((bA aL y1).1) ((nthI aL.Docs (aA aL doc)).Kind) ((nthI aL.Docs (aA aL doc)).Value) pb ((cz aL doc y1 aK known).1)).1&&((cB ((bA aL y1).1) ((nthI aL.Docs (aA aL doc)).Kind) ((nthI aL.Docs (aA aL doc)).Value) pb ((cz aL doc y1 aK known).1)).2==0))]) rW ty4 zc4 U U kr (λb8=>?_))
         let z1:Nat×Obj:=(b8,O [.bool ((cB ((bA aL y1).1) ((nthI aL.Docs (aA aL doc)).Kind) ((nthI aL.Docs (aA aL doc)).Value) pb ((cz aL doc y1 aK known).1)).1&&((cB ((bA aL y1).1) ((nthI aL.Docs (aA aL doc)).Kind) ((nthI aL.Docs (aA aL doc)).Value) pb ((cz aL doc y1 aK known).1)).2==0))] 4)
         refine aC (dK Rp.Ct ([z1,z4,(b4,kl),z3,z2,z5]) ([]) (λG=>[z1,z4,(b4,kl),z3,z2,z5]++(G)) ap (λ_=>ap) rW ty4 zc4 U bytes4 (Fm.mono Rp.nM (((hle6.t hle7).t hl4).t hle10)) U U (fd 0 U (cE ((cB ((bA aL y1).1) ((nthI aL.Docs (aA aL doc)).Kind) ((nthI aL.Docs (aA aL doc)).Value) pb ((cz aL doc y1 aK known).1)).1&&((cB ((bA aL y1).1) ((nthI aL.Docs (aA aL doc)).Kind) ((nthI aL.Docs (aA aL doc)).Value) pb ((cz aL doc y1 aK known).1)).2==0)) U U)) lo lo (λob2 oc2 G2 gr2=>qL 8 [] U ?_))
         refine lp2 ((cz aL doc y1 aK known).1) (λi w=>[(2,.slice qU u.length qI),(3,I doc),(4,I aK),(5,I known),(6,Q b1),(13,Q b2),(16,Q b3),(22,I ((aD aL.Versions ((nthI aL.Docs (aA aL doc)).At) aK known).2.1)),(24,.map (some b4)),(25,.slice ob2 ((qt++[((cB ((bA aL y1).1) ((nthI aL.Docs (aA aL doc)).Kind) ((nthI aL.Docs (aA aL doc)).Value) pb ((cz aL doc y1 aK known).1)).1&&((cB ((bA aL y1).1) ((nthI aL.Docs (aA aL doc)).Kind) ((nthI aL.Docs (aA aL doc)).Value) pb ((cz aL doc y1 aK known).1)).2==0))]).length) oc2),(140,.slice rb1 (((aD aL.Versions ((nthI aL.Docs (aA aL doc)).At) aK known).1).length) rc1),(141,I ((((aD aL.Versions ((nthI aL.Docs (aA aL doc)).At) aK known).1).length:Nat):Int)),(142,I (i1:Int)),(208,.slice rb3 (((cz aL doc y1 aK known).1).length) rc3),(209,I (((cz aL doc y1 aK known).1).length:Int)),(210,I (i:Int))]) (λ_=>h10) (λw=>[z1,z4,(b4,w.2),z3,z2,z5]++(G2)) (λi w=>ja (xC .i64) nz h10 w.2 w.1) (λs5 i w=>(aT.L5 (λzg5_b4_0=>(aT.L1 aL doc aK known (aT.K1 aL signed u doc aK known) rz1 (qt++[((cB ((bA aL y1).1) ((nthI aL.Docs (aA aL doc)).Kind) ((nthI aL.Docs (aA aL doc)).Value) pb ((cz aL doc y1 aK known).1)).1&&((cB ((bA aL y1).1) ((nthI aL.Docs (aA aL doc)).Kind) ((nthI aL.Docs (aA aL doc)).Value) pb ((cz aL doc y1 aK known).1)).2==0))]) zg5_b4_0))) s5 w.1) (dC,kl) ((sl4.mono vG (hl4.t hle10)).1.1) hs51 (mJ.mono nz.mono (((hle6.t hle7).t hl4).t hle10)) ?_ ?_
         .rintro i5 ⟨vg,E7⟩ Jx hs52 xp e
          try dsimp only at xp
          exact eF (bE (oi i1 U (qO 2 U (bz (L':=[(b4,E7),z3,z2,z5]++(G2)) js (ag2 ((qt++[((cB ((bA aL y1).1) ((nthI aL.Docs (aA aL doc)).Kind) ((nthI aL.Docs (aA aL doc)).Value) pb ((cz aL doc y1 aK known).1)).1&&((cB ((bA aL y1).1) ((nthI aL.Docs (aA aL doc)).Kind) ((nthI aL.Docs (aA aL doc)).Value) pb ((cz aL doc y1 aK known).1)).2==0))]),ob2,oc2,G2,vg,E7,h10) hs52 ⟨gr2,lo,xp,((((hl1.t hle6).t hle7).t hl4).t hle10)⟩)))))
         .rintro i5 ⟨vg,E7⟩ y5 rz5 hd5 Rl QZ Rw RA hs53 xp hx5 ag3 e
          try dsimp only at xp
          exact sr (tO Rl U (qO 8 U (aC (iF (λy=>[I y]) dY ty3 (sl4.mono vG (hl4.t hle10)).1 QZ U U U (λq9 A9=>dh ty3 A9 U (qO 5 U (aC (kb 2 (k:=y5) (x:=true) Gz (fC m6) U xp U U U (λmo2 hm2=>qO 3 U (oi i5 U (qO 2 U (ag3 ((mput vg y5 true),mo2) hs53 hm2))))))))))))
        .rintro i4 ⟨pb,QJ,QI,OB,hh4⟩ y4 rz4 hd4 KG Qa E1 Rm hs54 ⟨Fa,KL,hl4,u4_0⟩ hx4 ag4 e
         try dsimp only at Fa KL hl4 u4_0
         have hof_:=(hE_.pol _ (JL ob)).off
         refine sr (tO KG U (qL 18 [4] U (aC (cS call24 (sA _ _ _ _ (i4:Int) aK known (iW.Appoints.mono Appoint.aj (((((hle1.t hle2).t hl1).t hle6).t hle7).t hl4)) hsm.2.1) U (λv10 h11 hle11 hp8=>?_)))))
         obtain⟨rb5,rc5,rfl,sl8⟩:=hp8
         refine qO 12 U (ae hs54 U (λc32 hs55=>?_) (λc32 hs56=>?_))
         .exact sr (an (kj [.bool false] wF U hX rd (cs hs55)))
         .exact aN (qT 3 U (aC (bK (cells:=[.slice rb5 (((cW aL.Appoints (i4:Int) aK known).1).length) rc5]) Iu ty68 zc68 U U kr (λb9=>aC (dK (Rp.Ls aAV) ([(b9,O [.slice rb5 (((cW aL.Appoints (i4:Int) aK known).1).length) rc5] 68),z4,(b4,kl),z3,z2,z5]++(ul)) ([]) (λG=>[(b9,O [.slice rb5 (((cW aL.Appoints (i4:Int) aK known).1).length) rc5] 68),z4,(b4,kl),z3,z2,z5]++(ul++(G))) ap (λ_=>ap) Iu ty68 zc68 U bytes68 (Fa.mono (Rp.s9 aAV) hle11) U U (fd 0 U (cE (R:=(Rp.sl aBt)) ((cW aL.Appoints (i4:Int) aK known).1) U ⟨rb5,rc5,U,sl8⟩)) lo lo (λob3 oc3 G3 gr3=>qO 4 U (oi i4 U (qO 2 U (bz (L':=[z4,(b4,kl),z3,z2,z5]++(ul++(G3))) js (ag4 ((pb++[(cW aL.Appoints (i4:Int) aK known).1]),ob3,oc3,G3,h11) hs56 ⟨gr3,lo,(hl4.t hle11),(λy hy=>(List.mem_append.1 hy).elim (u4_0 y) (λhy=>by rw[List.mem_singleton.1 hy];exact Nat.le_trans (Dk _ _ _ _) hsm.2.1))⟩))))))))))
end Go.Sg

namespace Go.Proofs.YtpplkjhgggjaoaaGreatDoor.judgeExactly
open Go.ChangeShapes Go.WideShapes Go.ChangeAt Go.RowKit
theorem own:ownKnob Tryz.prog.godebug=none:=by kernel_rfl
theorem laidOut:laidOutB Tryz.prog=true:=by kernel_rfl
theorem contract(H:Type)(enc:TypeId×Value->H)(W:World)(base:Nat)(args:Array Value)(ds gs:List (DataW H))(before:List MemPlace)(hval:∀(j:Nat)t v,Tryz.f5.params[j]? = some t->args[j]? = some v->Value.okWide Tryz.prog W .any base t v)(hW:DataW.Whole enc Tryz.prog Tryz.f5.params.toList Rows.judgeExactlySpec.vars false W args.toList ds gs before)(hcond:Rows.uptoSmall H (ds++gs)=true)(hL:laidMetH Tryz.prog Rows.judgeExactlyUptoRow.laid W):
    Calls Tryz.prog 5 args W λe W'=>∃v,e=.returned v/\Rows.judgeExactlySpec.post enc Tryz.prog Tryz.f5 false true false false W args v W':=by
  have hW':=hW
  obtain⟨p,q,hA0,hV,rfl,hfz,hnd⟩:=hW
  have hA:DataW.TrodAll enc Tryz.prog W 0 (λ_=>true) true Tryz.f5.params.toList args.toList ds p:=hA0
  rw[Tryz.params5]at hA hval
  obtain⟨v0,vs0,d0,ds0,p0,z0,hargs,rfl,rfl,h0,t0⟩:=trodAll_cons hA
  obtain⟨v1,vs1,d1,ds1,p1,z1,rfl,rfl,rfl,h1,t1⟩:=trodAll_cons t0
  obtain⟨v2,vs2,d2,ds2,p2,z2,rfl,rfl,rfl,h2,t2⟩:=trodAll_cons t1
  obtain⟨v3,vs3,d3,ds3,p3,z3,rfl,rfl,rfl,h3,t3⟩:=trodAll_cons t2
  obtain⟨v4,vs4,d4,ds4,p4,z4,rfl,rfl,rfl,h4,t4⟩:=trodAll_cons t3
  obtain⟨v5,vs5,d5,ds5,p5,z5,rfl,rfl,rfl,h5,t5⟩:=trodAll_cons t4
  obtain⟨rfl,rfl,rfl⟩:=trodAll_nil t5
  obtain rfl:args=#[v0,v1,v2,v3,v4,v5]:=by cases args;simp_all
  obtain⟨rfl,rfl⟩:=trodVars_none hV
  clear hA0 hA
  have h0k:=h0
  have h1k:=h1
  have h2k:=h2
  have h3k:=h3
  have h4k:=h4
  have h5k:=h5
  simp only[List.append_nil]at hW' hcond
  have hB:Rows.uptoBulkAll [d0,d1,d2,d3,d4,d5]<=1048576:=of_decide_eq_true hcond
  obtain⟨a0,rfl,_⟩:=okWide_struct Tryz.underlying30 (hval 0 30 v0 rfl rfl)
  obtain⟨f0,g0⟩:=h0
  obtain⟨x0,⟨r0,e0,o0⟩,q0⟩:=Sg.opn_Register f0 _ _ _ g0
  obtain rfl:a0=(Sg.Register.cells x0 r0).toArray:=by
    apply Array.toList_inj.1;exact e0
  obtain⟨b1,l1,c1,rfl⟩:=okWide_slice Tryz.underlying31 (hval 1 31 v1 rfl rfl)
  obtain⟨f1,g1⟩:=h1
  obtain⟨b1',c1',x1,e1,o1,q1⟩:=Sg.opn_slice (R:=Sg.Rp.int) (sz:=λ_=>1) Tryz.underlying31 (by kernel_rfl) (by decide) (λk _=>Sg.opn_int (by kernel_rfl) k) g1
  cases e1
  obtain⟨b2,l2,c2,rfl⟩:=okWide_slice Tryz.underlying32 (hval 2 32 v2 rfl rfl)
  obtain⟨f2,g2⟩:=h2
  obtain⟨b2',c2',x2,e2,o2,q2⟩:=Sg.opn_slice (R:=Sg.Use.rp) (sz:=λ_=>1) Tryz.underlying32 (by kernel_rfl) (by decide) (λk _=>Sg.opn_Use k) g2
  cases e2
  obtain⟨n3,rfl⟩:=okWide_int Tryz.underlying3 (hval 3 3 v3 rfl rfl)
  obtain⟨n4,rfl⟩:=okWide_int Tryz.underlying3 (hval 4 3 v4 rfl rfl)
  obtain⟨n5,rfl⟩:=okWide_int Tryz.underlying3 (hval 5 3 v5 rfl rfl)
  simp only[Rows.uptoBulkAll]at hB
  have y1:=Sg.szL_len (f:=λ_:Int=>1) (λ_=>Nat.le_refl _) x1
  have y2:=Sg.szL_len (f:=λ_:Sg.Use=>1) (λ_=>Nat.le_refl _) x2
  have z0b:=Sg.bulk_one d0
  have z1b:=Sg.bulk_one d1
  have z2b:=Sg.bulk_one d2
  have z3b:=Sg.bulk_one d3
  have z4b:=Sg.bulk_one d4
  have z5b:=Sg.bulk_one d5
  have walk:=Sg.law30_JudgeExactly_top (Sg.hOf W) (Sg.pre_hOf W) x0 r0 x1 b1 c1 x2 b2 c2 n3 n4 n5 o0 o1 o2 (Sg.smR_of (by omega)) (Sg.kinds_of hL)
  rw[Sg.exactly_true (Sg.smR_of (by omega))]at walk
  refine walk.mono λe W'⟨he,hb⟩=>?_
  subst he
  exact⟨_,rfl,Sg.post_below (pa:=p0++(p1++(p2++(p3++(p4++(p5++([]))))))) (pv:=[]) hW' (λ_ _ _=>trodAll_cons_mk (shut_bool Tryz.underlying4 _) trodAll_mk0) (λsp hsp=>(trodAll_cons_mk (Sg.stays laidOut (by kernel_rfl) (by kernel_rfl) h0k hb hW'.lt (λx hx=>by simp[hx]) hsp) (trodAll_cons_mk (Sg.stays laidOut (by kernel_rfl) (by kernel_rfl) h1k hb hW'.lt (λx hx=>by simp[hx]) hsp) (trodAll_cons_mk (Sg.stays laidOut (by kernel_rfl) (by kernel_rfl) h2k hb hW'.lt (λx hx=>by simp[hx]) hsp) (trodAll_cons_mk (Sg.stays laidOut (by kernel_rfl) (by kernel_rfl) h3k hb hW'.lt (λx hx=>by simp[hx]) hsp) (trodAll_cons_mk (Sg.stays laidOut (by kernel_rfl) (by kernel_rfl) h4k hb hW'.lt (λx hx=>by simp[hx]) hsp) (trodAll_cons_mk (Sg.stays laidOut (by kernel_rfl) (by kernel_rfl) h5k hb hW'.lt (λx hx=>by simp[hx]) hsp) trodAll_mk0))))))) (λ_ _=>rfl) (by simp) hb (ok_one (by kernel_rfl) rfl (okWide_bool_mk Tryz.underlying4 _))⟩
end Go.Proofs.YtpplkjhgggjaoaaGreatDoor.judgeExactly
