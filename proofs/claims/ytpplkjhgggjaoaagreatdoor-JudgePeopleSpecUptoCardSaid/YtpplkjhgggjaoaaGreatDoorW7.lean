import Derived.Shelf.SlSortCmp.NoneTotal
import Derived.WalkKit
import Derived.Test.YtpplkjhgggjaoaaGreatDoorW6
/- A part of the proof of JudgePeopleSpec. -/
set_option linter.unusedVariables false
set_option linter.unusedSimpArgs false
set_option maxRecDepth 100000
open List renaming length_cons→xA,not_mem_nil→vA,mem_cons_of_mem→kA,mem_cons_self→zB,length_append→xB,mem_cons→jB,toArray→vB,mem_singleton→qC,length_nil→jC,append_assoc→vD,mem_append→jE,mem_of_getElem?→vF,nil_append→kF,getElem?_eq_getElem→zG,perm_append_comm→kH,map_cons→jJ,getElem?_eq_none→kK,mem_map_of_mem→vN,nodup_cons→xR,ext_getElem?→TI
open Go.Sg.Rp renaming int→kB,aL→xH,ep→SL,bool→UP
open Go.Sg.Expr renaming cells→vC,ok→kG,jx→Sz
open Go.Value renaming int→zD,bool→SW
open Go.Sg.Appoint renaming mk→jD,rp→vH,cells→xL,aj→zR
open Go.IntKind renaming wrap→qE
open Go.Sg.Policy renaming cells→xE,ok→kN
open Go.Sg.SlC renaming nil→vE
open Go.Sg.OSeat renaming cells→xF,enc→SE,rp→Uy
open Go.Sg.HF renaming le_trans→xG,le→xM,le_refl→qQ
open Nat renaming le_refl→vG,zero_le→qM,lt_or_ge→kM,le_trans→xS
open Go.Obj renaming cells→zJ
open Go.Sg.Register renaming cells→vK,ok→xV
open Go.Sg.Document renaming aj→vL,cells→qP,rp→kV,ok→SG
open Go.Sg.Budget renaming cells→zS,rp→Ti,mk→Tu,aj→UK
open Option.some renaming inj→qV
open Array renaming getElem?_eq_getElem→Sy,getElem?_modify→UH
open Go.Sg.Holder renaming cells→SK,aj→TS,rp→Ui,mk→U7
open Option renaming getD_some→TU
open Go.Sg.Stp renaming mono→Ux
open Go.Sg.Use renaming cells→U6

namespace Go.Sg
variable {m3:List (Int×Option Addr×Nat×Nat)}{om:Obj}
open Go.Proofs Go.Proofs.Tryz
set_option maxHeartbeats 2000000
theorem xe(h:HF)(Gk:Bool)  : Ret prog 192 [.bool Gk] h (.bool (e8 Gk)):=by
 refine sT func192 U ntmps192 U λX hM hX hF=>?_
 have hs0:=@rfl _ (e8 Gk)
 exact sr (qO 7 U (nretP [.bool Gk] (cs hs0)))
theorem xd(h:HF)(Gk:Bool)  : Ret prog 193 [.bool Gk] h (.bool (gk Gk)):=by
 refine sT func193 U ntmps193 U λX hM hX hF=>?_
 have hs0:=@rfl _ (gk Gk)
 exact sr (qO 8 U (nretP [.bool (!Gk)] (cs hs0)))
theorem Ag(h:HF)(mode:Int)(permits:List Bool)(pc:Option Addr)(pb:Nat)(hpermits:SlC UP h pc pb permits)(hsz0:permits.length<=2000000):i9 prog 98 [I mode,.slice pc permits.length pb] h (λv h'=>∃(rb0:Option Addr)(rc0:Nat),v=.tuple #[.slice rb0 ((bE mode permits).1).length rc0,.bool ((bE mode permits).2.1),I ((bE mode permits).2.2)]/\SlC kB h' rb0 rc0 ((bE mode permits).1)):=by
 refine sT func98 U ntmps98 U λX hM hX hF=>?_
 have hs0:=@rfl _ (bE mode permits)
 refine qT 11 U (ai call190 (AQ _ mode _ _ _ hpermits) U (qO 7 U (ae hs0 U (λc1 hs1=>?_) (λc1 hs2=>?_))))
 .refine qT 7 U ?_
  have hs3:bE mode permits=([],false,(lj mode permits)):=hs1
  exact nretH [.slice none 0 0,.bool false,I (lj mode permits)] (hs3▸⟨none,0,U,vE⟩)
 refine qT 4 U (ai call191 (pR _ _ _ _ e8 (.func (.func 192) #[] #[]) hpermits (λh' dE hle=>iK call192 (xe h' dE))) U (qO 5 U (ai call191 (pR _ _ _ _ gk (.func (.func 193) #[] #[]) hpermits (λh' dE hle=>iK call193 (xd h' dE))) U (qO 9 U (aU 3 [23,24,25,26] 23 26 (decide (0<=(cV permits e8))) U (λc2 hk1=>?_) (λe=>?_))))))
 .exact av (qO 2 U (hk1 _ U))
 refine an (ae hs2 U (λc3 hs4=>?_) (λc3 hs5=>?_))
 .refine qT 3 U (aA (aV (cells:=[I (cV permits e8)]) dy ty3 zc3 U U kr (λb1=>qO 4 U (eC 0 U hM (λh1 hle1 hb1=>?_)))))
  have sl1:SlC kB h1 (some ⟨b1,0,none⟩) 1 ([(cV permits e8)]):=aY.slB0 (T:=3) (fz:=(0,0)) ((show aY kB h [I (cV permits e8)] ([(cV permits e8)])from⟨[I (cV permits e8)],[],rfl,rfl,rfl,rfl⟩).mono xH hle1) hb1
  have hs6:bE mode permits=([(cV permits e8)],true,0):=hs4
  exact nretH [.slice (some ⟨b1,0,none⟩) 1 1,.bool true,I 0] (hs6▸⟨(some ⟨b1,0,none⟩),1,U,sl1⟩)
 refine qT 5 U (aU 3 [32,33,34,35] 32 35 (decide (0<=(cV permits gk))) U (λc4 hk2=>?_) (λe=>?_))
 .exact av (qO 2 U (hk2 _ U))
 refine an (ae hs5 U (λc5 hs7=>?_) (λc5 hs8=>?_))
 .refine qT 3 U (aA (aV (cells:=[I (cV permits gk)]) dy ty3 zc3 U U kr (λb2=>qO 4 U (eC 0 U hM (λh2 hle2 hb2=>?_)))))
  have sl2:SlC kB h2 (some ⟨b2,0,none⟩) 1 ([(cV permits gk)]):=aY.slB0 (T:=3) (fz:=(0,0)) ((show aY kB h [I (cV permits gk)] ([(cV permits gk)])from⟨[I (cV permits gk)],[],rfl,rfl,rfl,rfl⟩).mono xH hle2) hb2
  have hs9:bE mode permits=([(cV permits gk)],false,0):=hs7
  exact nretH [.slice (some ⟨b2,0,none⟩) 1 1,.bool false,I 0] (hs9▸⟨(some ⟨b2,0,none⟩),1,U,sl2⟩)
 refine qT 6 U (ae hs8 U (λc6 hs10=>?_) (λc6 hs11=>?_))
 .refine qK 13 [] U ?_
  refine lp2 permits (λi w=>[(4,.slice w.2.1 w.1.length w.2.2.1),(5,.bool (decide (0<=(cV permits e8)))),(55,I (permits.length:Int)),(56,I (i:Int))]) (λ_=>h) (λw=>w.2.2.2) (λi w=>cZ kB 3 h w.1 w.2.1 w.2.2.1 w.2.2.2/\w.1.length<=0+i) (λs1 i w=>(bE.L1 (bE.K1 permits)) s1 i w.1) ([],none,0,[]) hpermits.1.1 hs10 ⟨cZ.nil,lo⟩ ?_ ?_
  .rintro i1 ⟨GO,PD,PC,Q3⟩ ft hs12 ⟨Ky,PB⟩ e
   try dsimp only at Ky PB
   refine qT 8 U (eY xH ([]) Q3 ([]) ap hM Ky (λh4 hle4 sl4=>?_))
   have hs13:bE mode permits=(GO,decide (0<=(cV permits e8)),0):=hs12
   exact nretH [.slice PD GO.length PC,.bool (decide (0<=(cV permits e8))),I 0] (hs13▸⟨PD,PC,U,sl4⟩)
  rintro i1 ⟨GO,PD,PC,Q3⟩ y1 rz1 hd1 cY aJ dY gy hs14 ⟨Ky,PB⟩ hx1 ag1 e
  try dsimp only at Ky PB
  exact sr (tO cY U (qO 14 U (aA (aV (cells:=[I (i1:Int)]) dy ty3 zc3 U U kr (λb4=>aA (cd SL ([(b4,O [I (i1:Int)] 3)]) ([]) (λG=>[(b4,O [I (i1:Int)] 3)]++G) ap (λ_=>ap) dy ty3 zc3 U bytes3 Ky U U (dX 0 U (cE (i1:Int) U U)) lo lo (λob2 oc2 G2 gr2=>qO 4 U (oi i1 U (qO 2 U (ba (L':=G2) js (ag1 ((GO++[(i1:Int)]),ob2,oc2,G2) hs14 ⟨gr2,lo⟩)))))))))))
 refine qT 6 U (ae hs11 U (λc7 hs15=>?_) (λc7 hs16=>?_))
 .refine qK 5 [] U (aU 4 [49,50,51,52,53] 49 53 (nthI permits 0) U (λc8 hk3=>?_) (λe=>?_))
  .refine av ?_
   have ho1:0<=(0:Int)/\(0:Int)<((permits).length:Int):=ob
   exact aA (rO (enc:=λy=>[.bool y]) ei Hb ty4 hpermits.1 ho1 (de ho1) U U U (λq1 A1=>dD ty4 A1 U (eE U (hk3 _ U))))
  refine qL 10 [] U ?_
  refine lp2 permits (λi w=>[(4,.slice w.2.1 w.1.length w.2.2.1),(5,.bool (((permits.length:Int)==1)&&(nthI permits 0))),(55,I (permits.length:Int)),(56,I (i:Int))]) (λ_=>h) (λw=>w.2.2.2) (λi w=>cZ kB 3 h w.1 w.2.1 w.2.2.1 w.2.2.2/\w.1.length<=0+i) (λs2 i w=>(bE.L2 (bE.K2 permits)) s2 i w.1) ([],none,0,[]) hpermits.1.1 hs15 ⟨cZ.nil,lo⟩ ?_ ?_
  .rintro i2 ⟨GN,Pv,Pu,Q2⟩ CG hs17 ⟨Kw,Pt⟩ e
   try dsimp only at Kw Pt
   refine qT 8 U (eY xH ([]) Q2 ([]) ap hM Kw (λh6 hle6 sl6=>?_))
   have hs18:bE mode permits=(GN,(((permits.length:Int)==1)&&(nthI permits 0)),0):=hs17
   exact nretH [.slice Pv GN.length Pu,.bool (((permits.length:Int)==1)&&(nthI permits 0)),I 0] (hs18▸⟨Pv,Pu,U,sl6⟩)
  rintro i2 ⟨GN,Pv,Pu,Q2⟩ y2 rz2 hd2 wX uZ Fz NJ hs19 ⟨Kw,Pt⟩ hx2 ag2 e
  try dsimp only at Kw Pt
  exact sr (tO wX U (qO 14 U (aA (aV (cells:=[I (i2:Int)]) dy ty3 zc3 U U kr (λb6=>aA (cd SL ([(b6,O [I (i2:Int)] 3)]) ([]) (λG=>[(b6,O [I (i2:Int)] 3)]++G) ap (λ_=>ap) dy ty3 zc3 U bytes3 Kw U U (dX 0 U (cE (i2:Int) U U)) lo lo (λob4 oc4 G4 gr4=>qO 4 U (oi i2 U (qO 2 U (ba (L':=G4) js (ag2 ((GN++[(i2:Int)]),ob4,oc4,G4) hs19 ⟨gr4,lo⟩)))))))))))
 refine qK 9 [] U ?_
 refine lp2 permits (λi w=>[(4,.slice w.2.1 w.1.length w.2.2.1),(5,.bool false),(55,I (permits.length:Int)),(56,I (i:Int))]) (λ_=>h) (λw=>w.2.2.2) (λi w=>cZ kB 3 h w.1 w.2.1 w.2.2.1 w.2.2.2/\w.1.length<=0+i) (λs3 i w=>(bE.L3 (bE.K3)) s3 i w.1) ([],none,0,[]) hpermits.1.1 hs16 ⟨cZ.nil,lo⟩ ?_ ?_
 .rintro i3 ⟨GM,Pr,Pq,Q1⟩ R6 hs20 ⟨Kv,Pp⟩ e
  try dsimp only at Kv Pp
  refine qT 8 U (eY xH ([]) Q1 ([]) ap hM Kv (λh8 hle8 sl8=>?_))
  have hs21:bE mode permits=(GM,false,0):=hs20
  exact nretH [.slice Pr GM.length Pq,.bool false,I 0] (hs21▸⟨Pr,Pq,U,sl8⟩)
 rintro i3 ⟨GM,Pr,Pq,Q1⟩ y3 rz3 hd3 Fy m6 Kr Pi hs22 ⟨Kv,Pp⟩ hx3 ag3 e
 try dsimp only at Kv Pp
 exact sr (tO Fy U (qO 14 U (aA (aV (cells:=[I (i3:Int)]) dy ty3 zc3 U U kr (λb8=>aA (cd SL ([(b8,O [I (i3:Int)] 3)]) ([]) (λG=>[(b8,O [I (i3:Int)] 3)]++G) ap (λ_=>ap) dy ty3 zc3 U bytes3 Kv U U (dX 0 U (cE (i3:Int) U U)) lo lo (λob6 oc6 G6 gr6=>qO 4 U (oi i3 U (qO 2 U (ba (L':=G6) js (ag3 ((GM++[(i3:Int)]),ob6,oc6,G6) hs22 ⟨gr6,lo⟩)))))))))))
theorem Ai(h:HF)(mode:Int)(permits:List Bool)(pc:Option Addr)(pb:Nat)(hpermits:SlC UP h pc pb permits)(hsz0:permits.length<=2000000):Ret prog 26 [I mode,.slice pc permits.length pb] h (.tuple #[.bool ((ki mode permits).1),I ((ki mode permits).2)]):=by
 refine sT func26 U ntmps26 U λX hM hX hF=>?_
 have hs0:=@rfl _ (ki mode permits)
 refine qT 9 U (aA (cC call98 (Ag _ mode _ _ _ hpermits ob) U (λv1 h1 hle1 hp1=>?_)))
 obtain⟨rb1,rc1,rfl,sl1⟩:=hp1
 refine qO 14 U ?_
 have hs1:ki mode permits=((bE mode permits).2.1,(bE mode permits).2.2):=hs0
 exact nretP [.bool ((bE mode permits).2.1),I ((bE mode permits).2.2)] (hs1▸U)
theorem DZ(h:HF)(u:List Use)(D3:Option Addr)(D2:Nat)(hu:SlC Use.rp h D3 D2 u):Ret prog 99 [.slice D3 u.length D2] h (.bool (kb u)):=by
 refine sT func99 U ntmps99 U λX hM hX hF=>?_
 have hs0:=@rfl _ (kb u)
 refine qT 6 U (aA (oK (λb1=>qL 9 [] U ?_)))
 refine lp2 u (λi w=>[(3,.map (some b1)),(7,.slice D3 u.length D2),(8,I (u.length:Int)),(9,I (i:Int))]) (λ_=>h) (λw=>[(b1,w.2)]) (λi w=>jY (zD .i64) qe h w.2 w.1/\w.1.length<=0+i) (λs1 i w=>(kb.L1 (kb.K1)) s1 w.1) ([],.map #[] 0) hu.1.1 hs0 ⟨(jY.nil (enc:=(zD .i64)) (V:=qe) (h:=h)),lc⟩ ?_ ?_
 .rintro i1 ⟨bx,im⟩ ft hs1 ⟨fP,n8⟩ e
  exact sr (an (nretP [.bool true] (cs hs1)))
 rintro i1 ⟨bx,im⟩ y1 rz1 hd1 cY aJ dY gy hs3 ⟨fP,n8⟩ hx1 ag1 e
 refine sr (tO cY U (qO 8 U (aA (iF U6 underlying32 ty111 hu.1 aJ U U U (λq2 A2=>dv ty111 A2 U U (aS zc111 (λb4=>aR 0 ty111 U U U U U U (qL 7 [0] U (aA (rg 1 (k:=y1.Doc) Og (fU ox) U fP (fp zv4) (show qe _ (.bool false) false from U) U U (λv2 hv2=>?_)))))))))))
 obtain rfl:=hv2
 refine av (bL 6 [17,18,19,20,21,22,23] 17 23 (!(aQ 0 4095 ([y1.Doc]))) U (λc1 hk1=>?_) (λe=>?_))
 .refine qL 2 [0] U (aA (aV (cells:=[I y1.Doc]) dy ty3 zc3 U U kr (λb5=>aO 0 U hM (λh2 hle2 hb2=>?_))))
  have sl2:SlC kB h2 (some ⟨b5,0,none⟩) 1 ([y1.Doc]):=aY.slB0 (T:=3) (fz:=(0,0)) ((show aY kB h [I y1.Doc] ([y1.Doc])from⟨[I y1.Doc],[],rfl,rfl,rfl,rfl⟩).mono xH hle2) hb2
  exact ai wP (dN _ 0 4095 _ _ _ sl2) U (qO 2 U (lg (h:=h) hle2 hX lf (hk1 _ U)))
 refine av (bL 6 [24,25,26,27,28,29,30] 24 30 (!(aQ 0 15 ([y1.Kind]))) U (λc2 hk2=>?_) (λe=>?_))
 .refine qL 2 [0] U (aA (aV (cells:=[I y1.Kind]) dy ty3 zc3 U U kr (λb6=>aO 0 U hM (λh3 hle3 hb3=>?_))))
  have sl3:SlC kB h3 (some ⟨b6,0,none⟩) 1 ([y1.Kind]):=aY.slB0 (T:=3) (fz:=(0,0)) ((show aY kB h [I y1.Kind] ([y1.Kind])from⟨[I y1.Kind],[],rfl,rfl,rfl,rfl⟩).mono xH hle3) hb3
  exact ai wP (dN _ 0 15 _ _ _ sl3) U (qO 2 U (lg (h:=h) hle3 hX lf (hk2 _ U)))
 refine av (bL 6 [31,32,33,34,35,36,37] 31 37 (!(aQ 0 1099511627776 ([y1.Value]))) U (λc3 hk3=>?_) (λe=>?_))
 .refine qL 2 [0] U (aA (aV (cells:=[I y1.Value]) dy ty3 zc3 U U kr (λb7=>aO 0 U hM (λh4 hle4 hb4=>?_))))
  have sl4:SlC kB h4 (some ⟨b7,0,none⟩) 1 ([y1.Value]):=aY.slB0 (T:=3) (fz:=(0,0)) ((show aY kB h [I y1.Value] ([y1.Value])from⟨[I y1.Value],[],rfl,rfl,rfl,rfl⟩).mono xH hle4) hb4
  exact ai wP (dN _ 0 1099511627776 _ _ _ sl4) U (qO 2 U (lg (h:=h) hle4 hX lf (hk3 _ U)))
 refine av (bL 8 [38,39,40,41,42,43,44,45,46] 38 46 (!(aQ 0 1099511627775 ([y1.At,y1.Known]))) U (λc4 hk4=>?_) (λe=>?_))
 .refine qL 4 [0,0] U (aA (aV (cells:=[I y1.At,I y1.Known]) dy ty3 zc3 U U kr (λb8=>aO 0 U hM (λh5 hle5 hb5=>?_))))
  have sl5:SlC kB h5 (some ⟨b8,0,none⟩) 2 ([y1.At,y1.Known]):=aY.slB0 (T:=3) (fz:=(0,0)) ((show aY kB h [I y1.At,I y1.Known] ([y1.At,y1.Known])from⟨[I y1.At],[I y1.Known],rfl,rfl,rfl,⟨[I y1.Known],[],rfl,rfl,rfl,rfl⟩⟩).mono xH hle5) hb5
  exact ai wP (dN _ 0 1099511627775 _ _ _ sl5) U (qO 2 U (lg (h:=h) hle5 hX lf (hk4 _ U)))
 refine aI (ae hs3 U (λc5 hs4=>?_) (λc5 hs5=>?_))
 .exact sr (an (nretP [.bool false] (cs hs4)))
 exact qK 5 [0] U (aA (ll 1 (k:=y1.Doc) (x:=true) Og (fU ox) U fP U U U (λmo1 hm1=>qO 3 U (oi i1 U (qO 2 U (ba (L':=[(b1,mo1)]) js (ag1 ((mput bx y1.Doc true),mo1) hs5 ⟨hm1,(by have:=nu bx y1.Doc true;first|omega|(simp only[jC,xA]at *;omega))⟩)))))))
theorem zx(h:HF)(l:List Budget)(dU:Option Addr)(dT:Nat)(kind:Int)(bI:Int)(known:Int)(hl:SlC Ti h dU dT l)(hsz0:l.length<=2000000):i9 prog 101 [.slice dU l.length dT,I kind,I bI,I known] h (λv h'=>∃(rb0:Option Addr)(rc0:Nat),v=.slice rb0 (bQ l kind bI known).length rc0/\SlC Ti h' rb0 rc0 (bQ l kind bI known)):=by
 refine sT func101 U ntmps101 U λX hM hX hF=>?_
 have hs0:=@rfl _ (bQ l kind bI known)
 refine qT 6 U (aA (oK (λb1=>qL 9 [] U ?_)))
 refine lp2 l (λi w=>[(0,.slice dU l.length dT),(1,I kind),(2,I bI),(3,I known),(8,.slice none 0 0),(9,.map (some b1)),(18,.slice dU l.length dT),(19,I (l.length:Int)),(20,I (i:Int))]) (λ_=>h) (λw=>[(b1,w.2)]) (λi w=>jY gO.enc (iZ Ti) h w.2 w.1/\w.1.length<=0+i) (λs1 i w=>(bQ.L1 kind bI known (bQ.K1 l)) s1 w.1) ([],.map #[] 0) hl.1.1 hs0 ⟨(jY.nil (enc:=gO.enc) (V:=(iZ Ti)) (h:=h)),lc⟩ ?_ ?_
 .rintro i1 ⟨bx,im⟩ ft hs1 ⟨fP,n8⟩ e
  try dsimp only at fP n8
  refine qK 7 [] U ?_
  refine lp2 l (λi w=>[(8,.slice w.2.1 w.1.length w.2.2.1),(9,.map (some b1)),(69,.slice dU l.length dT),(70,I (l.length:Int)),(71,I (i:Int))]) (λ_=>h) (λw=>[(b1,im)]++(w.2.2.2)) (λi w=>cZ Ti 101 h w.1 w.2.1 w.2.2.1 w.2.2.2/\w.1.length<=0+i) (λs2 i w=>(bQ.L2 bx (bQ.K2)) s2 w.1) ([],none,0,[]) hl.1.1 hs1 ⟨cZ.nil,lo⟩ ?_ ?_
  .rintro i2 ⟨rR,yr,yq,Ac⟩ CG hs2 ⟨wJ,FH⟩ e
   try dsimp only at wJ FH
   refine qT 5 U (eY UK ([(b1,im)]) Ac ([]) ap hM wJ (λh1 hle1 sl1=>?_))
   have hs3:bQ l kind bI known=rR:=hs2
   exact nretH [.slice yr rR.length yq] ⟨yr,yq,congrArg (λr:List Budget=>(.slice yr r.length yq:Value)) hs3.symm,(by rw[hs3];exact sl1)⟩
  rintro i2 ⟨rR,yr,yq,Ac⟩ y2 rz2 hd2 wX uZ Fz NJ hs4 ⟨wJ,FH⟩ hx2 ag1 e
  try dsimp only at wJ FH
  refine sr (tO wX U (qO 8 U (aA (iF zS zI ty101 hl.1 uZ U U U (λq3 A3=>dv ty101 A3 U U (aS zc101 (λb4=>aR 0 ty101 U U U U U U (iO (L':=[(b4,O (zS y2) 101),(b1,im)]++(Ac)) U (qO 2 U ?_)))))))))
  refine m8 [(8,.slice yr rR.length yq),(9,.map (some b1)),(16,Q b4),(69,.slice dU l.length dT),(70,I (l.length:Int)),(71,I (i2:Int)),(88,.bool ((!y2.Gone)&&(decide ((mgetD bx (gO.mk y2.Kind y2.Period) (Tu 0 0 0 0 0 0 0 false))=y2))))] (λe=>?_) (λhk1=>?_)
  rotate_left
  .let z2:Nat×Obj:=(b4,O (zS y2) 101)
   refine eh ([z2,(b1,im)]) mixed kr jn (λdt _=>?_)
   refine qB [0] U (tf 1 U U (rj 0 ty4 U U U) (qA [2,3] U ?_))
   refine cB 78 U (λc1=>?_) (λc1=>?_)
   .refine qB [4,5] U (tf 6 U U (rj 0 ty3 U U U) (qB [7] U (tf 8 U U (rj 0 ty3 U U U) (tf 11 U U (λ_ _ hj=>i7 ty101 U (hj.nth (i:=0) U) U) (tn 9 U (e9 (cells:=[I y2.Kind,I y2.Period]) (places:=[(0,1),(1,1)]) Ml zc267 kr kr (⟨jn,tn 10 U (rg 1 (k:=(gO.mk y2.Kind y2.Period)) underlying265 yh U fP (fp zv101) (show(iZ Ti) _ (.agg (vB [I 0,I 0,I 0,I 0,I 0,I 0,I 0,.bool false])) (Tu 0 0 0 0 0 0 0 false)from⟨_,U,U⟩) U U (λv2 hv2=>?_))⟩)))))))
    obtain⟨_,rfl,rfl⟩:=hv2
    exact⟨jn,(tf 12 U U (λ_ _ _=>MA (LK (mgetD bx (gO.mk y2.Kind y2.Period) (Tu 0 0 0 0 0 0 0 false)) y2) eqg101 U U) (qA [13] U (aG kr (hk1 _ ⟨U,U,U,U,U,U,(cb (show(decide ((mgetD bx (gO.mk y2.Kind y2.Period) (Tu 0 0 0 0 0 0 0 false))=y2))=((!y2.Gone)&&(decide ((mgetD bx (gO.mk y2.Kind y2.Period) (Tu 0 0 0 0 0 0 0 false))=y2)))from by rw[c1]<;>rfl)),trivial⟩))))⟩
   exact tk 4 U U (qR 5 9 U (aG kr (hk1 _ ⟨U,U,U,U,U,U,(cb (show false=((!y2.Gone)&&(decide ((mgetD bx (gO.mk y2.Kind y2.Period) (Tu 0 0 0 0 0 0 0 false))=y2)))from by rw[c1]<;>rfl)),trivial⟩)))
  refine ae hs4 U (λc2 hs5=>?_) (λc2 hs6=>?_)
  .refine qT 2 U (cN 0 ty101 U U U (aA (aV (cells:=[I y2.No,I y2.At,I y2.Known,I y2.Kind,I y2.Period,I y2.Count,I y2.Value,.bool y2.Gone]) zI ty101 zc101 U U kr (λb5=>?_))))
   let z1:Nat×Obj:=(b5,O [I y2.No,I y2.At,I y2.Known,I y2.Kind,I y2.Period,I y2.Count,I y2.Value,.bool y2.Gone] 101)
   exact aA (cd Budget.eo ([z1,(b4,O (zS y2) 101),(b1,im)]) ([]) (λG=>[z1,(b4,O (zS y2) 101),(b1,im)]++G) ap (λ_=>ap) zI ty101 zc101 U bytes101 wJ U U (dX 0 U (cE y2 U U)) lo lo (λob1 oc1 G1 gr1=>qO 4 U (oi i2 U (qO 2 U (ba (L':=[(b1,im)]++G1) js (ag1 ((rR++[y2]),ob1,oc1,G1) hs5 ⟨gr1,lo⟩))))))
  exact aH (qT 2 U (oi i2 U (qO 2 U (ba (L':=[(b1,im)]++(Ac)) js (ag1 (rR,yr,yq,Ac) hs6 ⟨wJ,lo⟩)))))
 rintro i1 ⟨bx,im⟩ y1 rz1 hd1 cY aJ dY gy hs7 ⟨fP,n8⟩ hx1 ag2 e
 try dsimp only at fP n8
 refine sr (tO cY U (qO 8 U (aA (iF zS zI ty101 hl.1 aJ U U U (λq4 A4=>dv ty101 A4 U U (aS zc101 (λb6=>aR 0 ty101 U U U U U U (qL 9 [0] U (bL 5 [28,29,30,31,32,33] 28 33 (decide (known<y1.Known)) U (λc3 hk2=>?_) (λe=>?_))))))))))
 .exact qL 5 [0] U (hk2 _ U)
 refine av (bL 10 [34,35,36,37,38,39,40,41,42,43,44] 34 44 ((y1.Kind != (-1))&&(y1.Kind != kind)) U (λc4 hk3=>?_) (λe=>?_))
 .refine qL 4 [0] U (aU 5 [38,39,40,41,42,43] 38 43 (y1.Kind != kind) U (λc5 hk4=>?_) (λe=>?_))
  .exact qL 5 [0] U (hk4 _ U)
  exact eE U (hk3 _ U)
 refine aI (ae hs7 U (λc6 hs8=>?_) (λc6 hs9=>?_))
 .exact lM U (bC (oi i1 U (qO 2 U (ba (L':=[(b1,im)]) js (ag2 (bx,im) hs8 ⟨fP,lc⟩)))))
 refine qK 7 [0,0] U (aA (e9 (cells:=[I y1.Kind,I y1.Period]) (places:=[(0,1),(1,1)]) Ml zc267 kr kr (aS zc267 (λb7=>aR 0 ty267 U U U U U U (qO 4 U (cN 0 ty267 U U U (aA (lZ 2 (k:=(gO.mk y1.Kind y1.Period)) underlying265 yh U fP (fp zv101) (show(iZ Ti) _ (.agg (vB [I 0,I 0,I 0,I 0,I 0,I 0,I 0,.bool false])) (Tu 0 0 0 0 0 0 0 false)from⟨_,U,U⟩) U U (λv3 hv3=>?_)))))))))
 obtain⟨_,rfl,rfl⟩:=hv3
 refine qO 3 U (aS zc101 (λb8=>aR 0 ty101 U U U U U U (qO 7 U (bL 6 [58,59,60,61,62,63,64] 58 64 (decide ((mgetD bx (gO.mk y1.Kind y1.Period) (Tu 0 0 0 0 0 0 0 false)).At<=y1.At)) U (λc7 hk5=>?_) (λe=>?_)))))
 .exact qL 6 [0,2] U (hk5 _ U)
 refine aI (ae hs9 U (λc8 hs10=>?_) (λc8 hs11=>?_))
 .exact bC (av (cN 1 ty267 U U U (cN 2 ty101 U U U (aA (ll 3 (k:=(gO.mk y1.Kind y1.Period)) (x:=y1) underlying265 yh U fP U U ⟨_,U,U⟩ (λmo1 hm1=>qO 3 U (oi i1 U (qO 2 U (ba (L':=[(b1,mo1)]) js (ag2 ((mput bx (gO.mk y1.Kind y1.Period) y1),mo1) hs10 ⟨hm1,(by have:=nu bx (gO.mk y1.Kind y1.Period) y1;first|omega|(simp only[jC,xA]at *;omega))⟩))))))))))
 exact aH (qT 2 U (oi i1 U (qO 2 U (ba (L':=[(b1,im)]) js (ag2 (bx,im) hs11 ⟨fP,lc⟩)))))
theorem BY(h:HF)(u:List Use)(D3:Option Addr)(D2:Nat)(u_q:Addr)(known:Int)(known_q:Addr)(bg:Budget)(bg_q:Addr)(at_:Int)(at__q:Addr)(hu:SlC Use.rp h D3 D2 u)(au:At h u_q [.slice D3 u.length D2])(aknown:At h known_q [I known])(abg:At h bg_q (zS bg))(aat_:At h at__q [I at_])(hbp:bg.Period≠0):Itr prog (.func (.func 195) #[] (vB [.pointer (some u_q),.pointer (some known_q),.pointer (some bg_q),.pointer (some at__q)])) yT (cn u known bg at_) h:=by
 refine tq call195 ?_
 intro yf ya yb C Sp Pn h1 A hle m1 m2 m3 hC hy
 refine jz AR U ntmps195 U λX hXM hX=>?_
 have hs0:cn u known bg at_=[]++cn u known bg at_:=rfl
 refine sr (dD ty32 (au.mono hle) U (qL 3 [] U ?_))
 refine lp2 u (λi w=>[(0,.func yf ya yb),(2,.pointer (some known_q)),(3,.pointer (some bg_q)),(4,.pointer (some at__q)),(8,.slice D3 u.length D2),(9,I (u.length:Int)),(10,I (i:Int))]) (λw=>w.2.2) (λw=>w.2.1) (λi w=>C w.1 w.2.2 w.2.1/\xM h1 w.2.2) (λs1 i w=>w.1++(cn.L1 known bg at_ (cn.K1)) s1) ([],A,h1) ((hu.mono Use.aj hle).1.1) hs0 ⟨hC,lf⟩ ?_ ?_
 .rintro i1 ⟨dn1,A1_,hh1⟩ ft hs1 ⟨hC1_,hl1⟩ e
  refine ej ?_
  have hs2:cn u known bg at_=dn1:=hs1.trans (List.append_nil _)
  exact tr [] (A:=A1_) AR U (List.Sublist.refl _) (.inl (hs2▸hC1_))
 rintro i1 ⟨dn1,A1_,hh1⟩ y1 rz1 hd1 cY aJ dY gy hs3 ⟨hC1_,hl1⟩ hx1 ag1 e
 refine sr (tO cY U (qO 8 U (aA (iF U6 underlying32 ty111 (hu.mono Use.aj (hle.t hl1)).1 aJ U U U (λq2 A2=>dv ty111 A2 U U (aS zc111 (λb2=>aR 0 ty111 U U U U U U (iO (L':=[(b2,O (U6 y1) 111)]++(A1_)) U (qO 2 U ?_)))))))))
 let z1:Nat×Obj:=(b2,O (U6 y1) 111)
 refine eh ([z1]) mixed kr jn (λdt _=>?_)
 refine qB [0] U (tf 1 U U (rj 0 ty3 U U U) (tf 2 U U (rh ty3 (aknown.mono (hle.t hl1)) U) (qA [3,4] U ?_)))
 refine cB 18 U (λc1=>?_) (λc1=>?_)
 .have c1p:=of_decide_eq_true c1
  refine qB [5] U (tf 6 U U (rH 3 ty3 (abg.mono (hle.t hl1)) U U) (qA [7,8] U ?_))
  refine cB 22 U (λc2=>?_) (λc2=>?_)
  .refine qD 9 9 U (tf 18 U U (rj 0 ty3 U U U) (qB [19] U (tf 20 U U (rH 4 ty3 (abg.mono (hle.t hl1)) U U) (tf 21 U U (λ_ _ _=>Mz U U ob) (tf 22 U U (rh ty3 (aat_.mono (hle.t hl1)) U) (qB [23] U (tf 24 U U (rH 4 ty3 (abg.mono (hle.t hl1)) U U) (tf 25 U U (λ_ _ _=>Mz U U ob) (qA [26] U (tf 27 U U (λ_ _ _=>oh U (cb (show((qE .i64 (y1.At.tdiv bg.Period))==(qE .i64 (at_.tdiv bg.Period)))=((decide (y1.Known<=known)&&((bg.Kind==(-1))||(bg.Kind==y1.Kind)))&&((qE .i64 (y1.At.tdiv bg.Period))==(qE .i64 (at_.tdiv bg.Period))))from by first|(rw[c1];rw[c2];rfl)|(rw[c2];rfl)|simp[c1,c2]))) (tm 28 U ?_)))))))))))
   refine cB 42 U (λc3=>?_) (λc3=>?_)
   .have ct1:=c3
    have hs4:=hs3.trans (congrArg (dn1++·) (bt ct1))
    refine qB [29,30] U (tf 31 U U (rj 0 ty3 U U U) ?_)
    have hx1:cn u known bg at_=dn1++(y1.Value::(cn.L1 known bg at_ (cn.K1) rz1)):=hs4
    refine tn 32 U (lv ([z1]) A1_ ap (hy dn1 y1.Value _ _ _ _ hx1 hl1 hC1_ U) U U (λh2 A3 hle1 hC1=>?_) (λh3 A4 hle2 hS1=>?_) (λch1 h4 A5 hle3 hP1 e=>gK (nC [] (A:=A5) AR (List.sublist_append_right _ _) hP1)))
    .have hs5:cn u known bg at_=(dn1++[y1.Value])++((cn.L1 known bg at_ (cn.K1) rz1)):=hx1.trans ap
     exact⟨⟨hle1,λ_ hp=>List.Sublist.subset js hp⟩,lk (K2:=[z1]) hle1 (λ_ hp=>hp) (qA [33,34] U (aG kr (qT 4 U (oi i1 U (qO 2 U (ba (L':=A3) js (ag1 ((dn1++[y1.Value]),A3,h2) hs5 ⟨hC1,(hl1.t hle1)⟩)))))))⟩
    exact⟨⟨hle2,λ_ hp=>List.Sublist.subset js hp⟩,lk (K2:=[z1]) hle2 (λ_ hp=>hp) (qA [33,34] U (aG kr (lX U (ej (nn [] (A:=A4) AR U js (.inr hS1))))))⟩
   have ct2:=c3
   have hs6:=hs3.trans (congrArg (dn1++·) (bf ct2))
   exact tk 29 U U (qR 30 5 U (aG kr (qT 4 U (oi i1 U (qO 2 U (ba (L':=A1_) js (ag1 (dn1,A1_,hh1) hs6 ⟨hC1_,hl1⟩)))))))
  refine qB [9] U (tf 10 U U (rH 3 ty3 (abg.mono (hle.t hl1)) U U) (qB [11] U (tf 12 U U (rj 0 ty3 U U U) (qR 13 4 U ?_))))
  refine cB 30 U (λc4=>?_) (λc4=>?_)
  .refine qB [17] U (tf 18 U U (rj 0 ty3 U U U) (qB [19] U (tf 20 U U (rH 4 ty3 (abg.mono (hle.t hl1)) U U) (tf 21 U U (λ_ _ _=>Mz U U ob) (tf 22 U U (rh ty3 (aat_.mono (hle.t hl1)) U) (qB [23] U (tf 24 U U (rH 4 ty3 (abg.mono (hle.t hl1)) U U) (tf 25 U U (λ_ _ _=>Mz U U ob) (qA [26] U (tf 27 U U (λ_ _ _=>oh U (cb (show((qE .i64 (y1.At.tdiv bg.Period))==(qE .i64 (at_.tdiv bg.Period)))=((decide (y1.Known<=known)&&((bg.Kind==(-1))||(bg.Kind==y1.Kind)))&&((qE .i64 (y1.At.tdiv bg.Period))==(qE .i64 (at_.tdiv bg.Period))))from by first|(rw[c1];rw[c2];rw[c4];rfl)|(rw[c4];rfl)|simp[c1,c2,c4]))) (tm 28 U ?_)))))))))))
   refine cB 42 U (λc5=>?_) (λc5=>?_)
   .have ct3:=c5
    have hs7:=hs3.trans (congrArg (dn1++·) (bt ct3))
    refine qB [29,30] U (tf 31 U U (rj 0 ty3 U U U) ?_)
    have hx2:cn u known bg at_=dn1++(y1.Value::(cn.L1 known bg at_ (cn.K1) rz1)):=hs7
    refine tn 32 U (lv ([z1]) A1_ ap (hy dn1 y1.Value _ _ _ _ hx2 hl1 hC1_ U) U U (λh5 A6 hle4 hC2=>?_) (λh6 A7 hle5 hS2=>?_) (λch2 h7 A8 hle6 hP2 e=>gK (nC [] (A:=A8) AR (List.sublist_append_right _ _) hP2)))
    .have hs8:cn u known bg at_=(dn1++[y1.Value])++((cn.L1 known bg at_ (cn.K1) rz1)):=hx2.trans ap
     exact⟨⟨hle4,λ_ hp=>List.Sublist.subset js hp⟩,lk (K2:=[z1]) hle4 (λ_ hp=>hp) (qA [33,34] U (aG kr (qT 4 U (oi i1 U (qO 2 U (ba (L':=A6) js (ag1 ((dn1++[y1.Value]),A6,h5) hs8 ⟨hC2,(hl1.t hle4)⟩)))))))⟩
    exact⟨⟨hle5,λ_ hp=>List.Sublist.subset js hp⟩,lk (K2:=[z1]) hle5 (λ_ hp=>hp) (qA [33,34] U (aG kr (lX U (ej (nn [] (A:=A7) AR U js (.inr hS2))))))⟩
   have ct4:=c5
   have hs9:=hs3.trans (congrArg (dn1++·) (bf ct4))
   exact tk 29 U U (qR 30 5 U (aG kr (qT 4 U (oi i1 U (qO 2 U (ba (L':=A1_) js (ag1 (dn1,A1_,hh1) hs9 ⟨hC1_,hl1⟩)))))))
  refine qR 17 10 U (tf 27 U U (λ_ _ _=>oh U (cb (show false=((decide (y1.Known<=known)&&((bg.Kind==(-1))||(bg.Kind==y1.Kind)))&&((qE .i64 (y1.At.tdiv bg.Period))==(qE .i64 (at_.tdiv bg.Period))))from by first|(rw[c1];rw[c2];rw[c4];rfl)|(rw[c4];rfl)|simp[c1,c2,c4]))) (tm 28 U ?_))
  refine cB 42 U (λc6=>?_) (λc6=>?_)
  .have ct5:=c6
   have hs10:=hs3.trans (congrArg (dn1++·) (bt ct5))
   refine qB [29,30] U (tf 31 U U (rj 0 ty3 U U U) ?_)
   have hx3:cn u known bg at_=dn1++(y1.Value::(cn.L1 known bg at_ (cn.K1) rz1)):=hs10
   refine tn 32 U (lv ([z1]) A1_ ap (hy dn1 y1.Value _ _ _ _ hx3 hl1 hC1_ U) U U (λh8 A9 hle7 hC3=>?_) (λh9 A10 hle8 hS3=>?_) (λch3 h10 A11 hle9 hP3 e=>gK (nC [] (A:=A11) AR (List.sublist_append_right _ _) hP3)))
   .have hs11:cn u known bg at_=(dn1++[y1.Value])++((cn.L1 known bg at_ (cn.K1) rz1)):=hx3.trans ap
    exact⟨⟨hle7,λ_ hp=>List.Sublist.subset js hp⟩,lk (K2:=[z1]) hle7 (λ_ hp=>hp) (qA [33,34] U (aG kr (qT 4 U (oi i1 U (qO 2 U (ba (L':=A9) js (ag1 ((dn1++[y1.Value]),A9,h8) hs11 ⟨hC3,(hl1.t hle7)⟩)))))))⟩
   exact⟨⟨hle8,λ_ hp=>List.Sublist.subset js hp⟩,lk (K2:=[z1]) hle8 (λ_ hp=>hp) (qA [33,34] U (aG kr (lX U (ej (nn [] (A:=A10) AR U js (.inr hS3))))))⟩
  have ct6:=c6
  have hs12:=hs3.trans (congrArg (dn1++·) (bf ct6))
  exact tk 29 U U (qR 30 5 U (aG kr (qT 4 U (oi i1 U (qO 2 U (ba (L':=A1_) js (ag1 (dn1,A1_,hh1) hs12 ⟨hC1_,hl1⟩)))))))
 have c1p:=of_decide_eq_false c1
 refine qR 5 22 U (tf 27 U U (λ_ _ _=>oh U (cb (show false=((decide (y1.Known<=known)&&((bg.Kind==(-1))||(bg.Kind==y1.Kind)))&&((qE .i64 (y1.At.tdiv bg.Period))==(qE .i64 (at_.tdiv bg.Period))))from by first|(rw[c1];rfl)|(rw[c1];rfl)|simp[c1]))) (tm 28 U ?_))
 refine cB 42 U (λc7=>?_) (λc7=>?_)
 .have ct7:=c7
  have hs13:=hs3.trans (congrArg (dn1++·) (bt ct7))
  refine qB [29,30] U (tf 31 U U (rj 0 ty3 U U U) ?_)
  have hx4:cn u known bg at_=dn1++(y1.Value::(cn.L1 known bg at_ (cn.K1) rz1)):=hs13
  refine tn 32 U (lv ([z1]) A1_ ap (hy dn1 y1.Value _ _ _ _ hx4 hl1 hC1_ U) U U (λh11 A12 hle10 hC4=>?_) (λh12 A13 hle11 hS4=>?_) (λch4 h13 A14 hle12 hP4 e=>gK (nC [] (A:=A14) AR (List.sublist_append_right _ _) hP4)))
  .have hs14:cn u known bg at_=(dn1++[y1.Value])++((cn.L1 known bg at_ (cn.K1) rz1)):=hx4.trans ap
   exact⟨⟨hle10,λ_ hp=>List.Sublist.subset js hp⟩,lk (K2:=[z1]) hle10 (λ_ hp=>hp) (qA [33,34] U (aG kr (qT 4 U (oi i1 U (qO 2 U (ba (L':=A12) js (ag1 ((dn1++[y1.Value]),A12,h11) hs14 ⟨hC4,(hl1.t hle10)⟩)))))))⟩
  exact⟨⟨hle11,λ_ hp=>List.Sublist.subset js hp⟩,lk (K2:=[z1]) hle11 (λ_ hp=>hp) (qA [33,34] U (aG kr (lX U (ej (nn [] (A:=A13) AR U js (.inr hS4))))))⟩
 have ct8:=c7
 have hs15:=hs3.trans (congrArg (dn1++·) (bf ct8))
 exact tk 29 U U (qR 30 5 U (aG kr (qT 4 U (oi i1 U (qO 2 U (ba (L':=A1_) js (ag1 (dn1,A1_,hh1) hs15 ⟨hC1_,hl1⟩)))))))
theorem D0(h:HF)(Gk:Budget)(u:List Use)(D3:Option Addr)(D2:Nat)(bI:Int)(known:Int)(hu:SlC Use.rp h D3 D2 u)(hbp:Gk.Period≠0):i9 prog 102 [.agg (zS Gk).toArray,.slice D3 u.length D2,I bI,I known] h (λv h'=>∃(rv0:Value),v=rv0/\Itr prog rv0 yT (pK Gk u bI known) h'):=by
 refine sT func102 U ntmps102 U λX hM hX hF=>?_
 have hs0:=@rfl _ (pK Gk u bI known)
 refine sr (bS (λb1=>bS (λb2=>bS (λb3=>bS (λb4=>qO 4 U (aO 2 U hM (λh1 hle1 hb1=>aO 0 U hM (λh2 hle2 hb2=>aO 1 U hM (λh3 hle3 hb3=>aO 0 U hM (λh4 hle4 hb4=>aA (eI U U (an ?_))))))))))))
 have hs1:pK Gk u bI known=(cn u known Gk bI):=hs0
 exact nretH [.func (.func 195) #[] #[Q b2,Q b4,Q b1,Q b3]] (hs1▸⟨(.func (.func 195) #[] #[Q b2,Q b4,Q b1,Q b3]),U,(BY h4 u D3 D2 ⟨b2,0,none⟩ known ⟨b4,0,none⟩ Gk ⟨b1,0,none⟩ bI ⟨b3,0,none⟩ (hu.mono Use.aj (((hle1.t hle2).t hle3).t hle4)) ((cz hb1).mono ((hle2.t hle3).t hle4)) ((cz hb2).mono (hle3.t hle4)) ((cz hb3).mono hle4) (cz hb4) ob)⟩)
theorem wL(h:HF)(l:List Budget)(dU:Option Addr)(dT:Nat)(u:List Use)(D3:Option Addr)(D2:Nat)(kind:Int)(value:Int)(eB:Int)(known:Int)(hl:SlC Ti h dU dT l)(hu:SlC Use.rp h D3 D2 u)(hsz:l.length<=2000000):Ret prog 27 [.slice dU l.length dT,.slice D3 u.length D2,I kind,I value,I eB,I known] h (.tuple #[I ((bX l u kind value eB known).1),.bool ((bX l u kind value eB known).2.1),I ((bX l u kind value eB known).2.2)]):=by
 refine cH El U ntmps27 U λX hM hX=>?_
 have hs0:=@rfl _ (bX l u kind value eB known)
 refine qT 10 U (ai call68 (vi _ _ _ _ hl) U (qO 7 U (ae hs0 U (λc1 hs1=>?_) (λc1 hs2=>?_))))
 .refine qT 7 U ?_
  have hs3:bX l u kind value eB known=(0,false,(cG l)):=hs1
  exact tR [I 0,.bool false,I (cG l)] El U hX rd (congrArg (λr:(Int×Bool×Int)=>(.tuple #[I r.1,.bool r.2.1,I r.2.2]:Value)) hs3.symm)
 refine qK 8 [] U (ae hs2 U (λc2 hs4=>?_) (λc2 hs5=>?_))
 .have c2p:=of_decide_eq_true c2
  refine qT 6 U ?_
  have hs6:bX l u kind value eB known=(0,false,2):=hs4
  exact tR [I 0,.bool false,I 2] El U hX rd (congrArg (λr:(Int×Bool×Int)=>(.tuple #[I r.1,.bool r.2.1,I r.2.2]:Value)) hs6.symm)
 have c2p:=of_decide_eq_false c2
 refine qT 5 U (ai call99 (DZ _ _ _ _ hu) U (qO 2 U (ae hs5 U (λc3 hs7=>?_) (λc3 hs8=>?_))))
 .refine qT 6 U ?_
  have hs9:bX l u kind value eB known=(0,false,180):=hs7
  exact tR [I 0,.bool false,I 180] El U hX rd (congrArg (λr:(Int×Bool×Int)=>(.tuple #[I r.1,.bool r.2.1,I r.2.2]:Value)) hs9.symm)
 refine qT 5 U (aA (aV (cells:=[I kind]) dy ty3 zc3 U U kr (λb1=>aO 0 U hM (λh1 hle1 hb1=>?_))))
 have sl1:SlC kB h1 (some ⟨b1,0,none⟩) 1 ([kind]):=aY.slB0 (T:=3) (fz:=(0,0)) ((show aY kB h [I kind] ([kind])from⟨[I kind],[],rfl,rfl,rfl,rfl⟩).mono xH hle1) hb1
 refine ai wP (dN _ 0 15 _ _ _ sl1) U (qO 2 U (bL 5 [36,37,38,39,40,41] 36 41 (!(aQ 0 1099511627776 ([value]))) U (λc4 hk1=>?_) (λe=>?_)))
 .refine av (aA (aV (cells:=[I value]) dy ty3 zc3 U U kr (λb2=>aO 0 U hM (λh2 hle2 hb2=>?_))))
  have sl2:SlC kB h2 (some ⟨b2,0,none⟩) 1 ([value]):=aY.slB0 (T:=3) (fz:=(0,0)) ((show aY kB h1 [I value] ([value])from⟨[I value],[],rfl,rfl,rfl,rfl⟩).mono xH hle2) hb2
  exact ai wP (dN _ 0 1099511627776 _ _ _ sl2) U (qO 2 U (lg (h:=h1) hle2 hX hle1 (hk1 _ U)))
 refine av (bL 6 [42,43,44,45,46,47,48] 42 48 (!(aQ 0 1099511627775 ([eB,known]))) U (λc5 hk2=>?_) (λe=>?_))
 .refine qO 2 U (aA (aV (cells:=[I eB,I known]) dy ty3 zc3 U U kr (λb3=>aO 0 U hM (λh3 hle3 hb3=>?_))))
  have sl3:SlC kB h3 (some ⟨b3,0,none⟩) 2 ([eB,known]):=aY.slB0 (T:=3) (fz:=(0,0)) ((show aY kB h1 [I eB,I known] ([eB,known])from⟨[I eB],[I known],rfl,rfl,rfl,⟨[I known],[],rfl,rfl,rfl,rfl⟩⟩).mono xH hle3) hb3
  exact ai wP (dN _ 0 1099511627775 _ _ _ sl3) U (qO 2 U (lg (h:=h1) hle3 hX hle1 (hk2 _ U)))
 refine aI (ae hs8 U (λc6 hs10=>?_) (λc6 hs11=>?_))
 .refine qT 6 U ?_
  have hs12:bX l u kind value eB known=(0,false,1):=hs10
  exact tR [I 0,.bool false,I 1] El U hX rd (congrArg (λr:(Int×Bool×Int)=>(.tuple #[I r.1,.bool r.2.1,I r.2.2]:Value)) hs12.symm)
 refine qT 8 U (aA (cC call101 (zx _ _ _ _ kind eB known (hl.mono UK hle1) ob) U (λv1 h4 hle4 hp1=>?_)))
 obtain⟨rb1,rc1,rfl,sl4⟩:=hp1
 refine qL 3 [] U (ej (bW (L':=markB []) ap ?_))
 refine sQ (ι:=Nat×List Nat×HF) (λi=>[]) (λi=>marks i.2.1) (λi=>i.2.2) (λi=>markB i.2.1) (λi=>i.1<=(bQ l kind eB known).length/\bX l u kind value eB known=((bX.K1))/\xM h4 i.2.2) ?_ (λhx1=>?_)
 .rintro⟨i1,rs1,hh1⟩ ⟨ft,hs13,hl1⟩ e
  refine qT 6 U ?_
  have hs14:bX l u kind value eB known=((-1),true,0):=hs13
  exact bW (L':=([])++markB rs1) ap (sP rs1 [I (-1),.bool true,I 0] El U hX rd (congrArg (λr:(Int×Bool×Int)=>(.tuple #[I r.1,.bool r.2.1,I r.2.2]:Value)) hs14.symm))
 refine xh (ι:=Nat×List Nat×HF×List Budget) (λi=>[(1,.slice D3 u.length D2),(3,I value),(4,I eB),(5,I known),(53,.slice rb1 ((bQ l kind eB known).length) rc1),(54,I ((bQ l kind eB known).length:Int)),(55,I (i.1:Int))]) (λi=>marks i.2.1) (λi=>i.2.2.1) (λi=>markB i.2.1) (λi=>(bQ l kind eB known).drop i.1=i.2.2.2/\i.1<=(bQ l kind eB known).length/\bX l u kind value eB known=((bX.L1 u value eB known (bX.K1)) i.2.2.2)/\xM h4 i.2.2.1) (λi=>i.2.2.2.length) (0,[],h4,(bQ l kind eB known)) U rd sw ⟨U,qM _,hs11,lf⟩ ?_
 rintro⟨i1,rs1,hh1,s1⟩ ⟨hd1,ft,hs15,hl1⟩ ag1 e
 rcases s1 with _|⟨y1,rz1⟩
 .have fL:=oC hd1
  exact sr (fO fL U (qO 4 U (hx1 (i1,rs1,hh1) _ ⟨ft,hs15,hl1⟩ trivial)))
 have cY:=ul hd1
 have aJ:=tG hd1
 have dY:=iX hd1
 have gy:=sl4.1.1
 refine sr (tO cY U (qO 8 U (aA (iF zS zI ty101 (sl4.mono UK hl1).1 aJ U U U (λq2 A2=>dv ty101 A2 U U (aS zc101 (λb7=>aR 0 ty101 U U U U U U (qO 4 U (aS zc3 (λb8=>aS zc3 (λb9=>cK 1 ty3 U U U U U U (cK 0 ty3 U U U U U U (qO 4 U (cN 2 ty101 U U U (qO 3 U (aA (cC call102 (D0 _ y1 _ _ _ eB known (hu.mono Use.aj ((hle1.t hle4).t hl1)) (JK (by simpa using c1) (gj hd1))) U (λv3 h6 hle6 hp3=>?_))))))))))))))))))
 obtain⟨_,rfl,mo2⟩:=hp3
 refine qO 2 U ?_
 let z1:Nat×Obj:=(b7,O (zS y1) 101)
 refine bW (L':=([(b9,O [I value] 3),(b8,O [I 1] 3),z1])++markB rs1) ap ?_
 refine ke (it:=v3) (xs:=(pK y1 u eB known)) (ι:=Int×Int×HF) rs1 (λi=>i.2.2) (λi=>[(b9,O [I i.1] 3),(b8,O [I i.2.1] 3),z1]) (λs i=>bX l u kind value eB known=((bX.L3 (λzg3_b9_0 zg3_b8_0=>(bif(decide (y1.Count<zg3_b8_0)||decide (y1.Value<zg3_b9_0))then(y1.No,false,0)else(bX.L1 u value eB known (bX.K1) rz1)))) s i.1 i.2.1)/\xM h6 i.2.2) (λ_=>False) (λ_=>False) 0 (λ_ _ _=>False) (value,1,h6) El U mo2 U Dk (λ_ _ _ _ _ hq=>hq) U (show[(b9,O [I value] 3),(b8,O [I 1] 3),z1]=_ from U) ⟨hs15,lf⟩ ?_ ?_ ?_ ?_ ?_
 .rintro l3 dm3 lp3 y3 rz3 vs3 ⟨wh,yV,hh3⟩ hr3 X hFR3 ⟨hs17,hl3⟩ hl03 hlr3 hv3 hX hXM hlp3 nx3 rt3 ex3 pn3
  obtain rfl:=hv3
  exact bW (L':=[(l3,.loop lp3),(dm3,.deferred (some [])),(b9,O [I wh] 3),(b8,O [I yV] 3),z1]++(markB rs1)) ap (qT 3 U (j2 0 U hlp3 (qK 5 [3] U (cK 3 ty3 U U U U U U (qL 5 [2] U (cK 2 ty3 U U U U U U (qO 2 U (bW (L':=rdH l3 dm3 lp3 (([(b9,O [I (qE .i64 (wh+y3))] 3),(b8,O [I (qE .i64 (yV+1))] 3),z1])++markB rs1)) ap (nx3 ((qE .i64 (wh+y3)),(qE .i64 (yV+1)),hr3) _ _ ⟨hs17,(hl3.t hlr3)⟩ lf)))))))))
 .rintro dm3 ⟨wh,yV,hh3⟩ hn3 ⟨hs18,hl3⟩ hln3 hl03
  refine bW (L':=[(b9,O [I wh] 3),(b8,O [I yV] 3),z1]++(markB (dm3::rs1))) ap (qK 8 [1,2] U (bL 5 [75,76,77,78,79,80] 75 80 (decide (y1.Value<wh)) U (λc7 hk3=>?_) (λe=>?_)))
  .exact qL 5 [0,2] U (hk3 _ U)
  refine aI (ae hs18 U (λc8 hs19=>?_) (λc8 hs20=>?_))
  .refine qK 8 [2] U ?_
   have hs21:bX l u kind value eB known=(y1.No,false,0):=hs19
   exact bW (L':=([(b9,O [I wh] 3),(b8,O [I yV] 3),z1])++markB (dm3::rs1)) ap (sP (dm3::rs1) [I y1.No,.bool false,I 0] El U hX rd (congrArg (λr:(Int×Bool×Int)=>(.tuple #[I r.1,.bool r.2.1,I r.2.2]:Value)) hs21.symm))
  exact aH (qT 2 U (oi i1 U (qO 2 U (ba (L':=markB (dm3::rs1)) js (ag1 ((i1+1),(dm3::rs1),hn3,rz1) _ (Nat.lt_succ_self _) ⟨mK hd1,iX hd1,hs20,(((hl1.t hle6).t hl3).t hln3)⟩ rd)))))
 .exact xf
 .exact xf
 exact xf
theorem vg(h:HF)(t:Int)  : Ret prog 214 [I t] h (.bool (jW t)):=by
 refine sT func214 U ntmps214 U λX hM hX hF=>?_
 have hs0:=@rfl _ (jW t)
 refine qT 9 U (aU 4 [5,6,7,8,9] 5 9 (!(ga t)) U (λc1 hk1=>?_) (λe=>?_))
 .exact av (ai Oo (nM h t) U (qO 2 U (hk1 _ U)))
 exact an (nretP [.bool ((t != (-1))&&(!(ga t)))] (cs hs0))
theorem pW(h:HF)(l:List Document)(dU:Option Addr)(dT:Nat)(signed:List Int)(eA:Option Addr)(ey:Nat)(hl:SlC kV h dU dT l)(hsigned:SlC kB h eA ey signed):Ret prog 124 [.slice dU l.length dT,.slice eA signed.length ey] h (.bool (cW l signed)):=by
 refine sT func124 U ntmps124 U λX hM hX hF=>?_
 have hs0:=@rfl _ (cW l signed)
 refine qK 16 [] U (aU 5 [11,12,13,14,15,16] 11 16 (!(cI signed jW)) U (λc1 hk1=>?_) (λe=>?_))
 .exact av (av (ai Je (ie _ _ _ _ jW (.func (.func 214) #[] #[]) hsigned (λh' dE hle=>iK call214 (vg h' dE))) U (qO 2 U (hk1 _ U))))
 exact an (nretP [.bool (((signed.length:Int)==(l.length:Int))&&(!(cI signed jW)))] (cs hs0))
theorem AZ(h:HF)(x:List Int)(Q7:Option Addr)(QU:Nat)(hx:SlC kB h Q7 QU x)(hne:0<x.length):Ret prog 217 [.slice Q7 x.length QU] h (I (gm x)):=by
 refine sT func217 U ntmps217 U λX hM hX hF=>?_
 have hs0:=@rfl _ (gm x)
 refine qK 11 [] U (j1 U (λc1=>?_) (λc1=>?_))
 .exact absurd c1 (by simp only[decide_eq_true_eq,Bool.not_eq_true,decide_eq_false_iff_not];omega)
 have c1p:=of_decide_eq_false c1
 refine qT 4 U ?_
 have ho1:0<=(0:Int)/\(0:Int)<((x).length:Int):=ob
 refine aA (rO (enc:=λy=>[I y]) ei dy ty3 hx.1 ho1 (de ho1) U U U (λq1 A1=>dD ty3 A1 U (qO 7 U ?_)))
 refine iT (ι:=Nat×Int) (λi=>[(3,I i.2)]) (λi=>h) (λi=>[]) (λi=>i.1<=x.length/\gm x=((gm.K1) i.2)) ?_ (λhx1=>?_)
 .rintro⟨i1,iC⟩ ⟨ft,hs1⟩ e
  exact sr (qO 3 U (nretP [I iC] (ci hs1)))
 refine ls (ι:=Nat×Int×List Int) (λi=>[(0,.slice Q7 x.length QU),(3,I i.2.1),(4,I (i.1:Int))]) (λi=>h) (λi=>[]) (λi=>x.drop i.1=i.2.2/\i.1<=x.length/\gm x=((gm.L1 (gm.K1)) i.2.2 i.2.1)) (λi=>i.2.2.length) (1,(nthI x 0),(x.drop 1)) rd sw ⟨U,ob,hs0⟩ ?_
 rintro⟨i1,iC,s1⟩ ⟨hd1,ft,hs3⟩ ag1 e
 rcases s1 with _|⟨y1,rz1⟩
 .have fL:=oC hd1
  exact qK 6 [] U (fO fL U (qO 3 U (hx1 (i1,iC) _ ⟨ft,hs3⟩ rd)))
 have cY:=ul hd1
 have aJ:=tG hd1
 have dY:=iX hd1
 have gy:=hx.1.1
 exact qK 6 [] U (tO cY U (qO 9 U (aA (iF (λy=>[I y]) dy ty3 hx.1 aJ U U U (λq3 A3=>dD ty3 A3 U (aA (fj (QW U U) (qO 5 U (oi i1 U (an (ag1 ((i1+1),(min iC y1),rz1) _ (Nat.lt_succ_self _) ⟨mK hd1,iX hd1,hs3⟩ rd)))))))))))
theorem mY(h:HF)(p:fA)(gQ:tL)(p_q:Addr)(w6:Int)(bI:Int)(hp:fA.ok h p gQ)(ap_z:At h p_q (fA.cells p gQ))(hi:0<=w6/\w6<(p.shelf.docs.length:Int))(hlen:p.done.length=p.shelf.docs.length/\p.lacks.length=p.shelf.docs.length):Ret prog 127 [.pointer (some p_q),I w6,I bI] h (.tuple #[I ((cQ p w6 bI).1),I ((cQ p w6 bI).2)]):=by
 refine sT func127 U ntmps127 U λX hM hX hF=>?_
 have hs0:=@rfl _ (cQ p w6 bI)
 refine qT 8 U (aA (fj (fW U) (qL 2 [] U (dD ty27 ap_z U (av ?_)))))
 have ho1:0<=(w6:Int)/\(w6:Int)<((p.shelf.docs).length:Int):=ob
 refine aA (Ci sf ty51 hp.shelf.docs.1 ho1 (de ho1) U U U (λ_ _ _ e=>e) (λq1 r1 A1 ok1=>dv ty51 A1 U U (aS zc51 (λb1=>aR 0 ty51 U U U U U U (qO 6 U (aA (fj (fW U) (qL 1 [] U (jk (j:=3) ty57 ap_z U U (av ?_))))))))))
 have ho2:0<=(w6:Int)/\(w6:Int)<((p.done).length:Int):=ob
 refine aA (rO (enc:=λy=>[.bool y]) ei Hb ty4 hp.done.1 ho2 (de ho2) U U U (λq2 A2=>dD ty4 A2 U (qO 3 U (ae hs0 U (λc1 hs1=>?_) (λc1 hs2=>?_)))))
 .refine qT 5 U ?_
  have hs3:cQ p w6 bI=(1,(-1)):=hs1
  exact nretP [I 1,I (-1)] (hs3▸U)
 refine qT 3 U (aA (fj (fW U) (qL 1 [] U (jk (j:=4) ty31 ap_z U U (av ?_)))))
 have ho3:0<=(w6:Int)/\(w6:Int)<((p.lacks).length:Int):=ob
 refine aA (rO (enc:=λy=>[I y]) ei dy ty3 hp.lacks.1 ho3 (de ho3) U U U (λq3 A3=>dD ty3 A3 U (qO 3 U (ae hs2 U (λc2 hs4=>?_) (λc2 hs5=>?_)))))
 .have c2p:=of_decide_eq_true c2
  refine ew (eh ([(b1,O (qP (nthI p.shelf.docs w6) r1) 51)]) mixed kr jn (λdt _=>tm 0 U (tf 1 U U (λ_ _ _=>fW U) (qB [2] U (tf 3 U U (rH 4 ty31 ap_z U U) (tm 4 U ?_))))))
  have ho4:0<=(w6:Int)/\(w6:Int)<((p.lacks).length:Int):=ob
  refine cU 5 (enc:=λy=>[I y]) dt jn ei dy ty3 hp.lacks.1 ho4 (de ho4) U U U U kr (λq4 A4=>tf 6 U U (rh ty3 A4 U) (qA [7,8] U (aG kr ?_)))
  have hs6:cQ p w6 bI=(4,(nthI p.lacks w6)):=hs4
  exact nretP [I 4,I (nthI p.lacks w6)] (hs6▸U)
 have c2p:=of_decide_eq_false c2
 refine ew ?_
 let z1:Nat×Obj:=(b1,O (qP (nthI p.shelf.docs w6) r1) 51)
 refine eh ([z1]) mixed kr jn (λmF _=>?_)
 refine tm 0 U (tf 1 U U (λ_ _ _=>fW U) (qB [2] U (tf 3 U U (rH 5 ty236 ap_z U U) (qB [4] U (tf 5 U U (rj 0 ty3 U U U) (tn 6 U ?_))))))
 obtain⟨o1,hb1,hm1⟩:=hp.revoked
 refine od (k:=(nthI p.shelf.docs w6).No) I6 (fU ox) hb1 hm1 (fp zv31) (show(VSl kB) _ (.slice none 0 0) []from⟨none,0,U,vE⟩) U U (λv1 hv1=>?_)
 obtain⟨rb1,rc1,rfl,sl1⟩:=hv1
 refine⟨jn,(tf 7 U U (λ_ _ _=>JQ dy U) (qA [8,9] U (aG kr (ae hs5 U (λc3 hs7=>?_) (λc3 hs8=>?_)))))⟩
 .have c3p:=of_decide_eq_true c3
  refine ew (eh ([z1]) mixed kr jn (λML _=>tm 0 U (tf 1 U U (λ_ _ _=>fW U) (qB [2] U (tf 3 U U (rH 5 ty236 ap_z U U) (qB [4] U (tf 5 U U (rj 0 ty3 U U U) (tn 6 U ?_))))))))
  obtain⟨o2,hb2,hm2⟩:=hp.revoked
  refine od (k:=(nthI p.shelf.docs w6).No) I6 (fU ox) hb2 hm2 (fp zv31) (show(VSl kB) _ (.slice none 0 0) []from⟨none,0,U,vE⟩) U U (λv2 hv2=>?_)
  obtain⟨rb2,rc2,rfl,sl2⟩:=hv2
  refine⟨jn,(tn 7 U (et call217 (AZ _ _ _ _ sl2 ob) U (⟨jn,(qA [8,9] U (aG kr ?_))⟩)))⟩
  have hs9:cQ p w6 bI=(5,(gm (mgetD p.revoked ((nthI p.shelf.docs w6).No) []))):=hs7
  exact nretP [I 5,I (gm (mgetD p.revoked ((nthI p.shelf.docs w6).No) []))] (hs9▸U)
 have c3p:=of_decide_eq_false c3
 refine qK 8 [0] U (ae hs8 U (λc4 hs10=>?_) (λc4 hs11=>?_))
 .have c4p:=of_decide_eq_true c4
  refine qT 5 U ?_
  have hs12:cQ p w6 bI=(2,(-1)):=hs10
  exact nretP [I 2,I (-1)] (hs12▸U)
 have c4p:=of_decide_eq_false c4
 refine qK 8 [0] U (ae hs11 U (λc5 hs13=>?_) (λc5 hs14=>?_))
 .have c5p:=of_decide_eq_true c5
  refine qT 5 U ?_
  have hs15:cQ p w6 bI=(3,(-1)):=hs13
  exact nretP [I 3,I (-1)] (hs15▸U)
 have c5p:=of_decide_eq_false c5
 refine qT 7 U ?_
 have hs16:cQ p w6 bI=(0,(-1)):=hs14
 exact nretP [I 0,I (-1)] (hs16▸U)
theorem yU(cmp:Int->Int->Int):∀(j:Nat)(xs:List Int),(insIn cmp j xs).length=xs.length
 |0,xs=>rfl
 |j+1,xs=>by
  simp only[insIn,Bool.cond_eq_ite]
  split
  .rw[yU cmp j];simp
  rfl
theorem CC(cmp:Int->Int->Int):∀(j:Nat)(xs:List Int),j<xs.length->∀x∈insIn cmp j xs,x∈xs
 |0,xs,_,x,hx=>hx
 |j+1,xs,hj,x,hx=>by
  simp only[insIn,Bool.cond_eq_ite]at hx
  split at hx
  .have h1:=CC cmp j _ (by simp;omega) x hx
   rcases List.mem_or_eq_of_mem_set h1 with h1|rfl
   .rcases List.mem_or_eq_of_mem_set h1 with h1|rfl
    .exact h1
    simp[List.getD_eq_getElem?_getD,show j<xs.length by omega]
   simp[List.getD_eq_getElem?_getD,show j+1<xs.length by omega]
  exact hx
theorem Fu(cmp:Int->Int->Int):∀(m i:Nat)(xs:List Int),(insOut cmp m i xs).length=xs.length
 |0,_,_=>rfl
 |m+1,i,xs=>by simp only[insOut];rw[Fu cmp m,yU]
theorem EB(xs:List Int)(cmp:Int->Int->Int):(fB xs cmp).length=xs.length:=Fu _ _ _ _
theorem AX(j:Nat)(hj:j<9223372036854775807):zD .i64 (IntKind.i64.wrap (((j+1:Nat):Int)-1))=I (j:Int):=by
 rw[j0 ob];congr 1;omega
theorem oP(h:HF)(xs:List Int)(b:Option Addr)(c:Nat)(G:LH)(cmp:Int->Int->Int)(cmp_v:Value)(hG:cZ kB 3 h xs b c G)(hcmp:∀(h':HF)(dE Ef:Int),xM h h'->dE∈xs->Ef∈xs->uL prog cmp_v [I dE,I Ef] h' [] (I (cmp dE Ef)))(hsz:xs.length<=2000000):
  oo prog 364 [.slice b xs.length c,I 0,I (xs.length:Int),cmp_v].toArray h G (λr h' G'=>h'=h/\r=.returned (.tuple #[])/\cZ kB 3 h (fB xs cmp) b c G'):=by
 refine cH func364 U ntmps364 U λX hM hX=>qT 3 U (j9 (v':=I ((1:Nat):Int)) U U (an ?_))
 refine iT (ι:=List Int×LH) (λi=>[]) (λi=>h) (λi=>i.2) (λi=>i.1=fB xs cmp/\cZ kB 3 h i.1 b c i.2) ?_ (λhx=>?_)
 .rintro⟨ys,G'⟩ ⟨hs,hG'⟩ e
  dsimp only at hs hG'
  exact xi func364 (λa _ w _=>mP U a w) (λw hw=>hw.lower) ⟨hX,U,hs▸hG'⟩
 refine ls (ι:=Nat×List Int×LH) (λi=>[(0,.slice b xs.length c),(1,I 0),(2,I (xs.length:Int)),(3,cmp_v),(8,I (i.1:Int))]) (λi=>h) (λi=>i.2.2)
  (λi=>insOut cmp (xs.length-i.1) i.1 i.2.1=fB xs cmp/\1<=i.1/\i.2.1.length=xs.length/\(∀x∈i.2.1,x∈xs)/\cZ kB 3 h i.2.1 b c i.2.2) (λi=>xs.length-i.1) (1,xs,G) rd (λw hw=>hw) ⟨rfl,vG _,rfl,λ_ hx=>hx,hG⟩ ?_
 rintro⟨i,ys,G1⟩ ⟨hs,hi1,hyl,hym,hG1⟩ ag e
 dsimp only at hs hi1 hyl hym hG1
 rcases kM i xs.length with hi|hi
 .refine qT 5 U (tO (decide_eq_true ob) U (qO 10 U ?_))
  refine iT (ι:=List Int×LH) (λq=>[(0,.slice b xs.length c),(1,I 0),(2,I (xs.length:Int)),(3,cmp_v),(8,I (i:Int))]) (λq=>h) (λq=>q.2) (λq=>q.1=insIn cmp i ys/\cZ kB 3 h q.1 b c q.2) ?_ (λhy=>?_)
  .rintro⟨zs,G2⟩ ⟨hz,hG2⟩ e2
   dsimp only at hz hG2
   subst hz
   refine qT 3 U (oi i U (an (ag (i+1,insIn cmp i ys,G2) _ (by show xs.length-(i+1)<xs.length-i;omega) ⟨?_,by show 1<=i+1;omega,by show(insIn cmp i ys).length=xs.length;rw[yU];exact hyl,λx hx=>hym x (CC cmp i ys ob x hx),hG2⟩ rd)))
   show insOut cmp (xs.length-(i+1)) (i+1) (insIn cmp i ys)=_
   rw[←hs,show xs.length-i=(xs.length-(i+1))+1 from by omega];rfl
  refine ls (ι:=Nat×List Int×LH) (λq=>[(0,.slice b xs.length c),(1,I 0),(2,I (xs.length:Int)),(3,cmp_v),(8,I (i:Int)),(9,I (q.1:Int))]) (λq=>h) (λq=>q.2.2)
   (λq=>insIn cmp q.1 q.2.1=insIn cmp i ys/\q.1<=i/\q.2.1.length=xs.length/\(∀x∈q.2.1,x∈xs)/\cZ kB 3 h q.2.1 b c q.2.2) (λq=>q.1) (i,ys,G1) rd (λw hw=>hw) ⟨rfl,vG _,hyl,hym,hG1⟩ ?_
  rintro⟨j,zs,G2⟩ ⟨hz,hji,hzl,hzm,hG2⟩ ag2 e2
  dsimp only at hz hji hzl hzm hG2
  have J0:∀{L:LH},Jst h [] h L:=BA (List.nil_sublist _)
  obtain⟨bk,hbk⟩:=hG2.qp ob
  have JG:Jst h G2 h G2:=BA (List.Sublist.refl _)
  refine qT 2 U (eh G2 mixed kr JG (λhsep _=>iJ 0 hsep JG U U kr U (λ_ _ _=>mz) (iJ 1 hsep JG U U kr U (λ_ _ _=>mz) ?_)))
  rcases j with _|j
  .exact iJ 2 hsep JG U U kr U (λ_ _ _=>oy (v':=.bool false) U (cb (decide_eq_false ob))) (iJ 3 hsep JG U U kr U (λ_ _ _=>mz) (m9 4 hsep JG U U kr U (m9 5 hsep JG U U kr U (m9 6 hsep JG U U kr U (m9 7 hsep JG U U kr U (m9 8 hsep JG U U kr U (m9 9 hsep JG U U kr U (m9 10 hsep JG U U kr U (m9 11 hsep JG U U kr U (m9 12 hsep JG U U kr U (m9 13 hsep JG U U kr U (m9 14 hsep JG U U kr U (m9 15 hsep JG U U kr U (iJ 16 hsep JG U U kr U (λ_ _ _=>Lp U) (aG kr (qT 2 U (hy (zs,G2) _ ⟨hz,hG2⟩ rd)))))))))))))))))
  have hj1:zs[j+1]? = some (zs.getD (j+1) 0):=by simp[List.getD_eq_getElem?_getD,show j+1<zs.length by omega]
  have hj0:zs[j]? = some (zs.getD j 0):=by simp[List.getD_eq_getElem?_getD,show j<zs.length by omega]
  have hjn:(((j+1:Nat):Int)).toNat=j+1:=by omega
  have hjn0:((j:Int)).toNat=j:=by omega
  refine iJ 2 hsep JG U U kr U (λ_ _ _=>oy (v':=.bool true) U (cb (decide_eq_true ob))) (iJ 3 hsep JG U U kr U (λ_ _ _=>mz) (iJ 4 hsep JG U U kr U (λ_ _ _=>mz) (iJ 5 hsep JG U U kr U (λ_ _ _=>mz) (iJ 6 hsep JG U U kr U (λ_ _ _=>mz) (iJ 7 hsep JG U U kr U (λ_ _ _=>nB (R:=kB) (xs:=zs) (z:=((j+1:Nat):Int)) dy ty3 hbk ob U hzl.symm U) (iJ 8 hsep JG U U kr U (λ_ _ hj=>Bu (R:=kB) (off:=0) (i:=j+1) ty3 hG2 hbk hj1 (λcs_z hcs=>by rw[show cs_z=[I (zs.getD (j+1) 0)]from hcs];rfl) (by rfl) (λp hp=>hj.2 p hp)) (iJ 9 hsep JG U U kr U (λ_ _ _=>mz) (iJ 10 hsep JG U U kr U (λ_ _ _=>mz) (iJ 11 hsep JG U U kr U (λ_ _ _=>oy (v':=I (j:Int)) U (AX j ob)) (iJ 12 hsep JG U U kr U (λ_ _ _=>nB (R:=kB) (xs:=zs) (z:=(j:Int)) dy ty3 hbk ob U hzl.symm U) (iJ 13 hsep JG U U kr U (λ_ _ hj=>Bu (R:=kB) (off:=0) (i:=j) ty3 hG2 hbk hj0 (λcs_z hcs=>by rw[show cs_z=[I (zs.getD j 0)]from hcs];rfl) (by rfl) (λp hp=>hj.2 p hp)) (tn 14 U (mG (v:=I (cmp (zs.getD (j+1) 0) (zs.getD j 0))) [] (List.nil_sublist _) (hcmp h (zs.getD (j+1) 0) (zs.getD j 0) lf (hzm _ (vF hj1)) (hzm _ (vF hj0))) U U ⟨JG,iJ 15 hsep JG U U kr U (λ_ _ _=>MC U) (iJ 16 hsep JG U U kr U (λ_ _ _=>Lp U) (aG kr (j1 U (λhc=>aH ?_) (λhc=>?_))))⟩)))))))))))))
  .refine qT 2 U (eh [] mixed kr J0 (λmF _=>iJ 0 mF J0 U U kr U (λ_ _ _=>mz) (iJ 1 mF J0 U U kr U (λ_ _ _=>mz) (iJ 5 mF J0 U U kr U (λ_ _ _=>mz) (iJ 6 mF J0 U U kr U (λ_ _ _=>mz) (iJ 2 mF J0 U U kr U (λ_ _ _=>mz) (iJ 3 mF J0 U U kr U (λ_ _ _=>mz) (iJ 4 mF J0 U U kr U (λ_ _ _=>oy (v':=I (j:Int)) U (AX j ob)) (iJ 7 mF J0 U U kr U (λ_ _ _=>oy (v':=I (j:Int)) U (AX j ob)) (iJ 8 mF J0 U U kr U (λ_ _ _=>nB (R:=kB) (xs:=zs) (z:=(j:Int)) dy ty3 hbk ob U hzl.symm U) (iJ 10 mF J0 U U kr U (λ_ _ _=>mz) (iJ 11 mF J0 U U kr U (λ_ _ _=>mz) (iJ 12 mF J0 U U kr U (λ_ _ _=>nB (R:=kB) (xs:=zs) (z:=((j+1:Nat):Int)) dy ty3 hbk ob U hzl.symm U) ?_)))))))))))))
   refine lY 9 13 kr U U
    (fj (Bu (R:=kB) (off:=0) (i:=j) ty3 hG2 hbk hj0 (λcs_z hcs=>by rw[show cs_z=[I (zs.getD j 0)]from hcs];rfl) (by rfl) (λp hp=>hp)) ⟨J0,tn 13 rfl (fj (Bu (R:=kB) (off:=0) (i:=j+1) ty3 hG2 hbk hj1 (λcs_z hcs=>by rw[show cs_z=[I (zs.getD (j+1) 0)]from hcs];rfl) (by rfl) (λp hp=>hp)) ⟨J0,?_⟩)⟩)
    (fj (Bu (R:=kB) (off:=0) (i:=j+1) ty3 hG2 hbk hj1 (λcs_z hcs=>by rw[show cs_z=[I (zs.getD (j+1) 0)]from hcs];rfl) (by rfl) (λp hp=>hp)) ⟨J0,tn 9 rfl (fj (Bu (R:=kB) (off:=0) (i:=j) ty3 hG2 hbk hj0 (λcs_z hcs=>by rw[show cs_z=[I (zs.getD j 0)]from hcs];rfl) (by rfl) (λp hp=>hp)) ⟨J0,?_⟩)⟩)
   all_goals
    refine iJ 14 mF J0 U U kr U (λ_ _ _=>nB (R:=kB) (xs:=zs) (z:=((j+1:Nat):Int)) dy ty3 hbk ob U hzl.symm U) (tn 15 U (JC (R:=kB) (i:=j+1) (off:=0) (u:=zs.getD (j+1) 0) (u':=zs.getD j 0) (v:=I (zs.getD j 0)) [] G2 [] ty3 U hG2 (by simp) hbk hj1 (by decide) (λcs_z hcs=>by rw[show cs_z=[I (zs.getD (j+1) 0)]from hcs];rfl) (by rfl) U U (λG3 hG3=>⟨J0,?_⟩)))
    rw[kF,List.append_nil]
    refine iJ 16 mF J0 U U kr U (λ_ _ _=>nB (R:=kB) (xs:=zs) (z:=(j:Int)) dy ty3 hbk ob U hzl.symm U) ?_
    have hj0':(zs.set (j+1) (zs.getD j 0))[j]? = some (zs.getD j 0):=by rw[List.getElem?_set_ne ob];exact hj0
    refine tn 17 U (JC (R:=kB) (i:=j) (off:=0) (u:=zs.getD j 0) (u':=zs.getD (j+1) 0) (v:=I (zs.getD (j+1) 0)) [] G3 [] ty3 U hG3 (by simp) hbk hj0' (by decide) (λcs_z hcs=>by rw[show cs_z=[I (zs.getD j 0)]from hcs];rfl) (by rfl) U U (λG4 hG4=>⟨J0,?_⟩))
    rw[kF,List.append_nil]
    refine aG kr (qT 3 U (j9 (v':=I (j:Int)) U (AX j ob) (an (ag2 (j,(zs.set (j+1) (zs.getD j 0)).set j (zs.getD (j+1) 0),G4) _ (Nat.lt_succ_self _) ⟨?_,by show j<=i;omega,by show((zs.set (j+1) (zs.getD j 0)).set j (zs.getD (j+1) 0)).length=xs.length;simpa using hzl,λx hx=>(List.mem_or_eq_of_mem_set hx).elim (λhx=>(List.mem_or_eq_of_mem_set hx).elim (hzm x) (λhx=>hx▸hzm _ (vF hj0))) (λhx=>hx▸hzm _ (vF hj1)),hG4⟩ rd))))
    show insIn cmp j ((zs.set (j+1) (zs.getD j 0)).set j (zs.getD (j+1) 0))=insIn cmp i ys
    rw[←hz];simp only[insIn,hc,cond_true]
  refine lM U (hy (zs,G2) _ ⟨?_,hG2⟩ rd)
  show zs=insIn cmp i ys
  rw[←hz];simp only[insIn,hc,cond_false]
 refine qT 5 U (fO (decide_eq_false ob) U (qO 3 U (hx (ys,G1) _ ⟨?_,hG1⟩ trivial)))
 show ys=_
 rw[←hs,show xs.length-i=0 from by omega];rfl
theorem si(h:HF)(xs:List Int)(b:Option Addr)(c:Nat)(G:LH)(cmp:Int->Int->Int)(cmp_v:Value)(hG:cZ kB 3 h xs b c G)(hcmp:∀(h':HF)(dE Ef:Int),xM h h'->dE∈xs->Ef∈xs->uL prog cmp_v [I dE,I Ef] h' [] (I (cmp dE Ef)))(hsz:xs.length<20):
  oo prog 332 [.slice b xs.length c,I (xs.length:Int),cmp_v].toArray h G (λr h' G'=>h'=h/\r=.returned (.tuple #[])/\cZ kB 3 h (fB xs cmp) b c G'):=by
 refine cH func332 U ntmps332 U λX hM hX=>qT 12 U (Es (qT 5 U (fO (decide_eq_false ob) U (qO 9 U (aA (nQ [] G [] call364 (oP h xs b c G cmp cmp_v hG hcmp ob) (by simp) U (λG2 hG2=>?_)))))))
 rw[kF,List.append_nil]
 exact aI (mM (Es (qT 5 U (fO (decide_eq_false ob) U (qO 3 U (xi func332 (λa _ w _=>mP U a w) (λw hw=>hw.lower) ⟨hX,U,hG2⟩))))))
theorem rM(h:HF)(xs:List Int)(b:Option Addr)(c:Nat)(G:LH)(cmp:Int->Int->Int)(cmp_v:Value)(hG:cZ kB 3 h xs b c G)(hcmp:∀(h':HF)(dE Ef:Int),xM h h'->dE∈xs->Ef∈xs->uL prog cmp_v [I dE,I Ef] h' [] (I (cmp dE Ef)))(hsz:xs.length<20):
  oo prog 290 [.slice b xs.length c,cmp_v].toArray h G (λr h' G'=>h'=h/\r=.returned (.tuple #[])/\cZ kB 3 h (fB xs cmp) b c G'):=by
 refine cH func290 U ntmps290 U λX hM hX=>qK 5 [] U (aA (nQ [] G [] call332 (si h xs b c G cmp cmp_v hG hcmp hsz) (by simp) U (λG2 hG2=>?_)))
 rw[kF,List.append_nil]
 exact aI (xi func290 (λa _ w _=>mP U a w) (λw hw=>hw.lower) ⟨hX,U,hG2⟩)
theorem AL(h:HF)(x:Int)(y:Int)  : Ret prog 118 [I x,I y] h (I (cmp_Compare_int x y)):=by
 refine sT func118 U ntmps118 U λX hM hX hF=>?_
 have hs0:=@rfl _ (cmp_Compare_int x y)
 refine qT 7 U (ai call211 (vh h x) U (qO 5 U (ai call211 (vh h y) U (qO 7 U (ae hs0 U (λc1 hs1=>?_) (λc1 hs2=>?_))))))
 .refine qT 5 U (ae hs1 U (λc2 hs3=>?_) (λc2 hs4=>?_))
  .exact sr (an (nretP [I 0] (ci hs3)))
  exact aH (qT 4 U (nretP [I (-1)] (ci hs4)))
 refine qT 6 U (ae hs2 U (λc3 hs7=>?_) (λc3 hs8=>?_))
 .exact sr (an (nretP [I 1] (ci hs7)))
 refine qT 8 U (ae hs8 U (λc4 hs10=>?_) (λc4 hs11=>?_))
 .have c4p:=of_decide_eq_true c4
  exact sr (an (nretP [I (-1)] (ci hs10)))
 have c4p:=of_decide_eq_false c4
 refine qT 8 U (ae hs11 U (λc5 hs13=>?_) (λc5 hs14=>?_))
 .have c5p:=of_decide_eq_true c5
  exact sr (an (nretP [I 1] (ci hs13)))
 have c5p:=of_decide_eq_false c5
 exact aH (qT 4 U (nretP [I 0] (ci hs14)))
theorem rW(h:HF)(a:Int)(jy:Int)(p:pO)(gQ:Nc)(p_p:Addr)(p_q:Addr)(hp:pO.ok h p gQ)(pp:At h p_p (pO.cells p gQ))(ap_z:At h p_q [.pointer (some p_p)])(ha:0<=a/\a<(p.signed.length:Int))(hb:0<=jy/\jy<(p.signed.length:Int)):Ret prog 291 [I a,I jy,.pointer (some p_q)] h (I (i8 a jy p)):=by
 refine sT func291 U ntmps291 U λX hM hX hF=>?_
 have hs0:=@rfl _ (i8 a jy p)
 refine qT 5 U (eh ([]) mixed kr jn (λdt _=>tf 0 U U (rh ty211 ap_z U) (tf 1 U U (λ_ _ _=>fW U) (qB [2] U (tf 3 U U (rH 2 ty31 pp U U) (tm 4 U ?_))))))
 have ho1:0<=(a:Int)/\(a:Int)<((p.signed).length:Int):=ob
 refine cU 5 (enc:=λy=>[I y]) dt jn ei dy ty3 hp.signed.1 ho1 (de ho1) U U U U kr (λq1 A1=>tf 6 U U (rh ty3 A1 U) (tf 7 U U (rh ty211 ap_z U) (tf 8 U U (λ_ _ _=>fW U) (qB [9] U (tf 10 U U (rH 2 ty31 pp U U) (tm 11 U ?_))))))
 have ho2:0<=(jy:Int)/\(jy:Int)<((p.signed).length:Int):=ob
 exact cU 12 (enc:=λy=>[I y]) dt jn ei dy ty3 hp.signed.1 ho2 (de ho2) U U U U kr (λq2 A2=>tf 13 U U (rh ty3 A2 U) (tn 14 U (et call118 (AL h (nthI p.signed a) (nthI p.signed jy)) U (⟨jn,(qA [15] U (aG kr (nretP [I (cmp_Compare_int (nthI p.signed a) (nthI p.signed jy))] (ci hs0))))⟩))))
theorem vv(h:HF)(v0:List Int)(uv:Option Addr)(uu:Nat)(v0_q:Addr)(hv0:SlC kB h uv uu v0)(av0:At h v0_q [.slice uv v0.length uu]):Itr prog (.func (.func 333) #[] (vB [.pointer (some v0_q)])) yT (da v0) h:=by
 refine tq call333 ?_
 intro yf ya yb C Sp Pn h1 A hle m1 m2 m3 hC hy
 refine jz Oc U ntmps333 U λX hXM hX=>?_
 have hs0:da v0=[]++da v0:=rfl
 refine sr (dD ty31 (av0.mono hle) U (qL 3 [] U ?_))
 refine lp2 v0 (λi w=>[(0,.func yf ya yb),(5,.slice uv v0.length uu),(6,I (v0.length:Int)),(7,I (i:Int))]) (λw=>w.2.2) (λw=>w.2.1) (λi w=>C w.1 w.2.2 w.2.1/\xM h1 w.2.2) (λs1 i w=>w.1++(da.L1 (da.K1)) s1) ([],A,h1) ((hv0.mono xH hle).1.1) hs0 ⟨hC,lf⟩ ?_ ?_
 .rintro i1 ⟨dn1,A1_,hh1⟩ ft hs1 ⟨hC1_,hl1⟩ e
  refine ej ?_
  have hs2:da v0=dn1:=hs1.trans (List.append_nil _)
  exact tr [] (A:=A1_) Oc U (List.Sublist.refl _) (.inl (hs2▸hC1_))
 rintro i1 ⟨dn1,A1_,hh1⟩ y1 rz1 hd1 cY aJ dY gy hs3 ⟨hC1_,hl1⟩ hx1 ag1 e
 refine sr (tO cY U (qO 8 U (aA (iF (λy=>[I y]) dy ty3 (hv0.mono xH (hle.t hl1)).1 aJ U U U (λq2 A5=>dD ty3 A5 U (qO 6 U ?_))))))
 have hx2:da v0=dn1++(y1::(da.L1 (da.K1) rz1)):=hs3
 refine aA (lv ([]) A1_ ap (hy dn1 y1 _ _ _ _ hx2 hl1 hC1_ U) U U (λh5 A6 hle4 hC2=>?_) (λh6 A7 hle5 hS2=>?_) (λch2 h7 A8 hle6 hP2 e=>gK (nC [] (A:=A8) Oc (List.sublist_append_right _ _) hP2)))
 .have hs4:da v0=(dn1++[y1])++((da.L1 (da.K1) rz1)):=hx2.trans ap
  exact nF U (qO 5 U (oi i1 U (qO 2 U (ag1 ((dn1++[y1]),A6,h5) hs4 ⟨hC2,(hl1.t hle4)⟩))))
 exact nF U (qO 2 U (ej (nn [] (A:=A7) Oc U (List.Sublist.refl _) (.inr hS2))))
theorem xm(h:HF)(s:List Int)(sY:Option Addr)(sX:Nat)(hs:SlC kB h sY sX s):i9 prog 292 [.slice sY s.length sX] h (λv h'=>∃(rv0:Value),v=rv0/\Itr prog rv0 yT (lu s) h'):=by
 refine sT func292 U ntmps292 U λX hM hX hF=>?_
 have hs0:=@rfl _ (lu s)
 refine sr (bS (λb1=>qO 4 U (aO 0 U hM (λh1 hle1 hb1=>aA (eI U U (an ?_))))))
 have hs1:lu s=(da s):=hs0
 exact nretH [.func (.func 333) #[] #[Q b1]] (hs1▸⟨(.func (.func 333) #[] #[Q b1]),U,(vv h1 s sY sX ⟨b1,0,none⟩ (hs.mono xH hle1) (cz hb1))⟩)
theorem tE(h:HF)(p:pO)(gQ:Nc)(p_q:Addr)(eU:Int)(hp:pO.ok h p gQ)(ap_z:At h p_q (pO.cells p gQ))(hsg:p.signed.length<20):i9 prog 215 [.pointer (some p_q),I eU] h (λv h'=>∃(rv0:Value),v=rv0/\Itr prog rv0 yT (bP p eU) h'):=by
 refine sT func215 U ntmps215 U λX hM hX hF=>?_
 have hs0:=@rfl _ (bP p eU)
 refine sr (bS (λb1=>qL 10 [0] U (aA (fj (fW U) (qL 1 [] U (jk (j:=2) ty31 ap_z U U (qL 3 [] U ?_)))))))
 let z1:Nat×Obj:=(b1,O [.pointer (some p_q)] 211)
 refine lp2 p.signed (λi w=>[(1,I eU),(2,Q b1),(5,.slice w.2.1 w.1.length w.2.2.1),(11,.slice gQ.eA p.signed.length gQ.ey),(12,I (p.signed.length:Int)),(13,I (i:Int))]) (λ_=>h) (λw=>[z1]++(w.2.2.2)) (λi w=>cZ kB 3 h w.1 w.2.1 w.2.2.1 w.2.2.2/\w.1.length<=0+i/\(∀x∈w.1,0<=x/\x<(p.signed.length:Int))) (λs1 i w=>(bP.L1 eU (bP.K1 p)) s1 i w.1) ([],none,0,[]) hp.signed.1.1 hs0 ⟨cZ.nil,lo,(λx hx=>(vA hx).elim)⟩ ?_ ?_
 .rintro i1 ⟨jm,PA,Pz,MP⟩ ft hs1 ⟨HH,Py,u1_0⟩ e
  try dsimp only at HH Py u1_0
  refine qT 3 U (aO 0 U hM (λh1 hle1 hb1=>aA (eI U U (aA (nQ ([]) MP ([]) call290 (rM h1 jm PA Pz MP (λdE Ef=>i8 dE Ef p) (.func (.func 291) #[] #[Q b1]) (HH.mono xH hle1) (λh' dE Ef hle Pf R3=>iK call291 (rW h' dE Ef p gQ p_q ⟨b1,0,none⟩  ((hp.mono hle1).mono hle) ((ap_z.mono hle1).mono hle) ((cz hb1).mono hle) (u1_0 _ Pf) (u1_0 _ R3))) (by first|assumption|omega)) ap U (λG1 gr1=>iO (L':=G1) ap (qO 4 U (sR xH ([]) G1 ([]) ap hM gr1 (λh2 hle2 sl1=>aA (cC call292 (xm _ _ _ _ sl1) (by first|rfl|(simp only[EB,iV];rfl)) (λv1 h3 hle3 hp1=>?_)))))))))))
  obtain⟨_,rfl,mo1⟩:=hp1
  refine an ?_
  have hs2:bP p eU=(lu (fB jm (λdE Ef=>i8 dE Ef p))):=hs1
  exact nretH [v1] (hs2▸⟨v1,U,mo1⟩)
 rintro i1 ⟨jm,PA,Pz,MP⟩ y1 rz1 hd1 cY aJ dY gy hs3 ⟨HH,Py,u1_0⟩ hx1 ag1 e
 try dsimp only at HH Py u1_0
 refine sr (tO cY U (qO 9 U (aA (iF (λy=>[I y]) dy ty3 hp.signed.1 aJ U U U (λq2 A2=>dD ty3 A2 U (qO 8 U (aU 4 [20,21,22,23,24] 20 24 (decide (y1<=eU)) U (λc1 hk1=>?_) (λe=>?_))))))))
 .exact av (qO 3 U (hk1 _ U))
 refine aI (ae hs3 U (λc2 hs4=>?_) (λc2 hs5=>?_))
 .exact bC (qO 2 U (aA (aV (cells:=[I (i1:Int)]) dy ty3 zc3 U U kr (λb2=>aA (cd SL ([(b2,O [I (i1:Int)] 3),z1]) ([]) (λG=>[(b2,O [I (i1:Int)] 3),z1]++G) ap (λ_=>ap) dy ty3 zc3 U bytes3 HH U U (dX 0 U (cE (i1:Int) U U)) lo lo (λob1 oc1 G2 gr2=>qO 4 U (oi i1 U (qO 2 U (ba (L':=[z1]++G2) js (ag1 ((jm++[(i1:Int)]),ob1,oc1,G2) hs4 ⟨gr2,lo,(by first|assumption|exact λx hx=>(jE.1 hx).elim (u1_0 x) (λhx=>by rw[qC.1 hx];omega))⟩))))))))))
 exact aH (qT 2 U (oi i1 U (qO 2 U (ag1 (jm,PA,Pz,MP) hs5 ⟨HH,lo,(by first|assumption|exact λx hx=>(jE.1 hx).elim (u1_0 x) (λhx=>by rw[qC.1 hx];omega))⟩))))
theorem uC(h:HF)(v0:List Int)(uv:Option Addr)(uu:Nat)(v0_q:Addr)(hv0:SlC kB h uv uu v0)(av0:At h v0_q [.slice uv v0.length uu]):Itr prog (.func (.func 293) #[] (vB [.pointer (some v0_q)])) ym (iE v0) h:=by
 refine tq call293 ?_
 intro yf ya yb C Sp Pn h1 A hle m1 m2 m3 hC hy
 refine jz Ob U ntmps293 U λX hXM hX=>?_
 have hbd:=hv0.1.1
 refine sr (dD ty31 (av0.mono hle) U (qL 1 [] U (j9 (v':=I ((v0.length:Int)-1)) U (j0 ob) (qO 3 U ?_))))
 refine ls (ι:=Nat×List (Int×Int)×LH×HF) (λi=>[(0,.func yf ya yb),(1,.pointer (some v0_q)),(3,I ((i.1:Int)-1))]) (λi=>i.2.2.2) (λi=>i.2.2.1)
  (λi=>iE v0=i.2.1++backL v0 i.1/\i.1<=v0.length/\C i.2.1 i.2.2.2 i.2.2.1/\xM h1 i.2.2.2) (λi=>i.1) (v0.length,[],A,h1) rd (λw hw=>hw) ⟨rfl,vG _,hC,qQ _⟩ ?_
 rintro⟨m,dn,A1,hh⟩ ⟨hs,hm,hC1,hl1⟩ ag e
 dsimp only at hs hm hC1 hl1
 rcases m with _|m
 .exact ew (qT 3 U (fO (decide_eq_false ob) U (qO 3 U (ej (tr [] (A:=A1) Ob U (List.Sublist.refl _) (.inl ((show iE v0=dn from hs.trans (List.append_nil _))▸hC1)))))))
 have e1:(((m+1:Nat):Int)-1)=(m:Int):=by omega
 rw[e1]
 have ho:0<=(m:Int)/\(m:Int)<(v0.length:Int):=by omega
 refine qT 4 U (tO (decide_eq_true ob) U (qO 9 U (dD ty31 (av0.mono (hle.t hl1)) U (av (aA (rO (enc:=λy=>[I y]) ei dy ty3 (hv0.mono xH (hle.t hl1)).1 ho (de ho) U U U (λq2 A5=>dD ty3 A5 U ?_)))))))
 have hx:iE v0=dn++(((m:Int),nthI v0 (m:Int))::backL v0 m):=hs
 refine aA (lv ([]) A1 U (hy dn ((m:Int),nthI v0 (m:Int)) _ _ _ _ hx hl1 hC1 U) U U (λh5 A6 hle4 hC2=>?_) (λh6 A7 hle5 hS2=>?_) (λch2 h7 A8 hle6 hP2 e=>gK (nC [] (A:=A8) Ob (List.sublist_append_right _ _) hP2)))
 .have hs4:iE v0=(dn++[((m:Int),nthI v0 (m:Int))])++backL v0 m:=hx.trans ap
  exact nF U (qO 6 U (j9 (v':=I ((m:Int)-1)) U (j0 ob) (an (ag (m,dn++[((m:Int),nthI v0 (m:Int))],A6,h5) _ (Nat.lt_succ_self _) ⟨hs4,by show m<=v0.length;omega,hC2,xG hl1 hle4⟩ rd))))
 exact nF U (qO 2 U (ej (nn [] (A:=A7) Ob U (List.Sublist.refl _) (.inr hS2))))
theorem vw(h:HF)(s:List Int)(sY:Option Addr)(sX:Nat)(hs:SlC kB h sY sX s):i9 prog 216 [.slice sY s.length sX] h (λv h'=>∃(rv0:Value),v=rv0/\Itr prog rv0 ym (kg s) h'):=by
 refine sT func216 U ntmps216 U λX hM hX hF=>?_
 have hs0:=@rfl _ (kg s)
 refine sr (bS (λb1=>qO 4 U (aO 0 U hM (λh1 hle1 hb1=>aA (eI U U (an ?_))))))
 have hs1:kg s=(iE s):=hs0
 exact nretH [.func (.func 293) #[] #[Q b1]] (hs1▸⟨(.func (.func 293) #[] #[Q b1]),U,(uC h1 s sY sX ⟨b1,0,none⟩ (hs.mono xH hle1) (cz hb1))⟩)
theorem KZ(s:List Int):lu s=s:=by
  show da.L1 da.K1 s=s
  induction s with
  |nil=>rfl
  |cons y s ih=>simp only[da.L1,ih]
theorem Ft(cmp:Int->Int->Int):∀(m i:Nat)(xs:List Int),m=0\/i+m<=xs.length->∀x∈insOut cmp m i xs,x∈xs
  |0,_,_,_,x,hx=>hx
  |m+1,i,xs,h,x,hx=>by
    simp only[insOut]at hx
    exact CC cmp i xs ob x (Ft cmp m (i+1) _ (by rw[yU];omega) x hx)
theorem Le(xs:List Int)(cmp:Int->Int->Int):∀x∈fB xs cmp,x∈xs:=Ft _ _ _ _ ob
theorem EE(p:fA)(bI:Int):∀(s:List Int)(i:Nat)(g:List Int),(∀x∈g,0<=x/\x<(i:Int))->g.length<=i ->
  (∀x∈bP.L1 bI (bP.K1 p) s i g,0<=x/\x<((i+s.length:Nat):Int))/\(bP.L1 bI (bP.K1 p) s i g).length<=i+s.length:=by
 intro s
 induction s with
 |nil=>
  intro i g hg hl
  simp only[bP.L1,bP.K1,KZ,jC,Nat.add_zero,EB]
  exact⟨λx hx=>hg x (Le _ _ x hx),hl⟩
 |cons y s ih=>
  intro i g hg hl
  have e1:i+(y::s).length=(i+1)+s.length:=by simp only[xA];omega
  rw[e1]
  simp only[bP.L1,Bool.cond_eq_ite]
  split
  .refine ih (i+1) _ (λx hx=>?_) lo
   rcases jE.1 hx with hx|hx
   .have:=hg x hx;omega
   rw[qC.1 hx];omega
  exact ih (i+1) g (λx hx=>by have:=hg x hx;omega) ob
theorem Jy(p:fA)(bI:Int):∀x∈bP p bI,0<=x/\x<(p.signed.length:Int):=by
  have:=(EE p bI p.signed 0 [] (λ_ h=>(vA h).elim) (vG _)).1
  simpa[bP]using this
theorem Jx(p:fA)(bI:Int):(bP p bI).length<=p.signed.length:=by
  have:=(EE p bI p.signed 0 [] (λ_ h=>(vA h).elim) (vG _)).2
  simpa[bP]using this
theorem V3i.mono:Af V3i:=λ_ _ _ _ _ e=>e
theorem FRi.mono{h h':HF}(hl:h.le h'):∀{m:List (Int×Option Addr×Nat×Nat)}{f:List (Int×List Int)}{G:LH},FRi h m f G->FRi h' m f G
  |[],[],_,e=>e
  |(_,_)::_,(_,_)::_,_,⟨a,b,G1,G2,c,d,t⟩=>⟨a,b,G1,G2,c,d.mono xH hl,FRi.mono hl t⟩
  |[],(_,_)::_,_,x=>x.elim
  |(_,_)::_,[],_,x=>x.elim
theorem FRi.get{h:HF}(k:Int):∀{m:List (Int×Option Addr×Nat×Nat)}{f:List (Int×List Int)}{G:LH},FRi h m f G ->
  ∃b c G1 G2,mgetD m k (none,0,0)=(b,(mgetD f k []).length,c)/\cZ kB 3 h (mgetD f k []) b c G1/\G.Perm (G1++G2) /\
   ∀b' c' xs' G1',cZ kB 3 h xs' b' c' G1'->∃G',FRi h (mput m k (b',xs'.length,c')) (mput f k xs') G'/\G'.Perm (G1'++G2)
 |[],[],G,e=>by
  subst e
  refine⟨none,0,[],[],U,cZ.nil,List.Perm.refl _,λb' c' xs' G1' hG=>⟨G1',⟨U,U,G1',[],by simp,hG,U⟩,by simp⟩⟩
 |(k0,x)::m,(k',xs)::f,G,⟨e,hn,G1,G2,hG,hg,t⟩=>by
  subst e hG
  by_cases hk:k=k0
  .subst hk
   refine⟨x.1,x.2.2,G1,G2,?_,?_,List.Perm.refl _,λb' c' xs' G1' hG'=>⟨G1'++G2,?_,List.Perm.refl _⟩⟩
   .simp[mgetD,mget?,←hn]
   .simpa[mgetD,mget?]using hg
   simp only[mput,if_true]
   exact⟨U,U,G1',G2,U,hG',t⟩
  obtain⟨b,c,H1,H2,h1,h2,h3,h4⟩:=FRi.get k t
  refine⟨b,c,H1,G1++H2,?_,?_,?_,λb' c' xs' G1' hG'=>?_⟩
  .simpa[mgetD,mget?,hk]using h1
  .simpa[mgetD,mget?,hk]using h2
  .refine(List.Perm.append_left G1 h3).trans ?_
   rw[←vD,←vD];exact List.Perm.append_right H2 kH
  obtain⟨G',g1,g2⟩:=h4 b' c' xs' G1' hG'
  refine⟨G1++G',?_,?_⟩
  .simp only[mput,hk,if_false]
   exact⟨U,hn,G1,G',U,hg,g1⟩
  refine(List.Perm.append_left G1 g2).trans ?_
  rw[←vD,←vD];exact List.Perm.append_right H2 kH
 |[],(_,_)::_,_,x=>x.elim
 |(_,_)::_,[],_,x=>x.elim
theorem FRi.keys{h:HF}:∀{m:List (Int×Option Addr×Nat×Nat)}{f:List (Int×List Int)}{G:LH},FRi h m f G->m.map (·.1)=f.map (·.1)
  |[],[],_,_=>rfl
  |(_,_)::_,(_,_)::_,_,⟨a,_,_,_,_,_,t⟩=>by simp[a,FRi.keys t]
  |[],(_,_)::_,_,x=>x.elim
  |(_,_)::_,[],_,x=>x.elim
theorem FRi.mem{h:HF}:∀{m:List (Int×Option Addr×Nat×Nat)}{f:List (Int×List Int)}{G:LH},FRi h m f G->(m.map (·.1)).Nodup->∀p∈m,p.2.2.1=(mgetD f p.1 []).length/\∃G1,(∀q∈G1,q∈G)/\cZ kB 3 h (mgetD f p.1 []) p.2.1 p.2.2.2 G1
 |[],[],_,_,_,_,hp=>(vA hp).elim
 |(k,x)::m,(k',xs)::f,G,⟨e,hn,G1,G2,hG,hg,t⟩,hnd,p,hp=>by
  subst e hG
  rw[jJ,xR]at hnd
  rcases jB.1 hp with rfl|hp
  .exact⟨by simp[mgetD,mget?,hn],G1,λq hq=>List.mem_append_left _ hq,by simpa[mgetD,mget?]using hg⟩
  have hne:¬p.1=k:=λe=>hnd.1 (by have h9:=vN (f:=(·.1)) hp;rw[e]at h9;exact h9)
  obtain⟨h1,H,h2,h3⟩:=FRi.mem t hnd.2 p hp
  exact⟨by simpa[mgetD,mget?,hne]using h1,H,λq hq=>List.mem_append_right _ (h2 q hq),by simpa[mgetD,mget?,hne]using h3⟩
 |[],(_,_)::_,_,x,_,_,_=>x.elim
 |(_,_)::_,[],_,x,_,_,_=>x.elim
theorem HD{α : Type}:∀{f:List (Int×α)}(z:α),(f.map (·.1)).Nodup->f=f.map λp=>(p.1,mgetD f p.1 z)
 |[],_,_=>rfl
 |(k,x)::f,z,hn=>by
  rw[jJ,xR]at hn
  rw[jJ]
  congr 1
  .simp[mgetD,mget?]
  have ih:=HD z hn.2
  conv=>lhs;rw[ih]
  apply List.map_congr_left
  intro p hp
  have hne:¬p.1=k:=λe=>hn.1 (by have h9:=vN (f:=(·.1)) hp;rw[e]at h9;exact h9)
  simp[mgetD,mget?,hne]
theorem H6{h:HF}{h2:HF}(g:Int->List Int):∀{es:List MapEntry}{m:List (Int×Option Addr×Nat×Nat)},pN (zD .i64) V3i h es m ->
    (∀p∈m,p.2.2.1=(g p.1).length/\SlC kB h2 p.2.1 p.2.2.2 (g p.1))->pN (zD .i64) (VSl kB) h2 es (m.map λp=>(p.1,g p.1))
  |[],[],_,_=>trivial
  |e::es,(k,x)::m,⟨a,b,c⟩,hg=>by
    obtain⟨h1,h3⟩:=hg (k,x) (zB ..)
    refine⟨a,⟨x.1,x.2.2,?_,h3⟩,H6 g c λp hp=>hg p (kA _ hp)⟩
    rw[show e.val=.slice x.1 x.2.1 x.2.2 from b,h1]
  |[],_::_,x,_=>x.elim
  |_::_,[],x,_=>x.elim
theorem FRi.frozen{h h2:HF}{o:Obj}{m:List (Int×Option Addr×Nat×Nat)}{f:List (Int×List Int)}{G:LH}(hm:jY (zD .i64) V3i h o m)(hf:FRi h m f G)(hl:h.le h2)(hG:∀p∈G,h2 p.1=some p.2):
  jY (zD .i64) (VSl kB) h2 o f:=by
 have hnd:=hm.nodup
 have hk:=hf.keys
 obtain⟨m',hp,hn,es,c,rfl,hE,h1,h3⟩:=hm
 have hmem:=hf.mem hnd
 have hfe:=HD (f:=f) [] (hk▸hnd)
 have hfm:f=m.map λp=>(p.1,mgetD f p.1 []):=by
  have e1:(f.map λp=>(p.1,mgetD f p.1 []))=(f.map (·.1)).map λk=>(k,mgetD f k []):=by rw[List.map_map];rfl
  have e2:(m.map λp=>(p.1,mgetD f p.1 []))=(m.map (·.1)).map λk=>(k,mgetD f k []):=by rw[List.map_map];rfl
  rw[e2,hk,←e1];exact hfe
 refine⟨m'.map λp=>(p.1,mgetD f p.1 []),?_,?_,es,c,U,H6 (λk=>mgetD f k []) hE λp hp'=>?_,h1,h3⟩
 .have hpm:=hp.map λp=>(p.1,mgetD f p.1 ([]:List Int))
  rw[←hfm]at hpm;exact hpm
 .rw[List.map_map];exact hn
 obtain⟨h5,G1,h6,h7⟩:=hmem p (hp.mem_iff.1 hp')
 exact⟨h5,h7.frozen xH hl λq hq=>hG q (h6 q hq)⟩
section
variable {b0:Frame} {n:Nat} {ops:Array Oper} {F:List Frame->(Machine->Prop)->Prop} {ds:List Deferred} {X:Cx} {e:Env} {h h':HF} {L:LH} {l:List Document} {lb:Option Addr} {lc_z:Nat} {sg:List Int} {sb:Option Addr} {sc:Nat} {at_:Int} {q4:Addr} {a b c d f g t:Bool} {ty:TypeId} {pos:String} {af:Array Edge}
theorem R1(hl:SlC kV h lb lc_z l)(hI:PlI h l lb lc_z sg sb sc at_ q4 false b c d f g t e h' L):
    Stp prog b0 n ops F ds X ⟨some 17,.call ⟨.value (.func 150),#[.tmp 16],#[27]⟩,ty,pos,af,none⟩ e h' L (λe2 h2 L2=>Jst h [] h2 L2/\PlI h l lb lc_z sg sb sc at_ q4 true b c d f g t e2 h2 L2):=by
  obtain⟨hv,hle,⟨k2,k4,k16,k18,k20,k23⟩,sq,b5,b8,b9,b12,b11,x1,x5,x8,x9,x12,x10,x11,hL⟩:=hI
  cases g<;>cases t<;>simp at hv
  refine cC call150 (pX h' l lb lc_z (hl.mono vL hle)) (congrArg (λx=>[x]) k16) (λv h2 hl2 hp=>?_)
  obtain⟨r2,rfl,ok2⟩:=hp
  exact⟨⟨xG hle hl2,λ_ hp=>(vA hp).elim⟩,U,xG hle hl2,⟨k2,k4,k16,k18,k20,k23⟩,r2,b5,b8,b9,b12,b11,λ_=>⟨U,ok2⟩,x5,x8,x9,x12,λh=>(by cases h),λh=>(by cases h),hL⟩
theorem R0(hn:l.length<20)(hI:PlI h l lb lc_z sg sb sc at_ q4 a false c d f g t e h' L):
    Stp prog b0 n ops F ds X ⟨some 21,.makeSlice 57 (.tmp 20) (.tmp 20),ty,pos,af,none⟩ e h' L (λe2 h2 L2=>Jst h [] h2 L2/\PlI h l lb lc_z sg sb sc at_ q4 a true c d f g t e2 h2 L2):=by
  obtain⟨hv,hle,⟨k2,k4,k16,k18,k20,k23⟩,sq,b5,b8,b9,b12,b11,x1,x5,x8,x9,x12,x10,x11,hL⟩:=hI
  cases g<;>cases t<;>simp at hv
  refine Hn Hb zc4 ty4 bytes4 k20 k20 ob ob (λbk=>?_)
  exact⟨⟨hle,λ_ hp=>(vA hp).elim⟩,U,hle,⟨k2,k4,k16,k18,k20,k23⟩,sq,bk,b8,b9,b12,b11,x1,λ_=>U,x8,x9,x12,λh=>(by cases h),λh=>(by cases h),
    (List.Perm.cons _ hL).trans (pmid (pmid (pmid (pmid (List.Perm.refl _)))))⟩
theorem RZ(hn:l.length<20)(hI:PlI h l lb lc_z sg sb sc at_ q4 a b false d f g t e h' L):
    Stp prog b0 n ops F ds X ⟨some 24,.makeSlice 31 (.tmp 23) (.tmp 23),ty,pos,af,none⟩ e h' L (λe2 h2 L2=>Jst h [] h2 L2/\PlI h l lb lc_z sg sb sc at_ q4 a b true d f g t e2 h2 L2):=by
  obtain⟨hv,hle,⟨k2,k4,k16,k18,k20,k23⟩,sq,b5,b8,b9,b12,b11,x1,x5,x8,x9,x12,x10,x11,hL⟩:=hI
  cases g<;>cases t<;>simp at hv
  refine Hn dy zc3 ty3 bytes3 k23 k23 ob ob (λbk=>?_)
  exact⟨⟨hle,λ_ hp=>(vA hp).elim⟩,U,hle,⟨k2,k4,k16,k18,k20,k23⟩,sq,b5,bk,b9,b12,b11,x1,x5,λ_=>U,x9,x12,λh=>(by cases h),λh=>(by cases h),
    (List.Perm.cons _ hL).trans (pmid (pmid (pmid (List.Perm.refl _))))⟩
theorem RY(hI:PlI h l lb lc_z sg sb sc at_ q4 a b c false f g t e h' L):
    Stp prog b0 n ops F ds X ⟨some 25,.makeMap 236 none,ty,pos,af,none⟩ e h' L (λe2 h2 L2=>Jst h [] h2 L2/\PlI h l lb lc_z sg sb sc at_ q4 a b c true f g t e2 h2 L2):=by
  obtain⟨hv,hle,⟨k2,k4,k16,k18,k20,k23⟩,sq,b5,b8,b9,b12,b11,x1,x5,x8,x9,x12,x10,x11,hL⟩:=hI
  cases g<;>cases t<;>simp at hv
  refine oK (λbk=>?_)
  exact⟨⟨hle,λ_ hp=>(vA hp).elim⟩,U,hle,⟨k2,k4,k16,k18,k20,k23⟩,sq,b5,b8,bk,b12,b11,x1,x5,x8,λ_=>U,x12,λh=>(by cases h),λh=>(by cases h),
    (List.Perm.cons _ hL).trans (pmid (pmid (List.Perm.refl _)))⟩
theorem RJ(hI:PlI h l lb lc_z sg sb sc at_ q4 a b c d false g t e h' L):
    Stp prog b0 n ops F ds X ⟨some 7,.alloc 211,ty,pos,af,none⟩ e h' L (λe2 h2 L2=>Jst h [] h2 L2/\PlI h l lb lc_z sg sb sc at_ q4 a b c d true g t e2 h2 L2):=by
  obtain⟨hv,hle,⟨k2,k4,k16,k18,k20,k23⟩,sq,b5,b8,b9,b12,b11,x1,x5,x8,x9,x12,x10,x11,hL⟩:=hI
  refine Bi zc211 (λbk=>?_)
  exact⟨⟨hle,λ_ hp=>(vA hp).elim⟩,hv,hle,⟨k2,k4,k16,k18,k20,k23⟩,sq,b5,b8,b9,bk,b11,x1,x5,x8,x9,λ_=>U,x10,x11,
    (List.Perm.cons _ hL).trans (pmid (List.Perm.refl _))⟩
theorem RL(ha:(a&&b&&c&&d)=true)(hI:PlI h l lb lc_z sg sb sc at_ q4 a b c d f false t e h' L):
    Stp prog b0 n ops F ds X ⟨some 26,.build 238 #[(0,.tmp 17),(1,.tmp 18),(2,.tmp 21),(3,.tmp 24),(4,.tmp 25)],ty,pos,af,none⟩ e h' L (λe2 h2 L2=>Jst h [] h2 L2/\PlI h l lb lc_z sg sb sc at_ q4 a b c d f true t e2 h2 L2):=by
  obtain⟨hv,hle,⟨k2,k4,k16,k18,k20,k23⟩,sq,b5,b8,b9,b12,b11,x1,x5,x8,x9,x12,x10,x11,hL⟩:=hI
  cases a<;>cases b<;>cases c<;>cases d<;>simp at ha
  cases t<;>simp at hv
  obtain⟨x1,o1⟩:=x1 rfl
  replace x5:=x5 rfl
  replace x8:=x8 rfl
  replace x9:=x9 rfl
  refine Id [(17,_),(18,_),(21,_),(24,_),(25,_)] ⟨x1,k18,x5,x8,x9,trivial⟩ ?_
  have hc:fA.cells (playP l sg) (playR l.length sq sb sc b5 b8 b9)=[.slice sq.F7 (ay l).docs.length sq.F6,.map (some sq.KT),.slice sb sg.length sc,.slice (some ⟨b5,0,none⟩) l.length l.length,.slice (some ⟨b8,0,none⟩) l.length l.length,.map (some b9)]:=by simp[fA.cells,playP,playR]
  exact e9 (cells:=[.slice sq.F7 (ay l).docs.length sq.F6,.map (some sq.KT),.slice sb sg.length sc,.slice (some ⟨b5,0,none⟩) l.length l.length,.slice (some ⟨b8,0,none⟩) l.length l.length,.map (some b9)]) (places:=[(0,2),(2,1),(3,1),(4,1),(5,1)]) underlying238 zc238 kr kr (⟨⟨hle,λ_ hp=>(vA hp).elim⟩,U,hle,⟨k2,k4,k16,U,k20,k23⟩,sq,b5,b8,b9,b12,b11,λ_=>⟨U,o1⟩,λ_=>U,λ_=>U,λ_=>U,x12,λ_=>(congrArg (λz:List Value=>Value.agg z.toArray) hc).symm,λh=>(by cases h),hL⟩)
theorem RK(hI:PlI h l lb lc_z sg sb sc at_ q4 a b c d f true false e h' L):
    Stp prog b0 n ops F ds X ⟨some 27,.box 238 (.tmp 26),ty,pos,af,none⟩ e h' L (λe2 h2 L2=>Jst h [] h2 L2/\PlI h l lb lc_z sg sb sc at_ q4 a b c d f true true e2 h2 L2):=by
  obtain⟨hv,hle,⟨k2,k4,k16,k18,k20,k23⟩,sq,b5,b8,b9,b12,b11,x1,x5,x8,x9,x12,x10,x11,hL⟩:=hI
  replace x10:=x10 rfl
  refine Id [(26,_)] ⟨x10,trivial⟩ (RG (λbk=>?_))
  exact⟨⟨hle,λ_ hp=>(vA hp).elim⟩,hv,hle,⟨k2,k4,k16,k18,k20,k23⟩,sq,b5,b8,b9,b12,bk,x1,x5,x8,x9,x12,λ_=>U,λ_=>U,List.Perm.cons _ hL⟩
end
theorem Qu{i:Nat}{a b c d f g t:Bool}(h:i∈plN a b c d f g t):(i=1/\a=false)\/(i=5/\b=false)\/(i=8/\c=false)\/(i=9/\d=false)\/(i=10/\(a&&b&&c&&d)=true/\g=false)\/(i=11/\g=true/\t=false)\/(i=12/\f=false)\/(a=true/\b=true/\c=true/\d=true/\f=true/\g=true/\t=true):=by
 simp only[plN,jE]at h
 rcases h with h|h|h|h|h|h|h|h
 .cases a with
  |true=>simp at h
  |false=>simp at h;exact .inl ⟨h,rfl⟩
 .cases b with
  |true=>simp at h
  |false=>simp at h;exact .inr (.inl ⟨h,rfl⟩)
 .cases c with
  |true=>simp at h
  |false=>simp at h;exact .inr (.inr (.inl ⟨h,rfl⟩))
 .cases d with
  |true=>simp at h
  |false=>simp at h;exact .inr (.inr (.inr (.inl ⟨h,rfl⟩)))
 .cases g with
  |true=>simp at h
  |false=>
   cases hh:(a&&b&&c&&d)with
   |false=>rw[hh]at h;simp at h
   |true=>rw[hh]at h;simp at h;exact .inr (.inr (.inr (.inr (.inl ⟨h,rfl,rfl⟩))))
 .cases g with
  |false=>simp at h
  |true=>
   cases t with
   |true=>simp at h
   |false=>simp at h;exact .inr (.inr (.inr (.inr (.inr (.inl ⟨h,rfl,rfl⟩)))))
 .cases f with
  |true=>simp at h
  |false=>simp at h;exact .inr (.inr (.inr (.inr (.inr (.inr (.inl ⟨h,rfl⟩))))))
 cases a<;>cases b<;>cases c<;>cases d<;>cases f<;>cases g<;>cases t<;>simp at h
 exact .inr (.inr (.inr (.inr (.inr (.inr (.inr ⟨U,U,U,U,U,U,U⟩))))))
theorem O5{a b c d f g t:Bool}(h:plM a b c d f g t=0):a=true/\b=true/\c=true/\d=true/\f=true/\g=true/\t=true:=by
  cases a<;>cases b<;>cases c<;>cases d<;>cases f<;>cases g<;>cases t<;>simp[plM]at h<;>simp
structure wN(h:HF)(n b5 b8 br:Nat)(P:fA)(om:Obj)(m3:List (Int×Option Addr×Nat×Nat))(Gf:LH):Prop where
  done:P.done.length=n
  lacks:P.lacks.length=n
  map:jY (zD .i64) V3i h om m3
  rev:FRi h m3 P.revoked Gf
theorem wN.mono{h h':HF}{n b5 b8 br:Nat}{P:fA}{Gf:LH}(o:wN h n b5 b8 br P om m3 Gf)(hl:h.le h'):wN h' n b5 b8 br P om m3 Gf:=
  ⟨o.done,o.lacks,o.map.mono V3i.mono hl,o.rev.mono hl⟩
theorem DF(h:HF):∀xs:List Bool,aY UP h (xs.map SW) xs
  |[]=>rfl
  |x::xs=>⟨[.bool x],xs.map SW,rfl,rfl,rfl,DF h xs⟩
theorem Dl(h:HF):∀xs:List Int,aY kB h (xs.map (zD .i64)) xs
  |[]=>rfl
  |x::xs=>⟨[I x],xs.map (zD .i64),rfl,rfl,rfl,Dl h xs⟩
theorem wN.lent{h h1:HF}{n b5 b8 br:Nat}{P:fA}{Gf:LH}{sq:ou}{sb:Option Addr}{sc:Nat}(o:wN h n b5 b8 br P om m3 Gf)(hn:n<20)(hs:gN.ok h P.shelf sq)(hg:SlC kB h sb sc P.signed)(hl:h.le h1)(hL:∀p∈plB b5 b8 br P om Gf,h1 p.1=some p.2):fA.ok h1 P (playR n sq sb sc b5 b8 br):=by
  have h5:=hL (b5,.cells (P.done.map SW).toArray 4 (0,0)) (by simp[plB])
  have h8:=hL (b8,.cells (P.lacks.map (zD .i64)).toArray 3 (0,0)) (by simp[plB])
  have hr:=hL (br,om) (by simp[plB])
  have hd:=o.done
  have hk:=o.lacks
  exact⟨hs.mono hl,hg.mono xH hl,aY.slB0 (DF h1 _) h5 ob (by rw[hd];exact vG _),aY.slB0 (Dl h1 _) h8 ob (by rw[hk];exact vG _),
    ⟨om,hr,FRi.frozen o.map o.rev hl (λp hp=>hL p (by simp[plB,hp]))⟩⟩
theorem GF(l:List Document):(ay l).docs=l:=by
  have:∀(s:List Document)(i:Nat)(g:List (Int×Int)),(ay.L1 (ay.K1 l) s i g).docs=l:=by
    intro s
    induction s with
    |nil=>intro i g;rfl
    |cons y s ih=>intro i g;exact ih _ _
  exact this _ _ _
theorem J1(l:List Document)(hl:0<l.length)(k:Int):0<=mgetD (ay l).at_ k 0/\mgetD (ay l).at_ k 0<(l.length:Int):=by
  have key:∀(s:List Document)(i:Nat)(g:List (Int×Int)),i+s.length=l.length->(∀p∈g,0<=p.2/\p.2<(l.length:Int))->∀p∈(ay.L1 (ay.K1 l) s i g).at_,0<=p.2/\p.2<(l.length:Int):=by
    intro s
    induction s with
    |nil=>intro i g _ hg;exact hg
    |cons y s ih=>
      intro i g hi hg
      simp only[xA]at hi
      exact ih (i+1) _ ob (yd (P:=λx:Int=>0<=x/\x<(l.length:Int)) _ hg ob)
  exact yR (P:=λx:Int=>0<=x/\x<(l.length:Int)) k (key l 0 [] (by simp) (λ_ h=>(vA h).elim)) ob
theorem Ak{α : Type}(f:α->Value)(xs:List α)(k:Nat)(y:α):splice (xs.map f) (k*1) [f y]=(xs.set k y).map f:=by
  simp[splice,mO,List.map_set]
theorem Fc{l:List Document}{sg:List Int}{P:fA}{r:tL}(h1:P.shelf=ay l)(h2:P.signed=sg)(h3:P.done.length=l.length)(h4:P.lacks.length=l.length):fA.cells P r=fA.cells (playP l sg) r:=by
  simp[fA.cells,playP,h1,h2,h3,h4]
theorem xX(sg:List Int)(i:Int)(no:Int)(P:fA):(playLack sg i P no).shelf=P.shelf/\(playLack sg i P no).signed=P.signed/\(playLack sg i P no).done=P.done/\(playLack sg i P no).lacks.length=P.lacks.length/\(playLack sg i P no).revoked=P.revoked:=by
  unfold playLack
  cases(cQ P (mgetD P.shelf.at_ no 0) (nthI sg i)).1 != 0<;>simp
theorem Bl{d:Document}{Q_z:fA}{y:Int}{P:List (Int×List Int)}{i:Nat}(h:∀k,(mgetD Q_z.revoked k []).length<=(mgetD P k []).length+i):∀k,(mgetD (playRevoke d Q_z y).revoked k []).length<=(mgetD P k []).length+(i+1):=λk=>by
 show(mgetD (mput Q_z.revoked y (mgetD Q_z.revoked y []++[d.No])) k []).length<=_
 rw[tg]
 split
 .next hk=>subst hk;have:=h k;simp only[xB,xA,jC];omega
 have:=h k;omega
theorem sa(h:HF)(l:List Document)(dU:Option Addr)(dT:Nat)(signed:List Int)(eA:Option Addr)(ey:Nat)(bI:Int)(hl:SlC kV h dU dT l)(hsigned:SlC kB h eA ey signed)(hck:aT l=0)(hsg:signed.length=l.length)(hln:l.length<20):
  i9 prog 126 [.slice dU l.length dT,.slice eA signed.length ey,I bI] h (λv h'=>∃(rq0:Addr)(rr0:tL),v=.pointer (some rq0)/\fA.ok h' (ct l signed bI) rr0/\At h' rq0 (fA.cells (ct l signed bI) rr0)):=by
 refine cH func126 U ntmps126 U λX hM hX=>?_
 refine sr (bS (λb4=>an ?_))
 refine eC 0 U hM (λh1 l1 f4=>?_)
 have a4:=cz f4
 show TT _ _ _ _ _ _ _ _ h1 []
 refine ew (eh [] mixed kr jn (λhsep _=>?_))
 refine tm 0 U (tf 2 U U (rh ty31 a4 U) (tm 3 U (tf 4 U U (λ_ _ _=>JQ sf U) (tm 6 U (tf 7 U U (λ_ _ _=>JQ sf U) ?_)))))
 refine Ra (σ:=Bool×Bool×Bool×Bool×Bool×Bool×Bool) 1 (λs e2 h2 L2=>PlI h1 l dU dT signed eA ey bI ⟨b4,0,none⟩ s.1 s.2.1 s.2.2.1 s.2.2.2.1 s.2.2.2.2.1 s.2.2.2.2.2.1 s.2.2.2.2.2.2 e2 h2 L2)
  (λs=>plM s.1 s.2.1 s.2.2.1 s.2.2.2.1 s.2.2.2.2.1 s.2.2.2.2.2.1 s.2.2.2.2.2.2) (λs=>plD s.1 s.2.1 s.2.2.1 s.2.2.2.1 s.2.2.2.2.1 s.2.2.2.2.2.1 s.2.2.2.2.2.2) ?_ ?_ 7 (false,false,false,false,false,false,false) _ _ _ rfl
  ⟨rfl,qQ _,⟨rfl,rfl,rfl,rfl,rfl,rfl⟩,⟨none,0,0⟩,0,0,0,0,0,λh=>(by cases h),λh=>(by cases h),λh=>(by cases h),λh=>(by cases h),λh=>(by cases h),λh=>(by cases h),λh=>(by cases h),List.Perm.refl _⟩
 .rintro⟨a,b,c,d,f,g,t⟩ e2 h2 L2 hI hμ
  obtain⟨e1,e2',e3,e4,e5,e6,e7⟩:=O5 hμ
  dsimp only at e1 e2' e3 e4 e5 e6 e7
  subst e1 e2' e3 e4 e5 e6 e7
  obtain⟨_,hle,⟨k2,k4,_,_,_,_⟩,sr0,b5,b8,br,b12,b11,x1,_,_,_,x12,_,x11,hL⟩:=hI
  obtain⟨_,oks⟩:=x1 rfl
  have k7:=x12 rfl
  have k27:=x11 rfl
  clear x1 x12 x11
  dsimp only at k7 k27 oks hL k2 k4
  have J2:∀{L:LH},Jst h1 [] h2 L:=⟨hle,λ_ hp=>(vA hp).elim⟩
  refine tn 13 U (EI hL (Id [(7,Q b12),(27,Q b11)] ⟨k7,k27,trivial⟩ (lx 1 (off:=0) (vs:=[Q b11]) ty211 U U U U (by rfl) U ⟨J2,aG kr (Q8 [(2,I bI),(4,Q b4),(7,Q b12)] ⟨k2,k4,U,trivial⟩ (eC 1 U hM (λh3 l3 f12=>eC 0 U hM (λh4 l4 f11=>?_))))⟩)))
  have A7:=(cz f12).mono l4
  have A11:=cz f11
  have l24:h2.le h4:=xG l3 l4
  have l04:h.le h4:=xG l1 (xG hle l24)
  replace oks:=oks.mono l24
  replace a4:=a4.mono (xG hle l24)
  clear f12 f11 l3 l4 J2 hL k2 k4 k7 k27
  refine lL (L':=plB b5 b8 br (playP l signed) (.map #[] 0) []) (by
   have h9:plB b5 b8 br (playP l signed) (.map #[] 0) []=[(b5,.cells (List.replicate l.length (.bool false)).toArray 4 (0,0)),(b8,.cells (List.replicate l.length (I 0)).toArray 3 (0,0)),(br,.map #[] 0)]:=by simp[plB,playP,List.map_replicate]
   rw[h9]
   exact List.reverse_perm [(b5,O (List.replicate l.length (.bool false)) 4),(b8,.cells (List.replicate l.length (I 0)).toArray 3 (0,0)),(br,.map #[] 0)]) ?_
  have hl4:=hl.mono vL l04
  have hs4:=hsigned.mono xH l04
  refine qT 3 U (dD ty211 A7 U (av (aA (cC call215 (tE h4 (playP l signed) (playR l.length sr0 eA ey b5 b8 br) ⟨b11,0,none⟩ bI ⟨hs4⟩ A11 (by show signed.length<20;omega)) U (λv5 h5 l5 hp=>?_)))))
  obtain⟨rv,rfl,hit⟩:=hp
  refine qO 2 U (ej ?_)
  have hord:=Jy (playP l signed) bI
  have hordl:=Jx (playP l signed) bI
  have hsl:(playP l signed).signed.length=l.length:=hsg
  replace a4:=a4.mono l5
  replace A7:=A7.mono l5
  replace A11:=A11.mono l5
  replace hl4:=hl4.mono vL l5
  replace hs4:=hs4.mono xH l5
  replace oks:=oks.mono l5
  have hdr:=HQ hck
  refine ke (it:=v5) (xs:=bP (playP l signed) bI) (ι:=fA×Obj×List (Int×Option Addr×Nat×Nat)×LH×HF) [] (λi=>i.2.2.2.2) (λi=>plB b5 b8 br i.1 i.2.1 i.2.2.2.1)
   (λrest i=>rest.foldl playStep i.1=ct l signed bI/\i.1.shelf=ay l/\i.1.signed=signed/\wN i.2.2.2.2 l.length b5 b8 br i.1 i.2.1 i.2.2.1 i.2.2.2.1/\h5.le i.2.2.2.2/\(∀x∈rest,0<=x/\x<(l.length:Int))/\(∀k,(mgetD i.1.revoked k []).length+16*rest.length<=320))
   (λ_=>False) (λ_=>False) 0 (λ_ _ _=>False) (playP l signed,.map #[] 0,[],[],h5) func126 rfl hit rfl Dk (λ_ _ _ _ _ hq=>hq) rfl rfl
   ⟨rfl,rfl,rfl,⟨by simp[playP],by simp[playP],jY.nil,rfl⟩,qQ _,λx hx=>hsl▸hord x hx,λk=>by show 0+16*_<=320;omega⟩ ?_ ?_ (λ_ _ _ hF=>hF.elim) (λ_ _ _ hF=>hF.elim) (λ_ _ _ _ hF=>hF.elim)
  .rintro RW r1 lp1 x rest vs1 ⟨P,om,m3,Gf,hh⟩ h7 X' FR ⟨hfold,hsh,hsgd,hown,h5h,hin,hcnt⟩ h57 hh7 hv hX' hXM hlp nx rt ex pn
   dsimp only at hfold hsh hsgd hown h5h hin hcnt hh7
   obtain rfl:=hv
   have hPl:P.signed.length=l.length:=by rw[hsgd];exact hsg
   have hD:=GF l
   have hx0:=hin x (zB ..)
   have hx:0<=x/\x<((ay l).docs.length:Int):=by rw[hD];exact hx0
   have hxn:x.toNat<l.length:=by omega
   replace hown:=hown.mono hh7
   have oks7:=oks.mono h57
   have A7':=A7.mono h57
   have A11':=A11.mono h57
   have a4':=a4.mono h57
   have hs7:=hs4.mono xH h57
   have hpd:=hown.done
   have hpl:=hown.lacks
   clear hh7
   refine bC (aS zc3 (λbi=>cK 0 ty3 U U U U U U (aI ?_)))
   let zi:Nat×Obj:=(bi,O [I x] 3)
   let zl:Nat×Obj:=(RW,.loop { lp1 with state:=.busy })
   let zr:Nat×Obj:=(r1,.deferred (some []))
   refine j2 1 U hlp (mM (bW (L':=[zi,zl,zr]++plB b5 b8 br P om Gf) (show[zi,zl,zr]++(plB b5 b8 br P om Gf++markB [])=_ from by simp[markB]) (ew (eh [zi] mixed kr jn (λhs4 _=>?_)))))
   refine tf 0 U U (rh ty211 A7' U) (tf 1 U U (λ_ _ _=>fW U) (qB [2,3] U (tf 4 U U (rh ty27 A11' U) (tf 5 U U (rj 0 ty3 U U U) (j3 6 hs4 jn sf ty51 oks7.docs.1 hx (de hx) U U U U kr (λq1 cs1 B1 ln1 rr1=>?_))))))
   obtain⟨dr,rfl,okd⟩:=rr1
   refine tf 7 U U (λ_ _ hj=>iP ty51 (B1.mono hj.1) U U) (tn 8 U (Bi zc51 (λbd=>⟨jn,(tn 9 U (sW 0 ty51 U U U U U U ⟨jn,aG kr ?_⟩))⟩)))
   generalize hdd:nthI (ay l).docs x=d at okd B1
   let zd:Nat×Obj:=(bd,O (qP d dr) 51)
   have hdP:nthI P.shelf.docs x=d:=by rw[hsh];exact hdd
   have hdl:d∈l:=by have h9:=nt hx;rw[hdd,hD]at h9;exact h9
   have hgd:=hdr d hdl
   show TT _ _ _ _ _ _ _ _ h7 ([zd,zi,zl,zr]++plB b5 b8 br P om Gf)
   refine ew (eh [zd,zi] mixed kr jn (λhs5 _=>?_))
   refine tf 0 U U (rh ty211 A7' U) (tf 1 U U (λ_ _ _=>fW U) (qB [2] U (tf 3 U U (rH 4 ty31 A11' U U) (tf 4 U U (rj 1 ty3 U U U) (tf 5 U U (λ_ _ _=>nB (R:=kB) (xs:=P.lacks) (bk:=b8) (z:=x) dy ty3 U ob U (by simp[playP,hpl]) U) (tn 6 U (lx 5 (off:=x.toNat*1) (vs:=[I (-1)]) ty3 U U U U (Nat.ble_eq_true_of_le (by simp only[List.length_map,xA,jC];omega)) U ⟨jn,aG kr (bW (L':=[zd,zi,zl,zr]++plB b5 b8 br { P with lacks:=P.lacks.set x.toNat (-1) } om Gf) (by rw[Ak (zD .i64)];rfl) ?_)⟩)))))))
   have own1:wN h7 l.length b5 b8 br { P with lacks:=P.lacks.set x.toNat (-1) } om m3 Gf:=⟨hpd,by simpa using hpl,hown.map,hown.rev⟩
   refine qT 3 U (j8 Iq_ U (oB 0 ty31 U U U (aA (cC call216 (vw h7 d.Needs _ _ okd.Needs) U (λv8 h8 l8 hp8=>?_)))))
   obtain⟨rv8,rfl,hit8⟩:=hp8
   refine qO 2 U ?_
   refine Ng (it:=v8) (xs:=kg d.Needs) 2 U (λdone h' L'=>h8.le h'/\wN h' l.length b5 b8 br (done.foldl (λq(z:Int×Int)=>playLack P.signed x q z.2) { P with lacks:=P.lacks.set x.toNat (-1) }) om m3 Gf/\L'=[zd,zi,zl,zr]++plB b5 b8 br (done.foldl (λq(z:Int×Int)=>playLack P.signed x q z.2) { P with lacks:=P.lacks.set x.toNat (-1) }) om Gf)
    rfl hit8 rfl DV (λ_ _ _ _ hl⟨a,b,c⟩=>⟨xG a hl,b.mono hl,c⟩) ⟨qQ _,own1.mono l8,rfl⟩ ?_ ?_
   .rintro l2 lp2 done z rest2 vs2 h9 L9 X9 hxs h89 ⟨h89',own2,rfl⟩ hv2 hlp2 hX9 hXM9
    obtain rfl:=hv2
    obtain⟨Pm,hPm⟩:∃Pm,Pm=done.foldl (λq(z:Int×Int)=>playLack P.signed x q z.2) { P with lacks:=P.lacks.set x.toNat (-1) }:=⟨_,rfl⟩
    have hPs:Pm.shelf=ay l/\Pm.signed=signed:=by
     rw[hPm]
     have:∀(s:List (Int×Int))(QD:fA),QD.shelf=ay l/\QD.signed=signed->(s.foldl (λq(z:Int×Int)=>playLack P.signed x q z.2) QD).shelf=ay l/\(s.foldl (λq(z:Int×Int)=>playLack P.signed x q z.2) QD).signed=signed:=by
      intro s
      induction s with
      |nil=>intro QD h;exact h
      |cons y s ih=>intro QD h;obtain⟨a1,a2,_⟩:=xX P.signed x y.2 QD;exact ih _ ⟨a1.trans h.1,a2.trans h.2⟩
     exact this _ _ ⟨hsh,hsgd⟩
    rw[←hPm]at own2
    have l79:h7.le h9:=xG l8 h89
    have A79:=A7'.mono l79
    have B79:=A11'.mono l79
    refine qT 3 U (j2 0 U hlp2 (mM ?_))
    rw[←hPm]
    refine bW (L':=[(l2,.loop { lp2 with state:=.busy }),zd,zi,zl,zr]++plB b5 b8 br Pm om Gf) U (ew (eh [zi] mixed kr jn (λhs8 _=>?_)))
    refine tf 0 U U (rh ty211 A79 U) (tf 1 U U (rh ty211 A79 U) (tf 2 U U (λ_ _ _=>fW U) (qB [3,4] U (tf 5 U U (rH 1 ty190 B79 U U) (tm 6 U (tf 8 U U (rh ty31 (a4'.mono l79) U) (tf 9 U U (rj 0 ty3 U U U) ?_)))))))
    have hxs:0<=x/\x<(signed.length:Int):=by omega
    refine cU 10 (enc:=λy=>[I y]) hs8 jn (λ_ _ _ e=>e) dy ty3 (hs7.mono xH l79).1 hxs (de hxs) U U U U kr (λq3 B3=>?_)
    refine tf 11 U U (rh ty3 B3 U) ?_
    obtain⟨mo,hmb,hmm⟩:=(oks7.mono l79).at_
    refine tn 7 U (od (k:=z.2) AS (fU ox) hmb hmm (fp zv3) (show wm _ (I 0) 0 from U) U U (λv hv=>?_))
    obtain rfl:=hv
    refine⟨jn,?_⟩
    have hat:=J1 l ob z.2
    refine tn 12 U (OW (v:=.tuple #[I (cQ Pm (mgetD (ay l).at_ z.2 0) (nthI signed x)).1,I (cQ Pm (mgetD (ay l).at_ z.2 0) (nthI signed x)).2]) call127 (λhz lz hall=>mY hz Pm (playR l.length sr0 eA ey b5 b8 br) ⟨b11,0,none⟩ (mgetD (ay l).at_ z.2 0) (nthI signed x)
     (own2.lent hln (hPs.1▸oks7.mono l79) (hPs.2▸hs7.mono xH l79) lz (λp hp=>hall p (by simp only[jE,jB];exact .inr hp))) (by rw[Fc hPs.1 hPs.2 own2.done own2.lacks];exact(A11'.mono l79).mono lz) (by rw[hPs.1,hD];exact hat) (by rw[hPs.1,hD];exact⟨own2.done,own2.lacks⟩)) rfl ⟨jn,?_⟩)
    refine qR 13 5 U (aG kr (qT 5 U ?_))
    have hlk:playLack P.signed x Pm z.2=bif(cQ Pm (mgetD (ay l).at_ z.2 0) (nthI signed x)).1 != 0 then { Pm with lacks:=Pm.lacks.set x.toNat z.2 }else Pm:=by
     unfold playLack;rw[hPs.1,hsgd]
    have hnx:(done++[z]).foldl (λq(z:Int×Int)=>playLack P.signed x q z.2) { P with lacks:=P.lacks.set x.toNat (-1) }=playLack P.signed x Pm z.2:=by rw[List.foldl_append,hPm];rfl
    refine j1 U (λc1=>?_) (λc1=>qT 2 U ?_)
    .refine eh [zi] mixed kr jn (λhs9 _=>?_)
     refine tf 0 U U (rh ty211 A79 U) (tf 1 U U (λ_ _ _=>fW U) (qB [2] U (tf 3 U U (rH 4 ty31 B79 U U) (tf 4 U U (rj 0 ty3 U U U) (tm 5 U ?_)))))
     have hml:=own2.lacks
     refine tf 6 U U (λ_ _ _=>nB (R:=kB) (xs:=Pm.lacks) (bk:=b8) (z:=x) dy ty3 U ob U (by simp[playP,hml]) U) (tn 7 U (lx 6 (off:=x.toNat*1) (vs:=[I z.2]) ty3 U U U U (Nat.ble_eq_true_of_le (by simp only[List.length_map,xA,jC];omega)) U ⟨jn,aG kr (eX ?_)⟩))
     rw[c1,cond_true]at hlk
     refine bW (L':=(l2,.loop { lp2 with state:=.busy })::([zd,zi,zl,zr]++plB b5 b8 br { Pm with lacks:=Pm.lacks.set x.toNat z.2 } om Gf)) (by rw[Ak (zD .i64)];rfl) ?_
     refine My U ⟨h89',?_,?_⟩
     .rw[hnx,hlk];exact⟨own2.done,by simpa using hml,own2.map,own2.rev⟩
     rw[hnx,hlk]
    rw[c1,cond_false]at hlk
    refine My U ⟨h89',?_,?_⟩
    .rw[hnx,hlk];exact own2
    rw[hnx,hlk];rfl
   rintro h9 L9 h89 ⟨h89',own2,rfl⟩
   obtain⟨Pm,hPm⟩:∃Pm,Pm=(kg d.Needs).foldl (λq(z:Int×Int)=>playLack P.signed x q z.2) { P with lacks:=P.lacks.set x.toNat (-1) }:=⟨_,rfl⟩
   rw[←hPm]at own2
   rw[←hPm]
   have hPs:Pm.shelf=ay l/\Pm.signed=signed/\Pm.revoked=P.revoked:=by
    rw[hPm]
    have:∀(s:List (Int×Int))(QD:fA),QD.shelf=ay l/\QD.signed=signed/\QD.revoked=P.revoked->(s.foldl (λq(z:Int×Int)=>playLack P.signed x q z.2) QD).shelf=ay l/\(s.foldl (λq(z:Int×Int)=>playLack P.signed x q z.2) QD).signed=signed/\(s.foldl (λq(z:Int×Int)=>playLack P.signed x q z.2) QD).revoked=P.revoked:=by
     intro s
     induction s with
     |nil=>intro QD h;exact h
     |cons y s ih=>intro QD h;obtain⟨a1,a2,_,_,a5⟩:=xX P.signed x y.2 QD;exact ih _ ⟨a1.trans h.1,a2.trans h.2.1,a5.trans h.2.2⟩
    exact this _ _ ⟨hsh,hsgd,U⟩
   have hmid:playMid P x=Pm:=by unfold playMid;rw[hdP];exact hPm.symm
   have hstep:playStep P x=bif decide (nthI Pm.lacks x<0)then d.Revokes.foldl (playRevoke d) (playDone Pm x)else playDone Pm x:=by
    unfold playStep;rw[hmid,hdP]
   have l79:h7.le h9:=xG l8 h89
   have A79:=A7'.mono l79
   have B79:=A11'.mono l79
   have hmd:=own2.done
   have hml:=own2.lacks
   refine qT 2 U (eh [zd,zi] mixed kr jn (λhs11 _=>?_))
   refine tf 0 U U (rh ty211 A79 U) (tf 1 U U (λ_ _ _=>fW U) (qB [2] U (tf 3 U U (rH 3 ty57 B79 U U) (tf 4 U U (rj 1 ty3 U U U) (tf 5 U U (λ_ _ _=>nB (R:=UP) (xs:=Pm.done) (bk:=b5) (z:=x) Hb ty4 U ob U (by simp[playP,hmd]) U) (tn 6 U (lx 4 (off:=x.toNat*1) (vs:=[.bool true]) ty4 U U U U (Nat.ble_eq_true_of_le (by simp only[List.length_map,xA,jC];omega)) U ⟨jn,aG kr (bW (L':=[zd,zi,zl,zr]++plB b5 b8 br (playDone Pm x) om Gf) (by rw[Ak SW];rfl) ?_)⟩)))))))
   have own3:wN h9 l.length b5 b8 br (playDone Pm x) om m3 Gf:=⟨by simpa[playDone]using hmd,hml,own2.map,own2.rev⟩
   have JB:∀{A:LH},Jst h9 [zi,(b8,.cells (Pm.lacks.map (zD .i64)).toArray 3 (0,0))] h9 ([zd,zi,zl,zr]++plB b5 b8 br (playDone Pm x) om A):=⟨qQ _,λp hp=>by
    simp only[jB,vA,or_false]at hp
    rcases hp with rfl|rfl<;>simp[plB,playDone]⟩
   refine ew (eh [zi,(b8,.cells (Pm.lacks.map (zD .i64)).toArray 3 (0,0))] mixed kr JB (λhs12 _=>?_))
   refine iJ 0 hs12 JB U U kr U (rh ty211 A79 U) (iJ 1 hs12 JB U U kr U (λ_ _ _=>fW U) (iJ 2 hs12 JB U U kr U (λ_ _ _=>tc PH U) (iJ 3 hs12 JB U U kr U (rH 4 ty31 B79 U U) (iJ 4 hs12 JB U U kr U (rj 0 ty3 U U U) (iJ 5 hs12 JB U U kr U (λ_ _ _=>nB (R:=kB) (xs:=Pm.lacks) (bk:=b8) (z:=x) dy ty3 U ob U (by simp[playP,hml]) U) ?_)))))
   have hlx:(Pm.lacks.map (zD .i64))[x.toNat*1]? = some (I (nthI Pm.lacks x)):=by
    rw[Nat.mul_one,List.getElem?_map,de ob];rfl
   refine iJ 6 hs12 JB U U kr U (λ_ _ hj=>zg ty3 U (hj.nth (i:=1) U) (by rw[ip];exact hlx)) (iJ 7 hs12 JB U U kr U (λ_ _ _=>MC U) (aG kr ?_))
   have hin':∀y∈rest,0<=y/\y<(l.length:Int):=λy hy=>hin y (kA _ hy)
   have h59:h5.le h9:=xG h57 l79
   refine j1 U (λc1=>?_) (λc1=>qT 2 U ?_)
   .rw[c1,cond_true]at hstep
    have hrl:=hgd.revokes.2
    refine sr (j8 QI U (oB 0 ty31 U U U (MF dy U (qO 2 U ?_))))
    have hfin:∀(QD:fA)(oQ:Obj)(mQ:List (Int×Option Addr×Nat×Nat))(GQ:LH)(e':Env),QD=d.Revokes.foldl (playRevoke d) (playDone Pm x)->wN h9 l.length b5 b8 br QD oQ mQ GQ->QD.shelf=ay l->QD.signed=signed->(∀k,(mgetD QD.revoked k []).length<=(mgetD P.revoked k []).length+d.Revokes.length) ->
      TT prog (roundFrame RW 126) 114 [.inBlock 1] FR e' [] X' h9 ([zd,zi,zl,zr]++plB b5 b8 br QD oQ GQ):=by
     intro QD oQ mQ GQ e' hQ ownQ hQs hQg hQc
     refine eX (ba (L':=[zl,zr]++plB b5 b8 br QD oQ GQ) js (bW (L':=rdH RW r1 lp1 (plB b5 b8 br QD oQ GQ++markB [])) (by simp[markB,rdH,zl,zr]) ?_))
     refine nx (QD,oQ,mQ,GQ,h9) _ _ ⟨?_,hQs,hQg,ownQ,h59,hin',λk=>?_⟩ lf
     .rw[←hfold,List.foldl_cons,hstep,hQ]
     have h1':=hcnt k
     have h2':=hQc k
     simp only[xA]at h1'
     show(mgetD QD.revoked k []).length+16*rest.length<=320
     omega
    refine iT (ι:=fA×Obj×List (Int×Option Addr×Nat×Nat)×LH) (λi=>[]) (λi=>h9) (λi=>[zd,zi,zl,zr]++plB b5 b8 br i.1 i.2.1 i.2.2.2)
     (λi=>i.1=d.Revokes.foldl (playRevoke d) (playDone Pm x)/\wN h9 l.length b5 b8 br i.1 i.2.1 i.2.2.1 i.2.2.2/\i.1.shelf=ay l/\i.1.signed=signed/\∀k,(mgetD i.1.revoked k []).length<=(mgetD P.revoked k []).length+d.Revokes.length) ?_ (λhx4=>?_)
    .rintro⟨QD,oQ,mQ,GQ⟩ ⟨q1,q2,q3,q4,q5⟩ e4
     exact hfin QD oQ mQ GQ _ q1 q2 q3 q4 q5
    refine ls (ι:=Nat×fA×Obj×List (Int×Option Addr×Nat×Nat)×LH) (λi=>[(7,Q b12),(9,Q bd),(91,.slice dr.sJ d.Revokes.length dr.sI),(92,I (d.Revokes.length:Int)),(93,I (i.1:Int))]) (λi=>h9)
     (λi=>[zd,zi,zl,zr]++plB b5 b8 br i.2.1 i.2.2.1 i.2.2.2.2)
     (λi=>(d.Revokes.drop i.1).foldl (playRevoke d) i.2.1=d.Revokes.foldl (playRevoke d) (playDone Pm x)/\i.1<=d.Revokes.length/\wN h9 l.length b5 b8 br i.2.1 i.2.2.1 i.2.2.2.1 i.2.2.2.2/\i.2.1.shelf=ay l/\i.2.1.signed=signed/\∀k,(mgetD i.2.1.revoked k []).length<=(mgetD P.revoked k []).length+i.1)
     (λi=>d.Revokes.length-i.1) (0,playDone Pm x,om,m3,Gf) rd (λw hw=>hw) ⟨rfl,qM _,own3,hPs.1,hPs.2.1,λk=>by show(mgetD Pm.revoked k []).length<=_;rw[hPs.2.2];omega⟩ ?_
    rintro⟨i,QD,oQ,mQ,GQ⟩ ⟨hfQ,hiQ,ownQ,hQs,hQg,hQc⟩ ag e5
    dsimp only at hfQ hiQ ownQ hQs hQg hQc
    show TT _ _ _ _ _ (upds e5 [(7,Q b12),(9,Q bd),(91,.slice dr.sJ d.Revokes.length dr.sI),(92,I (d.Revokes.length:Int)),(93,I (i:Int))]) _ _ h9 ([zd,zi,zl,zr]++plB b5 b8 br QD oQ GQ)
    rcases kM i d.Revokes.length with hi|hi
    .have hgi:d.Revokes[i]? = some d.Revokes[i]:=zG hi
     obtain⟨y,hy⟩:∃y,d.Revokes[i]=y:=⟨_,rfl⟩
     rw[hy]at hgi
     have hdrop:d.Revokes.drop i=y::d.Revokes.drop (i+1):=by rw[List.drop_eq_getElem_cons hi,hy]
     rw[hdrop,List.foldl_cons]at hfQ
     obtain⟨gb,gc,G1,G2,hget,hgrow,hperm,hput⟩:=ownQ.rev.get y
     have hcy:=hQc y
     have hcP:=hcnt y
     refine sr (tO (decide_eq_true ob) U (qO 8 U (aA (rO (enc:=λy=>[I y]) (λ_ _ _ e=>e) dy ty3 (okd.Revokes.mono xH l79).1 (nthZ hgi) (dq hgi) U U U (λq6 B6=>?_)))))
     refine dD ty3 B6 U (an (eh [zd] mixed kr jn (λhs16 _=>?_)))
     refine tf 0 U U (rh ty211 A79 U) (tf 1 U U (λ_ _ _=>fW U) (qB [2] U (tf 3 U U (rH 5 ty236 B79 U U) (tm 4 U (tf 5 U U (rh ty211 A79 U) (tf 6 U U (λ_ _ _=>fW U) (qB [7] U (tf 8 U U (rH 5 ty236 B79 U U) (qB [9,11] U (tf 12 U U (rj 0 ty3 U U U) ?_))))))))))
     refine lY 10 13 kr U U ?_ ?_
     .refine rg 6 (k:=y) I6 (fU ox) U ownQ.map (fp zv31) (show V3i _ (.slice none 0 0) (none,0,0)from U) U U (λv hv=>?_)
      rw[hget]at hv
      obtain rfl:=hv
      refine⟨jn,(tn 13 U (aV (cells:=[I d.No]) dy ty3 zc3 U U kr (λbn=>⟨jn,?_⟩)))⟩
      let zn:Nat×Obj:=(bn,O [I d.No] 3)
      let z5:Nat×Obj:=(b5,O (QD.done.map SW) 4)
      refine tn 14 U (EI (List.Perm.append_left ([zn,zd,zi,zl,zr,z5,(b8,.cells (QD.lacks.map (zD .i64)).toArray 3 (0,0)),(br,oQ)]:LH) hperm) (cd SL [zn,zd,zi,zl,zr,z5,(b8,.cells (QD.lacks.map (zD .i64)).toArray 3 (0,0)),(br,oQ)] G2 (λG=>[zn,zd,zi,zl,zr,z5,(b8,.cells (QD.lacks.map (zD .i64)).toArray 3 (0,0)),(br,oQ)]++(G2++G)) U (λ_=>U) dy ty3 zc3 U bytes3 hgrow U U (dX 0 U (show aY kB h9 [I d.No] [d.No]from⟨[I d.No],[],U,U,U,U⟩)) (by simp only[xA,jC]at *;omega) (by simp only[xA,jC]at *;omega) (λgb' gc' G1' hG'=>⟨jn,?_⟩)))
      refine tn 15 U (ll 7 (k:=y) (x:=(gb',(mgetD QD.revoked y []++[d.No]).length,gc')) I6 (fU ox) U ownQ.map U U U (λoR hmR=>⟨jn,aG kr ?_⟩))
      obtain⟨G',hfr',hp'⟩:=hput gb' gc' _ G1' hG'
      refine qT 2 U (oi i U (qO 2 U (bW (L':=[zn,zd,zi,zl,zr,z5,(b8,.cells (QD.lacks.map (λv=>zD .i64 v)).toArray 3 (0,0)),(br,oR)]++(G2++G1')) U ?_)))
      exact lL (L':=zn::([zd,zi,zl,zr]++plB b5 b8 br (playRevoke d QD y) oR G')) (List.Perm.append_left [_,_,_,_,_,_,_,_] (List.perm_append_comm.trans hp'.symm)) (ba (L':=[zd,zi,zl,zr]++plB b5 b8 br (playRevoke d QD y) oR G') js (ag (i+1,playRevoke d QD y,oR,mput mQ y (gb',(mgetD QD.revoked y []++[d.No]).length,gc'),G') _ (by show d.Revokes.length-(i+1)<d.Revokes.length-i;omega) ⟨hfQ,hi,⟨ownQ.done,ownQ.lacks,hmR,hfr'⟩,hQs,hQg,Bl hQc⟩ rd))
     refine aV (cells:=[I d.No]) dy ty3 zc3 U U kr (λbn=>⟨jn,?_⟩)
     let zn:Nat×Obj:=(bn,O [I d.No] 3)
     let z5:Nat×Obj:=(b5,O (QD.done.map SW) 4)
     refine tn 10 U (rg 7 (k:=y) I6 (fU ox) U ownQ.map (fp zv31) (show V3i _ (.slice none 0 0) (none,0,0)from U) U U (λv hv=>?_))
     rw[hget]at hv
     obtain rfl:=hv
     refine⟨jn,(tn 14 U (EI (List.Perm.append_left ([zn,zd,zi,zl,zr,z5,(b8,.cells (QD.lacks.map (zD .i64)).toArray 3 (0,0)),(br,oQ)]:LH) hperm) (cd SL [zn,zd,zi,zl,zr,z5,(b8,.cells (QD.lacks.map (zD .i64)).toArray 3 (0,0)),(br,oQ)] G2 (λG=>[zn,zd,zi,zl,zr,z5,(b8,.cells (QD.lacks.map (zD .i64)).toArray 3 (0,0)),(br,oQ)]++(G2++G)) U (λ_=>U) dy ty3 zc3 U bytes3 hgrow U U (dX 0 U (show aY kB h9 [I d.No] [d.No]from⟨[I d.No],[],U,U,U,U⟩)) (by simp only[xA,jC]at *;omega) (by simp only[xA,jC]at *;omega) (λgb' gc' G1' hG'=>⟨jn,?_⟩))))⟩
     refine tn 15 U (ll 7 (k:=y) (x:=(gb',(mgetD QD.revoked y []++[d.No]).length,gc')) I6 (fU ox) U ownQ.map U U U (λoR hmR=>⟨jn,aG kr ?_⟩))
     obtain⟨G',hfr',hp'⟩:=hput gb' gc' _ G1' hG'
     refine qT 2 U (oi i U (qO 2 U (bW (L':=[zn,zd,zi,zl,zr,z5,(b8,.cells (QD.lacks.map (λv=>zD .i64 v)).toArray 3 (0,0)),(br,oR)]++(G2++G1')) U ?_)))
     exact lL (L':=zn::([zd,zi,zl,zr]++plB b5 b8 br (playRevoke d QD y) oR G')) (List.Perm.append_left [_,_,_,_,_,_,_,_] (List.perm_append_comm.trans hp'.symm)) (ba (L':=[zd,zi,zl,zr]++plB b5 b8 br (playRevoke d QD y) oR G') js (ag (i+1,playRevoke d QD y,oR,mput mQ y (gb',(mgetD QD.revoked y []++[d.No]).length,gc'),G') _ (by show d.Revokes.length-(i+1)<d.Revokes.length-i;omega) ⟨hfQ,hi,⟨ownQ.done,ownQ.lacks,hmR,hfr'⟩,hQs,hQg,Bl hQc⟩ rd))
    refine sr (fO (decide_eq_false ob) U (qO 4 U ?_))
    have hie:i=d.Revokes.length:=by omega
    refine hx4 (QD,oQ,mQ,GQ) _ ⟨?_,ownQ,hQs,hQg,λk=>?_⟩ trivial
    .rw[hie,List.drop_length]at hfQ;exact hfQ
    have:=hQc k;show(mgetD QD.revoked k []).length<=_;omega
   rw[c1,cond_false]at hstep
   refine ba (L':=[zl,zr]++plB b5 b8 br (playDone Pm x) om Gf) js (bW (L':=rdH RW r1 lp1 (plB b5 b8 br (playDone Pm x) om Gf++markB [])) (by simp[markB,rdH,zl,zr]) ?_)
   refine nx (playDone Pm x,om,m3,Gf,h9) _ _ ⟨?_,hPs.1,hPs.2.1,own3,h59,hin',λk=>?_⟩ lf
   .rw[←hfold,List.foldl_cons,hstep]
   have:=hcnt k
   simp only[xA]at this
   show(mgetD Pm.revoked k []).length+16*rest.length<=320
   rw[hPs.2.2];omega
  rintro r1 ⟨P,om,m3,Gf,hh⟩ h7 ⟨hfold,hsh,hsgd,hown,h5h,hin,hcnt⟩ hh7 h57
  dsimp only at hfold hsh hsgd hown h5h hin hcnt hh7
  replace hown:=hown.mono hh7
  have hPl:P.signed.length=l.length:=by rw[hsgd];exact hsg
  refine qT 3 U (dD ty211 (A7.mono h57) U (an (Et [] (plB b5 b8 br P om Gf) (markB [r1]) U hM (λh8 l8 hG=>?_))))
  have hP:P=ct l signed bI:=hfold
  have okP:=hown.lent (sq:=sr0) (sb:=eA) (sc:=ey) hln (hsh▸oks.mono h57) (hsgd▸hs4.mono xH h57) l8 hG
  exact re [r1] [Q b11] func126 U rd ⟨⟨b11,0,none⟩,playR l.length sr0 eA ey b5 b8 br,U,hP▸okP,by
   rw[←hP,Fc hsh hsgd hown.done hown.lacks];exact A11.mono (xG h57 l8)⟩
 rintro⟨a,b,c,d,f,g,t⟩ e2 h2 L2 hI hμ
 dsimp only at hI hμ ⊢
 have hv:=hI.1
 refine Qg (plN a b c d f g t) ?_ ?_ (λi hi o ho=>?_)
 .clear hI hμ
  revert hv
  cases a<;>cases b<;>cases c<;>cases d<;>cases f<;>cases g<;>cases t<;>intro hv<;>first|exact absurd hv (by decide)|kernel_rfl
 .clear hI
  revert hv hμ
  cases a<;>cases b<;>cases c<;>cases d<;>cases f<;>cases g<;>cases t<;>intro hμ hv<;>first|exact absurd hv (by decide)|exact absurd rfl hμ|decide
 rcases Qu hi with⟨rfl,rfl⟩|⟨rfl,rfl⟩|⟨rfl,rfl⟩|⟨rfl,rfl⟩|⟨rfl,ha,rfl⟩|⟨rfl,rfl,rfl⟩|⟨rfl,rfl⟩|⟨rfl,rfl,rfl,rfl,rfl,rfl,rfl⟩
 .obtain rfl:=qV (show some _=some o from ho)
  exact Ux (λ_ _ _ q=>⟨q.1,(true,b,c,d,f,g,t),by simp only[plM,cond_true,cond_false];omega,pmid (pmid (pmid (pmid (pmid (pmid (List.Perm.refl _)))))),q.2⟩) (R1 (hl.mono vL l1) hI)
 .obtain rfl:=qV (show some _=some o from ho)
  exact Ux (λ_ _ _ q=>⟨q.1,(a,true,c,d,f,g,t),by simp only[plM,cond_true,cond_false];omega,pmid (pmid (pmid (pmid (pmid (List.Perm.refl _))))),q.2⟩) (R0 hln hI)
 .obtain rfl:=qV (show some _=some o from ho)
  exact Ux (λ_ _ _ q=>⟨q.1,(a,b,true,d,f,g,t),by simp only[plM,cond_true,cond_false];omega,pmid (pmid (pmid (pmid (List.Perm.refl _)))),q.2⟩) (RZ hln hI)
 .obtain rfl:=qV (show some _=some o from ho)
  exact Ux (λ_ _ _ q=>⟨q.1,(a,b,c,true,f,g,t),by simp only[plM,cond_true,cond_false];omega,pmid (pmid (pmid (List.Perm.refl _))),q.2⟩) (RY hI)
 .obtain rfl:=qV (show some _=some o from ho)
  exact Ux (λ_ _ _ q=>⟨q.1,(a,b,c,d,f,true,t),by simp only[plM,cond_true,cond_false];omega,pmid (List.Perm.refl _),q.2⟩) (RL ha hI)
 .obtain rfl:=qV (show some _=some o from ho)
  exact Ux (λ_ _ _ q=>⟨q.1,(a,b,c,d,f,true,true),by simp only[plM,cond_true,cond_false],List.Perm.refl _,q.2⟩) (RK hI)
 .obtain rfl:=qV (show some _=some o from ho)
  exact Ux (λ_ _ _ q=>⟨q.1,(a,b,c,d,true,g,t),by simp only[plM,cond_true,cond_false];omega,pmid (pmid (List.Perm.refl _)),q.2⟩) (RJ hI)
 exact absurd U hμ
theorem rG(h:HF)(l:List Document)(dU:Option Addr)(dT:Nat)(signed:List Int)(eA:Option Addr)(ey:Nat)(bI:Int)(hl:SlC kV h dU dT l)(hsigned:SlC kB h eA ey signed)(hln:l.length<20):i9 prog 52 [.slice dU l.length dT,.slice eA signed.length ey,I bI] h (λv h'=>∃(rb0:Option Addr)(rc0:Nat),v=.tuple #[.slice rb0 ((cg l signed bI).1).length rc0,I ((cg l signed bI).2)]/\SlC kB h' rb0 rc0 ((cg l signed bI).1)):=by
 refine sT func52 U ntmps52 U λX hM hX hF=>?_
 have hs0:=@rfl _ (cg l signed bI)
 refine qT 9 U (ai call70 (oX _ _ _ _ hl) U (qO 7 U (ae hs0 U (λc1 hs1=>?_) (λc1 hs2=>?_))))
 .refine qT 6 U ?_
  have hs3:cg l signed bI=([],(aT l)):=hs1
  exact nretH [.slice none 0 0,I (aT l)] (hs3▸⟨none,0,U,vE⟩)
 refine qT 6 U (ai call124 (pW _ _ _ _ _ _ _ hl hsigned) U (qO 2 U (bL 4 [23,24,25,26,27] 23 27 (!(ga bI)) U (λc2 hk1=>?_) (λe=>?_))))
 .exact av (ai Oo (nM h bI) U (qO 2 U (hk1 _ U)))
 refine aI (ae hs2 U (λc3 hs4=>?_) (λc3 hs5=>?_))
 .refine qT 5 U ?_
  have hs6:cg l signed bI=([],1):=hs4
  exact nretH [.slice none 0 0,I 1] (hs6▸⟨none,0,U,vE⟩)
 refine qT 6 U (aA (cC call126 (sa _ _ _ _ _ _ _ bI hl hsigned (by simpa using c1) (Bb ob) hln) U (λv1 h1 hle1 hp1=>?_)))
 obtain⟨q1,rr1,rfl,ok1,A1⟩:=hp1
 refine qL 9 [] U ?_
 refine lp2 l (λi w=>[(2,I bI),(6,.slice w.2.1 w.1.length w.2.2.1),(9,.pointer (some q1)),(32,.slice dU l.length dT),(33,I (l.length:Int)),(34,I (i:Int))]) (λ_=>h1) (λw=>w.2.2.2) (λi w=>cZ kB 3 h1 w.1 w.2.1 w.2.2.1 w.2.2.2/\w.1.length<=0+i) (λs1 i w=>(cg.L1 l signed bI (cg.K1)) s1 i w.1) ([],none,0,[]) ((hl.mono vL hle1).1.1) hs5 ⟨cZ.nil,lo⟩ ?_ ?_
 .rintro i1 ⟨rT,MO,MN,Kx⟩ ft hs7 ⟨HG,Px⟩ e
  try dsimp only at HG Px
  refine qT 6 U (eY xH ([]) Kx ([]) ap hM HG (λh3 hle3 sl2=>?_))
  have hs8:cg l signed bI=(rT,0):=hs7
  exact nretH [.slice MO rT.length MN,I 0] (hs8▸⟨MO,MN,U,sl2⟩)
 rintro i1 ⟨rT,MO,MN,Kx⟩ y1 rz1 hd1 cY aJ dY gy hs9 ⟨HG,Px⟩ hx1 ag1 e
 try dsimp only at HG Px
 refine sr (tO cY U (qO 9 U (aA (iR sf ty51 (hl.mono vL hle1).1 aJ U U U (λ_ _ _ e=>e) (λq3 r2 A3 ok3=>dv ty51 A3 U U (aS zc51 (λb3=>gu (aR 0 ty51 U U U U U U (iO (L':=[(b3,O (qP y1 r2) 51)]++(Kx)) U (qO 6 U (ai call127 (mY h1 (ct l signed bI) rr1 q1 (i1:Int) bI ok1 A1 (by first|exact Hu ob|(rw[uh];omega)) (Df _ _ _)) U (qO 11 U (ae hs9 U (λc5 hs10=>?_) (λc5 hs11=>?_))))))))))))))
 .exact qK 4 [0] U (aA (aV (cells:=[I y1.No]) dy ty3 zc3 U U kr (λb4=>aA (cd SL ([(b4,O [I y1.No] 3),(b3,O (qP y1 r2) 51)]) ([]) (λG=>[(b4,O [I y1.No] 3),(b3,O (qP y1 r2) 51)]++G) ap (λ_=>ap) dy ty3 zc3 U bytes3 HG U U (dX 0 U (cE (y1.No) U U)) lo lo (λob2 oc2 G2 gr2=>qO 4 U (oi i1 U (qO 2 U (ba (L':=G2) js (ag1 ((rT++[y1.No]),ob2,oc2,G2) hs10 ⟨gr2,lo⟩)))))))))
 exact aH (qT 2 U (oi i1 U (qO 2 U (ba (L':=Kx) js (ag1 (rT,MO,MN,Kx) hs11 ⟨HG,lo⟩)))))
theorem uW(h:HF)(d:Document)(CR:jZ)(v0:bK)(N5:kc)(v0_q:Addr)(hd:SG h d CR)(hv0:bK.ok h v0 N5)(av0:At h v0_q (bK.cells v0 N5)):Ret prog 130 [.agg (qP d CR).toArray,.pointer (some v0_q)] h (.bool (bY d v0)):=by
 refine sT func130 U ntmps130 U λX hM hX hF=>?_
 have hs0:=@rfl _ (bY d v0)
 exact sr (bS (λb1=>qL 8 [0] U (jk (j:=7) ty3 av0 U U (qO 3 U (nretP [.bool (d.No==v0.doc.No)] (cs hs0))))))
theorem pP(h:HF)(s:List Document)(sY:Option Addr)(sX:Nat)(f:(Document->Bool))(f_v:Value)(hs:SlC kV h sY sX s)(hf:∀(h':HF)(dE:Document)(zy:jZ),xM h h'->dE∈s->SG h' dE zy->uL prog f_v [.agg (qP dE zy).toArray] h' [] (.bool (f dE))):Ret prog 218 [.slice sY s.length sX,f_v] h (.bool (jo s f)):=by
 refine sT func218 U ntmps218 U λX hM hX hF=>?_
 have hs0:=@rfl _ (jo s f)
 exact sr (qO 6 U (ai call128 (lD _ _ _ _ f f_v hs hf) U (qO 3 U (nretP [.bool (decide (0<=(ad s f)))] (cs hs0)))))
theorem CQ(h:HF)(l:List Document)(dU:Option Addr)(dT:Nat)(signed:List Int)(eA:Option Addr)(ey:Nat)(no:Int)(bw:Int)(hl:SlC kV h dU dT l)(hsigned:SlC kB h eA ey signed)(hln:l.length<20):Ret prog 84 [.slice dU l.length dT,.slice eA signed.length ey,I no,I bw] h (.tuple #[I ((gh l signed no bw).1),I ((gh l signed no bw).2.1),I ((gh l signed no bw).2.2)]):=by
 refine sT func84 U ntmps84 U λX hM hX hF=>?_
 have hs0:=@rfl _ (gh l signed no bw)
 refine qT 10 U (ai call70 (oX _ _ _ _ hl) U (qO 7 U (ae hs0 U (λc1 hs1=>?_) (λc1 hs2=>?_))))
 .refine qT 7 U ?_
  have hs3:gh l signed no bw=(0,0,(aT l)):=hs1
  exact nretP [I 0,I 0,I (aT l)] (hs3▸U)
 refine qT 6 U (ai call124 (pW _ _ _ _ _ _ _ hl hsigned) U (qO 2 U (bL 4 [24,25,26,27,28] 24 28 (!(ga bw)) U (λc2 hk1=>?_) (λe=>?_))))
 .exact av (ai Oo (nM h bw) U (qO 2 U (hk1 _ U)))
 refine aI (ae hs2 U (λc3 hs4=>?_) (λc3 hs5=>?_))
 .refine qT 6 U ?_
  have hs6:gh l signed no bw=(0,0,1):=hs4
  exact nretP [I 0,I 0,I 1] (hs6▸U)
 refine qT 6 U (aA (cC call126 (sa _ _ _ _ _ _ _ bw hl hsigned (by simpa using c1) (Bb ob) hln) U (λv1 h1 hle1 hp1=>?_)))
 obtain⟨q1,rr1,rfl,ok1,A1⟩:=hp1
 refine qO 5 U (aA (fj (fW U) (qL 2 [] U (jk (j:=1) ty190 A1 U U (av ?_)))))
 obtain⟨o1,hb1,hm1⟩:=ok1.shelf.at_
 refine aA (tT (k:=no) AS (fU ox) hb1 hm1 (fp zv3) (show wm _ (I 0) 0 from U) U U (λv2 hv1=>?_))
 obtain rfl:=hv1
 refine qO 12 U (ae hs5 U (λc4 hs7=>?_) (λc4 hs8=>?_))
 .refine qT 6 U ?_
  have hs9:gh l signed no bw=(0,0,1):=hs7
  exact nretP [I 0,I 0,I 1] (hs9▸U)
 refine qT 6 U (ai call127 (mY h1 (ct l signed bw) rr1 q1 (mgetD ((ct l signed bw).shelf.at_) no 0) bw ok1 A1 (by first|exact Hu ob|(rw[uh];omega)) (Df _ _ _)) U (qO 14 U ?_))
 have hs10:gh l signed no bw=((cQ (ct l signed bw) (mgetD ((ct l signed bw).shelf.at_) no 0) bw).1,(cQ (ct l signed bw) (mgetD ((ct l signed bw).shelf.at_) no 0) bw).2,0):=hs8
 exact nretP [I ((cQ (ct l signed bw) (mgetD ((ct l signed bw).shelf.at_) no 0) bw).1),I ((cQ (ct l signed bw) (mgetD ((ct l signed bw).shelf.at_) no 0) bw).2),I 0] (hs10▸U)
theorem zf(h:HF)(s:List Int)(sY:Option Addr)(sX:Nat)(v:Int)(hs:SlC kB h sY sX s):Ret prog 221 [.slice sY s.length sX,I v] h (I (ic s v)):=by
 refine sT func221 U ntmps221 U λX hM hX hF=>?_
 have hs0:=@rfl _ (ic s v)
 refine qK 11 [] U ?_
 refine lp0 s (λi=>[(0,.slice sY s.length sX),(1,I v),(7,I (s.length:Int)),(8,I (i:Int))]) ([]) (λs1 i=>(ic.L1 v (ic.K1)) s1 i) hs.1.1 hs0 ?_ ?_
 .rintro i1 ft hs1 e
  exact sr (an (nretP [I (-1)] (ci hs1)))
 rintro i1 y1 rz1 hd1 cY aJ dY gy hs3 hx1 ag1 e
 refine sr (tO cY U (qO 16 U (aA (iF (λy=>[I y]) dy ty3 hs.1 aJ U U U (λq2 A2=>dD ty3 A2 U (qO 2 U (ae hs3 U (λc2 hs4=>?_) (λc2 hs5=>?_))))))))
 .exact sr (qO 3 U (nretP [I (i1:Int)] (ci hs4)))
 exact aH (qT 2 U (oi i1 U (qO 2 U (ag1 hs5))))
theorem pk(h:HF)(s:List Int)(sY:Option Addr)(sX:Nat)(v:Int)(hs:SlC kB h sY sX s):Ret prog 134 [.slice sY s.length sX,I v] h (.bool (lF s v)):=by
 refine sT func134 U ntmps134 U λX hM hX hF=>?_
 have hs0:=@rfl _ (lF s v)
 exact sr (qO 6 U (ai call221 (zf _ _ _ _ v hs) U (qO 3 U (nretP [.bool (decide (0<=(ic s v)))] (cs hs0)))))
theorem uI(h:HF)(d:Document)(CR:jZ)(c:bK)(oJ:kc)(c_q:Addr)(signed:List Int)(eA:Option Addr)(ey:Nat)(signed_q:Addr)(hd:SG h d CR)(hc:bK.ok h c oJ)(ac:At h c_q (bK.cells c oJ))(hsigned:SlC kB h eA ey signed)(asigned:At h signed_q [.slice eA signed.length ey])(hsm:smR c.Register)(hco:i5 c)(hln:c.Register.Docs.length<20)(hsg:cW c.Register.Docs signed=true)(hdm:d∈c.Register.Docs):Ret prog 219 [.agg (qP d CR).toArray,.pointer (some c_q),.pointer (some signed_q)] h (.bool (kx d c signed)):=by
 refine sT func219 U ntmps219 U λX hM hX hF=>?_
 have hs0:=@rfl _ (kx d c signed)
 refine sr (bS (λb1=>qL 9 [0] U (jk (j:=7) ty3 ac U U (ai call134 (pk _ _ _ _ c.doc.No hd.Revokes) U (qO 2 U (ae hs0 U (λc1 hs1=>?_) (λc1 hs2=>?_)))))))
 .exact sr (an (nretP [.bool false] (cs hs1)))
 refine qK 5 [] U (jk (j:=5) ty27 ac U U (dD ty31 asigned U (qL 3 [0] U (jk (j:=48) ty3 ac U U (ai call84 (CQ _ _ _ _ _ _ _ d.No c.at_ hc.Register.Docs hsigned ob) U (qO 11 U (aA (oF uM (io h ((gh c.Register.Docs signed d.No c.at_).2.2)) (mI (NS hco hsg hdm)) U (qO 6 U (aU 3 [32,33,34,35] 32 35 ((gh c.Register.Docs signed d.No c.at_).1 != 4) U (λc2 hk1=>?_) (λe=>?_)))))))))))
 .exact av (qO 2 U (hk1 _ U))
 exact an (nretP [.bool (((gh c.Register.Docs signed d.No c.at_).1 != 1)&&((gh c.Register.Docs signed d.No c.at_).1 != 4))] (cs hs2))
theorem py(h:HF)(c:bK)(oJ:kc)(signed:List Int)(eA:Option Addr)(ey:Nat)(hc:bK.ok h c oJ)(hsigned:SlC kB h eA ey signed)(hsm:smR c.Register)(hco:i5 c)(hln:c.Register.Docs.length<20)(hsg:cW c.Register.Docs signed=true):Ret prog 131 [.agg (bK.cells c oJ).toArray,.slice eA signed.length ey] h (.bool (fI c signed)):=by
 refine sT func131 U ntmps131 U λX hM hX hF=>?_
 have hs0:=@rfl _ (fI c signed)
 exact sr (bS (λb1=>bS (λb2=>qL 7 [1] U (aO 1 U hM (λh1 hle1 hb1=>aO 0 U hM (λh2 hle2 hb2=>aA (eI U U (ai call218 (pP _ _ _ _ (λdE=>kx dE c signed) (.func (.func 219) #[] #[Q b1,Q b2]) (hc.Register.Docs.mono vL (hle1.t hle2)) (λh' dE zy hle Pf a0_o=>iK call219 (uI h' dE zy c oJ ⟨b1,0,none⟩ signed eA ey ⟨b2,0,none⟩ a0_o ((hc.mono (hle1.t hle2)).mono hle) (((cz hb1).mono hle2).mono hle) ((hsigned.mono xH (hle1.t hle2)).mono xH hle) ((cz hb2).mono hle) hsm hco ob hsg Pf))) U (an (nretP [.bool (jo c.Register.Docs (λdE=>kx dE c signed))] (cs hs0)))))))))))
theorem wU(h:HF)(c:bK)(oJ:kc)(signed:List Int)(eA:Option Addr)(ey:Nat)(hc:bK.ok h c oJ)(hsigned:SlC kB h eA ey signed)(hsm:smR c.Register)(hco:i5 c)(hln:c.Register.Docs.length<20)(hsg:cW c.Register.Docs signed=true):Ret prog 55 [.agg (bK.cells c oJ).toArray,.slice eA signed.length ey] h (.bool (gU c signed)):=by
 refine sT func55 U ntmps55 U λX hM hX hF=>?_
 have hs0:=@rfl _ (gU c signed)
 refine sr (bS (λb1=>qL 7 [0] U (aO 0 U hM (λh1 hle1 hb1=>aA (eI U U (ai call128 (lD _ _ _ _ (λdE=>bY dE c) (.func (.func 130) #[] #[Q b1]) (hc.Register.Docs.mono vL hle1) (λh' dE zy hle Pf a0_o=>iK call130 (uW h' dE zy c oJ ⟨b1,0,none⟩ a0_o ((hc.mono hle1).mono hle) ((cz hb1).mono hle)))) U (qO 3 U ?_)))))))
 refine m8 [(4,.bool (((decide (c.at_<c.doc.At)||decide (c.doc.Until<=c.at_))||(decide (0<=(nthI signed (ad c.Register.Docs (λdE=>bY dE c))))&&decide ((nthI signed (ad c.Register.Docs (λdE=>bY dE c)))<=c.at_)))||(fI c signed)))] (λe=>?_) (λhk1=>?_)
 rotate_left
 .refine eh ([]) mixed kr jn (λdt _=>?_)
  refine qB [0] U (tf 1 U U (rH 48 ty3 (cz hb1) U U) (qB [2,3] U (tf 4 U U (rH 8 ty3 (cz hb1) U U) (qA [5,6] U ?_))))
  refine cB 17 U (λc1=>?_) (λc1=>?_)
  .have c1p:=of_decide_eq_true c1
   exact tk 7 U U (qR 8 28 U (aG kr (hk1 _ ⟨(cb (show true=(((decide (c.at_<c.doc.At)||decide (c.doc.Until<=c.at_))||(decide (0<=(nthI signed (ad c.Register.Docs (λdE=>bY dE c))))&&decide ((nthI signed (ad c.Register.Docs (λdE=>bY dE c)))<=c.at_)))||(fI c signed))from by rw[c1]<;>rfl)),trivial⟩)))
  have c1p:=of_decide_eq_false c1
  refine qB [7] U (tf 8 U U (rH 48 ty3 (cz hb1) U U) (qB [9,10] U (tf 11 U U (rH 12 ty3 (cz hb1) U U) (qR 12 3 U ?_))))
  refine cB 25 U (λc2=>?_) (λc2=>?_)
  .have c2p:=of_decide_eq_true c2
   exact tk 15 U U (qR 16 20 U (aG kr (hk1 _ ⟨(cb (show true=(((decide (c.at_<c.doc.At)||decide (c.doc.Until<=c.at_))||(decide (0<=(nthI signed (ad c.Register.Docs (λdE=>bY dE c))))&&decide ((nthI signed (ad c.Register.Docs (λdE=>bY dE c)))<=c.at_)))||(fI c signed))from by rw[c1,c2]<;>rfl)),trivial⟩)))
  have c2p:=of_decide_eq_false c2
  refine qA [15,16] U ?_
  have ho1:0<=((ad c.Register.Docs (λdE=>bY dE c)):Int)/\((ad c.Register.Docs (λdE=>bY dE c)):Int)<((signed).length:Int):=(HS hco hsg)
  refine cU 17 (enc:=λy=>[I y]) dt jn ei dy ty3 (hsigned.mono xH hle1).1 ho1 (de ho1) U U U U kr (λq1 A1=>tf 18 U U (rh ty3 A1 U) (qA [19,20] U ?_))
  refine cB 31 U (λc3=>?_) (λc3=>?_)
  .have c3p:=of_decide_eq_true c3
   refine qA [21,22] U ?_
   have ho2:0<=((ad c.Register.Docs (λdE=>bY dE c)):Int)/\((ad c.Register.Docs (λdE=>bY dE c)):Int)<((signed).length:Int):=(HS hco hsg)
   refine cU 23 (enc:=λy=>[I y]) dt jn ei dy ty3 (hsigned.mono xH hle1).1 ho2 (de ho2) U U U U kr (λq2 A2=>tf 24 U U (rh ty3 A2 U) (qB [25] U (tf 26 U U (rH 48 ty3 (cz hb1) U U) (qR 27 4 U ?_))))
   refine cB 41 U (λc4=>?_) (λc4=>?_)
   .have c4p:=of_decide_eq_true c4
    exact tk 31 U U (qR 32 4 U (aG kr (hk1 _ ⟨(cb (show true=(((decide (c.at_<c.doc.At)||decide (c.doc.Until<=c.at_))||(decide (0<=(nthI signed (ad c.Register.Docs (λdE=>bY dE c))))&&decide ((nthI signed (ad c.Register.Docs (λdE=>bY dE c)))<=c.at_)))||(fI c signed))from by rw[c1,c2,c3,c4]<;>rfl)),trivial⟩)))
   have c4p:=of_decide_eq_false c4
   exact tf 31 U U (λ_ _ hj=>iP ty123 ((cz hb1).mono hj.1) U U) (tm 32 U (tn 33 U (et call131 (py _ _ _ _ _ _ (hc.mono hle1) (hsigned.mono xH hle1) ob ob ob ob) U (⟨jn,(qA [34,35] U (aG kr (hk1 _ ⟨(cb (show(fI c signed)=(((decide (c.at_<c.doc.At)||decide (c.doc.Until<=c.at_))||(decide (0<=(nthI signed (ad c.Register.Docs (λdE=>bY dE c))))&&decide ((nthI signed (ad c.Register.Docs (λdE=>bY dE c)))<=c.at_)))||(fI c signed))from by rw[c1,c2,c3,c4]<;>rfl)),trivial⟩)))⟩))))
  have c3p:=of_decide_eq_false c3
  exact tk 21 U U (qR 22 9 U (tf 31 U U (λ_ _ hj=>iP ty123 ((cz hb1).mono hj.1) U U) (tm 32 U (tn 33 U (et call131 (py _ _ _ _ _ _ (hc.mono hle1) (hsigned.mono xH hle1) ob ob ob ob) U (⟨jn,(qA [34,35] U (aG kr (hk1 _ ⟨(cb (show(fI c signed)=(((decide (c.at_<c.doc.At)||decide (c.doc.Until<=c.at_))||(decide (0<=(nthI signed (ad c.Register.Docs (λdE=>bY dE c))))&&decide ((nthI signed (ad c.Register.Docs (λdE=>bY dE c)))<=c.at_)))||(fI c signed))from by rw[c1,c2,c3]<;>rfl)),trivial⟩)))⟩))))))
 exact nretP [.bool (((decide (c.at_<c.doc.At)||decide (c.doc.Until<=c.at_))||(decide (0<=(nthI signed (ad c.Register.Docs (λdE=>bY dE c))))&&decide ((nthI signed (ad c.Register.Docs (λdE=>bY dE c)))<=c.at_)))||(fI c signed))] (cs hs0)
theorem Cz(h:HF)(c:bK)(oJ:kc)(c_q:Addr)(signed:List Int)(eA:Option Addr)(ey:Nat)(signed_q:Addr)(hc:bK.ok h c oJ)(ac:At h c_q (bK.cells c oJ))(hsigned:SlC kB h eA ey signed)(asigned:At h signed_q [.slice eA signed.length ey])(hsm:smR c.Register)(hco:i5 c)(hln:c.Register.Docs.length<20)(hsg:cW c.Register.Docs signed=true):Ret prog 54 [.pointer (some c_q),.pointer (some signed_q)] h (.bool (Aa c signed)):=by
 refine sT func54 U ntmps54 U λX hM hX hF=>?_
 have hs0:=@rfl _ (Aa c signed)
 exact sr (qO 4 U (dv ty123 ac U U (dD ty31 asigned U (ai call55 (wU _ _ _ _ _ _ hc hsigned ob ob ob ob) U (an (nretP [.bool (gU c signed)] (cs hs0)))))))
theorem wd(h:HF)(eW:Int)(v0:List Int)(uv:Option Addr)(uu:Nat)(v0_q:Addr)(hv0:SlC kB h uv uu v0)(av0:At h v0_q [.slice uv v0.length uu]):Ret prog 133 [I eW,.pointer (some v0_q)] h (.bool (lH eW v0)):=by
 refine sT func133 U ntmps133 U λX hM hX hF=>?_
 have hs0:=@rfl _ (lH eW v0)
 exact sr (qO 4 U (dD ty31 av0 U (av (ai call134 (pk _ _ _ _ eW hv0) U (qO 3 U (nretP [.bool (!(lF v0 eW))] (cs hs0)))))))
theorem yl(h:HF)(c:bK)(oJ:kc)(signed:List Int)(eA:Option Addr)(ey:Nat)(hc:bK.ok h c oJ)(hsigned:SlC kB h eA ey signed)(hsm:smR c.Register)(hco:i5 c)(hln:c.Register.Docs.length<20)(hsg:cW c.Register.Docs signed=true):Ret prog 57 [.agg (bK.cells c oJ).toArray,.slice eA signed.length ey] h (.bool (jh c signed)):=by
 refine sT func57 U ntmps57 U λX hM hX hF=>?_
 have hs0:=@rfl _ (jh c signed)
 refine sr (bS (λb1=>qL 10 [0,0] U (aA (cC call52 (rG _ _ _ _ _ _ _ c.at_ hc.Register.Docs hsigned ob) U (λv1 h1 hle1 hp1=>?_)))))
 obtain⟨rb1,rc1,rfl,sl1⟩:=hp1
 exact av (qO 2 U (aS zc31 (λb2=>cK 0 ty31 U U U U U U (qO 5 U (aA (oF uM (io h1 ((cg c.Register.Docs signed c.at_).2)) (mI (GS hco hsg)) U (qL 6 [1] U (aO 0 U hM (λh2 hle2 hb1=>aA (eI U U (ai Je (ie _ _ _ _ (λdE=>lH dE ((cg c.Register.Docs signed c.at_).1)) (.func (.func 133) #[] #[Q b2]) (hc.doc.Needs.mono xH (hle1.t hle2)) (λh' dE hle=>iK call133 (wd h' dE ((cg c.Register.Docs signed c.at_).1) rb1 rc1 ⟨b2,0,none⟩  ((sl1.mono xH hle2).mono xH hle) ((cz hb1).mono hle)))) U (an (nretP [.bool (cI c.doc.Needs (λdE=>lH dE ((cg c.Register.Docs signed c.at_).1)))] (cs hs0))))))))))))))
theorem Cy(h:HF)(c:bK)(oJ:kc)(c_q:Addr)(signed:List Int)(eA:Option Addr)(ey:Nat)(signed_q:Addr)(hc:bK.ok h c oJ)(ac:At h c_q (bK.cells c oJ))(hsigned:SlC kB h eA ey signed)(asigned:At h signed_q [.slice eA signed.length ey])(hsm:smR c.Register)(hco:i5 c)(hln:c.Register.Docs.length<20)(hsg:cW c.Register.Docs signed=true):Ret prog 56 [.pointer (some c_q),.pointer (some signed_q)] h (.bool (zZ c signed)):=by
 refine sT func56 U ntmps56 U λX hM hX hF=>?_
 have hs0:=@rfl _ (zZ c signed)
 exact sr (qO 4 U (dv ty123 ac U U (dD ty31 asigned U (ai call57 (yl _ _ _ _ _ _ hc hsigned ob ob ob ob) U (an (nretP [.bool (jh c signed)] (cs hs0)))))))
theorem sU(h:HF)(seq:List Holder)(seq_v:Value)(hseq:Itr prog seq_v oU seq h)(hsz:seq.length<=2000000):i9 prog 176 [.slice none 0 0,seq_v] h (λv h'=>∃(rb0:Option Addr)(rc0:Nat),v=.slice rb0 (co seq).length rc0/\SlC Ui h' rb0 rc0 (co seq)):=by
 refine cH func176 U ntmps176 U λX hM hX=>?_
 have hs0:=@rfl _ (co seq)
 refine sr (bS (λb1=>qO 8 U (ej (bW (L':=([(b1,O [.slice none 0 0] 68)])++markB []) ap ?_))))
 refine ke (it:=seq_v) (xs:=seq) (ι:=(List Holder)×Option Addr×Nat×LH×HF) [] (λi=>i.2.2.2.2) (λi=>[(b1,O [.slice i.2.1 i.1.length i.2.2.1] 68)]++(i.2.2.2.1)) (λs i=>co seq=((co.L1 (co.K1)) s i.1)/\cZ Ui 158 i.2.2.2.2 i.1 i.2.1 i.2.2.1 i.2.2.2.1/\xM h i.2.2.2.2/\i.1.length+s.length<=seq.length) (λ_=>False) (λ_=>False) 0 (λ_ _ _=>False) ([],none,0,[],h) func176 U hseq U tj (λ_ _ _ _ _ hq=>hq) U (show[(b1,O [.slice none 0 0] 68)]=_ from U) ⟨hs0,cZ.nil,lf,(by simp)⟩ ?_ ?_ ?_ ?_ ?_
 .rintro l1 dm1 lp1 y1 rz1 vs1 ⟨bx,mX,mW,n9,hh1⟩ hr1 X hFR1 ⟨hs1,fP,hl1,u1_0⟩ hl01 hlr1 hv1 hX hXM hlp1 nx1 rt1 ex1 pn1
  obtain rfl:=hv1
  simp only[xA]at u1_0
  let z1:Nat×Obj:=(b1,O [.slice mX bx.length mW] 68)
  let z3:Nat×Obj:=(dm1,.deferred (some []))
  refine bW (L':=[(l1,.loop lp1),z3,z1]++(n9++(markB []))) ap (bC (aS zc158 (λb4=>aR 0 ty158 U U U U U U (iO (L':=[(b4,O (SK y1) 158),(l1,.loop lp1),z3,z1]++(n9++(markB []))) U ?_))))
  let z4:Nat×Obj:=(l1,.loop { lp1 with state:=.busy })
  let z5:Nat×Obj:=(b4,O (SK y1) 158)
  refine aI (j2 1 U hlp1 (qK 3 [3] U (cN 0 ty158 U U U (aA (aV (cells:=[I y1.Person,I y1.Weight]) Oa ty158 zc158 U U kr (λb5=>aA (cd Holder.eo ([(b5,O [I y1.Person,I y1.Weight] 158),z5,z4,z3,z1]) (markB []) (λG=>[(b5,O [I y1.Person,I y1.Weight] 158),z5,z4,z3,z1]++(markB []++G)) ap (λ_=>ap) Oa ty158 zc158 U bytes158 (fP.mono TS hlr1) U U (dX 0 U (cE y1 U U)) lo lo (λob2 oc2 G2 gr2=>yH (sH ([(b5,O [I y1.Person,I y1.Weight] 158),z5,z4,z3,z1]) G2 (markB [])) (cK 4 ty68 U U U U U U (qO 2 U ?_))))))))))
  let z6:Nat×Obj:=(b1,O [.slice ob2 ((bx++[y1]).length) oc2] 68)
  exact ba (L':=[z4,z3,z6]++(G2++(markB []))) js (bW (L':=rdH l1 dm1 lp1 (([z6]++G2)++markB [])) ap (nx1 ((bx++[y1]),ob2,oc2,G2,hr1) _ _ ⟨hs1,gr2,(hl1.t hlr1),(by simp only[xB,xA,jC]at *;omega)⟩ lf))
 .rintro dm1 ⟨bx,mX,mW,n9,hh1⟩ hn1 ⟨hs2,fP,hl1,u1_0⟩ hln1 hl01
  let z2:Nat×Obj:=(b1,O [.slice mX bx.length mW] 68)
  refine bW (L':=[z2]++(n9++(markB (dm1::[])))) ap (qK 6 [0] U (eY TS ([z2]) n9 (markB (dm1::[])) ap hM (fP.mono TS hln1) (λh2 hle2 sl2=>?_)))
  have hs3:co seq=bx:=hs2
  exact bW (L':=([z2])++markB (dm1::[])) ap (re (dm1::[]) [.slice mX bx.length mW] func176 U rd ⟨mX,mW,congrArg (λr:List Holder=>(.slice mX r.length mW:Value)) hs3.symm,(by rw[hs3];exact sl2)⟩)
 .exact xf
 .exact xf
 exact xf
theorem uz(h:HF)(seq:List Holder)(seq_v:Value)(hseq:Itr prog seq_v oU seq h)(hsz:seq.length<=2000000):i9 prog 91 [seq_v] h (λv h'=>∃(rb0:Option Addr)(rc0:Nat),v=.slice rb0 (gx seq).length rc0/\SlC Ui h' rb0 rc0 (gx seq)):=by
 refine sT func91 U ntmps91 U λX hM hX hF=>?_
 have hs0:=@rfl _ (gx seq)
 refine qT 7 U (aA (cC call176 (sU h seq seq_v hseq ob) U (λv1 h1 hle1 hp1=>?_)))
 obtain⟨rb1,rc1,rfl,sl1⟩:=hp1
 refine an ?_
 have hs1:gx seq=(co seq):=hs0
 exact nretH [.slice rb1 ((co seq).length) rc1] (hs1▸⟨rb1,rc1,U,sl1⟩)
end Go.Sg

namespace Go.Proofs
open Go.Shelf Go.RowKit Go.Lib Go.Sort
set_option maxHeartbeats 1000000 in
theorem Tryz.closure178(x y:Go.Sg.OSeat)(W:World):Calls Tryz.prog 178 #[.agg (Go.Sg.OSeat.cells x).toArray,.agg (Go.Sg.OSeat.cells y).toArray] W λe w'=>e=.returned (.int .i64 (Lib.compareInt x.person y.person))/\∃q os',w'=grow (W.drewN q) os':=by
 have hcon:=λW'=>Tryz.cmp_Compare_int x.person y.person W'
 generalize Lib.compareInt x.person y.person=r at hcon ⊢
 unfold Go.Sg.OSeat.cells
 go_enter Tryz.func178,Tryz.ntmps178
 go_wp2_with (go_at_call 118;refine(hcon _).mono ?_;rintro e w' ⟨rfl,rfl⟩)
 go_ret
 exact⟨rfl,0,_,by rw[alloc_eq_grow,alloc_eq_grow,grow_grow];rfl⟩
theorem Tryz.ltSeat(x y:Go.Sg.OSeat):ltOf (λx y:Go.Sg.OSeat=>Lib.compareInt x.person y.person) x y=decide (x.person<y.person):=by
 unfold ltOf Lib.compareInt
 by_cases h1:x.person<y.person
 .simp[h1]
 .by_cases h2:y.person<x.person<;>simp[h1,h2]
theorem Tryz.swoSeat:SWO (ltOf λx y:Go.Sg.OSeat=>Lib.compareInt x.person y.person) where
 irrefl x:=by rw[Tryz.ltSeat];simp
 trans x y z h1 h2:=by rw[Tryz.ltSeat]at *;simp at *;omega
 ntrans x y z h1 h2:=by rw[Tryz.ltSeat]at *;simp at *;omega
end Go.Proofs
namespace Go.Sg
variable {os:Array Obj}{w:World}
section
open Go.Proofs Go.Proofs.Tryz Go.RowKit Go.Sort
theorem C8{h:HF}:∀{cl:List Value}{xs:List OSeat},aY Uy h cl xs->cl=xs.flatMap xF
 |_,[],hc=>hc
 |_,x::xs,⟨cs,rest,e,_,hr,hc⟩=>by
  have:cs=xF x:=hr
  rw[e,this,C8 hc];rfl
theorem DC(h:HF):∀xs:List OSeat,aY Uy h (xs.flatMap xF) xs
 |[]=>rfl
 |x::xs=>⟨xF x,xs.flatMap xF,rfl,rfl,rfl,DC h xs⟩
theorem Hm:∀(xs:List OSeat)(j:Nat),j<xs.length*2->(xs.flatMap xF)[j]? = some ((xF (xs.getD (j/2) default)).getD (j%2) undef)
 |[],j,hj=>by simp at hj
 |x::xs,0,_=>by simp[xF]
 |x::xs,1,_=>by simp[xF]
 |x::xs,j+2,hj=>by
  have ih:=Hm xs j (by simp at hj;omega)
  simp only[List.flatMap_cons]
  rw[List.getElem?_append_right (by simp[xF])]
  simp only[xF,xA,jC]
  rw[show j+2-(0+1+1)=j from by omega,show(j+2)/2=j/2+1 from by omega,show(j+2)%2=j%2 from by omega]
  simpa[xF]using ih
theorem sD(xs:List OSeat):(xs.flatMap xF).length=xs.length*2:=by
 induction xs with
 |nil=>rfl
 |cons x xs ih=>rw[List.flatMap_cons,xB,ih];simp[xF];omega
theorem FZ(xs:List OSeat):(flatK xF 2 xs.toArray).toList=xs.flatMap xF:=by
 apply TI
 intro j
 rcases kM j (xs.length*2)with hj|hj
 .rw[Hm xs j hj]
  have h1:=get_flatK xF 2 xs.toArray j (by simpa using hj)
  have h2:j<(flatK xF 2 xs.toArray).size:=by rw[size_flatK];simpa using hj
  rw[getElem!_pos _ j h2]at h1
  rw[Array.getElem?_toList,Sy h2,h1]
  have h3:j/2<xs.length:=by omega
  congr 1
  rw[getElem!_pos xs.toArray (j/2) (by simpa using h3)]
  have h4:j%2<2:=Nat.mod_lt _ (by omega)
  simp only[List.getElem_toArray,List.getD,zG h3,TU]
  rw[getElem!_pos _ (j%2) (by simpa[xF]using h4)]
  rw[zG (by simpa[xF]using h4),TU]
 .rw[kK (by rw[Array.length_toList,size_flatK];simpa using hj),kK (by rw[sD];exact hj)]
theorem JS(F cur:Array Value)(h:F.size<=cur.size):(putCells id 0 F cur).toList=F.toList++cur.toList.drop F.size:=by
 apply TI
 intro j
 rcases kM j cur.size with hj|hj
 .have e1:(putCells id 0 F cur).toList[j]? = some (if j<F.size then F[j]! else cur[j]):=by
   rw[Array.getElem?_toList]
   simp[putCells,hj]
  rw[e1]
  rcases kM j F.size with h1|h1
  .rw[if_pos h1,List.getElem?_append_left (by simpa using h1),Array.getElem?_toList,Sy h1,getElem!_pos _ j h1]
  .rw[if_neg (by omega),List.getElem?_append_right (by simpa using h1),List.getElem?_drop,Array.getElem?_toList,Array.length_toList,show F.size+(j-F.size)=j from by omega,Sy hj]
 .rw[kK (by simpa[putCells]using hj),kK (by simp;omega)]
theorem Ph{g n:Nat}{cur:Array Value}{e:TypeId}{fr:Nat×Nat}(d:Array Value)(hb:w.heap[g]? = some (.cells cur e fr)):
  (grow (putRow id (Sort.ahead w n) g 0 d) os).heap[g]? = some (.cells (putCells id 0 d cur) e fr):=by
 have hg:g<w.heap.size:=(Array.getElem?_eq_some_iff.1 hb).1
 rw[heap_grow_old _ _ (by simpa using hg)]
 simp[putRow,mapBlock,Sort.ahead,UH,hb,onCells]
theorem NK{g n:Nat}(d:Array Value):(grow (putRow id (Sort.ahead w n) g 0 d) os).os=w.os/\(grow (putRow id (Sort.ahead w n) g 0 d) os).tape=w.tape/\(grow (putRow id (Sort.ahead w n) g 0 d) os).output=w.output /\
  w.heap.size<=(grow (putRow id (Sort.ahead w n) g 0 d) os).heap.size/\∀k,k<w.heap.size->k≠g->(grow (putRow id (Sort.ahead w n) g 0 d) os).heap[k]? = w.heap[k]?:=by
 refine⟨rfl,rfl,rfl,by simp[putRow,mapBlock,Sort.ahead],λk hk hne=>?_⟩
 rw[heap_grow_old _ _ (by simpa using hk)]
 simp[putRow,mapBlock,Sort.ahead,UH,Ne.symm hne]
theorem uP(h:HF)(xs:List OSeat)(b:Option Addr)(c:Nat)(G:LH)(hG:cZ Uy 182 h xs b c G)(hsz:xs.length<=1000000000000):
  oo prog 274 [.slice b xs.length c,.func (.func 178) #[] #[]].toArray h G (λr h' G'=>h'=h/\r=.returned (.tuple #[])/\∃ys,ys.Perm xs/\ys.Pairwise (λx y=>x.person<=y.person)/\cZ Uy 182 h ys b c G'):=by
 intro w hp
 rcases hG with⟨rfl,rfl,rfl,rfl⟩|⟨bk,cl,sp,rfl,hcl,hlen,hcap,hmax,rfl⟩
 .refine(lr (AnyF.slices_SortFunc_none Tryz.sortSeat none 0 (.func (.func 178) #[] #[]) w) (λw' hw=>by cases hw.1)).mono ?_
  rintro e w' ⟨rfl,rfl⟩
  exact⟨h,[],St.start hp,rfl,rfl,[],List.Perm.refl _,List.Pairwise.nil,cZ.nil⟩
 .have hb:=hp.own _ (qC.2 rfl)
  simp only at hb
  have hcl':=C8 hcl
  subst hcl'
  have hfl:=FZ xs
  have hH:HoldsK xF 2 w bk 0 xs.toArray:=by
   intro j hj
   rw[size_flatK]at hj
   have hj':j<xs.length*2:=by simpa using hj
   refine⟨?_,by simp[World.frozen?,hb]⟩
   have h2:j<(flatK xF 2 xs.toArray).size:=by rw[size_flatK];exact hj
   have h3:(flatK xF 2 xs.toArray).toList[j]? = some (flatK xF 2 xs.toArray)[j]!:=by
    rw[Array.getElem?_toList,Sy h2,getElem!_pos _ j h2]
   rw[hfl]at h3
   have h4:(xs.flatMap xF++sp)[j]? = some (flatK xF 2 xs.toArray)[j]!:=by
    rw[List.getElem?_append_left (by rw[sD];exact hj')];exact h3
   simp only[World.cell?,hb,Nat.zero_add]
   simpa using h4
  have eg:∀args w,(callFunc 178 args).run prog w=.ok (.enter 178 args) w:=call178
  have hcall:=AnyQ.slices_SortFunc Tryz.sortSeat 2 Tryz.isAgg182 Tryz.sizeOf182 xF (λ_=>rfl) (λx v hv=>by simp[xF]at hv;rcases hv with rfl|rfl<;>rfl)
   (λx y=>Lib.compareInt x.person y.person) Tryz.swoSeat 178 #[] bk 0 c xs.toArray w eg (λ_ _ _ _ x y=>Tryz.closure178 x y _) hH (ik hb) (by simp;omega)
  change Calls prog 274 _ _ _ at hcall
  rw[List.size_toArray]at hcall
  refine(lr hcall (λw' hw=>by cases hw.1)).mono ?_
  rintro e w' ⟨rfl,d',n,os,⟨hds,_,hperm⟩,hsorted,rfl⟩
  have hds':d'.size=xs.length:=by simpa using hds
  have hF:(flatK xF 2 d').toList=d'.toList.flatMap xF:=by have:=FZ d'.toList;simpa using this
  have hFs:(flatK xF 2 d').size=xs.length*2:=by rw[size_flatK,hds']
  obtain⟨g1,g2,g3,g4,g5⟩:=NK (w:=w) (g:=bk) (n:=n) (os:=os) (flatK xF 2 d')
  have hnew:=Ph (w:=w) (g:=bk) (n:=n) (os:=os) (flatK xF 2 d') hb
  have hcur:(putCells id 0 (flatK xF 2 d') (xs.flatMap xF++sp).toArray).toList=d'.toList.flatMap xF++sp:=by
   rw[JS _ _ (by rw[hFs,←sD];simp),hF,hFs]
   congr 1
   rw[←sD]
   exact List.drop_left' rfl
  have hcur':putCells id 0 (flatK xF 2 d') (xs.flatMap xF++sp).toArray=(d'.toList.flatMap xF++sp).toArray:=by rw[←hcur]
  rw[hcur']at hnew
  have hperm':d'.toList.Perm xs:=by
   have e1:d'.extract 0 xs.length=d':=by rw[←hds'];simp
   have e2:xs.toArray.extract 0 xs.length=xs.toArray:=by simp
   rw[e1,e2]at hperm;exact hperm
  refine⟨h,[(bk,.cells (d'.toList.flatMap xF++sp).toArray 182 (0,0))],⟨g1,g2,g3,g4,λk hk hM=>g5 k hk (λe=>hM (by subst e;simp)),λ_ _ e=>e,λ_ _=>rfl,λk o e=>?_,λq hq=>?_,?_,?_,?_⟩,rfl,rfl,d'.toList,hperm',?_,?_⟩
  .have hne:k≠bk:=λe'=>by
    have:=hp.free _ (qC.2 rfl)
    simp only at this
    rw[e',this]at e;cases e
   exact(g5 k (ik (hp.imm k o e)) hne).trans (hp.imm k o e)
  .rw[qC.1 hq];exact hnew
  .simp
  .intro q hq;rw[qC.1 hq];exact hp.free (bk,zJ (xs.flatMap xF++sp).toArray 182 (0,0)) (qC.2 rfl)
  .intro q hq;rw[qC.1 hq];exact .inr (by simp)
  .rw[List.pairwise_iff_getElem]
   intro i j hi hj hij
   have hj':j<d'.size:=by simpa using hj
   have hi':i<d'.size:=by simpa using hi
   have:=hsorted i j (qM _) hij (by omega)
   rw[Tryz.ltSeat,getElem!_pos _ j hj',getElem!_pos _ i hi']at this
   simp only[Array.getElem_toList]
   simpa using this
  .refine .inr ⟨bk,d'.toList.flatMap xF,sp,rfl,DC h _,?_,?_,?_,rfl⟩
   .rw[xB,sD,hperm'.length_eq,←sD,←xB];exact hlen
   .rw[hperm'.length_eq];exact hcap
   .rw[hperm'.length_eq];exact hmax
theorem ux(h:HF)(it:Value)(ks:List OSeat)(hit:Gm prog it (λ(k:OSeat)(_:HF)(vs:List Value)=>vs=[SE k]) (λxs=>xs.Perm ks) h)(hk:ks.length<=1000000000000):
  i9 prog 179 [it,.func (.func 178) #[] #[]] h (λv h'=>∃(b:Option Addr)(c:Nat)(ys:List OSeat),ys.Perm ks/\ys.Pairwise (λx y=>x.person<=y.person)/\v=.slice b ys.length c/\SlC Uy h' b c ys):=by
 refine cH func179 rfl ntmps179 rfl λX hM hX=>?_
 refine ew (bC (gu (aI (ew (bC (av ?_))))))
 refine aA (Bh call273 (Gp h it _ hit (λxs hx=>by rw[hx.length_eq];exact hk)) rfl (λh' xs bb c G hle hxs hG=>?_))
 refine gu (aI (ew (bC (av (av ?_)))))
 refine aA (nQ [] G [] call274 (uP h' xs bb c G hG (by rw[hxs.length_eq];exact hk)) (by simp) rfl (λG' hG'=>?_))
 obtain⟨ys,hp,hs,hG'⟩:=hG'
 refine aI (ew (bC (av (gu (aI ?_)))))
 refine eY OSeat.aj [] G' [] (by simp) hM hG' (λh2 hle2 sl=>?_)
 exact ld [.slice bb xs.length c] func179 rfl ⟨rfl,trivial⟩ ⟨bb,c,ys,hp.trans hxs,hs,by rw[hp.length_eq];rfl,sl⟩
end
section
open Go.Proofs Go.Proofs.Tryz
set_option maxHeartbeats 2000000
theorem xZ(h:HF)(m:List (OSeat×Appoint))(Lv:Nat)(m_q:Addr)(office:Int)(office_q:Addr)(hm:tQ SE (iZ vH) h Lv m)(am:At h m_q [.map (some Lv)])(aoffice:At h office_q [I office])(hsz:m.length<=1000000000):Itr prog (.func (.func 177) #[] (vB [.pointer (some m_q),.pointer (some office_q)])) oU (bU m office) h:=by
 refine tq call177 ?_
 intro yf ya yb C Sp Pn h1 A hle m1 m2 m3 hC hy
 refine jz N9 U ntmps177 U λX hXM hX=>?_
 have hs0:bU m office=[]++bU m office:=rfl
 refine qT 6 U (dD ty162 (am.mono hle) U (aA (cC call180 (yj h1 m Lv (hm.mono (iZ.mono zR) hle)) U (λv1 h2 hle1 hp1=>av (aA (cC call179 (ux h2 v1 (m.map Prod.fst) hp1 (by rw[List.length_map];omega)) U (λv2 h3 hle2 hp2=>?_)))))))
 obtain⟨rb1,rc1,ys_,hper_,hsrt_,rfl,sl1⟩:=hp2
 have R2:bU m office=[]++((bU.L1 m office (bU.K1)) ys_):=GL (by obtain⟨_,_,q⟩:=hm;exact q.nodup) hper_ hsrt_
 refine qL 3 [] U ?_
 refine lp2 ys_ (λi w=>[(0,.func yf ya yb),(1,.pointer (some m_q)),(2,.pointer (some office_q)),(11,.slice rb1 ys_.length rc1),(12,I (ys_.length:Int)),(13,I (i:Int))]) (λw=>w.2.2) (λw=>w.2.1) (λi w=>C w.1 w.2.2 w.2.1/\xM h3 w.2.2) (λs1 i w=>w.1++(bU.L1 m office (bU.K1)) s1) ([],A,h3) sl1.1.1 R2 ⟨(m1 _ _ _ _ (hle1.t hle2) hC),lf⟩ ?_ ?_
 .rintro i1 ⟨dn1,A1_,hh1⟩ ft hs1 ⟨hC1_,hl1⟩ e
  refine ej ?_
  have hs2:bU m office=dn1:=hs1.trans (List.append_nil _)
  exact tr [] (A:=A1_) N9 U (List.Sublist.refl _) (.inl (hs2▸hC1_))
 rintro i1 ⟨dn1,A1_,hh1⟩ y1 rz1 hd1 cY aJ dY gy hs3 ⟨hC1_,hl1⟩ hx1 ag1 e
 refine sr (tO cY U (qO 8 U (aA (iF xF QV ty182 (sl1.mono OSeat.aj hl1).1 aJ U U U (λq2 A2=>dv ty182 A2 U U (aS zc182 (λb3=>aR 0 ty182 U U U U U U (iO (L':=[(b3,O (xF y1) 182)]++(A1_)) U (qO 3 U (dD ty162 (am.mono (((hle.t hle1).t hle2).t hl1)) U (cN 0 ty182 U U U ?_)))))))))))
 obtain⟨o2,hb2,hm2⟩:=(hm.mono (iZ.mono zR) (((hle.t hle1).t hle2).t hl1))
 refine aA (od (k:=y1) Me vX hb2 hm2 (fp zv89) (show(iZ vH) _ (.agg (vB [I 0,I 0,I 0,I 0,I 0,I 0,.bool false])) (jD 0 0 0 0 0 0 false)from⟨_,U,U⟩) U U (λv4 hv2=>?_))
 obtain⟨_,rfl,rfl⟩:=hv2
 refine aS zc89 (λb4=>aR 0 ty89 U U U U U U (iO (L':=[(b4,O (xL (mgetD m y1 (jD 0 0 0 0 0 0 false))) 89),(b3,O (xF y1) 182)]++(A1_)) U (qL 5 [1] U (dD ty3 (aoffice.mono (((hle.t hle1).t hle2).t hl1)) U (qO 2 U (aU 4 [24,25,26,27,28] 24 28 (!((mgetD m y1 (jD 0 0 0 0 0 0 false)).Gone)) U (λc1 hk1=>?_) (λe=>?_)))))))
 .exact qL 4 [0] U (hk1 _ U)
 refine av (uN 29 U (λc2=>?_) (λc2=>?_))
 .have hs4:=hs3.trans (congrArg (dn1++·) (bt c2))
  refine qL 5 [0,0] U (aA (e9 (cells:=[I ((mgetD m y1 (jD 0 0 0 0 0 0 false)).Person),I ((mgetD m y1 (jD 0 0 0 0 0 0 false)).Weight)]) (places:=[(0,1),(1,1)]) underlying158 zc158 kr kr ?_))
  have hx1:bU m office=dn1++((U7 ((mgetD m y1 (jD 0 0 0 0 0 0 false)).Person) ((mgetD m y1 (jD 0 0 0 0 0 0 false)).Weight))::(bU.L1 m office (bU.K1) rz1)):=hs4
  refine aA (lv ([(b4,O (xL (mgetD m y1 (jD 0 0 0 0 0 0 false))) 89),(b3,O (xF y1) 182)]) A1_ ap (hy dn1 (U7 ((mgetD m y1 (jD 0 0 0 0 0 0 false)).Person) ((mgetD m y1 (jD 0 0 0 0 0 0 false)).Weight)) _ _ _ _ hx1 ((hle1.t hle2).t hl1) hC1_ U) U U (λh4 A3 hle3 hC1=>?_) (λh5 A4 hle4 hS1=>?_) (λch1 h6 A5 hle5 hP1 e=>gK (nC [] (A:=A5) N9 (List.sublist_append_right _ _) hP1)))
  .have hs5:bU m office=(dn1++[(U7 ((mgetD m y1 (jD 0 0 0 0 0 0 false)).Person) ((mgetD m y1 (jD 0 0 0 0 0 0 false)).Weight))])++((bU.L1 m office (bU.K1) rz1)):=hx1.trans ap
   exact nF U (qO 6 U (oi i1 U (qO 2 U (ba (L':=A3) js (ag1 ((dn1++[(U7 ((mgetD m y1 (jD 0 0 0 0 0 0 false)).Person) ((mgetD m y1 (jD 0 0 0 0 0 0 false)).Weight))]),A3,h4) hs5 ⟨hC1,(hl1.t hle3)⟩)))))
  exact nF U (qO 3 U (ej (nn [] (A:=A4) N9 U js (.inr hS1))))
 have hs6:=hs3.trans (congrArg (dn1++·) (bf c2))
 exact kq (qO 12 U (oi i1 U (qO 2 U (ba (L':=A1_) js (ag1 (dn1,A1_,hh1) hs6 ⟨hC1_,hl1⟩)))))
theorem Av(h:HF)(m:List (OSeat×Appoint))(Lv:Nat)(office:Int)(hm:tQ SE (iZ vH) h Lv m)(hsz:m.length<=1000000000):i9 prog 92 [.map (some Lv),I office] h (λv h'=>∃(rv0:Value),v=rv0/\Itr prog rv0 oU (jr m office) h'):=by
 refine sT func92 U ntmps92 U λX hM hX hF=>?_
 have hs0:=@rfl _ (jr m office)
 refine sr (bS (λb1=>bS (λb2=>qO 4 U (aO 1 U hM (λh1 hle1 hb1=>aO 0 U hM (λh2 hle2 hb2=>aA (eI U U (an ?_))))))))
 have hs1:jr m office=(bU m office):=hs0
 exact nretH [.func (.func 177) #[] #[Q b1,Q b2]] (hs1▸⟨(.func (.func 177) #[] #[Q b1,Q b2]),U,(xZ h2 m Lv ⟨b1,0,none⟩ office ⟨b2,0,none⟩ (hm.mono (iZ.mono zR) (hle1.t hle2)) ((cz hb1).mono hle2) (cz hb2) ob)⟩)
theorem Aw(h:HF)(l:List Appoint)(dU:Option Addr)(dT:Nat)(office:Int)(bI:Int)(known:Int)(hl:SlC vH h dU dT l)(hsz:l.length<=2000000):i9 prog 24 [.slice dU l.length dT,I office,I bI,I known] h (λv h'=>∃(rb0:Option Addr)(rc0:Nat),v=.tuple #[.slice rb0 ((fo l office bI known).1).length rc0,I ((fo l office bI known).2)]/\SlC Ui h' rb0 rc0 ((fo l office bI known).1)):=by
 refine sT func24 U ntmps24 U λX hM hX hF=>?_
 have hs0:=@rfl _ (fo l office bI known)
 refine qT 9 U (ai call65 (qh _ _ _ _ hl) U (qO 7 U (ae hs0 U (λc1 hs1=>?_) (λc1 hs2=>?_))))
 .refine qT 6 U ?_
  have hs3:fo l office bI known=([],(df l)):=hs1
  exact nretH [.slice none 0 0,I (df l)] (hs3▸⟨none,0,U,vE⟩)
 refine qT 5 U (ai Oy (mH h office) U (qO 2 U (bL 4 [18,19,20,21,22] 18 22 (!(di bI)) U (λc2 hk1=>?_) (λe=>?_))))
 .exact av (ai Eo (jg h bI) U (qO 2 U (hk1 _ U)))
 refine av (bL 4 [23,24,25,26,27] 23 27 (!(di known)) U (λc3 hk2=>?_) (λe=>?_))
 .exact av (ai Eo (jg h known) U (qO 2 U (hk2 _ U)))
 refine aI (ae hs2 U (λc4 hs4=>?_) (λc4 hs5=>?_))
 .refine qT 5 U ?_
  have hs6:fo l office bI known=([],1):=hs4
  exact nretH [.slice none 0 0,I 1] (hs6▸⟨none,0,U,vE⟩)
 refine qT 6 U (aA (cC call93 (rZ _ _ _ _ bI known hl) U (λv1 h1 hle1 hp1=>?_)))
 obtain⟨rk1,rfl,mo1⟩:=hp1
 refine av (aA (cC call92 (Av h1 (dx l bI known) rk1 office mo1 (by have:=vu l bI known;omega)) U (λv2 h2 hle2 hp2=>?_)))
 obtain⟨_,rfl,mo2⟩:=hp2
 refine aA (cC call91 (uz h2 (jr (dx l bI known) office) v2 mo2 (by have h1:=vu l bI known;have h2:=Dr (dx l bI known) office;omega)) U (λv3 h3 hle3 hp3=>?_))
 obtain⟨rb1,rc1,rfl,sl1⟩:=hp3
 refine qO 3 U ?_
 have hs7:fo l office bI known=((gx (jr (dx l bI known) office)),0):=hs5
 exact nretH [.slice rb1 ((gx (jr (dx l bI known) office)).length) rc1,I 0] (hs7▸⟨rb1,rc1,U,sl1⟩)
theorem ui(h:HF)(who:List Int)(sL:Option Addr)(sK:Nat)(hwho:SlC kB h sL sK who):Ret prog 96 [.slice sL who.length sK] h (.bool (fg who)):=by
 refine sT func96 U ntmps96 U λX hM hX hF=>?_
 have hs0:=@rfl _ (fg who)
 refine qK 15 [] U ?_
 refine lp1 who (λi w=>[(3,I w),(6,.slice sL who.length sK),(7,I (who.length:Int)),(8,I (i:Int))]) ([]) (λs1 i w=>(fg.L1 (fg.K1)) s1 w) (-1) hwho.1.1 hs0 ?_ ?_
 .rintro i1 iC ft hs1 e
  exact sr (an (nretP [.bool true] (cs hs1)))
 rintro i1 iC y1 rz1 hd1 cY aJ dY gy hs3 hx1 ag1 e
 refine sr (tO cY U (qO 8 U (aA (iF (λy=>[I y]) dy ty3 hwho.1 aJ U U U (λq2 A2=>dD ty3 A2 U (qO 9 U (bL 3 [15,16,17,18] 15 18 (decide (64<=y1)) U (λc1 hk1=>?_) (λe=>?_))))))))
 .exact av (qO 2 U (hk1 _ U))
 refine aI (ae hs3 U (λc2 hs4=>?_) (λc2 hs5=>?_))
 .exact sr (an (nretP [.bool false] (cs hs4)))
 exact aH (qT 6 U (oi i1 U (qO 2 U (ag1 y1 hs5))))
theorem Cp(h:HF)(holders:List (List Holder))(lC:Option Addr)(lB:Nat)(offices:Int)(hholders:SlC (Rp.sl Ui) h lC lB holders)(hsz0:∀y∈holders,y.length<=2000000):Ret prog 95 [.slice lC holders.length lB,I offices] h (.bool (eT holders offices)):=by
 refine sT func95 U ntmps95 U λX hM hX hF=>?_
 have hs0:=@rfl _ (eT holders offices)
 refine qK 11 [] U ?_
 refine lp2 holders (λi w=>[(0,.slice lC holders.length lB),(1,I offices),(10,.slice lC holders.length lB),(11,I (holders.length:Int)),(12,I (i:Int))]) (λw=>w) (λw=>[]) (λi w=>xM h w) (λs1 i w=>(eT.L1 (eT.K1 holders offices)) s1) h hholders.1.1 hs0 lf ?_ ?_
 .rintro i1 hh1 ft hs1 hl1 e
  try dsimp only at hl1
  exact qK 8 [] U (nretP [.bool ((holders.length:Int)==offices)] (cs hs1))
 rintro i1 hh1 y1 rz1 hd1 cY aJ dY gy hs3 hl1 hx1 ag1 e
 try dsimp only at hl1
 have hszy:=hsz0 y1 (gj hd1)
 refine sr (tO cY U (qO 8 U (aA (iG N8 ty68 (hholders.mono (Rp.yJ TS) hl1).1 aJ U U U (λq3 cs2 A3 ln2 rr2=>?_)))))
 obtain⟨rb2,rc2,rfl,sl2⟩:=rr2
 refine dD ty68 A3 U (qL 13 [] U ?_)
 refine lp2 y1 (λi w=>[(0,.slice lC holders.length lB),(1,I offices),(7,.slice w.2.1 w.1.length w.2.2.1),(10,.slice lC holders.length lB),(11,I (holders.length:Int)),(12,I (i1:Int)),(16,.slice rb2 y1.length rc2),(17,I (y1.length:Int)),(18,I (i:Int))]) (λ_=>hh1) (λw=>w.2.2.2) (λi w=>cZ kB 3 hh1 w.1 w.2.1 w.2.2.1 w.2.2.2/\w.1.length<=0+i) (λs3 i w=>(eT.L3 (λzg3_7=>(bif(!(fg zg3_7))then false else(eT.L1 (eT.K1 holders offices) rz1)))) s3 w.1) ([],none,0,[]) sl2.1.1 hs3 ⟨cZ.nil,lo⟩ ?_ ?_
 .rintro i3 ⟨NM,RO,RN,Po⟩ CG hs4 ⟨Ku,Pl⟩ e
  try dsimp only at Ku Pl
  refine qT 3 U (sR xH ([]) Po ([]) ap hM Ku (λh1 hle1 sl3=>ai call96 (ui _ _ _ _ sl3) U (qO 2 U (ae hs4 U (λc2 hs5=>?_) (λc2 hs6=>?_)))))
  .exact sr (an (nretP [.bool false] (cs hs5)))
  exact aH (qT 2 U (oi i1 U (qO 2 U (ag1 h1 hs6 (hl1.t hle1)))))
 rintro i3 ⟨NM,RO,RN,Po⟩ y3 rz3 hd3 Fy m6 Kr Pi hs8 ⟨Ku,Pl⟩ hx3 ag2 e
 try dsimp only at Ku Pl
 refine sr (tO Fy U (qO 8 U (aA (iF SK Oa ty158 sl2.1 m6 U U U (λq5 A5=>dv ty158 A5 U U (aS zc158 (λb3=>aR 0 ty158 U U U U U U (iO (L':=[(b3,O (SK y3) 158)]++(Po)) U (qL 8 [0] U (bL 4 [25,26,27,28,29] 25 29 (decide (64<y3.Weight)) U (λc3 hk1=>?_) (λe=>?_)))))))))))
 .exact qL 4 [0] U (hk1 _ U)
 refine aI (ae hs8 U (λc4 hs9=>?_) (λc4 hs10=>?_))
 .exact sr (an (nretP [.bool false] (cs hs9)))
 exact qK 5 [0] U (aA (aV (cells:=[I y3.Person]) dy ty3 zc3 U U kr (λb4=>aA (cd SL ([(b4,O [I y3.Person] 3),(b3,O (SK y3) 158)]) ([]) (λG=>[(b4,O [I y3.Person] 3),(b3,O (SK y3) 158)]++G) ap (λ_=>ap) dy ty3 zc3 U bytes3 Ku U U (dX 0 U (cE (y3.Person) U U)) lo lo (λob1 oc1 G1 gr1=>qO 4 U (oi i3 U (qO 2 U (ba (L':=G1) js (ag2 ((NM++[y3.Person]),ob1,oc1,G1) hs10 ⟨gr1,lo⟩)))))))))
theorem su(h:HF)(q:aX)(tN:iH)(q_q:Addr)(office:Int)(office_q:Addr)(hq:aX.ok h q tN)(aq:At h q_q (aX.cells q tN))(aoffice:At h office_q [I office])(hno:0<=office/\office<(q.holders.length:Int))(hso:q.who.Pairwise (·<=·))(hsw:q.who.length<=2000000):Itr prog (.func (.func 330) #[] (vB [.pointer (some q_q),.pointer (some office_q)])) oU (cq q office) h:=by
 refine tq call330 ?_
 intro yf ya yb C Sp Pn h1 A hle m1 m2 m3 hC hy
 refine jz N7 U ntmps330 U λX hXM hX=>?_
 have hs0:cq q office=[]++cq q office:=rfl
 refine qK 3 [] U (jk (j:=1) ty67 (aq.mono hle) U U (dD ty3 (aoffice.mono hle) U ?_))
 have ho1:0<=(office:Int)/\(office:Int)<((q.holders).length:Int):=ob
 refine aA (Mw N8 ty68 (hq.holders.mono (Rp.yJ TS) hle).1 ho1 (de ho1) U U U (λq1 cs1 A1 ln1 rr1=>?_))
 obtain⟨rb1,rc1,rfl,sl1⟩:=rr1
 refine dD ty68 A1 U (qL 3 [] U ?_)
 refine lp2 (nthI q.holders office) (λi w=>[(0,.func yf ya yb),(1,.pointer (some q_q)),(12,.slice rb1 ((nthI q.holders office).length) rc1),(13,I ((nthI q.holders office).length:Int)),(14,I (i:Int))]) (λw=>w.2.2) (λw=>w.2.1) (λi w=>C w.1 w.2.2 w.2.1/\xM h1 w.2.2) (λs1 i w=>w.1++(cq.L1 q (cq.K1)) s1) ([],A,h1) sl1.1.1 hs0 ⟨hC,lf⟩ ?_ ?_
 .rintro i1 ⟨dn1,A1_,hh1⟩ ft hs1 ⟨hC1_,hl1⟩ e
  refine ej ?_
  have hs2:cq q office=dn1:=hs1.trans (List.append_nil _)
  exact tr [] (A:=A1_) N7 U (List.Sublist.refl _) (.inl (hs2▸hC1_))
 rintro i1 ⟨dn1,A1_,hh1⟩ y1 rz1 hd1 cY aJ dY gy hs3 ⟨hC1_,hl1⟩ hx1 ag1 e
 refine sr (tO cY U (qO 8 U (aA (iF SK Oa ty158 (sl1.mono TS hl1).1 aJ U U U (λq3 A6=>dv ty158 A6 U U (aS zc158 (λb2=>aR 0 ty158 U U U U U U (iO (L':=[(b2,O (SK y1) 158)]++(A1_)) U (qL 4 [] U (jk (j:=2) ty31 (aq.mono (hle.t hl1)) U U (qL 2 [0] U (ai call114 (nP _ _ _ _ y1.Person (hq.who.mono xH (hle.t hl1)) ob ob) U (qO 10 U (uN 27 U (λc2=>?_) (λc2=>?_)))))))))))))))
 .have hs4:=hs3.trans (congrArg (dn1++·) (bt c2))
  refine av (cN 0 ty158 U U U ?_)
  have hx2:cq q office=dn1++(y1::(cq.L1 q (cq.K1) rz1)):=hs4
  refine aA (lv ([(b2,O (SK y1) 158)]) A1_ ap (hy dn1 y1 _ _ _ _ hx2 hl1 hC1_ U) U U (λh5 A7 hle4 hC2=>?_) (λh6 A8 hle5 hS2=>?_) (λch2 h7 A9 hle6 hP2 e=>gK (nC [] (A:=A9) N7 (List.sublist_append_right _ _) hP2)))
  .have hs5:cq q office=(dn1++[y1])++((cq.L1 q (cq.K1) rz1)):=hx2.trans ap
   exact nF U (qO 6 U (oi i1 U (qO 2 U (ba (L':=A7) js (ag1 ((dn1++[y1]),A7,h5) hs5 ⟨hC2,(hl1.t hle4)⟩)))))
  exact nF U (qO 3 U (ej (nn [] (A:=A8) N7 U js (.inr hS2))))
 have hs6:=hs3.trans (congrArg (dn1++·) (bf c2))
 exact kq (qO 8 U (oi i1 U (qO 2 U (ba (L':=A1_) js (ag1 (dn1,A1_,hh1) hs6 ⟨hC1_,hl1⟩)))))
theorem ov(h:HF)(q:aX)(tN:iH)(office:Int)(hq:aX.ok h q tN)(hno:0<=office/\office<(q.holders.length:Int))(hso:q.who.Pairwise (·<=·))(hsw:q.who.length<=2000000):i9 prog 285 [.agg (aX.cells q tN).toArray,I office] h (λv h'=>∃(rv0:Value),v=rv0/\Itr prog rv0 oU (iz q office) h'):=by
 refine sT func285 U ntmps285 U λX hM hX hF=>?_
 have hs0:=@rfl _ (iz q office)
 refine sr (bS (λb1=>bS (λb2=>qO 4 U (aO 1 U hM (λh1 hle1 hb1=>aO 0 U hM (λh2 hle2 hb2=>aA (eI U U (an ?_))))))))
 have hs1:iz q office=(cq q office):=hs0
 exact nretH [.func (.func 330) #[] #[Q b1,Q b2]] (hs1▸⟨(.func (.func 330) #[] #[Q b1,Q b2]),U,(su h2 q tN ⟨b1,0,none⟩ office ⟨b2,0,none⟩ (hq.mono (hle1.t hle2)) ((cz hb1).mono hle2) (cz hb2) ob ob ob)⟩)
theorem uF(h:HF)(q:aX)(tN:iH)(x:Expr)(fY:cR)(hq:aX.ok h q tN)(hx:kG h x fY)(hno:0<=x.No/\x.No<(q.holders.length:Int))(hso:q.who.Pairwise (·<=·))(hsw:q.who.length<=2000000):Ret prog 186 [.agg (aX.cells q tN).toArray,.agg (vC x fY).toArray] h (.bool (eu q x)):=by
 refine cH Ld U ntmps186 U λX hM hX=>?_
 have hs0:=@rfl _ (eu q x)
 refine sr (bS (λb1=>bS (λb2=>aS zc4 (λb3=>qO 4 U (cN 2 ty167 U U U (qL 2 [1] U (aA (cC call285 (ov _ _ _ x.No hq ob ob ob) U (λv1 h1 hle1 hp1=>?_)))))))))
 obtain⟨_,rfl,mo1⟩:=hp1
 refine qO 2 U (ej ?_)
 let z1:Nat×Obj:=(b1,O (aX.cells q tN) 167)
 let z2:Nat×Obj:=(b2,O (vC x fY) 62)
 refine bW (L':=([(b3,O [.bool false] 4),z2,z1])++markB []) ap ?_
 refine ke (it:=v1) (xs:=(iz q x.No)) (ι:=Bool×HF) [] (λi=>i.2) (λi=>[(b3,O [.bool i.1] 4),z2,z1]) (λs i=>eu q x=((eu.L1 (eu.K1)) s i.1)/\xM h1 i.2) (λi=>eu q x=i.1/\xM h1 i.2) (λ_=>False) 0 (λ_ _ _=>False) (false,h1) Ld U mo1 U tj (λ_ _ _ _ _ hq=>hq) U (show[(b3,O [.bool false] 4),z2,z1]=_ from U) ⟨hs0,lf⟩ ?_ ?_ ?_ ?_ ?_
 .rintro l1 dm1 lp1 y1 rz1 vs1 ⟨bZ,hh1⟩ hr1 X hFR1 ⟨hs1,hl1⟩ hl01 hlr1 hv1 hX hXM hlp1 nx1 rt1 ex1 pn1
  obtain rfl:=hv1
  exact bW (L':=[(l1,.loop lp1),(dm1,.deferred (some [])),(b3,O [.bool bZ] 4),z2,z1]++(markB [])) ap (aH (j2 0 U hlp1 (qT 3 U (cK 2 ty4 U U U U U U (aI (bW (L':=rdH l1 dm1 lp1 (([(b3,O [.bool true] 4),z2,z1])++markB [])) ap (rt1 (true,hr1) _ _ _ ⟨hs1,(hl1.t hlr1)⟩ lf)))))))
 .rintro dm1 ⟨bZ,hh1⟩ hn1 ⟨hs2,hl1⟩ hln1 hl01
  refine bW (L':=[(b3,O [.bool bZ] 4),z2,z1]++(markB (dm1::[]))) ap (qT 3 U (cK 0 ty4 U U U U U U (aI ?_)))
  have hs3:eu q x=false:=hs2
  exact bW (L':=([(b3,O [.bool false] 4),z2,z1])++markB (dm1::[])) ap (sP (dm1::[]) [.bool false] Ld U hX ⟨⟨0,_,_,_,_,U,U,.inr ⟨_,ty4,U⟩⟩,trivial⟩ (cs hs3))
 .rintro dm1 ⟨bZ,hh1⟩ hn1 ⟨hs4,hl1⟩ hln1 hl01
  refine bW (L':=[(b3,O [.bool bZ] 4),z2,z1]++(markB (dm1::[]))) ap ?_
  have hs5:eu q x=bZ:=hs4
  exact bW (L':=([(b3,O [.bool bZ] 4),z2,z1])++markB (dm1::[])) ap (sP (dm1::[]) [.bool bZ] Ld U hX ⟨⟨0,_,_,_,_,U,U,.inr ⟨_,ty4,U⟩⟩,trivial⟩ (cs hs5))
 .exact xf
 exact xf
end
section
open Go.Proofs Go.Proofs.Tryz
theorem I2(h:HF)(x:Holder)(s:Int)(bk:Nat):oo prog 286 [.agg (SK x).toArray,.pointer (some ⟨bk,0,none⟩)].toArray h [(bk,zJ (vB [.int .i64 s]) 3 (0,0))]
  (λr h' B=>r=.returned (.tuple #[])/\h'=h/\B=[(bk,zJ (vB [.int .i64 (qE .i64 (s+x.Weight))]) 3 (0,0))]):=by
 refine cH func286 rfl ntmps286 rfl λX hM hX=>?_
 refine ew (bC (bS (λb2=>aI (bC (oB 1 ty3 rfl rfl rfl (j8 PJ rfl (oB 0 ty3 rfl rfl rfl (QZ rfl (cK 1 ty3 rfl rfl rfl rfl rfl rfl (aI ?_))))))))))
 exact xi func286 (λa _ w _=>mP rfl a w) (λw hw=>hw.sub (List.sublist_cons_self _ _)) ⟨rfl,rfl,rfl⟩
end
section
open Go.Proofs Go.Proofs.Tryz
set_option maxHeartbeats 2000000
theorem td(h:HF)(q:aX)(tN:iH)(x:Expr)(fY:cR)(hq:aX.ok h q tN)(hx:kG h x fY)(hno:0<=x.No/\x.No<(q.holders.length:Int))(hso:q.who.Pairwise (·<=·))(hsw:q.who.length<=2000000):Ret prog 187 [.agg (aX.cells q tN).toArray,.agg (vC x fY).toArray] h (.bool (el q x)):=by
 refine cH func187 U ntmps187 U λX hM hX=>?_
 have hs0:=@rfl _ (el q x)
 refine sr (bS (λb1=>bS (λb2=>qO 4 U (aS zc3 (λb3=>cK 0 ty3 U U U U U U (qO 3 U (aA (eI U U (aS zc330 (λb4=>cK 0 ty330 U U U U U U (qO 4 U (cN 3 ty167 U U U (qL 2 [2] U (aA (cC call285 (ov _ _ _ x.No hq ob ob ob) U (λv1 h1 hle1 hp1=>?_))))))))))))))))
 obtain⟨_,rfl,mo1⟩:=hp1
 refine qO 2 U (ej ?_)
 let z1:Nat×Obj:=(b4,O [.func (.func 286) #[] #[Q b3]] 330)
 let z2:Nat×Obj:=(b1,O (aX.cells q tN) 167)
 let z3:Nat×Obj:=(b2,O (vC x fY) 62)
 refine bW (L':=([z1,(b3,O [I 0] 3),z3,z2])++markB []) ap ?_
 refine ke (it:=v1) (xs:=(iz q x.No)) (ι:=Int×HF) [] (λi=>i.2) (λi=>[z1,(b3,O [I i.1] 3),z3,z2]) (λs i=>el q x=((el.L1 (el.K1 x)) s i.1)/\xM h1 i.2) (λ_=>False) (λ_=>False) 0 (λ_ _ _=>False) (0,h1) func187 U mo1 U tj (λ_ _ _ _ _ hq=>hq) U (show[z1,(b3,O [I 0] 3),z3,z2]=_ from U) ⟨hs0,lf⟩ ?_ ?_ ?_ ?_ ?_
 .rintro l1 dm1 lp1 y1 rz1 vs1 ⟨bZ,hh1⟩ hr1 X hFR1 ⟨hs1,hl1⟩ hl01 hlr1 hv1 hX hXM hlp1 nx1 rt1 ex1 pn1
  obtain rfl:=hv1
  refine bW (L':=[(l1,.loop lp1),(dm1,.deferred (some [])),z1,(b3,O [I bZ] 3),z3,z2]++(markB [])) ap (bC (aS zc158 (λb6=>aR 0 ty158 U U U U U U (aI (j2 1 U hlp1 (qK 3 [3] U (cN 0 ty158 U U U (aA (OY 4 (o':=O [I (qE .i64 (bZ+y1.Weight))] 3) U (nO (args:=[.agg (SK y1).toArray]) (cap:=[Q b3]) call286 (I2 hr1 y1 bZ b3)) U U (qO 2 U ?_))))))))))
  let z4:Nat×Obj:=(b3,O [I (qE .i64 (bZ+y1.Weight))] 3)
  exact ba (L':=[(l1,.loop { lp1 with state:=.busy }),(dm1,.deferred (some [])),z1,z4,z3,z2]++(markB [])) js (bW (L':=rdH l1 dm1 lp1 (([z1,z4,z3,z2])++markB [])) ap (nx1 ((qE .i64 (bZ+y1.Weight)),hr1) _ _ ⟨hs1,(hl1.t hlr1)⟩ lf))
 .rintro dm1 ⟨bZ,hh1⟩ hn1 ⟨hs2,hl1⟩ hln1 hl01
  refine bW (L':=[z1,(b3,O [I bZ] 3),z3,z2]++(markB (dm1::[]))) ap (qK 9 [1,2] U ?_)
  have hs3:el q x=decide (x.N<=bZ):=hs2
  exact bW (L':=([z1,(b3,O [I bZ] 3),z3,z2])++markB (dm1::[])) ap (sP (dm1::[]) [.bool (decide (x.N<=bZ))] func187 U hX rd (cs hs3))
 .exact xf
 .exact xf
 exact xf
theorem uS(rec:aX->Expr->Bool)(h:HF)(q:aX)(tN:iH)(x:Expr)(fY:cR)(hrec:∀(h:HF)(qq:aX)(Cn:iH)(qx:Expr)(lE:cR)(hqq:aX.ok h qq Cn)(hqx:kG h qx lE)(hok:OkX (qq.holders.length:Int) qx)(hso:qq.who.Pairwise (·<=·))(hsw:qq.who.length<=2000000)(_:qx.dep<x.dep),Ret prog 97 [.agg (aX.cells qq Cn).toArray,.agg (vC qx lE).toArray] h (.bool (rec qq qx)))(hq:aX.ok h q tN)(hx:kG h x fY)(hok:OkX (q.holders.length:Int) x)(hso:q.who.Pairwise (·<=·))(hsw:q.who.length<=2000000):Ret prog 188 [.agg (aX.cells q tN).toArray,.agg (vC x fY).toArray] h (.bool (fH.F rec q x)):=by
 refine sT func188 U ntmps188 U λX hM hX hF=>?_
 have hs0:=@rfl _ (fH.F rec q x)
 refine sr (bS (λb1=>bS (λb2=>qL 14 [0] U ?_)))
 let z1:Nat×Obj:=(b1,O (aX.cells q tN) 167)
 let z2:Nat×Obj:=(b2,O (vC x fY) 62)
 refine lp1 x.L (λi w=>[(2,Q b1),(3,Q b2),(5,I w),(9,.slice fY.mL x.L.length fY.m4),(10,I (x.L.length:Int)),(11,I (i:Int))]) ([z2,z1]) (λs1 i w=>(fH.L1 rec q (fH.K1 x)) s1 w) 0 hx.list.1.1 hs0 ?_ ?_
 .rintro i1 jm ft hs1 e
  exact qK 8 [0] U (nretP [.bool (decide (x.N<=jm))] (cs hs1))
 rintro i1 jm y1 rz1 hd1 cY aJ dY gy hs3 hx1 ag1 e
 have hoy:=hok.sub y1 (gj hd1)
 refine sr (tO cY U (qO 8 U (aA (iR mi ty62 hx.list.1 aJ U U U (λ_ _ _ e=>e) (λq2 r2 A2 ok2=>dv ty62 A2 U U (aS zc62 (λb4=>aR 0 ty62 U U U U U U (qO 3 U (cN 2 ty167 U U U (cN 0 ty62 U U U (ai Lc (hrec _ _ _ _ _ hq ok2 ob ob ob (Sz (gj hd1))) U (aI (ae hs3 U (λc2 hs4=>?_) (λc2 hs5=>?_))))))))))))))
 .exact bC (qO 6 U (oi i1 U (qO 2 U (ba (L':=[z2,z1]) js (ag1 (qE .i64 (jm+1)) hs4)))))
 exact aH (qT 2 U (oi i1 U (qO 2 U (ba (L':=[z2,z1]) js (ag1 jm hs5)))))
theorem tP(rec:aX->Expr->Bool)(h:HF)(q:aX)(tN:iH)(x:Expr)(fY:cR)(hrec:∀(h:HF)(qq:aX)(Cn:iH)(qx:Expr)(lE:cR)(hqq:aX.ok h qq Cn)(hqx:kG h qx lE)(hok:OkX (qq.holders.length:Int) qx)(hso:qq.who.Pairwise (·<=·))(hsw:qq.who.length<=2000000)(_:qx.dep<x.dep),Ret prog 97 [.agg (aX.cells qq Cn).toArray,.agg (vC qx lE).toArray] h (.bool (rec qq qx)))(hq:aX.ok h q tN)(hx:kG h x fY)(hok:OkX (q.holders.length:Int) x)(hso:q.who.Pairwise (·<=·))(hsw:q.who.length<=2000000)(hk4:x.Kind=4):Ret prog 189 [.agg (aX.cells q tN).toArray,.agg (vC x fY).toArray] h (.bool (mf.F rec q x)):=by
 refine sT func189 U ntmps189 U λX hM hX hF=>?_
 have hs0:=@rfl _ (mf.F rec q x)
 have hl2:=hok.two hk4
 refine sr (bS (λb1=>bS (λb2=>qL 11 [1,0] U (ae hs0 U (λc1 hs1=>?_) (λc1 hs2=>?_)))))
 .have c1p:=of_decide_eq_true c1
  refine ew (eh ([(b2,O (vC x fY) 62),(b1,O (aX.cells q tN) 167)]) mixed kr jn (λdt _=>tf 0 U U (λ_ _ hj=>i7 ty167 U (hj.nth (i:=1) U) U) (qB [1] U (tf 2 U U (rj 0 ty60 U U U) ?_))))
  have ho1:0<=(0:Int)/\(0:Int)<((x.L).length:Int):=ob
  refine j3 3 dt jn mi ty62 hx.list.1 ho1 (de ho1) U U U U kr (λq1 cs1 A1 ln1 rr1=>?_)
  obtain⟨r1,rfl,ok1⟩:=rr1
  exact tf 4 U U (λ_ _ hj=>iP ty62 (A1.mono hj.1) U U) (tn 5 U (et Lc (hrec _ _ _ _ _ hq ok1 (hok.sub _ (nt ob)) ob ob (Sz (nt ob))) U (⟨jn,(qA [6] U (aG kr (nretP [.bool (rec q (nthI x.L 0))] (cs hs1))))⟩)))
 have c1p:=of_decide_eq_false c1
 refine qT 2 U (eh ([(b2,O (vC x fY) 62),(b1,O (aX.cells q tN) 167)]) mixed kr jn (λmF _=>tf 0 U U (λ_ _ hj=>i7 ty167 U (hj.nth (i:=1) U) U) (qB [1] U (tf 2 U U (rj 0 ty60 U U U) ?_))))
 have ho2:0<=(1:Int)/\(1:Int)<((x.L).length:Int):=ob
 refine j3 3 mF jn mi ty62 hx.list.1 ho2 (de ho2) U U U U kr (λq2 cs2 A2 ln2 rr2=>?_)
 obtain⟨r2,rfl,ok2⟩:=rr2
 exact tf 4 U U (λ_ _ hj=>iP ty62 (A2.mono hj.1) U U) (tn 5 U (et Lc (hrec _ _ _ _ _ hq ok2 (hok.sub _ (nt ob)) ob ob (Sz (nt ob))) U (⟨jn,(qA [6] U (aG kr (nretP [.bool (rec q (nthI x.L 1))] (cs hs2))))⟩)))
theorem PF(rec:aX->Expr->Bool)(h:HF)(q:aX)(tN:iH)(x:Expr)(fY:cR)(hq:aX.ok h q tN)(hx:kG h x fY)(hrec:∀(h:HF)(qq:aX)(Cn:iH)(qx:Expr)(lE:cR)(_:aX.ok h qq Cn)(_:kG h qx lE)(_:OkX (qq.holders.length:Int) qx)(_:qq.who.Pairwise (·<=·))(_:qq.who.length<=2000000)(_:qx.dep<x.dep),Ret prog 97 [.agg (aX.cells qq Cn).toArray,.agg (vC qx lE).toArray] h (.bool (rec qq qx)))(hok:OkX (q.holders.length:Int) x)(hso:q.who.Pairwise (·<=·))(hsw:q.who.length<=2000000):
  uL prog (List.getD [.nilFunc,.func (.func 186) #[] #[],.func (.func 187) #[] #[],.func (.func 188) #[] #[],.func (.func 189) #[] #[]] x.Kind.toNat .nilFunc) [.agg (aX.cells q tN).toArray,.agg (vC x fY).toArray] h [] (.bool (fulQ rec q x)):=by
 have hk:=hok.kind
 have hc:x.Kind=1\/x.Kind=2\/x.Kind=3\/x.Kind=4:=by omega
 rcases hc with e|e|e|e
 .rw[show fulQ rec q x=eu q x from by simp[fulQ,e],e];exact iK (cap:=[]) call186 (uF h q tN x fY hq hx (hok.no ob) hso hsw)
 .rw[show fulQ rec q x=el q x from by simp[fulQ,e],e];exact iK (cap:=[]) call187 (td h q tN x fY hq hx (hok.no ob) hso hsw)
 .rw[show fulQ rec q x=fH.F rec q x from by simp[fulQ,e],e];exact iK (cap:=[]) call188 (uS rec h q tN x fY hrec hq hx hok hso hsw)
 rw[show fulQ rec q x=mf.F rec q x from by simp[fulQ,e],e];exact iK (cap:=[]) call189 (tP rec h q tN x fY hrec hq hx hok hso hsw e)
theorem ss(rec:aX->Expr->Bool)(h:HF)(q:aX)(tN:iH)(x:Expr)(fY:cR)(hrec:∀(h:HF)(qq:aX)(Cn:iH)(qx:Expr)(lE:cR)(hqq:aX.ok h qq Cn)(hqx:kG h qx lE)(hok:OkX (qq.holders.length:Int) qx)(hso:qq.who.Pairwise (·<=·))(hsw:qq.who.length<=2000000)(_:qx.dep<x.dep),Ret prog 97 [.agg (aX.cells qq Cn).toArray,.agg (vC qx lE).toArray] h (.bool (rec qq qx)))(hq:aX.ok h q tN)(hx:kG h x fY)(hok:OkX (q.holders.length:Int) x)(hso:q.who.Pairwise (·<=·))(hsw:q.who.length<=2000000):Ret prog 97 [.agg (aX.cells q tN).toArray,.agg (vC x fY).toArray] h (.bool (em.F rec q x)):=by
 refine sT func97 U ntmps97 U λX hM hX hF=>?_
 have hs0:=@rfl _ (em.F rec q x)
 have hkd:=hok.kind
 refine sr (bS (λb1=>bS (λb2=>qO 4 U (aA (OZ (cells:=[.nilFunc,.func (.func 186) #[] #[],.func (.func 187) #[] #[],.func (.func 188) #[] #[],.func (.func 189) #[] #[]]) underlying261 ty260 zc261 kr (aS zc261 (λb3=>aR 0 ty261 U U U U U U (qO 2 U (eC 0 U hM (λh1 hle1 hb1=>eh ([(b2,O (vC x fY) 62),(b1,O (aX.cells q tN) 167)]) mixed kr jn (λdt _=>qB [0] U (tf 1 U U (rj 0 ty3 U U U) ?_))))))))))))
 have ho1:0<=(x.Kind:Int)/\(x.Kind:Int)<5:=ob
 have A1:=RB (cz hb1) ho1
 exact tf 2 U U (λ_ _ _=>O1 underlying261 ty260 U U ho1) (tf 3 U U (rh ty260 A1 U) (tf 4 U U (λ_ _ hj=>i7 ty167 U (hj.nth (i:=1) U) U) (tf 5 U U (λ_ _ hj=>i7 ty62 U (hj.nth (i:=0) U) U) (tn 6 U (mG (v:=.bool (fulQ rec q x)) [] (List.nil_sublist _) (PF rec h1 q tN x fY (hq.mono hle1) (hx.mono hle1) hrec hok hso hsw) U U (⟨jn,(qA [7] U (aG kr (nretP [.bool (fulQ rec q x)] (cs hs0))))⟩))))))
theorem m5:∀(m:Nat)(h:HF)(q:aX)(tN:iH)(x:Expr)(fY:cR)(_:x.dep<=m)(hq:aX.ok h q tN)(hx:kG h x fY)(hok:OkX (q.holders.length:Int) x)(hso:q.who.Pairwise (·<=·))(hsw:q.who.length<=2000000),Ret prog 97 [.agg (aX.cells q tN).toArray,.agg (vC x fY).toArray] h (.bool (em.go m q x))
 |0,h,q,tN,x,fY,hd,hq,hx,hok,hso,hsw=>absurd hd (Nat.not_le.2 (Expr.mw _))
 |m+1,h,q,tN,x,fY,hd,hq,hx,hok,hso,hsw=>ss (em.go m) h q tN x fY (λqh_ qq Cn qx lE qhq qhx qhok qhso qhsw qd=>m5 m qh_ qq Cn qx lE ob qhq qhx qhok qhso qhsw) hq hx hok hso hsw
theorem te(h:HF)(q:aX)(tN:iH)(x:Expr)(fY:cR)(hq:aX.ok h q tN)(hx:kG h x fY)(hok:OkX (q.holders.length:Int) x)(hso:q.who.Pairwise (·<=·))(hsw:q.who.length<=2000000):Ret prog 97 [.agg (aX.cells q tN).toArray,.agg (vC x fY).toArray] h (.bool (em q x)):=m5 _ h q tN x fY (vG _) hq hx hok hso hsw
theorem Ar(h:HF)(p:Policy)(gQ:eQ)(kind:Int)(value:Int)(holders:List (List Holder))(lC:Option Addr)(lB:Nat)(who:List Int)(sL:Option Addr)(sK:Nat)(hp:kN h p gQ)(hholders:SlC (Rp.sl Ui) h lC lB holders)(hwho:SlC kB h sL sK who)(hsm:smP p)(hsz0:∀y∈holders,y.length<=2000000)(hsw:who.length<=2000000)(hk:Kinds h):Ret prog 25 [.agg (xE p gQ).toArray,I kind,I value,.slice lC holders.length lB,.slice sL who.length sK] h (.tuple #[.bool ((gI p kind value holders who).1),I ((gI p kind value holders who).2)]):=by
 refine sT func25 U ntmps25 U λX hM hX hF=>?_
 have hs0:=@rfl _ (gI p kind value holders who)
 refine sr (bS (λb1=>qO 6 U (cN 0 ty64 U U U (ai call94 (ug _ _ _ hp ob hk) U (qO 7 U (ae hs0 U (λc1 hs1=>?_) (λc1 hs2=>?_)))))))
 .refine qT 6 U ?_
  have hs3:gI p kind value holders who=(false,(dh p)):=hs1
  exact nretP [.bool false,I (dh p)] (hs3▸U)
 refine qT 8 U (bL 6 [21,22,23,24,25,26,27] 21 27 (decide ((p.Kinds.length:Int)<=kind)) U (λc2 hk1=>?_) (λe=>?_))
 .exact qL 6 [0] U (hk1 _ U)
 refine av (bL 3 [28,29,30,31] 28 31 (decide (value<0)) U (λc3 hk2=>?_) (λe=>?_))
 .exact av (qO 2 U (hk2 _ U))
 refine av (bL 3 [32,33,34,35] 32 35 (decide (1099511627776<value)) U (λc4 hk3=>?_) (λe=>?_))
 .exact av (qO 2 U (hk3 _ U))
 refine an (ae hs2 U (λc5 hs4=>?_) (λc5 hs5=>?_))
 .refine qT 5 U ?_
  have hs6:gI p kind value holders who=(false,1):=hs4
  exact nretP [.bool false,I 1] (hs6▸U)
 refine qK 6 [0] U (ai call95 (Cp _ _ _ _ (p.Offices.length:Int) hholders ob) U (qO 3 U (ae hs5 U (λc6 hs7=>?_) (λc6 hs8=>?_))))
 .refine qT 5 U ?_
  have hs9:gI p kind value holders who=(false,210):=hs7
  exact nretP [.bool false,I 210] (hs9▸U)
 refine qT 3 U (ai call96 (ui _ _ _ _ hwho) U (qO 3 U (ae hs8 U (λc7 hs10=>?_) (λc7 hs11=>?_))))
 .refine qT 5 U ?_
  have hs12:gI p kind value holders who=(false,1):=hs10
  exact nretP [.bool false,I 1] (hs12▸U)
 refine qT 7 U (aA (e9 (cells:=[I value,.slice lC holders.length lB,.slice sL who.length sK]) (places:=[(0,1),(1,1),(2,1)]) underlying167 zc167 kr kr (qL 3 [0] U ?_)))
 have ho1:0<=(kind:Int)/\(kind:Int)<((p.Rules).length:Int):=(by have hq:=yW (by simpa using c1);simp only[decide_eq_true_eq,decide_eq_false_iff_not,Bool.and_eq_true,Bool.or_eq_true,Bool.not_eq_true',Bool.not_eq_false',Bool.and_eq_false_iff,Bool.or_eq_false_iff,beq_iff_eq,beq_eq_false_iff_ne,bne_iff_ne,bne_eq_false_iff_eq,xB,xA,jC,List.length_drop]at c5;omega)
 refine aA (Ci vq ty79 hp.Rules.1 ho1 (de ho1) U U U (λ_ _ _ e=>e) (λq1 r1 A1 ok1=>qL 1 [] U (Ay (j:=3) ty62 A1 U U (ai Lc (te _ _ _ _ _ (show aX.ok h (aX.mk value holders who) (iH.mk lC lB sL sK)from⟨hholders,hwho⟩) ok1.Expr (by have hq:=yW (by simpa using c1);have hr:=Nv (by simpa using c6);show OkX (holders.length:Int) _;rw[hr];exact hq.2.2 _ (F1 (nt ho1))) (GE (by simpa using c7)) hsw) U (qO 3 U ?_)))))
 have hs13:gI p kind value holders who=((em (aX.mk value holders who) ((nthI p.Rules kind).Expr)),0):=hs11
 exact nretP [.bool (em (aX.mk value holders who) ((nthI p.Rules kind).Expr)),I 0] (hs13▸U)
theorem uJ(h:HF)(c:bK)(oJ:kc)(p:Policy)(gQ:eQ)(who:List Int)(sL:Option Addr)(sK:Nat)(hc:bK.ok h c oJ)(hp:kN h p gQ)(hwho:SlC kB h sL sK who)(hsm:smR c.Register)(hco:i5 c)(hsp:smP p)(hofl:p.Offices.length<=32)(hsw:who.length<=2000000)(hk:Kinds h):Ret prog 135 [.agg (bK.cells c oJ).toArray,.agg (xE p gQ).toArray,.slice sL who.length sK] h (.bool (fV c p who)):=by
 refine sT func135 U ntmps135 U λX hM hX hF=>?_
 have hs0:=@rfl _ (fV c p who)
 refine sr (bS (λb1=>bS (λb2=>qL 14 [0] U ?_)))
 let z1:Nat×Obj:=(b1,O (bK.cells c oJ) 123)
 let z2:Nat×Obj:=(b2,O (xE p gQ) 64)
 refine lp2 p.Offices (λi w=>[(2,.slice sL who.length sK),(3,Q b1),(4,Q b2),(7,.slice w.2.1 w.1.length w.2.2.1),(15,I (p.Offices.length:Int)),(16,I (i:Int))]) (λw=>w.2.2.2.2) (λw=>[z2,z1]++(w.2.2.2.1)) (λi w=>cZ (Rp.sl Ui) 68 w.2.2.2.2 w.1 w.2.1 w.2.2.1 w.2.2.2.1/\w.1.length<=0+i/\xM h w.2.2.2.2/\(∀y∈w.1,y.length<=2000000)) (λs1 i w=>(fV.L1 c (fV.K1 c p who)) s1 i w.1) ([],none,0,[],h) hp.Offices.1.1 hs0 ⟨cZ.nil,lo,lf,(λy hy=>(vA hy).elim)⟩ ?_ ?_
 .rintro i1 ⟨mu,rF,rE,u0,hh1⟩ ft hs1 ⟨pG,yx,hl1,u1_0⟩ e
  try dsimp only at pG yx hl1 u1_0
  refine sr (cN 0 ty64 U U U (qL 8 [1,1] U (sR (Rp.yJ TS) ([z2,z1]) u0 ([]) ap hM pG (λh3 hle3 sl3=>ai call25 (Ar _ _ _ c.doc.Kind c.doc.Value _ _ _ _ _ _ (hp.mono (hl1.t hle3)) sl3 (hwho.mono xH (hl1.t hle3)) hsp ob ob (hk.mono (hl1.t hle3))) U (qO 10 U (aU 3 [52,53,54,55] 52 55 ((gI p c.doc.Kind c.doc.Value mu who).2==0) U (λc1 hk1=>?_) (λe=>?_)))))))
  .exact av (qO 2 U (hk1 _ U))
  exact an (nretP [.bool ((gI p c.doc.Kind c.doc.Value mu who).1&&((gI p c.doc.Kind c.doc.Value mu who).2==0))] (cs hs1))
 rintro i1 ⟨mu,rF,rE,u0,hh1⟩ y1 rz1 hd1 cY aJ dY gy hs3 ⟨pG,yx,hl1,u1_0⟩ hx1 ag1 e
 try dsimp only at pG yx hl1 u1_0
 refine sr (tO cY U (qL 21 [1,1,1] U (aA (cC call24 (Aw _ _ _ _ (i1:Int) c.at_ c.known (hc.Register.Appoints.mono zR hl1) hsm.2.1) U (λv2 h4 hle4 hp2=>?_)))))
 obtain⟨rb2,rc2,rfl,sl4⟩:=hp2
 exact av (qO 8 U (aA (oF uM (io h4 ((fo c.Register.Appoints (i1:Int) c.at_ c.known).2)) (mI (KW ((mb _).1 hco.chk).1 ob hco.time hco.know)) U (qO 4 U (aA (aV (cells:=[.slice rb2 (((fo c.Register.Appoints (i1:Int) c.at_ c.known).1).length) rc2]) N8 ty68 zc68 U U kr (λb4=>aA (cd (Rp.Qh TS) ([(b4,O [.slice rb2 (((fo c.Register.Appoints (i1:Int) c.at_ c.known).1).length) rc2] 68),z2,z1]) ([]) (λG=>[(b4,O [.slice rb2 (((fo c.Register.Appoints (i1:Int) c.at_ c.known).1).length) rc2] 68),z2,z1]++G) ap (λ_=>ap) N8 ty68 zc68 U bytes68 (pG.mono (Rp.yJ TS) hle4) U U (dX 0 U (cE (R:=(Rp.sl Ui)) ((fo c.Register.Appoints (i1:Int) c.at_ c.known).1) U ⟨rb2,rc2,U,sl4⟩)) lo lo (λob2 oc2 G2 gr2=>qO 4 U (oi i1 U (qO 2 U (ba (L':=[z2,z1]++G2) js (ag1 ((mu++[(fo c.Register.Appoints (i1:Int) c.at_ c.known).1]),ob2,oc2,G2,h4) hs3 ⟨gr2,lo,(hl1.t hle4),(λy hy=>(jE.1 hy).elim (u1_0 y) (λhy=>by rw[qC.1 hy];exact xS (KV _ _ _ _) hsm.2.1))⟩)))))))))))))
theorem Cg{α : Type}{xs:List α}{i:Nat}{y:α}(h:xs[i]? = some y):xs.take (i+1)=xs.take i++[y]:=by
  rw[List.take_add_one,h];rfl
theorem AD(h:HF)(c:bK)(oJ:kc)(bv:Nat)(s0 b0:Int)(hc:bK.ok h c oJ)(hsm:smR c.Register)(hco:i5 c)(hat:c.doc.At<=c.at_)(hk:Kinds h):
  oo prog 59 (vB [.agg (bK.cells c oJ).toArray,Q bv]) h [(bv,verO s0 b0 none 0 0 none 0 0)]
   (λr h' B=>∃vb vc wb wc G,r=.returned (.bool (ia c))/\B=(bv,verO s0 b0 vb (askJ c).1.length vc wb (askAll c).length wc)::G/\SlC kB h' vb vc (askJ c).1/\cZ kB 3 h' (askAll c) wb wc G):=by
 have hJ:Jdg c.Register.Versions (askJ c):=N2 hco.vers hco.good.at_ hco.time hco.know hat
 have hJl:(askJ c).1.length<=256:=xS (LW _ _ _ _) hco.vers.len
 have hpx:∀y∈(askJ c).1,exOk (fx c y):=λy hy=>Iq (hJ.mem y hy)
 have hpk:∀y∈(askJ c).1,M7 (askP c y):=λy hy=>sB hco hsm (QP (hpx y hy))
 refine cH func59 U ntmps59 U λX hM hX=>?_
 refine sr (bS (λb2=>an ?_))
 refine sr (j8 PM U (j8 QO U (oB 0 ty26 U U U (j8 FY U (j8 QL U (oB 0 ty3 U U U (j8 PL U (oB 0 ty3 U U U (j8 PK U (oB 0 ty3 U U U (aA (cC call22 (Ah h c.Register.Versions _ _ c.doc.At c.at_ c.known hc.Register.Versions hsm.vers hk) U (λv1 h1 hle1 hp1=>?_)))))))))))))
 obtain⟨vb,vc,rfl,slv⟩:=hp1
 refine qO 11 U (aA (oF uM (io h1 _) (mI hJ.err) U (qO 9 U (MF dy U (qO 2 U ?_)))))
 refine lp2 (γ:=List Bool×Option Addr×Nat×LH×List Int×Option Addr×Nat×LH×HF) (x0:=(askJ c).1) (askJ c).1
  (λi g=>[(1,Q bv),(2,Q b2),(5,.slice vb (askJ c).1.length vc),(6,I (askJ c).2.1),(8,.slice g.2.1 g.1.length g.2.2.1),(31,.slice vb (askJ c).1.length vc),(32,I (((askJ c).1.length:Nat):Int)),(33,I (i:Int))])
  (λg=>g.2.2.2.2.2.2.2.2)
  (λg=>[(b2,O (bK.cells c oJ) 123),(bv,verO s0 b0 none 0 0 g.2.2.2.2.2.1 g.2.2.2.2.1.length g.2.2.2.2.2.2.1)]++(g.2.2.2.1++g.2.2.2.2.2.2.2.1))
  (λi g=>g.1=((askJ c).1.take i).map (askAns c)/\g.2.2.2.2.1=((askJ c).1.take i).flatMap (askWho c)/\cZ UP 4 g.2.2.2.2.2.2.2.2 g.1 g.2.1 g.2.2.1 g.2.2.2.1/\cZ kB 3 g.2.2.2.2.2.2.2.2 g.2.2.2.2.1 g.2.2.2.2.2.1 g.2.2.2.2.2.2.1 g.2.2.2.2.2.2.2.1/\h1.le g.2.2.2.2.2.2.2.2/\g.1.length<=i/\g.2.2.2.2.1.length<=i*2000000)
  (λs i _=>(askJ c).1.take i++s) ([],none,0,[],[],none,0,[],h1) ob rfl ⟨rfl,rfl,cZ.nil,cZ.nil,qQ _,qM _,qM _⟩ ?_ ?_
 .rintro i ⟨az,ab,ac,Ga,ws,wb,wc,Gw,hh⟩ hil hx0 ⟨ha,hw,gA,gW,hle,la,lw⟩ e
  dsimp only at ha hw gA gW hle la lw hx0
  rw[List.append_nil]at hx0
  rw[←hx0]at ha hw
  subst ha hw
  obtain⟨ws,hws⟩:∃ws,ws=(askJ c).1.flatMap (askWho c):=⟨_,rfl⟩
  have hall:askAll c=slices_Compact_int (sortI ws):=by rw[hws];rfl
  rw[←hws]at gW lw
  obtain⟨az,has⟩:∃az,az=(askJ c).1.map (askAns c):=⟨_,rfl⟩
  rw[←has]at gA la
  show TT _ _ _ _ _ (upds e [(1,Q bv),(2,Q b2),(5,.slice vb (askJ c).1.length vc),(6,I (askJ c).2.1),(8,.slice ab ((askJ c).1.map (askAns c)).length ac),(31,.slice vb (askJ c).1.length vc),(32,I (((askJ c).1.length:Nat):Int)),(33,I (i:Int))]) _ _ hh ([(b2,O (bK.cells c oJ) 123),(bv,verO s0 b0 none 0 0 wb ((askJ c).1.flatMap (askWho c)).length wc)]++(Ga++Gw))
  rw[←hws,←has]
  refine qT 3 U (aA (fj (fW U) (j8 BM U (oB 1 ty31 U U U (aA (nQ ([(b2,O (bK.cells c oJ) 123),(bv,verO s0 b0 none 0 0 wb ws.length wc)]++Ga) Gw [] Oh (nf hh ws wb wc Gw gW ob) (by simp only[vD,List.cons_append,kF,List.append_nil]) U (λG2 g2=>aI ?_)))))))
  refine qT 6 U (aA (fj (fW U) (j8 BM U (oB 1 ty31 U U U (aA (nQ (v:=.slice wb (slices_Compact_int (sortI ws)).length wc) ([(b2,O (bK.cells c oJ) 123),(bv,verO s0 b0 none 0 0 wb ws.length wc)]++Ga) G2 [] call136 (pS hh (sortI ws) wb wc G2 g2) U (by simp only[iV];rfl) (λG3 g3=>?_)))))))
  refine aA (fj (fW U) (j8 QM U (cK 1 ty31 U U U U U U (aA (fj (fW U) (j8 BM U (cK 1 ty31 U U U U U U (aI (bW (L':=[(b2,O (bK.cells c oJ) 123),(bv,verO s0 b0 vb (askJ c).1.length vc wb (slices_Compact_int (sortI ws)).length wc)]++(Ga++G3)) (by rw[List.append_nil,vD];rfl) ?_)))))))))
  have fin:∀(hz:HF)(r:Bool),hh.le hz->r=ia c->∀(e:Env),e 4=.bool r->∀k,TT prog (bodyFrame 59) 88 (.code .ret::k) (mE prog X (λr h' B=>∃vb vc wb wc G,r=.returned (.bool (ia c))/\B=(bv,verO s0 b0 vb (askJ c).1.length vc wb (askAll c).length wc)::G/\SlC kB h' vb vc (askJ c).1/\cZ kB 3 h' (askAll c) wb wc G)) e [] X hz ([(b2,O (bK.cells c oJ) 123),(bv,verO s0 b0 vb (askJ c).1.length vc wb (slices_Compact_int (sortI ws)).length wc)]++(Ga++G3)):=by
   intro hz r hlz hr e he k
   subst hr
   refine oO (v:=.bool (ia c)) (h2:=hz) (B:=(bv,verO s0 b0 vb (askJ c).1.length vc wb (slices_Compact_int (sortI ws)).length wc)::G3) func59 (λa ha w _=>by rw[←he];exact res1 U a ha w) (λw hw=>hw.sub (.cons _ (.cons_cons _ (List.sublist_append_right _ _)))) ⟨vb,vc,wb,wc,G3,U,?_,slv.mono xH (xG hle hlz),?_⟩
   .rw[hall]
   rw[hall];exact g3.mono xH hlz
  refine qT 6 U ?_
  refine j1 U (λc1=>?_) (λc1=>?_)
  .exact sr (an (fin hh false lf (by unfold ia;rw[show((askJ c).2.1==0)=true from c1];rfl) _ U _))
  have hm:=hJ.mode2 (by simpa using c1)
  have hal:az.length<=256:=by rw[has,List.length_map];exact hJl
  refine qT 5 U (aA (JE ([(b2,O (bK.cells c oJ) 123),(bv,verO s0 b0 vb (askJ c).1.length vc wb (slices_Compact_int (sortI ws)).length wc)]) Ga G3 (v:=.tuple #[.bool ((ki (askJ c).2.1 az).1),I ((ki (askJ c).2.1 az).2)]) call26 Rp.yX gA U (λhz lz sl=>Ai hz (askJ c).2.1 az ab ac sl ob) U ?_))
  exact av (qO 8 U (aA (oF uM (io hh _) (mI (LX hm hal)) U (qO 6 U (fin hh _ lf (by unfold ia;rw[show((askJ c).2.1==0)=false from c1,cond_false,←has]) _ U _)))))
 rintro i ⟨az,ab,ac,Ga,ws,wb,wc,Gw,hh⟩ y r hd hlt hget hltp hbd hx0 ⟨ha,hw,gA,gW,hle,la,lw⟩ hx ag e
 dsimp only at ha hw gA gW hle la lw
 have hy:y∈(askJ c).1:=vF hget
 have hcc:=hc.mono (xG hle1 hle)
 show TT _ _ _ _ _ (upds e [(1,Q bv),(2,Q b2),(5,.slice vb (askJ c).1.length vc),(6,I (askJ c).2.1),(8,.slice ab az.length ac),(31,.slice vb (askJ c).1.length vc),(32,I (((askJ c).1.length:Nat):Int)),(33,I (i:Int))]) _ _ hh ([(b2,O (bK.cells c oJ) 123),(bv,verO s0 b0 none 0 0 wb ws.length wc)]++(Ga++Gw))
 refine sr (tO hlt U (qO 8 U (aA (rO (enc:=λy=>[I y]) (λ_ _ _ e=>e) dy ty3 (slv.mono xH hle).1 (nthZ hget) (dq hget) U U U (λq1 A1=>dD ty3 A1 U (an ?_))))))
 refine sr (cN 0 ty123 U U U (av (aA (Ns call80 (pT hh c oJ y hcc) (hpx y hy) U (λv3 h3 hle3 hp3=>?_)))))
 obtain⟨pr,rfl,okp⟩:=hp3
 refine aS zc64 (λb11=>aR 0 ty64 U U U U U U (aI ?_))
 refine sr (cN 1 ty123 U U U (cN 0 ty64 U U U (aA (cC call79 (pU h3 c oJ (askP c y) pr (hcc.mono hle3) okp hsm hco (hpk y hy).rules) U (λv4 h4 hle4 hp4=>?_)))))
 obtain⟨ub,uc,rfl,slu⟩:=hp4
 refine qO 5 U (cN 1 ty123 U U U (cN 0 ty64 U U U (av (ai (v:=.bool (askAns c y)) call135 (uJ h4 c oJ (askP c y) pr (askWho c y) ub uc (hcc.mono (xG hle3 hle4)) (okp.mono hle4) slu hsm hco (hpk y hy).sm (hpk y hy).off (Fd hsm _) (hk.mono (xG hle1 (xG hle (xG hle3 hle4))))) U ?_))))
 have hl4:hh.le h4:=xG hle3 hle4
 have hwl:=Fd hsm (askP c y)
 refine aA (aV (cells:=[.bool (askAns c y)]) Hb ty4 zc4 U U kr (λb13=>?_))
 refine aA (cd Rp.NW ([(b13,O [.bool (askAns c y)] 4),(b11,O (xE (askP c y) pr) 64),(b2,O (bK.cells c oJ) 123),(bv,verO s0 b0 none 0 0 wb ws.length wc)]) Gw (λG=>[(b13,O [.bool (askAns c y)] 4),(b11,O (xE (askP c y) pr) 64),(b2,O (bK.cells c oJ) 123),(bv,verO s0 b0 none 0 0 wb ws.length wc)]++(Gw++G)) U (λ_=>U) Hb ty4 zc4 U bytes4 (gA.mono Rp.yX hl4) U U (dX (ys:=[askAns c y]) 0 U ⟨[.bool (askAns c y)],[],U,U,U,U⟩) lo lo (λab2 ac2 Ga2 gA2=>an ?_))
 refine qT 3 U (aA (fj (fW U) (j8 BM U (oB 3 ty31 U U U (av (aA (cd SL ([(b13,O [.bool (askAns c y)] 4),(b11,O (xE (askP c y) pr) 64),(b2,O (bK.cells c oJ) 123),(bv,verO s0 b0 none 0 0 wb ws.length wc)]) Ga2 (λG=>[(b13,O [.bool (askAns c y)] 4),(b11,O (xE (askP c y) pr) 64),(b2,O (bK.cells c oJ) 123),(bv,verO s0 b0 none 0 0 wb ws.length wc)]++(Ga2++G)) U (λ_=>U) dy ty3 zc3 U bytes3 (gW.mono xH hl4) U U (gl slu.1) (by show(_+(askWho c y).length)*_<=_;unfold askWho;omega) (by show _+(askWho c y).length<=_;unfold askWho;omega) (λwb2 wc2 Gw2 gW2=>?_))))))))
 refine aA (fj (fW U) (j8 BM U (cK 3 ty31 U U U U U U (aI (ba (L':=[(b2,O (bK.cells c oJ) 123),(bv,verO s0 b0 none 0 0 wb2 (ws++askWho c y).length wc2)]++(Ga2++Gw2)) js (qT 2 U (j9 (v':=I (((i+1:Nat)):Int)) U (LO ob) (qO 2 U ?_))))))))
 refine ag (az++[askAns c y],ab2,ac2,Ga2,ws++askWho c y,wb2,wc2,Gw2,h4) (by rw[Cg hget,vD];exact hx0) ⟨?_,?_,gA2,gW2,xG hle hl4,?_,?_⟩
 .show az++[askAns c y]=_;rw[Cg hget,ha,List.map_append];rfl
 .show ws++askWho c y=_;rw[Cg hget,hw,List.flatMap_append];simp
 .show(az++[askAns c y]).length<=i+1;rw[xB];simp only[xA,jC];omega
 show(ws++askWho c y).length<=(i+1)*2000000;rw[xB];unfold askWho;omega
theorem LB(h:HF)(c:bK)(oJ:kc)(q:Addr)(bv:Nat)(s0 b0:Int)(hc:bK.ok h c oJ)(aq:At h q (bK.cells c oJ))(hsm:smR c.Register)(hco:i5 c)(hat:c.doc.At<=c.at_)(hk:Kinds h):
    oo prog 58 (vB [.pointer (some q),Q bv]) h [(bv,verO s0 b0 none 0 0 none 0 0)]
      (λr h' B=>∃vb vc wb wc G,r=.returned (.bool (!(ia c)))/\B=(bv,verO s0 b0 vb (askJ c).1.length vc wb (askAll c).length wc)::G/\SlC kB h' vb vc (askJ c).1/\cZ kB 3 h' (askAll c) wb wc G):=by
  refine cH func58 U ntmps58 U λX hM hX=>?_
  refine qT 6 rfl (dv ty123 aq rfl rfl (aA (nA (A:=[(bv,verO s0 b0 none 0 0 none 0 0)]) (Fr:=[]) call59 rfl (AD h c oJ bv s0 b0 hc hsm hco hat hk) rfl (λv h2 B hle hR=>?_) (λch h2 B hle hR=>by obtain⟨_,_,_,_,_,hr,_⟩:=hR;cases hr))))
  obtain⟨vb,vc,wb,wc,G,hr,rfl,s1,g1⟩:=hR
  cases hr
  exact nF U (an (oO (v:=.bool (!(ia c))) (h2:=h2) (B:=(bv,verO s0 b0 vb (askJ c).1.length vc wb (askAll c).length wc)::G) func58 (λa ha w hw=>ni (rs:=[.tmp 2]) (vs:=[.bool (!(ia c))]) U rd a ha w hw) (λw hw=>by simpa using hw) ⟨vb,vc,wb,wc,G,U,U,s1,g1⟩))
theorem LA(h:HF)(r:Register)(Sd:fq)(qr:Addr)(u:List Use)(D3:Option Addr)(D2:Nat)(qu:Addr)(c:bK)(oJ:kc)(qc:Addr)(at_ known:Int)(qa qk:Addr)(bv:Nat)(s0 b0:Int)(vb:Option Addr)(vn vc:Nat)(wb:Option Addr)(wn wc:Nat)(hr:xV h r Sd)(ar:At h qr (vK r Sd))(hu:SlC Use.rp h D3 D2 u)(au:At h qu [.slice D3 u.length D2])(ac:At h qc (bK.cells c oJ))(aa:At h qa [I at_])(ak:At h qk [I known])(hsm:smR r)(he:(judgeRoom c r u at_ known).2.2=0):
  oo prog 60 (vB [.pointer (some qr),.pointer (some qu),.pointer (some qc),.pointer (some qa),.pointer (some qk),Q bv]) h [(bv,verO s0 b0 vb vn vc wb wn wc)]
   (λx h' B=>x=.returned (.bool (!(judgeRoom c r u at_ known).2.1))/\h'=h/\B=[(bv,verO s0 (bif !(judgeRoom c r u at_ known).2.1 then(judgeRoom c r u at_ known).1 else b0) vb vn vc wb wn wc)]):=by
 refine cH func60 U ntmps60 U λX hM hX=>?_
 refine qT 6 U (j8 MV U (jk (j:=3) ty25 ar U U (dD ty32 au U (j8 FY U (j8 QK U (jk (j:=9) ty3 ac U U (j8 FY U (j8 QJ U (jk (j:=10) ty3 ac U U (dD ty3 aa U (dD ty3 ak U (ai (v:=.tuple #[I (judgeRoom c r u at_ known).1,.bool (judgeRoom c r u at_ known).2.1,I (judgeRoom c r u at_ known).2.2]) call27 (wL h r.Budgets _ _ u D3 D2 c.doc.Kind c.doc.Value at_ known hr.Budgets hu hsm.2.2.2.2.1) U (qO 11 U (aA (oF uM (io h _) (mI he) U (qO 7 U ?_))))))))))))))))
 refine j1 U (λc1=>?_) (λc1=>?_)
 .exact bC (av (j8 MU U (cK 0 ty3 U U U U U U (qO 7 U (oO (v:=.bool (!(judgeRoom c r u at_ known).2.1)) (h2:=h) (B:=[(bv,verO s0 (judgeRoom c r u at_ known).1 vb vn vc wb wn wc)]) func60 (λa ha w hw=>ni (rs:=[.tmp 6]) (vs:=[.bool (!(judgeRoom c r u at_ known).2.1)]) U rd a ha w hw) (λw hw=>hw) ⟨U,U,by rw[show(!(judgeRoom c r u at_ known).2.1)=true from c1];rfl⟩)))))
 exact aH (qT 6 U (oO (v:=.bool (!(judgeRoom c r u at_ known).2.1)) (h2:=h) (B:=[(bv,verO s0 b0 vb vn vc wb wn wc)]) func60 (λa ha w hw=>ni (rs:=[.tmp 6]) (vs:=[.bool (!(judgeRoom c r u at_ known).2.1)]) U rd a ha w hw) (λw hw=>hw) ⟨U,U,by rw[show(!(judgeRoom c r u at_ known).2.1)=false from c1];rfl⟩))
theorem Fg{e:Int}{ee:Int}(h:mB e=.error ee):(e != 0)=true/\ee=e:=by
  unfold mB at h
  cases hc:e != 0 with
  |true=>rw[hc]at h;cases h;exact⟨rfl,rfl⟩
  |false=>rw[hc]at h;cases h
theorem Cs{e:Int}{u:Unit}(h:mB e=.ok u):e=0:=by
  unfold mB at h
  cases hc:e != 0 with
  |true=>rw[hc]at h;cases h
  |false=>simpa using hc
theorem nV(h:HF)(cv:Register)(fF:fq)(signed:List Int)(eA:Option Addr)(ey:Nat)(u:List Use)(D3:Option Addr)(D2:Nat)(doc:Int)(eB:Int)(known:Int)(jw:xV h cv fF)(hsigned:SlC kB h eA ey signed)(hu:SlC Use.rp h D3 D2 u)(hsm:smR cv)(hln:cv.Docs.length<20)(hk:Kinds h):
  i9 prog 11 [.agg (vK cv fF).toArray,.slice eA signed.length ey,.slice D3 u.length D2,I doc,I eB,I known] h (λv h'=>∃rr0:tJ,v=.tuple #[.agg (gM.cells (eL cv signed u doc eB known).1 rr0).toArray,I ((eL cv signed u doc eB known).2)]/\gM.ok h' (eL cv signed u doc eB known).1 rr0):=by
 refine cH func11 U ntmps11 U λX hM hX=>?_
 refine sr (bS (λb6=>bS (λb7=>bS (λb8=>bS (λb10=>bS (λb11=>aS zc36 (λb12=>aS zc37 (λb13=>aI ?_))))))))
 refine sr (Hi U U (aI ?_))
 have fin:∀(hh:HF)(V:gM)(vb:Option Addr)(vc:Nat)(wb:Option Addr)(wc:Nat)(ee:Int)(B:LH)(e:Env),eL cv signed u doc eB known=(V,ee)->SlC kB hh vb vc V.Versions->SlC kB hh wb wc V.Who->e 12=Q b12->e 13=Q b13->∀a:Act,envOf a=e->∀w,St X hh ([(b13,O [I ee] 37)]++((b12,verO V.State V.Budget vb V.Versions.length vc wb V.Who.length wc)::B)) w ->
   ∃v h2 B2,(results Tryz.f11 a.tmps).run prog w=.ok v w/\St X h2 B2 w/\(B2=[]/\∃v',Ending.returned v=.returned v'/\(λv h'=>∃rr0:tJ,v=.tuple #[.agg (gM.cells (eL cv signed u doc eB known).1 rr0).toArray,I ((eL cv signed u doc eB known).2)]/\gM.ok h' (eL cv signed u doc eB known).1 rr0) v' h2):=by
  intro hh V vb vc wb wc ee B e he h1 h2 h12 h13 a ha w hw
  refine⟨_,hh,[],ni (rs:=[.cell 12 36,.cell 13 37]) (vs:=[.agg (gM.cells V ⟨vb,vc,wb,wc⟩).toArray,I ee]) U ⟨⟨1,b12,_,36,(0,0),U,h12,.inl ⟨ty36,U⟩⟩,⟨0,b13,[I ee],37,(0,0),U,h13,.inr ⟨_,ty37,U⟩⟩,trivial⟩ a ha w hw,hw.sub (List.nil_sublist _),U,_,U,⟨vb,vc,wb,wc⟩,?_,?_⟩
  .rw[he];rfl
  rw[he];exact⟨h1,h2⟩
 have pan:∀(hh:HF)(e0 ee:Int)(B:LH)(e:Env),eL cv signed u doc eB known=(⟨0,0,[],[]⟩,ee)->e 12=Q b12->e 13=Q b13 ->
   TP prog (bodyFrame 11) 69 [{ v:=errV ee,recovered:=false }] (mE prog X (λx h' B=>B=[]/\∃v,x=.returned v/\(λv h'=>∃rr0:tJ,v=.tuple #[.agg (gM.cells (eL cv signed u doc eB known).1 rr0).toArray,I ((eL cv signed u doc eB known).2)]/\gM.ok h' (eL cv signed u doc eB known).1 rr0) v h')) e [{ target:=.fn (.func 50) #[],args:=vB [Q b13] }] X hh ((b13,O [I e0] 37)::(b12,verO 0 0 none 0 0 none 0 0)::B):=by
  intro hh e0 ee B e he h12 h13
  refine AW (c:=bodyOf Tryz.f50) (cap:=[Q b13]) (A:=[(b13,O [I e0] 37)]) (R':=λh'' B=>h''=hh/\B=[(b13,O [I ee] 37)]) func11 Em U Ja U I9 (λX' _=>wk hh b13 e0 ee X') U ?_
  rintro h'' B2 _ ⟨rfl,rfl⟩ a ha w hw
  exact fin _ ⟨0,0,[],[]⟩ none 0 none 0 ee B e he vE vE h12 h13 a ha w hw
 refine sr (cN 6 ty30 U U U (ai (v:=I (dC cv)) Oe (pz h cv fF jw hsm hk) U ?_))
 refine sC uM (io h (dC cv)).toXH U (λv_ v h1 hx1 hle1 hp1=>?_) (λee h1 hx1 hle1=>?_)
 rotate_left
 .obtain⟨e1,rfl⟩:=Fg hx1
  exact pan h1 _ _ _ _ (by unfold eL;rw[e1];rfl) U U
 obtain⟨rfl,rfl⟩:=hp1
 have hc0:=Cs hx1
 refine qO 3 U (j8 QN U (oB 6 ty27 U U U (oB 5 ty31 U U U (aA (cC call52 (rG h1 cv.Docs _ _ signed eA ey 0 jw.Docs hsigned hln) U (λv2 h2 hle2 hp2=>?_))))))
 obtain⟨fb,fc,rfl,_⟩:=hp2
 refine qO 3 U (cK 0 ty37 U U U U U U (qO 3 U (oB 0 ty37 U U U ?_)))
 refine sC uM (io h2 (cg cv.Docs signed 0).2).toXH U (λv_ v h3 hx3 hle3 hp3=>?_) (λee h3 hx3 hle3=>?_)
 rotate_left
 .obtain⟨e1,rfl⟩:=Fg hx3
  exact pan h3 _ _ _ _ (by unfold eL;rw[hc0,e1];rfl) U U
 obtain⟨rfl,rfl⟩:=hp3
 have hf0:=Cs hx3
 refine qO 3 U (j8 MV U (oB 6 ty25 U U U (oB 4 ty32 U U U (ai (v:=.tuple #[I (bX cv.Budgets u 0 0 0 0).1,.bool (bX cv.Budgets u 0 0 0 0).2.1,I (bX cv.Budgets u 0 0 0 0).2.2]) call27 (wL h3 cv.Budgets _ _ u D3 D2 0 0 0 0 (jw.mono hle2).Budgets (hu.mono Use.aj hle2) hsm.2.2.2.2.1) U (qO 4 U (cK 0 ty37 U U U U U U (qO 3 U (oB 0 ty37 U U U ?_))))))))
 refine sC uM (io h3 (bX cv.Budgets u 0 0 0 0).2.2).toXH U (λv_ v h4 hx4 hle4 hp4=>?_) (λee h4 hx4 hle4=>?_)
 rotate_left
 .obtain⟨e1,rfl⟩:=Fg hx4
  exact pan h4 _ _ _ _ (by unfold eL;rw[hc0,hf0,e1];rfl) U U
 obtain⟨rfl,rfl⟩:=hp4
 have hb0:=Cs hx4
 refine qO 3 U (cN 6 ty30 U U U (av (oB 3 ty3 U U U (oB 2 ty3 U U U ?_))))
 refine sC call53 (zY h4 cv fF doc eB known (jw.mono hle2)) U (λc v h5 hx5 hle5 hp5=>?_) (λee h5 hx5 hle5=>?_)
 rotate_left
 .exact pan h5 _ _ _ _ (by unfold eL;rw[hc0,hf0,hb0,hx5];rfl) U U
 obtain⟨cr,rfl,okc⟩:=hp5
 have hj:eL cv signed u doc eB known=(judgeC c cv signed u eB known,0):=by unfold eL;rw[hc0,hf0,hb0,hx5];rfl
 obtain⟨hce,hco,_,_⟩:=Ea hc0 hx5
 have hreg:c.Register=cv:=by rw[hce]
 have hca:c.at_=eB:=by rw[hce]
 have hck:c.known=known:=by rw[hce]
 have hsc:smR c.Register:=by rw[hreg];exact hsm
 have hlc:c.Register.Docs.length<20:=by rw[hreg];exact hln
 have hsg:cW c.Register.Docs signed=true:=by rw[hreg];exact IB hf0
 have hroom:(judgeRoom c cv u eB known).2.2=0:=O0 hb0 hco.kind hco.good.value (hca▸hco.time) (hck▸hco.know)
 rw[hb0]
 refine aS zc123 (λb14=>aR 0 ty123 U U U U U U (aI ?_))
 refine sr (j8 MU U (cK 2 ty3 U U U U U U (aI (eC 0 U hM (λg1 l1 f14=>eC 2 U hM (λg2 l2 f11=>eC 2 U hM (λg3 l3 f10=>eC 2 U hM (λg4 l4 f8=>eC 2 U hM (λg5 l5 f7=>eC 2 U hM (λg6 l6 f6=>?_))))))))))
 have a14:=(cz f14).mono (xG l2 (xG l3 (xG l4 (xG l5 l6))))
 have a11:=(cz f11).mono (xG l3 (xG l4 (xG l5 l6)))
 have a10:=(cz f10).mono (xG l4 (xG l5 l6))
 have a8:=(cz f8).mono (xG l5 l6)
 have a7:=(cz f7).mono l6
 have a6:=cz f6
 have l56:h5.le g6:=xG l1 (xG l2 (xG l3 (xG l4 (xG l5 l6))))
 have l06:h1.le g6:=xG hle2 (xG hle5 l56)
 have okg:=okc.mono l56
 have okr:=jw.mono l06
 have hsg6:=hsigned.mono xH l06
 have hu6:=hu.mono Use.aj l06
 have hk6:=hk.mono l06
 clear f14 f11 f10 f8 f7 f6
 show TT _ _ _ _ _ _ _ _ g6 [(b13,O [I 0] 37),(b12,verO 0 (-1) none 0 0 none 0 0)]
 refine qT 3 U (aA (eI U U (aA (e9 (cells:=[I 1,.func (.func 54) #[] #[Q b14,Q b7]]) (places:=[(0,1),(1,1)]) Lb zc126 kr kr (aA (eI U U (aA (e9 (cells:=[I 2,.func (.func 56) #[] #[Q b14,Q b7]]) (places:=[(0,1),(1,1)]) Lb zc126 kr kr (aA (eI U U (aA (e9 (cells:=[I 3,.func (.func 58) #[] #[Q b14,Q b12]]) (places:=[(0,1),(1,1)]) Lb zc126 kr kr (aA (eI U U (aA (e9 (cells:=[I 4,.func (.func 60) #[] #[Q b6,Q b8,Q b14,Q b10,Q b11,Q b12]]) (places:=[(0,1),(1,1)]) Lb zc126 kr kr (aA (aV (cells:=[I 1,.func (.func 54) #[] #[Q b14,Q b7],I 2,.func (.func 56) #[] #[Q b14,Q b7],I 3,.func (.func 58) #[] #[Q b14,Q b12],I 4,.func (.func 60) #[] #[Q b6,Q b8,Q b14,Q b10,Q b11,Q b12]]) I5 ty126 zc126 U U kr (λb15=>MF I5 U (qO 2 U ?_))))))))))))))))))))
 have ret:∀(hh:HF)(V:gM)(vb:Option Addr)(vc:Nat)(wb:Option Addr)(wc:Nat)(B:LH)(e:Env)(k:List Item),judgeC c cv signed u eB known=V->SlC kB hh vb vc V.Versions->SlC kB hh wb wc V.Who->e 12=Q b12->e 13=Q b13 ->
   TT prog (bodyFrame 11) 69 (.code .ret::k) (mE prog X (λx h' B=>B=[]/\∃v,x=.returned v/\(λv h'=>∃rr0:tJ,v=.tuple #[.agg (gM.cells (eL cv signed u doc eB known).1 rr0).toArray,I ((eL cv signed u doc eB known).2)]/\gM.ok h' (eL cv signed u doc eB known).1 rr0) v h')) e [{ target:=.fn (.func 50) #[],args:=vB [Q b13] }] X hh ((b13,O [I 0] 37)::(b12,verO V.State V.Budget vb V.Versions.length vc wb V.Who.length wc)::B):=by
  intro hh V vb vc wb wc B e k hv h1 h2 h12 h13
  refine Jh (c:=bodyOf Tryz.f50) (cap:=[Q b13]) (A:=[(b13,O [I 0] 37)]) (R':=λh'' B=>h''=hh/\B=[(b13,O [I 0] 37)]) func11 Em U Ja U I9 (λX' _=>Gh hh b13 0 X') U ?_
  rintro h'' B2 _ ⟨rfl,rfl⟩ a ha w hw
  exact fin _ V vb vc wb wc 0 B e (by rw[hj,hv]) h1 h2 h12 h13 a ha w hw
 refine mM (Es (sr (j9 (v':=.bool true) U U (qO 8 U (aA (fj (Dd (i:=0) I5 ty126 U U ob) (cN 0 ty126 U U U (aS zc126 (λc0=>aR 0 ty126 U U U U U U (aI ?_))))))))))
 refine sr (j8 BO U (oB 0 ty33 U U U (aA (mG (v:=.bool (gU c signed)) [] (List.nil_sublist _) (iK (cap:=[Q b14,Q b7]) call54 (Cz g6 c cr ⟨b14,0,none⟩ signed eA ey ⟨b7,0,none⟩ okg a14 hsg6 a7 hsc hco hlc hsg)) U U (aI ?_)))))
 refine j1 U (λk1=>?_) (λk1=>?_)
 .exact sr (j8 BP U (oB 0 ty3 U U U (j8 BN U (cK 3 ty3 U U U U U U (qO 3 U (cN 3 ty36 U U U (aR 3 ty36 U U U U U U (cK 2 ty37 U U U U U U (aI (ba (.cons _ (.cons _ (List.Sublist.refl _))) (ret g6 ⟨1,-1,[],[]⟩ none 0 none 0 [] _ _ (by unfold judgeC;rw[show gU c signed=true from k1];rfl) vE vE U U)))))))))))
 replace k1:gU c signed=false:=k1
 have hat:c.doc.At<=c.at_:=NU k1
 refine qT 3 U (j9 (v':=I 1) U U (qO 2 U (AV (ba (.cons _ (List.Sublist.refl _)) (sr (j9 (v':=.bool true) U U (qO 8 U (aA (fj (Dd (i:=1) I5 ty126 U U ob) (cN 0 ty126 U U U (aS zc126 (λc1=>aR 0 ty126 U U U U U U (aI ?_)))))))))))))
 refine sr (j8 BO U (oB 0 ty33 U U U (aA (mG (v:=.bool (jh c signed)) [] (List.nil_sublist _) (iK (cap:=[Q b14,Q b7]) call56 (Cy g6 c cr ⟨b14,0,none⟩ signed eA ey ⟨b7,0,none⟩ okg a14 hsg6 a7 hsc hco hlc hsg)) U U (aI ?_)))))
 refine j1 U (λk2=>?_) (λk2=>?_)
 .exact sr (j8 BP U (oB 0 ty3 U U U (j8 BN U (cK 3 ty3 U U U U U U (qO 3 U (cN 3 ty36 U U U (aR 3 ty36 U U U U U U (cK 2 ty37 U U U U U U (aI (ba (.cons _ (.cons _ (List.Sublist.refl _))) (ret g6 ⟨2,-1,[],[]⟩ none 0 none 0 [] _ _ (by unfold judgeC;rw[k1,show jh c signed=true from k2];rfl) vE vE U U)))))))))))
 replace k2:jh c signed=false:=k2
 refine qT 3 U (j9 (v':=I 2) U U (qO 2 U (AV (ba (.cons _ (List.Sublist.refl _)) (sr (j9 (v':=.bool true) U U (qO 8 U (aA (fj (Dd (i:=2) I5 ty126 U U ob) (cN 0 ty126 U U U (aS zc126 (λc2=>aR 0 ty126 U U U U U U (aI ?_)))))))))))))
 refine sr (j8 BO rfl (oB 0 ty33 rfl rfl rfl (aA (Bg [(c2,O [I 3,.func (.func 58) #[] #[Q b14,Q b12]] 126),(b15,O [I 1,.func (.func 54) #[] #[Q b14,Q b7],I 2,.func (.func 56) #[] #[Q b14,Q b7],I 3,.func (.func 58) #[] #[Q b14,Q b12],I 4,.func (.func 60) #[] #[Q b6,Q b8,Q b14,Q b10,Q b11,Q b12]] 126),(b13,O [I 0] 37)] [(b12,verO 0 (-1) none 0 0 none 0 0)] rfl (nO (args:=[]) (cap:=[Q b14,Q b12]) call58 (LB g6 c cr ⟨b14,0,none⟩ b12 0 (-1) okg a14 hsc hco hat hk6)) rfl rfl (λv7 h7 B7 l7 hR=>?_) (λch h7 B7 l7 hR=>by obtain⟨_,_,_,_,_,hr,_⟩:=hR;cases hr)))))
 obtain⟨vb,vc,wb,wc,G,hr,rfl,sv7,gw⟩:=hR
 cases hr
 refine aI (eY xH ([(c2,O [I 3,.func (.func 58) #[] #[Q b14,Q b12]] 126),(b15,O [I 1,.func (.func 54) #[] #[Q b14,Q b7],I 2,.func (.func 56) #[] #[Q b14,Q b7],I 3,.func (.func 58) #[] #[Q b14,Q b12],I 4,.func (.func 60) #[] #[Q b6,Q b8,Q b14,Q b10,Q b11,Q b12]] 126),(b13,O [I 0] 37)]++[(b12,verO 0 (-1) vb (askJ c).1.length vc wb (askAll c).length wc)]) G [] (by rw[List.append_nil];rfl) hM gw (λh8 l8 sw_z=>?_))
 have sv:=sv7.mono xH l8
 have l68:g6.le h8:=xG l7 l8
 refine bW (L':=[(c2,O [I 3,.func (.func 58) #[] #[Q b14,Q b12]] 126),(b15,O [I 1,.func (.func 54) #[] #[Q b14,Q b7],I 2,.func (.func 56) #[] #[Q b14,Q b7],I 3,.func (.func 58) #[] #[Q b14,Q b12],I 4,.func (.func 60) #[] #[Q b6,Q b8,Q b14,Q b10,Q b11,Q b12]] 126),(b13,O [I 0] 37),(b12,verO 0 (-1) vb (askJ c).1.length vc wb (askAll c).length wc)]) (by rw[List.append_nil];rfl) ?_
 refine j1 U (λk3=>?_) (λk3=>?_)
 .exact sr (j8 BP U (oB 0 ty3 U U U (j8 BN U (cK 3 ty3 U U U U U U (qO 3 U (cN 3 ty36 U U U (aR 3 ty36 U U U U U U (cK 2 ty37 U U U U U U (aI (ba (.cons _ (.cons _ (List.Sublist.refl _))) (ret h8 ⟨3,-1,(askJ c).1,askAll c⟩ vb vc wb wc [] _ _ (by unfold judgeC;rw[k1,k2,show(!(ia c))=true from k3];rfl) sv sw_z U U)))))))))))
 replace k3:(!(ia c))=false:=k3
 refine qT 3 U (j9 (v':=I 3) U U (qO 2 U (AV (ba (.cons _ (List.Sublist.refl _)) (sr (j9 (v':=.bool true) U U (qO 8 U (aA (fj (Dd (i:=3) I5 ty126 U U ob) (cN 0 ty126 U U U (aS zc126 (λc3=>aR 0 ty126 U U U U U U (aI ?_)))))))))))))
 refine sr (j8 BO U (oB 0 ty33 U U U (aA (Bg [(c3,O [I 4,.func (.func 60) #[] #[Q b6,Q b8,Q b14,Q b10,Q b11,Q b12]] 126),(b15,O [I 1,.func (.func 54) #[] #[Q b14,Q b7],I 2,.func (.func 56) #[] #[Q b14,Q b7],I 3,.func (.func 58) #[] #[Q b14,Q b12],I 4,.func (.func 60) #[] #[Q b6,Q b8,Q b14,Q b10,Q b11,Q b12]] 126),(b13,O [I 0] 37)] [(b12,verO 0 (-1) vb (askJ c).1.length vc wb (askAll c).length wc)] U (nO (args:=[]) (cap:=[Q b6,Q b8,Q b14,Q b10,Q b11,Q b12]) call60 (LA h8 cv fF ⟨b6,0,none⟩ u D3 D2 ⟨b8,0,none⟩ c cr ⟨b14,0,none⟩ eB known ⟨b10,0,none⟩ ⟨b11,0,none⟩ b12 0 (-1) vb (askJ c).1.length vc wb (askAll c).length wc (okr.mono l68) (a6.mono l68) (hu6.mono Use.aj l68) (a8.mono l68) (a14.mono l68) (a10.mono l68) (a11.mono l68) hsm hroom)) U U (λv9 h9 B9 l9 hR=>?_) (λch h9 B9 l9 hR=>by cases hR.1)))))
 obtain⟨hr,rfl,rfl⟩:=hR
 cases hr
 refine aI (j1 U (λk4=>?_) (λk4=>?_))
 .exact bW (L':=[(c3,O [I 4,.func (.func 60) #[] #[Q b6,Q b8,Q b14,Q b10,Q b11,Q b12]] 126),(b15,O [I 1,.func (.func 54) #[] #[Q b14,Q b7],I 2,.func (.func 56) #[] #[Q b14,Q b7],I 3,.func (.func 58) #[] #[Q b14,Q b12],I 4,.func (.func 60) #[] #[Q b6,Q b8,Q b14,Q b10,Q b11,Q b12]] 126),(b13,O [I 0] 37),(b12,verO 0 (judgeRoom c cv u eB known).1 vb (askJ c).1.length vc wb (askAll c).length wc)]) (by rw[show(!(judgeRoom c cv u eB known).2.1)=true from k4];rfl) (sr (j8 BP U (oB 0 ty3 U U U (j8 BN U (cK 3 ty3 U U U U U U (qO 3 U (cN 3 ty36 U U U (aR 3 ty36 U U U U U U (cK 2 ty37 U U U U U U (aI (ba (.cons _ (.cons _ (List.Sublist.refl _))) (ret h9 ⟨4,(judgeRoom c cv u eB known).1,(askJ c).1,askAll c⟩ vb vc wb wc [] _ _ (by unfold judgeC;rw[k1,k2,k3,show(!(judgeRoom c cv u eB known).2.1)=true from k4];rfl) sv sw_z U U))))))))))))
 replace k4:(!(judgeRoom c cv u eB known).2.1)=false:=k4
 exact bW (L':=[(c3,O [I 4,.func (.func 60) #[] #[Q b6,Q b8,Q b14,Q b10,Q b11,Q b12]] 126),(b15,O [I 1,.func (.func 54) #[] #[Q b14,Q b7],I 2,.func (.func 56) #[] #[Q b14,Q b7],I 3,.func (.func 58) #[] #[Q b14,Q b12],I 4,.func (.func 60) #[] #[Q b6,Q b8,Q b14,Q b10,Q b11,Q b12]] 126),(b13,O [I 0] 37),(b12,verO 0 (-1) vb (askJ c).1.length vc wb (askAll c).length wc)]) (by rw[k4];rfl) (qT 3 U (j9 (v':=I 4) U U (qO 2 U (AV (ba (.cons _ (List.Sublist.refl _)) (sr (j9 (v':=.bool false) U U (qO 6 U (j8 BN U (cK 2 ty3 U U U U U U (qO 3 U (cN 2 ty36 U U U (aR 2 ty36 U U U U U U (cK 1 ty37 U U U U U U (aI (ba (.cons _ (List.Sublist.refl _)) (ret h9 ⟨0,-1,(askJ c).1,askAll c⟩ vb vc wb wc [] _ _ (by unfold judgeC;rw[k1,k2,k3,k4];rfl) sv sw_z U U)))))))))))))))))
theorem tW(h:HF)(a:List Int)(RD:Option Addr)(RC:Nat)(jy:List Int)(Gj:Option Addr)(Gi:Nat)(ha:SlC kB h RD RC a)(zw:SlC kB h Gj Gi jy):Ret prog 18 [.slice RD a.length RC,.slice Gj jy.length Gi] h (.bool (gp a jy)):=by
 refine sT func18 U ntmps18 U λX hM hX hF=>?_
 have hs0:=@rfl _ (gp a jy)
 refine qK 13 [] U (ae hs0 U (λc1 hs1=>?_) (λc1 hs2=>?_))
 .exact sr (an (nretP [.bool false] (cs hs1)))
 refine qT 6 U ?_
 refine lp0 a (λi=>[(0,.slice RD a.length RC),(1,.slice Gj jy.length Gi),(5,I (i:Int))]) ([]) (λs1 i=>(gp.L1 jy (gp.K1)) s1 i) ha.1.1 hs2 ?_ ?_ ?_
 .rintro i1 ft hs4 e
  exact sr (an (nretP [.bool true] (cs hs4)))
 .rintro i1 y1 rz1 hd1 cY aJ dY gy hs6 hx1 ag1 e
  refine qK 6 [] U (tO cY U (qO 6 U (eh ([]) mixed kr jn (λdt _=>qA [0,1] U (cU 2 (enc:=λy=>[I y]) dt jn ei dy ty3 ha.1 (nthZ aJ) (dq aJ) U U U U kr (λq3 A3=>tf 3 U U (rh ty3 A3 U) (qA [4,5] U ?_)))))))
  have ho2:0<=((i1:Int):Int)/\((i1:Int):Int)<((jy).length:Int):=ob
  refine cU 6 (enc:=λy=>[I y]) dt jn ei dy ty3 zw.1 ho2 (de ho2) U U U U kr (λq4 A4=>tf 7 U U (rh ty3 A4 U) (qA [8] U (aG kr (ae hs6 U (λc3 hs7=>?_) (λc3 hs8=>?_)))))
  .exact sr (an (nretP [.bool false] (cs hs7)))
  exact aH (qT 3 U (oi i1 U (an (ag1 hs8))))
 rintro i1 hd1 fL hx e
 exact qK 6 [] U (fO fL U (qO 3 U (hx _ rd)))
end
end Go.Sg
