import Derived.Shelf.SlSortCmp.NoneTotal
import Derived.WalkKit
import Derived.Test.YtpplkjhgggjaoaaGreatDoorW6
/- A part of the proof of JudgeMore. -/
set_option linter.unusedVariables false
set_option linter.unusedSimpArgs false
set_option maxRecDepth 100000
open List renaming length_cons→xA,length_append→jA,not_mem_nil→kA,mem_cons_of_mem→xB,mem_cons_self→jB,length_nil→vB,toArray→kB,mem_cons→qC,mem_singleton→xC,append_assoc→kC,mem_of_getElem?→zE,getElem?_eq_getElem→qF,mem_append→kF,nil_append→xG,map_cons→kH,perm_append_comm→kJ,getElem?_eq_none→vL,mem_map_of_mem→qQ,nodup_cons→xR,foldl_cons→Te,ext_getElem?→Tm
open Go.Sg.Rp renaming int→zC,aM→xH,bool→S2,iD→TN
open Go.IntKind renaming wrap→jC
open Go.Sg.Expr renaming cells→vC,ok→zG,iS→R3
open Go.Value renaming int→zD,bool→SA
open Go.Sg.Appoint renaming mk→kD,rp→vH,aj→xQ,cells→jR
open Go.Sg.Policy renaming cells→xE,ok→vP
open Go.Sg.OSeat renaming cells→vE,enc→Sk,rp→Uj
open Go.Sg.SlC renaming nil→kE
open Go.Sg.HF renaming le_trans→vF,le_refl→xM,le→xN
open Nat renaming le_refl→jG,lt_or_ge→jL,zero_le→qM,le_trans→vT
open Go.Sg.Document renaming aj→jH,rp→kR,cells→zT,ok→SC
open Go.Obj renaming cells→jJ
open Go.Sg.Budget renaming cells→kK,rp→Sj,mk→S7,aj→TI
open Go.Sg.Register renaming cells→vN,ok→Sa
open Option.some renaming inj→R4
open Array renaming getElem?_eq_getElem→Sc,getElem?_modify→Uv
open Go.Sg.Holder renaming cells→Sn,aj→Tv,rp→TX,mk→UT
open Go.Sg.Use renaming cells→Sy,rp→Ux
open Option renaming getD_some→Tw
open Go.Sg.Stp renaming mono→Ui

namespace Go.Sg
variable {m3:List (Int×Option Addr×Nat×Nat)}{om:Obj}
open Go.Proofs Go.Proofs.Tryz
set_option maxHeartbeats 2000000
theorem wL(h:HF)(FZ:Bool)  : Ret prog 192 [.bool FZ] h (.bool (eD FZ)):=by
 refine sT func192 U ntmps192 U λX hM hX hF=>?_
 have hs0:=@rfl _ (eD FZ)
 exact sr (qO 7 U (nretP [.bool FZ] (cs hs0)))
theorem wK(h:HF)(FZ:Bool)  : Ret prog 193 [.bool FZ] h (.bool (fH FZ)):=by
 refine sT func193 U ntmps193 U λX hM hX hF=>?_
 have hs0:=@rfl _ (fH FZ)
 exact sr (qO 8 U (nretP [.bool (!FZ)] (cs hs0)))
theorem zq(h:HF)(mode:Int)(permits:List Bool)(oF:Option Addr)(oE:Nat)(hpermits:SlC S2 h oF oE permits)(hsz0:permits.length<=2000000):ju prog 98 [I mode,.slice oF permits.length oE] h (λv h'=>∃(rb0:Option Addr)(rc0:Nat),v=.tuple #[.slice rb0 ((aV mode permits).1).length rc0,.bool ((aV mode permits).2.1),I ((aV mode permits).2.2)]/\SlC zC h' rb0 rc0 ((aV mode permits).1)):=by
 refine sT func98 U ntmps98 U λX hM hX hF=>?_
 have hs0:=@rfl _ (aV mode permits)
 refine qT 11 U (ai call190 (Az _ mode _ _ _ hpermits) U (qO 7 U (ae hs0 U (λc1 hs1=>?_) (λc1 hs2=>?_))))
 .refine qT 7 U ?_
  have hs3:aV mode permits=([],false,(ga mode permits)):=hs1
  exact nretH [.slice none 0 0,.bool false,I (ga mode permits)] (hs3▸⟨none,0,U,kE⟩)
 refine qT 4 U (ai call191 (pF _ _ _ _ eD (.func (.func 192) #[] #[]) hpermits (λh' dC hle=>iq call192 (wL h' dC))) U (qO 5 U (ai call191 (pF _ _ _ _ fH (.func (.func 193) #[] #[]) hpermits (λh' dC hle=>iq call193 (wK h' dC))) U (qO 9 U (bp 3 [23,24,25,26] 23 26 (decide (0<=(cA permits eD))) U (λc2 hk1=>?_) (λe=>?_))))))
 .exact av (qO 2 U (hk1 _ U))
 refine an (ae hs2 U (λc3 hs4=>?_) (λc3 hs5=>?_))
 .refine qT 3 U (aA (bE (cells:=[I (cA permits eD)]) ec ty3 zc3 U U kr (λb1=>qO 4 U (eI 0 U hM (λh1 hle1 hb1=>?_)))))
  have sl1:SlC zC h1 (some ⟨b1,0,none⟩) 1 ([(cA permits eD)]):=bz.slB0 (T:=3) (fz:=(0,0)) ((show bz zC h [I (cA permits eD)] ([(cA permits eD)])from⟨[I (cA permits eD)],[],rfl,rfl,rfl,rfl⟩).mono xH hle1) hb1
  have hs6:aV mode permits=([(cA permits eD)],true,0):=hs4
  exact nretH [.slice (some ⟨b1,0,none⟩) 1 1,.bool true,I 0] (hs6▸⟨(some ⟨b1,0,none⟩),1,U,sl1⟩)
 refine qT 5 U (bp 3 [32,33,34,35] 32 35 (decide (0<=(cA permits fH))) U (λc4 hk2=>?_) (λe=>?_))
 .exact av (qO 2 U (hk2 _ U))
 refine an (ae hs5 U (λc5 hs7=>?_) (λc5 hs8=>?_))
 .refine qT 3 U (aA (bE (cells:=[I (cA permits fH)]) ec ty3 zc3 U U kr (λb2=>qO 4 U (eI 0 U hM (λh2 hle2 hb2=>?_)))))
  have sl2:SlC zC h2 (some ⟨b2,0,none⟩) 1 ([(cA permits fH)]):=bz.slB0 (T:=3) (fz:=(0,0)) ((show bz zC h [I (cA permits fH)] ([(cA permits fH)])from⟨[I (cA permits fH)],[],rfl,rfl,rfl,rfl⟩).mono xH hle2) hb2
  have hs9:aV mode permits=([(cA permits fH)],false,0):=hs7
  exact nretH [.slice (some ⟨b2,0,none⟩) 1 1,.bool false,I 0] (hs9▸⟨(some ⟨b2,0,none⟩),1,U,sl2⟩)
 refine qT 6 U (ae hs8 U (λc6 hs10=>?_) (λc6 hs11=>?_))
 .refine qK 13 [] U ?_
  refine lp2 permits (λi w=>[(4,.slice w.2.1 w.1.length w.2.2.1),(5,.bool (decide (0<=(cA permits eD)))),(55,I (permits.length:Int)),(56,I (i:Int))]) (λ_=>h) (λw=>w.2.2.2) (λi w=>du zC 3 h w.1 w.2.1 w.2.2.1 w.2.2.2/\w.1.length<=0+i) (λs1 i w=>(aV.L1 (aV.K1 permits)) s1 i w.1) ([],none,0,[]) hpermits.1.1 hs10 ⟨du.nil,lo⟩ ?_ ?_
  .rintro i1 ⟨GA,O0,OZ,QA⟩ fm hs12 ⟨Kc,OY⟩ e
   try dsimp only at Kc OY
   refine qT 8 U (fx xH ([]) QA ([]) ap hM Kc (λh4 hle4 sl4=>?_))
   have hs13:aV mode permits=(GA,decide (0<=(cA permits eD)),0):=hs12
   exact nretH [.slice O0 GA.length OZ,.bool (decide (0<=(cA permits eD))),I 0] (hs13▸⟨O0,OZ,U,sl4⟩)
  rintro i1 ⟨GA,O0,OZ,QA⟩ y1 rz1 hd1 df aS ek gu hs14 ⟨Kc,OY⟩ hx1 ag1 e
  try dsimp only at Kc OY
  exact sr (tO df U (qO 14 U (aA (bE (cells:=[I (i1:Int)]) ec ty3 zc3 U U kr (λb4=>aA (dE TN ([(b4,O [I (i1:Int)] 3)]) ([]) (λG=>[(b4,O [I (i1:Int)] 3)]++G) ap (λ_=>ap) ec ty3 zc3 U bytes3 Kc U U (e8 0 U (cE (i1:Int) U U)) lo lo (λob2 oc2 G2 gr2=>qO 4 U (oi i1 U (qO 2 U (bo (L':=G2) js (ag1 ((GA++[(i1:Int)]),ob2,oc2,G2) hs14 ⟨gr2,lo⟩)))))))))))
 refine qT 6 U (ae hs11 U (λc7 hs15=>?_) (λc7 hs16=>?_))
 .refine qK 5 [] U (bp 4 [49,50,51,52,53] 49 53 (nthI permits 0) U (λc8 hk3=>?_) (λe=>?_))
  .refine av ?_
   have ho1:0<=(0:Int)/\(0:Int)<((permits).length:Int):=ob
   exact aA (oP (enc:=λy=>[.bool y]) ei uw ty4 hpermits.1 ho1 (cV ho1) U U U (λq1 A1=>dj ty4 A1 U (eB U (hk3 _ U))))
  refine qL 10 [] U ?_
  refine lp2 permits (λi w=>[(4,.slice w.2.1 w.1.length w.2.2.1),(5,.bool (((permits.length:Int)==1)&&(nthI permits 0))),(55,I (permits.length:Int)),(56,I (i:Int))]) (λ_=>h) (λw=>w.2.2.2) (λi w=>du zC 3 h w.1 w.2.1 w.2.2.1 w.2.2.2/\w.1.length<=0+i) (λs2 i w=>(aV.L2 (aV.K2 permits)) s2 i w.1) ([],none,0,[]) hpermits.1.1 hs15 ⟨du.nil,lo⟩ ?_ ?_
  .rintro i2 ⟨Gz,OU,OT,Qy⟩ yP hs17 ⟨J9,OS⟩ e
   try dsimp only at J9 OS
   refine qT 8 U (fx xH ([]) Qy ([]) ap hM J9 (λh6 hle6 sl6=>?_))
   have hs18:aV mode permits=(Gz,(((permits.length:Int)==1)&&(nthI permits 0)),0):=hs17
   exact nretH [.slice OU Gz.length OT,.bool (((permits.length:Int)==1)&&(nthI permits 0)),I 0] (hs18▸⟨OU,OT,U,sl6⟩)
  rintro i2 ⟨Gz,OU,OT,Qy⟩ y2 rz2 hd2 vq qU Dc J3 hs19 ⟨J9,OS⟩ hx2 ag2 e
  try dsimp only at J9 OS
  exact sr (tO vq U (qO 14 U (aA (bE (cells:=[I (i2:Int)]) ec ty3 zc3 U U kr (λb6=>aA (dE TN ([(b6,O [I (i2:Int)] 3)]) ([]) (λG=>[(b6,O [I (i2:Int)] 3)]++G) ap (λ_=>ap) ec ty3 zc3 U bytes3 J9 U U (e8 0 U (cE (i2:Int) U U)) lo lo (λob4 oc4 G4 gr4=>qO 4 U (oi i2 U (qO 2 U (bo (L':=G4) js (ag2 ((Gz++[(i2:Int)]),ob4,oc4,G4) hs19 ⟨gr4,lo⟩)))))))))))
 refine qK 9 [] U ?_
 refine lp2 permits (λi w=>[(4,.slice w.2.1 w.1.length w.2.2.1),(5,.bool false),(55,I (permits.length:Int)),(56,I (i:Int))]) (λ_=>h) (λw=>w.2.2.2) (λi w=>du zC 3 h w.1 w.2.1 w.2.2.1 w.2.2.2/\w.1.length<=0+i) (λs3 i w=>(aV.L3 (aV.K3)) s3 i w.1) ([],none,0,[]) hpermits.1.1 hs16 ⟨du.nil,lo⟩ ?_ ?_
 .rintro i3 ⟨Gy,OQ,OP,Qx⟩ Gx hs20 ⟨J6,OO⟩ e
  try dsimp only at J6 OO
  refine qT 8 U (fx xH ([]) Qx ([]) ap hM J6 (λh8 hle8 sl8=>?_))
  have hs21:aV mode permits=(Gy,false,0):=hs20
  exact nretH [.slice OQ Gy.length OP,.bool false,I 0] (hs21▸⟨OQ,OP,U,sl8⟩)
 rintro i3 ⟨Gy,OQ,OP,Qx⟩ y3 rz3 hd3 Cr Dd Db P4 hs22 ⟨J6,OO⟩ hx3 ag3 e
 try dsimp only at J6 OO
 exact sr (tO Cr U (qO 14 U (aA (bE (cells:=[I (i3:Int)]) ec ty3 zc3 U U kr (λb8=>aA (dE TN ([(b8,O [I (i3:Int)] 3)]) ([]) (λG=>[(b8,O [I (i3:Int)] 3)]++G) ap (λ_=>ap) ec ty3 zc3 U bytes3 J6 U U (e8 0 U (cE (i3:Int) U U)) lo lo (λob6 oc6 G6 gr6=>qO 4 U (oi i3 U (qO 2 U (bo (L':=G6) js (ag3 ((Gy++[(i3:Int)]),ob6,oc6,G6) hs22 ⟨gr6,lo⟩)))))))))))
theorem zu(h:HF)(mode:Int)(permits:List Bool)(oF:Option Addr)(oE:Nat)(hpermits:SlC S2 h oF oE permits)(hsz0:permits.length<=2000000):Ret prog 26 [I mode,.slice oF permits.length oE] h (.tuple #[.bool ((iL mode permits).1),I ((iL mode permits).2)]):=by
 refine sT func26 U ntmps26 U λX hM hX hF=>?_
 have hs0:=@rfl _ (iL mode permits)
 refine qT 9 U (aA (cR call98 (zq _ mode _ _ _ hpermits ob) U (λv1 h1 hle1 hp1=>?_)))
 obtain⟨rb1,rc1,rfl,sl1⟩:=hp1
 refine qO 14 U ?_
 have hs1:iL mode permits=((aV mode permits).2.1,(aV mode permits).2.2):=hs0
 exact nretP [.bool ((aV mode permits).2.1),I ((aV mode permits).2.2)] (hs1▸U)
theorem DM(h:HF)(u:List Use)(rO:Option Addr)(rN:Nat)(hu:SlC Ux h rO rN u):Ret prog 99 [.slice rO u.length rN] h (.bool (gF u)):=by
 refine sT func99 U ntmps99 U λX hM hX hF=>?_
 have hs0:=@rfl _ (gF u)
 refine qT 6 U (aA (nw (λb1=>qL 9 [] U ?_)))
 refine lp2 u (λi w=>[(3,.map (some b1)),(7,.slice rO u.length rN),(8,I (u.length:Int)),(9,I (i:Int))]) (λ_=>h) (λw=>[(b1,w.2)]) (λi w=>i9 (zD .i64) n0 h w.2 w.1/\w.1.length<=0+i) (λs1 i w=>(gF.L1 (gF.K1)) s1 w.1) ([],.map #[] 0) hu.1.1 hs0 ⟨(i9.nil (enc:=(zD .i64)) (V:=n0) (h:=h)),lc⟩ ?_ ?_
 .rintro i1 ⟨bu,gZ⟩ fm hs1 ⟨fF,nq⟩ e
  exact sr (an (nretP [.bool true] (cs hs1)))
 rintro i1 ⟨bu,gZ⟩ y1 rz1 hd1 df aS ek gu hs3 ⟨fF,nq⟩ hx1 ag1 e
 refine sr (tO df U (qO 8 U (aA (iF Sy uy ty111 hu.1 aS U U U (λq2 A2=>dt ty111 A2 U U (aT zc111 (λb4=>aO 0 ty111 U U U U U U (qL 7 [0] U (aA (oO 1 (k:=y1.Doc) IP (fA mH) U fF (eX zv4) (show n0 _ (.bool false) false from U) U U (λv2 hv2=>?_)))))))))))
 obtain rfl:=hv2
 refine av (bT 6 [17,18,19,20,21,22,23] 17 23 (!(aN 0 4095 ([y1.Doc]))) U (λc1 hk1=>?_) (λe=>?_))
 .refine qL 2 [0] U (aA (bE (cells:=[I y1.Doc]) ec ty3 zc3 U U kr (λb5=>aQ 0 U hM (λh2 hle2 hb2=>?_))))
  have sl2:SlC zC h2 (some ⟨b5,0,none⟩) 1 ([y1.Doc]):=bz.slB0 (T:=3) (fz:=(0,0)) ((show bz zC h [I y1.Doc] ([y1.Doc])from⟨[I y1.Doc],[],rfl,rfl,rfl,rfl⟩).mono xH hle2) hb2
  exact ai wq (dH _ 0 4095 _ _ _ sl2) U (qO 2 U (kg (h:=h) hle2 hX lf (hk1 _ U)))
 refine av (bT 6 [24,25,26,27,28,29,30] 24 30 (!(aN 0 15 ([y1.Kind]))) U (λc2 hk2=>?_) (λe=>?_))
 .refine qL 2 [0] U (aA (bE (cells:=[I y1.Kind]) ec ty3 zc3 U U kr (λb6=>aQ 0 U hM (λh3 hle3 hb3=>?_))))
  have sl3:SlC zC h3 (some ⟨b6,0,none⟩) 1 ([y1.Kind]):=bz.slB0 (T:=3) (fz:=(0,0)) ((show bz zC h [I y1.Kind] ([y1.Kind])from⟨[I y1.Kind],[],rfl,rfl,rfl,rfl⟩).mono xH hle3) hb3
  exact ai wq (dH _ 0 15 _ _ _ sl3) U (qO 2 U (kg (h:=h) hle3 hX lf (hk2 _ U)))
 refine av (bT 6 [31,32,33,34,35,36,37] 31 37 (!(aN 0 1099511627776 ([y1.Value]))) U (λc3 hk3=>?_) (λe=>?_))
 .refine qL 2 [0] U (aA (bE (cells:=[I y1.Value]) ec ty3 zc3 U U kr (λb7=>aQ 0 U hM (λh4 hle4 hb4=>?_))))
  have sl4:SlC zC h4 (some ⟨b7,0,none⟩) 1 ([y1.Value]):=bz.slB0 (T:=3) (fz:=(0,0)) ((show bz zC h [I y1.Value] ([y1.Value])from⟨[I y1.Value],[],rfl,rfl,rfl,rfl⟩).mono xH hle4) hb4
  exact ai wq (dH _ 0 1099511627776 _ _ _ sl4) U (qO 2 U (kg (h:=h) hle4 hX lf (hk3 _ U)))
 refine av (bT 8 [38,39,40,41,42,43,44,45,46] 38 46 (!(aN 0 1099511627775 ([y1.At,y1.Known]))) U (λc4 hk4=>?_) (λe=>?_))
 .refine qL 4 [0,0] U (aA (bE (cells:=[I y1.At,I y1.Known]) ec ty3 zc3 U U kr (λb8=>aQ 0 U hM (λh5 hle5 hb5=>?_))))
  have sl5:SlC zC h5 (some ⟨b8,0,none⟩) 2 ([y1.At,y1.Known]):=bz.slB0 (T:=3) (fz:=(0,0)) ((show bz zC h [I y1.At,I y1.Known] ([y1.At,y1.Known])from⟨[I y1.At],[I y1.Known],rfl,rfl,rfl,⟨[I y1.Known],[],rfl,rfl,rfl,rfl⟩⟩).mono xH hle5) hb5
  exact ai wq (dH _ 0 1099511627775 _ _ _ sl5) U (qO 2 U (kg (h:=h) hle5 hX lf (hk4 _ U)))
 refine aF (ae hs3 U (λc5 hs4=>?_) (λc5 hs5=>?_))
 .exact sr (an (nretP [.bool false] (cs hs4)))
 exact qK 5 [0] U (aA (j3 1 (k:=y1.Doc) (x:=true) IP (fA mH) U fF U U U (λmo1 hm1=>qO 3 U (oi i1 U (qO 2 U (bo (L':=[(b1,mo1)]) js (ag1 ((mput bu y1.Doc true),mo1) hs5 ⟨hm1,(by have:=mj bu y1.Doc true;first|omega|(simp only[vB,xA]at *;omega))⟩)))))))
theorem yR(h:HF)(l:List Budget)(ep:Option Addr)(eo:Nat)(kind:Int)(ba:Int)(known:Int)(hl:SlC Sj h ep eo l)(hsz0:l.length<=2000000):ju prog 101 [.slice ep l.length eo,I kind,I ba,I known] h (λv h'=>∃(rb0:Option Addr)(rc0:Nat),v=.slice rb0 (bS l kind ba known).length rc0/\SlC Sj h' rb0 rc0 (bS l kind ba known)):=by
 refine sT func101 U ntmps101 U λX hM hX hF=>?_
 have hs0:=@rfl _ (bS l kind ba known)
 refine qT 6 U (aA (nw (λb1=>qL 9 [] U ?_)))
 refine lp2 l (λi w=>[(0,.slice ep l.length eo),(1,I kind),(2,I ba),(3,I known),(8,.slice none 0 0),(9,.map (some b1)),(18,.slice ep l.length eo),(19,I (l.length:Int)),(20,I (i:Int))]) (λ_=>h) (λw=>[(b1,w.2)]) (λi w=>i9 gH.enc (iP Sj) h w.2 w.1/\w.1.length<=0+i) (λs1 i w=>(bS.L1 kind ba known (bS.K1 l)) s1 w.1) ([],.map #[] 0) hl.1.1 hs0 ⟨(i9.nil (enc:=gH.enc) (V:=(iP Sj)) (h:=h)),lc⟩ ?_ ?_
 .rintro i1 ⟨bu,gZ⟩ fm hs1 ⟨fF,nq⟩ e
  try dsimp only at fF nq
  refine qK 7 [] U ?_
  refine lp2 l (λi w=>[(8,.slice w.2.1 w.1.length w.2.2.1),(9,.map (some b1)),(69,.slice ep l.length eo),(70,I (l.length:Int)),(71,I (i:Int))]) (λ_=>h) (λw=>[(b1,gZ)]++(w.2.2.2)) (λi w=>du Sj 101 h w.1 w.2.1 w.2.2.1 w.2.2.2/\w.1.length<=0+i) (λs2 i w=>(bS.L2 bu (bS.K2)) s2 w.1) ([],none,0,[]) hl.1.1 hs1 ⟨du.nil,lo⟩ ?_ ?_
  .rintro i2 ⟨kW,oH,oG,nK⟩ yP hs2 ⟨pj,Fu⟩ e
   try dsimp only at pj Fu
   refine qT 5 U (fx TI ([(b1,gZ)]) nK ([]) ap hM pj (λh1 hle1 sl1=>?_))
   have hs3:bS l kind ba known=kW:=hs2
   exact nretH [.slice oH kW.length oG] ⟨oH,oG,congrArg (λr:List Budget=>(.slice oH r.length oG:Value)) hs3.symm,(by rw[hs3];exact sl1)⟩
  rintro i2 ⟨kW,oH,oG,nK⟩ y2 rz2 hd2 vq qU Dc J3 hs4 ⟨pj,Fu⟩ hx2 ag1 e
  try dsimp only at pj Fu
  refine sr (tO vq U (qO 8 U (aA (iF kK uv ty101 hl.1 qU U U U (λq3 A3=>dt ty101 A3 U U (aT zc101 (λb4=>aO 0 ty101 U U U U U U (im (L':=[(b4,O (kK y2) 101),(b1,gZ)]++(nK)) U (qO 2 U ?_)))))))))
  refine oa [(8,.slice oH kW.length oG),(9,.map (some b1)),(16,Q b4),(69,.slice ep l.length eo),(70,I (l.length:Int)),(71,I (i2:Int)),(88,.bool ((!y2.Gone)&&(decide ((mgetD bu (gH.mk y2.Kind y2.Period) (S7 0 0 0 0 0 0 0 false))=y2))))] (λe=>?_) (λhk1=>?_)
  rotate_left
  .let z2:Nat×Obj:=(b4,O (kK y2) 101)
   refine er ([z2,(b1,gZ)]) mixed kr jn (λdY _=>?_)
   refine qB [0] U (tf 1 U U (rj 0 ty4 U U U) (qA [2,3] U ?_))
   refine dh 78 U (λc1=>?_) (λc1=>?_)
   .refine qB [4,5] U (tf 6 U U (rj 0 ty3 U U U) (qB [7] U (tf 8 U U (rj 0 ty3 U U U) (tf 11 U U (λ_ _ hj=>jg ty101 U (hj.nth (i:=0) U) U) (tn 9 U (fI (cells:=[I y2.Kind,I y2.Period]) (places:=[(0,1),(1,1)]) LP zc267 kr kr (⟨jn,tn 10 U (oO 1 (k:=(gH.mk y2.Kind y2.Period)) underlying265 xm U fF (eX zv101) (show(iP Sj) _ (.agg (kB [I 0,I 0,I 0,I 0,I 0,I 0,I 0,.bool false])) (S7 0 0 0 0 0 0 0 false)from⟨_,U,U⟩) U U (λv2 hv2=>?_))⟩)))))))
    obtain⟨_,rfl,rfl⟩:=hv2
    exact⟨jn,(tf 12 U U (λ_ _ _=>L5 (Lq (mgetD bu (gH.mk y2.Kind y2.Period) (S7 0 0 0 0 0 0 0 false)) y2) eqg101 U U) (qA [13] U (aJ kr (hk1 _ ⟨U,U,U,U,U,U,(cb (show(decide ((mgetD bu (gH.mk y2.Kind y2.Period) (S7 0 0 0 0 0 0 0 false))=y2))=((!y2.Gone)&&(decide ((mgetD bu (gH.mk y2.Kind y2.Period) (S7 0 0 0 0 0 0 0 false))=y2)))from by rw[c1]<;>rfl)),trivial⟩))))⟩
   exact tk 4 U U (qR 5 9 U (aJ kr (hk1 _ ⟨U,U,U,U,U,U,(cb (show false=((!y2.Gone)&&(decide ((mgetD bu (gH.mk y2.Kind y2.Period) (S7 0 0 0 0 0 0 0 false))=y2)))from by rw[c1]<;>rfl)),trivial⟩)))
  refine ae hs4 U (λc2 hs5=>?_) (λc2 hs6=>?_)
  .refine qT 2 U (cM 0 ty101 U U U (aA (bE (cells:=[I y2.No,I y2.At,I y2.Known,I y2.Kind,I y2.Period,I y2.Count,I y2.Value,.bool y2.Gone]) uv ty101 zc101 U U kr (λb5=>?_))))
   let z1:Nat×Obj:=(b5,O [I y2.No,I y2.At,I y2.Known,I y2.Kind,I y2.Period,I y2.Count,I y2.Value,.bool y2.Gone] 101)
   exact aA (dE Budget.ew ([z1,(b4,O (kK y2) 101),(b1,gZ)]) ([]) (λG=>[z1,(b4,O (kK y2) 101),(b1,gZ)]++G) ap (λ_=>ap) uv ty101 zc101 U bytes101 pj U U (e8 0 U (cE y2 U U)) lo lo (λob1 oc1 G1 gr1=>qO 4 U (oi i2 U (qO 2 U (bo (L':=[(b1,gZ)]++G1) js (ag1 ((kW++[y2]),ob1,oc1,G1) hs5 ⟨gr1,lo⟩))))))
  exact aI (qT 2 U (oi i2 U (qO 2 U (bo (L':=[(b1,gZ)]++(nK)) js (ag1 (kW,oH,oG,nK) hs6 ⟨pj,lo⟩)))))
 rintro i1 ⟨bu,gZ⟩ y1 rz1 hd1 df aS ek gu hs7 ⟨fF,nq⟩ hx1 ag2 e
 try dsimp only at fF nq
 refine sr (tO df U (qO 8 U (aA (iF kK uv ty101 hl.1 aS U U U (λq4 A4=>dt ty101 A4 U U (aT zc101 (λb6=>aO 0 ty101 U U U U U U (qL 9 [0] U (bT 5 [28,29,30,31,32,33] 28 33 (decide (known<y1.Known)) U (λc3 hk2=>?_) (λe=>?_))))))))))
 .exact qL 5 [0] U (hk2 _ U)
 refine av (bT 10 [34,35,36,37,38,39,40,41,42,43,44] 34 44 ((y1.Kind != (-1))&&(y1.Kind != kind)) U (λc4 hk3=>?_) (λe=>?_))
 .refine qL 4 [0] U (bp 5 [38,39,40,41,42,43] 38 43 (y1.Kind != kind) U (λc5 hk4=>?_) (λe=>?_))
  .exact qL 5 [0] U (hk4 _ U)
  exact eB U (hk3 _ U)
 refine aF (ae hs7 U (λc6 hs8=>?_) (λc6 hs9=>?_))
 .exact lK U (bC (oi i1 U (qO 2 U (bo (L':=[(b1,gZ)]) js (ag2 (bu,gZ) hs8 ⟨fF,lc⟩)))))
 refine qK 7 [0,0] U (aA (fI (cells:=[I y1.Kind,I y1.Period]) (places:=[(0,1),(1,1)]) LP zc267 kr kr (aT zc267 (λb7=>aO 0 ty267 U U U U U U (qO 4 U (cM 0 ty267 U U U (aA (lu 2 (k:=(gH.mk y1.Kind y1.Period)) underlying265 xm U fF (eX zv101) (show(iP Sj) _ (.agg (kB [I 0,I 0,I 0,I 0,I 0,I 0,I 0,.bool false])) (S7 0 0 0 0 0 0 0 false)from⟨_,U,U⟩) U U (λv3 hv3=>?_)))))))))
 obtain⟨_,rfl,rfl⟩:=hv3
 refine qO 3 U (aT zc101 (λb8=>aO 0 ty101 U U U U U U (qO 7 U (bT 6 [58,59,60,61,62,63,64] 58 64 (decide ((mgetD bu (gH.mk y1.Kind y1.Period) (S7 0 0 0 0 0 0 0 false)).At<=y1.At)) U (λc7 hk5=>?_) (λe=>?_)))))
 .exact qL 6 [0,2] U (hk5 _ U)
 refine aF (ae hs9 U (λc8 hs10=>?_) (λc8 hs11=>?_))
 .exact bC (av (cM 1 ty267 U U U (cM 2 ty101 U U U (aA (j3 3 (k:=(gH.mk y1.Kind y1.Period)) (x:=y1) underlying265 xm U fF U U ⟨_,U,U⟩ (λmo1 hm1=>qO 3 U (oi i1 U (qO 2 U (bo (L':=[(b1,mo1)]) js (ag2 ((mput bu (gH.mk y1.Kind y1.Period) y1),mo1) hs10 ⟨hm1,(by have:=mj bu (gH.mk y1.Kind y1.Period) y1;first|omega|(simp only[vB,xA]at *;omega))⟩))))))))))
 exact aI (qT 2 U (oi i1 U (qO 2 U (bo (L':=[(b1,gZ)]) js (ag2 (bu,gZ) hs11 ⟨fF,lc⟩)))))
theorem BJ(h:HF)(u:List Use)(rO:Option Addr)(rN:Nat)(u_q:Addr)(known:Int)(known_q:Addr)(bg:Budget)(bg_q:Addr)(at_:Int)(at__q:Addr)(hu:SlC Ux h rO rN u)(au:At h u_q [.slice rO u.length rN])(aknown:At h known_q [I known])(abg:At h bg_q (kK bg))(aat_:At h at__q [I at_])(hbp:bg.Period≠0):Itr prog (.func (.func 195) #[] (kB [.pointer (some u_q),.pointer (some known_q),.pointer (some bg_q),.pointer (some at__q)])) yw (ck u known bg at_) h:=by
 refine sR call195 ?_
 intro yf ya yb C Sp Pn h1 A hle m1 m2 m3 hC hy
 refine jb AA U ntmps195 U λX hXM hX=>?_
 have hs0:ck u known bg at_=[]++ck u known bg at_:=rfl
 refine sr (dj ty32 (au.mono hle) U (qL 3 [] U ?_))
 refine lp2 u (λi w=>[(0,.func yf ya yb),(2,.pointer (some known_q)),(3,.pointer (some bg_q)),(4,.pointer (some at__q)),(8,.slice rO u.length rN),(9,I (u.length:Int)),(10,I (i:Int))]) (λw=>w.2.2) (λw=>w.2.1) (λi w=>C w.1 w.2.2 w.2.1/\xN h1 w.2.2) (λs1 i w=>w.1++(ck.L1 known bg at_ (ck.K1)) s1) ([],A,h1) ((hu.mono Use.aj hle).1.1) hs0 ⟨hC,lf⟩ ?_ ?_
 .rintro i1 ⟨dn1,A1_,hh1⟩ fm hs1 ⟨hC1_,hl1⟩ e
  refine ef ?_
  have hs2:ck u known bg at_=dn1:=hs1.trans (List.append_nil _)
  exact sS [] (A:=A1_) AA U (List.Sublist.refl _) (.inl (hs2▸hC1_))
 rintro i1 ⟨dn1,A1_,hh1⟩ y1 rz1 hd1 df aS ek gu hs3 ⟨hC1_,hl1⟩ hx1 ag1 e
 refine sr (tO df U (qO 8 U (aA (iF Sy uy ty111 (hu.mono Use.aj (hle.t hl1)).1 aS U U U (λq2 A2=>dt ty111 A2 U U (aT zc111 (λb2=>aO 0 ty111 U U U U U U (im (L':=[(b2,O (Sy y1) 111)]++(A1_)) U (qO 2 U ?_)))))))))
 let z1:Nat×Obj:=(b2,O (Sy y1) 111)
 refine er ([z1]) mixed kr jn (λdY _=>?_)
 refine qB [0] U (tf 1 U U (rj 0 ty3 U U U) (tf 2 U U (rh ty3 (aknown.mono (hle.t hl1)) U) (qA [3,4] U ?_)))
 refine dh 18 U (λc1=>?_) (λc1=>?_)
 .have c1p:=of_decide_eq_true c1
  refine qB [5] U (tf 6 U U (rH 3 ty3 (abg.mono (hle.t hl1)) U U) (qA [7,8] U ?_))
  refine dh 22 U (λc2=>?_) (λc2=>?_)
  .refine qD 9 9 U (tf 18 U U (rj 0 ty3 U U U) (qB [19] U (tf 20 U U (rH 4 ty3 (abg.mono (hle.t hl1)) U U) (tf 21 U U (λ_ _ _=>CT U U ob) (tf 22 U U (rh ty3 (aat_.mono (hle.t hl1)) U) (qB [23] U (tf 24 U U (rH 4 ty3 (abg.mono (hle.t hl1)) U U) (tf 25 U U (λ_ _ _=>CT U U ob) (qA [26] U (tf 27 U U (λ_ _ _=>nC U (cb (show((jC .i64 (y1.At.tdiv bg.Period))==(jC .i64 (at_.tdiv bg.Period)))=((decide (y1.Known<=known)&&((bg.Kind==(-1))||(bg.Kind==y1.Kind)))&&((jC .i64 (y1.At.tdiv bg.Period))==(jC .i64 (at_.tdiv bg.Period))))from by first|(rw[c1];rw[c2];rfl)|(rw[c2];rfl)|simp[c1,c2]))) (tm 28 U ?_)))))))))))
   refine dh 42 U (λc3=>?_) (λc3=>?_)
   .have ct1:=c3
    have hs4:=hs3.trans (congrArg (dn1++·) (bt ct1))
    refine qB [29,30] U (tf 31 U U (rj 0 ty3 U U U) ?_)
    have hx1:ck u known bg at_=dn1++(y1.Value::(ck.L1 known bg at_ (ck.K1) rz1)):=hs4
    refine tn 32 U (kp ([z1]) A1_ ap (hy dn1 y1.Value _ _ _ _ hx1 hl1 hC1_ U) U U (λh2 A3 hle1 hC1=>?_) (λh3 A4 hle2 hS1=>?_) (λch1 h4 A5 hle3 hP1 e=>gy (mP [] (A:=A5) AA (List.sublist_append_right _ _) hP1)))
    .have hs5:ck u known bg at_=(dn1++[y1.Value])++((ck.L1 known bg at_ (ck.K1) rz1)):=hx1.trans ap
     exact⟨⟨hle1,λ_ hp=>List.Sublist.subset js hp⟩,nH (K2:=[z1]) hle1 (λ_ hp=>hp) (qA [33,34] U (aJ kr (qT 4 U (oi i1 U (qO 2 U (bo (L':=A3) js (ag1 ((dn1++[y1.Value]),A3,h2) hs5 ⟨hC1,(hl1.t hle1)⟩)))))))⟩
    exact⟨⟨hle2,λ_ hp=>List.Sublist.subset js hp⟩,nH (K2:=[z1]) hle2 (λ_ hp=>hp) (qA [33,34] U (aJ kr (ls U (ef (mE [] (A:=A4) AA U js (.inr hS1))))))⟩
   have ct2:=c3
   have hs6:=hs3.trans (congrArg (dn1++·) (bf ct2))
   exact tk 29 U U (qR 30 5 U (aJ kr (qT 4 U (oi i1 U (qO 2 U (bo (L':=A1_) js (ag1 (dn1,A1_,hh1) hs6 ⟨hC1_,hl1⟩)))))))
  refine qB [9] U (tf 10 U U (rH 3 ty3 (abg.mono (hle.t hl1)) U U) (qB [11] U (tf 12 U U (rj 0 ty3 U U U) (qR 13 4 U ?_))))
  refine dh 30 U (λc4=>?_) (λc4=>?_)
  .refine qB [17] U (tf 18 U U (rj 0 ty3 U U U) (qB [19] U (tf 20 U U (rH 4 ty3 (abg.mono (hle.t hl1)) U U) (tf 21 U U (λ_ _ _=>CT U U ob) (tf 22 U U (rh ty3 (aat_.mono (hle.t hl1)) U) (qB [23] U (tf 24 U U (rH 4 ty3 (abg.mono (hle.t hl1)) U U) (tf 25 U U (λ_ _ _=>CT U U ob) (qA [26] U (tf 27 U U (λ_ _ _=>nC U (cb (show((jC .i64 (y1.At.tdiv bg.Period))==(jC .i64 (at_.tdiv bg.Period)))=((decide (y1.Known<=known)&&((bg.Kind==(-1))||(bg.Kind==y1.Kind)))&&((jC .i64 (y1.At.tdiv bg.Period))==(jC .i64 (at_.tdiv bg.Period))))from by first|(rw[c1];rw[c2];rw[c4];rfl)|(rw[c4];rfl)|simp[c1,c2,c4]))) (tm 28 U ?_)))))))))))
   refine dh 42 U (λc5=>?_) (λc5=>?_)
   .have ct3:=c5
    have hs7:=hs3.trans (congrArg (dn1++·) (bt ct3))
    refine qB [29,30] U (tf 31 U U (rj 0 ty3 U U U) ?_)
    have hx2:ck u known bg at_=dn1++(y1.Value::(ck.L1 known bg at_ (ck.K1) rz1)):=hs7
    refine tn 32 U (kp ([z1]) A1_ ap (hy dn1 y1.Value _ _ _ _ hx2 hl1 hC1_ U) U U (λh5 A6 hle4 hC2=>?_) (λh6 A7 hle5 hS2=>?_) (λch2 h7 A8 hle6 hP2 e=>gy (mP [] (A:=A8) AA (List.sublist_append_right _ _) hP2)))
    .have hs8:ck u known bg at_=(dn1++[y1.Value])++((ck.L1 known bg at_ (ck.K1) rz1)):=hx2.trans ap
     exact⟨⟨hle4,λ_ hp=>List.Sublist.subset js hp⟩,nH (K2:=[z1]) hle4 (λ_ hp=>hp) (qA [33,34] U (aJ kr (qT 4 U (oi i1 U (qO 2 U (bo (L':=A6) js (ag1 ((dn1++[y1.Value]),A6,h5) hs8 ⟨hC2,(hl1.t hle4)⟩)))))))⟩
    exact⟨⟨hle5,λ_ hp=>List.Sublist.subset js hp⟩,nH (K2:=[z1]) hle5 (λ_ hp=>hp) (qA [33,34] U (aJ kr (ls U (ef (mE [] (A:=A7) AA U js (.inr hS2))))))⟩
   have ct4:=c5
   have hs9:=hs3.trans (congrArg (dn1++·) (bf ct4))
   exact tk 29 U U (qR 30 5 U (aJ kr (qT 4 U (oi i1 U (qO 2 U (bo (L':=A1_) js (ag1 (dn1,A1_,hh1) hs9 ⟨hC1_,hl1⟩)))))))
  refine qR 17 10 U (tf 27 U U (λ_ _ _=>nC U (cb (show false=((decide (y1.Known<=known)&&((bg.Kind==(-1))||(bg.Kind==y1.Kind)))&&((jC .i64 (y1.At.tdiv bg.Period))==(jC .i64 (at_.tdiv bg.Period))))from by first|(rw[c1];rw[c2];rw[c4];rfl)|(rw[c4];rfl)|simp[c1,c2,c4]))) (tm 28 U ?_))
  refine dh 42 U (λc6=>?_) (λc6=>?_)
  .have ct5:=c6
   have hs10:=hs3.trans (congrArg (dn1++·) (bt ct5))
   refine qB [29,30] U (tf 31 U U (rj 0 ty3 U U U) ?_)
   have hx3:ck u known bg at_=dn1++(y1.Value::(ck.L1 known bg at_ (ck.K1) rz1)):=hs10
   refine tn 32 U (kp ([z1]) A1_ ap (hy dn1 y1.Value _ _ _ _ hx3 hl1 hC1_ U) U U (λh8 A9 hle7 hC3=>?_) (λh9 A10 hle8 hS3=>?_) (λch3 h10 A11 hle9 hP3 e=>gy (mP [] (A:=A11) AA (List.sublist_append_right _ _) hP3)))
   .have hs11:ck u known bg at_=(dn1++[y1.Value])++((ck.L1 known bg at_ (ck.K1) rz1)):=hx3.trans ap
    exact⟨⟨hle7,λ_ hp=>List.Sublist.subset js hp⟩,nH (K2:=[z1]) hle7 (λ_ hp=>hp) (qA [33,34] U (aJ kr (qT 4 U (oi i1 U (qO 2 U (bo (L':=A9) js (ag1 ((dn1++[y1.Value]),A9,h8) hs11 ⟨hC3,(hl1.t hle7)⟩)))))))⟩
   exact⟨⟨hle8,λ_ hp=>List.Sublist.subset js hp⟩,nH (K2:=[z1]) hle8 (λ_ hp=>hp) (qA [33,34] U (aJ kr (ls U (ef (mE [] (A:=A10) AA U js (.inr hS3))))))⟩
  have ct6:=c6
  have hs12:=hs3.trans (congrArg (dn1++·) (bf ct6))
  exact tk 29 U U (qR 30 5 U (aJ kr (qT 4 U (oi i1 U (qO 2 U (bo (L':=A1_) js (ag1 (dn1,A1_,hh1) hs12 ⟨hC1_,hl1⟩)))))))
 have c1p:=of_decide_eq_false c1
 refine qR 5 22 U (tf 27 U U (λ_ _ _=>nC U (cb (show false=((decide (y1.Known<=known)&&((bg.Kind==(-1))||(bg.Kind==y1.Kind)))&&((jC .i64 (y1.At.tdiv bg.Period))==(jC .i64 (at_.tdiv bg.Period))))from by first|(rw[c1];rfl)|(rw[c1];rfl)|simp[c1]))) (tm 28 U ?_))
 refine dh 42 U (λc7=>?_) (λc7=>?_)
 .have ct7:=c7
  have hs13:=hs3.trans (congrArg (dn1++·) (bt ct7))
  refine qB [29,30] U (tf 31 U U (rj 0 ty3 U U U) ?_)
  have hx4:ck u known bg at_=dn1++(y1.Value::(ck.L1 known bg at_ (ck.K1) rz1)):=hs13
  refine tn 32 U (kp ([z1]) A1_ ap (hy dn1 y1.Value _ _ _ _ hx4 hl1 hC1_ U) U U (λh11 A12 hle10 hC4=>?_) (λh12 A13 hle11 hS4=>?_) (λch4 h13 A14 hle12 hP4 e=>gy (mP [] (A:=A14) AA (List.sublist_append_right _ _) hP4)))
  .have hs14:ck u known bg at_=(dn1++[y1.Value])++((ck.L1 known bg at_ (ck.K1) rz1)):=hx4.trans ap
   exact⟨⟨hle10,λ_ hp=>List.Sublist.subset js hp⟩,nH (K2:=[z1]) hle10 (λ_ hp=>hp) (qA [33,34] U (aJ kr (qT 4 U (oi i1 U (qO 2 U (bo (L':=A12) js (ag1 ((dn1++[y1.Value]),A12,h11) hs14 ⟨hC4,(hl1.t hle10)⟩)))))))⟩
  exact⟨⟨hle11,λ_ hp=>List.Sublist.subset js hp⟩,nH (K2:=[z1]) hle11 (λ_ hp=>hp) (qA [33,34] U (aJ kr (ls U (ef (mE [] (A:=A13) AA U js (.inr hS4))))))⟩
 have ct8:=c7
 have hs15:=hs3.trans (congrArg (dn1++·) (bf ct8))
 exact tk 29 U U (qR 30 5 U (aJ kr (qT 4 U (oi i1 U (qO 2 U (bo (L':=A1_) js (ag1 (dn1,A1_,hh1) hs15 ⟨hC1_,hl1⟩)))))))
theorem DN(h:HF)(FZ:Budget)(u:List Use)(rO:Option Addr)(rN:Nat)(ba:Int)(known:Int)(hu:SlC Ux h rO rN u)(hbp:FZ.Period≠0):ju prog 102 [.agg (kK FZ).toArray,.slice rO u.length rN,I ba,I known] h (λv h'=>∃(rv0:Value),v=rv0/\Itr prog rv0 yw (px FZ u ba known) h'):=by
 refine sT func102 U ntmps102 U λX hM hX hF=>?_
 have hs0:=@rfl _ (px FZ u ba known)
 refine sr (cv (λb1=>cv (λb2=>cv (λb3=>cv (λb4=>qO 4 U (aQ 2 U hM (λh1 hle1 hb1=>aQ 0 U hM (λh2 hle2 hb2=>aQ 1 U hM (λh3 hle3 hb3=>aQ 0 U hM (λh4 hle4 hb4=>aA (eA U U (an ?_))))))))))))
 have hs1:px FZ u ba known=(ck u known FZ ba):=hs0
 exact nretH [.func (.func 195) #[] #[Q b2,Q b4,Q b1,Q b3]] (hs1▸⟨(.func (.func 195) #[] #[Q b2,Q b4,Q b1,Q b3]),U,(BJ h4 u rO rN ⟨b2,0,none⟩ known ⟨b4,0,none⟩ FZ ⟨b1,0,none⟩ ba ⟨b3,0,none⟩ (hu.mono Use.aj (((hle1.t hle2).t hle3).t hle4)) ((cx hb1).mono ((hle2.t hle3).t hle4)) ((cx hb2).mono (hle3.t hle4)) ((cx hb3).mono hle4) (cx hb4) ob)⟩)
theorem wl(h:HF)(l:List Budget)(ep:Option Addr)(eo:Nat)(u:List Use)(rO:Option Addr)(rN:Nat)(kind:Int)(value:Int)(cD:Int)(known:Int)(hl:SlC Sj h ep eo l)(hu:SlC Ux h rO rN u)(hsz:l.length<=2000000):Ret prog 27 [.slice ep l.length eo,.slice rO u.length rN,I kind,I value,I cD,I known] h (.tuple #[I ((bM l u kind value cD known).1),.bool ((bM l u kind value cD known).2.1),I ((bM l u kind value cD known).2.2)]):=by
 refine cB D7 U ntmps27 U λX hM hX=>?_
 have hs0:=@rfl _ (bM l u kind value cD known)
 refine qT 10 U (ai call68 (uP _ _ _ _ hl) U (qO 7 U (ae hs0 U (λc1 hs1=>?_) (λc1 hs2=>?_))))
 .refine qT 7 U ?_
  have hs3:bM l u kind value cD known=(0,false,(cu l)):=hs1
  exact tx [I 0,.bool false,I (cu l)] D7 U hX rd (congrArg (λr:(Int×Bool×Int)=>(.tuple #[I r.1,.bool r.2.1,I r.2.2]:Value)) hs3.symm)
 refine qK 8 [] U (ae hs2 U (λc2 hs4=>?_) (λc2 hs5=>?_))
 .have c2p:=of_decide_eq_true c2
  refine qT 6 U ?_
  have hs6:bM l u kind value cD known=(0,false,2):=hs4
  exact tx [I 0,.bool false,I 2] D7 U hX rd (congrArg (λr:(Int×Bool×Int)=>(.tuple #[I r.1,.bool r.2.1,I r.2.2]:Value)) hs6.symm)
 have c2p:=of_decide_eq_false c2
 refine qT 5 U (ai call99 (DM _ _ _ _ hu) U (qO 2 U (ae hs5 U (λc3 hs7=>?_) (λc3 hs8=>?_))))
 .refine qT 6 U ?_
  have hs9:bM l u kind value cD known=(0,false,180):=hs7
  exact tx [I 0,.bool false,I 180] D7 U hX rd (congrArg (λr:(Int×Bool×Int)=>(.tuple #[I r.1,.bool r.2.1,I r.2.2]:Value)) hs9.symm)
 refine qT 5 U (aA (bE (cells:=[I kind]) ec ty3 zc3 U U kr (λb1=>aQ 0 U hM (λh1 hle1 hb1=>?_))))
 have sl1:SlC zC h1 (some ⟨b1,0,none⟩) 1 ([kind]):=bz.slB0 (T:=3) (fz:=(0,0)) ((show bz zC h [I kind] ([kind])from⟨[I kind],[],rfl,rfl,rfl,rfl⟩).mono xH hle1) hb1
 refine ai wq (dH _ 0 15 _ _ _ sl1) U (qO 2 U (bT 5 [36,37,38,39,40,41] 36 41 (!(aN 0 1099511627776 ([value]))) U (λc4 hk1=>?_) (λe=>?_)))
 .refine av (aA (bE (cells:=[I value]) ec ty3 zc3 U U kr (λb2=>aQ 0 U hM (λh2 hle2 hb2=>?_))))
  have sl2:SlC zC h2 (some ⟨b2,0,none⟩) 1 ([value]):=bz.slB0 (T:=3) (fz:=(0,0)) ((show bz zC h1 [I value] ([value])from⟨[I value],[],rfl,rfl,rfl,rfl⟩).mono xH hle2) hb2
  exact ai wq (dH _ 0 1099511627776 _ _ _ sl2) U (qO 2 U (kg (h:=h1) hle2 hX hle1 (hk1 _ U)))
 refine av (bT 6 [42,43,44,45,46,47,48] 42 48 (!(aN 0 1099511627775 ([cD,known]))) U (λc5 hk2=>?_) (λe=>?_))
 .refine qO 2 U (aA (bE (cells:=[I cD,I known]) ec ty3 zc3 U U kr (λb3=>aQ 0 U hM (λh3 hle3 hb3=>?_))))
  have sl3:SlC zC h3 (some ⟨b3,0,none⟩) 2 ([cD,known]):=bz.slB0 (T:=3) (fz:=(0,0)) ((show bz zC h1 [I cD,I known] ([cD,known])from⟨[I cD],[I known],rfl,rfl,rfl,⟨[I known],[],rfl,rfl,rfl,rfl⟩⟩).mono xH hle3) hb3
  exact ai wq (dH _ 0 1099511627775 _ _ _ sl3) U (qO 2 U (kg (h:=h1) hle3 hX hle1 (hk2 _ U)))
 refine aF (ae hs8 U (λc6 hs10=>?_) (λc6 hs11=>?_))
 .refine qT 6 U ?_
  have hs12:bM l u kind value cD known=(0,false,1):=hs10
  exact tx [I 0,.bool false,I 1] D7 U hX rd (congrArg (λr:(Int×Bool×Int)=>(.tuple #[I r.1,.bool r.2.1,I r.2.2]:Value)) hs12.symm)
 refine qT 8 U (aA (cR call101 (yR _ _ _ _ kind cD known (hl.mono TI hle1) ob) U (λv1 h4 hle4 hp1=>?_)))
 obtain⟨rb1,rc1,rfl,sl4⟩:=hp1
 refine qL 3 [] U (ef (cg (L':=markB []) ap ?_))
 refine sC (ι:=Nat×List Nat×HF) (λi=>[]) (λi=>marks i.2.1) (λi=>i.2.2) (λi=>markB i.2.1) (λi=>i.1<=(bS l kind cD known).length/\bM l u kind value cD known=((bM.K1))/\xN h4 i.2.2) ?_ (λhx1=>?_)
 .rintro⟨i1,rs1,hh1⟩ ⟨fm,hs13,hl1⟩ e
  refine qT 6 U ?_
  have hs14:bM l u kind value cD known=((-1),true,0):=hs13
  exact cg (L':=([])++markB rs1) ap (sA rs1 [I (-1),.bool true,I 0] D7 U hX rd (congrArg (λr:(Int×Bool×Int)=>(.tuple #[I r.1,.bool r.2.1,I r.2.2]:Value)) hs14.symm))
 refine wN (ι:=Nat×List Nat×HF×List Budget) (λi=>[(1,.slice rO u.length rN),(3,I value),(4,I cD),(5,I known),(53,.slice rb1 ((bS l kind cD known).length) rc1),(54,I ((bS l kind cD known).length:Int)),(55,I (i.1:Int))]) (λi=>marks i.2.1) (λi=>i.2.2.1) (λi=>markB i.2.1) (λi=>(bS l kind cD known).drop i.1=i.2.2.2/\i.1<=(bS l kind cD known).length/\bM l u kind value cD known=((bM.L1 u value cD known (bM.K1)) i.2.2.2)/\xN h4 i.2.2.1) (λi=>i.2.2.2.length) (0,[],h4,(bS l kind cD known)) U rd sw ⟨U,qM _,hs11,lf⟩ ?_
 rintro⟨i1,rs1,hh1,s1⟩ ⟨hd1,fm,hs15,hl1⟩ ag1 e
 rcases s1 with _|⟨y1,rz1⟩
 .have fS:=mR hd1
  exact sr (fO fS U (qO 4 U (hx1 (i1,rs1,hh1) _ ⟨fm,hs15,hl1⟩ trivial)))
 have df:=s8 hd1
 have aS:=rE hd1
 have ek:=hY hd1
 have gu:=sl4.1.1
 refine sr (tO df U (qO 8 U (aA (iF kK uv ty101 (sl4.mono TI hl1).1 aS U U U (λq2 A2=>dt ty101 A2 U U (aT zc101 (λb7=>aO 0 ty101 U U U U U U (qO 4 U (aT zc3 (λb8=>aT zc3 (λb9=>cJ 1 ty3 U U U U U U (cJ 0 ty3 U U U U U U (qO 4 U (cM 2 ty101 U U U (qO 3 U (aA (cR call102 (DN _ y1 _ _ _ cD known (hu.mono Use.aj ((hle1.t hle4).t hl1)) (Jh (by simpa using c1) (fN hd1))) U (λv3 h6 hle6 hp3=>?_))))))))))))))))))
 obtain⟨_,rfl,mo2⟩:=hp3
 refine qO 2 U ?_
 let z1:Nat×Obj:=(b7,O (kK y1) 101)
 refine cg (L':=([(b9,O [I value] 3),(b8,O [I 1] 3),z1])++markB rs1) ap ?_
 refine jw (it:=v3) (xs:=(px y1 u cD known)) (ι:=Int×Int×HF) rs1 (λi=>i.2.2) (λi=>[(b9,O [I i.1] 3),(b8,O [I i.2.1] 3),z1]) (λs i=>bM l u kind value cD known=((bM.L3 (λzg3_b9_0 zg3_b8_0=>(bif(decide (y1.Count<zg3_b8_0)||decide (y1.Value<zg3_b9_0))then(y1.No,false,0)else(bM.L1 u value cD known (bM.K1) rz1)))) s i.1 i.2.1)/\xN h6 i.2.2) (λ_=>False) (λ_=>False) 0 (λ_ _ _=>False) (value,1,h6) D7 U mo2 U C3 (λ_ _ _ _ _ hq=>hq) U (show[(b9,O [I value] 3),(b8,O [I 1] 3),z1]=_ from U) ⟨hs15,lf⟩ ?_ ?_ ?_ ?_ ?_
 .rintro l3 dm3 lp3 y3 rz3 vs3 ⟨vr,yy,hh3⟩ hr3 X hFR3 ⟨hs17,hl3⟩ hl03 hlr3 hv3 hX hXM hlp3 nx3 rt3 ex3 pn3
  obtain rfl:=hv3
  exact cg (L':=[(l3,.loop lp3),(dm3,.deferred (some [])),(b9,O [I vr] 3),(b8,O [I yy] 3),z1]++(markB rs1)) ap (qT 3 U (ji 0 U hlp3 (qK 5 [3] U (cJ 3 ty3 U U U U U U (qL 5 [2] U (cJ 2 ty3 U U U U U U (qO 2 U (cg (L':=rdH l3 dm3 lp3 (([(b9,O [I (jC .i64 (vr+y3))] 3),(b8,O [I (jC .i64 (yy+1))] 3),z1])++markB rs1)) ap (nx3 ((jC .i64 (vr+y3)),(jC .i64 (yy+1)),hr3) _ _ ⟨hs17,(hl3.t hlr3)⟩ lf)))))))))
 .rintro dm3 ⟨vr,yy,hh3⟩ hn3 ⟨hs18,hl3⟩ hln3 hl03
  refine cg (L':=[(b9,O [I vr] 3),(b8,O [I yy] 3),z1]++(markB (dm3::rs1))) ap (qK 8 [1,2] U (bT 5 [75,76,77,78,79,80] 75 80 (decide (y1.Value<vr)) U (λc7 hk3=>?_) (λe=>?_)))
  .exact qL 5 [0,2] U (hk3 _ U)
  refine aF (ae hs18 U (λc8 hs19=>?_) (λc8 hs20=>?_))
  .refine qK 8 [2] U ?_
   have hs21:bM l u kind value cD known=(y1.No,false,0):=hs19
   exact cg (L':=([(b9,O [I vr] 3),(b8,O [I yy] 3),z1])++markB (dm3::rs1)) ap (sA (dm3::rs1) [I y1.No,.bool false,I 0] D7 U hX rd (congrArg (λr:(Int×Bool×Int)=>(.tuple #[I r.1,.bool r.2.1,I r.2.2]:Value)) hs21.symm))
  exact aI (qT 2 U (oi i1 U (qO 2 U (bo (L':=markB (dm3::rs1)) js (ag1 ((i1+1),(dm3::rs1),hn3,rz1) _ (Nat.lt_succ_self _) ⟨kw hd1,hY hd1,hs20,(((hl1.t hle6).t hl3).t hln3)⟩ rd)))))
 .exact xf
 .exact xf
 exact xf
theorem uM(h:HF)(t:Int)  : Ret prog 214 [I t] h (.bool (ig t)):=by
 refine sT func214 U ntmps214 U λX hM hX hF=>?_
 have hs0:=@rfl _ (ig t)
 refine qT 9 U (bp 4 [5,6,7,8,9] 5 9 (!(fM t)) U (λc1 hk1=>?_) (λe=>?_))
 .exact av (ai NK (m4 h t) U (qO 2 U (hk1 _ U)))
 exact an (nretP [.bool ((t != (-1))&&(!(fM t)))] (cs hs0))
theorem pK(h:HF)(l:List Document)(ep:Option Addr)(eo:Nat)(signed:List Int)(cd:Option Addr)(bZ:Nat)(hl:SlC kR h ep eo l)(hsigned:SlC zC h cd bZ signed):Ret prog 124 [.slice ep l.length eo,.slice cd signed.length bZ] h (.bool (cj l signed)):=by
 refine sT func124 U ntmps124 U λX hM hX hF=>?_
 have hs0:=@rfl _ (cj l signed)
 refine qK 16 [] U (bp 5 [11,12,13,14,15,16] 11 16 (!(cH signed ig)) U (λc1 hk1=>?_) (λe=>?_))
 .exact av (av (ai IT (gV _ _ _ _ ig (.func (.func 214) #[] #[]) hsigned (λh' dC hle=>iq call214 (uM h' dC))) U (qO 2 U (hk1 _ U))))
 exact an (nretP [.bool (((signed.length:Int)==(l.length:Int))&&(!(cH signed ig)))] (cs hs0))
theorem AH(h:HF)(x:List Int)(QF:Option Addr)(Qp:Nat)(hx:SlC zC h QF Qp x)(hne:0<x.length):Ret prog 217 [.slice QF x.length Qp] h (I (gd x)):=by
 refine sT func217 U ntmps217 U λX hM hX hF=>?_
 have hs0:=@rfl _ (gd x)
 refine qK 11 [] U (j0 U (λc1=>?_) (λc1=>?_))
 .exact absurd c1 (by simp only[decide_eq_true_eq,Bool.not_eq_true,decide_eq_false_iff_not];omega)
 have c1p:=of_decide_eq_false c1
 refine qT 4 U ?_
 have ho1:0<=(0:Int)/\(0:Int)<((x).length:Int):=ob
 refine aA (oP (enc:=λy=>[I y]) ei ec ty3 hx.1 ho1 (cV ho1) U U U (λq1 A1=>dj ty3 A1 U (qO 7 U ?_)))
 refine ir (ι:=Nat×Int) (λi=>[(3,I i.2)]) (λi=>h) (λi=>[]) (λi=>i.1<=x.length/\gd x=((gd.K1) i.2)) ?_ (λhx1=>?_)
 .rintro⟨i1,iu⟩ ⟨fm,hs1⟩ e
  exact sr (qO 3 U (nretP [I iu] (ci hs1)))
 refine jZ (ι:=Nat×Int×List Int) (λi=>[(0,.slice QF x.length Qp),(3,I i.2.1),(4,I (i.1:Int))]) (λi=>h) (λi=>[]) (λi=>x.drop i.1=i.2.2/\i.1<=x.length/\gd x=((gd.L1 (gd.K1)) i.2.2 i.2.1)) (λi=>i.2.2.length) (1,(nthI x 0),(x.drop 1)) rd sw ⟨U,ob,hs0⟩ ?_
 rintro⟨i1,iu,s1⟩ ⟨hd1,fm,hs3⟩ ag1 e
 rcases s1 with _|⟨y1,rz1⟩
 .have fS:=mR hd1
  exact qK 6 [] U (fO fS U (qO 3 U (hx1 (i1,iu) _ ⟨fm,hs3⟩ rd)))
 have df:=s8 hd1
 have aS:=rE hd1
 have ek:=hY hd1
 have gu:=hx.1.1
 exact qK 6 [] U (tO df U (qO 9 U (aA (iF (λy=>[I y]) ec ty3 hx.1 aS U U U (λq3 A3=>dj ty3 A3 U (aA (eT (Qu U U) (qO 5 U (oi i1 U (an (ag1 ((i1+1),(min iu y1),rz1) _ (Nat.lt_succ_self _) ⟨kw hd1,hY hd1,hs3⟩ rd)))))))))))
theorem mp(h:HF)(p:ft)(gM:tg)(p_q:Addr)(nO:Int)(ba:Int)(hp:ft.ok h p gM)(ap_z:At h p_q (ft.cells p gM))(hi:0<=nO/\nO<(p.shelf.docs.length:Int))(hlen:p.done.length=p.shelf.docs.length/\p.lacks.length=p.shelf.docs.length):Ret prog 127 [.pointer (some p_q),I nO,I ba] h (.tuple #[I ((cL p nO ba).1),I ((cL p nO ba).2)]):=by
 refine sT func127 U ntmps127 U λX hM hX hF=>?_
 have hs0:=@rfl _ (cL p nO ba)
 refine qT 8 U (aA (eT (fL U) (qL 2 [] U (dj ty27 ap_z U (av ?_)))))
 have ho1:0<=(nO:Int)/\(nO:Int)<((p.shelf.docs).length:Int):=ob
 refine aA (uk nP ty51 hp.shelf.docs.1 ho1 (cV ho1) U U U (λ_ _ _ e=>e) (λq1 r1 A1 ok1=>dt ty51 A1 U U (aT zc51 (λb1=>aO 0 ty51 U U U U U U (qO 6 U (aA (eT (fL U) (qL 1 [] U (iZ (j:=3) ty57 ap_z U U (av ?_))))))))))
 have ho2:0<=(nO:Int)/\(nO:Int)<((p.done).length:Int):=ob
 refine aA (oP (enc:=λy=>[.bool y]) ei uw ty4 hp.done.1 ho2 (cV ho2) U U U (λq2 A2=>dj ty4 A2 U (qO 3 U (ae hs0 U (λc1 hs1=>?_) (λc1 hs2=>?_)))))
 .refine qT 5 U ?_
  have hs3:cL p nO ba=(1,(-1)):=hs1
  exact nretP [I 1,I (-1)] (hs3▸U)
 refine qT 3 U (aA (eT (fL U) (qL 1 [] U (iZ (j:=4) ty31 ap_z U U (av ?_)))))
 have ho3:0<=(nO:Int)/\(nO:Int)<((p.lacks).length:Int):=ob
 refine aA (oP (enc:=λy=>[I y]) ei ec ty3 hp.lacks.1 ho3 (cV ho3) U U U (λq3 A3=>dj ty3 A3 U (qO 3 U (ae hs2 U (λc2 hs4=>?_) (λc2 hs5=>?_)))))
 .have c2p:=of_decide_eq_true c2
  refine dK (er ([(b1,O (zT (nthI p.shelf.docs nO) r1) 51)]) mixed kr jn (λdY _=>tm 0 U (tf 1 U U (λ_ _ _=>fL U) (qB [2] U (tf 3 U U (rH 4 ty31 ap_z U U) (tm 4 U ?_))))))
  have ho4:0<=(nO:Int)/\(nO:Int)<((p.lacks).length:Int):=ob
  refine eJ 5 (enc:=λy=>[I y]) dY jn ei ec ty3 hp.lacks.1 ho4 (cV ho4) U U U U kr (λq4 A4=>tf 6 U U (rh ty3 A4 U) (qA [7,8] U (aJ kr ?_)))
  have hs6:cL p nO ba=(4,(nthI p.lacks nO)):=hs4
  exact nretP [I 4,I (nthI p.lacks nO)] (hs6▸U)
 have c2p:=of_decide_eq_false c2
 refine dK ?_
 let z1:Nat×Obj:=(b1,O (zT (nthI p.shelf.docs nO) r1) 51)
 refine er ([z1]) mixed kr jn (λmt _=>?_)
 refine tm 0 U (tf 1 U U (λ_ _ _=>fL U) (qB [2] U (tf 3 U U (rH 5 ty236 ap_z U U) (qB [4] U (tf 5 U U (rj 0 ty3 U U U) (tn 6 U ?_))))))
 obtain⟨o1,hb1,hm1⟩:=hp.revoked
 refine ny (k:=(nthI p.shelf.docs nO).No) IK (fA mH) hb1 hm1 (eX zv31) (show(VSl zC) _ (.slice none 0 0) []from⟨none,0,U,kE⟩) U U (λv1 hv1=>?_)
 obtain⟨rb1,rc1,rfl,sl1⟩:=hv1
 refine⟨jn,(tf 7 U U (λ_ _ _=>Jn ec U) (qA [8,9] U (aJ kr (ae hs5 U (λc3 hs7=>?_) (λc3 hs8=>?_)))))⟩
 .have c3p:=of_decide_eq_true c3
  refine dK (er ([z1]) mixed kr jn (λJZ _=>tm 0 U (tf 1 U U (λ_ _ _=>fL U) (qB [2] U (tf 3 U U (rH 5 ty236 ap_z U U) (qB [4] U (tf 5 U U (rj 0 ty3 U U U) (tn 6 U ?_))))))))
  obtain⟨o2,hb2,hm2⟩:=hp.revoked
  refine ny (k:=(nthI p.shelf.docs nO).No) IK (fA mH) hb2 hm2 (eX zv31) (show(VSl zC) _ (.slice none 0 0) []from⟨none,0,U,kE⟩) U U (λv2 hv2=>?_)
  obtain⟨rb2,rc2,rfl,sl2⟩:=hv2
  refine⟨jn,(tn 7 U (eZ call217 (AH _ _ _ _ sl2 ob) U (⟨jn,(qA [8,9] U (aJ kr ?_))⟩)))⟩
  have hs9:cL p nO ba=(5,(gd (mgetD p.revoked ((nthI p.shelf.docs nO).No) []))):=hs7
  exact nretP [I 5,I (gd (mgetD p.revoked ((nthI p.shelf.docs nO).No) []))] (hs9▸U)
 have c3p:=of_decide_eq_false c3
 refine qK 8 [0] U (ae hs8 U (λc4 hs10=>?_) (λc4 hs11=>?_))
 .have c4p:=of_decide_eq_true c4
  refine qT 5 U ?_
  have hs12:cL p nO ba=(2,(-1)):=hs10
  exact nretP [I 2,I (-1)] (hs12▸U)
 have c4p:=of_decide_eq_false c4
 refine qK 8 [0] U (ae hs11 U (λc5 hs13=>?_) (λc5 hs14=>?_))
 .have c5p:=of_decide_eq_true c5
  refine qT 5 U ?_
  have hs15:cL p nO ba=(3,(-1)):=hs13
  exact nretP [I 3,I (-1)] (hs15▸U)
 have c5p:=of_decide_eq_false c5
 refine qT 7 U ?_
 have hs16:cL p nO ba=(0,(-1)):=hs14
 exact nretP [I 0,I (-1)] (hs16▸U)
theorem yx(cmp:Int->Int->Int):∀(j:Nat)(xs:List Int),(insIn cmp j xs).length=xs.length
 |0,xs=>rfl
 |j+1,xs=>by
  simp only[insIn,Bool.cond_eq_ite]
  split
  .rw[yx cmp j];simp
  rfl
theorem Cn(cmp:Int->Int->Int):∀(j:Nat)(xs:List Int),j<xs.length->∀x∈insIn cmp j xs,x∈xs
 |0,xs,_,x,hx=>hx
 |j+1,xs,hj,x,hx=>by
  simp only[insIn,Bool.cond_eq_ite]at hx
  split at hx
  .have h1:=Cn cmp j _ (by simp;omega) x hx
   rcases List.mem_or_eq_of_mem_set h1 with h1|rfl
   .rcases List.mem_or_eq_of_mem_set h1 with h1|rfl
    .exact h1
    simp[List.getD_eq_getElem?_getD,show j<xs.length by omega]
   simp[List.getD_eq_getElem?_getD,show j+1<xs.length by omega]
  exact hx
theorem Fd(cmp:Int->Int->Int):∀(m i:Nat)(xs:List Int),(insOut cmp m i xs).length=xs.length
 |0,_,_=>rfl
 |m+1,i,xs=>by simp only[insOut];rw[Fd cmp m,yx]
theorem Em(xs:List Int)(cmp:Int->Int->Int):(fu xs cmp).length=xs.length:=Fd _ _ _ _
theorem AG(j:Nat)(hj:j<9223372036854775807):zD .i64 (IntKind.i64.wrap (((j+1:Nat):Int)-1))=I (j:Int):=by
 rw[jh ob];congr 1;omega
theorem od(h:HF)(xs:List Int)(b:Option Addr)(c:Nat)(G:LH)(cmp:Int->Int->Int)(cmp_v:Value)(hG:du zC 3 h xs b c G)(hcmp:∀(h':HF)(dC BP:Int),xN h h'->dC∈xs->BP∈xs->tv prog cmp_v [I dC,I BP] h' [] (I (cmp dC BP)))(hsz:xs.length<=2000000):
  nu prog 364 [.slice b xs.length c,I 0,I (xs.length:Int),cmp_v].toArray h G (λr h' G'=>h'=h/\r=.returned (.tuple #[])/\du zC 3 h (fu xs cmp) b c G'):=by
 refine cB func364 U ntmps364 U λX hM hX=>qT 3 U (io (v':=I ((1:Nat):Int)) U U (an ?_))
 refine ir (ι:=List Int×LH) (λi=>[]) (λi=>h) (λi=>i.2) (λi=>i.1=fu xs cmp/\du zC 3 h i.1 b c i.2) ?_ (λhx=>?_)
 .rintro⟨ys,G'⟩ ⟨hs,hG'⟩ e
  dsimp only at hs hG'
  exact wP func364 (λa _ w _=>mg U a w) (λw hw=>hw.lower) ⟨hX,U,hs▸hG'⟩
 refine jZ (ι:=Nat×List Int×LH) (λi=>[(0,.slice b xs.length c),(1,I 0),(2,I (xs.length:Int)),(3,cmp_v),(8,I (i.1:Int))]) (λi=>h) (λi=>i.2.2)
  (λi=>insOut cmp (xs.length-i.1) i.1 i.2.1=fu xs cmp/\1<=i.1/\i.2.1.length=xs.length/\(∀x∈i.2.1,x∈xs)/\du zC 3 h i.2.1 b c i.2.2) (λi=>xs.length-i.1) (1,xs,G) rd (λw hw=>hw) ⟨rfl,jG _,rfl,λ_ hx=>hx,hG⟩ ?_
 rintro⟨i,ys,G1⟩ ⟨hs,hi1,hyl,hym,hG1⟩ ag e
 dsimp only at hs hi1 hyl hym hG1
 rcases jL i xs.length with hi|hi
 .refine qT 5 U (tO (decide_eq_true ob) U (qO 10 U ?_))
  refine ir (ι:=List Int×LH) (λq=>[(0,.slice b xs.length c),(1,I 0),(2,I (xs.length:Int)),(3,cmp_v),(8,I (i:Int))]) (λq=>h) (λq=>q.2) (λq=>q.1=insIn cmp i ys/\du zC 3 h q.1 b c q.2) ?_ (λhy=>?_)
  .rintro⟨zs,G2⟩ ⟨hz,hG2⟩ e2
   dsimp only at hz hG2
   subst hz
   refine qT 3 U (oi i U (an (ag (i+1,insIn cmp i ys,G2) _ (by show xs.length-(i+1)<xs.length-i;omega) ⟨?_,by show 1<=i+1;omega,by show(insIn cmp i ys).length=xs.length;rw[yx];exact hyl,λx hx=>hym x (Cn cmp i ys ob x hx),hG2⟩ rd)))
   show insOut cmp (xs.length-(i+1)) (i+1) (insIn cmp i ys)=_
   rw[←hs,show xs.length-i=(xs.length-(i+1))+1 from by omega];rfl
  refine jZ (ι:=Nat×List Int×LH) (λq=>[(0,.slice b xs.length c),(1,I 0),(2,I (xs.length:Int)),(3,cmp_v),(8,I (i:Int)),(9,I (q.1:Int))]) (λq=>h) (λq=>q.2.2)
   (λq=>insIn cmp q.1 q.2.1=insIn cmp i ys/\q.1<=i/\q.2.1.length=xs.length/\(∀x∈q.2.1,x∈xs)/\du zC 3 h q.2.1 b c q.2.2) (λq=>q.1) (i,ys,G1) rd (λw hw=>hw) ⟨rfl,jG _,hyl,hym,hG1⟩ ?_
  rintro⟨j,zs,G2⟩ ⟨hz,hji,hzl,hzm,hG2⟩ ag2 e2
  dsimp only at hz hji hzl hzm hG2
  have J0:∀{L:LH},Jst h [] h L:=Bh (List.nil_sublist _)
  obtain⟨bk,hbk⟩:=hG2.yA ob
  have JG:Jst h G2 h G2:=Bh (List.Sublist.refl _)
  refine qT 2 U (er G2 mixed kr JG (λhsep _=>gz 0 hsep JG U U kr U (λ_ _ _=>ja) (gz 1 hsep JG U U kr U (λ_ _ _=>ja) ?_)))
  rcases j with _|j
  .exact gz 2 hsep JG U U kr U (λ_ _ _=>ng (v':=.bool false) U (cb (decide_eq_false ob))) (gz 3 hsep JG U U kr U (λ_ _ _=>ja) (mv 4 hsep JG U U kr U (mv 5 hsep JG U U kr U (mv 6 hsep JG U U kr U (mv 7 hsep JG U U kr U (mv 8 hsep JG U U kr U (mv 9 hsep JG U U kr U (mv 10 hsep JG U U kr U (mv 11 hsep JG U U kr U (mv 12 hsep JG U U kr U (mv 13 hsep JG U U kr U (mv 14 hsep JG U U kr U (mv 15 hsep JG U U kr U (gz 16 hsep JG U U kr U (λ_ _ _=>K7 U) (aJ kr (qT 2 U (hy (zs,G2) _ ⟨hz,hG2⟩ rd)))))))))))))))))
  have hj1:zs[j+1]? = some (zs.getD (j+1) 0):=by simp[List.getD_eq_getElem?_getD,show j+1<zs.length by omega]
  have hj0:zs[j]? = some (zs.getD j 0):=by simp[List.getD_eq_getElem?_getD,show j<zs.length by omega]
  have hjn:(((j+1:Nat):Int)).toNat=j+1:=by omega
  have hjn0:((j:Int)).toNat=j:=by omega
  refine gz 2 hsep JG U U kr U (λ_ _ _=>ng (v':=.bool true) U (cb (decide_eq_true ob))) (gz 3 hsep JG U U kr U (λ_ _ _=>ja) (gz 4 hsep JG U U kr U (λ_ _ _=>ja) (gz 5 hsep JG U U kr U (λ_ _ _=>ja) (gz 6 hsep JG U U kr U (λ_ _ _=>ja) (gz 7 hsep JG U U kr U (λ_ _ _=>oq (R:=zC) (xs:=zs) (z:=((j+1:Nat):Int)) ec ty3 hbk ob U hzl.symm U) (gz 8 hsep JG U U kr U (λ_ _ hj=>ES (R:=zC) (off:=0) (i:=j+1) ty3 hG2 hbk hj1 (λcs_z hcs=>by rw[show cs_z=[I (zs.getD (j+1) 0)]from hcs];rfl) (by rfl) (λp hp=>hj.2 p hp)) (gz 9 hsep JG U U kr U (λ_ _ _=>ja) (gz 10 hsep JG U U kr U (λ_ _ _=>ja) (gz 11 hsep JG U U kr U (λ_ _ _=>ng (v':=I (j:Int)) U (AG j ob)) (gz 12 hsep JG U U kr U (λ_ _ _=>oq (R:=zC) (xs:=zs) (z:=(j:Int)) ec ty3 hbk ob U hzl.symm U) (gz 13 hsep JG U U kr U (λ_ _ hj=>ES (R:=zC) (off:=0) (i:=j) ty3 hG2 hbk hj0 (λcs_z hcs=>by rw[show cs_z=[I (zs.getD j 0)]from hcs];rfl) (by rfl) (λp hp=>hj.2 p hp)) (tn 14 U (lA (v:=I (cmp (zs.getD (j+1) 0) (zs.getD j 0))) [] (List.nil_sublist _) (hcmp h (zs.getD (j+1) 0) (zs.getD j 0) lf (hzm _ (zE hj1)) (hzm _ (zE hj0))) U U ⟨JG,gz 15 hsep JG U U kr U (λ_ _ _=>Jo U) (gz 16 hsep JG U U kr U (λ_ _ _=>K7 U) (aJ kr (j0 U (λhc=>aI ?_) (λhc=>?_))))⟩)))))))))))))
  .refine qT 2 U (er [] mixed kr J0 (λmt _=>gz 0 mt J0 U U kr U (λ_ _ _=>ja) (gz 1 mt J0 U U kr U (λ_ _ _=>ja) (gz 5 mt J0 U U kr U (λ_ _ _=>ja) (gz 6 mt J0 U U kr U (λ_ _ _=>ja) (gz 2 mt J0 U U kr U (λ_ _ _=>ja) (gz 3 mt J0 U U kr U (λ_ _ _=>ja) (gz 4 mt J0 U U kr U (λ_ _ _=>ng (v':=I (j:Int)) U (AG j ob)) (gz 7 mt J0 U U kr U (λ_ _ _=>ng (v':=I (j:Int)) U (AG j ob)) (gz 8 mt J0 U U kr U (λ_ _ _=>oq (R:=zC) (xs:=zs) (z:=(j:Int)) ec ty3 hbk ob U hzl.symm U) (gz 10 mt J0 U U kr U (λ_ _ _=>ja) (gz 11 mt J0 U U kr U (λ_ _ _=>ja) (gz 12 mt J0 U U kr U (λ_ _ _=>oq (R:=zC) (xs:=zs) (z:=((j+1:Nat):Int)) ec ty3 hbk ob U hzl.symm U) ?_)))))))))))))
   refine m6 9 13 kr U U
    (eT (ES (R:=zC) (off:=0) (i:=j) ty3 hG2 hbk hj0 (λcs_z hcs=>by rw[show cs_z=[I (zs.getD j 0)]from hcs];rfl) (by rfl) (λp hp=>hp)) ⟨J0,tn 13 rfl (eT (ES (R:=zC) (off:=0) (i:=j+1) ty3 hG2 hbk hj1 (λcs_z hcs=>by rw[show cs_z=[I (zs.getD (j+1) 0)]from hcs];rfl) (by rfl) (λp hp=>hp)) ⟨J0,?_⟩)⟩)
    (eT (ES (R:=zC) (off:=0) (i:=j+1) ty3 hG2 hbk hj1 (λcs_z hcs=>by rw[show cs_z=[I (zs.getD (j+1) 0)]from hcs];rfl) (by rfl) (λp hp=>hp)) ⟨J0,tn 9 rfl (eT (ES (R:=zC) (off:=0) (i:=j) ty3 hG2 hbk hj0 (λcs_z hcs=>by rw[show cs_z=[I (zs.getD j 0)]from hcs];rfl) (by rfl) (λp hp=>hp)) ⟨J0,?_⟩)⟩)
   all_goals
    refine gz 14 mt J0 U U kr U (λ_ _ _=>oq (R:=zC) (xs:=zs) (z:=((j+1:Nat):Int)) ec ty3 hbk ob U hzl.symm U) (tn 15 U (AO (R:=zC) (i:=j+1) (off:=0) (u:=zs.getD (j+1) 0) (u':=zs.getD j 0) (v:=I (zs.getD j 0)) [] G2 [] ty3 U hG2 (by simp) hbk hj1 (by decide) (λcs_z hcs=>by rw[show cs_z=[I (zs.getD (j+1) 0)]from hcs];rfl) (by rfl) U U (λG3 hG3=>⟨J0,?_⟩)))
    rw[xG,List.append_nil]
    refine gz 16 mt J0 U U kr U (λ_ _ _=>oq (R:=zC) (xs:=zs) (z:=(j:Int)) ec ty3 hbk ob U hzl.symm U) ?_
    have hj0':(zs.set (j+1) (zs.getD j 0))[j]? = some (zs.getD j 0):=by rw[List.getElem?_set_ne ob];exact hj0
    refine tn 17 U (AO (R:=zC) (i:=j) (off:=0) (u:=zs.getD j 0) (u':=zs.getD (j+1) 0) (v:=I (zs.getD (j+1) 0)) [] G3 [] ty3 U hG3 (by simp) hbk hj0' (by decide) (λcs_z hcs=>by rw[show cs_z=[I (zs.getD j 0)]from hcs];rfl) (by rfl) U U (λG4 hG4=>⟨J0,?_⟩))
    rw[xG,List.append_nil]
    refine aJ kr (qT 3 U (io (v':=I (j:Int)) U (AG j ob) (an (ag2 (j,(zs.set (j+1) (zs.getD j 0)).set j (zs.getD (j+1) 0),G4) _ (Nat.lt_succ_self _) ⟨?_,by show j<=i;omega,by show((zs.set (j+1) (zs.getD j 0)).set j (zs.getD (j+1) 0)).length=xs.length;simpa using hzl,λx hx=>(List.mem_or_eq_of_mem_set hx).elim (λhx=>(List.mem_or_eq_of_mem_set hx).elim (hzm x) (λhx=>hx▸hzm _ (zE hj0))) (λhx=>hx▸hzm _ (zE hj1)),hG4⟩ rd))))
    show insIn cmp j ((zs.set (j+1) (zs.getD j 0)).set j (zs.getD (j+1) 0))=insIn cmp i ys
    rw[←hz];simp only[insIn,hc,cond_true]
  refine lK U (hy (zs,G2) _ ⟨?_,hG2⟩ rd)
  show zs=insIn cmp i ys
  rw[←hz];simp only[insIn,hc,cond_false]
 refine qT 5 U (fO (decide_eq_false ob) U (qO 3 U (hx (ys,G1) _ ⟨?_,hG1⟩ trivial)))
 show ys=_
 rw[←hs,show xs.length-i=0 from by omega];rfl
theorem rQ(h:HF)(xs:List Int)(b:Option Addr)(c:Nat)(G:LH)(cmp:Int->Int->Int)(cmp_v:Value)(hG:du zC 3 h xs b c G)(hcmp:∀(h':HF)(dC BP:Int),xN h h'->dC∈xs->BP∈xs->tv prog cmp_v [I dC,I BP] h' [] (I (cmp dC BP)))(hsz:xs.length<20):
  nu prog 332 [.slice b xs.length c,I (xs.length:Int),cmp_v].toArray h G (λr h' G'=>h'=h/\r=.returned (.tuple #[])/\du zC 3 h (fu xs cmp) b c G'):=by
 refine cB func332 U ntmps332 U λX hM hX=>qT 12 U (Ee (qT 5 U (fO (decide_eq_false ob) U (qO 9 U (aA (m9 [] G [] call364 (od h xs b c G cmp cmp_v hG hcmp ob) (by simp) U (λG2 hG2=>?_)))))))
 rw[xG,List.append_nil]
 exact aF (me (Ee (qT 5 U (fO (decide_eq_false ob) U (qO 3 U (wP func332 (λa _ w _=>mg U a w) (λw hw=>hw.lower) ⟨hX,U,hG2⟩))))))
theorem ry(h:HF)(xs:List Int)(b:Option Addr)(c:Nat)(G:LH)(cmp:Int->Int->Int)(cmp_v:Value)(hG:du zC 3 h xs b c G)(hcmp:∀(h':HF)(dC BP:Int),xN h h'->dC∈xs->BP∈xs->tv prog cmp_v [I dC,I BP] h' [] (I (cmp dC BP)))(hsz:xs.length<20):
  nu prog 290 [.slice b xs.length c,cmp_v].toArray h G (λr h' G'=>h'=h/\r=.returned (.tuple #[])/\du zC 3 h (fu xs cmp) b c G'):=by
 refine cB func290 U ntmps290 U λX hM hX=>qK 5 [] U (aA (m9 [] G [] call332 (rQ h xs b c G cmp cmp_v hG hcmp hsz) (by simp) U (λG2 hG2=>?_)))
 rw[xG,List.append_nil]
 exact aF (wP func290 (λa _ w _=>mg U a w) (λw hw=>hw.lower) ⟨hX,U,hG2⟩)
theorem s9(h:HF)(x:Int)(y:Int)  : Ret prog 118 [I x,I y] h (I (cmp_Compare_int x y)):=by
 refine sT func118 U ntmps118 U λX hM hX hF=>?_
 have hs0:=@rfl _ (cmp_Compare_int x y)
 refine qT 7 U (ai call211 (uN h x) U (qO 5 U (ai call211 (uN h y) U (qO 7 U (ae hs0 U (λc1 hs1=>?_) (λc1 hs2=>?_))))))
 .refine qT 5 U (ae hs1 U (λc2 hs3=>?_) (λc2 hs4=>?_))
  .exact sr (an (nretP [I 0] (ci hs3)))
  exact aI (qT 4 U (nretP [I (-1)] (ci hs4)))
 refine qT 6 U (ae hs2 U (λc3 hs7=>?_) (λc3 hs8=>?_))
 .exact sr (an (nretP [I 1] (ci hs7)))
 refine qT 8 U (ae hs8 U (λc4 hs10=>?_) (λc4 hs11=>?_))
 .have c4p:=of_decide_eq_true c4
  exact sr (an (nretP [I (-1)] (ci hs10)))
 have c4p:=of_decide_eq_false c4
 refine qT 8 U (ae hs11 U (λc5 hs13=>?_) (λc5 hs14=>?_))
 .have c5p:=of_decide_eq_true c5
  exact sr (an (nretP [I 1] (ci hs13)))
 have c5p:=of_decide_eq_false c5
 exact aI (qT 4 U (nretP [I 0] (ci hs14)))
theorem rD(h:HF)(a:Int)(j6:Int)(p:pC)(gM:MG)(p_p:Addr)(p_q:Addr)(hp:pC.ok h p gM)(pp:At h p_p (pC.cells p gM))(ap_z:At h p_q [.pointer (some p_p)])(ha:0<=a/\a<(p.signed.length:Int))(hb:0<=j6/\j6<(p.signed.length:Int)):Ret prog 291 [I a,I j6,.pointer (some p_q)] h (I (iQ a j6 p)):=by
 refine sT func291 U ntmps291 U λX hM hX hF=>?_
 have hs0:=@rfl _ (iQ a j6 p)
 refine qT 5 U (er ([]) mixed kr jn (λdY _=>tf 0 U U (rh ty211 ap_z U) (tf 1 U U (λ_ _ _=>fL U) (qB [2] U (tf 3 U U (rH 2 ty31 pp U U) (tm 4 U ?_))))))
 have ho1:0<=(a:Int)/\(a:Int)<((p.signed).length:Int):=ob
 refine eJ 5 (enc:=λy=>[I y]) dY jn ei ec ty3 hp.signed.1 ho1 (cV ho1) U U U U kr (λq1 A1=>tf 6 U U (rh ty3 A1 U) (tf 7 U U (rh ty211 ap_z U) (tf 8 U U (λ_ _ _=>fL U) (qB [9] U (tf 10 U U (rH 2 ty31 pp U U) (tm 11 U ?_))))))
 have ho2:0<=(j6:Int)/\(j6:Int)<((p.signed).length:Int):=ob
 exact eJ 12 (enc:=λy=>[I y]) dY jn ei ec ty3 hp.signed.1 ho2 (cV ho2) U U U U kr (λq2 A2=>tf 13 U U (rh ty3 A2 U) (tn 14 U (eZ call118 (s9 h (nthI p.signed a) (nthI p.signed j6)) U (⟨jn,(qA [15] U (aJ kr (nretP [I (cmp_Compare_int (nthI p.signed a) (nthI p.signed j6))] (ci hs0))))⟩))))
theorem uZ(h:HF)(v0:List Int)(ud:Option Addr)(ua:Nat)(v0_q:Addr)(hv0:SlC zC h ud ua v0)(av0:At h v0_q [.slice ud v0.length ua]):Itr prog (.func (.func 333) #[] (kB [.pointer (some v0_q)])) yw (cU v0) h:=by
 refine sR call333 ?_
 intro yf ya yb C Sp Pn h1 A hle m1 m2 m3 hC hy
 refine jb Nz U ntmps333 U λX hXM hX=>?_
 have hs0:cU v0=[]++cU v0:=rfl
 refine sr (dj ty31 (av0.mono hle) U (qL 3 [] U ?_))
 refine lp2 v0 (λi w=>[(0,.func yf ya yb),(5,.slice ud v0.length ua),(6,I (v0.length:Int)),(7,I (i:Int))]) (λw=>w.2.2) (λw=>w.2.1) (λi w=>C w.1 w.2.2 w.2.1/\xN h1 w.2.2) (λs1 i w=>w.1++(cU.L1 (cU.K1)) s1) ([],A,h1) ((hv0.mono xH hle).1.1) hs0 ⟨hC,lf⟩ ?_ ?_
 .rintro i1 ⟨dn1,A1_,hh1⟩ fm hs1 ⟨hC1_,hl1⟩ e
  refine ef ?_
  have hs2:cU v0=dn1:=hs1.trans (List.append_nil _)
  exact sS [] (A:=A1_) Nz U (List.Sublist.refl _) (.inl (hs2▸hC1_))
 rintro i1 ⟨dn1,A1_,hh1⟩ y1 rz1 hd1 df aS ek gu hs3 ⟨hC1_,hl1⟩ hx1 ag1 e
 refine sr (tO df U (qO 8 U (aA (iF (λy=>[I y]) ec ty3 (hv0.mono xH (hle.t hl1)).1 aS U U U (λq2 A5=>dj ty3 A5 U (qO 6 U ?_))))))
 have hx2:cU v0=dn1++(y1::(cU.L1 (cU.K1) rz1)):=hs3
 refine aA (kp ([]) A1_ ap (hy dn1 y1 _ _ _ _ hx2 hl1 hC1_ U) U U (λh5 A6 hle4 hC2=>?_) (λh6 A7 hle5 hS2=>?_) (λch2 h7 A8 hle6 hP2 e=>gy (mP [] (A:=A8) Nz (List.sublist_append_right _ _) hP2)))
 .have hs4:cU v0=(dn1++[y1])++((cU.L1 (cU.K1) rz1)):=hx2.trans ap
  exact mU U (qO 5 U (oi i1 U (qO 2 U (ag1 ((dn1++[y1]),A6,h5) hs4 ⟨hC2,(hl1.t hle4)⟩))))
 exact mU U (qO 2 U (ef (mE [] (A:=A7) Nz U (List.Sublist.refl _) (.inr hS2))))
theorem wT(h:HF)(s:List Int)(sI:Option Addr)(sH:Nat)(hs:SlC zC h sI sH s):ju prog 292 [.slice sI s.length sH] h (λv h'=>∃(rv0:Value),v=rv0/\Itr prog rv0 yw (km s) h'):=by
 refine sT func292 U ntmps292 U λX hM hX hF=>?_
 have hs0:=@rfl _ (km s)
 refine sr (cv (λb1=>qO 4 U (aQ 0 U hM (λh1 hle1 hb1=>aA (eA U U (an ?_))))))
 have hs1:km s=(cU s):=hs0
 exact nretH [.func (.func 333) #[] #[Q b1]] (hs1▸⟨(.func (.func 333) #[] #[Q b1]),U,(uZ h1 s sI sH ⟨b1,0,none⟩ (hs.mono xH hle1) (cx hb1))⟩)
theorem s7(h:HF)(p:pC)(gM:MG)(p_q:Addr)(il:Int)(hp:pC.ok h p gM)(ap_z:At h p_q (pC.cells p gM))(hsg:p.signed.length<20):ju prog 215 [.pointer (some p_q),I il] h (λv h'=>∃(rv0:Value),v=rv0/\Itr prog rv0 yw (bP p il) h'):=by
 refine sT func215 U ntmps215 U λX hM hX hF=>?_
 have hs0:=@rfl _ (bP p il)
 refine sr (cv (λb1=>qL 10 [0] U (aA (eT (fL U) (qL 1 [] U (iZ (j:=2) ty31 ap_z U U (qL 3 [] U ?_)))))))
 let z1:Nat×Obj:=(b1,O [.pointer (some p_q)] 211)
 refine lp2 p.signed (λi w=>[(1,I il),(2,Q b1),(5,.slice w.2.1 w.1.length w.2.2.1),(11,.slice gM.cd p.signed.length gM.bZ),(12,I (p.signed.length:Int)),(13,I (i:Int))]) (λ_=>h) (λw=>[z1]++(w.2.2.2)) (λi w=>du zC 3 h w.1 w.2.1 w.2.2.1 w.2.2.2/\w.1.length<=0+i/\(∀x∈w.1,0<=x/\x<(p.signed.length:Int))) (λs1 i w=>(bP.L1 il (bP.K1 p)) s1 i w.1) ([],none,0,[]) hp.signed.1.1 hs0 ⟨du.nil,lo,(λx hx=>(kA hx).elim)⟩ ?_ ?_
 .rintro i1 ⟨eO,wj,wi,Ml⟩ fm hs1 ⟨rg,FB,u1_0⟩ e
  try dsimp only at rg FB u1_0
  refine qT 3 U (aQ 0 U hM (λh1 hle1 hb1=>aA (eA U U (aA (m9 ([]) Ml ([]) call290 (ry h1 eO wj wi Ml (λdC BP=>iQ dC BP p) (.func (.func 291) #[] #[Q b1]) (rg.mono xH hle1) (λh' dC BP hle OF RI=>iq call291 (rD h' dC BP p gM p_q ⟨b1,0,none⟩  ((hp.mono hle1).mono hle) ((ap_z.mono hle1).mono hle) ((cx hb1).mono hle) (u1_0 _ OF) (u1_0 _ RI))) (by first|assumption|omega)) ap U (λG1 gr1=>im (L':=G1) ap (qO 4 U (pP xH ([]) G1 ([]) ap hM gr1 (λh2 hle2 sl1=>aA (cR call292 (wT _ _ _ _ sl1) (by first|rfl|(simp only[Em,iM];rfl)) (λv1 h3 hle3 hp1=>?_)))))))))))
  obtain⟨_,rfl,mo1⟩:=hp1
  refine an ?_
  have hs2:bP p il=(km (fu eO (λdC BP=>iQ dC BP p))):=hs1
  exact nretH [v1] (hs2▸⟨v1,U,mo1⟩)
 rintro i1 ⟨eO,wj,wi,Ml⟩ y1 rz1 hd1 df aS ek gu hs3 ⟨rg,FB,u1_0⟩ hx1 ag1 e
 try dsimp only at rg FB u1_0
 refine sr (tO df U (qO 9 U (aA (iF (λy=>[I y]) ec ty3 hp.signed.1 aS U U U (λq2 A2=>dj ty3 A2 U (qO 8 U (bp 4 [20,21,22,23,24] 20 24 (decide (y1<=il)) U (λc1 hk1=>?_) (λe=>?_))))))))
 .exact av (qO 3 U (hk1 _ U))
 refine aF (ae hs3 U (λc2 hs4=>?_) (λc2 hs5=>?_))
 .exact bC (qO 2 U (aA (bE (cells:=[I (i1:Int)]) ec ty3 zc3 U U kr (λb2=>aA (dE TN ([(b2,O [I (i1:Int)] 3),z1]) ([]) (λG=>[(b2,O [I (i1:Int)] 3),z1]++G) ap (λ_=>ap) ec ty3 zc3 U bytes3 rg U U (e8 0 U (cE (i1:Int) U U)) lo lo (λob1 oc1 G2 gr2=>qO 4 U (oi i1 U (qO 2 U (bo (L':=[z1]++G2) js (ag1 ((eO++[(i1:Int)]),ob1,oc1,G2) hs4 ⟨gr2,lo,(by first|assumption|exact λx hx=>(kF.1 hx).elim (u1_0 x) (λhx=>by rw[xC.1 hx];omega))⟩))))))))))
 exact aI (qT 2 U (oi i1 U (qO 2 U (ag1 (eO,wj,wi,Ml) hs5 ⟨rg,lo,(by first|assumption|exact λx hx=>(kF.1 hx).elim (u1_0 x) (λhx=>by rw[xC.1 hx];omega))⟩))))
theorem uj(h:HF)(v0:List Int)(ud:Option Addr)(ua:Nat)(v0_q:Addr)(hv0:SlC zC h ud ua v0)(av0:At h v0_q [.slice ud v0.length ua]):Itr prog (.func (.func 293) #[] (kB [.pointer (some v0_q)])) xu (iz v0) h:=by
 refine sR call293 ?_
 intro yf ya yb C Sp Pn h1 A hle m1 m2 m3 hC hy
 refine jb Ny U ntmps293 U λX hXM hX=>?_
 have hbd:=hv0.1.1
 refine sr (dj ty31 (av0.mono hle) U (qL 1 [] U (io (v':=I ((v0.length:Int)-1)) U (jh ob) (qO 3 U ?_))))
 refine jZ (ι:=Nat×List (Int×Int)×LH×HF) (λi=>[(0,.func yf ya yb),(1,.pointer (some v0_q)),(3,I ((i.1:Int)-1))]) (λi=>i.2.2.2) (λi=>i.2.2.1)
  (λi=>iz v0=i.2.1++backL v0 i.1/\i.1<=v0.length/\C i.2.1 i.2.2.2 i.2.2.1/\xN h1 i.2.2.2) (λi=>i.1) (v0.length,[],A,h1) rd (λw hw=>hw) ⟨rfl,jG _,hC,xM _⟩ ?_
 rintro⟨m,dn,A1,hh⟩ ⟨hs,hm,hC1,hl1⟩ ag e
 dsimp only at hs hm hC1 hl1
 rcases m with _|m
 .exact dK (qT 3 U (fO (decide_eq_false ob) U (qO 3 U (ef (sS [] (A:=A1) Ny U (List.Sublist.refl _) (.inl ((show iz v0=dn from hs.trans (List.append_nil _))▸hC1)))))))
 have e1:(((m+1:Nat):Int)-1)=(m:Int):=by omega
 rw[e1]
 have ho:0<=(m:Int)/\(m:Int)<(v0.length:Int):=by omega
 refine qT 4 U (tO (decide_eq_true ob) U (qO 9 U (dj ty31 (av0.mono (hle.t hl1)) U (av (aA (oP (enc:=λy=>[I y]) ei ec ty3 (hv0.mono xH (hle.t hl1)).1 ho (cV ho) U U U (λq2 A5=>dj ty3 A5 U ?_)))))))
 have hx:iz v0=dn++(((m:Int),nthI v0 (m:Int))::backL v0 m):=hs
 refine aA (kp ([]) A1 U (hy dn ((m:Int),nthI v0 (m:Int)) _ _ _ _ hx hl1 hC1 U) U U (λh5 A6 hle4 hC2=>?_) (λh6 A7 hle5 hS2=>?_) (λch2 h7 A8 hle6 hP2 e=>gy (mP [] (A:=A8) Ny (List.sublist_append_right _ _) hP2)))
 .have hs4:iz v0=(dn++[((m:Int),nthI v0 (m:Int))])++backL v0 m:=hx.trans ap
  exact mU U (qO 6 U (io (v':=I ((m:Int)-1)) U (jh ob) (an (ag (m,dn++[((m:Int),nthI v0 (m:Int))],A6,h5) _ (Nat.lt_succ_self _) ⟨hs4,by show m<=v0.length;omega,hC2,vF hl1 hle4⟩ rd))))
 exact mU U (qO 2 U (ef (mE [] (A:=A7) Ny U (List.Sublist.refl _) (.inr hS2))))
theorem u0(h:HF)(s:List Int)(sI:Option Addr)(sH:Nat)(hs:SlC zC h sI sH s):ju prog 216 [.slice sI s.length sH] h (λv h'=>∃(rv0:Value),v=rv0/\Itr prog rv0 xu (jx s) h'):=by
 refine sT func216 U ntmps216 U λX hM hX hF=>?_
 have hs0:=@rfl _ (jx s)
 refine sr (cv (λb1=>qO 4 U (aQ 0 U hM (λh1 hle1 hb1=>aA (eA U U (an ?_))))))
 have hs1:jx s=(iz s):=hs0
 exact nretH [.func (.func 293) #[] #[Q b1]] (hs1▸⟨(.func (.func 293) #[] #[Q b1]),U,(uj h1 s sI sH ⟨b1,0,none⟩ (hs.mono xH hle1) (cx hb1))⟩)
theorem KM(s:List Int):km s=s:=by
  show cU.L1 cU.K1 s=s
  induction s with
  |nil=>rfl
  |cons y s ih=>simp only[cU.L1,ih]
theorem Fc(cmp:Int->Int->Int):∀(m i:Nat)(xs:List Int),m=0\/i+m<=xs.length->∀x∈insOut cmp m i xs,x∈xs
  |0,_,_,_,x,hx=>hx
  |m+1,i,xs,h,x,hx=>by
    simp only[insOut]at hx
    exact Cn cmp i xs ob x (Fc cmp m (i+1) _ (by rw[yx];omega) x hx)
theorem KT(xs:List Int)(cmp:Int->Int->Int):∀x∈fu xs cmp,x∈xs:=Fc _ _ _ _ ob
theorem Eo(p:ft)(ba:Int):∀(s:List Int)(i:Nat)(g:List Int),(∀x∈g,0<=x/\x<(i:Int))->g.length<=i ->
  (∀x∈bP.L1 ba (bP.K1 p) s i g,0<=x/\x<((i+s.length:Nat):Int))/\(bP.L1 ba (bP.K1 p) s i g).length<=i+s.length:=by
 intro s
 induction s with
 |nil=>
  intro i g hg hl
  simp only[bP.L1,bP.K1,KM,vB,Nat.add_zero,Em]
  exact⟨λx hx=>hg x (KT _ _ x hx),hl⟩
 |cons y s ih=>
  intro i g hg hl
  have e1:i+(y::s).length=(i+1)+s.length:=by simp only[xA];omega
  rw[e1]
  simp only[bP.L1,Bool.cond_eq_ite]
  split
  .refine ih (i+1) _ (λx hx=>?_) lo
   rcases kF.1 hx with hx|hx
   .have:=hg x hx;omega
   rw[xC.1 hx];omega
  exact ih (i+1) g (λx hx=>by have:=hg x hx;omega) ob
theorem I9(p:ft)(ba:Int):∀x∈bP p ba,0<=x/\x<(p.signed.length:Int):=by
  have:=(Eo p ba p.signed 0 [] (λ_ h=>(kA h).elim) (jG _)).1
  simpa[bP]using this
theorem I8(p:ft)(ba:Int):(bP p ba).length<=p.signed.length:=by
  have:=(Eo p ba p.signed 0 [] (λ_ h=>(kA h).elim) (jG _)).2
  simpa[bP]using this
theorem V3i.mono:zp V3i:=λ_ _ _ _ _ e=>e
theorem FRi.mono{h h':HF}(hl:h.le h'):∀{m:List (Int×Option Addr×Nat×Nat)}{f:List (Int×List Int)}{G:LH},FRi h m f G->FRi h' m f G
  |[],[],_,e=>e
  |(_,_)::_,(_,_)::_,_,⟨a,b,G1,G2,c,d,t⟩=>⟨a,b,G1,G2,c,d.mono xH hl,FRi.mono hl t⟩
  |[],(_,_)::_,_,x=>x.elim
  |(_,_)::_,[],_,x=>x.elim
theorem FRi.get{h:HF}(k:Int):∀{m:List (Int×Option Addr×Nat×Nat)}{f:List (Int×List Int)}{G:LH},FRi h m f G ->
  ∃b c G1 G2,mgetD m k (none,0,0)=(b,(mgetD f k []).length,c)/\du zC 3 h (mgetD f k []) b c G1/\G.Perm (G1++G2) /\
   ∀b' c' xs' G1',du zC 3 h xs' b' c' G1'->∃G',FRi h (mput m k (b',xs'.length,c')) (mput f k xs') G'/\G'.Perm (G1'++G2)
 |[],[],G,e=>by
  subst e
  refine⟨none,0,[],[],U,du.nil,List.Perm.refl _,λb' c' xs' G1' hG=>⟨G1',⟨U,U,G1',[],by simp,hG,U⟩,by simp⟩⟩
 |(k0,x)::m,(k',xs)::f,G,⟨e,hn,G1,G2,hG,hg,t⟩=>by
  subst e hG
  by_cases hk:k=k0
  .subst hk
   refine⟨x.1,x.2.2,G1,G2,?_,?_,List.Perm.refl _,λb' c' xs' G1' hG'=>⟨G1'++G2,?_,List.Perm.refl _⟩⟩
   .simp[mgetD,mget?,←hn]
   .simpa[mgetD,mget?]using hg
   simp only[mput,if_true]
   exact⟨U,U,G1',G2,U,hG',t⟩
  obtain⟨b,c,H1,H2,h1,h2,h3,h4⟩:=FRi.get k t
  refine⟨b,c,H1,G1++H2,?_,?_,?_,λb' c' xs' G1' hG'=>?_⟩
  .simpa[mgetD,mget?,hk]using h1
  .simpa[mgetD,mget?,hk]using h2
  .refine(List.Perm.append_left G1 h3).trans ?_
   rw[←kC,←kC];exact List.Perm.append_right H2 kJ
  obtain⟨G',g1,g2⟩:=h4 b' c' xs' G1' hG'
  refine⟨G1++G',?_,?_⟩
  .simp only[mput,hk,if_false]
   exact⟨U,hn,G1,G',U,hg,g1⟩
  refine(List.Perm.append_left G1 g2).trans ?_
  rw[←kC,←kC];exact List.Perm.append_right H2 kJ
 |[],(_,_)::_,_,x=>x.elim
 |(_,_)::_,[],_,x=>x.elim
theorem FRi.keys{h:HF}:∀{m:List (Int×Option Addr×Nat×Nat)}{f:List (Int×List Int)}{G:LH},FRi h m f G->m.map (·.1)=f.map (·.1)
  |[],[],_,_=>rfl
  |(_,_)::_,(_,_)::_,_,⟨a,_,_,_,_,_,t⟩=>by simp[a,FRi.keys t]
  |[],(_,_)::_,_,x=>x.elim
  |(_,_)::_,[],_,x=>x.elim
theorem FRi.mem{h:HF}:∀{m:List (Int×Option Addr×Nat×Nat)}{f:List (Int×List Int)}{G:LH},FRi h m f G->(m.map (·.1)).Nodup->∀p∈m,p.2.2.1=(mgetD f p.1 []).length/\∃G1,(∀q∈G1,q∈G)/\du zC 3 h (mgetD f p.1 []) p.2.1 p.2.2.2 G1
 |[],[],_,_,_,_,hp=>(kA hp).elim
 |(k,x)::m,(k',xs)::f,G,⟨e,hn,G1,G2,hG,hg,t⟩,hnd,p,hp=>by
  subst e hG
  rw[kH,xR]at hnd
  rcases qC.1 hp with rfl|hp
  .exact⟨by simp[mgetD,mget?,hn],G1,λq hq=>List.mem_append_left _ hq,by simpa[mgetD,mget?]using hg⟩
  have hne:¬p.1=k:=λe=>hnd.1 (by have h9:=qQ (f:=(·.1)) hp;rw[e]at h9;exact h9)
  obtain⟨h1,H,h2,h3⟩:=FRi.mem t hnd.2 p hp
  exact⟨by simpa[mgetD,mget?,hne]using h1,H,λq hq=>List.mem_append_right _ (h2 q hq),by simpa[mgetD,mget?,hne]using h3⟩
 |[],(_,_)::_,_,x,_,_,_=>x.elim
 |(_,_)::_,[],_,x,_,_,_=>x.elim
theorem Hp{α : Type}:∀{f:List (Int×α)}(z:α),(f.map (·.1)).Nodup->f=f.map λp=>(p.1,mgetD f p.1 z)
 |[],_,_=>rfl
 |(k,x)::f,z,hn=>by
  rw[kH,xR]at hn
  rw[kH]
  congr 1
  .simp[mgetD,mget?]
  have ih:=Hp z hn.2
  conv=>lhs;rw[ih]
  apply List.map_congr_left
  intro p hp
  have hne:¬p.1=k:=λe=>hn.1 (by have h9:=qQ (f:=(·.1)) hp;rw[e]at h9;exact h9)
  simp[mgetD,mget?,hne]
theorem HL{h:HF}{h2:HF}(g:Int->List Int):∀{es:List MapEntry}{m:List (Int×Option Addr×Nat×Nat)},pB (zD .i64) V3i h es m ->
    (∀p∈m,p.2.2.1=(g p.1).length/\SlC zC h2 p.2.1 p.2.2.2 (g p.1))->pB (zD .i64) (VSl zC) h2 es (m.map λp=>(p.1,g p.1))
  |[],[],_,_=>trivial
  |e::es,(k,x)::m,⟨a,b,c⟩,hg=>by
    obtain⟨h1,h3⟩:=hg (k,x) (jB ..)
    refine⟨a,⟨x.1,x.2.2,?_,h3⟩,HL g c λp hp=>hg p (xB _ hp)⟩
    rw[show e.val=.slice x.1 x.2.1 x.2.2 from b,h1]
  |[],_::_,x,_=>x.elim
  |_::_,[],x,_=>x.elim
theorem FRi.frozen{h h2:HF}{o:Obj}{m:List (Int×Option Addr×Nat×Nat)}{f:List (Int×List Int)}{G:LH}(hm:i9 (zD .i64) V3i h o m)(hf:FRi h m f G)(hl:h.le h2)(hG:∀p∈G,h2 p.1=some p.2):
  i9 (zD .i64) (VSl zC) h2 o f:=by
 have hnd:=hm.nodup
 have hk:=hf.keys
 obtain⟨m',hp,hn,es,c,rfl,hE,h1,h3⟩:=hm
 have hmem:=hf.mem hnd
 have hfe:=Hp (f:=f) [] (hk▸hnd)
 have hfm:f=m.map λp=>(p.1,mgetD f p.1 []):=by
  have e1:(f.map λp=>(p.1,mgetD f p.1 []))=(f.map (·.1)).map λk=>(k,mgetD f k []):=by rw[List.map_map];rfl
  have e2:(m.map λp=>(p.1,mgetD f p.1 []))=(m.map (·.1)).map λk=>(k,mgetD f k []):=by rw[List.map_map];rfl
  rw[e2,hk,←e1];exact hfe
 refine⟨m'.map λp=>(p.1,mgetD f p.1 []),?_,?_,es,c,U,HL (λk=>mgetD f k []) hE λp hp'=>?_,h1,h3⟩
 .have hpm:=hp.map λp=>(p.1,mgetD f p.1 ([]:List Int))
  rw[←hfm]at hpm;exact hpm
 .rw[List.map_map];exact hn
 obtain⟨h5,G1,h6,h7⟩:=hmem p (hp.mem_iff.1 hp')
 exact⟨h5,h7.frozen xH hl λq hq=>hG q (h6 q hq)⟩
section
variable {b0:Frame} {n:Nat} {ops:Array Oper} {F:List Frame->(Machine->Prop)->Prop} {ds:List Deferred} {X:Cx} {e:Env} {h h':HF} {L:LH} {l:List Document} {lb:Option Addr} {lc_z:Nat} {sg:List Int} {sb:Option Addr} {sc:Nat} {at_:Int} {q4:Addr} {a b c d f g t:Bool} {ty:TypeId} {pos:String} {af:Array Edge}
theorem RG(hl:SlC kR h lb lc_z l)(hI:PlI h l lb lc_z sg sb sc at_ q4 false b c d f g t e h' L):
    Stp prog b0 n ops F ds X ⟨some 17,.call ⟨.value (.func 150),#[.tmp 16],#[27]⟩,ty,pos,af,none⟩ e h' L (λe2 h2 L2=>Jst h [] h2 L2/\PlI h l lb lc_z sg sb sc at_ q4 true b c d f g t e2 h2 L2):=by
  obtain⟨hv,hle,⟨k2,k4,k16,k18,k20,k23⟩,sq,b5,b8,b9,b12,b11,x1,x5,x8,x9,x12,x10,x11,hL⟩:=hI
  cases g<;>cases t<;>simp at hv
  refine cR call150 (pL h' l lb lc_z (hl.mono jH hle)) (congrArg (λx=>[x]) k16) (λv h2 hl2 hp=>?_)
  obtain⟨r2,rfl,ok2⟩:=hp
  exact⟨⟨vF hle hl2,λ_ hp=>(kA hp).elim⟩,U,vF hle hl2,⟨k2,k4,k16,k18,k20,k23⟩,r2,b5,b8,b9,b12,b11,λ_=>⟨U,ok2⟩,x5,x8,x9,x12,λh=>(by cases h),λh=>(by cases h),hL⟩
theorem RF(hn:l.length<20)(hI:PlI h l lb lc_z sg sb sc at_ q4 a false c d f g t e h' L):
    Stp prog b0 n ops F ds X ⟨some 21,.makeSlice 57 (.tmp 20) (.tmp 20),ty,pos,af,none⟩ e h' L (λe2 h2 L2=>Jst h [] h2 L2/\PlI h l lb lc_z sg sb sc at_ q4 a true c d f g t e2 h2 L2):=by
  obtain⟨hv,hle,⟨k2,k4,k16,k18,k20,k23⟩,sq,b5,b8,b9,b12,b11,x1,x5,x8,x9,x12,x10,x11,hL⟩:=hI
  cases g<;>cases t<;>simp at hv
  refine Ha uw zc4 ty4 bytes4 k20 k20 ob ob (λbk=>?_)
  exact⟨⟨hle,λ_ hp=>(kA hp).elim⟩,U,hle,⟨k2,k4,k16,k18,k20,k23⟩,sq,bk,b8,b9,b12,b11,x1,λ_=>U,x8,x9,x12,λh=>(by cases h),λh=>(by cases h),
    (List.Perm.cons _ hL).trans (pmid (pmid (pmid (pmid (List.Perm.refl _)))))⟩
theorem RE(hn:l.length<20)(hI:PlI h l lb lc_z sg sb sc at_ q4 a b false d f g t e h' L):
    Stp prog b0 n ops F ds X ⟨some 24,.makeSlice 31 (.tmp 23) (.tmp 23),ty,pos,af,none⟩ e h' L (λe2 h2 L2=>Jst h [] h2 L2/\PlI h l lb lc_z sg sb sc at_ q4 a b true d f g t e2 h2 L2):=by
  obtain⟨hv,hle,⟨k2,k4,k16,k18,k20,k23⟩,sq,b5,b8,b9,b12,b11,x1,x5,x8,x9,x12,x10,x11,hL⟩:=hI
  cases g<;>cases t<;>simp at hv
  refine Ha ec zc3 ty3 bytes3 k23 k23 ob ob (λbk=>?_)
  exact⟨⟨hle,λ_ hp=>(kA hp).elim⟩,U,hle,⟨k2,k4,k16,k18,k20,k23⟩,sq,b5,bk,b9,b12,b11,x1,x5,λ_=>U,x9,x12,λh=>(by cases h),λh=>(by cases h),
    (List.Perm.cons _ hL).trans (pmid (pmid (pmid (List.Perm.refl _))))⟩
theorem RD(hI:PlI h l lb lc_z sg sb sc at_ q4 a b c false f g t e h' L):
    Stp prog b0 n ops F ds X ⟨some 25,.makeMap 236 none,ty,pos,af,none⟩ e h' L (λe2 h2 L2=>Jst h [] h2 L2/\PlI h l lb lc_z sg sb sc at_ q4 a b c true f g t e2 h2 L2):=by
  obtain⟨hv,hle,⟨k2,k4,k16,k18,k20,k23⟩,sq,b5,b8,b9,b12,b11,x1,x5,x8,x9,x12,x10,x11,hL⟩:=hI
  cases g<;>cases t<;>simp at hv
  refine nw (λbk=>?_)
  exact⟨⟨hle,λ_ hp=>(kA hp).elim⟩,U,hle,⟨k2,k4,k16,k18,k20,k23⟩,sq,b5,b8,bk,b12,b11,x1,x5,x8,λ_=>U,x12,λh=>(by cases h),λh=>(by cases h),
    (List.Perm.cons _ hL).trans (pmid (pmid (List.Perm.refl _)))⟩
theorem Rl(hI:PlI h l lb lc_z sg sb sc at_ q4 a b c d false g t e h' L):
    Stp prog b0 n ops F ds X ⟨some 7,.alloc 211,ty,pos,af,none⟩ e h' L (λe2 h2 L2=>Jst h [] h2 L2/\PlI h l lb lc_z sg sb sc at_ q4 a b c d true g t e2 h2 L2):=by
  obtain⟨hv,hle,⟨k2,k4,k16,k18,k20,k23⟩,sq,b5,b8,b9,b12,b11,x1,x5,x8,x9,x12,x10,x11,hL⟩:=hI
  refine AS zc211 (λbk=>?_)
  exact⟨⟨hle,λ_ hp=>(kA hp).elim⟩,hv,hle,⟨k2,k4,k16,k18,k20,k23⟩,sq,b5,b8,b9,bk,b11,x1,x5,x8,x9,λ_=>U,x10,x11,
    (List.Perm.cons _ hL).trans (pmid (List.Perm.refl _))⟩
theorem Rn(ha:(a&&b&&c&&d)=true)(hI:PlI h l lb lc_z sg sb sc at_ q4 a b c d f false t e h' L):
    Stp prog b0 n ops F ds X ⟨some 26,.build 238 #[(0,.tmp 17),(1,.tmp 18),(2,.tmp 21),(3,.tmp 24),(4,.tmp 25)],ty,pos,af,none⟩ e h' L (λe2 h2 L2=>Jst h [] h2 L2/\PlI h l lb lc_z sg sb sc at_ q4 a b c d f true t e2 h2 L2):=by
  obtain⟨hv,hle,⟨k2,k4,k16,k18,k20,k23⟩,sq,b5,b8,b9,b12,b11,x1,x5,x8,x9,x12,x10,x11,hL⟩:=hI
  cases a<;>cases b<;>cases c<;>cases d<;>simp at ha
  cases t<;>simp at hv
  obtain⟨x1,o1⟩:=x1 rfl
  replace x5:=x5 rfl
  replace x8:=x8 rfl
  replace x9:=x9 rfl
  refine HT [(17,_),(18,_),(21,_),(24,_),(25,_)] ⟨x1,k18,x5,x8,x9,trivial⟩ ?_
  have hc:ft.cells (playP l sg) (playR l.length sq sb sc b5 b8 b9)=[.slice sq.FO (ay l).docs.length sq.FN,.map (some sq.Ky),.slice sb sg.length sc,.slice (some ⟨b5,0,none⟩) l.length l.length,.slice (some ⟨b8,0,none⟩) l.length l.length,.map (some b9)]:=by simp[ft.cells,playP,playR]
  exact fI (cells:=[.slice sq.FO (ay l).docs.length sq.FN,.map (some sq.Ky),.slice sb sg.length sc,.slice (some ⟨b5,0,none⟩) l.length l.length,.slice (some ⟨b8,0,none⟩) l.length l.length,.map (some b9)]) (places:=[(0,2),(2,1),(3,1),(4,1),(5,1)]) underlying238 zc238 kr kr (⟨⟨hle,λ_ hp=>(kA hp).elim⟩,U,hle,⟨k2,k4,k16,U,k20,k23⟩,sq,b5,b8,b9,b12,b11,λ_=>⟨U,o1⟩,λ_=>U,λ_=>U,λ_=>U,x12,λ_=>(congrArg (λz:List Value=>Value.agg z.toArray) hc).symm,λh=>(by cases h),hL⟩)
theorem Rm(hI:PlI h l lb lc_z sg sb sc at_ q4 a b c d f true false e h' L):
    Stp prog b0 n ops F ds X ⟨some 27,.box 238 (.tmp 26),ty,pos,af,none⟩ e h' L (λe2 h2 L2=>Jst h [] h2 L2/\PlI h l lb lc_z sg sb sc at_ q4 a b c d f true true e2 h2 L2):=by
  obtain⟨hv,hle,⟨k2,k4,k16,k18,k20,k23⟩,sq,b5,b8,b9,b12,b11,x1,x5,x8,x9,x12,x10,x11,hL⟩:=hI
  replace x10:=x10 rfl
  refine HT [(26,_)] ⟨x10,trivial⟩ (Ri (λbk=>?_))
  exact⟨⟨hle,λ_ hp=>(kA hp).elim⟩,hv,hle,⟨k2,k4,k16,k18,k20,k23⟩,sq,b5,b8,b9,b12,bk,x1,x5,x8,x9,x12,λ_=>U,λ_=>U,List.Perm.cons _ hL⟩
end
theorem PV{i:Nat}{a b c d f g t:Bool}(h:i∈plN a b c d f g t):(i=1/\a=false)\/(i=5/\b=false)\/(i=8/\c=false)\/(i=9/\d=false)\/(i=10/\(a&&b&&c&&d)=true/\g=false)\/(i=11/\g=true/\t=false)\/(i=12/\f=false)\/(a=true/\b=true/\c=true/\d=true/\f=true/\g=true/\t=true):=by
 simp only[plN,kF]at h
 rcases h with h|h|h|h|h|h|h|h
 .cases a with
  |true=>simp at h
  |false=>simp at h;exact .inl ⟨h,rfl⟩
 .cases b with
  |true=>simp at h
  |false=>simp at h;exact .inr (.inl ⟨h,rfl⟩)
 .cases c with
  |true=>simp at h
  |false=>simp at h;exact .inr (.inr (.inl ⟨h,rfl⟩))
 .cases d with
  |true=>simp at h
  |false=>simp at h;exact .inr (.inr (.inr (.inl ⟨h,rfl⟩)))
 .cases g with
  |true=>simp at h
  |false=>
   cases hh:(a&&b&&c&&d)with
   |false=>rw[hh]at h;simp at h
   |true=>rw[hh]at h;simp at h;exact .inr (.inr (.inr (.inr (.inl ⟨h,rfl,rfl⟩))))
 .cases g with
  |false=>simp at h
  |true=>
   cases t with
   |true=>simp at h
   |false=>simp at h;exact .inr (.inr (.inr (.inr (.inr (.inl ⟨h,rfl,rfl⟩)))))
 .cases f with
  |true=>simp at h
  |false=>simp at h;exact .inr (.inr (.inr (.inr (.inr (.inr (.inl ⟨h,rfl⟩))))))
 cases a<;>cases b<;>cases c<;>cases d<;>cases f<;>cases g<;>cases t<;>simp at h
 exact .inr (.inr (.inr (.inr (.inr (.inr (.inr ⟨U,U,U,U,U,U,U⟩))))))
theorem Oq{a b c d f g t:Bool}(h:plM a b c d f g t=0):a=true/\b=true/\c=true/\d=true/\f=true/\g=true/\t=true:=by
  cases a<;>cases b<;>cases c<;>cases d<;>cases f<;>cases g<;>cases t<;>simp[plM]at h<;>simp
structure wo(h:HF)(n b5 b8 br:Nat)(P:ft)(om:Obj)(m3:List (Int×Option Addr×Nat×Nat))(Gf:LH):Prop where
  done:P.done.length=n
  lacks:P.lacks.length=n
  map:i9 (zD .i64) V3i h om m3
  rev:FRi h m3 P.revoked Gf
theorem wo.mono{h h':HF}{n b5 b8 br:Nat}{P:ft}{Gf:LH}(o:wo h n b5 b8 br P om m3 Gf)(hl:h.le h'):wo h' n b5 b8 br P om m3 Gf:=
  ⟨o.done,o.lacks,o.map.mono V3i.mono hl,o.rev.mono hl⟩
theorem Dp(h:HF):∀xs:List Bool,bz S2 h (xs.map SA) xs
  |[]=>rfl
  |x::xs=>⟨[.bool x],xs.map SA,rfl,rfl,rfl,Dp h xs⟩
theorem C4(h:HF):∀xs:List Int,bz zC h (xs.map (zD .i64)) xs
  |[]=>rfl
  |x::xs=>⟨[I x],xs.map (zD .i64),rfl,rfl,rfl,C4 h xs⟩
theorem wo.lent{h h1:HF}{n b5 b8 br:Nat}{P:ft}{Gf:LH}{sq:nG}{sb:Option Addr}{sc:Nat}(o:wo h n b5 b8 br P om m3 Gf)(hn:n<20)(hs:gG.ok h P.shelf sq)(hg:SlC zC h sb sc P.signed)(hl:h.le h1)(hL:∀p∈plB b5 b8 br P om Gf,h1 p.1=some p.2):ft.ok h1 P (playR n sq sb sc b5 b8 br):=by
  have h5:=hL (b5,.cells (P.done.map SA).toArray 4 (0,0)) (by simp[plB])
  have h8:=hL (b8,.cells (P.lacks.map (zD .i64)).toArray 3 (0,0)) (by simp[plB])
  have hr:=hL (br,om) (by simp[plB])
  have hd:=o.done
  have hk:=o.lacks
  exact⟨hs.mono hl,hg.mono xH hl,bz.slB0 (Dp h1 _) h5 ob (by rw[hd];exact jG _),bz.slB0 (C4 h1 _) h8 ob (by rw[hk];exact jG _),
    ⟨om,hr,FRi.frozen o.map o.rev hl (λp hp=>hL p (by simp[plB,hp]))⟩⟩
theorem Gr(l:List Document):(ay l).docs=l:=by
  have:∀(s:List Document)(i:Nat)(g:List (Int×Int)),(ay.L1 (ay.K1 l) s i g).docs=l:=by
    intro s
    induction s with
    |nil=>intro i g;rfl
    |cons y s ih=>intro i g;exact ih _ _
  exact this _ _ _
theorem Jy(l:List Document)(hl:0<l.length)(k:Int):0<=mgetD (ay l).at_ k 0/\mgetD (ay l).at_ k 0<(l.length:Int):=by
  have key:∀(s:List Document)(i:Nat)(g:List (Int×Int)),i+s.length=l.length->(∀p∈g,0<=p.2/\p.2<(l.length:Int))->∀p∈(ay.L1 (ay.K1 l) s i g).at_,0<=p.2/\p.2<(l.length:Int):=by
    intro s
    induction s with
    |nil=>intro i g _ hg;exact hg
    |cons y s ih=>
      intro i g hi hg
      simp only[xA]at hi
      exact ih (i+1) _ ob (xj (P:=λx:Int=>0<=x/\x<(l.length:Int)) _ hg ob)
  exact yu (P:=λx:Int=>0<=x/\x<(l.length:Int)) k (key l 0 [] (by simp) (λ_ h=>(kA h).elim)) ob
theorem zz{α : Type}(f:α->Value)(xs:List α)(k:Nat)(y:α):splice (xs.map f) (k*1) [f y]=(xs.set k y).map f:=by
  simp[splice,mf,List.map_set]
theorem ET{l:List Document}{sg:List Int}{P:ft}{r:tg}(h1:P.shelf=ay l)(h2:P.signed=sg)(h3:P.done.length=l.length)(h4:P.lacks.length=l.length):ft.cells P r=ft.cells (playP l sg) r:=by
  simp[ft.cells,playP,h1,h2,h3,h4]
theorem xg(sg:List Int)(i:Int)(no:Int)(P:ft):(playLack sg i P no).shelf=P.shelf/\(playLack sg i P no).signed=P.signed/\(playLack sg i P no).done=P.done/\(playLack sg i P no).lacks.length=P.lacks.length/\(playLack sg i P no).revoked=P.revoked:=by
  unfold playLack
  cases(cL P (mgetD P.shelf.at_ no 0) (nthI sg i)).1 != 0<;>simp
theorem AU{d:Document}{Q_z:ft}{y:Int}{P:List (Int×List Int)}{i:Nat}(h:∀k,(mgetD Q_z.revoked k []).length<=(mgetD P k []).length+i):∀k,(mgetD (playRevoke d Q_z y).revoked k []).length<=(mgetD P k []).length+(i+1):=λk=>by
 show(mgetD (mput Q_z.revoked y (mgetD Q_z.revoked y []++[d.No])) k []).length<=_
 rw[vi]
 split
 .next hk=>subst hk;have:=h k;simp only[jA,xA,vB];omega
 have:=h k;omega
theorem rL(h:HF)(l:List Document)(ep:Option Addr)(eo:Nat)(signed:List Int)(cd:Option Addr)(bZ:Nat)(ba:Int)(hl:SlC kR h ep eo l)(hsigned:SlC zC h cd bZ signed)(hck:aU l=0)(hsg:signed.length=l.length)(hln:l.length<20):
  ju prog 126 [.slice ep l.length eo,.slice cd signed.length bZ,I ba] h (λv h'=>∃(rq0:Addr)(rr0:tg),v=.pointer (some rq0)/\ft.ok h' (co l signed ba) rr0/\At h' rq0 (ft.cells (co l signed ba) rr0)):=by
 refine cB func126 U ntmps126 U λX hM hX=>?_
 refine sr (cv (λb4=>an ?_))
 refine eI 0 U hM (λh1 l1 f4=>?_)
 have a4:=cx f4
 show TT _ _ _ _ _ _ _ _ h1 []
 refine dK (er [] mixed kr jn (λhsep _=>?_))
 refine tm 0 U (tf 2 U U (rh ty31 a4 U) (tm 3 U (tf 4 U U (λ_ _ _=>Jn nP U) (tm 6 U (tf 7 U U (λ_ _ _=>Jn nP U) ?_)))))
 refine QI (σ:=Bool×Bool×Bool×Bool×Bool×Bool×Bool) 1 (λs e2 h2 L2=>PlI h1 l ep eo signed cd bZ ba ⟨b4,0,none⟩ s.1 s.2.1 s.2.2.1 s.2.2.2.1 s.2.2.2.2.1 s.2.2.2.2.2.1 s.2.2.2.2.2.2 e2 h2 L2)
  (λs=>plM s.1 s.2.1 s.2.2.1 s.2.2.2.1 s.2.2.2.2.1 s.2.2.2.2.2.1 s.2.2.2.2.2.2) (λs=>plD s.1 s.2.1 s.2.2.1 s.2.2.2.1 s.2.2.2.2.1 s.2.2.2.2.2.1 s.2.2.2.2.2.2) ?_ ?_ 7 (false,false,false,false,false,false,false) _ _ _ rfl
  ⟨rfl,xM _,⟨rfl,rfl,rfl,rfl,rfl,rfl⟩,⟨none,0,0⟩,0,0,0,0,0,λh=>(by cases h),λh=>(by cases h),λh=>(by cases h),λh=>(by cases h),λh=>(by cases h),λh=>(by cases h),λh=>(by cases h),List.Perm.refl _⟩
 .rintro⟨a,b,c,d,f,g,t⟩ e2 h2 L2 hI hμ
  obtain⟨e1,e2',e3,e4,e5,e6,e7⟩:=Oq hμ
  dsimp only at e1 e2' e3 e4 e5 e6 e7
  subst e1 e2' e3 e4 e5 e6 e7
  obtain⟨_,hle,⟨k2,k4,_,_,_,_⟩,sr0,b5,b8,br,b12,b11,x1,_,_,_,x12,_,x11,hL⟩:=hI
  obtain⟨_,oks⟩:=x1 rfl
  have k7:=x12 rfl
  have k27:=x11 rfl
  clear x1 x12 x11
  dsimp only at k7 k27 oks hL k2 k4
  have J2:∀{L:LH},Jst h1 [] h2 L:=⟨hle,λ_ hp=>(kA hp).elim⟩
  refine tn 13 U (BV hL (HT [(7,Q b12),(27,Q b11)] ⟨k7,k27,trivial⟩ (kt 1 (off:=0) (vs:=[Q b11]) ty211 U U U U (by rfl) U ⟨J2,aJ kr (QG [(2,I ba),(4,Q b4),(7,Q b12)] ⟨k2,k4,U,trivial⟩ (eI 1 U hM (λh3 l3 f12=>eI 0 U hM (λh4 l4 f11=>?_))))⟩)))
  have A7:=(cx f12).mono l4
  have A11:=cx f11
  have l24:h2.le h4:=vF l3 l4
  have l04:h.le h4:=vF l1 (vF hle l24)
  replace oks:=oks.mono l24
  replace a4:=a4.mono (vF hle l24)
  clear f12 f11 l3 l4 J2 hL k2 k4 k7 k27
  refine lJ (L':=plB b5 b8 br (playP l signed) (.map #[] 0) []) (by
   have h9:plB b5 b8 br (playP l signed) (.map #[] 0) []=[(b5,.cells (List.replicate l.length (.bool false)).toArray 4 (0,0)),(b8,.cells (List.replicate l.length (I 0)).toArray 3 (0,0)),(br,.map #[] 0)]:=by simp[plB,playP,List.map_replicate]
   rw[h9]
   exact List.reverse_perm [(b5,O (List.replicate l.length (.bool false)) 4),(b8,.cells (List.replicate l.length (I 0)).toArray 3 (0,0)),(br,.map #[] 0)]) ?_
  have hl4:=hl.mono jH l04
  have hs4:=hsigned.mono xH l04
  refine qT 3 U (dj ty211 A7 U (av (aA (cR call215 (s7 h4 (playP l signed) (playR l.length sr0 cd bZ b5 b8 br) ⟨b11,0,none⟩ ba ⟨hs4⟩ A11 (by show signed.length<20;omega)) U (λv5 h5 l5 hp=>?_)))))
  obtain⟨rv,rfl,hit⟩:=hp
  refine qO 2 U (ef ?_)
  have hord:=I9 (playP l signed) ba
  have hordl:=I8 (playP l signed) ba
  have hsl:(playP l signed).signed.length=l.length:=hsg
  replace a4:=a4.mono l5
  replace A7:=A7.mono l5
  replace A11:=A11.mono l5
  replace hl4:=hl4.mono jH l5
  replace hs4:=hs4.mono xH l5
  replace oks:=oks.mono l5
  have hdr:=Hy hck
  refine jw (it:=v5) (xs:=bP (playP l signed) ba) (ι:=ft×Obj×List (Int×Option Addr×Nat×Nat)×LH×HF) [] (λi=>i.2.2.2.2) (λi=>plB b5 b8 br i.1 i.2.1 i.2.2.2.1)
   (λrest i=>rest.foldl playStep i.1=co l signed ba/\i.1.shelf=ay l/\i.1.signed=signed/\wo i.2.2.2.2 l.length b5 b8 br i.1 i.2.1 i.2.2.1 i.2.2.2.1/\h5.le i.2.2.2.2/\(∀x∈rest,0<=x/\x<(l.length:Int))/\(∀k,(mgetD i.1.revoked k []).length+16*rest.length<=320))
   (λ_=>False) (λ_=>False) 0 (λ_ _ _=>False) (playP l signed,.map #[] 0,[],[],h5) func126 rfl hit rfl C3 (λ_ _ _ _ _ hq=>hq) rfl rfl
   ⟨rfl,rfl,rfl,⟨by simp[playP],by simp[playP],i9.nil,rfl⟩,xM _,λx hx=>hsl▸hord x hx,λk=>by show 0+16*_<=320;omega⟩ ?_ ?_ (λ_ _ _ hF=>hF.elim) (λ_ _ _ hF=>hF.elim) (λ_ _ _ _ hF=>hF.elim)
  .rintro RB r1 lp1 x rest vs1 ⟨P,om,m3,Gf,hh⟩ h7 X' FR ⟨hfold,hsh,hsgd,hown,h5h,hin,hcnt⟩ h57 hh7 hv hX' hXM hlp nx rt ex pn
   dsimp only at hfold hsh hsgd hown h5h hin hcnt hh7
   obtain rfl:=hv
   have hPl:P.signed.length=l.length:=by rw[hsgd];exact hsg
   have hD:=Gr l
   have hx0:=hin x (jB ..)
   have hx:0<=x/\x<((ay l).docs.length:Int):=by rw[hD];exact hx0
   have hxn:x.toNat<l.length:=by omega
   replace hown:=hown.mono hh7
   have oks7:=oks.mono h57
   have A7':=A7.mono h57
   have A11':=A11.mono h57
   have a4':=a4.mono h57
   have hs7:=hs4.mono xH h57
   have hpd:=hown.done
   have hpl:=hown.lacks
   clear hh7
   refine bC (aT zc3 (λbi=>cJ 0 ty3 U U U U U U (aF ?_)))
   let zi:Nat×Obj:=(bi,O [I x] 3)
   let zl:Nat×Obj:=(RB,.loop { lp1 with state:=.busy })
   let zr:Nat×Obj:=(r1,.deferred (some []))
   refine ji 1 U hlp (me (cg (L':=[zi,zl,zr]++plB b5 b8 br P om Gf) (show[zi,zl,zr]++(plB b5 b8 br P om Gf++markB [])=_ from by simp[markB]) (dK (er [zi] mixed kr jn (λhs4 _=>?_)))))
   refine tf 0 U U (rh ty211 A7' U) (tf 1 U U (λ_ _ _=>fL U) (qB [2,3] U (tf 4 U U (rh ty27 A11' U) (tf 5 U U (rj 0 ty3 U U U) (jf 6 hs4 jn nP ty51 oks7.docs.1 hx (cV hx) U U U U kr (λq1 cs1 B1 ln1 rr1=>?_))))))
   obtain⟨dr,rfl,okd⟩:=rr1
   refine tf 7 U U (λ_ _ hj=>lL ty51 (B1.mono hj.1) U U) (tn 8 U (AS zc51 (λbd=>⟨jn,(tn 9 U (sG 0 ty51 U U U U U U ⟨jn,aJ kr ?_⟩))⟩)))
   generalize hdd:nthI (ay l).docs x=d at okd B1
   let zd:Nat×Obj:=(bd,O (zT d dr) 51)
   have hdP:nthI P.shelf.docs x=d:=by rw[hsh];exact hdd
   have hdl:d∈l:=by have h9:=ni hx;rw[hdd,hD]at h9;exact h9
   have hgd:=hdr d hdl
   show TT _ _ _ _ _ _ _ _ h7 ([zd,zi,zl,zr]++plB b5 b8 br P om Gf)
   refine dK (er [zd,zi] mixed kr jn (λhs5 _=>?_))
   refine tf 0 U U (rh ty211 A7' U) (tf 1 U U (λ_ _ _=>fL U) (qB [2] U (tf 3 U U (rH 4 ty31 A11' U U) (tf 4 U U (rj 1 ty3 U U U) (tf 5 U U (λ_ _ _=>oq (R:=zC) (xs:=P.lacks) (bk:=b8) (z:=x) ec ty3 U ob U (by simp[playP,hpl]) U) (tn 6 U (kt 5 (off:=x.toNat*1) (vs:=[I (-1)]) ty3 U U U U (Nat.ble_eq_true_of_le (by simp only[List.length_map,xA,vB];omega)) U ⟨jn,aJ kr (cg (L':=[zd,zi,zl,zr]++plB b5 b8 br { P with lacks:=P.lacks.set x.toNat (-1) } om Gf) (by rw[zz (zD .i64)];rfl) ?_)⟩)))))))
   have own1:wo h7 l.length b5 b8 br { P with lacks:=P.lacks.set x.toNat (-1) } om m3 Gf:=⟨hpd,by simpa using hpl,hown.map,hown.rev⟩
   refine qT 3 U (jq Ip U (nN 0 ty31 U U U (aA (cR call216 (u0 h7 d.Needs _ _ okd.Needs) U (λv8 h8 l8 hp8=>?_)))))
   obtain⟨rv8,rfl,hit8⟩:=hp8
   refine qO 2 U ?_
   refine MJ (it:=v8) (xs:=jx d.Needs) 2 U (λdone h' L'=>h8.le h'/\wo h' l.length b5 b8 br (done.foldl (λq(z:Int×Int)=>playLack P.signed x q z.2) { P with lacks:=P.lacks.set x.toNat (-1) }) om m3 Gf/\L'=[zd,zi,zl,zr]++plB b5 b8 br (done.foldl (λq(z:Int×Int)=>playLack P.signed x q z.2) { P with lacks:=P.lacks.set x.toNat (-1) }) om Gf)
    rfl hit8 rfl DH (λ_ _ _ _ hl⟨a,b,c⟩=>⟨vF a hl,b.mono hl,c⟩) ⟨xM _,own1.mono l8,rfl⟩ ?_ ?_
   .rintro l2 lp2 done z rest2 vs2 h9 L9 X9 hxs h89 ⟨h89',own2,rfl⟩ hv2 hlp2 hX9 hXM9
    obtain rfl:=hv2
    obtain⟨Pm,hPm⟩:∃Pm,Pm=done.foldl (λq(z:Int×Int)=>playLack P.signed x q z.2) { P with lacks:=P.lacks.set x.toNat (-1) }:=⟨_,rfl⟩
    have hPs:Pm.shelf=ay l/\Pm.signed=signed:=by
     rw[hPm]
     have:∀(s:List (Int×Int))(QD:ft),QD.shelf=ay l/\QD.signed=signed->(s.foldl (λq(z:Int×Int)=>playLack P.signed x q z.2) QD).shelf=ay l/\(s.foldl (λq(z:Int×Int)=>playLack P.signed x q z.2) QD).signed=signed:=by
      intro s
      induction s with
      |nil=>intro QD h;exact h
      |cons y s ih=>intro QD h;obtain⟨a1,a2,_⟩:=xg P.signed x y.2 QD;exact ih _ ⟨a1.trans h.1,a2.trans h.2⟩
     exact this _ _ ⟨hsh,hsgd⟩
    rw[←hPm]at own2
    have l79:h7.le h9:=vF l8 h89
    have A79:=A7'.mono l79
    have B79:=A11'.mono l79
    refine qT 3 U (ji 0 U hlp2 (me ?_))
    rw[←hPm]
    refine cg (L':=[(l2,.loop { lp2 with state:=.busy }),zd,zi,zl,zr]++plB b5 b8 br Pm om Gf) U (dK (er [zi] mixed kr jn (λhs8 _=>?_)))
    refine tf 0 U U (rh ty211 A79 U) (tf 1 U U (rh ty211 A79 U) (tf 2 U U (λ_ _ _=>fL U) (qB [3,4] U (tf 5 U U (rH 1 ty190 B79 U U) (tm 6 U (tf 8 U U (rh ty31 (a4'.mono l79) U) (tf 9 U U (rj 0 ty3 U U U) ?_)))))))
    have hxs:0<=x/\x<(signed.length:Int):=by omega
    refine eJ 10 (enc:=λy=>[I y]) hs8 jn (λ_ _ _ e=>e) ec ty3 (hs7.mono xH l79).1 hxs (cV hxs) U U U U kr (λq3 B3=>?_)
    refine tf 11 U U (rh ty3 B3 U) ?_
    obtain⟨mo,hmb,hmm⟩:=(oks7.mono l79).at_
    refine tn 7 U (ny (k:=z.2) AB (fA mH) hmb hmm (eX zv3) (show vI _ (I 0) 0 from U) U U (λv hv=>?_))
    obtain rfl:=hv
    refine⟨jn,?_⟩
    have hat:=Jy l ob z.2
    refine tn 12 U (Od (v:=.tuple #[I (cL Pm (mgetD (ay l).at_ z.2 0) (nthI signed x)).1,I (cL Pm (mgetD (ay l).at_ z.2 0) (nthI signed x)).2]) call127 (λhz lz hall=>mp hz Pm (playR l.length sr0 cd bZ b5 b8 br) ⟨b11,0,none⟩ (mgetD (ay l).at_ z.2 0) (nthI signed x)
     (own2.lent hln (hPs.1▸oks7.mono l79) (hPs.2▸hs7.mono xH l79) lz (λp hp=>hall p (by simp only[kF,qC];exact .inr hp))) (by rw[ET hPs.1 hPs.2 own2.done own2.lacks];exact(A11'.mono l79).mono lz) (by rw[hPs.1,hD];exact hat) (by rw[hPs.1,hD];exact⟨own2.done,own2.lacks⟩)) rfl ⟨jn,?_⟩)
    refine qR 13 5 U (aJ kr (qT 5 U ?_))
    have hlk:playLack P.signed x Pm z.2=bif(cL Pm (mgetD (ay l).at_ z.2 0) (nthI signed x)).1 != 0 then { Pm with lacks:=Pm.lacks.set x.toNat z.2 }else Pm:=by
     unfold playLack;rw[hPs.1,hsgd]
    have hnx:(done++[z]).foldl (λq(z:Int×Int)=>playLack P.signed x q z.2) { P with lacks:=P.lacks.set x.toNat (-1) }=playLack P.signed x Pm z.2:=by rw[List.foldl_append,hPm];rfl
    refine j0 U (λc1=>?_) (λc1=>qT 2 U ?_)
    .refine er [zi] mixed kr jn (λhs9 _=>?_)
     refine tf 0 U U (rh ty211 A79 U) (tf 1 U U (λ_ _ _=>fL U) (qB [2] U (tf 3 U U (rH 4 ty31 B79 U U) (tf 4 U U (rj 0 ty3 U U U) (tm 5 U ?_)))))
     have hml:=own2.lacks
     refine tf 6 U U (λ_ _ _=>oq (R:=zC) (xs:=Pm.lacks) (bk:=b8) (z:=x) ec ty3 U ob U (by simp[playP,hml]) U) (tn 7 U (kt 6 (off:=x.toNat*1) (vs:=[I z.2]) ty3 U U U U (Nat.ble_eq_true_of_le (by simp only[List.length_map,xA,vB];omega)) U ⟨jn,aJ kr (eS ?_)⟩))
     rw[c1,cond_true]at hlk
     refine cg (L':=(l2,.loop { lp2 with state:=.busy })::([zd,zi,zl,zr]++plB b5 b8 br { Pm with lacks:=Pm.lacks.set x.toNat z.2 } om Gf)) (by rw[zz (zD .i64)];rfl) ?_
     refine LZ U ⟨h89',?_,?_⟩
     .rw[hnx,hlk];exact⟨own2.done,by simpa using hml,own2.map,own2.rev⟩
     rw[hnx,hlk]
    rw[c1,cond_false]at hlk
    refine LZ U ⟨h89',?_,?_⟩
    .rw[hnx,hlk];exact own2
    rw[hnx,hlk];rfl
   rintro h9 L9 h89 ⟨h89',own2,rfl⟩
   obtain⟨Pm,hPm⟩:∃Pm,Pm=(jx d.Needs).foldl (λq(z:Int×Int)=>playLack P.signed x q z.2) { P with lacks:=P.lacks.set x.toNat (-1) }:=⟨_,rfl⟩
   rw[←hPm]at own2
   rw[←hPm]
   have hPs:Pm.shelf=ay l/\Pm.signed=signed/\Pm.revoked=P.revoked:=by
    rw[hPm]
    have:∀(s:List (Int×Int))(QD:ft),QD.shelf=ay l/\QD.signed=signed/\QD.revoked=P.revoked->(s.foldl (λq(z:Int×Int)=>playLack P.signed x q z.2) QD).shelf=ay l/\(s.foldl (λq(z:Int×Int)=>playLack P.signed x q z.2) QD).signed=signed/\(s.foldl (λq(z:Int×Int)=>playLack P.signed x q z.2) QD).revoked=P.revoked:=by
     intro s
     induction s with
     |nil=>intro QD h;exact h
     |cons y s ih=>intro QD h;obtain⟨a1,a2,_,_,a5⟩:=xg P.signed x y.2 QD;exact ih _ ⟨a1.trans h.1,a2.trans h.2.1,a5.trans h.2.2⟩
    exact this _ _ ⟨hsh,hsgd,U⟩
   have hmid:playMid P x=Pm:=by unfold playMid;rw[hdP];exact hPm.symm
   have hstep:playStep P x=bif decide (nthI Pm.lacks x<0)then d.Revokes.foldl (playRevoke d) (playDone Pm x)else playDone Pm x:=by
    unfold playStep;rw[hmid,hdP]
   have l79:h7.le h9:=vF l8 h89
   have A79:=A7'.mono l79
   have B79:=A11'.mono l79
   have hmd:=own2.done
   have hml:=own2.lacks
   refine qT 2 U (er [zd,zi] mixed kr jn (λhs11 _=>?_))
   refine tf 0 U U (rh ty211 A79 U) (tf 1 U U (λ_ _ _=>fL U) (qB [2] U (tf 3 U U (rH 3 ty57 B79 U U) (tf 4 U U (rj 1 ty3 U U U) (tf 5 U U (λ_ _ _=>oq (R:=S2) (xs:=Pm.done) (bk:=b5) (z:=x) uw ty4 U ob U (by simp[playP,hmd]) U) (tn 6 U (kt 4 (off:=x.toNat*1) (vs:=[.bool true]) ty4 U U U U (Nat.ble_eq_true_of_le (by simp only[List.length_map,xA,vB];omega)) U ⟨jn,aJ kr (cg (L':=[zd,zi,zl,zr]++plB b5 b8 br (playDone Pm x) om Gf) (by rw[zz SA];rfl) ?_)⟩)))))))
   have own3:wo h9 l.length b5 b8 br (playDone Pm x) om m3 Gf:=⟨by simpa[playDone]using hmd,hml,own2.map,own2.rev⟩
   have JB:∀{A:LH},Jst h9 [zi,(b8,.cells (Pm.lacks.map (zD .i64)).toArray 3 (0,0))] h9 ([zd,zi,zl,zr]++plB b5 b8 br (playDone Pm x) om A):=⟨xM _,λp hp=>by
    simp only[qC,kA,or_false]at hp
    rcases hp with rfl|rfl<;>simp[plB,playDone]⟩
   refine dK (er [zi,(b8,.cells (Pm.lacks.map (zD .i64)).toArray 3 (0,0))] mixed kr JB (λhs12 _=>?_))
   refine gz 0 hs12 JB U U kr U (rh ty211 A79 U) (gz 1 hs12 JB U U kr U (λ_ _ _=>fL U) (gz 2 hs12 JB U U kr U (λ_ _ _=>tL O6 U) (gz 3 hs12 JB U U kr U (rH 4 ty31 B79 U U) (gz 4 hs12 JB U U kr U (rj 0 ty3 U U U) (gz 5 hs12 JB U U kr U (λ_ _ _=>oq (R:=zC) (xs:=Pm.lacks) (bk:=b8) (z:=x) ec ty3 U ob U (by simp[playP,hml]) U) ?_)))))
   have hlx:(Pm.lacks.map (zD .i64))[x.toNat*1]? = some (I (nthI Pm.lacks x)):=by
    rw[Nat.mul_one,List.getElem?_map,cV ob];rfl
   refine gz 6 hs12 JB U U kr U (λ_ _ hj=>zZ ty3 U (hj.nth (i:=1) U) (by rw[gC];exact hlx)) (gz 7 hs12 JB U U kr U (λ_ _ _=>Jo U) (aJ kr ?_))
   have hin':∀y∈rest,0<=y/\y<(l.length:Int):=λy hy=>hin y (xB _ hy)
   have h59:h5.le h9:=vF h57 l79
   refine j0 U (λc1=>?_) (λc1=>qT 2 U ?_)
   .rw[c1,cond_true]at hstep
    have hrl:=hgd.revokes.2
    refine sr (jq Qd U (nN 0 ty31 U U U (Ma ec U (qO 2 U ?_))))
    have hfin:∀(QD:ft)(oQ:Obj)(mQ:List (Int×Option Addr×Nat×Nat))(GQ:LH)(e':Env),QD=d.Revokes.foldl (playRevoke d) (playDone Pm x)->wo h9 l.length b5 b8 br QD oQ mQ GQ->QD.shelf=ay l->QD.signed=signed->(∀k,(mgetD QD.revoked k []).length<=(mgetD P.revoked k []).length+d.Revokes.length) ->
      TT prog (roundFrame RB 126) 114 [.inBlock 1] FR e' [] X' h9 ([zd,zi,zl,zr]++plB b5 b8 br QD oQ GQ):=by
     intro QD oQ mQ GQ e' hQ ownQ hQs hQg hQc
     refine eS (bo (L':=[zl,zr]++plB b5 b8 br QD oQ GQ) js (cg (L':=rdH RB r1 lp1 (plB b5 b8 br QD oQ GQ++markB [])) (by simp[markB,rdH,zl,zr]) ?_))
     refine nx (QD,oQ,mQ,GQ,h9) _ _ ⟨?_,hQs,hQg,ownQ,h59,hin',λk=>?_⟩ lf
     .rw[←hfold,Te,hstep,hQ]
     have h1':=hcnt k
     have h2':=hQc k
     simp only[xA]at h1'
     show(mgetD QD.revoked k []).length+16*rest.length<=320
     omega
    refine ir (ι:=ft×Obj×List (Int×Option Addr×Nat×Nat)×LH) (λi=>[]) (λi=>h9) (λi=>[zd,zi,zl,zr]++plB b5 b8 br i.1 i.2.1 i.2.2.2)
     (λi=>i.1=d.Revokes.foldl (playRevoke d) (playDone Pm x)/\wo h9 l.length b5 b8 br i.1 i.2.1 i.2.2.1 i.2.2.2/\i.1.shelf=ay l/\i.1.signed=signed/\∀k,(mgetD i.1.revoked k []).length<=(mgetD P.revoked k []).length+d.Revokes.length) ?_ (λhx4=>?_)
    .rintro⟨QD,oQ,mQ,GQ⟩ ⟨q1,q2,q3,q4,q5⟩ e4
     exact hfin QD oQ mQ GQ _ q1 q2 q3 q4 q5
    refine jZ (ι:=Nat×ft×Obj×List (Int×Option Addr×Nat×Nat)×LH) (λi=>[(7,Q b12),(9,Q bd),(91,.slice dr.sk d.Revokes.length dr.sj),(92,I (d.Revokes.length:Int)),(93,I (i.1:Int))]) (λi=>h9)
     (λi=>[zd,zi,zl,zr]++plB b5 b8 br i.2.1 i.2.2.1 i.2.2.2.2)
     (λi=>(d.Revokes.drop i.1).foldl (playRevoke d) i.2.1=d.Revokes.foldl (playRevoke d) (playDone Pm x)/\i.1<=d.Revokes.length/\wo h9 l.length b5 b8 br i.2.1 i.2.2.1 i.2.2.2.1 i.2.2.2.2/\i.2.1.shelf=ay l/\i.2.1.signed=signed/\∀k,(mgetD i.2.1.revoked k []).length<=(mgetD P.revoked k []).length+i.1)
     (λi=>d.Revokes.length-i.1) (0,playDone Pm x,om,m3,Gf) rd (λw hw=>hw) ⟨rfl,qM _,own3,hPs.1,hPs.2.1,λk=>by show(mgetD Pm.revoked k []).length<=_;rw[hPs.2.2];omega⟩ ?_
    rintro⟨i,QD,oQ,mQ,GQ⟩ ⟨hfQ,hiQ,ownQ,hQs,hQg,hQc⟩ ag e5
    dsimp only at hfQ hiQ ownQ hQs hQg hQc
    show TT _ _ _ _ _ (upds e5 [(7,Q b12),(9,Q bd),(91,.slice dr.sk d.Revokes.length dr.sj),(92,I (d.Revokes.length:Int)),(93,I (i:Int))]) _ _ h9 ([zd,zi,zl,zr]++plB b5 b8 br QD oQ GQ)
    rcases jL i d.Revokes.length with hi|hi
    .have hgi:d.Revokes[i]? = some d.Revokes[i]:=qF hi
     obtain⟨y,hy⟩:∃y,d.Revokes[i]=y:=⟨_,rfl⟩
     rw[hy]at hgi
     have hdrop:d.Revokes.drop i=y::d.Revokes.drop (i+1):=by rw[List.drop_eq_getElem_cons hi,hy]
     rw[hdrop,Te]at hfQ
     obtain⟨gb,gc,G1,G2,hget,hgrow,hperm,hput⟩:=ownQ.rev.get y
     have hcy:=hQc y
     have hcP:=hcnt y
     refine sr (tO (decide_eq_true ob) U (qO 8 U (aA (oP (enc:=λy=>[I y]) (λ_ _ _ e=>e) ec ty3 (okd.Revokes.mono xH l79).1 (nthZ hgi) (fh hgi) U U U (λq6 B6=>?_)))))
     refine dj ty3 B6 U (an (er [zd] mixed kr jn (λhs16 _=>?_)))
     refine tf 0 U U (rh ty211 A79 U) (tf 1 U U (λ_ _ _=>fL U) (qB [2] U (tf 3 U U (rH 5 ty236 B79 U U) (tm 4 U (tf 5 U U (rh ty211 A79 U) (tf 6 U U (λ_ _ _=>fL U) (qB [7] U (tf 8 U U (rH 5 ty236 B79 U U) (qB [9,11] U (tf 12 U U (rj 0 ty3 U U U) ?_))))))))))
     refine m6 10 13 kr U U ?_ ?_
     .refine oO 6 (k:=y) IK (fA mH) U ownQ.map (eX zv31) (show V3i _ (.slice none 0 0) (none,0,0)from U) U U (λv hv=>?_)
      rw[hget]at hv
      obtain rfl:=hv
      refine⟨jn,(tn 13 U (bE (cells:=[I d.No]) ec ty3 zc3 U U kr (λbn=>⟨jn,?_⟩)))⟩
      let zn:Nat×Obj:=(bn,O [I d.No] 3)
      let z5:Nat×Obj:=(b5,O (QD.done.map SA) 4)
      refine tn 14 U (BV (List.Perm.append_left ([zn,zd,zi,zl,zr,z5,(b8,.cells (QD.lacks.map (zD .i64)).toArray 3 (0,0)),(br,oQ)]:LH) hperm) (dE TN [zn,zd,zi,zl,zr,z5,(b8,.cells (QD.lacks.map (zD .i64)).toArray 3 (0,0)),(br,oQ)] G2 (λG=>[zn,zd,zi,zl,zr,z5,(b8,.cells (QD.lacks.map (zD .i64)).toArray 3 (0,0)),(br,oQ)]++(G2++G)) U (λ_=>U) ec ty3 zc3 U bytes3 hgrow U U (e8 0 U (show bz zC h9 [I d.No] [d.No]from⟨[I d.No],[],U,U,U,U⟩)) (by simp only[xA,vB]at *;omega) (by simp only[xA,vB]at *;omega) (λgb' gc' G1' hG'=>⟨jn,?_⟩)))
      refine tn 15 U (j3 7 (k:=y) (x:=(gb',(mgetD QD.revoked y []++[d.No]).length,gc')) IK (fA mH) U ownQ.map U U U (λoR hmR=>⟨jn,aJ kr ?_⟩))
      obtain⟨G',hfr',hp'⟩:=hput gb' gc' _ G1' hG'
      refine qT 2 U (oi i U (qO 2 U (cg (L':=[zn,zd,zi,zl,zr,z5,(b8,.cells (QD.lacks.map (λv=>zD .i64 v)).toArray 3 (0,0)),(br,oR)]++(G2++G1')) U ?_)))
      exact lJ (L':=zn::([zd,zi,zl,zr]++plB b5 b8 br (playRevoke d QD y) oR G')) (List.Perm.append_left [_,_,_,_,_,_,_,_] (List.perm_append_comm.trans hp'.symm)) (bo (L':=[zd,zi,zl,zr]++plB b5 b8 br (playRevoke d QD y) oR G') js (ag (i+1,playRevoke d QD y,oR,mput mQ y (gb',(mgetD QD.revoked y []++[d.No]).length,gc'),G') _ (by show d.Revokes.length-(i+1)<d.Revokes.length-i;omega) ⟨hfQ,hi,⟨ownQ.done,ownQ.lacks,hmR,hfr'⟩,hQs,hQg,AU hQc⟩ rd))
     refine bE (cells:=[I d.No]) ec ty3 zc3 U U kr (λbn=>⟨jn,?_⟩)
     let zn:Nat×Obj:=(bn,O [I d.No] 3)
     let z5:Nat×Obj:=(b5,O (QD.done.map SA) 4)
     refine tn 10 U (oO 7 (k:=y) IK (fA mH) U ownQ.map (eX zv31) (show V3i _ (.slice none 0 0) (none,0,0)from U) U U (λv hv=>?_))
     rw[hget]at hv
     obtain rfl:=hv
     refine⟨jn,(tn 14 U (BV (List.Perm.append_left ([zn,zd,zi,zl,zr,z5,(b8,.cells (QD.lacks.map (zD .i64)).toArray 3 (0,0)),(br,oQ)]:LH) hperm) (dE TN [zn,zd,zi,zl,zr,z5,(b8,.cells (QD.lacks.map (zD .i64)).toArray 3 (0,0)),(br,oQ)] G2 (λG=>[zn,zd,zi,zl,zr,z5,(b8,.cells (QD.lacks.map (zD .i64)).toArray 3 (0,0)),(br,oQ)]++(G2++G)) U (λ_=>U) ec ty3 zc3 U bytes3 hgrow U U (e8 0 U (show bz zC h9 [I d.No] [d.No]from⟨[I d.No],[],U,U,U,U⟩)) (by simp only[xA,vB]at *;omega) (by simp only[xA,vB]at *;omega) (λgb' gc' G1' hG'=>⟨jn,?_⟩))))⟩
     refine tn 15 U (j3 7 (k:=y) (x:=(gb',(mgetD QD.revoked y []++[d.No]).length,gc')) IK (fA mH) U ownQ.map U U U (λoR hmR=>⟨jn,aJ kr ?_⟩))
     obtain⟨G',hfr',hp'⟩:=hput gb' gc' _ G1' hG'
     refine qT 2 U (oi i U (qO 2 U (cg (L':=[zn,zd,zi,zl,zr,z5,(b8,.cells (QD.lacks.map (λv=>zD .i64 v)).toArray 3 (0,0)),(br,oR)]++(G2++G1')) U ?_)))
     exact lJ (L':=zn::([zd,zi,zl,zr]++plB b5 b8 br (playRevoke d QD y) oR G')) (List.Perm.append_left [_,_,_,_,_,_,_,_] (List.perm_append_comm.trans hp'.symm)) (bo (L':=[zd,zi,zl,zr]++plB b5 b8 br (playRevoke d QD y) oR G') js (ag (i+1,playRevoke d QD y,oR,mput mQ y (gb',(mgetD QD.revoked y []++[d.No]).length,gc'),G') _ (by show d.Revokes.length-(i+1)<d.Revokes.length-i;omega) ⟨hfQ,hi,⟨ownQ.done,ownQ.lacks,hmR,hfr'⟩,hQs,hQg,AU hQc⟩ rd))
    refine sr (fO (decide_eq_false ob) U (qO 4 U ?_))
    have hie:i=d.Revokes.length:=by omega
    refine hx4 (QD,oQ,mQ,GQ) _ ⟨?_,ownQ,hQs,hQg,λk=>?_⟩ trivial
    .rw[hie,List.drop_length]at hfQ;exact hfQ
    have:=hQc k;show(mgetD QD.revoked k []).length<=_;omega
   rw[c1,cond_false]at hstep
   refine bo (L':=[zl,zr]++plB b5 b8 br (playDone Pm x) om Gf) js (cg (L':=rdH RB r1 lp1 (plB b5 b8 br (playDone Pm x) om Gf++markB [])) (by simp[markB,rdH,zl,zr]) ?_)
   refine nx (playDone Pm x,om,m3,Gf,h9) _ _ ⟨?_,hPs.1,hPs.2.1,own3,h59,hin',λk=>?_⟩ lf
   .rw[←hfold,Te,hstep]
   have:=hcnt k
   simp only[xA]at this
   show(mgetD Pm.revoked k []).length+16*rest.length<=320
   rw[hPs.2.2];omega
  rintro r1 ⟨P,om,m3,Gf,hh⟩ h7 ⟨hfold,hsh,hsgd,hown,h5h,hin,hcnt⟩ hh7 h57
  dsimp only at hfold hsh hsgd hown h5h hin hcnt hh7
  replace hown:=hown.mono hh7
  have hPl:P.signed.length=l.length:=by rw[hsgd];exact hsg
  refine qT 3 U (dj ty211 (A7.mono h57) U (an (Ef [] (plB b5 b8 br P om Gf) (markB [r1]) U hM (λh8 l8 hG=>?_))))
  have hP:P=co l signed ba:=hfold
  have okP:=hown.lent (sq:=sr0) (sb:=cd) (sc:=bZ) hln (hsh▸oks.mono h57) (hsgd▸hs4.mono xH h57) l8 hG
  exact qn [r1] [Q b11] func126 U rd ⟨⟨b11,0,none⟩,playR l.length sr0 cd bZ b5 b8 br,U,hP▸okP,by
   rw[←hP,ET hsh hsgd hown.done hown.lacks];exact A11.mono (vF h57 l8)⟩
 rintro⟨a,b,c,d,f,g,t⟩ e2 h2 L2 hI hμ
 dsimp only at hI hμ ⊢
 have hv:=hI.1
 refine PK (plN a b c d f g t) ?_ ?_ (λi hi o ho=>?_)
 .clear hI hμ
  revert hv
  cases a<;>cases b<;>cases c<;>cases d<;>cases f<;>cases g<;>cases t<;>intro hv<;>first|exact absurd hv (by decide)|kernel_rfl
 .clear hI
  revert hv hμ
  cases a<;>cases b<;>cases c<;>cases d<;>cases f<;>cases g<;>cases t<;>intro hμ hv<;>first|exact absurd hv (by decide)|exact absurd rfl hμ|decide
 rcases PV hi with⟨rfl,rfl⟩|⟨rfl,rfl⟩|⟨rfl,rfl⟩|⟨rfl,rfl⟩|⟨rfl,ha,rfl⟩|⟨rfl,rfl,rfl⟩|⟨rfl,rfl⟩|⟨rfl,rfl,rfl,rfl,rfl,rfl,rfl⟩
 .obtain rfl:=R4 (show some _=some o from ho)
  exact Ui (λ_ _ _ q=>⟨q.1,(true,b,c,d,f,g,t),by simp only[plM,cond_true,cond_false];omega,pmid (pmid (pmid (pmid (pmid (pmid (List.Perm.refl _)))))),q.2⟩) (RG (hl.mono jH l1) hI)
 .obtain rfl:=R4 (show some _=some o from ho)
  exact Ui (λ_ _ _ q=>⟨q.1,(a,true,c,d,f,g,t),by simp only[plM,cond_true,cond_false];omega,pmid (pmid (pmid (pmid (pmid (List.Perm.refl _))))),q.2⟩) (RF hln hI)
 .obtain rfl:=R4 (show some _=some o from ho)
  exact Ui (λ_ _ _ q=>⟨q.1,(a,b,true,d,f,g,t),by simp only[plM,cond_true,cond_false];omega,pmid (pmid (pmid (pmid (List.Perm.refl _)))),q.2⟩) (RE hln hI)
 .obtain rfl:=R4 (show some _=some o from ho)
  exact Ui (λ_ _ _ q=>⟨q.1,(a,b,c,true,f,g,t),by simp only[plM,cond_true,cond_false];omega,pmid (pmid (pmid (List.Perm.refl _))),q.2⟩) (RD hI)
 .obtain rfl:=R4 (show some _=some o from ho)
  exact Ui (λ_ _ _ q=>⟨q.1,(a,b,c,d,f,true,t),by simp only[plM,cond_true,cond_false];omega,pmid (List.Perm.refl _),q.2⟩) (Rn ha hI)
 .obtain rfl:=R4 (show some _=some o from ho)
  exact Ui (λ_ _ _ q=>⟨q.1,(a,b,c,d,f,true,true),by simp only[plM,cond_true,cond_false],List.Perm.refl _,q.2⟩) (Rm hI)
 .obtain rfl:=R4 (show some _=some o from ho)
  exact Ui (λ_ _ _ q=>⟨q.1,(a,b,c,d,true,g,t),by simp only[plM,cond_true,cond_false];omega,pmid (pmid (List.Perm.refl _)),q.2⟩) (Rl hI)
 exact absurd U hμ
theorem ri(h:HF)(l:List Document)(ep:Option Addr)(eo:Nat)(signed:List Int)(cd:Option Addr)(bZ:Nat)(ba:Int)(hl:SlC kR h ep eo l)(hsigned:SlC zC h cd bZ signed)(hln:l.length<20):ju prog 52 [.slice ep l.length eo,.slice cd signed.length bZ,I ba] h (λv h'=>∃(rb0:Option Addr)(rc0:Nat),v=.tuple #[.slice rb0 ((bQ l signed ba).1).length rc0,I ((bQ l signed ba).2)]/\SlC zC h' rb0 rc0 ((bQ l signed ba).1)):=by
 refine sT func52 U ntmps52 U λX hM hX hF=>?_
 have hs0:=@rfl _ (bQ l signed ba)
 refine qT 9 U (ai call70 (ox _ _ _ _ hl) U (qO 7 U (ae hs0 U (λc1 hs1=>?_) (λc1 hs2=>?_))))
 .refine qT 6 U ?_
  have hs3:bQ l signed ba=([],(aU l)):=hs1
  exact nretH [.slice none 0 0,I (aU l)] (hs3▸⟨none,0,U,kE⟩)
 refine qT 6 U (ai call124 (pK _ _ _ _ _ _ _ hl hsigned) U (qO 2 U (bT 4 [23,24,25,26,27] 23 27 (!(fM ba)) U (λc2 hk1=>?_) (λe=>?_))))
 .exact av (ai NK (m4 h ba) U (qO 2 U (hk1 _ U)))
 refine aF (ae hs2 U (λc3 hs4=>?_) (λc3 hs5=>?_))
 .refine qT 5 U ?_
  have hs6:bQ l signed ba=([],1):=hs4
  exact nretH [.slice none 0 0,I 1] (hs6▸⟨none,0,U,kE⟩)
 refine qT 6 U (aA (cR call126 (rL _ _ _ _ _ _ _ ba hl hsigned (by simpa using c1) (AJ ob) hln) U (λv1 h1 hle1 hp1=>?_)))
 obtain⟨q1,rr1,rfl,ok1,A1⟩:=hp1
 refine qL 9 [] U ?_
 refine lp2 l (λi w=>[(2,I ba),(6,.slice w.2.1 w.1.length w.2.2.1),(9,.pointer (some q1)),(32,.slice ep l.length eo),(33,I (l.length:Int)),(34,I (i:Int))]) (λ_=>h1) (λw=>w.2.2.2) (λi w=>du zC 3 h1 w.1 w.2.1 w.2.2.1 w.2.2.2/\w.1.length<=0+i) (λs1 i w=>(bQ.L1 l signed ba (bQ.K1)) s1 i w.1) ([],none,0,[]) ((hl.mono jH hle1).1.1) hs5 ⟨du.nil,lo⟩ ?_ ?_
 .rintro i1 ⟨rC,Mk,Mj,Kb⟩ fm hs7 ⟨Hs,OX⟩ e
  try dsimp only at Hs OX
  refine qT 6 U (fx xH ([]) Kb ([]) ap hM Hs (λh3 hle3 sl2=>?_))
  have hs8:bQ l signed ba=(rC,0):=hs7
  exact nretH [.slice Mk rC.length Mj,I 0] (hs8▸⟨Mk,Mj,U,sl2⟩)
 rintro i1 ⟨rC,Mk,Mj,Kb⟩ y1 rz1 hd1 df aS ek gu hs9 ⟨Hs,OX⟩ hx1 ag1 e
 try dsimp only at Hs OX
 refine sr (tO df U (qO 9 U (aA (iR nP ty51 (hl.mono jH hle1).1 aS U U U (λ_ _ _ e=>e) (λq3 r2 A3 ok3=>dt ty51 A3 U U (aT zc51 (λb3=>gg (aO 0 ty51 U U U U U U (im (L':=[(b3,O (zT y1 r2) 51)]++(Kb)) U (qO 6 U (ai call127 (mp h1 (co l signed ba) rr1 q1 (i1:Int) ba ok1 A1 (by first|exact Hh ob|(rw[tN];omega)) (CW _ _ _)) U (qO 11 U (ae hs9 U (λc5 hs10=>?_) (λc5 hs11=>?_))))))))))))))
 .exact qK 4 [0] U (aA (bE (cells:=[I y1.No]) ec ty3 zc3 U U kr (λb4=>aA (dE TN ([(b4,O [I y1.No] 3),(b3,O (zT y1 r2) 51)]) ([]) (λG=>[(b4,O [I y1.No] 3),(b3,O (zT y1 r2) 51)]++G) ap (λ_=>ap) ec ty3 zc3 U bytes3 Hs U U (e8 0 U (cE (y1.No) U U)) lo lo (λob2 oc2 G2 gr2=>qO 4 U (oi i1 U (qO 2 U (bo (L':=G2) js (ag1 ((rC++[y1.No]),ob2,oc2,G2) hs10 ⟨gr2,lo⟩)))))))))
 exact aI (qT 2 U (oi i1 U (qO 2 U (bo (L':=Kb) js (ag1 (rC,Mk,Mj,Kb) hs11 ⟨Hs,lo⟩)))))
theorem uI(h:HF)(d:Document)(Kk:kx)(v0:bI)(Nr:jv)(v0_q:Addr)(hd:SC h d Kk)(hv0:bI.ok h v0 Nr)(av0:At h v0_q (bI.cells v0 Nr)):Ret prog 130 [.agg (zT d Kk).toArray,.pointer (some v0_q)] h (.bool (ce d v0)):=by
 refine sT func130 U ntmps130 U λX hM hX hF=>?_
 have hs0:=@rfl _ (ce d v0)
 exact sr (cv (λb1=>qL 8 [0] U (iZ (j:=7) ty3 av0 U U (qO 3 U (nretP [.bool (d.No==v0.doc.No)] (cs hs0))))))
theorem pD(h:HF)(s:List Document)(sI:Option Addr)(sH:Nat)(f:(Document->Bool))(f_v:Value)(hs:SlC kR h sI sH s)(hf:∀(h':HF)(dC:Document)(yS:kx),xN h h'->dC∈s->SC h' dC yS->tv prog f_v [.agg (zT dC yS).toArray] h' [] (.bool (f dC))):Ret prog 218 [.slice sI s.length sH,f_v] h (.bool (i7 s f)):=by
 refine sT func218 U ntmps218 U λX hM hX hF=>?_
 have hs0:=@rfl _ (i7 s f)
 exact sr (qO 6 U (ai call128 (ky _ _ _ _ f f_v hs hf) U (qO 3 U (nretP [.bool (decide (0<=(ad s f)))] (cs hs0)))))
theorem Cw(h:HF)(l:List Document)(ep:Option Addr)(eo:Nat)(signed:List Int)(cd:Option Addr)(bZ:Nat)(no:Int)(di:Int)(hl:SlC kR h ep eo l)(hsigned:SlC zC h cd bZ signed)(hln:l.length<20):Ret prog 84 [.slice ep l.length eo,.slice cd signed.length bZ,I no,I di] h (.tuple #[I ((fV l signed no di).1),I ((fV l signed no di).2.1),I ((fV l signed no di).2.2)]):=by
 refine sT func84 U ntmps84 U λX hM hX hF=>?_
 have hs0:=@rfl _ (fV l signed no di)
 refine qT 10 U (ai call70 (ox _ _ _ _ hl) U (qO 7 U (ae hs0 U (λc1 hs1=>?_) (λc1 hs2=>?_))))
 .refine qT 7 U ?_
  have hs3:fV l signed no di=(0,0,(aU l)):=hs1
  exact nretP [I 0,I 0,I (aU l)] (hs3▸U)
 refine qT 6 U (ai call124 (pK _ _ _ _ _ _ _ hl hsigned) U (qO 2 U (bT 4 [24,25,26,27,28] 24 28 (!(fM di)) U (λc2 hk1=>?_) (λe=>?_))))
 .exact av (ai NK (m4 h di) U (qO 2 U (hk1 _ U)))
 refine aF (ae hs2 U (λc3 hs4=>?_) (λc3 hs5=>?_))
 .refine qT 6 U ?_
  have hs6:fV l signed no di=(0,0,1):=hs4
  exact nretP [I 0,I 0,I 1] (hs6▸U)
 refine qT 6 U (aA (cR call126 (rL _ _ _ _ _ _ _ di hl hsigned (by simpa using c1) (AJ ob) hln) U (λv1 h1 hle1 hp1=>?_)))
 obtain⟨q1,rr1,rfl,ok1,A1⟩:=hp1
 refine qO 5 U (aA (eT (fL U) (qL 2 [] U (iZ (j:=1) ty190 A1 U U (av ?_)))))
 obtain⟨o1,hb1,hm1⟩:=ok1.shelf.at_
 refine aA (tz (k:=no) AB (fA mH) hb1 hm1 (eX zv3) (show vI _ (I 0) 0 from U) U U (λv2 hv1=>?_))
 obtain rfl:=hv1
 refine qO 12 U (ae hs5 U (λc4 hs7=>?_) (λc4 hs8=>?_))
 .refine qT 6 U ?_
  have hs9:fV l signed no di=(0,0,1):=hs7
  exact nretP [I 0,I 0,I 1] (hs9▸U)
 refine qT 6 U (ai call127 (mp h1 (co l signed di) rr1 q1 (mgetD ((co l signed di).shelf.at_) no 0) di ok1 A1 (by first|exact Hh ob|(rw[tN];omega)) (CW _ _ _)) U (qO 14 U ?_))
 have hs10:fV l signed no di=((cL (co l signed di) (mgetD ((co l signed di).shelf.at_) no 0) di).1,(cL (co l signed di) (mgetD ((co l signed di).shelf.at_) no 0) di).2,0):=hs8
 exact nretP [I ((cL (co l signed di) (mgetD ((co l signed di).shelf.at_) no 0) di).1),I ((cL (co l signed di) (mgetD ((co l signed di).shelf.at_) no 0) di).2),I 0] (hs10▸U)
theorem yF(h:HF)(s:List Int)(sI:Option Addr)(sH:Nat)(v:Int)(hs:SlC zC h sI sH s):Ret prog 221 [.slice sI s.length sH,I v] h (I (gU s v)):=by
 refine sT func221 U ntmps221 U λX hM hX hF=>?_
 have hs0:=@rfl _ (gU s v)
 refine qK 11 [] U ?_
 refine lp0 s (λi=>[(0,.slice sI s.length sH),(1,I v),(7,I (s.length:Int)),(8,I (i:Int))]) ([]) (λs1 i=>(gU.L1 v (gU.K1)) s1 i) hs.1.1 hs0 ?_ ?_
 .rintro i1 fm hs1 e
  exact sr (an (nretP [I (-1)] (ci hs1)))
 rintro i1 y1 rz1 hd1 df aS ek gu hs3 hx1 ag1 e
 refine sr (tO df U (qO 16 U (aA (iF (λy=>[I y]) ec ty3 hs.1 aS U U U (λq2 A2=>dj ty3 A2 U (qO 2 U (ae hs3 U (λc2 hs4=>?_) (λc2 hs5=>?_))))))))
 .exact sr (qO 3 U (nretP [I (i1:Int)] (ci hs4)))
 exact aI (qT 2 U (oi i1 U (qO 2 U (ag1 hs5))))
theorem oN(h:HF)(s:List Int)(sI:Option Addr)(sH:Nat)(v:Int)(hs:SlC zC h sI sH s):Ret prog 134 [.slice sI s.length sH,I v] h (.bool (kI s v)):=by
 refine sT func134 U ntmps134 U λX hM hX hF=>?_
 have hs0:=@rfl _ (kI s v)
 exact sr (qO 6 U (ai call221 (yF _ _ _ _ v hs) U (qO 3 U (nretP [.bool (decide (0<=(gU s v)))] (cs hs0)))))
theorem us(h:HF)(d:Document)(Kk:kx)(c:bI)(nZ:jv)(c_q:Addr)(signed:List Int)(cd:Option Addr)(bZ:Nat)(signed_q:Addr)(hd:SC h d Kk)(hc:bI.ok h c nZ)(ac:At h c_q (bI.cells c nZ))(hsigned:SlC zC h cd bZ signed)(asigned:At h signed_q [.slice cd signed.length bZ])(hsm:smR c.Register)(hco:iH c)(hln:c.Register.Docs.length<20)(hsg:cj c.Register.Docs signed=true)(hdm:d∈c.Register.Docs):Ret prog 219 [.agg (zT d Kk).toArray,.pointer (some c_q),.pointer (some signed_q)] h (.bool (j5 d c signed)):=by
 refine sT func219 U ntmps219 U λX hM hX hF=>?_
 have hs0:=@rfl _ (j5 d c signed)
 refine sr (cv (λb1=>qL 9 [0] U (iZ (j:=7) ty3 ac U U (ai call134 (oN _ _ _ _ c.doc.No hd.Revokes) U (qO 2 U (ae hs0 U (λc1 hs1=>?_) (λc1 hs2=>?_)))))))
 .exact sr (an (nretP [.bool false] (cs hs1)))
 refine qK 5 [] U (iZ (j:=5) ty27 ac U U (dj ty31 asigned U (qL 3 [0] U (iZ (j:=48) ty3 ac U U (ai call84 (Cw _ _ _ _ _ _ _ d.No c.at_ hc.Register.Docs hsigned ob) U (qO 11 U (aA (nT ux (hU h ((fV c.Register.Docs signed d.No c.at_).2.2)) (lZ (Nh hco hsg hdm)) U (qO 6 U (bp 3 [32,33,34,35] 32 35 ((fV c.Register.Docs signed d.No c.at_).1 != 4) U (λc2 hk1=>?_) (λe=>?_)))))))))))
 .exact av (qO 2 U (hk1 _ U))
 exact an (nretP [.bool (((fV c.Register.Docs signed d.No c.at_).1 != 1)&&((fV c.Register.Docs signed d.No c.at_).1 != 4))] (cs hs2))
theorem pc(h:HF)(c:bI)(nZ:jv)(signed:List Int)(cd:Option Addr)(bZ:Nat)(hc:bI.ok h c nZ)(hsigned:SlC zC h cd bZ signed)(hsm:smR c.Register)(hco:iH c)(hln:c.Register.Docs.length<20)(hsg:cj c.Register.Docs signed=true):Ret prog 131 [.agg (bI.cells c nZ).toArray,.slice cd signed.length bZ] h (.bool (fB c signed)):=by
 refine sT func131 U ntmps131 U λX hM hX hF=>?_
 have hs0:=@rfl _ (fB c signed)
 exact sr (cv (λb1=>cv (λb2=>qL 7 [1] U (aQ 1 U hM (λh1 hle1 hb1=>aQ 0 U hM (λh2 hle2 hb2=>aA (eA U U (ai call218 (pD _ _ _ _ (λdC=>j5 dC c signed) (.func (.func 219) #[] #[Q b1,Q b2]) (hc.Register.Docs.mono jH (hle1.t hle2)) (λh' dC yS hle OF a0_o=>iq call219 (us h' dC yS c nZ ⟨b1,0,none⟩ signed cd bZ ⟨b2,0,none⟩ a0_o ((hc.mono (hle1.t hle2)).mono hle) (((cx hb1).mono hle2).mono hle) ((hsigned.mono xH (hle1.t hle2)).mono xH hle) ((cx hb2).mono hle) hsm hco ob hsg OF))) U (an (nretP [.bool (i7 c.Register.Docs (λdC=>j5 dC c signed))] (cs hs0)))))))))))
theorem wA(h:HF)(c:bI)(nZ:jv)(signed:List Int)(cd:Option Addr)(bZ:Nat)(hc:bI.ok h c nZ)(hsigned:SlC zC h cd bZ signed)(hsm:smR c.Register)(hco:iH c)(hln:c.Register.Docs.length<20)(hsg:cj c.Register.Docs signed=true):Ret prog 55 [.agg (bI.cells c nZ).toArray,.slice cd signed.length bZ] h (.bool (fy c signed)):=by
 refine sT func55 U ntmps55 U λX hM hX hF=>?_
 have hs0:=@rfl _ (fy c signed)
 refine sr (cv (λb1=>qL 7 [0] U (aQ 0 U hM (λh1 hle1 hb1=>aA (eA U U (ai call128 (ky _ _ _ _ (λdC=>ce dC c) (.func (.func 130) #[] #[Q b1]) (hc.Register.Docs.mono jH hle1) (λh' dC yS hle OF a0_o=>iq call130 (uI h' dC yS c nZ ⟨b1,0,none⟩ a0_o ((hc.mono hle1).mono hle) ((cx hb1).mono hle)))) U (qO 3 U ?_)))))))
 refine oa [(4,.bool (((decide (c.at_<c.doc.At)||decide (c.doc.Until<=c.at_))||(decide (0<=(nthI signed (ad c.Register.Docs (λdC=>ce dC c))))&&decide ((nthI signed (ad c.Register.Docs (λdC=>ce dC c)))<=c.at_)))||(fB c signed)))] (λe=>?_) (λhk1=>?_)
 rotate_left
 .refine er ([]) mixed kr jn (λdY _=>?_)
  refine qB [0] U (tf 1 U U (rH 48 ty3 (cx hb1) U U) (qB [2,3] U (tf 4 U U (rH 8 ty3 (cx hb1) U U) (qA [5,6] U ?_))))
  refine dh 17 U (λc1=>?_) (λc1=>?_)
  .have c1p:=of_decide_eq_true c1
   exact tk 7 U U (qR 8 28 U (aJ kr (hk1 _ ⟨(cb (show true=(((decide (c.at_<c.doc.At)||decide (c.doc.Until<=c.at_))||(decide (0<=(nthI signed (ad c.Register.Docs (λdC=>ce dC c))))&&decide ((nthI signed (ad c.Register.Docs (λdC=>ce dC c)))<=c.at_)))||(fB c signed))from by rw[c1]<;>rfl)),trivial⟩)))
  have c1p:=of_decide_eq_false c1
  refine qB [7] U (tf 8 U U (rH 48 ty3 (cx hb1) U U) (qB [9,10] U (tf 11 U U (rH 12 ty3 (cx hb1) U U) (qR 12 3 U ?_))))
  refine dh 25 U (λc2=>?_) (λc2=>?_)
  .have c2p:=of_decide_eq_true c2
   exact tk 15 U U (qR 16 20 U (aJ kr (hk1 _ ⟨(cb (show true=(((decide (c.at_<c.doc.At)||decide (c.doc.Until<=c.at_))||(decide (0<=(nthI signed (ad c.Register.Docs (λdC=>ce dC c))))&&decide ((nthI signed (ad c.Register.Docs (λdC=>ce dC c)))<=c.at_)))||(fB c signed))from by rw[c1,c2]<;>rfl)),trivial⟩)))
  have c2p:=of_decide_eq_false c2
  refine qA [15,16] U ?_
  have ho1:0<=((ad c.Register.Docs (λdC=>ce dC c)):Int)/\((ad c.Register.Docs (λdC=>ce dC c)):Int)<((signed).length:Int):=(Hz hco hsg)
  refine eJ 17 (enc:=λy=>[I y]) dY jn ei ec ty3 (hsigned.mono xH hle1).1 ho1 (cV ho1) U U U U kr (λq1 A1=>tf 18 U U (rh ty3 A1 U) (qA [19,20] U ?_))
  refine dh 31 U (λc3=>?_) (λc3=>?_)
  .have c3p:=of_decide_eq_true c3
   refine qA [21,22] U ?_
   have ho2:0<=((ad c.Register.Docs (λdC=>ce dC c)):Int)/\((ad c.Register.Docs (λdC=>ce dC c)):Int)<((signed).length:Int):=(Hz hco hsg)
   refine eJ 23 (enc:=λy=>[I y]) dY jn ei ec ty3 (hsigned.mono xH hle1).1 ho2 (cV ho2) U U U U kr (λq2 A2=>tf 24 U U (rh ty3 A2 U) (qB [25] U (tf 26 U U (rH 48 ty3 (cx hb1) U U) (qR 27 4 U ?_))))
   refine dh 41 U (λc4=>?_) (λc4=>?_)
   .have c4p:=of_decide_eq_true c4
    exact tk 31 U U (qR 32 4 U (aJ kr (hk1 _ ⟨(cb (show true=(((decide (c.at_<c.doc.At)||decide (c.doc.Until<=c.at_))||(decide (0<=(nthI signed (ad c.Register.Docs (λdC=>ce dC c))))&&decide ((nthI signed (ad c.Register.Docs (λdC=>ce dC c)))<=c.at_)))||(fB c signed))from by rw[c1,c2,c3,c4]<;>rfl)),trivial⟩)))
   have c4p:=of_decide_eq_false c4
   exact tf 31 U U (λ_ _ hj=>lL ty123 ((cx hb1).mono hj.1) U U) (tm 32 U (tn 33 U (eZ call131 (pc _ _ _ _ _ _ (hc.mono hle1) (hsigned.mono xH hle1) ob ob ob ob) U (⟨jn,(qA [34,35] U (aJ kr (hk1 _ ⟨(cb (show(fB c signed)=(((decide (c.at_<c.doc.At)||decide (c.doc.Until<=c.at_))||(decide (0<=(nthI signed (ad c.Register.Docs (λdC=>ce dC c))))&&decide ((nthI signed (ad c.Register.Docs (λdC=>ce dC c)))<=c.at_)))||(fB c signed))from by rw[c1,c2,c3,c4]<;>rfl)),trivial⟩)))⟩))))
  have c3p:=of_decide_eq_false c3
  exact tk 21 U U (qR 22 9 U (tf 31 U U (λ_ _ hj=>lL ty123 ((cx hb1).mono hj.1) U U) (tm 32 U (tn 33 U (eZ call131 (pc _ _ _ _ _ _ (hc.mono hle1) (hsigned.mono xH hle1) ob ob ob ob) U (⟨jn,(qA [34,35] U (aJ kr (hk1 _ ⟨(cb (show(fB c signed)=(((decide (c.at_<c.doc.At)||decide (c.doc.Until<=c.at_))||(decide (0<=(nthI signed (ad c.Register.Docs (λdC=>ce dC c))))&&decide ((nthI signed (ad c.Register.Docs (λdC=>ce dC c)))<=c.at_)))||(fB c signed))from by rw[c1,c2,c3]<;>rfl)),trivial⟩)))⟩))))))
 exact nretP [.bool (((decide (c.at_<c.doc.At)||decide (c.doc.Until<=c.at_))||(decide (0<=(nthI signed (ad c.Register.Docs (λdC=>ce dC c))))&&decide ((nthI signed (ad c.Register.Docs (λdC=>ce dC c)))<=c.at_)))||(fB c signed))] (cs hs0)
theorem Ck(h:HF)(c:bI)(nZ:jv)(c_q:Addr)(signed:List Int)(cd:Option Addr)(bZ:Nat)(signed_q:Addr)(hc:bI.ok h c nZ)(ac:At h c_q (bI.cells c nZ))(hsigned:SlC zC h cd bZ signed)(asigned:At h signed_q [.slice cd signed.length bZ])(hsm:smR c.Register)(hco:iH c)(hln:c.Register.Docs.length<20)(hsg:cj c.Register.Docs signed=true):Ret prog 54 [.pointer (some c_q),.pointer (some signed_q)] h (.bool (zf c signed)):=by
 refine sT func54 U ntmps54 U λX hM hX hF=>?_
 have hs0:=@rfl _ (zf c signed)
 exact sr (qO 4 U (dt ty123 ac U U (dj ty31 asigned U (ai call55 (wA _ _ _ _ _ _ hc hsigned ob ob ob ob) U (an (nretP [.bool (fy c signed)] (cs hs0)))))))
theorem vm(h:HF)(eE:Int)(v0:List Int)(ud:Option Addr)(ua:Nat)(v0_q:Addr)(hv0:SlC zC h ud ua v0)(av0:At h v0_q [.slice ud v0.length ua]):Ret prog 133 [I eE,.pointer (some v0_q)] h (.bool (kU eE v0)):=by
 refine sT func133 U ntmps133 U λX hM hX hF=>?_
 have hs0:=@rfl _ (kU eE v0)
 exact sr (qO 4 U (dj ty31 av0 U (av (ai call134 (oN _ _ _ _ eE hv0) U (qO 3 U (nretP [.bool (!(kI v0 eE))] (cs hs0)))))))
theorem xr(h:HF)(c:bI)(nZ:jv)(signed:List Int)(cd:Option Addr)(bZ:Nat)(hc:bI.ok h c nZ)(hsigned:SlC zC h cd bZ signed)(hsm:smR c.Register)(hco:iH c)(hln:c.Register.Docs.length<20)(hsg:cj c.Register.Docs signed=true):Ret prog 57 [.agg (bI.cells c nZ).toArray,.slice cd signed.length bZ] h (.bool (gD c signed)):=by
 refine sT func57 U ntmps57 U λX hM hX hF=>?_
 have hs0:=@rfl _ (gD c signed)
 refine sr (cv (λb1=>qL 10 [0,0] U (aA (cR call52 (ri _ _ _ _ _ _ _ c.at_ hc.Register.Docs hsigned ob) U (λv1 h1 hle1 hp1=>?_)))))
 obtain⟨rb1,rc1,rfl,sl1⟩:=hp1
 exact av (qO 2 U (aT zc31 (λb2=>cJ 0 ty31 U U U U U U (qO 5 U (aA (nT ux (hU h1 ((bQ c.Register.Docs signed c.at_).2)) (lZ (GD hco hsg)) U (qL 6 [1] U (aQ 0 U hM (λh2 hle2 hb1=>aA (eA U U (ai IT (gV _ _ _ _ (λdC=>kU dC ((bQ c.Register.Docs signed c.at_).1)) (.func (.func 133) #[] #[Q b2]) (hc.doc.Needs.mono xH (hle1.t hle2)) (λh' dC hle=>iq call133 (vm h' dC ((bQ c.Register.Docs signed c.at_).1) rb1 rc1 ⟨b2,0,none⟩  ((sl1.mono xH hle2).mono xH hle) ((cx hb1).mono hle)))) U (an (nretP [.bool (cH c.doc.Needs (λdC=>kU dC ((bQ c.Register.Docs signed c.at_).1)))] (cs hs0))))))))))))))
theorem Cj(h:HF)(c:bI)(nZ:jv)(c_q:Addr)(signed:List Int)(cd:Option Addr)(bZ:Nat)(signed_q:Addr)(hc:bI.ok h c nZ)(ac:At h c_q (bI.cells c nZ))(hsigned:SlC zC h cd bZ signed)(asigned:At h signed_q [.slice cd signed.length bZ])(hsm:smR c.Register)(hco:iH c)(hln:c.Register.Docs.length<20)(hsg:cj c.Register.Docs signed=true):Ret prog 56 [.pointer (some c_q),.pointer (some signed_q)] h (.bool (ze c signed)):=by
 refine sT func56 U ntmps56 U λX hM hX hF=>?_
 have hs0:=@rfl _ (ze c signed)
 exact sr (qO 4 U (dt ty123 ac U U (dj ty31 asigned U (ai call57 (xr _ _ _ _ _ _ hc hsigned ob ob ob ob) U (an (nretP [.bool (gD c signed)] (cs hs0)))))))
theorem sE(h:HF)(seq:List Holder)(seq_v:Value)(hseq:Itr prog seq_v ou seq h)(hsz:seq.length<=2000000):ju prog 176 [.slice none 0 0,seq_v] h (λv h'=>∃(rb0:Option Addr)(rc0:Nat),v=.slice rb0 (cn seq).length rc0/\SlC TX h' rb0 rc0 (cn seq)):=by
 refine cB func176 U ntmps176 U λX hM hX=>?_
 have hs0:=@rfl _ (cn seq)
 refine sr (cv (λb1=>qO 8 U (ef (cg (L':=([(b1,O [.slice none 0 0] 68)])++markB []) ap ?_))))
 refine jw (it:=seq_v) (xs:=seq) (ι:=(List Holder)×Option Addr×Nat×LH×HF) [] (λi=>i.2.2.2.2) (λi=>[(b1,O [.slice i.2.1 i.1.length i.2.2.1] 68)]++(i.2.2.2.1)) (λs i=>cn seq=((cn.L1 (cn.K1)) s i.1)/\du TX 158 i.2.2.2.2 i.1 i.2.1 i.2.2.1 i.2.2.2.1/\xN h i.2.2.2.2/\i.1.length+s.length<=seq.length) (λ_=>False) (λ_=>False) 0 (λ_ _ _=>False) ([],none,0,[],h) func176 U hseq U sP (λ_ _ _ _ _ hq=>hq) U (show[(b1,O [.slice none 0 0] 68)]=_ from U) ⟨hs0,du.nil,lf,(by simp)⟩ ?_ ?_ ?_ ?_ ?_
 .rintro l1 dm1 lp1 y1 rz1 vs1 ⟨bu,mn,mm,nr,hh1⟩ hr1 X hFR1 ⟨hs1,fF,hl1,u1_0⟩ hl01 hlr1 hv1 hX hXM hlp1 nx1 rt1 ex1 pn1
  obtain rfl:=hv1
  simp only[xA]at u1_0
  let z1:Nat×Obj:=(b1,O [.slice mn bu.length mm] 68)
  let z3:Nat×Obj:=(dm1,.deferred (some []))
  refine cg (L':=[(l1,.loop lp1),z3,z1]++(nr++(markB []))) ap (bC (aT zc158 (λb4=>aO 0 ty158 U U U U U U (im (L':=[(b4,O (Sn y1) 158),(l1,.loop lp1),z3,z1]++(nr++(markB []))) U ?_))))
  let z4:Nat×Obj:=(l1,.loop { lp1 with state:=.busy })
  let z5:Nat×Obj:=(b4,O (Sn y1) 158)
  refine aF (ji 1 U hlp1 (qK 3 [3] U (cM 0 ty158 U U U (aA (bE (cells:=[I y1.Person,I y1.Weight]) Nx ty158 zc158 U U kr (λb5=>aA (dE Holder.ew ([(b5,O [I y1.Person,I y1.Weight] 158),z5,z4,z3,z1]) (markB []) (λG=>[(b5,O [I y1.Person,I y1.Weight] 158),z5,z4,z3,z1]++(markB []++G)) ap (λ_=>ap) Nx ty158 zc158 U bytes158 (fF.mono Tv hlr1) U U (e8 0 U (cE y1 U U)) lo lo (λob2 oc2 G2 gr2=>ym (si ([(b5,O [I y1.Person,I y1.Weight] 158),z5,z4,z3,z1]) G2 (markB [])) (cJ 4 ty68 U U U U U U (qO 2 U ?_))))))))))
  let z6:Nat×Obj:=(b1,O [.slice ob2 ((bu++[y1]).length) oc2] 68)
  exact bo (L':=[z4,z3,z6]++(G2++(markB []))) js (cg (L':=rdH l1 dm1 lp1 (([z6]++G2)++markB [])) ap (nx1 ((bu++[y1]),ob2,oc2,G2,hr1) _ _ ⟨hs1,gr2,(hl1.t hlr1),(by simp only[jA,xA,vB]at *;omega)⟩ lf))
 .rintro dm1 ⟨bu,mn,mm,nr,hh1⟩ hn1 ⟨hs2,fF,hl1,u1_0⟩ hln1 hl01
  let z2:Nat×Obj:=(b1,O [.slice mn bu.length mm] 68)
  refine cg (L':=[z2]++(nr++(markB (dm1::[])))) ap (qK 6 [0] U (fx Tv ([z2]) nr (markB (dm1::[])) ap hM (fF.mono Tv hln1) (λh2 hle2 sl2=>?_)))
  have hs3:cn seq=bu:=hs2
  exact cg (L':=([z2])++markB (dm1::[])) ap (qn (dm1::[]) [.slice mn bu.length mm] func176 U rd ⟨mn,mm,congrArg (λr:List Holder=>(.slice mn r.length mm:Value)) hs3.symm,(by rw[hs3];exact sl2)⟩)
 .exact xf
 .exact xf
 exact xf
theorem ug(h:HF)(seq:List Holder)(seq_v:Value)(hseq:Itr prog seq_v ou seq h)(hsz:seq.length<=2000000):ju prog 91 [seq_v] h (λv h'=>∃(rb0:Option Addr)(rc0:Nat),v=.slice rb0 (gi seq).length rc0/\SlC TX h' rb0 rc0 (gi seq)):=by
 refine sT func91 U ntmps91 U λX hM hX hF=>?_
 have hs0:=@rfl _ (gi seq)
 refine qT 7 U (aA (cR call176 (sE h seq seq_v hseq ob) U (λv1 h1 hle1 hp1=>?_)))
 obtain⟨rb1,rc1,rfl,sl1⟩:=hp1
 refine an ?_
 have hs1:gi seq=(cn seq):=hs0
 exact nretH [.slice rb1 ((cn seq).length) rc1] (hs1▸⟨rb1,rc1,U,sl1⟩)
end Go.Sg

namespace Go.Proofs
open Go.Shelf Go.RowKit Go.Lib Go.Sort
set_option maxHeartbeats 1000000 in
theorem Tryz.closure178(x y:Go.Sg.OSeat)(W:World):Calls Tryz.prog 178 #[.agg (Go.Sg.OSeat.cells x).toArray,.agg (Go.Sg.OSeat.cells y).toArray] W λe w'=>e=.returned (.int .i64 (Lib.compareInt x.person y.person))/\∃q os',w'=grow (W.drewN q) os':=by
 have hcon:=λW'=>Tryz.cmp_Compare_int x.person y.person W'
 generalize Lib.compareInt x.person y.person=r at hcon ⊢
 unfold Go.Sg.OSeat.cells
 go_enter Tryz.func178,Tryz.ntmps178
 go_wp2_with (go_at_call 118;refine(hcon _).mono ?_;rintro e w' ⟨rfl,rfl⟩)
 go_ret
 exact⟨rfl,0,_,by rw[alloc_eq_grow,alloc_eq_grow,grow_grow];rfl⟩
theorem Tryz.ltSeat(x y:Go.Sg.OSeat):ltOf (λx y:Go.Sg.OSeat=>Lib.compareInt x.person y.person) x y=decide (x.person<y.person):=by
 unfold ltOf Lib.compareInt
 by_cases h1:x.person<y.person
 .simp[h1]
 .by_cases h2:y.person<x.person<;>simp[h1,h2]
theorem Tryz.swoSeat:SWO (ltOf λx y:Go.Sg.OSeat=>Lib.compareInt x.person y.person) where
 irrefl x:=by rw[Tryz.ltSeat];simp
 trans x y z h1 h2:=by rw[Tryz.ltSeat]at *;simp at *;omega
 ntrans x y z h1 h2:=by rw[Tryz.ltSeat]at *;simp at *;omega
end Go.Proofs
namespace Go.Sg
variable {os:Array Obj}{w:World}
section
open Go.Proofs Go.Proofs.Tryz Go.RowKit Go.Sort
theorem CL{h:HF}:∀{cl:List Value}{xs:List OSeat},bz Uj h cl xs->cl=xs.flatMap vE
 |_,[],hc=>hc
 |_,x::xs,⟨cs,rest,e,_,hr,hc⟩=>by
  have:cs=vE x:=hr
  rw[e,this,CL hc];rfl
theorem Do(h:HF):∀xs:List OSeat,bz Uj h (xs.flatMap vE) xs
 |[]=>rfl
 |x::xs=>⟨vE x,xs.flatMap vE,rfl,rfl,rfl,Do h xs⟩
theorem G0:∀(xs:List OSeat)(j:Nat),j<xs.length*2->(xs.flatMap vE)[j]? = some ((vE (xs.getD (j/2) default)).getD (j%2) undef)
 |[],j,hj=>by simp at hj
 |x::xs,0,_=>by simp[vE]
 |x::xs,1,_=>by simp[vE]
 |x::xs,j+2,hj=>by
  have ih:=G0 xs j (by simp at hj;omega)
  simp only[List.flatMap_cons]
  rw[List.getElem?_append_right (by simp[vE])]
  simp only[vE,xA,vB]
  rw[show j+2-(0+1+1)=j from by omega,show(j+2)/2=j/2+1 from by omega,show(j+2)%2=j%2 from by omega]
  simpa[vE]using ih
theorem sd(xs:List OSeat):(xs.flatMap vE).length=xs.length*2:=by
 induction xs with
 |nil=>rfl
 |cons x xs ih=>rw[List.flatMap_cons,jA,ih];simp[vE];omega
theorem FH(xs:List OSeat):(flatK vE 2 xs.toArray).toList=xs.flatMap vE:=by
 apply Tm
 intro j
 rcases jL j (xs.length*2)with hj|hj
 .rw[G0 xs j hj]
  have h1:=get_flatK vE 2 xs.toArray j (by simpa using hj)
  have h2:j<(flatK vE 2 xs.toArray).size:=by rw[size_flatK];simpa using hj
  rw[getElem!_pos _ j h2]at h1
  rw[Array.getElem?_toList,Sc h2,h1]
  have h3:j/2<xs.length:=by omega
  congr 1
  rw[getElem!_pos xs.toArray (j/2) (by simpa using h3)]
  have h4:j%2<2:=Nat.mod_lt _ (by omega)
  simp only[List.getElem_toArray,List.getD,qF h3,Tw]
  rw[getElem!_pos _ (j%2) (by simpa[vE]using h4)]
  rw[qF (by simpa[vE]using h4),Tw]
 .rw[vL (by rw[Array.length_toList,size_flatK];simpa using hj),vL (by rw[sd];exact hj)]
theorem Jq(F cur:Array Value)(h:F.size<=cur.size):(putCells id 0 F cur).toList=F.toList++cur.toList.drop F.size:=by
 apply Tm
 intro j
 rcases jL j cur.size with hj|hj
 .have e1:(putCells id 0 F cur).toList[j]? = some (if j<F.size then F[j]! else cur[j]):=by
   rw[Array.getElem?_toList]
   simp[putCells,hj]
  rw[e1]
  rcases jL j F.size with h1|h1
  .rw[if_pos h1,List.getElem?_append_left (by simpa using h1),Array.getElem?_toList,Sc h1,getElem!_pos _ j h1]
  .rw[if_neg (by omega),List.getElem?_append_right (by simpa using h1),List.getElem?_drop,Array.getElem?_toList,Array.length_toList,show F.size+(j-F.size)=j from by omega,Sc hj]
 .rw[vL (by simpa[putCells]using hj),vL (by simp;omega)]
theorem OI{g n:Nat}{cur:Array Value}{e:TypeId}{fr:Nat×Nat}(d:Array Value)(hb:w.heap[g]? = some (.cells cur e fr)):
  (grow (putRow id (Sort.ahead w n) g 0 d) os).heap[g]? = some (.cells (putCells id 0 d cur) e fr):=by
 have hg:g<w.heap.size:=(Array.getElem?_eq_some_iff.1 hb).1
 rw[heap_grow_old _ _ (by simpa using hg)]
 simp[putRow,mapBlock,Sort.ahead,Uv,hb,onCells]
theorem M7{g n:Nat}(d:Array Value):(grow (putRow id (Sort.ahead w n) g 0 d) os).os=w.os/\(grow (putRow id (Sort.ahead w n) g 0 d) os).tape=w.tape/\(grow (putRow id (Sort.ahead w n) g 0 d) os).output=w.output /\
  w.heap.size<=(grow (putRow id (Sort.ahead w n) g 0 d) os).heap.size/\∀k,k<w.heap.size->k≠g->(grow (putRow id (Sort.ahead w n) g 0 d) os).heap[k]? = w.heap[k]?:=by
 refine⟨rfl,rfl,rfl,by simp[putRow,mapBlock,Sort.ahead],λk hk hne=>?_⟩
 rw[heap_grow_old _ _ (by simpa using hk)]
 simp[putRow,mapBlock,Sort.ahead,Uv,Ne.symm hne]
theorem uA(h:HF)(xs:List OSeat)(b:Option Addr)(c:Nat)(G:LH)(hG:du Uj 182 h xs b c G)(hsz:xs.length<=1000000000000):
  nu prog 274 [.slice b xs.length c,.func (.func 178) #[] #[]].toArray h G (λr h' G'=>h'=h/\r=.returned (.tuple #[])/\∃ys,ys.Perm xs/\ys.Pairwise (λx y=>x.person<=y.person)/\du Uj 182 h ys b c G'):=by
 intro w hp
 rcases hG with⟨rfl,rfl,rfl,rfl⟩|⟨bk,cl,sp,rfl,hcl,hlen,hcap,hmax,rfl⟩
 .refine(kj (AnyF.slices_SortFunc_none Tryz.sortSeat none 0 (.func (.func 178) #[] #[]) w) (λw' hw=>by cases hw.1)).mono ?_
  rintro e w' ⟨rfl,rfl⟩
  exact⟨h,[],St.start hp,rfl,rfl,[],List.Perm.refl _,List.Pairwise.nil,du.nil⟩
 .have hb:=hp.own _ (xC.2 rfl)
  simp only at hb
  have hcl':=CL hcl
  subst hcl'
  have hfl:=FH xs
  have hH:HoldsK vE 2 w bk 0 xs.toArray:=by
   intro j hj
   rw[size_flatK]at hj
   have hj':j<xs.length*2:=by simpa using hj
   refine⟨?_,by simp[World.frozen?,hb]⟩
   have h2:j<(flatK vE 2 xs.toArray).size:=by rw[size_flatK];exact hj
   have h3:(flatK vE 2 xs.toArray).toList[j]? = some (flatK vE 2 xs.toArray)[j]!:=by
    rw[Array.getElem?_toList,Sc h2,getElem!_pos _ j h2]
   rw[hfl]at h3
   have h4:(xs.flatMap vE++sp)[j]? = some (flatK vE 2 xs.toArray)[j]!:=by
    rw[List.getElem?_append_left (by rw[sd];exact hj')];exact h3
   simp only[World.cell?,hb,Nat.zero_add]
   simpa using h4
  have eg:∀args w,(callFunc 178 args).run prog w=.ok (.enter 178 args) w:=call178
  have hcall:=AnyQ.slices_SortFunc Tryz.sortSeat 2 Tryz.isAgg182 Tryz.sizeOf182 vE (λ_=>rfl) (λx v hv=>by simp[vE]at hv;rcases hv with rfl|rfl<;>rfl)
   (λx y=>Lib.compareInt x.person y.person) Tryz.swoSeat 178 #[] bk 0 c xs.toArray w eg (λ_ _ _ _ x y=>Tryz.closure178 x y _) hH (gY hb) (by simp;omega)
  change Calls prog 274 _ _ _ at hcall
  rw[List.size_toArray]at hcall
  refine(kj hcall (λw' hw=>by cases hw.1)).mono ?_
  rintro e w' ⟨rfl,d',n,os,⟨hds,_,hperm⟩,hsorted,rfl⟩
  have hds':d'.size=xs.length:=by simpa using hds
  have hF:(flatK vE 2 d').toList=d'.toList.flatMap vE:=by have:=FH d'.toList;simpa using this
  have hFs:(flatK vE 2 d').size=xs.length*2:=by rw[size_flatK,hds']
  obtain⟨g1,g2,g3,g4,g5⟩:=M7 (w:=w) (g:=bk) (n:=n) (os:=os) (flatK vE 2 d')
  have hnew:=OI (w:=w) (g:=bk) (n:=n) (os:=os) (flatK vE 2 d') hb
  have hcur:(putCells id 0 (flatK vE 2 d') (xs.flatMap vE++sp).toArray).toList=d'.toList.flatMap vE++sp:=by
   rw[Jq _ _ (by rw[hFs,←sd];simp),hF,hFs]
   congr 1
   rw[←sd]
   exact List.drop_left' rfl
  have hcur':putCells id 0 (flatK vE 2 d') (xs.flatMap vE++sp).toArray=(d'.toList.flatMap vE++sp).toArray:=by rw[←hcur]
  rw[hcur']at hnew
  have hperm':d'.toList.Perm xs:=by
   have e1:d'.extract 0 xs.length=d':=by rw[←hds'];simp
   have e2:xs.toArray.extract 0 xs.length=xs.toArray:=by simp
   rw[e1,e2]at hperm;exact hperm
  refine⟨h,[(bk,.cells (d'.toList.flatMap vE++sp).toArray 182 (0,0))],⟨g1,g2,g3,g4,λk hk hM=>g5 k hk (λe=>hM (by subst e;simp)),λ_ _ e=>e,λ_ _=>rfl,λk o e=>?_,λq hq=>?_,?_,?_,?_⟩,rfl,rfl,d'.toList,hperm',?_,?_⟩
  .have hne:k≠bk:=λe'=>by
    have:=hp.free _ (xC.2 rfl)
    simp only at this
    rw[e',this]at e;cases e
   exact(g5 k (gY (hp.imm k o e)) hne).trans (hp.imm k o e)
  .rw[xC.1 hq];exact hnew
  .simp
  .intro q hq;rw[xC.1 hq];exact hp.free (bk,jJ (xs.flatMap vE++sp).toArray 182 (0,0)) (xC.2 rfl)
  .intro q hq;rw[xC.1 hq];exact .inr (by simp)
  .rw[List.pairwise_iff_getElem]
   intro i j hi hj hij
   have hj':j<d'.size:=by simpa using hj
   have hi':i<d'.size:=by simpa using hi
   have:=hsorted i j (qM _) hij (by omega)
   rw[Tryz.ltSeat,getElem!_pos _ j hj',getElem!_pos _ i hi']at this
   simp only[Array.getElem_toList]
   simpa using this
  .refine .inr ⟨bk,d'.toList.flatMap vE,sp,rfl,Do h _,?_,?_,?_,rfl⟩
   .rw[jA,sd,hperm'.length_eq,←sd,←jA];exact hlen
   .rw[hperm'.length_eq];exact hcap
   .rw[hperm'.length_eq];exact hmax
theorem ue(h:HF)(it:Value)(ks:List OSeat)(hit:F8 prog it (λ(k:OSeat)(_:HF)(vs:List Value)=>vs=[Sk k]) (λxs=>xs.Perm ks) h)(hk:ks.length<=1000000000000):
  ju prog 179 [it,.func (.func 178) #[] #[]] h (λv h'=>∃(b:Option Addr)(c:Nat)(ys:List OSeat),ys.Perm ks/\ys.Pairwise (λx y=>x.person<=y.person)/\v=.slice b ys.length c/\SlC Uj h' b c ys):=by
 refine cB func179 rfl ntmps179 rfl λX hM hX=>?_
 refine dK (bC (gg (aF (dK (bC (av ?_))))))
 refine aA (AQ call273 (Gb h it _ hit (λxs hx=>by rw[hx.length_eq];exact hk)) rfl (λh' xs bb c G hle hxs hG=>?_))
 refine gg (aF (dK (bC (av (av ?_)))))
 refine aA (m9 [] G [] call274 (uA h' xs bb c G hG (by rw[hxs.length_eq];exact hk)) (by simp) rfl (λG' hG'=>?_))
 obtain⟨ys,hp,hs,hG'⟩:=hG'
 refine aF (dK (bC (av (gg (aF ?_)))))
 refine fx OSeat.aj [] G' [] (by simp) hM hG' (λh2 hle2 sl=>?_)
 exact jY [.slice bb xs.length c] func179 rfl ⟨rfl,trivial⟩ ⟨bb,c,ys,hp.trans hxs,hs,by rw[hp.length_eq];rfl,sl⟩
end
section
open Go.Proofs Go.Proofs.Tryz
set_option maxHeartbeats 2000000
theorem xi(h:HF)(m:List (OSeat×Appoint))(Lb:Nat)(m_q:Addr)(office:Int)(office_q:Addr)(hm:tw Sk (iP vH) h Lb m)(am:At h m_q [.map (some Lb)])(aoffice:At h office_q [I office])(hsz:m.length<=1000000000):Itr prog (.func (.func 177) #[] (kB [.pointer (some m_q),.pointer (some office_q)])) ou (bX m office) h:=by
 refine sR call177 ?_
 intro yf ya yb C Sp Pn h1 A hle m1 m2 m3 hC hy
 refine jb Nw U ntmps177 U λX hXM hX=>?_
 have hs0:bX m office=[]++bX m office:=rfl
 refine qT 6 U (dj ty162 (am.mono hle) U (aA (cR call180 (xp h1 m Lb (hm.mono (iP.mono xQ) hle)) U (λv1 h2 hle1 hp1=>av (aA (cR call179 (ue h2 v1 (m.map Prod.fst) hp1 (by rw[List.length_map];omega)) U (λv2 h3 hle2 hp2=>?_)))))))
 obtain⟨rb1,rc1,ys_,hper_,hsrt_,rfl,sl1⟩:=hp2
 have RH:bX m office=[]++((bX.L1 m office (bX.K1)) ys_):=Gv (by obtain⟨_,_,q⟩:=hm;exact q.nodup) hper_ hsrt_
 refine qL 3 [] U ?_
 refine lp2 ys_ (λi w=>[(0,.func yf ya yb),(1,.pointer (some m_q)),(2,.pointer (some office_q)),(11,.slice rb1 ys_.length rc1),(12,I (ys_.length:Int)),(13,I (i:Int))]) (λw=>w.2.2) (λw=>w.2.1) (λi w=>C w.1 w.2.2 w.2.1/\xN h3 w.2.2) (λs1 i w=>w.1++(bX.L1 m office (bX.K1)) s1) ([],A,h3) sl1.1.1 RH ⟨(m1 _ _ _ _ (hle1.t hle2) hC),lf⟩ ?_ ?_
 .rintro i1 ⟨dn1,A1_,hh1⟩ fm hs1 ⟨hC1_,hl1⟩ e
  refine ef ?_
  have hs2:bX m office=dn1:=hs1.trans (List.append_nil _)
  exact sS [] (A:=A1_) Nw U (List.Sublist.refl _) (.inl (hs2▸hC1_))
 rintro i1 ⟨dn1,A1_,hh1⟩ y1 rz1 hd1 df aS ek gu hs3 ⟨hC1_,hl1⟩ hx1 ag1 e
 refine sr (tO df U (qO 8 U (aA (iF vE Qq ty182 (sl1.mono OSeat.aj hl1).1 aS U U U (λq2 A2=>dt ty182 A2 U U (aT zc182 (λb3=>aO 0 ty182 U U U U U U (im (L':=[(b3,O (vE y1) 182)]++(A1_)) U (qO 3 U (dj ty162 (am.mono (((hle.t hle1).t hle2).t hl1)) U (cM 0 ty182 U U U ?_)))))))))))
 obtain⟨o2,hb2,hm2⟩:=(hm.mono (iP.mono xQ) (((hle.t hle1).t hle2).t hl1))
 refine aA (ny (k:=y1) LG vh hb2 hm2 (eX zv89) (show(iP vH) _ (.agg (kB [I 0,I 0,I 0,I 0,I 0,I 0,.bool false])) (kD 0 0 0 0 0 0 false)from⟨_,U,U⟩) U U (λv4 hv2=>?_))
 obtain⟨_,rfl,rfl⟩:=hv2
 refine aT zc89 (λb4=>aO 0 ty89 U U U U U U (im (L':=[(b4,O (jR (mgetD m y1 (kD 0 0 0 0 0 0 false))) 89),(b3,O (vE y1) 182)]++(A1_)) U (qL 5 [1] U (dj ty3 (aoffice.mono (((hle.t hle1).t hle2).t hl1)) U (qO 2 U (bp 4 [24,25,26,27,28] 24 28 (!((mgetD m y1 (kD 0 0 0 0 0 0 false)).Gone)) U (λc1 hk1=>?_) (λe=>?_)))))))
 .exact qL 4 [0] U (hk1 _ U)
 refine av (uz 29 U (λc2=>?_) (λc2=>?_))
 .have hs4:=hs3.trans (congrArg (dn1++·) (bt c2))
  refine qL 5 [0,0] U (aA (fI (cells:=[I ((mgetD m y1 (kD 0 0 0 0 0 0 false)).Person),I ((mgetD m y1 (kD 0 0 0 0 0 0 false)).Weight)]) (places:=[(0,1),(1,1)]) underlying158 zc158 kr kr ?_))
  have hx1:bX m office=dn1++((UT ((mgetD m y1 (kD 0 0 0 0 0 0 false)).Person) ((mgetD m y1 (kD 0 0 0 0 0 0 false)).Weight))::(bX.L1 m office (bX.K1) rz1)):=hs4
  refine aA (kp ([(b4,O (jR (mgetD m y1 (kD 0 0 0 0 0 0 false))) 89),(b3,O (vE y1) 182)]) A1_ ap (hy dn1 (UT ((mgetD m y1 (kD 0 0 0 0 0 0 false)).Person) ((mgetD m y1 (kD 0 0 0 0 0 0 false)).Weight)) _ _ _ _ hx1 ((hle1.t hle2).t hl1) hC1_ U) U U (λh4 A3 hle3 hC1=>?_) (λh5 A4 hle4 hS1=>?_) (λch1 h6 A5 hle5 hP1 e=>gy (mP [] (A:=A5) Nw (List.sublist_append_right _ _) hP1)))
  .have hs5:bX m office=(dn1++[(UT ((mgetD m y1 (kD 0 0 0 0 0 0 false)).Person) ((mgetD m y1 (kD 0 0 0 0 0 0 false)).Weight))])++((bX.L1 m office (bX.K1) rz1)):=hx1.trans ap
   exact mU U (qO 6 U (oi i1 U (qO 2 U (bo (L':=A3) js (ag1 ((dn1++[(UT ((mgetD m y1 (kD 0 0 0 0 0 0 false)).Person) ((mgetD m y1 (kD 0 0 0 0 0 0 false)).Weight))]),A3,h4) hs5 ⟨hC1,(hl1.t hle3)⟩)))))
  exact mU U (qO 3 U (ef (mE [] (A:=A4) Nw U js (.inr hS1))))
 have hs6:=hs3.trans (congrArg (dn1++·) (bf c2))
 exact kq (qO 12 U (oi i1 U (qO 2 U (bo (L':=A1_) js (ag1 (dn1,A1_,hh1) hs6 ⟨hC1_,hl1⟩)))))
theorem Ad(h:HF)(m:List (OSeat×Appoint))(Lb:Nat)(office:Int)(hm:tw Sk (iP vH) h Lb m)(hsz:m.length<=1000000000):ju prog 92 [.map (some Lb),I office] h (λv h'=>∃(rv0:Value),v=rv0/\Itr prog rv0 ou (i8 m office) h'):=by
 refine sT func92 U ntmps92 U λX hM hX hF=>?_
 have hs0:=@rfl _ (i8 m office)
 refine sr (cv (λb1=>cv (λb2=>qO 4 U (aQ 1 U hM (λh1 hle1 hb1=>aQ 0 U hM (λh2 hle2 hb2=>aA (eA U U (an ?_))))))))
 have hs1:i8 m office=(bX m office):=hs0
 exact nretH [.func (.func 177) #[] #[Q b1,Q b2]] (hs1▸⟨(.func (.func 177) #[] #[Q b1,Q b2]),U,(xi h2 m Lb ⟨b1,0,none⟩ office ⟨b2,0,none⟩ (hm.mono (iP.mono xQ) (hle1.t hle2)) ((cx hb1).mono hle2) (cx hb2) ob)⟩)
theorem Ae(h:HF)(l:List Appoint)(ep:Option Addr)(eo:Nat)(office:Int)(ba:Int)(known:Int)(hl:SlC vH h ep eo l)(hsz:l.length<=2000000):ju prog 24 [.slice ep l.length eo,I office,I ba,I known] h (λv h'=>∃(rb0:Option Addr)(rc0:Nat),v=.tuple #[.slice rb0 ((eQ l office ba known).1).length rc0,I ((eQ l office ba known).2)]/\SlC TX h' rb0 rc0 ((eQ l office ba known).1)):=by
 refine sT func24 U ntmps24 U λX hM hX hF=>?_
 have hs0:=@rfl _ (eQ l office ba known)
 refine qT 9 U (ai call65 (pT _ _ _ _ hl) U (qO 7 U (ae hs0 U (λc1 hs1=>?_) (λc1 hs2=>?_))))
 .refine qT 6 U ?_
  have hs3:eQ l office ba known=([],(dg l)):=hs1
  exact nretH [.slice none 0 0,I (dg l)] (hs3▸⟨none,0,U,kE⟩)
 refine qT 5 U (ai NR (lY h office) U (qO 2 U (bT 4 [18,19,20,21,22] 18 22 (!(dq ba)) U (λc2 hk1=>?_) (λe=>?_))))
 .exact av (ai Ea (iW h ba) U (qO 2 U (hk1 _ U)))
 refine av (bT 4 [23,24,25,26,27] 23 27 (!(dq known)) U (λc3 hk2=>?_) (λe=>?_))
 .exact av (ai Ea (iW h known) U (qO 2 U (hk2 _ U)))
 refine aF (ae hs2 U (λc4 hs4=>?_) (λc4 hs5=>?_))
 .refine qT 5 U ?_
  have hs6:eQ l office ba known=([],1):=hs4
  exact nretH [.slice none 0 0,I 1] (hs6▸⟨none,0,U,kE⟩)
 refine qT 6 U (aA (cR call93 (rI _ _ _ _ ba known hl) U (λv1 h1 hle1 hp1=>?_)))
 obtain⟨rk1,rfl,mo1⟩:=hp1
 refine av (aA (cR call92 (Ad h1 (dw l ba known) rk1 office mo1 (by have:=uY l ba known;omega)) U (λv2 h2 hle2 hp2=>?_)))
 obtain⟨_,rfl,mo2⟩:=hp2
 refine aA (cR call91 (ug h2 (i8 (dw l ba known) office) v2 mo2 (by have h1:=uY l ba known;have h2:=Da (dw l ba known) office;omega)) U (λv3 h3 hle3 hp3=>?_))
 obtain⟨rb1,rc1,rfl,sl1⟩:=hp3
 refine qO 3 U ?_
 have hs7:eQ l office ba known=((gi (i8 (dw l ba known) office)),0):=hs5
 exact nretH [.slice rb1 ((gi (i8 (dw l ba known) office)).length) rc1,I 0] (hs7▸⟨rb1,rc1,U,sl1⟩)
theorem tP(h:HF)(who:List Int)(sx:Option Addr)(su:Nat)(hwho:SlC zC h sx su who):Ret prog 96 [.slice sx who.length su] h (.bool (el who)):=by
 refine sT func96 U ntmps96 U λX hM hX hF=>?_
 have hs0:=@rfl _ (el who)
 refine qK 15 [] U ?_
 refine lp1 who (λi w=>[(3,I w),(6,.slice sx who.length su),(7,I (who.length:Int)),(8,I (i:Int))]) ([]) (λs1 i w=>(el.L1 (el.K1)) s1 w) (-1) hwho.1.1 hs0 ?_ ?_
 .rintro i1 iu fm hs1 e
  exact sr (an (nretP [.bool true] (cs hs1)))
 rintro i1 iu y1 rz1 hd1 df aS ek gu hs3 hx1 ag1 e
 refine sr (tO df U (qO 8 U (aA (iF (λy=>[I y]) ec ty3 hwho.1 aS U U U (λq2 A2=>dj ty3 A2 U (qO 9 U (bT 3 [15,16,17,18] 15 18 (decide (64<=y1)) U (λc1 hk1=>?_) (λe=>?_))))))))
 .exact av (qO 2 U (hk1 _ U))
 refine aF (ae hs3 U (λc2 hs4=>?_) (λc2 hs5=>?_))
 .exact sr (an (nretP [.bool false] (cs hs4)))
 exact aI (qT 6 U (oi i1 U (qO 2 U (ag1 y1 hs5))))
theorem Cb(h:HF)(holders:List (List Holder))(kv:Option Addr)(ku:Nat)(offices:Int)(hholders:SlC (Rp.sl TX) h kv ku holders)(hsz0:∀y∈holders,y.length<=2000000):Ret prog 95 [.slice kv holders.length ku,I offices] h (.bool (dI holders offices)):=by
 refine sT func95 U ntmps95 U λX hM hX hF=>?_
 have hs0:=@rfl _ (dI holders offices)
 refine qK 11 [] U ?_
 refine lp2 holders (λi w=>[(0,.slice kv holders.length ku),(1,I offices),(10,.slice kv holders.length ku),(11,I (holders.length:Int)),(12,I (i:Int))]) (λw=>w) (λw=>[]) (λi w=>xN h w) (λs1 i w=>(dI.L1 (dI.K1 holders offices)) s1) h hholders.1.1 hs0 lf ?_ ?_
 .rintro i1 hh1 fm hs1 hl1 e
  try dsimp only at hl1
  exact qK 8 [] U (nretP [.bool ((holders.length:Int)==offices)] (cs hs1))
 rintro i1 hh1 y1 rz1 hd1 df aS ek gu hs3 hl1 hx1 ag1 e
 try dsimp only at hl1
 have hszy:=hsz0 y1 (fN hd1)
 refine sr (tO df U (qO 8 U (aA (iG Nv ty68 (hholders.mono (Rp.yn Tv) hl1).1 aS U U U (λq3 cs2 A3 ln2 rr2=>?_)))))
 obtain⟨rb2,rc2,rfl,sl2⟩:=rr2
 refine dj ty68 A3 U (qL 13 [] U ?_)
 refine lp2 y1 (λi w=>[(0,.slice kv holders.length ku),(1,I offices),(7,.slice w.2.1 w.1.length w.2.2.1),(10,.slice kv holders.length ku),(11,I (holders.length:Int)),(12,I (i1:Int)),(16,.slice rb2 y1.length rc2),(17,I (y1.length:Int)),(18,I (i:Int))]) (λ_=>hh1) (λw=>w.2.2.2) (λi w=>du zC 3 hh1 w.1 w.2.1 w.2.2.1 w.2.2.2/\w.1.length<=0+i) (λs3 i w=>(dI.L3 (λzg3_7=>(bif(!(el zg3_7))then false else(dI.L1 (dI.K1 holders offices) rz1)))) s3 w.1) ([],none,0,[]) sl2.1.1 hs3 ⟨du.nil,lo⟩ ?_ ?_
 .rintro i3 ⟨Na,Rr,Rq,ON⟩ yP hs4 ⟨J5,OM⟩ e
  try dsimp only at J5 OM
  refine qT 3 U (pP xH ([]) ON ([]) ap hM J5 (λh1 hle1 sl3=>ai call96 (tP _ _ _ _ sl3) U (qO 2 U (ae hs4 U (λc2 hs5=>?_) (λc2 hs6=>?_)))))
  .exact sr (an (nretP [.bool false] (cs hs5)))
  exact aI (qT 2 U (oi i1 U (qO 2 U (ag1 h1 hs6 (hl1.t hle1)))))
 rintro i3 ⟨Na,Rr,Rq,ON⟩ y3 rz3 hd3 Cr Dd Db P4 hs8 ⟨J5,OM⟩ hx3 ag2 e
 try dsimp only at J5 OM
 refine sr (tO Cr U (qO 8 U (aA (iF Sn Nx ty158 sl2.1 Dd U U U (λq5 A5=>dt ty158 A5 U U (aT zc158 (λb3=>aO 0 ty158 U U U U U U (im (L':=[(b3,O (Sn y3) 158)]++(ON)) U (qL 8 [0] U (bT 4 [25,26,27,28,29] 25 29 (decide (64<y3.Weight)) U (λc3 hk1=>?_) (λe=>?_)))))))))))
 .exact qL 4 [0] U (hk1 _ U)
 refine aF (ae hs8 U (λc4 hs9=>?_) (λc4 hs10=>?_))
 .exact sr (an (nretP [.bool false] (cs hs9)))
 exact qK 5 [0] U (aA (bE (cells:=[I y3.Person]) ec ty3 zc3 U U kr (λb4=>aA (dE TN ([(b4,O [I y3.Person] 3),(b3,O (Sn y3) 158)]) ([]) (λG=>[(b4,O [I y3.Person] 3),(b3,O (Sn y3) 158)]++G) ap (λ_=>ap) ec ty3 zc3 U bytes3 J5 U U (e8 0 U (cE (y3.Person) U U)) lo lo (λob1 oc1 G1 gr1=>qO 4 U (oi i3 U (qO 2 U (bo (L':=G1) js (ag2 ((Na++[y3.Person]),ob1,oc1,G1) hs10 ⟨gr1,lo⟩)))))))))
theorem rW(h:HF)(q:aW)(tl:iA)(q_q:Addr)(office:Int)(office_q:Addr)(hq:aW.ok h q tl)(aq:At h q_q (aW.cells q tl))(aoffice:At h office_q [I office])(hno:0<=office/\office<(q.holders.length:Int))(hso:q.who.Pairwise (·<=·))(hsw:q.who.length<=2000000):Itr prog (.func (.func 330) #[] (kB [.pointer (some q_q),.pointer (some office_q)])) ou (bU q office) h:=by
 refine sR call330 ?_
 intro yf ya yb C Sp Pn h1 A hle m1 m2 m3 hC hy
 refine jb Nu U ntmps330 U λX hXM hX=>?_
 have hs0:bU q office=[]++bU q office:=rfl
 refine qK 3 [] U (iZ (j:=1) ty67 (aq.mono hle) U U (dj ty3 (aoffice.mono hle) U ?_))
 have ho1:0<=(office:Int)/\(office:Int)<((q.holders).length:Int):=ob
 refine aA (LY Nv ty68 (hq.holders.mono (Rp.yn Tv) hle).1 ho1 (cV ho1) U U U (λq1 cs1 A1 ln1 rr1=>?_))
 obtain⟨rb1,rc1,rfl,sl1⟩:=rr1
 refine dj ty68 A1 U (qL 3 [] U ?_)
 refine lp2 (nthI q.holders office) (λi w=>[(0,.func yf ya yb),(1,.pointer (some q_q)),(12,.slice rb1 ((nthI q.holders office).length) rc1),(13,I ((nthI q.holders office).length:Int)),(14,I (i:Int))]) (λw=>w.2.2) (λw=>w.2.1) (λi w=>C w.1 w.2.2 w.2.1/\xN h1 w.2.2) (λs1 i w=>w.1++(bU.L1 q (bU.K1)) s1) ([],A,h1) sl1.1.1 hs0 ⟨hC,lf⟩ ?_ ?_
 .rintro i1 ⟨dn1,A1_,hh1⟩ fm hs1 ⟨hC1_,hl1⟩ e
  refine ef ?_
  have hs2:bU q office=dn1:=hs1.trans (List.append_nil _)
  exact sS [] (A:=A1_) Nu U (List.Sublist.refl _) (.inl (hs2▸hC1_))
 rintro i1 ⟨dn1,A1_,hh1⟩ y1 rz1 hd1 df aS ek gu hs3 ⟨hC1_,hl1⟩ hx1 ag1 e
 refine sr (tO df U (qO 8 U (aA (iF Sn Nx ty158 (sl1.mono Tv hl1).1 aS U U U (λq3 A6=>dt ty158 A6 U U (aT zc158 (λb2=>aO 0 ty158 U U U U U U (im (L':=[(b2,O (Sn y1) 158)]++(A1_)) U (qL 4 [] U (iZ (j:=2) ty31 (aq.mono (hle.t hl1)) U U (qL 2 [0] U (ai call114 (m8 _ _ _ _ y1.Person (hq.who.mono xH (hle.t hl1)) ob ob) U (qO 10 U (uz 27 U (λc2=>?_) (λc2=>?_)))))))))))))))
 .have hs4:=hs3.trans (congrArg (dn1++·) (bt c2))
  refine av (cM 0 ty158 U U U ?_)
  have hx2:bU q office=dn1++(y1::(bU.L1 q (bU.K1) rz1)):=hs4
  refine aA (kp ([(b2,O (Sn y1) 158)]) A1_ ap (hy dn1 y1 _ _ _ _ hx2 hl1 hC1_ U) U U (λh5 A7 hle4 hC2=>?_) (λh6 A8 hle5 hS2=>?_) (λch2 h7 A9 hle6 hP2 e=>gy (mP [] (A:=A9) Nu (List.sublist_append_right _ _) hP2)))
  .have hs5:bU q office=(dn1++[y1])++((bU.L1 q (bU.K1) rz1)):=hx2.trans ap
   exact mU U (qO 6 U (oi i1 U (qO 2 U (bo (L':=A7) js (ag1 ((dn1++[y1]),A7,h5) hs5 ⟨hC2,(hl1.t hle4)⟩)))))
  exact mU U (qO 3 U (ef (mE [] (A:=A8) Nu U js (.inr hS2))))
 have hs6:=hs3.trans (congrArg (dn1++·) (bf c2))
 exact kq (qO 8 U (oi i1 U (qO 2 U (bo (L':=A1_) js (ag1 (dn1,A1_,hh1) hs6 ⟨hC1_,hl1⟩)))))
theorem nJ(h:HF)(q:aW)(tl:iA)(office:Int)(hq:aW.ok h q tl)(hno:0<=office/\office<(q.holders.length:Int))(hso:q.who.Pairwise (·<=·))(hsw:q.who.length<=2000000):ju prog 285 [.agg (aW.cells q tl).toArray,I office] h (λv h'=>∃(rv0:Value),v=rv0/\Itr prog rv0 ou (dW q office) h'):=by
 refine sT func285 U ntmps285 U λX hM hX hF=>?_
 have hs0:=@rfl _ (dW q office)
 refine sr (cv (λb1=>cv (λb2=>qO 4 U (aQ 1 U hM (λh1 hle1 hb1=>aQ 0 U hM (λh2 hle2 hb2=>aA (eA U U (an ?_))))))))
 have hs1:dW q office=(bU q office):=hs0
 exact nretH [.func (.func 330) #[] #[Q b1,Q b2]] (hs1▸⟨(.func (.func 330) #[] #[Q b1,Q b2]),U,(rW h2 q tl ⟨b1,0,none⟩ office ⟨b2,0,none⟩ (hq.mono (hle1.t hle2)) ((cx hb1).mono hle2) (cx hb2) ob ob ob)⟩)
theorem uo(h:HF)(q:aW)(tl:iA)(x:Expr)(fT:cN)(hq:aW.ok h q tl)(hx:zG h x fT)(hno:0<=x.No/\x.No<(q.holders.length:Int))(hso:q.who.Pairwise (·<=·))(hsw:q.who.length<=2000000):Ret prog 186 [.agg (aW.cells q tl).toArray,.agg (vC x fT).toArray] h (.bool (dT q x)):=by
 refine cB KS U ntmps186 U λX hM hX=>?_
 have hs0:=@rfl _ (dT q x)
 refine sr (cv (λb1=>cv (λb2=>aT zc4 (λb3=>qO 4 U (cM 2 ty167 U U U (qL 2 [1] U (aA (cR call285 (nJ _ _ _ x.No hq ob ob ob) U (λv1 h1 hle1 hp1=>?_)))))))))
 obtain⟨_,rfl,mo1⟩:=hp1
 refine qO 2 U (ef ?_)
 let z1:Nat×Obj:=(b1,O (aW.cells q tl) 167)
 let z2:Nat×Obj:=(b2,O (vC x fT) 62)
 refine cg (L':=([(b3,O [.bool false] 4),z2,z1])++markB []) ap ?_
 refine jw (it:=v1) (xs:=(dW q x.No)) (ι:=Bool×HF) [] (λi=>i.2) (λi=>[(b3,O [.bool i.1] 4),z2,z1]) (λs i=>dT q x=((dT.L1 (dT.K1)) s i.1)/\xN h1 i.2) (λi=>dT q x=i.1/\xN h1 i.2) (λ_=>False) 0 (λ_ _ _=>False) (false,h1) KS U mo1 U sP (λ_ _ _ _ _ hq=>hq) U (show[(b3,O [.bool false] 4),z2,z1]=_ from U) ⟨hs0,lf⟩ ?_ ?_ ?_ ?_ ?_
 .rintro l1 dm1 lp1 y1 rz1 vs1 ⟨cf,hh1⟩ hr1 X hFR1 ⟨hs1,hl1⟩ hl01 hlr1 hv1 hX hXM hlp1 nx1 rt1 ex1 pn1
  obtain rfl:=hv1
  exact cg (L':=[(l1,.loop lp1),(dm1,.deferred (some [])),(b3,O [.bool cf] 4),z2,z1]++(markB [])) ap (aI (ji 0 U hlp1 (qT 3 U (cJ 2 ty4 U U U U U U (aF (cg (L':=rdH l1 dm1 lp1 (([(b3,O [.bool true] 4),z2,z1])++markB [])) ap (rt1 (true,hr1) _ _ _ ⟨hs1,(hl1.t hlr1)⟩ lf)))))))
 .rintro dm1 ⟨cf,hh1⟩ hn1 ⟨hs2,hl1⟩ hln1 hl01
  refine cg (L':=[(b3,O [.bool cf] 4),z2,z1]++(markB (dm1::[]))) ap (qT 3 U (cJ 0 ty4 U U U U U U (aF ?_)))
  have hs3:dT q x=false:=hs2
  exact cg (L':=([(b3,O [.bool false] 4),z2,z1])++markB (dm1::[])) ap (sA (dm1::[]) [.bool false] KS U hX ⟨⟨0,_,_,_,_,U,U,.inr ⟨_,ty4,U⟩⟩,trivial⟩ (cs hs3))
 .rintro dm1 ⟨cf,hh1⟩ hn1 ⟨hs4,hl1⟩ hln1 hl01
  refine cg (L':=[(b3,O [.bool cf] 4),z2,z1]++(markB (dm1::[]))) ap ?_
  have hs5:dT q x=cf:=hs4
  exact cg (L':=([(b3,O [.bool cf] 4),z2,z1])++markB (dm1::[])) ap (sA (dm1::[]) [.bool cf] KS U hX ⟨⟨0,_,_,_,_,U,U,.inr ⟨_,ty4,U⟩⟩,trivial⟩ (cs hs5))
 .exact xf
 exact xf
end
section
open Go.Proofs Go.Proofs.Tryz
theorem IE(h:HF)(x:Holder)(s:Int)(bk:Nat):nu prog 286 [.agg (Sn x).toArray,.pointer (some ⟨bk,0,none⟩)].toArray h [(bk,jJ (kB [.int .i64 s]) 3 (0,0))]
  (λr h' B=>r=.returned (.tuple #[])/\h'=h/\B=[(bk,jJ (kB [.int .i64 (jC .i64 (s+x.Weight))]) 3 (0,0))]):=by
 refine cB func286 rfl ntmps286 rfl λX hM hX=>?_
 refine dK (bC (cv (λb2=>aF (bC (nN 1 ty3 rfl rfl rfl (jq O8 rfl (nN 0 ty3 rfl rfl rfl (Mb rfl (cJ 1 ty3 rfl rfl rfl rfl rfl rfl (aF ?_))))))))))
 exact wP func286 (λa _ w _=>mg rfl a w) (λw hw=>hw.sub (List.sublist_cons_self _ _)) ⟨rfl,rfl,rfl⟩
end
section
open Go.Proofs Go.Proofs.Tryz
set_option maxHeartbeats 2000000
theorem sN(h:HF)(q:aW)(tl:iA)(x:Expr)(fT:cN)(hq:aW.ok h q tl)(hx:zG h x fT)(hno:0<=x.No/\x.No<(q.holders.length:Int))(hso:q.who.Pairwise (·<=·))(hsw:q.who.length<=2000000):Ret prog 187 [.agg (aW.cells q tl).toArray,.agg (vC x fT).toArray] h (.bool (cT q x)):=by
 refine cB func187 U ntmps187 U λX hM hX=>?_
 have hs0:=@rfl _ (cT q x)
 refine sr (cv (λb1=>cv (λb2=>qO 4 U (aT zc3 (λb3=>cJ 0 ty3 U U U U U U (qO 3 U (aA (eA U U (aT zc330 (λb4=>cJ 0 ty330 U U U U U U (qO 4 U (cM 3 ty167 U U U (qL 2 [2] U (aA (cR call285 (nJ _ _ _ x.No hq ob ob ob) U (λv1 h1 hle1 hp1=>?_))))))))))))))))
 obtain⟨_,rfl,mo1⟩:=hp1
 refine qO 2 U (ef ?_)
 let z1:Nat×Obj:=(b4,O [.func (.func 286) #[] #[Q b3]] 330)
 let z2:Nat×Obj:=(b1,O (aW.cells q tl) 167)
 let z3:Nat×Obj:=(b2,O (vC x fT) 62)
 refine cg (L':=([z1,(b3,O [I 0] 3),z3,z2])++markB []) ap ?_
 refine jw (it:=v1) (xs:=(dW q x.No)) (ι:=Int×HF) [] (λi=>i.2) (λi=>[z1,(b3,O [I i.1] 3),z3,z2]) (λs i=>cT q x=((cT.L1 (cT.K1 x)) s i.1)/\xN h1 i.2) (λ_=>False) (λ_=>False) 0 (λ_ _ _=>False) (0,h1) func187 U mo1 U sP (λ_ _ _ _ _ hq=>hq) U (show[z1,(b3,O [I 0] 3),z3,z2]=_ from U) ⟨hs0,lf⟩ ?_ ?_ ?_ ?_ ?_
 .rintro l1 dm1 lp1 y1 rz1 vs1 ⟨cf,hh1⟩ hr1 X hFR1 ⟨hs1,hl1⟩ hl01 hlr1 hv1 hX hXM hlp1 nx1 rt1 ex1 pn1
  obtain rfl:=hv1
  refine cg (L':=[(l1,.loop lp1),(dm1,.deferred (some [])),z1,(b3,O [I cf] 3),z3,z2]++(markB [])) ap (bC (aT zc158 (λb6=>aO 0 ty158 U U U U U U (aF (ji 1 U hlp1 (qK 3 [3] U (cM 0 ty158 U U U (aA (Og 4 (o':=O [I (jC .i64 (cf+y1.Weight))] 3) U (m7 (args:=[.agg (Sn y1).toArray]) (cap:=[Q b3]) call286 (IE hr1 y1 cf b3)) U U (qO 2 U ?_))))))))))
  let z4:Nat×Obj:=(b3,O [I (jC .i64 (cf+y1.Weight))] 3)
  exact bo (L':=[(l1,.loop { lp1 with state:=.busy }),(dm1,.deferred (some [])),z1,z4,z3,z2]++(markB [])) js (cg (L':=rdH l1 dm1 lp1 (([z1,z4,z3,z2])++markB [])) ap (nx1 ((jC .i64 (cf+y1.Weight)),hr1) _ _ ⟨hs1,(hl1.t hlr1)⟩ lf))
 .rintro dm1 ⟨cf,hh1⟩ hn1 ⟨hs2,hl1⟩ hln1 hl01
  refine cg (L':=[z1,(b3,O [I cf] 3),z3,z2]++(markB (dm1::[]))) ap (qK 9 [1,2] U ?_)
  have hs3:cT q x=decide (x.N<=cf):=hs2
  exact cg (L':=([z1,(b3,O [I cf] 3),z3,z2])++markB (dm1::[])) ap (sA (dm1::[]) [.bool (decide (x.N<=cf))] func187 U hX rd (cs hs3))
 .exact xf
 .exact xf
 exact xf
theorem uD(rec:aW->Expr->Bool)(h:HF)(q:aW)(tl:iA)(x:Expr)(fT:cN)(hrec:∀(h:HF)(qq:aW)(BZ:iA)(qx:Expr)(kz:cN)(hqq:aW.ok h qq BZ)(hqx:zG h qx kz)(hok:OkX (qq.holders.length:Int) qx)(hso:qq.who.Pairwise (·<=·))(hsw:qq.who.length<=2000000)(_:qx.dep<x.dep),Ret prog 97 [.agg (aW.cells qq BZ).toArray,.agg (vC qx kz).toArray] h (.bool (rec qq qx)))(hq:aW.ok h q tl)(hx:zG h x fT)(hok:OkX (q.holders.length:Int) x)(hso:q.who.Pairwise (·<=·))(hsw:q.who.length<=2000000):Ret prog 188 [.agg (aW.cells q tl).toArray,.agg (vC x fT).toArray] h (.bool (dS.F rec q x)):=by
 refine sT func188 U ntmps188 U λX hM hX hF=>?_
 have hs0:=@rfl _ (dS.F rec q x)
 refine sr (cv (λb1=>cv (λb2=>qL 14 [0] U ?_)))
 let z1:Nat×Obj:=(b1,O (aW.cells q tl) 167)
 let z2:Nat×Obj:=(b2,O (vC x fT) 62)
 refine lp1 x.L (λi w=>[(2,Q b1),(3,Q b2),(5,I w),(9,.slice fT.mb x.L.length fT.mq),(10,I (x.L.length:Int)),(11,I (i:Int))]) ([z2,z1]) (λs1 i w=>(dS.L1 rec q (dS.K1 x)) s1 w) 0 hx.list.1.1 hs0 ?_ ?_
 .rintro i1 eO fm hs1 e
  exact qK 8 [0] U (nretP [.bool (decide (x.N<=eO))] (cs hs1))
 rintro i1 eO y1 rz1 hd1 df aS ek gu hs3 hx1 ag1 e
 have hoy:=hok.sub y1 (fN hd1)
 refine sr (tO df U (qO 8 U (aA (iR lB ty62 hx.list.1 aS U U U (λ_ _ _ e=>e) (λq2 r2 A2 ok2=>dt ty62 A2 U U (aT zc62 (λb4=>aO 0 ty62 U U U U U U (qO 3 U (cM 2 ty167 U U U (cM 0 ty62 U U U (ai KR (hrec _ _ _ _ _ hq ok2 ob ob ob (R3 (fN hd1))) U (aF (ae hs3 U (λc2 hs4=>?_) (λc2 hs5=>?_))))))))))))))
 .exact bC (qO 6 U (oi i1 U (qO 2 U (bo (L':=[z2,z1]) js (ag1 (jC .i64 (eO+1)) hs4)))))
 exact aI (qT 2 U (oi i1 U (qO 2 U (bo (L':=[z2,z1]) js (ag1 eO hs5)))))
theorem tq(rec:aW->Expr->Bool)(h:HF)(q:aW)(tl:iA)(x:Expr)(fT:cN)(hrec:∀(h:HF)(qq:aW)(BZ:iA)(qx:Expr)(kz:cN)(hqq:aW.ok h qq BZ)(hqx:zG h qx kz)(hok:OkX (qq.holders.length:Int) qx)(hso:qq.who.Pairwise (·<=·))(hsw:qq.who.length<=2000000)(_:qx.dep<x.dep),Ret prog 97 [.agg (aW.cells qq BZ).toArray,.agg (vC qx kz).toArray] h (.bool (rec qq qx)))(hq:aW.ok h q tl)(hx:zG h x fT)(hok:OkX (q.holders.length:Int) x)(hso:q.who.Pairwise (·<=·))(hsw:q.who.length<=2000000)(hk4:x.Kind=4):Ret prog 189 [.agg (aW.cells q tl).toArray,.agg (vC x fT).toArray] h (.bool (j4.F rec q x)):=by
 refine sT func189 U ntmps189 U λX hM hX hF=>?_
 have hs0:=@rfl _ (j4.F rec q x)
 have hl2:=hok.two hk4
 refine sr (cv (λb1=>cv (λb2=>qL 11 [1,0] U (ae hs0 U (λc1 hs1=>?_) (λc1 hs2=>?_)))))
 .have c1p:=of_decide_eq_true c1
  refine dK (er ([(b2,O (vC x fT) 62),(b1,O (aW.cells q tl) 167)]) mixed kr jn (λdY _=>tf 0 U U (λ_ _ hj=>jg ty167 U (hj.nth (i:=1) U) U) (qB [1] U (tf 2 U U (rj 0 ty60 U U U) ?_))))
  have ho1:0<=(0:Int)/\(0:Int)<((x.L).length:Int):=ob
  refine jf 3 dY jn lB ty62 hx.list.1 ho1 (cV ho1) U U U U kr (λq1 cs1 A1 ln1 rr1=>?_)
  obtain⟨r1,rfl,ok1⟩:=rr1
  exact tf 4 U U (λ_ _ hj=>lL ty62 (A1.mono hj.1) U U) (tn 5 U (eZ KR (hrec _ _ _ _ _ hq ok1 (hok.sub _ (ni ob)) ob ob (R3 (ni ob))) U (⟨jn,(qA [6] U (aJ kr (nretP [.bool (rec q (nthI x.L 0))] (cs hs1))))⟩)))
 have c1p:=of_decide_eq_false c1
 refine qT 2 U (er ([(b2,O (vC x fT) 62),(b1,O (aW.cells q tl) 167)]) mixed kr jn (λmt _=>tf 0 U U (λ_ _ hj=>jg ty167 U (hj.nth (i:=1) U) U) (qB [1] U (tf 2 U U (rj 0 ty60 U U U) ?_))))
 have ho2:0<=(1:Int)/\(1:Int)<((x.L).length:Int):=ob
 refine jf 3 mt jn lB ty62 hx.list.1 ho2 (cV ho2) U U U U kr (λq2 cs2 A2 ln2 rr2=>?_)
 obtain⟨r2,rfl,ok2⟩:=rr2
 exact tf 4 U U (λ_ _ hj=>lL ty62 (A2.mono hj.1) U U) (tn 5 U (eZ KR (hrec _ _ _ _ _ hq ok2 (hok.sub _ (ni ob)) ob ob (R3 (ni ob))) U (⟨jn,(qA [6] U (aJ kr (nretP [.bool (rec q (nthI x.L 1))] (cs hs2))))⟩)))
theorem O4(rec:aW->Expr->Bool)(h:HF)(q:aW)(tl:iA)(x:Expr)(fT:cN)(hq:aW.ok h q tl)(hx:zG h x fT)(hrec:∀(h:HF)(qq:aW)(BZ:iA)(qx:Expr)(kz:cN)(_:aW.ok h qq BZ)(_:zG h qx kz)(_:OkX (qq.holders.length:Int) qx)(_:qq.who.Pairwise (·<=·))(_:qq.who.length<=2000000)(_:qx.dep<x.dep),Ret prog 97 [.agg (aW.cells qq BZ).toArray,.agg (vC qx kz).toArray] h (.bool (rec qq qx)))(hok:OkX (q.holders.length:Int) x)(hso:q.who.Pairwise (·<=·))(hsw:q.who.length<=2000000):
  tv prog (List.getD [.nilFunc,.func (.func 186) #[] #[],.func (.func 187) #[] #[],.func (.func 188) #[] #[],.func (.func 189) #[] #[]] x.Kind.toNat .nilFunc) [.agg (aW.cells q tl).toArray,.agg (vC x fT).toArray] h [] (.bool (fulQ rec q x)):=by
 have hk:=hok.kind
 have hc:x.Kind=1\/x.Kind=2\/x.Kind=3\/x.Kind=4:=by omega
 rcases hc with e|e|e|e
 .rw[show fulQ rec q x=dT q x from by simp[fulQ,e],e];exact iq (cap:=[]) call186 (uo h q tl x fT hq hx (hok.no ob) hso hsw)
 .rw[show fulQ rec q x=cT q x from by simp[fulQ,e],e];exact iq (cap:=[]) call187 (sN h q tl x fT hq hx (hok.no ob) hso hsw)
 .rw[show fulQ rec q x=dS.F rec q x from by simp[fulQ,e],e];exact iq (cap:=[]) call188 (uD rec h q tl x fT hrec hq hx hok hso hsw)
 rw[show fulQ rec q x=j4.F rec q x from by simp[fulQ,e],e];exact iq (cap:=[]) call189 (tq rec h q tl x fT hrec hq hx hok hso hsw e)
theorem rV(rec:aW->Expr->Bool)(h:HF)(q:aW)(tl:iA)(x:Expr)(fT:cN)(hrec:∀(h:HF)(qq:aW)(BZ:iA)(qx:Expr)(kz:cN)(hqq:aW.ok h qq BZ)(hqx:zG h qx kz)(hok:OkX (qq.holders.length:Int) qx)(hso:qq.who.Pairwise (·<=·))(hsw:qq.who.length<=2000000)(_:qx.dep<x.dep),Ret prog 97 [.agg (aW.cells qq BZ).toArray,.agg (vC qx kz).toArray] h (.bool (rec qq qx)))(hq:aW.ok h q tl)(hx:zG h x fT)(hok:OkX (q.holders.length:Int) x)(hso:q.who.Pairwise (·<=·))(hsw:q.who.length<=2000000):Ret prog 97 [.agg (aW.cells q tl).toArray,.agg (vC x fT).toArray] h (.bool (cI.F rec q x)):=by
 refine sT func97 U ntmps97 U λX hM hX hF=>?_
 have hs0:=@rfl _ (cI.F rec q x)
 have hkd:=hok.kind
 refine sr (cv (λb1=>cv (λb2=>qO 4 U (aA (Oh (cells:=[.nilFunc,.func (.func 186) #[] #[],.func (.func 187) #[] #[],.func (.func 188) #[] #[],.func (.func 189) #[] #[]]) underlying261 ty260 zc261 kr (aT zc261 (λb3=>aO 0 ty261 U U U U U U (qO 2 U (eI 0 U hM (λh1 hle1 hb1=>er ([(b2,O (vC x fT) 62),(b1,O (aW.cells q tl) 167)]) mixed kr jn (λdY _=>qB [0] U (tf 1 U U (rj 0 ty3 U U U) ?_))))))))))))
 have ho1:0<=(x.Kind:Int)/\(x.Kind:Int)<5:=ob
 have A1:=Rc (cx hb1) ho1
 exact tf 2 U U (λ_ _ _=>Ol underlying261 ty260 U U ho1) (tf 3 U U (rh ty260 A1 U) (tf 4 U U (λ_ _ hj=>jg ty167 U (hj.nth (i:=1) U) U) (tf 5 U U (λ_ _ hj=>jg ty62 U (hj.nth (i:=0) U) U) (tn 6 U (lA (v:=.bool (fulQ rec q x)) [] (List.nil_sublist _) (O4 rec h1 q tl x fT (hq.mono hle1) (hx.mono hle1) hrec hok hso hsw) U U (⟨jn,(qA [7] U (aJ kr (nretP [.bool (fulQ rec q x)] (cs hs0))))⟩))))))
theorem mr:∀(m:Nat)(h:HF)(q:aW)(tl:iA)(x:Expr)(fT:cN)(_:x.dep<=m)(hq:aW.ok h q tl)(hx:zG h x fT)(hok:OkX (q.holders.length:Int) x)(hso:q.who.Pairwise (·<=·))(hsw:q.who.length<=2000000),Ret prog 97 [.agg (aW.cells q tl).toArray,.agg (vC x fT).toArray] h (.bool (cI.go m q x))
 |0,h,q,tl,x,fT,hd,hq,hx,hok,hso,hsw=>absurd hd (Nat.not_le.2 (Expr.lP _))
 |m+1,h,q,tl,x,fT,hd,hq,hx,hok,hso,hsw=>rV (cI.go m) h q tl x fT (λqh_ qq BZ qx kz qhq qhx qhok qhso qhsw qd=>mr m qh_ qq BZ qx kz ob qhq qhx qhok qhso qhsw) hq hx hok hso hsw
theorem sO(h:HF)(q:aW)(tl:iA)(x:Expr)(fT:cN)(hq:aW.ok h q tl)(hx:zG h x fT)(hok:OkX (q.holders.length:Int) x)(hso:q.who.Pairwise (·<=·))(hsw:q.who.length<=2000000):Ret prog 97 [.agg (aW.cells q tl).toArray,.agg (vC x fT).toArray] h (.bool (cI q x)):=mr _ h q tl x fT (jG _) hq hx hok hso hsw
theorem Aa(h:HF)(p:Policy)(gM:eR)(kind:Int)(value:Int)(holders:List (List Holder))(kv:Option Addr)(ku:Nat)(who:List Int)(sx:Option Addr)(su:Nat)(hp:vP h p gM)(hholders:SlC (Rp.sl TX) h kv ku holders)(hwho:SlC zC h sx su who)(hsm:smP p)(hsz0:∀y∈holders,y.length<=2000000)(hsw:who.length<=2000000)(hk:Kinds h):Ret prog 25 [.agg (xE p gM).toArray,I kind,I value,.slice kv holders.length ku,.slice sx who.length su] h (.tuple #[.bool ((dx p kind value holders who).1),I ((dx p kind value holders who).2)]):=by
 refine sT func25 U ntmps25 U λX hM hX hF=>?_
 have hs0:=@rfl _ (dx p kind value holders who)
 refine sr (cv (λb1=>qO 6 U (cM 0 ty64 U U U (ai call94 (tM _ _ _ hp ob hk) U (qO 7 U (ae hs0 U (λc1 hs1=>?_) (λc1 hs2=>?_)))))))
 .refine qT 6 U ?_
  have hs3:dx p kind value holders who=(false,(cQ p)):=hs1
  exact nretP [.bool false,I (cQ p)] (hs3▸U)
 refine qT 8 U (bT 6 [21,22,23,24,25,26,27] 21 27 (decide ((p.Kinds.length:Int)<=kind)) U (λc2 hk1=>?_) (λe=>?_))
 .exact qL 6 [0] U (hk1 _ U)
 refine av (bT 3 [28,29,30,31] 28 31 (decide (value<0)) U (λc3 hk2=>?_) (λe=>?_))
 .exact av (qO 2 U (hk2 _ U))
 refine av (bT 3 [32,33,34,35] 32 35 (decide (1099511627776<value)) U (λc4 hk3=>?_) (λe=>?_))
 .exact av (qO 2 U (hk3 _ U))
 refine an (ae hs2 U (λc5 hs4=>?_) (λc5 hs5=>?_))
 .refine qT 5 U ?_
  have hs6:dx p kind value holders who=(false,1):=hs4
  exact nretP [.bool false,I 1] (hs6▸U)
 refine qK 6 [0] U (ai call95 (Cb _ _ _ _ (p.Offices.length:Int) hholders ob) U (qO 3 U (ae hs5 U (λc6 hs7=>?_) (λc6 hs8=>?_))))
 .refine qT 5 U ?_
  have hs9:dx p kind value holders who=(false,210):=hs7
  exact nretP [.bool false,I 210] (hs9▸U)
 refine qT 3 U (ai call96 (tP _ _ _ _ hwho) U (qO 3 U (ae hs8 U (λc7 hs10=>?_) (λc7 hs11=>?_))))
 .refine qT 5 U ?_
  have hs12:dx p kind value holders who=(false,1):=hs10
  exact nretP [.bool false,I 1] (hs12▸U)
 refine qT 7 U (aA (fI (cells:=[I value,.slice kv holders.length ku,.slice sx who.length su]) (places:=[(0,1),(1,1),(2,1)]) underlying167 zc167 kr kr (qL 3 [0] U ?_)))
 have ho1:0<=(kind:Int)/\(kind:Int)<((p.Rules).length:Int):=(by have hq:=yz (by simpa using c1);simp only[decide_eq_true_eq,decide_eq_false_iff_not,Bool.and_eq_true,Bool.or_eq_true,Bool.not_eq_true',Bool.not_eq_false',Bool.and_eq_false_iff,Bool.or_eq_false_iff,beq_iff_eq,beq_eq_false_iff_ne,bne_iff_ne,bne_eq_false_iff_eq,jA,xA,vB,List.length_drop]at c5;omega)
 refine aA (uk wu ty79 hp.Rules.1 ho1 (cV ho1) U U U (λ_ _ _ e=>e) (λq1 r1 A1 ok1=>qL 1 [] U (Af (j:=3) ty62 A1 U U (ai KR (sO _ _ _ _ _ (show aW.ok h (aW.mk value holders who) (iA.mk kv ku sx su)from⟨hholders,hwho⟩) ok1.Expr (by have hq:=yz (by simpa using c1);have hr:=MW (by simpa using c6);show OkX (holders.length:Int) _;rw[hr];exact hq.2.2 _ (FI (ni ho1))) (Gq (by simpa using c7)) hsw) U (qO 3 U ?_)))))
 have hs13:dx p kind value holders who=((cI (aW.mk value holders who) ((nthI p.Rules kind).Expr)),0):=hs11
 exact nretP [.bool (cI (aW.mk value holders who) ((nthI p.Rules kind).Expr)),I 0] (hs13▸U)
theorem ut(h:HF)(c:bI)(nZ:jv)(p:Policy)(gM:eR)(who:List Int)(sx:Option Addr)(su:Nat)(hc:bI.ok h c nZ)(hp:vP h p gM)(hwho:SlC zC h sx su who)(hsm:smR c.Register)(hco:iH c)(hsp:smP p)(hofl:p.Offices.length<=32)(hsw:who.length<=2000000)(hk:Kinds h):Ret prog 135 [.agg (bI.cells c nZ).toArray,.agg (xE p gM).toArray,.slice sx who.length su] h (.bool (dG c p who)):=by
 refine sT func135 U ntmps135 U λX hM hX hF=>?_
 have hs0:=@rfl _ (dG c p who)
 refine sr (cv (λb1=>cv (λb2=>qL 14 [0] U ?_)))
 let z1:Nat×Obj:=(b1,O (bI.cells c nZ) 123)
 let z2:Nat×Obj:=(b2,O (xE p gM) 64)
 refine lp2 p.Offices (λi w=>[(2,.slice sx who.length su),(3,Q b1),(4,Q b2),(7,.slice w.2.1 w.1.length w.2.2.1),(15,I (p.Offices.length:Int)),(16,I (i:Int))]) (λw=>w.2.2.2.2) (λw=>[z2,z1]++(w.2.2.2.1)) (λi w=>du (Rp.sl TX) 68 w.2.2.2.2 w.1 w.2.1 w.2.2.1 w.2.2.2.1/\w.1.length<=0+i/\xN h w.2.2.2.2/\(∀y∈w.1,y.length<=2000000)) (λs1 i w=>(dG.L1 c (dG.K1 c p who)) s1 i w.1) ([],none,0,[],h) hp.Offices.1.1 hs0 ⟨du.nil,lo,lf,(λy hy=>(kA hy).elim)⟩ ?_ ?_
 .rintro i1 ⟨DJ,Rt,Rs,Qz,hh1⟩ fm hs1 ⟨Ka,OW,hl1,u1_0⟩ e
  try dsimp only at Ka OW hl1 u1_0
  refine sr (cM 0 ty64 U U U (qL 8 [1,1] U (pP (Rp.yn Tv) ([z2,z1]) Qz ([]) ap hM Ka (λh3 hle3 sl3=>ai call25 (Aa _ _ _ c.doc.Kind c.doc.Value _ _ _ _ _ _ (hp.mono (hl1.t hle3)) sl3 (hwho.mono xH (hl1.t hle3)) hsp ob ob (hk.mono (hl1.t hle3))) U (qO 10 U (bp 3 [52,53,54,55] 52 55 ((dx p c.doc.Kind c.doc.Value DJ who).2==0) U (λc1 hk1=>?_) (λe=>?_)))))))
  .exact av (qO 2 U (hk1 _ U))
  exact an (nretP [.bool ((dx p c.doc.Kind c.doc.Value DJ who).1&&((dx p c.doc.Kind c.doc.Value DJ who).2==0))] (cs hs1))
 rintro i1 ⟨DJ,Rt,Rs,Qz,hh1⟩ y1 rz1 hd1 df aS ek gu hs3 ⟨Ka,OW,hl1,u1_0⟩ hx1 ag1 e
 try dsimp only at Ka OW hl1 u1_0
 refine sr (tO df U (qL 21 [1,1,1] U (aA (cR call24 (Ae _ _ _ _ (i1:Int) c.at_ c.known (hc.Register.Appoints.mono xQ hl1) hsm.2.1) U (λv2 h4 hle4 hp2=>?_)))))
 obtain⟨rb2,rc2,rfl,sl4⟩:=hp2
 exact av (qO 8 U (aA (nT ux (hU h4 ((eQ c.Register.Appoints (i1:Int) c.at_ c.known).2)) (lZ (KI ((kO _).1 hco.chk).1 ob hco.time hco.know)) U (qO 4 U (aA (bE (cells:=[.slice rb2 (((eQ c.Register.Appoints (i1:Int) c.at_ c.known).1).length) rc2]) Nv ty68 zc68 U U kr (λb4=>aA (dE (Rp.PL Tv) ([(b4,O [.slice rb2 (((eQ c.Register.Appoints (i1:Int) c.at_ c.known).1).length) rc2] 68),z2,z1]) ([]) (λG=>[(b4,O [.slice rb2 (((eQ c.Register.Appoints (i1:Int) c.at_ c.known).1).length) rc2] 68),z2,z1]++G) ap (λ_=>ap) Nv ty68 zc68 U bytes68 (Ka.mono (Rp.yn Tv) hle4) U U (e8 0 U (cE (R:=(Rp.sl TX)) ((eQ c.Register.Appoints (i1:Int) c.at_ c.known).1) U ⟨rb2,rc2,U,sl4⟩)) lo lo (λob2 oc2 G2 gr2=>qO 4 U (oi i1 U (qO 2 U (bo (L':=[z2,z1]++G2) js (ag1 ((DJ++[(eQ c.Register.Appoints (i1:Int) c.at_ c.known).1]),ob2,oc2,G2,h4) hs3 ⟨gr2,lo,(hl1.t hle4),(λy hy=>(kF.1 hy).elim (u1_0 y) (λhy=>by rw[xC.1 hy];exact vT (Dt _ _ _ _) hsm.2.1))⟩)))))))))))))
theorem BT{α : Type}{xs:List α}{i:Nat}{y:α}(h:xs[i]? = some y):xs.take (i+1)=xs.take i++[y]:=by
  rw[List.take_add_one,h];rfl
theorem Aj(h:HF)(c:bI)(nZ:jv)(bv:Nat)(s0 b0:Int)(hc:bI.ok h c nZ)(hsm:smR c.Register)(hco:iH c)(hat:c.doc.At<=c.at_)(hk:Kinds h):
  nu prog 59 (kB [.agg (bI.cells c nZ).toArray,Q bv]) h [(bv,verO s0 b0 none 0 0 none 0 0)]
   (λr h' B=>∃vb vc wb wc G,r=.returned (.bool (fj c))/\B=(bv,verO s0 b0 vb (askJ c).1.length vc wb (askAll c).length wc)::G/\SlC zC h' vb vc (askJ c).1/\du zC 3 h' (askAll c) wb wc G):=by
 have hJ:Jdg c.Register.Versions (askJ c):=HI hco.vers hco.good.at_ hco.time hco.know hat
 have hJl:(askJ c).1.length<=256:=vT (Lz _ _ _ _) hco.vers.len
 have hpx:∀y∈(askJ c).1,exOk (fe c y):=λy hy=>AZ (hJ.mem y hy)
 have hpk:∀y∈(askJ c).1,KH (askP c y):=λy hy=>vu hco hsm (Ql (hpx y hy))
 refine cB func59 U ntmps59 U λX hM hX=>?_
 refine sr (cv (λb2=>an ?_))
 refine sr (jq Pb U (jq Qk U (nN 0 ty26 U U U (jq FG U (jq Qg U (nN 0 ty3 U U U (jq Pa U (nN 0 ty3 U U U (jq O9 U (nN 0 ty3 U U U (aA (cR call22 (zt h c.Register.Versions _ _ c.doc.At c.at_ c.known hc.Register.Versions hsm.vers hk) U (λv1 h1 hle1 hp1=>?_)))))))))))))
 obtain⟨vb,vc,rfl,slv⟩:=hp1
 refine qO 11 U (aA (nT ux (hU h1 _) (lZ hJ.err) U (qO 9 U (Ma ec U (qO 2 U ?_)))))
 refine lp2 (γ:=List Bool×Option Addr×Nat×LH×List Int×Option Addr×Nat×LH×HF) (x0:=(askJ c).1) (askJ c).1
  (λi g=>[(1,Q bv),(2,Q b2),(5,.slice vb (askJ c).1.length vc),(6,I (askJ c).2.1),(8,.slice g.2.1 g.1.length g.2.2.1),(31,.slice vb (askJ c).1.length vc),(32,I (((askJ c).1.length:Nat):Int)),(33,I (i:Int))])
  (λg=>g.2.2.2.2.2.2.2.2)
  (λg=>[(b2,O (bI.cells c nZ) 123),(bv,verO s0 b0 none 0 0 g.2.2.2.2.2.1 g.2.2.2.2.1.length g.2.2.2.2.2.2.1)]++(g.2.2.2.1++g.2.2.2.2.2.2.2.1))
  (λi g=>g.1=((askJ c).1.take i).map (askAns c)/\g.2.2.2.2.1=((askJ c).1.take i).flatMap (askWho c)/\du S2 4 g.2.2.2.2.2.2.2.2 g.1 g.2.1 g.2.2.1 g.2.2.2.1/\du zC 3 g.2.2.2.2.2.2.2.2 g.2.2.2.2.1 g.2.2.2.2.2.1 g.2.2.2.2.2.2.1 g.2.2.2.2.2.2.2.1/\h1.le g.2.2.2.2.2.2.2.2/\g.1.length<=i/\g.2.2.2.2.1.length<=i*2000000)
  (λs i _=>(askJ c).1.take i++s) ([],none,0,[],[],none,0,[],h1) ob rfl ⟨rfl,rfl,du.nil,du.nil,xM _,qM _,qM _⟩ ?_ ?_
 .rintro i ⟨az,ab,ac,Ga,ws,wb,wc,Gw,hh⟩ hil hx0 ⟨ha,hw,gA,gW,hle,la,lw⟩ e
  dsimp only at ha hw gA gW hle la lw hx0
  rw[List.append_nil]at hx0
  rw[←hx0]at ha hw
  subst ha hw
  obtain⟨ws,hws⟩:∃ws,ws=(askJ c).1.flatMap (askWho c):=⟨_,rfl⟩
  have hall:askAll c=slices_Compact_int (sortI ws):=by rw[hws];rfl
  rw[←hws]at gW lw
  obtain⟨az,has⟩:∃az,az=(askJ c).1.map (askAns c):=⟨_,rfl⟩
  rw[←has]at gA la
  show TT _ _ _ _ _ (upds e [(1,Q bv),(2,Q b2),(5,.slice vb (askJ c).1.length vc),(6,I (askJ c).2.1),(8,.slice ab ((askJ c).1.map (askAns c)).length ac),(31,.slice vb (askJ c).1.length vc),(32,I (((askJ c).1.length:Nat):Int)),(33,I (i:Int))]) _ _ hh ([(b2,O (bI.cells c nZ) 123),(bv,verO s0 b0 none 0 0 wb ((askJ c).1.flatMap (askWho c)).length wc)]++(Ga++Gw))
  rw[←hws,←has]
  refine qT 3 U (aA (eT (fL U) (jq Bv U (nN 1 ty31 U U U (aA (m9 ([(b2,O (bI.cells c nZ) 123),(bv,verO s0 b0 none 0 0 wb ws.length wc)]++Ga) Gw [] NC (mz hh ws wb wc Gw gW ob) (by simp only[kC,List.cons_append,xG,List.append_nil]) U (λG2 g2=>aF ?_)))))))
  refine qT 6 U (aA (eT (fL U) (jq Bv U (nN 1 ty31 U U U (aA (m9 (v:=.slice wb (slices_Compact_int (sortI ws)).length wc) ([(b2,O (bI.cells c nZ) 123),(bv,verO s0 b0 none 0 0 wb ws.length wc)]++Ga) G2 [] call136 (pG hh (sortI ws) wb wc G2 g2) U (by simp only[iM];rfl) (λG3 g3=>?_)))))))
  refine aA (eT (fL U) (jq Qi U (cJ 1 ty31 U U U U U U (aA (eT (fL U) (jq Bv U (cJ 1 ty31 U U U U U U (aF (cg (L':=[(b2,O (bI.cells c nZ) 123),(bv,verO s0 b0 vb (askJ c).1.length vc wb (slices_Compact_int (sortI ws)).length wc)]++(Ga++G3)) (by rw[List.append_nil,kC];rfl) ?_)))))))))
  have fin:∀(hz:HF)(r:Bool),hh.le hz->r=fj c->∀(e:Env),e 4=.bool r->∀k,TT prog (bodyFrame 59) 88 (.code .ret::k) (lQ prog X (λr h' B=>∃vb vc wb wc G,r=.returned (.bool (fj c))/\B=(bv,verO s0 b0 vb (askJ c).1.length vc wb (askAll c).length wc)::G/\SlC zC h' vb vc (askJ c).1/\du zC 3 h' (askAll c) wb wc G)) e [] X hz ([(b2,O (bI.cells c nZ) 123),(bv,verO s0 b0 vb (askJ c).1.length vc wb (slices_Compact_int (sortI ws)).length wc)]++(Ga++G3)):=by
   intro hz r hlz hr e he k
   subst hr
   refine mN (v:=.bool (fj c)) (h2:=hz) (B:=(bv,verO s0 b0 vb (askJ c).1.length vc wb (slices_Compact_int (sortI ws)).length wc)::G3) func59 (λa ha w _=>by rw[←he];exact res1 U a ha w) (λw hw=>hw.sub (.cons _ (.cons_cons _ (List.sublist_append_right _ _)))) ⟨vb,vc,wb,wc,G3,U,?_,slv.mono xH (vF hle hlz),?_⟩
   .rw[hall]
   rw[hall];exact g3.mono xH hlz
  refine qT 6 U ?_
  refine j0 U (λc1=>?_) (λc1=>?_)
  .exact sr (an (fin hh false lf (by unfold fj;rw[show((askJ c).2.1==0)=true from c1];rfl) _ U _))
  have hm:=hJ.mode2 (by simpa using c1)
  have hal:az.length<=256:=by rw[has,List.length_map];exact hJl
  refine qT 5 U (aA (Et ([(b2,O (bI.cells c nZ) 123),(bv,verO s0 b0 vb (askJ c).1.length vc wb (slices_Compact_int (sortI ws)).length wc)]) Ga G3 (v:=.tuple #[.bool ((iL (askJ c).2.1 az).1),I ((iL (askJ c).2.1 az).2)]) call26 Rp.pW gA U (λhz lz sl=>zu hz (askJ c).2.1 az ab ac sl ob) U ?_))
  exact av (qO 8 U (aA (nT ux (hU hh _) (lZ (LA hm hal)) U (qO 6 U (fin hh _ lf (by unfold fj;rw[show((askJ c).2.1==0)=false from c1,cond_false,←has]) _ U _)))))
 rintro i ⟨az,ab,ac,Ga,ws,wb,wc,Gw,hh⟩ y r hd hlt hget hltp hbd hx0 ⟨ha,hw,gA,gW,hle,la,lw⟩ hx ag e
 dsimp only at ha hw gA gW hle la lw
 have hy:y∈(askJ c).1:=zE hget
 have hcc:=hc.mono (vF hle1 hle)
 show TT _ _ _ _ _ (upds e [(1,Q bv),(2,Q b2),(5,.slice vb (askJ c).1.length vc),(6,I (askJ c).2.1),(8,.slice ab az.length ac),(31,.slice vb (askJ c).1.length vc),(32,I (((askJ c).1.length:Nat):Int)),(33,I (i:Int))]) _ _ hh ([(b2,O (bI.cells c nZ) 123),(bv,verO s0 b0 none 0 0 wb ws.length wc)]++(Ga++Gw))
 refine sr (tO hlt U (qO 8 U (aA (oP (enc:=λy=>[I y]) (λ_ _ _ e=>e) ec ty3 (slv.mono xH hle).1 (nthZ hget) (fh hget) U U U (λq1 A1=>dj ty3 A1 U (an ?_))))))
 refine sr (cM 0 ty123 U U U (av (aA (MR call80 (pH hh c nZ y hcc) (hpx y hy) U (λv3 h3 hle3 hp3=>?_)))))
 obtain⟨pr,rfl,okp⟩:=hp3
 refine aT zc64 (λb11=>aO 0 ty64 U U U U U U (aF ?_))
 refine sr (cM 1 ty123 U U U (cM 0 ty64 U U U (aA (cR call79 (pI h3 c nZ (askP c y) pr (hcc.mono hle3) okp hsm hco (hpk y hy).rules) U (λv4 h4 hle4 hp4=>?_)))))
 obtain⟨ub,uc,rfl,slu⟩:=hp4
 refine qO 5 U (cM 1 ty123 U U U (cM 0 ty64 U U U (av (ai (v:=.bool (askAns c y)) call135 (ut h4 c nZ (askP c y) pr (askWho c y) ub uc (hcc.mono (vF hle3 hle4)) (okp.mono hle4) slu hsm hco (hpk y hy).sm (hpk y hy).off (EW hsm _) (hk.mono (vF hle1 (vF hle (vF hle3 hle4))))) U ?_))))
 have hl4:hh.le h4:=vF hle3 hle4
 have hwl:=EW hsm (askP c y)
 refine aA (bE (cells:=[.bool (askAns c y)]) uw ty4 zc4 U U kr (λb13=>?_))
 refine aA (dE Rp.HC ([(b13,O [.bool (askAns c y)] 4),(b11,O (xE (askP c y) pr) 64),(b2,O (bI.cells c nZ) 123),(bv,verO s0 b0 none 0 0 wb ws.length wc)]) Gw (λG=>[(b13,O [.bool (askAns c y)] 4),(b11,O (xE (askP c y) pr) 64),(b2,O (bI.cells c nZ) 123),(bv,verO s0 b0 none 0 0 wb ws.length wc)]++(Gw++G)) U (λ_=>U) uw ty4 zc4 U bytes4 (gA.mono Rp.pW hl4) U U (e8 (ys:=[askAns c y]) 0 U ⟨[.bool (askAns c y)],[],U,U,U,U⟩) lo lo (λab2 ac2 Ga2 gA2=>an ?_))
 refine qT 3 U (aA (eT (fL U) (jq Bv U (nN 3 ty31 U U U (av (aA (dE TN ([(b13,O [.bool (askAns c y)] 4),(b11,O (xE (askP c y) pr) 64),(b2,O (bI.cells c nZ) 123),(bv,verO s0 b0 none 0 0 wb ws.length wc)]) Ga2 (λG=>[(b13,O [.bool (askAns c y)] 4),(b11,O (xE (askP c y) pr) 64),(b2,O (bI.cells c nZ) 123),(bv,verO s0 b0 none 0 0 wb ws.length wc)]++(Ga2++G)) U (λ_=>U) ec ty3 zc3 U bytes3 (gW.mono xH hl4) U U (lR slu.1) (by show(_+(askWho c y).length)*_<=_;unfold askWho;omega) (by show _+(askWho c y).length<=_;unfold askWho;omega) (λwb2 wc2 Gw2 gW2=>?_))))))))
 refine aA (eT (fL U) (jq Bv U (cJ 3 ty31 U U U U U U (aF (bo (L':=[(b2,O (bI.cells c nZ) 123),(bv,verO s0 b0 none 0 0 wb2 (ws++askWho c y).length wc2)]++(Ga2++Gw2)) js (qT 2 U (io (v':=I (((i+1:Nat)):Int)) U (xZ ob) (qO 2 U ?_))))))))
 refine ag (az++[askAns c y],ab2,ac2,Ga2,ws++askWho c y,wb2,wc2,Gw2,h4) (by rw[BT hget,kC];exact hx0) ⟨?_,?_,gA2,gW2,vF hle hl4,?_,?_⟩
 .show az++[askAns c y]=_;rw[BT hget,ha,List.map_append];rfl
 .show ws++askWho c y=_;rw[BT hget,hw,List.flatMap_append];simp
 .show(az++[askAns c y]).length<=i+1;rw[jA];simp only[xA,vB];omega
 show(ws++askWho c y).length<=(i+1)*2000000;rw[jA];unfold askWho;omega
theorem Li(h:HF)(c:bI)(nZ:jv)(q:Addr)(bv:Nat)(s0 b0:Int)(hc:bI.ok h c nZ)(aq:At h q (bI.cells c nZ))(hsm:smR c.Register)(hco:iH c)(hat:c.doc.At<=c.at_)(hk:Kinds h):
    nu prog 58 (kB [.pointer (some q),Q bv]) h [(bv,verO s0 b0 none 0 0 none 0 0)]
      (λr h' B=>∃vb vc wb wc G,r=.returned (.bool (!(fj c)))/\B=(bv,verO s0 b0 vb (askJ c).1.length vc wb (askAll c).length wc)::G/\SlC zC h' vb vc (askJ c).1/\du zC 3 h' (askAll c) wb wc G):=by
  refine cB func58 U ntmps58 U λX hM hX=>?_
  refine qT 6 rfl (dt ty123 aq rfl rfl (aA (mO (A:=[(bv,verO s0 b0 none 0 0 none 0 0)]) (Fr:=[]) call59 rfl (Aj h c nZ bv s0 b0 hc hsm hco hat hk) rfl (λv h2 B hle hR=>?_) (λch h2 B hle hR=>by obtain⟨_,_,_,_,_,hr,_⟩:=hR;cases hr))))
  obtain⟨vb,vc,wb,wc,G,hr,rfl,s1,g1⟩:=hR
  cases hr
  exact mU U (an (mN (v:=.bool (!(fj c))) (h2:=h2) (B:=(bv,verO s0 b0 vb (askJ c).1.length vc wb (askAll c).length wc)::G) func58 (λa ha w hw=>mB (rs:=[.tmp 2]) (vs:=[.bool (!(fj c))]) U rd a ha w hw) (λw hw=>by simpa using hw) ⟨vb,vc,wb,wc,G,U,U,s1,g1⟩))
theorem Lh(h:HF)(r:Register)(RO:fq)(qr:Addr)(u:List Use)(rO:Option Addr)(rN:Nat)(qu:Addr)(c:bI)(nZ:jv)(qc:Addr)(at_ known:Int)(qa qk:Addr)(bv:Nat)(s0 b0:Int)(vb:Option Addr)(vn vc:Nat)(wb:Option Addr)(wn wc:Nat)(hr:Sa h r RO)(ar:At h qr (vN r RO))(hu:SlC Ux h rO rN u)(au:At h qu [.slice rO u.length rN])(ac:At h qc (bI.cells c nZ))(aa:At h qa [I at_])(ak:At h qk [I known])(hsm:smR r)(he:(judgeRoom c r u at_ known).2.2=0):
  nu prog 60 (kB [.pointer (some qr),.pointer (some qu),.pointer (some qc),.pointer (some qa),.pointer (some qk),Q bv]) h [(bv,verO s0 b0 vb vn vc wb wn wc)]
   (λx h' B=>x=.returned (.bool (!(judgeRoom c r u at_ known).2.1))/\h'=h/\B=[(bv,verO s0 (bif !(judgeRoom c r u at_ known).2.1 then(judgeRoom c r u at_ known).1 else b0) vb vn vc wb wn wc)]):=by
 refine cB func60 U ntmps60 U λX hM hX=>?_
 refine qT 6 U (jq Mr U (iZ (j:=3) ty25 ar U U (dj ty32 au U (jq FG U (jq Qf U (iZ (j:=9) ty3 ac U U (jq FG U (jq Qe U (iZ (j:=10) ty3 ac U U (dj ty3 aa U (dj ty3 ak U (ai (v:=.tuple #[I (judgeRoom c r u at_ known).1,.bool (judgeRoom c r u at_ known).2.1,I (judgeRoom c r u at_ known).2.2]) call27 (wl h r.Budgets _ _ u rO rN c.doc.Kind c.doc.Value at_ known hr.Budgets hu hsm.2.2.2.2.1) U (qO 11 U (aA (nT ux (hU h _) (lZ he) U (qO 7 U ?_))))))))))))))))
 refine j0 U (λc1=>?_) (λc1=>?_)
 .exact bC (av (jq Mq U (cJ 0 ty3 U U U U U U (qO 7 U (mN (v:=.bool (!(judgeRoom c r u at_ known).2.1)) (h2:=h) (B:=[(bv,verO s0 (judgeRoom c r u at_ known).1 vb vn vc wb wn wc)]) func60 (λa ha w hw=>mB (rs:=[.tmp 6]) (vs:=[.bool (!(judgeRoom c r u at_ known).2.1)]) U rd a ha w hw) (λw hw=>hw) ⟨U,U,by rw[show(!(judgeRoom c r u at_ known).2.1)=true from c1];rfl⟩)))))
 exact aI (qT 6 U (mN (v:=.bool (!(judgeRoom c r u at_ known).2.1)) (h2:=h) (B:=[(bv,verO s0 b0 vb vn vc wb wn wc)]) func60 (λa ha w hw=>mB (rs:=[.tmp 6]) (vs:=[.bool (!(judgeRoom c r u at_ known).2.1)]) U rd a ha w hw) (λw hw=>hw) ⟨U,U,by rw[show(!(judgeRoom c r u at_ known).2.1)=false from c1];rfl⟩))
theorem EZ{e:Int}{ee:Int}(h:lW e=.error ee):(e != 0)=true/\ee=e:=by
  unfold lW at h
  cases hc:e != 0 with
  |true=>rw[hc]at h;cases h;exact⟨rfl,rfl⟩
  |false=>rw[hc]at h;cases h
theorem Cf{e:Int}{u:Unit}(h:lW e=.ok u):e=0:=by
  unfold lW at h
  cases hc:e != 0 with
  |true=>rw[hc]at h;cases h
  |false=>simpa using hc
theorem ly(h:HF)(bN:Register)(eN:fq)(signed:List Int)(cd:Option Addr)(bZ:Nat)(u:List Use)(rO:Option Addr)(rN:Nat)(doc:Int)(cD:Int)(known:Int)(jr:Sa h bN eN)(hsigned:SlC zC h cd bZ signed)(hu:SlC Ux h rO rN u)(hsm:smR bN)(hln:bN.Docs.length<20)(hk:Kinds h):
  ju prog 11 [.agg (vN bN eN).toArray,.slice cd signed.length bZ,.slice rO u.length rN,I doc,I cD,I known] h (λv h'=>∃rr0:td,v=.tuple #[.agg (gj.cells (bJ bN signed u doc cD known).1 rr0).toArray,I ((bJ bN signed u doc cD known).2)]/\gj.ok h' (bJ bN signed u doc cD known).1 rr0):=by
 refine cB func11 U ntmps11 U λX hM hX=>?_
 refine sr (cv (λb6=>cv (λb7=>cv (λb8=>cv (λb10=>cv (λb11=>aT zc36 (λb12=>aT zc37 (λb13=>aF ?_))))))))
 refine sr (GW U U (aF ?_))
 have fin:∀(hh:HF)(V:gj)(vb:Option Addr)(vc:Nat)(wb:Option Addr)(wc:Nat)(ee:Int)(B:LH)(e:Env),bJ bN signed u doc cD known=(V,ee)->SlC zC hh vb vc V.Versions->SlC zC hh wb wc V.Who->e 12=Q b12->e 13=Q b13->∀a:Act,envOf a=e->∀w,St X hh ([(b13,O [I ee] 37)]++((b12,verO V.State V.Budget vb V.Versions.length vc wb V.Who.length wc)::B)) w ->
   ∃v h2 B2,(results Tryz.f11 a.tmps).run prog w=.ok v w/\St X h2 B2 w/\(B2=[]/\∃v',Ending.returned v=.returned v'/\(λv h'=>∃rr0:td,v=.tuple #[.agg (gj.cells (bJ bN signed u doc cD known).1 rr0).toArray,I ((bJ bN signed u doc cD known).2)]/\gj.ok h' (bJ bN signed u doc cD known).1 rr0) v' h2):=by
  intro hh V vb vc wb wc ee B e he h1 h2 h12 h13 a ha w hw
  refine⟨_,hh,[],mB (rs:=[.cell 12 36,.cell 13 37]) (vs:=[.agg (gj.cells V ⟨vb,vc,wb,wc⟩).toArray,I ee]) U ⟨⟨1,b12,_,36,(0,0),U,h12,.inl ⟨ty36,U⟩⟩,⟨0,b13,[I ee],37,(0,0),U,h13,.inr ⟨_,ty37,U⟩⟩,trivial⟩ a ha w hw,hw.sub (List.nil_sublist _),U,_,U,⟨vb,vc,wb,wc⟩,?_,?_⟩
  .rw[he];rfl
  rw[he];exact⟨h1,h2⟩
 have pan:∀(hh:HF)(e0 ee:Int)(B:LH)(e:Env),bJ bN signed u doc cD known=(⟨0,0,[],[]⟩,ee)->e 12=Q b12->e 13=Q b13 ->
   TP prog (bodyFrame 11) 69 [{ v:=errV ee,recovered:=false }] (lQ prog X (λx h' B=>B=[]/\∃v,x=.returned v/\(λv h'=>∃rr0:td,v=.tuple #[.agg (gj.cells (bJ bN signed u doc cD known).1 rr0).toArray,I ((bJ bN signed u doc cD known).2)]/\gj.ok h' (bJ bN signed u doc cD known).1 rr0) v h')) e [{ target:=.fn (.func 50) #[],args:=kB [Q b13] }] X hh ((b13,O [I e0] 37)::(b12,verO 0 0 none 0 0 none 0 0)::B):=by
  intro hh e0 ee B e he h12 h13
  refine AF (c:=bodyOf Tryz.f50) (cap:=[Q b13]) (A:=[(b13,O [I e0] 37)]) (R':=λh'' B=>h''=hh/\B=[(b13,O [I ee] 37)]) func11 D8 U Iq_ U IN (λX' _=>vw hh b13 e0 ee X') U ?_
  rintro h'' B2 _ ⟨rfl,rfl⟩ a ha w hw
  exact fin _ ⟨0,0,[],[]⟩ none 0 none 0 ee B e he kE kE h12 h13 a ha w hw
 refine sr (cM 6 ty30 U U U (ai (v:=I (dD bN)) NB (pd h bN eN jr hsm hk) U ?_))
 refine sa ux (hU h (dD bN)).toXH U (λv_ v h1 hx1 hle1 hp1=>?_) (λee h1 hx1 hle1=>?_)
 rotate_left
 .obtain⟨e1,rfl⟩:=EZ hx1
  exact pan h1 _ _ _ _ (by unfold bJ;rw[e1];rfl) U U
 obtain⟨rfl,rfl⟩:=hp1
 have hc0:=Cf hx1
 refine qO 3 U (jq Qj U (nN 6 ty27 U U U (nN 5 ty31 U U U (aA (cR call52 (ri h1 bN.Docs _ _ signed cd bZ 0 jr.Docs hsigned hln) U (λv2 h2 hle2 hp2=>?_))))))
 obtain⟨fb,fc,rfl,_⟩:=hp2
 refine qO 3 U (cJ 0 ty37 U U U U U U (qO 3 U (nN 0 ty37 U U U ?_)))
 refine sa ux (hU h2 (bQ bN.Docs signed 0).2).toXH U (λv_ v h3 hx3 hle3 hp3=>?_) (λee h3 hx3 hle3=>?_)
 rotate_left
 .obtain⟨e1,rfl⟩:=EZ hx3
  exact pan h3 _ _ _ _ (by unfold bJ;rw[hc0,e1];rfl) U U
 obtain⟨rfl,rfl⟩:=hp3
 have hf0:=Cf hx3
 refine qO 3 U (jq Mr U (nN 6 ty25 U U U (nN 4 ty32 U U U (ai (v:=.tuple #[I (bM bN.Budgets u 0 0 0 0).1,.bool (bM bN.Budgets u 0 0 0 0).2.1,I (bM bN.Budgets u 0 0 0 0).2.2]) call27 (wl h3 bN.Budgets _ _ u rO rN 0 0 0 0 (jr.mono hle2).Budgets (hu.mono Use.aj hle2) hsm.2.2.2.2.1) U (qO 4 U (cJ 0 ty37 U U U U U U (qO 3 U (nN 0 ty37 U U U ?_))))))))
 refine sa ux (hU h3 (bM bN.Budgets u 0 0 0 0).2.2).toXH U (λv_ v h4 hx4 hle4 hp4=>?_) (λee h4 hx4 hle4=>?_)
 rotate_left
 .obtain⟨e1,rfl⟩:=EZ hx4
  exact pan h4 _ _ _ _ (by unfold bJ;rw[hc0,hf0,e1];rfl) U U
 obtain⟨rfl,rfl⟩:=hp4
 have hb0:=Cf hx4
 refine qO 3 U (cM 6 ty30 U U U (av (nN 3 ty3 U U U (nN 2 ty3 U U U ?_))))
 refine sa call53 (zc h4 bN eN doc cD known (jr.mono hle2)) U (λc v h5 hx5 hle5 hp5=>?_) (λee h5 hx5 hle5=>?_)
 rotate_left
 .exact pan h5 _ _ _ _ (by unfold bJ;rw[hc0,hf0,hb0,hx5];rfl) U U
 obtain⟨cr,rfl,okc⟩:=hp5
 have hj:bJ bN signed u doc cD known=(judgeC c bN signed u cD known,0):=by unfold bJ;rw[hc0,hf0,hb0,hx5];rfl
 obtain⟨hce,hco,_,_⟩:=Ic hc0 hx5
 have hreg:c.Register=bN:=by rw[hce]
 have hca:c.at_=cD:=by rw[hce]
 have hck:c.known=known:=by rw[hce]
 have hsc:smR c.Register:=by rw[hreg];exact hsm
 have hlc:c.Register.Docs.length<20:=by rw[hreg];exact hln
 have hsg:cj c.Register.Docs signed=true:=by rw[hreg];exact Ij hf0
 have hroom:(judgeRoom c bN u cD known).2.2=0:=Oi hb0 hco.kind hco.good.value (hca▸hco.time) (hck▸hco.know)
 rw[hb0]
 refine aT zc123 (λb14=>aO 0 ty123 U U U U U U (aF ?_))
 refine sr (jq Mq U (cJ 2 ty3 U U U U U U (aF (eI 0 U hM (λg1 l1 f14=>eI 2 U hM (λg2 l2 f11=>eI 2 U hM (λg3 l3 f10=>eI 2 U hM (λg4 l4 f8=>eI 2 U hM (λg5 l5 f7=>eI 2 U hM (λg6 l6 f6=>?_))))))))))
 have a14:=(cx f14).mono (vF l2 (vF l3 (vF l4 (vF l5 l6))))
 have a11:=(cx f11).mono (vF l3 (vF l4 (vF l5 l6)))
 have a10:=(cx f10).mono (vF l4 (vF l5 l6))
 have a8:=(cx f8).mono (vF l5 l6)
 have a7:=(cx f7).mono l6
 have a6:=cx f6
 have l56:h5.le g6:=vF l1 (vF l2 (vF l3 (vF l4 (vF l5 l6))))
 have l06:h1.le g6:=vF hle2 (vF hle5 l56)
 have okg:=okc.mono l56
 have okr:=jr.mono l06
 have hsg6:=hsigned.mono xH l06
 have hu6:=hu.mono Use.aj l06
 have hk6:=hk.mono l06
 clear f14 f11 f10 f8 f7 f6
 show TT _ _ _ _ _ _ _ _ g6 [(b13,O [I 0] 37),(b12,verO 0 (-1) none 0 0 none 0 0)]
 refine qT 3 U (aA (eA U U (aA (fI (cells:=[I 1,.func (.func 54) #[] #[Q b14,Q b7]]) (places:=[(0,1),(1,1)]) KQ zc126 kr kr (aA (eA U U (aA (fI (cells:=[I 2,.func (.func 56) #[] #[Q b14,Q b7]]) (places:=[(0,1),(1,1)]) KQ zc126 kr kr (aA (eA U U (aA (fI (cells:=[I 3,.func (.func 58) #[] #[Q b14,Q b12]]) (places:=[(0,1),(1,1)]) KQ zc126 kr kr (aA (eA U U (aA (fI (cells:=[I 4,.func (.func 60) #[] #[Q b6,Q b8,Q b14,Q b10,Q b11,Q b12]]) (places:=[(0,1),(1,1)]) KQ zc126 kr kr (aA (bE (cells:=[I 1,.func (.func 54) #[] #[Q b14,Q b7],I 2,.func (.func 56) #[] #[Q b14,Q b7],I 3,.func (.func 58) #[] #[Q b14,Q b12],I 4,.func (.func 60) #[] #[Q b6,Q b8,Q b14,Q b10,Q b11,Q b12]]) IJ ty126 zc126 U U kr (λb15=>Ma IJ U (qO 2 U ?_))))))))))))))))))))
 have ret:∀(hh:HF)(V:gj)(vb:Option Addr)(vc:Nat)(wb:Option Addr)(wc:Nat)(B:LH)(e:Env)(k:List Item),judgeC c bN signed u cD known=V->SlC zC hh vb vc V.Versions->SlC zC hh wb wc V.Who->e 12=Q b12->e 13=Q b13 ->
   TT prog (bodyFrame 11) 69 (.code .ret::k) (lQ prog X (λx h' B=>B=[]/\∃v,x=.returned v/\(λv h'=>∃rr0:td,v=.tuple #[.agg (gj.cells (bJ bN signed u doc cD known).1 rr0).toArray,I ((bJ bN signed u doc cD known).2)]/\gj.ok h' (bJ bN signed u doc cD known).1 rr0) v h')) e [{ target:=.fn (.func 50) #[],args:=kB [Q b13] }] X hh ((b13,O [I 0] 37)::(b12,verO V.State V.Budget vb V.Versions.length vc wb V.Who.length wc)::B):=by
  intro hh V vb vc wb wc B e k hv h1 h2 h12 h13
  refine IW (c:=bodyOf Tryz.f50) (cap:=[Q b13]) (A:=[(b13,O [I 0] 37)]) (R':=λh'' B=>h''=hh/\B=[(b13,O [I 0] 37)]) func11 D8 U Iq_ U IN (λX' _=>FW hh b13 0 X') U ?_
  rintro h'' B2 _ ⟨rfl,rfl⟩ a ha w hw
  exact fin _ V vb vc wb wc 0 B e (by rw[hj,hv]) h1 h2 h12 h13 a ha w hw
 refine me (Ee (sr (io (v':=.bool true) U U (qO 8 U (aA (eT (CU (i:=0) IJ ty126 U U ob) (cM 0 ty126 U U U (aT zc126 (λc0=>aO 0 ty126 U U U U U U (aF ?_))))))))))
 refine sr (jq Bx U (nN 0 ty33 U U U (aA (lA (v:=.bool (fy c signed)) [] (List.nil_sublist _) (iq (cap:=[Q b14,Q b7]) call54 (Ck g6 c cr ⟨b14,0,none⟩ signed cd bZ ⟨b7,0,none⟩ okg a14 hsg6 a7 hsc hco hlc hsg)) U U (aF ?_)))))
 refine j0 U (λk1=>?_) (λk1=>?_)
 .exact sr (jq Bz U (nN 0 ty3 U U U (jq Bw U (cJ 3 ty3 U U U U U U (qO 3 U (cM 3 ty36 U U U (aO 3 ty36 U U U U U U (cJ 2 ty37 U U U U U U (aF (bo (.cons _ (.cons _ (List.Sublist.refl _))) (ret g6 ⟨1,-1,[],[]⟩ none 0 none 0 [] _ _ (by unfold judgeC;rw[show fy c signed=true from k1];rfl) kE kE U U)))))))))))
 replace k1:fy c signed=false:=k1
 have hat:c.doc.At<=c.at_:=HB k1
 refine qT 3 U (io (v':=I 1) U U (qO 2 U (AE (bo (.cons _ (List.Sublist.refl _)) (sr (io (v':=.bool true) U U (qO 8 U (aA (eT (CU (i:=1) IJ ty126 U U ob) (cM 0 ty126 U U U (aT zc126 (λc1=>aO 0 ty126 U U U U U U (aF ?_)))))))))))))
 refine sr (jq Bx U (nN 0 ty33 U U U (aA (lA (v:=.bool (gD c signed)) [] (List.nil_sublist _) (iq (cap:=[Q b14,Q b7]) call56 (Cj g6 c cr ⟨b14,0,none⟩ signed cd bZ ⟨b7,0,none⟩ okg a14 hsg6 a7 hsc hco hlc hsg)) U U (aF ?_)))))
 refine j0 U (λk2=>?_) (λk2=>?_)
 .exact sr (jq Bz U (nN 0 ty3 U U U (jq Bw U (cJ 3 ty3 U U U U U U (qO 3 U (cM 3 ty36 U U U (aO 3 ty36 U U U U U U (cJ 2 ty37 U U U U U U (aF (bo (.cons _ (.cons _ (List.Sublist.refl _))) (ret g6 ⟨2,-1,[],[]⟩ none 0 none 0 [] _ _ (by unfold judgeC;rw[k1,show gD c signed=true from k2];rfl) kE kE U U)))))))))))
 replace k2:gD c signed=false:=k2
 refine qT 3 U (io (v':=I 2) U U (qO 2 U (AE (bo (.cons _ (List.Sublist.refl _)) (sr (io (v':=.bool true) U U (qO 8 U (aA (eT (CU (i:=2) IJ ty126 U U ob) (cM 0 ty126 U U U (aT zc126 (λc2=>aO 0 ty126 U U U U U U (aF ?_)))))))))))))
 refine sr (jq Bx rfl (nN 0 ty33 rfl rfl rfl (aA (AP [(c2,O [I 3,.func (.func 58) #[] #[Q b14,Q b12]] 126),(b15,O [I 1,.func (.func 54) #[] #[Q b14,Q b7],I 2,.func (.func 56) #[] #[Q b14,Q b7],I 3,.func (.func 58) #[] #[Q b14,Q b12],I 4,.func (.func 60) #[] #[Q b6,Q b8,Q b14,Q b10,Q b11,Q b12]] 126),(b13,O [I 0] 37)] [(b12,verO 0 (-1) none 0 0 none 0 0)] rfl (m7 (args:=[]) (cap:=[Q b14,Q b12]) call58 (Li g6 c cr ⟨b14,0,none⟩ b12 0 (-1) okg a14 hsc hco hat hk6)) rfl rfl (λv7 h7 B7 l7 hR=>?_) (λch h7 B7 l7 hR=>by obtain⟨_,_,_,_,_,hr,_⟩:=hR;cases hr)))))
 obtain⟨vb,vc,wb,wc,G,hr,rfl,sv7,gw⟩:=hR
 cases hr
 refine aF (fx xH ([(c2,O [I 3,.func (.func 58) #[] #[Q b14,Q b12]] 126),(b15,O [I 1,.func (.func 54) #[] #[Q b14,Q b7],I 2,.func (.func 56) #[] #[Q b14,Q b7],I 3,.func (.func 58) #[] #[Q b14,Q b12],I 4,.func (.func 60) #[] #[Q b6,Q b8,Q b14,Q b10,Q b11,Q b12]] 126),(b13,O [I 0] 37)]++[(b12,verO 0 (-1) vb (askJ c).1.length vc wb (askAll c).length wc)]) G [] (by rw[List.append_nil];rfl) hM gw (λh8 l8 sw_z=>?_))
 have sv:=sv7.mono xH l8
 have l68:g6.le h8:=vF l7 l8
 refine cg (L':=[(c2,O [I 3,.func (.func 58) #[] #[Q b14,Q b12]] 126),(b15,O [I 1,.func (.func 54) #[] #[Q b14,Q b7],I 2,.func (.func 56) #[] #[Q b14,Q b7],I 3,.func (.func 58) #[] #[Q b14,Q b12],I 4,.func (.func 60) #[] #[Q b6,Q b8,Q b14,Q b10,Q b11,Q b12]] 126),(b13,O [I 0] 37),(b12,verO 0 (-1) vb (askJ c).1.length vc wb (askAll c).length wc)]) (by rw[List.append_nil];rfl) ?_
 refine j0 U (λk3=>?_) (λk3=>?_)
 .exact sr (jq Bz U (nN 0 ty3 U U U (jq Bw U (cJ 3 ty3 U U U U U U (qO 3 U (cM 3 ty36 U U U (aO 3 ty36 U U U U U U (cJ 2 ty37 U U U U U U (aF (bo (.cons _ (.cons _ (List.Sublist.refl _))) (ret h8 ⟨3,-1,(askJ c).1,askAll c⟩ vb vc wb wc [] _ _ (by unfold judgeC;rw[k1,k2,show(!(fj c))=true from k3];rfl) sv sw_z U U)))))))))))
 replace k3:(!(fj c))=false:=k3
 refine qT 3 U (io (v':=I 3) U U (qO 2 U (AE (bo (.cons _ (List.Sublist.refl _)) (sr (io (v':=.bool true) U U (qO 8 U (aA (eT (CU (i:=3) IJ ty126 U U ob) (cM 0 ty126 U U U (aT zc126 (λc3=>aO 0 ty126 U U U U U U (aF ?_)))))))))))))
 refine sr (jq Bx U (nN 0 ty33 U U U (aA (AP [(c3,O [I 4,.func (.func 60) #[] #[Q b6,Q b8,Q b14,Q b10,Q b11,Q b12]] 126),(b15,O [I 1,.func (.func 54) #[] #[Q b14,Q b7],I 2,.func (.func 56) #[] #[Q b14,Q b7],I 3,.func (.func 58) #[] #[Q b14,Q b12],I 4,.func (.func 60) #[] #[Q b6,Q b8,Q b14,Q b10,Q b11,Q b12]] 126),(b13,O [I 0] 37)] [(b12,verO 0 (-1) vb (askJ c).1.length vc wb (askAll c).length wc)] U (m7 (args:=[]) (cap:=[Q b6,Q b8,Q b14,Q b10,Q b11,Q b12]) call60 (Lh h8 bN eN ⟨b6,0,none⟩ u rO rN ⟨b8,0,none⟩ c cr ⟨b14,0,none⟩ cD known ⟨b10,0,none⟩ ⟨b11,0,none⟩ b12 0 (-1) vb (askJ c).1.length vc wb (askAll c).length wc (okr.mono l68) (a6.mono l68) (hu6.mono Use.aj l68) (a8.mono l68) (a14.mono l68) (a10.mono l68) (a11.mono l68) hsm hroom)) U U (λv9 h9 B9 l9 hR=>?_) (λch h9 B9 l9 hR=>by cases hR.1)))))
 obtain⟨hr,rfl,rfl⟩:=hR
 cases hr
 refine aF (j0 U (λk4=>?_) (λk4=>?_))
 .exact cg (L':=[(c3,O [I 4,.func (.func 60) #[] #[Q b6,Q b8,Q b14,Q b10,Q b11,Q b12]] 126),(b15,O [I 1,.func (.func 54) #[] #[Q b14,Q b7],I 2,.func (.func 56) #[] #[Q b14,Q b7],I 3,.func (.func 58) #[] #[Q b14,Q b12],I 4,.func (.func 60) #[] #[Q b6,Q b8,Q b14,Q b10,Q b11,Q b12]] 126),(b13,O [I 0] 37),(b12,verO 0 (judgeRoom c bN u cD known).1 vb (askJ c).1.length vc wb (askAll c).length wc)]) (by rw[show(!(judgeRoom c bN u cD known).2.1)=true from k4];rfl) (sr (jq Bz U (nN 0 ty3 U U U (jq Bw U (cJ 3 ty3 U U U U U U (qO 3 U (cM 3 ty36 U U U (aO 3 ty36 U U U U U U (cJ 2 ty37 U U U U U U (aF (bo (.cons _ (.cons _ (List.Sublist.refl _))) (ret h9 ⟨4,(judgeRoom c bN u cD known).1,(askJ c).1,askAll c⟩ vb vc wb wc [] _ _ (by unfold judgeC;rw[k1,k2,k3,show(!(judgeRoom c bN u cD known).2.1)=true from k4];rfl) sv sw_z U U))))))))))))
 replace k4:(!(judgeRoom c bN u cD known).2.1)=false:=k4
 exact cg (L':=[(c3,O [I 4,.func (.func 60) #[] #[Q b6,Q b8,Q b14,Q b10,Q b11,Q b12]] 126),(b15,O [I 1,.func (.func 54) #[] #[Q b14,Q b7],I 2,.func (.func 56) #[] #[Q b14,Q b7],I 3,.func (.func 58) #[] #[Q b14,Q b12],I 4,.func (.func 60) #[] #[Q b6,Q b8,Q b14,Q b10,Q b11,Q b12]] 126),(b13,O [I 0] 37),(b12,verO 0 (-1) vb (askJ c).1.length vc wb (askAll c).length wc)]) (by rw[k4];rfl) (qT 3 U (io (v':=I 4) U U (qO 2 U (AE (bo (.cons _ (List.Sublist.refl _)) (sr (io (v':=.bool false) U U (qO 6 U (jq Bw U (cJ 2 ty3 U U U U U U (qO 3 U (cM 2 ty36 U U U (aO 2 ty36 U U U U U U (cJ 1 ty37 U U U U U U (aF (bo (.cons _ (List.Sublist.refl _)) (ret h9 ⟨0,-1,(askJ c).1,askAll c⟩ vb vc wb wc [] _ _ (by unfold judgeC;rw[k1,k2,k3,k4];rfl) sv sw_z U U)))))))))))))))))
theorem tC(h:HF)(a:List Int)(Re:Option Addr)(Rd:Nat)(j6:List Int)(FY:Option Addr)(FX:Nat)(ha:SlC zC h Re Rd a)(yQ:SlC zC h FY FX j6):Ret prog 18 [.slice Re a.length Rd,.slice FY j6.length FX] h (.bool (gf a j6)):=by
 refine sT func18 U ntmps18 U λX hM hX hF=>?_
 have hs0:=@rfl _ (gf a j6)
 refine qK 13 [] U (ae hs0 U (λc1 hs1=>?_) (λc1 hs2=>?_))
 .exact sr (an (nretP [.bool false] (cs hs1)))
 refine qT 6 U ?_
 refine lp0 a (λi=>[(0,.slice Re a.length Rd),(1,.slice FY j6.length FX),(5,I (i:Int))]) ([]) (λs1 i=>(gf.L1 j6 (gf.K1)) s1 i) ha.1.1 hs2 ?_ ?_ ?_
 .rintro i1 fm hs4 e
  exact sr (an (nretP [.bool true] (cs hs4)))
 .rintro i1 y1 rz1 hd1 df aS ek gu hs6 hx1 ag1 e
  refine qK 6 [] U (tO df U (qO 6 U (er ([]) mixed kr jn (λdY _=>qA [0,1] U (eJ 2 (enc:=λy=>[I y]) dY jn ei ec ty3 ha.1 (nthZ aS) (fh aS) U U U U kr (λq3 A3=>tf 3 U U (rh ty3 A3 U) (qA [4,5] U ?_)))))))
  have ho2:0<=((i1:Int):Int)/\((i1:Int):Int)<((j6).length:Int):=ob
  refine eJ 6 (enc:=λy=>[I y]) dY jn ei ec ty3 yQ.1 ho2 (cV ho2) U U U U kr (λq4 A4=>tf 7 U U (rh ty3 A4 U) (qA [8] U (aJ kr (ae hs6 U (λc3 hs7=>?_) (λc3 hs8=>?_)))))
  .exact sr (an (nretP [.bool false] (cs hs7)))
  exact aI (qT 3 U (oi i1 U (an (ag1 hs8))))
 rintro i1 hd1 fS hx e
 exact qK 6 [] U (fO fS U (qO 3 U (hx _ rd)))
end
end Go.Sg
