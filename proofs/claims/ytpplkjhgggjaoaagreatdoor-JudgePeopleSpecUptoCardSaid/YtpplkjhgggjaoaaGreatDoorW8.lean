import Derived.Test.YtpplkjhgggjaoaaGreatDoorW7
/- A part of the proof of JudgePeopleSpec. -/
set_option linter.unusedVariables false
set_option linter.unusedSimpArgs false
set_option maxRecDepth 100000
open List renaming toArray→vB,perm_append_comm→kH,range→zK
open Go.Sg.Rp renaming int→kB,aL→xH,ep→SL,str→Ta,iq→TW
open Go.Sg.Approval renaming cells→zC,aj→zH,rp→qJ,mk→kT
open Go.Sg.Interest renaming cells→xC,rp→xK,mk→qW
open Go.Sg.Expr renaming cells→vC,ok→kG,mk→qH,jx→Sz,aj→SC,rp→S2,mw→TC,eo→Ua
open Go.Sg.Appoint renaming mk→jD,rp→vH,cells→xL,aj→zR
open Go.IntKind renaming wrap→qE
open Go.Sg.Policy renaming cells→xE,ok→kN,mk→zP
open Go.Sg.SlC renaming nil→vE
open Go.Sg.Deputy renaming cells→jG,aj→zM,rp→xN,mk→Tt
open Nat renaming le_refl→vG
open Go.Sg.Register renaming cells→vK,mk→qS,ok→xV
open Go.Sg.Document renaming aj→vL,rp→kV,ok→SG
open Go.Sg.Version renaming aj→jN,rp→zQ,mk→Tk
open Go.Sg.Budget renaming cells→zS,rp→Ti,mk→Tu,aj→UK
open Go.Sg.Expr.ok renaming of→SH
open Go.Sg.Rule renaming mk→TE,aj→TY,cells→Ue

namespace Go.Sg
open Go.Proofs Go.Proofs.Tryz
set_option maxHeartbeats 2000000
theorem Fq(h:HF)   : i9 prog 122 [] h (λv h'=>∃(rr0:eQ),v=.agg (xE (cy) rr0).toArray/\kN h' (cy) rr0):=by
 refine cH func122 U ntmps122 U λX hM hX=>?_
 have hs0:=@rfl _ (cy)
 refine sr (aS zc64 (λb1=>qO 3 U (aA (e9 (cells:=[I 1,I 0,I 0,.string (⟨#[100,105,114,101,99,116,111,114]⟩:ByteArray),.slice none 0 0]) (places:=[(0,1),(1,1),(2,1),(3,1),(4,1)]) underlying62 zc62 kr kr (aS zc62 (λb2=>aR 0 ty62 U U U U U U (qO 3 U (aA (aV (cells:=[.string (⟨#[99,111,110,116,114,97,99,116]⟩:ByteArray)]) wy ty9 zc9 U U kr (λb3=>aA (aV (cells:=[.string (⟨#[100,105,114,101,99,116,111,114]⟩:ByteArray)]) wy ty9 zc9 U U kr (λb4=>cN 2 ty62 U U U (aA (e9 (cells:=[.string (⟨#[99,111,110,116,114,97,99,116]⟩:ByteArray),I 0,I 3,I 1,I 0,I 0,.string (⟨#[100,105,114,101,99,116,111,114]⟩:ByteArray),.slice none 0 0]) (places:=[(0,1),(1,1),(2,1),(3,5)]) underlying79 zc79 kr kr (aA (aV (cells:=[.string (⟨#[99,111,110,116,114,97,99,116]⟩:ByteArray),I 0,I 3,I 1,I 0,I 0,.string (⟨#[100,105,114,101,99,116,111,114]⟩:ByteArray),.slice none 0 0]) vq ty79 zc79 U U kr (λb5=>cN 3 ty62 U U U (aA (e9 (cells:=[.string (⟨#[98,111,97,114,100]⟩:ByteArray),.slice (some ⟨b3,0,none⟩) 1 1,.slice (some ⟨b4,0,none⟩) 1 1,.slice (some ⟨b5,0,none⟩) 1 1,I 1,I 0,I 0,.string (⟨#[100,105,114,101,99,116,111,114]⟩:ByteArray),.slice none 0 0,I 2]) (places:=[(0,1),(1,1),(2,1),(3,1),(4,5),(9,1)]) Mm zc64 kr kr (aR 4 ty64 U U U U U U (aI (eC 2 U hM (λh1 hle1 hb1=>?_)))))))))))))))))))))))
 have sl1:SlC Ta h1 (some ⟨b3,0,none⟩) 1 ([(⟨#[99,111,110,116,114,97,99,116]⟩:ByteArray)]):=aY.slB0 (T:=9) (fz:=(0,0)) ((show aY Ta h [.string (⟨#[99,111,110,116,114,97,99,116]⟩:ByteArray)] ([(⟨#[99,111,110,116,114,97,99,116]⟩:ByteArray)])from⟨[.string (⟨#[99,111,110,116,114,97,99,116]⟩:ByteArray)],[],rfl,rfl,rfl,rfl⟩).mono TW hle1) hb1
 refine eC 1 U hM (λh2 hle2 hb2=>?_)
 have sl2:SlC Ta h2 (some ⟨b4,0,none⟩) 1 ([(⟨#[100,105,114,101,99,116,111,114]⟩:ByteArray)]):=aY.slB0 (T:=9) (fz:=(0,0)) ((show aY Ta h1 [.string (⟨#[100,105,114,101,99,116,111,114]⟩:ByteArray)] ([(⟨#[100,105,114,101,99,116,111,114]⟩:ByteArray)])from⟨[.string (⟨#[100,105,114,101,99,116,111,114]⟩:ByteArray)],[],rfl,rfl,rfl,rfl⟩).mono TW hle2) hb2
 refine eC 0 U hM (λh3 hle3 hb3=>?_)
 have sl3:SlC Rule.rp h3 (some ⟨b5,0,none⟩) 1 ([(TE (⟨#[99,111,110,116,114,97,99,116]⟩:ByteArray) 0 3 (qH 1 0 0 (⟨#[100,105,114,101,99,116,111,114]⟩:ByteArray) ([])))]):=aY.slB0 (T:=79) (fz:=(0,0)) ((show aY Rule.rp h2 [.string (⟨#[99,111,110,116,114,97,99,116]⟩:ByteArray),I 0,I 3,I 1,I 0,I 0,.string (⟨#[100,105,114,101,99,116,111,114]⟩:ByteArray),.slice none 0 0] ([(TE (⟨#[99,111,110,116,114,97,99,116]⟩:ByteArray) 0 3 (qH 1 0 0 (⟨#[100,105,114,101,99,116,111,114]⟩:ByteArray) ([])))])from⟨[.string (⟨#[99,111,110,116,114,97,99,116]⟩:ByteArray),I 0,I 3,I 1,I 0,I 0,.string (⟨#[100,105,114,101,99,116,111,114]⟩:ByteArray),.slice none 0 0],[],rfl,rfl,⟨(Ce.mk (cR.mk none 0)),rfl,((show Rule.ok h (TE (⟨#[99,111,110,116,114,97,99,116]⟩:ByteArray) 0 3 (qH 1 0 0 (⟨#[100,105,114,101,99,116,111,114]⟩:ByteArray) ([]))) (Ce.mk (cR.mk none 0))from⟨(show kG h (qH 1 0 0 (⟨#[100,105,114,101,99,116,111,114]⟩:ByteArray) ([])) (cR.mk none 0)from SH vE)⟩).mono (hle1.t hle2))⟩,rfl⟩).mono TY hle3) hb3
 have hs1:cy=(zP (⟨#[98,111,97,114,100]⟩:ByteArray) ([(⟨#[99,111,110,116,114,97,99,116]⟩:ByteArray)]) ([(⟨#[100,105,114,101,99,116,111,114]⟩:ByteArray)]) ([(TE (⟨#[99,111,110,116,114,97,99,116]⟩:ByteArray) 0 3 (qH 1 0 0 (⟨#[100,105,114,101,99,116,111,114]⟩:ByteArray) ([])))]) (qH 1 0 0 (⟨#[100,105,114,101,99,116,111,114]⟩:ByteArray) ([])) 2):=hs0
 exact ld [.agg (vB [.string (⟨#[98,111,97,114,100]⟩:ByteArray),.slice (some ⟨b3,0,none⟩) 1 1,.slice (some ⟨b4,0,none⟩) 1 1,.slice (some ⟨b5,0,none⟩) 1 1,I 1,I 0,I 0,.string (⟨#[100,105,114,101,99,116,111,114]⟩:ByteArray),.slice none 0 0,I 2])] func122 U ⟨⟨1,_,_,_,_,U,U,.inl ⟨ty64,U⟩⟩,trivial⟩ ⟨(eQ.mk (some ⟨b3,0,none⟩) 1 (some ⟨b4,0,none⟩) 1 (some ⟨b5,0,none⟩) 1 (cR.mk none 0)),congrArg (λr:Policy=>(.agg (xE r (eQ.mk (some ⟨b3,0,none⟩) 1 (some ⟨b4,0,none⟩) 1 (some ⟨b5,0,none⟩) 1 (cR.mk none 0))).toArray:Value)) hs1.symm,(by rw[hs1];exact(show kN h3 (zP (⟨#[98,111,97,114,100]⟩:ByteArray) ([(⟨#[99,111,110,116,114,97,99,116]⟩:ByteArray)]) ([(⟨#[100,105,114,101,99,116,111,114]⟩:ByteArray)]) ([(TE (⟨#[99,111,110,116,114,97,99,116]⟩:ByteArray) 0 3 (qH 1 0 0 (⟨#[100,105,114,101,99,116,111,114]⟩:ByteArray) ([])))]) (qH 1 0 0 (⟨#[100,105,114,101,99,116,111,114]⟩:ByteArray) ([])) 2) (eQ.mk (some ⟨b3,0,none⟩) 1 (some ⟨b4,0,none⟩) 1 (some ⟨b5,0,none⟩) 1 (cR.mk none 0))from⟨(sl1.mono TW (hle2.t hle3)),(sl2.mono TW hle3),sl3,(show kG h3 (qH 1 0 0 (⟨#[100,105,114,101,99,116,111,114]⟩:ByteArray) ([])) (cR.mk none 0)from SH vE)⟩))⟩
theorem gJ(h:HF):oo prog 47 (vB []) h [] (λr h' B=>∃(bk:Nat)(db:Option Addr)(dc:Nat)(vb:Option Addr)(vc:Nat)(ob_z:Option Addr)(oc:Nat)(ab:Option Addr)(ac:Nat),r=.returned (.agg (vB [.slice (some ⟨bk,0,none⟩) 1 1,.slice db 1 dc,.slice none 0 0,.slice none 0 0,.slice vb 1 vc,.slice ob_z 1 oc,.slice ab 1 ac]))/\B=[(bk,O [I 0,I 0,I 0,I 0,I 2,I 1,.bool false] 89)]/\SlC xN h' db dc aN.Deputies/\SlC zQ h' vb vc aN.Versions/\SlC kV h' ob_z oc aN.Docs/\SlC qJ h' ab ac aN.Approvals):=by
 refine cH func47 U ntmps47 U λX hM hX=>?_
 have hs0:=@rfl _ (aN)
 refine sr (aS zc30 (λb1=>qO 3 U (aA (e9 (cells:=[I 0,I 0,I 0,I 0,I 2,I 1,.bool false]) (places:=[(0,1),(1,1),(2,1),(3,1),(4,1),(5,1),(6,1)]) underlying89 zc89 kr kr (aA (aV (cells:=[I 0,I 0,I 0,I 0,I 2,I 1,.bool false]) sO ty89 zc89 U U kr (λb2=>aA (cC call122 (Fq h) U (λv1 h1 hle1 hp1=>?_)))))))))
 obtain⟨rr1,rfl,ok1⟩:=hp1
 refine aA (e9 (cells:=[I 1,I 0,I 0,.string cy.Name,.slice rr1.jj cy.Kinds.length rr1.ji,.slice rr1.gE cy.Offices.length rr1.gD,.slice rr1.ot cy.Rules.length rr1.oq,I cy.Change.Kind,I cy.Change.N,I cy.Change.No,.string cy.Change.Name,.slice rr1.Change.mL cy.Change.L.length rr1.Change.m4,I cy.Mode]) (places:=[(0,1),(1,1),(2,1),(3,10)]) underlying105 zc105 kr kr (aA (aV (cells:=[I 1,I 0,I 0,.string cy.Name,.slice rr1.jj cy.Kinds.length rr1.ji,.slice rr1.gE cy.Offices.length rr1.gD,.slice rr1.ot cy.Rules.length rr1.oq,I cy.Change.Kind,I cy.Change.N,I cy.Change.No,.string cy.Change.Name,.slice rr1.Change.mL cy.Change.L.length rr1.Change.m4,I cy.Mode]) xg ty105 zc105 U U kr (λb3=>aA (e9 (cells:=[.slice (some ⟨b2,0,none⟩) 1 1,.slice none 0 0,.slice none 0 0,.slice none 0 0,.slice (some ⟨b3,0,none⟩) 1 1,.slice none 0 0,.slice none 0 0]) (places:=[(0,1),(1,1),(2,1),(3,1),(4,1),(5,1),(6,1)]) OA zc30 kr kr (aS zc30 (λb4=>aR 0 ty30 U U U U U U (qO 3 U (aA (e9 (cells:=[I 0,I 0,I 0,I 40,I 2,I 5,I 0,I (-1),I 100,.bool false]) (places:=[(0,1),(1,1),(2,1),(3,1),(4,1),(5,1),(6,1),(7,1),(8,1),(9,1)]) underlying93 zc93 kr kr (aA (aV (cells:=[I 0,I 0,I 0,I 40,I 2,I 5,I 0,I (-1),I 100,.bool false]) nr ty93 zc93 U U kr (λb5=>qL 1 [] U (cK 1 ty23 U U U U U U (qO 3 U (aA (aV (cells:=[I 9]) dy ty3 zc3 U U kr (λb6=>aA (e9 (cells:=[I 7,I 1,I 0,I 60,I 0,I 50,.slice (some ⟨b6,0,none⟩) 1 1,.slice none 0 0,.slice none 0 0,Y 0,Y 0,Y 0,Y 0,Y 0,Y 0,Y 0,Y 0,Y 0,Y 0,Y 0,Y 0,Y 0,Y 0,Y 0,Y 0,Y 0,Y 0,Y 0,Y 0,Y 0,Y 0,Y 0,Y 0,Y 0,Y 0,Y 0,Y 0,Y 0,Y 0,Y 0,Y 0]) (places:=[(0,1),(1,1),(2,1),(3,1),(4,1),(5,1),(6,1),(7,1),(8,1),(9,32)]) underlying51 zc51 kr kr (aO 0 U hM (λh2 hle2 hb1=>?_)))))))))))))))))))))
 have sl1:SlC kB h2 (some ⟨b6,0,none⟩) 1 ([9]):=aY.slB0 (T:=3) (fz:=(0,0)) ((show aY kB h1 [I 9] ([9])from⟨[I 9],[],rfl,rfl,rfl,rfl⟩).mono xH hle2) hb1
 refine aA (aV (cells:=[I 7,I 1,I 0,I 60,I 0,I 50,.slice (some ⟨b6,0,none⟩) 1 1,.slice none 0 0,.slice none 0 0,Y 0,Y 0,Y 0,Y 0,Y 0,Y 0,Y 0,Y 0,Y 0,Y 0,Y 0,Y 0,Y 0,Y 0,Y 0,Y 0,Y 0,Y 0,Y 0,Y 0,Y 0,Y 0,Y 0,Y 0,Y 0,Y 0,Y 0,Y 0,Y 0,Y 0,Y 0,Y 0]) sf ty51 zc51 U U kr (λb7=>qL 1 [] U (cK 2 ty27 U U U U U U (qO 3 U (aA (e9 (cells:=[I 3,I 4,I 6,I 7,I 5,I 2,I 0,.bool false]) (places:=[(0,1),(1,1),(2,1),(3,1),(4,1),(5,1),(6,1),(7,1)]) underlying81 zc81 kr kr (aA (aV (cells:=[I 3,I 4,I 6,I 7,I 5,I 2,I 0,.bool false]) oD ty81 zc81 U U kr (λb8=>qL 1 [] U (cK 3 ty28 U U U U U U (qO 3 U (cN 3 ty30 U U U (aR 6 ty30 U U U U U U (aI ?_))))))))))))))
 have hle3:=HF.le_refl h2
 refine eC 2 U hM (λh4 hle4 hb3=>?_)
 have sl3:SlC xN h4 (some ⟨b5,0,none⟩) 1 ([(Tt 0 0 0 40 2 5 0 (-1) 100 false)]):=aY.slB0 (T:=93) (fz:=(0,0)) ((show aY xN h2 [I 0,I 0,I 0,I 40,I 2,I 5,I 0,I (-1),I 100,.bool false] ([(Tt 0 0 0 40 2 5 0 (-1) 100 false)])from⟨[I 0,I 0,I 0,I 40,I 2,I 5,I 0,I (-1),I 100,.bool false],[],rfl,rfl,rfl,rfl⟩).mono zM hle4) hb3
 refine eC 3 U hM (λh5 hle5 hb4=>?_)
 have sl4:SlC zQ h5 (some ⟨b3,0,none⟩) 1 ([(Tk 1 0 0 cy)]):=aY.slB0 (T:=105) (fz:=(0,0)) ((show aY zQ h4 [I 1,I 0,I 0,.string cy.Name,.slice rr1.jj cy.Kinds.length rr1.ji,.slice rr1.gE cy.Offices.length rr1.gD,.slice rr1.ot cy.Rules.length rr1.oq,I cy.Change.Kind,I cy.Change.N,I cy.Change.No,.string cy.Change.Name,.slice rr1.Change.mL cy.Change.L.length rr1.Change.m4,I cy.Mode] ([(Tk 1 0 0 cy)])from⟨[I 1,I 0,I 0,.string cy.Name,.slice rr1.jj cy.Kinds.length rr1.ji,.slice rr1.gE cy.Offices.length rr1.gD,.slice rr1.ot cy.Rules.length rr1.oq,I cy.Change.Kind,I cy.Change.N,I cy.Change.No,.string cy.Change.Name,.slice rr1.Change.mL cy.Change.L.length rr1.Change.m4,I cy.Mode],[],rfl,rfl,⟨(pM.mk rr1),rfl,((show Version.ok h1 (Tk 1 0 0 cy) (pM.mk rr1)from⟨ok1⟩).mono ((hle2.t hle3).t hle4))⟩,rfl⟩).mono jN hle5) hb4
 refine eC 1 U hM (λh6 hle6 hb5=>?_)
 have sl5:SlC kV h6 (some ⟨b7,0,none⟩) 1 ([(Document.mk 7 1 0 60 0 50 ([9]) ([]) ([]) (λ_=>0))]):=aY.slB0 (T:=51) (fz:=(0,0)) ((show aY kV h5 [I 7,I 1,I 0,I 60,I 0,I 50,.slice (some ⟨b6,0,none⟩) 1 1,.slice none 0 0,.slice none 0 0,Y 0,Y 0,Y 0,Y 0,Y 0,Y 0,Y 0,Y 0,Y 0,Y 0,Y 0,Y 0,Y 0,Y 0,Y 0,Y 0,Y 0,Y 0,Y 0,Y 0,Y 0,Y 0,Y 0,Y 0,Y 0,Y 0,Y 0,Y 0,Y 0,Y 0,Y 0,Y 0] ([(Document.mk 7 1 0 60 0 50 ([9]) ([]) ([]) (λ_=>0))])from⟨[I 7,I 1,I 0,I 60,I 0,I 50,.slice (some ⟨b6,0,none⟩) 1 1,.slice none 0 0,.slice none 0 0,Y 0,Y 0,Y 0,Y 0,Y 0,Y 0,Y 0,Y 0,Y 0,Y 0,Y 0,Y 0,Y 0,Y 0,Y 0,Y 0,Y 0,Y 0,Y 0,Y 0,Y 0,Y 0,Y 0,Y 0,Y 0,Y 0,Y 0,Y 0,Y 0,Y 0,Y 0,Y 0],[],rfl,rfl,⟨(jZ.mk (some ⟨b6,0,none⟩) 1 none 0 none 0),rfl,((show SG h2 (Document.mk 7 1 0 60 0 50 ([9]) ([]) ([]) (λ_=>0)) (jZ.mk (some ⟨b6,0,none⟩) 1 none 0 none 0)from⟨sl1,vE,vE⟩).mono ((hle3.t hle4).t hle5))⟩,rfl⟩).mono vL hle6) hb5
 refine eC 0 U hM (λh7 hle7 hb6=>?_)
 have sl6:SlC qJ h7 (some ⟨b8,0,none⟩) 1 ([(kT 3 4 6 7 5 2 0 false)]):=aY.slB0 (T:=81) (fz:=(0,0)) ((show aY qJ h6 [I 3,I 4,I 6,I 7,I 5,I 2,I 0,.bool false] ([(kT 3 4 6 7 5 2 0 false)])from⟨[I 3,I 4,I 6,I 7,I 5,I 2,I 0,.bool false],[],rfl,rfl,rfl,rfl⟩).mono zH hle7) hb6
 exact oO (v:=.agg (vB [.slice (some ⟨b2,0,none⟩) 1 1,.slice (some ⟨b5,0,none⟩) 1 1,.slice none 0 0,.slice none 0 0,.slice (some ⟨b3,0,none⟩) 1 1,.slice (some ⟨b7,0,none⟩) 1 1,.slice (some ⟨b8,0,none⟩) 1 1])) (h2:=h7) (B:=[(b2,O [I 0,I 0,I 0,I 0,I 2,I 1,.bool false] 89)]) func47 (λa ha w hw=>ni (rs:=[.cell 0 30]) (vs:=[.agg (vB [.slice (some ⟨b2,0,none⟩) 1 1,.slice (some ⟨b5,0,none⟩) 1 1,.slice none 0 0,.slice none 0 0,.slice (some ⟨b3,0,none⟩) 1 1,.slice (some ⟨b7,0,none⟩) 1 1,.slice (some ⟨b8,0,none⟩) 1 1])]) U ⟨⟨2,_,_,_,_,U,U,.inl ⟨ty30,U⟩⟩,trivial⟩ a ha w hw) (λw hw=>hw.sub (.cons _ (.cons_cons _ (.cons _ .slnil)))) ⟨b2,some ⟨b5,0,none⟩,1,some ⟨b3,0,none⟩,1,some ⟨b7,0,none⟩,1,some ⟨b8,0,none⟩,1,U,U,(sl3.mono zM ((hle5.t hle6).t hle7)),(sl4.mono jN (hle6.t hle7)),(sl5.mono vL hle7),sl6⟩
theorem nU(h:HF)(cv:Register)(fF:fq)(eU:Int)(state:Int)(jw:xV h cv fF)(hsm:smR cv)(hln:cv.Docs.length<20)(hk:Kinds h):Ret prog 48 [.agg (vK cv fF).toArray,I eU,I state] h (.bool (Kg cv eU state)):=by
 refine sT func48 U ntmps48 U λX hM hX hF=>?_
 have hs0:=@rfl _ (Kg cv eU state)
 refine sr (bS (λb1=>qO 4 U (cN 0 ty30 U U U (aA (aV (cells:=[I (-1)]) dy ty3 zc3 U U kr (λb2=>av (aO 0 U hM (λh1 hle1 hb1=>?_))))))))
 have sl1:SlC kB h1 (some ⟨b2,0,none⟩) 1 ([(-1)]):=aY.slB0 (T:=3) (fz:=(0,0)) ((show aY kB h [I (-1)] ([(-1)])from⟨[I (-1)],[],rfl,rfl,rfl,rfl⟩).mono xH hle1) hb1
 refine aA (cC L8 (nV _ _ _ _ _ _ ([]) none 0 7 eU 100 (jw.mono hle1) sl1 vE ob ob (hk.mono hle1)) U (λv1 h2 hle2 hp1=>?_))
 obtain⟨rr1,rfl,ok1⟩:=hp1
 refine qO 3 U (aS zc36 (λb3=>aR 0 ty36 U U U U U U (qO 7 U (aU 5 [18,19,20,21,22,23] 18 23 (((eL cv ([(-1)]) ([]) 7 eU 100).1).State==state) U (λc1 hk1=>?_) (λe=>?_)))))
 .exact qL 5 [0] U (hk1 _ U)
 exact an (nretP [.bool (((eL cv ([(-1)]) ([]) 7 eU 100).2==0)&&(((eL cv ([(-1)]) ([]) 7 eU 100).1).State==state))] (cs hs0))
theorem GJ(h:HF)(hk:Kinds h):Ret prog 9 [] h (.bool (wa)):=by
 refine sT func9 U ntmps9 U λX hM hX hF=>?_
 have hs0:=@rfl _ (wa)
 refine qT 6 U (aA (e9 (cells:=[.slice none 0 0,.slice none 0 0,.slice none 0 0,.slice none 0 0,.slice none 0 0,.slice none 0 0,.slice none 0 0]) (places:=[(0,1),(1,1),(2,1),(3,1),(4,1),(5,1),(6,1)]) OA zc30 kr kr (aA (cC L8 (nV h (qS ([]) ([]) ([]) ([]) ([]) ([]) ([])) (fq.mk none 0 none 0 none 0 none 0 none 0 none 0 none 0) ([]) none 0 ([]) none 0 0 0 0 ⟨vE,vE,vE,vE,vE,vE,vE⟩ vE vE (by first|exact nd|exact ky (by decide) (by decide) (by decide)) (by decide) hk) U (λv1 h1 hle1 hp1=>?_)))))
 rw[show(eL (qS ([]) ([]) ([]) ([]) ([]) ([]) ([])) ([]) ([]) 0 0 0)=((gM.mk 0 0 [] []),1)from by kernel_rfl]at hp1
 obtain⟨rr1,rfl,ok1⟩:=hp1
 refine qO 3 U (aS zc36 (λb1=>aR 0 ty36 U U U U U U (qO 4 U ?_)))
 let z3:Nat×Obj:=(b1,O [I 0,I 0,.slice rr1.me 0 rr1.md,.slice rr1.HY 0 rr1.HX] 36)
 refine aA (nA (A:=[]) (Fr:=[z3]) wx rfl (gJ h1) rfl (λv2 h2 B1 hle2 hp2=>?_) (λ_ _ _ _ hR_=>by obtain⟨_,_,_,_,_,_,_,_,_,hr_,_⟩:=hR_;cases hr_))
 obtain⟨b2,q1,q2,q3,q4,q5,q6,q7,q8,hr_,rfl,sl1,sl2,sl3,sl4⟩:=hp2
 cases hr_
 refine aO 0 U hM (λh3 hle3 hb1=>?_)
 have sl5:SlC vH h3 (some ⟨b2,0,none⟩) 1 ([(jD 0 0 0 0 2 1 false)]):=aY.slB0 (T:=89) (fz:=(0,0)) ((show aY vH h2 [I 0,I 0,I 0,I 0,I 2,I 1,.bool false] ([(jD 0 0 0 0 2 1 false)])from⟨[I 0,I 0,I 0,I 0,I 2,I 1,.bool false],[],rfl,rfl,rfl,rfl⟩).mono zR hle3) hb1
 refine aA (cC call16 (rP h3 (qS ([(jD 0 0 0 0 2 1 false)]) aN.Deputies ([]) ([]) aN.Versions aN.Docs aN.Approvals) (fq.mk (some ⟨b2,0,none⟩) 1 q1 q2 none 0 none 0 q3 q4 q5 q6 q7 q8) 7 1 10 100 ⟨sl5,(sl1.mono zM hle3),vE,vE,(sl2.mono jN hle3),(sl3.mono vL hle3),(sl4.mono zH hle3)⟩ (by first|exact nd|exact ky (by decide) (by decide) (by decide)) (hk.mono ((hle1.t hle2).t hle3))) U (λv3 h4 hle4 hp3=>?_))
 rw[show(fh (qS ([(jD 0 0 0 0 2 1 false)]) aN.Deputies ([]) ([]) aN.Versions aN.Docs aN.Approvals) 7 1 10 100)=([2],0)from by kernel_rfl]at hp3
 obtain⟨rb1,rc1,rfl,sl6⟩:=hp3
 refine qO 8 rfl (aA (nA (A:=[]) (Fr:=[z3]) wx rfl (gJ h4) rfl (λv4 h5 B2 hle5 hp4=>?_) (λ_ _ _ _ hR_=>by obtain⟨_,_,_,_,_,_,_,_,_,hr_,_⟩:=hR_;cases hr_)))
 obtain⟨b3,q9,q10,q11,q12,q13,q14,q15,q16,hr_,rfl,sl7,sl8,sl9,sl10⟩:=hp4
 cases hr_
 refine aO 0 U hM (λh6 hle6 hb2=>?_)
 have sl11:SlC vH h6 (some ⟨b3,0,none⟩) 1 ([(jD 0 0 0 0 2 1 false)]):=aY.slB0 (T:=89) (fz:=(0,0)) ((show aY vH h5 [I 0,I 0,I 0,I 0,I 2,I 1,.bool false] ([(jD 0 0 0 0 2 1 false)])from⟨[I 0,I 0,I 0,I 0,I 2,I 1,.bool false],[],rfl,rfl,rfl,rfl⟩).mono zR hle6) hb2
 refine aA (cC call16 (rP h6 (qS ([(jD 0 0 0 0 2 1 false)]) aN.Deputies ([]) ([]) aN.Versions aN.Docs aN.Approvals) (fq.mk (some ⟨b3,0,none⟩) 1 q9 q10 none 0 none 0 q11 q12 q13 q14 q15 q16) 7 1 10 5 ⟨sl11,(sl7.mono zM hle6),vE,vE,(sl8.mono jN hle6),(sl9.mono vL hle6),(sl10.mono zH hle6)⟩ (by first|exact nd|exact ky (by decide) (by decide) (by decide)) (hk.mono (((((hle1.t hle2).t hle3).t hle4).t hle5).t hle6))) U (λv5 h7 hle7 hp5=>?_))
 rw[show(fh (qS ([(jD 0 0 0 0 2 1 false)]) aN.Deputies ([]) ([]) aN.Versions aN.Docs aN.Approvals) 7 1 10 5)=([],0)from by kernel_rfl]at hp5
 obtain⟨rb2,rc2,rfl,sl12⟩:=hp5
 refine qO 8 rfl (aA (nA (A:=[]) (Fr:=[z3]) wx rfl (gJ h7) rfl (λv6 h8 B3 hle8 hp6=>?_) (λ_ _ _ _ hR_=>by obtain⟨_,_,_,_,_,_,_,_,_,hr_,_⟩:=hR_;cases hr_)))
 obtain⟨b4,q17,q18,q19,q20,q21,q22,q23,q24,hr_,rfl,sl13,sl14,sl15,sl16⟩:=hp6
 cases hr_
 refine aO 0 U hM (λh9 hle9 hb3=>?_)
 have sl17:SlC vH h9 (some ⟨b4,0,none⟩) 1 ([(jD 0 0 0 0 2 1 false)]):=aY.slB0 (T:=89) (fz:=(0,0)) ((show aY vH h8 [I 0,I 0,I 0,I 0,I 2,I 1,.bool false] ([(jD 0 0 0 0 2 1 false)])from⟨[I 0,I 0,I 0,I 0,I 2,I 1,.bool false],[],rfl,rfl,rfl,rfl⟩).mono zR hle9) hb3
 refine aA (cC L8 (nV h9 (qS ([(jD 0 0 0 0 2 1 false)]) aN.Deputies ([]) ([]) aN.Versions aN.Docs aN.Approvals) (fq.mk (some ⟨b4,0,none⟩) 1 q17 q18 none 0 none 0 q19 q20 q21 q22 q23 q24) ([]) none 0 ([]) none 0 7 10 100 ⟨sl17,(sl13.mono zM hle9),vE,vE,(sl14.mono jN hle9),(sl15.mono vL hle9),(sl16.mono zH hle9)⟩ vE vE (by first|exact nd|exact ky (by decide) (by decide) (by decide)) (by decide) (hk.mono ((((((((hle1.t hle2).t hle3).t hle4).t hle5).t hle6).t hle7).t hle8).t hle9))) U (λv7 h10 hle10 hp7=>?_))
 rw[show(eL (qS ([(jD 0 0 0 0 2 1 false)]) aN.Deputies ([]) ([]) aN.Versions aN.Docs aN.Approvals) ([]) ([]) 7 10 100)=((gM.mk 0 0 [] []),1)from by kernel_rfl]at hp7
 obtain⟨rr2,rfl,ok2⟩:=hp7
 refine qO 3 U (aS zc36 (λb5=>aR 0 ty36 U U U U U U (qO 4 U ?_)))
 let z5:Nat×Obj:=(b5,O [I 0,I 0,.slice rr2.me 0 rr2.md,.slice rr2.HY 0 rr2.HX] 36)
 refine aA (nA (A:=[]) (Fr:=[z5,z3]) wx rfl (gJ h10) rfl (λv8 h11 B4 hle11 hp8=>?_) (λ_ _ _ _ hR_=>by obtain⟨_,_,_,_,_,_,_,_,_,hr_,_⟩:=hR_;cases hr_))
 obtain⟨b6,q25,q26,q27,q28,q29,q30,q31,q32,hr_,rfl,sl18,sl19,sl20,sl21⟩:=hp8
 cases hr_
 refine aS zc30 (λb7=>aR 0 ty30 U U U U U U (qL 5 [0] U (aA (fj (Dd (i:=0) sO ty89 U U ob) (qL 1 [] U (cK 1 ty3 U U U U U U (qO 3 U ?_)))))))
 let z1:Nat×Obj:=(b7,O [.slice (some ⟨b6,0,none⟩) 1 1,.slice q25 1 q26,.slice none 0 0,.slice none 0 0,.slice q27 1 q28,.slice q29 1 q30,.slice q31 1 q32] 30)
 refine aA (nA (A:=[]) (Fr:=[z1,(b6,O [I 0,I 0,I 0,I 0,I 2,I 0,.bool false] 89),z5,z3]) wx rfl (gJ h11) rfl (λv9 h12 B5 hle12 hp9=>?_) (λ_ _ _ _ hR_=>by obtain⟨_,_,_,_,_,_,_,_,_,hr_,_⟩:=hR_;cases hr_))
 obtain⟨b8,q33,q34,q35,q36,q37,q38,q39,q40,hr_,rfl,sl22,sl23,sl24,sl25⟩:=hp9
 cases hr_
 refine aS zc30 (λb9=>aR 0 ty30 U U U U U U (qO 3 U (aA (e9 (cells:=[I 0,I 0,I 0,I 5,I 9,.bool false,.bool false]) (places:=[(0,1),(1,1),(2,1),(3,1),(4,1),(5,1),(6,1)]) underlying97 zc97 kr kr (aA (aV (cells:=[I 0,I 0,I 0,I 5,I 9,.bool false,.bool false]) pg ty97 zc97 U U kr (λb10=>qL 1 [] U (cK 1 ty24 U U U U U U (qO 4 U (aA (e9 (cells:=[.slice none 0 0,.slice none 0 0,.slice none 0 0,.slice none 0 0,.slice none 0 0,.slice none 0 0,.slice none 0 0]) (places:=[(0,1),(1,1),(2,1),(3,1),(4,1),(5,1),(6,1)]) OA zc30 kr kr (ai (v:=I 0) Oe (uD (pz h12 (qS ([]) ([]) ([]) ([]) ([]) ([]) ([])) (fq.mk none 0 none 0 none 0 none 0 none 0 none 0 none 0) ⟨vE,vE,vE,vE,vE,vE,vE⟩ (by first|exact nd|exact ky (by decide) (by decide) (by decide)) (hk.mono (((((((((((hle1.t hle2).t hle3).t hle4).t hle5).t hle6).t hle7).t hle8).t hle9).t hle10).t hle11).t hle12))) kr) U (qO 2 U (cN 3 ty30 U U U (aO 4 U hM (λh13 hle13 hb4=>?_))))))))))))))))
 have sl26:SlC vH h13 (some ⟨b6,0,none⟩) 1 ([(jD 0 0 0 0 2 0 false)]):=aY.slB0 (T:=89) (fz:=(0,0)) ((show aY vH h12 [I 0,I 0,I 0,I 0,I 2,I 0,.bool false] ([(jD 0 0 0 0 2 0 false)])from⟨[I 0,I 0,I 0,I 0,I 2,I 0,.bool false],[],rfl,rfl,rfl,rfl⟩).mono zR hle13) hb4
 refine ai (v:=I 300) Oe (uD (pz h13 (qS ([(jD 0 0 0 0 2 0 false)]) aN.Deputies ([]) ([]) aN.Versions aN.Docs aN.Approvals) (fq.mk (some ⟨b6,0,none⟩) 1 q25 q26 none 0 none 0 q27 q28 q29 q30 q31 q32) ⟨sl26,(sl18.mono zM (hle12.t hle13)),vE,vE,(sl19.mono jN (hle12.t hle13)),(sl20.mono vL (hle12.t hle13)),(sl21.mono zH (hle12.t hle13))⟩ (by first|exact nd|exact ky (by decide) (by decide) (by decide)) (hk.mono ((((((((((((hle1.t hle2).t hle3).t hle4).t hle5).t hle6).t hle7).t hle8).t hle9).t hle10).t hle11).t hle12).t hle13))) kr) U (qO 20 U (aA (aV (cells:=[I 2]) dy ty3 zc3 U U kr (λb11=>aO 0 U hM (λh14 hle14 hb5=>?_)))))
 have sl27:SlC kB h14 (some ⟨b11,0,none⟩) 1 ([2]):=aY.slB0 (T:=3) (fz:=(0,0)) ((show aY kB h13 [I 2] ([2])from⟨[I 2],[],rfl,rfl,rfl,rfl⟩).mono xH hle14) hb5
 refine ai (v:=.bool true) call18 (uD (tW h14 ([2]) rb1 rc1 ([2]) (some ⟨b11,0,none⟩) 1 (sl6.mono xH (((((((((hle5.t hle6).t hle7).t hle8).t hle9).t hle10).t hle11).t hle12).t hle13).t hle14)) sl27) kr) U (qL 12 [] U ?_)
 let z2:Nat×Obj:=(b9,O [.slice (some ⟨b8,0,none⟩) 1 1,.slice q33 1 q34,.slice (some ⟨b10,0,none⟩) 1 1,.slice none 0 0,.slice q35 1 q36,.slice q37 1 q38,.slice q39 1 q40] 30)
 let z8:Nat×Obj:=(b10,O [I 0,I 0,I 0,I 5,I 9,.bool false,.bool false] 97)
 let z9:Nat×Obj:=(b8,O [I 0,I 0,I 0,I 0,I 2,I 1,.bool false] 89)
 refine aA (nA (A:=[]) (Fr:=[z8,z2,z9,z1,z5,z3]) wx rfl (gJ h14) rfl (λv10 h15 B6 hle15 hp10=>?_) (λ_ _ _ _ hR_=>by obtain⟨_,_,_,_,_,_,_,_,_,hr_,_⟩:=hR_;cases hr_))
 obtain⟨b12,q41,q42,q43,q44,q45,q46,q47,q48,hr_,rfl,sl28,sl29,sl30,sl31⟩:=hp10
 cases hr_
 refine aS zc30 (λb13=>aR 0 ty30 U U U U U U (qO 3 U (aA (e9 (cells:=[I 8,I 0,I 0,I (-1),I 10,I 1,I 59,.bool false]) (places:=[(0,1),(1,1),(2,1),(3,1),(4,1),(5,1),(6,1),(7,1)]) underlying101 zc101 kr kr (aA (aV (cells:=[I 8,I 0,I 0,I (-1),I 10,I 1,I 59,.bool false]) zI ty101 zc101 U U kr (λb14=>qL 1 [] U (cK 1 ty25 U U U U U U (qO 3 U (cN 1 ty30 U U U (aA (aV (cells:=[I (-1)]) dy ty3 zc3 U U kr (λb15=>aO 3 U hM (λh16 hle16 hb6=>?_))))))))))))))
 have sl32:SlC vH h16 (some ⟨b12,0,none⟩) 1 ([(jD 0 0 0 0 2 1 false)]):=aY.slB0 (T:=89) (fz:=(0,0)) ((show aY vH h15 [I 0,I 0,I 0,I 0,I 2,I 1,.bool false] ([(jD 0 0 0 0 2 1 false)])from⟨[I 0,I 0,I 0,I 0,I 2,I 1,.bool false],[],rfl,rfl,rfl,rfl⟩).mono zR hle16) hb6
 refine aO 1 U hM (λh17 hle17 hb7=>?_)
 have sl33:SlC Ti h17 (some ⟨b14,0,none⟩) 1 ([(Tu 8 0 0 (-1) 10 1 59 false)]):=aY.slB0 (T:=101) (fz:=(0,0)) ((show aY Ti h16 [I 8,I 0,I 0,I (-1),I 10,I 1,I 59,.bool false] ([(Tu 8 0 0 (-1) 10 1 59 false)])from⟨[I 8,I 0,I 0,I (-1),I 10,I 1,I 59,.bool false],[],rfl,rfl,rfl,rfl⟩).mono UK hle17) hb7
 refine aO 0 U hM (λh18 hle18 hb8=>?_)
 have sl34:SlC kB h18 (some ⟨b15,0,none⟩) 1 ([(-1)]):=aY.slB0 (T:=3) (fz:=(0,0)) ((show aY kB h17 [I (-1)] ([(-1)])from⟨[I (-1)],[],rfl,rfl,rfl,rfl⟩).mono xH hle18) hb8
 refine aA (cC L8 (nV h18 (qS ([(jD 0 0 0 0 2 1 false)]) aN.Deputies ([]) ([(Tu 8 0 0 (-1) 10 1 59 false)]) aN.Versions aN.Docs aN.Approvals) (fq.mk (some ⟨b12,0,none⟩) 1 q41 q42 none 0 (some ⟨b14,0,none⟩) 1 q43 q44 q45 q46 q47 q48) ([(-1)]) (some ⟨b15,0,none⟩) 1 ([]) none 0 7 10 100 ⟨(sl32.mono zR (hle17.t hle18)),(sl28.mono zM ((hle16.t hle17).t hle18)),vE,(sl33.mono UK hle18),(sl29.mono jN ((hle16.t hle17).t hle18)),(sl30.mono vL ((hle16.t hle17).t hle18)),(sl31.mono zH ((hle16.t hle17).t hle18))⟩ sl34 vE (by first|exact nd|exact ky (by decide) (by decide) (by decide)) (by decide) (hk.mono (((((((((((((((((hle1.t hle2).t hle3).t hle4).t hle5).t hle6).t hle7).t hle8).t hle9).t hle10).t hle11).t hle12).t hle13).t hle14).t hle15).t hle16).t hle17).t hle18))) U (λv11 h19 hle19 hp11=>?_))
 rw[show(eL (qS ([(jD 0 0 0 0 2 1 false)]) aN.Deputies ([]) ([(Tu 8 0 0 (-1) 10 1 59 false)]) aN.Versions aN.Docs aN.Approvals) ([(-1)]) ([]) 7 10 100)=((gM.mk 4 8 [1] [2]),0)from by kernel_rfl]at hp11
 obtain⟨rr3,rfl,ok3⟩:=hp11
 refine qO 3 U (aS zc36 (λb16=>aR 0 ty36 U U U U U U (qO 4 U ?_)))
 let z4:Nat×Obj:=(b13,O [.slice (some ⟨b12,0,none⟩) 1 1,.slice q41 1 q42,.slice none 0 0,.slice (some ⟨b14,0,none⟩) 1 1,.slice q43 1 q44,.slice q45 1 q46,.slice q47 1 q48] 30)
 let z6:Nat×Obj:=(b16,O [I 4,I 8,.slice rr3.me 1 rr3.md,.slice rr3.HY 1 rr3.HX] 36)
 refine aA (nA (A:=[]) (Fr:=[z6,z4,z8,z2,z9,z1,z5,z3]) wx rfl (gJ h19) rfl (λv12 h20 B7 hle20 hp12=>?_) (λ_ _ _ _ hR_=>by obtain⟨_,_,_,_,_,_,_,_,_,hr_,_⟩:=hR_;cases hr_))
 obtain⟨b17,q49,q50,q51,q52,q53,q54,q55,q56,hr_,rfl,sl35,sl36,sl37,sl38⟩:=hp12
 cases hr_
 refine aA (aV (cells:=[I 9]) dy ty3 zc3 U U kr (λb18=>aO 1 U hM (λh21 hle21 hb9=>?_)))
 have sl39:SlC vH h21 (some ⟨b17,0,none⟩) 1 ([(jD 0 0 0 0 2 1 false)]):=aY.slB0 (T:=89) (fz:=(0,0)) ((show aY vH h20 [I 0,I 0,I 0,I 0,I 2,I 1,.bool false] ([(jD 0 0 0 0 2 1 false)])from⟨[I 0,I 0,I 0,I 0,I 2,I 1,.bool false],[],rfl,rfl,rfl,rfl⟩).mono zR hle21) hb9
 refine aO 0 U hM (λh22 hle22 hb10=>?_)
 have sl40:SlC kB h22 (some ⟨b18,0,none⟩) 1 ([9]):=aY.slB0 (T:=3) (fz:=(0,0)) ((show aY kB h21 [I 9] ([9])from⟨[I 9],[],rfl,rfl,rfl,rfl⟩).mono xH hle22) hb10
 refine aA (cC L8 (nV h22 (qS ([(jD 0 0 0 0 2 1 false)]) aN.Deputies ([]) ([]) aN.Versions aN.Docs aN.Approvals) (fq.mk (some ⟨b17,0,none⟩) 1 q49 q50 none 0 none 0 q51 q52 q53 q54 q55 q56) ([9]) (some ⟨b18,0,none⟩) 1 ([]) none 0 7 10 100 ⟨(sl39.mono zR hle22),(sl35.mono zM (hle21.t hle22)),vE,vE,(sl36.mono jN (hle21.t hle22)),(sl37.mono vL (hle21.t hle22)),(sl38.mono zH (hle21.t hle22))⟩ sl40 vE (by first|exact nd|exact ky (by decide) (by decide) (by decide)) (by decide) (hk.mono (((((((((((((((((((((hle1.t hle2).t hle3).t hle4).t hle5).t hle6).t hle7).t hle8).t hle9).t hle10).t hle11).t hle12).t hle13).t hle14).t hle15).t hle16).t hle17).t hle18).t hle19).t hle20).t hle21).t hle22))) U (λv13 h23 hle23 hp13=>?_))
 rw[show(eL (qS ([(jD 0 0 0 0 2 1 false)]) aN.Deputies ([]) ([]) aN.Versions aN.Docs aN.Approvals) ([9]) ([]) 7 10 100)=((gM.mk 1 (-1) [] []),0)from by kernel_rfl]at hp13
 obtain⟨rr4,rfl,ok4⟩:=hp13
 refine qO 3 U (aS zc36 (λb19=>aR 0 ty36 U U U U U U (qL 37 [1,1,0,0] U ?_)))
 let z7:Nat×Obj:=(b19,O [I 1,I (-1),.slice rr4.me 0 rr4.md,.slice rr4.HY 0 rr4.HX] 36)
 refine aA (nA (A:=[]) (Fr:=[z7,z6,z4,z8,z2,z9,z1,z5,z3]) wx rfl (gJ h23) rfl (λv14 h24 B8 hle24 hp14=>?_) (λ_ _ _ _ hR_=>by obtain⟨_,_,_,_,_,_,_,_,_,hr_,_⟩:=hR_;cases hr_))
 obtain⟨b20,q57,q58,q59,q60,q61,q62,q63,q64,hr_,rfl,sl41,sl42,sl43,sl44⟩:=hp14
 cases hr_
 refine aO 0 U hM (λh25 hle25 hb11=>?_)
 have sl45:SlC vH h25 (some ⟨b20,0,none⟩) 1 ([(jD 0 0 0 0 2 1 false)]):=aY.slB0 (T:=89) (fz:=(0,0)) ((show aY vH h24 [I 0,I 0,I 0,I 0,I 2,I 1,.bool false] ([(jD 0 0 0 0 2 1 false)])from⟨[I 0,I 0,I 0,I 0,I 2,I 1,.bool false],[],rfl,rfl,rfl,rfl⟩).mono zR hle25) hb11
 refine ai (v:=.bool true) Ha (uD (nU h25 (qS ([(jD 0 0 0 0 2 1 false)]) aN.Deputies ([]) ([]) aN.Versions aN.Docs aN.Approvals) (fq.mk (some ⟨b20,0,none⟩) 1 q57 q58 none 0 none 0 q59 q60 q61 q62 q63 q64) 0 1 ⟨sl45,(sl41.mono zM hle25),vE,vE,(sl42.mono jN hle25),(sl43.mono vL hle25),(sl44.mono zH hle25)⟩ (by first|exact nd|exact ky (by decide) (by decide) (by decide)) (by decide) (hk.mono ((((((((((((((((((((((((hle1.t hle2).t hle3).t hle4).t hle5).t hle6).t hle7).t hle8).t hle9).t hle10).t hle11).t hle12).t hle13).t hle14).t hle15).t hle16).t hle17).t hle18).t hle19).t hle20).t hle21).t hle22).t hle23).t hle24).t hle25))) kr) rfl (av (aA (nA (A:=[]) (Fr:=[z7,z6,z4,z8,z2,z9,z1,z5,z3]) wx rfl (gJ h25) rfl (λv15 h26 B9 hle26 hp15=>?_) (λ_ _ _ _ hR_=>by obtain⟨_,_,_,_,_,_,_,_,_,hr_,_⟩:=hR_;cases hr_))))
 obtain⟨b21,q65,q66,q67,q68,q69,q70,q71,q72,hr_,rfl,sl46,sl47,sl48,sl49⟩:=hp15
 cases hr_
 refine aO 0 U hM (λh27 hle27 hb12=>?_)
 have sl50:SlC vH h27 (some ⟨b21,0,none⟩) 1 ([(jD 0 0 0 0 2 1 false)]):=aY.slB0 (T:=89) (fz:=(0,0)) ((show aY vH h26 [I 0,I 0,I 0,I 0,I 2,I 1,.bool false] ([(jD 0 0 0 0 2 1 false)])from⟨[I 0,I 0,I 0,I 0,I 2,I 1,.bool false],[],rfl,rfl,rfl,rfl⟩).mono zR hle27) hb12
 refine ai (v:=.bool true) Ha (uD (nU h27 (qS ([(jD 0 0 0 0 2 1 false)]) aN.Deputies ([]) ([]) aN.Versions aN.Docs aN.Approvals) (fq.mk (some ⟨b21,0,none⟩) 1 q65 q66 none 0 none 0 q67 q68 q69 q70 q71 q72) 6 3 ⟨sl50,(sl46.mono zM hle27),vE,vE,(sl47.mono jN hle27),(sl48.mono vL hle27),(sl49.mono zH hle27)⟩ (by first|exact nd|exact ky (by decide) (by decide) (by decide)) (by decide) (hk.mono ((((((((((((((((((((((((((hle1.t hle2).t hle3).t hle4).t hle5).t hle6).t hle7).t hle8).t hle9).t hle10).t hle11).t hle12).t hle13).t hle14).t hle15).t hle16).t hle17).t hle18).t hle19).t hle20).t hle21).t hle22).t hle23).t hle24).t hle25).t hle26).t hle27))) kr) rfl (qO 2 rfl (aA (nA (A:=[]) (Fr:=[z7,z6,z4,z8,z2,z9,z1,z5,z3]) wx rfl (gJ h27) rfl (λv16 h28 B10 hle28 hp16=>?_) (λ_ _ _ _ hR_=>by obtain⟨_,_,_,_,_,_,_,_,_,hr_,_⟩:=hR_;cases hr_))))
 obtain⟨b22,q73,q74,q75,q76,q77,q78,q79,q80,hr_,rfl,sl51,sl52,sl53,sl54⟩:=hp16
 cases hr_
 refine aO 0 U hM (λh29 hle29 hb13=>?_)
 have sl55:SlC vH h29 (some ⟨b22,0,none⟩) 1 ([(jD 0 0 0 0 2 1 false)]):=aY.slB0 (T:=89) (fz:=(0,0)) ((show aY vH h28 [I 0,I 0,I 0,I 0,I 2,I 1,.bool false] ([(jD 0 0 0 0 2 1 false)])from⟨[I 0,I 0,I 0,I 0,I 2,I 1,.bool false],[],rfl,rfl,rfl,rfl⟩).mono zR hle29) hb13
 refine ai (v:=.bool true) Ha (uD (nU h29 (qS ([(jD 0 0 0 0 2 1 false)]) aN.Deputies ([]) ([]) aN.Versions aN.Docs aN.Approvals) (fq.mk (some ⟨b22,0,none⟩) 1 q73 q74 none 0 none 0 q75 q76 q77 q78 q79 q80) 7 0 ⟨sl55,(sl51.mono zM hle29),vE,vE,(sl52.mono jN hle29),(sl53.mono vL hle29),(sl54.mono zH hle29)⟩ (by first|exact nd|exact ky (by decide) (by decide) (by decide)) (by decide) (hk.mono ((((((((((((((((((((((((((((hle1.t hle2).t hle3).t hle4).t hle5).t hle6).t hle7).t hle8).t hle9).t hle10).t hle11).t hle12).t hle13).t hle14).t hle15).t hle16).t hle17).t hle18).t hle19).t hle20).t hle21).t hle22).t hle23).t hle24).t hle25).t hle26).t hle27).t hle28).t hle29))) kr) rfl (qO 2 rfl (aA (nA (A:=[]) (Fr:=[z7,z6,z4,z8,z2,z9,z1,z5,z3]) wx rfl (gJ h29) rfl (λv17 h30 B11 hle30 hp17=>?_) (λ_ _ _ _ hR_=>by obtain⟨_,_,_,_,_,_,_,_,_,hr_,_⟩:=hR_;cases hr_))))
 obtain⟨b23,q81,q82,q83,q84,q85,q86,q87,q88,hr_,rfl,sl56,sl57,sl58,sl59⟩:=hp17
 cases hr_
 refine aO 0 U hM (λh31 hle31 hb14=>?_)
 have sl60:SlC vH h31 (some ⟨b23,0,none⟩) 1 ([(jD 0 0 0 0 2 1 false)]):=aY.slB0 (T:=89) (fz:=(0,0)) ((show aY vH h30 [I 0,I 0,I 0,I 0,I 2,I 1,.bool false] ([(jD 0 0 0 0 2 1 false)])from⟨[I 0,I 0,I 0,I 0,I 2,I 1,.bool false],[],rfl,rfl,rfl,rfl⟩).mono zR hle31) hb14
 refine ai (v:=.bool true) Ha (uD (nU h31 (qS ([(jD 0 0 0 0 2 1 false)]) aN.Deputies ([]) ([]) aN.Versions aN.Docs aN.Approvals) (fq.mk (some ⟨b23,0,none⟩) 1 q81 q82 none 0 none 0 q83 q84 q85 q86 q87 q88) 39 0 ⟨sl60,(sl56.mono zM hle31),vE,vE,(sl57.mono jN hle31),(sl58.mono vL hle31),(sl59.mono zH hle31)⟩ (by first|exact nd|exact ky (by decide) (by decide) (by decide)) (by decide) (hk.mono ((((((((((((((((((((((((((((((hle1.t hle2).t hle3).t hle4).t hle5).t hle6).t hle7).t hle8).t hle9).t hle10).t hle11).t hle12).t hle13).t hle14).t hle15).t hle16).t hle17).t hle18).t hle19).t hle20).t hle21).t hle22).t hle23).t hle24).t hle25).t hle26).t hle27).t hle28).t hle29).t hle30).t hle31))) kr) rfl (qO 2 rfl (aA (nA (A:=[]) (Fr:=[z7,z6,z4,z8,z2,z9,z1,z5,z3]) wx rfl (gJ h31) rfl (λv18 h32 B12 hle32 hp18=>?_) (λ_ _ _ _ hR_=>by obtain⟨_,_,_,_,_,_,_,_,_,hr_,_⟩:=hR_;cases hr_))))
 obtain⟨b24,q89,q90,q91,q92,q93,q94,q95,q96,hr_,rfl,sl61,sl62,sl63,sl64⟩:=hp18
 cases hr_
 refine aO 0 U hM (λh33 hle33 hb15=>?_)
 have sl65:SlC vH h33 (some ⟨b24,0,none⟩) 1 ([(jD 0 0 0 0 2 1 false)]):=aY.slB0 (T:=89) (fz:=(0,0)) ((show aY vH h32 [I 0,I 0,I 0,I 0,I 2,I 1,.bool false] ([(jD 0 0 0 0 2 1 false)])from⟨[I 0,I 0,I 0,I 0,I 2,I 1,.bool false],[],rfl,rfl,rfl,rfl⟩).mono zR hle33) hb15
 refine ai (v:=.bool true) Ha (uD (nU h33 (qS ([(jD 0 0 0 0 2 1 false)]) aN.Deputies ([]) ([]) aN.Versions aN.Docs aN.Approvals) (fq.mk (some ⟨b24,0,none⟩) 1 q89 q90 none 0 none 0 q91 q92 q93 q94 q95 q96) 40 3 ⟨sl65,(sl61.mono zM hle33),vE,vE,(sl62.mono jN hle33),(sl63.mono vL hle33),(sl64.mono zH hle33)⟩ (by first|exact nd|exact ky (by decide) (by decide) (by decide)) (by decide) (hk.mono ((((((((((((((((((((((((((((((((hle1.t hle2).t hle3).t hle4).t hle5).t hle6).t hle7).t hle8).t hle9).t hle10).t hle11).t hle12).t hle13).t hle14).t hle15).t hle16).t hle17).t hle18).t hle19).t hle20).t hle21).t hle22).t hle23).t hle24).t hle25).t hle26).t hle27).t hle28).t hle29).t hle30).t hle31).t hle32).t hle33))) kr) rfl (qO 2 rfl (aA (nA (A:=[]) (Fr:=[z7,z6,z4,z8,z2,z9,z1,z5,z3]) wx rfl (gJ h33) rfl (λv19 h34 B13 hle34 hp19=>?_) (λ_ _ _ _ hR_=>by obtain⟨_,_,_,_,_,_,_,_,_,hr_,_⟩:=hR_;cases hr_))))
 obtain⟨b25,q97,q98,q99,q100,q101,q102,q103,q104,hr_,rfl,sl66,sl67,sl68,sl69⟩:=hp19
 cases hr_
 refine aO 0 U hM (λh35 hle35 hb16=>?_)
 have sl70:SlC vH h35 (some ⟨b25,0,none⟩) 1 ([(jD 0 0 0 0 2 1 false)]):=aY.slB0 (T:=89) (fz:=(0,0)) ((show aY vH h34 [I 0,I 0,I 0,I 0,I 2,I 1,.bool false] ([(jD 0 0 0 0 2 1 false)])from⟨[I 0,I 0,I 0,I 0,I 2,I 1,.bool false],[],rfl,rfl,rfl,rfl⟩).mono zR hle35) hb16
 refine ai (v:=.bool true) Ha (uD (nU h35 (qS ([(jD 0 0 0 0 2 1 false)]) aN.Deputies ([]) ([]) aN.Versions aN.Docs aN.Approvals) (fq.mk (some ⟨b25,0,none⟩) 1 q97 q98 none 0 none 0 q99 q100 q101 q102 q103 q104) 50 1 ⟨sl70,(sl66.mono zM hle35),vE,vE,(sl67.mono jN hle35),(sl68.mono vL hle35),(sl69.mono zH hle35)⟩ (by first|exact nd|exact ky (by decide) (by decide) (by decide)) (by decide) (hk.mono ((((((((((((((((((((((((((((((((((hle1.t hle2).t hle3).t hle4).t hle5).t hle6).t hle7).t hle8).t hle9).t hle10).t hle11).t hle12).t hle13).t hle14).t hle15).t hle16).t hle17).t hle18).t hle19).t hle20).t hle21).t hle22).t hle23).t hle24).t hle25).t hle26).t hle27).t hle28).t hle29).t hle30).t hle31).t hle32).t hle33).t hle34).t hle35))) kr) U (qO 2 U (cN 4 ty30 U U U (aO 5 U hM (λh36 hle36 hb17=>?_))))
 have sl71:SlC vH h36 (some ⟨b8,0,none⟩) 1 ([(jD 0 0 0 0 2 1 false)]):=aY.slB0 (T:=89) (fz:=(0,0)) ((show aY vH h35 [I 0,I 0,I 0,I 0,I 2,I 1,.bool false] ([(jD 0 0 0 0 2 1 false)])from⟨[I 0,I 0,I 0,I 0,I 2,I 1,.bool false],[],rfl,rfl,rfl,rfl⟩).mono zR hle36) hb17
 refine aO 3 U hM (λh37 hle37 hb18=>?_)
 have sl72:SlC xK h37 (some ⟨b10,0,none⟩) 1 ([(qW 0 0 0 5 9 false false)]):=aY.slB0 (T:=97) (fz:=(0,0)) ((show aY xK h36 [I 0,I 0,I 0,I 5,I 9,.bool false,.bool false] ([(qW 0 0 0 5 9 false false)])from⟨[I 0,I 0,I 0,I 5,I 9,.bool false,.bool false],[],rfl,rfl,rfl,rfl⟩).mono Interest.aj hle37) hb18
 exact ai (v:=.bool true) Ha (uD (nU h37 (qS ([(jD 0 0 0 0 2 1 false)]) aN.Deputies ([(qW 0 0 0 5 9 false false)]) ([]) aN.Versions aN.Docs aN.Approvals) (fq.mk (some ⟨b8,0,none⟩) 1 q33 q34 (some ⟨b10,0,none⟩) 1 none 0 q35 q36 q37 q38 q39 q40) 10 3 ⟨(sl71.mono zR hle37),(sl22.mono zM ((((((((((((((((((((((((hle13.t hle14).t hle15).t hle16).t hle17).t hle18).t hle19).t hle20).t hle21).t hle22).t hle23).t hle24).t hle25).t hle26).t hle27).t hle28).t hle29).t hle30).t hle31).t hle32).t hle33).t hle34).t hle35).t hle36).t hle37)),sl72,vE,(sl23.mono jN ((((((((((((((((((((((((hle13.t hle14).t hle15).t hle16).t hle17).t hle18).t hle19).t hle20).t hle21).t hle22).t hle23).t hle24).t hle25).t hle26).t hle27).t hle28).t hle29).t hle30).t hle31).t hle32).t hle33).t hle34).t hle35).t hle36).t hle37)),(sl24.mono vL ((((((((((((((((((((((((hle13.t hle14).t hle15).t hle16).t hle17).t hle18).t hle19).t hle20).t hle21).t hle22).t hle23).t hle24).t hle25).t hle26).t hle27).t hle28).t hle29).t hle30).t hle31).t hle32).t hle33).t hle34).t hle35).t hle36).t hle37)),(sl25.mono zH ((((((((((((((((((((((((hle13.t hle14).t hle15).t hle16).t hle17).t hle18).t hle19).t hle20).t hle21).t hle22).t hle23).t hle24).t hle25).t hle26).t hle27).t hle28).t hle29).t hle30).t hle31).t hle32).t hle33).t hle34).t hle35).t hle36).t hle37))⟩ (by first|exact nd|exact ky (by decide) (by decide) (by decide)) (by decide) (hk.mono ((((((((((((((((((((((((((((((((((((hle1.t hle2).t hle3).t hle4).t hle5).t hle6).t hle7).t hle8).t hle9).t hle10).t hle11).t hle12).t hle13).t hle14).t hle15).t hle16).t hle17).t hle18).t hle19).t hle20).t hle21).t hle22).t hle23).t hle24).t hle25).t hle26).t hle27).t hle28).t hle29).t hle30).t hle31).t hle32).t hle33).t hle34).t hle35).t hle36).t hle37))) kr) U (qO 3 U (nretP [.bool true] (cs hs0)))
theorem DI(rec:Expr->Int->Int)(h:HF)(x:Expr)(fY:cR)(limit:Int)(hrec:∀(h:HF)(qx:Expr)(lE:cR)(qlimit:Int)(hqx:kG h qx lE)(_:qx.dep<x.dep),Ret prog 123 [.agg (vC qx lE).toArray,I qlimit] h (I (rec qx qlimit)))(hx:kG h x fY):Ret prog 123 [.agg (vC x fY).toArray,I limit] h (I (gf.F rec x limit)):=by
 refine sT func123 U ntmps123 U λX hM hX hF=>?_
 have hs0:=@rfl _ (gf.F rec x limit)
 refine sr (bS (λb1=>qO 11 U ?_))
 refine lp1 x.L (λi w=>[(1,I limit),(2,Q b1),(5,I w),(6,I (i:Int))]) ([(b1,O (vC x fY) 62)]) (λs1 i w=>(gf.L1 rec limit (gf.K1)) s1 w) 1 hx.list.1.1 hs0 ?_ ?_ ?_
 .rintro i1 jm ft hs1 e
  exact sr (qO 3 U (nretP [I jm] (ci hs1)))
 .rintro i1 jm y1 rz1 hd1 cY aJ dY gy hs3 hx1 ag1 e
  refine qK 7 [0] U (tO cY U (qO 6 U (ae hs3 U (λc2 hs4=>?_) (λc2 hs5=>?_))))
  .have c2p:=of_decide_eq_true c2
   exact qK 8 [0] U (aA (iR mi ty62 hx.list.1 aJ U U U (λ_ _ _ e=>e) (λq2 r2 A2 ok2=>dv ty62 A2 U U (qO 3 U (ai call123 (hrec _ _ _ (qE .i64 (limit-jm)) ok2 (Sz (gj hd1))) U (qO 6 U (oi i1 U (qO 2 U (ag1 (qE .i64 (jm+(rec y1 (qE .i64 (limit-jm))))) hs4)))))))))
  have c2p:=of_decide_eq_false c2
  exact lM U (hx1 i1 jm hs5)
 rintro i1 jm hd1 fL hx e
 exact qK 7 [0] U (fO fL U (qO 8 U (hx _ rd)))
theorem tV:∀(m:Nat)(h:HF)(x:Expr)(fY:cR)(limit:Int)(_:x.dep<=m)(hx:kG h x fY),Ret prog 123 [.agg (vC x fY).toArray,I limit] h (I (gf.go m x limit))
 |0,h,x,fY,limit,hd,hx=>absurd hd (Nat.not_le.2 (TC _))
 |m+1,h,x,fY,limit,hd,hx=>DI (gf.go m) h x fY limit (λqh_ qx lE qlimit qhx qd=>tV m qh_ qx lE qlimit ob qhx) hx
theorem xp(h:HF)(x:Expr)(fY:cR)(limit:Int)(hx:kG h x fY):Ret prog 123 [.agg (vC x fY).toArray,I limit] h (I (gf x limit)):=tV _ h x fY limit (vG _) hx
theorem xq(h:HF)(l:List Version)(dU:Option Addr)(dT:Nat)(hl:SlC zQ h dU dT l):Ret prog 49 [.slice dU l.length dT] h (.bool (dZ l)):=by
 refine sT func49 U ntmps49 U λX hM hX hF=>?_
 have hs0:=@rfl _ (dZ l)
 refine qK 11 [] U (ae hs0 U (λc1 hs1=>?_) (λc1 hs2=>?_))
 .have c1p:=of_decide_eq_true c1
  exact sr (an (nretP [.bool false] (cs hs1)))
 have c1p:=of_decide_eq_false c1
 refine qT 6 U ?_
 refine lp0 l (λi=>[(0,.slice dU l.length dT),(3,I (i:Int))]) ([]) (λs1 i=>(dZ.L1 (dZ.K1)) s1) hl.1.1 hs2 ?_ ?_ ?_
 .rintro i1 ft hs4 e
  exact sr (an (nretP [.bool true] (cs hs4)))
 .rintro i1 y1 rz1 hd1 cY aJ dY gy hs6 hx1 ag1 e
  refine qK 6 [] U (tO cY U (qO 9 U (aA (iR xg ty105 hl.1 aJ U U U (λ_ _ _ e=>e) (λq2 r2 A2 ok2=>qL 1 [] U (Ay (j:=3) ty64 A2 U U (aS zc64 (λb2=>aR 0 ty64 U U U U U U (qL 9 [0] U (bL 5 [24,25,26,27,28,29] 24 29 (decide (40<(y1.Policy.Offices.length:Int))) U (λc2 hk1=>?_) (λe=>?_)))))))))))
  .exact qL 5 [0] U (hk1 _ U)
  refine av (bL 5 [30,31,32,33,34,35] 30 35 (decide (20<(y1.Policy.Rules.length:Int))) U (λc3 hk2=>?_) (λe=>?_))
  .exact qL 5 [0] U (hk2 _ U)
  refine av (bL 5 [36,37,38,39,40,41] 36 41 (decide (40<(gf y1.Policy.Change 40))) U (λc4 hk3=>?_) (λe=>?_))
  .exact qL 1 [] U (cN 0 ty62 U U U (ai call123 (xp _ _ _ 40 ok2.Policy.Change) U (qO 2 U (hk3 _ U))))
  refine aI (ae hs6 U (λc5 hs7=>?_) (λc5 hs8=>?_))
  .exact sr (an (nretP [.bool false] (cs hs7)))
  refine qT 5 U ?_
  refine lp0 y1.Policy.Rules (λi=>[(0,.slice dU l.length dT),(3,I (i1:Int)),(4,Q b2),(5,I (i:Int))]) ([(b2,O (xE y1.Policy r2.Policy) 64)]) (λs3 i=>(dZ.L3 ((dZ.L1 (dZ.K1) rz1))) s3) ok2.Policy.Rules.1.1 hs8 ?_ ?_ ?_
  .rintro i3 CG hs10 e
   exact eX (qT 2 U (oi i1 U (an (ba (L':=[]) js (ag1 hs10)))))
  .rintro i3 y3 rz3 hd3 Fy m6 Kr Pi hs11 hx3 ag2 e
   refine qK 7 [0] U (tO Fy U (qL 10 [0] U (aA (iR vq ty79 ok2.Policy.Rules.1 m6 U U U (λ_ _ _ e=>e) (λq4 r4 A4 ok4=>qL 1 [] U (Ay (j:=3) ty62 A4 U U (ai call123 (xp _ _ _ 40 ok4.Expr) U (qO 2 U (ae hs11 U (λc7 hs12=>?_) (λc7 hs13=>?_))))))))))
   .have c7p:=of_decide_eq_true c7
    exact sr (an (nretP [.bool false] (cs hs12)))
   have c7p:=of_decide_eq_false c7
   exact aH (qT 3 U (oi i3 U (an (ag2 hs13))))
  rintro i3 hd3 Pg hx e
  exact qK 7 [0] U (fO Pg U (qO 3 U (hx _ rd)))
 rintro i1 hd1 fL hx e
 exact qK 6 [] U (fO fL U (qO 3 U (hx _ rd)))
theorem Ii(h:HF)(cv:Register)(fF:fq)(jw:xV h cv fF):Ret prog 10 [.agg (vK cv fF).toArray] h (.bool (mR cv)):=by
 refine sT func10 U ntmps10 U λX hM hX hF=>?_
 have hs0:=@rfl _ (mR cv)
 refine sr (bS (λb1=>qL 10 [0] U (bL 5 [8,9,10,11,12,13] 8 13 (decide (12<(cv.Deputies.length:Int))) U (λc1 hk1=>?_) (λe=>?_))))
 .exact qL 5 [0] U (hk1 _ U)
 refine av (bL 5 [14,15,16,17,18,19] 14 19 (decide (12<(cv.Interests.length:Int))) U (λc2 hk2=>?_) (λe=>?_))
 .exact qL 5 [0] U (hk2 _ U)
 refine av (bL 5 [20,21,22,23,24,25] 20 25 (decide (12<(cv.Budgets.length:Int))) U (λc3 hk3=>?_) (λe=>?_))
 .exact qL 5 [0] U (hk3 _ U)
 refine av (bL 5 [26,27,28,29,30,31] 26 31 (decide (8<(cv.Docs.length:Int))) U (λc4 hk4=>?_) (λe=>?_))
 .exact qL 5 [0] U (hk4 _ U)
 refine av (bL 5 [32,33,34,35,36,37] 32 37 (decide (24<(cv.Approvals.length:Int))) U (λc5 hk5=>?_) (λe=>?_))
 .exact qL 5 [0] U (hk5 _ U)
 refine av (bL 5 [38,39,40,41,42,43] 38 43 (!(dZ cv.Versions)) U (λc6 hk6=>?_) (λe=>?_))
 .exact qL 2 [0] U (ai call49 (xq _ _ _ _ jw.Versions) U (qO 2 U (hk6 _ U)))
 refine aI (ae hs0 U (λc7 hs1=>?_) (λc7 hs2=>?_))
 .exact sr (an (nretP [.bool false] (cs hs1)))
 refine qT 6 U ?_
 refine lp0 cv.Docs (λi=>[(1,Q b1),(3,I (i:Int))]) ([(b1,O (vK cv fF) 30)]) (λs1 i=>(mR.L1 (mR.K1)) s1) jw.Docs.1.1 hs2 ?_ ?_ ?_
 .rintro i1 ft hs4 e
  exact sr (an (nretP [.bool true] (cs hs4)))
 .rintro i1 y1 rz1 hd1 cY aJ dY gy hs6 hx1 ag1 e
  refine qK 7 [0] U (tO cY U (qL 10 [0] U (aA (iR sf ty51 jw.Docs.1 aJ U U U (λ_ _ _ e=>e) (λq3 r3 A3 ok3=>qL 1 [] U (jk (j:=6) ty31 A3 U U (qL 3 [] U (bL 9 [59,60,61,62,63,64,65,66,67,68] 59 68 (decide (20<(y1.Revokes.length:Int))) U (λc8 hk7=>?_) (λe=>?_)))))))))
  .exact qL 3 [0] U (aA (iR sf ty51 jw.Docs.1 aJ U U U (λ_ _ _ e=>e) (λq4 r4 A4 ok4=>qL 1 [] U (jk (j:=7) ty31 A4 U U (qL 3 [] U (hk7 _ U))))))
  refine av (bL 9 [69,70,71,72,73,74,75,76,77,78] 69 78 (decide (20<(y1.Needs.length:Int))) U (λc9 hk8=>?_) (λe=>?_))
  .exact qL 3 [0] U (aA (iR sf ty51 jw.Docs.1 aJ U U U (λ_ _ _ e=>e) (λq5 r5 A5 ok5=>qL 1 [] U (jk (j:=8) ty31 A5 U U (qL 3 [] U (hk8 _ U))))))
  refine aI (ae hs6 U (λc10 hs7=>?_) (λc10 hs8=>?_))
  .exact sr (an (nretP [.bool false] (cs hs7)))
  exact aH (qT 3 U (oi i1 U (an (ag1 hs8))))
 rintro i1 hd1 fL hx e
 exact qK 7 [0] U (fO fL U (qO 3 U (hx _ rd)))
theorem Ij(h:HF)(cv:Register)(fF:fq)(no:Int)(jw:xV h cv fF):Ret prog 20 [.agg (vK cv fF).toArray,I no] h (I (dp cv no)):=by
 refine sT func20 U ntmps20 U λX hM hX hF=>?_
 have hs0:=@rfl _ (dp cv no)
 refine sr (bS (λb1=>qO 7 U ?_))
 refine lp0 cv.Docs (λi=>[(1,I no),(2,Q b1),(5,I (i:Int))]) ([(b1,O (vK cv fF) 30)]) (λs1 i=>(dp.L1 no (dp.K1)) s1 i) jw.Docs.1.1 hs0 ?_ ?_ ?_
 .rintro i1 ft hs1 e
  exact sr (an (nretP [I (-1)] (ci hs1)))
 .rintro i1 y1 rz1 hd1 cY aJ dY gy hs3 hx1 ag1 e
  refine qK 7 [0] U (tO cY U (qL 10 [0] U (aA (iR sf ty51 jw.Docs.1 aJ U U U (λ_ _ _ e=>e) (λq2 r2 A2 ok2=>qL 1 [] U (dD ty3 A2 U (qO 3 U (ae hs3 U (λc2 hs4=>?_) (λc2 hs5=>?_)))))))))
  .exact sr (qO 3 U (nretP [I (i1:Int)] (ci hs4)))
  exact aH (qT 3 U (oi i1 U (an (ag1 hs5))))
 rintro i1 hd1 fL hx e
 exact qK 7 [0] U (fO fL U (qO 3 U (hx _ rd)))
theorem qw(h:HF)(eW:Int)  : Ret prog 240 [I eW] h (.bool (kU eW)):=by
 refine sT func240 U ntmps240 U λX hM hX hF=>?_
 have hs0:=@rfl _ (kU eW)
 refine qT 9 U (aU 3 [5,6,7,8] 5 8 (decide (eW<1099511627776)) U (λc1 hk1=>?_) (λe=>?_))
 .exact av (qO 2 U (hk1 _ U))
 exact an (nretP [.bool (decide (0<=eW)&&decide (eW<1099511627776))] (cs hs0))
theorem wH(h:HF)(eW:Int)  : Ret prog 241 [I eW] h (.bool (mq eW)):=by
 refine sT func241 U ntmps241 U λX hM hX hF=>?_
 have hs0:=@rfl _ (mq eW)
 refine qT 9 U (aU 3 [5,6,7,8] 5 8 (decide (eW<32)) U (λc1 hk1=>?_) (λe=>?_))
 .exact av (qO 2 U (hk1 _ U))
 exact an (nretP [.bool (decide (0<=eW)&&decide (eW<32))] (cs hs0))
theorem wG(h:HF)(eW:Int)  : Ret prog 242 [I eW] h (.bool (lP eW)):=by
 refine sT func242 U ntmps242 U λX hM hX hF=>?_
 have hs0:=@rfl _ (lP eW)
 refine qT 9 U (aU 3 [5,6,7,8] 5 8 (decide (eW<64)) U (λc1 hk1=>?_) (λe=>?_))
 .exact av (qO 2 U (hk1 _ U))
 exact an (nretP [.bool (decide (0<=eW)&&decide (eW<64))] (cs hs0))
theorem E8(h:HF)(x:Appoint)  : Ret prog 153 [.agg (xL x).toArray] h (.bool (ku x)):=by
 refine sT func153 U ntmps153 U λX hM hX hF=>?_
 have hs0:=@rfl _ (ku x)
 refine sr (bS (λb1=>qL 9 [0] U (bL 4 [6,7,8,9,10] 6 10 (decide (1048576<x.No)) U (λc1 hk1=>?_) (λe=>?_))))
 .exact qL 4 [0] U (hk1 _ U)
 refine av (bL 5 [11,12,13,14,15,16] 11 16 (!(kU x.At)) U (λc2 hk2=>?_) (λe=>?_))
 .exact qL 2 [0] U (ai La (qw h x.At) U (qO 2 U (hk2 _ U)))
 refine av (bL 5 [17,18,19,20,21,22] 17 22 (!(kU x.Known)) U (λc3 hk3=>?_) (λe=>?_))
 .exact qL 2 [0] U (ai La (qw h x.Known) U (qO 2 U (hk3 _ U)))
 refine av (bL 5 [23,24,25,26,27,28] 23 28 (!(mq x.Office)) U (λc4 hk4=>?_) (λe=>?_))
 .exact qL 2 [0] U (ai call241 (wH h x.Office) U (qO 2 U (hk4 _ U)))
 refine av (bL 5 [29,30,31,32,33,34] 29 34 (!(lP x.Person)) U (λc5 hk5=>?_) (λe=>?_))
 .exact qL 2 [0] U (ai call242 (wG h x.Person) U (qO 2 U (hk5 _ U)))
 refine aI (ae hs0 U (λc6 hs1=>?_) (λc6 hs2=>?_))
 .exact sr (an (nretP [.bool false] (cs hs1)))
 refine qK 7 [0] U (ae hs2 U (λc7 hs4=>?_) (λc7 hs5=>?_))
 .exact qK 7 [0] U (nretP [.bool (x.Weight==0)] (cs hs4))
 refine qK 7 [0] U (aU 4 [43,44,45,46,47] 43 47 (decide (x.Weight<=64)) U (λc8 hk6=>?_) (λe=>?_))
 .exact qL 4 [0] U (hk6 _ U)
 exact an (nretP [.bool (decide (1<=x.Weight)&&decide (x.Weight<=64))] (cs hs5))
theorem xI(h:HF)(l:List Appoint)(dU:Option Addr)(dT:Nat)(hl:SlC vH h dU dT l):Ret prog 72 [.slice dU l.length dT] h (I (gC l)):=by
 refine sT func72 U ntmps72 U λX hM hX hF=>?_
 have hs0:=@rfl _ (gC l)
 refine qK 11 [] U (ae hs0 U (λc1 hs1=>?_) (λc1 hs2=>?_))
 .have c1p:=of_decide_eq_true c1
  exact sr (an (nretP [I 2] (ci hs1)))
 have c1p:=of_decide_eq_false c1
 refine qT 6 U ?_
 refine lp0 l (λi=>[(0,.slice dU l.length dT),(3,I (i:Int))]) ([]) (λs1 i=>(gC.L1 l (gC.K1)) s1 i) hl.1.1 hs2 ?_ ?_ ?_
 .rintro i1 ft hs4 e
  exact sr (an (nretP [I 0] (ci hs4)))
 .rintro i1 y1 rz1 hd1 cY aJ dY gy hs6 hx1 ag1 e
  refine qK 6 [] U (tO cY U (qO 6 U ?_))
  refine m8 [(0,.slice dU l.length dT),(3,I (i1:Int)),(36,.bool ((!(ku y1))||(decide (0<(i1:Int))&&decide (y1.No<=(nthI l ((i1:Int)-1)).No))))] (λe=>?_) (λhk1=>?_)
  rotate_left
  .refine eh ([]) mixed kr jn (λdt _=>?_)
   refine qA [0,1] U (cU 2 (enc:=xL) dt jn ei sO ty89 hl.1 (nthZ aJ) (dq aJ) U U U U kr (λq4 A4=>tf 3 U U (λ_ _ hj=>iP ty89 (A4.mono hj.1) U U) (tn 4 U (et call153 (E8 h y1) U (⟨jn,qA [5,6] U ?_⟩)))))
   refine cB 19 U (λc2=>?_) (λc2=>?_)
   .exact tk 7 U U (qR 8 16 U (aG kr (hk1 _ ⟨U,U,(cb (show true=((!(ku y1))||(decide (0<(i1:Int))&&decide (y1.No<=(nthI l ((i1:Int)-1)).No)))from by rw[c2]<;>rfl)),trivial⟩)))
   refine qR 7 3 U ?_
   refine cB 22 U (λc3=>?_) (λc3=>?_)
   .have c3p:=of_decide_eq_true c3
    refine qA [10,11] U (tf 12 U U (λ_ _ _=>oy (v':=I ((i1:Int)-1)) U (j0 ob)) ?_)
    have ho2:0<=(((i1:Int)-1):Int)/\(((i1:Int)-1):Int)<((l).length:Int):=ob
    exact cU 13 (enc:=xL) dt jn ei sO ty89 hl.1 ho2 (de ho2) U U U U kr (λq5 A5=>qB [14] U (tf 15 U U (rh ty3 A5 U) (qA [16,17] U (cU 18 (enc:=xL) dt jn ei sO ty89 hl.1 (nthZ aJ) (dq aJ) U U U U kr (λq6 A6=>qB [19] U (tf 20 U U (rh ty3 A6 U) (qR 21 3 U (aG kr (hk1 _ ⟨U,U,(cb (show decide (y1.No<=(nthI l ((i1:Int)-1)).No)=((!(ku y1))||(decide (0<(i1:Int))&&decide (y1.No<=(nthI l ((i1:Int)-1)).No)))from by rw[c2,c3]<;>rfl)),trivial⟩)))))))))
   have c3p:=of_decide_eq_false c3
   exact tk 10 U U (qR 11 13 U (aG kr (hk1 _ ⟨U,U,(cb (show false=((!(ku y1))||(decide (0<(i1:Int))&&decide (y1.No<=(nthI l ((i1:Int)-1)).No)))from by rw[c2,c3]<;>rfl)),trivial⟩)))
  refine ae hs6 U (λc4 hs7=>?_) (λc4 hs8=>?_)
  .exact sr (an (nretP [I 150] (ci hs7)))
  exact aH (qT 3 U (oi i1 U (an (ag1 hs8))))
 rintro i1 hd1 fL hx e
 exact qK 6 [] U (fO fL U (qO 3 U (hx _ rd)))
theorem jp(h:HF)(eW:Int)(low:Int)(high:Int)  : Ret prog 243 [I eW,I low,I high] h (.bool (ef eW low high)):=by
 refine sT func243 U ntmps243 U λX hM hX hF=>?_
 have hs0:=@rfl _ (ef eW low high)
 refine qT 10 U (aU 4 [10,11,12,13,14] 10 14 (decide (eW<=high)) U (λc1 hk1=>?_) (λe=>?_))
 .exact av (qO 3 U (hk1 _ U))
 exact an (nretP [.bool (decide (low<=eW)&&decide (eW<=high))] (cs hs0))
theorem qv(h:HF)(eW:Int)  : Ret prog 244 [I eW] h (.bool (kO eW)):=by
 refine sT func244 U ntmps244 U λX hM hX hF=>?_
 have hs0:=@rfl _ (kO eW)
 exact sr (qO 5 U (ai C1 (jp h eW 0 1099511627775) U (an (nretP [.bool (ef eW 0 1099511627775)] (cs hs0)))))
theorem oL(h:HF)(eW:Int)  : Ret prog 245 [I eW] h (.bool (jq eW)):=by
 refine sT func245 U ntmps245 U λX hM hX hF=>?_
 have hs0:=@rfl _ (jq eW)
 exact sr (qO 5 U (ai C1 (jp h eW 0 63) U (an (nretP [.bool (ef eW 0 63)] (cs hs0)))))
theorem E5(h:HF)(x:Deputy)  : Ret prog 154 [.agg (jG x).toArray] h (.bool (kt x)):=by
 refine sT func154 U ntmps154 U λX hM hX hF=>?_
 have hs0:=@rfl _ (kt x)
 refine sr (bS (λb1=>qL 7 [0] U (ai C1 (jp h x.No 0 1048576) U (qO 2 U (bL 5 [7,8,9,10,11,12] 7 12 (!(kO x.At)) U (λc1 hk1=>?_) (λe=>?_))))))
 .exact qL 2 [0] U (ai K9 (qv h x.At) U (qO 2 U (hk1 _ U)))
 refine av (bL 5 [13,14,15,16,17,18] 13 18 (!(kO x.Known)) U (λc2 hk2=>?_) (λe=>?_))
 .exact qL 2 [0] U (ai K9 (qv h x.Known) U (qO 2 U (hk2 _ U)))
 refine av (bL 5 [19,20,21,22,23,24] 19 24 (!(jq x.From)) U (λc3 hk3=>?_) (λe=>?_))
 .exact qL 2 [0] U (ai K8 (oL h x.From) U (qO 2 U (hk3 _ U)))
 refine av (bL 5 [25,26,27,28,29,30] 25 30 (!(jq x.To)) U (λc4 hk4=>?_) (λe=>?_))
 .exact qL 2 [0] U (ai K8 (oL h x.To) U (qO 2 U (hk4 _ U)))
 refine av (bL 6 [31,32,33,34,35,36,37] 31 37 (x.From==x.To) U (λc5 hk5=>?_) (λe=>?_))
 .exact qL 6 [0,0] U (hk5 _ U)
 refine aI (ae hs0 U (λc6 hs1=>?_) (λc6 hs2=>?_))
 .exact sr (an (nretP [.bool false] (cs hs1)))
 refine qK 6 [0] U (ai C1 (jp h x.Office 0 31) U (qO 2 U (bL 5 [42,43,44,45,46,47] 42 47 (!(ef x.Kind (-1) 15)) U (λc7 hk6=>?_) (λe=>?_))))
 .exact qL 2 [0] U (ai C1 (jp h x.Kind (-1) 15) U (qO 2 U (hk6 _ U)))
 refine aI (ae hs2 U (λc8 hs4=>?_) (λc8 hs5=>?_))
 .exact sr (an (nretP [.bool false] (cs hs4)))
 refine qK 7 [0] U (ae hs5 U (λc9 hs7=>?_) (λc9 hs8=>?_))
 .refine qK 6 [0] U (aU 4 [53,54,55,56,57] 53 57 (x.Most==0) U (λc10 hk7=>?_) (λe=>?_))
  .exact qL 4 [0] U (hk7 _ U)
  exact an (nretP [.bool ((x.Until==0)&&(x.Most==0))] (cs hs7))
 refine qK 9 [0,0] U (aU 4 [63,64,65,66,67] 63 67 (decide (x.Until<=1099511627776)) U (λc11 hk8=>?_) (λe=>?_))
 .exact qL 4 [0] U (hk8 _ U)
 refine av (aU 4 [68,69,70,71,72] 68 72 (ef x.Most 0 1099511627776) U (λc12 hk9=>?_) (λe=>?_))
 .exact qL 2 [0] U (ai C1 (jp h x.Most 0 1099511627776) U (eE U (hk9 _ U)))
 exact an (nretP [.bool ((decide (x.At<x.Until)&&decide (x.Until<=1099511627776))&&(ef x.Most 0 1099511627776))] (cs hs8))
theorem xz(h:HF)(l:List Deputy)(dU:Option Addr)(dT:Nat)(hl:SlC xN h dU dT l):Ret prog 73 [.slice dU l.length dT] h (I (gB l)):=by
 refine sT func73 U ntmps73 U λX hM hX hF=>?_
 have hs0:=@rfl _ (gB l)
 refine qK 11 [] U (ae hs0 U (λc1 hs1=>?_) (λc1 hs2=>?_))
 .have c1p:=of_decide_eq_true c1
  exact sr (an (nretP [I 2] (ci hs1)))
 have c1p:=of_decide_eq_false c1
 refine qT 6 U ?_
 refine lp0 l (λi=>[(0,.slice dU l.length dT),(3,I (i:Int))]) ([]) (λs1 i=>(gB.L1 l (gB.K1)) s1 i) hl.1.1 hs2 ?_ ?_ ?_
 .rintro i1 ft hs4 e
  exact sr (an (nretP [I 0] (ci hs4)))
 .rintro i1 y1 rz1 hd1 cY aJ dY gy hs6 hx1 ag1 e
  refine qK 6 [] U (tO cY U (qO 6 U ?_))
  refine m8 [(0,.slice dU l.length dT),(3,I (i1:Int)),(36,.bool ((!(kt y1))||(decide (0<(i1:Int))&&decide (y1.No<=(nthI l ((i1:Int)-1)).No))))] (λe=>?_) (λhk1=>?_)
  rotate_left
  .refine eh ([]) mixed kr jn (λdt _=>?_)
   refine qA [0,1] U (cU 2 (enc:=jG) dt jn ei nr ty93 hl.1 (nthZ aJ) (dq aJ) U U U U kr (λq4 A4=>tf 3 U U (λ_ _ hj=>iP ty93 (A4.mono hj.1) U U) (tn 4 U (et call154 (E5 h y1) U (⟨jn,qA [5,6] U ?_⟩)))))
   refine cB 19 U (λc2=>?_) (λc2=>?_)
   .exact tk 7 U U (qR 8 16 U (aG kr (hk1 _ ⟨U,U,(cb (show true=((!(kt y1))||(decide (0<(i1:Int))&&decide (y1.No<=(nthI l ((i1:Int)-1)).No)))from by rw[c2]<;>rfl)),trivial⟩)))
   refine qR 7 3 U ?_
   refine cB 22 U (λc3=>?_) (λc3=>?_)
   .have c3p:=of_decide_eq_true c3
    refine qA [10,11] U (tf 12 U U (λ_ _ _=>oy (v':=I ((i1:Int)-1)) U (j0 ob)) ?_)
    have ho2:0<=(((i1:Int)-1):Int)/\(((i1:Int)-1):Int)<((l).length:Int):=ob
    exact cU 13 (enc:=jG) dt jn ei nr ty93 hl.1 ho2 (de ho2) U U U U kr (λq5 A5=>qB [14] U (tf 15 U U (rh ty3 A5 U) (qA [16,17] U (cU 18 (enc:=jG) dt jn ei nr ty93 hl.1 (nthZ aJ) (dq aJ) U U U U kr (λq6 A6=>qB [19] U (tf 20 U U (rh ty3 A6 U) (qR 21 3 U (aG kr (hk1 _ ⟨U,U,(cb (show decide (y1.No<=(nthI l ((i1:Int)-1)).No)=((!(kt y1))||(decide (0<(i1:Int))&&decide (y1.No<=(nthI l ((i1:Int)-1)).No)))from by rw[c2,c3]<;>rfl)),trivial⟩)))))))))
   have c3p:=of_decide_eq_false c3
   exact tk 10 U U (qR 11 13 U (aG kr (hk1 _ ⟨U,U,(cb (show false=((!(kt y1))||(decide (0<(i1:Int))&&decide (y1.No<=(nthI l ((i1:Int)-1)).No)))from by rw[c2,c3]<;>rfl)),trivial⟩)))
  refine ae hs6 U (λc4 hs7=>?_) (λc4 hs8=>?_)
  .exact sr (an (nretP [I 160] (ci hs7)))
  exact aH (qT 3 U (oi i1 U (an (ag1 hs8))))
 rintro i1 hd1 fL hx e
 exact qK 6 [] U (fO fL U (qO 3 U (hx _ rd)))
theorem qs(h:HF)(t:Int)  : Ret prog 246 [I t] h (.bool (kz t)):=by
 refine sT func246 U ntmps246 U λX hM hX hF=>?_
 have hs0:=@rfl _ (kz t)
 refine qT 9 U (aU 3 [5,6,7,8] 5 8 (decide (t<1099511627776)) U (λc1 hk1=>?_) (λe=>?_))
 .exact av (qO 2 U (hk1 _ U))
 exact an (nretP [.bool (decide (0<=t)&&decide (t<1099511627776))] (cs hs0))
theorem s5(h:HF)(eW:Int)  : Ret prog 247 [I eW] h (.bool (iQ eW)):=by
 refine sT func247 U ntmps247 U λX hM hX hF=>?_
 have hs0:=@rfl _ (iQ eW)
 refine qT 9 U (aU 3 [5,6,7,8] 5 8 (decide (eW<=1048576)) U (λc1 hk1=>?_) (λe=>?_))
 .exact av (qO 2 U (hk1 _ U))
 exact an (nretP [.bool (decide (0<=eW)&&decide (eW<=1048576))] (cs hs0))
theorem wB(h:HF)(eW:Int)  : Ret prog 248 [I eW] h (.bool (nk eW)):=by
 refine sT func248 U ntmps248 U λX hM hX hF=>?_
 have hs0:=@rfl _ (nk eW)
 refine qT 9 U (aU 3 [5,6,7,8] 5 8 (decide (eW<64)) U (λc1 hk1=>?_) (λe=>?_))
 .exact av (qO 2 U (hk1 _ U))
 exact an (nretP [.bool (decide (0<=eW)&&decide (eW<64))] (cs hs0))
theorem EQ(h:HF)(x:Interest)  : Ret prog 155 [.agg (xC x).toArray] h (.bool (kk x)):=by
 refine sT func155 U ntmps155 U λX hM hX hF=>?_
 have hs0:=@rfl _ (kk x)
 refine sr (bS (λb1=>qL 9 [0] U (bL 4 [6,7,8,9,10] 6 10 (decide (1048576<x.No)) U (λc1 hk1=>?_) (λe=>?_))))
 .exact qL 4 [0] U (hk1 _ U)
 refine av (bL 5 [11,12,13,14,15,16] 11 16 (!(kz x.At)) U (λc2 hk2=>?_) (λe=>?_))
 .exact qL 2 [0] U (ai K7 (qs h x.At) U (qO 2 U (hk2 _ U)))
 refine av (bL 5 [17,18,19,20,21,22] 17 22 (!(kz x.Known)) U (λc3 hk3=>?_) (λe=>?_))
 .exact qL 2 [0] U (ai K7 (qs h x.Known) U (qO 2 U (hk3 _ U)))
 refine av (bL 5 [23,24,25,26,27,28] 23 28 (!(iQ x.Party)) U (λc4 hk4=>?_) (λe=>?_))
 .exact qL 2 [0] U (ai call247 (s5 h x.Party) U (qO 2 U (hk4 _ U)))
 refine aI (ae hs0 U (λc5 hs1=>?_) (λc5 hs2=>?_))
 .exact sr (an (nretP [.bool false] (cs hs1)))
 refine qK 7 [0] U (ae hs2 U (λc6 hs4=>?_) (λc6 hs5=>?_))
 .refine qK 4 [0] U (ai call247 (s5 h x.Person) U (av (aU 6 [34,35,36,37,38,39,40] 34 40 (x.Person != x.Party) U (λc7 hk5=>?_) (λe=>?_))))
  .exact qL 6 [0,0] U (hk5 _ U)
  exact an (nretP [.bool ((iQ x.Person)&&(x.Person != x.Party))] (cs hs4))
 exact qK 5 [0] U (ai call248 (wB h x.Person) U (an (nretP [.bool (nk x.Person)] (cs hs5))))
theorem xr(h:HF)(l:List Interest)(dU:Option Addr)(dT:Nat)(hl:SlC xK h dU dT l):Ret prog 74 [.slice dU l.length dT] h (I (gg l)):=by
 refine sT func74 U ntmps74 U λX hM hX hF=>?_
 have hs0:=@rfl _ (gg l)
 refine qK 11 [] U (ae hs0 U (λc1 hs1=>?_) (λc1 hs2=>?_))
 .have c1p:=of_decide_eq_true c1
  exact sr (an (nretP [I 2] (ci hs1)))
 have c1p:=of_decide_eq_false c1
 refine qT 6 U ?_
 refine lp0 l (λi=>[(0,.slice dU l.length dT),(3,I (i:Int))]) ([]) (λs1 i=>(gg.L1 l (gg.K1)) s1 i) hl.1.1 hs2 ?_ ?_ ?_
 .rintro i1 ft hs4 e
  exact sr (an (nretP [I 0] (ci hs4)))
 .rintro i1 y1 rz1 hd1 cY aJ dY gy hs6 hx1 ag1 e
  refine qK 6 [] U (tO cY U (qO 6 U ?_))
  refine m8 [(0,.slice dU l.length dT),(3,I (i1:Int)),(36,.bool ((!(kk y1))||(decide (0<(i1:Int))&&decide (y1.No<=(nthI l ((i1:Int)-1)).No))))] (λe=>?_) (λhk1=>?_)
  rotate_left
  .refine eh ([]) mixed kr jn (λdt _=>?_)
   refine qA [0,1] U (cU 2 (enc:=xC) dt jn ei pg ty97 hl.1 (nthZ aJ) (dq aJ) U U U U kr (λq4 A4=>tf 3 U U (λ_ _ hj=>iP ty97 (A4.mono hj.1) U U) (tn 4 U (et call155 (EQ h y1) U (⟨jn,qA [5,6] U ?_⟩)))))
   refine cB 19 U (λc2=>?_) (λc2=>?_)
   .exact tk 7 U U (qR 8 16 U (aG kr (hk1 _ ⟨U,U,(cb (show true=((!(kk y1))||(decide (0<(i1:Int))&&decide (y1.No<=(nthI l ((i1:Int)-1)).No)))from by rw[c2]<;>rfl)),trivial⟩)))
   refine qR 7 3 U ?_
   refine cB 22 U (λc3=>?_) (λc3=>?_)
   .have c3p:=of_decide_eq_true c3
    refine qA [10,11] U (cU 12 (enc:=xC) dt jn ei pg ty97 hl.1 (nthZ aJ) (dq aJ) U U U U kr (λq5 A5=>qB [13] U (tf 14 U U (rh ty3 A5 U) (qA [15,16] U (tf 17 U U (λ_ _ _=>oy (v':=I ((i1:Int)-1)) U (j0 ob)) ?_)))))
    have ho2:0<=(((i1:Int)-1):Int)/\(((i1:Int)-1):Int)<((l).length:Int):=ob
    exact cU 18 (enc:=xC) dt jn ei pg ty97 hl.1 ho2 (de ho2) U U U U kr (λq6 A6=>qB [19] U (tf 20 U U (rh ty3 A6 U) (qR 21 3 U (aG kr (hk1 _ ⟨U,U,(cb (show decide (y1.No<=(nthI l ((i1:Int)-1)).No)=((!(kk y1))||(decide (0<(i1:Int))&&decide (y1.No<=(nthI l ((i1:Int)-1)).No)))from by rw[c2,c3]<;>rfl)),trivial⟩)))))
   have c3p:=of_decide_eq_false c3
   exact tk 10 U U (qR 11 13 U (aG kr (hk1 _ ⟨U,U,(cb (show false=((!(kk y1))||(decide (0<(i1:Int))&&decide (y1.No<=(nthI l ((i1:Int)-1)).No)))from by rw[c2,c3]<;>rfl)),trivial⟩)))
  refine ae hs6 U (λc4 hs7=>?_) (λc4 hs8=>?_)
  .exact sr (an (nretP [I 290] (ci hs7)))
  exact aH (qT 3 U (oi i1 U (an (ag1 hs8))))
 rintro i1 hd1 fL hx e
 exact qK 6 [] U (fO fL U (qO 3 U (hx _ rd)))
theorem ns(h:HF)(eW:Int)(least:Int)(most:Int)  : Ret prog 227 [I eW,I least,I most] h (.bool (iM eW least most)):=by
 refine sT func227 U ntmps227 U λX hM hX hF=>?_
 have hs0:=@rfl _ (iM eW least most)
 refine qT 10 U (aU 4 [10,11,12,13,14] 10 14 (decide (eW<=most)) U (λc1 hk1=>?_) (λe=>?_))
 .exact av (qO 3 U (hk1 _ U))
 exact an (nretP [.bool (decide (least<=eW)&&decide (eW<=most))] (cs hs0))
theorem wE(h:HF)(eW:Int)  : Ret prog 228 [I eW] h (.bool (nl eW)):=by
 refine sT func228 U ntmps228 U λX hM hX hF=>?_
 have hs0:=@rfl _ (nl eW)
 refine qT 9 U (aU 3 [5,6,7,8] 5 8 (decide (eW<1099511627776)) U (λc1 hk1=>?_) (λe=>?_))
 .exact av (qO 2 U (hk1 _ U))
 exact an (nretP [.bool (decide (0<=eW)&&decide (eW<1099511627776))] (cs hs0))
theorem EZ(h:HF)(x:Budget)  : Ret prog 156 [.agg (zS x).toArray] h (.bool (kn x)):=by
 refine sT func156 U ntmps156 U λX hM hX hF=>?_
 have hs0:=@rfl _ (kn x)
 refine sr (bS (λb1=>qL 7 [0] U (ai L7 (ns h x.No 0 1048576) U (qO 2 U (bL 5 [7,8,9,10,11,12] 7 12 (!(nl x.At)) U (λc1 hk1=>?_) (λe=>?_))))))
 .exact qL 2 [0] U (ai call228 (wE h x.At) U (qO 2 U (hk1 _ U)))
 refine av (bL 5 [13,14,15,16,17,18] 13 18 (!(nl x.Known)) U (λc2 hk2=>?_) (λe=>?_))
 .exact qL 2 [0] U (ai call228 (wE h x.Known) U (qO 2 U (hk2 _ U)))
 refine av (bL 5 [19,20,21,22,23,24] 19 24 (!(iM x.Kind (-1) 15)) U (λc3 hk3=>?_) (λe=>?_))
 .exact qL 2 [0] U (ai L7 (ns h x.Kind (-1) 15) U (qO 2 U (hk3 _ U)))
 refine av (bL 5 [25,26,27,28,29,30] 25 30 (!(iM x.Period 1 1099511627776)) U (λc4 hk4=>?_) (λe=>?_))
 .exact qL 2 [0] U (ai L7 (ns h x.Period 1 1099511627776) U (qO 2 U (hk4 _ U)))
 refine aI (ae hs0 U (λc5 hs1=>?_) (λc5 hs2=>?_))
 .exact sr (an (nretP [.bool false] (cs hs1)))
 refine qK 7 [0] U (ae hs2 U (λc6 hs4=>?_) (λc6 hs5=>?_))
 .refine qK 6 [0] U (aU 4 [36,37,38,39,40] 36 40 (x.Value==0) U (λc7 hk5=>?_) (λe=>?_))
  .exact qL 4 [0] U (hk5 _ U)
  exact an (nretP [.bool ((x.Count==0)&&(x.Value==0))] (cs hs4))
 refine qK 5 [0] U (ai L7 (ns h x.Count 0 1048576) U (av (aU 4 [44,45,46,47,48] 44 48 (iM x.Value 0 1099511627776) U (λc8 hk6=>?_) (λe=>?_))))
 .exact qL 2 [0] U (ai L7 (ns h x.Value 0 1099511627776) U (eE U (hk6 _ U)))
 exact an (nretP [.bool ((iM x.Count 0 1048576)&&(iM x.Value 0 1099511627776))] (cs hs5))
theorem E0(h:HF)(l:List Budget)(dU:Option Addr)(dT:Nat)(hl:SlC Ti h dU dT l):Ret prog 75 [.slice dU l.length dT] h (I (iu l)):=by
 refine sT func75 U ntmps75 U λX hM hX hF=>?_
 have hs0:=@rfl _ (iu l)
 refine qK 11 [] U (ae hs0 U (λc1 hs1=>?_) (λc1 hs2=>?_))
 .have c1p:=of_decide_eq_true c1
  exact sr (an (nretP [I 2] (ci hs1)))
 have c1p:=of_decide_eq_false c1
 refine qT 6 U ?_
 refine lp0 l (λi=>[(0,.slice dU l.length dT),(3,I (i:Int))]) ([]) (λs1 i=>(iu.L1 l (iu.K1)) s1 i) hl.1.1 hs2 ?_ ?_ ?_
 .rintro i1 ft hs4 e
  exact sr (an (nretP [I 0] (ci hs4)))
 .rintro i1 y1 rz1 hd1 cY aJ dY gy hs6 hx1 ag1 e
  refine qK 6 [] U (tO cY U (qO 6 U ?_))
  refine m8 [(0,.slice dU l.length dT),(3,I (i1:Int)),(36,.bool ((!(kn y1))||(decide (0<(i1:Int))&&decide (y1.No<=(nthI l ((i1:Int)-1)).No))))] (λe=>?_) (λhk1=>?_)
  rotate_left
  .refine eh ([]) mixed kr jn (λdt _=>?_)
   refine qA [0,1] U (cU 2 (enc:=zS) dt jn ei zI ty101 hl.1 (nthZ aJ) (dq aJ) U U U U kr (λq4 A4=>tf 3 U U (λ_ _ hj=>iP ty101 (A4.mono hj.1) U U) (tn 4 U (et call156 (EZ h y1) U (⟨jn,qA [5,6] U ?_⟩)))))
   refine cB 19 U (λc2=>?_) (λc2=>?_)
   .exact tk 7 U U (qR 8 16 U (aG kr (hk1 _ ⟨U,U,(cb (show true=((!(kn y1))||(decide (0<(i1:Int))&&decide (y1.No<=(nthI l ((i1:Int)-1)).No)))from by rw[c2]<;>rfl)),trivial⟩)))
   refine qR 7 3 U ?_
   refine cB 22 U (λc3=>?_) (λc3=>?_)
   .have c3p:=of_decide_eq_true c3
    refine qA [10,11] U (tf 12 U U (λ_ _ _=>oy (v':=I ((i1:Int)-1)) U (j0 ob)) ?_)
    have ho2:0<=(((i1:Int)-1):Int)/\(((i1:Int)-1):Int)<((l).length:Int):=ob
    exact cU 13 (enc:=zS) dt jn ei zI ty101 hl.1 ho2 (de ho2) U U U U kr (λq5 A5=>qB [14] U (tf 15 U U (rh ty3 A5 U) (qA [16,17] U (cU 18 (enc:=zS) dt jn ei zI ty101 hl.1 (nthZ aJ) (dq aJ) U U U U kr (λq6 A6=>qB [19] U (tf 20 U U (rh ty3 A6 U) (qR 21 3 U (aG kr (hk1 _ ⟨U,U,(cb (show decide (y1.No<=(nthI l ((i1:Int)-1)).No)=((!(kn y1))||(decide (0<(i1:Int))&&decide (y1.No<=(nthI l ((i1:Int)-1)).No)))from by rw[c2,c3]<;>rfl)),trivial⟩)))))))))
   have c3p:=of_decide_eq_false c3
   exact tk 10 U U (qR 11 13 U (aG kr (hk1 _ ⟨U,U,(cb (show false=((!(kn y1))||(decide (0<(i1:Int))&&decide (y1.No<=(nthI l ((i1:Int)-1)).No)))from by rw[c2,c3]<;>rfl)),trivial⟩)))
  refine ae hs6 U (λc4 hs7=>?_) (λc4 hs8=>?_)
  .exact sr (an (nretP [I 180] (ci hs7)))
  exact aH (qT 3 U (oi i1 U (an (ag1 hs8))))
 rintro i1 hd1 fL hx e
 exact qK 6 [] U (fO fL U (qO 3 U (hx _ rd)))
theorem qt(h:HF)(eW:Int)  : Ret prog 157 [I eW] h (.bool (fN eW)):=by
 refine sT func157 U ntmps157 U λX hM hX hF=>?_
 have hs0:=@rfl _ (fN eW)
 refine qT 9 U (aU 3 [5,6,7,8] 5 8 (decide (eW<1099511627776)) U (λc1 hk1=>?_) (λe=>?_))
 .exact av (qO 2 U (hk1 _ U))
 exact an (nretP [.bool (decide (0<=eW)&&decide (eW<1099511627776))] (cs hs0))
theorem DO(rec:Expr->Int->Int)(h:HF)(x:Expr)(fY:cR)(limit:Int)(hrec:∀(h:HF)(qx:Expr)(lE:cR)(qlimit:Int)(hqx:kG h qx lE)(_:qx.dep<x.dep),Ret prog 366 [.agg (vC qx lE).toArray,I qlimit] h (I (rec qx qlimit)))(hx:kG h x fY):Ret prog 366 [.agg (vC x fY).toArray,I limit] h (I (dB.F rec x limit)):=by
 refine sT func366 U ntmps366 U λX hM hX hF=>?_
 have hs0:=@rfl _ (dB.F rec x limit)
 refine sr (bS (λb1=>qO 11 U ?_))
 refine lp1 x.L (λi w=>[(1,I limit),(2,Q b1),(5,I w),(6,I (i:Int))]) ([(b1,O (vC x fY) 62)]) (λs1 i w=>(dB.L1 rec limit (dB.K1)) s1 w) 1 hx.list.1.1 hs0 ?_ ?_ ?_
 .rintro i1 jm ft hs1 e
  exact sr (qO 3 U (nretP [I jm] (ci hs1)))
 .rintro i1 jm y1 rz1 hd1 cY aJ dY gy hs3 hx1 ag1 e
  refine qK 7 [0] U (tO cY U (qO 6 U (ae hs3 U (λc2 hs4=>?_) (λc2 hs5=>?_))))
  .have c2p:=of_decide_eq_true c2
   exact qK 8 [0] U (aA (iR mi ty62 hx.list.1 aJ U U U (λ_ _ _ e=>e) (λq2 r2 A2 ok2=>dv ty62 A2 U U (qO 3 U (ai call366 (hrec _ _ _ (qE .i64 (limit-jm)) ok2 (Sz (gj hd1))) U (qO 6 U (oi i1 U (qO 2 U (ag1 (qE .i64 (jm+(rec y1 (qE .i64 (limit-jm))))) hs4)))))))))
  have c2p:=of_decide_eq_false c2
  exact lM U (hx1 i1 jm hs5)
 rintro i1 jm hd1 fL hx e
 exact qK 7 [0] U (fO fL U (qO 8 U (hx _ rd)))
theorem ue:∀(m:Nat)(h:HF)(x:Expr)(fY:cR)(limit:Int)(_:x.dep<=m)(hx:kG h x fY),Ret prog 366 [.agg (vC x fY).toArray,I limit] h (I (dB.go m x limit))
 |0,h,x,fY,limit,hd,hx=>absurd hd (Nat.not_le.2 (TC _))
 |m+1,h,x,fY,limit,hd,hx=>DO (dB.go m) h x fY limit (λqh_ qx lE qlimit qhx qd=>ue m qh_ qx lE qlimit ob qhx) hx
theorem EX(h:HF)(x:Expr)(fY:cR)(limit:Int)(hx:kG h x fY):Ret prog 366 [.agg (vC x fY).toArray,I limit] h (I (dB x limit)):=ue _ h x fY limit (vG _) hx
theorem DP(rec:Expr->Int)(h:HF)(x:Expr)(fY:cR)(hrec:∀(h:HF)(qx:Expr)(lE:cR)(hqx:kG h qx lE)(_:qx.dep<x.dep),Ret prog 367 [.agg (vC qx lE).toArray] h (I (rec qx)))(hx:kG h x fY):Ret prog 367 [.agg (vC x fY).toArray] h (I (bh.F rec x)):=by
 refine sT func367 U ntmps367 U λX hM hX hF=>?_
 have hs0:=@rfl _ (bh.F rec x)
 refine sr (bS (λb1=>qO 11 U ?_))
 refine lp1 x.L (λi w=>[(1,Q b1),(3,I w),(4,I (i:Int))]) ([(b1,O (vC x fY) 62)]) (λs1 i w=>(bh.L1 rec (bh.K1)) s1 w) 0 hx.list.1.1 hs0 ?_ ?_ ?_
 .rintro i1 iC ft hs1 e
  exact sr (qO 4 U (nretP [I (qE .i64 (iC+1))] (ci hs1)))
 .rintro i1 iC y1 rz1 hd1 cY aJ dY gy hs3 hx1 ag1 e
  exact qK 7 [0] U (tO cY U (qL 10 [0] U (aA (iR mi ty62 hx.list.1 aJ U U U (λ_ _ _ e=>e) (λq2 r2 A2 ok2=>dv ty62 A2 U U (ai call367 (hrec _ _ _ ok2 (Sz (gj hd1))) U (aA (fj (QX U U) (qO 5 U (oi i1 U (an (ag1 (max iC (rec y1)) hs3))))))))))))
 rintro i1 iC hd1 fL hx e
 exact qK 7 [0] U (fO fL U (qO 3 U (hx _ rd)))
theorem uf:∀(m:Nat)(h:HF)(x:Expr)(fY:cR)(_:x.dep<=m)(hx:kG h x fY),Ret prog 367 [.agg (vC x fY).toArray] h (I (bh.go m x))
 |0,h,x,fY,hd,hx=>absurd hd (Nat.not_le.2 (TC _))
 |m+1,h,x,fY,hd,hx=>DP (bh.go m) h x fY (λqh_ qx lE qhx qd=>uf m qh_ qx lE ob qhx) hx
theorem EY(h:HF)(x:Expr)(fY:cR)(hx:kG h x fY):Ret prog 367 [.agg (vC x fY).toArray] h (I (bh x)):=uf _ h x fY (vG _) hx
theorem xw(h:HF)(x:Expr)(fY:cR)(hx:kG h x fY):Ret prog 338 [.agg (vC x fY).toArray] h (.bool (km x)):=by
 refine sT func338 U ntmps338 U λX hM hX hF=>?_
 have hs0:=@rfl _ (km x)
 refine sr (bS (λb1=>qO 4 U (cN 0 ty62 U U U (ai call366 (EX _ _ _ 256 hx) U (qO 2 U (bL 4 [6,7,8,9,10] 6 10 (decide (16<(bh x))) U (λc1 hk1=>?_) (λe=>?_)))))))
 .exact cN 0 ty62 U U U (ai call367 (EY _ _ _ hx) U (qO 2 U (hk1 _ U)))
 exact an (nretP [.bool (decide (256<(dB x 256))||decide (16<(bh x)))] (cs hs0))
theorem Bq(h:HF)(p:Policy)(gQ:eQ)(hp:kN h p gQ):Ret prog 304 [.agg (xE p gQ).toArray] h (.bool (fw p)):=by
 refine sT func304 U ntmps304 U λX hM hX hF=>?_
 have hs0:=@rfl _ (fw p)
 refine sr (bS (λb1=>qL 10 [0] U (bL 5 [8,9,10,11,12,13] 8 13 (decide (16<(p.Kinds.length:Int))) U (λc1 hk1=>?_) (λe=>?_))))
 .exact qL 5 [0] U (hk1 _ U)
 refine av (bL 5 [14,15,16,17,18,19] 14 19 (decide (16<(p.Rules.length:Int))) U (λc2 hk2=>?_) (λe=>?_))
 .exact qL 5 [0] U (hk2 _ U)
 refine av (bL 4 [20,21,22,23,24] 20 24 (km p.Change) U (λc3 hk3=>?_) (λe=>?_))
 .exact qL 1 [] U (cN 0 ty62 U U U (ai call338 (xw _ _ _ hp.Change) U (eE U (hk3 _ U))))
 refine aI (ae hs0 U (λc4 hs1=>?_) (λc4 hs2=>?_))
 .exact sr (an (nretP [.bool true] (cs hs1)))
 refine qT 6 U ?_
 refine lp0 p.Rules (λi=>[(1,Q b1),(3,I (i:Int))]) ([(b1,O (xE p gQ) 64)]) (λs1 i=>(fw.L1 (fw.K1)) s1) hp.Rules.1.1 hs2 ?_ ?_ ?_
 .rintro i1 ft hs4 e
  exact sr (an (nretP [.bool false] (cs hs4)))
 .rintro i1 y1 rz1 hd1 cY aJ dY gy hs6 hx1 ag1 e
  refine qK 7 [0] U (tO cY U (qL 10 [0] U (aA (iR vq ty79 hp.Rules.1 aJ U U U (λ_ _ _ e=>e) (λq2 r2 A2 ok2=>qL 1 [] U (Ay (j:=3) ty62 A2 U U (ai call338 (xw _ _ _ ok2.Expr) U (aI (ae hs6 U (λc6 hs7=>?_) (λc6 hs8=>?_))))))))))
  .exact sr (an (nretP [.bool true] (cs hs7)))
  exact aH (qT 3 U (oi i1 U (an (ag1 hs8))))
 rintro i1 hd1 fL hx e
 exact qK 7 [0] U (fO fL U (qO 3 U (hx _ rd)))
theorem wI(h:HF)(c:Int)  : Ret prog 379 [Y c] h (.bool (lQ c)):=by
 refine sT func379 U ntmps379 U λX hM hX hF=>?_
 have hs0:=@rfl _ (lQ c)
 refine qT 9 U (aU 3 [5,6,7,8] 5 8 (decide (c<=122)) U (λc1 hk1=>?_) (λe=>?_))
 .exact av (qO 2 U (hk1 _ U))
 refine av (bL 7 [9,10,11,12,13,14,15,16] 9 16 (decide (65<=c)&&decide (c<=90)) U (λc2 hk2=>?_) (λe=>?_))
 .refine qO 3 U (aU 3 [12,13,14,15] 12 15 (decide (c<=90)) U (λc3 hk3=>?_) (λe=>?_))
  .exact av (qO 2 U (hk3 _ U))
  exact eE U (hk2 _ U)
 exact an (nretP [.bool ((decide (97<=c)&&decide (c<=122))||(decide (65<=c)&&decide (c<=90)))] (cs hs0))
theorem DS(h:HF)(c:Int)  : Ret prog 386 [Y c] h (.bool (og c)):=by
 refine sT func386 U ntmps386 U λX hM hX hF=>?_
 have hs0:=@rfl _ (og c)
 refine qT 9 U (aU 3 [5,6,7,8] 5 8 (decide (c<=57)) U (λc1 hk1=>?_) (λe=>?_))
 .exact av (qO 2 U (hk1 _ U))
 exact an (nretP [.bool (decide (48<=c)&&decide (c<=57))] (cs hs0))
theorem Gz(h:HF)(c:Int)  : Ret prog 380 [Y c] h (.bool (tb c)):=by
 refine sT func380 U ntmps380 U λX hM hX hF=>?_
 have hs0:=@rfl _ (tb c)
 refine qT 7 U (ai call379 (wI h c) U (av (bL 3 [5,6,7,8] 5 8 (og c) U (λc1 hk1=>?_) (λe=>?_))))
 .exact av (ai call386 (DS h c) U (eE U (hk1 _ U)))
 refine av (bL 3 [9,10,11,12] 9 12 (c==95) U (λc2 hk2=>?_) (λe=>?_))
 .exact av (qO 2 U (hk2 _ U))
 exact an (nretP [.bool (((lQ c)||(og c))||(c==95))] (cs hs0))
theorem GA(h:HF)(s:ByteArray)  : Ret prog 368 [.string s] h (.bool (gS s)):=by
 refine sT func368 U ntmps368 U λX hM hX hF=>?_
 have hs0:=@rfl _ (gS s)
 refine qT 8 U (aA (fj (Cm AU U) (qO 2 U (bL 4 [7,8,9,10,11] 7 11 (decide (32<(s.size:Int))) U (λc1 hk1=>?_) (λe=>?_)))))
 .exact av (aA (fj (Cm AU U) (qO 2 U (hk1 _ U))))
 refine av (bL 5 [12,13,14,15,16,17] 12 17 (!(lQ ((s.data.getD (0:Int).toNat 0).toNat:Int))) U (λc2 hk2=>?_) (λe=>?_))
 .refine av ?_
  have ho1:0<=(0:Int)/\(0:Int)<(s.size:Int):=ob
  exact aA (fj (In AU U U ho1) (ai call379 (wI h ((s.data.getD (0:Int).toNat 0).toNat:Int)) U (qO 2 U (hk2 _ U))))
 refine aI (ae hs0 U (λc3 hs1=>?_) (λc3 hs2=>?_))
 .exact sr (an (nretP [.bool false] (cs hs1)))
 refine qT 6 U ?_
 refine iT (ι:=Nat) (λi=>[]) (λi=>h) (λi=>[]) (λi=>i<=(zK s.size).length/\gS s=((gS.K1))) ?_ (λhx1=>?_)
 .rintro i1 ⟨ft,hs4⟩ e
  exact sr (an (nretP [.bool true] (cs hs4)))
 refine ls (ι:=Nat×List Nat) (λi=>[(0,.string s),(3,I (i.1:Int))]) (λi=>h) (λi=>[]) (λi=>(zK s.size).drop i.1=i.2/\i.1<=(zK s.size).length/\gS s=((gS.L1 s (gS.K1)) i.2 i.1)) (λi=>i.2.length) (0,(zK s.size)) rd sw ⟨U,Nat.zero_le _,hs2⟩ ?_
 rintro⟨i1,s1⟩ ⟨hd1,ft,hs6⟩ ag1 e
 rcases s1 with _|⟨y1,rz1⟩
 .have fL:decide ((i1:Int)<(s.size:Int))=false:=by simpa using oC hd1
  exact ew (qT 4 U (aA (fj (Cm AU U) (fO fL U (qO 3 U (hx1 i1 _ ⟨ft,hs6⟩ trivial))))))
 have cY:decide ((i1:Int)<(s.size:Int))=true:=by simpa using ul hd1
 have dY:i1<s.size:=by simpa using iX hd1
 refine qT 5 U (aA (fj (Cm AU U) (tO cY U (qO 9 U ?_))))
 have ho3:0<=((i1:Int):Int)/\((i1:Int):Int)<(s.size:Int):=ob
 refine aA (fj (In AU U U ho3) (ai call380 (Gz h ((s.data.getD ((i1:Int):Int).toNat 0).toNat:Int)) U (qO 2 U (ae hs6 U (λc5 hs8=>?_) (λc5 hs9=>?_)))))
 .exact sr (an (nretP [.bool false] (cs hs8)))
 exact aH (qT 3 U (oi i1 U (an (ag1 ((i1+1),rz1) _ (Nat.lt_succ_self _) ⟨mK hd1,iX hd1,hs9⟩ rd))))
theorem Gs(h:HF)(s:ByteArray)  : Ret prog 369 [.string s] h (.bool (oS s)):=by
 refine sT func369 U ntmps369 U λX hM hX hF=>?_
 have hs0:=@rfl _ (oS s)
 refine qT 16 U (ae hs0 U (λc1 hs1=>?_) (λc1 hs2=>?_))
 .refine aH (ae hs1 U (λc2 hs3=>?_) (λc2 hs4=>?_))
  .exact sr (an (nretP [.bool true] (cs hs3)))
  exact aH (qT 5 U (nretP [.bool false] (cs hs4)))
 refine qT 5 U (ae hs2 U (λc3 hs7=>?_) (λc3 hs8=>?_))
 .refine aH (ae hs7 U (λc4 hs9=>?_) (λc4 hs10=>?_))
  .exact sr (an (nretP [.bool true] (cs hs9)))
  exact aH (qT 5 U (nretP [.bool false] (cs hs10)))
 refine qT 5 U (ae hs8 U (λc5 hs13=>?_) (λc5 hs14=>?_))
 .refine aH (ae hs13 U (λc6 hs15=>?_) (λc6 hs16=>?_))
  .exact sr (an (nretP [.bool true] (cs hs15)))
  exact aH (qT 5 U (nretP [.bool false] (cs hs16)))
 refine qT 5 U (ae hs14 U (λc7 hs19=>?_) (λc7 hs20=>?_))
 .refine aH (ae hs19 U (λc8 hs21=>?_) (λc8 hs22=>?_))
  .exact sr (an (nretP [.bool true] (cs hs21)))
  exact aH (qT 5 U (nretP [.bool false] (cs hs22)))
 refine qT 5 U (ae hs20 U (λc9 hs25=>?_) (λc9 hs26=>?_))
 .refine aH (ae hs25 U (λc10 hs27=>?_) (λc10 hs28=>?_))
  .exact sr (an (nretP [.bool true] (cs hs27)))
  exact aH (qT 5 U (nretP [.bool false] (cs hs28)))
 refine qT 5 U (ae hs26 U (λc11 hs31=>?_) (λc11 hs32=>?_))
 .refine aH (ae hs31 U (λc12 hs33=>?_) (λc12 hs34=>?_))
  .exact sr (an (nretP [.bool true] (cs hs33)))
  exact aH (qT 5 U (nretP [.bool false] (cs hs34)))
 refine qT 5 U (ae hs32 U (λc13 hs37=>?_) (λc13 hs38=>?_))
 .refine aH (ae hs37 U (λc14 hs39=>?_) (λc14 hs40=>?_))
  .exact sr (an (nretP [.bool true] (cs hs39)))
  exact aH (qT 5 U (nretP [.bool false] (cs hs40)))
 refine qT 5 U (ae hs38 U (λc15 hs43=>?_) (λc15 hs44=>?_))
 .refine aH (ae hs43 U (λc16 hs45=>?_) (λc16 hs46=>?_))
  .exact sr (an (nretP [.bool true] (cs hs45)))
  exact aH (qT 5 U (nretP [.bool false] (cs hs46)))
 refine qT 5 U (ae hs44 U (λc17 hs49=>?_) (λc17 hs50=>?_))
 .refine aH (ae hs49 U (λc18 hs51=>?_) (λc18 hs52=>?_))
  .exact sr (an (nretP [.bool true] (cs hs51)))
  exact aH (qT 5 U (nretP [.bool false] (cs hs52)))
 refine qT 5 U (ae hs50 U (λc19 hs55=>?_) (λc19 hs56=>?_))
 .refine aH (ae hs55 U (λc20 hs57=>?_) (λc20 hs58=>?_))
  .exact sr (an (nretP [.bool true] (cs hs57)))
  exact aH (qT 5 U (nretP [.bool false] (cs hs58)))
 refine qT 5 U (ae hs56 U (λc21 hs61=>?_) (λc21 hs62=>?_))
 .refine aH (ae hs61 U (λc22 hs63=>?_) (λc22 hs64=>?_))
  .exact sr (an (nretP [.bool true] (cs hs63)))
  exact aH (qT 5 U (nretP [.bool false] (cs hs64)))
 refine qT 5 U (ae hs62 U (λc23 hs67=>?_) (λc23 hs68=>?_))
 .refine aH (ae hs67 U (λc24 hs69=>?_) (λc24 hs70=>?_))
  .exact sr (an (nretP [.bool true] (cs hs69)))
  exact aH (qT 5 U (nretP [.bool false] (cs hs70)))
 refine qT 5 U (ae hs68 U (λc25 hs73=>?_) (λc25 hs74=>?_))
 .refine aH (ae hs73 U (λc26 hs75=>?_) (λc26 hs76=>?_))
  .exact sr (an (nretP [.bool true] (cs hs75)))
  exact aH (qT 5 U (nretP [.bool false] (cs hs76)))
 refine qT 5 U (ae hs74 U (λc27 hs79=>?_) (λc27 hs80=>?_))
 .refine aH (ae hs79 U (λc28 hs81=>?_) (λc28 hs82=>?_))
  .exact sr (an (nretP [.bool true] (cs hs81)))
  exact aH (qT 5 U (nretP [.bool false] (cs hs82)))
 refine qT 5 U (ae hs80 U (λc29 hs85=>?_) (λc29 hs86=>?_))
 .refine aH (ae hs85 U (λc30 hs87=>?_) (λc30 hs88=>?_))
  .exact sr (an (nretP [.bool true] (cs hs87)))
  exact aH (qT 5 U (nretP [.bool false] (cs hs88)))
 refine qT 4 U (ae hs86 U (λc31 hs91=>?_) (λc31 hs92=>?_))
 .exact sr (an (nretP [.bool true] (cs hs91)))
 exact aH (qT 5 U (nretP [.bool false] (cs hs92)))
theorem zX(h:HF)(s:ByteArray)  : Ret prog 339 [.string s] h (.bool (nS s)):=by
 refine sT func339 U ntmps339 U λX hM hX hF=>?_
 have hs0:=@rfl _ (nS s)
 refine qT 7 U (ai call368 (GA h s) U (av (aU 4 [5,6,7,8,9] 5 9 (!(oS s)) U (λc1 hk1=>?_) (λe=>?_))))
 .exact av (ai call369 (Gs h s) U (qO 2 U (hk1 _ U)))
 exact an (nretP [.bool ((gS s)&&(!(oS s)))] (cs hs0))
theorem s9(h:HF)(l:List ByteArray)(dU:Option Addr)(dT:Nat)(s:ByteArray)(hl:SlC Ta h dU dT l):Ret prog 343 [.slice dU l.length dT,.string s] h (I (eD l s)):=by
 refine sT func343 U ntmps343 U λX hM hX hF=>?_
 have hs0:=@rfl _ (eD l s)
 refine qT 9 U ?_
 refine lp0 l (λi=>[(0,.slice dU l.length dT),(1,.string s),(5,I (i:Int))]) ([]) (λs1 i=>(eD.L1 s (eD.K1)) s1 i) hl.1.1 hs0 ?_ ?_ ?_
 .rintro i1 ft hs1 e
  exact sr (an (nretP [I (-1)] (ci hs1)))
 .rintro i1 y1 rz1 hd1 cY aJ dY gy hs3 hx1 ag1 e
  refine qK 6 [] U (tO cY U (qO 9 U (aA (iF (λy=>[.string y]) wy ty9 hl.1 aJ U U U (λq2 A2=>dD ty9 A2 U (qO 3 U (ae hs3 U (λc2 hs4=>?_) (λc2 hs5=>?_))))))))
  .exact sr (qO 3 U (nretP [I (i1:Int)] (ci hs4)))
  exact aH (qT 3 U (oi i1 U (an (ag1 hs5))))
 rintro i1 hd1 fL hx e
 exact qK 6 [] U (fO fL U (qO 3 U (hx _ rd)))
theorem ua(h:HF)(l:List ByteArray)(dU:Option Addr)(dT:Nat)(hl:SlC Ta h dU dT l):Ret prog 340 [.slice dU l.length dT] h (.bool (eR l)):=by
 refine sT func340 U ntmps340 U λX hM hX hF=>?_
 have hs0:=@rfl _ (eR l)
 refine qT 9 U ?_
 refine lp0 l (λi=>[(0,.slice dU l.length dT),(3,I (i:Int))]) ([]) (λs1 i=>(eR.L1 l (eR.K1)) s1 i) hl.1.1 hs0 ?_ ?_ ?_
 .rintro i1 ft hs1 e
  exact sr (an (nretP [.bool true] (cs hs1)))
 .rintro i1 y1 rz1 hd1 cY aJ dY gy hs3 hx1 ag1 e
  refine qK 6 [] U (tO cY U (qO 9 U (aA (iF (λy=>[.string y]) wy ty9 hl.1 aJ U U U (λq3 A3=>dD ty9 A3 U (ai call339 (zX h y1) U (qO 2 U (bL 9 [16,17,18,19,20,21,22,23,24,25] 16 25 ((eD l y1) != (i1:Int)) U (λc1 hk1=>?_) (λe=>?_)))))))))
  .exact av (qO 2 U (aA (iF (λy=>[.string y]) wy ty9 hl.1 aJ U U U (λq4 A4=>dD ty9 A4 U (ai call343 (s9 _ _ _ _ y1 hl) U (qO 3 U (hk1 _ U)))))))
  refine aI (ae hs3 U (λc2 hs4=>?_) (λc2 hs5=>?_))
  .exact sr (an (nretP [.bool false] (cs hs4)))
  exact aH (qT 3 U (oi i1 U (an (ag1 hs5))))
 rintro i1 hd1 fL hx e
 exact qK 6 [] U (fO fL U (qO 3 U (hx _ rd)))
theorem DM(rec:List ByteArray->Expr->Bool)(h:HF)(offices:List ByteArray)(dK:Option Addr)(dJ:Nat)(x:Expr)(fY:cR)(hrec:∀(h:HF)(qoffices:List ByteArray)(j6:Option Addr)(j5:Nat)(qx:Expr)(lE:cR)(hqoffices:SlC Ta h j6 j5 qoffices)(hqx:kG h qx lE)(_:qx.dep<x.dep),Ret prog 341 [.slice j6 qoffices.length j5,.agg (vC qx lE).toArray] h (.bool (rec qoffices qx)))(hoffices:SlC Ta h dK dJ offices)(hx:kG h x fY):Ret prog 341 [.slice dK offices.length dJ,.agg (vC x fY).toArray] h (.bool (bM.F rec offices x)):=by
 refine sT func341 U ntmps341 U λX hM hX hF=>?_
 have hs0:=@rfl _ (bM.F rec offices x)
 refine sr (bS (λb1=>qL 9 [0] U (bL 4 [9,10,11,12,13] 9 13 (x.Kind==2) U (λc1 hk1=>?_) (λe=>?_))))
 .exact qL 4 [0] U (hk1 _ U)
 refine av (aU 6 [14,15,16,17,18,19,20] 14 20 (decide ((eD offices x.Name)<0)) U (λc2 hk2=>?_) (λe=>?_))
 .exact qL 3 [0] U (ai call343 (s9 _ _ _ _ x.Name hoffices) U (qO 2 U (hk2 _ U)))
 refine aI (ae hs0 U (λc3 hs1=>?_) (λc3 hs2=>?_))
 .exact sr (an (nretP [.bool false] (cs hs1)))
 refine qT 6 U ?_
 refine lp0 x.L (λi=>[(0,.slice dK offices.length dJ),(3,Q b1),(5,I (i:Int))]) ([(b1,O (vC x fY) 62)]) (λs1 i=>(bM.L1 rec offices (bM.K1)) s1) hx.list.1.1 hs2 ?_ ?_ ?_
 .rintro i1 ft hs4 e
  exact sr (an (nretP [.bool true] (cs hs4)))
 .rintro i1 y1 rz1 hd1 cY aJ dY gy hs6 hx1 ag1 e
  refine qK 7 [0] U (tO cY U (qL 11 [0] U (aA (iR mi ty62 hx.list.1 aJ U U U (λ_ _ _ e=>e) (λq2 r2 A2 ok2=>dv ty62 A2 U U (ai call341 (hrec _ _ _ _ _ _ hoffices ok2 (Sz (gj hd1))) U (qO 2 U (ae hs6 U (λc5 hs7=>?_) (λc5 hs8=>?_)))))))))
  .exact sr (an (nretP [.bool false] (cs hs7)))
  exact aH (qT 3 U (oi i1 U (an (ag1 hs8))))
 rintro i1 hd1 fL hx e
 exact qK 7 [0] U (fO fL U (qO 3 U (hx _ rd)))
theorem tZ:∀(m:Nat)(h:HF)(offices:List ByteArray)(dK:Option Addr)(dJ:Nat)(x:Expr)(fY:cR)(_:x.dep<=m)(hoffices:SlC Ta h dK dJ offices)(hx:kG h x fY),Ret prog 341 [.slice dK offices.length dJ,.agg (vC x fY).toArray] h (.bool (bM.go m offices x))
 |0,h,offices,dK,dJ,x,fY,hd,hoffices,hx=>absurd hd (Nat.not_le.2 (TC _))
 |m+1,h,offices,dK,dJ,x,fY,hd,hoffices,hx=>DM (bM.go m) h offices dK dJ x fY (λqh_ qoffices j6 j5 qx lE qhoffices qhx qd=>tZ m qh_ qoffices j6 j5 qx lE ob qhoffices qhx) hoffices hx
theorem xu(h:HF)(offices:List ByteArray)(dK:Option Addr)(dJ:Nat)(x:Expr)(fY:cR)(hoffices:SlC Ta h dK dJ offices)(hx:kG h x fY):Ret prog 341 [.slice dK offices.length dJ,.agg (vC x fY).toArray] h (.bool (bM offices x)):=tZ _ h offices dK dJ x fY (vG _) hoffices hx
theorem EW(h:HF)(p:Policy)(gQ:eQ)(hp:kN h p gQ):Ret prog 305 [.agg (xE p gQ).toArray] h (.bool (hO p)):=by
 refine sT func305 U ntmps305 U λX hM hX hF=>?_
 have hs0:=@rfl _ (hO p)
 refine sr (bS (λb1=>qL 7 [0] U (ai call339 (zX h p.Name) U (qO 2 U (bL 5 [8,9,10,11,12,13] 8 13 (!(eR p.Offices)) U (λc1 hk1=>?_) (λe=>?_))))))
 .exact qL 2 [0] U (ai call340 (ua _ _ _ _ hp.Offices) U (qO 2 U (hk1 _ U)))
 refine av (bL 5 [14,15,16,17,18,19] 14 19 (!(eR p.Kinds)) U (λc2 hk2=>?_) (λe=>?_))
 .exact qL 2 [0] U (ai call340 (ua _ _ _ _ hp.Kinds) U (qO 2 U (hk2 _ U)))
 refine aI (ae hs0 U (λc3 hs1=>?_) (λc3 hs2=>?_))
 .exact sr (an (nretP [.bool false] (cs hs1)))
 refine qT 6 U ?_
 let z1:Nat×Obj:=(b1,O (xE p gQ) 64)
 refine lp0 p.Rules (λi=>[(1,Q b1),(3,I (i:Int))]) ([z1]) (λs1 i=>(hO.L1 p (hO.K1 p)) s1) hp.Rules.1.1 hs2 ?_ ?_ ?_
 .rintro i1 ft hs4 e
  exact qK 5 [0] U (cN 0 ty62 U U U (ai call341 (xu _ _ _ _ _ _ hp.Offices hp.Change) U (an (nretP [.bool (bM p.Offices p.Change)] (cs hs4)))))
 .rintro i1 y1 rz1 hd1 cY aJ dY gy hs6 hx1 ag1 e
  refine qK 7 [0] U (tO cY U (qO 6 U (eh ([z1]) mixed kr jn (λdt _=>qB [0] U (tf 1 U U (rj 0 ty58 U U U) (qB [2] U (tf 3 U U (rj 0 ty59 U U U) (tm 4 U (j3 5 dt jn vq ty79 hp.Rules.1 (nthZ aJ) (dq aJ) U U U U kr (λq2 cs2 A2 ln2 rr2=>?_))))))))))
  obtain⟨r2,rfl,ok2⟩:=rr2
  refine qB [6] U (tf 7 U U (λ_ _ hj=>Lq 3 ty62 (A2.mono hj.1) U U) (tn 8 U (et call341 (xu _ _ _ _ _ _ hp.Offices ok2.Expr) U (⟨jn,(qA [9] U (aG kr (ae hs6 U (λc5 hs7=>?_) (λc5 hs8=>?_))))⟩))))
  .exact sr (an (nretP [.bool false] (cs hs7)))
  exact aH (qT 3 U (oi i1 U (an (ag1 hs8))))
 rintro i1 hd1 fL hx e
 exact qK 7 [0] U (fO fL U (qO 3 U (hx _ rd)))
theorem xx(rec:Expr->Bool->Bool)(h:HF)(x:Expr)(fY:cR)(upto:Bool)(hrec:∀(h:HF)(qx:Expr)(lE:cR)(qupto:Bool)(hqx:kG h qx lE)(_:qx.dep<x.dep),Ret prog 342 [.agg (vC qx lE).toArray,.bool qupto] h (.bool (rec qx qupto)))(hx:kG h x fY):Ret prog 342 [.agg (vC x fY).toArray,.bool upto] h (.bool (aE.F rec x upto)):=by
 refine sT func342 U ntmps342 U λX hM hX hF=>?_
 have hs0:=@rfl _ (aE.F rec x upto)
 refine sr (bS (λb1=>qO 7 U ?_))
 refine lp0 x.L (λi=>[(1,.bool upto),(2,Q b1),(5,I (i:Int))]) ([(b1,O (vC x fY) 62)]) (λs1 i=>(aE.L1 rec upto (aE.K1 x upto)) s1) hx.list.1.1 hs0 ?_ ?_ ?_
 .rintro i1 ft hs1 e
  refine qK 12 [0] U (ae hs1 U (λc3 hs2=>?_) (λc3 hs3=>?_))
  .refine qK 6 [0] U (aU 5 [28,29,30,31,32,33] 28 33 ((x.L.length:Int)==0) U (λc4 hk1=>?_) (λe=>?_))
   .exact qL 5 [0] U (hk1 _ U)
   exact an (nretP [.bool ((x.N==0)&&((x.L.length:Int)==0))] (cs hs2))
  refine qT 5 U (ae hs3 U (λc5 hs5=>?_) (λc5 hs6=>?_))
  .refine qK 6 [0] U (aU 4 [39,40,41,42,43] 39 43 (decide (x.N<=4096)) U (λc6 hk2=>?_) (λe=>?_))
   .exact qL 4 [0] U (hk2 _ U)
   refine av (aU 5 [44,45,46,47,48,49] 44 49 ((x.L.length:Int)==0) U (λc7 hk3=>?_) (λe=>?_))
   .exact qL 5 [0] U (hk3 _ U)
   exact an (nretP [.bool ((decide (1<=x.N)&&decide (x.N<=4096))&&((x.L.length:Int)==0))] (cs hs5))
  refine qT 5 U (ae hs6 U (λc8 hs8=>?_) (λc8 hs9=>?_))
  .refine qK 6 [0] U (aU 5 [55,56,57,58,59,60] 55 60 (decide (1<=(x.L.length:Int))) U (λc9 hk4=>?_) (λe=>?_))
   .exact qL 5 [0] U (hk4 _ U)
   refine av (aU 5 [61,62,63,64,65,66] 61 66 (decide ((x.L.length:Int)<=16)) U (λc10 hk5=>?_) (λe=>?_))
   .exact qL 5 [0] U (hk5 _ U)
   refine av (aU 4 [67,68,69,70,71] 67 71 (decide (1<=x.N)) U (λc11 hk6=>?_) (λe=>?_))
   .exact qL 4 [0] U (hk6 _ U)
   refine av (aU 7 [72,73,74,75,76,77,78,79] 72 79 (decide (x.N<=(x.L.length:Int))) U (λc12 hk7=>?_) (λe=>?_))
   .exact qL 7 [0,0] U (hk7 _ U)
   exact an (nretP [.bool (((((x.Name.toList==(⟨#[]⟩:ByteArray).toList)&&decide (1<=(x.L.length:Int)))&&decide ((x.L.length:Int)<=16))&&decide (1<=x.N))&&decide (x.N<=(x.L.length:Int)))] (cs hs8))
  refine qT 5 U (ae hs9 U (λc13 hs11=>?_) (λc13 hs12=>?_))
  .refine qT 4 U (aU 4 [83,84,85,86,87] 83 87 (x.Name.toList==(⟨#[]⟩:ByteArray).toList) U (λc14 hk8=>?_) (λe=>?_))
   .exact qL 4 [0] U (hk8 _ U)
   refine av (aU 5 [88,89,90,91,92,93] 88 93 ((x.L.length:Int)==2) U (λc15 hk9=>?_) (λe=>?_))
   .exact qL 5 [0] U (hk9 _ U)
   refine av (aU 4 [94,95,96,97,98] 94 98 (decide (0<=x.N)) U (λc16 hk10=>?_) (λe=>?_))
   .exact qL 4 [0] U (hk10 _ U)
   refine av (aU 4 [99,100,101,102,103] 99 103 (decide (x.N<=1099511627776)) U (λc17 hk11=>?_) (λe=>?_))
   .exact qL 4 [0] U (hk11 _ U)
   exact an (nretP [.bool ((((upto&&(x.Name.toList==(⟨#[]⟩:ByteArray).toList))&&((x.L.length:Int)==2))&&decide (0<=x.N))&&decide (x.N<=1099511627776))] (cs hs11))
  exact aH (qT 5 U (nretP [.bool false] (cs hs12)))
 .rintro i1 y1 rz1 hd1 cY aJ dY gy hs15 hx1 ag1 e
  refine qK 7 [0] U (tO cY U (qL 10 [0] U (aA (iR mi ty62 hx.list.1 aJ U U U (λ_ _ _ e=>e) (λq2 r2 A2 ok2=>dv ty62 A2 U U (av (ai call342 (hrec _ _ _ upto ok2 (Sz (gj hd1))) U (qO 2 U (ae hs15 U (λc18 hs16=>?_) (λc18 hs17=>?_))))))))))
  .exact sr (an (nretP [.bool false] (cs hs16)))
  exact aH (qT 3 U (oi i1 U (an (ag1 hs17))))
 rintro i1 hd1 fL hx e
 exact qK 7 [0] U (fO fL U (qO 3 U (hx _ rd)))
theorem pt:∀(m:Nat)(h:HF)(x:Expr)(fY:cR)(upto:Bool)(_:x.dep<=m)(hx:kG h x fY),Ret prog 342 [.agg (vC x fY).toArray,.bool upto] h (.bool (aE.go m x upto))
 |0,h,x,fY,upto,hd,hx=>absurd hd (Nat.not_le.2 (TC _))
 |m+1,h,x,fY,upto,hd,hx=>xx (aE.go m) h x fY upto (λqh_ qx lE qupto qhx qd=>pt m qh_ qx lE qupto ob qhx) hx
theorem rX(h:HF)(x:Expr)(fY:cR)(upto:Bool)(hx:kG h x fY):Ret prog 342 [.agg (vC x fY).toArray,.bool upto] h (.bool (aE x upto)):=pt _ h x fY upto (vG _) hx
theorem DN(h:HF)(p:Policy)(gQ:eQ)(hp:kN h p gQ):Ret prog 306 [.agg (xE p gQ).toArray] h (.bool (gd p)):=by
 refine sT func306 U ntmps306 U λX hM hX hF=>?_
 have hs0:=@rfl _ (gd p)
 refine sr (bS (λb1=>qL 10 [0] U (bL 8 [9,10,11,12,13,14,15,16,17] 9 17 ((p.Rules.length:Int) != (p.Kinds.length:Int)) U (λc1 hk1=>?_) (λe=>?_))))
 .exact qL 8 [0,0] U (hk1 _ U)
 refine av (bL 4 [18,19,20,21,22] 18 22 (decide (p.Mode<1)) U (λc2 hk2=>?_) (λe=>?_))
 .exact qL 4 [0] U (hk2 _ U)
 refine av (bL 4 [23,24,25,26,27] 23 27 (decide (4<p.Mode)) U (λc3 hk3=>?_) (λe=>?_))
 .exact qL 4 [0] U (hk3 _ U)
 refine aI (ae hs0 U (λc4 hs1=>?_) (λc4 hs2=>?_))
 .exact sr (an (nretP [.bool false] (cs hs1)))
 refine qT 6 U ?_
 let z1:Nat×Obj:=(b1,O (xE p gQ) 64)
 refine lp0 p.Rules (λi=>[(1,Q b1),(3,I (i:Int))]) ([z1]) (λs1 i=>(gd.L1 p (gd.K1 p)) s1 i) hp.Rules.1.1 hs2 ?_ ?_ ?_
 .rintro i1 ft hs4 e
  exact qK 3 [] U (cN 0 ty62 U U U (ai call342 (rX _ _ _ false hp.Change) U (an (nretP [.bool (aE p.Change false)] (cs hs4)))))
 .rintro i1 y1 rz1 hd1 cY aJ dY gy hs6 hx1 ag1 e
  refine qK 7 [0] U (tO cY U (qL 10 [0] U (aA (iR vq ty79 hp.Rules.1 aJ U U U (λ_ _ _ e=>e) (λq3 r2 A3 ok2=>dv ty79 A3 U U (aS zc79 (λb3=>aR 0 ty79 U U U U U U (qO 2 U ?_))))))))
  refine m8 [(1,Q b1),(3,I (i1:Int)),(63,.bool ((((!(y1.Kind.toList==(nthI p.Kinds (i1:Int)).toList))||decide (y1.Think<0))||decide (1099511627776<=y1.Think))||(!(aE y1.Expr true))))] (λe=>?_) (λhk4=>?_)
  rotate_left
  .refine eh ([(b3,O (Ue y1 r2) 79),z1]) mixed kr jn (λdt _=>?_)
   refine qB [0] U (tf 1 U U (rj 0 ty9 U U U) (qB [2] U (tf 3 U U (rj 1 ty58 U U U) (tm 4 U ?_))))
   have ho2:0<=((i1:Int):Int)/\((i1:Int):Int)<((p.Kinds).length:Int):=ob
   refine cU 5 (enc:=λy=>[.string y]) dt jn ei wy ty9 hp.Kinds.1 ho2 (de ho2) U U U U kr (λq4 A4=>tf 6 U U (rh ty9 A4 U) (qA [7,8] U ?_))
   refine cB 48 U (λc5=>?_) (λc5=>?_)
   .exact tk 9 U U (qR 10 14 U (aG kr (hk4 _ ⟨U,U,(cb (show true=((((!(y1.Kind.toList==(nthI p.Kinds (i1:Int)).toList))||decide (y1.Think<0))||decide (1099511627776<=y1.Think))||(!(aE y1.Expr true)))from by rw[c5]<;>rfl)),trivial⟩)))
   refine qB [9] U (tf 10 U U (rj 0 ty3 U U U) (qR 11 3 U ?_))
   refine cB 53 U (λc6=>?_) (λc6=>?_)
   .have c6p:=of_decide_eq_true c6
    exact tk 14 U U (qR 15 9 U (aG kr (hk4 _ ⟨U,U,(cb (show true=((((!(y1.Kind.toList==(nthI p.Kinds (i1:Int)).toList))||decide (y1.Think<0))||decide (1099511627776<=y1.Think))||(!(aE y1.Expr true)))from by rw[c5,c6]<;>rfl)),trivial⟩)))
   have c6p:=of_decide_eq_false c6
   refine qB [14] U (tf 15 U U (rj 0 ty3 U U U) (qR 16 3 U ?_))
   refine cB 58 U (λc7=>?_) (λc7=>?_)
   .have c7p:=of_decide_eq_true c7
    exact tk 19 U U (qR 20 4 U (aG kr (hk4 _ ⟨U,U,(cb (show true=((((!(y1.Kind.toList==(nthI p.Kinds (i1:Int)).toList))||decide (y1.Think<0))||decide (1099511627776<=y1.Think))||(!(aE y1.Expr true)))from by rw[c5,c6,c7]<;>rfl)),trivial⟩)))
   have c7p:=of_decide_eq_false c7
   exact tf 19 U U (λ_ _ _=>tc QH U) (tf 20 U U (λ_ _ hj=>i7 ty62 U (hj.nth (i:=0) U) U) (tn 21 U (et call342 (rX _ _ _ true ok2.Expr) U (⟨jn,qA [22,23] U (aG kr (hk4 _ ⟨U,U,(cb (show(!(aE y1.Expr true))=((((!(y1.Kind.toList==(nthI p.Kinds (i1:Int)).toList))||decide (y1.Think<0))||decide (1099511627776<=y1.Think))||(!(aE y1.Expr true)))from by rw[c5,c6,c7]<;>rfl)),trivial⟩))⟩))))
  refine ae hs6 U (λc8 hs7=>?_) (λc8 hs8=>?_)
  .exact sr (an (nretP [.bool false] (cs hs7)))
  exact aH (qT 3 U (oi i1 U (an (ba (L':=[z1]) js (ag1 hs8)))))
 rintro i1 hd1 fL hx e
 exact qK 7 [0] U (fO fL U (qO 3 U (hx _ rd)))
theorem Ap(rec:List ByteArray->Expr->Expr)(h:HF)(offices:List ByteArray)(dK:Option Addr)(dJ:Nat)(x:Expr)(fY:cR)(hrec:∀(h:HF)(qoffices:List ByteArray)(j6:Option Addr)(j5:Nat)(qx:Expr)(lE:cR)(hqoffices:SlC Ta h j6 j5 qoffices)(hqx:kG h qx lE)(hsz:qx.dep<=2000000)(_:qx.dep<x.dep),i9 prog 307 [.slice j6 qoffices.length j5,.agg (vC qx lE).toArray] h (λv h'=>∃(rr0:cR),v=.agg (vC (rec qoffices qx) rr0).toArray/\kG h' (rec qoffices qx) rr0))(hoffices:SlC Ta h dK dJ offices)(hx:kG h x fY)(hsz:x.dep<=2000000):i9 prog 307 [.slice dK offices.length dJ,.agg (vC x fY).toArray] h (λv h'=>∃(rr0:cR),v=.agg (vC (ah.F rec offices x) rr0).toArray/\kG h' (ah.F rec offices x) rr0):=by
 refine cH func307 U ntmps307 U λX hM hX=>?_
 have hs0:=@rfl _ (ah.F rec offices x)
 have hln:=Expr.Pc x
 refine sr (bS (λb1=>aS zc62 (λb2=>qO 3 U (cN 1 ty62 U U U (aS zc62 (λb3=>aR 0 ty62 U U U U U U (qL 4 [] U (cK 0 ty3 U U U U U U (qL 8 [2] U (bL 4 [12,13,14,15,16] 12 16 (x.Kind==2) U (λc1 hk1=>?_) (λe=>?_)))))))))))
 .exact qL 4 [2] U (hk1 _ U)
 refine aI (ae hs0 U (λc2 hs1=>?_) (λc2 hs2=>?_))
 .refine qK 4 [2] U (ai call343 (s9 _ _ _ _ x.Name hoffices) U (qL 1 [] U (cK 0 ty3 U U U U U U (qL 4 [] U (cK 0 ty60 U U U U U U (qO 6 U ?_))))))
  let z1:Nat×Obj:=(b2,O [I 0,I 0,I 0,.string (⟨#[]⟩:ByteArray),.slice none 0 0] 62)
  let z3:Nat×Obj:=(b1,O (vC x fY) 62)
  refine lp2 x.L (λi w=>[(0,.slice dK offices.length dJ),(3,Q b1),(4,Q b2),(5,Q b3),(6,I (i:Int))]) (λw=>w.2.2.2.2) (λw=>[(b3,O [I x.Kind,I x.N,I (eD offices x.Name),.string x.Name,.slice w.2.1 w.1.length w.2.2.1] 62),z1,z3]++(w.2.2.2.1)) (λi w=>cZ S2 62 w.2.2.2.2 w.1 w.2.1 w.2.2.1 w.2.2.2.1/\w.1.length<=0+i/\HF.le h w.2.2.2.2) (λs1 i w=>(ah.L1 rec offices (ah.K1 offices x)) s1 w.1) ([],none,0,[],h) hx.list.1.1 hs1 ⟨cZ.nil,lo,lf⟩ ?_ ?_ ?_
  .rintro i1 ⟨kw,n0,nZ,BI,hh1⟩ ft hs3 ⟨tz,FJ,hl1⟩ e
   try dsimp only at tz FJ hl1
   let z5:Nat×Obj:=(b3,O [I x.Kind,I x.N,I (eD offices x.Name),.string x.Name,.slice n0 kw.length nZ] 62)
   let z19:Nat×Obj:=(b2,O [I x.Kind,I x.N,I (eD offices x.Name),.string x.Name,.slice n0 kw.length nZ] 62)
   refine sr (cN 0 ty62 U U U (aR 1 ty62 U U U U U U (iO (L':=[z5,z19,z3]++(BI)) U (aI (eY SC ([z5,z19,z3]) BI ([]) ap hM tz (λh3 hle3 sl2=>?_))))))
   have hs4:ah.F rec offices x=(qH x.Kind x.N (eD offices x.Name) x.Name kw):=hs3
   exact ld [.agg (vB [I x.Kind,I x.N,I (eD offices x.Name),.string x.Name,.slice n0 kw.length nZ])] func307 U ⟨⟨1,_,_,_,_,U,U,.inl ⟨ty62,U⟩⟩,trivial⟩ ⟨(cR.mk n0 nZ),congrArg (λr:Expr=>(.agg (vC r (cR.mk n0 nZ)).toArray:Value)) hs4.symm,(by rw[hs4];exact(show kG h3 (qH x.Kind x.N (eD offices x.Name) x.Name kw) (cR.mk n0 nZ)from SH sl2))⟩
  .rintro i1 ⟨kw,n0,nZ,BI,hh1⟩ y1 rz1 hd1 cY aJ dY gy hs5 ⟨tz,FJ,hl1⟩ hx1 ag1 e
   try dsimp only at tz FJ hl1
   have hdy:=Sz (gj hd1)
   refine qK 7 [2] U (tO cY U (qO 5 U (eh ([z1,z3]) mixed kr jn (λdt _=>qB [0,2,3] U (tf 4 U U (rj 1 ty60 U U U) (tm 5 U (j3 6 dt jn mi ty62 (hx.list.mono SC hl1).1 (nthZ aJ) (dq aJ) U U U U kr (λq2 cs2 A2 ln2 rr3=>?_))))))))
   obtain⟨r2,rfl,ok3⟩:=rr3
   refine tf 7 U U (λ_ _ hj=>iP ty62 (A2.mono hj.1) U U) ?_
   refine lY 1 8 kr U U ?_ ?_ 
   .refine fj (zg ty60 U (oM (i:=0) U) U) (⟨jn,tn 8 U (cC I4 (hrec _ _ _ _ _ _ (hoffices.mono TW hl1) ok3 ob (Sz (gj hd1))) U (λv2 h4 hle4 hp2=>?_))⟩)
    obtain⟨rr4,rfl,ok4⟩:=hp2
    refine⟨jl hle4,tu hle4 (tn 9 U (aV (cells:=[I ((rec offices y1).Kind),I ((rec offices y1).N),I ((rec offices y1).No),.string ((rec offices y1).Name),.slice rr4.mL ((rec offices y1).L.length) rr4.m4]) mi ty62 zc62 U U kr (λb5=>⟨jn,?_⟩)))⟩
    let z6:Nat×Obj:=(b3,O [I x.Kind,I x.N,I (eD offices x.Name),.string x.Name,.slice n0 kw.length nZ] 62)
    let z15:Nat×Obj:=(b5,O [I ((rec offices y1).Kind),I ((rec offices y1).N),I ((rec offices y1).No),.string ((rec offices y1).Name),.slice rr4.mL ((rec offices y1).L.length) rr4.m4] 62)
    exact tn 10 U (cd Ua ([z15,z6,z1,z3]) ([]) (λG=>[z15,z6,z1,z3]++G) ap (λ_=>ap) mi ty62 zc62 U bytes62 (tz.mono SC hle4) U U (dX 0 U (cE (R:=S2) (rec offices y1) U ⟨rr4,U,ok4⟩)) lo lo (λob2 oc2 G2 gr2=>⟨jn,qB [11] U (tn 12 U (lx 1 ty60 U U U U U U (⟨jn,aG kr (qT 3 U (oi i1 U (an (ba (L':=[(b3,O [I x.Kind,I x.N,I (eD offices x.Name),.string x.Name,.slice ob2 ((kw++[(rec offices y1)]).length) oc2] 62),z1,z3]++G2) js (ag1 ((kw++[(rec offices y1)]),ob2,oc2,G2,h4) hs5 ⟨gr2,lo,(hl1.t hle4)⟩)))))⟩)))⟩))
   refine cC I4 (hrec _ _ _ _ _ _ (hoffices.mono TW hl1) ok3 ob (Sz (gj hd1))) U (λv3 h5 hle5 hp3=>?_)
   obtain⟨rr5,rfl,ok5⟩:=hp3
   refine⟨jl hle5,tu hle5 ?_⟩
   refine lY 1 9 kr U U ?_ ?_ 
   .refine fj (zg ty60 U (oM (i:=0) U) U) (⟨jn,tn 9 U (aV (cells:=[I ((rec offices y1).Kind),I ((rec offices y1).N),I ((rec offices y1).No),.string ((rec offices y1).Name),.slice rr5.mL ((rec offices y1).L.length) rr5.m4]) mi ty62 zc62 U U kr (λb6=>⟨jn,?_⟩))⟩)
    let z7:Nat×Obj:=(b3,O [I x.Kind,I x.N,I (eD offices x.Name),.string x.Name,.slice n0 kw.length nZ] 62)
    let z16:Nat×Obj:=(b6,O [I ((rec offices y1).Kind),I ((rec offices y1).N),I ((rec offices y1).No),.string ((rec offices y1).Name),.slice rr5.mL ((rec offices y1).L.length) rr5.m4] 62)
    exact tn 10 U (cd Ua ([z16,z7,z1,z3]) ([]) (λG=>[z16,z7,z1,z3]++G) ap (λ_=>ap) mi ty62 zc62 U bytes62 (tz.mono SC hle5) U U (dX 0 U (cE (R:=S2) (rec offices y1) U ⟨rr5,U,ok5⟩)) lo lo (λob3 oc3 G3 gr3=>⟨jn,qB [11] U (tn 12 U (lx 1 ty60 U U U U U U (⟨jn,aG kr (qT 3 U (oi i1 U (an (ba (L':=[(b3,O [I x.Kind,I x.N,I (eD offices x.Name),.string x.Name,.slice ob3 ((kw++[(rec offices y1)]).length) oc3] 62),z1,z3]++G3) js (ag1 ((kw++[(rec offices y1)]),ob3,oc3,G3,h5) hs5 ⟨gr3,lo,(hl1.t hle5)⟩)))))⟩)))⟩))
   refine aV (cells:=[I ((rec offices y1).Kind),I ((rec offices y1).N),I ((rec offices y1).No),.string ((rec offices y1).Name),.slice rr5.mL ((rec offices y1).L.length) rr5.m4]) mi ty62 zc62 U U kr (λb7=>⟨jn,tn 1 U (fj (zg ty60 U (oM (i:=1) U) U) (⟨jn,?_⟩))⟩)
   let z8:Nat×Obj:=(b3,O [I x.Kind,I x.N,I (eD offices x.Name),.string x.Name,.slice n0 kw.length nZ] 62)
   let z17:Nat×Obj:=(b7,O [I ((rec offices y1).Kind),I ((rec offices y1).N),I ((rec offices y1).No),.string ((rec offices y1).Name),.slice rr5.mL ((rec offices y1).L.length) rr5.m4] 62)
   exact tn 10 U (cd Ua ([z17,z8,z1,z3]) ([]) (λG=>[z17,z8,z1,z3]++G) ap (λ_=>ap) mi ty62 zc62 U bytes62 (tz.mono SC hle5) U U (dX 0 U (cE (R:=S2) (rec offices y1) U ⟨rr5,U,ok5⟩)) lo lo (λob4 oc4 G4 gr4=>⟨jn,qB [11] U (tn 12 U (lx 1 ty60 U U U U U U (⟨jn,aG kr (qT 3 U (oi i1 U (an (ba (L':=[(b3,O [I x.Kind,I x.N,I (eD offices x.Name),.string x.Name,.slice ob4 ((kw++[(rec offices y1)]).length) oc4] 62),z1,z3]++G4) js (ag1 ((kw++[(rec offices y1)]),ob4,oc4,G4,h5) hs5 ⟨gr4,lo,(hl1.t hle5)⟩)))))⟩)))⟩))
  rintro i1 ⟨kw,n0,nZ,BI,hh1⟩ hd1 fL hx e
  exact qK 7 [2] U (fO fL U (qO 3 U (hx _ rd)))
 refine qK 4 [] U (cK 0 ty60 U U U U U U (qO 6 U ?_))
 let z2:Nat×Obj:=(b2,O [I 0,I 0,I 0,.string (⟨#[]⟩:ByteArray),.slice none 0 0] 62)
 let z4:Nat×Obj:=(b1,O (vC x fY) 62)
 refine lp2 x.L (λi w=>[(0,.slice dK offices.length dJ),(3,Q b1),(4,Q b2),(5,Q b3),(6,I (i:Int))]) (λw=>w.2.2.2.2) (λw=>[(b3,O [I x.Kind,I x.N,I 0,.string x.Name,.slice w.2.1 w.1.length w.2.2.1] 62),z2,z4]++(w.2.2.2.1)) (λi w=>cZ S2 62 w.2.2.2.2 w.1 w.2.1 w.2.2.1 w.2.2.2.1/\w.1.length<=0+i/\HF.le h w.2.2.2.2) (λs2 i w=>(ah.L2 rec offices (ah.K2 x)) s2 w.1) ([],none,0,[],h) hx.list.1.1 hs2 ⟨cZ.nil,lo,lf⟩ ?_ ?_ ?_
 .rintro i2 ⟨kv,nY,nX,BD,hh2⟩ CG hs6 ⟨tw,FF,hl2⟩ e
  try dsimp only at tw FF hl2
  let z9:Nat×Obj:=(b3,O [I x.Kind,I x.N,I 0,.string x.Name,.slice nY kv.length nX] 62)
  let z20:Nat×Obj:=(b2,O [I x.Kind,I x.N,I 0,.string x.Name,.slice nY kv.length nX] 62)
  refine sr (cN 0 ty62 U U U (aR 1 ty62 U U U U U U (iO (L':=[z9,z20,z4]++(BD)) U (aI (eY SC ([z9,z20,z4]) BD ([]) ap hM tw (λh8 hle8 sl4=>?_))))))
  have hs7:ah.F rec offices x=(qH x.Kind x.N 0 x.Name kv):=hs6
  exact ld [.agg (vB [I x.Kind,I x.N,I 0,.string x.Name,.slice nY kv.length nX])] func307 U ⟨⟨1,_,_,_,_,U,U,.inl ⟨ty62,U⟩⟩,trivial⟩ ⟨(cR.mk nY nX),congrArg (λr:Expr=>(.agg (vC r (cR.mk nY nX)).toArray:Value)) hs7.symm,(by rw[hs7];exact(show kG h8 (qH x.Kind x.N 0 x.Name kv) (cR.mk nY nX)from SH sl4))⟩
 .rintro i2 ⟨kv,nY,nX,BD,hh2⟩ y2 rz2 hd2 wX uZ Fz NJ hs8 ⟨tw,FF,hl2⟩ hx2 ag2 e
  try dsimp only at tw FF hl2
  have hdy:=Sz (gj hd2)
  refine qK 7 [2] U (tO wX U (qO 5 U (eh ([z2,z4]) mixed kr jn (λmF _=>qB [0,2,3] U (tf 4 U U (rj 1 ty60 U U U) (tm 5 U (j3 6 mF jn mi ty62 (hx.list.mono SC hl2).1 (nthZ uZ) (dq uZ) U U U U kr (λq4 cs4 A4 ln4 rr8=>?_))))))))
  obtain⟨r4,rfl,ok8⟩:=rr8
  refine tf 7 U U (λ_ _ hj=>iP ty62 (A4.mono hj.1) U U) ?_
  refine lY 1 8 kr U U ?_ ?_ 
  .refine fj (zg ty60 U (oM (i:=0) U) U) (⟨jn,tn 8 U (cC I4 (hrec _ _ _ _ _ _ (hoffices.mono TW hl2) ok8 ob (Sz (gj hd2))) U (λv5 h9 hle9 hp5=>?_))⟩)
   obtain⟨rr9,rfl,ok9⟩:=hp5
   refine⟨jl hle9,tu hle9 (tn 9 U (aV (cells:=[I ((rec offices y2).Kind),I ((rec offices y2).N),I ((rec offices y2).No),.string ((rec offices y2).Name),.slice rr9.mL ((rec offices y2).L.length) rr9.m4]) mi ty62 zc62 U U kr (λb9=>⟨jn,?_⟩)))⟩
   let z10:Nat×Obj:=(b3,O [I x.Kind,I x.N,I 0,.string x.Name,.slice nY kv.length nX] 62)
   let z18:Nat×Obj:=(b9,O [I ((rec offices y2).Kind),I ((rec offices y2).N),I ((rec offices y2).No),.string ((rec offices y2).Name),.slice rr9.mL ((rec offices y2).L.length) rr9.m4] 62)
   exact tn 10 U (cd Ua ([z18,z10,z2,z4]) ([]) (λG=>[z18,z10,z2,z4]++G) ap (λ_=>ap) mi ty62 zc62 U bytes62 (tw.mono SC hle9) U U (dX 0 U (cE (R:=S2) (rec offices y2) U ⟨rr9,U,ok9⟩)) lo lo (λob6 oc6 G6 gr6=>⟨jn,qB [11] U (tn 12 U (lx 1 ty60 U U U U U U (⟨jn,aG kr (qT 3 U (oi i2 U (an (ba (L':=[(b3,O [I x.Kind,I x.N,I 0,.string x.Name,.slice ob6 ((kv++[(rec offices y2)]).length) oc6] 62),z2,z4]++G6) js (ag2 ((kv++[(rec offices y2)]),ob6,oc6,G6,h9) hs8 ⟨gr6,lo,(hl2.t hle9)⟩)))))⟩)))⟩))
  refine cC I4 (hrec _ _ _ _ _ _ (hoffices.mono TW hl2) ok8 ob (Sz (gj hd2))) U (λv6 h10 hle10 hp6=>?_)
  obtain⟨rr10,rfl,ok10⟩:=hp6
  refine⟨jl hle10,tu hle10 ?_⟩
  refine lY 1 9 kr U U ?_ ?_ 
  .refine fj (zg ty60 U (oM (i:=0) U) U) (⟨jn,tn 9 U (aV (cells:=[I ((rec offices y2).Kind),I ((rec offices y2).N),I ((rec offices y2).No),.string ((rec offices y2).Name),.slice rr10.mL ((rec offices y2).L.length) rr10.m4]) mi ty62 zc62 U U kr (λb10=>⟨jn,?_⟩))⟩)
   let z11:Nat×Obj:=(b3,O [I x.Kind,I x.N,I 0,.string x.Name,.slice nY kv.length nX] 62)
   let z13:Nat×Obj:=(b10,O [I ((rec offices y2).Kind),I ((rec offices y2).N),I ((rec offices y2).No),.string ((rec offices y2).Name),.slice rr10.mL ((rec offices y2).L.length) rr10.m4] 62)
   exact tn 10 U (cd Ua ([z13,z11,z2,z4]) ([]) (λG=>[z13,z11,z2,z4]++G) ap (λ_=>ap) mi ty62 zc62 U bytes62 (tw.mono SC hle10) U U (dX 0 U (cE (R:=S2) (rec offices y2) U ⟨rr10,U,ok10⟩)) lo lo (λob7 oc7 G7 gr7=>⟨jn,qB [11] U (tn 12 U (lx 1 ty60 U U U U U U (⟨jn,aG kr (qT 3 U (oi i2 U (an (ba (L':=[(b3,O [I x.Kind,I x.N,I 0,.string x.Name,.slice ob7 ((kv++[(rec offices y2)]).length) oc7] 62),z2,z4]++G7) js (ag2 ((kv++[(rec offices y2)]),ob7,oc7,G7,h10) hs8 ⟨gr7,lo,(hl2.t hle10)⟩)))))⟩)))⟩))
  refine aV (cells:=[I ((rec offices y2).Kind),I ((rec offices y2).N),I ((rec offices y2).No),.string ((rec offices y2).Name),.slice rr10.mL ((rec offices y2).L.length) rr10.m4]) mi ty62 zc62 U U kr (λb11=>⟨jn,tn 1 U (fj (zg ty60 U (oM (i:=1) U) U) (⟨jn,?_⟩))⟩)
  let z12:Nat×Obj:=(b3,O [I x.Kind,I x.N,I 0,.string x.Name,.slice nY kv.length nX] 62)
  let z14:Nat×Obj:=(b11,O [I ((rec offices y2).Kind),I ((rec offices y2).N),I ((rec offices y2).No),.string ((rec offices y2).Name),.slice rr10.mL ((rec offices y2).L.length) rr10.m4] 62)
  exact tn 10 U (cd Ua ([z14,z12,z2,z4]) ([]) (λG=>[z14,z12,z2,z4]++G) ap (λ_=>ap) mi ty62 zc62 U bytes62 (tw.mono SC hle10) U U (dX 0 U (cE (R:=S2) (rec offices y2) U ⟨rr10,U,ok10⟩)) lo lo (λob8 oc8 G8 gr8=>⟨jn,qB [11] U (tn 12 U (lx 1 ty60 U U U U U U (⟨jn,aG kr (qT 3 U (oi i2 U (an (ba (L':=[(b3,O [I x.Kind,I x.N,I 0,.string x.Name,.slice ob8 ((kv++[(rec offices y2)]).length) oc8] 62),z2,z4]++G8) js (ag2 ((kv++[(rec offices y2)]),ob8,oc8,G8,h10) hs8 ⟨gr8,lo,(hl2.t hle10)⟩)))))⟩)))⟩))
 rintro i2 ⟨kv,nY,nX,BD,hh2⟩ hd2 NI hx e
 exact qK 7 [2] U (fO NI U (qO 3 U (hx _ rd)))
theorem rl:∀(m:Nat)(h:HF)(offices:List ByteArray)(dK:Option Addr)(dJ:Nat)(x:Expr)(fY:cR)(_:x.dep<=m)(hoffices:SlC Ta h dK dJ offices)(hx:kG h x fY)(hsz:x.dep<=2000000),i9 prog 307 [.slice dK offices.length dJ,.agg (vC x fY).toArray] h (λv h'=>∃(rr0:cR),v=.agg (vC (ah.go m offices x) rr0).toArray/\kG h' (ah.go m offices x) rr0)
 |0,h,offices,dK,dJ,x,fY,hd,hoffices,hx,hsz=>absurd hd (Nat.not_le.2 (TC _))
 |m+1,h,offices,dK,dJ,x,fY,hd,hoffices,hx,hsz=>Ap (ah.go m) h offices dK dJ x fY (λqh_ qoffices j6 j5 qx lE qhoffices qhx qhsz qd=>rl m qh_ qoffices j6 j5 qx lE ob qhoffices qhx qhsz) hoffices hx hsz
theorem tX(h:HF)(offices:List ByteArray)(dK:Option Addr)(dJ:Nat)(x:Expr)(fY:cR)(hoffices:SlC Ta h dK dJ offices)(hx:kG h x fY)(hsz:x.dep<=2000000):i9 prog 307 [.slice dK offices.length dJ,.agg (vC x fY).toArray] h (λv h'=>∃(rr0:cR),v=.agg (vC (ah offices x) rr0).toArray/\kG h' (ah offices x) rr0):=rl _ h offices dK dJ x fY (vG _) hoffices hx hsz
theorem Cl(h:HF)(p:Policy)(gQ:eQ)(hp:kN h p gQ)(hsm:smP p):i9 prog 249 [.agg (xE p gQ).toArray] h (λv h'=>∃(rr0:eQ),v=.tuple #[.agg (xE ((dV p).1) rr0).toArray,I ((dV p).2)]/\kN h' ((dV p).1) rr0):=by
 refine cH L5 U ntmps249 U λX hM hX=>?_
 have hs0:=@rfl _ (dV p)
 have hsc:=hsm.change
 have hsr:=hsm.rules
 refine sr (bS (λb1=>aS zc64 (λb2=>qO 5 U (cN 1 ty64 U U U (ai call304 (Bq _ _ _ hp) U (aI (ae hs0 U (λc1 hs1=>?_) (λc1 hs2=>?_))))))))
 .refine sr (aA (e9 (cells:=[.string (⟨#[]⟩:ByteArray),.slice none 0 0,.slice none 0 0,.slice none 0 0,I 0,I 0,I 0,.string (⟨#[]⟩:ByteArray),.slice none 0 0,I 0]) (places:=[(0,1),(1,1),(2,1),(3,1),(4,5),(9,1)]) Mm zc64 kr kr (aR 0 ty64 U U U U U U (an ?_))))
  have hs3:dV p=((zP (⟨#[]⟩:ByteArray) ([]) ([]) ([]) (qH 0 0 0 (⟨#[]⟩:ByteArray) ([])) 0),2):=hs1
  exact ld [.agg (vB [.string (⟨#[]⟩:ByteArray),.slice none 0 0,.slice none 0 0,.slice none 0 0,I 0,I 0,I 0,.string (⟨#[]⟩:ByteArray),.slice none 0 0,I 0]),I 2] L5 U ⟨⟨0,_,_,_,_,U,U,.inl ⟨ty64,U⟩⟩,U,trivial⟩ ⟨(eQ.mk none 0 none 0 none 0 (cR.mk none 0)),congrArg (λr:(Policy×Int)=>(.tuple #[.agg (xE r.1 (eQ.mk none 0 none 0 none 0 (cR.mk none 0))).toArray,I r.2]:Value)) hs3.symm,(by rw[hs3];exact(show kN h (zP (⟨#[]⟩:ByteArray) ([]) ([]) ([]) (qH 0 0 0 (⟨#[]⟩:ByteArray) ([])) 0) (eQ.mk none 0 none 0 none 0 (cR.mk none 0))from⟨vE,vE,vE,(show kG h (qH 0 0 0 (⟨#[]⟩:ByteArray) ([])) (cR.mk none 0)from SH vE)⟩))⟩
 refine qT 4 U (cN 1 ty64 U U U (ai call305 (EW _ _ _ hp) U (qO 2 U (ae hs2 U (λc2 hs4=>?_) (λc2 hs5=>?_)))))
 .refine sr (aA (e9 (cells:=[.string (⟨#[]⟩:ByteArray),.slice none 0 0,.slice none 0 0,.slice none 0 0,I 0,I 0,I 0,.string (⟨#[]⟩:ByteArray),.slice none 0 0,I 0]) (places:=[(0,1),(1,1),(2,1),(3,1),(4,5),(9,1)]) Mm zc64 kr kr (aR 0 ty64 U U U U U U (an ?_))))
  have hs6:dV p=((zP (⟨#[]⟩:ByteArray) ([]) ([]) ([]) (qH 0 0 0 (⟨#[]⟩:ByteArray) ([])) 0),201):=hs4
  exact ld [.agg (vB [.string (⟨#[]⟩:ByteArray),.slice none 0 0,.slice none 0 0,.slice none 0 0,I 0,I 0,I 0,.string (⟨#[]⟩:ByteArray),.slice none 0 0,I 0]),I 201] L5 U ⟨⟨0,_,_,_,_,U,U,.inl ⟨ty64,U⟩⟩,U,trivial⟩ ⟨(eQ.mk none 0 none 0 none 0 (cR.mk none 0)),congrArg (λr:(Policy×Int)=>(.tuple #[.agg (xE r.1 (eQ.mk none 0 none 0 none 0 (cR.mk none 0))).toArray,I r.2]:Value)) hs6.symm,(by rw[hs6];exact(show kN h (zP (⟨#[]⟩:ByteArray) ([]) ([]) ([]) (qH 0 0 0 (⟨#[]⟩:ByteArray) ([])) 0) (eQ.mk none 0 none 0 none 0 (cR.mk none 0))from⟨vE,vE,vE,(show kG h (qH 0 0 0 (⟨#[]⟩:ByteArray) ([])) (cR.mk none 0)from SH vE)⟩))⟩
 refine qT 4 U (cN 1 ty64 U U U (ai call306 (DN _ _ _ hp) U (qO 2 U (ae hs5 U (λc3 hs7=>?_) (λc3 hs8=>?_)))))
 .refine sr (aA (e9 (cells:=[.string (⟨#[]⟩:ByteArray),.slice none 0 0,.slice none 0 0,.slice none 0 0,I 0,I 0,I 0,.string (⟨#[]⟩:ByteArray),.slice none 0 0,I 0]) (places:=[(0,1),(1,1),(2,1),(3,1),(4,5),(9,1)]) Mm zc64 kr kr (aR 0 ty64 U U U U U U (an ?_))))
  have hs9:dV p=((zP (⟨#[]⟩:ByteArray) ([]) ([]) ([]) (qH 0 0 0 (⟨#[]⟩:ByteArray) ([])) 0),200):=hs7
  exact ld [.agg (vB [.string (⟨#[]⟩:ByteArray),.slice none 0 0,.slice none 0 0,.slice none 0 0,I 0,I 0,I 0,.string (⟨#[]⟩:ByteArray),.slice none 0 0,I 0]),I 200] L5 U ⟨⟨0,_,_,_,_,U,U,.inl ⟨ty64,U⟩⟩,U,trivial⟩ ⟨(eQ.mk none 0 none 0 none 0 (cR.mk none 0)),congrArg (λr:(Policy×Int)=>(.tuple #[.agg (xE r.1 (eQ.mk none 0 none 0 none 0 (cR.mk none 0))).toArray,I r.2]:Value)) hs9.symm,(by rw[hs9];exact(show kN h (zP (⟨#[]⟩:ByteArray) ([]) ([]) ([]) (qH 0 0 0 (⟨#[]⟩:ByteArray) ([])) 0) (eQ.mk none 0 none 0 none 0 (cR.mk none 0))from⟨vE,vE,vE,(show kG h (qH 0 0 0 (⟨#[]⟩:ByteArray) ([])) (cR.mk none 0)from SH vE)⟩))⟩
 refine qT 3 U (cN 1 ty64 U U U (aS zc64 (λb3=>aR 0 ty64 U U U U U U (qL 4 [] U (cK 0 ty59 U U U U U U (qO 6 U ?_))))))
 let z4:Nat×Obj:=(b2,O [.string (⟨#[]⟩:ByteArray),.slice none 0 0,.slice none 0 0,.slice none 0 0,I 0,I 0,I 0,.string (⟨#[]⟩:ByteArray),.slice none 0 0,I 0] 64)
 let z7:Nat×Obj:=(b1,O (xE p gQ) 64)
 refine lp2 p.Rules (λi w=>[(1,Q b1),(2,Q b2),(4,Q b3),(5,I (i:Int))]) (λw=>w.2.2.2.2) (λw=>[(b3,O [.string p.Name,.slice gQ.jj p.Kinds.length gQ.ji,.slice gQ.gE p.Offices.length gQ.gD,.slice w.2.1 w.1.length w.2.2.1,I p.Change.Kind,I p.Change.N,I p.Change.No,.string p.Change.Name,.slice gQ.Change.mL p.Change.L.length gQ.Change.m4,I p.Mode] 64),z4,z7]++(w.2.2.2.1)) (λi w=>cZ Rule.rp 79 w.2.2.2.2 w.1 w.2.1 w.2.2.1 w.2.2.2.1/\w.1.length<=0+i/\HF.le h w.2.2.2.2) (λs1 i w=>(dV.L1 p (dV.K1 p)) s1 i w.1) ([],none,0,[],h) hp.Rules.1.1 hs8 ⟨cZ.nil,lo,lf⟩ ?_ ?_ ?_
 .rintro i1 ⟨mJ,pF,pE,yv,hh1⟩ ft hs10 ⟨yu,FK,hl1⟩ e
  try dsimp only at yu FK hl1
  refine qK 5 [2] U (cN 2 ty62 U U U (aA (cC I4 (tX _ _ _ _ _ _ (hp.Offices.mono TW hl1) (hp.Change.mono hl1) ob) U (λv3 h4 hle4 hp3=>?_))))
  obtain⟨rr4,rfl,ok4⟩:=hp3
  let z2:Nat×Obj:=(b3,O [.string p.Name,.slice gQ.jj p.Kinds.length gQ.ji,.slice gQ.gE p.Offices.length gQ.gD,.slice pF mJ.length pE,I ((ah p.Offices p.Change).Kind),I ((ah p.Offices p.Change).N),I ((ah p.Offices p.Change).No),.string ((ah p.Offices p.Change).Name),.slice rr4.mL ((ah p.Offices p.Change).L.length) rr4.m4,I p.Mode] 64)
  let z3:Nat×Obj:=(b2,O [.string p.Name,.slice gQ.jj p.Kinds.length gQ.ji,.slice gQ.gE p.Offices.length gQ.gD,.slice pF mJ.length pE,I ((ah p.Offices p.Change).Kind),I ((ah p.Offices p.Change).N),I ((ah p.Offices p.Change).No),.string ((ah p.Offices p.Change).Name),.slice rr4.mL ((ah p.Offices p.Change).L.length) rr4.m4,I p.Mode] 64)
  refine qL 1 [] U (cK 0 ty62 U U U U U U (qO 3 U (cN 0 ty64 U U U (aR 1 ty64 U U U U U U (iO (L':=[z2,z3,z7]++(yv)) U (an (eY TY ([z2,z3,z7]) yv ([]) ap hM (yu.mono TY hle4) (λh5 hle5 sl2=>?_))))))))
  have hs11:dV p=((zP p.Name p.Kinds p.Offices mJ (qH ((ah p.Offices p.Change).Kind) ((ah p.Offices p.Change).N) ((ah p.Offices p.Change).No) ((ah p.Offices p.Change).Name) ((ah p.Offices p.Change).L)) p.Mode),0):=hs10
  exact ld [.agg (xE (zP p.Name p.Kinds p.Offices mJ (qH ((ah p.Offices p.Change).Kind) ((ah p.Offices p.Change).N) ((ah p.Offices p.Change).No) ((ah p.Offices p.Change).Name) ((ah p.Offices p.Change).L)) p.Mode) (eQ.mk gQ.jj gQ.ji gQ.gE gQ.gD pF pE (cR.mk rr4.mL rr4.m4))).toArray,I 0] L5 U ⟨⟨1,_,_,_,_,U,U,.inl ⟨ty64,U⟩⟩,U,trivial⟩ ⟨(eQ.mk gQ.jj gQ.ji gQ.gE gQ.gD pF pE (cR.mk rr4.mL rr4.m4)),congrArg (λr:(Policy×Int)=>(.tuple #[.agg (xE r.1 (eQ.mk gQ.jj gQ.ji gQ.gE gQ.gD pF pE (cR.mk rr4.mL rr4.m4))).toArray,I r.2]:Value)) hs11.symm,(by rw[hs11];exact(show kN h5 (zP p.Name p.Kinds p.Offices mJ (qH ((ah p.Offices p.Change).Kind) ((ah p.Offices p.Change).N) ((ah p.Offices p.Change).No) ((ah p.Offices p.Change).Name) ((ah p.Offices p.Change).L)) p.Mode) (eQ.mk gQ.jj gQ.ji gQ.gE gQ.gD pF pE (cR.mk rr4.mL rr4.m4))from⟨(hp.Kinds.mono TW ((hl1.t hle4).t hle5)),(hp.Offices.mono TW ((hl1.t hle4).t hle5)),sl2,(show kG h5 (qH ((ah p.Offices p.Change).Kind) ((ah p.Offices p.Change).N) ((ah p.Offices p.Change).No) ((ah p.Offices p.Change).Name) ((ah p.Offices p.Change).L)) (cR.mk rr4.mL rr4.m4)from SH (ok4.list.mono SC hle5))⟩))⟩
 .rintro i1 ⟨mJ,pF,pE,yv,hh1⟩ y1 rz1 hd1 cY aJ dY gy hs12 ⟨yu,FK,hl1⟩ hx1 ag1 e
  try dsimp only at yu FK hl1
  have hsy:=hsm.2.1 y1 (gj hd1)
  refine qK 7 [2] U (tO cY U (qL 9 [2] U ?_))
  let z1:Nat×Obj:=(b3,O [.string p.Name,.slice gQ.jj p.Kinds.length gQ.ji,.slice gQ.gE p.Offices.length gQ.gD,.slice pF mJ.length pE,I p.Change.Kind,I p.Change.N,I p.Change.No,.string p.Change.Name,.slice gQ.Change.mL p.Change.L.length gQ.Change.m4,I p.Mode] 64)
  refine av (aA (iR vq ty79 (hp.Rules.mono TY hl1).1 aJ U U U (λ_ _ _ e=>e) (λq2 r2 A2 ok5=>dv ty79 A2 U U (aS zc79 (λb6=>aR 0 ty79 U U U U U U (iO (L':=[(b6,O (Ue y1 r2) 79),z1,z4,z7]++(yv)) U (qL 5 [] U (cK 0 ty3 U U U U U U (qL 6 [3] U (cN 0 ty62 U U U (aA (cC I4 (tX _ _ _ _ _ _ (hp.Offices.mono TW hl1) ok5.Expr ob) U (λv4 h6 hle6 hp4=>?_)))))))))))))
  obtain⟨rr6,rfl,ok6⟩:=hp4
  refine qL 1 [] U (cK 0 ty62 U U U U U U (qL 4 [1] U (cN 0 ty79 U U U (aA (aV (cells:=[.string y1.Kind,I (i1:Int),I y1.Think,I ((ah p.Offices y1.Expr).Kind),I ((ah p.Offices y1.Expr).N),I ((ah p.Offices y1.Expr).No),.string ((ah p.Offices y1.Expr).Name),.slice rr6.mL ((ah p.Offices y1.Expr).L.length) rr6.m4]) vq ty79 zc79 U U kr (λb7=>?_))))))
  let z5:Nat×Obj:=(b7,O [.string y1.Kind,I (i1:Int),I y1.Think,I ((ah p.Offices y1.Expr).Kind),I ((ah p.Offices y1.Expr).N),I ((ah p.Offices y1.Expr).No),.string ((ah p.Offices y1.Expr).Name),.slice rr6.mL ((ah p.Offices y1.Expr).L.length) rr6.m4] 79)
  let z6:Nat×Obj:=(b6,O [.string y1.Kind,I (i1:Int),I y1.Think,I ((ah p.Offices y1.Expr).Kind),I ((ah p.Offices y1.Expr).N),I ((ah p.Offices y1.Expr).No),.string ((ah p.Offices y1.Expr).Name),.slice rr6.mL ((ah p.Offices y1.Expr).L.length) rr6.m4] 79)
  refine aA (cd Rule.eo ([z5,z6,z1,z4,z7]) ([]) (λG=>[z5,z6,z1,z4,z7]++G) ap (λ_=>ap) vq ty79 zc79 U bytes79 (yu.mono TY hle6) U U (dX 0 U (cE (R:=Rule.rp) (TE y1.Kind (i1:Int) y1.Think (qH ((ah p.Offices y1.Expr).Kind) ((ah p.Offices y1.Expr).N) ((ah p.Offices y1.Expr).No) ((ah p.Offices y1.Expr).Name) ((ah p.Offices y1.Expr).L))) U ⟨(Ce.mk (cR.mk rr6.mL rr6.m4)),U,(show Rule.ok h6 (TE y1.Kind (i1:Int) y1.Think (qH ((ah p.Offices y1.Expr).Kind) ((ah p.Offices y1.Expr).N) ((ah p.Offices y1.Expr).No) ((ah p.Offices y1.Expr).Name) ((ah p.Offices y1.Expr).L))) (Ce.mk (cR.mk rr6.mL rr6.m4))from⟨(show kG h6 (qH ((ah p.Offices y1.Expr).Kind) ((ah p.Offices y1.Expr).N) ((ah p.Offices y1.Expr).No) ((ah p.Offices y1.Expr).Name) ((ah p.Offices y1.Expr).L)) (cR.mk rr6.mL rr6.m4)from SH ok6.list)⟩)⟩)) lo lo (λob2 oc2 G2 gr2=>qL 1 [] U (cK 2 ty59 U U U U U U (qO 4 U (oi i1 U (an (ba (L':=[(b3,O [.string p.Name,.slice gQ.jj p.Kinds.length gQ.ji,.slice gQ.gE p.Offices.length gQ.gD,.slice ob2 ((mJ++[(TE y1.Kind (i1:Int) y1.Think (qH ((ah p.Offices y1.Expr).Kind) ((ah p.Offices y1.Expr).N) ((ah p.Offices y1.Expr).No) ((ah p.Offices y1.Expr).Name) ((ah p.Offices y1.Expr).L)))]).length) oc2,I p.Change.Kind,I p.Change.N,I p.Change.No,.string p.Change.Name,.slice gQ.Change.mL p.Change.L.length gQ.Change.m4,I p.Mode] 64),z4,z7]++G2) js ?_)))))))
  exact ag1 ((mJ++[(TE y1.Kind (i1:Int) y1.Think (qH ((ah p.Offices y1.Expr).Kind) ((ah p.Offices y1.Expr).N) ((ah p.Offices y1.Expr).No) ((ah p.Offices y1.Expr).Name) ((ah p.Offices y1.Expr).L)))]),ob2,oc2,G2,h6) hs12 ⟨gr2,lo,(hl1.t hle6)⟩
 rintro i1 ⟨mJ,pF,pE,yv,hh1⟩ hd1 fL hx e
 exact qK 7 [2] U (fO fL U (qO 3 U (hx _ rd)))
theorem s8(h:HF)(a:List ByteArray)(RD:Option Addr)(RC:Nat)(jy:List ByteArray)(Gj:Option Addr)(Gi:Nat)(ha:SlC Ta h RD RC a)(zw:SlC Ta h Gj Gi jy):Ret prog 308 [.slice RD a.length RC,.slice Gj jy.length Gi] h (.bool (eH a jy)):=by
 refine sT func308 U ntmps308 U λX hM hX hF=>?_
 have hs0:=@rfl _ (eH a jy)
 refine qK 13 [] U (ae hs0 U (λc1 hs1=>?_) (λc1 hs2=>?_))
 .exact sr (an (nretP [.bool false] (cs hs1)))
 refine qT 6 U ?_
 refine lp0 a (λi=>[(0,.slice RD a.length RC),(1,.slice Gj jy.length Gi),(5,I (i:Int))]) ([]) (λs1 i=>(eH.L1 jy (eH.K1)) s1 i) ha.1.1 hs2 ?_ ?_ ?_
 .rintro i1 ft hs4 e
  exact sr (an (nretP [.bool true] (cs hs4)))
 .rintro i1 y1 rz1 hd1 cY aJ dY gy hs6 hx1 ag1 e
  refine qK 6 [] U (tO cY U (qO 6 U (eh ([]) mixed kr jn (λdt _=>qA [0,1] U (cU 2 (enc:=λy=>[.string y]) dt jn ei wy ty9 ha.1 (nthZ aJ) (dq aJ) U U U U kr (λq3 A3=>tf 3 U U (rh ty9 A3 U) (qA [4,5] U ?_)))))))
  have ho2:0<=((i1:Int):Int)/\((i1:Int):Int)<((jy).length:Int):=ob
  refine cU 6 (enc:=λy=>[.string y]) dt jn ei wy ty9 zw.1 ho2 (de ho2) U U U U kr (λq4 A4=>tf 7 U U (rh ty9 A4 U) (qA [8] U (aG kr (ae hs6 U (λc3 hs7=>?_) (λc3 hs8=>?_)))))
  .exact sr (an (nretP [.bool false] (cs hs7)))
  exact aH (qT 3 U (oi i1 U (an (ag1 hs8))))
 rintro i1 hd1 fL hx e
 exact qK 6 [] U (fO fL U (qO 3 U (hx _ rd)))
theorem Aq(rec:Expr->Expr->Bool)(h:HF)(a:Expr)(I1:cR)(jy:Expr)(pZ:cR)(hrec:∀(h:HF)(qa:Expr)(Qt:cR)(O4:Expr)(Io:cR)(hqa:kG h qa Qt)(Sh:kG h O4 Io)(_:qa.dep<a.dep),Ret prog 309 [.agg (vC qa Qt).toArray,.agg (vC O4 Io).toArray] h (.bool (rec qa O4)))(ha:kG h a I1)(zw:kG h jy pZ):Ret prog 309 [.agg (vC a I1).toArray,.agg (vC jy pZ).toArray] h (.bool (bo.F rec a jy)):=by
 refine sT func309 U ntmps309 U λX hM hX hF=>?_
 have hs0:=@rfl _ (bo.F rec a jy)
 refine sr (bS (λb1=>bS (λb2=>qL 11 [1,0] U (bL 6 [11,12,13,14,15,16,17] 11 17 (a.N != jy.N) U (λc1 hk1=>?_) (λe=>?_)))))
 .exact qL 6 [1,0] U (hk1 _ U)
 refine av (bL 6 [18,19,20,21,22,23,24] 18 24 (a.No != jy.No) U (λc2 hk2=>?_) (λe=>?_))
 .exact qL 6 [1,0] U (hk2 _ U)
 refine av (bL 6 [25,26,27,28,29,30,31] 25 31 (!(a.Name.toList==jy.Name.toList)) U (λc3 hk3=>?_) (λe=>?_))
 .exact qL 6 [1,0] U (hk3 _ U)
 refine av (bL 8 [32,33,34,35,36,37,38,39,40] 32 40 ((a.L.length:Int) != (jy.L.length:Int)) U (λc4 hk4=>?_) (λe=>?_))
 .exact qL 8 [1,0] U (hk4 _ U)
 refine aI (ae hs0 U (λc5 hs1=>?_) (λc5 hs2=>?_))
 .exact sr (an (nretP [.bool false] (cs hs1)))
 refine qT 6 U ?_
 let z1:Nat×Obj:=(b2,O (vC jy pZ) 62)
 let z2:Nat×Obj:=(b1,O (vC a I1) 62)
 refine lp0 a.L (λi=>[(2,Q b1),(3,Q b2),(5,I (i:Int))]) ([z1,z2]) (λs1 i=>(bo.L1 rec jy (bo.K1)) s1 i) ha.list.1.1 hs2 ?_ ?_ ?_
 .rintro i1 ft hs4 e
  exact sr (an (nretP [.bool true] (cs hs4)))
 .rintro i1 y1 rz1 hd1 cY aJ dY gy hs6 hx1 ag1 e
  refine qK 7 [1] U (tO cY U (qO 6 U (eh ([z1,z2]) mixed kr jn (λdt _=>qB [0] U (tf 1 U U (rj 1 ty60 U U U) (tm 2 U (j3 3 dt jn mi ty62 ha.list.1 (nthZ aJ) (dq aJ) U U U U kr (λq3 cs3 A3 ln3 rr3=>?_))))))))
  obtain⟨r3,rfl,ok3⟩:=rr3
  refine tf 4 U U (λ_ _ hj=>iP ty62 (A3.mono hj.1) U U) (qB [5] U (tf 6 U U (rj 0 ty60 U U U) (tm 7 U ?_)))
  have ho2:0<=((i1:Int):Int)/\((i1:Int):Int)<((jy.L).length:Int):=ob
  refine j3 8 dt jn mi ty62 zw.list.1 ho2 (de ho2) U U U U kr (λq4 cs4 A4 ln4 rr4=>?_)
  obtain⟨r4,rfl,ok4⟩:=rr4
  refine tf 9 U U (λ_ _ hj=>iP ty62 (A4.mono hj.1) U U) (tn 10 U (et call309 (hrec _ _ _ _ _ ok3 ok4 (Sz (gj hd1))) U (⟨jn,qA [11] U (aG kr (ae hs6 U (λc7 hs7=>?_) (λc7 hs8=>?_)))⟩)))
  .exact sr (an (nretP [.bool false] (cs hs7)))
  exact aH (qT 3 U (oi i1 U (an (ag1 hs8))))
 rintro i1 hd1 fL hx e
 exact qK 7 [1] U (fO fL U (qO 3 U (hx _ rd)))
theorem rm:∀(m:Nat)(h:HF)(a:Expr)(I1:cR)(jy:Expr)(pZ:cR)(_:a.dep<=m)(ha:kG h a I1)(zw:kG h jy pZ),Ret prog 309 [.agg (vC a I1).toArray,.agg (vC jy pZ).toArray] h (.bool (bo.go m a jy))
 |0,h,a,I1,jy,pZ,hd,ha,zw=>absurd hd (Nat.not_le.2 (TC _))
 |m+1,h,a,I1,jy,pZ,hd,ha,zw=>Aq (bo.go m) h a I1 jy pZ (λqh_ qa Qt O4 Io qha RI qd=>rm m qh_ qa Qt O4 Io ob qha RI) ha zw
theorem ud(h:HF)(a:Expr)(I1:cR)(jy:Expr)(pZ:cR)(ha:kG h a I1)(zw:kG h jy pZ):Ret prog 309 [.agg (vC a I1).toArray,.agg (vC jy pZ).toArray] h (.bool (bo a jy)):=rm _ h a I1 jy pZ (vG _) ha zw
theorem Gt(h:HF)(a:Policy)(I1:eQ)(jy:Policy)(pZ:eQ)(ha:kN h a I1)(zw:kN h jy pZ):Ret prog 250 [.agg (xE a I1).toArray,.agg (xE jy pZ).toArray] h (.bool (iy a jy)):=by
 refine sT func250 U ntmps250 U λX hM hX hF=>?_
 have hs0:=@rfl _ (iy a jy)
 refine sr (bS (λb1=>bS (λb2=>qL 11 [1,0] U (bL 6 [13,14,15,16,17,18,19] 13 19 (a.Mode != jy.Mode) U (λc1 hk1=>?_) (λe=>?_)))))
 .exact qL 6 [1,0] U (hk1 _ U)
 refine av (bL 7 [20,21,22,23,24,25,26,27] 20 27 (!(eH a.Offices jy.Offices)) U (λc2 hk2=>?_) (λe=>?_))
 .exact qL 4 [1,0] U (ai call308 (s8 _ _ _ _ _ _ _ ha.Offices zw.Offices) U (qO 2 U (hk2 _ U)))
 refine av (bL 7 [28,29,30,31,32,33,34,35] 28 35 (!(eH a.Kinds jy.Kinds)) U (λc3 hk3=>?_) (λe=>?_))
 .exact qL 4 [1,0] U (ai call308 (s8 _ _ _ _ _ _ _ ha.Kinds zw.Kinds) U (qO 2 U (hk3 _ U)))
 refine av (bL 8 [36,37,38,39,40,41,42,43,44] 36 44 ((a.Rules.length:Int) != (jy.Rules.length:Int)) U (λc4 hk4=>?_) (λe=>?_))
 .exact qL 8 [1,0] U (hk4 _ U)
 refine av (bL 7 [45,46,47,48,49,50,51,52] 45 52 (!(bo a.Change jy.Change)) U (λc5 hk5=>?_) (λe=>?_))
 .exact qL 1 [] U (cN 1 ty62 U U U (qL 1 [] U (cN 0 ty62 U U U (ai call309 (ud _ _ _ _ _ ha.Change zw.Change) U (qO 2 U (hk5 _ U))))))
 refine aI (ae hs0 U (λc6 hs1=>?_) (λc6 hs2=>?_))
 .exact sr (an (nretP [.bool false] (cs hs1)))
 refine qT 6 U ?_
 refine lp0 a.Rules (λi=>[(2,Q b1),(3,Q b2),(5,I (i:Int))]) ([(b2,O (xE jy pZ) 64),(b1,O (xE a I1) 64)]) (λs1 i=>(iy.L1 jy (iy.K1)) s1 i) ha.Rules.1.1 hs2 ?_ ?_ ?_
 .rintro i1 ft hs4 e
  exact sr (an (nretP [.bool true] (cs hs4)))
 .rintro i1 y1 rz1 hd1 cY aJ dY gy hs6 hx1 ag1 e
  refine qK 7 [1] U (tO cY U (qL 10 [1] U (aA (iR vq ty79 ha.Rules.1 aJ U U U (λ_ _ _ e=>e) (λq3 r3 A3 ok3=>dv ty79 A3 U U (aS zc79 (λb5=>aR 0 ty79 U U U U U U (qL 6 [1] U ?_))))))))
  have ho2:0<=((i1:Int):Int)/\((i1:Int):Int)<((jy.Rules).length:Int):=ob
  refine aA (Ci vq ty79 zw.Rules.1 ho2 (de ho2) U U U (λ_ _ _ e=>e) (λq4 r4 A4 ok4=>dv ty79 A4 U U (aS zc79 (λb6=>aR 0 ty79 U U U U U U (qL 9 [1,0] U (bL 6 [75,76,77,78,79,80,81] 75 81 (y1.KindNo != (nthI jy.Rules (i1:Int)).KindNo) U (λc7 hk6=>?_) (λe=>?_)))))))
  .exact qL 6 [1,0] U (hk6 _ U)
  refine av (bL 6 [82,83,84,85,86,87,88] 82 88 (y1.Think != (nthI jy.Rules (i1:Int)).Think) U (λc8 hk7=>?_) (λe=>?_))
  .exact qL 6 [1,0] U (hk7 _ U)
  refine av (bL 7 [89,90,91,92,93,94,95,96] 89 96 (!(bo y1.Expr ((nthI jy.Rules (i1:Int)).Expr))) U (λc9 hk8=>?_) (λe=>?_))
  .exact qL 1 [] U (cN 1 ty62 U U U (qL 1 [] U (cN 0 ty62 U U U (ai call309 (ud _ _ _ _ _ ok3.Expr ok4.Expr) U (qO 2 U (hk8 _ U))))))
  refine aI (ae hs6 U (λc10 hs7=>?_) (λc10 hs8=>?_))
  .exact sr (an (nretP [.bool false] (cs hs7)))
  exact aH (qT 3 U (oi i1 U (an (ba (L':=[(b2,O (xE jy pZ) 64),(b1,O (xE a I1) 64)]) js (ag1 hs8)))))
 rintro i1 hd1 fL hx e
 exact qK 7 [1] U (fO fL U (qO 3 U (hx _ rd)))
theorem xy(h:HF)(p:Policy)(gQ:eQ)(hp:kN h p gQ)(hsm:smP p):Ret prog 158 [.agg (xE p gQ).toArray] h (I (gz p)):=by
 refine sT func158 U ntmps158 U λX hM hX hF=>?_
 have hs0:=@rfl _ (gz p)
 refine sr (bS (λb1=>qO 4 U (cN 0 ty64 U U U (aA (cC call249 (Cl _ _ _ hp ob) U (λv1 h1 hle1 hp1=>?_))))))
 obtain⟨rr1,rfl,ok1⟩:=hp1
 refine qO 3 U (aS zc64 (λb2=>aR 0 ty64 U U U U U U (qO 8 U (ae hs0 U (λc1 hs1=>?_) (λc1 hs2=>?_)))))
 .exact sr (qO 3 U (nretP [I ((dV p).2)] (ci hs1)))
 refine qT 4 U (cN 0 ty64 U U U (cN 1 ty64 U U U (ai call250 (Gt _ _ _ _ _ ok1 (hp.mono hle1)) U (qO 2 U (ae hs2 U (λc2 hs4=>?_) (λc2 hs5=>?_))))))
 .exact sr (an (nretP [I 200] (ci hs4)))
 exact aH (qT 4 U (nretP [I 0] (ci hs5)))
theorem Br(h:HF)(l:List Version)(dU:Option Addr)(dT:Nat)(hl:SlC zQ h dU dT l)(hsm:smV l):Ret prog 76 [.slice dU l.length dT] h (I (dP l)):=by
 refine sT func76 U ntmps76 U λX hM hX hF=>?_
 have hs0:=@rfl _ (dP l)
 refine qK 11 [] U (ae hs0 U (λc1 hs1=>?_) (λc1 hs2=>?_))
 .have c1p:=of_decide_eq_true c1
  exact sr (an (nretP [I 2] (ci hs1)))
 have c1p:=of_decide_eq_false c1
 refine qT 6 U ?_
 refine lp0 l (λi=>[(0,.slice dU l.length dT),(3,I (i:Int))]) ([]) (λs1 i=>(dP.L1 l (dP.K1)) s1 i) hl.1.1 hs2 ?_ ?_ ?_
 .rintro i1 ft hs4 e
  exact sr (an (nretP [I 0] (ci hs4)))
 .rintro i1 y1 rz1 hd1 cY aJ dY gy hs6 hx1 ag1 e
  have hsy:=hsm.2 y1 (gj hd1)
  refine qK 6 [] U (tO cY U (qO 9 U (aA (iR xg ty105 hl.1 aJ U U U (λ_ _ _ e=>e) (λq2 r2 A2 ok2=>dv ty105 A2 U U (aS zc105 (λb2=>aR 0 ty105 U U U U U U (qO 2 U ?_))))))))
  refine m8 [(0,.slice dU l.length dT),(3,I (i1:Int)),(58,.bool (((((decide (y1.No<0)||decide (1048576<y1.No))||(decide (0<(i1:Int))&&decide (y1.No<=(nthI l ((i1:Int)-1)).No)))||(!(fN y1.At)))||(!(fN y1.Known)))||((gz y1.Policy) != 0)))] (λe=>?_) (λhk1=>?_)
  rotate_left
  .let z1:Nat×Obj:=(b2,O (Version.cells y1 r2) 105)
   refine eh ([z1]) mixed kr jn (λdt _=>?_)
   refine qB [0] U (tf 1 U U (rj 0 ty3 U U U) (qA [2,3] U ?_))
   refine cB 21 U (λc2=>?_) (λc2=>?_)
   .have c2p:=of_decide_eq_true c2
    exact tk 4 U U (qR 5 36 U (aG kr (hk1 _ ⟨U,U,(cb (show true=(((((decide (y1.No<0)||decide (1048576<y1.No))||(decide (0<(i1:Int))&&decide (y1.No<=(nthI l ((i1:Int)-1)).No)))||(!(fN y1.At)))||(!(fN y1.Known)))||((gz y1.Policy) != 0))from by rw[c2]<;>rfl)),trivial⟩)))
   have c2p:=of_decide_eq_false c2
   refine qB [4] U (tf 5 U U (rj 0 ty3 U U U) (qR 6 3 U ?_))
   refine cB 26 U (λc3=>?_) (λc3=>?_)
   .have c3p:=of_decide_eq_true c3
    exact tk 9 U U (qR 10 31 U (aG kr (hk1 _ ⟨U,U,(cb (show true=(((((decide (y1.No<0)||decide (1048576<y1.No))||(decide (0<(i1:Int))&&decide (y1.No<=(nthI l ((i1:Int)-1)).No)))||(!(fN y1.At)))||(!(fN y1.Known)))||((gz y1.Policy) != 0))from by rw[c2,c3]<;>rfl)),trivial⟩)))
   have c3p:=of_decide_eq_false c3
   refine qR 9 3 U ?_
   refine cB 29 U (λc4=>?_) (λc4=>?_)
   .have c4p:=of_decide_eq_true c4
    refine qA [12,13] U (tf 14 U U (λ_ _ _=>oy (v':=I ((i1:Int)-1)) U (j0 ob)) ?_)
    have ho1:0<=(((i1:Int)-1):Int)/\(((i1:Int)-1):Int)<((l).length:Int):=ob
    refine j3 15 dt jn xg ty105 hl.1 ho1 (de ho1) U U U U kr (λq3 cs3 A3 ln3 rr3=>?_)
    obtain⟨r3,rfl,ok3⟩:=rr3
    refine qB [16] U (tf 17 U U (rh ty3 A3 U) (qB [18] U (tf 19 U U (rj 0 ty3 U U U) (qR 20 4 U ?_))))
    refine cB 41 U (λc5=>?_) (λc5=>?_)
    .have c5p:=of_decide_eq_true c5
     exact tk 24 U U (qR 25 16 U (aG kr (hk1 _ ⟨U,U,(cb (show true=(((((decide (y1.No<0)||decide (1048576<y1.No))||(decide (0<(i1:Int))&&decide (y1.No<=(nthI l ((i1:Int)-1)).No)))||(!(fN y1.At)))||(!(fN y1.Known)))||((gz y1.Policy) != 0))from by rw[c2,c3,c4,c5]<;>rfl)),trivial⟩)))
    have c5p:=of_decide_eq_false c5
    refine qB [24] U (tf 25 U U (rj 0 ty3 U U U) (tn 26 U (et K6 (qt h y1.At) U (⟨jn,(qR 27 3 U ?_)⟩))))
    refine cB 47 U (λc6=>?_) (λc6=>?_)
    .exact tk 30 U U (qR 31 10 U (aG kr (hk1 _ ⟨U,U,(cb (show true=(((((decide (y1.No<0)||decide (1048576<y1.No))||(decide (0<(i1:Int))&&decide (y1.No<=(nthI l ((i1:Int)-1)).No)))||(!(fN y1.At)))||(!(fN y1.Known)))||((gz y1.Policy) != 0))from by rw[c2,c3,c4,c5,c6]<;>rfl)),trivial⟩)))
    refine qB [30] U (tf 31 U U (rj 0 ty3 U U U) (tn 32 U (et K6 (qt h y1.Known) U (⟨jn,(qR 33 3 U ?_)⟩))))
    refine cB 53 U (λc7=>?_) (λc7=>?_)
    .exact tk 36 U U (qR 37 4 U (aG kr (hk1 _ ⟨U,U,(cb (show true=(((((decide (y1.No<0)||decide (1048576<y1.No))||(decide (0<(i1:Int))&&decide (y1.No<=(nthI l ((i1:Int)-1)).No)))||(!(fN y1.At)))||(!(fN y1.Known)))||((gz y1.Policy) != 0))from by rw[c2,c3,c4,c5,c6,c7]<;>rfl)),trivial⟩)))
    exact tf 36 U U (λ_ _ _=>tc KB U) (tf 37 U U (λ_ _ hj=>i7 ty64 U (hj.nth (i:=0) U) U) (tn 38 U (et call158 (xy _ _ _ ok2.Policy ob) U (⟨jn,(qA [39,40] U (aG kr (hk1 _ ⟨U,U,(cb (show((gz y1.Policy) != 0)=(((((decide (y1.No<0)||decide (1048576<y1.No))||(decide (0<(i1:Int))&&decide (y1.No<=(nthI l ((i1:Int)-1)).No)))||(!(fN y1.At)))||(!(fN y1.Known)))||((gz y1.Policy) != 0))from by rw[c2,c3,c4,c5,c6,c7]<;>rfl)),trivial⟩)))⟩))))
   have c4p:=of_decide_eq_false c4
   refine qD 12 13 U (tf 25 U U (rj 0 ty3 U U U) (tn 26 U (et K6 (qt h y1.At) U (⟨jn,qR 27 3 U ?_⟩))))
   refine cB 47 U (λc8=>?_) (λc8=>?_)
   .exact tk 30 U U (qR 31 10 U (aG kr (hk1 _ ⟨U,U,(cb (show true=(((((decide (y1.No<0)||decide (1048576<y1.No))||(decide (0<(i1:Int))&&decide (y1.No<=(nthI l ((i1:Int)-1)).No)))||(!(fN y1.At)))||(!(fN y1.Known)))||((gz y1.Policy) != 0))from by rw[c2,c3,c4,c8]<;>rfl)),trivial⟩)))
   refine qB [30] U (tf 31 U U (rj 0 ty3 U U U) (tn 32 U (et K6 (qt h y1.Known) U (⟨jn,(qR 33 3 U ?_)⟩))))
   refine cB 53 U (λc9=>?_) (λc9=>?_)
   .exact tk 36 U U (qR 37 4 U (aG kr (hk1 _ ⟨U,U,(cb (show true=(((((decide (y1.No<0)||decide (1048576<y1.No))||(decide (0<(i1:Int))&&decide (y1.No<=(nthI l ((i1:Int)-1)).No)))||(!(fN y1.At)))||(!(fN y1.Known)))||((gz y1.Policy) != 0))from by rw[c2,c3,c4,c8,c9]<;>rfl)),trivial⟩)))
   exact tf 36 U U (λ_ _ _=>tc KB U) (tf 37 U U (λ_ _ hj=>i7 ty64 U (hj.nth (i:=0) U) U) (tn 38 U (et call158 (xy _ _ _ ok2.Policy ob) U (⟨jn,(qA [39,40] U (aG kr (hk1 _ ⟨U,U,(cb (show((gz y1.Policy) != 0)=(((((decide (y1.No<0)||decide (1048576<y1.No))||(decide (0<(i1:Int))&&decide (y1.No<=(nthI l ((i1:Int)-1)).No)))||(!(fN y1.At)))||(!(fN y1.Known)))||((gz y1.Policy) != 0))from by rw[c2,c3,c4,c8,c9]<;>rfl)),trivial⟩)))⟩))))
  refine ae hs6 U (λc10 hs7=>?_) (λc10 hs8=>?_)
  .exact sr (an (nretP [I 200] (ci hs7)))
  exact aH (qT 3 U (oi i1 U (an (ba (L':=[]) js (ag1 hs8)))))
 rintro i1 hd1 fL hx e
 exact qK 6 [] U (fO fL U (qO 3 U (hx _ rd)))
theorem Gu(h:HF)(t:Int)  : Ret prog 223 [I t] h (.bool (qf t)):=by
 refine sT func223 U ntmps223 U λX hM hX hF=>?_
 have hs0:=@rfl _ (qf t)
 refine qT 9 U (aU 3 [5,6,7,8] 5 8 (decide (t<1099511627776)) U (λc1 hk1=>?_) (λe=>?_))
 .exact av (qO 2 U (hk1 _ U))
 exact an (nretP [.bool (decide (0<=t)&&decide (t<1099511627776))] (cs hs0))
theorem uE(h:HF)(l:List Int)(dU:Option Addr)(dT:Nat)(limit:Int)(hl:SlC kB h dU dT l):Ret prog 251 [.slice dU l.length dT,I limit] h (.bool (eS l limit)):=by
 refine sT func251 U ntmps251 U λX hM hX hF=>?_
 have hs0:=@rfl _ (eS l limit)
 refine qT 9 U ?_
 refine lp0 l (λi=>[(0,.slice dU l.length dT),(1,I limit),(5,I (i:Int))]) ([]) (λs1 i=>(eS.L1 l limit (eS.K1 l)) s1 i) hl.1.1 hs0 ?_ ?_ ?_
 .rintro i1 ft hs1 e
  exact qK 7 [] U (nretP [.bool (decide ((l.length:Int)<=16))] (cs hs1))
 .rintro i1 y1 rz1 hd1 cY aJ dY gy hs3 hx1 ag1 e
  refine qK 6 [] U (tO cY U (qO 6 U ?_))
  refine m8 [(0,.slice dU l.length dT),(1,I limit),(5,I (i1:Int)),(40,.bool ((decide (y1<0)||decide (limit<=y1))||(decide (0<(i1:Int))&&decide (y1<=(nthI l ((i1:Int)-1))))))] (λe=>?_) (λhk1=>?_)
  rotate_left
  .refine eh ([]) mixed kr jn (λdt _=>?_)
   refine qA [0,1] U (cU 2 (enc:=λy=>[I y]) dt jn ei dy ty3 hl.1 (nthZ aJ) (dq aJ) U U U U kr (λq3 A3=>tf 3 U U (rh ty3 A3 U) (qA [4,5] U ?_)))
   refine cB 17 U (λc1=>?_) (λc1=>?_)
   .have c1p:=of_decide_eq_true c1
    exact tk 6 U U (qR 7 22 U (aG kr (hk1 _ ⟨U,U,U,(cb (show true=((decide (y1<0)||decide (limit<=y1))||(decide (0<(i1:Int))&&decide (y1<=(nthI l ((i1:Int)-1)))))from by rw[c1]<;>rfl)),trivial⟩)))
   have c1p:=of_decide_eq_false c1
   refine qA [6,7] U (cU 8 (enc:=λy=>[I y]) dt jn ei dy ty3 hl.1 (nthZ aJ) (dq aJ) U U U U kr (λq4 A4=>tf 9 U U (rh ty3 A4 U) (qR 10 4 U ?_)))
   refine cB 25 U (λc2=>?_) (λc2=>?_)
   .have c2p:=of_decide_eq_true c2
    exact tk 14 U U (qR 15 14 U (aG kr (hk1 _ ⟨U,U,U,(cb (show true=((decide (y1<0)||decide (limit<=y1))||(decide (0<(i1:Int))&&decide (y1<=(nthI l ((i1:Int)-1)))))from by rw[c1,c2]<;>rfl)),trivial⟩)))
   have c2p:=of_decide_eq_false c2
   refine qR 14 3 U ?_
   refine cB 28 U (λc3=>?_) (λc3=>?_)
   .have c3p:=of_decide_eq_true c3
    refine qA [17,18] U (cU 19 (enc:=λy=>[I y]) dt jn ei dy ty3 hl.1 (nthZ aJ) (dq aJ) U U U U kr (λq5 A5=>tf 20 U U (rh ty3 A5 U) (qA [21,22] U (tf 23 U U (λ_ _ _=>oy (v':=I ((i1:Int)-1)) U (j0 ob)) ?_))))
    have ho1:0<=(((i1:Int)-1):Int)/\(((i1:Int)-1):Int)<((l).length:Int):=ob
    exact cU 24 (enc:=λy=>[I y]) dt jn ei dy ty3 hl.1 ho1 (de ho1) U U U U kr (λq6 A6=>tf 25 U U (rh ty3 A6 U) (qR 26 3 U (aG kr (hk1 _ ⟨U,U,U,(cb (show decide (y1<=(nthI l ((i1:Int)-1)))=((decide (y1<0)||decide (limit<=y1))||(decide (0<(i1:Int))&&decide (y1<=(nthI l ((i1:Int)-1)))))from by rw[c1,c2,c3]<;>rfl)),trivial⟩))))
   have c3p:=of_decide_eq_false c3
   exact tk 17 U U (qR 18 11 U (aG kr (hk1 _ ⟨U,U,U,(cb (show false=((decide (y1<0)||decide (limit<=y1))||(decide (0<(i1:Int))&&decide (y1<=(nthI l ((i1:Int)-1)))))from by rw[c1,c2,c3]<;>rfl)),trivial⟩)))
  refine ae hs3 U (λc4 hs4=>?_) (λc4 hs5=>?_)
  .exact sr (an (nretP [.bool false] (cs hs4)))
  exact aH (qT 3 U (oi i1 U (an (ag1 hs5))))
 rintro i1 hd1 fL hx e
 exact qK 6 [] U (fO fL U (qO 3 U (hx _ rd)))
theorem E1(h:HF)(d:Document)(CR:jZ)(hd:SG h d CR):Ret prog 159 [.agg (Document.cells d CR).toArray] h (.bool (jf d)):=by
 refine sT func159 U ntmps159 U λX hM hX hF=>?_
 have hs0:=@rfl _ (jf d)
 refine sr (bS (λb1=>qL 9 [0] U (bL 4 [6,7,8,9,10] 6 10 (decide (4096<=d.No)) U (λc1 hk1=>?_) (λe=>?_))))
 .exact qL 4 [0] U (hk1 _ U)
 refine av (bL 5 [11,12,13,14,15,16] 11 16 (!(qf d.At)) U (λc2 hk2=>?_) (λe=>?_))
 .exact qL 2 [0] U (ai call223 (Gu h d.At) U (qO 2 U (hk2 _ U)))
 refine av (bL 4 [17,18,19,20,21] 17 21 (decide (d.Kind<0)) U (λc3 hk3=>?_) (λe=>?_))
 .exact qL 4 [0] U (hk3 _ U)
 refine av (bL 4 [22,23,24,25,26] 22 26 (decide (16<=d.Kind)) U (λc4 hk4=>?_) (λe=>?_))
 .exact qL 4 [0] U (hk4 _ U)
 refine av (bL 4 [27,28,29,30,31] 27 31 (decide (d.Value<0)) U (λc5 hk5=>?_) (λe=>?_))
 .exact qL 4 [0] U (hk5 _ U)
 refine av (bL 4 [32,33,34,35,36] 32 36 (decide (1099511627776<d.Value)) U (λc6 hk6=>?_) (λe=>?_))
 .exact qL 4 [0] U (hk6 _ U)
 refine aI (ae hs0 U (λc7 hs1=>?_) (λc7 hs2=>?_))
 .exact sr (an (nretP [.bool false] (cs hs1)))
 refine qK 7 [0] U (aU 6 [40,41,42,43,44,45,46] 40 46 (decide (d.From<d.Until)) U (λc8 hk7=>?_) (λe=>?_))
 .exact qL 6 [0,0] U (hk7 _ U)
 refine av (aU 4 [47,48,49,50,51] 47 51 (decide (d.Until<=1099511627776)) U (λc9 hk8=>?_) (λe=>?_))
 .exact qL 4 [0] U (hk8 _ U)
 refine av (aU 4 [52,53,54,55,56] 52 56 (eS d.Parties 1048577) U (λc10 hk9=>?_) (λe=>?_))
 .exact qL 2 [0] U (ai call251 (uE _ _ _ _ 1048577 hd.Parties) U (eE U (hk9 _ U)))
 refine av (aU 6 [57,58,59,60,61,62,63] 57 63 (eS d.Revokes d.No) U (λc11 hk10=>?_) (λe=>?_))
 .exact qL 4 [0,0] U (ai call251 (uE _ _ _ _ d.No hd.Revokes) U (eE U (hk10 _ U)))
 refine av (aU 6 [64,65,66,67,68,69,70] 64 70 (eS d.Needs d.No) U (λc12 hk11=>?_) (λe=>?_))
 .exact qL 4 [0,0] U (ai call251 (uE _ _ _ _ d.No hd.Needs) U (eE U (hk11 _ U)))
 exact an (nretP [.bool (((((decide (0<=d.From)&&decide (d.From<d.Until))&&decide (d.Until<=1099511627776))&&(eS d.Parties 1048577))&&(eS d.Revokes d.No))&&(eS d.Needs d.No))] (cs hs2))
theorem Gv(h:HF)(l:List Document)(dU:Option Addr)(dT:Nat)(no:Int)(hl:SlC kV h dU dT l):Ret prog 231 [.slice dU l.length dT,I no] h (I (gR l no)):=by
 refine sT func231 U ntmps231 U λX hM hX hF=>?_
 have hs0:=@rfl _ (gR l no)
 refine qT 9 U ?_
 refine lp0 l (λi=>[(0,.slice dU l.length dT),(1,I no),(5,I (i:Int))]) ([]) (λs1 i=>(gR.L1 no (gR.K1)) s1 i) hl.1.1 hs0 ?_ ?_ ?_
 .rintro i1 ft hs1 e
  exact sr (an (nretP [I (-1)] (ci hs1)))
 .rintro i1 y1 rz1 hd1 cY aJ dY gy hs3 hx1 ag1 e
  refine qK 6 [] U (tO cY U (qO 9 U (aA (iR sf ty51 hl.1 aJ U U U (λ_ _ _ e=>e) (λq2 r2 A2 ok2=>qL 1 [] U (dD ty3 A2 U (qO 3 U (ae hs3 U (λc2 hs4=>?_) (λc2 hs5=>?_)))))))))
  .exact sr (qO 3 U (nretP [I (i1:Int)] (ci hs4)))
  exact aH (qT 3 U (oi i1 U (an (ag1 hs5))))
 rintro i1 hd1 fL hx e
 exact qK 6 [] U (fO fL U (qO 3 U (hx _ rd)))
theorem pu(h:HF)(l:List Document)(dU:Option Addr)(dT:Nat)(nos:List Int)(O8:Option Addr)(O7:Nat)(hl:SlC kV h dU dT l)(hnos:SlC kB h O8 O7 nos):Ret prog 160 [.slice dU l.length dT,.slice O8 nos.length O7] h (.bool (dA l nos)):=by
 refine sT func160 U ntmps160 U λX hM hX hF=>?_
 have hs0:=@rfl _ (dA l nos)
 refine qT 9 U ?_
 refine lp0 nos (λi=>[(0,.slice dU l.length dT),(1,.slice O8 nos.length O7),(5,I (i:Int))]) ([]) (λs1 i=>(dA.L1 l (dA.K1)) s1) hnos.1.1 hs0 ?_ ?_ ?_
 .rintro i1 ft hs1 e
  exact sr (an (nretP [.bool true] (cs hs1)))
 .rintro i1 y1 rz1 hd1 cY aJ dY gy hs3 hx1 ag1 e
  refine qK 6 [] U (tO cY U (qO 10 U (aA (iF (λy=>[I y]) dy ty3 hnos.1 aJ U U U (λq2 A2=>dD ty3 A2 U (ai call231 (Gv _ _ _ _ y1 hl) U (qO 2 U (ae hs3 U (λc2 hs4=>?_) (λc2 hs5=>?_)))))))))
  .have c2p:=of_decide_eq_true c2
   exact sr (an (nretP [.bool false] (cs hs4)))
  have c2p:=of_decide_eq_false c2
  exact aH (qT 3 U (oi i1 U (an (ag1 hs5))))
 rintro i1 hd1 fL hx e
 exact qK 6 [] U (fO fL U (qO 3 U (hx _ rd)))
theorem E2(h:HF)(l:List Document)(dU:Option Addr)(dT:Nat)(hl:SlC kV h dU dT l):Ret prog 77 [.slice dU l.length dT] h (I (fZ l)):=by
 refine sT func77 U ntmps77 U λX hM hX hF=>?_
 have hs0:=@rfl _ (fZ l)
 refine qK 11 [] U (ae hs0 U (λc1 hs1=>?_) (λc1 hs2=>?_))
 .have c1p:=of_decide_eq_true c1
  exact sr (an (nretP [I 2] (ci hs1)))
 have c1p:=of_decide_eq_false c1
 refine qT 6 U ?_
 refine lp0 l (λi=>[(0,.slice dU l.length dT),(3,I (i:Int))]) ([]) (λs1 i=>(fZ.L1 l (fZ.K1)) s1 i) hl.1.1 hs2 ?_ ?_ ?_
 .rintro i1 ft hs4 e
  exact sr (an (nretP [I 0] (ci hs4)))
 .rintro i1 y1 rz1 hd1 cY aJ dY gy hs6 hx1 ag1 e
  refine qK 6 [] U (tO cY U (qO 6 U ?_))
  refine m8 [(0,.slice dU l.length dT),(3,I (i1:Int)),(56,.bool ((((!(jf y1))||(decide (0<(i1:Int))&&decide (y1.No<=(nthI l ((i1:Int)-1)).No)))||(!(dA l y1.Revokes)))||(!(dA l y1.Needs))))] (λe=>?_) (λhk1=>?_)
  rotate_left
  .refine eh ([]) mixed kr jn (λdt _=>?_)
   refine qA [0,1] U (j3 2 dt jn sf ty51 hl.1 (nthZ aJ) (dq aJ) U U U U kr (λq4 cs4 A4 ln4 rr4=>?_))
   obtain⟨r4,rfl,ok4⟩:=rr4
   refine tf 3 U U (λ_ _ hj=>iP ty51 (A4.mono hj.1) U U) (tn 4 U (et call159 (E1 _ _ _ ok4) U (⟨jn,qA [5,6] U ?_⟩)))
   refine cB 19 U (λc2=>?_) (λc2=>?_)
   .exact tk 7 U U (qR 8 36 U (aG kr (hk1 _ ⟨U,U,(cb (show true=((((!(jf y1))||(decide (0<(i1:Int))&&decide (y1.No<=(nthI l ((i1:Int)-1)).No)))||(!(dA l y1.Revokes)))||(!(dA l y1.Needs)))from by rw[c2]<;>rfl)),trivial⟩)))
   refine qR 7 3 U ?_
   refine cB 22 U (λc3=>?_) (λc3=>?_)
   .have c3p:=of_decide_eq_true c3
    refine qA [10,11] U (j3 12 dt jn sf ty51 hl.1 (nthZ aJ) (dq aJ) U U U U kr (λq5 cs5 A5 ln5 rr5=>?_))
    obtain⟨r5,rfl,ok5⟩:=rr5
    refine qB [13] U (tf 14 U U (rh ty3 A5 U) (qA [15,16] U (tf 17 U U (λ_ _ _=>oy (v':=I ((i1:Int)-1)) U (j0 ob)) ?_)))
    have ho2:0<=(((i1:Int)-1):Int)/\(((i1:Int)-1):Int)<((l).length:Int):=ob
    refine j3 18 dt jn sf ty51 hl.1 ho2 (de ho2) U U U U kr (λq6 cs6 A6 ln6 rr6=>?_)
    obtain⟨r6,rfl,ok6⟩:=rr6
    refine qB [19] U (tf 20 U U (rh ty3 A6 U) (qR 21 4 U ?_))
    refine cB 37 U (λc4=>?_) (λc4=>?_)
    .have c4p:=of_decide_eq_true c4
     exact tk 25 U U (qR 26 18 U (aG kr (hk1 _ ⟨U,U,(cb (show true=((((!(jf y1))||(decide (0<(i1:Int))&&decide (y1.No<=(nthI l ((i1:Int)-1)).No)))||(!(dA l y1.Revokes)))||(!(dA l y1.Needs)))from by rw[c2,c3,c4]<;>rfl)),trivial⟩)))
    have c4p:=of_decide_eq_false c4
    refine qR 25 3 U (j3 28 dt jn sf ty51 hl.1 (nthZ aJ) (dq aJ) U U U U kr (λq7 cs7 A7 ln7 rr7=>?_))
    obtain⟨r7,rfl,ok7⟩:=rr7
    refine qB [29] U (tf 30 U U (rH 7 ty31 A7 U U) (tn 31 U (et K5 (pu _ _ _ _ _ _ _ hl ok7.Revokes) U (⟨jn,(qR 32 3 U ?_)⟩))))
    refine cB 47 U (λc5=>?_) (λc5=>?_)
    .exact tk 35 U U (qR 36 8 U (aG kr (hk1 _ ⟨U,U,(cb (show true=((((!(jf y1))||(decide (0<(i1:Int))&&decide (y1.No<=(nthI l ((i1:Int)-1)).No)))||(!(dA l y1.Revokes)))||(!(dA l y1.Needs)))from by rw[c2,c3,c4,c5]<;>rfl)),trivial⟩)))
    refine qR 35 3 U (j3 38 dt jn sf ty51 hl.1 (nthZ aJ) (dq aJ) U U U U kr (λq8 cs8 A8 ln8 rr8=>?_))
    obtain⟨r8,rfl,ok8⟩:=rr8
    exact tf 39 U U (λ_ _ _=>tc Iq_ U) (tf 40 U U (rH 8 ty31 A8 U U) (tn 41 U (et K5 (pu _ _ _ _ _ _ _ hl ok8.Needs) U (⟨jn,(qA [42,43] U (aG kr (hk1 _ ⟨U,U,(cb (show(!(dA l y1.Needs))=((((!(jf y1))||(decide (0<(i1:Int))&&decide (y1.No<=(nthI l ((i1:Int)-1)).No)))||(!(dA l y1.Revokes)))||(!(dA l y1.Needs)))from by rw[c2,c3,c4,c5]<;>rfl)),trivial⟩)))⟩))))
   have c3p:=of_decide_eq_false c3
   refine qR 10 18 U (j3 28 dt jn sf ty51 hl.1 (nthZ aJ) (dq aJ) U U U U kr (λq9 cs9 A9 ln9 rr9=>?_))
   obtain⟨r9,rfl,ok9⟩:=rr9
   refine qB [29] U (tf 30 U U (rH 7 ty31 A9 U U) (tn 31 U (et K5 (pu _ _ _ _ _ _ _ hl ok9.Revokes) U (⟨jn,(qR 32 3 U ?_)⟩))))
   refine cB 47 U (λc6=>?_) (λc6=>?_)
   .exact tk 35 U U (qR 36 8 U (aG kr (hk1 _ ⟨U,U,(cb (show true=((((!(jf y1))||(decide (0<(i1:Int))&&decide (y1.No<=(nthI l ((i1:Int)-1)).No)))||(!(dA l y1.Revokes)))||(!(dA l y1.Needs)))from by rw[c2,c3,c6]<;>rfl)),trivial⟩)))
   refine qR 35 3 U (j3 38 dt jn sf ty51 hl.1 (nthZ aJ) (dq aJ) U U U U kr (λq10 cs10 A10 ln10 rr10=>?_))
   obtain⟨r10,rfl,ok10⟩:=rr10
   exact tf 39 U U (λ_ _ _=>tc Iq_ U) (tf 40 U U (rH 8 ty31 A10 U U) (tn 41 U (et K5 (pu _ _ _ _ _ _ _ hl ok10.Needs) U (⟨jn,(qA [42,43] U (aG kr (hk1 _ ⟨U,U,(cb (show(!(dA l y1.Needs))=((((!(jf y1))||(decide (0<(i1:Int))&&decide (y1.No<=(nthI l ((i1:Int)-1)).No)))||(!(dA l y1.Revokes)))||(!(dA l y1.Needs)))from by rw[c2,c3,c6]<;>rfl)),trivial⟩)))⟩))))
  refine ae hs6 U (λc7 hs7=>?_) (λc7 hs8=>?_)
  .exact sr (an (nretP [I 170] (ci hs7)))
  exact aH (qT 3 U (oi i1 U (an (ag1 hs8))))
 rintro i1 hd1 fL hx e
 exact qK 6 [] U (fO fL U (qO 3 U (hx _ rd)))
theorem mm(h:HF)(eW:Int)(most:Int)  : Ret prog 252 [I eW,I most] h (.bool (fT eW most)):=by
 refine sT func252 U ntmps252 U λX hM hX hF=>?_
 have hs0:=@rfl _ (fT eW most)
 refine qT 9 U (aU 4 [7,8,9,10,11] 7 11 (decide (eW<=most)) U (λc1 hk1=>?_) (λe=>?_))
 .exact av (qO 3 U (hk1 _ U))
 exact an (nretP [.bool (decide (0<=eW)&&decide (eW<=most))] (cs hs0))
theorem lT(h:HF)(eW:Int)  : Ret prog 253 [I eW] h (.bool (fM eW)):=by
 refine sT func253 U ntmps253 U λX hM hX hF=>?_
 have hs0:=@rfl _ (fM eW)
 exact sr (qO 5 U (ai I3 (mm h eW 1099511627775) U (an (nretP [.bool (fT eW 1099511627775)] (cs hs0)))))
theorem vO(h:HF)(eW:Int)  : Ret prog 254 [I eW] h (.bool (ny eW)):=by
 refine sT func254 U ntmps254 U λX hM hX hF=>?_
 have hs0:=@rfl _ (ny eW)
 exact sr (qO 5 U (ai I3 (mm h eW 4095) U (an (nretP [.bool (fT eW 4095)] (cs hs0)))))
theorem ET(h:HF)(x:Approval)  : Ret prog 161 [.agg (zC x).toArray] h (.bool (kl x)):=by
 refine sT func161 U ntmps161 U λX hM hX hF=>?_
 have hs0:=@rfl _ (kl x)
 refine sr (bS (λb1=>qL 7 [0] U (ai I3 (mm h x.No 1048576) U (qO 2 U (bL 5 [7,8,9,10,11,12] 7 12 (!(fM x.At)) U (λc1 hk1=>?_) (λe=>?_))))))
 .exact qL 2 [0] U (ai Ek (lT h x.At) U (qO 2 U (hk1 _ U)))
 refine av (bL 5 [13,14,15,16,17,18] 13 18 (!(fM x.Known)) U (λc2 hk2=>?_) (λe=>?_))
 .exact qL 2 [0] U (ai Ek (lT h x.Known) U (qO 2 U (hk2 _ U)))
 refine av (bL 5 [19,20,21,22,23,24] 19 24 (!(ny x.Doc)) U (λc3 hk3=>?_) (λe=>?_))
 .exact qL 2 [0] U (ai call254 (vO h x.Doc) U (qO 2 U (hk3 _ U)))
 refine aI (ae hs0 U (λc4 hs1=>?_) (λc4 hs2=>?_))
 .exact sr (an (nretP [.bool false] (cs hs1)))
 refine qK 5 [0] U (ai I3 (mm h x.By 63) U (av (aU 4 [28,29,30,31,32] 28 32 (fT x.For 63) U (λc5 hk4=>?_) (λe=>?_))))
 .exact qL 2 [0] U (ai I3 (mm h x.For 63) U (eE U (hk4 _ U)))
 refine av (aU 4 [33,34,35,36,37] 33 37 (fT x.Office 31) U (λc6 hk5=>?_) (λe=>?_))
 .exact qL 2 [0] U (ai I3 (mm h x.Office 31) U (eE U (hk5 _ U)))
 exact an (nretP [.bool (((fT x.By 63)&&(fT x.For 63))&&(fT x.Office 31))] (cs hs2))
theorem s7(h:HF)(l:List Approval)(dU:Option Addr)(dT:Nat)(hl:SlC qJ h dU dT l):Ret prog 78 [.slice dU l.length dT] h (I (ff l)):=by
 refine sT func78 U ntmps78 U λX hM hX hF=>?_
 have hs0:=@rfl _ (ff l)
 refine qK 11 [] U (ae hs0 U (λc1 hs1=>?_) (λc1 hs2=>?_))
 .have c1p:=of_decide_eq_true c1
  exact sr (an (nretP [I 2] (ci hs1)))
 have c1p:=of_decide_eq_false c1
 refine qT 6 U ?_
 refine lp0 l (λi=>[(0,.slice dU l.length dT),(3,I (i:Int))]) ([]) (λs1 i=>(ff.L1 l (ff.K1)) s1 i) hl.1.1 hs2 ?_ ?_ ?_
 .rintro i1 ft hs4 e
  exact sr (an (nretP [I 0] (ci hs4)))
 .rintro i1 y1 rz1 hd1 cY aJ dY gy hs6 hx1 ag1 e
  refine qK 6 [] U (tO cY U (qO 6 U ?_))
  refine m8 [(0,.slice dU l.length dT),(3,I (i1:Int)),(36,.bool ((!(kl y1))||(decide (0<(i1:Int))&&decide (y1.No<=(nthI l ((i1:Int)-1)).No))))] (λe=>?_) (λhk1=>?_)
  rotate_left
  .refine eh ([]) mixed kr jn (λdt _=>?_)
   refine qA [0,1] U (cU 2 (enc:=zC) dt jn ei oD ty81 hl.1 (nthZ aJ) (dq aJ) U U U U kr (λq4 A4=>tf 3 U U (λ_ _ hj=>iP ty81 (A4.mono hj.1) U U) (tn 4 U (et call161 (ET h y1) U (⟨jn,qA [5,6] U ?_⟩)))))
   refine cB 19 U (λc2=>?_) (λc2=>?_)
   .exact tk 7 U U (qR 8 16 U (aG kr (hk1 _ ⟨U,U,(cb (show true=((!(kl y1))||(decide (0<(i1:Int))&&decide (y1.No<=(nthI l ((i1:Int)-1)).No)))from by rw[c2]<;>rfl)),trivial⟩)))
   refine qR 7 3 U ?_
   refine cB 22 U (λc3=>?_) (λc3=>?_)
   .have c3p:=of_decide_eq_true c3
    refine qA [10,11] U (tf 12 U U (λ_ _ _=>oy (v':=I ((i1:Int)-1)) U (j0 ob)) ?_)
    have ho2:0<=(((i1:Int)-1):Int)/\(((i1:Int)-1):Int)<((l).length:Int):=ob
    exact cU 13 (enc:=zC) dt jn ei oD ty81 hl.1 ho2 (de ho2) U U U U kr (λq5 A5=>qB [14] U (tf 15 U U (rh ty3 A5 U) (qA [16,17] U (cU 18 (enc:=zC) dt jn ei oD ty81 hl.1 (nthZ aJ) (dq aJ) U U U U kr (λq6 A6=>qB [19] U (tf 20 U U (rh ty3 A6 U) (qR 21 3 U (aG kr (hk1 _ ⟨U,U,(cb (show decide (y1.No<=(nthI l ((i1:Int)-1)).No)=((!(kl y1))||(decide (0<(i1:Int))&&decide (y1.No<=(nthI l ((i1:Int)-1)).No)))from by rw[c2,c3]<;>rfl)),trivial⟩)))))))))
   have c3p:=of_decide_eq_false c3
   exact tk 10 U U (qR 11 13 U (aG kr (hk1 _ ⟨U,U,(cb (show false=((!(kl y1))||(decide (0<(i1:Int))&&decide (y1.No<=(nthI l ((i1:Int)-1)).No)))from by rw[c2,c3]<;>rfl)),trivial⟩)))
  refine ae hs6 U (λc4 hs7=>?_) (λc4 hs8=>?_)
  .exact sr (an (nretP [I 280] (ci hs7)))
  exact aH (qT 3 U (oi i1 U (an (ag1 hs8))))
 rintro i1 hd1 fL hx e
 exact qK 6 [] U (fO fL U (qO 3 U (hx _ rd)))
theorem EP(h:HF)(cv:Register)(fF:fq)(jw:xV h cv fF)(hsm:smR cv):Ret prog 14 [.agg (vK cv fF).toArray] h (I (kj cv)):=by
 refine sT func14 U ntmps14 U λX hM hX hF=>?_
 have hs0:=@rfl _ (kj cv)
 have hsv:=hsm.vers
 refine sr (bS (λb1=>qL 7 [0] U (ai call72 (xI _ _ _ _ jw.Appoints) U (qO 2 U (bL 5 [7,8,9,10,11,12] 7 12 ((gB cv.Deputies) != 0) U (λc1 hk1=>?_) (λe=>?_))))))
 .exact qL 2 [0] U (ai call73 (xz _ _ _ _ jw.Deputies) U (qO 2 U (hk1 _ U)))
 refine av (bL 5 [13,14,15,16,17,18] 13 18 ((gg cv.Interests) != 0) U (λc2 hk2=>?_) (λe=>?_))
 .exact qL 2 [0] U (ai call74 (xr _ _ _ _ jw.Interests) U (qO 2 U (hk2 _ U)))
 refine av (bL 5 [19,20,21,22,23,24] 19 24 ((iu cv.Budgets) != 0) U (λc3 hk3=>?_) (λe=>?_))
 .exact qL 2 [0] U (ai call75 (E0 _ _ _ _ jw.Budgets) U (qO 2 U (hk3 _ U)))
 refine aI (ae hs0 U (λc4 hs1=>?_) (λc4 hs2=>?_))
 .exact sr (an (nretP [I 300] (ci hs1)))
 refine qK 6 [0] U (ai call76 (Br _ _ _ _ jw.Versions ob) U (qO 2 U (bL 5 [29,30,31,32,33,34] 29 34 ((fZ cv.Docs) != 0) U (λc5 hk4=>?_) (λe=>?_))))
 .exact qL 2 [0] U (ai call77 (E2 _ _ _ _ jw.Docs) U (qO 2 U (hk4 _ U)))
 refine av (bL 5 [35,36,37,38,39,40] 35 40 ((ff cv.Approvals) != 0) U (λc6 hk5=>?_) (λe=>?_))
 .exact qL 2 [0] U (ai call78 (s7 _ _ _ _ jw.Approvals) U (qO 2 U (hk5 _ U)))
 refine aI (ae hs2 U (λc7 hs4=>?_) (λc7 hs5=>?_))
 .exact sr (an (nretP [I 300] (ci hs4)))
 exact aH (qT 4 U (nretP [I 0] (ci hs5)))
theorem wA(h:HF)(eW:Int)  : Ret prog 82 [I eW] h (.bool (hU eW)):=by
 refine sT func82 U ntmps82 U λX hM hX hF=>?_
 have hs0:=@rfl _ (hU eW)
 refine qT 9 U (aU 3 [5,6,7,8] 5 8 (decide (eW<1099511627776)) U (λc1 hk1=>?_) (λe=>?_))
 .exact av (qO 2 U (hk1 _ U))
 exact an (nretP [.bool (decide (0<=eW)&&decide (eW<1099511627776))] (cs hs0))
theorem Cj(h:HF)(cv:Register)(fF:fq)(no:Int)(jw:xV h cv fF):Ret prog 81 [.agg (vK cv fF).toArray,I no] h (I (cT cv no)):=by
 refine sT func81 U ntmps81 U λX hM hX hF=>?_
 have hs0:=@rfl _ (cT cv no)
 refine sr (bS (λb1=>qO 7 U ?_))
 refine lp0 cv.Versions (λi=>[(1,I no),(2,Q b1),(5,I (i:Int))]) ([(b1,O (vK cv fF) 30)]) (λs1 i=>(cT.L1 no (cT.K1)) s1 i) jw.Versions.1.1 hs0 ?_ ?_ ?_
 .rintro i1 ft hs1 e
  exact sr (an (nretP [I (-1)] (ci hs1)))
 .rintro i1 y1 rz1 hd1 cY aJ dY gy hs3 hx1 ag1 e
  refine qK 7 [0] U (tO cY U (qL 10 [0] U (aA (iR xg ty105 jw.Versions.1 aJ U U U (λ_ _ _ e=>e) (λq2 r2 A2 ok2=>qL 1 [] U (dD ty3 A2 U (qO 3 U (ae hs3 U (λc2 hs4=>?_) (λc2 hs5=>?_)))))))))
  .exact sr (qO 3 U (nretP [I (i1:Int)] (ci hs4)))
  exact aH (qT 3 U (oi i1 U (an (ag1 hs5))))
 rintro i1 hd1 fL hx e
 exact qK 7 [0] U (fO fL U (qO 3 U (hx _ rd)))
theorem Ih(h:HF)(l:List Int)(dU:Option Addr)(dT:Nat)(nH:Int)(hl:SlC kB h dU dT l)(hsz0:l.length<=2000000):i9 prog 143 [.slice dU l.length dT,I nH] h (λv h'=>∃(rb0:Option Addr)(rc0:Nat),v=.slice rb0 (fR l nH).length rc0/\SlC kB h' rb0 rc0 (fR l nH)):=by
 refine sT func143 U ntmps143 U λX hM hX hF=>?_
 have hs0:=@rfl _ (fR l nH)
 refine qT 9 U ?_
 refine lp0 l (λi=>[(0,.slice dU l.length dT),(1,I nH),(5,I (i:Int))]) ([]) (λs1 i=>(fR.L1 nH (fR.K1 l nH)) s1 i) hl.1.1 hs0 ?_ ?_ ?_
 .rintro i1 ft hs1 e
  refine qK 8 [] U (aU 7 [24,25,26,27,28,29,30,31] 24 31 ((nthI l (i1:Int))==nH) U (λc2 hk1=>?_) (λe=>?_))
  .refine qO 2 U ?_
   have ho2:0<=((i1:Int):Int)/\((i1:Int):Int)<((l).length:Int):=ob
   exact aA (rO (enc:=λy=>[I y]) ei dy ty3 hl.1 ho2 (de ho2) U U U (λq3 A3=>dD ty3 A3 U (qO 3 U (hk1 _ U))))
  refine aI (ae hs1 U (λc3 hs2=>?_) (λc3 hs3=>?_))
  .refine qT 5 U ?_
   have hs4:fR l nH=l:=hs2
   exact nretH [.slice dU l.length dT] ⟨dU,dT,congrArg (λr:List Int=>(.slice dU r.length dT:Value)) hs4.symm,(by rw[hs4];exact hl)⟩
  refine qT 2 U (eh ([]) mixed kr jn (λdt _=>qA [1,2] U (Ni 3 dt jn dy ty3 hl.1 hl.2 ob U U U U kr (λsb1 sc1 sl1=>qA [5,8,9] U (Nj 10 dt jn dy ty3 hl.1 hl.2 ob U U U U kr (λsb2 sc2 sl2=>?_))))))
  refine lY 0 6 kr U U ?_ ?_ 
  .refine jI dy ty3 (λb1=>⟨jn,?_⟩)
   refine lY 4 6 kr U U ?_ ?_ 
   .refine cd SL ([]) ([]) (λG=>G) ap (λ_=>ap) dy ty3 zc3 U bytes3 (cZ.lit (show aY kB h [] ([])from U) U) U U (gl sl1.1) lo lo (λob1 oc1 G1 gr1=>⟨jn,(tn 6 U (aV (cells:=[I nH]) dy ty3 zc3 U U kr (λb2=>⟨jn,tn 7 U (cd SL ([(b2,O [I nH] 3)]) ([]) (λG=>[(b2,O [I nH] 3)]++G) ap (λ_=>ap) dy ty3 zc3 U bytes3 gr1 U U (dX 0 U (cE nH U U)) lo lo (λob2 oc2 G2 gr2=>⟨jn,(tn 11 U (cd SL ([(b2,O [I nH] 3)]) ([]) (λG=>[(b2,O [I nH] 3)]++G) ap (λ_=>ap) dy ty3 zc3 U bytes3 gr2 U U (gl sl2.1) lo lo (λob3 oc3 G3 gr3=>⟨jn,(qA [12] U (aG kr (eY xH ([(b2,O [I nH] 3)]) G3 ([]) ap hM gr3 (λh1 hle1 sl3=>?_))))⟩)))⟩))⟩)))⟩)
    have hs5:fR l nH=(((l.take (((i1:Int):Int)).toNat)++[nH])++(l.drop (((i1:Int):Int)).toNat)):=hs3
    exact nretH [.slice ob3 ((((l.take (((i1:Int):Int)).toNat)++[nH])++(l.drop (((i1:Int):Int)).toNat)).length) oc3] ⟨ob3,oc3,congrArg (λr:List Int=>(.slice ob3 r.length oc3:Value)) hs5.symm,(by rw[hs5];exact sl3)⟩
   refine aV (cells:=[I nH]) dy ty3 zc3 U U kr (λb3=>⟨jn,(tn 4 U (cd SL ([(b3,O [I nH] 3)]) ([]) (λG=>[(b3,O [I nH] 3)]++G) ap (λ_=>ap) dy ty3 zc3 U bytes3 (cZ.lit (show aY kB h [] ([])from U) U) U U (gl sl1.1) lo lo (λob4 oc4 G4 gr4=>⟨jn,(tn 7 U (cd SL ([(b3,O [I nH] 3)]) ([]) (λG=>[(b3,O [I nH] 3)]++G) ap (λ_=>ap) dy ty3 zc3 U bytes3 gr4 U U (dX 0 U (cE nH U U)) lo lo (λob5 oc5 G5 gr5=>⟨jn,(tn 11 U (cd SL ([(b3,O [I nH] 3)]) ([]) (λG=>[(b3,O [I nH] 3)]++G) ap (λ_=>ap) dy ty3 zc3 U bytes3 gr5 U U (gl sl2.1) lo lo (λob6 oc6 G6 gr6=>⟨jn,(qA [12] U (aG kr (eY xH ([(b3,O [I nH] 3)]) G6 ([]) ap hM gr6 (λh2 hle2 sl4=>?_))))⟩)))⟩)))⟩)))⟩)
   have hs6:fR l nH=(((l.take (((i1:Int):Int)).toNat)++[nH])++(l.drop (((i1:Int):Int)).toNat)):=hs3
   exact nretH [.slice ob6 ((((l.take (((i1:Int):Int)).toNat)++[nH])++(l.drop (((i1:Int):Int)).toNat)).length) oc6] ⟨ob6,oc6,congrArg (λr:List Int=>(.slice ob6 r.length oc6:Value)) hs6.symm,(by rw[hs6];exact sl4)⟩
  refine aV (cells:=[I nH]) dy ty3 zc3 U U kr (λb4=>⟨jn,(tn 0 U (jI dy ty3 (λb5=>⟨jn,(tn 4 U (cd SL ([]) ([(b4,O [I nH] 3)]) (λG=>[(b4,O [I nH] 3)]++G) ap (λ_=>ap) dy ty3 zc3 U bytes3 (cZ.lit (show aY kB h [] ([])from U) U) U U (gl sl1.1) lo lo (λob7 oc7 G7 gr7=>⟨jn,(tn 7 U (cd SL ([(b4,O [I nH] 3)]) ([]) (λG=>[(b4,O [I nH] 3)]++G) ap (λ_=>ap) dy ty3 zc3 U bytes3 gr7 U U (dX 0 U (cE nH U U)) lo lo (λob8 oc8 G8 gr8=>⟨jn,(tn 11 U (cd SL ([(b4,O [I nH] 3)]) ([]) (λG=>[(b4,O [I nH] 3)]++G) ap (λ_=>ap) dy ty3 zc3 U bytes3 gr8 U U (gl sl2.1) lo lo (λob9 oc9 G9 gr9=>⟨jn,(qA [12] U (aG kr (eY xH ([(b4,O [I nH] 3)]) G9 ([]) ap hM gr9 (λh3 hle3 sl5=>?_))))⟩)))⟩)))⟩)))⟩)))⟩)
  have hs7:fR l nH=(((l.take (((i1:Int):Int)).toNat)++[nH])++(l.drop (((i1:Int):Int)).toNat)):=hs3
  exact nretH [.slice ob9 ((((l.take (((i1:Int):Int)).toNat)++[nH])++(l.drop (((i1:Int):Int)).toNat)).length) oc9] ⟨ob9,oc9,congrArg (λr:List Int=>(.slice ob9 r.length oc9:Value)) hs7.symm,(by rw[hs7];exact sl5)⟩
 .rintro i1 y1 rz1 hd1 cY aJ dY gy hs8 hx1 ag1 e
  refine qK 6 [] U (tO cY U (qO 3 U (aA (iF (λy=>[I y]) dy ty3 hl.1 aJ U U U (λq4 A4=>dD ty3 A4 U (qO 4 U (ae hs8 U (λc4 hs9=>?_) (λc4 hs10=>?_))))))))
  .have c4p:=of_decide_eq_true c4
   exact aH (qT 3 U (oi i1 U (qO 3 U (ag1 hs9))))
  have c4p:=of_decide_eq_false c4
  exact lM U (hx1 i1 hs10)
 rintro i1 hd1 fL hx e
 exact qK 6 [] U (fO fL U (qO 11 U (hx _ rd)))
theorem wD(h:HF)(x:Approval)(eU:Int)(known:Int)  : Ret prog 344 [.agg (zC x).toArray,I eU,I known] h (.bool (iw x eU known)):=by
 refine sT func344 U ntmps344 U λX hM hX hF=>?_
 have hs0:=@rfl _ (iw x eU known)
 refine sr (bS (λb1=>qL 9 [0] U (aU 5 [11,12,13,14,15,16] 11 16 (decide (x.Known<=known)) U (λc1 hk1=>?_) (λe=>?_))))
 .exact qL 5 [0] U (hk1 _ U)
 exact an (nretP [.bool (decide (x.At<=eU)&&decide (x.Known<=known))] (cs hs0))
theorem EV(h:HF)(x:Approval)(y:Approval)  : Ret prog 345 [.agg (zC x).toArray,.agg (zC y).toArray] h (.bool (lU x y)):=by
 refine sT func345 U ntmps345 U λX hM hX hF=>?_
 have hs0:=@rfl _ (lU x y)
 refine sr (bS (λb1=>bS (λb2=>qL 10 [1,0] U (aU 6 [10,11,12,13,14,15,16] 10 16 (x.By==y.By) U (λc1 hk1=>?_) (λe=>?_)))))
 .exact qL 6 [1,0] U (hk1 _ U)
 refine av (aU 6 [17,18,19,20,21,22,23] 17 23 (x.For==y.For) U (λc2 hk2=>?_) (λe=>?_))
 .exact qL 6 [1,0] U (hk2 _ U)
 refine av (aU 6 [24,25,26,27,28,29,30] 24 30 (x.Office==y.Office) U (λc3 hk3=>?_) (λe=>?_))
 .exact qL 6 [1,0] U (hk3 _ U)
 exact an (nretP [.bool ((((x.Doc==y.Doc)&&(x.By==y.By))&&(x.For==y.For))&&(x.Office==y.Office))] (cs hs0))
theorem EU(h:HF)(x:Approval)(y:Approval)  : Ret prog 346 [.agg (zC x).toArray,.agg (zC y).toArray] h (.bool (lq x y)):=by
 refine sT func346 U ntmps346 U λX hM hX hF=>?_
 have hs0:=@rfl _ (lq x y)
 refine sr (bS (λb1=>bS (λb2=>qL 10 [1,0] U (bL 13 [10,11,12,13,14,15,16,17,18,19,20,21,22,23] 10 23 ((x.At==y.At)&&decide (y.No<x.No)) U (λc1 hk1=>?_) (λe=>?_)))))
 .refine qL 6 [1,0] U (aU 6 [16,17,18,19,20,21,22] 16 22 (decide (y.No<x.No)) U (λc2 hk2=>?_) (λe=>?_))
  .exact qL 6 [1,0] U (hk2 _ U)
  exact eE U (hk1 _ U)
 exact an (nretP [.bool (decide (y.At<x.At)||((x.At==y.At)&&decide (y.No<x.No)))] (cs hs0))
theorem DL(h:HF)(l:List Approval)(dU:Option Addr)(dT:Nat)(x:Approval)(bI:Int)(known:Int)(hl:SlC qJ h dU dT l):Ret prog 310 [.slice dU l.length dT,.agg (zC x).toArray,I bI,I known] h (.bool (fK l x bI known)):=by
 refine sT func310 U ntmps310 U λX hM hX hF=>?_
 have hs0:=@rfl _ (fK l x bI known)
 refine sr (bS (λb1=>qL 8 [0] U (bL 6 [12,13,14,15,16,17,18] 12 18 (!(iw x bI known)) U (λc1 hk1=>?_) (λe=>?_))))
 .exact cN 0 ty81 U U U (qO 2 U (ai call344 (wD h x bI known) U (qO 2 U (hk1 _ U))))
 refine aI (ae hs0 U (λc2 hs1=>?_) (λc2 hs2=>?_))
 .exact sr (an (nretP [.bool false] (cs hs1)))
 refine qT 6 U ?_
 let z1:Nat×Obj:=(b1,O (zC x) 81)
 refine lp0 l (λi=>[(0,.slice dU l.length dT),(2,I bI),(3,I known),(5,Q b1),(9,I (i:Int))]) ([z1]) (λs1 i=>(fK.L1 x bI known (fK.K1)) s1) hl.1.1 hs2 ?_ ?_ ?_
 .rintro i1 ft hs4 e
  exact sr (an (nretP [.bool true] (cs hs4)))
 .rintro i1 y1 rz1 hd1 cY aJ dY gy hs6 hx1 ag1 e
  refine qK 6 [] U (tO cY U (qO 6 U ?_))
  refine m8 [(0,.slice dU l.length dT),(2,I bI),(3,I known),(5,Q b1),(9,I (i1:Int)),(47,.bool (((iw y1 bI known)&&(lU y1 x))&&(lq y1 x)))] (λe=>?_) (λhk2=>?_)
  rotate_left
  .refine eh ([z1]) mixed kr jn (λdt _=>?_)
   refine qA [0,1] U (cU 2 (enc:=zC) dt jn ei oD ty81 hl.1 (nthZ aJ) (dq aJ) U U U U kr (λq3 A3=>tf 3 U U (λ_ _ hj=>iP ty81 (A3.mono hj.1) U U) (qA [4,5] U (tn 6 U (et call344 (wD h y1 bI known) U (⟨jn,tm 7 U ?_⟩))))))
   refine cB 32 U (λc3=>?_) (λc3=>?_)
   .refine qA [8,9] U (cU 10 (enc:=zC) dt jn ei oD ty81 hl.1 (nthZ aJ) (dq aJ) U U U U kr (λq4 A4=>tf 11 U U (λ_ _ hj=>iP ty81 (A4.mono hj.1) U U) (tf 12 U U (λ_ _ hj=>i7 ty81 U (hj.nth (i:=0) U) U) (tn 13 U (et call345 (EV h y1 x) U (⟨jn,(qA [14,15] U ?_)⟩))))))
    refine cB 40 U (λc4=>?_) (λc4=>?_)
    .exact tm 16 U (tm 17 U (cU 18 (enc:=zC) dt jn ei oD ty81 hl.1 (nthZ aJ) (dq aJ) U U U U kr (λq5 A5=>tf 19 U U (λ_ _ hj=>iP ty81 (A5.mono hj.1) U U) (tf 20 U U (λ_ _ hj=>i7 ty81 U (hj.nth (i:=0) U) U) (tn 21 U (et call346 (EU h y1 x) U (⟨jn,(qA [22] U (aG kr (hk2 _ ⟨U,U,U,U,U,(cb (show(lq y1 x)=(((iw y1 bI known)&&(lU y1 x))&&(lq y1 x))from by rw[c3,c4]<;>rfl)),trivial⟩)))⟩)))))))
    exact tk 16 U U (qR 17 6 U (aG kr (hk2 _ ⟨U,U,U,U,U,(cb (show false=(((iw y1 bI known)&&(lU y1 x))&&(lq y1 x))from by rw[c3,c4]<;>rfl)),trivial⟩)))
   exact tk 8 U U (qR 9 14 U (aG kr (hk2 _ ⟨U,U,U,U,U,(cb (show false=(((iw y1 bI known)&&(lU y1 x))&&(lq y1 x))from by rw[c3]<;>rfl)),trivial⟩)))
  refine ae hs6 U (λc5 hs7=>?_) (λc5 hs8=>?_)
  .exact sr (an (nretP [.bool false] (cs hs7)))
  exact aH (qT 3 U (oi i1 U (an (ag1 hs8))))
 rintro i1 hd1 fL hx e
 exact qK 6 [] U (fO fL U (qO 3 U (hx _ rd)))
theorem Bo(h:HF)(l:List Approval)(dU:Option Addr)(dT:Nat)(doc:Int)(bI:Int)(known:Int)(hl:SlC qJ h dU dT l)(hsz0:l.length<=2000000):i9 prog 257 [.slice dU l.length dT,I doc,I bI,I known] h (λv h'=>∃(rb0:Option Addr)(rc0:Nat),v=.tuple #[.slice rb0 ((dz l doc bI known).1).length rc0,I ((dz l doc bI known).2)]/\SlC qJ h' rb0 rc0 ((dz l doc bI known).1)):=by
 refine sT func257 U ntmps257 U λX hM hX hF=>?_
 have hs0:=@rfl _ (dz l doc bI known)
 refine qT 8 U (ai call78 (s7 _ _ _ _ hl) U (qO 8 U (ae hs0 U (λc1 hs1=>?_) (λc1 hs2=>?_))))
 .refine qT 6 U ?_
  have hs3:dz l doc bI known=([],(ff l)):=hs1
  exact nretH [.slice none 0 0,I (ff l)] (hs3▸⟨none,0,U,vE⟩)
 refine qT 5 U (ai call254 (vO h doc) U (qO 2 U (bL 4 [21,22,23,24,25] 21 25 (!(fM bI)) U (λc2 hk1=>?_) (λe=>?_))))
 .exact av (ai Ek (lT h bI) U (qO 2 U (hk1 _ U)))
 refine av (bL 4 [26,27,28,29,30] 26 30 (!(fM known)) U (λc3 hk2=>?_) (λe=>?_))
 .exact av (ai Ek (lT h known) U (qO 2 U (hk2 _ U)))
 refine aI (ae hs2 U (λc4 hs4=>?_) (λc4 hs5=>?_))
 .refine qT 5 U ?_
  have hs6:dz l doc bI known=([],1):=hs4
  exact nretH [.slice none 0 0,I 1] (hs6▸⟨none,0,U,vE⟩)
 refine qT 3 U (aA (jI oD ty81 (λb1=>qO 7 U ?_)))
 obtain⟨G1,gr1,ge1⟩:∃G:LH,cZ qJ 81 h ([]) (some ⟨b1,0,none⟩) 0 G/\[(b1,O [] 81)]=G:=⟨_,cZ.lit (show aY qJ h [] ([])from rfl) rfl,rfl⟩
 refine bW (L':=([])++([(b1,O [] 81)]++([]))) ap ?_
 rw[ge1]
 refine lL (List.Perm.append_left _ kH) (bW (L':=G1) ap ?_)
 refine lp2 l (λi w=>[(0,.slice dU l.length dT),(1,I doc),(2,I bI),(3,I known),(11,.slice w.2.1 w.1.length w.2.2.1),(12,I (i:Int))]) (λ_=>h) (λw=>w.2.2.2) (λi w=>cZ qJ 81 h w.1 w.2.1 w.2.2.1 w.2.2.2/\w.1.length<=0+i) (λs1 i w=>(dz.L1 l doc bI known (dz.K1)) s1 w.1) ([],(some ⟨b1,0,none⟩),0,G1) hl.1.1 hs5 ⟨gr1,lo⟩ ?_ ?_ ?_
 .rintro i1 ⟨gY,rV,rU,IN⟩ ft hs7 ⟨qo,AG⟩ e
  try dsimp only at qo AG
  refine qT 6 U (eY zH ([]) IN ([]) ap hM qo (λh1 hle1 sl1=>?_))
  have hs8:dz l doc bI known=(gY,0):=hs7
  exact nretH [.slice rV gY.length rU,I 0] (hs8▸⟨rV,rU,U,sl1⟩)
 .rintro i1 ⟨gY,rV,rU,IN⟩ y1 rz1 hd1 cY aJ dY gy hs9 ⟨qo,AG⟩ hx1 ag1 e
  try dsimp only at qo AG
  refine qK 6 [] U (tO cY U (qO 9 U (aA (iF zC oD ty81 hl.1 aJ U U U (λq3 A3=>qL 1 [] U (jk (j:=3) ty3 A3 U U (qO 3 U (aU 9 [45,46,47,48,49,50,51,52,53,54] 45 54 (fK l y1 bI known) U (λc5 hk3=>?_) (λe=>?_)))))))))
  .exact av (qO 2 U (aA (iF zC oD ty81 hl.1 aJ U U U (λq4 A4=>dv ty81 A4 U U (qO 2 U (ai call310 (DL _ _ _ _ y1 bI known hl) U (eE U (hk3 _ U))))))))
  refine aI (ae hs9 U (λc6 hs10=>?_) (λc6 hs11=>?_))
  .refine qT 4 U (aA (iF zC oD ty81 hl.1 aJ U U U (λq5 A5=>dv ty81 A5 U U (aA (aV (cells:=[I y1.No,I y1.At,I y1.Known,I y1.Doc,I y1.By,I y1.For,I y1.Office,.bool y1.Gone]) oD ty81 zc81 U U kr (λb2=>?_))))))
   let z1:Nat×Obj:=(b2,O [I y1.No,I y1.At,I y1.Known,I y1.Doc,I y1.By,I y1.For,I y1.Office,.bool y1.Gone] 81)
   exact aA (cd Approval.eo ([z1]) ([]) (λG=>[z1]++G) ap (λ_=>ap) oD ty81 zc81 U bytes81 qo U U (dX 0 U (cE y1 U U)) lo lo (λob1 oc1 G2 gr2=>qO 5 U (oi i1 U (an (ba (L':=G2) js (ag1 ((gY++[y1]),ob1,oc1,G2) hs10 ⟨gr2,lo⟩))))))
  exact aH (qT 3 U (oi i1 U (an (ag1 (gY,rV,rU,IN) hs11 ⟨qo,lo⟩))))
 rintro i1 ⟨gY,rV,rU,IN⟩ hd1 fL hx e
 exact qK 6 [] U (fO fL U (qO 3 U (hx _ rd)))
theorem Bp(h:HF)(l:List Approval)(dU:Option Addr)(dT:Nat)(doc:Int)(begun:Int)(think:Int)(eB:Int)(known:Int)(hl:SlC qJ h dU dT l)(hsz0:l.length<=2000000):i9 prog 165 [.slice dU l.length dT,I doc,I begun,I think,I eB,I known] h (λv h'=>∃(rb0:Option Addr)(rc0:Nat),v=.tuple #[.slice rb0 ((dF l doc begun think eB known).1).length rc0,I ((dF l doc begun think eB known).2)]/\SlC qJ h' rb0 rc0 ((dF l doc begun think eB known).1)):=by
 refine sT func165 U ntmps165 U λX hM hX hF=>?_
 have hs0:=@rfl _ (dF l doc begun think eB known)
 refine qT 8 U (ai call78 (s7 _ _ _ _ hl) U (qO 8 U (ae hs0 U (λc1 hs1=>?_) (λc1 hs2=>?_))))
 .refine qT 6 U ?_
  have hs3:dF l doc begun think eB known=([],(ff l)):=hs1
  exact nretH [.slice none 0 0,I (ff l)] (hs3▸⟨none,0,U,vE⟩)
 refine qT 5 U (ai call254 (vO h doc) U (qO 2 U (bL 4 [27,28,29,30,31] 27 31 (!(fM begun)) U (λc2 hk1=>?_) (λe=>?_))))
 .exact av (ai Ek (lT h begun) U (qO 2 U (hk1 _ U)))
 refine av (bL 4 [32,33,34,35,36] 32 36 (!(fM think)) U (λc3 hk2=>?_) (λe=>?_))
 .exact av (ai Ek (lT h think) U (qO 2 U (hk2 _ U)))
 refine av (bL 4 [37,38,39,40,41] 37 41 (!(fM eB)) U (λc4 hk3=>?_) (λe=>?_))
 .exact av (ai Ek (lT h eB) U (qO 2 U (hk3 _ U)))
 refine av (bL 4 [42,43,44,45,46] 42 46 (!(fM known)) U (λc5 hk4=>?_) (λe=>?_))
 .exact av (ai Ek (lT h known) U (qO 2 U (hk4 _ U)))
 refine aI (ae hs2 U (λc6 hs4=>?_) (λc6 hs5=>?_))
 .refine qT 5 U ?_
  have hs6:dF l doc begun think eB known=([],1):=hs4
  exact nretH [.slice none 0 0,I 1] (hs6▸⟨none,0,U,vE⟩)
 refine qT 7 U (aA (cC call257 (Bo _ _ _ _ doc eB known hl ob) U (λv1 h1 hle1 hp1=>?_)))
 obtain⟨rb1,rc1,rfl,sl1⟩:=hp1
 refine qO 8 U (aA (jI oD ty81 (λb1=>qO 7 U ?_)))
 obtain⟨G1,gr1,ge1⟩:∃G:LH,cZ qJ 81 h1 ([]) (some ⟨b1,0,none⟩) 0 G/\[(b1,O [] 81)]=G:=⟨_,cZ.lit (show aY qJ h1 [] ([])from rfl) rfl,rfl⟩
 refine bW (L':=([])++(G1++([]))) (by rw[←ge1];exact ap) ?_
 refine lL (List.Perm.append_left _ kH) (bW (L':=G1) ap ?_)
 refine lp2 ((dz l doc eB known).1) (λi w=>[(2,I begun),(3,I think),(4,I eB),(15,.slice rb1 (((dz l doc eB known).1).length) rc1),(17,.slice w.2.1 w.1.length w.2.2.1),(18,I (i:Int))]) (λ_=>h1) (λw=>w.2.2.2) (λi w=>cZ qJ 81 h1 w.1 w.2.1 w.2.2.1 w.2.2.2/\w.1.length<=0+i) (λs1 i w=>(dF.L1 begun think eB (dF.K1)) s1 w.1) ([],(some ⟨b1,0,none⟩),0,G1) sl1.1.1 hs5 ⟨gr1,lo⟩ ?_ ?_ ?_
 .rintro i1 ⟨u9,FP,FO,IL⟩ ft hs7 ⟨CK,LG⟩ e
  try dsimp only at CK LG
  refine qT 6 U (eY zH ([]) IL ([]) ap hM CK (λh2 hle2 sl2=>?_))
  have hs8:dF l doc begun think eB known=(u9,0):=hs7
  exact nretH [.slice FP u9.length FO,I 0] (hs8▸⟨FP,FO,U,sl2⟩)
 .rintro i1 ⟨u9,FP,FO,IL⟩ y1 rz1 hd1 cY aJ dY gy hs9 ⟨CK,LG⟩ hx1 ag1 e
  try dsimp only at CK LG
  have hq_:=Nat.le_trans (Jp l doc eB known) hsz0
  have hbd_:=PW ob ob (gj hd1)
  refine qK 6 [] U (tO cY U (qO 9 U (aA (iF zC oD ty81 sl1.1 aJ U U U (λq3 A3=>qL 1 [] U (jk (j:=1) ty3 A3 U U (qO 3 U (aU 10 [69,70,71,72,73,74,75,76,77,78,79] 69 79 (decide ((y1.At+think)<=eB)) U (λc7 hk5=>?_) (λe=>?_)))))))))
  .exact av (qO 2 U (aA (iF zC oD ty81 sl1.1 aJ U U U (λq4 A4=>qL 1 [] U (jk (j:=1) ty3 A4 U U (av (j9 (v':=I (y1.At+think)) U (j0 ob) (qO 2 U (hk5 _ U)))))))))
  refine aI (ae hs9 U (λc8 hs10=>?_) (λc8 hs11=>?_))
  .refine qT 4 U (aA (iF zC oD ty81 sl1.1 aJ U U U (λq5 A5=>dv ty81 A5 U U (aA (aV (cells:=[I y1.No,I y1.At,I y1.Known,I y1.Doc,I y1.By,I y1.For,I y1.Office,.bool y1.Gone]) oD ty81 zc81 U U kr (λb2=>?_))))))
   let z1:Nat×Obj:=(b2,O [I y1.No,I y1.At,I y1.Known,I y1.Doc,I y1.By,I y1.For,I y1.Office,.bool y1.Gone] 81)
   exact aA (cd Approval.eo ([z1]) ([]) (λG=>[z1]++G) ap (λ_=>ap) oD ty81 zc81 U bytes81 CK U U (dX 0 U (cE y1 U U)) lo lo (λob1 oc1 G2 gr2=>qO 5 U (oi i1 U (an (ba (L':=G2) js (ag1 ((u9++[y1]),ob1,oc1,G2) hs10 ⟨gr2,lo⟩))))))
  exact aH (qT 3 U (oi i1 U (an (ag1 (u9,FP,FO,IL) hs11 ⟨CK,lo⟩))))
 rintro i1 ⟨u9,FP,FO,IL⟩ hd1 fL hx e
 exact qK 6 [] U (fO fL U (qO 3 U (hx _ rd)))
theorem DR(h:HF)(x:Appoint)(eU:Int)(known:Int)  : Ret prog 336 [.agg (xL x).toArray,I eU,I known] h (.bool (lh x eU known)):=by
 refine sT func336 U ntmps336 U λX hM hX hF=>?_
 have hs0:=@rfl _ (lh x eU known)
 refine sr (bS (λb1=>qL 9 [0] U (aU 5 [11,12,13,14,15,16] 11 16 (decide (x.Known<=known)) U (λc1 hk1=>?_) (λe=>?_))))
 .exact qL 5 [0] U (hk1 _ U)
 exact an (nretP [.bool (decide (x.At<=eU)&&decide (x.Known<=known))] (cs hs0))
theorem Gy(h:HF)(l:List Appoint)(dU:Option Addr)(dT:Nat)(office:Int)(person:Int)(bw:Int)(known:Int)(hl:SlC vH h dU dT l):Ret prog 299 [.slice dU l.length dT,I office,I person,I bw,I known] h (I (dG l office person bw known)):=by
 refine sT func299 U ntmps299 U λX hM hX hF=>?_
 have hs0:=@rfl _ (dG l office person bw known)
 refine qT 13 U ?_
 refine lp2 l (λi w=>[(0,.slice dU l.length dT),(1,I office),(2,I person),(3,I bw),(4,I known),(11,I w),(12,I (i:Int))]) (λ_=>h) (λw=>[]) (λi w=>-1<=w/\w<(l.length:Int)) (λs1 i w=>(dG.L1 l office person bw known (dG.K1)) s1 i w) (-1) hl.1.1 hs0 (by first|omega|(dsimp only;omega)) ?_ ?_ ?_
 .rintro i1 gY ft hs1 u1_0 e
  exact sr (qO 3 U (nretP [I gY] (ci hs1)))
 .rintro i1 gY y1 rz1 hd1 cY aJ dY gy hs3 u1_0 hx1 ag1 e
  refine qK 6 [] U (tO cY U (qO 6 U ?_))
  refine m8 [(0,.slice dU l.length dT),(1,I office),(2,I person),(3,I bw),(4,I known),(11,I gY),(12,I (i1:Int)),(60,.bool ((((y1.Office==office)&&(y1.Person==person))&&(lh y1 bw known))&&(decide (gY<0)||decide ((nthI l gY).At<=y1.At))))] (λe=>?_) (λhk1=>?_)
  rotate_left
  .refine eh ([]) mixed kr jn (λdt _=>?_)
   refine qA [0,1] U (cU 2 (enc:=xL) dt jn ei sO ty89 hl.1 (nthZ aJ) (dq aJ) U U U U kr (λq3 A3=>qB [3] U (tf 4 U U (rH 3 ty3 A3 U U) (qR 5 3 U ?_))))
   refine cB 26 U (λc1=>?_) (λc1=>?_)
   .refine qA [8,9] U (cU 10 (enc:=xL) dt jn ei sO ty89 hl.1 (nthZ aJ) (dq aJ) U U U U kr (λq4 A4=>qB [11] U (tf 12 U U (rH 4 ty3 A4 U U) (qR 13 4 U ?_))))
    refine cB 35 U (λc2=>?_) (λc2=>?_)
    .refine qA [17,18] U (cU 19 (enc:=xL) dt jn ei sO ty89 hl.1 (nthZ aJ) (dq aJ) U U U U kr (λq5 A5=>tf 20 U U (λ_ _ hj=>iP ty89 (A5.mono hj.1) U U) (qA [21,22] U (tn 23 U (et call336 (DR h y1 bw known) U (⟨jn,(qA [24,25] U ?_)⟩))))))
     refine cB 44 U (λc3=>?_) (λc3=>?_)
     .refine qR 26 3 U ?_
      refine cB 47 U (λc4=>?_) (λc4=>?_)
      .have c4p:=of_decide_eq_true c4
       exact tk 29 U U (qR 30 12 U (aG kr (hk1 _ ⟨U,U,U,U,U,U,U,(cb (show true=((((y1.Office==office)&&(y1.Person==person))&&(lh y1 bw known))&&(decide (gY<0)||decide ((nthI l gY).At<=y1.At)))from by rw[c1,c2,c3,c4]<;>rfl)),trivial⟩)))
      have c4p:=of_decide_eq_false c4
      refine qA [29,30] U (cU 31 (enc:=xL) dt jn ei sO ty89 hl.1 (nthZ aJ) (dq aJ) U U U U kr (λq6 A6=>qB [32] U (tf 33 U U (rH 1 ty3 A6 U U) (qA [34,35] U ?_))))
      have ho1:0<=(gY:Int)/\(gY:Int)<((l).length:Int):=ob
      exact cU 36 (enc:=xL) dt jn ei sO ty89 hl.1 ho1 (de ho1) U U U U kr (λq7 A7=>qB [37] U (tf 38 U U (rH 1 ty3 A7 U U) (qR 39 3 U (aG kr (hk1 _ ⟨U,U,U,U,U,U,U,(cb (show decide ((nthI l gY).At<=y1.At)=((((y1.Office==office)&&(y1.Person==person))&&(lh y1 bw known))&&(decide (gY<0)||decide ((nthI l gY).At<=y1.At)))from by rw[c1,c2,c3,c4]<;>rfl)),trivial⟩)))))
     exact tk 26 U U (qR 27 15 U (aG kr (hk1 _ ⟨U,U,U,U,U,U,U,(cb (show false=((((y1.Office==office)&&(y1.Person==person))&&(lh y1 bw known))&&(decide (gY<0)||decide ((nthI l gY).At<=y1.At)))from by rw[c1,c2,c3]<;>rfl)),trivial⟩)))
    exact tk 17 U U (qR 18 24 U (aG kr (hk1 _ ⟨U,U,U,U,U,U,U,(cb (show false=((((y1.Office==office)&&(y1.Person==person))&&(lh y1 bw known))&&(decide (gY<0)||decide ((nthI l gY).At<=y1.At)))from by rw[c1,c2]<;>rfl)),trivial⟩)))
   exact tk 8 U U (qR 9 33 U (aG kr (hk1 _ ⟨U,U,U,U,U,U,U,(cb (show false=((((y1.Office==office)&&(y1.Person==person))&&(lh y1 bw known))&&(decide (gY<0)||decide ((nthI l gY).At<=y1.At)))from by rw[c1]<;>rfl)),trivial⟩)))
  refine ae hs3 U (λc5 hs4=>?_) (λc5 hs5=>?_)
  .exact bC (qO 6 U (oi i1 U (an (ag1 (i1:Int) hs4 (by first|omega|(dsimp only;omega))))))
  exact aH (qT 3 U (oi i1 U (an (ag1 gY hs5 (by first|omega|(dsimp only;omega))))))
 rintro i1 gY hd1 fL hx e
 exact qK 6 [] U (fO fL U (qO 3 U (hx _ rd)))
theorem E9(h:HF)(l:List Appoint)(dU:Option Addr)(dT:Nat)(office:Int)(person:Int)(bw:Int)(known:Int)(hl:SlC vH h dU dT l):Ret prog 258 [.slice dU l.length dT,I office,I person,I bw,I known] h (.tuple #[I ((jO l office person bw known).1),I ((jO l office person bw known).2.1),.bool ((jO l office person bw known).2.2.1),I ((jO l office person bw known).2.2.2)]):=by
 refine sT func258 U ntmps258 U λX hM hX hF=>?_
 have hs0:=@rfl _ (jO l office person bw known)
 refine qT 10 U (ai call72 (xI _ _ _ _ hl) U (qO 8 U (ae hs0 U (λc1 hs1=>?_) (λc1 hs2=>?_))))
 .refine qT 8 U ?_
  have hs3:jO l office person bw known=(0,0,false,(gC l)):=hs1
  exact nretP [I 0,I 0,.bool false,I (gC l)] (hs3▸U)
 refine qT 5 U (ai call241 (wH h office) U (qO 2 U (bL 4 [24,25,26,27,28] 24 28 (!(lP person)) U (λc2 hk1=>?_) (λe=>?_))))
 .exact av (ai call242 (wG h person) U (qO 2 U (hk1 _ U)))
 refine av (bL 4 [29,30,31,32,33] 29 33 (!(kU bw)) U (λc3 hk2=>?_) (λe=>?_))
 .exact av (ai La (qw h bw) U (qO 2 U (hk2 _ U)))
 refine av (bL 4 [34,35,36,37,38] 34 38 (!(kU known)) U (λc4 hk3=>?_) (λe=>?_))
 .exact av (ai La (qw h known) U (qO 2 U (hk3 _ U)))
 refine aI (ae hs2 U (λc5 hs4=>?_) (λc5 hs5=>?_))
 .refine qT 7 U ?_
  have hs6:jO l office person bw known=(0,0,false,1):=hs4
  exact nretP [I 0,I 0,.bool false,I 1] (hs6▸U)
 refine qT 8 U (ai call299 (Gy _ _ _ _ office person bw known hl) U (qO 8 U (bL 6 [47,48,49,50,51,52,53] 47 53 ((nthI l (dG l office person bw known)).Gone) U (λc6 hk4=>?_) (λe=>?_))))
 .refine qO 2 U ?_
  have ho1:0<=((dG l office person bw known):Int)/\((dG l office person bw known):Int)<((l).length:Int):=(by have hq:=Cv l office person bw known;first|omega|(simp only[decide_eq_true_eq,decide_eq_false_iff_not,Bool.or_eq_false_iff]at *;omega))
  exact aA (rO (enc:=xL) ei sO ty89 hl.1 ho1 (de ho1) U U U (λq1 A1=>qL 1 [] U (jk (j:=6) ty4 A1 U U (eE U (hk4 _ U)))))
 refine aI (ae hs5 U (λc7 hs7=>?_) (λc7 hs8=>?_))
 .refine qT 7 U ?_
  have hs9:jO l office person bw known=(0,0,false,0):=hs7
  exact nretP [I 0,I 0,.bool false,I 0] (hs9▸U)
 refine qT 2 U (eh ([]) mixed kr jn (λdt _=>qA [0,1] U ?_))
 have ho2:0<=((dG l office person bw known):Int)/\((dG l office person bw known):Int)<((l).length:Int):=(by have hq:=Cv l office person bw known;first|omega|(simp only[decide_eq_true_eq,decide_eq_false_iff_not,Bool.or_eq_false_iff]at *;omega))
 refine cU 2 (enc:=xL) dt jn ei sO ty89 hl.1 ho2 (de ho2) U U U U kr (λq2 A2=>qB [3] U (tf 4 U U (rh ty3 A2 U) (qA [5,6] U ?_)))
 have ho3:0<=((dG l office person bw known):Int)/\((dG l office person bw known):Int)<((l).length:Int):=(by have hq:=Cv l office person bw known;first|omega|(simp only[decide_eq_true_eq,decide_eq_false_iff_not,Bool.or_eq_false_iff]at *;omega))
 refine cU 7 (enc:=xL) dt jn ei sO ty89 hl.1 ho3 (de ho3) U U U U kr (λq3 A3=>qB [8] U (tf 9 U U (rH 5 ty3 A3 U U) (qR 10 4 U (aG kr ?_))))
 have hs10:jO l office person bw known=((nthI l (dG l office person bw known)).No,(nthI l (dG l office person bw known)).Weight,true,0):=hs8
 exact nretP [I ((nthI l (dG l office person bw known)).No),I ((nthI l (dG l office person bw known)).Weight),.bool true,I 0] (hs10▸U)
theorem E6(h:HF)(l:List Deputy)(dU:Option Addr)(dT:Nat)(cu:Int)(to:Int)(office:Int)(kind:Int)(value:Int)(gP:Int)(known:Int)(hl:SlC xN h dU dT l):Ret prog 311 [.slice dU l.length dT,I cu,I to,I office,I kind,I value,I gP,I known] h (I (mp l cu to office kind value gP known)):=by
 refine sT func311 U ntmps311 U λX hM hX hF=>?_
 have hs0:=@rfl _ (mp l cu to office kind value gP known)
 refine qT 7 U (ai call73 (xz _ _ _ _ hl) U (qO 8 U (ae hs0 U (λc1 hs1=>?_) (λc1 hs2=>?_))))
 .exact sr (qO 3 U (nretP [I (gB l)] (ci hs1)))
 refine qT 5 U (ai K8 (oL h cu) U (qO 2 U (bL 4 [26,27,28,29,30] 26 30 (!(jq to)) U (λc2 hk1=>?_) (λe=>?_))))
 .exact av (ai K8 (oL h to) U (qO 2 U (hk1 _ U)))
 refine av (bL 4 [31,32,33,34,35] 31 35 (!(ef office 0 31)) U (λc3 hk2=>?_) (λe=>?_))
 .exact av (ai C1 (jp h office 0 31) U (qO 2 U (hk2 _ U)))
 refine av (bL 4 [36,37,38,39,40] 36 40 (!(ef kind 0 15)) U (λc4 hk3=>?_) (λe=>?_))
 .exact av (ai C1 (jp h kind 0 15) U (qO 2 U (hk3 _ U)))
 refine av (bL 4 [41,42,43,44,45] 41 45 (!(ef value 0 1099511627776)) U (λc5 hk4=>?_) (λe=>?_))
 .exact av (ai C1 (jp h value 0 1099511627776) U (qO 2 U (hk4 _ U)))
 refine av (bL 4 [46,47,48,49,50] 46 50 (!(kO gP)) U (λc6 hk5=>?_) (λe=>?_))
 .exact av (ai K9 (qv h gP) U (qO 2 U (hk5 _ U)))
 refine av (bL 4 [51,52,53,54,55] 51 55 (!(kO known)) U (λc7 hk6=>?_) (λe=>?_))
 .exact av (ai K9 (qv h known) U (qO 2 U (hk6 _ U)))
 refine aI (ae hs2 U (λc8 hs4=>?_) (λc8 hs5=>?_))
 .exact sr (an (nretP [I 1] (ci hs4)))
 exact aH (qT 4 U (nretP [I 0] (ci hs5)))
theorem wF(h:HF)(x:Deputy)(eU:Int)(known:Int)  : Ret prog 370 [.agg (jG x).toArray,I eU,I known] h (.bool (gL x eU known)):=by
 refine sT func370 U ntmps370 U λX hM hX hF=>?_
 have hs0:=@rfl _ (gL x eU known)
 refine sr (bS (λb1=>qL 9 [0] U (aU 5 [11,12,13,14,15,16] 11 16 (decide (x.Known<=known)) U (λc1 hk1=>?_) (λe=>?_))))
 .exact qL 5 [0] U (hk1 _ U)
 exact an (nretP [.bool (decide (x.At<=eU)&&decide (x.Known<=known))] (cs hs0))
theorem E4(h:HF)(x:Deputy)(y:Deputy)  : Ret prog 371 [.agg (jG x).toArray,.agg (jG y).toArray] h (.bool (kp x y)):=by
 refine sT func371 U ntmps371 U λX hM hX hF=>?_
 have hs0:=@rfl _ (kp x y)
 refine sr (bS (λb1=>bS (λb2=>qL 10 [1,0] U (aU 6 [10,11,12,13,14,15,16] 10 16 (x.To==y.To) U (λc1 hk1=>?_) (λe=>?_)))))
 .exact qL 6 [1,0] U (hk1 _ U)
 refine av (aU 6 [17,18,19,20,21,22,23] 17 23 (x.Office==y.Office) U (λc2 hk2=>?_) (λe=>?_))
 .exact qL 6 [1,0] U (hk2 _ U)
 refine av (aU 6 [24,25,26,27,28,29,30] 24 30 (x.Kind==y.Kind) U (λc3 hk3=>?_) (λe=>?_))
 .exact qL 6 [1,0] U (hk3 _ U)
 exact an (nretP [.bool ((((x.From==y.From)&&(x.To==y.To))&&(x.Office==y.Office))&&(x.Kind==y.Kind))] (cs hs0))
theorem Bt(h:HF)(l:List Deputy)(dU:Option Addr)(dT:Nat)(eU:Int)(known:Int)(hl:SlC xN h dU dT l)(hsz0:l.length<=2000000):i9 prog 347 [.slice dU l.length dT,I eU,I known] h (λv h'=>∃(rb0:Option Addr)(rc0:Nat),v=.slice rb0 (ck l eU known).length rc0/\SlC xN h' rb0 rc0 (ck l eU known)):=by
 refine sT func347 U ntmps347 U λX hM hX hF=>?_
 have hs0:=@rfl _ (ck l eU known)
 refine qT 6 U (aA (jI nr ty93 (λb1=>qO 7 U ?_)))
 obtain⟨G1,gr1,ge1⟩:∃G:LH,cZ xN 93 h ([]) (some ⟨b1,0,none⟩) 0 G/\[(b1,O [] 93)]=G:=⟨_,cZ.lit (show aY xN h [] ([])from rfl) rfl,rfl⟩
 refine bW (L':=([])++([(b1,O [] 93)]++([]))) ap ?_
 rw[ge1]
 refine lL (List.Perm.append_left _ kH) (bW (L':=G1) ap ?_)
 refine lp2 l (λi w=>[(0,.slice dU l.length dT),(1,I eU),(2,I known),(7,.slice w.2.1 w.1.length w.2.2.1),(8,I (i:Int))]) (λ_=>h) (λw=>w.2.2.2) (λi w=>cZ xN 93 h w.1 w.2.1 w.2.2.1 w.2.2.2/\w.1.length<=0+i) (λs1 i w=>(ck.L1 l eU known (ck.K1)) s1 w.1) ([],(some ⟨b1,0,none⟩),0,G1) hl.1.1 hs0 ⟨gr1,lo⟩ ?_ ?_ ?_
 .rintro i1 ⟨mu,rF,rE,u0⟩ ft hs1 ⟨pG,yx⟩ e
  try dsimp only at pG yx
  refine qT 5 U (eY zM ([]) u0 ([]) ap hM pG (λh1 hle1 sl1=>?_))
  have hs2:ck l eU known=mu:=hs1
  exact nretH [.slice rF mu.length rE] ⟨rF,rE,congrArg (λr:List Deputy=>(.slice rF r.length rE:Value)) hs2.symm,(by rw[hs2];exact sl1)⟩
 .rintro i1 ⟨mu,rF,rE,u0⟩ y1 rz1 hd1 cY aJ dY gy hs3 ⟨pG,yx⟩ hx1 ag1 e
  try dsimp only at pG yx
  refine qK 6 [] U (tO cY U (qO 9 U (aA (iF jG nr ty93 hl.1 aJ U U U (λq3 A3=>dv ty93 A3 U U (qO 2 U (ai call370 (wF h y1 eU known) U (av (aU 7 [25,26,27,28,29,30,31,32] 25 32 (!y1.Gone) U (λc1 hk1=>?_) (λe=>?_))))))))))
  .exact av (av (aA (iF jG nr ty93 hl.1 aJ U U U (λq4 A4=>qL 1 [] U (jk (j:=9) ty4 A4 U U (qO 2 U (hk1 _ U)))))))
  refine av (aU 8 [33,34,35,36,37,38,39,40,41] 33 41 (decide (eU<y1.Until)) U (λc2 hk2=>?_) (λe=>?_))
  .exact av (qO 2 U (aA (iF jG nr ty93 hl.1 aJ U U U (λq5 A5=>qL 1 [] U (jk (j:=3) ty3 A5 U U (qO 2 U (hk2 _ U)))))))
  refine qO 7 U ?_
  refine lp1 l (λi w=>[(0,.slice dU l.length dT),(1,I eU),(2,I known),(7,.slice rF mu.length rE),(8,I (i1:Int)),(9,.bool w),(10,I (i:Int))]) (u0) (λs3 i w=>(ck.L3 eU known y1 (λzg3_9=>(bif zg3_9 then(ck.L1 l eU known (ck.K1) rz1 (mu++[y1]))else(ck.L1 l eU known (ck.K1) rz1 mu)))) s3 w) (((gL y1 eU known)&&(!y1.Gone))&&decide (eU<y1.Until)) hl.1.1 hs3 ?_ ?_ ?_
  .rintro i3 FE CG hs4 e
   refine qT 4 U (ae hs4 U (λc4 hs5=>?_) (λc4 hs6=>?_))
   .refine qT 4 U (aA (iF jG nr ty93 hl.1 aJ U U U (λq9 A9=>dv ty93 A9 U U (aA (aV (cells:=[I y1.No,I y1.At,I y1.Known,I y1.Until,I y1.From,I y1.To,I y1.Office,I y1.Kind,I y1.Most,.bool y1.Gone]) nr ty93 zc93 U U kr (λb2=>?_))))))
    let z1:Nat×Obj:=(b2,O [I y1.No,I y1.At,I y1.Known,I y1.Until,I y1.From,I y1.To,I y1.Office,I y1.Kind,I y1.Most,.bool y1.Gone] 93)
    exact aA (cd Deputy.eo ([z1]) ([]) (λG=>[z1]++G) ap (λ_=>ap) nr ty93 zc93 U bytes93 pG U U (dX 0 U (cE y1 U U)) lo lo (λob1 oc1 G2 gr2=>qO 5 U (oi i1 U (an (ba (L':=G2) js (ag1 ((mu++[y1]),ob1,oc1,G2) hs5 ⟨gr2,lo⟩))))))
   exact aH (qT 3 U (oi i1 U (an (ag1 (mu,rF,rE,u0) hs6 ⟨pG,lo⟩))))
  .rintro i3 FE y3 rz3 hd3 Fy m6 Kr Pi hs7 hx3 ag2 e
   refine qK 6 [] U (tO Fy U (qO 4 U (ae hs7 U (λc5 hs8=>?_) (λc5 hs9=>?_))))
   .refine qT 4 U ?_
    refine m8 [(0,.slice dU l.length dT),(1,I eU),(2,I known),(7,.slice rF mu.length rE),(8,I (i1:Int)),(9,.bool FE),(10,I (i3:Int)),(107,.bool (((gL y3 eU known)&&(kp y1 y3))&&(decide (y1.At<y3.At)||((y3.At==y1.At)&&decide (y1.No<y3.No)))))] (λe=>?_) (λhk3=>?_)
    rotate_left
    .refine eh ([]) mixed kr jn (λdt _=>?_)
     refine qA [0,1] U (cU 2 (enc:=jG) dt jn ei nr ty93 hl.1 (nthZ m6) (dq m6) U U U U kr (λq10 A10=>tf 3 U U (λ_ _ hj=>iP ty93 (A10.mono hj.1) U U) (qA [4,5] U (tn 6 U (et call370 (wF h y3 eU known) U (⟨jn,(tm 7 U ?_)⟩))))))
     refine cB 58 U (λc6=>?_) (λc6=>?_)
     .refine qA [8,9] U (cU 10 (enc:=jG) dt jn ei nr ty93 hl.1 (nthZ aJ) (dq aJ) U U U U kr (λq11 A11=>tf 11 U U (λ_ _ hj=>iP ty93 (A11.mono hj.1) U U) (qA [12,13] U (cU 14 (enc:=jG) dt jn ei nr ty93 hl.1 (nthZ m6) (dq m6) U U U U kr (λq12 A12=>tf 15 U U (λ_ _ hj=>iP ty93 (A12.mono hj.1) U U) (tn 16 U (et call371 (E4 h y1 y3) U (⟨jn,(qA [17,18] U ?_)⟩))))))))
      refine cB 69 U (λc7=>?_) (λc7=>?_)
      .refine qA [19,20] U (cU 21 (enc:=jG) dt jn ei nr ty93 hl.1 (nthZ m6) (dq m6) U U U U kr (λq13 A13=>qB [22] U (tf 23 U U (rH 1 ty3 A13 U U) (qA [24,25] U (cU 26 (enc:=jG) dt jn ei nr ty93 hl.1 (nthZ aJ) (dq aJ) U U U U kr (λq14 A14=>qB [27] U (tf 28 U U (rH 1 ty3 A14 U U) (qA [29,30] U ?_))))))))
       refine cB 81 U (λc8=>?_) (λc8=>?_)
       .have c8p:=of_decide_eq_true c8
        exact tk 31 U U (qR 32 25 U (aG kr (hk3 _ ⟨U,U,U,U,U,U,U,(cb (show true=(((gL y3 eU known)&&(kp y1 y3))&&(decide (y1.At<y3.At)||((y3.At==y1.At)&&decide (y1.No<y3.No))))from by rw[c6,c7,c8]<;>rfl)),trivial⟩)))
       have c8p:=of_decide_eq_false c8
       refine qA [31,32] U (cU 33 (enc:=jG) dt jn ei nr ty93 hl.1 (nthZ m6) (dq m6) U U U U kr (λq15 A15=>qB [34] U (tf 35 U U (rH 1 ty3 A15 U U) (qA [36,37] U (cU 38 (enc:=jG) dt jn ei nr ty93 hl.1 (nthZ aJ) (dq aJ) U U U U kr (λq16 A16=>qB [39] U (tf 40 U U (rH 1 ty3 A16 U U) (qA [41,42] U ?_))))))))
       refine cB 93 U (λc9=>?_) (λc9=>?_)
       .exact tm 43 U (tm 44 U (cU 45 (enc:=jG) dt jn ei nr ty93 hl.1 (nthZ m6) (dq m6) U U U U kr (λq17 A17=>qB [46] U (tf 47 U U (rh ty3 A17 U) (qA [48,49] U (cU 50 (enc:=jG) dt jn ei nr ty93 hl.1 (nthZ aJ) (dq aJ) U U U U kr (λq18 A18=>qB [51] U (tf 52 U U (rh ty3 A18 U) (qR 53 4 U (aG kr (hk3 _ ⟨U,U,U,U,U,U,U,(cb (show decide (y1.No<y3.No)=(((gL y3 eU known)&&(kp y1 y3))&&(decide (y1.At<y3.At)||((y3.At==y1.At)&&decide (y1.No<y3.No))))from by rw[c6,c7,c8,c9]<;>rfl)),trivial⟩)))))))))))
       exact tk 43 U U (qR 44 13 U (aG kr (hk3 _ ⟨U,U,U,U,U,U,U,(cb (show false=(((gL y3 eU known)&&(kp y1 y3))&&(decide (y1.At<y3.At)||((y3.At==y1.At)&&decide (y1.No<y3.No))))from by rw[c6,c7,c8,c9]<;>rfl)),trivial⟩)))
      exact tk 19 U U (qR 20 37 U (aG kr (hk3 _ ⟨U,U,U,U,U,U,U,(cb (show false=(((gL y3 eU known)&&(kp y1 y3))&&(decide (y1.At<y3.At)||((y3.At==y1.At)&&decide (y1.No<y3.No))))from by rw[c6,c7]<;>rfl)),trivial⟩)))
     exact tk 8 U U (qR 9 48 U (aG kr (hk3 _ ⟨U,U,U,U,U,U,U,(cb (show false=(((gL y3 eU known)&&(kp y1 y3))&&(decide (y1.At<y3.At)||((y3.At==y1.At)&&decide (y1.No<y3.No))))from by rw[c6]<;>rfl)),trivial⟩)))
    refine ae hs8 U (λc10 hs10=>?_) (λc10 hs11=>?_)
    .exact bC (qO 5 U (oi i3 U (an (ag2 false hs10))))
    exact aH (qT 3 U (oi i3 U (an (ag2 FE hs11))))
   exact lM U (hx3 i3 FE hs9)
  rintro i3 FE hd3 Pg hx e
  exact qK 6 [] U (fO Pg U (qO 6 U (hx _ rd)))
 rintro i1 ⟨mu,rF,rE,u0⟩ hd1 fL hx e
 exact qK 6 [] U (fO fL U (qO 3 U (hx _ rd)))
theorem DQ(h:HF)(x:Deputy)(office:Int)(kind:Int)(value:Int)  : Ret prog 348 [.agg (jG x).toArray,I office,I kind,I value] h (.bool (nm x office kind value)):=by
 refine sT func348 U ntmps348 U λX hM hX hF=>?_
 have hs0:=@rfl _ (nm x office kind value)
 refine sr (bS (λb1=>qL 9 [0] U (aU 10 [13,14,15,16,17,18,19,20,21,22,23] 13 23 ((x.Kind==(-1))||(x.Kind==kind)) U (λc1 hk1=>?_) (λe=>?_))))
 .refine qL 4 [0] U (bL 5 [17,18,19,20,21,22] 17 22 (x.Kind==kind) U (λc2 hk2=>?_) (λe=>?_))
  .exact qL 5 [0] U (hk2 _ U)
  exact eE U (hk1 _ U)
 refine av (aU 5 [24,25,26,27,28,29] 24 29 (decide (value<=x.Most)) U (λc3 hk3=>?_) (λe=>?_))
 .exact qL 5 [0] U (hk3 _ U)
 exact an (nretP [.bool (((x.Office==office)&&((x.Kind==(-1))||(x.Kind==kind)))&&decide (value<=x.Most))] (cs hs0))
end Go.Sg
