import Derived.Test.YtpplkjhgggjaoaaGreatDoorW7
/- A part of the proof of JudgeMore. -/
set_option linter.unusedVariables false
set_option linter.unusedSimpArgs false
set_option maxRecDepth 100000
open List renaming length_cons→xA,length_append→jA,length_nil→vB,toArray→kB,append_assoc→kC,nil_append→xG,range→qH,perm_append_comm→kJ,cons_append→zQ
open Go.Sg.Approval renaming cells→vA,rp→kG,aj→zH,mk→qW
open Bool renaming and_eq_true→zB,or_eq_true→xD,not_eq_true'→qE
open Go.Sg.Rp renaming int→zC,aM→xH,str→SO,bool→S2,hZ→Ty,iD→TN
open Go.IntKind renaming wrap→jC
open Go.Sg.Expr renaming cells→vC,ok→zG,mk→vG,iS→R3,aj→Sh,rp→SG,lP→Th,ew→TQ
open Go.Value renaming int→zD
open Go.Sg.Interest renaming cells→vD,rp→jN,mk→SD
open Go.Sg.Appoint renaming mk→kD,rp→vH,aj→xQ,cells→jR
open Go.Sg.Policy renaming cells→xE,mk→kN,ok→vP
open Go.Sg.SlC renaming nil→kE
open Nat renaming le_refl→jG,zero_le→qM
open Go.Sg.Document renaming aj→jH,rp→kR,ok→SC
open Go.Sg.Register renaming mk→zK,cells→vN,ok→Sa
open Go.Sg.Budget renaming cells→kK,rp→Sj,mk→S7,aj→TI
open Go.Sg.Version renaming aj→zN,rp→jQ,mk→S0
open Go.Sg.HF renaming le→xN
open Go.Sg.Deputy renaming cells→zP,aj→xT,rp→Sq,mk→Td
open Go.Sg.Expr.ok renaming of→Sm
open Go.Sg.Rule renaming mk→Ti,aj→TC,cells→TU

namespace Go.Sg
open Go.Proofs Go.Proofs.Tryz
set_option maxHeartbeats 2000000
theorem Fa(h:HF)   : ju prog 122 [] h (λv h'=>∃(rr0:eR),v=.agg (xE (cw) rr0).toArray/\vP h' (cw) rr0):=by
 refine cB func122 U ntmps122 U λX hM hX=>?_
 have hs0:=@rfl _ (cw)
 refine sr (aT zc64 (λb1=>qO 3 U (aA (fI (cells:=[I 1,I 0,I 0,.string (⟨#[100,105,114,101,99,116,111,114]⟩:ByteArray),.slice none 0 0]) (places:=[(0,1),(1,1),(2,1),(3,1),(4,1)]) underlying62 zc62 kr kr (aT zc62 (λb2=>aO 0 ty62 U U U U U U (qO 3 U (aA (bE (cells:=[.string (⟨#[99,111,110,116,114,97,99,116]⟩:ByteArray)]) vY ty9 zc9 U U kr (λb3=>aA (bE (cells:=[.string (⟨#[100,105,114,101,99,116,111,114]⟩:ByteArray)]) vY ty9 zc9 U U kr (λb4=>cM 2 ty62 U U U (aA (fI (cells:=[.string (⟨#[99,111,110,116,114,97,99,116]⟩:ByteArray),I 0,I 3,I 1,I 0,I 0,.string (⟨#[100,105,114,101,99,116,111,114]⟩:ByteArray),.slice none 0 0]) (places:=[(0,1),(1,1),(2,1),(3,5)]) underlying79 zc79 kr kr (aA (bE (cells:=[.string (⟨#[99,111,110,116,114,97,99,116]⟩:ByteArray),I 0,I 3,I 1,I 0,I 0,.string (⟨#[100,105,114,101,99,116,111,114]⟩:ByteArray),.slice none 0 0]) wu ty79 zc79 U U kr (λb5=>cM 3 ty62 U U U (aA (fI (cells:=[.string (⟨#[98,111,97,114,100]⟩:ByteArray),.slice (some ⟨b3,0,none⟩) 1 1,.slice (some ⟨b4,0,none⟩) 1 1,.slice (some ⟨b5,0,none⟩) 1 1,I 1,I 0,I 0,.string (⟨#[100,105,114,101,99,116,111,114]⟩:ByteArray),.slice none 0 0,I 2]) (places:=[(0,1),(1,1),(2,1),(3,1),(4,5),(9,1)]) LQ zc64 kr kr (aO 4 ty64 U U U U U U (aF (eI 2 U hM (λh1 hle1 hb1=>?_)))))))))))))))))))))))
 have sl1:SlC SO h1 (some ⟨b3,0,none⟩) 1 ([(⟨#[99,111,110,116,114,97,99,116]⟩:ByteArray)]):=bz.slB0 (T:=9) (fz:=(0,0)) ((show bz SO h [.string (⟨#[99,111,110,116,114,97,99,116]⟩:ByteArray)] ([(⟨#[99,111,110,116,114,97,99,116]⟩:ByteArray)])from⟨[.string (⟨#[99,111,110,116,114,97,99,116]⟩:ByteArray)],[],rfl,rfl,rfl,rfl⟩).mono Ty hle1) hb1
 refine eI 1 U hM (λh2 hle2 hb2=>?_)
 have sl2:SlC SO h2 (some ⟨b4,0,none⟩) 1 ([(⟨#[100,105,114,101,99,116,111,114]⟩:ByteArray)]):=bz.slB0 (T:=9) (fz:=(0,0)) ((show bz SO h1 [.string (⟨#[100,105,114,101,99,116,111,114]⟩:ByteArray)] ([(⟨#[100,105,114,101,99,116,111,114]⟩:ByteArray)])from⟨[.string (⟨#[100,105,114,101,99,116,111,114]⟩:ByteArray)],[],rfl,rfl,rfl,rfl⟩).mono Ty hle2) hb2
 refine eI 0 U hM (λh3 hle3 hb3=>?_)
 have sl3:SlC Rule.rp h3 (some ⟨b5,0,none⟩) 1 ([(Ti (⟨#[99,111,110,116,114,97,99,116]⟩:ByteArray) 0 3 (vG 1 0 0 (⟨#[100,105,114,101,99,116,111,114]⟩:ByteArray) ([])))]):=bz.slB0 (T:=79) (fz:=(0,0)) ((show bz Rule.rp h2 [.string (⟨#[99,111,110,116,114,97,99,116]⟩:ByteArray),I 0,I 3,I 1,I 0,I 0,.string (⟨#[100,105,114,101,99,116,111,114]⟩:ByteArray),.slice none 0 0] ([(Ti (⟨#[99,111,110,116,114,97,99,116]⟩:ByteArray) 0 3 (vG 1 0 0 (⟨#[100,105,114,101,99,116,111,114]⟩:ByteArray) ([])))])from⟨[.string (⟨#[99,111,110,116,114,97,99,116]⟩:ByteArray),I 0,I 3,I 1,I 0,I 0,.string (⟨#[100,105,114,101,99,116,111,114]⟩:ByteArray),.slice none 0 0],[],rfl,rfl,⟨(BQ.mk (cN.mk none 0)),rfl,((show Rule.ok h (Ti (⟨#[99,111,110,116,114,97,99,116]⟩:ByteArray) 0 3 (vG 1 0 0 (⟨#[100,105,114,101,99,116,111,114]⟩:ByteArray) ([]))) (BQ.mk (cN.mk none 0))from⟨(show zG h (vG 1 0 0 (⟨#[100,105,114,101,99,116,111,114]⟩:ByteArray) ([])) (cN.mk none 0)from Sm kE)⟩).mono (hle1.t hle2))⟩,rfl⟩).mono TC hle3) hb3
 have hs1:cw=(kN (⟨#[98,111,97,114,100]⟩:ByteArray) ([(⟨#[99,111,110,116,114,97,99,116]⟩:ByteArray)]) ([(⟨#[100,105,114,101,99,116,111,114]⟩:ByteArray)]) ([(Ti (⟨#[99,111,110,116,114,97,99,116]⟩:ByteArray) 0 3 (vG 1 0 0 (⟨#[100,105,114,101,99,116,111,114]⟩:ByteArray) ([])))]) (vG 1 0 0 (⟨#[100,105,114,101,99,116,111,114]⟩:ByteArray) ([])) 2):=hs0
 exact jY [.agg (kB [.string (⟨#[98,111,97,114,100]⟩:ByteArray),.slice (some ⟨b3,0,none⟩) 1 1,.slice (some ⟨b4,0,none⟩) 1 1,.slice (some ⟨b5,0,none⟩) 1 1,I 1,I 0,I 0,.string (⟨#[100,105,114,101,99,116,111,114]⟩:ByteArray),.slice none 0 0,I 2])] func122 U ⟨⟨1,_,_,_,_,U,U,.inl ⟨ty64,U⟩⟩,trivial⟩ ⟨(eR.mk (some ⟨b3,0,none⟩) 1 (some ⟨b4,0,none⟩) 1 (some ⟨b5,0,none⟩) 1 (cN.mk none 0)),congrArg (λr:Policy=>(.agg (xE r (eR.mk (some ⟨b3,0,none⟩) 1 (some ⟨b4,0,none⟩) 1 (some ⟨b5,0,none⟩) 1 (cN.mk none 0))).toArray:Value)) hs1.symm,(by rw[hs1];exact(show vP h3 (kN (⟨#[98,111,97,114,100]⟩:ByteArray) ([(⟨#[99,111,110,116,114,97,99,116]⟩:ByteArray)]) ([(⟨#[100,105,114,101,99,116,111,114]⟩:ByteArray)]) ([(Ti (⟨#[99,111,110,116,114,97,99,116]⟩:ByteArray) 0 3 (vG 1 0 0 (⟨#[100,105,114,101,99,116,111,114]⟩:ByteArray) ([])))]) (vG 1 0 0 (⟨#[100,105,114,101,99,116,111,114]⟩:ByteArray) ([])) 2) (eR.mk (some ⟨b3,0,none⟩) 1 (some ⟨b4,0,none⟩) 1 (some ⟨b5,0,none⟩) 1 (cN.mk none 0))from⟨(sl1.mono Ty (hle2.t hle3)),(sl2.mono Ty hle3),sl3,(show zG h3 (vG 1 0 0 (⟨#[100,105,114,101,99,116,111,114]⟩:ByteArray) ([])) (cN.mk none 0)from Sm kE)⟩))⟩
theorem gv(h:HF):nu prog 47 (kB []) h [] (λr h' B=>∃(bk:Nat)(db:Option Addr)(dc:Nat)(vb:Option Addr)(vc:Nat)(ob_z:Option Addr)(oc:Nat)(ab:Option Addr)(ac:Nat),r=.returned (.agg (kB [.slice (some ⟨bk,0,none⟩) 1 1,.slice db 1 dc,.slice none 0 0,.slice none 0 0,.slice vb 1 vc,.slice ob_z 1 oc,.slice ab 1 ac]))/\B=[(bk,O [I 0,I 0,I 0,I 0,I 2,I 1,.bool false] 89)]/\SlC Sq h' db dc aL.Deputies/\SlC jQ h' vb vc aL.Versions/\SlC kR h' ob_z oc aL.Docs/\SlC kG h' ab ac aL.Approvals):=by
 refine cB func47 U ntmps47 U λX hM hX=>?_
 have hs0:=@rfl _ (aL)
 refine sr (aT zc30 (λb1=>qO 3 U (aA (fI (cells:=[I 0,I 0,I 0,I 0,I 2,I 1,.bool false]) (places:=[(0,1),(1,1),(2,1),(3,1),(4,1),(5,1),(6,1)]) underlying89 zc89 kr kr (aA (bE (cells:=[I 0,I 0,I 0,I 0,I 2,I 1,.bool false]) Eb ty89 zc89 U U kr (λb2=>aA (cR call122 (Fa h) U (λv1 h1 hle1 hp1=>?_)))))))))
 obtain⟨rr1,rfl,ok1⟩:=hp1
 refine aA (fI (cells:=[I 1,I 0,I 0,.string cw.Name,.slice rr1.iY cw.Kinds.length rr1.iX,.slice rr1.gm cw.Offices.length rr1.gl,.slice rr1.nF cw.Rules.length rr1.nE,I cw.Change.Kind,I cw.Change.N,I cw.Change.No,.string cw.Change.Name,.slice rr1.Change.mb cw.Change.L.length rr1.Change.mq,I cw.Mode]) (places:=[(0,1),(1,1),(2,1),(3,10)]) underlying105 zc105 kr kr (aA (bE (cells:=[I 1,I 0,I 0,.string cw.Name,.slice rr1.iY cw.Kinds.length rr1.iX,.slice rr1.gm cw.Offices.length rr1.gl,.slice rr1.nF cw.Rules.length rr1.nE,I cw.Change.Kind,I cw.Change.N,I cw.Change.No,.string cw.Change.Name,.slice rr1.Change.mb cw.Change.L.length rr1.Change.mq,I cw.Mode]) zx ty105 zc105 U U kr (λb3=>aA (fI (cells:=[.slice (some ⟨b2,0,none⟩) 1 1,.slice none 0 0,.slice none 0 0,.slice none 0 0,.slice (some ⟨b3,0,none⟩) 1 1,.slice none 0 0,.slice none 0 0]) (places:=[(0,1),(1,1),(2,1),(3,1),(4,1),(5,1),(6,1)]) NT zc30 kr kr (aT zc30 (λb4=>aO 0 ty30 U U U U U U (qO 3 U (aA (fI (cells:=[I 0,I 0,I 0,I 40,I 2,I 5,I 0,I (-1),I 100,.bool false]) (places:=[(0,1),(1,1),(2,1),(3,1),(4,1),(5,1),(6,1),(7,1),(8,1),(9,1)]) underlying93 zc93 kr kr (aA (bE (cells:=[I 0,I 0,I 0,I 40,I 2,I 5,I 0,I (-1),I 100,.bool false]) wM ty93 zc93 U U kr (λb5=>qL 1 [] U (cJ 1 ty23 U U U U U U (qO 3 U (aA (bE (cells:=[I 9]) ec ty3 zc3 U U kr (λb6=>aA (fI (cells:=[I 7,I 1,I 0,I 60,I 0,I 50,.slice (some ⟨b6,0,none⟩) 1 1,.slice none 0 0,.slice none 0 0,Y 0,Y 0,Y 0,Y 0,Y 0,Y 0,Y 0,Y 0,Y 0,Y 0,Y 0,Y 0,Y 0,Y 0,Y 0,Y 0,Y 0,Y 0,Y 0,Y 0,Y 0,Y 0,Y 0,Y 0,Y 0,Y 0,Y 0,Y 0,Y 0,Y 0,Y 0,Y 0]) (places:=[(0,1),(1,1),(2,1),(3,1),(4,1),(5,1),(6,1),(7,1),(8,1),(9,32)]) underlying51 zc51 kr kr (aQ 0 U hM (λh2 hle2 hb1=>?_)))))))))))))))))))))
 have sl1:SlC zC h2 (some ⟨b6,0,none⟩) 1 ([9]):=bz.slB0 (T:=3) (fz:=(0,0)) ((show bz zC h1 [I 9] ([9])from⟨[I 9],[],rfl,rfl,rfl,rfl⟩).mono xH hle2) hb1
 refine aA (bE (cells:=[I 7,I 1,I 0,I 60,I 0,I 50,.slice (some ⟨b6,0,none⟩) 1 1,.slice none 0 0,.slice none 0 0,Y 0,Y 0,Y 0,Y 0,Y 0,Y 0,Y 0,Y 0,Y 0,Y 0,Y 0,Y 0,Y 0,Y 0,Y 0,Y 0,Y 0,Y 0,Y 0,Y 0,Y 0,Y 0,Y 0,Y 0,Y 0,Y 0,Y 0,Y 0,Y 0,Y 0,Y 0,Y 0]) nP ty51 zc51 U U kr (λb7=>qL 1 [] U (cJ 2 ty27 U U U U U U (qO 3 U (aA (fI (cells:=[I 3,I 4,I 6,I 7,I 5,I 2,I 0,.bool false]) (places:=[(0,1),(1,1),(2,1),(3,1),(4,1),(5,1),(6,1),(7,1)]) Qr zc81 kr kr (aA (bE (cells:=[I 3,I 4,I 6,I 7,I 5,I 2,I 0,.bool false]) md ty81 zc81 U U kr (λb8=>qL 1 [] U (cJ 3 ty28 U U U U U U (qO 3 U (cM 3 ty30 U U U (aO 6 ty30 U U U U U U (aF ?_))))))))))))))
 have hle3:=HF.le_refl h2
 refine eI 2 U hM (λh4 hle4 hb3=>?_)
 have sl3:SlC Sq h4 (some ⟨b5,0,none⟩) 1 ([(Td 0 0 0 40 2 5 0 (-1) 100 false)]):=bz.slB0 (T:=93) (fz:=(0,0)) ((show bz Sq h2 [I 0,I 0,I 0,I 40,I 2,I 5,I 0,I (-1),I 100,.bool false] ([(Td 0 0 0 40 2 5 0 (-1) 100 false)])from⟨[I 0,I 0,I 0,I 40,I 2,I 5,I 0,I (-1),I 100,.bool false],[],rfl,rfl,rfl,rfl⟩).mono xT hle4) hb3
 refine eI 3 U hM (λh5 hle5 hb4=>?_)
 have sl4:SlC jQ h5 (some ⟨b3,0,none⟩) 1 ([(S0 1 0 0 cw)]):=bz.slB0 (T:=105) (fz:=(0,0)) ((show bz jQ h4 [I 1,I 0,I 0,.string cw.Name,.slice rr1.iY cw.Kinds.length rr1.iX,.slice rr1.gm cw.Offices.length rr1.gl,.slice rr1.nF cw.Rules.length rr1.nE,I cw.Change.Kind,I cw.Change.N,I cw.Change.No,.string cw.Change.Name,.slice rr1.Change.mb cw.Change.L.length rr1.Change.mq,I cw.Mode] ([(S0 1 0 0 cw)])from⟨[I 1,I 0,I 0,.string cw.Name,.slice rr1.iY cw.Kinds.length rr1.iX,.slice rr1.gm cw.Offices.length rr1.gl,.slice rr1.nF cw.Rules.length rr1.nE,I cw.Change.Kind,I cw.Change.N,I cw.Change.No,.string cw.Change.Name,.slice rr1.Change.mb cw.Change.L.length rr1.Change.mq,I cw.Mode],[],rfl,rfl,⟨(pA.mk rr1),rfl,((show Version.ok h1 (S0 1 0 0 cw) (pA.mk rr1)from⟨ok1⟩).mono ((hle2.t hle3).t hle4))⟩,rfl⟩).mono zN hle5) hb4
 refine eI 1 U hM (λh6 hle6 hb5=>?_)
 have sl5:SlC kR h6 (some ⟨b7,0,none⟩) 1 ([(Document.mk 7 1 0 60 0 50 ([9]) ([]) ([]) (λ_=>0))]):=bz.slB0 (T:=51) (fz:=(0,0)) ((show bz kR h5 [I 7,I 1,I 0,I 60,I 0,I 50,.slice (some ⟨b6,0,none⟩) 1 1,.slice none 0 0,.slice none 0 0,Y 0,Y 0,Y 0,Y 0,Y 0,Y 0,Y 0,Y 0,Y 0,Y 0,Y 0,Y 0,Y 0,Y 0,Y 0,Y 0,Y 0,Y 0,Y 0,Y 0,Y 0,Y 0,Y 0,Y 0,Y 0,Y 0,Y 0,Y 0,Y 0,Y 0,Y 0,Y 0] ([(Document.mk 7 1 0 60 0 50 ([9]) ([]) ([]) (λ_=>0))])from⟨[I 7,I 1,I 0,I 60,I 0,I 50,.slice (some ⟨b6,0,none⟩) 1 1,.slice none 0 0,.slice none 0 0,Y 0,Y 0,Y 0,Y 0,Y 0,Y 0,Y 0,Y 0,Y 0,Y 0,Y 0,Y 0,Y 0,Y 0,Y 0,Y 0,Y 0,Y 0,Y 0,Y 0,Y 0,Y 0,Y 0,Y 0,Y 0,Y 0,Y 0,Y 0,Y 0,Y 0,Y 0,Y 0],[],rfl,rfl,⟨(kx.mk (some ⟨b6,0,none⟩) 1 none 0 none 0),rfl,((show SC h2 (Document.mk 7 1 0 60 0 50 ([9]) ([]) ([]) (λ_=>0)) (kx.mk (some ⟨b6,0,none⟩) 1 none 0 none 0)from⟨sl1,kE,kE⟩).mono ((hle3.t hle4).t hle5))⟩,rfl⟩).mono jH hle6) hb5
 refine eI 0 U hM (λh7 hle7 hb6=>?_)
 have sl6:SlC kG h7 (some ⟨b8,0,none⟩) 1 ([(qW 3 4 6 7 5 2 0 false)]):=bz.slB0 (T:=81) (fz:=(0,0)) ((show bz kG h6 [I 3,I 4,I 6,I 7,I 5,I 2,I 0,.bool false] ([(qW 3 4 6 7 5 2 0 false)])from⟨[I 3,I 4,I 6,I 7,I 5,I 2,I 0,.bool false],[],rfl,rfl,rfl,rfl⟩).mono zH hle7) hb6
 exact mN (v:=.agg (kB [.slice (some ⟨b2,0,none⟩) 1 1,.slice (some ⟨b5,0,none⟩) 1 1,.slice none 0 0,.slice none 0 0,.slice (some ⟨b3,0,none⟩) 1 1,.slice (some ⟨b7,0,none⟩) 1 1,.slice (some ⟨b8,0,none⟩) 1 1])) (h2:=h7) (B:=[(b2,O [I 0,I 0,I 0,I 0,I 2,I 1,.bool false] 89)]) func47 (λa ha w hw=>mB (rs:=[.cell 0 30]) (vs:=[.agg (kB [.slice (some ⟨b2,0,none⟩) 1 1,.slice (some ⟨b5,0,none⟩) 1 1,.slice none 0 0,.slice none 0 0,.slice (some ⟨b3,0,none⟩) 1 1,.slice (some ⟨b7,0,none⟩) 1 1,.slice (some ⟨b8,0,none⟩) 1 1])]) U ⟨⟨2,_,_,_,_,U,U,.inl ⟨ty30,U⟩⟩,trivial⟩ a ha w hw) (λw hw=>hw.sub (.cons _ (.cons_cons _ (.cons _ .slnil)))) ⟨b2,some ⟨b5,0,none⟩,1,some ⟨b3,0,none⟩,1,some ⟨b7,0,none⟩,1,some ⟨b8,0,none⟩,1,U,U,(sl3.mono xT ((hle5.t hle6).t hle7)),(sl4.mono zN (hle6.t hle7)),(sl5.mono jH hle7),sl6⟩
theorem nj(h:HF)(bN:Register)(eN:fq)(il:Int)(state:Int)(jr:Sa h bN eN)(hsm:smR bN)(hln:bN.Docs.length<20)(hk:Kinds h):Ret prog 48 [.agg (vN bN eN).toArray,I il,I state] h (.bool (JO bN il state)):=by
 refine sT func48 U ntmps48 U λX hM hX hF=>?_
 have hs0:=@rfl _ (JO bN il state)
 refine sr (cv (λb1=>qO 4 U (cM 0 ty30 U U U (aA (bE (cells:=[I (-1)]) ec ty3 zc3 U U kr (λb2=>av (aQ 0 U hM (λh1 hle1 hb1=>?_))))))))
 have sl1:SlC zC h1 (some ⟨b2,0,none⟩) 1 ([(-1)]):=bz.slB0 (T:=3) (fz:=(0,0)) ((show bz zC h [I (-1)] ([(-1)])from⟨[I (-1)],[],rfl,rfl,rfl,rfl⟩).mono xH hle1) hb1
 refine aA (cR GO (ly _ _ _ _ _ _ ([]) none 0 7 il 100 (jr.mono hle1) sl1 kE ob ob (hk.mono hle1)) U (λv1 h2 hle2 hp1=>?_))
 obtain⟨rr1,rfl,ok1⟩:=hp1
 refine qO 3 U (aT zc36 (λb3=>aO 0 ty36 U U U U U U (qO 7 U (bp 5 [18,19,20,21,22,23] 18 23 (((bJ bN ([(-1)]) ([]) 7 il 100).1).State==state) U (λc1 hk1=>?_) (λe=>?_)))))
 .exact qL 5 [0] U (hk1 _ U)
 exact an (nretP [.bool (((bJ bN ([(-1)]) ([]) 7 il 100).2==0)&&(((bJ bN ([(-1)]) ([]) 7 il 100).1).State==state))] (cs hs0))
theorem Gu(h:HF)(hk:Kinds h):Ret prog 9 [] h (.bool (vl)):=by
 refine sT func9 U ntmps9 U λX hM hX hF=>?_
 have hs0:=@rfl _ (vl)
 refine qT 6 U (aA (fI (cells:=[.slice none 0 0,.slice none 0 0,.slice none 0 0,.slice none 0 0,.slice none 0 0,.slice none 0 0,.slice none 0 0]) (places:=[(0,1),(1,1),(2,1),(3,1),(4,1),(5,1),(6,1)]) NT zc30 kr kr (aA (cR GO (ly h (zK ([]) ([]) ([]) ([]) ([]) ([]) ([])) (fq.mk none 0 none 0 none 0 none 0 none 0 none 0 none 0) ([]) none 0 ([]) none 0 0 0 0 ⟨kE,kE,kE,kE,kE,kE,kE⟩ kE kE (by first|exact my|exact j7 (by decide) (by decide) (by decide)) (by decide) hk) U (λv1 h1 hle1 hp1=>?_)))))
 rw[show(bJ (zK ([]) ([]) ([]) ([]) ([]) ([]) ([])) ([]) ([]) 0 0 0)=((gj.mk 0 0 [] []),1)from by kernel_rfl]at hp1
 obtain⟨rr1,rfl,ok1⟩:=hp1
 refine qO 3 U (aT zc36 (λb1=>aO 0 ty36 U U U U U U (qO 4 U ?_)))
 let z3:Nat×Obj:=(b1,O [I 0,I 0,.slice rr1.ke 0 rr1.kd,.slice rr1.Ds 0 rr1.Dr] 36)
 refine aA (mO (A:=[]) (Fr:=[z3]) vW rfl (gv h1) rfl (λv2 h2 B1 hle2 hp2=>?_) (λ_ _ _ _ hR_=>by obtain⟨_,_,_,_,_,_,_,_,_,hr_,_⟩:=hR_;cases hr_))
 obtain⟨b2,q1,q2,q3,q4,q5,q6,q7,q8,hr_,rfl,sl1,sl2,sl3,sl4⟩:=hp2
 cases hr_
 refine aQ 0 U hM (λh3 hle3 hb1=>?_)
 have sl5:SlC vH h3 (some ⟨b2,0,none⟩) 1 ([(kD 0 0 0 0 2 1 false)]):=bz.slB0 (T:=89) (fz:=(0,0)) ((show bz vH h2 [I 0,I 0,I 0,I 0,I 2,I 1,.bool false] ([(kD 0 0 0 0 2 1 false)])from⟨[I 0,I 0,I 0,I 0,I 2,I 1,.bool false],[],rfl,rfl,rfl,rfl⟩).mono xQ hle3) hb1
 refine aA (cR call16 (wh h3 (zK ([(kD 0 0 0 0 2 1 false)]) aL.Deputies ([]) ([]) aL.Versions aL.Docs aL.Approvals) (fq.mk (some ⟨b2,0,none⟩) 1 q1 q2 none 0 none 0 q3 q4 q5 q6 q7 q8) 7 1 10 100 ⟨sl5,(sl1.mono xT hle3),kE,kE,(sl2.mono zN hle3),(sl3.mono jH hle3),(sl4.mono zH hle3)⟩ (by first|exact my|exact j7 (by decide) (by decide) (by decide)) (hk.mono ((hle1.t hle2).t hle3))) U (λv3 h4 hle4 hp3=>?_))
 rw[show(gE (zK ([(kD 0 0 0 0 2 1 false)]) aL.Deputies ([]) ([]) aL.Versions aL.Docs aL.Approvals) 7 1 10 100)=([2],0)from by kernel_rfl]at hp3
 obtain⟨rb1,rc1,rfl,sl6⟩:=hp3
 refine qO 8 rfl (aA (mO (A:=[]) (Fr:=[z3]) vW rfl (gv h4) rfl (λv4 h5 B2 hle5 hp4=>?_) (λ_ _ _ _ hR_=>by obtain⟨_,_,_,_,_,_,_,_,_,hr_,_⟩:=hR_;cases hr_)))
 obtain⟨b3,q9,q10,q11,q12,q13,q14,q15,q16,hr_,rfl,sl7,sl8,sl9,sl10⟩:=hp4
 cases hr_
 refine aQ 0 U hM (λh6 hle6 hb2=>?_)
 have sl11:SlC vH h6 (some ⟨b3,0,none⟩) 1 ([(kD 0 0 0 0 2 1 false)]):=bz.slB0 (T:=89) (fz:=(0,0)) ((show bz vH h5 [I 0,I 0,I 0,I 0,I 2,I 1,.bool false] ([(kD 0 0 0 0 2 1 false)])from⟨[I 0,I 0,I 0,I 0,I 2,I 1,.bool false],[],rfl,rfl,rfl,rfl⟩).mono xQ hle6) hb2
 refine aA (cR call16 (wh h6 (zK ([(kD 0 0 0 0 2 1 false)]) aL.Deputies ([]) ([]) aL.Versions aL.Docs aL.Approvals) (fq.mk (some ⟨b3,0,none⟩) 1 q9 q10 none 0 none 0 q11 q12 q13 q14 q15 q16) 7 1 10 5 ⟨sl11,(sl7.mono xT hle6),kE,kE,(sl8.mono zN hle6),(sl9.mono jH hle6),(sl10.mono zH hle6)⟩ (by first|exact my|exact j7 (by decide) (by decide) (by decide)) (hk.mono (((((hle1.t hle2).t hle3).t hle4).t hle5).t hle6))) U (λv5 h7 hle7 hp5=>?_))
 rw[show(gE (zK ([(kD 0 0 0 0 2 1 false)]) aL.Deputies ([]) ([]) aL.Versions aL.Docs aL.Approvals) 7 1 10 5)=([],0)from by kernel_rfl]at hp5
 obtain⟨rb2,rc2,rfl,sl12⟩:=hp5
 refine qO 8 rfl (aA (mO (A:=[]) (Fr:=[z3]) vW rfl (gv h7) rfl (λv6 h8 B3 hle8 hp6=>?_) (λ_ _ _ _ hR_=>by obtain⟨_,_,_,_,_,_,_,_,_,hr_,_⟩:=hR_;cases hr_)))
 obtain⟨b4,q17,q18,q19,q20,q21,q22,q23,q24,hr_,rfl,sl13,sl14,sl15,sl16⟩:=hp6
 cases hr_
 refine aQ 0 U hM (λh9 hle9 hb3=>?_)
 have sl17:SlC vH h9 (some ⟨b4,0,none⟩) 1 ([(kD 0 0 0 0 2 1 false)]):=bz.slB0 (T:=89) (fz:=(0,0)) ((show bz vH h8 [I 0,I 0,I 0,I 0,I 2,I 1,.bool false] ([(kD 0 0 0 0 2 1 false)])from⟨[I 0,I 0,I 0,I 0,I 2,I 1,.bool false],[],rfl,rfl,rfl,rfl⟩).mono xQ hle9) hb3
 refine aA (cR GO (ly h9 (zK ([(kD 0 0 0 0 2 1 false)]) aL.Deputies ([]) ([]) aL.Versions aL.Docs aL.Approvals) (fq.mk (some ⟨b4,0,none⟩) 1 q17 q18 none 0 none 0 q19 q20 q21 q22 q23 q24) ([]) none 0 ([]) none 0 7 10 100 ⟨sl17,(sl13.mono xT hle9),kE,kE,(sl14.mono zN hle9),(sl15.mono jH hle9),(sl16.mono zH hle9)⟩ kE kE (by first|exact my|exact j7 (by decide) (by decide) (by decide)) (by decide) (hk.mono ((((((((hle1.t hle2).t hle3).t hle4).t hle5).t hle6).t hle7).t hle8).t hle9))) U (λv7 h10 hle10 hp7=>?_))
 rw[show(bJ (zK ([(kD 0 0 0 0 2 1 false)]) aL.Deputies ([]) ([]) aL.Versions aL.Docs aL.Approvals) ([]) ([]) 7 10 100)=((gj.mk 0 0 [] []),1)from by kernel_rfl]at hp7
 obtain⟨rr2,rfl,ok2⟩:=hp7
 refine qO 3 U (aT zc36 (λb5=>aO 0 ty36 U U U U U U (qO 4 U ?_)))
 let z5:Nat×Obj:=(b5,O [I 0,I 0,.slice rr2.ke 0 rr2.kd,.slice rr2.Ds 0 rr2.Dr] 36)
 refine aA (mO (A:=[]) (Fr:=[z5,z3]) vW rfl (gv h10) rfl (λv8 h11 B4 hle11 hp8=>?_) (λ_ _ _ _ hR_=>by obtain⟨_,_,_,_,_,_,_,_,_,hr_,_⟩:=hR_;cases hr_))
 obtain⟨b6,q25,q26,q27,q28,q29,q30,q31,q32,hr_,rfl,sl18,sl19,sl20,sl21⟩:=hp8
 cases hr_
 refine aT zc30 (λb7=>aO 0 ty30 U U U U U U (qL 5 [0] U (aA (eT (CU (i:=0) Eb ty89 U U ob) (qL 1 [] U (cJ 1 ty3 U U U U U U (qO 3 U ?_)))))))
 let z1:Nat×Obj:=(b7,O [.slice (some ⟨b6,0,none⟩) 1 1,.slice q25 1 q26,.slice none 0 0,.slice none 0 0,.slice q27 1 q28,.slice q29 1 q30,.slice q31 1 q32] 30)
 refine aA (mO (A:=[]) (Fr:=[z1,(b6,O [I 0,I 0,I 0,I 0,I 2,I 0,.bool false] 89),z5,z3]) vW rfl (gv h11) rfl (λv9 h12 B5 hle12 hp9=>?_) (λ_ _ _ _ hR_=>by obtain⟨_,_,_,_,_,_,_,_,_,hr_,_⟩:=hR_;cases hr_))
 obtain⟨b8,q33,q34,q35,q36,q37,q38,q39,q40,hr_,rfl,sl22,sl23,sl24,sl25⟩:=hp9
 cases hr_
 refine aT zc30 (λb9=>aO 0 ty30 U U U U U U (qO 3 U (aA (fI (cells:=[I 0,I 0,I 0,I 5,I 9,.bool false,.bool false]) (places:=[(0,1),(1,1),(2,1),(3,1),(4,1),(5,1),(6,1)]) underlying97 zc97 kr kr (aA (bE (cells:=[I 0,I 0,I 0,I 5,I 9,.bool false,.bool false]) vX ty97 zc97 U U kr (λb10=>qL 1 [] U (cJ 1 ty24 U U U U U U (qO 4 U (aA (fI (cells:=[.slice none 0 0,.slice none 0 0,.slice none 0 0,.slice none 0 0,.slice none 0 0,.slice none 0 0,.slice none 0 0]) (places:=[(0,1),(1,1),(2,1),(3,1),(4,1),(5,1),(6,1)]) NT zc30 kr kr (ai (v:=I 0) NB (ul (pd h12 (zK ([]) ([]) ([]) ([]) ([]) ([]) ([])) (fq.mk none 0 none 0 none 0 none 0 none 0 none 0 none 0) ⟨kE,kE,kE,kE,kE,kE,kE⟩ (by first|exact my|exact j7 (by decide) (by decide) (by decide)) (hk.mono (((((((((((hle1.t hle2).t hle3).t hle4).t hle5).t hle6).t hle7).t hle8).t hle9).t hle10).t hle11).t hle12))) kr) U (qO 2 U (cM 3 ty30 U U U (aQ 4 U hM (λh13 hle13 hb4=>?_))))))))))))))))
 have sl26:SlC vH h13 (some ⟨b6,0,none⟩) 1 ([(kD 0 0 0 0 2 0 false)]):=bz.slB0 (T:=89) (fz:=(0,0)) ((show bz vH h12 [I 0,I 0,I 0,I 0,I 2,I 0,.bool false] ([(kD 0 0 0 0 2 0 false)])from⟨[I 0,I 0,I 0,I 0,I 2,I 0,.bool false],[],rfl,rfl,rfl,rfl⟩).mono xQ hle13) hb4
 refine ai (v:=I 300) NB (ul (pd h13 (zK ([(kD 0 0 0 0 2 0 false)]) aL.Deputies ([]) ([]) aL.Versions aL.Docs aL.Approvals) (fq.mk (some ⟨b6,0,none⟩) 1 q25 q26 none 0 none 0 q27 q28 q29 q30 q31 q32) ⟨sl26,(sl18.mono xT (hle12.t hle13)),kE,kE,(sl19.mono zN (hle12.t hle13)),(sl20.mono jH (hle12.t hle13)),(sl21.mono zH (hle12.t hle13))⟩ (by first|exact my|exact j7 (by decide) (by decide) (by decide)) (hk.mono ((((((((((((hle1.t hle2).t hle3).t hle4).t hle5).t hle6).t hle7).t hle8).t hle9).t hle10).t hle11).t hle12).t hle13))) kr) U (qO 20 U (aA (bE (cells:=[I 2]) ec ty3 zc3 U U kr (λb11=>aQ 0 U hM (λh14 hle14 hb5=>?_)))))
 have sl27:SlC zC h14 (some ⟨b11,0,none⟩) 1 ([2]):=bz.slB0 (T:=3) (fz:=(0,0)) ((show bz zC h13 [I 2] ([2])from⟨[I 2],[],rfl,rfl,rfl,rfl⟩).mono xH hle14) hb5
 refine ai (v:=.bool true) call18 (ul (tC h14 ([2]) rb1 rc1 ([2]) (some ⟨b11,0,none⟩) 1 (sl6.mono xH (((((((((hle5.t hle6).t hle7).t hle8).t hle9).t hle10).t hle11).t hle12).t hle13).t hle14)) sl27) kr) U (qL 12 [] U ?_)
 let z2:Nat×Obj:=(b9,O [.slice (some ⟨b8,0,none⟩) 1 1,.slice q33 1 q34,.slice (some ⟨b10,0,none⟩) 1 1,.slice none 0 0,.slice q35 1 q36,.slice q37 1 q38,.slice q39 1 q40] 30)
 let z8:Nat×Obj:=(b10,O [I 0,I 0,I 0,I 5,I 9,.bool false,.bool false] 97)
 let z9:Nat×Obj:=(b8,O [I 0,I 0,I 0,I 0,I 2,I 1,.bool false] 89)
 refine aA (mO (A:=[]) (Fr:=[z8,z2,z9,z1,z5,z3]) vW rfl (gv h14) rfl (λv10 h15 B6 hle15 hp10=>?_) (λ_ _ _ _ hR_=>by obtain⟨_,_,_,_,_,_,_,_,_,hr_,_⟩:=hR_;cases hr_))
 obtain⟨b12,q41,q42,q43,q44,q45,q46,q47,q48,hr_,rfl,sl28,sl29,sl30,sl31⟩:=hp10
 cases hr_
 refine aT zc30 (λb13=>aO 0 ty30 U U U U U U (qO 3 U (aA (fI (cells:=[I 8,I 0,I 0,I (-1),I 10,I 1,I 59,.bool false]) (places:=[(0,1),(1,1),(2,1),(3,1),(4,1),(5,1),(6,1),(7,1)]) underlying101 zc101 kr kr (aA (bE (cells:=[I 8,I 0,I 0,I (-1),I 10,I 1,I 59,.bool false]) uv ty101 zc101 U U kr (λb14=>qL 1 [] U (cJ 1 ty25 U U U U U U (qO 3 U (cM 1 ty30 U U U (aA (bE (cells:=[I (-1)]) ec ty3 zc3 U U kr (λb15=>aQ 3 U hM (λh16 hle16 hb6=>?_))))))))))))))
 have sl32:SlC vH h16 (some ⟨b12,0,none⟩) 1 ([(kD 0 0 0 0 2 1 false)]):=bz.slB0 (T:=89) (fz:=(0,0)) ((show bz vH h15 [I 0,I 0,I 0,I 0,I 2,I 1,.bool false] ([(kD 0 0 0 0 2 1 false)])from⟨[I 0,I 0,I 0,I 0,I 2,I 1,.bool false],[],rfl,rfl,rfl,rfl⟩).mono xQ hle16) hb6
 refine aQ 1 U hM (λh17 hle17 hb7=>?_)
 have sl33:SlC Sj h17 (some ⟨b14,0,none⟩) 1 ([(S7 8 0 0 (-1) 10 1 59 false)]):=bz.slB0 (T:=101) (fz:=(0,0)) ((show bz Sj h16 [I 8,I 0,I 0,I (-1),I 10,I 1,I 59,.bool false] ([(S7 8 0 0 (-1) 10 1 59 false)])from⟨[I 8,I 0,I 0,I (-1),I 10,I 1,I 59,.bool false],[],rfl,rfl,rfl,rfl⟩).mono TI hle17) hb7
 refine aQ 0 U hM (λh18 hle18 hb8=>?_)
 have sl34:SlC zC h18 (some ⟨b15,0,none⟩) 1 ([(-1)]):=bz.slB0 (T:=3) (fz:=(0,0)) ((show bz zC h17 [I (-1)] ([(-1)])from⟨[I (-1)],[],rfl,rfl,rfl,rfl⟩).mono xH hle18) hb8
 refine aA (cR GO (ly h18 (zK ([(kD 0 0 0 0 2 1 false)]) aL.Deputies ([]) ([(S7 8 0 0 (-1) 10 1 59 false)]) aL.Versions aL.Docs aL.Approvals) (fq.mk (some ⟨b12,0,none⟩) 1 q41 q42 none 0 (some ⟨b14,0,none⟩) 1 q43 q44 q45 q46 q47 q48) ([(-1)]) (some ⟨b15,0,none⟩) 1 ([]) none 0 7 10 100 ⟨(sl32.mono xQ (hle17.t hle18)),(sl28.mono xT ((hle16.t hle17).t hle18)),kE,(sl33.mono TI hle18),(sl29.mono zN ((hle16.t hle17).t hle18)),(sl30.mono jH ((hle16.t hle17).t hle18)),(sl31.mono zH ((hle16.t hle17).t hle18))⟩ sl34 kE (by first|exact my|exact j7 (by decide) (by decide) (by decide)) (by decide) (hk.mono (((((((((((((((((hle1.t hle2).t hle3).t hle4).t hle5).t hle6).t hle7).t hle8).t hle9).t hle10).t hle11).t hle12).t hle13).t hle14).t hle15).t hle16).t hle17).t hle18))) U (λv11 h19 hle19 hp11=>?_))
 rw[show(bJ (zK ([(kD 0 0 0 0 2 1 false)]) aL.Deputies ([]) ([(S7 8 0 0 (-1) 10 1 59 false)]) aL.Versions aL.Docs aL.Approvals) ([(-1)]) ([]) 7 10 100)=((gj.mk 4 8 [1] [2]),0)from by kernel_rfl]at hp11
 obtain⟨rr3,rfl,ok3⟩:=hp11
 refine qO 3 U (aT zc36 (λb16=>aO 0 ty36 U U U U U U (qO 4 U ?_)))
 let z4:Nat×Obj:=(b13,O [.slice (some ⟨b12,0,none⟩) 1 1,.slice q41 1 q42,.slice none 0 0,.slice (some ⟨b14,0,none⟩) 1 1,.slice q43 1 q44,.slice q45 1 q46,.slice q47 1 q48] 30)
 let z6:Nat×Obj:=(b16,O [I 4,I 8,.slice rr3.ke 1 rr3.kd,.slice rr3.Ds 1 rr3.Dr] 36)
 refine aA (mO (A:=[]) (Fr:=[z6,z4,z8,z2,z9,z1,z5,z3]) vW rfl (gv h19) rfl (λv12 h20 B7 hle20 hp12=>?_) (λ_ _ _ _ hR_=>by obtain⟨_,_,_,_,_,_,_,_,_,hr_,_⟩:=hR_;cases hr_))
 obtain⟨b17,q49,q50,q51,q52,q53,q54,q55,q56,hr_,rfl,sl35,sl36,sl37,sl38⟩:=hp12
 cases hr_
 refine aA (bE (cells:=[I 9]) ec ty3 zc3 U U kr (λb18=>aQ 1 U hM (λh21 hle21 hb9=>?_)))
 have sl39:SlC vH h21 (some ⟨b17,0,none⟩) 1 ([(kD 0 0 0 0 2 1 false)]):=bz.slB0 (T:=89) (fz:=(0,0)) ((show bz vH h20 [I 0,I 0,I 0,I 0,I 2,I 1,.bool false] ([(kD 0 0 0 0 2 1 false)])from⟨[I 0,I 0,I 0,I 0,I 2,I 1,.bool false],[],rfl,rfl,rfl,rfl⟩).mono xQ hle21) hb9
 refine aQ 0 U hM (λh22 hle22 hb10=>?_)
 have sl40:SlC zC h22 (some ⟨b18,0,none⟩) 1 ([9]):=bz.slB0 (T:=3) (fz:=(0,0)) ((show bz zC h21 [I 9] ([9])from⟨[I 9],[],rfl,rfl,rfl,rfl⟩).mono xH hle22) hb10
 refine aA (cR GO (ly h22 (zK ([(kD 0 0 0 0 2 1 false)]) aL.Deputies ([]) ([]) aL.Versions aL.Docs aL.Approvals) (fq.mk (some ⟨b17,0,none⟩) 1 q49 q50 none 0 none 0 q51 q52 q53 q54 q55 q56) ([9]) (some ⟨b18,0,none⟩) 1 ([]) none 0 7 10 100 ⟨(sl39.mono xQ hle22),(sl35.mono xT (hle21.t hle22)),kE,kE,(sl36.mono zN (hle21.t hle22)),(sl37.mono jH (hle21.t hle22)),(sl38.mono zH (hle21.t hle22))⟩ sl40 kE (by first|exact my|exact j7 (by decide) (by decide) (by decide)) (by decide) (hk.mono (((((((((((((((((((((hle1.t hle2).t hle3).t hle4).t hle5).t hle6).t hle7).t hle8).t hle9).t hle10).t hle11).t hle12).t hle13).t hle14).t hle15).t hle16).t hle17).t hle18).t hle19).t hle20).t hle21).t hle22))) U (λv13 h23 hle23 hp13=>?_))
 rw[show(bJ (zK ([(kD 0 0 0 0 2 1 false)]) aL.Deputies ([]) ([]) aL.Versions aL.Docs aL.Approvals) ([9]) ([]) 7 10 100)=((gj.mk 1 (-1) [] []),0)from by kernel_rfl]at hp13
 obtain⟨rr4,rfl,ok4⟩:=hp13
 refine qO 3 U (aT zc36 (λb19=>aO 0 ty36 U U U U U U (qL 37 [1,1,0,0] U ?_)))
 let z7:Nat×Obj:=(b19,O [I 1,I (-1),.slice rr4.ke 0 rr4.kd,.slice rr4.Ds 0 rr4.Dr] 36)
 refine aA (mO (A:=[]) (Fr:=[z7,z6,z4,z8,z2,z9,z1,z5,z3]) vW rfl (gv h23) rfl (λv14 h24 B8 hle24 hp14=>?_) (λ_ _ _ _ hR_=>by obtain⟨_,_,_,_,_,_,_,_,_,hr_,_⟩:=hR_;cases hr_))
 obtain⟨b20,q57,q58,q59,q60,q61,q62,q63,q64,hr_,rfl,sl41,sl42,sl43,sl44⟩:=hp14
 cases hr_
 refine aQ 0 U hM (λh25 hle25 hb11=>?_)
 have sl45:SlC vH h25 (some ⟨b20,0,none⟩) 1 ([(kD 0 0 0 0 2 1 false)]):=bz.slB0 (T:=89) (fz:=(0,0)) ((show bz vH h24 [I 0,I 0,I 0,I 0,I 2,I 1,.bool false] ([(kD 0 0 0 0 2 1 false)])from⟨[I 0,I 0,I 0,I 0,I 2,I 1,.bool false],[],rfl,rfl,rfl,rfl⟩).mono xQ hle25) hb11
 refine ai (v:=.bool true) GN (ul (nj h25 (zK ([(kD 0 0 0 0 2 1 false)]) aL.Deputies ([]) ([]) aL.Versions aL.Docs aL.Approvals) (fq.mk (some ⟨b20,0,none⟩) 1 q57 q58 none 0 none 0 q59 q60 q61 q62 q63 q64) 0 1 ⟨sl45,(sl41.mono xT hle25),kE,kE,(sl42.mono zN hle25),(sl43.mono jH hle25),(sl44.mono zH hle25)⟩ (by first|exact my|exact j7 (by decide) (by decide) (by decide)) (by decide) (hk.mono ((((((((((((((((((((((((hle1.t hle2).t hle3).t hle4).t hle5).t hle6).t hle7).t hle8).t hle9).t hle10).t hle11).t hle12).t hle13).t hle14).t hle15).t hle16).t hle17).t hle18).t hle19).t hle20).t hle21).t hle22).t hle23).t hle24).t hle25))) kr) rfl (av (aA (mO (A:=[]) (Fr:=[z7,z6,z4,z8,z2,z9,z1,z5,z3]) vW rfl (gv h25) rfl (λv15 h26 B9 hle26 hp15=>?_) (λ_ _ _ _ hR_=>by obtain⟨_,_,_,_,_,_,_,_,_,hr_,_⟩:=hR_;cases hr_))))
 obtain⟨b21,q65,q66,q67,q68,q69,q70,q71,q72,hr_,rfl,sl46,sl47,sl48,sl49⟩:=hp15
 cases hr_
 refine aQ 0 U hM (λh27 hle27 hb12=>?_)
 have sl50:SlC vH h27 (some ⟨b21,0,none⟩) 1 ([(kD 0 0 0 0 2 1 false)]):=bz.slB0 (T:=89) (fz:=(0,0)) ((show bz vH h26 [I 0,I 0,I 0,I 0,I 2,I 1,.bool false] ([(kD 0 0 0 0 2 1 false)])from⟨[I 0,I 0,I 0,I 0,I 2,I 1,.bool false],[],rfl,rfl,rfl,rfl⟩).mono xQ hle27) hb12
 refine ai (v:=.bool true) GN (ul (nj h27 (zK ([(kD 0 0 0 0 2 1 false)]) aL.Deputies ([]) ([]) aL.Versions aL.Docs aL.Approvals) (fq.mk (some ⟨b21,0,none⟩) 1 q65 q66 none 0 none 0 q67 q68 q69 q70 q71 q72) 6 3 ⟨sl50,(sl46.mono xT hle27),kE,kE,(sl47.mono zN hle27),(sl48.mono jH hle27),(sl49.mono zH hle27)⟩ (by first|exact my|exact j7 (by decide) (by decide) (by decide)) (by decide) (hk.mono ((((((((((((((((((((((((((hle1.t hle2).t hle3).t hle4).t hle5).t hle6).t hle7).t hle8).t hle9).t hle10).t hle11).t hle12).t hle13).t hle14).t hle15).t hle16).t hle17).t hle18).t hle19).t hle20).t hle21).t hle22).t hle23).t hle24).t hle25).t hle26).t hle27))) kr) rfl (qO 2 rfl (aA (mO (A:=[]) (Fr:=[z7,z6,z4,z8,z2,z9,z1,z5,z3]) vW rfl (gv h27) rfl (λv16 h28 B10 hle28 hp16=>?_) (λ_ _ _ _ hR_=>by obtain⟨_,_,_,_,_,_,_,_,_,hr_,_⟩:=hR_;cases hr_))))
 obtain⟨b22,q73,q74,q75,q76,q77,q78,q79,q80,hr_,rfl,sl51,sl52,sl53,sl54⟩:=hp16
 cases hr_
 refine aQ 0 U hM (λh29 hle29 hb13=>?_)
 have sl55:SlC vH h29 (some ⟨b22,0,none⟩) 1 ([(kD 0 0 0 0 2 1 false)]):=bz.slB0 (T:=89) (fz:=(0,0)) ((show bz vH h28 [I 0,I 0,I 0,I 0,I 2,I 1,.bool false] ([(kD 0 0 0 0 2 1 false)])from⟨[I 0,I 0,I 0,I 0,I 2,I 1,.bool false],[],rfl,rfl,rfl,rfl⟩).mono xQ hle29) hb13
 refine ai (v:=.bool true) GN (ul (nj h29 (zK ([(kD 0 0 0 0 2 1 false)]) aL.Deputies ([]) ([]) aL.Versions aL.Docs aL.Approvals) (fq.mk (some ⟨b22,0,none⟩) 1 q73 q74 none 0 none 0 q75 q76 q77 q78 q79 q80) 7 0 ⟨sl55,(sl51.mono xT hle29),kE,kE,(sl52.mono zN hle29),(sl53.mono jH hle29),(sl54.mono zH hle29)⟩ (by first|exact my|exact j7 (by decide) (by decide) (by decide)) (by decide) (hk.mono ((((((((((((((((((((((((((((hle1.t hle2).t hle3).t hle4).t hle5).t hle6).t hle7).t hle8).t hle9).t hle10).t hle11).t hle12).t hle13).t hle14).t hle15).t hle16).t hle17).t hle18).t hle19).t hle20).t hle21).t hle22).t hle23).t hle24).t hle25).t hle26).t hle27).t hle28).t hle29))) kr) rfl (qO 2 rfl (aA (mO (A:=[]) (Fr:=[z7,z6,z4,z8,z2,z9,z1,z5,z3]) vW rfl (gv h29) rfl (λv17 h30 B11 hle30 hp17=>?_) (λ_ _ _ _ hR_=>by obtain⟨_,_,_,_,_,_,_,_,_,hr_,_⟩:=hR_;cases hr_))))
 obtain⟨b23,q81,q82,q83,q84,q85,q86,q87,q88,hr_,rfl,sl56,sl57,sl58,sl59⟩:=hp17
 cases hr_
 refine aQ 0 U hM (λh31 hle31 hb14=>?_)
 have sl60:SlC vH h31 (some ⟨b23,0,none⟩) 1 ([(kD 0 0 0 0 2 1 false)]):=bz.slB0 (T:=89) (fz:=(0,0)) ((show bz vH h30 [I 0,I 0,I 0,I 0,I 2,I 1,.bool false] ([(kD 0 0 0 0 2 1 false)])from⟨[I 0,I 0,I 0,I 0,I 2,I 1,.bool false],[],rfl,rfl,rfl,rfl⟩).mono xQ hle31) hb14
 refine ai (v:=.bool true) GN (ul (nj h31 (zK ([(kD 0 0 0 0 2 1 false)]) aL.Deputies ([]) ([]) aL.Versions aL.Docs aL.Approvals) (fq.mk (some ⟨b23,0,none⟩) 1 q81 q82 none 0 none 0 q83 q84 q85 q86 q87 q88) 39 0 ⟨sl60,(sl56.mono xT hle31),kE,kE,(sl57.mono zN hle31),(sl58.mono jH hle31),(sl59.mono zH hle31)⟩ (by first|exact my|exact j7 (by decide) (by decide) (by decide)) (by decide) (hk.mono ((((((((((((((((((((((((((((((hle1.t hle2).t hle3).t hle4).t hle5).t hle6).t hle7).t hle8).t hle9).t hle10).t hle11).t hle12).t hle13).t hle14).t hle15).t hle16).t hle17).t hle18).t hle19).t hle20).t hle21).t hle22).t hle23).t hle24).t hle25).t hle26).t hle27).t hle28).t hle29).t hle30).t hle31))) kr) rfl (qO 2 rfl (aA (mO (A:=[]) (Fr:=[z7,z6,z4,z8,z2,z9,z1,z5,z3]) vW rfl (gv h31) rfl (λv18 h32 B12 hle32 hp18=>?_) (λ_ _ _ _ hR_=>by obtain⟨_,_,_,_,_,_,_,_,_,hr_,_⟩:=hR_;cases hr_))))
 obtain⟨b24,q89,q90,q91,q92,q93,q94,q95,q96,hr_,rfl,sl61,sl62,sl63,sl64⟩:=hp18
 cases hr_
 refine aQ 0 U hM (λh33 hle33 hb15=>?_)
 have sl65:SlC vH h33 (some ⟨b24,0,none⟩) 1 ([(kD 0 0 0 0 2 1 false)]):=bz.slB0 (T:=89) (fz:=(0,0)) ((show bz vH h32 [I 0,I 0,I 0,I 0,I 2,I 1,.bool false] ([(kD 0 0 0 0 2 1 false)])from⟨[I 0,I 0,I 0,I 0,I 2,I 1,.bool false],[],rfl,rfl,rfl,rfl⟩).mono xQ hle33) hb15
 refine ai (v:=.bool true) GN (ul (nj h33 (zK ([(kD 0 0 0 0 2 1 false)]) aL.Deputies ([]) ([]) aL.Versions aL.Docs aL.Approvals) (fq.mk (some ⟨b24,0,none⟩) 1 q89 q90 none 0 none 0 q91 q92 q93 q94 q95 q96) 40 3 ⟨sl65,(sl61.mono xT hle33),kE,kE,(sl62.mono zN hle33),(sl63.mono jH hle33),(sl64.mono zH hle33)⟩ (by first|exact my|exact j7 (by decide) (by decide) (by decide)) (by decide) (hk.mono ((((((((((((((((((((((((((((((((hle1.t hle2).t hle3).t hle4).t hle5).t hle6).t hle7).t hle8).t hle9).t hle10).t hle11).t hle12).t hle13).t hle14).t hle15).t hle16).t hle17).t hle18).t hle19).t hle20).t hle21).t hle22).t hle23).t hle24).t hle25).t hle26).t hle27).t hle28).t hle29).t hle30).t hle31).t hle32).t hle33))) kr) rfl (qO 2 rfl (aA (mO (A:=[]) (Fr:=[z7,z6,z4,z8,z2,z9,z1,z5,z3]) vW rfl (gv h33) rfl (λv19 h34 B13 hle34 hp19=>?_) (λ_ _ _ _ hR_=>by obtain⟨_,_,_,_,_,_,_,_,_,hr_,_⟩:=hR_;cases hr_))))
 obtain⟨b25,q97,q98,q99,q100,q101,q102,q103,q104,hr_,rfl,sl66,sl67,sl68,sl69⟩:=hp19
 cases hr_
 refine aQ 0 U hM (λh35 hle35 hb16=>?_)
 have sl70:SlC vH h35 (some ⟨b25,0,none⟩) 1 ([(kD 0 0 0 0 2 1 false)]):=bz.slB0 (T:=89) (fz:=(0,0)) ((show bz vH h34 [I 0,I 0,I 0,I 0,I 2,I 1,.bool false] ([(kD 0 0 0 0 2 1 false)])from⟨[I 0,I 0,I 0,I 0,I 2,I 1,.bool false],[],rfl,rfl,rfl,rfl⟩).mono xQ hle35) hb16
 refine ai (v:=.bool true) GN (ul (nj h35 (zK ([(kD 0 0 0 0 2 1 false)]) aL.Deputies ([]) ([]) aL.Versions aL.Docs aL.Approvals) (fq.mk (some ⟨b25,0,none⟩) 1 q97 q98 none 0 none 0 q99 q100 q101 q102 q103 q104) 50 1 ⟨sl70,(sl66.mono xT hle35),kE,kE,(sl67.mono zN hle35),(sl68.mono jH hle35),(sl69.mono zH hle35)⟩ (by first|exact my|exact j7 (by decide) (by decide) (by decide)) (by decide) (hk.mono ((((((((((((((((((((((((((((((((((hle1.t hle2).t hle3).t hle4).t hle5).t hle6).t hle7).t hle8).t hle9).t hle10).t hle11).t hle12).t hle13).t hle14).t hle15).t hle16).t hle17).t hle18).t hle19).t hle20).t hle21).t hle22).t hle23).t hle24).t hle25).t hle26).t hle27).t hle28).t hle29).t hle30).t hle31).t hle32).t hle33).t hle34).t hle35))) kr) U (qO 2 U (cM 4 ty30 U U U (aQ 5 U hM (λh36 hle36 hb17=>?_))))
 have sl71:SlC vH h36 (some ⟨b8,0,none⟩) 1 ([(kD 0 0 0 0 2 1 false)]):=bz.slB0 (T:=89) (fz:=(0,0)) ((show bz vH h35 [I 0,I 0,I 0,I 0,I 2,I 1,.bool false] ([(kD 0 0 0 0 2 1 false)])from⟨[I 0,I 0,I 0,I 0,I 2,I 1,.bool false],[],rfl,rfl,rfl,rfl⟩).mono xQ hle36) hb17
 refine aQ 3 U hM (λh37 hle37 hb18=>?_)
 have sl72:SlC jN h37 (some ⟨b10,0,none⟩) 1 ([(SD 0 0 0 5 9 false false)]):=bz.slB0 (T:=97) (fz:=(0,0)) ((show bz jN h36 [I 0,I 0,I 0,I 5,I 9,.bool false,.bool false] ([(SD 0 0 0 5 9 false false)])from⟨[I 0,I 0,I 0,I 5,I 9,.bool false,.bool false],[],rfl,rfl,rfl,rfl⟩).mono Interest.aj hle37) hb18
 exact ai (v:=.bool true) GN (ul (nj h37 (zK ([(kD 0 0 0 0 2 1 false)]) aL.Deputies ([(SD 0 0 0 5 9 false false)]) ([]) aL.Versions aL.Docs aL.Approvals) (fq.mk (some ⟨b8,0,none⟩) 1 q33 q34 (some ⟨b10,0,none⟩) 1 none 0 q35 q36 q37 q38 q39 q40) 10 3 ⟨(sl71.mono xQ hle37),(sl22.mono xT ((((((((((((((((((((((((hle13.t hle14).t hle15).t hle16).t hle17).t hle18).t hle19).t hle20).t hle21).t hle22).t hle23).t hle24).t hle25).t hle26).t hle27).t hle28).t hle29).t hle30).t hle31).t hle32).t hle33).t hle34).t hle35).t hle36).t hle37)),sl72,kE,(sl23.mono zN ((((((((((((((((((((((((hle13.t hle14).t hle15).t hle16).t hle17).t hle18).t hle19).t hle20).t hle21).t hle22).t hle23).t hle24).t hle25).t hle26).t hle27).t hle28).t hle29).t hle30).t hle31).t hle32).t hle33).t hle34).t hle35).t hle36).t hle37)),(sl24.mono jH ((((((((((((((((((((((((hle13.t hle14).t hle15).t hle16).t hle17).t hle18).t hle19).t hle20).t hle21).t hle22).t hle23).t hle24).t hle25).t hle26).t hle27).t hle28).t hle29).t hle30).t hle31).t hle32).t hle33).t hle34).t hle35).t hle36).t hle37)),(sl25.mono zH ((((((((((((((((((((((((hle13.t hle14).t hle15).t hle16).t hle17).t hle18).t hle19).t hle20).t hle21).t hle22).t hle23).t hle24).t hle25).t hle26).t hle27).t hle28).t hle29).t hle30).t hle31).t hle32).t hle33).t hle34).t hle35).t hle36).t hle37))⟩ (by first|exact my|exact j7 (by decide) (by decide) (by decide)) (by decide) (hk.mono ((((((((((((((((((((((((((((((((((((hle1.t hle2).t hle3).t hle4).t hle5).t hle6).t hle7).t hle8).t hle9).t hle10).t hle11).t hle12).t hle13).t hle14).t hle15).t hle16).t hle17).t hle18).t hle19).t hle20).t hle21).t hle22).t hle23).t hle24).t hle25).t hle26).t hle27).t hle28).t hle29).t hle30).t hle31).t hle32).t hle33).t hle34).t hle35).t hle36).t hle37))) kr) U (qO 3 U (nretP [.bool true] (cs hs0)))
theorem Du(rec:Expr->Int->Int)(h:HF)(x:Expr)(fT:cN)(limit:Int)(hrec:∀(h:HF)(qx:Expr)(kz:cN)(qlimit:Int)(hqx:zG h qx kz)(_:qx.dep<x.dep),Ret prog 123 [.agg (vC qx kz).toArray,I qlimit] h (I (rec qx qlimit)))(hx:zG h x fT):Ret prog 123 [.agg (vC x fT).toArray,I limit] h (I (fU.F rec x limit)):=by
 refine sT func123 U ntmps123 U λX hM hX hF=>?_
 have hs0:=@rfl _ (fU.F rec x limit)
 refine sr (cv (λb1=>qO 11 U ?_))
 refine lp1 x.L (λi w=>[(1,I limit),(2,Q b1),(5,I w),(6,I (i:Int))]) ([(b1,O (vC x fT) 62)]) (λs1 i w=>(fU.L1 rec limit (fU.K1)) s1 w) 1 hx.list.1.1 hs0 ?_ ?_ ?_
 .rintro i1 eO fm hs1 e
  exact sr (qO 3 U (nretP [I eO] (ci hs1)))
 .rintro i1 eO y1 rz1 hd1 df aS ek gu hs3 hx1 ag1 e
  refine qK 7 [0] U (tO df U (qO 6 U (ae hs3 U (λc2 hs4=>?_) (λc2 hs5=>?_))))
  .have c2p:=of_decide_eq_true c2
   exact qK 8 [0] U (aA (iR lB ty62 hx.list.1 aS U U U (λ_ _ _ e=>e) (λq2 r2 A2 ok2=>dt ty62 A2 U U (qO 3 U (ai call123 (hrec _ _ _ (jC .i64 (limit-eO)) ok2 (R3 (fN hd1))) U (qO 6 U (oi i1 U (qO 2 U (ag1 (jC .i64 (eO+(rec y1 (jC .i64 (limit-eO))))) hs4)))))))))
  have c2p:=of_decide_eq_false c2
  exact lK U (hx1 i1 eO hs5)
 rintro i1 eO hd1 fS hx e
 exact qK 7 [0] U (fO fS U (qO 8 U (hx _ rd)))
theorem tB:∀(m:Nat)(h:HF)(x:Expr)(fT:cN)(limit:Int)(_:x.dep<=m)(hx:zG h x fT),Ret prog 123 [.agg (vC x fT).toArray,I limit] h (I (fU.go m x limit))
 |0,h,x,fT,limit,hd,hx=>absurd hd (Nat.not_le.2 (Th _))
 |m+1,h,x,fT,limit,hd,hx=>Du (fU.go m) h x fT limit (λqh_ qx kz qlimit qhx qd=>tB m qh_ qx kz qlimit ob qhx) hx
theorem wV(h:HF)(x:Expr)(fT:cN)(limit:Int)(hx:zG h x fT):Ret prog 123 [.agg (vC x fT).toArray,I limit] h (I (fU x limit)):=tB _ h x fT limit (jG _) hx
theorem wW(h:HF)(l:List Version)(ep:Option Addr)(eo:Nat)(hl:SlC jQ h ep eo l):Ret prog 49 [.slice ep l.length eo] h (.bool (dV l)):=by
 refine sT func49 U ntmps49 U λX hM hX hF=>?_
 have hs0:=@rfl _ (dV l)
 refine qK 11 [] U (ae hs0 U (λc1 hs1=>?_) (λc1 hs2=>?_))
 .have c1p:=of_decide_eq_true c1
  exact sr (an (nretP [.bool false] (cs hs1)))
 have c1p:=of_decide_eq_false c1
 refine qT 6 U ?_
 refine lp0 l (λi=>[(0,.slice ep l.length eo),(3,I (i:Int))]) ([]) (λs1 i=>(dV.L1 (dV.K1)) s1) hl.1.1 hs2 ?_ ?_ ?_
 .rintro i1 fm hs4 e
  exact sr (an (nretP [.bool true] (cs hs4)))
 .rintro i1 y1 rz1 hd1 df aS ek gu hs6 hx1 ag1 e
  refine qK 6 [] U (tO df U (qO 9 U (aA (iR zx ty105 hl.1 aS U U U (λ_ _ _ e=>e) (λq2 r2 A2 ok2=>qL 1 [] U (Af (j:=3) ty64 A2 U U (aT zc64 (λb2=>aO 0 ty64 U U U U U U (qL 9 [0] U (bT 5 [24,25,26,27,28,29] 24 29 (decide (40<(y1.Policy.Offices.length:Int))) U (λc2 hk1=>?_) (λe=>?_)))))))))))
  .exact qL 5 [0] U (hk1 _ U)
  refine av (bT 5 [30,31,32,33,34,35] 30 35 (decide (20<(y1.Policy.Rules.length:Int))) U (λc3 hk2=>?_) (λe=>?_))
  .exact qL 5 [0] U (hk2 _ U)
  refine av (bT 5 [36,37,38,39,40,41] 36 41 (decide (40<(fU y1.Policy.Change 40))) U (λc4 hk3=>?_) (λe=>?_))
  .exact qL 1 [] U (cM 0 ty62 U U U (ai call123 (wV _ _ _ 40 ok2.Policy.Change) U (qO 2 U (hk3 _ U))))
  refine aF (ae hs6 U (λc5 hs7=>?_) (λc5 hs8=>?_))
  .exact sr (an (nretP [.bool false] (cs hs7)))
  refine qT 5 U ?_
  refine lp0 y1.Policy.Rules (λi=>[(0,.slice ep l.length eo),(3,I (i1:Int)),(4,Q b2),(5,I (i:Int))]) ([(b2,O (xE y1.Policy r2.Policy) 64)]) (λs3 i=>(dV.L3 ((dV.L1 (dV.K1) rz1))) s3) ok2.Policy.Rules.1.1 hs8 ?_ ?_ ?_
  .rintro i3 yP hs10 e
   exact eS (qT 2 U (oi i1 U (an (bo (L':=[]) js (ag1 hs10)))))
  .rintro i3 y3 rz3 hd3 Cr Dd Db P4 hs11 hx3 ag2 e
   refine qK 7 [0] U (tO Cr U (qL 10 [0] U (aA (iR wu ty79 ok2.Policy.Rules.1 Dd U U U (λ_ _ _ e=>e) (λq4 r4 A4 ok4=>qL 1 [] U (Af (j:=3) ty62 A4 U U (ai call123 (wV _ _ _ 40 ok4.Expr) U (qO 2 U (ae hs11 U (λc7 hs12=>?_) (λc7 hs13=>?_))))))))))
   .have c7p:=of_decide_eq_true c7
    exact sr (an (nretP [.bool false] (cs hs12)))
   have c7p:=of_decide_eq_false c7
   exact aI (qT 3 U (oi i3 U (an (ag2 hs13))))
  rintro i3 hd3 OG hx e
  exact qK 7 [0] U (fO OG U (qO 3 U (hx _ rd)))
 rintro i1 hd1 fS hx e
 exact qK 6 [] U (fO fS U (qO 3 U (hx _ rd)))
theorem HZ(h:HF)(bN:Register)(eN:fq)(jr:Sa h bN eN):Ret prog 10 [.agg (vN bN eN).toArray] h (.bool (lF bN)):=by
 refine sT func10 U ntmps10 U λX hM hX hF=>?_
 have hs0:=@rfl _ (lF bN)
 refine sr (cv (λb1=>qL 10 [0] U (bT 5 [8,9,10,11,12,13] 8 13 (decide (12<(bN.Deputies.length:Int))) U (λc1 hk1=>?_) (λe=>?_))))
 .exact qL 5 [0] U (hk1 _ U)
 refine av (bT 5 [14,15,16,17,18,19] 14 19 (decide (12<(bN.Interests.length:Int))) U (λc2 hk2=>?_) (λe=>?_))
 .exact qL 5 [0] U (hk2 _ U)
 refine av (bT 5 [20,21,22,23,24,25] 20 25 (decide (12<(bN.Budgets.length:Int))) U (λc3 hk3=>?_) (λe=>?_))
 .exact qL 5 [0] U (hk3 _ U)
 refine av (bT 5 [26,27,28,29,30,31] 26 31 (decide (8<(bN.Docs.length:Int))) U (λc4 hk4=>?_) (λe=>?_))
 .exact qL 5 [0] U (hk4 _ U)
 refine av (bT 5 [32,33,34,35,36,37] 32 37 (decide (24<(bN.Approvals.length:Int))) U (λc5 hk5=>?_) (λe=>?_))
 .exact qL 5 [0] U (hk5 _ U)
 refine av (bT 5 [38,39,40,41,42,43] 38 43 (!(dV bN.Versions)) U (λc6 hk6=>?_) (λe=>?_))
 .exact qL 2 [0] U (ai call49 (wW _ _ _ _ jr.Versions) U (qO 2 U (hk6 _ U)))
 refine aF (ae hs0 U (λc7 hs1=>?_) (λc7 hs2=>?_))
 .exact sr (an (nretP [.bool false] (cs hs1)))
 refine qT 6 U ?_
 refine lp0 bN.Docs (λi=>[(1,Q b1),(3,I (i:Int))]) ([(b1,O (vN bN eN) 30)]) (λs1 i=>(lF.L1 (lF.K1)) s1) jr.Docs.1.1 hs2 ?_ ?_ ?_
 .rintro i1 fm hs4 e
  exact sr (an (nretP [.bool true] (cs hs4)))
 .rintro i1 y1 rz1 hd1 df aS ek gu hs6 hx1 ag1 e
  refine qK 7 [0] U (tO df U (qL 10 [0] U (aA (iR nP ty51 jr.Docs.1 aS U U U (λ_ _ _ e=>e) (λq3 r3 A3 ok3=>qL 1 [] U (iZ (j:=6) ty31 A3 U U (qL 3 [] U (bT 9 [59,60,61,62,63,64,65,66,67,68] 59 68 (decide (20<(y1.Revokes.length:Int))) U (λc8 hk7=>?_) (λe=>?_)))))))))
  .exact qL 3 [0] U (aA (iR nP ty51 jr.Docs.1 aS U U U (λ_ _ _ e=>e) (λq4 r4 A4 ok4=>qL 1 [] U (iZ (j:=7) ty31 A4 U U (qL 3 [] U (hk7 _ U))))))
  refine av (bT 9 [69,70,71,72,73,74,75,76,77,78] 69 78 (decide (20<(y1.Needs.length:Int))) U (λc9 hk8=>?_) (λe=>?_))
  .exact qL 3 [0] U (aA (iR nP ty51 jr.Docs.1 aS U U U (λ_ _ _ e=>e) (λq5 r5 A5 ok5=>qL 1 [] U (iZ (j:=8) ty31 A5 U U (qL 3 [] U (hk8 _ U))))))
  refine aF (ae hs6 U (λc10 hs7=>?_) (λc10 hs8=>?_))
  .exact sr (an (nretP [.bool false] (cs hs7)))
  exact aI (qT 3 U (oi i1 U (an (ag1 hs8))))
 rintro i1 hd1 fS hx e
 exact qK 7 [0] U (fO fS U (qO 3 U (hx _ rd)))
theorem H0(h:HF)(bN:Register)(eN:fq)(no:Int)(jr:Sa h bN eN):Ret prog 20 [.agg (vN bN eN).toArray,I no] h (I (fo bN no)):=by
 refine sT func20 U ntmps20 U λX hM hX hF=>?_
 have hs0:=@rfl _ (fo bN no)
 refine sr (cv (λb1=>qO 7 U ?_))
 refine lp0 bN.Docs (λi=>[(1,I no),(2,Q b1),(5,I (i:Int))]) ([(b1,O (vN bN eN) 30)]) (λs1 i=>(fo.L1 no (fo.K1)) s1 i) jr.Docs.1.1 hs0 ?_ ?_ ?_
 .rintro i1 fm hs1 e
  exact sr (an (nretP [I (-1)] (ci hs1)))
 .rintro i1 y1 rz1 hd1 df aS ek gu hs3 hx1 ag1 e
  refine qK 7 [0] U (tO df U (qL 10 [0] U (aA (iR nP ty51 jr.Docs.1 aS U U U (λ_ _ _ e=>e) (λq2 r2 A2 ok2=>qL 1 [] U (dj ty3 A2 U (qO 3 U (ae hs3 U (λc2 hs4=>?_) (λc2 hs5=>?_)))))))))
  .exact sr (qO 3 U (nretP [I (i1:Int)] (ci hs4)))
  exact aI (qT 3 U (oi i1 U (an (ag1 hs5))))
 rintro i1 hd1 fS hx e
 exact qK 7 [0] U (fO fS U (qO 3 U (hx _ rd)))
theorem zb(h:HF)(eE:Int)  : Ret prog 240 [I eE] h (.bool (oo eE)):=by
 refine sT func240 U ntmps240 U λX hM hX hF=>?_
 have hs0:=@rfl _ (oo eE)
 refine qT 9 U (bp 3 [5,6,7,8] 5 8 (decide (eE<1099511627776)) U (λc1 hk1=>?_) (λe=>?_))
 .exact av (qO 2 U (hk1 _ U))
 exact an (nretP [.bool (decide (0<=eE)&&decide (eE<1099511627776))] (cs hs0))
theorem DC(h:HF)(eE:Int)  : Ret prog 241 [I eE] h (.bool (oY eE)):=by
 refine sT func241 U ntmps241 U λX hM hX hF=>?_
 have hs0:=@rfl _ (oY eE)
 refine qT 9 U (bp 3 [5,6,7,8] 5 8 (decide (eE<32)) U (λc1 hk1=>?_) (λe=>?_))
 .exact av (qO 2 U (hk1 _ U))
 exact an (nretP [.bool (decide (0<=eE)&&decide (eE<32))] (cs hs0))
theorem DB(h:HF)(eE:Int)  : Ret prog 242 [I eE] h (.bool (oX eE)):=by
 refine sT func242 U ntmps242 U λX hM hX hF=>?_
 have hs0:=@rfl _ (oX eE)
 refine qT 9 U (bp 3 [5,6,7,8] 5 8 (decide (eE<64)) U (λc1 hk1=>?_) (λe=>?_))
 .exact av (qO 2 U (hk1 _ U))
 exact an (nretP [.bool (decide (0<=eE)&&decide (eE<64))] (cs hs0))
theorem EQ(h:HF)(x:Appoint)  : Ret prog 153 [.agg (jR x).toArray] h (.bool (jX x)):=by
 refine sT func153 U ntmps153 U λX hM hX hF=>?_
 have hs0:=@rfl _ (jX x)
 refine sr (cv (λb1=>qL 9 [0] U (bT 4 [6,7,8,9,10] 6 10 (decide (1048576<x.No)) U (λc1 hk1=>?_) (λe=>?_))))
 .exact qL 4 [0] U (hk1 _ U)
 refine av (bT 5 [11,12,13,14,15,16] 11 16 (!(oo x.At)) U (λc2 hk2=>?_) (λe=>?_))
 .exact qL 2 [0] U (ai call240 (zb h x.At) U (qO 2 U (hk2 _ U)))
 refine av (bT 5 [17,18,19,20,21,22] 17 22 (!(oo x.Known)) U (λc3 hk3=>?_) (λe=>?_))
 .exact qL 2 [0] U (ai call240 (zb h x.Known) U (qO 2 U (hk3 _ U)))
 refine av (bT 5 [23,24,25,26,27,28] 23 28 (!(oY x.Office)) U (λc4 hk4=>?_) (λe=>?_))
 .exact qL 2 [0] U (ai call241 (DC h x.Office) U (qO 2 U (hk4 _ U)))
 refine av (bT 5 [29,30,31,32,33,34] 29 34 (!(oX x.Person)) U (λc5 hk5=>?_) (λe=>?_))
 .exact qL 2 [0] U (ai call242 (DB h x.Person) U (qO 2 U (hk5 _ U)))
 refine aF (ae hs0 U (λc6 hs1=>?_) (λc6 hs2=>?_))
 .exact sr (an (nretP [.bool false] (cs hs1)))
 refine qK 7 [0] U (ae hs2 U (λc7 hs4=>?_) (λc7 hs5=>?_))
 .exact qK 7 [0] U (nretP [.bool (x.Weight==0)] (cs hs4))
 refine qK 7 [0] U (bp 4 [43,44,45,46,47] 43 47 (decide (x.Weight<=64)) U (λc8 hk6=>?_) (λe=>?_))
 .exact qL 4 [0] U (hk6 _ U)
 exact an (nretP [.bool (decide (1<=x.Weight)&&decide (x.Weight<=64))] (cs hs5))
theorem ER(h:HF)(l:List Appoint)(ep:Option Addr)(eo:Nat)(hl:SlC vH h ep eo l):Ret prog 72 [.slice ep l.length eo] h (I (iw l)):=by
 refine sT func72 U ntmps72 U λX hM hX hF=>?_
 have hs0:=@rfl _ (iw l)
 refine qK 11 [] U (ae hs0 U (λc1 hs1=>?_) (λc1 hs2=>?_))
 .have c1p:=of_decide_eq_true c1
  exact sr (an (nretP [I 2] (ci hs1)))
 have c1p:=of_decide_eq_false c1
 refine qT 6 U ?_
 refine lp0 l (λi=>[(0,.slice ep l.length eo),(3,I (i:Int))]) ([]) (λs1 i=>(iw.L1 l (iw.K1)) s1 i) hl.1.1 hs2 ?_ ?_ ?_
 .rintro i1 fm hs4 e
  exact sr (an (nretP [I 0] (ci hs4)))
 .rintro i1 y1 rz1 hd1 df aS ek gu hs6 hx1 ag1 e
  refine qK 6 [] U (tO df U (qO 6 U ?_))
  refine oa [(0,.slice ep l.length eo),(3,I (i1:Int)),(36,.bool ((!(jX y1))||(decide (0<(i1:Int))&&decide (y1.No<=(nthI l ((i1:Int)-1)).No))))] (λe=>?_) (λhk1=>?_)
  rotate_left
  .refine er ([]) mixed kr jn (λdY _=>?_)
   refine qA [0,1] U (eJ 2 (enc:=jR) dY jn ei Eb ty89 hl.1 (nthZ aS) (fh aS) U U U U kr (λq4 A4=>tf 3 U U (λ_ _ hj=>lL ty89 (A4.mono hj.1) U U) (tn 4 U (eZ call153 (EQ h y1) U (⟨jn,qA [5,6] U ?_⟩)))))
   refine dh 19 U (λc2=>?_) (λc2=>?_)
   .exact tk 7 U U (qR 8 16 U (aJ kr (hk1 _ ⟨U,U,(cb (show true=((!(jX y1))||(decide (0<(i1:Int))&&decide (y1.No<=(nthI l ((i1:Int)-1)).No)))from by rw[c2]<;>rfl)),trivial⟩)))
   refine qR 7 3 U ?_
   refine dh 22 U (λc3=>?_) (λc3=>?_)
   .have c3p:=of_decide_eq_true c3
    refine qA [10,11] U (tf 12 U U (λ_ _ _=>ng (v':=I ((i1:Int)-1)) U (jh ob)) ?_)
    have ho2:0<=(((i1:Int)-1):Int)/\(((i1:Int)-1):Int)<((l).length:Int):=ob
    exact eJ 13 (enc:=jR) dY jn ei Eb ty89 hl.1 ho2 (cV ho2) U U U U kr (λq5 A5=>qB [14] U (tf 15 U U (rh ty3 A5 U) (qA [16,17] U (eJ 18 (enc:=jR) dY jn ei Eb ty89 hl.1 (nthZ aS) (fh aS) U U U U kr (λq6 A6=>qB [19] U (tf 20 U U (rh ty3 A6 U) (qR 21 3 U (aJ kr (hk1 _ ⟨U,U,(cb (show decide (y1.No<=(nthI l ((i1:Int)-1)).No)=((!(jX y1))||(decide (0<(i1:Int))&&decide (y1.No<=(nthI l ((i1:Int)-1)).No)))from by rw[c2,c3]<;>rfl)),trivial⟩)))))))))
   have c3p:=of_decide_eq_false c3
   exact tk 10 U U (qR 11 13 U (aJ kr (hk1 _ ⟨U,U,(cb (show false=((!(jX y1))||(decide (0<(i1:Int))&&decide (y1.No<=(nthI l ((i1:Int)-1)).No)))from by rw[c2,c3]<;>rfl)),trivial⟩)))
  refine ae hs6 U (λc4 hs7=>?_) (λc4 hs8=>?_)
  .exact sr (an (nretP [I 150] (ci hs7)))
  exact aI (qT 3 U (oi i1 U (an (ag1 hs8))))
 rintro i1 hd1 fS hx e
 exact qK 6 [] U (fO fS U (qO 3 U (hx _ rd)))
theorem lI(h:HF)(eE:Int)(low:Int)(high:Int)  : Ret prog 243 [I eE,I low,I high] h (.bool (ij eE low high)):=by
 refine sT func243 U ntmps243 U λX hM hX hF=>?_
 have hs0:=@rfl _ (ij eE low high)
 refine qT 10 U (bp 4 [10,11,12,13,14] 10 14 (decide (eE<=high)) U (λc1 hk1=>?_) (λe=>?_))
 .exact av (qO 3 U (hk1 _ U))
 exact an (nretP [.bool (decide (low<=eE)&&decide (eE<=high))] (cs hs0))
theorem za(h:HF)(eE:Int)  : Ret prog 244 [I eE] h (.bool (ol eE)):=by
 refine sT func244 U ntmps244 U λX hM hX hF=>?_
 have hs0:=@rfl _ (ol eE)
 exact sr (qO 5 U (ai II (lI h eE 0 1099511627775) U (an (nretP [.bool (ij eE 0 1099511627775)] (cs hs0)))))
theorem we(h:HF)(eE:Int)  : Ret prog 245 [I eE] h (.bool (mD eE)):=by
 refine sT func245 U ntmps245 U λX hM hX hF=>?_
 have hs0:=@rfl _ (mD eE)
 exact sr (qO 5 U (ai II (lI h eE 0 63) U (an (nretP [.bool (ij eE 0 63)] (cs hs0)))))
theorem EO(h:HF)(x:Deputy)  : Ret prog 154 [.agg (zP x).toArray] h (.bool (jW x)):=by
 refine sT func154 U ntmps154 U λX hM hX hF=>?_
 have hs0:=@rfl _ (jW x)
 refine sr (cv (λb1=>qL 7 [0] U (ai II (lI h x.No 0 1048576) U (qO 2 U (bT 5 [7,8,9,10,11,12] 7 12 (!(ol x.At)) U (λc1 hk1=>?_) (λe=>?_))))))
 .exact qL 2 [0] U (ai call244 (za h x.At) U (qO 2 U (hk1 _ U)))
 refine av (bT 5 [13,14,15,16,17,18] 13 18 (!(ol x.Known)) U (λc2 hk2=>?_) (λe=>?_))
 .exact qL 2 [0] U (ai call244 (za h x.Known) U (qO 2 U (hk2 _ U)))
 refine av (bT 5 [19,20,21,22,23,24] 19 24 (!(mD x.From)) U (λc3 hk3=>?_) (λe=>?_))
 .exact qL 2 [0] U (ai call245 (we h x.From) U (qO 2 U (hk3 _ U)))
 refine av (bT 5 [25,26,27,28,29,30] 25 30 (!(mD x.To)) U (λc4 hk4=>?_) (λe=>?_))
 .exact qL 2 [0] U (ai call245 (we h x.To) U (qO 2 U (hk4 _ U)))
 refine av (bT 6 [31,32,33,34,35,36,37] 31 37 (x.From==x.To) U (λc5 hk5=>?_) (λe=>?_))
 .exact qL 6 [0,0] U (hk5 _ U)
 refine aF (ae hs0 U (λc6 hs1=>?_) (λc6 hs2=>?_))
 .exact sr (an (nretP [.bool false] (cs hs1)))
 refine qK 6 [0] U (ai II (lI h x.Office 0 31) U (qO 2 U (bT 5 [42,43,44,45,46,47] 42 47 (!(ij x.Kind (-1) 15)) U (λc7 hk6=>?_) (λe=>?_))))
 .exact qL 2 [0] U (ai II (lI h x.Kind (-1) 15) U (qO 2 U (hk6 _ U)))
 refine aF (ae hs2 U (λc8 hs4=>?_) (λc8 hs5=>?_))
 .exact sr (an (nretP [.bool false] (cs hs4)))
 refine qK 7 [0] U (ae hs5 U (λc9 hs7=>?_) (λc9 hs8=>?_))
 .refine qK 6 [0] U (bp 4 [53,54,55,56,57] 53 57 (x.Most==0) U (λc10 hk7=>?_) (λe=>?_))
  .exact qL 4 [0] U (hk7 _ U)
  exact an (nretP [.bool ((x.Until==0)&&(x.Most==0))] (cs hs7))
 refine qK 9 [0,0] U (bp 4 [63,64,65,66,67] 63 67 (decide (x.Until<=1099511627776)) U (λc11 hk8=>?_) (λe=>?_))
 .exact qL 4 [0] U (hk8 _ U)
 refine av (bp 4 [68,69,70,71,72] 68 72 (ij x.Most 0 1099511627776) U (λc12 hk9=>?_) (λe=>?_))
 .exact qL 2 [0] U (ai II (lI h x.Most 0 1099511627776) U (eB U (hk9 _ U)))
 exact an (nretP [.bool ((decide (x.At<x.Until)&&decide (x.Until<=1099511627776))&&(ij x.Most 0 1099511627776))] (cs hs8))
theorem EP(h:HF)(l:List Deputy)(ep:Option Addr)(eo:Nat)(hl:SlC Sq h ep eo l):Ret prog 73 [.slice ep l.length eo] h (I (ie l)):=by
 refine sT func73 U ntmps73 U λX hM hX hF=>?_
 have hs0:=@rfl _ (ie l)
 refine qK 11 [] U (ae hs0 U (λc1 hs1=>?_) (λc1 hs2=>?_))
 .have c1p:=of_decide_eq_true c1
  exact sr (an (nretP [I 2] (ci hs1)))
 have c1p:=of_decide_eq_false c1
 refine qT 6 U ?_
 refine lp0 l (λi=>[(0,.slice ep l.length eo),(3,I (i:Int))]) ([]) (λs1 i=>(ie.L1 l (ie.K1)) s1 i) hl.1.1 hs2 ?_ ?_ ?_
 .rintro i1 fm hs4 e
  exact sr (an (nretP [I 0] (ci hs4)))
 .rintro i1 y1 rz1 hd1 df aS ek gu hs6 hx1 ag1 e
  refine qK 6 [] U (tO df U (qO 6 U ?_))
  refine oa [(0,.slice ep l.length eo),(3,I (i1:Int)),(36,.bool ((!(jW y1))||(decide (0<(i1:Int))&&decide (y1.No<=(nthI l ((i1:Int)-1)).No))))] (λe=>?_) (λhk1=>?_)
  rotate_left
  .refine er ([]) mixed kr jn (λdY _=>?_)
   refine qA [0,1] U (eJ 2 (enc:=zP) dY jn ei wM ty93 hl.1 (nthZ aS) (fh aS) U U U U kr (λq4 A4=>tf 3 U U (λ_ _ hj=>lL ty93 (A4.mono hj.1) U U) (tn 4 U (eZ call154 (EO h y1) U (⟨jn,qA [5,6] U ?_⟩)))))
   refine dh 19 U (λc2=>?_) (λc2=>?_)
   .exact tk 7 U U (qR 8 16 U (aJ kr (hk1 _ ⟨U,U,(cb (show true=((!(jW y1))||(decide (0<(i1:Int))&&decide (y1.No<=(nthI l ((i1:Int)-1)).No)))from by rw[c2]<;>rfl)),trivial⟩)))
   refine qR 7 3 U ?_
   refine dh 22 U (λc3=>?_) (λc3=>?_)
   .have c3p:=of_decide_eq_true c3
    refine qA [10,11] U (tf 12 U U (λ_ _ _=>ng (v':=I ((i1:Int)-1)) U (jh ob)) ?_)
    have ho2:0<=(((i1:Int)-1):Int)/\(((i1:Int)-1):Int)<((l).length:Int):=ob
    exact eJ 13 (enc:=zP) dY jn ei wM ty93 hl.1 ho2 (cV ho2) U U U U kr (λq5 A5=>qB [14] U (tf 15 U U (rh ty3 A5 U) (qA [16,17] U (eJ 18 (enc:=zP) dY jn ei wM ty93 hl.1 (nthZ aS) (fh aS) U U U U kr (λq6 A6=>qB [19] U (tf 20 U U (rh ty3 A6 U) (qR 21 3 U (aJ kr (hk1 _ ⟨U,U,(cb (show decide (y1.No<=(nthI l ((i1:Int)-1)).No)=((!(jW y1))||(decide (0<(i1:Int))&&decide (y1.No<=(nthI l ((i1:Int)-1)).No)))from by rw[c2,c3]<;>rfl)),trivial⟩)))))))))
   have c3p:=of_decide_eq_false c3
   exact tk 10 U U (qR 11 13 U (aJ kr (hk1 _ ⟨U,U,(cb (show false=((!(jW y1))||(decide (0<(i1:Int))&&decide (y1.No<=(nthI l ((i1:Int)-1)).No)))from by rw[c2,c3]<;>rfl)),trivial⟩)))
  refine ae hs6 U (λc4 hs7=>?_) (λc4 hs8=>?_)
  .exact sr (an (nretP [I 160] (ci hs7)))
  exact aI (qT 3 U (oi i1 U (an (ag1 hs8))))
 rintro i1 hd1 fS hx e
 exact qK 6 [] U (fO fS U (qO 3 U (hx _ rd)))
theorem yV(h:HF)(t:Int)  : Ret prog 246 [I t] h (.bool (oe t)):=by
 refine sT func246 U ntmps246 U λX hM hX hF=>?_
 have hs0:=@rfl _ (oe t)
 refine qT 9 U (bp 3 [5,6,7,8] 5 8 (decide (t<1099511627776)) U (λc1 hk1=>?_) (λe=>?_))
 .exact av (qO 2 U (hk1 _ U))
 exact an (nretP [.bool (decide (0<=t)&&decide (t<1099511627776))] (cs hs0))
theorem wX(h:HF)(eE:Int)  : Ret prog 247 [I eE] h (.bool (na eE)):=by
 refine sT func247 U ntmps247 U λX hM hX hF=>?_
 have hs0:=@rfl _ (na eE)
 refine qT 9 U (bp 3 [5,6,7,8] 5 8 (decide (eE<=1048576)) U (λc1 hk1=>?_) (λe=>?_))
 .exact av (qO 2 U (hk1 _ U))
 exact an (nretP [.bool (decide (0<=eE)&&decide (eE<=1048576))] (cs hs0))
theorem Dv(h:HF)(eE:Int)  : Ret prog 248 [I eE] h (.bool (oU eE)):=by
 refine sT func248 U ntmps248 U λX hM hX hF=>?_
 have hs0:=@rfl _ (oU eE)
 refine qT 9 U (bp 3 [5,6,7,8] 5 8 (decide (eE<64)) U (λc1 hk1=>?_) (λe=>?_))
 .exact av (qO 2 U (hk1 _ U))
 exact an (nretP [.bool (decide (0<=eE)&&decide (eE<64))] (cs hs0))
theorem ED(h:HF)(x:Interest)  : Ret prog 155 [.agg (vD x).toArray] h (.bool (jy x)):=by
 refine sT func155 U ntmps155 U λX hM hX hF=>?_
 have hs0:=@rfl _ (jy x)
 refine sr (cv (λb1=>qL 9 [0] U (bT 4 [6,7,8,9,10] 6 10 (decide (1048576<x.No)) U (λc1 hk1=>?_) (λe=>?_))))
 .exact qL 4 [0] U (hk1 _ U)
 refine av (bT 5 [11,12,13,14,15,16] 11 16 (!(oe x.At)) U (λc2 hk2=>?_) (λe=>?_))
 .exact qL 2 [0] U (ai call246 (yV h x.At) U (qO 2 U (hk2 _ U)))
 refine av (bT 5 [17,18,19,20,21,22] 17 22 (!(oe x.Known)) U (λc3 hk3=>?_) (λe=>?_))
 .exact qL 2 [0] U (ai call246 (yV h x.Known) U (qO 2 U (hk3 _ U)))
 refine av (bT 5 [23,24,25,26,27,28] 23 28 (!(na x.Party)) U (λc4 hk4=>?_) (λe=>?_))
 .exact qL 2 [0] U (ai call247 (wX h x.Party) U (qO 2 U (hk4 _ U)))
 refine aF (ae hs0 U (λc5 hs1=>?_) (λc5 hs2=>?_))
 .exact sr (an (nretP [.bool false] (cs hs1)))
 refine qK 7 [0] U (ae hs2 U (λc6 hs4=>?_) (λc6 hs5=>?_))
 .refine qK 4 [0] U (ai call247 (wX h x.Person) U (av (bp 6 [34,35,36,37,38,39,40] 34 40 (x.Person != x.Party) U (λc7 hk5=>?_) (λe=>?_))))
  .exact qL 6 [0,0] U (hk5 _ U)
  exact an (nretP [.bool ((na x.Person)&&(x.Person != x.Party))] (cs hs4))
 exact qK 5 [0] U (ai call248 (Dv h x.Person) U (an (nretP [.bool (oU x.Person)] (cs hs5))))
theorem EE(h:HF)(l:List Interest)(ep:Option Addr)(eo:Nat)(hl:SlC jN h ep eo l):Ret prog 74 [.slice ep l.length eo] h (I (ib l)):=by
 refine sT func74 U ntmps74 U λX hM hX hF=>?_
 have hs0:=@rfl _ (ib l)
 refine qK 11 [] U (ae hs0 U (λc1 hs1=>?_) (λc1 hs2=>?_))
 .have c1p:=of_decide_eq_true c1
  exact sr (an (nretP [I 2] (ci hs1)))
 have c1p:=of_decide_eq_false c1
 refine qT 6 U ?_
 refine lp0 l (λi=>[(0,.slice ep l.length eo),(3,I (i:Int))]) ([]) (λs1 i=>(ib.L1 l (ib.K1)) s1 i) hl.1.1 hs2 ?_ ?_ ?_
 .rintro i1 fm hs4 e
  exact sr (an (nretP [I 0] (ci hs4)))
 .rintro i1 y1 rz1 hd1 df aS ek gu hs6 hx1 ag1 e
  refine qK 6 [] U (tO df U (qO 6 U ?_))
  refine oa [(0,.slice ep l.length eo),(3,I (i1:Int)),(36,.bool ((!(jy y1))||(decide (0<(i1:Int))&&decide (y1.No<=(nthI l ((i1:Int)-1)).No))))] (λe=>?_) (λhk1=>?_)
  rotate_left
  .refine er ([]) mixed kr jn (λdY _=>?_)
   refine qA [0,1] U (eJ 2 (enc:=vD) dY jn ei vX ty97 hl.1 (nthZ aS) (fh aS) U U U U kr (λq4 A4=>tf 3 U U (λ_ _ hj=>lL ty97 (A4.mono hj.1) U U) (tn 4 U (eZ call155 (ED h y1) U (⟨jn,qA [5,6] U ?_⟩)))))
   refine dh 19 U (λc2=>?_) (λc2=>?_)
   .exact tk 7 U U (qR 8 16 U (aJ kr (hk1 _ ⟨U,U,(cb (show true=((!(jy y1))||(decide (0<(i1:Int))&&decide (y1.No<=(nthI l ((i1:Int)-1)).No)))from by rw[c2]<;>rfl)),trivial⟩)))
   refine qR 7 3 U ?_
   refine dh 22 U (λc3=>?_) (λc3=>?_)
   .have c3p:=of_decide_eq_true c3
    refine qA [10,11] U (eJ 12 (enc:=vD) dY jn ei vX ty97 hl.1 (nthZ aS) (fh aS) U U U U kr (λq5 A5=>qB [13] U (tf 14 U U (rh ty3 A5 U) (qA [15,16] U (tf 17 U U (λ_ _ _=>ng (v':=I ((i1:Int)-1)) U (jh ob)) ?_)))))
    have ho2:0<=(((i1:Int)-1):Int)/\(((i1:Int)-1):Int)<((l).length:Int):=ob
    exact eJ 18 (enc:=vD) dY jn ei vX ty97 hl.1 ho2 (cV ho2) U U U U kr (λq6 A6=>qB [19] U (tf 20 U U (rh ty3 A6 U) (qR 21 3 U (aJ kr (hk1 _ ⟨U,U,(cb (show decide (y1.No<=(nthI l ((i1:Int)-1)).No)=((!(jy y1))||(decide (0<(i1:Int))&&decide (y1.No<=(nthI l ((i1:Int)-1)).No)))from by rw[c2,c3]<;>rfl)),trivial⟩)))))
   have c3p:=of_decide_eq_false c3
   exact tk 10 U U (qR 11 13 U (aJ kr (hk1 _ ⟨U,U,(cb (show false=((!(jy y1))||(decide (0<(i1:Int))&&decide (y1.No<=(nthI l ((i1:Int)-1)).No)))from by rw[c2,c3]<;>rfl)),trivial⟩)))
  refine ae hs6 U (λc4 hs7=>?_) (λc4 hs8=>?_)
  .exact sr (an (nretP [I 290] (ci hs7)))
  exact aI (qT 3 U (oi i1 U (an (ag1 hs8))))
 rintro i1 hd1 fS hx e
 exact qK 6 [] U (fO fS U (qO 3 U (hx _ rd)))
theorem jO(h:HF)(eE:Int)(least:Int)(most:Int)  : Ret prog 227 [I eE,I least,I most] h (.bool (fJ eE least most)):=by
 refine sT func227 U ntmps227 U λX hM hX hF=>?_
 have hs0:=@rfl _ (fJ eE least most)
 refine qT 10 U (bp 4 [10,11,12,13,14] 10 14 (decide (eE<=most)) U (λc1 hk1=>?_) (λe=>?_))
 .exact av (qO 3 U (hk1 _ U))
 exact an (nretP [.bool (decide (least<=eE)&&decide (eE<=most))] (cs hs0))
theorem lH(h:HF)(eE:Int)  : Ret prog 228 [I eE] h (.bool (gP eE)):=by
 refine sT func228 U ntmps228 U λX hM hX hF=>?_
 have hs0:=@rfl _ (gP eE)
 refine qT 9 U (bp 3 [5,6,7,8] 5 8 (decide (eE<1099511627776)) U (λc1 hk1=>?_) (λe=>?_))
 .exact av (qO 2 U (hk1 _ U))
 exact an (nretP [.bool (decide (0<=eE)&&decide (eE<1099511627776))] (cs hs0))
theorem EK(h:HF)(x:Budget)  : Ret prog 156 [.agg (kK x).toArray] h (.bool (jU x)):=by
 refine sT func156 U ntmps156 U λX hM hX hF=>?_
 have hs0:=@rfl _ (jU x)
 refine sr (cv (λb1=>qL 7 [0] U (ai D6 (jO h x.No 0 1048576) U (qO 2 U (bT 5 [7,8,9,10,11,12] 7 12 (!(gP x.At)) U (λc1 hk1=>?_) (λe=>?_))))))
 .exact qL 2 [0] U (ai IH (lH h x.At) U (qO 2 U (hk1 _ U)))
 refine av (bT 5 [13,14,15,16,17,18] 13 18 (!(gP x.Known)) U (λc2 hk2=>?_) (λe=>?_))
 .exact qL 2 [0] U (ai IH (lH h x.Known) U (qO 2 U (hk2 _ U)))
 refine av (bT 5 [19,20,21,22,23,24] 19 24 (!(fJ x.Kind (-1) 15)) U (λc3 hk3=>?_) (λe=>?_))
 .exact qL 2 [0] U (ai D6 (jO h x.Kind (-1) 15) U (qO 2 U (hk3 _ U)))
 refine av (bT 5 [25,26,27,28,29,30] 25 30 (!(fJ x.Period 1 1099511627776)) U (λc4 hk4=>?_) (λe=>?_))
 .exact qL 2 [0] U (ai D6 (jO h x.Period 1 1099511627776) U (qO 2 U (hk4 _ U)))
 refine aF (ae hs0 U (λc5 hs1=>?_) (λc5 hs2=>?_))
 .exact sr (an (nretP [.bool false] (cs hs1)))
 refine qK 7 [0] U (ae hs2 U (λc6 hs4=>?_) (λc6 hs5=>?_))
 .refine qK 6 [0] U (bp 4 [36,37,38,39,40] 36 40 (x.Value==0) U (λc7 hk5=>?_) (λe=>?_))
  .exact qL 4 [0] U (hk5 _ U)
  exact an (nretP [.bool ((x.Count==0)&&(x.Value==0))] (cs hs4))
 refine qK 5 [0] U (ai D6 (jO h x.Count 0 1048576) U (av (bp 4 [44,45,46,47,48] 44 48 (fJ x.Value 0 1099511627776) U (λc8 hk6=>?_) (λe=>?_))))
 .exact qL 2 [0] U (ai D6 (jO h x.Value 0 1099511627776) U (eB U (hk6 _ U)))
 exact an (nretP [.bool ((fJ x.Count 0 1048576)&&(fJ x.Value 0 1099511627776))] (cs hs5))
theorem w6(h:HF)(l:List Budget)(ep:Option Addr)(eo:Nat)(hl:SlC Sj h ep eo l):Ret prog 75 [.slice ep l.length eo] h (I (fE l)):=by
 refine sT func75 U ntmps75 U λX hM hX hF=>?_
 have hs0:=@rfl _ (fE l)
 refine qK 11 [] U (ae hs0 U (λc1 hs1=>?_) (λc1 hs2=>?_))
 .have c1p:=of_decide_eq_true c1
  exact sr (an (nretP [I 2] (ci hs1)))
 have c1p:=of_decide_eq_false c1
 refine qT 6 U ?_
 refine lp0 l (λi=>[(0,.slice ep l.length eo),(3,I (i:Int))]) ([]) (λs1 i=>(fE.L1 l (fE.K1)) s1 i) hl.1.1 hs2 ?_ ?_ ?_
 .rintro i1 fm hs4 e
  exact sr (an (nretP [I 0] (ci hs4)))
 .rintro i1 y1 rz1 hd1 df aS ek gu hs6 hx1 ag1 e
  refine qK 6 [] U (tO df U (qO 6 U ?_))
  refine oa [(0,.slice ep l.length eo),(3,I (i1:Int)),(36,.bool ((!(jU y1))||(decide (0<(i1:Int))&&decide (y1.No<=(nthI l ((i1:Int)-1)).No))))] (λe=>?_) (λhk1=>?_)
  rotate_left
  .refine er ([]) mixed kr jn (λdY _=>?_)
   refine qA [0,1] U (eJ 2 (enc:=kK) dY jn ei uv ty101 hl.1 (nthZ aS) (fh aS) U U U U kr (λq4 A4=>tf 3 U U (λ_ _ hj=>lL ty101 (A4.mono hj.1) U U) (tn 4 U (eZ call156 (EK h y1) U (⟨jn,qA [5,6] U ?_⟩)))))
   refine dh 19 U (λc2=>?_) (λc2=>?_)
   .exact tk 7 U U (qR 8 16 U (aJ kr (hk1 _ ⟨U,U,(cb (show true=((!(jU y1))||(decide (0<(i1:Int))&&decide (y1.No<=(nthI l ((i1:Int)-1)).No)))from by rw[c2]<;>rfl)),trivial⟩)))
   refine qR 7 3 U ?_
   refine dh 22 U (λc3=>?_) (λc3=>?_)
   .have c3p:=of_decide_eq_true c3
    refine qA [10,11] U (tf 12 U U (λ_ _ _=>ng (v':=I ((i1:Int)-1)) U (jh ob)) ?_)
    have ho2:0<=(((i1:Int)-1):Int)/\(((i1:Int)-1):Int)<((l).length:Int):=ob
    exact eJ 13 (enc:=kK) dY jn ei uv ty101 hl.1 ho2 (cV ho2) U U U U kr (λq5 A5=>qB [14] U (tf 15 U U (rh ty3 A5 U) (qA [16,17] U (eJ 18 (enc:=kK) dY jn ei uv ty101 hl.1 (nthZ aS) (fh aS) U U U U kr (λq6 A6=>qB [19] U (tf 20 U U (rh ty3 A6 U) (qR 21 3 U (aJ kr (hk1 _ ⟨U,U,(cb (show decide (y1.No<=(nthI l ((i1:Int)-1)).No)=((!(jU y1))||(decide (0<(i1:Int))&&decide (y1.No<=(nthI l ((i1:Int)-1)).No)))from by rw[c2,c3]<;>rfl)),trivial⟩)))))))))
   have c3p:=of_decide_eq_false c3
   exact tk 10 U U (qR 11 13 U (aJ kr (hk1 _ ⟨U,U,(cb (show false=((!(jU y1))||(decide (0<(i1:Int))&&decide (y1.No<=(nthI l ((i1:Int)-1)).No)))from by rw[c2,c3]<;>rfl)),trivial⟩)))
  refine ae hs6 U (λc4 hs7=>?_) (λc4 hs8=>?_)
  .exact sr (an (nretP [I 180] (ci hs7)))
  exact aI (qT 3 U (oi i1 U (an (ag1 hs8))))
 rintro i1 hd1 fS hx e
 exact qK 6 [] U (fO fS U (qO 3 U (hx _ rd)))
theorem qe(h:HF)(eE:Int)  : Ret prog 157 [I eE] h (.bool (fD eE)):=by
 refine sT func157 U ntmps157 U λX hM hX hF=>?_
 have hs0:=@rfl _ (fD eE)
 refine qT 9 U (bp 3 [5,6,7,8] 5 8 (decide (eE<1099511627776)) U (λc1 hk1=>?_) (λe=>?_))
 .exact av (qO 2 U (hk1 _ U))
 exact an (nretP [.bool (decide (0<=eE)&&decide (eE<1099511627776))] (cs hs0))
theorem Dy(rec:Expr->Int->Int)(h:HF)(x:Expr)(fT:cN)(limit:Int)(hrec:∀(h:HF)(qx:Expr)(kz:cN)(qlimit:Int)(hqx:zG h qx kz)(_:qx.dep<x.dep),Ret prog 366 [.agg (vC qx kz).toArray,I qlimit] h (I (rec qx qlimit)))(hx:zG h x fT):Ret prog 366 [.agg (vC x fT).toArray,I limit] h (I (dv.F rec x limit)):=by
 refine sT func366 U ntmps366 U λX hM hX hF=>?_
 have hs0:=@rfl _ (dv.F rec x limit)
 refine sr (cv (λb1=>qO 11 U ?_))
 refine lp1 x.L (λi w=>[(1,I limit),(2,Q b1),(5,I w),(6,I (i:Int))]) ([(b1,O (vC x fT) 62)]) (λs1 i w=>(dv.L1 rec limit (dv.K1)) s1 w) 1 hx.list.1.1 hs0 ?_ ?_ ?_
 .rintro i1 eO fm hs1 e
  exact sr (qO 3 U (nretP [I eO] (ci hs1)))
 .rintro i1 eO y1 rz1 hd1 df aS ek gu hs3 hx1 ag1 e
  refine qK 7 [0] U (tO df U (qO 6 U (ae hs3 U (λc2 hs4=>?_) (λc2 hs5=>?_))))
  .have c2p:=of_decide_eq_true c2
   exact qK 8 [0] U (aA (iR lB ty62 hx.list.1 aS U U U (λ_ _ _ e=>e) (λq2 r2 A2 ok2=>dt ty62 A2 U U (qO 3 U (ai call366 (hrec _ _ _ (jC .i64 (limit-eO)) ok2 (R3 (fN hd1))) U (qO 6 U (oi i1 U (qO 2 U (ag1 (jC .i64 (eO+(rec y1 (jC .i64 (limit-eO))))) hs4)))))))))
  have c2p:=of_decide_eq_false c2
  exact lK U (hx1 i1 eO hs5)
 rintro i1 eO hd1 fS hx e
 exact qK 7 [0] U (fO fS U (qO 8 U (hx _ rd)))
theorem tJ:∀(m:Nat)(h:HF)(x:Expr)(fT:cN)(limit:Int)(_:x.dep<=m)(hx:zG h x fT),Ret prog 366 [.agg (vC x fT).toArray,I limit] h (I (dv.go m x limit))
 |0,h,x,fT,limit,hd,hx=>absurd hd (Nat.not_le.2 (Th _))
 |m+1,h,x,fT,limit,hd,hx=>Dy (dv.go m) h x fT limit (λqh_ qx kz qlimit qhx qd=>tJ m qh_ qx kz qlimit ob qhx) hx
theorem EI(h:HF)(x:Expr)(fT:cN)(limit:Int)(hx:zG h x fT):Ret prog 366 [.agg (vC x fT).toArray,I limit] h (I (dv x limit)):=tJ _ h x fT limit (jG _) hx
theorem Dz(rec:Expr->Int)(h:HF)(x:Expr)(fT:cN)(hrec:∀(h:HF)(qx:Expr)(kz:cN)(hqx:zG h qx kz)(_:qx.dep<x.dep),Ret prog 367 [.agg (vC qx kz).toArray] h (I (rec qx)))(hx:zG h x fT):Ret prog 367 [.agg (vC x fT).toArray] h (I (aY.F rec x)):=by
 refine sT func367 U ntmps367 U λX hM hX hF=>?_
 have hs0:=@rfl _ (aY.F rec x)
 refine sr (cv (λb1=>qO 11 U ?_))
 refine lp1 x.L (λi w=>[(1,Q b1),(3,I w),(4,I (i:Int))]) ([(b1,O (vC x fT) 62)]) (λs1 i w=>(aY.L1 rec (aY.K1)) s1 w) 0 hx.list.1.1 hs0 ?_ ?_ ?_
 .rintro i1 iu fm hs1 e
  exact sr (qO 4 U (nretP [I (jC .i64 (iu+1))] (ci hs1)))
 .rintro i1 iu y1 rz1 hd1 df aS ek gu hs3 hx1 ag1 e
  exact qK 7 [0] U (tO df U (qL 10 [0] U (aA (iR lB ty62 hx.list.1 aS U U U (λ_ _ _ e=>e) (λq2 r2 A2 ok2=>dt ty62 A2 U U (ai call367 (hrec _ _ _ ok2 (R3 (fN hd1))) U (aA (eT (Qv U U) (qO 5 U (oi i1 U (an (ag1 (max iu (rec y1)) hs3))))))))))))
 rintro i1 iu hd1 fS hx e
 exact qK 7 [0] U (fO fS U (qO 3 U (hx _ rd)))
theorem tK:∀(m:Nat)(h:HF)(x:Expr)(fT:cN)(_:x.dep<=m)(hx:zG h x fT),Ret prog 367 [.agg (vC x fT).toArray] h (I (aY.go m x))
 |0,h,x,fT,hd,hx=>absurd hd (Nat.not_le.2 (Th _))
 |m+1,h,x,fT,hd,hx=>Dz (aY.go m) h x fT (λqh_ qx kz qhx qd=>tK m qh_ qx kz ob qhx) hx
theorem EJ(h:HF)(x:Expr)(fT:cN)(hx:zG h x fT):Ret prog 367 [.agg (vC x fT).toArray] h (I (aY x)):=tK _ h x fT (jG _) hx
theorem wZ(h:HF)(x:Expr)(fT:cN)(hx:zG h x fT):Ret prog 338 [.agg (vC x fT).toArray] h (.bool (jI x)):=by
 refine sT func338 U ntmps338 U λX hM hX hF=>?_
 have hs0:=@rfl _ (jI x)
 refine sr (cv (λb1=>qO 4 U (cM 0 ty62 U U U (ai call366 (EI _ _ _ 256 hx) U (qO 2 U (bT 4 [6,7,8,9,10] 6 10 (decide (16<(aY x))) U (λc1 hk1=>?_) (λe=>?_)))))))
 .exact cM 0 ty62 U U U (ai call367 (EJ _ _ _ hx) U (qO 2 U (hk1 _ U)))
 exact an (nretP [.bool (decide (256<(dv x 256))||decide (16<(aY x)))] (cs hs0))
theorem AV(h:HF)(p:Policy)(gM:eR)(hp:vP h p gM):Ret prog 304 [.agg (xE p gM).toArray] h (.bool (fa p)):=by
 refine sT func304 U ntmps304 U λX hM hX hF=>?_
 have hs0:=@rfl _ (fa p)
 refine sr (cv (λb1=>qL 10 [0] U (bT 5 [8,9,10,11,12,13] 8 13 (decide (16<(p.Kinds.length:Int))) U (λc1 hk1=>?_) (λe=>?_))))
 .exact qL 5 [0] U (hk1 _ U)
 refine av (bT 5 [14,15,16,17,18,19] 14 19 (decide (16<(p.Rules.length:Int))) U (λc2 hk2=>?_) (λe=>?_))
 .exact qL 5 [0] U (hk2 _ U)
 refine av (bT 4 [20,21,22,23,24] 20 24 (jI p.Change) U (λc3 hk3=>?_) (λe=>?_))
 .exact qL 1 [] U (cM 0 ty62 U U U (ai call338 (wZ _ _ _ hp.Change) U (eB U (hk3 _ U))))
 refine aF (ae hs0 U (λc4 hs1=>?_) (λc4 hs2=>?_))
 .exact sr (an (nretP [.bool true] (cs hs1)))
 refine qT 6 U ?_
 refine lp0 p.Rules (λi=>[(1,Q b1),(3,I (i:Int))]) ([(b1,O (xE p gM) 64)]) (λs1 i=>(fa.L1 (fa.K1)) s1) hp.Rules.1.1 hs2 ?_ ?_ ?_
 .rintro i1 fm hs4 e
  exact sr (an (nretP [.bool false] (cs hs4)))
 .rintro i1 y1 rz1 hd1 df aS ek gu hs6 hx1 ag1 e
  refine qK 7 [0] U (tO df U (qL 10 [0] U (aA (iR wu ty79 hp.Rules.1 aS U U U (λ_ _ _ e=>e) (λq2 r2 A2 ok2=>qL 1 [] U (Af (j:=3) ty62 A2 U U (ai call338 (wZ _ _ _ ok2.Expr) U (aF (ae hs6 U (λc6 hs7=>?_) (λc6 hs8=>?_))))))))))
  .exact sr (an (nretP [.bool true] (cs hs7)))
  exact aI (qT 3 U (oi i1 U (an (ag1 hs8))))
 rintro i1 hd1 fS hx e
 exact qK 7 [0] U (fO fS U (qO 3 U (hx _ rd)))
theorem wg(h:HF)(c:Int)  : Ret prog 379 [Y c] h (.bool (lh c)):=by
 refine sT func379 U ntmps379 U λX hM hX hF=>?_
 have hs0:=@rfl _ (lh c)
 refine qT 9 U (bp 3 [5,6,7,8] 5 8 (decide (c<=122)) U (λc1 hk1=>?_) (λe=>?_))
 .exact av (qO 2 U (hk1 _ U))
 refine av (bT 7 [9,10,11,12,13,14,15,16] 9 16 (decide (65<=c)&&decide (c<=90)) U (λc2 hk2=>?_) (λe=>?_))
 .refine qO 3 U (bp 3 [12,13,14,15] 12 15 (decide (c<=90)) U (λc3 hk3=>?_) (λe=>?_))
  .exact av (qO 2 U (hk3 _ U))
  exact eB U (hk2 _ U)
 exact an (nretP [.bool ((decide (97<=c)&&decide (c<=122))||(decide (65<=c)&&decide (c<=90)))] (cs hs0))
theorem DD(h:HF)(c:Int)  : Ret prog 386 [Y c] h (.bool (nB c)):=by
 refine sT func386 U ntmps386 U λX hM hX hF=>?_
 have hs0:=@rfl _ (nB c)
 refine qT 9 U (bp 3 [5,6,7,8] 5 8 (decide (c<=57)) U (λc1 hk1=>?_) (λe=>?_))
 .exact av (qO 2 U (hk1 _ U))
 exact an (nretP [.bool (decide (48<=c)&&decide (c<=57))] (cs hs0))
theorem Gk(h:HF)(c:Int)  : Ret prog 380 [Y c] h (.bool (sM c)):=by
 refine sT func380 U ntmps380 U λX hM hX hF=>?_
 have hs0:=@rfl _ (sM c)
 refine qT 7 U (ai call379 (wg h c) U (av (bT 3 [5,6,7,8] 5 8 (nB c) U (λc1 hk1=>?_) (λe=>?_))))
 .exact av (ai call386 (DD h c) U (eB U (hk1 _ U)))
 refine av (bT 3 [9,10,11,12] 9 12 (c==95) U (λc2 hk2=>?_) (λe=>?_))
 .exact av (qO 2 U (hk2 _ U))
 exact an (nretP [.bool (((lh c)||(nB c))||(c==95))] (cs hs0))
theorem Gl(h:HF)(s:ByteArray)  : Ret prog 368 [.string s] h (.bool (gI s)):=by
 refine sT func368 U ntmps368 U λX hM hX hF=>?_
 have hs0:=@rfl _ (gI s)
 refine qT 8 U (aA (eT (BY AD U) (qO 2 U (bT 4 [7,8,9,10,11] 7 11 (decide (32<(s.size:Int))) U (λc1 hk1=>?_) (λe=>?_)))))
 .exact av (aA (eT (BY AD U) (qO 2 U (hk1 _ U))))
 refine av (bT 5 [12,13,14,15,16,17] 12 17 (!(lh ((s.data.getD (0:Int).toNat 0).toNat:Int))) U (λc2 hk2=>?_) (λe=>?_))
 .refine av ?_
  have ho1:0<=(0:Int)/\(0:Int)<(s.size:Int):=ob
  exact aA (eT (H6 AD U U ho1) (ai call379 (wg h ((s.data.getD (0:Int).toNat 0).toNat:Int)) U (qO 2 U (hk2 _ U))))
 refine aF (ae hs0 U (λc3 hs1=>?_) (λc3 hs2=>?_))
 .exact sr (an (nretP [.bool false] (cs hs1)))
 refine qT 6 U ?_
 refine ir (ι:=Nat) (λi=>[]) (λi=>h) (λi=>[]) (λi=>i<=(qH s.size).length/\gI s=((gI.K1))) ?_ (λhx1=>?_)
 .rintro i1 ⟨fm,hs4⟩ e
  exact sr (an (nretP [.bool true] (cs hs4)))
 refine jZ (ι:=Nat×List Nat) (λi=>[(0,.string s),(3,I (i.1:Int))]) (λi=>h) (λi=>[]) (λi=>(qH s.size).drop i.1=i.2/\i.1<=(qH s.size).length/\gI s=((gI.L1 s (gI.K1)) i.2 i.1)) (λi=>i.2.length) (0,(qH s.size)) rd sw ⟨U,qM _,hs2⟩ ?_
 rintro⟨i1,s1⟩ ⟨hd1,fm,hs6⟩ ag1 e
 rcases s1 with _|⟨y1,rz1⟩
 .have fS:decide ((i1:Int)<(s.size:Int))=false:=by simpa using mR hd1
  exact dK (qT 4 U (aA (eT (BY AD U) (fO fS U (qO 3 U (hx1 i1 _ ⟨fm,hs6⟩ trivial))))))
 have df:decide ((i1:Int)<(s.size:Int))=true:=by simpa using s8 hd1
 have ek:i1<s.size:=by simpa using hY hd1
 refine qT 5 U (aA (eT (BY AD U) (tO df U (qO 9 U ?_))))
 have ho3:0<=((i1:Int):Int)/\((i1:Int):Int)<(s.size:Int):=ob
 refine aA (eT (H6 AD U U ho3) (ai call380 (Gk h ((s.data.getD ((i1:Int):Int).toNat 0).toNat:Int)) U (qO 2 U (ae hs6 U (λc5 hs8=>?_) (λc5 hs9=>?_)))))
 .exact sr (an (nretP [.bool false] (cs hs8)))
 exact aI (qT 3 U (oi i1 U (an (ag1 ((i1+1),rz1) _ (Nat.lt_succ_self _) ⟨kw hd1,hY hd1,hs9⟩ rd))))
theorem Gd(h:HF)(s:ByteArray)  : Ret prog 369 [.string s] h (.bool (oh s)):=by
 refine sT func369 U ntmps369 U λX hM hX hF=>?_
 have hs0:=@rfl _ (oh s)
 refine qT 16 U (ae hs0 U (λc1 hs1=>?_) (λc1 hs2=>?_))
 .refine aI (ae hs1 U (λc2 hs3=>?_) (λc2 hs4=>?_))
  .exact sr (an (nretP [.bool true] (cs hs3)))
  exact aI (qT 5 U (nretP [.bool false] (cs hs4)))
 refine qT 5 U (ae hs2 U (λc3 hs7=>?_) (λc3 hs8=>?_))
 .refine aI (ae hs7 U (λc4 hs9=>?_) (λc4 hs10=>?_))
  .exact sr (an (nretP [.bool true] (cs hs9)))
  exact aI (qT 5 U (nretP [.bool false] (cs hs10)))
 refine qT 5 U (ae hs8 U (λc5 hs13=>?_) (λc5 hs14=>?_))
 .refine aI (ae hs13 U (λc6 hs15=>?_) (λc6 hs16=>?_))
  .exact sr (an (nretP [.bool true] (cs hs15)))
  exact aI (qT 5 U (nretP [.bool false] (cs hs16)))
 refine qT 5 U (ae hs14 U (λc7 hs19=>?_) (λc7 hs20=>?_))
 .refine aI (ae hs19 U (λc8 hs21=>?_) (λc8 hs22=>?_))
  .exact sr (an (nretP [.bool true] (cs hs21)))
  exact aI (qT 5 U (nretP [.bool false] (cs hs22)))
 refine qT 5 U (ae hs20 U (λc9 hs25=>?_) (λc9 hs26=>?_))
 .refine aI (ae hs25 U (λc10 hs27=>?_) (λc10 hs28=>?_))
  .exact sr (an (nretP [.bool true] (cs hs27)))
  exact aI (qT 5 U (nretP [.bool false] (cs hs28)))
 refine qT 5 U (ae hs26 U (λc11 hs31=>?_) (λc11 hs32=>?_))
 .refine aI (ae hs31 U (λc12 hs33=>?_) (λc12 hs34=>?_))
  .exact sr (an (nretP [.bool true] (cs hs33)))
  exact aI (qT 5 U (nretP [.bool false] (cs hs34)))
 refine qT 5 U (ae hs32 U (λc13 hs37=>?_) (λc13 hs38=>?_))
 .refine aI (ae hs37 U (λc14 hs39=>?_) (λc14 hs40=>?_))
  .exact sr (an (nretP [.bool true] (cs hs39)))
  exact aI (qT 5 U (nretP [.bool false] (cs hs40)))
 refine qT 5 U (ae hs38 U (λc15 hs43=>?_) (λc15 hs44=>?_))
 .refine aI (ae hs43 U (λc16 hs45=>?_) (λc16 hs46=>?_))
  .exact sr (an (nretP [.bool true] (cs hs45)))
  exact aI (qT 5 U (nretP [.bool false] (cs hs46)))
 refine qT 5 U (ae hs44 U (λc17 hs49=>?_) (λc17 hs50=>?_))
 .refine aI (ae hs49 U (λc18 hs51=>?_) (λc18 hs52=>?_))
  .exact sr (an (nretP [.bool true] (cs hs51)))
  exact aI (qT 5 U (nretP [.bool false] (cs hs52)))
 refine qT 5 U (ae hs50 U (λc19 hs55=>?_) (λc19 hs56=>?_))
 .refine aI (ae hs55 U (λc20 hs57=>?_) (λc20 hs58=>?_))
  .exact sr (an (nretP [.bool true] (cs hs57)))
  exact aI (qT 5 U (nretP [.bool false] (cs hs58)))
 refine qT 5 U (ae hs56 U (λc21 hs61=>?_) (λc21 hs62=>?_))
 .refine aI (ae hs61 U (λc22 hs63=>?_) (λc22 hs64=>?_))
  .exact sr (an (nretP [.bool true] (cs hs63)))
  exact aI (qT 5 U (nretP [.bool false] (cs hs64)))
 refine qT 5 U (ae hs62 U (λc23 hs67=>?_) (λc23 hs68=>?_))
 .refine aI (ae hs67 U (λc24 hs69=>?_) (λc24 hs70=>?_))
  .exact sr (an (nretP [.bool true] (cs hs69)))
  exact aI (qT 5 U (nretP [.bool false] (cs hs70)))
 refine qT 5 U (ae hs68 U (λc25 hs73=>?_) (λc25 hs74=>?_))
 .refine aI (ae hs73 U (λc26 hs75=>?_) (λc26 hs76=>?_))
  .exact sr (an (nretP [.bool true] (cs hs75)))
  exact aI (qT 5 U (nretP [.bool false] (cs hs76)))
 refine qT 5 U (ae hs74 U (λc27 hs79=>?_) (λc27 hs80=>?_))
 .refine aI (ae hs79 U (λc28 hs81=>?_) (λc28 hs82=>?_))
  .exact sr (an (nretP [.bool true] (cs hs81)))
  exact aI (qT 5 U (nretP [.bool false] (cs hs82)))
 refine qT 5 U (ae hs80 U (λc29 hs85=>?_) (λc29 hs86=>?_))
 .refine aI (ae hs85 U (λc30 hs87=>?_) (λc30 hs88=>?_))
  .exact sr (an (nretP [.bool true] (cs hs87)))
  exact aI (qT 5 U (nretP [.bool false] (cs hs88)))
 refine qT 4 U (ae hs86 U (λc31 hs91=>?_) (λc31 hs92=>?_))
 .exact sr (an (nretP [.bool true] (cs hs91)))
 exact aI (qT 5 U (nretP [.bool false] (cs hs92)))
theorem yX(h:HF)(s:ByteArray)  : Ret prog 339 [.string s] h (.bool (nd s)):=by
 refine sT func339 U ntmps339 U λX hM hX hF=>?_
 have hs0:=@rfl _ (nd s)
 refine qT 7 U (ai call368 (Gl h s) U (av (bp 4 [5,6,7,8,9] 5 9 (!(oh s)) U (λc1 hk1=>?_) (λe=>?_))))
 .exact av (ai call369 (Gd h s) U (qO 2 U (hk1 _ U)))
 exact an (nretP [.bool ((gI s)&&(!(oh s)))] (cs hs0))
theorem sL(h:HF)(l:List ByteArray)(ep:Option Addr)(eo:Nat)(s:ByteArray)(hl:SlC SO h ep eo l):Ret prog 343 [.slice ep l.length eo,.string s] h (I (et l s)):=by
 refine sT func343 U ntmps343 U λX hM hX hF=>?_
 have hs0:=@rfl _ (et l s)
 refine qT 9 U ?_
 refine lp0 l (λi=>[(0,.slice ep l.length eo),(1,.string s),(5,I (i:Int))]) ([]) (λs1 i=>(et.L1 s (et.K1)) s1 i) hl.1.1 hs0 ?_ ?_ ?_
 .rintro i1 fm hs1 e
  exact sr (an (nretP [I (-1)] (ci hs1)))
 .rintro i1 y1 rz1 hd1 df aS ek gu hs3 hx1 ag1 e
  refine qK 6 [] U (tO df U (qO 9 U (aA (iF (λy=>[.string y]) vY ty9 hl.1 aS U U U (λq2 A2=>dj ty9 A2 U (qO 3 U (ae hs3 U (λc2 hs4=>?_) (λc2 hs5=>?_))))))))
  .exact sr (qO 3 U (nretP [I (i1:Int)] (ci hs4)))
  exact aI (qT 3 U (oi i1 U (an (ag1 hs5))))
 rintro i1 hd1 fS hx e
 exact qK 6 [] U (fO fS U (qO 3 U (hx _ rd)))
theorem tH(h:HF)(l:List ByteArray)(ep:Option Addr)(eo:Nat)(hl:SlC SO h ep eo l):Ret prog 340 [.slice ep l.length eo] h (.bool (eK l)):=by
 refine sT func340 U ntmps340 U λX hM hX hF=>?_
 have hs0:=@rfl _ (eK l)
 refine qT 9 U ?_
 refine lp0 l (λi=>[(0,.slice ep l.length eo),(3,I (i:Int))]) ([]) (λs1 i=>(eK.L1 l (eK.K1)) s1 i) hl.1.1 hs0 ?_ ?_ ?_
 .rintro i1 fm hs1 e
  exact sr (an (nretP [.bool true] (cs hs1)))
 .rintro i1 y1 rz1 hd1 df aS ek gu hs3 hx1 ag1 e
  refine qK 6 [] U (tO df U (qO 9 U (aA (iF (λy=>[.string y]) vY ty9 hl.1 aS U U U (λq3 A3=>dj ty9 A3 U (ai call339 (yX h y1) U (qO 2 U (bT 9 [16,17,18,19,20,21,22,23,24,25] 16 25 ((et l y1) != (i1:Int)) U (λc1 hk1=>?_) (λe=>?_)))))))))
  .exact av (qO 2 U (aA (iF (λy=>[.string y]) vY ty9 hl.1 aS U U U (λq4 A4=>dj ty9 A4 U (ai call343 (sL _ _ _ _ y1 hl) U (qO 3 U (hk1 _ U)))))))
  refine aF (ae hs3 U (λc2 hs4=>?_) (λc2 hs5=>?_))
  .exact sr (an (nretP [.bool false] (cs hs4)))
  exact aI (qT 3 U (oi i1 U (an (ag1 hs5))))
 rintro i1 hd1 fS hx e
 exact qK 6 [] U (fO fS U (qO 3 U (hx _ rd)))
theorem Dw(rec:List ByteArray->Expr->Bool)(h:HF)(offices:List ByteArray)(dA:Option Addr)(dz:Nat)(x:Expr)(fT:cN)(hrec:∀(h:HF)(qoffices:List ByteArray)(jo:Option Addr)(jm:Nat)(qx:Expr)(kz:cN)(hqoffices:SlC SO h jo jm qoffices)(hqx:zG h qx kz)(_:qx.dep<x.dep),Ret prog 341 [.slice jo qoffices.length jm,.agg (vC qx kz).toArray] h (.bool (rec qoffices qx)))(hoffices:SlC SO h dA dz offices)(hx:zG h x fT):Ret prog 341 [.slice dA offices.length dz,.agg (vC x fT).toArray] h (.bool (bK.F rec offices x)):=by
 refine sT func341 U ntmps341 U λX hM hX hF=>?_
 have hs0:=@rfl _ (bK.F rec offices x)
 refine sr (cv (λb1=>qL 9 [0] U (bT 4 [9,10,11,12,13] 9 13 (x.Kind==2) U (λc1 hk1=>?_) (λe=>?_))))
 .exact qL 4 [0] U (hk1 _ U)
 refine av (bp 6 [14,15,16,17,18,19,20] 14 20 (decide ((et offices x.Name)<0)) U (λc2 hk2=>?_) (λe=>?_))
 .exact qL 3 [0] U (ai call343 (sL _ _ _ _ x.Name hoffices) U (qO 2 U (hk2 _ U)))
 refine aF (ae hs0 U (λc3 hs1=>?_) (λc3 hs2=>?_))
 .exact sr (an (nretP [.bool false] (cs hs1)))
 refine qT 6 U ?_
 refine lp0 x.L (λi=>[(0,.slice dA offices.length dz),(3,Q b1),(5,I (i:Int))]) ([(b1,O (vC x fT) 62)]) (λs1 i=>(bK.L1 rec offices (bK.K1)) s1) hx.list.1.1 hs2 ?_ ?_ ?_
 .rintro i1 fm hs4 e
  exact sr (an (nretP [.bool true] (cs hs4)))
 .rintro i1 y1 rz1 hd1 df aS ek gu hs6 hx1 ag1 e
  refine qK 7 [0] U (tO df U (qL 11 [0] U (aA (iR lB ty62 hx.list.1 aS U U U (λ_ _ _ e=>e) (λq2 r2 A2 ok2=>dt ty62 A2 U U (ai call341 (hrec _ _ _ _ _ _ hoffices ok2 (R3 (fN hd1))) U (qO 2 U (ae hs6 U (λc5 hs7=>?_) (λc5 hs8=>?_)))))))))
  .exact sr (an (nretP [.bool false] (cs hs7)))
  exact aI (qT 3 U (oi i1 U (an (ag1 hs8))))
 rintro i1 hd1 fS hx e
 exact qK 7 [0] U (fO fS U (qO 3 U (hx _ rd)))
theorem tG:∀(m:Nat)(h:HF)(offices:List ByteArray)(dA:Option Addr)(dz:Nat)(x:Expr)(fT:cN)(_:x.dep<=m)(hoffices:SlC SO h dA dz offices)(hx:zG h x fT),Ret prog 341 [.slice dA offices.length dz,.agg (vC x fT).toArray] h (.bool (bK.go m offices x))
 |0,h,offices,dA,dz,x,fT,hd,hoffices,hx=>absurd hd (Nat.not_le.2 (Th _))
 |m+1,h,offices,dA,dz,x,fT,hd,hoffices,hx=>Dw (bK.go m) h offices dA dz x fT (λqh_ qoffices jo jm qx kz qhoffices qhx qd=>tG m qh_ qoffices jo jm qx kz ob qhoffices qhx) hoffices hx
theorem wY(h:HF)(offices:List ByteArray)(dA:Option Addr)(dz:Nat)(x:Expr)(fT:cN)(hoffices:SlC SO h dA dz offices)(hx:zG h x fT):Ret prog 341 [.slice dA offices.length dz,.agg (vC x fT).toArray] h (.bool (bK offices x)):=tG _ h offices dA dz x fT (jG _) hoffices hx
theorem EH(h:HF)(p:Policy)(gM:eR)(hp:vP h p gM):Ret prog 305 [.agg (xE p gM).toArray] h (.bool (gO p)):=by
 refine sT func305 U ntmps305 U λX hM hX hF=>?_
 have hs0:=@rfl _ (gO p)
 refine sr (cv (λb1=>qL 7 [0] U (ai call339 (yX h p.Name) U (qO 2 U (bT 5 [8,9,10,11,12,13] 8 13 (!(eK p.Offices)) U (λc1 hk1=>?_) (λe=>?_))))))
 .exact qL 2 [0] U (ai call340 (tH _ _ _ _ hp.Offices) U (qO 2 U (hk1 _ U)))
 refine av (bT 5 [14,15,16,17,18,19] 14 19 (!(eK p.Kinds)) U (λc2 hk2=>?_) (λe=>?_))
 .exact qL 2 [0] U (ai call340 (tH _ _ _ _ hp.Kinds) U (qO 2 U (hk2 _ U)))
 refine aF (ae hs0 U (λc3 hs1=>?_) (λc3 hs2=>?_))
 .exact sr (an (nretP [.bool false] (cs hs1)))
 refine qT 6 U ?_
 let z1:Nat×Obj:=(b1,O (xE p gM) 64)
 refine lp0 p.Rules (λi=>[(1,Q b1),(3,I (i:Int))]) ([z1]) (λs1 i=>(gO.L1 p (gO.K1 p)) s1) hp.Rules.1.1 hs2 ?_ ?_ ?_
 .rintro i1 fm hs4 e
  exact qK 5 [0] U (cM 0 ty62 U U U (ai call341 (wY _ _ _ _ _ _ hp.Offices hp.Change) U (an (nretP [.bool (bK p.Offices p.Change)] (cs hs4)))))
 .rintro i1 y1 rz1 hd1 df aS ek gu hs6 hx1 ag1 e
  refine qK 7 [0] U (tO df U (qO 6 U (er ([z1]) mixed kr jn (λdY _=>qB [0] U (tf 1 U U (rj 0 ty58 U U U) (qB [2] U (tf 3 U U (rj 0 ty59 U U U) (tm 4 U (jf 5 dY jn wu ty79 hp.Rules.1 (nthZ aS) (fh aS) U U U U kr (λq2 cs2 A2 ln2 rr2=>?_))))))))))
  obtain⟨r2,rfl,ok2⟩:=rr2
  refine qB [6] U (tf 7 U U (λ_ _ hj=>Ok 3 ty62 (A2.mono hj.1) U U) (tn 8 U (eZ call341 (wY _ _ _ _ _ _ hp.Offices ok2.Expr) U (⟨jn,(qA [9] U (aJ kr (ae hs6 U (λc5 hs7=>?_) (λc5 hs8=>?_))))⟩))))
  .exact sr (an (nretP [.bool false] (cs hs7)))
  exact aI (qT 3 U (oi i1 U (an (ag1 hs8))))
 rintro i1 hd1 fS hx e
 exact qK 7 [0] U (fO fS U (qO 3 U (hx _ rd)))
theorem w4(rec:Expr->Bool->Bool)(h:HF)(x:Expr)(fT:cN)(upto:Bool)(hrec:∀(h:HF)(qx:Expr)(kz:cN)(qupto:Bool)(hqx:zG h qx kz)(_:qx.dep<x.dep),Ret prog 342 [.agg (vC qx kz).toArray,.bool qupto] h (.bool (rec qx qupto)))(hx:zG h x fT):Ret prog 342 [.agg (vC x fT).toArray,.bool upto] h (.bool (aC.F rec x upto)):=by
 refine sT func342 U ntmps342 U λX hM hX hF=>?_
 have hs0:=@rfl _ (aC.F rec x upto)
 refine sr (cv (λb1=>qO 7 U ?_))
 refine lp0 x.L (λi=>[(1,.bool upto),(2,Q b1),(5,I (i:Int))]) ([(b1,O (vC x fT) 62)]) (λs1 i=>(aC.L1 rec upto (aC.K1 x upto)) s1) hx.list.1.1 hs0 ?_ ?_ ?_
 .rintro i1 fm hs1 e
  refine qK 12 [0] U (ae hs1 U (λc3 hs2=>?_) (λc3 hs3=>?_))
  .refine qK 6 [0] U (bp 5 [28,29,30,31,32,33] 28 33 ((x.L.length:Int)==0) U (λc4 hk1=>?_) (λe=>?_))
   .exact qL 5 [0] U (hk1 _ U)
   exact an (nretP [.bool ((x.N==0)&&((x.L.length:Int)==0))] (cs hs2))
  refine qT 5 U (ae hs3 U (λc5 hs5=>?_) (λc5 hs6=>?_))
  .refine qK 6 [0] U (bp 4 [39,40,41,42,43] 39 43 (decide (x.N<=4096)) U (λc6 hk2=>?_) (λe=>?_))
   .exact qL 4 [0] U (hk2 _ U)
   refine av (bp 5 [44,45,46,47,48,49] 44 49 ((x.L.length:Int)==0) U (λc7 hk3=>?_) (λe=>?_))
   .exact qL 5 [0] U (hk3 _ U)
   exact an (nretP [.bool ((decide (1<=x.N)&&decide (x.N<=4096))&&((x.L.length:Int)==0))] (cs hs5))
  refine qT 5 U (ae hs6 U (λc8 hs8=>?_) (λc8 hs9=>?_))
  .refine qK 6 [0] U (bp 5 [55,56,57,58,59,60] 55 60 (decide (1<=(x.L.length:Int))) U (λc9 hk4=>?_) (λe=>?_))
   .exact qL 5 [0] U (hk4 _ U)
   refine av (bp 5 [61,62,63,64,65,66] 61 66 (decide ((x.L.length:Int)<=16)) U (λc10 hk5=>?_) (λe=>?_))
   .exact qL 5 [0] U (hk5 _ U)
   refine av (bp 4 [67,68,69,70,71] 67 71 (decide (1<=x.N)) U (λc11 hk6=>?_) (λe=>?_))
   .exact qL 4 [0] U (hk6 _ U)
   refine av (bp 7 [72,73,74,75,76,77,78,79] 72 79 (decide (x.N<=(x.L.length:Int))) U (λc12 hk7=>?_) (λe=>?_))
   .exact qL 7 [0,0] U (hk7 _ U)
   exact an (nretP [.bool (((((x.Name.toList==(⟨#[]⟩:ByteArray).toList)&&decide (1<=(x.L.length:Int)))&&decide ((x.L.length:Int)<=16))&&decide (1<=x.N))&&decide (x.N<=(x.L.length:Int)))] (cs hs8))
  refine qT 5 U (ae hs9 U (λc13 hs11=>?_) (λc13 hs12=>?_))
  .refine qT 4 U (bp 4 [83,84,85,86,87] 83 87 (x.Name.toList==(⟨#[]⟩:ByteArray).toList) U (λc14 hk8=>?_) (λe=>?_))
   .exact qL 4 [0] U (hk8 _ U)
   refine av (bp 5 [88,89,90,91,92,93] 88 93 ((x.L.length:Int)==2) U (λc15 hk9=>?_) (λe=>?_))
   .exact qL 5 [0] U (hk9 _ U)
   refine av (bp 4 [94,95,96,97,98] 94 98 (decide (0<=x.N)) U (λc16 hk10=>?_) (λe=>?_))
   .exact qL 4 [0] U (hk10 _ U)
   refine av (bp 4 [99,100,101,102,103] 99 103 (decide (x.N<=1099511627776)) U (λc17 hk11=>?_) (λe=>?_))
   .exact qL 4 [0] U (hk11 _ U)
   exact an (nretP [.bool ((((upto&&(x.Name.toList==(⟨#[]⟩:ByteArray).toList))&&((x.L.length:Int)==2))&&decide (0<=x.N))&&decide (x.N<=1099511627776))] (cs hs11))
  exact aI (qT 5 U (nretP [.bool false] (cs hs12)))
 .rintro i1 y1 rz1 hd1 df aS ek gu hs15 hx1 ag1 e
  refine qK 7 [0] U (tO df U (qL 10 [0] U (aA (iR lB ty62 hx.list.1 aS U U U (λ_ _ _ e=>e) (λq2 r2 A2 ok2=>dt ty62 A2 U U (av (ai call342 (hrec _ _ _ upto ok2 (R3 (fN hd1))) U (qO 2 U (ae hs15 U (λc18 hs16=>?_) (λc18 hs17=>?_))))))))))
  .exact sr (an (nretP [.bool false] (cs hs16)))
  exact aI (qT 3 U (oi i1 U (an (ag1 hs17))))
 rintro i1 hd1 fS hx e
 exact qK 7 [0] U (fO fS U (qO 3 U (hx _ rd)))
theorem oV:∀(m:Nat)(h:HF)(x:Expr)(fT:cN)(upto:Bool)(_:x.dep<=m)(hx:zG h x fT),Ret prog 342 [.agg (vC x fT).toArray,.bool upto] h (.bool (aC.go m x upto))
 |0,h,x,fT,upto,hd,hx=>absurd hd (Nat.not_le.2 (Th _))
 |m+1,h,x,fT,upto,hd,hx=>w4 (aC.go m) h x fT upto (λqh_ qx kz qupto qhx qd=>oV m qh_ qx kz qupto ob qhx) hx
theorem rF(h:HF)(x:Expr)(fT:cN)(upto:Bool)(hx:zG h x fT):Ret prog 342 [.agg (vC x fT).toArray,.bool upto] h (.bool (aC x upto)):=oV _ h x fT upto (jG _) hx
theorem Dx(h:HF)(p:Policy)(gM:eR)(hp:vP h p gM):Ret prog 306 [.agg (xE p gM).toArray] h (.bool (fQ p)):=by
 refine sT func306 U ntmps306 U λX hM hX hF=>?_
 have hs0:=@rfl _ (fQ p)
 refine sr (cv (λb1=>qL 10 [0] U (bT 8 [9,10,11,12,13,14,15,16,17] 9 17 ((p.Rules.length:Int) != (p.Kinds.length:Int)) U (λc1 hk1=>?_) (λe=>?_))))
 .exact qL 8 [0,0] U (hk1 _ U)
 refine av (bT 4 [18,19,20,21,22] 18 22 (decide (p.Mode<1)) U (λc2 hk2=>?_) (λe=>?_))
 .exact qL 4 [0] U (hk2 _ U)
 refine av (bT 4 [23,24,25,26,27] 23 27 (decide (4<p.Mode)) U (λc3 hk3=>?_) (λe=>?_))
 .exact qL 4 [0] U (hk3 _ U)
 refine aF (ae hs0 U (λc4 hs1=>?_) (λc4 hs2=>?_))
 .exact sr (an (nretP [.bool false] (cs hs1)))
 refine qT 6 U ?_
 let z1:Nat×Obj:=(b1,O (xE p gM) 64)
 refine lp0 p.Rules (λi=>[(1,Q b1),(3,I (i:Int))]) ([z1]) (λs1 i=>(fQ.L1 p (fQ.K1 p)) s1 i) hp.Rules.1.1 hs2 ?_ ?_ ?_
 .rintro i1 fm hs4 e
  exact qK 3 [] U (cM 0 ty62 U U U (ai call342 (rF _ _ _ false hp.Change) U (an (nretP [.bool (aC p.Change false)] (cs hs4)))))
 .rintro i1 y1 rz1 hd1 df aS ek gu hs6 hx1 ag1 e
  refine qK 7 [0] U (tO df U (qL 10 [0] U (aA (iR wu ty79 hp.Rules.1 aS U U U (λ_ _ _ e=>e) (λq3 r2 A3 ok2=>dt ty79 A3 U U (aT zc79 (λb3=>aO 0 ty79 U U U U U U (qO 2 U ?_))))))))
  refine oa [(1,Q b1),(3,I (i1:Int)),(63,.bool ((((!(y1.Kind.toList==(nthI p.Kinds (i1:Int)).toList))||decide (y1.Think<0))||decide (1099511627776<=y1.Think))||(!(aC y1.Expr true))))] (λe=>?_) (λhk4=>?_)
  rotate_left
  .refine er ([(b3,O (TU y1 r2) 79),z1]) mixed kr jn (λdY _=>?_)
   refine qB [0] U (tf 1 U U (rj 0 ty9 U U U) (qB [2] U (tf 3 U U (rj 1 ty58 U U U) (tm 4 U ?_))))
   have ho2:0<=((i1:Int):Int)/\((i1:Int):Int)<((p.Kinds).length:Int):=ob
   refine eJ 5 (enc:=λy=>[.string y]) dY jn ei vY ty9 hp.Kinds.1 ho2 (cV ho2) U U U U kr (λq4 A4=>tf 6 U U (rh ty9 A4 U) (qA [7,8] U ?_))
   refine dh 48 U (λc5=>?_) (λc5=>?_)
   .exact tk 9 U U (qR 10 14 U (aJ kr (hk4 _ ⟨U,U,(cb (show true=((((!(y1.Kind.toList==(nthI p.Kinds (i1:Int)).toList))||decide (y1.Think<0))||decide (1099511627776<=y1.Think))||(!(aC y1.Expr true)))from by rw[c5]<;>rfl)),trivial⟩)))
   refine qB [9] U (tf 10 U U (rj 0 ty3 U U U) (qR 11 3 U ?_))
   refine dh 53 U (λc6=>?_) (λc6=>?_)
   .have c6p:=of_decide_eq_true c6
    exact tk 14 U U (qR 15 9 U (aJ kr (hk4 _ ⟨U,U,(cb (show true=((((!(y1.Kind.toList==(nthI p.Kinds (i1:Int)).toList))||decide (y1.Think<0))||decide (1099511627776<=y1.Think))||(!(aC y1.Expr true)))from by rw[c5,c6]<;>rfl)),trivial⟩)))
   have c6p:=of_decide_eq_false c6
   refine qB [14] U (tf 15 U U (rj 0 ty3 U U U) (qR 16 3 U ?_))
   refine dh 58 U (λc7=>?_) (λc7=>?_)
   .have c7p:=of_decide_eq_true c7
    exact tk 19 U U (qR 20 4 U (aJ kr (hk4 _ ⟨U,U,(cb (show true=((((!(y1.Kind.toList==(nthI p.Kinds (i1:Int)).toList))||decide (y1.Think<0))||decide (1099511627776<=y1.Think))||(!(aC y1.Expr true)))from by rw[c5,c6,c7]<;>rfl)),trivial⟩)))
   have c7p:=of_decide_eq_false c7
   exact tf 19 U U (λ_ _ _=>tL Qc U) (tf 20 U U (λ_ _ hj=>jg ty62 U (hj.nth (i:=0) U) U) (tn 21 U (eZ call342 (rF _ _ _ true ok2.Expr) U (⟨jn,qA [22,23] U (aJ kr (hk4 _ ⟨U,U,(cb (show(!(aC y1.Expr true))=((((!(y1.Kind.toList==(nthI p.Kinds (i1:Int)).toList))||decide (y1.Think<0))||decide (1099511627776<=y1.Think))||(!(aC y1.Expr true)))from by rw[c5,c6,c7]<;>rfl)),trivial⟩))⟩))))
  refine ae hs6 U (λc8 hs7=>?_) (λc8 hs8=>?_)
  .exact sr (an (nretP [.bool false] (cs hs7)))
  exact aI (qT 3 U (oi i1 U (an (bo (L':=[z1]) js (ag1 hs8)))))
 rintro i1 hd1 fS hx e
 exact qK 7 [0] U (fO fS U (qO 3 U (hx _ rd)))
theorem zU(rec:List ByteArray->Expr->Expr)(h:HF)(offices:List ByteArray)(dA:Option Addr)(dz:Nat)(x:Expr)(fT:cN)(hrec:∀(h:HF)(qoffices:List ByteArray)(jo:Option Addr)(jm:Nat)(qx:Expr)(kz:cN)(hqoffices:SlC SO h jo jm qoffices)(hqx:zG h qx kz)(hsz:qx.dep<=2000000)(_:qx.dep<x.dep),ju prog 307 [.slice jo qoffices.length jm,.agg (vC qx kz).toArray] h (λv h'=>∃(rr0:cN),v=.agg (vC (rec qoffices qx) rr0).toArray/\zG h' (rec qoffices qx) rr0))(hoffices:SlC SO h dA dz offices)(hx:zG h x fT)(hsz:x.dep<=2000000):ju prog 307 [.slice dA offices.length dz,.agg (vC x fT).toArray] h (λv h'=>∃(rr0:cN),v=.agg (vC (ah.F rec offices x) rr0).toArray/\zG h' (ah.F rec offices x) rr0):=by
 refine cB func307 U ntmps307 U λX hM hX=>?_
 have hs0:=@rfl _ (ah.F rec offices x)
 have hln:=Expr.Lc x
 refine sr (cv (λb1=>aT zc62 (λb2=>qO 3 U (cM 1 ty62 U U U (aT zc62 (λb3=>aO 0 ty62 U U U U U U (qL 4 [] U (cJ 0 ty3 U U U U U U (qL 8 [2] U (bT 4 [12,13,14,15,16] 12 16 (x.Kind==2) U (λc1 hk1=>?_) (λe=>?_)))))))))))
 .exact qL 4 [2] U (hk1 _ U)
 refine aF (ae hs0 U (λc2 hs1=>?_) (λc2 hs2=>?_))
 .refine qK 4 [2] U (ai call343 (sL _ _ _ _ x.Name hoffices) U (qL 1 [] U (cJ 0 ty3 U U U U U U (qL 4 [] U (cJ 0 ty60 U U U U U U (qO 6 U ?_))))))
  let z1:Nat×Obj:=(b2,O [I 0,I 0,I 0,.string (⟨#[]⟩:ByteArray),.slice none 0 0] 62)
  let z3:Nat×Obj:=(b1,O (vC x fT) 62)
  refine lp2 x.L (λi w=>[(0,.slice dA offices.length dz),(3,Q b1),(4,Q b2),(5,Q b3),(6,I (i:Int))]) (λw=>w.2.2.2.2) (λw=>[(b3,O [I x.Kind,I x.N,I (et offices x.Name),.string x.Name,.slice w.2.1 w.1.length w.2.2.1] 62),z1,z3]++(w.2.2.2.1)) (λi w=>du SG 62 w.2.2.2.2 w.1 w.2.1 w.2.2.1 w.2.2.2.1/\w.1.length<=0+i/\xN h w.2.2.2.2) (λs1 i w=>(ah.L1 rec offices (ah.K1 offices x)) s1 w.1) ([],none,0,[],h) hx.list.1.1 hs1 ⟨du.nil,lo,lf⟩ ?_ ?_ ?_
  .rintro i1 ⟨j2,np,nn,Br,hh1⟩ fm hs3 ⟨sX,Fw,hl1⟩ e
   try dsimp only at sX Fw hl1
   let z5:Nat×Obj:=(b3,O [I x.Kind,I x.N,I (et offices x.Name),.string x.Name,.slice np j2.length nn] 62)
   let z19:Nat×Obj:=(b2,O [I x.Kind,I x.N,I (et offices x.Name),.string x.Name,.slice np j2.length nn] 62)
   refine sr (cM 0 ty62 U U U (aO 1 ty62 U U U U U U (im (L':=[z5,z19,z3]++(Br)) U (aF (fx Sh ([z5,z19,z3]) Br ([]) ap hM sX (λh3 hle3 sl2=>?_))))))
   have hs4:ah.F rec offices x=(vG x.Kind x.N (et offices x.Name) x.Name j2):=hs3
   exact jY [.agg (kB [I x.Kind,I x.N,I (et offices x.Name),.string x.Name,.slice np j2.length nn])] func307 U ⟨⟨1,_,_,_,_,U,U,.inl ⟨ty62,U⟩⟩,trivial⟩ ⟨(cN.mk np nn),congrArg (λr:Expr=>(.agg (vC r (cN.mk np nn)).toArray:Value)) hs4.symm,(by rw[hs4];exact(show zG h3 (vG x.Kind x.N (et offices x.Name) x.Name j2) (cN.mk np nn)from Sm sl2))⟩
  .rintro i1 ⟨j2,np,nn,Br,hh1⟩ y1 rz1 hd1 df aS ek gu hs5 ⟨sX,Fw,hl1⟩ hx1 ag1 e
   try dsimp only at sX Fw hl1
   have hdy:=R3 (fN hd1)
   refine qK 7 [2] U (tO df U (qO 5 U (er ([z1,z3]) mixed kr jn (λdY _=>qB [0,2,3] U (tf 4 U U (rj 1 ty60 U U U) (tm 5 U (jf 6 dY jn lB ty62 (hx.list.mono Sh hl1).1 (nthZ aS) (fh aS) U U U U kr (λq2 cs2 A2 ln2 rr3=>?_))))))))
   obtain⟨r2,rfl,ok3⟩:=rr3
   refine tf 7 U U (λ_ _ hj=>lL ty62 (A2.mono hj.1) U U) ?_
   refine m6 1 8 kr U U ?_ ?_ 
   .refine eT (zZ ty60 U (n8 (i:=0) U) U) (⟨jn,tn 8 U (cR IG (hrec _ _ _ _ _ _ (hoffices.mono Ty hl1) ok3 ob (R3 (fN hd1))) U (λv2 h4 hle4 hp2=>?_))⟩)
    obtain⟨rr4,rfl,ok4⟩:=hp2
    refine⟨jl hle4,tu hle4 (tn 9 U (bE (cells:=[I ((rec offices y1).Kind),I ((rec offices y1).N),I ((rec offices y1).No),.string ((rec offices y1).Name),.slice rr4.mb ((rec offices y1).L.length) rr4.mq]) lB ty62 zc62 U U kr (λb5=>⟨jn,?_⟩)))⟩
    let z6:Nat×Obj:=(b3,O [I x.Kind,I x.N,I (et offices x.Name),.string x.Name,.slice np j2.length nn] 62)
    let z15:Nat×Obj:=(b5,O [I ((rec offices y1).Kind),I ((rec offices y1).N),I ((rec offices y1).No),.string ((rec offices y1).Name),.slice rr4.mb ((rec offices y1).L.length) rr4.mq] 62)
    exact tn 10 U (dE TQ ([z15,z6,z1,z3]) ([]) (λG=>[z15,z6,z1,z3]++G) ap (λ_=>ap) lB ty62 zc62 U bytes62 (sX.mono Sh hle4) U U (e8 0 U (cE (R:=SG) (rec offices y1) U ⟨rr4,U,ok4⟩)) lo lo (λob2 oc2 G2 gr2=>⟨jn,qB [11] U (tn 12 U (kt 1 ty60 U U U U U U (⟨jn,aJ kr (qT 3 U (oi i1 U (an (bo (L':=[(b3,O [I x.Kind,I x.N,I (et offices x.Name),.string x.Name,.slice ob2 ((j2++[(rec offices y1)]).length) oc2] 62),z1,z3]++G2) js (ag1 ((j2++[(rec offices y1)]),ob2,oc2,G2,h4) hs5 ⟨gr2,lo,(hl1.t hle4)⟩)))))⟩)))⟩))
   refine cR IG (hrec _ _ _ _ _ _ (hoffices.mono Ty hl1) ok3 ob (R3 (fN hd1))) U (λv3 h5 hle5 hp3=>?_)
   obtain⟨rr5,rfl,ok5⟩:=hp3
   refine⟨jl hle5,tu hle5 ?_⟩
   refine m6 1 9 kr U U ?_ ?_ 
   .refine eT (zZ ty60 U (n8 (i:=0) U) U) (⟨jn,tn 9 U (bE (cells:=[I ((rec offices y1).Kind),I ((rec offices y1).N),I ((rec offices y1).No),.string ((rec offices y1).Name),.slice rr5.mb ((rec offices y1).L.length) rr5.mq]) lB ty62 zc62 U U kr (λb6=>⟨jn,?_⟩))⟩)
    let z7:Nat×Obj:=(b3,O [I x.Kind,I x.N,I (et offices x.Name),.string x.Name,.slice np j2.length nn] 62)
    let z16:Nat×Obj:=(b6,O [I ((rec offices y1).Kind),I ((rec offices y1).N),I ((rec offices y1).No),.string ((rec offices y1).Name),.slice rr5.mb ((rec offices y1).L.length) rr5.mq] 62)
    exact tn 10 U (dE TQ ([z16,z7,z1,z3]) ([]) (λG=>[z16,z7,z1,z3]++G) ap (λ_=>ap) lB ty62 zc62 U bytes62 (sX.mono Sh hle5) U U (e8 0 U (cE (R:=SG) (rec offices y1) U ⟨rr5,U,ok5⟩)) lo lo (λob3 oc3 G3 gr3=>⟨jn,qB [11] U (tn 12 U (kt 1 ty60 U U U U U U (⟨jn,aJ kr (qT 3 U (oi i1 U (an (bo (L':=[(b3,O [I x.Kind,I x.N,I (et offices x.Name),.string x.Name,.slice ob3 ((j2++[(rec offices y1)]).length) oc3] 62),z1,z3]++G3) js (ag1 ((j2++[(rec offices y1)]),ob3,oc3,G3,h5) hs5 ⟨gr3,lo,(hl1.t hle5)⟩)))))⟩)))⟩))
   refine bE (cells:=[I ((rec offices y1).Kind),I ((rec offices y1).N),I ((rec offices y1).No),.string ((rec offices y1).Name),.slice rr5.mb ((rec offices y1).L.length) rr5.mq]) lB ty62 zc62 U U kr (λb7=>⟨jn,tn 1 U (eT (zZ ty60 U (n8 (i:=1) U) U) (⟨jn,?_⟩))⟩)
   let z8:Nat×Obj:=(b3,O [I x.Kind,I x.N,I (et offices x.Name),.string x.Name,.slice np j2.length nn] 62)
   let z17:Nat×Obj:=(b7,O [I ((rec offices y1).Kind),I ((rec offices y1).N),I ((rec offices y1).No),.string ((rec offices y1).Name),.slice rr5.mb ((rec offices y1).L.length) rr5.mq] 62)
   exact tn 10 U (dE TQ ([z17,z8,z1,z3]) ([]) (λG=>[z17,z8,z1,z3]++G) ap (λ_=>ap) lB ty62 zc62 U bytes62 (sX.mono Sh hle5) U U (e8 0 U (cE (R:=SG) (rec offices y1) U ⟨rr5,U,ok5⟩)) lo lo (λob4 oc4 G4 gr4=>⟨jn,qB [11] U (tn 12 U (kt 1 ty60 U U U U U U (⟨jn,aJ kr (qT 3 U (oi i1 U (an (bo (L':=[(b3,O [I x.Kind,I x.N,I (et offices x.Name),.string x.Name,.slice ob4 ((j2++[(rec offices y1)]).length) oc4] 62),z1,z3]++G4) js (ag1 ((j2++[(rec offices y1)]),ob4,oc4,G4,h5) hs5 ⟨gr4,lo,(hl1.t hle5)⟩)))))⟩)))⟩))
  rintro i1 ⟨j2,np,nn,Br,hh1⟩ hd1 fS hx e
  exact qK 7 [2] U (fO fS U (qO 3 U (hx _ rd)))
 refine qK 4 [] U (cJ 0 ty60 U U U U U U (qO 6 U ?_))
 let z2:Nat×Obj:=(b2,O [I 0,I 0,I 0,.string (⟨#[]⟩:ByteArray),.slice none 0 0] 62)
 let z4:Nat×Obj:=(b1,O (vC x fT) 62)
 refine lp2 x.L (λi w=>[(0,.slice dA offices.length dz),(3,Q b1),(4,Q b2),(5,Q b3),(6,I (i:Int))]) (λw=>w.2.2.2.2) (λw=>[(b3,O [I x.Kind,I x.N,I 0,.string x.Name,.slice w.2.1 w.1.length w.2.2.1] 62),z2,z4]++(w.2.2.2.1)) (λi w=>du SG 62 w.2.2.2.2 w.1 w.2.1 w.2.2.1 w.2.2.2.1/\w.1.length<=0+i/\xN h w.2.2.2.2) (λs2 i w=>(ah.L2 rec offices (ah.K2 x)) s2 w.1) ([],none,0,[],h) hx.list.1.1 hs2 ⟨du.nil,lo,lf⟩ ?_ ?_ ?_
 .rintro i2 ⟨j1,nm,nl,Bm,hh2⟩ yP hs6 ⟨sV,Fq,hl2⟩ e
  try dsimp only at sV Fq hl2
  let z9:Nat×Obj:=(b3,O [I x.Kind,I x.N,I 0,.string x.Name,.slice nm j1.length nl] 62)
  let z20:Nat×Obj:=(b2,O [I x.Kind,I x.N,I 0,.string x.Name,.slice nm j1.length nl] 62)
  refine sr (cM 0 ty62 U U U (aO 1 ty62 U U U U U U (im (L':=[z9,z20,z4]++(Bm)) U (aF (fx Sh ([z9,z20,z4]) Bm ([]) ap hM sV (λh8 hle8 sl4=>?_))))))
  have hs7:ah.F rec offices x=(vG x.Kind x.N 0 x.Name j1):=hs6
  exact jY [.agg (kB [I x.Kind,I x.N,I 0,.string x.Name,.slice nm j1.length nl])] func307 U ⟨⟨1,_,_,_,_,U,U,.inl ⟨ty62,U⟩⟩,trivial⟩ ⟨(cN.mk nm nl),congrArg (λr:Expr=>(.agg (vC r (cN.mk nm nl)).toArray:Value)) hs7.symm,(by rw[hs7];exact(show zG h8 (vG x.Kind x.N 0 x.Name j1) (cN.mk nm nl)from Sm sl4))⟩
 .rintro i2 ⟨j1,nm,nl,Bm,hh2⟩ y2 rz2 hd2 vq qU Dc J3 hs8 ⟨sV,Fq,hl2⟩ hx2 ag2 e
  try dsimp only at sV Fq hl2
  have hdy:=R3 (fN hd2)
  refine qK 7 [2] U (tO vq U (qO 5 U (er ([z2,z4]) mixed kr jn (λmt _=>qB [0,2,3] U (tf 4 U U (rj 1 ty60 U U U) (tm 5 U (jf 6 mt jn lB ty62 (hx.list.mono Sh hl2).1 (nthZ qU) (fh qU) U U U U kr (λq4 cs4 A4 ln4 rr8=>?_))))))))
  obtain⟨r4,rfl,ok8⟩:=rr8
  refine tf 7 U U (λ_ _ hj=>lL ty62 (A4.mono hj.1) U U) ?_
  refine m6 1 8 kr U U ?_ ?_ 
  .refine eT (zZ ty60 U (n8 (i:=0) U) U) (⟨jn,tn 8 U (cR IG (hrec _ _ _ _ _ _ (hoffices.mono Ty hl2) ok8 ob (R3 (fN hd2))) U (λv5 h9 hle9 hp5=>?_))⟩)
   obtain⟨rr9,rfl,ok9⟩:=hp5
   refine⟨jl hle9,tu hle9 (tn 9 U (bE (cells:=[I ((rec offices y2).Kind),I ((rec offices y2).N),I ((rec offices y2).No),.string ((rec offices y2).Name),.slice rr9.mb ((rec offices y2).L.length) rr9.mq]) lB ty62 zc62 U U kr (λb9=>⟨jn,?_⟩)))⟩
   let z10:Nat×Obj:=(b3,O [I x.Kind,I x.N,I 0,.string x.Name,.slice nm j1.length nl] 62)
   let z18:Nat×Obj:=(b9,O [I ((rec offices y2).Kind),I ((rec offices y2).N),I ((rec offices y2).No),.string ((rec offices y2).Name),.slice rr9.mb ((rec offices y2).L.length) rr9.mq] 62)
   exact tn 10 U (dE TQ ([z18,z10,z2,z4]) ([]) (λG=>[z18,z10,z2,z4]++G) ap (λ_=>ap) lB ty62 zc62 U bytes62 (sV.mono Sh hle9) U U (e8 0 U (cE (R:=SG) (rec offices y2) U ⟨rr9,U,ok9⟩)) lo lo (λob6 oc6 G6 gr6=>⟨jn,qB [11] U (tn 12 U (kt 1 ty60 U U U U U U (⟨jn,aJ kr (qT 3 U (oi i2 U (an (bo (L':=[(b3,O [I x.Kind,I x.N,I 0,.string x.Name,.slice ob6 ((j1++[(rec offices y2)]).length) oc6] 62),z2,z4]++G6) js (ag2 ((j1++[(rec offices y2)]),ob6,oc6,G6,h9) hs8 ⟨gr6,lo,(hl2.t hle9)⟩)))))⟩)))⟩))
  refine cR IG (hrec _ _ _ _ _ _ (hoffices.mono Ty hl2) ok8 ob (R3 (fN hd2))) U (λv6 h10 hle10 hp6=>?_)
  obtain⟨rr10,rfl,ok10⟩:=hp6
  refine⟨jl hle10,tu hle10 ?_⟩
  refine m6 1 9 kr U U ?_ ?_ 
  .refine eT (zZ ty60 U (n8 (i:=0) U) U) (⟨jn,tn 9 U (bE (cells:=[I ((rec offices y2).Kind),I ((rec offices y2).N),I ((rec offices y2).No),.string ((rec offices y2).Name),.slice rr10.mb ((rec offices y2).L.length) rr10.mq]) lB ty62 zc62 U U kr (λb10=>⟨jn,?_⟩))⟩)
   let z11:Nat×Obj:=(b3,O [I x.Kind,I x.N,I 0,.string x.Name,.slice nm j1.length nl] 62)
   let z13:Nat×Obj:=(b10,O [I ((rec offices y2).Kind),I ((rec offices y2).N),I ((rec offices y2).No),.string ((rec offices y2).Name),.slice rr10.mb ((rec offices y2).L.length) rr10.mq] 62)
   exact tn 10 U (dE TQ ([z13,z11,z2,z4]) ([]) (λG=>[z13,z11,z2,z4]++G) ap (λ_=>ap) lB ty62 zc62 U bytes62 (sV.mono Sh hle10) U U (e8 0 U (cE (R:=SG) (rec offices y2) U ⟨rr10,U,ok10⟩)) lo lo (λob7 oc7 G7 gr7=>⟨jn,qB [11] U (tn 12 U (kt 1 ty60 U U U U U U (⟨jn,aJ kr (qT 3 U (oi i2 U (an (bo (L':=[(b3,O [I x.Kind,I x.N,I 0,.string x.Name,.slice ob7 ((j1++[(rec offices y2)]).length) oc7] 62),z2,z4]++G7) js (ag2 ((j1++[(rec offices y2)]),ob7,oc7,G7,h10) hs8 ⟨gr7,lo,(hl2.t hle10)⟩)))))⟩)))⟩))
  refine bE (cells:=[I ((rec offices y2).Kind),I ((rec offices y2).N),I ((rec offices y2).No),.string ((rec offices y2).Name),.slice rr10.mb ((rec offices y2).L.length) rr10.mq]) lB ty62 zc62 U U kr (λb11=>⟨jn,tn 1 U (eT (zZ ty60 U (n8 (i:=1) U) U) (⟨jn,?_⟩))⟩)
  let z12:Nat×Obj:=(b3,O [I x.Kind,I x.N,I 0,.string x.Name,.slice nm j1.length nl] 62)
  let z14:Nat×Obj:=(b11,O [I ((rec offices y2).Kind),I ((rec offices y2).N),I ((rec offices y2).No),.string ((rec offices y2).Name),.slice rr10.mb ((rec offices y2).L.length) rr10.mq] 62)
  exact tn 10 U (dE TQ ([z14,z12,z2,z4]) ([]) (λG=>[z14,z12,z2,z4]++G) ap (λ_=>ap) lB ty62 zc62 U bytes62 (sV.mono Sh hle10) U U (e8 0 U (cE (R:=SG) (rec offices y2) U ⟨rr10,U,ok10⟩)) lo lo (λob8 oc8 G8 gr8=>⟨jn,qB [11] U (tn 12 U (kt 1 ty60 U U U U U U (⟨jn,aJ kr (qT 3 U (oi i2 U (an (bo (L':=[(b3,O [I x.Kind,I x.N,I 0,.string x.Name,.slice ob8 ((j1++[(rec offices y2)]).length) oc8] 62),z2,z4]++G8) js (ag2 ((j1++[(rec offices y2)]),ob8,oc8,G8,h10) hs8 ⟨gr8,lo,(hl2.t hle10)⟩)))))⟩)))⟩))
 rintro i2 ⟨j1,nm,nl,Bm,hh2⟩ hd2 OH hx e
 exact qK 7 [2] U (fO OH U (qO 3 U (hx _ rd)))
theorem qv:∀(m:Nat)(h:HF)(offices:List ByteArray)(dA:Option Addr)(dz:Nat)(x:Expr)(fT:cN)(_:x.dep<=m)(hoffices:SlC SO h dA dz offices)(hx:zG h x fT)(hsz:x.dep<=2000000),ju prog 307 [.slice dA offices.length dz,.agg (vC x fT).toArray] h (λv h'=>∃(rr0:cN),v=.agg (vC (ah.go m offices x) rr0).toArray/\zG h' (ah.go m offices x) rr0)
 |0,h,offices,dA,dz,x,fT,hd,hoffices,hx,hsz=>absurd hd (Nat.not_le.2 (Th _))
 |m+1,h,offices,dA,dz,x,fT,hd,hoffices,hx,hsz=>zU (ah.go m) h offices dA dz x fT (λqh_ qoffices jo jm qx kz qhoffices qhx qhsz qd=>qv m qh_ qoffices jo jm qx kz ob qhoffices qhx qhsz) hoffices hx hsz
theorem tE(h:HF)(offices:List ByteArray)(dA:Option Addr)(dz:Nat)(x:Expr)(fT:cN)(hoffices:SlC SO h dA dz offices)(hx:zG h x fT)(hsz:x.dep<=2000000):ju prog 307 [.slice dA offices.length dz,.agg (vC x fT).toArray] h (λv h'=>∃(rr0:cN),v=.agg (vC (ah offices x) rr0).toArray/\zG h' (ah offices x) rr0):=qv _ h offices dA dz x fT (jG _) hoffices hx hsz
theorem BW(h:HF)(p:Policy)(gM:eR)(hp:vP h p gM)(hsm:smP p):ju prog 249 [.agg (xE p gM).toArray] h (λv h'=>∃(rr0:eR),v=.tuple #[.agg (xE ((dQ p).1) rr0).toArray,I ((dQ p).2)]/\vP h' ((dQ p).1) rr0):=by
 refine cB LB U ntmps249 U λX hM hX=>?_
 have hs0:=@rfl _ (dQ p)
 have hsc:=hsm.change
 have hsr:=hsm.rules
 refine sr (cv (λb1=>aT zc64 (λb2=>qO 5 U (cM 1 ty64 U U U (ai call304 (AV _ _ _ hp) U (aF (ae hs0 U (λc1 hs1=>?_) (λc1 hs2=>?_))))))))
 .refine sr (aA (fI (cells:=[.string (⟨#[]⟩:ByteArray),.slice none 0 0,.slice none 0 0,.slice none 0 0,I 0,I 0,I 0,.string (⟨#[]⟩:ByteArray),.slice none 0 0,I 0]) (places:=[(0,1),(1,1),(2,1),(3,1),(4,5),(9,1)]) LQ zc64 kr kr (aO 0 ty64 U U U U U U (an ?_))))
  have hs3:dQ p=((kN (⟨#[]⟩:ByteArray) ([]) ([]) ([]) (vG 0 0 0 (⟨#[]⟩:ByteArray) ([])) 0),2):=hs1
  exact jY [.agg (kB [.string (⟨#[]⟩:ByteArray),.slice none 0 0,.slice none 0 0,.slice none 0 0,I 0,I 0,I 0,.string (⟨#[]⟩:ByteArray),.slice none 0 0,I 0]),I 2] LB U ⟨⟨0,_,_,_,_,U,U,.inl ⟨ty64,U⟩⟩,U,trivial⟩ ⟨(eR.mk none 0 none 0 none 0 (cN.mk none 0)),congrArg (λr:(Policy×Int)=>(.tuple #[.agg (xE r.1 (eR.mk none 0 none 0 none 0 (cN.mk none 0))).toArray,I r.2]:Value)) hs3.symm,(by rw[hs3];exact(show vP h (kN (⟨#[]⟩:ByteArray) ([]) ([]) ([]) (vG 0 0 0 (⟨#[]⟩:ByteArray) ([])) 0) (eR.mk none 0 none 0 none 0 (cN.mk none 0))from⟨kE,kE,kE,(show zG h (vG 0 0 0 (⟨#[]⟩:ByteArray) ([])) (cN.mk none 0)from Sm kE)⟩))⟩
 refine qT 4 U (cM 1 ty64 U U U (ai call305 (EH _ _ _ hp) U (qO 2 U (ae hs2 U (λc2 hs4=>?_) (λc2 hs5=>?_)))))
 .refine sr (aA (fI (cells:=[.string (⟨#[]⟩:ByteArray),.slice none 0 0,.slice none 0 0,.slice none 0 0,I 0,I 0,I 0,.string (⟨#[]⟩:ByteArray),.slice none 0 0,I 0]) (places:=[(0,1),(1,1),(2,1),(3,1),(4,5),(9,1)]) LQ zc64 kr kr (aO 0 ty64 U U U U U U (an ?_))))
  have hs6:dQ p=((kN (⟨#[]⟩:ByteArray) ([]) ([]) ([]) (vG 0 0 0 (⟨#[]⟩:ByteArray) ([])) 0),201):=hs4
  exact jY [.agg (kB [.string (⟨#[]⟩:ByteArray),.slice none 0 0,.slice none 0 0,.slice none 0 0,I 0,I 0,I 0,.string (⟨#[]⟩:ByteArray),.slice none 0 0,I 0]),I 201] LB U ⟨⟨0,_,_,_,_,U,U,.inl ⟨ty64,U⟩⟩,U,trivial⟩ ⟨(eR.mk none 0 none 0 none 0 (cN.mk none 0)),congrArg (λr:(Policy×Int)=>(.tuple #[.agg (xE r.1 (eR.mk none 0 none 0 none 0 (cN.mk none 0))).toArray,I r.2]:Value)) hs6.symm,(by rw[hs6];exact(show vP h (kN (⟨#[]⟩:ByteArray) ([]) ([]) ([]) (vG 0 0 0 (⟨#[]⟩:ByteArray) ([])) 0) (eR.mk none 0 none 0 none 0 (cN.mk none 0))from⟨kE,kE,kE,(show zG h (vG 0 0 0 (⟨#[]⟩:ByteArray) ([])) (cN.mk none 0)from Sm kE)⟩))⟩
 refine qT 4 U (cM 1 ty64 U U U (ai call306 (Dx _ _ _ hp) U (qO 2 U (ae hs5 U (λc3 hs7=>?_) (λc3 hs8=>?_)))))
 .refine sr (aA (fI (cells:=[.string (⟨#[]⟩:ByteArray),.slice none 0 0,.slice none 0 0,.slice none 0 0,I 0,I 0,I 0,.string (⟨#[]⟩:ByteArray),.slice none 0 0,I 0]) (places:=[(0,1),(1,1),(2,1),(3,1),(4,5),(9,1)]) LQ zc64 kr kr (aO 0 ty64 U U U U U U (an ?_))))
  have hs9:dQ p=((kN (⟨#[]⟩:ByteArray) ([]) ([]) ([]) (vG 0 0 0 (⟨#[]⟩:ByteArray) ([])) 0),200):=hs7
  exact jY [.agg (kB [.string (⟨#[]⟩:ByteArray),.slice none 0 0,.slice none 0 0,.slice none 0 0,I 0,I 0,I 0,.string (⟨#[]⟩:ByteArray),.slice none 0 0,I 0]),I 200] LB U ⟨⟨0,_,_,_,_,U,U,.inl ⟨ty64,U⟩⟩,U,trivial⟩ ⟨(eR.mk none 0 none 0 none 0 (cN.mk none 0)),congrArg (λr:(Policy×Int)=>(.tuple #[.agg (xE r.1 (eR.mk none 0 none 0 none 0 (cN.mk none 0))).toArray,I r.2]:Value)) hs9.symm,(by rw[hs9];exact(show vP h (kN (⟨#[]⟩:ByteArray) ([]) ([]) ([]) (vG 0 0 0 (⟨#[]⟩:ByteArray) ([])) 0) (eR.mk none 0 none 0 none 0 (cN.mk none 0))from⟨kE,kE,kE,(show zG h (vG 0 0 0 (⟨#[]⟩:ByteArray) ([])) (cN.mk none 0)from Sm kE)⟩))⟩
 refine qT 3 U (cM 1 ty64 U U U (aT zc64 (λb3=>aO 0 ty64 U U U U U U (qL 4 [] U (cJ 0 ty59 U U U U U U (qO 6 U ?_))))))
 let z4:Nat×Obj:=(b2,O [.string (⟨#[]⟩:ByteArray),.slice none 0 0,.slice none 0 0,.slice none 0 0,I 0,I 0,I 0,.string (⟨#[]⟩:ByteArray),.slice none 0 0,I 0] 64)
 let z7:Nat×Obj:=(b1,O (xE p gM) 64)
 refine lp2 p.Rules (λi w=>[(1,Q b1),(2,Q b2),(4,Q b3),(5,I (i:Int))]) (λw=>w.2.2.2.2) (λw=>[(b3,O [.string p.Name,.slice gM.iY p.Kinds.length gM.iX,.slice gM.gm p.Offices.length gM.gl,.slice w.2.1 w.1.length w.2.2.1,I p.Change.Kind,I p.Change.N,I p.Change.No,.string p.Change.Name,.slice gM.Change.mb p.Change.L.length gM.Change.mq,I p.Mode] 64),z4,z7]++(w.2.2.2.1)) (λi w=>du Rule.rp 79 w.2.2.2.2 w.1 w.2.1 w.2.2.1 w.2.2.2.1/\w.1.length<=0+i/\xN h w.2.2.2.2) (λs1 i w=>(dQ.L1 p (dQ.K1 p)) s1 i w.1) ([],none,0,[],h) hp.Rules.1.1 hs8 ⟨du.nil,lo,lf⟩ ?_ ?_ ?_
 .rintro i1 ⟨ma,pm,pk,xU,hh1⟩ fm hs10 ⟨xO,Fx,hl1⟩ e
  try dsimp only at xO Fx hl1
  refine qK 5 [2] U (cM 2 ty62 U U U (aA (cR IG (tE _ _ _ _ _ _ (hp.Offices.mono Ty hl1) (hp.Change.mono hl1) ob) U (λv3 h4 hle4 hp3=>?_))))
  obtain⟨rr4,rfl,ok4⟩:=hp3
  let z2:Nat×Obj:=(b3,O [.string p.Name,.slice gM.iY p.Kinds.length gM.iX,.slice gM.gm p.Offices.length gM.gl,.slice pm ma.length pk,I ((ah p.Offices p.Change).Kind),I ((ah p.Offices p.Change).N),I ((ah p.Offices p.Change).No),.string ((ah p.Offices p.Change).Name),.slice rr4.mb ((ah p.Offices p.Change).L.length) rr4.mq,I p.Mode] 64)
  let z3:Nat×Obj:=(b2,O [.string p.Name,.slice gM.iY p.Kinds.length gM.iX,.slice gM.gm p.Offices.length gM.gl,.slice pm ma.length pk,I ((ah p.Offices p.Change).Kind),I ((ah p.Offices p.Change).N),I ((ah p.Offices p.Change).No),.string ((ah p.Offices p.Change).Name),.slice rr4.mb ((ah p.Offices p.Change).L.length) rr4.mq,I p.Mode] 64)
  refine qL 1 [] U (cJ 0 ty62 U U U U U U (qO 3 U (cM 0 ty64 U U U (aO 1 ty64 U U U U U U (im (L':=[z2,z3,z7]++(xU)) U (an (fx TC ([z2,z3,z7]) xU ([]) ap hM (xO.mono TC hle4) (λh5 hle5 sl2=>?_))))))))
  have hs11:dQ p=((kN p.Name p.Kinds p.Offices ma (vG ((ah p.Offices p.Change).Kind) ((ah p.Offices p.Change).N) ((ah p.Offices p.Change).No) ((ah p.Offices p.Change).Name) ((ah p.Offices p.Change).L)) p.Mode),0):=hs10
  exact jY [.agg (xE (kN p.Name p.Kinds p.Offices ma (vG ((ah p.Offices p.Change).Kind) ((ah p.Offices p.Change).N) ((ah p.Offices p.Change).No) ((ah p.Offices p.Change).Name) ((ah p.Offices p.Change).L)) p.Mode) (eR.mk gM.iY gM.iX gM.gm gM.gl pm pk (cN.mk rr4.mb rr4.mq))).toArray,I 0] LB U ⟨⟨1,_,_,_,_,U,U,.inl ⟨ty64,U⟩⟩,U,trivial⟩ ⟨(eR.mk gM.iY gM.iX gM.gm gM.gl pm pk (cN.mk rr4.mb rr4.mq)),congrArg (λr:(Policy×Int)=>(.tuple #[.agg (xE r.1 (eR.mk gM.iY gM.iX gM.gm gM.gl pm pk (cN.mk rr4.mb rr4.mq))).toArray,I r.2]:Value)) hs11.symm,(by rw[hs11];exact(show vP h5 (kN p.Name p.Kinds p.Offices ma (vG ((ah p.Offices p.Change).Kind) ((ah p.Offices p.Change).N) ((ah p.Offices p.Change).No) ((ah p.Offices p.Change).Name) ((ah p.Offices p.Change).L)) p.Mode) (eR.mk gM.iY gM.iX gM.gm gM.gl pm pk (cN.mk rr4.mb rr4.mq))from⟨(hp.Kinds.mono Ty ((hl1.t hle4).t hle5)),(hp.Offices.mono Ty ((hl1.t hle4).t hle5)),sl2,(show zG h5 (vG ((ah p.Offices p.Change).Kind) ((ah p.Offices p.Change).N) ((ah p.Offices p.Change).No) ((ah p.Offices p.Change).Name) ((ah p.Offices p.Change).L)) (cN.mk rr4.mb rr4.mq)from Sm (ok4.list.mono Sh hle5))⟩))⟩
 .rintro i1 ⟨ma,pm,pk,xU,hh1⟩ y1 rz1 hd1 df aS ek gu hs12 ⟨xO,Fx,hl1⟩ hx1 ag1 e
  try dsimp only at xO Fx hl1
  have hsy:=hsm.2.1 y1 (fN hd1)
  refine qK 7 [2] U (tO df U (qL 9 [2] U ?_))
  let z1:Nat×Obj:=(b3,O [.string p.Name,.slice gM.iY p.Kinds.length gM.iX,.slice gM.gm p.Offices.length gM.gl,.slice pm ma.length pk,I p.Change.Kind,I p.Change.N,I p.Change.No,.string p.Change.Name,.slice gM.Change.mb p.Change.L.length gM.Change.mq,I p.Mode] 64)
  refine av (aA (iR wu ty79 (hp.Rules.mono TC hl1).1 aS U U U (λ_ _ _ e=>e) (λq2 r2 A2 ok5=>dt ty79 A2 U U (aT zc79 (λb6=>aO 0 ty79 U U U U U U (im (L':=[(b6,O (TU y1 r2) 79),z1,z4,z7]++(xU)) U (qL 5 [] U (cJ 0 ty3 U U U U U U (qL 6 [3] U (cM 0 ty62 U U U (aA (cR IG (tE _ _ _ _ _ _ (hp.Offices.mono Ty hl1) ok5.Expr ob) U (λv4 h6 hle6 hp4=>?_)))))))))))))
  obtain⟨rr6,rfl,ok6⟩:=hp4
  refine qL 1 [] U (cJ 0 ty62 U U U U U U (qL 4 [1] U (cM 0 ty79 U U U (aA (bE (cells:=[.string y1.Kind,I (i1:Int),I y1.Think,I ((ah p.Offices y1.Expr).Kind),I ((ah p.Offices y1.Expr).N),I ((ah p.Offices y1.Expr).No),.string ((ah p.Offices y1.Expr).Name),.slice rr6.mb ((ah p.Offices y1.Expr).L.length) rr6.mq]) wu ty79 zc79 U U kr (λb7=>?_))))))
  let z5:Nat×Obj:=(b7,O [.string y1.Kind,I (i1:Int),I y1.Think,I ((ah p.Offices y1.Expr).Kind),I ((ah p.Offices y1.Expr).N),I ((ah p.Offices y1.Expr).No),.string ((ah p.Offices y1.Expr).Name),.slice rr6.mb ((ah p.Offices y1.Expr).L.length) rr6.mq] 79)
  let z6:Nat×Obj:=(b6,O [.string y1.Kind,I (i1:Int),I y1.Think,I ((ah p.Offices y1.Expr).Kind),I ((ah p.Offices y1.Expr).N),I ((ah p.Offices y1.Expr).No),.string ((ah p.Offices y1.Expr).Name),.slice rr6.mb ((ah p.Offices y1.Expr).L.length) rr6.mq] 79)
  refine aA (dE Rule.ew ([z5,z6,z1,z4,z7]) ([]) (λG=>[z5,z6,z1,z4,z7]++G) ap (λ_=>ap) wu ty79 zc79 U bytes79 (xO.mono TC hle6) U U (e8 0 U (cE (R:=Rule.rp) (Ti y1.Kind (i1:Int) y1.Think (vG ((ah p.Offices y1.Expr).Kind) ((ah p.Offices y1.Expr).N) ((ah p.Offices y1.Expr).No) ((ah p.Offices y1.Expr).Name) ((ah p.Offices y1.Expr).L))) U ⟨(BQ.mk (cN.mk rr6.mb rr6.mq)),U,(show Rule.ok h6 (Ti y1.Kind (i1:Int) y1.Think (vG ((ah p.Offices y1.Expr).Kind) ((ah p.Offices y1.Expr).N) ((ah p.Offices y1.Expr).No) ((ah p.Offices y1.Expr).Name) ((ah p.Offices y1.Expr).L))) (BQ.mk (cN.mk rr6.mb rr6.mq))from⟨(show zG h6 (vG ((ah p.Offices y1.Expr).Kind) ((ah p.Offices y1.Expr).N) ((ah p.Offices y1.Expr).No) ((ah p.Offices y1.Expr).Name) ((ah p.Offices y1.Expr).L)) (cN.mk rr6.mb rr6.mq)from Sm ok6.list)⟩)⟩)) lo lo (λob2 oc2 G2 gr2=>qL 1 [] U (cJ 2 ty59 U U U U U U (qO 4 U (oi i1 U (an (bo (L':=[(b3,O [.string p.Name,.slice gM.iY p.Kinds.length gM.iX,.slice gM.gm p.Offices.length gM.gl,.slice ob2 ((ma++[(Ti y1.Kind (i1:Int) y1.Think (vG ((ah p.Offices y1.Expr).Kind) ((ah p.Offices y1.Expr).N) ((ah p.Offices y1.Expr).No) ((ah p.Offices y1.Expr).Name) ((ah p.Offices y1.Expr).L)))]).length) oc2,I p.Change.Kind,I p.Change.N,I p.Change.No,.string p.Change.Name,.slice gM.Change.mb p.Change.L.length gM.Change.mq,I p.Mode] 64),z4,z7]++G2) js ?_)))))))
  exact ag1 ((ma++[(Ti y1.Kind (i1:Int) y1.Think (vG ((ah p.Offices y1.Expr).Kind) ((ah p.Offices y1.Expr).N) ((ah p.Offices y1.Expr).No) ((ah p.Offices y1.Expr).Name) ((ah p.Offices y1.Expr).L)))]),ob2,oc2,G2,h6) hs12 ⟨gr2,lo,(hl1.t hle6)⟩
 rintro i1 ⟨ma,pm,pk,xU,hh1⟩ hd1 fS hx e
 exact qK 7 [2] U (fO fS U (qO 3 U (hx _ rd)))
theorem sK(h:HF)(a:List ByteArray)(Re:Option Addr)(Rd:Nat)(j6:List ByteArray)(FY:Option Addr)(FX:Nat)(ha:SlC SO h Re Rd a)(yQ:SlC SO h FY FX j6):Ret prog 308 [.slice Re a.length Rd,.slice FY j6.length FX] h (.bool (ey a j6)):=by
 refine sT func308 U ntmps308 U λX hM hX hF=>?_
 have hs0:=@rfl _ (ey a j6)
 refine qK 13 [] U (ae hs0 U (λc1 hs1=>?_) (λc1 hs2=>?_))
 .exact sr (an (nretP [.bool false] (cs hs1)))
 refine qT 6 U ?_
 refine lp0 a (λi=>[(0,.slice Re a.length Rd),(1,.slice FY j6.length FX),(5,I (i:Int))]) ([]) (λs1 i=>(ey.L1 j6 (ey.K1)) s1 i) ha.1.1 hs2 ?_ ?_ ?_
 .rintro i1 fm hs4 e
  exact sr (an (nretP [.bool true] (cs hs4)))
 .rintro i1 y1 rz1 hd1 df aS ek gu hs6 hx1 ag1 e
  refine qK 6 [] U (tO df U (qO 6 U (er ([]) mixed kr jn (λdY _=>qA [0,1] U (eJ 2 (enc:=λy=>[.string y]) dY jn ei vY ty9 ha.1 (nthZ aS) (fh aS) U U U U kr (λq3 A3=>tf 3 U U (rh ty9 A3 U) (qA [4,5] U ?_)))))))
  have ho2:0<=((i1:Int):Int)/\((i1:Int):Int)<((j6).length:Int):=ob
  refine eJ 6 (enc:=λy=>[.string y]) dY jn ei vY ty9 yQ.1 ho2 (cV ho2) U U U U kr (λq4 A4=>tf 7 U U (rh ty9 A4 U) (qA [8] U (aJ kr (ae hs6 U (λc3 hs7=>?_) (λc3 hs8=>?_)))))
  .exact sr (an (nretP [.bool false] (cs hs7)))
  exact aI (qT 3 U (oi i1 U (an (ag1 hs8))))
 rintro i1 hd1 fS hx e
 exact qK 6 [] U (fO fS U (qO 3 U (hx _ rd)))
theorem zX(rec:Expr->Expr->Bool)(h:HF)(a:Expr)(ID:cN)(j6:Expr)(pN:cN)(hrec:∀(h:HF)(qa:Expr)(PU:cN)(Oo:Expr)(H7:cN)(hqa:zG h qa PU)(RR:zG h Oo H7)(_:qa.dep<a.dep),Ret prog 309 [.agg (vC qa PU).toArray,.agg (vC Oo H7).toArray] h (.bool (rec qa Oo)))(ha:zG h a ID)(yQ:zG h j6 pN):Ret prog 309 [.agg (vC a ID).toArray,.agg (vC j6 pN).toArray] h (.bool (bh.F rec a j6)):=by
 refine sT func309 U ntmps309 U λX hM hX hF=>?_
 have hs0:=@rfl _ (bh.F rec a j6)
 refine sr (cv (λb1=>cv (λb2=>qL 11 [1,0] U (bT 6 [11,12,13,14,15,16,17] 11 17 (a.N != j6.N) U (λc1 hk1=>?_) (λe=>?_)))))
 .exact qL 6 [1,0] U (hk1 _ U)
 refine av (bT 6 [18,19,20,21,22,23,24] 18 24 (a.No != j6.No) U (λc2 hk2=>?_) (λe=>?_))
 .exact qL 6 [1,0] U (hk2 _ U)
 refine av (bT 6 [25,26,27,28,29,30,31] 25 31 (!(a.Name.toList==j6.Name.toList)) U (λc3 hk3=>?_) (λe=>?_))
 .exact qL 6 [1,0] U (hk3 _ U)
 refine av (bT 8 [32,33,34,35,36,37,38,39,40] 32 40 ((a.L.length:Int) != (j6.L.length:Int)) U (λc4 hk4=>?_) (λe=>?_))
 .exact qL 8 [1,0] U (hk4 _ U)
 refine aF (ae hs0 U (λc5 hs1=>?_) (λc5 hs2=>?_))
 .exact sr (an (nretP [.bool false] (cs hs1)))
 refine qT 6 U ?_
 let z1:Nat×Obj:=(b2,O (vC j6 pN) 62)
 let z2:Nat×Obj:=(b1,O (vC a ID) 62)
 refine lp0 a.L (λi=>[(2,Q b1),(3,Q b2),(5,I (i:Int))]) ([z1,z2]) (λs1 i=>(bh.L1 rec j6 (bh.K1)) s1 i) ha.list.1.1 hs2 ?_ ?_ ?_
 .rintro i1 fm hs4 e
  exact sr (an (nretP [.bool true] (cs hs4)))
 .rintro i1 y1 rz1 hd1 df aS ek gu hs6 hx1 ag1 e
  refine qK 7 [1] U (tO df U (qO 6 U (er ([z1,z2]) mixed kr jn (λdY _=>qB [0] U (tf 1 U U (rj 1 ty60 U U U) (tm 2 U (jf 3 dY jn lB ty62 ha.list.1 (nthZ aS) (fh aS) U U U U kr (λq3 cs3 A3 ln3 rr3=>?_))))))))
  obtain⟨r3,rfl,ok3⟩:=rr3
  refine tf 4 U U (λ_ _ hj=>lL ty62 (A3.mono hj.1) U U) (qB [5] U (tf 6 U U (rj 0 ty60 U U U) (tm 7 U ?_)))
  have ho2:0<=((i1:Int):Int)/\((i1:Int):Int)<((j6.L).length:Int):=ob
  refine jf 8 dY jn lB ty62 yQ.list.1 ho2 (cV ho2) U U U U kr (λq4 cs4 A4 ln4 rr4=>?_)
  obtain⟨r4,rfl,ok4⟩:=rr4
  refine tf 9 U U (λ_ _ hj=>lL ty62 (A4.mono hj.1) U U) (tn 10 U (eZ call309 (hrec _ _ _ _ _ ok3 ok4 (R3 (fN hd1))) U (⟨jn,qA [11] U (aJ kr (ae hs6 U (λc7 hs7=>?_) (λc7 hs8=>?_)))⟩)))
  .exact sr (an (nretP [.bool false] (cs hs7)))
  exact aI (qT 3 U (oi i1 U (an (ag1 hs8))))
 rintro i1 hd1 fS hx e
 exact qK 7 [1] U (fO fS U (qO 3 U (hx _ rd)))
theorem qw:∀(m:Nat)(h:HF)(a:Expr)(ID:cN)(j6:Expr)(pN:cN)(_:a.dep<=m)(ha:zG h a ID)(yQ:zG h j6 pN),Ret prog 309 [.agg (vC a ID).toArray,.agg (vC j6 pN).toArray] h (.bool (bh.go m a j6))
 |0,h,a,ID,j6,pN,hd,ha,yQ=>absurd hd (Nat.not_le.2 (Th _))
 |m+1,h,a,ID,j6,pN,hd,ha,yQ=>zX (bh.go m) h a ID j6 pN (λqh_ qa PU Oo H7 qha Rk qd=>qw m qh_ qa PU Oo H7 ob qha Rk) ha yQ
theorem tI(h:HF)(a:Expr)(ID:cN)(j6:Expr)(pN:cN)(ha:zG h a ID)(yQ:zG h j6 pN):Ret prog 309 [.agg (vC a ID).toArray,.agg (vC j6 pN).toArray] h (.bool (bh a j6)):=qw _ h a ID j6 pN (jG _) ha yQ
theorem Ge(h:HF)(a:Policy)(ID:eR)(j6:Policy)(pN:eR)(ha:vP h a ID)(yQ:vP h j6 pN):Ret prog 250 [.agg (xE a ID).toArray,.agg (xE j6 pN).toArray] h (.bool (ii a j6)):=by
 refine sT func250 U ntmps250 U λX hM hX hF=>?_
 have hs0:=@rfl _ (ii a j6)
 refine sr (cv (λb1=>cv (λb2=>qL 11 [1,0] U (bT 6 [13,14,15,16,17,18,19] 13 19 (a.Mode != j6.Mode) U (λc1 hk1=>?_) (λe=>?_)))))
 .exact qL 6 [1,0] U (hk1 _ U)
 refine av (bT 7 [20,21,22,23,24,25,26,27] 20 27 (!(ey a.Offices j6.Offices)) U (λc2 hk2=>?_) (λe=>?_))
 .exact qL 4 [1,0] U (ai call308 (sK _ _ _ _ _ _ _ ha.Offices yQ.Offices) U (qO 2 U (hk2 _ U)))
 refine av (bT 7 [28,29,30,31,32,33,34,35] 28 35 (!(ey a.Kinds j6.Kinds)) U (λc3 hk3=>?_) (λe=>?_))
 .exact qL 4 [1,0] U (ai call308 (sK _ _ _ _ _ _ _ ha.Kinds yQ.Kinds) U (qO 2 U (hk3 _ U)))
 refine av (bT 8 [36,37,38,39,40,41,42,43,44] 36 44 ((a.Rules.length:Int) != (j6.Rules.length:Int)) U (λc4 hk4=>?_) (λe=>?_))
 .exact qL 8 [1,0] U (hk4 _ U)
 refine av (bT 7 [45,46,47,48,49,50,51,52] 45 52 (!(bh a.Change j6.Change)) U (λc5 hk5=>?_) (λe=>?_))
 .exact qL 1 [] U (cM 1 ty62 U U U (qL 1 [] U (cM 0 ty62 U U U (ai call309 (tI _ _ _ _ _ ha.Change yQ.Change) U (qO 2 U (hk5 _ U))))))
 refine aF (ae hs0 U (λc6 hs1=>?_) (λc6 hs2=>?_))
 .exact sr (an (nretP [.bool false] (cs hs1)))
 refine qT 6 U ?_
 refine lp0 a.Rules (λi=>[(2,Q b1),(3,Q b2),(5,I (i:Int))]) ([(b2,O (xE j6 pN) 64),(b1,O (xE a ID) 64)]) (λs1 i=>(ii.L1 j6 (ii.K1)) s1 i) ha.Rules.1.1 hs2 ?_ ?_ ?_
 .rintro i1 fm hs4 e
  exact sr (an (nretP [.bool true] (cs hs4)))
 .rintro i1 y1 rz1 hd1 df aS ek gu hs6 hx1 ag1 e
  refine qK 7 [1] U (tO df U (qL 10 [1] U (aA (iR wu ty79 ha.Rules.1 aS U U U (λ_ _ _ e=>e) (λq3 r3 A3 ok3=>dt ty79 A3 U U (aT zc79 (λb5=>aO 0 ty79 U U U U U U (qL 6 [1] U ?_))))))))
  have ho2:0<=((i1:Int):Int)/\((i1:Int):Int)<((j6.Rules).length:Int):=ob
  refine aA (uk wu ty79 yQ.Rules.1 ho2 (cV ho2) U U U (λ_ _ _ e=>e) (λq4 r4 A4 ok4=>dt ty79 A4 U U (aT zc79 (λb6=>aO 0 ty79 U U U U U U (qL 9 [1,0] U (bT 6 [75,76,77,78,79,80,81] 75 81 (y1.KindNo != (nthI j6.Rules (i1:Int)).KindNo) U (λc7 hk6=>?_) (λe=>?_)))))))
  .exact qL 6 [1,0] U (hk6 _ U)
  refine av (bT 6 [82,83,84,85,86,87,88] 82 88 (y1.Think != (nthI j6.Rules (i1:Int)).Think) U (λc8 hk7=>?_) (λe=>?_))
  .exact qL 6 [1,0] U (hk7 _ U)
  refine av (bT 7 [89,90,91,92,93,94,95,96] 89 96 (!(bh y1.Expr ((nthI j6.Rules (i1:Int)).Expr))) U (λc9 hk8=>?_) (λe=>?_))
  .exact qL 1 [] U (cM 1 ty62 U U U (qL 1 [] U (cM 0 ty62 U U U (ai call309 (tI _ _ _ _ _ ok3.Expr ok4.Expr) U (qO 2 U (hk8 _ U))))))
  refine aF (ae hs6 U (λc10 hs7=>?_) (λc10 hs8=>?_))
  .exact sr (an (nretP [.bool false] (cs hs7)))
  exact aI (qT 3 U (oi i1 U (an (bo (L':=[(b2,O (xE j6 pN) 64),(b1,O (xE a ID) 64)]) js (ag1 hs8)))))
 rintro i1 hd1 fS hx e
 exact qK 7 [1] U (fO fS U (qO 3 U (hx _ rd)))
theorem w5(h:HF)(p:Policy)(gM:eR)(hp:vP h p gM)(hsm:smP p):Ret prog 158 [.agg (xE p gM).toArray] h (I (gk p)):=by
 refine sT func158 U ntmps158 U λX hM hX hF=>?_
 have hs0:=@rfl _ (gk p)
 refine sr (cv (λb1=>qO 4 U (cM 0 ty64 U U U (aA (cR call249 (BW _ _ _ hp ob) U (λv1 h1 hle1 hp1=>?_))))))
 obtain⟨rr1,rfl,ok1⟩:=hp1
 refine qO 3 U (aT zc64 (λb2=>aO 0 ty64 U U U U U U (qO 8 U (ae hs0 U (λc1 hs1=>?_) (λc1 hs2=>?_)))))
 .exact sr (qO 3 U (nretP [I ((dQ p).2)] (ci hs1)))
 refine qT 4 U (cM 0 ty64 U U U (cM 1 ty64 U U U (ai call250 (Ge _ _ _ _ _ ok1 (hp.mono hle1)) U (qO 2 U (ae hs2 U (λc2 hs4=>?_) (λc2 hs5=>?_))))))
 .exact sr (an (nretP [I 200] (ci hs4)))
 exact aI (qT 4 U (nretP [I 0] (ci hs5)))
theorem AW(h:HF)(l:List Version)(ep:Option Addr)(eo:Nat)(hl:SlC jQ h ep eo l)(hsm:smV l):Ret prog 76 [.slice ep l.length eo] h (I (dM l)):=by
 refine sT func76 U ntmps76 U λX hM hX hF=>?_
 have hs0:=@rfl _ (dM l)
 refine qK 11 [] U (ae hs0 U (λc1 hs1=>?_) (λc1 hs2=>?_))
 .have c1p:=of_decide_eq_true c1
  exact sr (an (nretP [I 2] (ci hs1)))
 have c1p:=of_decide_eq_false c1
 refine qT 6 U ?_
 refine lp0 l (λi=>[(0,.slice ep l.length eo),(3,I (i:Int))]) ([]) (λs1 i=>(dM.L1 l (dM.K1)) s1 i) hl.1.1 hs2 ?_ ?_ ?_
 .rintro i1 fm hs4 e
  exact sr (an (nretP [I 0] (ci hs4)))
 .rintro i1 y1 rz1 hd1 df aS ek gu hs6 hx1 ag1 e
  have hsy:=hsm.2 y1 (fN hd1)
  refine qK 6 [] U (tO df U (qO 9 U (aA (iR zx ty105 hl.1 aS U U U (λ_ _ _ e=>e) (λq2 r2 A2 ok2=>dt ty105 A2 U U (aT zc105 (λb2=>aO 0 ty105 U U U U U U (qO 2 U ?_))))))))
  refine oa [(0,.slice ep l.length eo),(3,I (i1:Int)),(58,.bool (((((decide (y1.No<0)||decide (1048576<y1.No))||(decide (0<(i1:Int))&&decide (y1.No<=(nthI l ((i1:Int)-1)).No)))||(!(fD y1.At)))||(!(fD y1.Known)))||((gk y1.Policy) != 0)))] (λe=>?_) (λhk1=>?_)
  rotate_left
  .let z1:Nat×Obj:=(b2,O (Version.cells y1 r2) 105)
   refine er ([z1]) mixed kr jn (λdY _=>?_)
   refine qB [0] U (tf 1 U U (rj 0 ty3 U U U) (qA [2,3] U ?_))
   refine dh 21 U (λc2=>?_) (λc2=>?_)
   .have c2p:=of_decide_eq_true c2
    exact tk 4 U U (qR 5 36 U (aJ kr (hk1 _ ⟨U,U,(cb (show true=(((((decide (y1.No<0)||decide (1048576<y1.No))||(decide (0<(i1:Int))&&decide (y1.No<=(nthI l ((i1:Int)-1)).No)))||(!(fD y1.At)))||(!(fD y1.Known)))||((gk y1.Policy) != 0))from by rw[c2]<;>rfl)),trivial⟩)))
   have c2p:=of_decide_eq_false c2
   refine qB [4] U (tf 5 U U (rj 0 ty3 U U U) (qR 6 3 U ?_))
   refine dh 26 U (λc3=>?_) (λc3=>?_)
   .have c3p:=of_decide_eq_true c3
    exact tk 9 U U (qR 10 31 U (aJ kr (hk1 _ ⟨U,U,(cb (show true=(((((decide (y1.No<0)||decide (1048576<y1.No))||(decide (0<(i1:Int))&&decide (y1.No<=(nthI l ((i1:Int)-1)).No)))||(!(fD y1.At)))||(!(fD y1.Known)))||((gk y1.Policy) != 0))from by rw[c2,c3]<;>rfl)),trivial⟩)))
   have c3p:=of_decide_eq_false c3
   refine qR 9 3 U ?_
   refine dh 29 U (λc4=>?_) (λc4=>?_)
   .have c4p:=of_decide_eq_true c4
    refine qA [12,13] U (tf 14 U U (λ_ _ _=>ng (v':=I ((i1:Int)-1)) U (jh ob)) ?_)
    have ho1:0<=(((i1:Int)-1):Int)/\(((i1:Int)-1):Int)<((l).length:Int):=ob
    refine jf 15 dY jn zx ty105 hl.1 ho1 (cV ho1) U U U U kr (λq3 cs3 A3 ln3 rr3=>?_)
    obtain⟨r3,rfl,ok3⟩:=rr3
    refine qB [16] U (tf 17 U U (rh ty3 A3 U) (qB [18] U (tf 19 U U (rj 0 ty3 U U U) (qR 20 4 U ?_))))
    refine dh 41 U (λc5=>?_) (λc5=>?_)
    .have c5p:=of_decide_eq_true c5
     exact tk 24 U U (qR 25 16 U (aJ kr (hk1 _ ⟨U,U,(cb (show true=(((((decide (y1.No<0)||decide (1048576<y1.No))||(decide (0<(i1:Int))&&decide (y1.No<=(nthI l ((i1:Int)-1)).No)))||(!(fD y1.At)))||(!(fD y1.Known)))||((gk y1.Policy) != 0))from by rw[c2,c3,c4,c5]<;>rfl)),trivial⟩)))
    have c5p:=of_decide_eq_false c5
    refine qB [24] U (tf 25 U U (rj 0 ty3 U U U) (tn 26 U (eZ KP (qe h y1.At) U (⟨jn,(qR 27 3 U ?_)⟩))))
    refine dh 47 U (λc6=>?_) (λc6=>?_)
    .exact tk 30 U U (qR 31 10 U (aJ kr (hk1 _ ⟨U,U,(cb (show true=(((((decide (y1.No<0)||decide (1048576<y1.No))||(decide (0<(i1:Int))&&decide (y1.No<=(nthI l ((i1:Int)-1)).No)))||(!(fD y1.At)))||(!(fD y1.Known)))||((gk y1.Policy) != 0))from by rw[c2,c3,c4,c5,c6]<;>rfl)),trivial⟩)))
    refine qB [30] U (tf 31 U U (rj 0 ty3 U U U) (tn 32 U (eZ KP (qe h y1.Known) U (⟨jn,(qR 33 3 U ?_)⟩))))
    refine dh 53 U (λc7=>?_) (λc7=>?_)
    .exact tk 36 U U (qR 37 4 U (aJ kr (hk1 _ ⟨U,U,(cb (show true=(((((decide (y1.No<0)||decide (1048576<y1.No))||(decide (0<(i1:Int))&&decide (y1.No<=(nthI l ((i1:Int)-1)).No)))||(!(fD y1.At)))||(!(fD y1.Known)))||((gk y1.Policy) != 0))from by rw[c2,c3,c4,c5,c6,c7]<;>rfl)),trivial⟩)))
    exact tf 36 U U (λ_ _ _=>tL Ke U) (tf 37 U U (λ_ _ hj=>jg ty64 U (hj.nth (i:=0) U) U) (tn 38 U (eZ call158 (w5 _ _ _ ok2.Policy ob) U (⟨jn,(qA [39,40] U (aJ kr (hk1 _ ⟨U,U,(cb (show((gk y1.Policy) != 0)=(((((decide (y1.No<0)||decide (1048576<y1.No))||(decide (0<(i1:Int))&&decide (y1.No<=(nthI l ((i1:Int)-1)).No)))||(!(fD y1.At)))||(!(fD y1.Known)))||((gk y1.Policy) != 0))from by rw[c2,c3,c4,c5,c6,c7]<;>rfl)),trivial⟩)))⟩))))
   have c4p:=of_decide_eq_false c4
   refine qD 12 13 U (tf 25 U U (rj 0 ty3 U U U) (tn 26 U (eZ KP (qe h y1.At) U (⟨jn,qR 27 3 U ?_⟩))))
   refine dh 47 U (λc8=>?_) (λc8=>?_)
   .exact tk 30 U U (qR 31 10 U (aJ kr (hk1 _ ⟨U,U,(cb (show true=(((((decide (y1.No<0)||decide (1048576<y1.No))||(decide (0<(i1:Int))&&decide (y1.No<=(nthI l ((i1:Int)-1)).No)))||(!(fD y1.At)))||(!(fD y1.Known)))||((gk y1.Policy) != 0))from by rw[c2,c3,c4,c8]<;>rfl)),trivial⟩)))
   refine qB [30] U (tf 31 U U (rj 0 ty3 U U U) (tn 32 U (eZ KP (qe h y1.Known) U (⟨jn,(qR 33 3 U ?_)⟩))))
   refine dh 53 U (λc9=>?_) (λc9=>?_)
   .exact tk 36 U U (qR 37 4 U (aJ kr (hk1 _ ⟨U,U,(cb (show true=(((((decide (y1.No<0)||decide (1048576<y1.No))||(decide (0<(i1:Int))&&decide (y1.No<=(nthI l ((i1:Int)-1)).No)))||(!(fD y1.At)))||(!(fD y1.Known)))||((gk y1.Policy) != 0))from by rw[c2,c3,c4,c8,c9]<;>rfl)),trivial⟩)))
   exact tf 36 U U (λ_ _ _=>tL Ke U) (tf 37 U U (λ_ _ hj=>jg ty64 U (hj.nth (i:=0) U) U) (tn 38 U (eZ call158 (w5 _ _ _ ok2.Policy ob) U (⟨jn,(qA [39,40] U (aJ kr (hk1 _ ⟨U,U,(cb (show((gk y1.Policy) != 0)=(((((decide (y1.No<0)||decide (1048576<y1.No))||(decide (0<(i1:Int))&&decide (y1.No<=(nthI l ((i1:Int)-1)).No)))||(!(fD y1.At)))||(!(fD y1.Known)))||((gk y1.Policy) != 0))from by rw[c2,c3,c4,c8,c9]<;>rfl)),trivial⟩)))⟩))))
  refine ae hs6 U (λc10 hs7=>?_) (λc10 hs8=>?_)
  .exact sr (an (nretP [I 200] (ci hs7)))
  exact aI (qT 3 U (oi i1 U (an (bo (L':=[]) js (ag1 hs8)))))
 rintro i1 hd1 fS hx e
 exact qK 6 [] U (fO fS U (qO 3 U (hx _ rd)))
theorem un(h:HF)(t:Int)  : Ret prog 223 [I t] h (.bool (lT t)):=by
 refine sT func223 U ntmps223 U λX hM hX hF=>?_
 have hs0:=@rfl _ (lT t)
 refine qT 9 U (bp 3 [5,6,7,8] 5 8 (decide (t<1099511627776)) U (λc1 hk1=>?_) (λe=>?_))
 .exact av (qO 2 U (hk1 _ U))
 exact an (nretP [.bool (decide (0<=t)&&decide (t<1099511627776))] (cs hs0))
theorem um(h:HF)(l:List Int)(ep:Option Addr)(eo:Nat)(limit:Int)(hl:SlC zC h ep eo l):Ret prog 251 [.slice ep l.length eo,I limit] h (.bool (eL l limit)):=by
 refine sT func251 U ntmps251 U λX hM hX hF=>?_
 have hs0:=@rfl _ (eL l limit)
 refine qT 9 U ?_
 refine lp0 l (λi=>[(0,.slice ep l.length eo),(1,I limit),(5,I (i:Int))]) ([]) (λs1 i=>(eL.L1 l limit (eL.K1 l)) s1 i) hl.1.1 hs0 ?_ ?_ ?_
 .rintro i1 fm hs1 e
  exact qK 7 [] U (nretP [.bool (decide ((l.length:Int)<=16))] (cs hs1))
 .rintro i1 y1 rz1 hd1 df aS ek gu hs3 hx1 ag1 e
  refine qK 6 [] U (tO df U (qO 6 U ?_))
  refine oa [(0,.slice ep l.length eo),(1,I limit),(5,I (i1:Int)),(40,.bool ((decide (y1<0)||decide (limit<=y1))||(decide (0<(i1:Int))&&decide (y1<=(nthI l ((i1:Int)-1))))))] (λe=>?_) (λhk1=>?_)
  rotate_left
  .refine er ([]) mixed kr jn (λdY _=>?_)
   refine qA [0,1] U (eJ 2 (enc:=λy=>[I y]) dY jn ei ec ty3 hl.1 (nthZ aS) (fh aS) U U U U kr (λq3 A3=>tf 3 U U (rh ty3 A3 U) (qA [4,5] U ?_)))
   refine dh 17 U (λc1=>?_) (λc1=>?_)
   .have c1p:=of_decide_eq_true c1
    exact tk 6 U U (qR 7 22 U (aJ kr (hk1 _ ⟨U,U,U,(cb (show true=((decide (y1<0)||decide (limit<=y1))||(decide (0<(i1:Int))&&decide (y1<=(nthI l ((i1:Int)-1)))))from by rw[c1]<;>rfl)),trivial⟩)))
   have c1p:=of_decide_eq_false c1
   refine qA [6,7] U (eJ 8 (enc:=λy=>[I y]) dY jn ei ec ty3 hl.1 (nthZ aS) (fh aS) U U U U kr (λq4 A4=>tf 9 U U (rh ty3 A4 U) (qR 10 4 U ?_)))
   refine dh 25 U (λc2=>?_) (λc2=>?_)
   .have c2p:=of_decide_eq_true c2
    exact tk 14 U U (qR 15 14 U (aJ kr (hk1 _ ⟨U,U,U,(cb (show true=((decide (y1<0)||decide (limit<=y1))||(decide (0<(i1:Int))&&decide (y1<=(nthI l ((i1:Int)-1)))))from by rw[c1,c2]<;>rfl)),trivial⟩)))
   have c2p:=of_decide_eq_false c2
   refine qR 14 3 U ?_
   refine dh 28 U (λc3=>?_) (λc3=>?_)
   .have c3p:=of_decide_eq_true c3
    refine qA [17,18] U (eJ 19 (enc:=λy=>[I y]) dY jn ei ec ty3 hl.1 (nthZ aS) (fh aS) U U U U kr (λq5 A5=>tf 20 U U (rh ty3 A5 U) (qA [21,22] U (tf 23 U U (λ_ _ _=>ng (v':=I ((i1:Int)-1)) U (jh ob)) ?_))))
    have ho1:0<=(((i1:Int)-1):Int)/\(((i1:Int)-1):Int)<((l).length:Int):=ob
    exact eJ 24 (enc:=λy=>[I y]) dY jn ei ec ty3 hl.1 ho1 (cV ho1) U U U U kr (λq6 A6=>tf 25 U U (rh ty3 A6 U) (qR 26 3 U (aJ kr (hk1 _ ⟨U,U,U,(cb (show decide (y1<=(nthI l ((i1:Int)-1)))=((decide (y1<0)||decide (limit<=y1))||(decide (0<(i1:Int))&&decide (y1<=(nthI l ((i1:Int)-1)))))from by rw[c1,c2,c3]<;>rfl)),trivial⟩))))
   have c3p:=of_decide_eq_false c3
   exact tk 17 U U (qR 18 11 U (aJ kr (hk1 _ ⟨U,U,U,(cb (show false=((decide (y1<0)||decide (limit<=y1))||(decide (0<(i1:Int))&&decide (y1<=(nthI l ((i1:Int)-1)))))from by rw[c1,c2,c3]<;>rfl)),trivial⟩)))
  refine ae hs3 U (λc4 hs4=>?_) (λc4 hs5=>?_)
  .exact sr (an (nretP [.bool false] (cs hs4)))
  exact aI (qT 3 U (oi i1 U (an (ag1 hs5))))
 rintro i1 hd1 fS hx e
 exact qK 6 [] U (fO fS U (qO 3 U (hx _ rd)))
theorem EM(h:HF)(d:Document)(Kk:kx)(hd:SC h d Kk):Ret prog 159 [.agg (Document.cells d Kk).toArray] h (.bool (iv d)):=by
 refine sT func159 U ntmps159 U λX hM hX hF=>?_
 have hs0:=@rfl _ (iv d)
 refine sr (cv (λb1=>qL 9 [0] U (bT 4 [6,7,8,9,10] 6 10 (decide (4096<=d.No)) U (λc1 hk1=>?_) (λe=>?_))))
 .exact qL 4 [0] U (hk1 _ U)
 refine av (bT 5 [11,12,13,14,15,16] 11 16 (!(lT d.At)) U (λc2 hk2=>?_) (λe=>?_))
 .exact qL 2 [0] U (ai call223 (un h d.At) U (qO 2 U (hk2 _ U)))
 refine av (bT 4 [17,18,19,20,21] 17 21 (decide (d.Kind<0)) U (λc3 hk3=>?_) (λe=>?_))
 .exact qL 4 [0] U (hk3 _ U)
 refine av (bT 4 [22,23,24,25,26] 22 26 (decide (16<=d.Kind)) U (λc4 hk4=>?_) (λe=>?_))
 .exact qL 4 [0] U (hk4 _ U)
 refine av (bT 4 [27,28,29,30,31] 27 31 (decide (d.Value<0)) U (λc5 hk5=>?_) (λe=>?_))
 .exact qL 4 [0] U (hk5 _ U)
 refine av (bT 4 [32,33,34,35,36] 32 36 (decide (1099511627776<d.Value)) U (λc6 hk6=>?_) (λe=>?_))
 .exact qL 4 [0] U (hk6 _ U)
 refine aF (ae hs0 U (λc7 hs1=>?_) (λc7 hs2=>?_))
 .exact sr (an (nretP [.bool false] (cs hs1)))
 refine qK 7 [0] U (bp 6 [40,41,42,43,44,45,46] 40 46 (decide (d.From<d.Until)) U (λc8 hk7=>?_) (λe=>?_))
 .exact qL 6 [0,0] U (hk7 _ U)
 refine av (bp 4 [47,48,49,50,51] 47 51 (decide (d.Until<=1099511627776)) U (λc9 hk8=>?_) (λe=>?_))
 .exact qL 4 [0] U (hk8 _ U)
 refine av (bp 4 [52,53,54,55,56] 52 56 (eL d.Parties 1048577) U (λc10 hk9=>?_) (λe=>?_))
 .exact qL 2 [0] U (ai call251 (um _ _ _ _ 1048577 hd.Parties) U (eB U (hk9 _ U)))
 refine av (bp 6 [57,58,59,60,61,62,63] 57 63 (eL d.Revokes d.No) U (λc11 hk10=>?_) (λe=>?_))
 .exact qL 4 [0,0] U (ai call251 (um _ _ _ _ d.No hd.Revokes) U (eB U (hk10 _ U)))
 refine av (bp 6 [64,65,66,67,68,69,70] 64 70 (eL d.Needs d.No) U (λc12 hk11=>?_) (λe=>?_))
 .exact qL 4 [0,0] U (ai call251 (um _ _ _ _ d.No hd.Needs) U (eB U (hk11 _ U)))
 exact an (nretP [.bool (((((decide (0<=d.From)&&decide (d.From<d.Until))&&decide (d.Until<=1099511627776))&&(eL d.Parties 1048577))&&(eL d.Revokes d.No))&&(eL d.Needs d.No))] (cs hs2))
theorem yZ(h:HF)(l:List Document)(ep:Option Addr)(eo:Nat)(no:Int)(hl:SlC kR h ep eo l):Ret prog 231 [.slice ep l.length eo,I no] h (I (fR l no)):=by
 refine sT func231 U ntmps231 U λX hM hX hF=>?_
 have hs0:=@rfl _ (fR l no)
 refine qT 9 U ?_
 refine lp0 l (λi=>[(0,.slice ep l.length eo),(1,I no),(5,I (i:Int))]) ([]) (λs1 i=>(fR.L1 no (fR.K1)) s1 i) hl.1.1 hs0 ?_ ?_ ?_
 .rintro i1 fm hs1 e
  exact sr (an (nretP [I (-1)] (ci hs1)))
 .rintro i1 y1 rz1 hd1 df aS ek gu hs3 hx1 ag1 e
  refine qK 6 [] U (tO df U (qO 9 U (aA (iR nP ty51 hl.1 aS U U U (λ_ _ _ e=>e) (λq2 r2 A2 ok2=>qL 1 [] U (dj ty3 A2 U (qO 3 U (ae hs3 U (λc2 hs4=>?_) (λc2 hs5=>?_)))))))))
  .exact sr (qO 3 U (nretP [I (i1:Int)] (ci hs4)))
  exact aI (qT 3 U (oi i1 U (an (ag1 hs5))))
 rintro i1 hd1 fS hx e
 exact qK 6 [] U (fO fS U (qO 3 U (hx _ rd)))
theorem oW(h:HF)(l:List Document)(ep:Option Addr)(eo:Nat)(nos:List Int)(Ow:Option Addr)(Ov:Nat)(hl:SlC kR h ep eo l)(hnos:SlC zC h Ow Ov nos):Ret prog 160 [.slice ep l.length eo,.slice Ow nos.length Ov] h (.bool (dl l nos)):=by
 refine sT func160 U ntmps160 U λX hM hX hF=>?_
 have hs0:=@rfl _ (dl l nos)
 refine qT 9 U ?_
 refine lp0 nos (λi=>[(0,.slice ep l.length eo),(1,.slice Ow nos.length Ov),(5,I (i:Int))]) ([]) (λs1 i=>(dl.L1 l (dl.K1)) s1) hnos.1.1 hs0 ?_ ?_ ?_
 .rintro i1 fm hs1 e
  exact sr (an (nretP [.bool true] (cs hs1)))
 .rintro i1 y1 rz1 hd1 df aS ek gu hs3 hx1 ag1 e
  refine qK 6 [] U (tO df U (qO 10 U (aA (iF (λy=>[I y]) ec ty3 hnos.1 aS U U U (λq2 A2=>dj ty3 A2 U (ai call231 (yZ _ _ _ _ y1 hl) U (qO 2 U (ae hs3 U (λc2 hs4=>?_) (λc2 hs5=>?_)))))))))
  .have c2p:=of_decide_eq_true c2
   exact sr (an (nretP [.bool false] (cs hs4)))
  have c2p:=of_decide_eq_false c2
  exact aI (qT 3 U (oi i1 U (an (ag1 hs5))))
 rintro i1 hd1 fS hx e
 exact qK 6 [] U (fO fS U (qO 3 U (hx _ rd)))
theorem w9(h:HF)(l:List Document)(ep:Option Addr)(eo:Nat)(hl:SlC kR h ep eo l):Ret prog 77 [.slice ep l.length eo] h (I (dL l)):=by
 refine sT func77 U ntmps77 U λX hM hX hF=>?_
 have hs0:=@rfl _ (dL l)
 refine qK 11 [] U (ae hs0 U (λc1 hs1=>?_) (λc1 hs2=>?_))
 .have c1p:=of_decide_eq_true c1
  exact sr (an (nretP [I 2] (ci hs1)))
 have c1p:=of_decide_eq_false c1
 refine qT 6 U ?_
 refine lp0 l (λi=>[(0,.slice ep l.length eo),(3,I (i:Int))]) ([]) (λs1 i=>(dL.L1 l (dL.K1)) s1 i) hl.1.1 hs2 ?_ ?_ ?_
 .rintro i1 fm hs4 e
  exact sr (an (nretP [I 0] (ci hs4)))
 .rintro i1 y1 rz1 hd1 df aS ek gu hs6 hx1 ag1 e
  refine qK 6 [] U (tO df U (qO 6 U ?_))
  refine oa [(0,.slice ep l.length eo),(3,I (i1:Int)),(56,.bool ((((!(iv y1))||(decide (0<(i1:Int))&&decide (y1.No<=(nthI l ((i1:Int)-1)).No)))||(!(dl l y1.Revokes)))||(!(dl l y1.Needs))))] (λe=>?_) (λhk1=>?_)
  rotate_left
  .refine er ([]) mixed kr jn (λdY _=>?_)
   refine qA [0,1] U (jf 2 dY jn nP ty51 hl.1 (nthZ aS) (fh aS) U U U U kr (λq4 cs4 A4 ln4 rr4=>?_))
   obtain⟨r4,rfl,ok4⟩:=rr4
   refine tf 3 U U (λ_ _ hj=>lL ty51 (A4.mono hj.1) U U) (tn 4 U (eZ call159 (EM _ _ _ ok4) U (⟨jn,qA [5,6] U ?_⟩)))
   refine dh 19 U (λc2=>?_) (λc2=>?_)
   .exact tk 7 U U (qR 8 36 U (aJ kr (hk1 _ ⟨U,U,(cb (show true=((((!(iv y1))||(decide (0<(i1:Int))&&decide (y1.No<=(nthI l ((i1:Int)-1)).No)))||(!(dl l y1.Revokes)))||(!(dl l y1.Needs)))from by rw[c2]<;>rfl)),trivial⟩)))
   refine qR 7 3 U ?_
   refine dh 22 U (λc3=>?_) (λc3=>?_)
   .have c3p:=of_decide_eq_true c3
    refine qA [10,11] U (jf 12 dY jn nP ty51 hl.1 (nthZ aS) (fh aS) U U U U kr (λq5 cs5 A5 ln5 rr5=>?_))
    obtain⟨r5,rfl,ok5⟩:=rr5
    refine qB [13] U (tf 14 U U (rh ty3 A5 U) (qA [15,16] U (tf 17 U U (λ_ _ _=>ng (v':=I ((i1:Int)-1)) U (jh ob)) ?_)))
    have ho2:0<=(((i1:Int)-1):Int)/\(((i1:Int)-1):Int)<((l).length:Int):=ob
    refine jf 18 dY jn nP ty51 hl.1 ho2 (cV ho2) U U U U kr (λq6 cs6 A6 ln6 rr6=>?_)
    obtain⟨r6,rfl,ok6⟩:=rr6
    refine qB [19] U (tf 20 U U (rh ty3 A6 U) (qR 21 4 U ?_))
    refine dh 37 U (λc4=>?_) (λc4=>?_)
    .have c4p:=of_decide_eq_true c4
     exact tk 25 U U (qR 26 18 U (aJ kr (hk1 _ ⟨U,U,(cb (show true=((((!(iv y1))||(decide (0<(i1:Int))&&decide (y1.No<=(nthI l ((i1:Int)-1)).No)))||(!(dl l y1.Revokes)))||(!(dl l y1.Needs)))from by rw[c2,c3,c4]<;>rfl)),trivial⟩)))
    have c4p:=of_decide_eq_false c4
    refine qR 25 3 U (jf 28 dY jn nP ty51 hl.1 (nthZ aS) (fh aS) U U U U kr (λq7 cs7 A7 ln7 rr7=>?_))
    obtain⟨r7,rfl,ok7⟩:=rr7
    refine qB [29] U (tf 30 U U (rH 7 ty31 A7 U U) (tn 31 U (eZ KO (oW _ _ _ _ _ _ _ hl ok7.Revokes) U (⟨jn,(qR 32 3 U ?_)⟩))))
    refine dh 47 U (λc5=>?_) (λc5=>?_)
    .exact tk 35 U U (qR 36 8 U (aJ kr (hk1 _ ⟨U,U,(cb (show true=((((!(iv y1))||(decide (0<(i1:Int))&&decide (y1.No<=(nthI l ((i1:Int)-1)).No)))||(!(dl l y1.Revokes)))||(!(dl l y1.Needs)))from by rw[c2,c3,c4,c5]<;>rfl)),trivial⟩)))
    refine qR 35 3 U (jf 38 dY jn nP ty51 hl.1 (nthZ aS) (fh aS) U U U U kr (λq8 cs8 A8 ln8 rr8=>?_))
    obtain⟨r8,rfl,ok8⟩:=rr8
    exact tf 39 U U (λ_ _ _=>tL Ip U) (tf 40 U U (rH 8 ty31 A8 U U) (tn 41 U (eZ KO (oW _ _ _ _ _ _ _ hl ok8.Needs) U (⟨jn,(qA [42,43] U (aJ kr (hk1 _ ⟨U,U,(cb (show(!(dl l y1.Needs))=((((!(iv y1))||(decide (0<(i1:Int))&&decide (y1.No<=(nthI l ((i1:Int)-1)).No)))||(!(dl l y1.Revokes)))||(!(dl l y1.Needs)))from by rw[c2,c3,c4,c5]<;>rfl)),trivial⟩)))⟩))))
   have c3p:=of_decide_eq_false c3
   refine qR 10 18 U (jf 28 dY jn nP ty51 hl.1 (nthZ aS) (fh aS) U U U U kr (λq9 cs9 A9 ln9 rr9=>?_))
   obtain⟨r9,rfl,ok9⟩:=rr9
   refine qB [29] U (tf 30 U U (rH 7 ty31 A9 U U) (tn 31 U (eZ KO (oW _ _ _ _ _ _ _ hl ok9.Revokes) U (⟨jn,(qR 32 3 U ?_)⟩))))
   refine dh 47 U (λc6=>?_) (λc6=>?_)
   .exact tk 35 U U (qR 36 8 U (aJ kr (hk1 _ ⟨U,U,(cb (show true=((((!(iv y1))||(decide (0<(i1:Int))&&decide (y1.No<=(nthI l ((i1:Int)-1)).No)))||(!(dl l y1.Revokes)))||(!(dl l y1.Needs)))from by rw[c2,c3,c6]<;>rfl)),trivial⟩)))
   refine qR 35 3 U (jf 38 dY jn nP ty51 hl.1 (nthZ aS) (fh aS) U U U U kr (λq10 cs10 A10 ln10 rr10=>?_))
   obtain⟨r10,rfl,ok10⟩:=rr10
   exact tf 39 U U (λ_ _ _=>tL Ip U) (tf 40 U U (rH 8 ty31 A10 U U) (tn 41 U (eZ KO (oW _ _ _ _ _ _ _ hl ok10.Needs) U (⟨jn,(qA [42,43] U (aJ kr (hk1 _ ⟨U,U,(cb (show(!(dl l y1.Needs))=((((!(iv y1))||(decide (0<(i1:Int))&&decide (y1.No<=(nthI l ((i1:Int)-1)).No)))||(!(dl l y1.Revokes)))||(!(dl l y1.Needs)))from by rw[c2,c3,c6]<;>rfl)),trivial⟩)))⟩))))
  refine ae hs6 U (λc7 hs7=>?_) (λc7 hs8=>?_)
  .exact sr (an (nretP [I 170] (ci hs7)))
  exact aI (qT 3 U (oi i1 U (an (ag1 hs8))))
 rintro i1 hd1 fS hx e
 exact qK 6 [] U (fO fS U (qO 3 U (hx _ rd)))
theorem lG(h:HF)(eE:Int)(most:Int)  : Ret prog 252 [I eE,I most] h (.bool (gB eE most)):=by
 refine sT func252 U ntmps252 U λX hM hX hF=>?_
 have hs0:=@rfl _ (gB eE most)
 refine qT 9 U (bp 4 [7,8,9,10,11] 7 11 (decide (eE<=most)) U (λc1 hk1=>?_) (λe=>?_))
 .exact av (qO 3 U (hk1 _ U))
 exact an (nretP [.bool (decide (0<=eE)&&decide (eE<=most))] (cs hs0))
theorem yW(h:HF)(eE:Int)  : Ret prog 253 [I eE] h (.bool (og eE)):=by
 refine sT func253 U ntmps253 U λX hM hX hF=>?_
 have hs0:=@rfl _ (og eE)
 exact sr (qO 5 U (ai IF (lG h eE 1099511627775) U (an (nretP [.bool (gB eE 1099511627775)] (cs hs0)))))
theorem H3(h:HF)(eE:Int)  : Ret prog 254 [I eE] h (.bool (uC eE)):=by
 refine sT func254 U ntmps254 U λX hM hX hF=>?_
 have hs0:=@rfl _ (uC eE)
 exact sr (qO 5 U (ai IF (lG h eE 4095) U (an (nretP [.bool (gB eE 4095)] (cs hs0)))))
theorem EF(h:HF)(x:Approval)  : Ret prog 161 [.agg (vA x).toArray] h (.bool (jz x)):=by
 refine sT func161 U ntmps161 U λX hM hX hF=>?_
 have hs0:=@rfl _ (jz x)
 refine sr (cv (λb1=>qL 7 [0] U (ai IF (lG h x.No 1048576) U (qO 2 U (bT 5 [7,8,9,10,11,12] 7 12 (!(og x.At)) U (λc1 hk1=>?_) (λe=>?_))))))
 .exact qL 2 [0] U (ai call253 (yW h x.At) U (qO 2 U (hk1 _ U)))
 refine av (bT 5 [13,14,15,16,17,18] 13 18 (!(og x.Known)) U (λc2 hk2=>?_) (λe=>?_))
 .exact qL 2 [0] U (ai call253 (yW h x.Known) U (qO 2 U (hk2 _ U)))
 refine av (bT 5 [19,20,21,22,23,24] 19 24 (!(uC x.Doc)) U (λc3 hk3=>?_) (λe=>?_))
 .exact qL 2 [0] U (ai call254 (H3 h x.Doc) U (qO 2 U (hk3 _ U)))
 refine aF (ae hs0 U (λc4 hs1=>?_) (λc4 hs2=>?_))
 .exact sr (an (nretP [.bool false] (cs hs1)))
 refine qK 5 [0] U (ai IF (lG h x.By 63) U (av (bp 4 [28,29,30,31,32] 28 32 (gB x.For 63) U (λc5 hk4=>?_) (λe=>?_))))
 .exact qL 2 [0] U (ai IF (lG h x.For 63) U (eB U (hk4 _ U)))
 refine av (bp 4 [33,34,35,36,37] 33 37 (gB x.Office 31) U (λc6 hk5=>?_) (λe=>?_))
 .exact qL 2 [0] U (ai IF (lG h x.Office 31) U (eB U (hk5 _ U)))
 exact an (nretP [.bool (((gB x.By 63)&&(gB x.For 63))&&(gB x.Office 31))] (cs hs2))
theorem EG(h:HF)(l:List Approval)(ep:Option Addr)(eo:Nat)(hl:SlC kG h ep eo l):Ret prog 78 [.slice ep l.length eo] h (I (ic l)):=by
 refine sT func78 U ntmps78 U λX hM hX hF=>?_
 have hs0:=@rfl _ (ic l)
 refine qK 11 [] U (ae hs0 U (λc1 hs1=>?_) (λc1 hs2=>?_))
 .have c1p:=of_decide_eq_true c1
  exact sr (an (nretP [I 2] (ci hs1)))
 have c1p:=of_decide_eq_false c1
 refine qT 6 U ?_
 refine lp0 l (λi=>[(0,.slice ep l.length eo),(3,I (i:Int))]) ([]) (λs1 i=>(ic.L1 l (ic.K1)) s1 i) hl.1.1 hs2 ?_ ?_ ?_
 .rintro i1 fm hs4 e
  exact sr (an (nretP [I 0] (ci hs4)))
 .rintro i1 y1 rz1 hd1 df aS ek gu hs6 hx1 ag1 e
  refine qK 6 [] U (tO df U (qO 6 U ?_))
  refine oa [(0,.slice ep l.length eo),(3,I (i1:Int)),(36,.bool ((!(jz y1))||(decide (0<(i1:Int))&&decide (y1.No<=(nthI l ((i1:Int)-1)).No))))] (λe=>?_) (λhk1=>?_)
  rotate_left
  .refine er ([]) mixed kr jn (λdY _=>?_)
   refine qA [0,1] U (eJ 2 (enc:=vA) dY jn ei md ty81 hl.1 (nthZ aS) (fh aS) U U U U kr (λq4 A4=>tf 3 U U (λ_ _ hj=>lL ty81 (A4.mono hj.1) U U) (tn 4 U (eZ call161 (EF h y1) U (⟨jn,qA [5,6] U ?_⟩)))))
   refine dh 19 U (λc2=>?_) (λc2=>?_)
   .exact tk 7 U U (qR 8 16 U (aJ kr (hk1 _ ⟨U,U,(cb (show true=((!(jz y1))||(decide (0<(i1:Int))&&decide (y1.No<=(nthI l ((i1:Int)-1)).No)))from by rw[c2]<;>rfl)),trivial⟩)))
   refine qR 7 3 U ?_
   refine dh 22 U (λc3=>?_) (λc3=>?_)
   .have c3p:=of_decide_eq_true c3
    refine qA [10,11] U (tf 12 U U (λ_ _ _=>ng (v':=I ((i1:Int)-1)) U (jh ob)) ?_)
    have ho2:0<=(((i1:Int)-1):Int)/\(((i1:Int)-1):Int)<((l).length:Int):=ob
    exact eJ 13 (enc:=vA) dY jn ei md ty81 hl.1 ho2 (cV ho2) U U U U kr (λq5 A5=>qB [14] U (tf 15 U U (rh ty3 A5 U) (qA [16,17] U (eJ 18 (enc:=vA) dY jn ei md ty81 hl.1 (nthZ aS) (fh aS) U U U U kr (λq6 A6=>qB [19] U (tf 20 U U (rh ty3 A6 U) (qR 21 3 U (aJ kr (hk1 _ ⟨U,U,(cb (show decide (y1.No<=(nthI l ((i1:Int)-1)).No)=((!(jz y1))||(decide (0<(i1:Int))&&decide (y1.No<=(nthI l ((i1:Int)-1)).No)))from by rw[c2,c3]<;>rfl)),trivial⟩)))))))))
   have c3p:=of_decide_eq_false c3
   exact tk 10 U U (qR 11 13 U (aJ kr (hk1 _ ⟨U,U,(cb (show false=((!(jz y1))||(decide (0<(i1:Int))&&decide (y1.No<=(nthI l ((i1:Int)-1)).No)))from by rw[c2,c3]<;>rfl)),trivial⟩)))
  refine ae hs6 U (λc4 hs7=>?_) (λc4 hs8=>?_)
  .exact sr (an (nretP [I 280] (ci hs7)))
  exact aI (qT 3 U (oi i1 U (an (ag1 hs8))))
 rintro i1 hd1 fS hx e
 exact qK 6 [] U (fO fS U (qO 3 U (hx _ rd)))
theorem EC(h:HF)(bN:Register)(eN:fq)(jr:Sa h bN eN)(hsm:smR bN):Ret prog 14 [.agg (vN bN eN).toArray] h (I (lk bN)):=by
 refine sT func14 U ntmps14 U λX hM hX hF=>?_
 have hs0:=@rfl _ (lk bN)
 have hsv:=hsm.vers
 refine sr (cv (λb1=>qL 7 [0] U (ai call72 (ER _ _ _ _ jr.Appoints) U (qO 2 U (bT 5 [7,8,9,10,11,12] 7 12 ((ie bN.Deputies) != 0) U (λc1 hk1=>?_) (λe=>?_))))))
 .exact qL 2 [0] U (ai call73 (EP _ _ _ _ jr.Deputies) U (qO 2 U (hk1 _ U)))
 refine av (bT 5 [13,14,15,16,17,18] 13 18 ((ib bN.Interests) != 0) U (λc2 hk2=>?_) (λe=>?_))
 .exact qL 2 [0] U (ai call74 (EE _ _ _ _ jr.Interests) U (qO 2 U (hk2 _ U)))
 refine av (bT 5 [19,20,21,22,23,24] 19 24 ((fE bN.Budgets) != 0) U (λc3 hk3=>?_) (λe=>?_))
 .exact qL 2 [0] U (ai call75 (w6 _ _ _ _ jr.Budgets) U (qO 2 U (hk3 _ U)))
 refine aF (ae hs0 U (λc4 hs1=>?_) (λc4 hs2=>?_))
 .exact sr (an (nretP [I 300] (ci hs1)))
 refine qK 6 [0] U (ai call76 (AW _ _ _ _ jr.Versions ob) U (qO 2 U (bT 5 [29,30,31,32,33,34] 29 34 ((dL bN.Docs) != 0) U (λc5 hk4=>?_) (λe=>?_))))
 .exact qL 2 [0] U (ai call77 (w9 _ _ _ _ jr.Docs) U (qO 2 U (hk4 _ U)))
 refine av (bT 5 [35,36,37,38,39,40] 35 40 ((ic bN.Approvals) != 0) U (λc6 hk5=>?_) (λe=>?_))
 .exact qL 2 [0] U (ai call78 (EG _ _ _ _ jr.Approvals) U (qO 2 U (hk5 _ U)))
 refine aF (ae hs2 U (λc7 hs4=>?_) (λc7 hs5=>?_))
 .exact sr (an (nretP [I 300] (ci hs4)))
 exact aI (qT 4 U (nretP [I 0] (ci hs5)))
theorem wa(h:HF)(eE:Int)  : Ret prog 82 [I eE] h (.bool (mC eE)):=by
 refine sT func82 U ntmps82 U λX hM hX hF=>?_
 have hs0:=@rfl _ (mC eE)
 refine qT 9 U (bp 3 [5,6,7,8] 5 8 (decide (eE<1099511627776)) U (λc1 hk1=>?_) (λe=>?_))
 .exact av (qO 2 U (hk1 _ U))
 exact an (nretP [.bool (decide (0<=eE)&&decide (eE<1099511627776))] (cs hs0))
theorem AY(h:HF)(l:List Document)(ep:Option Addr)(eo:Nat)(signed:List Int)(cd:Option Addr)(bZ:Nat)(hl:SlC kR h ep eo l)(hsigned:SlC zC h cd bZ signed):Ret prog 222 [.slice ep l.length eo,.slice cd signed.length bZ] h (.bool (eM l signed)):=by
 refine sT func222 U ntmps222 U λX hM hX hF=>?_
 have hs0:=@rfl _ (eM l signed)
 refine qT 9 U ?_
 refine lp0 signed (λi=>[(0,.slice ep l.length eo),(1,.slice cd signed.length bZ),(5,I (i:Int))]) ([]) (λs1 i=>(eM.L1 (eM.K1 l signed)) s1) hsigned.1.1 hs0 ?_ ?_ ?_
 .rintro i1 fm hs1 e
  exact qK 9 [] U (nretP [.bool ((signed.length:Int)==(l.length:Int))] (cs hs1))
 .rintro i1 y1 rz1 hd1 df aS ek gu hs3 hx1 ag1 e
  refine qK 6 [] U (tO df U (qO 9 U (aA (iF (λy=>[I y]) ec ty3 hsigned.1 aS U U U (λq3 A3=>dj ty3 A3 U (qO 2 U (bp 7 [17,18,19,20,21,22,23,24] 17 24 (!(lT y1)) U (λc1 hk1=>?_) (λe=>?_))))))))
  .exact av (av (aA (iF (λy=>[I y]) ec ty3 hsigned.1 aS U U U (λq4 A4=>dj ty3 A4 U (ai call223 (un h y1) U (qO 2 U (hk1 _ U)))))))
  refine aF (ae hs3 U (λc2 hs4=>?_) (λc2 hs5=>?_))
  .exact sr (an (nretP [.bool false] (cs hs4)))
  exact aI (qT 3 U (oi i1 U (an (ag1 hs5))))
 rintro i1 hd1 fS hx e
 exact qK 6 [] U (fO fS U (qO 3 U (hx _ rd)))
theorem vf(h:HF)(l:List Int)(ep:Option Addr)(eo:Nat)(DF:Int)(hl:SlC zC h ep eo l):Ret prog 334 [.slice ep l.length eo,I DF] h (.bool (fP l DF)):=by
 refine sT func334 U ntmps334 U λX hM hX hF=>?_
 have hs0:=@rfl _ (fP l DF)
 refine qT 9 U ?_
 refine lp0 l (λi=>[(0,.slice ep l.length eo),(1,I DF),(5,I (i:Int))]) ([]) (λs1 i=>(fP.L1 DF (fP.K1)) s1) hl.1.1 hs0 ?_ ?_ ?_
 .rintro i1 fm hs1 e
  exact sr (an (nretP [.bool false] (cs hs1)))
 .rintro i1 y1 rz1 hd1 df aS ek gu hs3 hx1 ag1 e
  refine qK 6 [] U (tO df U (qO 9 U (aA (iF (λy=>[I y]) ec ty3 hl.1 aS U U U (λq2 A2=>dj ty3 A2 U (qO 3 U (ae hs3 U (λc2 hs4=>?_) (λc2 hs5=>?_))))))))
  .exact sr (an (nretP [.bool true] (cs hs4)))
  exact aI (qT 3 U (oi i1 U (an (ag1 hs5))))
 rintro i1 hd1 fS hx e
 exact qK 6 [] U (fO fS U (qO 3 U (hx _ rd)))
theorem w7(h:HF)(l:List Document)(ep:Option Addr)(eo:Nat)(done:List Int)(Ar:Option Addr)(Aq:Nat)(effective:List Bool)(tV:Option Addr)(tU:Nat)(uV:Int)(cD:Int)(hl:SlC kR h ep eo l)(hdone:SlC zC h Ar Aq done)(heffective:SlC S2 h tV tU effective)(hdn:∀x∈done,0<=x/\x<(l.length:Int))(hef:effective.length=l.length):Ret prog 295 [.slice ep l.length eo,.slice Ar done.length Aq,.slice tV effective.length tU,I uV,I cD] h (.tuple #[I ((eP l done effective uV cD).1),I ((eP l done effective uV cD).2)]):=by
 refine sT func295 U ntmps295 U λX hM hX hF=>?_
 have hs0:=@rfl _ (eP l done effective uV cD)
 refine qT 10 U (ai call334 (vf _ _ _ _ uV hdone) U (qO 2 U (ae hs0 U (λc1 hs1=>?_) (λc1 hs2=>?_))))
 .refine qT 5 U ?_
  have hs3:eP l done effective uV cD=(1,(-1)):=hs1
  exact nretP [I 1,I (-1)] (hs3▸U)
 refine qT 6 U ?_
 have ho1:0<=(uV:Int)/\(uV:Int)<((effective).length:Int):=(by first|omega|exact Fh hdn hef ob)
 refine aA (oP (enc:=λy=>[.bool y]) ei uw ty4 heffective.1 ho1 (cV ho1) U U U (λq1 A1=>dj ty4 A1 U (qO 2 U (ae hs2 U (λc2 hs4=>?_) (λc2 hs5=>?_)))))
 .refine qT 5 U ?_
  have hs6:eP l done effective uV cD=(4,(-1)):=hs4
  exact nretP [I 4,I (-1)] (hs6▸U)
 refine qT 6 U ?_
 refine lp0 l (λi=>[(0,.slice ep l.length eo),(1,.slice Ar done.length Aq),(2,.slice tV effective.length tU),(3,I uV),(4,I cD),(12,I (i:Int))]) ([]) (λs1 i=>(eP.L1 l done effective uV (eP.K1 l uV cD)) s1 i) hl.1.1 hs5 ?_ ?_ ?_
 .rintro i1 fm hs7 e
  refine qT 6 U ?_
  have ho3:0<=(uV:Int)/\(uV:Int)<((l).length:Int):=(by first|omega|exact Fh hdn rfl ob)
  refine aA (uk nP ty51 hl.1 ho3 (cV ho3) U U U (λ_ _ _ e=>e) (λq3 r1 A3 ok1=>qL 1 [] U (iZ (j:=4) ty3 A3 U U (qO 2 U (ae hs7 U (λc3 hs8=>?_) (λc3 hs9=>?_))))))
  .have c3p:=of_decide_eq_true c3
   refine qT 5 U ?_
   have hs10:eP l done effective uV cD=(2,(-1)):=hs8
   exact nretP [I 2,I (-1)] (hs10▸U)
  have c3p:=of_decide_eq_false c3
  refine qT 7 U ?_
  have ho4:0<=(uV:Int)/\(uV:Int)<((l).length:Int):=(by first|omega|exact Fh hdn rfl ob)
  refine aA (uk nP ty51 hl.1 ho4 (cV ho4) U U U (λ_ _ _ e=>e) (λq4 r2 A4 ok2=>qL 1 [] U (iZ (j:=5) ty3 A4 U U (qO 2 U (ae hs9 U (λc4 hs11=>?_) (λc4 hs12=>?_))))))
  .have c4p:=of_decide_eq_true c4
   refine qT 5 U ?_
   have hs13:eP l done effective uV cD=(3,(-1)):=hs11
   exact nretP [I 3,I (-1)] (hs13▸U)
  have c4p:=of_decide_eq_false c4
  refine qT 6 U ?_
  have hs14:eP l done effective uV cD=(0,(-1)):=hs12
  exact nretP [I 0,I (-1)] (hs14▸U)
 .rintro i1 y1 rz1 hd1 df aS ek gu hs15 hx1 ag1 e
  refine qK 6 [] U (tO df U (qO 6 U ?_))
  refine oa [(0,.slice ep l.length eo),(1,.slice Ar done.length Aq),(2,.slice tV effective.length tU),(3,I uV),(4,I cD),(12,I (i1:Int)),(49,.bool (((fP done (i1:Int))&&(nthI effective (i1:Int)))&&(fP y1.Revokes ((nthI l uV).No))))] (λe=>?_) (λhk1=>?_)
  rotate_left
  .refine er ([]) mixed kr jn (λdY _=>?_)
   refine qA [0,1] U (tn 2 U (eZ call334 (vf _ _ _ _ (i1:Int) hdone) U (⟨jn,(tm 3 U ?_)⟩)))
   refine dh 31 U (λc5=>?_) (λc5=>?_)
   .refine qA [4,5] U ?_
    have ho5:0<=((i1:Int):Int)/\((i1:Int):Int)<((effective).length:Int):=(by first|omega|exact Fh hdn hef ob)
    refine eJ 6 (enc:=λy=>[.bool y]) dY jn ei uw ty4 heffective.1 ho5 (cV ho5) U U U U kr (λq5 A5=>tf 7 U U (rh ty4 A5 U) (qA [8,9] U ?_))
    refine dh 37 U (λc6=>?_) (λc6=>?_)
    .refine qA [10,11] U (jf 12 dY jn nP ty51 hl.1 (nthZ aS) (fh aS) U U U U kr (λq6 cs3 A6 ln3 rr3=>?_))
     obtain⟨r3,rfl,ok3⟩:=rr3
     refine qB [13] U (tf 14 U U (rH 7 ty31 A6 U U) (qA [15,16] U ?_))
     have ho6:0<=(uV:Int)/\(uV:Int)<((l).length:Int):=(by first|omega|exact Fh hdn rfl ob)
     refine jf 17 dY jn nP ty51 hl.1 ho6 (cV ho6) U U U U kr (λq7 cs4 A7 ln4 rr4=>?_)
     obtain⟨r4,rfl,ok4⟩:=rr4
     exact tf 18 U U (λ_ _ _=>tL Qh U) (tf 19 U U (rh ty3 A7 U) (tn 20 U (eZ call334 (vf _ _ _ _ ((nthI l uV).No) ok3.Revokes) U (⟨jn,(qA [21] U (aJ kr (hk1 _ ⟨U,U,U,U,U,U,(cb (show(fP y1.Revokes ((nthI l uV).No))=(((fP done (i1:Int))&&(nthI effective (i1:Int)))&&(fP y1.Revokes ((nthI l uV).No)))from by rw[c5,c6]<;>rfl)),trivial⟩)))⟩))))
    exact tk 10 U U (qR 11 11 U (aJ kr (hk1 _ ⟨U,U,U,U,U,U,(cb (show false=(((fP done (i1:Int))&&(nthI effective (i1:Int)))&&(fP y1.Revokes ((nthI l uV).No)))from by rw[c5,c6]<;>rfl)),trivial⟩)))
   exact tk 4 U U (qR 5 17 U (aJ kr (hk1 _ ⟨U,U,U,U,U,U,(cb (show false=(((fP done (i1:Int))&&(nthI effective (i1:Int)))&&(fP y1.Revokes ((nthI l uV).No)))from by rw[c5]<;>rfl)),trivial⟩)))
  refine ae hs15 U (λc7 hs16=>?_) (λc7 hs17=>?_)
  .refine dK (er ([]) mixed kr jn (λmt _=>qA [0,1] U (jf 2 mt jn nP ty51 hl.1 (nthZ aS) (fh aS) U U U U kr (λq8 cs5 A8 ln5 rr5=>?_))))
   obtain⟨r5,rfl,ok5⟩:=rr5
   refine qB [3] U (tf 4 U U (rh ty3 A8 U) (qA [5,6] U (aJ kr ?_)))
   have hs18:eP l done effective uV cD=(5,y1.No):=hs16
   exact nretP [I 5,I y1.No] (hs18▸U)
  exact aI (qT 3 U (oi i1 U (an (ag1 hs17))))
 rintro i1 hd1 fS hx e
 exact qK 6 [] U (fO fS U (qO 3 U (hx _ rd)))
theorem w8(h:HF)(signed:List Int)(cd:Option Addr)(bZ:Nat)(il:Int)(hsigned:SlC zC h cd bZ signed)(hsn:signed.length<=2000000):ju prog 296 [.slice cd signed.length bZ,I il] h (λv h'=>∃(rb0:Option Addr)(rc0:Nat),v=.slice rb0 (bV signed il).length rc0/\SlC zC h' rb0 rc0 (bV signed il)):=by
 refine sT func296 U ntmps296 U λX hM hX hF=>?_
 have hs0:=@rfl _ (bV signed il)
 refine qT 6 U (aA (oC ec ty3 (λb1=>qO 7 U (eI 0 U hM (λh1 hle1 hb1=>?_)))))
 have sl1:SlC zC h1 (some ⟨b1,0,none⟩) 0 ([]):=bz.slB0 (T:=3) (fz:=(0,0)) ((show bz zC h [] ([])from rfl).mono xH hle1) hb1
 refine lp2 signed (λi w=>[(0,.slice cd signed.length bZ),(1,I il),(5,.slice w.2.1 w.1.length w.2.2.1),(6,I (i:Int))]) (λw=>w.2.2.2) (λw=>[]) (λi w=>SlC zC w.2.2.2 w.2.1 w.2.2.1 w.1/\w.1.length<=i/\xN h1 w.2.2.2/\(∀x∈w.1,0<=x/\x<(signed.length:Int))) (λs1 i w=>(bV.L1 signed il (bV.K1)) s1 i w.1) ([],(some ⟨b1,0,none⟩),0,h1) ((hsigned.mono xH hle1).1.1) hs0 ⟨sl1,(by first|omega|(simp only[jA,xA,vB];omega)|(simp only[jA,xA,vB,List.length_take,List.length_drop];first|omega|(dsimp only;omega))),lf,(λx hx=>(List.not_mem_nil hx).elim)⟩ ?_ ?_ ?_
 .rintro i1 ⟨eO,wj,wi,hh1⟩ fm hs1 ⟨rg,FB,hl1,u1_0⟩ e
  try dsimp only at rg FB hl1 u1_0
  refine qT 5 U ?_
  have hs2:bV signed il=eO:=hs1
  exact nretH [.slice wj eO.length wi] ⟨wj,wi,congrArg (λr:List Int=>(.slice wj r.length wi:Value)) hs2.symm,(by rw[hs2];exact rg)⟩
 .rintro i1 ⟨eO,wj,wi,hh1⟩ y1 rz1 hd1 df aS ek gu hs3 ⟨rg,FB,hl1,u1_0⟩ hx1 ag1 e
  try dsimp only at rg FB hl1 u1_0
  refine qK 6 [] U (tO df U (qO 10 U (aA (iF (λy=>[I y]) ec ty3 (hsigned.mono xH (hle1.t hl1)).1 aS U U U (λq3 A3=>dj ty3 A3 U (qO 2 U (bT 7 [20,21,22,23,24,25,26,27] 20 27 (decide (il<y1)) U (λc1 hk1=>?_) (λe=>?_))))))))
  .exact av (av (aA (iF (λy=>[I y]) ec ty3 (hsigned.mono xH (hle1.t hl1)).1 aS U U U (λq4 A4=>dj ty3 A4 U (qO 3 U (hk1 _ U))))))
  refine aF (ae hs3 U (λc2 hs4=>?_) (λc2 hs5=>?_))
  .exact lK U (qT 2 U (oi i1 U (an (ag1 (eO,wj,wi,hh1) hs4 ⟨rg,(by first|omega|(simp only[jA,xA,vB];omega)|(simp only[jA,xA,vB,List.length_take,List.length_drop];first|omega|(dsimp only;omega))),hl1,(by first|assumption|exact Bd u1_0 ob)⟩))))
  refine qK 8 [] U ?_
  refine ir (ι:=Nat) (λi=>[(0,.slice cd signed.length bZ),(1,I il),(5,.slice wj eO.length wi),(6,I (i1:Int)),(7,I (((eO.length-i):Nat):Int))]) (λi=>hh1) (λi=>[]) (λi=>i<=(qH eO.length).length/\bV signed il=((λzi3=>(bV.L1 signed il (bV.K1) rz1 (i1+1) (((eO.take (((((eO.length-zi3):Nat):Int):Int)).toNat)++[(i1:Int)])++(eO.drop (((((eO.length-zi3):Nat):Int):Int)).toNat)))) i)) ?_ (λhx3=>?_)
  .rintro i3 ⟨yP,hs6⟩ e
   try dsimp only at yP
   refine er ([]) mixed kr jn (λdY _=>?_)
   refine qA [1,2] U (GY 3 dY jn ec ty3 rg.1 rg.2 ob U U U U kr (λsb3 sc3 sl5=>qA [5,8,9] U (ML 10 dY jn ec ty3 rg.1 rg.2 ob U U U U kr (λsb4 sc4 sl6=>?_))))
   refine m6 0 6 kr U U ?_ ?_ 
   .refine oC ec ty3 (λb4=>⟨jn,?_⟩)
    refine m6 4 6 kr U U ?_ ?_ 
    .refine dE TN ([]) ([]) (λG=>G) ap (λ_=>ap) ec ty3 zc3 U bytes3 (du.lit (show bz zC hh1 [] ([])from U) U) U U (lR sl5.1) lo lo (λob4 oc4 G4 gr4=>⟨jn,(tn 6 U (bE (cells:=[I (i1:Int)]) ec ty3 zc3 U U kr (λb5=>?_)))⟩)
     let z3:Nat×Obj:=(b5,O [I (i1:Int)] 3)
     exact⟨jn,(tn 7 U (dE TN ([z3]) ([]) (λG=>[z3]++G) ap (λ_=>ap) ec ty3 zc3 U bytes3 gr4 U U (e8 0 U (cE (i1:Int) U U)) lo lo (λob5 oc5 G5 gr5=>⟨jn,(tn 11 U (dE TN ([z3]) ([]) (λG=>[z3]++G) ap (λ_=>ap) ec ty3 zc3 U bytes3 gr5 U U (lR sl6.1) lo lo (λob6 oc6 G6 gr6=>⟨jn,(qA [12] U (aJ kr (qT 3 U (oi i1 U (an (fx xH ([z3]) G6 ([]) ap hM gr6 (λh3 hle3 sl7=>bo (L':=[]) js (ag1 ((((eO.take (((((eO.length-i3):Nat):Int):Int)).toNat)++[(i1:Int)])++(eO.drop (((((eO.length-i3):Nat):Int):Int)).toNat)),ob6,oc6,h3) hs6 ⟨sl7,(by first|omega|(simp only[jA,xA,vB];omega)|(simp only[jA,xA,vB,List.length_take,List.length_drop];first|omega|(dsimp only;omega))),(hl1.t hle3),(by first|assumption|exact Bd u1_0 ob)⟩))))))))⟩)))⟩)))⟩
    refine bE (cells:=[I (i1:Int)]) ec ty3 zc3 U U kr (λb6=>⟨jn,(tn 4 U ?_)⟩)
    let z1:Nat×Obj:=(b6,O [I (i1:Int)] 3)
    exact dE TN ([z1]) ([]) (λG=>[z1]++G) ap (λ_=>ap) ec ty3 zc3 U bytes3 (du.lit (show bz zC hh1 [] ([])from U) U) U U (lR sl5.1) lo lo (λob7 oc7 G7 gr7=>⟨jn,(tn 7 U (dE TN ([z1]) ([]) (λG=>[z1]++G) ap (λ_=>ap) ec ty3 zc3 U bytes3 gr7 U U (e8 0 U (cE (i1:Int) U U)) lo lo (λob8 oc8 G8 gr8=>⟨jn,(tn 11 U (dE TN ([z1]) ([]) (λG=>[z1]++G) ap (λ_=>ap) ec ty3 zc3 U bytes3 gr8 U U (lR sl6.1) lo lo (λob9 oc9 G9 gr9=>⟨jn,(qA [12] U (aJ kr (qT 3 U (oi i1 U (an (fx xH ([z1]) G9 ([]) ap hM gr9 (λh4 hle4 sl8=>bo (L':=[]) js (ag1 ((((eO.take (((((eO.length-i3):Nat):Int):Int)).toNat)++[(i1:Int)])++(eO.drop (((((eO.length-i3):Nat):Int):Int)).toNat)),ob9,oc9,h4) hs6 ⟨sl8,(by first|omega|(simp only[jA,xA,vB];omega)|(simp only[jA,xA,vB,List.length_take,List.length_drop];first|omega|(dsimp only;omega))),(hl1.t hle4),(by first|assumption|exact Bd u1_0 ob)⟩))))))))⟩)))⟩)))⟩)
   refine bE (cells:=[I (i1:Int)]) ec ty3 zc3 U U kr (λb7=>⟨jn,(tn 0 U ?_)⟩)
   let z2:Nat×Obj:=(b7,O [I (i1:Int)] 3)
   exact oC ec ty3 (λb8=>⟨jn,(tn 4 U (dE TN ([]) ([z2]) (λG=>[z2]++G) ap (λ_=>ap) ec ty3 zc3 U bytes3 (du.lit (show bz zC hh1 [] ([])from U) U) U U (lR sl5.1) lo lo (λob10 oc10 G10 gr10=>⟨jn,(tn 7 U (dE TN ([z2]) ([]) (λG=>[z2]++G) ap (λ_=>ap) ec ty3 zc3 U bytes3 gr10 U U (e8 0 U (cE (i1:Int) U U)) lo lo (λob11 oc11 G11 gr11=>⟨jn,(tn 11 U (dE TN ([z2]) ([]) (λG=>[z2]++G) ap (λ_=>ap) ec ty3 zc3 U bytes3 gr11 U U (lR sl6.1) lo lo (λob12 oc12 G12 gr12=>⟨jn,(qA [12] U (aJ kr (qT 3 U (oi i1 U (an (fx xH ([z2]) G12 ([]) ap hM gr12 (λh5 hle5 sl9=>bo (L':=[]) js (ag1 ((((eO.take (((((eO.length-i3):Nat):Int):Int)).toNat)++[(i1:Int)])++(eO.drop (((((eO.length-i3):Nat):Int):Int)).toNat)),ob12,oc12,h5) hs6 ⟨sl9,(by first|omega|(simp only[jA,xA,vB];omega)|(simp only[jA,xA,vB,List.length_take,List.length_drop];first|omega|(dsimp only;omega))),(hl1.t hle5),(by first|assumption|exact Bd u1_0 ob)⟩))))))))⟩)))⟩)))⟩)))⟩)
  refine jZ (ι:=Nat×List Nat) (λi=>[(0,.slice cd signed.length bZ),(1,I il),(5,.slice wj eO.length wi),(6,I (i1:Int)),(7,I (((eO.length-i.1):Nat):Int))]) (λi=>hh1) (λi=>[]) (λi=>(qH eO.length).drop i.1=i.2/\i.1<=(qH eO.length).length/\bV signed il=((bV.L3 signed y1 eO (λzi3=>(bV.L1 signed il (bV.K1) rz1 (i1+1) (((eO.take (((((eO.length-zi3):Nat):Int):Int)).toNat)++[(i1:Int)])++(eO.drop (((((eO.length-zi3):Nat):Int):Int)).toNat))))) i.2 i.1)) (λi=>i.2.length) (0,(qH eO.length)) ⟨U,U,U,U,(congrArg (zD .i64) (show(eO.length:Int)=(((eO.length-0):Nat):Int)from by omega)),trivial⟩ sw ⟨U,qM _,hs5⟩ ?_
  rintro⟨i3,s3⟩ ⟨hd3,Gx,hs7⟩ ag2 e
  try dsimp only at hd3 Gx
  rcases s3 with _|⟨y3,rz3⟩
  .have OG:decide (0<(((eO.length-i3):Nat):Int))=false:=decide_eq_false (by have q_:=of_decide_eq_false (mR hd3);rw[List.length_range]at q_;omega)
   exact dK (dK (er ([]) mixed kr jn (λmt _=>tm 0 U (tf 1 U U (λ_ _ _=>ng (v':=.bool false) U (cb OG)) (qR 2 15 U (aJ kr (qT 2 U (hx3 i3 _ ⟨Gx,hs7⟩ rd))))))))
  have Cr:decide (0<(((eO.length-i3):Nat):Int))=true:=decide_eq_true (by have q_:=hY hd3;rw[List.length_range]at q_;omega)
  have Db:i3<eO.length:=by simpa using hY hd3
  refine qT 2 U (er ([]) mixed kr jn (λJZ _=>tm 0 U (tf 1 U U (λ_ _ _=>ng (v':=.bool true) U (cb Cr)) (qR 2 4 U (tf 6 U U (λ_ _ _=>ng (v':=I (((eO.length-(i3+1)):Nat):Int)) U (Iv Db ob)) ?_)))))
  have ho3:0<=((((eO.length-(i3+1)):Nat):Int):Int)/\((((eO.length-(i3+1)):Nat):Int):Int)<((eO).length:Int):=ob
  refine eJ 7 (enc:=λy=>[I y]) JZ jn ei ec ty3 rg.1 ho3 (cV ho3) U U U U kr (λq8 A8=>tf 8 U U (rh ty3 A8 U) ?_)
  have ho4:0<=((nthI eO (((eO.length-(i3+1)):Nat):Int)):Int)/\((nthI eO (((eO.length-(i3+1)):Nat):Int)):Int)<((signed).length:Int):=(by first|omega|exact PW u1_0 ob _)
  refine eJ 9 (enc:=λy=>[I y]) JZ jn ei ec ty3 (hsigned.mono xH (hle1.t hl1)).1 ho4 (cV ho4) U U U U kr (λq9 A9=>tf 10 U U (rh ty3 A9 U) (qA [11,12] U (eJ 13 (enc:=λy=>[I y]) JZ jn ei ec ty3 (hsigned.mono xH (hle1.t hl1)).1 (nthZ aS) (fh aS) U U U U kr (λq10 A10=>tf 14 U U (rh ty3 A10 U) (qA [15,16] U (aJ kr (ae hs7 U (λc4 hs9=>?_) (λc4 hs10=>?_))))))))
  .have c4p:=of_decide_eq_true c4
   exact aI (qT 3 U (io (v':=I (((eO.length-(i3+1)):Nat):Int)) U (Iv Db ob) (qO 3 U (ag2 ((i3+1),rz3) _ (Nat.lt_succ_self _) ⟨kw hd3,hY hd3,hs9⟩ rd))))
  have c4p:=of_decide_eq_false c4
  exact lK U (hx3 i3 _ ⟨Gx,hs10⟩ rd)
 rintro i1 ⟨eO,wj,wi,hh1⟩ hd1 fS hx e
 exact qK 6 [] U (fO fS U (qO 3 U (hx _ rd)))
theorem EN(h:HF)(l:List Document)(ep:Option Addr)(eo:Nat)(signed:List Int)(cd:Option Addr)(bZ:Nat)(ba:Int)(hl:SlC kR h ep eo l)(hsigned:SlC zC h cd bZ signed)(hsg:signed.length=l.length)(hsn:signed.length<=2000000)(hnd:∀d∈l,d.Needs.length<=16):ju prog 294 [.slice ep l.length eo,.slice cd signed.length bZ,I ba] h (λv h'=>∃(rb0:Option Addr)(rc0:Nat),v=.slice rb0 (bW l signed ba).length rc0/\SlC zC h' rb0 rc0 (bW l signed ba)):=by
 refine sT func294 U ntmps294 U λX hM hX hF=>?_
 have hs0:=@rfl _ (bW l signed ba)
 refine qT 8 U (aA (cR call296 (w8 _ _ _ _ ba hsigned ob) U (λv1 h1 hle1 hp1=>?_)))
 obtain⟨rb1,rc1,rfl,sl1⟩:=hp1
 refine qL 6 [] U (aA (Ob (R:=S2) (x0:=false) (m:=l.length) (λG=>G) U U (λ_=>ap) uw zc4 ty4 bytes4 U U ob ob (λb1 G1 gr1=>qO 4 U (aA (oC ec ty3 (λb2=>qO 7 U ?_))))))
 obtain⟨G6,gr6,ge1⟩:∃G:LH,du zC 3 h1 ([]) (some ⟨b2,0,none⟩) 0 G/\[(b2,O [] 3)]=G:=⟨_,du.lit (show bz zC h1 [] ([])from rfl) rfl,rfl⟩
 refine cg (L':=([])++([(b2,O [] 3)]++G1)) ap ?_
 rw[ge1]
 refine lJ (List.Perm.append_left _ kJ) (cg (L':=G1++G6) ap ?_)
 refine lp4 l (λi w=>[(0,.slice ep l.length eo),(1,.slice cd signed.length bZ),(7,.slice rb1 ((bV signed ba).length) rc1),(8,.slice (some ⟨b1,0,none⟩) ((List.replicate l.length false).length) l.length),(9,.slice w.2.1 w.1.length w.2.2.1),(10,I (i:Int))]) (λ_=>h1) (λw=>G1++(w.2.2.2)) (λi w=>du zC 3 h1 w.1 w.2.1 w.2.2.1 w.2.2.2/\w.1.length<=0+i/\w.1.length=i) (λi w=>du zC 3 h1 w.1 w.2.1 w.2.2.1 w.2.2.2/\w.1.length<=0+i/\w.1.length=l.length) (λi g hi h=>⟨h.1,h.2.1,h.2.2.trans hi⟩) (λs1 i w=>(bW.L1 (bW.K1 l signed ba)) s1 w.1) ([],(some ⟨b2,0,none⟩),0,G6) ((hl.mono jH hle1).1.1) hs0 ⟨gr6,lo,U⟩ ?_ ?_ ?_
 .rintro i1 ⟨mK,rK,rJ,uL⟩ fm hs1 ⟨po,xY,u1_0⟩ e
  try dsimp only at po xY u1_0
  refine qT 5 U ?_
  refine lp2 (bV signed ba) (λi w=>[(0,.slice ep l.length eo),(1,.slice cd signed.length bZ),(7,.slice rb1 ((bV signed ba).length) rc1),(8,.slice w.2.1 w.1.length w.2.2.1),(9,.slice w.2.2.2.2.2.1 w.2.2.2.2.1.length w.2.2.2.2.2.2.1),(11,I (i:Int))]) (λ_=>h1) (λw=>w.2.2.2.1++(w.2.2.2.2.2.2.2)) (λi w=>du S2 4 h1 w.1 w.2.1 w.2.2.1 w.2.2.2.1/\du zC 3 h1 w.2.2.2.2.1 w.2.2.2.2.2.1 w.2.2.2.2.2.2.1 w.2.2.2.2.2.2.2/\w.1.length=l.length/\w.2.2.2.2.1.length=l.length) (λs2 i w=>(bW.L2 l signed ba (bW.K2)) s2 i w.1 w.2.2.2.2.1) ((List.replicate l.length false),(some ⟨b1,0,none⟩),l.length,G1,mK,rK,rJ,uL) sl1.1.1 hs1 ⟨gr1,po,List.length_replicate,ob⟩ ?_ ?_ ?_
  .rintro i2 ⟨kW,oH,oG,nK,Ft,Hr,Hq,Mi⟩ yP hs2 ⟨pj,J8,u2_0,u2_1⟩ e
   try dsimp only at pj J8 u2_0 u2_1
   refine qT 5 U (fx xH (nK) Mi ([]) ap hM J8 (λh2 hle2 sl8=>cg (L':=nK) ap ?_))
   have hs3:bW l signed ba=Ft:=hs2
   exact nretH [.slice Hr Ft.length Hq] ⟨Hr,Hq,congrArg (λr:List Int=>(.slice Hr r.length Hq:Value)) hs3.symm,(by rw[hs3];exact sl8)⟩
  .rintro i2 ⟨kW,oH,oG,nK,Ft,Hr,Hq,Mi⟩ y2 rz2 hd2 vq qU Dc J3 hs4 ⟨pj,J8,u2_0,u2_1⟩ hx2 ag1 e
   try dsimp only at pj J8 u2_0 u2_1
   have hnl:=Bf (P:=λd:Document=>d.Needs.length<=16) hnd (qM _) y2
   refine qK 6 [] U (tO vq U (qO 9 U (aA (iF (λy=>[I y]) ec ty3 sl1.1 qU U U U (λq35 A35=>dj ty3 A35 U (qO 7 U ?_))))))
   have ho40:0<=(y2:Int)/\(y2:Int)<((l).length:Int):=(by first|omega|(have hq:=sn signed ba _ (fN hd2);omega))
   refine aA (uk nP ty51 (hl.mono jH hle1).1 ho40 (cV ho40) U U U (λ_ _ _ e=>e) (λq36 r15 A36 ok15=>qL 1 [] U (iZ (j:=8) ty31 A36 U U (qL 1 [] U (io (v':=I ((((nthI l y2).Needs.length:Nat):Int)-1)) U (jh ob) (an ?_))))))
   refine ir (ι:=Nat×List Int×Option Addr×Nat×LH) (λi=>[(0,.slice ep l.length eo),(1,.slice cd signed.length bZ),(7,.slice rb1 ((bV signed ba).length) rc1),(8,.slice oH kW.length oG),(9,.slice i.2.2.1 i.2.1.length i.2.2.2.1),(11,I (i2:Int)),(12,I y2)]) (λi=>h1) (λi=>nK++(i.2.2.2.2)) (λi=>i.1<=(qH ((nthI l y2).Needs.length)).length/\bW l signed ba=((λzg4_9=>(bW.L2 l signed ba (bW.K2) rz2 (i2+1) (kW.set (y2:Int).toNat (decide ((nthI zg4_9 y2)<0))) zg4_9)) i.2.1)/\du zC 3 h1 i.2.1 i.2.2.1 i.2.2.2.1 i.2.2.2.2/\i.2.1.length=l.length) ?_ (λhx4=>?_)
   .rintro⟨i4,tr,Fl,Fk,Bk⟩ ⟨Gx,hs5,zj,u4_0⟩ e
    try dsimp only at Gx zj u4_0
    refine qT 5 U ?_
    have ho49:0<=(y2:Int)/\(y2:Int)<((tr).length:Int):=ob
    have hgz:=du.yA zj (by omega)
    obtain⟨bk10,hbk10⟩:=hgz
    refine aA (eT (oq (R:=zC) (xs:=tr) ec ty3 hbk10 ho49 U U U) (aA (eT (ES (R:=zC) (i:=(y2:Int).toNat) (off:=0) ty3 zj hbk10 (cV ho49) (λcs_z hcs=>by rw[show cs_z=[I (nthI tr y2)]from hcs];rfl) U mh) (Mb U ?_))))
    have ho50:0<=(y2:Int)/\(y2:Int)<((kW).length:Int):=ob
    have hgz:=du.yA pj (by omega)
    obtain⟨bk11,hbk11⟩:=hgz
    exact aA (eT (oq (R:=S2) (xs:=kW) uw ty4 hbk11 ho50 U U U) (aA (AO (R:=S2) (i:=(y2:Int).toNat) (off:=0) (u:=(nthI kW y2)) (u':=decide ((nthI tr y2)<0)) (v:=.bool (decide ((nthI tr y2)<0))) ([]) nK (Bk) ty4 U pj ap hbk11 (cV ho50) (by decide) (λcs_z hcs=>by rw[show cs_z=[.bool (nthI kW y2)]from hcs];rfl) U U U (λG12 gr12=>im (L':=G12++(Bk)) (by first|rfl|simp only[List.length_set,kC,zQ,xG,List.append_nil]) (Qt 8 (.slice oH ((kW.set (y2:Int).toNat (decide ((nthI tr y2)<0))).length) oG) (congrArg (λn_=>Value.slice oH n_ oG) (List.length_set ..).symm) (qO 4 U (oi i2 U (an (ag1 ((kW.set (y2:Int).toNat (decide ((nthI tr y2)<0))),oH,oG,G12,tr,Fl,Fk,Bk) hs5 ⟨gr12,zj,(by first|assumption|(rw[List.length_set];assumption)),(by first|assumption|(rw[List.length_set];assumption))⟩)))))))))
   refine jZ (ι:=Nat×List Int×Option Addr×Nat×LH×List Nat) (λi=>[(0,.slice ep l.length eo),(1,.slice cd signed.length bZ),(7,.slice rb1 ((bV signed ba).length) rc1),(8,.slice oH kW.length oG),(9,.slice i.2.2.1 i.2.1.length i.2.2.2.1),(11,I (i2:Int)),(12,I y2),(13,I ((((((nthI l y2).Needs.length)-i.1):Nat):Int)-1))]) (λi=>h1) (λi=>nK++(i.2.2.2.2.1)) (λi=>(qH ((nthI l y2).Needs.length)).drop i.1=i.2.2.2.2.2/\i.1<=(qH ((nthI l y2).Needs.length)).length/\bW l signed ba=((bW.L4 l signed ba i2 y2 kW (λzg4_9=>(bW.L2 l signed ba (bW.K2) rz2 (i2+1) (kW.set (y2:Int).toNat (decide ((nthI zg4_9 y2)<0))) zg4_9))) i.2.2.2.2.2 i.1 i.2.1)/\du zC 3 h1 i.2.1 i.2.2.1 i.2.2.2.1 i.2.2.2.2.1/\i.2.1.length=l.length) (λi=>i.2.2.2.2.2.length) (0,Ft,Hr,Hq,Mi,(qH ((nthI l y2).Needs.length))) ⟨U,U,U,U,U,U,U,(congrArg (zD .i64) (show((((nthI l y2).Needs.length:Nat):Int)-1)=((((((nthI l y2).Needs.length)-0):Nat):Int)-1)from by omega)),trivial⟩ sw ⟨U,qM _,hs4,J8,ob⟩ ?_
   rintro⟨i4,tr,Fl,Fk,Bk,s4⟩ ⟨hd4,M6,hs6,zj,u4_0⟩ ag2 e
   try dsimp only at hd4 M6 zj u4_0
   rcases s4 with _|⟨y4,rz4⟩
   .have Q2:decide (0<=((((((nthI l y2).Needs.length)-i4):Nat):Int)-1))=false:=decide_eq_false (by have q_:=of_decide_eq_false (mR hd4);rw[List.length_range]at q_;omega)
    exact dK (qT 3 U (fO Q2 U (qO 3 U (hx4 (i4,tr,Fl,Fk,Bk) _ ⟨M6,hs6,zj,u4_0⟩ rd))))
   have Q1:decide (0<=((((((nthI l y2).Needs.length)-i4):Nat):Int)-1))=true:=decide_eq_true (by have q_:=hY hd4;rw[List.length_range]at q_;omega)
   have J1:i4<((nthI l y2).Needs.length):=by simpa using hY hd4
   refine qT 4 U (tO Q1 U (qO 6 U (er (nK++(Bk)) mixed kr jn (λdY _=>qR 0 3 U (GY 3 dY jn ec ty3 sl1.1 sl1.2 ob U U U U kr (λsb8 sc8 sl10=>qR 4 4 U ?_))))))
   have ho51:0<=(y2:Int)/\(y2:Int)<((l).length:Int):=(by first|omega|(have hq:=sn signed ba _ (fN hd2);omega))
   refine jf 8 dY jn nP ty51 (hl.mono jH hle1).1 ho51 (cV ho51) U U U U kr (λq42 cs18 A42 ln18 rr18=>?_)
   obtain⟨r18,rfl,ok18⟩:=rr18
   refine qB [9] U (tf 10 U U (rH 8 ty31 A42 U U) (tm 11 U ?_))
   have ho52:0<=(((((((nthI l y2).Needs.length)-i4):Nat):Int)-1):Int)/\(((((((nthI l y2).Needs.length)-i4):Nat):Int)-1):Int)<(((nthI l y2).Needs).length:Int):=ob
   refine eJ 12 (enc:=λy=>[I y]) dY jn ei ec ty3 ok18.Needs.1 ho52 (cV ho52) U U U U kr (λq43 A43=>tf 13 U U (rh ty3 A43 U) (qA [15,16] U ?_))
   have ho53:0<=(y2:Int)/\(y2:Int)<((signed).length:Int):=(by first|omega|(have hq:=sn signed ba _ (fN hd2);omega))
   refine eJ 17 (enc:=λy=>[I y]) dY jn ei ec ty3 (hsigned.mono xH hle1).1 ho53 (cV ho53) U U U U kr (λq44 A44=>tf 18 U U (rh ty3 A44 U) (tn 14 U (eZ call231 (yZ _ _ _ _ (nthI ((nthI l y2).Needs) ((((((nthI l y2).Needs.length)-i4):Nat):Int)-1)) (hl.mono jH hle1)) U (⟨jn,tn 19 U (Et ([]) nK (Bk) call295 Rp.pW pj ap (λhq1 hqle1 hqsl=>w7 hq1 l ep eo ((bV signed ba).take (((i2:Int):Int)).toNat) sb8 sc8 kW oH oG (fR l (nthI ((nthI l y2).Needs) ((((((nthI l y2).Needs.length)-i4):Nat):Int)-1))) (nthI signed y2) (hl.mono jH (hle1.t hqle1)) (sl10.mono xH hqle1) hqsl (λx hx=>by have hq:=sn signed ba x (List.mem_of_mem_take hx);omega) ob) U (⟨jn,(qR 20 5 U (aJ kr (qT 5 U (ae hs6 U (λc15 hs8=>?_) (λc15 hs9=>?_)))))⟩))⟩))))
   .refine qT 5 U ?_
    have ho54:0<=(y2:Int)/\(y2:Int)<((l).length:Int):=(by first|omega|(have hq:=sn signed ba _ (fN hd2);omega))
    refine aA (uk nP ty51 (hl.mono jH hle1).1 ho54 (cV ho54) U U U (λ_ _ _ e=>e) (λq45 r19 A45 ok19=>qL 1 [] U (iZ (j:=8) ty31 A45 U U (av ?_))))
    have ho55:0<=(((((((nthI l y2).Needs.length)-i4):Nat):Int)-1):Int)/\(((((((nthI l y2).Needs.length)-i4):Nat):Int)-1):Int)<(((nthI l y2).Needs).length:Int):=ob
    refine aA (oP (enc:=λy=>[I y]) ei ec ty3 ok19.Needs.1 ho55 (cV ho55) U U U (λq46 A46=>dj ty3 A46 U ?_))
    have ho56:0<=(y2:Int)/\(y2:Int)<((tr).length:Int):=ob
    have hgz:=du.yA zj (by omega)
    obtain⟨bk12,hbk12⟩:=hgz
    exact aA (eT (oq (R:=zC) (xs:=tr) ec ty3 hbk12 ho56 U U U) (aA (AO (R:=zC) (i:=(y2:Int).toNat) (off:=0) (u:=(nthI tr y2)) (u':=(nthI ((nthI l y2).Needs) ((((((nthI l y2).Needs.length)-i4):Nat):Int)-1))) (v:=I (nthI ((nthI l y2).Needs) ((((((nthI l y2).Needs.length)-i4):Nat):Int)-1))) (nK) Bk ([]) ty3 U zj ap hbk12 (cV ho56) (by decide) (λcs_z hcs=>by rw[show cs_z=[I (nthI tr y2)]from hcs];rfl) U U U (λG13 gr13=>im (L':=nK++G13) (by first|rfl|simp only[List.length_set,kC,zQ,xG,List.append_nil]) (Qt 9 (.slice Fl ((tr.set (y2:Int).toNat (nthI ((nthI l y2).Needs) ((((((nthI l y2).Needs.length)-i4):Nat):Int)-1))).length) Fk) (congrArg (λn_=>Value.slice Fl n_ Fk) (List.length_set ..).symm) (qO 4 U (io (v':=I ((((((nthI l y2).Needs.length)-(i4+1)):Nat):Int)-1)) U (Mt J1 ob) (an (ag2 ((i4+1),(tr.set (y2:Int).toNat (nthI ((nthI l y2).Needs) ((((((nthI l y2).Needs.length)-i4):Nat):Int)-1))),Fl,Fk,G13,rz4) _ (Nat.lt_succ_self _) ⟨kw hd4,hY hd4,hs8,gr13,(by first|assumption|(rw[List.length_set];assumption))⟩ rd)))))))))
   exact aI (qT 3 U (io (v':=I ((((((nthI l y2).Needs.length)-(i4+1)):Nat):Int)-1)) U (Mt J1 ob) (an (ag2 ((i4+1),tr,Fl,Fk,Bk,rz4) _ (Nat.lt_succ_self _) ⟨kw hd4,hY hd4,hs9,zj,(by first|assumption|(rw[List.length_set];assumption))⟩ rd))))
  rintro i2 ⟨kW,oH,oG,nK,Ft,Hr,Hq,Mi⟩ hd2 OH hx e
  exact qK 6 [] U (fO OH U (qO 3 U (hx _ rd)))
 .rintro i1 ⟨mK,rK,rJ,uL⟩ y1 rz1 hd1 df aS ek gu hs10 ⟨po,xY,u1_0⟩ hx1 ag3 e
  try dsimp only at po xY u1_0
  exact qK 6 [] U (tO df U (qO 7 U (aA (bE (cells:=[I (-1)]) ec ty3 zc3 U U kr (λb4=>aA (dE TN ([(b4,O [I (-1)] 3)]++G1) ([]) (λG=>[(b4,O [I (-1)] 3)]++(G1++G)) ap (λ_=>ap) ec ty3 zc3 U bytes3 po U U (e8 0 U (cE (-1) U U)) lo lo (λob2 oc2 G14 gr14=>qO 5 U (oi i1 U (an (bo (L':=G1++G14) js (ag3 ((mK++[(-1)]),ob2,oc2,G14) hs10 ⟨gr14,lo,lo⟩)))))))))))
 rintro i1 ⟨mK,rK,rJ,uL⟩ hd1 fS hx e
 exact qK 6 [] U (fO fS U (qO 3 U (hx _ rd)))
theorem EL(h:HF)(l:List Document)(ep:Option Addr)(eo:Nat)(signed:List Int)(cd:Option Addr)(bZ:Nat)(Bi:Int)(di:Int)(hl:SlC kR h ep eo l)(hsigned:SlC zC h cd bZ signed)(hsg:signed.length=l.length)(hsn:signed.length<=2000000)(hnd:∀d∈l,d.Needs.length<=16)(hi:0<=Bi/\Bi<(l.length:Int)):Ret prog 224 [.slice ep l.length eo,.slice cd signed.length bZ,I Bi,I di] h (.tuple #[I ((jc l signed Bi di).1),I ((jc l signed Bi di).2)]):=by
 refine sT func224 U ntmps224 U λX hM hX hF=>?_
 have hs0:=@rfl _ (jc l signed Bi di)
 have hll:=Nn l signed di hsg
 refine qT 10 U (aA (cR call294 (EN _ _ _ _ _ _ _ di hl hsigned ob ob ob) U (λv1 h1 hle1 hp1=>?_)))
 obtain⟨rb1,rc1,rfl,sl1⟩:=hp1
 refine qO 4 U (aA (oC uw ty4 (λb1=>qO 7 U ?_)))
 obtain⟨G2,gr2,ge1⟩:∃G:LH,du S2 4 h1 ([]) (some ⟨b1,0,none⟩) 0 G/\[(b1,O [] 4)]=G:=⟨_,du.lit (show bz S2 h1 [] ([])from rfl) rfl,rfl⟩
 refine cg (L':=([])++([(b1,O [] 4)]++([]))) ap ?_
 rw[ge1]
 refine lJ (List.Perm.append_left _ kJ) (cg (L':=G2) ap ?_)
 refine lp4 l (λi w=>[(0,.slice ep l.length eo),(1,.slice cd signed.length bZ),(2,I Bi),(3,I di),(10,.slice rb1 ((bW l signed di).length) rc1),(11,.slice w.2.1 w.1.length w.2.2.1),(12,I (i:Int))]) (λ_=>h1) (λw=>w.2.2.2) (λi w=>du S2 4 h1 w.1 w.2.1 w.2.2.1 w.2.2.2/\w.1.length<=0+i/\w.1.length=i) (λi w=>du S2 4 h1 w.1 w.2.1 w.2.2.1 w.2.2.2/\w.1.length<=0+i/\w.1.length=l.length) (λi g hi h=>⟨h.1,h.2.1,h.2.2.trans hi⟩) (λs1 i w=>(jc.L1 l signed di (jc.K1 l signed Bi di)) s1 i w.1) ([],(some ⟨b1,0,none⟩),0,G2) ((hl.mono jH hle1).1.1) hs0 ⟨gr2,lo,U⟩ ?_ ?_ ?_
 .rintro i1 ⟨ll,O3,O2,Lo⟩ fm hs1 ⟨FC,Ln,u1_0⟩ e
  try dsimp only at FC Ln u1_0
  refine qT 5 U (aA (cR call296 (w8 _ _ _ _ di (hsigned.mono xH hle1) ob) U (λv3 h4 hle4 hp3=>?_)))
  obtain⟨rb3,rc3,rfl,sl4⟩:=hp3
  refine qO 3 U (pP Rp.pW ([]) Lo ([]) ap hM (FC.mono Rp.pW hle4) (λh5 hle5 sl5=>ai call295 (w7 _ _ _ _ _ _ _ _ _ _ Bi di (hl.mono jH ((hle1.t hle4).t hle5)) (sl4.mono xH hle5) sl5 (λx hx=>by have hq:=sn signed di x hx;omega) ob) U (qO 12 U (ae hs1 U (λc2 hs2=>?_) (λc2 hs3=>?_)))))
  .refine qT 3 U ?_
   have ho3:0<=(Bi:Int)/\(Bi:Int)<(((bW l signed di)).length:Int):=ob
   refine aA (oP (enc:=λy=>[I y]) ei ec ty3 (sl1.mono xH (hle4.t hle5)).1 ho3 (cV ho3) U U U (λq3 A3=>dj ty3 A3 U (qO 9 U ?_)))
   have hs4:jc l signed Bi di=((eP l (bV signed di) ll Bi di).1,(nthI (bW l signed di) Bi)):=hs2
   exact nretP [I ((eP l (bV signed di) ll Bi di).1),I (nthI (bW l signed di) Bi)] (hs4▸U)
  refine qT 8 U ?_
  have hs5:jc l signed Bi di=((eP l (bV signed di) ll Bi di).1,(eP l (bV signed di) ll Bi di).2):=hs3
  exact nretP [I ((eP l (bV signed di) ll Bi di).1),I ((eP l (bV signed di) ll Bi di).2)] (hs5▸U)
 .rintro i1 ⟨ll,O3,O2,Lo⟩ y1 rz1 hd1 df aS ek gu hs6 ⟨FC,Ln,u1_0⟩ hx1 ag1 e
  try dsimp only at FC Ln u1_0
  refine qK 6 [] U (tO df U (qO 9 U ?_))
  have ho4:0<=((i1:Int):Int)/\((i1:Int):Int)<(((bW l signed di)).length:Int):=ob
  refine aA (oP (enc:=λy=>[I y]) ei ec ty3 sl1.1 ho4 (cV ho4) U U U (λq4 A4=>dj ty3 A4 U (Mb U (aA (bE (cells:=[.bool (decide ((nthI (bW l signed di) (i1:Int))<0))]) uw ty4 zc4 U U kr (λb3=>?_))))))
  let z1:Nat×Obj:=(b3,O [.bool (decide ((nthI (bW l signed di) (i1:Int))<0))] 4)
  exact aA (dE Rp.HC ([z1]) ([]) (λG=>[z1]++G) ap (λ_=>ap) uw ty4 zc4 U bytes4 FC U U (e8 0 U (cE (decide ((nthI (bW l signed di) (i1:Int))<0)) U U)) lo lo (λob2 oc2 G3 gr3=>qO 5 U (oi i1 U (an (bo (L':=G3) js (ag1 ((ll++[decide ((nthI (bW l signed di) (i1:Int))<0)]),ob2,oc2,G3) hs6 ⟨gr3,lo,lo⟩))))))
 rintro i1 ⟨ll,O3,O2,Lo⟩ hd1 fS hx e
 exact qK 6 [] U (fO fS U (qO 3 U (hx _ rd)))
theorem BX(h:HF)(l:List Document)(ep:Option Addr)(eo:Nat)(signed:List Int)(cd:Option Addr)(bZ:Nat)(ba:Int)(hl:SlC kR h ep eo l)(hsigned:SlC zC h cd bZ signed)(hsn:l.length<=2000000):ju prog 137 [.slice ep l.length eo,.slice cd signed.length bZ,I ba] h (λv h'=>∃(rb0:Option Addr)(rc0:Nat),v=.tuple #[.slice rb0 ((fp l signed ba).1).length rc0,I ((fp l signed ba).2)]/\SlC zC h' rb0 rc0 ((fp l signed ba).1)):=by
 refine sT func137 U ntmps137 U λX hM hX hF=>?_
 have hs0:=@rfl _ (fp l signed ba)
 refine qT 8 U (ai call77 (w9 _ _ _ _ hl) U (qO 8 U (ae hs0 U (λc1 hs1=>?_) (λc1 hs2=>?_))))
 .refine qT 6 U ?_
  have hs3:fp l signed ba=([],(dL l)):=hs1
  exact nretH [.slice none 0 0,I (dL l)] (hs3▸⟨none,0,U,kE⟩)
 refine qT 6 U (ai call222 (AY _ _ _ _ _ _ _ hl hsigned) U (qO 2 U (bT 4 [22,23,24,25,26] 22 26 (!(lT ba)) U (λc2 hk1=>?_) (λe=>?_))))
 .exact av (ai call223 (un h ba) U (qO 2 U (hk1 _ U)))
 refine aF (ae hs2 U (λc3 hs4=>?_) (λc3 hs5=>?_))
 .refine qT 5 U ?_
  have hs6:fp l signed ba=([],1):=hs4
  exact nretH [.slice none 0 0,I 1] (hs6▸⟨none,0,U,kE⟩)
 refine qT 3 U (aA (oC ec ty3 (λb1=>qO 7 U ?_)))
 obtain⟨G2,gr2,ge1⟩:∃G:LH,du zC 3 h ([]) (some ⟨b1,0,none⟩) 0 G/\[(b1,O [] 3)]=G:=⟨_,du.lit (show bz zC h [] ([])from rfl) rfl,rfl⟩
 refine cg (L':=([])++([(b1,O [] 3)]++([]))) ap ?_
 rw[ge1]
 refine lJ (List.Perm.append_left _ kJ) (cg (L':=G2) ap ?_)
 refine lp2 l (λi w=>[(0,.slice ep l.length eo),(1,.slice cd signed.length bZ),(2,I ba),(9,.slice w.2.1 w.1.length w.2.2.1),(10,I (i:Int))]) (λ_=>h) (λw=>w.2.2.2) (λi w=>du zC 3 h w.1 w.2.1 w.2.2.1 w.2.2.2/\w.1.length<=0+i) (λs1 i w=>(fp.L1 l signed ba (fp.K1)) s1 i w.1) ([],(some ⟨b1,0,none⟩),0,G2) hl.1.1 hs5 ⟨gr2,lo⟩ ?_ ?_ ?_
 .rintro i1 ⟨mK,rK,rJ,uL⟩ fm hs7 ⟨po,xY⟩ e
  try dsimp only at po xY
  refine qT 6 U (fx xH ([]) uL ([]) ap hM po (λh2 hle2 sl2=>?_))
  have hs8:fp l signed ba=(mK,0):=hs7
  exact nretH [.slice rK mK.length rJ,I 0] (hs8▸⟨rK,rJ,U,sl2⟩)
 .rintro i1 ⟨mK,rK,rJ,uL⟩ y1 rz1 hd1 df aS ek gu hs9 ⟨po,xY⟩ hx1 ag1 e
  try dsimp only at po xY
  refine qK 6 [] U (tO df U (qO 11 U (ai call224 (EL _ _ _ _ _ _ _ (i1:Int) ba hl hsigned (vO (by simp only[decide_eq_true_eq,decide_eq_false_iff_not,zB,xD,qE,Bool.not_eq_false',Bool.and_eq_false_iff,Bool.or_eq_false_iff,beq_iff_eq,beq_eq_false_iff_ne,bne_iff_ne,bne_eq_false_iff_eq,jA,xA,vB,List.length_drop]at *;first|assumption|exact(by assumption:_/\_).1|exact(by assumption:(_/\_)/\_).1.1)) (by rw[show signed.length=l.length from(vO (by simp only[decide_eq_true_eq,decide_eq_false_iff_not,zB,xD,qE,Bool.not_eq_false',Bool.and_eq_false_iff,Bool.or_eq_false_iff,beq_iff_eq,beq_eq_false_iff_ne,bne_iff_ne,bne_eq_false_iff_eq,jA,xA,vB,List.length_drop]at *;first|assumption|exact(by assumption:_/\_).1|exact(by assumption:(_/\_)/\_).1.1))];exact hsn) (Ks ob) (by first|omega|exact Find_ok ob)) U (qO 11 U (ae hs9 U (λc5 hs10=>?_) (λc5 hs11=>?_))))))
  .exact bC (qO 3 U (aA (iR nP ty51 hl.1 aS U U U (λ_ _ _ e=>e) (λq2 r2 A2 ok2=>qL 1 [] U (dj ty3 A2 U (aA (bE (cells:=[I y1.No]) ec ty3 zc3 U U kr (λb3=>aA (dE TN ([(b3,O [I y1.No] 3)]) ([]) (λG=>[(b3,O [I y1.No] 3)]++G) ap (λ_=>ap) ec ty3 zc3 U bytes3 po U U (e8 0 U (cE (y1.No) U U)) lo lo (λob2 oc2 G3 gr3=>qO 5 U (oi i1 U (an (bo (L':=G3) js (ag1 ((mK++[y1.No]),ob2,oc2,G3) hs10 ⟨gr3,lo⟩))))))))))))))
  exact aI (qT 3 U (oi i1 U (an (ag1 (mK,rK,rJ,uL) hs11 ⟨po,lo⟩))))
 rintro i1 ⟨mK,rK,rJ,uL⟩ hd1 fS hx e
 exact qK 6 [] U (fO fS U (qO 3 U (hx _ rd)))
theorem yY(h:HF)(eE:Int)  : Ret prog 226 [I eE] h (.bool (pQ eE)):=by
 refine sT func226 U ntmps226 U λX hM hX hF=>?_
 have hs0:=@rfl _ (pQ eE)
 refine qT 9 U (bp 3 [5,6,7,8] 5 8 (decide (eE<16)) U (λc1 hk1=>?_) (λe=>?_))
 .exact av (qO 2 U (hk1 _ U))
 exact an (nretP [.bool (decide (0<=eE)&&decide (eE<16))] (cs hs0))
end Go.Sg
