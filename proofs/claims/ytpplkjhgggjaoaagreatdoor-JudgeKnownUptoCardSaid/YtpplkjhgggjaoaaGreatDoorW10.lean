import Derived.Shelf.SlSortCmp.NoneTotal
import Derived.WalkKit
import Derived.Test.YtpplkjhgggjaoaaGreatDoorW9
/- A part of the proof of JudgeKnown. -/
set_option linter.unusedVariables false
set_option linter.unusedSimpArgs false
set_option maxRecDepth 100000
open List renaming length_cons→xA,length_append→jA,toArray→jB,length_nil→vB,mem_singleton→jD,append_assoc→kD,getElem?_eq_getElem→vF,getElem?_eq_none→xM,ext_getElem?→aBn
open Go.Sg.Rp renaming int→kB,aP→jH
open Go.Sg.Expr renaming cells→zC,ok→jF,mk→xG,jU→aAn
open Go.Sg.Appoint renaming mk→jC,rp→kG,cells→qM,ai→kP
open Go.IntKind renaming wrap→vC
open Go.Sg.Policy renaming cells→xE,mk→kN,ok→vP
open Go.Sg.OSeat renaming cells→jE,enc→aAs,rp→aCb
open Go.Sg.SlC renaming nil→qF
open Go.Sg.HF renaming le_trans→zF,le→vM,le_refl→vQ
open Nat renaming le_refl→kF,zero_le→zN,lt_or_ge→xQ,le_trans→kS
open Go.Sg.Register renaming mk→jG,ok→vL,cells→qQ
open Go.Sg.Approval renaming ai→zH,rp→xL,mk→xW
open Go.Sg.Document renaming ai→vH,rp→xS,cells→jT,ok→aAI
open Go.Obj renaming cells→zJ
open Go.Sg.Interest renaming rp→kL,mk→zV
open Go.Sg.Version renaming ai→jM,rp→jN,mk→aA1
open Go.Sg.Deputy renaming ai→qS,rp→aAh,mk→aBe
open Go.Sg.Budget renaming rp→aAd,mk→aAz,ai→aBd
open Array renaming getElem?_eq_getElem→aAm,getElem?_modify→aCn
open Go.Sg.Expr.ok renaming of→aAu
open Go.Sg.Holder renaming cells→aAw,ai→aBt,rp→aBV,mk→aCF
open Go.Sg.Rule renaming mk→aBi
open Option renaming getD_some→aBu

namespace Go.Sg
open Go.Proofs Go.Proofs.Tryz
set_option maxHeartbeats 2000000
theorem pO(h:HF)(s:List Document)(sK:Option Addr)(sJ:Nat)(f:(Document->Bool))(f_v:Value)(hs:SlC xS h sK sJ s)(hf:∀(h':HF)(dl:Document)(uC:ls),vM h h'->dl∈s->aAI h' dl uC->pQ prog f_v [.agg (jT dl uC).toArray] h' [] (.bool (f dl))):Ret prog 218 [.slice sK s.length sJ,f_v] h (.bool (iP s f)):=by
 refine sT func218 U ntmps218 U λX hM hX hF=>?_
 have hs0:iP s f=iP s f:=rfl
 exact sr (qO 6 U (aj call128 (lv _ _ _ _ f f_v hs hf) U (qO 3 U (nretP [.bool (decide (0<=(ad s f)))] (cs hs0)))))
theorem Df(h:HF)(l:List Document)(eu:Option Addr)(et:Nat)(signed:List Int)(ck:Option Addr)(cj:Nat)(no:Int)(dt:Int)(hl:SlC xS h eu et l)(hsigned:SlC kB h ck cj signed)(hln:l.length<20):Ret prog 84 [.slice eu l.length et,.slice ck signed.length cj,I no,I dt] h (.tuple #[I ((e9 l signed no dt).1),I ((e9 l signed no dt).2.1),I ((e9 l signed no dt).2.2)]):=by
 refine sT func84 U ntmps84 U λX hM hX hF=>?_
 have hs0:e9 l signed no dt=e9 l signed no dt:=rfl
 refine qT 10 U (aj call70 (oO _ _ _ _ hl) U (qO 7 U (ae hs0 U (λc1 hs1=>?_) (λc1 hs2=>?_))))
 .refine qT 7 U ?_
  have hs3:e9 l signed no dt=(0,0,(aV l)):=hs1
  exact nretP [I 0,I 0,I (aV l)] (congrArg (λr:(Int×Int×Int)=>(.tuple #[I r.1,I r.2.1,I r.2.2]:Value)) hs3.symm)
 refine qT 6 U (aj call124 (pW _ _ _ _ _ _ _ hl hsigned) U (qO 2 U (ce 4 [24,25,26,27,28] 24 28 (!(fS dt)) U (λc2 hk1=>?_) (λe=>?_))))
 .exact av (aj Ox (ns h dt) U (qO 2 U (hk1 _ U)))
 refine aJ (ae hs2 U (λc3 hs4=>?_) (λc3 hs5=>?_))
 .refine qT 6 U ?_
  have hs6:e9 l signed no dt=(0,0,1):=hs4
  exact nretP [I 0,I 0,I 1] (congrArg (λr:(Int×Int×Int)=>(.tuple #[I r.1,I r.2.1,I r.2.2]:Value)) hs6.symm)
 refine qT 6 U (aB (cT call126 (rK _ _ _ _ _ _ _ dt hl hsigned (by simpa using c1) (BA ob) hln) U (λv1 h1 hle1 hp1=>?_)))
 obtain⟨q1,rr1,rfl,ok1,A1⟩:=hp1
 refine qO 5 U (aB (fK (gh U) (qL 2 [] U (ju (j:=1) ty190 A1 U U (av ?_)))))
 obtain⟨o1,hb1,hm1⟩:=ok1.shelf.at_
 refine aB (tE (k:=no) Br (fZ oe) hb1 hm1 (fw zv3) (show wg _ (I 0) 0 from U) U U (λv2 hv1=>?_))
 obtain rfl:=hv1
 refine qO 12 U (ae hs5 U (λc4 hs7=>?_) (λc4 hs8=>?_))
 .refine qT 6 U ?_
  have hs9:e9 l signed no dt=(0,0,1):=hs7
  exact nretP [I 0,I 0,I 1] (congrArg (λr:(Int×Int×Int)=>(.tuple #[I r.1,I r.2.1,I r.2.2]:Value)) hs9.symm)
 refine qT 6 U (aj call127 (mH h1 (cf l signed dt) rr1 q1 (mgetD ((cf l signed dt).shelf.at_) no 0) dt ok1 A1 (by first|exact HY ob|(rw[tT];omega)) (DC _ _ _)) U (qO 14 U ?_))
 have hs10:e9 l signed no dt=((cg (cf l signed dt) (mgetD ((cf l signed dt).shelf.at_) no 0) dt).1,(cg (cf l signed dt) (mgetD ((cf l signed dt).shelf.at_) no 0) dt).2,0):=hs8
 exact nretP [I ((cg (cf l signed dt) (mgetD ((cf l signed dt).shelf.at_) no 0) dt).1),I ((cg (cf l signed dt) (mgetD ((cf l signed dt).shelf.at_) no 0) dt).2),I 0] (congrArg (λr:(Int×Int×Int)=>(.tuple #[I r.1,I r.2.1,I r.2.2]:Value)) hs10.symm)
theorem zw(h:HF)(s:List Int)(sK:Option Addr)(sJ:Nat)(v:Int)(hs:SlC kB h sK sJ s):Ret prog 221 [.slice sK s.length sJ,I v] h (I (gQ s v)):=by
 refine sT func221 U ntmps221 U λX hM hX hF=>?_
 have hs0:gQ s v=gQ s v:=rfl
 refine qK 11 [] U ?_
 refine lp0 s (λi=>[(0,.slice sK s.length sJ),(1,I v),(7,I (s.length:Int)),(8,I (i:Int))]) ([]) (λs1 i=>(gQ.L1 v (gQ.K1)) s1 i) hs.1.1 hs0 ?_ ?_
 .rintro i1 ft hs1 e
  exact sr (an (nretP [I (-1)] (ci hs1)))
 rintro i1 y1 rz1 hd1 df aS dZ gy hs3 hx1 ag1 e
 refine sr (tO df U (qO 16 U (aB (iF (λy=>[I y]) ej ty3 hs.1 aS U U U (λq2 A2=>dB ty3 A2 U (qO 2 U (ae hs3 U (λc2 hs4=>?_) (λc2 hs5=>?_))))))))
 .exact sr (qO 3 U (nretP [I (i1:Int)] (ci hs4)))
 exact aI (qT 2 U (oi i1 U (qO 2 U (ag1 hs5))))
theorem pc(h:HF)(s:List Int)(sK:Option Addr)(sJ:Nat)(v:Int)(hs:SlC kB h sK sJ s):Ret prog 134 [.slice sK s.length sJ,I v] h (.bool (ji s v)):=by
 refine sT func134 U ntmps134 U λX hM hX hF=>?_
 have hs0:ji s v=ji s v:=rfl
 exact sr (qO 6 U (aj call221 (zw _ _ _ _ v hs) U (qO 3 U (nretP [.bool (decide (0<=(gQ s v)))] (cs hs0)))))
theorem uy(h:HF)(d:Document)(KX:ls)(c:bU)(oy:kn)(c_q:Addr)(signed:List Int)(ck:Option Addr)(cj:Nat)(signed_q:Addr)(hd:aAI h d KX)(hc:bU.ok h c oy)(ac:At h c_q (bU.cells c oy))(hsigned:SlC kB h ck cj signed)(asigned:At h signed_q [.slice ck signed.length cj])(hsm:smR c.Register)(hco:jr c)(hln:c.Register.Docs.length<20)(hsg:bM c.Register.Docs signed=true)(hdm:d∈c.Register.Docs):Ret prog 219 [.agg (jT d KX).toArray,.pointer (some c_q),.pointer (some signed_q)] h (.bool (gI d c signed)):=by
 refine sT func219 U ntmps219 U λX hM hX hF=>?_
 have hs0:gI d c signed=gI d c signed:=rfl
 refine sr (cz (λb1=>qL 9 [0] U (ju (j:=7) ty3 ac U U (aj call134 (pc _ _ _ _ c.doc.No hd.Revokes) U (qO 2 U (ae hs0 U (λc1 hs1=>?_) (λc1 hs2=>?_)))))))
 .exact sr (an (nretP [.bool false] (cs hs1)))
 refine qK 5 [] U (ju (j:=5) ty27 ac U U (dB ty31 asigned U (qL 3 [0] U (ju (j:=48) ty3 ac U U (aj call84 (Df _ _ _ _ _ _ _ d.No c.at_ hc.Register.Docs hsigned ob) U (qO 11 U (aB (ou uF (iz h ((e9 c.Register.Docs signed d.No c.at_).2.2)) (mw (NX hco hsg hdm)) U (qO 6 U (bA 3 [32,33,34,35] 32 35 ((e9 c.Register.Docs signed d.No c.at_).1 != 4) U (λc2 hk1=>?_) (λe=>?_)))))))))))
 .exact av (qO 2 U (hk1 _ U))
 exact an (nretP [.bool (((e9 c.Register.Docs signed d.No c.at_).1 != 1)&&((e9 c.Register.Docs signed d.No c.at_).1 != 4))] (cs hs2))
theorem pt(h:HF)(c:bU)(oy:kn)(signed:List Int)(ck:Option Addr)(cj:Nat)(hc:bU.ok h c oy)(hsigned:SlC kB h ck cj signed)(hsm:smR c.Register)(hco:jr c)(hln:c.Register.Docs.length<20)(hsg:bM c.Register.Docs signed=true):Ret prog 131 [.agg (bU.cells c oy).toArray,.slice ck signed.length cj] h (.bool (ey c signed)):=by
 refine sT func131 U ntmps131 U λX hM hX hF=>?_
 have hs0:ey c signed=ey c signed:=rfl
 exact sr (cz (λb1=>cz (λb2=>qL 7 [1] U (aU 1 U hM (λh1 hle1 hb1=>aU 0 U hM (λh2 hle2 hb2=>aB (eL U U (aj call218 (pO _ _ _ _ (λdl=>gI dl c signed) (.func (.func 219) #[] #[Q b1,Q b2]) (hc.Register.Docs.mono vH (hle1.t hle2)) (λh' dl uC hle Pr a0_o=>gM call219 (uy h' dl uC c oy ⟨b1,0,none⟩ signed ck cj ⟨b2,0,none⟩ a0_o ((hc.mono (hle1.t hle2)).mono hle) (((cL hb1).mono hle2).mono hle) ((hsigned.mono jH (hle1.t hle2)).mono jH hle) ((cL hb2).mono hle) hsm hco ob hsg Pr))) U (an (nretP [.bool (iP c.Register.Docs (λdl=>gI dl c signed))] (cs hs0)))))))))))
theorem wZ(h:HF)(c:bU)(oy:kn)(signed:List Int)(ck:Option Addr)(cj:Nat)(hc:bU.ok h c oy)(hsigned:SlC kB h ck cj signed)(hsm:smR c.Register)(hco:jr c)(hln:c.Register.Docs.length<20)(hsg:bM c.Register.Docs signed=true):Ret prog 55 [.agg (bU.cells c oy).toArray,.slice ck signed.length cj] h (.bool (ff c signed)):=by
 refine sT func55 U ntmps55 U λX hM hX hF=>?_
 have hs0:ff c signed=ff c signed:=rfl
 refine sr (cz (λb1=>qL 7 [0] U (aU 0 U hM (λh1 hle1 hb1=>aB (eL U U (aj call128 (lv _ _ _ _ (λdl=>bx dl c) (.func (.func 130) #[] #[Q b1]) (hc.Register.Docs.mono vH hle1) (λh' dl uC hle Pr a0_o=>gM call130 (uR h' dl uC c oy ⟨b1,0,none⟩ a0_o ((hc.mono hle1).mono hle) ((cL hb1).mono hle)))) U (qO 3 U ?_)))))))
 refine oE [(4,.bool (((decide (c.at_<c.doc.At)||decide (c.doc.Until<=c.at_))||(decide (0<=(nthI signed (ad c.Register.Docs (λdl=>bx dl c))))&&decide ((nthI signed (ad c.Register.Docs (λdl=>bx dl c)))<=c.at_)))||(ey c signed)))] (λe=>?_) (λhk1=>?_)
 rotate_left
 .refine eT ([]) mixed kr jn (λeo _=>?_)
  refine qB [0] U (tf 1 U U (rH 48 ty3 (cL hb1) U U) (qB [2,3] U (tf 4 U U (rH 8 ty3 (cL hb1) U U) (qA [5,6] U ?_))))
  refine dx 17 U (λc1=>?_) (λc1=>?_)
  .have c1p:=of_decide_eq_true c1
   exact tk 7 U U (qR 8 28 U (aQ kr (hk1 _ ⟨(cb (show true=(((decide (c.at_<c.doc.At)||decide (c.doc.Until<=c.at_))||(decide (0<=(nthI signed (ad c.Register.Docs (λdl=>bx dl c))))&&decide ((nthI signed (ad c.Register.Docs (λdl=>bx dl c)))<=c.at_)))||(ey c signed))from by rw[c1]<;>rfl)),trivial⟩)))
  have c1p:=of_decide_eq_false c1
  refine qB [7] U (tf 8 U U (rH 48 ty3 (cL hb1) U U) (qB [9,10] U (tf 11 U U (rH 12 ty3 (cL hb1) U U) (qR 12 3 U ?_))))
  refine dx 25 U (λc2=>?_) (λc2=>?_)
  .have c2p:=of_decide_eq_true c2
   exact tk 15 U U (qR 16 20 U (aQ kr (hk1 _ ⟨(cb (show true=(((decide (c.at_<c.doc.At)||decide (c.doc.Until<=c.at_))||(decide (0<=(nthI signed (ad c.Register.Docs (λdl=>bx dl c))))&&decide ((nthI signed (ad c.Register.Docs (λdl=>bx dl c)))<=c.at_)))||(ey c signed))from by rw[c1,c2]<;>rfl)),trivial⟩)))
  have c2p:=of_decide_eq_false c2
  refine qA [15,16] U ?_
  have ho1:0<=((ad c.Register.Docs (λdl=>bx dl c)):Int)/\((ad c.Register.Docs (λdl=>bx dl c)):Int)<((signed).length:Int):=(Dg hco hsg)
  refine eX 17 (enc:=λy=>[I y]) eo jn ei ej ty3 (hsigned.mono jH hle1).1 ho1 (dh ho1) U U U U kr (λq1 A1=>tf 18 U U (rh ty3 A1 U) (qA [19,20] U ?_))
  refine dx 31 U (λc3=>?_) (λc3=>?_)
  .have c3p:=of_decide_eq_true c3
   refine qA [21,22] U ?_
   have ho2:0<=((ad c.Register.Docs (λdl=>bx dl c)):Int)/\((ad c.Register.Docs (λdl=>bx dl c)):Int)<((signed).length:Int):=(Dg hco hsg)
   refine eX 23 (enc:=λy=>[I y]) eo jn ei ej ty3 (hsigned.mono jH hle1).1 ho2 (dh ho2) U U U U kr (λq2 A2=>tf 24 U U (rh ty3 A2 U) (qB [25] U (tf 26 U U (rH 48 ty3 (cL hb1) U U) (qR 27 4 U ?_))))
   refine dx 41 U (λc4=>?_) (λc4=>?_)
   .have c4p:=of_decide_eq_true c4
    exact tk 31 U U (qR 32 4 U (aQ kr (hk1 _ ⟨(cb (show true=(((decide (c.at_<c.doc.At)||decide (c.doc.Until<=c.at_))||(decide (0<=(nthI signed (ad c.Register.Docs (λdl=>bx dl c))))&&decide ((nthI signed (ad c.Register.Docs (λdl=>bx dl c)))<=c.at_)))||(ey c signed))from by rw[c1,c2,c3,c4]<;>rfl)),trivial⟩)))
   have c4p:=of_decide_eq_false c4
   exact tf 31 U U (λ_ _ hj=>mg ty123 ((cL hb1).mono hj.1) U U) (tm 32 U (tn 33 U (fo call131 (pt _ _ _ _ _ _ (hc.mono hle1) (hsigned.mono jH hle1) ob ob ob ob) U (⟨jn,(qA [34,35] U (aQ kr (hk1 _ ⟨(cb (show(ey c signed)=(((decide (c.at_<c.doc.At)||decide (c.doc.Until<=c.at_))||(decide (0<=(nthI signed (ad c.Register.Docs (λdl=>bx dl c))))&&decide ((nthI signed (ad c.Register.Docs (λdl=>bx dl c)))<=c.at_)))||(ey c signed))from by rw[c1,c2,c3,c4]<;>rfl)),trivial⟩)))⟩))))
  have c3p:=of_decide_eq_false c3
  exact tk 21 U U (qR 22 9 U (tf 31 U U (λ_ _ hj=>mg ty123 ((cL hb1).mono hj.1) U U) (tm 32 U (tn 33 U (fo call131 (pt _ _ _ _ _ _ (hc.mono hle1) (hsigned.mono jH hle1) ob ob ob ob) U (⟨jn,(qA [34,35] U (aQ kr (hk1 _ ⟨(cb (show(ey c signed)=(((decide (c.at_<c.doc.At)||decide (c.doc.Until<=c.at_))||(decide (0<=(nthI signed (ad c.Register.Docs (λdl=>bx dl c))))&&decide ((nthI signed (ad c.Register.Docs (λdl=>bx dl c)))<=c.at_)))||(ey c signed))from by rw[c1,c2,c3]<;>rfl)),trivial⟩)))⟩))))))
 exact nretP [.bool (((decide (c.at_<c.doc.At)||decide (c.doc.Until<=c.at_))||(decide (0<=(nthI signed (ad c.Register.Docs (λdl=>bx dl c))))&&decide ((nthI signed (ad c.Register.Docs (λdl=>bx dl c)))<=c.at_)))||(ey c signed))] (cs hs0)
theorem C4(h:HF)(c:bU)(oy:kn)(c_q:Addr)(signed:List Int)(ck:Option Addr)(cj:Nat)(signed_q:Addr)(hc:bU.ok h c oy)(ac:At h c_q (bU.cells c oy))(hsigned:SlC kB h ck cj signed)(asigned:At h signed_q [.slice ck signed.length cj])(hsm:smR c.Register)(hco:jr c)(hln:c.Register.Docs.length<20)(hsg:bM c.Register.Docs signed=true):Ret prog 54 [.pointer (some c_q),.pointer (some signed_q)] h (.bool (uB c signed)):=by
 refine sT func54 U ntmps54 U λX hM hX hF=>?_
 have hs0:uB c signed=uB c signed:=rfl
 exact sr (qO 4 U (dq ty123 ac U U (dB ty31 asigned U (aj call55 (wZ _ _ _ _ _ _ hc hsigned ob ob ob ob) U (an (nretP [.bool (ff c signed)] (cs hs0)))))))
theorem vy(h:HF)(er:Int)(v0:List Int)(uj:Option Addr)(ui:Nat)(v0_q:Addr)(hv0:SlC kB h uj ui v0)(av0:At h v0_q [.slice uj v0.length ui]):Ret prog 133 [I er,.pointer (some v0_q)] h (.bool (jk er v0)):=by
 refine sT func133 U ntmps133 U λX hM hX hF=>?_
 have hs0:jk er v0=jk er v0:=rfl
 exact sr (qO 4 U (dB ty31 av0 U (av (aj call134 (pc _ _ _ _ er hv0) U (qO 3 U (nretP [.bool (!(ji v0 er))] (cs hs0)))))))
theorem yq(h:HF)(c:bU)(oy:kn)(signed:List Int)(ck:Option Addr)(cj:Nat)(hc:bU.ok h c oy)(hsigned:SlC kB h ck cj signed)(hsm:smR c.Register)(hco:jr c)(hln:c.Register.Docs.length<20)(hsg:bM c.Register.Docs signed=true):Ret prog 57 [.agg (bU.cells c oy).toArray,.slice ck signed.length cj] h (.bool (gD c signed)):=by
 refine sT func57 U ntmps57 U λX hM hX hF=>?_
 have hs0:gD c signed=gD c signed:=rfl
 refine sr (cz (λb1=>qL 10 [0,0] U (aB (cT call52 (rx _ _ _ _ _ _ _ c.at_ hc.Register.Docs hsigned ob) U (λv1 h1 hle1 hp1=>?_)))))
 obtain⟨rb1,rc1,rfl,sl1⟩:=hp1
 exact av (qO 2 U (aT zc31 (λb2=>cM 0 ty31 U U U U U U (qO 5 U (aB (ou uF (iz h1 ((bz c.Register.Docs signed c.at_).2)) (mw (Ho hco hsg)) U (qL 6 [1] U (aU 0 U hM (λh2 hle2 hb1=>aB (eL U U (aj Jy (im _ _ _ _ (λdl=>jk dl ((bz c.Register.Docs signed c.at_).1)) (.func (.func 133) #[] #[Q b2]) (hc.doc.Needs.mono jH (hle1.t hle2)) (λh' dl hle=>gM call133 (vy h' dl ((bz c.Register.Docs signed c.at_).1) rb1 rc1 ⟨b2,0,none⟩  ((sl1.mono jH hle2).mono jH hle) ((cL hb1).mono hle)))) U (an (nretP [.bool (cB c.doc.Needs (λdl=>jk dl ((bz c.Register.Docs signed c.at_).1)))] (cs hs0))))))))))))))
theorem C3(h:HF)(c:bU)(oy:kn)(c_q:Addr)(signed:List Int)(ck:Option Addr)(cj:Nat)(signed_q:Addr)(hc:bU.ok h c oy)(ac:At h c_q (bU.cells c oy))(hsigned:SlC kB h ck cj signed)(asigned:At h signed_q [.slice ck signed.length cj])(hsm:smR c.Register)(hco:jr c)(hln:c.Register.Docs.length<20)(hsg:bM c.Register.Docs signed=true):Ret prog 56 [.pointer (some c_q),.pointer (some signed_q)] h (.bool (uA c signed)):=by
 refine sT func56 U ntmps56 U λX hM hX hF=>?_
 have hs0:uA c signed=uA c signed:=rfl
 exact sr (qO 4 U (dq ty123 ac U U (dB ty31 asigned U (aj call57 (yq _ _ _ _ _ _ hc hsigned ob ob ob ob) U (an (nretP [.bool (gD c signed)] (cs hs0)))))))
theorem sG(h:HF)(seq:List Holder)(seq_v:Value)(hseq:Itr prog seq_v oL seq h)(hsz:seq.length<=2000000):jv prog 176 [.slice none 0 0,seq_v] h (λv h'=>∃(rb0:Option Addr)(rc0:Nat),v=.slice rb0 (cu seq).length rc0/\SlC aBV h' rb0 rc0 (cu seq)):=by
 refine cZ func176 U ntmps176 U λX hM hX=>?_
 have hs0:cu seq=cu seq:=rfl
 refine sr (cz (λb1=>qO 8 U (ew (cv (L':=([(b1,O [.slice none 0 0] 68)])++markB []) ap ?_))))
 refine kp (it:=seq_v) (xs:=seq) (ι:=(List Holder)×Option Addr×Nat×LH×HF) [] (λi=>i.2.2.2.2) (λi=>[(b1,O [.slice i.2.1 i.1.length i.2.2.1] 68)]++(i.2.2.2.1)) (λs i=>cu seq=((cu.L1 (cu.K1)) s i.1)/\dC aBV 158 i.2.2.2.2 i.1 i.2.1 i.2.2.1 i.2.2.2.1/\vM h i.2.2.2.2/\i.1.length+s.length<=seq.length) (λ_=>False) (λ_=>False) 0 (λ_ _ _=>False) ([],none,0,[],h) func176 U hseq U sS (λ_ _ _ _ _ hq=>hq) U (show[(b1,O [.slice none 0 0] 68)]=_ from U) ⟨hs0,dC.nil,lf,(by simp)⟩ ?_ ?_ ?_ ?_ ?_
 .rintro l1 dm1 lp1 y1 rz1 vs1 ⟨bD,mG,mF,nN,hh1⟩ hr1 X hFR1 ⟨hs1,fR,hl1,u1_0⟩ hl01 hlr1 hv1 hX hXM hlp1 nx1 rt1 ex1 pn1
  obtain rfl:=hv1
  simp only[xA]at u1_0
  let z1:Nat×Obj:=(b1,O [.slice mG bD.length mF] 68)
  let z3:Nat×Obj:=(dm1,.deferred (some []))
  refine cv (L':=[(l1,.loop lp1),z3,z1]++(nN++(markB []))) ap (bE (aT zc158 (λb4=>aL 0 ty158 U U U U U U (gJ (L':=[(b4,O (aAw y1) 158),(l1,.loop lp1),z3,z1]++(nN++(markB []))) U ?_))))
  let z4:Nat×Obj:=(l1,.loop { lp1 with state:=.busy })
  let z5:Nat×Obj:=(b4,O (aAw y1) 158)
  refine aJ (kc 1 U hlp1 (qK 3 [3] U (cI 0 ty158 U U U (aB (bB (cells:=[I y1.Person,I y1.Weight]) Og ty158 zc158 U U kr (λb5=>aB (dy Holder.em ([(b5,O [I y1.Person,I y1.Weight] 158),z5,z4,z3,z1]) (markB []) (λG=>[(b5,O [I y1.Person,I y1.Weight] 158),z5,z4,z3,z1]++(markB []++G)) ap (λ_=>ap) Og ty158 zc158 U bytes158 (fR.mono aBt hlr1) U U (eF 0 U (cE y1 U U)) lo lo (λob2 oc2 G2 gr2=>yR (sj ([(b5,O [I y1.Person,I y1.Weight] 158),z5,z4,z3,z1]) G2 (markB [])) (cM 4 ty68 U U U U U U (qO 2 U ?_))))))))))
  let z6:Nat×Obj:=(b1,O [.slice ob2 ((bD++[y1]).length) oc2] 68)
  exact aX (L':=[z4,z3,z6]++(G2++(markB []))) js (cv (L':=rdH l1 dm1 lp1 (([z6]++G2)++markB [])) ap (nx1 ((bD++[y1]),ob2,oc2,G2,hr1) _ _ ⟨hs1,gr2,(hl1.t hlr1),(by simp only[jA,xA,vB]at *;omega)⟩ lf))
 .rintro dm1 ⟨bD,mG,mF,nN,hh1⟩ hn1 ⟨hs2,fR,hl1,u1_0⟩ hln1 hl01
  let z2:Nat×Obj:=(b1,O [.slice mG bD.length mF] 68)
  refine cv (L':=[z2]++(nN++(markB (dm1::[])))) ap (qK 6 [0] U (eK aBt ([z2]) nN (markB (dm1::[])) ap hM (fR.mono aBt hln1) (λh2 hle2 sl2=>?_)))
  have hs3:cu seq=bD:=hs2
  exact cv (L':=([z2])++markB (dm1::[])) ap (qw (dm1::[]) [.slice mG bD.length mF] func176 U rd ⟨mG,mF,congrArg (λr:List Holder=>(.slice mG r.length mF:Value)) hs3.symm,(by rw[hs3];exact sl2)⟩)
 .exact xf
 .exact xf
 exact xf
theorem um(h:HF)(seq:List Holder)(seq_v:Value)(hseq:Itr prog seq_v oL seq h)(hsz:seq.length<=2000000):jv prog 91 [seq_v] h (λv h'=>∃(rb0:Option Addr)(rc0:Nat),v=.slice rb0 (gd seq).length rc0/\SlC aBV h' rb0 rc0 (gd seq)):=by
 refine sT func91 U ntmps91 U λX hM hX hF=>?_
 have hs0:gd seq=gd seq:=rfl
 refine qT 7 U (aB (cT call176 (sG h seq seq_v hseq ob) U (λv1 h1 hle1 hp1=>?_)))
 obtain⟨rb1,rc1,rfl,sl1⟩:=hp1
 refine an ?_
 have hs1:gd seq=(cu seq):=hs0
 exact nretH [.slice rb1 ((cu seq).length) rc1] ⟨rb1,rc1,congrArg (λr:List Holder=>(.slice rb1 r.length rc1:Value)) hs1.symm,(by rw[hs1];exact sl1)⟩
end Go.Sg

namespace Go.Proofs
open Go.Shelf Go.RowKit Go.Lib Go.Sort
set_option maxHeartbeats 1000000 in
theorem Tryz.closure178(x y:Go.Sg.OSeat)(W:World):Calls Tryz.prog 178 #[.agg (Go.Sg.OSeat.cells x).toArray,.agg (Go.Sg.OSeat.cells y).toArray] W λe w'=>e=.returned (.int .i64 (Lib.compareInt x.person y.person))/\∃q os',w'=grow (W.drewN q) os':=by
 have hcon:=λW'=>Tryz.cmp_Compare_int x.person y.person W'
 generalize Lib.compareInt x.person y.person=r at hcon ⊢
 unfold Go.Sg.OSeat.cells
 go_enter Tryz.func178,Tryz.ntmps178
 go_wp2_with (go_at_call 118;refine(hcon _).mono ?_;rintro e w' ⟨rfl,rfl⟩)
 go_ret
 exact⟨rfl,0,_,by rw[alloc_eq_grow,alloc_eq_grow,grow_grow];rfl⟩
theorem Tryz.ltSeat(x y:Go.Sg.OSeat):ltOf (λx y:Go.Sg.OSeat=>Lib.compareInt x.person y.person) x y=decide (x.person<y.person):=by
 unfold ltOf Lib.compareInt
 by_cases h1:x.person<y.person
 .simp[h1]
 .by_cases h2:y.person<x.person<;>simp[h1,h2]
theorem Tryz.swoSeat:SWO (ltOf λx y:Go.Sg.OSeat=>Lib.compareInt x.person y.person) where
 irrefl x:=by rw[Tryz.ltSeat];simp
 trans x y z h1 h2:=by rw[Tryz.ltSeat]at *;simp at *;omega
 ntrans x y z h1 h2:=by rw[Tryz.ltSeat]at *;simp at *;omega
end Go.Proofs
namespace Go.Sg
open Go.Proofs Go.Proofs.Tryz Go.RowKit Go.Sort
theorem Dt{h:HF}:∀{cl:List Value}{xs:List OSeat},bI aCb h cl xs->cl=xs.flatMap jE
 |_,[],hc=>hc
 |_,x::xs,⟨cs,rest,e,_,hr,hc⟩=>by
  have:cs=jE x:=hr
  rw[e,this,Dt hc];rfl
theorem D0(h:HF):∀xs:List OSeat,bI aCb h (xs.flatMap jE) xs
 |[]=>rfl
 |x::xs=>⟨jE x,xs.flatMap jE,rfl,rfl,rfl,D0 h xs⟩
theorem HP:∀(xs:List OSeat)(j:Nat),j<xs.length*2->(xs.flatMap jE)[j]? = some ((jE (xs.getD (j/2) default)).getD (j%2) undef)
 |[],j,hj=>by simp at hj
 |x::xs,0,_=>by simp[jE]
 |x::xs,1,_=>by simp[jE]
 |x::xs,j+2,hj=>by
  have ih:=HP xs j (by simp at hj;omega)
  simp only[List.flatMap_cons]
  rw[List.getElem?_append_right (by simp[jE])]
  simp only[jE,xA,vB]
  rw[show j+2-(0+1+1)=j from by omega,show(j+2)/2=j/2+1 from by omega,show(j+2)%2=j%2 from by omega]
  simpa[jE]using ih
theorem sd(xs:List OSeat):(xs.flatMap jE).length=xs.length*2:=by
 induction xs with
 |nil=>rfl
 |cons x xs ih=>rw[List.flatMap_cons,jA,ih];simp[jE];omega
theorem Gn(xs:List OSeat):(flatK jE 2 xs.toArray).toList=xs.flatMap jE:=by
 apply aBn
 intro j
 rcases xQ j (xs.length*2)with hj|hj
 .rw[HP xs j hj]
  have h1:=get_flatK jE 2 xs.toArray j (by simpa using hj)
  have h2:j<(flatK jE 2 xs.toArray).size:=by rw[size_flatK];simpa using hj
  rw[getElem!_pos _ j h2]at h1
  rw[Array.getElem?_toList,aAm h2,h1]
  have h3:j/2<xs.length:=by omega
  congr 1
  rw[getElem!_pos xs.toArray (j/2) (by simpa using h3)]
  have h4:j%2<2:=Nat.mod_lt _ (by omega)
  simp only[List.getElem_toArray,List.getD,vF h3,aBu]
  rw[getElem!_pos _ (j%2) (by simpa[jE]using h4)]
  rw[vF (by simpa[jE]using h4),aBu]
 .rw[xM (by rw[Array.length_toList,size_flatK];simpa using hj),xM (by rw[sd];exact hj)]
theorem Kb(F cur:Array Value)(h:F.size<=cur.size):(putCells id 0 F cur).toList=F.toList++cur.toList.drop F.size:=by
 apply aBn
 intro j
 rcases xQ j cur.size with hj|hj
 .have e1:(putCells id 0 F cur).toList[j]? = some (if j<F.size then F[j]! else cur[j]):=by
   rw[Array.getElem?_toList]
   simp[putCells,hj]
  rw[e1]
  rcases xQ j F.size with h1|h1
  .rw[if_pos h1,List.getElem?_append_left (by simpa using h1),Array.getElem?_toList,aAm h1,getElem!_pos _ j h1]
  .rw[if_neg (by omega),List.getElem?_append_right (by simpa using h1),List.getElem?_drop,Array.getElem?_toList,Array.length_toList,show F.size+(j-F.size)=j from by omega,aAm hj]
 .rw[xM (by simpa[putCells]using hj),xM (by simp;omega)]
theorem Pu{w:World}{g n:Nat}{os:Array Obj}{cur:Array Value}{e:TypeId}{fr:Nat×Nat}(d:Array Value)(hb:w.heap[g]? = some (.cells cur e fr)):
  (grow (putRow id (Sort.ahead w n) g 0 d) os).heap[g]? = some (.cells (putCells id 0 d cur) e fr):=by
 have hg:g<w.heap.size:=(Array.getElem?_eq_some_iff.1 hb).1
 rw[heap_grow_old _ _ (by simpa using hg)]
 simp[putRow,mapBlock,Sort.ahead,aCn,hb,onCells]
theorem NP{w:World}{g n:Nat}{os:Array Obj}(d:Array Value):(grow (putRow id (Sort.ahead w n) g 0 d) os).os=w.os/\(grow (putRow id (Sort.ahead w n) g 0 d) os).tape=w.tape/\(grow (putRow id (Sort.ahead w n) g 0 d) os).output=w.output /\
  w.heap.size<=(grow (putRow id (Sort.ahead w n) g 0 d) os).heap.size/\∀k,k<w.heap.size->k≠g->(grow (putRow id (Sort.ahead w n) g 0 d) os).heap[k]? = w.heap[k]?:=by
 refine⟨rfl,rfl,rfl,by simp[putRow,mapBlock,Sort.ahead],λk hk hne=>?_⟩
 rw[heap_grow_old _ _ (by simpa using hk)]
 simp[putRow,mapBlock,Sort.ahead,aCn,Ne.symm hne]
theorem uH(h:HF)(xs:List OSeat)(b:Option Addr)(c:Nat)(G:LH)(hG:dC aCb 182 h xs b c G)(hsz:xs.length<=1000000000000):
  oA prog 274 [.slice b xs.length c,.func (.func 178) #[] #[]].toArray h G (λr h' G'=>h'=h/\r=.returned (.tuple #[])/\∃ys,ys.Perm xs/\ys.Pairwise (λx y=>x.person<=y.person)/\dC aCb 182 h ys b c G'):=by
 intro w hp
 rcases hG with⟨rfl,rfl,rfl,rfl⟩|⟨bk,cl,sp,rfl,hcl,hlen,hcap,hmax,rfl⟩
 .refine(lj (AnyF.slices_SortFunc_none Tryz.sortSeat none 0 (.func (.func 178) #[] #[]) w) (λw' hw=>by cases hw.1)).mono ?_
  rintro e w' ⟨rfl,rfl⟩
  exact⟨h,[],St.start hp,rfl,rfl,[],List.Perm.refl _,List.Pairwise.nil,dC.nil⟩
 .have hb:=hp.own _ (jD.2 rfl)
  simp only at hb
  have hcl':=Dt hcl
  subst hcl'
  have hfl:=Gn xs
  have hH:HoldsK jE 2 w bk 0 xs.toArray:=by
   intro j hj
   rw[size_flatK]at hj
   have hj':j<xs.length*2:=by simpa using hj
   refine⟨?_,by simp[World.frozen?,hb]⟩
   have h2:j<(flatK jE 2 xs.toArray).size:=by rw[size_flatK];exact hj
   have h3:(flatK jE 2 xs.toArray).toList[j]? = some (flatK jE 2 xs.toArray)[j]!:=by
    rw[Array.getElem?_toList,aAm h2,getElem!_pos _ j h2]
   rw[hfl]at h3
   have h4:(xs.flatMap jE++sp)[j]? = some (flatK jE 2 xs.toArray)[j]!:=by
    rw[List.getElem?_append_left (by rw[sd];exact hj')];exact h3
   simp only[World.cell?,hb,Nat.zero_add]
   simpa using h4
  have eg:∀args w,(callFunc 178 args).run prog w=.ok (.enter 178 args) w:=call178
  have hcall:=AnyQ.slices_SortFunc Tryz.sortSeat 2 Tryz.isAgg182 Tryz.sizeOf182 jE (λ_=>rfl) (λx v hv=>by simp[jE]at hv;rcases hv with rfl|rfl<;>rfl)
   (λx y=>Lib.compareInt x.person y.person) Tryz.swoSeat 178 #[] bk 0 c xs.toArray w eg (λ_ _ _ _ x y=>Tryz.closure178 x y _) hH (iq hb) (by simp;omega)
  change Calls prog 274 _ _ _ at hcall
  rw[List.size_toArray]at hcall
  refine(lj hcall (λw' hw=>by cases hw.1)).mono ?_
  rintro e w' ⟨rfl,d',n,os,⟨hds,_,hperm⟩,hsorted,rfl⟩
  have hds':d'.size=xs.length:=by simpa using hds
  have hF:(flatK jE 2 d').toList=d'.toList.flatMap jE:=by have:=Gn d'.toList;simpa using this
  have hFs:(flatK jE 2 d').size=xs.length*2:=by rw[size_flatK,hds']
  obtain⟨g1,g2,g3,g4,g5⟩:=NP (w:=w) (g:=bk) (n:=n) (os:=os) (flatK jE 2 d')
  have hnew:=Pu (w:=w) (g:=bk) (n:=n) (os:=os) (flatK jE 2 d') hb
  have hcur:(putCells id 0 (flatK jE 2 d') (xs.flatMap jE++sp).toArray).toList=d'.toList.flatMap jE++sp:=by
   rw[Kb _ _ (by rw[hFs,←sd];simp),hF,hFs]
   congr 1
   rw[←sd]
   exact List.drop_left' rfl
  have hcur':putCells id 0 (flatK jE 2 d') (xs.flatMap jE++sp).toArray=(d'.toList.flatMap jE++sp).toArray:=by rw[←hcur]
  rw[hcur']at hnew
  have hperm':d'.toList.Perm xs:=by
   have e1:d'.extract 0 xs.length=d':=by rw[←hds'];simp
   have e2:xs.toArray.extract 0 xs.length=xs.toArray:=by simp
   rw[e1,e2]at hperm;exact hperm
  refine⟨h,[(bk,.cells (d'.toList.flatMap jE++sp).toArray 182 (0,0))],⟨g1,g2,g3,g4,λk hk hM=>g5 k hk (λe=>hM (by subst e;simp)),λ_ _ e=>e,λ_ _=>rfl,λk o e=>?_,λq hq=>?_,?_,?_,?_⟩,rfl,rfl,d'.toList,hperm',?_,?_⟩
  .have hne:k≠bk:=λe'=>by
    have:=hp.free _ (jD.2 rfl)
    simp only at this
    rw[e',this]at e;cases e
   exact(g5 k (iq (hp.imm k o e)) hne).trans (hp.imm k o e)
  .rw[jD.1 hq];exact hnew
  .simp
  .intro q hq;rw[jD.1 hq];exact hp.free (bk,zJ (xs.flatMap jE++sp).toArray 182 (0,0)) (jD.2 rfl)
  .intro q hq;rw[jD.1 hq];exact .inr (by simp)
  .rw[List.pairwise_iff_getElem]
   intro i j hi hj hij
   have hj':j<d'.size:=by simpa using hj
   have hi':i<d'.size:=by simpa using hi
   have:=hsorted i j (zN _) hij (by omega)
   rw[Tryz.ltSeat,getElem!_pos _ j hj',getElem!_pos _ i hi']at this
   simp only[Array.getElem_toList]
   simpa using this
  .refine .inr ⟨bk,d'.toList.flatMap jE,sp,rfl,D0 h _,?_,?_,?_,rfl⟩
   .rw[jA,sd,hperm'.length_eq,←sd,←jA];exact hlen
   .rw[hperm'.length_eq];exact hcap
   .rw[hperm'.length_eq];exact hmax
theorem uk(h:HF)(it:Value)(ks:List OSeat)(hit:GJ prog it (λ(k:OSeat)(_:HF)(vs:List Value)=>vs=[aAs k]) (λxs=>xs.Perm ks) h)(hk:ks.length<=1000000000000):
  jv prog 179 [it,.func (.func 178) #[] #[]] h (λv h'=>∃(b:Option Addr)(c:Nat)(ys:List OSeat),ys.Perm ks/\ys.Pairwise (λx y=>x.person<=y.person)/\v=.slice b ys.length c/\SlC aCb h' b c ys):=by
 refine cZ func179 rfl ntmps179 rfl λX hM hX=>?_
 refine el (bE (gG (aJ (el (bE (av ?_))))))
 refine aB (BH call273 (GN h it _ hit (λxs hx=>by rw[hx.length_eq];exact hk)) rfl (λh' xs bb c G hle hxs hG=>?_))
 refine gG (aJ (el (bE (av (av ?_)))))
 refine aB (nw [] G [] call274 (uH h' xs bb c G hG (by rw[hxs.length_eq];exact hk)) (by simp) rfl (λG' hG'=>?_))
 obtain⟨ys,hp,hs,hG'⟩:=hG'
 refine aJ (el (bE (av (gG (aJ ?_)))))
 refine eK OSeat.ai [] G' [] (by simp) hM hG' (λh2 hle2 sl=>?_)
 exact kX [.slice bb xs.length c] func179 rfl ⟨rfl,trivial⟩ ⟨bb,c,ys,hp.trans hxs,hs,by rw[hp.length_eq];rfl,sl⟩
end Go.Sg

namespace Go.Sg
open Go.Proofs Go.Proofs.Tryz
set_option maxHeartbeats 2000000
theorem yi(h:HF)(m:List (OSeat×Appoint))(LJ:Nat)(m_q:Addr)(office:Int)(office_q:Addr)(hm:tA aAs (jf kG) h LJ m)(am:At h m_q [.map (some LJ)])(aoffice:At h office_q [I office])(hsz:m.length<=1000000000):Itr prog (.func (.func 177) #[] (jB [.pointer (some m_q),.pointer (some office_q)])) oL (co m office) h:=by
 refine sV call177 ?_
 intro yf ya yb C Sp Pn h1 A hle m1 m2 m3 hC hy
 refine jW Oe U ntmps177 U λX hXM hX=>?_
 have hs0:co m office=[]++co m office:=rfl
 refine qT 6 U (dB ty162 (am.mono hle) U (aB (cT call180 (yo h1 m LJ (hm.mono (jf.mono kP) hle)) U (λv1 h2 hle1 hp1=>av (aB (cT call179 (uk h2 v1 (m.map Prod.fst) hp1 (by rw[List.length_map];omega)) U (λv2 h3 hle2 hp2=>?_)))))))
 obtain⟨rb1,rc1,ys_,hper_,hsrt_,rfl,sl1⟩:=hp2
 have Sb:co m office=[]++((co.L1 m office (co.K1)) ys_):=Hi (by obtain⟨_,_,q⟩:=hm;exact q.nodup) hper_ hsrt_
 refine qL 3 [] U ?_
 refine lp2 ys_ (λi w=>[(0,.func yf ya yb),(1,.pointer (some m_q)),(2,.pointer (some office_q)),(11,.slice rb1 ys_.length rc1),(12,I (ys_.length:Int)),(13,I (i:Int))]) (λw=>w.2.2) (λw=>w.2.1) (λi w=>C w.1 w.2.2 w.2.1/\vM h3 w.2.2) (λs1 i w=>w.1++(co.L1 m office (co.K1)) s1) ([],A,h3) sl1.1.1 Sb ⟨(m1 _ _ _ _ (hle1.t hle2) hC),lf⟩ ?_ ?_
 .rintro i1 ⟨dn1,A1_,hh1⟩ ft hs1 ⟨hC1_,hl1⟩ e
  refine ew ?_
  have hs2:co m office=dn1:=hs1.trans (List.append_nil _)
  exact sW [] (A:=A1_) Oe U (List.Sublist.refl _) (.inl (hs2▸hC1_))
 rintro i1 ⟨dn1,A1_,hh1⟩ y1 rz1 hd1 df aS dZ gy hs3 ⟨hC1_,hl1⟩ hx1 ag1 e
 refine sr (tO df U (qO 8 U (aB (iF jE QV ty182 (sl1.mono OSeat.ai hl1).1 aS U U U (λq2 A2=>dq ty182 A2 U U (aT zc182 (λb3=>aL 0 ty182 U U U U U U (gJ (L':=[(b3,O (jE y1) 182)]++(A1_)) U (qO 3 U (dB ty162 (am.mono (((hle.t hle1).t hle2).t hl1)) U (cI 0 ty182 U U U ?_)))))))))))
 obtain⟨o2,hb2,hm2⟩:=(hm.mono (jf.mono kP) (((hle.t hle1).t hle2).t hl1))
 refine aB (nS (k:=y1) Mp vt hb2 hm2 (fw zv89) (show(jf kG) _ (.agg (jB [I 0,I 0,I 0,I 0,I 0,I 0,.bool false])) (jC 0 0 0 0 0 0 false)from⟨_,U,U⟩) U U (λv4 hv2=>?_))
 obtain⟨_,rfl,rfl⟩:=hv2
 refine aT zc89 (λb4=>aL 0 ty89 U U U U U U (gJ (L':=[(b4,O (qM (mgetD m y1 (jC 0 0 0 0 0 0 false))) 89),(b3,O (jE y1) 182)]++(A1_)) U (qL 5 [1] U (dB ty3 (aoffice.mono (((hle.t hle1).t hle2).t hl1)) U (qO 2 U (bA 4 [24,25,26,27,28] 24 28 (!((mgetD m y1 (jC 0 0 0 0 0 0 false)).Gone)) U (λc1 hk1=>?_) (λe=>?_)))))))
 .exact qL 4 [0] U (hk1 _ U)
 refine av (uG 29 U (λc2=>?_) (λc2=>?_))
 .have hs4:=hs3.trans (congrArg (dn1++·) (bt c2))
  refine qL 5 [0,0] U (aB (fV (cells:=[I ((mgetD m y1 (jC 0 0 0 0 0 0 false)).Person),I ((mgetD m y1 (jC 0 0 0 0 0 0 false)).Weight)]) (places:=[(0,1),(1,1)]) underlying158 zc158 kr kr ?_))
  have hx1:co m office=dn1++((aCF ((mgetD m y1 (jC 0 0 0 0 0 0 false)).Person) ((mgetD m y1 (jC 0 0 0 0 0 0 false)).Weight))::(co.L1 m office (co.K1) rz1)):=hs4
  refine aB (ll ([(b4,O (qM (mgetD m y1 (jC 0 0 0 0 0 0 false))) 89),(b3,O (jE y1) 182)]) A1_ ap (hy dn1 (aCF ((mgetD m y1 (jC 0 0 0 0 0 0 false)).Person) ((mgetD m y1 (jC 0 0 0 0 0 0 false)).Weight)) _ _ _ _ hx1 ((hle1.t hle2).t hl1) hC1_ U) U U (λh4 A3 hle3 hC1=>?_) (λh5 A4 hle4 hS1=>?_) (λch1 h6 A5 hle5 hP1 e=>gV (nh [] (A:=A5) Oe (List.sublist_append_right _ _) hP1)))
  .have hs5:co m office=(dn1++[(aCF ((mgetD m y1 (jC 0 0 0 0 0 0 false)).Person) ((mgetD m y1 (jC 0 0 0 0 0 0 false)).Weight))])++((co.L1 m office (co.K1) rz1)):=hx1.trans ap
   exact nl U (qO 6 U (oi i1 U (qO 2 U (aX (L':=A3) js (ag1 ((dn1++[(aCF ((mgetD m y1 (jC 0 0 0 0 0 0 false)).Person) ((mgetD m y1 (jC 0 0 0 0 0 0 false)).Weight))]),A3,h4) hs5 ⟨hC1,(hl1.t hle3)⟩)))))
  exact nl U (qO 3 U (ew (m4 [] (A:=A4) Oe U js (.inr hS1))))
 have hs6:=hs3.trans (congrArg (dn1++·) (bf c2))
 exact kq (qO 12 U (oi i1 U (qO 2 U (aX (L':=A1_) js (ag1 (dn1,A1_,hh1) hs6 ⟨hC1_,hl1⟩)))))
theorem AM(h:HF)(m:List (OSeat×Appoint))(LJ:Nat)(office:Int)(hm:tA aAs (jf kG) h LJ m)(hsz:m.length<=1000000000):jv prog 92 [.map (some LJ),I office] h (λv h'=>∃(rv0:Value),v=rv0/\Itr prog rv0 oL (ja m office) h'):=by
 refine sT func92 U ntmps92 U λX hM hX hF=>?_
 have hs0:ja m office=ja m office:=rfl
 refine sr (cz (λb1=>cz (λb2=>qO 4 U (aU 1 U hM (λh1 hle1 hb1=>aU 0 U hM (λh2 hle2 hb2=>aB (eL U U (an ?_))))))))
 have hs1:ja m office=(co m office):=hs0
 exact nretH [.func (.func 177) #[] #[Q b1,Q b2]] ⟨(.func (.func 177) #[] #[Q b1,Q b2]),congrArg (λr:List Holder=>((.func (.func 177) #[] #[Q b1,Q b2]):Value)) hs1.symm,(by rw[hs1];exact(yi h2 m LJ ⟨b1,0,none⟩ office ⟨b2,0,none⟩ (hm.mono (jf.mono kP) (hle1.t hle2)) ((cL hb1).mono hle2) (cL hb2) ob))⟩
theorem AN(h:HF)(l:List Appoint)(eu:Option Addr)(et:Nat)(office:Int)(aH:Int)(known:Int)(hl:SlC kG h eu et l)(hsz:l.length<=2000000):jv prog 24 [.slice eu l.length et,I office,I aH,I known] h (λv h'=>∃(rb0:Option Addr)(rc0:Nat),v=.tuple #[.slice rb0 ((ep l office aH known).1).length rc0,I ((ep l office aH known).2)]/\SlC aBV h' rb0 rc0 ((ep l office aH known).1)):=by
 refine sT func24 U ntmps24 U λX hM hX hF=>?_
 have hs0:ep l office aH known=ep l office aH known:=rfl
 refine qT 9 U (aj call65 (qh _ _ _ _ hl) U (qO 7 U (ae hs0 U (λc1 hs1=>?_) (λc1 hs2=>?_))))
 .refine qT 6 U ?_
  have hs3:ep l office aH known=([],(cw l)):=hs1
  exact nretH [.slice none 0 0,I (cw l)] ⟨none,0,congrArg (λr:(List Holder×Int)=>(.tuple #[.slice none r.1.length 0,I r.2]:Value)) hs3.symm,(by rw[hs3];exact qF)⟩
 refine qT 5 U (aj OE (mv h office) U (qO 2 U (ce 4 [18,19,20,21,22] 18 22 (!(dz aH)) U (λc2 hk1=>?_) (λe=>?_))))
 .exact av (aj EJ (jq h aH) U (qO 2 U (hk1 _ U)))
 refine av (ce 4 [23,24,25,26,27] 23 27 (!(dz known)) U (λc3 hk2=>?_) (λe=>?_))
 .exact av (aj EJ (jq h known) U (qO 2 U (hk2 _ U)))
 refine aJ (ae hs2 U (λc4 hs4=>?_) (λc4 hs5=>?_))
 .refine qT 5 U ?_
  have hs6:ep l office aH known=([],1):=hs4
  exact nretH [.slice none 0 0,I 1] ⟨none,0,congrArg (λr:(List Holder×Int)=>(.tuple #[.slice none r.1.length 0,I r.2]:Value)) hs6.symm,(by rw[hs6];exact qF)⟩
 refine qT 6 U (aB (cT call93 (rJ _ _ _ _ aH known hl) U (λv1 h1 hle1 hp1=>?_)))
 obtain⟨rk1,rfl,mo1⟩:=hp1
 refine av (aB (cT call92 (AM h1 (cW l aH known) rk1 office mo1 (by have:=vj l aH known;omega)) U (λv2 h2 hle2 hp2=>?_)))
 obtain⟨_,rfl,mo2⟩:=hp2
 refine aB (cT call91 (um h2 (ja (cW l aH known) office) v2 mo2 (by have h1:=vj l aH known;have h2:=DQ (cW l aH known) office;omega)) U (λv3 h3 hle3 hp3=>?_))
 obtain⟨rb1,rc1,rfl,sl1⟩:=hp3
 refine qO 3 U ?_
 have hs7:ep l office aH known=((gd (ja (cW l aH known) office)),0):=hs5
 exact nretH [.slice rb1 ((gd (ja (cW l aH known) office)).length) rc1,I 0] ⟨rb1,rc1,congrArg (λr:(List Holder×Int)=>(.tuple #[.slice rb1 r.1.length rc1,I r.2]:Value)) hs7.symm,(by rw[hs7];exact sl1)⟩
theorem tU(h:HF)(who:List Int)(sx:Option Addr)(su:Nat)(hwho:SlC kB h sx su who):Ret prog 96 [.slice sx who.length su] h (.bool (e8 who)):=by
 refine sT func96 U ntmps96 U λX hM hX hF=>?_
 have hs0:e8 who=e8 who:=rfl
 refine qK 15 [] U ?_
 refine lp1 who (λi w=>[(3,I w),(6,.slice sx who.length su),(7,I (who.length:Int)),(8,I (i:Int))]) ([]) (λs1 i w=>(e8.L1 (e8.K1)) s1 w) (-1) hwho.1.1 hs0 ?_ ?_
 .rintro i1 iQ ft hs1 e
  exact sr (an (nretP [.bool true] (cs hs1)))
 rintro i1 iQ y1 rz1 hd1 df aS dZ gy hs3 hx1 ag1 e
 refine sr (tO df U (qO 8 U (aB (iF (λy=>[I y]) ej ty3 hwho.1 aS U U U (λq2 A2=>dB ty3 A2 U (qO 9 U (ce 3 [15,16,17,18] 15 18 (decide (64<=y1)) U (λc1 hk1=>?_) (λe=>?_))))))))
 .exact av (qO 2 U (hk1 _ U))
 refine aJ (ae hs3 U (λc2 hs4=>?_) (λc2 hs5=>?_))
 .exact sr (an (nretP [.bool false] (cs hs4)))
 exact aI (qT 6 U (oi i1 U (qO 2 U (ag1 y1 hs5))))
theorem CU(h:HF)(holders:List (List Holder))(lr:Option Addr)(lq:Nat)(offices:Int)(hholders:SlC (Rp.sl aBV) h lr lq holders)(hsz0:∀y∈holders,y.length<=2000000):Ret prog 95 [.slice lr holders.length lq,I offices] h (.bool (eJ holders offices)):=by
 refine sT func95 U ntmps95 U λX hM hX hF=>?_
 have hs0:eJ holders offices=eJ holders offices:=rfl
 refine qK 11 [] U ?_
 refine lp2 holders (λi w=>[(0,.slice lr holders.length lq),(1,I offices),(10,.slice lr holders.length lq),(11,I (holders.length:Int)),(12,I (i:Int))]) (λw=>w) (λw=>[]) (λi w=>vM h w) (λs1 i w=>(eJ.L1 (eJ.K1 holders offices)) s1) h hholders.1.1 hs0 lf ?_ ?_
 .rintro i1 hh1 ft hs1 hl1 e
  try dsimp only at hl1
  exact qK 8 [] U (nretP [.bool ((holders.length:Int)==offices)] (cs hs1))
 rintro i1 hh1 y1 rz1 hd1 df aS dZ gy hs3 hl1 hx1 ag1 e
 try dsimp only at hl1
 have hszy:=hsz0 y1 (gp hd1)
 refine sr (tO df U (qO 8 U (aB (iG Od ty68 (hholders.mono (Rp.yT aBt) hl1).1 aS U U U (λq3 cs2 A3 ln2 rr2=>?_)))))
 obtain⟨rb2,rc2,rfl,sl2⟩:=rr2
 refine dB ty68 A3 U (qL 13 [] U ?_)
 refine lp2 y1 (λi w=>[(0,.slice lr holders.length lq),(1,I offices),(7,.slice w.2.1 w.1.length w.2.2.1),(10,.slice lr holders.length lq),(11,I (holders.length:Int)),(12,I (i1:Int)),(16,.slice rb2 y1.length rc2),(17,I (y1.length:Int)),(18,I (i:Int))]) (λ_=>hh1) (λw=>w.2.2.2) (λi w=>dC kB 3 hh1 w.1 w.2.1 w.2.2.1 w.2.2.2/\w.1.length<=0+i) (λs3 i w=>(eJ.L3 (λzg3_7=>(bif(!(e8 zg3_7))then false else(eJ.L1 (eJ.K1 holders offices) rz1)))) s3 w.1) ([],none,0,[]) sl2.1.1 hs3 ⟨dC.nil,lo⟩ ?_ ?_
 .rintro i3 ⟨NR,RU,RT,Py⟩ AZ hs4 ⟨KJ,Px⟩ e
  try dsimp only at KJ Px
  refine qT 3 U (oF jH ([]) Py ([]) ap hM KJ (λh1 hle1 sl3=>aj call96 (tU _ _ _ _ sl3) U (qO 2 U (ae hs4 U (λc2 hs5=>?_) (λc2 hs6=>?_)))))
  .exact sr (an (nretP [.bool false] (cs hs5)))
  exact aI (qT 2 U (oi i1 U (qO 2 U (ag1 h1 hs6 (hl1.t hle1)))))
 rintro i3 ⟨NR,RU,RT,Py⟩ y3 rz3 hd3 FY H8 FX Rx hs8 ⟨KJ,Px⟩ hx3 ag2 e
 try dsimp only at KJ Px
 refine sr (tO FY U (qO 8 U (aB (iF aAw Og ty158 sl2.1 H8 U U U (λq5 A5=>dq ty158 A5 U U (aT zc158 (λb3=>aL 0 ty158 U U U U U U (gJ (L':=[(b3,O (aAw y3) 158)]++(Py)) U (qL 8 [0] U (ce 4 [25,26,27,28,29] 25 29 (decide (64<y3.Weight)) U (λc3 hk1=>?_) (λe=>?_)))))))))))
 .exact qL 4 [0] U (hk1 _ U)
 refine aJ (ae hs8 U (λc4 hs9=>?_) (λc4 hs10=>?_))
 .exact sr (an (nretP [.bool false] (cs hs9)))
 exact qK 5 [0] U (aB (bB (cells:=[I y3.Person]) ej ty3 zc3 U U kr (λb4=>aB (dy Rp.iI ([(b4,O [I y3.Person] 3),(b3,O (aAw y3) 158)]) ([]) (λG=>[(b4,O [I y3.Person] 3),(b3,O (aAw y3) 158)]++G) ap (λ_=>ap) ej ty3 zc3 U bytes3 KJ U U (eF 0 U (cE (y3.Person) U U)) lo lo (λob1 oc1 G1 gr1=>qO 4 U (oi i3 U (qO 2 U (aX (L':=G1) js (ag2 ((NR++[y3.Person]),ob1,oc1,G1) hs10 ⟨gr1,lo⟩)))))))))
theorem rW(h:HF)(q:aZ)(tw:iU)(q_q:Addr)(office:Int)(office_q:Addr)(hq:aZ.ok h q tw)(aq:At h q_q (aZ.cells q tw))(aoffice:At h office_q [I office])(hno:0<=office/\office<(q.holders.length:Int))(hso:q.who.Pairwise (·<=·))(hsw:q.who.length<=2000000):Itr prog (.func (.func 330) #[] (jB [.pointer (some q_q),.pointer (some office_q)])) oL (cC q office) h:=by
 refine sV call330 ?_
 intro yf ya yb C Sp Pn h1 A hle m1 m2 m3 hC hy
 refine jW Oc U ntmps330 U λX hXM hX=>?_
 have hs0:cC q office=[]++cC q office:=rfl
 refine qK 3 [] U (ju (j:=1) ty67 (aq.mono hle) U U (dB ty3 (aoffice.mono hle) U ?_))
 have ho1:0<=(office:Int)/\(office:Int)<((q.holders).length:Int):=ob
 refine aB (MG Od ty68 (hq.holders.mono (Rp.yT aBt) hle).1 ho1 (dh ho1) U U U (λq1 cs1 A1 ln1 rr1=>?_))
 obtain⟨rb1,rc1,rfl,sl1⟩:=rr1
 refine dB ty68 A1 U (qL 3 [] U ?_)
 refine lp2 (nthI q.holders office) (λi w=>[(0,.func yf ya yb),(1,.pointer (some q_q)),(12,.slice rb1 ((nthI q.holders office).length) rc1),(13,I ((nthI q.holders office).length:Int)),(14,I (i:Int))]) (λw=>w.2.2) (λw=>w.2.1) (λi w=>C w.1 w.2.2 w.2.1/\vM h1 w.2.2) (λs1 i w=>w.1++(cC.L1 q (cC.K1)) s1) ([],A,h1) sl1.1.1 hs0 ⟨hC,lf⟩ ?_ ?_
 .rintro i1 ⟨dn1,A1_,hh1⟩ ft hs1 ⟨hC1_,hl1⟩ e
  refine ew ?_
  have hs2:cC q office=dn1:=hs1.trans (List.append_nil _)
  exact sW [] (A:=A1_) Oc U (List.Sublist.refl _) (.inl (hs2▸hC1_))
 rintro i1 ⟨dn1,A1_,hh1⟩ y1 rz1 hd1 df aS dZ gy hs3 ⟨hC1_,hl1⟩ hx1 ag1 e
 refine sr (tO df U (qO 8 U (aB (iF aAw Og ty158 (sl1.mono aBt hl1).1 aS U U U (λq3 A6=>dq ty158 A6 U U (aT zc158 (λb2=>aL 0 ty158 U U U U U U (gJ (L':=[(b2,O (aAw y1) 158)]++(A1_)) U (qL 4 [] U (ju (j:=2) ty31 (aq.mono (hle.t hl1)) U U (qL 2 [0] U (aj call114 (nv _ _ _ _ y1.Person (hq.who.mono jH (hle.t hl1)) ob ob) U (qO 10 U (uG 27 U (λc2=>?_) (λc2=>?_)))))))))))))))
 .have hs4:=hs3.trans (congrArg (dn1++·) (bt c2))
  refine av (cI 0 ty158 U U U ?_)
  have hx2:cC q office=dn1++(y1::(cC.L1 q (cC.K1) rz1)):=hs4
  refine aB (ll ([(b2,O (aAw y1) 158)]) A1_ ap (hy dn1 y1 _ _ _ _ hx2 hl1 hC1_ U) U U (λh5 A7 hle4 hC2=>?_) (λh6 A8 hle5 hS2=>?_) (λch2 h7 A9 hle6 hP2 e=>gV (nh [] (A:=A9) Oc (List.sublist_append_right _ _) hP2)))
  .have hs5:cC q office=(dn1++[y1])++((cC.L1 q (cC.K1) rz1)):=hx2.trans ap
   exact nl U (qO 6 U (oi i1 U (qO 2 U (aX (L':=A7) js (ag1 ((dn1++[y1]),A7,h5) hs5 ⟨hC2,(hl1.t hle4)⟩)))))
  exact nl U (qO 3 U (ew (m4 [] (A:=A8) Oc U js (.inr hS2))))
 have hs6:=hs3.trans (congrArg (dn1++·) (bf c2))
 exact kq (qO 8 U (oi i1 U (qO 2 U (aX (L':=A1_) js (ag1 (dn1,A1_,hh1) hs6 ⟨hC1_,hl1⟩)))))
theorem oa(h:HF)(q:aZ)(tw:iU)(office:Int)(hq:aZ.ok h q tw)(hno:0<=office/\office<(q.holders.length:Int))(hso:q.who.Pairwise (·<=·))(hsw:q.who.length<=2000000):jv prog 285 [.agg (aZ.cells q tw).toArray,I office] h (λv h'=>∃(rv0:Value),v=rv0/\Itr prog rv0 oL (gZ q office) h'):=by
 refine sT func285 U ntmps285 U λX hM hX hF=>?_
 have hs0:gZ q office=gZ q office:=rfl
 refine sr (cz (λb1=>cz (λb2=>qO 4 U (aU 1 U hM (λh1 hle1 hb1=>aU 0 U hM (λh2 hle2 hb2=>aB (eL U U (an ?_))))))))
 have hs1:gZ q office=(cC q office):=hs0
 exact nretH [.func (.func 330) #[] #[Q b1,Q b2]] ⟨(.func (.func 330) #[] #[Q b1,Q b2]),congrArg (λr:List Holder=>((.func (.func 330) #[] #[Q b1,Q b2]):Value)) hs1.symm,(by rw[hs1];exact(rW h2 q tw ⟨b1,0,none⟩ office ⟨b2,0,none⟩ (hq.mono (hle1.t hle2)) ((cL hb1).mono hle2) (cL hb2) ob ob ob))⟩
theorem uv(h:HF)(q:aZ)(tw:iU)(x:Expr)(gv:de)(hq:aZ.ok h q tw)(hx:jF h x gv)(hno:0<=x.No/\x.No<(q.holders.length:Int))(hso:q.who.Pairwise (·<=·))(hsw:q.who.length<=2000000):Ret prog 186 [.agg (aZ.cells q tw).toArray,.agg (zC x gv).toArray] h (.bool (ek q x)):=by
 refine cZ Ob U ntmps186 U λX hM hX=>?_
 have hs0:ek q x=ek q x:=rfl
 refine sr (cz (λb1=>cz (λb2=>aT zc4 (λb3=>qO 4 U (cI 2 ty167 U U U (qL 2 [1] U (aB (cT call285 (oa _ _ _ x.No hq ob ob ob) U (λv1 h1 hle1 hp1=>?_)))))))))
 obtain⟨_,rfl,mo1⟩:=hp1
 refine qO 2 U (ew ?_)
 let z1:Nat×Obj:=(b1,O (aZ.cells q tw) 167)
 let z2:Nat×Obj:=(b2,O (zC x gv) 62)
 refine cv (L':=([(b3,O [.bool false] 4),z2,z1])++markB []) ap ?_
 refine kp (it:=v1) (xs:=(gZ q x.No)) (ι:=Bool×HF) [] (λi=>i.2) (λi=>[(b3,O [.bool i.1] 4),z2,z1]) (λs i=>ek q x=((ek.L1 (ek.K1)) s i.1)/\vM h1 i.2) (λi=>ek q x=i.1/\vM h1 i.2) (λ_=>False) 0 (λ_ _ _=>False) (false,h1) Ob U mo1 U sS (λ_ _ _ _ _ hq=>hq) U (show[(b3,O [.bool false] 4),z2,z1]=_ from U) ⟨hs0,lf⟩ ?_ ?_ ?_ ?_ ?_
 .rintro l1 dm1 lp1 y1 rz1 vs1 ⟨ct,hh1⟩ hr1 X hFR1 ⟨hs1,hl1⟩ hl01 hlr1 hv1 hX hXM hlp1 nx1 rt1 ex1 pn1
  obtain rfl:=hv1
  exact cv (L':=[(l1,.loop lp1),(dm1,.deferred (some [])),(b3,O [.bool ct] 4),z2,z1]++(markB [])) ap (aI (kc 0 U hlp1 (qT 3 U (cM 2 ty4 U U U U U U (aJ (cv (L':=rdH l1 dm1 lp1 (([(b3,O [.bool true] 4),z2,z1])++markB [])) ap (rt1 (true,hr1) _ _ _ ⟨hs1,(hl1.t hlr1)⟩ lf)))))))
 .rintro dm1 ⟨ct,hh1⟩ hn1 ⟨hs2,hl1⟩ hln1 hl01
  refine cv (L':=[(b3,O [.bool ct] 4),z2,z1]++(markB (dm1::[]))) ap (qT 3 U (cM 0 ty4 U U U U U U (aJ ?_)))
  have hs3:ek q x=false:=hs2
  exact cv (L':=([(b3,O [.bool false] 4),z2,z1])++markB (dm1::[])) ap (sD (dm1::[]) [.bool false] Ob U hX ⟨⟨0,_,_,_,_,U,U,.inr ⟨_,ty4,U⟩⟩,trivial⟩ (cs hs3))
 .rintro dm1 ⟨ct,hh1⟩ hn1 ⟨hs4,hl1⟩ hln1 hl01
  refine cv (L':=[(b3,O [.bool ct] 4),z2,z1]++(markB (dm1::[]))) ap ?_
  have hs5:ek q x=ct:=hs4
  exact cv (L':=([(b3,O [.bool ct] 4),z2,z1])++markB (dm1::[])) ap (sD (dm1::[]) [.bool ct] Ob U hX ⟨⟨0,_,_,_,_,U,U,.inr ⟨_,ty4,U⟩⟩,trivial⟩ (cs hs5))
 .exact xf
 exact xf
end Go.Sg

namespace Go.Sg
open Go.Proofs Go.Proofs.Tryz
theorem Jl(h:HF)(x:Holder)(s:Int)(bk:Nat):oA prog 286 [.agg (aAw x).toArray,.pointer (some ⟨bk,0,none⟩)].toArray h [(bk,zJ (jB [.int .i64 s]) 3 (0,0))]
  (λr h' B=>r=.returned (.tuple #[])/\h'=h/\B=[(bk,zJ (jB [.int .i64 (vC .i64 (s+x.Weight))]) 3 (0,0))]):=by
 refine cZ func286 rfl ntmps286 rfl λX hM hX=>?_
 refine el (bE (cz (λb2=>aJ (bE (oo 1 ty3 rfl rfl rfl (kl PL rfl (oo 0 ty3 rfl rfl rfl (MM rfl (cM 1 ty3 rfl rfl rfl rfl rfl rfl (aJ ?_))))))))))
 exact xk func286 (λa _ w _=>mC rfl a w) (λw hw=>hw.sub (List.sublist_cons_self _ _)) ⟨rfl,rfl,rfl⟩
end Go.Sg

namespace Go.Sg
open Go.Proofs Go.Proofs.Tryz
set_option maxHeartbeats 2000000
theorem sP(h:HF)(q:aZ)(tw:iU)(x:Expr)(gv:de)(hq:aZ.ok h q tw)(hx:jF h x gv)(hno:0<=x.No/\x.No<(q.holders.length:Int))(hso:q.who.Pairwise (·<=·))(hsw:q.who.length<=2000000):Ret prog 187 [.agg (aZ.cells q tw).toArray,.agg (zC x gv).toArray] h (.bool (dV q x)):=by
 refine cZ func187 U ntmps187 U λX hM hX=>?_
 have hs0:dV q x=dV q x:=rfl
 refine sr (cz (λb1=>cz (λb2=>qO 4 U (aT zc3 (λb3=>cM 0 ty3 U U U U U U (qO 3 U (aB (eL U U (aT zc330 (λb4=>cM 0 ty330 U U U U U U (qO 4 U (cI 3 ty167 U U U (qL 2 [2] U (aB (cT call285 (oa _ _ _ x.No hq ob ob ob) U (λv1 h1 hle1 hp1=>?_))))))))))))))))
 obtain⟨_,rfl,mo1⟩:=hp1
 refine qO 2 U (ew ?_)
 let z1:Nat×Obj:=(b4,O [.func (.func 286) #[] #[Q b3]] 330)
 let z2:Nat×Obj:=(b1,O (aZ.cells q tw) 167)
 let z3:Nat×Obj:=(b2,O (zC x gv) 62)
 refine cv (L':=([z1,(b3,O [I 0] 3),z3,z2])++markB []) ap ?_
 refine kp (it:=v1) (xs:=(gZ q x.No)) (ι:=Int×HF) [] (λi=>i.2) (λi=>[z1,(b3,O [I i.1] 3),z3,z2]) (λs i=>dV q x=((dV.L1 (dV.K1 x)) s i.1)/\vM h1 i.2) (λ_=>False) (λ_=>False) 0 (λ_ _ _=>False) (0,h1) func187 U mo1 U sS (λ_ _ _ _ _ hq=>hq) U (show[z1,(b3,O [I 0] 3),z3,z2]=_ from U) ⟨hs0,lf⟩ ?_ ?_ ?_ ?_ ?_
 .rintro l1 dm1 lp1 y1 rz1 vs1 ⟨ct,hh1⟩ hr1 X hFR1 ⟨hs1,hl1⟩ hl01 hlr1 hv1 hX hXM hlp1 nx1 rt1 ex1 pn1
  obtain rfl:=hv1
  refine cv (L':=[(l1,.loop lp1),(dm1,.deferred (some [])),z1,(b3,O [I ct] 3),z3,z2]++(markB [])) ap (bE (aT zc158 (λb6=>aL 0 ty158 U U U U U U (aJ (kc 1 U hlp1 (qK 3 [3] U (cI 0 ty158 U U U (aB (O4 4 (o':=O [I (vC .i64 (ct+y1.Weight))] 3) U (nu (args:=[.agg (aAw y1).toArray]) (cap:=[Q b3]) call286 (Jl hr1 y1 ct b3)) U U (qO 2 U ?_))))))))))
  let z4:Nat×Obj:=(b3,O [I (vC .i64 (ct+y1.Weight))] 3)
  exact aX (L':=[(l1,.loop { lp1 with state:=.busy }),(dm1,.deferred (some [])),z1,z4,z3,z2]++(markB [])) js (cv (L':=rdH l1 dm1 lp1 (([z1,z4,z3,z2])++markB [])) ap (nx1 ((vC .i64 (ct+y1.Weight)),hr1) _ _ ⟨hs1,(hl1.t hlr1)⟩ lf))
 .rintro dm1 ⟨ct,hh1⟩ hn1 ⟨hs2,hl1⟩ hln1 hl01
  refine cv (L':=[z1,(b3,O [I ct] 3),z3,z2]++(markB (dm1::[]))) ap (qK 9 [1,2] U ?_)
  have hs3:dV q x=decide (x.N<=ct):=hs2
  exact cv (L':=([z1,(b3,O [I ct] 3),z3,z2])++markB (dm1::[])) ap (sD (dm1::[]) [.bool (decide (x.N<=ct))] func187 U hX rd (cs hs3))
 .exact xf
 .exact xf
 exact xf
theorem uJ(rec:aZ->Expr->Bool)(h:HF)(q:aZ)(tw:iU)(x:Expr)(gv:de)(hrec:∀(h:HF)(qq:aZ)(CR:iU)(qx:Expr)(ly:de)(hqq:aZ.ok h qq CR)(hqx:jF h qx ly)(hok:OkX (qq.holders.length:Int) qx)(hso:qq.who.Pairwise (·<=·))(hsw:qq.who.length<=2000000)(_:qx.dep<x.dep),Ret prog 97 [.agg (aZ.cells qq CR).toArray,.agg (zC qx ly).toArray] h (.bool (rec qq qx)))(hq:aZ.ok h q tw)(hx:jF h x gv)(hok:OkX (q.holders.length:Int) x)(hso:q.who.Pairwise (·<=·))(hsw:q.who.length<=2000000):Ret prog 188 [.agg (aZ.cells q tw).toArray,.agg (zC x gv).toArray] h (.bool (fG.F rec q x)):=by
 refine sT func188 U ntmps188 U λX hM hX hF=>?_
 have hs0:fG.F rec q x=fG.F rec q x:=rfl
 refine sr (cz (λb1=>cz (λb2=>qL 14 [0] U ?_)))
 let z1:Nat×Obj:=(b1,O (aZ.cells q tw) 167)
 let z2:Nat×Obj:=(b2,O (zC x gv) 62)
 refine lp1 x.L (λi w=>[(2,Q b1),(3,Q b2),(5,I w),(9,.slice gv.mt x.L.length gv.mu),(10,I (x.L.length:Int)),(11,I (i:Int))]) ([z2,z1]) (λs1 i w=>(fG.L1 rec q (fG.K1 x)) s1 w) 0 hx.list.1.1 hs0 ?_ ?_
 .rintro i1 fa ft hs1 e
  exact qK 8 [0] U (nretP [.bool (decide (x.N<=fa))] (cs hs1))
 rintro i1 fa y1 rz1 hd1 df aS dZ gy hs3 hx1 ag1 e
 have hoy:=hok.sub y1 (gp hd1)
 refine sr (tO df U (qO 8 U (aB (iR lW ty62 hx.list.1 aS U U U (λ_ _ _ e=>e) (λq2 r2 A2 ok2=>dq ty62 A2 U U (aT zc62 (λb4=>aL 0 ty62 U U U U U U (qO 3 U (cI 2 ty167 U U U (cI 0 ty62 U U U (aj Oa (hrec _ _ _ _ _ hq ok2 ob ob ob (aAn (gp hd1))) U (aJ (ae hs3 U (λc2 hs4=>?_) (λc2 hs5=>?_))))))))))))))
 .exact bE (qO 6 U (oi i1 U (qO 2 U (aX (L':=[z2,z1]) js (ag1 (vC .i64 (fa+1)) hs4)))))
 exact aI (qT 2 U (oi i1 U (qO 2 U (aX (L':=[z2,z1]) js (ag1 fa hs5)))))
theorem tx(rec:aZ->Expr->Bool)(h:HF)(q:aZ)(tw:iU)(x:Expr)(gv:de)(hrec:∀(h:HF)(qq:aZ)(CR:iU)(qx:Expr)(ly:de)(hqq:aZ.ok h qq CR)(hqx:jF h qx ly)(hok:OkX (qq.holders.length:Int) qx)(hso:qq.who.Pairwise (·<=·))(hsw:qq.who.length<=2000000)(_:qx.dep<x.dep),Ret prog 97 [.agg (aZ.cells qq CR).toArray,.agg (zC qx ly).toArray] h (.bool (rec qq qx)))(hq:aZ.ok h q tw)(hx:jF h x gv)(hok:OkX (q.holders.length:Int) x)(hso:q.who.Pairwise (·<=·))(hsw:q.who.length<=2000000)(hk4:x.Kind=4):Ret prog 189 [.agg (aZ.cells q tw).toArray,.agg (zC x gv).toArray] h (.bool (kU.F rec q x)):=by
 refine sT func189 U ntmps189 U λX hM hX hF=>?_
 have hs0:kU.F rec q x=kU.F rec q x:=rfl
 have hl2:=hok.two hk4
 refine sr (cz (λb1=>cz (λb2=>qL 11 [1,0] U (ae hs0 U (λc1 hs1=>?_) (λc1 hs2=>?_)))))
 .have c1p:=of_decide_eq_true c1
  refine el (eT ([(b2,O (zC x gv) 62),(b1,O (aZ.cells q tw) 167)]) mixed kr jn (λeo _=>tf 0 U U (λ_ _ hj=>kg ty167 U (hj.nth (i:=1) U) U) (qB [1] U (tf 2 U U (rj 0 ty60 U U U) ?_))))
  have ho1:0<=(0:Int)/\(0:Int)<((x.L).length:Int):=ob
  refine j9 3 eo jn lW ty62 hx.list.1 ho1 (dh ho1) U U U U kr (λq1 cs1 A1 ln1 rr1=>?_)
  obtain⟨r1,rfl,ok1⟩:=rr1
  exact tf 4 U U (λ_ _ hj=>mg ty62 (A1.mono hj.1) U U) (tn 5 U (fo Oa (hrec _ _ _ _ _ hq ok1 (hok.sub _ (pq ob)) ob ob (aAn (pq ob))) U (⟨jn,(qA [6] U (aQ kr (nretP [.bool (rec q (nthI x.L 0))] (cs hs1))))⟩)))
 have c1p:=of_decide_eq_false c1
 refine qT 2 U (eT ([(b2,O (zC x gv) 62),(b1,O (aZ.cells q tw) 167)]) mixed kr jn (λmK _=>tf 0 U U (λ_ _ hj=>kg ty167 U (hj.nth (i:=1) U) U) (qB [1] U (tf 2 U U (rj 0 ty60 U U U) ?_))))
 have ho2:0<=(1:Int)/\(1:Int)<((x.L).length:Int):=ob
 refine j9 3 mK jn lW ty62 hx.list.1 ho2 (dh ho2) U U U U kr (λq2 cs2 A2 ln2 rr2=>?_)
 obtain⟨r2,rfl,ok2⟩:=rr2
 exact tf 4 U U (λ_ _ hj=>mg ty62 (A2.mono hj.1) U U) (tn 5 U (fo Oa (hrec _ _ _ _ _ hq ok2 (hok.sub _ (pq ob)) ob ob (aAn (pq ob))) U (⟨jn,(qA [6] U (aQ kr (nretP [.bool (rec q (nthI x.L 1))] (cs hs2))))⟩)))
theorem PH(rec:aZ->Expr->Bool)(h:HF)(q:aZ)(tw:iU)(x:Expr)(gv:de)(hq:aZ.ok h q tw)(hx:jF h x gv)(hrec:∀(h:HF)(qq:aZ)(CR:iU)(qx:Expr)(ly:de)(_:aZ.ok h qq CR)(_:jF h qx ly)(_:OkX (qq.holders.length:Int) qx)(_:qq.who.Pairwise (·<=·))(_:qq.who.length<=2000000)(_:qx.dep<x.dep),Ret prog 97 [.agg (aZ.cells qq CR).toArray,.agg (zC qx ly).toArray] h (.bool (rec qq qx)))(hok:OkX (q.holders.length:Int) x)(hso:q.who.Pairwise (·<=·))(hsw:q.who.length<=2000000):
  pQ prog (List.getD [.nilFunc,.func (.func 186) #[] #[],.func (.func 187) #[] #[],.func (.func 188) #[] #[],.func (.func 189) #[] #[]] x.Kind.toNat .nilFunc) [.agg (aZ.cells q tw).toArray,.agg (zC x gv).toArray] h [] (.bool (fulQ rec q x)):=by
 have hk:=hok.kind
 have hc:x.Kind=1\/x.Kind=2\/x.Kind=3\/x.Kind=4:=by omega
 rcases hc with e|e|e|e
 .rw[show fulQ rec q x=ek q x from by simp[fulQ,e],e];exact gM (cap:=[]) call186 (uv h q tw x gv hq hx (hok.no ob) hso hsw)
 .rw[show fulQ rec q x=dV q x from by simp[fulQ,e],e];exact gM (cap:=[]) call187 (sP h q tw x gv hq hx (hok.no ob) hso hsw)
 .rw[show fulQ rec q x=fG.F rec q x from by simp[fulQ,e],e];exact gM (cap:=[]) call188 (uJ rec h q tw x gv hrec hq hx hok hso hsw)
 rw[show fulQ rec q x=kU.F rec q x from by simp[fulQ,e],e];exact gM (cap:=[]) call189 (tx rec h q tw x gv hrec hq hx hok hso hsw e)
theorem rV(rec:aZ->Expr->Bool)(h:HF)(q:aZ)(tw:iU)(x:Expr)(gv:de)(hrec:∀(h:HF)(qq:aZ)(CR:iU)(qx:Expr)(ly:de)(hqq:aZ.ok h qq CR)(hqx:jF h qx ly)(hok:OkX (qq.holders.length:Int) qx)(hso:qq.who.Pairwise (·<=·))(hsw:qq.who.length<=2000000)(_:qx.dep<x.dep),Ret prog 97 [.agg (aZ.cells qq CR).toArray,.agg (zC qx ly).toArray] h (.bool (rec qq qx)))(hq:aZ.ok h q tw)(hx:jF h x gv)(hok:OkX (q.holders.length:Int) x)(hso:q.who.Pairwise (·<=·))(hsw:q.who.length<=2000000):Ret prog 97 [.agg (aZ.cells q tw).toArray,.agg (zC x gv).toArray] h (.bool (dW.F rec q x)):=by
 refine sT func97 U ntmps97 U λX hM hX hF=>?_
 have hs0:dW.F rec q x=dW.F rec q x:=rfl
 have hkd:=hok.kind
 refine sr (cz (λb1=>cz (λb2=>qO 4 U (aB (O5 (cells:=[.nilFunc,.func (.func 186) #[] #[],.func (.func 187) #[] #[],.func (.func 188) #[] #[],.func (.func 189) #[] #[]]) underlying261 ty260 zc261 kr (aT zc261 (λb3=>aL 0 ty261 U U U U U U (qO 2 U (eW 0 U hM (λh1 hle1 hb1=>eT ([(b2,O (zC x gv) 62),(b1,O (aZ.cells q tw) 167)]) mixed kr jn (λeo _=>qB [0] U (tf 1 U U (rj 0 ty3 U U U) ?_))))))))))))
 have ho1:0<=(x.Kind:Int)/\(x.Kind:Int)<5:=ob
 have A1:=RI (cL hb1) ho1
 exact tf 2 U U (λ_ _ _=>O8 underlying261 ty260 U U ho1) (tf 3 U U (rh ty260 A1 U) (tf 4 U U (λ_ _ hj=>kg ty167 U (hj.nth (i:=1) U) U) (tf 5 U U (λ_ _ hj=>kg ty62 U (hj.nth (i:=0) U) U) (tn 6 U (ke (v:=.bool (fulQ rec q x)) [] (List.nil_sublist _) (PH rec h1 q tw x gv (hq.mono hle1) (hx.mono hle1) hrec hok hso hsw) U U (⟨jn,(qA [7] U (aQ kr (nretP [.bool (fulQ rec q x)] (cs hs0))))⟩))))))
theorem mJ:∀(m:Nat)(h:HF)(q:aZ)(tw:iU)(x:Expr)(gv:de)(_:x.dep<=m)(hq:aZ.ok h q tw)(hx:jF h x gv)(hok:OkX (q.holders.length:Int) x)(hso:q.who.Pairwise (·<=·))(hsw:q.who.length<=2000000),Ret prog 97 [.agg (aZ.cells q tw).toArray,.agg (zC x gv).toArray] h (.bool (dW.go m q x))
 |0,h,q,tw,x,gv,hd,hq,hx,hok,hso,hsw=>absurd hd (Nat.not_le.2 (Expr.mj _))
 |m+1,h,q,tw,x,gv,hd,hq,hx,hok,hso,hsw=>rV (dW.go m) h q tw x gv (λqh_ qq CR qx ly qhq qhx qhok qhso qhsw qd=>mJ m qh_ qq CR qx ly ob qhq qhx qhok qhso qhsw) hq hx hok hso hsw
theorem sQ(h:HF)(q:aZ)(tw:iU)(x:Expr)(gv:de)(hq:aZ.ok h q tw)(hx:jF h x gv)(hok:OkX (q.holders.length:Int) x)(hso:q.who.Pairwise (·<=·))(hsw:q.who.length<=2000000):Ret prog 97 [.agg (aZ.cells q tw).toArray,.agg (zC x gv).toArray] h (.bool (dW q x)):=mJ _ h q tw x gv (kF _) hq hx hok hso hsw
theorem AJ(h:HF)(p:Policy)(ie:fd)(kind:Int)(value:Int)(holders:List (List Holder))(lr:Option Addr)(lq:Nat)(who:List Int)(sx:Option Addr)(su:Nat)(hp:vP h p ie)(hholders:SlC (Rp.sl aBV) h lr lq holders)(hwho:SlC kB h sx su who)(hsm:smP p)(hsz0:∀y∈holders,y.length<=2000000)(hsw:who.length<=2000000)(hk:Kinds h):Ret prog 25 [.agg (xE p ie).toArray,I kind,I value,.slice lr holders.length lq,.slice sx who.length su] h (.tuple #[.bool ((gC p kind value holders who).1),I ((gC p kind value holders who).2)]):=by
 refine sT func25 U ntmps25 U λX hM hX hF=>?_
 have hs0:gC p kind value holders who=gC p kind value holders who:=rfl
 refine sr (cz (λb1=>qO 6 U (cI 0 ty64 U U U (aj call94 (tR _ _ _ hp ob hk) U (qO 7 U (ae hs0 U (λc1 hs1=>?_) (λc1 hs2=>?_)))))))
 .refine qT 6 U ?_
  have hs3:gC p kind value holders who=(false,(dk p)):=hs1
  exact nretP [.bool false,I (dk p)] (congrArg (λr:(Bool×Int)=>(.tuple #[.bool r.1,I r.2]:Value)) hs3.symm)
 refine qT 8 U (ce 6 [21,22,23,24,25,26,27] 21 27 (decide ((p.Kinds.length:Int)<=kind)) U (λc2 hk1=>?_) (λe=>?_))
 .exact qL 6 [0] U (hk1 _ U)
 refine av (ce 3 [28,29,30,31] 28 31 (decide (value<0)) U (λc3 hk2=>?_) (λe=>?_))
 .exact av (qO 2 U (hk2 _ U))
 refine av (ce 3 [32,33,34,35] 32 35 (decide (1099511627776<value)) U (λc4 hk3=>?_) (λe=>?_))
 .exact av (qO 2 U (hk3 _ U))
 refine an (ae hs2 U (λc5 hs4=>?_) (λc5 hs5=>?_))
 .refine qT 5 U ?_
  have hs6:gC p kind value holders who=(false,1):=hs4
  exact nretP [.bool false,I 1] (congrArg (λr:(Bool×Int)=>(.tuple #[.bool r.1,I r.2]:Value)) hs6.symm)
 refine qK 6 [0] U (aj call95 (CU _ _ _ _ (p.Offices.length:Int) hholders ob) U (qO 3 U (ae hs5 U (λc6 hs7=>?_) (λc6 hs8=>?_))))
 .refine qT 5 U ?_
  have hs9:gC p kind value holders who=(false,210):=hs7
  exact nretP [.bool false,I 210] (congrArg (λr:(Bool×Int)=>(.tuple #[.bool r.1,I r.2]:Value)) hs9.symm)
 refine qT 3 U (aj call96 (tU _ _ _ _ hwho) U (qO 3 U (ae hs8 U (λc7 hs10=>?_) (λc7 hs11=>?_))))
 .refine qT 5 U ?_
  have hs12:gC p kind value holders who=(false,1):=hs10
  exact nretP [.bool false,I 1] (congrArg (λr:(Bool×Int)=>(.tuple #[.bool r.1,I r.2]:Value)) hs12.symm)
 refine qT 7 U (aB (fV (cells:=[I value,.slice lr holders.length lq,.slice sx who.length su]) (places:=[(0,1),(1,1),(2,1)]) underlying167 zc167 kr kr (qL 3 [0] U ?_)))
 have ho1:0<=(kind:Int)/\(kind:Int)<((p.Rules).length:Int):=(by have hq:=zg (by simpa using c1);simp only[decide_eq_true_eq,decide_eq_false_iff_not,Bool.and_eq_true,Bool.or_eq_true,Bool.not_eq_true',Bool.not_eq_false',Bool.and_eq_false_iff,Bool.or_eq_false_iff,beq_iff_eq,beq_eq_false_iff_ne,bne_iff_ne,bne_eq_false_iff_eq,jA,xA,vB,List.length_drop]at c5;omega)
 refine aB (ur wL ty79 hp.Rules.1 ho1 (dh ho1) U U U (λ_ _ _ e=>e) (λq1 r1 A1 ok1=>qL 1 [] U (AO (j:=3) ty62 A1 U U (aj Oa (sQ _ _ _ _ _ (show aZ.ok h (aZ.mk value holders who) (iU.mk lr lq sx su)from⟨hholders,hwho⟩) ok1.Expr (by have hq:=zg (by simpa using c1);have hr:=NB (by simpa using c6);show OkX (holders.length:Int) _;rw[hr];exact hq.2.2 _ (Gq (pq ho1))) (Hc (by simpa using c7)) hsw) U (qO 3 U ?_)))))
 have hs13:gC p kind value holders who=((dW (aZ.mk value holders who) ((nthI p.Rules kind).Expr)),0):=hs11
 exact nretP [.bool (dW (aZ.mk value holders who) ((nthI p.Rules kind).Expr)),I 0] (congrArg (λr:(Bool×Int)=>(.tuple #[.bool r.1,I r.2]:Value)) hs13.symm)
theorem uz(h:HF)(c:bU)(oy:kn)(p:Policy)(ie:fd)(who:List Int)(sx:Option Addr)(su:Nat)(hc:bU.ok h c oy)(hp:vP h p ie)(hwho:SlC kB h sx su who)(hsm:smR c.Register)(hco:jr c)(hsp:smP p)(hofl:p.Offices.length<=32)(hsw:who.length<=2000000)(hk:Kinds h):Ret prog 135 [.agg (bU.cells c oy).toArray,.agg (xE p ie).toArray,.slice sx who.length su] h (.bool (dG c p who)):=by
 refine sT func135 U ntmps135 U λX hM hX hF=>?_
 have hs0:dG c p who=dG c p who:=rfl
 refine sr (cz (λb1=>cz (λb2=>qL 14 [0] U ?_)))
 let z1:Nat×Obj:=(b1,O (bU.cells c oy) 123)
 let z2:Nat×Obj:=(b2,O (xE p ie) 64)
 refine lp2 p.Offices (λi w=>[(2,.slice sx who.length su),(3,Q b1),(4,Q b2),(7,.slice w.2.1 w.1.length w.2.2.1),(15,I (p.Offices.length:Int)),(16,I (i:Int))]) (λw=>w.2.2.2.2) (λw=>[z2,z1]++(w.2.2.2.1)) (λi w=>dC (Rp.sl aBV) 68 w.2.2.2.2 w.1 w.2.1 w.2.2.1 w.2.2.2.1/\w.1.length<=0+i/\vM h w.2.2.2.2/\(∀y∈w.1,y.length<=2000000)) (λs1 i w=>(dG.L1 c (dG.K1 c p who)) s1 i w.1) ([],none,0,[],h) hp.Offices.1.1 hs0 ⟨dC.nil,lo,lf,(λy hy=>(List.not_mem_nil hy).elim)⟩ ?_ ?_
 .rintro i1 ⟨Ej,RW,RV,Q2,hh1⟩ ft hs1 ⟨KN,PC,hl1,u1_0⟩ e
  try dsimp only at KN PC hl1 u1_0
  refine sr (cI 0 ty64 U U U (qL 8 [1,1] U (oF (Rp.yT aBt) ([z2,z1]) Q2 ([]) ap hM KN (λh3 hle3 sl3=>aj call25 (AJ _ _ _ c.doc.Kind c.doc.Value _ _ _ _ _ _ (hp.mono (hl1.t hle3)) sl3 (hwho.mono jH (hl1.t hle3)) hsp ob ob (hk.mono (hl1.t hle3))) U (qO 10 U (bA 3 [52,53,54,55] 52 55 ((gC p c.doc.Kind c.doc.Value Ej who).2==0) U (λc1 hk1=>?_) (λe=>?_)))))))
  .exact av (qO 2 U (hk1 _ U))
  exact an (nretP [.bool ((gC p c.doc.Kind c.doc.Value Ej who).1&&((gC p c.doc.Kind c.doc.Value Ej who).2==0))] (cs hs1))
 rintro i1 ⟨Ej,RW,RV,Q2,hh1⟩ y1 rz1 hd1 df aS dZ gy hs3 ⟨KN,PC,hl1,u1_0⟩ hx1 ag1 e
 try dsimp only at KN PC hl1 u1_0
 refine sr (tO df U (qL 21 [1,1,1] U (aB (cT call24 (AN _ _ _ _ (i1:Int) c.at_ c.known (hc.Register.Appoints.mono kP hl1) hsm.2.1) U (λv2 h4 hle4 hp2=>?_)))))
 obtain⟨rb2,rc2,rfl,sl4⟩:=hp2
 exact av (qO 8 U (aB (ou uF (iz h4 ((ep c.Register.Appoints (i1:Int) c.at_ c.known).2)) (mw (Ll ((jg _).1 hco.chk).1 ob hco.time hco.know)) U (qO 4 U (aB (bB (cells:=[.slice rb2 (((ep c.Register.Appoints (i1:Int) c.at_ c.known).1).length) rc2]) Od ty68 zc68 U U kr (λb4=>aB (dy (Rp.Qh aBt) ([(b4,O [.slice rb2 (((ep c.Register.Appoints (i1:Int) c.at_ c.known).1).length) rc2] 68),z2,z1]) ([]) (λG=>[(b4,O [.slice rb2 (((ep c.Register.Appoints (i1:Int) c.at_ c.known).1).length) rc2] 68),z2,z1]++G) ap (λ_=>ap) Od ty68 zc68 U bytes68 (KN.mono (Rp.yT aBt) hle4) U U (eF 0 U (cE (R:=(Rp.sl aBV)) ((ep c.Register.Appoints (i1:Int) c.at_ c.known).1) U ⟨rb2,rc2,U,sl4⟩)) lo lo (λob2 oc2 G2 gr2=>qO 4 U (oi i1 U (qO 2 U (aX (L':=[z2,z1]++G2) js (ag1 ((Ej++[(ep c.Register.Appoints (i1:Int) c.at_ c.known).1]),ob2,oc2,G2,h4) hs3 ⟨gr2,lo,(hl1.t hle4),(λy hy=>(List.mem_append.1 hy).elim (u1_0 y) (λhy=>by rw[jD.1 hy];exact kS (Lk _ _ _ _) hsm.2.1))⟩)))))))))))))
theorem CK{α : Type}{xs:List α}{i:Nat}{y:α}(h:xs[i]? = some y):xs.take (i+1)=xs.take i++[y]:=by
  rw[List.take_add_one,h];rfl
theorem AW(h:HF)(c:bU)(oy:kn)(bv:Nat)(s0 b0:Int)(hc:bU.ok h c oy)(hsm:smR c.Register)(hco:jr c)(hat:c.doc.At<=c.at_)(hk:Kinds h):
  oA prog 59 (jB [.agg (bU.cells c oy).toArray,Q bv]) h [(bv,verO s0 b0 none 0 0 none 0 0)]
   (λr h' B=>∃vb vc wb wc G,r=.returned (.bool (gk c))/\B=(bv,verO s0 b0 vb (askJ c).1.length vc wb (askAll c).length wc)::G/\SlC kB h' vb vc (askJ c).1/\dC kB 3 h' (askAll c) wb wc G):=by
 have hJ:Jdg c.Register.Versions (askJ c):=Iq hco.vers hco.good.at_ hco.time hco.know hat
 have hJl:(askJ c).1.length<=256:=kS (Mh _ _ _ _) hco.vers.len
 have hpx:∀y∈(askJ c).1,exOk (eN c y):=λy hy=>BQ (hJ.mem y hy)
 have hpk:∀y∈(askJ c).1,Q8 (askP c y):=λy hy=>Cy hco hsm (QO (hpx y hy))
 refine cZ func59 U ntmps59 U λX hM hX=>?_
 refine sr (cz (λb2=>an ?_))
 refine sr (kl PO U (kl QN U (oo 0 ty26 U U U (kl Gm U (kl QJ U (oo 0 ty3 U U U (kl PN U (oo 0 ty3 U U U (kl PM U (oo 0 ty3 U U U (aB (cT call22 (AA h c.Register.Versions _ _ c.doc.At c.at_ c.known hc.Register.Versions hsm.vers hk) U (λv1 h1 hle1 hp1=>?_)))))))))))))
 obtain⟨vb,vc,rfl,slv⟩:=hp1
 refine qO 11 U (aB (ou uF (iz h1 _) (mw hJ.err) U (qO 9 U (ML ej U (qO 2 U ?_)))))
 refine lp2 (γ:=List Bool×Option Addr×Nat×LH×List Int×Option Addr×Nat×LH×HF) (x0:=(askJ c).1) (askJ c).1
  (λi g=>[(1,Q bv),(2,Q b2),(5,.slice vb (askJ c).1.length vc),(6,I (askJ c).2.1),(8,.slice g.2.1 g.1.length g.2.2.1),(31,.slice vb (askJ c).1.length vc),(32,I (((askJ c).1.length:Nat):Int)),(33,I (i:Int))])
  (λg=>g.2.2.2.2.2.2.2.2)
  (λg=>[(b2,O (bU.cells c oy) 123),(bv,verO s0 b0 none 0 0 g.2.2.2.2.2.1 g.2.2.2.2.1.length g.2.2.2.2.2.2.1)]++(g.2.2.2.1++g.2.2.2.2.2.2.2.1))
  (λi g=>g.1=((askJ c).1.take i).map (askAns c)/\g.2.2.2.2.1=((askJ c).1.take i).flatMap (askWho c)/\dC Rp.bool 4 g.2.2.2.2.2.2.2.2 g.1 g.2.1 g.2.2.1 g.2.2.2.1/\dC kB 3 g.2.2.2.2.2.2.2.2 g.2.2.2.2.1 g.2.2.2.2.2.1 g.2.2.2.2.2.2.1 g.2.2.2.2.2.2.2.1/\h1.le g.2.2.2.2.2.2.2.2/\g.1.length<=i/\g.2.2.2.2.1.length<=i*2000000)
  (λs i _=>(askJ c).1.take i++s) ([],none,0,[],[],none,0,[],h1) ob rfl ⟨rfl,rfl,dC.nil,dC.nil,vQ _,zN _,zN _⟩ ?_ ?_
 .rintro i ⟨az,ab,ac,Ga,ws,wb,wc,Gw,hh⟩ hil hx0 ⟨ha,hw,gA,gW,hle,la,lw⟩ e
  dsimp only at ha hw gA gW hle la lw hx0
  rw[List.append_nil]at hx0
  rw[←hx0]at ha hw
  subst ha hw
  obtain⟨ws,hws⟩:∃ws,ws=(askJ c).1.flatMap (askWho c):=⟨_,rfl⟩
  have hall:askAll c=slices_Compact_int (sortI ws):=by rw[hws];rfl
  rw[←hws]at gW lw
  obtain⟨az,has⟩:∃az,az=(askJ c).1.map (askAns c):=⟨_,rfl⟩
  rw[←has]at gA la
  show TT _ _ _ _ _ (upds e [(1,Q bv),(2,Q b2),(5,.slice vb (askJ c).1.length vc),(6,I (askJ c).2.1),(8,.slice ab ((askJ c).1.map (askAns c)).length ac),(31,.slice vb (askJ c).1.length vc),(32,I (((askJ c).1.length:Nat):Int)),(33,I (i:Int))]) _ _ hh ([(b2,O (bU.cells c oy) 123),(bv,verO s0 b0 none 0 0 wb ((askJ c).1.flatMap (askWho c)).length wc)]++(Ga++Gw))
  rw[←hws,←has]
  refine qT 3 U (aB (fK (gh U) (kl Cl U (oo 1 ty31 U U U (aB (nw ([(b2,O (bU.cells c oy) 123),(bv,verO s0 b0 none 0 0 wb ws.length wc)]++Ga) Gw [] On (mS hh ws wb wc Gw gW ob) (by simp only[kD,List.cons_append,List.nil_append,List.append_nil]) U (λG2 g2=>aJ ?_)))))))
  refine qT 6 U (aB (fK (gh U) (kl Cl U (oo 1 ty31 U U U (aB (nw (v:=.slice wb (slices_Compact_int (sortI ws)).length wc) ([(b2,O (bU.cells c oy) 123),(bv,verO s0 b0 none 0 0 wb ws.length wc)]++Ga) G2 [] call136 (pS hh (sortI ws) wb wc G2 g2) U (by simp only[jc];rfl) (λG3 g3=>?_)))))))
  refine aB (fK (gh U) (kl QL U (cM 1 ty31 U U U U U U (aB (fK (gh U) (kl Cl U (cM 1 ty31 U U U U U U (aJ (cv (L':=[(b2,O (bU.cells c oy) 123),(bv,verO s0 b0 vb (askJ c).1.length vc wb (slices_Compact_int (sortI ws)).length wc)]++(Ga++G3)) (by rw[List.append_nil,kD];rfl) ?_)))))))))
  have fin:∀(hz:HF)(r:Bool),hh.le hz->r=gk c->∀(e:Env),e 4=.bool r->∀k,TT prog (bodyFrame 59) 88 (.code .ret::k) (mr prog X (λr h' B=>∃vb vc wb wc G,r=.returned (.bool (gk c))/\B=(bv,verO s0 b0 vb (askJ c).1.length vc wb (askAll c).length wc)::G/\SlC kB h' vb vc (askJ c).1/\dC kB 3 h' (askAll c) wb wc G)) e [] X hz ([(b2,O (bU.cells c oy) 123),(bv,verO s0 b0 vb (askJ c).1.length vc wb (slices_Compact_int (sortI ws)).length wc)]++(Ga++G3)):=by
   intro hz r hlz hr e he k
   subst hr
   refine qe (v:=.bool (gk c)) (h2:=hz) (B:=(bv,verO s0 b0 vb (askJ c).1.length vc wb (slices_Compact_int (sortI ws)).length wc)::G3) func59 (λa ha w _=>by rw[←he];exact res1 U a ha w) (λw hw=>hw.sub (.cons _ (.cons_cons _ (List.sublist_append_right _ _)))) ⟨vb,vc,wb,wc,G3,U,?_,slv.mono jH (zF hle hlz),?_⟩
   .rw[hall]
   rw[hall];exact g3.mono jH hlz
  refine qT 6 U ?_
  refine ky U (λc1=>?_) (λc1=>?_)
  .exact sr (an (fin hh false lf (by unfold gk;rw[show((askJ c).2.1==0)=true from c1];rfl) _ U _))
  have hm:=hJ.mode2 (by simpa using c1)
  have hal:az.length<=256:=by rw[has,List.length_map];exact hJl
  refine qT 5 U (aB (E4 ([(b2,O (bU.cells c oy) 123),(bv,verO s0 b0 vb (askJ c).1.length vc wb (slices_Compact_int (sortI ws)).length wc)]) Ga G3 (v:=.tuple #[.bool ((jw (askJ c).2.1 az).1),I ((jw (askJ c).2.1 az).2)]) call26 Rp.ql gA U (λhz lz sl=>AB hz (askJ c).2.1 az ab ac sl ob) U ?_))
  exact av (qO 8 U (aB (ou uF (iz hh _) (mw (Mi hm hal)) U (qO 6 U (fin hh _ lf (by unfold gk;rw[show((askJ c).2.1==0)=false from c1,cond_false,←has]) _ U _)))))
 rintro i ⟨az,ab,ac,Ga,ws,wb,wc,Gw,hh⟩ y r hd hlt hget hltp hbd hx0 ⟨ha,hw,gA,gW,hle,la,lw⟩ hx ag e
 dsimp only at ha hw gA gW hle la lw
 have hy:y∈(askJ c).1:=List.mem_of_getElem? hget
 have hcc:=hc.mono (zF hle1 hle)
 show TT _ _ _ _ _ (upds e [(1,Q bv),(2,Q b2),(5,.slice vb (askJ c).1.length vc),(6,I (askJ c).2.1),(8,.slice ab az.length ac),(31,.slice vb (askJ c).1.length vc),(32,I (((askJ c).1.length:Nat):Int)),(33,I (i:Int))]) _ _ hh ([(b2,O (bU.cells c oy) 123),(bv,verO s0 b0 none 0 0 wb ws.length wc)]++(Ga++Gw))
 refine sr (tO hlt U (qO 8 U (aB (pd (enc:=λy=>[I y]) (λ_ _ _ e=>e) ej ty3 (slv.mono jH hle).1 (nthZ hget) (fH hget) U U U (λq1 A1=>dB ty3 A1 U (an ?_))))))
 refine sr (cI 0 ty123 U U U (av (aB (HS call80 (pT hh c oy y hcc) (hpx y hy) U (λv3 h3 hle3 hp3=>?_)))))
 obtain⟨pr,rfl,okp⟩:=hp3
 refine aT zc64 (λb11=>aL 0 ty64 U U U U U U (aJ ?_))
 refine sr (cI 1 ty123 U U U (cI 0 ty64 U U U (aB (cT call79 (pU h3 c oy (askP c y) pr (hcc.mono hle3) okp hsm hco (hpk y hy).rules) U (λv4 h4 hle4 hp4=>?_)))))
 obtain⟨ub,uc,rfl,slu⟩:=hp4
 refine qO 5 U (cI 1 ty123 U U U (cI 0 ty64 U U U (av (aj (v:=.bool (askAns c y)) call135 (uz h4 c oy (askP c y) pr (askWho c y) ub uc (hcc.mono (zF hle3 hle4)) (okp.mono hle4) slu hsm hco (hpk y hy).sm (hpk y hy).off (Fz hsm _) (hk.mono (zF hle1 (zF hle (zF hle3 hle4))))) U ?_))))
 have hl4:hh.le h4:=zF hle3 hle4
 have hwl:=Fz hsm (askP c y)
 refine aB (bB (cells:=[.bool (askAns c y)]) uE ty4 zc4 U U kr (λb13=>?_))
 refine aB (dy Rp.Ik ([(b13,O [.bool (askAns c y)] 4),(b11,O (xE (askP c y) pr) 64),(b2,O (bU.cells c oy) 123),(bv,verO s0 b0 none 0 0 wb ws.length wc)]) Gw (λG=>[(b13,O [.bool (askAns c y)] 4),(b11,O (xE (askP c y) pr) 64),(b2,O (bU.cells c oy) 123),(bv,verO s0 b0 none 0 0 wb ws.length wc)]++(Gw++G)) U (λ_=>U) uE ty4 zc4 U bytes4 (gA.mono Rp.ql hl4) U U (eF (ys:=[askAns c y]) 0 U ⟨[.bool (askAns c y)],[],U,U,U,U⟩) lo lo (λab2 ac2 Ga2 gA2=>an ?_))
 refine qT 3 U (aB (fK (gh U) (kl Cl U (oo 3 ty31 U U U (av (aB (dy Rp.iI ([(b13,O [.bool (askAns c y)] 4),(b11,O (xE (askP c y) pr) 64),(b2,O (bU.cells c oy) 123),(bv,verO s0 b0 none 0 0 wb ws.length wc)]) Ga2 (λG=>[(b13,O [.bool (askAns c y)] 4),(b11,O (xE (askP c y) pr) 64),(b2,O (bU.cells c oy) 123),(bv,verO s0 b0 none 0 0 wb ws.length wc)]++(Ga2++G)) U (λ_=>U) ej ty3 zc3 U bytes3 (gW.mono jH hl4) U U (mO slu.1) (by show(_+(askWho c y).length)*_<=_;unfold askWho;omega) (by show _+(askWho c y).length<=_;unfold askWho;omega) (λwb2 wc2 Gw2 gW2=>?_))))))))
 refine aB (fK (gh U) (kl Cl U (cM 3 ty31 U U U U U U (aJ (aX (L':=[(b2,O (bU.cells c oy) 123),(bv,verO s0 b0 none 0 0 wb2 (ws++askWho c y).length wc2)]++(Ga2++Gw2)) js (qT 2 U (jO (v':=I (((i+1:Nat)):Int)) U (L7 ob) (qO 2 U ?_))))))))
 refine ag (az++[askAns c y],ab2,ac2,Ga2,ws++askWho c y,wb2,wc2,Gw2,h4) (by rw[CK hget,kD];exact hx0) ⟨?_,?_,gA2,gW2,zF hle hl4,?_,?_⟩
 .show az++[askAns c y]=_;rw[CK hget,ha,List.map_append];rfl
 .show ws++askWho c y=_;rw[CK hget,hw,List.flatMap_append];simp
 .show(az++[askAns c y]).length<=i+1;rw[jA];simp only[xA,vB];omega
 show(ws++askWho c y).length<=(i+1)*2000000;rw[jA];unfold askWho;omega
theorem LP(h:HF)(c:bU)(oy:kn)(q:Addr)(bv:Nat)(s0 b0:Int)(hc:bU.ok h c oy)(aq:At h q (bU.cells c oy))(hsm:smR c.Register)(hco:jr c)(hat:c.doc.At<=c.at_)(hk:Kinds h):
    oA prog 58 (jB [.pointer (some q),Q bv]) h [(bv,verO s0 b0 none 0 0 none 0 0)]
      (λr h' B=>∃vb vc wb wc G,r=.returned (.bool (!(gk c)))/\B=(bv,verO s0 b0 vb (askJ c).1.length vc wb (askAll c).length wc)::G/\SlC kB h' vb vc (askJ c).1/\dC kB 3 h' (askAll c) wb wc G):=by
  refine cZ func58 U ntmps58 U λX hM hX=>?_
  refine qT 6 rfl (dq ty123 aq rfl rfl (aB (ng (A:=[(bv,verO s0 b0 none 0 0 none 0 0)]) (Fr:=[]) call59 rfl (AW h c oy bv s0 b0 hc hsm hco hat hk) rfl (λv h2 B hle hR=>?_) (λch h2 B hle hR=>by obtain⟨_,_,_,_,_,hr,_⟩:=hR;cases hr))))
  obtain⟨vb,vc,wb,wc,G,hr,rfl,s1,g1⟩:=hR
  cases hr
  exact nl U (an (qe (v:=.bool (!(gk c))) (h2:=h2) (B:=(bv,verO s0 b0 vb (askJ c).1.length vc wb (askAll c).length wc)::G) func58 (λa ha w hw=>mV (rs:=[.tmp 2]) (vs:=[.bool (!(gk c))]) U rd a ha w hw) (λw hw=>by simpa using hw) ⟨vb,vc,wb,wc,G,U,U,s1,g1⟩))
theorem LO(h:HF)(r:Register)(Sj:dK)(qr:Addr)(u:List Use)(rO:Option Addr)(rN:Nat)(qu:Addr)(c:bU)(oy:kn)(qc:Addr)(at_ known:Int)(qa qk:Addr)(bv:Nat)(s0 b0:Int)(vb:Option Addr)(vn vc:Nat)(wb:Option Addr)(wn wc:Nat)(hr:vL h r Sj)(ar:At h qr (qQ r Sj))(hu:SlC Use.rp h rO rN u)(au:At h qu [.slice rO u.length rN])(ac:At h qc (bU.cells c oy))(aa:At h qa [I at_])(ak:At h qk [I known])(hsm:smR r)(he:(judgeRoom c r u at_ known).2.2=0):
  oA prog 60 (jB [.pointer (some qr),.pointer (some qu),.pointer (some qc),.pointer (some qa),.pointer (some qk),Q bv]) h [(bv,verO s0 b0 vb vn vc wb wn wc)]
   (λx h' B=>x=.returned (.bool (!(judgeRoom c r u at_ known).2.1))/\h'=h/\B=[(bv,verO s0 (bif !(judgeRoom c r u at_ known).2.1 then(judgeRoom c r u at_ known).1 else b0) vb vn vc wb wn wc)]):=by
 refine cZ func60 U ntmps60 U λX hM hX=>?_
 refine qT 6 U (kl M9 U (ju (j:=3) ty25 ar U U (dB ty32 au U (kl Gm U (kl QI U (ju (j:=9) ty3 ac U U (kl Gm U (kl QH U (ju (j:=10) ty3 ac U U (dB ty3 aa U (dB ty3 ak U (aj (v:=.tuple #[I (judgeRoom c r u at_ known).1,.bool (judgeRoom c r u at_ known).2.1,I (judgeRoom c r u at_ known).2.2]) call27 (wD h r.Budgets _ _ u rO rN c.doc.Kind c.doc.Value at_ known hr.Budgets hu hsm.2.2.2.2.1) U (qO 11 U (aB (ou uF (iz h _) (mw he) U (qO 7 U ?_))))))))))))))))
 refine ky U (λc1=>?_) (λc1=>?_)
 .exact bE (av (kl M8 U (cM 0 ty3 U U U U U U (qO 7 U (qe (v:=.bool (!(judgeRoom c r u at_ known).2.1)) (h2:=h) (B:=[(bv,verO s0 (judgeRoom c r u at_ known).1 vb vn vc wb wn wc)]) func60 (λa ha w hw=>mV (rs:=[.tmp 6]) (vs:=[.bool (!(judgeRoom c r u at_ known).2.1)]) U rd a ha w hw) (λw hw=>hw) ⟨U,U,by rw[show(!(judgeRoom c r u at_ known).2.1)=true from c1];rfl⟩)))))
 exact aI (qT 6 U (qe (v:=.bool (!(judgeRoom c r u at_ known).2.1)) (h2:=h) (B:=[(bv,verO s0 b0 vb vn vc wb wn wc)]) func60 (λa ha w hw=>mV (rs:=[.tmp 6]) (vs:=[.bool (!(judgeRoom c r u at_ known).2.1)]) U rd a ha w hw) (λw hw=>hw) ⟨U,U,by rw[show(!(judgeRoom c r u at_ known).2.1)=false from c1];rfl⟩))
theorem FC{e:Int}{ee:Int}(h:lQ e=.error ee):(e != 0)=true/\ee=e:=by
  unfold lQ at h
  cases hc:e != 0 with
  |true=>rw[hc]at h;cases h;exact⟨rfl,rfl⟩
  |false=>rw[hc]at h;cases h
theorem CZ{e:Int}{u:Unit}(h:lQ e=.ok u):e=0:=by
  unfold lQ at h
  cases hc:e != 0 with
  |true=>rw[hc]at h;cases h
  |false=>simpa using hc
theorem lR(h:HF)(cH:Register)(gB:dK)(signed:List Int)(ck:Option Addr)(cj:Nat)(u:List Use)(rO:Option Addr)(rN:Nat)(doc:Int)(cX:Int)(known:Int)(kx:vL h cH gB)(hsigned:SlC kB h ck cj signed)(hu:SlC Use.rp h rO rN u)(hsm:smR cH)(hln:cH.Docs.length<20)(hk:Kinds h):
  jv prog 11 [.agg (qQ cH gB).toArray,.slice ck signed.length cj,.slice rO u.length rN,I doc,I cX,I known] h (λv h'=>∃rr0:pK,v=.tuple #[.agg (fJ.cells (cU cH signed u doc cX known).1 rr0).toArray,I ((cU cH signed u doc cX known).2)]/\fJ.ok h' (cU cH signed u doc cX known).1 rr0):=by
 refine cZ func11 U ntmps11 U λX hM hX=>?_
 refine sr (cz (λb6=>cz (λb7=>cz (λb8=>cz (λb10=>cz (λb11=>aT zc36 (λb12=>aT zc37 (λb13=>aJ ?_))))))))
 refine sr (HK U U (aJ ?_))
 have fin:∀(hh:HF)(V:fJ)(vb:Option Addr)(vc:Nat)(wb:Option Addr)(wc:Nat)(ee:Int)(B:LH)(e:Env),cU cH signed u doc cX known=(V,ee)->SlC kB hh vb vc V.Versions->SlC kB hh wb wc V.Who->e 12=Q b12->e 13=Q b13->∀a:Act,envOf a=e->∀w,St X hh ([(b13,O [I ee] 37)]++((b12,verO V.State V.Budget vb V.Versions.length vc wb V.Who.length wc)::B)) w ->
   ∃v h2 B2,(results Tryz.f11 a.tmps).run prog w=.ok v w/\St X h2 B2 w/\(B2=[]/\∃v',Ending.returned v=.returned v'/\(λv h'=>∃rr0:pK,v=.tuple #[.agg (fJ.cells (cU cH signed u doc cX known).1 rr0).toArray,I ((cU cH signed u doc cX known).2)]/\fJ.ok h' (cU cH signed u doc cX known).1 rr0) v' h2):=by
  intro hh V vb vc wb wc ee B e he h1 h2 h12 h13 a ha w hw
  refine⟨_,hh,[],mV (rs:=[.cell 12 36,.cell 13 37]) (vs:=[.agg (fJ.cells V ⟨vb,vc,wb,wc⟩).toArray,I ee]) U ⟨⟨1,b12,_,36,(0,0),U,h12,.inl ⟨ty36,U⟩⟩,⟨0,b13,[I ee],37,(0,0),U,h13,.inr ⟨_,ty37,U⟩⟩,trivial⟩ a ha w hw,hw.sub (List.nil_sublist _),U,_,U,⟨vb,vc,wb,wc⟩,?_,?_⟩
  .rw[he];rfl
  rw[he];exact⟨h1,h2⟩
 have pan:∀(hh:HF)(e0 ee:Int)(B:LH)(e:Env),cU cH signed u doc cX known=(⟨0,0,[],[]⟩,ee)->e 12=Q b12->e 13=Q b13 ->
   TP prog (bodyFrame 11) 69 [{ v:=errV ee,recovered:=false }] (mr prog X (λx h' B=>B=[]/\∃v,x=.returned v/\(λv h'=>∃rr0:pK,v=.tuple #[.agg (fJ.cells (cU cH signed u doc cX known).1 rr0).toArray,I ((cU cH signed u doc cX known).2)]/\fJ.ok h' (cU cH signed u doc cX known).1 rr0) v h')) e [{ target:=.fn (.func 50) #[],args:=jB [Q b13] }] X hh ((b13,O [I e0] 37)::(b12,verO 0 0 none 0 0 none 0 0)::B):=by
  intro hh e0 ee B e he h12 h13
  refine EO (c:=bodyOf Tryz.f50) (cap:=[Q b13]) (A:=[(b13,O [I e0] 37)]) (R':=λh'' B=>h''=hh/\B=[(b13,O [I ee] 37)]) func11 HC U Ml U Mk (λX' _=>Bi hh b13 e0 ee X') U ?_
  rintro h'' B2 _ ⟨rfl,rfl⟩ a ha w hw
  exact fin _ ⟨0,0,[],[]⟩ none 0 none 0 ee B e he qF qF h12 h13 a ha w hw
 refine sr (cI 6 ty30 U U U (aj (v:=I (dX cH)) Ok (pu h cH gB kx hsm hk) U ?_))
 refine sa uF (iz h (dX cH)).toXH U (λv_ v h1 hx1 hle1 hp1=>?_) (λee h1 hx1 hle1=>?_)
 rotate_left
 .obtain⟨e1,rfl⟩:=FC hx1
  exact pan h1 _ _ _ _ (by unfold cU;rw[e1];rfl) U U
 obtain⟨rfl,rfl⟩:=hp1
 have hc0:=CZ hx1
 refine qO 3 U (kl QM U (oo 6 ty27 U U U (oo 5 ty31 U U U (aB (cT call52 (rx h1 cH.Docs _ _ signed ck cj 0 kx.Docs hsigned hln) U (λv2 h2 hle2 hp2=>?_))))))
 obtain⟨fb,fc,rfl,_⟩:=hp2
 refine qO 3 U (cM 0 ty37 U U U U U U (qO 3 U (oo 0 ty37 U U U ?_)))
 refine sa uF (iz h2 (bz cH.Docs signed 0).2).toXH U (λv_ v h3 hx3 hle3 hp3=>?_) (λee h3 hx3 hle3=>?_)
 rotate_left
 .obtain⟨e1,rfl⟩:=FC hx3
  exact pan h3 _ _ _ _ (by unfold cU;rw[hc0,e1];rfl) U U
 obtain⟨rfl,rfl⟩:=hp3
 have hf0:=CZ hx3
 refine qO 3 U (kl M9 U (oo 6 ty25 U U U (oo 4 ty32 U U U (aj (v:=.tuple #[I (bp cH.Budgets u 0 0 0 0).1,.bool (bp cH.Budgets u 0 0 0 0).2.1,I (bp cH.Budgets u 0 0 0 0).2.2]) call27 (wD h3 cH.Budgets _ _ u rO rN 0 0 0 0 (kx.mono hle2).Budgets (hu.mono Use.ai hle2) hsm.2.2.2.2.1) U (qO 4 U (cM 0 ty37 U U U U U U (qO 3 U (oo 0 ty37 U U U ?_))))))))
 refine sa uF (iz h3 (bp cH.Budgets u 0 0 0 0).2.2).toXH U (λv_ v h4 hx4 hle4 hp4=>?_) (λee h4 hx4 hle4=>?_)
 rotate_left
 .obtain⟨e1,rfl⟩:=FC hx4
  exact pan h4 _ _ _ _ (by unfold cU;rw[hc0,hf0,e1];rfl) U U
 obtain⟨rfl,rfl⟩:=hp4
 have hb0:=CZ hx4
 refine qO 3 U (cI 6 ty30 U U U (av (oo 3 ty3 U U U (oo 2 ty3 U U U ?_))))
 refine sa call53 (Al h4 cH gB doc cX known (kx.mono hle2)) U (λc v h5 hx5 hle5 hp5=>?_) (λee h5 hx5 hle5=>?_)
 rotate_left
 .exact pan h5 _ _ _ _ (by unfold cU;rw[hc0,hf0,hb0,hx5];rfl) U U
 obtain⟨cr,rfl,okc⟩:=hp5
 have hj:cU cH signed u doc cX known=(judgeC c cH signed u cX known,0):=by unfold cU;rw[hc0,hf0,hb0,hx5];rfl
 obtain⟨hce,hco,_,_⟩:=IS hc0 hx5
 have hreg:c.Register=cH:=by rw[hce]
 have hca:c.at_=cX:=by rw[hce]
 have hck:c.known=known:=by rw[hce]
 have hsc:smR c.Register:=by rw[hreg];exact hsm
 have hlc:c.Register.Docs.length<20:=by rw[hreg];exact hln
 have hsg:bM c.Register.Docs signed=true:=by rw[hreg];exact I0 hf0
 have hroom:(judgeRoom c cH u cX known).2.2=0:=J4 hb0 hco.kind hco.good.value (hca▸hco.time) (hck▸hco.know)
 rw[hb0]
 refine aT zc123 (λb14=>aL 0 ty123 U U U U U U (aJ ?_))
 refine sr (kl M8 U (cM 2 ty3 U U U U U U (aJ (eW 0 U hM (λg1 l1 f14=>eW 2 U hM (λg2 l2 f11=>eW 2 U hM (λg3 l3 f10=>eW 2 U hM (λg4 l4 f8=>eW 2 U hM (λg5 l5 f7=>eW 2 U hM (λg6 l6 f6=>?_))))))))))
 have a14:=(cL f14).mono (zF l2 (zF l3 (zF l4 (zF l5 l6))))
 have a11:=(cL f11).mono (zF l3 (zF l4 (zF l5 l6)))
 have a10:=(cL f10).mono (zF l4 (zF l5 l6))
 have a8:=(cL f8).mono (zF l5 l6)
 have a7:=(cL f7).mono l6
 have a6:=cL f6
 have l56:h5.le g6:=zF l1 (zF l2 (zF l3 (zF l4 (zF l5 l6))))
 have l06:h1.le g6:=zF hle2 (zF hle5 l56)
 have okg:=okc.mono l56
 have okr:=kx.mono l06
 have hsg6:=hsigned.mono jH l06
 have hu6:=hu.mono Use.ai l06
 have hk6:=hk.mono l06
 clear f14 f11 f10 f8 f7 f6
 show TT _ _ _ _ _ _ _ _ g6 [(b13,O [I 0] 37),(b12,verO 0 (-1) none 0 0 none 0 0)]
 refine qT 3 U (aB (eL U U (aB (fV (cells:=[I 1,.func (.func 54) #[] #[Q b14,Q b7]]) (places:=[(0,1),(1,1)]) Ls zc126 kr kr (aB (eL U U (aB (fV (cells:=[I 2,.func (.func 56) #[] #[Q b14,Q b7]]) (places:=[(0,1),(1,1)]) Ls zc126 kr kr (aB (eL U U (aB (fV (cells:=[I 3,.func (.func 58) #[] #[Q b14,Q b12]]) (places:=[(0,1),(1,1)]) Ls zc126 kr kr (aB (eL U U (aB (fV (cells:=[I 4,.func (.func 60) #[] #[Q b6,Q b8,Q b14,Q b10,Q b11,Q b12]]) (places:=[(0,1),(1,1)]) Ls zc126 kr kr (aB (bB (cells:=[I 1,.func (.func 54) #[] #[Q b14,Q b7],I 2,.func (.func 56) #[] #[Q b14,Q b7],I 3,.func (.func 58) #[] #[Q b14,Q b12],I 4,.func (.func 60) #[] #[Q b6,Q b8,Q b14,Q b10,Q b11,Q b12]]) Jr ty126 zc126 U U kr (λb15=>ML Jr U (qO 2 U ?_))))))))))))))))))))
 have ret:∀(hh:HF)(V:fJ)(vb:Option Addr)(vc:Nat)(wb:Option Addr)(wc:Nat)(B:LH)(e:Env)(k:List Item),judgeC c cH signed u cX known=V->SlC kB hh vb vc V.Versions->SlC kB hh wb wc V.Who->e 12=Q b12->e 13=Q b13 ->
   TT prog (bodyFrame 11) 69 (.code .ret::k) (mr prog X (λx h' B=>B=[]/\∃v,x=.returned v/\(λv h'=>∃rr0:pK,v=.tuple #[.agg (fJ.cells (cU cH signed u doc cX known).1 rr0).toArray,I ((cU cH signed u doc cX known).2)]/\fJ.ok h' (cU cH signed u doc cX known).1 rr0) v h')) e [{ target:=.fn (.func 50) #[],args:=jB [Q b13] }] X hh ((b13,O [I 0] 37)::(b12,verO V.State V.Budget vb V.Versions.length vc wb V.Who.length wc)::B):=by
  intro hh V vb vc wb wc B e k hv h1 h2 h12 h13
  refine JC (c:=bodyOf Tryz.f50) (cap:=[Q b13]) (A:=[(b13,O [I 0] 37)]) (R':=λh'' B=>h''=hh/\B=[(b13,O [I 0] 37)]) func11 HC U Ml U Mk (λX' _=>GD hh b13 0 X') U ?_
  rintro h'' B2 _ ⟨rfl,rfl⟩ a ha w hw
  exact fin _ V vb vc wb wc 0 B e (by rw[hj,hv]) h1 h2 h12 h13 a ha w hw
 refine mA (EM (sr (jO (v':=.bool true) U U (qO 8 U (aB (fK (DA (i:=0) Jr ty126 U U ob) (cI 0 ty126 U U U (aT zc126 (λc0=>aL 0 ty126 U U U U U U (aJ ?_))))))))))
 refine sr (kl Cn U (oo 0 ty33 U U U (aB (ke (v:=.bool (ff c signed)) [] (List.nil_sublist _) (gM (cap:=[Q b14,Q b7]) call54 (C4 g6 c cr ⟨b14,0,none⟩ signed ck cj ⟨b7,0,none⟩ okg a14 hsg6 a7 hsc hco hlc hsg)) U U (aJ ?_)))))
 refine ky U (λk1=>?_) (λk1=>?_)
 .exact sr (kl Co U (oo 0 ty3 U U U (kl Cm U (cM 3 ty3 U U U U U U (qO 3 U (cI 3 ty36 U U U (aL 3 ty36 U U U U U U (cM 2 ty37 U U U U U U (aJ (aX (.cons _ (.cons _ (List.Sublist.refl _))) (ret g6 ⟨1,-1,[],[]⟩ none 0 none 0 [] _ _ (by unfold judgeC;rw[show ff c signed=true from k1];rfl) qF qF U U)))))))))))
 replace k1:ff c signed=false:=k1
 have hat:c.doc.At<=c.at_:=Ij k1
 refine qT 3 U (jO (v':=I 1) U U (qO 2 U (Bu (aX (.cons _ (List.Sublist.refl _)) (sr (jO (v':=.bool true) U U (qO 8 U (aB (fK (DA (i:=1) Jr ty126 U U ob) (cI 0 ty126 U U U (aT zc126 (λc1=>aL 0 ty126 U U U U U U (aJ ?_)))))))))))))
 refine sr (kl Cn U (oo 0 ty33 U U U (aB (ke (v:=.bool (gD c signed)) [] (List.nil_sublist _) (gM (cap:=[Q b14,Q b7]) call56 (C3 g6 c cr ⟨b14,0,none⟩ signed ck cj ⟨b7,0,none⟩ okg a14 hsg6 a7 hsc hco hlc hsg)) U U (aJ ?_)))))
 refine ky U (λk2=>?_) (λk2=>?_)
 .exact sr (kl Co U (oo 0 ty3 U U U (kl Cm U (cM 3 ty3 U U U U U U (qO 3 U (cI 3 ty36 U U U (aL 3 ty36 U U U U U U (cM 2 ty37 U U U U U U (aJ (aX (.cons _ (.cons _ (List.Sublist.refl _))) (ret g6 ⟨2,-1,[],[]⟩ none 0 none 0 [] _ _ (by unfold judgeC;rw[k1,show gD c signed=true from k2];rfl) qF qF U U)))))))))))
 replace k2:gD c signed=false:=k2
 refine qT 3 U (jO (v':=I 2) U U (qO 2 U (Bu (aX (.cons _ (List.Sublist.refl _)) (sr (jO (v':=.bool true) U U (qO 8 U (aB (fK (DA (i:=2) Jr ty126 U U ob) (cI 0 ty126 U U U (aT zc126 (λc2=>aL 0 ty126 U U U U U U (aJ ?_)))))))))))))
 refine sr (kl Cn rfl (oo 0 ty33 rfl rfl rfl (aB (BG [(c2,O [I 3,.func (.func 58) #[] #[Q b14,Q b12]] 126),(b15,O [I 1,.func (.func 54) #[] #[Q b14,Q b7],I 2,.func (.func 56) #[] #[Q b14,Q b7],I 3,.func (.func 58) #[] #[Q b14,Q b12],I 4,.func (.func 60) #[] #[Q b6,Q b8,Q b14,Q b10,Q b11,Q b12]] 126),(b13,O [I 0] 37)] [(b12,verO 0 (-1) none 0 0 none 0 0)] rfl (nu (args:=[]) (cap:=[Q b14,Q b12]) call58 (LP g6 c cr ⟨b14,0,none⟩ b12 0 (-1) okg a14 hsc hco hat hk6)) rfl rfl (λv7 h7 B7 l7 hR=>?_) (λch h7 B7 l7 hR=>by obtain⟨_,_,_,_,_,hr,_⟩:=hR;cases hr)))))
 obtain⟨vb,vc,wb,wc,G,hr,rfl,sv7,gw⟩:=hR
 cases hr
 refine aJ (eK jH ([(c2,O [I 3,.func (.func 58) #[] #[Q b14,Q b12]] 126),(b15,O [I 1,.func (.func 54) #[] #[Q b14,Q b7],I 2,.func (.func 56) #[] #[Q b14,Q b7],I 3,.func (.func 58) #[] #[Q b14,Q b12],I 4,.func (.func 60) #[] #[Q b6,Q b8,Q b14,Q b10,Q b11,Q b12]] 126),(b13,O [I 0] 37)]++[(b12,verO 0 (-1) vb (askJ c).1.length vc wb (askAll c).length wc)]) G [] (by rw[List.append_nil];rfl) hM gw (λh8 l8 sw_z=>?_))
 have sv:=sv7.mono jH l8
 have l68:g6.le h8:=zF l7 l8
 refine cv (L':=[(c2,O [I 3,.func (.func 58) #[] #[Q b14,Q b12]] 126),(b15,O [I 1,.func (.func 54) #[] #[Q b14,Q b7],I 2,.func (.func 56) #[] #[Q b14,Q b7],I 3,.func (.func 58) #[] #[Q b14,Q b12],I 4,.func (.func 60) #[] #[Q b6,Q b8,Q b14,Q b10,Q b11,Q b12]] 126),(b13,O [I 0] 37),(b12,verO 0 (-1) vb (askJ c).1.length vc wb (askAll c).length wc)]) (by rw[List.append_nil];rfl) ?_
 refine ky U (λk3=>?_) (λk3=>?_)
 .exact sr (kl Co U (oo 0 ty3 U U U (kl Cm U (cM 3 ty3 U U U U U U (qO 3 U (cI 3 ty36 U U U (aL 3 ty36 U U U U U U (cM 2 ty37 U U U U U U (aJ (aX (.cons _ (.cons _ (List.Sublist.refl _))) (ret h8 ⟨3,-1,(askJ c).1,askAll c⟩ vb vc wb wc [] _ _ (by unfold judgeC;rw[k1,k2,show(!(gk c))=true from k3];rfl) sv sw_z U U)))))))))))
 replace k3:(!(gk c))=false:=k3
 refine qT 3 U (jO (v':=I 3) U U (qO 2 U (Bu (aX (.cons _ (List.Sublist.refl _)) (sr (jO (v':=.bool true) U U (qO 8 U (aB (fK (DA (i:=3) Jr ty126 U U ob) (cI 0 ty126 U U U (aT zc126 (λc3=>aL 0 ty126 U U U U U U (aJ ?_)))))))))))))
 refine sr (kl Cn U (oo 0 ty33 U U U (aB (BG [(c3,O [I 4,.func (.func 60) #[] #[Q b6,Q b8,Q b14,Q b10,Q b11,Q b12]] 126),(b15,O [I 1,.func (.func 54) #[] #[Q b14,Q b7],I 2,.func (.func 56) #[] #[Q b14,Q b7],I 3,.func (.func 58) #[] #[Q b14,Q b12],I 4,.func (.func 60) #[] #[Q b6,Q b8,Q b14,Q b10,Q b11,Q b12]] 126),(b13,O [I 0] 37)] [(b12,verO 0 (-1) vb (askJ c).1.length vc wb (askAll c).length wc)] U (nu (args:=[]) (cap:=[Q b6,Q b8,Q b14,Q b10,Q b11,Q b12]) call60 (LO h8 cH gB ⟨b6,0,none⟩ u rO rN ⟨b8,0,none⟩ c cr ⟨b14,0,none⟩ cX known ⟨b10,0,none⟩ ⟨b11,0,none⟩ b12 0 (-1) vb (askJ c).1.length vc wb (askAll c).length wc (okr.mono l68) (a6.mono l68) (hu6.mono Use.ai l68) (a8.mono l68) (a14.mono l68) (a10.mono l68) (a11.mono l68) hsm hroom)) U U (λv9 h9 B9 l9 hR=>?_) (λch h9 B9 l9 hR=>by cases hR.1)))))
 obtain⟨hr,rfl,rfl⟩:=hR
 cases hr
 refine aJ (ky U (λk4=>?_) (λk4=>?_))
 .exact cv (L':=[(c3,O [I 4,.func (.func 60) #[] #[Q b6,Q b8,Q b14,Q b10,Q b11,Q b12]] 126),(b15,O [I 1,.func (.func 54) #[] #[Q b14,Q b7],I 2,.func (.func 56) #[] #[Q b14,Q b7],I 3,.func (.func 58) #[] #[Q b14,Q b12],I 4,.func (.func 60) #[] #[Q b6,Q b8,Q b14,Q b10,Q b11,Q b12]] 126),(b13,O [I 0] 37),(b12,verO 0 (judgeRoom c cH u cX known).1 vb (askJ c).1.length vc wb (askAll c).length wc)]) (by rw[show(!(judgeRoom c cH u cX known).2.1)=true from k4];rfl) (sr (kl Co U (oo 0 ty3 U U U (kl Cm U (cM 3 ty3 U U U U U U (qO 3 U (cI 3 ty36 U U U (aL 3 ty36 U U U U U U (cM 2 ty37 U U U U U U (aJ (aX (.cons _ (.cons _ (List.Sublist.refl _))) (ret h9 ⟨4,(judgeRoom c cH u cX known).1,(askJ c).1,askAll c⟩ vb vc wb wc [] _ _ (by unfold judgeC;rw[k1,k2,k3,show(!(judgeRoom c cH u cX known).2.1)=true from k4];rfl) sv sw_z U U))))))))))))
 replace k4:(!(judgeRoom c cH u cX known).2.1)=false:=k4
 exact cv (L':=[(c3,O [I 4,.func (.func 60) #[] #[Q b6,Q b8,Q b14,Q b10,Q b11,Q b12]] 126),(b15,O [I 1,.func (.func 54) #[] #[Q b14,Q b7],I 2,.func (.func 56) #[] #[Q b14,Q b7],I 3,.func (.func 58) #[] #[Q b14,Q b12],I 4,.func (.func 60) #[] #[Q b6,Q b8,Q b14,Q b10,Q b11,Q b12]] 126),(b13,O [I 0] 37),(b12,verO 0 (-1) vb (askJ c).1.length vc wb (askAll c).length wc)]) (by rw[k4];rfl) (qT 3 U (jO (v':=I 4) U U (qO 2 U (Bu (aX (.cons _ (List.Sublist.refl _)) (sr (jO (v':=.bool false) U U (qO 6 U (kl Cm U (cM 2 ty3 U U U U U U (qO 3 U (cI 2 ty36 U U U (aL 2 ty36 U U U U U U (cM 1 ty37 U U U U U U (aJ (aX (.cons _ (List.Sublist.refl _)) (ret h9 ⟨0,-1,(askJ c).1,askAll c⟩ vb vc wb wc [] _ _ (by unfold judgeC;rw[k1,k2,k3,k4];rfl) sv sw_z U U)))))))))))))))))
theorem ph(h:HF)(a:List Int)(RK:Option Addr)(RJ:Nat)(jh:List Int)(GG:Option Addr)(GF:Nat)(ha:SlC kB h RK RJ a)(vO:SlC kB h GG GF jh):Ret prog 18 [.slice RK a.length RJ,.slice GG jh.length GF] h (.bool (fg a jh)):=by
 refine sT func18 U ntmps18 U λX hM hX hF=>?_
 have hs0:fg a jh=fg a jh:=rfl
 refine qK 13 [] U (ae hs0 U (λc1 hs1=>?_) (λc1 hs2=>?_))
 .exact sr (an (nretP [.bool false] (cs hs1)))
 refine qT 6 U ?_
 refine lp0 a (λi=>[(0,.slice RK a.length RJ),(1,.slice GG jh.length GF),(5,I (i:Int))]) ([]) (λs1 i=>(fg.L1 jh (fg.K1)) s1 i) ha.1.1 hs2 ?_ ?_ ?_
 .rintro i1 ft hs4 e
  exact sr (an (nretP [.bool true] (cs hs4)))
 .rintro i1 y1 rz1 hd1 df aS dZ gy hs6 hx1 ag1 e
  refine qK 6 [] U (tO df U (qO 6 U (eT ([]) mixed kr jn (λeo _=>qA [0,1] U (eX 2 (enc:=λy=>[I y]) eo jn ei ej ty3 ha.1 (nthZ aS) (fH aS) U U U U kr (λq3 A3=>tf 3 U U (rh ty3 A3 U) (qA [4,5] U ?_)))))))
  have ho2:0<=((i1:Int):Int)/\((i1:Int):Int)<((jh).length:Int):=ob
  refine eX 6 (enc:=λy=>[I y]) eo jn ei ej ty3 vO.1 ho2 (dh ho2) U U U U kr (λq4 A4=>tf 7 U U (rh ty3 A4 U) (qA [8] U (aQ kr (ae hs6 U (λc3 hs7=>?_) (λc3 hs8=>?_)))))
  .exact sr (an (nretP [.bool false] (cs hs7)))
  exact aI (qT 3 U (oi i1 U (an (ag1 hs8))))
 rintro i1 hd1 gu hx e
 exact qK 6 [] U (fO gu U (qO 3 U (hx _ rd)))
theorem FN(h:HF)   : jv prog 122 [] h (λv h'=>∃(rr0:fd),v=.agg (xE (cG) rr0).toArray/\vP h' (cG) rr0):=by
 refine cZ func122 U ntmps122 U λX hM hX=>?_
 have hs0:cG=cG:=rfl
 refine sr (aT zc64 (λb1=>qO 3 U (aB (fV (cells:=[I 1,I 0,I 0,.string (⟨#[100,105,114,101,99,116,111,114]⟩:ByteArray),.slice none 0 0]) (places:=[(0,1),(1,1),(2,1),(3,1),(4,1)]) underlying62 zc62 kr kr (aT zc62 (λb2=>aL 0 ty62 U U U U U U (qO 3 U (aB (bB (cells:=[.string (⟨#[99,111,110,116,114,97,99,116]⟩:ByteArray)]) wp ty9 zc9 U U kr (λb3=>aB (bB (cells:=[.string (⟨#[100,105,114,101,99,116,111,114]⟩:ByteArray)]) wp ty9 zc9 U U kr (λb4=>cI 2 ty62 U U U (aB (fV (cells:=[.string (⟨#[99,111,110,116,114,97,99,116]⟩:ByteArray),I 0,I 3,I 1,I 0,I 0,.string (⟨#[100,105,114,101,99,116,111,114]⟩:ByteArray),.slice none 0 0]) (places:=[(0,1),(1,1),(2,1),(3,5)]) underlying79 zc79 kr kr (aB (bB (cells:=[.string (⟨#[99,111,110,116,114,97,99,116]⟩:ByteArray),I 0,I 3,I 1,I 0,I 0,.string (⟨#[100,105,114,101,99,116,111,114]⟩:ByteArray),.slice none 0 0]) wL ty79 zc79 U U kr (λb5=>cI 3 ty62 U U U (aB (fV (cells:=[.string (⟨#[98,111,97,114,100]⟩:ByteArray),.slice (some ⟨b3,0,none⟩) 1 1,.slice (some ⟨b4,0,none⟩) 1 1,.slice (some ⟨b5,0,none⟩) 1 1,I 1,I 0,I 0,.string (⟨#[100,105,114,101,99,116,111,114]⟩:ByteArray),.slice none 0 0,I 2]) (places:=[(0,1),(1,1),(2,1),(3,1),(4,5),(9,1)]) Mx zc64 kr kr (aL 4 ty64 U U U U U U (aJ (eW 2 U hM (λh1 hle1 hb1=>?_)))))))))))))))))))))))
 have sl1:SlC Rp.str h1 (some ⟨b3,0,none⟩) 1 ([(⟨#[99,111,110,116,114,97,99,116]⟩:ByteArray)]):=bI.slB0 (T:=9) (fz:=(0,0)) ((show bI Rp.str h [.string (⟨#[99,111,110,116,114,97,99,116]⟩:ByteArray)] ([(⟨#[99,111,110,116,114,97,99,116]⟩:ByteArray)])from⟨[.string (⟨#[99,111,110,116,114,97,99,116]⟩:ByteArray)],[],rfl,rfl,rfl,rfl⟩).mono Rp.iC hle1) hb1
 refine eW 1 U hM (λh2 hle2 hb2=>?_)
 have sl2:SlC Rp.str h2 (some ⟨b4,0,none⟩) 1 ([(⟨#[100,105,114,101,99,116,111,114]⟩:ByteArray)]):=bI.slB0 (T:=9) (fz:=(0,0)) ((show bI Rp.str h1 [.string (⟨#[100,105,114,101,99,116,111,114]⟩:ByteArray)] ([(⟨#[100,105,114,101,99,116,111,114]⟩:ByteArray)])from⟨[.string (⟨#[100,105,114,101,99,116,111,114]⟩:ByteArray)],[],rfl,rfl,rfl,rfl⟩).mono Rp.iC hle2) hb2
 refine eW 0 U hM (λh3 hle3 hb3=>?_)
 have sl3:SlC Rule.rp h3 (some ⟨b5,0,none⟩) 1 ([(aBi (⟨#[99,111,110,116,114,97,99,116]⟩:ByteArray) 0 3 (xG 1 0 0 (⟨#[100,105,114,101,99,116,111,114]⟩:ByteArray) ([])))]):=bI.slB0 (T:=79) (fz:=(0,0)) ((show bI Rule.rp h2 [.string (⟨#[99,111,110,116,114,97,99,116]⟩:ByteArray),I 0,I 3,I 1,I 0,I 0,.string (⟨#[100,105,114,101,99,116,111,114]⟩:ByteArray),.slice none 0 0] ([(aBi (⟨#[99,111,110,116,114,97,99,116]⟩:ByteArray) 0 3 (xG 1 0 0 (⟨#[100,105,114,101,99,116,111,114]⟩:ByteArray) ([])))])from⟨[.string (⟨#[99,111,110,116,114,97,99,116]⟩:ByteArray),I 0,I 3,I 1,I 0,I 0,.string (⟨#[100,105,114,101,99,116,111,114]⟩:ByteArray),.slice none 0 0],[],rfl,rfl,⟨(CJ.mk (de.mk none 0)),rfl,((show Rule.ok h (aBi (⟨#[99,111,110,116,114,97,99,116]⟩:ByteArray) 0 3 (xG 1 0 0 (⟨#[100,105,114,101,99,116,111,114]⟩:ByteArray) ([]))) (CJ.mk (de.mk none 0))from⟨(show jF h (xG 1 0 0 (⟨#[100,105,114,101,99,116,111,114]⟩:ByteArray) ([])) (de.mk none 0)from aAu qF)⟩).mono (hle1.t hle2))⟩,rfl⟩).mono Rule.ai hle3) hb3
 have hs1:cG=(kN (⟨#[98,111,97,114,100]⟩:ByteArray) ([(⟨#[99,111,110,116,114,97,99,116]⟩:ByteArray)]) ([(⟨#[100,105,114,101,99,116,111,114]⟩:ByteArray)]) ([(aBi (⟨#[99,111,110,116,114,97,99,116]⟩:ByteArray) 0 3 (xG 1 0 0 (⟨#[100,105,114,101,99,116,111,114]⟩:ByteArray) ([])))]) (xG 1 0 0 (⟨#[100,105,114,101,99,116,111,114]⟩:ByteArray) ([])) 2):=hs0
 exact kX [.agg (jB [.string (⟨#[98,111,97,114,100]⟩:ByteArray),.slice (some ⟨b3,0,none⟩) 1 1,.slice (some ⟨b4,0,none⟩) 1 1,.slice (some ⟨b5,0,none⟩) 1 1,I 1,I 0,I 0,.string (⟨#[100,105,114,101,99,116,111,114]⟩:ByteArray),.slice none 0 0,I 2])] func122 U ⟨⟨1,_,_,_,_,U,U,.inl ⟨ty64,U⟩⟩,trivial⟩ ⟨(fd.mk (some ⟨b3,0,none⟩) 1 (some ⟨b4,0,none⟩) 1 (some ⟨b5,0,none⟩) 1 (de.mk none 0)),congrArg (λr:Policy=>(.agg (xE r (fd.mk (some ⟨b3,0,none⟩) 1 (some ⟨b4,0,none⟩) 1 (some ⟨b5,0,none⟩) 1 (de.mk none 0))).toArray:Value)) hs1.symm,(by rw[hs1];exact(show vP h3 (kN (⟨#[98,111,97,114,100]⟩:ByteArray) ([(⟨#[99,111,110,116,114,97,99,116]⟩:ByteArray)]) ([(⟨#[100,105,114,101,99,116,111,114]⟩:ByteArray)]) ([(aBi (⟨#[99,111,110,116,114,97,99,116]⟩:ByteArray) 0 3 (xG 1 0 0 (⟨#[100,105,114,101,99,116,111,114]⟩:ByteArray) ([])))]) (xG 1 0 0 (⟨#[100,105,114,101,99,116,111,114]⟩:ByteArray) ([])) 2) (fd.mk (some ⟨b3,0,none⟩) 1 (some ⟨b4,0,none⟩) 1 (some ⟨b5,0,none⟩) 1 (de.mk none 0))from⟨(sl1.mono Rp.iC (hle2.t hle3)),(sl2.mono Rp.iC hle3),sl3,(show jF h3 (xG 1 0 0 (⟨#[100,105,114,101,99,116,111,114]⟩:ByteArray) ([])) (de.mk none 0)from aAu qF)⟩))⟩
theorem gR(h:HF):oA prog 47 (jB []) h [] (λr h' B=>∃(bk:Nat)(db:Option Addr)(dc:Nat)(vb:Option Addr)(vc:Nat)(ob_z:Option Addr)(oc:Nat)(ab:Option Addr)(ac:Nat),r=.returned (.agg (jB [.slice (some ⟨bk,0,none⟩) 1 1,.slice db 1 dc,.slice none 0 0,.slice none 0 0,.slice vb 1 vc,.slice ob_z 1 oc,.slice ab 1 ac]))/\B=[(bk,O [I 0,I 0,I 0,I 0,I 2,I 1,.bool false] 89)]/\SlC aAh h' db dc aw.Deputies/\SlC jN h' vb vc aw.Versions/\SlC xS h' ob_z oc aw.Docs/\SlC xL h' ab ac aw.Approvals):=by
 refine cZ func47 U ntmps47 U λX hM hX=>?_
 have hs0:aw=aw:=rfl
 refine sr (aT zc30 (λb1=>qO 3 U (aB (fV (cells:=[I 0,I 0,I 0,I 0,I 2,I 1,.bool false]) (places:=[(0,1),(1,1),(2,1),(3,1),(4,1),(5,1),(6,1)]) underlying89 zc89 kr kr (aB (bB (cells:=[I 0,I 0,I 0,I 0,I 2,I 1,.bool false]) Ac ty89 zc89 U U kr (λb2=>aB (cT call122 (FN h) U (λv1 h1 hle1 hp1=>?_)))))))))
 obtain⟨rr1,rfl,ok1⟩:=hp1
 refine aB (fV (cells:=[I 1,I 0,I 0,.string cG.Name,.slice rr1.i5 cG.Kinds.length rr1.iZ,.slice rr1.gr cG.Offices.length rr1.gq,.slice rr1.m8 cG.Rules.length rr1.m7,I cG.Change.Kind,I cG.Change.N,I cG.Change.No,.string cG.Change.Name,.slice rr1.Change.mt cG.Change.L.length rr1.Change.mu,I cG.Mode]) (places:=[(0,1),(1,1),(2,1),(3,10)]) underlying105 zc105 kr kr (aB (bB (cells:=[I 1,I 0,I 0,.string cG.Name,.slice rr1.i5 cG.Kinds.length rr1.iZ,.slice rr1.gr cG.Offices.length rr1.gq,.slice rr1.m8 cG.Rules.length rr1.m7,I cG.Change.Kind,I cG.Change.N,I cG.Change.No,.string cG.Change.Name,.slice rr1.Change.mt cG.Change.L.length rr1.Change.mu,I cG.Mode]) wK ty105 zc105 U U kr (λb3=>aB (fV (cells:=[.slice (some ⟨b2,0,none⟩) 1 1,.slice none 0 0,.slice none 0 0,.slice none 0 0,.slice (some ⟨b3,0,none⟩) 1 1,.slice none 0 0,.slice none 0 0]) (places:=[(0,1),(1,1),(2,1),(3,1),(4,1),(5,1),(6,1)]) OG zc30 kr kr (aT zc30 (λb4=>aL 0 ty30 U U U U U U (qO 3 U (aB (fV (cells:=[I 0,I 0,I 0,I 40,I 2,I 5,I 0,I (-1),I 100,.bool false]) (places:=[(0,1),(1,1),(2,1),(3,1),(4,1),(5,1),(6,1),(7,1),(8,1),(9,1)]) underlying93 zc93 kr kr (aB (bB (cells:=[I 0,I 0,I 0,I 40,I 2,I 5,I 0,I (-1),I 100,.bool false]) tB ty93 zc93 U U kr (λb5=>qL 1 [] U (cM 1 ty23 U U U U U U (qO 3 U (aB (bB (cells:=[I 9]) ej ty3 zc3 U U kr (λb6=>aB (fV (cells:=[I 7,I 1,I 0,I 60,I 0,I 50,.slice (some ⟨b6,0,none⟩) 1 1,.slice none 0 0,.slice none 0 0,Y 0,Y 0,Y 0,Y 0,Y 0,Y 0,Y 0,Y 0,Y 0,Y 0,Y 0,Y 0,Y 0,Y 0,Y 0,Y 0,Y 0,Y 0,Y 0,Y 0,Y 0,Y 0,Y 0,Y 0,Y 0,Y 0,Y 0,Y 0,Y 0,Y 0,Y 0,Y 0]) (places:=[(0,1),(1,1),(2,1),(3,1),(4,1),(5,1),(6,1),(7,1),(8,1),(9,32)]) underlying51 zc51 kr kr (aU 0 U hM (λh2 hle2 hb1=>?_)))))))))))))))))))))
 have sl1:SlC kB h2 (some ⟨b6,0,none⟩) 1 ([9]):=bI.slB0 (T:=3) (fz:=(0,0)) ((show bI kB h1 [I 9] ([9])from⟨[I 9],[],rfl,rfl,rfl,rfl⟩).mono jH hle2) hb1
 refine aB (bB (cells:=[I 7,I 1,I 0,I 60,I 0,I 50,.slice (some ⟨b6,0,none⟩) 1 1,.slice none 0 0,.slice none 0 0,Y 0,Y 0,Y 0,Y 0,Y 0,Y 0,Y 0,Y 0,Y 0,Y 0,Y 0,Y 0,Y 0,Y 0,Y 0,Y 0,Y 0,Y 0,Y 0,Y 0,Y 0,Y 0,Y 0,Y 0,Y 0,Y 0,Y 0,Y 0,Y 0,Y 0,Y 0,Y 0]) oq ty51 zc51 U U kr (λb7=>qL 1 [] U (cM 2 ty27 U U U U U U (qO 3 U (aB (fV (cells:=[I 3,I 4,I 6,I 7,I 5,I 2,I 0,.bool false]) (places:=[(0,1),(1,1),(2,1),(3,1),(4,1),(5,1),(6,1),(7,1)]) underlying81 zc81 kr kr (aB (bB (cells:=[I 3,I 4,I 6,I 7,I 5,I 2,I 0,.bool false]) wJ ty81 zc81 U U kr (λb8=>qL 1 [] U (cM 3 ty28 U U U U U U (qO 3 U (cI 3 ty30 U U U (aL 6 ty30 U U U U U U (aJ ?_))))))))))))))
 have hle3:=vQ h2
 refine eW 2 U hM (λh4 hle4 hb3=>?_)
 have sl3:SlC aAh h4 (some ⟨b5,0,none⟩) 1 ([(aBe 0 0 0 40 2 5 0 (-1) 100 false)]):=bI.slB0 (T:=93) (fz:=(0,0)) ((show bI aAh h2 [I 0,I 0,I 0,I 40,I 2,I 5,I 0,I (-1),I 100,.bool false] ([(aBe 0 0 0 40 2 5 0 (-1) 100 false)])from⟨[I 0,I 0,I 0,I 40,I 2,I 5,I 0,I (-1),I 100,.bool false],[],rfl,rfl,rfl,rfl⟩).mono qS hle4) hb3
 refine eW 3 U hM (λh5 hle5 hb4=>?_)
 have sl4:SlC jN h5 (some ⟨b3,0,none⟩) 1 ([(aA1 1 0 0 cG)]):=bI.slB0 (T:=105) (fz:=(0,0)) ((show bI jN h4 [I 1,I 0,I 0,.string cG.Name,.slice rr1.i5 cG.Kinds.length rr1.iZ,.slice rr1.gr cG.Offices.length rr1.gq,.slice rr1.m8 cG.Rules.length rr1.m7,I cG.Change.Kind,I cG.Change.N,I cG.Change.No,.string cG.Change.Name,.slice rr1.Change.mt cG.Change.L.length rr1.Change.mu,I cG.Mode] ([(aA1 1 0 0 cG)])from⟨[I 1,I 0,I 0,.string cG.Name,.slice rr1.i5 cG.Kinds.length rr1.iZ,.slice rr1.gr cG.Offices.length rr1.gq,.slice rr1.m8 cG.Rules.length rr1.m7,I cG.Change.Kind,I cG.Change.N,I cG.Change.No,.string cG.Change.Name,.slice rr1.Change.mt cG.Change.L.length rr1.Change.mu,I cG.Mode],[],rfl,rfl,⟨(nO.mk rr1),rfl,((show Version.ok h1 (aA1 1 0 0 cG) (nO.mk rr1)from⟨ok1⟩).mono ((hle2.t hle3).t hle4))⟩,rfl⟩).mono jM hle5) hb4
 refine eW 1 U hM (λh6 hle6 hb5=>?_)
 have sl5:SlC xS h6 (some ⟨b7,0,none⟩) 1 ([(Document.mk 7 1 0 60 0 50 ([9]) ([]) ([]) (λ_=>0))]):=bI.slB0 (T:=51) (fz:=(0,0)) ((show bI xS h5 [I 7,I 1,I 0,I 60,I 0,I 50,.slice (some ⟨b6,0,none⟩) 1 1,.slice none 0 0,.slice none 0 0,Y 0,Y 0,Y 0,Y 0,Y 0,Y 0,Y 0,Y 0,Y 0,Y 0,Y 0,Y 0,Y 0,Y 0,Y 0,Y 0,Y 0,Y 0,Y 0,Y 0,Y 0,Y 0,Y 0,Y 0,Y 0,Y 0,Y 0,Y 0,Y 0,Y 0,Y 0,Y 0] ([(Document.mk 7 1 0 60 0 50 ([9]) ([]) ([]) (λ_=>0))])from⟨[I 7,I 1,I 0,I 60,I 0,I 50,.slice (some ⟨b6,0,none⟩) 1 1,.slice none 0 0,.slice none 0 0,Y 0,Y 0,Y 0,Y 0,Y 0,Y 0,Y 0,Y 0,Y 0,Y 0,Y 0,Y 0,Y 0,Y 0,Y 0,Y 0,Y 0,Y 0,Y 0,Y 0,Y 0,Y 0,Y 0,Y 0,Y 0,Y 0,Y 0,Y 0,Y 0,Y 0,Y 0,Y 0],[],rfl,rfl,⟨(ls.mk (some ⟨b6,0,none⟩) 1 none 0 none 0),rfl,((show aAI h2 (Document.mk 7 1 0 60 0 50 ([9]) ([]) ([]) (λ_=>0)) (ls.mk (some ⟨b6,0,none⟩) 1 none 0 none 0)from⟨sl1,qF,qF⟩).mono ((hle3.t hle4).t hle5))⟩,rfl⟩).mono vH hle6) hb5
 refine eW 0 U hM (λh7 hle7 hb6=>?_)
 have sl6:SlC xL h7 (some ⟨b8,0,none⟩) 1 ([(xW 3 4 6 7 5 2 0 false)]):=bI.slB0 (T:=81) (fz:=(0,0)) ((show bI xL h6 [I 3,I 4,I 6,I 7,I 5,I 2,I 0,.bool false] ([(xW 3 4 6 7 5 2 0 false)])from⟨[I 3,I 4,I 6,I 7,I 5,I 2,I 0,.bool false],[],rfl,rfl,rfl,rfl⟩).mono zH hle7) hb6
 exact qe (v:=.agg (jB [.slice (some ⟨b2,0,none⟩) 1 1,.slice (some ⟨b5,0,none⟩) 1 1,.slice none 0 0,.slice none 0 0,.slice (some ⟨b3,0,none⟩) 1 1,.slice (some ⟨b7,0,none⟩) 1 1,.slice (some ⟨b8,0,none⟩) 1 1])) (h2:=h7) (B:=[(b2,O [I 0,I 0,I 0,I 0,I 2,I 1,.bool false] 89)]) func47 (λa ha w hw=>mV (rs:=[.cell 0 30]) (vs:=[.agg (jB [.slice (some ⟨b2,0,none⟩) 1 1,.slice (some ⟨b5,0,none⟩) 1 1,.slice none 0 0,.slice none 0 0,.slice (some ⟨b3,0,none⟩) 1 1,.slice (some ⟨b7,0,none⟩) 1 1,.slice (some ⟨b8,0,none⟩) 1 1])]) U ⟨⟨2,_,_,_,_,U,U,.inl ⟨ty30,U⟩⟩,trivial⟩ a ha w hw) (λw hw=>hw.sub (.cons _ (.cons_cons _ (.cons _ .slnil)))) ⟨b2,some ⟨b5,0,none⟩,1,some ⟨b3,0,none⟩,1,some ⟨b7,0,none⟩,1,some ⟨b8,0,none⟩,1,U,U,(sl3.mono qS ((hle5.t hle6).t hle7)),(sl4.mono jM (hle6.t hle7)),(sl5.mono vH hle7),sl6⟩
theorem nG(h:HF)(cH:Register)(gB:dK)(iw:Int)(state:Int)(kx:vL h cH gB)(hsm:smR cH)(hln:cH.Docs.length<20)(hk:Kinds h):Ret prog 48 [.agg (qQ cH gB).toArray,I iw,I state] h (.bool (FM cH iw state)):=by
 refine sT func48 U ntmps48 U λX hM hX hF=>?_
 have hs0:FM cH iw state=FM cH iw state:=rfl
 refine sr (cz (λb1=>qO 4 U (cI 0 ty30 U U U (aB (bB (cells:=[I (-1)]) ej ty3 zc3 U U kr (λb2=>av (aU 0 U hM (λh1 hle1 hb1=>?_))))))))
 have sl1:SlC kB h1 (some ⟨b2,0,none⟩) 1 ([(-1)]):=bI.slB0 (T:=3) (fz:=(0,0)) ((show bI kB h [I (-1)] ([(-1)])from⟨[I (-1)],[],rfl,rfl,rfl,rfl⟩).mono jH hle1) hb1
 refine aB (cT HB (lR _ _ _ _ _ _ ([]) none 0 7 iw 100 (kx.mono hle1) sl1 qF ob ob (hk.mono hle1)) U (λv1 h2 hle2 hp1=>?_))
 obtain⟨rr1,rfl,ok1⟩:=hp1
 refine qO 3 U (aT zc36 (λb3=>aL 0 ty36 U U U U U U (qO 7 U (bA 5 [18,19,20,21,22,23] 18 23 (((cU cH ([(-1)]) ([]) 7 iw 100).1).State==state) U (λc1 hk1=>?_) (λe=>?_)))))
 .exact qL 5 [0] U (hk1 _ U)
 exact an (nretP [.bool (((cU cH ([(-1)]) ([]) 7 iw 100).2==0)&&(((cU cH ([(-1)]) ([]) 7 iw 100).1).State==state))] (cs hs0))
theorem Hh(h:HF)(hk:Kinds h):Ret prog 9 [] h (.bool (sR)):=by
 refine sT func9 U ntmps9 U λX hM hX hF=>?_
 have hs0:sR=sR:=rfl
 refine qT 6 U (aB (fV (cells:=[.slice none 0 0,.slice none 0 0,.slice none 0 0,.slice none 0 0,.slice none 0 0,.slice none 0 0,.slice none 0 0]) (places:=[(0,1),(1,1),(2,1),(3,1),(4,1),(5,1),(6,1)]) OG zc30 kr kr (aB (cT HB (lR h (jG ([]) ([]) ([]) ([]) ([]) ([]) ([])) (dK.mk none 0 none 0 none 0 none 0 none 0 none 0 none 0) ([]) none 0 ([]) none 0 0 0 0 (show vL h (jG ([]) ([]) ([]) ([]) ([]) ([]) ([])) (dK.mk none 0 none 0 none 0 none 0 none 0 none 0 none 0)from⟨qF,qF,qF,qF,qF,qF,qF⟩) qF qF (by first|exact mR|exact kW (by decide) (by decide) (by decide)) (by decide) hk) U (λv1 h1 hle1 hp1=>?_)))))
 rw[show(cU (jG ([]) ([]) ([]) ([]) ([]) ([]) ([])) ([]) ([]) 0 0 0)=((fJ.mk 0 0 [] []),1)from by kernel_rfl]at hp1
 obtain⟨rr1,rfl,ok1⟩:=hp1
 refine qO 3 U (aT zc36 (λb1=>aL 0 ty36 U U U U U U (qO 4 U ?_)))
 let z3:Nat×Obj:=(b1,O [I 0,I 0,.slice rr1.lV 0 rr1.lU,.slice rr1.In 0 rr1.Im] 36)
 refine aB (ng (A:=[]) (Fr:=[z3]) wo rfl (gR h1) rfl (λv2 h2 B1 hle2 hp2=>?_) (λ_ _ _ _ hR_=>by obtain⟨_,_,_,_,_,_,_,_,_,hr_,_⟩:=hR_;cases hr_))
 obtain⟨b2,q1,q2,q3,q4,q5,q6,q7,q8,hr_,rfl,sl1,sl2,sl3,sl4⟩:=hp2
 cases hr_
 refine aU 0 U hM (λh3 hle3 hb1=>?_)
 have sl5:SlC kG h3 (some ⟨b2,0,none⟩) 1 ([(jC 0 0 0 0 2 1 false)]):=bI.slB0 (T:=89) (fz:=(0,0)) ((show bI kG h2 [I 0,I 0,I 0,I 0,I 2,I 1,.bool false] ([(jC 0 0 0 0 2 1 false)])from⟨[I 0,I 0,I 0,I 0,I 2,I 1,.bool false],[],rfl,rfl,rfl,rfl⟩).mono kP hle3) hb1
 refine aB (cT call16 (wz h3 (jG ([(jC 0 0 0 0 2 1 false)]) aw.Deputies ([]) ([]) aw.Versions aw.Docs aw.Approvals) (dK.mk (some ⟨b2,0,none⟩) 1 q1 q2 none 0 none 0 q3 q4 q5 q6 q7 q8) 7 1 10 100 (show vL h3 (jG ([(jC 0 0 0 0 2 1 false)]) aw.Deputies ([]) ([]) aw.Versions aw.Docs aw.Approvals) (dK.mk (some ⟨b2,0,none⟩) 1 q1 q2 none 0 none 0 q3 q4 q5 q6 q7 q8)from⟨sl5,(sl1.mono qS hle3),qF,qF,(sl2.mono jM hle3),(sl3.mono vH hle3),(sl4.mono zH hle3)⟩) (by first|exact mR|exact kW (by decide) (by decide) (by decide)) (⟨_,jD.2 U,U⟩) (hk.mono ((hle1.t hle2).t hle3))) U (λv3 h4 hle4 hp3=>?_))
 rw[show(iN (jG ([(jC 0 0 0 0 2 1 false)]) aw.Deputies ([]) ([]) aw.Versions aw.Docs aw.Approvals) 7 1 10 100)=([2],0)from by kernel_rfl]at hp3
 obtain⟨rb1,rc1,rfl,sl6⟩:=hp3
 refine qO 8 rfl (aB (ng (A:=[]) (Fr:=[z3]) wo rfl (gR h4) rfl (λv4 h5 B2 hle5 hp4=>?_) (λ_ _ _ _ hR_=>by obtain⟨_,_,_,_,_,_,_,_,_,hr_,_⟩:=hR_;cases hr_)))
 obtain⟨b3,q9,q10,q11,q12,q13,q14,q15,q16,hr_,rfl,sl7,sl8,sl9,sl10⟩:=hp4
 cases hr_
 refine aU 0 U hM (λh6 hle6 hb2=>?_)
 have sl11:SlC kG h6 (some ⟨b3,0,none⟩) 1 ([(jC 0 0 0 0 2 1 false)]):=bI.slB0 (T:=89) (fz:=(0,0)) ((show bI kG h5 [I 0,I 0,I 0,I 0,I 2,I 1,.bool false] ([(jC 0 0 0 0 2 1 false)])from⟨[I 0,I 0,I 0,I 0,I 2,I 1,.bool false],[],rfl,rfl,rfl,rfl⟩).mono kP hle6) hb2
 refine aB (cT call16 (wz h6 (jG ([(jC 0 0 0 0 2 1 false)]) aw.Deputies ([]) ([]) aw.Versions aw.Docs aw.Approvals) (dK.mk (some ⟨b3,0,none⟩) 1 q9 q10 none 0 none 0 q11 q12 q13 q14 q15 q16) 7 1 10 5 (show vL h6 (jG ([(jC 0 0 0 0 2 1 false)]) aw.Deputies ([]) ([]) aw.Versions aw.Docs aw.Approvals) (dK.mk (some ⟨b3,0,none⟩) 1 q9 q10 none 0 none 0 q11 q12 q13 q14 q15 q16)from⟨sl11,(sl7.mono qS hle6),qF,qF,(sl8.mono jM hle6),(sl9.mono vH hle6),(sl10.mono zH hle6)⟩) (by first|exact mR|exact kW (by decide) (by decide) (by decide)) (⟨_,jD.2 U,U⟩) (hk.mono (((((hle1.t hle2).t hle3).t hle4).t hle5).t hle6))) U (λv5 h7 hle7 hp5=>?_))
 rw[show(iN (jG ([(jC 0 0 0 0 2 1 false)]) aw.Deputies ([]) ([]) aw.Versions aw.Docs aw.Approvals) 7 1 10 5)=([],0)from by kernel_rfl]at hp5
 obtain⟨rb2,rc2,rfl,sl12⟩:=hp5
 refine qO 8 rfl (aB (ng (A:=[]) (Fr:=[z3]) wo rfl (gR h7) rfl (λv6 h8 B3 hle8 hp6=>?_) (λ_ _ _ _ hR_=>by obtain⟨_,_,_,_,_,_,_,_,_,hr_,_⟩:=hR_;cases hr_)))
 obtain⟨b4,q17,q18,q19,q20,q21,q22,q23,q24,hr_,rfl,sl13,sl14,sl15,sl16⟩:=hp6
 cases hr_
 refine aU 0 U hM (λh9 hle9 hb3=>?_)
 have sl17:SlC kG h9 (some ⟨b4,0,none⟩) 1 ([(jC 0 0 0 0 2 1 false)]):=bI.slB0 (T:=89) (fz:=(0,0)) ((show bI kG h8 [I 0,I 0,I 0,I 0,I 2,I 1,.bool false] ([(jC 0 0 0 0 2 1 false)])from⟨[I 0,I 0,I 0,I 0,I 2,I 1,.bool false],[],rfl,rfl,rfl,rfl⟩).mono kP hle9) hb3
 refine aB (cT HB (lR h9 (jG ([(jC 0 0 0 0 2 1 false)]) aw.Deputies ([]) ([]) aw.Versions aw.Docs aw.Approvals) (dK.mk (some ⟨b4,0,none⟩) 1 q17 q18 none 0 none 0 q19 q20 q21 q22 q23 q24) ([]) none 0 ([]) none 0 7 10 100 (show vL h9 (jG ([(jC 0 0 0 0 2 1 false)]) aw.Deputies ([]) ([]) aw.Versions aw.Docs aw.Approvals) (dK.mk (some ⟨b4,0,none⟩) 1 q17 q18 none 0 none 0 q19 q20 q21 q22 q23 q24)from⟨sl17,(sl13.mono qS hle9),qF,qF,(sl14.mono jM hle9),(sl15.mono vH hle9),(sl16.mono zH hle9)⟩) qF qF (by first|exact mR|exact kW (by decide) (by decide) (by decide)) (by decide) (hk.mono ((((((((hle1.t hle2).t hle3).t hle4).t hle5).t hle6).t hle7).t hle8).t hle9))) U (λv7 h10 hle10 hp7=>?_))
 rw[show(cU (jG ([(jC 0 0 0 0 2 1 false)]) aw.Deputies ([]) ([]) aw.Versions aw.Docs aw.Approvals) ([]) ([]) 7 10 100)=((fJ.mk 0 0 [] []),1)from by kernel_rfl]at hp7
 obtain⟨rr2,rfl,ok2⟩:=hp7
 refine qO 3 U (aT zc36 (λb5=>aL 0 ty36 U U U U U U (qO 4 U ?_)))
 let z5:Nat×Obj:=(b5,O [I 0,I 0,.slice rr2.lV 0 rr2.lU,.slice rr2.In 0 rr2.Im] 36)
 refine aB (ng (A:=[]) (Fr:=[z5,z3]) wo rfl (gR h10) rfl (λv8 h11 B4 hle11 hp8=>?_) (λ_ _ _ _ hR_=>by obtain⟨_,_,_,_,_,_,_,_,_,hr_,_⟩:=hR_;cases hr_))
 obtain⟨b6,q25,q26,q27,q28,q29,q30,q31,q32,hr_,rfl,sl18,sl19,sl20,sl21⟩:=hp8
 cases hr_
 refine aT zc30 (λb7=>aL 0 ty30 U U U U U U (qL 5 [0] U (aB (fK (DA (i:=0) Ac ty89 U U ob) (qL 1 [] U (cM 1 ty3 U U U U U U (qO 3 U ?_)))))))
 let z1:Nat×Obj:=(b7,O [.slice (some ⟨b6,0,none⟩) 1 1,.slice q25 1 q26,.slice none 0 0,.slice none 0 0,.slice q27 1 q28,.slice q29 1 q30,.slice q31 1 q32] 30)
 refine aB (ng (A:=[]) (Fr:=[z1,(b6,O [I 0,I 0,I 0,I 0,I 2,I 0,.bool false] 89),z5,z3]) wo rfl (gR h11) rfl (λv9 h12 B5 hle12 hp9=>?_) (λ_ _ _ _ hR_=>by obtain⟨_,_,_,_,_,_,_,_,_,hr_,_⟩:=hR_;cases hr_))
 obtain⟨b8,q33,q34,q35,q36,q37,q38,q39,q40,hr_,rfl,sl22,sl23,sl24,sl25⟩:=hp9
 cases hr_
 refine aT zc30 (λb9=>aL 0 ty30 U U U U U U (qO 3 U (aB (fV (cells:=[I 0,I 0,I 0,I 5,I 9,.bool false,.bool false]) (places:=[(0,1),(1,1),(2,1),(3,1),(4,1),(5,1),(6,1)]) underlying97 zc97 kr kr (aB (bB (cells:=[I 0,I 0,I 0,I 5,I 9,.bool false,.bool false]) sC ty97 zc97 U U kr (λb10=>qL 1 [] U (cM 1 ty24 U U U U U U (qO 4 U (aB (fV (cells:=[.slice none 0 0,.slice none 0 0,.slice none 0 0,.slice none 0 0,.slice none 0 0,.slice none 0 0,.slice none 0 0]) (places:=[(0,1),(1,1),(2,1),(3,1),(4,1),(5,1),(6,1)]) OG zc30 kr kr (aj (v:=I 0) Ok (us (pu h12 (jG ([]) ([]) ([]) ([]) ([]) ([]) ([])) (dK.mk none 0 none 0 none 0 none 0 none 0 none 0 none 0) (show vL h12 (jG ([]) ([]) ([]) ([]) ([]) ([]) ([])) (dK.mk none 0 none 0 none 0 none 0 none 0 none 0 none 0)from⟨qF,qF,qF,qF,qF,qF,qF⟩) (by first|exact mR|exact kW (by decide) (by decide) (by decide)) (hk.mono (((((((((((hle1.t hle2).t hle3).t hle4).t hle5).t hle6).t hle7).t hle8).t hle9).t hle10).t hle11).t hle12))) kr) U (qO 2 U (cI 3 ty30 U U U (aU 4 U hM (λh13 hle13 hb4=>?_))))))))))))))))
 have sl26:SlC kG h13 (some ⟨b6,0,none⟩) 1 ([(jC 0 0 0 0 2 0 false)]):=bI.slB0 (T:=89) (fz:=(0,0)) ((show bI kG h12 [I 0,I 0,I 0,I 0,I 2,I 0,.bool false] ([(jC 0 0 0 0 2 0 false)])from⟨[I 0,I 0,I 0,I 0,I 2,I 0,.bool false],[],rfl,rfl,rfl,rfl⟩).mono kP hle13) hb4
 refine aj (v:=I 300) Ok (us (pu h13 (jG ([(jC 0 0 0 0 2 0 false)]) aw.Deputies ([]) ([]) aw.Versions aw.Docs aw.Approvals) (dK.mk (some ⟨b6,0,none⟩) 1 q25 q26 none 0 none 0 q27 q28 q29 q30 q31 q32) (show vL h13 (jG ([(jC 0 0 0 0 2 0 false)]) aw.Deputies ([]) ([]) aw.Versions aw.Docs aw.Approvals) (dK.mk (some ⟨b6,0,none⟩) 1 q25 q26 none 0 none 0 q27 q28 q29 q30 q31 q32)from⟨sl26,(sl18.mono qS (hle12.t hle13)),qF,qF,(sl19.mono jM (hle12.t hle13)),(sl20.mono vH (hle12.t hle13)),(sl21.mono zH (hle12.t hle13))⟩) (by first|exact mR|exact kW (by decide) (by decide) (by decide)) (hk.mono ((((((((((((hle1.t hle2).t hle3).t hle4).t hle5).t hle6).t hle7).t hle8).t hle9).t hle10).t hle11).t hle12).t hle13))) kr) U (qO 20 U (aB (bB (cells:=[I 2]) ej ty3 zc3 U U kr (λb11=>aU 0 U hM (λh14 hle14 hb5=>?_)))))
 have sl27:SlC kB h14 (some ⟨b11,0,none⟩) 1 ([2]):=bI.slB0 (T:=3) (fz:=(0,0)) ((show bI kB h13 [I 2] ([2])from⟨[I 2],[],rfl,rfl,rfl,rfl⟩).mono jH hle14) hb5
 refine aj (v:=.bool true) call18 (us (ph h14 ([2]) rb1 rc1 ([2]) (some ⟨b11,0,none⟩) 1 (sl6.mono jH (((((((((hle5.t hle6).t hle7).t hle8).t hle9).t hle10).t hle11).t hle12).t hle13).t hle14)) sl27) kr) U (qL 12 [] U ?_)
 let z2:Nat×Obj:=(b9,O [.slice (some ⟨b8,0,none⟩) 1 1,.slice q33 1 q34,.slice (some ⟨b10,0,none⟩) 1 1,.slice none 0 0,.slice q35 1 q36,.slice q37 1 q38,.slice q39 1 q40] 30)
 let z8:Nat×Obj:=(b10,O [I 0,I 0,I 0,I 5,I 9,.bool false,.bool false] 97)
 let z9:Nat×Obj:=(b8,O [I 0,I 0,I 0,I 0,I 2,I 1,.bool false] 89)
 refine aB (ng (A:=[]) (Fr:=[z8,z2,z9,z1,z5,z3]) wo rfl (gR h14) rfl (λv10 h15 B6 hle15 hp10=>?_) (λ_ _ _ _ hR_=>by obtain⟨_,_,_,_,_,_,_,_,_,hr_,_⟩:=hR_;cases hr_))
 obtain⟨b12,q41,q42,q43,q44,q45,q46,q47,q48,hr_,rfl,sl28,sl29,sl30,sl31⟩:=hp10
 cases hr_
 refine aT zc30 (λb13=>aL 0 ty30 U U U U U U (qO 3 U (aB (fV (cells:=[I 8,I 0,I 0,I (-1),I 10,I 1,I 59,.bool false]) (places:=[(0,1),(1,1),(2,1),(3,1),(4,1),(5,1),(6,1),(7,1)]) underlying101 zc101 kr kr (aB (bB (cells:=[I 8,I 0,I 0,I (-1),I 10,I 1,I 59,.bool false]) sA ty101 zc101 U U kr (λb14=>qL 1 [] U (cM 1 ty25 U U U U U U (qO 3 U (cI 1 ty30 U U U (aB (bB (cells:=[I (-1)]) ej ty3 zc3 U U kr (λb15=>aU 3 U hM (λh16 hle16 hb6=>?_))))))))))))))
 have sl32:SlC kG h16 (some ⟨b12,0,none⟩) 1 ([(jC 0 0 0 0 2 1 false)]):=bI.slB0 (T:=89) (fz:=(0,0)) ((show bI kG h15 [I 0,I 0,I 0,I 0,I 2,I 1,.bool false] ([(jC 0 0 0 0 2 1 false)])from⟨[I 0,I 0,I 0,I 0,I 2,I 1,.bool false],[],rfl,rfl,rfl,rfl⟩).mono kP hle16) hb6
 refine aU 1 U hM (λh17 hle17 hb7=>?_)
 have sl33:SlC aAd h17 (some ⟨b14,0,none⟩) 1 ([(aAz 8 0 0 (-1) 10 1 59 false)]):=bI.slB0 (T:=101) (fz:=(0,0)) ((show bI aAd h16 [I 8,I 0,I 0,I (-1),I 10,I 1,I 59,.bool false] ([(aAz 8 0 0 (-1) 10 1 59 false)])from⟨[I 8,I 0,I 0,I (-1),I 10,I 1,I 59,.bool false],[],rfl,rfl,rfl,rfl⟩).mono aBd hle17) hb7
 refine aU 0 U hM (λh18 hle18 hb8=>?_)
 have sl34:SlC kB h18 (some ⟨b15,0,none⟩) 1 ([(-1)]):=bI.slB0 (T:=3) (fz:=(0,0)) ((show bI kB h17 [I (-1)] ([(-1)])from⟨[I (-1)],[],rfl,rfl,rfl,rfl⟩).mono jH hle18) hb8
 refine aB (cT HB (lR h18 (jG ([(jC 0 0 0 0 2 1 false)]) aw.Deputies ([]) ([(aAz 8 0 0 (-1) 10 1 59 false)]) aw.Versions aw.Docs aw.Approvals) (dK.mk (some ⟨b12,0,none⟩) 1 q41 q42 none 0 (some ⟨b14,0,none⟩) 1 q43 q44 q45 q46 q47 q48) ([(-1)]) (some ⟨b15,0,none⟩) 1 ([]) none 0 7 10 100 (show vL h18 (jG ([(jC 0 0 0 0 2 1 false)]) aw.Deputies ([]) ([(aAz 8 0 0 (-1) 10 1 59 false)]) aw.Versions aw.Docs aw.Approvals) (dK.mk (some ⟨b12,0,none⟩) 1 q41 q42 none 0 (some ⟨b14,0,none⟩) 1 q43 q44 q45 q46 q47 q48)from⟨(sl32.mono kP (hle17.t hle18)),(sl28.mono qS ((hle16.t hle17).t hle18)),qF,(sl33.mono aBd hle18),(sl29.mono jM ((hle16.t hle17).t hle18)),(sl30.mono vH ((hle16.t hle17).t hle18)),(sl31.mono zH ((hle16.t hle17).t hle18))⟩) sl34 qF (by first|exact mR|exact kW (by decide) (by decide) (by decide)) (by decide) (hk.mono (((((((((((((((((hle1.t hle2).t hle3).t hle4).t hle5).t hle6).t hle7).t hle8).t hle9).t hle10).t hle11).t hle12).t hle13).t hle14).t hle15).t hle16).t hle17).t hle18))) U (λv11 h19 hle19 hp11=>?_))
 rw[show(cU (jG ([(jC 0 0 0 0 2 1 false)]) aw.Deputies ([]) ([(aAz 8 0 0 (-1) 10 1 59 false)]) aw.Versions aw.Docs aw.Approvals) ([(-1)]) ([]) 7 10 100)=((fJ.mk 4 8 [1] [2]),0)from by kernel_rfl]at hp11
 obtain⟨rr3,rfl,ok3⟩:=hp11
 refine qO 3 U (aT zc36 (λb16=>aL 0 ty36 U U U U U U (qO 4 U ?_)))
 let z4:Nat×Obj:=(b13,O [.slice (some ⟨b12,0,none⟩) 1 1,.slice q41 1 q42,.slice none 0 0,.slice (some ⟨b14,0,none⟩) 1 1,.slice q43 1 q44,.slice q45 1 q46,.slice q47 1 q48] 30)
 let z6:Nat×Obj:=(b16,O [I 4,I 8,.slice rr3.lV 1 rr3.lU,.slice rr3.In 1 rr3.Im] 36)
 refine aB (ng (A:=[]) (Fr:=[z6,z4,z8,z2,z9,z1,z5,z3]) wo rfl (gR h19) rfl (λv12 h20 B7 hle20 hp12=>?_) (λ_ _ _ _ hR_=>by obtain⟨_,_,_,_,_,_,_,_,_,hr_,_⟩:=hR_;cases hr_))
 obtain⟨b17,q49,q50,q51,q52,q53,q54,q55,q56,hr_,rfl,sl35,sl36,sl37,sl38⟩:=hp12
 cases hr_
 refine aB (bB (cells:=[I 9]) ej ty3 zc3 U U kr (λb18=>aU 1 U hM (λh21 hle21 hb9=>?_)))
 have sl39:SlC kG h21 (some ⟨b17,0,none⟩) 1 ([(jC 0 0 0 0 2 1 false)]):=bI.slB0 (T:=89) (fz:=(0,0)) ((show bI kG h20 [I 0,I 0,I 0,I 0,I 2,I 1,.bool false] ([(jC 0 0 0 0 2 1 false)])from⟨[I 0,I 0,I 0,I 0,I 2,I 1,.bool false],[],rfl,rfl,rfl,rfl⟩).mono kP hle21) hb9
 refine aU 0 U hM (λh22 hle22 hb10=>?_)
 have sl40:SlC kB h22 (some ⟨b18,0,none⟩) 1 ([9]):=bI.slB0 (T:=3) (fz:=(0,0)) ((show bI kB h21 [I 9] ([9])from⟨[I 9],[],rfl,rfl,rfl,rfl⟩).mono jH hle22) hb10
 refine aB (cT HB (lR h22 (jG ([(jC 0 0 0 0 2 1 false)]) aw.Deputies ([]) ([]) aw.Versions aw.Docs aw.Approvals) (dK.mk (some ⟨b17,0,none⟩) 1 q49 q50 none 0 none 0 q51 q52 q53 q54 q55 q56) ([9]) (some ⟨b18,0,none⟩) 1 ([]) none 0 7 10 100 (show vL h22 (jG ([(jC 0 0 0 0 2 1 false)]) aw.Deputies ([]) ([]) aw.Versions aw.Docs aw.Approvals) (dK.mk (some ⟨b17,0,none⟩) 1 q49 q50 none 0 none 0 q51 q52 q53 q54 q55 q56)from⟨(sl39.mono kP hle22),(sl35.mono qS (hle21.t hle22)),qF,qF,(sl36.mono jM (hle21.t hle22)),(sl37.mono vH (hle21.t hle22)),(sl38.mono zH (hle21.t hle22))⟩) sl40 qF (by first|exact mR|exact kW (by decide) (by decide) (by decide)) (by decide) (hk.mono (((((((((((((((((((((hle1.t hle2).t hle3).t hle4).t hle5).t hle6).t hle7).t hle8).t hle9).t hle10).t hle11).t hle12).t hle13).t hle14).t hle15).t hle16).t hle17).t hle18).t hle19).t hle20).t hle21).t hle22))) U (λv13 h23 hle23 hp13=>?_))
 rw[show(cU (jG ([(jC 0 0 0 0 2 1 false)]) aw.Deputies ([]) ([]) aw.Versions aw.Docs aw.Approvals) ([9]) ([]) 7 10 100)=((fJ.mk 1 (-1) [] []),0)from by kernel_rfl]at hp13
 obtain⟨rr4,rfl,ok4⟩:=hp13
 refine qO 3 U (aT zc36 (λb19=>aL 0 ty36 U U U U U U (qL 37 [1,1,0,0] U ?_)))
 let z7:Nat×Obj:=(b19,O [I 1,I (-1),.slice rr4.lV 0 rr4.lU,.slice rr4.In 0 rr4.Im] 36)
 refine aB (ng (A:=[]) (Fr:=[z7,z6,z4,z8,z2,z9,z1,z5,z3]) wo rfl (gR h23) rfl (λv14 h24 B8 hle24 hp14=>?_) (λ_ _ _ _ hR_=>by obtain⟨_,_,_,_,_,_,_,_,_,hr_,_⟩:=hR_;cases hr_))
 obtain⟨b20,q57,q58,q59,q60,q61,q62,q63,q64,hr_,rfl,sl41,sl42,sl43,sl44⟩:=hp14
 cases hr_
 refine aU 0 U hM (λh25 hle25 hb11=>?_)
 have sl45:SlC kG h25 (some ⟨b20,0,none⟩) 1 ([(jC 0 0 0 0 2 1 false)]):=bI.slB0 (T:=89) (fz:=(0,0)) ((show bI kG h24 [I 0,I 0,I 0,I 0,I 2,I 1,.bool false] ([(jC 0 0 0 0 2 1 false)])from⟨[I 0,I 0,I 0,I 0,I 2,I 1,.bool false],[],rfl,rfl,rfl,rfl⟩).mono kP hle25) hb11
 refine aj (v:=.bool true) HA (us (nG h25 (jG ([(jC 0 0 0 0 2 1 false)]) aw.Deputies ([]) ([]) aw.Versions aw.Docs aw.Approvals) (dK.mk (some ⟨b20,0,none⟩) 1 q57 q58 none 0 none 0 q59 q60 q61 q62 q63 q64) 0 1 (show vL h25 (jG ([(jC 0 0 0 0 2 1 false)]) aw.Deputies ([]) ([]) aw.Versions aw.Docs aw.Approvals) (dK.mk (some ⟨b20,0,none⟩) 1 q57 q58 none 0 none 0 q59 q60 q61 q62 q63 q64)from⟨sl45,(sl41.mono qS hle25),qF,qF,(sl42.mono jM hle25),(sl43.mono vH hle25),(sl44.mono zH hle25)⟩) (by first|exact mR|exact kW (by decide) (by decide) (by decide)) (by decide) (hk.mono ((((((((((((((((((((((((hle1.t hle2).t hle3).t hle4).t hle5).t hle6).t hle7).t hle8).t hle9).t hle10).t hle11).t hle12).t hle13).t hle14).t hle15).t hle16).t hle17).t hle18).t hle19).t hle20).t hle21).t hle22).t hle23).t hle24).t hle25))) kr) rfl (av (aB (ng (A:=[]) (Fr:=[z7,z6,z4,z8,z2,z9,z1,z5,z3]) wo rfl (gR h25) rfl (λv15 h26 B9 hle26 hp15=>?_) (λ_ _ _ _ hR_=>by obtain⟨_,_,_,_,_,_,_,_,_,hr_,_⟩:=hR_;cases hr_))))
 obtain⟨b21,q65,q66,q67,q68,q69,q70,q71,q72,hr_,rfl,sl46,sl47,sl48,sl49⟩:=hp15
 cases hr_
 refine aU 0 U hM (λh27 hle27 hb12=>?_)
 have sl50:SlC kG h27 (some ⟨b21,0,none⟩) 1 ([(jC 0 0 0 0 2 1 false)]):=bI.slB0 (T:=89) (fz:=(0,0)) ((show bI kG h26 [I 0,I 0,I 0,I 0,I 2,I 1,.bool false] ([(jC 0 0 0 0 2 1 false)])from⟨[I 0,I 0,I 0,I 0,I 2,I 1,.bool false],[],rfl,rfl,rfl,rfl⟩).mono kP hle27) hb12
 refine aj (v:=.bool true) HA (us (nG h27 (jG ([(jC 0 0 0 0 2 1 false)]) aw.Deputies ([]) ([]) aw.Versions aw.Docs aw.Approvals) (dK.mk (some ⟨b21,0,none⟩) 1 q65 q66 none 0 none 0 q67 q68 q69 q70 q71 q72) 6 3 (show vL h27 (jG ([(jC 0 0 0 0 2 1 false)]) aw.Deputies ([]) ([]) aw.Versions aw.Docs aw.Approvals) (dK.mk (some ⟨b21,0,none⟩) 1 q65 q66 none 0 none 0 q67 q68 q69 q70 q71 q72)from⟨sl50,(sl46.mono qS hle27),qF,qF,(sl47.mono jM hle27),(sl48.mono vH hle27),(sl49.mono zH hle27)⟩) (by first|exact mR|exact kW (by decide) (by decide) (by decide)) (by decide) (hk.mono ((((((((((((((((((((((((((hle1.t hle2).t hle3).t hle4).t hle5).t hle6).t hle7).t hle8).t hle9).t hle10).t hle11).t hle12).t hle13).t hle14).t hle15).t hle16).t hle17).t hle18).t hle19).t hle20).t hle21).t hle22).t hle23).t hle24).t hle25).t hle26).t hle27))) kr) rfl (qO 2 rfl (aB (ng (A:=[]) (Fr:=[z7,z6,z4,z8,z2,z9,z1,z5,z3]) wo rfl (gR h27) rfl (λv16 h28 B10 hle28 hp16=>?_) (λ_ _ _ _ hR_=>by obtain⟨_,_,_,_,_,_,_,_,_,hr_,_⟩:=hR_;cases hr_))))
 obtain⟨b22,q73,q74,q75,q76,q77,q78,q79,q80,hr_,rfl,sl51,sl52,sl53,sl54⟩:=hp16
 cases hr_
 refine aU 0 U hM (λh29 hle29 hb13=>?_)
 have sl55:SlC kG h29 (some ⟨b22,0,none⟩) 1 ([(jC 0 0 0 0 2 1 false)]):=bI.slB0 (T:=89) (fz:=(0,0)) ((show bI kG h28 [I 0,I 0,I 0,I 0,I 2,I 1,.bool false] ([(jC 0 0 0 0 2 1 false)])from⟨[I 0,I 0,I 0,I 0,I 2,I 1,.bool false],[],rfl,rfl,rfl,rfl⟩).mono kP hle29) hb13
 refine aj (v:=.bool true) HA (us (nG h29 (jG ([(jC 0 0 0 0 2 1 false)]) aw.Deputies ([]) ([]) aw.Versions aw.Docs aw.Approvals) (dK.mk (some ⟨b22,0,none⟩) 1 q73 q74 none 0 none 0 q75 q76 q77 q78 q79 q80) 7 0 (show vL h29 (jG ([(jC 0 0 0 0 2 1 false)]) aw.Deputies ([]) ([]) aw.Versions aw.Docs aw.Approvals) (dK.mk (some ⟨b22,0,none⟩) 1 q73 q74 none 0 none 0 q75 q76 q77 q78 q79 q80)from⟨sl55,(sl51.mono qS hle29),qF,qF,(sl52.mono jM hle29),(sl53.mono vH hle29),(sl54.mono zH hle29)⟩) (by first|exact mR|exact kW (by decide) (by decide) (by decide)) (by decide) (hk.mono ((((((((((((((((((((((((((((hle1.t hle2).t hle3).t hle4).t hle5).t hle6).t hle7).t hle8).t hle9).t hle10).t hle11).t hle12).t hle13).t hle14).t hle15).t hle16).t hle17).t hle18).t hle19).t hle20).t hle21).t hle22).t hle23).t hle24).t hle25).t hle26).t hle27).t hle28).t hle29))) kr) rfl (qO 2 rfl (aB (ng (A:=[]) (Fr:=[z7,z6,z4,z8,z2,z9,z1,z5,z3]) wo rfl (gR h29) rfl (λv17 h30 B11 hle30 hp17=>?_) (λ_ _ _ _ hR_=>by obtain⟨_,_,_,_,_,_,_,_,_,hr_,_⟩:=hR_;cases hr_))))
 obtain⟨b23,q81,q82,q83,q84,q85,q86,q87,q88,hr_,rfl,sl56,sl57,sl58,sl59⟩:=hp17
 cases hr_
 refine aU 0 U hM (λh31 hle31 hb14=>?_)
 have sl60:SlC kG h31 (some ⟨b23,0,none⟩) 1 ([(jC 0 0 0 0 2 1 false)]):=bI.slB0 (T:=89) (fz:=(0,0)) ((show bI kG h30 [I 0,I 0,I 0,I 0,I 2,I 1,.bool false] ([(jC 0 0 0 0 2 1 false)])from⟨[I 0,I 0,I 0,I 0,I 2,I 1,.bool false],[],rfl,rfl,rfl,rfl⟩).mono kP hle31) hb14
 refine aj (v:=.bool true) HA (us (nG h31 (jG ([(jC 0 0 0 0 2 1 false)]) aw.Deputies ([]) ([]) aw.Versions aw.Docs aw.Approvals) (dK.mk (some ⟨b23,0,none⟩) 1 q81 q82 none 0 none 0 q83 q84 q85 q86 q87 q88) 39 0 (show vL h31 (jG ([(jC 0 0 0 0 2 1 false)]) aw.Deputies ([]) ([]) aw.Versions aw.Docs aw.Approvals) (dK.mk (some ⟨b23,0,none⟩) 1 q81 q82 none 0 none 0 q83 q84 q85 q86 q87 q88)from⟨sl60,(sl56.mono qS hle31),qF,qF,(sl57.mono jM hle31),(sl58.mono vH hle31),(sl59.mono zH hle31)⟩) (by first|exact mR|exact kW (by decide) (by decide) (by decide)) (by decide) (hk.mono ((((((((((((((((((((((((((((((hle1.t hle2).t hle3).t hle4).t hle5).t hle6).t hle7).t hle8).t hle9).t hle10).t hle11).t hle12).t hle13).t hle14).t hle15).t hle16).t hle17).t hle18).t hle19).t hle20).t hle21).t hle22).t hle23).t hle24).t hle25).t hle26).t hle27).t hle28).t hle29).t hle30).t hle31))) kr) rfl (qO 2 rfl (aB (ng (A:=[]) (Fr:=[z7,z6,z4,z8,z2,z9,z1,z5,z3]) wo rfl (gR h31) rfl (λv18 h32 B12 hle32 hp18=>?_) (λ_ _ _ _ hR_=>by obtain⟨_,_,_,_,_,_,_,_,_,hr_,_⟩:=hR_;cases hr_))))
 obtain⟨b24,q89,q90,q91,q92,q93,q94,q95,q96,hr_,rfl,sl61,sl62,sl63,sl64⟩:=hp18
 cases hr_
 refine aU 0 U hM (λh33 hle33 hb15=>?_)
 have sl65:SlC kG h33 (some ⟨b24,0,none⟩) 1 ([(jC 0 0 0 0 2 1 false)]):=bI.slB0 (T:=89) (fz:=(0,0)) ((show bI kG h32 [I 0,I 0,I 0,I 0,I 2,I 1,.bool false] ([(jC 0 0 0 0 2 1 false)])from⟨[I 0,I 0,I 0,I 0,I 2,I 1,.bool false],[],rfl,rfl,rfl,rfl⟩).mono kP hle33) hb15
 refine aj (v:=.bool true) HA (us (nG h33 (jG ([(jC 0 0 0 0 2 1 false)]) aw.Deputies ([]) ([]) aw.Versions aw.Docs aw.Approvals) (dK.mk (some ⟨b24,0,none⟩) 1 q89 q90 none 0 none 0 q91 q92 q93 q94 q95 q96) 40 3 (show vL h33 (jG ([(jC 0 0 0 0 2 1 false)]) aw.Deputies ([]) ([]) aw.Versions aw.Docs aw.Approvals) (dK.mk (some ⟨b24,0,none⟩) 1 q89 q90 none 0 none 0 q91 q92 q93 q94 q95 q96)from⟨sl65,(sl61.mono qS hle33),qF,qF,(sl62.mono jM hle33),(sl63.mono vH hle33),(sl64.mono zH hle33)⟩) (by first|exact mR|exact kW (by decide) (by decide) (by decide)) (by decide) (hk.mono ((((((((((((((((((((((((((((((((hle1.t hle2).t hle3).t hle4).t hle5).t hle6).t hle7).t hle8).t hle9).t hle10).t hle11).t hle12).t hle13).t hle14).t hle15).t hle16).t hle17).t hle18).t hle19).t hle20).t hle21).t hle22).t hle23).t hle24).t hle25).t hle26).t hle27).t hle28).t hle29).t hle30).t hle31).t hle32).t hle33))) kr) rfl (qO 2 rfl (aB (ng (A:=[]) (Fr:=[z7,z6,z4,z8,z2,z9,z1,z5,z3]) wo rfl (gR h33) rfl (λv19 h34 B13 hle34 hp19=>?_) (λ_ _ _ _ hR_=>by obtain⟨_,_,_,_,_,_,_,_,_,hr_,_⟩:=hR_;cases hr_))))
 obtain⟨b25,q97,q98,q99,q100,q101,q102,q103,q104,hr_,rfl,sl66,sl67,sl68,sl69⟩:=hp19
 cases hr_
 refine aU 0 U hM (λh35 hle35 hb16=>?_)
 have sl70:SlC kG h35 (some ⟨b25,0,none⟩) 1 ([(jC 0 0 0 0 2 1 false)]):=bI.slB0 (T:=89) (fz:=(0,0)) ((show bI kG h34 [I 0,I 0,I 0,I 0,I 2,I 1,.bool false] ([(jC 0 0 0 0 2 1 false)])from⟨[I 0,I 0,I 0,I 0,I 2,I 1,.bool false],[],rfl,rfl,rfl,rfl⟩).mono kP hle35) hb16
 refine aj (v:=.bool true) HA (us (nG h35 (jG ([(jC 0 0 0 0 2 1 false)]) aw.Deputies ([]) ([]) aw.Versions aw.Docs aw.Approvals) (dK.mk (some ⟨b25,0,none⟩) 1 q97 q98 none 0 none 0 q99 q100 q101 q102 q103 q104) 50 1 (show vL h35 (jG ([(jC 0 0 0 0 2 1 false)]) aw.Deputies ([]) ([]) aw.Versions aw.Docs aw.Approvals) (dK.mk (some ⟨b25,0,none⟩) 1 q97 q98 none 0 none 0 q99 q100 q101 q102 q103 q104)from⟨sl70,(sl66.mono qS hle35),qF,qF,(sl67.mono jM hle35),(sl68.mono vH hle35),(sl69.mono zH hle35)⟩) (by first|exact mR|exact kW (by decide) (by decide) (by decide)) (by decide) (hk.mono ((((((((((((((((((((((((((((((((((hle1.t hle2).t hle3).t hle4).t hle5).t hle6).t hle7).t hle8).t hle9).t hle10).t hle11).t hle12).t hle13).t hle14).t hle15).t hle16).t hle17).t hle18).t hle19).t hle20).t hle21).t hle22).t hle23).t hle24).t hle25).t hle26).t hle27).t hle28).t hle29).t hle30).t hle31).t hle32).t hle33).t hle34).t hle35))) kr) U (qO 2 U (cI 4 ty30 U U U (aU 5 U hM (λh36 hle36 hb17=>?_))))
 have sl71:SlC kG h36 (some ⟨b8,0,none⟩) 1 ([(jC 0 0 0 0 2 1 false)]):=bI.slB0 (T:=89) (fz:=(0,0)) ((show bI kG h35 [I 0,I 0,I 0,I 0,I 2,I 1,.bool false] ([(jC 0 0 0 0 2 1 false)])from⟨[I 0,I 0,I 0,I 0,I 2,I 1,.bool false],[],rfl,rfl,rfl,rfl⟩).mono kP hle36) hb17
 refine aU 3 U hM (λh37 hle37 hb18=>?_)
 have sl72:SlC kL h37 (some ⟨b10,0,none⟩) 1 ([(zV 0 0 0 5 9 false false)]):=bI.slB0 (T:=97) (fz:=(0,0)) ((show bI kL h36 [I 0,I 0,I 0,I 5,I 9,.bool false,.bool false] ([(zV 0 0 0 5 9 false false)])from⟨[I 0,I 0,I 0,I 5,I 9,.bool false,.bool false],[],rfl,rfl,rfl,rfl⟩).mono Interest.ai hle37) hb18
 exact aj (v:=.bool true) HA (us (nG h37 (jG ([(jC 0 0 0 0 2 1 false)]) aw.Deputies ([(zV 0 0 0 5 9 false false)]) ([]) aw.Versions aw.Docs aw.Approvals) (dK.mk (some ⟨b8,0,none⟩) 1 q33 q34 (some ⟨b10,0,none⟩) 1 none 0 q35 q36 q37 q38 q39 q40) 10 3 (show vL h37 (jG ([(jC 0 0 0 0 2 1 false)]) aw.Deputies ([(zV 0 0 0 5 9 false false)]) ([]) aw.Versions aw.Docs aw.Approvals) (dK.mk (some ⟨b8,0,none⟩) 1 q33 q34 (some ⟨b10,0,none⟩) 1 none 0 q35 q36 q37 q38 q39 q40)from⟨(sl71.mono kP hle37),(sl22.mono qS ((((((((((((((((((((((((hle13.t hle14).t hle15).t hle16).t hle17).t hle18).t hle19).t hle20).t hle21).t hle22).t hle23).t hle24).t hle25).t hle26).t hle27).t hle28).t hle29).t hle30).t hle31).t hle32).t hle33).t hle34).t hle35).t hle36).t hle37)),sl72,qF,(sl23.mono jM ((((((((((((((((((((((((hle13.t hle14).t hle15).t hle16).t hle17).t hle18).t hle19).t hle20).t hle21).t hle22).t hle23).t hle24).t hle25).t hle26).t hle27).t hle28).t hle29).t hle30).t hle31).t hle32).t hle33).t hle34).t hle35).t hle36).t hle37)),(sl24.mono vH ((((((((((((((((((((((((hle13.t hle14).t hle15).t hle16).t hle17).t hle18).t hle19).t hle20).t hle21).t hle22).t hle23).t hle24).t hle25).t hle26).t hle27).t hle28).t hle29).t hle30).t hle31).t hle32).t hle33).t hle34).t hle35).t hle36).t hle37)),(sl25.mono zH ((((((((((((((((((((((((hle13.t hle14).t hle15).t hle16).t hle17).t hle18).t hle19).t hle20).t hle21).t hle22).t hle23).t hle24).t hle25).t hle26).t hle27).t hle28).t hle29).t hle30).t hle31).t hle32).t hle33).t hle34).t hle35).t hle36).t hle37))⟩) (by first|exact mR|exact kW (by decide) (by decide) (by decide)) (by decide) (hk.mono ((((((((((((((((((((((((((((((((((((hle1.t hle2).t hle3).t hle4).t hle5).t hle6).t hle7).t hle8).t hle9).t hle10).t hle11).t hle12).t hle13).t hle14).t hle15).t hle16).t hle17).t hle18).t hle19).t hle20).t hle21).t hle22).t hle23).t hle24).t hle25).t hle26).t hle27).t hle28).t hle29).t hle30).t hle31).t hle32).t hle33).t hle34).t hle35).t hle36).t hle37))) kr) U (qO 3 U (nretP [.bool true] (cs hs0)))
theorem D4(rec:Expr->Int->Int)(h:HF)(x:Expr)(gv:de)(limit:Int)(hrec:∀(h:HF)(qx:Expr)(ly:de)(qlimit:Int)(hqx:jF h qx ly)(_:qx.dep<x.dep),Ret prog 123 [.agg (zC qx ly).toArray,I qlimit] h (I (rec qx qlimit)))(hx:jF h x gv):Ret prog 123 [.agg (zC x gv).toArray,I limit] h (I (gl.F rec x limit)):=by
 refine sT func123 U ntmps123 U λX hM hX hF=>?_
 have hs0:gl.F rec x limit=gl.F rec x limit:=rfl
 refine sr (cz (λb1=>qO 11 U ?_))
 refine lp1 x.L (λi w=>[(1,I limit),(2,Q b1),(5,I w),(6,I (i:Int))]) ([(b1,O (zC x gv) 62)]) (λs1 i w=>(gl.L1 rec limit (gl.K1)) s1 w) 1 hx.list.1.1 hs0 ?_ ?_ ?_
 .rintro i1 fa ft hs1 e
  exact sr (qO 3 U (nretP [I fa] (ci hs1)))
 .rintro i1 fa y1 rz1 hd1 df aS dZ gy hs3 hx1 ag1 e
  refine qK 7 [0] U (tO df U (qO 6 U (ae hs3 U (λc2 hs4=>?_) (λc2 hs5=>?_))))
  .have c2p:=of_decide_eq_true c2
   exact qK 8 [0] U (aB (iR lW ty62 hx.list.1 aS U U U (λ_ _ _ e=>e) (λq2 r2 A2 ok2=>dq ty62 A2 U U (qO 3 U (aj call123 (hrec _ _ _ (vC .i64 (limit-fa)) ok2 (aAn (gp hd1))) U (qO 6 U (oi i1 U (qO 2 U (ag1 (vC .i64 (fa+(rec y1 (vC .i64 (limit-fa))))) hs4)))))))))
  have c2p:=of_decide_eq_false c2
  exact md U (hx1 i1 fa hs5)
 rintro i1 fa hd1 gu hx e
 exact qK 7 [0] U (fO gu U (qO 8 U (hx _ rd)))
theorem tI:∀(m:Nat)(h:HF)(x:Expr)(gv:de)(limit:Int)(_:x.dep<=m)(hx:jF h x gv),Ret prog 123 [.agg (zC x gv).toArray,I limit] h (I (gl.go m x limit))
 |0,h,x,gv,limit,hd,hx=>absurd hd (Nat.not_le.2 (Expr.mj _))
 |m+1,h,x,gv,limit,hd,hx=>D4 (gl.go m) h x gv limit (λqh_ qx ly qlimit qhx qd=>tI m qh_ qx ly qlimit ob qhx) hx
theorem xu(h:HF)(x:Expr)(gv:de)(limit:Int)(hx:jF h x gv):Ret prog 123 [.agg (zC x gv).toArray,I limit] h (I (gl x limit)):=tI _ h x gv limit (kF _) hx
theorem xw(h:HF)(l:List Version)(eu:Option Addr)(et:Nat)(hl:SlC jN h eu et l):Ret prog 49 [.slice eu l.length et] h (.bool (dU l)):=by
 refine sT func49 U ntmps49 U λX hM hX hF=>?_
 have hs0:dU l=dU l:=rfl
 refine qK 11 [] U (ae hs0 U (λc1 hs1=>?_) (λc1 hs2=>?_))
 .have c1p:=of_decide_eq_true c1
  exact sr (an (nretP [.bool false] (cs hs1)))
 have c1p:=of_decide_eq_false c1
 refine qT 6 U ?_
 refine lp0 l (λi=>[(0,.slice eu l.length et),(3,I (i:Int))]) ([]) (λs1 i=>(dU.L1 (dU.K1)) s1) hl.1.1 hs2 ?_ ?_ ?_
 .rintro i1 ft hs4 e
  exact sr (an (nretP [.bool true] (cs hs4)))
 .rintro i1 y1 rz1 hd1 df aS dZ gy hs6 hx1 ag1 e
  refine qK 6 [] U (tO df U (qO 9 U (aB (iR wK ty105 hl.1 aS U U U (λ_ _ _ e=>e) (λq2 r2 A2 ok2=>qL 1 [] U (AO (j:=3) ty64 A2 U U (aT zc64 (λb2=>aL 0 ty64 U U U U U U (qL 9 [0] U (ce 5 [24,25,26,27,28,29] 24 29 (decide (40<(y1.Policy.Offices.length:Int))) U (λc2 hk1=>?_) (λe=>?_)))))))))))
  .exact qL 5 [0] U (hk1 _ U)
  refine av (ce 5 [30,31,32,33,34,35] 30 35 (decide (20<(y1.Policy.Rules.length:Int))) U (λc3 hk2=>?_) (λe=>?_))
  .exact qL 5 [0] U (hk2 _ U)
  refine av (ce 5 [36,37,38,39,40,41] 36 41 (decide (40<(gl y1.Policy.Change 40))) U (λc4 hk3=>?_) (λe=>?_))
  .exact qL 1 [] U (cI 0 ty62 U U U (aj call123 (xu _ _ _ 40 ok2.Policy.Change) U (qO 2 U (hk3 _ U))))
  refine aJ (ae hs6 U (λc5 hs7=>?_) (λc5 hs8=>?_))
  .exact sr (an (nretP [.bool false] (cs hs7)))
  refine qT 5 U ?_
  refine lp0 y1.Policy.Rules (λi=>[(0,.slice eu l.length et),(3,I (i1:Int)),(4,Q b2),(5,I (i:Int))]) ([(b2,O (xE y1.Policy r2.Policy) 64)]) (λs3 i=>(dU.L3 ((dU.L1 (dU.K1) rz1))) s3) ok2.Policy.Rules.1.1 hs8 ?_ ?_ ?_
  .rintro i3 AZ hs10 e
   exact fe (qT 2 U (oi i1 U (an (aX (L':=[]) js (ag1 hs10)))))
  .rintro i3 y3 rz3 hd3 FY H8 FX Rx hs11 hx3 ag2 e
   refine qK 7 [0] U (tO FY U (qL 10 [0] U (aB (iR wL ty79 ok2.Policy.Rules.1 H8 U U U (λ_ _ _ e=>e) (λq4 r4 A4 ok4=>qL 1 [] U (AO (j:=3) ty62 A4 U U (aj call123 (xu _ _ _ 40 ok4.Expr) U (qO 2 U (ae hs11 U (λc7 hs12=>?_) (λc7 hs13=>?_))))))))))
   .have c7p:=of_decide_eq_true c7
    exact sr (an (nretP [.bool false] (cs hs12)))
   have c7p:=of_decide_eq_false c7
   exact aI (qT 3 U (oi i3 U (an (ag2 hs13))))
  rintro i3 hd3 Ps hx e
  exact qK 7 [0] U (fO Ps U (qO 3 U (hx _ rd)))
 rintro i1 hd1 gu hx e
 exact qK 6 [] U (fO gu U (qO 3 U (hx _ rd)))
theorem IF(h:HF)(cH:Register)(gB:dK)(kx:vL h cH gB):Ret prog 10 [.agg (qQ cH gB).toArray] h (.bool (lJ cH)):=by
 refine sT func10 U ntmps10 U λX hM hX hF=>?_
 have hs0:lJ cH=lJ cH:=rfl
 refine sr (cz (λb1=>qL 10 [0] U (ce 5 [8,9,10,11,12,13] 8 13 (decide (12<(cH.Deputies.length:Int))) U (λc1 hk1=>?_) (λe=>?_))))
 .exact qL 5 [0] U (hk1 _ U)
 refine av (ce 5 [14,15,16,17,18,19] 14 19 (decide (12<(cH.Interests.length:Int))) U (λc2 hk2=>?_) (λe=>?_))
 .exact qL 5 [0] U (hk2 _ U)
 refine av (ce 5 [20,21,22,23,24,25] 20 25 (decide (12<(cH.Budgets.length:Int))) U (λc3 hk3=>?_) (λe=>?_))
 .exact qL 5 [0] U (hk3 _ U)
 refine av (ce 5 [26,27,28,29,30,31] 26 31 (decide (8<(cH.Docs.length:Int))) U (λc4 hk4=>?_) (λe=>?_))
 .exact qL 5 [0] U (hk4 _ U)
 refine av (ce 5 [32,33,34,35,36,37] 32 37 (decide (24<(cH.Approvals.length:Int))) U (λc5 hk5=>?_) (λe=>?_))
 .exact qL 5 [0] U (hk5 _ U)
 refine av (ce 5 [38,39,40,41,42,43] 38 43 (!(dU cH.Versions)) U (λc6 hk6=>?_) (λe=>?_))
 .exact qL 2 [0] U (aj call49 (xw _ _ _ _ kx.Versions) U (qO 2 U (hk6 _ U)))
 refine aJ (ae hs0 U (λc7 hs1=>?_) (λc7 hs2=>?_))
 .exact sr (an (nretP [.bool false] (cs hs1)))
 refine qT 6 U ?_
 refine lp0 cH.Docs (λi=>[(1,Q b1),(3,I (i:Int))]) ([(b1,O (qQ cH gB) 30)]) (λs1 i=>(lJ.L1 (lJ.K1)) s1) kx.Docs.1.1 hs2 ?_ ?_ ?_
 .rintro i1 ft hs4 e
  exact sr (an (nretP [.bool true] (cs hs4)))
 .rintro i1 y1 rz1 hd1 df aS dZ gy hs6 hx1 ag1 e
  refine qK 7 [0] U (tO df U (qL 10 [0] U (aB (iR oq ty51 kx.Docs.1 aS U U U (λ_ _ _ e=>e) (λq3 r3 A3 ok3=>qL 1 [] U (ju (j:=6) ty31 A3 U U (qL 3 [] U (ce 9 [59,60,61,62,63,64,65,66,67,68] 59 68 (decide (20<(y1.Revokes.length:Int))) U (λc8 hk7=>?_) (λe=>?_)))))))))
  .exact qL 3 [0] U (aB (iR oq ty51 kx.Docs.1 aS U U U (λ_ _ _ e=>e) (λq4 r4 A4 ok4=>qL 1 [] U (ju (j:=7) ty31 A4 U U (qL 3 [] U (hk7 _ U))))))
  refine av (ce 9 [69,70,71,72,73,74,75,76,77,78] 69 78 (decide (20<(y1.Needs.length:Int))) U (λc9 hk8=>?_) (λe=>?_))
  .exact qL 3 [0] U (aB (iR oq ty51 kx.Docs.1 aS U U U (λ_ _ _ e=>e) (λq5 r5 A5 ok5=>qL 1 [] U (ju (j:=8) ty31 A5 U U (qL 3 [] U (hk8 _ U))))))
  refine aJ (ae hs6 U (λc10 hs7=>?_) (λc10 hs8=>?_))
  .exact sr (an (nretP [.bool false] (cs hs7)))
  exact aI (qT 3 U (oi i1 U (an (ag1 hs8))))
 rintro i1 hd1 gu hx e
 exact qK 7 [0] U (fO gu U (qO 3 U (hx _ rd)))
theorem IG(h:HF)(cH:Register)(gB:dK)(no:Int)(kx:vL h cH gB):Ret prog 20 [.agg (qQ cH gB).toArray,I no] h (I (iK cH no)):=by
 refine sT func20 U ntmps20 U λX hM hX hF=>?_
 have hs0:iK cH no=iK cH no:=rfl
 refine sr (cz (λb1=>qO 7 U ?_))
 refine lp0 cH.Docs (λi=>[(1,I no),(2,Q b1),(5,I (i:Int))]) ([(b1,O (qQ cH gB) 30)]) (λs1 i=>(iK.L1 no (iK.K1)) s1 i) kx.Docs.1.1 hs0 ?_ ?_ ?_
 .rintro i1 ft hs1 e
  exact sr (an (nretP [I (-1)] (ci hs1)))
 .rintro i1 y1 rz1 hd1 df aS dZ gy hs3 hx1 ag1 e
  refine qK 7 [0] U (tO df U (qL 10 [0] U (aB (iR oq ty51 kx.Docs.1 aS U U U (λ_ _ _ e=>e) (λq2 r2 A2 ok2=>qL 1 [] U (dB ty3 A2 U (qO 3 U (ae hs3 U (λc2 hs4=>?_) (λc2 hs5=>?_)))))))))
  .exact sr (qO 3 U (nretP [I (i1:Int)] (ci hs4)))
  exact aI (qT 3 U (oi i1 U (an (ag1 hs5))))
 rintro i1 hd1 gu hx e
 exact qK 7 [0] U (fO gu U (qO 3 U (hx _ rd)))
theorem Ak(h:HF)(er:Int)  : Ret prog 240 [I er] h (.bool (nD er)):=by
 refine sT func240 U ntmps240 U λX hM hX hF=>?_
 have hs0:nD er=nD er:=rfl
 refine qT 9 U (bA 3 [5,6,7,8] 5 8 (decide (er<1099511627776)) U (λc1 hk1=>?_) (λe=>?_))
 .exact av (qO 2 U (hk1 _ U))
 exact an (nretP [.bool (decide (0<=er)&&decide (er<1099511627776))] (cs hs0))
theorem Ec(h:HF)(er:Int)  : Ret prog 241 [I er] h (.bool (nW er)):=by
 refine sT func241 U ntmps241 U λX hM hX hF=>?_
 have hs0:nW er=nW er:=rfl
 refine qT 9 U (bA 3 [5,6,7,8] 5 8 (decide (er<32)) U (λc1 hk1=>?_) (λe=>?_))
 .exact av (qO 2 U (hk1 _ U))
 exact an (nretP [.bool (decide (0<=er)&&decide (er<32))] (cs hs0))
theorem Eb(h:HF)(er:Int)  : Ret prog 242 [I er] h (.bool (nV er)):=by
 refine sT func242 U ntmps242 U λX hM hX hF=>?_
 have hs0:nV er=nV er:=rfl
 refine qT 9 U (bA 3 [5,6,7,8] 5 8 (decide (er<64)) U (λc1 hk1=>?_) (λe=>?_))
 .exact av (qO 2 U (hk1 _ U))
 exact an (nretP [.bool (decide (0<=er)&&decide (er<64))] (cs hs0))
theorem Fu(h:HF)(x:Appoint)  : Ret prog 153 [.agg (qM x).toArray] h (.bool (j4 x)):=by
 refine sT func153 U ntmps153 U λX hM hX hF=>?_
 have hs0:j4 x=j4 x:=rfl
 refine sr (cz (λb1=>qL 9 [0] U (ce 4 [6,7,8,9,10] 6 10 (decide (1048576<x.No)) U (λc1 hk1=>?_) (λe=>?_))))
 .exact qL 4 [0] U (hk1 _ U)
 refine av (ce 5 [11,12,13,14,15,16] 11 16 (!(nD x.At)) U (λc2 hk2=>?_) (λe=>?_))
 .exact qL 2 [0] U (aj call240 (Ak h x.At) U (qO 2 U (hk2 _ U)))
 refine av (ce 5 [17,18,19,20,21,22] 17 22 (!(nD x.Known)) U (λc3 hk3=>?_) (λe=>?_))
 .exact qL 2 [0] U (aj call240 (Ak h x.Known) U (qO 2 U (hk3 _ U)))
 refine av (ce 5 [23,24,25,26,27,28] 23 28 (!(nW x.Office)) U (λc4 hk4=>?_) (λe=>?_))
 .exact qL 2 [0] U (aj call241 (Ec h x.Office) U (qO 2 U (hk4 _ U)))
 refine av (ce 5 [29,30,31,32,33,34] 29 34 (!(nV x.Person)) U (λc5 hk5=>?_) (λe=>?_))
 .exact qL 2 [0] U (aj call242 (Eb h x.Person) U (qO 2 U (hk5 _ U)))
 refine aJ (ae hs0 U (λc6 hs1=>?_) (λc6 hs2=>?_))
 .exact sr (an (nretP [.bool false] (cs hs1)))
 refine qK 7 [0] U (ae hs2 U (λc7 hs4=>?_) (λc7 hs5=>?_))
 .exact qK 7 [0] U (nretP [.bool (x.Weight==0)] (cs hs4))
 refine qK 7 [0] U (bA 4 [43,44,45,46,47] 43 47 (decide (x.Weight<=64)) U (λc8 hk6=>?_) (λe=>?_))
 .exact qL 4 [0] U (hk6 _ U)
 exact an (nretP [.bool (decide (1<=x.Weight)&&decide (x.Weight<=64))] (cs hs5))
theorem Fv(h:HF)(l:List Appoint)(eu:Option Addr)(et:Nat)(hl:SlC kG h eu et l):Ret prog 72 [.slice eu l.length et] h (I (iH l)):=by
 refine sT func72 U ntmps72 U λX hM hX hF=>?_
 have hs0:iH l=iH l:=rfl
 refine qK 11 [] U (ae hs0 U (λc1 hs1=>?_) (λc1 hs2=>?_))
 .have c1p:=of_decide_eq_true c1
  exact sr (an (nretP [I 2] (ci hs1)))
 have c1p:=of_decide_eq_false c1
 refine qT 6 U ?_
 refine lp0 l (λi=>[(0,.slice eu l.length et),(3,I (i:Int))]) ([]) (λs1 i=>(iH.L1 l (iH.K1)) s1 i) hl.1.1 hs2 ?_ ?_ ?_
 .rintro i1 ft hs4 e
  exact sr (an (nretP [I 0] (ci hs4)))
 .rintro i1 y1 rz1 hd1 df aS dZ gy hs6 hx1 ag1 e
  refine qK 6 [] U (tO df U (qO 6 U ?_))
  refine oE [(0,.slice eu l.length et),(3,I (i1:Int)),(36,.bool ((!(j4 y1))||(decide (0<(i1:Int))&&decide (y1.No<=(nthI l ((i1:Int)-1)).No))))] (λe=>?_) (λhk1=>?_)
  rotate_left
  .refine eT ([]) mixed kr jn (λeo _=>?_)
   refine qA [0,1] U (eX 2 (enc:=qM) eo jn ei Ac ty89 hl.1 (nthZ aS) (fH aS) U U U U kr (λq4 A4=>tf 3 U U (λ_ _ hj=>mg ty89 (A4.mono hj.1) U U) (tn 4 U (fo call153 (Fu h y1) U (⟨jn,qA [5,6] U ?_⟩)))))
   refine dx 19 U (λc2=>?_) (λc2=>?_)
   .exact tk 7 U U (qR 8 16 U (aQ kr (hk1 _ ⟨U,U,(cb (show true=((!(j4 y1))||(decide (0<(i1:Int))&&decide (y1.No<=(nthI l ((i1:Int)-1)).No)))from by rw[c2]<;>rfl)),trivial⟩)))
   refine qR 7 3 U ?_
   refine dx 22 U (λc3=>?_) (λc3=>?_)
   .have c3p:=of_decide_eq_true c3
    refine qA [10,11] U (tf 12 U U (λ_ _ _=>nE (v':=I ((i1:Int)-1)) U (lk ob)) ?_)
    have ho2:0<=(((i1:Int)-1):Int)/\(((i1:Int)-1):Int)<((l).length:Int):=ob
    exact eX 13 (enc:=qM) eo jn ei Ac ty89 hl.1 ho2 (dh ho2) U U U U kr (λq5 A5=>qB [14] U (tf 15 U U (rh ty3 A5 U) (qA [16,17] U (eX 18 (enc:=qM) eo jn ei Ac ty89 hl.1 (nthZ aS) (fH aS) U U U U kr (λq6 A6=>qB [19] U (tf 20 U U (rh ty3 A6 U) (qR 21 3 U (aQ kr (hk1 _ ⟨U,U,(cb (show decide (y1.No<=(nthI l ((i1:Int)-1)).No)=((!(j4 y1))||(decide (0<(i1:Int))&&decide (y1.No<=(nthI l ((i1:Int)-1)).No)))from by rw[c2,c3]<;>rfl)),trivial⟩)))))))))
   have c3p:=of_decide_eq_false c3
   exact tk 10 U U (qR 11 13 U (aQ kr (hk1 _ ⟨U,U,(cb (show false=((!(j4 y1))||(decide (0<(i1:Int))&&decide (y1.No<=(nthI l ((i1:Int)-1)).No)))from by rw[c2,c3]<;>rfl)),trivial⟩)))
  refine ae hs6 U (λc4 hs7=>?_) (λc4 hs8=>?_)
  .exact sr (an (nretP [I 150] (ci hs7)))
  exact aI (qT 3 U (oi i1 U (an (ag1 hs8))))
 rintro i1 hd1 gu hx e
 exact qK 6 [] U (fO gu U (qO 3 U (hx _ rd)))
theorem ma(h:HF)(er:Int)(low:Int)(high:Int)  : Ret prog 243 [I er,I low,I high] h (.bool (ik er low high)):=by
 refine sT func243 U ntmps243 U λX hM hX hF=>?_
 have hs0:ik er low high=ik er low high:=rfl
 refine qT 10 U (bA 4 [10,11,12,13,14] 10 14 (decide (er<=high)) U (λc1 hk1=>?_) (λe=>?_))
 .exact av (qO 3 U (hk1 _ U))
 exact an (nretP [.bool (decide (low<=er)&&decide (er<=high))] (cs hs0))
theorem Aj(h:HF)(er:Int)  : Ret prog 244 [I er] h (.bool (nC er)):=by
 refine sT func244 U ntmps244 U λX hM hX hF=>?_
 have hs0:nC er=nC er:=rfl
 exact sr (qO 5 U (aj Jq (ma h er 0 1099511627775) U (an (nretP [.bool (ik er 0 1099511627775)] (cs hs0)))))
theorem wx(h:HF)(er:Int)  : Ret prog 245 [I er] h (.bool (mf er)):=by
 refine sT func245 U ntmps245 U λX hM hX hF=>?_
 have hs0:mf er=mf er:=rfl
 exact sr (qO 5 U (aj Jq (ma h er 0 63) U (an (nretP [.bool (ik er 0 63)] (cs hs0)))))
end Go.Sg
