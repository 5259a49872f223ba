import Derived.Shelf.SlSortCmp.WholeK
import Derived.Ground.SlsfProg
import Derived.Shelf.Small.Bits
import Derived.Shelf.Small.Strs
import Derived.Shelf.Strconv.Itoa0
import Derived.Shelf.Strings.Search1
import Derived.Shelf.Sort.Plain
import Derived.Ground.Names2Prog
import Derived.Shelf.Slices.CompactI
import Derived.Shelf.Slices.SearchI
import Derived.Shelf.Slices.In.SortNone
import Derived.Shelf.Slices.Empties
import Derived.Ground.SlgcProg
import Derived.Shelf.SlicesG.Cmp
import Derived.Sort.OwnSortedInts
import Derived.Test.YtpplkjhgggjaoaaGreatDoorW6
/- A part of the proof of JudgeExactly. -/
set_option linter.unusedVariables false
set_option linter.unusedSimpArgs false
set_option maxRecDepth 100000
open List renaming length_cons→zA,length_append→jA,not_mem_nil→kA,length_nil→jB,toArray→vB,mem_cons→kB,mem_singleton→kC,append_assoc→qE,getElem?_eq_getElem→kF,range→kG
open Bool renaming and_eq_true→xB,or_eq_true→xD,not_eq_true'→zE
open Go.Sg.Rp renaming int→qC,aO→vG,str→aAM,hU→aBr
open Go.Sg.Expr renaming cells→zC,ok→jF,mk→qG,jf→aAe,aj→aAi,rp→aAF,eQ→aBJ
open Go.Value renaming int→xC
open Go.Sg.Appoint renaming mk→jC,rp→xH,aj→kP,cells→jR
open Go.IntKind renaming wrap→vC
open Go.Sg.Approval renaming cells→zD,aj→jH,rp→kL,mk→qV
open Go.Sg.Policy renaming cells→kD,mk→xM,ok→zN
open Go.Sg.OSeat renaming cells→jE,enc→aAl,mk→aBg
open Go.Sg.SlC renaming nil→vE
open Nat renaming le_refl→xG,zero_le→jL,lt_or_ge→jP
open Go.Sg.Document renaming aj→zH,cells→xN,rp→vR,ok→aAu
open Go.Sg.Register renaming ok→zL,cells→xL
open Go.Sg.HF renaming le→jM
open Go.Sg.Deputy renaming cells→vN,aj→jS,rp→aAq
open Go.Addr renaming add→jT
open Go.Sg.Expr.ok renaming of→aAf
open Go.Sg.St renaming start→aBd
open Go.Sg.Rule renaming mk→aBf,aj→aBx

namespace Go.Sg
open Go.Proofs Go.Proofs.Tryz
set_option maxHeartbeats 2000000
theorem BS(h:HF)(p:Policy)(gS:eA)(hp:zN h p gS)(hsm:smP p)(hk:Kinds h):Gu prog 280 [.agg (kD p gS).toArray] h (exW stopV (λr:Unit=>(.tuple #[]:Value)) (bw p)):=by
 refine cJ GC U ntmps280 U λX hM hX=>?_
 have hs0:bw p=bw p:=rfl
 have hsr:=hsm.rules
 refine sr (cy (λb1=>qL 8 [0] U (bj 8 [12,13,14,15,16,17,18,19,20] 12 20 ((p.Rules.length:Int)==(p.Kinds.length:Int)) U (λc1 hk1=>?_) (λe=>?_))))
 .exact qL 8 [0,0] U (hk1 _ U)
 refine av (bj 4 [21,22,23,24,25] 21 25 (aP p.Mode 1 4) U (λc2 hk2=>?_) (λe=>?_))
 .exact qL 2 [0] U (ai Aw (gO h p.Mode 1 4) U (eN U (hk2 _ U)))
 refine aC (my yO (ia h ((decide (0<(p.Kinds.length:Int))&&((p.Rules.length:Int)==(p.Kinds.length:Int)))&&(aP p.Mode 1 4)) 200) U (λu1 hu1=>?_) (λpv1 hpv1 e=>?_))
 .obtain⟨rx1,hrx1,rfl⟩:=oy hu1
  have hs1:=hs0.trans (pi hrx1)
  cases rx1
  refine qL 9 [0] U ?_
  let z2:Nat×Obj:=(b1,O (kD p gS) 64)
  refine lp0 p.Rules (λi=>[(1,Q b1),(28,.slice gS.nO p.Rules.length gS.nN),(29,I (p.Rules.length:Int)),(30,I (i:Int))]) ([z2]) (λs1 i=>(bw.L1 p (bw.K1 p)) s1 i) hp.Rules.1.1 hs1 ?_ ?_
  .rintro i1 fp hs2 e
   refine sr (cK 0 ty64 U U U (aC (cS call325 (md _ _ _ hp ob) U (λv1 h1 hle1 hp1=>?_))))
   obtain⟨rb1,rc1,rfl,sl1⟩:=hp1
   refine ba zc60 (λb3=>cT 0 ty60 U U U U U U (qL 7 [0] U (et ?_)))
   let z1:Nat×Obj:=(b3,O [.slice rb1 ((ay p).length) rc1] 60)
   refine cn (L':=[z1,z2]++(markB [])) ap ?_
   refine rZ (ι:=Nat×List Nat×HF) (λi=>[]) (λi=>marks i.2.1) (λi=>i.2.2) (λi=>[z1,z2]++(markB i.2.1)) (λi=>i.1<=(ay p).length/\bw p=((bw.K2))/\jM h1 i.2.2) ?_ (λhx2=>?_)
   .rintro⟨i2,rs2,hh2⟩ ⟨xn,hs3,hl2⟩ e
    have hs4:bw p=(Except.ok ()):=hs3
    exact cn (L':=([z1,z2])++markB rs2) ap (yc rs2 [] GC U hX trivial (congrArg (exW stopV (λr:Unit=>(.tuple #[]:Value))) hs4))
   refine wH (ι:=Nat×List Nat×HF×List Expr) (λi=>[(4,Q b3),(52,.slice rb1 ((ay p).length) rc1),(53,I ((ay p).length:Int)),(54,I (i.1:Int))]) (λi=>marks i.2.1) (λi=>i.2.2.1) (λi=>[z1,z2]++(markB i.2.1)) (λi=>(ay p).drop i.1=i.2.2.2/\i.1<=(ay p).length/\bw p=((bw.L2 p (bw.K2)) i.2.2.2 i.1)/\jM h1 i.2.2.1) (λi=>i.2.2.2.length) (0,[],h1,(ay p)) U rd sw ⟨U,jL _,hs2,lf⟩ ?_
   rintro⟨i2,rs2,hh2,s2⟩ ⟨hd2,xn,hs5,hl2⟩ ag1 e
   rcases s2 with _|⟨y2,rz2⟩
   .have Ow:=mR hd2
    exact sr (fO Ow U (qO 4 U (hx2 (i2,rs2,hh2) _ ⟨xn,hs5,hl2⟩ trivial)))
   have xm:=sQ hd2
   have sH:=rg hd2
   have E2:=io hd2
   have KH:=sl1.1.1
   try have hsy:=Bt hsm (fX hd2)
   refine sr (tO xm U (qO 9 U (aC (iR lB ty62 (sl1.mono aAi hl2).1 sH U U U (λ_ _ _ e=>e) (λq4 r3 A5 ok3=>dz ty62 A5 U U (ba zc3 (λb7=>ba zc62 (λb8=>cT 1 ty3 U U U U U U (aQ 0 ty62 U U U U U U (qO 3 U (cK 0 ty62 U U U (aC (cS Li (mS _ _ _ 1 ok3 ob) U (λv3 h3 hle3 hp3=>?_))))))))))))))
   obtain⟨_,rfl,mo2⟩:=hp3
   refine qO 2 U ?_
   let z3:Nat×Obj:=(b7,O [I (i2:Int)] 3)
   let z5:Nat×Obj:=(b8,O (zC y2 r3) 62)
   refine cn (L':=([z5,z3,z1,z2])++markB rs2) ap ?_
   refine j3 (it:=v3) (xs:=(bx y2 1)) (ι:=HF) rs2 (λi=>i) (λi=>[z5,z3,z1,z2]) (λs i=>bw p=((bw.L4 p i2 ((bw.L2 p (bw.K2) rz2 (i2+1)))) s)/\jM h3 i) (λ_=>False) (λ_=>False) 0 (λch _ _=>∃pv_,ch=[{ v:=stopV pv_,recovered:=false }]/\bw p=.error pv_) h3 GC U mo2 U n0 (λ_ _ _ _ _ hq=>hq) U (show[z5,z3,z1,z2]=_ from U) ⟨hs5,lf⟩ ?_ ?_ ?_ ?_ ?_
   .rintro l4 dm4 lp4 y4 rz4 vs4 hh4 hr4 X hFR4 ⟨hs7,hl4⟩ hl04 hlr4 hv4 hX hXM hlp4 nx4 rt4 ex4 pn4
    obtain⟨rr4_0,rfl,ok4_0⟩:=hv4
    let z6:Nat×Obj:=(dm4,.deferred (some []))
    refine cn (L':=[(l4,.loop lp4),z6,z5,z3,z1,z2]++(markB rs2)) ap (bE (ba zc327 (λb10=>aQ 0 ty327 U U U U U U (aJ (jy 1 U hlp4 (qT 2 U ?_))))))
    let z4:Nat×Obj:=(l4,.loop { lp4 with state:=.busy })
    let z8:Nat×Obj:=(b10,O (gx.cells y4 rr4_0) 327)
    refine eM ([z8,z4,z6,z5,z3,z1,z2]) mixed kr jn (λem _=>?_)
    refine qB [0,1] U (tf 2 U U (rj 0 ty3 U U U) (tn 3 U (fe Aw (gO hr4 y4.x.Kind 1 4) U (⟨jn,tm 4 U ?_⟩))))
    refine du 66 U (λc3=>?_) (λc3=>?_)
    .refine qB [5,6] U (tf 7 U U (rj 0 ty3 U U U) ?_)
     have ho4:0<=(y4.x.Kind:Int)/\(y4.x.Kind:Int)<5:=(by have:=Mw ob;omega)
     have A7:=(hk.mono ((((hle1.t hl2).t hle3).t hl4).t hlr4)).at ho4
     refine tf 8 U U (λ_ _ _=>Oa underlying365 ty168 U U ho4) (tf 9 U U (rh ty168 A7 U) (qB [10] U (tf 11 U U (λ_ _ hj=>jO ty62 U (hj.nth (i:=0) U) U) (tn 12 U (lT (v:=.bool (kindsP y4.x.Kind y4.x)) [] (List.nil_sublist _) (KC hr4 y4.x.Kind ho4 y4.x rr4_0.x ok4_0.x) U U (⟨jn,tf 13 U U (λ_ _ _=>nI U (cb (show(kindsP y4.x.Kind y4.x)=((aP y4.x.Kind 1 4)&&(kindsP y4.x.Kind y4.x))from by first|(rw[c3];rfl)|(rw[c3];rfl)|simp[c3]))) ?_⟩))))))
     refine tn 14 U (my yO (ia hr4 ((aP y4.x.Kind 1 4)&&(kindsP y4.x.Kind y4.x)) 200) U (λu2 hu2=>?_) (λpv2 hpv2 e=>?_))
     .obtain⟨rx2,hrx2,rfl⟩:=oy hu2
      have hs8:=hs7.trans (pi hrx2)
      cases rx2
      refine⟨jn,aV kr (qK 7 [4,5] U (bV 5 [82,83,84,85,86,87] 82 87 (y4.x.Kind != 4) U (λc4 hk3=>?_) (λe=>?_)))⟩
      .exact qL 5 [0] U (hk3 _ U)
      refine aC (my yO (ia hr4 (decide ((i2:Int)<(vC .i64 (((ay p).length:Int)-1)))||(y4.x.Kind != 4)) 200) U (λu3 hu3=>?_) (λpv3 hpv3 e=>?_))
      .obtain⟨rx3,hrx3,rfl⟩:=oy hu3
       have hs9:=hs8.trans (pi hrx3)
       cases rx3
       exact aJ (eF (bz (L':=[z4,z6,z5,z3,z1,z2]++(markB rs2)) js (cn (L':=rdH l4 dm4 lp4 (([z5,z3,z1,z2])++markB rs2)) ap (nx4 hr4 _ _ ⟨hs9,(hl4.t hlr4)⟩ lf))))
      obtain⟨pv3e,hpv3e,rfl⟩:=mG hpv3
      have hs10:=hs8.trans (mZ hpv3e)
      exact zm (L':=[z4,z6]++(markB rs2)) js (pn4 _ _ _ [] ⟨_,U,hs10⟩)
     obtain⟨pv2e,hpv2e,rfl⟩:=mG hpv2
     have hs11:=hs7.trans (mZ hpv2e)
     exact zm (L':=[z4,z6]++(markB rs2)) js (pn4 _ _ _ [] ⟨_,U,hs11⟩)
    refine qR 5 8 U (tf 13 U U (λ_ _ _=>nI U (cb (show false=((aP y4.x.Kind 1 4)&&(kindsP y4.x.Kind y4.x))from by first|(rw[c3];rfl)|(rw[c3];rfl)|simp[c3]))) ?_)
    refine tn 14 U (my yO (ia hr4 ((aP y4.x.Kind 1 4)&&(kindsP y4.x.Kind y4.x)) 200) U (λu4 hu4=>?_) (λpv4 hpv4 e=>?_))
    .obtain⟨rx4,hrx4,rfl⟩:=oy hu4
     have hs12:=hs7.trans (pi hrx4)
     cases rx4
     refine⟨jn,aV kr (qK 7 [4,5] U (bV 5 [82,83,84,85,86,87] 82 87 (y4.x.Kind != 4) U (λc5 hk4=>?_) (λe=>?_)))⟩
     .exact qL 5 [0] U (hk4 _ U)
     refine aC (my yO (ia hr4 (decide ((i2:Int)<(vC .i64 (((ay p).length:Int)-1)))||(y4.x.Kind != 4)) 200) U (λu5 hu5=>?_) (λpv5 hpv5 e=>?_))
     .obtain⟨rx5,hrx5,rfl⟩:=oy hu5
      have hs13:=hs12.trans (pi hrx5)
      cases rx5
      exact aJ (eF (bz (L':=[z4,z6,z5,z3,z1,z2]++(markB rs2)) js (cn (L':=rdH l4 dm4 lp4 (([z5,z3,z1,z2])++markB rs2)) ap (nx4 hr4 _ _ ⟨hs13,(hl4.t hlr4)⟩ lf))))
     obtain⟨pv5e,hpv5e,rfl⟩:=mG hpv5
     have hs14:=hs12.trans (mZ hpv5e)
     exact zm (L':=[z4,z6]++(markB rs2)) js (pn4 _ _ _ [] ⟨_,U,hs14⟩)
    obtain⟨pv4e,hpv4e,rfl⟩:=mG hpv4
    have hs15:=hs7.trans (mZ hpv4e)
    exact zm (L':=[z4,z6]++(markB rs2)) js (pn4 _ _ _ [] ⟨_,U,hs15⟩)
   .rintro dm4 hh4 hn4 ⟨hs16,hl4⟩ hln4 hl04
    exact cn (L':=[z5,z3,z1,z2]++(markB (dm4::rs2))) ap (qT 3 U (oi i2 U (qO 2 U (bz (L':=[z1,z2]++(markB (dm4::rs2))) js (ag1 ((i2+1),(dm4::rs2),hn4,rz2) _ (Nat.lt_succ_self _) ⟨kx hd2,io hd2,hs16,(((hl2.t hle3).t hl4).t hln4)⟩ rd)))))
   .exact xf
   .exact xf
   rintro dm4 ch hn4 L0 ⟨pv_,rfl,hpv_⟩ hl04
   exact nB (dm4::rs2) GC hX (congrArg (exW stopV (λr:Unit=>(.tuple #[]:Value))) hpv_)
  rintro i1 y1 rz1 hd1 dj aY er gr hs17 hx1 ag2 e
  try have hsy:=Bt hsm (fX hd1)
  refine sr (tO dj U (qO 9 U (aC (iR wi ty79 hp.Rules.1 aY U U U (λ_ _ _ e=>e) (λq5 r4 A8 ok4=>dz ty79 A8 U U (ba zc79 (λb11=>gj (aQ 0 ty79 U U U U U U (aJ ?_)))))))))
  let z7:Nat×Obj:=(b11,O (Rule.cells y1 r4) 79)
  refine eM ([z7,z2]) mixed kr jn (λmq _=>?_)
  refine qB [0] U (tf 1 U U (rj 0 ty9 U U U) (qB [2] U (tf 3 U U (rj 1 ty58 U U U) (tm 4 U ?_))))
  have ho5:0<=((i1:Int):Int)/\((i1:Int):Int)<((p.Kinds).length:Int):=(by have hm:=MP hrx1;simp only[decide_eq_true_eq,decide_eq_false_iff_not,xB,xD,zE,Bool.not_eq_false',Bool.and_eq_false_iff,Bool.or_eq_false_iff,beq_iff_eq,beq_eq_false_iff_ne,bne_iff_ne,bne_eq_false_iff_eq,jA,zA,jB,List.length_drop]at hm;omega)
  refine eS 5 (enc:=λy=>[.string y]) mq jn ei vy ty9 hp.Kinds.1 ho5 (cN ho5) U U U U kr (λq6 A9=>tf 6 U U (rh ty9 A9 U) (qA [7,8] U ?_))
  refine du 43 U (λc6=>?_) (λc6=>?_)
  .refine qB [9] U (tf 10 U U (rj 0 ty3 U U U) (tn 11 U (fe Aw (gO h y1.Think 0 1099511627775) U (⟨jn,tf 12 U U (λ_ _ _=>nI U (cb (show(aP y1.Think 0 1099511627775)=((y1.Kind.toList==(nthI p.Kinds (i1:Int)).toList)&&(aP y1.Think 0 1099511627775))from by first|(rw[c6];rfl)|(rw[c6];rfl)|simp[c6]))) ?_⟩))))
   refine tn 13 U (my yO (ia h ((y1.Kind.toList==(nthI p.Kinds (i1:Int)).toList)&&(aP y1.Think 0 1099511627775)) 200) U (λu6 hu6=>?_) (λpv6 hpv6 e=>?_))
   .obtain⟨rx6,hrx6,rfl⟩:=oy hu6
    have hs18:=hs17.trans (pi hrx6)
    cases rx6
    exact⟨jn,(aV kr (qT 2 U (oi i1 U (qO 2 U (bz (L':=[z2]) js (ag2 hs18))))))⟩
   obtain⟨pv6e,hpv6e,rfl⟩:=mG hpv6
   have hs19:=hs17.trans (mZ hpv6e)
   exact gH (nB [] GC hX (congrArg (exW stopV (λr:Unit=>(.tuple #[]:Value))) hs19))
  refine qR 9 3 U (tf 12 U U (λ_ _ _=>nI U (cb (show false=((y1.Kind.toList==(nthI p.Kinds (i1:Int)).toList)&&(aP y1.Think 0 1099511627775))from by first|(rw[c6];rfl)|(rw[c6];rfl)|simp[c6]))) ?_)
  refine tn 13 U (my yO (ia h ((y1.Kind.toList==(nthI p.Kinds (i1:Int)).toList)&&(aP y1.Think 0 1099511627775)) 200) U (λu7 hu7=>?_) (λpv7 hpv7 e=>?_))
  .obtain⟨rx7,hrx7,rfl⟩:=oy hu7
   have hs20:=hs17.trans (pi hrx7)
   cases rx7
   exact⟨jn,(aV kr (qT 2 U (oi i1 U (qO 2 U (bz (L':=[z2]) js (ag2 hs20))))))⟩
  obtain⟨pv7e,hpv7e,rfl⟩:=mG hpv7
  have hs21:=hs17.trans (mZ hpv7e)
  exact gH (nB [] GC hX (congrArg (exW stopV (λr:Unit=>(.tuple #[]:Value))) hs21))
 obtain⟨pv1e,hpv1e,rfl⟩:=mG hpv1
 have hs22:=hs0.trans (mZ hpv1e)
 exact gH (nB [] GC hX (congrArg (exW stopV (λr:Unit=>(.tuple #[]:Value))) hs22))
theorem wj(h:HF)(p:Policy)(gS:eA)(p_q:Addr)(hp:zN h p gS)(ap_z:At h p_q (kD p gS))(hsm:smP p)(hk:Kinds h):Gu prog 277 [.pointer (some p_q)] h (exW stopV (λr:Unit=>(.tuple #[]:Value)) (dA p)):=by
 refine cJ Le U ntmps277 U λX hM hX=>?_
 have hs0:dA p=dA p:=rfl
 refine sr (dz ty64 ap_z U U ?_)
 refine aC (my call278 (AW h p gS hp ob) U (λu1 hu1=>?_) (λpv1 hpv1 e=>?_))
 .obtain⟨rx1,hrx1,rfl⟩:=oy hu1
  have hs1:=hs0.trans (pi hrx1)
  cases rx1
  refine qO 3 U (dz ty64 ap_z U U ?_)
  refine aC (my call279 (AX h p gS hp ob) U (λu2 hu2=>?_) (λpv2 hpv2 e=>?_))
  .obtain⟨rx2,hrx2,rfl⟩:=oy hu2
   have hs2:=hs1.trans (pi hrx2)
   cases rx2
   refine qO 2 U (dz ty64 ap_z U U ?_)
   refine aC (my call280 (BS h p gS hp ob hk) U (λu3 hu3=>?_) (λpv3 hpv3 e=>?_))
   .obtain⟨rx3,hrx3,rfl⟩:=oy hu3
    have hs3:=hs2.trans (pi hrx3)
    cases rx3
    refine aJ ?_
    have hs4:dA p=(Except.ok ()):=hs3
    exact et (yc [] [] Le U hX trivial (congrArg (exW stopV (λr:Unit=>(.tuple #[]:Value))) hs4))
   obtain⟨pv3e,hpv3e,rfl⟩:=mG hpv3
   have hs5:=hs2.trans (mZ hpv3e)
   exact gH (nB [] Le hX (congrArg (exW stopV (λr:Unit=>(.tuple #[]:Value))) hs5))
  obtain⟨pv2e,hpv2e,rfl⟩:=mG hpv2
  have hs6:=hs1.trans (mZ hpv2e)
  exact gH (nB [] Le hX (congrArg (exW stopV (λr:Unit=>(.tuple #[]:Value))) hs6))
 obtain⟨pv1e,hpv1e,rfl⟩:=mG hpv1
 have hs7:=hs0.trans (mZ hpv1e)
 exact gH (nB [] Le hX (congrArg (exW stopV (λr:Unit=>(.tuple #[]:Value))) hs7))
theorem wZ(rec:List ByteArray->Expr->Expr)(h:HF)(offices:List ByteArray)(dI:Option Addr)(dH:Nat)(x:Expr)(gd:cL)(hrec:∀(h:HF)(qoffices:List ByteArray)(jW:Option Addr)(jU:Nat)(qx:Expr)(kU:cL)(hqoffices:SlC aAM h jW jU qoffices)(hqx:jF h qx kU)(hsz:qx.dep<=2000000)(_:qx.dep<x.dep),j1 prog 281 [.slice jW qoffices.length jU,.agg (zC qx kU).toArray] h (λv h'=>∃(rr0:cL),v=.agg (zC (rec qoffices qx) rr0).toArray/\jF h' (rec qoffices qx) rr0))(hoffices:SlC aAM h dI dH offices)(hx:jF h x gd)(hsz:x.dep<=2000000):j1 prog 281 [.slice dI offices.length dH,.agg (zC x gd).toArray] h (λv h'=>∃(rr0:cL),v=.agg (zC (ao.F rec offices x) rr0).toArray/\jF h' (ao.F rec offices x) rr0):=by
 refine cJ func281 U ntmps281 U λX hM hX=>?_
 have hs0:ao.F rec offices x=ao.F rec offices x:=rfl
 have hln:=Expr.On x
 refine sr (cy (λb1=>ba zc62 (λb2=>qL 4 [] U (cT 1 ty3 U U U U U U (qO 4 U (cK 1 ty62 U U U (ai call283 (nU _ _ _ (show jF h (qG x.Kind x.N 0 x.Name x.L) (cL.mk gd.lX gd.mm)from aAf hx.list)) U (aJ (ae hs0 U (λc1 hs1=>?_) (λc1 hs2=>?_))))))))))
 .refine qK 4 [1] U (ai NB (li _ _ _ _ x.Name hoffices) U (qL 1 [] U (cT 1 ty3 U U U U U U (qL 10 [1] U (cT 1 ty60 U U U U U U (qL 8 [] U ?_))))))
  let z1:Nat×Obj:=(b2,O [I 0,I 0,I 0,.string (⟨#[]⟩:ByteArray),.slice none 0 0] 62)
  refine lp2 x.L (λi w=>[(0,.slice dI offices.length dH),(3,Q b1),(4,Q b2),(19,.slice gd.lX x.L.length gd.mm),(20,I (x.L.length:Int)),(21,I (i:Int))]) (λw=>w.2.2.2.2) (λw=>[z1,(b1,O [I x.Kind,I x.N,I (aW offices x.Name),.string x.Name,.slice w.2.1 w.1.length w.2.2.1] 62)]++(w.2.2.2.1)) (λi w=>dG aAF 62 w.2.2.2.2 w.1 w.2.1 w.2.2.1 w.2.2.2.1/\w.1.length<=0+i/\jM h w.2.2.2.2) (λs1 i w=>(ao.L1 rec offices (ao.K1 offices x)) s1 w.1) ([],none,0,[],h) hx.list.1.1 hs1 ⟨dG.nil,lo,lf⟩ ?_ ?_
  .rintro i1 ⟨lk,qn,qm,Bn,hh1⟩ fp hs3 ⟨sN,Fk,hl1⟩ e
   try dsimp only at sN Fk hl1
   let z3:Nat×Obj:=(b1,O [I x.Kind,I x.N,I (aW offices x.Name),.string x.Name,.slice qn lk.length qm] 62)
   let z15:Nat×Obj:=(b2,O [I x.Kind,I x.N,I (aW offices x.Name),.string x.Name,.slice qn lk.length qm] 62)
   refine sr (cK 1 ty62 U U U (aQ 0 ty62 U U U U U U (il (L':=[z15,z3]++(Bn)) U (aJ (fF aAi ([z15,z3]) Bn ([]) ap hM sN (λh3 hle3 sl2=>?_))))))
   have hs4:ao.F rec offices x=(qG x.Kind x.N (aW offices x.Name) x.Name lk):=hs3
   exact jx [.agg (vB [I x.Kind,I x.N,I (aW offices x.Name),.string x.Name,.slice qn lk.length qm])] func281 U ⟨⟨0,_,_,_,_,U,U,.inl ⟨ty62,U⟩⟩,trivial⟩ ⟨(cL.mk qn qm),congrArg (λr:Expr=>(.agg (zC r (cL.mk qn qm)).toArray:Value)) hs4.symm,(by rw[hs4];exact(show jF h3 (qG x.Kind x.N (aW offices x.Name) x.Name lk) (cL.mk qn qm)from aAf sl2))⟩
  rintro i1 ⟨lk,qn,qm,Bn,hh1⟩ y1 rz1 hd1 dj aY er gr hs5 ⟨sN,Fk,hl1⟩ hx1 ag1 e
  try dsimp only at sN Fk hl1
  have hdy:=aAe (fX hd1)
  refine sr (tO dj U (qO 8 U (aC (iR lB ty62 (hx.list.mono aAi hl1).1 aY U U U (λ_ _ _ e=>e) (λq2 r2 A2 ok3=>?_)))))
  let z4:Nat×Obj:=(b1,O [I x.Kind,I x.N,I (aW offices x.Name),.string x.Name,.slice qn lk.length qm] 62)
  refine dz ty62 A2 U U (ba zc62 (λb5=>aQ 0 ty62 U U U U U U (il (L':=[(b5,O (zC y1 r2) 62),z1,z4]++(Bn)) U (aJ ?_))))
  let z8:Nat×Obj:=(b5,O (zC y1 r2) 62)
  refine eM ([z8,z1]) mixed kr jn (λem _=>?_)
  refine qB [0,2] U (tf 3 U U (λ_ _ hj=>jO ty62 U (hj.nth (i:=0) U) U) ?_)
  refine nT 1 4 kr U U ?_ ?_ 
  .refine fw (zw ty60 U (oe (i:=2) U) U) (⟨jn,tn 4 U (cS IA (hrec _ _ _ _ _ _ (hoffices.mono aBr hl1) ok3 ob (aAe (fX hd1))) U (λv2 h4 hle4 hp2=>?_))⟩)
   obtain⟨rr4,rfl,ok4⟩:=hp2
   refine⟨jl hle4,tu hle4 (tn 5 U (bK (cells:=[I ((rec offices y1).Kind),I ((rec offices y1).N),I ((rec offices y1).No),.string ((rec offices y1).Name),.slice rr4.lX ((rec offices y1).L.length) rr4.mm]) lB ty62 zc62 U U kr (λb6=>⟨jn,?_⟩)))⟩
   let z12:Nat×Obj:=(b6,O [I ((rec offices y1).Kind),I ((rec offices y1).N),I ((rec offices y1).No),.string ((rec offices y1).Name),.slice rr4.lX ((rec offices y1).L.length) rr4.mm] 62)
   exact tn 6 U (dK aBJ ([z12,z8,z1,z4]) ([]) (λG=>[z12,z8,z1,z4]++G) ap (λ_=>ap) lB ty62 zc62 U bytes62 (sN.mono aAi hle4) U U (fd 0 U (cE (R:=aAF) (rec offices y1) U ⟨rr4,U,ok4⟩)) lo lo (λob2 oc2 G2 gr2=>⟨jn,qB [7] U (tn 8 U (ku 3 ty60 U U U U U U (⟨jn,aV kr (qT 2 U (oi i1 U (qO 2 U (bz (L':=[z1,(b1,O [I x.Kind,I x.N,I (aW offices x.Name),.string x.Name,.slice ob2 ((lk++[(rec offices y1)]).length) oc2] 62)]++G2) js (ag1 ((lk++[(rec offices y1)]),ob2,oc2,G2,h4) hs5 ⟨gr2,lo,(hl1.t hle4)⟩)))))⟩)))⟩))
  refine cS IA (hrec _ _ _ _ _ _ (hoffices.mono aBr hl1) ok3 ob (aAe (fX hd1))) U (λv3 h5 hle5 hp3=>?_)
  obtain⟨rr5,rfl,ok5⟩:=hp3
  refine⟨jl hle5,tu hle5 ?_⟩
  refine nT 1 5 kr U U ?_ ?_ 
  .refine fw (zw ty60 U (oe (i:=2) U) U) (⟨jn,tn 5 U (bK (cells:=[I ((rec offices y1).Kind),I ((rec offices y1).N),I ((rec offices y1).No),.string ((rec offices y1).Name),.slice rr5.lX ((rec offices y1).L.length) rr5.mm]) lB ty62 zc62 U U kr (λb7=>⟨jn,?_⟩))⟩)
   let z13:Nat×Obj:=(b7,O [I ((rec offices y1).Kind),I ((rec offices y1).N),I ((rec offices y1).No),.string ((rec offices y1).Name),.slice rr5.lX ((rec offices y1).L.length) rr5.mm] 62)
   exact tn 6 U (dK aBJ ([z13,z8,z1,z4]) ([]) (λG=>[z13,z8,z1,z4]++G) ap (λ_=>ap) lB ty62 zc62 U bytes62 (sN.mono aAi hle5) U U (fd 0 U (cE (R:=aAF) (rec offices y1) U ⟨rr5,U,ok5⟩)) lo lo (λob3 oc3 G3 gr3=>⟨jn,qB [7] U (tn 8 U (ku 3 ty60 U U U U U U (⟨jn,aV kr (qT 2 U (oi i1 U (qO 2 U (bz (L':=[z1,(b1,O [I x.Kind,I x.N,I (aW offices x.Name),.string x.Name,.slice ob3 ((lk++[(rec offices y1)]).length) oc3] 62)]++G3) js (ag1 ((lk++[(rec offices y1)]),ob3,oc3,G3,h5) hs5 ⟨gr3,lo,(hl1.t hle5)⟩)))))⟩)))⟩))
  refine bK (cells:=[I ((rec offices y1).Kind),I ((rec offices y1).N),I ((rec offices y1).No),.string ((rec offices y1).Name),.slice rr5.lX ((rec offices y1).L.length) rr5.mm]) lB ty62 zc62 U U kr (λb8=>⟨jn,tn 1 U (fw (zw ty60 U (oe (i:=3) U) U) (⟨jn,?_⟩))⟩)
  let z14:Nat×Obj:=(b8,O [I ((rec offices y1).Kind),I ((rec offices y1).N),I ((rec offices y1).No),.string ((rec offices y1).Name),.slice rr5.lX ((rec offices y1).L.length) rr5.mm] 62)
  exact tn 6 U (dK aBJ ([z14,z8,z1,z4]) ([]) (λG=>[z14,z8,z1,z4]++G) ap (λ_=>ap) lB ty62 zc62 U bytes62 (sN.mono aAi hle5) U U (fd 0 U (cE (R:=aAF) (rec offices y1) U ⟨rr5,U,ok5⟩)) lo lo (λob4 oc4 G4 gr4=>⟨jn,qB [7] U (tn 8 U (ku 3 ty60 U U U U U U (⟨jn,aV kr (qT 2 U (oi i1 U (qO 2 U (bz (L':=[z1,(b1,O [I x.Kind,I x.N,I (aW offices x.Name),.string x.Name,.slice ob4 ((lk++[(rec offices y1)]).length) oc4] 62)]++G4) js (ag1 ((lk++[(rec offices y1)]),ob4,oc4,G4,h5) hs5 ⟨gr4,lo,(hl1.t hle5)⟩)))))⟩)))⟩))
 refine qK 10 [1] U (cT 1 ty60 U U U U U U (qL 8 [] U ?_))
 let z2:Nat×Obj:=(b2,O [I 0,I 0,I 0,.string (⟨#[]⟩:ByteArray),.slice none 0 0] 62)
 refine lp2 x.L (λi w=>[(0,.slice dI offices.length dH),(3,Q b1),(4,Q b2),(19,.slice gd.lX x.L.length gd.mm),(20,I (x.L.length:Int)),(21,I (i:Int))]) (λw=>w.2.2.2.2) (λw=>[z2,(b1,O [I x.Kind,I x.N,I 0,.string x.Name,.slice w.2.1 w.1.length w.2.2.1] 62)]++(w.2.2.2.1)) (λi w=>dG aAF 62 w.2.2.2.2 w.1 w.2.1 w.2.2.1 w.2.2.2.1/\w.1.length<=0+i/\jM h w.2.2.2.2) (λs2 i w=>(ao.L2 rec offices (ao.K2 x)) s2 w.1) ([],none,0,[],h) hx.list.1.1 hs2 ⟨dG.nil,lo,lf⟩ ?_ ?_
 .rintro i2 ⟨lj,ql,qj,Bh,hh2⟩ xn hs6 ⟨sJ,Fd,hl2⟩ e
  try dsimp only at sJ Fd hl2
  let z5:Nat×Obj:=(b1,O [I x.Kind,I x.N,I 0,.string x.Name,.slice ql lj.length qj] 62)
  let z16:Nat×Obj:=(b2,O [I x.Kind,I x.N,I 0,.string x.Name,.slice ql lj.length qj] 62)
  refine sr (cK 1 ty62 U U U (aQ 0 ty62 U U U U U U (il (L':=[z16,z5]++(Bh)) U (aJ (fF aAi ([z16,z5]) Bh ([]) ap hM sJ (λh8 hle8 sl4=>?_))))))
  have hs7:ao.F rec offices x=(qG x.Kind x.N 0 x.Name lj):=hs6
  exact jx [.agg (vB [I x.Kind,I x.N,I 0,.string x.Name,.slice ql lj.length qj])] func281 U ⟨⟨0,_,_,_,_,U,U,.inl ⟨ty62,U⟩⟩,trivial⟩ ⟨(cL.mk ql qj),congrArg (λr:Expr=>(.agg (zC r (cL.mk ql qj)).toArray:Value)) hs7.symm,(by rw[hs7];exact(show jF h8 (qG x.Kind x.N 0 x.Name lj) (cL.mk ql qj)from aAf sl4))⟩
 rintro i2 ⟨lj,ql,qj,Bh,hh2⟩ y2 rz2 hd2 xm sH E2 KH hs8 ⟨sJ,Fd,hl2⟩ hx2 ag2 e
 try dsimp only at sJ Fd hl2
 have hdy:=aAe (fX hd2)
 refine sr (tO xm U (qO 8 U (aC (iR lB ty62 (hx.list.mono aAi hl2).1 sH U U U (λ_ _ _ e=>e) (λq4 r4 A4 ok8=>?_)))))
 let z6:Nat×Obj:=(b1,O [I x.Kind,I x.N,I 0,.string x.Name,.slice ql lj.length qj] 62)
 refine dz ty62 A4 U U (ba zc62 (λb11=>aQ 0 ty62 U U U U U U (il (L':=[(b11,O (zC y2 r4) 62),z2,z6]++(Bh)) U (aJ ?_))))
 let z7:Nat×Obj:=(b11,O (zC y2 r4) 62)
 refine eM ([z7,z2]) mixed kr jn (λmq _=>?_)
 refine qB [0,2] U (tf 3 U U (λ_ _ hj=>jO ty62 U (hj.nth (i:=0) U) U) ?_)
 refine nT 1 4 kr U U ?_ ?_ 
 .refine fw (zw ty60 U (oe (i:=2) U) U) (⟨jn,tn 4 U (cS IA (hrec _ _ _ _ _ _ (hoffices.mono aBr hl2) ok8 ob (aAe (fX hd2))) U (λv5 h9 hle9 hp5=>?_))⟩)
  obtain⟨rr9,rfl,ok9⟩:=hp5
  refine⟨jl hle9,tu hle9 (tn 5 U (bK (cells:=[I ((rec offices y2).Kind),I ((rec offices y2).N),I ((rec offices y2).No),.string ((rec offices y2).Name),.slice rr9.lX ((rec offices y2).L.length) rr9.mm]) lB ty62 zc62 U U kr (λb12=>⟨jn,?_⟩)))⟩
  let z11:Nat×Obj:=(b12,O [I ((rec offices y2).Kind),I ((rec offices y2).N),I ((rec offices y2).No),.string ((rec offices y2).Name),.slice rr9.lX ((rec offices y2).L.length) rr9.mm] 62)
  exact tn 6 U (dK aBJ ([z11,z7,z2,z6]) ([]) (λG=>[z11,z7,z2,z6]++G) ap (λ_=>ap) lB ty62 zc62 U bytes62 (sJ.mono aAi hle9) U U (fd 0 U (cE (R:=aAF) (rec offices y2) U ⟨rr9,U,ok9⟩)) lo lo (λob6 oc6 G6 gr6=>⟨jn,qB [7] U (tn 8 U (ku 3 ty60 U U U U U U (⟨jn,aV kr (qT 2 U (oi i2 U (qO 2 U (bz (L':=[z2,(b1,O [I x.Kind,I x.N,I 0,.string x.Name,.slice ob6 ((lj++[(rec offices y2)]).length) oc6] 62)]++G6) js (ag2 ((lj++[(rec offices y2)]),ob6,oc6,G6,h9) hs8 ⟨gr6,lo,(hl2.t hle9)⟩)))))⟩)))⟩))
 refine cS IA (hrec _ _ _ _ _ _ (hoffices.mono aBr hl2) ok8 ob (aAe (fX hd2))) U (λv6 h10 hle10 hp6=>?_)
 obtain⟨rr10,rfl,ok10⟩:=hp6
 refine⟨jl hle10,tu hle10 ?_⟩
 refine nT 1 5 kr U U ?_ ?_ 
 .refine fw (zw ty60 U (oe (i:=2) U) U) (⟨jn,tn 5 U (bK (cells:=[I ((rec offices y2).Kind),I ((rec offices y2).N),I ((rec offices y2).No),.string ((rec offices y2).Name),.slice rr10.lX ((rec offices y2).L.length) rr10.mm]) lB ty62 zc62 U U kr (λb13=>⟨jn,?_⟩))⟩)
  let z9:Nat×Obj:=(b13,O [I ((rec offices y2).Kind),I ((rec offices y2).N),I ((rec offices y2).No),.string ((rec offices y2).Name),.slice rr10.lX ((rec offices y2).L.length) rr10.mm] 62)
  exact tn 6 U (dK aBJ ([z9,z7,z2,z6]) ([]) (λG=>[z9,z7,z2,z6]++G) ap (λ_=>ap) lB ty62 zc62 U bytes62 (sJ.mono aAi hle10) U U (fd 0 U (cE (R:=aAF) (rec offices y2) U ⟨rr10,U,ok10⟩)) lo lo (λob7 oc7 G7 gr7=>⟨jn,qB [7] U (tn 8 U (ku 3 ty60 U U U U U U (⟨jn,aV kr (qT 2 U (oi i2 U (qO 2 U (bz (L':=[z2,(b1,O [I x.Kind,I x.N,I 0,.string x.Name,.slice ob7 ((lj++[(rec offices y2)]).length) oc7] 62)]++G7) js (ag2 ((lj++[(rec offices y2)]),ob7,oc7,G7,h10) hs8 ⟨gr7,lo,(hl2.t hle10)⟩)))))⟩)))⟩))
 refine bK (cells:=[I ((rec offices y2).Kind),I ((rec offices y2).N),I ((rec offices y2).No),.string ((rec offices y2).Name),.slice rr10.lX ((rec offices y2).L.length) rr10.mm]) lB ty62 zc62 U U kr (λb14=>⟨jn,tn 1 U (fw (zw ty60 U (oe (i:=3) U) U) (⟨jn,?_⟩))⟩)
 let z10:Nat×Obj:=(b14,O [I ((rec offices y2).Kind),I ((rec offices y2).N),I ((rec offices y2).No),.string ((rec offices y2).Name),.slice rr10.lX ((rec offices y2).L.length) rr10.mm] 62)
 exact tn 6 U (dK aBJ ([z10,z7,z2,z6]) ([]) (λG=>[z10,z7,z2,z6]++G) ap (λ_=>ap) lB ty62 zc62 U bytes62 (sJ.mono aAi hle10) U U (fd 0 U (cE (R:=aAF) (rec offices y2) U ⟨rr10,U,ok10⟩)) lo lo (λob8 oc8 G8 gr8=>⟨jn,qB [7] U (tn 8 U (ku 3 ty60 U U U U U U (⟨jn,aV kr (qT 2 U (oi i2 U (qO 2 U (bz (L':=[z2,(b1,O [I x.Kind,I x.N,I 0,.string x.Name,.slice ob8 ((lj++[(rec offices y2)]).length) oc8] 62)]++G8) js (ag2 ((lj++[(rec offices y2)]),ob8,oc8,G8,h10) hs8 ⟨gr8,lo,(hl2.t hle10)⟩)))))⟩)))⟩))
theorem oU:∀(m:Nat)(h:HF)(offices:List ByteArray)(dI:Option Addr)(dH:Nat)(x:Expr)(gd:cL)(_:x.dep<=m)(hoffices:SlC aAM h dI dH offices)(hx:jF h x gd)(hsz:x.dep<=2000000),j1 prog 281 [.slice dI offices.length dH,.agg (zC x gd).toArray] h (λv h'=>∃(rr0:cL),v=.agg (zC (ao.go m offices x) rr0).toArray/\jF h' (ao.go m offices x) rr0)
 |0,h,offices,dI,dH,x,gd,hd,hoffices,hx,hsz=>absurd hd (Nat.not_le.2 (Expr.lO _))
 |m+1,h,offices,dI,dH,x,gd,hd,hoffices,hx,hsz=>wZ (ao.go m) h offices dI dH x gd (λqh_ qoffices jW jU qx kU qhoffices qhx qhsz qd=>oU m qh_ qoffices jW jU qx kU ob qhoffices qhx qhsz) hoffices hx hsz
theorem rk(h:HF)(offices:List ByteArray)(dI:Option Addr)(dH:Nat)(x:Expr)(gd:cL)(hoffices:SlC aAM h dI dH offices)(hx:jF h x gd)(hsz:x.dep<=2000000):j1 prog 281 [.slice dI offices.length dH,.agg (zC x gd).toArray] h (λv h'=>∃(rr0:cL),v=.agg (zC (ao offices x) rr0).toArray/\jF h' (ao offices x) rr0):=oU _ h offices dI dH x gd (xG _) hoffices hx hsz
theorem yI(h:HF)(p:Policy)(gS:eA)(hp:zN h p gS)(hsm:smP p)(hk:Kinds h):j1 prog 184 [.agg (kD p gS).toArray] h (λv h'=>∃(rr0:eA),v=.tuple #[.agg (kD ((ef p).1) rr0).toArray,I ((ef p).2)]/\zN h' ((ef p).1) rr0):=by
 refine cJ func184 U ntmps184 U λX hM hX=>?_
 have hs0:ef p=ef p:=rfl
 have hsc:=hsm.change
 have hsr:=hsm.rules
 refine sr (cy (λb1=>ba zc64 (λb2=>qO 4 U (aX 1 U hM (λh1 hle1 hb1=>aC (eG U U (ai (v:=I (attR (dA p))) call276 (yH h1 (.func (.func 277) #[] #[Q b1]) (dA p) (m8 (args:=[]) (cap:=[Q b1]) call277 (wj h1 p gS ⟨b1,0,none⟩ (hp.mono hle1) (cA hb1) (by first|assumption|omega) (hk.mono hle1)))) U (qO 8 U (ae hs0 U (λc1 hs1=>?_) (λc1 hs2=>?_))))))))))
 .refine sr (cK 0 ty64 U U U (av (aQ 0 ty64 U U U U U U (an ?_))))
  have hs3:ef p=((xM (⟨#[]⟩:ByteArray) ([]) ([]) ([]) (qG 0 0 0 (⟨#[]⟩:ByteArray) ([])) 0),(attR (dA p))):=hs1
  exact jx [.agg (vB [.string (⟨#[]⟩:ByteArray),.slice none 0 0,.slice none 0 0,.slice none 0 0,I 0,I 0,I 0,.string (⟨#[]⟩:ByteArray),.slice none 0 0,I 0]),I (attR (dA p))] func184 U ⟨⟨0,_,_,_,_,U,U,.inl ⟨ty64,U⟩⟩,U,trivial⟩ ⟨(eA.mk none 0 none 0 none 0 (cL.mk none 0)),congrArg (λr:(Policy×Int)=>(.tuple #[.agg (kD r.1 (eA.mk none 0 none 0 none 0 (cL.mk none 0))).toArray,I r.2]:Value)) hs3.symm,(by rw[hs3];exact(show zN h1 (xM (⟨#[]⟩:ByteArray) ([]) ([]) ([]) (qG 0 0 0 (⟨#[]⟩:ByteArray) ([])) 0) (eA.mk none 0 none 0 none 0 (cL.mk none 0))from⟨vE,vE,vE,(show jF h1 (qG 0 0 0 (⟨#[]⟩:ByteArray) ([])) (cL.mk none 0)from aAf vE)⟩))⟩
 refine qT 3 U (dz ty64 (cA hb1) U U (aQ 0 ty64 U U U U U U (qL 4 [] U (cT 0 ty59 U U U U U U (qL 5 [] U (jb (j:=3) ty59 (cA hb1) U U (qL 3 [] U ?_)))))))
 refine lp2 p.Rules (λi w=>[(1,Q b1),(2,Q b2),(15,.slice gS.nO p.Rules.length gS.nN),(16,I (p.Rules.length:Int)),(17,I (i:Int))]) (λw=>w.2.2.2.2) (λw=>[(b2,O [.string p.Name,.slice gS.i8 p.Kinds.length gS.i7,.slice gS.gq p.Offices.length gS.gp,.slice w.2.1 w.1.length w.2.2.1,I p.Change.Kind,I p.Change.N,I p.Change.No,.string p.Change.Name,.slice gS.Change.lX p.Change.L.length gS.Change.mm,I p.Mode] 64)]++(w.2.2.2.1)) (λi w=>dG Rule.rp 79 w.2.2.2.2 w.1 w.2.1 w.2.2.1 w.2.2.2.1/\w.1.length<=0+i/\jM h1 w.2.2.2.2) (λs1 i w=>(ef.L1 p (ef.K1 p)) s1 i w.1) ([],none,0,[],h1) ((hp.Rules.mono aBx hle1).1.1) hs2 ⟨dG.nil,lo,lf⟩ ?_ ?_
 .rintro i1 ⟨mY,sM,sL,Bm,hh1⟩ fp hs4 ⟨xw,Fi,hl1⟩ e
  try dsimp only at xw Fi hl1
  refine qK 3 [] U (jb (j:=2) ty58 ((cA hb1).mono hl1) U U (qL 1 [] U (zI (j:=4) ty62 ((cA hb1).mono hl1) U U (aC (cS IA (rk _ _ _ _ _ _ (hp.Offices.mono aBr (hle1.t hl1)) (hp.Change.mono (hle1.t hl1)) ob) U (λv3 h5 hle5 hp3=>?_))))))
  obtain⟨rr4,rfl,ok4⟩:=hp3
  let z2:Nat×Obj:=(b2,O [.string p.Name,.slice gS.i8 p.Kinds.length gS.i7,.slice gS.gq p.Offices.length gS.gp,.slice sM mY.length sL,I ((ao p.Offices p.Change).Kind),I ((ao p.Offices p.Change).N),I ((ao p.Offices p.Change).No),.string ((ao p.Offices p.Change).Name),.slice rr4.lX ((ao p.Offices p.Change).L.length) rr4.mm,I p.Mode] 64)
  refine qL 1 [] U (cT 0 ty62 U U U U U U (qO 3 U (cK 0 ty64 U U U (aQ 0 ty64 U U U U U U (il (L':=[z2]++(Bm)) U (an (fF aBx ([z2]) Bm ([]) ap hM (xw.mono aBx hle5) (λh6 hle6 sl2=>?_))))))))
  have hs5:ef p=((xM p.Name p.Kinds p.Offices mY (qG ((ao p.Offices p.Change).Kind) ((ao p.Offices p.Change).N) ((ao p.Offices p.Change).No) ((ao p.Offices p.Change).Name) ((ao p.Offices p.Change).L)) p.Mode),0):=hs4
  exact jx [.agg (kD (xM p.Name p.Kinds p.Offices mY (qG ((ao p.Offices p.Change).Kind) ((ao p.Offices p.Change).N) ((ao p.Offices p.Change).No) ((ao p.Offices p.Change).Name) ((ao p.Offices p.Change).L)) p.Mode) (eA.mk gS.i8 gS.i7 gS.gq gS.gp sM sL (cL.mk rr4.lX rr4.mm))).toArray,I 0] func184 U ⟨⟨0,_,_,_,_,U,U,.inl ⟨ty64,U⟩⟩,U,trivial⟩ ⟨(eA.mk gS.i8 gS.i7 gS.gq gS.gp sM sL (cL.mk rr4.lX rr4.mm)),congrArg (λr:(Policy×Int)=>(.tuple #[.agg (kD r.1 (eA.mk gS.i8 gS.i7 gS.gq gS.gp sM sL (cL.mk rr4.lX rr4.mm))).toArray,I r.2]:Value)) hs5.symm,(by rw[hs5];exact(show zN h6 (xM p.Name p.Kinds p.Offices mY (qG ((ao p.Offices p.Change).Kind) ((ao p.Offices p.Change).N) ((ao p.Offices p.Change).No) ((ao p.Offices p.Change).Name) ((ao p.Offices p.Change).L)) p.Mode) (eA.mk gS.i8 gS.i7 gS.gq gS.gp sM sL (cL.mk rr4.lX rr4.mm))from⟨(hp.Kinds.mono aBr (((hle1.t hl1).t hle5).t hle6)),(hp.Offices.mono aBr (((hle1.t hl1).t hle5).t hle6)),sl2,(show jF h6 (qG ((ao p.Offices p.Change).Kind) ((ao p.Offices p.Change).N) ((ao p.Offices p.Change).No) ((ao p.Offices p.Change).Name) ((ao p.Offices p.Change).L)) (cL.mk rr4.lX rr4.mm)from aAf (ok4.list.mono aAi hle6))⟩))⟩
 rintro i1 ⟨mY,sM,sL,Bm,hh1⟩ y1 rz1 hd1 dj aY er gr hs6 ⟨xw,Fi,hl1⟩ hx1 ag1 e
 try dsimp only at xw Fi hl1
 have hsy:=hsm.2.1 y1 (fX hd1)
 refine sr (tO dj U (qO 9 U (aC (iR wi ty79 (hp.Rules.mono aBx (hle1.t hl1)).1 aY U U U (λ_ _ _ e=>e) (λq2 r2 A2 ok5=>?_)))))
 let z1:Nat×Obj:=(b2,O [.string p.Name,.slice gS.i8 p.Kinds.length gS.i7,.slice gS.gq p.Offices.length gS.gp,.slice sM mY.length sL,I p.Change.Kind,I p.Change.N,I p.Change.No,.string p.Change.Name,.slice gS.Change.lX p.Change.L.length gS.Change.mm,I p.Mode] 64)
 refine dz ty79 A2 U U (ba zc79 (λb5=>gj (aQ 0 ty79 U U U U U U (il (L':=[(b5,O (Rule.cells y1 r2) 79),z1]++(Bm)) U (qL 5 [] U (jb (j:=2) ty58 ((cA hb1).mono hl1) U U (qL 1 [] U (cK 0 ty62 U U U (aC (cS IA (rk _ _ _ _ _ _ (hp.Offices.mono aBr (hle1.t hl1)) ok5.Expr ob) U (λv4 h7 hle7 hp4=>?_)))))))))))
 obtain⟨rr6,rfl,ok6⟩:=hp4
 refine qL 1 [] U (cT 0 ty3 U U U U U U (qL 1 [] U (cT 0 ty62 U U U U U U (qL 4 [1] U (cK 0 ty79 U U U (aC (bK (cells:=[.string y1.Kind,I (i1:Int),I y1.Think,I ((ao p.Offices y1.Expr).Kind),I ((ao p.Offices y1.Expr).N),I ((ao p.Offices y1.Expr).No),.string ((ao p.Offices y1.Expr).Name),.slice rr6.lX ((ao p.Offices y1.Expr).L.length) rr6.mm]) wi ty79 zc79 U U kr (λb6=>?_))))))))
 let z3:Nat×Obj:=(b6,O [.string y1.Kind,I (i1:Int),I y1.Think,I ((ao p.Offices y1.Expr).Kind),I ((ao p.Offices y1.Expr).N),I ((ao p.Offices y1.Expr).No),.string ((ao p.Offices y1.Expr).Name),.slice rr6.lX ((ao p.Offices y1.Expr).L.length) rr6.mm] 79)
 let z4:Nat×Obj:=(b5,O [.string y1.Kind,I (i1:Int),I y1.Think,I ((ao p.Offices y1.Expr).Kind),I ((ao p.Offices y1.Expr).N),I ((ao p.Offices y1.Expr).No),.string ((ao p.Offices y1.Expr).Name),.slice rr6.lX ((ao p.Offices y1.Expr).L.length) rr6.mm] 79)
 refine aC (dK Rule.eQ ([z3,z4,z1]) ([]) (λG=>[z3,z4,z1]++G) ap (λ_=>ap) wi ty79 zc79 U bytes79 (xw.mono aBx hle7) U U (fd 0 U (cE (R:=Rule.rp) (aBf y1.Kind (i1:Int) y1.Think (qG ((ao p.Offices y1.Expr).Kind) ((ao p.Offices y1.Expr).N) ((ao p.Offices y1.Expr).No) ((ao p.Offices y1.Expr).Name) ((ao p.Offices y1.Expr).L))) U ⟨(BJ.mk (cL.mk rr6.lX rr6.mm)),U,(show Rule.ok h7 (aBf y1.Kind (i1:Int) y1.Think (qG ((ao p.Offices y1.Expr).Kind) ((ao p.Offices y1.Expr).N) ((ao p.Offices y1.Expr).No) ((ao p.Offices y1.Expr).Name) ((ao p.Offices y1.Expr).L))) (BJ.mk (cL.mk rr6.lX rr6.mm))from⟨(show jF h7 (qG ((ao p.Offices y1.Expr).Kind) ((ao p.Offices y1.Expr).N) ((ao p.Offices y1.Expr).No) ((ao p.Offices y1.Expr).Name) ((ao p.Offices y1.Expr).L)) (cL.mk rr6.lX rr6.mm)from aAf ok6.list)⟩)⟩)) lo lo (λob2 oc2 G2 gr2=>qL 1 [] U (cT 2 ty59 U U U U U U (qO 3 U (oi i1 U (qO 2 U (bz (L':=[(b2,O [.string p.Name,.slice gS.i8 p.Kinds.length gS.i7,.slice gS.gq p.Offices.length gS.gp,.slice ob2 ((mY++[(aBf y1.Kind (i1:Int) y1.Think (qG ((ao p.Offices y1.Expr).Kind) ((ao p.Offices y1.Expr).N) ((ao p.Offices y1.Expr).No) ((ao p.Offices y1.Expr).Name) ((ao p.Offices y1.Expr).L)))]).length) oc2,I p.Change.Kind,I p.Change.N,I p.Change.No,.string p.Change.Name,.slice gS.Change.lX p.Change.L.length gS.Change.mm,I p.Mode] 64)]++G2) js ?_)))))))
 exact ag1 ((mY++[(aBf y1.Kind (i1:Int) y1.Think (qG ((ao p.Offices y1.Expr).Kind) ((ao p.Offices y1.Expr).N) ((ao p.Offices y1.Expr).No) ((ao p.Offices y1.Expr).Name) ((ao p.Offices y1.Expr).L)))]),ob2,oc2,G2,h7) hs6 ⟨gr2,lo,(hl1.t hle7)⟩
theorem qe(h:HF)(offices:List ByteArray)(dI:Option Addr)(dH:Nat)(x:Expr)(gd:cL)(hoffices:SlC aAM h dI dH offices)(hx:jF h x gd)(hsz:x.dep<=1500000):Ret prog 185 [.slice dI offices.length dH,.agg (zC x gd).toArray] h (.bool (bR offices x)):=by
 refine cJ Ny U ntmps185 U λX hM hX=>?_
 have hs0:bR offices x=bR offices x:=rfl
 refine sr (cy (λb1=>cy (λb2=>ba zc4 (λb3=>qO 4 U (cK 1 ty62 U U U (aC (cS Li (mS _ _ _ 1 hx ob) U (λv1 h1 hle1 hp1=>?_))))))))
 obtain⟨_,rfl,mo1⟩:=hp1
 refine qO 2 U (et ?_)
 let z1:Nat×Obj:=(b1,O [.slice dI offices.length dH] 58)
 let z2:Nat×Obj:=(b2,O (zC x gd) 62)
 refine cn (L':=([(b3,O [.bool false] 4),z2,z1])++markB []) ap ?_
 refine j3 (it:=v1) (xs:=(bx x 1)) (ι:=HF) [] (λi=>i) (λi=>[(b3,O [.bool false] 4),z2,z1]) (λs i=>bR offices x=((bR.L1 offices (bR.K1)) s)/\jM h1 i) (λi=>bR offices x=false/\jM h1 i) (λ_=>False) 0 (λ_ _ _=>False) h1 Ny U mo1 U n0 (λ_ _ _ _ _ hq=>hq) U (show[(b3,O [.bool false] 4),z2,z1]=_ from U) ⟨hs0,lf⟩ ?_ ?_ ?_ ?_ ?_
 .rintro l1 dm1 lp1 y1 rz1 vs1 hh1 hr1 X hFR1 ⟨hs1,hl1⟩ hl01 hlr1 hv1 hX hXM hlp1 nx1 rt1 ex1 pn1
  try dsimp only at hl1 hlr1
  obtain⟨rr1_0,rfl,ok1_0⟩:=hv1
  let z3:Nat×Obj:=(dm1,.deferred (some []))
  refine cn (L':=[(l1,.loop lp1),z3,(b3,O [.bool false] 4),z2,z1]++(markB [])) ap (bE (ba zc327 (λb5=>aQ 0 ty327 U U U U U U (aJ (jy 1 U hlp1 (qK 9 [] U (cK 0 ty62 U U U (ai call283 (nU _ _ _ ok1_0.x) U (aJ (ae hs1 U (λc4 hs2=>?_) (λc4 hs3=>?_)))))))))))
  .refine qK 5 [5,0] U (ai NB (li _ _ _ _ y1.x.Name (hoffices.mono aBr ((hle1.t hl1).t hlr1))) U (qL 10 [0] U (ae hs2 U (λc5 hs4=>?_) (λc5 hs5=>?_))))
   .exact sr (cT 3 ty4 U U U U U U (aJ (bz (L':=[(l1,.loop { lp1 with state:=.busy }),z3,(b3,O [.bool false] 4),z2,z1]++(markB [])) js (cn (L':=rdH l1 dm1 lp1 (([(b3,O [.bool false] 4),z2,z1])++markB [])) ap (rt1 hr1 _ _ _ ⟨hs4,(hl1.t hlr1)⟩ lf)))))
   exact aN (eF (bz (L':=[(l1,.loop { lp1 with state:=.busy }),z3,(b3,O [.bool false] 4),z2,z1]++(markB [])) js (cn (L':=rdH l1 dm1 lp1 (([(b3,O [.bool false] 4),z2,z1])++markB [])) ap (nx1 hr1 _ _ ⟨hs5,(hl1.t hlr1)⟩ lf))))
  refine qK 9 [0] U (ae hs3 U (λc6 hs6=>?_) (λc6 hs7=>?_))
  .exact sr (cT 3 ty4 U U U U U U (aJ (bz (L':=[(l1,.loop { lp1 with state:=.busy }),z3,(b3,O [.bool false] 4),z2,z1]++(markB [])) js (cn (L':=rdH l1 dm1 lp1 (([(b3,O [.bool false] 4),z2,z1])++markB [])) ap (rt1 hr1 _ _ _ ⟨hs6,(hl1.t hlr1)⟩ lf)))))
  exact aN (eF (bz (L':=[(l1,.loop { lp1 with state:=.busy }),z3,(b3,O [.bool false] 4),z2,z1]++(markB [])) js (cn (L':=rdH l1 dm1 lp1 (([(b3,O [.bool false] 4),z2,z1])++markB [])) ap (nx1 hr1 _ _ ⟨hs7,(hl1.t hlr1)⟩ lf))))
 .rintro dm1 hh1 hn1 ⟨hs8,hl1⟩ hln1 hl01
  try dsimp only at hl1 hln1
  refine cn (L':=[(b3,O [.bool false] 4),z2,z1]++(markB (dm1::[]))) ap (qT 3 U (cT 0 ty4 U U U U U U (aJ ?_)))
  have hs9:bR offices x=true:=hs8
  exact cn (L':=([(b3,O [.bool true] 4),z2,z1])++markB (dm1::[])) ap (rY (dm1::[]) [.bool true] Ny U hX ⟨⟨0,_,_,_,_,U,U,.inr ⟨_,ty4,U⟩⟩,trivial⟩ (cs hs9))
 .rintro dm1 hh1 hn1 ⟨hs10,hl1⟩ hln1 hl01
  try dsimp only at hl1 hln1
  refine cn (L':=[(b3,O [.bool false] 4),z2,z1]++(markB (dm1::[]))) ap ?_
  have hs11:bR offices x=false:=hs10
  exact cn (L':=([(b3,O [.bool false] 4),z2,z1])++markB (dm1::[])) ap (rY (dm1::[]) [.bool false] Ny U hX ⟨⟨0,_,_,_,_,U,U,.inr ⟨_,ty4,U⟩⟩,trivial⟩ (cs hs11))
 .exact xf
 exact xf
theorem tz(h:HF)(p:Policy)(gS:eA)(hp:zN h p gS)(hsm:smP p)(hk:Kinds h):Ret prog 94 [.agg (kD p gS).toArray] h (I (df p)):=by
 refine sT func94 U ntmps94 U λX hM hX hF=>?_
 have hs0:df p=df p:=rfl
 have hsc:=hsm.change
 refine sr (cy (λb1=>qO 5 U (cK 0 ty64 U U U (aC (cS call184 (yI _ _ _ hp ob hk) U (λv1 h1 hle1 hp1=>?_))))))
 obtain⟨rr1,rfl,ok1⟩:=hp1
 refine qO 10 U (ae hs0 U (λc1 hs1=>?_) (λc1 hs2=>?_))
 .exact sr (qO 3 U (nretP [I ((ef p).2)] (ci hs1)))
 refine qK 9 [0] U ?_
 refine lp0 p.Rules (λi=>[(1,Q b1),(14,.slice gS.nO p.Rules.length gS.nN),(15,I (p.Rules.length:Int)),(16,I (i:Int))]) ([(b1,O (kD p gS) 64)]) (λs1 i=>(df.L1 p (df.K1 p)) s1 i) ((hp.Rules.mono aBx hle1).1.1) hs2 ?_ ?_
 .rintro i1 fp hs4 e
  refine qK 6 [0] U (cK 0 ty62 U U U (ai call185 (qe _ _ _ _ _ _ (hp.Offices.mono aBr hle1) (hp.Change.mono hle1) ob) U (qO 2 U (ae hs4 U (λc2 hs5=>?_) (λc2 hs6=>?_)))))
  .exact sr (an (nretP [I 200] (ci hs5)))
  exact aN (qT 4 U (nretP [I 0] (ci hs6)))
 rintro i1 y1 rz1 hd1 dj aY er gr hs9 hx1 ag1 e
 have hsy:=hsm.2.1 y1 (fX hd1)
 refine sr (tO dj U (qO 9 U (aC (iR wi ty79 (hp.Rules.mono aBx hle1).1 aY U U U (λ_ _ _ e=>e) (λq2 r2 A2 ok3=>dz ty79 A2 U U (ba zc79 (λb3=>gj (aQ 0 ty79 U U U U U U (qL 8 [0] U (bV 7 [25,26,27,28,29,30,31,32] 25 32 (!(bR p.Offices y1.Expr)) U (λc3 hk1=>?_) (λe=>?_)))))))))))
 .exact qL 3 [1] U (cK 0 ty62 U U U (ai call185 (qe _ _ _ _ _ _ (hp.Offices.mono aBr hle1) ok3.Expr ob) U (qO 2 U (hk1 _ U))))
 refine aJ (ae hs9 U (λc4 hs10=>?_) (λc4 hs11=>?_))
 .exact sr (an (nretP [I 200] (ci hs10)))
 exact aN (qT 2 U (oi i1 U (qO 2 U (bz (L':=[(b1,O (kD p gS) 64)]) js (ag1 hs11)))))
theorem qg(h:HF)(l:List Version)(eP:Option Addr)(eO:Nat)(hl:SlC Version.rp h eP eO l)(hsm:smV l)(hk:Kinds h):Ret prog 69 [.slice eP l.length eO] h (I (bH l)):=by
 refine sT func69 U ntmps69 U λX hM hX hF=>?_
 have hs0:bH l=bH l:=rfl
 have hsl:=hsm.len
 refine qK 11 [] U (ae hs0 U (λc1 hs1=>?_) (λc1 hs2=>?_))
 .have c1p:=of_decide_eq_true c1
  exact sr (an (nretP [I 2] (ci hs1)))
 have c1p:=of_decide_eq_false c1
 refine qK 12 [] U ?_
 refine lp1 l (λi w=>[(3,I w),(9,.slice eP l.length eO),(10,I (l.length:Int)),(11,I (i:Int))]) ([]) (λs1 i w=>(bH.L1 (bH.K1)) s1 w) (-1) hl.1.1 hs2 ?_ ?_
 .rintro i1 iB fp hs4 e
  exact sr (an (nretP [I 0] (ci hs4)))
 rintro i1 iB y1 rz1 hd1 dj aY er gr hs6 hx1 ag1 e
 have hsy:=hsm.2 y1 (fX hd1)
 refine sr (tO dj U (qO 8 U (aC (iR yz ty105 hl.1 aY U U U (λ_ _ _ e=>e) (λq2 r2 A2 ok2=>dz ty105 A2 U U (ba zc105 (λb2=>aQ 0 ty105 U U U U U U (qL 8 [0] U (ai Aw (gO h y1.No (vC .i64 (iB+1)) 1048576) U (qO 2 U (bV 5 [21,22,23,24,25,26] 21 26 (!(aP y1.At 0 1099511627775)) U (λc2 hk1=>?_) (λe=>?_))))))))))))
 .exact qL 2 [0] U (ai Aw (gO h y1.At 0 1099511627775) U (qO 2 U (hk1 _ U)))
 refine av (bV 5 [27,28,29,30,31,32] 27 32 (!(aP y1.Known 0 1099511627775)) U (λc3 hk2=>?_) (λe=>?_))
 .exact qL 2 [0] U (ai Aw (gO h y1.Known 0 1099511627775) U (qO 2 U (hk2 _ U)))
 refine av (bV 5 [33,34,35,36,37,38] 33 38 ((df y1.Policy) != 0) U (λc4 hk3=>?_) (λe=>?_))
 .exact qL 1 [] U (cK 0 ty64 U U U (ai call94 (tz _ _ _ ok2.Policy ob hk) U (qO 2 U (hk3 _ U))))
 refine aJ (ae hs6 U (λc5 hs7=>?_) (λc5 hs8=>?_))
 .exact sr (an (nretP [I 200] (ci hs7)))
 exact qK 8 [0] U (oi i1 U (qO 2 U (bz (L':=[]) js (ag1 y1.No hs8))))
theorem pD(h:HF)(l:List Document)(eP:Option Addr)(eO:Nat)(hl:SlC vR h eP eO l):j1 prog 150 [.slice eP l.length eO] h (λv h'=>∃(rr0:nP),v=.agg (gM.cells (aB l) rr0).toArray/\gM.ok h' (aB l) rr0):=by
 refine cJ func150 U ntmps150 U λX hM hX=>?_
 have hs0:aB l=aB l:=rfl
 refine sr (ba zc228 (λb1=>qO 4 U (aC (nC (λb2=>aC (fN (cells:=[.slice eP l.length eO,.map (some b2)]) (places:=[(0,1),(1,1)]) underlying228 zc228 kr kr (ba zc228 (λb3=>aQ 0 ty228 U U U U U U (qL 8 [] U ?_)))))))))
 let z1:Nat×Obj:=(b3,O [.slice eP l.length eO,.map (some b2)] 228)
 refine lp2 l (λi w=>[(2,Q b1),(3,Q b3),(9,.slice eP l.length eO),(10,I (l.length:Int)),(11,I (i:Int))]) (λ_=>h) (λw=>[z1,(b2,w.2),(b1,O [.slice none 0 0,.map none] 228)]) (λi w=>ja (xC .i64) vm h w.2 w.1/\w.1.length<=0+i) (λs1 i w=>(aB.L1 (aB.K1 l)) s1 i w.1) ([],.map #[] 0) hl.1.1 hs0 ⟨(ja.nil (enc:=(xC .i64)) (V:=vm) (h:=h)),lc⟩ ?_ ?_
 .rintro i1 ⟨bM,ec⟩ fp hs1 ⟨gv,Fj⟩ e
  refine sr (cK 0 ty228 U U U (aQ 2 ty228 U U U U U U (aJ (eR 1 U hM (λh2 hle2 hb2=>?_)))))
  have mc2:s7 (xC .i64) vm h2 b2 bM:=⟨_,hb2,gv.mono vm.mono hle2⟩
  have hs2:aB l=(gM.mk l bM):=hs1
  exact jx [.agg (vB [.slice eP l.length eO,.map (some b2)])] func150 U ⟨⟨1,_,_,_,_,U,U,.inl ⟨ty228,U⟩⟩,trivial⟩ ⟨(nP.mk eP eO b2),congrArg (λr:gM=>(.agg (gM.cells r (nP.mk eP eO b2)).toArray:Value)) hs2.symm,(by rw[hs2];exact(show gM.ok h2 (gM.mk l bM) (nP.mk eP eO b2)from⟨(hl.mono zH hle2),mc2⟩))⟩
 rintro i1 ⟨bM,ec⟩ y1 rz1 hd1 dj aY er gr hs3 ⟨gv,Fj⟩ hx1 ag1 e
 exact sr (tO dj U (qO 9 U (aC (iR nA ty51 hl.1 aY U U U (λ_ _ _ e=>e) (λq2 r2 A2 ok2=>dz ty51 A2 U U (ba zc51 (λb5=>gj (aQ 0 ty51 U U U U U U (qL 7 [1,0] U (aC (kb 2 (k:=y1.No) (x:=(i1:Int)) Av (fC m6) U gv U U U (λmo2 hm2=>qO 3 U (oi i1 U (qO 2 U (bz (L':=[z1,(b2,mo2),(b1,O [.slice none 0 0,.map none] 228)]) js (ag1 ((mput bM y1.No (i1:Int)),mo2) hs3 ⟨hm2,(by have:=mI bM y1.No (i1:Int);first|omega|(simp only[jB,zA]at *;omega))⟩))))))))))))))))
theorem m4(h:HF)(t:Int)  : Ret prog 125 [I t] h (.bool (fJ t)):=by
 refine sT func125 U ntmps125 U λX hM hX hF=>?_
 have hs0:fJ t=fJ t:=rfl
 refine qT 9 U (bj 3 [5,6,7,8] 5 8 (decide (t<1099511627776)) U (λc1 hk1=>?_) (λe=>?_))
 .exact av (qO 2 U (hk1 _ U))
 exact an (nretP [.bool (decide (0<=t)&&decide (t<1099511627776))] (cs hs0))
theorem pm(h:HF)(l:List Int)(eP:Option Addr)(eO:Nat)(limit:Int)(hl:SlC qC h eP eO l):Ret prog 238 [.slice eP l.length eO,I limit] h (.bool (dJ l limit)):=by
 refine sT func238 U ntmps238 U λX hM hX hF=>?_
 have hs0:dJ l limit=dJ l limit:=rfl
 refine qK 15 [] U ?_
 refine lp1 l (λi w=>[(0,.slice eP l.length eO),(1,I limit),(5,I w),(8,.slice eP l.length eO),(9,I (l.length:Int)),(10,I (i:Int))]) ([]) (λs1 i w=>(dJ.L1 limit (dJ.K1 l)) s1 w) (-1) hl.1.1 hs0 ?_ ?_
 .rintro i1 eW fp hs1 e
  exact qK 7 [] U (nretP [.bool (decide ((l.length:Int)<=16))] (cs hs1))
 rintro i1 eW y1 rz1 hd1 dj aY er gr hs3 hx1 ag1 e
 refine sr (tO dj U (qO 8 U (aC (iF (λy=>[I y]) dY ty3 hl.1 aY U U U (λq2 A2=>dh ty3 A2 U (qO 9 U (bV 4 [17,18,19,20,21] 17 21 (decide (limit<=y1)) U (λc1 hk1=>?_) (λe=>?_))))))))
 .exact av (qO 3 U (hk1 _ U))
 refine aJ (ae hs3 U (λc2 hs4=>?_) (λc2 hs5=>?_))
 .exact sr (an (nretP [.bool false] (cs hs4)))
 exact aN (qT 6 U (oi i1 U (qO 2 U (ag1 y1 hs5))))
theorem Ah(h:HF)(d:Document)(DE:ke)(hd:aAu h d DE):Ret prog 151 [.agg (xN d DE).toArray] h (.bool (gG d)):=by
 refine sT func151 U ntmps151 U λX hM hX hF=>?_
 have hs0:gG d=gG d:=rfl
 refine sr (cy (λb1=>qL 8 [0] U (bj 4 [7,8,9,10,11] 7 11 (decide (d.No<4096)) U (λc1 hk1=>?_) (λe=>?_))))
 .exact qL 4 [0] U (hk1 _ U)
 refine av (bj 4 [12,13,14,15,16] 12 16 (fJ d.At) U (λc2 hk2=>?_) (λe=>?_))
 .exact qL 2 [0] U (ai Nx (m4 h d.At) U (eN U (hk2 _ U)))
 refine av (bj 4 [17,18,19,20,21] 17 21 (decide (0<=d.Kind)) U (λc3 hk3=>?_) (λe=>?_))
 .exact qL 4 [0] U (hk3 _ U)
 refine av (bj 4 [22,23,24,25,26] 22 26 (decide (d.Kind<16)) U (λc4 hk4=>?_) (λe=>?_))
 .exact qL 4 [0] U (hk4 _ U)
 refine av (bj 4 [27,28,29,30,31] 27 31 (decide (0<=d.Value)) U (λc5 hk5=>?_) (λe=>?_))
 .exact qL 4 [0] U (hk5 _ U)
 refine av (bj 4 [32,33,34,35,36] 32 36 (decide (d.Value<=1099511627776)) U (λc6 hk6=>?_) (λe=>?_))
 .exact qL 4 [0] U (hk6 _ U)
 refine qO 6 U (bj 4 [38,39,40,41,42] 38 42 (decide (0<=d.From)) U (λc7 hk7=>?_) (λe=>?_))
 .exact qL 4 [0] U (hk7 _ U)
 refine av (bj 6 [43,44,45,46,47,48,49] 43 49 (decide (d.From<d.Until)) U (λc8 hk8=>?_) (λe=>?_))
 .exact qL 6 [0,0] U (hk8 _ U)
 refine av (bj 4 [50,51,52,53,54] 50 54 (decide (d.Until<=1099511627776)) U (λc9 hk9=>?_) (λe=>?_))
 .exact qL 4 [0] U (hk9 _ U)
 refine av (bj 4 [55,56,57,58,59] 55 59 (dJ d.Parties 1048577) U (λc10 hk10=>?_) (λe=>?_))
 .exact qL 2 [0] U (ai call238 (pm _ _ _ _ 1048577 hd.Parties) U (eN U (hk10 _ U)))
 refine av (bj 6 [60,61,62,63,64,65,66] 60 66 (dJ d.Revokes d.No) U (λc11 hk11=>?_) (λe=>?_))
 .exact qL 4 [0,0] U (ai call238 (pm _ _ _ _ d.No hd.Revokes) U (eN U (hk11 _ U)))
 refine av (bj 6 [67,68,69,70,71,72,73] 67 73 (dJ d.Needs d.No) U (λc12 hk12=>?_) (λe=>?_))
 .exact qL 4 [0,0] U (ai call238 (pm _ _ _ _ d.No hd.Needs) U (eN U (hk12 _ U)))
 exact an (nretP [.bool ((((((((((((decide (0<=d.No)&&decide (d.No<4096))&&(fJ d.At))&&decide (0<=d.Kind))&&decide (d.Kind<16))&&decide (0<=d.Value))&&decide (d.Value<=1099511627776))&&decide (0<=d.From))&&decide (d.From<d.Until))&&decide (d.Until<=1099511627776))&&(dJ d.Parties 1048577))&&(dJ d.Revokes d.No))&&(dJ d.Needs d.No))] (cs hs0))
theorem n9(h:HF)(no:Int)(v0:gM)(Nc:nP)(v0_q:Addr)(hv0:gM.ok h v0 Nc)(av0:At h v0_q (gM.cells v0 Nc)):Ret prog 239 [I no,.pointer (some v0_q)] h (.bool (ey no v0)):=by
 refine sT func239 U ntmps239 U λX hM hX hF=>?_
 have hs0:ey no v0=ey no v0:=rfl
 refine qK 7 [] U (jb (j:=1) ty190 av0 U U (av ?_))
 obtain⟨o1,hb1,hm1⟩:=hv0.at_
 refine aC (tb (k:=no) Av (fC m6) hb1 hm1 (e8 zv3) (show vm _ (I 0) 0 from U) U U (λv1 hv1=>?_))
 obtain rfl:=hv1
 exact av (qO 11 U (nretP [.bool (!(mhas v0.at_ no))] (cs hs0)))
theorem pk(h:HF)(s:gM)(Rc:nP)(d:Document)(DE:ke)(hs:gM.ok h s Rc)(hd:aAu h d DE):Ret prog 152 [.agg (gM.cells s Rc).toArray,.agg (xN d DE).toArray] h (.bool (eJ s d)):=by
 refine sT func152 U ntmps152 U λX hM hX hF=>?_
 have hs0:eJ s d=eJ s d:=rfl
 refine sr (cy (λb1=>cy (λb2=>qO 4 U (aX 1 U hM (λh1 hle1 hb1=>aC (eG U U (qL 7 [0] U (ai IB (hY _ _ _ _ (λdF=>ey dF s) (.func (.func 239) #[] #[Q b1]) (hd.Revokes.mono vG hle1) (λh' dF hle=>iJ call239 (n9 h' dF s Rc ⟨b1,0,none⟩  ((hs.mono hle1).mono hle) ((cA hb1).mono hle)))) U (qO 2 U (bj 6 [12,13,14,15,16,17,18] 12 18 (!(cC d.Needs (λdF=>ey dF s))) U (λc1 hk1=>?_) (λe=>?_)))))))))))
 .exact qL 3 [0] U (ai IB (hY _ _ _ _ (λdF=>ey dF s) (.func (.func 239) #[] #[Q b1]) (hd.Needs.mono vG hle1) (λh' dF hle=>iJ call239 (n9 h' dF s Rc ⟨b1,0,none⟩  ((hs.mono hle1).mono hle) ((cA hb1).mono hle)))) U (qO 2 U (hk1 _ U)))
 exact an (nretP [.bool ((!(cC d.Revokes (λdF=>ey dF s)))&&(!(cC d.Needs (λdF=>ey dF s))))] (cs hs0))
theorem oA(h:HF)(l:List Document)(eP:Option Addr)(eO:Nat)(hl:SlC vR h eP eO l):Ret prog 70 [.slice eP l.length eO] h (I (bh l)):=by
 refine sT func70 U ntmps70 U λX hM hX hF=>?_
 have hs0:bh l=bh l:=rfl
 refine qK 11 [] U (ae hs0 U (λc1 hs1=>?_) (λc1 hs2=>?_))
 .have c1p:=of_decide_eq_true c1
  exact sr (an (nretP [I 2] (ci hs1)))
 have c1p:=of_decide_eq_false c1
 refine qT 4 U (aC (cS call150 (pD _ _ _ _ hl) U (λv1 h1 hle1 hp1=>?_)))
 obtain⟨rr1,rfl,ok1⟩:=hp1
 refine ba zc228 (λb1=>aQ 0 ty228 U U U U U U (qL 8 [] U ?_))
 let z1:Nat×Obj:=(b1,O (gM.cells (aB l) rr1) 228)
 refine lp0 l (λi=>[(0,.slice eP l.length eO),(3,Q b1),(11,.slice eP l.length eO),(12,I (l.length:Int)),(13,I (i:Int))]) ([z1]) (λs1 i=>(bh.L1 l (bh.K1)) s1 i) ((hl.mono zH hle1).1.1) hs2 ?_ ?_
 .rintro i1 fp hs4 e
  exact sr (an (nretP [I 0] (ci hs4)))
 rintro i1 y1 rz1 hd1 dj aY er gr hs6 hx1 ag1 e
 refine sr (tO dj U (qO 9 U (aC (iR nA ty51 (hl.mono zH hle1).1 aY U U U (λ_ _ _ e=>e) (λq3 r3 A3 ok4=>dz ty51 A3 U U (ba zc51 (λb3=>gj (aQ 0 ty51 U U U U U U (qO 2 U ?_)))))))))
 refine oo [(0,.slice eP l.length eO),(3,Q b1),(11,.slice eP l.length eO),(12,I (l.length:Int)),(13,I (i1:Int)),(41,.bool (((!(gG y1))||(decide (0<(i1:Int))&&decide (y1.No<=(nthI l ((i1:Int)-1)).No)))||(!(eJ (aB l) y1))))] (λe=>?_) (λhk1=>?_)
 rotate_left
 .let z2:Nat×Obj:=(b3,O (xN y1 r3) 51)
  refine eM ([z2,z1]) mixed kr jn (λem _=>?_)
  refine tf 0 U U (λ_ _ hj=>jO ty51 U (hj.nth (i:=0) U) U) (tn 1 U (fe call151 (Ah _ _ _ ok4) U (⟨jn,qA [2,3] U ?_⟩)))
  refine du 21 U (λc2=>?_) (λc2=>?_)
  .exact tk 4 U U (qR 5 19 U (aV kr (hk1 _ ⟨U,U,U,U,U,(cb (show true=(((!(gG y1))||(decide (0<(i1:Int))&&decide (y1.No<=(nthI l ((i1:Int)-1)).No)))||(!(eJ (aB l) y1)))from by rw[c2]<;>rfl)),trivial⟩)))
  refine qR 4 3 U ?_
  refine du 24 U (λc3=>?_) (λc3=>?_)
  .have c3p:=of_decide_eq_true c3
   refine qB [7] U (tf 8 U U (rj 0 ty3 U U U) (qA [9,10] U (tf 11 U U (λ_ _ _=>nl (v':=I ((i1:Int)-1)) U (jv ob)) ?_)))
   have ho2:0<=(((i1:Int)-1):Int)/\(((i1:Int)-1):Int)<((l).length:Int):=ob
   refine jt 12 em jn nA ty51 (hl.mono zH hle1).1 ho2 (cN ho2) U U U U kr (λq4 cs4 A4 ln4 rr5=>?_)
   obtain⟨r4,rfl,ok5⟩:=rr5
   refine qB [13] U (tf 14 U U (rh ty3 A4 U) (qR 15 4 U ?_))
   refine du 36 U (λc4=>?_) (λc4=>?_)
   .have c4p:=of_decide_eq_true c4
    exact tk 19 U U (qR 20 4 U (aV kr (hk1 _ ⟨U,U,U,U,U,(cb (show true=(((!(gG y1))||(decide (0<(i1:Int))&&decide (y1.No<=(nthI l ((i1:Int)-1)).No)))||(!(eJ (aB l) y1)))from by rw[c2,c3,c4]<;>rfl)),trivial⟩)))
   have c4p:=of_decide_eq_false c4
   exact tf 19 U U (λ_ _ hj=>jO ty228 U (hj.nth (i:=1) U) U) (tf 20 U U (λ_ _ hj=>jO ty51 U (hj.nth (i:=0) U) U) (tn 21 U (fe call152 (pk _ _ _ _ _ ok1 ok4) U (⟨jn,qA [22,23] U (aV kr (hk1 _ ⟨U,U,U,U,U,(cb (show(!(eJ (aB l) y1))=(((!(gG y1))||(decide (0<(i1:Int))&&decide (y1.No<=(nthI l ((i1:Int)-1)).No)))||(!(eJ (aB l) y1)))from by rw[c2,c3,c4]<;>rfl)),trivial⟩))⟩))))
  have c3p:=of_decide_eq_false c3
  exact tk 7 U U (qR 8 11 U (tf 19 U U (λ_ _ hj=>jO ty228 U (hj.nth (i:=1) U) U) (tf 20 U U (λ_ _ hj=>jO ty51 U (hj.nth (i:=0) U) U) (tn 21 U (fe call152 (pk _ _ _ _ _ ok1 ok4) U (⟨jn,qA [22,23] U (aV kr (hk1 _ ⟨U,U,U,U,U,(cb (show(!(eJ (aB l) y1))=(((!(gG y1))||(decide (0<(i1:Int))&&decide (y1.No<=(nthI l ((i1:Int)-1)).No)))||(!(eJ (aB l) y1)))from by rw[c2,c3]<;>rfl)),trivial⟩))⟩))))))
 refine ae hs6 U (λc5 hs7=>?_) (λc5 hs8=>?_)
 .exact sr (an (nretP [I 170] (ci hs7)))
 exact aN (qT 2 U (oi i1 U (qO 2 U (bz (L':=[z1]) js (ag1 hs8)))))
theorem wu(h:HF)(ep:Int)(v0:Int)(v0_q:Addr)(av0:At h v0_q [I v0]):Ret prog 196 [I ep,.pointer (some v0_q)] h (.bool (gR ep v0)):=by
 refine sT func196 U ntmps196 U λX hM hX hF=>?_
 have hs0:gR ep v0=gR ep v0:=rfl
 refine qT 9 U (bV 4 [6,7,8,9,10] 6 10 (decide (v0<ep)) U (λc1 hk1=>?_) (λe=>?_))
 .exact av (dh ty3 av0 U (qO 2 U (hk1 _ U)))
 exact an (nretP [.bool (decide (ep<0)||decide (v0<ep))] (cs hs0))
theorem iX(h:HF)(most:Int)(l:List Int)(eP:Option Addr)(eO:Nat)(hl:SlC qC h eP eO l):Ret prog 103 [I most,.slice eP l.length eO] h (.bool (dt most l)):=by
 refine sT func103 U ntmps103 U λX hM hX hF=>?_
 have hs0:dt most l=dt most l:=rfl
 exact sr (cy (λb1=>qO 5 U (aX 0 U hM (λh1 hle1 hb1=>aC (eG U U (ai IB (hY _ _ _ _ (λdF=>gR dF most) (.func (.func 196) #[] #[Q b1]) (hl.mono vG hle1) (λh' dF hle=>iJ call196 (wu h' dF most ⟨b1,0,none⟩  ((cA hb1).mono hle)))) U (qO 3 U (nretP [.bool (!(cC l (λdF=>gR dF most)))] (cs hs0)))))))))
theorem Al(h:HF)(x:Approval)  : Ret prog 119 [.agg (zD x).toArray] h (.bool (iO x)):=by
 refine sT func119 U ntmps119 U λX hM hX hF=>?_
 have hs0:iO x=iO x:=rfl
 refine sr (cy (λb1=>qL 6 [0] U (aC (bK (cells:=[I x.No]) dY ty3 zc3 U U kr (λb2=>aX 0 U hM (λh1 hle1 hb1=>?_))))))
 have sl1:SlC qC h1 (some ⟨b2,0,none⟩) 1 ([x.No]):=bI.slB0 (T:=3) (fz:=(0,0)) ((show bI qC h [I x.No] ([x.No])from⟨[I x.No],[],rfl,rfl,rfl,rfl⟩).mono vG hle1) hb1
 refine ai GB (iX _ 1048576 _ _ _ sl1) U (av (bj 7 [7,8,9,10,11,12,13,14] 7 14 (dt 1099511627775 ([x.At,x.Known])) U (λc1 hk1=>?_) (λe=>?_)))
 .refine qL 4 [0,0] U (aC (bK (cells:=[I x.At,I x.Known]) dY ty3 zc3 U U kr (λb3=>aX 0 U hM (λh2 hle2 hb2=>?_))))
  have sl2:SlC qC h2 (some ⟨b3,0,none⟩) 2 ([x.At,x.Known]):=bI.slB0 (T:=3) (fz:=(0,0)) ((show bI qC h1 [I x.At,I x.Known] ([x.At,x.Known])from⟨[I x.At],[I x.Known],rfl,rfl,rfl,⟨[I x.Known],[],rfl,rfl,rfl,rfl⟩⟩).mono vG hle2) hb2
  exact ai GB (iX _ 1099511627775 _ _ _ sl2) U (eN U (kh (h:=h1) hle2 hX hle1 (hk1 _ U)))
 refine av (bj 5 [15,16,17,18,19,20] 15 20 (dt 4095 ([x.Doc])) U (λc2 hk2=>?_) (λe=>?_))
 .refine qL 2 [0] U (aC (bK (cells:=[I x.Doc]) dY ty3 zc3 U U kr (λb4=>aX 0 U hM (λh3 hle3 hb3=>?_))))
  have sl3:SlC qC h3 (some ⟨b4,0,none⟩) 1 ([x.Doc]):=bI.slB0 (T:=3) (fz:=(0,0)) ((show bI qC h1 [I x.Doc] ([x.Doc])from⟨[I x.Doc],[],rfl,rfl,rfl,rfl⟩).mono vG hle3) hb3
  exact ai GB (iX _ 4095 _ _ _ sl3) U (eN U (kh (h:=h1) hle3 hX hle1 (hk2 _ U)))
 refine av (bj 7 [21,22,23,24,25,26,27,28] 21 28 (dt 63 ([x.By,x.For])) U (λc3 hk3=>?_) (λe=>?_))
 .refine qL 4 [0,0] U (aC (bK (cells:=[I x.By,I x.For]) dY ty3 zc3 U U kr (λb5=>aX 0 U hM (λh4 hle4 hb4=>?_))))
  have sl4:SlC qC h4 (some ⟨b5,0,none⟩) 2 ([x.By,x.For]):=bI.slB0 (T:=3) (fz:=(0,0)) ((show bI qC h1 [I x.By,I x.For] ([x.By,x.For])from⟨[I x.By],[I x.For],rfl,rfl,rfl,⟨[I x.For],[],rfl,rfl,rfl,rfl⟩⟩).mono vG hle4) hb4
  exact ai GB (iX _ 63 _ _ _ sl4) U (eN U (kh (h:=h1) hle4 hX hle1 (hk3 _ U)))
 refine av (bj 5 [29,30,31,32,33,34] 29 34 (dt 31 ([x.Office])) U (λc4 hk4=>?_) (λe=>?_))
 .refine qL 2 [0] U (aC (bK (cells:=[I x.Office]) dY ty3 zc3 U U kr (λb6=>aX 0 U hM (λh5 hle5 hb5=>?_))))
  have sl5:SlC qC h5 (some ⟨b6,0,none⟩) 1 ([x.Office]):=bI.slB0 (T:=3) (fz:=(0,0)) ((show bI qC h1 [I x.Office] ([x.Office])from⟨[I x.Office],[],rfl,rfl,rfl,rfl⟩).mono vG hle5) hb5
  exact ai GB (iX _ 31 _ _ _ sl5) U (eN U (kh (h:=h1) hle5 hX hle1 (hk4 _ U)))
 exact an (nretP [.bool (((((dt 1048576 ([x.No]))&&(dt 1099511627775 ([x.At,x.Known])))&&(dt 4095 ([x.Doc])))&&(dt 63 ([x.By,x.For])))&&(dt 31 ([x.Office])))] (cs hs0))
theorem sR(h:HF)(l:List Approval)(eP:Option Addr)(eO:Nat)(hl:SlC kL h eP eO l):Ret prog 71 [.slice eP l.length eO] h (I (bX l)):=by
 refine sT func71 U ntmps71 U λX hM hX hF=>?_
 have hs0:bX l=bX l:=rfl
 refine qK 11 [] U (ae hs0 U (λc1 hs1=>?_) (λc1 hs2=>?_))
 .have c1p:=of_decide_eq_true c1
  exact sr (an (nretP [I 2] (ci hs1)))
 have c1p:=of_decide_eq_false c1
 refine qK 12 [] U ?_
 refine lp1 l (λi w=>[(3,I w),(9,.slice eP l.length eO),(10,I (l.length:Int)),(11,I (i:Int))]) ([]) (λs1 i w=>(bX.L1 (bX.K1)) s1 w) (-1) hl.1.1 hs2 ?_ ?_
 .rintro i1 iB fp hs4 e
  exact sr (an (nretP [I 0] (ci hs4)))
 rintro i1 iB y1 rz1 hd1 dj aY er gr hs6 hx1 ag1 e
 refine sr (tO dj U (qO 8 U (aC (iF zD zk ty81 hl.1 aY U U U (λq2 A2=>dz ty81 A2 U U (ba zc81 (λb2=>aQ 0 ty81 U U U U U U (qO 4 U (cK 0 ty81 U U U (ai call119 (Al h y1) U (qO 2 U (bV 5 [18,19,20,21,22,23] 18 23 (decide (y1.No<=iB)) U (λc2 hk1=>?_) (λe=>?_)))))))))))))
 .exact qL 5 [0] U (hk1 _ U)
 refine aJ (ae hs6 U (λc3 hs7=>?_) (λc3 hs8=>?_))
 .exact sr (an (nretP [I 280] (ci hs7)))
 exact qK 8 [0] U (oi i1 U (qO 2 U (bz (L':=[]) js (ag1 y1.No hs8))))
theorem oX(h:HF)(aL:Register)(fx:dD)(iW:zL h aL fx)(hsm:smR aL)(hk:Kinds h):Ret prog 13 [.agg (xL aL fx).toArray] h (I (dR aL)):=by
 refine sT func13 U ntmps13 U λX hM hX hF=>?_
 have hs0:dR aL=dR aL:=rfl
 have hsv:=hsm.vers
 refine sr (cy (λb1=>qO 4 U ?_))
 let z1:Nat×Obj:=(b1,O (xL aL fx) 30)
 refine eM ([z1]) mixed kr jn (λem _=>?_)
 refine qB [0] U (tf 1 U U (rj 0 ty22 U U U) (qB [3] U (tf 4 U U (rj 0 ty23 U U U) (qB [6] U (tf 7 U U (rj 0 ty24 U U U) (qB [9] U (tf 10 U U (rj 0 ty25 U U U) (qB [12] U (tf 13 U U (rj 0 ty26 U U U) (qB [15] U (tf 16 U U (rj 0 ty27 U U U) (qB [18] U (tf 19 U U (rj 0 ty28 U U U) (tm 23 U (tn 2 U (fe call65 (pK _ _ _ _ iW.Appoints) U (⟨jn,tn 5 U (fe call66 (tH _ _ _ _ iW.Deputies) U (⟨jn,tn 8 U (fe call67 (sG _ _ _ _ iW.Interests) U (⟨jn,tn 11 U (fe call68 (uI _ _ _ _ iW.Budgets) U (⟨jn,tn 14 U (fe call69 (qg _ _ _ _ iW.Versions ob hk) U (⟨jn,(tn 17 U (fe call70 (oA _ _ _ _ iW.Docs) U (⟨jn,(tn 20 U (fe call71 (sR _ _ _ _ iW.Approvals) U (⟨jn,(tn 21 U (bK (cells:=[I (dg aL.Appoints),I (dB aL.Deputies),I (cX aL.Interests),I (cw aL.Budgets),I (bH aL.Versions),I (bh aL.Docs),I (bX aL.Approvals)]) underlying141 ty37 zc37 U U kr (λb2=>⟨jn,(tf 22 U U (λ_ _ _=>I2 underlying141 U) (aV kr (eR 0 U hM (λh1 hle1 hb1=>?_))))⟩)))⟩)))⟩)))⟩))⟩))⟩))⟩))⟩)))))))))))))))))
 have sl1:SlC qC h1 (some ⟨b2,0,none⟩) 7 ([(dg aL.Appoints),(dB aL.Deputies),(cX aL.Interests),(cw aL.Budgets),(bH aL.Versions),(bh aL.Docs),(bX aL.Approvals)]):=bI.slB0 (T:=37) (fz:=(0,0)) ((show bI qC h [I (dg aL.Appoints),I (dB aL.Deputies),I (cX aL.Interests),I (cw aL.Budgets),I (bH aL.Versions),I (bh aL.Docs),I (bX aL.Approvals)] ([(dg aL.Appoints),(dB aL.Deputies),(cX aL.Interests),(cw aL.Budgets),(bH aL.Versions),(bh aL.Docs),(bX aL.Approvals)])from⟨[I (dg aL.Appoints)],[I (dB aL.Deputies),I (cX aL.Interests),I (cw aL.Budgets),I (bH aL.Versions),I (bh aL.Docs),I (bX aL.Approvals)],rfl,rfl,rfl,⟨[I (dB aL.Deputies)],[I (cX aL.Interests),I (cw aL.Budgets),I (bH aL.Versions),I (bh aL.Docs),I (bX aL.Approvals)],rfl,rfl,rfl,⟨[I (cX aL.Interests)],[I (cw aL.Budgets),I (bH aL.Versions),I (bh aL.Docs),I (bX aL.Approvals)],rfl,rfl,rfl,⟨[I (cw aL.Budgets)],[I (bH aL.Versions),I (bh aL.Docs),I (bX aL.Approvals)],rfl,rfl,rfl,⟨[I (bH aL.Versions)],[I (bh aL.Docs),I (bX aL.Approvals)],rfl,rfl,rfl,⟨[I (bh aL.Docs)],[I (bX aL.Approvals)],rfl,rfl,rfl,⟨[I (bX aL.Approvals)],[],rfl,rfl,rfl,rfl⟩⟩⟩⟩⟩⟩⟩).mono vG hle1) hb1
 refine iL (ι:=Nat) (λi=>[]) (λi=>h1) (λi=>[z1]) (λi=>i<=(kG 7).length/\dR aL=((dR.K1))) ?_ (λhx1=>?_)
 .rintro i1 ⟨fp,hs1⟩ e
  exact sr (an (nretP [I 0] (ci hs1)))
 refine kg (ι:=Nat×List Nat) (λi=>[(26,.slice (some ⟨b2,0,none⟩) 7 7),(27,I 7),(28,I (i.1:Int))]) (λi=>h1) (λi=>[z1]) (λi=>(kG 7).drop i.1=i.2/\i.1<=(kG 7).length/\dR aL=((dR.L1 aL (dR.K1)) i.2 i.1)) (λi=>i.2.length) (0,(kG 7)) rd sw ⟨U,jL _,hs0⟩ ?_
 rintro⟨i1,s1⟩ ⟨hd1,fp,hs3⟩ ag1 e
 rcases s1 with _|⟨y1,rz1⟩
 .have ga:decide ((i1:Int)<7)=false:=by simpa using mR hd1
  exact sr (fO ga U (qO 4 U (hx1 i1 _ ⟨fp,hs3⟩ trivial)))
 have dj:decide ((i1:Int)<7)=true:=by simpa using sQ hd1
 have er:i1<7:=by simpa using io hd1
 refine sr (tO dj U (qO 8 U ?_))
 have ho2:0<=((i1:Int):Int)/\((i1:Int):Int)<(([(dg aL.Appoints),(dB aL.Deputies),(cX aL.Interests),(cw aL.Budgets),(bH aL.Versions),(bh aL.Docs),(bX aL.Approvals)]).length:Int):=ob
 refine aC (na (enc:=λy=>[I y]) ei underlying141 ty37 sl1.1 ho2 (cN ho2) U U U (λq2 A2=>dh ty37 A2 U (qO 7 U (ae hs3 U (λc2 hs5=>?_) (λc2 hs6=>?_)))))
 .exact sr (an (nretP [I 300] (ci hs5)))
 exact aN (qT 2 U (oi i1 U (qO 2 U (ag1 ((i1+1),rz1) _ (Nat.lt_succ_self _) ⟨kx hd1,io hd1,hs6⟩ rd))))
theorem ij(h:HF)(Qh:Int)  : Gu prog 51 [I Qh] h (exW errV (λr:Unit=>(.tuple #[]:Value)) (lA Qh)):=by
 refine cJ func51 U ntmps51 U λX hM hX=>?_
 have hs0:lA Qh=lA Qh:=rfl
 refine qT 5 U (ae hs0 U (λc1 hs1=>?_) (λc1 hs2=>?_))
 .exact bE (av (aC (fw (DO Nw U U) (aC (DK U yg (λe=>gH (nB [] func51 hX (congrArg (exW errV (λr:Unit=>(.tuple #[]:Value))) hs1))))))))
 refine aN ?_
 have hs3:lA Qh=(Except.ok ()):=hs2
 exact et (yc [] [] func51 U hX trivial (congrArg (exW errV (λr:Unit=>(.tuple #[]:Value))) hs3))
theorem kI(h:HF)(s:List Document)(sk:Option Addr)(sj:Nat)(f:(Document->Bool))(f_v:Value)(hs:SlC vR h sk sj s)(hf:∀(h':HF)(dF:Document)(yN:ke),jM h h'->dF∈s->aAu h' dF yN->um prog f_v [.agg (xN dF yN).toArray] h' [] (.bool (f dF))):Ret prog 128 [.slice sk s.length sj,f_v] h (I (ad s f)):=by
 refine sT func128 U ntmps128 U λX hM hX hF=>?_
 have hs0:ad s f=ad s f:=rfl
 refine qK 11 [] U ?_
 refine lp0 s (λi=>[(0,.slice sk s.length sj),(1,f_v),(7,I (s.length:Int)),(8,I (i:Int))]) ([]) (λs1 i=>(ad.L1 f (ad.K1)) s1 i) hs.1.1 hs0 ?_ ?_
 .rintro i1 fp hs1 e
  exact sr (an (nretP [I (-1)] (ci hs1)))
 rintro i1 y1 rz1 hd1 dj aY er gr hs3 hx1 ag1 e
 refine sr (tO dj U (qO 16 U (aC (iR nA ty51 hs.1 aY U U U (λ_ _ _ e=>e) (λq2 r2 A2 ok2=>dz ty51 A2 U U (aC (lT (v:=.bool (f y1)) [] (List.nil_sublist _) (hf h y1 r2 lf (fX hd1) ok2) U U (aJ (ae hs3 U (λc2 hs4=>?_) (λc2 hs5=>?_))))))))))
 .exact sr (qO 3 U (nretP [I (i1:Int)] (ci hs4)))
 exact aN (qT 2 U (oi i1 U (qO 2 U (ag1 hs5))))
theorem Ck(s:List Document)(f:Document->Bool):ad s f<(s.length:Int):=by
 have key:∀(l:List Document)(i:Nat),ad.L1 f ad.K1 l i<((i+l.length:Nat):Int):=by
  intro l
  induction l with
  |nil=>intro i;simp only[ad.L1,ad.K1];omega
  |cons y l ih=>
   intro i
   simp only[ad.L1,Bool.cond_eq_ite,zA]
   split
   .omega
   have:=ih (i+1);omega
 have:=key s 0
 simpa[ad]using this
theorem Dy(h:HF)(d:Document)(DE:ke)(v0:Int)(v0_q:Addr)(hd:aAu h d DE)(av0:At h v0_q [I v0]):Ret prog 129 [.agg (xN d DE).toArray,.pointer (some v0_q)] h (.bool (bB d v0)):=by
 refine sT func129 U ntmps129 U λX hM hX hF=>?_
 have hs0:bB d v0=bB d v0:=rfl
 exact sr (cy (λb1=>qL 6 [0] U (dh ty3 av0 U (qO 3 U (nretP [.bool (d.No==v0)] (cs hs0))))))
theorem yY(h:HF)(aL:Register)(fx:dD)(doc:Int)(bp:Int)(known:Int)(iW:zL h aL fx):Hr prog 53 [.agg (xL aL fx).toArray,I doc,I bp,I known] h errV (kW aL doc bp known) (λ(r:bN)v h'=>∃(rr0:j2),v=.agg (bN.cells r rr0).toArray/\bN.ok h' r rr0):=by
 refine cJ func53 U ntmps53 U λX hM hX=>?_
 have hs0:kW aL doc bp known=kW aL doc bp known:=rfl
 refine sr (cy (λb1=>cy (λb2=>ba zc123 (λb3=>qL 5 [2] U (aX 1 U hM (λh1 hle1 hb1=>aC (eG U U (ai call128 (kI _ _ _ _ (λdF=>bB dF doc) (.func (.func 129) #[] #[Q b2]) (iW.Docs.mono zH hle1) (λh' dF yN hle Ot a0_o=>iJ call129 (Dy h' dF yN doc ⟨b2,0,none⟩ a0_o ((cA hb1).mono hle)))) U (qO 8 U (bV 5 [16,17,18,19,20,21] 16 21 (decide ((min bp known)<0)) U (λc1 hk1=>?_) (λe=>?_)))))))))))
 .exact av (av (aC (fw (P6 U U) (qO 2 U (hk1 _ U)))))
 refine av (bV 5 [22,23,24,25,26,27] 22 27 (decide (1099511627776<=(max bp known))) U (λc2 hk2=>?_) (λe=>?_))
 .exact av (av (aC (fw (P7 U U) (qO 2 U (hk2 _ U)))))
 refine aJ (ae hs0 U (λc3 hs1=>?_) (λc3 hs2=>?_))
 .exact bE (aC (fw (DO Nw U U) (aC (DK U yg (λe=>gH (IG [] func53 hs1))))))
 refine qT 2 U ?_
 let z1:Nat×Obj:=(b1,O (xL aL fx) 30)
 refine eM ([z1]) mixed kr jn (λem _=>?_)
 refine tf 0 U U (λ_ _ hj=>jO ty30 U (hj.nth (i:=0) U) U) (qB [1] U (tf 2 U U (rj 0 ty27 U U U) (tm 3 U ?_)))
 have ho1:0<=((ad aL.Docs (λdF=>bB dF doc)):Int)/\((ad aL.Docs (λdF=>bB dF doc)):Int)<((aL.Docs).length:Int):=(by have hq:=Ck aL.Docs (λdF=>bB dF doc);simp only[decide_eq_true_eq,decide_eq_false_iff_not,xB,xD,zE,Bool.not_eq_false',Bool.and_eq_false_iff,Bool.or_eq_false_iff,beq_iff_eq,beq_eq_false_iff_ne,bne_iff_ne,bne_eq_false_iff_eq,jA,zA,jB,List.length_drop]at *;omega)
 refine jt 4 em jn nA ty51 (iW.Docs.mono zH hle1).1 ho1 (cN ho1) U U U U kr (λq1 cs1 A1 ln1 rr1=>?_)
 obtain⟨r1,rfl,ok1⟩:=rr1
 refine tf 5 U U (λ_ _ hj=>lM ty51 (A1.mono hj.1) U U) (qA [6,7] U (tn 8 U (fN (cells:=[.slice fx.vu aL.Appoints.length fx.vr,.slice fx.vq aL.Deputies.length fx.vp,.slice fx.tL aL.Interests.length fx.tK,.slice fx.yx aL.Budgets.length fx.yw,.slice fx.kY aL.Versions.length fx.kX,.slice fx.Cy aL.Docs.length fx.Cw,.slice fx.tN aL.Approvals.length fx.tM,I ((nthI aL.Docs (ad aL.Docs (λdF=>bB dF doc))).No),I ((nthI aL.Docs (ad aL.Docs (λdF=>bB dF doc))).At),I ((nthI aL.Docs (ad aL.Docs (λdF=>bB dF doc))).Kind),I ((nthI aL.Docs (ad aL.Docs (λdF=>bB dF doc))).Value),I ((nthI aL.Docs (ad aL.Docs (λdF=>bB dF doc))).From),I ((nthI aL.Docs (ad aL.Docs (λdF=>bB dF doc))).Until),.slice r1.yt ((nthI aL.Docs (ad aL.Docs (λdF=>bB dF doc))).Parties.length) r1.yr,.slice r1.pN ((nthI aL.Docs (ad aL.Docs (λdF=>bB dF doc))).Revokes.length) r1.pM,.slice r1.yv ((nthI aL.Docs (ad aL.Docs (λdF=>bB dF doc))).Needs.length) r1.yu,Y ((nthI aL.Docs (ad aL.Docs (λdF=>bB dF doc))).Text 0),Y ((nthI aL.Docs (ad aL.Docs (λdF=>bB dF doc))).Text 1),Y ((nthI aL.Docs (ad aL.Docs (λdF=>bB dF doc))).Text 2),Y ((nthI aL.Docs (ad aL.Docs (λdF=>bB dF doc))).Text 3),Y ((nthI aL.Docs (ad aL.Docs (λdF=>bB dF doc))).Text 4),Y ((nthI aL.Docs (ad aL.Docs (λdF=>bB dF doc))).Text 5),Y ((nthI aL.Docs (ad aL.Docs (λdF=>bB dF doc))).Text 6),Y ((nthI aL.Docs (ad aL.Docs (λdF=>bB dF doc))).Text 7),Y ((nthI aL.Docs (ad aL.Docs (λdF=>bB dF doc))).Text 8),Y ((nthI aL.Docs (ad aL.Docs (λdF=>bB dF doc))).Text 9),Y ((nthI aL.Docs (ad aL.Docs (λdF=>bB dF doc))).Text 10),Y ((nthI aL.Docs (ad aL.Docs (λdF=>bB dF doc))).Text 11),Y ((nthI aL.Docs (ad aL.Docs (λdF=>bB dF doc))).Text 12),Y ((nthI aL.Docs (ad aL.Docs (λdF=>bB dF doc))).Text 13),Y ((nthI aL.Docs (ad aL.Docs (λdF=>bB dF doc))).Text 14),Y ((nthI aL.Docs (ad aL.Docs (λdF=>bB dF doc))).Text 15),Y ((nthI aL.Docs (ad aL.Docs (λdF=>bB dF doc))).Text 16),Y ((nthI aL.Docs (ad aL.Docs (λdF=>bB dF doc))).Text 17),Y ((nthI aL.Docs (ad aL.Docs (λdF=>bB dF doc))).Text 18),Y ((nthI aL.Docs (ad aL.Docs (λdF=>bB dF doc))).Text 19),Y ((nthI aL.Docs (ad aL.Docs (λdF=>bB dF doc))).Text 20),Y ((nthI aL.Docs (ad aL.Docs (λdF=>bB dF doc))).Text 21),Y ((nthI aL.Docs (ad aL.Docs (λdF=>bB dF doc))).Text 22),Y ((nthI aL.Docs (ad aL.Docs (λdF=>bB dF doc))).Text 23),Y ((nthI aL.Docs (ad aL.Docs (λdF=>bB dF doc))).Text 24),Y ((nthI aL.Docs (ad aL.Docs (λdF=>bB dF doc))).Text 25),Y ((nthI aL.Docs (ad aL.Docs (λdF=>bB dF doc))).Text 26),Y ((nthI aL.Docs (ad aL.Docs (λdF=>bB dF doc))).Text 27),Y ((nthI aL.Docs (ad aL.Docs (λdF=>bB dF doc))).Text 28),Y ((nthI aL.Docs (ad aL.Docs (λdF=>bB dF doc))).Text 29),Y ((nthI aL.Docs (ad aL.Docs (λdF=>bB dF doc))).Text 30),Y ((nthI aL.Docs (ad aL.Docs (λdF=>bB dF doc))).Text 31),I bp,I known]) (places:=[(0,7),(7,41),(48,1),(49,1)]) underlying123 zc123 kr kr ?_)))
 refine⟨jn,(tn 9 U (sf 0 ty123 U U U U U U (⟨jn,(aV kr ?_)⟩)))⟩
 have hs3:kW aL doc bp known=(Except.ok (bN.mk aL (nthI aL.Docs (ad aL.Docs (λdF=>bB dF doc))) bp known)):=hs2
 exact et (ID [] [.agg (bN.cells (bN.mk aL (nthI aL.Docs (ad aL.Docs (λdF=>bB dF doc))) bp known) (j2.mk fx r1)).toArray] func53 U ⟨⟨0,_,_,_,_,U,U,.inl ⟨ty123,U⟩⟩,trivial⟩ hs3 ⟨(j2.mk fx r1),U,(show bN.ok h1 (bN.mk aL (nthI aL.Docs (ad aL.Docs (λdF=>bB dF doc))) bp known) (j2.mk fx r1)from⟨(iW.mono hle1),ok1⟩)⟩)
theorem uG(h:HF)(x:Int)  : Ret prog 211 [I x] h (.bool (cmp_isNaN_int x)):=by
 refine sT Rr U ntmps211 U λX hM hX hF=>?_
 have hs0:cmp_isNaN_int x=cmp_isNaN_int x:=rfl
 exact sr (qO 9 U (nretP [.bool (x != x)] (cs hs0)))
end Go.Sg

namespace Go.Proofs
open Go.Shelf
def Tryz.Jn:Go.Shelf.Ren:=⟨λ| 137=>384|217=>387|266=>388|n=>n,λ| 9=>9|5=>5|3=>3|n=>n,λ| n=>n⟩
theorem Tryz.lays137:Go.Proofs.Lays.n137 Tryz.prog Tryz.Jn:={
 mixed:=by kernel_rfl
 f137:=Tryz.func384.trans (congrArg some (by kernel_rfl))
 f217:=Tryz.func387.trans (congrArg some (by kernel_rfl))
 f266:=Tryz.func388.trans (congrArg some (by kernel_rfl))
 t3:=Tryz.underlying3
 a3:=Tryz.isAgg3
 z3:=Tryz.sizeOf3
 v3:=Tryz.zeroValue3
 t5:=Tryz.underlying5
 a5:=Tryz.isAgg5
 z5:=Tryz.sizeOf5
 v5:=Tryz.zeroValue5
 t9:=Tryz.underlying9
 a9:=Tryz.isAgg9
 z9:=Tryz.sizeOf9
 v9:=Tryz.zeroValue9 }
open Go.RowKit in
theorem Tryz.strings_IndexByte(s:ByteArray)(c:Int)(w:World):
  Calls Tryz.prog 384 #[.string s,.int .u8 c] w λe w'=>e=.returned (.int .i64 (Lib.indexByte s.data.toList c.toNat.toUInt8))/\w'=w:=Any.strings_IndexByte Tryz.lays137 s c w
open Go.RowKit Go.Lib in
def Tryz.Jm:Go.Shelf.Ren:=⟨λ| 189=>88|125=>174|257=>173|128=>271|129=>272|294=>263|295=>264|296=>265|297=>266|298=>267|299=>268|216=>209|300=>269|301=>270|328=>316|329=>317|330=>318|331=>319|332=>320|215=>211|343=>354|n=>n,λ| 28=>31|3=>3|46=>245|0=>0|51=>313|53=>315|4=>4|183=>307|182=>306|131=>191|5=>5|9=>9|218=>349|222=>353|228=>382|229=>213|n=>n,λ| n=>n⟩
theorem Tryz.lays189:Go.Proofs.Lays.n189 Tryz.prog Tryz.Jm:={
 mixed:=by kernel_rfl
 f125:=Tryz.func174.trans (congrArg some (by kernel_rfl))
 f128:=Tryz.func271.trans (congrArg some (by kernel_rfl))
 f129:=Tryz.func272.trans (congrArg some (by kernel_rfl))
 f189:=Tryz.func88.trans (congrArg some (by kernel_rfl))
 f215:=Tryz.func211.trans (congrArg some (by kernel_rfl))
 f216:=Tryz.func209.trans (congrArg some (by kernel_rfl))
 f257:=Tryz.func173.trans (congrArg some (by kernel_rfl))
 f294:=Tryz.func263.trans (congrArg some (by kernel_rfl))
 f295:=Tryz.func264.trans (congrArg some (by kernel_rfl))
 f296:=Tryz.func265.trans (congrArg some (by kernel_rfl))
 f297:=Tryz.func266.trans (congrArg some (by kernel_rfl))
 f298:=Tryz.func267.trans (congrArg some (by kernel_rfl))
 f299:=Tryz.func268.trans (congrArg some (by kernel_rfl))
 f300:=Tryz.func269.trans (congrArg some (by kernel_rfl))
 f301:=Tryz.func270.trans (congrArg some (by kernel_rfl))
 f328:=Tryz.func316.trans (congrArg some (by kernel_rfl))
 f329:=Tryz.func317.trans (congrArg some (by kernel_rfl))
 f330:=Tryz.func318.trans (congrArg some (by kernel_rfl))
 f331:=Tryz.func319.trans (congrArg some (by kernel_rfl))
 f332:=Tryz.func320.trans (congrArg some (by kernel_rfl))
 f343:=Tryz.func354.trans (congrArg some (by kernel_rfl))
 t0:=Tryz.underlying0
 a0:=Tryz.isAgg0
 z0:=Tryz.sizeOf0
 v0:=Tryz.zeroValue0
 t3:=Tryz.underlying3
 a3:=Tryz.isAgg3
 z3:=Tryz.sizeOf3
 v3:=Tryz.zeroValue3
 t4:=Tryz.underlying4
 a4:=Tryz.isAgg4
 z4:=Tryz.sizeOf4
 v4:=Tryz.zeroValue4
 t5:=Tryz.underlying5
 a5:=Tryz.isAgg5
 z5:=Tryz.sizeOf5
 v5:=Tryz.zeroValue5
 t9:=Tryz.underlying9
 a9:=Tryz.isAgg9
 z9:=Tryz.sizeOf9
 v9:=Tryz.zeroValue9
 t28:=Tryz.underlying31
 a28:=Tryz.isAgg31
 z28:=Tryz.sizeOf31
 v28:=Tryz.zeroValue31
 t46:=Tryz.underlying245
 a46:=Tryz.isAgg245
 z46:=Tryz.sizeOf245
 v46:=Tryz.zeroValue245
 t51:=Tryz.underlying313
 a51:=Tryz.isAgg313
 z51:=Tryz.sizeOf313
 v51:=Tryz.zeroValue313
 t53:=Tryz.underlying315
 a53:=Tryz.isAgg315
 z53:=Tryz.sizeOf315
 v53:=Tryz.zeroValue315
 t131:=Tryz.underlying191
 a131:=Tryz.isAgg191
 z131:=Tryz.sizeOf191
 v131:=Tryz.zeroValue191
 t182:=Tryz.underlying306
 a182:=Tryz.isAgg306
 z182:=Tryz.sizeOf306
 v182:=Tryz.zeroValue306
 t183:=Tryz.underlying307
 a183:=Tryz.isAgg307
 z183:=Tryz.sizeOf307
 v183:=Tryz.zeroValue307
 t218:=Tryz.underlying349
 a218:=Tryz.isAgg349
 z218:=Tryz.sizeOf349
 v218:=Tryz.zeroValue349
 t222:=Tryz.underlying353
 a222:=Tryz.isAgg353
 z222:=Tryz.sizeOf353
 v222:=Tryz.zeroValue353
 t228:=Tryz.underlying382
 a228:=Tryz.isAgg382
 z228:=Tryz.sizeOf382
 v228:=Tryz.zeroValue382
 t229:=Tryz.underlying213
 a229:=Tryz.isAgg213
 z229:=Tryz.sizeOf213
 v229:=Tryz.zeroValue213 }
open Go.Sort Go.RowKit in
theorem Tryz.slices_Sort_int(blk off cap:Nat)(zs:List Int)(w:World)(hH:Holds (Value.int .i64) w blk off zs.toArray)(hblk:blk<w.heap.size)(hsz:zs.length<4611686018427387904):
  Calls Tryz.prog 88 #[.slice (some ⟨blk,off,none⟩) zs.length cap] w λe w'=>
   e=.returned (.tuple #[])/\∃n os,w'=grow (putRow (Value.int .i64) (Sort.ahead w n) blk off (zs.mergeSort λx y=>decide (x<=y)).toArray) os:=Any.slices_Sort_int Tryz.lays189 blk off cap zs w hH hblk hsz
def Tryz.Gd:Go.Shelf.Ren:=⟨λ| 20=>136|n=>n,λ| 22=>31|3=>3|4=>4|0=>0|n=>n,λ| n=>n⟩
theorem Tryz.laysNm220:Go.Proofs.Lays2.n20 Tryz.prog Tryz.Gd:={
 mixed:=by kernel_rfl
 f20:=Tryz.func136.trans (congrArg some (by kernel_rfl))
 t0:=Tryz.underlying0
 a0:=Tryz.isAgg0
 z0:=Tryz.sizeOf0
 v0:=Tryz.zeroValue0
 t3:=Tryz.underlying3
 a3:=Tryz.isAgg3
 z3:=Tryz.sizeOf3
 v3:=Tryz.zeroValue3
 t4:=Tryz.underlying4
 a4:=Tryz.isAgg4
 z4:=Tryz.sizeOf4
 v4:=Tryz.zeroValue4
 t22:=Tryz.underlying31
 a22:=Tryz.isAgg31
 z22:=Tryz.sizeOf31
 v22:=Tryz.zeroValue31
 i3:=by kernel_rfl }
open Go.RowKit Go.Lib Go.Sort in
open Go.RowKit Go.Lib Go.Sort in
theorem Tryz.slices_Compact_int(blk off cap:Nat)(zs:List Int)(w:World)(hH:Holds (Value.int .i64) w blk off zs.toArray)(hsz:zs.length<=9223372036854775807)(hcap:zs.length<=cap):
  Calls Tryz.prog 136 #[.slice (some ⟨blk,off,none⟩) zs.length cap] w λe w'=>e=.returned (.slice (some ⟨blk,off,none⟩) (Lib.compact zs).length cap)/\∃q,w'=putRow (Value.int .i64) (Sort.ahead w q) blk off (Lib.compact zs++List.replicate (zs.length-(Lib.compact zs).length) 0).toArray:=Any.slices_Compact_int Tryz.laysNm220 blk off cap zs w hH hsz hcap
open Go.RowKit Go.Lib Go.Sort in
theorem Tryz.slices_Compact_int_empty(a:Option Addr)(cap:Nat)(w:World):
  Calls Tryz.prog 136 #[.slice a 0 cap] w λe w'=>e=.returned (.slice a 0 cap)/\w'=w:=Any.slices_Compact_int_empty Tryz.laysNm220 a cap w
open Go.RowKit Go.Lib in
open Go.RowKit Go.Lib in
open Go.RowKit Go.Lib in
def Tryz.Gc:Go.Shelf.Ren:=⟨λ| 25=>114|31=>209|32=>210|37=>211|n=>n,λ| 22=>31|3=>3|4=>4|40=>245|0=>0|n=>n,λ| n=>n⟩
theorem Tryz.laysNm225:Go.Proofs.Lays2.n25 Tryz.prog Tryz.Gc:={
 mixed:=by kernel_rfl
 f25:=Tryz.func114.trans (congrArg some (by kernel_rfl))
 f31:=Tryz.func209.trans (congrArg some (by kernel_rfl))
 f32:=Tryz.func210.trans (congrArg some (by kernel_rfl))
 f37:=Tryz.func211.trans (congrArg some (by kernel_rfl))
 t0:=Tryz.underlying0
 a0:=Tryz.isAgg0
 z0:=Tryz.sizeOf0
 v0:=Tryz.zeroValue0
 t3:=Tryz.underlying3
 a3:=Tryz.isAgg3
 z3:=Tryz.sizeOf3
 v3:=Tryz.zeroValue3
 t4:=Tryz.underlying4
 a4:=Tryz.isAgg4
 z4:=Tryz.sizeOf4
 v4:=Tryz.zeroValue4
 t22:=Tryz.underlying31
 a22:=Tryz.isAgg31
 z22:=Tryz.sizeOf31
 v22:=Tryz.zeroValue31
 t40:=Tryz.underlying245
 a40:=Tryz.isAgg245
 z40:=Tryz.sizeOf245
 v40:=Tryz.zeroValue245 }
open Go.RowKit Go.Lib in
theorem Tryz.slices_BinarySearch_int(b off n c:Nat)(zs:List Int)(x:Int)(w:World)(hz:n<=zs.length)(hbig:n<4611686018427387904)(hc:∀j,j<zs.length->w.cell? ⟨b,off+j,none⟩=some (.int .i64 (zs.getD j 0)))(hs:(zs.take n).Pairwise (·<=·)):
  Calls Tryz.prog 114 #[.slice (some ⟨b,off,none⟩) n c,.int .i64 x] w λe w'=>e=.returned (.tuple #[.int .i64 ((zs.take n).countP (·<x):Nat),.bool ((zs.take n).contains x)])/\∃q,w'=w.drewN q:=Any.slices_BinarySearch_int Tryz.laysNm225 b off n c zs x w hz hbig hc hs
open Go.RowKit Go.Sort in
theorem Tryz.slices_Sort_int_none(p:Option Addr)(cap:Nat)(w:World):
  Calls Tryz.prog 88 #[.slice p 0 cap] w λe w'=>e=.returned (.tuple #[])/\w'=w:=Any.slices_Sort_int_none Tryz.lays189 p cap w
open Go.RowKit Go.Lib in
theorem Tryz.slices_BinarySearch_int_empty(a:Option Addr)(c:Nat)(x:Int)(w:World):
  Calls Tryz.prog 114 #[.slice a 0 c,.int .i64 x] w λe w'=>e=.returned (.tuple #[.int .i64 0,.bool false])/\w'=w:=Any.slices_BinarySearch_int_empty Tryz.laysNm225 a c x w
def Tryz.zX:Go.Shelf.Ren:=⟨λ| 7=>211|n=>n,λ| 22=>3|4=>4|n=>n,λ| n=>n⟩
theorem Tryz.ER:Go.Proofs.SlLaysC2.n7 Tryz.prog Tryz.zX:={
 mixed:=by kernel_rfl
 f7:=⟨Tryz.f211.name,by decide,Tryz.func211.trans (congrArg some (by kernel_rfl))⟩
 t4:=Tryz.underlying4
 a4:=Tryz.isAgg4
 z4:=Tryz.sizeOf4
 v4:=Tryz.zeroValue4
 t22:=Tryz.underlying3
 a22:=Tryz.isAgg3
 z22:=Tryz.sizeOf3
 v22:=Tryz.zeroValue3 }
open Go.Lib in
theorem Tryz.cmp_isNaN_int(x:Int)(w:World):
  Calls Tryz.prog 211 #[.int .i64 x] w λe w'=>e=.returned (.bool false)/\w'=w:=AnyG.cmp_isNaN_int Tryz.ER x w
def Tryz.zY:Go.Shelf.Ren:=⟨λ| 5=>118|7=>211|n=>n,λ| 22=>3|3=>3|4=>4|n=>n,λ| n=>n⟩
theorem Tryz.ES:Go.Proofs.SlLaysC2.n5 Tryz.prog Tryz.zY:={
 mixed:=by kernel_rfl
 f5:=⟨Tryz.f118.name,by decide,Tryz.func118.trans (congrArg some (by kernel_rfl))⟩
 f7:=⟨Tryz.f211.name,by decide,Tryz.func211.trans (congrArg some (by kernel_rfl))⟩
 t3:=Tryz.underlying3
 a3:=Tryz.isAgg3
 z3:=Tryz.sizeOf3
 v3:=Tryz.zeroValue3
 t4:=Tryz.underlying4
 a4:=Tryz.isAgg4
 z4:=Tryz.sizeOf4
 v4:=Tryz.zeroValue4
 t22:=Tryz.underlying3
 a22:=Tryz.isAgg3
 z22:=Tryz.sizeOf3
 v22:=Tryz.zeroValue3 }
open Go.Lib in
theorem Tryz.cmp_Compare_int(x y:Int)(w:World):
  Calls Tryz.prog 118 #[.int .i64 x,.int .i64 y] w λe w'=>e=.returned (.int .i64 (Lib.compareInt x y))/\w'=w:=AnyG.cmp_Compare_int Tryz.ES x y w
def Tryz.HD:Go.Shelf.Ren:=⟨λ| 6=>274|15=>174|14=>322|28=>271|29=>272|20=>355|21=>356|22=>357|23=>358|24=>359|25=>360|26=>361|27=>362|46=>374|47=>317|48=>318|49=>375|50=>376|57=>383|n=>n,λ| 22=>249|24=>182|25=>248|3=>3|39=>245|0=>0|53=>313|55=>315|4=>4|46=>307|45=>306|50=>191|5=>5|9=>9|66=>349|70=>353|76=>382|77=>213|n=>n,λ| n=>n⟩
theorem Tryz.sortSeat:Go.Proofs.SlLaysF0.n6 Tryz.prog Tryz.HD:={
 mixed:=by kernel_rfl
 f6:=⟨Tryz.f274.name,by decide,Tryz.func274.trans (congrArg some (by kernel_rfl))⟩
 f14:=⟨Tryz.f322.name,by decide,Tryz.func322.trans (congrArg some (by kernel_rfl))⟩
 f15:=Tryz.func174.trans (congrArg some (by kernel_rfl))
 f20:=⟨Tryz.f355.name,by decide,Tryz.func355.trans (congrArg some (by kernel_rfl))⟩
 f21:=⟨Tryz.f356.name,by decide,Tryz.func356.trans (congrArg some (by kernel_rfl))⟩
 f22:=⟨Tryz.f357.name,by decide,Tryz.func357.trans (congrArg some (by kernel_rfl))⟩
 f23:=⟨Tryz.f358.name,by decide,Tryz.func358.trans (congrArg some (by kernel_rfl))⟩
 f24:=⟨Tryz.f359.name,by decide,Tryz.func359.trans (congrArg some (by kernel_rfl))⟩
 f25:=⟨Tryz.f360.name,by decide,Tryz.func360.trans (congrArg some (by kernel_rfl))⟩
 f26:=⟨Tryz.f361.name,by decide,Tryz.func361.trans (congrArg some (by kernel_rfl))⟩
 f27:=⟨Tryz.f362.name,by decide,Tryz.func362.trans (congrArg some (by kernel_rfl))⟩
 f28:=Tryz.func271.trans (congrArg some (by kernel_rfl))
 f29:=Tryz.func272.trans (congrArg some (by kernel_rfl))
 f46:=⟨Tryz.f374.name,by decide,Tryz.func374.trans (congrArg some (by kernel_rfl))⟩
 f47:=Tryz.func317.trans (congrArg some (by kernel_rfl))
 f48:=Tryz.func318.trans (congrArg some (by kernel_rfl))
 f49:=⟨Tryz.f375.name,by decide,Tryz.func375.trans (congrArg some (by kernel_rfl))⟩
 f50:=⟨Tryz.f376.name,by decide,Tryz.func376.trans (congrArg some (by kernel_rfl))⟩
 f57:=⟨Tryz.f383.name,by decide,Tryz.func383.trans (congrArg some (by kernel_rfl))⟩
 t0:=Tryz.underlying0
 a0:=Tryz.isAgg0
 z0:=Tryz.sizeOf0
 v0:=Tryz.zeroValue0
 t3:=Tryz.underlying3
 a3:=Tryz.isAgg3
 z3:=Tryz.sizeOf3
 v3:=Tryz.zeroValue3
 t4:=Tryz.underlying4
 a4:=Tryz.isAgg4
 z4:=Tryz.sizeOf4
 v4:=Tryz.zeroValue4
 t5:=Tryz.underlying5
 a5:=Tryz.isAgg5
 z5:=Tryz.sizeOf5
 v5:=Tryz.zeroValue5
 t9:=Tryz.underlying9
 a9:=Tryz.isAgg9
 z9:=Tryz.sizeOf9
 v9:=Tryz.zeroValue9
 t22:=Tryz.underlying249
 a22:=Tryz.isAgg249
 z22:=Tryz.sizeOf249
 v22:=Tryz.zeroValue249
 t25:=Tryz.underlying248
 a25:=Tryz.isAgg248
 z25:=Tryz.sizeOf248
 v25:=Tryz.zeroValue248
 t39:=Tryz.underlying245
 a39:=Tryz.isAgg245
 z39:=Tryz.sizeOf245
 v39:=Tryz.zeroValue245
 t45:=Tryz.underlying306
 a45:=Tryz.isAgg306
 z45:=Tryz.sizeOf306
 v45:=Tryz.zeroValue306
 t46:=Tryz.underlying307
 a46:=Tryz.isAgg307
 z46:=Tryz.sizeOf307
 v46:=Tryz.zeroValue307
 t50:=Tryz.underlying191
 a50:=Tryz.isAgg191
 z50:=Tryz.sizeOf191
 v50:=Tryz.zeroValue191
 t53:=Tryz.underlying313
 a53:=Tryz.isAgg313
 z53:=Tryz.sizeOf313
 v53:=Tryz.zeroValue313
 t55:=Tryz.underlying315
 a55:=Tryz.isAgg315
 z55:=Tryz.sizeOf315
 v55:=Tryz.zeroValue315
 t66:=Tryz.underlying349
 a66:=Tryz.isAgg349
 z66:=Tryz.sizeOf349
 v66:=Tryz.zeroValue349
 t70:=Tryz.underlying353
 a70:=Tryz.isAgg353
 z70:=Tryz.sizeOf353
 v70:=Tryz.zeroValue353
 t76:=Tryz.underlying382
 a76:=Tryz.isAgg382
 z76:=Tryz.sizeOf382
 v76:=Tryz.zeroValue382
 t77:=Tryz.underlying213
 a77:=Tryz.isAgg213
 z77:=Tryz.sizeOf213
 v77:=Tryz.zeroValue213 }
end Go.Proofs
namespace Go.Sg
open Go.Proofs Go.Proofs.Tryz Go.RowKit
theorem PG{h:HF}{b:Option Addr}{xs:List Int}(hs:SlB qC h b xs)(hne:xs≠[]):∃g off,b=some ⟨g,off,none⟩/\∀w,Pre h [] w->∀j,j<xs.length->w.cell? ⟨g,off+j,none⟩=some (.int .i64 (xs.getD j 0)):=by
 obtain⟨x0,r,rfl⟩:∃x r,xs=x::r:=by cases xs with
  |nil=>exact(hne rfl).elim
  |cons x r=>exact⟨x,r,rfl⟩
 obtain⟨p,cs,rfl,hA,_,_⟩:=hs.2 0 x0 rfl
 have hsp:p.spot=none:=by
  obtain⟨_,_,_,_,h2,_⟩:=hA
  simpa[jT]using h2
 obtain⟨g,off,sp⟩:=p
 simp only at hsp
 subst hsp
 refine⟨g,off,rfl,λw hp j hj=>?_⟩
 obtain⟨p',cs',e,hA',hl,hr⟩:=hs.2 j ((x0::r)[j]) (by rw[kF hj])
 cases e
 have hcs:cs'=[.int .i64 ((x0::r)[j])]:=hr
 subst hcs
 have hc:=hA'.cell (X:=⟨w,h,[]⟩) (L:=[]) (aBd hp) (j:=0) (v:=.int .i64 ((x0::r)[j])) rfl
 have ha:((⟨g,off,none⟩:Addr).add (j*Rp.int.sz)).add 0=⟨g,off+j,none⟩:=by
  have h1:j*Rp.int.sz=j:=Nat.mul_one j
  rw[h1]
  by_cases e0:j=0
  .subst e0;simp[jT]
  .simp[jT,e0]
 rw[ha]at hc
 rw[hc]
 simp[List.getD,kF hj]
theorem m9(h:HF)(x:List Int)(Qk:Option Addr)(P3:Nat)(target:Int)(hx:SlC qC h Qk P3 x)(hs:x.Pairwise (·<=·))(hsz:x.length<=2000000):
  Ret prog 114 [.slice Qk x.length P3,.int .i64 target] h (.tuple #[.int .i64 (slices_BinarySearch_int x target).1,.bool (slices_BinarySearch_int x target).2]):=by
 intro w hp
 by_cases hne:x=[]
 .subst hne
  refine(kn (Tryz.slices_BinarySearch_int_empty Qk P3 target w) (λw' hw=>by cases hw.1)).mono ?_
  rintro e w' ⟨rfl,rfl⟩
  exact⟨h,[],aBd hp,rfl,rfl,rfl⟩
 .obtain⟨g,off,rfl,hc⟩:=PG hx.1 hne
  refine(kn (Tryz.slices_BinarySearch_int g off x.length P3 x target w (xG _) (by omega) (hc w hp) (by simpa using hs)) (λw' hw=>by cases hw.1)).mono ?_
  rintro e w' ⟨rfl,q,rfl⟩
  refine⟨h,[],(aBd hp).drew _,?_,rfl,rfl⟩
  simp[bsI,slices_BinarySearch_int]
theorem mw(h:HF)(xs:List Int)(b:Option Addr)(c:Nat)(G:LH)(hG:dG qC 3 h xs b c G)(hsz:xs.length<=1000000000000):
  od prog 88 [.slice b xs.length c].toArray h G (λr h' G'=>h'=h/\r=.returned (.tuple #[])/\dG qC 3 h (sortI xs) b c G'):=by
 intro w hp
 rcases hG with⟨rfl,rfl,rfl,rfl⟩|⟨bk,cl,sp,rfl,hcl,hlen,hcap,hmax,rfl⟩
 .refine(kn (Tryz.slices_Sort_int_none none 0 w) (λw' hw=>by cases hw.1)).mono ?_
  rintro e w' ⟨rfl,rfl⟩
  exact⟨h,[],aBd hp,rfl,rfl,by rw[show sortI []=[]from by simp[sortI]];exact dG.nil⟩
 .have hb:=hp.own _ (kC.2 rfl)
  simp only at hb
  have hcl':cl=xs.map (xC .i64):=by
   clear hlen hb hp hcap hmax hsz
   induction xs generalizing cl with
   |nil=>exact hcl
   |cons y l ih=>
    obtain⟨cs,r,rfl,_,hr,hl⟩:=hcl
    have:cs=[.int .i64 y]:=hr
    rw[this,ih r hl];rfl
  subst hcl'
  have hH:Sort.Holds (xC .i64) w bk 0 xs.toArray:=by
   refine holds_of_blockI (cur:=(xs.map (xC .i64)++sp).toArray) (e:=3) hb ?_
   simp
  refine(kn (Tryz.slices_Sort_int bk 0 c xs w hH (ib hb) (by omega)) (λw' hw=>by cases hw.1)).mono ?_
  rw[H3]
  rintro e w' ⟨rfl,n,os,rfl⟩
  obtain⟨g1,g2,g3,g4,g5⟩:=grownBy_sortedI (w:=w) (g:=bk) (n:=n) (os:=os) (sortI xs).toArray
  have hnew:=heap_sortedI (w:=w) (g:=bk) (n:=n) (os:=os) (sortI xs).toArray hb
  have htake:=take_putCellsI (xs.map (xC .i64)++sp).toArray (sortI xs) (by rw[iw];simp)
  refine⟨h,[(bk,.cells (Sort.putCells (xC .i64) 0 (sortI xs).toArray (xs.map (xC .i64)++sp).toArray) 3 (0,0))],⟨g1,g2,g3,g4,λk hk hM=>g5 k hk (λe=>hM (by cases e;simp)),λ_ _ e=>e,λ_ _=>rfl,λk o e=>?_,λq hq=>?_,?_,?_,?_⟩,rfl,rfl,?_⟩
  .have hne:k≠bk:=λe'=>by
    have:=hp.free _ (kC.2 rfl)
    simp only at this
    rw[e',this]at e;cases e
   exact(g5 k (ib (hp.imm k o e)) (λe'=>by cases e';exact hne rfl)).trans (hp.imm k o e)
  .rw[kC.1 hq];exact hnew
  .simp
  .intro q hq;rw[kC.1 hq];exact hp.free (bk,Obj.cells (xs.map (xC .i64)++sp).toArray 3 (0,0)) (kC.2 rfl)
  .intro q hq;rw[kC.1 hq];exact .inr (by simp)
  .refine .inr ⟨bk,(sortI xs).map (xC .i64),(Sort.putCells (xC .i64) 0 (sortI xs).toArray (xs.map (xC .i64)++sp).toArray).toList.drop xs.length,rfl,?_,?_,by rw[iw];exact hcap,by rw[iw];exact hmax,?_⟩
   .have:∀l:List Int,bI qC h (l.map (xC .i64)) l:=by
     intro l
     induction l with
     |nil=>rfl
     |cons y l ih=>exact⟨[.int .i64 y],l.map (xC .i64),rfl,rfl,rfl,ih⟩
    exact this _
   .rw[←htake,iw,List.take_append_drop]
    simpa[Sort.putCells]using hlen
   .rw[←htake,iw,List.take_append_drop]
section steps
variable {P:Program} {b:Frame} {n:Nat} {ops:Array Oper} {F:List Frame->(Machine->Prop)->Prop} {e:Env} {ds:List Deferred} {X:Cx} {h:HF} {L:LH} {K:Env->HF->LH->Prop}
variable {d:Option Nat} {ty:TypeId} {pos:String} {af:Array Edge} {g:Option (Nat×Bool)}
theorem nd(A0 G Q:LH){v:Value}{Φ : LH->Prop}{f:FuncId}{ass:Array Operand}{ats:Array TypeId}{vs:List Value}(hc:∀args w,(callFunc f args).run P w=.ok (.enter f args) w)(hs:od P f vs.toArray h G (λr h' G'=>h'=h/\r=.returned v/\Φ G'))(hL:L=A0++(G++Q))(hvs:ass.toList.map e.ev=vs)(t':∀G',Φ G'->K (pute e d v) h (A0++(G'++Q)))(hg:guardB ops e ⟨d,.call ⟨.value (.func f),ass,ats⟩,ty,pos,af,g⟩=true:=by rfl):
  Stp P b n ops F ds X ⟨d,.call ⟨.value (.func f),ass,ats⟩,ty,pos,af,g⟩ e h L K:=by
 unfold Stp
 rw[if_pos hg]
 intro w hw
 subst hL
 have hp:∀G:LH,(A0++(G++Q)).Perm (G++(A0++Q)):=λG=>by
  rw[←qE,←qE];exact List.Perm.append_right Q List.perm_append_comm
 have hw':=hw.perm (hp G)
 have harr:ass.map e.ev=vs.toArray:=Array.ext' (by simp[←hvs])
 have hr:(execOp e.ev ⟨d,.call ⟨.value (.func f),ass,ats⟩,ty,pos,af,g⟩).run P w=.ok (.enter f vs.toArray) w:=by
  simp[execOp,resolve,Env.ev,Deferred.ofValue,invoke,harr,hc]
 rw[hr]
 refine lP (by simp) (j7 (rq.mono (hs w hw'.pre.left) ?_))
 rintro x w' ⟨h',B,hst,rfl,rfl,hG⟩
 exact⟨h',_,(St.after (A:=G) (F:=A0++Q) hw' hst).perm (hp B).symm,t' B hG⟩
end steps
end Go.Sg

namespace Go.Sg
open Go.Proofs Go.Proofs.Tryz
set_option maxHeartbeats 2000000
theorem qY(h:HF)(s:List Approval)(sk:Option Addr)(sj:Nat)(f:(Approval->Bool))(f_v:Value)(hs:SlC kL h sk sj s)(hf:∀(h':HF)(dF:Approval),jM h h'->um prog f_v [.agg (zD dF).toArray] h' [] (.bool (f dF))):Ret prog 197 [.slice sk s.length sj,f_v] h (I (cD s f)):=by
 refine sT func197 U ntmps197 U λX hM hX hF=>?_
 have hs0:cD s f=cD s f:=rfl
 refine qK 11 [] U ?_
 refine lp0 s (λi=>[(0,.slice sk s.length sj),(1,f_v),(7,I (s.length:Int)),(8,I (i:Int))]) ([]) (λs1 i=>(cD.L1 f (cD.K1)) s1 i) hs.1.1 hs0 ?_ ?_
 .rintro i1 fp hs1 e
  exact sr (an (nretP [I (-1)] (ci hs1)))
 rintro i1 y1 rz1 hd1 dj aY er gr hs3 hx1 ag1 e
 refine sr (tO dj U (qO 16 U (aC (iF zD zk ty81 hs.1 aY U U U (λq2 A2=>dz ty81 A2 U U (aC (lT (v:=.bool (f y1)) [] (List.nil_sublist _) (hf h y1 lf) U U (aJ (ae hs3 U (λc2 hs4=>?_) (λc2 hs5=>?_))))))))))
 .exact sr (qO 3 U (nretP [I (i1:Int)] (ci hs4)))
 exact aN (qT 2 U (oi i1 U (qO 2 U (ag1 hs5))))
theorem pT(x:Approval):(zD x).length=8:=rfl
theorem za(f:Approval->Bool):∀(l:List Approval)(i:Nat),(cD.L1 f cD.K1 l i=-1/\∀x∈l,f x=false) \/
  ∃a y b,l=a++y::b/\cD.L1 f cD.K1 l i=((i+a.length:Nat):Int)/\f y=true/\∀x∈a,f x=false
 |[],i=>.inl ⟨rfl,λ_ h=>(kA h).elim⟩
 |y::l,i=>by
  simp only[cD.L1]
  cases hy:f y with
  |true=>exact .inr ⟨[],y,l,rfl,by simp,hy,λ_ h=>(kA h).elim⟩
  |false=>
   rcases za f l (i+1)with⟨h1,h2⟩|⟨a,z,b,rfl,h2,h3,h4⟩
   .exact .inl ⟨h1,λx hx=>by rcases kB.1 hx with rfl|hx;exact hy;exact h2 x hx⟩
   refine .inr ⟨y::a,z,b,rfl,?_,h3,λx hx=>by rcases kB.1 hx with rfl|hx;exact hy;exact h4 x hx⟩
   rw[cond_false,h2];simp only[zA];congr 1;omega
theorem BH{q:Approval->Bool}{l:List Approval}(h:∀x∈l,q x=false):(l.filter λx=>!(q x))=l:=by
 rw[List.filter_eq_self];intro x hx;simp[h x hx]
theorem M7{q:Approval->Bool}{s zs:List Approval}{i j:Nat}{y:Approval}(hij:i<j)(hz:zs.length=s.length)(hj:s[j]? = some y)(ht:zs.take i=(s.take j).filter λx=>!(q x))(hd:zs.drop j=s.drop j)(hy:q y=false):
  (zs.set i y).take (i+1)=((s.take (j+1)).filter λx=>!(q x))/\(zs.set i y).drop (j+1)=s.drop (j+1):=by
 have hjl:j<s.length:=by
  rcases jP j s.length with h|h
  .exact h
  simp[List.getElem?_eq_none h]at hj
 constructor
 .rw[List.take_add_one,List.take_set_of_le (xG _),ht,List.take_add_one,hj,List.filter_append]
  simp[hy,show i<zs.length from by omega]
 rw[List.drop_set_of_lt ob,←List.drop_drop,hd,List.drop_drop]
theorem M6{q:Approval->Bool}{s zs:List Approval}{i j:Nat}{y:Approval}(hj:s[j]? = some y)(ht:zs.take i=(s.take j).filter λx=>!(q x))(hd:zs.drop j=s.drop j)(hy:q y=true):
  zs.take i=((s.take (j+1)).filter λx=>!(q x))/\zs.drop (j+1)=s.drop (j+1):=by
 constructor
 .rw[List.take_add_one,hj,List.filter_append,ht];simp[hy]
 rw[←List.drop_drop,hd,List.drop_drop]
theorem BI{h:HF}{xs:List Approval}{bk c:Nat}{sp:List Value}(h3:(xs.flatMap zD++sp).length=c*8)(h4:xs.length<=c)(h5:xs.length<=9223372036854775807):dG kL 81 h xs (some ⟨bk,0,none⟩) c [(bk,.cells (xs.flatMap zD++sp).toArray 81 (0,0))]:=
 .inr ⟨bk,_,sp,rfl,Fw (λ_ _=>rfl) pT h xs,h3,h4,h5,rfl⟩
theorem pW(h:HF)(s:List Approval)(b:Option Addr)(c:Nat)(G:LH)(del:Approval->Bool)(del_v:Value)(hG:dG kL 81 h s b c G)(hdel:∀(h':HF)(dF:Approval),jM h h'->um prog del_v [.agg (zD dF).toArray] h' [] (.bool (del dF)))(hsz:s.length<=2000000):
  od prog 104 [.slice b s.length c,del_v].toArray h G (λr h' G'=>h'=h/\r=.returned (.slice b (fG s del).length c)/\dG kL 81 h (fG s del) b c G'):=by
 refine cJ func104 U ntmps104 U λX hM hX=>qT 8 U (aC (Eg [] G [] call197 jH hG (by simp) (λh1 hle hsl=>qY h1 s b c del del_v hsl (λh' a hl=>hdel h' a (hle.t hl))) U (qO 6 U ?_)))
 have hcase:=za del s 0
 rw[show cD.L1 del cD.K1 s 0=cD s del from rfl]at hcase
 rcases hcase with⟨h1,h2⟩|⟨a,y,r,hs,h1,hy,ha⟩
 .rw[h1]
  refine iQ (v':=.bool true) U U (qO 7 U ?_)
  have hf:fG s del=s:=BH h2
  refine pH func104 (λa ha w hw=>res1 U a ha w) (λw hw=>hw.lower) ⟨hX,?_,?_⟩
  .rw[hf];rfl
  rw[hf];exact hG
 rw[h1,Nat.zero_add]
 have hne:((a.length:Int)==-1)=false:=by simp
 have hsl:s.length=a.length+(r.length+1):=by rw[hs];simp
 refine fO hne U (qO 7 U (iQ (v':=I ((a.length+1:Nat):Int)) U (KW ob) (an ?_)))
 refine iL (ι:=Nat×List Approval×LH) (λi=>[(0,.slice b s.length c),(1,del_v),(5,I (i.1:Int))]) (λi=>h) (λi=>i.2.2)
  (λi=>i.1<s.length/\i.2.1.length=s.length/\i.2.1.take i.1=fG s del/\dG kL 81 h i.2.1 b c i.2.2) ?_ (λhx=>?_)
 .rintro⟨i,zs,G'⟩ ⟨hi,hz,hf,hG'⟩ e
  dsimp only at hi hz hf hG'
  rcases hG' with⟨rfl,_⟩|⟨bk,cl,sp,rfl,hcl,h3,h4,h5,rfl⟩
  .simp at hz;omega
  have hcl':=Aj (C:=zD) (λ_ _ _ e=>e) hcl
  subst hcl'
  have hcz:zs.length<=c:=h4
  have hzl:=sO pT zs
  have h3':zs.length*8+sp.length=c*8:=by rw[←hzl,←jA];exact h3
  have hzn:(i:Int).toNat=i:=by omega
  have hgf:dG kL 81 h zs (some ⟨bk,0,none⟩) c [(bk,.cells (zs.flatMap zD++sp).toArray 81 (0,0))]:=BI h3 h4 h5
  obtain⟨m,hm⟩:∃m,s.length-i=m+1:=⟨s.length-i-1,by omega⟩
  refine qT 4 U (aC (fw (v:=.slice (some ⟨bk,i*8,none⟩) (m+1) (c-i)) (Kv zk ty81 U U ob ob hm) (aC (MA (P:=prog) 0 (sz:=8) (zs:=[I 0,I 0,I 0,I 0,I 0,I 0,I 0,.bool false]) (bk:=bk) (cl:=zs.flatMap zD++sp) (cc:=c-i) zk (e8 zv81) U U (by decide) (by decide) U U (off:=i*8) (m:=m) (by rw[jA,hzl];omega) (λvs hvl=>?_)))))
  have hsp:∃sp',splice (zs.flatMap zD++sp) (i*8) vs=(zs.take i).flatMap zD++sp':=by
   have e1:zs.flatMap zD++sp=(zs.take i).flatMap zD++((zs.drop i).flatMap zD++sp):=by
    rw[←qE,←List.flatMap_append,List.take_append_drop]
   rw[e1]
   have e2:i*8=((zs.take i).flatMap zD).length:=by rw[sO pT,List.length_take];congr 1;omega
   have:=ye vs ((zs.take i).flatMap zD) ((zs.drop i).flatMap zD++sp) (by rw[jA,sO pT,List.length_drop,hvl];omega)
   rw[←e2]at this
   exact⟨_,this⟩
  obtain⟨sp',hsp⟩:=hsp
  have hlen:((zs.take i).flatMap zD++sp').length=c*8:=by
   rw[←hsp,Gb];exact h3
  show TO _ _ _ _ _ _ _ _ _ _ h [(bk,.cells (splice (zs.flatMap zD++sp) (i*8) vs).toArray 81 (0,0))]
  rw[hsp]
  have hg2:dG kL 81 h (zs.take i) (some ⟨bk,0,none⟩) c [(bk,.cells ((zs.take i).flatMap zD++sp').toArray 81 (0,0))]:=
   BI hlen (by rw[List.length_take];omega) (by rw[List.length_take];omega)
  refine qO 5 U (aC (NV (z:=(i:Int)) zk ty81 hgf ob (by show _=Value.slice _ _ _;rw[hz];rfl) U U (an ?_)))
  refine pH func104 (λa ha w hw=>res1 U a ha w) (λw hw=>hw.lower) ⟨hX,?_,?_⟩
  .rw[←hf,hzn];rfl
  rw[←hf];exact hg2
 refine kg (ι:=Nat×Nat×List Approval×LH) (λi=>[(0,.slice b s.length c),(1,del_v),(5,I (i.1:Int)),(6,I (i.2.1:Int))]) (λi=>h) (λi=>i.2.2.2)
  (λi=>i.1<i.2.1/\i.2.1<=s.length/\i.2.2.1.length=s.length/\i.2.2.1.take i.1=((s.take i.2.1).filter λx=>!(del x))/\i.2.2.1.drop i.2.1=s.drop i.2.1/\dG kL 81 h i.2.2.1 b c i.2.2.2)
  (λi=>s.length-i.2.1) (a.length,a.length+1,s,G) rd (λw hw=>hw) ⟨Nat.lt_succ_self _,by show a.length+1<=s.length;omega,rfl,?_,rfl,hG⟩ ?_
 .show s.take a.length=((s.take (a.length+1)).filter λx=>!(del x))
  rw[hs,List.take_left' rfl,List.take_add_one,List.take_left' rfl,List.filter_append,BH ha];simp[hy]
 rintro⟨i,j,zs,G'⟩ ⟨hij,hjl,hz,ht,hd,hG'⟩ ag e
 dsimp only at hij hjl hz ht hd hG'
 rcases jP j s.length with hj|hj
 .have hjs:s[j]? = some s[j]:=kF hj
  have hjz:zs[j]? = some s[j]:=by
   have e1:(zs.drop j)[0]? = (s.drop j)[0]?:=by rw[hd]
   simpa[hjs]using e1
  have hiz:zs[i]? = some zs[i]:=kF ob
  rcases hG' with⟨rfl,_⟩|⟨bk,cl,sp,rfl,hcl,h3,h4,h5,rfl⟩
  .simp at hz;omega
  have hcl':=Aj (C:=zD) (λ_ _ _ e=>e) hcl
  subst hcl'
  refine qK 6 [] U (tO (decide_eq_true ob) U (qO 9 U (aC (fw (ou (R:=kL) (xs:=zs) (z:=(j:Int)) zk ty81 U ob U hz.symm U) (aC (fw (jO (off:=j*8) (cs:=zD s[j]) ty81 U (kC.2 U) (O1 pT hjz)) (ba zc81 (λb7=>aQ 0 ty81 U U U U U U (qO 4 U (cK 0 ty81 U U U (aC (lT (v:=.bool (del s[j])) [] (List.nil_sublist _) (hdel h s[j] lf) U U ?_))))))))))))
  cases hy:del s[j]with
  |true=>
   obtain⟨k1,k2⟩:=M6 hjs ht hd hy
   exact mU U (qO 6 U (oi j U (an (bz (L':=[(bk,.cells (zs.flatMap zD++sp).toArray 81 (0,0))]) js (ag (i,j+1,zs,[(bk,.cells (zs.flatMap zD++sp).toArray 81 (0,0))]) _ (by show s.length-(j+1)<s.length-j;omega) ⟨by show i<j+1;omega,hj,hz,k1,k2,BI h3 h4 h5⟩ rd)))))
  |false=>
   obtain⟨k1,k2⟩:=M7 hij hz hjs ht hd hy
   refine qO 7 U (cK 0 ty81 U U U (aC (fw (ou (R:=kL) (xs:=zs) (z:=(i:Int)) zk ty81 U ob U hz.symm U) (aC (ku 1 (off:=i*8) (vs:=zD s[j]) ty81 U U U U (by rw[jA,sO pT,pT];exact Nat.ble_eq_true_of_le ob) U ?_)))))
   have hsl2:setNth [(b7,O (zD s[j]) 81),(bk,.cells (zs.flatMap zD++sp).toArray 81 (0,0))] 1 (bk,.cells (splice (zs.flatMap zD++sp) (i*8) (zD s[j])).toArray 81 (0,0))=[(b7,O (zD s[j]) 81),(bk,.cells ((zs.set i s[j]).flatMap zD++sp).toArray 81 (0,0))]:=by
    rw[IJ pT hiz];rfl
   refine il hsl2 (qO 3 U (oi i U (qO 5 U (oi j U (an (bz (L':=[(bk,.cells ((zs.set i s[j]).flatMap zD++sp).toArray 81 (0,0))]) js ?_))))))
   have hzl2:(zs.set i s[j]).length=s.length:=by rw[List.length_set];exact hz
   exact ag (i+1,j+1,zs.set i s[j],[(bk,.cells ((zs.set i s[j]).flatMap zD++sp).toArray 81 (0,0))]) _ (by show s.length-(j+1)<s.length-j;omega) ⟨by show i+1<j+1;omega,hj,hzl2,k1,k2,BI (by rw[jA,sO pT,List.length_set,←sO pT,←jA];exact h3) (by rw[List.length_set];exact h4) (by rw[List.length_set];exact h5)⟩ rd
 have hje:j=s.length:=by omega
 subst hje
 exact qK 6 [] U (fO (decide_eq_false ob) U (qO 3 U (hx (i,zs,G') _ ⟨hij,hz,by show zs.take i=_;rw[ht,List.take_length];rfl,hG'⟩ rd)))
theorem uJ(h:HF)(v0:List Approval)(tQ:Option Addr)(tP:Nat)(v0_q:Addr)(v1:Int)(v1_q:Addr)(v2:Int)(v2_q:Addr)(v3:Int)(v3_q:Addr)(hv0:SlC kL h tQ tP v0)(av0:At h v0_q [.slice tQ v0.length tP])(av1:At h v1_q [I v1])(av2:At h v2_q [I v2])(av3:At h v3_q [I v3]):Itr prog (.func (.func 288) #[] (vB [.pointer (some v0_q),.pointer (some v1_q),.pointer (some v2_q),.pointer (some v3_q)])) oY (bT v0 v1 v2 v3) h:=by
 refine sE call288 ?_
 intro yf ya yb C Sp Pn h1 A hle m1 m2 m3 hC hy
 refine jg Nv U ntmps288 U λX hXM hX=>?_
 have hs0:bT v0 v1 v2 v3=[]++bT v0 v1 v2 v3:=rfl
 refine sr (dh ty28 (av0.mono hle) U (qL 3 [] U ?_))
 refine lp2 v0 (λi w=>[(0,.func yf ya yb),(2,.pointer (some v1_q)),(3,.pointer (some v2_q)),(4,.pointer (some v3_q)),(8,.slice tQ v0.length tP),(9,I (v0.length:Int)),(10,I (i:Int))]) (λw=>w.2.2) (λw=>w.2.1) (λi w=>C w.1 w.2.2 w.2.1/\jM h1 w.2.2) (λs1 i w=>w.1++(bT.L1 v1 v2 v3 (bT.K1)) s1) ([],A,h1) ((hv0.mono jH hle).1.1) hs0 ⟨hC,lf⟩ ?_ ?_
 .rintro i1 ⟨dn1,A1_,hh1⟩ fp hs1 ⟨hC1_,hl1⟩ e
  refine et ?_
  have hs2:bT v0 v1 v2 v3=dn1:=hs1.trans (List.append_nil _)
  exact sF [] (A:=A1_) Nv U (List.Sublist.refl _) (.inl (hs2▸hC1_))
 rintro i1 ⟨dn1,A1_,hh1⟩ y1 rz1 hd1 dj aY er gr hs3 ⟨hC1_,hl1⟩ hx1 ag1 e
 refine sr (tO dj U (qO 8 U (aC (iF zD zk ty81 (hv0.mono jH (hle.t hl1)).1 aY U U U (λq2 A2=>dz ty81 A2 U U (ba zc81 (λb2=>aQ 0 ty81 U U U U U U (il (L':=[(b2,O (zD y1) 81)]++(A1_)) U (qL 5 [0] U (dh ty3 (av1.mono (hle.t hl1)) U (qO 2 U (bj 5 [18,19,20,21,22,23] 18 23 (decide (y1.At<=v2)) U (λc1 hk1=>?_) (λe=>?_)))))))))))))
 .exact qL 2 [0] U (dh ty3 (av2.mono (hle.t hl1)) U (qO 2 U (hk1 _ U)))
 refine av (bj 5 [24,25,26,27,28,29] 24 29 (decide (y1.Known<=v3)) U (λc2 hk2=>?_) (λe=>?_))
 .exact qL 2 [0] U (dh ty3 (av3.mono (hle.t hl1)) U (qO 2 U (hk2 _ U)))
 refine av (us 30 U (λc3=>?_) (λc3=>?_))
 .have hs4:=hs3.trans (congrArg (dn1++·) (bt c3))
  refine av (cK 0 ty81 U U U ?_)
  have hx1:bT v0 v1 v2 v3=dn1++(y1::(bT.L1 v1 v2 v3 (bT.K1) rz1)):=hs4
  refine aC (kp ([(b2,O (zD y1) 81)]) A1_ ap (hy dn1 y1 _ _ _ _ hx1 hl1 hC1_ U) U U (λh2 A3 hle1 hC1=>?_) (λh3 A4 hle2 hS1=>?_) (λch1 h4 A5 hle3 hP1 e=>gH (mP [] (A:=A5) Nv (List.sublist_append_right _ _) hP1)))
  .have hs5:bT v0 v1 v2 v3=(dn1++[y1])++((bT.L1 v1 v2 v3 (bT.K1) rz1)):=hx1.trans ap
   exact mU U (qO 6 U (oi i1 U (qO 2 U (bz (L':=A3) js (ag1 ((dn1++[y1]),A3,h2) hs5 ⟨hC1,(hl1.t hle1)⟩)))))
  exact mU U (qO 3 U (et (mF [] (A:=A4) Nv U js (.inr hS1))))
 have hs6:=hs3.trans (congrArg (dn1++·) (bf c3))
 exact kq (qO 8 U (oi i1 U (qO 2 U (bz (L':=A1_) js (ag1 (dn1,A1_,hh1) hs6 ⟨hC1_,hl1⟩)))))
theorem pG(h:HF)(l:List Approval)(eP:Option Addr)(eO:Nat)(doc:Int)(bp:Int)(known:Int)(hl:SlC kL h eP eO l):j1 prog 198 [.slice eP l.length eO,I doc,I bp,I known] h (λv h'=>∃(rv0:Value),v=rv0/\Itr prog rv0 oY (eX l doc bp known) h'):=by
 refine sT func198 U ntmps198 U λX hM hX hF=>?_
 have hs0:eX l doc bp known=eX l doc bp known:=rfl
 refine sr (cy (λb1=>cy (λb2=>cy (λb3=>cy (λb4=>qO 4 U (aX 3 U hM (λh1 hle1 hb1=>aX 2 U hM (λh2 hle2 hb2=>aX 1 U hM (λh3 hle3 hb3=>aX 0 U hM (λh4 hle4 hb4=>aC (eG U U (an ?_))))))))))))
 have hs1:eX l doc bp known=(bT l doc bp known):=hs0
 exact nretH [.func (.func 288) #[] #[Q b1,Q b2,Q b3,Q b4]] ⟨(.func (.func 288) #[] #[Q b1,Q b2,Q b3,Q b4]),congrArg (λr:List Approval=>((.func (.func 288) #[] #[Q b1,Q b2,Q b3,Q b4]):Value)) hs1.symm,(by rw[hs1];exact(uJ h4 l eP eO ⟨b1,0,none⟩ doc ⟨b2,0,none⟩ bp ⟨b3,0,none⟩ known ⟨b4,0,none⟩ (hl.mono jH (((hle1.t hle2).t hle3).t hle4)) ((cA hb1).mono ((hle2.t hle3).t hle4)) ((cA hb2).mono (hle3.t hle4)) ((cA hb3).mono hle4) (cA hb4)))⟩
theorem po(l:List Approval)(doc bp known:Int):(eX l doc bp known).length<=l.length:=by
 show(bT.L1 doc bp known bT.K1 l).length<=l.length
 induction l with
 |nil=>exact xG _
 |cons y l ih=>simp only[bT.L1,Bool.cond_eq_ite];split<;>simp only[zA]<;>omega
theorem iS(h:HF)(x:Approval)  : Ret prog 199 [.agg (zD x).toArray] h (.agg (fh.cells (cf x)).toArray):=by
 refine cJ func199 U ntmps199 U λX hM hX=>?_
 have hs0:cf x=cf x:=rfl
 refine sr (cy (λb1=>ba zc274 (λb2=>qL 11 [1,1,1,1] U (aC (fN (cells:=[I x.Doc,I x.By,I x.For,I x.Office]) (places:=[(0,1),(1,1),(2,1),(3,1)]) NF zc274 kr kr (aQ 0 ty274 U U U U U U (aJ ?_)))))))
 have hs1:cf x=(fh.mk x.Doc x.By x.For x.Office):=hs0
 exact s8 [.agg (vB [I x.Doc,I x.By,I x.For,I x.Office])] func199 U hX ⟨⟨0,_,_,_,_,U,U,.inl ⟨ty274,U⟩⟩,trivial⟩ (congrArg (λr:fh=>(.agg (fh.cells r).toArray:Value)) hs1.symm)
theorem wv(h:HF)(l:List Approval)(eP:Option Addr)(eO:Nat)(doc:Int)(bp:Int)(known:Int)(hl:SlC kL h eP eO l)(hsz:l.length<=2000000):Q8 prog 105 [.slice eP l.length eO,I doc,I bp,I known] h kL 81 (aI l doc bp known):=by
 refine cJ Nu U ntmps105 U λX hM hX=>?_
 have hs0:aI l doc bp known=aI l doc bp known:=rfl
 refine sr (ba zc28 (λb1=>qO 3 U (aC (nC (λb2=>ba zc270 (λb3=>cT 0 ty270 U U U U U U (qO 8 U (aC (cS call198 (pG _ _ _ _ doc bp known hl) U (λv1 h1 hle1 hp1=>?_))))))))))
 obtain⟨_,rfl,mo1⟩:=hp1
 refine qO 2 U (et ?_)
 let z1:Nat×Obj:=(b3,O [.map (some b2)] 270)
 let z2:Nat×Obj:=(b1,O [.slice none 0 0] 28)
 refine cn (L':=([z1,(b2,.map #[] 0),z2])++markB []) ap ?_
 refine j3 (it:=v1) (xs:=(eX l doc bp known)) (ι:=(List (fh×Approval))×Obj×HF) [] (λi=>i.2.2) (λi=>[z1,(b2,i.2.1),z2]) (λs i=>aI l doc bp known=((aI.L1 (aI.K1 l doc bp known)) s i.1)/\ja fh.enc (iT kL) i.2.2 i.2.1 i.1/\jM h1 i.2.2) (λ_=>False) (λ_=>False) 0 (λ_ _ _=>False) ([],.map #[] 0,h1) Nu U mo1 U pL (λ_ _ _ _ _ hq=>hq) U (show[z1,(b2,.map #[] 0),z2]=_ from U) ⟨hs0,((ja.nil (enc:=fh.enc) (V:=(iT kL)) (h:=h)).mono (iT.mono jH) hle1),lf⟩ ?_ ?_ ?_ ?_ ?_
 .rintro l1 dm1 lp1 y1 rz1 vs1 ⟨bM,ec,hh1⟩ hr1 X hFR1 ⟨hs1,gv,hl1⟩ hl01 hlr1 hv1 hX hXM hlp1 nx1 rt1 ex1 pn1
  obtain rfl:=hv1
  let z6:Nat×Obj:=(dm1,.deferred (some []))
  refine cn (L':=[(l1,.loop lp1),z6,z1,(b2,ec),z2]++(markB [])) ap (bE (ba zc81 (λb6=>aQ 0 ty81 U U U U U U (aJ (jy 1 U hlp1 (qT 2 U ?_))))))
  let z3:Nat×Obj:=(l1,.loop { lp1 with state:=.busy })
  let z7:Nat×Obj:=(b6,O (zD y1) 81)
  refine eM ([z7,z3,z6,z1,(b2,ec),z2]) mixed kr jn (λem _=>?_)
  refine tf 0 U U (rj 3 ty270 U U U) (tf 1 U U (λ_ _ hj=>jO ty81 U (hj.nth (i:=0) U) U) ?_)
  refine nT 2 7 kr U U ?_ ?_ 
  .refine fe Iz (iS hr1 y1) U (⟨jn,?_⟩)
   refine nT 3 7 kr U U ?_ ?_ 
   .refine lv 4 (k:=(cf y1)) GA lQ U (gv.mono (iT.mono jH) hlr1) (e8 zv81) (show(iT kL) _ (.agg (vB [I 0,I 0,I 0,I 0,I 0,I 0,I 0,.bool false])) (qV 0 0 0 0 0 0 0 false)from⟨_,U,U⟩) U U (λv3 hv2=>?_)
    obtain⟨_,rfl,rfl⟩:=hv2
    refine⟨jn,qR 4 3 U (tn 7 U (AL zc81 (λb7=>⟨jn,tn 8 U (sf 0 ty81 U U U U U U (⟨jn,qA [9] U (aV kr (qT 5 U (bV 6 [30,31,32,33,34,35,36] 30 36 (decide ((mgetD bM (cf y1) (qV 0 0 0 0 0 0 0 false)).At<=y1.At)) U (λc1 hk1=>?_) (λe=>?_))))⟩))⟩)))⟩
    .exact qL 6 [1,0] U (hk1 _ U)
    refine aJ (ae hs1 U (λc2 hs2=>?_) (λc2 hs3=>?_))
    .let z11:Nat×Obj:=(b7,O (zD (mgetD bM (cf y1) (qV 0 0 0 0 0 0 0 false))) 81)
     refine eM ([z11,z7,z3,z6,z1,z2]) mixed kr jn (λmq _=>?_)
     exact tf 0 U U (rj 4 ty270 U U U) (tf 1 U U (λ_ _ hj=>jO ty81 U (hj.nth (i:=1) U) U) (tf 3 U U (λ_ _ hj=>jO ty81 U (hj.nth (i:=1) U) U) (tn 2 U (fe Iz (iS hr1 y1) U (⟨jn,tn 4 U (kb 5 (k:=(cf y1)) (x:=y1) GA lQ U (gv.mono (iT.mono jH) hlr1) U U ⟨_,U,U⟩ (λmo2 hm1=>⟨jn,aV kr (eF (bz (L':=[z3,z6,z1,(b2,mo2),z2]++(markB [])) js (cn (L':=rdH l1 dm1 lp1 (([z1,(b2,mo2),z2])++markB [])) ap (nx1 ((mput bM (cf y1) y1),mo2,hr1) _ _ ⟨hs2,hm1,(hl1.t hlr1)⟩ lf))))⟩))⟩)))))
    exact aN (eF (bz (L':=[z3,z6,z1,(b2,ec),z2]++(markB [])) js (cn (L':=rdH l1 dm1 lp1 (([z1,(b2,ec),z2])++markB [])) ap (nx1 (bM,ec,hr1) _ _ ⟨hs3,(gv.mono (iT.mono jH) hlr1),(hl1.t hlr1)⟩ lf))))
   refine AL zc81 (λb8=>⟨jn,tn 3 U (lv 5 (k:=(cf y1)) GA lQ U (gv.mono (iT.mono jH) hlr1) (e8 zv81) (show(iT kL) _ (.agg (vB [I 0,I 0,I 0,I 0,I 0,I 0,I 0,.bool false])) (qV 0 0 0 0 0 0 0 false)from⟨_,U,U⟩) U U (λv4 hv3=>?_))⟩)
   obtain⟨_,rfl,rfl⟩:=hv3
   refine⟨jn,qR 4 3 U (tn 8 U (sf 0 ty81 U U U U U U (⟨jn,qA [9] U (aV kr (qT 5 U (bV 6 [30,31,32,33,34,35,36] 30 36 (decide ((mgetD bM (cf y1) (qV 0 0 0 0 0 0 0 false)).At<=y1.At)) U (λc3 hk2=>?_) (λe=>?_))))⟩)))⟩
   .exact qL 6 [1,0] U (hk2 _ U)
   refine aJ (ae hs1 U (λc4 hs4=>?_) (λc4 hs5=>?_))
   .let z12:Nat×Obj:=(b8,O (zD (mgetD bM (cf y1) (qV 0 0 0 0 0 0 0 false))) 81)
    refine eM ([z12,z7,z3,z6,z1,z2]) mixed kr jn (λJw _=>?_)
    exact tf 0 U U (rj 4 ty270 U U U) (tf 1 U U (λ_ _ hj=>jO ty81 U (hj.nth (i:=1) U) U) (tf 3 U U (λ_ _ hj=>jO ty81 U (hj.nth (i:=1) U) U) (tn 2 U (fe Iz (iS hr1 y1) U (⟨jn,tn 4 U (kb 5 (k:=(cf y1)) (x:=y1) GA lQ U (gv.mono (iT.mono jH) hlr1) U U ⟨_,U,U⟩ (λmo3 hm2=>⟨jn,aV kr (eF (bz (L':=[z3,z6,z1,(b2,mo3),z2]++(markB [])) js (cn (L':=rdH l1 dm1 lp1 (([z1,(b2,mo3),z2])++markB [])) ap (nx1 ((mput bM (cf y1) y1),mo3,hr1) _ _ ⟨hs4,hm2,(hl1.t hlr1)⟩ lf))))⟩))⟩)))))
   exact aN (eF (bz (L':=[z3,z6,z1,(b2,ec),z2]++(markB [])) js (cn (L':=rdH l1 dm1 lp1 (([z1,(b2,ec),z2])++markB [])) ap (nx1 (bM,ec,hr1) _ _ ⟨hs5,(gv.mono (iT.mono jH) hlr1),(hl1.t hlr1)⟩ lf))))
  refine AL zc81 (λb9=>⟨jn,tn 2 U (fe Iz (iS hr1 y1) U (⟨jn,tn 3 U (lv 5 (k:=(cf y1)) GA lQ U (gv.mono (iT.mono jH) hlr1) (e8 zv81) (show(iT kL) _ (.agg (vB [I 0,I 0,I 0,I 0,I 0,I 0,I 0,.bool false])) (qV 0 0 0 0 0 0 0 false)from⟨_,U,U⟩) U U (λv5 hv4=>?_))⟩))⟩)
  obtain⟨_,rfl,rfl⟩:=hv4
  refine⟨jn,qR 4 3 U (tn 8 U (sf 0 ty81 U U U U U U (⟨jn,qA [9] U (aV kr (qT 5 U (bV 6 [30,31,32,33,34,35,36] 30 36 (decide ((mgetD bM (cf y1) (qV 0 0 0 0 0 0 0 false)).At<=y1.At)) U (λc5 hk3=>?_) (λe=>?_))))⟩)))⟩
  .exact qL 6 [1,0] U (hk3 _ U)
  refine aJ (ae hs1 U (λc6 hs6=>?_) (λc6 hs7=>?_))
  .let z13:Nat×Obj:=(b9,O (zD (mgetD bM (cf y1) (qV 0 0 0 0 0 0 0 false))) 81)
   refine eM ([z13,z7,z3,z6,z1,z2]) mixed kr jn (λRu _=>?_)
   exact tf 0 U U (rj 4 ty270 U U U) (tf 1 U U (λ_ _ hj=>jO ty81 U (hj.nth (i:=1) U) U) (tf 3 U U (λ_ _ hj=>jO ty81 U (hj.nth (i:=1) U) U) (tn 2 U (fe Iz (iS hr1 y1) U (⟨jn,tn 4 U (kb 5 (k:=(cf y1)) (x:=y1) GA lQ U (gv.mono (iT.mono jH) hlr1) U U ⟨_,U,U⟩ (λmo4 hm3=>⟨jn,aV kr (eF (bz (L':=[z3,z6,z1,(b2,mo4),z2]++(markB [])) js (cn (L':=rdH l1 dm1 lp1 (([z1,(b2,mo4),z2])++markB [])) ap (nx1 ((mput bM (cf y1) y1),mo4,hr1) _ _ ⟨hs6,hm3,(hl1.t hlr1)⟩ lf))))⟩))⟩)))))
  exact aN (eF (bz (L':=[z3,z6,z1,(b2,ec),z2]++(markB [])) js (cn (L':=rdH l1 dm1 lp1 (([z1,(b2,ec),z2])++markB [])) ap (nx1 (bM,ec,hr1) _ _ ⟨hs7,(gv.mono (iT.mono jH) hlr1),(hl1.t hlr1)⟩ lf))))
 .rintro dm1 ⟨bM,ec,hh1⟩ hn1 ⟨hs8,gv,hl1⟩ hln1 hl01
  refine cn (L':=[z1,(b2,ec),z2]++(markB (dm1::[]))) ap (qT 8 U (aC (cS call198 (pG _ _ _ _ doc bp known (hl.mono jH ((hle1.t hl1).t hln1))) U (λv6 h2 hle2 hp2=>?_))))
  obtain⟨_,rfl,mo5⟩:=hp2
  refine qO 2 U (cn (L':=([z1,(b2,ec),z2])++markB (dm1::[])) ap ?_)
  refine j3 (it:=v6) (xs:=(eX l doc bp known)) (ι:=(List Approval)×Option Addr×Nat×LH×HF) (dm1::[]) (λi=>i.2.2.2.2) (λi=>[z1,(b2,ec),(b1,O [.slice i.2.1 i.1.length i.2.2.1] 28)]++(i.2.2.2.1)) (λs i=>aI l doc bp known=((aI.L2 bM (aI.K2)) s i.1)/\dG kL 81 i.2.2.2.2 i.1 i.2.1 i.2.2.1 i.2.2.2.1/\jM h2 i.2.2.2.2/\i.1.length+s.length<=l.length) (λ_=>False) (λ_=>False) 0 (λ_ _ _=>False) ([],none,0,[],h2) Nu U mo5 U pL (λ_ _ _ _ _ hq=>hq) U (show[z1,(b2,ec),z2]=_ from U) ⟨hs8,dG.nil,lf,(by have hc:=po l doc bp known;simpa using hc)⟩ ?_ ?_ ?_ ?_ ?_
  .rintro l2 dm2 lp2 y2 rz2 vs2 ⟨mX,Bk,Bj,pc,hh2⟩ hr2 X hFR2 ⟨hs9,Bi,hl2,u2_0⟩ hl02 hlr2 hv2 hX hXM hlp2 nx2 rt2 ex2 pn2
   obtain rfl:=hv2
   simp only[zA]at u2_0
   let z4:Nat×Obj:=(b1,O [.slice Bk mX.length Bj] 28)
   let z10:Nat×Obj:=(dm2,.deferred (some []))
   refine cn (L':=[(l2,.loop lp2),z10,z1,(b2,ec),z4]++(pc++(markB (dm1::[])))) ap (bE (ba zc81 (λb11=>aQ 0 ty81 U U U U U U (il (L':=[(b11,O (zD y2) 81),(l2,.loop lp2),z10,z1,(b2,ec),z4]++(pc++(markB (dm1::[])))) U (aJ (jy 1 U hlp2 (qT 2 U ?_)))))))
   refine oo [(8,Q b1),(13,Q b11),(57,.bool ((!y2.Gone)&&(decide ((mgetD bM (cf y2) (qV 0 0 0 0 0 0 0 false))=y2))))] (λe=>?_) (λhk4=>?_)
   rotate_left
   .refine eM ([(b11,O (zD y2) 81),(l2,.loop { lp2 with state:=.busy }),z10,z1,(b2,ec),z4]) mixed kr jn (λRt _=>?_)
    refine qB [0] U (tf 1 U U (rj 0 ty4 U U U) (qA [2,3] U ?_))
    refine du 50 U (λc7=>?_) (λc7=>?_)
    .refine tf 4 U U (rj 3 ty270 U U U) (tf 5 U U (λ_ _ hj=>jO ty81 U (hj.nth (i:=0) U) U) (tf 8 U U (λ_ _ hj=>jO ty81 U (hj.nth (i:=0) U) U) (tn 6 U (fe Iz (iS hr2 y2) U (⟨jn,tn 7 U (oN 4 (k:=(cf y2)) GA lQ U (gv.mono (iT.mono jH) (((hln1.t hle2).t hl2).t hlr2)) (e8 zv81) (show(iT kL) _ (.agg (vB [I 0,I 0,I 0,I 0,I 0,I 0,I 0,.bool false])) (qV 0 0 0 0 0 0 0 false)from⟨_,U,U⟩) U U (λv8 hv6=>?_))⟩)))))
     obtain⟨_,rfl,rfl⟩:=hv6
     exact⟨jn,tf 9 U U (λ_ _ _=>Ly (If (mgetD bM (cf y2) (qV 0 0 0 0 0 0 0 false)) y2) eqg81 U U) (qA [10] U (aV kr (hk4 _ ⟨U,U,(cb (show(decide ((mgetD bM (cf y2) (qV 0 0 0 0 0 0 0 false))=y2))=((!y2.Gone)&&(decide ((mgetD bM (cf y2) (qV 0 0 0 0 0 0 0 false))=y2)))from by rw[c7]<;>rfl)),trivial⟩)))⟩
    exact tk 4 U U (qR 5 6 U (aV kr (hk4 _ ⟨U,U,(cb (show false=((!y2.Gone)&&(decide ((mgetD bM (cf y2) (qV 0 0 0 0 0 0 0 false))=y2)))from by rw[c7]<;>rfl)),trivial⟩)))
   refine ae hs9 U (λc8 hs10=>?_) (λc8 hs11=>?_)
   .refine qK 2 [5] U (cK 0 ty81 U U U (aC (bK (cells:=[I y2.No,I y2.At,I y2.Known,I y2.Doc,I y2.By,I y2.For,I y2.Office,.bool y2.Gone]) zk ty81 zc81 U U kr (λb12=>?_))))
    let z8:Nat×Obj:=(b12,O [I y2.No,I y2.At,I y2.Known,I y2.Doc,I y2.By,I y2.For,I y2.Office,.bool y2.Gone] 81)
    let z9:Nat×Obj:=(l2,.loop { lp2 with state:=.busy })
    let z14:Nat×Obj:=(b11,O (zD y2) 81)
    refine aC (dK Approval.eQ ([z8,z14,z9,z10,z1,(b2,ec),z4]) (markB (dm1::[])) (λG=>[z8,z14,z9,z10,z1,(b2,ec),z4]++(markB (dm1::[])++G)) ap (λ_=>ap) zk ty81 zc81 U bytes81 (Bi.mono jH hlr2) U U (fd 0 U (cE y2 U U)) lo lo (λob1 oc1 G1 gr1=>yd (rP ([z8,z14,z9,z10,z1,(b2,ec),z4]) G1 (markB (dm1::[]))) (cT 6 ty28 U U U U U U (qO 2 U ?_))))
    let z15:Nat×Obj:=(b1,O [.slice ob1 ((mX++[y2]).length) oc1] 28)
    exact bz (L':=[z9,z10,z1,(b2,ec),z15]++(G1++(markB (dm1::[])))) js (cn (L':=rdH l2 dm2 lp2 (([z1,(b2,ec),z15]++G1)++markB (dm1::[]))) ap (nx2 ((mX++[y2]),ob1,oc1,G1,hr2) _ _ ⟨hs10,gr1,(hl2.t hlr2),(by first|omega|(simp only[jA,zA,jB]at *;omega))⟩ lf))
   exact aN (eF (bz (L':=[(l2,.loop { lp2 with state:=.busy }),z10,z1,(b2,ec),z4]++(pc++(markB (dm1::[])))) js (cn (L':=rdH l2 dm2 lp2 (([z1,(b2,ec),z4]++(pc))++markB (dm1::[]))) ap (nx2 (mX,Bk,Bj,pc,hr2) _ _ ⟨hs11,(Bi.mono jH hlr2),(hl2.t hlr2),(by first|omega|(simp only[jA,zA,jB]at *;omega))⟩ lf))))
  .rintro dm2 ⟨mX,Bk,Bj,pc,hh2⟩ hn2 ⟨hs12,Bi,hl2,u2_0⟩ hln2 hl02
   let z5:Nat×Obj:=(b1,O [.slice Bk mX.length Bj] 28)
   refine cn (L':=[z1,(b2,ec),z5]++(pc++(markB (dm2::(dm1::[]))))) ap (qK 4 [2] U (cT 2 ty28 U U U U U U (aJ ?_)))
   have hs13:aI l doc bp known=mX:=hs12
   exact cn (L':=([z1,(b2,ec),z5]++(pc))++markB (dm2::(dm1::[]))) ap (Pg (dm2::(dm1::[])) (A:=[z1,(b2,ec),z5]) (G:=pc) (Q:=[]) Nu U hX ap (λh1=>dG.flat (λ_ _ _ _ e=>e) (Bi.mono jH hln2)) ⟨⟨2,_,_,_,_,U,U,.inr ⟨_,ty28,U⟩⟩,trivial⟩ hs13)
  .exact xf
  .exact xf
  exact xf
 .exact xf
 .exact xf
 exact xf
theorem vl(l:List Approval)(doc bp known:Int):(aI l doc bp known).length<=l.length:=by
 have h2:∀(g:List (fh×Approval))(s acc:List Approval),(aI.L2 g aI.K2 s acc).length<=acc.length+s.length:=by
  intro g s
  induction s with
  |nil=>intro acc;exact xG _
  |cons y s ih=>
   intro acc
   simp only[aI.L2,Bool.cond_eq_ite]
   split
   .have:=ih (acc++[y]);simp only[jA,zA,jB]at *;omega
   have:=ih acc;simp only[zA];omega
 have h1:∀(s:List Approval)(g:List (fh×Approval)),(aI.L1 (aI.K1 l doc bp known) s g).length<=l.length:=by
  intro s
  induction s with
  |nil=>
   intro g
   have h3:=h2 g (eX l doc bp known) []
   have h4:=po l doc bp known
   show(aI.L2 g aI.K2 (eX l doc bp known) []).length<=l.length
   simp only[jB]at h3;omega
  |cons y s ih=>intro g;simp only[aI.L1,Bool.cond_eq_ite];split<;>exact ih _
 exact h1 _ _
theorem uK(h:HF)(y:Approval)(begun:Int)(begun_q:Addr)(at_:Int)(at__q:Addr)(think:Int)(think_q:Addr)(abegun:At h begun_q [I begun])(aat_:At h at__q [I at_])(athink:At h think_q [I think]):Ret prog 106 [.agg (zD y).toArray,.pointer (some begun_q),.pointer (some at__q),.pointer (some think_q)] h (.bool (iu y begun at_ think)):=by
 refine sT func106 U ntmps106 U λX hM hX hF=>?_
 have hs0:iu y begun at_ think=iu y begun at_ think:=rfl
 refine sr (cy (λb1=>qL 6 [0] U (dh ty3 abegun U (qO 2 U (bV 7 [10,11,12,13,14,15,16,17] 10 17 (decide ((vC .i64 (at_-y.At))<think)) U (λc1 hk1=>?_) (λe=>?_))))))
 .exact dh ty3 aat_ U (qL 3 [0] U (dh ty3 athink U (qO 2 U (hk1 _ U))))
 exact an (nretP [.bool (decide (y.At<begun)||decide ((vC .i64 (at_-y.At))<think))] (cs hs0))
theorem wx(h:HF)(l:List Approval)(eP:Option Addr)(eO:Nat)(doc:Int)(begun:Int)(think:Int)(aK:Int)(known:Int)(hl:SlC kL h eP eO l)(hsz:l.length<=2000000):j1 prog 28 [.slice eP l.length eO,I doc,I begun,I think,I aK,I known] h (λv h'=>∃(rb0:Option Addr)(rc0:Nat),v=.tuple #[.slice rb0 ((cR l doc begun think aK known).1).length rc0,I ((cR l doc begun think aK known).2)]/\SlC kL h' rb0 rc0 ((cR l doc begun think aK known).1)):=by
 refine sT func28 U ntmps28 U λX hM hX hF=>?_
 have hs0:cR l doc begun think aK known=cR l doc begun think aK known:=rfl
 have hst:=vl l doc aK known
 refine sr (cy (λb1=>cy (λb2=>cy (λb3=>qO 7 U (ai call71 (sR _ _ _ _ hl) U (qO 7 U (ae hs0 U (λc1 hs1=>?_) (λc1 hs2=>?_))))))))
 .refine qT 6 U ?_
  have hs3:cR l doc begun think aK known=([],(bX l)):=hs1
  exact nretH [.slice none 0 0,I (bX l)] ⟨none,0,congrArg (λr:(List Approval×Int)=>(.tuple #[.slice none r.1.length 0,I r.2]:Value)) hs3.symm,(by rw[hs3];exact vE)⟩
 refine qT 5 U (aC (bK (cells:=[I doc]) dY ty3 zc3 U U kr (λb4=>aX 0 U hM (λh1 hle1 hb1=>?_))))
 have sl1:SlC qC h1 (some ⟨b4,0,none⟩) 1 ([doc]):=bI.slB0 (T:=3) (fz:=(0,0)) ((show bI qC h [I doc] ([doc])from⟨[I doc],[],rfl,rfl,rfl,rfl⟩).mono vG hle1) hb1
 refine ai GB (iX _ 4095 _ _ _ sl1) U (qO 2 U (bV 8 [23,24,25,26,27,28,29,30,31] 23 31 (!(dt 1099511627775 ([begun,think,aK,known]))) U (λc2 hk1=>?_) (λe=>?_)))
 .refine qL 4 [2,1,0] U (aC (bK (cells:=[I begun,I think,I aK,I known]) dY ty3 zc3 U U kr (λb5=>aX 0 U hM (λh2 hle2 hb2=>?_))))
  have sl2:SlC qC h2 (some ⟨b5,0,none⟩) 4 ([begun,think,aK,known]):=bI.slB0 (T:=3) (fz:=(0,0)) ((show bI qC h1 [I begun,I think,I aK,I known] ([begun,think,aK,known])from⟨[I begun],[I think,I aK,I known],rfl,rfl,rfl,⟨[I think],[I aK,I known],rfl,rfl,rfl,⟨[I aK],[I known],rfl,rfl,rfl,⟨[I known],[],rfl,rfl,rfl,rfl⟩⟩⟩⟩).mono vG hle2) hb2
  exact ai GB (iX _ 1099511627775 _ _ _ sl2) U (qO 2 U (kh (h:=h1) hle2 hX hle1 (hk1 _ U)))
 refine aJ (ae hs2 U (λc3 hs4=>?_) (λc3 hs5=>?_))
 .refine qT 5 U ?_
  have hs6:cR l doc begun think aK known=([],1):=hs4
  exact nretH [.slice none 0 0,I 1] ⟨none,0,congrArg (λr:(List Approval×Int)=>(.tuple #[.slice none r.1.length 0,I r.2]:Value)) hs6.symm,(by rw[hs6];exact vE)⟩
 refine qK 7 [0] U (aC (Pt call105 (wv _ _ _ _ doc aK known (hl.mono jH hle1) ob) U (λob1 oc1 G1 gr1=>aX 2 U hM (λh3 hle3 hb3=>aX 0 U hM (λh4 hle4 hb4=>aX 0 U hM (λh5 hle5 hb5=>aC (eG U U (aC (nd (v:=.slice ob1 (fG (aI l doc aK known) (λdF=>iu dF begun aK think)).length oc1) ([]) G1 ([]) call104 (pW h5 (aI l doc aK known) ob1 oc1 G1 (λdF=>iu dF begun aK think) (.func (.func 106) #[] #[Q b1,Q b3,Q b2]) (gr1.mono jH ((hle3.t hle4).t hle5)) (λh' dF hle=>iJ call106 (uK h' dF begun ⟨b1,0,none⟩ aK ⟨b3,0,none⟩ think ⟨b2,0,none⟩  (((cA hb3).mono (hle4.t hle5)).mono hle) (((cA hb4).mono hle5).mono hle) ((cA hb5).mono hle))) ob) ap U (λG2 gr2=>il (L':=G2) ap (m7 jH ([]) G2 ([]) ap hM gr2 (λh6 hle6 sl3=>qO 3 U ?_))))))))))))
 have hs7:cR l doc begun think aK known=((fG (aI l doc aK known) (λdF=>iu dF begun aK think)),0):=hs5
 exact nretH [.slice ob1 ((fG (aI l doc aK known) (λdF=>iu dF begun aK think)).length) oc1,I 0] ⟨ob1,oc1,congrArg (λr:(List Approval×Int)=>(.tuple #[.slice ob1 r.1.length oc1,I r.2]:Value)) hs7.symm,(by rw[hs7];exact sl3)⟩
theorem wl(h:HF)(x:Appoint)(v0:Int)(v0_q:Addr)(v1:Int)(v1_q:Addr)(av0:At h v0_q [I v0])(av1:At h v1_q [I v1]):Ret prog 181 [.agg (jR x).toArray,.pointer (some v0_q),.pointer (some v1_q)] h (.tuple #[.agg (jE ((iy x v0 v1).1)).toArray,.bool ((iy x v0 v1).2)]):=by
 refine cJ func181 U ntmps181 U λX hM hX=>?_
 have hs0:iy x v0 v1=iy x v0 v1:=rfl
 refine sr (cy (λb1=>ba zc182 (λb2=>qO 3 U ?_)))
 let z1:Nat×Obj:=(b1,O (jR x) 89)
 refine Pi ([(b2,O [I x.Office,I x.Person] 182),z1]) [(4,Q b2),(5,.bool (decide (x.At<=v0)&&decide (x.Known<=v1)))] (λe=>?_) (λhk1=>?_)
 rotate_left
 .refine eM ([z1]) mixed kr jn (λem _=>?_)
  refine qB [0] U (tf 1 U U (rj 0 ty3 U U U) (qB [2] U (tf 3 U U (rj 0 ty3 U U U) (qB [5] U (tf 6 U U (rj 0 ty3 U U U) (tf 7 U U (rh ty3 av0 U) (qA [8,9] U ?_)))))))
  refine du 15 U (λc1=>?_) (λc1=>?_)
  .have c1p:=of_decide_eq_true c1
   exact tf 10 U U (λ_ _ _=>tx PP U) (tf 11 U U (rj 0 ty3 U U U) (tf 12 U U (rh ty3 av1 U) (qA [13,14] U (tn 4 U (fN (cells:=[I x.Office,I x.Person]) (places:=[(0,1),(1,1)]) IC zc182 kr kr (⟨jn,(tn 15 U (sf 0 ty182 U U U U U U (⟨jn,(qA [16] U (aV kr (hk1 _ ⟨U,(cb (show decide (x.Known<=v1)=(decide (x.At<=v0)&&decide (x.Known<=v1))from by rw[c1]<;>rfl)),trivial⟩)))⟩)))⟩))))))
  have c1p:=of_decide_eq_false c1
  exact tk 10 U U (qR 11 4 U (tn 4 U (fN (cells:=[I x.Office,I x.Person]) (places:=[(0,1),(1,1)]) IC zc182 kr kr (⟨jn,(tn 15 U (sf 0 ty182 U U U U U U (⟨jn,(qA [16] U (aV kr (hk1 _ ⟨U,(cb (show false=(decide (x.At<=v0)&&decide (x.Known<=v1))from by rw[c1]<;>rfl)),trivial⟩)))⟩)))⟩))))
 have hs1:iy x v0 v1=((aBg x.Office x.Person),(decide (x.At<=v0)&&decide (x.Known<=v1))):=hs0
 exact s8 [.agg (vB [I x.Office,I x.Person]),.bool (decide (x.At<=v0)&&decide (x.Known<=v1))] func181 U hX ⟨⟨0,_,_,_,_,U,U,.inl ⟨ty182,U⟩⟩,U,trivial⟩ (congrArg (λr:(OSeat×Bool)=>(.tuple #[.agg (jE r.1).toArray,.bool r.2]:Value)) hs1.symm)
theorem ux(h:HF)(l:List Appoint)(eP:Option Addr)(eO:Nat)(key:(Appoint->OSeat×Bool))(key_v:Value)(later:(Appoint->Appoint->Bool))(later_v:Value)(hl:SlC xH h eP eO l)(hkey:∀(h':HF)(dF:Appoint),jM h h'->um prog key_v [.agg (jR dF).toArray] h' [] (.tuple #[.agg (jE ((key dF).1)).toArray,.bool ((key dF).2)]))(hlater:∀(h':HF)(dF:Appoint)(DT:Appoint),jM h h'->um prog later_v [.agg (jR dF).toArray,.agg (jR DT).toArray] h' [] (.bool (later dF DT))):j1 prog 182 [.slice eP l.length eO,key_v,later_v] h (λv h'=>∃(rk0:Nat),v=.map (some rk0)/\s7 aAl (iT xH) h' rk0 (dq l key later)):=by
 refine sT func182 U ntmps182 U λX hM hX hF=>?_
 have hs0:dq l key later=dq l key later:=rfl
 refine qT 6 U (aC (nC (λb1=>qL 9 [] U ?_)))
 refine lp2 l (λi w=>[(1,key_v),(2,later_v),(7,.map (some b1)),(15,.slice eP l.length eO),(16,I (l.length:Int)),(17,I (i:Int))]) (λ_=>h) (λw=>[(b1,w.2)]) (λi w=>ja aAl (iT xH) h w.2 w.1/\w.1.length<=0+i) (λs1 i w=>(dq.L1 key later (dq.K1)) s1 w.1) ([],.map #[] 0) hl.1.1 hs0 ⟨(ja.nil (enc:=aAl) (V:=(iT xH)) (h:=h)),lc⟩ ?_ ?_
 .rintro i1 ⟨bC,ie⟩ fp hs1 ⟨fI,nv⟩ e
  refine qT 5 U (eR 0 U hM (λh1 hle1 hb1=>?_))
  have mc1:s7 aAl (iT xH) h1 b1 bC:=⟨_,hb1,fI.mono (iT.mono kP) hle1⟩
  have hs2:dq l key later=bC:=hs1
  exact nretH [.map (some b1)] ⟨b1,congrArg (λr:(List (OSeat×Appoint))=>(.map (some b1):Value)) hs2.symm,(by rw[hs2];exact mc1)⟩
 rintro i1 ⟨bC,ie⟩ y1 rz1 hd1 dj aY er gr hs3 ⟨fI,nv⟩ hx1 ag1 e
 refine sr (tO dj U (qO 8 U (aC (iF jR DY ty89 hl.1 aY U U U (λq2 A2=>dz ty89 A2 U U (ba zc89 (λb5=>aQ 0 ty89 U U U U U U (qO 4 U (cK 0 ty89 U U U (aC (lT (v:=.tuple #[.agg (jE ((key y1).1)).toArray,.bool ((key y1).2)]) [] (List.nil_sublist _) (hkey h y1 lf) U U (qO 3 U (ba zc182 (λb6=>aQ 0 ty182 U U U U U U (qO 5 U (cK 0 ty182 U U U (aC (lv 2 (k:=(key y1).1) Ld uY U fI (e8 zv89) (show(iT xH) _ (.agg (vB [I 0,I 0,I 0,I 0,I 0,I 0,.bool false])) (jC 0 0 0 0 0 0 false)from⟨_,U,U⟩) U U (λv2 hv2=>?_)))))))))))))))))))
 obtain⟨_,rfl,rfl⟩:=hv2
 refine qO 3 U (ba zc89 (λb7=>aQ 0 ty89 U U U U U U (qO 6 U (bj 10 [34,35,36,37,38,39,40,41,42,43,44] 34 44 ((!(mhas bC ((key y1).1)))||(!(later (mgetD bC ((key y1).1) (jC 0 0 0 0 0 0 false)) y1))) U (λc1 hk1=>?_) (λe=>?_)))))
 .refine qO 3 U (bV 6 [37,38,39,40,41,42,43] 37 43 (!(later (mgetD bC ((key y1).1) (jC 0 0 0 0 0 0 false)) y1)) U (λc2 hk2=>?_) (λe=>?_))
  .exact av (cK 0 ty89 U U U (cK 2 ty89 U U U (aC (lT (v:=.bool (later (mgetD bC ((key y1).1) (jC 0 0 0 0 0 0 false)) y1)) [] (List.nil_sublist _) (hlater h (mgetD bC ((key y1).1) (jC 0 0 0 0 0 0 false)) y1 lf) U U (qO 2 U (hk2 _ U))))))
  exact eN U (hk1 _ U)
 refine aJ (ae hs3 U (λc3 hs4=>?_) (λc3 hs5=>?_))
 .exact bE (av (cK 1 ty182 U U U (cK 2 ty89 U U U (aC (kb 3 (k:=(key y1).1) (x:=y1) Ld uY U fI U U ⟨_,U,U⟩ (λmo1 hm1=>qO 3 U (oi i1 U (qO 2 U (bz (L':=[(b1,mo1)]) js (ag1 ((mput bC ((key y1).1) y1),mo1) hs4 ⟨hm1,(by have:=mI bC ((key y1).1) y1;first|omega|(simp only[jB,zA]at *;omega))⟩))))))))))
 exact aN (qT 2 U (oi i1 U (qO 2 U (bz (L':=[(b1,ie)]) js (ag1 (bC,ie) hs5 ⟨fI,lc⟩)))))
theorem wk(h:HF)(a:Appoint)(j0:Appoint)  : Ret prog 183 [.agg (jR a).toArray,.agg (jR j0).toArray] h (.bool (je a j0)):=by
 refine sT func183 U ntmps183 U λX hM hX hF=>?_
 have hs0:je a j0=je a j0:=rfl
 exact sr (cy (λb1=>cy (λb2=>qL 11 [1,0] U (nretP [.bool (decide (j0.At<a.At))] (cs hs0)))))
theorem rl(h:HF)(l:List Appoint)(eP:Option Addr)(eO:Nat)(ig:Int)(known:Int)(hl:SlC xH h eP eO l):j1 prog 93 [.slice eP l.length eO,I ig,I known] h (λv h'=>∃(rk0:Nat),v=.map (some rk0)/\s7 aAl (iT xH) h' rk0 (dx l ig known)):=by
 refine sT func93 U ntmps93 U λX hM hX hF=>?_
 have hs0:dx l ig known=dx l ig known:=rfl
 refine sr (cy (λb1=>cy (λb2=>qO 4 U (aX 1 U hM (λh1 hle1 hb1=>aX 0 U hM (λh2 hle2 hb2=>aC (eG U U (qO 6 U (aC (cS call182 (ux _ _ _ _ (λdF=>iy dF ig known) (.func (.func 181) #[] #[Q b1,Q b2]) je (.func (.func 183) #[] #[]) (hl.mono kP (hle1.t hle2)) (λh' dF hle=>iJ call181 (wl h' dF ig ⟨b1,0,none⟩ known ⟨b2,0,none⟩  (((cA hb1).mono hle2).mono hle) ((cA hb2).mono hle))) (λh' dF DT hle=>iJ call183 (wk h' dF DT))) U (λv1 h3 hle3 hp1=>?_)))))))))))
 obtain⟨rk1,rfl,mo1⟩:=hp1
 refine an ?_
 have hs1:dx l ig known=(dq l (λdF=>iy dF ig known) je):=hs0
 exact nretH [.map (some rk1)] ⟨rk1,congrArg (λr:(List (OSeat×Appoint))=>(.map (some rk1):Value)) hs1.symm,(by rw[hs1];exact mo1)⟩
theorem BV(h:HF)(l:List Appoint)(eP:Option Addr)(eO:Nat)(office:Int)(person:Int)(dl:Int)(known:Int)(hl:SlC xH h eP eO l):Ret prog 29 [.slice eP l.length eO,I office,I person,I dl,I known] h (.tuple #[I ((gP l office person dl known).1),I ((gP l office person dl known).2.1),.bool ((gP l office person dl known).2.2.1),I ((gP l office person dl known).2.2.2)]):=by
 refine sT func29 U ntmps29 U λX hM hX hF=>?_
 have hs0:gP l office person dl known=gP l office person dl known:=rfl
 refine qT 11 U (ai call65 (pK _ _ _ _ hl) U (qO 7 U (ae hs0 U (λc1 hs1=>?_) (λc1 hs2=>?_))))
 .refine qT 8 U ?_
  have hs3:gP l office person dl known=(0,0,false,(dg l)):=hs1
  exact nretP [I 0,I 0,.bool false,I (dg l)] (congrArg (λr:(Int×Int×Bool×Int)=>(.tuple #[I r.1,I r.2.1,.bool r.2.2.1,I r.2.2.2]:Value)) hs3.symm)
 refine qT 5 U (ai NE (lU h office) U (qO 2 U (bV 4 [24,25,26,27,28] 24 28 (!(fR person)) U (λc2 hk1=>?_) (λe=>?_))))
 .exact av (ai call107 (nV h person) U (qO 2 U (hk1 _ U)))
 refine av (bV 4 [29,30,31,32,33] 29 33 (!(dv dl)) U (λc3 hk2=>?_) (λe=>?_))
 .exact av (ai DX (iZ h dl) U (qO 2 U (hk2 _ U)))
 refine av (bV 4 [34,35,36,37,38] 34 38 (!(dv known)) U (λc4 hk3=>?_) (λe=>?_))
 .exact av (ai DX (iZ h known) U (qO 2 U (hk3 _ U)))
 refine aJ (ae hs2 U (λc5 hs4=>?_) (λc5 hs5=>?_))
 .refine qT 7 U ?_
  have hs6:gP l office person dl known=(0,0,false,1):=hs4
  exact nretP [I 0,I 0,.bool false,I 1] (congrArg (λr:(Int×Int×Bool×Int)=>(.tuple #[I r.1,I r.2.1,.bool r.2.2.1,I r.2.2.2]:Value)) hs6.symm)
 refine qT 6 U (aC (cS call93 (rl _ _ _ _ dl known hl) U (λv1 h1 hle1 hp1=>?_)))
 obtain⟨rk1,rfl,mo1⟩:=hp1
 refine qO 2 U (aC (fN (cells:=[I office,I person]) (places:=[(0,1),(1,1)]) IC zc182 kr kr ?_))
 obtain⟨o1,hb1,hm1⟩:=mo1
 refine aC (tb (k:=(aBg office person)) Ld uY hb1 hm1 (e8 zv89) (show(iT xH) _ (.agg (vB [I 0,I 0,I 0,I 0,I 0,I 0,.bool false])) (jC 0 0 0 0 0 0 false)from⟨_,U,U⟩) U U (λv2 hv1=>?_))
 obtain⟨_,rfl,rfl⟩:=hv1
 refine qO 3 U (ba zc89 (λb1=>aQ 0 ty89 U U U U U U (qO 8 U (bV 3 [52,53,54,55] 52 55 ((mgetD (dx l dl known) (aBg office person) (jC 0 0 0 0 0 0 false)).Gone) U (λc6 hk4=>?_) (λe=>?_)))))
 .exact qL 3 [0] U (hk4 _ U)
 refine aJ (ae hs5 U (λc7 hs7=>?_) (λc7 hs8=>?_))
 .refine qT 7 U ?_
  have hs9:gP l office person dl known=(0,0,false,0):=hs7
  exact nretP [I 0,I 0,.bool false,I 0] (congrArg (λr:(Int×Int×Bool×Int)=>(.tuple #[I r.1,I r.2.1,.bool r.2.2.1,I r.2.2.2]:Value)) hs9.symm)
 refine qT 2 U (eM ([(b1,O (jR (mgetD (dx l dl known) (aBg office person) (jC 0 0 0 0 0 0 false))) 89)]) mixed kr jn (λem _=>qB [0] U (tf 1 U U (rj 0 ty3 U U U) (qB [2] U (tf 3 U U (rj 0 ty3 U U U) (qR 4 4 U (aV kr ?_)))))))
 have hs10:gP l office person dl known=((mgetD (dx l dl known) (aBg office person) (jC 0 0 0 0 0 0 false)).No,(mgetD (dx l dl known) (aBg office person) (jC 0 0 0 0 0 0 false)).Weight,true,0):=hs8
 exact nretP [I ((mgetD (dx l dl known) (aBg office person) (jC 0 0 0 0 0 0 false)).No),I ((mgetD (dx l dl known) (aBg office person) (jC 0 0 0 0 0 0 false)).Weight),.bool true,I 0] (congrArg (λr:(Int×Int×Bool×Int)=>(.tuple #[I r.1,I r.2.1,.bool r.2.2.1,I r.2.2.2]:Value)) hs10.symm)
theorem DD(h:HF)(l:List Deputy)(eP:Option Addr)(eO:Nat)(dL:Int)(to:Int)(q:cI)(hl:SlC aAq h eP eO l):Ret prog 108 [.slice eP l.length eO,I dL,I to,.agg (cI.cells q).toArray] h (I (ll l dL to q)):=by
 refine sT func108 U ntmps108 U λX hM hX hF=>?_
 have hs0:ll l dL to q=ll l dL to q:=rfl
 refine sr (cy (λb1=>qO 6 U (ai call66 (tH _ _ _ _ hl) U (qO 7 U (ae hs0 U (λc1 hs1=>?_) (λc1 hs2=>?_))))))
 .exact sr (qO 3 U (nretP [I (dB l)] (ci hs1)))
 refine qT 5 U (ai NC (lN h dL) U (qO 2 U (bV 4 [18,19,20,21,22] 18 22 (!(fS to)) U (λc2 hk1=>?_) (λe=>?_))))
 .exact av (ai NC (lN h to) U (qO 2 U (hk1 _ U)))
 refine av (bV 5 [23,24,25,26,27,28] 23 28 (!(cY q.office 0 31)) U (λc3 hk2=>?_) (λe=>?_))
 .exact qL 2 [0] U (ai CB (iA h q.office 0 31) U (qO 2 U (hk2 _ U)))
 refine av (bV 5 [29,30,31,32,33,34] 29 34 (!(cY q.kind 0 15)) U (λc4 hk3=>?_) (λe=>?_))
 .exact qL 2 [0] U (ai CB (iA h q.kind 0 15) U (qO 2 U (hk3 _ U)))
 refine av (bV 5 [35,36,37,38,39,40] 35 40 (!(cY q.value 0 1099511627776)) U (λc5 hk4=>?_) (λe=>?_))
 .exact qL 2 [0] U (ai CB (iA h q.value 0 1099511627776) U (qO 2 U (hk4 _ U)))
 refine av (bV 5 [41,42,43,44,45,46] 41 46 (!(gh q.at_)) U (λc6 hk5=>?_) (λe=>?_))
 .exact qL 2 [0] U (ai ND (mH h q.at_) U (qO 2 U (hk5 _ U)))
 refine av (bV 5 [47,48,49,50,51,52] 47 52 (!(gh q.known)) U (λc7 hk6=>?_) (λe=>?_))
 .exact qL 2 [0] U (ai ND (mH h q.known) U (qO 2 U (hk6 _ U)))
 refine aJ (ae hs2 U (λc8 hs4=>?_) (λc8 hs5=>?_))
 .exact sr (an (nretP [I 1] (ci hs4)))
 exact aN (qT 4 U (nretP [I 0] (ci hs5)))
theorem se(h:HF)(seq:List Deputy)(seq_v:Value)(hseq:Itr prog seq_v sD seq h)(hsz:seq.length<=2000000):j1 prog 203 [.slice none 0 0,seq_v] h (λv h'=>∃(rb0:Option Addr)(rc0:Nat),v=.slice rb0 (cM seq).length rc0/\SlC aAq h' rb0 rc0 (cM seq)):=by
 refine cJ func203 U ntmps203 U λX hM hX=>?_
 have hs0:cM seq=cM seq:=rfl
 refine sr (cy (λb1=>qO 8 U (et (cn (L':=([(b1,O [.slice none 0 0] 23)])++markB []) ap ?_))))
 refine j3 (it:=seq_v) (xs:=seq) (ι:=(List Deputy)×Option Addr×Nat×LH×HF) [] (λi=>i.2.2.2.2) (λi=>[(b1,O [.slice i.2.1 i.1.length i.2.2.1] 23)]++(i.2.2.2.1)) (λs i=>cM seq=((cM.L1 (cM.K1)) s i.1)/\dG aAq 93 i.2.2.2.2 i.1 i.2.1 i.2.2.1 i.2.2.2.1/\jM h i.2.2.2.2/\i.1.length+s.length<=seq.length) (λ_=>False) (λ_=>False) 0 (λ_ _ _=>False) ([],none,0,[],h) func203 U hseq U EW (λ_ _ _ _ _ hq=>hq) U (show[(b1,O [.slice none 0 0] 23)]=_ from U) ⟨hs0,dG.nil,lf,(by simp)⟩ ?_ ?_ ?_ ?_ ?_
 .rintro l1 dm1 lp1 y1 rz1 vs1 ⟨bC,mi,mg,nw,hh1⟩ hr1 X hFR1 ⟨hs1,fI,hl1,u1_0⟩ hl01 hlr1 hv1 hX hXM hlp1 nx1 rt1 ex1 pn1
  obtain rfl:=hv1
  simp only[zA]at u1_0
  let z1:Nat×Obj:=(b1,O [.slice mi bC.length mg] 23)
  let z4:Nat×Obj:=(dm1,.deferred (some []))
  refine cn (L':=[(l1,.loop lp1),z4,z1]++(nw++(markB []))) ap (bE (ba zc93 (λb4=>aQ 0 ty93 U U U U U U (il (L':=[(b4,O (vN y1) 93),(l1,.loop lp1),z4,z1]++(nw++(markB []))) U (aJ (jy 1 U hlp1 (qK 3 [3] U (cK 0 ty93 U U U (aC (bK (cells:=[I y1.No,I y1.At,I y1.Known,I y1.Until,I y1.From,I y1.To,I y1.Office,I y1.Kind,I y1.Most,.bool y1.Gone]) wG ty93 zc93 U U kr (λb5=>?_)))))))))))
  let z3:Nat×Obj:=(b5,O [I y1.No,I y1.At,I y1.Known,I y1.Until,I y1.From,I y1.To,I y1.Office,I y1.Kind,I y1.Most,.bool y1.Gone] 93)
  let z5:Nat×Obj:=(l1,.loop { lp1 with state:=.busy })
  let z6:Nat×Obj:=(b4,O (vN y1) 93)
  refine aC (dK Deputy.eQ ([z3,z6,z5,z4,z1]) (markB []) (λG=>[z3,z6,z5,z4,z1]++(markB []++G)) ap (λ_=>ap) wG ty93 zc93 U bytes93 (fI.mono jS hlr1) U U (fd 0 U (cE y1 U U)) lo lo (λob2 oc2 G2 gr2=>yd (rP ([z3,z6,z5,z4,z1]) G2 (markB [])) (cT 4 ty23 U U U U U U (qO 2 U ?_))))
  let z7:Nat×Obj:=(b1,O [.slice ob2 ((bC++[y1]).length) oc2] 23)
  exact bz (L':=[z5,z4,z7]++(G2++(markB []))) js (cn (L':=rdH l1 dm1 lp1 (([z7]++G2)++markB [])) ap (nx1 ((bC++[y1]),ob2,oc2,G2,hr1) _ _ ⟨hs1,gr2,(hl1.t hlr1),(by simp only[jA,zA,jB]at *;omega)⟩ lf))
 .rintro dm1 ⟨bC,mi,mg,nw,hh1⟩ hn1 ⟨hs2,fI,hl1,u1_0⟩ hln1 hl01
  let z2:Nat×Obj:=(b1,O [.slice mi bC.length mg] 23)
  refine cn (L':=[z2]++(nw++(markB (dm1::[])))) ap (qK 6 [0] U (fF jS ([z2]) nw (markB (dm1::[])) ap hM (fI.mono jS hln1) (λh2 hle2 sl2=>?_)))
  have hs3:cM seq=bC:=hs2
  exact cn (L':=([z2])++markB (dm1::[])) ap (pV (dm1::[]) [.slice mi bC.length mg] func203 U rd ⟨mi,mg,congrArg (λr:List Deputy=>(.slice mi r.length mg:Value)) hs3.symm,(by rw[hs3];exact sl2)⟩)
 .exact xf
 .exact xf
 exact xf
end Go.Sg
