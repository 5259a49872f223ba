import Derived.Test.YtknehchipcogdaaGreatDoorJ53
/- Part of JudgeSpec. -/
set_option linter.unusedVariables false
set_option linter.unusedSimpArgs false
set_option maxRecDepth 100000
open Go.IntKind renaming wrap→jD
namespace Go.Sg
open Go.Proofs Go.Proofs.Tryz
set_option maxHeartbeats 4000000
theorem E2(h)(x:aA):Ret prog 124 [.agg (aA.cells x).toArray] h (.bool (nV x)):=by
 refine sVv func124 ntmps124 ?_
 generalize hz:(nV x)=z
 exact W
instance k124:Ct 124:=⟨_,call124,@E2⟩
theorem yQ(h ir v0 Ar Aq v0_q)(hv0:SlC Rp.int h Ar Aq v0)(av0:At h v0_q [.slice Ar v0.length Aq]):Ret prog 106 [I ir,.pointer (some v0_q)] h (.bool (n9 ir v0)):=by
 refine sVv func106 ntmps106 ?_
 generalize hz:(n9 ir v0)=z
 exact W
instance k106:Ct 106:=⟨_,call106,@yQ⟩
theorem vm(h q xm x gN)(hq:ba.ok h q xm)(hx:ai.ok h x gN)(hno:0<=x.No/\x.No<(q.bh.length:Int))(hso:q.gv.Pairwise (·<=·))(hsw:q.gv.length<=2000000):Ret prog 346 [.agg (ba.cells q xm).toArray,.agg (ai.cells x gN).toArray] h (.bool (dA q x)):=by
 refine el func346 U ntmps346 U λX hM hX=>?_
 have hs0:=@rfl _ (dA q x)
 refine sr (j2 (λb1=>j2 (λb2=>qO 4 U (cS zc3 (λb3=>dK 0 ty3 U U U U U U (qO 3 U (aS (kw U U (cS zc409 (λb4=>dK 0 ty409 U U U U U U (qO 4 U (ga 3 ty292 U U U (qL 2 [2] U (aS (eb call389 (qt _ _ _ x.No hq ob ob ob) U (λv1 h1 hle1 hp1=>?_))))))))))))))))
 obtain⟨_,rfl,mo1⟩:=hp1
 refine qO 2 U (ke ?_)
 let z1:Nat×Obj:=(b4,O [.func (.func 390) #[] #[Q b3]] 409)
 let z2:Nat×Obj:=(b1,O (ba.cells q xm) 292)
 let z3:Nat×Obj:=(b2,O (ai.cells x gN) 59)
 refine eA (L':=([z1,(b3,O [I 0] 3),z3,z2])++markB []) ap ?_
 refine pz (it:=v1) (xs:=(kX q x.No)) (ι:=Int×HF) [] (λi=>i.2) (λi=>[z1,(b3,O [I i.1] 3),z3,z2]) (λs i=>dA q x=((dA.L1 (dA.K1 x)) s i.1)/\HF.le h1 i.2) (λ_=>False) (λ_=>False) 0 (λ_ _ _=>False) (0,h1) func346 U mo1 U Bb (λ_ _ _ _ _ hq=>hq) U (show[z1,(b3,O [I 0] 3),z3,z2]=_ from U) ⟨hs0,lf⟩ ?_ ?_ ?_ ?_ ?_
 .rintro l1 dm1 lp1 y1 rz1 vs1 ⟨cT,hh1⟩ hr1 X hFR1 ⟨hs1,hl1⟩ hl01 hlr1 hv1 hX hXM hlp1 nx1 rt1 ex1 pn1
  obtain rfl:=hv1
  refine eA (L':=[(l1,.loop lp1),(dm1,.deferred (some [])),z1,(b3,O [I cT] 3),z3,z2]++(markB [])) ap (cB (cS zc284 (λb6=>cJ 0 ty284 U U U U U U (ck (nJ 1 U hlp1 (qK 3 [3] U (ga 0 ty284 U U U (aS (T9 4 (o':=O [I (jD .i64 (cT+y1.fD))] 3) U (pP (args:=[.agg (aV.cells y1).toArray]) (cap:=[Q b3]) call390 (Oc hr1 y1 cT b3)) U U (qO 2 U ?_))))))))))
  let z4:Nat×Obj:=(b3,O [I (jD .i64 (cT+y1.fD))] 3)
  exact ek (L':=[(l1,.loop { lp1 with state:=.busy }),(dm1,.deferred (some [])),z1,z4,z3,z2]++(markB [])) js (eA (L':=rdH l1 dm1 lp1 (([z1,z4,z3,z2])++markB [])) ap (nx1 ((jD .i64 (cT+y1.fD)),hr1) _ _ ⟨hs1,(hl1.t hlr1)⟩ lf))
 .rintro dm1 ⟨cT,hh1⟩ hn1 ⟨hs2,hl1⟩ hln1 hl01
  refine eA (L':=[z1,(b3,O [I cT] 3),z3,z2]++(markB (dm1::[]))) ap (qK 9 [1,2] U ?_)
  have hs3:dA q x=decide (x.N<=cT):=hs2
  exact eA (L':=([z1,(b3,O [I cT] 3),z3,z2])++markB (dm1::[])) ap (Dr (dm1::[]) [.bool (decide (x.N<=cT))] func346 U hX rd (cs hs3))
 .exact xf
 .exact xf
 exact xf
theorem IZ(h l eP eO)(hl:SlC aA.rp h eP eO l):Ret prog 52 [.slice eP l.length eO] h (I (iH l)):=by
 refine sVv func52 ntmps52 ?_
 generalize hz:(iH l)=z
 have HA:=h0 [0] 3 (λs1 i=>(iH.L1 l (iH.K1)) s1 i)
 exact W
instance k52:Ct 52:=⟨_,call52,@IZ⟩
theorem IL(h l eP eO)(hl:SlC Budget.rp h eP eO l):Ret prog 55 [.slice eP l.length eO] h (I (iE l)):=by
 refine sVv func55 ntmps55 ?_
 generalize hz:(iE l)=z
 have HA:=h0 [0] 3 (λs1 i=>(iE.L1 l (iE.K1)) s1 i)
 exact W
instance k55:Ct 55:=⟨_,call55,@IL⟩
theorem Eo(h)(x:aE):Ret prog 125 [.agg (aE.cells x).toArray] h (.bool (oz x)):=by
 refine sVv func125 ntmps125 ?_
 generalize hz:(oz x)=z
 exact W
instance k125:Ct 125:=⟨_,call125,@Eo⟩
theorem M0(h bK fA)(nW:Register.ok h bK fA):Ret prog 8 [.agg (Register.cells bK fA).toArray] h (.bool (mq bK)):=by
 refine sVv func8 ntmps8 ?_
 generalize hz:(mq bK)=z
 have HA:=h0 [1] 3 (λs1 i=>(mq.L1 (mq.K1)) s1)
 exact W
theorem IT(h)(x:aE):Ret prog 134 [.agg (aE.cells x).toArray] h (.bool (oE x)):=by
 refine sVv func134 ntmps134 ?_
 generalize hz:(oE x)=z
 exact W
instance k134:Ct 134:=⟨_,call134,@IT⟩
theorem DO(h p jv)(hp:aw.ok h p jv):Ret prog 230 [.agg (aw.cells p jv).toArray] h (.bool (fN p)):=by
 refine sVv func230 ntmps230 ?_
 generalize hz:(fN p)=z
 have HA:=h0 [1] 3 (λs1 i=>(fN.L1 (fN.K1)) s1)
 exact W
theorem DJ(h l eP eO eB ad)(hl:SlC av.rp h eP eO l)(hsz:l.length<=2000000):j0 prog 246 [.slice eP l.length eO,I eB,I ad] h (λv h'=>∃(rb0:Option Addr)(rc0:Nat),v=.slice rb0 (dD l eB ad).length rc0/\SlC av.rp h' rb0 rc0 (dD l eB ad)):=by
 refine sVv func246 ntmps246 ?_
 generalize hz:(dD l eB ad)=z
 have HA:=hG [0,1,2] 8 7 av.rp 78 (λs1 i w=>(dD.L1 l eB ad (dD.K1)) s1 w)
 exact W
theorem vu(h l eP eO)(hl:SlC av.rp h eP eO l):Ret prog 47 [.slice eP l.length eO] h (I (cK l)):=by
 refine sVv func47 ntmps47 ?_
 generalize hz:(cK l)=z
 have HA:=h1 [9,10] 11 (λw=>[(3,I w)]) (λs1 i w=>(cK.L1 (cK.K1)) s1 w)
 exact W
instance k47:Ct 47:=⟨_,call47,@vu⟩
theorem NB(h c):Ret prog 408 [Y c] h (I (nF c)):=by
 refine sVv func408 ntmps408 ?_
 generalize hz:(nF c)=z
 exact W
instance k408:Ct 408:=⟨_,call408,@NB⟩
theorem uf(h x gN)(hx:ai.ok h x gN):Ret prog 446 [.agg (ai.cells x gN).toArray] h (.bool (lF x)):=by
 refine sVv func446 ntmps446 ?_
 generalize hz:(lF x)=z
 exact W
instance k446:Ct 446:=⟨_,call446,@uf⟩
theorem QG(h)(i:Int)(hi:0<=i/\i<5)(x gN)(hx:ai.ok h x gN):wg prog (kfun i) [.agg (ai.cells x gN).toArray] h [] (.bool (kindsP i x)):=by
 have:i=0\/i=1\/i=2\/i=3\/i=4:=by omega
 rcases this with rfl|rfl|rfl|rfl|rfl
 .exact oO (cap:=[]) call442 (uj h x gN hx)
 .exact oO (cap:=[]) call443 (ui h x gN hx)
 .exact oO (cap:=[]) call444 (uh h x gN hx)
 .exact oO (cap:=[]) call445 (ug h x gN hx)
 exact oO (cap:=[]) call446 (uf h x gN hx)
theorem yW(h s XJ d Ap)(hs:jo.ok h s XJ)(hd:aj.ok h d Ap):Ret prog 132 [.agg (jo.cells s XJ).toArray,.agg (aj.cells d Ap).toArray] h (.bool (ld s d)):=by
 refine sVv func132 ntmps132 ?_
 generalize hz:(ld s d)=z
 exact W
instance k132:Ct 132:=⟨_,call132,@yW⟩
theorem sJ(h l eP eO vK bV bU)(hl:SlC aj.rp h eP eO l)(iC:SlC Rp.int h bV bU vK):Ret prog 94 [.slice eP l.length eO,.slice bV vK.length bU] h (.bool (bT l vK)):=by
 refine sVv func94 ntmps94 ?_
 generalize hz:(bT l vK)=z
 exact W
instance k94:Ct 94:=⟨_,call94,@sJ⟩
theorem ua(h)(a:Int)(mR:Int)(p jv p_p p_q)(hp:ud.ok h p jv)(pp:At h p_p (ud.cells p jv))(ap_z:At h p_q [.pointer (some p_p)])(ha:0<=a/\a<(p.signed.length:Int))(hb:0<=mR/\mR<(p.signed.length:Int)):Ret prog 259 [I a,I mR,.pointer (some p_q)] h (I (jw a mR p)):=by
 refine sT func259 U ntmps259 U λX hM hX hF=>?_
 have hs0:=@rfl _ (jw a mR p)
 refine qT 5 U (hU ([]) mixed kr jn (λkI _=>tf 0 U U (rh ty153 ap_z U) (tf 1 U U (λ_ _ _=>gK U) (qB [2] U (tf 3 U U (rH 2 ty31 pp U U) (tm 4 U ?_))))))
 have ho1:0<=(a:Int)/\(a:Int)<((p.signed).length:Int):=ob
 refine jr 5 (enc:=λy=>[I y]) kI jn ei fm ty3 hp.signed.1 ho1 (eu ho1) U U U U kr (λq1 A1=>tf 6 U U (rh ty3 A1 U) (tf 7 U U (rh ty153 ap_z U) (tf 8 U U (λ_ _ _=>gK U) (qB [9] U (tf 10 U U (rH 2 ty31 pp U U) (tm 11 U ?_))))))
 have ho2:0<=(mR:Int)/\(mR:Int)<((p.signed).length:Int):=ob
 exact jr 12 (enc:=λy=>[I y]) kI jn ei fm ty3 hp.signed.1 ho2 (eu ho2) U U U U kr (λq2 A2=>tf 13 U U (rh ty3 A2 U) (tn 14 U (kg call86 (wd h (nthI p.signed a) (nthI p.signed mR)) U (⟨jn,(qA [15] U (dJ kr (nretP [I (cmp_Compare_int (nthI p.signed a) (nthI p.signed mR))] (ci hs0))))⟩))))
theorem KN(h s):Ret prog 371 [.string s] h (.bool (kx s)):=by
 refine sVv func371 ntmps371 ?_
 generalize hz:(kx s)=z
 have HA:=h0 [0] 3 (λs1 i=>((kx.L1 s (kx.K1)) s1 i))
 exact W
instance k371:Ct 371:=⟨_,call371,@KN⟩
theorem Ix(h)(x:ae):Ret prog 141 [.agg (ae.cells x).toArray] h (.bool (oC x)):=by
 refine sVv func141 ntmps141 ?_
 generalize hz:(oC x)=z
 exact W
instance k141:Ct 141:=⟨_,call141,@Ix⟩
theorem pi(h least most l eP eO)(hl:SlC Rp.int h eP eO l):Ret prog 99 [I least,I most,.slice eP l.length eO] h (.bool (ct least most l)):=by
 refine sVv func99 ntmps99 ?_
 generalize hz:(ct least most l)=z
 exact W
instance k99:Ct 99:=⟨_,Tp,@pi⟩
theorem Dm(h mode vQ ku kt)(hpermits:SlC Rp.bool h ku kt vQ):Ret prog 285 [I mode,.slice ku vQ.length kt] h (I (lq mode vQ)):=by
 refine sT func285 U ntmps285 U λX hM hX hF=>?_
 have hs0:=@rfl _ (lq mode vQ)
 refine qT 7 U (aS (eb call180 (uW h) U (λv1 h1 hle1 hp1=>?_)))
 obtain⟨rk1,rfl,mo1⟩:=hp1
 refine dU ?_
 obtain⟨o1,hb1,hm1⟩:=mo1
 refine aS (wm (k:=mode) Ol (im qZ) hb1 hm1 (gF zv237) (show VFn _ (.nilFunc) Value.nilFunc from U) U U (λv2 hv1=>?_))
 obtain rfl:=hv1
 refine qO 11 U (dy hs0 U (λc1 hs1=>?_) (λc1 hs2=>?_))
 .exact sr (an (nretP [I 270] (ci hs1)))
 refine qK 8 [] U (dy hs2 U (λc2 hs4=>?_) (λc2 hs5=>?_))
 .have c2p:=of_decide_eq_true c2
  exact sr (an (nretP [I 1] (ci hs4)))
 have c2p:=of_decide_eq_false c2
 exact jf (qT 4 U (nretP [I 0] (ci hs5)))
instance k285:Ct 285:=⟨_,call285,@Dm⟩
theorem GI(h mode vQ ku kt)(hpermits:SlC Rp.bool h ku kt vQ):Ret prog 123 [I mode,.slice ku vQ.length kt] h (.tuple #[.bool ((oV mode vQ).1),I ((oV mode vQ).2)]):=by
 refine sVv func123 ntmps123 ?_
 generalize hz:(oV mode vQ)=z
 exact W
instance k123:Ct 123:=⟨_,call123,@GI⟩
theorem RQ{p:Prop}(h:p:=by
  have hs9:=hs8.trans (Df hrx3)
  cases rx3
  exact ck (gU (ek (L':=[z4,z6,z5,z3,z1,z2]++(markB rs2)) js (eA (L':=rdH l4 dm4 lp4 (([z5,z3,z1,z2])++markB rs2)) ap (nx4 hr4 _ _ ⟨hs9,(hl4.t hlr4)⟩ lf))))):p:=h
theorem RP{p:Prop}(h:p:=by
  have hs18:=hs17.trans (Df hrx6)
  cases rx6
  exact⟨jn,(dJ kr (qT 2 U (oi i1 U (qO 2 U (ek (L':=[z2]) js (ag2 hs18))))))⟩):p:=h
theorem EZ(h p jv)(hp:aw.ok h p jv)(hsm:smP p)(hk:ey h):Fw prog 305 [.agg (aw.cells p jv).toArray] h (exW stopV (λr:Unit=>(.tuple #[]:Value)) (bq p)):=by
 refine el Ln U ntmps305 U λX hM hX=>?_
 have hs0:=@rfl _ (bq p)
 have hsr:=hsm.rules
 refine sr (j2 (λb1=>qL 8 [0] U (pF 8 [12,13,14,15,16,17,18,19,20] 12 20 ((p.dt.length:Int)==(p.ey.length:Int)) U (λc1 hk1=>?_) (λe=>?_))))
 .exact qL 8 [0,0] U (hk1 _ U)
 refine dU (pF 4 [21,22,23,24,25] 21 25 (aY p.Mode 1 4) U (λc2 hk2=>?_) (λe=>?_))
 .exact qL 2 [0] U (e9 Tt (pb h p.Mode 1 4) U (I6 U (hk2 _ U)))
 refine aS (rO HO (lE h ((decide (0<(p.ey.length:Int))&&((p.dt.length:Int)==(p.ey.length:Int)))&&(aY p.Mode 1 4)) 200) U (λu1 hu1=>?_) (λpv1 hpv1 e=>?_))
 .obtain⟨rx1,hrx1,rfl⟩:=vY hu1
  have hs1:=hs0.trans (Df hrx1)
  cases rx1
  refine qL 9 [0] U ?_
  let z2:Nat×Obj:=(b1,O (aw.cells p jv) 61)
  refine lp0 p.dt (λi=>[(1,Q b1),(28,.slice jv.sB p.dt.length jv.sA),(29,I (p.dt.length:Int)),(30,I (i:Int))]) ([z2]) (λs1 i=>(bq.L1 p (bq.K1 p)) s1 i) hp.dt.1.1 hs1 ?_ ?_
  .rintro i1 pq hs2 e
   refine sr (ga 0 ty61 U U U (aS (eb call364 (rC _ _ _ hp ob) U (λv1 h1 hle1 hp1=>?_))))
   obtain⟨rb1,rc1,rfl,sl1⟩:=hp1
   refine cS zc57 (λb3=>dK 0 ty57 U U U U U U (qL 7 [0] U (ke ?_)))
   let z1:Nat×Obj:=(b3,O [.slice rb1 ((aH p).length) rc1] 57)
   refine eA (L':=[z1,z2]++(markB [])) ap ?_
   refine yv (ι:=Nat×List Nat×HF) (λi=>[]) (λi=>marks i.2.1) (λi=>i.2.2) (λi=>[z1,z2]++(markB i.2.1)) (λi=>i.1<=(aH p).length/\bq p=((bq.K2))/\HF.le h1 i.2.2) ?_ (λhx2=>?_)
   .rintro⟨i2,rs2,hh2⟩ ⟨Ff,hs3,hl2⟩ e
    have hs4:bq p=(Except.ok ()):=hs3
    exact eA (L':=([z1,z2])++markB rs2) ap (MI rs2 [] Ln U hX trivial (congrArg (exW stopV (λr:Unit=>(.tuple #[]:Value))) hs4))
   refine Ds (ι:=Nat×List Nat×HF×List ai) (λi=>[(4,Q b3),(52,.slice rb1 ((aH p).length) rc1),(53,I ((aH p).length:Int)),(54,I (i.1:Int))]) (λi=>marks i.2.1) (λi=>i.2.2.1) (λi=>[z1,z2]++(markB i.2.1)) (λi=>(aH p).drop i.1=i.2.2.2/\i.1<=(aH p).length/\bq p=((bq.L2 p (bq.K2)) i.2.2.2 i.1)/\HF.le h1 i.2.2.1) (λi=>i.2.2.2.length) (0,[],h1,(aH p)) U rd sw ⟨U,Nat.zero_le _,hs2,lf⟩ ?_
   rintro⟨i2,rs2,hh2,s2⟩ ⟨hd2,Ff,hs5,hl2⟩ ag1 e
   rcases s2 with _|⟨y2,rz2⟩
   .have PH:=rm hd2
    exact sr (fO PH U (qO 4 U (hx2 (i2,rs2,hh2) _ ⟨Ff,hs5,hl2⟩ trivial)))
   have Cr:=Bs hd2
   have zw:=sR hd2
   have L8:=kl hd2
   have UC:=sl1.1.1
   try have hsy:=tL hsm (fe hd2)
   refine sr (tO Cr U (qO 9 U (aS (iR us ty59 (sl1.mono ai.aB hl2).1 zw U U U (λ_ _ _ e=>e) (λq4 r3 A5 ok3=>lh ty59 A5 U U (cS zc3 (λb7=>cS zc59 (λb8=>dK 1 ty3 U U U U U U (cJ 0 ty59 U U U U U U (qO 3 U (ga 0 ty59 U U U (aS (eb call307 (wA _ _ _ 1 ok3 ob) U (λv3 h3 hle3 hp3=>?_))))))))))))))
   obtain⟨_,rfl,mo2⟩:=hp3
   refine qO 2 U ?_
   let z3:Nat×Obj:=(b7,O [I (i2:Int)] 3)
   let z5:Nat×Obj:=(b8,O (ai.cells y2 r3) 59)
   refine eA (L':=([z5,z3,z1,z2])++markB rs2) ap ?_
   refine pz (it:=v3) (xs:=(bB y2 1)) (ι:=HF) rs2 (λi=>i) (λi=>[z5,z3,z1,z2]) (λs i=>bq p=((bq.L4 p i2 ((bq.L2 p (bq.K2) rz2 (i2+1)))) s)/\HF.le h3 i) (λ_=>False) (λ_=>False) 0 (λch _ _=>∃pv_,ch=[{ v:=stopV pv_,recovered:=false }]/\bq p=.error pv_) h3 Ln U mo2 U xd (λ_ _ _ _ _ hq=>hq) U (show[z5,z3,z1,z2]=_ from U) ⟨hs5,lf⟩ ?_ ?_ ?_ ?_ ?_
   .rintro l4 dm4 lp4 y4 rz4 vs4 hh4 hr4 X hFR4 ⟨hs7,hl4⟩ hl04 hlr4 hv4 hX hXM hlp4 nx4 rt4 ex4 pn4
    obtain⟨rr4_0,rfl,ok4_0⟩:=hv4
    let z6:Nat×Obj:=(dm4,.deferred (some []))
    refine eA (L':=[(l4,.loop lp4),z6,z5,z3,z1,z2]++(markB rs2)) ap (cB (cS zc316 (λb10=>cJ 0 ty316 U U U U U U (ck (nJ 1 U hlp4 (qT 2 U ?_))))))
    let z4:Nat×Obj:=(l4,.loop { lp4 with state:=.busy })
    let z8:Nat×Obj:=(b10,O (hZ.cells y4 rr4_0) 316)
    refine hU ([z8,z4,z6,z5,z3,z1,z2]) mixed kr jn (λkI _=>?_)
    refine qB [0,1] U (tf 2 U U (rj 0 ty3 U U U) (tn 3 U (kg Tt (pb hr4 y4.x.Kind 1 4) U (⟨jn,tm 4 U ?_⟩))))
    refine pk 66 U (λc3=>?_) (λc3=>?_)
    .refine qB [5,6] U (tf 7 U U (rj 0 ty3 U U U) ?_)
     have ho4:0<=(y4.x.Kind:Int)/\(y4.x.Kind:Int)<5:=(by have:=Su ob;omega)
     have A7:=(hk.mono ((((hle1.t hl2).t hle3).t hl4).t hlr4)).at ho4
     refine tf 8 U U (λ_ _ _=>Ue underlying381 ty293 U U ho4) (tf 9 U U (rh ty293 A7 U) (qB [10] U (tf 11 U U (λ_ _ hj=>nQ ty59 U (hj.nth (i:=0) U) U) (tn 12 U (wo (v:=.bool (kindsP y4.x.Kind y4.x)) [] (List.nil_sublist _) (QG hr4 y4.x.Kind ho4 y4.x rr4_0.x ok4_0.x) U U (⟨jn,tf 13 U U (λ_ _ _=>Hp U (cb (show(kindsP y4.x.Kind y4.x)=((aY y4.x.Kind 1 4)&&(kindsP y4.x.Kind y4.x))from by first|(rw[c3];rfl)|(rw[c3];rfl)|simp[c3]))) ?_⟩))))))
     refine tn 14 U (rO HO (lE hr4 ((aY y4.x.Kind 1 4)&&(kindsP y4.x.Kind y4.x)) 200) U (λu2 hu2=>?_) (λpv2 hpv2 e=>?_))
     .obtain⟨rx2,hrx2,rfl⟩:=vY hu2
      have hs8:=hs7.trans (Df hrx2)
      cases rx2
      refine⟨jn,dJ kr (qK 7 [4,5] U (pH 5 [82,83,84,85,86,87] 82 87 (y4.x.Kind != 4) U (λc4 hk3=>?_) (λe=>?_)))⟩
      .exact qL 5 [0] U (hk3 _ U)
      refine aS (rO HO (lE hr4 (decide ((i2:Int)<(jD .i64 (((aH p).length:Int)-1)))||(y4.x.Kind != 4)) 200) U (λu3 hu3=>?_) (λpv3 hpv3 e=>?_))
      .obtain⟨rx3,hrx3,rfl⟩:=vY hu3
       exact RQ
      obtain⟨pv3e,hpv3e,rfl⟩:=su hpv3
      have hs10:=hs8.trans (uH hpv3e)
      exact EF (L':=[z4,z6]++(markB rs2)) js (pn4 _ _ _ [] ⟨_,U,hs10⟩)
     obtain⟨pv2e,hpv2e,rfl⟩:=su hpv2
     have hs11:=hs7.trans (uH hpv2e)
     exact EF (L':=[z4,z6]++(markB rs2)) js (pn4 _ _ _ [] ⟨_,U,hs11⟩)
    refine qR 5 8 U (tf 13 U U (λ_ _ _=>Hp U (cb (show false=((aY y4.x.Kind 1 4)&&(kindsP y4.x.Kind y4.x))from by first|(rw[c3];rfl)|(rw[c3];rfl)|simp[c3]))) ?_)
    refine tn 14 U (rO HO (lE hr4 ((aY y4.x.Kind 1 4)&&(kindsP y4.x.Kind y4.x)) 200) U (λu4 hu4=>?_) (λpv4 hpv4 e=>?_))
    .obtain⟨rx4,hrx4,rfl⟩:=vY hu4
     have hs8:=hs7.trans (Df hrx4)
     cases rx4
     refine⟨jn,dJ kr (qK 7 [4,5] U (pH 5 [82,83,84,85,86,87] 82 87 (y4.x.Kind != 4) U (λc5 hk4=>?_) (λe=>?_)))⟩
     .exact qL 5 [0] U (hk4 _ U)
     refine aS (rO HO (lE hr4 (decide ((i2:Int)<(jD .i64 (((aH p).length:Int)-1)))||(y4.x.Kind != 4)) 200) U (λu5 hu5=>?_) (λpv5 hpv5 e=>?_))
     .obtain⟨rx3,hrx3,rfl⟩:=vY hu5
      exact RQ
     obtain⟨pv5e,hpv5e,rfl⟩:=su hpv5
     have hs14:=hs8.trans (uH hpv5e)
     exact EF (L':=[z4,z6]++(markB rs2)) js (pn4 _ _ _ [] ⟨_,U,hs14⟩)
    obtain⟨pv4e,hpv4e,rfl⟩:=su hpv4
    have hs15:=hs7.trans (uH hpv4e)
    exact EF (L':=[z4,z6]++(markB rs2)) js (pn4 _ _ _ [] ⟨_,U,hs15⟩)
   .rintro dm4 hh4 hn4 ⟨hs16,hl4⟩ hln4 hl04
    exact eA (L':=[z5,z3,z1,z2]++(markB (dm4::rs2))) ap (qT 3 U (oi i2 U (qO 2 U (ek (L':=[z1,z2]++(markB (dm4::rs2))) js (ag1 ((i2+1),(dm4::rs2),hn4,rz2) _ (Nat.lt_succ_self _) ⟨nl hd2,kl hd2,hs16,(((hl2.t hle3).t hl4).t hln4)⟩ rd)))))
   .exact xf
   .exact xf
   rintro dm4 ch hn4 L0 ⟨pv_,rfl,hpv_⟩ hl04
   exact yw (dm4::rs2) Ln hX (congrArg (exW stopV (λr:Unit=>(.tuple #[]:Value))) hpv_)
  rintro i1 y1 rz1 hd1 ns iI po xe hs17 hx1 ag2 e
  try have hsy:=tL hsm (fe hd1)
  refine sr (tO ns U (qO 9 U (aS (iR MH ty65 hp.dt.1 iI U U U (λ_ _ _ e=>e) (λq5 r4 A8 ok4=>lh ty65 A8 U U (cS zc65 (λb11=>jj (cJ 0 ty65 U U U U U U (ck ?_)))))))))
  let z7:Nat×Obj:=(b11,O (fI.cells y1 r4) 65)
  refine hU ([z7,z2]) mixed kr jn (λow _=>?_)
  refine qB [0] U (tf 1 U U (rj 0 ty9 U U U) (qB [2] U (tf 3 U U (rj 1 ty55 U U U) (tm 4 U ?_))))
  have ho5:0<=((i1:Int):Int)/\((i1:Int):Int)<((p.ey).length:Int):=(by have hm:=SK hrx1;simp only[decide_eq_true_eq,decide_eq_false_iff_not,Bool.and_eq_true,Bool.or_eq_true,Bool.not_eq_true',Bool.not_eq_false',Bool.and_eq_false_iff,Bool.or_eq_false_iff,beq_iff_eq,beq_eq_false_iff_ne,bne_iff_ne,bne_eq_false_iff_eq,List.length_append,List.length_cons,List.length_nil,List.length_drop]at hm;omega)
  refine jr 5 (enc:=λy=>[.string y]) ow jn ei Ri ty9 hp.ey.1 ho5 (eu ho5) U U U U kr (λq6 A9=>tf 6 U U (rh ty9 A9 U) (qA [7,8] U ?_))
  refine pk 43 U (λc6=>?_) (λc6=>?_)
  .refine qB [9] U (tf 10 U U (rj 0 ty3 U U U) (tn 11 U (kg Tt (pb h y1.iJ 0 1099511627775) U (⟨jn,tf 12 U U (λ_ _ _=>Hp U (cb (show(aY y1.iJ 0 1099511627775)=((y1.Kind.toList==(nthI p.ey (i1:Int)).toList)&&(aY y1.iJ 0 1099511627775))from by first|(rw[c6];rfl)|(rw[c6];rfl)|simp[c6]))) ?_⟩))))
   refine tn 13 U (rO HO (lE h ((y1.Kind.toList==(nthI p.ey (i1:Int)).toList)&&(aY y1.iJ 0 1099511627775)) 200) U (λu6 hu6=>?_) (λpv6 hpv6 e=>?_))
   .obtain⟨rx6,hrx6,rfl⟩:=vY hu6
    exact RP
   obtain⟨pv6e,hpv6e,rfl⟩:=su hpv6
   have hs19:=hs17.trans (uH hpv6e)
   exact nK (yw [] Ln hX (congrArg (exW stopV (λr:Unit=>(.tuple #[]:Value))) hs19))
  refine qR 9 3 U (tf 12 U U (λ_ _ _=>Hp U (cb (show false=((y1.Kind.toList==(nthI p.ey (i1:Int)).toList)&&(aY y1.iJ 0 1099511627775))from by first|(rw[c6];rfl)|(rw[c6];rfl)|simp[c6]))) ?_)
  refine tn 13 U (rO HO (lE h ((y1.Kind.toList==(nthI p.ey (i1:Int)).toList)&&(aY y1.iJ 0 1099511627775)) 200) U (λu7 hu7=>?_) (λpv7 hpv7 e=>?_))
  .obtain⟨rx6,hrx6,rfl⟩:=vY hu7
   exact RP
  obtain⟨pv7e,hpv7e,rfl⟩:=su hpv7
  have hs21:=hs17.trans (uH hpv7e)
  exact nK (yw [] Ln hX (congrArg (exW stopV (λr:Unit=>(.tuple #[]:Value))) hs21))
 obtain⟨pv1e,hpv1e,rfl⟩:=su hpv1
 have hs22:=hs0.trans (uH hpv1e)
 exact nK (yw [] Ln hX (congrArg (exW stopV (λr:Unit=>(.tuple #[]:Value))) hs22))
instance k305:Ct 305:=⟨_,call305,@EZ⟩
end Go.Sg
