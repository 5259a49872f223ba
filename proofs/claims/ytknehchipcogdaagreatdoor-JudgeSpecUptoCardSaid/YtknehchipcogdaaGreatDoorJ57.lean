import Derived.Test.YtknehchipcogdaaGreatDoorJ56
/- Part of JudgeSpec. -/
set_option linter.unusedVariables false
set_option maxRecDepth 100000
namespace Go.Sg
open Go.Proofs Go.Proofs.Tryz
set_option maxHeartbeats 4000000
theorem Hh(h u xl xk)(hu:SlC Use.rp h xl xk u):Ret prog 98 [.slice xl u.length xk] h (.bool (fE u)):=by
 refine sVv func98 ntmps98 ?_
 generalize hz:(fE u)=z
 have HA:=λ{b1}=>lM [3,7,8] 9 (.mM b1 (Value.int .i64) sO .mE) (λs1 i w=>(fE.L1 (fE.K1)) s1 w.1)
 exact W
theorem CJ(h mode vQ ku kt)(hpermits:SlC Rp.bool h ku kt vQ)(hsz0:vQ.length<=2000000):j0 prog 185 [I mode,.slice ku vQ.length kt] h (λv h'=>∃(rb0:Option Addr)(rc0:Nat),v=.tuple #[.slice rb0 ((bH mode vQ).1).length rc0,.bool ((bH mode vQ).2.1),I ((bH mode vQ).2.2)]/\SlC Rp.int h' rb0 rc0 ((bH mode vQ).1)):=by
 refine sVv func185 ntmps185 ?_
 generalize hz:(bH mode vQ)=z
 have HA:=hG [5,55] 56 4 Rp.int 3 (λs1 i w=>(bH.L1 (bH.K1 vQ)) s1 i w)
 have HB:=hG [5,55] 56 4 Rp.int 3 (λs2 i w=>(bH.L2 (bH.K2 vQ)) s2 i w)
 have HC:=hG [5,55] 56 4 Rp.int 3 (λs3 i w=>(bH.L3 (bH.K3)) s3 i w)
 exact W
instance k185:Ct 185:=⟨_,call185,@CJ⟩
theorem Ft(h)(x:Budget):Ret prog 127 [.agg (Budget.cells x).toArray] h (.bool (mP x)):=by
 refine sVv func127 ntmps127 ?_
 generalize hz:(mP x)=z
 exact W
instance k127:Ct 127:=⟨_,call127,@Ft⟩
theorem UT(rec:ba->ai->Bool)(h q xm x gN)(hq:ba.ok h q xm)(hx:ai.ok h x gN)(hrec:∀(h:HF)(qq:ba)(EX:mI)(qx:ai)(mi:dO)(_:ba.ok h qq EX)(_:ai.ok h qx mi)(_:OkX (qq.bh.length:Int) qx)(_:qq.gv.Pairwise (·<=·))(_:qq.gv.length<=2000000)(_:qx.dep<x.dep),Ret prog 273 [.agg (ba.cells qq EX).toArray,.agg (ai.cells qx mi).toArray] h (.bool (rec qq qx)))(hok:OkX (q.bh.length:Int) x)(hso:q.gv.Pairwise (·<=·))(hsw:q.gv.length<=2000000):
  wg prog (List.getD [.nilFunc,.func (.func 345) #[] #[],.func (.func 346) #[] #[],.func (.func 347) #[] #[],.func (.func 348) #[] #[]] x.Kind.toNat .nilFunc) [.agg (ba.cells q xm).toArray,.agg (ai.cells x gN).toArray] h [] (.bool (fulQ rec q x)):=by
 have hk:=hok.kind
 have hc:x.Kind=1\/x.Kind=2\/x.Kind=3\/x.Kind=4:=by omega
 rcases hc with e|e|e|e
 .rw[show fulQ rec q x=fp q x from by simp[fulQ,e],e];exact oO (cap:=[]) call345 (w7 h q xm x gN hq hx (hok.no ob) hso hsw)
 .rw[show fulQ rec q x=dA q x from by simp[fulQ,e],e];exact oO (cap:=[]) call346 (vm h q xm x gN hq hx (hok.no ob) hso hsw)
 .rw[show fulQ rec q x=eS.F rec q x from by simp[fulQ,e],e];exact oO (cap:=[]) call347 (xO rec h q xm x gN hrec hq hx hok hso hsw)
 rw[show fulQ rec q x=ml.F rec q x from by simp[fulQ,e],e];exact oO (cap:=[]) call348 (wi rec h q xm x gN hrec hq hx hok hso hsw e)
theorem uD(rec:ba->ai->Bool)(h q xm)(x:ai)(gN)(hrec:∀(h:HF)(qq:ba)(EX:mI)(qx:ai)(mi:dO)(hqq:ba.ok h qq EX)(hqx:ai.ok h qx mi)(hok:OkX (qq.bh.length:Int) qx)(hso:qq.gv.Pairwise (·<=·))(hsw:qq.gv.length<=2000000)(_:qx.dep<x.dep),Ret prog 273 [.agg (ba.cells qq EX).toArray,.agg (ai.cells qx mi).toArray] h (.bool (rec qq qx)))(hq:ba.ok h q xm)(hx:ai.ok h x gN)(hok:OkX (q.bh.length:Int) x)(hso:q.gv.Pairwise (·<=·))(hsw:q.gv.length<=2000000):Ret prog 273 [.agg (ba.cells q xm).toArray,.agg (ai.cells x gN).toArray] h (.bool (dM.F rec q x)):=by
 refine sT func273 U ntmps273 U λX hM hX hF=>?_
 have hs0:=@rfl _ (dM.F rec q x)
 have hkd:=hok.kind
 refine sr (j2 (λb1=>j2 (λb2=>qO 4 U (aS (Ua (cells:=[.nilFunc,.func (.func 345) #[] #[],.func (.func 346) #[] #[],.func (.func 347) #[] #[],.func (.func 348) #[] #[]]) underlying360 ty359 zc360 kr (cS zc360 (λb3=>cJ 0 ty360 U U U U U U (qO 2 U (fK 0 U hM (λh1 kE hb1=>hU ([(b2,O (ai.cells x gN) 59),(b1,O (ba.cells q xm) 292)]) mixed kr jn (λkI _=>qB [0] U (tf 1 U U (rj 0 ty3 U U U) ?_))))))))))))
 have ho1:0<=(x.Kind:Int)/\(x.Kind:Int)<5:=ob
 have A1:=WY (gM hb1) ho1
 exact tf 2 U U (λ_ _ _=>Ue underlying360 ty359 U U ho1) (tf 3 U U (rh ty359 A1 U) (tf 4 U U (λ_ _ hj=>nQ ty292 U (hj.nth (i:=1) U) U) (tf 5 U U (λ_ _ hj=>nQ ty59 U (hj.nth (i:=0) U) U) (tn 6 U (wo (v:=.bool (fulQ rec q x)) [] (List.nil_sublist _) (UT rec h1 q xm x gN (hq.mono kE) (hx.mono kE) hrec hok hso hsw) U U (⟨jn,(qA [7] U (dJ kr (nretP [.bool (fulQ rec q x)] (cs hs0))))⟩))))))
theorem oH:∀(m:Nat)(h:HF)(q:ba)(xm:mI)(x:ai)(gN:dO)(_:x.dep<=m)(hq:ba.ok h q xm)(hx:ai.ok h x gN)(hok:OkX (q.bh.length:Int) x)(hso:q.gv.Pairwise (·<=·))(hsw:q.gv.length<=2000000),Ret prog 273 [.agg (ba.cells q xm).toArray,.agg (ai.cells x gN).toArray] h (.bool (dM.go m q x))
 |0,h,q,xm,x,gN,hd,hq,hx,hok,hso,hsw=>absurd hd (Nat.not_le.2 (ai.ny _))
 |m+1,h,q,xm,x,gN,hd,hq,hx,hok,hso,hsw=>uD (dM.go m) h q xm x gN (λqh_ qq EX qx mi qhq qhx qhok qhso qhsw qd=>oH m qh_ qq EX qx mi ob qhq qhx qhok qhso qhsw) hq hx hok hso hsw
theorem vo(h q xm x gN)(hq:ba.ok h q xm)(hx:ai.ok h x gN)(hok:OkX (q.bh.length:Int) x)(hso:q.gv.Pairwise (·<=·))(hsw:q.gv.length<=2000000):Ret prog 273 [.agg (ba.cells q xm).toArray,.agg (ai.cells x gN).toArray] h (.bool (dM q x)):=oH _ h q xm x gN (Nat.le_refl _) hq hx hok hso hsw
instance k273:Ct 273:=⟨_,TB,@vo⟩
theorem rl(h l eP eO)(hl:SlC aj.rp h eP eO l):Ret prog 50 [.slice eP l.length eO] h (I (aR l)):=by
 refine sVv func50 ntmps50 ?_
 generalize hz:(aR l)=z
 have HA:=h0 [0,3,11,12] 13 (λs1 i=>(aR.L1 l (aR.K1)) s1 i)
 exact W
instance k50:Ct 50:=⟨_,call50,@rl⟩
theorem Kz(h s):Ret prog 313 [.string s] h (.bool (pV s)):=by
 refine sVv func313 ntmps313 ?_
 generalize hz:(pV s)=z
 exact W
instance k313:Ct 313:=⟨_,call313,@Kz⟩
end Go.Sg
