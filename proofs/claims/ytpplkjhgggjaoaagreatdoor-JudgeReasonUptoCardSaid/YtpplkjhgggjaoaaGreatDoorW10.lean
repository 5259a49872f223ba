import Derived.Test.YtpplkjhgggjaoaaGreatDoorW9
/- A part of the proof of JudgeReason. -/
set_option linter.unusedVariables false
set_option linter.unusedSimpArgs false
set_option maxRecDepth 100000
namespace Go.Sg
open Go.Proofs Go.Proofs.Tryz
set_option maxHeartbeats 2000000
theorem pP (h:HF) (q:aZ) (qp:im) (x:Expr) (fP:cG) (hq:aZ.ok h q qp) (hx:Expr.ok h x fP) (hno:0≤x.No∧x.No < (q.holders.length:Int)) (hso:q.who.Pairwise (·≤·)) (hsw:q.who.length≤2000000):Ret prog 187 [.agg (aZ.cells q qp).toArray,.agg (Expr.cells x fP).toArray] h (.bool (dO q x)):=by
 refine cz func187 U ntmps187 U fun X hM hX=>?_
 have hs0:dO q x=dO q x:=rfl
 refine sr (cA (fun b1=>cA (fun b2=>qO 4 U (aV zc3 (fun b3=>cJ 0 ty3 U U U U U U (qO 3 U (aF (et U U (aV zc330 (fun b4=>cJ 0 ty330 U U U U U U (qO 4 U (cW 3 ty167 U U U (qL 2 [2] U (aF (cY call285 (mE _ _ _ x.No hq ob ob ob) U (fun v1 h1 hle1 hp1=>?_))))))))))))))))
 obtain ⟨_,rfl,mo1⟩:=hp1
 refine qO 2 U (dY ?_)
 let z1:Nat×Obj:=(b4,O [.func (.func 286) #[] #[Q b3]] 330)
 let z2:Nat×Obj:=(b1,O (aZ.cells q qp) 167)
 let z3:Nat×Obj:=(b2,O (Expr.cells x fP) 62)
 refine cu (L':=([z1,(b3,O [I 0] 3),z3,z2])++markB []) ap ?_
 refine jw (it:=v1) (xs:=(gr q x.No)) (ι:=Int×HF) [] (fun i=>i.2) (fun i=>[z1,(b3,O [I i.1] 3),z3,z2]) (fun s i=>dO q x=((dO.L1 (dO.K1 x)) s i.1)∧HF.le h1 i.2) (fun _=>False) (fun _=>False) 0 (fun _ _ _=>False) (0,h1) func187 U mo1 U pS (fun _ _ _ _ _ hq=>hq) U (show [z1,(b3,O [I 0] 3),z3,z2]=_ from U) ⟨hs0,lf⟩ ?_ ?_ ?_ ?_ ?_
 ·rintro l1 dm1 lp1 y1 rz1 vs1 ⟨bJ,hh1⟩ hr1 X hFR1 ⟨hs1,hl1⟩ hl01 hlr1 hv1 hX hXM hlp1 nx1 rt1 ex1 pn1
  obtain rfl:=hv1
  refine cu (L':=[(l1,.loop lp1),(dm1,.deferred (some [])),z1,(b3,O [I bJ] 3),z3,z2]++(markB [])) ap (ay (aV zc158 (fun b6=>aS 0 ty158 U U U U U U (aD (jh 1 U hlp1 (qK 3 [3] U (cW 0 ty158 U U U (aF (JV 4 (o':=O [I (IntKind.wrap .i64 (bJ+y1.Weight))] 3) U (lT (args:=[.agg (Holder.cells y1).toArray]) (cap:=[Q b3]) call286 (Es hr1 y1 bJ b3)) U U (qO 2 U ?_))))))))))
  let z4:Nat×Obj:=(b3,O [I (IntKind.wrap .i64 (bJ+y1.Weight))] 3)
  exact bB (L':=[(l1,.loop { lp1 with state:=.busy }),(dm1,.deferred (some [])),z1,z4,z3,z2]++(markB [])) js (cu (L':=rdH l1 dm1 lp1 (([z1,z4,z3,z2])++markB [])) ap (nx1 ((IntKind.wrap .i64 (bJ+y1.Weight)),hr1) _ _ ⟨hs1,(hl1.t hlr1)⟩ lf))
 ·rintro dm1 ⟨bJ,hh1⟩ hn1 ⟨hs2,hl1⟩ hln1 hl01
  refine cu (L':=[z1,(b3,O [I bJ] 3),z3,z2]++(markB (dm1::[]))) ap (qK 9 [1,2] U ?_)
  have hs3:dO q x=decide (x.N≤bJ):=hs2
  exact cu (L':=([z1,(b3,O [I bJ] 3),z3,z2])++markB (dm1::[])) ap (pE (dm1::[]) [.bool (decide (x.N≤bJ))] func187 U hX rd (cs hs3))
 ·exact xf
 ·exact xf
 exact xf
theorem rM (rec:aZ→Expr→Bool) (h:HF) (q:aZ) (qp:im) (x:Expr) (fP:cG) (hrec:∀ (h:HF) (qq:aZ) (xW:im) (qx:Expr) (j5:cG) (hqq:aZ.ok h qq xW) (hqx:Expr.ok h qx j5) (hok:OkX (qq.holders.length:Int) qx) (hso:qq.who.Pairwise (·≤·)) (hsw:qq.who.length≤2000000) (_:qx.dep < x.dep),Ret prog 97 [.agg (aZ.cells qq xW).toArray,.agg (Expr.cells qx j5).toArray] h (.bool (rec qq qx))) (hq:aZ.ok h q qp) (hx:Expr.ok h x fP) (hok:OkX (q.holders.length:Int) x) (hso:q.who.Pairwise (·≤·)) (hsw:q.who.length≤2000000):Ret prog 188 [.agg (aZ.cells q qp).toArray,.agg (Expr.cells x fP).toArray] h (.bool (eS.F rec q x)):=by
 refine sT func188 U ntmps188 U fun X hM hX hF=>?_
 have hs0:eS.F rec q x=eS.F rec q x:=rfl
 refine sr (cA (fun b1=>cA (fun b2=>qL 14 [0] U ?_)))
 let z1:Nat×Obj:=(b1,O (aZ.cells q qp) 167)
 let z2:Nat×Obj:=(b2,O (Expr.cells x fP) 62)
 refine lp1 x.L (fun i w=>[(2,Q b1),(3,Q b2),(5,I w),(9,.slice fP.jB x.L.length fP.jC),(10,I (x.L.length:Int)),(11,I (i:Int))]) ([z2,z1]) (fun s1 i w=>(eS.L1 rec q (eS.K1 x)) s1 w) 0 hx.list.1.1 hs0 ?_ ?_
 ·rintro i1 iJ fA hs1 e
  exact qK 8 [0] U (nretP [.bool (decide (x.N≤iJ))] (cs hs1))
 rintro i1 iJ y1 rz1 hd1 dx aL eH hO hs3 hx1 ag1 e
 have hoy:=hok.sub y1 (gi hd1)
 refine sr (aw (v':=.bool true) U (cb dx) (qO 8 U (aF (gC kk ty62 hx.list.1 (nthZ aL) (ba aL) U U U (fun _ _ _ e=>e) (fun q2 r2 A2 ok2=>dz ty62 A2 U U (aV zc62 (fun b4=>aS 0 ty62 U U U U U U (qO 3 U (cW 2 ty167 U U U (cW 0 ty62 U U U (av IY (hrec _ _ _ _ _ hq ok2 ob ob ob (Expr.iU (gi hd1))) U (aD (ai hs3 U (fun c2 hs4=>?_) (fun c2 hs5=>?_))))))))))))))
 ·exact ay (qO 6 U (aw (v':=I (((i1+1):Nat):Int)) U (bw ob) (qO 2 U (bB (L':=[z2,z1]) js (ag1 (IntKind.wrap .i64 (iJ+1)) hs4)))))
 exact aJ (qT 2 U (aw (v':=I (((i1+1):Nat):Int)) U (bw ob) (qO 2 U (bB (L':=[z2,z1]) js (ag1 iJ hs5)))))
theorem qs (rec:aZ→Expr→Bool) (h:HF) (q:aZ) (qp:im) (x:Expr) (fP:cG) (hrec:∀ (h:HF) (qq:aZ) (xW:im) (qx:Expr) (j5:cG) (hqq:aZ.ok h qq xW) (hqx:Expr.ok h qx j5) (hok:OkX (qq.holders.length:Int) qx) (hso:qq.who.Pairwise (·≤·)) (hsw:qq.who.length≤2000000) (_:qx.dep < x.dep),Ret prog 97 [.agg (aZ.cells qq xW).toArray,.agg (Expr.cells qx j5).toArray] h (.bool (rec qq qx))) (hq:aZ.ok h q qp) (hx:Expr.ok h x fP) (hok:OkX (q.holders.length:Int) x) (hso:q.who.Pairwise (·≤·)) (hsw:q.who.length≤2000000) (hk4:x.Kind=4):Ret prog 189 [.agg (aZ.cells q qp).toArray,.agg (Expr.cells x fP).toArray] h (.bool (jL.F rec q x)):=by
 refine sT func189 U ntmps189 U fun X hM hX hF=>?_
 have hs0:jL.F rec q x=jL.F rec q x:=rfl
 have hl2:=hok.two hk4
 refine sr (cA (fun b1=>cA (fun b2=>qL 11 [1,0] U (ai hs0 U (fun c1 hs1=>?_) (fun c1 hs2=>?_)))))
 ·have c1p:=of_decide_eq_true c1
  refine aR (eQ ([(b2,O (Expr.cells x fP) 62),(b1,O (aZ.cells q qp) 167)]) mixed kr jn (fun dH _=>tf 0 U U (fun _ _ hj=>je ty167 U (hj.nth (i:=1) U) U) (qB [1] U (tf 2 U U (fun _ _ hj=>fH ty60 U (hj.nth (i:=0) U) U) ?_))))
  have ho1:0≤(0:Int)∧(0:Int) < ((x.L).length:Int):=ob
  refine ji 3 dH jn kk ty62 hx.list.1 ho1 (dU ho1) U U U U kr (fun q1 cs1 A1 ln1 rr1=>?_)
  obtain ⟨r1,rfl,ok1⟩:=rr1
  exact tf 4 U U (fun _ _ hj=>j9 ty62 (A1.mono hj.1) U U) (tn 5 U (eP IY (hrec _ _ _ _ _ hq ok1 (hok.sub _ (mL ob)) ob ob (Expr.iU (mL ob))) U (⟨jn,(qA [6] U (aW kr (nretP [.bool (rec q (nthI x.L 0))] (cs hs1))))⟩)))
 have c1p:=of_decide_eq_false c1
 refine qT 2 U (eQ ([(b2,O (Expr.cells x fP) 62),(b1,O (aZ.cells q qp) 167)]) mixed kr jn (fun lA _=>tf 0 U U (fun _ _ hj=>je ty167 U (hj.nth (i:=1) U) U) (qB [1] U (tf 2 U U (fun _ _ hj=>fH ty60 U (hj.nth (i:=0) U) U) ?_))))
 have ho2:0≤(1:Int)∧(1:Int) < ((x.L).length:Int):=ob
 refine ji 3 lA jn kk ty62 hx.list.1 ho2 (dU ho2) U U U U kr (fun q2 cs2 A2 ln2 rr2=>?_)
 obtain ⟨r2,rfl,ok2⟩:=rr2
 exact tf 4 U U (fun _ _ hj=>j9 ty62 (A2.mono hj.1) U U) (tn 5 U (eP IY (hrec _ _ _ _ _ hq ok2 (hok.sub _ (mL ob)) ob ob (Expr.iU (mL ob))) U (⟨jn,(qA [6] U (aW kr (nretP [.bool (rec q (nthI x.L 1))] (cs hs2))))⟩)))
theorem Kv (rec:aZ→Expr→Bool) (h:HF) (q:aZ) (qp:im) (x:Expr) (fP:cG) (hq:aZ.ok h q qp) (hx:Expr.ok h x fP)
  (hrec:∀ (h:HF) (qq:aZ) (xW:im) (qx:Expr) (j5:cG) (_:aZ.ok h qq xW) (_:Expr.ok h qx j5) (_:OkX (qq.holders.length:Int) qx) (_:qq.who.Pairwise (·≤·)) (_:qq.who.length≤2000000) (_:qx.dep < x.dep),Ret prog 97 [.agg (aZ.cells qq xW).toArray,.agg (Expr.cells qx j5).toArray] h (.bool (rec qq qx)))
  (hok:OkX (q.holders.length:Int) x) (hso:q.who.Pairwise (·≤·)) (hsw:q.who.length≤2000000):
  rH prog (List.getD [.nilFunc,.func (.func 186) #[] #[],.func (.func 187) #[] #[],.func (.func 188) #[] #[],.func (.func 189) #[] #[]] x.Kind.toNat .nilFunc) [.agg (aZ.cells q qp).toArray,.agg (Expr.cells x fP).toArray] h [] (.bool (fulQ rec q x)):=by
 have hk:=hok.kind
 have hc:x.Kind=1∨x.Kind=2∨x.Kind=3∨x.Kind=4:=by omega
 rcases hc with e | e | e | e
 ·rw [show fulQ rec q x=dV q x from by simp [fulQ,e],e];exact iu (cap:=[]) call186 (ry h q qp x fP hq hx (hok.no ob) hso hsw)
 ·rw [show fulQ rec q x=dO q x from by simp [fulQ,e],e];exact iu (cap:=[]) call187 (pP h q qp x fP hq hx (hok.no ob) hso hsw)
 ·rw [show fulQ rec q x=eS.F rec q x from by simp [fulQ,e],e];exact iu (cap:=[]) call188 (rM rec h q qp x fP hrec hq hx hok hso hsw)
 rw [show fulQ rec q x=jL.F rec q x from by simp [fulQ,e],e];exact iu (cap:=[]) call189 (qs rec h q qp x fP hrec hq hx hok hso hsw e)
theorem pi (rec:aZ→Expr→Bool) (h:HF) (q:aZ) (qp:im) (x:Expr) (fP:cG) (hrec:∀ (h:HF) (qq:aZ) (xW:im) (qx:Expr) (j5:cG) (hqq:aZ.ok h qq xW) (hqx:Expr.ok h qx j5) (hok:OkX (qq.holders.length:Int) qx) (hso:qq.who.Pairwise (·≤·)) (hsw:qq.who.length≤2000000) (_:qx.dep < x.dep),Ret prog 97 [.agg (aZ.cells qq xW).toArray,.agg (Expr.cells qx j5).toArray] h (.bool (rec qq qx))) (hq:aZ.ok h q qp) (hx:Expr.ok h x fP) (hok:OkX (q.holders.length:Int) x) (hso:q.who.Pairwise (·≤·)) (hsw:q.who.length≤2000000):Ret prog 97 [.agg (aZ.cells q qp).toArray,.agg (Expr.cells x fP).toArray] h (.bool (dP.F rec q x)):=by
 refine sT func97 U ntmps97 U fun X hM hX hF=>?_
 have hs0:dP.F rec q x=dP.F rec q x:=rfl
 have hkd:=hok.kind
 refine sr (cA (fun b1=>cA (fun b2=>qO 4 U (aF (JW (cells:=[.nilFunc,.func (.func 186) #[] #[],.func (.func 187) #[] #[],.func (.func 188) #[] #[],.func (.func 189) #[] #[]]) underlying261 ty260 zc261 kr (aV zc261 (fun b3=>aS 0 ty261 U U U U U U (qO 2 U (eI 0 U hM (fun h1 hle1 hb1=>eQ ([(b2,O (Expr.cells x fP) 62),(b1,O (aZ.cells q qp) 167)]) mixed kr jn (fun dH _=>qB [0] U (tf 1 U U (fun _ _ hj=>fH ty3 U (hj.nth (i:=0) U) U) ?_))))))))))))
 have ho1:0≤(x.Kind:Int)∧(x.Kind:Int) < 5:=ob
 have A1:=MF (ct hb1) ho1
 exact tf 2 U U (fun _ _ _=>J3 underlying261 ty260 U U ho1) (tf 3 U U (fun _ _ hj=>eV ty260 (A1.mono hj.1) U) (tf 4 U U (fun _ _ hj=>je ty167 U (hj.nth (i:=1) U) U) (tf 5 U U (fun _ _ hj=>je ty62 U (hj.nth (i:=0) U) U) (tn 6 U (kH (v:=.bool (fulQ rec q x)) [] (List.nil_sublist _) (Kv rec h1 q qp x fP (hq.mono hle1) (hx.mono hle1) hrec hok hso hsw) U U (⟨jn,(qA [7] U (aW kr (nretP [.bool (fulQ rec q x)] (cs hs0))))⟩))))))
theorem kY:∀ (m:Nat) (h:HF) (q:aZ) (qp:im) (x:Expr) (fP:cG) (_:x.dep≤m) (hq:aZ.ok h q qp) (hx:Expr.ok h x fP) (hok:OkX (q.holders.length:Int) x) (hso:q.who.Pairwise (·≤·)) (hsw:q.who.length≤2000000),Ret prog 97 [.agg (aZ.cells q qp).toArray,.agg (Expr.cells x fP).toArray] h (.bool (dP.go m q x))
 | 0,h,q,qp,x,fP,hd,hq,hx,hok,hso,hsw=>absurd hd (Nat.not_le.2 (Expr.kB _))
 | m+1,h,q,qp,x,fP,hd,hq,hx,hok,hso,hsw=>pi (dP.go m) h q qp x fP (fun qh_ qq xW qx j5 qhq qhx qhok qhso qhsw qd=>kY m qh_ qq xW qx j5 ob qhq qhx qhok qhso qhsw) hq hx hok hso hsw
theorem pQ (h:HF) (q:aZ) (qp:im) (x:Expr) (fP:cG) (hq:aZ.ok h q qp) (hx:Expr.ok h x fP) (hok:OkX (q.holders.length:Int) x) (hso:q.who.Pairwise (·≤·)) (hsw:q.who.length≤2000000):Ret prog 97 [.agg (aZ.cells q qp).toArray,.agg (Expr.cells x fP).toArray] h (.bool (dP q x)):=kY _ h q qp x fP (Nat.le_refl _) hq hx hok hso hsw
theorem vX (h:HF) (p:Policy) (fL:el) (kind:Int) (value:Int) (holders:List (List Holder)) (j1:Option Addr) (j0:Nat) (who:List Int) (pC:Option Addr) (pB:Nat) (hp:Policy.ok h p fL) (hholders:SlC (Rp.sl Holder.rp) h j1 j0 holders) (hwho:SlC Rp.int h pC pB who) (hsm:smP p) (hsz0:∀ y∈holders,y.length≤2000000) (hsw:who.length≤2000000) (hk:Kinds h):Ret prog 25 [.agg (Policy.cells p fL).toArray,I kind,I value,.slice j1 holders.length j0,.slice pC who.length pB] h (.tuple #[.bool ((fU p kind value holders who).1),I ((fU p kind value holders who).2)]):=by
 refine sT func25 U ntmps25 U fun X hM hX hF=>?_
 have hs0:fU p kind value holders who=fU p kind value holders who:=rfl
 refine sr (cA (fun b1=>qO 6 U (cW 0 ty64 U U U (av call94 (qJ _ _ _ hp ob hk) U (qO 7 U (ai hs0 U (fun c1 hs1=>?_) (fun c1 hs2=>?_)))))))
 ·refine qT 6 U ?_
  have hs3:fU p kind value holders who=(false,(cV p)):=hs1
  exact nretP [.bool false,I (cV p)] (congrArg (fun r:(Bool×Int)=>(.tuple #[.bool r.1,I r.2]:Value)) hs3.symm)
 refine qT 8 U (bY 6 [21,22,23,24,25,26,27] 21 27 (decide ((p.Kinds.length:Int)≤kind)) U (fun c2 hk1=>?_) (fun e=>?_))
 ·exact qL 6 [0] U (hk1 _ U)
 refine aj (bY 3 [28,29,30,31] 28 31 (decide (value < 0)) U (fun c3 hk2=>?_) (fun e=>?_))
 ·exact aj (qO 2 U (hk2 _ U))
 refine aj (bY 3 [32,33,34,35] 32 35 (decide (1099511627776 < value)) U (fun c4 hk3=>?_) (fun e=>?_))
 ·exact aj (qO 2 U (hk3 _ U))
 refine an (ai hs2 U (fun c5 hs4=>?_) (fun c5 hs5=>?_))
 ·refine qT 5 U ?_
  have hs6:fU p kind value holders who=(false,1):=hs4
  exact nretP [.bool false,I 1] (congrArg (fun r:(Bool×Int)=>(.tuple #[.bool r.1,I r.2]:Value)) hs6.symm)
 refine qK 6 [0] U (av call95 (xZ _ _ _ _ (p.Offices.length:Int) hholders ob) U (qO 3 U (ai hs5 U (fun c6 hs7=>?_) (fun c6 hs8=>?_))))
 ·refine qT 5 U ?_
  have hs9:fU p kind value holders who=(false,210):=hs7
  exact nretP [.bool false,I 210] (congrArg (fun r:(Bool×Int)=>(.tuple #[.bool r.1,I r.2]:Value)) hs9.symm)
 refine qT 3 U (av call96 (qN _ _ _ _ hwho) U (qO 3 U (ai hs8 U (fun c7 hs10=>?_) (fun c7 hs11=>?_))))
 ·refine qT 5 U ?_
  have hs12:fU p kind value holders who=(false,1):=hs10
  exact nretP [.bool false,I 1] (congrArg (fun r:(Bool×Int)=>(.tuple #[.bool r.1,I r.2]:Value)) hs12.symm)
 refine qT 7 U (aF (fw (cells:=[I value,.slice j1 holders.length j0,.slice pC who.length pB]) (places:=[(0,1),(1,1),(2,1)]) underlying167 zc167 kr kr (qL 3 [0] U ?_)))
 have ho1:0≤(kind:Int)∧(kind:Int) < ((p.Rules).length:Int):=(by have hq:=uW (by simpa using c1);simp only [decide_eq_true_eq,decide_eq_false_iff_not,Bool.and_eq_true,Bool.or_eq_true,Bool.not_eq_true',Bool.not_eq_false',Bool.and_eq_false_iff,Bool.or_eq_false_iff,beq_iff_eq,beq_eq_false_iff_ne,bne_iff_ne,bne_eq_false_iff_eq,List.length_append,List.length_cons,List.length_nil,List.length_drop] at c5;omega)
 refine aF (gC si ty79 hp.Rules.1 ho1 (dU ho1) U U U (fun _ _ _ e=>e) (fun q1 r1 A1 ok1=>qL 1 [] U (we (j:=3) ty62 A1 U U (av IY (pQ _ _ _ _ _ (show aZ.ok h (aZ.mk value holders who) (im.mk j1 j0 pC pB) from ⟨hholders,hwho⟩) ok1.Expr (by have hq:=uW (by simpa using c1);have hr:=Ir (by simpa using c6);show OkX (holders.length:Int) _;rw [hr];exact hq.2.2 _ (BT (mL ho1))) (Cy (by simpa using c7)) hsw) U (qO 3 U ?_)))))
 have hs13:fU p kind value holders who=((dP (aZ.mk value holders who) ((nthI p.Rules kind).Expr)),0):=hs11
 exact nretP [.bool (dP (aZ.mk value holders who) ((nthI p.Rules kind).Expr)),I 0] (congrArg (fun r:(Bool×Int)=>(.tuple #[.bool r.1,I r.2]:Value)) hs13.symm)
theorem rD (h:HF) (c:bo) (kC:jv) (p:Policy) (fL:el) (who:List Int) (pC:Option Addr) (pB:Nat) (hc:bo.ok h c kC) (hp:Policy.ok h p fL) (hwho:SlC Rp.int h pC pB who) (hsm:smR c.Register) (hco:iS c) (hsp:smP p) (hofl:p.Offices.length≤32) (hsw:who.length≤2000000) (hk:Kinds h):Ret prog 135 [.agg (bo.cells c kC).toArray,.agg (Policy.cells p fL).toArray,.slice pC who.length pB] h (.bool (e9 c p who)):=by
 refine sT func135 U ntmps135 U fun X hM hX hF=>?_
 have hs0:e9 c p who=e9 c p who:=rfl
 refine sr (cA (fun b1=>cA (fun b2=>qL 14 [0] U ?_)))
 let z1:Nat×Obj:=(b1,O (bo.cells c kC) 123)
 let z2:Nat×Obj:=(b2,O (Policy.cells p fL) 64)
 refine lp2 p.Offices (fun i w=>[(2,.slice pC who.length pB),(3,Q b1),(4,Q b2),(7,.slice w.2.1 w.1.length w.2.2.1),(15,I (p.Offices.length:Int)),(16,I (i:Int))]) (fun w=>w.2.2.2.2) (fun w=>[z2,z1]++(w.2.2.2.1)) (fun i w=>em (Rp.sl Holder.rp) 68 w.2.2.2.2 w.1 w.2.1 w.2.2.1 w.2.2.2.1∧w.1.length≤0+i∧HF.le h w.2.2.2.2∧(∀ y∈w.1,y.length≤2000000)) (fun s1 i w=>(e9.L1 c (e9.K1 c p who)) s1 i w.1) ([],none,0,[],h) hp.Offices.1.1 hs0 ⟨em.nil,lo,lf,(fun y hy=>(List.not_mem_nil hy).elim)⟩ ?_ ?_
 ·rintro i1 ⟨zK,MU,MT,L5,hh1⟩ fA hs1 ⟨FE,Kq,hl1,u1_0⟩ e
  try dsimp only at FE Kq hl1 u1_0
  refine sr (cW 0 ty64 U U U (qL 8 [1,1] U (pG (Rp.uK Holder.ao) ([z2,z1]) L5 ([]) ap hM FE (fun h3 hle3 sl3=>av call25 (vX _ _ _ c.doc.Kind c.doc.Value _ _ _ _ _ _ (hp.mono (hl1.t hle3)) sl3 (hwho.mono Rp.aY (hl1.t hle3)) hsp ob ob (hk.mono (hl1.t hle3))) U (qO 10 U (bC 3 [52,53,54,55] 52 55 ((fU p c.doc.Kind c.doc.Value zK who).2==0) U (fun c1 hk1=>?_) (fun e=>?_)))))))
  ·exact aj (qO 2 U (hk1 _ U))
  exact an (nretP [.bool ((fU p c.doc.Kind c.doc.Value zK who).1&&((fU p c.doc.Kind c.doc.Value zK who).2==0))] (cs hs1))
 rintro i1 ⟨zK,MU,MT,L5,hh1⟩ y1 rz1 hd1 dx aL eH hO hs3 ⟨FE,Kq,hl1,u1_0⟩ hx1 ag1 e
 try dsimp only at FE Kq hl1 u1_0
 refine sr (aw (v':=.bool true) U (cb dx) (qL 21 [1,1,1] U (aF (cY call24 (wd _ _ _ _ (i1:Int) c.at_ c.known (hc.Register.Appoints.mono Appoint.ao hl1) hsm.2.1) U (fun v2 h4 hle4 hp2=>?_)))))
 obtain ⟨rb2,rc2,rfl,sl4⟩:=hp2
 exact aj (qO 8 U (aF (mK rI (gU h4 ((eh c.Register.Appoints (i1:Int) c.at_ c.known).2)) (kJ (Gd ((me _).1 hco.chk).1 ob hco.time hco.know)) U (qO 4 U (aF (bV (cells:=[.slice rb2 (((eh c.Register.Appoints (i1:Int) c.at_ c.known).1).length) rc2]) I1 ty68 zc68 U U kr (fun b4=>aF (eR (Rp.Lc Holder.ao) ([(b4,O [.slice rb2 (((eh c.Register.Appoints (i1:Int) c.at_ c.known).1).length) rc2] 68),z2,z1]) ([]) (fun G=>[(b4,O [.slice rb2 (((eh c.Register.Appoints (i1:Int) c.at_ c.known).1).length) rc2] 68),z2,z1]++G) ap (fun _=>ap) I1 ty68 zc68 U bytes68 (FE.mono (Rp.uK Holder.ao) hle4) U U (fI 0 U (show bu (Rp.sl Holder.rp) h4 [.slice rb2 (((eh c.Register.Appoints (i1:Int) c.at_ c.known).1).length) rc2] ([(eh c.Register.Appoints (i1:Int) c.at_ c.known).1]) from ⟨[.slice rb2 (((eh c.Register.Appoints (i1:Int) c.at_ c.known).1).length) rc2],[],U,U,⟨rb2,rc2,U,sl4⟩,U⟩)) lo lo (fun ob2 oc2 G2 gr2=>qO 4 U (aw (v':=I (((i1+1):Nat):Int)) U (bw ob) (qO 2 U (bB (L':=[z2,z1]++G2) js (ag1 ((zK++[(eh c.Register.Appoints (i1:Int) c.at_ c.known).1]),ob2,oc2,G2,h4) hs3 ⟨gr2,lo,(hl1.t hle4),(fun y hy=>(List.mem_append.1 hy).elim (u1_0 y) (fun hy=>by rw [List.mem_singleton.1 hy];exact Nat.le_trans (Gc _ _ _ _) hsm.2.1))⟩)))))))))))))
theorem xR {α : Type} {xs:List α} {i:Nat} {y:α} (h:xs[i]? = some y):xs.take (i+1)=xs.take i++[y]:=by
  rw [List.take_add_one,h];rfl
theorem wk (h:HF) (c:bo) (kC:jv) (bv:Nat) (s0 b0:Int) (hc:bo.ok h c kC) (hsm:smR c.Register) (hco:iS c) (hat:c.doc.At≤c.at_) (hk:Kinds h):
  mP prog 59 (List.toArray [.agg (bo.cells c kC).toArray,.pointer (some ⟨bv,0,none⟩)]) h [(bv,verO s0 b0 none 0 0 none 0 0)]
   (fun r h' B=>∃ vb vc wb wc G,r=.returned (.bool (gK c))∧B=(bv,verO s0 b0 vb (askJ c).1.length vc wb (askAll c).length wc)::G∧SlC Rp.int h' vb vc (askJ c).1∧em Rp.int 3 h' (askAll c) wb wc G):=by
 have hJ:Jdg c.Register.Versions (askJ c):=IR hco.vers hco.good.at_ hco.time hco.know hat
 have hJl:(askJ c).1.length≤256:=Nat.le_trans (GS _ _ _ _) hco.vers.len
 have hpx:∀ y∈(askJ c).1,exOk (dJ c y):=fun y hy=>w6 (hJ.mem y hy)
 have hpk:∀ y∈(askJ c).1,KP (askP c y):=fun y hy=>sJ hco hsm (LN (hpx y hy))
 refine cz func59 U ntmps59 U fun X hM hX=>?_
 refine aR (ay (cA (fun b2=>cK (aD ?_))))
 refine aR (ay (fX xB U (fX LJ U (kl 0 ty26 U U U (fX nC U (fX HU U (kl 0 ty3 U U U (fX xA U (kl 0 ty3 U U U (fX xz U (kl 0 ty3 U U U ?_)))))))))))
 refine aF (cY call22 (vO h c.Register.Versions _ _ c.doc.At c.at_ c.known hc.Register.Versions hsm.vers hk) U (fun v1 h1 hle1 hp1=>?_))
 obtain ⟨vb,vc,rfl,slv⟩:=hp1
 refine aj (fM U U (fM U U (fM U U (cK (cK (cK (aD ?_)))))))
 refine aR (ay (aj (aF (mK rI (gU h1 _) (kJ hJ.err) U (aD ?_)))))
 refine aR (ay (cK (aD ?_)))
 refine aR (aR (ay (aj (Bf fa U (aj (aD ?_))))))
 refine lp2 (γ:=List Bool×Option Addr×Nat×LH×List Int×Option Addr×Nat×LH×HF) (x0:=(askJ c).1) (askJ c).1
  (fun i g=>[(1,.pointer (some ⟨bv,0,none⟩)),(2,.pointer (some ⟨b2,0,none⟩)),(5,.slice vb (askJ c).1.length vc),(6,.int .i64 (askJ c).2.1),(8,.slice g.2.1 g.1.length g.2.2.1),(31,.slice vb (askJ c).1.length vc),(32,.int .i64 (((askJ c).1.length:Nat):Int)),(33,.int .i64 (i:Int))])
  (fun g=>g.2.2.2.2.2.2.2.2)
  (fun g=>[(b2,Obj.cells (bo.cells c kC).toArray 123 (0,0)),(bv,verO s0 b0 none 0 0 g.2.2.2.2.2.1 g.2.2.2.2.1.length g.2.2.2.2.2.2.1)]++(g.2.2.2.1++g.2.2.2.2.2.2.2.1))
  (fun i g=>g.1=((askJ c).1.take i).map (askAns c)∧g.2.2.2.2.1=((askJ c).1.take i).flatMap (askWho c)∧em Rp.bool 4 g.2.2.2.2.2.2.2.2 g.1 g.2.1 g.2.2.1 g.2.2.2.1∧em Rp.int 3 g.2.2.2.2.2.2.2.2 g.2.2.2.2.1 g.2.2.2.2.2.1 g.2.2.2.2.2.2.1 g.2.2.2.2.2.2.2.1∧h1.le g.2.2.2.2.2.2.2.2∧g.1.length≤i∧g.2.2.2.2.1.length≤i * 2000000)
  (fun s i _=>(askJ c).1.take i++s) ([],none,0,[],[],none,0,[],h1) (by omega) rfl ⟨rfl,rfl,em.nil,em.nil,HF.le_refl _,Nat.zero_le _,Nat.zero_le _⟩ ?_ ?_
 ·rintro i ⟨az,ab,ac,Ga,ws,wb,wc,Gw,hh⟩ hil hx0 ⟨ha,hw,gA,gW,hle,la,lw⟩ e
  dsimp only at ha hw gA gW hle la lw hx0
  rw [List.append_nil] at hx0
  rw [← hx0] at ha hw
  subst ha hw
  obtain ⟨ws,hws⟩:∃ ws,ws=(askJ c).1.flatMap (askWho c):=⟨_,rfl⟩
  have hall:askAll c=slices_Compact_int (sortI ws):=by rw [hws];rfl
  rw [← hws] at gW lw
  obtain ⟨az,has⟩:∃ az,az=(askJ c).1.map (askAns c):=⟨_,rfl⟩
  rw [← has] at gA la
  show TT _ _ _ _ _ (upds e [(1,.pointer (some ⟨bv,0,none⟩)),(2,.pointer (some ⟨b2,0,none⟩)),(5,.slice vb (askJ c).1.length vc),(6,.int .i64 (askJ c).2.1),(8,.slice ab ((askJ c).1.map (askAns c)).length ac),(31,.slice vb (askJ c).1.length vc),(32,.int .i64 (((askJ c).1.length:Nat):Int)),(33,.int .i64 (i:Int))]) _ _ hh ([(b2,Obj.cells (bo.cells c kC).toArray 123 (0,0)),(bv,verO s0 b0 none 0 0 wb ((askJ c).1.flatMap (askWho c)).length wc)]++(Ga++Gw))
  rw [← hws,← has]
  refine aR (ay (aj (aF (fg (fF U) (fX xu U (kl 1 ty31 U U U ?_))))))
  refine aF (lV ([(b2,Obj.cells (bo.cells c kC).toArray 123 (0,0)),(bv,verO s0 b0 none 0 0 wb ws.length wc)]++Ga) Gw [] I9 (lh hh ws wb wc Gw gW (by omega)) (by simp only [List.append_assoc,List.cons_append,List.nil_append,List.append_nil]) U (fun G2 g2=>aD ?_))
  refine aR (ay (aj (aj (aj (aj (aF (fg (fF U) (fX xu U (kl 1 ty31 U U U ?_)))))))))
  refine aF (lV (v:=.slice wb (slices_Compact_int (sortI ws)).length wc) ([(b2,Obj.cells (bo.cells c kC).toArray 123 (0,0)),(bv,verO s0 b0 none 0 0 wb ws.length wc)]++Ga) G2 [] call136 (nO hh (sortI ws) wb wc G2 g2) U (by simp only [ir];rfl) (fun G3 g3=>?_))
  refine aF (fg (fF U) (fX LF U (cJ 1 ty31 U U U U U U (aF (fg (fF U) (fX xu U (cJ 1 ty31 U U U U U U (aD ?_))))))))
  refine cu (L':=[(b2,Obj.cells (bo.cells c kC).toArray 123 (0,0)),(bv,verO s0 b0 vb (askJ c).1.length vc wb (slices_Compact_int (sortI ws)).length wc)]++(Ga++G3)) (by rw [List.append_nil,List.append_assoc];rfl) ?_
  have fin:∀ (hz:HF) (r:Bool),hh.le hz→r=gK c→∀ (e:Env),e 4=.bool r→∀ k,TT prog (bodyFrame 59) 88 (.code .ret::k) (kG prog X (fun r h' B=>∃ vb vc wb wc G,r=.returned (.bool (gK c))∧B=(bv,verO s0 b0 vb (askJ c).1.length vc wb (askAll c).length wc)::G∧SlC Rp.int h' vb vc (askJ c).1∧em Rp.int 3 h' (askAll c) wb wc G)) e [] X hz ([(b2,Obj.cells (bo.cells c kC).toArray 123 (0,0)),(bv,verO s0 b0 vb (askJ c).1.length vc wb (slices_Compact_int (sortI ws)).length wc)]++(Ga++G3)):=by
   intro hz r hlz hr e he k
   subst hr
   refine nY (v:=.bool (gK c)) (h2:=hz) (B:=(bv,verO s0 b0 vb (askJ c).1.length vc wb (slices_Compact_int (sortI ws)).length wc)::G3) func59 (fun a ha w _=>by rw [← he];exact res1 U a ha w) (fun w hw=>hw.sub (.cons _ (.cons_cons _ (List.sublist_append_right _ _)))) ⟨vb,vc,wb,wc,G3,U,?_,slv.mono Rp.aY (HF.le_trans hle hlz),?_⟩
   ·rw [hall]
   rw [hall];exact g3.mono Rp.aY hlz
  refine aR (aR (ay (aj (Bg U (aD ?_)))))
  refine jG U (fun c1=>?_) (fun c1=>?_)
  ·refine aR (ay (cK (aD ?_)))
   exact fin hh false lf (by unfold gK;rw [show ((askJ c).2.1==0)=true from c1];rfl) _ U _
  have hm:=hJ.mode2 (by simpa using c1)
  have hal:az.length≤256:=by rw [has,List.length_map];exact hJl
  refine aJ (aR (ay (aj (aj ?_))))
  refine aF (EU ([(b2,Obj.cells (bo.cells c kC).toArray 123 (0,0)),(bv,verO s0 b0 vb (askJ c).1.length vc wb (slices_Compact_int (sortI ws)).length wc)]) Ga G3 (v:=.tuple #[.bool ((iQ (askJ c).2.1 az).1),.int .i64 ((iQ (askJ c).2.1 az).2)]) call26 Rp.uX gA U (fun hz lz sl=>vP hz (askJ c).2.1 az ab ac sl (by omega)) U ?_)
  refine aj (fM U U (fM U U (cK (cK (aD ?_)))))
  refine aR (ay (aj (aF (mK rI (gU hh _) (kJ (GT hm hal)) U (aD ?_)))))
  refine aR (ay (aj (cK (aD ?_))))
  exact fin hh _ lf (by unfold gK;rw [show ((askJ c).2.1==0)=false from c1,cond_false,← has]) _ U _
 rintro i ⟨az,ab,ac,Ga,ws,wb,wc,Gw,hh⟩ y r hd hlt hget hltp hbd hx0 ⟨ha,hw,gA,gW,hle,la,lw⟩ hx ag e
 dsimp only at ha hw gA gW hle la lw
 have hy:y∈(askJ c).1:=List.mem_of_getElem? hget
 have hcc:=hc.mono (HF.le_trans hle1 hle)
 show TT _ _ _ _ _ (upds e [(1,.pointer (some ⟨bv,0,none⟩)),(2,.pointer (some ⟨b2,0,none⟩)),(5,.slice vb (askJ c).1.length vc),(6,.int .i64 (askJ c).2.1),(8,.slice ab az.length ac),(31,.slice vb (askJ c).1.length vc),(32,.int .i64 (((askJ c).1.length:Nat):Int)),(33,.int .i64 (i:Int))]) _ _ hh ([(b2,Obj.cells (bo.cells c kC).toArray 123 (0,0)),(bv,verO s0 b0 none 0 0 wb ws.length wc)]++(Ga++Gw))
 refine aR (ay (aw (v':=.bool true) U (congrArg Value.bool hlt) (aD (aR (iq U (aJ (aR (ie ?_))))))))
 refine aR (ay (aF (fj (enc:=fun y=>[.int .i64 y]) (fun _ _ _ e=>e) fa ty3 (slv.mono Rp.aY hle).1 (nthZ hget) (ba hget) U U U (fun q1 A1=>dF ty3 A1 U (cK (aD ?_))))))
 refine aR (ay (cW 0 ty123 U U U (aj ?_)))
 refine aF (Db call80 (nP hh c kC y hcc) (hpx y hy) U (fun v3 h3 hle3 hp3=>?_))
 obtain ⟨pr,rfl,okp⟩:=hp3
 refine aV zc64 (fun b11=>aS 0 ty64 U U U U U U (aD ?_))
 refine aR (ay (cW 1 ty123 U U U (cW 0 ty64 U U U ?_)))
 refine aF (cY call79 (nQ h3 c kC (askP c y) pr (hcc.mono hle3) okp hsm hco (hpk y hy).rules) U (fun v4 h4 hle4 hp4=>?_))
 obtain ⟨ub,uc,rfl,slu⟩:=hp4
 refine cK (aD ?_)
 refine aR (ay (aj (cW 1 ty123 U U U (cW 0 ty64 U U U (aj (av (v:=.bool (askAns c y)) call135 (rD h4 c kC (askP c y) pr (askWho c y) ub uc (hcc.mono (HF.le_trans hle3 hle4)) (okp.mono hle4) slu hsm hco (hpk y hy).sm (hpk y hy).off (Bd hsm _) (hk.mono (HF.le_trans hle1 (HF.le_trans hle (HF.le_trans hle3 hle4))))) U ?_))))))
 have hl4:hh.le h4:=HF.le_trans hle3 hle4
 have hwl:=Bd hsm (askP c y)
 refine aF (bV (cells:=[.bool (askAns c y)]) CY ty4 zc4 U U (by kernel_rfl) (fun b13=>?_))
 refine aF (eR Rp.IL ([(b13,Obj.cells (List.toArray [.bool (askAns c y)]) 4 (0,0)),(b11,Obj.cells (Policy.cells (askP c y) pr).toArray 64 (0,0)),(b2,Obj.cells (bo.cells c kC).toArray 123 (0,0)),(bv,verO s0 b0 none 0 0 wb ws.length wc)]) Gw (fun G=>[(b13,Obj.cells (List.toArray [.bool (askAns c y)]) 4 (0,0)),(b11,Obj.cells (Policy.cells (askP c y) pr).toArray 64 (0,0)),(b2,Obj.cells (bo.cells c kC).toArray 123 (0,0)),(bv,verO s0 b0 none 0 0 wb ws.length wc)]++(Gw++G)) U (fun _=>U) CY ty4 zc4 U bytes4 (gA.mono Rp.uX hl4) U U (fI (ys:=[askAns c y]) 0 U ⟨[.bool (askAns c y)],[],U,U,U,U⟩) (by simp only [List.length_cons,List.length_nil];omega) (by simp only [List.length_cons,List.length_nil];omega) (fun ab2 ac2 Ga2 gA2=>cK (aD ?_)))
 refine ay (aj (aj (aF (fg (fF U) (fX xu U (kl 3 ty31 U U U (aj ?_)))))))
 refine aF (eR Rp.kR ([(b13,Obj.cells (List.toArray [.bool (askAns c y)]) 4 (0,0)),(b11,Obj.cells (Policy.cells (askP c y) pr).toArray 64 (0,0)),(b2,Obj.cells (bo.cells c kC).toArray 123 (0,0)),(bv,verO s0 b0 none 0 0 wb ws.length wc)]) Ga2 (fun G=>[(b13,Obj.cells (List.toArray [.bool (askAns c y)]) 4 (0,0)),(b11,Obj.cells (Policy.cells (askP c y) pr).toArray 64 (0,0)),(b2,Obj.cells (bo.cells c kC).toArray 123 (0,0)),(bv,verO s0 b0 none 0 0 wb ws.length wc)]++(Ga2++G)) U (fun _=>U) fa ty3 zc3 U bytes3 (gW.mono Rp.aY hl4) U U (vS slu.1) (by show (_+(askWho c y).length) * _≤_;unfold askWho;omega) (by show _+(askWho c y).length≤_;unfold askWho;omega) (fun wb2 wc2 Gw2 gW2=>?_))
 refine aF (fg (fF U) (fX xu U (cJ 3 ty31 U U U U U U (aD ?_))))
 refine bB (L':=[(b2,Obj.cells (bo.cells c kC).toArray 123 (0,0)),(bv,verO s0 b0 none 0 0 wb2 (ws++askWho c y).length wc2)]++(Ga2++Gw2)) (.cons _ (.cons _ (List.Sublist.refl _))) ?_
 refine da (ay (aw (v':=.int .i64 (((i+1:Nat)):Int)) U (bw (by omega)) (aj (aD ?_))))
 refine ag (az++[askAns c y],ab2,ac2,Ga2,ws++askWho c y,wb2,wc2,Gw2,h4) (by rw [xR hget,List.append_assoc];exact hx0) ⟨?_,?_,gA2,gW2,HF.le_trans hle hl4,?_,?_⟩
 ·show az++[askAns c y]=_;rw [xR hget,ha,List.map_append];rfl
 ·show ws++askWho c y=_;rw [xR hget,hw,List.flatMap_append];simp
 ·show (az++[askAns c y]).length≤i+1;rw [List.length_append];simp only [List.length_cons,List.length_nil];omega
 show (ws++askWho c y).length≤(i+1) * 2000000;rw [List.length_append];unfold askWho;omega
theorem GE (h:HF) (c:bo) (kC:jv) (q:Addr) (bv:Nat) (s0 b0:Int) (hc:bo.ok h c kC) (aq:At h q (bo.cells c kC)) (hsm:smR c.Register) (hco:iS c) (hat:c.doc.At≤c.at_) (hk:Kinds h):
    mP prog 58 (List.toArray [.pointer (some q),.pointer (some ⟨bv,0,none⟩)]) h [(bv,verO s0 b0 none 0 0 none 0 0)]
      (fun r h' B=>∃ vb vc wb wc G,r=.returned (.bool (!(gK c)))∧B=(bv,verO s0 b0 vb (askJ c).1.length vc wb (askAll c).length wc)::G∧SlC Rp.int h' vb vc (askJ c).1∧em Rp.int 3 h' (askAll c) wb wc G):=by
  refine cz func58 U ntmps58 U fun X hM hX=>?_
  refine aR (ay (cK (aD ?_)))
  refine aR (ay (dz ty123 aq U U ?_))
  refine aF (lF (A:=[(bv,verO s0 b0 none 0 0 none 0 0)]) (Fr:=[]) call59 rfl (wk h c kC bv s0 b0 hc hsm hco hat hk) rfl (fun v h2 B hle hR=>?_) (fun ch h2 B hle hR=>by obtain ⟨_,_,_,_,_,hr,_⟩:=hR;cases hr))
  obtain ⟨vb,vc,wb,wc,G,hr,rfl,s1,g1⟩:=hR
  cases hr
  refine kz U (cK (aD ?_))
  exact nY (v:=.bool (!(gK c))) (h2:=h2) (B:=(bv,verO s0 b0 vb (askJ c).1.length vc wb (askAll c).length wc)::G) func58 (fun a ha w hw=>lk (rs:=[.tmp 2]) (vs:=[.bool (!(gK c))]) U ⟨U,trivial⟩ a ha w hw) (fun w hw=>by simpa using hw) ⟨vb,vc,wb,wc,G,U,U,s1,g1⟩
theorem GD (h:HF) (r:Register) (Ni:dI) (qr:Addr) (u:List Use) (zR:Option Addr) (zQ:Nat) (qu:Addr) (c:bo) (kC:jv) (qc:Addr) (at_ known:Int) (qa qk:Addr) (bv:Nat) (s0 b0:Int) (vb:Option Addr) (vn vc:Nat) (wb:Option Addr) (wn wc:Nat)
  (hr:Register.ok h r Ni) (ar:At h qr (Register.cells r Ni)) (hu:SlC Use.rp h zR zQ u) (au:At h qu [.slice zR u.length zQ]) (ac:At h qc (bo.cells c kC)) (aa:At h qa [.int .i64 at_]) (ak:At h qk [.int .i64 known]) (hsm:smR r) (he:(judgeRoom c r u at_ known).2.2=0):
  mP prog 60 (List.toArray [.pointer (some qr),.pointer (some qu),.pointer (some qc),.pointer (some qa),.pointer (some qk),.pointer (some ⟨bv,0,none⟩)]) h [(bv,verO s0 b0 vb vn vc wb wn wc)]
   (fun x h' B=>x=.returned (.bool (!(judgeRoom c r u at_ known).2.1))∧h'=h∧B=[(bv,verO s0 (bif !(judgeRoom c r u at_ known).2.1 then (judgeRoom c r u at_ known).1 else b0) vb vn vc wb wn wc)]):=by
 refine cz func60 U ntmps60 U fun X hM hX=>?_
 refine aR (ay (cK (aD ?_)))
 refine aR (ay (fX HX U (kd (j:=3) ty25 ar U U (dF ty32 au U (fX nC U (fX Ae U (kd (j:=9) ty3 ac U U (fX nC U (fX HT U (kd (j:=10) ty3 ac U U (dF ty3 aa U (dF ty3 ak U ?_))))))))))))
 refine av (v:=.tuple #[.int .i64 (judgeRoom c r u at_ known).1,.bool (judgeRoom c r u at_ known).2.1,.int .i64 (judgeRoom c r u at_ known).2.2]) call27 (s8 h r.Budgets _ _ u zR zQ c.doc.Kind c.doc.Value at_ known hr.Budgets hu hsm.2.2.2.2.1) U ?_
 refine aj (fM U U (fM U U (fM U U (cK (cK (cK (aD ?_)))))))
 refine aR (ay (aj (aF (mK rI (gU h _) (kJ he) U (aD ?_)))))
 refine aR (aR (ay (aj (kz U (aD ?_)))))
 refine jG U (fun c1=>?_) (fun c1=>?_)
 ·refine ay (aj (fX HW U (cJ 0 ty3 U U U U U U (aD ?_))))
  refine aR (ay (aj (kz U (cK (aD ?_)))))
  exact nY (v:=.bool (!(judgeRoom c r u at_ known).2.1)) (h2:=h) (B:=[(bv,verO s0 (judgeRoom c r u at_ known).1 vb vn vc wb wn wc)]) func60 (fun a ha w hw=>lk (rs:=[.tmp 6]) (vs:=[.bool (!(judgeRoom c r u at_ known).2.1)]) U ⟨U,trivial⟩ a ha w hw) (fun w hw=>hw) ⟨U,U,by rw [show (!(judgeRoom c r u at_ known).2.1)=true from c1];rfl⟩
 refine aJ (aR (ay (aj (kz U (cK (aD ?_))))))
 exact nY (v:=.bool (!(judgeRoom c r u at_ known).2.1)) (h2:=h) (B:=[(bv,verO s0 b0 vb vn vc wb wn wc)]) func60 (fun a ha w hw=>lk (rs:=[.tmp 6]) (vs:=[.bool (!(judgeRoom c r u at_ known).2.1)]) U ⟨U,trivial⟩ a ha w hw) (fun w hw=>hw) ⟨U,U,by rw [show (!(judgeRoom c r u at_ known).2.1)=false from c1];rfl⟩
theorem Bi {e:Int} {ee:Int} (h:kj e=.error ee):(e != 0)=true∧ee=e:=by
  unfold kj at h
  cases hc:e != 0 with
  | true=>rw [hc] at h;cases h;exact ⟨rfl,rfl⟩
  | false=>rw [hc] at h;cases h
theorem ye {e:Int} {u:Unit} (h:kj e=.ok u):e=0:=by
  unfold kj at h
  cases hc:e != 0 with
  | true=>rw [hc] at h;cases h
  | false=>simpa using hc
theorem mf (h:HF) (bL:Register) (ga:dI) (signed:List Int) (ec:Option Addr) (dZ:Nat) (u:List Use) (zR:Option Addr) (zQ:Nat) (doc:Int) (fC:Int) (known:Int) (jF:Register.ok h bL ga) (hsigned:SlC Rp.int h ec dZ signed) (hu:SlC Use.rp h zR zQ u) (hsm:smR bL) (hln:bL.Docs.length < 20) (hk:Kinds h):
  jN prog 11 [.agg (Register.cells bL ga).toArray,.slice ec signed.length dZ,.slice zR u.length zQ,.int .i64 doc,.int .i64 fC,.int .i64 known] h (fun v h'=>∃ rr0:ql,v=.tuple #[.agg (gu.cells (eA bL signed u doc fC known).1 rr0).toArray,.int .i64 ((eA bL signed u doc fC known).2)]∧gu.ok h' (eA bL signed u doc fC known).1 rr0):=by
 refine cz func11 U ntmps11 U fun X hM hX=>?_
 refine aR (ay (cA (fun b6=>cA (fun b7=>cA (fun b8=>cA (fun b10=>cA (fun b11=>aV zc36 (fun b12=>aV zc37 (fun b13=>aD ?_)))))))))
 refine aR (ay (C6 U U (aD ?_)))
 have fin:∀ (hh:HF) (V:gu) (vb:Option Addr) (vc:Nat) (wb:Option Addr) (wc:Nat) (ee:Int) (B:LH) (e:Env),eA bL signed u doc fC known=(V,ee)→SlC Rp.int hh vb vc V.Versions→SlC Rp.int hh wb wc V.Who→e 12=.pointer (some ⟨b12,0,none⟩)→e 13=.pointer (some ⟨b13,0,none⟩)→∀ a:Act,envOf a=e→∀ w,St X hh ([(b13,Obj.cells (List.toArray [.int .i64 ee]) 37 (0,0))]++((b12,verO V.State V.Budget vb V.Versions.length vc wb V.Who.length wc)::B)) w →
   ∃ v h2 B2,(results Tryz.f11 a.tmps).run prog w=.ok v w∧St X h2 B2 w∧(B2=[]∧∃ v',Ending.returned v=.returned v'∧(fun v h'=>∃ rr0:ql,v=.tuple #[.agg (gu.cells (eA bL signed u doc fC known).1 rr0).toArray,.int .i64 ((eA bL signed u doc fC known).2)]∧gu.ok h' (eA bL signed u doc fC known).1 rr0) v' h2):=by
  intro hh V vb vc wb wc ee B e he h1 h2 h12 h13 a ha w hw
  refine ⟨_,hh,[],lk (rs:=[.cell 12 36,.cell 13 37]) (vs:=[.agg (gu.cells V ⟨vb,vc,wb,wc⟩).toArray,.int .i64 ee]) U ⟨⟨1,b12,_,36,(0,0),U,h12,.inl ⟨ty36,U⟩⟩,⟨0,b13,[.int .i64 ee],37,(0,0),U,h13,.inr ⟨_,ty37,U⟩⟩,trivial⟩ a ha w hw,hw.sub (List.nil_sublist _),U,_,U,⟨vb,vc,wb,wc⟩,?_,?_⟩
  ·rw [he];rfl
  rw [he];exact ⟨h1,h2⟩
 have pan:∀ (hh:HF) (e0 ee:Int) (B:LH) (e:Env),eA bL signed u doc fC known=(⟨0,0,[],[]⟩,ee)→e 12=.pointer (some ⟨b12,0,none⟩)→e 13=.pointer (some ⟨b13,0,none⟩) →
   TP prog (bodyFrame 11) 69 [{ v:=errV ee,recovered:=false }] (kG prog X (fun x h' B=>B=[]∧∃ v,x=.returned v∧(fun v h'=>∃ rr0:ql,v=.tuple #[.agg (gu.cells (eA bL signed u doc fC known).1 rr0).toArray,.int .i64 ((eA bL signed u doc fC known).2)]∧gu.ok h' (eA bL signed u doc fC known).1 rr0) v h')) e [{ target:=.fn (.func 50) #[],args:=List.toArray [.pointer (some ⟨b13,0,none⟩)] }] X hh ((b13,Obj.cells (List.toArray [.int .i64 e0]) 37 (0,0))::(b12,verO 0 0 none 0 0 none 0 0)::B):=by
  intro hh e0 ee B e he h12 h13
  refine Ap (c:=bodyOf Tryz.f50) (cap:=[.pointer (some ⟨b13,0,none⟩)]) (A:=[(b13,Obj.cells (List.toArray [.int .i64 e0]) 37 (0,0))]) (R':=fun h'' B=>h''=hh∧B=[(b13,Obj.cells (List.toArray [.int .i64 ee]) 37 (0,0))]) func11 CZ U GY U GX (fun X' _=>wz hh b13 e0 ee X') U ?_
  rintro h'' B2 _ ⟨rfl,rfl⟩ a ha w hw
  exact fin _ ⟨0,0,[],[]⟩ none 0 none 0 ee B e he SlC.nil SlC.nil h12 h13 a ha w hw
 refine aR (ay (cW 6 ty30 U U U (av (v:=.int .i64 (eB bL)) I7 (nu h bL ga jF hsm hk) U ?_)))
 refine pq rI (gU h (eB bL)).toXH U (fun v_ v h1 hx1 hle1 hp1=>?_) (fun ee h1 hx1 hle1=>?_)
 rotate_left
 ·obtain ⟨e1,rfl⟩:=Bi hx1
  exact pan h1 _ _ _ _ (by unfold eA;rw [e1];rfl) U U
 obtain ⟨rfl,rfl⟩:=hp1
 have hc0:=ye hx1
 refine aD (aR (ay (fX LI U (kl 6 ty27 U U U (kl 5 ty31 U U U ?_)))))
 refine aF (cY call52 (oH h1 bL.Docs _ _ signed ec dZ 0 jF.Docs hsigned hln) U (fun v2 h2 hle2 hp2=>?_))
 obtain ⟨fb,fc,rfl,_⟩:=hp2
 refine aj (fM U U (fM U U (cJ 0 ty37 U U U U U U (aD ?_))))
 refine aR (ay (kl 0 ty37 U U U ?_))
 refine pq rI (gU h2 (cd bL.Docs signed 0).2).toXH U (fun v_ v h3 hx3 hle3 hp3=>?_) (fun ee h3 hx3 hle3=>?_)
 rotate_left
 ·obtain ⟨e1,rfl⟩:=Bi hx3
  exact pan h3 _ _ _ _ (by unfold eA;rw [hc0,e1];rfl) U U
 obtain ⟨rfl,rfl⟩:=hp3
 have hf0:=ye hx3
 refine aD (aR (ay (fX HX U (kl 6 ty25 U U U (kl 4 ty32 U U U ?_)))))
 refine av (v:=.tuple #[.int .i64 (ce bL.Budgets u 0 0 0 0).1,.bool (ce bL.Budgets u 0 0 0 0).2.1,.int .i64 (ce bL.Budgets u 0 0 0 0).2.2]) call27 (s8 h3 bL.Budgets _ _ u zR zQ 0 0 0 0 (jF.mono hle2).Budgets (hu.mono Use.ao hle2) hsm.2.2.2.2.1) U ?_
 refine aj (fM U U (fM U U (fM U U (cJ 0 ty37 U U U U U U (aD ?_)))))
 refine aR (ay (kl 0 ty37 U U U ?_))
 refine pq rI (gU h3 (ce bL.Budgets u 0 0 0 0).2.2).toXH U (fun v_ v h4 hx4 hle4 hp4=>?_) (fun ee h4 hx4 hle4=>?_)
 rotate_left
 ·obtain ⟨e1,rfl⟩:=Bi hx4
  exact pan h4 _ _ _ _ (by unfold eA;rw [hc0,hf0,e1];rfl) U U
 obtain ⟨rfl,rfl⟩:=hp4
 have hb0:=ye hx4
 refine aD (aR (ay (cW 6 ty30 U U U (aj (kl 3 ty3 U U U (kl 2 ty3 U U U ?_))))))
 refine pq call53 (vF h4 bL ga doc fC known (jF.mono hle2)) U (fun c v h5 hx5 hle5 hp5=>?_) (fun ee h5 hx5 hle5=>?_)
 rotate_left
 ·exact pan h5 _ _ _ _ (by unfold eA;rw [hc0,hf0,hb0,hx5];rfl) U U
 obtain ⟨cr,rfl,okc⟩:=hp5
 have hj:eA bL signed u doc fC known=(judgeC c bL signed u fC known,0):=by unfold eA;rw [hc0,hf0,hb0,hx5];rfl
 obtain ⟨hce,hco,_,_⟩:=D2 hc0 hx5
 have hreg:c.Register=bL:=by rw [hce]
 have hca:c.at_=fC:=by rw [hce]
 have hck:c.known=known:=by rw [hce]
 have hsc:smR c.Register:=by rw [hreg];exact hsm
 have hlc:c.Register.Docs.length < 20:=by rw [hreg];exact hln
 have hsg:de c.Register.Docs signed=true:=by rw [hreg];exact D7 hf0
 have hroom:(judgeRoom c bL u fC known).2.2=0:=JY hb0 hco.kind hco.good.value (hca ▸ hco.time) (hck ▸ hco.know)
 rw [hb0]
 refine aV zc123 (fun b14=>aS 0 ty123 U U U U U U (aD ?_))
 refine aR (ay (fX HW U (cJ 2 ty3 U U U U U U (aD ?_))))
 refine eI 0 U hM (fun g1 l1 f14=>eI 2 U hM (fun g2 l2 f11=>eI 2 U hM (fun g3 l3 f10=>eI 2 U hM (fun g4 l4 f8=>eI 2 U hM (fun g5 l5 f7=>eI 2 U hM (fun g6 l6 f6=>?_))))))
 have a14:=(ct f14).mono (HF.le_trans l2 (HF.le_trans l3 (HF.le_trans l4 (HF.le_trans l5 l6))))
 have a11:=(ct f11).mono (HF.le_trans l3 (HF.le_trans l4 (HF.le_trans l5 l6)))
 have a10:=(ct f10).mono (HF.le_trans l4 (HF.le_trans l5 l6))
 have a8:=(ct f8).mono (HF.le_trans l5 l6)
 have a7:=(ct f7).mono l6
 have a6:=ct f6
 have l56:h5.le g6:=HF.le_trans l1 (HF.le_trans l2 (HF.le_trans l3 (HF.le_trans l4 (HF.le_trans l5 l6))))
 have l06:h1.le g6:=HF.le_trans hle2 (HF.le_trans hle5 l56)
 have okg:=okc.mono l56
 have okr:=jF.mono l06
 have hsg6:=hsigned.mono Rp.aY l06
 have hu6:=hu.mono Use.ao l06
 have hk6:=hk.mono l06
 clear f14 f11 f10 f8 f7 f6
 show TT _ _ _ _ _ _ _ _ g6 [(b13,Obj.cells (List.toArray [.int .i64 0]) 37 (0,0)),(b12,verO 0 (-1) none 0 0 none 0 0)]
 refine aR (aR (ay (aF (et U U (aF (fw (cells:=[.int .i64 1,.func (.func 54) #[] #[.pointer (some ⟨b14,0,none⟩),.pointer (some ⟨b7,0,none⟩)]]) (places:=[(0,1),(1,1)]) IX zc126 (by kernel_rfl) (by kernel_rfl) (aF (et U U (aF (fw (cells:=[.int .i64 2,.func (.func 56) #[] #[.pointer (some ⟨b14,0,none⟩),.pointer (some ⟨b7,0,none⟩)]]) (places:=[(0,1),(1,1)]) IX zc126 (by kernel_rfl) (by kernel_rfl) (aF (et U U (aF (fw (cells:=[.int .i64 3,.func (.func 58) #[] #[.pointer (some ⟨b14,0,none⟩),.pointer (some ⟨b12,0,none⟩)]]) (places:=[(0,1),(1,1)]) IX zc126 (by kernel_rfl) (by kernel_rfl) (aF (et U U (aF (fw (cells:=[.int .i64 4,.func (.func 60) #[] #[.pointer (some ⟨b6,0,none⟩),.pointer (some ⟨b8,0,none⟩),.pointer (some ⟨b14,0,none⟩),.pointer (some ⟨b10,0,none⟩),.pointer (some ⟨b11,0,none⟩),.pointer (some ⟨b12,0,none⟩)]]) (places:=[(0,1),(1,1)]) IX zc126 (by kernel_rfl) (by kernel_rfl) (?_)))))))))))))))))))
 refine aF (bV (cells:=[.int .i64 1,.func (.func 54) #[] #[.pointer (some ⟨b14,0,none⟩),.pointer (some ⟨b7,0,none⟩)],.int .i64 2,.func (.func 56) #[] #[.pointer (some ⟨b14,0,none⟩),.pointer (some ⟨b7,0,none⟩)],.int .i64 3,.func (.func 58) #[] #[.pointer (some ⟨b14,0,none⟩),.pointer (some ⟨b12,0,none⟩)],.int .i64 4,.func (.func 60) #[] #[.pointer (some ⟨b6,0,none⟩),.pointer (some ⟨b8,0,none⟩),.pointer (some ⟨b14,0,none⟩),.pointer (some ⟨b10,0,none⟩),.pointer (some ⟨b11,0,none⟩),.pointer (some ⟨b12,0,none⟩)]]) Ew ty126 zc126 U U (by kernel_rfl) (fun b15=>Bf Ew U (aj (aD ?_))))
 have ret:∀ (hh:HF) (V:gu) (vb:Option Addr) (vc:Nat) (wb:Option Addr) (wc:Nat) (B:LH) (e:Env) (k:List Item),judgeC c bL signed u fC known=V→SlC Rp.int hh vb vc V.Versions→SlC Rp.int hh wb wc V.Who→e 12=.pointer (some ⟨b12,0,none⟩)→e 13=.pointer (some ⟨b13,0,none⟩) →
   TT prog (bodyFrame 11) 69 (.code .ret::k) (kG prog X (fun x h' B=>B=[]∧∃ v,x=.returned v∧(fun v h'=>∃ rr0:ql,v=.tuple #[.agg (gu.cells (eA bL signed u doc fC known).1 rr0).toArray,.int .i64 ((eA bL signed u doc fC known).2)]∧gu.ok h' (eA bL signed u doc fC known).1 rr0) v h')) e [{ target:=.fn (.func 50) #[],args:=List.toArray [.pointer (some ⟨b13,0,none⟩)] }] X hh ((b13,Obj.cells (List.toArray [.int .i64 0]) 37 (0,0))::(b12,verO V.State V.Budget vb V.Versions.length vc wb V.Who.length wc)::B):=by
  intro hh V vb vc wb wc B e k hv h1 h2 h12 h13
  refine EG (c:=bodyOf Tryz.f50) (cap:=[.pointer (some ⟨b13,0,none⟩)]) (A:=[(b13,Obj.cells (List.toArray [.int .i64 0]) 37 (0,0))]) (R':=fun h'' B=>h''=hh∧B=[(b13,Obj.cells (List.toArray [.int .i64 0]) 37 (0,0))]) func11 CZ U GY U GX (fun X' _=>Ch hh b13 0 X') U ?_
  rintro h'' B2 _ ⟨rfl,rfl⟩ a ha w hw
  exact fin _ V vb vc wb wc 0 B e (by rw [hj,hv]) h1 h2 h12 h13 a ha w hw
 refine ie (An ?_)
 refine aR (ay (aw (v':=.bool true) U U (aD (aR (iq U (aJ (aR (ie ?_))))))))
 refine aR (ay (aF (fg (yR (i:=0) Ew ty126 U U (by omega)) (cW 0 ty126 U U U (aV zc126 (fun c0=>aS 0 ty126 U U U U U U (aD ?_)))))))
 refine aR (ay (fX xx U (kl 0 ty33 U U U ?_)))
 refine aF (kH (v:=.bool (fY c signed)) [] (List.nil_sublist _) (iu (cap:=[.pointer (some ⟨b14,0,none⟩),.pointer (some ⟨b7,0,none⟩)]) call54 (ym g6 c cr ⟨b14,0,none⟩ signed ec dZ ⟨b7,0,none⟩ okg a14 hsg6 a7 hsc hco hlc hsg)) U U (aD ?_))
 refine jG U (fun k1=>?_) (fun k1=>?_)
 ·refine aR (ay (fX xy U (kl 0 ty3 U U U (fX xw U (cJ 3 ty3 U U U U U U (aD ?_))))))
  refine aR (ay (cW 3 ty36 U U U (aS 3 ty36 U U U U U U (cJ 2 ty37 U U U U U U (aD ?_)))))
  refine bB (.cons _ (.cons _ (List.Sublist.refl _))) ?_
  exact ret g6 ⟨1,-1,[],[]⟩ none 0 none 0 [] _ _ (by unfold judgeC;rw [show fY c signed=true from k1];rfl) SlC.nil SlC.nil U U
 replace k1:fY c signed=false:=k1
 have hat:c.doc.At≤c.at_:=IJ k1
 refine aJ (da (ay (aw (v':=.int .i64 1) U U (aj (aD (wL ?_))))))
 refine bB (.cons _ (List.Sublist.refl _)) ?_
 refine aR (ay (aw (v':=.bool true) U U (aD (aR (iq U (aJ (aR (ie ?_))))))))
 refine aR (ay (aF (fg (yR (i:=1) Ew ty126 U U (by omega)) (cW 0 ty126 U U U (aV zc126 (fun c1=>aS 0 ty126 U U U U U U (aD ?_)))))))
 refine aR (ay (fX xx U (kl 0 ty33 U U U ?_)))
 refine aF (kH (v:=.bool (iv c signed)) [] (List.nil_sublist _) (iu (cap:=[.pointer (some ⟨b14,0,none⟩),.pointer (some ⟨b7,0,none⟩)]) call56 (yl g6 c cr ⟨b14,0,none⟩ signed ec dZ ⟨b7,0,none⟩ okg a14 hsg6 a7 hsc hco hlc hsg)) U U (aD ?_))
 refine jG U (fun k2=>?_) (fun k2=>?_)
 ·refine aR (ay (fX xy U (kl 0 ty3 U U U (fX xw U (cJ 3 ty3 U U U U U U (aD ?_))))))
  refine aR (ay (cW 3 ty36 U U U (aS 3 ty36 U U U U U U (cJ 2 ty37 U U U U U U (aD ?_)))))
  refine bB (.cons _ (.cons _ (List.Sublist.refl _))) ?_
  exact ret g6 ⟨2,-1,[],[]⟩ none 0 none 0 [] _ _ (by unfold judgeC;rw [k1,show iv c signed=true from k2];rfl) SlC.nil SlC.nil U U
 replace k2:iv c signed=false:=k2
 refine aJ (da (ay (aw (v':=.int .i64 2) U U (aj (aD (wL ?_))))))
 refine bB (.cons _ (List.Sublist.refl _)) ?_
 refine aR (ay (aw (v':=.bool true) U U (aD (aR (iq U (aJ (aR (ie ?_))))))))
 refine aR (ay (aF (fg (yR (i:=2) Ew ty126 U U (by omega)) (cW 0 ty126 U U U (aV zc126 (fun c2=>aS 0 ty126 U U U U U U (aD ?_)))))))
 refine aR (ay (fX xx U (kl 0 ty33 U U U ?_)))
 refine aF (wU [(c2,Obj.cells (List.toArray [.int .i64 3,.func (.func 58) #[] #[.pointer (some ⟨b14,0,none⟩),.pointer (some ⟨b12,0,none⟩)]]) 126 (0,0)),(b15,Obj.cells (List.toArray [.int .i64 1,.func (.func 54) #[] #[.pointer (some ⟨b14,0,none⟩),.pointer (some ⟨b7,0,none⟩)],.int .i64 2,.func (.func 56) #[] #[.pointer (some ⟨b14,0,none⟩),.pointer (some ⟨b7,0,none⟩)],.int .i64 3,.func (.func 58) #[] #[.pointer (some ⟨b14,0,none⟩),.pointer (some ⟨b12,0,none⟩)],.int .i64 4,.func (.func 60) #[] #[.pointer (some ⟨b6,0,none⟩),.pointer (some ⟨b8,0,none⟩),.pointer (some ⟨b14,0,none⟩),.pointer (some ⟨b10,0,none⟩),.pointer (some ⟨b11,0,none⟩),.pointer (some ⟨b12,0,none⟩)]]) 126 (0,0)),(b13,Obj.cells (List.toArray [.int .i64 0]) 37 (0,0))] [(b12,verO 0 (-1) none 0 0 none 0 0)] rfl (lT (args:=[]) (cap:=[.pointer (some ⟨b14,0,none⟩),.pointer (some ⟨b12,0,none⟩)]) call58 (GE g6 c cr ⟨b14,0,none⟩ b12 0 (-1) okg a14 hsc hco hat hk6)) rfl rfl (fun v7 h7 B7 l7 hR=>?_) (fun ch h7 B7 l7 hR=>by obtain ⟨_,_,_,_,_,hr,_⟩:=hR;cases hr))
 obtain ⟨vb,vc,wb,wc,G,hr,rfl,sv7,gw⟩:=hR
 cases hr
 refine aD (gL Rp.aY ([(c2,Obj.cells (List.toArray [.int .i64 3,.func (.func 58) #[] #[.pointer (some ⟨b14,0,none⟩),.pointer (some ⟨b12,0,none⟩)]]) 126 (0,0)),(b15,Obj.cells (List.toArray [.int .i64 1,.func (.func 54) #[] #[.pointer (some ⟨b14,0,none⟩),.pointer (some ⟨b7,0,none⟩)],.int .i64 2,.func (.func 56) #[] #[.pointer (some ⟨b14,0,none⟩),.pointer (some ⟨b7,0,none⟩)],.int .i64 3,.func (.func 58) #[] #[.pointer (some ⟨b14,0,none⟩),.pointer (some ⟨b12,0,none⟩)],.int .i64 4,.func (.func 60) #[] #[.pointer (some ⟨b6,0,none⟩),.pointer (some ⟨b8,0,none⟩),.pointer (some ⟨b14,0,none⟩),.pointer (some ⟨b10,0,none⟩),.pointer (some ⟨b11,0,none⟩),.pointer (some ⟨b12,0,none⟩)]]) 126 (0,0)),(b13,Obj.cells (List.toArray [.int .i64 0]) 37 (0,0))]++[(b12,verO 0 (-1) vb (askJ c).1.length vc wb (askAll c).length wc)]) G [] (by rw [List.append_nil];rfl) hM gw (fun h8 l8 sw=>?_))
 have sv:=sv7.mono Rp.aY l8
 have l68:g6.le h8:=HF.le_trans l7 l8
 refine cu (L':=[(c2,Obj.cells (List.toArray [.int .i64 3,.func (.func 58) #[] #[.pointer (some ⟨b14,0,none⟩),.pointer (some ⟨b12,0,none⟩)]]) 126 (0,0)),(b15,Obj.cells (List.toArray [.int .i64 1,.func (.func 54) #[] #[.pointer (some ⟨b14,0,none⟩),.pointer (some ⟨b7,0,none⟩)],.int .i64 2,.func (.func 56) #[] #[.pointer (some ⟨b14,0,none⟩),.pointer (some ⟨b7,0,none⟩)],.int .i64 3,.func (.func 58) #[] #[.pointer (some ⟨b14,0,none⟩),.pointer (some ⟨b12,0,none⟩)],.int .i64 4,.func (.func 60) #[] #[.pointer (some ⟨b6,0,none⟩),.pointer (some ⟨b8,0,none⟩),.pointer (some ⟨b14,0,none⟩),.pointer (some ⟨b10,0,none⟩),.pointer (some ⟨b11,0,none⟩),.pointer (some ⟨b12,0,none⟩)]]) 126 (0,0)),(b13,Obj.cells (List.toArray [.int .i64 0]) 37 (0,0)),(b12,verO 0 (-1) vb (askJ c).1.length vc wb (askAll c).length wc)]) (by rw [List.append_nil];rfl) ?_
 refine jG U (fun k3=>?_) (fun k3=>?_)
 ·refine aR (ay (fX xy U (kl 0 ty3 U U U (fX xw U (cJ 3 ty3 U U U U U U (aD ?_))))))
  refine aR (ay (cW 3 ty36 U U U (aS 3 ty36 U U U U U U (cJ 2 ty37 U U U U U U (aD ?_)))))
  refine bB (.cons _ (.cons _ (List.Sublist.refl _))) ?_
  exact ret h8 ⟨3,-1,(askJ c).1,askAll c⟩ vb vc wb wc [] _ _ (by unfold judgeC;rw [k1,k2,show (!(gK c))=true from k3];rfl) sv sw U U
 replace k3:(!(gK c))=false:=k3
 refine aJ (da (ay (aw (v':=.int .i64 3) U U (aj (aD (wL ?_))))))
 refine bB (.cons _ (List.Sublist.refl _)) ?_
 refine aR (ay (aw (v':=.bool true) U U (aD (aR (iq U (aJ (aR (ie ?_))))))))
 refine aR (ay (aF (fg (yR (i:=3) Ew ty126 U U (by omega)) (cW 0 ty126 U U U (aV zc126 (fun c3=>aS 0 ty126 U U U U U U (aD ?_)))))))
 refine aR (ay (fX xx U (kl 0 ty33 U U U ?_)))
 refine aF (wU [(c3,Obj.cells (List.toArray [.int .i64 4,.func (.func 60) #[] #[.pointer (some ⟨b6,0,none⟩),.pointer (some ⟨b8,0,none⟩),.pointer (some ⟨b14,0,none⟩),.pointer (some ⟨b10,0,none⟩),.pointer (some ⟨b11,0,none⟩),.pointer (some ⟨b12,0,none⟩)]]) 126 (0,0)),(b15,Obj.cells (List.toArray [.int .i64 1,.func (.func 54) #[] #[.pointer (some ⟨b14,0,none⟩),.pointer (some ⟨b7,0,none⟩)],.int .i64 2,.func (.func 56) #[] #[.pointer (some ⟨b14,0,none⟩),.pointer (some ⟨b7,0,none⟩)],.int .i64 3,.func (.func 58) #[] #[.pointer (some ⟨b14,0,none⟩),.pointer (some ⟨b12,0,none⟩)],.int .i64 4,.func (.func 60) #[] #[.pointer (some ⟨b6,0,none⟩),.pointer (some ⟨b8,0,none⟩),.pointer (some ⟨b14,0,none⟩),.pointer (some ⟨b10,0,none⟩),.pointer (some ⟨b11,0,none⟩),.pointer (some ⟨b12,0,none⟩)]]) 126 (0,0)),(b13,Obj.cells (List.toArray [.int .i64 0]) 37 (0,0))] [(b12,verO 0 (-1) vb (askJ c).1.length vc wb (askAll c).length wc)] U (lT (args:=[]) (cap:=[.pointer (some ⟨b6,0,none⟩),.pointer (some ⟨b8,0,none⟩),.pointer (some ⟨b14,0,none⟩),.pointer (some ⟨b10,0,none⟩),.pointer (some ⟨b11,0,none⟩),.pointer (some ⟨b12,0,none⟩)]) call60 (GD h8 bL ga ⟨b6,0,none⟩ u zR zQ ⟨b8,0,none⟩ c cr ⟨b14,0,none⟩ fC known ⟨b10,0,none⟩ ⟨b11,0,none⟩ b12 0 (-1) vb (askJ c).1.length vc wb (askAll c).length wc (okr.mono l68) (a6.mono l68) (hu6.mono Use.ao l68) (a8.mono l68) (a14.mono l68) (a10.mono l68) (a11.mono l68) hsm hroom)) U U (fun v9 h9 B9 l9 hR=>?_) (fun ch h9 B9 l9 hR=>by cases hR.1))
 obtain ⟨hr,rfl,rfl⟩:=hR
 cases hr
 refine aD (jG U (fun k4=>?_) (fun k4=>?_))
 ·refine cu (L':=[(c3,Obj.cells (List.toArray [.int .i64 4,.func (.func 60) #[] #[.pointer (some ⟨b6,0,none⟩),.pointer (some ⟨b8,0,none⟩),.pointer (some ⟨b14,0,none⟩),.pointer (some ⟨b10,0,none⟩),.pointer (some ⟨b11,0,none⟩),.pointer (some ⟨b12,0,none⟩)]]) 126 (0,0)),(b15,Obj.cells (List.toArray [.int .i64 1,.func (.func 54) #[] #[.pointer (some ⟨b14,0,none⟩),.pointer (some ⟨b7,0,none⟩)],.int .i64 2,.func (.func 56) #[] #[.pointer (some ⟨b14,0,none⟩),.pointer (some ⟨b7,0,none⟩)],.int .i64 3,.func (.func 58) #[] #[.pointer (some ⟨b14,0,none⟩),.pointer (some ⟨b12,0,none⟩)],.int .i64 4,.func (.func 60) #[] #[.pointer (some ⟨b6,0,none⟩),.pointer (some ⟨b8,0,none⟩),.pointer (some ⟨b14,0,none⟩),.pointer (some ⟨b10,0,none⟩),.pointer (some ⟨b11,0,none⟩),.pointer (some ⟨b12,0,none⟩)]]) 126 (0,0)),(b13,Obj.cells (List.toArray [.int .i64 0]) 37 (0,0)),(b12,verO 0 (judgeRoom c bL u fC known).1 vb (askJ c).1.length vc wb (askAll c).length wc)]) (by rw [show (!(judgeRoom c bL u fC known).2.1)=true from k4];rfl) ?_
  refine aR (ay (fX xy U (kl 0 ty3 U U U (fX xw U (cJ 3 ty3 U U U U U U (aD ?_))))))
  refine aR (ay (cW 3 ty36 U U U (aS 3 ty36 U U U U U U (cJ 2 ty37 U U U U U U (aD ?_)))))
  refine bB (.cons _ (.cons _ (List.Sublist.refl _))) ?_
  exact ret h9 ⟨4,(judgeRoom c bL u fC known).1,(askJ c).1,askAll c⟩ vb vc wb wc [] _ _ (by unfold judgeC;rw [k1,k2,k3,show (!(judgeRoom c bL u fC known).2.1)=true from k4];rfl) sv sw U U
 replace k4:(!(judgeRoom c bL u fC known).2.1)=false:=k4
 refine cu (L':=[(c3,Obj.cells (List.toArray [.int .i64 4,.func (.func 60) #[] #[.pointer (some ⟨b6,0,none⟩),.pointer (some ⟨b8,0,none⟩),.pointer (some ⟨b14,0,none⟩),.pointer (some ⟨b10,0,none⟩),.pointer (some ⟨b11,0,none⟩),.pointer (some ⟨b12,0,none⟩)]]) 126 (0,0)),(b15,Obj.cells (List.toArray [.int .i64 1,.func (.func 54) #[] #[.pointer (some ⟨b14,0,none⟩),.pointer (some ⟨b7,0,none⟩)],.int .i64 2,.func (.func 56) #[] #[.pointer (some ⟨b14,0,none⟩),.pointer (some ⟨b7,0,none⟩)],.int .i64 3,.func (.func 58) #[] #[.pointer (some ⟨b14,0,none⟩),.pointer (some ⟨b12,0,none⟩)],.int .i64 4,.func (.func 60) #[] #[.pointer (some ⟨b6,0,none⟩),.pointer (some ⟨b8,0,none⟩),.pointer (some ⟨b14,0,none⟩),.pointer (some ⟨b10,0,none⟩),.pointer (some ⟨b11,0,none⟩),.pointer (some ⟨b12,0,none⟩)]]) 126 (0,0)),(b13,Obj.cells (List.toArray [.int .i64 0]) 37 (0,0)),(b12,verO 0 (-1) vb (askJ c).1.length vc wb (askAll c).length wc)]) (by rw [k4];rfl) ?_
 refine aJ (da (ay (aw (v':=.int .i64 4) U U (aj (aD (wL ?_))))))
 refine bB (.cons _ (List.Sublist.refl _)) ?_
 refine aR (ay (aw (v':=.bool false) U U (aD (aR (kL U (kv U ?_))))))
 refine aR (ay (fX xw U (cJ 2 ty3 U U U U U U (aD ?_))))
 refine aR (ay (cW 2 ty36 U U U (aS 2 ty36 U U U U U U (cJ 1 ty37 U U U U U U (aD ?_)))))
 refine bB (.cons _ (List.Sublist.refl _)) ?_
 exact ret h9 ⟨0,-1,(askJ c).1,askAll c⟩ vb vc wb wc [] _ _ (by unfold judgeC;rw [k1,k2,k3,k4];rfl) sv sw U U
theorem wZ (h:HF) (a:List Int) (MH:Option Addr) (MG:Nat) (jt:List Int) (Cj:Option Addr) (Ci:Nat) (ha:SlC Rp.int h MH MG a) (vu:SlC Rp.int h Cj Ci jt):Ret prog 18 [.slice MH a.length MG,.slice Cj jt.length Ci] h (.bool (iP a jt)):=by
 refine sT func18 U ntmps18 U fun X hM hX hF=>?_
 have hs0:iP a jt=iP a jt:=rfl
 refine qK 13 [] U (ai hs0 U (fun c1 hs1=>?_) (fun c1 hs2=>?_))
 ·exact sr (an (nretP [.bool false] (cs hs1)))
 refine qT 6 U ?_
 refine lp0 a (fun i=>[(0,.slice MH a.length MG),(1,.slice Cj jt.length Ci),(5,I (i:Int))]) ([]) (fun s1 i=>(iP.L1 jt (iP.K1)) s1 i) ha.1.1 hs2 ?_ ?_ ?_
 ·rintro i1 fA hs4 e
  exact sr (an (nretP [.bool true] (cs hs4)))
 ·rintro i1 y1 rz1 hd1 dx aL eH hO hs6 hx1 ag1 e
  refine qK 6 [] U (aw (v':=.bool true) U (cb dx) (qO 6 U (eQ ([]) mixed kr jn (fun dH _=>qA [0,1] U (fW 2 (enc:=fun y=>[I y]) dH jn ei fa ty3 ha.1 (nthZ aL) (ba aL) U U U U kr (fun q3 A3=>tf 3 U U (fun _ _ hj=>eV ty3 (A3.mono hj.1) U) (qA [4,5] U ?_)))))))
  have ho2:0≤((i1:Int):Int)∧((i1:Int):Int) < ((jt).length:Int):=ob
  refine fW 6 (enc:=fun y=>[I y]) dH jn ei fa ty3 vu.1 ho2 (dU ho2) U U U U kr (fun q4 A4=>tf 7 U U (fun _ _ hj=>eV ty3 (A4.mono hj.1) U) (qA [8] U (aW kr (ai hs6 U (fun c3 hs7=>?_) (fun c3 hs8=>?_)))))
  ·exact sr (an (nretP [.bool false] (cs hs7)))
  exact aJ (qT 3 U (aw (v':=I (((i1+1):Nat):Int)) U (bw ob) (an (ag1 hs8))))
 rintro i1 hd1 il hx e
 exact qK 6 [] U (aw (v':=.bool false) U (cb il) (qO 3 U (hx _ rd)))
theorem Bs (h:HF)   : jN prog 122 [] h (fun v h'=>∃ (rr0:el),v=.agg (Policy.cells (cq) rr0).toArray∧Policy.ok h' (cq) rr0):=by
 refine cz func122 U ntmps122 U fun X hM hX=>?_
 have hs0:cq=cq:=rfl
 refine sr (aV zc64 (fun b1=>qO 3 U (aF (fw (cells:=[I 1,I 0,I 0,.string (⟨#[100,105,114,101,99,116,111,114]⟩:ByteArray),.slice none 0 0]) (places:=[(0,1),(1,1),(2,1),(3,1),(4,1)]) underlying62 zc62 kr kr (aV zc62 (fun b2=>aS 0 ty62 U U U U U U (qO 3 U (aF (bV (cells:=[.string (⟨#[99,111,110,116,114,97,99,116]⟩:ByteArray)]) xQ ty9 zc9 U U kr (fun b3=>aF (bV (cells:=[.string (⟨#[100,105,114,101,99,116,111,114]⟩:ByteArray)]) xQ ty9 zc9 U U kr (fun b4=>cW 2 ty62 U U U (aF (fw (cells:=[.string (⟨#[99,111,110,116,114,97,99,116]⟩:ByteArray),I 0,I 3,I 1,I 0,I 0,.string (⟨#[100,105,114,101,99,116,111,114]⟩:ByteArray),.slice none 0 0]) (places:=[(0,1),(1,1),(2,1),(3,5)]) underlying79 zc79 kr kr (aF (bV (cells:=[.string (⟨#[99,111,110,116,114,97,99,116]⟩:ByteArray),I 0,I 3,I 1,I 0,I 0,.string (⟨#[100,105,114,101,99,116,111,114]⟩:ByteArray),.slice none 0 0]) si ty79 zc79 U U kr (fun b5=>cW 3 ty62 U U U (aF (fw (cells:=[.string (⟨#[98,111,97,114,100]⟩:ByteArray),.slice (some ⟨b3,0,none⟩) 1 1,.slice (some ⟨b4,0,none⟩) 1 1,.slice (some ⟨b5,0,none⟩) 1 1,I 1,I 0,I 0,.string (⟨#[100,105,114,101,99,116,111,114]⟩:ByteArray),.slice none 0 0,I 2]) (places:=[(0,1),(1,1),(2,1),(3,1),(4,5),(9,1)]) Hi zc64 kr kr (aS 4 ty64 U U U U U U (aD (eI 2 U hM (fun h1 hle1 hb1=>?_)))))))))))))))))))))))
 have sl1:SlC Rp.str h1 (some ⟨b3,0,none⟩) 1 ([(⟨#[99,111,110,116,114,97,99,116]⟩:ByteArray)]):=bu.slB0 (T:=9) (fz:=(0,0)) ((show bu Rp.str h [.string (⟨#[99,111,110,116,114,97,99,116]⟩:ByteArray)] ([(⟨#[99,111,110,116,114,97,99,116]⟩:ByteArray)]) from ⟨[.string (⟨#[99,111,110,116,114,97,99,116]⟩:ByteArray)],[],rfl,rfl,rfl,rfl⟩).mono Rp.gX hle1) hb1
 refine eI 1 U hM (fun h2 hle2 hb2=>?_)
 have sl2:SlC Rp.str h2 (some ⟨b4,0,none⟩) 1 ([(⟨#[100,105,114,101,99,116,111,114]⟩:ByteArray)]):=bu.slB0 (T:=9) (fz:=(0,0)) ((show bu Rp.str h1 [.string (⟨#[100,105,114,101,99,116,111,114]⟩:ByteArray)] ([(⟨#[100,105,114,101,99,116,111,114]⟩:ByteArray)]) from ⟨[.string (⟨#[100,105,114,101,99,116,111,114]⟩:ByteArray)],[],rfl,rfl,rfl,rfl⟩).mono Rp.gX hle2) hb2
 refine eI 0 U hM (fun h3 hle3 hb3=>?_)
 have sl3:SlC Rule.rp h3 (some ⟨b5,0,none⟩) 1 ([(Rule.mk (⟨#[99,111,110,116,114,97,99,116]⟩:ByteArray) 0 3 (Expr.mk 1 0 0 (⟨#[100,105,114,101,99,116,111,114]⟩:ByteArray) ([])))]):=bu.slB0 (T:=79) (fz:=(0,0)) ((show bu Rule.rp h2 [.string (⟨#[99,111,110,116,114,97,99,116]⟩:ByteArray),I 0,I 3,I 1,I 0,I 0,.string (⟨#[100,105,114,101,99,116,111,114]⟩:ByteArray),.slice none 0 0] ([(Rule.mk (⟨#[99,111,110,116,114,97,99,116]⟩:ByteArray) 0 3 (Expr.mk 1 0 0 (⟨#[100,105,114,101,99,116,111,114]⟩:ByteArray) ([])))]) from ⟨[.string (⟨#[99,111,110,116,114,97,99,116]⟩:ByteArray),I 0,I 3,I 1,I 0,I 0,.string (⟨#[100,105,114,101,99,116,111,114]⟩:ByteArray),.slice none 0 0],[],rfl,rfl,⟨(xP.mk (cG.mk none 0)),rfl,((show Rule.ok h (Rule.mk (⟨#[99,111,110,116,114,97,99,116]⟩:ByteArray) 0 3 (Expr.mk 1 0 0 (⟨#[100,105,114,101,99,116,111,114]⟩:ByteArray) ([]))) (xP.mk (cG.mk none 0)) from ⟨(show Expr.ok h (Expr.mk 1 0 0 (⟨#[100,105,114,101,99,116,111,114]⟩:ByteArray) ([])) (cG.mk none 0) from Expr.ok.of SlC.nil)⟩).mono (hle1.t hle2))⟩,rfl⟩).mono Rule.ao hle3) hb3
 have hs1:cq=(Policy.mk (⟨#[98,111,97,114,100]⟩:ByteArray) ([(⟨#[99,111,110,116,114,97,99,116]⟩:ByteArray)]) ([(⟨#[100,105,114,101,99,116,111,114]⟩:ByteArray)]) ([(Rule.mk (⟨#[99,111,110,116,114,97,99,116]⟩:ByteArray) 0 3 (Expr.mk 1 0 0 (⟨#[100,105,114,101,99,116,111,114]⟩:ByteArray) ([])))]) (Expr.mk 1 0 0 (⟨#[100,105,114,101,99,116,111,114]⟩:ByteArray) ([])) 2):=hs0
 exact jd [.agg (List.toArray [.string (⟨#[98,111,97,114,100]⟩:ByteArray),.slice (some ⟨b3,0,none⟩) 1 1,.slice (some ⟨b4,0,none⟩) 1 1,.slice (some ⟨b5,0,none⟩) 1 1,I 1,I 0,I 0,.string (⟨#[100,105,114,101,99,116,111,114]⟩:ByteArray),.slice none 0 0,I 2])] func122 U ⟨⟨1,_,_,_,_,U,U,.inl ⟨ty64,U⟩⟩,trivial⟩ ⟨(el.mk (some ⟨b3,0,none⟩) 1 (some ⟨b4,0,none⟩) 1 (some ⟨b5,0,none⟩) 1 (cG.mk none 0)),congrArg (fun r:Policy=>(.agg (Policy.cells r (el.mk (some ⟨b3,0,none⟩) 1 (some ⟨b4,0,none⟩) 1 (some ⟨b5,0,none⟩) 1 (cG.mk none 0))).toArray:Value)) hs1.symm,(by rw [hs1];exact (show Policy.ok h3 (Policy.mk (⟨#[98,111,97,114,100]⟩:ByteArray) ([(⟨#[99,111,110,116,114,97,99,116]⟩:ByteArray)]) ([(⟨#[100,105,114,101,99,116,111,114]⟩:ByteArray)]) ([(Rule.mk (⟨#[99,111,110,116,114,97,99,116]⟩:ByteArray) 0 3 (Expr.mk 1 0 0 (⟨#[100,105,114,101,99,116,111,114]⟩:ByteArray) ([])))]) (Expr.mk 1 0 0 (⟨#[100,105,114,101,99,116,111,114]⟩:ByteArray) ([])) 2) (el.mk (some ⟨b3,0,none⟩) 1 (some ⟨b4,0,none⟩) 1 (some ⟨b5,0,none⟩) 1 (cG.mk none 0)) from ⟨(sl1.mono Rp.gX (hle2.t hle3)),(sl2.mono Rp.gX hle3),sl3,(show Expr.ok h3 (Expr.mk 1 0 0 (⟨#[100,105,114,101,99,116,111,114]⟩:ByteArray) ([])) (cG.mk none 0) from Expr.ok.of SlC.nil)⟩))⟩
theorem gl (h:HF):mP prog 47 (List.toArray []) h [] (fun r h' B=>∃ (bk:Nat) (db:Option Addr) (dc:Nat) (vb:Option Addr) (vc:Nat) (ob:Option Addr) (oc:Nat) (ab:Option Addr) (ac:Nat),r=.returned (.agg (List.toArray [.slice (some ⟨bk,0,none⟩) 1 1,.slice db 1 dc,.slice none 0 0,.slice none 0 0,.slice vb 1 vc,.slice ob 1 oc,.slice ab 1 ac]))∧B=[(bk,O [I 0,I 0,I 0,I 0,I 2,I 1,.bool false] 89)]∧SlC Deputy.rp h' db dc aA.Deputies∧SlC Version.rp h' vb vc aA.Versions∧SlC Document.rp h' ob oc aA.Docs∧SlC Approval.rp h' ab ac aA.Approvals):=by
 refine cz func47 U ntmps47 U fun X hM hX=>?_
 have hs0:aA=aA:=rfl
 refine sr (aV zc30 (fun b1=>qO 3 U (aF (fw (cells:=[I 0,I 0,I 0,I 0,I 2,I 1,.bool false]) (places:=[(0,1),(1,1),(2,1),(3,1),(4,1),(5,1),(6,1)]) underlying89 zc89 kr kr (aF (bV (cells:=[I 0,I 0,I 0,I 0,I 2,I 1,.bool false]) Al ty89 zc89 U U kr (fun b2=>aF (cY call122 (Bs h) U (fun v1 h1 hle1 hp1=>?_)))))))))
 obtain ⟨rr1,rfl,ok1⟩:=hp1
 refine aF (fw (cells:=[I 1,I 0,I 0,.string cq.Name,.slice rr1.iA cq.Kinds.length rr1.iz,.slice rr1.fO cq.Offices.length rr1.fN,.slice rr1.lv cq.Rules.length rr1.lu,I cq.Change.Kind,I cq.Change.N,I cq.Change.No,.string cq.Change.Name,.slice rr1.Change.jB cq.Change.L.length rr1.Change.jC,I cq.Mode]) (places:=[(0,1),(1,1),(2,1),(3,10)]) underlying105 zc105 kr kr (aF (bV (cells:=[I 1,I 0,I 0,.string cq.Name,.slice rr1.iA cq.Kinds.length rr1.iz,.slice rr1.fO cq.Offices.length rr1.fN,.slice rr1.lv cq.Rules.length rr1.lu,I cq.Change.Kind,I cq.Change.N,I cq.Change.No,.string cq.Change.Name,.slice rr1.Change.jB cq.Change.L.length rr1.Change.jC,I cq.Mode]) vf ty105 zc105 U U kr (fun b3=>aF (fw (cells:=[.slice (some ⟨b2,0,none⟩) 1 1,.slice none 0 0,.slice none 0 0,.slice none 0 0,.slice (some ⟨b3,0,none⟩) 1 1,.slice none 0 0,.slice none 0 0]) (places:=[(0,1),(1,1),(2,1),(3,1),(4,1),(5,1),(6,1)]) Jp zc30 kr kr (aV zc30 (fun b4=>aS 0 ty30 U U U U U U (qO 3 U (aF (fw (cells:=[I 0,I 0,I 0,I 40,I 2,I 5,I 0,I (-1),I 100,.bool false]) (places:=[(0,1),(1,1),(2,1),(3,1),(4,1),(5,1),(6,1),(7,1),(8,1),(9,1)]) underlying93 zc93 kr kr (aF (bV (cells:=[I 0,I 0,I 0,I 40,I 2,I 5,I 0,I (-1),I 100,.bool false]) tJ ty93 zc93 U U kr (fun b5=>qL 1 [] U (cJ 1 ty23 U U U U U U (qO 3 U (aF (bV (cells:=[I 9]) fa ty3 zc3 U U kr (fun b6=>aF (fw (cells:=[I 7,I 1,I 0,I 60,I 0,I 50,.slice (some ⟨b6,0,none⟩) 1 1,.slice none 0 0,.slice none 0 0,Y 0,Y 0,Y 0,Y 0,Y 0,Y 0,Y 0,Y 0,Y 0,Y 0,Y 0,Y 0,Y 0,Y 0,Y 0,Y 0,Y 0,Y 0,Y 0,Y 0,Y 0,Y 0,Y 0,Y 0,Y 0,Y 0,Y 0,Y 0,Y 0,Y 0,Y 0,Y 0]) (places:=[(0,1),(1,1),(2,1),(3,1),(4,1),(5,1),(6,1),(7,1),(8,1),(9,32)]) underlying51 zc51 kr kr (aT 0 U hM (fun h2 hle2 hb1=>?_)))))))))))))))))))))
 have sl1:SlC Rp.int h2 (some ⟨b6,0,none⟩) 1 ([9]):=bu.slB0 (T:=3) (fz:=(0,0)) ((show bu Rp.int h1 [I 9] ([9]) from ⟨[I 9],[],rfl,rfl,rfl,rfl⟩).mono Rp.aY hle2) hb1
 refine aF (bV (cells:=[I 7,I 1,I 0,I 60,I 0,I 50,.slice (some ⟨b6,0,none⟩) 1 1,.slice none 0 0,.slice none 0 0,Y 0,Y 0,Y 0,Y 0,Y 0,Y 0,Y 0,Y 0,Y 0,Y 0,Y 0,Y 0,Y 0,Y 0,Y 0,Y 0,Y 0,Y 0,Y 0,Y 0,Y 0,Y 0,Y 0,Y 0,Y 0,Y 0,Y 0,Y 0,Y 0,Y 0,Y 0,Y 0]) oL ty51 zc51 U U kr (fun b7=>qL 1 [] U (cJ 2 ty27 U U U U U U (qO 3 U (aF (fw (cells:=[I 3,I 4,I 6,I 7,I 5,I 2,I 0,.bool false]) (places:=[(0,1),(1,1),(2,1),(3,1),(4,1),(5,1),(6,1),(7,1)]) underlying81 zc81 kr kr (aF (bV (cells:=[I 3,I 4,I 6,I 7,I 5,I 2,I 0,.bool false]) tI ty81 zc81 U U kr (fun b8=>qL 1 [] U (cJ 3 ty28 U U U U U U (qO 3 U (cW 3 ty30 U U U (aS 6 ty30 U U U U U U (aD ?_))))))))))))))
 have hle3:=HF.le_refl h2
 refine eI 2 U hM (fun h4 hle4 hb3=>?_)
 have sl3:SlC Deputy.rp h4 (some ⟨b5,0,none⟩) 1 ([(Deputy.mk 0 0 0 40 2 5 0 (-1) 100 false)]):=bu.slB0 (T:=93) (fz:=(0,0)) ((show bu Deputy.rp h2 [I 0,I 0,I 0,I 40,I 2,I 5,I 0,I (-1),I 100,.bool false] ([(Deputy.mk 0 0 0 40 2 5 0 (-1) 100 false)]) from ⟨[I 0,I 0,I 0,I 40,I 2,I 5,I 0,I (-1),I 100,.bool false],[],rfl,rfl,rfl,rfl⟩).mono Deputy.ao hle4) hb3
 refine eI 3 U hM (fun h5 hle5 hb4=>?_)
 have sl4:SlC Version.rp h5 (some ⟨b3,0,none⟩) 1 ([(Version.mk 1 0 0 cq)]):=bu.slB0 (T:=105) (fz:=(0,0)) ((show bu Version.rp h4 [I 1,I 0,I 0,.string cq.Name,.slice rr1.iA cq.Kinds.length rr1.iz,.slice rr1.fO cq.Offices.length rr1.fN,.slice rr1.lv cq.Rules.length rr1.lu,I cq.Change.Kind,I cq.Change.N,I cq.Change.No,.string cq.Change.Name,.slice rr1.Change.jB cq.Change.L.length rr1.Change.jC,I cq.Mode] ([(Version.mk 1 0 0 cq)]) from ⟨[I 1,I 0,I 0,.string cq.Name,.slice rr1.iA cq.Kinds.length rr1.iz,.slice rr1.fO cq.Offices.length rr1.fN,.slice rr1.lv cq.Rules.length rr1.lu,I cq.Change.Kind,I cq.Change.N,I cq.Change.No,.string cq.Change.Name,.slice rr1.Change.jB cq.Change.L.length rr1.Change.jC,I cq.Mode],[],rfl,rfl,⟨(nJ.mk rr1),rfl,((show Version.ok h1 (Version.mk 1 0 0 cq) (nJ.mk rr1) from ⟨ok1⟩).mono ((hle2.t hle3).t hle4))⟩,rfl⟩).mono Version.ao hle5) hb4
 refine eI 1 U hM (fun h6 hle6 hb5=>?_)
 have sl5:SlC Document.rp h6 (some ⟨b7,0,none⟩) 1 ([(Document.mk 7 1 0 60 0 50 ([9]) ([]) ([]) (fun _=>0))]):=bu.slB0 (T:=51) (fz:=(0,0)) ((show bu Document.rp h5 [I 7,I 1,I 0,I 60,I 0,I 50,.slice (some ⟨b6,0,none⟩) 1 1,.slice none 0 0,.slice none 0 0,Y 0,Y 0,Y 0,Y 0,Y 0,Y 0,Y 0,Y 0,Y 0,Y 0,Y 0,Y 0,Y 0,Y 0,Y 0,Y 0,Y 0,Y 0,Y 0,Y 0,Y 0,Y 0,Y 0,Y 0,Y 0,Y 0,Y 0,Y 0,Y 0,Y 0,Y 0,Y 0] ([(Document.mk 7 1 0 60 0 50 ([9]) ([]) ([]) (fun _=>0))]) from ⟨[I 7,I 1,I 0,I 60,I 0,I 50,.slice (some ⟨b6,0,none⟩) 1 1,.slice none 0 0,.slice none 0 0,Y 0,Y 0,Y 0,Y 0,Y 0,Y 0,Y 0,Y 0,Y 0,Y 0,Y 0,Y 0,Y 0,Y 0,Y 0,Y 0,Y 0,Y 0,Y 0,Y 0,Y 0,Y 0,Y 0,Y 0,Y 0,Y 0,Y 0,Y 0,Y 0,Y 0,Y 0,Y 0],[],rfl,rfl,⟨(jO.mk (some ⟨b6,0,none⟩) 1 none 0 none 0),rfl,((show Document.ok h2 (Document.mk 7 1 0 60 0 50 ([9]) ([]) ([]) (fun _=>0)) (jO.mk (some ⟨b6,0,none⟩) 1 none 0 none 0) from ⟨sl1,SlC.nil,SlC.nil⟩).mono ((hle3.t hle4).t hle5))⟩,rfl⟩).mono Document.ao hle6) hb5
 refine eI 0 U hM (fun h7 hle7 hb6=>?_)
 have sl6:SlC Approval.rp h7 (some ⟨b8,0,none⟩) 1 ([(Approval.mk 3 4 6 7 5 2 0 false)]):=bu.slB0 (T:=81) (fz:=(0,0)) ((show bu Approval.rp h6 [I 3,I 4,I 6,I 7,I 5,I 2,I 0,.bool false] ([(Approval.mk 3 4 6 7 5 2 0 false)]) from ⟨[I 3,I 4,I 6,I 7,I 5,I 2,I 0,.bool false],[],rfl,rfl,rfl,rfl⟩).mono Approval.ao hle7) hb6
 exact nY (v:=.agg (List.toArray [.slice (some ⟨b2,0,none⟩) 1 1,.slice (some ⟨b5,0,none⟩) 1 1,.slice none 0 0,.slice none 0 0,.slice (some ⟨b3,0,none⟩) 1 1,.slice (some ⟨b7,0,none⟩) 1 1,.slice (some ⟨b8,0,none⟩) 1 1])) (h2:=h7) (B:=[(b2,O [I 0,I 0,I 0,I 0,I 2,I 1,.bool false] 89)]) func47 (fun a ha w hw=>lk (rs:=[.cell 0 30]) (vs:=[.agg (List.toArray [.slice (some ⟨b2,0,none⟩) 1 1,.slice (some ⟨b5,0,none⟩) 1 1,.slice none 0 0,.slice none 0 0,.slice (some ⟨b3,0,none⟩) 1 1,.slice (some ⟨b7,0,none⟩) 1 1,.slice (some ⟨b8,0,none⟩) 1 1])]) U ⟨⟨2,_,_,_,_,U,U,.inl ⟨ty30,U⟩⟩,trivial⟩ a ha w hw) (fun w hw=>hw.sub (.cons _ (.cons_cons _ (.cons _ .slnil)))) ⟨b2,some ⟨b5,0,none⟩,1,some ⟨b3,0,none⟩,1,some ⟨b7,0,none⟩,1,some ⟨b8,0,none⟩,1,U,U,(sl3.mono Deputy.ao ((hle5.t hle6).t hle7)),(sl4.mono Version.ao (hle6.t hle7)),(sl5.mono Document.ao hle7),sl6⟩
theorem md (h:HF) (bL:Register) (ga:dI) (jR:Int) (state:Int) (jF:Register.ok h bL ga) (hsm:smR bL) (hln:bL.Docs.length < 20) (hk:Kinds h):Ret prog 48 [.agg (Register.cells bL ga).toArray,I jR,I state] h (.bool (Br bL jR state)):=by
 refine sT func48 U ntmps48 U fun X hM hX hF=>?_
 have hs0:Br bL jR state=Br bL jR state:=rfl
 refine sr (cA (fun b1=>qO 4 U (cW 0 ty30 U U U (aF (bV (cells:=[I (-1)]) fa ty3 zc3 U U kr (fun b2=>aj (aT 0 U hM (fun h1 hle1 hb1=>?_))))))))
 have sl1:SlC Rp.int h1 (some ⟨b2,0,none⟩) 1 ([(-1)]):=bu.slB0 (T:=3) (fz:=(0,0)) ((show bu Rp.int h [I (-1)] ([(-1)]) from ⟨[I (-1)],[],rfl,rfl,rfl,rfl⟩).mono Rp.aY hle1) hb1
 refine aF (cY GW (mf _ _ _ _ _ _ ([]) none 0 7 jR 100 (jF.mono hle1) sl1 SlC.nil ob ob (hk.mono hle1)) U (fun v1 h2 hle2 hp1=>?_))
 obtain ⟨rr1,rfl,ok1⟩:=hp1
 refine qO 3 U (aV zc36 (fun b3=>aS 0 ty36 U U U U U U (qO 7 U (bC 5 [18,19,20,21,22,23] 18 23 (((eA bL ([(-1)]) ([]) 7 jR 100).1).State==state) U (fun c1 hk1=>?_) (fun e=>?_)))))
 ·exact qL 5 [0] U (hk1 _ U)
 exact an (nretP [.bool (((eA bL ([(-1)]) ([]) 7 jR 100).2==0)&&(((eA bL ([(-1)]) ([]) 7 jR 100).1).State==state))] (cs hs0))
theorem CE (h:HF)  (hk:Kinds h):Ret prog 9 [] h (.bool (pR)):=by
 refine sT func9 U ntmps9 U fun X hM hX hF=>?_
 have hs0:pR=pR:=rfl
 refine qT 6 U (aF (fw (cells:=[.slice none 0 0,.slice none 0 0,.slice none 0 0,.slice none 0 0,.slice none 0 0,.slice none 0 0,.slice none 0 0]) (places:=[(0,1),(1,1),(2,1),(3,1),(4,1),(5,1),(6,1)]) Jp zc30 kr kr (aF (cY GW (mf h (Register.mk ([]) ([]) ([]) ([]) ([]) ([]) ([])) (dI.mk none 0 none 0 none 0 none 0 none 0 none 0 none 0) ([]) none 0 ([]) none 0 0 0 0 (show Register.ok h (Register.mk ([]) ([]) ([]) ([]) ([]) ([]) ([])) (dI.mk none 0 none 0 none 0 none 0 none 0 none 0 none 0) from ⟨SlC.nil,SlC.nil,SlC.nil,SlC.nil,SlC.nil,SlC.nil,SlC.nil⟩) SlC.nil SlC.nil (by first | exact lg | exact jM (by decide) (by decide) (by decide)) (by decide) hk) U (fun v1 h1 hle1 hp1=>?_)))))
 rw [show (eA (Register.mk ([]) ([]) ([]) ([]) ([]) ([]) ([])) ([]) ([]) 0 0 0)=((gu.mk 0 0 [] []),1) from by kernel_rfl] at hp1
 obtain ⟨rr1,rfl,ok1⟩:=hp1
 refine qO 3 U (aV zc36 (fun b1=>aS 0 ty36 U U U U U U (qO 4 U ?_)))
 let z3:Nat×Obj:=(b1,O [I 0,I 0,.slice rr1.j7 0 rr1.j6,.slice rr1.DE 0 rr1.DD] 36)
 refine aF (lF (A:=[]) (Fr:=[z3]) sS rfl (gl h1) rfl (fun v2 h2 B1 hle2 hp2=>?_) (fun _ _ _ _ hR_=>by obtain ⟨_,_,_,_,_,_,_,_,_,hr_,_⟩:=hR_;cases hr_))
 obtain ⟨b2,q1,q2,q3,q4,q5,q6,q7,q8,hr_,rfl,sl1,sl2,sl3,sl4⟩:=hp2
 cases hr_
 refine aT 0 U hM (fun h3 hle3 hb1=>?_)
 have sl5:SlC Appoint.rp h3 (some ⟨b2,0,none⟩) 1 ([(Appoint.mk 0 0 0 0 2 1 false)]):=bu.slB0 (T:=89) (fz:=(0,0)) ((show bu Appoint.rp h2 [I 0,I 0,I 0,I 0,I 2,I 1,.bool false] ([(Appoint.mk 0 0 0 0 2 1 false)]) from ⟨[I 0,I 0,I 0,I 0,I 2,I 1,.bool false],[],rfl,rfl,rfl,rfl⟩).mono Appoint.ao hle3) hb1
 refine aF (cY call16 (oP h3 (Register.mk ([(Appoint.mk 0 0 0 0 2 1 false)]) aA.Deputies ([]) ([]) aA.Versions aA.Docs aA.Approvals) (dI.mk (some ⟨b2,0,none⟩) 1 q1 q2 none 0 none 0 q3 q4 q5 q6 q7 q8) 7 1 10 100 (show Register.ok h3 (Register.mk ([(Appoint.mk 0 0 0 0 2 1 false)]) aA.Deputies ([]) ([]) aA.Versions aA.Docs aA.Approvals) (dI.mk (some ⟨b2,0,none⟩) 1 q1 q2 none 0 none 0 q3 q4 q5 q6 q7 q8) from ⟨sl5,(sl1.mono Deputy.ao hle3),SlC.nil,SlC.nil,(sl2.mono Version.ao hle3),(sl3.mono Document.ao hle3),(sl4.mono Approval.ao hle3)⟩) (by first | exact lg | exact jM (by decide) (by decide) (by decide)) (⟨_,List.mem_singleton.2 U,U⟩) (hk.mono ((hle1.t hle2).t hle3))) U (fun v3 h4 hle4 hp3=>?_))
 rw [show (cg (Register.mk ([(Appoint.mk 0 0 0 0 2 1 false)]) aA.Deputies ([]) ([]) aA.Versions aA.Docs aA.Approvals) 7 1 10 100)=([2],0) from by kernel_rfl] at hp3
 obtain ⟨rb1,rc1,rfl,sl6⟩:=hp3
 refine qO 8 rfl (aF (lF (A:=[]) (Fr:=[z3]) sS rfl (gl h4) rfl (fun v4 h5 B2 hle5 hp4=>?_) (fun _ _ _ _ hR_=>by obtain ⟨_,_,_,_,_,_,_,_,_,hr_,_⟩:=hR_;cases hr_)))
 obtain ⟨b3,q9,q10,q11,q12,q13,q14,q15,q16,hr_,rfl,sl7,sl8,sl9,sl10⟩:=hp4
 cases hr_
 refine aT 0 U hM (fun h6 hle6 hb2=>?_)
 have sl11:SlC Appoint.rp h6 (some ⟨b3,0,none⟩) 1 ([(Appoint.mk 0 0 0 0 2 1 false)]):=bu.slB0 (T:=89) (fz:=(0,0)) ((show bu Appoint.rp h5 [I 0,I 0,I 0,I 0,I 2,I 1,.bool false] ([(Appoint.mk 0 0 0 0 2 1 false)]) from ⟨[I 0,I 0,I 0,I 0,I 2,I 1,.bool false],[],rfl,rfl,rfl,rfl⟩).mono Appoint.ao hle6) hb2
 refine aF (cY call16 (oP h6 (Register.mk ([(Appoint.mk 0 0 0 0 2 1 false)]) aA.Deputies ([]) ([]) aA.Versions aA.Docs aA.Approvals) (dI.mk (some ⟨b3,0,none⟩) 1 q9 q10 none 0 none 0 q11 q12 q13 q14 q15 q16) 7 1 10 5 (show Register.ok h6 (Register.mk ([(Appoint.mk 0 0 0 0 2 1 false)]) aA.Deputies ([]) ([]) aA.Versions aA.Docs aA.Approvals) (dI.mk (some ⟨b3,0,none⟩) 1 q9 q10 none 0 none 0 q11 q12 q13 q14 q15 q16) from ⟨sl11,(sl7.mono Deputy.ao hle6),SlC.nil,SlC.nil,(sl8.mono Version.ao hle6),(sl9.mono Document.ao hle6),(sl10.mono Approval.ao hle6)⟩) (by first | exact lg | exact jM (by decide) (by decide) (by decide)) (⟨_,List.mem_singleton.2 U,U⟩) (hk.mono (((((hle1.t hle2).t hle3).t hle4).t hle5).t hle6))) U (fun v5 h7 hle7 hp5=>?_))
 rw [show (cg (Register.mk ([(Appoint.mk 0 0 0 0 2 1 false)]) aA.Deputies ([]) ([]) aA.Versions aA.Docs aA.Approvals) 7 1 10 5)=([],0) from by kernel_rfl] at hp5
 obtain ⟨rb2,rc2,rfl,sl12⟩:=hp5
 refine qO 8 rfl (aF (lF (A:=[]) (Fr:=[z3]) sS rfl (gl h7) rfl (fun v6 h8 B3 hle8 hp6=>?_) (fun _ _ _ _ hR_=>by obtain ⟨_,_,_,_,_,_,_,_,_,hr_,_⟩:=hR_;cases hr_)))
 obtain ⟨b4,q17,q18,q19,q20,q21,q22,q23,q24,hr_,rfl,sl13,sl14,sl15,sl16⟩:=hp6
 cases hr_
 refine aT 0 U hM (fun h9 hle9 hb3=>?_)
 have sl17:SlC Appoint.rp h9 (some ⟨b4,0,none⟩) 1 ([(Appoint.mk 0 0 0 0 2 1 false)]):=bu.slB0 (T:=89) (fz:=(0,0)) ((show bu Appoint.rp h8 [I 0,I 0,I 0,I 0,I 2,I 1,.bool false] ([(Appoint.mk 0 0 0 0 2 1 false)]) from ⟨[I 0,I 0,I 0,I 0,I 2,I 1,.bool false],[],rfl,rfl,rfl,rfl⟩).mono Appoint.ao hle9) hb3
 refine aF (cY GW (mf h9 (Register.mk ([(Appoint.mk 0 0 0 0 2 1 false)]) aA.Deputies ([]) ([]) aA.Versions aA.Docs aA.Approvals) (dI.mk (some ⟨b4,0,none⟩) 1 q17 q18 none 0 none 0 q19 q20 q21 q22 q23 q24) ([]) none 0 ([]) none 0 7 10 100 (show Register.ok h9 (Register.mk ([(Appoint.mk 0 0 0 0 2 1 false)]) aA.Deputies ([]) ([]) aA.Versions aA.Docs aA.Approvals) (dI.mk (some ⟨b4,0,none⟩) 1 q17 q18 none 0 none 0 q19 q20 q21 q22 q23 q24) from ⟨sl17,(sl13.mono Deputy.ao hle9),SlC.nil,SlC.nil,(sl14.mono Version.ao hle9),(sl15.mono Document.ao hle9),(sl16.mono Approval.ao hle9)⟩) SlC.nil SlC.nil (by first | exact lg | exact jM (by decide) (by decide) (by decide)) (by decide) (hk.mono ((((((((hle1.t hle2).t hle3).t hle4).t hle5).t hle6).t hle7).t hle8).t hle9))) U (fun v7 h10 hle10 hp7=>?_))
 rw [show (eA (Register.mk ([(Appoint.mk 0 0 0 0 2 1 false)]) aA.Deputies ([]) ([]) aA.Versions aA.Docs aA.Approvals) ([]) ([]) 7 10 100)=((gu.mk 0 0 [] []),1) from by kernel_rfl] at hp7
 obtain ⟨rr2,rfl,ok2⟩:=hp7
 refine qO 3 U (aV zc36 (fun b5=>aS 0 ty36 U U U U U U (qO 4 U ?_)))
 let z5:Nat×Obj:=(b5,O [I 0,I 0,.slice rr2.j7 0 rr2.j6,.slice rr2.DE 0 rr2.DD] 36)
 refine aF (lF (A:=[]) (Fr:=[z5,z3]) sS rfl (gl h10) rfl (fun v8 h11 B4 hle11 hp8=>?_) (fun _ _ _ _ hR_=>by obtain ⟨_,_,_,_,_,_,_,_,_,hr_,_⟩:=hR_;cases hr_))
 obtain ⟨b6,q25,q26,q27,q28,q29,q30,q31,q32,hr_,rfl,sl18,sl19,sl20,sl21⟩:=hp8
 cases hr_
 refine aV zc30 (fun b7=>aS 0 ty30 U U U U U U (qL 5 [0] U (aF (fg (yR (i:=0) Al ty89 U U ob) (qL 1 [] U (cJ 1 ty3 U U U U U U (qO 3 U ?_)))))))
 let z1:Nat×Obj:=(b7,O [.slice (some ⟨b6,0,none⟩) 1 1,.slice q25 1 q26,.slice none 0 0,.slice none 0 0,.slice q27 1 q28,.slice q29 1 q30,.slice q31 1 q32] 30)
 refine aF (lF (A:=[]) (Fr:=[z1,(b6,O [I 0,I 0,I 0,I 0,I 2,I 0,.bool false] 89),z5,z3]) sS rfl (gl h11) rfl (fun v9 h12 B5 hle12 hp9=>?_) (fun _ _ _ _ hR_=>by obtain ⟨_,_,_,_,_,_,_,_,_,hr_,_⟩:=hR_;cases hr_))
 obtain ⟨b8,q33,q34,q35,q36,q37,q38,q39,q40,hr_,rfl,sl22,sl23,sl24,sl25⟩:=hp9
 cases hr_
 refine aV zc30 (fun b9=>aS 0 ty30 U U U U U U (qO 3 U (aF (fw (cells:=[I 0,I 0,I 0,I 5,I 9,.bool false,.bool false]) (places:=[(0,1),(1,1),(2,1),(3,1),(4,1),(5,1),(6,1)]) underlying97 zc97 kr kr (aF (bV (cells:=[I 0,I 0,I 0,I 5,I 9,.bool false,.bool false]) sU ty97 zc97 U U kr (fun b10=>qL 1 [] U (cJ 1 ty24 U U U U U U (qO 4 U (aF (fw (cells:=[.slice none 0 0,.slice none 0 0,.slice none 0 0,.slice none 0 0,.slice none 0 0,.slice none 0 0,.slice none 0 0]) (places:=[(0,1),(1,1),(2,1),(3,1),(4,1),(5,1),(6,1)]) Jp zc30 kr kr (av (v:=I 0) I7 (ru (nu h12 (Register.mk ([]) ([]) ([]) ([]) ([]) ([]) ([])) (dI.mk none 0 none 0 none 0 none 0 none 0 none 0 none 0) (show Register.ok h12 (Register.mk ([]) ([]) ([]) ([]) ([]) ([]) ([])) (dI.mk none 0 none 0 none 0 none 0 none 0 none 0 none 0) from ⟨SlC.nil,SlC.nil,SlC.nil,SlC.nil,SlC.nil,SlC.nil,SlC.nil⟩) (by first | exact lg | exact jM (by decide) (by decide) (by decide)) (hk.mono (((((((((((hle1.t hle2).t hle3).t hle4).t hle5).t hle6).t hle7).t hle8).t hle9).t hle10).t hle11).t hle12))) kr) U (qO 2 U (cW 3 ty30 U U U (aT 4 U hM (fun h13 hle13 hb4=>?_))))))))))))))))
 have sl26:SlC Appoint.rp h13 (some ⟨b6,0,none⟩) 1 ([(Appoint.mk 0 0 0 0 2 0 false)]):=bu.slB0 (T:=89) (fz:=(0,0)) ((show bu Appoint.rp h12 [I 0,I 0,I 0,I 0,I 2,I 0,.bool false] ([(Appoint.mk 0 0 0 0 2 0 false)]) from ⟨[I 0,I 0,I 0,I 0,I 2,I 0,.bool false],[],rfl,rfl,rfl,rfl⟩).mono Appoint.ao hle13) hb4
 refine av (v:=I 300) I7 (ru (nu h13 (Register.mk ([(Appoint.mk 0 0 0 0 2 0 false)]) aA.Deputies ([]) ([]) aA.Versions aA.Docs aA.Approvals) (dI.mk (some ⟨b6,0,none⟩) 1 q25 q26 none 0 none 0 q27 q28 q29 q30 q31 q32) (show Register.ok h13 (Register.mk ([(Appoint.mk 0 0 0 0 2 0 false)]) aA.Deputies ([]) ([]) aA.Versions aA.Docs aA.Approvals) (dI.mk (some ⟨b6,0,none⟩) 1 q25 q26 none 0 none 0 q27 q28 q29 q30 q31 q32) from ⟨sl26,(sl18.mono Deputy.ao (hle12.t hle13)),SlC.nil,SlC.nil,(sl19.mono Version.ao (hle12.t hle13)),(sl20.mono Document.ao (hle12.t hle13)),(sl21.mono Approval.ao (hle12.t hle13))⟩) (by first | exact lg | exact jM (by decide) (by decide) (by decide)) (hk.mono ((((((((((((hle1.t hle2).t hle3).t hle4).t hle5).t hle6).t hle7).t hle8).t hle9).t hle10).t hle11).t hle12).t hle13))) kr) U (qO 20 U (aF (bV (cells:=[I 2]) fa ty3 zc3 U U kr (fun b11=>aT 0 U hM (fun h14 hle14 hb5=>?_)))))
 have sl27:SlC Rp.int h14 (some ⟨b11,0,none⟩) 1 ([2]):=bu.slB0 (T:=3) (fz:=(0,0)) ((show bu Rp.int h13 [I 2] ([2]) from ⟨[I 2],[],rfl,rfl,rfl,rfl⟩).mono Rp.aY hle14) hb5
 refine av (v:=.bool true) call18 (ru (wZ h14 ([2]) rb1 rc1 ([2]) (some ⟨b11,0,none⟩) 1 (sl6.mono Rp.aY (((((((((hle5.t hle6).t hle7).t hle8).t hle9).t hle10).t hle11).t hle12).t hle13).t hle14)) sl27) kr) U (qL 12 [] U ?_)
 let z2:Nat×Obj:=(b9,O [.slice (some ⟨b8,0,none⟩) 1 1,.slice q33 1 q34,.slice (some ⟨b10,0,none⟩) 1 1,.slice none 0 0,.slice q35 1 q36,.slice q37 1 q38,.slice q39 1 q40] 30)
 let z8:Nat×Obj:=(b10,O [I 0,I 0,I 0,I 5,I 9,.bool false,.bool false] 97)
 let z9:Nat×Obj:=(b8,O [I 0,I 0,I 0,I 0,I 2,I 1,.bool false] 89)
 refine aF (lF (A:=[]) (Fr:=[z8,z2,z9,z1,z5,z3]) sS rfl (gl h14) rfl (fun v10 h15 B6 hle15 hp10=>?_) (fun _ _ _ _ hR_=>by obtain ⟨_,_,_,_,_,_,_,_,_,hr_,_⟩:=hR_;cases hr_))
 obtain ⟨b12,q41,q42,q43,q44,q45,q46,q47,q48,hr_,rfl,sl28,sl29,sl30,sl31⟩:=hp10
 cases hr_
 refine aV zc30 (fun b13=>aS 0 ty30 U U U U U U (qO 3 U (aF (fw (cells:=[I 8,I 0,I 0,I (-1),I 10,I 1,I 59,.bool false]) (places:=[(0,1),(1,1),(2,1),(3,1),(4,1),(5,1),(6,1),(7,1)]) underlying101 zc101 kr kr (aF (bV (cells:=[I 8,I 0,I 0,I (-1),I 10,I 1,I 59,.bool false]) vy ty101 zc101 U U kr (fun b14=>qL 1 [] U (cJ 1 ty25 U U U U U U (qO 3 U (cW 1 ty30 U U U (aF (bV (cells:=[I (-1)]) fa ty3 zc3 U U kr (fun b15=>aT 3 U hM (fun h16 hle16 hb6=>?_))))))))))))))
 have sl32:SlC Appoint.rp h16 (some ⟨b12,0,none⟩) 1 ([(Appoint.mk 0 0 0 0 2 1 false)]):=bu.slB0 (T:=89) (fz:=(0,0)) ((show bu Appoint.rp h15 [I 0,I 0,I 0,I 0,I 2,I 1,.bool false] ([(Appoint.mk 0 0 0 0 2 1 false)]) from ⟨[I 0,I 0,I 0,I 0,I 2,I 1,.bool false],[],rfl,rfl,rfl,rfl⟩).mono Appoint.ao hle16) hb6
 refine aT 1 U hM (fun h17 hle17 hb7=>?_)
 have sl33:SlC Budget.rp h17 (some ⟨b14,0,none⟩) 1 ([(Budget.mk 8 0 0 (-1) 10 1 59 false)]):=bu.slB0 (T:=101) (fz:=(0,0)) ((show bu Budget.rp h16 [I 8,I 0,I 0,I (-1),I 10,I 1,I 59,.bool false] ([(Budget.mk 8 0 0 (-1) 10 1 59 false)]) from ⟨[I 8,I 0,I 0,I (-1),I 10,I 1,I 59,.bool false],[],rfl,rfl,rfl,rfl⟩).mono Budget.ao hle17) hb7
 refine aT 0 U hM (fun h18 hle18 hb8=>?_)
 have sl34:SlC Rp.int h18 (some ⟨b15,0,none⟩) 1 ([(-1)]):=bu.slB0 (T:=3) (fz:=(0,0)) ((show bu Rp.int h17 [I (-1)] ([(-1)]) from ⟨[I (-1)],[],rfl,rfl,rfl,rfl⟩).mono Rp.aY hle18) hb8
 refine aF (cY GW (mf h18 (Register.mk ([(Appoint.mk 0 0 0 0 2 1 false)]) aA.Deputies ([]) ([(Budget.mk 8 0 0 (-1) 10 1 59 false)]) aA.Versions aA.Docs aA.Approvals) (dI.mk (some ⟨b12,0,none⟩) 1 q41 q42 none 0 (some ⟨b14,0,none⟩) 1 q43 q44 q45 q46 q47 q48) ([(-1)]) (some ⟨b15,0,none⟩) 1 ([]) none 0 7 10 100 (show Register.ok h18 (Register.mk ([(Appoint.mk 0 0 0 0 2 1 false)]) aA.Deputies ([]) ([(Budget.mk 8 0 0 (-1) 10 1 59 false)]) aA.Versions aA.Docs aA.Approvals) (dI.mk (some ⟨b12,0,none⟩) 1 q41 q42 none 0 (some ⟨b14,0,none⟩) 1 q43 q44 q45 q46 q47 q48) from ⟨(sl32.mono Appoint.ao (hle17.t hle18)),(sl28.mono Deputy.ao ((hle16.t hle17).t hle18)),SlC.nil,(sl33.mono Budget.ao hle18),(sl29.mono Version.ao ((hle16.t hle17).t hle18)),(sl30.mono Document.ao ((hle16.t hle17).t hle18)),(sl31.mono Approval.ao ((hle16.t hle17).t hle18))⟩) sl34 SlC.nil (by first | exact lg | exact jM (by decide) (by decide) (by decide)) (by decide) (hk.mono (((((((((((((((((hle1.t hle2).t hle3).t hle4).t hle5).t hle6).t hle7).t hle8).t hle9).t hle10).t hle11).t hle12).t hle13).t hle14).t hle15).t hle16).t hle17).t hle18))) U (fun v11 h19 hle19 hp11=>?_))
 rw [show (eA (Register.mk ([(Appoint.mk 0 0 0 0 2 1 false)]) aA.Deputies ([]) ([(Budget.mk 8 0 0 (-1) 10 1 59 false)]) aA.Versions aA.Docs aA.Approvals) ([(-1)]) ([]) 7 10 100)=((gu.mk 4 8 [1] [2]),0) from by kernel_rfl] at hp11
 obtain ⟨rr3,rfl,ok3⟩:=hp11
 refine qO 3 U (aV zc36 (fun b16=>aS 0 ty36 U U U U U U (qO 4 U ?_)))
 let z4:Nat×Obj:=(b13,O [.slice (some ⟨b12,0,none⟩) 1 1,.slice q41 1 q42,.slice none 0 0,.slice (some ⟨b14,0,none⟩) 1 1,.slice q43 1 q44,.slice q45 1 q46,.slice q47 1 q48] 30)
 let z6:Nat×Obj:=(b16,O [I 4,I 8,.slice rr3.j7 1 rr3.j6,.slice rr3.DE 1 rr3.DD] 36)
 refine aF (lF (A:=[]) (Fr:=[z6,z4,z8,z2,z9,z1,z5,z3]) sS rfl (gl h19) rfl (fun v12 h20 B7 hle20 hp12=>?_) (fun _ _ _ _ hR_=>by obtain ⟨_,_,_,_,_,_,_,_,_,hr_,_⟩:=hR_;cases hr_))
 obtain ⟨b17,q49,q50,q51,q52,q53,q54,q55,q56,hr_,rfl,sl35,sl36,sl37,sl38⟩:=hp12
 cases hr_
 refine aF (bV (cells:=[I 9]) fa ty3 zc3 U U kr (fun b18=>aT 1 U hM (fun h21 hle21 hb9=>?_)))
 have sl39:SlC Appoint.rp h21 (some ⟨b17,0,none⟩) 1 ([(Appoint.mk 0 0 0 0 2 1 false)]):=bu.slB0 (T:=89) (fz:=(0,0)) ((show bu Appoint.rp h20 [I 0,I 0,I 0,I 0,I 2,I 1,.bool false] ([(Appoint.mk 0 0 0 0 2 1 false)]) from ⟨[I 0,I 0,I 0,I 0,I 2,I 1,.bool false],[],rfl,rfl,rfl,rfl⟩).mono Appoint.ao hle21) hb9
 refine aT 0 U hM (fun h22 hle22 hb10=>?_)
 have sl40:SlC Rp.int h22 (some ⟨b18,0,none⟩) 1 ([9]):=bu.slB0 (T:=3) (fz:=(0,0)) ((show bu Rp.int h21 [I 9] ([9]) from ⟨[I 9],[],rfl,rfl,rfl,rfl⟩).mono Rp.aY hle22) hb10
 refine aF (cY GW (mf h22 (Register.mk ([(Appoint.mk 0 0 0 0 2 1 false)]) aA.Deputies ([]) ([]) aA.Versions aA.Docs aA.Approvals) (dI.mk (some ⟨b17,0,none⟩) 1 q49 q50 none 0 none 0 q51 q52 q53 q54 q55 q56) ([9]) (some ⟨b18,0,none⟩) 1 ([]) none 0 7 10 100 (show Register.ok h22 (Register.mk ([(Appoint.mk 0 0 0 0 2 1 false)]) aA.Deputies ([]) ([]) aA.Versions aA.Docs aA.Approvals) (dI.mk (some ⟨b17,0,none⟩) 1 q49 q50 none 0 none 0 q51 q52 q53 q54 q55 q56) from ⟨(sl39.mono Appoint.ao hle22),(sl35.mono Deputy.ao (hle21.t hle22)),SlC.nil,SlC.nil,(sl36.mono Version.ao (hle21.t hle22)),(sl37.mono Document.ao (hle21.t hle22)),(sl38.mono Approval.ao (hle21.t hle22))⟩) sl40 SlC.nil (by first | exact lg | exact jM (by decide) (by decide) (by decide)) (by decide) (hk.mono (((((((((((((((((((((hle1.t hle2).t hle3).t hle4).t hle5).t hle6).t hle7).t hle8).t hle9).t hle10).t hle11).t hle12).t hle13).t hle14).t hle15).t hle16).t hle17).t hle18).t hle19).t hle20).t hle21).t hle22))) U (fun v13 h23 hle23 hp13=>?_))
 rw [show (eA (Register.mk ([(Appoint.mk 0 0 0 0 2 1 false)]) aA.Deputies ([]) ([]) aA.Versions aA.Docs aA.Approvals) ([9]) ([]) 7 10 100)=((gu.mk 1 (-1) [] []),0) from by kernel_rfl] at hp13
 obtain ⟨rr4,rfl,ok4⟩:=hp13
 refine qO 3 U (aV zc36 (fun b19=>aS 0 ty36 U U U U U U (qL 37 [1,1,0,0] U ?_)))
 let z7:Nat×Obj:=(b19,O [I 1,I (-1),.slice rr4.j7 0 rr4.j6,.slice rr4.DE 0 rr4.DD] 36)
 refine aF (lF (A:=[]) (Fr:=[z7,z6,z4,z8,z2,z9,z1,z5,z3]) sS rfl (gl h23) rfl (fun v14 h24 B8 hle24 hp14=>?_) (fun _ _ _ _ hR_=>by obtain ⟨_,_,_,_,_,_,_,_,_,hr_,_⟩:=hR_;cases hr_))
 obtain ⟨b20,q57,q58,q59,q60,q61,q62,q63,q64,hr_,rfl,sl41,sl42,sl43,sl44⟩:=hp14
 cases hr_
 refine aT 0 U hM (fun h25 hle25 hb11=>?_)
 have sl45:SlC Appoint.rp h25 (some ⟨b20,0,none⟩) 1 ([(Appoint.mk 0 0 0 0 2 1 false)]):=bu.slB0 (T:=89) (fz:=(0,0)) ((show bu Appoint.rp h24 [I 0,I 0,I 0,I 0,I 2,I 1,.bool false] ([(Appoint.mk 0 0 0 0 2 1 false)]) from ⟨[I 0,I 0,I 0,I 0,I 2,I 1,.bool false],[],rfl,rfl,rfl,rfl⟩).mono Appoint.ao hle25) hb11
 refine av (v:=.bool true) CX (ru (md h25 (Register.mk ([(Appoint.mk 0 0 0 0 2 1 false)]) aA.Deputies ([]) ([]) aA.Versions aA.Docs aA.Approvals) (dI.mk (some ⟨b20,0,none⟩) 1 q57 q58 none 0 none 0 q59 q60 q61 q62 q63 q64) 0 1 (show Register.ok h25 (Register.mk ([(Appoint.mk 0 0 0 0 2 1 false)]) aA.Deputies ([]) ([]) aA.Versions aA.Docs aA.Approvals) (dI.mk (some ⟨b20,0,none⟩) 1 q57 q58 none 0 none 0 q59 q60 q61 q62 q63 q64) from ⟨sl45,(sl41.mono Deputy.ao hle25),SlC.nil,SlC.nil,(sl42.mono Version.ao hle25),(sl43.mono Document.ao hle25),(sl44.mono Approval.ao hle25)⟩) (by first | exact lg | exact jM (by decide) (by decide) (by decide)) (by decide) (hk.mono ((((((((((((((((((((((((hle1.t hle2).t hle3).t hle4).t hle5).t hle6).t hle7).t hle8).t hle9).t hle10).t hle11).t hle12).t hle13).t hle14).t hle15).t hle16).t hle17).t hle18).t hle19).t hle20).t hle21).t hle22).t hle23).t hle24).t hle25))) kr) rfl (aj (aF (lF (A:=[]) (Fr:=[z7,z6,z4,z8,z2,z9,z1,z5,z3]) sS rfl (gl h25) rfl (fun v15 h26 B9 hle26 hp15=>?_) (fun _ _ _ _ hR_=>by obtain ⟨_,_,_,_,_,_,_,_,_,hr_,_⟩:=hR_;cases hr_))))
 obtain ⟨b21,q65,q66,q67,q68,q69,q70,q71,q72,hr_,rfl,sl46,sl47,sl48,sl49⟩:=hp15
 cases hr_
 refine aT 0 U hM (fun h27 hle27 hb12=>?_)
 have sl50:SlC Appoint.rp h27 (some ⟨b21,0,none⟩) 1 ([(Appoint.mk 0 0 0 0 2 1 false)]):=bu.slB0 (T:=89) (fz:=(0,0)) ((show bu Appoint.rp h26 [I 0,I 0,I 0,I 0,I 2,I 1,.bool false] ([(Appoint.mk 0 0 0 0 2 1 false)]) from ⟨[I 0,I 0,I 0,I 0,I 2,I 1,.bool false],[],rfl,rfl,rfl,rfl⟩).mono Appoint.ao hle27) hb12
 refine av (v:=.bool true) CX (ru (md h27 (Register.mk ([(Appoint.mk 0 0 0 0 2 1 false)]) aA.Deputies ([]) ([]) aA.Versions aA.Docs aA.Approvals) (dI.mk (some ⟨b21,0,none⟩) 1 q65 q66 none 0 none 0 q67 q68 q69 q70 q71 q72) 6 3 (show Register.ok h27 (Register.mk ([(Appoint.mk 0 0 0 0 2 1 false)]) aA.Deputies ([]) ([]) aA.Versions aA.Docs aA.Approvals) (dI.mk (some ⟨b21,0,none⟩) 1 q65 q66 none 0 none 0 q67 q68 q69 q70 q71 q72) from ⟨sl50,(sl46.mono Deputy.ao hle27),SlC.nil,SlC.nil,(sl47.mono Version.ao hle27),(sl48.mono Document.ao hle27),(sl49.mono Approval.ao hle27)⟩) (by first | exact lg | exact jM (by decide) (by decide) (by decide)) (by decide) (hk.mono ((((((((((((((((((((((((((hle1.t hle2).t hle3).t hle4).t hle5).t hle6).t hle7).t hle8).t hle9).t hle10).t hle11).t hle12).t hle13).t hle14).t hle15).t hle16).t hle17).t hle18).t hle19).t hle20).t hle21).t hle22).t hle23).t hle24).t hle25).t hle26).t hle27))) kr) rfl (qO 2 rfl (aF (lF (A:=[]) (Fr:=[z7,z6,z4,z8,z2,z9,z1,z5,z3]) sS rfl (gl h27) rfl (fun v16 h28 B10 hle28 hp16=>?_) (fun _ _ _ _ hR_=>by obtain ⟨_,_,_,_,_,_,_,_,_,hr_,_⟩:=hR_;cases hr_))))
 obtain ⟨b22,q73,q74,q75,q76,q77,q78,q79,q80,hr_,rfl,sl51,sl52,sl53,sl54⟩:=hp16
 cases hr_
 refine aT 0 U hM (fun h29 hle29 hb13=>?_)
 have sl55:SlC Appoint.rp h29 (some ⟨b22,0,none⟩) 1 ([(Appoint.mk 0 0 0 0 2 1 false)]):=bu.slB0 (T:=89) (fz:=(0,0)) ((show bu Appoint.rp h28 [I 0,I 0,I 0,I 0,I 2,I 1,.bool false] ([(Appoint.mk 0 0 0 0 2 1 false)]) from ⟨[I 0,I 0,I 0,I 0,I 2,I 1,.bool false],[],rfl,rfl,rfl,rfl⟩).mono Appoint.ao hle29) hb13
 refine av (v:=.bool true) CX (ru (md h29 (Register.mk ([(Appoint.mk 0 0 0 0 2 1 false)]) aA.Deputies ([]) ([]) aA.Versions aA.Docs aA.Approvals) (dI.mk (some ⟨b22,0,none⟩) 1 q73 q74 none 0 none 0 q75 q76 q77 q78 q79 q80) 7 0 (show Register.ok h29 (Register.mk ([(Appoint.mk 0 0 0 0 2 1 false)]) aA.Deputies ([]) ([]) aA.Versions aA.Docs aA.Approvals) (dI.mk (some ⟨b22,0,none⟩) 1 q73 q74 none 0 none 0 q75 q76 q77 q78 q79 q80) from ⟨sl55,(sl51.mono Deputy.ao hle29),SlC.nil,SlC.nil,(sl52.mono Version.ao hle29),(sl53.mono Document.ao hle29),(sl54.mono Approval.ao hle29)⟩) (by first | exact lg | exact jM (by decide) (by decide) (by decide)) (by decide) (hk.mono ((((((((((((((((((((((((((((hle1.t hle2).t hle3).t hle4).t hle5).t hle6).t hle7).t hle8).t hle9).t hle10).t hle11).t hle12).t hle13).t hle14).t hle15).t hle16).t hle17).t hle18).t hle19).t hle20).t hle21).t hle22).t hle23).t hle24).t hle25).t hle26).t hle27).t hle28).t hle29))) kr) rfl (qO 2 rfl (aF (lF (A:=[]) (Fr:=[z7,z6,z4,z8,z2,z9,z1,z5,z3]) sS rfl (gl h29) rfl (fun v17 h30 B11 hle30 hp17=>?_) (fun _ _ _ _ hR_=>by obtain ⟨_,_,_,_,_,_,_,_,_,hr_,_⟩:=hR_;cases hr_))))
 obtain ⟨b23,q81,q82,q83,q84,q85,q86,q87,q88,hr_,rfl,sl56,sl57,sl58,sl59⟩:=hp17
 cases hr_
 refine aT 0 U hM (fun h31 hle31 hb14=>?_)
 have sl60:SlC Appoint.rp h31 (some ⟨b23,0,none⟩) 1 ([(Appoint.mk 0 0 0 0 2 1 false)]):=bu.slB0 (T:=89) (fz:=(0,0)) ((show bu Appoint.rp h30 [I 0,I 0,I 0,I 0,I 2,I 1,.bool false] ([(Appoint.mk 0 0 0 0 2 1 false)]) from ⟨[I 0,I 0,I 0,I 0,I 2,I 1,.bool false],[],rfl,rfl,rfl,rfl⟩).mono Appoint.ao hle31) hb14
 refine av (v:=.bool true) CX (ru (md h31 (Register.mk ([(Appoint.mk 0 0 0 0 2 1 false)]) aA.Deputies ([]) ([]) aA.Versions aA.Docs aA.Approvals) (dI.mk (some ⟨b23,0,none⟩) 1 q81 q82 none 0 none 0 q83 q84 q85 q86 q87 q88) 39 0 (show Register.ok h31 (Register.mk ([(Appoint.mk 0 0 0 0 2 1 false)]) aA.Deputies ([]) ([]) aA.Versions aA.Docs aA.Approvals) (dI.mk (some ⟨b23,0,none⟩) 1 q81 q82 none 0 none 0 q83 q84 q85 q86 q87 q88) from ⟨sl60,(sl56.mono Deputy.ao hle31),SlC.nil,SlC.nil,(sl57.mono Version.ao hle31),(sl58.mono Document.ao hle31),(sl59.mono Approval.ao hle31)⟩) (by first | exact lg | exact jM (by decide) (by decide) (by decide)) (by decide) (hk.mono ((((((((((((((((((((((((((((((hle1.t hle2).t hle3).t hle4).t hle5).t hle6).t hle7).t hle8).t hle9).t hle10).t hle11).t hle12).t hle13).t hle14).t hle15).t hle16).t hle17).t hle18).t hle19).t hle20).t hle21).t hle22).t hle23).t hle24).t hle25).t hle26).t hle27).t hle28).t hle29).t hle30).t hle31))) kr) rfl (qO 2 rfl (aF (lF (A:=[]) (Fr:=[z7,z6,z4,z8,z2,z9,z1,z5,z3]) sS rfl (gl h31) rfl (fun v18 h32 B12 hle32 hp18=>?_) (fun _ _ _ _ hR_=>by obtain ⟨_,_,_,_,_,_,_,_,_,hr_,_⟩:=hR_;cases hr_))))
 obtain ⟨b24,q89,q90,q91,q92,q93,q94,q95,q96,hr_,rfl,sl61,sl62,sl63,sl64⟩:=hp18
 cases hr_
 refine aT 0 U hM (fun h33 hle33 hb15=>?_)
 have sl65:SlC Appoint.rp h33 (some ⟨b24,0,none⟩) 1 ([(Appoint.mk 0 0 0 0 2 1 false)]):=bu.slB0 (T:=89) (fz:=(0,0)) ((show bu Appoint.rp h32 [I 0,I 0,I 0,I 0,I 2,I 1,.bool false] ([(Appoint.mk 0 0 0 0 2 1 false)]) from ⟨[I 0,I 0,I 0,I 0,I 2,I 1,.bool false],[],rfl,rfl,rfl,rfl⟩).mono Appoint.ao hle33) hb15
 refine av (v:=.bool true) CX (ru (md h33 (Register.mk ([(Appoint.mk 0 0 0 0 2 1 false)]) aA.Deputies ([]) ([]) aA.Versions aA.Docs aA.Approvals) (dI.mk (some ⟨b24,0,none⟩) 1 q89 q90 none 0 none 0 q91 q92 q93 q94 q95 q96) 40 3 (show Register.ok h33 (Register.mk ([(Appoint.mk 0 0 0 0 2 1 false)]) aA.Deputies ([]) ([]) aA.Versions aA.Docs aA.Approvals) (dI.mk (some ⟨b24,0,none⟩) 1 q89 q90 none 0 none 0 q91 q92 q93 q94 q95 q96) from ⟨sl65,(sl61.mono Deputy.ao hle33),SlC.nil,SlC.nil,(sl62.mono Version.ao hle33),(sl63.mono Document.ao hle33),(sl64.mono Approval.ao hle33)⟩) (by first | exact lg | exact jM (by decide) (by decide) (by decide)) (by decide) (hk.mono ((((((((((((((((((((((((((((((((hle1.t hle2).t hle3).t hle4).t hle5).t hle6).t hle7).t hle8).t hle9).t hle10).t hle11).t hle12).t hle13).t hle14).t hle15).t hle16).t hle17).t hle18).t hle19).t hle20).t hle21).t hle22).t hle23).t hle24).t hle25).t hle26).t hle27).t hle28).t hle29).t hle30).t hle31).t hle32).t hle33))) kr) rfl (qO 2 rfl (aF (lF (A:=[]) (Fr:=[z7,z6,z4,z8,z2,z9,z1,z5,z3]) sS rfl (gl h33) rfl (fun v19 h34 B13 hle34 hp19=>?_) (fun _ _ _ _ hR_=>by obtain ⟨_,_,_,_,_,_,_,_,_,hr_,_⟩:=hR_;cases hr_))))
 obtain ⟨b25,q97,q98,q99,q100,q101,q102,q103,q104,hr_,rfl,sl66,sl67,sl68,sl69⟩:=hp19
 cases hr_
 refine aT 0 U hM (fun h35 hle35 hb16=>?_)
 have sl70:SlC Appoint.rp h35 (some ⟨b25,0,none⟩) 1 ([(Appoint.mk 0 0 0 0 2 1 false)]):=bu.slB0 (T:=89) (fz:=(0,0)) ((show bu Appoint.rp h34 [I 0,I 0,I 0,I 0,I 2,I 1,.bool false] ([(Appoint.mk 0 0 0 0 2 1 false)]) from ⟨[I 0,I 0,I 0,I 0,I 2,I 1,.bool false],[],rfl,rfl,rfl,rfl⟩).mono Appoint.ao hle35) hb16
 refine av (v:=.bool true) CX (ru (md h35 (Register.mk ([(Appoint.mk 0 0 0 0 2 1 false)]) aA.Deputies ([]) ([]) aA.Versions aA.Docs aA.Approvals) (dI.mk (some ⟨b25,0,none⟩) 1 q97 q98 none 0 none 0 q99 q100 q101 q102 q103 q104) 50 1 (show Register.ok h35 (Register.mk ([(Appoint.mk 0 0 0 0 2 1 false)]) aA.Deputies ([]) ([]) aA.Versions aA.Docs aA.Approvals) (dI.mk (some ⟨b25,0,none⟩) 1 q97 q98 none 0 none 0 q99 q100 q101 q102 q103 q104) from ⟨sl70,(sl66.mono Deputy.ao hle35),SlC.nil,SlC.nil,(sl67.mono Version.ao hle35),(sl68.mono Document.ao hle35),(sl69.mono Approval.ao hle35)⟩) (by first | exact lg | exact jM (by decide) (by decide) (by decide)) (by decide) (hk.mono ((((((((((((((((((((((((((((((((((hle1.t hle2).t hle3).t hle4).t hle5).t hle6).t hle7).t hle8).t hle9).t hle10).t hle11).t hle12).t hle13).t hle14).t hle15).t hle16).t hle17).t hle18).t hle19).t hle20).t hle21).t hle22).t hle23).t hle24).t hle25).t hle26).t hle27).t hle28).t hle29).t hle30).t hle31).t hle32).t hle33).t hle34).t hle35))) kr) U (qO 2 U (cW 4 ty30 U U U (aT 5 U hM (fun h36 hle36 hb17=>?_))))
 have sl71:SlC Appoint.rp h36 (some ⟨b8,0,none⟩) 1 ([(Appoint.mk 0 0 0 0 2 1 false)]):=bu.slB0 (T:=89) (fz:=(0,0)) ((show bu Appoint.rp h35 [I 0,I 0,I 0,I 0,I 2,I 1,.bool false] ([(Appoint.mk 0 0 0 0 2 1 false)]) from ⟨[I 0,I 0,I 0,I 0,I 2,I 1,.bool false],[],rfl,rfl,rfl,rfl⟩).mono Appoint.ao hle36) hb17
 refine aT 3 U hM (fun h37 hle37 hb18=>?_)
 have sl72:SlC Interest.rp h37 (some ⟨b10,0,none⟩) 1 ([(Interest.mk 0 0 0 5 9 false false)]):=bu.slB0 (T:=97) (fz:=(0,0)) ((show bu Interest.rp h36 [I 0,I 0,I 0,I 5,I 9,.bool false,.bool false] ([(Interest.mk 0 0 0 5 9 false false)]) from ⟨[I 0,I 0,I 0,I 5,I 9,.bool false,.bool false],[],rfl,rfl,rfl,rfl⟩).mono Interest.ao hle37) hb18
 exact av (v:=.bool true) CX (ru (md h37 (Register.mk ([(Appoint.mk 0 0 0 0 2 1 false)]) aA.Deputies ([(Interest.mk 0 0 0 5 9 false false)]) ([]) aA.Versions aA.Docs aA.Approvals) (dI.mk (some ⟨b8,0,none⟩) 1 q33 q34 (some ⟨b10,0,none⟩) 1 none 0 q35 q36 q37 q38 q39 q40) 10 3 (show Register.ok h37 (Register.mk ([(Appoint.mk 0 0 0 0 2 1 false)]) aA.Deputies ([(Interest.mk 0 0 0 5 9 false false)]) ([]) aA.Versions aA.Docs aA.Approvals) (dI.mk (some ⟨b8,0,none⟩) 1 q33 q34 (some ⟨b10,0,none⟩) 1 none 0 q35 q36 q37 q38 q39 q40) from ⟨(sl71.mono Appoint.ao hle37),(sl22.mono Deputy.ao ((((((((((((((((((((((((hle13.t hle14).t hle15).t hle16).t hle17).t hle18).t hle19).t hle20).t hle21).t hle22).t hle23).t hle24).t hle25).t hle26).t hle27).t hle28).t hle29).t hle30).t hle31).t hle32).t hle33).t hle34).t hle35).t hle36).t hle37)),sl72,SlC.nil,(sl23.mono Version.ao ((((((((((((((((((((((((hle13.t hle14).t hle15).t hle16).t hle17).t hle18).t hle19).t hle20).t hle21).t hle22).t hle23).t hle24).t hle25).t hle26).t hle27).t hle28).t hle29).t hle30).t hle31).t hle32).t hle33).t hle34).t hle35).t hle36).t hle37)),(sl24.mono Document.ao ((((((((((((((((((((((((hle13.t hle14).t hle15).t hle16).t hle17).t hle18).t hle19).t hle20).t hle21).t hle22).t hle23).t hle24).t hle25).t hle26).t hle27).t hle28).t hle29).t hle30).t hle31).t hle32).t hle33).t hle34).t hle35).t hle36).t hle37)),(sl25.mono Approval.ao ((((((((((((((((((((((((hle13.t hle14).t hle15).t hle16).t hle17).t hle18).t hle19).t hle20).t hle21).t hle22).t hle23).t hle24).t hle25).t hle26).t hle27).t hle28).t hle29).t hle30).t hle31).t hle32).t hle33).t hle34).t hle35).t hle36).t hle37))⟩) (by first | exact lg | exact jM (by decide) (by decide) (by decide)) (by decide) (hk.mono ((((((((((((((((((((((((((((((((((((hle1.t hle2).t hle3).t hle4).t hle5).t hle6).t hle7).t hle8).t hle9).t hle10).t hle11).t hle12).t hle13).t hle14).t hle15).t hle16).t hle17).t hle18).t hle19).t hle20).t hle21).t hle22).t hle23).t hle24).t hle25).t hle26).t hle27).t hle28).t hle29).t hle30).t hle31).t hle32).t hle33).t hle34).t hle35).t hle36).t hle37))) kr) U (qO 3 U (nretP [.bool true] (cs hs0)))
theorem zu (rec:Expr→Int→Int) (h:HF) (x:Expr) (fP:cG) (limit:Int) (hrec:∀ (h:HF) (qx:Expr) (j5:cG) (qlimit:Int) (hqx:Expr.ok h qx j5) (_:qx.dep < x.dep),Ret prog 123 [.agg (Expr.cells qx j5).toArray,I qlimit] h (I (rec qx qlimit))) (hx:Expr.ok h x fP):Ret prog 123 [.agg (Expr.cells x fP).toArray,I limit] h (I (fG.F rec x limit)):=by
 refine sT func123 U ntmps123 U fun X hM hX hF=>?_
 have hs0:fG.F rec x limit=fG.F rec x limit:=rfl
 refine sr (cA (fun b1=>qO 11 U ?_))
 refine lp1 x.L (fun i w=>[(1,I limit),(2,Q b1),(5,I w),(6,I (i:Int))]) ([(b1,O (Expr.cells x fP) 62)]) (fun s1 i w=>(fG.L1 rec limit (fG.K1)) s1 w) 1 hx.list.1.1 hs0 ?_ ?_ ?_
 ·rintro i1 iJ fA hs1 e
  exact sr (qO 3 U (nretP [I iJ] (ci hs1)))
 ·rintro i1 iJ y1 rz1 hd1 dx aL eH hO hs3 hx1 ag1 e
  refine qK 7 [0] U (aw (v':=.bool true) U (cb dx) (qO 6 U (ai hs3 U (fun c2 hs4=>?_) (fun c2 hs5=>?_))))
  ·have c2p:=of_decide_eq_true c2
   exact qK 8 [0] U (aF (gC kk ty62 hx.list.1 (nthZ aL) (ba aL) U U U (fun _ _ _ e=>e) (fun q2 r2 A2 ok2=>dz ty62 A2 U U (qO 3 U (av call123 (hrec _ _ _ (IntKind.wrap .i64 (limit - iJ)) ok2 (Expr.iU (gi hd1))) U (qO 6 U (aw (v':=I (((i1+1):Nat):Int)) U (bw ob) (qO 2 U (ag1 (IntKind.wrap .i64 (iJ+(rec y1 (IntKind.wrap .i64 (limit - iJ))))) hs4)))))))))
  have c2p:=of_decide_eq_false c2
  exact kv U (hx1 i1 iJ hs5)
 rintro i1 iJ hd1 il hx e
 exact qK 7 [0] U (aw (v':=.bool false) U (cb il) (qO 8 U (hx _ rd)))
theorem qz:∀ (m:Nat) (h:HF) (x:Expr) (fP:cG) (limit:Int) (_:x.dep≤m) (hx:Expr.ok h x fP),Ret prog 123 [.agg (Expr.cells x fP).toArray,I limit] h (I (fG.go m x limit))
 | 0,h,x,fP,limit,hd,hx=>absurd hd (Nat.not_le.2 (Expr.kB _))
 | m+1,h,x,fP,limit,hd,hx=>zu (fG.go m) h x fP limit (fun qh_ qx j5 qlimit qhx qd=>qz m qh_ qx j5 qlimit ob qhx) hx
theorem tR (h:HF) (x:Expr) (fP:cG) (limit:Int) (hx:Expr.ok h x fP):Ret prog 123 [.agg (Expr.cells x fP).toArray,I limit] h (I (fG x limit)):=qz _ h x fP limit (Nat.le_refl _) hx
theorem tT (h:HF) (l:List Version) (e8:Option Addr) (eZ:Nat) (hl:SlC Version.rp h e8 eZ l):Ret prog 49 [.slice e8 l.length eZ] h (.bool (dN l)):=by
 refine sT func49 U ntmps49 U fun X hM hX hF=>?_
 have hs0:dN l=dN l:=rfl
 refine qK 11 [] U (ai hs0 U (fun c1 hs1=>?_) (fun c1 hs2=>?_))
 ·have c1p:=of_decide_eq_true c1
  exact sr (an (nretP [.bool false] (cs hs1)))
 have c1p:=of_decide_eq_false c1
 refine qT 6 U ?_
 refine lp0 l (fun i=>[(0,.slice e8 l.length eZ),(3,I (i:Int))]) ([]) (fun s1 i=>(dN.L1 (dN.K1)) s1) hl.1.1 hs2 ?_ ?_ ?_
 ·rintro i1 fA hs4 e
  exact sr (an (nretP [.bool true] (cs hs4)))
 ·rintro i1 y1 rz1 hd1 dx aL eH hO hs6 hx1 ag1 e
  refine qK 6 [] U (aw (v':=.bool true) U (cb dx) (qO 9 U (aF (gC vf ty105 hl.1 (nthZ aL) (ba aL) U U U (fun _ _ _ e=>e) (fun q2 r2 A2 ok2=>qL 1 [] U (we (j:=3) ty64 A2 U U (aV zc64 (fun b2=>aS 0 ty64 U U U U U U (qL 9 [0] U (bY 5 [24,25,26,27,28,29] 24 29 (decide (40 < (y1.Policy.Offices.length:Int))) U (fun c2 hk1=>?_) (fun e=>?_)))))))))))
  ·exact qL 5 [0] U (hk1 _ U)
  refine aj (bY 5 [30,31,32,33,34,35] 30 35 (decide (20 < (y1.Policy.Rules.length:Int))) U (fun c3 hk2=>?_) (fun e=>?_))
  ·exact qL 5 [0] U (hk2 _ U)
  refine aj (bY 5 [36,37,38,39,40,41] 36 41 (decide (40 < (fG y1.Policy.Change 40))) U (fun c4 hk3=>?_) (fun e=>?_))
  ·exact qL 1 [] U (cW 0 ty62 U U U (av call123 (tR _ _ _ 40 ok2.Policy.Change) U (qO 2 U (hk3 _ U))))
  refine aD (ai hs6 U (fun c5 hs7=>?_) (fun c5 hs8=>?_))
  ·exact sr (an (nretP [.bool false] (cs hs7)))
  refine qT 5 U ?_
  refine lp0 y1.Policy.Rules (fun i=>[(0,.slice e8 l.length eZ),(3,I (i1:Int)),(4,Q b2),(5,I (i:Int))]) ([(b2,O (Policy.cells y1.Policy r2.Policy) 64)]) (fun s3 i=>(dN.L3 ((dN.L1 (dN.K1) rz1))) s3) ok2.Policy.Rules.1.1 hs8 ?_ ?_ ?_
  ·rintro i3 zJ hs10 e
   exact da (qT 2 U (aw (v':=I (((i1+1):Nat):Int)) U (bw ob) (an (bB (L':=[]) js (ag1 hs10)))))
  ·rintro i3 y3 rz3 hd3 D9 sZ HE Lu hs11 hx3 ag2 e
   refine qK 7 [0] U (aw (v':=.bool true) U (cb D9) (qL 10 [0] U (aF (gC si ty79 ok2.Policy.Rules.1 (nthZ sZ) (ba sZ) U U U (fun _ _ _ e=>e) (fun q4 r4 A4 ok4=>qL 1 [] U (we (j:=3) ty62 A4 U U (av call123 (tR _ _ _ 40 ok4.Expr) U (qO 2 U (ai hs11 U (fun c7 hs12=>?_) (fun c7 hs13=>?_))))))))))
   ·have c7p:=of_decide_eq_true c7
    exact sr (an (nretP [.bool false] (cs hs12)))
   have c7p:=of_decide_eq_false c7
   exact aJ (qT 3 U (aw (v':=I (((i3+1):Nat):Int)) U (bw ob) (an (ag2 hs13))))
  rintro i3 hd3 Nc hx e
  exact qK 7 [0] U (aw (v':=.bool false) U (cb Nc) (qO 3 U (hx _ rd)))
 rintro i1 hd1 il hx e
 exact qK 6 [] U (aw (v':=.bool false) U (cb il) (qO 3 U (hx _ rd)))
theorem DS (h:HF) (bL:Register) (ga:dI) (jF:Register.ok h bL ga):Ret prog 10 [.agg (Register.cells bL ga).toArray] h (.bool (jY bL)):=by
 refine sT func10 U ntmps10 U fun X hM hX hF=>?_
 have hs0:jY bL=jY bL:=rfl
 refine sr (cA (fun b1=>qL 10 [0] U (bY 5 [8,9,10,11,12,13] 8 13 (decide (12 < (bL.Deputies.length:Int))) U (fun c1 hk1=>?_) (fun e=>?_))))
 ·exact qL 5 [0] U (hk1 _ U)
 refine aj (bY 5 [14,15,16,17,18,19] 14 19 (decide (12 < (bL.Interests.length:Int))) U (fun c2 hk2=>?_) (fun e=>?_))
 ·exact qL 5 [0] U (hk2 _ U)
 refine aj (bY 5 [20,21,22,23,24,25] 20 25 (decide (12 < (bL.Budgets.length:Int))) U (fun c3 hk3=>?_) (fun e=>?_))
 ·exact qL 5 [0] U (hk3 _ U)
 refine aj (bY 5 [26,27,28,29,30,31] 26 31 (decide (8 < (bL.Docs.length:Int))) U (fun c4 hk4=>?_) (fun e=>?_))
 ·exact qL 5 [0] U (hk4 _ U)
 refine aj (bY 5 [32,33,34,35,36,37] 32 37 (decide (24 < (bL.Approvals.length:Int))) U (fun c5 hk5=>?_) (fun e=>?_))
 ·exact qL 5 [0] U (hk5 _ U)
 refine aj (bY 5 [38,39,40,41,42,43] 38 43 (!(dN bL.Versions)) U (fun c6 hk6=>?_) (fun e=>?_))
 ·exact qL 2 [0] U (av call49 (tT _ _ _ _ jF.Versions) U (qO 2 U (hk6 _ U)))
 refine aD (ai hs0 U (fun c7 hs1=>?_) (fun c7 hs2=>?_))
 ·exact sr (an (nretP [.bool false] (cs hs1)))
 refine qT 6 U ?_
 refine lp0 bL.Docs (fun i=>[(1,Q b1),(3,I (i:Int))]) ([(b1,O (Register.cells bL ga) 30)]) (fun s1 i=>(jY.L1 (jY.K1)) s1) jF.Docs.1.1 hs2 ?_ ?_ ?_
 ·rintro i1 fA hs4 e
  exact sr (an (nretP [.bool true] (cs hs4)))
 ·rintro i1 y1 rz1 hd1 dx aL eH hO hs6 hx1 ag1 e
  refine qK 7 [0] U (aw (v':=.bool true) U (cb dx) (qL 10 [0] U (aF (gC oL ty51 jF.Docs.1 (nthZ aL) (ba aL) U U U (fun _ _ _ e=>e) (fun q3 r3 A3 ok3=>qL 1 [] U (kd (j:=6) ty31 A3 U U (qL 3 [] U (bY 9 [59,60,61,62,63,64,65,66,67,68] 59 68 (decide (20 < (y1.Revokes.length:Int))) U (fun c8 hk7=>?_) (fun e=>?_)))))))))
  ·exact qL 3 [0] U (aF (gC oL ty51 jF.Docs.1 (nthZ aL) (ba aL) U U U (fun _ _ _ e=>e) (fun q4 r4 A4 ok4=>qL 1 [] U (kd (j:=7) ty31 A4 U U (qL 3 [] U (hk7 _ U))))))
  refine aj (bY 9 [69,70,71,72,73,74,75,76,77,78] 69 78 (decide (20 < (y1.Needs.length:Int))) U (fun c9 hk8=>?_) (fun e=>?_))
  ·exact qL 3 [0] U (aF (gC oL ty51 jF.Docs.1 (nthZ aL) (ba aL) U U U (fun _ _ _ e=>e) (fun q5 r5 A5 ok5=>qL 1 [] U (kd (j:=8) ty31 A5 U U (qL 3 [] U (hk8 _ U))))))
  refine aD (ai hs6 U (fun c10 hs7=>?_) (fun c10 hs8=>?_))
  ·exact sr (an (nretP [.bool false] (cs hs7)))
  exact aJ (qT 3 U (aw (v':=I (((i1+1):Nat):Int)) U (bw ob) (an (ag1 hs8))))
 rintro i1 hd1 il hx e
 exact qK 7 [0] U (aw (v':=.bool false) U (cb il) (qO 3 U (hx _ rd)))
theorem sy (h:HF) (bL:Register) (ga:dI) (no:Int) (jF:Register.ok h bL ga):Ret prog 20 [.agg (Register.cells bL ga).toArray,I no] h (I (aQ bL no)):=by
 refine sT func20 U ntmps20 U fun X hM hX hF=>?_
 have hs0:aQ bL no=aQ bL no:=rfl
 refine sr (cA (fun b1=>qO 7 U ?_))
 refine lp0 bL.Docs (fun i=>[(1,I no),(2,Q b1),(5,I (i:Int))]) ([(b1,O (Register.cells bL ga) 30)]) (fun s1 i=>(aQ.L1 no (aQ.K1)) s1 i) jF.Docs.1.1 hs0 ?_ ?_ ?_
 ·rintro i1 fA hs1 e
  exact sr (an (nretP [I (-1)] (ci hs1)))
 ·rintro i1 y1 rz1 hd1 dx aL eH hO hs3 hx1 ag1 e
  refine qK 7 [0] U (aw (v':=.bool true) U (cb dx) (qL 10 [0] U (aF (gC oL ty51 jF.Docs.1 (nthZ aL) (ba aL) U U U (fun _ _ _ e=>e) (fun q2 r2 A2 ok2=>qL 1 [] U (dF ty3 A2 U (qO 3 U (ai hs3 U (fun c2 hs4=>?_) (fun c2 hs5=>?_)))))))))
  ·exact sr (qO 3 U (nretP [I (i1:Int)] (ci hs4)))
  exact aJ (qT 3 U (aw (v':=I (((i1+1):Nat):Int)) U (bw ob) (an (ag1 hs5))))
 rintro i1 hd1 il hx e
 exact qK 7 [0] U (aw (v':=.bool false) U (cb il) (qO 3 U (hx _ rd)))
theorem vE (h:HF) (eo:Int)  : Ret prog 240 [I eo] h (.bool (ma eo)):=by
 refine sT func240 U ntmps240 U fun X hM hX hF=>?_
 have hs0:ma eo=ma eo:=rfl
 refine qT 9 U (bC 3 [5,6,7,8] 5 8 (decide (eo < 1099511627776)) U (fun c1 hk1=>?_) (fun e=>?_))
 ·exact aj (qO 2 U (hk1 _ U))
 exact an (nretP [.bool (decide (0≤eo)&&decide (eo < 1099511627776))] (cs hs0))
theorem zC (h:HF) (eo:Int)  : Ret prog 241 [I eo] h (.bool (my eo)):=by
 refine sT func241 U ntmps241 U fun X hM hX hF=>?_
 have hs0:my eo=my eo:=rfl
 refine qT 9 U (bC 3 [5,6,7,8] 5 8 (decide (eo < 32)) U (fun c1 hk1=>?_) (fun e=>?_))
 ·exact aj (qO 2 U (hk1 _ U))
 exact an (nretP [.bool (decide (0≤eo)&&decide (eo < 32))] (cs hs0))
theorem zB (h:HF) (eo:Int)  : Ret prog 242 [I eo] h (.bool (mw eo)):=by
 refine sT func242 U ntmps242 U fun X hM hX hF=>?_
 have hs0:mw eo=mw eo:=rfl
 refine qT 9 U (bC 3 [5,6,7,8] 5 8 (decide (eo < 64)) U (fun c1 hk1=>?_) (fun e=>?_))
 ·exact aj (qO 2 U (hk1 _ U))
 exact an (nretP [.bool (decide (0≤eo)&&decide (eo < 64))] (cs hs0))
theorem Ba (h:HF) (x:Appoint)  : Ret prog 153 [.agg (Appoint.cells x).toArray] h (.bool (i8 x)):=by
 refine sT func153 U ntmps153 U fun X hM hX hF=>?_
 have hs0:i8 x=i8 x:=rfl
 refine sr (cA (fun b1=>qL 9 [0] U (bY 4 [6,7,8,9,10] 6 10 (decide (1048576 < x.No)) U (fun c1 hk1=>?_) (fun e=>?_))))
 ·exact qL 4 [0] U (hk1 _ U)
 refine aj (bY 5 [11,12,13,14,15,16] 11 16 (!(ma x.At)) U (fun c2 hk2=>?_) (fun e=>?_))
 ·exact qL 2 [0] U (av call240 (vE h x.At) U (qO 2 U (hk2 _ U)))
 refine aj (bY 5 [17,18,19,20,21,22] 17 22 (!(ma x.Known)) U (fun c3 hk3=>?_) (fun e=>?_))
 ·exact qL 2 [0] U (av call240 (vE h x.Known) U (qO 2 U (hk3 _ U)))
 refine aj (bY 5 [23,24,25,26,27,28] 23 28 (!(my x.Office)) U (fun c4 hk4=>?_) (fun e=>?_))
 ·exact qL 2 [0] U (av call241 (zC h x.Office) U (qO 2 U (hk4 _ U)))
 refine aj (bY 5 [29,30,31,32,33,34] 29 34 (!(mw x.Person)) U (fun c5 hk5=>?_) (fun e=>?_))
 ·exact qL 2 [0] U (av call242 (zB h x.Person) U (qO 2 U (hk5 _ U)))
 refine aD (ai hs0 U (fun c6 hs1=>?_) (fun c6 hs2=>?_))
 ·exact sr (an (nretP [.bool false] (cs hs1)))
 refine qK 7 [0] U (ai hs2 U (fun c7 hs4=>?_) (fun c7 hs5=>?_))
 ·exact qK 7 [0] U (nretP [.bool (x.Weight==0)] (cs hs4))
 refine qK 7 [0] U (bC 4 [43,44,45,46,47] 43 47 (decide (x.Weight≤64)) U (fun c8 hk6=>?_) (fun e=>?_))
 ·exact qL 4 [0] U (hk6 _ U)
 exact an (nretP [.bool (decide (1≤x.Weight)&&decide (x.Weight≤64))] (cs hs5))
theorem Bb (h:HF) (l:List Appoint) (e8:Option Addr) (eZ:Nat) (hl:SlC Appoint.rp h e8 eZ l):Ret prog 72 [.slice e8 l.length eZ] h (I (gZ l)):=by
 refine sT func72 U ntmps72 U fun X hM hX hF=>?_
 have hs0:gZ l=gZ l:=rfl
 refine qK 11 [] U (ai hs0 U (fun c1 hs1=>?_) (fun c1 hs2=>?_))
 ·have c1p:=of_decide_eq_true c1
  exact sr (an (nretP [I 2] (ci hs1)))
 have c1p:=of_decide_eq_false c1
 refine qT 6 U ?_
 refine lp0 l (fun i=>[(0,.slice e8 l.length eZ),(3,I (i:Int))]) ([]) (fun s1 i=>(gZ.L1 l (gZ.K1)) s1 i) hl.1.1 hs2 ?_ ?_ ?_
 ·rintro i1 fA hs4 e
  exact sr (an (nretP [I 0] (ci hs4)))
 ·rintro i1 y1 rz1 hd1 dx aL eH hO hs6 hx1 ag1 e
  refine qK 6 [] U (aw (v':=.bool true) U (cb dx) (qO 6 U ?_))
  refine nZ [(0,.slice e8 l.length eZ),(3,I (i1:Int)),(36,.bool ((!(i8 y1))||(decide (0 < (i1:Int))&&decide (y1.No≤(nthI l ((i1:Int) - 1)).No))))] (fun e=>?_) (fun hk1=>?_)
  rotate_left
  ·refine eQ ([]) mixed kr jn (fun dH _=>?_)
   refine qA [0,1] U (fW 2 (enc:=Appoint.cells) dH jn ei Al ty89 hl.1 (nthZ aL) (ba aL) U U U U kr (fun q4 A4=>tf 3 U U (fun _ _ hj=>j9 ty89 (A4.mono hj.1) U U) (tn 4 U (eP call153 (Ba h y1) U (⟨jn,qA [5,6] U ?_⟩)))))
   refine dt 19 U (fun c2=>?_) (fun c2=>?_)
   ·exact tk 7 U U (qR 8 16 U (aW kr (hk1 _ ⟨U,U,(cb (show true=((!(i8 y1))||(decide (0 < (i1:Int))&&decide (y1.No≤(nthI l ((i1:Int) - 1)).No))) from by rw [c2] <;> rfl)),trivial⟩)))
   refine qR 7 3 U ?_
   refine dt 22 U (fun c3=>?_) (fun c3=>?_)
   ·have c3p:=of_decide_eq_true c3
    refine qA [10,11] U (tf 12 U U (fun _ _ _=>np (v':=I ((i1:Int) - 1)) U (jV ob)) ?_)
    have ho2:0≤(((i1:Int) - 1):Int)∧(((i1:Int) - 1):Int) < ((l).length:Int):=ob
    exact fW 13 (enc:=Appoint.cells) dH jn ei Al ty89 hl.1 ho2 (dU ho2) U U U U kr (fun q5 A5=>qB [14] U (tf 15 U U (fun _ _ hj=>eV ty3 (A5.mono hj.1) U) (qA [16,17] U (fW 18 (enc:=Appoint.cells) dH jn ei Al ty89 hl.1 (nthZ aL) (ba aL) U U U U kr (fun q6 A6=>qB [19] U (tf 20 U U (fun _ _ hj=>eV ty3 (A6.mono hj.1) U) (qR 21 3 U (aW kr (hk1 _ ⟨U,U,(cb (show decide (y1.No≤(nthI l ((i1:Int) - 1)).No)=((!(i8 y1))||(decide (0 < (i1:Int))&&decide (y1.No≤(nthI l ((i1:Int) - 1)).No))) from by rw [c2,c3] <;> rfl)),trivial⟩)))))))))
   have c3p:=of_decide_eq_false c3
   exact tk 10 U U (qR 11 13 U (aW kr (hk1 _ ⟨U,U,(cb (show false=((!(i8 y1))||(decide (0 < (i1:Int))&&decide (y1.No≤(nthI l ((i1:Int) - 1)).No))) from by rw [c2,c3] <;> rfl)),trivial⟩)))
  refine ai hs6 U (fun c4 hs7=>?_) (fun c4 hs8=>?_)
  ·exact sr (an (nretP [I 150] (ci hs7)))
  exact aJ (qT 3 U (aw (v':=I (((i1+1):Nat):Int)) U (bw ob) (an (ag1 hs8))))
 rintro i1 hd1 il hx e
 exact qK 6 [] U (aw (v':=.bool false) U (cb il) (qO 3 U (hx _ rd)))
theorem kn (h:HF) (eo:Int) (low:Int) (high:Int)  : Ret prog 243 [I eo,I low,I high] h (.bool (gI eo low high)):=by
 refine sT func243 U ntmps243 U fun X hM hX hF=>?_
 have hs0:gI eo low high=gI eo low high:=rfl
 refine qT 10 U (bC 4 [10,11,12,13,14] 10 14 (decide (eo≤high)) U (fun c1 hk1=>?_) (fun e=>?_))
 ·exact aj (qO 3 U (hk1 _ U))
 exact an (nretP [.bool (decide (low≤eo)&&decide (eo≤high))] (cs hs0))
theorem vD (h:HF) (eo:Int)  : Ret prog 244 [I eo] h (.bool (lZ eo)):=by
 refine sT func244 U ntmps244 U fun X hM hX hF=>?_
 have hs0:lZ eo=lZ eo:=rfl
 exact sr (qO 5 U (av Ev (kn h eo 0 1099511627775) U (an (nretP [.bool (gI eo 0 1099511627775)] (cs hs0)))))
theorem sX (h:HF) (eo:Int)  : Ret prog 245 [I eo] h (.bool (ky eo)):=by
 refine sT func245 U ntmps245 U fun X hM hX hF=>?_
 have hs0:ky eo=ky eo:=rfl
 exact sr (qO 5 U (av Ev (kn h eo 0 63) U (an (nretP [.bool (gI eo 0 63)] (cs hs0)))))
theorem AY (h:HF) (x:Deputy)  : Ret prog 154 [.agg (Deputy.cells x).toArray] h (.bool (i7 x)):=by
 refine sT func154 U ntmps154 U fun X hM hX hF=>?_
 have hs0:i7 x=i7 x:=rfl
 refine sr (cA (fun b1=>qL 7 [0] U (av Ev (kn h x.No 0 1048576) U (qO 2 U (bY 5 [7,8,9,10,11,12] 7 12 (!(lZ x.At)) U (fun c1 hk1=>?_) (fun e=>?_))))))
 ·exact qL 2 [0] U (av call244 (vD h x.At) U (qO 2 U (hk1 _ U)))
 refine aj (bY 5 [13,14,15,16,17,18] 13 18 (!(lZ x.Known)) U (fun c2 hk2=>?_) (fun e=>?_))
 ·exact qL 2 [0] U (av call244 (vD h x.Known) U (qO 2 U (hk2 _ U)))
 refine aj (bY 5 [19,20,21,22,23,24] 19 24 (!(ky x.From)) U (fun c3 hk3=>?_) (fun e=>?_))
 ·exact qL 2 [0] U (av call245 (sX h x.From) U (qO 2 U (hk3 _ U)))
 refine aj (bY 5 [25,26,27,28,29,30] 25 30 (!(ky x.To)) U (fun c4 hk4=>?_) (fun e=>?_))
 ·exact qL 2 [0] U (av call245 (sX h x.To) U (qO 2 U (hk4 _ U)))
 refine aj (bY 6 [31,32,33,34,35,36,37] 31 37 (x.From==x.To) U (fun c5 hk5=>?_) (fun e=>?_))
 ·exact qL 6 [0,0] U (hk5 _ U)
 refine aD (ai hs0 U (fun c6 hs1=>?_) (fun c6 hs2=>?_))
 ·exact sr (an (nretP [.bool false] (cs hs1)))
 refine qK 6 [0] U (av Ev (kn h x.Office 0 31) U (qO 2 U (bY 5 [42,43,44,45,46,47] 42 47 (!(gI x.Kind (-1) 15)) U (fun c7 hk6=>?_) (fun e=>?_))))
 ·exact qL 2 [0] U (av Ev (kn h x.Kind (-1) 15) U (qO 2 U (hk6 _ U)))
 refine aD (ai hs2 U (fun c8 hs4=>?_) (fun c8 hs5=>?_))
 ·exact sr (an (nretP [.bool false] (cs hs4)))
 refine qK 7 [0] U (ai hs5 U (fun c9 hs7=>?_) (fun c9 hs8=>?_))
 ·refine qK 6 [0] U (bC 4 [53,54,55,56,57] 53 57 (x.Most==0) U (fun c10 hk7=>?_) (fun e=>?_))
  ·exact qL 4 [0] U (hk7 _ U)
  exact an (nretP [.bool ((x.Until==0)&&(x.Most==0))] (cs hs7))
 refine qK 9 [0,0] U (bC 4 [63,64,65,66,67] 63 67 (decide (x.Until≤1099511627776)) U (fun c11 hk8=>?_) (fun e=>?_))
 ·exact qL 4 [0] U (hk8 _ U)
 refine aj (bC 4 [68,69,70,71,72] 68 72 (gI x.Most 0 1099511627776) U (fun c12 hk9=>?_) (fun e=>?_))
 ·exact qL 2 [0] U (av Ev (kn h x.Most 0 1099511627776) U (ek U (hk9 _ U)))
 exact an (nretP [.bool ((decide (x.At < x.Until)&&decide (x.Until≤1099511627776))&&(gI x.Most 0 1099511627776))] (cs hs8))
theorem AZ (h:HF) (l:List Deputy) (e8:Option Addr) (eZ:Nat) (hl:SlC Deputy.rp h e8 eZ l):Ret prog 73 [.slice e8 l.length eZ] h (I (gH l)):=by
 refine sT func73 U ntmps73 U fun X hM hX hF=>?_
 have hs0:gH l=gH l:=rfl
 refine qK 11 [] U (ai hs0 U (fun c1 hs1=>?_) (fun c1 hs2=>?_))
 ·have c1p:=of_decide_eq_true c1
  exact sr (an (nretP [I 2] (ci hs1)))
 have c1p:=of_decide_eq_false c1
 refine qT 6 U ?_
 refine lp0 l (fun i=>[(0,.slice e8 l.length eZ),(3,I (i:Int))]) ([]) (fun s1 i=>(gH.L1 l (gH.K1)) s1 i) hl.1.1 hs2 ?_ ?_ ?_
 ·rintro i1 fA hs4 e
  exact sr (an (nretP [I 0] (ci hs4)))
 ·rintro i1 y1 rz1 hd1 dx aL eH hO hs6 hx1 ag1 e
  refine qK 6 [] U (aw (v':=.bool true) U (cb dx) (qO 6 U ?_))
  refine nZ [(0,.slice e8 l.length eZ),(3,I (i1:Int)),(36,.bool ((!(i7 y1))||(decide (0 < (i1:Int))&&decide (y1.No≤(nthI l ((i1:Int) - 1)).No))))] (fun e=>?_) (fun hk1=>?_)
  rotate_left
  ·refine eQ ([]) mixed kr jn (fun dH _=>?_)
   refine qA [0,1] U (fW 2 (enc:=Deputy.cells) dH jn ei tJ ty93 hl.1 (nthZ aL) (ba aL) U U U U kr (fun q4 A4=>tf 3 U U (fun _ _ hj=>j9 ty93 (A4.mono hj.1) U U) (tn 4 U (eP call154 (AY h y1) U (⟨jn,qA [5,6] U ?_⟩)))))
   refine dt 19 U (fun c2=>?_) (fun c2=>?_)
   ·exact tk 7 U U (qR 8 16 U (aW kr (hk1 _ ⟨U,U,(cb (show true=((!(i7 y1))||(decide (0 < (i1:Int))&&decide (y1.No≤(nthI l ((i1:Int) - 1)).No))) from by rw [c2] <;> rfl)),trivial⟩)))
   refine qR 7 3 U ?_
   refine dt 22 U (fun c3=>?_) (fun c3=>?_)
   ·have c3p:=of_decide_eq_true c3
    refine qA [10,11] U (tf 12 U U (fun _ _ _=>np (v':=I ((i1:Int) - 1)) U (jV ob)) ?_)
    have ho2:0≤(((i1:Int) - 1):Int)∧(((i1:Int) - 1):Int) < ((l).length:Int):=ob
    exact fW 13 (enc:=Deputy.cells) dH jn ei tJ ty93 hl.1 ho2 (dU ho2) U U U U kr (fun q5 A5=>qB [14] U (tf 15 U U (fun _ _ hj=>eV ty3 (A5.mono hj.1) U) (qA [16,17] U (fW 18 (enc:=Deputy.cells) dH jn ei tJ ty93 hl.1 (nthZ aL) (ba aL) U U U U kr (fun q6 A6=>qB [19] U (tf 20 U U (fun _ _ hj=>eV ty3 (A6.mono hj.1) U) (qR 21 3 U (aW kr (hk1 _ ⟨U,U,(cb (show decide (y1.No≤(nthI l ((i1:Int) - 1)).No)=((!(i7 y1))||(decide (0 < (i1:Int))&&decide (y1.No≤(nthI l ((i1:Int) - 1)).No))) from by rw [c2,c3] <;> rfl)),trivial⟩)))))))))
   have c3p:=of_decide_eq_false c3
   exact tk 10 U U (qR 11 13 U (aW kr (hk1 _ ⟨U,U,(cb (show false=((!(i7 y1))||(decide (0 < (i1:Int))&&decide (y1.No≤(nthI l ((i1:Int) - 1)).No))) from by rw [c2,c3] <;> rfl)),trivial⟩)))
  refine ai hs6 U (fun c4 hs7=>?_) (fun c4 hs8=>?_)
  ·exact sr (an (nretP [I 160] (ci hs7)))
  exact aJ (qT 3 U (aw (v':=I (((i1+1):Nat):Int)) U (bw ob) (an (ag1 hs8))))
 rintro i1 hd1 il hx e
 exact qK 6 [] U (aw (v':=.bool false) U (cb il) (qO 3 U (hx _ rd)))
theorem vA (h:HF) (t:Int)  : Ret prog 246 [I t] h (.bool (lW t)):=by
 refine sT func246 U ntmps246 U fun X hM hX hF=>?_
 have hs0:lW t=lW t:=rfl
 refine qT 9 U (bC 3 [5,6,7,8] 5 8 (decide (t < 1099511627776)) U (fun c1 hk1=>?_) (fun e=>?_))
 ·exact aj (qO 2 U (hk1 _ U))
 exact an (nretP [.bool (decide (0≤t)&&decide (t < 1099511627776))] (cs hs0))
theorem tU (h:HF) (eo:Int)  : Ret prog 247 [I eo] h (.bool (kX eo)):=by
 refine sT func247 U ntmps247 U fun X hM hX hF=>?_
 have hs0:kX eo=kX eo:=rfl
 refine qT 9 U (bC 3 [5,6,7,8] 5 8 (decide (eo≤1048576)) U (fun c1 hk1=>?_) (fun e=>?_))
 ·exact aj (qO 2 U (hk1 _ U))
 exact an (nretP [.bool (decide (0≤eo)&&decide (eo≤1048576))] (cs hs0))
theorem zw (h:HF) (eo:Int)  : Ret prog 248 [I eo] h (.bool (mu eo)):=by
 refine sT func248 U ntmps248 U fun X hM hX hF=>?_
 have hs0:mu eo=mu eo:=rfl
 refine qT 9 U (bC 3 [5,6,7,8] 5 8 (decide (eo < 64)) U (fun c1 hk1=>?_) (fun e=>?_))
 ·exact aj (qO 2 U (hk1 _ U))
 exact an (nretP [.bool (decide (0≤eo)&&decide (eo < 64))] (cs hs0))
theorem AN (h:HF) (x:Interest)  : Ret prog 155 [.agg (Interest.cells x).toArray] h (.bool (iX x)):=by
 refine sT func155 U ntmps155 U fun X hM hX hF=>?_
 have hs0:iX x=iX x:=rfl
 refine sr (cA (fun b1=>qL 9 [0] U (bY 4 [6,7,8,9,10] 6 10 (decide (1048576 < x.No)) U (fun c1 hk1=>?_) (fun e=>?_))))
 ·exact qL 4 [0] U (hk1 _ U)
 refine aj (bY 5 [11,12,13,14,15,16] 11 16 (!(lW x.At)) U (fun c2 hk2=>?_) (fun e=>?_))
 ·exact qL 2 [0] U (av call246 (vA h x.At) U (qO 2 U (hk2 _ U)))
 refine aj (bY 5 [17,18,19,20,21,22] 17 22 (!(lW x.Known)) U (fun c3 hk3=>?_) (fun e=>?_))
 ·exact qL 2 [0] U (av call246 (vA h x.Known) U (qO 2 U (hk3 _ U)))
 refine aj (bY 5 [23,24,25,26,27,28] 23 28 (!(kX x.Party)) U (fun c4 hk4=>?_) (fun e=>?_))
 ·exact qL 2 [0] U (av call247 (tU h x.Party) U (qO 2 U (hk4 _ U)))
 refine aD (ai hs0 U (fun c5 hs1=>?_) (fun c5 hs2=>?_))
 ·exact sr (an (nretP [.bool false] (cs hs1)))
 refine qK 7 [0] U (ai hs2 U (fun c6 hs4=>?_) (fun c6 hs5=>?_))
 ·refine qK 4 [0] U (av call247 (tU h x.Person) U (aj (bC 6 [34,35,36,37,38,39,40] 34 40 (x.Person != x.Party) U (fun c7 hk5=>?_) (fun e=>?_))))
  ·exact qL 6 [0,0] U (hk5 _ U)
  exact an (nretP [.bool ((kX x.Person)&&(x.Person != x.Party))] (cs hs4))
 exact qK 5 [0] U (av call248 (zw h x.Person) U (an (nretP [.bool (mu x.Person)] (cs hs5))))
theorem AO (h:HF) (l:List Interest) (e8:Option Addr) (eZ:Nat) (hl:SlC Interest.rp h e8 eZ l):Ret prog 74 [.slice e8 l.length eZ] h (I (gE l)):=by
 refine sT func74 U ntmps74 U fun X hM hX hF=>?_
 have hs0:gE l=gE l:=rfl
 refine qK 11 [] U (ai hs0 U (fun c1 hs1=>?_) (fun c1 hs2=>?_))
 ·have c1p:=of_decide_eq_true c1
  exact sr (an (nretP [I 2] (ci hs1)))
 have c1p:=of_decide_eq_false c1
 refine qT 6 U ?_
 refine lp0 l (fun i=>[(0,.slice e8 l.length eZ),(3,I (i:Int))]) ([]) (fun s1 i=>(gE.L1 l (gE.K1)) s1 i) hl.1.1 hs2 ?_ ?_ ?_
 ·rintro i1 fA hs4 e
  exact sr (an (nretP [I 0] (ci hs4)))
 ·rintro i1 y1 rz1 hd1 dx aL eH hO hs6 hx1 ag1 e
  refine qK 6 [] U (aw (v':=.bool true) U (cb dx) (qO 6 U ?_))
  refine nZ [(0,.slice e8 l.length eZ),(3,I (i1:Int)),(36,.bool ((!(iX y1))||(decide (0 < (i1:Int))&&decide (y1.No≤(nthI l ((i1:Int) - 1)).No))))] (fun e=>?_) (fun hk1=>?_)
  rotate_left
  ·refine eQ ([]) mixed kr jn (fun dH _=>?_)
   refine qA [0,1] U (fW 2 (enc:=Interest.cells) dH jn ei sU ty97 hl.1 (nthZ aL) (ba aL) U U U U kr (fun q4 A4=>tf 3 U U (fun _ _ hj=>j9 ty97 (A4.mono hj.1) U U) (tn 4 U (eP call155 (AN h y1) U (⟨jn,qA [5,6] U ?_⟩)))))
   refine dt 19 U (fun c2=>?_) (fun c2=>?_)
   ·exact tk 7 U U (qR 8 16 U (aW kr (hk1 _ ⟨U,U,(cb (show true=((!(iX y1))||(decide (0 < (i1:Int))&&decide (y1.No≤(nthI l ((i1:Int) - 1)).No))) from by rw [c2] <;> rfl)),trivial⟩)))
   refine qR 7 3 U ?_
   refine dt 22 U (fun c3=>?_) (fun c3=>?_)
   ·have c3p:=of_decide_eq_true c3
    refine qA [10,11] U (fW 12 (enc:=Interest.cells) dH jn ei sU ty97 hl.1 (nthZ aL) (ba aL) U U U U kr (fun q5 A5=>qB [13] U (tf 14 U U (fun _ _ hj=>eV ty3 (A5.mono hj.1) U) (qA [15,16] U (tf 17 U U (fun _ _ _=>np (v':=I ((i1:Int) - 1)) U (jV ob)) ?_)))))
    have ho2:0≤(((i1:Int) - 1):Int)∧(((i1:Int) - 1):Int) < ((l).length:Int):=ob
    exact fW 18 (enc:=Interest.cells) dH jn ei sU ty97 hl.1 ho2 (dU ho2) U U U U kr (fun q6 A6=>qB [19] U (tf 20 U U (fun _ _ hj=>eV ty3 (A6.mono hj.1) U) (qR 21 3 U (aW kr (hk1 _ ⟨U,U,(cb (show decide (y1.No≤(nthI l ((i1:Int) - 1)).No)=((!(iX y1))||(decide (0 < (i1:Int))&&decide (y1.No≤(nthI l ((i1:Int) - 1)).No))) from by rw [c2,c3] <;> rfl)),trivial⟩)))))
   have c3p:=of_decide_eq_false c3
   exact tk 10 U U (qR 11 13 U (aW kr (hk1 _ ⟨U,U,(cb (show false=((!(iX y1))||(decide (0 < (i1:Int))&&decide (y1.No≤(nthI l ((i1:Int) - 1)).No))) from by rw [c2,c3] <;> rfl)),trivial⟩)))
  refine ai hs6 U (fun c4 hs7=>?_) (fun c4 hs8=>?_)
  ·exact sr (an (nretP [I 290] (ci hs7)))
  exact aJ (qT 3 U (aw (v':=I (((i1+1):Nat):Int)) U (bw ob) (an (ag1 hs8))))
 rintro i1 hd1 il hx e
 exact qK 6 [] U (aw (v':=.bool false) U (cb il) (qO 3 U (hx _ rd)))
theorem lx (h:HF) (eo:Int) (least:Int) (most:Int)  : Ret prog 227 [I eo,I least,I most] h (.bool (hZ eo least most)):=by
 refine sT func227 U ntmps227 U fun X hM hX hF=>?_
 have hs0:hZ eo least most=hZ eo least most:=rfl
 refine qT 10 U (bC 4 [10,11,12,13,14] 10 14 (decide (eo≤most)) U (fun c1 hk1=>?_) (fun e=>?_))
 ·exact aj (qO 3 U (hk1 _ U))
 exact an (nretP [.bool (decide (least≤eo)&&decide (eo≤most))] (cs hs0))
theorem sW (h:HF) (eo:Int)  : Ret prog 228 [I eo] h (.bool (kx eo)):=by
 refine sT func228 U ntmps228 U fun X hM hX hF=>?_
 have hs0:kx eo=kx eo:=rfl
 refine qT 9 U (bC 3 [5,6,7,8] 5 8 (decide (eo < 1099511627776)) U (fun c1 hk1=>?_) (fun e=>?_))
 ·exact aj (qO 2 U (hk1 _ U))
 exact an (nretP [.bool (decide (0≤eo)&&decide (eo < 1099511627776))] (cs hs0))
theorem AU (h:HF) (x:Budget)  : Ret prog 156 [.agg (Budget.cells x).toArray] h (.bool (i5 x)):=by
 refine sT func156 U ntmps156 U fun X hM hX hF=>?_
 have hs0:i5 x=i5 x:=rfl
 refine sr (cA (fun b1=>qL 7 [0] U (av GV (lx h x.No 0 1048576) U (qO 2 U (bY 5 [7,8,9,10,11,12] 7 12 (!(kx x.At)) U (fun c1 hk1=>?_) (fun e=>?_))))))
 ·exact qL 2 [0] U (av call228 (sW h x.At) U (qO 2 U (hk1 _ U)))
 refine aj (bY 5 [13,14,15,16,17,18] 13 18 (!(kx x.Known)) U (fun c2 hk2=>?_) (fun e=>?_))
 ·exact qL 2 [0] U (av call228 (sW h x.Known) U (qO 2 U (hk2 _ U)))
 refine aj (bY 5 [19,20,21,22,23,24] 19 24 (!(hZ x.Kind (-1) 15)) U (fun c3 hk3=>?_) (fun e=>?_))
 ·exact qL 2 [0] U (av GV (lx h x.Kind (-1) 15) U (qO 2 U (hk3 _ U)))
 refine aj (bY 5 [25,26,27,28,29,30] 25 30 (!(hZ x.Period 1 1099511627776)) U (fun c4 hk4=>?_) (fun e=>?_))
 ·exact qL 2 [0] U (av GV (lx h x.Period 1 1099511627776) U (qO 2 U (hk4 _ U)))
 refine aD (ai hs0 U (fun c5 hs1=>?_) (fun c5 hs2=>?_))
 ·exact sr (an (nretP [.bool false] (cs hs1)))
 refine qK 7 [0] U (ai hs2 U (fun c6 hs4=>?_) (fun c6 hs5=>?_))
 ·refine qK 6 [0] U (bC 4 [36,37,38,39,40] 36 40 (x.Value==0) U (fun c7 hk5=>?_) (fun e=>?_))
  ·exact qL 4 [0] U (hk5 _ U)
  exact an (nretP [.bool ((x.Count==0)&&(x.Value==0))] (cs hs4))
 refine qK 5 [0] U (av GV (lx h x.Count 0 1048576) U (aj (bC 4 [44,45,46,47,48] 44 48 (hZ x.Value 0 1099511627776) U (fun c8 hk6=>?_) (fun e=>?_))))
 ·exact qL 2 [0] U (av GV (lx h x.Value 0 1099511627776) U (ek U (hk6 _ U)))
 exact an (nretP [.bool ((hZ x.Count 0 1048576)&&(hZ x.Value 0 1099511627776))] (cs hs5))
theorem AV (h:HF) (l:List Budget) (e8:Option Addr) (eZ:Nat) (hl:SlC Budget.rp h e8 eZ l):Ret prog 75 [.slice e8 l.length eZ] h (I (gG l)):=by
 refine sT func75 U ntmps75 U fun X hM hX hF=>?_
 have hs0:gG l=gG l:=rfl
 refine qK 11 [] U (ai hs0 U (fun c1 hs1=>?_) (fun c1 hs2=>?_))
 ·have c1p:=of_decide_eq_true c1
  exact sr (an (nretP [I 2] (ci hs1)))
 have c1p:=of_decide_eq_false c1
 refine qT 6 U ?_
 refine lp0 l (fun i=>[(0,.slice e8 l.length eZ),(3,I (i:Int))]) ([]) (fun s1 i=>(gG.L1 l (gG.K1)) s1 i) hl.1.1 hs2 ?_ ?_ ?_
 ·rintro i1 fA hs4 e
  exact sr (an (nretP [I 0] (ci hs4)))
 ·rintro i1 y1 rz1 hd1 dx aL eH hO hs6 hx1 ag1 e
  refine qK 6 [] U (aw (v':=.bool true) U (cb dx) (qO 6 U ?_))
  refine nZ [(0,.slice e8 l.length eZ),(3,I (i1:Int)),(36,.bool ((!(i5 y1))||(decide (0 < (i1:Int))&&decide (y1.No≤(nthI l ((i1:Int) - 1)).No))))] (fun e=>?_) (fun hk1=>?_)
  rotate_left
  ·refine eQ ([]) mixed kr jn (fun dH _=>?_)
   refine qA [0,1] U (fW 2 (enc:=Budget.cells) dH jn ei vy ty101 hl.1 (nthZ aL) (ba aL) U U U U kr (fun q4 A4=>tf 3 U U (fun _ _ hj=>j9 ty101 (A4.mono hj.1) U U) (tn 4 U (eP call156 (AU h y1) U (⟨jn,qA [5,6] U ?_⟩)))))
   refine dt 19 U (fun c2=>?_) (fun c2=>?_)
   ·exact tk 7 U U (qR 8 16 U (aW kr (hk1 _ ⟨U,U,(cb (show true=((!(i5 y1))||(decide (0 < (i1:Int))&&decide (y1.No≤(nthI l ((i1:Int) - 1)).No))) from by rw [c2] <;> rfl)),trivial⟩)))
   refine qR 7 3 U ?_
   refine dt 22 U (fun c3=>?_) (fun c3=>?_)
   ·have c3p:=of_decide_eq_true c3
    refine qA [10,11] U (tf 12 U U (fun _ _ _=>np (v':=I ((i1:Int) - 1)) U (jV ob)) ?_)
    have ho2:0≤(((i1:Int) - 1):Int)∧(((i1:Int) - 1):Int) < ((l).length:Int):=ob
    exact fW 13 (enc:=Budget.cells) dH jn ei vy ty101 hl.1 ho2 (dU ho2) U U U U kr (fun q5 A5=>qB [14] U (tf 15 U U (fun _ _ hj=>eV ty3 (A5.mono hj.1) U) (qA [16,17] U (fW 18 (enc:=Budget.cells) dH jn ei vy ty101 hl.1 (nthZ aL) (ba aL) U U U U kr (fun q6 A6=>qB [19] U (tf 20 U U (fun _ _ hj=>eV ty3 (A6.mono hj.1) U) (qR 21 3 U (aW kr (hk1 _ ⟨U,U,(cb (show decide (y1.No≤(nthI l ((i1:Int) - 1)).No)=((!(i5 y1))||(decide (0 < (i1:Int))&&decide (y1.No≤(nthI l ((i1:Int) - 1)).No))) from by rw [c2,c3] <;> rfl)),trivial⟩)))))))))
   have c3p:=of_decide_eq_false c3
   exact tk 10 U U (qR 11 13 U (aW kr (hk1 _ ⟨U,U,(cb (show false=((!(i5 y1))||(decide (0 < (i1:Int))&&decide (y1.No≤(nthI l ((i1:Int) - 1)).No))) from by rw [c2,c3] <;> rfl)),trivial⟩)))
  refine ai hs6 U (fun c4 hs7=>?_) (fun c4 hs8=>?_)
  ·exact sr (an (nretP [I 180] (ci hs7)))
  exact aJ (qT 3 U (aw (v':=I (((i1+1):Nat):Int)) U (bw ob) (an (ag1 hs8))))
 rintro i1 hd1 il hx e
 exact qK 6 [] U (aw (v':=.bool false) U (cb il) (qO 3 U (hx _ rd)))
theorem oa (h:HF) (eo:Int)  : Ret prog 157 [I eo] h (.bool (fd eo)):=by
 refine sT func157 U ntmps157 U fun X hM hX hF=>?_
 have hs0:fd eo=fd eo:=rfl
 refine qT 9 U (bC 3 [5,6,7,8] 5 8 (decide (eo < 1099511627776)) U (fun c1 hk1=>?_) (fun e=>?_))
 ·exact aj (qO 2 U (hk1 _ U))
 exact an (nretP [.bool (decide (0≤eo)&&decide (eo < 1099511627776))] (cs hs0))
theorem zz (rec:Expr→Int→Int) (h:HF) (x:Expr) (fP:cG) (limit:Int) (hrec:∀ (h:HF) (qx:Expr) (j5:cG) (qlimit:Int) (hqx:Expr.ok h qx j5) (_:qx.dep < x.dep),Ret prog 366 [.agg (Expr.cells qx j5).toArray,I qlimit] h (I (rec qx qlimit))) (hx:Expr.ok h x fP):Ret prog 366 [.agg (Expr.cells x fP).toArray,I limit] h (I (dl.F rec x limit)):=by
 refine sT func366 U ntmps366 U fun X hM hX hF=>?_
 have hs0:dl.F rec x limit=dl.F rec x limit:=rfl
 refine sr (cA (fun b1=>qO 11 U ?_))
 refine lp1 x.L (fun i w=>[(1,I limit),(2,Q b1),(5,I w),(6,I (i:Int))]) ([(b1,O (Expr.cells x fP) 62)]) (fun s1 i w=>(dl.L1 rec limit (dl.K1)) s1 w) 1 hx.list.1.1 hs0 ?_ ?_ ?_
 ·rintro i1 iJ fA hs1 e
  exact sr (qO 3 U (nretP [I iJ] (ci hs1)))
 ·rintro i1 iJ y1 rz1 hd1 dx aL eH hO hs3 hx1 ag1 e
  refine qK 7 [0] U (aw (v':=.bool true) U (cb dx) (qO 6 U (ai hs3 U (fun c2 hs4=>?_) (fun c2 hs5=>?_))))
  ·have c2p:=of_decide_eq_true c2
   exact qK 8 [0] U (aF (gC kk ty62 hx.list.1 (nthZ aL) (ba aL) U U U (fun _ _ _ e=>e) (fun q2 r2 A2 ok2=>dz ty62 A2 U U (qO 3 U (av call366 (hrec _ _ _ (IntKind.wrap .i64 (limit - iJ)) ok2 (Expr.iU (gi hd1))) U (qO 6 U (aw (v':=I (((i1+1):Nat):Int)) U (bw ob) (qO 2 U (ag1 (IntKind.wrap .i64 (iJ+(rec y1 (IntKind.wrap .i64 (limit - iJ))))) hs4)))))))))
  have c2p:=of_decide_eq_false c2
  exact kv U (hx1 i1 iJ hs5)
 rintro i1 iJ hd1 il hx e
 exact qK 7 [0] U (aw (v':=.bool false) U (cb il) (qO 8 U (hx _ rd)))
theorem qH:∀ (m:Nat) (h:HF) (x:Expr) (fP:cG) (limit:Int) (_:x.dep≤m) (hx:Expr.ok h x fP),Ret prog 366 [.agg (Expr.cells x fP).toArray,I limit] h (I (dl.go m x limit))
 | 0,h,x,fP,limit,hd,hx=>absurd hd (Nat.not_le.2 (Expr.kB _))
 | m+1,h,x,fP,limit,hd,hx=>zz (dl.go m) h x fP limit (fun qh_ qx j5 qlimit qhx qd=>qH m qh_ qx j5 qlimit ob qhx) hx
theorem AS (h:HF) (x:Expr) (fP:cG) (limit:Int) (hx:Expr.ok h x fP):Ret prog 366 [.agg (Expr.cells x fP).toArray,I limit] h (I (dl x limit)):=qH _ h x fP limit (Nat.le_refl _) hx
theorem zA (rec:Expr→Int) (h:HF) (x:Expr) (fP:cG) (hrec:∀ (h:HF) (qx:Expr) (j5:cG) (hqx:Expr.ok h qx j5) (_:qx.dep < x.dep),Ret prog 367 [.agg (Expr.cells qx j5).toArray] h (I (rec qx))) (hx:Expr.ok h x fP):Ret prog 367 [.agg (Expr.cells x fP).toArray] h (I (bj.F rec x)):=by
 refine sT func367 U ntmps367 U fun X hM hX hF=>?_
 have hs0:bj.F rec x=bj.F rec x:=rfl
 refine sr (cA (fun b1=>qO 11 U ?_))
 refine lp1 x.L (fun i w=>[(1,Q b1),(3,I w),(4,I (i:Int))]) ([(b1,O (Expr.cells x fP) 62)]) (fun s1 i w=>(bj.L1 rec (bj.K1)) s1 w) 0 hx.list.1.1 hs0 ?_ ?_ ?_
 ·rintro i1 ii fA hs1 e
  exact sr (qO 4 U (nretP [I (IntKind.wrap .i64 (ii+1))] (ci hs1)))
 ·rintro i1 ii y1 rz1 hd1 dx aL eH hO hs3 hx1 ag1 e
  exact qK 7 [0] U (aw (v':=.bool true) U (cb dx) (qL 10 [0] U (aF (gC kk ty62 hx.list.1 (nthZ aL) (ba aL) U U U (fun _ _ _ e=>e) (fun q2 r2 A2 ok2=>dz ty62 A2 U U (av call367 (hrec _ _ _ ok2 (Expr.iU (gi hd1))) U (aF (fg (LV U U) (qO 5 U (aw (v':=I (((i1+1):Nat):Int)) U (bw ob) (an (ag1 (max ii (rec y1)) hs3))))))))))))
 rintro i1 ii hd1 il hx e
 exact qK 7 [0] U (aw (v':=.bool false) U (cb il) (qO 3 U (hx _ rd)))
theorem qI:∀ (m:Nat) (h:HF) (x:Expr) (fP:cG) (_:x.dep≤m) (hx:Expr.ok h x fP),Ret prog 367 [.agg (Expr.cells x fP).toArray] h (I (bj.go m x))
 | 0,h,x,fP,hd,hx=>absurd hd (Nat.not_le.2 (Expr.kB _))
 | m+1,h,x,fP,hd,hx=>zA (bj.go m) h x fP (fun qh_ qx j5 qhx qd=>qI m qh_ qx j5 ob qhx) hx
theorem AT (h:HF) (x:Expr) (fP:cG) (hx:Expr.ok h x fP):Ret prog 367 [.agg (Expr.cells x fP).toArray] h (I (bj x)):=qI _ h x fP (Nat.le_refl _) hx
theorem tW (h:HF) (x:Expr) (fP:cG) (hx:Expr.ok h x fP):Ret prog 338 [.agg (Expr.cells x fP).toArray] h (.bool (iZ x)):=by
 refine sT func338 U ntmps338 U fun X hM hX hF=>?_
 have hs0:iZ x=iZ x:=rfl
 refine sr (cA (fun b1=>qO 4 U (cW 0 ty62 U U U (av call366 (AS _ _ _ 256 hx) U (qO 2 U (bY 4 [6,7,8,9,10] 6 10 (decide (16 < (bj x))) U (fun c1 hk1=>?_) (fun e=>?_)))))))
 ·exact cW 0 ty62 U U U (av call367 (AT _ _ _ hx) U (qO 2 U (hk1 _ U)))
 exact an (nretP [.bool (decide (256 < (dl x 256))||decide (16 < (bj x)))] (cs hs0))
theorem w4 (h:HF) (p:Policy) (fL:el) (hp:Policy.ok h p fL):Ret prog 304 [.agg (Policy.cells p fL).toArray] h (.bool (eL p)):=by
 refine sT func304 U ntmps304 U fun X hM hX hF=>?_
 have hs0:eL p=eL p:=rfl
 refine sr (cA (fun b1=>qL 10 [0] U (bY 5 [8,9,10,11,12,13] 8 13 (decide (16 < (p.Kinds.length:Int))) U (fun c1 hk1=>?_) (fun e=>?_))))
 ·exact qL 5 [0] U (hk1 _ U)
 refine aj (bY 5 [14,15,16,17,18,19] 14 19 (decide (16 < (p.Rules.length:Int))) U (fun c2 hk2=>?_) (fun e=>?_))
 ·exact qL 5 [0] U (hk2 _ U)
 refine aj (bY 4 [20,21,22,23,24] 20 24 (iZ p.Change) U (fun c3 hk3=>?_) (fun e=>?_))
 ·exact qL 1 [] U (cW 0 ty62 U U U (av call338 (tW _ _ _ hp.Change) U (ek U (hk3 _ U))))
 refine aD (ai hs0 U (fun c4 hs1=>?_) (fun c4 hs2=>?_))
 ·exact sr (an (nretP [.bool true] (cs hs1)))
 refine qT 6 U ?_
 refine lp0 p.Rules (fun i=>[(1,Q b1),(3,I (i:Int))]) ([(b1,O (Policy.cells p fL) 64)]) (fun s1 i=>(eL.L1 (eL.K1)) s1) hp.Rules.1.1 hs2 ?_ ?_ ?_
 ·rintro i1 fA hs4 e
  exact sr (an (nretP [.bool false] (cs hs4)))
 ·rintro i1 y1 rz1 hd1 dx aL eH hO hs6 hx1 ag1 e
  refine qK 7 [0] U (aw (v':=.bool true) U (cb dx) (qL 10 [0] U (aF (gC si ty79 hp.Rules.1 (nthZ aL) (ba aL) U U U (fun _ _ _ e=>e) (fun q2 r2 A2 ok2=>qL 1 [] U (we (j:=3) ty62 A2 U U (av call338 (tW _ _ _ ok2.Expr) U (aD (ai hs6 U (fun c6 hs7=>?_) (fun c6 hs8=>?_))))))))))
  ·exact sr (an (nretP [.bool true] (cs hs7)))
  exact aJ (qT 3 U (aw (v':=I (((i1+1):Nat):Int)) U (bw ob) (an (ag1 hs8))))
 rintro i1 hd1 il hx e
 exact qK 7 [0] U (aw (v':=.bool false) U (cb il) (qO 3 U (hx _ rd)))
theorem sY (h:HF) (c:Int)  : Ret prog 379 [Y c] h (.bool (jQ c)):=by
 refine sT func379 U ntmps379 U fun X hM hX hF=>?_
 have hs0:jQ c=jQ c:=rfl
 refine qT 9 U (bC 3 [5,6,7,8] 5 8 (decide (c≤122)) U (fun c1 hk1=>?_) (fun e=>?_))
 ·exact aj (qO 2 U (hk1 _ U))
 refine aj (bY 7 [9,10,11,12,13,14,15,16] 9 16 (decide (65≤c)&&decide (c≤90)) U (fun c2 hk2=>?_) (fun e=>?_))
 ·refine qO 3 U (bC 3 [12,13,14,15] 12 15 (decide (c≤90)) U (fun c3 hk3=>?_) (fun e=>?_))
  ·exact aj (qO 2 U (hk3 _ U))
  exact ek U (hk2 _ U)
 exact an (nretP [.bool ((decide (97≤c)&&decide (c≤122))||(decide (65≤c)&&decide (c≤90)))] (cs hs0))
theorem zD (h:HF) (c:Int)  : Ret prog 386 [Y c] h (.bool (lm c)):=by
 refine sT func386 U ntmps386 U fun X hM hX hF=>?_
 have hs0:lm c=lm c:=rfl
 refine qT 9 U (bC 3 [5,6,7,8] 5 8 (decide (c≤57)) U (fun c1 hk1=>?_) (fun e=>?_))
 ·exact aj (qO 2 U (hk1 _ U))
 exact an (nretP [.bool (decide (48≤c)&&decide (c≤57))] (cs hs0))
theorem Cs (h:HF) (c:Int)  : Ret prog 380 [Y c] h (.bool (n0 c)):=by
 refine sT func380 U ntmps380 U fun X hM hX hF=>?_
 have hs0:n0 c=n0 c:=rfl
 refine qT 7 U (av call379 (sY h c) U (aj (bY 3 [5,6,7,8] 5 8 (lm c) U (fun c1 hk1=>?_) (fun e=>?_))))
 ·exact aj (av call386 (zD h c) U (ek U (hk1 _ U)))
 refine aj (bY 3 [9,10,11,12] 9 12 (c==95) U (fun c2 hk2=>?_) (fun e=>?_))
 ·exact aj (qO 2 U (hk2 _ U))
 exact an (nretP [.bool (((jQ c)||(lm c))||(c==95))] (cs hs0))
theorem Ct (h:HF) (s:ByteArray)  : Ret prog 368 [.string s] h (.bool (gh s)):=by
 refine sT func368 U ntmps368 U fun X hM hX hF=>?_
 have hs0:gh s=gh s:=rfl
 refine qT 8 U (aF (fg (xV wK U) (qO 2 U (bY 4 [7,8,9,10,11] 7 11 (decide (32 < (s.size:Int))) U (fun c1 hk1=>?_) (fun e=>?_)))))
 ·exact aj (aF (fg (xV wK U) (qO 2 U (hk1 _ U))))
 refine aj (bY 5 [12,13,14,15,16,17] 12 17 (!(jQ ((s.data.getD (0:Int).toNat 0).toNat:Int))) U (fun c2 hk2=>?_) (fun e=>?_))
 ·refine aj ?_
  have ho1:0≤(0:Int)∧(0:Int) < (s.size:Int):=ob
  exact aF (fg (DV wK U U ho1) (av call379 (sY h ((s.data.getD (0:Int).toNat 0).toNat:Int)) U (qO 2 U (hk2 _ U))))
 refine aD (ai hs0 U (fun c3 hs1=>?_) (fun c3 hs2=>?_))
 ·exact sr (an (nretP [.bool false] (cs hs1)))
 refine qT 6 U ?_
 refine jx (ι:=Nat) (fun i=>[]) (fun i=>h) (fun i=>[]) (fun i=>i≤(List.range s.size).length∧gh s=((gh.K1))) ?_ (fun hx1=>?_)
 ·rintro i1 ⟨fA,hs4⟩ e
  exact sr (an (nretP [.bool true] (cs hs4)))
 refine ku (ι:=Nat×List Nat) (fun i=>[(0,.string s),(3,I (i.1:Int))]) (fun i=>h) (fun i=>[]) (fun i=>(List.range s.size).drop i.1=i.2∧i.1≤(List.range s.size).length∧gh s=((gh.L1 s (gh.K1)) i.2 i.1)) (fun i=>i.2.length) (0,(List.range s.size)) rd sw ⟨U,Nat.zero_le _,hs2⟩ ?_
 rintro ⟨i1,s1⟩ ⟨hd1,fA,hs6⟩ ag1 e
 rcases s1 with _ | ⟨y1,rz1⟩
 ·have il:decide ((i1:Int) < (s.size:Int))=false:=by simpa using nH hd1
  exact aR (qT 4 U (aF (fg (xV wK U) (aw (v':=.bool false) U (cb il) (qO 3 U (hx1 i1 _ ⟨fA,hs6⟩ trivial))))))
 have dx:decide ((i1:Int) < (s.size:Int))=true:=by simpa using rW hd1
 have eH:i1 < s.size:=by simpa using jr hd1
 refine qT 5 U (aF (fg (xV wK U) (aw (v':=.bool true) U (cb dx) (qO 9 U ?_))))
 have ho3:0≤((i1:Int):Int)∧((i1:Int):Int) < (s.size:Int):=ob
 refine aF (fg (DV wK U U ho3) (av call380 (Cs h ((s.data.getD ((i1:Int):Int).toNat 0).toNat:Int)) U (qO 2 U (ai hs6 U (fun c5 hs8=>?_) (fun c5 hs9=>?_)))))
 ·exact sr (an (nretP [.bool false] (cs hs8)))
 exact aJ (qT 3 U (aw (v':=I (((i1+1):Nat):Int)) U (bw ob) (an (ag1 ((i1+1),rz1) _ (Nat.lt_succ_self _) ⟨lQ hd1,jr hd1,hs9⟩ rd))))
theorem Co (h:HF) (s:ByteArray)  : Ret prog 369 [.string s] h (.bool (lY s)):=by
 refine sT func369 U ntmps369 U fun X hM hX hF=>?_
 have hs0:lY s=lY s:=rfl
 refine qT 16 U (ai hs0 U (fun c1 hs1=>?_) (fun c1 hs2=>?_))
 ·refine aJ (ai hs1 U (fun c2 hs3=>?_) (fun c2 hs4=>?_))
  ·exact sr (an (nretP [.bool true] (cs hs3)))
  exact aJ (qT 5 U (nretP [.bool false] (cs hs4)))
 refine qT 5 U (ai hs2 U (fun c3 hs7=>?_) (fun c3 hs8=>?_))
 ·refine aJ (ai hs7 U (fun c4 hs9=>?_) (fun c4 hs10=>?_))
  ·exact sr (an (nretP [.bool true] (cs hs9)))
  exact aJ (qT 5 U (nretP [.bool false] (cs hs10)))
 refine qT 5 U (ai hs8 U (fun c5 hs13=>?_) (fun c5 hs14=>?_))
 ·refine aJ (ai hs13 U (fun c6 hs15=>?_) (fun c6 hs16=>?_))
  ·exact sr (an (nretP [.bool true] (cs hs15)))
  exact aJ (qT 5 U (nretP [.bool false] (cs hs16)))
 refine qT 5 U (ai hs14 U (fun c7 hs19=>?_) (fun c7 hs20=>?_))
 ·refine aJ (ai hs19 U (fun c8 hs21=>?_) (fun c8 hs22=>?_))
  ·exact sr (an (nretP [.bool true] (cs hs21)))
  exact aJ (qT 5 U (nretP [.bool false] (cs hs22)))
 refine qT 5 U (ai hs20 U (fun c9 hs25=>?_) (fun c9 hs26=>?_))
 ·refine aJ (ai hs25 U (fun c10 hs27=>?_) (fun c10 hs28=>?_))
  ·exact sr (an (nretP [.bool true] (cs hs27)))
  exact aJ (qT 5 U (nretP [.bool false] (cs hs28)))
 refine qT 5 U (ai hs26 U (fun c11 hs31=>?_) (fun c11 hs32=>?_))
 ·refine aJ (ai hs31 U (fun c12 hs33=>?_) (fun c12 hs34=>?_))
  ·exact sr (an (nretP [.bool true] (cs hs33)))
  exact aJ (qT 5 U (nretP [.bool false] (cs hs34)))
 refine qT 5 U (ai hs32 U (fun c13 hs37=>?_) (fun c13 hs38=>?_))
 ·refine aJ (ai hs37 U (fun c14 hs39=>?_) (fun c14 hs40=>?_))
  ·exact sr (an (nretP [.bool true] (cs hs39)))
  exact aJ (qT 5 U (nretP [.bool false] (cs hs40)))
 refine qT 5 U (ai hs38 U (fun c15 hs43=>?_) (fun c15 hs44=>?_))
 ·refine aJ (ai hs43 U (fun c16 hs45=>?_) (fun c16 hs46=>?_))
  ·exact sr (an (nretP [.bool true] (cs hs45)))
  exact aJ (qT 5 U (nretP [.bool false] (cs hs46)))
 refine qT 5 U (ai hs44 U (fun c17 hs49=>?_) (fun c17 hs50=>?_))
 ·refine aJ (ai hs49 U (fun c18 hs51=>?_) (fun c18 hs52=>?_))
  ·exact sr (an (nretP [.bool true] (cs hs51)))
  exact aJ (qT 5 U (nretP [.bool false] (cs hs52)))
 refine qT 5 U (ai hs50 U (fun c19 hs55=>?_) (fun c19 hs56=>?_))
 ·refine aJ (ai hs55 U (fun c20 hs57=>?_) (fun c20 hs58=>?_))
  ·exact sr (an (nretP [.bool true] (cs hs57)))
  exact aJ (qT 5 U (nretP [.bool false] (cs hs58)))
 refine qT 5 U (ai hs56 U (fun c21 hs61=>?_) (fun c21 hs62=>?_))
 ·refine aJ (ai hs61 U (fun c22 hs63=>?_) (fun c22 hs64=>?_))
  ·exact sr (an (nretP [.bool true] (cs hs63)))
  exact aJ (qT 5 U (nretP [.bool false] (cs hs64)))
 refine qT 5 U (ai hs62 U (fun c23 hs67=>?_) (fun c23 hs68=>?_))
 ·refine aJ (ai hs67 U (fun c24 hs69=>?_) (fun c24 hs70=>?_))
  ·exact sr (an (nretP [.bool true] (cs hs69)))
  exact aJ (qT 5 U (nretP [.bool false] (cs hs70)))
 refine qT 5 U (ai hs68 U (fun c25 hs73=>?_) (fun c25 hs74=>?_))
 ·refine aJ (ai hs73 U (fun c26 hs75=>?_) (fun c26 hs76=>?_))
  ·exact sr (an (nretP [.bool true] (cs hs75)))
  exact aJ (qT 5 U (nretP [.bool false] (cs hs76)))
 refine qT 5 U (ai hs74 U (fun c27 hs79=>?_) (fun c27 hs80=>?_))
 ·refine aJ (ai hs79 U (fun c28 hs81=>?_) (fun c28 hs82=>?_))
  ·exact sr (an (nretP [.bool true] (cs hs81)))
  exact aJ (qT 5 U (nretP [.bool false] (cs hs82)))
 refine qT 5 U (ai hs80 U (fun c29 hs85=>?_) (fun c29 hs86=>?_))
 ·refine aJ (ai hs85 U (fun c30 hs87=>?_) (fun c30 hs88=>?_))
  ·exact sr (an (nretP [.bool true] (cs hs87)))
  exact aJ (qT 5 U (nretP [.bool false] (cs hs88)))
 refine qT 4 U (ai hs86 U (fun c31 hs91=>?_) (fun c31 hs92=>?_))
 ·exact sr (an (nretP [.bool true] (cs hs91)))
 exact aJ (qT 5 U (nretP [.bool false] (cs hs92)))
theorem vC (h:HF) (s:ByteArray)  : Ret prog 339 [.string s] h (.bool (ll s)):=by
 refine sT func339 U ntmps339 U fun X hM hX hF=>?_
 have hs0:ll s=ll s:=rfl
 refine qT 7 U (av call368 (Ct h s) U (aj (bC 4 [5,6,7,8,9] 5 9 (!(lY s)) U (fun c1 hk1=>?_) (fun e=>?_))))
 ·exact aj (av call369 (Co h s) U (qO 2 U (hk1 _ U)))
 exact an (nretP [.bool ((gh s)&&(!(lY s)))] (cs hs0))
theorem pO (h:HF) (l:List ByteArray) (e8:Option Addr) (eZ:Nat) (s:ByteArray) (hl:SlC Rp.str h e8 eZ l):Ret prog 343 [.slice e8 l.length eZ,.string s] h (I (ed l s)):=by
 refine sT func343 U ntmps343 U fun X hM hX hF=>?_
 have hs0:ed l s=ed l s:=rfl
 refine qT 9 U ?_
 refine lp0 l (fun i=>[(0,.slice e8 l.length eZ),(1,.string s),(5,I (i:Int))]) ([]) (fun s1 i=>(ed.L1 s (ed.K1)) s1 i) hl.1.1 hs0 ?_ ?_ ?_
 ·rintro i1 fA hs1 e
  exact sr (an (nretP [I (-1)] (ci hs1)))
 ·rintro i1 y1 rz1 hd1 dx aL eH hO hs3 hx1 ag1 e
  refine qK 6 [] U (aw (v':=.bool true) U (cb dx) (qO 9 U (aF (fj (enc:=fun y=>[.string y]) ei xQ ty9 hl.1 (nthZ aL) (ba aL) U U U (fun q2 A2=>dF ty9 A2 U (qO 3 U (ai hs3 U (fun c2 hs4=>?_) (fun c2 hs5=>?_))))))))
  ·exact sr (qO 3 U (nretP [I (i1:Int)] (ci hs4)))
  exact aJ (qT 3 U (aw (v':=I (((i1+1):Nat):Int)) U (bw ob) (an (ag1 hs5))))
 rintro i1 hd1 il hx e
 exact qK 6 [] U (aw (v':=.bool false) U (cb il) (qO 3 U (hx _ rd)))
theorem qF (h:HF) (l:List ByteArray) (e8:Option Addr) (eZ:Nat) (hl:SlC Rp.str h e8 eZ l):Ret prog 340 [.slice e8 l.length eZ] h (.bool (ep l)):=by
 refine sT func340 U ntmps340 U fun X hM hX hF=>?_
 have hs0:ep l=ep l:=rfl
 refine qT 9 U ?_
 refine lp0 l (fun i=>[(0,.slice e8 l.length eZ),(3,I (i:Int))]) ([]) (fun s1 i=>(ep.L1 l (ep.K1)) s1 i) hl.1.1 hs0 ?_ ?_ ?_
 ·rintro i1 fA hs1 e
  exact sr (an (nretP [.bool true] (cs hs1)))
 ·rintro i1 y1 rz1 hd1 dx aL eH hO hs3 hx1 ag1 e
  refine qK 6 [] U (aw (v':=.bool true) U (cb dx) (qO 9 U (aF (fj (enc:=fun y=>[.string y]) ei xQ ty9 hl.1 (nthZ aL) (ba aL) U U U (fun q3 A3=>dF ty9 A3 U (av call339 (vC h y1) U (qO 2 U (bY 9 [16,17,18,19,20,21,22,23,24,25] 16 25 ((ed l y1) != (i1:Int)) U (fun c1 hk1=>?_) (fun e=>?_)))))))))
  ·exact aj (qO 2 U (aF (fj (enc:=fun y=>[.string y]) ei xQ ty9 hl.1 (nthZ aL) (ba aL) U U U (fun q4 A4=>dF ty9 A4 U (av call343 (pO _ _ _ _ y1 hl) U (qO 3 U (hk1 _ U)))))))
  refine aD (ai hs3 U (fun c2 hs4=>?_) (fun c2 hs5=>?_))
  ·exact sr (an (nretP [.bool false] (cs hs4)))
  exact aJ (qT 3 U (aw (v':=I (((i1+1):Nat):Int)) U (bw ob) (an (ag1 hs5))))
 rintro i1 hd1 il hx e
 exact qK 6 [] U (aw (v':=.bool false) U (cb il) (qO 3 U (hx _ rd)))
end Go.Sg
