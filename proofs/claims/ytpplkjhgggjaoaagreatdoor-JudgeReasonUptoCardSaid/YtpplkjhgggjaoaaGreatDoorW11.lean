import Derived.Test.YtpplkjhgggjaoaaGreatDoorCards
import Derived.Test.YtpplkjhgggjaoaaGreatDoorTie
import Derived.ProofKit
import Derived.Deep.DeepHandedRow
import Derived.Test.YtpplkjhgggjaoaaGreatDoorW10
/- A part of the proof of JudgeReason. -/
set_option linter.unusedVariables false
set_option linter.unusedSimpArgs false
set_option maxRecDepth 100000
namespace Go.Sg
open Go.Proofs Go.Proofs.Tryz
set_option maxHeartbeats 2000000
theorem zx (rec:List ByteArray→Expr→Bool) (h:HF) (offices:List ByteArray) (dw:Option Addr) (dv:Nat) (x:Expr) (fP:cG) (hrec:∀ (h:HF) (qoffices:List ByteArray) (jo:Option Addr) (jm:Nat) (qx:Expr) (j5:cG) (hqoffices:SlC Rp.str h jo jm qoffices) (hqx:Expr.ok h qx j5) (_:qx.dep < x.dep),Ret prog 341 [.slice jo qoffices.length jm,.agg (Expr.cells qx j5).toArray] h (.bool (rec qoffices qx))) (hoffices:SlC Rp.str h dw dv offices) (hx:Expr.ok h x fP):Ret prog 341 [.slice dw offices.length dv,.agg (Expr.cells x fP).toArray] h (.bool (bM.F rec offices x)):=by
 refine sT func341 U ntmps341 U fun X hM hX hF=>?_
 have hs0:bM.F rec offices x=bM.F rec offices x:=rfl
 refine sr (cA (fun b1=>qL 9 [0] U (bY 4 [9,10,11,12,13] 9 13 (x.Kind==2) U (fun c1 hk1=>?_) (fun e=>?_))))
 ·exact qL 4 [0] U (hk1 _ U)
 refine aj (bC 6 [14,15,16,17,18,19,20] 14 20 (decide ((ed offices x.Name) < 0)) U (fun c2 hk2=>?_) (fun e=>?_))
 ·exact qL 3 [0] U (av call343 (pO _ _ _ _ x.Name hoffices) U (qO 2 U (hk2 _ U)))
 refine aD (ai hs0 U (fun c3 hs1=>?_) (fun c3 hs2=>?_))
 ·exact sr (an (nretP [.bool false] (cs hs1)))
 refine qT 6 U ?_
 refine lp0 x.L (fun i=>[(0,.slice dw offices.length dv),(3,Q b1),(5,I (i:Int))]) ([(b1,O (Expr.cells x fP) 62)]) (fun s1 i=>(bM.L1 rec offices (bM.K1)) s1) hx.list.1.1 hs2 ?_ ?_ ?_
 ·rintro i1 fA hs4 e
  exact sr (an (nretP [.bool true] (cs hs4)))
 ·rintro i1 y1 rz1 hd1 dx aL eH hO hs6 hx1 ag1 e
  refine qK 7 [0] U (aw (v':=.bool true) U (cb dx) (qL 11 [0] U (aF (gC kk ty62 hx.list.1 (nthZ aL) (ba aL) U U U (fun _ _ _ e=>e) (fun q2 r2 A2 ok2=>dz ty62 A2 U U (av call341 (hrec _ _ _ _ _ _ hoffices ok2 (Expr.iU (gi hd1))) U (qO 2 U (ai hs6 U (fun c5 hs7=>?_) (fun c5 hs8=>?_)))))))))
  ·exact sr (an (nretP [.bool false] (cs hs7)))
  exact aJ (qT 3 U (aw (v':=I (((i1+1):Nat):Int)) U (bw ob) (an (ag1 hs8))))
 rintro i1 hd1 il hx e
 exact qK 7 [0] U (aw (v':=.bool false) U (cb il) (qO 3 U (hx _ rd)))
theorem qE:∀ (m:Nat) (h:HF) (offices:List ByteArray) (dw:Option Addr) (dv:Nat) (x:Expr) (fP:cG) (_:x.dep≤m) (hoffices:SlC Rp.str h dw dv offices) (hx:Expr.ok h x fP),Ret prog 341 [.slice dw offices.length dv,.agg (Expr.cells x fP).toArray] h (.bool (bM.go m offices x))
 | 0,h,offices,dw,dv,x,fP,hd,hoffices,hx=>absurd hd (Nat.not_le.2 (Expr.kB _))
 | m+1,h,offices,dw,dv,x,fP,hd,hoffices,hx=>zx (bM.go m) h offices dw dv x fP (fun qh_ qoffices jo jm qx j5 qhoffices qhx qd=>qE m qh_ qoffices jo jm qx j5 ob qhoffices qhx) hoffices hx
theorem tV (h:HF) (offices:List ByteArray) (dw:Option Addr) (dv:Nat) (x:Expr) (fP:cG) (hoffices:SlC Rp.str h dw dv offices) (hx:Expr.ok h x fP):Ret prog 341 [.slice dw offices.length dv,.agg (Expr.cells x fP).toArray] h (.bool (bM offices x)):=qE _ h offices dw dv x fP (Nat.le_refl _) hoffices hx
theorem AR (h:HF) (p:Policy) (fL:el) (hp:Policy.ok h p fL):Ret prog 305 [.agg (Policy.cells p fL).toArray] h (.bool (gq p)):=by
 refine sT func305 U ntmps305 U fun X hM hX hF=>?_
 have hs0:gq p=gq p:=rfl
 refine sr (cA (fun b1=>qL 7 [0] U (av call339 (vC h p.Name) U (qO 2 U (bY 5 [8,9,10,11,12,13] 8 13 (!(ep p.Offices)) U (fun c1 hk1=>?_) (fun e=>?_))))))
 ·exact qL 2 [0] U (av call340 (qF _ _ _ _ hp.Offices) U (qO 2 U (hk1 _ U)))
 refine aj (bY 5 [14,15,16,17,18,19] 14 19 (!(ep p.Kinds)) U (fun c2 hk2=>?_) (fun e=>?_))
 ·exact qL 2 [0] U (av call340 (qF _ _ _ _ hp.Kinds) U (qO 2 U (hk2 _ U)))
 refine aD (ai hs0 U (fun c3 hs1=>?_) (fun c3 hs2=>?_))
 ·exact sr (an (nretP [.bool false] (cs hs1)))
 refine qT 6 U ?_
 let z1:Nat×Obj:=(b1,O (Policy.cells p fL) 64)
 refine lp0 p.Rules (fun i=>[(1,Q b1),(3,I (i:Int))]) ([z1]) (fun s1 i=>(gq.L1 p (gq.K1 p)) s1) hp.Rules.1.1 hs2 ?_ ?_ ?_
 ·rintro i1 fA hs4 e
  exact qK 5 [0] U (cW 0 ty62 U U U (av call341 (tV _ _ _ _ _ _ hp.Offices hp.Change) U (an (nretP [.bool (bM p.Offices p.Change)] (cs hs4)))))
 ·rintro i1 y1 rz1 hd1 dx aL eH hO hs6 hx1 ag1 e
  refine qK 7 [0] U (aw (v':=.bool true) U (cb dx) (qO 6 U (eQ ([z1]) mixed kr jn (fun dH _=>qB [0] U (tf 1 U U (fun _ _ hj=>fH ty58 U (hj.nth (i:=0) U) U) (qB [2] U (tf 3 U U (fun _ _ hj=>fH ty59 U (hj.nth (i:=0) U) U) (tm 4 U (ji 5 dH jn si ty79 hp.Rules.1 (nthZ aL) (ba aL) U U U U kr (fun q2 cs2 A2 ln2 rr2=>?_))))))))))
  obtain ⟨r2,rfl,ok2⟩:=rr2
  refine qB [6] U (tf 7 U U (fun _ _ hj=>J1 3 ty62 (A2.mono hj.1) U U) (tn 8 U (eP call341 (tV _ _ _ _ _ _ hp.Offices ok2.Expr) U (⟨jn,(qA [9] U (aW kr (ai hs6 U (fun c5 hs7=>?_) (fun c5 hs8=>?_))))⟩))))
  ·exact sr (an (nretP [.bool false] (cs hs7)))
  exact aJ (qT 3 U (aw (v':=I (((i1+1):Nat):Int)) U (bw ob) (an (ag1 hs8))))
 rintro i1 hd1 il hx e
 exact qK 7 [0] U (aw (v':=.bool false) U (cb il) (qO 3 U (hx _ rd)))
theorem tX (rec:Expr→Bool→Bool) (h:HF) (x:Expr) (fP:cG) (upto:Bool) (hrec:∀ (h:HF) (qx:Expr) (j5:cG) (qupto:Bool) (hqx:Expr.ok h qx j5) (_:qx.dep < x.dep),Ret prog 342 [.agg (Expr.cells qx j5).toArray,.bool qupto] h (.bool (rec qx qupto))) (hx:Expr.ok h x fP):Ret prog 342 [.agg (Expr.cells x fP).toArray,.bool upto] h (.bool (aG.F rec x upto)):=by
 refine sT func342 U ntmps342 U fun X hM hX hF=>?_
 have hs0:aG.F rec x upto=aG.F rec x upto:=rfl
 refine sr (cA (fun b1=>qO 7 U ?_))
 refine lp0 x.L (fun i=>[(1,.bool upto),(2,Q b1),(5,I (i:Int))]) ([(b1,O (Expr.cells x fP) 62)]) (fun s1 i=>(aG.L1 rec upto (aG.K1 x upto)) s1) hx.list.1.1 hs0 ?_ ?_ ?_
 ·rintro i1 fA hs1 e
  refine qK 12 [0] U (ai hs1 U (fun c3 hs2=>?_) (fun c3 hs3=>?_))
  ·refine qK 6 [0] U (bC 5 [28,29,30,31,32,33] 28 33 ((x.L.length:Int)==0) U (fun c4 hk1=>?_) (fun e=>?_))
   ·exact qL 5 [0] U (hk1 _ U)
   exact an (nretP [.bool ((x.N==0)&&((x.L.length:Int)==0))] (cs hs2))
  refine qT 5 U (ai hs3 U (fun c5 hs5=>?_) (fun c5 hs6=>?_))
  ·refine qK 6 [0] U (bC 4 [39,40,41,42,43] 39 43 (decide (x.N≤4096)) U (fun c6 hk2=>?_) (fun e=>?_))
   ·exact qL 4 [0] U (hk2 _ U)
   refine aj (bC 5 [44,45,46,47,48,49] 44 49 ((x.L.length:Int)==0) U (fun c7 hk3=>?_) (fun e=>?_))
   ·exact qL 5 [0] U (hk3 _ U)
   exact an (nretP [.bool ((decide (1≤x.N)&&decide (x.N≤4096))&&((x.L.length:Int)==0))] (cs hs5))
  refine qT 5 U (ai hs6 U (fun c8 hs8=>?_) (fun c8 hs9=>?_))
  ·refine qK 6 [0] U (bC 5 [55,56,57,58,59,60] 55 60 (decide (1≤(x.L.length:Int))) U (fun c9 hk4=>?_) (fun e=>?_))
   ·exact qL 5 [0] U (hk4 _ U)
   refine aj (bC 5 [61,62,63,64,65,66] 61 66 (decide ((x.L.length:Int)≤16)) U (fun c10 hk5=>?_) (fun e=>?_))
   ·exact qL 5 [0] U (hk5 _ U)
   refine aj (bC 4 [67,68,69,70,71] 67 71 (decide (1≤x.N)) U (fun c11 hk6=>?_) (fun e=>?_))
   ·exact qL 4 [0] U (hk6 _ U)
   refine aj (bC 7 [72,73,74,75,76,77,78,79] 72 79 (decide (x.N≤(x.L.length:Int))) U (fun c12 hk7=>?_) (fun e=>?_))
   ·exact qL 7 [0,0] U (hk7 _ U)
   exact an (nretP [.bool (((((x.Name.toList==(⟨#[]⟩:ByteArray).toList)&&decide (1≤(x.L.length:Int)))&&decide ((x.L.length:Int)≤16))&&decide (1≤x.N))&&decide (x.N≤(x.L.length:Int)))] (cs hs8))
  refine qT 5 U (ai hs9 U (fun c13 hs11=>?_) (fun c13 hs12=>?_))
  ·refine qT 4 U (bC 4 [83,84,85,86,87] 83 87 (x.Name.toList==(⟨#[]⟩:ByteArray).toList) U (fun c14 hk8=>?_) (fun e=>?_))
   ·exact qL 4 [0] U (hk8 _ U)
   refine aj (bC 5 [88,89,90,91,92,93] 88 93 ((x.L.length:Int)==2) U (fun c15 hk9=>?_) (fun e=>?_))
   ·exact qL 5 [0] U (hk9 _ U)
   refine aj (bC 4 [94,95,96,97,98] 94 98 (decide (0≤x.N)) U (fun c16 hk10=>?_) (fun e=>?_))
   ·exact qL 4 [0] U (hk10 _ U)
   refine aj (bC 4 [99,100,101,102,103] 99 103 (decide (x.N≤1099511627776)) U (fun c17 hk11=>?_) (fun e=>?_))
   ·exact qL 4 [0] U (hk11 _ U)
   exact an (nretP [.bool ((((upto&&(x.Name.toList==(⟨#[]⟩:ByteArray).toList))&&((x.L.length:Int)==2))&&decide (0≤x.N))&&decide (x.N≤1099511627776))] (cs hs11))
  exact aJ (qT 5 U (nretP [.bool false] (cs hs12)))
 ·rintro i1 y1 rz1 hd1 dx aL eH hO hs15 hx1 ag1 e
  refine qK 7 [0] U (aw (v':=.bool true) U (cb dx) (qL 10 [0] U (aF (gC kk ty62 hx.list.1 (nthZ aL) (ba aL) U U U (fun _ _ _ e=>e) (fun q2 r2 A2 ok2=>dz ty62 A2 U U (aj (av call342 (hrec _ _ _ upto ok2 (Expr.iU (gi hd1))) U (qO 2 U (ai hs15 U (fun c18 hs16=>?_) (fun c18 hs17=>?_))))))))))
  ·exact sr (an (nretP [.bool false] (cs hs16)))
  exact aJ (qT 3 U (aw (v':=I (((i1+1):Nat):Int)) U (bw ob) (an (ag1 hs17))))
 rintro i1 hd1 il hx e
 exact qK 7 [0] U (aw (v':=.bool false) U (cb il) (qO 3 U (hx _ rd)))
theorem nm:∀ (m:Nat) (h:HF) (x:Expr) (fP:cG) (upto:Bool) (_:x.dep≤m) (hx:Expr.ok h x fP),Ret prog 342 [.agg (Expr.cells x fP).toArray,.bool upto] h (.bool (aG.go m x upto))
 | 0,h,x,fP,upto,hd,hx=>absurd hd (Nat.not_le.2 (Expr.kB _))
 | m+1,h,x,fP,upto,hd,hx=>tX (aG.go m) h x fP upto (fun qh_ qx j5 qupto qhx qd=>nm m qh_ qx j5 qupto ob qhx) hx
theorem oW (h:HF) (x:Expr) (fP:cG) (upto:Bool) (hx:Expr.ok h x fP):Ret prog 342 [.agg (Expr.cells x fP).toArray,.bool upto] h (.bool (aG x upto)):=nm _ h x fP upto (Nat.le_refl _) hx
theorem zy (h:HF) (p:Policy) (fL:el) (hp:Policy.ok h p fL):Ret prog 306 [.agg (Policy.cells p fL).toArray] h (.bool (fx p)):=by
 refine sT func306 U ntmps306 U fun X hM hX hF=>?_
 have hs0:fx p=fx p:=rfl
 refine sr (cA (fun b1=>qL 10 [0] U (bY 8 [9,10,11,12,13,14,15,16,17] 9 17 ((p.Rules.length:Int) != (p.Kinds.length:Int)) U (fun c1 hk1=>?_) (fun e=>?_))))
 ·exact qL 8 [0,0] U (hk1 _ U)
 refine aj (bY 4 [18,19,20,21,22] 18 22 (decide (p.Mode < 1)) U (fun c2 hk2=>?_) (fun e=>?_))
 ·exact qL 4 [0] U (hk2 _ U)
 refine aj (bY 4 [23,24,25,26,27] 23 27 (decide (4 < p.Mode)) U (fun c3 hk3=>?_) (fun e=>?_))
 ·exact qL 4 [0] U (hk3 _ U)
 refine aD (ai hs0 U (fun c4 hs1=>?_) (fun c4 hs2=>?_))
 ·exact sr (an (nretP [.bool false] (cs hs1)))
 refine qT 6 U ?_
 let z1:Nat×Obj:=(b1,O (Policy.cells p fL) 64)
 refine lp0 p.Rules (fun i=>[(1,Q b1),(3,I (i:Int))]) ([z1]) (fun s1 i=>(fx.L1 p (fx.K1 p)) s1 i) hp.Rules.1.1 hs2 ?_ ?_ ?_
 ·rintro i1 fA hs4 e
  exact qK 3 [] U (cW 0 ty62 U U U (av call342 (oW _ _ _ false hp.Change) U (an (nretP [.bool (aG p.Change false)] (cs hs4)))))
 ·rintro i1 y1 rz1 hd1 dx aL eH hO hs6 hx1 ag1 e
  refine qK 7 [0] U (aw (v':=.bool true) U (cb dx) (qL 10 [0] U (aF (gC si ty79 hp.Rules.1 (nthZ aL) (ba aL) U U U (fun _ _ _ e=>e) (fun q3 r2 A3 ok2=>dz ty79 A3 U U (aV zc79 (fun b3=>aS 0 ty79 U U U U U U (qO 2 U ?_))))))))
  refine nZ [(1,Q b1),(3,I (i1:Int)),(63,.bool ((((!(y1.Kind.toList==(nthI p.Kinds (i1:Int)).toList))||decide (y1.Think < 0))||decide (1099511627776≤y1.Think))||(!(aG y1.Expr true))))] (fun e=>?_) (fun hk4=>?_)
  rotate_left
  ·refine eQ ([(b3,O (Rule.cells y1 r2) 79),z1]) mixed kr jn (fun dH _=>?_)
   refine qB [0] U (tf 1 U U (fun _ _ hj=>fH ty9 U (hj.nth (i:=0) U) U) (qB [2] U (tf 3 U U (fun _ _ hj=>fH ty58 U (hj.nth (i:=1) U) U) (tm 4 U ?_))))
   have ho2:0≤((i1:Int):Int)∧((i1:Int):Int) < ((p.Kinds).length:Int):=ob
   refine fW 5 (enc:=fun y=>[.string y]) dH jn ei xQ ty9 hp.Kinds.1 ho2 (dU ho2) U U U U kr (fun q4 A4=>tf 6 U U (fun _ _ hj=>eV ty9 (A4.mono hj.1) U) (qA [7,8] U ?_))
   refine dt 48 U (fun c5=>?_) (fun c5=>?_)
   ·exact tk 9 U U (qR 10 14 U (aW kr (hk4 _ ⟨U,U,(cb (show true=((((!(y1.Kind.toList==(nthI p.Kinds (i1:Int)).toList))||decide (y1.Think < 0))||decide (1099511627776≤y1.Think))||(!(aG y1.Expr true))) from by rw [c5] <;> rfl)),trivial⟩)))
   refine qB [9] U (tf 10 U U (fun _ _ hj=>fH ty3 U (hj.nth (i:=0) U) U) (qR 11 3 U ?_))
   refine dt 53 U (fun c6=>?_) (fun c6=>?_)
   ·have c6p:=of_decide_eq_true c6
    exact tk 14 U U (qR 15 9 U (aW kr (hk4 _ ⟨U,U,(cb (show true=((((!(y1.Kind.toList==(nthI p.Kinds (i1:Int)).toList))||decide (y1.Think < 0))||decide (1099511627776≤y1.Think))||(!(aG y1.Expr true))) from by rw [c5,c6] <;> rfl)),trivial⟩)))
   have c6p:=of_decide_eq_false c6
   refine qB [14] U (tf 15 U U (fun _ _ hj=>fH ty3 U (hj.nth (i:=0) U) U) (qR 16 3 U ?_))
   refine dt 58 U (fun c7=>?_) (fun c7=>?_)
   ·have c7p:=of_decide_eq_true c7
    exact tk 19 U U (qR 20 4 U (aW kr (hk4 _ ⟨U,U,(cb (show true=((((!(y1.Kind.toList==(nthI p.Kinds (i1:Int)).toList))||decide (y1.Think < 0))||decide (1099511627776≤y1.Think))||(!(aG y1.Expr true))) from by rw [c5,c6,c7] <;> rfl)),trivial⟩)))
   have c7p:=of_decide_eq_false c7
   exact tf 19 U U (fun _ _ _=>jS LA U) (tf 20 U U (fun _ _ hj=>je ty62 U (hj.nth (i:=0) U) U) (tn 21 U (eP call342 (oW _ _ _ true ok2.Expr) U (⟨jn,qA [22,23] U (aW kr (hk4 _ ⟨U,U,(cb (show (!(aG y1.Expr true))=((((!(y1.Kind.toList==(nthI p.Kinds (i1:Int)).toList))||decide (y1.Think < 0))||decide (1099511627776≤y1.Think))||(!(aG y1.Expr true))) from by rw [c5,c6,c7] <;> rfl)),trivial⟩))⟩))))
  refine ai hs6 U (fun c8 hs7=>?_) (fun c8 hs8=>?_)
  ·exact sr (an (nretP [.bool false] (cs hs7)))
  exact aJ (qT 3 U (aw (v':=I (((i1+1):Nat):Int)) U (bw ob) (an (bB (L':=[z1]) js (ag1 hs8)))))
 rintro i1 hd1 il hx e
 exact qK 7 [0] U (aw (v':=.bool false) U (cb il) (qO 3 U (hx _ rd)))
theorem vV (rec:List ByteArray→Expr→Expr) (h:HF) (offices:List ByteArray) (dw:Option Addr) (dv:Nat) (x:Expr) (fP:cG) (hrec:∀ (h:HF) (qoffices:List ByteArray) (jo:Option Addr) (jm:Nat) (qx:Expr) (j5:cG) (hqoffices:SlC Rp.str h jo jm qoffices) (hqx:Expr.ok h qx j5) (hsz:qx.dep≤2000000) (_:qx.dep < x.dep),jN prog 307 [.slice jo qoffices.length jm,.agg (Expr.cells qx j5).toArray] h (fun v h'=>∃ (rr0:cG),v=.agg (Expr.cells (rec qoffices qx) rr0).toArray∧Expr.ok h' (rec qoffices qx) rr0)) (hoffices:SlC Rp.str h dw dv offices) (hx:Expr.ok h x fP) (hsz:x.dep≤2000000):jN prog 307 [.slice dw offices.length dv,.agg (Expr.cells x fP).toArray] h (fun v h'=>∃ (rr0:cG),v=.agg (Expr.cells (ae.F rec offices x) rr0).toArray∧Expr.ok h' (ae.F rec offices x) rr0):=by
 refine cz func307 U ntmps307 U fun X hM hX=>?_
 have hs0:ae.F rec offices x=ae.F rec offices x:=rfl
 have hln:=Expr.Ke x
 refine sr (cA (fun b1=>aV zc62 (fun b2=>qO 3 U (cW 1 ty62 U U U (aV zc62 (fun b3=>aS 0 ty62 U U U U U U (qL 4 [] U (cJ 0 ty3 U U U U U U (qL 8 [2] U (bY 4 [12,13,14,15,16] 12 16 (x.Kind==2) U (fun c1 hk1=>?_) (fun e=>?_)))))))))))
 ·exact qL 4 [2] U (hk1 _ U)
 refine aD (ai hs0 U (fun c2 hs1=>?_) (fun c2 hs2=>?_))
 ·refine qK 4 [2] U (av call343 (pO _ _ _ _ x.Name hoffices) U (qL 1 [] U (cJ 0 ty3 U U U U U U (qL 4 [] U (cJ 0 ty60 U U U U U U (qO 6 U ?_))))))
  let z1:Nat×Obj:=(b2,O [I 0,I 0,I 0,.string (⟨#[]⟩:ByteArray),.slice none 0 0] 62)
  let z3:Nat×Obj:=(b1,O (Expr.cells x fP) 62)
  refine lp2 x.L (fun i w=>[(0,.slice dw offices.length dv),(3,Q b1),(4,Q b2),(5,Q b3),(6,I (i:Int))]) (fun w=>w.2.2.2.2) (fun w=>[(b3,O [I x.Kind,I x.N,I (ed offices x.Name),.string x.Name,.slice w.2.1 w.1.length w.2.2.1] 62),z1,z3]++(w.2.2.2.1)) (fun i w=>em Expr.rp 62 w.2.2.2.2 w.1 w.2.1 w.2.2.1 w.2.2.2.1∧w.1.length≤0+i∧HF.le h w.2.2.2.2) (fun s1 i w=>(ae.L1 rec offices (ae.K1 offices x)) s1 w.1) ([],none,0,[],h) hx.list.1.1 hs1 ⟨em.nil,lo,lf⟩ ?_ ?_ ?_
  ·rintro i1 ⟨jI,ml,mj,xn,hh1⟩ fA hs3 ⟨qb,BH,hl1⟩ e
   try dsimp only at qb BH hl1
   let z5:Nat×Obj:=(b3,O [I x.Kind,I x.N,I (ed offices x.Name),.string x.Name,.slice ml jI.length mj] 62)
   let z19:Nat×Obj:=(b2,O [I x.Kind,I x.N,I (ed offices x.Name),.string x.Name,.slice ml jI.length mj] 62)
   refine sr (cW 0 ty62 U U U (aS 1 ty62 U U U U U U (iw (L':=[z5,z19,z3]++(xn)) U (aD (gL Expr.ao ([z5,z19,z3]) xn ([]) ap hM qb (fun h3 hle3 sl2=>?_))))))
   have hs4:ae.F rec offices x=(Expr.mk x.Kind x.N (ed offices x.Name) x.Name jI):=hs3
   exact jd [.agg (List.toArray [I x.Kind,I x.N,I (ed offices x.Name),.string x.Name,.slice ml jI.length mj])] func307 U ⟨⟨1,_,_,_,_,U,U,.inl ⟨ty62,U⟩⟩,trivial⟩ ⟨(cG.mk ml mj),congrArg (fun r:Expr=>(.agg (Expr.cells r (cG.mk ml mj)).toArray:Value)) hs4.symm,(by rw [hs4];exact (show Expr.ok h3 (Expr.mk x.Kind x.N (ed offices x.Name) x.Name jI) (cG.mk ml mj) from Expr.ok.of sl2))⟩
  ·rintro i1 ⟨jI,ml,mj,xn,hh1⟩ y1 rz1 hd1 dx aL eH hO hs5 ⟨qb,BH,hl1⟩ hx1 ag1 e
   try dsimp only at qb BH hl1
   have hdy:=Expr.iU (gi hd1)
   refine qK 7 [2] U (aw (v':=.bool true) U (cb dx) (qO 5 U (eQ ([z1,z3]) mixed kr jn (fun dH _=>qB [0,2,3] U (tf 4 U U (fun _ _ hj=>fH ty60 U (hj.nth (i:=1) U) U) (tm 5 U (ji 6 dH jn kk ty62 (hx.list.mono Expr.ao hl1).1 (nthZ aL) (ba aL) U U U U kr (fun q2 cs2 A2 ln2 rr3=>?_))))))))
   obtain ⟨r2,rfl,ok3⟩:=rr3
   refine tf 7 U U (fun _ _ hj=>j9 ty62 (A2.mono hj.1) U U) ?_
   refine mT 1 8 kr U U ?_ ?_ 
   ·refine fg (fH ty60 U (mR (i:=0) U) U) (⟨jn,tn 8 U (cY Eu (hrec _ _ _ _ _ _ (hoffices.mono Rp.gX hl1) ok3 ob (Expr.iU (gi hd1))) U (fun v2 h4 hle4 hp2=>?_))⟩)
    obtain ⟨rr4,rfl,ok4⟩:=hp2
    refine ⟨jl hle4,tu hle4 (tn 9 U (bV (cells:=[I ((rec offices y1).Kind),I ((rec offices y1).N),I ((rec offices y1).No),.string ((rec offices y1).Name),.slice rr4.jB ((rec offices y1).L.length) rr4.jC]) kk ty62 zc62 U U kr (fun b5=>⟨jn,?_⟩)))⟩
    let z6:Nat×Obj:=(b3,O [I x.Kind,I x.N,I (ed offices x.Name),.string x.Name,.slice ml jI.length mj] 62)
    let z15:Nat×Obj:=(b5,O [I ((rec offices y1).Kind),I ((rec offices y1).N),I ((rec offices y1).No),.string ((rec offices y1).Name),.slice rr4.jB ((rec offices y1).L.length) rr4.jC] 62)
    exact tn 10 U (eR Expr.eF ([z15,z6,z1,z3]) ([]) (fun G=>[z15,z6,z1,z3]++G) ap (fun _=>ap) kk ty62 zc62 U bytes62 (qb.mono Expr.ao hle4) U U (fI 0 U (show bu Expr.rp h4 [I ((rec offices y1).Kind),I ((rec offices y1).N),I ((rec offices y1).No),.string ((rec offices y1).Name),.slice rr4.jB ((rec offices y1).L.length) rr4.jC] ([(rec offices y1)]) from ⟨[I ((rec offices y1).Kind),I ((rec offices y1).N),I ((rec offices y1).No),.string ((rec offices y1).Name),.slice rr4.jB ((rec offices y1).L.length) rr4.jC],[],U,U,⟨rr4,U,ok4⟩,U⟩)) lo lo (fun ob2 oc2 G2 gr2=>⟨jn,qB [11] U (tn 12 U (jX 1 ty60 U U U U U U (⟨jn,aW kr (qT 3 U (aw (v':=I (((i1+1):Nat):Int)) U (bw ob) (an (bB (L':=[(b3,O [I x.Kind,I x.N,I (ed offices x.Name),.string x.Name,.slice ob2 ((jI++[(rec offices y1)]).length) oc2] 62),z1,z3]++G2) js (ag1 ((jI++[(rec offices y1)]),ob2,oc2,G2,h4) hs5 ⟨gr2,lo,(hl1.t hle4)⟩)))))⟩)))⟩))
   refine cY Eu (hrec _ _ _ _ _ _ (hoffices.mono Rp.gX hl1) ok3 ob (Expr.iU (gi hd1))) U (fun v3 h5 hle5 hp3=>?_)
   obtain ⟨rr5,rfl,ok5⟩:=hp3
   refine ⟨jl hle5,tu hle5 ?_⟩
   refine mT 1 9 kr U U ?_ ?_ 
   ·refine fg (fH ty60 U (mR (i:=0) U) U) (⟨jn,tn 9 U (bV (cells:=[I ((rec offices y1).Kind),I ((rec offices y1).N),I ((rec offices y1).No),.string ((rec offices y1).Name),.slice rr5.jB ((rec offices y1).L.length) rr5.jC]) kk ty62 zc62 U U kr (fun b6=>⟨jn,?_⟩))⟩)
    let z7:Nat×Obj:=(b3,O [I x.Kind,I x.N,I (ed offices x.Name),.string x.Name,.slice ml jI.length mj] 62)
    let z16:Nat×Obj:=(b6,O [I ((rec offices y1).Kind),I ((rec offices y1).N),I ((rec offices y1).No),.string ((rec offices y1).Name),.slice rr5.jB ((rec offices y1).L.length) rr5.jC] 62)
    exact tn 10 U (eR Expr.eF ([z16,z7,z1,z3]) ([]) (fun G=>[z16,z7,z1,z3]++G) ap (fun _=>ap) kk ty62 zc62 U bytes62 (qb.mono Expr.ao hle5) U U (fI 0 U (show bu Expr.rp h5 [I ((rec offices y1).Kind),I ((rec offices y1).N),I ((rec offices y1).No),.string ((rec offices y1).Name),.slice rr5.jB ((rec offices y1).L.length) rr5.jC] ([(rec offices y1)]) from ⟨[I ((rec offices y1).Kind),I ((rec offices y1).N),I ((rec offices y1).No),.string ((rec offices y1).Name),.slice rr5.jB ((rec offices y1).L.length) rr5.jC],[],U,U,⟨rr5,U,ok5⟩,U⟩)) lo lo (fun ob3 oc3 G3 gr3=>⟨jn,qB [11] U (tn 12 U (jX 1 ty60 U U U U U U (⟨jn,aW kr (qT 3 U (aw (v':=I (((i1+1):Nat):Int)) U (bw ob) (an (bB (L':=[(b3,O [I x.Kind,I x.N,I (ed offices x.Name),.string x.Name,.slice ob3 ((jI++[(rec offices y1)]).length) oc3] 62),z1,z3]++G3) js (ag1 ((jI++[(rec offices y1)]),ob3,oc3,G3,h5) hs5 ⟨gr3,lo,(hl1.t hle5)⟩)))))⟩)))⟩))
   refine bV (cells:=[I ((rec offices y1).Kind),I ((rec offices y1).N),I ((rec offices y1).No),.string ((rec offices y1).Name),.slice rr5.jB ((rec offices y1).L.length) rr5.jC]) kk ty62 zc62 U U kr (fun b7=>⟨jn,tn 1 U (fg (fH ty60 U (mR (i:=1) U) U) (⟨jn,?_⟩))⟩)
   let z8:Nat×Obj:=(b3,O [I x.Kind,I x.N,I (ed offices x.Name),.string x.Name,.slice ml jI.length mj] 62)
   let z17:Nat×Obj:=(b7,O [I ((rec offices y1).Kind),I ((rec offices y1).N),I ((rec offices y1).No),.string ((rec offices y1).Name),.slice rr5.jB ((rec offices y1).L.length) rr5.jC] 62)
   exact tn 10 U (eR Expr.eF ([z17,z8,z1,z3]) ([]) (fun G=>[z17,z8,z1,z3]++G) ap (fun _=>ap) kk ty62 zc62 U bytes62 (qb.mono Expr.ao hle5) U U (fI 0 U (show bu Expr.rp h5 [I ((rec offices y1).Kind),I ((rec offices y1).N),I ((rec offices y1).No),.string ((rec offices y1).Name),.slice rr5.jB ((rec offices y1).L.length) rr5.jC] ([(rec offices y1)]) from ⟨[I ((rec offices y1).Kind),I ((rec offices y1).N),I ((rec offices y1).No),.string ((rec offices y1).Name),.slice rr5.jB ((rec offices y1).L.length) rr5.jC],[],U,U,⟨rr5,U,ok5⟩,U⟩)) lo lo (fun ob4 oc4 G4 gr4=>⟨jn,qB [11] U (tn 12 U (jX 1 ty60 U U U U U U (⟨jn,aW kr (qT 3 U (aw (v':=I (((i1+1):Nat):Int)) U (bw ob) (an (bB (L':=[(b3,O [I x.Kind,I x.N,I (ed offices x.Name),.string x.Name,.slice ob4 ((jI++[(rec offices y1)]).length) oc4] 62),z1,z3]++G4) js (ag1 ((jI++[(rec offices y1)]),ob4,oc4,G4,h5) hs5 ⟨gr4,lo,(hl1.t hle5)⟩)))))⟩)))⟩))
  rintro i1 ⟨jI,ml,mj,xn,hh1⟩ hd1 il hx e
  exact qK 7 [2] U (aw (v':=.bool false) U (cb il) (qO 3 U (hx _ rd)))
 refine qK 4 [] U (cJ 0 ty60 U U U U U U (qO 6 U ?_))
 let z2:Nat×Obj:=(b2,O [I 0,I 0,I 0,.string (⟨#[]⟩:ByteArray),.slice none 0 0] 62)
 let z4:Nat×Obj:=(b1,O (Expr.cells x fP) 62)
 refine lp2 x.L (fun i w=>[(0,.slice dw offices.length dv),(3,Q b1),(4,Q b2),(5,Q b3),(6,I (i:Int))]) (fun w=>w.2.2.2.2) (fun w=>[(b3,O [I x.Kind,I x.N,I 0,.string x.Name,.slice w.2.1 w.1.length w.2.2.1] 62),z2,z4]++(w.2.2.2.1)) (fun i w=>em Expr.rp 62 w.2.2.2.2 w.1 w.2.1 w.2.2.1 w.2.2.2.1∧w.1.length≤0+i∧HF.le h w.2.2.2.2) (fun s2 i w=>(ae.L2 rec offices (ae.K2 x)) s2 w.1) ([],none,0,[],h) hx.list.1.1 hs2 ⟨em.nil,lo,lf⟩ ?_ ?_ ?_
 ·rintro i2 ⟨jH,mi,mh,xh,hh2⟩ zJ hs6 ⟨pX,BD,hl2⟩ e
  try dsimp only at pX BD hl2
  let z9:Nat×Obj:=(b3,O [I x.Kind,I x.N,I 0,.string x.Name,.slice mi jH.length mh] 62)
  let z20:Nat×Obj:=(b2,O [I x.Kind,I x.N,I 0,.string x.Name,.slice mi jH.length mh] 62)
  refine sr (cW 0 ty62 U U U (aS 1 ty62 U U U U U U (iw (L':=[z9,z20,z4]++(xh)) U (aD (gL Expr.ao ([z9,z20,z4]) xh ([]) ap hM pX (fun h8 hle8 sl4=>?_))))))
  have hs7:ae.F rec offices x=(Expr.mk x.Kind x.N 0 x.Name jH):=hs6
  exact jd [.agg (List.toArray [I x.Kind,I x.N,I 0,.string x.Name,.slice mi jH.length mh])] func307 U ⟨⟨1,_,_,_,_,U,U,.inl ⟨ty62,U⟩⟩,trivial⟩ ⟨(cG.mk mi mh),congrArg (fun r:Expr=>(.agg (Expr.cells r (cG.mk mi mh)).toArray:Value)) hs7.symm,(by rw [hs7];exact (show Expr.ok h8 (Expr.mk x.Kind x.N 0 x.Name jH) (cG.mk mi mh) from Expr.ok.of sl4))⟩
 ·rintro i2 ⟨jH,mi,mh,xh,hh2⟩ y2 rz2 hd2 uv mN BA GF hs8 ⟨pX,BD,hl2⟩ hx2 ag2 e
  try dsimp only at pX BD hl2
  have hdy:=Expr.iU (gi hd2)
  refine qK 7 [2] U (aw (v':=.bool true) U (cb uv) (qO 5 U (eQ ([z2,z4]) mixed kr jn (fun lA _=>qB [0,2,3] U (tf 4 U U (fun _ _ hj=>fH ty60 U (hj.nth (i:=1) U) U) (tm 5 U (ji 6 lA jn kk ty62 (hx.list.mono Expr.ao hl2).1 (nthZ mN) (ba mN) U U U U kr (fun q4 cs4 A4 ln4 rr8=>?_))))))))
  obtain ⟨r4,rfl,ok8⟩:=rr8
  refine tf 7 U U (fun _ _ hj=>j9 ty62 (A4.mono hj.1) U U) ?_
  refine mT 1 8 kr U U ?_ ?_ 
  ·refine fg (fH ty60 U (mR (i:=0) U) U) (⟨jn,tn 8 U (cY Eu (hrec _ _ _ _ _ _ (hoffices.mono Rp.gX hl2) ok8 ob (Expr.iU (gi hd2))) U (fun v5 h9 hle9 hp5=>?_))⟩)
   obtain ⟨rr9,rfl,ok9⟩:=hp5
   refine ⟨jl hle9,tu hle9 (tn 9 U (bV (cells:=[I ((rec offices y2).Kind),I ((rec offices y2).N),I ((rec offices y2).No),.string ((rec offices y2).Name),.slice rr9.jB ((rec offices y2).L.length) rr9.jC]) kk ty62 zc62 U U kr (fun b9=>⟨jn,?_⟩)))⟩
   let z10:Nat×Obj:=(b3,O [I x.Kind,I x.N,I 0,.string x.Name,.slice mi jH.length mh] 62)
   let z18:Nat×Obj:=(b9,O [I ((rec offices y2).Kind),I ((rec offices y2).N),I ((rec offices y2).No),.string ((rec offices y2).Name),.slice rr9.jB ((rec offices y2).L.length) rr9.jC] 62)
   exact tn 10 U (eR Expr.eF ([z18,z10,z2,z4]) ([]) (fun G=>[z18,z10,z2,z4]++G) ap (fun _=>ap) kk ty62 zc62 U bytes62 (pX.mono Expr.ao hle9) U U (fI 0 U (show bu Expr.rp h9 [I ((rec offices y2).Kind),I ((rec offices y2).N),I ((rec offices y2).No),.string ((rec offices y2).Name),.slice rr9.jB ((rec offices y2).L.length) rr9.jC] ([(rec offices y2)]) from ⟨[I ((rec offices y2).Kind),I ((rec offices y2).N),I ((rec offices y2).No),.string ((rec offices y2).Name),.slice rr9.jB ((rec offices y2).L.length) rr9.jC],[],U,U,⟨rr9,U,ok9⟩,U⟩)) lo lo (fun ob6 oc6 G6 gr6=>⟨jn,qB [11] U (tn 12 U (jX 1 ty60 U U U U U U (⟨jn,aW kr (qT 3 U (aw (v':=I (((i2+1):Nat):Int)) U (bw ob) (an (bB (L':=[(b3,O [I x.Kind,I x.N,I 0,.string x.Name,.slice ob6 ((jH++[(rec offices y2)]).length) oc6] 62),z2,z4]++G6) js (ag2 ((jH++[(rec offices y2)]),ob6,oc6,G6,h9) hs8 ⟨gr6,lo,(hl2.t hle9)⟩)))))⟩)))⟩))
  refine cY Eu (hrec _ _ _ _ _ _ (hoffices.mono Rp.gX hl2) ok8 ob (Expr.iU (gi hd2))) U (fun v6 h10 hle10 hp6=>?_)
  obtain ⟨rr10,rfl,ok10⟩:=hp6
  refine ⟨jl hle10,tu hle10 ?_⟩
  refine mT 1 9 kr U U ?_ ?_ 
  ·refine fg (fH ty60 U (mR (i:=0) U) U) (⟨jn,tn 9 U (bV (cells:=[I ((rec offices y2).Kind),I ((rec offices y2).N),I ((rec offices y2).No),.string ((rec offices y2).Name),.slice rr10.jB ((rec offices y2).L.length) rr10.jC]) kk ty62 zc62 U U kr (fun b10=>⟨jn,?_⟩))⟩)
   let z11:Nat×Obj:=(b3,O [I x.Kind,I x.N,I 0,.string x.Name,.slice mi jH.length mh] 62)
   let z13:Nat×Obj:=(b10,O [I ((rec offices y2).Kind),I ((rec offices y2).N),I ((rec offices y2).No),.string ((rec offices y2).Name),.slice rr10.jB ((rec offices y2).L.length) rr10.jC] 62)
   exact tn 10 U (eR Expr.eF ([z13,z11,z2,z4]) ([]) (fun G=>[z13,z11,z2,z4]++G) ap (fun _=>ap) kk ty62 zc62 U bytes62 (pX.mono Expr.ao hle10) U U (fI 0 U (show bu Expr.rp h10 [I ((rec offices y2).Kind),I ((rec offices y2).N),I ((rec offices y2).No),.string ((rec offices y2).Name),.slice rr10.jB ((rec offices y2).L.length) rr10.jC] ([(rec offices y2)]) from ⟨[I ((rec offices y2).Kind),I ((rec offices y2).N),I ((rec offices y2).No),.string ((rec offices y2).Name),.slice rr10.jB ((rec offices y2).L.length) rr10.jC],[],U,U,⟨rr10,U,ok10⟩,U⟩)) lo lo (fun ob7 oc7 G7 gr7=>⟨jn,qB [11] U (tn 12 U (jX 1 ty60 U U U U U U (⟨jn,aW kr (qT 3 U (aw (v':=I (((i2+1):Nat):Int)) U (bw ob) (an (bB (L':=[(b3,O [I x.Kind,I x.N,I 0,.string x.Name,.slice ob7 ((jH++[(rec offices y2)]).length) oc7] 62),z2,z4]++G7) js (ag2 ((jH++[(rec offices y2)]),ob7,oc7,G7,h10) hs8 ⟨gr7,lo,(hl2.t hle10)⟩)))))⟩)))⟩))
  refine bV (cells:=[I ((rec offices y2).Kind),I ((rec offices y2).N),I ((rec offices y2).No),.string ((rec offices y2).Name),.slice rr10.jB ((rec offices y2).L.length) rr10.jC]) kk ty62 zc62 U U kr (fun b11=>⟨jn,tn 1 U (fg (fH ty60 U (mR (i:=1) U) U) (⟨jn,?_⟩))⟩)
  let z12:Nat×Obj:=(b3,O [I x.Kind,I x.N,I 0,.string x.Name,.slice mi jH.length mh] 62)
  let z14:Nat×Obj:=(b11,O [I ((rec offices y2).Kind),I ((rec offices y2).N),I ((rec offices y2).No),.string ((rec offices y2).Name),.slice rr10.jB ((rec offices y2).L.length) rr10.jC] 62)
  exact tn 10 U (eR Expr.eF ([z14,z12,z2,z4]) ([]) (fun G=>[z14,z12,z2,z4]++G) ap (fun _=>ap) kk ty62 zc62 U bytes62 (pX.mono Expr.ao hle10) U U (fI 0 U (show bu Expr.rp h10 [I ((rec offices y2).Kind),I ((rec offices y2).N),I ((rec offices y2).No),.string ((rec offices y2).Name),.slice rr10.jB ((rec offices y2).L.length) rr10.jC] ([(rec offices y2)]) from ⟨[I ((rec offices y2).Kind),I ((rec offices y2).N),I ((rec offices y2).No),.string ((rec offices y2).Name),.slice rr10.jB ((rec offices y2).L.length) rr10.jC],[],U,U,⟨rr10,U,ok10⟩,U⟩)) lo lo (fun ob8 oc8 G8 gr8=>⟨jn,qB [11] U (tn 12 U (jX 1 ty60 U U U U U U (⟨jn,aW kr (qT 3 U (aw (v':=I (((i2+1):Nat):Int)) U (bw ob) (an (bB (L':=[(b3,O [I x.Kind,I x.N,I 0,.string x.Name,.slice ob8 ((jH++[(rec offices y2)]).length) oc8] 62),z2,z4]++G8) js (ag2 ((jH++[(rec offices y2)]),ob8,oc8,G8,h10) hs8 ⟨gr8,lo,(hl2.t hle10)⟩)))))⟩)))⟩))
 rintro i2 ⟨jH,mi,mh,xh,hh2⟩ hd2 Mx hx e
 exact qK 7 [2] U (aw (v':=.bool false) U (cb Mx) (qO 3 U (hx _ rd)))
theorem ow:∀ (m:Nat) (h:HF) (offices:List ByteArray) (dw:Option Addr) (dv:Nat) (x:Expr) (fP:cG) (_:x.dep≤m) (hoffices:SlC Rp.str h dw dv offices) (hx:Expr.ok h x fP) (hsz:x.dep≤2000000),jN prog 307 [.slice dw offices.length dv,.agg (Expr.cells x fP).toArray] h (fun v h'=>∃ (rr0:cG),v=.agg (Expr.cells (ae.go m offices x) rr0).toArray∧Expr.ok h' (ae.go m offices x) rr0)
 | 0,h,offices,dw,dv,x,fP,hd,hoffices,hx,hsz=>absurd hd (Nat.not_le.2 (Expr.kB _))
 | m+1,h,offices,dw,dv,x,fP,hd,hoffices,hx,hsz=>vV (ae.go m) h offices dw dv x fP (fun qh_ qoffices jo jm qx j5 qhoffices qhx qhsz qd=>ow m qh_ qoffices jo jm qx j5 ob qhoffices qhx qhsz) hoffices hx hsz
theorem qC (h:HF) (offices:List ByteArray) (dw:Option Addr) (dv:Nat) (x:Expr) (fP:cG) (hoffices:SlC Rp.str h dw dv offices) (hx:Expr.ok h x fP) (hsz:x.dep≤2000000):jN prog 307 [.slice dw offices.length dv,.agg (Expr.cells x fP).toArray] h (fun v h'=>∃ (rr0:cG),v=.agg (Expr.cells (ae offices x) rr0).toArray∧Expr.ok h' (ae offices x) rr0):=ow _ h offices dw dv x fP (Nat.le_refl _) hoffices hx hsz
theorem xU (h:HF) (p:Policy) (fL:el) (hp:Policy.ok h p fL) (hsm:smP p):jN prog 249 [.agg (Policy.cells p fL).toArray] h (fun v h'=>∃ (rr0:el),v=.tuple #[.agg (Policy.cells ((dL p).1) rr0).toArray,I ((dL p).2)]∧Policy.ok h' ((dL p).1) rr0):=by
 refine cz GU U ntmps249 U fun X hM hX=>?_
 have hs0:dL p=dL p:=rfl
 have hsc:=hsm.change
 have hsr:=hsm.rules
 refine sr (cA (fun b1=>aV zc64 (fun b2=>qO 5 U (cW 1 ty64 U U U (av call304 (w4 _ _ _ hp) U (aD (ai hs0 U (fun c1 hs1=>?_) (fun c1 hs2=>?_))))))))
 ·refine sr (aF (fw (cells:=[.string (⟨#[]⟩:ByteArray),.slice none 0 0,.slice none 0 0,.slice none 0 0,I 0,I 0,I 0,.string (⟨#[]⟩:ByteArray),.slice none 0 0,I 0]) (places:=[(0,1),(1,1),(2,1),(3,1),(4,5),(9,1)]) Hi zc64 kr kr (aS 0 ty64 U U U U U U (an ?_))))
  have hs3:dL p=((Policy.mk (⟨#[]⟩:ByteArray) ([]) ([]) ([]) (Expr.mk 0 0 0 (⟨#[]⟩:ByteArray) ([])) 0),2):=hs1
  exact jd [.agg (List.toArray [.string (⟨#[]⟩:ByteArray),.slice none 0 0,.slice none 0 0,.slice none 0 0,I 0,I 0,I 0,.string (⟨#[]⟩:ByteArray),.slice none 0 0,I 0]),I 2] GU U ⟨⟨0,_,_,_,_,U,U,.inl ⟨ty64,U⟩⟩,U,trivial⟩ ⟨(el.mk none 0 none 0 none 0 (cG.mk none 0)),congrArg (fun r:(Policy×Int)=>(.tuple #[.agg (Policy.cells r.1 (el.mk none 0 none 0 none 0 (cG.mk none 0))).toArray,I r.2]:Value)) hs3.symm,(by rw [hs3];exact (show Policy.ok h (Policy.mk (⟨#[]⟩:ByteArray) ([]) ([]) ([]) (Expr.mk 0 0 0 (⟨#[]⟩:ByteArray) ([])) 0) (el.mk none 0 none 0 none 0 (cG.mk none 0)) from ⟨SlC.nil,SlC.nil,SlC.nil,(show Expr.ok h (Expr.mk 0 0 0 (⟨#[]⟩:ByteArray) ([])) (cG.mk none 0) from Expr.ok.of SlC.nil)⟩))⟩
 refine qT 4 U (cW 1 ty64 U U U (av call305 (AR _ _ _ hp) U (qO 2 U (ai hs2 U (fun c2 hs4=>?_) (fun c2 hs5=>?_)))))
 ·refine sr (aF (fw (cells:=[.string (⟨#[]⟩:ByteArray),.slice none 0 0,.slice none 0 0,.slice none 0 0,I 0,I 0,I 0,.string (⟨#[]⟩:ByteArray),.slice none 0 0,I 0]) (places:=[(0,1),(1,1),(2,1),(3,1),(4,5),(9,1)]) Hi zc64 kr kr (aS 0 ty64 U U U U U U (an ?_))))
  have hs6:dL p=((Policy.mk (⟨#[]⟩:ByteArray) ([]) ([]) ([]) (Expr.mk 0 0 0 (⟨#[]⟩:ByteArray) ([])) 0),201):=hs4
  exact jd [.agg (List.toArray [.string (⟨#[]⟩:ByteArray),.slice none 0 0,.slice none 0 0,.slice none 0 0,I 0,I 0,I 0,.string (⟨#[]⟩:ByteArray),.slice none 0 0,I 0]),I 201] GU U ⟨⟨0,_,_,_,_,U,U,.inl ⟨ty64,U⟩⟩,U,trivial⟩ ⟨(el.mk none 0 none 0 none 0 (cG.mk none 0)),congrArg (fun r:(Policy×Int)=>(.tuple #[.agg (Policy.cells r.1 (el.mk none 0 none 0 none 0 (cG.mk none 0))).toArray,I r.2]:Value)) hs6.symm,(by rw [hs6];exact (show Policy.ok h (Policy.mk (⟨#[]⟩:ByteArray) ([]) ([]) ([]) (Expr.mk 0 0 0 (⟨#[]⟩:ByteArray) ([])) 0) (el.mk none 0 none 0 none 0 (cG.mk none 0)) from ⟨SlC.nil,SlC.nil,SlC.nil,(show Expr.ok h (Expr.mk 0 0 0 (⟨#[]⟩:ByteArray) ([])) (cG.mk none 0) from Expr.ok.of SlC.nil)⟩))⟩
 refine qT 4 U (cW 1 ty64 U U U (av call306 (zy _ _ _ hp) U (qO 2 U (ai hs5 U (fun c3 hs7=>?_) (fun c3 hs8=>?_)))))
 ·refine sr (aF (fw (cells:=[.string (⟨#[]⟩:ByteArray),.slice none 0 0,.slice none 0 0,.slice none 0 0,I 0,I 0,I 0,.string (⟨#[]⟩:ByteArray),.slice none 0 0,I 0]) (places:=[(0,1),(1,1),(2,1),(3,1),(4,5),(9,1)]) Hi zc64 kr kr (aS 0 ty64 U U U U U U (an ?_))))
  have hs9:dL p=((Policy.mk (⟨#[]⟩:ByteArray) ([]) ([]) ([]) (Expr.mk 0 0 0 (⟨#[]⟩:ByteArray) ([])) 0),200):=hs7
  exact jd [.agg (List.toArray [.string (⟨#[]⟩:ByteArray),.slice none 0 0,.slice none 0 0,.slice none 0 0,I 0,I 0,I 0,.string (⟨#[]⟩:ByteArray),.slice none 0 0,I 0]),I 200] GU U ⟨⟨0,_,_,_,_,U,U,.inl ⟨ty64,U⟩⟩,U,trivial⟩ ⟨(el.mk none 0 none 0 none 0 (cG.mk none 0)),congrArg (fun r:(Policy×Int)=>(.tuple #[.agg (Policy.cells r.1 (el.mk none 0 none 0 none 0 (cG.mk none 0))).toArray,I r.2]:Value)) hs9.symm,(by rw [hs9];exact (show Policy.ok h (Policy.mk (⟨#[]⟩:ByteArray) ([]) ([]) ([]) (Expr.mk 0 0 0 (⟨#[]⟩:ByteArray) ([])) 0) (el.mk none 0 none 0 none 0 (cG.mk none 0)) from ⟨SlC.nil,SlC.nil,SlC.nil,(show Expr.ok h (Expr.mk 0 0 0 (⟨#[]⟩:ByteArray) ([])) (cG.mk none 0) from Expr.ok.of SlC.nil)⟩))⟩
 refine qT 3 U (cW 1 ty64 U U U (aV zc64 (fun b3=>aS 0 ty64 U U U U U U (qL 4 [] U (cJ 0 ty59 U U U U U U (qO 6 U ?_))))))
 let z4:Nat×Obj:=(b2,O [.string (⟨#[]⟩:ByteArray),.slice none 0 0,.slice none 0 0,.slice none 0 0,I 0,I 0,I 0,.string (⟨#[]⟩:ByteArray),.slice none 0 0,I 0] 64)
 let z7:Nat×Obj:=(b1,O (Policy.cells p fL) 64)
 refine lp2 p.Rules (fun i w=>[(1,Q b1),(2,Q b2),(4,Q b3),(5,I (i:Int))]) (fun w=>w.2.2.2.2) (fun w=>[(b3,O [.string p.Name,.slice fL.iA p.Kinds.length fL.iz,.slice fL.fO p.Offices.length fL.fN,.slice w.2.1 w.1.length w.2.2.1,I p.Change.Kind,I p.Change.N,I p.Change.No,.string p.Change.Name,.slice fL.Change.jB p.Change.L.length fL.Change.jC,I p.Mode] 64),z4,z7]++(w.2.2.2.1)) (fun i w=>em Rule.rp 79 w.2.2.2.2 w.1 w.2.1 w.2.2.1 w.2.2.2.1∧w.1.length≤0+i∧HF.le h w.2.2.2.2) (fun s1 i w=>(dL.L1 p (dL.K1 p)) s1 i w.1) ([],none,0,[],h) hp.Rules.1.1 hs8 ⟨em.nil,lo,lf⟩ ?_ ?_ ?_
 ·rintro i1 ⟨kK,nB,nA,uB,hh1⟩ fA hs10 ⟨uA,BI,hl1⟩ e
  try dsimp only at uA BI hl1
  refine qK 5 [2] U (cW 2 ty62 U U U (aF (cY Eu (qC _ _ _ _ _ _ (hp.Offices.mono Rp.gX hl1) (hp.Change.mono hl1) ob) U (fun v3 h4 hle4 hp3=>?_))))
  obtain ⟨rr4,rfl,ok4⟩:=hp3
  let z2:Nat×Obj:=(b3,O [.string p.Name,.slice fL.iA p.Kinds.length fL.iz,.slice fL.fO p.Offices.length fL.fN,.slice nB kK.length nA,I ((ae p.Offices p.Change).Kind),I ((ae p.Offices p.Change).N),I ((ae p.Offices p.Change).No),.string ((ae p.Offices p.Change).Name),.slice rr4.jB ((ae p.Offices p.Change).L.length) rr4.jC,I p.Mode] 64)
  let z3:Nat×Obj:=(b2,O [.string p.Name,.slice fL.iA p.Kinds.length fL.iz,.slice fL.fO p.Offices.length fL.fN,.slice nB kK.length nA,I ((ae p.Offices p.Change).Kind),I ((ae p.Offices p.Change).N),I ((ae p.Offices p.Change).No),.string ((ae p.Offices p.Change).Name),.slice rr4.jB ((ae p.Offices p.Change).L.length) rr4.jC,I p.Mode] 64)
  refine qL 1 [] U (cJ 0 ty62 U U U U U U (qO 3 U (cW 0 ty64 U U U (aS 1 ty64 U U U U U U (iw (L':=[z2,z3,z7]++(uB)) U (an (gL Rule.ao ([z2,z3,z7]) uB ([]) ap hM (uA.mono Rule.ao hle4) (fun h5 hle5 sl2=>?_))))))))
  have hs11:dL p=((Policy.mk p.Name p.Kinds p.Offices kK (Expr.mk ((ae p.Offices p.Change).Kind) ((ae p.Offices p.Change).N) ((ae p.Offices p.Change).No) ((ae p.Offices p.Change).Name) ((ae p.Offices p.Change).L)) p.Mode),0):=hs10
  exact jd [.agg (Policy.cells (Policy.mk p.Name p.Kinds p.Offices kK (Expr.mk ((ae p.Offices p.Change).Kind) ((ae p.Offices p.Change).N) ((ae p.Offices p.Change).No) ((ae p.Offices p.Change).Name) ((ae p.Offices p.Change).L)) p.Mode) (el.mk fL.iA fL.iz fL.fO fL.fN nB nA (cG.mk rr4.jB rr4.jC))).toArray,I 0] GU U ⟨⟨1,_,_,_,_,U,U,.inl ⟨ty64,U⟩⟩,U,trivial⟩ ⟨(el.mk fL.iA fL.iz fL.fO fL.fN nB nA (cG.mk rr4.jB rr4.jC)),congrArg (fun r:(Policy×Int)=>(.tuple #[.agg (Policy.cells r.1 (el.mk fL.iA fL.iz fL.fO fL.fN nB nA (cG.mk rr4.jB rr4.jC))).toArray,I r.2]:Value)) hs11.symm,(by rw [hs11];exact (show Policy.ok h5 (Policy.mk p.Name p.Kinds p.Offices kK (Expr.mk ((ae p.Offices p.Change).Kind) ((ae p.Offices p.Change).N) ((ae p.Offices p.Change).No) ((ae p.Offices p.Change).Name) ((ae p.Offices p.Change).L)) p.Mode) (el.mk fL.iA fL.iz fL.fO fL.fN nB nA (cG.mk rr4.jB rr4.jC)) from ⟨(hp.Kinds.mono Rp.gX ((hl1.t hle4).t hle5)),(hp.Offices.mono Rp.gX ((hl1.t hle4).t hle5)),sl2,(show Expr.ok h5 (Expr.mk ((ae p.Offices p.Change).Kind) ((ae p.Offices p.Change).N) ((ae p.Offices p.Change).No) ((ae p.Offices p.Change).Name) ((ae p.Offices p.Change).L)) (cG.mk rr4.jB rr4.jC) from Expr.ok.of (ok4.list.mono Expr.ao hle5))⟩))⟩
 ·rintro i1 ⟨kK,nB,nA,uB,hh1⟩ y1 rz1 hd1 dx aL eH hO hs12 ⟨uA,BI,hl1⟩ hx1 ag1 e
  try dsimp only at uA BI hl1
  have hsy:=hsm.2.1 y1 (gi hd1)
  refine qK 7 [2] U (aw (v':=.bool true) U (cb dx) (qL 9 [2] U ?_))
  let z1:Nat×Obj:=(b3,O [.string p.Name,.slice fL.iA p.Kinds.length fL.iz,.slice fL.fO p.Offices.length fL.fN,.slice nB kK.length nA,I p.Change.Kind,I p.Change.N,I p.Change.No,.string p.Change.Name,.slice fL.Change.jB p.Change.L.length fL.Change.jC,I p.Mode] 64)
  refine aj (aF (gC si ty79 (hp.Rules.mono Rule.ao hl1).1 (nthZ aL) (ba aL) U U U (fun _ _ _ e=>e) (fun q2 r2 A2 ok5=>dz ty79 A2 U U (aV zc79 (fun b6=>aS 0 ty79 U U U U U U (iw (L':=[(b6,O (Rule.cells y1 r2) 79),z1,z4,z7]++(uB)) U (qL 5 [] U (cJ 0 ty3 U U U U U U (qL 6 [3] U (cW 0 ty62 U U U (aF (cY Eu (qC _ _ _ _ _ _ (hp.Offices.mono Rp.gX hl1) ok5.Expr ob) U (fun v4 h6 hle6 hp4=>?_)))))))))))))
  obtain ⟨rr6,rfl,ok6⟩:=hp4
  refine qL 1 [] U (cJ 0 ty62 U U U U U U (qL 4 [1] U (cW 0 ty79 U U U (aF (bV (cells:=[.string y1.Kind,I (i1:Int),I y1.Think,I ((ae p.Offices y1.Expr).Kind),I ((ae p.Offices y1.Expr).N),I ((ae p.Offices y1.Expr).No),.string ((ae p.Offices y1.Expr).Name),.slice rr6.jB ((ae p.Offices y1.Expr).L.length) rr6.jC]) si ty79 zc79 U U kr (fun b7=>?_))))))
  let z5:Nat×Obj:=(b7,O [.string y1.Kind,I (i1:Int),I y1.Think,I ((ae p.Offices y1.Expr).Kind),I ((ae p.Offices y1.Expr).N),I ((ae p.Offices y1.Expr).No),.string ((ae p.Offices y1.Expr).Name),.slice rr6.jB ((ae p.Offices y1.Expr).L.length) rr6.jC] 79)
  let z6:Nat×Obj:=(b6,O [.string y1.Kind,I (i1:Int),I y1.Think,I ((ae p.Offices y1.Expr).Kind),I ((ae p.Offices y1.Expr).N),I ((ae p.Offices y1.Expr).No),.string ((ae p.Offices y1.Expr).Name),.slice rr6.jB ((ae p.Offices y1.Expr).L.length) rr6.jC] 79)
  refine aF (eR Rule.eF ([z5,z6,z1,z4,z7]) ([]) (fun G=>[z5,z6,z1,z4,z7]++G) ap (fun _=>ap) si ty79 zc79 U bytes79 (uA.mono Rule.ao hle6) U U (fI 0 U (show bu Rule.rp h6 [.string y1.Kind,I (i1:Int),I y1.Think,I ((ae p.Offices y1.Expr).Kind),I ((ae p.Offices y1.Expr).N),I ((ae p.Offices y1.Expr).No),.string ((ae p.Offices y1.Expr).Name),.slice rr6.jB ((ae p.Offices y1.Expr).L.length) rr6.jC] ([(Rule.mk y1.Kind (i1:Int) y1.Think (Expr.mk ((ae p.Offices y1.Expr).Kind) ((ae p.Offices y1.Expr).N) ((ae p.Offices y1.Expr).No) ((ae p.Offices y1.Expr).Name) ((ae p.Offices y1.Expr).L)))]) from ⟨[.string y1.Kind,I (i1:Int),I y1.Think,I ((ae p.Offices y1.Expr).Kind),I ((ae p.Offices y1.Expr).N),I ((ae p.Offices y1.Expr).No),.string ((ae p.Offices y1.Expr).Name),.slice rr6.jB ((ae p.Offices y1.Expr).L.length) rr6.jC],[],U,U,⟨(xP.mk (cG.mk rr6.jB rr6.jC)),U,(show Rule.ok h6 (Rule.mk y1.Kind (i1:Int) y1.Think (Expr.mk ((ae p.Offices y1.Expr).Kind) ((ae p.Offices y1.Expr).N) ((ae p.Offices y1.Expr).No) ((ae p.Offices y1.Expr).Name) ((ae p.Offices y1.Expr).L))) (xP.mk (cG.mk rr6.jB rr6.jC)) from ⟨(show Expr.ok h6 (Expr.mk ((ae p.Offices y1.Expr).Kind) ((ae p.Offices y1.Expr).N) ((ae p.Offices y1.Expr).No) ((ae p.Offices y1.Expr).Name) ((ae p.Offices y1.Expr).L)) (cG.mk rr6.jB rr6.jC) from Expr.ok.of ok6.list)⟩)⟩,U⟩)) lo lo (fun ob2 oc2 G2 gr2=>qL 1 [] U (cJ 2 ty59 U U U U U U (qO 4 U (aw (v':=I (((i1+1):Nat):Int)) U (bw ob) (an (bB (L':=[(b3,O [.string p.Name,.slice fL.iA p.Kinds.length fL.iz,.slice fL.fO p.Offices.length fL.fN,.slice ob2 ((kK++[(Rule.mk y1.Kind (i1:Int) y1.Think (Expr.mk ((ae p.Offices y1.Expr).Kind) ((ae p.Offices y1.Expr).N) ((ae p.Offices y1.Expr).No) ((ae p.Offices y1.Expr).Name) ((ae p.Offices y1.Expr).L)))]).length) oc2,I p.Change.Kind,I p.Change.N,I p.Change.No,.string p.Change.Name,.slice fL.Change.jB p.Change.L.length fL.Change.jC,I p.Mode] 64),z4,z7]++G2) js ?_)))))))
  exact ag1 ((kK++[(Rule.mk y1.Kind (i1:Int) y1.Think (Expr.mk ((ae p.Offices y1.Expr).Kind) ((ae p.Offices y1.Expr).N) ((ae p.Offices y1.Expr).No) ((ae p.Offices y1.Expr).Name) ((ae p.Offices y1.Expr).L)))]),ob2,oc2,G2,h6) hs12 ⟨gr2,lo,(hl1.t hle6)⟩
 rintro i1 ⟨kK,nB,nA,uB,hh1⟩ hd1 il hx e
 exact qK 7 [2] U (aw (v':=.bool false) U (cb il) (qO 3 U (hx _ rd)))
theorem pN (h:HF) (a:List ByteArray) (MH:Option Addr) (MG:Nat) (jt:List ByteArray) (Cj:Option Addr) (Ci:Nat) (ha:SlC Rp.str h MH MG a) (vu:SlC Rp.str h Cj Ci jt):Ret prog 308 [.slice MH a.length MG,.slice Cj jt.length Ci] h (.bool (ef a jt)):=by
 refine sT func308 U ntmps308 U fun X hM hX hF=>?_
 have hs0:ef a jt=ef a jt:=rfl
 refine qK 13 [] U (ai hs0 U (fun c1 hs1=>?_) (fun c1 hs2=>?_))
 ·exact sr (an (nretP [.bool false] (cs hs1)))
 refine qT 6 U ?_
 refine lp0 a (fun i=>[(0,.slice MH a.length MG),(1,.slice Cj jt.length Ci),(5,I (i:Int))]) ([]) (fun s1 i=>(ef.L1 jt (ef.K1)) s1 i) ha.1.1 hs2 ?_ ?_ ?_
 ·rintro i1 fA hs4 e
  exact sr (an (nretP [.bool true] (cs hs4)))
 ·rintro i1 y1 rz1 hd1 dx aL eH hO hs6 hx1 ag1 e
  refine qK 6 [] U (aw (v':=.bool true) U (cb dx) (qO 6 U (eQ ([]) mixed kr jn (fun dH _=>qA [0,1] U (fW 2 (enc:=fun y=>[.string y]) dH jn ei xQ ty9 ha.1 (nthZ aL) (ba aL) U U U U kr (fun q3 A3=>tf 3 U U (fun _ _ hj=>eV ty9 (A3.mono hj.1) U) (qA [4,5] U ?_)))))))
  have ho2:0≤((i1:Int):Int)∧((i1:Int):Int) < ((jt).length:Int):=ob
  refine fW 6 (enc:=fun y=>[.string y]) dH jn ei xQ ty9 vu.1 ho2 (dU ho2) U U U U kr (fun q4 A4=>tf 7 U U (fun _ _ hj=>eV ty9 (A4.mono hj.1) U) (qA [8] U (aW kr (ai hs6 U (fun c3 hs7=>?_) (fun c3 hs8=>?_)))))
  ·exact sr (an (nretP [.bool false] (cs hs7)))
  exact aJ (qT 3 U (aw (v':=I (((i1+1):Nat):Int)) U (bw ob) (an (ag1 hs8))))
 rintro i1 hd1 il hx e
 exact qK 6 [] U (aw (v':=.bool false) U (cb il) (qO 3 U (hx _ rd)))
theorem vW (rec:Expr→Expr→Bool) (h:HF) (a:Expr) (Er:cG) (jt:Expr) (nV:cG) (hrec:∀ (h:HF) (qa:Expr) (Ll:cG) (J6:Expr) (DW:cG) (hqa:Expr.ok h qa Ll) (Nl:Expr.ok h J6 DW) (_:qa.dep < a.dep),Ret prog 309 [.agg (Expr.cells qa Ll).toArray,.agg (Expr.cells J6 DW).toArray] h (.bool (rec qa J6))) (ha:Expr.ok h a Er) (vu:Expr.ok h jt nV):Ret prog 309 [.agg (Expr.cells a Er).toArray,.agg (Expr.cells jt nV).toArray] h (.bool (bh.F rec a jt)):=by
 refine sT func309 U ntmps309 U fun X hM hX hF=>?_
 have hs0:bh.F rec a jt=bh.F rec a jt:=rfl
 refine sr (cA (fun b1=>cA (fun b2=>qL 11 [1,0] U (bY 6 [11,12,13,14,15,16,17] 11 17 (a.N != jt.N) U (fun c1 hk1=>?_) (fun e=>?_)))))
 ·exact qL 6 [1,0] U (hk1 _ U)
 refine aj (bY 6 [18,19,20,21,22,23,24] 18 24 (a.No != jt.No) U (fun c2 hk2=>?_) (fun e=>?_))
 ·exact qL 6 [1,0] U (hk2 _ U)
 refine aj (bY 6 [25,26,27,28,29,30,31] 25 31 (!(a.Name.toList==jt.Name.toList)) U (fun c3 hk3=>?_) (fun e=>?_))
 ·exact qL 6 [1,0] U (hk3 _ U)
 refine aj (bY 8 [32,33,34,35,36,37,38,39,40] 32 40 ((a.L.length:Int) != (jt.L.length:Int)) U (fun c4 hk4=>?_) (fun e=>?_))
 ·exact qL 8 [1,0] U (hk4 _ U)
 refine aD (ai hs0 U (fun c5 hs1=>?_) (fun c5 hs2=>?_))
 ·exact sr (an (nretP [.bool false] (cs hs1)))
 refine qT 6 U ?_
 let z1:Nat×Obj:=(b2,O (Expr.cells jt nV) 62)
 let z2:Nat×Obj:=(b1,O (Expr.cells a Er) 62)
 refine lp0 a.L (fun i=>[(2,Q b1),(3,Q b2),(5,I (i:Int))]) ([z1,z2]) (fun s1 i=>(bh.L1 rec jt (bh.K1)) s1 i) ha.list.1.1 hs2 ?_ ?_ ?_
 ·rintro i1 fA hs4 e
  exact sr (an (nretP [.bool true] (cs hs4)))
 ·rintro i1 y1 rz1 hd1 dx aL eH hO hs6 hx1 ag1 e
  refine qK 7 [1] U (aw (v':=.bool true) U (cb dx) (qO 6 U (eQ ([z1,z2]) mixed kr jn (fun dH _=>qB [0] U (tf 1 U U (fun _ _ hj=>fH ty60 U (hj.nth (i:=1) U) U) (tm 2 U (ji 3 dH jn kk ty62 ha.list.1 (nthZ aL) (ba aL) U U U U kr (fun q3 cs3 A3 ln3 rr3=>?_))))))))
  obtain ⟨r3,rfl,ok3⟩:=rr3
  refine tf 4 U U (fun _ _ hj=>j9 ty62 (A3.mono hj.1) U U) (qB [5] U (tf 6 U U (fun _ _ hj=>fH ty60 U (hj.nth (i:=0) U) U) (tm 7 U ?_)))
  have ho2:0≤((i1:Int):Int)∧((i1:Int):Int) < ((jt.L).length:Int):=ob
  refine ji 8 dH jn kk ty62 vu.list.1 ho2 (dU ho2) U U U U kr (fun q4 cs4 A4 ln4 rr4=>?_)
  obtain ⟨r4,rfl,ok4⟩:=rr4
  refine tf 9 U U (fun _ _ hj=>j9 ty62 (A4.mono hj.1) U U) (tn 10 U (eP call309 (hrec _ _ _ _ _ ok3 ok4 (Expr.iU (gi hd1))) U (⟨jn,qA [11] U (aW kr (ai hs6 U (fun c7 hs7=>?_) (fun c7 hs8=>?_)))⟩)))
  ·exact sr (an (nretP [.bool false] (cs hs7)))
  exact aJ (qT 3 U (aw (v':=I (((i1+1):Nat):Int)) U (bw ob) (an (ag1 hs8))))
 rintro i1 hd1 il hx e
 exact qK 7 [1] U (aw (v':=.bool false) U (cb il) (qO 3 U (hx _ rd)))
theorem ox:∀ (m:Nat) (h:HF) (a:Expr) (Er:cG) (jt:Expr) (nV:cG) (_:a.dep≤m) (ha:Expr.ok h a Er) (vu:Expr.ok h jt nV),Ret prog 309 [.agg (Expr.cells a Er).toArray,.agg (Expr.cells jt nV).toArray] h (.bool (bh.go m a jt))
 | 0,h,a,Er,jt,nV,hd,ha,vu=>absurd hd (Nat.not_le.2 (Expr.kB _))
 | m+1,h,a,Er,jt,nV,hd,ha,vu=>vW (bh.go m) h a Er jt nV (fun qh_ qa Ll J6 DW qha ML qd=>ox m qh_ qa Ll J6 DW ob qha ML) ha vu
theorem qG (h:HF) (a:Expr) (Er:cG) (jt:Expr) (nV:cG) (ha:Expr.ok h a Er) (vu:Expr.ok h jt nV):Ret prog 309 [.agg (Expr.cells a Er).toArray,.agg (Expr.cells jt nV).toArray] h (.bool (bh a jt)):=ox _ h a Er jt nV (Nat.le_refl _) ha vu
theorem Cp (h:HF) (a:Policy) (Er:el) (jt:Policy) (nV:el) (ha:Policy.ok h a Er) (vu:Policy.ok h jt nV):Ret prog 250 [.agg (Policy.cells a Er).toArray,.agg (Policy.cells jt nV).toArray] h (.bool (gN a jt)):=by
 refine sT func250 U ntmps250 U fun X hM hX hF=>?_
 have hs0:gN a jt=gN a jt:=rfl
 refine sr (cA (fun b1=>cA (fun b2=>qL 11 [1,0] U (bY 6 [13,14,15,16,17,18,19] 13 19 (a.Mode != jt.Mode) U (fun c1 hk1=>?_) (fun e=>?_)))))
 ·exact qL 6 [1,0] U (hk1 _ U)
 refine aj (bY 7 [20,21,22,23,24,25,26,27] 20 27 (!(ef a.Offices jt.Offices)) U (fun c2 hk2=>?_) (fun e=>?_))
 ·exact qL 4 [1,0] U (av call308 (pN _ _ _ _ _ _ _ ha.Offices vu.Offices) U (qO 2 U (hk2 _ U)))
 refine aj (bY 7 [28,29,30,31,32,33,34,35] 28 35 (!(ef a.Kinds jt.Kinds)) U (fun c3 hk3=>?_) (fun e=>?_))
 ·exact qL 4 [1,0] U (av call308 (pN _ _ _ _ _ _ _ ha.Kinds vu.Kinds) U (qO 2 U (hk3 _ U)))
 refine aj (bY 8 [36,37,38,39,40,41,42,43,44] 36 44 ((a.Rules.length:Int) != (jt.Rules.length:Int)) U (fun c4 hk4=>?_) (fun e=>?_))
 ·exact qL 8 [1,0] U (hk4 _ U)
 refine aj (bY 7 [45,46,47,48,49,50,51,52] 45 52 (!(bh a.Change jt.Change)) U (fun c5 hk5=>?_) (fun e=>?_))
 ·exact qL 1 [] U (cW 1 ty62 U U U (qL 1 [] U (cW 0 ty62 U U U (av call309 (qG _ _ _ _ _ ha.Change vu.Change) U (qO 2 U (hk5 _ U))))))
 refine aD (ai hs0 U (fun c6 hs1=>?_) (fun c6 hs2=>?_))
 ·exact sr (an (nretP [.bool false] (cs hs1)))
 refine qT 6 U ?_
 refine lp0 a.Rules (fun i=>[(2,Q b1),(3,Q b2),(5,I (i:Int))]) ([(b2,O (Policy.cells jt nV) 64),(b1,O (Policy.cells a Er) 64)]) (fun s1 i=>(gN.L1 jt (gN.K1)) s1 i) ha.Rules.1.1 hs2 ?_ ?_ ?_
 ·rintro i1 fA hs4 e
  exact sr (an (nretP [.bool true] (cs hs4)))
 ·rintro i1 y1 rz1 hd1 dx aL eH hO hs6 hx1 ag1 e
  refine qK 7 [1] U (aw (v':=.bool true) U (cb dx) (qL 10 [1] U (aF (gC si ty79 ha.Rules.1 (nthZ aL) (ba aL) U U U (fun _ _ _ e=>e) (fun q3 r3 A3 ok3=>dz ty79 A3 U U (aV zc79 (fun b5=>aS 0 ty79 U U U U U U (qL 6 [1] U ?_))))))))
  have ho2:0≤((i1:Int):Int)∧((i1:Int):Int) < ((jt.Rules).length:Int):=ob
  refine aF (gC si ty79 vu.Rules.1 ho2 (dU ho2) U U U (fun _ _ _ e=>e) (fun q4 r4 A4 ok4=>dz ty79 A4 U U (aV zc79 (fun b6=>aS 0 ty79 U U U U U U (qL 9 [1,0] U (bY 6 [75,76,77,78,79,80,81] 75 81 (y1.KindNo != (nthI jt.Rules (i1:Int)).KindNo) U (fun c7 hk6=>?_) (fun e=>?_)))))))
  ·exact qL 6 [1,0] U (hk6 _ U)
  refine aj (bY 6 [82,83,84,85,86,87,88] 82 88 (y1.Think != (nthI jt.Rules (i1:Int)).Think) U (fun c8 hk7=>?_) (fun e=>?_))
  ·exact qL 6 [1,0] U (hk7 _ U)
  refine aj (bY 7 [89,90,91,92,93,94,95,96] 89 96 (!(bh y1.Expr ((nthI jt.Rules (i1:Int)).Expr))) U (fun c9 hk8=>?_) (fun e=>?_))
  ·exact qL 1 [] U (cW 1 ty62 U U U (qL 1 [] U (cW 0 ty62 U U U (av call309 (qG _ _ _ _ _ ok3.Expr ok4.Expr) U (qO 2 U (hk8 _ U))))))
  refine aD (ai hs6 U (fun c10 hs7=>?_) (fun c10 hs8=>?_))
  ·exact sr (an (nretP [.bool false] (cs hs7)))
  exact aJ (qT 3 U (aw (v':=I (((i1+1):Nat):Int)) U (bw ob) (an (bB (L':=[(b2,O (Policy.cells jt nV) 64),(b1,O (Policy.cells a Er) 64)]) js (ag1 hs8)))))
 rintro i1 hd1 il hx e
 exact qK 7 [1] U (aw (v':=.bool false) U (cb il) (qO 3 U (hx _ rd)))
theorem tZ (h:HF) (p:Policy) (fL:el) (hp:Policy.ok h p fL) (hsm:smP p):Ret prog 158 [.agg (Policy.cells p fL).toArray] h (I (fQ p)):=by
 refine sT func158 U ntmps158 U fun X hM hX hF=>?_
 have hs0:fQ p=fQ p:=rfl
 refine sr (cA (fun b1=>qO 4 U (cW 0 ty64 U U U (aF (cY call249 (xU _ _ _ hp ob) U (fun v1 h1 hle1 hp1=>?_))))))
 obtain ⟨rr1,rfl,ok1⟩:=hp1
 refine qO 3 U (aV zc64 (fun b2=>aS 0 ty64 U U U U U U (qO 8 U (ai hs0 U (fun c1 hs1=>?_) (fun c1 hs2=>?_)))))
 ·exact sr (qO 3 U (nretP [I ((dL p).2)] (ci hs1)))
 refine qT 4 U (cW 0 ty64 U U U (cW 1 ty64 U U U (av call250 (Cp _ _ _ _ _ ok1 (hp.mono hle1)) U (qO 2 U (ai hs2 U (fun c2 hs4=>?_) (fun c2 hs5=>?_))))))
 ·exact sr (an (nretP [I 200] (ci hs4)))
 exact aJ (qT 4 U (nretP [I 0] (ci hs5)))
theorem w5 (h:HF) (l:List Version) (e8:Option Addr) (eZ:Nat) (hl:SlC Version.rp h e8 eZ l) (hsm:smV l):Ret prog 76 [.slice e8 l.length eZ] h (I (dE l)):=by
 refine sT func76 U ntmps76 U fun X hM hX hF=>?_
 have hs0:dE l=dE l:=rfl
 refine qK 11 [] U (ai hs0 U (fun c1 hs1=>?_) (fun c1 hs2=>?_))
 ·have c1p:=of_decide_eq_true c1
  exact sr (an (nretP [I 2] (ci hs1)))
 have c1p:=of_decide_eq_false c1
 refine qT 6 U ?_
 refine lp0 l (fun i=>[(0,.slice e8 l.length eZ),(3,I (i:Int))]) ([]) (fun s1 i=>(dE.L1 l (dE.K1)) s1 i) hl.1.1 hs2 ?_ ?_ ?_
 ·rintro i1 fA hs4 e
  exact sr (an (nretP [I 0] (ci hs4)))
 ·rintro i1 y1 rz1 hd1 dx aL eH hO hs6 hx1 ag1 e
  have hsy:=hsm.2 y1 (gi hd1)
  refine qK 6 [] U (aw (v':=.bool true) U (cb dx) (qO 9 U (aF (gC vf ty105 hl.1 (nthZ aL) (ba aL) U U U (fun _ _ _ e=>e) (fun q2 r2 A2 ok2=>dz ty105 A2 U U (aV zc105 (fun b2=>aS 0 ty105 U U U U U U (qO 2 U ?_))))))))
  refine nZ [(0,.slice e8 l.length eZ),(3,I (i1:Int)),(58,.bool (((((decide (y1.No < 0)||decide (1048576 < y1.No))||(decide (0 < (i1:Int))&&decide (y1.No≤(nthI l ((i1:Int) - 1)).No)))||(!(fd y1.At)))||(!(fd y1.Known)))||((fQ y1.Policy) != 0)))] (fun e=>?_) (fun hk1=>?_)
  rotate_left
  ·let z1:Nat×Obj:=(b2,O (Version.cells y1 r2) 105)
   refine eQ ([z1]) mixed kr jn (fun dH _=>?_)
   refine qB [0] U (tf 1 U U (fun _ _ hj=>fH ty3 U (hj.nth (i:=0) U) U) (qA [2,3] U ?_))
   refine dt 21 U (fun c2=>?_) (fun c2=>?_)
   ·have c2p:=of_decide_eq_true c2
    exact tk 4 U U (qR 5 36 U (aW kr (hk1 _ ⟨U,U,(cb (show true=(((((decide (y1.No < 0)||decide (1048576 < y1.No))||(decide (0 < (i1:Int))&&decide (y1.No≤(nthI l ((i1:Int) - 1)).No)))||(!(fd y1.At)))||(!(fd y1.Known)))||((fQ y1.Policy) != 0)) from by rw [c2] <;> rfl)),trivial⟩)))
   have c2p:=of_decide_eq_false c2
   refine qB [4] U (tf 5 U U (fun _ _ hj=>fH ty3 U (hj.nth (i:=0) U) U) (qR 6 3 U ?_))
   refine dt 26 U (fun c3=>?_) (fun c3=>?_)
   ·have c3p:=of_decide_eq_true c3
    exact tk 9 U U (qR 10 31 U (aW kr (hk1 _ ⟨U,U,(cb (show true=(((((decide (y1.No < 0)||decide (1048576 < y1.No))||(decide (0 < (i1:Int))&&decide (y1.No≤(nthI l ((i1:Int) - 1)).No)))||(!(fd y1.At)))||(!(fd y1.Known)))||((fQ y1.Policy) != 0)) from by rw [c2,c3] <;> rfl)),trivial⟩)))
   have c3p:=of_decide_eq_false c3
   refine qR 9 3 U ?_
   refine dt 29 U (fun c4=>?_) (fun c4=>?_)
   ·have c4p:=of_decide_eq_true c4
    refine qA [12,13] U (tf 14 U U (fun _ _ _=>np (v':=I ((i1:Int) - 1)) U (jV ob)) ?_)
    have ho1:0≤(((i1:Int) - 1):Int)∧(((i1:Int) - 1):Int) < ((l).length:Int):=ob
    refine ji 15 dH jn vf ty105 hl.1 ho1 (dU ho1) U U U U kr (fun q3 cs3 A3 ln3 rr3=>?_)
    obtain ⟨r3,rfl,ok3⟩:=rr3
    refine qB [16] U (tf 17 U U (fun _ _ hj=>eV ty3 (A3.mono hj.1) U) (qB [18] U (tf 19 U U (fun _ _ hj=>fH ty3 U (hj.nth (i:=0) U) U) (qR 20 4 U ?_))))
    refine dt 41 U (fun c5=>?_) (fun c5=>?_)
    ·have c5p:=of_decide_eq_true c5
     exact tk 24 U U (qR 25 16 U (aW kr (hk1 _ ⟨U,U,(cb (show true=(((((decide (y1.No < 0)||decide (1048576 < y1.No))||(decide (0 < (i1:Int))&&decide (y1.No≤(nthI l ((i1:Int) - 1)).No)))||(!(fd y1.At)))||(!(fd y1.Known)))||((fQ y1.Policy) != 0)) from by rw [c2,c3,c4,c5] <;> rfl)),trivial⟩)))
    have c5p:=of_decide_eq_false c5
    refine qB [24] U (tf 25 U U (fun _ _ hj=>fH ty3 U (hj.nth (i:=0) U) U) (tn 26 U (eP IW (oa h y1.At) U (⟨jn,(qR 27 3 U ?_)⟩))))
    refine dt 47 U (fun c6=>?_) (fun c6=>?_)
    ·exact tk 30 U U (qR 31 10 U (aW kr (hk1 _ ⟨U,U,(cb (show true=(((((decide (y1.No < 0)||decide (1048576 < y1.No))||(decide (0 < (i1:Int))&&decide (y1.No≤(nthI l ((i1:Int) - 1)).No)))||(!(fd y1.At)))||(!(fd y1.Known)))||((fQ y1.Policy) != 0)) from by rw [c2,c3,c4,c5,c6] <;> rfl)),trivial⟩)))
    refine qB [30] U (tf 31 U U (fun _ _ hj=>fH ty3 U (hj.nth (i:=0) U) U) (tn 32 U (eP IW (oa h y1.Known) U (⟨jn,(qR 33 3 U ?_)⟩))))
    refine dt 53 U (fun c7=>?_) (fun c7=>?_)
    ·exact tk 36 U U (qR 37 4 U (aW kr (hk1 _ ⟨U,U,(cb (show true=(((((decide (y1.No < 0)||decide (1048576 < y1.No))||(decide (0 < (i1:Int))&&decide (y1.No≤(nthI l ((i1:Int) - 1)).No)))||(!(fd y1.At)))||(!(fd y1.Known)))||((fQ y1.Policy) != 0)) from by rw [c2,c3,c4,c5,c6,c7] <;> rfl)),trivial⟩)))
    exact tf 36 U U (fun _ _ _=>jS FO U) (tf 37 U U (fun _ _ hj=>je ty64 U (hj.nth (i:=0) U) U) (tn 38 U (eP call158 (tZ _ _ _ ok2.Policy ob) U (⟨jn,(qA [39,40] U (aW kr (hk1 _ ⟨U,U,(cb (show ((fQ y1.Policy) != 0)=(((((decide (y1.No < 0)||decide (1048576 < y1.No))||(decide (0 < (i1:Int))&&decide (y1.No≤(nthI l ((i1:Int) - 1)).No)))||(!(fd y1.At)))||(!(fd y1.Known)))||((fQ y1.Policy) != 0)) from by rw [c2,c3,c4,c5,c6,c7] <;> rfl)),trivial⟩)))⟩))))
   have c4p:=of_decide_eq_false c4
   refine qD 12 13 U (tf 25 U U (fun _ _ hj=>fH ty3 U (hj.nth (i:=0) U) U) (tn 26 U (eP IW (oa h y1.At) U (⟨jn,qR 27 3 U ?_⟩))))
   refine dt 47 U (fun c8=>?_) (fun c8=>?_)
   ·exact tk 30 U U (qR 31 10 U (aW kr (hk1 _ ⟨U,U,(cb (show true=(((((decide (y1.No < 0)||decide (1048576 < y1.No))||(decide (0 < (i1:Int))&&decide (y1.No≤(nthI l ((i1:Int) - 1)).No)))||(!(fd y1.At)))||(!(fd y1.Known)))||((fQ y1.Policy) != 0)) from by rw [c2,c3,c4,c8] <;> rfl)),trivial⟩)))
   refine qB [30] U (tf 31 U U (fun _ _ hj=>fH ty3 U (hj.nth (i:=0) U) U) (tn 32 U (eP IW (oa h y1.Known) U (⟨jn,(qR 33 3 U ?_)⟩))))
   refine dt 53 U (fun c9=>?_) (fun c9=>?_)
   ·exact tk 36 U U (qR 37 4 U (aW kr (hk1 _ ⟨U,U,(cb (show true=(((((decide (y1.No < 0)||decide (1048576 < y1.No))||(decide (0 < (i1:Int))&&decide (y1.No≤(nthI l ((i1:Int) - 1)).No)))||(!(fd y1.At)))||(!(fd y1.Known)))||((fQ y1.Policy) != 0)) from by rw [c2,c3,c4,c8,c9] <;> rfl)),trivial⟩)))
   exact tf 36 U U (fun _ _ _=>jS FO U) (tf 37 U U (fun _ _ hj=>je ty64 U (hj.nth (i:=0) U) U) (tn 38 U (eP call158 (tZ _ _ _ ok2.Policy ob) U (⟨jn,(qA [39,40] U (aW kr (hk1 _ ⟨U,U,(cb (show ((fQ y1.Policy) != 0)=(((((decide (y1.No < 0)||decide (1048576 < y1.No))||(decide (0 < (i1:Int))&&decide (y1.No≤(nthI l ((i1:Int) - 1)).No)))||(!(fd y1.At)))||(!(fd y1.Known)))||((fQ y1.Policy) != 0)) from by rw [c2,c3,c4,c8,c9] <;> rfl)),trivial⟩)))⟩))))
  refine ai hs6 U (fun c10 hs7=>?_) (fun c10 hs8=>?_)
  ·exact sr (an (nretP [I 200] (ci hs7)))
  exact aJ (qT 3 U (aw (v':=I (((i1+1):Nat):Int)) U (bw ob) (an (bB (L':=[]) js (ag1 hs8)))))
 rintro i1 hd1 il hx e
 exact qK 6 [] U (aw (v':=.bool false) U (cb il) (qO 3 U (hx _ rd)))
theorem Cq (h:HF) (t:Int)  : Ret prog 223 [I t] h (.bool (mV t)):=by
 refine sT func223 U ntmps223 U fun X hM hX hF=>?_
 have hs0:mV t=mV t:=rfl
 refine qT 9 U (bC 3 [5,6,7,8] 5 8 (decide (t < 1099511627776)) U (fun c1 hk1=>?_) (fun e=>?_))
 ·exact aj (qO 2 U (hk1 _ U))
 exact an (nretP [.bool (decide (0≤t)&&decide (t < 1099511627776))] (cs hs0))
theorem rx (h:HF) (l:List Int) (e8:Option Addr) (eZ:Nat) (limit:Int) (hl:SlC Rp.int h e8 eZ l):Ret prog 251 [.slice e8 l.length eZ,I limit] h (.bool (eu l limit)):=by
 refine sT func251 U ntmps251 U fun X hM hX hF=>?_
 have hs0:eu l limit=eu l limit:=rfl
 refine qT 9 U ?_
 refine lp0 l (fun i=>[(0,.slice e8 l.length eZ),(1,I limit),(5,I (i:Int))]) ([]) (fun s1 i=>(eu.L1 l limit (eu.K1 l)) s1 i) hl.1.1 hs0 ?_ ?_ ?_
 ·rintro i1 fA hs1 e
  exact qK 7 [] U (nretP [.bool (decide ((l.length:Int)≤16))] (cs hs1))
 ·rintro i1 y1 rz1 hd1 dx aL eH hO hs3 hx1 ag1 e
  refine qK 6 [] U (aw (v':=.bool true) U (cb dx) (qO 6 U ?_))
  refine nZ [(0,.slice e8 l.length eZ),(1,I limit),(5,I (i1:Int)),(40,.bool ((decide (y1 < 0)||decide (limit≤y1))||(decide (0 < (i1:Int))&&decide (y1≤(nthI l ((i1:Int) - 1))))))] (fun e=>?_) (fun hk1=>?_)
  rotate_left
  ·refine eQ ([]) mixed kr jn (fun dH _=>?_)
   refine qA [0,1] U (fW 2 (enc:=fun y=>[I y]) dH jn ei fa ty3 hl.1 (nthZ aL) (ba aL) U U U U kr (fun q3 A3=>tf 3 U U (fun _ _ hj=>eV ty3 (A3.mono hj.1) U) (qA [4,5] U ?_)))
   refine dt 17 U (fun c1=>?_) (fun c1=>?_)
   ·have c1p:=of_decide_eq_true c1
    exact tk 6 U U (qR 7 22 U (aW kr (hk1 _ ⟨U,U,U,(cb (show true=((decide (y1 < 0)||decide (limit≤y1))||(decide (0 < (i1:Int))&&decide (y1≤(nthI l ((i1:Int) - 1))))) from by rw [c1] <;> rfl)),trivial⟩)))
   have c1p:=of_decide_eq_false c1
   refine qA [6,7] U (fW 8 (enc:=fun y=>[I y]) dH jn ei fa ty3 hl.1 (nthZ aL) (ba aL) U U U U kr (fun q4 A4=>tf 9 U U (fun _ _ hj=>eV ty3 (A4.mono hj.1) U) (qR 10 4 U ?_)))
   refine dt 25 U (fun c2=>?_) (fun c2=>?_)
   ·have c2p:=of_decide_eq_true c2
    exact tk 14 U U (qR 15 14 U (aW kr (hk1 _ ⟨U,U,U,(cb (show true=((decide (y1 < 0)||decide (limit≤y1))||(decide (0 < (i1:Int))&&decide (y1≤(nthI l ((i1:Int) - 1))))) from by rw [c1,c2] <;> rfl)),trivial⟩)))
   have c2p:=of_decide_eq_false c2
   refine qR 14 3 U ?_
   refine dt 28 U (fun c3=>?_) (fun c3=>?_)
   ·have c3p:=of_decide_eq_true c3
    refine qA [17,18] U (fW 19 (enc:=fun y=>[I y]) dH jn ei fa ty3 hl.1 (nthZ aL) (ba aL) U U U U kr (fun q5 A5=>tf 20 U U (fun _ _ hj=>eV ty3 (A5.mono hj.1) U) (qA [21,22] U (tf 23 U U (fun _ _ _=>np (v':=I ((i1:Int) - 1)) U (jV ob)) ?_))))
    have ho1:0≤(((i1:Int) - 1):Int)∧(((i1:Int) - 1):Int) < ((l).length:Int):=ob
    exact fW 24 (enc:=fun y=>[I y]) dH jn ei fa ty3 hl.1 ho1 (dU ho1) U U U U kr (fun q6 A6=>tf 25 U U (fun _ _ hj=>eV ty3 (A6.mono hj.1) U) (qR 26 3 U (aW kr (hk1 _ ⟨U,U,U,(cb (show decide (y1≤(nthI l ((i1:Int) - 1)))=((decide (y1 < 0)||decide (limit≤y1))||(decide (0 < (i1:Int))&&decide (y1≤(nthI l ((i1:Int) - 1))))) from by rw [c1,c2,c3] <;> rfl)),trivial⟩))))
   have c3p:=of_decide_eq_false c3
   exact tk 17 U U (qR 18 11 U (aW kr (hk1 _ ⟨U,U,U,(cb (show false=((decide (y1 < 0)||decide (limit≤y1))||(decide (0 < (i1:Int))&&decide (y1≤(nthI l ((i1:Int) - 1))))) from by rw [c1,c2,c3] <;> rfl)),trivial⟩)))
  refine ai hs3 U (fun c4 hs4=>?_) (fun c4 hs5=>?_)
  ·exact sr (an (nretP [.bool false] (cs hs4)))
  exact aJ (qT 3 U (aw (v':=I (((i1+1):Nat):Int)) U (bw ob) (an (ag1 hs5))))
 rintro i1 hd1 il hx e
 exact qK 6 [] U (aw (v':=.bool false) U (cb il) (qO 3 U (hx _ rd)))
theorem AW (h:HF) (d:Document) (FW:jO) (hd:Document.ok h d FW):Ret prog 159 [.agg (Document.cells d FW).toArray] h (.bool (iB d)):=by
 refine sT func159 U ntmps159 U fun X hM hX hF=>?_
 have hs0:iB d=iB d:=rfl
 refine sr (cA (fun b1=>qL 9 [0] U (bY 4 [6,7,8,9,10] 6 10 (decide (4096≤d.No)) U (fun c1 hk1=>?_) (fun e=>?_))))
 ·exact qL 4 [0] U (hk1 _ U)
 refine aj (bY 5 [11,12,13,14,15,16] 11 16 (!(mV d.At)) U (fun c2 hk2=>?_) (fun e=>?_))
 ·exact qL 2 [0] U (av call223 (Cq h d.At) U (qO 2 U (hk2 _ U)))
 refine aj (bY 4 [17,18,19,20,21] 17 21 (decide (d.Kind < 0)) U (fun c3 hk3=>?_) (fun e=>?_))
 ·exact qL 4 [0] U (hk3 _ U)
 refine aj (bY 4 [22,23,24,25,26] 22 26 (decide (16≤d.Kind)) U (fun c4 hk4=>?_) (fun e=>?_))
 ·exact qL 4 [0] U (hk4 _ U)
 refine aj (bY 4 [27,28,29,30,31] 27 31 (decide (d.Value < 0)) U (fun c5 hk5=>?_) (fun e=>?_))
 ·exact qL 4 [0] U (hk5 _ U)
 refine aj (bY 4 [32,33,34,35,36] 32 36 (decide (1099511627776 < d.Value)) U (fun c6 hk6=>?_) (fun e=>?_))
 ·exact qL 4 [0] U (hk6 _ U)
 refine aD (ai hs0 U (fun c7 hs1=>?_) (fun c7 hs2=>?_))
 ·exact sr (an (nretP [.bool false] (cs hs1)))
 refine qK 7 [0] U (bC 6 [40,41,42,43,44,45,46] 40 46 (decide (d.From < d.Until)) U (fun c8 hk7=>?_) (fun e=>?_))
 ·exact qL 6 [0,0] U (hk7 _ U)
 refine aj (bC 4 [47,48,49,50,51] 47 51 (decide (d.Until≤1099511627776)) U (fun c9 hk8=>?_) (fun e=>?_))
 ·exact qL 4 [0] U (hk8 _ U)
 refine aj (bC 4 [52,53,54,55,56] 52 56 (eu d.Parties 1048577) U (fun c10 hk9=>?_) (fun e=>?_))
 ·exact qL 2 [0] U (av call251 (rx _ _ _ _ 1048577 hd.Parties) U (ek U (hk9 _ U)))
 refine aj (bC 6 [57,58,59,60,61,62,63] 57 63 (eu d.Revokes d.No) U (fun c11 hk10=>?_) (fun e=>?_))
 ·exact qL 4 [0,0] U (av call251 (rx _ _ _ _ d.No hd.Revokes) U (ek U (hk10 _ U)))
 refine aj (bC 6 [64,65,66,67,68,69,70] 64 70 (eu d.Needs d.No) U (fun c12 hk11=>?_) (fun e=>?_))
 ·exact qL 4 [0,0] U (av call251 (rx _ _ _ _ d.No hd.Needs) U (ek U (hk11 _ U)))
 exact an (nretP [.bool (((((decide (0≤d.From)&&decide (d.From < d.Until))&&decide (d.Until≤1099511627776))&&(eu d.Parties 1048577))&&(eu d.Revokes d.No))&&(eu d.Needs d.No))] (cs hs2))
theorem Cr (h:HF) (l:List Document) (e8:Option Addr) (eZ:Nat) (no:Int) (hl:SlC Document.rp h e8 eZ l):Ret prog 231 [.slice e8 l.length eZ,I no] h (I (gg l no)):=by
 refine sT func231 U ntmps231 U fun X hM hX hF=>?_
 have hs0:gg l no=gg l no:=rfl
 refine qT 9 U ?_
 refine lp0 l (fun i=>[(0,.slice e8 l.length eZ),(1,I no),(5,I (i:Int))]) ([]) (fun s1 i=>(gg.L1 no (gg.K1)) s1 i) hl.1.1 hs0 ?_ ?_ ?_
 ·rintro i1 fA hs1 e
  exact sr (an (nretP [I (-1)] (ci hs1)))
 ·rintro i1 y1 rz1 hd1 dx aL eH hO hs3 hx1 ag1 e
  refine qK 6 [] U (aw (v':=.bool true) U (cb dx) (qO 9 U (aF (gC oL ty51 hl.1 (nthZ aL) (ba aL) U U U (fun _ _ _ e=>e) (fun q2 r2 A2 ok2=>qL 1 [] U (dF ty3 A2 U (qO 3 U (ai hs3 U (fun c2 hs4=>?_) (fun c2 hs5=>?_)))))))))
  ·exact sr (qO 3 U (nretP [I (i1:Int)] (ci hs4)))
  exact aJ (qT 3 U (aw (v':=I (((i1+1):Nat):Int)) U (bw ob) (an (ag1 hs5))))
 rintro i1 hd1 il hx e
 exact qK 6 [] U (aw (v':=.bool false) U (cb il) (qO 3 U (hx _ rd)))
theorem nn (h:HF) (l:List Document) (e8:Option Addr) (eZ:Nat) (nos:List Int) (Ka:Option Addr) (J9:Nat) (hl:SlC Document.rp h e8 eZ l) (hnos:SlC Rp.int h Ka J9 nos):Ret prog 160 [.slice e8 l.length eZ,.slice Ka nos.length J9] h (.bool (dj l nos)):=by
 refine sT func160 U ntmps160 U fun X hM hX hF=>?_
 have hs0:dj l nos=dj l nos:=rfl
 refine qT 9 U ?_
 refine lp0 nos (fun i=>[(0,.slice e8 l.length eZ),(1,.slice Ka nos.length J9),(5,I (i:Int))]) ([]) (fun s1 i=>(dj.L1 l (dj.K1)) s1) hnos.1.1 hs0 ?_ ?_ ?_
 ·rintro i1 fA hs1 e
  exact sr (an (nretP [.bool true] (cs hs1)))
 ·rintro i1 y1 rz1 hd1 dx aL eH hO hs3 hx1 ag1 e
  refine qK 6 [] U (aw (v':=.bool true) U (cb dx) (qO 10 U (aF (fj (enc:=fun y=>[I y]) ei fa ty3 hnos.1 (nthZ aL) (ba aL) U U U (fun q2 A2=>dF ty3 A2 U (av call231 (Cr _ _ _ _ y1 hl) U (qO 2 U (ai hs3 U (fun c2 hs4=>?_) (fun c2 hs5=>?_)))))))))
  ·have c2p:=of_decide_eq_true c2
   exact sr (an (nretP [.bool false] (cs hs4)))
  have c2p:=of_decide_eq_false c2
  exact aJ (qT 3 U (aw (v':=I (((i1+1):Nat):Int)) U (bw ob) (an (ag1 hs5))))
 rintro i1 hd1 il hx e
 exact qK 6 [] U (aw (v':=.bool false) U (cb il) (qO 3 U (hx _ rd)))
theorem AX (h:HF) (l:List Document) (e8:Option Addr) (eZ:Nat) (hl:SlC Document.rp h e8 eZ l):Ret prog 77 [.slice e8 l.length eZ] h (I (fm l)):=by
 refine sT func77 U ntmps77 U fun X hM hX hF=>?_
 have hs0:fm l=fm l:=rfl
 refine qK 11 [] U (ai hs0 U (fun c1 hs1=>?_) (fun c1 hs2=>?_))
 ·have c1p:=of_decide_eq_true c1
  exact sr (an (nretP [I 2] (ci hs1)))
 have c1p:=of_decide_eq_false c1
 refine qT 6 U ?_
 refine lp0 l (fun i=>[(0,.slice e8 l.length eZ),(3,I (i:Int))]) ([]) (fun s1 i=>(fm.L1 l (fm.K1)) s1 i) hl.1.1 hs2 ?_ ?_ ?_
 ·rintro i1 fA hs4 e
  exact sr (an (nretP [I 0] (ci hs4)))
 ·rintro i1 y1 rz1 hd1 dx aL eH hO hs6 hx1 ag1 e
  refine qK 6 [] U (aw (v':=.bool true) U (cb dx) (qO 6 U ?_))
  refine nZ [(0,.slice e8 l.length eZ),(3,I (i1:Int)),(56,.bool ((((!(iB y1))||(decide (0 < (i1:Int))&&decide (y1.No≤(nthI l ((i1:Int) - 1)).No)))||(!(dj l y1.Revokes)))||(!(dj l y1.Needs))))] (fun e=>?_) (fun hk1=>?_)
  rotate_left
  ·refine eQ ([]) mixed kr jn (fun dH _=>?_)
   refine qA [0,1] U (ji 2 dH jn oL ty51 hl.1 (nthZ aL) (ba aL) U U U U kr (fun q4 cs4 A4 ln4 rr4=>?_))
   obtain ⟨r4,rfl,ok4⟩:=rr4
   refine tf 3 U U (fun _ _ hj=>j9 ty51 (A4.mono hj.1) U U) (tn 4 U (eP call159 (AW _ _ _ ok4) U (⟨jn,qA [5,6] U ?_⟩)))
   refine dt 19 U (fun c2=>?_) (fun c2=>?_)
   ·exact tk 7 U U (qR 8 36 U (aW kr (hk1 _ ⟨U,U,(cb (show true=((((!(iB y1))||(decide (0 < (i1:Int))&&decide (y1.No≤(nthI l ((i1:Int) - 1)).No)))||(!(dj l y1.Revokes)))||(!(dj l y1.Needs))) from by rw [c2] <;> rfl)),trivial⟩)))
   refine qR 7 3 U ?_
   refine dt 22 U (fun c3=>?_) (fun c3=>?_)
   ·have c3p:=of_decide_eq_true c3
    refine qA [10,11] U (ji 12 dH jn oL ty51 hl.1 (nthZ aL) (ba aL) U U U U kr (fun q5 cs5 A5 ln5 rr5=>?_))
    obtain ⟨r5,rfl,ok5⟩:=rr5
    refine qB [13] U (tf 14 U U (fun _ _ hj=>eV ty3 (A5.mono hj.1) U) (qA [15,16] U (tf 17 U U (fun _ _ _=>np (v':=I ((i1:Int) - 1)) U (jV ob)) ?_)))
    have ho2:0≤(((i1:Int) - 1):Int)∧(((i1:Int) - 1):Int) < ((l).length:Int):=ob
    refine ji 18 dH jn oL ty51 hl.1 ho2 (dU ho2) U U U U kr (fun q6 cs6 A6 ln6 rr6=>?_)
    obtain ⟨r6,rfl,ok6⟩:=rr6
    refine qB [19] U (tf 20 U U (fun _ _ hj=>eV ty3 (A6.mono hj.1) U) (qR 21 4 U ?_))
    refine dt 37 U (fun c4=>?_) (fun c4=>?_)
    ·have c4p:=of_decide_eq_true c4
     exact tk 25 U U (qR 26 18 U (aW kr (hk1 _ ⟨U,U,(cb (show true=((((!(iB y1))||(decide (0 < (i1:Int))&&decide (y1.No≤(nthI l ((i1:Int) - 1)).No)))||(!(dj l y1.Revokes)))||(!(dj l y1.Needs))) from by rw [c2,c3,c4] <;> rfl)),trivial⟩)))
    have c4p:=of_decide_eq_false c4
    refine qR 25 3 U (ji 28 dH jn oL ty51 hl.1 (nthZ aL) (ba aL) U U U U kr (fun q7 cs7 A7 ln7 rr7=>?_))
    obtain ⟨r7,rfl,ok7⟩:=rr7
    refine qB [29] U (tf 30 U U (fun _ _ hj=>jK 7 ty31 (A7.mono hj.1) U U) (tn 31 U (eP Gh (nn _ _ _ _ _ _ _ hl ok7.Revokes) U (⟨jn,(qR 32 3 U ?_)⟩))))
    refine dt 47 U (fun c5=>?_) (fun c5=>?_)
    ·exact tk 35 U U (qR 36 8 U (aW kr (hk1 _ ⟨U,U,(cb (show true=((((!(iB y1))||(decide (0 < (i1:Int))&&decide (y1.No≤(nthI l ((i1:Int) - 1)).No)))||(!(dj l y1.Revokes)))||(!(dj l y1.Needs))) from by rw [c2,c3,c4,c5] <;> rfl)),trivial⟩)))
    refine qR 35 3 U (ji 38 dH jn oL ty51 hl.1 (nthZ aL) (ba aL) U U U U kr (fun q8 cs8 A8 ln8 rr8=>?_))
    obtain ⟨r8,rfl,ok8⟩:=rr8
    exact tf 39 U U (fun _ _ _=>jS Ef U) (tf 40 U U (fun _ _ hj=>jK 8 ty31 (A8.mono hj.1) U U) (tn 41 U (eP Gh (nn _ _ _ _ _ _ _ hl ok8.Needs) U (⟨jn,(qA [42,43] U (aW kr (hk1 _ ⟨U,U,(cb (show (!(dj l y1.Needs))=((((!(iB y1))||(decide (0 < (i1:Int))&&decide (y1.No≤(nthI l ((i1:Int) - 1)).No)))||(!(dj l y1.Revokes)))||(!(dj l y1.Needs))) from by rw [c2,c3,c4,c5] <;> rfl)),trivial⟩)))⟩))))
   have c3p:=of_decide_eq_false c3
   refine qR 10 18 U (ji 28 dH jn oL ty51 hl.1 (nthZ aL) (ba aL) U U U U kr (fun q9 cs9 A9 ln9 rr9=>?_))
   obtain ⟨r9,rfl,ok9⟩:=rr9
   refine qB [29] U (tf 30 U U (fun _ _ hj=>jK 7 ty31 (A9.mono hj.1) U U) (tn 31 U (eP Gh (nn _ _ _ _ _ _ _ hl ok9.Revokes) U (⟨jn,(qR 32 3 U ?_)⟩))))
   refine dt 47 U (fun c6=>?_) (fun c6=>?_)
   ·exact tk 35 U U (qR 36 8 U (aW kr (hk1 _ ⟨U,U,(cb (show true=((((!(iB y1))||(decide (0 < (i1:Int))&&decide (y1.No≤(nthI l ((i1:Int) - 1)).No)))||(!(dj l y1.Revokes)))||(!(dj l y1.Needs))) from by rw [c2,c3,c6] <;> rfl)),trivial⟩)))
   refine qR 35 3 U (ji 38 dH jn oL ty51 hl.1 (nthZ aL) (ba aL) U U U U kr (fun q10 cs10 A10 ln10 rr10=>?_))
   obtain ⟨r10,rfl,ok10⟩:=rr10
   exact tf 39 U U (fun _ _ _=>jS Ef U) (tf 40 U U (fun _ _ hj=>jK 8 ty31 (A10.mono hj.1) U U) (tn 41 U (eP Gh (nn _ _ _ _ _ _ _ hl ok10.Needs) U (⟨jn,(qA [42,43] U (aW kr (hk1 _ ⟨U,U,(cb (show (!(dj l y1.Needs))=((((!(iB y1))||(decide (0 < (i1:Int))&&decide (y1.No≤(nthI l ((i1:Int) - 1)).No)))||(!(dj l y1.Revokes)))||(!(dj l y1.Needs))) from by rw [c2,c3,c6] <;> rfl)),trivial⟩)))⟩))))
  refine ai hs6 U (fun c7 hs7=>?_) (fun c7 hs8=>?_)
  ·exact sr (an (nretP [I 170] (ci hs7)))
  exact aJ (qT 3 U (aw (v':=I (((i1+1):Nat):Int)) U (bw ob) (an (ag1 hs8))))
 rintro i1 hd1 il hx e
 exact qK 6 [] U (aw (v':=.bool false) U (cb il) (qO 3 U (hx _ rd)))
theorem km (h:HF) (eo:Int) (most:Int)  : Ret prog 252 [I eo,I most] h (.bool (fZ eo most)):=by
 refine sT func252 U ntmps252 U fun X hM hX hF=>?_
 have hs0:fZ eo most=fZ eo most:=rfl
 refine qT 9 U (bC 4 [7,8,9,10,11] 7 11 (decide (eo≤most)) U (fun c1 hk1=>?_) (fun e=>?_))
 ·exact aj (qO 3 U (hk1 _ U))
 exact an (nretP [.bool (decide (0≤eo)&&decide (eo≤most))] (cs hs0))
theorem vB (h:HF) (eo:Int)  : Ret prog 253 [I eo] h (.bool (lX eo)):=by
 refine sT func253 U ntmps253 U fun X hM hX hF=>?_
 have hs0:lX eo=lX eo:=rfl
 exact sr (qO 5 U (av Et (km h eo 1099511627775) U (an (nretP [.bool (fZ eo 1099511627775)] (cs hs0)))))
theorem DT (h:HF) (eo:Int)  : Ret prog 254 [I eo] h (.bool (px eo)):=by
 refine sT func254 U ntmps254 U fun X hM hX hF=>?_
 have hs0:px eo=px eo:=rfl
 exact sr (qO 5 U (av Et (km h eo 4095) U (an (nretP [.bool (fZ eo 4095)] (cs hs0)))))
theorem AP (h:HF) (x:Approval)  : Ret prog 161 [.agg (Approval.cells x).toArray] h (.bool (iY x)):=by
 refine sT func161 U ntmps161 U fun X hM hX hF=>?_
 have hs0:iY x=iY x:=rfl
 refine sr (cA (fun b1=>qL 7 [0] U (av Et (km h x.No 1048576) U (qO 2 U (bY 5 [7,8,9,10,11,12] 7 12 (!(lX x.At)) U (fun c1 hk1=>?_) (fun e=>?_))))))
 ·exact qL 2 [0] U (av call253 (vB h x.At) U (qO 2 U (hk1 _ U)))
 refine aj (bY 5 [13,14,15,16,17,18] 13 18 (!(lX x.Known)) U (fun c2 hk2=>?_) (fun e=>?_))
 ·exact qL 2 [0] U (av call253 (vB h x.Known) U (qO 2 U (hk2 _ U)))
 refine aj (bY 5 [19,20,21,22,23,24] 19 24 (!(px x.Doc)) U (fun c3 hk3=>?_) (fun e=>?_))
 ·exact qL 2 [0] U (av call254 (DT h x.Doc) U (qO 2 U (hk3 _ U)))
 refine aD (ai hs0 U (fun c4 hs1=>?_) (fun c4 hs2=>?_))
 ·exact sr (an (nretP [.bool false] (cs hs1)))
 refine qK 5 [0] U (av Et (km h x.By 63) U (aj (bC 4 [28,29,30,31,32] 28 32 (fZ x.For 63) U (fun c5 hk4=>?_) (fun e=>?_))))
 ·exact qL 2 [0] U (av Et (km h x.For 63) U (ek U (hk4 _ U)))
 refine aj (bC 4 [33,34,35,36,37] 33 37 (fZ x.Office 31) U (fun c6 hk5=>?_) (fun e=>?_))
 ·exact qL 2 [0] U (av Et (km h x.Office 31) U (ek U (hk5 _ U)))
 exact an (nretP [.bool (((fZ x.By 63)&&(fZ x.For 63))&&(fZ x.Office 31))] (cs hs2))
theorem AQ (h:HF) (l:List Approval) (e8:Option Addr) (eZ:Nat) (hl:SlC Approval.rp h e8 eZ l):Ret prog 78 [.slice e8 l.length eZ] h (I (gF l)):=by
 refine sT func78 U ntmps78 U fun X hM hX hF=>?_
 have hs0:gF l=gF l:=rfl
 refine qK 11 [] U (ai hs0 U (fun c1 hs1=>?_) (fun c1 hs2=>?_))
 ·have c1p:=of_decide_eq_true c1
  exact sr (an (nretP [I 2] (ci hs1)))
 have c1p:=of_decide_eq_false c1
 refine qT 6 U ?_
 refine lp0 l (fun i=>[(0,.slice e8 l.length eZ),(3,I (i:Int))]) ([]) (fun s1 i=>(gF.L1 l (gF.K1)) s1 i) hl.1.1 hs2 ?_ ?_ ?_
 ·rintro i1 fA hs4 e
  exact sr (an (nretP [I 0] (ci hs4)))
 ·rintro i1 y1 rz1 hd1 dx aL eH hO hs6 hx1 ag1 e
  refine qK 6 [] U (aw (v':=.bool true) U (cb dx) (qO 6 U ?_))
  refine nZ [(0,.slice e8 l.length eZ),(3,I (i1:Int)),(36,.bool ((!(iY y1))||(decide (0 < (i1:Int))&&decide (y1.No≤(nthI l ((i1:Int) - 1)).No))))] (fun e=>?_) (fun hk1=>?_)
  rotate_left
  ·refine eQ ([]) mixed kr jn (fun dH _=>?_)
   refine qA [0,1] U (fW 2 (enc:=Approval.cells) dH jn ei tI ty81 hl.1 (nthZ aL) (ba aL) U U U U kr (fun q4 A4=>tf 3 U U (fun _ _ hj=>j9 ty81 (A4.mono hj.1) U U) (tn 4 U (eP call161 (AP h y1) U (⟨jn,qA [5,6] U ?_⟩)))))
   refine dt 19 U (fun c2=>?_) (fun c2=>?_)
   ·exact tk 7 U U (qR 8 16 U (aW kr (hk1 _ ⟨U,U,(cb (show true=((!(iY y1))||(decide (0 < (i1:Int))&&decide (y1.No≤(nthI l ((i1:Int) - 1)).No))) from by rw [c2] <;> rfl)),trivial⟩)))
   refine qR 7 3 U ?_
   refine dt 22 U (fun c3=>?_) (fun c3=>?_)
   ·have c3p:=of_decide_eq_true c3
    refine qA [10,11] U (tf 12 U U (fun _ _ _=>np (v':=I ((i1:Int) - 1)) U (jV ob)) ?_)
    have ho2:0≤(((i1:Int) - 1):Int)∧(((i1:Int) - 1):Int) < ((l).length:Int):=ob
    exact fW 13 (enc:=Approval.cells) dH jn ei tI ty81 hl.1 ho2 (dU ho2) U U U U kr (fun q5 A5=>qB [14] U (tf 15 U U (fun _ _ hj=>eV ty3 (A5.mono hj.1) U) (qA [16,17] U (fW 18 (enc:=Approval.cells) dH jn ei tI ty81 hl.1 (nthZ aL) (ba aL) U U U U kr (fun q6 A6=>qB [19] U (tf 20 U U (fun _ _ hj=>eV ty3 (A6.mono hj.1) U) (qR 21 3 U (aW kr (hk1 _ ⟨U,U,(cb (show decide (y1.No≤(nthI l ((i1:Int) - 1)).No)=((!(iY y1))||(decide (0 < (i1:Int))&&decide (y1.No≤(nthI l ((i1:Int) - 1)).No))) from by rw [c2,c3] <;> rfl)),trivial⟩)))))))))
   have c3p:=of_decide_eq_false c3
   exact tk 10 U U (qR 11 13 U (aW kr (hk1 _ ⟨U,U,(cb (show false=((!(iY y1))||(decide (0 < (i1:Int))&&decide (y1.No≤(nthI l ((i1:Int) - 1)).No))) from by rw [c2,c3] <;> rfl)),trivial⟩)))
  refine ai hs6 U (fun c4 hs7=>?_) (fun c4 hs8=>?_)
  ·exact sr (an (nretP [I 280] (ci hs7)))
  exact aJ (qT 3 U (aw (v':=I (((i1+1):Nat):Int)) U (bw ob) (an (ag1 hs8))))
 rintro i1 hd1 il hx e
 exact qK 6 [] U (aw (v':=.bool false) U (cb il) (qO 3 U (hx _ rd)))
theorem AM (h:HF) (bL:Register) (ga:dI) (jF:Register.ok h bL ga) (hsm:smR bL):Ret prog 14 [.agg (Register.cells bL ga).toArray] h (I (iW bL)):=by
 refine sT func14 U ntmps14 U fun X hM hX hF=>?_
 have hs0:iW bL=iW bL:=rfl
 have hsv:=hsm.vers
 refine sr (cA (fun b1=>qL 7 [0] U (av call72 (Bb _ _ _ _ jF.Appoints) U (qO 2 U (bY 5 [7,8,9,10,11,12] 7 12 ((gH bL.Deputies) != 0) U (fun c1 hk1=>?_) (fun e=>?_))))))
 ·exact qL 2 [0] U (av call73 (AZ _ _ _ _ jF.Deputies) U (qO 2 U (hk1 _ U)))
 refine aj (bY 5 [13,14,15,16,17,18] 13 18 ((gE bL.Interests) != 0) U (fun c2 hk2=>?_) (fun e=>?_))
 ·exact qL 2 [0] U (av call74 (AO _ _ _ _ jF.Interests) U (qO 2 U (hk2 _ U)))
 refine aj (bY 5 [19,20,21,22,23,24] 19 24 ((gG bL.Budgets) != 0) U (fun c3 hk3=>?_) (fun e=>?_))
 ·exact qL 2 [0] U (av call75 (AV _ _ _ _ jF.Budgets) U (qO 2 U (hk3 _ U)))
 refine aD (ai hs0 U (fun c4 hs1=>?_) (fun c4 hs2=>?_))
 ·exact sr (an (nretP [I 300] (ci hs1)))
 refine qK 6 [0] U (av call76 (w5 _ _ _ _ jF.Versions ob) U (qO 2 U (bY 5 [29,30,31,32,33,34] 29 34 ((fm bL.Docs) != 0) U (fun c5 hk4=>?_) (fun e=>?_))))
 ·exact qL 2 [0] U (av call77 (AX _ _ _ _ jF.Docs) U (qO 2 U (hk4 _ U)))
 refine aj (bY 5 [35,36,37,38,39,40] 35 40 ((gF bL.Approvals) != 0) U (fun c6 hk5=>?_) (fun e=>?_))
 ·exact qL 2 [0] U (av call78 (AQ _ _ _ _ jF.Approvals) U (qO 2 U (hk5 _ U)))
 refine aD (ai hs2 U (fun c7 hs4=>?_) (fun c7 hs5=>?_))
 ·exact sr (an (nretP [I 300] (ci hs4)))
 exact aJ (qT 4 U (nretP [I 0] (ci hs5)))
theorem zF (h:HF) (bL:Register) (ga:dI) (no:Int) (jF:Register.ok h bL ga):jN prog 23 [.agg (Register.cells bL ga).toArray,I no] h (fun v h'=>∃ (rr0:el),v=.tuple #[.agg (Policy.cells ((bR bL no).1) rr0).toArray,.bool ((bR bL no).2)]∧Policy.ok h' ((bR bL no).1) rr0):=by
 refine cz func23 U ntmps23 U fun X hM hX=>?_
 have hs0:bR bL no=bR bL no:=rfl
 refine sr (cA (fun b1=>aV zc64 (fun b2=>qL 10 [1] U ?_)))
 let z1:Nat×Obj:=(b2,O [.string (⟨#[]⟩:ByteArray),.slice none 0 0,.slice none 0 0,.slice none 0 0,I 0,I 0,I 0,.string (⟨#[]⟩:ByteArray),.slice none 0 0,I 0] 64)
 refine lp0 bL.Versions (fun i=>[(1,I no),(4,Q b2),(9,.slice ga.j7 bL.Versions.length ga.j6),(10,I (bL.Versions.length:Int)),(11,I (i:Int))]) ([z1,(b1,O (Register.cells bL ga) 30)]) (fun s1 i=>(bR.L1 no (bR.K1)) s1) jF.Versions.1.1 hs0 ?_ ?_
 ·rintro i1 fA hs1 e
  refine sr (cW 0 ty64 U U U (aS 0 ty64 U U U U U U (an ?_)))
  have hs2:bR bL no=((Policy.mk (⟨#[]⟩:ByteArray) ([]) ([]) ([]) (Expr.mk 0 0 0 (⟨#[]⟩:ByteArray) ([])) 0),false):=hs1
  exact jd [.agg (List.toArray [.string (⟨#[]⟩:ByteArray),.slice none 0 0,.slice none 0 0,.slice none 0 0,I 0,I 0,I 0,.string (⟨#[]⟩:ByteArray),.slice none 0 0,I 0]),.bool false] func23 U ⟨⟨0,_,_,_,_,U,U,.inl ⟨ty64,U⟩⟩,U,trivial⟩ ⟨(el.mk none 0 none 0 none 0 (cG.mk none 0)),congrArg (fun r:(Policy×Bool)=>(.tuple #[.agg (Policy.cells r.1 (el.mk none 0 none 0 none 0 (cG.mk none 0))).toArray,.bool r.2]:Value)) hs2.symm,(by rw [hs2];exact (show Policy.ok h (Policy.mk (⟨#[]⟩:ByteArray) ([]) ([]) ([]) (Expr.mk 0 0 0 (⟨#[]⟩:ByteArray) ([])) 0) (el.mk none 0 none 0 none 0 (cG.mk none 0)) from ⟨SlC.nil,SlC.nil,SlC.nil,(show Expr.ok h (Expr.mk 0 0 0 (⟨#[]⟩:ByteArray) ([])) (cG.mk none 0) from Expr.ok.of SlC.nil)⟩))⟩
 rintro i1 y1 rz1 hd1 dx aL eH hO hs3 hx1 ag1 e
 refine sr (aw (v':=.bool true) U (cb dx) (qO 8 U (aF (gC vf ty105 jF.Versions.1 (nthZ aL) (ba aL) U U U (fun _ _ _ e=>e) (fun q2 r2 A2 ok2=>dz ty105 A2 U U (aV zc105 (fun b4=>aS 0 ty105 U U U U U U (qL 8 [0] U (ai hs3 U (fun c2 hs4=>?_) (fun c2 hs5=>?_))))))))))
 ·refine qK 3 [] U (cW 0 ty64 U U U (aS 1 ty64 U U U U U U (an ?_)))
  have hs6:bR bL no=(y1.Policy,true):=hs4
  exact jd [.agg (Policy.cells y1.Policy r2.Policy).toArray,.bool true] func23 U ⟨⟨1,_,_,_,_,U,U,.inl ⟨ty64,U⟩⟩,U,trivial⟩ ⟨r2.Policy,congrArg (fun r:(Policy×Bool)=>(.tuple #[.agg (Policy.cells r.1 r2.Policy).toArray,.bool r.2]:Value)) hs6.symm,(by rw [hs6];exact ok2.Policy)⟩
 exact aJ (qT 2 U (aw (v':=I (((i1+1):Nat):Int)) U (bw ob) (qO 2 U (bB (L':=[z1,(b1,O (Register.cells bL ga) 30)]) js (ag1 hs5)))))
end Go.Sg
namespace Go.Sg
open Go.Proofs Go.Proofs.Tryz
set_option maxHeartbeats 2000000
theorem law30_JudgeReason_top {w:World} (h:HF) (hp:Pre h [] w) (bL:Register) (ga:dI) (doc:Int) (version:Int) (cL:Int) (known:Int) (jF:Register.ok h bL ga) (hsm:smR bL) (hk:Kinds h):Calls prog 6 [.agg (Register.cells bL ga).toArray,I doc,I version,I cL,I known].toArray w fun e w'=>e=.returned (.bool (bG bL doc version cL known))∧RowKit.Below w.heap.size w w':=by
 refine F5 hp wJ U ntmps6 U fun X hM hX=>?_
 have hs0:bG bL doc version cL known=bG bL doc version cL known:=rfl
 refine sr (cA (fun b1=>qO 5 U (av call9 (CE h  hk) U (qO 2 U (ai hs0 U (fun c1 hs1=>?_) (fun c1 hs2=>?_))))))
 ·exact sr (an (ng [.bool false] wJ U hX rd (cs hs1)))
 ·refine qT 3 U (cW 0 ty30 U U U (aj (aF (cY call23 (zF _ _ _ version jF) U (fun v1 h1 hle1 hp1=>?_)))))
  obtain ⟨rr1,rfl,ok1⟩:=hp1
  refine qO 3 U (aV zc64 (fun b2=>aS 0 ty64 U U U U U U (qO 8 U (bY 4 [46,47,48,49,50] 46 50 (!(jY bL)) U (fun c2 hk1=>?_) (fun e=>?_)))))
  ·exact cW 1 ty30 U U U (av call10 (DS _ _ _ (jF.mono hle1)) U (qO 2 U (hk1 _ U)))
  refine aj (bY 4 [51,52,53,54,55] 51 55 ((iW bL) != 0) U (fun c3 hk2=>?_) (fun e=>?_))
  ·exact cW 1 ty30 U U U (av call14 (AM _ _ _ (jF.mono hle1) ob) U (qO 2 U (hk2 _ U)))
  refine aj (bY 5 [56,57,58,59,60,61] 56 61 (decide ((aQ bL doc) < 0)) U (fun c4 hk3=>?_) (fun e=>?_))
  ·exact cW 1 ty30 U U U (aj (av call20 (sy _ _ _ doc (jF.mono hle1)) U (qO 2 U (hk3 _ U))))
  refine aj (bY 3 [62,63,64,65] 62 65 (decide (cL < 0)) U (fun c5 hk4=>?_) (fun e=>?_))
  ·exact aj (qO 2 U (hk4 _ U))
  refine aj (bY 3 [66,67,68,69] 66 69 (decide (1099511627776≤cL)) U (fun c6 hk5=>?_) (fun e=>?_))
  ·exact aj (qO 2 U (hk5 _ U))
  refine aj (bY 3 [70,71,72,73] 70 73 (decide (known < 0)) U (fun c7 hk6=>?_) (fun e=>?_))
  ·exact aj (qO 2 U (hk6 _ U))
  refine aj (bY 3 [74,75,76,77] 74 77 (decide (1099511627776≤known)) U (fun c8 hk7=>?_) (fun e=>?_))
  ·exact aj (qO 2 U (hk7 _ U))
  refine aD (ai hs2 U (fun c9 hs4=>?_) (fun c9 hs5=>?_))
  ·exact sr (an (ng [.bool true] wJ U hX rd (cs hs4)))
  ·refine qT 3 U (cW 1 ty30 U U U (qO 4 U (aF (cY call16 (oP _ _ _ doc version cL known (jF.mono hle1) ob (CA (rctx c9).pol) (hk.mono hle1)) U (fun v2 h2 hle2 hp2=>?_)))))
   obtain ⟨rb1,rc1,rfl,sl1⟩:=hp2
   refine qO 12 U (ai hs5 U (fun c10 hs7=>?_) (fun c10 hs8=>?_))
   ·exact sr (an (ng [.bool false] wJ U hX rd (cs hs7)))
   ·refine qT 2 U ?_
    let z1:Nat×Obj:=(b2,O (Policy.cells ((bR bL version).1) rr1) 64)
    let z2:Nat×Obj:=(b1,O (Register.cells bL ga) 30)
    refine K0 (ι:=Nat×jO) (fun i=>[(1,I doc),(3,I cL),(4,I known),(5,Q b1),(11,Q b2),(13,.slice rb1 (((cg bL doc version cL known).1).length) rc1),(15,.pointer (some ⟨i.1,0,none⟩))]) (fun i=>[(i.1,O (Document.cells (nthI bL.Docs (aQ bL doc)) i.2) 51),z1,z2]) (fun i=>Document.ok h2 (nthI bL.Docs (aQ bL doc)) i.2) ?_ (fun hk8=>?_)
    rotate_left
    ·refine eQ ([z1,z2]) mixed kr jn (fun dH _=>?_)
     refine qB [0] U (tf 1 U U (fun _ _ hj=>fH ty27 U (hj.nth (i:=1) U) U) (tf 2 U U (fun _ _ hj=>je ty30 U (hj.nth (i:=1) U) U) (tm 3 U ?_)))
     refine mT 4 7 kr U U ?_ ?_ 
     ·refine eP call20 (sy _ _ _ doc (jF.mono (hle1.t hle2))) U (⟨jn,?_⟩)
      have ho1:0≤((aQ bL doc):Int)∧((aQ bL doc):Int) < ((bL.Docs).length:Int):=(by have hq:=Hx (r:=bL) (no:=doc) (rctx c9).doc;have:=(rctx c9).doc;omega)
      refine ji 5 dH jn oL ty51 (jF.Docs.mono Document.ao (hle1.t hle2)).1 ho1 (dU ho1) U U U U kr (fun q1 cs1 A1 ln1 rr2=>?_)
      obtain ⟨r1,rfl,ok3⟩:=rr2
      exact tf 6 U U (fun _ _ hj=>j9 ty51 (A1.mono hj.1) U U) (tn 7 U (su zc51 (fun b3=>⟨jn,tn 8 U (nj 0 ty51 U U U U U U (⟨jn,aW kr (hk8 (b3,r1) _ ok3 rd)⟩))⟩)))
     ·refine su zc51 (fun b4=>⟨jn,tn 4 U (eP call20 (sy _ _ _ doc (jF.mono (hle1.t hle2))) U (⟨jn,?_⟩))⟩)
      have ho2:0≤((aQ bL doc):Int)∧((aQ bL doc):Int) < ((bL.Docs).length:Int):=(by have hq:=Hx (r:=bL) (no:=doc) (rctx c9).doc;have:=(rctx c9).doc;omega)
      refine ji 5 dH jn oL ty51 (jF.Docs.mono Document.ao (hle1.t hle2)).1 ho2 (dU ho2) U U U U kr (fun q2 cs2 A2 ln2 rr3=>?_)
      obtain ⟨r2,rfl,ok4⟩:=rr3
      exact tf 6 U U (fun _ _ hj=>j9 ty51 (A2.mono hj.1) U U) (tn 8 U (nj 0 ty51 U U U U U U (⟨jn,aW kr (hk8 (b4,r2) _ ok4 rd)⟩)))
    rintro ⟨b3,r1⟩ ok2 e
    try dsimp only at ok2
    refine sr (aF (mr (fun b5=>qL 12 [1,2] U (ai hs8 U (fun c11 hs10=>?_) (fun c11 hs11=>?_)))))
    ·have c11p:=of_decide_eq_true c11
     refine aR ?_
     let z3:Nat×Obj:=(b3,O (Document.cells (nthI bL.Docs (aQ bL doc)) r1) 51)
     refine eQ ([(b5,.map #[] 0),z3,z1,z2]) mixed kr jn (fun lA _=>?_)
     refine qB [0] U (tf 1 U U (fun _ _ hj=>fH ty28 U (hj.nth (i:=3) U) U) (qB [2,3] U (tf 4 U U (fun _ _ hj=>fH ty3 U (hj.nth (i:=1) U) U) (qB [5] U (tf 6 U U (fun _ _ hj=>fH ty59 U (hj.nth (i:=2) U) U) (qB [7] U (tf 8 U U (fun _ _ hj=>fH ty3 U (hj.nth (i:=1) U) U) ?_)))))))
     have ho3:0≤((nthI bL.Docs (aQ bL doc)).Kind:Int)∧((nthI bL.Docs (aQ bL doc)).Kind:Int) < ((((bR bL version).1).Rules).length:Int):=(Gq hsm (rctx c9) ob)
     refine ji 9 lA jn si ty79 (ok1.Rules.mono Rule.ao hle2).1 ho3 (dU ho3) U U U U kr (fun q3 cs3 A3 ln3 rr4=>?_)
     obtain ⟨r3,rfl,ok5⟩:=rr4
     refine qB [10] U (tf 11 U U (fun _ _ hj=>jK 2 ty3 (A3.mono hj.1) U U) (qA [12,13] U (tn 14 U (cY call28 (nX _ _ _ _ doc ((nthI bL.Docs (aQ bL doc)).At) ((nthI (((bR bL version).1).Rules) ((nthI bL.Docs (aQ bL doc)).Kind)).Think) cL known (jF.Approvals.mono Approval.ao (hle1.t hle2)) hsm.2.2.2.2.2.2) U (fun v3 h3 hle3 hp3=>?_)))))
     obtain ⟨rb2,rc2,rfl,sl2⟩:=hp3
     refine ⟨jl hle3,tu hle3 (qR 15 5 U (aW kr (qT 6 U (ai hs10 U (fun c12 hs12=>?_) (fun c12 hs13=>?_)))))⟩
     ·exact sr (an (ng [.bool false] wJ U hX rd (cs hs12)))
     ·refine qK 7 [] U ?_
      refine lp2 ((bH bL.Approvals doc ((nthI bL.Docs (aQ bL doc)).At) ((nthI (((bR bL version).1).Rules) ((nthI bL.Docs (aQ bL doc)).Kind)).Think) cL known).1) (fun i w=>[(3,I cL),(4,I known),(5,Q b1),(13,.slice rb1 (((cg bL doc version cL known).1).length) rc1),(15,Q b3),(16,.map (some b5)),(123,.slice rb2 (((bH bL.Approvals doc ((nthI bL.Docs (aQ bL doc)).At) ((nthI (((bR bL version).1).Rules) ((nthI bL.Docs (aQ bL doc)).Kind)).Think) cL known).1).length) rc2),(124,I ((((bH bL.Approvals doc ((nthI bL.Docs (aQ bL doc)).At) ((nthI (((bR bL version).1).Rules) ((nthI bL.Docs (aQ bL doc)).Kind)).Think) cL known).1).length:Nat):Int)),(125,I (i:Int))]) (fun w=>w.2.2) (fun w=>[(b5,w.2.1),z3,z1,z2]) (fun i w=>iL (Value.int .i64) kW w.2.2 w.2.1 w.1∧HF.le h3 w.2.2) (fun s1 i w=>(bG.L1 bL doc cL known (bG.K1 bL doc version cL known)) s1 w.1) ([],.map #[] 0,h3) sl2.1.1 hs13 ⟨((iL.nil (enc:=(Value.int .i64)) (V:=kW) (h:=h2)).mono kW.mono hle3),(HF.le_refl h3)⟩ ?_ ?_
      ·rintro i1 ⟨uV,xm,hh1⟩ fA hs15 ⟨pZ,hl1⟩ e
       try dsimp only at pZ hl1
       refine qK 7 [] U ?_
       refine lp0 ((cg bL doc version cL known).1) (fun i=>[(13,.slice rb1 (((cg bL doc version cL known).1).length) rc1),(16,.map (some b5)),(233,.slice rb1 (((cg bL doc version cL known).1).length) rc1),(234,I (((cg bL doc version cL known).1).length:Int)),(235,I (i:Int))]) ([(b5,xm),z3,z1,z2]) (fun s2 i=>(bG.L2 bL doc version cL known uV (bG.K2 bL doc version cL known uV)) s2 i) ((sl1.mono Rp.aY (hle3.t hl1)).1.1) hs15 ?_ ?_
       ·rintro i2 zJ hs16 e
        exact qK 5 [] U (aF (fg (E3 0 yG U U pZ) (qO 3 U (ng [.bool ((((cg bL doc version cL known).1).length:Int)==(uV.length:Int))] wJ U hX rd (cs hs16)))))
       ·rintro i2 y2 rz2 hd2 uv mN BA GF hs18 hx2 ag1 e
        refine sr (aw (v':=.bool true) U (cb uv) (qO 9 U (aF (fj (enc:=fun y=>[I y]) ei fa ty3 (sl1.mono Rp.aY (hle3.t hl1)).1 (nthZ mN) (ba mN) U U U (fun q7 A7=>dF ty3 A7 U (qO 7 U (aF (mJ 0 (k:=y2) yG (eY lS) U pZ (eG zv4) (show kW _ (.bool false) false from U) U U (fun v8 hv2=>?_)))))))))
        obtain rfl:=hv2
        refine qO 2 U (bY 12 [244,245,246,247,248,249,250,251,252,253,254,255,256] 244 256 (decide (0 < (i2:Int))&&decide (y2≤(nthI ((cg bL doc version cL known).1) ((i2:Int) - 1)))) U (fun c13 hk9=>?_) (fun e=>?_))
        ·refine qO 3 U (bC 8 [247,248,249,250,251,252,253,254,255] 247 255 (decide (y2≤(nthI ((cg bL doc version cL known).1) ((i2:Int) - 1)))) U (fun c14 hk10=>?_) (fun e=>?_))
         ·refine qO 2 U (aw (v':=I ((i2:Int) - 1)) U (jV ob) ?_)
          have ho5:0≤(((i2:Int) - 1):Int)∧(((i2:Int) - 1):Int) < (((cg bL doc version cL known).1).length:Int):=ob
          exact aF (fj (enc:=fun y=>[I y]) ei fa ty3 (sl1.mono Rp.aY (hle3.t hl1)).1 ho5 (dU ho5) U U U (fun q8 A8=>dF ty3 A8 U (qO 3 U (hk10 _ U))))
         exact ek U (hk9 _ U)
        refine aD (ai hs18 U (fun c15 hs19=>?_) (fun c15 hs20=>?_))
        ·exact sr (an (ng [.bool false] wJ U hX rd (cs hs19)))
        ·exact aJ (qT 2 U (aw (v':=I (((i2+1):Nat):Int)) U (bw ob) (qO 2 U (ag1 hs20))))
      ·rintro i1 ⟨uV,xm,hh1⟩ y1 rz1 hd1 dx aL eH hO hs22 ⟨pZ,hl1⟩ hx1 ag2 e
       try dsimp only at pZ hl1
       refine sr (aw (v':=.bool true) U (cb dx) (qO 8 U (aF (fj (enc:=Approval.cells) ei tI ty81 (sl2.mono Approval.ao hl1).1 (nthZ aL) (ba aL) U U U (fun q9 A9=>dz ty81 A9 U U (aV zc81 (fun b7=>aS 0 ty81 U U U U U U (qL 11 [4,0,0] U (av call29 (rP _ _ _ _ y1.Office y1.For cL known (jF.Appoints.mono Appoint.ao (((hle1.t hle2).t hle3).t hl1))) U (qL 26 [4,0,0,0,2,2] U (aF (cY call30 (qU _ _ _ _ y1.For y1.By y1.Office ((nthI bL.Docs (aQ bL doc)).Kind) ((nthI bL.Docs (aQ bL doc)).Value) cL known (jF.Deputies.mono Deputy.ao (((hle1.t hle2).t hle3).t hl1)) hsm.2.2.1) U (fun v9 h7 hle7 hp7=>?_)))))))))))))
       obtain ⟨rb6,rc6,rfl,sl6⟩:=hp7
       refine qL 18 [4,0,2] U (aF (cY call31 (lH _ _ _ _ y1.For _ _ _ cL known (jF.Interests.mono Interest.ao ((((hle1.t hle2).t hle3).t hl1).t hle7)) (ok2.Parties.mono Rp.aY ((hle3.t hl1).t hle7)) hsm.2.2.2.1) U (fun v10 h8 hle8 hp8=>?_)))
       obtain ⟨rb7,rc7,rfl,sl7⟩:=hp8
       refine qL 18 [4,0,2] U (aF (cY call31 (lH _ _ _ _ y1.By _ _ _ cL known (jF.Interests.mono Interest.ao (((((hle1.t hle2).t hle3).t hl1).t hle7).t hle8)) (ok2.Parties.mono Rp.aY (((hle3.t hl1).t hle7).t hle8)) hsm.2.2.2.1) U (fun v11 h9 hle9 hp9=>?_)))
       obtain ⟨rb8,rc8,rfl,sl8⟩:=hp9
       refine qO 14 U (bY 3 [190,191,192,193] 190 193 ((aE bL.Deputies y1.For y1.By y1.Office ((nthI bL.Docs (aQ bL doc)).Kind) ((nthI bL.Docs (aQ bL doc)).Value) cL known).2.2 != 0) U (fun c16 hk11=>?_) (fun e=>?_))
       ·exact aj (qO 2 U (hk11 _ U))
       refine aj (bY 3 [194,195,196,197] 194 197 ((cC bL.Interests y1.For ((nthI bL.Docs (aQ bL doc)).Parties) cL known).2.2 != 0) U (fun c17 hk12=>?_) (fun e=>?_))
       ·exact aj (qO 2 U (hk12 _ U))
       refine aj (bY 3 [198,199,200,201] 198 201 ((cC bL.Interests y1.By ((nthI bL.Docs (aQ bL doc)).Parties) cL known).2.2 != 0) U (fun c18 hk13=>?_) (fun e=>?_))
       ·exact aj (qO 2 U (hk13 _ U))
       refine aj (bY 14 [202,203,204,205,206,207,208,209,210,211,212,213,214,215,216] 202 216 (((aE bL.Deputies y1.For y1.By y1.Office ((nthI bL.Docs (aQ bL doc)).Kind) ((nthI bL.Docs (aQ bL doc)).Value) cL known).2.1&&(y1.For==y1.By))&&decide (0 < ((((aE bL.Deputies y1.For y1.By y1.Office ((nthI bL.Docs (aQ bL doc)).Kind) ((nthI bL.Docs (aQ bL doc)).Value) cL known).1).length:Nat):Int))) U (fun c19 hk14=>?_) (fun e=>?_))
       ·refine qO 2 U (bC 6 [204,205,206,207,208,209,210] 204 210 (y1.For==y1.By) U (fun c20 hk15=>?_) (fun e=>?_))
        ·exact qL 6 [0,0] U (hk15 _ U)
        refine aj (bC 4 [211,212,213,214,215] 211 215 (decide (0 < ((((aE bL.Deputies y1.For y1.By y1.Office ((nthI bL.Docs (aQ bL doc)).Kind) ((nthI bL.Docs (aQ bL doc)).Value) cL known).1).length:Nat):Int))) U (fun c21 hk16=>?_) (fun e=>?_))
        ·exact qL 4 [] U (hk16 _ U)
        exact ek U (hk14 _ U)
       refine aD (ai hs22 U (fun c22 hs23=>?_) (fun c22 hs24=>?_))
       ·exact sr (an (ng [.bool false] wJ U hX rd (cs hs23)))
       ·refine qT 5 U (bC 2 [218,219,220] 218 220 ((aE bL.Deputies y1.For y1.By y1.Office ((nthI bL.Docs (aQ bL doc)).Kind) ((nthI bL.Docs (aQ bL doc)).Value) cL known).2.1) U (fun c23 hk17=>?_) (fun e=>?_))
        ·exact aj (ek U (hk17 _ U))
        refine aj (bC 3 [221,222,223,224] 221 224 (!((cC bL.Interests y1.For ((nthI bL.Docs (aQ bL doc)).Parties) cL known).2.1)) U (fun c24 hk18=>?_) (fun e=>?_))
        ·exact aj (qO 2 U (hk18 _ U))
        refine aj (bC 3 [225,226,227,228] 225 228 (!((cC bL.Interests y1.By ((nthI bL.Docs (aQ bL doc)).Parties) cL known).2.1)) U (fun c25 hk19=>?_) (fun e=>?_))
        ·exact aj (qO 2 U (hk19 _ U))
        refine aD (ai hs24 U (fun c26 hs26=>?_) (fun c26 hs27=>?_))
        ·exact qK 4 [0] U (aF (jJ 1 (k:=y1.For) (x:=true) yG (eY lS) U (pZ.mono kW.mono ((hle7.t hle8).t hle9)) U U U (fun mo1 hm1=>qO 3 U (aw (v':=I (((i1+1):Nat):Int)) U (bw ob) (qO 2 U (bB (L':=[(b5,mo1),z3,z1,z2]) js (ag2 ((mput uV y1.For true),mo1,h9) hs26 ⟨hm1,(((hl1.t hle7).t hle8).t hle9)⟩)))))))
        ·exact aJ (qT 2 U (aw (v':=I (((i1+1):Nat):Int)) U (bw ob) (qO 2 U (bB (L':=[(b5,xm),z3,z1,z2]) js (ag2 (uV,xm,h9) hs27 ⟨(pZ.mono kW.mono ((hle7.t hle8).t hle9)),(((hl1.t hle7).t hle8).t hle9)⟩)))))
    ·have c11p:=of_decide_eq_false c11
     refine qK 8 [] U ?_
     refine lp0 ((cg bL doc version cL known).1) (fun i=>[(13,.slice rb1 (((cg bL doc version cL known).1).length) rc1),(16,.map (some b5)),(233,.slice rb1 (((cg bL doc version cL known).1).length) rc1),(234,I (((cg bL doc version cL known).1).length:Int)),(235,I (i:Int))]) ([(b5,.map #[] 0),(b3,O (Document.cells (nthI bL.Docs (aQ bL doc)) r1) 51),z1,z2]) (fun s3 i=>(bG.L3 bL doc version cL known (bG.K3 bL doc version cL known)) s3 i) sl1.1.1 hs11 ?_ ?_
     ·rintro i3 MQ hs28 e
      exact qK 5 [] U (aF (fg (E3 0 yG U U (iL.nil (enc:=(Value.int .i64)) (V:=kW) (h:=h2))) (qO 3 U (ng [.bool ((((cg bL doc version cL known).1).length:Int)==((([]:(List (Int×Bool))).length:Nat):Int))] wJ U hX rd (cs hs28)))))
     ·rintro i3 y3 rz3 hd3 D9 sZ HE Lu hs30 hx3 ag3 e
      refine sr (aw (v':=.bool true) U (cb D9) (qO 9 U (aF (fj (enc:=fun y=>[I y]) ei fa ty3 sl1.1 (nthZ sZ) (ba sZ) U U U (fun q12 A12=>dF ty3 A12 U (qO 7 U (aF (mJ 0 (k:=y3) yG (eY lS) U (iL.nil (enc:=(Value.int .i64)) (V:=kW) (h:=h2)) (eG zv4) (show kW _ (.bool false) false from U) U U (fun v13 hv4=>?_)))))))))
      obtain rfl:=hv4
      refine qO 2 U (bY 12 [244,245,246,247,248,249,250,251,252,253,254,255,256] 244 256 (decide (0 < (i3:Int))&&decide (y3≤(nthI ((cg bL doc version cL known).1) ((i3:Int) - 1)))) U (fun c27 hk20=>?_) (fun e=>?_))
      ·refine qO 3 U (bC 8 [247,248,249,250,251,252,253,254,255] 247 255 (decide (y3≤(nthI ((cg bL doc version cL known).1) ((i3:Int) - 1)))) U (fun c28 hk21=>?_) (fun e=>?_))
       ·refine qO 2 U (aw (v':=I ((i3:Int) - 1)) U (jV ob) ?_)
        have ho7:0≤(((i3:Int) - 1):Int)∧(((i3:Int) - 1):Int) < (((cg bL doc version cL known).1).length:Int):=ob
        exact aF (fj (enc:=fun y=>[I y]) ei fa ty3 sl1.1 ho7 (dU ho7) U U U (fun q13 A13=>dF ty3 A13 U (qO 3 U (hk21 _ U))))
       exact ek U (hk20 _ U)
      refine aD (ai hs30 U (fun c29 hs31=>?_) (fun c29 hs32=>?_))
      ·exact sr (an (ng [.bool false] wJ U hX rd (cs hs31)))
      ·exact aJ (qT 2 U (aw (v':=I (((i3+1):Nat):Int)) U (bw ob) (qO 2 U (ag3 hs32))))
end Go.Sg
namespace Go.Proofs.YtpplkjhgggjaoaaGreatDoor.judgeReason
open Go.ChangeShapes Go.WideShapes Go.ChangeAt Go.RowKit
theorem own:ownKnob Tryz.prog.godebug=none:=by kernel_rfl
theorem laidOut:laidOutB Tryz.prog=true:=by kernel_rfl
theorem contract (H:Type) (enc:TypeId×Value→H) (W:World) (base:Nat) (args:Array Value) (ds gs:List (DataW H)) (before:List MemPlace)
    (hval:∀ (j:Nat) t v,Tryz.f6.params[j]? = some t→args[j]? = some v→Value.okWide Tryz.prog W .any base t v)
    (hW:DataW.Whole enc Tryz.prog Tryz.f6.params.toList Rows.judgeReasonSpec.vars false W args.toList ds gs before) (hcond:Rows.uptoSmall H (ds++gs)=true) (hL:laidMetH Tryz.prog Rows.judgeReasonUptoRow.laid W):
    Calls Tryz.prog 6 args W fun e W'=>∃ v,e=.returned v∧Rows.judgeReasonSpec.post enc Tryz.prog Tryz.f6 false true false false W args v W':=by
  have hW':=hW
  obtain ⟨p,q,hA0,hV,rfl,hfz,hnd⟩:=hW
  have hA:DataW.TrodAll enc Tryz.prog W 0 (fun _=>true) true Tryz.f6.params.toList args.toList ds p:=hA0
  rw [Tryz.params6] at hA hval
  obtain ⟨v0,vs0,d0,ds0,p0,z0,hargs,rfl,rfl,h0,t0⟩:=trodAll_cons hA
  obtain ⟨v1,vs1,d1,ds1,p1,z1,rfl,rfl,rfl,h1,t1⟩:=trodAll_cons t0
  obtain ⟨v2,vs2,d2,ds2,p2,z2,rfl,rfl,rfl,h2,t2⟩:=trodAll_cons t1
  obtain ⟨v3,vs3,d3,ds3,p3,z3,rfl,rfl,rfl,h3,t3⟩:=trodAll_cons t2
  obtain ⟨v4,vs4,d4,ds4,p4,z4,rfl,rfl,rfl,h4,t4⟩:=trodAll_cons t3
  obtain ⟨rfl,rfl,rfl⟩:=trodAll_nil t4
  obtain rfl:args=#[v0,v1,v2,v3,v4]:=by cases args;simp_all
  obtain ⟨rfl,rfl⟩:=trodVars_none hV
  clear hA0 hA
  have h0k:=h0
  have h1k:=h1
  have h2k:=h2
  have h3k:=h3
  have h4k:=h4
  simp only [List.append_nil] at hW' hcond
  have hB:Rows.uptoBulkAll [d0,d1,d2,d3,d4]≤1048576:=of_decide_eq_true hcond
  obtain ⟨a0,rfl,_⟩:=okWide_struct Tryz.underlying30 (hval 0 30 v0 rfl rfl)
  obtain ⟨f0,g0⟩:=h0
  obtain ⟨x0,⟨r0,e0,o0⟩,q0⟩:=Sg.opn_Register f0 _ _ _ g0
  obtain rfl:a0=(Sg.Register.cells x0 r0).toArray:=by
    apply Array.toList_inj.1;exact e0
  obtain ⟨n1,rfl⟩:=okWide_int Tryz.underlying3 (hval 1 3 v1 rfl rfl)
  obtain ⟨n2,rfl⟩:=okWide_int Tryz.underlying3 (hval 2 3 v2 rfl rfl)
  obtain ⟨n3,rfl⟩:=okWide_int Tryz.underlying3 (hval 3 3 v3 rfl rfl)
  obtain ⟨n4,rfl⟩:=okWide_int Tryz.underlying3 (hval 4 3 v4 rfl rfl)
  simp only [Rows.uptoBulkAll] at hB
  have z0b:=Sg.bulk_one d0
  have z1b:=Sg.bulk_one d1
  have z2b:=Sg.bulk_one d2
  have z3b:=Sg.bulk_one d3
  have z4b:=Sg.bulk_one d4
  have walk:=Sg.law30_JudgeReason_top (Sg.hOf W) (Sg.pre_hOf W) x0 r0 n1 n2 n3 n4 o0 (Sg.smR_of (by omega)) (Sg.kinds_of hL)
  rw [Sg.reason_true (Sg.smR_of (by omega))] at walk
  refine walk.mono fun e W' ⟨he,hb⟩=>?_
  subst he
  exact ⟨_,rfl,Sg.post_below (pa:=p0++(p1++(p2++(p3++(p4++([])))))) (pv:=[]) hW' (fun _ _ _=>trodAll_cons_mk (shut_bool Tryz.underlying4 _) trodAll_mk0) (fun sp hsp=>(trodAll_cons_mk (Sg.stays laidOut (by kernel_rfl) (by kernel_rfl) h0k hb hW'.lt (fun x hx=>by simp [hx]) hsp) (trodAll_cons_mk (Sg.stays laidOut (by kernel_rfl) (by kernel_rfl) h1k hb hW'.lt (fun x hx=>by simp [hx]) hsp) (trodAll_cons_mk (Sg.stays laidOut (by kernel_rfl) (by kernel_rfl) h2k hb hW'.lt (fun x hx=>by simp [hx]) hsp) (trodAll_cons_mk (Sg.stays laidOut (by kernel_rfl) (by kernel_rfl) h3k hb hW'.lt (fun x hx=>by simp [hx]) hsp) (trodAll_cons_mk (Sg.stays laidOut (by kernel_rfl) (by kernel_rfl) h4k hb hW'.lt (fun x hx=>by simp [hx]) hsp) trodAll_mk0)))))) (fun _ _=>rfl) (by simp) hb (ok_one (by kernel_rfl) rfl (okWide_bool_mk Tryz.underlying4 _))⟩
end Go.Proofs.YtpplkjhgggjaoaaGreatDoor.judgeReason
