import Derived.Test.YtngiefchigcphaaGreatDoorW9
/- A part of the proof of AsofSpec. -/
set_option linter.unusedVariables false
set_option linter.unusedSimpArgs false
set_option maxRecDepth 100000
namespace Go.Sg
open Go.Proofs Go.Proofs.Tryz
set_option maxHeartbeats 2000000
theorem tJ (h:HF) (s:ByteArray)  : Ret prog 250 [.string s] h (.bool (kC s)):=by
 refine sT func250 U ntmps250 U fun X hM hX hF=>?_
 have hs0:kC s=kC s:=rfl
 refine qT 7 U (ah call268 (Ay h s) U (aj (bz 4 [5,6,7,8,9] 5 9 (!(ll s)) U (fun c1 hk1=>?_) (fun e=>?_))))
 ·exact aj (ah call269 (Aq h s) U (qO 2 U (hk1 _ U)))
 exact an (nretP [.bool ((fE s)&&(!(ll s)))] (cs hs0))
theorem ot (h:HF) (l:List ByteArray) (eE:Option Addr) (eD:Nat) (s:ByteArray) (hl:SlC Rp.str h eE eD l):Ret prog 254 [.slice eE l.length eD,.string s] h (I (dC l s)):=by
 refine sT func254 U ntmps254 U fun X hM hX hF=>?_
 have hs0:dC l s=dC l s:=rfl
 refine qT 9 U ?_
 refine lp0 l (fun i=>[(0,.slice eE l.length eD),(1,.string s),(5,I (i:Int))]) ([]) (fun s1 i=>(dC.L1 s (dC.K1)) s1 i) hl.1.1 hs0 ?_ ?_ ?_
 ·rintro i1 eR hs1 e
  exact sr (an (nretP [I (-1)] (ci hs1)))
 ·rintro i1 y1 rz1 hd1 cz ar dF fF hs3 hx1 ag1 e
  refine qK 6 [] U (ae (v':=.bool true) U (cb cz) (qO 9 U (az (ef (enc:=fun y=>[.string y]) ei pK ty9 hl.1 (nthZ ar) (au ar) U U U (fun q2 A2=>cL ty9 A2 U (qO 3 U (ac hs3 U (fun c2 hs4=>?_) (fun c2 hs5=>?_))))))))
  ·exact sr (qO 3 U (nretP [I (i1:Int)] (ci hs4)))
  ·exact aG (qT 3 U (ae (v':=I (((i1+1):Nat):Int)) U (aL ob) (an (ag1 hs5))))
 ·rintro i1 hd1 eM hx e
  exact qK 6 [] U (ae (v':=.bool false) U (cb eM) (qO 3 U (hx _ rd)))
theorem pd (h:HF) (l:List ByteArray) (eE:Option Addr) (eD:Nat) (hl:SlC Rp.str h eE eD l):Ret prog 251 [.slice eE l.length eD] h (.bool (dL l)):=by
 refine sT func251 U ntmps251 U fun X hM hX hF=>?_
 have hs0:dL l=dL l:=rfl
 refine qT 9 U ?_
 refine lp0 l (fun i=>[(0,.slice eE l.length eD),(3,I (i:Int))]) ([]) (fun s1 i=>(dL.L1 l (dL.K1)) s1 i) hl.1.1 hs0 ?_ ?_ ?_
 ·rintro i1 eR hs1 e
  exact sr (an (nretP [.bool true] (cs hs1)))
 ·rintro i1 y1 rz1 hd1 cz ar dF fF hs3 hx1 ag1 e
  refine qK 6 [] U (ae (v':=.bool true) U (cb cz) (qO 9 U (az (ef (enc:=fun y=>[.string y]) ei pK ty9 hl.1 (nthZ ar) (au ar) U U U (fun q3 A3=>cL ty9 A3 U (ah call250 (tJ h y1) U (qO 2 U (cf 9 [16,17,18,19,20,21,22,23,24,25] 16 25 ((dC l y1) != (i1:Int)) U (fun c1 hk1=>?_) (fun e=>?_)))))))))
  ·exact aj (qO 2 U (az (ef (enc:=fun y=>[.string y]) ei pK ty9 hl.1 (nthZ ar) (au ar) U U U (fun q4 A4=>cL ty9 A4 U (ah call254 (ot _ _ _ _ y1 hl) U (qO 3 U (hk1 _ U)))))))
  refine aN (ac hs3 U (fun c2 hs4=>?_) (fun c2 hs5=>?_))
  ·exact sr (an (nretP [.bool false] (cs hs4)))
  ·exact aG (qT 3 U (ae (v':=I (((i1+1):Nat):Int)) U (aL ob) (an (ag1 hs5))))
 ·rintro i1 hd1 eM hx e
  exact qK 6 [] U (ae (v':=.bool false) U (cb eM) (qO 3 U (hx _ rd)))
theorem xE (rec:List ByteArray→Expr→Bool) (h:HF) (offices:List ByteArray) (cW:Option Addr) (cV:Nat) (x:Expr) (eQ:ce) (hrec:∀ (h:HF) (qoffices:List ByteArray) (iE:Option Addr) (iD:Nat) (qx:Expr) (iT:ce) (hqoffices:SlC Rp.str h iE iD qoffices) (hqx:Expr.ok h qx iT) (_:qx.dep < x.dep),Ret prog 252 [.slice iE qoffices.length iD,.agg (Expr.cells qx iT).toArray] h (.bool (rec qoffices qx))) (hoffices:SlC Rp.str h cW cV offices) (hx:Expr.ok h x eQ):Ret prog 252 [.slice cW offices.length cV,.agg (Expr.cells x eQ).toArray] h (.bool (bA.F rec offices x)):=by
 refine sT func252 U ntmps252 U fun X hM hX hF=>?_
 have hs0:bA.F rec offices x=bA.F rec offices x:=rfl
 refine sr (cy (fun b1=>qL 9 [0] U (cf 4 [9,10,11,12,13] 9 13 (x.Kind==2) U (fun c1 hk1=>?_) (fun e=>?_))))
 ·exact qL 4 [0] U (hk1 _ U)
 refine aj (bz 6 [14,15,16,17,18,19,20] 14 20 (decide ((dC offices x.Name) < 0)) U (fun c2 hk2=>?_) (fun e=>?_))
 ·exact qL 3 [0] U (ah call254 (ot _ _ _ _ x.Name hoffices) U (qO 2 U (hk2 _ U)))
 refine aN (ac hs0 U (fun c3 hs1=>?_) (fun c3 hs2=>?_))
 ·exact sr (an (nretP [.bool false] (cs hs1)))
 ·refine qT 6 U ?_
  refine lp0 x.L (fun i=>[(0,.slice cW offices.length cV),(3,Q b1),(5,I (i:Int))]) ([(b1,O (Expr.cells x eQ) 66)]) (fun s1 i=>(bA.L1 rec offices (bA.K1)) s1) hx.list.1.1 hs2 ?_ ?_ ?_
  ·rintro i1 eR hs4 e
   exact sr (an (nretP [.bool true] (cs hs4)))
  ·rintro i1 y1 rz1 hd1 cz ar dF fF hs6 hx1 ag1 e
   refine qK 7 [0] U (ae (v':=.bool true) U (cb cz) (qL 11 [0] U (az (dU jh ty66 hx.list.1 (nthZ ar) (au ar) U U U (fun _ _ _ e=>e) (fun q2 r2 A2 ok2=>dg ty66 A2 U U (ah call252 (hrec _ _ _ _ _ _ hoffices ok2 (Expr.gk (fA hd1))) U (qO 2 U (ac hs6 U (fun c5 hs7=>?_) (fun c5 hs8=>?_)))))))))
   ·exact sr (an (nretP [.bool false] (cs hs7)))
   ·exact aG (qT 3 U (ae (v':=I (((i1+1):Nat):Int)) U (aL ob) (an (ag1 hs8))))
  ·rintro i1 hd1 eM hx e
   exact qK 7 [0] U (ae (v':=.bool false) U (cb eM) (qO 3 U (hx _ rd)))
theorem pc:∀ (m:Nat) (h:HF) (offices:List ByteArray) (cW:Option Addr) (cV:Nat) (x:Expr) (eQ:ce) (_:x.dep≤m) (hoffices:SlC Rp.str h cW cV offices) (hx:Expr.ok h x eQ),Ret prog 252 [.slice cW offices.length cV,.agg (Expr.cells x eQ).toArray] h (.bool (bA.go m offices x))
 | 0,h,offices,cW,cV,x,eQ,hd,hoffices,hx=>absurd hd (Nat.not_le.2 (Expr.jK _))
 | m+1,h,offices,cW,cV,x,eQ,hd,hoffices,hx=>xE (bA.go m) h offices cW cV x eQ (fun qh_ qoffices iE iD qx iT qhoffices qhx qd=>pc m qh_ qoffices iE iD qx iT ob qhoffices qhx) hoffices hx
theorem rQ (h:HF) (offices:List ByteArray) (cW:Option Addr) (cV:Nat) (x:Expr) (eQ:ce) (hoffices:SlC Rp.str h cW cV offices) (hx:Expr.ok h x eQ):Ret prog 252 [.slice cW offices.length cV,.agg (Expr.cells x eQ).toArray] h (.bool (bA offices x)):=pc _ h offices cW cV x eQ (Nat.le_refl _) hoffices hx
theorem yP (h:HF) (p:Policy) (gq:dY) (hp:Policy.ok h p gq):Ret prog 228 [.agg (Policy.cells p gq).toArray] h (.bool (fJ p)):=by
 refine sT func228 U ntmps228 U fun X hM hX hF=>?_
 have hs0:fJ p=fJ p:=rfl
 refine sr (cy (fun b1=>qL 7 [0] U (ah call250 (tJ h p.Name) U (qO 2 U (cf 5 [8,9,10,11,12,13] 8 13 (!(dL p.Offices)) U (fun c1 hk1=>?_) (fun e=>?_))))))
 ·exact qL 2 [0] U (ah call251 (pd _ _ _ _ hp.Offices) U (qO 2 U (hk1 _ U)))
 refine aj (cf 5 [14,15,16,17,18,19] 14 19 (!(dL p.Kinds)) U (fun c2 hk2=>?_) (fun e=>?_))
 ·exact qL 2 [0] U (ah call251 (pd _ _ _ _ hp.Kinds) U (qO 2 U (hk2 _ U)))
 refine aN (ac hs0 U (fun c3 hs1=>?_) (fun c3 hs2=>?_))
 ·exact sr (an (nretP [.bool false] (cs hs1)))
 ·refine qT 6 U ?_
  let z1:Nat×Obj:=(b1,O (Policy.cells p gq) 68)
  refine lp0 p.Rules (fun i=>[(1,Q b1),(3,I (i:Int))]) ([z1]) (fun s1 i=>(fJ.L1 p (fJ.K1 p)) s1) hp.Rules.1.1 hs2 ?_ ?_ ?_
  ·rintro i1 eR hs4 e
   exact qK 5 [0] U (cM 0 ty66 U U U (ah call252 (rQ _ _ _ _ _ _ hp.Offices hp.Change) U (an (nretP [.bool (bA p.Offices p.Change)] (cs hs4)))))
  ·rintro i1 y1 rz1 hd1 cz ar dF fF hs6 hx1 ag1 e
   refine qK 7 [0] U (ae (v':=.bool true) U (cb cz) (qO 6 U (eA ([z1]) mixed kr jn (fun cI _=>qB [0] U (tf 1 U U (fun _ _ hj=>fw ty62 U (hj.nth (i:=0) U) U) (qB [2] U (tf 3 U U (fun _ _ hj=>fw ty63 U (hj.nth (i:=0) U) U) (tm 4 U (gA 5 cI jn nO ty107 hp.Rules.1 (nthZ ar) (au ar) U U U U kr (fun q2 cs2 A2 ln2 rr2=>?_))))))))))
   obtain ⟨r2,rfl,ok2⟩:=rr2
   refine qB [6] U (tf 7 U U (fun _ _ hj=>HJ 3 ty66 (A2.mono hj.1) U U) (tn 8 U (eO call252 (rQ _ _ _ _ _ _ hp.Offices ok2.Expr) U (⟨jn,(qA [9] U (aI kr (ac hs6 U (fun c5 hs7=>?_) (fun c5 hs8=>?_))))⟩))))
   ·exact sr (an (nretP [.bool false] (cs hs7)))
   ·exact aG (qT 3 U (ae (v':=I (((i1+1):Nat):Int)) U (aL ob) (an (ag1 hs8))))
  ·rintro i1 hd1 eM hx e
   exact qK 7 [0] U (ae (v':=.bool false) U (cb eM) (qO 3 U (hx _ rd)))
theorem rS (rec:Expr→Bool→Bool) (h:HF) (x:Expr) (eQ:ce) (upto:Bool) (hrec:∀ (h:HF) (qx:Expr) (iT:ce) (qupto:Bool) (hqx:Expr.ok h qx iT) (_:qx.dep < x.dep),Ret prog 253 [.agg (Expr.cells qx iT).toArray,.bool qupto] h (.bool (rec qx qupto))) (hx:Expr.ok h x eQ):Ret prog 253 [.agg (Expr.cells x eQ).toArray,.bool upto] h (.bool (aA.F rec x upto)):=by
 refine sT func253 U ntmps253 U fun X hM hX hF=>?_
 have hs0:aA.F rec x upto=aA.F rec x upto:=rfl
 refine sr (cy (fun b1=>qO 7 U ?_))
 refine lp0 x.L (fun i=>[(1,.bool upto),(2,Q b1),(5,I (i:Int))]) ([(b1,O (Expr.cells x eQ) 66)]) (fun s1 i=>(aA.L1 rec upto (aA.K1 x upto)) s1) hx.list.1.1 hs0 ?_ ?_ ?_
 ·rintro i1 eR hs1 e
  refine qK 12 [0] U (ac hs1 U (fun c3 hs2=>?_) (fun c3 hs3=>?_))
  ·refine qK 6 [0] U (bz 5 [28,29,30,31,32,33] 28 33 ((x.L.length:Int)==0) U (fun c4 hk1=>?_) (fun e=>?_))
   ·exact qL 5 [0] U (hk1 _ U)
   exact an (nretP [.bool ((x.N==0)&&((x.L.length:Int)==0))] (cs hs2))
  ·refine qT 5 U (ac hs3 U (fun c5 hs5=>?_) (fun c5 hs6=>?_))
   ·refine qK 6 [0] U (bz 4 [39,40,41,42,43] 39 43 (decide (x.N≤4096)) U (fun c6 hk2=>?_) (fun e=>?_))
    ·exact qL 4 [0] U (hk2 _ U)
    refine aj (bz 5 [44,45,46,47,48,49] 44 49 ((x.L.length:Int)==0) U (fun c7 hk3=>?_) (fun e=>?_))
    ·exact qL 5 [0] U (hk3 _ U)
    exact an (nretP [.bool ((decide (1≤x.N)&&decide (x.N≤4096))&&((x.L.length:Int)==0))] (cs hs5))
   ·refine qT 5 U (ac hs6 U (fun c8 hs8=>?_) (fun c8 hs9=>?_))
    ·refine qK 6 [0] U (bz 5 [55,56,57,58,59,60] 55 60 (decide (1≤(x.L.length:Int))) U (fun c9 hk4=>?_) (fun e=>?_))
     ·exact qL 5 [0] U (hk4 _ U)
     refine aj (bz 5 [61,62,63,64,65,66] 61 66 (decide ((x.L.length:Int)≤16)) U (fun c10 hk5=>?_) (fun e=>?_))
     ·exact qL 5 [0] U (hk5 _ U)
     refine aj (bz 4 [67,68,69,70,71] 67 71 (decide (1≤x.N)) U (fun c11 hk6=>?_) (fun e=>?_))
     ·exact qL 4 [0] U (hk6 _ U)
     refine aj (bz 7 [72,73,74,75,76,77,78,79] 72 79 (decide (x.N≤(x.L.length:Int))) U (fun c12 hk7=>?_) (fun e=>?_))
     ·exact qL 7 [0,0] U (hk7 _ U)
     exact an (nretP [.bool (((((x.Name.toList==(⟨#[]⟩:ByteArray).toList)&&decide (1≤(x.L.length:Int)))&&decide ((x.L.length:Int)≤16))&&decide (1≤x.N))&&decide (x.N≤(x.L.length:Int)))] (cs hs8))
    ·refine qT 5 U (ac hs9 U (fun c13 hs11=>?_) (fun c13 hs12=>?_))
     ·refine qT 4 U (bz 4 [83,84,85,86,87] 83 87 (x.Name.toList==(⟨#[]⟩:ByteArray).toList) U (fun c14 hk8=>?_) (fun e=>?_))
      ·exact qL 4 [0] U (hk8 _ U)
      refine aj (bz 5 [88,89,90,91,92,93] 88 93 ((x.L.length:Int)==2) U (fun c15 hk9=>?_) (fun e=>?_))
      ·exact qL 5 [0] U (hk9 _ U)
      refine aj (bz 4 [94,95,96,97,98] 94 98 (decide (0≤x.N)) U (fun c16 hk10=>?_) (fun e=>?_))
      ·exact qL 4 [0] U (hk10 _ U)
      refine aj (bz 4 [99,100,101,102,103] 99 103 (decide (x.N≤1099511627776)) U (fun c17 hk11=>?_) (fun e=>?_))
      ·exact qL 4 [0] U (hk11 _ U)
      exact an (nretP [.bool ((((upto&&(x.Name.toList==(⟨#[]⟩:ByteArray).toList))&&((x.L.length:Int)==2))&&decide (0≤x.N))&&decide (x.N≤1099511627776))] (cs hs11))
     ·exact aG (qT 5 U (nretP [.bool false] (cs hs12)))
 ·rintro i1 y1 rz1 hd1 cz ar dF fF hs15 hx1 ag1 e
  refine qK 7 [0] U (ae (v':=.bool true) U (cb cz) (qL 10 [0] U (az (dU jh ty66 hx.list.1 (nthZ ar) (au ar) U U U (fun _ _ _ e=>e) (fun q2 r2 A2 ok2=>dg ty66 A2 U U (aj (ah call253 (hrec _ _ _ upto ok2 (Expr.gk (fA hd1))) U (qO 2 U (ac hs15 U (fun c18 hs16=>?_) (fun c18 hs17=>?_))))))))))
  ·exact sr (an (nretP [.bool false] (cs hs16)))
  ·exact aG (qT 3 U (ae (v':=I (((i1+1):Nat):Int)) U (aL ob) (an (ag1 hs17))))
 ·rintro i1 hd1 eM hx e
  exact qK 7 [0] U (ae (v':=.bool false) U (cb eM) (qO 3 U (hx _ rd)))
theorem mL:∀ (m:Nat) (h:HF) (x:Expr) (eQ:ce) (upto:Bool) (_:x.dep≤m) (hx:Expr.ok h x eQ),Ret prog 253 [.agg (Expr.cells x eQ).toArray,.bool upto] h (.bool (aA.go m x upto))
 | 0,h,x,eQ,upto,hd,hx=>absurd hd (Nat.not_le.2 (Expr.jK _))
 | m+1,h,x,eQ,upto,hd,hx=>rS (aA.go m) h x eQ upto (fun qh_ qx iT qupto qhx qd=>mL m qh_ qx iT qupto ob qhx) hx
theorem nH (h:HF) (x:Expr) (eQ:ce) (upto:Bool) (hx:Expr.ok h x eQ):Ret prog 253 [.agg (Expr.cells x eQ).toArray,.bool upto] h (.bool (aA x upto)):=mL _ h x eQ upto (Nat.le_refl _) hx
theorem xF (h:HF) (p:Policy) (gq:dY) (hp:Policy.ok h p gq):Ret prog 229 [.agg (Policy.cells p gq).toArray] h (.bool (e5 p)):=by
 refine sT func229 U ntmps229 U fun X hM hX hF=>?_
 have hs0:e5 p=e5 p:=rfl
 refine sr (cy (fun b1=>qL 10 [0] U (cf 8 [9,10,11,12,13,14,15,16,17] 9 17 ((p.Rules.length:Int) != (p.Kinds.length:Int)) U (fun c1 hk1=>?_) (fun e=>?_))))
 ·exact qL 8 [0,0] U (hk1 _ U)
 refine aj (cf 4 [18,19,20,21,22] 18 22 (decide (p.Mode < 1)) U (fun c2 hk2=>?_) (fun e=>?_))
 ·exact qL 4 [0] U (hk2 _ U)
 refine aj (cf 4 [23,24,25,26,27] 23 27 (decide (4 < p.Mode)) U (fun c3 hk3=>?_) (fun e=>?_))
 ·exact qL 4 [0] U (hk3 _ U)
 refine aN (ac hs0 U (fun c4 hs1=>?_) (fun c4 hs2=>?_))
 ·exact sr (an (nretP [.bool false] (cs hs1)))
 ·refine qT 6 U ?_
  let z1:Nat×Obj:=(b1,O (Policy.cells p gq) 68)
  refine lp0 p.Rules (fun i=>[(1,Q b1),(3,I (i:Int))]) ([z1]) (fun s1 i=>(e5.L1 p (e5.K1 p)) s1 i) hp.Rules.1.1 hs2 ?_ ?_ ?_
  ·rintro i1 eR hs4 e
   exact qK 3 [] U (cM 0 ty66 U U U (ah call253 (nH _ _ _ false hp.Change) U (an (nretP [.bool (aA p.Change false)] (cs hs4)))))
  ·rintro i1 y1 rz1 hd1 cz ar dF fF hs6 hx1 ag1 e
   refine qK 7 [0] U (ae (v':=.bool true) U (cb cz) (qL 10 [0] U (az (dU nO ty107 hp.Rules.1 (nthZ ar) (au ar) U U U (fun _ _ _ e=>e) (fun q3 r2 A3 ok2=>dg ty107 A3 U U (bG zc107 (fun b3=>bC 0 ty107 U U U U U U (qO 2 U ?_))))))))
   refine jM [(1,Q b1),(3,I (i1:Int)),(63,.bool ((((!(y1.Kind.toList==(nthI p.Kinds (i1:Int)).toList))||decide (y1.Think < 0))||decide (1099511627776≤y1.Think))||(!(aA y1.Expr true))))] (fun e=>?_) (fun hk4=>?_)
   rotate_left
   ·refine eA ([(b3,O (Rule.cells y1 r2) 107),z1]) mixed kr jn (fun cI _=>?_)
    refine qB [0] U (tf 1 U U (fun _ _ hj=>fw ty9 U (hj.nth (i:=0) U) U) (qB [2] U (tf 3 U U (fun _ _ hj=>fw ty62 U (hj.nth (i:=1) U) U) (tm 4 U ?_))))
    have ho2:0≤((i1:Int):Int)∧((i1:Int):Int) < ((p.Kinds).length:Int):=ob
    refine cC 5 (enc:=fun y=>[.string y]) cI jn ei pK ty9 hp.Kinds.1 ho2 (bJ ho2) U U U U kr (fun q4 A4=>tf 6 U U (fun _ _ hj=>eL ty9 (A4.mono hj.1) U) (qA [7,8] U ?_))
    refine ct 48 U (fun c5=>?_) (fun c5=>?_)
    ·exact tk 9 U U (qR 10 14 U (aI kr (hk4 _ ⟨U,U,(cb (show true=((((!(y1.Kind.toList==(nthI p.Kinds (i1:Int)).toList))||decide (y1.Think < 0))||decide (1099511627776≤y1.Think))||(!(aA y1.Expr true))) from by rw [c5] <;> rfl)),trivial⟩)))
    ·refine qB [9] U (tf 10 U U (fun _ _ hj=>fw ty3 U (hj.nth (i:=0) U) U) (qR 11 3 U ?_))
     refine ct 53 U (fun c6=>?_) (fun c6=>?_)
     ·have c6p:=of_decide_eq_true c6
      exact tk 14 U U (qR 15 9 U (aI kr (hk4 _ ⟨U,U,(cb (show true=((((!(y1.Kind.toList==(nthI p.Kinds (i1:Int)).toList))||decide (y1.Think < 0))||decide (1099511627776≤y1.Think))||(!(aA y1.Expr true))) from by rw [c5,c6] <;> rfl)),trivial⟩)))
     ·have c6p:=of_decide_eq_false c6
      refine qB [14] U (tf 15 U U (fun _ _ hj=>fw ty3 U (hj.nth (i:=0) U) U) (qR 16 3 U ?_))
      refine ct 58 U (fun c7=>?_) (fun c7=>?_)
      ·have c7p:=of_decide_eq_true c7
       exact tk 19 U U (qR 20 4 U (aI kr (hk4 _ ⟨U,U,(cb (show true=((((!(y1.Kind.toList==(nthI p.Kinds (i1:Int)).toList))||decide (y1.Think < 0))||decide (1099511627776≤y1.Think))||(!(aA y1.Expr true))) from by rw [c5,c6,c7] <;> rfl)),trivial⟩)))
      ·have c7p:=of_decide_eq_false c7
       exact tf 19 U U (fun _ _ _=>nn IA U) (tf 20 U U (fun _ _ hj=>jA ty66 U (hj.nth (i:=0) U) U) (tn 21 U (eO call253 (nH _ _ _ true ok2.Expr) U (⟨jn,qA [22,23] U (aI kr (hk4 _ ⟨U,U,(cb (show (!(aA y1.Expr true))=((((!(y1.Kind.toList==(nthI p.Kinds (i1:Int)).toList))||decide (y1.Think < 0))||decide (1099511627776≤y1.Think))||(!(aA y1.Expr true))) from by rw [c5,c6,c7] <;> rfl)),trivial⟩))⟩))))
   refine ac hs6 U (fun c8 hs7=>?_) (fun c8 hs8=>?_)
   ·exact sr (an (nretP [.bool false] (cs hs7)))
   ·exact aG (qT 3 U (ae (v':=I (((i1+1):Nat):Int)) U (aL ob) (an (bY (L':=[z1]) js (ag1 hs8)))))
  ·rintro i1 hd1 eM hx e
   exact qK 7 [0] U (ae (v':=.bool false) U (cb eM) (qO 3 U (hx _ rd)))
theorem uj (rec:List ByteArray→Expr→Expr) (h:HF) (offices:List ByteArray) (cW:Option Addr) (cV:Nat) (x:Expr) (eQ:ce) (hrec:∀ (h:HF) (qoffices:List ByteArray) (iE:Option Addr) (iD:Nat) (qx:Expr) (iT:ce) (hqoffices:SlC Rp.str h iE iD qoffices) (hqx:Expr.ok h qx iT) (hsz:qx.dep≤2000000) (_:qx.dep < x.dep),iW prog 230 [.slice iE qoffices.length iD,.agg (Expr.cells qx iT).toArray] h (fun v h'=>∃ (rr0:ce),v=.agg (Expr.cells (rec qoffices qx) rr0).toArray∧Expr.ok h' (rec qoffices qx) rr0)) (hoffices:SlC Rp.str h cW cV offices) (hx:Expr.ok h x eQ) (hsz:x.dep≤2000000):iW prog 230 [.slice cW offices.length cV,.agg (Expr.cells x eQ).toArray] h (fun v h'=>∃ (rr0:ce),v=.agg (Expr.cells (aa.F rec offices x) rr0).toArray∧Expr.ok h' (aa.F rec offices x) rr0):=by
 refine cT func230 U ntmps230 U fun X hM hX=>?_
 have hs0:aa.F rec offices x=aa.F rec offices x:=rfl
 have hln:=Expr.EV x
 refine sr (cy (fun b1=>bG zc66 (fun b2=>qO 3 U (cM 1 ty66 U U U (bG zc66 (fun b3=>bC 0 ty66 U U U U U U (qL 4 [] U (dw 0 ty3 U U U U U U (qL 8 [2] U (cf 4 [12,13,14,15,16] 12 16 (x.Kind==2) U (fun c1 hk1=>?_) (fun e=>?_)))))))))))
 ·exact qL 4 [2] U (hk1 _ U)
 refine aN (ac hs0 U (fun c2 hs1=>?_) (fun c2 hs2=>?_))
 ·refine qK 4 [2] U (ah call254 (ot _ _ _ _ x.Name hoffices) U (qL 1 [] U (dw 0 ty3 U U U U U U (qL 4 [] U (dw 0 ty64 U U U U U U (qO 6 U ?_))))))
  let z1:Nat×Obj:=(b2,O [I 0,I 0,I 0,.string (⟨#[]⟩:ByteArray),.slice none 0 0] 66)
  let z3:Nat×Obj:=(b1,O (Expr.cells x eQ) 66)
  refine lp2 x.L (fun i w=>[(0,.slice cW offices.length cV),(3,Q b1),(4,Q b2),(5,Q b3),(6,I (i:Int))]) (fun w=>w.2.2.2.2) (fun w=>[(b3,O [I x.Kind,I x.N,I (dC offices x.Name),.string x.Name,.slice w.2.1 w.1.length w.2.2.1] 66),z1,z3]++(w.2.2.2.1)) (fun i w=>cJ Expr.rp 66 w.2.2.2.2 w.1 w.2.1 w.2.2.1 w.2.2.2.1∧w.1.length≤0+i∧HF.le h w.2.2.2.2) (fun s1 i w=>(aa.L1 rec offices (aa.K1 offices x)) s1 w.1) ([],none,0,[],h) hx.list.1.1 hs1 ⟨cJ.nil,lo,lf⟩ ?_ ?_ ?_
  ·rintro i1 ⟨iS,ly,lx,vq,hh1⟩ eR hs3 ⟨oI,zF,hl1⟩ e
   try dsimp only at oI zF hl1
   let z5:Nat×Obj:=(b3,O [I x.Kind,I x.N,I (dC offices x.Name),.string x.Name,.slice ly iS.length lx] 66)
   let z19:Nat×Obj:=(b2,O [I x.Kind,I x.N,I (dC offices x.Name),.string x.Name,.slice ly iS.length lx] 66)
   refine sr (cM 0 ty66 U U U (bC 1 ty66 U U U U U U (iw (L':=[z5,z19,z3]++(vq)) U (aN (eK Expr.ak ([z5,z19,z3]) vq ([]) ap hM oI (fun h3 hle3 sl2=>?_))))))
   have hs4:aa.F rec offices x=(Expr.mk x.Kind x.N (dC offices x.Name) x.Name iS):=hs3
   exact fS [.agg (List.toArray [I x.Kind,I x.N,I (dC offices x.Name),.string x.Name,.slice ly iS.length lx])] func230 U ⟨⟨1,_,_,_,_,U,U,.inl ⟨ty66,U⟩⟩,trivial⟩ ⟨(ce.mk ly lx),congrArg (fun r:Expr=>(.agg (Expr.cells r (ce.mk ly lx)).toArray:Value)) hs4.symm,(by rw [hs4];exact (show Expr.ok h3 (Expr.mk x.Kind x.N (dC offices x.Name) x.Name iS) (ce.mk ly lx) from Expr.ok.of sl2))⟩
  ·rintro i1 ⟨iS,ly,lx,vq,hh1⟩ y1 rz1 hd1 cz ar dF fF hs5 ⟨oI,zF,hl1⟩ hx1 ag1 e
   try dsimp only at oI zF hl1
   have hdy:=Expr.gk (fA hd1)
   refine qK 7 [2] U (ae (v':=.bool true) U (cb cz) (qO 5 U (eA ([z1,z3]) mixed kr jn (fun cI _=>qB [0,2,3] U (tf 4 U U (fun _ _ hj=>fw ty64 U (hj.nth (i:=1) U) U) (tm 5 U (gA 6 cI jn jh ty66 (hx.list.mono Expr.ak hl1).1 (nthZ ar) (au ar) U U U U kr (fun q2 cs2 A2 ln2 rr3=>?_))))))))
   obtain ⟨r2,rfl,ok3⟩:=rr3
   refine tf 7 U U (fun _ _ hj=>iQ ty66 (A2.mono hj.1) U U) ?_
   refine ju 1 8 kr U U ?_ ?_ 
   ·refine fy (fw ty64 U (mf (i:=0) U) U) (⟨jn,tn 8 U (cg CO (hrec _ _ _ _ _ _ (hoffices.mono Rp.gm hl1) ok3 ob (Expr.gk (fA hd1))) U (fun v2 h4 hle4 hp2=>?_))⟩)
    obtain ⟨rr4,rfl,ok4⟩:=hp2
    refine ⟨jl hle4,tu hle4 (tn 9 U (bd (cells:=[I ((rec offices y1).Kind),I ((rec offices y1).N),I ((rec offices y1).No),.string ((rec offices y1).Name),.slice rr4.iM ((rec offices y1).L.length) rr4.iP]) jh ty66 zc66 U U kr (fun b5=>⟨jn,?_⟩)))⟩
    let z6:Nat×Obj:=(b3,O [I x.Kind,I x.N,I (dC offices x.Name),.string x.Name,.slice ly iS.length lx] 66)
    let z15:Nat×Obj:=(b5,O [I ((rec offices y1).Kind),I ((rec offices y1).N),I ((rec offices y1).No),.string ((rec offices y1).Name),.slice rr4.iM ((rec offices y1).L.length) rr4.iP] 66)
    exact tn 10 U (bR Expr.ey ([z15,z6,z1,z3]) ([]) (fun G=>[z15,z6,z1,z3]++G) ap (fun _=>ap) jh ty66 zc66 U bytes66 (oI.mono Expr.ak hle4) U U (dr 0 U (show aT Expr.rp h4 [I ((rec offices y1).Kind),I ((rec offices y1).N),I ((rec offices y1).No),.string ((rec offices y1).Name),.slice rr4.iM ((rec offices y1).L.length) rr4.iP] ([(rec offices y1)]) from ⟨[I ((rec offices y1).Kind),I ((rec offices y1).N),I ((rec offices y1).No),.string ((rec offices y1).Name),.slice rr4.iM ((rec offices y1).L.length) rr4.iP],[],U,U,⟨rr4,U,ok4⟩,U⟩)) lo lo (fun ob2 oc2 G2 gr2=>⟨jn,qB [11] U (tn 12 U (j7 1 ty64 U U U U U U (⟨jn,aI kr (qT 3 U (ae (v':=I (((i1+1):Nat):Int)) U (aL ob) (an (bY (L':=[(b3,O [I x.Kind,I x.N,I (dC offices x.Name),.string x.Name,.slice ob2 ((iS++[(rec offices y1)]).length) oc2] 66),z1,z3]++G2) js (ag1 ((iS++[(rec offices y1)]),ob2,oc2,G2,h4) hs5 ⟨gr2,lo,(hl1.t hle4)⟩)))))⟩)))⟩))
   ·refine cg CO (hrec _ _ _ _ _ _ (hoffices.mono Rp.gm hl1) ok3 ob (Expr.gk (fA hd1))) U (fun v3 h5 hle5 hp3=>?_)
    obtain ⟨rr5,rfl,ok5⟩:=hp3
    refine ⟨jl hle5,tu hle5 ?_⟩
    refine ju 1 9 kr U U ?_ ?_ 
    ·refine fy (fw ty64 U (mf (i:=0) U) U) (⟨jn,tn 9 U (bd (cells:=[I ((rec offices y1).Kind),I ((rec offices y1).N),I ((rec offices y1).No),.string ((rec offices y1).Name),.slice rr5.iM ((rec offices y1).L.length) rr5.iP]) jh ty66 zc66 U U kr (fun b6=>⟨jn,?_⟩))⟩)
     let z7:Nat×Obj:=(b3,O [I x.Kind,I x.N,I (dC offices x.Name),.string x.Name,.slice ly iS.length lx] 66)
     let z16:Nat×Obj:=(b6,O [I ((rec offices y1).Kind),I ((rec offices y1).N),I ((rec offices y1).No),.string ((rec offices y1).Name),.slice rr5.iM ((rec offices y1).L.length) rr5.iP] 66)
     exact tn 10 U (bR Expr.ey ([z16,z7,z1,z3]) ([]) (fun G=>[z16,z7,z1,z3]++G) ap (fun _=>ap) jh ty66 zc66 U bytes66 (oI.mono Expr.ak hle5) U U (dr 0 U (show aT Expr.rp h5 [I ((rec offices y1).Kind),I ((rec offices y1).N),I ((rec offices y1).No),.string ((rec offices y1).Name),.slice rr5.iM ((rec offices y1).L.length) rr5.iP] ([(rec offices y1)]) from ⟨[I ((rec offices y1).Kind),I ((rec offices y1).N),I ((rec offices y1).No),.string ((rec offices y1).Name),.slice rr5.iM ((rec offices y1).L.length) rr5.iP],[],U,U,⟨rr5,U,ok5⟩,U⟩)) lo lo (fun ob3 oc3 G3 gr3=>⟨jn,qB [11] U (tn 12 U (j7 1 ty64 U U U U U U (⟨jn,aI kr (qT 3 U (ae (v':=I (((i1+1):Nat):Int)) U (aL ob) (an (bY (L':=[(b3,O [I x.Kind,I x.N,I (dC offices x.Name),.string x.Name,.slice ob3 ((iS++[(rec offices y1)]).length) oc3] 66),z1,z3]++G3) js (ag1 ((iS++[(rec offices y1)]),ob3,oc3,G3,h5) hs5 ⟨gr3,lo,(hl1.t hle5)⟩)))))⟩)))⟩))
    ·refine bd (cells:=[I ((rec offices y1).Kind),I ((rec offices y1).N),I ((rec offices y1).No),.string ((rec offices y1).Name),.slice rr5.iM ((rec offices y1).L.length) rr5.iP]) jh ty66 zc66 U U kr (fun b7=>⟨jn,tn 1 U (fy (fw ty64 U (mf (i:=1) U) U) (⟨jn,?_⟩))⟩)
     let z8:Nat×Obj:=(b3,O [I x.Kind,I x.N,I (dC offices x.Name),.string x.Name,.slice ly iS.length lx] 66)
     let z17:Nat×Obj:=(b7,O [I ((rec offices y1).Kind),I ((rec offices y1).N),I ((rec offices y1).No),.string ((rec offices y1).Name),.slice rr5.iM ((rec offices y1).L.length) rr5.iP] 66)
     exact tn 10 U (bR Expr.ey ([z17,z8,z1,z3]) ([]) (fun G=>[z17,z8,z1,z3]++G) ap (fun _=>ap) jh ty66 zc66 U bytes66 (oI.mono Expr.ak hle5) U U (dr 0 U (show aT Expr.rp h5 [I ((rec offices y1).Kind),I ((rec offices y1).N),I ((rec offices y1).No),.string ((rec offices y1).Name),.slice rr5.iM ((rec offices y1).L.length) rr5.iP] ([(rec offices y1)]) from ⟨[I ((rec offices y1).Kind),I ((rec offices y1).N),I ((rec offices y1).No),.string ((rec offices y1).Name),.slice rr5.iM ((rec offices y1).L.length) rr5.iP],[],U,U,⟨rr5,U,ok5⟩,U⟩)) lo lo (fun ob4 oc4 G4 gr4=>⟨jn,qB [11] U (tn 12 U (j7 1 ty64 U U U U U U (⟨jn,aI kr (qT 3 U (ae (v':=I (((i1+1):Nat):Int)) U (aL ob) (an (bY (L':=[(b3,O [I x.Kind,I x.N,I (dC offices x.Name),.string x.Name,.slice ob4 ((iS++[(rec offices y1)]).length) oc4] 66),z1,z3]++G4) js (ag1 ((iS++[(rec offices y1)]),ob4,oc4,G4,h5) hs5 ⟨gr4,lo,(hl1.t hle5)⟩)))))⟩)))⟩))
  ·rintro i1 ⟨iS,ly,lx,vq,hh1⟩ hd1 eM hx e
   exact qK 7 [2] U (ae (v':=.bool false) U (cb eM) (qO 3 U (hx _ rd)))
 ·refine qK 4 [] U (dw 0 ty64 U U U U U U (qO 6 U ?_))
  let z2:Nat×Obj:=(b2,O [I 0,I 0,I 0,.string (⟨#[]⟩:ByteArray),.slice none 0 0] 66)
  let z4:Nat×Obj:=(b1,O (Expr.cells x eQ) 66)
  refine lp2 x.L (fun i w=>[(0,.slice cW offices.length cV),(3,Q b1),(4,Q b2),(5,Q b3),(6,I (i:Int))]) (fun w=>w.2.2.2.2) (fun w=>[(b3,O [I x.Kind,I x.N,I 0,.string x.Name,.slice w.2.1 w.1.length w.2.2.1] 66),z2,z4]++(w.2.2.2.1)) (fun i w=>cJ Expr.rp 66 w.2.2.2.2 w.1 w.2.1 w.2.2.1 w.2.2.2.1∧w.1.length≤0+i∧HF.le h w.2.2.2.2) (fun s2 i w=>(aa.L2 rec offices (aa.K2 x)) s2 w.1) ([],none,0,[],h) hx.list.1.1 hs2 ⟨cJ.nil,lo,lf⟩ ?_ ?_ ?_
  ·rintro i2 ⟨iR,lw,lv,vo,hh2⟩ uA hs6 ⟨oG,zB,hl2⟩ e
   try dsimp only at oG zB hl2
   let z9:Nat×Obj:=(b3,O [I x.Kind,I x.N,I 0,.string x.Name,.slice lw iR.length lv] 66)
   let z20:Nat×Obj:=(b2,O [I x.Kind,I x.N,I 0,.string x.Name,.slice lw iR.length lv] 66)
   refine sr (cM 0 ty66 U U U (bC 1 ty66 U U U U U U (iw (L':=[z9,z20,z4]++(vo)) U (aN (eK Expr.ak ([z9,z20,z4]) vo ([]) ap hM oG (fun h8 hle8 sl4=>?_))))))
   have hs7:aa.F rec offices x=(Expr.mk x.Kind x.N 0 x.Name iR):=hs6
   exact fS [.agg (List.toArray [I x.Kind,I x.N,I 0,.string x.Name,.slice lw iR.length lv])] func230 U ⟨⟨1,_,_,_,_,U,U,.inl ⟨ty66,U⟩⟩,trivial⟩ ⟨(ce.mk lw lv),congrArg (fun r:Expr=>(.agg (Expr.cells r (ce.mk lw lv)).toArray:Value)) hs7.symm,(by rw [hs7];exact (show Expr.ok h8 (Expr.mk x.Kind x.N 0 x.Name iR) (ce.mk lw lv) from Expr.ok.of sl4))⟩
  ·rintro i2 ⟨iR,lw,lv,vo,hh2⟩ y2 rz2 hd2 nE jq tO Cv hs8 ⟨oG,zB,hl2⟩ hx2 ag2 e
   try dsimp only at oG zB hl2
   have hdy:=Expr.gk (fA hd2)
   refine qK 7 [2] U (ae (v':=.bool true) U (cb nE) (qO 5 U (eA ([z2,z4]) mixed kr jn (fun nK _=>qB [0,2,3] U (tf 4 U U (fun _ _ hj=>fw ty64 U (hj.nth (i:=1) U) U) (tm 5 U (gA 6 nK jn jh ty66 (hx.list.mono Expr.ak hl2).1 (nthZ jq) (au jq) U U U U kr (fun q4 cs4 A4 ln4 rr8=>?_))))))))
   obtain ⟨r4,rfl,ok8⟩:=rr8
   refine tf 7 U U (fun _ _ hj=>iQ ty66 (A4.mono hj.1) U U) ?_
   refine ju 1 8 kr U U ?_ ?_ 
   ·refine fy (fw ty64 U (mf (i:=0) U) U) (⟨jn,tn 8 U (cg CO (hrec _ _ _ _ _ _ (hoffices.mono Rp.gm hl2) ok8 ob (Expr.gk (fA hd2))) U (fun v5 h9 hle9 hp5=>?_))⟩)
    obtain ⟨rr9,rfl,ok9⟩:=hp5
    refine ⟨jl hle9,tu hle9 (tn 9 U (bd (cells:=[I ((rec offices y2).Kind),I ((rec offices y2).N),I ((rec offices y2).No),.string ((rec offices y2).Name),.slice rr9.iM ((rec offices y2).L.length) rr9.iP]) jh ty66 zc66 U U kr (fun b9=>⟨jn,?_⟩)))⟩
    let z10:Nat×Obj:=(b3,O [I x.Kind,I x.N,I 0,.string x.Name,.slice lw iR.length lv] 66)
    let z18:Nat×Obj:=(b9,O [I ((rec offices y2).Kind),I ((rec offices y2).N),I ((rec offices y2).No),.string ((rec offices y2).Name),.slice rr9.iM ((rec offices y2).L.length) rr9.iP] 66)
    exact tn 10 U (bR Expr.ey ([z18,z10,z2,z4]) ([]) (fun G=>[z18,z10,z2,z4]++G) ap (fun _=>ap) jh ty66 zc66 U bytes66 (oG.mono Expr.ak hle9) U U (dr 0 U (show aT Expr.rp h9 [I ((rec offices y2).Kind),I ((rec offices y2).N),I ((rec offices y2).No),.string ((rec offices y2).Name),.slice rr9.iM ((rec offices y2).L.length) rr9.iP] ([(rec offices y2)]) from ⟨[I ((rec offices y2).Kind),I ((rec offices y2).N),I ((rec offices y2).No),.string ((rec offices y2).Name),.slice rr9.iM ((rec offices y2).L.length) rr9.iP],[],U,U,⟨rr9,U,ok9⟩,U⟩)) lo lo (fun ob6 oc6 G6 gr6=>⟨jn,qB [11] U (tn 12 U (j7 1 ty64 U U U U U U (⟨jn,aI kr (qT 3 U (ae (v':=I (((i2+1):Nat):Int)) U (aL ob) (an (bY (L':=[(b3,O [I x.Kind,I x.N,I 0,.string x.Name,.slice ob6 ((iR++[(rec offices y2)]).length) oc6] 66),z2,z4]++G6) js (ag2 ((iR++[(rec offices y2)]),ob6,oc6,G6,h9) hs8 ⟨gr6,lo,(hl2.t hle9)⟩)))))⟩)))⟩))
   ·refine cg CO (hrec _ _ _ _ _ _ (hoffices.mono Rp.gm hl2) ok8 ob (Expr.gk (fA hd2))) U (fun v6 h10 hle10 hp6=>?_)
    obtain ⟨rr10,rfl,ok10⟩:=hp6
    refine ⟨jl hle10,tu hle10 ?_⟩
    refine ju 1 9 kr U U ?_ ?_ 
    ·refine fy (fw ty64 U (mf (i:=0) U) U) (⟨jn,tn 9 U (bd (cells:=[I ((rec offices y2).Kind),I ((rec offices y2).N),I ((rec offices y2).No),.string ((rec offices y2).Name),.slice rr10.iM ((rec offices y2).L.length) rr10.iP]) jh ty66 zc66 U U kr (fun b10=>⟨jn,?_⟩))⟩)
     let z11:Nat×Obj:=(b3,O [I x.Kind,I x.N,I 0,.string x.Name,.slice lw iR.length lv] 66)
     let z13:Nat×Obj:=(b10,O [I ((rec offices y2).Kind),I ((rec offices y2).N),I ((rec offices y2).No),.string ((rec offices y2).Name),.slice rr10.iM ((rec offices y2).L.length) rr10.iP] 66)
     exact tn 10 U (bR Expr.ey ([z13,z11,z2,z4]) ([]) (fun G=>[z13,z11,z2,z4]++G) ap (fun _=>ap) jh ty66 zc66 U bytes66 (oG.mono Expr.ak hle10) U U (dr 0 U (show aT Expr.rp h10 [I ((rec offices y2).Kind),I ((rec offices y2).N),I ((rec offices y2).No),.string ((rec offices y2).Name),.slice rr10.iM ((rec offices y2).L.length) rr10.iP] ([(rec offices y2)]) from ⟨[I ((rec offices y2).Kind),I ((rec offices y2).N),I ((rec offices y2).No),.string ((rec offices y2).Name),.slice rr10.iM ((rec offices y2).L.length) rr10.iP],[],U,U,⟨rr10,U,ok10⟩,U⟩)) lo lo (fun ob7 oc7 G7 gr7=>⟨jn,qB [11] U (tn 12 U (j7 1 ty64 U U U U U U (⟨jn,aI kr (qT 3 U (ae (v':=I (((i2+1):Nat):Int)) U (aL ob) (an (bY (L':=[(b3,O [I x.Kind,I x.N,I 0,.string x.Name,.slice ob7 ((iR++[(rec offices y2)]).length) oc7] 66),z2,z4]++G7) js (ag2 ((iR++[(rec offices y2)]),ob7,oc7,G7,h10) hs8 ⟨gr7,lo,(hl2.t hle10)⟩)))))⟩)))⟩))
    ·refine bd (cells:=[I ((rec offices y2).Kind),I ((rec offices y2).N),I ((rec offices y2).No),.string ((rec offices y2).Name),.slice rr10.iM ((rec offices y2).L.length) rr10.iP]) jh ty66 zc66 U U kr (fun b11=>⟨jn,tn 1 U (fy (fw ty64 U (mf (i:=1) U) U) (⟨jn,?_⟩))⟩)
     let z12:Nat×Obj:=(b3,O [I x.Kind,I x.N,I 0,.string x.Name,.slice lw iR.length lv] 66)
     let z14:Nat×Obj:=(b11,O [I ((rec offices y2).Kind),I ((rec offices y2).N),I ((rec offices y2).No),.string ((rec offices y2).Name),.slice rr10.iM ((rec offices y2).L.length) rr10.iP] 66)
     exact tn 10 U (bR Expr.ey ([z14,z12,z2,z4]) ([]) (fun G=>[z14,z12,z2,z4]++G) ap (fun _=>ap) jh ty66 zc66 U bytes66 (oG.mono Expr.ak hle10) U U (dr 0 U (show aT Expr.rp h10 [I ((rec offices y2).Kind),I ((rec offices y2).N),I ((rec offices y2).No),.string ((rec offices y2).Name),.slice rr10.iM ((rec offices y2).L.length) rr10.iP] ([(rec offices y2)]) from ⟨[I ((rec offices y2).Kind),I ((rec offices y2).N),I ((rec offices y2).No),.string ((rec offices y2).Name),.slice rr10.iM ((rec offices y2).L.length) rr10.iP],[],U,U,⟨rr10,U,ok10⟩,U⟩)) lo lo (fun ob8 oc8 G8 gr8=>⟨jn,qB [11] U (tn 12 U (j7 1 ty64 U U U U U U (⟨jn,aI kr (qT 3 U (ae (v':=I (((i2+1):Nat):Int)) U (aL ob) (an (bY (L':=[(b3,O [I x.Kind,I x.N,I 0,.string x.Name,.slice ob8 ((iR++[(rec offices y2)]).length) oc8] 66),z2,z4]++G8) js (ag2 ((iR++[(rec offices y2)]),ob8,oc8,G8,h10) hs8 ⟨gr8,lo,(hl2.t hle10)⟩)))))⟩)))⟩))
  ·rintro i2 ⟨iR,lw,lv,vo,hh2⟩ hd2 xL hx e
   exact qK 7 [2] U (ae (v':=.bool false) U (cb xL) (qO 3 U (hx _ rd)))
theorem nl:∀ (m:Nat) (h:HF) (offices:List ByteArray) (cW:Option Addr) (cV:Nat) (x:Expr) (eQ:ce) (_:x.dep≤m) (hoffices:SlC Rp.str h cW cV offices) (hx:Expr.ok h x eQ) (hsz:x.dep≤2000000),iW prog 230 [.slice cW offices.length cV,.agg (Expr.cells x eQ).toArray] h (fun v h'=>∃ (rr0:ce),v=.agg (Expr.cells (aa.go m offices x) rr0).toArray∧Expr.ok h' (aa.go m offices x) rr0)
 | 0,h,offices,cW,cV,x,eQ,hd,hoffices,hx,hsz=>absurd hd (Nat.not_le.2 (Expr.jK _))
 | m+1,h,offices,cW,cV,x,eQ,hd,hoffices,hx,hsz=>uj (aa.go m) h offices cW cV x eQ (fun qh_ qoffices iE iD qx iT qhoffices qhx qhsz qd=>nl m qh_ qoffices iE iD qx iT ob qhoffices qhx qhsz) hoffices hx hsz
theorem pb (h:HF) (offices:List ByteArray) (cW:Option Addr) (cV:Nat) (x:Expr) (eQ:ce) (hoffices:SlC Rp.str h cW cV offices) (hx:Expr.ok h x eQ) (hsz:x.dep≤2000000):iW prog 230 [.slice cW offices.length cV,.agg (Expr.cells x eQ).toArray] h (fun v h'=>∃ (rr0:ce),v=.agg (Expr.cells (aa offices x) rr0).toArray∧Expr.ok h' (aa offices x) rr0):=nl _ h offices cW cV x eQ (Nat.le_refl _) hoffices hx hsz
theorem wa (h:HF) (p:Policy) (gq:dY) (hp:Policy.ok h p gq) (hsm:smP p):iW prog 189 [.agg (Policy.cells p gq).toArray] h (fun v h'=>∃ (rr0:dY),v=.tuple #[.agg (Policy.cells ((dh p).1) rr0).toArray,I ((dh p).2)]∧Policy.ok h' ((dh p).1) rr0):=by
 refine cT Fc U ntmps189 U fun X hM hX=>?_
 have hs0:dh p=dh p:=rfl
 have hsc:=hsm.change
 have hsr:=hsm.rules
 refine sr (cy (fun b1=>bG zc68 (fun b2=>qO 5 U (cM 1 ty68 U U U (ah call227 (vg _ _ _ hp) U (aN (ac hs0 U (fun c1 hs1=>?_) (fun c1 hs2=>?_))))))))
 ·refine sr (az (em (cells:=[.string (⟨#[]⟩:ByteArray),.slice none 0 0,.slice none 0 0,.slice none 0 0,I 0,I 0,I 0,.string (⟨#[]⟩:ByteArray),.slice none 0 0,I 0]) (places:=[(0,1),(1,1),(2,1),(3,1),(4,5),(9,1)]) Fw zc68 kr kr (bC 0 ty68 U U U U U U (an ?_))))
  have hs3:dh p=((Policy.mk (⟨#[]⟩:ByteArray) ([]) ([]) ([]) (Expr.mk 0 0 0 (⟨#[]⟩:ByteArray) ([])) 0),2):=hs1
  exact fS [.agg (List.toArray [.string (⟨#[]⟩:ByteArray),.slice none 0 0,.slice none 0 0,.slice none 0 0,I 0,I 0,I 0,.string (⟨#[]⟩:ByteArray),.slice none 0 0,I 0]),I 2] Fc U ⟨⟨0,_,_,_,_,U,U,.inl ⟨ty68,U⟩⟩,U,trivial⟩ ⟨(dY.mk none 0 none 0 none 0 (ce.mk none 0)),congrArg (fun r:(Policy×Int)=>(.tuple #[.agg (Policy.cells r.1 (dY.mk none 0 none 0 none 0 (ce.mk none 0))).toArray,I r.2]:Value)) hs3.symm,(by rw [hs3];exact (show Policy.ok h (Policy.mk (⟨#[]⟩:ByteArray) ([]) ([]) ([]) (Expr.mk 0 0 0 (⟨#[]⟩:ByteArray) ([])) 0) (dY.mk none 0 none 0 none 0 (ce.mk none 0)) from ⟨SlC.nil,SlC.nil,SlC.nil,(show Expr.ok h (Expr.mk 0 0 0 (⟨#[]⟩:ByteArray) ([])) (ce.mk none 0) from Expr.ok.of SlC.nil)⟩))⟩
 ·refine qT 4 U (cM 1 ty68 U U U (ah call228 (yP _ _ _ hp) U (qO 2 U (ac hs2 U (fun c2 hs4=>?_) (fun c2 hs5=>?_)))))
  ·refine sr (az (em (cells:=[.string (⟨#[]⟩:ByteArray),.slice none 0 0,.slice none 0 0,.slice none 0 0,I 0,I 0,I 0,.string (⟨#[]⟩:ByteArray),.slice none 0 0,I 0]) (places:=[(0,1),(1,1),(2,1),(3,1),(4,5),(9,1)]) Fw zc68 kr kr (bC 0 ty68 U U U U U U (an ?_))))
   have hs6:dh p=((Policy.mk (⟨#[]⟩:ByteArray) ([]) ([]) ([]) (Expr.mk 0 0 0 (⟨#[]⟩:ByteArray) ([])) 0),201):=hs4
   exact fS [.agg (List.toArray [.string (⟨#[]⟩:ByteArray),.slice none 0 0,.slice none 0 0,.slice none 0 0,I 0,I 0,I 0,.string (⟨#[]⟩:ByteArray),.slice none 0 0,I 0]),I 201] Fc U ⟨⟨0,_,_,_,_,U,U,.inl ⟨ty68,U⟩⟩,U,trivial⟩ ⟨(dY.mk none 0 none 0 none 0 (ce.mk none 0)),congrArg (fun r:(Policy×Int)=>(.tuple #[.agg (Policy.cells r.1 (dY.mk none 0 none 0 none 0 (ce.mk none 0))).toArray,I r.2]:Value)) hs6.symm,(by rw [hs6];exact (show Policy.ok h (Policy.mk (⟨#[]⟩:ByteArray) ([]) ([]) ([]) (Expr.mk 0 0 0 (⟨#[]⟩:ByteArray) ([])) 0) (dY.mk none 0 none 0 none 0 (ce.mk none 0)) from ⟨SlC.nil,SlC.nil,SlC.nil,(show Expr.ok h (Expr.mk 0 0 0 (⟨#[]⟩:ByteArray) ([])) (ce.mk none 0) from Expr.ok.of SlC.nil)⟩))⟩
  ·refine qT 4 U (cM 1 ty68 U U U (ah call229 (xF _ _ _ hp) U (qO 2 U (ac hs5 U (fun c3 hs7=>?_) (fun c3 hs8=>?_)))))
   ·refine sr (az (em (cells:=[.string (⟨#[]⟩:ByteArray),.slice none 0 0,.slice none 0 0,.slice none 0 0,I 0,I 0,I 0,.string (⟨#[]⟩:ByteArray),.slice none 0 0,I 0]) (places:=[(0,1),(1,1),(2,1),(3,1),(4,5),(9,1)]) Fw zc68 kr kr (bC 0 ty68 U U U U U U (an ?_))))
    have hs9:dh p=((Policy.mk (⟨#[]⟩:ByteArray) ([]) ([]) ([]) (Expr.mk 0 0 0 (⟨#[]⟩:ByteArray) ([])) 0),200):=hs7
    exact fS [.agg (List.toArray [.string (⟨#[]⟩:ByteArray),.slice none 0 0,.slice none 0 0,.slice none 0 0,I 0,I 0,I 0,.string (⟨#[]⟩:ByteArray),.slice none 0 0,I 0]),I 200] Fc U ⟨⟨0,_,_,_,_,U,U,.inl ⟨ty68,U⟩⟩,U,trivial⟩ ⟨(dY.mk none 0 none 0 none 0 (ce.mk none 0)),congrArg (fun r:(Policy×Int)=>(.tuple #[.agg (Policy.cells r.1 (dY.mk none 0 none 0 none 0 (ce.mk none 0))).toArray,I r.2]:Value)) hs9.symm,(by rw [hs9];exact (show Policy.ok h (Policy.mk (⟨#[]⟩:ByteArray) ([]) ([]) ([]) (Expr.mk 0 0 0 (⟨#[]⟩:ByteArray) ([])) 0) (dY.mk none 0 none 0 none 0 (ce.mk none 0)) from ⟨SlC.nil,SlC.nil,SlC.nil,(show Expr.ok h (Expr.mk 0 0 0 (⟨#[]⟩:ByteArray) ([])) (ce.mk none 0) from Expr.ok.of SlC.nil)⟩))⟩
   ·refine qT 3 U (cM 1 ty68 U U U (bG zc68 (fun b3=>bC 0 ty68 U U U U U U (qL 4 [] U (dw 0 ty63 U U U U U U (qO 6 U ?_))))))
    let z4:Nat×Obj:=(b2,O [.string (⟨#[]⟩:ByteArray),.slice none 0 0,.slice none 0 0,.slice none 0 0,I 0,I 0,I 0,.string (⟨#[]⟩:ByteArray),.slice none 0 0,I 0] 68)
    let z7:Nat×Obj:=(b1,O (Policy.cells p gq) 68)
    refine lp2 p.Rules (fun i w=>[(1,Q b1),(2,Q b2),(4,Q b3),(5,I (i:Int))]) (fun w=>w.2.2.2.2) (fun w=>[(b3,O [.string p.Name,.slice gq.gJ p.Kinds.length gq.gI,.slice gq.fe p.Offices.length gq.fd,.slice w.2.1 w.1.length w.2.2.1,I p.Change.Kind,I p.Change.N,I p.Change.No,.string p.Change.Name,.slice gq.Change.iM p.Change.L.length gq.Change.iP,I p.Mode] 68),z4,z7]++(w.2.2.2.1)) (fun i w=>cJ Rule.rp 107 w.2.2.2.2 w.1 w.2.1 w.2.2.1 w.2.2.2.1∧w.1.length≤0+i∧HF.le h w.2.2.2.2) (fun s1 i w=>(dh.L1 p (dh.K1 p)) s1 i w.1) ([],none,0,[],h) hp.Rules.1.1 hs8 ⟨cJ.nil,lo,lf⟩ ?_ ?_ ?_
    ·rintro i1 ⟨j8,mS,mR,sA,hh1⟩ eR hs10 ⟨sy,zG,hl1⟩ e
     try dsimp only at sy zG hl1
     refine qK 5 [2] U (cM 2 ty66 U U U (az (cg CO (pb _ _ _ _ _ _ (hp.Offices.mono Rp.gm hl1) (hp.Change.mono hl1) ob) U (fun v3 h4 hle4 hp3=>?_))))
     obtain ⟨rr4,rfl,ok4⟩:=hp3
     let z2:Nat×Obj:=(b3,O [.string p.Name,.slice gq.gJ p.Kinds.length gq.gI,.slice gq.fe p.Offices.length gq.fd,.slice mS j8.length mR,I ((aa p.Offices p.Change).Kind),I ((aa p.Offices p.Change).N),I ((aa p.Offices p.Change).No),.string ((aa p.Offices p.Change).Name),.slice rr4.iM ((aa p.Offices p.Change).L.length) rr4.iP,I p.Mode] 68)
     let z3:Nat×Obj:=(b2,O [.string p.Name,.slice gq.gJ p.Kinds.length gq.gI,.slice gq.fe p.Offices.length gq.fd,.slice mS j8.length mR,I ((aa p.Offices p.Change).Kind),I ((aa p.Offices p.Change).N),I ((aa p.Offices p.Change).No),.string ((aa p.Offices p.Change).Name),.slice rr4.iM ((aa p.Offices p.Change).L.length) rr4.iP,I p.Mode] 68)
     refine qL 1 [] U (dw 0 ty66 U U U U U U (qO 3 U (cM 0 ty68 U U U (bC 1 ty68 U U U U U U (iw (L':=[z2,z3,z7]++(sA)) U (an (eK Rule.ak ([z2,z3,z7]) sA ([]) ap hM (sy.mono Rule.ak hle4) (fun h5 hle5 sl2=>?_))))))))
     have hs11:dh p=((Policy.mk p.Name p.Kinds p.Offices j8 (Expr.mk ((aa p.Offices p.Change).Kind) ((aa p.Offices p.Change).N) ((aa p.Offices p.Change).No) ((aa p.Offices p.Change).Name) ((aa p.Offices p.Change).L)) p.Mode),0):=hs10
     exact fS [.agg (Policy.cells (Policy.mk p.Name p.Kinds p.Offices j8 (Expr.mk ((aa p.Offices p.Change).Kind) ((aa p.Offices p.Change).N) ((aa p.Offices p.Change).No) ((aa p.Offices p.Change).Name) ((aa p.Offices p.Change).L)) p.Mode) (dY.mk gq.gJ gq.gI gq.fe gq.fd mS mR (ce.mk rr4.iM rr4.iP))).toArray,I 0] Fc U ⟨⟨1,_,_,_,_,U,U,.inl ⟨ty68,U⟩⟩,U,trivial⟩ ⟨(dY.mk gq.gJ gq.gI gq.fe gq.fd mS mR (ce.mk rr4.iM rr4.iP)),congrArg (fun r:(Policy×Int)=>(.tuple #[.agg (Policy.cells r.1 (dY.mk gq.gJ gq.gI gq.fe gq.fd mS mR (ce.mk rr4.iM rr4.iP))).toArray,I r.2]:Value)) hs11.symm,(by rw [hs11];exact (show Policy.ok h5 (Policy.mk p.Name p.Kinds p.Offices j8 (Expr.mk ((aa p.Offices p.Change).Kind) ((aa p.Offices p.Change).N) ((aa p.Offices p.Change).No) ((aa p.Offices p.Change).Name) ((aa p.Offices p.Change).L)) p.Mode) (dY.mk gq.gJ gq.gI gq.fe gq.fd mS mR (ce.mk rr4.iM rr4.iP)) from ⟨(hp.Kinds.mono Rp.gm ((hl1.t hle4).t hle5)),(hp.Offices.mono Rp.gm ((hl1.t hle4).t hle5)),sl2,(show Expr.ok h5 (Expr.mk ((aa p.Offices p.Change).Kind) ((aa p.Offices p.Change).N) ((aa p.Offices p.Change).No) ((aa p.Offices p.Change).Name) ((aa p.Offices p.Change).L)) (ce.mk rr4.iM rr4.iP) from Expr.ok.of (ok4.list.mono Expr.ak hle5))⟩))⟩
    ·rintro i1 ⟨j8,mS,mR,sA,hh1⟩ y1 rz1 hd1 cz ar dF fF hs12 ⟨sy,zG,hl1⟩ hx1 ag1 e
     try dsimp only at sy zG hl1
     have hsy:=hsm.2.1 y1 (fA hd1)
     refine qK 7 [2] U (ae (v':=.bool true) U (cb cz) (qL 9 [2] U ?_))
     let z1:Nat×Obj:=(b3,O [.string p.Name,.slice gq.gJ p.Kinds.length gq.gI,.slice gq.fe p.Offices.length gq.fd,.slice mS j8.length mR,I p.Change.Kind,I p.Change.N,I p.Change.No,.string p.Change.Name,.slice gq.Change.iM p.Change.L.length gq.Change.iP,I p.Mode] 68)
     refine aj (az (dU nO ty107 (hp.Rules.mono Rule.ak hl1).1 (nthZ ar) (au ar) U U U (fun _ _ _ e=>e) (fun q2 r2 A2 ok5=>dg ty107 A2 U U (bG zc107 (fun b6=>bC 0 ty107 U U U U U U (iw (L':=[(b6,O (Rule.cells y1 r2) 107),z1,z4,z7]++(sA)) U (qL 5 [] U (dw 0 ty3 U U U U U U (qL 6 [3] U (cM 0 ty66 U U U (az (cg CO (pb _ _ _ _ _ _ (hp.Offices.mono Rp.gm hl1) ok5.Expr ob) U (fun v4 h6 hle6 hp4=>?_)))))))))))))
     obtain ⟨rr6,rfl,ok6⟩:=hp4
     refine qL 1 [] U (dw 0 ty66 U U U U U U (qL 4 [1] U (cM 0 ty107 U U U (az (bd (cells:=[.string y1.Kind,I (i1:Int),I y1.Think,I ((aa p.Offices y1.Expr).Kind),I ((aa p.Offices y1.Expr).N),I ((aa p.Offices y1.Expr).No),.string ((aa p.Offices y1.Expr).Name),.slice rr6.iM ((aa p.Offices y1.Expr).L.length) rr6.iP]) nO ty107 zc107 U U kr (fun b7=>?_))))))
     let z5:Nat×Obj:=(b7,O [.string y1.Kind,I (i1:Int),I y1.Think,I ((aa p.Offices y1.Expr).Kind),I ((aa p.Offices y1.Expr).N),I ((aa p.Offices y1.Expr).No),.string ((aa p.Offices y1.Expr).Name),.slice rr6.iM ((aa p.Offices y1.Expr).L.length) rr6.iP] 107)
     let z6:Nat×Obj:=(b6,O [.string y1.Kind,I (i1:Int),I y1.Think,I ((aa p.Offices y1.Expr).Kind),I ((aa p.Offices y1.Expr).N),I ((aa p.Offices y1.Expr).No),.string ((aa p.Offices y1.Expr).Name),.slice rr6.iM ((aa p.Offices y1.Expr).L.length) rr6.iP] 107)
     refine az (bR Rule.ey ([z5,z6,z1,z4,z7]) ([]) (fun G=>[z5,z6,z1,z4,z7]++G) ap (fun _=>ap) nO ty107 zc107 U bytes107 (sy.mono Rule.ak hle6) U U (dr 0 U (show aT Rule.rp h6 [.string y1.Kind,I (i1:Int),I y1.Think,I ((aa p.Offices y1.Expr).Kind),I ((aa p.Offices y1.Expr).N),I ((aa p.Offices y1.Expr).No),.string ((aa p.Offices y1.Expr).Name),.slice rr6.iM ((aa p.Offices y1.Expr).L.length) rr6.iP] ([(Rule.mk y1.Kind (i1:Int) y1.Think (Expr.mk ((aa p.Offices y1.Expr).Kind) ((aa p.Offices y1.Expr).N) ((aa p.Offices y1.Expr).No) ((aa p.Offices y1.Expr).Name) ((aa p.Offices y1.Expr).L)))]) from ⟨[.string y1.Kind,I (i1:Int),I y1.Think,I ((aa p.Offices y1.Expr).Kind),I ((aa p.Offices y1.Expr).N),I ((aa p.Offices y1.Expr).No),.string ((aa p.Offices y1.Expr).Name),.slice rr6.iM ((aa p.Offices y1.Expr).L.length) rr6.iP],[],U,U,⟨(vN.mk (ce.mk rr6.iM rr6.iP)),U,(show Rule.ok h6 (Rule.mk y1.Kind (i1:Int) y1.Think (Expr.mk ((aa p.Offices y1.Expr).Kind) ((aa p.Offices y1.Expr).N) ((aa p.Offices y1.Expr).No) ((aa p.Offices y1.Expr).Name) ((aa p.Offices y1.Expr).L))) (vN.mk (ce.mk rr6.iM rr6.iP)) from ⟨(show Expr.ok h6 (Expr.mk ((aa p.Offices y1.Expr).Kind) ((aa p.Offices y1.Expr).N) ((aa p.Offices y1.Expr).No) ((aa p.Offices y1.Expr).Name) ((aa p.Offices y1.Expr).L)) (ce.mk rr6.iM rr6.iP) from Expr.ok.of ok6.list)⟩)⟩,U⟩)) lo lo (fun ob2 oc2 G2 gr2=>qL 1 [] U (dw 2 ty63 U U U U U U (qO 4 U (ae (v':=I (((i1+1):Nat):Int)) U (aL ob) (an (bY (L':=[(b3,O [.string p.Name,.slice gq.gJ p.Kinds.length gq.gI,.slice gq.fe p.Offices.length gq.fd,.slice ob2 ((j8++[(Rule.mk y1.Kind (i1:Int) y1.Think (Expr.mk ((aa p.Offices y1.Expr).Kind) ((aa p.Offices y1.Expr).N) ((aa p.Offices y1.Expr).No) ((aa p.Offices y1.Expr).Name) ((aa p.Offices y1.Expr).L)))]).length) oc2,I p.Change.Kind,I p.Change.N,I p.Change.No,.string p.Change.Name,.slice gq.Change.iM p.Change.L.length gq.Change.iP,I p.Mode] 68),z4,z7]++G2) js ?_)))))))
     exact ag1 ((j8++[(Rule.mk y1.Kind (i1:Int) y1.Think (Expr.mk ((aa p.Offices y1.Expr).Kind) ((aa p.Offices y1.Expr).N) ((aa p.Offices y1.Expr).No) ((aa p.Offices y1.Expr).Name) ((aa p.Offices y1.Expr).L)))]),ob2,oc2,G2,h6) hs12 ⟨gr2,lo,(hl1.t hle6)⟩
    ·rintro i1 ⟨j8,mS,mR,sA,hh1⟩ hd1 eM hx e
     exact qK 7 [2] U (ae (v':=.bool false) U (cb eM) (qO 3 U (hx _ rd)))
theorem oq (h:HF) (a:List ByteArray) (Kt:Option Addr) (Ks:Nat) (iv:List ByteArray) (Ad:Option Addr) (Ac:Nat) (ha:SlC Rp.str h Kt Ks a) (tz:SlC Rp.str h Ad Ac iv):Ret prog 231 [.slice Kt a.length Ks,.slice Ad iv.length Ac] h (.bool (dG a iv)):=by
 refine sT func231 U ntmps231 U fun X hM hX hF=>?_
 have hs0:dG a iv=dG a iv:=rfl
 refine qK 13 [] U (ac hs0 U (fun c1 hs1=>?_) (fun c1 hs2=>?_))
 ·exact sr (an (nretP [.bool false] (cs hs1)))
 ·refine qT 6 U ?_
  refine lp0 a (fun i=>[(0,.slice Kt a.length Ks),(1,.slice Ad iv.length Ac),(5,I (i:Int))]) ([]) (fun s1 i=>(dG.L1 iv (dG.K1)) s1 i) ha.1.1 hs2 ?_ ?_ ?_
  ·rintro i1 eR hs4 e
   exact sr (an (nretP [.bool true] (cs hs4)))
  ·rintro i1 y1 rz1 hd1 cz ar dF fF hs6 hx1 ag1 e
   refine qK 6 [] U (ae (v':=.bool true) U (cb cz) (qO 6 U (eA ([]) mixed kr jn (fun cI _=>qA [0,1] U (cC 2 (enc:=fun y=>[.string y]) cI jn ei pK ty9 ha.1 (nthZ ar) (au ar) U U U U kr (fun q3 A3=>tf 3 U U (fun _ _ hj=>eL ty9 (A3.mono hj.1) U) (qA [4,5] U ?_)))))))
   have ho2:0≤((i1:Int):Int)∧((i1:Int):Int) < ((iv).length:Int):=ob
   refine cC 6 (enc:=fun y=>[.string y]) cI jn ei pK ty9 tz.1 ho2 (bJ ho2) U U U U kr (fun q4 A4=>tf 7 U U (fun _ _ hj=>eL ty9 (A4.mono hj.1) U) (qA [8] U (aI kr (ac hs6 U (fun c3 hs7=>?_) (fun c3 hs8=>?_)))))
   ·exact sr (an (nretP [.bool false] (cs hs7)))
   ·exact aG (qT 3 U (ae (v':=I (((i1+1):Nat):Int)) U (aL ob) (an (ag1 hs8))))
  ·rintro i1 hd1 eM hx e
   exact qK 6 [] U (ae (v':=.bool false) U (cb eM) (qO 3 U (hx _ rd)))
theorem uk (rec:Expr→Expr→Bool) (h:HF) (a:Expr) (CK:ce) (iv:Expr) (m4:ce) (hrec:∀ (h:HF) (qa:Expr) (Jf:ce) (HQ:Expr) (Ch:ce) (hqa:Expr.ok h qa Jf) (K6:Expr.ok h HQ Ch) (_:qa.dep < a.dep),Ret prog 232 [.agg (Expr.cells qa Jf).toArray,.agg (Expr.cells HQ Ch).toArray] h (.bool (rec qa HQ))) (ha:Expr.ok h a CK) (tz:Expr.ok h iv m4):Ret prog 232 [.agg (Expr.cells a CK).toArray,.agg (Expr.cells iv m4).toArray] h (.bool (aU.F rec a iv)):=by
 refine sT func232 U ntmps232 U fun X hM hX hF=>?_
 have hs0:aU.F rec a iv=aU.F rec a iv:=rfl
 refine sr (cy (fun b1=>cy (fun b2=>qL 11 [1,0] U (cf 6 [11,12,13,14,15,16,17] 11 17 (a.N != iv.N) U (fun c1 hk1=>?_) (fun e=>?_)))))
 ·exact qL 6 [1,0] U (hk1 _ U)
 refine aj (cf 6 [18,19,20,21,22,23,24] 18 24 (a.No != iv.No) U (fun c2 hk2=>?_) (fun e=>?_))
 ·exact qL 6 [1,0] U (hk2 _ U)
 refine aj (cf 6 [25,26,27,28,29,30,31] 25 31 (!(a.Name.toList==iv.Name.toList)) U (fun c3 hk3=>?_) (fun e=>?_))
 ·exact qL 6 [1,0] U (hk3 _ U)
 refine aj (cf 8 [32,33,34,35,36,37,38,39,40] 32 40 ((a.L.length:Int) != (iv.L.length:Int)) U (fun c4 hk4=>?_) (fun e=>?_))
 ·exact qL 8 [1,0] U (hk4 _ U)
 refine aN (ac hs0 U (fun c5 hs1=>?_) (fun c5 hs2=>?_))
 ·exact sr (an (nretP [.bool false] (cs hs1)))
 ·refine qT 6 U ?_
  let z1:Nat×Obj:=(b2,O (Expr.cells iv m4) 66)
  let z2:Nat×Obj:=(b1,O (Expr.cells a CK) 66)
  refine lp0 a.L (fun i=>[(2,Q b1),(3,Q b2),(5,I (i:Int))]) ([z1,z2]) (fun s1 i=>(aU.L1 rec iv (aU.K1)) s1 i) ha.list.1.1 hs2 ?_ ?_ ?_
  ·rintro i1 eR hs4 e
   exact sr (an (nretP [.bool true] (cs hs4)))
  ·rintro i1 y1 rz1 hd1 cz ar dF fF hs6 hx1 ag1 e
   refine qK 7 [1] U (ae (v':=.bool true) U (cb cz) (qO 6 U (eA ([z1,z2]) mixed kr jn (fun cI _=>qB [0] U (tf 1 U U (fun _ _ hj=>fw ty64 U (hj.nth (i:=1) U) U) (tm 2 U (gA 3 cI jn jh ty66 ha.list.1 (nthZ ar) (au ar) U U U U kr (fun q3 cs3 A3 ln3 rr3=>?_))))))))
   obtain ⟨r3,rfl,ok3⟩:=rr3
   refine tf 4 U U (fun _ _ hj=>iQ ty66 (A3.mono hj.1) U U) (qB [5] U (tf 6 U U (fun _ _ hj=>fw ty64 U (hj.nth (i:=0) U) U) (tm 7 U ?_)))
   have ho2:0≤((i1:Int):Int)∧((i1:Int):Int) < ((iv.L).length:Int):=ob
   refine gA 8 cI jn jh ty66 tz.list.1 ho2 (bJ ho2) U U U U kr (fun q4 cs4 A4 ln4 rr4=>?_)
   obtain ⟨r4,rfl,ok4⟩:=rr4
   refine tf 9 U U (fun _ _ hj=>iQ ty66 (A4.mono hj.1) U U) (tn 10 U (eO call232 (hrec _ _ _ _ _ ok3 ok4 (Expr.gk (fA hd1))) U (⟨jn,qA [11] U (aI kr (ac hs6 U (fun c7 hs7=>?_) (fun c7 hs8=>?_)))⟩)))
   ·exact sr (an (nretP [.bool false] (cs hs7)))
   ·exact aG (qT 3 U (ae (v':=I (((i1+1):Nat):Int)) U (aL ob) (an (ag1 hs8))))
  ·rintro i1 hd1 eM hx e
   exact qK 7 [1] U (ae (v':=.bool false) U (cb eM) (qO 3 U (hx _ rd)))
theorem nm:∀ (m:Nat) (h:HF) (a:Expr) (CK:ce) (iv:Expr) (m4:ce) (_:a.dep≤m) (ha:Expr.ok h a CK) (tz:Expr.ok h iv m4),Ret prog 232 [.agg (Expr.cells a CK).toArray,.agg (Expr.cells iv m4).toArray] h (.bool (aU.go m a iv))
 | 0,h,a,CK,iv,m4,hd,ha,tz=>absurd hd (Nat.not_le.2 (Expr.jK _))
 | m+1,h,a,CK,iv,m4,hd,ha,tz=>uk (aU.go m) h a CK iv m4 (fun qh_ qa Jf HQ Ch qha KE qd=>nm m qh_ qa Jf HQ Ch ob qha KE) ha tz
theorem pf (h:HF) (a:Expr) (CK:ce) (iv:Expr) (m4:ce) (ha:Expr.ok h a CK) (tz:Expr.ok h iv m4):Ret prog 232 [.agg (Expr.cells a CK).toArray,.agg (Expr.cells iv m4).toArray] h (.bool (aU a iv)):=nm _ h a CK iv m4 (Nat.le_refl _) ha tz
theorem Ar (h:HF) (a:Policy) (CK:dY) (iv:Policy) (m4:dY) (ha:Policy.ok h a CK) (tz:Policy.ok h iv m4):Ret prog 190 [.agg (Policy.cells a CK).toArray,.agg (Policy.cells iv m4).toArray] h (.bool (fY a iv)):=by
 refine sT func190 U ntmps190 U fun X hM hX hF=>?_
 have hs0:fY a iv=fY a iv:=rfl
 refine sr (cy (fun b1=>cy (fun b2=>qL 11 [1,0] U (cf 6 [13,14,15,16,17,18,19] 13 19 (a.Mode != iv.Mode) U (fun c1 hk1=>?_) (fun e=>?_)))))
 ·exact qL 6 [1,0] U (hk1 _ U)
 refine aj (cf 7 [20,21,22,23,24,25,26,27] 20 27 (!(dG a.Offices iv.Offices)) U (fun c2 hk2=>?_) (fun e=>?_))
 ·exact qL 4 [1,0] U (ah call231 (oq _ _ _ _ _ _ _ ha.Offices tz.Offices) U (qO 2 U (hk2 _ U)))
 refine aj (cf 7 [28,29,30,31,32,33,34,35] 28 35 (!(dG a.Kinds iv.Kinds)) U (fun c3 hk3=>?_) (fun e=>?_))
 ·exact qL 4 [1,0] U (ah call231 (oq _ _ _ _ _ _ _ ha.Kinds tz.Kinds) U (qO 2 U (hk3 _ U)))
 refine aj (cf 8 [36,37,38,39,40,41,42,43,44] 36 44 ((a.Rules.length:Int) != (iv.Rules.length:Int)) U (fun c4 hk4=>?_) (fun e=>?_))
 ·exact qL 8 [1,0] U (hk4 _ U)
 refine aj (cf 7 [45,46,47,48,49,50,51,52] 45 52 (!(aU a.Change iv.Change)) U (fun c5 hk5=>?_) (fun e=>?_))
 ·exact qL 1 [] U (cM 1 ty66 U U U (qL 1 [] U (cM 0 ty66 U U U (ah call232 (pf _ _ _ _ _ ha.Change tz.Change) U (qO 2 U (hk5 _ U))))))
 refine aN (ac hs0 U (fun c6 hs1=>?_) (fun c6 hs2=>?_))
 ·exact sr (an (nretP [.bool false] (cs hs1)))
 ·refine qT 6 U ?_
  refine lp0 a.Rules (fun i=>[(2,Q b1),(3,Q b2),(5,I (i:Int))]) ([(b2,O (Policy.cells iv m4) 68),(b1,O (Policy.cells a CK) 68)]) (fun s1 i=>(fY.L1 iv (fY.K1)) s1 i) ha.Rules.1.1 hs2 ?_ ?_ ?_
  ·rintro i1 eR hs4 e
   exact sr (an (nretP [.bool true] (cs hs4)))
  ·rintro i1 y1 rz1 hd1 cz ar dF fF hs6 hx1 ag1 e
   refine qK 7 [1] U (ae (v':=.bool true) U (cb cz) (qL 10 [1] U (az (dU nO ty107 ha.Rules.1 (nthZ ar) (au ar) U U U (fun _ _ _ e=>e) (fun q3 r3 A3 ok3=>dg ty107 A3 U U (bG zc107 (fun b5=>bC 0 ty107 U U U U U U (qL 6 [1] U ?_))))))))
   have ho2:0≤((i1:Int):Int)∧((i1:Int):Int) < ((iv.Rules).length:Int):=ob
   refine az (dU nO ty107 tz.Rules.1 ho2 (bJ ho2) U U U (fun _ _ _ e=>e) (fun q4 r4 A4 ok4=>dg ty107 A4 U U (bG zc107 (fun b6=>bC 0 ty107 U U U U U U (qL 9 [1,0] U (cf 6 [75,76,77,78,79,80,81] 75 81 (y1.KindNo != (nthI iv.Rules (i1:Int)).KindNo) U (fun c7 hk6=>?_) (fun e=>?_)))))))
   ·exact qL 6 [1,0] U (hk6 _ U)
   refine aj (cf 6 [82,83,84,85,86,87,88] 82 88 (y1.Think != (nthI iv.Rules (i1:Int)).Think) U (fun c8 hk7=>?_) (fun e=>?_))
   ·exact qL 6 [1,0] U (hk7 _ U)
   refine aj (cf 7 [89,90,91,92,93,94,95,96] 89 96 (!(aU y1.Expr ((nthI iv.Rules (i1:Int)).Expr))) U (fun c9 hk8=>?_) (fun e=>?_))
   ·exact qL 1 [] U (cM 1 ty66 U U U (qL 1 [] U (cM 0 ty66 U U U (ah call232 (pf _ _ _ _ _ ok3.Expr ok4.Expr) U (qO 2 U (hk8 _ U))))))
   refine aN (ac hs6 U (fun c10 hs7=>?_) (fun c10 hs8=>?_))
   ·exact sr (an (nretP [.bool false] (cs hs7)))
   ·exact aG (qT 3 U (ae (v':=I (((i1+1):Nat):Int)) U (aL ob) (an (bY (L':=[(b2,O (Policy.cells iv m4) 68),(b1,O (Policy.cells a CK) 68)]) js (ag1 hs8)))))
  ·rintro i1 hd1 eM hx e
   exact qK 7 [1] U (ae (v':=.bool false) U (cb eM) (qO 3 U (hx _ rd)))
theorem ou (h:HF) (p:Policy) (gq:dY) (hp:Policy.ok h p gq) (hsm:smP p):Ret prog 116 [.agg (Policy.cells p gq).toArray] h (I (ed p)):=by
 refine sT func116 U ntmps116 U fun X hM hX hF=>?_
 have hs0:ed p=ed p:=rfl
 refine sr (cy (fun b1=>qO 4 U (cM 0 ty68 U U U (az (cg call189 (wa _ _ _ hp ob) U (fun v1 h1 hle1 hp1=>?_))))))
 obtain ⟨rr1,rfl,ok1⟩:=hp1
 refine qO 3 U (bG zc68 (fun b2=>bC 0 ty68 U U U U U U (qO 8 U (ac hs0 U (fun c1 hs1=>?_) (fun c1 hs2=>?_)))))
 ·exact sr (qO 3 U (nretP [I ((dh p).2)] (ci hs1)))
 ·refine qT 4 U (cM 0 ty68 U U U (cM 1 ty68 U U U (ah call190 (Ar _ _ _ _ _ ok1 (hp.mono hle1)) U (qO 2 U (ac hs2 U (fun c2 hs4=>?_) (fun c2 hs5=>?_))))))
  ·exact sr (an (nretP [I 200] (ci hs4)))
  ·exact aG (qT 4 U (nretP [I 0] (ci hs5)))
theorem pi (h:HF) (l:List Version) (eE:Option Addr) (eD:Nat) (hl:SlC Version.rp h eE eD l) (hsm:smV l):Ret prog 71 [.slice eE l.length eD] h (I (cw l)):=by
 refine sT func71 U ntmps71 U fun X hM hX hF=>?_
 have hs0:cw l=cw l:=rfl
 refine qK 11 [] U (ac hs0 U (fun c1 hs1=>?_) (fun c1 hs2=>?_))
 ·have c1p:=of_decide_eq_true c1
  exact sr (an (nretP [I 2] (ci hs1)))
 ·have c1p:=of_decide_eq_false c1
  refine qT 6 U ?_
  refine lp0 l (fun i=>[(0,.slice eE l.length eD),(3,I (i:Int))]) ([]) (fun s1 i=>(cw.L1 l (cw.K1)) s1 i) hl.1.1 hs2 ?_ ?_ ?_
  ·rintro i1 eR hs4 e
   exact sr (an (nretP [I 0] (ci hs4)))
  ·rintro i1 y1 rz1 hd1 cz ar dF fF hs6 hx1 ag1 e
   have hsy:=hsm.2 y1 (fA hd1)
   refine qK 6 [] U (ae (v':=.bool true) U (cb cz) (qO 9 U (az (dU kJ ty70 hl.1 (nthZ ar) (au ar) U U U (fun _ _ _ e=>e) (fun q2 r2 A2 ok2=>dg ty70 A2 U U (bG zc70 (fun b2=>bC 0 ty70 U U U U U U (qO 2 U ?_))))))))
   refine jM [(0,.slice eE l.length eD),(3,I (i1:Int)),(58,.bool (((((decide (y1.No < 0)||decide (1048576 < y1.No))||(decide (0 < (i1:Int))&&decide (y1.No≤(nthI l ((i1:Int) - 1)).No)))||(!(cn y1.At)))||(!(cn y1.Known)))||((ed y1.Policy) != 0)))] (fun e=>?_) (fun hk1=>?_)
   rotate_left
   ·let z1:Nat×Obj:=(b2,O (Version.cells y1 r2) 70)
    refine eA ([z1]) mixed kr jn (fun cI _=>?_)
    refine qB [0] U (tf 1 U U (fun _ _ hj=>fw ty3 U (hj.nth (i:=0) U) U) (qA [2,3] U ?_))
    refine ct 21 U (fun c2=>?_) (fun c2=>?_)
    ·have c2p:=of_decide_eq_true c2
     exact tk 4 U U (qR 5 36 U (aI kr (hk1 _ ⟨U,U,(cb (show true=(((((decide (y1.No < 0)||decide (1048576 < y1.No))||(decide (0 < (i1:Int))&&decide (y1.No≤(nthI l ((i1:Int) - 1)).No)))||(!(cn y1.At)))||(!(cn y1.Known)))||((ed y1.Policy) != 0)) from by rw [c2] <;> rfl)),trivial⟩)))
    ·have c2p:=of_decide_eq_false c2
     refine qB [4] U (tf 5 U U (fun _ _ hj=>fw ty3 U (hj.nth (i:=0) U) U) (qR 6 3 U ?_))
     refine ct 26 U (fun c3=>?_) (fun c3=>?_)
     ·have c3p:=of_decide_eq_true c3
      exact tk 9 U U (qR 10 31 U (aI kr (hk1 _ ⟨U,U,(cb (show true=(((((decide (y1.No < 0)||decide (1048576 < y1.No))||(decide (0 < (i1:Int))&&decide (y1.No≤(nthI l ((i1:Int) - 1)).No)))||(!(cn y1.At)))||(!(cn y1.Known)))||((ed y1.Policy) != 0)) from by rw [c2,c3] <;> rfl)),trivial⟩)))
     ·have c3p:=of_decide_eq_false c3
      refine qR 9 3 U ?_
      refine ct 29 U (fun c4=>?_) (fun c4=>?_)
      ·have c4p:=of_decide_eq_true c4
       refine qA [12,13] U (tf 14 U U (fun _ _ _=>kS (v':=I ((i1:Int) - 1)) U (gz ob)) ?_)
       have ho1:0≤(((i1:Int) - 1):Int)∧(((i1:Int) - 1):Int) < ((l).length:Int):=ob
       refine gA 15 cI jn kJ ty70 hl.1 ho1 (bJ ho1) U U U U kr (fun q3 cs3 A3 ln3 rr3=>?_)
       obtain ⟨r3,rfl,ok3⟩:=rr3
       refine qB [16] U (tf 17 U U (fun _ _ hj=>eL ty3 (A3.mono hj.1) U) (qB [18] U (tf 19 U U (fun _ _ hj=>fw ty3 U (hj.nth (i:=0) U) U) (qR 20 4 U ?_))))
       refine ct 41 U (fun c5=>?_) (fun c5=>?_)
       ·have c5p:=of_decide_eq_true c5
        exact tk 24 U U (qR 25 16 U (aI kr (hk1 _ ⟨U,U,(cb (show true=(((((decide (y1.No < 0)||decide (1048576 < y1.No))||(decide (0 < (i1:Int))&&decide (y1.No≤(nthI l ((i1:Int) - 1)).No)))||(!(cn y1.At)))||(!(cn y1.Known)))||((ed y1.Policy) != 0)) from by rw [c2,c3,c4,c5] <;> rfl)),trivial⟩)))
       ·have c5p:=of_decide_eq_false c5
        refine qB [24] U (tf 25 U U (fun _ _ hj=>fw ty3 U (hj.nth (i:=0) U) U) (tn 26 U (eO wO (i6 h y1.At) U (⟨jn,(qR 27 3 U ?_)⟩))))
        refine ct 47 U (fun c6=>?_) (fun c6=>?_)
        ·exact tk 30 U U (qR 31 10 U (aI kr (hk1 _ ⟨U,U,(cb (show true=(((((decide (y1.No < 0)||decide (1048576 < y1.No))||(decide (0 < (i1:Int))&&decide (y1.No≤(nthI l ((i1:Int) - 1)).No)))||(!(cn y1.At)))||(!(cn y1.Known)))||((ed y1.Policy) != 0)) from by rw [c2,c3,c4,c5,c6] <;> rfl)),trivial⟩)))
        ·refine qB [30] U (tf 31 U U (fun _ _ hj=>fw ty3 U (hj.nth (i:=0) U) U) (tn 32 U (eO wO (i6 h y1.Known) U (⟨jn,(qR 33 3 U ?_)⟩))))
         refine ct 53 U (fun c7=>?_) (fun c7=>?_)
         ·exact tk 36 U U (qR 37 4 U (aI kr (hk1 _ ⟨U,U,(cb (show true=(((((decide (y1.No < 0)||decide (1048576 < y1.No))||(decide (0 < (i1:Int))&&decide (y1.No≤(nthI l ((i1:Int) - 1)).No)))||(!(cn y1.At)))||(!(cn y1.Known)))||((ed y1.Policy) != 0)) from by rw [c2,c3,c4,c5,c6,c7] <;> rfl)),trivial⟩)))
         ·exact tf 36 U U (fun _ _ _=>nn F4 U) (tf 37 U U (fun _ _ hj=>jA ty68 U (hj.nth (i:=0) U) U) (tn 38 U (eO call116 (ou _ _ _ ok2.Policy ob) U (⟨jn,(qA [39,40] U (aI kr (hk1 _ ⟨U,U,(cb (show ((ed y1.Policy) != 0)=(((((decide (y1.No < 0)||decide (1048576 < y1.No))||(decide (0 < (i1:Int))&&decide (y1.No≤(nthI l ((i1:Int) - 1)).No)))||(!(cn y1.At)))||(!(cn y1.Known)))||((ed y1.Policy) != 0)) from by rw [c2,c3,c4,c5,c6,c7] <;> rfl)),trivial⟩)))⟩))))
      ·have c4p:=of_decide_eq_false c4
       refine qD 12 13 U (tf 25 U U (fun _ _ hj=>fw ty3 U (hj.nth (i:=0) U) U) (tn 26 U (eO wO (i6 h y1.At) U (⟨jn,qR 27 3 U ?_⟩))))
       refine ct 47 U (fun c8=>?_) (fun c8=>?_)
       ·exact tk 30 U U (qR 31 10 U (aI kr (hk1 _ ⟨U,U,(cb (show true=(((((decide (y1.No < 0)||decide (1048576 < y1.No))||(decide (0 < (i1:Int))&&decide (y1.No≤(nthI l ((i1:Int) - 1)).No)))||(!(cn y1.At)))||(!(cn y1.Known)))||((ed y1.Policy) != 0)) from by rw [c2,c3,c4,c8] <;> rfl)),trivial⟩)))
       ·refine qB [30] U (tf 31 U U (fun _ _ hj=>fw ty3 U (hj.nth (i:=0) U) U) (tn 32 U (eO wO (i6 h y1.Known) U (⟨jn,(qR 33 3 U ?_)⟩))))
        refine ct 53 U (fun c9=>?_) (fun c9=>?_)
        ·exact tk 36 U U (qR 37 4 U (aI kr (hk1 _ ⟨U,U,(cb (show true=(((((decide (y1.No < 0)||decide (1048576 < y1.No))||(decide (0 < (i1:Int))&&decide (y1.No≤(nthI l ((i1:Int) - 1)).No)))||(!(cn y1.At)))||(!(cn y1.Known)))||((ed y1.Policy) != 0)) from by rw [c2,c3,c4,c8,c9] <;> rfl)),trivial⟩)))
        ·exact tf 36 U U (fun _ _ _=>nn F4 U) (tf 37 U U (fun _ _ hj=>jA ty68 U (hj.nth (i:=0) U) U) (tn 38 U (eO call116 (ou _ _ _ ok2.Policy ob) U (⟨jn,(qA [39,40] U (aI kr (hk1 _ ⟨U,U,(cb (show ((ed y1.Policy) != 0)=(((((decide (y1.No < 0)||decide (1048576 < y1.No))||(decide (0 < (i1:Int))&&decide (y1.No≤(nthI l ((i1:Int) - 1)).No)))||(!(cn y1.At)))||(!(cn y1.Known)))||((ed y1.Policy) != 0)) from by rw [c2,c3,c4,c8,c9] <;> rfl)),trivial⟩)))⟩))))
   refine ac hs6 U (fun c10 hs7=>?_) (fun c10 hs8=>?_)
   ·exact sr (an (nretP [I 200] (ci hs7)))
   ·exact aG (qT 3 U (ae (v':=I (((i1+1):Nat):Int)) U (aL ob) (an (bY (L':=[]) js (ag1 hs8)))))
  ·rintro i1 hd1 eM hx e
   exact qK 6 [] U (ae (v':=.bool false) U (cb eM) (qO 3 U (hx _ rd)))
theorem As (h:HF) (t:Int)  : Ret prog 191 [I t] h (.bool (mn t)):=by
 refine sT func191 U ntmps191 U fun X hM hX hF=>?_
 have hs0:mn t=mn t:=rfl
 refine qT 9 U (bz 3 [5,6,7,8] 5 8 (decide (t < 1099511627776)) U (fun c1 hk1=>?_) (fun e=>?_))
 ·exact aj (qO 2 U (hk1 _ U))
 exact an (nretP [.bool (decide (0≤t)&&decide (t < 1099511627776))] (cs hs0))
theorem pE (h:HF) (l:List Int) (eE:Option Addr) (eD:Nat) (limit:Int) (hl:SlC Rp.int h eE eD l):Ret prog 192 [.slice eE l.length eD,I limit] h (.bool (dS l limit)):=by
 refine sT func192 U ntmps192 U fun X hM hX hF=>?_
 have hs0:dS l limit=dS l limit:=rfl
 refine qT 9 U ?_
 refine lp0 l (fun i=>[(0,.slice eE l.length eD),(1,I limit),(5,I (i:Int))]) ([]) (fun s1 i=>(dS.L1 l limit (dS.K1 l)) s1 i) hl.1.1 hs0 ?_ ?_ ?_
 ·rintro i1 eR hs1 e
  exact qK 7 [] U (nretP [.bool (decide ((l.length:Int)≤16))] (cs hs1))
 ·rintro i1 y1 rz1 hd1 cz ar dF fF hs3 hx1 ag1 e
  refine qK 6 [] U (ae (v':=.bool true) U (cb cz) (qO 6 U ?_))
  refine jM [(0,.slice eE l.length eD),(1,I limit),(5,I (i1:Int)),(40,.bool ((decide (y1 < 0)||decide (limit≤y1))||(decide (0 < (i1:Int))&&decide (y1≤(nthI l ((i1:Int) - 1))))))] (fun e=>?_) (fun hk1=>?_)
  rotate_left
  ·refine eA ([]) mixed kr jn (fun cI _=>?_)
   refine qA [0,1] U (cC 2 (enc:=fun y=>[I y]) cI jn ei cR ty3 hl.1 (nthZ ar) (au ar) U U U U kr (fun q3 A3=>tf 3 U U (fun _ _ hj=>eL ty3 (A3.mono hj.1) U) (qA [4,5] U ?_)))
   refine ct 17 U (fun c1=>?_) (fun c1=>?_)
   ·have c1p:=of_decide_eq_true c1
    exact tk 6 U U (qR 7 22 U (aI kr (hk1 _ ⟨U,U,U,(cb (show true=((decide (y1 < 0)||decide (limit≤y1))||(decide (0 < (i1:Int))&&decide (y1≤(nthI l ((i1:Int) - 1))))) from by rw [c1] <;> rfl)),trivial⟩)))
   ·have c1p:=of_decide_eq_false c1
    refine qA [6,7] U (cC 8 (enc:=fun y=>[I y]) cI jn ei cR ty3 hl.1 (nthZ ar) (au ar) U U U U kr (fun q4 A4=>tf 9 U U (fun _ _ hj=>eL ty3 (A4.mono hj.1) U) (qR 10 4 U ?_)))
    refine ct 25 U (fun c2=>?_) (fun c2=>?_)
    ·have c2p:=of_decide_eq_true c2
     exact tk 14 U U (qR 15 14 U (aI kr (hk1 _ ⟨U,U,U,(cb (show true=((decide (y1 < 0)||decide (limit≤y1))||(decide (0 < (i1:Int))&&decide (y1≤(nthI l ((i1:Int) - 1))))) from by rw [c1,c2] <;> rfl)),trivial⟩)))
    ·have c2p:=of_decide_eq_false c2
     refine qR 14 3 U ?_
     refine ct 28 U (fun c3=>?_) (fun c3=>?_)
     ·have c3p:=of_decide_eq_true c3
      refine qA [17,18] U (cC 19 (enc:=fun y=>[I y]) cI jn ei cR ty3 hl.1 (nthZ ar) (au ar) U U U U kr (fun q5 A5=>tf 20 U U (fun _ _ hj=>eL ty3 (A5.mono hj.1) U) (qA [21,22] U (tf 23 U U (fun _ _ _=>kS (v':=I ((i1:Int) - 1)) U (gz ob)) ?_))))
      have ho1:0≤(((i1:Int) - 1):Int)∧(((i1:Int) - 1):Int) < ((l).length:Int):=ob
      exact cC 24 (enc:=fun y=>[I y]) cI jn ei cR ty3 hl.1 ho1 (bJ ho1) U U U U kr (fun q6 A6=>tf 25 U U (fun _ _ hj=>eL ty3 (A6.mono hj.1) U) (qR 26 3 U (aI kr (hk1 _ ⟨U,U,U,(cb (show decide (y1≤(nthI l ((i1:Int) - 1)))=((decide (y1 < 0)||decide (limit≤y1))||(decide (0 < (i1:Int))&&decide (y1≤(nthI l ((i1:Int) - 1))))) from by rw [c1,c2,c3] <;> rfl)),trivial⟩))))
     ·have c3p:=of_decide_eq_false c3
      exact tk 17 U U (qR 18 11 U (aI kr (hk1 _ ⟨U,U,U,(cb (show false=((decide (y1 < 0)||decide (limit≤y1))||(decide (0 < (i1:Int))&&decide (y1≤(nthI l ((i1:Int) - 1))))) from by rw [c1,c2,c3] <;> rfl)),trivial⟩)))
  refine ac hs3 U (fun c4 hs4=>?_) (fun c4 hs5=>?_)
  ·exact sr (an (nretP [.bool false] (cs hs4)))
  ·exact aG (qT 3 U (ae (v':=I (((i1+1):Nat):Int)) U (aL ob) (an (ag1 hs5))))
 ·rintro i1 hd1 eM hx e
  exact qK 6 [] U (ae (v':=.bool false) U (cb eM) (qO 3 U (hx _ rd)))
theorem yU (h:HF) (d:Document) (vP:gG) (hd:Document.ok h d vP):Ret prog 117 [.agg (Document.cells d vP).toArray] h (.bool (gL d)):=by
 refine sT func117 U ntmps117 U fun X hM hX hF=>?_
 have hs0:gL d=gL d:=rfl
 refine sr (cy (fun b1=>qL 9 [0] U (cf 4 [6,7,8,9,10] 6 10 (decide (4096≤d.No)) U (fun c1 hk1=>?_) (fun e=>?_))))
 ·exact qL 4 [0] U (hk1 _ U)
 refine aj (cf 5 [11,12,13,14,15,16] 11 16 (!(mn d.At)) U (fun c2 hk2=>?_) (fun e=>?_))
 ·exact qL 2 [0] U (ah call191 (As h d.At) U (qO 2 U (hk2 _ U)))
 refine aj (cf 4 [17,18,19,20,21] 17 21 (decide (d.Kind < 0)) U (fun c3 hk3=>?_) (fun e=>?_))
 ·exact qL 4 [0] U (hk3 _ U)
 refine aj (cf 4 [22,23,24,25,26] 22 26 (decide (16≤d.Kind)) U (fun c4 hk4=>?_) (fun e=>?_))
 ·exact qL 4 [0] U (hk4 _ U)
 refine aj (cf 4 [27,28,29,30,31] 27 31 (decide (d.Value < 0)) U (fun c5 hk5=>?_) (fun e=>?_))
 ·exact qL 4 [0] U (hk5 _ U)
 refine aj (cf 4 [32,33,34,35,36] 32 36 (decide (1099511627776 < d.Value)) U (fun c6 hk6=>?_) (fun e=>?_))
 ·exact qL 4 [0] U (hk6 _ U)
 refine aN (ac hs0 U (fun c7 hs1=>?_) (fun c7 hs2=>?_))
 ·exact sr (an (nretP [.bool false] (cs hs1)))
 ·refine qK 7 [0] U (bz 6 [40,41,42,43,44,45,46] 40 46 (decide (d.From < d.Until)) U (fun c8 hk7=>?_) (fun e=>?_))
  ·exact qL 6 [0,0] U (hk7 _ U)
  refine aj (bz 4 [47,48,49,50,51] 47 51 (decide (d.Until≤1099511627776)) U (fun c9 hk8=>?_) (fun e=>?_))
  ·exact qL 4 [0] U (hk8 _ U)
  refine aj (bz 4 [52,53,54,55,56] 52 56 (dS d.Parties 1048577) U (fun c10 hk9=>?_) (fun e=>?_))
  ·exact qL 2 [0] U (ah call192 (pE _ _ _ _ 1048577 hd.Parties) U (ew U (hk9 _ U)))
  refine aj (bz 6 [57,58,59,60,61,62,63] 57 63 (dS d.Revokes d.No) U (fun c11 hk10=>?_) (fun e=>?_))
  ·exact qL 4 [0,0] U (ah call192 (pE _ _ _ _ d.No hd.Revokes) U (ew U (hk10 _ U)))
  refine aj (bz 6 [64,65,66,67,68,69,70] 64 70 (dS d.Needs d.No) U (fun c12 hk11=>?_) (fun e=>?_))
  ·exact qL 4 [0,0] U (ah call192 (pE _ _ _ _ d.No hd.Needs) U (ew U (hk11 _ U)))
  exact an (nretP [.bool (((((decide (0≤d.From)&&decide (d.From < d.Until))&&decide (d.Until≤1099511627776))&&(dS d.Parties 1048577))&&(dS d.Revokes d.No))&&(dS d.Needs d.No))] (cs hs2))
theorem Au (h:HF) (l:List Document) (eE:Option Addr) (eD:Nat) (no:Int) (hl:SlC Document.rp h eE eD l):Ret prog 193 [.slice eE l.length eD,I no] h (I (fD l no)):=by
 refine sT func193 U ntmps193 U fun X hM hX hF=>?_
 have hs0:fD l no=fD l no:=rfl
 refine qT 9 U ?_
 refine lp0 l (fun i=>[(0,.slice eE l.length eD),(1,I no),(5,I (i:Int))]) ([]) (fun s1 i=>(fD.L1 no (fD.K1)) s1 i) hl.1.1 hs0 ?_ ?_ ?_
 ·rintro i1 eR hs1 e
  exact sr (an (nretP [I (-1)] (ci hs1)))
 ·rintro i1 y1 rz1 hd1 cz ar dF fF hs3 hx1 ag1 e
  refine qK 6 [] U (ae (v':=.bool true) U (cb cz) (qO 9 U (az (dU pz ty52 hl.1 (nthZ ar) (au ar) U U U (fun _ _ _ e=>e) (fun q2 r2 A2 ok2=>qL 1 [] U (cL ty3 A2 U (qO 3 U (ac hs3 U (fun c2 hs4=>?_) (fun c2 hs5=>?_)))))))))
  ·exact sr (qO 3 U (nretP [I (i1:Int)] (ci hs4)))
  ·exact aG (qT 3 U (ae (v':=I (((i1+1):Nat):Int)) U (aL ob) (an (ag1 hs5))))
 ·rintro i1 hd1 eM hx e
  exact qK 6 [] U (ae (v':=.bool false) U (cb eM) (qO 3 U (hx _ rd)))
theorem mM (h:HF) (l:List Document) (eE:Option Addr) (eD:Nat) (nos:List Int) (HZ:Option Addr) (HY:Nat) (hl:SlC Document.rp h eE eD l) (hnos:SlC Rp.int h HZ HY nos):Ret prog 118 [.slice eE l.length eD,.slice HZ nos.length HY] h (.bool (cE l nos)):=by
 refine sT func118 U ntmps118 U fun X hM hX hF=>?_
 have hs0:cE l nos=cE l nos:=rfl
 refine qT 9 U ?_
 refine lp0 nos (fun i=>[(0,.slice eE l.length eD),(1,.slice HZ nos.length HY),(5,I (i:Int))]) ([]) (fun s1 i=>(cE.L1 l (cE.K1)) s1) hnos.1.1 hs0 ?_ ?_ ?_
 ·rintro i1 eR hs1 e
  exact sr (an (nretP [.bool true] (cs hs1)))
 ·rintro i1 y1 rz1 hd1 cz ar dF fF hs3 hx1 ag1 e
  refine qK 6 [] U (ae (v':=.bool true) U (cb cz) (qO 10 U (az (ef (enc:=fun y=>[I y]) ei cR ty3 hnos.1 (nthZ ar) (au ar) U U U (fun q2 A2=>cL ty3 A2 U (ah call193 (Au _ _ _ _ y1 hl) U (qO 2 U (ac hs3 U (fun c2 hs4=>?_) (fun c2 hs5=>?_)))))))))
  ·have c2p:=of_decide_eq_true c2
   exact sr (an (nretP [.bool false] (cs hs4)))
  ·have c2p:=of_decide_eq_false c2
   exact aG (qT 3 U (ae (v':=I (((i1+1):Nat):Int)) U (aL ob) (an (ag1 hs5))))
 ·rintro i1 hd1 eM hx e
  exact qK 6 [] U (ae (v':=.bool false) U (cb eM) (qO 3 U (hx _ rd)))
theorem yV (h:HF) (l:List Document) (eE:Option Addr) (eD:Nat) (hl:SlC Document.rp h eE eD l):Ret prog 72 [.slice eE l.length eD] h (I (eZ l)):=by
 refine sT func72 U ntmps72 U fun X hM hX hF=>?_
 have hs0:eZ l=eZ l:=rfl
 refine qK 11 [] U (ac hs0 U (fun c1 hs1=>?_) (fun c1 hs2=>?_))
 ·have c1p:=of_decide_eq_true c1
  exact sr (an (nretP [I 2] (ci hs1)))
 ·have c1p:=of_decide_eq_false c1
  refine qT 6 U ?_
  refine lp0 l (fun i=>[(0,.slice eE l.length eD),(3,I (i:Int))]) ([]) (fun s1 i=>(eZ.L1 l (eZ.K1)) s1 i) hl.1.1 hs2 ?_ ?_ ?_
  ·rintro i1 eR hs4 e
   exact sr (an (nretP [I 0] (ci hs4)))
  ·rintro i1 y1 rz1 hd1 cz ar dF fF hs6 hx1 ag1 e
   refine qK 6 [] U (ae (v':=.bool true) U (cb cz) (qO 6 U ?_))
   refine jM [(0,.slice eE l.length eD),(3,I (i1:Int)),(56,.bool ((((!(gL y1))||(decide (0 < (i1:Int))&&decide (y1.No≤(nthI l ((i1:Int) - 1)).No)))||(!(cE l y1.Revokes)))||(!(cE l y1.Needs))))] (fun e=>?_) (fun hk1=>?_)
   rotate_left
   ·refine eA ([]) mixed kr jn (fun cI _=>?_)
    refine qA [0,1] U (gA 2 cI jn pz ty52 hl.1 (nthZ ar) (au ar) U U U U kr (fun q4 cs4 A4 ln4 rr4=>?_))
    obtain ⟨r4,rfl,ok4⟩:=rr4
    refine tf 3 U U (fun _ _ hj=>iQ ty52 (A4.mono hj.1) U U) (tn 4 U (eO call117 (yU _ _ _ ok4) U (⟨jn,qA [5,6] U ?_⟩)))
    refine ct 19 U (fun c2=>?_) (fun c2=>?_)
    ·exact tk 7 U U (qR 8 36 U (aI kr (hk1 _ ⟨U,U,(cb (show true=((((!(gL y1))||(decide (0 < (i1:Int))&&decide (y1.No≤(nthI l ((i1:Int) - 1)).No)))||(!(cE l y1.Revokes)))||(!(cE l y1.Needs))) from by rw [c2] <;> rfl)),trivial⟩)))
    ·refine qR 7 3 U ?_
     refine ct 22 U (fun c3=>?_) (fun c3=>?_)
     ·have c3p:=of_decide_eq_true c3
      refine qA [10,11] U (gA 12 cI jn pz ty52 hl.1 (nthZ ar) (au ar) U U U U kr (fun q5 cs5 A5 ln5 rr5=>?_))
      obtain ⟨r5,rfl,ok5⟩:=rr5
      refine qB [13] U (tf 14 U U (fun _ _ hj=>eL ty3 (A5.mono hj.1) U) (qA [15,16] U (tf 17 U U (fun _ _ _=>kS (v':=I ((i1:Int) - 1)) U (gz ob)) ?_)))
      have ho2:0≤(((i1:Int) - 1):Int)∧(((i1:Int) - 1):Int) < ((l).length:Int):=ob
      refine gA 18 cI jn pz ty52 hl.1 ho2 (bJ ho2) U U U U kr (fun q6 cs6 A6 ln6 rr6=>?_)
      obtain ⟨r6,rfl,ok6⟩:=rr6
      refine qB [19] U (tf 20 U U (fun _ _ hj=>eL ty3 (A6.mono hj.1) U) (qR 21 4 U ?_))
      refine ct 37 U (fun c4=>?_) (fun c4=>?_)
      ·have c4p:=of_decide_eq_true c4
       exact tk 25 U U (qR 26 18 U (aI kr (hk1 _ ⟨U,U,(cb (show true=((((!(gL y1))||(decide (0 < (i1:Int))&&decide (y1.No≤(nthI l ((i1:Int) - 1)).No)))||(!(cE l y1.Revokes)))||(!(cE l y1.Needs))) from by rw [c2,c3,c4] <;> rfl)),trivial⟩)))
      ·have c4p:=of_decide_eq_false c4
       refine qR 25 3 U (gA 28 cI jn pz ty52 hl.1 (nthZ ar) (au ar) U U U U kr (fun q7 cs7 A7 ln7 rr7=>?_))
       obtain ⟨r7,rfl,ok7⟩:=rr7
       refine qB [29] U (tf 30 U U (fun _ _ hj=>j4 7 ty31 (A7.mono hj.1) U U) (tn 31 U (eO GT (mM _ _ _ _ _ _ _ hl ok7.Revokes) U (⟨jn,(qR 32 3 U ?_)⟩))))
       refine ct 47 U (fun c5=>?_) (fun c5=>?_)
       ·exact tk 35 U U (qR 36 8 U (aI kr (hk1 _ ⟨U,U,(cb (show true=((((!(gL y1))||(decide (0 < (i1:Int))&&decide (y1.No≤(nthI l ((i1:Int) - 1)).No)))||(!(cE l y1.Revokes)))||(!(cE l y1.Needs))) from by rw [c2,c3,c4,c5] <;> rfl)),trivial⟩)))
       ·refine qR 35 3 U (gA 38 cI jn pz ty52 hl.1 (nthZ ar) (au ar) U U U U kr (fun q8 cs8 A8 ln8 rr8=>?_))
        obtain ⟨r8,rfl,ok8⟩:=rr8
        exact tf 39 U U (fun _ _ _=>nn F6 U) (tf 40 U U (fun _ _ hj=>j4 8 ty31 (A8.mono hj.1) U U) (tn 41 U (eO GT (mM _ _ _ _ _ _ _ hl ok8.Needs) U (⟨jn,(qA [42,43] U (aI kr (hk1 _ ⟨U,U,(cb (show (!(cE l y1.Needs))=((((!(gL y1))||(decide (0 < (i1:Int))&&decide (y1.No≤(nthI l ((i1:Int) - 1)).No)))||(!(cE l y1.Revokes)))||(!(cE l y1.Needs))) from by rw [c2,c3,c4,c5] <;> rfl)),trivial⟩)))⟩))))
     ·have c3p:=of_decide_eq_false c3
      refine qR 10 18 U (gA 28 cI jn pz ty52 hl.1 (nthZ ar) (au ar) U U U U kr (fun q9 cs9 A9 ln9 rr9=>?_))
      obtain ⟨r9,rfl,ok9⟩:=rr9
      refine qB [29] U (tf 30 U U (fun _ _ hj=>j4 7 ty31 (A9.mono hj.1) U U) (tn 31 U (eO GT (mM _ _ _ _ _ _ _ hl ok9.Revokes) U (⟨jn,(qR 32 3 U ?_)⟩))))
      refine ct 47 U (fun c6=>?_) (fun c6=>?_)
      ·exact tk 35 U U (qR 36 8 U (aI kr (hk1 _ ⟨U,U,(cb (show true=((((!(gL y1))||(decide (0 < (i1:Int))&&decide (y1.No≤(nthI l ((i1:Int) - 1)).No)))||(!(cE l y1.Revokes)))||(!(cE l y1.Needs))) from by rw [c2,c3,c6] <;> rfl)),trivial⟩)))
      ·refine qR 35 3 U (gA 38 cI jn pz ty52 hl.1 (nthZ ar) (au ar) U U U U kr (fun q10 cs10 A10 ln10 rr10=>?_))
       obtain ⟨r10,rfl,ok10⟩:=rr10
       exact tf 39 U U (fun _ _ _=>nn F6 U) (tf 40 U U (fun _ _ hj=>j4 8 ty31 (A10.mono hj.1) U U) (tn 41 U (eO GT (mM _ _ _ _ _ _ _ hl ok10.Needs) U (⟨jn,(qA [42,43] U (aI kr (hk1 _ ⟨U,U,(cb (show (!(cE l y1.Needs))=((((!(gL y1))||(decide (0 < (i1:Int))&&decide (y1.No≤(nthI l ((i1:Int) - 1)).No)))||(!(cE l y1.Revokes)))||(!(cE l y1.Needs))) from by rw [c2,c3,c6] <;> rfl)),trivial⟩)))⟩))))
   refine ac hs6 U (fun c7 hs7=>?_) (fun c7 hs8=>?_)
   ·exact sr (an (nretP [I 170] (ci hs7)))
   ·exact aG (qT 3 U (ae (v':=I (((i1+1):Nat):Int)) U (aL ob) (an (ag1 hs8))))
  ·rintro i1 hd1 eM hx e
   exact qK 6 [] U (ae (v':=.bool false) U (cb eM) (qO 3 U (hx _ rd)))
theorem jO (h:HF) (dK:Int) (most:Int)  : Ret prog 194 [I dK,I most] h (.bool (fx dK most)):=by
 refine sT func194 U ntmps194 U fun X hM hX hF=>?_
 have hs0:fx dK most=fx dK most:=rfl
 refine qT 9 U (bz 4 [7,8,9,10,11] 7 11 (decide (dK≤most)) U (fun c1 hk1=>?_) (fun e=>?_))
 ·exact aj (qO 3 U (hk1 _ U))
 exact an (nretP [.bool (decide (0≤dK)&&decide (dK≤most))] (cs hs0))
theorem tI (h:HF) (dK:Int)  : Ret prog 195 [I dK] h (.bool (lk dK)):=by
 refine sT func195 U ntmps195 U fun X hM hX hF=>?_
 have hs0:lk dK=lk dK:=rfl
 exact sr (qO 5 U (ah CN (jO h dK 1099511627775) U (an (nretP [.bool (fx dK 1099511627775)] (cs hs0)))))
theorem B7 (h:HF) (dK:Int)  : Ret prog 196 [I dK] h (.bool (n0 dK)):=by
 refine sT func196 U ntmps196 U fun X hM hX hF=>?_
 have hs0:n0 dK=n0 dK:=rfl
 exact sr (qO 5 U (ah CN (jO h dK 4095) U (an (nretP [.bool (fx dK 4095)] (cs hs0)))))
theorem yM (h:HF) (x:Approval)  : Ret prog 119 [.agg (Approval.cells x).toArray] h (.bool (ij x)):=by
 refine sT func119 U ntmps119 U fun X hM hX hF=>?_
 have hs0:ij x=ij x:=rfl
 refine sr (cy (fun b1=>qL 7 [0] U (ah CN (jO h x.No 1048576) U (qO 2 U (cf 5 [7,8,9,10,11,12] 7 12 (!(lk x.At)) U (fun c1 hk1=>?_) (fun e=>?_))))))
 ·exact qL 2 [0] U (ah call195 (tI h x.At) U (qO 2 U (hk1 _ U)))
 refine aj (cf 5 [13,14,15,16,17,18] 13 18 (!(lk x.Known)) U (fun c2 hk2=>?_) (fun e=>?_))
 ·exact qL 2 [0] U (ah call195 (tI h x.Known) U (qO 2 U (hk2 _ U)))
 refine aj (cf 5 [19,20,21,22,23,24] 19 24 (!(n0 x.Doc)) U (fun c3 hk3=>?_) (fun e=>?_))
 ·exact qL 2 [0] U (ah call196 (B7 h x.Doc) U (qO 2 U (hk3 _ U)))
 refine aN (ac hs0 U (fun c4 hs1=>?_) (fun c4 hs2=>?_))
 ·exact sr (an (nretP [.bool false] (cs hs1)))
 ·refine qK 5 [0] U (ah CN (jO h x.By 63) U (aj (bz 4 [28,29,30,31,32] 28 32 (fx x.For 63) U (fun c5 hk4=>?_) (fun e=>?_))))
  ·exact qL 2 [0] U (ah CN (jO h x.For 63) U (ew U (hk4 _ U)))
  refine aj (bz 4 [33,34,35,36,37] 33 37 (fx x.Office 31) U (fun c6 hk5=>?_) (fun e=>?_))
  ·exact qL 2 [0] U (ah CN (jO h x.Office 31) U (ew U (hk5 _ U)))
  exact an (nretP [.bool (((fx x.By 63)&&(fx x.For 63))&&(fx x.Office 31))] (cs hs2))
theorem yN (h:HF) (l:List Approval) (eE:Option Addr) (eD:Nat) (hl:SlC Approval.rp h eE eD l):Ret prog 73 [.slice eE l.length eD] h (I (fP l)):=by
 refine sT func73 U ntmps73 U fun X hM hX hF=>?_
 have hs0:fP l=fP l:=rfl
 refine qK 11 [] U (ac hs0 U (fun c1 hs1=>?_) (fun c1 hs2=>?_))
 ·have c1p:=of_decide_eq_true c1
  exact sr (an (nretP [I 2] (ci hs1)))
 ·have c1p:=of_decide_eq_false c1
  refine qT 6 U ?_
  refine lp0 l (fun i=>[(0,.slice eE l.length eD),(3,I (i:Int))]) ([]) (fun s1 i=>(fP.L1 l (fP.K1)) s1 i) hl.1.1 hs2 ?_ ?_ ?_
  ·rintro i1 eR hs4 e
   exact sr (an (nretP [I 0] (ci hs4)))
  ·rintro i1 y1 rz1 hd1 cz ar dF fF hs6 hx1 ag1 e
   refine qK 6 [] U (ae (v':=.bool true) U (cb cz) (qO 6 U ?_))
   refine jM [(0,.slice eE l.length eD),(3,I (i1:Int)),(36,.bool ((!(ij y1))||(decide (0 < (i1:Int))&&decide (y1.No≤(nthI l ((i1:Int) - 1)).No))))] (fun e=>?_) (fun hk1=>?_)
   rotate_left
   ·refine eA ([]) mixed kr jn (fun cI _=>?_)
    refine qA [0,1] U (cC 2 (enc:=Approval.cells) cI jn ei Ft ty181 hl.1 (nthZ ar) (au ar) U U U U kr (fun q4 A4=>tf 3 U U (fun _ _ hj=>iQ ty181 (A4.mono hj.1) U U) (tn 4 U (eO call119 (yM h y1) U (⟨jn,qA [5,6] U ?_⟩)))))
    refine ct 19 U (fun c2=>?_) (fun c2=>?_)
    ·exact tk 7 U U (qR 8 16 U (aI kr (hk1 _ ⟨U,U,(cb (show true=((!(ij y1))||(decide (0 < (i1:Int))&&decide (y1.No≤(nthI l ((i1:Int) - 1)).No))) from by rw [c2] <;> rfl)),trivial⟩)))
    ·refine qR 7 3 U ?_
     refine ct 22 U (fun c3=>?_) (fun c3=>?_)
     ·have c3p:=of_decide_eq_true c3
      refine qA [10,11] U (tf 12 U U (fun _ _ _=>kS (v':=I ((i1:Int) - 1)) U (gz ob)) ?_)
      have ho2:0≤(((i1:Int) - 1):Int)∧(((i1:Int) - 1):Int) < ((l).length:Int):=ob
      exact cC 13 (enc:=Approval.cells) cI jn ei Ft ty181 hl.1 ho2 (bJ ho2) U U U U kr (fun q5 A5=>qB [14] U (tf 15 U U (fun _ _ hj=>eL ty3 (A5.mono hj.1) U) (qA [16,17] U (cC 18 (enc:=Approval.cells) cI jn ei Ft ty181 hl.1 (nthZ ar) (au ar) U U U U kr (fun q6 A6=>qB [19] U (tf 20 U U (fun _ _ hj=>eL ty3 (A6.mono hj.1) U) (qR 21 3 U (aI kr (hk1 _ ⟨U,U,(cb (show decide (y1.No≤(nthI l ((i1:Int) - 1)).No)=((!(ij y1))||(decide (0 < (i1:Int))&&decide (y1.No≤(nthI l ((i1:Int) - 1)).No))) from by rw [c2,c3] <;> rfl)),trivial⟩)))))))))
     ·have c3p:=of_decide_eq_false c3
      exact tk 10 U U (qR 11 13 U (aI kr (hk1 _ ⟨U,U,(cb (show false=((!(ij y1))||(decide (0 < (i1:Int))&&decide (y1.No≤(nthI l ((i1:Int) - 1)).No))) from by rw [c2,c3] <;> rfl)),trivial⟩)))
   refine ac hs6 U (fun c4 hs7=>?_) (fun c4 hs8=>?_)
   ·exact sr (an (nretP [I 280] (ci hs7)))
   ·exact aG (qT 3 U (ae (v':=I (((i1+1):Nat):Int)) U (aL ob) (an (ag1 hs8))))
  ·rintro i1 hd1 eM hx e
   exact qK 6 [] U (ae (v':=.bool false) U (cb eM) (qO 3 U (hx _ rd)))
theorem yI (h:HF) (aZ:Register) (dD:dR) (gM:Register.ok h aZ dD) (hsm:smR aZ):Ret prog 31 [.agg (Register.cells aZ dD).toArray] h (I (gU aZ)):=by
 refine sT func31 U ntmps31 U fun X hM hX hF=>?_
 have hs0:gU aZ=gU aZ:=rfl
 have hsv:=hsm.vers
 refine sr (cy (fun b1=>qL 7 [0] U (ah call67 (rT _ _ _ _ gM.Appoints) U (qO 2 U (cf 5 [7,8,9,10,11,12] 7 12 ((fR aZ.Deputies) != 0) U (fun c1 hk1=>?_) (fun e=>?_))))))
 ·exact qL 2 [0] U (ah call68 (yX _ _ _ _ gM.Deputies) U (qO 2 U (hk1 _ U)))
 refine aj (cf 5 [13,14,15,16,17,18] 13 18 ((et aZ.Interests) != 0) U (fun c2 hk2=>?_) (fun e=>?_))
 ·exact qL 2 [0] U (ah call69 (rO _ _ _ _ gM.Interests) U (qO 2 U (hk2 _ U)))
 refine aj (cf 5 [19,20,21,22,23,24] 19 24 ((fQ aZ.Budgets) != 0) U (fun c3 hk3=>?_) (fun e=>?_))
 ·exact qL 2 [0] U (ah call70 (yT _ _ _ _ gM.Budgets) U (qO 2 U (hk3 _ U)))
 refine aN (ac hs0 U (fun c4 hs1=>?_) (fun c4 hs2=>?_))
 ·exact sr (an (nretP [I 300] (ci hs1)))
 ·refine qK 6 [0] U (ah call71 (pi _ _ _ _ gM.Versions ob) U (qO 2 U (cf 5 [29,30,31,32,33,34] 29 34 ((eZ aZ.Docs) != 0) U (fun c5 hk4=>?_) (fun e=>?_))))
  ·exact qL 2 [0] U (ah call72 (yV _ _ _ _ gM.Docs) U (qO 2 U (hk4 _ U)))
  refine aj (cf 5 [35,36,37,38,39,40] 35 40 ((fP aZ.Approvals) != 0) U (fun c6 hk5=>?_) (fun e=>?_))
  ·exact qL 2 [0] U (ah call73 (yN _ _ _ _ gM.Approvals) U (qO 2 U (hk5 _ U)))
  refine aN (ac hs2 U (fun c7 hs4=>?_) (fun c7 hs5=>?_))
  ·exact sr (an (nretP [I 300] (ci hs4)))
  ·exact aG (qT 4 U (nretP [I 0] (ci hs5)))
theorem qZ (h:HF) (who:List Int) (dA:Option Addr) (dz:Nat) (hwho:SlC Rp.int h dA dz who):Ret prog 32 [.slice dA who.length dz] h (.bool (df who)):=by
 refine sT func32 U ntmps32 U fun X hM hX hF=>?_
 have hs0:df who=df who:=rfl
 refine qT 9 U ?_
 refine lp0 who (fun i=>[(0,.slice dA who.length dz),(3,I (i:Int))]) ([]) (fun s1 i=>(df.L1 who (df.K1)) s1 i) hwho.1.1 hs0 ?_ ?_ ?_
 ·rintro i1 eR hs1 e
  exact sr (an (nretP [.bool true] (cs hs1)))
 ·rintro i1 y1 rz1 hd1 cz ar dF fF hs3 hx1 ag1 e
  refine qK 6 [] U (ae (v':=.bool true) U (cb cz) (qO 6 U ?_))
  refine jM [(0,.slice dA who.length dz),(3,I (i1:Int)),(37,.bool ((decide (y1 < 0)||decide (64≤y1))||(decide (0 < (i1:Int))&&decide (y1≤(nthI who ((i1:Int) - 1))))))] (fun e=>?_) (fun hk1=>?_)
  rotate_left
  ·refine eA ([]) mixed kr jn (fun cI _=>?_)
   refine qA [0,1] U (cC 2 (enc:=fun y=>[I y]) cI jn ei cR ty3 hwho.1 (nthZ ar) (au ar) U U U U kr (fun q3 A3=>tf 3 U U (fun _ _ hj=>eL ty3 (A3.mono hj.1) U) (qA [4,5] U ?_)))
   refine ct 15 U (fun c1=>?_) (fun c1=>?_)
   ·have c1p:=of_decide_eq_true c1
    exact tk 6 U U (qR 7 21 U (aI kr (hk1 _ ⟨U,U,(cb (show true=((decide (y1 < 0)||decide (64≤y1))||(decide (0 < (i1:Int))&&decide (y1≤(nthI who ((i1:Int) - 1))))) from by rw [c1] <;> rfl)),trivial⟩)))
   ·have c1p:=of_decide_eq_false c1
    refine qA [6,7] U (cC 8 (enc:=fun y=>[I y]) cI jn ei cR ty3 hwho.1 (nthZ ar) (au ar) U U U U kr (fun q4 A4=>tf 9 U U (fun _ _ hj=>eL ty3 (A4.mono hj.1) U) (qR 10 3 U ?_)))
    refine ct 22 U (fun c2=>?_) (fun c2=>?_)
    ·have c2p:=of_decide_eq_true c2
     exact tk 13 U U (qR 14 14 U (aI kr (hk1 _ ⟨U,U,(cb (show true=((decide (y1 < 0)||decide (64≤y1))||(decide (0 < (i1:Int))&&decide (y1≤(nthI who ((i1:Int) - 1))))) from by rw [c1,c2] <;> rfl)),trivial⟩)))
    ·have c2p:=of_decide_eq_false c2
     refine qR 13 3 U ?_
     refine ct 25 U (fun c3=>?_) (fun c3=>?_)
     ·have c3p:=of_decide_eq_true c3
      refine qA [16,17] U (cC 18 (enc:=fun y=>[I y]) cI jn ei cR ty3 hwho.1 (nthZ ar) (au ar) U U U U kr (fun q5 A5=>tf 19 U U (fun _ _ hj=>eL ty3 (A5.mono hj.1) U) (qA [20,21] U (tf 22 U U (fun _ _ _=>kS (v':=I ((i1:Int) - 1)) U (gz ob)) ?_))))
      have ho1:0≤(((i1:Int) - 1):Int)∧(((i1:Int) - 1):Int) < ((who).length:Int):=ob
      exact cC 23 (enc:=fun y=>[I y]) cI jn ei cR ty3 hwho.1 ho1 (bJ ho1) U U U U kr (fun q6 A6=>tf 24 U U (fun _ _ hj=>eL ty3 (A6.mono hj.1) U) (qR 25 3 U (aI kr (hk1 _ ⟨U,U,(cb (show decide (y1≤(nthI who ((i1:Int) - 1)))=((decide (y1 < 0)||decide (64≤y1))||(decide (0 < (i1:Int))&&decide (y1≤(nthI who ((i1:Int) - 1))))) from by rw [c1,c2,c3] <;> rfl)),trivial⟩))))
     ·have c3p:=of_decide_eq_false c3
      exact tk 16 U U (qR 17 11 U (aI kr (hk1 _ ⟨U,U,(cb (show false=((decide (y1 < 0)||decide (64≤y1))||(decide (0 < (i1:Int))&&decide (y1≤(nthI who ((i1:Int) - 1))))) from by rw [c1,c2,c3] <;> rfl)),trivial⟩)))
  refine ac hs3 U (fun c4 hs4=>?_) (fun c4 hs5=>?_)
  ·exact sr (an (nretP [.bool false] (cs hs4)))
  ·exact aG (qT 3 U (ae (v':=I (((i1+1):Nat):Int)) U (aL ob) (an (ag1 hs5))))
 ·rintro i1 hd1 eM hx e
  exact qK 6 [] U (ae (v':=.bool false) U (cb eM) (qO 3 U (hx _ rd)))
theorem lI (h:HF) (l:List Int) (eE:Option Addr) (eD:Nat) (t:Int) (hl:SlC Rp.int h eE eD l) (hsz0:l.length≤2000000):iW prog 74 [.slice eE l.length eD,I t] h (fun v h'=>∃ (rb0:Option Addr) (rc0:Nat),v=.slice rb0 (cj l t).length rc0∧SlC Rp.int h' rb0 rc0 (cj l t)):=by
 refine sT func74 U ntmps74 U fun X hM hX hF=>?_
 have hs0:cj l t=cj l t:=rfl
 refine qT 8 U (ah wO (i6 h t) U (qO 2 U (ac hs0 U (fun c1 hs1=>?_) (fun c1 hs2=>?_))))
 ·refine qT 5 U ?_
  have hs3:cj l t=l:=hs1
  exact nretH [.slice eE l.length eD] ⟨eE,eD,congrArg (fun r:List Int=>(.slice eE r.length eD:Value)) hs3.symm,(by rw [hs3];exact hl)⟩
 ·refine qT 6 U ?_
  refine lp0 l (fun i=>[(0,.slice eE l.length eD),(1,I t),(5,I (i:Int))]) ([]) (fun s1 i=>(cj.L1 t (cj.K1 l t)) s1 i) hl.1.1 hs2 ?_ ?_ ?_
  ·rintro i1 eR hs4 e
   refine qK 8 [] U (bz 7 [28,29,30,31,32,33,34,35] 28 35 ((nthI l (i1:Int))==t) U (fun c3 hk1=>?_) (fun e=>?_))
   ·refine qO 2 U ?_
    have ho2:0≤((i1:Int):Int)∧((i1:Int):Int) < ((l).length:Int):=ob
    exact az (ef (enc:=fun y=>[I y]) ei cR ty3 hl.1 ho2 (bJ ho2) U U U (fun q3 A3=>cL ty3 A3 U (qO 3 U (hk1 _ U))))
   refine aN (ac hs4 U (fun c4 hs5=>?_) (fun c4 hs6=>?_))
   ·refine qT 5 U ?_
    have hs7:cj l t=l:=hs5
    exact nretH [.slice eE l.length eD] ⟨eE,eD,congrArg (fun r:List Int=>(.slice eE r.length eD:Value)) hs7.symm,(by rw [hs7];exact hl)⟩
   ·refine qT 2 U (eA ([]) mixed kr jn (fun cI _=>qA [1,2] U (AY 3 cI jn cR ty3 hl.1 hl.2 ob U U U U kr (fun sb1 sc1 sl1=>qA [5,8,9] U (AZ 10 cI jn cR ty3 hl.1 hl.2 ob U U U U kr (fun sb2 sc2 sl2=>?_))))))
    refine ju 0 6 kr U U ?_ ?_ 
    ·refine iY cR ty3 (fun b1=>⟨jn,?_⟩)
     refine ju 4 6 kr U U ?_ ?_ 
     ·refine bR Rp.dM ([]) ([]) (fun G=>G) ap (fun _=>ap) cR ty3 zc3 U bytes3 (cJ.lit (show aT Rp.int h [] ([]) from U) U) U U (fC sl1.1) lo lo (fun ob1 oc1 G1 gr1=>⟨jn,(tn 6 U (bd (cells:=[I t]) cR ty3 zc3 U U kr (fun b2=>⟨jn,tn 7 U (bR Rp.dM ([(b2,O [I t] 3)]) ([]) (fun G=>[(b2,O [I t] 3)]++G) ap (fun _=>ap) cR ty3 zc3 U bytes3 gr1 U U (dr 0 U (show aT Rp.int h [I t] ([t]) from ⟨[I t],[],U,U,U,U⟩)) lo lo (fun ob2 oc2 G2 gr2=>⟨jn,(tn 11 U (bR Rp.dM ([(b2,O [I t] 3)]) ([]) (fun G=>[(b2,O [I t] 3)]++G) ap (fun _=>ap) cR ty3 zc3 U bytes3 gr2 U U (fC sl2.1) lo lo (fun ob3 oc3 G3 gr3=>⟨jn,(qA [12] U (aI kr (eK Rp.aW ([(b2,O [I t] 3)]) G3 ([]) ap hM gr3 (fun h1 hle1 sl3=>?_))))⟩)))⟩))⟩)))⟩)
      have hs8:cj l t=(((l.take (((i1:Int):Int)).toNat)++[t])++(l.drop (((i1:Int):Int)).toNat)):=hs6
      exact nretH [.slice ob3 ((((l.take (((i1:Int):Int)).toNat)++[t])++(l.drop (((i1:Int):Int)).toNat)).length) oc3] ⟨ob3,oc3,congrArg (fun r:List Int=>(.slice ob3 r.length oc3:Value)) hs8.symm,(by rw [hs8];exact sl3)⟩
     ·refine bd (cells:=[I t]) cR ty3 zc3 U U kr (fun b3=>⟨jn,(tn 4 U (bR Rp.dM ([(b3,O [I t] 3)]) ([]) (fun G=>[(b3,O [I t] 3)]++G) ap (fun _=>ap) cR ty3 zc3 U bytes3 (cJ.lit (show aT Rp.int h [] ([]) from U) U) U U (fC sl1.1) lo lo (fun ob4 oc4 G4 gr4=>⟨jn,(tn 7 U (bR Rp.dM ([(b3,O [I t] 3)]) ([]) (fun G=>[(b3,O [I t] 3)]++G) ap (fun _=>ap) cR ty3 zc3 U bytes3 gr4 U U (dr 0 U (show aT Rp.int h [I t] ([t]) from ⟨[I t],[],U,U,U,U⟩)) lo lo (fun ob5 oc5 G5 gr5=>⟨jn,(tn 11 U (bR Rp.dM ([(b3,O [I t] 3)]) ([]) (fun G=>[(b3,O [I t] 3)]++G) ap (fun _=>ap) cR ty3 zc3 U bytes3 gr5 U U (fC sl2.1) lo lo (fun ob6 oc6 G6 gr6=>⟨jn,(qA [12] U (aI kr (eK Rp.aW ([(b3,O [I t] 3)]) G6 ([]) ap hM gr6 (fun h2 hle2 sl4=>?_))))⟩)))⟩)))⟩)))⟩)
      have hs9:cj l t=(((l.take (((i1:Int):Int)).toNat)++[t])++(l.drop (((i1:Int):Int)).toNat)):=hs6
      exact nretH [.slice ob6 ((((l.take (((i1:Int):Int)).toNat)++[t])++(l.drop (((i1:Int):Int)).toNat)).length) oc6] ⟨ob6,oc6,congrArg (fun r:List Int=>(.slice ob6 r.length oc6:Value)) hs9.symm,(by rw [hs9];exact sl4)⟩
    ·refine bd (cells:=[I t]) cR ty3 zc3 U U kr (fun b4=>⟨jn,(tn 0 U (iY cR ty3 (fun b5=>⟨jn,(tn 4 U (bR Rp.dM ([]) ([(b4,O [I t] 3)]) (fun G=>[(b4,O [I t] 3)]++G) ap (fun _=>ap) cR ty3 zc3 U bytes3 (cJ.lit (show aT Rp.int h [] ([]) from U) U) U U (fC sl1.1) lo lo (fun ob7 oc7 G7 gr7=>⟨jn,(tn 7 U (bR Rp.dM ([(b4,O [I t] 3)]) ([]) (fun G=>[(b4,O [I t] 3)]++G) ap (fun _=>ap) cR ty3 zc3 U bytes3 gr7 U U (dr 0 U (show aT Rp.int h [I t] ([t]) from ⟨[I t],[],U,U,U,U⟩)) lo lo (fun ob8 oc8 G8 gr8=>⟨jn,(tn 11 U (bR Rp.dM ([(b4,O [I t] 3)]) ([]) (fun G=>[(b4,O [I t] 3)]++G) ap (fun _=>ap) cR ty3 zc3 U bytes3 gr8 U U (fC sl2.1) lo lo (fun ob9 oc9 G9 gr9=>⟨jn,(qA [12] U (aI kr (eK Rp.aW ([(b4,O [I t] 3)]) G9 ([]) ap hM gr9 (fun h3 hle3 sl5=>?_))))⟩)))⟩)))⟩)))⟩)))⟩)
     have hs10:cj l t=(((l.take (((i1:Int):Int)).toNat)++[t])++(l.drop (((i1:Int):Int)).toNat)):=hs6
     exact nretH [.slice ob9 ((((l.take (((i1:Int):Int)).toNat)++[t])++(l.drop (((i1:Int):Int)).toNat)).length) oc9] ⟨ob9,oc9,congrArg (fun r:List Int=>(.slice ob9 r.length oc9:Value)) hs10.symm,(by rw [hs10];exact sl5)⟩
  ·rintro i1 y1 rz1 hd1 cz ar dF fF hs11 hx1 ag1 e
   refine qK 6 [] U (ae (v':=.bool true) U (cb cz) (qO 3 U (az (ef (enc:=fun y=>[I y]) ei cR ty3 hl.1 (nthZ ar) (au ar) U U U (fun q4 A4=>cL ty3 A4 U (qO 4 U (ac hs11 U (fun c5 hs12=>?_) (fun c5 hs13=>?_))))))))
   ·have c5p:=of_decide_eq_true c5
    exact aG (qT 3 U (ae (v':=I (((i1+1):Nat):Int)) U (aL ob) (qO 3 U (ag1 hs12))))
   ·have c5p:=of_decide_eq_false c5
    exact jJ U (hx1 i1 hs13)
  ·rintro i1 hd1 eM hx e
   exact qK 6 [] U (ae (v':=.bool false) U (cb eM) (qO 11 U (hx _ rd)))
theorem vU (h:HF) (aZ:Register) (dD:dR) (d:Document) (vP:gG) (gM:Register.ok h aZ dD) (hd:Document.ok h d vP) (hln:aZ.Appoints.length≤100000∧aZ.Interests.length≤100000∧aZ.Versions.length≤256) (hov:okV aZ.Versions) (hod:(0≤d.At∧d.At≤1099511627776)∧0≤d.Kind):iW prog 34 [.agg (Register.cells aZ dD).toArray,.agg (Document.cells d vP).toArray] h (fun v h'=>∃ (rb0:Option Addr) (rc0:Nat),v=.slice rb0 (aD aZ d).length rc0∧SlC Rp.int h' rb0 rc0 (aD aZ d)):=by
 refine sT func34 U ntmps34 U fun X hM hX hF=>?_
 have hs0:aD aZ d=aD aZ d:=rfl
 have hl0:=eW [0] d.At
 have hl1:=eW (cj [0] d.At) d.Until
 simp only [List.length_cons,List.length_nil] at hl0
 refine sr (cy (fun b1=>cy (fun b2=>qO 3 U ?_)))
 let z1:Nat×Obj:=(b1,O (Register.cells aZ dD) 30)
 let z2:Nat×Obj:=(b2,O (Document.cells d vP) 52)
 refine eA ([z2,z1]) mixed kr jn (fun cI _=>?_)
 refine qB [1] U (tf 2 U U (fun _ _ hj=>fw ty3 U (hj.nth (i:=0) U) U) (qB [4] U (tf 5 U U (fun _ _ hj=>fw ty3 U (hj.nth (i:=0) U) U) (tn 0 U (bd (cells:=[I 0]) cR ty3 zc3 U U kr (fun b3=>⟨jn,tn 3 U (Bc 0 U hM (fun h1 hle1 hb1=>?_))⟩))))))
 have sl1:SlC Rp.int h1 (some ⟨b3,0,none⟩) 1 ([0]):=aT.slB0 (T:=3) (fz:=(0,0)) ((show aT Rp.int h [I 0] ([0]) from ⟨[I 0],[],rfl,rfl,rfl,rfl⟩).mono Rp.aW hle1) hb1
 refine cg CM (lI _ _ _ _ d.At sl1 ob) U (fun v1 h2 hle2 hp1=>?_)
 obtain ⟨rb1,rc1,rfl,sl2⟩:=hp1
 refine ⟨⟨(hle1.t hle2),fun _ hp=>List.Sublist.subset (List.Sublist.refl _) hp⟩,kV (K2:=[z2,z1]) (hle1.t hle2) (fun _ hp=>hp) (tn 6 U (cg CM (lI _ _ _ _ d.Until sl2 ob) U (fun v2 h3 hle3 hp2=>?_)))⟩
 obtain ⟨rb2,rc2,rfl,sl3⟩:=hp2
 refine ⟨⟨hle3,fun _ hp=>List.Sublist.subset (List.Sublist.refl _) hp⟩,kV (K2:=[z2,z1]) hle3 (fun _ hp=>hp) (qA [7] U (aI kr (qT 5 U ?_)))⟩
 refine lp2 aZ.Appoints (fun i w=>[(2,Q b1),(3,Q b2),(5,.slice w.2.1 w.1.length w.2.2.1),(6,I (i:Int))]) (fun w=>w.2.2.2) (fun w=>[z2,z1]) (fun i w=>SlC Rp.int w.2.2.2 w.2.1 w.2.2.1 w.1∧w.1.length≤(cj (cj ([0]) d.At) d.Until).length+i∧HF.le h3 w.2.2.2) (fun s1 i w=>(aD.L1 (aD.K1 aZ d)) s1 w.1) ((cj (cj ([0]) d.At) d.Until),rb2,rc2,h3) ((gM.Appoints.mono Appoint.ak ((hle1.t hle2).t hle3)).1.1) hs0 ⟨sl3,(by first | omega | (simp only [List.length_append,List.length_cons,List.length_nil];omega) | (have hq:=eW gY y1.At;first | omega | (dsimp only;omega))),lf⟩ ?_ ?_ ?_
 ·rintro i1 ⟨gY,Iq,Ip,hh1⟩ eR hs1 ⟨Ed,Io,hl1⟩ e
  try dsimp only at Ed Io hl1
  refine qT 5 U ?_
  refine lp2 aZ.Interests (fun i w=>[(2,Q b1),(3,Q b2),(5,.slice w.2.1 w.1.length w.2.2.1),(7,I (i:Int))]) (fun w=>w.2.2.2) (fun w=>[z2,z1]) (fun i w=>SlC Rp.int w.2.2.2 w.2.1 w.2.2.1 w.1∧w.1.length≤gY.length+i∧HF.le hh1 w.2.2.2) (fun s2 i w=>(aD.L2 (aD.K2 aZ d)) s2 w.1) (gY,Iq,Ip,hh1) ((gM.Interests.mono Interest.ak (((hle1.t hle2).t hle3).t hl1)).1.1) hs1 ⟨Ed,(by first | omega | (simp only [List.length_append,List.length_cons,List.length_nil];omega) | (have hq:=eW wy y2.At;first | omega | (dsimp only;omega))),lf⟩ ?_ ?_ ?_
  ·rintro i2 ⟨wy,Ij,Ii,hh2⟩ uA hs2 ⟨Ea,Ih,hl2⟩ e
   try dsimp only at Ea Ih hl2
   refine qT 5 U ?_
   refine lp2 aZ.Versions (fun i w=>[(2,Q b1),(3,Q b2),(5,.slice w.2.1 w.1.length w.2.2.1),(8,I (i:Int))]) (fun w=>w.2.2.2) (fun w=>[z2,z1]) (fun i w=>SlC Rp.int w.2.2.2 w.2.1 w.2.2.1 w.1∧w.1.length≤wy.length+2 * i∧HF.le hh2 w.2.2.2) (fun s3 i w=>(aD.L3 d (aD.K3)) s3 w.1) (wy,Ij,Ii,hh2) ((gM.Versions.mono Version.ak ((((hle1.t hle2).t hle3).t hl1).t hl2)).1.1) hs2 ⟨Ea,(by first | omega | (simp only [List.length_append,List.length_cons,List.length_nil];omega) | (have hq:=eW pX y3.At;have hq2:=eW (cj pX y3.At) (d.At+(nthI y3.Policy.Rules d.Kind).Think);first | omega | (dsimp only;omega))),lf⟩ ?_ ?_ ?_
   ·rintro i3 ⟨pX,D6,D5,hh3⟩ Jk hs3 ⟨D4,Id,hl3⟩ e
    try dsimp only at D4 Id hl3
    refine qT 5 U ?_
    have hs4:aD aZ d=pX:=hs3
    exact nretH [.slice D6 pX.length D5] ⟨D6,D5,congrArg (fun r:List Int=>(.slice D6 r.length D5:Value)) hs4.symm,(by rw [hs4];exact D4)⟩
   ·rintro i3 ⟨pX,D6,D5,hh3⟩ y3 rz3 hd3 uz hO zw E0 hs5 ⟨D4,Id,hl3⟩ hx3 ag1 e
    try dsimp only at D4 Id hl3
    have hq:=eW pX y3.At
    have hth:0≤(nthI y3.Policy.Rules d.Kind).Think∧(nthI y3.Policy.Rules d.Kind).Think≤1099511627775:=FL (P:=fun r:Rule=>0≤r.Think∧r.Think≤1099511627775) (hov.2 y3 (fA hd3)).2 ⟨Int.le_refl _,by decide⟩ d.Kind
    refine qK 7 [1] U (ae (v':=.bool true) U (cb uz) (qL 11 [1] U (az (dU kJ ty70 (gM.Versions.mono Version.ak (((((hle1.t hle2).t hle3).t hl1).t hl2).t hl3)).1 (nthZ hO) (au hO) U U U (fun _ _ _ e=>e) (fun q22 r17 A22 ok17=>qL 1 [] U (jm (j:=1) ty3 A22 U U (az (cg CM (lI _ _ _ _ y3.At D4 ob) U (fun v16 h17 hle17 hp16=>?_)))))))))
    obtain ⟨rb16,rc16,rfl,sl17⟩:=hp16
    refine qO 3 U (eA ([z2,z1]) mixed kr jn (fun nK _=>qB [0] U (tf 1 U U (fun _ _ hj=>fw ty3 U (hj.nth (i:=0) U) U) (qB [2] U (tf 3 U U (fun _ _ hj=>fw ty26 U (hj.nth (i:=1) U) U) (tm 4 U (gA 5 nK jn kJ ty70 (gM.Versions.mono Version.ak ((((((hle1.t hle2).t hle3).t hl1).t hl2).t hl3).t hle17)).1 (nthZ hO) (au hO) U U U U kr (fun q23 cs18 A23 ln18 rr18=>?_))))))))
    obtain ⟨r18,rfl,ok18⟩:=rr18
    refine qB [6,7] U (tf 8 U U (fun _ _ hj=>j4 6 ty63 (A23.mono hj.1) U U) (tf 9 U U (fun _ _ _=>Dm nO U) (qA [10] U (aI kr (ac hs5 U (fun c11 hs6=>?_) (fun c11 hs7=>?_))))))
    ·have c11p:=of_decide_eq_true c11
     refine eA ([z2,z1]) mixed kr jn (fun zu _=>?_)
     refine qB [0,1] U (tf 2 U U (fun _ _ hj=>fw ty3 U (hj.nth (i:=0) U) U) (qB [3] U (tf 4 U U (fun _ _ hj=>fw ty26 U (hj.nth (i:=1) U) U) (tm 5 U (gA 6 zu jn kJ ty70 (gM.Versions.mono Version.ak ((((((hle1.t hle2).t hle3).t hl1).t hl2).t hl3).t hle17)).1 (nthZ hO) (au hO) U U U U kr (fun q24 cs19 A24 ln19 rr19=>?_))))))
     obtain ⟨r19,rfl,ok19⟩:=rr19
     refine qB [7,8] U (tf 9 U U (fun _ _ hj=>j4 6 ty63 (A24.mono hj.1) U U) (qB [10] U (tf 11 U U (fun _ _ hj=>fw ty3 U (hj.nth (i:=0) U) U) ?_)))
     have ho17:0≤(d.Kind:Int)∧(d.Kind:Int) < ((y3.Policy.Rules).length:Int):=ob
     refine gA 12 zu jn nO ty107 ok19.Policy.Rules.1 ho17 (bJ ho17) U U U U kr (fun q25 cs20 A25 ln20 rr20=>?_)
     obtain ⟨r20,rfl,ok20⟩:=rr20
     refine qB [13] U (tf 14 U U (fun _ _ hj=>j4 2 ty3 (A25.mono hj.1) U U) (tf 15 U U (fun _ _ _=>kS (v':=I (d.At+(nthI y3.Policy.Rules d.Kind).Think)) U (gz ob)) (tn 16 U (cg CM (lI _ _ _ _ (d.At+(nthI y3.Policy.Rules d.Kind).Think) sl17 ob) U (fun v17 h18 hle18 hp17=>?_)))))
     obtain ⟨rb17,rc17,rfl,sl18⟩:=hp17
     exact ⟨⟨hle18,fun _ hp=>List.Sublist.subset (List.Sublist.refl _) hp⟩,kV (K2:=[z2,z1]) hle18 (fun _ hp=>hp) (qA [17] U (aI kr (qT 3 U (ae (v':=I (((i3+1):Nat):Int)) U (aL ob) (an (ag1 ((cj (cj pX y3.At) (d.At+(nthI y3.Policy.Rules d.Kind).Think)),rb17,rc17,h18) hs6 ⟨sl18,(by first | omega | (simp only [List.length_append,List.length_cons,List.length_nil];omega) | (have hq:=eW pX y3.At;have hq2:=eW (cj pX y3.At) (d.At+(nthI y3.Policy.Rules d.Kind).Think);first | omega | (dsimp only;omega))),((hl3.t hle17).t hle18)⟩))))))⟩
    ·have c11p:=of_decide_eq_false c11
     exact aG (qT 3 U (ae (v':=I (((i3+1):Nat):Int)) U (aL ob) (an (ag1 ((cj pX y3.At),rb16,rc16,h17) hs7 ⟨sl17,(by first | omega | (simp only [List.length_append,List.length_cons,List.length_nil];omega) | (have hq:=eW pX y3.At;have hq2:=eW (cj pX y3.At) (d.At+(nthI y3.Policy.Rules d.Kind).Think);first | omega | (dsimp only;omega))),(hl3.t hle17)⟩))))
   ·rintro i3 ⟨pX,D6,D5,hh3⟩ hd3 Cu hx e
    exact qK 7 [1] U (ae (v':=.bool false) U (cb Cu) (qO 3 U (hx _ rd)))
  ·rintro i2 ⟨wy,Ij,Ii,hh2⟩ y2 rz2 hd2 nE jq tO Cv hs8 ⟨Ea,Ih,hl2⟩ hx2 ag2 e
   try dsimp only at Ea Ih hl2
   refine qK 7 [1] U (ae (v':=.bool true) U (cb nE) (qL 10 [1] U (az (ef (enc:=Interest.cells) ei lT ty61 (gM.Interests.mono Interest.ak ((((hle1.t hle2).t hle3).t hl1).t hl2)).1 (nthZ jq) (au jq) U U U (fun q26 A26=>qL 1 [] U (jm (j:=1) ty3 A26 U U (az (cg CM (lI _ _ _ _ y2.At Ea ob) U (fun v18 h19 hle19 hp18=>?_)))))))))
   obtain ⟨rb18,rc18,rfl,sl19⟩:=hp18
   exact an (qT 3 U (ae (v':=I (((i2+1):Nat):Int)) U (aL ob) (an (ag2 ((cj wy y2.At),rb18,rc18,h19) hs8 ⟨sl19,(by first | omega | (simp only [List.length_append,List.length_cons,List.length_nil];omega) | (have hq:=eW wy y2.At;first | omega | (dsimp only;omega))),(hl2.t hle19)⟩))))
  ·rintro i2 ⟨wy,Ij,Ii,hh2⟩ hd2 xL hx e
   exact qK 7 [1] U (ae (v':=.bool false) U (cb xL) (qO 3 U (hx _ rd)))
 ·rintro i1 ⟨gY,Iq,Ip,hh1⟩ y1 rz1 hd1 cz ar dF fF hs9 ⟨Ed,Io,hl1⟩ hx1 ag3 e
  try dsimp only at Ed Io hl1
  refine qK 7 [1] U (ae (v':=.bool true) U (cb cz) (qL 10 [1] U (az (ef (enc:=Appoint.cells) ei nG ty59 (gM.Appoints.mono Appoint.ak (((hle1.t hle2).t hle3).t hl1)).1 (nthZ ar) (au ar) U U U (fun q27 A27=>qL 1 [] U (jm (j:=1) ty3 A27 U U (az (cg CM (lI _ _ _ _ y1.At Ed ob) U (fun v19 h20 hle20 hp19=>?_)))))))))
  obtain ⟨rb19,rc19,rfl,sl20⟩:=hp19
  exact an (qT 3 U (ae (v':=I (((i1+1):Nat):Int)) U (aL ob) (an (ag3 ((cj gY y1.At),rb19,rc19,h20) hs9 ⟨sl20,(by first | omega | (simp only [List.length_append,List.length_cons,List.length_nil];omega) | (have hq:=eW gY y1.At;first | omega | (dsimp only;omega))),(hl1.t hle20)⟩))))
 ·rintro i1 ⟨gY,Iq,Ip,hh1⟩ hd1 eM hx e
  exact qK 7 [1] U (ae (v':=.bool false) U (cb eM) (qO 3 U (hx _ rd)))
theorem vT (h:HF) (aZ:Register) (dD:dR) (no:Int) (gM:Register.ok h aZ dD):iW prog 46 [.agg (Register.cells aZ dD).toArray,I no] h (fun v h'=>∃ (rr0:lC),v=.agg (Version.cells (bM aZ no) rr0).toArray∧Version.ok h' (bM aZ no) rr0):=by
 refine cT func46 U ntmps46 U fun X hM hX=>?_
 have hs0:bM aZ no=bM aZ no:=rfl
 refine sr (cy (fun b1=>bG zc70 (fun b2=>qO 6 U ?_)))
 refine lp0 aZ.Versions (fun i=>[(1,I no),(2,Q b1),(4,Q b2),(5,I (i:Int))]) ([(b2,O [I 0,I 0,I 0,.string (⟨#[]⟩:ByteArray),.slice none 0 0,.slice none 0 0,.slice none 0 0,I 0,I 0,I 0,.string (⟨#[]⟩:ByteArray),.slice none 0 0,I 0] 70),(b1,O (Register.cells aZ dD) 30)]) (fun s1 i=>(bM.L1 no (bM.K1)) s1) gM.Versions.1.1 hs0 ?_ ?_ ?_
 ·rintro i1 eR hs1 e
  refine sr (az (em (cells:=[I 0,I 0,I 0,.string (⟨#[]⟩:ByteArray),.slice none 0 0,.slice none 0 0,.slice none 0 0,I 0,I 0,I 0,.string (⟨#[]⟩:ByteArray),.slice none 0 0,I 0]) (places:=[(0,1),(1,1),(2,1),(3,10)]) underlying70 zc70 kr kr (bC 0 ty70 U U U U U U (aN ?_))))
  have hs2:bM aZ no=(Version.mk 0 0 0 (Policy.mk (⟨#[]⟩:ByteArray) ([]) ([]) ([]) (Expr.mk 0 0 0 (⟨#[]⟩:ByteArray) ([])) 0)):=hs1
  exact fS [.agg (List.toArray [I 0,I 0,I 0,.string (⟨#[]⟩:ByteArray),.slice none 0 0,.slice none 0 0,.slice none 0 0,I 0,I 0,I 0,.string (⟨#[]⟩:ByteArray),.slice none 0 0,I 0])] func46 U ⟨⟨0,_,_,_,_,U,U,.inl ⟨ty70,U⟩⟩,trivial⟩ ⟨(lC.mk (dY.mk none 0 none 0 none 0 (ce.mk none 0))),congrArg (fun r:Version=>(.agg (Version.cells r (lC.mk (dY.mk none 0 none 0 none 0 (ce.mk none 0)))).toArray:Value)) hs2.symm,(by rw [hs2];exact (show Version.ok h (Version.mk 0 0 0 (Policy.mk (⟨#[]⟩:ByteArray) ([]) ([]) ([]) (Expr.mk 0 0 0 (⟨#[]⟩:ByteArray) ([])) 0)) (lC.mk (dY.mk none 0 none 0 none 0 (ce.mk none 0))) from ⟨(show Policy.ok h (Policy.mk (⟨#[]⟩:ByteArray) ([]) ([]) ([]) (Expr.mk 0 0 0 (⟨#[]⟩:ByteArray) ([])) 0) (dY.mk none 0 none 0 none 0 (ce.mk none 0)) from ⟨SlC.nil,SlC.nil,SlC.nil,(show Expr.ok h (Expr.mk 0 0 0 (⟨#[]⟩:ByteArray) ([])) (ce.mk none 0) from Expr.ok.of SlC.nil)⟩)⟩))⟩
 ·rintro i1 y1 rz1 hd1 cz ar dF fF hs3 hx1 ag1 e
  refine qK 7 [1] U (ae (v':=.bool true) U (cb cz) (qL 10 [1] U (az (dU kJ ty70 gM.Versions.1 (nthZ ar) (au ar) U U U (fun _ _ _ e=>e) (fun q3 r3 A3 ok3=>qL 1 [] U (cL ty3 A3 U (qO 3 U (ac hs3 U (fun c2 hs4=>?_) (fun c2 hs5=>?_)))))))))
  ·refine qK 5 [1] U (az (dU kJ ty70 gM.Versions.1 (nthZ ar) (au ar) U U U (fun _ _ _ e=>e) (fun q4 r4 A4 ok4=>dg ty70 A4 U U (bC 0 ty70 U U U U U U (aN ?_)))))
   have hs6:bM aZ no=y1:=hs4
   exact fS [.agg (Version.cells y1 r4).toArray] func46 U ⟨⟨0,_,_,_,_,U,U,.inl ⟨ty70,U⟩⟩,trivial⟩ ⟨r4,congrArg (fun r:Version=>(.agg (Version.cells r r4).toArray:Value)) hs6.symm,(by rw [hs6];exact ok4)⟩
  ·exact aG (qT 3 U (ae (v':=I (((i1+1):Nat):Int)) U (aL ob) (an (ag1 hs5))))
 ·rintro i1 hd1 eM hx e
  exact qK 7 [1] U (ae (v':=.bool false) U (cb eM) (qO 3 U (hx _ rd)))
theorem jH (h:HF) (l:List Version) (eE:Option Addr) (eD:Nat) (fc:Int) (known:Int) (hl:SlC Version.rp h eE eD l):Ret prog 120 [.slice eE l.length eD,I fc,I known] h (I (aw l fc known)):=by
 refine sT func120 U ntmps120 U fun X hM hX hF=>?_
 have hs0:aw l fc known=aw l fc known:=rfl
 refine qT 13 U ?_
 refine lp2 l (fun i w=>[(0,.slice eE l.length eD),(1,I fc),(2,I known),(7,I w),(8,I (i:Int))]) (fun _=>h) (fun w=>[]) (fun i w=>-1≤w∧w < (l.length:Int)) (fun s1 i w=>(aw.L1 l fc known (aw.K1)) s1 i w) (-1) hl.1.1 hs0 (by first | omega | (dsimp only;omega)) ?_ ?_ ?_
 ·rintro i1 kw eR hs1 u1_0 e
  exact sr (qO 3 U (nretP [I kw] (ci hs1)))
 ·rintro i1 kw y1 rz1 hd1 cz ar dF fF hs3 u1_0 hx1 ag1 e
  refine qK 6 [] U (ae (v':=.bool true) U (cb cz) (qO 6 U ?_))
  refine jM [(0,.slice eE l.length eD),(1,I fc),(2,I known),(7,I kw),(8,I (i1:Int)),(47,.bool ((decide (y1.At≤fc)&&decide (y1.Known≤known))&&(decide (kw < 0)||decide ((nthI l kw).At≤y1.At))))] (fun e=>?_) (fun hk1=>?_)
  rotate_left
  ·refine eA ([]) mixed kr jn (fun cI _=>?_)
   refine qA [0,1] U (gA 2 cI jn kJ ty70 hl.1 (nthZ ar) (au ar) U U U U kr (fun q3 cs3 A3 ln3 rr3=>?_))
   obtain ⟨r3,rfl,ok3⟩:=rr3
   refine qB [3] U (tf 4 U U (fun _ _ hj=>j4 1 ty3 (A3.mono hj.1) U U) (qR 5 3 U ?_))
   refine ct 22 U (fun c1=>?_) (fun c1=>?_)
   ·have c1p:=of_decide_eq_true c1
    refine qA [8,9] U (gA 10 cI jn kJ ty70 hl.1 (nthZ ar) (au ar) U U U U kr (fun q4 cs4 A4 ln4 rr4=>?_))
    obtain ⟨r4,rfl,ok4⟩:=rr4
    refine qB [11] U (tf 12 U U (fun _ _ hj=>j4 2 ty3 (A4.mono hj.1) U U) (qR 13 4 U ?_))
    refine ct 31 U (fun c2=>?_) (fun c2=>?_)
    ·have c2p:=of_decide_eq_true c2
     refine qR 17 3 U ?_
     refine ct 34 U (fun c3=>?_) (fun c3=>?_)
     ·have c3p:=of_decide_eq_true c3
      exact tk 20 U U (qR 21 12 U (aI kr (hk1 _ ⟨U,U,U,U,U,(cb (show true=((decide (y1.At≤fc)&&decide (y1.Known≤known))&&(decide (kw < 0)||decide ((nthI l kw).At≤y1.At))) from by rw [c1,c2,c3] <;> rfl)),trivial⟩)))
     ·have c3p:=of_decide_eq_false c3
      refine qA [20,21] U (gA 22 cI jn kJ ty70 hl.1 (nthZ ar) (au ar) U U U U kr (fun q5 cs5 A5 ln5 rr5=>?_))
      obtain ⟨r5,rfl,ok5⟩:=rr5
      refine qB [23] U (tf 24 U U (fun _ _ hj=>j4 1 ty3 (A5.mono hj.1) U U) (qA [25,26] U ?_))
      have ho1:0≤(kw:Int)∧(kw:Int) < ((l).length:Int):=ob
      refine gA 27 cI jn kJ ty70 hl.1 ho1 (bJ ho1) U U U U kr (fun q6 cs6 A6 ln6 rr6=>?_)
      obtain ⟨r6,rfl,ok6⟩:=rr6
      exact tf 28 U U (fun _ _ _=>nn Jn U) (tf 29 U U (fun _ _ hj=>j4 1 ty3 (A6.mono hj.1) U U) (qR 30 3 U (aI kr (hk1 _ ⟨U,U,U,U,U,(cb (show decide ((nthI l kw).At≤y1.At)=((decide (y1.At≤fc)&&decide (y1.Known≤known))&&(decide (kw < 0)||decide ((nthI l kw).At≤y1.At))) from by rw [c1,c2,c3] <;> rfl)),trivial⟩))))
    ·have c2p:=of_decide_eq_false c2
     exact tk 17 U U (qR 18 15 U (aI kr (hk1 _ ⟨U,U,U,U,U,(cb (show false=((decide (y1.At≤fc)&&decide (y1.Known≤known))&&(decide (kw < 0)||decide ((nthI l kw).At≤y1.At))) from by rw [c1,c2] <;> rfl)),trivial⟩)))
   ·have c1p:=of_decide_eq_false c1
    exact tk 8 U U (qR 9 24 U (aI kr (hk1 _ ⟨U,U,U,U,U,(cb (show false=((decide (y1.At≤fc)&&decide (y1.Known≤known))&&(decide (kw < 0)||decide ((nthI l kw).At≤y1.At))) from by rw [c1] <;> rfl)),trivial⟩)))
  refine ac hs3 U (fun c4 hs4=>?_) (fun c4 hs5=>?_)
  ·exact bh (qO 6 U (ae (v':=I (((i1+1):Nat):Int)) U (aL ob) (an (ag1 (i1:Int) hs4 (by first | omega | (dsimp only;omega))))))
  ·exact aG (qT 3 U (ae (v':=I (((i1+1):Nat):Int)) U (aL ob) (an (ag1 kw hs5 (by first | omega | (dsimp only;omega))))))
 ·rintro i1 kw hd1 eM hx e
  exact qK 6 [] U (ae (v':=.bool false) U (cb eM) (qO 3 U (hx _ rd)))
theorem kh (l:List Version) (a b:Int):aw l a b < (l.length:Int):=by
 have key:∀ (s:List Version) (i:Nat) (g:Int),i+s.length=l.length→g < (l.length:Int)→aw.L1 l a b aw.K1 s i g < (l.length:Int):=by
  intro s
  induction s with
  | nil=>intro i g _ hg;exact hg
  | cons y s ih=>
   intro i g hi hg
   simp only [List.length_cons] at hi
   simp only [aw.L1,Bool.cond_eq_ite]
   split
   ·exact ih _ _ ob ob
   ·exact ih _ _ ob hg
 exact key l 0 (-1) (by simp) ob
theorem qy (h:HF) (l:List Int) (eE:Option Addr) (eD:Nat) (kl:Int) (hl:SlC Rp.int h eE eD l) (hsz0:l.length≤2000000):iW prog 197 [.slice eE l.length eD,I kl] h (fun v h'=>∃ (rb0:Option Addr) (rc0:Nat),v=.slice rb0 (dy l kl).length rc0∧SlC Rp.int h' rb0 rc0 (dy l kl)):=by
 refine sT func197 U ntmps197 U fun X hM hX hF=>?_
 have hs0:dy l kl=dy l kl:=rfl
 refine qT 9 U ?_
 refine lp0 l (fun i=>[(0,.slice eE l.length eD),(1,I kl),(5,I (i:Int))]) ([]) (fun s1 i=>(dy.L1 kl (dy.K1 l kl)) s1 i) hl.1.1 hs0 ?_ ?_ ?_
 ·rintro i1 eR hs1 e
  refine qK 8 [] U (bz 7 [24,25,26,27,28,29,30,31] 24 31 ((nthI l (i1:Int))==kl) U (fun c2 hk1=>?_) (fun e=>?_))
  ·refine qO 2 U ?_
   have ho2:0≤((i1:Int):Int)∧((i1:Int):Int) < ((l).length:Int):=ob
   exact az (ef (enc:=fun y=>[I y]) ei cR ty3 hl.1 ho2 (bJ ho2) U U U (fun q3 A3=>cL ty3 A3 U (qO 3 U (hk1 _ U))))
  refine aN (ac hs1 U (fun c3 hs2=>?_) (fun c3 hs3=>?_))
  ·refine qT 5 U ?_
   have hs4:dy l kl=l:=hs2
   exact nretH [.slice eE l.length eD] ⟨eE,eD,congrArg (fun r:List Int=>(.slice eE r.length eD:Value)) hs4.symm,(by rw [hs4];exact hl)⟩
  ·refine qT 2 U (eA ([]) mixed kr jn (fun cI _=>qA [1,2] U (AY 3 cI jn cR ty3 hl.1 hl.2 ob U U U U kr (fun sb1 sc1 sl1=>qA [5,8,9] U (AZ 10 cI jn cR ty3 hl.1 hl.2 ob U U U U kr (fun sb2 sc2 sl2=>?_))))))
   refine ju 0 6 kr U U ?_ ?_ 
   ·refine iY cR ty3 (fun b1=>⟨jn,?_⟩)
    refine ju 4 6 kr U U ?_ ?_ 
    ·refine bR Rp.dM ([]) ([]) (fun G=>G) ap (fun _=>ap) cR ty3 zc3 U bytes3 (cJ.lit (show aT Rp.int h [] ([]) from U) U) U U (fC sl1.1) lo lo (fun ob1 oc1 G1 gr1=>⟨jn,(tn 6 U (bd (cells:=[I kl]) cR ty3 zc3 U U kr (fun b2=>⟨jn,tn 7 U (bR Rp.dM ([(b2,O [I kl] 3)]) ([]) (fun G=>[(b2,O [I kl] 3)]++G) ap (fun _=>ap) cR ty3 zc3 U bytes3 gr1 U U (dr 0 U (show aT Rp.int h [I kl] ([kl]) from ⟨[I kl],[],U,U,U,U⟩)) lo lo (fun ob2 oc2 G2 gr2=>⟨jn,(tn 11 U (bR Rp.dM ([(b2,O [I kl] 3)]) ([]) (fun G=>[(b2,O [I kl] 3)]++G) ap (fun _=>ap) cR ty3 zc3 U bytes3 gr2 U U (fC sl2.1) lo lo (fun ob3 oc3 G3 gr3=>⟨jn,(qA [12] U (aI kr (eK Rp.aW ([(b2,O [I kl] 3)]) G3 ([]) ap hM gr3 (fun h1 hle1 sl3=>?_))))⟩)))⟩))⟩)))⟩)
     have hs5:dy l kl=(((l.take (((i1:Int):Int)).toNat)++[kl])++(l.drop (((i1:Int):Int)).toNat)):=hs3
     exact nretH [.slice ob3 ((((l.take (((i1:Int):Int)).toNat)++[kl])++(l.drop (((i1:Int):Int)).toNat)).length) oc3] ⟨ob3,oc3,congrArg (fun r:List Int=>(.slice ob3 r.length oc3:Value)) hs5.symm,(by rw [hs5];exact sl3)⟩
    ·refine bd (cells:=[I kl]) cR ty3 zc3 U U kr (fun b3=>⟨jn,(tn 4 U (bR Rp.dM ([(b3,O [I kl] 3)]) ([]) (fun G=>[(b3,O [I kl] 3)]++G) ap (fun _=>ap) cR ty3 zc3 U bytes3 (cJ.lit (show aT Rp.int h [] ([]) from U) U) U U (fC sl1.1) lo lo (fun ob4 oc4 G4 gr4=>⟨jn,(tn 7 U (bR Rp.dM ([(b3,O [I kl] 3)]) ([]) (fun G=>[(b3,O [I kl] 3)]++G) ap (fun _=>ap) cR ty3 zc3 U bytes3 gr4 U U (dr 0 U (show aT Rp.int h [I kl] ([kl]) from ⟨[I kl],[],U,U,U,U⟩)) lo lo (fun ob5 oc5 G5 gr5=>⟨jn,(tn 11 U (bR Rp.dM ([(b3,O [I kl] 3)]) ([]) (fun G=>[(b3,O [I kl] 3)]++G) ap (fun _=>ap) cR ty3 zc3 U bytes3 gr5 U U (fC sl2.1) lo lo (fun ob6 oc6 G6 gr6=>⟨jn,(qA [12] U (aI kr (eK Rp.aW ([(b3,O [I kl] 3)]) G6 ([]) ap hM gr6 (fun h2 hle2 sl4=>?_))))⟩)))⟩)))⟩)))⟩)
     have hs6:dy l kl=(((l.take (((i1:Int):Int)).toNat)++[kl])++(l.drop (((i1:Int):Int)).toNat)):=hs3
     exact nretH [.slice ob6 ((((l.take (((i1:Int):Int)).toNat)++[kl])++(l.drop (((i1:Int):Int)).toNat)).length) oc6] ⟨ob6,oc6,congrArg (fun r:List Int=>(.slice ob6 r.length oc6:Value)) hs6.symm,(by rw [hs6];exact sl4)⟩
   ·refine bd (cells:=[I kl]) cR ty3 zc3 U U kr (fun b4=>⟨jn,(tn 0 U (iY cR ty3 (fun b5=>⟨jn,(tn 4 U (bR Rp.dM ([]) ([(b4,O [I kl] 3)]) (fun G=>[(b4,O [I kl] 3)]++G) ap (fun _=>ap) cR ty3 zc3 U bytes3 (cJ.lit (show aT Rp.int h [] ([]) from U) U) U U (fC sl1.1) lo lo (fun ob7 oc7 G7 gr7=>⟨jn,(tn 7 U (bR Rp.dM ([(b4,O [I kl] 3)]) ([]) (fun G=>[(b4,O [I kl] 3)]++G) ap (fun _=>ap) cR ty3 zc3 U bytes3 gr7 U U (dr 0 U (show aT Rp.int h [I kl] ([kl]) from ⟨[I kl],[],U,U,U,U⟩)) lo lo (fun ob8 oc8 G8 gr8=>⟨jn,(tn 11 U (bR Rp.dM ([(b4,O [I kl] 3)]) ([]) (fun G=>[(b4,O [I kl] 3)]++G) ap (fun _=>ap) cR ty3 zc3 U bytes3 gr8 U U (fC sl2.1) lo lo (fun ob9 oc9 G9 gr9=>⟨jn,(qA [12] U (aI kr (eK Rp.aW ([(b4,O [I kl] 3)]) G9 ([]) ap hM gr9 (fun h3 hle3 sl5=>?_))))⟩)))⟩)))⟩)))⟩)))⟩)
    have hs7:dy l kl=(((l.take (((i1:Int):Int)).toNat)++[kl])++(l.drop (((i1:Int):Int)).toNat)):=hs3
    exact nretH [.slice ob9 ((((l.take (((i1:Int):Int)).toNat)++[kl])++(l.drop (((i1:Int):Int)).toNat)).length) oc9] ⟨ob9,oc9,congrArg (fun r:List Int=>(.slice ob9 r.length oc9:Value)) hs7.symm,(by rw [hs7];exact sl5)⟩
 ·rintro i1 y1 rz1 hd1 cz ar dF fF hs8 hx1 ag1 e
  refine qK 6 [] U (ae (v':=.bool true) U (cb cz) (qO 3 U (az (ef (enc:=fun y=>[I y]) ei cR ty3 hl.1 (nthZ ar) (au ar) U U U (fun q4 A4=>cL ty3 A4 U (qO 4 U (ac hs8 U (fun c4 hs9=>?_) (fun c4 hs10=>?_))))))))
  ·have c4p:=of_decide_eq_true c4
   exact aG (qT 3 U (ae (v':=I (((i1+1):Nat):Int)) U (aL ob) (qO 3 U (ag1 hs9))))
  ·have c4p:=of_decide_eq_false c4
   exact jJ U (hx1 i1 hs10)
 ·rintro i1 hd1 eM hx e
  exact qK 6 [] U (ae (v':=.bool false) U (cb eM) (qO 11 U (hx _ rd)))
end Go.Sg
