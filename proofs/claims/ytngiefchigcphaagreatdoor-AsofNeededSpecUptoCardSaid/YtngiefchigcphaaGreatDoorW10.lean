import Derived.Test.YtngiefchigcphaaGreatDoorW9
/- A part of the proof of AsofNeededSpec. -/
set_option linter.unusedVariables false
set_option linter.unusedSimpArgs false
set_option maxRecDepth 100000
namespace Go.Sg
open Go.Proofs Go.Proofs.Tryz
set_option maxHeartbeats 2000000
theorem wD (h:HF) (p:Policy) (gp:dS) (hp:Policy.ok h p gp) (hsm:smP p):iq prog 189 [.agg (Policy.cells p gp).toArray] h (fun v h'=>∃ (rr0:dS),v=.tuple #[.agg (Policy.cells ((df p).1) rr0).toArray,I ((df p).2)]∧Policy.ok h' ((df p).1) rr0):=by
 refine cU FB U ntmps189 U fun X hM hX=>?_
 have hs0:df p=df p:=rfl
 have hsc:=hsm.change
 have hsr:=hsm.rules
 refine sr (cA (fun b1=>bH zc68 (fun b2=>qO 5 U (cJ 1 ty68 U U U (ah call227 (vB _ _ _ hp) U (aM (ac hs0 U (fun c1 hs1=>?_) (fun c1 hs2=>?_))))))))
 ·refine sr (aA (er (cells:=[.string (⟨#[]⟩:ByteArray),.slice none 0 0,.slice none 0 0,.slice none 0 0,I 0,I 0,I 0,.string (⟨#[]⟩:ByteArray),.slice none 0 0,I 0]) (places:=[(0,1),(1,1),(2,1),(3,1),(4,5),(9,1)]) FS zc68 kr kr (bE 0 ty68 U U U U U U (an ?_))))
  have hs3:df p=((Policy.mk (⟨#[]⟩:ByteArray) ([]) ([]) ([]) (Expr.mk 0 0 0 (⟨#[]⟩:ByteArray) ([])) 0),2):=hs1
  exact fR [.agg (List.toArray [.string (⟨#[]⟩:ByteArray),.slice none 0 0,.slice none 0 0,.slice none 0 0,I 0,I 0,I 0,.string (⟨#[]⟩:ByteArray),.slice none 0 0,I 0]),I 2] FB U ⟨⟨0,_,_,_,_,U,U,.inl ⟨ty68,U⟩⟩,U,trivial⟩ ⟨(dS.mk none 0 none 0 none 0 (cm.mk none 0)),congrArg (fun r:(Policy×Int)=>(.tuple #[.agg (Policy.cells r.1 (dS.mk none 0 none 0 none 0 (cm.mk none 0))).toArray,I r.2]:Value)) hs3.symm,(by rw [hs3];exact (show Policy.ok h (Policy.mk (⟨#[]⟩:ByteArray) ([]) ([]) ([]) (Expr.mk 0 0 0 (⟨#[]⟩:ByteArray) ([])) 0) (dS.mk none 0 none 0 none 0 (cm.mk none 0)) from ⟨SlC.nil,SlC.nil,SlC.nil,(show Expr.ok h (Expr.mk 0 0 0 (⟨#[]⟩:ByteArray) ([])) (cm.mk none 0) from Expr.ok.of SlC.nil)⟩))⟩
 refine qT 4 U (cJ 1 ty68 U U U (ah call228 (zq _ _ _ hp) U (qO 2 U (ac hs2 U (fun c2 hs4=>?_) (fun c2 hs5=>?_)))))
 ·refine sr (aA (er (cells:=[.string (⟨#[]⟩:ByteArray),.slice none 0 0,.slice none 0 0,.slice none 0 0,I 0,I 0,I 0,.string (⟨#[]⟩:ByteArray),.slice none 0 0,I 0]) (places:=[(0,1),(1,1),(2,1),(3,1),(4,5),(9,1)]) FS zc68 kr kr (bE 0 ty68 U U U U U U (an ?_))))
  have hs6:df p=((Policy.mk (⟨#[]⟩:ByteArray) ([]) ([]) ([]) (Expr.mk 0 0 0 (⟨#[]⟩:ByteArray) ([])) 0),201):=hs4
  exact fR [.agg (List.toArray [.string (⟨#[]⟩:ByteArray),.slice none 0 0,.slice none 0 0,.slice none 0 0,I 0,I 0,I 0,.string (⟨#[]⟩:ByteArray),.slice none 0 0,I 0]),I 201] FB U ⟨⟨0,_,_,_,_,U,U,.inl ⟨ty68,U⟩⟩,U,trivial⟩ ⟨(dS.mk none 0 none 0 none 0 (cm.mk none 0)),congrArg (fun r:(Policy×Int)=>(.tuple #[.agg (Policy.cells r.1 (dS.mk none 0 none 0 none 0 (cm.mk none 0))).toArray,I r.2]:Value)) hs6.symm,(by rw [hs6];exact (show Policy.ok h (Policy.mk (⟨#[]⟩:ByteArray) ([]) ([]) ([]) (Expr.mk 0 0 0 (⟨#[]⟩:ByteArray) ([])) 0) (dS.mk none 0 none 0 none 0 (cm.mk none 0)) from ⟨SlC.nil,SlC.nil,SlC.nil,(show Expr.ok h (Expr.mk 0 0 0 (⟨#[]⟩:ByteArray) ([])) (cm.mk none 0) from Expr.ok.of SlC.nil)⟩))⟩
 refine qT 4 U (cJ 1 ty68 U U U (ah call229 (yk _ _ _ hp) U (qO 2 U (ac hs5 U (fun c3 hs7=>?_) (fun c3 hs8=>?_)))))
 ·refine sr (aA (er (cells:=[.string (⟨#[]⟩:ByteArray),.slice none 0 0,.slice none 0 0,.slice none 0 0,I 0,I 0,I 0,.string (⟨#[]⟩:ByteArray),.slice none 0 0,I 0]) (places:=[(0,1),(1,1),(2,1),(3,1),(4,5),(9,1)]) FS zc68 kr kr (bE 0 ty68 U U U U U U (an ?_))))
  have hs9:df p=((Policy.mk (⟨#[]⟩:ByteArray) ([]) ([]) ([]) (Expr.mk 0 0 0 (⟨#[]⟩:ByteArray) ([])) 0),200):=hs7
  exact fR [.agg (List.toArray [.string (⟨#[]⟩:ByteArray),.slice none 0 0,.slice none 0 0,.slice none 0 0,I 0,I 0,I 0,.string (⟨#[]⟩:ByteArray),.slice none 0 0,I 0]),I 200] FB U ⟨⟨0,_,_,_,_,U,U,.inl ⟨ty68,U⟩⟩,U,trivial⟩ ⟨(dS.mk none 0 none 0 none 0 (cm.mk none 0)),congrArg (fun r:(Policy×Int)=>(.tuple #[.agg (Policy.cells r.1 (dS.mk none 0 none 0 none 0 (cm.mk none 0))).toArray,I r.2]:Value)) hs9.symm,(by rw [hs9];exact (show Policy.ok h (Policy.mk (⟨#[]⟩:ByteArray) ([]) ([]) ([]) (Expr.mk 0 0 0 (⟨#[]⟩:ByteArray) ([])) 0) (dS.mk none 0 none 0 none 0 (cm.mk none 0)) from ⟨SlC.nil,SlC.nil,SlC.nil,(show Expr.ok h (Expr.mk 0 0 0 (⟨#[]⟩:ByteArray) ([])) (cm.mk none 0) from Expr.ok.of SlC.nil)⟩))⟩
 refine qT 3 U (cJ 1 ty68 U U U (bH zc68 (fun b3=>bE 0 ty68 U U U U U U (qL 4 [] U (dw 0 ty63 U U U U U U (qO 6 U ?_))))))
 let z4:Nat×Obj:=(b2,O [.string (⟨#[]⟩:ByteArray),.slice none 0 0,.slice none 0 0,.slice none 0 0,I 0,I 0,I 0,.string (⟨#[]⟩:ByteArray),.slice none 0 0,I 0] 68)
 let z7:Nat×Obj:=(b1,O (Policy.cells p gp) 68)
 refine lp2 p.Rules (fun i w=>[(1,Q b1),(2,Q b2),(4,Q b3),(5,I (i:Int))]) (fun w=>w.2.2.2.2) (fun w=>[(b3,O [.string p.Name,.slice gp.gI p.Kinds.length gp.gH,.slice gp.fc p.Offices.length gp.fb,.slice w.2.1 w.1.length w.2.2.1,I p.Change.Kind,I p.Change.N,I p.Change.No,.string p.Change.Name,.slice gp.Change.iL p.Change.L.length gp.Change.iP,I p.Mode] 68),z4,z7]++(w.2.2.2.1)) (fun i w=>cM Rule.rp 107 w.2.2.2.2 w.1 w.2.1 w.2.2.1 w.2.2.2.1∧w.1.length≤0+i∧HF.le h w.2.2.2.2) (fun s1 i w=>(df.L1 p (df.K1 p)) s1 i w.1) ([],none,0,[],h) hp.Rules.1.1 hs8 ⟨cM.nil,lo,lf⟩ ?_ ?_ ?_
 ·rintro i1 ⟨ka,mS,mR,sP,hh1⟩ et hs10 ⟨sO,Ah,hl1⟩ e
  try dsimp only at sO Ah hl1
  refine qK 5 [2] U (cJ 2 ty66 U U U (aA (cf Dg (po _ _ _ _ _ _ (hp.Offices.mono Rp.gl hl1) (hp.Change.mono hl1) ob) U (fun v3 h4 hle4 hp3=>?_))))
  obtain ⟨rr4,rfl,ok4⟩:=hp3
  let z2:Nat×Obj:=(b3,O [.string p.Name,.slice gp.gI p.Kinds.length gp.gH,.slice gp.fc p.Offices.length gp.fb,.slice mS ka.length mR,I ((aa p.Offices p.Change).Kind),I ((aa p.Offices p.Change).N),I ((aa p.Offices p.Change).No),.string ((aa p.Offices p.Change).Name),.slice rr4.iL ((aa p.Offices p.Change).L.length) rr4.iP,I p.Mode] 68)
  let z3:Nat×Obj:=(b2,O [.string p.Name,.slice gp.gI p.Kinds.length gp.gH,.slice gp.fc p.Offices.length gp.fb,.slice mS ka.length mR,I ((aa p.Offices p.Change).Kind),I ((aa p.Offices p.Change).N),I ((aa p.Offices p.Change).No),.string ((aa p.Offices p.Change).Name),.slice rr4.iL ((aa p.Offices p.Change).L.length) rr4.iP,I p.Mode] 68)
  refine qL 1 [] U (dw 0 ty66 U U U U U U (qO 3 U (cJ 0 ty68 U U U (bE 1 ty68 U U U U U U (iW (L':=[z2,z3,z7]++(sP)) U (an (eI Rule.ak ([z2,z3,z7]) sP ([]) ap hM (sO.mono Rule.ak hle4) (fun h5 hle5 sl2=>?_))))))))
  have hs11:df p=((Policy.mk p.Name p.Kinds p.Offices ka (Expr.mk ((aa p.Offices p.Change).Kind) ((aa p.Offices p.Change).N) ((aa p.Offices p.Change).No) ((aa p.Offices p.Change).Name) ((aa p.Offices p.Change).L)) p.Mode),0):=hs10
  exact fR [.agg (Policy.cells (Policy.mk p.Name p.Kinds p.Offices ka (Expr.mk ((aa p.Offices p.Change).Kind) ((aa p.Offices p.Change).N) ((aa p.Offices p.Change).No) ((aa p.Offices p.Change).Name) ((aa p.Offices p.Change).L)) p.Mode) (dS.mk gp.gI gp.gH gp.fc gp.fb mS mR (cm.mk rr4.iL rr4.iP))).toArray,I 0] FB U ⟨⟨1,_,_,_,_,U,U,.inl ⟨ty68,U⟩⟩,U,trivial⟩ ⟨(dS.mk gp.gI gp.gH gp.fc gp.fb mS mR (cm.mk rr4.iL rr4.iP)),congrArg (fun r:(Policy×Int)=>(.tuple #[.agg (Policy.cells r.1 (dS.mk gp.gI gp.gH gp.fc gp.fb mS mR (cm.mk rr4.iL rr4.iP))).toArray,I r.2]:Value)) hs11.symm,(by rw [hs11];exact (show Policy.ok h5 (Policy.mk p.Name p.Kinds p.Offices ka (Expr.mk ((aa p.Offices p.Change).Kind) ((aa p.Offices p.Change).N) ((aa p.Offices p.Change).No) ((aa p.Offices p.Change).Name) ((aa p.Offices p.Change).L)) p.Mode) (dS.mk gp.gI gp.gH gp.fc gp.fb mS mR (cm.mk rr4.iL rr4.iP)) from ⟨(hp.Kinds.mono Rp.gl ((hl1.t hle4).t hle5)),(hp.Offices.mono Rp.gl ((hl1.t hle4).t hle5)),sl2,(show Expr.ok h5 (Expr.mk ((aa p.Offices p.Change).Kind) ((aa p.Offices p.Change).N) ((aa p.Offices p.Change).No) ((aa p.Offices p.Change).Name) ((aa p.Offices p.Change).L)) (cm.mk rr4.iL rr4.iP) from Expr.ok.of (ok4.list.mono Expr.ak hle5))⟩))⟩
 ·rintro i1 ⟨ka,mS,mR,sP,hh1⟩ y1 rz1 hd1 cw ao dy fB hs12 ⟨sO,Ah,hl1⟩ hx1 ag1 e
  try dsimp only at sO Ah hl1
  have hsy:=hsm.2.1 y1 (fq hd1)
  refine qK 7 [2] U (ad (v':=.bool true) U (cb cw) (qL 9 [2] U ?_))
  let z1:Nat×Obj:=(b3,O [.string p.Name,.slice gp.gI p.Kinds.length gp.gH,.slice gp.fc p.Offices.length gp.fb,.slice mS ka.length mR,I p.Change.Kind,I p.Change.N,I p.Change.No,.string p.Change.Name,.slice gp.Change.iL p.Change.L.length gp.Change.iP,I p.Mode] 68)
  refine aj (aA (dV pc ty107 (hp.Rules.mono Rule.ak hl1).1 (nthZ ao) (au ao) U U U (fun _ _ _ e=>e) (fun q2 r2 A2 ok5=>de ty107 A2 U U (bH zc107 (fun b6=>bE 0 ty107 U U U U U U (iW (L':=[(b6,O (Rule.cells y1 r2) 107),z1,z4,z7]++(sP)) U (qL 5 [] U (dw 0 ty3 U U U U U U (qL 6 [3] U (cJ 0 ty66 U U U (aA (cf Dg (po _ _ _ _ _ _ (hp.Offices.mono Rp.gl hl1) ok5.Expr ob) U (fun v4 h6 hle6 hp4=>?_)))))))))))))
  obtain ⟨rr6,rfl,ok6⟩:=hp4
  refine qL 1 [] U (dw 0 ty66 U U U U U U (qL 4 [1] U (cJ 0 ty107 U U U (aA (bg (cells:=[.string y1.Kind,I (i1:Int),I y1.Think,I ((aa p.Offices y1.Expr).Kind),I ((aa p.Offices y1.Expr).N),I ((aa p.Offices y1.Expr).No),.string ((aa p.Offices y1.Expr).Name),.slice rr6.iL ((aa p.Offices y1.Expr).L.length) rr6.iP]) pc ty107 zc107 U U kr (fun b7=>?_))))))
  let z5:Nat×Obj:=(b7,O [.string y1.Kind,I (i1:Int),I y1.Think,I ((aa p.Offices y1.Expr).Kind),I ((aa p.Offices y1.Expr).N),I ((aa p.Offices y1.Expr).No),.string ((aa p.Offices y1.Expr).Name),.slice rr6.iL ((aa p.Offices y1.Expr).L.length) rr6.iP] 107)
  let z6:Nat×Obj:=(b6,O [.string y1.Kind,I (i1:Int),I y1.Think,I ((aa p.Offices y1.Expr).Kind),I ((aa p.Offices y1.Expr).N),I ((aa p.Offices y1.Expr).No),.string ((aa p.Offices y1.Expr).Name),.slice rr6.iL ((aa p.Offices y1.Expr).L.length) rr6.iP] 107)
  refine aA (bS Rule.eC ([z5,z6,z1,z4,z7]) ([]) (fun G=>[z5,z6,z1,z4,z7]++G) ap (fun _=>ap) pc ty107 zc107 U bytes107 (sO.mono Rule.ak hle6) U U (du 0 U (show aP Rule.rp h6 [.string y1.Kind,I (i1:Int),I y1.Think,I ((aa p.Offices y1.Expr).Kind),I ((aa p.Offices y1.Expr).N),I ((aa p.Offices y1.Expr).No),.string ((aa p.Offices y1.Expr).Name),.slice rr6.iL ((aa p.Offices y1.Expr).L.length) rr6.iP] ([(Rule.mk y1.Kind (i1:Int) y1.Think (Expr.mk ((aa p.Offices y1.Expr).Kind) ((aa p.Offices y1.Expr).N) ((aa p.Offices y1.Expr).No) ((aa p.Offices y1.Expr).Name) ((aa p.Offices y1.Expr).L)))]) from ⟨[.string y1.Kind,I (i1:Int),I y1.Think,I ((aa p.Offices y1.Expr).Kind),I ((aa p.Offices y1.Expr).N),I ((aa p.Offices y1.Expr).No),.string ((aa p.Offices y1.Expr).Name),.slice rr6.iL ((aa p.Offices y1.Expr).L.length) rr6.iP],[],U,U,⟨(wm.mk (cm.mk rr6.iL rr6.iP)),U,(show Rule.ok h6 (Rule.mk y1.Kind (i1:Int) y1.Think (Expr.mk ((aa p.Offices y1.Expr).Kind) ((aa p.Offices y1.Expr).N) ((aa p.Offices y1.Expr).No) ((aa p.Offices y1.Expr).Name) ((aa p.Offices y1.Expr).L))) (wm.mk (cm.mk rr6.iL rr6.iP)) from ⟨(show Expr.ok h6 (Expr.mk ((aa p.Offices y1.Expr).Kind) ((aa p.Offices y1.Expr).N) ((aa p.Offices y1.Expr).No) ((aa p.Offices y1.Expr).Name) ((aa p.Offices y1.Expr).L)) (cm.mk rr6.iL rr6.iP) from Expr.ok.of ok6.list)⟩)⟩,U⟩)) lo lo (fun ob2 oc2 G2 gr2=>qL 1 [] U (dw 2 ty63 U U U U U U (qO 4 U (ad (v':=I (((i1+1):Nat):Int)) U (aL ob) (an (bU (L':=[(b3,O [.string p.Name,.slice gp.gI p.Kinds.length gp.gH,.slice gp.fc p.Offices.length gp.fb,.slice ob2 ((ka++[(Rule.mk y1.Kind (i1:Int) y1.Think (Expr.mk ((aa p.Offices y1.Expr).Kind) ((aa p.Offices y1.Expr).N) ((aa p.Offices y1.Expr).No) ((aa p.Offices y1.Expr).Name) ((aa p.Offices y1.Expr).L)))]).length) oc2,I p.Change.Kind,I p.Change.N,I p.Change.No,.string p.Change.Name,.slice gp.Change.iL p.Change.L.length gp.Change.iP,I p.Mode] 68),z4,z7]++G2) js ?_)))))))
  exact ag1 ((ka++[(Rule.mk y1.Kind (i1:Int) y1.Think (Expr.mk ((aa p.Offices y1.Expr).Kind) ((aa p.Offices y1.Expr).N) ((aa p.Offices y1.Expr).No) ((aa p.Offices y1.Expr).Name) ((aa p.Offices y1.Expr).L)))]),ob2,oc2,G2,h6) hs12 ⟨gr2,lo,(hl1.t hle6)⟩
 rintro i1 ⟨ka,mS,mR,sP,hh1⟩ hd1 eG hx e
 exact qK 7 [2] U (ad (v':=.bool false) U (cb eG) (qO 3 U (hx _ rd)))
theorem oy (h:HF) (a:List ByteArray) (Jd:Option Addr) (Jc:Nat) (gR:List ByteArray) (sZ:Option Addr) (sY:Nat) (ha:SlC Rp.str h Jd Jc a) (rK:SlC Rp.str h sZ sY gR):Ret prog 231 [.slice Jd a.length Jc,.slice sZ gR.length sY] h (.bool (dC a gR)):=by
 refine sT func231 U ntmps231 U fun X hM hX hF=>?_
 have hs0:dC a gR=dC a gR:=rfl
 refine qK 13 [] U (ac hs0 U (fun c1 hs1=>?_) (fun c1 hs2=>?_))
 ·exact sr (an (nretP [.bool false] (cs hs1)))
 refine qT 6 U ?_
 refine lp0 a (fun i=>[(0,.slice Jd a.length Jc),(1,.slice sZ gR.length sY),(5,I (i:Int))]) ([]) (fun s1 i=>(dC.L1 gR (dC.K1)) s1 i) ha.1.1 hs2 ?_ ?_ ?_
 ·rintro i1 et hs4 e
  exact sr (an (nretP [.bool true] (cs hs4)))
 ·rintro i1 y1 rz1 hd1 cw ao dy fB hs6 hx1 ag1 e
  refine qK 6 [] U (ad (v':=.bool true) U (cb cw) (qO 6 U (eB ([]) mixed kr jn (fun cB _=>qA [0,1] U (cD 2 (enc:=fun y=>[.string y]) cB jn ei pS ty9 ha.1 (nthZ ao) (au ao) U U U U kr (fun q3 A3=>tf 3 U U (fun _ _ hj=>eF ty9 (A3.mono hj.1) U) (qA [4,5] U ?_)))))))
  have ho2:0≤((i1:Int):Int)∧((i1:Int):Int) < ((gR).length:Int):=ob
  refine cD 6 (enc:=fun y=>[.string y]) cB jn ei pS ty9 rK.1 ho2 (bT ho2) U U U U kr (fun q4 A4=>tf 7 U U (fun _ _ hj=>eF ty9 (A4.mono hj.1) U) (qA [8] U (aI kr (ac hs6 U (fun c3 hs7=>?_) (fun c3 hs8=>?_)))))
  ·exact sr (an (nretP [.bool false] (cs hs7)))
  exact aE (qT 3 U (ad (v':=I (((i1+1):Nat):Int)) U (aL ob) (an (ag1 hs8))))
 rintro i1 hd1 eG hx e
 exact qK 6 [] U (ad (v':=.bool false) U (cb eG) (qO 3 U (hx _ rd)))
theorem uD (rec:Expr→Expr→Bool) (h:HF) (a:Expr) (Dd:cm) (gR:Expr) (mZ:cm) (hrec:∀ (h:HF) (qa:Expr) (JB:cm) (Ij:Expr) (CM:cm) (hqa:Expr.ok h qa JB) (Ls:Expr.ok h Ij CM) (_:qa.dep < a.dep),Ret prog 232 [.agg (Expr.cells qa JB).toArray,.agg (Expr.cells Ij CM).toArray] h (.bool (rec qa Ij))) (ha:Expr.ok h a Dd) (rK:Expr.ok h gR mZ):Ret prog 232 [.agg (Expr.cells a Dd).toArray,.agg (Expr.cells gR mZ).toArray] h (.bool (aX.F rec a gR)):=by
 refine sT func232 U ntmps232 U fun X hM hX hF=>?_
 have hs0:aX.F rec a gR=aX.F rec a gR:=rfl
 refine sr (cA (fun b1=>cA (fun b2=>qL 11 [1,0] U (ce 6 [11,12,13,14,15,16,17] 11 17 (a.N != gR.N) U (fun c1 hk1=>?_) (fun e=>?_)))))
 ·exact qL 6 [1,0] U (hk1 _ U)
 refine aj (ce 6 [18,19,20,21,22,23,24] 18 24 (a.No != gR.No) U (fun c2 hk2=>?_) (fun e=>?_))
 ·exact qL 6 [1,0] U (hk2 _ U)
 refine aj (ce 6 [25,26,27,28,29,30,31] 25 31 (!(a.Name.toList==gR.Name.toList)) U (fun c3 hk3=>?_) (fun e=>?_))
 ·exact qL 6 [1,0] U (hk3 _ U)
 refine aj (ce 8 [32,33,34,35,36,37,38,39,40] 32 40 ((a.L.length:Int) != (gR.L.length:Int)) U (fun c4 hk4=>?_) (fun e=>?_))
 ·exact qL 8 [1,0] U (hk4 _ U)
 refine aM (ac hs0 U (fun c5 hs1=>?_) (fun c5 hs2=>?_))
 ·exact sr (an (nretP [.bool false] (cs hs1)))
 refine qT 6 U ?_
 let z1:Nat×Obj:=(b2,O (Expr.cells gR mZ) 66)
 let z2:Nat×Obj:=(b1,O (Expr.cells a Dd) 66)
 refine lp0 a.L (fun i=>[(2,Q b1),(3,Q b2),(5,I (i:Int))]) ([z1,z2]) (fun s1 i=>(aX.L1 rec gR (aX.K1)) s1 i) ha.list.1.1 hs2 ?_ ?_ ?_
 ·rintro i1 et hs4 e
  exact sr (an (nretP [.bool true] (cs hs4)))
 ·rintro i1 y1 rz1 hd1 cw ao dy fB hs6 hx1 ag1 e
  refine qK 7 [1] U (ad (v':=.bool true) U (cb cw) (qO 6 U (eB ([z1,z2]) mixed kr jn (fun cB _=>qB [0] U (tf 1 U U (fun _ _ hj=>fI ty64 U (hj.nth (i:=1) U) U) (tm 2 U (gC 3 cB jn jh ty66 ha.list.1 (nthZ ao) (au ao) U U U U kr (fun q3 cs3 A3 ln3 rr3=>?_))))))))
  obtain ⟨r3,rfl,ok3⟩:=rr3
  refine tf 4 U U (fun _ _ hj=>iQ ty66 (A3.mono hj.1) U U) (qB [5] U (tf 6 U U (fun _ _ hj=>fI ty64 U (hj.nth (i:=0) U) U) (tm 7 U ?_)))
  have ho2:0≤((i1:Int):Int)∧((i1:Int):Int) < ((gR.L).length:Int):=ob
  refine gC 8 cB jn jh ty66 rK.list.1 ho2 (bT ho2) U U U U kr (fun q4 cs4 A4 ln4 rr4=>?_)
  obtain ⟨r4,rfl,ok4⟩:=rr4
  refine tf 9 U U (fun _ _ hj=>iQ ty66 (A4.mono hj.1) U U) (tn 10 U (eK call232 (hrec _ _ _ _ _ ok3 ok4 (Expr.gj (fq hd1))) U (⟨jn,qA [11] U (aI kr (ac hs6 U (fun c7 hs7=>?_) (fun c7 hs8=>?_)))⟩)))
  ·exact sr (an (nretP [.bool false] (cs hs7)))
  exact aE (qT 3 U (ad (v':=I (((i1+1):Nat):Int)) U (aL ob) (an (ag1 hs8))))
 rintro i1 hd1 eG hx e
 exact qK 7 [1] U (ad (v':=.bool false) U (cb eG) (qO 3 U (hx _ rd)))
theorem ns:∀ (m:Nat) (h:HF) (a:Expr) (Dd:cm) (gR:Expr) (mZ:cm) (_:a.dep≤m) (ha:Expr.ok h a Dd) (rK:Expr.ok h gR mZ),Ret prog 232 [.agg (Expr.cells a Dd).toArray,.agg (Expr.cells gR mZ).toArray] h (.bool (aX.go m a gR))
 | 0,h,a,Dd,gR,mZ,hd,ha,rK=>absurd hd (Nat.not_le.2 (Expr.jH _))
 | m+1,h,a,Dd,gR,mZ,hd,ha,rK=>uD (aX.go m) h a Dd gR mZ (fun qh_ qa JB Ij CM qha K5 qd=>ns m qh_ qa JB Ij CM ob qha K5) ha rK
theorem pr (h:HF) (a:Expr) (Dd:cm) (gR:Expr) (mZ:cm) (ha:Expr.ok h a Dd) (rK:Expr.ok h gR mZ):Ret prog 232 [.agg (Expr.cells a Dd).toArray,.agg (Expr.cells gR mZ).toArray] h (.bool (aX a gR)):=ns _ h a Dd gR mZ (Nat.le_refl _) ha rK
theorem AP (h:HF) (a:Policy) (Dd:dS) (gR:Policy) (mZ:dS) (ha:Policy.ok h a Dd) (rK:Policy.ok h gR mZ):Ret prog 190 [.agg (Policy.cells a Dd).toArray,.agg (Policy.cells gR mZ).toArray] h (.bool (fY a gR)):=by
 refine sT func190 U ntmps190 U fun X hM hX hF=>?_
 have hs0:fY a gR=fY a gR:=rfl
 refine sr (cA (fun b1=>cA (fun b2=>qL 11 [1,0] U (ce 6 [13,14,15,16,17,18,19] 13 19 (a.Mode != gR.Mode) U (fun c1 hk1=>?_) (fun e=>?_)))))
 ·exact qL 6 [1,0] U (hk1 _ U)
 refine aj (ce 7 [20,21,22,23,24,25,26,27] 20 27 (!(dC a.Offices gR.Offices)) U (fun c2 hk2=>?_) (fun e=>?_))
 ·exact qL 4 [1,0] U (ah call231 (oy _ _ _ _ _ _ _ ha.Offices rK.Offices) U (qO 2 U (hk2 _ U)))
 refine aj (ce 7 [28,29,30,31,32,33,34,35] 28 35 (!(dC a.Kinds gR.Kinds)) U (fun c3 hk3=>?_) (fun e=>?_))
 ·exact qL 4 [1,0] U (ah call231 (oy _ _ _ _ _ _ _ ha.Kinds rK.Kinds) U (qO 2 U (hk3 _ U)))
 refine aj (ce 8 [36,37,38,39,40,41,42,43,44] 36 44 ((a.Rules.length:Int) != (gR.Rules.length:Int)) U (fun c4 hk4=>?_) (fun e=>?_))
 ·exact qL 8 [1,0] U (hk4 _ U)
 refine aj (ce 7 [45,46,47,48,49,50,51,52] 45 52 (!(aX a.Change gR.Change)) U (fun c5 hk5=>?_) (fun e=>?_))
 ·exact qL 1 [] U (cJ 1 ty66 U U U (qL 1 [] U (cJ 0 ty66 U U U (ah call232 (pr _ _ _ _ _ ha.Change rK.Change) U (qO 2 U (hk5 _ U))))))
 refine aM (ac hs0 U (fun c6 hs1=>?_) (fun c6 hs2=>?_))
 ·exact sr (an (nretP [.bool false] (cs hs1)))
 refine qT 6 U ?_
 refine lp0 a.Rules (fun i=>[(2,Q b1),(3,Q b2),(5,I (i:Int))]) ([(b2,O (Policy.cells gR mZ) 68),(b1,O (Policy.cells a Dd) 68)]) (fun s1 i=>(fY.L1 gR (fY.K1)) s1 i) ha.Rules.1.1 hs2 ?_ ?_ ?_
 ·rintro i1 et hs4 e
  exact sr (an (nretP [.bool true] (cs hs4)))
 ·rintro i1 y1 rz1 hd1 cw ao dy fB hs6 hx1 ag1 e
  refine qK 7 [1] U (ad (v':=.bool true) U (cb cw) (qL 10 [1] U (aA (dV pc ty107 ha.Rules.1 (nthZ ao) (au ao) U U U (fun _ _ _ e=>e) (fun q3 r3 A3 ok3=>de ty107 A3 U U (bH zc107 (fun b5=>bE 0 ty107 U U U U U U (qL 6 [1] U ?_))))))))
  have ho2:0≤((i1:Int):Int)∧((i1:Int):Int) < ((gR.Rules).length:Int):=ob
  refine aA (dV pc ty107 rK.Rules.1 ho2 (bT ho2) U U U (fun _ _ _ e=>e) (fun q4 r4 A4 ok4=>de ty107 A4 U U (bH zc107 (fun b6=>bE 0 ty107 U U U U U U (qL 9 [1,0] U (ce 6 [75,76,77,78,79,80,81] 75 81 (y1.KindNo != (nthI gR.Rules (i1:Int)).KindNo) U (fun c7 hk6=>?_) (fun e=>?_)))))))
  ·exact qL 6 [1,0] U (hk6 _ U)
  refine aj (ce 6 [82,83,84,85,86,87,88] 82 88 (y1.Think != (nthI gR.Rules (i1:Int)).Think) U (fun c8 hk7=>?_) (fun e=>?_))
  ·exact qL 6 [1,0] U (hk7 _ U)
  refine aj (ce 7 [89,90,91,92,93,94,95,96] 89 96 (!(aX y1.Expr ((nthI gR.Rules (i1:Int)).Expr))) U (fun c9 hk8=>?_) (fun e=>?_))
  ·exact qL 1 [] U (cJ 1 ty66 U U U (qL 1 [] U (cJ 0 ty66 U U U (ah call232 (pr _ _ _ _ _ ok3.Expr ok4.Expr) U (qO 2 U (hk8 _ U))))))
  refine aM (ac hs6 U (fun c10 hs7=>?_) (fun c10 hs8=>?_))
  ·exact sr (an (nretP [.bool false] (cs hs7)))
  exact aE (qT 3 U (ad (v':=I (((i1+1):Nat):Int)) U (aL ob) (an (bU (L':=[(b2,O (Policy.cells gR mZ) 68),(b1,O (Policy.cells a Dd) 68)]) js (ag1 hs8)))))
 rintro i1 hd1 eG hx e
 exact qK 7 [1] U (ad (v':=.bool false) U (cb eG) (qO 3 U (hx _ rd)))
theorem oA (h:HF) (p:Policy) (gp:dS) (hp:Policy.ok h p gp) (hsm:smP p):Ret prog 116 [.agg (Policy.cells p gp).toArray] h (I (dX p)):=by
 refine sT func116 U ntmps116 U fun X hM hX hF=>?_
 have hs0:dX p=dX p:=rfl
 refine sr (cA (fun b1=>qO 4 U (cJ 0 ty68 U U U (aA (cf call189 (wD _ _ _ hp ob) U (fun v1 h1 hle1 hp1=>?_))))))
 obtain ⟨rr1,rfl,ok1⟩:=hp1
 refine qO 3 U (bH zc68 (fun b2=>bE 0 ty68 U U U U U U (qO 8 U (ac hs0 U (fun c1 hs1=>?_) (fun c1 hs2=>?_)))))
 ·exact sr (qO 3 U (nretP [I ((df p).2)] (ci hs1)))
 refine qT 4 U (cJ 0 ty68 U U U (cJ 1 ty68 U U U (ah call190 (AP _ _ _ _ _ ok1 (hp.mono hle1)) U (qO 2 U (ac hs2 U (fun c2 hs4=>?_) (fun c2 hs5=>?_))))))
 ·exact sr (an (nretP [I 200] (ci hs4)))
 exact aE (qT 4 U (nretP [I 0] (ci hs5)))
theorem pw (h:HF) (l:List Version) (ey:Option Addr) (ew:Nat) (hl:SlC Version.rp h ey ew l) (hsm:smV l):Ret prog 71 [.slice ey l.length ew] h (I (cy l)):=by
 refine sT func71 U ntmps71 U fun X hM hX hF=>?_
 have hs0:cy l=cy l:=rfl
 refine qK 11 [] U (ac hs0 U (fun c1 hs1=>?_) (fun c1 hs2=>?_))
 ·have c1p:=of_decide_eq_true c1
  exact sr (an (nretP [I 2] (ci hs1)))
 have c1p:=of_decide_eq_false c1
 refine qT 6 U ?_
 refine lp0 l (fun i=>[(0,.slice ey l.length ew),(3,I (i:Int))]) ([]) (fun s1 i=>(cy.L1 l (cy.K1)) s1 i) hl.1.1 hs2 ?_ ?_ ?_
 ·rintro i1 et hs4 e
  exact sr (an (nretP [I 0] (ci hs4)))
 ·rintro i1 y1 rz1 hd1 cw ao dy fB hs6 hx1 ag1 e
  have hsy:=hsm.2 y1 (fq hd1)
  refine qK 6 [] U (ad (v':=.bool true) U (cb cw) (qO 9 U (aA (dV lg ty70 hl.1 (nthZ ao) (au ao) U U U (fun _ _ _ e=>e) (fun q2 r2 A2 ok2=>de ty70 A2 U U (bH zc70 (fun b2=>bE 0 ty70 U U U U U U (qO 2 U ?_))))))))
  refine ke [(0,.slice ey l.length ew),(3,I (i1:Int)),(58,.bool (((((decide (y1.No < 0)||decide (1048576 < y1.No))||(decide (0 < (i1:Int))&&decide (y1.No≤(nthI l ((i1:Int) - 1)).No)))||(!(bM y1.At)))||(!(bM y1.Known)))||((dX y1.Policy) != 0)))] (fun e=>?_) (fun hk1=>?_)
  rotate_left
  ·let z1:Nat×Obj:=(b2,O (Version.cells y1 r2) 70)
   refine eB ([z1]) mixed kr jn (fun cB _=>?_)
   refine qB [0] U (tf 1 U U (fun _ _ hj=>fI ty3 U (hj.nth (i:=0) U) U) (qA [2,3] U ?_))
   refine cx 21 U (fun c2=>?_) (fun c2=>?_)
   ·have c2p:=of_decide_eq_true c2
    exact tk 4 U U (qR 5 36 U (aI kr (hk1 _ ⟨U,U,(cb (show true=(((((decide (y1.No < 0)||decide (1048576 < y1.No))||(decide (0 < (i1:Int))&&decide (y1.No≤(nthI l ((i1:Int) - 1)).No)))||(!(bM y1.At)))||(!(bM y1.Known)))||((dX y1.Policy) != 0)) from by rw [c2] <;> rfl)),trivial⟩)))
   have c2p:=of_decide_eq_false c2
   refine qB [4] U (tf 5 U U (fun _ _ hj=>fI ty3 U (hj.nth (i:=0) U) U) (qR 6 3 U ?_))
   refine cx 26 U (fun c3=>?_) (fun c3=>?_)
   ·have c3p:=of_decide_eq_true c3
    exact tk 9 U U (qR 10 31 U (aI kr (hk1 _ ⟨U,U,(cb (show true=(((((decide (y1.No < 0)||decide (1048576 < y1.No))||(decide (0 < (i1:Int))&&decide (y1.No≤(nthI l ((i1:Int) - 1)).No)))||(!(bM y1.At)))||(!(bM y1.Known)))||((dX y1.Policy) != 0)) from by rw [c2,c3] <;> rfl)),trivial⟩)))
   have c3p:=of_decide_eq_false c3
   refine qR 9 3 U ?_
   refine cx 29 U (fun c4=>?_) (fun c4=>?_)
   ·have c4p:=of_decide_eq_true c4
    refine qA [12,13] U (tf 14 U U (fun _ _ _=>mq (v':=I ((i1:Int) - 1)) U (gG ob)) ?_)
    have ho1:0≤(((i1:Int) - 1):Int)∧(((i1:Int) - 1):Int) < ((l).length:Int):=ob
    refine gC 15 cB jn lg ty70 hl.1 ho1 (bT ho1) U U U U kr (fun q3 cs3 A3 ln3 rr3=>?_)
    obtain ⟨r3,rfl,ok3⟩:=rr3
    refine qB [16] U (tf 17 U U (fun _ _ hj=>eF ty3 (A3.mono hj.1) U) (qB [18] U (tf 19 U U (fun _ _ hj=>fI ty3 U (hj.nth (i:=0) U) U) (qR 20 4 U ?_))))
    refine cx 41 U (fun c5=>?_) (fun c5=>?_)
    ·have c5p:=of_decide_eq_true c5
     exact tk 24 U U (qR 25 16 U (aI kr (hk1 _ ⟨U,U,(cb (show true=(((((decide (y1.No < 0)||decide (1048576 < y1.No))||(decide (0 < (i1:Int))&&decide (y1.No≤(nthI l ((i1:Int) - 1)).No)))||(!(bM y1.At)))||(!(bM y1.Known)))||((dX y1.Policy) != 0)) from by rw [c2,c3,c4,c5] <;> rfl)),trivial⟩)))
    have c5p:=of_decide_eq_false c5
    refine qB [24] U (tf 25 U U (fun _ _ hj=>fI ty3 U (hj.nth (i:=0) U) U) (tn 26 U (eK tX (gY h y1.At) U (⟨jn,(qR 27 3 U ?_)⟩))))
    refine cx 47 U (fun c6=>?_) (fun c6=>?_)
    ·exact tk 30 U U (qR 31 10 U (aI kr (hk1 _ ⟨U,U,(cb (show true=(((((decide (y1.No < 0)||decide (1048576 < y1.No))||(decide (0 < (i1:Int))&&decide (y1.No≤(nthI l ((i1:Int) - 1)).No)))||(!(bM y1.At)))||(!(bM y1.Known)))||((dX y1.Policy) != 0)) from by rw [c2,c3,c4,c5,c6] <;> rfl)),trivial⟩)))
    refine qB [30] U (tf 31 U U (fun _ _ hj=>fI ty3 U (hj.nth (i:=0) U) U) (tn 32 U (eK tX (gY h y1.Known) U (⟨jn,(qR 33 3 U ?_)⟩))))
    refine cx 53 U (fun c7=>?_) (fun c7=>?_)
    ·exact tk 36 U U (qR 37 4 U (aI kr (hk1 _ ⟨U,U,(cb (show true=(((((decide (y1.No < 0)||decide (1048576 < y1.No))||(decide (0 < (i1:Int))&&decide (y1.No≤(nthI l ((i1:Int) - 1)).No)))||(!(bM y1.At)))||(!(bM y1.Known)))||((dX y1.Policy) != 0)) from by rw [c2,c3,c4,c5,c6,c7] <;> rfl)),trivial⟩)))
    exact tf 36 U U (fun _ _ _=>nt Gv U) (tf 37 U U (fun _ _ hj=>jj ty68 U (hj.nth (i:=0) U) U) (tn 38 U (eK call116 (oA _ _ _ ok2.Policy ob) U (⟨jn,(qA [39,40] U (aI kr (hk1 _ ⟨U,U,(cb (show ((dX y1.Policy) != 0)=(((((decide (y1.No < 0)||decide (1048576 < y1.No))||(decide (0 < (i1:Int))&&decide (y1.No≤(nthI l ((i1:Int) - 1)).No)))||(!(bM y1.At)))||(!(bM y1.Known)))||((dX y1.Policy) != 0)) from by rw [c2,c3,c4,c5,c6,c7] <;> rfl)),trivial⟩)))⟩))))
   have c4p:=of_decide_eq_false c4
   refine qD 12 13 U (tf 25 U U (fun _ _ hj=>fI ty3 U (hj.nth (i:=0) U) U) (tn 26 U (eK tX (gY h y1.At) U (⟨jn,qR 27 3 U ?_⟩))))
   refine cx 47 U (fun c8=>?_) (fun c8=>?_)
   ·exact tk 30 U U (qR 31 10 U (aI kr (hk1 _ ⟨U,U,(cb (show true=(((((decide (y1.No < 0)||decide (1048576 < y1.No))||(decide (0 < (i1:Int))&&decide (y1.No≤(nthI l ((i1:Int) - 1)).No)))||(!(bM y1.At)))||(!(bM y1.Known)))||((dX y1.Policy) != 0)) from by rw [c2,c3,c4,c8] <;> rfl)),trivial⟩)))
   refine qB [30] U (tf 31 U U (fun _ _ hj=>fI ty3 U (hj.nth (i:=0) U) U) (tn 32 U (eK tX (gY h y1.Known) U (⟨jn,(qR 33 3 U ?_)⟩))))
   refine cx 53 U (fun c9=>?_) (fun c9=>?_)
   ·exact tk 36 U U (qR 37 4 U (aI kr (hk1 _ ⟨U,U,(cb (show true=(((((decide (y1.No < 0)||decide (1048576 < y1.No))||(decide (0 < (i1:Int))&&decide (y1.No≤(nthI l ((i1:Int) - 1)).No)))||(!(bM y1.At)))||(!(bM y1.Known)))||((dX y1.Policy) != 0)) from by rw [c2,c3,c4,c8,c9] <;> rfl)),trivial⟩)))
   exact tf 36 U U (fun _ _ _=>nt Gv U) (tf 37 U U (fun _ _ hj=>jj ty68 U (hj.nth (i:=0) U) U) (tn 38 U (eK call116 (oA _ _ _ ok2.Policy ob) U (⟨jn,(qA [39,40] U (aI kr (hk1 _ ⟨U,U,(cb (show ((dX y1.Policy) != 0)=(((((decide (y1.No < 0)||decide (1048576 < y1.No))||(decide (0 < (i1:Int))&&decide (y1.No≤(nthI l ((i1:Int) - 1)).No)))||(!(bM y1.At)))||(!(bM y1.Known)))||((dX y1.Policy) != 0)) from by rw [c2,c3,c4,c8,c9] <;> rfl)),trivial⟩)))⟩))))
  refine ac hs6 U (fun c10 hs7=>?_) (fun c10 hs8=>?_)
  ·exact sr (an (nretP [I 200] (ci hs7)))
  exact aE (qT 3 U (ad (v':=I (((i1+1):Nat):Int)) U (aL ob) (an (bU (L':=[]) js (ag1 hs8)))))
 rintro i1 hd1 eG hx e
 exact qK 6 [] U (ad (v':=.bool false) U (cb eG) (qO 3 U (hx _ rd)))
theorem AQ (h:HF) (t:Int)  : Ret prog 191 [I t] h (.bool (mp t)):=by
 refine sT func191 U ntmps191 U fun X hM hX hF=>?_
 have hs0:mp t=mp t:=rfl
 refine qT 9 U (bx 3 [5,6,7,8] 5 8 (decide (t < 1099511627776)) U (fun c1 hk1=>?_) (fun e=>?_))
 ·exact aj (qO 2 U (hk1 _ U))
 exact an (nretP [.bool (decide (0≤t)&&decide (t < 1099511627776))] (cs hs0))
theorem pM (h:HF) (l:List Int) (ey:Option Addr) (ew:Nat) (limit:Int) (hl:SlC Rp.int h ey ew l):Ret prog 192 [.slice ey l.length ew,I limit] h (.bool (dN l limit)):=by
 refine sT func192 U ntmps192 U fun X hM hX hF=>?_
 have hs0:dN l limit=dN l limit:=rfl
 refine qT 9 U ?_
 refine lp0 l (fun i=>[(0,.slice ey l.length ew),(1,I limit),(5,I (i:Int))]) ([]) (fun s1 i=>(dN.L1 l limit (dN.K1 l)) s1 i) hl.1.1 hs0 ?_ ?_ ?_
 ·rintro i1 et hs1 e
  exact qK 7 [] U (nretP [.bool (decide ((l.length:Int)≤16))] (cs hs1))
 ·rintro i1 y1 rz1 hd1 cw ao dy fB hs3 hx1 ag1 e
  refine qK 6 [] U (ad (v':=.bool true) U (cb cw) (qO 6 U ?_))
  refine ke [(0,.slice ey l.length ew),(1,I limit),(5,I (i1:Int)),(40,.bool ((decide (y1 < 0)||decide (limit≤y1))||(decide (0 < (i1:Int))&&decide (y1≤(nthI l ((i1:Int) - 1))))))] (fun e=>?_) (fun hk1=>?_)
  rotate_left
  ·refine eB ([]) mixed kr jn (fun cB _=>?_)
   refine qA [0,1] U (cD 2 (enc:=fun y=>[I y]) cB jn ei cQ ty3 hl.1 (nthZ ao) (au ao) U U U U kr (fun q3 A3=>tf 3 U U (fun _ _ hj=>eF ty3 (A3.mono hj.1) U) (qA [4,5] U ?_)))
   refine cx 17 U (fun c1=>?_) (fun c1=>?_)
   ·have c1p:=of_decide_eq_true c1
    exact tk 6 U U (qR 7 22 U (aI kr (hk1 _ ⟨U,U,U,(cb (show true=((decide (y1 < 0)||decide (limit≤y1))||(decide (0 < (i1:Int))&&decide (y1≤(nthI l ((i1:Int) - 1))))) from by rw [c1] <;> rfl)),trivial⟩)))
   have c1p:=of_decide_eq_false c1
   refine qA [6,7] U (cD 8 (enc:=fun y=>[I y]) cB jn ei cQ ty3 hl.1 (nthZ ao) (au ao) U U U U kr (fun q4 A4=>tf 9 U U (fun _ _ hj=>eF ty3 (A4.mono hj.1) U) (qR 10 4 U ?_)))
   refine cx 25 U (fun c2=>?_) (fun c2=>?_)
   ·have c2p:=of_decide_eq_true c2
    exact tk 14 U U (qR 15 14 U (aI kr (hk1 _ ⟨U,U,U,(cb (show true=((decide (y1 < 0)||decide (limit≤y1))||(decide (0 < (i1:Int))&&decide (y1≤(nthI l ((i1:Int) - 1))))) from by rw [c1,c2] <;> rfl)),trivial⟩)))
   have c2p:=of_decide_eq_false c2
   refine qR 14 3 U ?_
   refine cx 28 U (fun c3=>?_) (fun c3=>?_)
   ·have c3p:=of_decide_eq_true c3
    refine qA [17,18] U (cD 19 (enc:=fun y=>[I y]) cB jn ei cQ ty3 hl.1 (nthZ ao) (au ao) U U U U kr (fun q5 A5=>tf 20 U U (fun _ _ hj=>eF ty3 (A5.mono hj.1) U) (qA [21,22] U (tf 23 U U (fun _ _ _=>mq (v':=I ((i1:Int) - 1)) U (gG ob)) ?_))))
    have ho1:0≤(((i1:Int) - 1):Int)∧(((i1:Int) - 1):Int) < ((l).length:Int):=ob
    exact cD 24 (enc:=fun y=>[I y]) cB jn ei cQ ty3 hl.1 ho1 (bT ho1) U U U U kr (fun q6 A6=>tf 25 U U (fun _ _ hj=>eF ty3 (A6.mono hj.1) U) (qR 26 3 U (aI kr (hk1 _ ⟨U,U,U,(cb (show decide (y1≤(nthI l ((i1:Int) - 1)))=((decide (y1 < 0)||decide (limit≤y1))||(decide (0 < (i1:Int))&&decide (y1≤(nthI l ((i1:Int) - 1))))) from by rw [c1,c2,c3] <;> rfl)),trivial⟩))))
   have c3p:=of_decide_eq_false c3
   exact tk 17 U U (qR 18 11 U (aI kr (hk1 _ ⟨U,U,U,(cb (show false=((decide (y1 < 0)||decide (limit≤y1))||(decide (0 < (i1:Int))&&decide (y1≤(nthI l ((i1:Int) - 1))))) from by rw [c1,c2,c3] <;> rfl)),trivial⟩)))
  refine ac hs3 U (fun c4 hs4=>?_) (fun c4 hs5=>?_)
  ·exact sr (an (nretP [.bool false] (cs hs4)))
  exact aE (qT 3 U (ad (v':=I (((i1+1):Nat):Int)) U (aL ob) (an (ag1 hs5))))
 rintro i1 hd1 eG hx e
 exact qK 6 [] U (ad (v':=.bool false) U (cb eG) (qO 3 U (hx _ rd)))
theorem zx (h:HF) (d:Document) (wo:gE) (hd:Document.ok h d wo):Ret prog 117 [.agg (Document.cells d wo).toArray] h (.bool (gL d)):=by
 refine sT func117 U ntmps117 U fun X hM hX hF=>?_
 have hs0:gL d=gL d:=rfl
 refine sr (cA (fun b1=>qL 9 [0] U (ce 4 [6,7,8,9,10] 6 10 (decide (4096≤d.No)) U (fun c1 hk1=>?_) (fun e=>?_))))
 ·exact qL 4 [0] U (hk1 _ U)
 refine aj (ce 5 [11,12,13,14,15,16] 11 16 (!(mp d.At)) U (fun c2 hk2=>?_) (fun e=>?_))
 ·exact qL 2 [0] U (ah call191 (AQ h d.At) U (qO 2 U (hk2 _ U)))
 refine aj (ce 4 [17,18,19,20,21] 17 21 (decide (d.Kind < 0)) U (fun c3 hk3=>?_) (fun e=>?_))
 ·exact qL 4 [0] U (hk3 _ U)
 refine aj (ce 4 [22,23,24,25,26] 22 26 (decide (16≤d.Kind)) U (fun c4 hk4=>?_) (fun e=>?_))
 ·exact qL 4 [0] U (hk4 _ U)
 refine aj (ce 4 [27,28,29,30,31] 27 31 (decide (d.Value < 0)) U (fun c5 hk5=>?_) (fun e=>?_))
 ·exact qL 4 [0] U (hk5 _ U)
 refine aj (ce 4 [32,33,34,35,36] 32 36 (decide (1099511627776 < d.Value)) U (fun c6 hk6=>?_) (fun e=>?_))
 ·exact qL 4 [0] U (hk6 _ U)
 refine aM (ac hs0 U (fun c7 hs1=>?_) (fun c7 hs2=>?_))
 ·exact sr (an (nretP [.bool false] (cs hs1)))
 refine qK 7 [0] U (bx 6 [40,41,42,43,44,45,46] 40 46 (decide (d.From < d.Until)) U (fun c8 hk7=>?_) (fun e=>?_))
 ·exact qL 6 [0,0] U (hk7 _ U)
 refine aj (bx 4 [47,48,49,50,51] 47 51 (decide (d.Until≤1099511627776)) U (fun c9 hk8=>?_) (fun e=>?_))
 ·exact qL 4 [0] U (hk8 _ U)
 refine aj (bx 4 [52,53,54,55,56] 52 56 (dN d.Parties 1048577) U (fun c10 hk9=>?_) (fun e=>?_))
 ·exact qL 2 [0] U (ah call192 (pM _ _ _ _ 1048577 hd.Parties) U (dZ U (hk9 _ U)))
 refine aj (bx 6 [57,58,59,60,61,62,63] 57 63 (dN d.Revokes d.No) U (fun c11 hk10=>?_) (fun e=>?_))
 ·exact qL 4 [0,0] U (ah call192 (pM _ _ _ _ d.No hd.Revokes) U (dZ U (hk10 _ U)))
 refine aj (bx 6 [64,65,66,67,68,69,70] 64 70 (dN d.Needs d.No) U (fun c12 hk11=>?_) (fun e=>?_))
 ·exact qL 4 [0,0] U (ah call192 (pM _ _ _ _ d.No hd.Needs) U (dZ U (hk11 _ U)))
 exact an (nretP [.bool (((((decide (0≤d.From)&&decide (d.From < d.Until))&&decide (d.Until≤1099511627776))&&(dN d.Parties 1048577))&&(dN d.Revokes d.No))&&(dN d.Needs d.No))] (cs hs2))
theorem AR (h:HF) (l:List Document) (ey:Option Addr) (ew:Nat) (no:Int) (hl:SlC Document.rp h ey ew l):Ret prog 193 [.slice ey l.length ew,I no] h (I (fy l no)):=by
 refine sT func193 U ntmps193 U fun X hM hX hF=>?_
 have hs0:fy l no=fy l no:=rfl
 refine qT 9 U ?_
 refine lp0 l (fun i=>[(0,.slice ey l.length ew),(1,I no),(5,I (i:Int))]) ([]) (fun s1 i=>(fy.L1 no (fy.K1)) s1 i) hl.1.1 hs0 ?_ ?_ ?_
 ·rintro i1 et hs1 e
  exact sr (an (nretP [I (-1)] (ci hs1)))
 ·rintro i1 y1 rz1 hd1 cw ao dy fB hs3 hx1 ag1 e
  refine qK 6 [] U (ad (v':=.bool true) U (cb cw) (qO 9 U (aA (dV pH ty52 hl.1 (nthZ ao) (au ao) U U U (fun _ _ _ e=>e) (fun q2 r2 A2 ok2=>qL 1 [] U (cK ty3 A2 U (qO 3 U (ac hs3 U (fun c2 hs4=>?_) (fun c2 hs5=>?_)))))))))
  ·exact sr (qO 3 U (nretP [I (i1:Int)] (ci hs4)))
  exact aE (qT 3 U (ad (v':=I (((i1+1):Nat):Int)) U (aL ob) (an (ag1 hs5))))
 rintro i1 hd1 eG hx e
 exact qK 6 [] U (ad (v':=.bool false) U (cb eG) (qO 3 U (hx _ rd)))
theorem mN (h:HF) (l:List Document) (ey:Option Addr) (ew:Nat) (nos:List Int) (Iq:Option Addr) (Ip:Nat) (hl:SlC Document.rp h ey ew l) (hnos:SlC Rp.int h Iq Ip nos):Ret prog 118 [.slice ey l.length ew,.slice Iq nos.length Ip] h (.bool (cE l nos)):=by
 refine sT func118 U ntmps118 U fun X hM hX hF=>?_
 have hs0:cE l nos=cE l nos:=rfl
 refine qT 9 U ?_
 refine lp0 nos (fun i=>[(0,.slice ey l.length ew),(1,.slice Iq nos.length Ip),(5,I (i:Int))]) ([]) (fun s1 i=>(cE.L1 l (cE.K1)) s1) hnos.1.1 hs0 ?_ ?_ ?_
 ·rintro i1 et hs1 e
  exact sr (an (nretP [.bool true] (cs hs1)))
 ·rintro i1 y1 rz1 hd1 cw ao dy fB hs3 hx1 ag1 e
  refine qK 6 [] U (ad (v':=.bool true) U (cb cw) (qO 10 U (aA (ek (enc:=fun y=>[I y]) ei cQ ty3 hnos.1 (nthZ ao) (au ao) U U U (fun q2 A2=>cK ty3 A2 U (ah call193 (AR _ _ _ _ y1 hl) U (qO 2 U (ac hs3 U (fun c2 hs4=>?_) (fun c2 hs5=>?_)))))))))
  ·have c2p:=of_decide_eq_true c2
   exact sr (an (nretP [.bool false] (cs hs4)))
  have c2p:=of_decide_eq_false c2
  exact aE (qT 3 U (ad (v':=I (((i1+1):Nat):Int)) U (aL ob) (an (ag1 hs5))))
 rintro i1 hd1 eG hx e
 exact qK 6 [] U (ad (v':=.bool false) U (cb eG) (qO 3 U (hx _ rd)))
theorem zy (h:HF) (l:List Document) (ey:Option Addr) (ew:Nat) (hl:SlC Document.rp h ey ew l):Ret prog 72 [.slice ey l.length ew] h (I (eU l)):=by
 refine sT func72 U ntmps72 U fun X hM hX hF=>?_
 have hs0:eU l=eU l:=rfl
 refine qK 11 [] U (ac hs0 U (fun c1 hs1=>?_) (fun c1 hs2=>?_))
 ·have c1p:=of_decide_eq_true c1
  exact sr (an (nretP [I 2] (ci hs1)))
 have c1p:=of_decide_eq_false c1
 refine qT 6 U ?_
 refine lp0 l (fun i=>[(0,.slice ey l.length ew),(3,I (i:Int))]) ([]) (fun s1 i=>(eU.L1 l (eU.K1)) s1 i) hl.1.1 hs2 ?_ ?_ ?_
 ·rintro i1 et hs4 e
  exact sr (an (nretP [I 0] (ci hs4)))
 ·rintro i1 y1 rz1 hd1 cw ao dy fB hs6 hx1 ag1 e
  refine qK 6 [] U (ad (v':=.bool true) U (cb cw) (qO 6 U ?_))
  refine ke [(0,.slice ey l.length ew),(3,I (i1:Int)),(56,.bool ((((!(gL y1))||(decide (0 < (i1:Int))&&decide (y1.No≤(nthI l ((i1:Int) - 1)).No)))||(!(cE l y1.Revokes)))||(!(cE l y1.Needs))))] (fun e=>?_) (fun hk1=>?_)
  rotate_left
  ·refine eB ([]) mixed kr jn (fun cB _=>?_)
   refine qA [0,1] U (gC 2 cB jn pH ty52 hl.1 (nthZ ao) (au ao) U U U U kr (fun q4 cs4 A4 ln4 rr4=>?_))
   obtain ⟨r4,rfl,ok4⟩:=rr4
   refine tf 3 U U (fun _ _ hj=>iQ ty52 (A4.mono hj.1) U U) (tn 4 U (eK call117 (zx _ _ _ ok4) U (⟨jn,qA [5,6] U ?_⟩)))
   refine cx 19 U (fun c2=>?_) (fun c2=>?_)
   ·exact tk 7 U U (qR 8 36 U (aI kr (hk1 _ ⟨U,U,(cb (show true=((((!(gL y1))||(decide (0 < (i1:Int))&&decide (y1.No≤(nthI l ((i1:Int) - 1)).No)))||(!(cE l y1.Revokes)))||(!(cE l y1.Needs))) from by rw [c2] <;> rfl)),trivial⟩)))
   refine qR 7 3 U ?_
   refine cx 22 U (fun c3=>?_) (fun c3=>?_)
   ·have c3p:=of_decide_eq_true c3
    refine qA [10,11] U (gC 12 cB jn pH ty52 hl.1 (nthZ ao) (au ao) U U U U kr (fun q5 cs5 A5 ln5 rr5=>?_))
    obtain ⟨r5,rfl,ok5⟩:=rr5
    refine qB [13] U (tf 14 U U (fun _ _ hj=>eF ty3 (A5.mono hj.1) U) (qA [15,16] U (tf 17 U U (fun _ _ _=>mq (v':=I ((i1:Int) - 1)) U (gG ob)) ?_)))
    have ho2:0≤(((i1:Int) - 1):Int)∧(((i1:Int) - 1):Int) < ((l).length:Int):=ob
    refine gC 18 cB jn pH ty52 hl.1 ho2 (bT ho2) U U U U kr (fun q6 cs6 A6 ln6 rr6=>?_)
    obtain ⟨r6,rfl,ok6⟩:=rr6
    refine qB [19] U (tf 20 U U (fun _ _ hj=>eF ty3 (A6.mono hj.1) U) (qR 21 4 U ?_))
    refine cx 37 U (fun c4=>?_) (fun c4=>?_)
    ·have c4p:=of_decide_eq_true c4
     exact tk 25 U U (qR 26 18 U (aI kr (hk1 _ ⟨U,U,(cb (show true=((((!(gL y1))||(decide (0 < (i1:Int))&&decide (y1.No≤(nthI l ((i1:Int) - 1)).No)))||(!(cE l y1.Revokes)))||(!(cE l y1.Needs))) from by rw [c2,c3,c4] <;> rfl)),trivial⟩)))
    have c4p:=of_decide_eq_false c4
    refine qR 25 3 U (gC 28 cB jn pH ty52 hl.1 (nthZ ao) (au ao) U U U U kr (fun q7 cs7 A7 ln7 rr7=>?_))
    obtain ⟨r7,rfl,ok7⟩:=rr7
    refine qB [29] U (tf 30 U U (fun _ _ hj=>kQ 7 ty31 (A7.mono hj.1) U U) (tn 31 U (eK Hu (mN _ _ _ _ _ _ _ hl ok7.Revokes) U (⟨jn,(qR 32 3 U ?_)⟩))))
    refine cx 47 U (fun c5=>?_) (fun c5=>?_)
    ·exact tk 35 U U (qR 36 8 U (aI kr (hk1 _ ⟨U,U,(cb (show true=((((!(gL y1))||(decide (0 < (i1:Int))&&decide (y1.No≤(nthI l ((i1:Int) - 1)).No)))||(!(cE l y1.Revokes)))||(!(cE l y1.Needs))) from by rw [c2,c3,c4,c5] <;> rfl)),trivial⟩)))
    refine qR 35 3 U (gC 38 cB jn pH ty52 hl.1 (nthZ ao) (au ao) U U U U kr (fun q8 cs8 A8 ln8 rr8=>?_))
    obtain ⟨r8,rfl,ok8⟩:=rr8
    exact tf 39 U U (fun _ _ _=>nt Gx U) (tf 40 U U (fun _ _ hj=>kQ 8 ty31 (A8.mono hj.1) U U) (tn 41 U (eK Hu (mN _ _ _ _ _ _ _ hl ok8.Needs) U (⟨jn,(qA [42,43] U (aI kr (hk1 _ ⟨U,U,(cb (show (!(cE l y1.Needs))=((((!(gL y1))||(decide (0 < (i1:Int))&&decide (y1.No≤(nthI l ((i1:Int) - 1)).No)))||(!(cE l y1.Revokes)))||(!(cE l y1.Needs))) from by rw [c2,c3,c4,c5] <;> rfl)),trivial⟩)))⟩))))
   have c3p:=of_decide_eq_false c3
   refine qR 10 18 U (gC 28 cB jn pH ty52 hl.1 (nthZ ao) (au ao) U U U U kr (fun q9 cs9 A9 ln9 rr9=>?_))
   obtain ⟨r9,rfl,ok9⟩:=rr9
   refine qB [29] U (tf 30 U U (fun _ _ hj=>kQ 7 ty31 (A9.mono hj.1) U U) (tn 31 U (eK Hu (mN _ _ _ _ _ _ _ hl ok9.Revokes) U (⟨jn,(qR 32 3 U ?_)⟩))))
   refine cx 47 U (fun c6=>?_) (fun c6=>?_)
   ·exact tk 35 U U (qR 36 8 U (aI kr (hk1 _ ⟨U,U,(cb (show true=((((!(gL y1))||(decide (0 < (i1:Int))&&decide (y1.No≤(nthI l ((i1:Int) - 1)).No)))||(!(cE l y1.Revokes)))||(!(cE l y1.Needs))) from by rw [c2,c3,c6] <;> rfl)),trivial⟩)))
   refine qR 35 3 U (gC 38 cB jn pH ty52 hl.1 (nthZ ao) (au ao) U U U U kr (fun q10 cs10 A10 ln10 rr10=>?_))
   obtain ⟨r10,rfl,ok10⟩:=rr10
   exact tf 39 U U (fun _ _ _=>nt Gx U) (tf 40 U U (fun _ _ hj=>kQ 8 ty31 (A10.mono hj.1) U U) (tn 41 U (eK Hu (mN _ _ _ _ _ _ _ hl ok10.Needs) U (⟨jn,(qA [42,43] U (aI kr (hk1 _ ⟨U,U,(cb (show (!(cE l y1.Needs))=((((!(gL y1))||(decide (0 < (i1:Int))&&decide (y1.No≤(nthI l ((i1:Int) - 1)).No)))||(!(cE l y1.Revokes)))||(!(cE l y1.Needs))) from by rw [c2,c3,c6] <;> rfl)),trivial⟩)))⟩))))
  refine ac hs6 U (fun c7 hs7=>?_) (fun c7 hs8=>?_)
  ·exact sr (an (nretP [I 170] (ci hs7)))
  exact aE (qT 3 U (ad (v':=I (((i1+1):Nat):Int)) U (aL ob) (an (ag1 hs8))))
 rintro i1 hd1 eG hx e
 exact qK 6 [] U (ad (v':=.bool false) U (cb eG) (qO 3 U (hx _ rd)))
theorem jM (h:HF) (dG:Int) (most:Int)  : Ret prog 194 [I dG,I most] h (.bool (ft dG most)):=by
 refine sT func194 U ntmps194 U fun X hM hX hF=>?_
 have hs0:ft dG most=ft dG most:=rfl
 refine qT 9 U (bx 4 [7,8,9,10,11] 7 11 (decide (dG≤most)) U (fun c1 hk1=>?_) (fun e=>?_))
 ·exact aj (qO 3 U (hk1 _ U))
 exact an (nretP [.bool (decide (0≤dG)&&decide (dG≤most))] (cs hs0))
theorem uf (h:HF) (dG:Int)  : Ret prog 195 [I dG] h (.bool (lm dG)):=by
 refine sT func195 U ntmps195 U fun X hM hX hF=>?_
 have hs0:lm dG=lm dG:=rfl
 exact sr (qO 5 U (ah Df (jM h dG 1099511627775) U (an (nretP [.bool (ft dG 1099511627775)] (cs hs0)))))
theorem CC (h:HF) (dG:Int)  : Ret prog 196 [I dG] h (.bool (oe dG)):=by
 refine sT func196 U ntmps196 U fun X hM hX hF=>?_
 have hs0:oe dG=oe dG:=rfl
 exact sr (qO 5 U (ah Df (jM h dG 4095) U (an (nretP [.bool (ft dG 4095)] (cs hs0)))))
theorem zn (h:HF) (x:Approval)  : Ret prog 119 [.agg (Approval.cells x).toArray] h (.bool (ic x)):=by
 refine sT func119 U ntmps119 U fun X hM hX hF=>?_
 have hs0:ic x=ic x:=rfl
 refine sr (cA (fun b1=>qL 7 [0] U (ah Df (jM h x.No 1048576) U (qO 2 U (ce 5 [7,8,9,10,11,12] 7 12 (!(lm x.At)) U (fun c1 hk1=>?_) (fun e=>?_))))))
 ·exact qL 2 [0] U (ah call195 (uf h x.At) U (qO 2 U (hk1 _ U)))
 refine aj (ce 5 [13,14,15,16,17,18] 13 18 (!(lm x.Known)) U (fun c2 hk2=>?_) (fun e=>?_))
 ·exact qL 2 [0] U (ah call195 (uf h x.Known) U (qO 2 U (hk2 _ U)))
 refine aj (ce 5 [19,20,21,22,23,24] 19 24 (!(oe x.Doc)) U (fun c3 hk3=>?_) (fun e=>?_))
 ·exact qL 2 [0] U (ah call196 (CC h x.Doc) U (qO 2 U (hk3 _ U)))
 refine aM (ac hs0 U (fun c4 hs1=>?_) (fun c4 hs2=>?_))
 ·exact sr (an (nretP [.bool false] (cs hs1)))
 refine qK 5 [0] U (ah Df (jM h x.By 63) U (aj (bx 4 [28,29,30,31,32] 28 32 (ft x.For 63) U (fun c5 hk4=>?_) (fun e=>?_))))
 ·exact qL 2 [0] U (ah Df (jM h x.For 63) U (dZ U (hk4 _ U)))
 refine aj (bx 4 [33,34,35,36,37] 33 37 (ft x.Office 31) U (fun c6 hk5=>?_) (fun e=>?_))
 ·exact qL 2 [0] U (ah Df (jM h x.Office 31) U (dZ U (hk5 _ U)))
 exact an (nretP [.bool (((ft x.By 63)&&(ft x.For 63))&&(ft x.Office 31))] (cs hs2))
theorem zo (h:HF) (l:List Approval) (ey:Option Addr) (ew:Nat) (hl:SlC Approval.rp h ey ew l):Ret prog 73 [.slice ey l.length ew] h (I (fO l)):=by
 refine sT func73 U ntmps73 U fun X hM hX hF=>?_
 have hs0:fO l=fO l:=rfl
 refine qK 11 [] U (ac hs0 U (fun c1 hs1=>?_) (fun c1 hs2=>?_))
 ·have c1p:=of_decide_eq_true c1
  exact sr (an (nretP [I 2] (ci hs1)))
 have c1p:=of_decide_eq_false c1
 refine qT 6 U ?_
 refine lp0 l (fun i=>[(0,.slice ey l.length ew),(3,I (i:Int))]) ([]) (fun s1 i=>(fO.L1 l (fO.K1)) s1 i) hl.1.1 hs2 ?_ ?_ ?_
 ·rintro i1 et hs4 e
  exact sr (an (nretP [I 0] (ci hs4)))
 ·rintro i1 y1 rz1 hd1 cw ao dy fB hs6 hx1 ag1 e
  refine qK 6 [] U (ad (v':=.bool true) U (cb cw) (qO 6 U ?_))
  refine ke [(0,.slice ey l.length ew),(3,I (i1:Int)),(36,.bool ((!(ic y1))||(decide (0 < (i1:Int))&&decide (y1.No≤(nthI l ((i1:Int) - 1)).No))))] (fun e=>?_) (fun hk1=>?_)
  rotate_left
  ·refine eB ([]) mixed kr jn (fun cB _=>?_)
   refine qA [0,1] U (cD 2 (enc:=Approval.cells) cB jn ei FO ty181 hl.1 (nthZ ao) (au ao) U U U U kr (fun q4 A4=>tf 3 U U (fun _ _ hj=>iQ ty181 (A4.mono hj.1) U U) (tn 4 U (eK call119 (zn h y1) U (⟨jn,qA [5,6] U ?_⟩)))))
   refine cx 19 U (fun c2=>?_) (fun c2=>?_)
   ·exact tk 7 U U (qR 8 16 U (aI kr (hk1 _ ⟨U,U,(cb (show true=((!(ic y1))||(decide (0 < (i1:Int))&&decide (y1.No≤(nthI l ((i1:Int) - 1)).No))) from by rw [c2] <;> rfl)),trivial⟩)))
   refine qR 7 3 U ?_
   refine cx 22 U (fun c3=>?_) (fun c3=>?_)
   ·have c3p:=of_decide_eq_true c3
    refine qA [10,11] U (tf 12 U U (fun _ _ _=>mq (v':=I ((i1:Int) - 1)) U (gG ob)) ?_)
    have ho2:0≤(((i1:Int) - 1):Int)∧(((i1:Int) - 1):Int) < ((l).length:Int):=ob
    exact cD 13 (enc:=Approval.cells) cB jn ei FO ty181 hl.1 ho2 (bT ho2) U U U U kr (fun q5 A5=>qB [14] U (tf 15 U U (fun _ _ hj=>eF ty3 (A5.mono hj.1) U) (qA [16,17] U (cD 18 (enc:=Approval.cells) cB jn ei FO ty181 hl.1 (nthZ ao) (au ao) U U U U kr (fun q6 A6=>qB [19] U (tf 20 U U (fun _ _ hj=>eF ty3 (A6.mono hj.1) U) (qR 21 3 U (aI kr (hk1 _ ⟨U,U,(cb (show decide (y1.No≤(nthI l ((i1:Int) - 1)).No)=((!(ic y1))||(decide (0 < (i1:Int))&&decide (y1.No≤(nthI l ((i1:Int) - 1)).No))) from by rw [c2,c3] <;> rfl)),trivial⟩)))))))))
   have c3p:=of_decide_eq_false c3
   exact tk 10 U U (qR 11 13 U (aI kr (hk1 _ ⟨U,U,(cb (show false=((!(ic y1))||(decide (0 < (i1:Int))&&decide (y1.No≤(nthI l ((i1:Int) - 1)).No))) from by rw [c2,c3] <;> rfl)),trivial⟩)))
  refine ac hs6 U (fun c4 hs7=>?_) (fun c4 hs8=>?_)
  ·exact sr (an (nretP [I 280] (ci hs7)))
  exact aE (qT 3 U (ad (v':=I (((i1+1):Nat):Int)) U (aL ob) (an (ag1 hs8))))
 rintro i1 hd1 eG hx e
 exact qK 6 [] U (ad (v':=.bool false) U (cb eG) (qO 3 U (hx _ rd)))
theorem sb (h:HF) (aT:Register) (dt:dH) (gD:Register.ok h aT dt) (hsm:smR aT):Ret prog 31 [.agg (Register.cells aT dt).toArray] h (I (gJ aT)):=by
 refine sT func31 U ntmps31 U fun X hM hX hF=>?_
 have hs0:gJ aT=gJ aT:=rfl
 have hsv:=hsm.vers
 refine sr (cA (fun b1=>qL 7 [0] U (ah call67 (si _ _ _ _ gD.Appoints) U (qO 2 U (ce 5 [7,8,9,10,11,12] 7 12 ((fQ aT.Deputies) != 0) U (fun c1 hk1=>?_) (fun e=>?_))))))
 ·exact qL 2 [0] U (ah call68 (zA _ _ _ _ gD.Deputies) U (qO 2 U (hk1 _ U)))
 refine aj (ce 5 [13,14,15,16,17,18] 13 18 ((e9 aT.Interests) != 0) U (fun c2 hk2=>?_) (fun e=>?_))
 ·exact qL 2 [0] U (ah call69 (sc _ _ _ _ gD.Interests) U (qO 2 U (hk2 _ U)))
 refine aj (ce 5 [19,20,21,22,23,24] 19 24 ((fP aT.Budgets) != 0) U (fun c3 hk3=>?_) (fun e=>?_))
 ·exact qL 2 [0] U (ah call70 (zw _ _ _ _ gD.Budgets) U (qO 2 U (hk3 _ U)))
 refine aM (ac hs0 U (fun c4 hs1=>?_) (fun c4 hs2=>?_))
 ·exact sr (an (nretP [I 300] (ci hs1)))
 refine qK 6 [0] U (ah call71 (pw _ _ _ _ gD.Versions ob) U (qO 2 U (ce 5 [29,30,31,32,33,34] 29 34 ((eU aT.Docs) != 0) U (fun c5 hk4=>?_) (fun e=>?_))))
 ·exact qL 2 [0] U (ah call72 (zy _ _ _ _ gD.Docs) U (qO 2 U (hk4 _ U)))
 refine aj (ce 5 [35,36,37,38,39,40] 35 40 ((fO aT.Approvals) != 0) U (fun c6 hk5=>?_) (fun e=>?_))
 ·exact qL 2 [0] U (ah call73 (zo _ _ _ _ gD.Approvals) U (qO 2 U (hk5 _ U)))
 refine aM (ac hs2 U (fun c7 hs4=>?_) (fun c7 hs5=>?_))
 ·exact sr (an (nretP [I 300] (ci hs4)))
 exact aE (qT 4 U (nretP [I 0] (ci hs5)))
theorem yh (h:HF) (who:List Int) (dU:Option Addr) (dT:Nat) (hwho:SlC Rp.int h dU dT who):Ret prog 32 [.slice dU who.length dT] h (.bool (eD who)):=by
 refine sT func32 U ntmps32 U fun X hM hX hF=>?_
 have hs0:eD who=eD who:=rfl
 refine qT 9 U ?_
 refine lp0 who (fun i=>[(0,.slice dU who.length dT),(3,I (i:Int))]) ([]) (fun s1 i=>(eD.L1 who (eD.K1)) s1 i) hwho.1.1 hs0 ?_ ?_ ?_
 ·rintro i1 et hs1 e
  exact sr (an (nretP [.bool true] (cs hs1)))
 ·rintro i1 y1 rz1 hd1 cw ao dy fB hs3 hx1 ag1 e
  refine qK 6 [] U (ad (v':=.bool true) U (cb cw) (qO 6 U ?_))
  refine ke [(0,.slice dU who.length dT),(3,I (i1:Int)),(37,.bool ((decide (y1 < 0)||decide (64≤y1))||(decide (0 < (i1:Int))&&decide (y1≤(nthI who ((i1:Int) - 1))))))] (fun e=>?_) (fun hk1=>?_)
  rotate_left
  ·refine eB ([]) mixed kr jn (fun cB _=>?_)
   refine qA [0,1] U (cD 2 (enc:=fun y=>[I y]) cB jn ei cQ ty3 hwho.1 (nthZ ao) (au ao) U U U U kr (fun q3 A3=>tf 3 U U (fun _ _ hj=>eF ty3 (A3.mono hj.1) U) (qA [4,5] U ?_)))
   refine cx 15 U (fun c1=>?_) (fun c1=>?_)
   ·have c1p:=of_decide_eq_true c1
    exact tk 6 U U (qR 7 21 U (aI kr (hk1 _ ⟨U,U,(cb (show true=((decide (y1 < 0)||decide (64≤y1))||(decide (0 < (i1:Int))&&decide (y1≤(nthI who ((i1:Int) - 1))))) from by rw [c1] <;> rfl)),trivial⟩)))
   have c1p:=of_decide_eq_false c1
   refine qA [6,7] U (cD 8 (enc:=fun y=>[I y]) cB jn ei cQ ty3 hwho.1 (nthZ ao) (au ao) U U U U kr (fun q4 A4=>tf 9 U U (fun _ _ hj=>eF ty3 (A4.mono hj.1) U) (qR 10 3 U ?_)))
   refine cx 22 U (fun c2=>?_) (fun c2=>?_)
   ·have c2p:=of_decide_eq_true c2
    exact tk 13 U U (qR 14 14 U (aI kr (hk1 _ ⟨U,U,(cb (show true=((decide (y1 < 0)||decide (64≤y1))||(decide (0 < (i1:Int))&&decide (y1≤(nthI who ((i1:Int) - 1))))) from by rw [c1,c2] <;> rfl)),trivial⟩)))
   have c2p:=of_decide_eq_false c2
   refine qR 13 3 U ?_
   refine cx 25 U (fun c3=>?_) (fun c3=>?_)
   ·have c3p:=of_decide_eq_true c3
    refine qA [16,17] U (cD 18 (enc:=fun y=>[I y]) cB jn ei cQ ty3 hwho.1 (nthZ ao) (au ao) U U U U kr (fun q5 A5=>tf 19 U U (fun _ _ hj=>eF ty3 (A5.mono hj.1) U) (qA [20,21] U (tf 22 U U (fun _ _ _=>mq (v':=I ((i1:Int) - 1)) U (gG ob)) ?_))))
    have ho1:0≤(((i1:Int) - 1):Int)∧(((i1:Int) - 1):Int) < ((who).length:Int):=ob
    exact cD 23 (enc:=fun y=>[I y]) cB jn ei cQ ty3 hwho.1 ho1 (bT ho1) U U U U kr (fun q6 A6=>tf 24 U U (fun _ _ hj=>eF ty3 (A6.mono hj.1) U) (qR 25 3 U (aI kr (hk1 _ ⟨U,U,(cb (show decide (y1≤(nthI who ((i1:Int) - 1)))=((decide (y1 < 0)||decide (64≤y1))||(decide (0 < (i1:Int))&&decide (y1≤(nthI who ((i1:Int) - 1))))) from by rw [c1,c2,c3] <;> rfl)),trivial⟩))))
   have c3p:=of_decide_eq_false c3
   exact tk 16 U U (qR 17 11 U (aI kr (hk1 _ ⟨U,U,(cb (show false=((decide (y1 < 0)||decide (64≤y1))||(decide (0 < (i1:Int))&&decide (y1≤(nthI who ((i1:Int) - 1))))) from by rw [c1,c2,c3] <;> rfl)),trivial⟩)))
  refine ac hs3 U (fun c4 hs4=>?_) (fun c4 hs5=>?_)
  ·exact sr (an (nretP [.bool false] (cs hs4)))
  exact aE (qT 3 U (ad (v':=I (((i1+1):Nat):Int)) U (aL ob) (an (ag1 hs5))))
 rintro i1 hd1 eG hx e
 exact qK 6 [] U (ad (v':=.bool false) U (cb eG) (qO 3 U (hx _ rd)))
theorem m4 (h:HF) (aT:Register) (dt:dH) (no:Int) (gD:Register.ok h aT dt):iq prog 46 [.agg (Register.cells aT dt).toArray,I no] h (fun v h'=>∃ (rr0:lB),v=.agg (Version.cells (aV aT no) rr0).toArray∧Version.ok h' (aV aT no) rr0):=by
 refine cU func46 U ntmps46 U fun X hM hX=>?_
 have hs0:aV aT no=aV aT no:=rfl
 refine sr (cA (fun b1=>bH zc70 (fun b2=>qO 6 U ?_)))
 refine lp0 aT.Versions (fun i=>[(1,I no),(2,Q b1),(4,Q b2),(5,I (i:Int))]) ([(b2,O [I 0,I 0,I 0,.string (⟨#[]⟩:ByteArray),.slice none 0 0,.slice none 0 0,.slice none 0 0,I 0,I 0,I 0,.string (⟨#[]⟩:ByteArray),.slice none 0 0,I 0] 70),(b1,O (Register.cells aT dt) 30)]) (fun s1 i=>(aV.L1 no (aV.K1)) s1) gD.Versions.1.1 hs0 ?_ ?_ ?_
 ·rintro i1 et hs1 e
  refine sr (aA (er (cells:=[I 0,I 0,I 0,.string (⟨#[]⟩:ByteArray),.slice none 0 0,.slice none 0 0,.slice none 0 0,I 0,I 0,I 0,.string (⟨#[]⟩:ByteArray),.slice none 0 0,I 0]) (places:=[(0,1),(1,1),(2,1),(3,10)]) underlying70 zc70 kr kr (bE 0 ty70 U U U U U U (aM ?_))))
  have hs2:aV aT no=(Version.mk 0 0 0 (Policy.mk (⟨#[]⟩:ByteArray) ([]) ([]) ([]) (Expr.mk 0 0 0 (⟨#[]⟩:ByteArray) ([])) 0)):=hs1
  exact fR [.agg (List.toArray [I 0,I 0,I 0,.string (⟨#[]⟩:ByteArray),.slice none 0 0,.slice none 0 0,.slice none 0 0,I 0,I 0,I 0,.string (⟨#[]⟩:ByteArray),.slice none 0 0,I 0])] func46 U ⟨⟨0,_,_,_,_,U,U,.inl ⟨ty70,U⟩⟩,trivial⟩ ⟨(lB.mk (dS.mk none 0 none 0 none 0 (cm.mk none 0))),congrArg (fun r:Version=>(.agg (Version.cells r (lB.mk (dS.mk none 0 none 0 none 0 (cm.mk none 0)))).toArray:Value)) hs2.symm,(by rw [hs2];exact (show Version.ok h (Version.mk 0 0 0 (Policy.mk (⟨#[]⟩:ByteArray) ([]) ([]) ([]) (Expr.mk 0 0 0 (⟨#[]⟩:ByteArray) ([])) 0)) (lB.mk (dS.mk none 0 none 0 none 0 (cm.mk none 0))) from ⟨(show Policy.ok h (Policy.mk (⟨#[]⟩:ByteArray) ([]) ([]) ([]) (Expr.mk 0 0 0 (⟨#[]⟩:ByteArray) ([])) 0) (dS.mk none 0 none 0 none 0 (cm.mk none 0)) from ⟨SlC.nil,SlC.nil,SlC.nil,(show Expr.ok h (Expr.mk 0 0 0 (⟨#[]⟩:ByteArray) ([])) (cm.mk none 0) from Expr.ok.of SlC.nil)⟩)⟩))⟩
 ·rintro i1 y1 rz1 hd1 cw ao dy fB hs3 hx1 ag1 e
  refine qK 7 [1] U (ad (v':=.bool true) U (cb cw) (qL 10 [1] U (aA (dV lg ty70 gD.Versions.1 (nthZ ao) (au ao) U U U (fun _ _ _ e=>e) (fun q3 r3 A3 ok3=>qL 1 [] U (cK ty3 A3 U (qO 3 U (ac hs3 U (fun c2 hs4=>?_) (fun c2 hs5=>?_)))))))))
  ·refine qK 5 [1] U (aA (dV lg ty70 gD.Versions.1 (nthZ ao) (au ao) U U U (fun _ _ _ e=>e) (fun q4 r4 A4 ok4=>de ty70 A4 U U (bE 0 ty70 U U U U U U (aM ?_)))))
   have hs6:aV aT no=y1:=hs4
   exact fR [.agg (Version.cells y1 r4).toArray] func46 U ⟨⟨0,_,_,_,_,U,U,.inl ⟨ty70,U⟩⟩,trivial⟩ ⟨r4,congrArg (fun r:Version=>(.agg (Version.cells r r4).toArray:Value)) hs6.symm,(by rw [hs6];exact ok4)⟩
  exact aE (qT 3 U (ad (v':=I (((i1+1):Nat):Int)) U (aL ob) (an (ag1 hs5))))
 rintro i1 hd1 eG hx e
 exact qK 7 [1] U (ad (v':=.bool false) U (cb eG) (qO 3 U (hx _ rd)))
theorem jE (h:HF) (l:List Version) (ey:Option Addr) (ew:Nat) (fa:Int) (known:Int) (hl:SlC Version.rp h ey ew l):Ret prog 120 [.slice ey l.length ew,I fa,I known] h (I (av l fa known)):=by
 refine sT func120 U ntmps120 U fun X hM hX hF=>?_
 have hs0:av l fa known=av l fa known:=rfl
 refine qT 13 U ?_
 refine lp2 l (fun i w=>[(0,.slice ey l.length ew),(1,I fa),(2,I known),(7,I w),(8,I (i:Int))]) (fun _=>h) (fun w=>[]) (fun i w=>-1≤w∧w < (l.length:Int)) (fun s1 i w=>(av.L1 l fa known (av.K1)) s1 i w) (-1) hl.1.1 hs0 (by first | omega | (dsimp only;omega)) ?_ ?_ ?_
 ·rintro i1 ky et hs1 u1_0 e
  exact sr (qO 3 U (nretP [I ky] (ci hs1)))
 ·rintro i1 ky y1 rz1 hd1 cw ao dy fB hs3 u1_0 hx1 ag1 e
  refine qK 6 [] U (ad (v':=.bool true) U (cb cw) (qO 6 U ?_))
  refine ke [(0,.slice ey l.length ew),(1,I fa),(2,I known),(7,I ky),(8,I (i1:Int)),(47,.bool ((decide (y1.At≤fa)&&decide (y1.Known≤known))&&(decide (ky < 0)||decide ((nthI l ky).At≤y1.At))))] (fun e=>?_) (fun hk1=>?_)
  rotate_left
  ·refine eB ([]) mixed kr jn (fun cB _=>?_)
   refine qA [0,1] U (gC 2 cB jn lg ty70 hl.1 (nthZ ao) (au ao) U U U U kr (fun q3 cs3 A3 ln3 rr3=>?_))
   obtain ⟨r3,rfl,ok3⟩:=rr3
   refine qB [3] U (tf 4 U U (fun _ _ hj=>kQ 1 ty3 (A3.mono hj.1) U U) (qR 5 3 U ?_))
   refine cx 22 U (fun c1=>?_) (fun c1=>?_)
   ·have c1p:=of_decide_eq_true c1
    refine qA [8,9] U (gC 10 cB jn lg ty70 hl.1 (nthZ ao) (au ao) U U U U kr (fun q4 cs4 A4 ln4 rr4=>?_))
    obtain ⟨r4,rfl,ok4⟩:=rr4
    refine qB [11] U (tf 12 U U (fun _ _ hj=>kQ 2 ty3 (A4.mono hj.1) U U) (qR 13 4 U ?_))
    refine cx 31 U (fun c2=>?_) (fun c2=>?_)
    ·have c2p:=of_decide_eq_true c2
     refine qR 17 3 U ?_
     refine cx 34 U (fun c3=>?_) (fun c3=>?_)
     ·have c3p:=of_decide_eq_true c3
      exact tk 20 U U (qR 21 12 U (aI kr (hk1 _ ⟨U,U,U,U,U,(cb (show true=((decide (y1.At≤fa)&&decide (y1.Known≤known))&&(decide (ky < 0)||decide ((nthI l ky).At≤y1.At))) from by rw [c1,c2,c3] <;> rfl)),trivial⟩)))
     have c3p:=of_decide_eq_false c3
     refine qA [20,21] U (gC 22 cB jn lg ty70 hl.1 (nthZ ao) (au ao) U U U U kr (fun q5 cs5 A5 ln5 rr5=>?_))
     obtain ⟨r5,rfl,ok5⟩:=rr5
     refine qB [23] U (tf 24 U U (fun _ _ hj=>kQ 1 ty3 (A5.mono hj.1) U U) (qA [25,26] U ?_))
     have ho1:0≤(ky:Int)∧(ky:Int) < ((l).length:Int):=ob
     refine gC 27 cB jn lg ty70 hl.1 ho1 (bT ho1) U U U U kr (fun q6 cs6 A6 ln6 rr6=>?_)
     obtain ⟨r6,rfl,ok6⟩:=rr6
     exact tf 28 U U (fun _ _ _=>nt JK U) (tf 29 U U (fun _ _ hj=>kQ 1 ty3 (A6.mono hj.1) U U) (qR 30 3 U (aI kr (hk1 _ ⟨U,U,U,U,U,(cb (show decide ((nthI l ky).At≤y1.At)=((decide (y1.At≤fa)&&decide (y1.Known≤known))&&(decide (ky < 0)||decide ((nthI l ky).At≤y1.At))) from by rw [c1,c2,c3] <;> rfl)),trivial⟩))))
    have c2p:=of_decide_eq_false c2
    exact tk 17 U U (qR 18 15 U (aI kr (hk1 _ ⟨U,U,U,U,U,(cb (show false=((decide (y1.At≤fa)&&decide (y1.Known≤known))&&(decide (ky < 0)||decide ((nthI l ky).At≤y1.At))) from by rw [c1,c2] <;> rfl)),trivial⟩)))
   have c1p:=of_decide_eq_false c1
   exact tk 8 U U (qR 9 24 U (aI kr (hk1 _ ⟨U,U,U,U,U,(cb (show false=((decide (y1.At≤fa)&&decide (y1.Known≤known))&&(decide (ky < 0)||decide ((nthI l ky).At≤y1.At))) from by rw [c1] <;> rfl)),trivial⟩)))
  refine ac hs3 U (fun c4 hs4=>?_) (fun c4 hs5=>?_)
  ·exact bn (qO 6 U (ad (v':=I (((i1+1):Nat):Int)) U (aL ob) (an (ag1 (i1:Int) hs4 (by first | omega | (dsimp only;omega))))))
  exact aE (qT 3 U (ad (v':=I (((i1+1):Nat):Int)) U (aL ob) (an (ag1 ky hs5 (by first | omega | (dsimp only;omega))))))
 rintro i1 ky hd1 eG hx e
 exact qK 6 [] U (ad (v':=.bool false) U (cb eG) (qO 3 U (hx _ rd)))
theorem kj (l:List Version) (a b:Int):av l a b < (l.length:Int):=by
 have key:∀ (s:List Version) (i:Nat) (g:Int),i+s.length=l.length→g < (l.length:Int)→av.L1 l a b av.K1 s i g < (l.length:Int):=by
  intro s
  induction s with
  | nil=>intro i g _ hg;exact hg
  | cons y s ih=>
   intro i g hi hg
   simp only [List.length_cons] at hi
   simp only [av.L1,Bool.cond_eq_ite]
   split
   ·exact ih _ _ ob ob
   exact ih _ _ ob hg
 exact key l 0 (-1) (by simp) ob
theorem qJ (h:HF) (l:List Int) (ey:Option Addr) (ew:Nat) (gM:Int) (hl:SlC Rp.int h ey ew l) (hsz0:l.length≤2000000):iq prog 197 [.slice ey l.length ew,I gM] h (fun v h'=>∃ (rb0:Option Addr) (rc0:Nat),v=.slice rb0 (dx l gM).length rc0∧SlC Rp.int h' rb0 rc0 (dx l gM)):=by
 refine sT func197 U ntmps197 U fun X hM hX hF=>?_
 have hs0:dx l gM=dx l gM:=rfl
 refine qT 9 U ?_
 refine lp0 l (fun i=>[(0,.slice ey l.length ew),(1,I gM),(5,I (i:Int))]) ([]) (fun s1 i=>(dx.L1 gM (dx.K1 l gM)) s1 i) hl.1.1 hs0 ?_ ?_ ?_
 ·rintro i1 et hs1 e
  refine qK 8 [] U (bx 7 [24,25,26,27,28,29,30,31] 24 31 ((nthI l (i1:Int))==gM) U (fun c2 hk1=>?_) (fun e=>?_))
  ·refine qO 2 U ?_
   have ho2:0≤((i1:Int):Int)∧((i1:Int):Int) < ((l).length:Int):=ob
   exact aA (ek (enc:=fun y=>[I y]) ei cQ ty3 hl.1 ho2 (bT ho2) U U U (fun q3 A3=>cK ty3 A3 U (qO 3 U (hk1 _ U))))
  refine aM (ac hs1 U (fun c3 hs2=>?_) (fun c3 hs3=>?_))
  ·refine qT 5 U ?_
   have hs4:dx l gM=l:=hs2
   exact nretH [.slice ey l.length ew] ⟨ey,ew,congrArg (fun r:List Int=>(.slice ey r.length ew:Value)) hs4.symm,(by rw [hs4];exact hl)⟩
  refine qT 2 U (eB ([]) mixed kr jn (fun cB _=>qA [1,2] U (Bw 3 cB jn cQ ty3 hl.1 hl.2 ob U U U U kr (fun sb1 sc1 sl1=>qA [5,8,9] U (Bx 10 cB jn cQ ty3 hl.1 hl.2 ob U U U U kr (fun sb2 sc2 sl2=>?_))))))
  refine jq 0 6 kr U U ?_ ?_ 
  ·refine ia cQ ty3 (fun b1=>⟨jn,?_⟩)
   refine jq 4 6 kr U U ?_ ?_ 
   ·refine bS Rp.dF ([]) ([]) (fun G=>G) ap (fun _=>ap) cQ ty3 zc3 U bytes3 (cM.lit (show aP Rp.int h [] ([]) from U) U) U U (fo sl1.1) lo lo (fun ob1 oc1 G1 gr1=>⟨jn,(tn 6 U (bg (cells:=[I gM]) cQ ty3 zc3 U U kr (fun b2=>⟨jn,tn 7 U (bS Rp.dF ([(b2,O [I gM] 3)]) ([]) (fun G=>[(b2,O [I gM] 3)]++G) ap (fun _=>ap) cQ ty3 zc3 U bytes3 gr1 U U (du 0 U (show aP Rp.int h [I gM] ([gM]) from ⟨[I gM],[],U,U,U,U⟩)) lo lo (fun ob2 oc2 G2 gr2=>⟨jn,(tn 11 U (bS Rp.dF ([(b2,O [I gM] 3)]) ([]) (fun G=>[(b2,O [I gM] 3)]++G) ap (fun _=>ap) cQ ty3 zc3 U bytes3 gr2 U U (fo sl2.1) lo lo (fun ob3 oc3 G3 gr3=>⟨jn,(qA [12] U (aI kr (eI Rp.aK ([(b2,O [I gM] 3)]) G3 ([]) ap hM gr3 (fun h1 hle1 sl3=>?_))))⟩)))⟩))⟩)))⟩)
    have hs5:dx l gM=(((l.take (((i1:Int):Int)).toNat)++[gM])++(l.drop (((i1:Int):Int)).toNat)):=hs3
    exact nretH [.slice ob3 ((((l.take (((i1:Int):Int)).toNat)++[gM])++(l.drop (((i1:Int):Int)).toNat)).length) oc3] ⟨ob3,oc3,congrArg (fun r:List Int=>(.slice ob3 r.length oc3:Value)) hs5.symm,(by rw [hs5];exact sl3)⟩
   refine bg (cells:=[I gM]) cQ ty3 zc3 U U kr (fun b3=>⟨jn,(tn 4 U (bS Rp.dF ([(b3,O [I gM] 3)]) ([]) (fun G=>[(b3,O [I gM] 3)]++G) ap (fun _=>ap) cQ ty3 zc3 U bytes3 (cM.lit (show aP Rp.int h [] ([]) from U) U) U U (fo sl1.1) lo lo (fun ob4 oc4 G4 gr4=>⟨jn,(tn 7 U (bS Rp.dF ([(b3,O [I gM] 3)]) ([]) (fun G=>[(b3,O [I gM] 3)]++G) ap (fun _=>ap) cQ ty3 zc3 U bytes3 gr4 U U (du 0 U (show aP Rp.int h [I gM] ([gM]) from ⟨[I gM],[],U,U,U,U⟩)) lo lo (fun ob5 oc5 G5 gr5=>⟨jn,(tn 11 U (bS Rp.dF ([(b3,O [I gM] 3)]) ([]) (fun G=>[(b3,O [I gM] 3)]++G) ap (fun _=>ap) cQ ty3 zc3 U bytes3 gr5 U U (fo sl2.1) lo lo (fun ob6 oc6 G6 gr6=>⟨jn,(qA [12] U (aI kr (eI Rp.aK ([(b3,O [I gM] 3)]) G6 ([]) ap hM gr6 (fun h2 hle2 sl4=>?_))))⟩)))⟩)))⟩)))⟩)
   have hs6:dx l gM=(((l.take (((i1:Int):Int)).toNat)++[gM])++(l.drop (((i1:Int):Int)).toNat)):=hs3
   exact nretH [.slice ob6 ((((l.take (((i1:Int):Int)).toNat)++[gM])++(l.drop (((i1:Int):Int)).toNat)).length) oc6] ⟨ob6,oc6,congrArg (fun r:List Int=>(.slice ob6 r.length oc6:Value)) hs6.symm,(by rw [hs6];exact sl4)⟩
  refine bg (cells:=[I gM]) cQ ty3 zc3 U U kr (fun b4=>⟨jn,(tn 0 U (ia cQ ty3 (fun b5=>⟨jn,(tn 4 U (bS Rp.dF ([]) ([(b4,O [I gM] 3)]) (fun G=>[(b4,O [I gM] 3)]++G) ap (fun _=>ap) cQ ty3 zc3 U bytes3 (cM.lit (show aP Rp.int h [] ([]) from U) U) U U (fo sl1.1) lo lo (fun ob7 oc7 G7 gr7=>⟨jn,(tn 7 U (bS Rp.dF ([(b4,O [I gM] 3)]) ([]) (fun G=>[(b4,O [I gM] 3)]++G) ap (fun _=>ap) cQ ty3 zc3 U bytes3 gr7 U U (du 0 U (show aP Rp.int h [I gM] ([gM]) from ⟨[I gM],[],U,U,U,U⟩)) lo lo (fun ob8 oc8 G8 gr8=>⟨jn,(tn 11 U (bS Rp.dF ([(b4,O [I gM] 3)]) ([]) (fun G=>[(b4,O [I gM] 3)]++G) ap (fun _=>ap) cQ ty3 zc3 U bytes3 gr8 U U (fo sl2.1) lo lo (fun ob9 oc9 G9 gr9=>⟨jn,(qA [12] U (aI kr (eI Rp.aK ([(b4,O [I gM] 3)]) G9 ([]) ap hM gr9 (fun h3 hle3 sl5=>?_))))⟩)))⟩)))⟩)))⟩)))⟩)
  have hs7:dx l gM=(((l.take (((i1:Int):Int)).toNat)++[gM])++(l.drop (((i1:Int):Int)).toNat)):=hs3
  exact nretH [.slice ob9 ((((l.take (((i1:Int):Int)).toNat)++[gM])++(l.drop (((i1:Int):Int)).toNat)).length) oc9] ⟨ob9,oc9,congrArg (fun r:List Int=>(.slice ob9 r.length oc9:Value)) hs7.symm,(by rw [hs7];exact sl5)⟩
 ·rintro i1 y1 rz1 hd1 cw ao dy fB hs8 hx1 ag1 e
  refine qK 6 [] U (ad (v':=.bool true) U (cb cw) (qO 3 U (aA (ek (enc:=fun y=>[I y]) ei cQ ty3 hl.1 (nthZ ao) (au ao) U U U (fun q4 A4=>cK ty3 A4 U (qO 4 U (ac hs8 U (fun c4 hs9=>?_) (fun c4 hs10=>?_))))))))
  ·have c4p:=of_decide_eq_true c4
   exact aE (qT 3 U (ad (v':=I (((i1+1):Nat):Int)) U (aL ob) (qO 3 U (ag1 hs9))))
  have c4p:=of_decide_eq_false c4
  exact j6 U (hx1 i1 hs10)
 rintro i1 hd1 eG hx e
 exact qK 6 [] U (ad (v':=.bool false) U (cb eG) (qO 11 U (hx _ rd)))
theorem wz (h:HF) (l:List Version) (ey:Option Addr) (ew:Nat) (begun:Int) (aO:Int) (known:Int) (hl:SlC Version.rp h ey ew l) (hsm:smV l):iq prog 121 [.slice ey l.length ew,I begun,I aO,I known] h (fun v h'=>∃ (rb0:Option Addr) (rc0:Nat),v=.slice rb0 (bj l begun aO known).length rc0∧SlC Rp.int h' rb0 rc0 (bj l begun aO known)):=by
 refine sT func121 U ntmps121 U fun X hM hX hF=>?_
 have hs0:bj l begun aO known=bj l begun aO known:=rfl
 have hsl:=hsm.len
 refine qT 13 U (ah Bo (jE _ _ _ _ begun known hl) U (qO 8 U (ac hs0 U (fun c1 hs1=>?_) (fun c1 hs2=>?_))))
 ·have c1p:=of_decide_eq_true c1
  refine qT 4 U ?_
  have ho1:0≤((av l begun known):Int)∧((av l begun known):Int) < ((l).length:Int):=⟨ob,kj _ _ _⟩
  refine aA (dV lg ty70 hl.1 ho1 (bT ho1) U U U (fun _ _ _ e=>e) (fun q1 r1 A1 ok1=>qL 1 [] U (cK ty3 A1 U (aA (cf call197 (qJ h ([]) none 0 ((nthI l (av l begun known)).No) SlC.nil (by first | omega | (simp only [List.length_nil];omega) | (have hq:=gO [] ((nthI l (av l begun known)).No);simp only [List.length_nil] at hq;omega))) U (fun v1 h1 hle1 hp1=>?_))))))
  obtain ⟨rb1,rc1,rfl,sl1⟩:=hp1
  refine qO 7 U ?_
  refine lp2 l (fun i w=>[(0,.slice ey l.length ew),(1,I begun),(2,I aO),(3,I known),(9,.slice w.2.1 w.1.length w.2.2.1),(11,I (i:Int))]) (fun w=>w.2.2.2) (fun w=>[]) (fun i w=>SlC Rp.int w.2.2.2 w.2.1 w.2.2.1 w.1∧w.1.length≤(dx ([]) ((nthI l (av l begun known)).No)).length+i∧HF.le h1 w.2.2.2) (fun s1 i w=>(bj.L1 l begun aO known (bj.K1)) s1 w.1) ((dx ([]) ((nthI l (av l begun known)).No)),rb1,rc1,h1) ((hl.mono Version.ak hle1).1.1) hs1 ⟨sl1,(by first | omega | (simp only [List.length_append,List.length_cons,List.length_nil];omega) | (have hq:=gO jI ((nthI l (av l y1.At known)).No);first | omega | (dsimp only;omega))),lf⟩ ?_ ?_ ?_
  ·rintro i1 ⟨jI,vT,vS,hh1⟩ et hs3 ⟨qj,Ak,hl1⟩ e
   try dsimp only at qj Ak hl1
   refine qT 5 U ?_
   have hs4:bj l begun aO known=jI:=hs3
   exact nretH [.slice vT jI.length vS] ⟨vT,vS,congrArg (fun r:List Int=>(.slice vT r.length vS:Value)) hs4.symm,(by rw [hs4];exact qj)⟩
  ·rintro i1 ⟨jI,vT,vS,hh1⟩ y1 rz1 hd1 cw ao dy fB hs5 ⟨qj,Ak,hl1⟩ hx1 ag1 e
   try dsimp only at qj Ak hl1
   refine qK 6 [] U (ad (v':=.bool true) U (cb cw) (qO 9 U (aA (dV lg ty70 (hl.mono Version.ak (hle1.t hl1)).1 (nthZ ao) (au ao) U U U (fun _ _ _ e=>e) (fun q4 r4 A4 ok4=>qL 1 [] U (jF (j:=1) ty3 A4 U U (qO 3 U (bx 8 [38,39,40,41,42,43,44,45,46] 38 46 (decide (y1.At≤aO)) U (fun c2 hk1=>?_) (fun e=>?_)))))))))
   ·exact aj (aj (aA (dV lg ty70 (hl.mono Version.ak (hle1.t hl1)).1 (nthZ ao) (au ao) U U U (fun _ _ _ e=>e) (fun q5 r5 A5 ok5=>qL 1 [] U (jF (j:=1) ty3 A5 U U (qO 3 U (hk1 _ U)))))))
   refine aj (bx 10 [47,48,49,50,51,52,53,54,55,56,57] 47 57 (decide (0≤(av l y1.At known))) U (fun c3 hk2=>?_) (fun e=>?_))
   ·exact aj (qO 2 U (aA (dV lg ty70 (hl.mono Version.ak (hle1.t hl1)).1 (nthZ ao) (au ao) U U U (fun _ _ _ e=>e) (fun q6 r6 A6 ok6=>qL 1 [] U (jF (j:=1) ty3 A6 U U (aj (ah Bo (jE _ _ _ _ y1.At known (hl.mono Version.ak (hle1.t hl1))) U (qO 2 U (hk2 _ U)))))))))
   refine aM (ac hs5 U (fun c4 hs6=>?_) (fun c4 hs7=>?_))
   ·refine qT 6 U (aA (dV lg ty70 (hl.mono Version.ak (hle1.t hl1)).1 (nthZ ao) (au ao) U U U (fun _ _ _ e=>e) (fun q7 r7 A7 ok7=>qL 1 [] U (jF (j:=1) ty3 A7 U U (aj (ah Bo (jE _ _ _ _ y1.At known (hl.mono Version.ak (hle1.t hl1))) U ?_))))))
    have ho2:0≤((av l y1.At known):Int)∧((av l y1.At known):Int) < ((l).length:Int):=⟨ob,kj _ _ _⟩
    refine aA (dV lg ty70 (hl.mono Version.ak (hle1.t hl1)).1 ho2 (bT ho2) U U U (fun _ _ _ e=>e) (fun q8 r8 A8 ok8=>qL 1 [] U (cK ty3 A8 U (aA (cf call197 (qJ _ _ _ _ ((nthI l (av l y1.At known)).No) qj (by first | omega | (simp only [List.length_nil];omega) | (have hq:=gO [] ((nthI l (av l begun known)).No);simp only [List.length_nil] at hq;omega))) U (fun v2 h2 hle2 hp2=>?_))))))
    obtain ⟨rb2,rc2,rfl,sl2⟩:=hp2
    exact an (qT 3 U (ad (v':=I (((i1+1):Nat):Int)) U (aL ob) (an (ag1 ((dx jI ((nthI l (av l y1.At known)).No)),rb2,rc2,h2) hs6 ⟨sl2,(by first | omega | (simp only [List.length_append,List.length_cons,List.length_nil];omega) | (have hq:=gO jI ((nthI l (av l y1.At known)).No);first | omega | (dsimp only;omega))),(hl1.t hle2)⟩))))
   exact aE (qT 3 U (ad (v':=I (((i1+1):Nat):Int)) U (aL ob) (an (ag1 (jI,vT,vS,hh1) hs7 ⟨qj,(by first | omega | (simp only [List.length_append,List.length_cons,List.length_nil];omega) | (have hq:=gO jI ((nthI l (av l y1.At known)).No);first | omega | (dsimp only;omega))),hl1⟩))))
  rintro i1 ⟨jI,vT,vS,hh1⟩ hd1 eG hx e
  exact qK 6 [] U (ad (v':=.bool false) U (cb eG) (qO 3 U (hx _ rd)))
 have c1p:=of_decide_eq_false c1
 refine qT 6 U ?_
 refine lp2 l (fun i w=>[(0,.slice ey l.length ew),(1,I begun),(2,I aO),(3,I known),(9,.slice w.2.1 w.1.length w.2.2.1),(11,I (i:Int))]) (fun w=>w.2.2.2) (fun w=>[]) (fun i w=>SlC Rp.int w.2.2.2 w.2.1 w.2.2.1 w.1∧w.1.length≤0+i∧HF.le h w.2.2.2) (fun s2 i w=>(bj.L2 l begun aO known (bj.K2)) s2 w.1) ([],none,0,h) hl.1.1 hs2 ⟨SlC.nil,(by first | omega | (simp only [List.length_append,List.length_cons,List.length_nil];omega) | (have hq:=gO mQ ((nthI l (av l y2.At known)).No);first | omega | (dsimp only;omega))),lf⟩ ?_ ?_ ?_
 ·rintro i2 ⟨mQ,B8,B7,hh2⟩ sK hs8 ⟨B6,IJ,hl2⟩ e
  try dsimp only at B6 IJ hl2
  refine qT 5 U ?_
  have hs9:bj l begun aO known=mQ:=hs8
  exact nretH [.slice B8 mQ.length B7] ⟨B8,B7,congrArg (fun r:List Int=>(.slice B8 r.length B7:Value)) hs9.symm,(by rw [hs9];exact B6)⟩
 ·rintro i2 ⟨mQ,B8,B7,hh2⟩ y2 rz2 hd2 oI jJ vM Ew hs10 ⟨B6,IJ,hl2⟩ hx2 ag2 e
  try dsimp only at B6 IJ hl2
  refine qK 6 [] U (ad (v':=.bool true) U (cb oI) (qO 9 U (aA (dV lg ty70 (hl.mono Version.ak hl2).1 (nthZ jJ) (au jJ) U U U (fun _ _ _ e=>e) (fun q11 r11 A11 ok11=>qL 1 [] U (jF (j:=1) ty3 A11 U U (qO 3 U (bx 8 [38,39,40,41,42,43,44,45,46] 38 46 (decide (y2.At≤aO)) U (fun c5 hk3=>?_) (fun e=>?_)))))))))
  ·exact aj (aj (aA (dV lg ty70 (hl.mono Version.ak hl2).1 (nthZ jJ) (au jJ) U U U (fun _ _ _ e=>e) (fun q12 r12 A12 ok12=>qL 1 [] U (jF (j:=1) ty3 A12 U U (qO 3 U (hk3 _ U)))))))
  refine aj (bx 10 [47,48,49,50,51,52,53,54,55,56,57] 47 57 (decide (0≤(av l y2.At known))) U (fun c6 hk4=>?_) (fun e=>?_))
  ·exact aj (qO 2 U (aA (dV lg ty70 (hl.mono Version.ak hl2).1 (nthZ jJ) (au jJ) U U U (fun _ _ _ e=>e) (fun q13 r13 A13 ok13=>qL 1 [] U (jF (j:=1) ty3 A13 U U (aj (ah Bo (jE _ _ _ _ y2.At known (hl.mono Version.ak hl2)) U (qO 2 U (hk4 _ U)))))))))
  refine aM (ac hs10 U (fun c7 hs11=>?_) (fun c7 hs12=>?_))
  ·refine qT 6 U (aA (dV lg ty70 (hl.mono Version.ak hl2).1 (nthZ jJ) (au jJ) U U U (fun _ _ _ e=>e) (fun q14 r14 A14 ok14=>qL 1 [] U (jF (j:=1) ty3 A14 U U (aj (ah Bo (jE _ _ _ _ y2.At known (hl.mono Version.ak hl2)) U ?_))))))
   have ho3:0≤((av l y2.At known):Int)∧((av l y2.At known):Int) < ((l).length:Int):=⟨ob,kj _ _ _⟩
   refine aA (dV lg ty70 (hl.mono Version.ak hl2).1 ho3 (bT ho3) U U U (fun _ _ _ e=>e) (fun q15 r15 A15 ok15=>qL 1 [] U (cK ty3 A15 U (aA (cf call197 (qJ _ _ _ _ ((nthI l (av l y2.At known)).No) B6 (by first | omega | (simp only [List.length_nil];omega) | (have hq:=gO [] ((nthI l (av l begun known)).No);simp only [List.length_nil] at hq;omega))) U (fun v3 h3 hle3 hp3=>?_))))))
   obtain ⟨rb3,rc3,rfl,sl3⟩:=hp3
   exact an (qT 3 U (ad (v':=I (((i2+1):Nat):Int)) U (aL ob) (an (ag2 ((dx mQ ((nthI l (av l y2.At known)).No)),rb3,rc3,h3) hs11 ⟨sl3,(by first | omega | (simp only [List.length_append,List.length_cons,List.length_nil];omega) | (have hq:=gO mQ ((nthI l (av l y2.At known)).No);first | omega | (dsimp only;omega))),(hl2.t hle3)⟩))))
  exact aE (qT 3 U (ad (v':=I (((i2+1):Nat):Int)) U (aL ob) (an (ag2 (mQ,B8,B7,hh2) hs12 ⟨B6,(by first | omega | (simp only [List.length_append,List.length_cons,List.length_nil];omega) | (have hq:=gO mQ ((nthI l (av l y2.At known)).No);first | omega | (dsimp only;omega))),hl2⟩))))
 rintro i2 ⟨mQ,B8,B7,hh2⟩ hd2 Bc hx e
 exact qK 6 [] U (ad (v':=.bool false) U (cb Bc) (qO 3 U (hx _ rd)))
theorem rq (h:HF) (l:List Version) (ey:Option Addr) (ew:Nat) (begun:Int) (aO:Int) (known:Int) (hl:SlC Version.rp h ey ew l) (hsm:smV l):iq prog 75 [.slice ey l.length ew,I begun,I aO,I known] h (fun v h'=>∃ (rb0:Option Addr) (rc0:Nat),v=.tuple #[.slice rb0 ((cN l begun aO known).1).length rc0,I ((cN l begun aO known).2.1),I ((cN l begun aO known).2.2)]∧SlC Rp.int h' rb0 rc0 ((cN l begun aO known).1)):=by
 refine sT func75 U ntmps75 U fun X hM hX hF=>?_
 have hs0:cN l begun aO known=cN l begun aO known:=rfl
 refine qT 9 U (ah call71 (pw _ _ _ _ hl ob) U (qO 8 U (ac hs0 U (fun c1 hs1=>?_) (fun c1 hs2=>?_))))
 ·refine qT 7 U ?_
  have hs3:cN l begun aO known=([],0,(cy l)):=hs1
  exact nretH [.slice none 0 0,I 0,I (cy l)] ⟨none,0,congrArg (fun r:(List Int×Int×Int)=>(.tuple #[.slice none r.1.length 0,I r.2.1,I r.2.2]:Value)) hs3.symm,(by rw [hs3];exact SlC.nil)⟩
 refine qT 5 U (ah tX (gY h begun) U (qO 2 U (ce 4 [23,24,25,26,27] 23 27 (!(bM aO)) U (fun c2 hk1=>?_) (fun e=>?_))))
 ·exact aj (ah tX (gY h aO) U (qO 2 U (hk1 _ U)))
 refine aj (ce 4 [28,29,30,31,32] 28 32 (!(bM known)) U (fun c3 hk2=>?_) (fun e=>?_))
 ·exact aj (ah tX (gY h known) U (qO 2 U (hk2 _ U)))
 refine aj (ce 4 [33,34,35,36,37] 33 37 (decide (aO < begun)) U (fun c4 hk3=>?_) (fun e=>?_))
 ·exact aj (qO 3 U (hk3 _ U))
 refine aM (ac hs2 U (fun c5 hs4=>?_) (fun c5 hs5=>?_))
 ·refine qT 6 U ?_
  have hs6:cN l begun aO known=([],0,1):=hs4
  exact nretH [.slice none 0 0,I 0,I 1] ⟨none,0,congrArg (fun r:(List Int×Int×Int)=>(.tuple #[.slice none r.1.length 0,I r.2.1,I r.2.2]:Value)) hs6.symm,(by rw [hs6];exact SlC.nil)⟩
 refine qT 6 U (ah Bo (jE _ _ _ _ aO known hl) U (qO 8 U (ac hs5 U (fun c6 hs7=>?_) (fun c6 hs8=>?_))))
 ·have c6p:=of_decide_eq_true c6
  refine qT 6 U ?_
  have hs9:cN l begun aO known=([],0,0):=hs7
  exact nretH [.slice none 0 0,I 0,I 0] ⟨none,0,congrArg (fun r:(List Int×Int×Int)=>(.tuple #[.slice none r.1.length 0,I r.2.1,I r.2.2]:Value)) hs9.symm,(by rw [hs9];exact SlC.nil)⟩
 have c6p:=of_decide_eq_false c6
 refine qT 5 U ?_
 have ho1:0≤((av l aO known):Int)∧((av l aO known):Int) < ((l).length:Int):=⟨ob,kj _ _ _⟩
 refine aA (dV lg ty70 hl.1 ho1 (bT ho1) U U U (fun _ _ _ e=>e) (fun q1 r1 A1 ok1=>qL 2 [] U (jF (j:=12) ty3 A1 U U (qO 13 U (ac hs8 U (fun c7 hs10=>?_) (fun c7 hs11=>?_))))))
 ·refine qT 5 U (ah Bo (jE _ _ _ _ begun known hl) U (qO 8 U (ac hs10 U (fun c8 hs12=>?_) (fun c8 hs13=>?_))))
  ·have c8p:=of_decide_eq_true c8
   refine qT 7 U ?_
   have hs14:cN l begun aO known=([],(nthI l (av l aO known)).Policy.Mode,0):=hs12
   exact nretH [.slice none 0 0,I ((nthI l (av l aO known)).Policy.Mode),I 0] ⟨none,0,congrArg (fun r:(List Int×Int×Int)=>(.tuple #[.slice none r.1.length 0,I r.2.1,I r.2.2]:Value)) hs14.symm,(by rw [hs14];exact SlC.nil)⟩
  have c8p:=of_decide_eq_false c8
  refine qT 5 U ?_
  have ho2:0≤((av l begun known):Int)∧((av l begun known):Int) < ((l).length:Int):=⟨ob,kj _ _ _⟩
  refine aA (dV lg ty70 hl.1 ho2 (bT ho2) U U U (fun _ _ _ e=>e) (fun q2 r2 A2 ok2=>qL 1 [] U (cK ty3 A2 U (aA (bg (cells:=[I ((nthI l (av l begun known)).No)]) cQ ty3 zc3 U U kr (fun b1=>qO 5 U (eM 0 U hM (fun h1 hle1 hb1=>?_))))))))
  have sl1:SlC Rp.int h1 (some ⟨b1,0,none⟩) 1 ([(nthI l (av l begun known)).No]):=aP.slB0 (T:=3) (fz:=(0,0)) ((show aP Rp.int h [I ((nthI l (av l begun known)).No)] ([(nthI l (av l begun known)).No]) from ⟨[I ((nthI l (av l begun known)).No)],[],rfl,rfl,rfl,rfl⟩).mono Rp.aK hle1) hb1
  have hs15:cN l begun aO known=([(nthI l (av l begun known)).No],(nthI l (av l aO known)).Policy.Mode,0):=hs13
  exact nretH [.slice (some ⟨b1,0,none⟩) 1 1,I ((nthI l (av l aO known)).Policy.Mode),I 0] ⟨(some ⟨b1,0,none⟩),1,congrArg (fun r:(List Int×Int×Int)=>(.tuple #[.slice (some ⟨b1,0,none⟩) r.1.length 1,I r.2.1,I r.2.2]:Value)) hs15.symm,(by rw [hs15];exact sl1)⟩
 refine qT 5 U (ac hs11 U (fun c9 hs16=>?_) (fun c9 hs17=>?_))
 ·refine qT 4 U ?_
  have ho3:0≤((av l aO known):Int)∧((av l aO known):Int) < ((l).length:Int):=⟨ob,kj _ _ _⟩
  refine aA (dV lg ty70 hl.1 ho3 (bT ho3) U U U (fun _ _ _ e=>e) (fun q3 r3 A3 ok3=>qL 1 [] U (cK ty3 A3 U (aA (bg (cells:=[I ((nthI l (av l aO known)).No)]) cQ ty3 zc3 U U kr (fun b2=>qO 5 U (eM 0 U hM (fun h2 hle2 hb2=>?_))))))))
  have sl2:SlC Rp.int h2 (some ⟨b2,0,none⟩) 1 ([(nthI l (av l aO known)).No]):=aP.slB0 (T:=3) (fz:=(0,0)) ((show aP Rp.int h [I ((nthI l (av l aO known)).No)] ([(nthI l (av l aO known)).No]) from ⟨[I ((nthI l (av l aO known)).No)],[],rfl,rfl,rfl,rfl⟩).mono Rp.aK hle2) hb2
  have hs18:cN l begun aO known=([(nthI l (av l aO known)).No],(nthI l (av l aO known)).Policy.Mode,0):=hs16
  exact nretH [.slice (some ⟨b2,0,none⟩) 1 1,I ((nthI l (av l aO known)).Policy.Mode),I 0] ⟨(some ⟨b2,0,none⟩),1,congrArg (fun r:(List Int×Int×Int)=>(.tuple #[.slice (some ⟨b2,0,none⟩) r.1.length 1,I r.2.1,I r.2.2]:Value)) hs18.symm,(by rw [hs18];exact sl2)⟩
 refine qT 8 U (aA (cf call121 (wz _ _ _ _ begun aO known hl ob) U (fun v1 h3 hle3 hp1=>?_)))
 obtain ⟨rb1,rc1,rfl,sl3⟩:=hp1
 refine qO 5 U ?_
 have hs19:cN l begun aO known=((bj l begun aO known),(nthI l (av l aO known)).Policy.Mode,0):=hs17
 exact nretH [.slice rb1 ((bj l begun aO known).length) rc1,I ((nthI l (av l aO known)).Policy.Mode),I 0] ⟨rb1,rc1,congrArg (fun r:(List Int×Int×Int)=>(.tuple #[.slice rb1 r.1.length rc1,I r.2.1,I r.2.2]:Value)) hs19.symm,(by rw [hs19];exact sl3)⟩
theorem yo (h:HF) (x:Appoint) (fa:Int) (known:Int)  : Ret prog 202 [.agg (Appoint.cells x).toArray,I fa,I known] h (.bool (iA x fa known)):=by
 refine sT func202 U ntmps202 U fun X hM hX hF=>?_
 have hs0:iA x fa known=iA x fa known:=rfl
 refine sr (cA (fun b1=>qL 9 [0] U (bx 5 [11,12,13,14,15,16] 11 16 (decide (x.Known≤known)) U (fun c1 hk1=>?_) (fun e=>?_))))
 ·exact qL 5 [0] U (hk1 _ U)
 exact an (nretP [.bool (decide (x.At≤fa)&&decide (x.Known≤known))] (cs hs0))
theorem AS (h:HF) (l:List Appoint) (ey:Option Addr) (ew:Nat) (office:Int) (person:Int) (aW:Int) (known:Int) (hl:SlC Appoint.rp h ey ew l):Ret prog 128 [.slice ey l.length ew,I office,I person,I aW,I known] h (I (cz l office person aW known)):=by
 refine sT func128 U ntmps128 U fun X hM hX hF=>?_
 have hs0:cz l office person aW known=cz l office person aW known:=rfl
 refine qT 13 U ?_
 refine lp2 l (fun i w=>[(0,.slice ey l.length ew),(1,I office),(2,I person),(3,I aW),(4,I known),(11,I w),(12,I (i:Int))]) (fun _=>h) (fun w=>[]) (fun i w=>-1≤w∧w < (l.length:Int)) (fun s1 i w=>(cz.L1 l office person aW known (cz.K1)) s1 i w) (-1) hl.1.1 hs0 (by first | omega | (dsimp only;omega)) ?_ ?_ ?_
 ·rintro i1 eV et hs1 u1_0 e
  exact sr (qO 3 U (nretP [I eV] (ci hs1)))
 ·rintro i1 eV y1 rz1 hd1 cw ao dy fB hs3 u1_0 hx1 ag1 e
  refine qK 6 [] U (ad (v':=.bool true) U (cb cw) (qO 6 U ?_))
  refine ke [(0,.slice ey l.length ew),(1,I office),(2,I person),(3,I aW),(4,I known),(11,I eV),(12,I (i1:Int)),(60,.bool ((((y1.Office==office)&&(y1.Person==person))&&(iA y1 aW known))&&(decide (eV < 0)||decide ((nthI l eV).At≤y1.At))))] (fun e=>?_) (fun hk1=>?_)
  rotate_left
  ·refine eB ([]) mixed kr jn (fun cB _=>?_)
   refine qA [0,1] U (cD 2 (enc:=Appoint.cells) cB jn ei uv ty59 hl.1 (nthZ ao) (au ao) U U U U kr (fun q3 A3=>qB [3] U (tf 4 U U (fun _ _ hj=>kQ 3 ty3 (A3.mono hj.1) U U) (qR 5 3 U ?_))))
   refine cx 26 U (fun c1=>?_) (fun c1=>?_)
   ·refine qA [8,9] U (cD 10 (enc:=Appoint.cells) cB jn ei uv ty59 hl.1 (nthZ ao) (au ao) U U U U kr (fun q4 A4=>qB [11] U (tf 12 U U (fun _ _ hj=>kQ 4 ty3 (A4.mono hj.1) U U) (qR 13 4 U ?_))))
    refine cx 35 U (fun c2=>?_) (fun c2=>?_)
    ·refine qA [17,18] U (cD 19 (enc:=Appoint.cells) cB jn ei uv ty59 hl.1 (nthZ ao) (au ao) U U U U kr (fun q5 A5=>tf 20 U U (fun _ _ hj=>iQ ty59 (A5.mono hj.1) U U) (qA [21,22] U (tn 23 U (eK call202 (yo h y1 aW known) U (⟨jn,(qA [24,25] U ?_)⟩))))))
     refine cx 44 U (fun c3=>?_) (fun c3=>?_)
     ·refine qR 26 3 U ?_
      refine cx 47 U (fun c4=>?_) (fun c4=>?_)
      ·have c4p:=of_decide_eq_true c4
       exact tk 29 U U (qR 30 12 U (aI kr (hk1 _ ⟨U,U,U,U,U,U,U,(cb (show true=((((y1.Office==office)&&(y1.Person==person))&&(iA y1 aW known))&&(decide (eV < 0)||decide ((nthI l eV).At≤y1.At))) from by rw [c1,c2,c3,c4] <;> rfl)),trivial⟩)))
      have c4p:=of_decide_eq_false c4
      refine qA [29,30] U (cD 31 (enc:=Appoint.cells) cB jn ei uv ty59 hl.1 (nthZ ao) (au ao) U U U U kr (fun q6 A6=>qB [32] U (tf 33 U U (fun _ _ hj=>kQ 1 ty3 (A6.mono hj.1) U U) (qA [34,35] U ?_))))
      have ho1:0≤(eV:Int)∧(eV:Int) < ((l).length:Int):=ob
      exact cD 36 (enc:=Appoint.cells) cB jn ei uv ty59 hl.1 ho1 (bT ho1) U U U U kr (fun q7 A7=>qB [37] U (tf 38 U U (fun _ _ hj=>kQ 1 ty3 (A7.mono hj.1) U U) (qR 39 3 U (aI kr (hk1 _ ⟨U,U,U,U,U,U,U,(cb (show decide ((nthI l eV).At≤y1.At)=((((y1.Office==office)&&(y1.Person==person))&&(iA y1 aW known))&&(decide (eV < 0)||decide ((nthI l eV).At≤y1.At))) from by rw [c1,c2,c3,c4] <;> rfl)),trivial⟩)))))
     exact tk 26 U U (qR 27 15 U (aI kr (hk1 _ ⟨U,U,U,U,U,U,U,(cb (show false=((((y1.Office==office)&&(y1.Person==person))&&(iA y1 aW known))&&(decide (eV < 0)||decide ((nthI l eV).At≤y1.At))) from by rw [c1,c2,c3] <;> rfl)),trivial⟩)))
    exact tk 17 U U (qR 18 24 U (aI kr (hk1 _ ⟨U,U,U,U,U,U,U,(cb (show false=((((y1.Office==office)&&(y1.Person==person))&&(iA y1 aW known))&&(decide (eV < 0)||decide ((nthI l eV).At≤y1.At))) from by rw [c1,c2] <;> rfl)),trivial⟩)))
   exact tk 8 U U (qR 9 33 U (aI kr (hk1 _ ⟨U,U,U,U,U,U,U,(cb (show false=((((y1.Office==office)&&(y1.Person==person))&&(iA y1 aW known))&&(decide (eV < 0)||decide ((nthI l eV).At≤y1.At))) from by rw [c1] <;> rfl)),trivial⟩)))
  refine ac hs3 U (fun c5 hs4=>?_) (fun c5 hs5=>?_)
  ·exact bn (qO 6 U (ad (v':=I (((i1+1):Nat):Int)) U (aL ob) (an (ag1 (i1:Int) hs4 (by first | omega | (dsimp only;omega))))))
  exact aE (qT 3 U (ad (v':=I (((i1+1):Nat):Int)) U (aL ob) (an (ag1 eV hs5 (by first | omega | (dsimp only;omega))))))
 rintro i1 eV hd1 eG hx e
 exact qK 6 [] U (ad (v':=.bool false) U (cb eG) (qO 3 U (hx _ rd)))
theorem ui (l:List Appoint) (a b c d:Int):cz l a b c d < (l.length:Int):=by
 have key:∀ (s:List Appoint) (i:Nat) (g:Int),i+s.length=l.length→g < (l.length:Int)→cz.L1 l a b c d cz.K1 s i g < (l.length:Int):=by
  intro s
  induction s with
  | nil=>intro i g _ hg;exact hg
  | cons y s ih=>
   intro i g hi hg
   simp only [List.length_cons] at hi
   simp only [cz.L1,Bool.cond_eq_ite]
   split
   ·exact ih _ _ ob ob
   exact ih _ _ ob hg
 exact key l 0 (-1) (by simp) ob
theorem m5 (h:HF) (l:List Appoint) (ey:Option Addr) (ew:Nat) (office:Int) (aO:Int) (known:Int) (hl:SlC Appoint.rp h ey ew l):iq prog 78 [.slice ey l.length ew,I office,I aO,I known] h (fun v h'=>∃ (rb0:Option Addr) (rc0:Nat),v=.tuple #[.slice rb0 ((bu l office aO known).1).length rc0,I ((bu l office aO known).2)]∧SlC Holder.rp h' rb0 rc0 ((bu l office aO known).1)):=by
 refine sT func78 U ntmps78 U fun X hM hX hF=>?_
 have hs0:bu l office aO known=bu l office aO known:=rfl
 refine qT 8 U (ah call67 (si _ _ _ _ hl) U (qO 8 U (ac hs0 U (fun c1 hs1=>?_) (fun c1 hs2=>?_))))
 ·refine qT 6 U ?_
  have hs3:bu l office aO known=([],(ff l)):=hs1
  exact nretH [.slice none 0 0,I (ff l)] ⟨none,0,congrArg (fun r:(List Holder×Int)=>(.tuple #[.slice none r.1.length 0,I r.2]:Value)) hs3.symm,(by rw [hs3];exact SlC.nil)⟩
 refine qT 5 U (ah call126 (rx h office) U (qO 2 U (ce 4 [22,23,24,25,26] 22 26 (!(iz aO)) U (fun c2 hk1=>?_) (fun e=>?_))))
 ·exact aj (ah Hw (nh h aO) U (qO 2 U (hk1 _ U)))
 refine aj (ce 4 [27,28,29,30,31] 27 31 (!(iz known)) U (fun c3 hk2=>?_) (fun e=>?_))
 ·exact aj (ah Hw (nh h known) U (qO 2 U (hk2 _ U)))
 refine aM (ac hs2 U (fun c4 hs4=>?_) (fun c4 hs5=>?_))
 ·refine qT 5 U ?_
  have hs6:bu l office aO known=([],1):=hs4
  exact nretH [.slice none 0 0,I 1] ⟨none,0,congrArg (fun r:(List Holder×Int)=>(.tuple #[.slice none r.1.length 0,I r.2]:Value)) hs6.symm,(by rw [hs6];exact SlC.nil)⟩
 refine qT 10 U ?_
 refine iH (ι:=Nat×List Holder×Option Addr×Nat×LH) (fun i=>[(11,.slice i.2.2.1 i.2.1.length i.2.2.2.1)]) (fun i=>h) (fun i=>i.2.2.2.2) (fun i=>i.1≤(List.range 64).length∧bu l office aO known=((bu.K1) i.2.1)∧cM Holder.rp 133 h i.2.1 i.2.2.1 i.2.2.2.1 i.2.2.2.2∧i.2.1.length≤0+i.1) ?_ (fun hx1=>?_)
 ·rintro ⟨i1,eV,j2,j1,ri⟩ ⟨et,hs7,j0,oU⟩ e
  try dsimp only at et j0 oU
  refine qT 6 U (eI Holder.ak ([]) ri ([]) ap hM j0 (fun h1 hle1 sl1=>?_))
  have hs8:bu l office aO known=(eV,0):=hs7
  exact nretH [.slice j2 eV.length j1,I 0] ⟨j2,j1,congrArg (fun r:(List Holder×Int)=>(.tuple #[.slice j2 r.1.length j1,I r.2]:Value)) hs8.symm,(by rw [hs8];exact sl1)⟩
 refine j5 (ι:=Nat×List Holder×Option Addr×Nat×LH×List Nat) (fun i=>[(0,.slice ey l.length ew),(1,I office),(2,I aO),(3,I known),(11,.slice i.2.2.1 i.2.1.length i.2.2.2.1),(12,I (i.1:Int))]) (fun i=>h) (fun i=>i.2.2.2.2.1) (fun i=>(List.range 64).drop i.1=i.2.2.2.2.2∧i.1≤(List.range 64).length∧bu l office aO known=((bu.L1 l office aO known (bu.K1)) i.2.2.2.2.2 i.1 i.2.1)∧cM Holder.rp 133 h i.2.1 i.2.2.1 i.2.2.2.1 i.2.2.2.2.1∧i.2.1.length≤0+i.1) (fun i=>i.2.2.2.2.2.length) (0,[],none,0,[],(List.range 64)) rd sw ⟨U,Nat.zero_le _,hs5,cM.nil,lo⟩ ?_
 rintro ⟨i1,eV,j2,j1,ri,s1⟩ ⟨hd1,et,hs9,j0,oU⟩ ag1 e
 try dsimp only at hd1 et j0 oU
 rcases s1 with _ | ⟨y1,rz1⟩
 ·have eG:decide ((i1:Int) < 64)=false:=by simpa using nN hd1
  exact dz (qT 3 U (ad (v':=.bool false) U (cb eG) (qO 3 U (hx1 (i1,eV,j2,j1,ri) _ ⟨et,hs9,j0,lo⟩ rd))))
 have cw:decide ((i1:Int) < 64)=true:=by simpa using uo hd1
 have dy:i1 < 64:=by simpa using iY hd1
 refine qT 4 U (ad (v':=.bool true) U (cb cw) (qO 12 U (ah call128 (AS _ _ _ _ office (i1:Int) aO known hl) U (qO 7 U (bx 7 [44,45,46,47,48,49,50,51] 44 51 (!((nthI l (cz l office (i1:Int) aO known)).Gone)) U (fun c5 hk3=>?_) (fun e=>?_))))))
 ·refine qO 2 U ?_
  have ho2:0≤((cz l office (i1:Int) aO known):Int)∧((cz l office (i1:Int) aO known):Int) < ((l).length:Int):=⟨ob,ui _ _ _ _ _⟩
  exact aA (ek (enc:=Appoint.cells) ei uv ty59 hl.1 ho2 (bT ho2) U U U (fun q2 A2=>qL 1 [] U (jF (j:=6) ty4 A2 U U (qO 2 U (hk3 _ U)))))
 refine aM (ac hs9 U (fun c6 hs11=>?_) (fun c6 hs12=>?_))
 ·refine qT 5 U ?_
  have ho3:0≤((cz l office (i1:Int) aO known):Int)∧((cz l office (i1:Int) aO known):Int) < ((l).length:Int):=⟨ob,ui _ _ _ _ _⟩
  exact aA (ek (enc:=Appoint.cells) ei uv ty59 hl.1 ho3 (bT ho3) U U U (fun q3 A3=>qL 1 [] U (jF (j:=5) ty3 A3 U U (aA (er (cells:=[I (i1:Int),I ((nthI l (cz l office (i1:Int) aO known)).Weight)]) (places:=[(0,1),(1,1)]) underlying133 zc133 kr kr (aA (bg (cells:=[I (i1:Int),I ((nthI l (cz l office (i1:Int) aO known)).Weight)]) pb ty133 zc133 U U kr (fun b1=>aA (bS Holder.eC ([(b1,O [I (i1:Int),I ((nthI l (cz l office (i1:Int) aO known)).Weight)] 133)]) ([]) (fun G=>[(b1,O [I (i1:Int),I ((nthI l (cz l office (i1:Int) aO known)).Weight)] 133)]++G) ap (fun _=>ap) pb ty133 zc133 U bytes133 j0 U U (du 0 U (show aP Holder.rp h [I (i1:Int),I ((nthI l (cz l office (i1:Int) aO known)).Weight)] ([(Holder.mk (i1:Int) ((nthI l (cz l office (i1:Int) aO known)).Weight))]) from ⟨[I (i1:Int),I ((nthI l (cz l office (i1:Int) aO known)).Weight)],[],U,U,U,U⟩)) lo lo (fun ob1 oc1 G1 gr1=>qO 5 U (ad (v':=I (((i1+1):Nat):Int)) U (aL ob) (an (bU (L':=G1) js (ag1 ((i1+1),(eV++[(Holder.mk (i1:Int) ((nthI l (cz l office (i1:Int) aO known)).Weight))]),ob1,oc1,G1,rz1) _ (Nat.lt_succ_self _) ⟨lL hd1,iY hd1,hs11,gr1,lo⟩ rd))))))))))))))
 exact aE (qT 3 U (ad (v':=I (((i1+1):Nat):Int)) U (aL ob) (an (ag1 ((i1+1),eV,j2,j1,ri,rz1) _ (Nat.lt_succ_self _) ⟨lL hd1,iY hd1,hs12,j0,lo⟩ rd))))
theorem wB (h:HF) (holders:List (List Holder)) (dL:Option Addr) (dK:Nat) (offices:Int) (hholders:SlC (Rp.sl Holder.rp) h dL dK holders):Ret prog 198 [.slice dL holders.length dK,I offices] h (.bool (cZ holders offices)):=by
 refine sT func198 U ntmps198 U fun X hM hX hF=>?_
 have hs0:cZ holders offices=cZ holders offices:=rfl
 refine qK 12 [] U (ac hs0 U (fun c1 hs1=>?_) (fun c1 hs2=>?_))
 ·exact sr (an (nretP [.bool false] (cs hs1)))
 refine qT 6 U ?_
 refine lp0 holders (fun i=>[(0,.slice dL holders.length dK),(5,I (i:Int))]) ([]) (fun s1 i=>(cZ.L1 (cZ.K1)) s1) hholders.1.1 hs2 ?_ ?_ ?_
 ·rintro i1 et hs4 e
  exact sr (an (nretP [.bool true] (cs hs4)))
 ·rintro i1 y1 rz1 hd1 cw ao dy fB hs6 hx1 ag1 e
  refine qK 6 [] U (ad (v':=.bool true) U (cb cw) (qO 9 U (aA (vr ua ty101 hholders.1 (nthZ ao) (au ao) U U U (fun q4 cs2 A4 ln2 rr2=>?_)))))
  obtain ⟨rb2,rc2,rfl,sl2⟩:=rr2
  refine cK ty101 A4 U (qO 6 U ?_)
  refine lp0 y1 (fun i=>[(0,.slice dL holders.length dK),(5,I (i1:Int)),(6,.slice rb2 y1.length rc2),(7,I (i:Int))]) ([]) (fun s3 i=>(cZ.L3 y1 ((cZ.L1 (cZ.K1) rz1))) s3 i) sl2.1.1 hs6 ?_ ?_ ?_
  ·rintro i3 sK hs7 e
   exact dY (qT 2 U (ad (v':=I (((i1+1):Nat):Int)) U (aL ob) (an (ag1 hs7))))
  ·rintro i3 y3 rz3 hd3 sJ gU xI Ev hs8 hx3 ag2 e
   refine qK 6 [] U (ad (v':=.bool true) U (cb sJ) (qO 6 U ?_))
   refine ke [(0,.slice dL holders.length dK),(5,I (i1:Int)),(6,.slice rb2 y1.length rc2),(7,I (i3:Int)),(75,.bool ((((decide (y3.Person < 0)||decide (64≤y3.Person))||decide (y3.Weight < 1))||decide (64 < y3.Weight))||(decide (0 < (i3:Int))&&decide (y3.Person≤(nthI y1 ((i3:Int) - 1)).Person))))] (fun e=>?_) (fun hk1=>?_)
   rotate_left
   ·refine eB ([]) mixed kr jn (fun cB _=>?_)
    refine qA [0,1] U (cD 2 (enc:=Holder.cells) cB jn ei pb ty133 sl2.1 (nthZ gU) (au gU) U U U U kr (fun q7 A7=>qB [3] U (tf 4 U U (fun _ _ hj=>eF ty3 (A7.mono hj.1) U) (qA [5,6] U ?_))))
    refine cx 34 U (fun c3=>?_) (fun c3=>?_)
    ·have c3p:=of_decide_eq_true c3
     exact tk 7 U U (qR 8 40 U (aI kr (hk1 _ ⟨U,U,U,U,(cb (show true=((((decide (y3.Person < 0)||decide (64≤y3.Person))||decide (y3.Weight < 1))||decide (64 < y3.Weight))||(decide (0 < (i3:Int))&&decide (y3.Person≤(nthI y1 ((i3:Int) - 1)).Person))) from by rw [c3] <;> rfl)),trivial⟩)))
    have c3p:=of_decide_eq_false c3
    refine qA [7,8] U (cD 9 (enc:=Holder.cells) cB jn ei pb ty133 sl2.1 (nthZ gU) (au gU) U U U U kr (fun q8 A8=>qB [10] U (tf 11 U U (fun _ _ hj=>eF ty3 (A8.mono hj.1) U) (qR 12 3 U ?_))))
    refine cx 42 U (fun c4=>?_) (fun c4=>?_)
    ·have c4p:=of_decide_eq_true c4
     exact tk 15 U U (qR 16 32 U (aI kr (hk1 _ ⟨U,U,U,U,(cb (show true=((((decide (y3.Person < 0)||decide (64≤y3.Person))||decide (y3.Weight < 1))||decide (64 < y3.Weight))||(decide (0 < (i3:Int))&&decide (y3.Person≤(nthI y1 ((i3:Int) - 1)).Person))) from by rw [c3,c4] <;> rfl)),trivial⟩)))
    have c4p:=of_decide_eq_false c4
    refine qA [15,16] U (cD 17 (enc:=Holder.cells) cB jn ei pb ty133 sl2.1 (nthZ gU) (au gU) U U U U kr (fun q9 A9=>qB [18] U (tf 19 U U (fun _ _ hj=>kQ 1 ty3 (A9.mono hj.1) U U) (qR 20 3 U ?_))))
    refine cx 50 U (fun c5=>?_) (fun c5=>?_)
    ·have c5p:=of_decide_eq_true c5
     exact tk 23 U U (qR 24 24 U (aI kr (hk1 _ ⟨U,U,U,U,(cb (show true=((((decide (y3.Person < 0)||decide (64≤y3.Person))||decide (y3.Weight < 1))||decide (64 < y3.Weight))||(decide (0 < (i3:Int))&&decide (y3.Person≤(nthI y1 ((i3:Int) - 1)).Person))) from by rw [c3,c4,c5] <;> rfl)),trivial⟩)))
    have c5p:=of_decide_eq_false c5
    refine qA [23,24] U (cD 25 (enc:=Holder.cells) cB jn ei pb ty133 sl2.1 (nthZ gU) (au gU) U U U U kr (fun q10 A10=>qB [26] U (tf 27 U U (fun _ _ hj=>kQ 1 ty3 (A10.mono hj.1) U U) (qR 28 3 U ?_))))
    refine cx 58 U (fun c6=>?_) (fun c6=>?_)
    ·have c6p:=of_decide_eq_true c6
     exact tk 31 U U (qR 32 16 U (aI kr (hk1 _ ⟨U,U,U,U,(cb (show true=((((decide (y3.Person < 0)||decide (64≤y3.Person))||decide (y3.Weight < 1))||decide (64 < y3.Weight))||(decide (0 < (i3:Int))&&decide (y3.Person≤(nthI y1 ((i3:Int) - 1)).Person))) from by rw [c3,c4,c5,c6] <;> rfl)),trivial⟩)))
    have c6p:=of_decide_eq_false c6
    refine qR 31 3 U ?_
    refine cx 61 U (fun c7=>?_) (fun c7=>?_)
    ·have c7p:=of_decide_eq_true c7
     refine qA [34,35] U (cD 36 (enc:=Holder.cells) cB jn ei pb ty133 sl2.1 (nthZ gU) (au gU) U U U U kr (fun q11 A11=>qB [37] U (tf 38 U U (fun _ _ hj=>eF ty3 (A11.mono hj.1) U) (qA [39,40] U (tf 41 U U (fun _ _ _=>mq (v':=I ((i3:Int) - 1)) U (gG ob)) ?_)))))
     have ho3:0≤(((i3:Int) - 1):Int)∧(((i3:Int) - 1):Int) < ((y1).length:Int):=ob
     exact cD 42 (enc:=Holder.cells) cB jn ei pb ty133 sl2.1 ho3 (bT ho3) U U U U kr (fun q12 A12=>qB [43] U (tf 44 U U (fun _ _ hj=>eF ty3 (A12.mono hj.1) U) (qR 45 3 U (aI kr (hk1 _ ⟨U,U,U,U,(cb (show decide (y3.Person≤(nthI y1 ((i3:Int) - 1)).Person)=((((decide (y3.Person < 0)||decide (64≤y3.Person))||decide (y3.Weight < 1))||decide (64 < y3.Weight))||(decide (0 < (i3:Int))&&decide (y3.Person≤(nthI y1 ((i3:Int) - 1)).Person))) from by rw [c3,c4,c5,c6,c7] <;> rfl)),trivial⟩)))))
    have c7p:=of_decide_eq_false c7
    exact tk 34 U U (qR 35 13 U (aI kr (hk1 _ ⟨U,U,U,U,(cb (show false=((((decide (y3.Person < 0)||decide (64≤y3.Person))||decide (y3.Weight < 1))||decide (64 < y3.Weight))||(decide (0 < (i3:Int))&&decide (y3.Person≤(nthI y1 ((i3:Int) - 1)).Person))) from by rw [c3,c4,c5,c6,c7] <;> rfl)),trivial⟩)))
   refine ac hs8 U (fun c8 hs9=>?_) (fun c8 hs10=>?_)
   ·exact sr (an (nretP [.bool false] (cs hs9)))
   exact aE (qT 3 U (ad (v':=I (((i3+1):Nat):Int)) U (aL ob) (an (ag2 hs10))))
  rintro i3 hd3 zX hx e
  exact qK 6 [] U (ad (v':=.bool false) U (cb zX) (qO 3 U (hx _ rd)))
 rintro i1 hd1 eG hx e
 exact qK 6 [] U (ad (v':=.bool false) U (cb eG) (qO 3 U (hx _ rd)))
theorem nW (h:HF) (who:List Int) (dU:Option Addr) (dT:Nat) (gM:Int) (hwho:SlC Rp.int h dU dT who):Ret prog 233 [.slice dU who.length dT,I gM] h (.bool (ie who gM)):=by
 refine sT func233 U ntmps233 U fun X hM hX hF=>?_
 have hs0:ie who gM=ie who gM:=rfl
 refine qT 9 U ?_
 refine lp0 who (fun i=>[(0,.slice dU who.length dT),(1,I gM),(5,I (i:Int))]) ([]) (fun s1 i=>(ie.L1 gM (ie.K1)) s1) hwho.1.1 hs0 ?_ ?_ ?_
 ·rintro i1 et hs1 e
  exact sr (an (nretP [.bool false] (cs hs1)))
 ·rintro i1 y1 rz1 hd1 cw ao dy fB hs3 hx1 ag1 e
  refine qK 6 [] U (ad (v':=.bool true) U (cb cw) (qO 9 U (aA (ek (enc:=fun y=>[I y]) ei cQ ty3 hwho.1 (nthZ ao) (au ao) U U U (fun q2 A2=>cK ty3 A2 U (qO 3 U (ac hs3 U (fun c2 hs4=>?_) (fun c2 hs5=>?_))))))))
  ·exact sr (an (nretP [.bool true] (cs hs4)))
  exact aE (qT 3 U (ad (v':=I (((i1+1):Nat):Int)) U (aL ob) (an (ag1 hs5))))
 rintro i1 hd1 eG hx e
 exact qK 6 [] U (ad (v':=.bool false) U (cb eG) (qO 3 U (hx _ rd)))
theorem wC (rec:Expr→Int→(List (List Holder))→List Int→Bool) (h:HF) (x:Expr) (eL:cm) (value:Int) (holders:List (List Holder)) (dL:Option Addr) (dK:Nat) (who:List Int) (dU:Option Addr) (dT:Nat) (hrec:∀ (h:HF) (qx:Expr) (iT:cm) (qvalue:Int) (qholders:List (List Holder)) (qP:Option Addr) (qN:Nat) (qwho:List Int) (CK:Option Addr) (CJ:Nat) (hqx:Expr.ok h qx iT) (hqholders:SlC (Rp.sl Holder.rp) h qP qN qholders) (hqwho:SlC Rp.int h CK CJ qwho) (hok:OkX (qholders.length:Int) qx) (_:qx.dep < x.dep),Ret prog 199 [.agg (Expr.cells qx iT).toArray,I qvalue,.slice qP qholders.length qN,.slice CK qwho.length CJ] h (.bool (rec qx qvalue qholders qwho))) (hx:Expr.ok h x eL) (hholders:SlC (Rp.sl Holder.rp) h dL dK holders) (hwho:SlC Rp.int h dU dT who) (hok:OkX (holders.length:Int) x):Ret prog 199 [.agg (Expr.cells x eL).toArray,I value,.slice dL holders.length dK,.slice dU who.length dT] h (.bool (bd.F rec x value holders who)):=by
 refine sT func199 U ntmps199 U fun X hM hX hF=>?_
 have hs0:bd.F rec x value holders who=bd.F rec x value holders who:=rfl
 have hkd:=hok.kind
 have hno:=hok.no
 have htw:=hok.two
 refine sr (cA (fun b1=>qL 19 [0] U (ac hs0 U (fun c1 hs1=>?_) (fun c1 hs2=>?_))))
 ·refine aE (ac hs1 U (fun c2 hs3=>?_) (fun c2 hs4=>?_))
  ·refine qK 5 [0] U ?_
   have ho1:0≤(x.No:Int)∧(x.No:Int) < ((holders).length:Int):=(by first | assumption | (simp only [decide_eq_true_eq,decide_eq_false_iff_not,Bool.and_eq_true,Bool.or_eq_true,Bool.not_eq_true',Bool.not_eq_false',Bool.and_eq_false_iff,Bool.or_eq_false_iff,beq_iff_eq,beq_eq_false_iff_ne,bne_iff_ne,bne_eq_false_iff_eq,List.length_append,List.length_cons,List.length_nil,List.length_drop] at *;exact hno ob))
   refine aA (vr ua ty101 hholders.1 ho1 (bT ho1) U U U (fun q1 cs1 A1 ln1 rr1=>?_))
   obtain ⟨rb1,rc1,rfl,sl1⟩:=rr1
   refine cK ty101 A1 U (qO 7 U ?_)
   refine lp1 (nthI holders x.No) (fun i w=>[(3,.slice dU who.length dT),(4,Q b1),(9,I w),(10,.slice rb1 ((nthI holders x.No).length) rc1),(11,I (i:Int))]) ([(b1,O (Expr.cells x eL) 66)]) (fun s1 i w=>(bd.L1 who (bd.K1 x)) s1 w) 0 sl1.1.1 hs3 ?_ ?_ ?_
   ·rintro i1 jI et hs5 e
    refine qK 6 [0] U (bx 5 [58,59,60,61,62,63] 58 63 (decide (x.N≤jI)) U (fun c3 hk1=>?_) (fun e=>?_))
    ·exact qL 5 [0] U (hk1 _ U)
    exact an (nretP [.bool ((x.Kind==2)&&decide (x.N≤jI))] (cs hs5))
   ·rintro i1 jI y1 rz1 hd1 cw ao dy fB hs7 hx1 ag1 e
    refine qK 6 [] U (ad (v':=.bool true) U (cb cw) (qO 11 U (aA (ek (enc:=Holder.cells) ei pb ty133 sl1.1 (nthZ ao) (au ao) U U U (fun q3 A3=>qL 1 [] U (cK ty3 A3 U (ah Ht (nW _ _ _ _ y1.Person hwho) U (aj (bx 4 [36,37,38,39,40] 36 40 true U (fun c4 hk2=>?_) (fun e=>?_))))))))))
    ·exact qL 2 [0] U (ad (v':=.bool true) U (cb c2) (dZ U (hk2 _ U)))
    refine aM (ac hs7 U (fun c5 hs8=>?_) (fun c5 hs9=>?_))
    ·exact sr (an (nretP [.bool true] (cs hs8)))
    refine qT 6 U (aA (ek (enc:=Holder.cells) ei pb ty133 sl1.1 (nthZ ao) (au ao) U U U (fun q4 A4=>qL 1 [] U (cK ty3 A4 U (ah Ht (nW _ _ _ _ y1.Person hwho) U (aM (ac hs9 U (fun c6 hs11=>?_) (fun c6 hs12=>?_))))))))
    ·exact bn (qO 3 U (aA (ek (enc:=Holder.cells) ei pb ty133 sl1.1 (nthZ ao) (au ao) U U U (fun q5 A5=>qL 1 [] U (jF (j:=1) ty3 A5 U U (qO 6 U (ad (v':=I (((i1+1):Nat):Int)) U (aL ob) (an (ag1 (IntKind.wrap .i64 (jI+y1.Weight)) hs11)))))))))
    exact aE (qT 3 U (ad (v':=I (((i1+1):Nat):Int)) U (aL ob) (an (ag1 jI hs12))))
   rintro i1 jI hd1 eG hx e
   exact qK 6 [] U (ad (v':=.bool false) U (cb eG) (qO 3 U (hx _ rd)))
  refine qT 5 U (ac hs4 U (fun c7 hs13=>?_) (fun c7 hs14=>?_))
  ·refine qT 5 U ?_
   refine lp1 x.L (fun i w=>[(1,I value),(2,.slice dL holders.length dK),(3,.slice dU who.length dT),(4,Q b1),(9,I w),(12,I (i:Int))]) ([(b1,O (Expr.cells x eL) 66)]) (fun s2 i w=>(bd.L2 rec value holders who (bd.K2 x)) s2 w) 0 hx.list.1.1 hs13 ?_ ?_ ?_
   ·rintro i2 mQ sK hs15 e
    exact qK 8 [0] U (nretP [.bool (decide (x.N≤mQ))] (cs hs15))
   ·rintro i2 mQ y2 rz2 hd2 oI jJ vM Ew hs17 hx2 ag2 e
    have hoy:=hok.sub y2 (fq hd2)
    refine qK 7 [0] U (ad (v':=.bool true) U (cb oI) (qL 10 [0] U (aA (dV jh ty66 hx.list.1 (nthZ jJ) (au jJ) U U U (fun _ _ _ e=>e) (fun q7 r2 A7 ok2=>de ty66 A7 U U (qO 3 U (ah Bn (hrec _ _ _ value _ _ _ _ _ _ ok2 hholders hwho (by first | exact hok.sub _ (fw ob) | exact hoy) (Expr.gj (fq hd2))) U (aM (ac hs17 U (fun c9 hs18=>?_) (fun c9 hs19=>?_))))))))))
    ·exact bn (qO 7 U (ad (v':=I (((i2+1):Nat):Int)) U (aL ob) (an (ag2 (IntKind.wrap .i64 (mQ+1)) hs18))))
    exact aE (qT 3 U (ad (v':=I (((i2+1):Nat):Int)) U (aL ob) (an (ag2 mQ hs19))))
   rintro i2 mQ hd2 Bc hx e
   exact qK 7 [0] U (ad (v':=.bool false) U (cb Bc) (qO 3 U (hx _ rd)))
  refine qK 10 [0] U (ac hs14 U (fun c10 hs20=>?_) (fun c10 hs21=>?_))
  ·have c10p:=of_decide_eq_true c10
   refine qK 4 [0] U ?_
   have ho2:0≤(0:Int)∧(0:Int) < ((x.L).length:Int):=(by first | assumption | (simp only [decide_eq_true_eq,decide_eq_false_iff_not,Bool.and_eq_true,Bool.or_eq_true,Bool.not_eq_true',Bool.not_eq_false',Bool.and_eq_false_iff,Bool.or_eq_false_iff,beq_iff_eq,beq_eq_false_iff_ne,bne_iff_ne,bne_eq_false_iff_eq,List.length_append,List.length_cons,List.length_nil,List.length_drop] at *;have hq:=htw ob;omega))
   exact aA (dV jh ty66 hx.list.1 ho2 (bT ho2) U U U (fun _ _ _ e=>e) (fun q8 r3 A8 ok3=>de ty66 A8 U U (qO 3 U (ah Bn (hrec _ _ _ value _ _ _ _ _ _ ok3 hholders hwho (by first | exact hok.sub _ (fw ob) | exact hoy) (Expr.gj (fw ob))) U (an (nretP [.bool (rec (nthI x.L 0) value holders who)] (cs hs20)))))))
  have c10p:=of_decide_eq_false c10
  refine qK 5 [0] U ?_
  have ho3:0≤(1:Int)∧(1:Int) < ((x.L).length:Int):=(by first | assumption | (simp only [decide_eq_true_eq,decide_eq_false_iff_not,Bool.and_eq_true,Bool.or_eq_true,Bool.not_eq_true',Bool.not_eq_false',Bool.and_eq_false_iff,Bool.or_eq_false_iff,beq_iff_eq,beq_eq_false_iff_ne,bne_iff_ne,bne_eq_false_iff_eq,List.length_append,List.length_cons,List.length_nil,List.length_drop] at *;have hq:=htw ob;omega))
  exact aA (dV jh ty66 hx.list.1 ho3 (bT ho3) U U U (fun _ _ _ e=>e) (fun q9 r4 A9 ok4=>de ty66 A9 U U (qO 3 U (ah Bn (hrec _ _ _ value _ _ _ _ _ _ ok4 hholders hwho (by first | exact hok.sub _ (fw ob) | exact hoy) (Expr.gj (fw ob))) U (an (nretP [.bool (rec (nthI x.L 1) value holders who)] (cs hs21)))))))
 refine qT 4 U (ac hs2 U (fun c11 hs24=>?_) (fun c11 hs25=>?_))
 ·refine qK 5 [0] U ?_
  have ho4:0≤(x.No:Int)∧(x.No:Int) < ((holders).length:Int):=(by first | assumption | (simp only [decide_eq_true_eq,decide_eq_false_iff_not,Bool.and_eq_true,Bool.or_eq_true,Bool.not_eq_true',Bool.not_eq_false',Bool.and_eq_false_iff,Bool.or_eq_false_iff,beq_iff_eq,beq_eq_false_iff_ne,bne_iff_ne,bne_eq_false_iff_eq,List.length_append,List.length_cons,List.length_nil,List.length_drop] at *;exact hno ob))
  refine aA (vr ua ty101 hholders.1 ho4 (bT ho4) U U U (fun q10 cs6 A10 ln6 rr6=>?_))
  obtain ⟨rb2,rc2,rfl,sl2⟩:=rr6
  refine cK ty101 A10 U (qO 7 U ?_)
  refine lp1 (nthI holders x.No) (fun i w=>[(3,.slice dU who.length dT),(4,Q b1),(9,I w),(10,.slice rb2 ((nthI holders x.No).length) rc2),(11,I (i:Int))]) ([(b1,O (Expr.cells x eL) 66)]) (fun s3 i w=>(bd.L3 who (bd.K3 x)) s3 w) 0 sl2.1.1 hs24 ?_ ?_ ?_
  ·rintro i3 yr JH hs26 e
   exact qK 4 [0] U (ad (v':=.bool true) U (cb c11) (qL 8 [0] U (nretP [.bool (decide (x.N≤yr))] (cs hs26))))
  ·rintro i3 yr y3 rz3 hd3 sJ gU xI Ev hs28 hx3 ag3 e
   refine qK 6 [] U (ad (v':=.bool true) U (cb sJ) (qO 11 U (aA (ek (enc:=Holder.cells) ei pb ty133 sl2.1 (nthZ gU) (au gU) U U U (fun q12 A12=>qL 1 [] U (cK ty3 A12 U (ah Ht (nW _ _ _ _ y3.Person hwho) U (aj (bx 4 [36,37,38,39,40] 36 40 false U (fun c12 hk3=>?_) (fun e=>?_))))))))))
   ·exact qL 2 [0] U (ad (v':=.bool false) U (cb c1) (dZ U (hk3 _ U)))
   refine aM (ac hs28 U (fun c13 hs29=>?_) (fun c13 hs30=>?_))
   ·exact sr (an (nretP [.bool true] (cs hs29)))
   refine qT 6 U (aA (ek (enc:=Holder.cells) ei pb ty133 sl2.1 (nthZ gU) (au gU) U U U (fun q13 A13=>qL 1 [] U (cK ty3 A13 U (ah Ht (nW _ _ _ _ y3.Person hwho) U (aM (ac hs30 U (fun c14 hs32=>?_) (fun c14 hs33=>?_))))))))
   ·exact bn (qO 3 U (aA (ek (enc:=Holder.cells) ei pb ty133 sl2.1 (nthZ gU) (au gU) U U U (fun q14 A14=>qL 1 [] U (jF (j:=1) ty3 A14 U U (qO 6 U (ad (v':=I (((i3+1):Nat):Int)) U (aL ob) (an (ag3 (IntKind.wrap .i64 (yr+y3.Weight)) hs32)))))))))
   exact aE (qT 3 U (ad (v':=I (((i3+1):Nat):Int)) U (aL ob) (an (ag3 yr hs33))))
  rintro i3 yr hd3 zX hx e
  exact qK 6 [] U (ad (v':=.bool false) U (cb zX) (qO 3 U (hx _ rd)))
 refine qT 5 U (ac hs25 U (fun c15 hs34=>?_) (fun c15 hs35=>?_))
 ·refine qT 5 U ?_
  refine lp1 x.L (fun i w=>[(1,I value),(2,.slice dL holders.length dK),(3,.slice dU who.length dT),(4,Q b1),(9,I w),(12,I (i:Int))]) ([(b1,O (Expr.cells x eL) 66)]) (fun s4 i w=>(bd.L4 rec value holders who (bd.K4 x)) s4 w) 0 hx.list.1.1 hs34 ?_ ?_ ?_
  ·rintro i4 yq K7 hs36 e
   exact qK 8 [0] U (nretP [.bool (decide (x.N≤yq))] (cs hs36))
  ·rintro i4 yq y4 rz4 hd4 Ln J6 Lt Lx hs38 hx4 ag4 e
   have hoy:=hok.sub y4 (fq hd4)
   refine qK 7 [0] U (ad (v':=.bool true) U (cb Ln) (qL 10 [0] U (aA (dV jh ty66 hx.list.1 (nthZ J6) (au J6) U U U (fun _ _ _ e=>e) (fun q16 r6 A16 ok6=>de ty66 A16 U U (qO 3 U (ah Bn (hrec _ _ _ value _ _ _ _ _ _ ok6 hholders hwho (by first | exact hok.sub _ (fw ob) | exact hoy) (Expr.gj (fq hd4))) U (aM (ac hs38 U (fun c17 hs39=>?_) (fun c17 hs40=>?_))))))))))
   ·exact bn (qO 7 U (ad (v':=I (((i4+1):Nat):Int)) U (aL ob) (an (ag4 (IntKind.wrap .i64 (yq+1)) hs39))))
   exact aE (qT 3 U (ad (v':=I (((i4+1):Nat):Int)) U (aL ob) (an (ag4 yq hs40))))
  rintro i4 yq hd4 Lo hx e
  exact qK 7 [0] U (ad (v':=.bool false) U (cb Lo) (qO 3 U (hx _ rd)))
 refine qK 10 [0] U (ac hs35 U (fun c18 hs41=>?_) (fun c18 hs42=>?_))
 ·have c18p:=of_decide_eq_true c18
  refine qK 4 [0] U ?_
  have ho5:0≤(0:Int)∧(0:Int) < ((x.L).length:Int):=(by first | assumption | (simp only [decide_eq_true_eq,decide_eq_false_iff_not,Bool.and_eq_true,Bool.or_eq_true,Bool.not_eq_true',Bool.not_eq_false',Bool.and_eq_false_iff,Bool.or_eq_false_iff,beq_iff_eq,beq_eq_false_iff_ne,bne_iff_ne,bne_eq_false_iff_eq,List.length_append,List.length_cons,List.length_nil,List.length_drop] at *;have hq:=htw ob;omega))
  exact aA (dV jh ty66 hx.list.1 ho5 (bT ho5) U U U (fun _ _ _ e=>e) (fun q17 r7 A17 ok7=>de ty66 A17 U U (qO 3 U (ah Bn (hrec _ _ _ value _ _ _ _ _ _ ok7 hholders hwho (by first | exact hok.sub _ (fw ob) | exact hoy) (Expr.gj (fw ob))) U (an (nretP [.bool (rec (nthI x.L 0) value holders who)] (cs hs41)))))))
 have c18p:=of_decide_eq_false c18
 refine qK 5 [0] U ?_
 have ho6:0≤(1:Int)∧(1:Int) < ((x.L).length:Int):=(by first | assumption | (simp only [decide_eq_true_eq,decide_eq_false_iff_not,Bool.and_eq_true,Bool.or_eq_true,Bool.not_eq_true',Bool.not_eq_false',Bool.and_eq_false_iff,Bool.or_eq_false_iff,beq_iff_eq,beq_eq_false_iff_ne,bne_iff_ne,bne_eq_false_iff_eq,List.length_append,List.length_cons,List.length_nil,List.length_drop] at *;have hq:=htw ob;omega))
 exact aA (dV jh ty66 hx.list.1 ho6 (bT ho6) U U U (fun _ _ _ e=>e) (fun q18 r8 A18 ok8=>de ty66 A18 U U (qO 3 U (ah Bn (hrec _ _ _ value _ _ _ _ _ _ ok8 hholders hwho (by first | exact hok.sub _ (fw ob) | exact hoy) (Expr.gj (fw ob))) U (an (nretP [.bool (rec (nthI x.L 1) value holders who)] (cs hs42)))))))
theorem ox:∀ (m:Nat) (h:HF) (x:Expr) (eL:cm) (value:Int) (holders:List (List Holder)) (dL:Option Addr) (dK:Nat) (who:List Int) (dU:Option Addr) (dT:Nat) (_:x.dep≤m) (hx:Expr.ok h x eL) (hholders:SlC (Rp.sl Holder.rp) h dL dK holders) (hwho:SlC Rp.int h dU dT who) (hok:OkX (holders.length:Int) x),Ret prog 199 [.agg (Expr.cells x eL).toArray,I value,.slice dL holders.length dK,.slice dU who.length dT] h (.bool (bd.go m x value holders who))
 | 0,h,x,eL,value,holders,dL,dK,who,dU,dT,hd,hx,hholders,hwho,hok=>absurd hd (Nat.not_le.2 (Expr.jH _))
 | m+1,h,x,eL,value,holders,dL,dK,who,dU,dT,hd,hx,hholders,hwho,hok=>wC (bd.go m) h x eL value holders dL dK who dU dT (fun qh_ qx iT qvalue qholders qP qN qwho CK CJ qhx qhholders qhwho qhok qd=>ox m qh_ qx iT qvalue qholders qP qN qwho CK CJ ob qhx qhholders qhwho qhok) hx hholders hwho hok
theorem yi (h:HF) (x:Expr) (eL:cm) (value:Int) (holders:List (List Holder)) (dL:Option Addr) (dK:Nat) (who:List Int) (dU:Option Addr) (dT:Nat) (hx:Expr.ok h x eL) (hholders:SlC (Rp.sl Holder.rp) h dL dK holders) (hwho:SlC Rp.int h dU dT who) (hok:OkX (holders.length:Int) x):Ret prog 199 [.agg (Expr.cells x eL).toArray,I value,.slice dL holders.length dK,.slice dU who.length dT] h (.bool (bd x value holders who)):=ox _ h x eL value holders dL dK who dU dT (Nat.le_refl _) hx hholders hwho hok
theorem wA (h:HF) (p:Policy) (gp:dS) (kind:Int) (value:Int) (holders:List (List Holder)) (dL:Option Addr) (dK:Nat) (who:List Int) (dU:Option Addr) (dT:Nat) (hp:Policy.ok h p gp) (hholders:SlC (Rp.sl Holder.rp) h dL dK holders) (hwho:SlC Rp.int h dU dT who) (hsm:smP p) (hsz0:∀ y∈holders,y.length≤2000000) (hsw:who.length≤2000000):Ret prog 122 [.agg (Policy.cells p gp).toArray,I kind,I value,.slice dL holders.length dK,.slice dU who.length dT] h (.tuple #[.bool ((fJ p kind value holders who).1),I ((fJ p kind value holders who).2)]):=by
 refine sT func122 U ntmps122 U fun X hM hX hF=>?_
 have hs0:fJ p kind value holders who=fJ p kind value holders who:=rfl
 refine sr (cA (fun b1=>qO 5 U (cJ 0 ty68 U U U (ah call116 (oA _ _ _ hp ob) U (qO 8 U (ac hs0 U (fun c1 hs1=>?_) (fun c1 hs2=>?_)))))))
 ·refine qT 6 U ?_
  have hs3:fJ p kind value holders who=(false,(dX p)):=hs1
  exact nretP [.bool false,I (dX p)] (congrArg (fun r:(Bool×Int)=>(.tuple #[.bool r.1,I r.2]:Value)) hs3.symm)
 refine qT 7 U (ce 6 [20,21,22,23,24,25,26] 20 26 (decide ((p.Kinds.length:Int)≤kind)) U (fun c2 hk1=>?_) (fun e=>?_))
 ·exact qL 6 [0] U (hk1 _ U)
 refine aj (ce 3 [27,28,29,30] 27 30 (decide (value < 0)) U (fun c3 hk2=>?_) (fun e=>?_))
 ·exact aj (qO 2 U (hk2 _ U))
 refine aj (ce 3 [31,32,33,34] 31 34 (decide (1099511627776 < value)) U (fun c4 hk3=>?_) (fun e=>?_))
 ·exact aj (qO 2 U (hk3 _ U))
 refine aM (ac hs2 U (fun c5 hs4=>?_) (fun c5 hs5=>?_))
 ·refine qT 5 U ?_
  have hs6:fJ p kind value holders who=(false,1):=hs4
  exact nretP [.bool false,I 1] (congrArg (fun r:(Bool×Int)=>(.tuple #[.bool r.1,I r.2]:Value)) hs6.symm)
 refine qK 8 [0] U (ah call198 (wB _ _ _ _ (p.Offices.length:Int) hholders) U (qO 2 U (ac hs5 U (fun c6 hs7=>?_) (fun c6 hs8=>?_))))
 ·refine qT 5 U ?_
  have hs9:fJ p kind value holders who=(false,210):=hs7
  exact nretP [.bool false,I 210] (congrArg (fun r:(Bool×Int)=>(.tuple #[.bool r.1,I r.2]:Value)) hs9.symm)
 refine qT 5 U (ah call32 (yh _ _ _ _ hwho) U (qO 2 U (ac hs8 U (fun c7 hs10=>?_) (fun c7 hs11=>?_))))
 ·refine qT 5 U ?_
  have hs12:fJ p kind value holders who=(false,1):=hs10
  exact nretP [.bool false,I 1] (congrArg (fun r:(Bool×Int)=>(.tuple #[.bool r.1,I r.2]:Value)) hs12.symm)
 refine qK 6 [0] U ?_
 have ho1:0≤(kind:Int)∧(kind:Int) < ((p.Rules).length:Int):=(by have hq:=mA (wh hsm (by simpa using c1));simp only [decide_eq_true_eq,decide_eq_false_iff_not,Bool.and_eq_true,Bool.or_eq_true,Bool.not_eq_true',Bool.not_eq_false',Bool.and_eq_false_iff,Bool.or_eq_false_iff,beq_iff_eq,beq_eq_false_iff_ne,bne_iff_ne,bne_eq_false_iff_eq,List.length_append,List.length_cons,List.length_nil,List.length_drop] at *;omega)
 refine aA (dV pc ty107 hp.Rules.1 ho1 (bT ho1) U U U (fun _ _ _ e=>e) (fun q1 r1 A1 ok1=>qL 1 [] U (uI (j:=3) ty66 A1 U U (qO 3 U (ah Bn (yi _ _ _ value _ _ _ _ _ _ ok1.Expr hholders hwho (by have hq:=mA (wh hsm (by simpa using c1));have hr:=BG (hs:=holders) (n:=(p.Offices.length:Int)) (by rw [right21];simpa using c6);show OkX (holders.length:Int) _;rw [hr];exact hq.2.2 _ (uW (fw ho1)))) U (qO 3 U ?_))))))
 have hs13:fJ p kind value holders who=((bd ((nthI p.Rules kind).Expr) value holders who),0):=hs11
 exact nretP [.bool (bd ((nthI p.Rules kind).Expr) value holders who),I 0] (congrArg (fun r:(Bool×Int)=>(.tuple #[.bool r.1,I r.2]:Value)) hs13.symm)
theorem wy (h:HF) (l:List Int) (ey:Option Addr) (ew:Nat) (hl:SlC Rp.int h ey ew l):Ret prog 255 [.slice ey l.length ew] h (.bool (eA l)):=by
 refine sT func255 U ntmps255 U fun X hM hX hF=>?_
 have hs0:eA l=eA l:=rfl
 refine qT 9 U ?_
 refine lp0 l (fun i=>[(0,.slice ey l.length ew),(3,I (i:Int))]) ([]) (fun s1 i=>(eA.L1 l (eA.K1 l)) s1 i) hl.1.1 hs0 ?_ ?_ ?_
 ·rintro i1 et hs1 e
  exact qK 7 [] U (nretP [.bool (decide ((l.length:Int)≤16))] (cs hs1))
 ·rintro i1 y1 rz1 hd1 cw ao dy fB hs3 hx1 ag1 e
  refine qK 6 [] U (ad (v':=.bool true) U (cb cw) (qO 6 U ?_))
  refine ke [(0,.slice ey l.length ew),(3,I (i1:Int)),(31,.bool ((!(gz y1))||(decide (0 < (i1:Int))&&decide (y1≤(nthI l ((i1:Int) - 1))))))] (fun e=>?_) (fun hk1=>?_)
  rotate_left
  ·refine eB ([]) mixed kr jn (fun cB _=>?_)
   refine qA [0,1] U (cD 2 (enc:=fun y=>[I y]) cB jn ei cQ ty3 hl.1 (nthZ ao) (au ao) U U U U kr (fun q4 A4=>tf 3 U U (fun _ _ hj=>eF ty3 (A4.mono hj.1) U) (tn 4 U (eK call185 (ow h y1) U (⟨jn,qA [5,6] U ?_⟩)))))
   refine cx 16 U (fun c1=>?_) (fun c1=>?_)
   ·exact tk 7 U U (qR 8 14 U (aI kr (hk1 _ ⟨U,U,(cb (show true=((!(gz y1))||(decide (0 < (i1:Int))&&decide (y1≤(nthI l ((i1:Int) - 1))))) from by rw [c1] <;> rfl)),trivial⟩)))
   refine qR 7 3 U ?_
   refine cx 19 U (fun c2=>?_) (fun c2=>?_)
   ·have c2p:=of_decide_eq_true c2
    refine qA [10,11] U (cD 12 (enc:=fun y=>[I y]) cB jn ei cQ ty3 hl.1 (nthZ ao) (au ao) U U U U kr (fun q5 A5=>tf 13 U U (fun _ _ hj=>eF ty3 (A5.mono hj.1) U) (qA [14,15] U (tf 16 U U (fun _ _ _=>mq (v':=I ((i1:Int) - 1)) U (gG ob)) ?_))))
    have ho2:0≤(((i1:Int) - 1):Int)∧(((i1:Int) - 1):Int) < ((l).length:Int):=ob
    exact cD 17 (enc:=fun y=>[I y]) cB jn ei cQ ty3 hl.1 ho2 (bT ho2) U U U U kr (fun q6 A6=>tf 18 U U (fun _ _ hj=>eF ty3 (A6.mono hj.1) U) (qR 19 3 U (aI kr (hk1 _ ⟨U,U,(cb (show decide (y1≤(nthI l ((i1:Int) - 1)))=((!(gz y1))||(decide (0 < (i1:Int))&&decide (y1≤(nthI l ((i1:Int) - 1))))) from by rw [c1,c2] <;> rfl)),trivial⟩))))
   have c2p:=of_decide_eq_false c2
   exact tk 10 U U (qR 11 11 U (aI kr (hk1 _ ⟨U,U,(cb (show false=((!(gz y1))||(decide (0 < (i1:Int))&&decide (y1≤(nthI l ((i1:Int) - 1))))) from by rw [c1,c2] <;> rfl)),trivial⟩)))
  refine ac hs3 U (fun c3 hs4=>?_) (fun c3 hs5=>?_)
  ·exact sr (an (nretP [.bool false] (cs hs4)))
  exact aE (qT 3 U (ad (v':=I (((i1+1):Nat):Int)) U (aL ob) (an (ag1 hs5))))
 rintro i1 hd1 eG hx e
 exact qK 6 [] U (ad (v':=.bool false) U (cb eG) (qO 3 U (hx _ rd)))
theorem zl (h:HF) (l:List Interest) (ey:Option Addr) (ew:Nat) (who:Int) (parties:List Int) (gd:Option Addr) (ga:Nat) (aW:Int) (known:Int) (hl:SlC Interest.rp h ey ew l) (hparties:SlC Rp.int h gd ga parties):Ret prog 234 [.slice ey l.length ew,I who,.slice gd parties.length ga,I aW,I known] h (I (gK l who parties aW known)):=by
 refine sT func234 U ntmps234 U fun X hM hX hF=>?_
 have hs0:gK l who parties aW known=gK l who parties aW known:=rfl
 refine qT 7 U (ah call69 (sc _ _ _ _ hl) U (qO 8 U (ac hs0 U (fun c1 hs1=>?_) (fun c1 hs2=>?_))))
 ·exact sr (qO 3 U (nretP [I (e9 l)] (ci hs1)))
 refine qT 5 U (ah call186 (rm h who) U (qO 2 U (ce 4 [20,21,22,23,24] 20 24 (!(eA parties)) U (fun c2 hk1=>?_) (fun e=>?_))))
 ·exact aj (ah call255 (wy _ _ _ _ hparties) U (qO 2 U (hk1 _ U)))
 refine aj (ce 4 [25,26,27,28,29] 25 29 (!(iw aW)) U (fun c3 hk2=>?_) (fun e=>?_))
 ·exact aj (ah Hv (ng h aW) U (qO 2 U (hk2 _ U)))
 refine aj (ce 4 [30,31,32,33,34] 30 34 (!(iw known)) U (fun c4 hk3=>?_) (fun e=>?_))
 ·exact aj (ah Hv (ng h known) U (qO 2 U (hk3 _ U)))
 refine aM (ac hs2 U (fun c5 hs4=>?_) (fun c5 hs5=>?_))
 ·exact sr (an (nretP [I 1] (ci hs4)))
 exact aE (qT 4 U (nretP [I 0] (ci hs5)))
theorem rn (h:HF) (x:Interest) (fa:Int) (known:Int)  : Ret prog 270 [.agg (Interest.cells x).toArray,I fa,I known] h (.bool (fS x fa known)):=by
 refine sT func270 U ntmps270 U fun X hM hX hF=>?_
 have hs0:fS x fa known=fS x fa known:=rfl
 refine sr (cA (fun b1=>qL 9 [0] U (bx 5 [11,12,13,14,15,16] 11 16 (decide (x.Known≤known)) U (fun c1 hk1=>?_) (fun e=>?_))))
 ·exact qL 5 [0] U (hk1 _ U)
 exact an (nretP [.bool (decide (x.At≤fa)&&decide (x.Known≤known))] (cs hs0))
theorem zm (h:HF) (a:Interest) (gR:Interest)  : Ret prog 271 [.agg (Interest.cells a).toArray,.agg (Interest.cells gR).toArray] h (.bool (iM a gR)):=by
 refine sT func271 U ntmps271 U fun X hM hX hF=>?_
 have hs0:iM a gR=iM a gR:=rfl
 refine sr (cA (fun b1=>cA (fun b2=>qL 10 [1,0] U (bx 6 [10,11,12,13,14,15,16] 10 16 (a.Party==gR.Party) U (fun c1 hk1=>?_) (fun e=>?_)))))
 ·exact qL 6 [1,0] U (hk1 _ U)
 refine aj (bx 6 [17,18,19,20,21,22,23] 17 23 (a.Of==gR.Of) U (fun c2 hk2=>?_) (fun e=>?_))
 ·exact qL 4 [1,0] U (aA (fu (Ig JV U U) (dZ U (hk2 _ U))))
 exact an (nretP [.bool (((a.Person==gR.Person)&&(a.Party==gR.Party))&&(a.Of==gR.Of))] (cs hs0))
theorem ye (h:HF) (l:List Interest) (ey:Option Addr) (ew:Nat) (x:Interest) (aO:Int) (known:Int) (hl:SlC Interest.rp h ey ew l):Ret prog 256 [.slice ey l.length ew,.agg (Interest.cells x).toArray,I aO,I known] h (.bool (eR l x aO known)):=by
 refine sT func256 U ntmps256 U fun X hM hX hF=>?_
 have hs0:eR l x aO known=eR l x aO known:=rfl
 refine sr (cA (fun b1=>qL 8 [0] U (ce 6 [12,13,14,15,16,17,18] 12 18 (!(fS x aO known)) U (fun c1 hk1=>?_) (fun e=>?_))))
 ·exact cJ 0 ty61 U U U (qO 2 U (ah call270 (rn h x aO known) U (qO 2 U (hk1 _ U))))
 refine aM (ac hs0 U (fun c2 hs1=>?_) (fun c2 hs2=>?_))
 ·exact sr (an (nretP [.bool false] (cs hs1)))
 refine qT 6 U ?_
 let z1:Nat×Obj:=(b1,O (Interest.cells x) 61)
 refine lp0 l (fun i=>[(0,.slice ey l.length ew),(2,I aO),(3,I known),(5,Q b1),(9,I (i:Int))]) ([z1]) (fun s1 i=>(eR.L1 x aO known (eR.K1)) s1) hl.1.1 hs2 ?_ ?_ ?_
 ·rintro i1 et hs4 e
  exact sr (an (nretP [.bool true] (cs hs4)))
 ·rintro i1 y1 rz1 hd1 cw ao dy fB hs6 hx1 ag1 e
  refine qK 6 [] U (ad (v':=.bool true) U (cb cw) (qO 6 U ?_))
  refine ke [(0,.slice ey l.length ew),(2,I aO),(3,I known),(5,Q b1),(9,I (i1:Int)),(69,.bool (((iM y1 x)&&(fS y1 aO known))&&(decide (x.At < y1.At)||((y1.At==x.At)&&decide (x.No < y1.No)))))] (fun e=>?_) (fun hk2=>?_)
  rotate_left
  ·refine eB ([z1]) mixed kr jn (fun cB _=>?_)
   refine qA [0,1] U (cD 2 (enc:=Interest.cells) cB jn ei ml ty61 hl.1 (nthZ ao) (au ao) U U U U kr (fun q3 A3=>tf 3 U U (fun _ _ hj=>iQ ty61 (A3.mono hj.1) U U) (tf 4 U U (fun _ _ hj=>jj ty61 U (hj.nth (i:=0) U) U) (tn 5 U (eK call271 (zm h y1 x) U (⟨jn,(tm 6 U ?_)⟩))))))
   refine cx 31 U (fun c3=>?_) (fun c3=>?_)
   ·refine qA [7,8] U (cD 9 (enc:=Interest.cells) cB jn ei ml ty61 hl.1 (nthZ ao) (au ao) U U U U kr (fun q4 A4=>tf 10 U U (fun _ _ hj=>iQ ty61 (A4.mono hj.1) U U) (qA [11,12] U (tn 13 U (eK call270 (rn h y1 aO known) U (⟨jn,qA [14,15] U ?_⟩))))))
    refine cx 40 U (fun c4=>?_) (fun c4=>?_)
    ·refine qA [16,17] U (cD 18 (enc:=Interest.cells) cB jn ei ml ty61 hl.1 (nthZ ao) (au ao) U U U U kr (fun q5 A5=>qB [19] U (tf 20 U U (fun _ _ hj=>kQ 1 ty3 (A5.mono hj.1) U U) (qB [21] U (tf 22 U U (fun _ _ hj=>fI ty3 U (hj.nth (i:=0) U) U) (qA [23,24] U ?_))))))
     refine cx 49 U (fun c5=>?_) (fun c5=>?_)
     ·have c5p:=of_decide_eq_true c5
      exact tk 25 U U (qR 26 19 U (aI kr (hk2 _ ⟨U,U,U,U,U,(cb (show true=(((iM y1 x)&&(fS y1 aO known))&&(decide (x.At < y1.At)||((y1.At==x.At)&&decide (x.No < y1.No)))) from by rw [c3,c4,c5] <;> rfl)),trivial⟩)))
     have c5p:=of_decide_eq_false c5
     refine qA [25,26] U (cD 27 (enc:=Interest.cells) cB jn ei ml ty61 hl.1 (nthZ ao) (au ao) U U U U kr (fun q6 A6=>qB [28] U (tf 29 U U (fun _ _ hj=>kQ 1 ty3 (A6.mono hj.1) U U) (qB [30] U (tf 31 U U (fun _ _ hj=>fI ty3 U (hj.nth (i:=0) U) U) (qA [32,33] U ?_))))))
     refine cx 58 U (fun c6=>?_) (fun c6=>?_)
     ·exact tm 34 U (tm 35 U (cD 36 (enc:=Interest.cells) cB jn ei ml ty61 hl.1 (nthZ ao) (au ao) U U U U kr (fun q7 A7=>qB [37] U (tf 38 U U (fun _ _ hj=>eF ty3 (A7.mono hj.1) U) (qB [39] U (tf 40 U U (fun _ _ hj=>fI ty3 U (hj.nth (i:=0) U) U) (qR 41 4 U (aI kr (hk2 _ ⟨U,U,U,U,U,(cb (show decide (x.No < y1.No)=(((iM y1 x)&&(fS y1 aO known))&&(decide (x.At < y1.At)||((y1.At==x.At)&&decide (x.No < y1.No)))) from by rw [c3,c4,c5,c6] <;> rfl)),trivial⟩)))))))))
     exact tk 34 U U (qR 35 10 U (aI kr (hk2 _ ⟨U,U,U,U,U,(cb (show false=(((iM y1 x)&&(fS y1 aO known))&&(decide (x.At < y1.At)||((y1.At==x.At)&&decide (x.No < y1.No)))) from by rw [c3,c4,c5,c6] <;> rfl)),trivial⟩)))
    exact tk 16 U U (qR 17 28 U (aI kr (hk2 _ ⟨U,U,U,U,U,(cb (show false=(((iM y1 x)&&(fS y1 aO known))&&(decide (x.At < y1.At)||((y1.At==x.At)&&decide (x.No < y1.No)))) from by rw [c3,c4] <;> rfl)),trivial⟩)))
   exact tk 7 U U (qR 8 37 U (aI kr (hk2 _ ⟨U,U,U,U,U,(cb (show false=(((iM y1 x)&&(fS y1 aO known))&&(decide (x.At < y1.At)||((y1.At==x.At)&&decide (x.No < y1.No)))) from by rw [c3] <;> rfl)),trivial⟩)))
  refine ac hs6 U (fun c7 hs7=>?_) (fun c7 hs8=>?_)
  ·exact sr (an (nretP [.bool false] (cs hs7)))
  exact aE (qT 3 U (ad (v':=I (((i1+1):Nat):Int)) U (aL ob) (an (ag1 hs8))))
 rintro i1 hd1 eG hx e
 exact qK 6 [] U (ad (v':=.bool false) U (cb eG) (qO 3 U (hx _ rd)))
theorem vy (h:HF) (l:List Interest) (ey:Option Addr) (ew:Nat) (fa:Int) (known:Int) (hl:SlC Interest.rp h ey ew l) (hsz:l.length≤2000000):iq prog 235 [.slice ey l.length ew,I fa,I known] h (fun v h'=>∃ (rb0:Option Addr) (rc0:Nat),v=.slice rb0 (cu l fa known).length rc0∧SlC Interest.rp h' rb0 rc0 (cu l fa known)):=by
 refine sT func235 U ntmps235 U fun X hM hX hF=>?_
 have hs0:cu l fa known=cu l fa known:=rfl
 refine qT 6 U (aA (ia ml ty61 (fun b1=>qO 7 U ?_)))
 obtain ⟨G2,gr2,ge1⟩:∃ G:LH,cM Interest.rp 61 h ([]) (some ⟨b1,0,none⟩) 0 G∧[(b1,O [] 61)]=G:=⟨_,cM.lit (show aP Interest.rp h [] ([]) from rfl) rfl,rfl⟩
 refine cS (L':=([])++([(b1,O [] 61)]++([]))) ap ?_
 rw [ge1]
 refine kC (List.Perm.append_left _ List.perm_append_comm) (cS (L':=G2) ap ?_)
 refine lp2 l (fun i w=>[(0,.slice ey l.length ew),(1,I fa),(2,I known),(7,.slice w.2.1 w.1.length w.2.2.1),(8,I (i:Int))]) (fun _=>h) (fun w=>w.2.2.2) (fun i w=>cM Interest.rp 61 h w.1 w.2.1 w.2.2.1 w.2.2.2∧w.1.length≤0+i) (fun s1 i w=>(cu.L1 l fa known (cu.K1)) s1 w.1) ([],(some ⟨b1,0,none⟩),0,G2) hl.1.1 hs0 ⟨gr2,lo⟩ ?_ ?_ ?_
 ·rintro i1 ⟨ky,Cb,Ca,Gn⟩ et hs1 ⟨B9,Iq_⟩ e
  try dsimp only at B9 Iq_
  refine qT 5 U (eI Interest.ak ([]) Gn ([]) ap hM B9 (fun h2 hle2 sl2=>?_))
  have hs2:cu l fa known=ky:=hs1
  exact nretH [.slice Cb ky.length Ca] ⟨Cb,Ca,congrArg (fun r:List Interest=>(.slice Cb r.length Ca:Value)) hs2.symm,(by rw [hs2];exact sl2)⟩
 ·rintro i1 ⟨ky,Cb,Ca,Gn⟩ y1 rz1 hd1 cw ao dy fB hs3 ⟨B9,Iq_⟩ hx1 ag1 e
  try dsimp only at B9 Iq_
  refine qK 6 [] U (ad (v':=.bool true) U (cb cw) (qO 10 U (aA (ek (enc:=Interest.cells) ei ml ty61 hl.1 (nthZ ao) (au ao) U U U (fun q3 A3=>de ty61 A3 U U (qO 2 U (ah call256 (ye _ _ _ _ y1 fa known hl) U (aM (ac hs3 U (fun c2 hs4=>?_) (fun c2 hs5=>?_))))))))))
  ·refine qT 4 U (aA (ek (enc:=Interest.cells) ei ml ty61 hl.1 (nthZ ao) (au ao) U U U (fun q4 A4=>de ty61 A4 U U (aA (bg (cells:=[I y1.No,I y1.At,I y1.Known,I y1.Person,I y1.Party,.bool y1.Of,.bool y1.Gone]) ml ty61 zc61 U U kr (fun b3=>?_))))))
   let z1:Nat×Obj:=(b3,O [I y1.No,I y1.At,I y1.Known,I y1.Person,I y1.Party,.bool y1.Of,.bool y1.Gone] 61)
   exact aA (bS Interest.eC ([z1]) ([]) (fun G=>[z1]++G) ap (fun _=>ap) ml ty61 zc61 U bytes61 B9 U U (du 0 U (show aP Interest.rp h [I y1.No,I y1.At,I y1.Known,I y1.Person,I y1.Party,.bool y1.Of,.bool y1.Gone] ([y1]) from ⟨[I y1.No,I y1.At,I y1.Known,I y1.Person,I y1.Party,.bool y1.Of,.bool y1.Gone],[],U,U,U,U⟩)) lo lo (fun ob2 oc2 G3 gr3=>qO 5 U (ad (v':=I (((i1+1):Nat):Int)) U (aL ob) (an (bU (L':=G3) js (ag1 ((ky++[y1]),ob2,oc2,G3) hs4 ⟨gr3,lo⟩))))))
  exact aE (qT 3 U (ad (v':=I (((i1+1):Nat):Int)) U (aL ob) (an (ag1 (ky,Cb,Ca,Gn) hs5 ⟨B9,lo⟩))))
 rintro i1 ⟨ky,Cb,Ca,Gn⟩ hd1 eG hx e
 exact qK 6 [] U (ad (v':=.bool false) U (cb eG) (qO 3 U (hx _ rd)))
theorem jy (h:HF) (l:List dJ) (b:Option Addr) (c:Nat) (G:LH) (x:dJ) (eL:lP) (hG:cM dJ.rp 270 h l b c G) (hx:dJ.ok h x eL) (hsz:l.length≤2000000):
  nI prog 236 [.slice b l.length c,.agg (dJ.cells x eL).toArray].toArray h G (fun r h' G'=>∃ b' c',h'=h∧r=.returned (.slice b' (rwPut l x).length c')∧cM dJ.rp 270 h (rwPut l x) b' c' G'):=by
 refine cU func236 U ntmps236 U fun X hM hX=>sr (cA (fun b1=>qO 7 U ?_))
 let z1:Nat×Obj:=(b1,.cells (dJ.cells x eL).toArray 270 (0,0))
 refine lp0 l (fun i=>[(0,.slice b l.length c),(3,Q b1),(5,I (i:Int))]) ([z1]++G) (fun s _=>bif s.any (fun w=>w.To==x.To) then l else l++[x]) hG.bound (show rwPut l x=_ from U) ?_ ?_ ?_
 ·rintro i _ hs e
  replace hs:rwPut l x=l++[x]:=hs
  refine qT 3 U (cJ 0 ty270 U U U (aA (bg (cells:=dJ.cells x eL) xe ty270 zc270 U U kr (fun b2=>?_))))
  let z2:Nat×Obj:=(b2,.cells (dJ.cells x eL).toArray 270 (0,0))
  refine aA (bS dJ.eC ([z2,z1]) [] (fun G'=>[z2,z1]++([]++G')) ap (fun _=>U) xe ty270 zc270 U bytes270 hG U U
   (du 0 rfl (show aP dJ.rp h (dJ.cells x eL) [x] from ⟨dJ.cells x eL,[],rfl,rfl,⟨eL,rfl,hx⟩,rfl⟩)) lo lo (fun b3 c3 G3 hG3=>?_))
  refine an ?_
  refine mG func236 (fun a ha w hw=>res1 U a ha w) (fun w hw=>(hw.sub (L':=G3) js).lower) ⟨b3,c3,hX,?_,?_⟩
  ·rw [hs];rfl
  rw [hs];exact hG3
 ·rintro i y r hd hlt hget hltp hbd hs hx1 ag e
  obtain ⟨bk,hbk⟩:=hG.lM ob
  refine qK 6 [] rfl (ad (v':=.bool true) rfl (cb hlt) (qO 6 rfl (eB ([z1]++G) mixed kr jn (fun hsep hJ=>lG 0 hsep hJ rfl rfl kr rfl (fun _ _ _=>CH) (lG 1 hsep hJ rfl rfl kr rfl (fun _ _ _=>CH) (lG 2 hsep hJ rfl rfl kr rfl (fun _ _ _=>pN (R:=dJ.rp) (xs:=l) (z:=(i:Int)) xe ty270 hbk ob rfl rfl rfl) (lG 3 hsep hJ rfl rfl kr rfl (fun _ _ _=>nt EJ rfl) (lG 4 hsep hJ rfl rfl kr rfl (fun _ _ hj=>DS (R:=dJ.rp) (i:=(i:Int).toNat) (off:=1) ty3 hG hbk (au hget) (fun cs hcs=>by obtain ⟨q,e1,_⟩:=hcs;rw [e1];rfl) rfl (fun p hp=>hj.2 p (List.mem_append_right _ hp))) (lG 5 hsep hJ rfl rfl kr rfl (fun _ _ _=>nt EJ rfl) (lG 6 hsep hJ rfl rfl kr rfl (fun _ _ hj=>fI ty3 rfl (hj.nth (i:=0) rfl) rfl) ?_))))))))))
  refine lG 7 hsep hJ U U kr U (fun _ _ _=>J0 U) (aI kr (j7 (t:=y.To==x.To) U (fun c1=>?_) (fun c1=>?_)))
  ·replace hs:rwPut l x=l:=hs.trans (by simp only [List.any_cons,c1,Bool.true_or,cond_true])
   refine qT 5 U ?_
   refine mG func236 (fun a ha w hw=>res1 U a ha w) (fun w hw=>(hw.sub (List.sublist_append_right _ _)).lower) ⟨b,c,hX,?_,?_⟩
   ·rw [hs];rfl
   rw [hs];exact hG
  exact aE (qT 3 U (ad (v':=I ((i+1:Nat):Int)) U (aL ob) (an (ag (hs.trans (by simp only [List.any_cons,c1,Bool.false_or]))))))
 rintro i hd hge hx e
 exact qK 6 [] U (ad (v':=.bool false) U (cb hge) (qO 3 U (hx _ rd)))
end Go.Sg
