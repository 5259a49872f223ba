import Derived.Test.YtngiefchigcphaaGreatDoorW1
import Derived.Test.YtngiefchigcphaaGreatDoorW2
import Derived.Test.YtngiefchigcphaaGreatDoorW3
import Derived.Test.YtngiefchigcphaaGreatDoorW4
import Derived.Test.YtngiefchigcphaaGreatDoorW5
import Derived.Test.YtngiefchigcphaaGreatDoorW6
import Derived.Test.YtngiefchigcphaaGreatDoorW7
import Derived.Test.YtngiefchigcphaaGreatDoorW8
import Derived.Test.YtngiefchigcphaaGreatDoorW9
import Derived.Test.YtngiefchigcphaaGreatDoorW10
import Derived.Test.YtngiefchigcphaaGreatDoorW11
import Derived.Test.YtngiefchigcphaaGreatDoorW12
import Derived.Test.YtngiefchigcphaaGreatDoorW13
/- A part of the proof of the law AsofMore: where what it reads holds at most 1048576 values and letters, the call returns true and its arguments read as they did. Conditions: that bound, and that the listed table starts as the program lays it. -/
set_option linter.unusedVariables false
set_option linter.unusedSimpArgs false
namespace Go.Sg
open Go.Proofs
set_option maxHeartbeats 2000000
set_option maxRecDepth 100000
set_option linter.unusedVariables false
theorem uI (h:HF) (p:Policy) (fp:fh) (hp:Policy.ok h p fp) (hsm:smP p):jP Tryz.prog 189 [.agg (Policy.cells p fp).toArray] h (fun v h'=>∃ (rr0:fh),v=.tuple #[.agg (Policy.cells ((di p).1) rr0).toArray,I ((di p).2)]∧Policy.ok h' ((di p).1) rr0):=by
 refine aw DY U Tryz.ntmps189 U fun X hM hX=>?_
 have hs0:di p=di p:=rfl
 have hsc:=hsm.change
 have hsr:=hsm.rules
 refine sr (dC (fun b1=>bT zc68 (fun b2=>an (ad (sr (dh 1 ty68 U U U (aA (v:=.bool (e6 p)) Tryz.call227 (tW h p fp hp) U (ac ?_))))))))
 refine aB U (fun c1=>?_) (fun c1=>?_)
 ·have hs1:=hs0.trans (bt c1)
  refine sr (a8 (fO (cells:=[.string (⟨#[]⟩:ByteArray),.slice none 0 0,.slice none 0 0,.slice none 0 0,I 0,I 0,I 0,.string (⟨#[]⟩:ByteArray),.slice none 0 0,I 0]) (places:=[(0,1),(1,1),(2,1),(3,1),(4,5),(9,1)]) Eg zc68 kr kr ?_))
  refine bJ 0 ty68 U U U U U U (an ?_)
  have hs2:di p=((Policy.mk (⟨#[]⟩:ByteArray) ([]) ([]) ([]) (Expr.mk 0 0 0 (⟨#[]⟩:ByteArray) ([])) 0),2):=hs1
  exact dQ [.agg (List.toArray [.string (⟨#[]⟩:ByteArray),.slice none 0 0,.slice none 0 0,.slice none 0 0,I 0,I 0,I 0,.string (⟨#[]⟩:ByteArray),.slice none 0 0,I 0]),I 2] DY U ⟨⟨0,_,_,_,_,U,U,.inl ⟨ty68,U⟩⟩,U,trivial⟩ ⟨(fh.mk none 0 none 0 none 0 (cM.mk none 0)),congrArg (fun r:(Policy×Int)=>(.tuple #[.agg (Policy.cells r.1 (fh.mk none 0 none 0 none 0 (cM.mk none 0))).toArray,I r.2]:Value)) hs2.symm,(by rw [hs2];exact (show Policy.ok h (Policy.mk (⟨#[]⟩:ByteArray) ([]) ([]) ([]) (Expr.mk 0 0 0 (⟨#[]⟩:ByteArray) ([])) 0) (fh.mk none 0 none 0 none 0 (cM.mk none 0)) from ⟨SlC.nil,SlC.nil,SlC.nil,(show Expr.ok h (Expr.mk 0 0 0 (⟨#[]⟩:ByteArray) ([])) (cM.mk none 0) from Expr.ok.of SlC.nil)⟩))⟩
 ·have hs3:=hs0.trans (bf c1)
  refine ai (ad (sr (dh 1 ty68 U U U (aA (v:=.bool (f3 p)) Tryz.call228 (xa h p fp hp) U (cR U (ac ?_))))))
  refine aB U (fun c2=>?_) (fun c2=>?_)
  ·have hs4:=hs3.trans (bt c2)
   refine sr (a8 (fO (cells:=[.string (⟨#[]⟩:ByteArray),.slice none 0 0,.slice none 0 0,.slice none 0 0,I 0,I 0,I 0,.string (⟨#[]⟩:ByteArray),.slice none 0 0,I 0]) (places:=[(0,1),(1,1),(2,1),(3,1),(4,5),(9,1)]) Eg zc68 kr kr ?_))
   refine bJ 0 ty68 U U U U U U (an ?_)
   have hs5:di p=((Policy.mk (⟨#[]⟩:ByteArray) ([]) ([]) ([]) (Expr.mk 0 0 0 (⟨#[]⟩:ByteArray) ([])) 0),201):=hs4
   exact dQ [.agg (List.toArray [.string (⟨#[]⟩:ByteArray),.slice none 0 0,.slice none 0 0,.slice none 0 0,I 0,I 0,I 0,.string (⟨#[]⟩:ByteArray),.slice none 0 0,I 0]),I 201] DY U ⟨⟨0,_,_,_,_,U,U,.inl ⟨ty68,U⟩⟩,U,trivial⟩ ⟨(fh.mk none 0 none 0 none 0 (cM.mk none 0)),congrArg (fun r:(Policy×Int)=>(.tuple #[.agg (Policy.cells r.1 (fh.mk none 0 none 0 none 0 (cM.mk none 0))).toArray,I r.2]:Value)) hs5.symm,(by rw [hs5];exact (show Policy.ok h (Policy.mk (⟨#[]⟩:ByteArray) ([]) ([]) ([]) (Expr.mk 0 0 0 (⟨#[]⟩:ByteArray) ([])) 0) (fh.mk none 0 none 0 none 0 (cM.mk none 0)) from ⟨SlC.nil,SlC.nil,SlC.nil,(show Expr.ok h (Expr.mk 0 0 0 (⟨#[]⟩:ByteArray) ([])) (cM.mk none 0) from Expr.ok.of SlC.nil)⟩))⟩
  ·have hs6:=hs3.trans (bf c2)
   refine ai (ad (sr (dh 1 ty68 U U U (aA (v:=.bool (fD p)) Tryz.call229 (vY h p fp hp) U (cR U (ac ?_))))))
   refine aB U (fun c3=>?_) (fun c3=>?_)
   ·have hs7:=hs6.trans (bt c3)
    refine sr (a8 (fO (cells:=[.string (⟨#[]⟩:ByteArray),.slice none 0 0,.slice none 0 0,.slice none 0 0,I 0,I 0,I 0,.string (⟨#[]⟩:ByteArray),.slice none 0 0,I 0]) (places:=[(0,1),(1,1),(2,1),(3,1),(4,5),(9,1)]) Eg zc68 kr kr ?_))
    refine bJ 0 ty68 U U U U U U (an ?_)
    have hs8:di p=((Policy.mk (⟨#[]⟩:ByteArray) ([]) ([]) ([]) (Expr.mk 0 0 0 (⟨#[]⟩:ByteArray) ([])) 0),200):=hs7
    exact dQ [.agg (List.toArray [.string (⟨#[]⟩:ByteArray),.slice none 0 0,.slice none 0 0,.slice none 0 0,I 0,I 0,I 0,.string (⟨#[]⟩:ByteArray),.slice none 0 0,I 0]),I 200] DY U ⟨⟨0,_,_,_,_,U,U,.inl ⟨ty68,U⟩⟩,U,trivial⟩ ⟨(fh.mk none 0 none 0 none 0 (cM.mk none 0)),congrArg (fun r:(Policy×Int)=>(.tuple #[.agg (Policy.cells r.1 (fh.mk none 0 none 0 none 0 (cM.mk none 0))).toArray,I r.2]:Value)) hs8.symm,(by rw [hs8];exact (show Policy.ok h (Policy.mk (⟨#[]⟩:ByteArray) ([]) ([]) ([]) (Expr.mk 0 0 0 (⟨#[]⟩:ByteArray) ([])) 0) (fh.mk none 0 none 0 none 0 (cM.mk none 0)) from ⟨SlC.nil,SlC.nil,SlC.nil,(show Expr.ok h (Expr.mk 0 0 0 (⟨#[]⟩:ByteArray) ([])) (cM.mk none 0) from Expr.ok.of SlC.nil)⟩))⟩
   ·have hs9:=hs6.trans (bf c3)
    refine ai (sr (dh 1 ty68 U U U (bT zc68 (fun b3=>bJ 0 ty68 U U U U U U (ac (sr (ay fC U (du 0 ty63 U U U U U U (ac (ad (sr (an ?_))))))))))))
    let z1:Nat×Obj:=(b2,O [.string (⟨#[]⟩:ByteArray),.slice none 0 0,.slice none 0 0,.slice none 0 0,I 0,I 0,I 0,.string (⟨#[]⟩:ByteArray),.slice none 0 0,I 0] 68)
    let z7:Nat×Obj:=(b1,O (Policy.cells p fp) 68)
    refine bq (ι:=Nat×(List Rule)×Option Addr×Nat×LH×HF) (fun i=>[(1,Q b1),(2,Q b2),(4,Q b3)]) (fun i=>i.2.2.2.2.2) (fun i=>[(b3,O [.string p.Name,.slice fp.fM p.Kinds.length fp.fL,.slice fp.dB p.Offices.length fp.dA,.slice i.2.2.1 i.2.1.length i.2.2.2.1,I p.Change.Kind,I p.Change.N,I p.Change.No,.string p.Change.Name,.slice fp.Change.iE p.Change.L.length fp.Change.iG,I p.Mode] 68),z1,z7]++(i.2.2.2.2.1)) (fun i=>i.1≤p.Rules.length∧di p=((di.K1 p) i.2.1)∧ei Rule.rp 107 i.2.2.2.2.2 i.2.1 i.2.2.1 i.2.2.2.1 i.2.2.2.2.1∧i.2.1.length≤0+i.1∧HF.le h i.2.2.2.2.2) ?_ (fun hx1=>?_)
    ·rintro ⟨i1,j9,mt,mr,rL,hh1⟩ ⟨bd,hs10,pB,xZ,hl1⟩ e
     try dsimp only at bd pB xZ hl1
     try dsimp only
     refine sr (ay jO U (aL 2 ty62 U U U (ay lN U (dh 2 ty66 U U U (a8 (dp Bf (oG hh1 p.Offices fp.dB fp.dA p.Change fp.Change (hp.Offices.mono Rp.gx hl1) (hp.Change.mono hl1) ob) U (fun v3 h4 hle4 hp3=>?_)))))))
     obtain ⟨rr4,rfl,ok4⟩:=hp3
     let z3:Nat×Obj:=(b3,O [.string p.Name,.slice fp.fM p.Kinds.length fp.fL,.slice fp.dB p.Offices.length fp.dA,.slice mt j9.length mr,I ((aj p.Offices p.Change).Kind),I ((aj p.Offices p.Change).N),I ((aj p.Offices p.Change).No),.string ((aj p.Offices p.Change).Name),.slice rr4.iE ((aj p.Offices p.Change).L.length) rr4.iG,I p.Mode] 68)
     let z4:Nat×Obj:=(b2,O [.string p.Name,.slice fp.fM p.Kinds.length fp.fL,.slice fp.dB p.Offices.length fp.dA,.slice mt j9.length mr,I ((aj p.Offices p.Change).Kind),I ((aj p.Offices p.Change).N),I ((aj p.Offices p.Change).No),.string ((aj p.Offices p.Change).Name),.slice rr4.iE ((aj p.Offices p.Change).L.length) rr4.iG,I p.Mode] 68)
     refine ay lN U (du 0 ty66 U U U U U U (ac (sr (dh 0 ty68 U U U (bJ 1 ty68 U U U U U U (iF (L':=[z3,z4,z7]++(rL)) U ?_))))))
     refine an ?_
     refine gi Rule.aJ ([z3,z4,z7]) rL ([]) ap hM (pB.mono Rule.aJ hle4) (fun h5 hle5 sl2=>?_)
     have hs11:di p=((Policy.mk p.Name p.Kinds p.Offices j9 (Expr.mk ((aj p.Offices p.Change).Kind) ((aj p.Offices p.Change).N) ((aj p.Offices p.Change).No) ((aj p.Offices p.Change).Name) ((aj p.Offices p.Change).L)) p.Mode),0):=hs10
     exact dQ [.agg (List.toArray [.string p.Name,.slice fp.fM p.Kinds.length fp.fL,.slice fp.dB p.Offices.length fp.dA,.slice mt j9.length mr,I ((aj p.Offices p.Change).Kind),I ((aj p.Offices p.Change).N),I ((aj p.Offices p.Change).No),.string ((aj p.Offices p.Change).Name),.slice rr4.iE ((aj p.Offices p.Change).L.length) rr4.iG,I p.Mode]),I 0] DY U ⟨⟨1,_,_,_,_,U,U,.inl ⟨ty68,U⟩⟩,U,trivial⟩ ⟨(fh.mk fp.fM fp.fL fp.dB fp.dA mt mr (cM.mk rr4.iE rr4.iG)),congrArg (fun r:(Policy×Int)=>(.tuple #[.agg (Policy.cells r.1 (fh.mk fp.fM fp.fL fp.dB fp.dA mt mr (cM.mk rr4.iE rr4.iG))).toArray,I r.2]:Value)) hs11.symm,(by rw [hs11];exact (show Policy.ok h5 (Policy.mk p.Name p.Kinds p.Offices j9 (Expr.mk ((aj p.Offices p.Change).Kind) ((aj p.Offices p.Change).N) ((aj p.Offices p.Change).No) ((aj p.Offices p.Change).Name) ((aj p.Offices p.Change).L)) p.Mode) (fh.mk fp.fM fp.fL fp.dB fp.dA mt mr (cM.mk rr4.iE rr4.iG)) from ⟨(hp.Kinds.mono Rp.gx ((hl1.t hle4).t hle5)),(hp.Offices.mono Rp.gx ((hl1.t hle4).t hle5)),sl2,(show Expr.ok h5 (Expr.mk ((aj p.Offices p.Change).Kind) ((aj p.Offices p.Change).N) ((aj p.Offices p.Change).No) ((aj p.Offices p.Change).Name) ((aj p.Offices p.Change).L)) (cM.mk rr4.iE rr4.iG) from Expr.ok.of (ok4.list.mono Expr.aJ hle5))⟩))⟩
    ·refine ck (ι:=Nat×(List Rule)×Option Addr×Nat×LH×HF×List Rule) (fun i=>[(1,Q b1),(2,Q b2),(4,Q b3),(5,I ((i.1:Nat):Int))]) (fun i=>i.2.2.2.2.2.1) (fun i=>[(b3,O [.string p.Name,.slice fp.fM p.Kinds.length fp.fL,.slice fp.dB p.Offices.length fp.dA,.slice i.2.2.1 i.2.1.length i.2.2.2.1,I p.Change.Kind,I p.Change.N,I p.Change.No,.string p.Change.Name,.slice fp.Change.iE p.Change.L.length fp.Change.iG,I p.Mode] 68),z1,z7]++(i.2.2.2.2.1)) (fun i=>p.Rules.drop i.1=i.2.2.2.2.2.2∧i.1≤p.Rules.length∧di p=((di.L1 p (di.K1 p)) i.2.2.2.2.2.2 i.1 i.2.1)∧ei Rule.rp 107 i.2.2.2.2.2.1 i.2.1 i.2.2.1 i.2.2.2.1 i.2.2.2.2.1∧i.2.1.length≤0+i.1∧HF.le h i.2.2.2.2.2.1) (fun i=>i.2.2.2.2.2.2.length) (0,[],none,0,[],h,p.Rules) rd sw ⟨U,Nat.zero_le _,hs9,ei.nil,lo,(HF.le_refl h)⟩ ?_
     rintro ⟨i1,j9,mt,mr,rL,hh1,s1⟩ ⟨hd1,bd,hs12,pB,xZ,hl1⟩ ag1 e
     try dsimp only at hd1 bd pB xZ hl1
     rcases s1 with _ | ⟨y1,rz1⟩
     ·have dJ:=cS hd1
      try dsimp only
      refine ad (sr (aa (ay fC U (aL 2 ty63 U U U (bE jV U (az (v':=.bool false) U (cb dJ) (ac (ba U (bM U ?_)))))))))
      exact hx1 (i1,j9,mt,mr,rL,hh1) _ ⟨bd,hs12,pB,lo,hl1⟩ rd
     ·have dI:=dV hd1
      have bh:=cU hd1
      have e9:=aP hd1
      have gO:=hp.Rules.1.1
      have hsy:=hsm.2.1 y1 (gm hd1)
      try dsimp only
      refine ad (sr (aa (ay fC U (aL 2 ty63 U U U (bE jV U (az (v':=.bool true) U (cb dI) (ac (bj U (ai (ad (aU (sr (ay fC U (aL 2 ty63 U U U ?_))))))))))))))
      refine aa (a8 (gX jV ty107 (hp.Rules.mono Rule.aJ hl1).1 (nthZ bh) (bA bh) U U U (fun q2 cs2 A2 ln2 rr5=>?_)))
      obtain ⟨r2,rfl,ok5⟩:=rr5
      let z2:Nat×Obj:=(b3,O [.string p.Name,.slice fp.fM p.Kinds.length fp.fL,.slice fp.dB p.Offices.length fp.dA,.slice mt j9.length mr,I p.Change.Kind,I p.Change.N,I p.Change.No,.string p.Change.Name,.slice fp.Change.iE p.Change.L.length fp.Change.iG,I p.Mode] 68)
      refine dT ty107 A2 U U (bT zc107 (fun b6=>bJ 0 ty107 U U U U U U (iF (L':=[(b6,O (Rule.cells y1 r2) 107),z2,z1,z7]++(rL)) U ?_)))
      refine ac (sr (aa (ay rQ U (du 0 ty3 U U U U U U (ac (sr (ay jO U (aL 3 ty62 U U U (ay kn U (dh 0 ty66 U U U (a8 (dp Bf (oG hh1 p.Offices fp.dB fp.dA y1.Expr r2.Expr (hp.Offices.mono Rp.gx hl1) ok5.Expr ob) U (fun v4 h6 hle6 hp4=>?_)))))))))))))
      obtain ⟨rr6,rfl,ok6⟩:=hp4
      refine ay kn U (du 0 ty66 U U U U U U (ac (ah (ay fC U (aL 1 ty63 U U U (dh 0 ty107 U U U (a8 (cf (cells:=[.string y1.Kind,I ((i1:Nat):Int),I y1.Think,I ((aj p.Offices y1.Expr).Kind),I ((aj p.Offices y1.Expr).N),I ((aj p.Offices y1.Expr).No),.string ((aj p.Offices y1.Expr).Name),.slice rr6.iE ((aj p.Offices y1.Expr).L.length) rr6.iG]) jV ty107 zc107 U U kr (fun b7=>?_)))))))))
      let z5:Nat×Obj:=(b7,O [.string y1.Kind,I ((i1:Nat):Int),I y1.Think,I ((aj p.Offices y1.Expr).Kind),I ((aj p.Offices y1.Expr).N),I ((aj p.Offices y1.Expr).No),.string ((aj p.Offices y1.Expr).Name),.slice rr6.iE ((aj p.Offices y1.Expr).L.length) rr6.iG] 107)
      let z6:Nat×Obj:=(b6,O [.string y1.Kind,I ((i1:Nat):Int),I y1.Think,I ((aj p.Offices y1.Expr).Kind),I ((aj p.Offices y1.Expr).N),I ((aj p.Offices y1.Expr).No),.string ((aj p.Offices y1.Expr).Name),.slice rr6.iE ((aj p.Offices y1.Expr).L.length) rr6.iG] 107)
      refine a8 (eK Rule.eZ ([z5,z6,z2,z1,z7]) ([]) (fun G=>[z5,z6,z2,z1,z7]++(G)) ap (fun _=>ap) jV ty107 zc107 U bytes107 (pB.mono Rule.aJ hle6) U U (ff 0 U (show bW Rule.rp h6 [.string y1.Kind,I ((i1:Nat):Int),I y1.Think,I ((aj p.Offices y1.Expr).Kind),I ((aj p.Offices y1.Expr).N),I ((aj p.Offices y1.Expr).No),.string ((aj p.Offices y1.Expr).Name),.slice rr6.iE ((aj p.Offices y1.Expr).L.length) rr6.iG] ([(Rule.mk y1.Kind ((i1:Nat):Int) y1.Think (Expr.mk ((aj p.Offices y1.Expr).Kind) ((aj p.Offices y1.Expr).N) ((aj p.Offices y1.Expr).No) ((aj p.Offices y1.Expr).Name) ((aj p.Offices y1.Expr).L)))]) from ⟨[.string y1.Kind,I ((i1:Nat):Int),I y1.Think,I ((aj p.Offices y1.Expr).Kind),I ((aj p.Offices y1.Expr).N),I ((aj p.Offices y1.Expr).No),.string ((aj p.Offices y1.Expr).Name),.slice rr6.iE ((aj p.Offices y1.Expr).L.length) rr6.iG],[],U,U,⟨(uC.mk (cM.mk rr6.iE rr6.iG)),U,(show Rule.ok h6 (Rule.mk y1.Kind ((i1:Nat):Int) y1.Think (Expr.mk ((aj p.Offices y1.Expr).Kind) ((aj p.Offices y1.Expr).N) ((aj p.Offices y1.Expr).No) ((aj p.Offices y1.Expr).Name) ((aj p.Offices y1.Expr).L))) (uC.mk (cM.mk rr6.iE rr6.iG)) from ⟨(show Expr.ok h6 (Expr.mk ((aj p.Offices y1.Expr).Kind) ((aj p.Offices y1.Expr).N) ((aj p.Offices y1.Expr).No) ((aj p.Offices y1.Expr).Name) ((aj p.Offices y1.Expr).L)) (cM.mk rr6.iE rr6.iG) from Expr.ok.of ok6.list)⟩)⟩,U⟩)) lo lo (fun ob2 oc2 G2 gr2=>?_))
      refine ay fC U (du 2 ty63 U U U U U U (ac (ao (ah (aa (az (v':=I (((i1+1):Nat):Int)) U (bP ob) (an ?_)))))))
      refine cE (L':=[(b3,O [.string p.Name,.slice fp.fM p.Kinds.length fp.fL,.slice fp.dB p.Offices.length fp.dA,.slice ob2 ((j9++[(Rule.mk y1.Kind ((i1:Nat):Int) y1.Think (Expr.mk ((aj p.Offices y1.Expr).Kind) ((aj p.Offices y1.Expr).N) ((aj p.Offices y1.Expr).No) ((aj p.Offices y1.Expr).Name) ((aj p.Offices y1.Expr).L)))]).length) oc2,I p.Change.Kind,I p.Change.N,I p.Change.No,.string p.Change.Name,.slice fp.Change.iE p.Change.L.length fp.Change.iG,I p.Mode] 68),z1,z7]++(G2)) js ?_
      exact ag1 ((i1+1),(j9++[(Rule.mk y1.Kind ((i1:Nat):Int) y1.Think (Expr.mk ((aj p.Offices y1.Expr).Kind) ((aj p.Offices y1.Expr).N) ((aj p.Offices y1.Expr).No) ((aj p.Offices y1.Expr).Name) ((aj p.Offices y1.Expr).L)))]),ob2,oc2,G2,h6,rz1) _ (Nat.lt_succ_self _) ⟨bF hd1,aP hd1,hs12,gr2,lo,(hl1.t hle6)⟩ rd
theorem nP (h:HF) (a:(List ByteArray)) (IR:Option Addr) (IQ:Nat) (gI:(List ByteArray)) (yz:Option Addr) (yy:Nat) (ha:SlC Rp.str h IR IQ a) (sE:SlC Rp.str h yz yy gI):Ret Tryz.prog 231 [.slice IR a.length IQ,.slice yz gI.length yy] h (.bool (dE a gI)):=by
 refine aw Dj U Tryz.ntmps231 U fun X hM hX=>?_
 have hs0:dE a gI=dE a gI:=rfl
 refine sr (an (ad (sr (aa (bE kV U (aa (bE kV U (aF U (ac ?_)))))))))
 refine aB U (fun c1=>?_) (fun c1=>?_)
 ·have hs1:=hs0.trans (bt c1)
  refine sr (an ?_)
  exact ar [.bool false] Dj U hX rd (cs hs1)
 ·have hs3:=hs0.trans (bf c1)
  refine ai (ad (sr (an ?_)))
  refine bq (ι:=Nat) (fun i=>[]) (fun i=>h) (fun i=>[]) (fun i=>i≤a.length∧dE a gI=((dE.K1))) ?_ (fun hx1=>?_)
  ·rintro i1 ⟨bd,hs4⟩ e
   try dsimp only at bd
   try dsimp only
   refine sr (an ?_)
   exact ar [.bool true] Dj U hX rd (cs hs4)
  ·refine ck (ι:=Nat×List ByteArray) (fun i=>[(0,.slice IR a.length IQ),(1,.slice yz gI.length yy),(5,I ((i.1:Nat):Int))]) (fun i=>h) (fun i=>[]) (fun i=>a.drop i.1=i.2∧i.1≤a.length∧dE a gI=((dE.L1 gI (dE.K1)) i.2 i.1)) (fun i=>i.2.length) (0,a) rd sw ⟨U,Nat.zero_le _,hs3⟩ ?_
   rintro ⟨i1,s1⟩ ⟨hd1,bd,hs6⟩ ag1 e
   try dsimp only at hd1 bd
   rcases s1 with _ | ⟨y1,rz1⟩
   ·have dJ:=cS hd1
    try dsimp only
    refine ad (sr (aa (aa (bE kV U (az (v':=.bool false) U (cb dJ) (ac (ba U (bM U ?_))))))))
    exact hx1 i1 _ ⟨bd,hs6⟩ trivial
   ·have dI:=dV hd1
    have bh:=cU hd1
    have e9:=aP hd1
    have gO:=ha.1.1
    try dsimp only
    refine ad (sr (aa (aa (bE kV U (az (v':=.bool true) U (cb dI) (ac (bj U (ai (ad (aU (ad ?_)))))))))))
    refine gr ([]) mixed kr jn (fun fd _=>?_)
    refine tm 0 U (tm 1 U (fR 2 (enc:=fun y=>[.string y]) fd jn (fun _ _ _ e=>e) kV ty9 ha.1 (nthZ bh) (bA bh) U U U U kr (fun q3 A3=>?_)))
    refine tf 3 U U (fun _ _ hj=>gu ty9 (A3.mono hj.1) U) (tm 4 U (tm 5 U ?_))
    have ho2:0≤(((i1:Nat):Int):Int)∧(((i1:Nat):Int):Int) < ((gI).length:Int):=ob
    refine fR 6 (enc:=fun y=>[.string y]) fd jn (fun _ _ _ e=>e) kV ty9 sE.1 ho2 (eN ho2) U U U U kr (fun q4 A4=>tf 7 U U (fun _ _ hj=>gu ty9 (A4.mono hj.1) U) ?_)
    refine tf 8 U U (fun _ _ _=>iH U) (cd kr ?_)
    refine aB U (fun c3=>?_) (fun c3=>?_)
    ·have hs8:=hs6.trans (bt c3)
     refine sr (an ?_)
     exact ar [.bool false] Dj U hX rd (cs hs8)
    ·have hs10:=hs6.trans (bf c3)
     refine ai (ao (ah (aa (az (v':=I (((i1+1):Nat):Int)) U (bP ob) ?_))))
     refine an ?_
     exact ag1 ((i1+1),rz1) _ (Nat.lt_succ_self _) ⟨bF hd1,aP hd1,hs10⟩ rd
theorem tb (rec:Expr→Expr→Bool) (h:HF) (a:Expr) (yL:cM) (gI:Expr) (ls:cM) (hrec:∀ (h:HF) (qa:Expr) (HW:cM) (Gu:Expr) (Ay:cM) (hqa:Expr.ok h qa HW) (Jk:Expr.ok h Gu Ay) (_:qa.dep < a.dep),Ret Tryz.prog 232 [.agg (Expr.cells qa HW).toArray,.agg (Expr.cells Gu Ay).toArray] h (.bool (rec qa Gu))) (ha:Expr.ok h a yL) (sE:Expr.ok h gI ls):Ret Tryz.prog 232 [.agg (Expr.cells a yL).toArray,.agg (Expr.cells gI ls).toArray] h (.bool (bK.F rec a gI)):=by
 refine aw Di U Tryz.ntmps232 U fun X hM hX=>?_
 have hs0:bK.F rec a gI=bK.F rec a gI:=rfl
 refine sr (dC (fun b1=>dC (fun b2=>an (ad (sr (ay kP U (aL 1 ty3 U U U (ay kP U (aL 0 ty3 U U U (aF U (aa ?_)))))))))))
 refine tq 6 [(2,Q b1),(3,Q b2),(17,.bool ((a.Kind != gI.Kind)||(a.N != gI.N)))] (fun hk1=>?_) (fun e=>?_)
 ·refine au 11 U (fun c1=>?_) (fun c1=>?_)
  ·refine kq (kq (bY (ae U ?_)))
   exact hk1 _ ⟨U,U,(cb (eB c1)),trivial⟩
  ·refine ay ka U (aL 1 ty3 U U U (ay ka U (aL 0 ty3 U U U (aF U (ae U ?_)))))
   exact hk1 _ ⟨U,U,(cb (eE c1)),trivial⟩
 refine aa ?_
 refine tq 6 [(2,Q b1),(3,Q b2),(24,.bool (((a.Kind != gI.Kind)||(a.N != gI.N))||(a.No != gI.No)))] (fun hk2=>?_) (fun e=>?_)
 ·refine au 18 U (fun c2=>?_) (fun c2=>?_)
  ·refine kq (kq (bY (ae U ?_)))
   exact hk2 _ ⟨U,U,(cb (eB c2)),trivial⟩
  ·refine ay mU U (aL 1 ty3 U U U (ay mU U (aL 0 ty3 U U U (aF U (ae U ?_)))))
   exact hk2 _ ⟨U,U,(cb (eE c2)),trivial⟩
 refine aa ?_
 refine tq 6 [(2,Q b1),(3,Q b2),(31,.bool ((((a.Kind != gI.Kind)||(a.N != gI.N))||(a.No != gI.No))||(!(a.Name.toList==gI.Name.toList))))] (fun hk3=>?_) (fun e=>?_)
 ·refine au 25 U (fun c3=>?_) (fun c3=>?_)
  ·refine kq (kq (bY (ae U ?_)))
   exact hk3 _ ⟨U,U,(cb (eB c3)),trivial⟩
  ·refine ay my U (aL 1 ty9 U U U (ay my U (aL 0 ty9 U U U (aF U (ae U ?_)))))
   exact hk3 _ ⟨U,U,(cb (eE c3)),trivial⟩
 refine aa ?_
 refine tq 8 [(2,Q b1),(3,Q b2),(40,.bool (((((a.Kind != gI.Kind)||(a.N != gI.N))||(a.No != gI.No))||(!(a.Name.toList==gI.Name.toList)))||(((a.L.length:Nat):Int) != ((gI.L.length:Nat):Int))))] (fun hk4=>?_) (fun e=>?_)
 ·refine au 32 U (fun c4=>?_) (fun c4=>?_)
  ·refine kq (kq (kq (bY (ae U ?_))))
   exact hk4 _ ⟨U,U,(cb (eB c4)),trivial⟩
  ·refine ay dF U (aL 1 ty64 U U U (bE gg U (ay dF U (aL 0 ty64 U U U (bE gg U (aF U (ae U ?_)))))))
   exact hk4 _ ⟨U,U,(cb (eE c4)),trivial⟩
 refine ac ?_
 refine aB U (fun c5=>?_) (fun c5=>?_)
 ·have hs1:=hs0.trans (bt c5)
  refine sr (an ?_)
  exact ar [.bool false] Di U hX rd (cs hs1)
 ·have hs3:=hs0.trans (bf c5)
  refine ai (ad (sr (an ?_)))
  let z1:Nat×Obj:=(b2,O (Expr.cells gI ls) 66)
  let z2:Nat×Obj:=(b1,O (Expr.cells a yL) 66)
  refine bq (ι:=Nat) (fun i=>[]) (fun i=>h) (fun i=>[z1,z2]) (fun i=>i≤a.L.length∧bK.F rec a gI=((bK.K1))) ?_ (fun hx1=>?_)
  ·rintro i1 ⟨bd,hs4⟩ e
   try dsimp only at bd
   try dsimp only
   refine sr (an ?_)
   exact ar [.bool true] Di U hX rd (cs hs4)
  ·refine ck (ι:=Nat×List Expr) (fun i=>[(2,Q b1),(3,Q b2),(5,I ((i.1:Nat):Int))]) (fun i=>h) (fun i=>[z1,z2]) (fun i=>a.L.drop i.1=i.2∧i.1≤a.L.length∧bK.F rec a gI=((bK.L1 rec gI (bK.K1)) i.2 i.1)) (fun i=>i.2.length) (0,a.L) rd sw ⟨U,Nat.zero_le _,hs3⟩ ?_
   rintro ⟨i1,s1⟩ ⟨hd1,bd,hs6⟩ ag1 e
   try dsimp only at hd1 bd
   rcases s1 with _ | ⟨y1,rz1⟩
   ·have dJ:=cS hd1
    try dsimp only
    refine ad (sr (aa (ay dF U (aL 1 ty64 U U U (bE gg U (az (v':=.bool false) U (cb dJ) (ac (ba U (bM U ?_)))))))))
    exact hx1 i1 _ ⟨bd,hs6⟩ trivial
   ·have dI:=dV hd1
    have bh:=cU hd1
    have e9:=aP hd1
    have gO:=ha.list.1.1
    try dsimp only
    refine ad (sr (aa (ay dF U (aL 1 ty64 U U U (bE gg U (az (v':=.bool true) U (cb dI) (ac (bj U (ai (ad (aU (ad ?_))))))))))))
    refine gr ([z1,z2]) mixed kr jn (fun fd _=>?_)
    refine tf 0 U U (fun _ _ _=>dO dF U) (tf 1 U U (fun _ _ hj=>hY ty64 U (hj.nth (i:=1) U) U) (tm 2 U ?_))
    refine jC 3 fd jn gg ty66 ha.list.1 (nthZ bh) (bA bh) U U U U kr (fun q3 cs3 A3 ln3 rr3=>?_)
    obtain ⟨r3,rfl,ok3⟩:=rr3
    refine tf 4 U U (fun _ _ hj=>j8 ty66 (A3.mono hj.1) U U) (tf 5 U U (fun _ _ _=>dO dF U) (tf 6 U U (fun _ _ hj=>hY ty64 U (hj.nth (i:=0) U) U) ?_))
    refine tm 7 U ?_
    have ho2:0≤(((i1:Nat):Int):Int)∧(((i1:Nat):Int):Int) < ((gI.L).length:Int):=ob
    refine jC 8 fd jn gg ty66 sE.list.1 ho2 (eN ho2) U U U U kr (fun q4 cs4 A4 ln4 rr4=>?_)
    obtain ⟨r4,rfl,ok4⟩:=rr4
    refine tf 9 U U (fun _ _ hj=>j8 ty66 (A4.mono hj.1) U U) (tn 10 U (fU (v:=.bool (rec y1 (nthI gI.L ((i1:Nat):Int)))) Tryz.call232 (hrec h y1 r3 (nthI gI.L ((i1:Nat):Int)) r4 ok3 ok4 (Expr.iv (gm hd1))) U ?_))
    refine ⟨jn,(tf 11 U U (fun _ _ _=>kH U) ?_)⟩
    refine cd kr ?_
    refine aB U (fun c7=>?_) (fun c7=>?_)
    ·have hs8:=hs6.trans (bt c7)
     refine sr (an ?_)
     exact ar [.bool false] Di U hX rd (cs hs8)
    ·have hs10:=hs6.trans (bf c7)
     refine ai (ao (ah (aa (az (v':=I (((i1+1):Nat):Int)) U (bP ob) ?_))))
     refine an ?_
     exact ag1 ((i1+1),rz1) _ (Nat.lt_succ_self _) ⟨bF hd1,aP hd1,hs10⟩ rd
theorem mZ:∀ (m:Nat) (h:HF) (a:Expr) (yL:cM) (gI:Expr) (ls:cM) (_:a.dep≤m) (ha:Expr.ok h a yL) (sE:Expr.ok h gI ls),Ret Tryz.prog 232 [.agg (Expr.cells a yL).toArray,.agg (Expr.cells gI ls).toArray] h (.bool (bK.go m a gI))
 | 0,h,a,yL,gI,ls,hd,ha,sE=>absurd hd (Nat.not_le.2 (Expr.j1 _))
 | m+1,h,a,yL,gI,ls,hd,ha,sE=>tb (bK.go m) h a yL gI ls (fun qh_ qa HW Gu Ay qha I3 qd=>mZ m qh_ qa HW Gu Ay ob qha I3) ha sE
theorem oJ (h:HF) (a:Expr) (yL:cM) (gI:Expr) (ls:cM) (ha:Expr.ok h a yL) (sE:Expr.ok h gI ls):Ret Tryz.prog 232 [.agg (Expr.cells a yL).toArray,.agg (Expr.cells gI ls).toArray] h (.bool (bK a gI)):=mZ _ h a yL gI ls (Nat.le_refl _) ha sE
theorem yN (h:HF) (a:Policy) (yL:fh) (gI:Policy) (ls:fh) (ha:Policy.ok h a yL) (sE:Policy.ok h gI ls):Ret Tryz.prog 190 [.agg (Policy.cells a yL).toArray,.agg (Policy.cells gI ls).toArray] h (.bool (gA a gI)):=by
 refine aw Dh U Tryz.ntmps190 U fun X hM hX=>?_
 have hs0:gA a gI=gA a gI:=rfl
 refine sr (dC (fun b1=>dC (fun b2=>an (ad (sr (ay wp U (aL 1 ty9 U U U (ay wp U (aL 0 ty9 U U U (aF U (aa ?_)))))))))))
 refine tq 6 [(2,Q b1),(3,Q b2),(19,.bool ((!(a.Name.toList==gI.Name.toList))||(a.Mode != gI.Mode)))] (fun hk1=>?_) (fun e=>?_)
 ·refine au 13 U (fun c1=>?_) (fun c1=>?_)
  ·refine kq (kq (bY (ae U ?_)))
   exact hk1 _ ⟨U,U,(cb (eB c1)),trivial⟩
  ·refine ay sd U (aL 1 ty3 U U U (ay sd U (aL 0 ty3 U U U (aF U (ae U ?_)))))
   exact hk1 _ ⟨U,U,(cb (eE c1)),trivial⟩
 refine aa ?_
 refine tq 7 [(2,Q b1),(3,Q b2),(27,.bool (((!(a.Name.toList==gI.Name.toList))||(a.Mode != gI.Mode))||(!(dE a.Offices gI.Offices))))] (fun hk2=>?_) (fun e=>?_)
 ·refine au 20 U (fun c2=>?_) (fun c2=>?_)
  ·refine kq (kq (kq (ae U ?_)))
   exact hk2 _ ⟨U,U,(cb (eB c2)),trivial⟩
  ·refine ay jO U (aL 1 ty62 U U U (ay jO U (aL 0 ty62 U U U (aA (v:=.bool (dE a.Offices gI.Offices)) Tryz.call231 (nP h a.Offices yL.dB yL.dA gI.Offices ls.dB ls.dA ha.Offices sE.Offices) U ?_))))
   refine cR U (ae U ?_)
   exact hk2 _ ⟨U,U,(cb (eE c2)),trivial⟩
 refine aa ?_
 refine tq 7 [(2,Q b1),(3,Q b2),(35,.bool ((((!(a.Name.toList==gI.Name.toList))||(a.Mode != gI.Mode))||(!(dE a.Offices gI.Offices)))||(!(dE a.Kinds gI.Kinds))))] (fun hk3=>?_) (fun e=>?_)
 ·refine au 28 U (fun c3=>?_) (fun c3=>?_)
  ·refine kq (kq (kq (ae U ?_)))
   exact hk3 _ ⟨U,U,(cb (eB c3)),trivial⟩
  ·refine ay kO U (aL 1 ty62 U U U (ay kO U (aL 0 ty62 U U U (aA (v:=.bool (dE a.Kinds gI.Kinds)) Tryz.call231 (nP h a.Kinds yL.fM yL.fL gI.Kinds ls.fM ls.fL ha.Kinds sE.Kinds) U ?_))))
   refine cR U (ae U ?_)
   exact hk3 _ ⟨U,U,(cb (eE c3)),trivial⟩
 refine aa ?_
 refine tq 8 [(2,Q b1),(3,Q b2),(44,.bool (((((!(a.Name.toList==gI.Name.toList))||(a.Mode != gI.Mode))||(!(dE a.Offices gI.Offices)))||(!(dE a.Kinds gI.Kinds)))||(((a.Rules.length:Nat):Int) != ((gI.Rules.length:Nat):Int))))] (fun hk4=>?_) (fun e=>?_)
 ·refine au 36 U (fun c4=>?_) (fun c4=>?_)
  ·refine kq (kq (kq (bY (ae U ?_))))
   exact hk4 _ ⟨U,U,(cb (eB c4)),trivial⟩
  ·refine ay fC U (aL 1 ty63 U U U (bE jV U (ay fC U (aL 0 ty63 U U U (bE jV U (aF U (ae U ?_)))))))
   exact hk4 _ ⟨U,U,(cb (eE c4)),trivial⟩
 refine aa ?_
 refine tq 7 [(2,Q b1),(3,Q b2),(52,.bool ((((((!(a.Name.toList==gI.Name.toList))||(a.Mode != gI.Mode))||(!(dE a.Offices gI.Offices)))||(!(dE a.Kinds gI.Kinds)))||(((a.Rules.length:Nat):Int) != ((gI.Rules.length:Nat):Int)))||(!(bK a.Change gI.Change))))] (fun hk5=>?_) (fun e=>?_)
 ·refine au 45 U (fun c5=>?_) (fun c5=>?_)
  ·refine kq (kq (kq (ae U ?_)))
   exact hk5 _ ⟨U,U,(cb (eB c5)),trivial⟩
  ·refine ay lN U (dh 1 ty66 U U U (ay lN U (dh 0 ty66 U U U (aA (v:=.bool (bK a.Change gI.Change)) Tryz.call232 (oJ h a.Change yL.Change gI.Change ls.Change ha.Change sE.Change) U (cR U ?_)))))
   refine ae U ?_
   exact hk5 _ ⟨U,U,(cb (eE c5)),trivial⟩
 refine ac ?_
 refine aB U (fun c6=>?_) (fun c6=>?_)
 ·have hs1:=hs0.trans (bt c6)
  refine sr (an ?_)
  exact ar [.bool false] Dh U hX rd (cs hs1)
 ·have hs3:=hs0.trans (bf c6)
  refine ai (ad (sr (an ?_)))
  let z1:Nat×Obj:=(b2,O (Policy.cells gI ls) 68)
  let z2:Nat×Obj:=(b1,O (Policy.cells a yL) 68)
  refine bq (ι:=Nat) (fun i=>[]) (fun i=>h) (fun i=>[z1,z2]) (fun i=>i≤a.Rules.length∧gA a gI=((gA.K1))) ?_ (fun hx1=>?_)
  ·rintro i1 ⟨bd,hs4⟩ e
   try dsimp only at bd
   try dsimp only
   refine sr (an ?_)
   exact ar [.bool true] Dh U hX rd (cs hs4)
  ·refine ck (ι:=Nat×List Rule) (fun i=>[(2,Q b1),(3,Q b2),(5,I ((i.1:Nat):Int))]) (fun i=>h) (fun i=>[z1,z2]) (fun i=>a.Rules.drop i.1=i.2∧i.1≤a.Rules.length∧gA a gI=((gA.L1 gI (gA.K1)) i.2 i.1)) (fun i=>i.2.length) (0,a.Rules) rd sw ⟨U,Nat.zero_le _,hs3⟩ ?_
   rintro ⟨i1,s1⟩ ⟨hd1,bd,hs6⟩ ag1 e
   try dsimp only at hd1 bd
   rcases s1 with _ | ⟨y1,rz1⟩
   ·have dJ:=cS hd1
    try dsimp only
    refine ad (sr (aa (ay fC U (aL 1 ty63 U U U (bE jV U (az (v':=.bool false) U (cb dJ) (ac (ba U (bM U ?_)))))))))
    exact hx1 i1 _ ⟨bd,hs6⟩ trivial
   ·have dI:=dV hd1
    have bh:=cU hd1
    have e9:=aP hd1
    have gO:=ha.Rules.1.1
    try dsimp only
    refine ad (sr (aa (ay fC U (aL 1 ty63 U U U (bE jV U (az (v':=.bool true) U (cb dI) (ac (bj U (ai (ad (aU (sr (ay fC U (aL 1 ty63 U U U ?_))))))))))))))
    refine aa (a8 (gX jV ty107 ha.Rules.1 (nthZ bh) (bA bh) U U U (fun q3 cs3 A3 ln3 rr3=>?_)))
    obtain ⟨r3,rfl,ok3⟩:=rr3
    refine dT ty107 A3 U U (bT zc107 (fun b5=>bJ 0 ty107 U U U U U U (ac (sr (ay fC U (aL 1 ty63 U U U (aa ?_)))))))
    have ho2:0≤(((i1:Nat):Int):Int)∧(((i1:Nat):Int):Int) < ((gI.Rules).length:Int):=ob
    refine a8 (gX jV ty107 sE.Rules.1 ho2 (eN ho2) U U U (fun q4 cs4 A4 ln4 rr4=>?_))
    obtain ⟨r4,rfl,ok4⟩:=rr4
    refine dT ty107 A4 U U (bT zc107 (fun b6=>bJ 0 ty107 U U U U U U (ac (sr (ay ut U (aL 1 ty9 U U U (ay ut U (aL 0 ty9 U U U (aF U (aa ?_))))))))))
    refine tq 6 [(2,Q b1),(3,Q b2),(5,I ((i1:Nat):Int)),(6,Q b5),(7,Q b6),(81,.bool ((!(y1.Kind.toList==(nthI gI.Rules ((i1:Nat):Int)).Kind.toList))||(y1.KindNo != (nthI gI.Rules ((i1:Nat):Int)).KindNo)))] (fun hk6=>?_) (fun e=>?_)
    ·refine au 75 U (fun c7=>?_) (fun c7=>?_)
     ·refine kq (kq (bY (ae U ?_)))
      exact hk6 _ ⟨U,U,U,U,U,(cb (eB c7)),trivial⟩
     ·refine ay rQ U (aL 1 ty3 U U U (ay rQ U (aL 0 ty3 U U U (aF U (ae U ?_)))))
      exact hk6 _ ⟨U,U,U,U,U,(cb (eE c7)),trivial⟩
    refine aa ?_
    refine tq 6 [(2,Q b1),(3,Q b2),(5,I ((i1:Nat):Int)),(6,Q b5),(7,Q b6),(88,.bool (((!(y1.Kind.toList==(nthI gI.Rules ((i1:Nat):Int)).Kind.toList))||(y1.KindNo != (nthI gI.Rules ((i1:Nat):Int)).KindNo))||(y1.Think != (nthI gI.Rules ((i1:Nat):Int)).Think)))] (fun hk7=>?_) (fun e=>?_)
    ·refine au 82 U (fun c8=>?_) (fun c8=>?_)
     ·refine kq (kq (bY (ae U ?_)))
      exact hk7 _ ⟨U,U,U,U,U,(cb (eB c8)),trivial⟩
     ·refine ay og U (aL 1 ty3 U U U (ay og U (aL 0 ty3 U U U (aF U (ae U ?_)))))
      exact hk7 _ ⟨U,U,U,U,U,(cb (eE c8)),trivial⟩
    refine aa ?_
    refine tq 7 [(2,Q b1),(3,Q b2),(5,I ((i1:Nat):Int)),(96,.bool ((((!(y1.Kind.toList==(nthI gI.Rules ((i1:Nat):Int)).Kind.toList))||(y1.KindNo != (nthI gI.Rules ((i1:Nat):Int)).KindNo))||(y1.Think != (nthI gI.Rules ((i1:Nat):Int)).Think))||(!(bK y1.Expr ((nthI gI.Rules ((i1:Nat):Int)).Expr)))))] (fun hk8=>?_) (fun e=>?_)
    ·refine au 89 U (fun c9=>?_) (fun c9=>?_)
     ·refine kq (kq (kq (ae U ?_)))
      exact hk8 _ ⟨U,U,U,(cb (eB c9)),trivial⟩
     ·refine ay kn U (dh 1 ty66 U U U (ay kn U (dh 0 ty66 U U U (aA (v:=.bool (bK y1.Expr ((nthI gI.Rules ((i1:Nat):Int)).Expr))) Tryz.call232 (oJ h y1.Expr r3.Expr ((nthI gI.Rules ((i1:Nat):Int)).Expr) r4.Expr ok3.Expr ok4.Expr) U ?_))))
      refine cR U (ae U ?_)
      exact hk8 _ ⟨U,U,U,(cb (eE c9)),trivial⟩
    refine ac ?_
    refine aB U (fun c10=>?_) (fun c10=>?_)
    ·have hs8:=hs6.trans (bt c10)
     refine sr (an ?_)
     exact ar [.bool false] Dh U hX rd (cs hs8)
    ·have hs10:=hs6.trans (bf c10)
     refine ai (ao (ah (aa (az (v':=I (((i1+1):Nat):Int)) U (bP ob) ?_))))
     refine an ?_
     refine cE (L':=[z1,z2]) js ?_
     exact ag1 ((i1+1),rz1) _ (Nat.lt_succ_self _) ⟨bF hd1,aP hd1,hs10⟩ rd
theorem ri (h:HF) (p:Policy) (fp:fh) (hp:Policy.ok h p fp) (hsm:smP p):Ret Tryz.prog 116 [.agg (Policy.cells p fp).toArray] h (I (fF p)):=by
 refine aw Dg U Tryz.ntmps116 U fun X hM hX=>?_
 have hs0:fF p=fF p:=rfl
 refine sr (dC (fun b1=>an (sr (dh 0 ty68 U U U (a8 (dp Tryz.call189 (uI h p fp hp ob) U (fun v1 h1 hle1 hp1=>?_)))))))
 obtain ⟨rr1,rfl,ok1⟩:=hp1
 refine aa (bR U U (bR U U (bT zc68 (fun b2=>bJ 0 ty68 U U U U U U (an (ad (sr (aa (aF U (ac ?_))))))))))
 refine aB U (fun c1=>?_) (fun c1=>?_)
 ·have hs1:=hs0.trans (bt c1)
  refine sr (aa (an ?_))
  exact ar [I ((di p).2)] Dg U hX rd (ci hs1)
 ·have hs3:=hs0.trans (bf c1)
  refine ai (ad (sr (dh 0 ty68 U U U (dh 1 ty68 U U U (aA (v:=.bool (gA ((di p).1) p)) Tryz.call190 (yN h1 ((di p).1) rr1 p fp ok1 (hp.mono hle1)) U (cR U (ac ?_)))))))
  refine aB U (fun c2=>?_) (fun c2=>?_)
  ·have hs4:=hs3.trans (bt c2)
   refine sr (an ?_)
   exact ar [I 200] Dg U hX rd (ci hs4)
  ·have hs6:=hs3.trans (bf c2)
   refine ai (sr (an ?_))
   exact ar [I 0] Dg U hX rd (ci hs6)
theorem tX (h:HF) (l:(List Version)) (fc:Option Addr) (fb:Nat) (hl:SlC Version.rp h fc fb l) (hsm:smV l):Ret Tryz.prog 71 [.slice fc l.length fb] h (I (dz l)):=by
 refine aw Df U Tryz.ntmps71 U fun X hM hX=>?_
 have hs0:dz l=dz l:=rfl
 refine sr (an (ad (sr (aa (bE lu U (aF U (ac ?_)))))))
 refine aB U (fun c1=>?_) (fun c1=>?_)
 ·have c1p:=of_decide_eq_true c1
  have hs1:=hs0.trans (bt c1)
  refine sr (an ?_)
  exact ar [I 2] Df U hX rd (ci hs1)
 ·have c1p:=of_decide_eq_false c1
  have hs3:=hs0.trans (bf c1)
  refine ai (ad (sr (an ?_)))
  refine bq (ι:=Nat) (fun i=>[]) (fun i=>h) (fun i=>[]) (fun i=>i≤l.length∧dz l=((dz.K1))) ?_ (fun hx1=>?_)
  ·rintro i1 ⟨bd,hs4⟩ e
   try dsimp only at bd
   try dsimp only
   refine sr (an ?_)
   exact ar [I 0] Df U hX rd (ci hs4)
  ·refine ck (ι:=Nat×List Version) (fun i=>[(0,.slice fc l.length fb),(3,I ((i.1:Nat):Int))]) (fun i=>h) (fun i=>[]) (fun i=>l.drop i.1=i.2∧i.1≤l.length∧dz l=((dz.L1 l (dz.K1)) i.2 i.1)) (fun i=>i.2.length) (0,l) rd sw ⟨U,Nat.zero_le _,hs3⟩ ?_
   rintro ⟨i1,s1⟩ ⟨hd1,bd,hs6⟩ ag1 e
   try dsimp only at hd1 bd
   rcases s1 with _ | ⟨y1,rz1⟩
   ·have dJ:=cS hd1
    try dsimp only
    refine ad (sr (aa (aa (bE lu U (az (v':=.bool false) U (cb dJ) (ac (ba U (bM U ?_))))))))
    exact hx1 i1 _ ⟨bd,hs6⟩ trivial
   ·have dI:=dV hd1
    have bh:=cU hd1
    have e9:=aP hd1
    have gO:=hl.1.1
    have hsy:=hsm.2 y1 (gm hd1)
    try dsimp only
    refine ad (sr (aa (aa (bE lu U (az (v':=.bool true) U (cb dI) (ac (bj U (ai (ad (aU (sr (aa (aa (a8 (gX lu ty70 hl.1 (nthZ bh) (bA bh) U U U (fun q2 cs2 A2 ln2 rr2=>?_))))))))))))))))
    obtain ⟨r2,rfl,ok2⟩:=rr2
    refine dT ty70 A2 U U (bT zc70 (fun b2=>bJ 0 ty70 U U U U U U (ac (ad ?_))))
    refine mL [(0,.slice fc l.length fb),(3,I ((i1:Nat):Int)),(58,.bool (((((decide (y1.No < 0)||decide (1048576 < y1.No))||(decide (0 < ((i1:Nat):Int))&&decide (y1.No≤(nthI l (((i1:Nat):Int) - 1)).No)))||(!(dY y1.At)))||(!(dY y1.Known)))||((fF y1.Policy) != 0)))] (fun e=>?_) (fun hk1=>?_)
    rotate_left
    ·let z1:Nat×Obj:=(b2,O (Version.cells y1 r2) 70)
     refine gr ([z1]) mixed kr jn (fun fd _=>?_)
     refine tf 0 U U (fun _ _ _=>dO oT U) (tf 1 U U (fun _ _ hj=>hY ty3 U (hj.nth (i:=0) U) U) (tf 2 U U (fun _ _ _=>iH U) ?_))
     refine tm 3 U ?_
     refine eI 21 U (fun c2=>?_) (fun c2=>?_)
     ·have c2p:=of_decide_eq_true c2
      refine tk 4 U U (tk 5 U U (tk 6 U U (tf 7 U U (fun _ _ _=>cr U) ?_)))
      refine tm 8 U (tk 9 U U (tk 10 U U (tk 11 U U ?_)))
      refine tk 12 U U (tk 13 U U (tk 14 U U (tk 15 U U ?_)))
      refine tk 16 U U (tk 17 U U (tk 18 U U (tk 19 U U ?_)))
      refine tk 20 U U (tk 21 U U (tf 22 U U (fun _ _ _=>cr U) (tm 23 U ?_)))
      refine tk 24 U U (tk 25 U U (tk 26 U U (tk 27 U U ?_)))
      refine tf 28 U U (fun _ _ _=>cr U) (tm 29 U (tk 30 U U ?_))
      refine tk 31 U U (tk 32 U U (tk 33 U U (tf 34 U U (fun _ _ _=>cr U) ?_)))
      refine tm 35 U (tk 36 U U (tk 37 U U (tk 38 U U ?_)))
      refine tk 39 U U (tf 40 U U (fun _ _ _=>cr U) (cd kr ?_))
      exact hk1 _ ⟨U,U,(cb (show true=(((((decide (y1.No < 0)||decide (1048576 < y1.No))||(decide (0 < ((i1:Nat):Int))&&decide (y1.No≤(nthI l (((i1:Nat):Int) - 1)).No)))||(!(dY y1.At)))||(!(dY y1.Known)))||((fF y1.Policy) != 0)) from by rw [c2] <;> rfl)),trivial⟩
     ·have c2p:=of_decide_eq_false c2
      refine tf 4 U U (fun _ _ _=>dO oT U) (tf 5 U U (fun _ _ hj=>hY ty3 U (hj.nth (i:=0) U) U) (tf 6 U U (fun _ _ _=>iH U) ?_))
      refine tf 7 U U (fun _ _ _=>cr U) (tm 8 U ?_)
      refine eI 26 U (fun c3=>?_) (fun c3=>?_)
      ·have c3p:=of_decide_eq_true c3
       refine tk 9 U U (tk 10 U U (tk 11 U U (tk 12 U U ?_)))
       refine tk 13 U U (tk 14 U U (tk 15 U U (tk 16 U U ?_)))
       refine tk 17 U U (tk 18 U U (tk 19 U U (tk 20 U U ?_)))
       refine tk 21 U U (tf 22 U U (fun _ _ _=>cr U) (tm 23 U ?_))
       refine tk 24 U U (tk 25 U U (tk 26 U U (tk 27 U U ?_)))
       refine tf 28 U U (fun _ _ _=>cr U) (tm 29 U (tk 30 U U ?_))
       refine tk 31 U U (tk 32 U U (tk 33 U U (tf 34 U U (fun _ _ _=>cr U) ?_)))
       refine tm 35 U (tk 36 U U (tk 37 U U (tk 38 U U ?_)))
       refine tk 39 U U (tf 40 U U (fun _ _ _=>cr U) (cd kr ?_))
       exact hk1 _ ⟨U,U,(cb (show true=(((((decide (y1.No < 0)||decide (1048576 < y1.No))||(decide (0 < ((i1:Nat):Int))&&decide (y1.No≤(nthI l (((i1:Nat):Int) - 1)).No)))||(!(dY y1.At)))||(!(dY y1.Known)))||((fF y1.Policy) != 0)) from by rw [c2,c3] <;> rfl)),trivial⟩
      ·have c3p:=of_decide_eq_false c3
       refine tm 9 U (tf 10 U U (fun _ _ _=>iH U) (tm 11 U ?_))
       refine eI 29 U (fun c4=>?_) (fun c4=>?_)
       ·have c4p:=of_decide_eq_true c4
        refine tm 12 U (tm 13 U (tf 14 U U (fun _ _ _=>nl (v':=I (((i1:Nat):Int) - 1)) U (iZ ob)) ?_))
        have ho1:0≤((((i1:Nat):Int) - 1):Int)∧((((i1:Nat):Int) - 1):Int) < ((l).length:Int):=ob
        refine jC 15 fd jn lu ty70 hl.1 ho1 (eN ho1) U U U U kr (fun q3 cs3 A3 ln3 rr3=>?_)
        obtain ⟨r3,rfl,ok3⟩:=rr3
        refine tf 16 U U (fun _ _ _=>dO oT U) (tf 17 U U (fun _ _ hj=>gu ty3 (A3.mono hj.1) U) (tf 18 U U (fun _ _ _=>dO oT U) ?_))
        refine tf 19 U U (fun _ _ hj=>hY ty3 U (hj.nth (i:=0) U) U) (tf 20 U U (fun _ _ _=>iH U) (tf 21 U U (fun _ _ _=>cr U) ?_))
        refine tf 22 U U (fun _ _ _=>cr U) (tm 23 U ?_)
        refine eI 41 U (fun c5=>?_) (fun c5=>?_)
        ·have c5p:=of_decide_eq_true c5
         refine tk 24 U U (tk 25 U U (tk 26 U U (tk 27 U U ?_)))
         refine tf 28 U U (fun _ _ _=>cr U) (tm 29 U (tk 30 U U ?_))
         refine tk 31 U U (tk 32 U U (tk 33 U U (tf 34 U U (fun _ _ _=>cr U) ?_)))
         refine tm 35 U (tk 36 U U (tk 37 U U (tk 38 U U ?_)))
         refine tk 39 U U (tf 40 U U (fun _ _ _=>cr U) (cd kr ?_))
         exact hk1 _ ⟨U,U,(cb (show true=(((((decide (y1.No < 0)||decide (1048576 < y1.No))||(decide (0 < ((i1:Nat):Int))&&decide (y1.No≤(nthI l (((i1:Nat):Int) - 1)).No)))||(!(dY y1.At)))||(!(dY y1.Known)))||((fF y1.Policy) != 0)) from by rw [c2,c3,c4,c5] <;> rfl)),trivial⟩
        ·have c5p:=of_decide_eq_false c5
         refine tf 24 U U (fun _ _ _=>dO ue U) (tf 25 U U (fun _ _ hj=>hY ty3 U (hj.nth (i:=0) U) U) (tn 26 U ?_))
         refine fU (v:=.bool (dY y1.At)) DX (lD h y1.At ) U (⟨jn,?_⟩)
         refine tf 27 U U (fun _ _ _=>kH U) (tf 28 U U (fun _ _ _=>cr U) (tm 29 U ?_))
         refine eI 47 U (fun c6=>?_) (fun c6=>?_)
         ·refine tk 30 U U (tk 31 U U (tk 32 U U (tk 33 U U ?_)))
          refine tf 34 U U (fun _ _ _=>cr U) (tm 35 U (tk 36 U U ?_))
          refine tk 37 U U (tk 38 U U (tk 39 U U (tf 40 U U (fun _ _ _=>cr U) ?_)))
          refine cd kr ?_
          exact hk1 _ ⟨U,U,(cb (show true=(((((decide (y1.No < 0)||decide (1048576 < y1.No))||(decide (0 < ((i1:Nat):Int))&&decide (y1.No≤(nthI l (((i1:Nat):Int) - 1)).No)))||(!(dY y1.At)))||(!(dY y1.Known)))||((fF y1.Policy) != 0)) from by rw [c2,c3,c4,c5,c6] <;> rfl)),trivial⟩
         ·refine tf 30 U U (fun _ _ _=>dO ud U) (tf 31 U U (fun _ _ hj=>hY ty3 U (hj.nth (i:=0) U) U) (tn 32 U ?_))
          refine fU (v:=.bool (dY y1.Known)) DX (lD h y1.Known ) U (⟨jn,?_⟩)
          refine tf 33 U U (fun _ _ _=>kH U) (tf 34 U U (fun _ _ _=>cr U) (tm 35 U ?_))
          refine eI 53 U (fun c7=>?_) (fun c7=>?_)
          ·refine tk 36 U U (tk 37 U U (tk 38 U U (tk 39 U U ?_)))
           refine tf 40 U U (fun _ _ _=>cr U) (cd kr ?_)
           exact hk1 _ ⟨U,U,(cb (show true=(((((decide (y1.No < 0)||decide (1048576 < y1.No))||(decide (0 < ((i1:Nat):Int))&&decide (y1.No≤(nthI l (((i1:Nat):Int) - 1)).No)))||(!(dY y1.At)))||(!(dY y1.Known)))||((fF y1.Policy) != 0)) from by rw [c2,c3,c4,c5,c6,c7] <;> rfl)),trivial⟩
          ·refine tf 36 U U (fun _ _ _=>dO qo U) (tf 37 U U (fun _ _ hj=>kZ ty68 U (hj.nth (i:=0) U) U) (tn 38 U ?_))
           refine fU (v:=I (fF y1.Policy)) Tryz.call116 (ri h y1.Policy r2.Policy ok2.Policy ob) U ?_
           refine ⟨jn,(tf 39 U U (fun _ _ _=>iH U) ?_)⟩
           refine tf 40 U U (fun _ _ _=>cr U) (cd kr ?_)
           exact hk1 _ ⟨U,U,(cb (show ((fF y1.Policy) != 0)=(((((decide (y1.No < 0)||decide (1048576 < y1.No))||(decide (0 < ((i1:Nat):Int))&&decide (y1.No≤(nthI l (((i1:Nat):Int) - 1)).No)))||(!(dY y1.At)))||(!(dY y1.Known)))||((fF y1.Policy) != 0)) from by rw [c2,c3,c4,c5,c6,c7] <;> rfl)),trivial⟩
       ·have c4p:=of_decide_eq_false c4
        refine tk 12 U U (tk 13 U U (tk 14 U U (tk 15 U U ?_)))
        refine tk 16 U U (tk 17 U U (tk 18 U U (tk 19 U U ?_)))
        refine tk 20 U U (tf 21 U U (fun _ _ _=>cr U) (tf 22 U U (fun _ _ _=>cr U) ?_))
        refine tm 23 U (tf 24 U U (fun _ _ _=>dO ue U) (tf 25 U U (fun _ _ hj=>hY ty3 U (hj.nth (i:=0) U) U) ?_))
        refine tn 26 U (fU (v:=.bool (dY y1.At)) DX (lD h y1.At ) U (⟨jn,?_⟩))
        refine tf 27 U U (fun _ _ _=>kH U) (tf 28 U U (fun _ _ _=>cr U) (tm 29 U ?_))
        refine eI 47 U (fun c8=>?_) (fun c8=>?_)
        ·refine tk 30 U U (tk 31 U U (tk 32 U U (tk 33 U U ?_)))
         refine tf 34 U U (fun _ _ _=>cr U) (tm 35 U (tk 36 U U ?_))
         refine tk 37 U U (tk 38 U U (tk 39 U U (tf 40 U U (fun _ _ _=>cr U) ?_)))
         refine cd kr ?_
         exact hk1 _ ⟨U,U,(cb (show true=(((((decide (y1.No < 0)||decide (1048576 < y1.No))||(decide (0 < ((i1:Nat):Int))&&decide (y1.No≤(nthI l (((i1:Nat):Int) - 1)).No)))||(!(dY y1.At)))||(!(dY y1.Known)))||((fF y1.Policy) != 0)) from by rw [c2,c3,c4,c8] <;> rfl)),trivial⟩
        ·refine tf 30 U U (fun _ _ _=>dO ud U) (tf 31 U U (fun _ _ hj=>hY ty3 U (hj.nth (i:=0) U) U) (tn 32 U ?_))
         refine fU (v:=.bool (dY y1.Known)) DX (lD h y1.Known ) U (⟨jn,?_⟩)
         refine tf 33 U U (fun _ _ _=>kH U) (tf 34 U U (fun _ _ _=>cr U) (tm 35 U ?_))
         refine eI 53 U (fun c9=>?_) (fun c9=>?_)
         ·refine tk 36 U U (tk 37 U U (tk 38 U U (tk 39 U U ?_)))
          refine tf 40 U U (fun _ _ _=>cr U) (cd kr ?_)
          exact hk1 _ ⟨U,U,(cb (show true=(((((decide (y1.No < 0)||decide (1048576 < y1.No))||(decide (0 < ((i1:Nat):Int))&&decide (y1.No≤(nthI l (((i1:Nat):Int) - 1)).No)))||(!(dY y1.At)))||(!(dY y1.Known)))||((fF y1.Policy) != 0)) from by rw [c2,c3,c4,c8,c9] <;> rfl)),trivial⟩
         ·refine tf 36 U U (fun _ _ _=>dO qo U) (tf 37 U U (fun _ _ hj=>kZ ty68 U (hj.nth (i:=0) U) U) (tn 38 U ?_))
          refine fU (v:=I (fF y1.Policy)) Tryz.call116 (ri h y1.Policy r2.Policy ok2.Policy ob) U ?_
          refine ⟨jn,(tf 39 U U (fun _ _ _=>iH U) ?_)⟩
          refine tf 40 U U (fun _ _ _=>cr U) (cd kr ?_)
          exact hk1 _ ⟨U,U,(cb (show ((fF y1.Policy) != 0)=(((((decide (y1.No < 0)||decide (1048576 < y1.No))||(decide (0 < ((i1:Nat):Int))&&decide (y1.No≤(nthI l (((i1:Nat):Int) - 1)).No)))||(!(dY y1.At)))||(!(dY y1.Known)))||((fF y1.Policy) != 0)) from by rw [c2,c3,c4,c8,c9] <;> rfl)),trivial⟩
    refine aB U (fun c10=>?_) (fun c10=>?_)
    ·have hs8:=hs6.trans (bt c10)
     refine sr (an ?_)
     exact ar [I 200] Df U hX rd (ci hs8)
    ·have hs10:=hs6.trans (bf c10)
     refine ai (ao (ah (aa (az (v':=I (((i1+1):Nat):Int)) U (bP ob) (an ?_)))))
     refine cE (L':=[]) js ?_
     exact ag1 ((i1+1),rz1) _ (Nat.lt_succ_self _) ⟨bF hd1,aP hd1,hs10⟩ rd
theorem yO (h:HF) (t:Int)  : Ret Tryz.prog 191 [I t] h (.bool (jL t)):=by
 refine aw Tryz.func191 U Tryz.ntmps191 U fun X hM hX=>?_
 have hs0:jL t=jL t:=rfl
 refine sr (an (sr (aa (aF U (aa ?_)))))
 refine tq 3 [(8,.bool (decide (0≤t)&&decide (t < 1099511627776)))] (fun hk1=>?_) (fun e=>?_)
 ·refine au 5 U (fun c1=>?_) (fun c1=>?_)
  ·refine aa (aF U (ae U ?_))
   exact hk1 _ ⟨(cb (cY c1)),trivial⟩
  ·refine kq (ae U ?_)
   exact hk1 _ ⟨(cb (cZ c1)),trivial⟩
 refine an ?_
 exact ar [.bool (decide (0≤t)&&decide (t < 1099511627776))] Tryz.func191 U hX rd (cs hs0)
theorem pb (h:HF) (l:(List Int)) (fc:Option Addr) (fb:Nat) (limit:Int) (hl:SlC Rp.int h fc fb l):Ret Tryz.prog 192 [.slice fc l.length fb,I limit] h (.bool (dZ l limit)):=by
 refine aw Tryz.func192 U Tryz.ntmps192 U fun X hM hX=>?_
 have hs0:dZ l limit=dZ l limit:=rfl
 refine sr (an (ad (sr (an ?_))))
 refine bq (ι:=Nat) (fun i=>[(0,.slice fc l.length fb)]) (fun i=>h) (fun i=>[]) (fun i=>i≤l.length∧dZ l limit=((dZ.K1 l))) ?_ (fun hx1=>?_)
 ·rintro i1 ⟨bd,hs1⟩ e
  try dsimp only at bd
  try dsimp only
  refine sr (aa (bE eG U (aF U (an ?_))))
  exact ar [.bool (decide (((l.length:Nat):Int)≤16))] Tryz.func192 U hX rd (cs hs1)
 ·refine ck (ι:=Nat×List Int) (fun i=>[(0,.slice fc l.length fb),(1,I limit),(5,I ((i.1:Nat):Int))]) (fun i=>h) (fun i=>[]) (fun i=>l.drop i.1=i.2∧i.1≤l.length∧dZ l limit=((dZ.L1 l limit (dZ.K1 l)) i.2 i.1)) (fun i=>i.2.length) (0,l) rd sw ⟨U,Nat.zero_le _,hs0⟩ ?_
  rintro ⟨i1,s1⟩ ⟨hd1,bd,hs3⟩ ag1 e
  try dsimp only at hd1 bd
  rcases s1 with _ | ⟨y1,rz1⟩
  ·have dJ:=cS hd1
   try dsimp only
   refine ad (sr (aa (aa (bE eG U (az (v':=.bool false) U (cb dJ) (ac (ba U (bM U ?_))))))))
   exact hx1 i1 _ ⟨bd,hs3⟩ rd
  ·have dI:=dV hd1
   have bh:=cU hd1
   have e9:=aP hd1
   have gO:=hl.1.1
   try dsimp only
   refine ad (sr (aa (aa (bE eG U (az (v':=.bool true) U (cb dI) (ac (bj U (ai (ad (aU (ad ?_)))))))))))
   refine mL [(0,.slice fc l.length fb),(1,I limit),(5,I ((i1:Nat):Int)),(40,.bool ((decide (y1 < 0)||decide (limit≤y1))||(decide (0 < ((i1:Nat):Int))&&decide (y1≤(nthI l (((i1:Nat):Int) - 1))))))] (fun e=>?_) (fun hk1=>?_)
   rotate_left
   ·refine gr ([]) mixed kr jn (fun fd _=>?_)
    refine tm 0 U (tm 1 U (fR 2 (enc:=fun y=>[I y]) fd jn (fun _ _ _ e=>e) eG ty3 hl.1 (nthZ bh) (bA bh) U U U U kr (fun q3 A3=>?_)))
    refine tf 3 U U (fun _ _ hj=>gu ty3 (A3.mono hj.1) U) (tf 4 U U (fun _ _ _=>iH U) (tm 5 U ?_))
    refine eI 17 U (fun c1=>?_) (fun c1=>?_)
    ·have c1p:=of_decide_eq_true c1
     refine tk 6 U U (tk 7 U U (tk 8 U U (tk 9 U U ?_)))
     refine tk 10 U U (tk 11 U U (tf 12 U U (fun _ _ _=>cr U) (tm 13 U ?_)))
     refine tk 14 U U (tk 15 U U (tk 16 U U (tk 17 U U ?_)))
     refine tk 18 U U (tk 19 U U (tk 20 U U (tk 21 U U ?_)))
     refine tk 22 U U (tk 23 U U (tk 24 U U (tk 25 U U ?_)))
     refine tk 26 U U (tk 27 U U (tf 28 U U (fun _ _ _=>cr U) (cd kr ?_)))
     exact hk1 _ ⟨U,U,U,(cb (show true=((decide (y1 < 0)||decide (limit≤y1))||(decide (0 < ((i1:Nat):Int))&&decide (y1≤(nthI l (((i1:Nat):Int) - 1))))) from by rw [c1] <;> rfl)),trivial⟩
    ·have c1p:=of_decide_eq_false c1
     refine tm 6 U (tm 7 U (fR 8 (enc:=fun y=>[I y]) fd jn (fun _ _ _ e=>e) eG ty3 hl.1 (nthZ bh) (bA bh) U U U U kr (fun q4 A4=>?_)))
     refine tf 9 U U (fun _ _ hj=>gu ty3 (A4.mono hj.1) U) (tm 10 U (tf 11 U U (fun _ _ _=>iH U) ?_))
     refine tf 12 U U (fun _ _ _=>cr U) (tm 13 U ?_)
     refine eI 25 U (fun c2=>?_) (fun c2=>?_)
     ·have c2p:=of_decide_eq_true c2
      refine tk 14 U U (tk 15 U U (tk 16 U U (tk 17 U U ?_)))
      refine tk 18 U U (tk 19 U U (tk 20 U U (tk 21 U U ?_)))
      refine tk 22 U U (tk 23 U U (tk 24 U U (tk 25 U U ?_)))
      refine tk 26 U U (tk 27 U U (tf 28 U U (fun _ _ _=>cr U) (cd kr ?_)))
      exact hk1 _ ⟨U,U,U,(cb (show true=((decide (y1 < 0)||decide (limit≤y1))||(decide (0 < ((i1:Nat):Int))&&decide (y1≤(nthI l (((i1:Nat):Int) - 1))))) from by rw [c1,c2] <;> rfl)),trivial⟩
     ·have c2p:=of_decide_eq_false c2
      refine tm 14 U (tf 15 U U (fun _ _ _=>iH U) (tm 16 U ?_))
      refine eI 28 U (fun c3=>?_) (fun c3=>?_)
      ·have c3p:=of_decide_eq_true c3
       refine tm 17 U (tm 18 U (fR 19 (enc:=fun y=>[I y]) fd jn (fun _ _ _ e=>e) eG ty3 hl.1 (nthZ bh) (bA bh) U U U U kr (fun q5 A5=>?_)))
       refine tf 20 U U (fun _ _ hj=>gu ty3 (A5.mono hj.1) U) (tm 21 U (tm 22 U ?_))
       refine tf 23 U U (fun _ _ _=>nl (v':=I (((i1:Nat):Int) - 1)) U (iZ ob)) ?_
       have ho1:0≤((((i1:Nat):Int) - 1):Int)∧((((i1:Nat):Int) - 1):Int) < ((l).length:Int):=ob
       refine fR 24 (enc:=fun y=>[I y]) fd jn (fun _ _ _ e=>e) eG ty3 hl.1 ho1 (eN ho1) U U U U kr (fun q6 A6=>tf 25 U U (fun _ _ hj=>gu ty3 (A6.mono hj.1) U) ?_)
       refine tf 26 U U (fun _ _ _=>iH U) (tf 27 U U (fun _ _ _=>cr U) (tf 28 U U (fun _ _ _=>cr U) ?_))
       refine cd kr ?_
       exact hk1 _ ⟨U,U,U,(cb (show decide (y1≤(nthI l (((i1:Nat):Int) - 1)))=((decide (y1 < 0)||decide (limit≤y1))||(decide (0 < ((i1:Nat):Int))&&decide (y1≤(nthI l (((i1:Nat):Int) - 1))))) from by rw [c1,c2,c3] <;> rfl)),trivial⟩
      ·have c3p:=of_decide_eq_false c3
       refine tk 17 U U (tk 18 U U (tk 19 U U (tk 20 U U ?_)))
       refine tk 21 U U (tk 22 U U (tk 23 U U (tk 24 U U ?_)))
       refine tk 25 U U (tk 26 U U (tf 27 U U (fun _ _ _=>cr U) (tf 28 U U (fun _ _ _=>cr U) ?_)))
       refine cd kr ?_
       exact hk1 _ ⟨U,U,U,(cb (show false=((decide (y1 < 0)||decide (limit≤y1))||(decide (0 < ((i1:Nat):Int))&&decide (y1≤(nthI l (((i1:Nat):Int) - 1))))) from by rw [c1,c2,c3] <;> rfl)),trivial⟩
   refine aB U (fun c4=>?_) (fun c4=>?_)
   ·have hs5:=hs3.trans (bt c4)
    refine sr (an ?_)
    exact ar [.bool false] Tryz.func192 U hX rd (cs hs5)
   ·have hs7:=hs3.trans (bf c4)
    refine ai (ao (ah (aa (az (v':=I (((i1+1):Nat):Int)) U (bP ob) (an ?_)))))
    exact ag1 ((i1+1),rz1) _ (Nat.lt_succ_self _) ⟨bF hd1,aP hd1,hs7⟩ rd
end Go.Sg
namespace Go.Sg
open Go.Proofs
set_option maxHeartbeats 2000000
set_option maxRecDepth 100000
set_option linter.unusedVariables false
theorem xh (h:HF) (d:Document) (uY:ii) (hd:Document.ok h d uY):Ret Tryz.prog 117 [.agg (Document.cells d uY).toArray] h (.bool (gK d)):=by
 refine aw Tryz.func117 U Tryz.ntmps117 U fun X hM hX=>?_
 have hs0:gK d=gK d:=rfl
 refine sr (dC (fun b1=>an (ad (sr (ay kb U (aL 0 ty3 U U U (aF U (aa ?_))))))))
 refine tq 4 [(1,Q b1),(10,.bool (decide (d.No < 0)||decide (4096≤d.No)))] (fun hk1=>?_) (fun e=>?_)
 ·refine au 6 U (fun c1=>?_) (fun c1=>?_)
  ·refine kq (bY (ae U ?_))
   exact hk1 _ ⟨U,(cb (eB c1)),trivial⟩
  ·refine ay kb U (aL 0 ty3 U U U (aF U (ae U ?_)))
   exact hk1 _ ⟨U,(cb (eE c1)),trivial⟩
 refine aa ?_
 refine tq 5 [(1,Q b1),(16,.bool ((decide (d.No < 0)||decide (4096≤d.No))||(!(jL d.At))))] (fun hk2=>?_) (fun e=>?_)
 ·refine au 11 U (fun c2=>?_) (fun c2=>?_)
  ·refine kq (kq (ae U ?_))
   exact hk2 _ ⟨U,(cb (eB c2)),trivial⟩
  ·refine ay oW U (aL 0 ty3 U U U (aA (v:=.bool (jL d.At)) Tryz.call191 (yO h d.At ) U (cR U (ae U ?_))))
   exact hk2 _ ⟨U,(cb (eE c2)),trivial⟩
 refine aa ?_
 refine tq 4 [(1,Q b1),(21,.bool (((decide (d.No < 0)||decide (4096≤d.No))||(!(jL d.At)))||decide (d.Kind < 0)))] (fun hk3=>?_) (fun e=>?_)
 ·refine au 17 U (fun c3=>?_) (fun c3=>?_)
  ·refine kq (bY (ae U ?_))
   exact hk3 _ ⟨U,(cb (eB c3)),trivial⟩
  ·refine ay uj U (aL 0 ty3 U U U (aF U (ae U ?_)))
   exact hk3 _ ⟨U,(cb (eE c3)),trivial⟩
 refine aa ?_
 refine tq 4 [(1,Q b1),(26,.bool ((((decide (d.No < 0)||decide (4096≤d.No))||(!(jL d.At)))||decide (d.Kind < 0))||decide (16≤d.Kind)))] (fun hk4=>?_) (fun e=>?_)
 ·refine au 22 U (fun c4=>?_) (fun c4=>?_)
  ·refine kq (bY (ae U ?_))
   exact hk4 _ ⟨U,(cb (eB c4)),trivial⟩
  ·refine ay uj U (aL 0 ty3 U U U (aF U (ae U ?_)))
   exact hk4 _ ⟨U,(cb (eE c4)),trivial⟩
 refine aa ?_
 refine tq 4 [(1,Q b1),(31,.bool (((((decide (d.No < 0)||decide (4096≤d.No))||(!(jL d.At)))||decide (d.Kind < 0))||decide (16≤d.Kind))||decide (d.Value < 0)))] (fun hk5=>?_) (fun e=>?_)
 ·refine au 27 U (fun c5=>?_) (fun c5=>?_)
  ·refine kq (bY (ae U ?_))
   exact hk5 _ ⟨U,(cb (eB c5)),trivial⟩
  ·refine ay ui U (aL 0 ty3 U U U (aF U (ae U ?_)))
   exact hk5 _ ⟨U,(cb (eE c5)),trivial⟩
 refine aa ?_
 refine tq 4 [(1,Q b1),(36,.bool ((((((decide (d.No < 0)||decide (4096≤d.No))||(!(jL d.At)))||decide (d.Kind < 0))||decide (16≤d.Kind))||decide (d.Value < 0))||decide (1099511627776 < d.Value)))] (fun hk6=>?_) (fun e=>?_)
 ·refine au 32 U (fun c6=>?_) (fun c6=>?_)
  ·refine kq (bY (ae U ?_))
   exact hk6 _ ⟨U,(cb (eB c6)),trivial⟩
  ·refine ay ui U (aL 0 ty3 U U U (aF U (ae U ?_)))
   exact hk6 _ ⟨U,(cb (eE c6)),trivial⟩
 refine ac ?_
 refine aB U (fun c7=>?_) (fun c7=>?_)
 ·have hs1:=hs0.trans (bt c7)
  refine sr (an ?_)
  exact ar [.bool false] Tryz.func117 U hX rd (cs hs1)
 ·have hs3:=hs0.trans (bf c7)
  refine ai (sr (ay wx U (aL 0 ty3 U U U (aF U (aa ?_)))))
  refine tq 6 [(1,Q b1),(46,.bool (decide (0≤d.From)&&decide (d.From < d.Until)))] (fun hk7=>?_) (fun e=>?_)
  ·refine au 40 U (fun c8=>?_) (fun c8=>?_)
   ·refine ay wx U (aL 0 ty3 U U U (ay sj U (aL 0 ty3 U U U (aF U (ae U ?_)))))
    exact hk7 _ ⟨U,(cb (cY c8)),trivial⟩
   ·refine kq (kq (bY (ae U ?_)))
    exact hk7 _ ⟨U,(cb (cZ c8)),trivial⟩
  refine aa ?_
  refine tq 4 [(1,Q b1),(51,.bool ((decide (0≤d.From)&&decide (d.From < d.Until))&&decide (d.Until≤1099511627776)))] (fun hk8=>?_) (fun e=>?_)
  ·refine au 47 U (fun c9=>?_) (fun c9=>?_)
   ·refine ay sj U (aL 0 ty3 U U U (aF U (ae U ?_)))
    exact hk8 _ ⟨U,(cb (cY c9)),trivial⟩
   ·refine kq (bY (ae U ?_))
    exact hk8 _ ⟨U,(cb (cZ c9)),trivial⟩
  refine aa ?_
  refine tq 4 [(1,Q b1),(56,.bool (((decide (0≤d.From)&&decide (d.From < d.Until))&&decide (d.Until≤1099511627776))&&(dZ d.Parties 1048577)))] (fun hk9=>?_) (fun e=>?_)
  ·refine au 52 U (fun c10=>?_) (fun c10=>?_)
   ·refine ay wv U (aL 0 ty31 U U U (aA (v:=.bool (dZ d.Parties 1048577)) Tryz.call192 (pb h d.Parties uY.jU uY.jT 1048577 hd.Parties) U (ae U ?_)))
    exact hk9 _ ⟨U,(cb (cY c10)),trivial⟩
   ·refine kq (bY (ae U ?_))
    exact hk9 _ ⟨U,(cb (cZ c10)),trivial⟩
  refine aa ?_
  refine tq 6 [(1,Q b1),(63,.bool ((((decide (0≤d.From)&&decide (d.From < d.Until))&&decide (d.Until≤1099511627776))&&(dZ d.Parties 1048577))&&(dZ d.Revokes d.No)))] (fun hk10=>?_) (fun e=>?_)
  ·refine au 57 U (fun c11=>?_) (fun c11=>?_)
   ·refine ay si U (aL 0 ty31 U U U (ay kb U (aL 0 ty3 U U U (aA (v:=.bool (dZ d.Revokes d.No)) Tryz.call192 (pb h d.Revokes uY.jy uY.jx d.No hd.Revokes) U (ae U ?_)))))
    exact hk10 _ ⟨U,(cb (cY c11)),trivial⟩
   ·refine kq (kq (bY (ae U ?_)))
    exact hk10 _ ⟨U,(cb (cZ c11)),trivial⟩
  refine aa ?_
  refine tq 6 [(70,.bool (((((decide (0≤d.From)&&decide (d.From < d.Until))&&decide (d.Until≤1099511627776))&&(dZ d.Parties 1048577))&&(dZ d.Revokes d.No))&&(dZ d.Needs d.No)))] (fun hk11=>?_) (fun e=>?_)
  ·refine au 64 U (fun c12=>?_) (fun c12=>?_)
   ·refine ay sg U (aL 0 ty31 U U U (ay kb U (aL 0 ty3 U U U (aA (v:=.bool (dZ d.Needs d.No)) Tryz.call192 (pb h d.Needs uY.kU uY.kT d.No hd.Needs) U (ae U ?_)))))
    exact hk11 _ ⟨(cb (cY c12)),trivial⟩
   ·refine kq (kq (bY (ae U ?_)))
    exact hk11 _ ⟨(cb (cZ c12)),trivial⟩
  refine an ?_
  exact ar [.bool (((((decide (0≤d.From)&&decide (d.From < d.Until))&&decide (d.Until≤1099511627776))&&(dZ d.Parties 1048577))&&(dZ d.Revokes d.No))&&(dZ d.Needs d.No))] Tryz.func117 U hX rd (cs hs3)
theorem yP (h:HF) (l:(List Document)) (fc:Option Addr) (fb:Nat) (no:Int) (hl:SlC Document.rp h fc fb l):Ret Tryz.prog 193 [.slice fc l.length fb,I no] h (I (f4 l no)):=by
 refine aw Tryz.func193 U Tryz.ntmps193 U fun X hM hX=>?_
 have hs0:f4 l no=f4 l no:=rfl
 refine sr (an (ad (sr (an ?_))))
 refine bq (ι:=Nat) (fun i=>[]) (fun i=>h) (fun i=>[]) (fun i=>i≤l.length∧f4 l no=((f4.K1))) ?_ (fun hx1=>?_)
 ·rintro i1 ⟨bd,hs1⟩ e
  try dsimp only at bd
  try dsimp only
  refine sr (an ?_)
  exact ar [I (-1)] Tryz.func193 U hX rd (ci hs1)
 ·refine ck (ι:=Nat×List Document) (fun i=>[(0,.slice fc l.length fb),(1,I no),(5,I ((i.1:Nat):Int))]) (fun i=>h) (fun i=>[]) (fun i=>l.drop i.1=i.2∧i.1≤l.length∧f4 l no=((f4.L1 no (f4.K1)) i.2 i.1)) (fun i=>i.2.length) (0,l) rd sw ⟨U,Nat.zero_le _,hs0⟩ ?_
  rintro ⟨i1,s1⟩ ⟨hd1,bd,hs3⟩ ag1 e
  try dsimp only at hd1 bd
  rcases s1 with _ | ⟨y1,rz1⟩
  ·have dJ:=cS hd1
   try dsimp only
   refine ad (sr (aa (aa (bE lB U (az (v':=.bool false) U (cb dJ) (ac (ba U (bM U ?_))))))))
   exact hx1 i1 _ ⟨bd,hs3⟩ trivial
  ·have dI:=dV hd1
   have bh:=cU hd1
   have e9:=aP hd1
   have gO:=hl.1.1
   try dsimp only
   refine ad (sr (aa (aa (bE lB U (az (v':=.bool true) U (cb dI) (ac (bj U (ai (ad (aU (sr (aa (aa (a8 (gX lB ty52 hl.1 (nthZ bh) (bA bh) U U U (fun q2 cs2 A2 ln2 rr2=>?_))))))))))))))))
   obtain ⟨r2,rfl,ok2⟩:=rr2
   refine ay kb U (eM ty3 A2 U (aa (aF U (ac ?_))))
   refine aB U (fun c2=>?_) (fun c2=>?_)
   ·have hs5:=hs3.trans (bt c2)
    refine sr (aa (an ?_))
    exact ar [I ((i1:Nat):Int)] Tryz.func193 U hX rd (ci hs5)
   ·have hs7:=hs3.trans (bf c2)
    refine ai (ao (ah (aa (az (v':=I (((i1+1):Nat):Int)) U (bP ob) (an ?_)))))
    exact ag1 ((i1+1),rz1) _ (Nat.lt_succ_self _) ⟨bF hd1,aP hd1,hs7⟩ rd
theorem ml (h:HF) (l:(List Document)) (fc:Option Addr) (fb:Nat) (nos:(List Int)) (GB:Option Addr) (GA:Nat) (hl:SlC Document.rp h fc fb l) (hnos:SlC Rp.int h GB GA nos):Ret Tryz.prog 118 [.slice fc l.length fb,.slice GB nos.length GA] h (.bool (cW l nos)):=by
 refine aw Tryz.func118 U Tryz.ntmps118 U fun X hM hX=>?_
 have hs0:cW l nos=cW l nos:=rfl
 refine sr (an (ad (sr (an ?_))))
 refine bq (ι:=Nat) (fun i=>[]) (fun i=>h) (fun i=>[]) (fun i=>i≤nos.length∧cW l nos=((cW.K1))) ?_ (fun hx1=>?_)
 ·rintro i1 ⟨bd,hs1⟩ e
  try dsimp only at bd
  try dsimp only
  refine sr (an ?_)
  exact ar [.bool true] Tryz.func118 U hX rd (cs hs1)
 ·refine ck (ι:=Nat×List Int) (fun i=>[(0,.slice fc l.length fb),(1,.slice GB nos.length GA),(5,I ((i.1:Nat):Int))]) (fun i=>h) (fun i=>[]) (fun i=>nos.drop i.1=i.2∧i.1≤nos.length∧cW l nos=((cW.L1 l (cW.K1)) i.2 )) (fun i=>i.2.length) (0,nos) rd sw ⟨U,Nat.zero_le _,hs0⟩ ?_
  rintro ⟨i1,s1⟩ ⟨hd1,bd,hs3⟩ ag1 e
  try dsimp only at hd1 bd
  rcases s1 with _ | ⟨y1,rz1⟩
  ·have dJ:=cS hd1
   try dsimp only
   refine ad (sr (aa (aa (bE eG U (az (v':=.bool false) U (cb dJ) (ac (ba U (bM U ?_))))))))
   exact hx1 i1 _ ⟨bd,hs3⟩ trivial
  ·have dI:=dV hd1
   have bh:=cU hd1
   have e9:=aP hd1
   have gO:=hnos.1.1
   try dsimp only
   refine ad (sr (aa (aa (bE eG U (az (v':=.bool true) U (cb dI) (ac (bj U (ai (ad (aU (sr (aa (aa (aa (a8 (fZ (enc:=fun y=>[I y]) (fun _ _ _ e=>e) eG ty3 hnos.1 (nthZ bh) (bA bh) U U U (fun q2 A2=>?_)))))))))))))))))
   refine eM ty3 A2 U (aA (v:=I (f4 l y1)) Tryz.call193 (yP h l fc fb y1 hl) U (aF U (ac ?_)))
   refine aB U (fun c2=>?_) (fun c2=>?_)
   ·have c2p:=of_decide_eq_true c2
    have hs5:=hs3.trans (bt c2)
    refine sr (an ?_)
    exact ar [.bool false] Tryz.func118 U hX rd (cs hs5)
   ·have c2p:=of_decide_eq_false c2
    have hs7:=hs3.trans (bf c2)
    refine ai (ao (ah (aa (az (v':=I (((i1+1):Nat):Int)) U (bP ob) (an ?_)))))
    exact ag1 ((i1+1),rz1) _ (Nat.lt_succ_self _) ⟨bF hd1,aP hd1,hs7⟩ rd
theorem xi (h:HF) (l:(List Document)) (fc:Option Addr) (fb:Nat) (hl:SlC Document.rp h fc fb l):Ret Tryz.prog 72 [.slice fc l.length fb] h (I (eR l)):=by
 refine aw De U Tryz.ntmps72 U fun X hM hX=>?_
 have hs0:eR l=eR l:=rfl
 refine sr (an (ad (sr (aa (bE lB U (aF U (ac ?_)))))))
 refine aB U (fun c1=>?_) (fun c1=>?_)
 ·have c1p:=of_decide_eq_true c1
  have hs1:=hs0.trans (bt c1)
  refine sr (an ?_)
  exact ar [I 2] De U hX rd (ci hs1)
 ·have c1p:=of_decide_eq_false c1
  have hs3:=hs0.trans (bf c1)
  refine ai (ad (sr (an ?_)))
  refine bq (ι:=Nat) (fun i=>[]) (fun i=>h) (fun i=>[]) (fun i=>i≤l.length∧eR l=((eR.K1))) ?_ (fun hx1=>?_)
  ·rintro i1 ⟨bd,hs4⟩ e
   try dsimp only at bd
   try dsimp only
   refine sr (an ?_)
   exact ar [I 0] De U hX rd (ci hs4)
  ·refine ck (ι:=Nat×List Document) (fun i=>[(0,.slice fc l.length fb),(3,I ((i.1:Nat):Int))]) (fun i=>h) (fun i=>[]) (fun i=>l.drop i.1=i.2∧i.1≤l.length∧eR l=((eR.L1 l (eR.K1)) i.2 i.1)) (fun i=>i.2.length) (0,l) rd sw ⟨U,Nat.zero_le _,hs3⟩ ?_
   rintro ⟨i1,s1⟩ ⟨hd1,bd,hs6⟩ ag1 e
   try dsimp only at hd1 bd
   rcases s1 with _ | ⟨y1,rz1⟩
   ·have dJ:=cS hd1
    try dsimp only
    refine ad (sr (aa (aa (bE lB U (az (v':=.bool false) U (cb dJ) (ac (ba U (bM U ?_))))))))
    exact hx1 i1 _ ⟨bd,hs6⟩ trivial
   ·have dI:=dV hd1
    have bh:=cU hd1
    have e9:=aP hd1
    have gO:=hl.1.1
    try dsimp only
    refine ad (sr (aa (aa (bE lB U (az (v':=.bool true) U (cb dI) (ac (bj U (ai (ad (aU (ad ?_)))))))))))
    refine mL [(0,.slice fc l.length fb),(3,I ((i1:Nat):Int)),(56,.bool ((((!(gK y1))||(decide (0 < ((i1:Nat):Int))&&decide (y1.No≤(nthI l (((i1:Nat):Int) - 1)).No)))||(!(cW l y1.Revokes)))||(!(cW l y1.Needs))))] (fun e=>?_) (fun hk1=>?_)
    rotate_left
    ·refine gr ([]) mixed kr jn (fun fd _=>?_)
     refine tm 0 U (tm 1 U (jC 2 fd jn lB ty52 hl.1 (nthZ bh) (bA bh) U U U U kr (fun q4 cs4 A4 ln4 rr4=>?_)))
     obtain ⟨r4,rfl,ok4⟩:=rr4
     refine tf 3 U U (fun _ _ hj=>j8 ty52 (A4.mono hj.1) U U) (tn 4 U (fU (v:=.bool (gK y1)) Tryz.call117 (xh h y1 r4 ok4) U (⟨jn,?_⟩)))
     refine tf 5 U U (fun _ _ _=>kH U) (tm 6 U ?_)
     refine eI 19 U (fun c2=>?_) (fun c2=>?_)
     ·refine tk 7 U U (tk 8 U U (tk 9 U U (tk 10 U U ?_)))
      refine tk 11 U U (tk 12 U U (tk 13 U U (tk 14 U U ?_)))
      refine tk 15 U U (tk 16 U U (tk 17 U U (tk 18 U U ?_)))
      refine tk 19 U U (tk 20 U U (tk 21 U U (tk 22 U U ?_)))
      refine tf 23 U U (fun _ _ _=>cr U) (tm 24 U (tk 25 U U ?_))
      refine tk 26 U U (tk 27 U U (tk 28 U U (tk 29 U U ?_)))
      refine tk 30 U U (tk 31 U U (tk 32 U U (tf 33 U U (fun _ _ _=>cr U) ?_)))
      refine tm 34 U (tk 35 U U (tk 36 U U (tk 37 U U ?_)))
      refine tk 38 U U (tk 39 U U (tk 40 U U (tk 41 U U ?_)))
      refine tk 42 U U (tf 43 U U (fun _ _ _=>cr U) (cd kr ?_))
      exact hk1 _ ⟨U,U,(cb (show true=((((!(gK y1))||(decide (0 < ((i1:Nat):Int))&&decide (y1.No≤(nthI l (((i1:Nat):Int) - 1)).No)))||(!(cW l y1.Revokes)))||(!(cW l y1.Needs))) from by rw [c2] <;> rfl)),trivial⟩
     ·refine tm 7 U (tf 8 U U (fun _ _ _=>iH U) (tm 9 U ?_))
      refine eI 22 U (fun c3=>?_) (fun c3=>?_)
      ·have c3p:=of_decide_eq_true c3
       refine tm 10 U (tm 11 U (jC 12 fd jn lB ty52 hl.1 (nthZ bh) (bA bh) U U U U kr (fun q5 cs5 A5 ln5 rr5=>?_)))
       obtain ⟨r5,rfl,ok5⟩:=rr5
       refine tf 13 U U (fun _ _ _=>dO kb U) (tf 14 U U (fun _ _ hj=>gu ty3 (A5.mono hj.1) U) (tm 15 U ?_))
       refine tm 16 U (tf 17 U U (fun _ _ _=>nl (v':=I (((i1:Nat):Int) - 1)) U (iZ ob)) ?_)
       have ho2:0≤((((i1:Nat):Int) - 1):Int)∧((((i1:Nat):Int) - 1):Int) < ((l).length:Int):=ob
       refine jC 18 fd jn lB ty52 hl.1 ho2 (eN ho2) U U U U kr (fun q6 cs6 A6 ln6 rr6=>?_)
       obtain ⟨r6,rfl,ok6⟩:=rr6
       refine tf 19 U U (fun _ _ _=>dO kb U) (tf 20 U U (fun _ _ hj=>gu ty3 (A6.mono hj.1) U) (tf 21 U U (fun _ _ _=>iH U) ?_))
       refine tf 22 U U (fun _ _ _=>cr U) (tf 23 U U (fun _ _ _=>cr U) (tm 24 U ?_))
       refine eI 37 U (fun c4=>?_) (fun c4=>?_)
       ·have c4p:=of_decide_eq_true c4
        refine tk 25 U U (tk 26 U U (tk 27 U U (tk 28 U U ?_)))
        refine tk 29 U U (tk 30 U U (tk 31 U U (tk 32 U U ?_)))
        refine tf 33 U U (fun _ _ _=>cr U) (tm 34 U (tk 35 U U ?_))
        refine tk 36 U U (tk 37 U U (tk 38 U U (tk 39 U U ?_)))
        refine tk 40 U U (tk 41 U U (tk 42 U U (tf 43 U U (fun _ _ _=>cr U) ?_)))
        refine cd kr ?_
        exact hk1 _ ⟨U,U,(cb (show true=((((!(gK y1))||(decide (0 < ((i1:Nat):Int))&&decide (y1.No≤(nthI l (((i1:Nat):Int) - 1)).No)))||(!(cW l y1.Revokes)))||(!(cW l y1.Needs))) from by rw [c2,c3,c4] <;> rfl)),trivial⟩
       ·have c4p:=of_decide_eq_false c4
        refine tm 25 U (tm 26 U (tm 27 U ?_))
        refine jC 28 fd jn lB ty52 hl.1 (nthZ bh) (bA bh) U U U U kr (fun q7 cs7 A7 ln7 rr7=>?_)
        obtain ⟨r7,rfl,ok7⟩:=rr7
        refine tf 29 U U (fun _ _ _=>dO si U) (tf 30 U U (fun _ _ hj=>vv 7 ty31 (A7.mono hj.1) U U) (tn 31 U ?_))
        refine fU (v:=.bool (cW l y1.Revokes)) Dd (ml h l fc fb y1.Revokes r7.jy r7.jx hl ok7.Revokes) U (⟨jn,?_⟩)
        refine tf 32 U U (fun _ _ _=>kH U) (tf 33 U U (fun _ _ _=>cr U) (tm 34 U ?_))
        refine eI 47 U (fun c5=>?_) (fun c5=>?_)
        ·refine tk 35 U U (tk 36 U U (tk 37 U U (tk 38 U U ?_)))
         refine tk 39 U U (tk 40 U U (tk 41 U U (tk 42 U U ?_)))
         refine tf 43 U U (fun _ _ _=>cr U) (cd kr ?_)
         exact hk1 _ ⟨U,U,(cb (show true=((((!(gK y1))||(decide (0 < ((i1:Nat):Int))&&decide (y1.No≤(nthI l (((i1:Nat):Int) - 1)).No)))||(!(cW l y1.Revokes)))||(!(cW l y1.Needs))) from by rw [c2,c3,c4,c5] <;> rfl)),trivial⟩
        ·refine tm 35 U (tm 36 U (tm 37 U ?_))
         refine jC 38 fd jn lB ty52 hl.1 (nthZ bh) (bA bh) U U U U kr (fun q8 cs8 A8 ln8 rr8=>?_)
         obtain ⟨r8,rfl,ok8⟩:=rr8
         refine tf 39 U U (fun _ _ _=>dO sg U) (tf 40 U U (fun _ _ hj=>vv 8 ty31 (A8.mono hj.1) U U) (tn 41 U ?_))
         refine fU (v:=.bool (cW l y1.Needs)) Dd (ml h l fc fb y1.Needs r8.kU r8.kT hl ok8.Needs) U (⟨jn,?_⟩)
         refine tf 42 U U (fun _ _ _=>kH U) (tf 43 U U (fun _ _ _=>cr U) (cd kr ?_))
         exact hk1 _ ⟨U,U,(cb (show (!(cW l y1.Needs))=((((!(gK y1))||(decide (0 < ((i1:Nat):Int))&&decide (y1.No≤(nthI l (((i1:Nat):Int) - 1)).No)))||(!(cW l y1.Revokes)))||(!(cW l y1.Needs))) from by rw [c2,c3,c4,c5] <;> rfl)),trivial⟩
      ·have c3p:=of_decide_eq_false c3
       refine tk 10 U U (tk 11 U U (tk 12 U U (tk 13 U U ?_)))
       refine tk 14 U U (tk 15 U U (tk 16 U U (tk 17 U U ?_)))
       refine tk 18 U U (tk 19 U U (tk 20 U U (tk 21 U U ?_)))
       refine tf 22 U U (fun _ _ _=>cr U) (tf 23 U U (fun _ _ _=>cr U) (tm 24 U ?_))
       refine tm 25 U (tm 26 U (tm 27 U ?_))
       refine jC 28 fd jn lB ty52 hl.1 (nthZ bh) (bA bh) U U U U kr (fun q9 cs9 A9 ln9 rr9=>?_)
       obtain ⟨r9,rfl,ok9⟩:=rr9
       refine tf 29 U U (fun _ _ _=>dO si U) (tf 30 U U (fun _ _ hj=>vv 7 ty31 (A9.mono hj.1) U U) (tn 31 U ?_))
       refine fU (v:=.bool (cW l y1.Revokes)) Dd (ml h l fc fb y1.Revokes r9.jy r9.jx hl ok9.Revokes) U (⟨jn,?_⟩)
       refine tf 32 U U (fun _ _ _=>kH U) (tf 33 U U (fun _ _ _=>cr U) (tm 34 U ?_))
       refine eI 47 U (fun c6=>?_) (fun c6=>?_)
       ·refine tk 35 U U (tk 36 U U (tk 37 U U (tk 38 U U ?_)))
        refine tk 39 U U (tk 40 U U (tk 41 U U (tk 42 U U ?_)))
        refine tf 43 U U (fun _ _ _=>cr U) (cd kr ?_)
        exact hk1 _ ⟨U,U,(cb (show true=((((!(gK y1))||(decide (0 < ((i1:Nat):Int))&&decide (y1.No≤(nthI l (((i1:Nat):Int) - 1)).No)))||(!(cW l y1.Revokes)))||(!(cW l y1.Needs))) from by rw [c2,c3,c6] <;> rfl)),trivial⟩
       ·refine tm 35 U (tm 36 U (tm 37 U ?_))
        refine jC 38 fd jn lB ty52 hl.1 (nthZ bh) (bA bh) U U U U kr (fun q10 cs10 A10 ln10 rr10=>?_)
        obtain ⟨r10,rfl,ok10⟩:=rr10
        refine tf 39 U U (fun _ _ _=>dO sg U) (tf 40 U U (fun _ _ hj=>vv 8 ty31 (A10.mono hj.1) U U) (tn 41 U ?_))
        refine fU (v:=.bool (cW l y1.Needs)) Dd (ml h l fc fb y1.Needs r10.kU r10.kT hl ok10.Needs) U (⟨jn,?_⟩)
        refine tf 42 U U (fun _ _ _=>kH U) (tf 43 U U (fun _ _ _=>cr U) (cd kr ?_))
        exact hk1 _ ⟨U,U,(cb (show (!(cW l y1.Needs))=((((!(gK y1))||(decide (0 < ((i1:Nat):Int))&&decide (y1.No≤(nthI l (((i1:Nat):Int) - 1)).No)))||(!(cW l y1.Revokes)))||(!(cW l y1.Needs))) from by rw [c2,c3,c6] <;> rfl)),trivial⟩
    refine aB U (fun c7=>?_) (fun c7=>?_)
    ·have hs8:=hs6.trans (bt c7)
     refine sr (an ?_)
     exact ar [I 170] De U hX rd (ci hs8)
    ·have hs10:=hs6.trans (bf c7)
     refine ai (ao (ah (aa (az (v':=I (((i1+1):Nat):Int)) U (bP ob) (an ?_)))))
     exact ag1 ((i1+1),rz1) _ (Nat.lt_succ_self _) ⟨bF hd1,aP hd1,hs10⟩ rd
theorem jR (h:HF) (dN:Int) (most:Int)  : Ret Tryz.prog 194 [I dN,I most] h (.bool (dK dN most)):=by
 refine aw Tryz.func194 U Tryz.ntmps194 U fun X hM hX=>?_
 have hs0:dK dN most=dK dN most:=rfl
 refine sr (an (sr (aa (aF U (aa ?_)))))
 refine tq 4 [(11,.bool (decide (0≤dN)&&decide (dN≤most)))] (fun hk1=>?_) (fun e=>?_)
 ·refine au 7 U (fun c1=>?_) (fun c1=>?_)
  ·refine aa (aa (aF U (ae U ?_)))
   exact hk1 _ ⟨(cb (cY c1)),trivial⟩
  ·refine kq (bY (ae U ?_))
   exact hk1 _ ⟨(cb (cZ c1)),trivial⟩
 refine an ?_
 exact ar [.bool (decide (0≤dN)&&decide (dN≤most))] Tryz.func194 U hX rd (cs hs0)
theorem sN (h:HF) (dN:Int)  : Ret Tryz.prog 195 [I dN] h (.bool (i9 dN)):=by
 refine aw Tryz.func195 U Tryz.ntmps195 U fun X hM hX=>?_
 have hs0:i9 dN=i9 dN:=rfl
 refine sr (an (sr (aa (aA (v:=.bool (dK dN 1099511627775)) Be (jR h dN 1099511627775 ) U (an ?_)))))
 exact ar [.bool (dK dN 1099511627775)] Tryz.func195 U hX rd (cs hs0)
theorem Aq (h:HF) (dN:Int)  : Ret Tryz.prog 196 [I dN] h (.bool (mM dN)):=by
 refine aw Tryz.func196 U Tryz.ntmps196 U fun X hM hX=>?_
 have hs0:mM dN=mM dN:=rfl
 refine sr (an (sr (aa (aA (v:=.bool (dK dN 4095)) Be (jR h dN 4095 ) U (an ?_)))))
 exact ar [.bool (dK dN 4095)] Tryz.func196 U hX rd (cs hs0)
theorem w8 (h:HF) (x:Approval)  : Ret Tryz.prog 119 [.agg (Approval.cells x).toArray] h (.bool (im x)):=by
 refine aw Tryz.func119 U Tryz.ntmps119 U fun X hM hX=>?_
 have hs0:im x=im x:=rfl
 refine sr (dC (fun b1=>an (ad (sr (ay pG U (aL 0 ty3 U U U (aA (v:=.bool (dK x.No 1048576)) Be (jR h x.No 1048576 ) U (cR U (aa ?_)))))))))
 refine tq 5 [(1,Q b1),(12,.bool ((!(dK x.No 1048576))||(!(i9 x.At))))] (fun hk1=>?_) (fun e=>?_)
 ·refine au 7 U (fun c1=>?_) (fun c1=>?_)
  ·refine kq (kq (ae U ?_))
   exact hk1 _ ⟨U,(cb (eB c1)),trivial⟩
  ·refine ay CI U (aL 0 ty3 U U U (aA (v:=.bool (i9 x.At)) Tryz.call195 (sN h x.At ) U (cR U (ae U ?_))))
   exact hk1 _ ⟨U,(cb (eE c1)),trivial⟩
 refine aa ?_
 refine tq 5 [(1,Q b1),(18,.bool (((!(dK x.No 1048576))||(!(i9 x.At)))||(!(i9 x.Known))))] (fun hk2=>?_) (fun e=>?_)
 ·refine au 13 U (fun c2=>?_) (fun c2=>?_)
  ·refine kq (kq (ae U ?_))
   exact hk2 _ ⟨U,(cb (eB c2)),trivial⟩
  ·refine ay CH U (aL 0 ty3 U U U (aA (v:=.bool (i9 x.Known)) Tryz.call195 (sN h x.Known ) U (cR U (ae U ?_))))
   exact hk2 _ ⟨U,(cb (eE c2)),trivial⟩
 refine aa ?_
 refine tq 5 [(1,Q b1),(24,.bool ((((!(dK x.No 1048576))||(!(i9 x.At)))||(!(i9 x.Known)))||(!(mM x.Doc))))] (fun hk3=>?_) (fun e=>?_)
 ·refine au 19 U (fun c3=>?_) (fun c3=>?_)
  ·refine kq (kq (ae U ?_))
   exact hk3 _ ⟨U,(cb (eB c3)),trivial⟩
  ·refine ay CG U (aL 0 ty3 U U U (aA (v:=.bool (mM x.Doc)) Tryz.call196 (Aq h x.Doc ) U (cR U (ae U ?_))))
   exact hk3 _ ⟨U,(cb (eE c3)),trivial⟩
 refine ac ?_
 refine aB U (fun c4=>?_) (fun c4=>?_)
 ·have hs1:=hs0.trans (bt c4)
  refine sr (an ?_)
  exact ar [.bool false] Tryz.func119 U hX rd (cs hs1)
 ·have hs3:=hs0.trans (bf c4)
  refine ai (sr (ay CE U (aL 0 ty3 U U U (aA (v:=.bool (dK x.By 63)) Be (jR h x.By 63 ) U (aa ?_)))))
  refine tq 4 [(1,Q b1),(32,.bool ((dK x.By 63)&&(dK x.For 63)))] (fun hk4=>?_) (fun e=>?_)
  ·refine au 28 U (fun c5=>?_) (fun c5=>?_)
   ·refine ay CD U (aL 0 ty3 U U U (aA (v:=.bool (dK x.For 63)) Be (jR h x.For 63 ) U (ae U ?_)))
    exact hk4 _ ⟨U,(cb (cY c5)),trivial⟩
   ·refine kq (bY (ae U ?_))
    exact hk4 _ ⟨U,(cb (cZ c5)),trivial⟩
  refine aa ?_
  refine tq 4 [(37,.bool (((dK x.By 63)&&(dK x.For 63))&&(dK x.Office 31)))] (fun hk5=>?_) (fun e=>?_)
  ·refine au 33 U (fun c6=>?_) (fun c6=>?_)
   ·refine ay CC U (aL 0 ty3 U U U (aA (v:=.bool (dK x.Office 31)) Be (jR h x.Office 31 ) U (ae U ?_)))
    exact hk5 _ ⟨(cb (cY c6)),trivial⟩
   ·refine kq (bY (ae U ?_))
    exact hk5 _ ⟨(cb (cZ c6)),trivial⟩
  refine an ?_
  exact ar [.bool (((dK x.By 63)&&(dK x.For 63))&&(dK x.Office 31))] Tryz.func119 U hX rd (cs hs3)
end Go.Sg
namespace Go.Sg
open Go.Proofs
set_option maxHeartbeats 2000000
set_option maxRecDepth 100000
set_option linter.unusedVariables false
theorem w9 (h:HF) (l:(List Approval)) (fc:Option Addr) (fb:Nat) (hl:SlC Approval.rp h fc fb l):Ret Tryz.prog 73 [.slice fc l.length fb] h (I (fy l)):=by
 refine aw Dc U Tryz.ntmps73 U fun X hM hX=>?_
 have hs0:fy l=fy l:=rfl
 refine sr (an (ad (sr (aa (bE sH U (aF U (ac ?_)))))))
 refine aB U (fun c1=>?_) (fun c1=>?_)
 ·have c1p:=of_decide_eq_true c1
  have hs1:=hs0.trans (bt c1)
  refine sr (an ?_)
  exact ar [I 2] Dc U hX rd (ci hs1)
 ·have c1p:=of_decide_eq_false c1
  have hs3:=hs0.trans (bf c1)
  refine ai (ad (sr (an ?_)))
  refine bq (ι:=Nat) (fun i=>[]) (fun i=>h) (fun i=>[]) (fun i=>i≤l.length∧fy l=((fy.K1))) ?_ (fun hx1=>?_)
  ·rintro i1 ⟨bd,hs4⟩ e
   try dsimp only at bd
   try dsimp only
   refine sr (an ?_)
   exact ar [I 0] Dc U hX rd (ci hs4)
  ·refine ck (ι:=Nat×List Approval) (fun i=>[(0,.slice fc l.length fb),(3,I ((i.1:Nat):Int))]) (fun i=>h) (fun i=>[]) (fun i=>l.drop i.1=i.2∧i.1≤l.length∧fy l=((fy.L1 l (fy.K1)) i.2 i.1)) (fun i=>i.2.length) (0,l) rd sw ⟨U,Nat.zero_le _,hs3⟩ ?_
   rintro ⟨i1,s1⟩ ⟨hd1,bd,hs6⟩ ag1 e
   try dsimp only at hd1 bd
   rcases s1 with _ | ⟨y1,rz1⟩
   ·have dJ:=cS hd1
    try dsimp only
    refine ad (sr (aa (aa (bE sH U (az (v':=.bool false) U (cb dJ) (ac (ba U (bM U ?_))))))))
    exact hx1 i1 _ ⟨bd,hs6⟩ trivial
   ·have dI:=dV hd1
    have bh:=cU hd1
    have e9:=aP hd1
    have gO:=hl.1.1
    try dsimp only
    refine ad (sr (aa (aa (bE sH U (az (v':=.bool true) U (cb dI) (ac (bj U (ai (ad (aU (ad ?_)))))))))))
    refine mL [(0,.slice fc l.length fb),(3,I ((i1:Nat):Int)),(36,.bool ((!(im y1))||(decide (0 < ((i1:Nat):Int))&&decide (y1.No≤(nthI l (((i1:Nat):Int) - 1)).No))))] (fun e=>?_) (fun hk1=>?_)
    rotate_left
    ·refine gr ([]) mixed kr jn (fun fd _=>?_)
     refine tm 0 U (tm 1 U (fR 2 (enc:=Approval.cells) fd jn (fun _ _ _ e=>e) sH ty181 hl.1 (nthZ bh) (bA bh) U U U U kr (fun q4 A4=>?_)))
     refine tf 3 U U (fun _ _ hj=>j8 ty181 (A4.mono hj.1) U U) (tn 4 U (fU (v:=.bool (im y1)) Tryz.call119 (w8 h y1 ) U (⟨jn,?_⟩)))
     refine tf 5 U U (fun _ _ _=>kH U) (tm 6 U ?_)
     refine eI 19 U (fun c2=>?_) (fun c2=>?_)
     ·refine tk 7 U U (tk 8 U U (tk 9 U U (tk 10 U U ?_)))
      refine tk 11 U U (tk 12 U U (tk 13 U U (tk 14 U U ?_)))
      refine tk 15 U U (tk 16 U U (tk 17 U U (tk 18 U U ?_)))
      refine tk 19 U U (tk 20 U U (tk 21 U U (tk 22 U U ?_)))
      refine tf 23 U U (fun _ _ _=>cr U) (cd kr ?_)
      exact hk1 _ ⟨U,U,(cb (show true=((!(im y1))||(decide (0 < ((i1:Nat):Int))&&decide (y1.No≤(nthI l (((i1:Nat):Int) - 1)).No))) from by rw [c2] <;> rfl)),trivial⟩
     ·refine tm 7 U (tf 8 U U (fun _ _ _=>iH U) (tm 9 U ?_))
      refine eI 22 U (fun c3=>?_) (fun c3=>?_)
      ·have c3p:=of_decide_eq_true c3
       refine tm 10 U (tm 11 U (tf 12 U U (fun _ _ _=>nl (v':=I (((i1:Nat):Int) - 1)) U (iZ ob)) ?_))
       have ho2:0≤((((i1:Nat):Int) - 1):Int)∧((((i1:Nat):Int) - 1):Int) < ((l).length:Int):=ob
       refine fR 13 (enc:=Approval.cells) fd jn (fun _ _ _ e=>e) sH ty181 hl.1 ho2 (eN ho2) U U U U kr (fun q5 A5=>tf 14 U U (fun _ _ _=>dO pG U) ?_)
       refine tf 15 U U (fun _ _ hj=>gu ty3 (A5.mono hj.1) U) (tm 16 U (tm 17 U ?_))
       refine fR 18 (enc:=Approval.cells) fd jn (fun _ _ _ e=>e) sH ty181 hl.1 (nthZ bh) (bA bh) U U U U kr (fun q6 A6=>tf 19 U U (fun _ _ _=>dO pG U) ?_)
       refine tf 20 U U (fun _ _ hj=>gu ty3 (A6.mono hj.1) U) (tf 21 U U (fun _ _ _=>iH U) (tf 22 U U (fun _ _ _=>cr U) ?_))
       refine tf 23 U U (fun _ _ _=>cr U) (cd kr ?_)
       exact hk1 _ ⟨U,U,(cb (show decide (y1.No≤(nthI l (((i1:Nat):Int) - 1)).No)=((!(im y1))||(decide (0 < ((i1:Nat):Int))&&decide (y1.No≤(nthI l (((i1:Nat):Int) - 1)).No))) from by rw [c2,c3] <;> rfl)),trivial⟩
      ·have c3p:=of_decide_eq_false c3
       refine tk 10 U U (tk 11 U U (tk 12 U U (tk 13 U U ?_)))
       refine tk 14 U U (tk 15 U U (tk 16 U U (tk 17 U U ?_)))
       refine tk 18 U U (tk 19 U U (tk 20 U U (tk 21 U U ?_)))
       refine tf 22 U U (fun _ _ _=>cr U) (tf 23 U U (fun _ _ _=>cr U) (cd kr ?_))
       exact hk1 _ ⟨U,U,(cb (show false=((!(im y1))||(decide (0 < ((i1:Nat):Int))&&decide (y1.No≤(nthI l (((i1:Nat):Int) - 1)).No))) from by rw [c2,c3] <;> rfl)),trivial⟩
    refine aB U (fun c4=>?_) (fun c4=>?_)
    ·have hs8:=hs6.trans (bt c4)
     refine sr (an ?_)
     exact ar [I 280] Dc U hX rd (ci hs8)
    ·have hs10:=hs6.trans (bf c4)
     refine ai (ao (ah (aa (az (v':=I (((i1+1):Nat):Int)) U (bP ob) (an ?_)))))
     exact ag1 ((i1+1),rz1) _ (Nat.lt_succ_self _) ⟨bF hd1,aP hd1,hs10⟩ rd
theorem w5 (h:HF) (aT:Register) (aR:ep) (iX:Register.ok h aT aR) (hsm:smR aT):Ret Tryz.prog 31 [.agg (Register.cells aT aR).toArray] h (I (iV aT)):=by
 refine aw Db U Tryz.ntmps31 U fun X hM hX=>?_
 have hs0:iV aT=iV aT:=rfl
 have hsv:=hsm.vers
 refine sr (dC (fun b1=>an (ad (sr (ay nE U (aL 0 ty22 U U U (aA (v:=I (ey aT.Appoints)) Tryz.call67 (xm h aT.Appoints aR.gQ aR.gP iX.Appoints) U ?_)))))))
 refine aF U (aa ?_)
 refine tq 5 [(1,Q b1),(12,.bool (((ey aT.Appoints) != 0)||((fg aT.Deputies) != 0)))] (fun hk1=>?_) (fun e=>?_)
 ·refine au 7 U (fun c1=>?_) (fun c1=>?_)
  ·refine kq (kq (ae U ?_))
   exact hk1 _ ⟨U,(cb (eB c1)),trivial⟩
  ·refine ay wB U (aL 0 ty23 U U U (aA (v:=I (fg aT.Deputies)) Tryz.call68 (xk h aT.Deputies aR.fm aR.fj iX.Deputies) U (aF U (ae U ?_))))
   exact hk1 _ ⟨U,(cb (eE c1)),trivial⟩
 refine aa ?_
 refine tq 5 [(1,Q b1),(18,.bool ((((ey aT.Appoints) != 0)||((fg aT.Deputies) != 0))||((eQ aT.Interests) != 0)))] (fun hk2=>?_) (fun e=>?_)
 ·refine au 13 U (fun c2=>?_) (fun c2=>?_)
  ·refine kq (kq (ae U ?_))
   exact hk2 _ ⟨U,(cb (eB c2)),trivial⟩
  ·refine ay mV U (aL 0 ty24 U U U (aA (v:=I (eQ aT.Interests)) Tryz.call69 (w7 h aT.Interests aR.gN aR.gM iX.Interests) U (aF U (ae U ?_))))
   exact hk2 _ ⟨U,(cb (eE c2)),trivial⟩
 refine aa ?_
 refine tq 5 [(1,Q b1),(24,.bool (((((ey aT.Appoints) != 0)||((fg aT.Deputies) != 0))||((eQ aT.Interests) != 0))||((fA aT.Budgets) != 0)))] (fun hk3=>?_) (fun e=>?_)
 ·refine au 19 U (fun c3=>?_) (fun c3=>?_)
  ·refine kq (kq (ae U ?_))
   exact hk3 _ ⟨U,(cb (eB c3)),trivial⟩
  ·refine ay wA U (aL 0 ty25 U U U (aA (v:=I (fA aT.Budgets)) Tryz.call70 (xg h aT.Budgets aR.fJ aR.fI iX.Budgets) U (aF U (ae U ?_))))
   exact hk3 _ ⟨U,(cb (eE c3)),trivial⟩
 refine ac ?_
 refine aB U (fun c4=>?_) (fun c4=>?_)
 ·have hs1:=hs0.trans (bt c4)
  refine sr (an ?_)
  exact ar [I 300] Db U hX rd (ci hs1)
 ·have hs3:=hs0.trans (bf c4)
  refine ai (ad (sr (ay mA U (aL 0 ty26 U U U (aA (v:=I (dz aT.Versions)) Tryz.call71 (tX h aT.Versions aR.gq aR.gp iX.Versions ob) U ?_)))))
  refine aF U (aa ?_)
  refine tq 5 [(1,Q b1),(34,.bool (((dz aT.Versions) != 0)||((eR aT.Docs) != 0)))] (fun hk4=>?_) (fun e=>?_)
  ·refine au 29 U (fun c5=>?_) (fun c5=>?_)
   ·refine kq (kq (ae U ?_))
    exact hk4 _ ⟨U,(cb (eB c5)),trivial⟩
   ·refine ay lm U (aL 0 ty27 U U U (aA (v:=I (eR aT.Docs)) Tryz.call72 (xi h aT.Docs aR.iB aR.iA iX.Docs) U (aF U (ae U ?_))))
    exact hk4 _ ⟨U,(cb (eE c5)),trivial⟩
  refine aa ?_
  refine tq 5 [(40,.bool ((((dz aT.Versions) != 0)||((eR aT.Docs) != 0))||((fy aT.Approvals) != 0)))] (fun hk5=>?_) (fun e=>?_)
  ·refine au 35 U (fun c6=>?_) (fun c6=>?_)
   ·refine kq (kq (ae U ?_))
    exact hk5 _ ⟨(cb (eB c6)),trivial⟩
   ·refine ay wz U (aL 0 ty28 U U U (aA (v:=I (fy aT.Approvals)) Tryz.call73 (w9 h aT.Approvals aR.eY aR.eX iX.Approvals) U (aF U (ae U ?_))))
    exact hk5 _ ⟨(cb (eE c6)),trivial⟩
  refine ac ?_
  refine aB U (fun c7=>?_) (fun c7=>?_)
  ·have hs4:=hs3.trans (bt c7)
   refine sr (an ?_)
   exact ar [I 300] Db U hX rd (ci hs4)
  ·have hs6:=hs3.trans (bf c7)
   refine ai (sr (an ?_))
   exact ar [I 0] Db U hX rd (ci hs6)
theorem vW (h:HF) (who:(List Int)) (em:Option Addr) (el:Nat) (hwho:SlC Rp.int h em el who):Ret Tryz.prog 32 [.slice em who.length el] h (.bool (e5 who)):=by
 refine aw Tryz.func32 U Tryz.ntmps32 U fun X hM hX=>?_
 have hs0:e5 who=e5 who:=rfl
 refine sr (an (ad (sr (an ?_))))
 refine bq (ι:=Nat) (fun i=>[]) (fun i=>h) (fun i=>[]) (fun i=>i≤who.length∧e5 who=((e5.K1))) ?_ (fun hx1=>?_)
 ·rintro i1 ⟨bd,hs1⟩ e
  try dsimp only at bd
  try dsimp only
  refine sr (an ?_)
  exact ar [.bool true] Tryz.func32 U hX rd (cs hs1)
 ·refine ck (ι:=Nat×List Int) (fun i=>[(0,.slice em who.length el),(3,I ((i.1:Nat):Int))]) (fun i=>h) (fun i=>[]) (fun i=>who.drop i.1=i.2∧i.1≤who.length∧e5 who=((e5.L1 who (e5.K1)) i.2 i.1)) (fun i=>i.2.length) (0,who) rd sw ⟨U,Nat.zero_le _,hs0⟩ ?_
  rintro ⟨i1,s1⟩ ⟨hd1,bd,hs3⟩ ag1 e
  try dsimp only at hd1 bd
  rcases s1 with _ | ⟨y1,rz1⟩
  ·have dJ:=cS hd1
   try dsimp only
   refine ad (sr (aa (aa (bE eG U (az (v':=.bool false) U (cb dJ) (ac (ba U (bM U ?_))))))))
   exact hx1 i1 _ ⟨bd,hs3⟩ trivial
  ·have dI:=dV hd1
   have bh:=cU hd1
   have e9:=aP hd1
   have gO:=hwho.1.1
   try dsimp only
   refine ad (sr (aa (aa (bE eG U (az (v':=.bool true) U (cb dI) (ac (bj U (ai (ad (aU (ad ?_)))))))))))
   refine mL [(0,.slice em who.length el),(3,I ((i1:Nat):Int)),(37,.bool ((decide (y1 < 0)||decide (64≤y1))||(decide (0 < ((i1:Nat):Int))&&decide (y1≤(nthI who (((i1:Nat):Int) - 1))))))] (fun e=>?_) (fun hk1=>?_)
   rotate_left
   ·refine gr ([]) mixed kr jn (fun fd _=>?_)
    refine tm 0 U (tm 1 U (fR 2 (enc:=fun y=>[I y]) fd jn (fun _ _ _ e=>e) eG ty3 hwho.1 (nthZ bh) (bA bh) U U U U kr (fun q3 A3=>?_)))
    refine tf 3 U U (fun _ _ hj=>gu ty3 (A3.mono hj.1) U) (tf 4 U U (fun _ _ _=>iH U) (tm 5 U ?_))
    refine eI 15 U (fun c1=>?_) (fun c1=>?_)
    ·have c1p:=of_decide_eq_true c1
     refine tk 6 U U (tk 7 U U (tk 8 U U (tk 9 U U ?_)))
     refine tk 10 U U (tf 11 U U (fun _ _ _=>cr U) (tm 12 U ?_))
     refine tk 13 U U (tk 14 U U (tk 15 U U (tk 16 U U ?_)))
     refine tk 17 U U (tk 18 U U (tk 19 U U (tk 20 U U ?_)))
     refine tk 21 U U (tk 22 U U (tk 23 U U (tk 24 U U ?_)))
     refine tk 25 U U (tk 26 U U (tf 27 U U (fun _ _ _=>cr U) (cd kr ?_)))
     exact hk1 _ ⟨U,U,(cb (show true=((decide (y1 < 0)||decide (64≤y1))||(decide (0 < ((i1:Nat):Int))&&decide (y1≤(nthI who (((i1:Nat):Int) - 1))))) from by rw [c1] <;> rfl)),trivial⟩
    ·have c1p:=of_decide_eq_false c1
     refine tm 6 U (tm 7 U (fR 8 (enc:=fun y=>[I y]) fd jn (fun _ _ _ e=>e) eG ty3 hwho.1 (nthZ bh) (bA bh) U U U U kr (fun q4 A4=>?_)))
     refine tf 9 U U (fun _ _ hj=>gu ty3 (A4.mono hj.1) U) (tf 10 U U (fun _ _ _=>iH U) (tf 11 U U (fun _ _ _=>cr U) ?_))
     refine tm 12 U ?_
     refine eI 22 U (fun c2=>?_) (fun c2=>?_)
     ·have c2p:=of_decide_eq_true c2
      refine tk 13 U U (tk 14 U U (tk 15 U U (tk 16 U U ?_)))
      refine tk 17 U U (tk 18 U U (tk 19 U U (tk 20 U U ?_)))
      refine tk 21 U U (tk 22 U U (tk 23 U U (tk 24 U U ?_)))
      refine tk 25 U U (tk 26 U U (tf 27 U U (fun _ _ _=>cr U) (cd kr ?_)))
      exact hk1 _ ⟨U,U,(cb (show true=((decide (y1 < 0)||decide (64≤y1))||(decide (0 < ((i1:Nat):Int))&&decide (y1≤(nthI who (((i1:Nat):Int) - 1))))) from by rw [c1,c2] <;> rfl)),trivial⟩
     ·have c2p:=of_decide_eq_false c2
      refine tm 13 U (tf 14 U U (fun _ _ _=>iH U) (tm 15 U ?_))
      refine eI 25 U (fun c3=>?_) (fun c3=>?_)
      ·have c3p:=of_decide_eq_true c3
       refine tm 16 U (tm 17 U (fR 18 (enc:=fun y=>[I y]) fd jn (fun _ _ _ e=>e) eG ty3 hwho.1 (nthZ bh) (bA bh) U U U U kr (fun q5 A5=>?_)))
       refine tf 19 U U (fun _ _ hj=>gu ty3 (A5.mono hj.1) U) (tm 20 U (tm 21 U ?_))
       refine tf 22 U U (fun _ _ _=>nl (v':=I (((i1:Nat):Int) - 1)) U (iZ ob)) ?_
       have ho1:0≤((((i1:Nat):Int) - 1):Int)∧((((i1:Nat):Int) - 1):Int) < ((who).length:Int):=ob
       refine fR 23 (enc:=fun y=>[I y]) fd jn (fun _ _ _ e=>e) eG ty3 hwho.1 ho1 (eN ho1) U U U U kr (fun q6 A6=>tf 24 U U (fun _ _ hj=>gu ty3 (A6.mono hj.1) U) ?_)
       refine tf 25 U U (fun _ _ _=>iH U) (tf 26 U U (fun _ _ _=>cr U) (tf 27 U U (fun _ _ _=>cr U) ?_))
       refine cd kr ?_
       exact hk1 _ ⟨U,U,(cb (show decide (y1≤(nthI who (((i1:Nat):Int) - 1)))=((decide (y1 < 0)||decide (64≤y1))||(decide (0 < ((i1:Nat):Int))&&decide (y1≤(nthI who (((i1:Nat):Int) - 1))))) from by rw [c1,c2,c3] <;> rfl)),trivial⟩
      ·have c3p:=of_decide_eq_false c3
       refine tk 16 U U (tk 17 U U (tk 18 U U (tk 19 U U ?_)))
       refine tk 20 U U (tk 21 U U (tk 22 U U (tk 23 U U ?_)))
       refine tk 24 U U (tk 25 U U (tf 26 U U (fun _ _ _=>cr U) (tf 27 U U (fun _ _ _=>cr U) ?_)))
       refine cd kr ?_
       exact hk1 _ ⟨U,U,(cb (show false=((decide (y1 < 0)||decide (64≤y1))||(decide (0 < ((i1:Nat):Int))&&decide (y1≤(nthI who (((i1:Nat):Int) - 1))))) from by rw [c1,c2,c3] <;> rfl)),trivial⟩
   refine aB U (fun c4=>?_) (fun c4=>?_)
   ·have hs5:=hs3.trans (bt c4)
    refine sr (an ?_)
    exact ar [.bool false] Tryz.func32 U hX rd (cs hs5)
   ·have hs7:=hs3.trans (bf c4)
    refine ai (ao (ah (aa (az (v':=I (((i1+1):Nat):Int)) U (bP ob) (an ?_)))))
    exact ag1 ((i1+1),rz1) _ (Nat.lt_succ_self _) ⟨bF hd1,aP hd1,hs7⟩ rd
theorem xD (h:HF) (aT:Register) (aR:ep) (doc:Int) (who:(List Int)) (em:Option Addr) (el:Nat) (l:(List Int)) (fc:Option Addr) (fb:Nat) (iX:Register.ok h aT aR) (hwho:SlC Rp.int h em el who) (hl:SlC Rp.int h fc fb l) (hsm:smR aT):Ret Tryz.prog 17 [.agg (Register.cells aT aR).toArray,I doc,.slice em who.length el,.slice fc l.length fb] h (.bool (fB aT doc who l)):=by
 refine aw Tryz.func17 U Tryz.ntmps17 U fun X hM hX=>?_
 have hs0:fB aT doc who l=fB aT doc who l:=rfl
 refine sr (dC (fun b1=>an (ad (sr (aa (bE eG U (aa (ac ?_))))))))
 refine bq (ι:=Nat) (fun i=>[(1,I doc),(2,.slice em who.length el),(4,Q b1)]) (fun i=>h) (fun i=>[(b1,O (Register.cells aT aR) 30)]) (fun i=>i≤l.length∧fB aT doc who l=((fB.K1 aT doc who))) ?_ (fun hx1=>?_)
 ·rintro i1 ⟨bd,hs1⟩ e
  try dsimp only at bd
  try dsimp only
  refine sr (dh 0 ty30 U U U (aA (v:=.bool (ie aT)) Tryz.call9 (Ao h aT aR iX) U (aa ?_)))
  refine tq 4 [(1,I doc),(2,.slice em who.length el),(4,Q b1),(27,.bool ((ie aT)&&((iV aT)==0)))] (fun hk1=>?_) (fun e=>?_)
  ·refine au 23 U (fun c2=>?_) (fun c2=>?_)
   ·refine dh 0 ty30 U U U (aA (v:=I (iV aT)) Tryz.call31 (w5 h aT aR iX ob) U ?_)
    refine aF U (ae U ?_)
    exact hk1 _ ⟨U,U,U,(cb (cY c2)),trivial⟩
   ·refine kq (bY (ae U ?_))
    exact hk1 _ ⟨U,U,U,(cb (cZ c2)),trivial⟩
  refine aa ?_
  refine tq 5 [(2,.slice em who.length el),(33,.bool (((ie aT)&&((iV aT)==0))&&decide (0≤(dv aT doc))))] (fun hk2=>?_) (fun e=>?_)
  ·refine au 28 U (fun c3=>?_) (fun c3=>?_)
   ·refine dh 0 ty30 U U U (aa (aA (v:=I (dv aT doc)) Tryz.call19 (Ap h aT aR doc iX) U (aF U (ae U ?_))))
    exact hk2 _ ⟨U,(cb (cY c3)),trivial⟩
   ·refine kq (kq (ae U ?_))
    exact hk2 _ ⟨U,(cb (cZ c3)),trivial⟩
  refine aa ?_
  refine tq 3 [(37,.bool ((((ie aT)&&((iV aT)==0))&&decide (0≤(dv aT doc)))&&(e5 who)))] (fun hk3=>?_) (fun e=>?_)
  ·refine au 34 U (fun c4=>?_) (fun c4=>?_)
   ·refine aa (aA (v:=.bool (e5 who)) Tryz.call32 (vW h who em el hwho) U (ae U ?_))
    exact hk3 _ ⟨(cb (cY c4)),trivial⟩
   ·refine kq (ae U ?_)
    exact hk3 _ ⟨(cb (cZ c4)),trivial⟩
  refine an ?_
  exact ar [.bool ((((ie aT)&&((iV aT)==0))&&decide (0≤(dv aT doc)))&&(e5 who))] Tryz.func17 U hX rd (cs hs1)
 ·refine ck (ι:=Nat×List Int) (fun i=>[(1,I doc),(2,.slice em who.length el),(4,Q b1),(11,.slice fc l.length fb),(12,I ((l.length:Nat):Int)),(13,I ((i.1:Nat):Int))]) (fun i=>h) (fun i=>[(b1,O (Register.cells aT aR) 30)]) (fun i=>l.drop i.1=i.2∧i.1≤l.length∧fB aT doc who l=((fB.L1 (fB.K1 aT doc who)) i.2 )) (fun i=>i.2.length) (0,l) rd sw ⟨U,Nat.zero_le _,hs0⟩ ?_
  rintro ⟨i1,s1⟩ ⟨hd1,bd,hs3⟩ ag1 e
  try dsimp only at hd1 bd
  rcases s1 with _ | ⟨y1,rz1⟩
  ·have dJ:=cS hd1
   try dsimp only
   refine sr (az (v':=.bool false) U (cb dJ) (ac (ad (ba U (bM U ?_)))))
   exact hx1 i1 _ ⟨bd,hs3⟩ rd
  ·have dI:=dV hd1
   have bh:=cU hd1
   have e9:=aP hd1
   have gO:=hl.1.1
   try dsimp only
   refine sr (az (v':=.bool true) U (cb dI) (ac (ad (bj U (ai (ad (aU (sr (a8 (fZ (enc:=fun y=>[I y]) (fun _ _ _ e=>e) eG ty3 hl.1 (nthZ bh) (bA bh) U U U (fun q2 A2=>?_)))))))))))
   refine eM ty3 A2 U (an (sr (aa (aA (v:=.bool (dY y1)) DX (lD h y1 ) U (cR U (ac ?_))))))
   refine aB U (fun c5=>?_) (fun c5=>?_)
   ·have hs5:=hs3.trans (bt c5)
    refine sr (an ?_)
    exact ar [.bool false] Tryz.func17 U hX rd (cs hs5)
   ·have hs7:=hs3.trans (bf c5)
    refine ai (ao (ah (az (v':=I (((i1+1):Nat):Int)) U (bP ob) (aa (ac ?_)))))
    exact ag1 ((i1+1),rz1) _ (Nat.lt_succ_self _) ⟨bF hd1,aP hd1,hs7⟩ rd
theorem oR (h:HF) (s:(List Span)) (pP:Option Addr) (pi:Nat) (t:Int) (hs:SlC Span.rp h pP pi s):Ret Tryz.prog 20 [.slice pP s.length pi,I t] h (.bool (fo s t)):=by
 refine aw Tryz.func20 U Tryz.ntmps20 U fun X hM hX=>?_
 have hs0:fo s t=fo s t:=rfl
 refine sr (an (ad (sr (aa (bE mX U (aa (ac ?_)))))))
 refine bq (ι:=Nat) (fun i=>[]) (fun i=>h) (fun i=>[]) (fun i=>i≤s.length∧fo s t=((fo.K1))) ?_ (fun hx1=>?_)
 ·rintro i1 ⟨bd,hs1⟩ e
  try dsimp only at bd
  try dsimp only
  refine sr (an ?_)
  exact ar [.bool false] Tryz.func20 U hX rd (cs hs1)
 ·refine ck (ι:=Nat×List Span) (fun i=>[(1,I t),(7,.slice pP s.length pi),(8,I ((s.length:Nat):Int)),(9,I ((i.1:Nat):Int))]) (fun i=>h) (fun i=>[]) (fun i=>s.drop i.1=i.2∧i.1≤s.length∧fo s t=((fo.L1 t (fo.K1)) i.2 )) (fun i=>i.2.length) (0,s) rd sw ⟨U,Nat.zero_le _,hs0⟩ ?_
  rintro ⟨i1,s1⟩ ⟨hd1,bd,hs3⟩ ag1 e
  try dsimp only at hd1 bd
  rcases s1 with _ | ⟨y1,rz1⟩
  ·have dJ:=cS hd1
   try dsimp only
   refine sr (az (v':=.bool false) U (cb dJ) (ac (ad (ba U (bM U ?_)))))
   exact hx1 i1 _ ⟨bd,hs3⟩ trivial
  ·have dI:=dV hd1
   have bh:=cU hd1
   have e9:=aP hd1
   have gO:=hs.1.1
   try dsimp only
   refine sr (az (v':=.bool true) U (cb dI) (ac (ad (bj U (ai (ad (aU (sr (a8 (fZ (enc:=Span.cells) (fun _ _ _ e=>e) mX ty46 hs.1 (nthZ bh) (bA bh) U U U (fun q2 A2=>?_)))))))))))
   refine dT ty46 A2 U U (bT zc46 (fun b2=>bJ 0 ty46 U U U U U U (ac (sr (ay wy U (aL 0 ty3 U U U (aa (aF U (aa ?_)))))))))
   refine tq 5 [(1,I t),(7,.slice pP s.length pi),(8,I ((s.length:Nat):Int)),(9,I ((i1:Nat):Int)),(22,.bool (decide (y1.From≤t)&&decide (t < y1.Until)))] (fun hk1=>?_) (fun e=>?_)
   ·refine au 17 U (fun c1=>?_) (fun c1=>?_)
    ·refine aa (ay uk U (aL 0 ty3 U U U (aF U (ae U ?_))))
     exact hk1 _ ⟨U,U,U,U,(cb (cY c1)),trivial⟩
    ·refine kq (kq (ae U ?_))
     exact hk1 _ ⟨U,U,U,U,(cb (cZ c1)),trivial⟩
   refine ac ?_
   refine aB U (fun c2=>?_) (fun c2=>?_)
   ·have hs5:=hs3.trans (bt c2)
    refine sr (an ?_)
    exact ar [.bool true] Tryz.func20 U hX rd (cs hs5)
   ·have hs7:=hs3.trans (bf c2)
    refine ai (ao (ah (az (v':=I (((i1+1):Nat):Int)) U (bP ob) (aa (ac ?_)))))
    refine cE (L':=[]) js ?_
    exact ag1 ((i1+1),rz1) _ (Nat.lt_succ_self _) ⟨bF hd1,aP hd1,hs7⟩ rd
theorem AH (h:HF) (who:(List Int)) (em:Option Addr) (el:Nat) (pd:Int) (hwho:SlC Rp.int h em el who) (hsz0:who.length≤2000000):jP Tryz.prog 21 [.slice em who.length el,I pd] h (fun v h'=>∃ (rb0:Option Addr) (rc0:Nat),v=.slice rb0 (dr who pd).length rc0∧SlC Rp.int h' rb0 rc0 (dr who pd)):=by
 refine aw Tryz.func21 U Tryz.ntmps21 U fun X hM hX=>?_
 have hs0:dr who pd=dr who pd:=rfl
 refine sr (an (ad (sr (aa (bE eG U (aa (ac ?_)))))))
 refine bq (ι:=Nat×(List Int)×Option Addr×Nat×LH) (fun i=>[(1,I pd),(4,.slice i.2.2.1 i.2.1.length i.2.2.2.1)]) (fun i=>h) (fun i=>i.2.2.2.2) (fun i=>i.1≤who.length∧dr who pd=((dr.K1 pd) i.2.1)∧ei Rp.int 3 h i.2.1 i.2.2.1 i.2.2.2.1 i.2.2.2.2∧i.2.1.length≤0+i.1) ?_ (fun hx1=>?_)
 ·rintro ⟨i1,ku,oc,oa,pF⟩ ⟨bd,hs1,lr,rP⟩ e
  try dsimp only at bd lr rP
  try dsimp only
  refine sr (aa (aa (a8 (cf (cells:=[I pd]) eG ty3 zc3 U U kr (fun b4=>a8 (eK Rp.jY ([(b4,O [I pd] 3)]) ([]) (fun G=>[(b4,O [I pd] 3)]++(G)) ap (fun _=>ap) eG ty3 zc3 U bytes3 lr U U (ff 0 U (show bW Rp.int h [I pd] ([pd]) from ⟨[I pd],[],U,U,U,U⟩)) lo lo (fun ob5 oc5 G5 gr5=>?_)))))))
  refine an ?_
  refine gi Rp.cm ([(b4,O [I pd] 3)]) G5 ([]) ap hM gr5 (fun h3 hle3 sl4=>?_)
  have hs2:dr who pd=(ku++[pd]):=hs1
  exact dQ [.slice ob5 ((ku++[pd]).length) oc5] Tryz.func21 U rd ⟨ob5,oc5,congrArg (fun r:(List Int)=>(.slice ob5 r.length oc5:Value)) hs2.symm,(by rw [hs2];exact sl4)⟩
 ·refine ck (ι:=Nat×(List Int)×Option Addr×Nat×LH×List Int) (fun i=>[(0,.slice em who.length el),(1,I pd),(4,.slice i.2.2.1 i.2.1.length i.2.2.2.1),(7,.slice em who.length el),(8,I ((who.length:Nat):Int)),(9,I ((i.1:Nat):Int))]) (fun i=>h) (fun i=>i.2.2.2.2.1) (fun i=>who.drop i.1=i.2.2.2.2.2∧i.1≤who.length∧dr who pd=((dr.L1 who pd (dr.K1 pd)) i.2.2.2.2.2 i.1 i.2.1)∧ei Rp.int 3 h i.2.1 i.2.2.1 i.2.2.2.1 i.2.2.2.2.1∧i.2.1.length≤0+i.1) (fun i=>i.2.2.2.2.2.length) (0,[],none,0,[],who) rd sw ⟨U,Nat.zero_le _,hs0,ei.nil,lo⟩ ?_
  rintro ⟨i1,ku,oc,oa,pF,s1⟩ ⟨hd1,bd,hs3,lr,rP⟩ ag1 e
  try dsimp only at hd1 bd lr rP
  rcases s1 with _ | ⟨y1,rz1⟩
  ·have dJ:=cS hd1
   try dsimp only
   refine sr (az (v':=.bool false) U (cb dJ) (ac (ad (ba U (bM U ?_)))))
   exact hx1 (i1,ku,oc,oa,pF) _ ⟨bd,hs3,lr,lo⟩ rd
  ·have dI:=dV hd1
   have bh:=cU hd1
   have e9:=aP hd1
   have gO:=hwho.1.1
   try dsimp only
   refine sr (az (v':=.bool true) U (cb dI) (ac (ad (bj U (ai (ad (aU (sr (aa (a8 (fZ (enc:=fun y=>[I y]) (fun _ _ _ e=>e) eG ty3 hwho.1 (nthZ bh) (bA bh) U U U (fun q2 A2=>?_))))))))))))
   refine eM ty3 A2 U (bi (an (ad (sr (aa (aa (aF U (ac ?_))))))))
   refine aB U (fun c2=>?_) (fun c2=>?_)
   ·have c2p:=of_decide_eq_true c2
    have hs5:=hs3.trans (bt c2)
    refine ad ?_
    refine gr ([]) mixed kr jn (fun fd _=>?_)
    refine tm 0 U (tm 1 U (tm 4 U ?_))
    refine tm 5 U (E1 6 fd jn eG ty3 hwho.1 hwho.2 ob U U U U kr (fun sb2 sc2 sl5=>?_))
    refine tn 2 U (cf (cells:=[I pd]) eG ty3 zc3 U U kr (fun b5=>⟨jn,?_⟩))
    refine tn 3 U (eK Rp.jY ([(b5,O [I pd] 3)]) ([]) (fun G=>[(b5,O [I pd] 3)]++(G)) ap (fun _=>ap) eG ty3 zc3 U bytes3 lr U U (ff 0 U (show bW Rp.int h [I pd] ([pd]) from ⟨[I pd],[],U,U,U,U⟩)) lo lo (fun ob6 oc6 G6 gr6=>?_))
    refine ⟨jn,(tn 7 U (eK Rp.jY ([(b5,O [I pd] 3)]) ([]) (fun G=>[(b5,O [I pd] 3)]++(G)) ap (fun _=>ap) eG ty3 zc3 U bytes3 gr6 U U (s6 sl5.1) lo lo (fun ob7 oc7 G7 gr7=>?_)))⟩
    refine ⟨jn,(tf 8 U U (fun _ _ _=>gG) (cd kr ?_))⟩
    refine gi Rp.cm ([(b5,O [I pd] 3)]) G7 ([]) ap hM gr7 (fun h4 hle4 sl6=>?_)
    have hs6:dr who pd=((ku++[pd])++(who.drop ((((i1:Nat):Int):Int)).toNat)):=hs5
    exact dQ [.slice ob7 (((ku++[pd])++(who.drop ((((i1:Nat):Int):Int)).toNat)).length) oc7] Tryz.func21 U rd ⟨ob7,oc7,congrArg (fun r:(List Int)=>(.slice ob7 r.length oc7:Value)) hs6.symm,(by rw [hs6];exact sl6)⟩
   ·have c2p:=of_decide_eq_false c2
    have hs7:=hs3.trans (bf c2)
    refine ai (ah (aa (aa (a8 (cf (cells:=[I y1]) eG ty3 zc3 U U kr (fun b6=>a8 (eK Rp.jY ([(b6,O [I y1] 3)]) ([]) (fun G=>[(b6,O [I y1] 3)]++(G)) ap (fun _=>ap) eG ty3 zc3 U bytes3 lr U U (ff 0 U (show bW Rp.int h [I y1] ([y1]) from ⟨[I y1],[],U,U,U,U⟩)) lo lo (fun ob8 oc8 G8 gr8=>?_))))))))
    refine an (ao (ah (az (v':=I (((i1+1):Nat):Int)) U (bP ob) ?_)))
    refine aa (ac ?_)
    refine cE (L':=G8) js ?_
    exact ag1 ((i1+1),(ku++[y1]),ob8,oc8,G8,rz1) _ (Nat.lt_succ_self _) ⟨bF hd1,aP hd1,hs7,gr8,lo⟩ rd
end Go.Sg
