import Derived.Test.YtngiefchigcphaaGreatDoorW1
import Derived.Test.YtngiefchigcphaaGreatDoorW2
import Derived.Test.YtngiefchigcphaaGreatDoorW3
import Derived.Test.YtngiefchigcphaaGreatDoorW4
import Derived.Test.YtngiefchigcphaaGreatDoorW5
import Derived.Test.YtngiefchigcphaaGreatDoorW6
import Derived.Test.YtngiefchigcphaaGreatDoorW7
import Derived.Test.YtngiefchigcphaaGreatDoorW10
/- A part of the proof of the law AsofEvery: where what it reads holds at most 1048576 values and letters, the call returns true and its arguments read as they did. Conditions: that bound, and that the listed table starts as the program lays it. -/
set_option linter.unusedVariables false
set_option linter.unusedSimpArgs false
namespace Go.Sg
open Go.Proofs
set_option maxHeartbeats 2000000
set_option maxRecDepth 100000
set_option linter.unusedVariables false
theorem s9 (h:HF) (x:Approval)  : Ret Tryz.prog 107 [.agg (Approval.cells x).toArray] h (.bool (iL x)):=by
 refine ay Tryz.func107 U Tryz.ntmps107 U fun X hM hX=>?_
 have hs0:iL x=iL x:=rfl
 refine sr (dy (fun b1=>an (sr (az pm U (aO 0 ty3 U U U (a8 (ck (cells:=[I x.No]) eL ty3 zc3 U U kr (fun b2=>cq 0 U hM (fun h1 hle1 hb1=>?_)))))))))
 have sl1:SlC Rp.int h1 (some ⟨b2,0,none⟩) 1 ([x.No]):=bV.slB0 (T:=3) (fz:=(0,0)) ((show bV Rp.int h [I x.No] ([x.No]) from ⟨[I x.No],[],rfl,rfl,rfl,rfl⟩).mono Rp.ce hle1) hb1
 refine aG (v:=.bool (cw 1048576 ([x.No]))) DB (jr h1 1048576 ([x.No]) (some ⟨b2,0,none⟩) 1 sl1) U (aa ?_)
 refine tq 7 [(1,Q b1),(14,.bool ((cw 1048576 ([x.No]))&&(cw 1099511627775 ([x.At,x.Known]))))] (fun hk1=>?_) (fun e=>?_)
 ·refine ar 7 U (fun c1=>?_) (fun c1=>?_)
  ·refine az BU U (aO 0 ty3 U U U (az BT U (aO 0 ty3 U U U (a8 (ck (cells:=[I x.At,I x.Known]) eL ty3 zc3 U U kr (fun b3=>cq 0 U hM (fun h2 hle2 hb2=>?_)))))))
   have sl2:SlC Rp.int h2 (some ⟨b3,0,none⟩) 2 ([x.At,x.Known]):=bV.slB0 (T:=3) (fz:=(0,0)) ((show bV Rp.int h1 [I x.At,I x.Known] ([x.At,x.Known]) from ⟨[I x.At],[I x.Known],rfl,rfl,rfl,⟨[I x.Known],[],rfl,rfl,rfl,rfl⟩⟩).mono Rp.ce hle2) hb2
   refine aG (v:=.bool (cw 1099511627775 ([x.At,x.Known]))) DB (jr h2 1099511627775 ([x.At,x.Known]) (some ⟨b3,0,none⟩) 2 sl2) U (ah U (jI (h:=h1) hle2 hX hle1 ?_))
   exact hk1 _ ⟨U,(cb (cW c1)),trivial⟩
  ·refine kq (kq (kq (ah U ?_)))
   exact hk1 _ ⟨U,(cb (cX c1)),trivial⟩
 refine aa ?_
 refine tq 5 [(1,Q b1),(20,.bool (((cw 1048576 ([x.No]))&&(cw 1099511627775 ([x.At,x.Known])))&&(cw 4095 ([x.Doc]))))] (fun hk2=>?_) (fun e=>?_)
 ·refine ar 15 U (fun c2=>?_) (fun c2=>?_)
  ·refine az BS U (aO 0 ty3 U U U (a8 (ck (cells:=[I x.Doc]) eL ty3 zc3 U U kr (fun b4=>cq 0 U hM (fun h3 hle3 hb3=>?_)))))
   have sl3:SlC Rp.int h3 (some ⟨b4,0,none⟩) 1 ([x.Doc]):=bV.slB0 (T:=3) (fz:=(0,0)) ((show bV Rp.int h1 [I x.Doc] ([x.Doc]) from ⟨[I x.Doc],[],rfl,rfl,rfl,rfl⟩).mono Rp.ce hle3) hb3
   refine aG (v:=.bool (cw 4095 ([x.Doc]))) DB (jr h3 4095 ([x.Doc]) (some ⟨b4,0,none⟩) 1 sl3) U (ah U (jI (h:=h1) hle3 hX hle1 ?_))
   exact hk2 _ ⟨U,(cb (cW c2)),trivial⟩
  ·refine kq (kq (ah U ?_))
   exact hk2 _ ⟨U,(cb (cX c2)),trivial⟩
 refine aa ?_
 refine tq 7 [(1,Q b1),(28,.bool ((((cw 1048576 ([x.No]))&&(cw 1099511627775 ([x.At,x.Known])))&&(cw 4095 ([x.Doc])))&&(cw 63 ([x.By,x.For]))))] (fun hk3=>?_) (fun e=>?_)
 ·refine ar 21 U (fun c3=>?_) (fun c3=>?_)
  ·refine az BR U (aO 0 ty3 U U U (az BQ U (aO 0 ty3 U U U (a8 (ck (cells:=[I x.By,I x.For]) eL ty3 zc3 U U kr (fun b5=>cq 0 U hM (fun h4 hle4 hb4=>?_)))))))
   have sl4:SlC Rp.int h4 (some ⟨b5,0,none⟩) 2 ([x.By,x.For]):=bV.slB0 (T:=3) (fz:=(0,0)) ((show bV Rp.int h1 [I x.By,I x.For] ([x.By,x.For]) from ⟨[I x.By],[I x.For],rfl,rfl,rfl,⟨[I x.For],[],rfl,rfl,rfl,rfl⟩⟩).mono Rp.ce hle4) hb4
   refine aG (v:=.bool (cw 63 ([x.By,x.For]))) DB (jr h4 63 ([x.By,x.For]) (some ⟨b5,0,none⟩) 2 sl4) U (ah U (jI (h:=h1) hle4 hX hle1 ?_))
   exact hk3 _ ⟨U,(cb (cW c3)),trivial⟩
  ·refine kq (kq (kq (ah U ?_)))
   exact hk3 _ ⟨U,(cb (cX c3)),trivial⟩
 refine aa ?_
 refine tq 5 [(34,.bool (((((cw 1048576 ([x.No]))&&(cw 1099511627775 ([x.At,x.Known])))&&(cw 4095 ([x.Doc])))&&(cw 63 ([x.By,x.For])))&&(cw 31 ([x.Office]))))] (fun hk4=>?_) (fun e=>?_)
 ·refine ar 29 U (fun c4=>?_) (fun c4=>?_)
  ·refine az BP U (aO 0 ty3 U U U (a8 (ck (cells:=[I x.Office]) eL ty3 zc3 U U kr (fun b6=>cq 0 U hM (fun h5 hle5 hb5=>?_)))))
   have sl5:SlC Rp.int h5 (some ⟨b6,0,none⟩) 1 ([x.Office]):=bV.slB0 (T:=3) (fz:=(0,0)) ((show bV Rp.int h1 [I x.Office] ([x.Office]) from ⟨[I x.Office],[],rfl,rfl,rfl,rfl⟩).mono Rp.ce hle5) hb5
   refine aG (v:=.bool (cw 31 ([x.Office]))) DB (jr h5 31 ([x.Office]) (some ⟨b6,0,none⟩) 1 sl5) U (ah U (jI (h:=h1) hle5 hX hle1 ?_))
   exact hk4 _ ⟨(cb (cW c4)),trivial⟩
  ·refine kq (kq (ah U ?_))
   exact hk4 _ ⟨(cb (cX c4)),trivial⟩
 refine an ?_
 exact aw [.bool (((((cw 1048576 ([x.No]))&&(cw 1099511627775 ([x.At,x.Known])))&&(cw 4095 ([x.Doc])))&&(cw 63 ([x.By,x.For])))&&(cw 31 ([x.Office])))] Tryz.func107 U hX rd (cs hs0)
theorem tb (h:HF) (l:(List Approval)) (eW:Option Addr) (eV:Nat) (hl:SlC Approval.rp h eW eV l):Ret Tryz.prog 57 [.slice eW l.length eV] h (I (cz l)):=by
 refine ay CO U Tryz.ntmps57 U fun X hM hX=>?_
 have hs0:cz l=cz l:=rfl
 refine sr (an (ae (sr (aa (bC sg U (aJ U (ac ?_)))))))
 refine aE U (fun c1=>?_) (fun c1=>?_)
 ·have c1p:=of_decide_eq_true c1
  have hs1:=hs0.trans (bt c1)
  refine sr (an ?_)
  exact aw [I 2] CO U hX rd (ci hs1)
 ·have c1p:=of_decide_eq_false c1
  have hs3:=hs0.trans (bf c1)
  refine ao (sr (an (ae (sr (aa (bC sg U (aa (ac ?_))))))))
  refine br (ι:=Nat×Int) (fun i=>[]) (fun i=>h) (fun i=>[]) (fun i=>i.1≤l.length∧cz l=((cz.K1) i.2)) ?_ (fun hx1=>?_)
  ·rintro ⟨i1,fP⟩ ⟨bd,hs4⟩ e
   try dsimp only at bd
   try dsimp only
   refine sr (an ?_)
   exact aw [I 0] CO U hX rd (ci hs4)
  ·refine cp (ι:=Nat×Int×List Approval) (fun i=>[(3,I i.2.1),(9,.slice eW l.length eV),(10,I ((l.length:Nat):Int)),(11,I ((i.1:Nat):Int))]) (fun i=>h) (fun i=>[]) (fun i=>l.drop i.1=i.2.2∧i.1≤l.length∧cz l=((cz.L1 (cz.K1)) i.2.2 i.2.1)) (fun i=>i.2.2.length) (0,(-1),l) rd sw ⟨U,Nat.zero_le _,hs3⟩ ?_
   rintro ⟨i1,fP,s1⟩ ⟨hd1,bd,hs6⟩ ag1 e
   try dsimp only at hd1 bd
   rcases s1 with _ | ⟨y1,rz1⟩
   ·have dI:=cU hd1
    try dsimp only
    refine sr (aB (v':=.bool false) U (cb dI) (ac (ae (bg U (bO U ?_)))))
    exact hx1 (i1,fP) _ ⟨bd,hs6⟩ trivial
   ·have dH:=dY hd1
    have bh:=cY hd1
    have eT:=aT hd1
    have gx:=hl.1.1
    try dsimp only
    refine sr (aB (v':=.bool true) U (cb dH) (ac (ae (bn U (ao (ae (aW (sr (a8 (fQ (enc:=Approval.cells) (fun _ _ _ e=>e) sg ty181 hl.1 (nthZ bh) (bB bh) U U U (fun q2 A2=>?_)))))))))))
    refine ed ty181 A2 U U (bX zc181 (fun b2=>bN 0 ty181 U U U U U U (ac (ae (sr (dq 0 ty181 U U U (aG (v:=.bool (iL y1)) Tryz.call107 (s9 h y1 ) U (cV U (aa ?_)))))))))
    refine tq 5 [(5,Q b2),(9,.slice eW l.length eV),(10,I ((l.length:Nat):Int)),(11,I ((i1:Nat):Int)),(23,.bool ((!(iL y1))||decide (y1.No≤fP)))] (fun hk1=>?_) (fun e=>?_)
    ·refine ar 18 U (fun c2=>?_) (fun c2=>?_)
     ·refine kq (kq (ah U ?_))
      exact hk1 _ ⟨U,U,U,U,(cb (dL c2)),trivial⟩
     ·refine az pm U (aO 0 ty3 U U U (aa (aJ U (ah U ?_))))
      exact hk1 _ ⟨U,U,U,U,(cb (dM c2)),trivial⟩
    refine ac ?_
    refine aE U (fun c3=>?_) (fun c3=>?_)
    ·have hs8:=hs6.trans (bt c3)
     refine sr (an ?_)
     exact aw [I 280] CO U hX rd (ci hs8)
    ·have hs10:=hs6.trans (bf c3)
     refine ao (ai (az pm U (aO 0 ty3 U U U (an (av (ai (aB (v':=I (((i1+1):Nat):Int)) U (bW ob) (aa (ac ?_)))))))))
     refine cE (L':=[]) js ?_
     exact ag1 ((i1+1),y1.No,rz1) _ (Nat.lt_succ_self _) ⟨bF hd1,aT hd1,hs10⟩ rd
theorem rf (h:HF) (aP:Register) (bH:er) (ip:Register.ok h aP bH) (hsm:smR aP) (hk:Kinds h):Ret Tryz.prog 26 [.agg (Register.cells aP bH).toArray] h (I (fp aP)):=by
 refine ay Tryz.func26 U Tryz.ntmps26 U fun X hM hX=>?_
 have hs0:fp aP=fp aP:=rfl
 have hsv:=hsm.vers
 refine sr (dy (fun b1=>an (ae (ae ?_))))
 let z1:Nat×Obj:=(b1,O (Register.cells aP bH) 30)
 refine ga ([z1]) mixed kr jn (fun eX _=>?_)
 refine tf 0 U U (fun _ _ _=>dB rO U) (tf 1 U U (fun _ _ hj=>gu ty22 U (hj.nth (i:=0) U) U) (tf 3 U U (fun _ _ _=>dB zU U) ?_))
 refine tf 4 U U (fun _ _ hj=>gu ty23 U (hj.nth (i:=0) U) U) (tf 6 U U (fun _ _ _=>dB pZ U) (tf 7 U U (fun _ _ hj=>gu ty24 U (hj.nth (i:=0) U) U) ?_))
 refine tf 9 U U (fun _ _ _=>dB zT U) (tf 10 U U (fun _ _ hj=>gu ty25 U (hj.nth (i:=0) U) U) (tf 12 U U (fun _ _ _=>dB lD U) ?_))
 refine tf 13 U U (fun _ _ hj=>gu ty26 U (hj.nth (i:=0) U) U) (tf 15 U U (fun _ _ _=>dB kF U) (tf 16 U U (fun _ _ hj=>gu ty27 U (hj.nth (i:=0) U) U) ?_))
 refine tf 18 U U (fun _ _ _=>dB zS U) (tf 19 U U (fun _ _ hj=>gu ty28 U (hj.nth (i:=0) U) U) (tm 23 U ?_))
 refine tn 2 U (fu (v:=I (cQ aP.Appoints)) Tryz.call51 (o9 h aP.Appoints bH.gE bH.gD ip.Appoints) U (⟨jn,?_⟩))
 refine tn 5 U (fu (v:=I (df aP.Deputies)) Tryz.call52 (uf h aP.Deputies bH.ik bH.ij ip.Deputies) U (⟨jn,?_⟩))
 refine tn 8 U (fu (v:=I (cv aP.Interests)) Tryz.call53 (nQ h aP.Interests bH.gB bH.gA ip.Interests) U (⟨jn,?_⟩))
 refine tn 11 U (fu (v:=I (dj aP.Budgets)) Tryz.call54 (uM h aP.Budgets bH.iX bH.iW ip.Budgets) U (⟨jn,?_⟩))
 refine tn 14 U (fu (v:=I (bz aP.Versions)) Tryz.call55 (mQ h aP.Versions bH.f4 bH.f3 ip.Versions ob hk) U ?_)
 refine ⟨jn,(tn 17 U (fu (v:=I (cn aP.Docs)) Tryz.call56 (sZ h aP.Docs bH.lj bH.li ip.Docs) U ?_))⟩
 refine ⟨jn,(tn 20 U (fu (v:=I (cz aP.Approvals)) Tryz.call57 (tb h aP.Approvals bH.gT bH.gS ip.Approvals) U ?_))⟩
 refine ⟨jn,(tn 21 U (ck (cells:=[I (cQ aP.Appoints),I (df aP.Deputies),I (cv aP.Interests),I (dj aP.Budgets),I (bz aP.Versions),I (cn aP.Docs),I (cz aP.Approvals)]) Tryz.underlying117 ty35 zc35 U U kr (fun b2=>?_)))⟩
 refine ⟨jn,(tf 22 U U (fun _ _ _=>DX Tryz.underlying117 U) ?_)⟩
 refine bY kr ?_
 refine fD 0 U hM (fun h1 hle1 hb1=>?_)
 have sl1:SlC Rp.int h1 (some ⟨b2,0,none⟩) 7 ([(cQ aP.Appoints),(df aP.Deputies),(cv aP.Interests),(dj aP.Budgets),(bz aP.Versions),(cn aP.Docs),(cz aP.Approvals)]):=bV.slB0 (T:=35) (fz:=(0,0)) ((show bV Rp.int h [I (cQ aP.Appoints),I (df aP.Deputies),I (cv aP.Interests),I (dj aP.Budgets),I (bz aP.Versions),I (cn aP.Docs),I (cz aP.Approvals)] ([(cQ aP.Appoints),(df aP.Deputies),(cv aP.Interests),(dj aP.Budgets),(bz aP.Versions),(cn aP.Docs),(cz aP.Approvals)]) from ⟨[I (cQ aP.Appoints)],[I (df aP.Deputies),I (cv aP.Interests),I (dj aP.Budgets),I (bz aP.Versions),I (cn aP.Docs),I (cz aP.Approvals)],rfl,rfl,rfl,⟨[I (df aP.Deputies)],[I (cv aP.Interests),I (dj aP.Budgets),I (bz aP.Versions),I (cn aP.Docs),I (cz aP.Approvals)],rfl,rfl,rfl,⟨[I (cv aP.Interests)],[I (dj aP.Budgets),I (bz aP.Versions),I (cn aP.Docs),I (cz aP.Approvals)],rfl,rfl,rfl,⟨[I (dj aP.Budgets)],[I (bz aP.Versions),I (cn aP.Docs),I (cz aP.Approvals)],rfl,rfl,rfl,⟨[I (bz aP.Versions)],[I (cn aP.Docs),I (cz aP.Approvals)],rfl,rfl,rfl,⟨[I (cn aP.Docs)],[I (cz aP.Approvals)],rfl,rfl,rfl,⟨[I (cz aP.Approvals)],[],rfl,rfl,rfl,rfl⟩⟩⟩⟩⟩⟩⟩).mono Rp.ce hle1) hb1
 refine br (ι:=Nat) (fun i=>[]) (fun i=>h1) (fun i=>[z1]) (fun i=>i≤(List.range 7).length∧fp aP=((fp.K1))) ?_ (fun hx1=>?_)
 ·rintro i1 ⟨bd,hs1⟩ e
  try dsimp only at bd
  try dsimp only
  refine sr (an ?_)
  exact aw [I 0] Tryz.func26 U hX rd (ci hs1)
 ·refine cp (ι:=Nat×List Nat) (fun i=>[(26,.slice (some ⟨b2,0,none⟩) 7 7),(27,I 7),(28,I ((i.1:Nat):Int))]) (fun i=>h1) (fun i=>[z1]) (fun i=>(List.range 7).drop i.1=i.2∧i.1≤(List.range 7).length∧fp aP=((fp.L1 aP (fp.K1)) i.2 i.1)) (fun i=>i.2.length) (0,(List.range 7)) rd sw ⟨U,Nat.zero_le _,hs0⟩ ?_
  rintro ⟨i1,s1⟩ ⟨hd1,bd,hs3⟩ ag1 e
  try dsimp only at hd1 bd
  rcases s1 with _ | ⟨y1,rz1⟩
  ·have dI:decide (((i1:Nat):Int) < 7)=false:=by simpa using cU hd1
   try dsimp only
   refine sr (aB (v':=.bool false) U (cb dI) (ac (ae (bg U (bO U ?_)))))
   exact hx1 i1 _ ⟨bd,hs3⟩ trivial
  ·have dH:decide (((i1:Nat):Int) < 7)=true:=by simpa using dY hd1
   have eT:i1 < 7:=by simpa using aT hd1
   try dsimp only
   refine sr (aB (v':=.bool true) U (cb dH) (ac (ae (bn U (ao (ae (aW (sr ?_))))))))
   have ho2:0≤(((i1:Nat):Int):Int)∧(((i1:Nat):Int):Int) < (([(cQ aP.Appoints),(df aP.Deputies),(cv aP.Interests),(dj aP.Budgets),(bz aP.Versions),(cn aP.Docs),(cz aP.Approvals)]).length:Int):=ob
   refine a8 (fQ (enc:=fun y=>[I y]) (fun _ _ _ e=>e) Tryz.underlying117 ty35 sl1.1 ho2 (eA ho2) U U U (fun q2 A2=>eC ty35 A2 U (an (sr (aa (aJ U (ac ?_)))))))
   refine aE U (fun c2=>?_) (fun c2=>?_)
   ·have hs5:=hs3.trans (bt c2)
    refine sr (an ?_)
    exact aw [I 300] Tryz.func26 U hX rd (ci hs5)
   ·have hs7:=hs3.trans (bf c2)
    refine ao (av (ai (aB (v':=I (((i1+1):Nat):Int)) U (bW ob) ?_)))
    refine aa (ac ?_)
    exact ag1 ((i1+1),rz1) _ (Nat.lt_succ_self _) ⟨bF hd1,aT hd1,hs7⟩ rd
theorem uj (h:HF) (t:Int)  : Ret Tryz.prog 37 [I t] h (.bool (jC t)):=by
 refine ay Tryz.func37 U Tryz.ntmps37 U fun X hM hX=>?_
 have hs0:jC t=jC t:=rfl
 refine sr (an (sr (aa (aJ U (aa ?_)))))
 refine tq 3 [(8,.bool (decide (0≤t)&&decide (t < 1099511627776)))] (fun hk1=>?_) (fun e=>?_)
 ·refine ar 5 U (fun c1=>?_) (fun c1=>?_)
  ·refine aa (aJ U (ah U ?_))
   exact hk1 _ ⟨(cb (cW c1)),trivial⟩
  ·refine kq (ah U ?_)
   exact hk1 _ ⟨(cb (cX c1)),trivial⟩
 refine an ?_
 exact aw [.bool (decide (0≤t)&&decide (t < 1099511627776))] Tryz.func37 U hX rd (cs hs0)
theorem m6 (h:HF) (s:(List Document)) (pz:Option Addr) (oS:Nat) (f:(Document→Bool)) (f_v:Value) (hs:SlC Document.rp h pz oS s) (hf:∀ (h':HF) (cG:Document) (Ho:gM),HF.le h h'→Document.ok h' cG Ho→uO Tryz.prog f_v [.agg (Document.cells cG Ho).toArray] h' [] (.bool (f cG))):Ret Tryz.prog 58 [.slice pz s.length oS,f_v] h (I (ab s f)):=by
 refine ay Tryz.func58 U Tryz.ntmps58 U fun X hM hX=>?_
 have hs0:ab s f=ab s f:=rfl
 refine sr (an (ae (sr (aa (bC la U (aa (ac ?_)))))))
 refine br (ι:=Nat) (fun i=>[]) (fun i=>h) (fun i=>[]) (fun i=>i≤s.length∧ab s f=((ab.K1))) ?_ (fun hx1=>?_)
 ·rintro i1 ⟨bd,hs1⟩ e
  try dsimp only at bd
  try dsimp only
  refine sr (an ?_)
  exact aw [I (-1)] Tryz.func58 U hX rd (ci hs1)
 ·refine cp (ι:=Nat×List Document) (fun i=>[(0,.slice pz s.length oS),(1,f_v),(7,I ((s.length:Nat):Int)),(8,I ((i.1:Nat):Int))]) (fun i=>h) (fun i=>[]) (fun i=>s.drop i.1=i.2∧i.1≤s.length∧ab s f=((ab.L1 f (ab.K1)) i.2 i.1)) (fun i=>i.2.length) (0,s) rd sw ⟨U,Nat.zero_le _,hs0⟩ ?_
  rintro ⟨i1,s1⟩ ⟨hd1,bd,hs3⟩ ag1 e
  try dsimp only at hd1 bd
  rcases s1 with _ | ⟨y1,rz1⟩
  ·have dI:=cU hd1
   try dsimp only
   refine sr (aB (v':=.bool false) U (cb dI) (ac (ae (bg U (bO U ?_)))))
   exact hx1 i1 _ ⟨bd,hs3⟩ trivial
  ·have dH:=dY hd1
   have bh:=cY hd1
   have eT:=aT hd1
   have gx:=hs.1.1
   try dsimp only
   refine sr (aB (v':=.bool true) U (cb dH) (ac (ae (bn U (ao (ae (aW (sr (aa (an (sr (aa (aa (aa (a8 (gL la ty52 hs.1 (nthZ bh) (bB bh) U U U (fun q2 cs2 A2 ln2 rr2=>?_)))))))))))))))))
   obtain ⟨r2,rfl,ok2⟩:=rr2
   refine ed ty52 A2 U U (a8 (nl (v:=.bool (f y1)) [] (List.nil_sublist _) (hf h y1 r2 (HF.le_refl _) ok2) U U (ac ?_)))
   refine aE U (fun c2=>?_) (fun c2=>?_)
   ·have hs5:=hs3.trans (bt c2)
    refine sr (aa (an ?_))
    exact aw [I ((i1:Nat):Int)] Tryz.func58 U hX rd (ci hs5)
   ·have hs7:=hs3.trans (bf c2)
    refine ao (av (ai (aB (v':=I (((i1+1):Nat):Int)) U (bW ob) (aa (ac ?_)))))
    exact ag1 ((i1+1),rz1) _ (Nat.lt_succ_self _) ⟨bF hd1,aT hd1,hs7⟩ rd
theorem uH (s:List Document) (f:Document→Bool):ab s f < (s.length:Int):=by
 have key:∀ (l:List Document) (i:Nat),ab.L1 f ab.K1 l i < ((i+l.length:Nat):Int):=by
  intro l
  induction l with
  | nil=>intro i;simp only [ab.L1,ab.K1];omega
  | cons y l ih=>
   intro i
   simp only [ab.L1,Bool.cond_eq_ite,List.length_cons]
   split
   ·omega
   ·have:=ih (i+1);omega
 have:=key s 0
 simpa [ab] using this
theorem yv (h:HF) (d:Document) (sd:gM) (v0:Int) (v0_q:Addr) (hd:Document.ok h d sd) (av0:At h v0_q [I v0]):Ret Tryz.prog 59 [.agg (Document.cells d sd).toArray,.pointer (some v0_q)] h (.bool (aK d v0)):=by
 refine ay Tryz.func59 U Tryz.ntmps59 U fun X hM hX=>?_
 have hs0:aK d v0=aK d v0:=rfl
 refine sr (dy (fun b1=>an (sr (az j1 U (aO 0 ty3 U U U (eC ty3 av0 U (aJ U (an ?_))))))))
 exact aw [.bool (d.No==v0)] Tryz.func59 U hX rd (cs hs0)
theorem vy (h:HF) (aP:Register) (bH:er) (doc:Int) (known:Int) (ip:Register.ok h aP bH):jK Tryz.prog 27 [.agg (Register.cells aP bH).toArray,I doc,I known] h (fun v h'=>∃ (rr0:gr),v=.tuple #[.agg (aU.cells ((cT aP doc known).1) rr0).toArray,.bool ((cT aP doc known).2)]∧aU.ok h' ((cT aP doc known).1) rr0):=by
 refine ay Tryz.func27 U Tryz.ntmps27 U fun X hM hX=>?_
 have hs0:cT aP doc known=cT aP doc known:=rfl
 refine sr (dy (fun b1=>dy (fun b2=>bX zc77 (fun b3=>an (sr (az kF U (aO 2 ty27 U U U (cq 1 U hM (fun h1 hle1 hb1=>a8 (fV U U (aG (v:=I (ab aP.Docs (fun cG=>aK cG doc))) Tryz.call58 (m6 h1 aP.Docs bH.lj bH.li (fun cG=>aK cG doc) (.func (.func 59) #[] #[Q b2]) (ip.Docs.mono Document.aN hle1) (fun h' cG Ho hle a0_o=>iZ Tryz.call59 (yv h' cG Ho doc ⟨b2,0,none⟩ a0_o ((dR hb1).mono hle)))) U ?_)))))))))))
 refine an (ae (sr (aa (aJ U (aa ?_)))))
 refine tq 4 [(2,I known),(3,Q b1),(6,Q b3),(8,I (ab aP.Docs (fun cG=>aK cG doc))),(19,.bool (decide ((ab aP.Docs (fun cG=>aK cG doc)) < 0)||(!(jC known))))] (fun hk1=>?_) (fun e=>?_)
 ·refine ar 15 U (fun c1=>?_) (fun c1=>?_)
  ·refine kq (bP (ah U ?_))
   exact hk1 _ ⟨U,U,U,U,(cb (dL c1)),trivial⟩
  ·refine aa (aG (v:=.bool (jC known)) Tryz.call37 (uj h1 known ) U (cV U (ah U ?_)))
   exact hk1 _ ⟨U,U,U,U,(cb (dM c1)),trivial⟩
 refine ac ?_
 refine aE U (fun c2=>?_) (fun c2=>?_)
 ·have hs1:=hs0.trans (bt c2)
  refine sr (dq 0 ty77 U U U (bN 0 ty77 U U U U U U (an ?_)))
  have hs2:cT aP doc known=((aU.mk (Register.mk ([]) ([]) ([]) ([]) ([]) ([]) ([])) (Document.mk 0 0 0 0 0 0 ([]) ([]) ([]) (fun _=>0)) 0),false):=hs1
  exact dS [.agg (List.toArray (.slice none 0 0::.slice none 0 0::.slice none 0 0::.slice none 0 0::.slice none 0 0::.slice none 0 0::.slice none 0 0::I 0::I 0::I 0::I 0::I 0::I 0::.slice none 0 0::.slice none 0 0::.slice none 0 0::Y 0::Y 0::Y 0::Y 0::Y 0::Y 0::Y 0::Y 0::Y 0::Y 0::Y 0::Y 0::Y 0::Y 0::Y 0::Y 0::Y 0::Y 0::Y 0::Y 0::Y 0::Y 0::Y 0::Y 0::Y 0::Y 0::Y 0::Y 0::Y 0::Y 0::Y 0::Y 0::I 0::[])),.bool false] Tryz.func27 U ⟨⟨0,_,_,_,_,U,U,.inl ⟨ty77,U⟩⟩,U,trivial⟩ ⟨(gr.mk (er.mk none 0 none 0 none 0 none 0 none 0 none 0 none 0) (gM.mk none 0 none 0 none 0)),congrArg (fun r:(aU×Bool)=>(.tuple #[.agg (aU.cells r.1 (gr.mk (er.mk none 0 none 0 none 0 none 0 none 0 none 0 none 0) (gM.mk none 0 none 0 none 0))).toArray,.bool r.2]:Value)) hs2.symm,(by rw [hs2];exact (show aU.ok h1 (aU.mk (Register.mk ([]) ([]) ([]) ([]) ([]) ([]) ([])) (Document.mk 0 0 0 0 0 0 ([]) ([]) ([]) (fun _=>0)) 0) (gr.mk (er.mk none 0 none 0 none 0 none 0 none 0 none 0 none 0) (gM.mk none 0 none 0 none 0)) from ⟨(show Register.ok h1 (Register.mk ([]) ([]) ([]) ([]) ([]) ([]) ([])) (er.mk none 0 none 0 none 0 none 0 none 0 none 0 none 0) from ⟨SlC.nil,SlC.nil,SlC.nil,SlC.nil,SlC.nil,SlC.nil,SlC.nil⟩),(show Document.ok h1 (Document.mk 0 0 0 0 0 0 ([]) ([]) ([]) (fun _=>0)) (gM.mk none 0 none 0 none 0) from ⟨SlC.nil,SlC.nil,SlC.nil⟩)⟩))⟩
 ·have hs3:=hs0.trans (bf c2)
  refine ao (ae ?_)
  let z1:Nat×Obj:=(b1,O (Register.cells aP bH) 30)
  refine ga ([z1]) mixed kr jn (fun eX _=>?_)
  refine tf 0 U U (fun _ _ hj=>ky ty30 U (hj.nth (i:=0) U) U) (tf 1 U U (fun _ _ _=>dB kF U) ?_)
  refine tf 2 U U (fun _ _ hj=>gu ty27 U (hj.nth (i:=0) U) U) (tm 3 U ?_)
  have ho1:0≤((ab aP.Docs (fun cG=>aK cG doc)):Int)∧((ab aP.Docs (fun cG=>aK cG doc)):Int) < ((aP.Docs).length:Int):=(by have:=uH aP.Docs (fun cG=>aK cG doc);simp only [decide_eq_true_eq,decide_eq_false_iff_not,Bool.and_eq_true,Bool.or_eq_true,Bool.not_eq_true',Bool.not_eq_false',Bool.and_eq_false_iff,Bool.or_eq_false_iff,beq_iff_eq,beq_eq_false_iff_ne,bne_iff_ne,bne_eq_false_iff_eq,List.length_append,List.length_cons,List.length_nil,List.length_drop] at *;omega)
  refine iY 4 eX jn la ty52 (ip.Docs.mono Document.aN hle1).1 ho1 (eA ho1) U U U U kr (fun q1 cs1 A1 ln1 rr1=>?_)
  obtain ⟨r1,rfl,ok1⟩:=rr1
  refine tf 5 U U (fun _ _ hj=>jP ty52 (A1.mono hj.1) U U) (tm 6 U ?_)
  refine tn 7 U (fw (cells:=[.slice bH.gE aP.Appoints.length bH.gD,.slice bH.ik aP.Deputies.length bH.ij,.slice bH.gB aP.Interests.length bH.gA,.slice bH.iX aP.Budgets.length bH.iW,.slice bH.f4 aP.Versions.length bH.f3,.slice bH.lj aP.Docs.length bH.li,.slice bH.gT aP.Approvals.length bH.gS,I ((nthI aP.Docs (ab aP.Docs (fun cG=>aK cG doc))).No),I ((nthI aP.Docs (ab aP.Docs (fun cG=>aK cG doc))).At),I ((nthI aP.Docs (ab aP.Docs (fun cG=>aK cG doc))).Kind),I ((nthI aP.Docs (ab aP.Docs (fun cG=>aK cG doc))).Value),I ((nthI aP.Docs (ab aP.Docs (fun cG=>aK cG doc))).From),I ((nthI aP.Docs (ab aP.Docs (fun cG=>aK cG doc))).Until),.slice r1.jE ((nthI aP.Docs (ab aP.Docs (fun cG=>aK cG doc))).Parties.length) r1.jD,.slice r1.jk ((nthI aP.Docs (ab aP.Docs (fun cG=>aK cG doc))).Revokes.length) r1.jj,.slice r1.kK ((nthI aP.Docs (ab aP.Docs (fun cG=>aK cG doc))).Needs.length) r1.kJ,Y ((nthI aP.Docs (ab aP.Docs (fun cG=>aK cG doc))).Text 0),Y ((nthI aP.Docs (ab aP.Docs (fun cG=>aK cG doc))).Text 1),Y ((nthI aP.Docs (ab aP.Docs (fun cG=>aK cG doc))).Text 2),Y ((nthI aP.Docs (ab aP.Docs (fun cG=>aK cG doc))).Text 3),Y ((nthI aP.Docs (ab aP.Docs (fun cG=>aK cG doc))).Text 4),Y ((nthI aP.Docs (ab aP.Docs (fun cG=>aK cG doc))).Text 5),Y ((nthI aP.Docs (ab aP.Docs (fun cG=>aK cG doc))).Text 6),Y ((nthI aP.Docs (ab aP.Docs (fun cG=>aK cG doc))).Text 7),Y ((nthI aP.Docs (ab aP.Docs (fun cG=>aK cG doc))).Text 8),Y ((nthI aP.Docs (ab aP.Docs (fun cG=>aK cG doc))).Text 9),Y ((nthI aP.Docs (ab aP.Docs (fun cG=>aK cG doc))).Text 10),Y ((nthI aP.Docs (ab aP.Docs (fun cG=>aK cG doc))).Text 11),Y ((nthI aP.Docs (ab aP.Docs (fun cG=>aK cG doc))).Text 12),Y ((nthI aP.Docs (ab aP.Docs (fun cG=>aK cG doc))).Text 13),Y ((nthI aP.Docs (ab aP.Docs (fun cG=>aK cG doc))).Text 14),Y ((nthI aP.Docs (ab aP.Docs (fun cG=>aK cG doc))).Text 15),Y ((nthI aP.Docs (ab aP.Docs (fun cG=>aK cG doc))).Text 16),Y ((nthI aP.Docs (ab aP.Docs (fun cG=>aK cG doc))).Text 17),Y ((nthI aP.Docs (ab aP.Docs (fun cG=>aK cG doc))).Text 18),Y ((nthI aP.Docs (ab aP.Docs (fun cG=>aK cG doc))).Text 19),Y ((nthI aP.Docs (ab aP.Docs (fun cG=>aK cG doc))).Text 20),Y ((nthI aP.Docs (ab aP.Docs (fun cG=>aK cG doc))).Text 21),Y ((nthI aP.Docs (ab aP.Docs (fun cG=>aK cG doc))).Text 22),Y ((nthI aP.Docs (ab aP.Docs (fun cG=>aK cG doc))).Text 23),Y ((nthI aP.Docs (ab aP.Docs (fun cG=>aK cG doc))).Text 24),Y ((nthI aP.Docs (ab aP.Docs (fun cG=>aK cG doc))).Text 25),Y ((nthI aP.Docs (ab aP.Docs (fun cG=>aK cG doc))).Text 26),Y ((nthI aP.Docs (ab aP.Docs (fun cG=>aK cG doc))).Text 27),Y ((nthI aP.Docs (ab aP.Docs (fun cG=>aK cG doc))).Text 28),Y ((nthI aP.Docs (ab aP.Docs (fun cG=>aK cG doc))).Text 29),Y ((nthI aP.Docs (ab aP.Docs (fun cG=>aK cG doc))).Text 30),Y ((nthI aP.Docs (ab aP.Docs (fun cG=>aK cG doc))).Text 31),I known]) (places:=[(0,7),(7,41),(48,1)]) Tryz.underlying77 zc77 kr kr ?_)
  refine ⟨jn,(tn 8 U (wm 0 ty77 U U U U U U ?_))⟩
  refine ⟨jn,(tf 9 U U (fun _ _ _=>fO) ?_)⟩
  refine bY kr ?_
  have hs4:cT aP doc known=((aU.mk (Register.mk aP.Appoints aP.Deputies aP.Interests aP.Budgets aP.Versions aP.Docs aP.Approvals) (Document.mk ((nthI aP.Docs (ab aP.Docs (fun cG=>aK cG doc))).No) ((nthI aP.Docs (ab aP.Docs (fun cG=>aK cG doc))).At) ((nthI aP.Docs (ab aP.Docs (fun cG=>aK cG doc))).Kind) ((nthI aP.Docs (ab aP.Docs (fun cG=>aK cG doc))).Value) ((nthI aP.Docs (ab aP.Docs (fun cG=>aK cG doc))).From) ((nthI aP.Docs (ab aP.Docs (fun cG=>aK cG doc))).Until) ((nthI aP.Docs (ab aP.Docs (fun cG=>aK cG doc))).Parties) ((nthI aP.Docs (ab aP.Docs (fun cG=>aK cG doc))).Revokes) ((nthI aP.Docs (ab aP.Docs (fun cG=>aK cG doc))).Needs) ((nthI aP.Docs (ab aP.Docs (fun cG=>aK cG doc))).Text)) known),true):=hs3
  exact dS [.agg (List.toArray (.slice bH.gE aP.Appoints.length bH.gD::.slice bH.ik aP.Deputies.length bH.ij::.slice bH.gB aP.Interests.length bH.gA::.slice bH.iX aP.Budgets.length bH.iW::.slice bH.f4 aP.Versions.length bH.f3::.slice bH.lj aP.Docs.length bH.li::.slice bH.gT aP.Approvals.length bH.gS::I ((nthI aP.Docs (ab aP.Docs (fun cG=>aK cG doc))).No)::I ((nthI aP.Docs (ab aP.Docs (fun cG=>aK cG doc))).At)::I ((nthI aP.Docs (ab aP.Docs (fun cG=>aK cG doc))).Kind)::I ((nthI aP.Docs (ab aP.Docs (fun cG=>aK cG doc))).Value)::I ((nthI aP.Docs (ab aP.Docs (fun cG=>aK cG doc))).From)::I ((nthI aP.Docs (ab aP.Docs (fun cG=>aK cG doc))).Until)::.slice r1.jE ((nthI aP.Docs (ab aP.Docs (fun cG=>aK cG doc))).Parties.length) r1.jD::.slice r1.jk ((nthI aP.Docs (ab aP.Docs (fun cG=>aK cG doc))).Revokes.length) r1.jj::.slice r1.kK ((nthI aP.Docs (ab aP.Docs (fun cG=>aK cG doc))).Needs.length) r1.kJ::Y ((nthI aP.Docs (ab aP.Docs (fun cG=>aK cG doc))).Text 0)::Y ((nthI aP.Docs (ab aP.Docs (fun cG=>aK cG doc))).Text 1)::Y ((nthI aP.Docs (ab aP.Docs (fun cG=>aK cG doc))).Text 2)::Y ((nthI aP.Docs (ab aP.Docs (fun cG=>aK cG doc))).Text 3)::Y ((nthI aP.Docs (ab aP.Docs (fun cG=>aK cG doc))).Text 4)::Y ((nthI aP.Docs (ab aP.Docs (fun cG=>aK cG doc))).Text 5)::Y ((nthI aP.Docs (ab aP.Docs (fun cG=>aK cG doc))).Text 6)::Y ((nthI aP.Docs (ab aP.Docs (fun cG=>aK cG doc))).Text 7)::Y ((nthI aP.Docs (ab aP.Docs (fun cG=>aK cG doc))).Text 8)::Y ((nthI aP.Docs (ab aP.Docs (fun cG=>aK cG doc))).Text 9)::Y ((nthI aP.Docs (ab aP.Docs (fun cG=>aK cG doc))).Text 10)::Y ((nthI aP.Docs (ab aP.Docs (fun cG=>aK cG doc))).Text 11)::Y ((nthI aP.Docs (ab aP.Docs (fun cG=>aK cG doc))).Text 12)::Y ((nthI aP.Docs (ab aP.Docs (fun cG=>aK cG doc))).Text 13)::Y ((nthI aP.Docs (ab aP.Docs (fun cG=>aK cG doc))).Text 14)::Y ((nthI aP.Docs (ab aP.Docs (fun cG=>aK cG doc))).Text 15)::Y ((nthI aP.Docs (ab aP.Docs (fun cG=>aK cG doc))).Text 16)::Y ((nthI aP.Docs (ab aP.Docs (fun cG=>aK cG doc))).Text 17)::Y ((nthI aP.Docs (ab aP.Docs (fun cG=>aK cG doc))).Text 18)::Y ((nthI aP.Docs (ab aP.Docs (fun cG=>aK cG doc))).Text 19)::Y ((nthI aP.Docs (ab aP.Docs (fun cG=>aK cG doc))).Text 20)::Y ((nthI aP.Docs (ab aP.Docs (fun cG=>aK cG doc))).Text 21)::Y ((nthI aP.Docs (ab aP.Docs (fun cG=>aK cG doc))).Text 22)::Y ((nthI aP.Docs (ab aP.Docs (fun cG=>aK cG doc))).Text 23)::Y ((nthI aP.Docs (ab aP.Docs (fun cG=>aK cG doc))).Text 24)::Y ((nthI aP.Docs (ab aP.Docs (fun cG=>aK cG doc))).Text 25)::Y ((nthI aP.Docs (ab aP.Docs (fun cG=>aK cG doc))).Text 26)::Y ((nthI aP.Docs (ab aP.Docs (fun cG=>aK cG doc))).Text 27)::Y ((nthI aP.Docs (ab aP.Docs (fun cG=>aK cG doc))).Text 28)::Y ((nthI aP.Docs (ab aP.Docs (fun cG=>aK cG doc))).Text 29)::Y ((nthI aP.Docs (ab aP.Docs (fun cG=>aK cG doc))).Text 30)::Y ((nthI aP.Docs (ab aP.Docs (fun cG=>aK cG doc))).Text 31)::I known::[])),.bool true] Tryz.func27 U ⟨⟨0,_,_,_,_,U,U,.inl ⟨ty77,U⟩⟩,U,trivial⟩ ⟨(gr.mk (er.mk bH.gE bH.gD bH.ik bH.ij bH.gB bH.gA bH.iX bH.iW bH.f4 bH.f3 bH.lj bH.li bH.gT bH.gS) (gM.mk r1.jE r1.jD r1.jk r1.jj r1.kK r1.kJ)),congrArg (fun r:(aU×Bool)=>(.tuple #[.agg (aU.cells r.1 (gr.mk (er.mk bH.gE bH.gD bH.ik bH.ij bH.gB bH.gA bH.iX bH.iW bH.f4 bH.f3 bH.lj bH.li bH.gT bH.gS) (gM.mk r1.jE r1.jD r1.jk r1.jj r1.kK r1.kJ))).toArray,.bool r.2]:Value)) hs4.symm,(by rw [hs4];exact (show aU.ok h1 (aU.mk (Register.mk aP.Appoints aP.Deputies aP.Interests aP.Budgets aP.Versions aP.Docs aP.Approvals) (Document.mk ((nthI aP.Docs (ab aP.Docs (fun cG=>aK cG doc))).No) ((nthI aP.Docs (ab aP.Docs (fun cG=>aK cG doc))).At) ((nthI aP.Docs (ab aP.Docs (fun cG=>aK cG doc))).Kind) ((nthI aP.Docs (ab aP.Docs (fun cG=>aK cG doc))).Value) ((nthI aP.Docs (ab aP.Docs (fun cG=>aK cG doc))).From) ((nthI aP.Docs (ab aP.Docs (fun cG=>aK cG doc))).Until) ((nthI aP.Docs (ab aP.Docs (fun cG=>aK cG doc))).Parties) ((nthI aP.Docs (ab aP.Docs (fun cG=>aK cG doc))).Revokes) ((nthI aP.Docs (ab aP.Docs (fun cG=>aK cG doc))).Needs) ((nthI aP.Docs (ab aP.Docs (fun cG=>aK cG doc))).Text)) known) (gr.mk (er.mk bH.gE bH.gD bH.ik bH.ij bH.gB bH.gA bH.iX bH.iW bH.f4 bH.f3 bH.lj bH.li bH.gT bH.gS) (gM.mk r1.jE r1.jD r1.jk r1.jj r1.kK r1.kJ)) from ⟨(show Register.ok h1 (Register.mk aP.Appoints aP.Deputies aP.Interests aP.Budgets aP.Versions aP.Docs aP.Approvals) (er.mk bH.gE bH.gD bH.ik bH.ij bH.gB bH.gA bH.iX bH.iW bH.f4 bH.f3 bH.lj bH.li bH.gT bH.gS) from ⟨(ip.Appoints.mono Appoint.aN hle1),(ip.Deputies.mono Deputy.aN hle1),(ip.Interests.mono Interest.aN hle1),(ip.Budgets.mono Budget.aN hle1),(ip.Versions.mono Version.aN hle1),(ip.Docs.mono Document.aN hle1),(ip.Approvals.mono Approval.aN hle1)⟩),(show Document.ok h1 (Document.mk ((nthI aP.Docs (ab aP.Docs (fun cG=>aK cG doc))).No) ((nthI aP.Docs (ab aP.Docs (fun cG=>aK cG doc))).At) ((nthI aP.Docs (ab aP.Docs (fun cG=>aK cG doc))).Kind) ((nthI aP.Docs (ab aP.Docs (fun cG=>aK cG doc))).Value) ((nthI aP.Docs (ab aP.Docs (fun cG=>aK cG doc))).From) ((nthI aP.Docs (ab aP.Docs (fun cG=>aK cG doc))).Until) ((nthI aP.Docs (ab aP.Docs (fun cG=>aK cG doc))).Parties) ((nthI aP.Docs (ab aP.Docs (fun cG=>aK cG doc))).Revokes) ((nthI aP.Docs (ab aP.Docs (fun cG=>aK cG doc))).Needs) ((nthI aP.Docs (ab aP.Docs (fun cG=>aK cG doc))).Text)) (gM.mk r1.jE r1.jD r1.jk r1.jj r1.kK r1.kJ) from ⟨ok1.Parties,ok1.Revokes,ok1.Needs⟩)⟩))⟩
theorem xQ (h:HF) (who:(List Int)) (eG:Option Addr) (eF:Nat) (hwho:SlC Rp.int h eG eF who):Ret Tryz.prog 28 [.slice eG who.length eF] h (.bool (fy who)):=by
 refine ay Tryz.func28 U Tryz.ntmps28 U fun X hM hX=>?_
 have hs0:fy who=fy who:=rfl
 refine sr (an (sr (an (ae (sr (aa (bC eL U (aa (ac ?_)))))))))
 refine br (ι:=Nat×Int) (fun i=>[]) (fun i=>h) (fun i=>[]) (fun i=>i.1≤who.length∧fy who=((fy.K1) i.2)) ?_ (fun hx1=>?_)
 ·rintro ⟨i1,fP⟩ ⟨bd,hs1⟩ e
  try dsimp only at bd
  try dsimp only
  refine sr (an ?_)
  exact aw [.bool true] Tryz.func28 U hX rd (cs hs1)
 ·refine cp (ι:=Nat×Int×List Int) (fun i=>[(3,I i.2.1),(6,.slice eG who.length eF),(7,I ((who.length:Nat):Int)),(8,I ((i.1:Nat):Int))]) (fun i=>h) (fun i=>[]) (fun i=>who.drop i.1=i.2.2∧i.1≤who.length∧fy who=((fy.L1 (fy.K1)) i.2.2 i.2.1)) (fun i=>i.2.2.length) (0,(-1),who) rd sw ⟨U,Nat.zero_le _,hs0⟩ ?_
  rintro ⟨i1,fP,s1⟩ ⟨hd1,bd,hs3⟩ ag1 e
  try dsimp only at hd1 bd
  rcases s1 with _ | ⟨y1,rz1⟩
  ·have dI:=cU hd1
   try dsimp only
   refine sr (aB (v':=.bool false) U (cb dI) (ac (ae (bg U (bO U ?_)))))
   exact hx1 (i1,fP) _ ⟨bd,hs3⟩ trivial
  ·have dH:=dY hd1
   have bh:=cY hd1
   have eT:=aT hd1
   have gx:=hwho.1.1
   try dsimp only
   refine sr (aB (v':=.bool true) U (cb dH) (ac (ae (bn U (ao (ae (aW (sr (a8 (fQ (enc:=fun y=>[I y]) (fun _ _ _ e=>e) eL ty3 hwho.1 (nthZ bh) (bB bh) U U U (fun q2 A2=>?_)))))))))))
   refine eC ty3 A2 U (an (ae (sr (aa (aa (aJ U (aa ?_)))))))
   refine tq 3 [(5,I y1),(6,.slice eG who.length eF),(7,I ((who.length:Nat):Int)),(8,I ((i1:Nat):Int)),(18,.bool (decide (y1≤fP)||decide (64≤y1)))] (fun hk1=>?_) (fun e=>?_)
   ·refine ar 15 U (fun c1=>?_) (fun c1=>?_)
    ·refine kq (ah U ?_)
     exact hk1 _ ⟨U,U,U,U,(cb (dL c1)),trivial⟩
    ·refine aa (aJ U (ah U ?_))
     exact hk1 _ ⟨U,U,U,U,(cb (dM c1)),trivial⟩
   refine ac ?_
   refine aE U (fun c2=>?_) (fun c2=>?_)
   ·have hs5:=hs3.trans (bt c2)
    refine sr (an ?_)
    exact aw [.bool false] Tryz.func28 U hX rd (cs hs5)
   ·have hs7:=hs3.trans (bf c2)
    refine ao (ai (aa (an (av (ai (aB (v':=I (((i1+1):Nat):Int)) U (bW ob) (aa (ac ?_))))))))
    exact ag1 ((i1+1),y1,rz1) _ (Nat.lt_succ_self _) ⟨bF hd1,aT hd1,hs7⟩ rd
end Go.Sg
