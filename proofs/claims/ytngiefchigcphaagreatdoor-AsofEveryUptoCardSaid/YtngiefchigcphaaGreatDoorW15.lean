import Derived.Test.YtngiefchigcphaaGreatDoorCards
import Derived.Test.YtngiefchigcphaaGreatDoorTie
import Derived.ProofKit
import Derived.OpenShut
import Derived.Deep.DeepHandedRow
import Derived.LaidHandle
import Derived.Carry
import Derived.Test.YtngiefchigcphaaGreatDoorW1
import Derived.Test.YtngiefchigcphaaGreatDoorW2
import Derived.Test.YtngiefchigcphaaGreatDoorW3
import Derived.Test.YtngiefchigcphaaGreatDoorW4
import Derived.Test.YtngiefchigcphaaGreatDoorW5
import Derived.Test.YtngiefchigcphaaGreatDoorW6
import Derived.Test.YtngiefchigcphaaGreatDoorW7
import Derived.Test.YtngiefchigcphaaGreatDoorW8
import Derived.Test.YtngiefchigcphaaGreatDoorW9
import Derived.Test.YtngiefchigcphaaGreatDoorW10
import Derived.Test.YtngiefchigcphaaGreatDoorW11
import Derived.Test.YtngiefchigcphaaGreatDoorW12
import Derived.Test.YtngiefchigcphaaGreatDoorW13
import Derived.Test.YtngiefchigcphaaGreatDoorW14
/- A part of the proof of the law AsofEvery: where what it reads holds at most 1048576 values and letters, the call returns true and its arguments read as they did. Conditions: that bound, and that the listed table starts as the program lays it. -/
set_option linter.unusedVariables false
set_option linter.unusedSimpArgs false
namespace Go.Sg
open Go.Proofs
set_option maxHeartbeats 2000000
set_option maxRecDepth 100000
set_option linter.unusedVariables false
theorem wC (h:HF) (l:(List Approval)) (eW:Option Addr) (eV:Nat) (hl:SlC Approval.rp h eW eV l):Ret Tryz.prog 73 [.slice eW l.length eV] h (I (fg l)):=by
 refine ay Cq U Tryz.ntmps73 U fun X hM hX=>?_
 have hs0:fg l=fg l:=rfl
 refine sr (an (ae (sr (aa (bC sg U (aJ U (ac ?_)))))))
 refine aE U (fun c1=>?_) (fun c1=>?_)
 ·have c1p:=of_decide_eq_true c1
  have hs1:=hs0.trans (bt c1)
  refine sr (an ?_)
  exact aw [I 2] Cq U hX rd (ci hs1)
 ·have c1p:=of_decide_eq_false c1
  have hs3:=hs0.trans (bf c1)
  refine ao (ae (sr (an ?_)))
  refine br (ι:=Nat) (fun i=>[]) (fun i=>h) (fun i=>[]) (fun i=>i≤l.length∧fg l=((fg.K1))) ?_ (fun hx1=>?_)
  ·rintro i1 ⟨bd,hs4⟩ e
   try dsimp only at bd
   try dsimp only
   refine sr (an ?_)
   exact aw [I 0] Cq U hX rd (ci hs4)
  ·refine cp (ι:=Nat×List Approval) (fun i=>[(0,.slice eW l.length eV),(3,I ((i.1:Nat):Int))]) (fun i=>h) (fun i=>[]) (fun i=>l.drop i.1=i.2∧i.1≤l.length∧fg l=((fg.L1 l (fg.K1)) i.2 i.1)) (fun i=>i.2.length) (0,l) rd sw ⟨U,Nat.zero_le _,hs3⟩ ?_
   rintro ⟨i1,s1⟩ ⟨hd1,bd,hs6⟩ ag1 e
   try dsimp only at hd1 bd
   rcases s1 with _ | ⟨y1,rz1⟩
   ·have dI:=cU hd1
    try dsimp only
    refine ae (sr (aa (aa (bC sg U (aB (v':=.bool false) U (cb dI) (ac (bg U (bO U ?_))))))))
    exact hx1 i1 _ ⟨bd,hs6⟩ trivial
   ·have dH:=dY hd1
    have bh:=cY hd1
    have eT:=aT hd1
    have gx:=hl.1.1
    try dsimp only
    refine ae (sr (aa (aa (bC sg U (aB (v':=.bool true) U (cb dH) (ac (bn U (ao (ae (aW (ae ?_)))))))))))
    refine my [(0,.slice eW l.length eV),(3,I ((i1:Nat):Int)),(36,.bool ((!(gZ y1))||(decide (0 < ((i1:Nat):Int))&&decide (y1.No≤(nthI l (((i1:Nat):Int) - 1)).No))))] (fun e=>?_) (fun hk1=>?_)
    rotate_left
    ·refine ga ([]) mixed kr jn (fun eX _=>?_)
     refine tm 0 U (tm 1 U (fA 2 (enc:=Approval.cells) eX jn (fun _ _ _ e=>e) sg ty181 hl.1 (nthZ bh) (bB bh) U U U U kr (fun q4 A4=>?_)))
     refine tf 3 U U (fun _ _ hj=>jP ty181 (A4.mono hj.1) U U) (tn 4 U (fu (v:=.bool (gZ y1)) Tryz.call119 (wB h y1 ) U (⟨jn,?_⟩)))
     refine tf 5 U U (fun _ _ _=>ku U) (tm 6 U ?_)
     refine eo 19 U (fun c2=>?_) (fun c2=>?_)
     ·refine tk 7 U U (tk 8 U U (tk 9 U U (tk 10 U U ?_)))
      refine tk 11 U U (tk 12 U U (tk 13 U U (tk 14 U U ?_)))
      refine tk 15 U U (tk 16 U U (tk 17 U U (tk 18 U U ?_)))
      refine tk 19 U U (tk 20 U U (tk 21 U U (tk 22 U U ?_)))
      refine tf 23 U U (fun _ _ _=>co U) (bY kr ?_)
      exact hk1 _ ⟨U,U,(cb (show true=((!(gZ y1))||(decide (0 < ((i1:Nat):Int))&&decide (y1.No≤(nthI l (((i1:Nat):Int) - 1)).No))) from by rw [c2] <;> rfl)),trivial⟩
     ·refine tm 7 U (tf 8 U U (fun _ _ _=>ib U) (tm 9 U ?_))
      refine eo 22 U (fun c3=>?_) (fun c3=>?_)
      ·have c3p:=of_decide_eq_true c3
       refine tm 10 U (tm 11 U (tf 12 U U (fun _ _ _=>mB (v':=I (((i1:Nat):Int) - 1)) U (iu ob)) ?_))
       have ho2:0≤((((i1:Nat):Int) - 1):Int)∧((((i1:Nat):Int) - 1):Int) < ((l).length:Int):=ob
       refine fA 13 (enc:=Approval.cells) eX jn (fun _ _ _ e=>e) sg ty181 hl.1 ho2 (eA ho2) U U U U kr (fun q5 A5=>tf 14 U U (fun _ _ _=>dB pm U) ?_)
       refine tf 15 U U (fun _ _ hj=>gd ty3 (A5.mono hj.1) U) (tm 16 U (tm 17 U ?_))
       refine fA 18 (enc:=Approval.cells) eX jn (fun _ _ _ e=>e) sg ty181 hl.1 (nthZ bh) (bB bh) U U U U kr (fun q6 A6=>tf 19 U U (fun _ _ _=>dB pm U) ?_)
       refine tf 20 U U (fun _ _ hj=>gd ty3 (A6.mono hj.1) U) (tf 21 U U (fun _ _ _=>ib U) (tf 22 U U (fun _ _ _=>co U) ?_))
       refine tf 23 U U (fun _ _ _=>co U) (bY kr ?_)
       exact hk1 _ ⟨U,U,(cb (show decide (y1.No≤(nthI l (((i1:Nat):Int) - 1)).No)=((!(gZ y1))||(decide (0 < ((i1:Nat):Int))&&decide (y1.No≤(nthI l (((i1:Nat):Int) - 1)).No))) from by rw [c2,c3] <;> rfl)),trivial⟩
      ·have c3p:=of_decide_eq_false c3
       refine tk 10 U U (tk 11 U U (tk 12 U U (tk 13 U U ?_)))
       refine tk 14 U U (tk 15 U U (tk 16 U U (tk 17 U U ?_)))
       refine tk 18 U U (tk 19 U U (tk 20 U U (tk 21 U U ?_)))
       refine tf 22 U U (fun _ _ _=>co U) (tf 23 U U (fun _ _ _=>co U) (bY kr ?_))
       exact hk1 _ ⟨U,U,(cb (show false=((!(gZ y1))||(decide (0 < ((i1:Nat):Int))&&decide (y1.No≤(nthI l (((i1:Nat):Int) - 1)).No))) from by rw [c2,c3] <;> rfl)),trivial⟩
    refine aE U (fun c4=>?_) (fun c4=>?_)
    ·have hs8:=hs6.trans (bt c4)
     refine sr (an ?_)
     exact aw [I 280] Cq U hX rd (ci hs8)
    ·have hs10:=hs6.trans (bf c4)
     refine ao (av (ai (aa (aB (v':=I (((i1+1):Nat):Int)) U (bW ob) (an ?_)))))
     exact ag1 ((i1+1),rz1) _ (Nat.lt_succ_self _) ⟨bF hd1,aT hd1,hs10⟩ rd
theorem wy (h:HF) (aP:Register) (bH:er) (ip:Register.ok h aP bH) (hsm:smR aP):Ret Tryz.prog 31 [.agg (Register.cells aP bH).toArray] h (I (iJ aP)):=by
 refine ay Cp U Tryz.ntmps31 U fun X hM hX=>?_
 have hs0:iJ aP=iJ aP:=rfl
 have hsv:=hsm.vers
 refine sr (dy (fun b1=>an (ae (sr (az rO U (aO 0 ty22 U U U (aG (v:=I (ey aP.Appoints)) Tryz.call67 (wN h aP.Appoints bH.gE bH.gD ip.Appoints) U ?_)))))))
 refine aJ U (aa ?_)
 refine tq 5 [(1,Q b1),(12,.bool (((ey aP.Appoints) != 0)||((e6 aP.Deputies) != 0)))] (fun hk1=>?_) (fun e=>?_)
 ·refine ar 7 U (fun c1=>?_) (fun c1=>?_)
  ·refine kq (kq (ah U ?_))
   exact hk1 _ ⟨U,(cb (dL c1)),trivial⟩
  ·refine az zU U (aO 0 ty23 U U U (aG (v:=I (e6 aP.Deputies)) Tryz.call68 (wL h aP.Deputies bH.ik bH.ij ip.Deputies) U (aJ U (ah U ?_))))
   exact hk1 _ ⟨U,(cb (dM c1)),trivial⟩
 refine aa ?_
 refine tq 5 [(1,Q b1),(18,.bool ((((ey aP.Appoints) != 0)||((e6 aP.Deputies) != 0))||((eH aP.Interests) != 0)))] (fun hk2=>?_) (fun e=>?_)
 ·refine ar 13 U (fun c2=>?_) (fun c2=>?_)
  ·refine kq (kq (ah U ?_))
   exact hk2 _ ⟨U,(cb (dL c2)),trivial⟩
  ·refine az pZ U (aO 0 ty24 U U U (aG (v:=I (eH aP.Interests)) Tryz.call69 (wA h aP.Interests bH.gB bH.gA ip.Interests) U (aJ U (ah U ?_))))
   exact hk2 _ ⟨U,(cb (dM c2)),trivial⟩
 refine aa ?_
 refine tq 5 [(1,Q b1),(24,.bool (((((ey aP.Appoints) != 0)||((e6 aP.Deputies) != 0))||((eH aP.Interests) != 0))||((fh aP.Budgets) != 0)))] (fun hk3=>?_) (fun e=>?_)
 ·refine ar 19 U (fun c3=>?_) (fun c3=>?_)
  ·refine kq (kq (ah U ?_))
   exact hk3 _ ⟨U,(cb (dL c3)),trivial⟩
  ·refine az zT U (aO 0 ty25 U U U (aG (v:=I (fh aP.Budgets)) Tryz.call70 (wH h aP.Budgets bH.iX bH.iW ip.Budgets) U (aJ U (ah U ?_))))
   exact hk3 _ ⟨U,(cb (dM c3)),trivial⟩
 refine ac ?_
 refine aE U (fun c4=>?_) (fun c4=>?_)
 ·have hs1:=hs0.trans (bt c4)
  refine sr (an ?_)
  exact aw [I 300] Cp U hX rd (ci hs1)
 ·have hs3:=hs0.trans (bf c4)
  refine ao (ae (sr (az lD U (aO 0 ty26 U U U (aG (v:=I (dp aP.Versions)) Tryz.call71 (tG h aP.Versions bH.f4 bH.f3 ip.Versions ob) U ?_)))))
  refine aJ U (aa ?_)
  refine tq 5 [(1,Q b1),(34,.bool (((dp aP.Versions) != 0)||((eI aP.Docs) != 0)))] (fun hk4=>?_) (fun e=>?_)
  ·refine ar 29 U (fun c5=>?_) (fun c5=>?_)
   ·refine kq (kq (ah U ?_))
    exact hk4 _ ⟨U,(cb (dL c5)),trivial⟩
   ·refine az kF U (aO 0 ty27 U U U (aG (v:=I (eI aP.Docs)) Tryz.call72 (wJ h aP.Docs bH.lj bH.li ip.Docs) U (aJ U (ah U ?_))))
    exact hk4 _ ⟨U,(cb (dM c5)),trivial⟩
  refine aa ?_
  refine tq 5 [(40,.bool ((((dp aP.Versions) != 0)||((eI aP.Docs) != 0))||((fg aP.Approvals) != 0)))] (fun hk5=>?_) (fun e=>?_)
  ·refine ar 35 U (fun c6=>?_) (fun c6=>?_)
   ·refine kq (kq (ah U ?_))
    exact hk5 _ ⟨(cb (dL c6)),trivial⟩
   ·refine az zS U (aO 0 ty28 U U U (aG (v:=I (fg aP.Approvals)) Tryz.call73 (wC h aP.Approvals bH.gT bH.gS ip.Approvals) U (aJ U (ah U ?_))))
    exact hk5 _ ⟨(cb (dM c6)),trivial⟩
  refine ac ?_
  refine aE U (fun c7=>?_) (fun c7=>?_)
  ·have hs4:=hs3.trans (bt c7)
   refine sr (an ?_)
   exact aw [I 300] Cp U hX rd (ci hs4)
  ·have hs6:=hs3.trans (bf c7)
   refine ao (sr (an ?_))
   exact aw [I 0] Cp U hX rd (ci hs6)
theorem vC (h:HF) (who:(List Int)) (eG:Option Addr) (eF:Nat) (hwho:SlC Rp.int h eG eF who):Ret Tryz.prog 32 [.slice eG who.length eF] h (.bool (eP who)):=by
 refine ay Tryz.func32 U Tryz.ntmps32 U fun X hM hX=>?_
 have hs0:eP who=eP who:=rfl
 refine sr (an (ae (sr (an ?_))))
 refine br (ι:=Nat) (fun i=>[]) (fun i=>h) (fun i=>[]) (fun i=>i≤who.length∧eP who=((eP.K1))) ?_ (fun hx1=>?_)
 ·rintro i1 ⟨bd,hs1⟩ e
  try dsimp only at bd
  try dsimp only
  refine sr (an ?_)
  exact aw [.bool true] Tryz.func32 U hX rd (cs hs1)
 ·refine cp (ι:=Nat×List Int) (fun i=>[(0,.slice eG who.length eF),(3,I ((i.1:Nat):Int))]) (fun i=>h) (fun i=>[]) (fun i=>who.drop i.1=i.2∧i.1≤who.length∧eP who=((eP.L1 who (eP.K1)) i.2 i.1)) (fun i=>i.2.length) (0,who) rd sw ⟨U,Nat.zero_le _,hs0⟩ ?_
  rintro ⟨i1,s1⟩ ⟨hd1,bd,hs3⟩ ag1 e
  try dsimp only at hd1 bd
  rcases s1 with _ | ⟨y1,rz1⟩
  ·have dI:=cU hd1
   try dsimp only
   refine ae (sr (aa (aa (bC eL U (aB (v':=.bool false) U (cb dI) (ac (bg U (bO U ?_))))))))
   exact hx1 i1 _ ⟨bd,hs3⟩ trivial
  ·have dH:=dY hd1
   have bh:=cY hd1
   have eT:=aT hd1
   have gx:=hwho.1.1
   try dsimp only
   refine ae (sr (aa (aa (bC eL U (aB (v':=.bool true) U (cb dH) (ac (bn U (ao (ae (aW (ae ?_)))))))))))
   refine my [(0,.slice eG who.length eF),(3,I ((i1:Nat):Int)),(37,.bool ((decide (y1 < 0)||decide (64≤y1))||(decide (0 < ((i1:Nat):Int))&&decide (y1≤(nthI who (((i1:Nat):Int) - 1))))))] (fun e=>?_) (fun hk1=>?_)
   rotate_left
   ·refine ga ([]) mixed kr jn (fun eX _=>?_)
    refine tm 0 U (tm 1 U (fA 2 (enc:=fun y=>[I y]) eX jn (fun _ _ _ e=>e) eL ty3 hwho.1 (nthZ bh) (bB bh) U U U U kr (fun q3 A3=>?_)))
    refine tf 3 U U (fun _ _ hj=>gd ty3 (A3.mono hj.1) U) (tf 4 U U (fun _ _ _=>ib U) (tm 5 U ?_))
    refine eo 15 U (fun c1=>?_) (fun c1=>?_)
    ·have c1p:=of_decide_eq_true c1
     refine tk 6 U U (tk 7 U U (tk 8 U U (tk 9 U U ?_)))
     refine tk 10 U U (tf 11 U U (fun _ _ _=>co U) (tm 12 U ?_))
     refine tk 13 U U (tk 14 U U (tk 15 U U (tk 16 U U ?_)))
     refine tk 17 U U (tk 18 U U (tk 19 U U (tk 20 U U ?_)))
     refine tk 21 U U (tk 22 U U (tk 23 U U (tk 24 U U ?_)))
     refine tk 25 U U (tk 26 U U (tf 27 U U (fun _ _ _=>co U) (bY kr ?_)))
     exact hk1 _ ⟨U,U,(cb (show true=((decide (y1 < 0)||decide (64≤y1))||(decide (0 < ((i1:Nat):Int))&&decide (y1≤(nthI who (((i1:Nat):Int) - 1))))) from by rw [c1] <;> rfl)),trivial⟩
    ·have c1p:=of_decide_eq_false c1
     refine tm 6 U (tm 7 U (fA 8 (enc:=fun y=>[I y]) eX jn (fun _ _ _ e=>e) eL ty3 hwho.1 (nthZ bh) (bB bh) U U U U kr (fun q4 A4=>?_)))
     refine tf 9 U U (fun _ _ hj=>gd ty3 (A4.mono hj.1) U) (tf 10 U U (fun _ _ _=>ib U) (tf 11 U U (fun _ _ _=>co U) ?_))
     refine tm 12 U ?_
     refine eo 22 U (fun c2=>?_) (fun c2=>?_)
     ·have c2p:=of_decide_eq_true c2
      refine tk 13 U U (tk 14 U U (tk 15 U U (tk 16 U U ?_)))
      refine tk 17 U U (tk 18 U U (tk 19 U U (tk 20 U U ?_)))
      refine tk 21 U U (tk 22 U U (tk 23 U U (tk 24 U U ?_)))
      refine tk 25 U U (tk 26 U U (tf 27 U U (fun _ _ _=>co U) (bY kr ?_)))
      exact hk1 _ ⟨U,U,(cb (show true=((decide (y1 < 0)||decide (64≤y1))||(decide (0 < ((i1:Nat):Int))&&decide (y1≤(nthI who (((i1:Nat):Int) - 1))))) from by rw [c1,c2] <;> rfl)),trivial⟩
     ·have c2p:=of_decide_eq_false c2
      refine tm 13 U (tf 14 U U (fun _ _ _=>ib U) (tm 15 U ?_))
      refine eo 25 U (fun c3=>?_) (fun c3=>?_)
      ·have c3p:=of_decide_eq_true c3
       refine tm 16 U (tm 17 U (fA 18 (enc:=fun y=>[I y]) eX jn (fun _ _ _ e=>e) eL ty3 hwho.1 (nthZ bh) (bB bh) U U U U kr (fun q5 A5=>?_)))
       refine tf 19 U U (fun _ _ hj=>gd ty3 (A5.mono hj.1) U) (tm 20 U (tm 21 U ?_))
       refine tf 22 U U (fun _ _ _=>mB (v':=I (((i1:Nat):Int) - 1)) U (iu ob)) ?_
       have ho1:0≤((((i1:Nat):Int) - 1):Int)∧((((i1:Nat):Int) - 1):Int) < ((who).length:Int):=ob
       refine fA 23 (enc:=fun y=>[I y]) eX jn (fun _ _ _ e=>e) eL ty3 hwho.1 ho1 (eA ho1) U U U U kr (fun q6 A6=>tf 24 U U (fun _ _ hj=>gd ty3 (A6.mono hj.1) U) ?_)
       refine tf 25 U U (fun _ _ _=>ib U) (tf 26 U U (fun _ _ _=>co U) (tf 27 U U (fun _ _ _=>co U) ?_))
       refine bY kr ?_
       exact hk1 _ ⟨U,U,(cb (show decide (y1≤(nthI who (((i1:Nat):Int) - 1)))=((decide (y1 < 0)||decide (64≤y1))||(decide (0 < ((i1:Nat):Int))&&decide (y1≤(nthI who (((i1:Nat):Int) - 1))))) from by rw [c1,c2,c3] <;> rfl)),trivial⟩
      ·have c3p:=of_decide_eq_false c3
       refine tk 16 U U (tk 17 U U (tk 18 U U (tk 19 U U ?_)))
       refine tk 20 U U (tk 21 U U (tk 22 U U (tk 23 U U ?_)))
       refine tk 24 U U (tk 25 U U (tf 26 U U (fun _ _ _=>co U) (tf 27 U U (fun _ _ _=>co U) ?_)))
       refine bY kr ?_
       exact hk1 _ ⟨U,U,(cb (show false=((decide (y1 < 0)||decide (64≤y1))||(decide (0 < ((i1:Nat):Int))&&decide (y1≤(nthI who (((i1:Nat):Int) - 1))))) from by rw [c1,c2,c3] <;> rfl)),trivial⟩
   refine aE U (fun c4=>?_) (fun c4=>?_)
   ·have hs5:=hs3.trans (bt c4)
    refine sr (an ?_)
    exact aw [.bool false] Tryz.func32 U hX rd (cs hs5)
   ·have hs7:=hs3.trans (bf c4)
    refine ao (av (ai (aa (aB (v':=I (((i1+1):Nat):Int)) U (bW ob) (an ?_)))))
    exact ag1 ((i1+1),rz1) _ (Nat.lt_succ_self _) ⟨bF hd1,aT hd1,hs7⟩ rd
theorem us (h:HF) (aP:Register) (bH:er) (no:Int) (ip:Register.ok h aP bH):jK Tryz.prog 46 [.agg (Register.cells aP bH).toArray,I no] h (fun v h'=>∃ (rr0:kX),v=.agg (Version.cells (aI aP no) rr0).toArray∧Version.ok h' (aI aP no) rr0):=by
 refine ay Tryz.func46 U Tryz.ntmps46 U fun X hM hX=>?_
 have hs0:aI aP no=aI aP no:=rfl
 refine sr (dy (fun b1=>bX zc70 (fun b2=>ac (ae (sr (an ?_))))))
 let z1:Nat×Obj:=(b2,O [I 0,I 0,I 0,.string (⟨#[]⟩:ByteArray),.slice none 0 0,.slice none 0 0,.slice none 0 0,I 0,I 0,I 0,.string (⟨#[]⟩:ByteArray),.slice none 0 0,I 0] 70)
 refine br (ι:=Nat) (fun i=>[(4,Q b2)]) (fun i=>h) (fun i=>[z1,(b1,O (Register.cells aP bH) 30)]) (fun i=>i≤aP.Versions.length∧aI aP no=((aI.K1))) ?_ (fun hx1=>?_)
 ·rintro i1 ⟨bd,hs1⟩ e
  try dsimp only at bd
  try dsimp only
  refine sr (a8 (fw (cells:=[I 0,I 0,I 0,.string (⟨#[]⟩:ByteArray),.slice none 0 0,.slice none 0 0,.slice none 0 0,I 0,I 0,I 0,.string (⟨#[]⟩:ByteArray),.slice none 0 0,I 0]) (places:=[(0,1),(1,1),(2,1),(3,10)]) Tryz.underlying70 zc70 kr kr ?_))
  refine bN 0 ty70 U U U U U U (ac ?_)
  have hs2:aI aP no=(Version.mk 0 0 0 (Policy.mk (⟨#[]⟩:ByteArray) ([]) ([]) ([]) (Expr.mk 0 0 0 (⟨#[]⟩:ByteArray) ([])) 0)):=hs1
  exact dS [.agg (List.toArray [I 0,I 0,I 0,.string (⟨#[]⟩:ByteArray),.slice none 0 0,.slice none 0 0,.slice none 0 0,I 0,I 0,I 0,.string (⟨#[]⟩:ByteArray),.slice none 0 0,I 0])] Tryz.func46 U ⟨⟨0,_,_,_,_,U,U,.inl ⟨ty70,U⟩⟩,trivial⟩ ⟨(kX.mk (eO.mk none 0 none 0 none 0 (cI.mk none 0))),congrArg (fun r:Version=>(.agg (Version.cells r (kX.mk (eO.mk none 0 none 0 none 0 (cI.mk none 0)))).toArray:Value)) hs2.symm,(by rw [hs2];exact (show Version.ok h (Version.mk 0 0 0 (Policy.mk (⟨#[]⟩:ByteArray) ([]) ([]) ([]) (Expr.mk 0 0 0 (⟨#[]⟩:ByteArray) ([])) 0)) (kX.mk (eO.mk none 0 none 0 none 0 (cI.mk none 0))) from ⟨(show Policy.ok h (Policy.mk (⟨#[]⟩:ByteArray) ([]) ([]) ([]) (Expr.mk 0 0 0 (⟨#[]⟩:ByteArray) ([])) 0) (eO.mk none 0 none 0 none 0 (cI.mk none 0)) from ⟨SlC.nil,SlC.nil,SlC.nil,(show Expr.ok h (Expr.mk 0 0 0 (⟨#[]⟩:ByteArray) ([])) (cI.mk none 0) from Expr.ok.of SlC.nil)⟩)⟩))⟩
 ·refine cp (ι:=Nat×List Version) (fun i=>[(1,I no),(2,Q b1),(4,Q b2),(5,I ((i.1:Nat):Int))]) (fun i=>h) (fun i=>[z1,(b1,O (Register.cells aP bH) 30)]) (fun i=>aP.Versions.drop i.1=i.2∧i.1≤aP.Versions.length∧aI aP no=((aI.L1 no (aI.K1)) i.2 )) (fun i=>i.2.length) (0,aP.Versions) rd sw ⟨U,Nat.zero_le _,hs0⟩ ?_
  rintro ⟨i1,s1⟩ ⟨hd1,bd,hs3⟩ ag1 e
  try dsimp only at hd1 bd
  rcases s1 with _ | ⟨y1,rz1⟩
  ·have dI:=cU hd1
   try dsimp only
   refine ae (sr (aa (az lD U (aO 1 ty26 U U U (bC lb U (aB (v':=.bool false) U (cb dI) (ac (bg U (bO U ?_)))))))))
   exact hx1 i1 _ ⟨bd,hs3⟩ rd
  ·have dH:=dY hd1
   have bh:=cY hd1
   have eT:=aT hd1
   have gx:=ip.Versions.1.1
   try dsimp only
   refine ae (sr (aa (az lD U (aO 1 ty26 U U U (bC lb U (aB (v':=.bool true) U (cb dH) (ac (bn U (ao (ae (aW (sr (az lD U (aO 1 ty26 U U U ?_))))))))))))))
   refine aa (a8 (gL lb ty70 ip.Versions.1 (nthZ bh) (bB bh) U U U (fun q3 cs3 A3 ln3 rr3=>?_)))
   obtain ⟨r3,rfl,ok3⟩:=rr3
   refine az nt U (eC ty3 A3 U (aa (aJ U (ac ?_))))
   refine aE U (fun c2=>?_) (fun c2=>?_)
   ·have hs5:=hs3.trans (bt c2)
    refine sr (az lD U (aO 1 ty26 U U U (aa (a8 (gL lb ty70 ip.Versions.1 (nthZ bh) (bB bh) U U U (fun q4 cs4 A4 ln4 rr4=>?_))))))
    obtain ⟨r4,rfl,ok4⟩:=rr4
    refine ed ty70 A4 U U (bN 0 ty70 U U U U U U (ac ?_))
    have hs6:aI aP no=y1:=hs5
    exact dS [.agg (Version.cells y1 r4).toArray] Tryz.func46 U ⟨⟨0,_,_,_,_,U,U,.inl ⟨ty70,U⟩⟩,trivial⟩ ⟨r4,congrArg (fun r:Version=>(.agg (Version.cells r r4).toArray:Value)) hs6.symm,(by rw [hs6];exact ok4)⟩
   ·have hs7:=hs3.trans (bf c2)
    refine ao (av (ai (aa (aB (v':=I (((i1+1):Nat):Int)) U (bW ob) (an ?_)))))
    exact ag1 ((i1+1),rz1) _ (Nat.lt_succ_self _) ⟨bF hd1,aT hd1,hs7⟩ rd
theorem wX (h:HF) (aP:Register) (bH:er) (doc:Int) (who:(List Int)) (eG:Option Addr) (eF:Nat) (l:(List Int)) (eW:Option Addr) (eV:Nat) (ip:Register.ok h aP bH) (hwho:SlC Rp.int h eG eF who) (hl:SlC Rp.int h eW eV l) (hsm:smR aP):Ret Tryz.prog 17 [.agg (Register.cells aP bH).toArray,I doc,.slice eG who.length eF,.slice eW l.length eV] h (.bool (e8 aP doc who l)):=by
 refine ay Tryz.func17 U Tryz.ntmps17 U fun X hM hX=>?_
 have hs0:e8 aP doc who l=e8 aP doc who l:=rfl
 refine sr (dy (fun b1=>an (ae (sr (aa (bC eL U (aa (ac ?_))))))))
 refine br (ι:=Nat) (fun i=>[(1,I doc),(2,.slice eG who.length eF),(4,Q b1)]) (fun i=>h) (fun i=>[(b1,O (Register.cells aP bH) 30)]) (fun i=>i≤l.length∧e8 aP doc who l=((e8.K1 aP doc who))) ?_ (fun hx1=>?_)
 ·rintro i1 ⟨bd,hs1⟩ e
  try dsimp only at bd
  try dsimp only
  refine sr (dq 0 ty30 U U U (aG (v:=.bool (gV aP)) Tryz.call9 (zu h aP bH ip) U (aa ?_)))
  refine tq 4 [(1,I doc),(2,.slice eG who.length eF),(4,Q b1),(27,.bool ((gV aP)&&((iJ aP)==0)))] (fun hk1=>?_) (fun e=>?_)
  ·refine ar 23 U (fun c2=>?_) (fun c2=>?_)
   ·refine dq 0 ty30 U U U (aG (v:=I (iJ aP)) Tryz.call31 (wy h aP bH ip ob) U ?_)
    refine aJ U (ah U ?_)
    exact hk1 _ ⟨U,U,U,(cb (cW c2)),trivial⟩
   ·refine kq (bP (ah U ?_))
    exact hk1 _ ⟨U,U,U,(cb (cX c2)),trivial⟩
  refine aa ?_
  refine tq 5 [(2,.slice eG who.length eF),(33,.bool (((gV aP)&&((iJ aP)==0))&&decide (0≤(cK aP doc))))] (fun hk2=>?_) (fun e=>?_)
  ·refine ar 28 U (fun c3=>?_) (fun c3=>?_)
   ·refine dq 0 ty30 U U U (aa (aG (v:=I (cK aP doc)) Tryz.call19 (tE h aP bH doc ip) U (aJ U (ah U ?_))))
    exact hk2 _ ⟨U,(cb (cW c3)),trivial⟩
   ·refine kq (kq (ah U ?_))
    exact hk2 _ ⟨U,(cb (cX c3)),trivial⟩
  refine aa ?_
  refine tq 3 [(37,.bool ((((gV aP)&&((iJ aP)==0))&&decide (0≤(cK aP doc)))&&(eP who)))] (fun hk3=>?_) (fun e=>?_)
  ·refine ar 34 U (fun c4=>?_) (fun c4=>?_)
   ·refine aa (aG (v:=.bool (eP who)) Tryz.call32 (vC h who eG eF hwho) U (ah U ?_))
    exact hk3 _ ⟨(cb (cW c4)),trivial⟩
   ·refine kq (ah U ?_)
    exact hk3 _ ⟨(cb (cX c4)),trivial⟩
  refine an ?_
  exact aw [.bool ((((gV aP)&&((iJ aP)==0))&&decide (0≤(cK aP doc)))&&(eP who))] Tryz.func17 U hX rd (cs hs1)
 ·refine cp (ι:=Nat×List Int) (fun i=>[(1,I doc),(2,.slice eG who.length eF),(4,Q b1),(11,.slice eW l.length eV),(12,I ((l.length:Nat):Int)),(13,I ((i.1:Nat):Int))]) (fun i=>h) (fun i=>[(b1,O (Register.cells aP bH) 30)]) (fun i=>l.drop i.1=i.2∧i.1≤l.length∧e8 aP doc who l=((e8.L1 (e8.K1 aP doc who)) i.2 )) (fun i=>i.2.length) (0,l) rd sw ⟨U,Nat.zero_le _,hs0⟩ ?_
  rintro ⟨i1,s1⟩ ⟨hd1,bd,hs3⟩ ag1 e
  try dsimp only at hd1 bd
  rcases s1 with _ | ⟨y1,rz1⟩
  ·have dI:=cU hd1
   try dsimp only
   refine sr (aB (v':=.bool false) U (cb dI) (ac (ae (bg U (bO U ?_)))))
   exact hx1 i1 _ ⟨bd,hs3⟩ rd
  ·have dH:=dY hd1
   have bh:=cY hd1
   have eT:=aT hd1
   have gx:=hl.1.1
   try dsimp only
   refine sr (aB (v':=.bool true) U (cb dH) (ac (ae (bn U (ao (ae (aW (sr (a8 (fQ (enc:=fun y=>[I y]) (fun _ _ _ e=>e) eL ty3 hl.1 (nthZ bh) (bB bh) U U U (fun q2 A2=>?_)))))))))))
   refine eC ty3 A2 U (an (sr (aa (aG (v:=.bool (ei y1)) Dr (lq h y1 ) U (cV U (ac ?_))))))
   refine aE U (fun c5=>?_) (fun c5=>?_)
   ·have hs5:=hs3.trans (bt c5)
    refine sr (an ?_)
    exact aw [.bool false] Tryz.func17 U hX rd (cs hs5)
   ·have hs7:=hs3.trans (bf c5)
    refine ao (av (ai (aB (v':=I (((i1+1):Nat):Int)) U (bW ob) (aa (ac ?_)))))
    exact ag1 ((i1+1),rz1) _ (Nat.lt_succ_self _) ⟨bF hd1,aT hd1,hs7⟩ rd
theorem wY (h:HF) (aP:Register) (bH:er) (d:Document) (sd:gM) (who:(List Int)) (eG:Option Addr) (eF:Nat) (cM:Int) (known:Int) (ip:Register.ok h aP bH) (hd:Document.ok h d sd) (hwho:SlC Rp.int h eG eF who) (hsm:smR aP) (hsw:who.length≤2000000) (hat:(0≤cM∧cM≤1099511627776)∧(0≤d.At∧d.At≤1099511627776)∧0≤d.Kind) (hk:Kinds h):Ret Tryz.prog 18 [.agg (Register.cells aP bH).toArray,.agg (Document.cells d sd).toArray,.slice eG who.length eF,I cM,I known] h (.tuple #[.bool ((bK aP d who cM known).1),.bool ((bK aP d who cM known).2)]):=by
 refine ay Ag U Tryz.ntmps18 U fun X hM hX=>?_
 have hs0:bK aP d who cM known=bK aP d who cM known:=rfl
 have hjl:=xV aP.Versions d.At cM known
 have hvl:=hsm.vers.len
 refine sr (dy (fun b1=>dy (fun b2=>ba (an (ae (sr (aa (az ml U (aO 0 ty3 U U U (aJ U (aa ?_)))))))))))
 refine tq 5 [(2,.slice eG who.length eF),(3,I cM),(4,I known),(5,Q b1),(6,Q b2),(41,.bool (decide (cM < d.At)||decide (d.Until≤cM)))] (fun hk1=>?_) (fun e=>?_)
 ·refine ar 36 U (fun c1=>?_) (fun c1=>?_)
  ·refine kq (kq (ah U ?_))
   exact hk1 _ ⟨U,U,U,U,U,(cb (dL c1)),trivial⟩
  ·refine aa (az pX U (aO 0 ty3 U U U (aJ U (ah U ?_))))
   exact hk1 _ ⟨U,U,U,U,U,(cb (dM c1)),trivial⟩
 refine ac ?_
 refine aE U (fun c2=>?_) (fun c2=>?_)
 ·have hs1:=hs0.trans (bt c2)
  refine sr (ba (an ?_))
  have hs2:bK aP d who cM known=(false,true):=hs1
  exact aw [.bool false,.bool true] Ag U hX rd (congrArg (fun r:(Bool×Bool)=>(.tuple #[.bool r.1,.bool r.2]:Value)) hs2.symm)
 ·have hs3:=hs0.trans (bf c2)
  refine ao (sr (az lD U (aO 1 ty26 U U U (az ml U (aO 0 ty3 U U U (aa (aa (a8 (dg Tryz.call44 (nC h aP.Versions bH.f4 bH.f3 d.At cM known ip.Versions hsm.vers hk) U (fun v1 h1 hle1 hp1=>?_))))))))))
  obtain ⟨rb1,rc1,rfl,sl1⟩:=hp1
  refine aa (bG U U (bG U U (bG U U (ba (ba (an (ae (sr (aa (aJ U (aa ?_)))))))))))
  refine tq 4 [(2,.slice eG who.length eF),(3,I cM),(4,I known),(5,Q b1),(6,Q b2),(12,.slice rb1 (((aA aP.Versions d.At cM known).1).length) rc1),(13,I ((aA aP.Versions d.At cM known).2.1)),(14,I ((aA aP.Versions d.At cM known).2.2)),(59,.bool (((aA aP.Versions d.At cM known).2.2 != 0)||(((((aA aP.Versions d.At cM known).1).length:Nat):Int)==0)))] (fun hk2=>?_) (fun e=>?_)
  ·refine ar 55 U (fun c3=>?_) (fun c3=>?_)
   ·refine kq (bP (ah U ?_))
    exact hk2 _ ⟨U,U,U,U,U,U,U,U,(cb (dL c3)),trivial⟩
   ·refine aa (bC eL U (aJ U (ah U ?_)))
    exact hk2 _ ⟨U,U,U,U,U,U,U,U,(cb (dM c3)),trivial⟩
  refine ac ?_
  refine aE U (fun c4=>?_) (fun c4=>?_)
  ·have hs4:=hs3.trans (bt c4)
   refine sr (aa (aJ U (ba (an ?_))))
   have hs5:bK aP d who cM known=(false,((aA aP.Versions d.At cM known).2.2==0)):=hs4
   exact aw [.bool false,.bool ((aA aP.Versions d.At cM known).2.2==0)] Ag U hX rd (congrArg (fun r:(Bool×Bool)=>(.tuple #[.bool r.1,.bool r.2]:Value)) hs5.symm)
  ·have hs6:=hs3.trans (bf c4)
   refine ao (sr (an (ae (sr (aa (bC eL U (aa (ac ?_))))))))
   let z2:Nat×Obj:=(b1,O (Register.cells aP bH) 30)
   let z3:Nat×Obj:=(b2,O (Document.cells d sd) 52)
   refine br (ι:=Nat×(List Int)×Option Addr×Nat×LH×HF) (fun i=>[(3,I cM),(4,I known),(5,Q b1),(6,Q b2),(12,.slice rb1 (((aA aP.Versions d.At cM known).1).length) rc1),(13,I ((aA aP.Versions d.At cM known).2.1)),(15,.slice i.2.2.1 i.2.1.length i.2.2.2.1)]) (fun i=>i.2.2.2.2.2) (fun i=>[z3,z2]++(i.2.2.2.2.1)) (fun i=>i.1≤who.length∧bK aP d who cM known=((bK.K1 aP d cM known) i.2.1)∧ep Rp.int 3 i.2.2.2.2.2 i.2.1 i.2.2.1 i.2.2.2.1 i.2.2.2.2.1∧i.2.1.length≤0+i.1∧HF.le h1 i.2.2.2.2.2) ?_ (fun hx1=>?_)
   ·rintro ⟨i1,ic,ru,rq,zN,hh1⟩ ⟨bd,hs7,sV,Di,hl1⟩ e
    try dsimp only at bd sV Di hl1
    try dsimp only
    refine sr (an (ae (sr (aa (bC eL U (aa (ac (gj Rp.ce ([z3,z2]) zN ([]) ap hM sV (fun h7 hle7 sl6=>?_)))))))))
    refine br (ι:=Nat×(List Bool)×Option Addr×Nat×LH×HF) (fun i=>[(13,I ((aA aP.Versions d.At cM known).2.1)),(21,.slice i.2.2.1 i.2.1.length i.2.2.2.1)]) (fun i=>i.2.2.2.2.2) (fun i=>[z3,z2]++(i.2.2.2.2.1)) (fun i=>i.1≤((aA aP.Versions d.At cM known).1).length∧bK aP d who cM known=((bK.K2 aP d cM known) i.2.1)∧ep Rp.bool 4 i.2.2.2.2.2 i.2.1 i.2.2.1 i.2.2.2.1 i.2.2.2.2.1∧i.2.1.length≤0+i.1∧HF.le h7 i.2.2.2.2.2) ?_ (fun hx2=>?_)
    ·rintro ⟨i2,jG,xn,xm,nS,hh2⟩ ⟨jW,hs8,pR,Dh,hl2⟩ e
     try dsimp only at jW pR Dh hl2
     try dsimp only
     refine sr (aa (aa (mz Rp.lP ([z3,z2]) nS ([]) ap hM pR (fun h12 hle12 sl10=>?_))))
     refine aG (v:=.tuple #[.bool ((dC ((aA aP.Versions d.At cM known).2.1) jG).1),I ((dC ((aA aP.Versions d.At cM known).2.1) jG).2)]) Tryz.call49 (nD h12 ((aA aP.Versions d.At cM known).2.1) jG xn xm sl10 ob) U ?_
     refine aa (bG U U (bG U U (ba (an (sr (aa (aa (aJ U (ba (an ?_))))))))))
     have hs9:bK aP d who cM known=((dC ((aA aP.Versions d.At cM known).2.1) jG).1,((dC ((aA aP.Versions d.At cM known).2.1) jG).2==0)):=hs8
     exact aw [.bool ((dC ((aA aP.Versions d.At cM known).2.1) jG).1),.bool ((dC ((aA aP.Versions d.At cM known).2.1) jG).2==0)] Ag U hX rd (congrArg (fun r:(Bool×Bool)=>(.tuple #[.bool r.1,.bool r.2]:Value)) hs9.symm)
    ·refine cp (ι:=Nat×(List Bool)×Option Addr×Nat×LH×HF×List Int) (fun i=>[(3,I cM),(4,I known),(5,Q b1),(6,Q b2),(13,I ((aA aP.Versions d.At cM known).2.1)),(15,.slice ru ic.length rq),(21,.slice i.2.2.1 i.2.1.length i.2.2.2.1),(89,.slice rb1 (((aA aP.Versions d.At cM known).1).length) rc1),(90,I ((((aA aP.Versions d.At cM known).1).length:Nat):Int)),(91,I ((i.1:Nat):Int))]) (fun i=>i.2.2.2.2.2.1) (fun i=>[z3,z2]++(i.2.2.2.2.1)) (fun i=>((aA aP.Versions d.At cM known).1).drop i.1=i.2.2.2.2.2.2∧i.1≤((aA aP.Versions d.At cM known).1).length∧bK aP d who cM known=((bK.L2 aP d cM known ic (bK.K2 aP d cM known)) i.2.2.2.2.2.2 i.2.1)∧ep Rp.bool 4 i.2.2.2.2.2.1 i.2.1 i.2.2.1 i.2.2.2.1 i.2.2.2.2.1∧i.2.1.length≤0+i.1∧HF.le h7 i.2.2.2.2.2.1) (fun i=>i.2.2.2.2.2.2.length) (0,[],none,0,[],h7,(aA aP.Versions d.At cM known).1) rd sw ⟨U,Nat.zero_le _,hs7,ep.nil,lo,(HF.le_refl h7)⟩ ?_
     rintro ⟨i2,jG,xn,xm,nS,hh2,s2⟩ ⟨hd2,jW,hs10,pR,Dh,hl2⟩ ag1 e
     try dsimp only at hd2 jW pR Dh hl2
     rcases s2 with _ | ⟨y2,rz2⟩
     ·have sU:=cU hd2
      try dsimp only
      refine sr (aB (v':=.bool false) U (cb sU) (ac (ae (bg U (bO U ?_)))))
      exact hx2 (i2,jG,xn,xm,nS,hh2) _ ⟨jW,hs10,pR,lo,hl2⟩ rd
     ·have qr:=dY hd2
      have lu:=cY hd2
      have w9:=aT hd2
      have Dc:=(sl1.mono Rp.ce (hl1.t hle7)).1.1
      have hsp:=so hsm y2
      have hofl:=hsp.2.2.2.1
      try dsimp only
      refine sr (aB (v':=.bool true) U (cb qr) (ac (ae (bn U (ao (ae (aW (sr (a8 (fQ (enc:=fun y=>[I y]) (fun _ _ _ e=>e) eL ty3 (sl1.mono Rp.ce ((hl1.t hle7).t hl2)).1 (nthZ lu) (bB lu) U U U (fun q4 A4=>?_)))))))))))
      refine eC ty3 A4 U (an (sr (dq 1 ty30 U U U (aa (a8 (dg Tryz.call46 (us hh2 aP bH y2 (ip.mono (((hle1.t hl1).t hle7).t hl2))) U (fun v11 h13 hle13 hp11=>?_)))))))
      obtain ⟨rr3,rfl,ok3⟩:=hp11
      refine a8 (gH (FJ Hm ty68 U U) (bX zc68 (fun b12=>bN 0 ty68 U U U U U U (iv (L':=[(b12,O (Policy.cells ((aI aP y2).Policy) rr3.Policy) 68),z3,z2]++(nS)) U ?_))))
      refine ac (sr (an (ae (sr (az jv U (aO 0 ty62 U U U (bC kL U (aa (ac ?_)))))))))
      let z1:Nat×Obj:=(b12,O (Policy.cells ((aI aP y2).Policy) rr3.Policy) 68)
      refine br (ι:=Nat×(List (List Holder))×Option Addr×Nat×LH×HF) (fun i=>[(3,I cM),(4,I known),(5,Q b1),(6,Q b2),(13,I ((aA aP.Versions d.At cM known).2.1)),(15,.slice ru ic.length rq),(21,.slice xn jG.length xm),(24,Q b12),(25,.slice i.2.2.1 i.2.1.length i.2.2.2.1),(89,.slice rb1 (((aA aP.Versions d.At cM known).1).length) rc1),(90,I ((((aA aP.Versions d.At cM known).1).length:Nat):Int)),(91,I ((i2:Nat):Int))]) (fun i=>i.2.2.2.2.2) (fun i=>[z1,z3,z2]++(nS++(i.2.2.2.2.1))) (fun i=>i.1≤(((aI aP y2).Policy).Offices).length∧bK aP d who cM known=((fun zg4_25=>(bK.L2 aP d cM known ic (bK.K2 aP d cM known) rz2 (jG++[(((((bi ((aI aP y2).Policy) d.Kind d.Value zg4_25 ic).2==0)&&(bi ((aI aP y2).Policy) d.Kind d.Value zg4_25 ic).1)&&decide (d.Kind < ((((aI aP y2).Policy).Rules.length:Nat):Int)))&&decide ((nthI (((aI aP y2).Policy).Rules) d.Kind).Think≤(cM - d.At)))]))) i.2.1)∧ep (Rp.sl Holder.rp) 101 i.2.2.2.2.2 i.2.1 i.2.2.1 i.2.2.2.1 i.2.2.2.2.1∧i.2.1.length≤0+i.1∧HF.le h13 i.2.2.2.2.2∧(∀ y∈i.2.1,y.length≤2000000)) ?_ (fun hx4=>?_)
      ·rintro ⟨i4,kC,Df,De,Dg,hh4⟩ ⟨pO,hs12,uJ,Dd,hl4,u4_0⟩ e
       try dsimp only at pO uJ Dd hl4 u4_0
       try dsimp only
       refine sr (dq 0 ty68 U U U (az oH U (aO 1 ty3 U U U (az rN U (aO 1 ty3 U U U (aa (aa (mz (Rp.oe Holder.aN) ([z1,z3,z2]++(nS)) Dg ([]) ap hM uJ (fun h16 hle16 sl13=>?_)))))))))
       refine iv (L':=[z1,z3,z2]++(nS)) ap ?_
       refine aG (v:=.tuple #[.bool ((bi ((aI aP y2).Policy) d.Kind d.Value kC ic).1),I ((bi ((aI aP y2).Policy) d.Kind d.Value kC ic).2)]) Tryz.call48 (nL h16 ((aI aP y2).Policy) rr3.Policy d.Kind d.Value kC Df De ic ru rq (ok3.Policy.mono (hl4.t hle16)) sl13 (sl6.mono Rp.ce (((hl2.t hle13).t hl4).t hle16)) (so hsm _) ob ob (hk.mono ((((((hle1.t hl1).t hle7).t hl2).t hle13).t hl4).t hle16))) U ?_
       refine aa (bG U U (bG U U (ba (an ?_))))
       refine vN (ι:=Option Addr×Nat×LH) (fun i=>[(3,I cM),(4,I known),(5,Q b1),(6,Q b2),(13,I ((aA aP.Versions d.At cM known).2.1)),(15,.slice ru ic.length rq),(21,.slice i.1 ((jG++[(((((bi ((aI aP y2).Policy) d.Kind d.Value kC ic).2==0)&&(bi ((aI aP y2).Policy) d.Kind d.Value kC ic).1)&&decide (d.Kind < ((((aI aP y2).Policy).Rules.length:Nat):Int)))&&decide ((nthI (((aI aP y2).Policy).Rules) d.Kind).Think≤(cM - d.At)))]).length) i.2.1),(89,.slice rb1 (((aA aP.Versions d.At cM known).1).length) rc1),(90,I ((((aA aP.Versions d.At cM known).1).length:Nat):Int)),(91,I ((i2:Nat):Int))]) (fun i=>[z1,z3,z2]++(i.2.2)) (fun i=>ep Rp.bool 4 h16 (jG++[(((((bi ((aI aP y2).Policy) d.Kind d.Value kC ic).2==0)&&(bi ((aI aP y2).Policy) d.Kind d.Value kC ic).1)&&decide (d.Kind < ((((aI aP y2).Policy).Rules.length:Nat):Int)))&&decide ((nthI (((aI aP y2).Policy).Rules) d.Kind).Think≤(cM - d.At)))]) i.1 i.2.1 i.2.2) ?_ (fun hk3=>?_)
       rotate_left
       ·refine ga ([z1,z3,z2]) mixed kr jn (fun eX _=>?_)
        refine tm 0 U (tm 1 U ?_)
        refine tf 2 U U (fun _ _ _=>ib U) (tm 3 U ?_)
        refine eo 135 U (fun c21=>?_) (fun c21=>?_)
        ·refine tm 4 U (tf 5 U U (fun _ _ _=>co U) ?_)
         refine tm 6 U ?_
         refine eo 138 U (fun c22=>?_) (fun c22=>?_)
         ·refine tf 7 U U (fun _ _ _=>dB oH U) (tf 8 U U (fun _ _ hj=>gu ty3 U (hj.nth (i:=1) U) U) ?_)
          refine tf 9 U U (fun _ _ _=>dB e9 U) (tf 10 U U (fun _ _ hj=>gu ty63 U (hj.nth (i:=0) U) U) ?_)
          refine tf 11 U U (fun _ _ _=>DX jJ U) (tf 12 U U (fun _ _ _=>ib U) ?_)
          refine tf 13 U U (fun _ _ _=>co U) (tm 14 U ?_)
          refine eo 146 U (fun c23=>?_) (fun c23=>?_)
          ·have c23p:=of_decide_eq_true c23
           refine tm 15 U (tf 16 U U (fun _ _ _=>dB ml U) ?_)
           refine tf 17 U U (fun _ _ hj=>gu ty3 U (hj.nth (i:=1) U) U) (tf 18 U U (fun _ _ _=>mB (v':=I (cM - d.At)) U (iu ob)) ?_)
           refine tf 19 U U (fun _ _ _=>dB e9 U) (tf 20 U U (fun _ _ hj=>gu ty63 U (hj.nth (i:=0) U) U) ?_)
           refine tf 21 U U (fun _ _ _=>dB oH U) (tf 22 U U (fun _ _ hj=>gu ty3 U (hj.nth (i:=1) U) U) ?_)
           have ho2:0≤(d.Kind:Int)∧(d.Kind:Int) < ((((aI aP y2).Policy).Rules).length:Int):=ob
           refine iY 23 eX jn jJ ty107 (ok3.Policy.Rules.mono Rule.aN (hl4.t hle16)).1 ho2 (eA ho2) U U U U kr (fun q5 cs1 A5 ln1 rr4=>?_)
           obtain ⟨r1,rfl,ok4⟩:=rr4
           refine tf 24 U U (fun _ _ _=>dB mX U) (tf 25 U U (fun _ _ hj=>tH 2 ty3 (A5.mono hj.1) U U) ?_)
           refine tf 26 U U (fun _ _ _=>ib U) (tf 27 U U (fun _ _ _=>co U) ?_)
           refine tn 28 U (ck (cells:=[.bool (decide ((nthI (((aI aP y2).Policy).Rules) d.Kind).Think≤(cM - d.At)))]) lT ty4 zc4 U U kr (fun b14=>⟨jn,?_⟩))
           let z4:Nat×Obj:=(b14,O [.bool (decide ((nthI (((aI aP y2).Policy).Rules) d.Kind).Think≤(cM - d.At)))] 4)
           refine tn 29 U (eK Rp.nA ([z4,z1,z3,z2]) ([]) (fun G=>[z4,z1,z3,z2]++(G)) ap (fun _=>ap) lT ty4 zc4 U bytes4 (pR.mono Rp.lP ((hle13.t hl4).t hle16)) U U (eZ 0 U (show bV Rp.bool h16 [.bool (decide ((nthI (((aI aP y2).Policy).Rules) d.Kind).Think≤(cM - d.At)))] ([decide ((nthI (((aI aP y2).Policy).Rules) d.Kind).Think≤(cM - d.At))]) from ⟨[.bool (decide ((nthI (((aI aP y2).Policy).Rules) d.Kind).Think≤(cM - d.At)))],[],U,U,U,U⟩)) lo lo (fun ob9 oc9 G9 gr9=>?_))
           refine ⟨jn,?_⟩
           refine tf 30 U U (fun _ _ _=>fO) (bY kr ?_)
           refine cE (L':=[z1,z3,z2]++(G9)) js ?_
           rw [show (jG++[decide ((nthI (((aI aP y2).Policy).Rules) d.Kind).Think≤(cM - d.At))])=(jG++[(((((bi ((aI aP y2).Policy) d.Kind d.Value kC ic).2==0)&&(bi ((aI aP y2).Policy) d.Kind d.Value kC ic).1)&&decide (d.Kind < ((((aI aP y2).Policy).Rules.length:Nat):Int)))&&decide ((nthI (((aI aP y2).Policy).Rules) d.Kind).Think≤(cM - d.At)))]) from by simp only [c21,c22,c23,cond_true,cond_false,Bool.and_true,Bool.and_false,Bool.true_and,Bool.false_and]] at gr9 ⊢
           exact hk3 (ob9,oc9,G9) _ gr9 rd
          ·have c23p:=of_decide_eq_false c23
           refine tk 15 U U (tk 16 U U (tk 17 U U ?_))
           refine tk 18 U U (tk 19 U U (tk 20 U U ?_))
           refine tk 21 U U (tk 22 U U (tk 23 U U ?_))
           refine tk 24 U U (tk 25 U U (tk 26 U U ?_))
           refine tf 27 U U (fun _ _ _=>co U) (tn 28 U (ck (cells:=[.bool false]) lT ty4 zc4 U U kr (fun b15=>?_)))
           refine ⟨jn,?_⟩
           refine tn 29 U (eK Rp.nA ([(b15,O [.bool false] 4),z1,z3,z2]) ([]) (fun G=>[(b15,O [.bool false] 4),z1,z3,z2]++(G)) ap (fun _=>ap) lT ty4 zc4 U bytes4 (pR.mono Rp.lP ((hle13.t hl4).t hle16)) U U (eZ 0 U (show bV Rp.bool h16 [.bool false] ([false]) from ⟨[.bool false],[],U,U,U,U⟩)) lo lo (fun ob10 oc10 G10 gr10=>?_))
           refine ⟨jn,?_⟩
           refine tf 30 U U (fun _ _ _=>fO) (bY kr ?_)
           refine cE (L':=[z1,z3,z2]++(G10)) js ?_
           rw [show (jG++[false])=(jG++[(((((bi ((aI aP y2).Policy) d.Kind d.Value kC ic).2==0)&&(bi ((aI aP y2).Policy) d.Kind d.Value kC ic).1)&&decide (d.Kind < ((((aI aP y2).Policy).Rules.length:Nat):Int)))&&decide ((nthI (((aI aP y2).Policy).Rules) d.Kind).Think≤(cM - d.At)))]) from by simp only [c21,c22,c23,cond_true,cond_false,Bool.and_true,Bool.and_false,Bool.true_and,Bool.false_and]] at gr10 ⊢
           exact hk3 (ob10,oc10,G10) _ gr10 rd
         ·refine tk 7 U U (tk 8 U U (tk 9 U U ?_))
          refine tk 10 U U (tk 11 U U (tk 12 U U ?_))
          refine tf 13 U U (fun _ _ _=>co U) (tm 14 U ?_)
          refine tk 15 U U (tk 16 U U (tk 17 U U ?_))
          refine tk 18 U U (tk 19 U U (tk 20 U U ?_))
          refine tk 21 U U (tk 22 U U (tk 23 U U ?_))
          refine tk 24 U U (tk 25 U U (tk 26 U U ?_))
          refine tf 27 U U (fun _ _ _=>co U) (tn 28 U (ck (cells:=[.bool false]) lT ty4 zc4 U U kr (fun b16=>?_)))
          refine ⟨jn,?_⟩
          refine tn 29 U (eK Rp.nA ([(b16,O [.bool false] 4),z1,z3,z2]) ([]) (fun G=>[(b16,O [.bool false] 4),z1,z3,z2]++(G)) ap (fun _=>ap) lT ty4 zc4 U bytes4 (pR.mono Rp.lP ((hle13.t hl4).t hle16)) U U (eZ 0 U (show bV Rp.bool h16 [.bool false] ([false]) from ⟨[.bool false],[],U,U,U,U⟩)) lo lo (fun ob11 oc11 G11 gr11=>?_))
          refine ⟨jn,?_⟩
          refine tf 30 U U (fun _ _ _=>fO) (bY kr ?_)
          refine cE (L':=[z1,z3,z2]++(G11)) js ?_
          rw [show (jG++[false])=(jG++[(((((bi ((aI aP y2).Policy) d.Kind d.Value kC ic).2==0)&&(bi ((aI aP y2).Policy) d.Kind d.Value kC ic).1)&&decide (d.Kind < ((((aI aP y2).Policy).Rules.length:Nat):Int)))&&decide ((nthI (((aI aP y2).Policy).Rules) d.Kind).Think≤(cM - d.At)))]) from by simp only [c21,c22,cond_true,cond_false,Bool.and_true,Bool.and_false,Bool.true_and,Bool.false_and]] at gr11 ⊢
          exact hk3 (ob11,oc11,G11) _ gr11 rd
        ·refine tk 4 U U (tf 5 U U (fun _ _ _=>co U) ?_)
         refine tm 6 U (tk 7 U U ?_)
         refine tk 8 U U (tk 9 U U (tk 10 U U ?_))
         refine tk 11 U U (tk 12 U U (tf 13 U U (fun _ _ _=>co U) ?_))
         refine tm 14 U (tk 15 U U ?_)
         refine tk 16 U U (tk 17 U U (tk 18 U U ?_))
         refine tk 19 U U (tk 20 U U (tk 21 U U ?_))
         refine tk 22 U U (tk 23 U U (tk 24 U U ?_))
         refine tk 25 U U (tk 26 U U (tf 27 U U (fun _ _ _=>co U) ?_))
         refine tn 28 U (ck (cells:=[.bool false]) lT ty4 zc4 U U kr (fun b17=>⟨jn,?_⟩))
         refine tn 29 U (eK Rp.nA ([(b17,O [.bool false] 4),z1,z3,z2]) ([]) (fun G=>[(b17,O [.bool false] 4),z1,z3,z2]++(G)) ap (fun _=>ap) lT ty4 zc4 U bytes4 (pR.mono Rp.lP ((hle13.t hl4).t hle16)) U U (eZ 0 U (show bV Rp.bool h16 [.bool false] ([false]) from ⟨[.bool false],[],U,U,U,U⟩)) lo lo (fun ob12 oc12 G12 gr12=>?_))
         refine ⟨jn,?_⟩
         refine tf 30 U U (fun _ _ _=>fO) (bY kr ?_)
         refine cE (L':=[z1,z3,z2]++(G12)) js ?_
         rw [show (jG++[false])=(jG++[(((((bi ((aI aP y2).Policy) d.Kind d.Value kC ic).2==0)&&(bi ((aI aP y2).Policy) d.Kind d.Value kC ic).1)&&decide (d.Kind < ((((aI aP y2).Policy).Rules.length:Nat):Int)))&&decide ((nthI (((aI aP y2).Policy).Rules) d.Kind).Think≤(cM - d.At)))]) from by simp only [c21,cond_true,cond_false,Bool.and_true,Bool.and_false,Bool.true_and,Bool.false_and]] at gr12 ⊢
         exact hk3 (ob12,oc12,G12) _ gr12 rd
       rintro ⟨ob9,oc9,G9⟩ gr9 e
       try dsimp only at gr9
       try dsimp only
       refine av (ai (aB (v':=I (((i2+1):Nat):Int)) U (bW ob) (aa (ac ?_))))
       refine cE (L':=[z3,z2]++(G9)) js ?_
       exact ag1 ((i2+1),(jG++[(((((bi ((aI aP y2).Policy) d.Kind d.Value kC ic).2==0)&&(bi ((aI aP y2).Policy) d.Kind d.Value kC ic).1)&&decide (d.Kind < ((((aI aP y2).Policy).Rules.length:Nat):Int)))&&decide ((nthI (((aI aP y2).Policy).Rules) d.Kind).Think≤(cM - d.At)))]),ob9,oc9,G9,h16,rz2) _ (Nat.lt_succ_self _) ⟨bF hd2,aT hd2,hs12,gr9,lo,(((hl2.t hle13).t hl4).t hle16)⟩ rd
      ·refine cp (ι:=Nat×(List (List Holder))×Option Addr×Nat×LH×HF×List ByteArray) (fun i=>[(3,I cM),(4,I known),(5,Q b1),(6,Q b2),(13,I ((aA aP.Versions d.At cM known).2.1)),(15,.slice ru ic.length rq),(21,.slice xn jG.length xm),(24,Q b12),(25,.slice i.2.2.1 i.2.1.length i.2.2.2.1),(89,.slice rb1 (((aA aP.Versions d.At cM known).1).length) rc1),(90,I ((((aA aP.Versions d.At cM known).1).length:Nat):Int)),(91,I ((i2:Nat):Int)),(101,I ((((aI aP y2).Policy).Offices.length:Nat):Int)),(102,I ((i.1:Nat):Int))]) (fun i=>i.2.2.2.2.2.1) (fun i=>[z1,z3,z2]++(nS++(i.2.2.2.2.1))) (fun i=>(((aI aP y2).Policy).Offices).drop i.1=i.2.2.2.2.2.2∧i.1≤(((aI aP y2).Policy).Offices).length∧bK aP d who cM known=((bK.L4 aP cM known (fun zg4_25=>(bK.L2 aP d cM known ic (bK.K2 aP d cM known) rz2 (jG++[(((((bi ((aI aP y2).Policy) d.Kind d.Value zg4_25 ic).2==0)&&(bi ((aI aP y2).Policy) d.Kind d.Value zg4_25 ic).1)&&decide (d.Kind < ((((aI aP y2).Policy).Rules.length:Nat):Int)))&&decide ((nthI (((aI aP y2).Policy).Rules) d.Kind).Think≤(cM - d.At)))])))) i.2.2.2.2.2.2 i.1 i.2.1)∧ep (Rp.sl Holder.rp) 101 i.2.2.2.2.2.1 i.2.1 i.2.2.1 i.2.2.2.1 i.2.2.2.2.1∧i.2.1.length≤0+i.1∧HF.le h13 i.2.2.2.2.2.1∧(∀ y∈i.2.1,y.length≤2000000)) (fun i=>i.2.2.2.2.2.2.length) (0,[],none,0,[],h13,((aI aP y2).Policy).Offices) rd sw ⟨U,Nat.zero_le _,hs10,ep.nil,lo,(HF.le_refl h13),(fun y hy=>(List.not_mem_nil hy).elim)⟩ ?_
       rintro ⟨i4,kC,Df,De,Dg,hh4,s4⟩ ⟨hd4,Hi,hs13,uJ,Dd,hl4,u4_0⟩ ag2 e
       try dsimp only at hd4 Hi uJ Dd hl4 u4_0
       rcases s4 with _ | ⟨y4,rz4⟩
       ·have IF:=cU hd4
        try dsimp only
        refine sr (aB (v':=.bool false) U (cb IF) (ac (ae (bg U (bO U ?_)))))
        exact hx4 (i4,kC,Df,De,Dg,hh4) _ ⟨Hi,hs13,uJ,lo,hl4,u4_0⟩ rd
       ·have ID:=dY hd4
        have IN:=cY hd4
        have IM:=aT hd4
        have IQ:=ok3.Policy.Offices.1.1
        try dsimp only
        refine sr (aB (v':=.bool true) U (cb ID) (ac (ae (bn U (ao (ae (aW (sr (aa (an (sr (az rO U (aO 2 ty22 U U U (aa (aa (aa ?_))))))))))))))))
        refine a8 (dg Tryz.call47 (nM hh4 aP.Appoints bH.gE bH.gD ((i4:Nat):Int) cM known (ip.Appoints.mono Appoint.aN (((((hle1.t hl1).t hle7).t hl2).t hle13).t hl4)) hsm.2.1) U (fun v13 h17 hle17 hp13=>?_))
        obtain ⟨rb10,rc10,rfl,sl14⟩:=hp13
        refine aa (bG U U (bG U U (ba (an (ae (sr (aa (aJ U (ac ?_)))))))))
        refine aE U (fun c24=>?_) (fun c24=>?_)
        ·have hs15:=hs13.trans (bt c24)
         refine sr (ba (an ?_))
         have hs16:bK aP d who cM known=(false,false):=hs15
         exact aw [.bool false,.bool false] Ag U hX rd (congrArg (fun r:(Bool×Bool)=>(.tuple #[.bool r.1,.bool r.2]:Value)) hs16.symm)
        ·have hs17:=hs13.trans (bf c24)
         refine ao (ai (aa (aa (a8 (ck (cells:=[.slice rb10 (((cm aP.Appoints ((i4:Nat):Int) cM known).1).length) rc10]) te ty101 zc101 U U kr (fun b18=>a8 (eK (Rp.DV Holder.aN) ([(b18,O [.slice rb10 (((cm aP.Appoints ((i4:Nat):Int) cM known).1).length) rc10] 101),z1,z3,z2]++(nS)) ([]) (fun G=>[(b18,O [.slice rb10 (((cm aP.Appoints ((i4:Nat):Int) cM known).1).length) rc10] 101),z1,z3,z2]++(nS++(G))) ap (fun _=>ap) te ty101 zc101 U bytes101 (uJ.mono (Rp.oe Holder.aN) hle17) U U (eZ 0 U (show bV (Rp.sl Holder.rp) h17 [.slice rb10 (((cm aP.Appoints ((i4:Nat):Int) cM known).1).length) rc10] ([(cm aP.Appoints ((i4:Nat):Int) cM known).1]) from ⟨[.slice rb10 (((cm aP.Appoints ((i4:Nat):Int) cM known).1).length) rc10],[],U,U,⟨rb10,rc10,U,sl14⟩,U⟩)) lo lo (fun ob13 oc13 G13 gr13=>?_))))))))
         refine an (av (ai (aB (v':=I (((i4+1):Nat):Int)) U (bW ob) (aa (ac ?_)))))
         refine cE (L':=[z1,z3,z2]++(nS++(G13))) js ?_
         exact ag2 ((i4+1),(kC++[(cm aP.Appoints ((i4:Nat):Int) cM known).1]),ob13,oc13,G13,h17,rz4) _ (Nat.lt_succ_self _) ⟨bF hd4,aT hd4,hs17,gr13,lo,(hl4.t hle17),(fun y hy=>(List.mem_append.1 hy).elim (u4_0 y) (fun hy=>by rw [List.mem_singleton.1 hy];exact Nat.le_trans (vz _ _ _ _) hsm.2.1))⟩ rd
   ·refine cp (ι:=Nat×(List Int)×Option Addr×Nat×LH×HF×List Int) (fun i=>[(3,I cM),(4,I known),(5,Q b1),(6,Q b2),(12,.slice rb1 (((aA aP.Versions d.At cM known).1).length) rc1),(13,I ((aA aP.Versions d.At cM known).2.1)),(15,.slice i.2.2.1 i.2.1.length i.2.2.2.1),(62,.slice eG who.length eF),(63,I ((who.length:Nat):Int)),(64,I ((i.1:Nat):Int))]) (fun i=>i.2.2.2.2.2.1) (fun i=>[z3,z2]++(i.2.2.2.2.1)) (fun i=>who.drop i.1=i.2.2.2.2.2.2∧i.1≤who.length∧bK aP d who cM known=((bK.L1 aP d cM known (bK.K1 aP d cM known)) i.2.2.2.2.2.2 i.2.1)∧ep Rp.int 3 i.2.2.2.2.2.1 i.2.1 i.2.2.1 i.2.2.2.1 i.2.2.2.2.1∧i.2.1.length≤0+i.1∧HF.le h1 i.2.2.2.2.2.1) (fun i=>i.2.2.2.2.2.2.length) (0,[],none,0,[],h1,who) rd sw ⟨U,Nat.zero_le _,hs6,ep.nil,lo,(HF.le_refl h1)⟩ ?_
    rintro ⟨i1,ic,ru,rq,zN,hh1,s1⟩ ⟨hd1,bd,hs18,sV,Di,hl1⟩ ag3 e
    try dsimp only at hd1 bd sV Di hl1
    rcases s1 with _ | ⟨y1,rz1⟩
    ·have dI:=cU hd1
     try dsimp only
     refine sr (aB (v':=.bool false) U (cb dI) (ac (ae (bg U (bO U ?_)))))
     exact hx1 (i1,ic,ru,rq,zN,hh1) _ ⟨bd,hs18,sV,lo,hl1⟩ rd
    ·have dH:=dY hd1
     have bh:=cY hd1
     have eT:=aT hd1
     have gx:=(hwho.mono Rp.ce hle1).1.1
     try dsimp only
     refine sr (aB (v':=.bool true) U (cb dH) (ac (ae (bn U (ao (ae (aW (sr (a8 (fQ (enc:=fun y=>[I y]) (fun _ _ _ e=>e) eL ty3 (hwho.mono Rp.ce (hle1.t hl1)).1 (nthZ bh) (bB bh) U U U (fun q6 A6=>?_)))))))))))
     refine eC ty3 A6 U (an (sr (az pZ U (aO 1 ty24 U U U (aa (az tV U (aO 0 ty31 U U U (aa (aa (a8 (dg Tryz.call45 (mw hh1 aP.Interests bH.gB bH.gA y1 d.Parties sd.jE sd.jD cM known (ip.Interests.mono Interest.aN (hle1.t hl1)) (hd.Parties.mono Rp.ce (hle1.t hl1)) hsm.2.2.2.1) U (fun v14 h18 hle18 hp14=>?_))))))))))))
     obtain ⟨rb11,rc11,rfl,sl15⟩:=hp14
     refine aa (bG U U (bG U U (bG U U (ba (ba (an (ae (sr (aa (aJ U (ac ?_)))))))))))
     refine aE U (fun c25=>?_) (fun c25=>?_)
     ·have hs20:=hs18.trans (bt c25)
      refine sr (ba (an ?_))
      have hs21:bK aP d who cM known=(false,false):=hs20
      exact aw [.bool false,.bool false] Ag U hX rd (congrArg (fun r:(Bool×Bool)=>(.tuple #[.bool r.1,.bool r.2]:Value)) hs21.symm)
     ·have hs22:=hs18.trans (bf c25)
      refine ao (sr (aa (cV U (ac ?_))))
      refine aE U (fun c26=>?_) (fun c26=>?_)
      ·have hs23:=hs22.trans (bt c26)
       refine ai (aa (aa (a8 (ck (cells:=[I y1]) eL ty3 zc3 U U kr (fun b19=>a8 (eK Rp.kP ([(b19,O [I y1] 3),z3,z2]) ([]) (fun G=>[(b19,O [I y1] 3),z3,z2]++(G)) ap (fun _=>ap) eL ty3 zc3 U bytes3 (sV.mono Rp.ce hle18) U U (eZ 0 U (show bV Rp.int h18 [I y1] ([y1]) from ⟨[I y1],[],U,U,U,U⟩)) lo lo (fun ob14 oc14 G14 gr14=>?_)))))))
       refine an (av (ai (aB (v':=I (((i1+1):Nat):Int)) U (bW ob) (aa (ac ?_)))))
       refine cE (L':=[z3,z2]++(G14)) js ?_
       exact ag3 ((i1+1),(ic++[y1]),ob14,oc14,G14,h18,rz1) _ (Nat.lt_succ_self _) ⟨bF hd1,aT hd1,hs23,gr14,lo,(hl1.t hle18)⟩ rd
      ·have hs24:=hs22.trans (bf c26)
       refine ao (av (ai (aB (v':=I (((i1+1):Nat):Int)) U (bW ob) (aa (ac ?_)))))
       exact ag3 ((i1+1),ic,ru,rq,zN,h18,rz1) _ (Nat.lt_succ_self _) ⟨bF hd1,aT hd1,hs24,(sV.mono Rp.ce hle18),lo,(hl1.t hle18)⟩ rd
theorem Bo (h:HF) (s:(List Span)) (pz:Option Addr) (oS:Nat) (t:Int) (hs:SlC Span.rp h pz oS s):Ret Tryz.prog 20 [.slice pz s.length oS,I t] h (.bool (gX s t)):=by
 refine ay Tryz.func20 U Tryz.ntmps20 U fun X hM hX=>?_
 have hs0:gX s t=gX s t:=rfl
 refine sr (an (ae (sr (aa (bC mK U (aa (ac ?_)))))))
 refine br (ι:=Nat) (fun i=>[]) (fun i=>h) (fun i=>[]) (fun i=>i≤s.length∧gX s t=((gX.K1))) ?_ (fun hx1=>?_)
 ·rintro i1 ⟨bd,hs1⟩ e
  try dsimp only at bd
  try dsimp only
  refine sr (an ?_)
  exact aw [.bool false] Tryz.func20 U hX rd (cs hs1)
 ·refine cp (ι:=Nat×List Span) (fun i=>[(1,I t),(7,.slice pz s.length oS),(8,I ((s.length:Nat):Int)),(9,I ((i.1:Nat):Int))]) (fun i=>h) (fun i=>[]) (fun i=>s.drop i.1=i.2∧i.1≤s.length∧gX s t=((gX.L1 t (gX.K1)) i.2 )) (fun i=>i.2.length) (0,s) rd sw ⟨U,Nat.zero_le _,hs0⟩ ?_
  rintro ⟨i1,s1⟩ ⟨hd1,bd,hs3⟩ ag1 e
  try dsimp only at hd1 bd
  rcases s1 with _ | ⟨y1,rz1⟩
  ·have dI:=cU hd1
   try dsimp only
   refine sr (aB (v':=.bool false) U (cb dI) (ac (ae (bg U (bO U ?_)))))
   exact hx1 i1 _ ⟨bd,hs3⟩ trivial
  ·have dH:=dY hd1
   have bh:=cY hd1
   have eT:=aT hd1
   have gx:=hs.1.1
   try dsimp only
   refine sr (aB (v':=.bool true) U (cb dH) (ac (ae (bn U (ao (ae (aW (sr (a8 (fQ (enc:=Span.cells) (fun _ _ _ e=>e) mK ty46 hs.1 (nthZ bh) (bB bh) U U U (fun q2 A2=>?_)))))))))))
   refine ed ty46 A2 U U (bX zc46 (fun b2=>bN 0 ty46 U U U U U U (ac (sr (az tW U (aO 0 ty3 U U U (aa (aJ U (aa ?_)))))))))
   refine tq 5 [(1,I t),(7,.slice pz s.length oS),(8,I ((s.length:Nat):Int)),(9,I ((i1:Nat):Int)),(22,.bool (decide (y1.From≤t)&&decide (t < y1.Until)))] (fun hk1=>?_) (fun e=>?_)
   ·refine ar 17 U (fun c1=>?_) (fun c1=>?_)
    ·refine aa (az pY U (aO 0 ty3 U U U (aJ U (ah U ?_))))
     exact hk1 _ ⟨U,U,U,U,(cb (cW c1)),trivial⟩
    ·refine kq (kq (ah U ?_))
     exact hk1 _ ⟨U,U,U,U,(cb (cX c1)),trivial⟩
   refine ac ?_
   refine aE U (fun c2=>?_) (fun c2=>?_)
   ·have hs5:=hs3.trans (bt c2)
    refine sr (an ?_)
    exact aw [.bool true] Tryz.func20 U hX rd (cs hs5)
   ·have hs7:=hs3.trans (bf c2)
    refine ao (av (ai (aB (v':=I (((i1+1):Nat):Int)) U (bW ob) (aa (ac ?_)))))
    refine cE (L':=[]) js ?_
    exact ag1 ((i1+1),rz1) _ (Nat.lt_succ_self _) ⟨bF hd1,aT hd1,hs7⟩ rd
end Go.Sg
namespace Go.Sg
open Go.Proofs
set_option maxHeartbeats 2000000
set_option maxRecDepth 100000
set_option linter.unusedVariables false
theorem law33_AsofEvery_top {w:World} (h:HF) (hp:Pre h [] w) (aP:Register) (bH:er) (doc:Int) (who:(List Int)) (eG:Option Addr) (eF:Nat) (t:Int) (known:Int) (ip:Register.ok h aP bH) (hwho:SlC Rp.int h eG eF who) (hsm:smR aP) (hsw:who.length≤2000000) (hk:Kinds h):Calls Tryz.prog 5 [.agg (Register.cells aP bH).toArray,I doc,.slice eG who.length eF,I t,I known].toArray w fun e w'=>e=.returned (.bool (eJ aP doc who t known))∧RowKit.Below w.heap.size w w':=by
 refine Cd hp Av U Tryz.ntmps5 U fun X hM hX=>?_
 have hs0:eJ aP doc who t known=eJ aP doc who t known:=rfl
 refine sr (dy (fun b1=>an (ae (sr (aG (v:=.bool mD) Tryz.call8 (ym h  hk) U (cV U (ac ?_)))))))
 refine aE U (fun c1=>?_) (fun c1=>?_)
 ·have hs1:=hs0.trans (bt c1)
  refine sr (an ?_)
  exact qF [.bool false] Av U hX rd (cs hs1)
 ·have hs3:=hs0.trans (bf c1)
  refine ao (ae (sr (dq 0 ty30 U U U (aa (aa (aa (aa (a8 (ck (cells:=[I t,I known]) eL ty3 zc3 U U kr (fun b2=>cq 0 U hM (fun h1 hle1 hb1=>?_)))))))))))
  have sl1:SlC Rp.int h1 (some ⟨b2,0,none⟩) 2 ([t,known]):=bV.slB0 (T:=3) (fz:=(0,0)) ((show bV Rp.int h [I t,I known] ([t,known]) from ⟨[I t],[I known],rfl,rfl,rfl,⟨[I known],[],rfl,rfl,rfl,rfl⟩⟩).mono Rp.ce hle1) hb1
  refine aG (v:=.bool (e8 aP doc who ([t,known]))) Tryz.call17 (wX h1 aP bH doc who eG eF ([t,known]) (some ⟨b2,0,none⟩) 2 (ip.mono hle1) (hwho.mono Rp.ce hle1) sl1 ob) U ?_
  refine cV U (ac ?_)
  refine aE U (fun c2=>?_) (fun c2=>?_)
  ·have hs4:=hs3.trans (bt c2)
   refine sr (an ?_)
   exact qF [.bool true] Av U hX rd (cs hs4)
  ·have hs6:=hs3.trans (bf c2)
   refine ao (sr (dq 0 ty30 U U U (aa (aa (aa (a8 (dg Dy (ly h1 aP bH doc who eG eF known (ip.mono hle1) (hwho.mono Rp.ce hle1) ob ob (hk.mono hle1)) U (fun v1 h2 hle2 hp1=>?_))))))))
   obtain ⟨rb1,rc1,rfl,sl2⟩:=hp1
   refine aa (bG U U (bG U U (ba (an (ae (sr (aa (aJ U (ac ?_)))))))))
   refine aE U (fun c3=>?_) (fun c3=>?_)
   ·have hs7:=hs6.trans (bt c3)
    refine sr (an ?_)
    exact qF [.bool false] Av U hX rd (cs hs7)
   ·have hs9:=hs6.trans (bf c3)
    refine ao (sr (an (ae (sr (aa (bC mK U (aa (ac ?_))))))))
    let z1:Nat×Obj:=(b1,O (Register.cells aP bH) 30)
    refine br (ι:=Nat×Int) (fun i=>[(1,I doc),(2,.slice eG who.length eF),(3,I t),(4,I known),(5,Q b1),(11,.slice rb1 (((bp aP doc who known).1).length) rc1)]) (fun i=>h2) (fun i=>[z1]) (fun i=>i.1≤((bp aP doc who known).1).length∧eJ aP doc who t known=((eJ.K1 aP doc who t known) i.2)) ?_ (fun hx1=>?_)
    ·rintro ⟨i1,tQ⟩ ⟨bd,hs10⟩ e
     try dsimp only at bd
     try dsimp only
     refine ae ?_
     refine ga ([z1]) mixed kr jn (fun eX _=>?_)
     refine tf 0 U U (fun _ _ hj=>ky ty30 U (hj.nth (i:=0) U) U) (tf 1 U U (fun _ _ _=>dB kF U) (tf 2 U U (fun _ _ hj=>gu ty27 U (hj.nth (i:=0) U) U) ?_))
     refine tf 3 U U (fun _ _ hj=>ky ty30 U (hj.nth (i:=0) U) U) (tm 4 U (tm 8 U ?_))
     refine tm 9 U (tm 10 U (tn 5 U (fu (v:=I (cK aP doc)) Tryz.call19 (tE h2 aP bH doc (ip.mono (hle1.t hle2))) U ?_)))
     refine ⟨jn,?_⟩
     have ho1:0≤((cK aP doc):Int)∧((cK aP doc):Int) < ((aP.Docs).length:Int):=(by have rq_:=ur (by simpa using c2);have rt_:=(tD (by simpa using c2)).times t (List.mem_cons_self ..);omega)
     refine iY 6 eX jn la ty52 (ip.Docs.mono Document.aN (hle1.t hle2)).1 ho1 (eA ho1) U U U U kr (fun q2 cs1 A2 ln1 rr1=>?_)
     obtain ⟨r1,rfl,ok1⟩:=rr1
     refine tf 7 U U (fun _ _ hj=>jP ty52 (A2.mono hj.1) U U) (tn 11 U (fu (v:=.tuple #[.bool ((bK aP (nthI aP.Docs (cK aP doc)) who t known).1),.bool ((bK aP (nthI aP.Docs (cK aP doc)) who t known).2)]) Tryz.call18 (wY h2 aP bH (nthI aP.Docs (cK aP doc)) r1 who eG eF t known (ip.mono (hle1.t hle2)) ok1 (hwho.mono Rp.ce (hle1.t hle2)) ob ob (by have rq_:=ur (by simpa using c2);have rt_:=(tD (by simpa using c2)).times t (List.mem_cons_self ..);omega) (hk.mono (hle1.t hle2))) U ?_))
     refine ⟨jn,(tm 12 U ?_)⟩
     refine tf 13 U U (fun _ _ _=>rC U U) (tf 14 U U (fun _ _ _=>rC U U) (tf 15 U U (fun _ _ _=>fO) ?_))
     refine tf 16 U U (fun _ _ _=>fO) (bY kr ?_)
     refine sr (aa (aa ?_))
     refine tq 6 [(85,.bool ((bK aP (nthI aP.Docs (cK aP doc)) who t known).2&&((bK aP (nthI aP.Docs (cK aP doc)) who t known).1==(gX ((bp aP doc who known).1) t))))] (fun hk1=>?_) (fun e=>?_)
     ·refine ar 79 U (fun c4=>?_) (fun c4=>?_)
      ·refine aa (aa (aa (aG (v:=.bool (gX ((bp aP doc who known).1) t)) Tryz.call20 (Bo h2 ((bp aP doc who known).1) rb1 rc1 t sl2) U (a8 (gH (Iq IJ U U) (ah U ?_))))))
       exact hk1 _ ⟨(cb (cW c4)),trivial⟩
      ·refine kq (kq (bP (ah U ?_)))
       exact hk1 _ ⟨(cb (cX c4)),trivial⟩
     refine an ?_
     exact qF [.bool ((bK aP (nthI aP.Docs (cK aP doc)) who t known).2&&((bK aP (nthI aP.Docs (cK aP doc)) who t known).1==(gX ((bp aP doc who known).1) t)))] Av U hX rd (cs hs10)
    ·refine cp (ι:=Nat×Int×List Span) (fun i=>[(1,I doc),(2,.slice eG who.length eF),(3,I t),(4,I known),(5,Q b1),(11,.slice rb1 (((bp aP doc who known).1).length) rc1),(13,I i.2.1),(38,.slice rb1 (((bp aP doc who known).1).length) rc1),(39,I ((((bp aP doc who known).1).length:Nat):Int)),(40,I ((i.1:Nat):Int))]) (fun i=>h2) (fun i=>[z1]) (fun i=>((bp aP doc who known).1).drop i.1=i.2.2∧i.1≤((bp aP doc who known).1).length∧eJ aP doc who t known=((eJ.L1 (eJ.K1 aP doc who t known)) i.2.2 i.2.1)) (fun i=>i.2.2.length) (0,(-1),(bp aP doc who known).1) rd sw ⟨U,Nat.zero_le _,hs9⟩ ?_
     rintro ⟨i1,tQ,s1⟩ ⟨hd1,bd,hs12⟩ ag1 e
     try dsimp only at hd1 bd
     rcases s1 with _ | ⟨y1,rz1⟩
     ·have dI:=cU hd1
      try dsimp only
      refine sr (aB (v':=.bool false) U (cb dI) (ac (ae (bg U (bO U ?_)))))
      exact hx1 (i1,tQ) _ ⟨bd,hs12⟩ rd
     ·have dH:=dY hd1
      have bh:=cY hd1
      have eT:=aT hd1
      have gx:=sl2.1.1
      try dsimp only
      refine sr (aB (v':=.bool true) U (cb dH) (ac (ae (bn U (ao (ae (aW (sr (a8 (fQ (enc:=Span.cells) (fun _ _ _ e=>e) mK ty46 sl2.1 (nthZ bh) (bB bh) U U U (fun q3 A3=>?_)))))))))))
      refine ed ty46 A3 U U (bX zc46 (fun b4=>bN 0 ty46 U U U U U U (ac (ae (sr (az tW U (aO 0 ty3 U U U (aa (aJ U (aa ?_))))))))))
      refine tq 6 [(1,I doc),(2,.slice eG who.length eF),(3,I t),(4,I known),(5,Q b1),(11,.slice rb1 (((bp aP doc who known).1).length) rc1),(15,Q b4),(38,.slice rb1 (((bp aP doc who known).1).length) rc1),(39,I ((((bp aP doc who known).1).length:Nat):Int)),(40,I ((i1:Nat):Int)),(54,.bool (decide (y1.From≤tQ)||decide (y1.Until≤y1.From)))] (fun hk2=>?_) (fun e=>?_)
      ·refine ar 48 U (fun c5=>?_) (fun c5=>?_)
       ·refine kq (kq (bP (ah U ?_)))
        exact hk2 _ ⟨U,U,U,U,U,U,U,U,U,U,(cb (dL c5)),trivial⟩
       ·refine az tW U (aO 0 ty3 U U U (az pY U (aO 0 ty3 U U U (aJ U (ah U ?_)))))
        exact hk2 _ ⟨U,U,U,U,U,U,U,U,U,U,(cb (dM c5)),trivial⟩
      refine aa ?_
      refine tq 4 [(1,I doc),(2,.slice eG who.length eF),(3,I t),(4,I known),(5,Q b1),(11,.slice rb1 (((bp aP doc who known).1).length) rc1),(15,Q b4),(38,.slice rb1 (((bp aP doc who known).1).length) rc1),(39,I ((((bp aP doc who known).1).length:Nat):Int)),(40,I ((i1:Nat):Int)),(59,.bool ((decide (y1.From≤tQ)||decide (y1.Until≤y1.From))||decide (1099511627776 < y1.Until)))] (fun hk3=>?_) (fun e=>?_)
      ·refine ar 55 U (fun c6=>?_) (fun c6=>?_)
       ·refine kq (bP (ah U ?_))
        exact hk3 _ ⟨U,U,U,U,U,U,U,U,U,U,(cb (dL c6)),trivial⟩
       ·refine az pY U (aO 0 ty3 U U U (aJ U (ah U ?_)))
        exact hk3 _ ⟨U,U,U,U,U,U,U,U,U,U,(cb (dM c6)),trivial⟩
      refine ac ?_
      refine aE U (fun c7=>?_) (fun c7=>?_)
      ·have hs14:=hs12.trans (bt c7)
       refine sr (an ?_)
       exact qF [.bool false] Av U hX rd (cs hs14)
      ·have hs16:=hs12.trans (bf c7)
       refine ao (ai (az pY U (aO 0 ty3 U U U (an (av (ai (aB (v':=I (((i1+1):Nat):Int)) U (bW (by have rq_:=ur (by simpa using c2);have rt_:=(tD (by simpa using c2)).times t (List.mem_cons_self ..);omega)) ?_)))))))
       refine aa (ac ?_)
       refine cE (L':=[z1]) js ?_
       exact ag1 ((i1+1),y1.Until,rz1) _ (Nat.lt_succ_self _) ⟨bF hd1,aT hd1,hs16⟩ rd
end Go.Sg
namespace Go.Proofs.YtngiefchigcphaaGreatDoor.asofEvery
open Go.ChangeShapes Go.WideShapes Go.ChangeAt Go.RowKit
set_option maxRecDepth 100000
set_option linter.unusedVariables false
theorem own:ownKnob Tryz.prog.godebug=none:=by kernel_rfl
theorem laidOut:laidOutB Tryz.prog=true:=by kernel_rfl
theorem contract (H:Type) (enc:TypeId×Value→H) (W:World) (base:Nat) (args:Array Value) (ds gs:List (DataW H)) (before:List MemPlace)
    (hval:∀ (j:Nat) t v,Tryz.f5.params[j]? = some t→args[j]? = some v→Value.okWide Tryz.prog W .any base t v)
    (hW:DataW.Whole enc Tryz.prog Tryz.f5.params.toList Rows.asofEverySpec.vars false W args.toList ds gs before) (hcond:Rows.uptoSmall H (ds++gs)=true) (hL:laidMetH Tryz.prog Rows.asofEveryUptoRow.laid W):
    Calls Tryz.prog 5 args W fun e W'=>∃ v,e=.returned v∧Rows.asofEverySpec.post enc Tryz.prog Tryz.f5 false true false false W args v W':=by
  have hW':=hW
  obtain ⟨p,q,hA0,hV,rfl,hfz,hnd⟩:=hW
  have hA:DataW.TrodAll enc Tryz.prog W 0 (fun _=>true) true Tryz.f5.params.toList args.toList ds p:=hA0
  rw [Tryz.params5] at hA hval
  obtain ⟨v0,vs0,d0,ds0,p0,z0,hargs,rfl,rfl,h0,t0⟩:=trodAll_cons hA
  obtain ⟨v1,vs1,d1,ds1,p1,z1,rfl,rfl,rfl,h1,t1⟩:=trodAll_cons t0
  obtain ⟨v2,vs2,d2,ds2,p2,z2,rfl,rfl,rfl,h2,t2⟩:=trodAll_cons t1
  obtain ⟨v3,vs3,d3,ds3,p3,z3,rfl,rfl,rfl,h3,t3⟩:=trodAll_cons t2
  obtain ⟨v4,vs4,d4,ds4,p4,z4,rfl,rfl,rfl,h4,t4⟩:=trodAll_cons t3
  obtain ⟨rfl,rfl,rfl⟩:=trodAll_nil t4
  obtain rfl:args=#[v0,v1,v2,v3,v4]:=by cases args;simp_all
  obtain ⟨rfl,rfl⟩:=trodVars_none hV
  clear hA0 hA
  have h0k:=h0
  have h1k:=h1
  have h2k:=h2
  have h3k:=h3
  have h4k:=h4
  simp only [List.append_nil] at hW' hcond
  have hB:Rows.uptoBulkAll [d0,d1,d2,d3,d4]≤1048576:=of_decide_eq_true hcond
  obtain ⟨a0,rfl,_⟩:=okWide_struct Tryz.underlying30 (hval 0 30 v0 rfl rfl)
  obtain ⟨f0,g0⟩:=h0
  obtain ⟨x0,⟨r0,e0,o0⟩,q0⟩:=Sg.opn_Register f0 _ _ _ g0
  obtain rfl:a0=(Sg.Register.cells x0 r0).toArray:=by
    apply Array.toList_inj.1;exact e0
  obtain ⟨n1,rfl⟩:=okWide_int Tryz.underlying3 (hval 1 3 v1 rfl rfl)
  obtain ⟨b2,l2,c2,rfl⟩:=okWide_slice Tryz.underlying31 (hval 2 31 v2 rfl rfl)
  obtain ⟨f2,g2⟩:=h2
  obtain ⟨b2',c2',x2,e2,o2,q2⟩:=Sg.opn_slice (R:=Sg.Rp.int) (sz:=fun _=>1) Tryz.underlying31 (by kernel_rfl) (by decide) (fun k _=>Sg.opn_int (by kernel_rfl) k) g2
  cases e2
  obtain ⟨n3,rfl⟩:=okWide_int Tryz.underlying3 (hval 3 3 v3 rfl rfl)
  obtain ⟨n4,rfl⟩:=okWide_int Tryz.underlying3 (hval 4 3 v4 rfl rfl)
  simp only [Rows.uptoBulkAll] at hB
  have y2:=Sg.szL_len (f:=fun _:Int=>1) (fun _=>Nat.le_refl _) x2
  have z0b:=Sg.bulk_one d0
  have z1b:=Sg.bulk_one d1
  have z2b:=Sg.bulk_one d2
  have z3b:=Sg.bulk_one d3
  have z4b:=Sg.bulk_one d4
  have walk:=Sg.law33_AsofEvery_top (Sg.hOf W) (Sg.pre_hOf W) x0 r0 n1 x2 b2 c2 n3 n4 o0 o2 (Sg.smR_of (by omega)) (by omega) (Sg.kinds_of hL)
  rw [Sg.every_true (Sg.smR_of (by omega))] at walk
  refine walk.mono fun e W' ⟨he,hb⟩=>?_
  subst he
  exact ⟨_,rfl,Sg.post_below (pa:=p0++(p1++(p2++(p3++(p4++([])))))) (pv:=[]) hW' (fun _ _ _=>trodAll_cons_mk (shut_bool Tryz.underlying4 _) trodAll_mk0) (fun sp hsp=>(trodAll_cons_mk (Sg.stays laidOut (by kernel_rfl) (by kernel_rfl) h0k hb hW'.lt (fun x hx=>by simp [hx]) hsp) (trodAll_cons_mk (Sg.stays laidOut (by kernel_rfl) (by kernel_rfl) h1k hb hW'.lt (fun x hx=>by simp [hx]) hsp) (trodAll_cons_mk (Sg.stays laidOut (by kernel_rfl) (by kernel_rfl) h2k hb hW'.lt (fun x hx=>by simp [hx]) hsp) (trodAll_cons_mk (Sg.stays laidOut (by kernel_rfl) (by kernel_rfl) h3k hb hW'.lt (fun x hx=>by simp [hx]) hsp) (trodAll_cons_mk (Sg.stays laidOut (by kernel_rfl) (by kernel_rfl) h4k hb hW'.lt (fun x hx=>by simp [hx]) hsp) trodAll_mk0)))))) (fun _ _=>rfl) (by simp) hb (ok_one (by kernel_rfl) rfl (okWide_bool_mk Tryz.underlying4 _))⟩
end Go.Proofs.YtngiefchigcphaaGreatDoor.asofEvery
