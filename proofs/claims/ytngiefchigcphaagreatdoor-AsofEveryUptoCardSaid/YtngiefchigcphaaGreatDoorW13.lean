import Derived.Test.YtngiefchigcphaaGreatDoorW1
import Derived.Test.YtngiefchigcphaaGreatDoorW2
import Derived.Test.YtngiefchigcphaaGreatDoorW3
import Derived.Test.YtngiefchigcphaaGreatDoorW4
import Derived.Test.YtngiefchigcphaaGreatDoorW5
import Derived.Test.YtngiefchigcphaaGreatDoorW6
import Derived.Test.YtngiefchigcphaaGreatDoorW7
import Derived.Test.YtngiefchigcphaaGreatDoorW8
import Derived.Test.YtngiefchigcphaaGreatDoorW9
import Derived.Test.YtngiefchigcphaaGreatDoorW10
import Derived.Test.YtngiefchigcphaaGreatDoorW11
import Derived.Test.YtngiefchigcphaaGreatDoorW12
/- A part of the proof of the law AsofEvery: where what it reads holds at most 1048576 values and letters, the call returns true and its arguments read as they did. Conditions: that bound, and that the listed table starts as the program lays it. -/
set_option linter.unusedVariables false
set_option linter.unusedSimpArgs false
namespace Go.Sg
open Go.Proofs
set_option maxHeartbeats 2000000
set_option maxRecDepth 100000
set_option linter.unusedVariables false
theorem qL (h:HF) (l:(List Version)) (eW:Option Addr) (eV:Nat) (hl:SlC Version.rp h eW eV l):Ret Tryz.prog 25 [.slice eW l.length eV] h (.bool (cH l)):=by
 refine ay Dv U Tryz.ntmps25 U fun X hM hX=>?_
 have hs0:cH l=cH l:=rfl
 refine sr (an (ae (sr (aa (bC lb U (aJ U (ac ?_)))))))
 refine aE U (fun c1=>?_) (fun c1=>?_)
 ·have c1p:=of_decide_eq_true c1
  have hs1:=hs0.trans (bt c1)
  refine sr (an ?_)
  exact aw [.bool false] Dv U hX rd (cs hs1)
 ·have c1p:=of_decide_eq_false c1
  have hs3:=hs0.trans (bf c1)
  refine ao (ae (sr (an ?_)))
  refine br (ι:=Nat) (fun i=>[]) (fun i=>h) (fun i=>[]) (fun i=>i≤l.length∧cH l=((cH.K1))) ?_ (fun hx1=>?_)
  ·rintro i1 ⟨bd,hs4⟩ e
   try dsimp only at bd
   try dsimp only
   refine sr (an ?_)
   exact aw [.bool true] Dv U hX rd (cs hs4)
  ·refine cp (ι:=Nat×List Version) (fun i=>[(0,.slice eW l.length eV),(3,I ((i.1:Nat):Int))]) (fun i=>h) (fun i=>[]) (fun i=>l.drop i.1=i.2∧i.1≤l.length∧cH l=((cH.L1 (cH.K1)) i.2 )) (fun i=>i.2.length) (0,l) rd sw ⟨U,Nat.zero_le _,hs3⟩ ?_
   rintro ⟨i1,s1⟩ ⟨hd1,bd,hs6⟩ ag1 e
   try dsimp only at hd1 bd
   rcases s1 with _ | ⟨y1,rz1⟩
   ·have dI:=cU hd1
    try dsimp only
    refine ae (sr (aa (aa (bC lb U (aB (v':=.bool false) U (cb dI) (ac (bg U (bO U ?_))))))))
    exact hx1 i1 _ ⟨bd,hs6⟩ trivial
   ·have dH:=dY hd1
    have bh:=cY hd1
    have eT:=aT hd1
    have gx:=hl.1.1
    try dsimp only
    refine ae (sr (aa (aa (bC lb U (aB (v':=.bool true) U (cb dH) (ac (bn U (ao (ae (aW (sr (aa (aa (a8 (gL lb ty70 hl.1 (nthZ bh) (bB bh) U U U (fun q2 cs2 A2 ln2 rr2=>?_))))))))))))))))
    obtain ⟨r2,rfl,ok2⟩:=rr2
    refine az pV U (uz (j:=3) ty68 A2 U U (bX zc68 (fun b2=>bN 0 ty68 U U U U U U (ac (ae (sr (az kD U (aO 0 ty62 U U U (bC kL U (aJ U (aa ?_)))))))))))
    refine tq 5 [(0,.slice eW l.length eV),(3,I ((i1:Nat):Int)),(4,Q b2),(29,.bool (decide (20 < ((y1.Policy.Kinds.length:Nat):Int))||decide (40 < ((y1.Policy.Offices.length:Nat):Int))))] (fun hk1=>?_) (fun e=>?_)
    ·refine ar 24 U (fun c2=>?_) (fun c2=>?_)
     ·refine kq (kq (ah U ?_))
      exact hk1 _ ⟨U,U,U,(cb (dL c2)),trivial⟩
     ·refine az jv U (aO 0 ty62 U U U (bC kL U (aJ U (ah U ?_))))
      exact hk1 _ ⟨U,U,U,(cb (dM c2)),trivial⟩
    refine aa ?_
    refine tq 5 [(0,.slice eW l.length eV),(3,I ((i1:Nat):Int)),(4,Q b2),(35,.bool ((decide (20 < ((y1.Policy.Kinds.length:Nat):Int))||decide (40 < ((y1.Policy.Offices.length:Nat):Int)))||decide (20 < ((y1.Policy.Rules.length:Nat):Int))))] (fun hk2=>?_) (fun e=>?_)
    ·refine ar 30 U (fun c3=>?_) (fun c3=>?_)
     ·refine kq (kq (ah U ?_))
      exact hk2 _ ⟨U,U,U,(cb (dL c3)),trivial⟩
     ·refine az e9 U (aO 0 ty63 U U U (bC jJ U (aJ U (ah U ?_))))
      exact hk2 _ ⟨U,U,U,(cb (dM c3)),trivial⟩
    refine aa ?_
    refine tq 5 [(0,.slice eW l.length eV),(3,I ((i1:Nat):Int)),(4,Q b2),(41,.bool (((decide (20 < ((y1.Policy.Kinds.length:Nat):Int))||decide (40 < ((y1.Policy.Offices.length:Nat):Int)))||decide (20 < ((y1.Policy.Rules.length:Nat):Int)))||decide (40 < (eN y1.Policy.Change 40))))] (fun hk3=>?_) (fun e=>?_)
    ·refine ar 36 U (fun c4=>?_) (fun c4=>?_)
     ·refine kq (kq (ah U ?_))
      exact hk3 _ ⟨U,U,U,(cb (dL c4)),trivial⟩
     ·refine az lC U (dq 0 ty66 U U U (aG (v:=I (eN y1.Policy.Change 40)) Tryz.call50 (qK h y1.Policy.Change r2.Policy.Change 40 ok2.Policy.Change) U (aJ U (ah U ?_))))
      exact hk3 _ ⟨U,U,U,(cb (dM c4)),trivial⟩
    refine ac ?_
    refine aE U (fun c5=>?_) (fun c5=>?_)
    ·have hs8:=hs6.trans (bt c5)
     refine sr (an ?_)
     exact aw [.bool false] Dv U hX rd (cs hs8)
    ·have hs10:=hs6.trans (bf c5)
     refine ao (sr (an ?_))
     let z1:Nat×Obj:=(b2,O (Policy.cells y1.Policy r2.Policy) 68)
     refine br (ι:=Nat) (fun i=>[(0,.slice eW l.length eV),(3,I ((i1:Nat):Int))]) (fun i=>h) (fun i=>[z1]) (fun i=>i≤y1.Policy.Rules.length∧cH l=(((cH.L1 (cH.K1) rz1 )))) ?_ (fun hx3=>?_)
     ·rintro i3 ⟨jW,hs11⟩ e
      try dsimp only at jW
      try dsimp only
      refine av (ai (aa (aB (v':=I (((i1+1):Nat):Int)) U (bW ob) (an ?_))))
      refine cE (L':=[]) js ?_
      exact ag1 ((i1+1),rz1) _ (Nat.lt_succ_self _) ⟨bF hd1,aT hd1,hs11⟩ rd
     ·refine cp (ι:=Nat×List Rule) (fun i=>[(0,.slice eW l.length eV),(3,I ((i1:Nat):Int)),(4,Q b2),(5,I ((i.1:Nat):Int))]) (fun i=>h) (fun i=>[z1]) (fun i=>y1.Policy.Rules.drop i.1=i.2∧i.1≤y1.Policy.Rules.length∧cH l=((cH.L3 ((cH.L1 (cH.K1) rz1 ))) i.2 )) (fun i=>i.2.length) (0,y1.Policy.Rules) rd sw ⟨U,Nat.zero_le _,hs10⟩ ?_
      rintro ⟨i3,s3⟩ ⟨hd3,pO,hs12⟩ ag2 e
      try dsimp only at hd3 pO
      rcases s3 with _ | ⟨y3,rz3⟩
      ·have Db:=cU hd3
       try dsimp only
       refine ae (sr (aa (az e9 U (aO 0 ty63 U U U (bC jJ U (aB (v':=.bool false) U (cb Db) (ac (bg U (bO U ?_)))))))))
       exact hx3 i3 _ ⟨pO,hs12⟩ rd
      ·have Da:=dY hd3
       have tN:=cY hd3
       have FY:=aT hd3
       have H0:=ok2.Policy.Rules.1.1
       try dsimp only
       refine ae (sr (aa (az e9 U (aO 0 ty63 U U U (bC jJ U (aB (v':=.bool true) U (cb Da) (ac (bn U (ao (ae (aW (sr (az e9 U (aO 0 ty63 U U U ?_))))))))))))))
       refine aa (a8 (gL jJ ty107 ok2.Policy.Rules.1 (nthZ tN) (bB tN) U U U (fun q4 cs4 A4 ln4 rr4=>?_)))
       obtain ⟨r4,rfl,ok4⟩:=rr4
       refine az ka U (uz (j:=3) ty66 A4 U U (aG (v:=I (eN y3.Expr 40)) Tryz.call50 (qK h y3.Expr r4.Expr 40 ok4.Expr) U (aJ U (ac ?_))))
       refine aE U (fun c7=>?_) (fun c7=>?_)
       ·have c7p:=of_decide_eq_true c7
        have hs14:=hs12.trans (bt c7)
        refine sr (an ?_)
        exact aw [.bool false] Dv U hX rd (cs hs14)
       ·have c7p:=of_decide_eq_false c7
        have hs16:=hs12.trans (bf c7)
        refine ao (av (ai (aa (aB (v':=I (((i3+1):Nat):Int)) U (bW ob) (an ?_)))))
        exact ag2 ((i3+1),rz3) _ (Nat.lt_succ_self _) ⟨bF hd3,aT hd3,hs16⟩ rd
theorem zu (h:HF) (aP:Register) (bH:er) (ip:Register.ok h aP bH):Ret Tryz.prog 9 [.agg (Register.cells aP bH).toArray] h (.bool (gV aP)):=by
 refine ay CM U Tryz.ntmps9 U fun X hM hX=>?_
 have hs0:gV aP=gV aP:=rfl
 refine sr (dy (fun b1=>an (ae (sr (az rO U (aO 0 ty22 U U U (bC na U (aJ U (aa ?_)))))))))
 refine tq 5 [(1,Q b1),(13,.bool (decide (30 < ((aP.Appoints.length:Nat):Int))||decide (12 < ((aP.Deputies.length:Nat):Int))))] (fun hk1=>?_) (fun e=>?_)
 ·refine ar 8 U (fun c1=>?_) (fun c1=>?_)
  ·refine kq (kq (ah U ?_))
   exact hk1 _ ⟨U,(cb (dL c1)),trivial⟩
  ·refine az zU U (aO 0 ty23 U U U (bC sj U (aJ U (ah U ?_))))
   exact hk1 _ ⟨U,(cb (dM c1)),trivial⟩
 refine aa ?_
 refine tq 5 [(1,Q b1),(19,.bool ((decide (30 < ((aP.Appoints.length:Nat):Int))||decide (12 < ((aP.Deputies.length:Nat):Int)))||decide (12 < ((aP.Interests.length:Nat):Int))))] (fun hk2=>?_) (fun e=>?_)
 ·refine ar 14 U (fun c2=>?_) (fun c2=>?_)
  ·refine kq (kq (ah U ?_))
   exact hk2 _ ⟨U,(cb (dL c2)),trivial⟩
  ·refine az pZ U (aO 0 ty24 U U U (bC nj U (aJ U (ah U ?_))))
   exact hk2 _ ⟨U,(cb (dM c2)),trivial⟩
 refine aa ?_
 refine tq 5 [(1,Q b1),(25,.bool (((decide (30 < ((aP.Appoints.length:Nat):Int))||decide (12 < ((aP.Deputies.length:Nat):Int)))||decide (12 < ((aP.Interests.length:Nat):Int)))||decide (12 < ((aP.Budgets.length:Nat):Int))))] (fun hk3=>?_) (fun e=>?_)
 ·refine ar 20 U (fun c3=>?_) (fun c3=>?_)
  ·refine kq (kq (ah U ?_))
   exact hk3 _ ⟨U,(cb (dL c3)),trivial⟩
  ·refine az zT U (aO 0 ty25 U U U (bC si U (aJ U (ah U ?_))))
   exact hk3 _ ⟨U,(cb (dM c3)),trivial⟩
 refine aa ?_
 refine tq 5 [(1,Q b1),(31,.bool ((((decide (30 < ((aP.Appoints.length:Nat):Int))||decide (12 < ((aP.Deputies.length:Nat):Int)))||decide (12 < ((aP.Interests.length:Nat):Int)))||decide (12 < ((aP.Budgets.length:Nat):Int)))||decide (8 < ((aP.Docs.length:Nat):Int))))] (fun hk4=>?_) (fun e=>?_)
 ·refine ar 26 U (fun c4=>?_) (fun c4=>?_)
  ·refine kq (kq (ah U ?_))
   exact hk4 _ ⟨U,(cb (dL c4)),trivial⟩
  ·refine az kF U (aO 0 ty27 U U U (bC la U (aJ U (ah U ?_))))
   exact hk4 _ ⟨U,(cb (dM c4)),trivial⟩
 refine aa ?_
 refine tq 5 [(1,Q b1),(37,.bool (((((decide (30 < ((aP.Appoints.length:Nat):Int))||decide (12 < ((aP.Deputies.length:Nat):Int)))||decide (12 < ((aP.Interests.length:Nat):Int)))||decide (12 < ((aP.Budgets.length:Nat):Int)))||decide (8 < ((aP.Docs.length:Nat):Int)))||decide (24 < ((aP.Approvals.length:Nat):Int))))] (fun hk5=>?_) (fun e=>?_)
 ·refine ar 32 U (fun c5=>?_) (fun c5=>?_)
  ·refine kq (kq (ah U ?_))
   exact hk5 _ ⟨U,(cb (dL c5)),trivial⟩
  ·refine az zS U (aO 0 ty28 U U U (bC sg U (aJ U (ah U ?_))))
   exact hk5 _ ⟨U,(cb (dM c5)),trivial⟩
 refine aa ?_
 refine tq 5 [(1,Q b1),(43,.bool ((((((decide (30 < ((aP.Appoints.length:Nat):Int))||decide (12 < ((aP.Deputies.length:Nat):Int)))||decide (12 < ((aP.Interests.length:Nat):Int)))||decide (12 < ((aP.Budgets.length:Nat):Int)))||decide (8 < ((aP.Docs.length:Nat):Int)))||decide (24 < ((aP.Approvals.length:Nat):Int)))||(!(cH aP.Versions))))] (fun hk6=>?_) (fun e=>?_)
 ·refine ar 38 U (fun c6=>?_) (fun c6=>?_)
  ·refine kq (kq (ah U ?_))
   exact hk6 _ ⟨U,(cb (dL c6)),trivial⟩
  ·refine az lD U (aO 0 ty26 U U U (aG (v:=.bool (cH aP.Versions)) Tryz.call25 (qL h aP.Versions bH.f4 bH.f3 ip.Versions) U (cV U (ah U ?_))))
   exact hk6 _ ⟨U,(cb (dM c6)),trivial⟩
 refine ac ?_
 refine aE U (fun c7=>?_) (fun c7=>?_)
 ·have hs1:=hs0.trans (bt c7)
  refine sr (an ?_)
  exact aw [.bool false] CM U hX rd (cs hs1)
 ·have hs3:=hs0.trans (bf c7)
  refine ao (ae (sr (an ?_)))
  refine br (ι:=Nat) (fun i=>[]) (fun i=>h) (fun i=>[(b1,O (Register.cells aP bH) 30)]) (fun i=>i≤aP.Docs.length∧gV aP=((gV.K1))) ?_ (fun hx1=>?_)
  ·rintro i1 ⟨bd,hs4⟩ e
   try dsimp only at bd
   try dsimp only
   refine sr (an ?_)
   exact aw [.bool true] CM U hX rd (cs hs4)
  ·refine cp (ι:=Nat×List Document) (fun i=>[(1,Q b1),(3,I ((i.1:Nat):Int))]) (fun i=>h) (fun i=>[(b1,O (Register.cells aP bH) 30)]) (fun i=>aP.Docs.drop i.1=i.2∧i.1≤aP.Docs.length∧gV aP=((gV.L1 (gV.K1)) i.2 )) (fun i=>i.2.length) (0,aP.Docs) rd sw ⟨U,Nat.zero_le _,hs3⟩ ?_
   rintro ⟨i1,s1⟩ ⟨hd1,bd,hs6⟩ ag1 e
   try dsimp only at hd1 bd
   rcases s1 with _ | ⟨y1,rz1⟩
   ·have dI:=cU hd1
    try dsimp only
    refine ae (sr (aa (az kF U (aO 0 ty27 U U U (bC la U (aB (v':=.bool false) U (cb dI) (ac (bg U (bO U ?_)))))))))
    exact hx1 i1 _ ⟨bd,hs6⟩ trivial
   ·have dH:=dY hd1
    have bh:=cY hd1
    have eT:=aT hd1
    have gx:=ip.Docs.1.1
    try dsimp only
    refine ae (sr (aa (az kF U (aO 0 ty27 U U U (bC la U (aB (v':=.bool true) U (cb dH) (ac (bn U (ao (ae (aW (sr (az kF U (aO 0 ty27 U U U ?_))))))))))))))
    refine aa (a8 (gL la ty52 ip.Docs.1 (nthZ bh) (bB bh) U U U (fun q3 cs3 A3 ln3 rr3=>?_)))
    obtain ⟨r3,rfl,ok3⟩:=rr3
    refine az tV U (nh (j:=6) ty31 A3 U U (bC eL U (aJ U (aa ?_))))
    refine tq 9 [(1,Q b1),(3,I ((i1:Nat):Int)),(68,.bool (decide (20 < ((y1.Parties.length:Nat):Int))||decide (20 < ((y1.Revokes.length:Nat):Int))))] (fun hk7=>?_) (fun e=>?_)
    ·refine ar 59 U (fun c8=>?_) (fun c8=>?_)
     ·refine kq (kq (kq (kq (ah U ?_))))
      exact hk7 _ ⟨U,U,(cb (dL c8)),trivial⟩
     ·refine az kF U (aO 0 ty27 U U U (aa (a8 (gL la ty52 ip.Docs.1 (nthZ bh) (bB bh) U U U (fun q4 cs4 A4 ln4 rr4=>?_)))))
      obtain ⟨r4,rfl,ok4⟩:=rr4
      refine az rM U (nh (j:=7) ty31 A4 U U (bC eL U (aJ U (ah U ?_))))
      exact hk7 _ ⟨U,U,(cb (dM c8)),trivial⟩
    refine aa ?_
    refine tq 9 [(1,Q b1),(3,I ((i1:Nat):Int)),(78,.bool ((decide (20 < ((y1.Parties.length:Nat):Int))||decide (20 < ((y1.Revokes.length:Nat):Int)))||decide (20 < ((y1.Needs.length:Nat):Int))))] (fun hk8=>?_) (fun e=>?_)
    ·refine ar 69 U (fun c9=>?_) (fun c9=>?_)
     ·refine kq (kq (kq (kq (ah U ?_))))
      exact hk8 _ ⟨U,U,(cb (dL c9)),trivial⟩
     ·refine az kF U (aO 0 ty27 U U U (aa (a8 (gL la ty52 ip.Docs.1 (nthZ bh) (bB bh) U U U (fun q5 cs5 A5 ln5 rr5=>?_)))))
      obtain ⟨r5,rfl,ok5⟩:=rr5
      refine az rL U (nh (j:=8) ty31 A5 U U (bC eL U (aJ U (ah U ?_))))
      exact hk8 _ ⟨U,U,(cb (dM c9)),trivial⟩
    refine ac ?_
    refine aE U (fun c10=>?_) (fun c10=>?_)
    ·have hs8:=hs6.trans (bt c10)
     refine sr (an ?_)
     exact aw [.bool false] CM U hX rd (cs hs8)
    ·have hs10:=hs6.trans (bf c10)
     refine ao (av (ai (aa (aB (v':=I (((i1+1):Nat):Int)) U (bW ob) (an ?_)))))
     exact ag1 ((i1+1),rz1) _ (Nat.lt_succ_self _) ⟨bF hd1,aT hd1,hs10⟩ rd
theorem tE (h:HF) (aP:Register) (bH:er) (no:Int) (ip:Register.ok h aP bH):Ret Tryz.prog 19 [.agg (Register.cells aP bH).toArray,I no] h (I (cK aP no)):=by
 refine ay Tryz.func19 U Tryz.ntmps19 U fun X hM hX=>?_
 have hs0:cK aP no=cK aP no:=rfl
 refine sr (dy (fun b1=>an (ae (sr (an ?_)))))
 refine br (ι:=Nat) (fun i=>[]) (fun i=>h) (fun i=>[(b1,O (Register.cells aP bH) 30)]) (fun i=>i≤aP.Docs.length∧cK aP no=((cK.K1))) ?_ (fun hx1=>?_)
 ·rintro i1 ⟨bd,hs1⟩ e
  try dsimp only at bd
  try dsimp only
  refine sr (an ?_)
  exact aw [I (-1)] Tryz.func19 U hX rd (ci hs1)
 ·refine cp (ι:=Nat×List Document) (fun i=>[(1,I no),(2,Q b1),(5,I ((i.1:Nat):Int))]) (fun i=>h) (fun i=>[(b1,O (Register.cells aP bH) 30)]) (fun i=>aP.Docs.drop i.1=i.2∧i.1≤aP.Docs.length∧cK aP no=((cK.L1 no (cK.K1)) i.2 i.1)) (fun i=>i.2.length) (0,aP.Docs) rd sw ⟨U,Nat.zero_le _,hs0⟩ ?_
  rintro ⟨i1,s1⟩ ⟨hd1,bd,hs3⟩ ag1 e
  try dsimp only at hd1 bd
  rcases s1 with _ | ⟨y1,rz1⟩
  ·have dI:=cU hd1
   try dsimp only
   refine ae (sr (aa (az kF U (aO 0 ty27 U U U (bC la U (aB (v':=.bool false) U (cb dI) (ac (bg U (bO U ?_)))))))))
   exact hx1 i1 _ ⟨bd,hs3⟩ trivial
  ·have dH:=dY hd1
   have bh:=cY hd1
   have eT:=aT hd1
   have gx:=ip.Docs.1.1
   try dsimp only
   refine ae (sr (aa (az kF U (aO 0 ty27 U U U (bC la U (aB (v':=.bool true) U (cb dH) (ac (bn U (ao (ae (aW (sr (az kF U (aO 0 ty27 U U U ?_))))))))))))))
   refine aa (a8 (gL la ty52 ip.Docs.1 (nthZ bh) (bB bh) U U U (fun q2 cs2 A2 ln2 rr2=>?_)))
   obtain ⟨r2,rfl,ok2⟩:=rr2
   refine az j1 U (eC ty3 A2 U (aa (aJ U (ac ?_))))
   refine aE U (fun c2=>?_) (fun c2=>?_)
   ·have hs5:=hs3.trans (bt c2)
    refine sr (aa (an ?_))
    exact aw [I ((i1:Nat):Int)] Tryz.func19 U hX rd (ci hs5)
   ·have hs7:=hs3.trans (bf c2)
    refine ao (av (ai (aa (aB (v':=I (((i1+1):Nat):Int)) U (bW ob) (an ?_)))))
    exact ag1 ((i1+1),rz1) _ (Nat.lt_succ_self _) ⟨bF hd1,aT hd1,hs7⟩ rd
theorem vI (h:HF) (dQ:Int)  : Ret Tryz.prog 126 [I dQ] h (.bool (jO dQ)):=by
 refine ay Tryz.func126 U Tryz.ntmps126 U fun X hM hX=>?_
 have hs0:jO dQ=jO dQ:=rfl
 refine sr (an (sr (aa (aJ U (aa ?_)))))
 refine tq 3 [(8,.bool (decide (0≤dQ)&&decide (dQ < 32)))] (fun hk1=>?_) (fun e=>?_)
 ·refine ar 5 U (fun c1=>?_) (fun c1=>?_)
  ·refine aa (aJ U (ah U ?_))
   exact hk1 _ ⟨(cb (cW c1)),trivial⟩
  ·refine kq (ah U ?_)
   exact hk1 _ ⟨(cb (cX c1)),trivial⟩
 refine an ?_
 exact aw [.bool (decide (0≤dQ)&&decide (dQ < 32))] Tryz.func126 U hX rd (cs hs0)
theorem sx (h:HF) (dQ:Int)  : Ret Tryz.prog 127 [I dQ] h (.bool (gY dQ)):=by
 refine ay Tryz.func127 U Tryz.ntmps127 U fun X hM hX=>?_
 have hs0:gY dQ=gY dQ:=rfl
 refine sr (an (sr (aa (aJ U (aa ?_)))))
 refine tq 3 [(8,.bool (decide (0≤dQ)&&decide (dQ < 1099511627776)))] (fun hk1=>?_) (fun e=>?_)
 ·refine ar 5 U (fun c1=>?_) (fun c1=>?_)
  ·refine aa (aJ U (ah U ?_))
   exact hk1 _ ⟨(cb (cW c1)),trivial⟩
  ·refine kq (ah U ?_)
   exact hk1 _ ⟨(cb (cX c1)),trivial⟩
 refine an ?_
 exact aw [.bool (decide (0≤dQ)&&decide (dQ < 1099511627776))] Tryz.func127 U hX rd (cs hs0)
theorem vH (h:HF) (dQ:Int)  : Ret Tryz.prog 180 [I dQ] h (.bool (ki dQ)):=by
 refine ay Tryz.func180 U Tryz.ntmps180 U fun X hM hX=>?_
 have hs0:ki dQ=ki dQ:=rfl
 refine sr (an (sr (aa (aJ U (aa ?_)))))
 refine tq 3 [(8,.bool (decide (0≤dQ)&&decide (dQ < 64)))] (fun hk1=>?_) (fun e=>?_)
 ·refine ar 5 U (fun c1=>?_) (fun c1=>?_)
  ·refine aa (aJ U (ah U ?_))
   exact hk1 _ ⟨(cb (cW c1)),trivial⟩
  ·refine kq (ah U ?_)
   exact hk1 _ ⟨(cb (cX c1)),trivial⟩
 refine an ?_
 exact aw [.bool (decide (0≤dQ)&&decide (dQ < 64))] Tryz.func180 U hX rd (cs hs0)
theorem wM (h:HF) (x:Appoint)  : Ret Tryz.prog 112 [.agg (Appoint.cells x).toArray] h (.bool (gQ x)):=by
 refine ay CL U Tryz.ntmps112 U fun X hM hX=>?_
 have hs0:gQ x=gQ x:=rfl
 refine sr (dy (fun b1=>an (ae (sr (az oG U (aO 0 ty3 U U U (aJ U (aa ?_))))))))
 refine tq 4 [(1,Q b1),(10,.bool (decide (x.No < 0)||decide (1048576 < x.No)))] (fun hk1=>?_) (fun e=>?_)
 ·refine ar 6 U (fun c1=>?_) (fun c1=>?_)
  ·refine kq (bP (ah U ?_))
   exact hk1 _ ⟨U,(cb (dL c1)),trivial⟩
  ·refine az oG U (aO 0 ty3 U U U (aJ U (ah U ?_)))
   exact hk1 _ ⟨U,(cb (dM c1)),trivial⟩
 refine aa ?_
 refine tq 5 [(1,Q b1),(16,.bool ((decide (x.No < 0)||decide (1048576 < x.No))||(!(gY x.At))))] (fun hk2=>?_) (fun e=>?_)
 ·refine ar 11 U (fun c2=>?_) (fun c2=>?_)
  ·refine kq (kq (ah U ?_))
   exact hk2 _ ⟨U,(cb (dL c2)),trivial⟩
  ·refine az pW U (aO 0 ty3 U U U (aG (v:=.bool (gY x.At)) Tryz.call127 (sx h x.At ) U (cV U (ah U ?_))))
   exact hk2 _ ⟨U,(cb (dM c2)),trivial⟩
 refine aa ?_
 refine tq 5 [(1,Q b1),(22,.bool (((decide (x.No < 0)||decide (1048576 < x.No))||(!(gY x.At)))||(!(gY x.Known))))] (fun hk3=>?_) (fun e=>?_)
 ·refine ar 17 U (fun c3=>?_) (fun c3=>?_)
  ·refine kq (kq (ah U ?_))
   exact hk3 _ ⟨U,(cb (dL c3)),trivial⟩
  ·refine az vX U (aO 0 ty3 U U U (aG (v:=.bool (gY x.Known)) Tryz.call127 (sx h x.Known ) U (cV U (ah U ?_))))
   exact hk3 _ ⟨U,(cb (dM c3)),trivial⟩
 refine aa ?_
 refine tq 5 [(1,Q b1),(28,.bool ((((decide (x.No < 0)||decide (1048576 < x.No))||(!(gY x.At)))||(!(gY x.Known)))||(!(jO x.Office))))] (fun hk4=>?_) (fun e=>?_)
 ·refine ar 23 U (fun c4=>?_) (fun c4=>?_)
  ·refine kq (kq (ah U ?_))
   exact hk4 _ ⟨U,(cb (dL c4)),trivial⟩
  ·refine az vW U (aO 0 ty3 U U U (aG (v:=.bool (jO x.Office)) Tryz.call126 (vI h x.Office ) U (cV U (ah U ?_))))
   exact hk4 _ ⟨U,(cb (dM c4)),trivial⟩
 refine aa ?_
 refine tq 5 [(1,Q b1),(34,.bool (((((decide (x.No < 0)||decide (1048576 < x.No))||(!(gY x.At)))||(!(gY x.Known)))||(!(jO x.Office)))||(!(ki x.Person))))] (fun hk5=>?_) (fun e=>?_)
 ·refine ar 29 U (fun c5=>?_) (fun c5=>?_)
  ·refine kq (kq (ah U ?_))
   exact hk5 _ ⟨U,(cb (dL c5)),trivial⟩
  ·refine az tU U (aO 0 ty3 U U U (aG (v:=.bool (ki x.Person)) Tryz.call180 (vH h x.Person ) U (cV U (ah U ?_))))
   exact hk5 _ ⟨U,(cb (dM c5)),trivial⟩
 refine ac ?_
 refine aE U (fun c6=>?_) (fun c6=>?_)
 ·have hs1:=hs0.trans (bt c6)
  refine sr (an ?_)
  exact aw [.bool false] CL U hX rd (cs hs1)
 ·have hs3:=hs0.trans (bf c6)
  refine ao (ae (sr (az zR U (aO 0 ty4 U U U (ac ?_)))))
  refine aE U (fun c7=>?_) (fun c7=>?_)
  ·have hs4:=hs3.trans (bt c7)
   refine sr (az rK U (aO 0 ty3 U U U (aJ U (an ?_))))
   exact aw [.bool (x.Weight==0)] CL U hX rd (cs hs4)
  ·have hs6:=hs3.trans (bf c7)
   refine ao (sr (az rK U (aO 0 ty3 U U U (aJ U (aa ?_)))))
   refine tq 4 [(47,.bool (decide (1≤x.Weight)&&decide (x.Weight≤64)))] (fun hk6=>?_) (fun e=>?_)
   ·refine ar 43 U (fun c8=>?_) (fun c8=>?_)
    ·refine az rK U (aO 0 ty3 U U U (aJ U (ah U ?_)))
     exact hk6 _ ⟨(cb (cW c8)),trivial⟩
    ·refine kq (bP (ah U ?_))
     exact hk6 _ ⟨(cb (cX c8)),trivial⟩
   refine an ?_
   exact aw [.bool (decide (1≤x.Weight)&&decide (x.Weight≤64))] CL U hX rd (cs hs6)
theorem wN (h:HF) (l:(List Appoint)) (eW:Option Addr) (eV:Nat) (hl:SlC Appoint.rp h eW eV l):Ret Tryz.prog 67 [.slice eW l.length eV] h (I (ey l)):=by
 refine ay CK U Tryz.ntmps67 U fun X hM hX=>?_
 have hs0:ey l=ey l:=rfl
 refine sr (an (ae (sr (aa (bC na U (aJ U (ac ?_)))))))
 refine aE U (fun c1=>?_) (fun c1=>?_)
 ·have c1p:=of_decide_eq_true c1
  have hs1:=hs0.trans (bt c1)
  refine sr (an ?_)
  exact aw [I 2] CK U hX rd (ci hs1)
 ·have c1p:=of_decide_eq_false c1
  have hs3:=hs0.trans (bf c1)
  refine ao (ae (sr (an ?_)))
  refine br (ι:=Nat) (fun i=>[]) (fun i=>h) (fun i=>[]) (fun i=>i≤l.length∧ey l=((ey.K1))) ?_ (fun hx1=>?_)
  ·rintro i1 ⟨bd,hs4⟩ e
   try dsimp only at bd
   try dsimp only
   refine sr (an ?_)
   exact aw [I 0] CK U hX rd (ci hs4)
  ·refine cp (ι:=Nat×List Appoint) (fun i=>[(0,.slice eW l.length eV),(3,I ((i.1:Nat):Int))]) (fun i=>h) (fun i=>[]) (fun i=>l.drop i.1=i.2∧i.1≤l.length∧ey l=((ey.L1 l (ey.K1)) i.2 i.1)) (fun i=>i.2.length) (0,l) rd sw ⟨U,Nat.zero_le _,hs3⟩ ?_
   rintro ⟨i1,s1⟩ ⟨hd1,bd,hs6⟩ ag1 e
   try dsimp only at hd1 bd
   rcases s1 with _ | ⟨y1,rz1⟩
   ·have dI:=cU hd1
    try dsimp only
    refine ae (sr (aa (aa (bC na U (aB (v':=.bool false) U (cb dI) (ac (bg U (bO U ?_))))))))
    exact hx1 i1 _ ⟨bd,hs6⟩ trivial
   ·have dH:=dY hd1
    have bh:=cY hd1
    have eT:=aT hd1
    have gx:=hl.1.1
    try dsimp only
    refine ae (sr (aa (aa (bC na U (aB (v':=.bool true) U (cb dH) (ac (bn U (ao (ae (aW (ae ?_)))))))))))
    refine my [(0,.slice eW l.length eV),(3,I ((i1:Nat):Int)),(36,.bool ((!(gQ y1))||(decide (0 < ((i1:Nat):Int))&&decide (y1.No≤(nthI l (((i1:Nat):Int) - 1)).No))))] (fun e=>?_) (fun hk1=>?_)
    rotate_left
    ·refine ga ([]) mixed kr jn (fun eX _=>?_)
     refine tm 0 U (tm 1 U (fA 2 (enc:=Appoint.cells) eX jn (fun _ _ _ e=>e) na ty59 hl.1 (nthZ bh) (bB bh) U U U U kr (fun q4 A4=>?_)))
     refine tf 3 U U (fun _ _ hj=>jP ty59 (A4.mono hj.1) U U) (tn 4 U (fu (v:=.bool (gQ y1)) Tryz.call112 (wM h y1 ) U (⟨jn,?_⟩)))
     refine tf 5 U U (fun _ _ _=>ku U) (tm 6 U ?_)
     refine eo 19 U (fun c2=>?_) (fun c2=>?_)
     ·refine tk 7 U U (tk 8 U U (tk 9 U U (tk 10 U U ?_)))
      refine tk 11 U U (tk 12 U U (tk 13 U U (tk 14 U U ?_)))
      refine tk 15 U U (tk 16 U U (tk 17 U U (tk 18 U U ?_)))
      refine tk 19 U U (tk 20 U U (tk 21 U U (tk 22 U U ?_)))
      refine tf 23 U U (fun _ _ _=>co U) (bY kr ?_)
      exact hk1 _ ⟨U,U,(cb (show true=((!(gQ y1))||(decide (0 < ((i1:Nat):Int))&&decide (y1.No≤(nthI l (((i1:Nat):Int) - 1)).No))) from by rw [c2] <;> rfl)),trivial⟩
     ·refine tm 7 U (tf 8 U U (fun _ _ _=>ib U) (tm 9 U ?_))
      refine eo 22 U (fun c3=>?_) (fun c3=>?_)
      ·have c3p:=of_decide_eq_true c3
       refine tm 10 U (tm 11 U (tf 12 U U (fun _ _ _=>mB (v':=I (((i1:Nat):Int) - 1)) U (iu ob)) ?_))
       have ho2:0≤((((i1:Nat):Int) - 1):Int)∧((((i1:Nat):Int) - 1):Int) < ((l).length:Int):=ob
       refine fA 13 (enc:=Appoint.cells) eX jn (fun _ _ _ e=>e) na ty59 hl.1 ho2 (eA ho2) U U U U kr (fun q5 A5=>tf 14 U U (fun _ _ _=>dB oG U) ?_)
       refine tf 15 U U (fun _ _ hj=>gd ty3 (A5.mono hj.1) U) (tm 16 U (tm 17 U ?_))
       refine fA 18 (enc:=Appoint.cells) eX jn (fun _ _ _ e=>e) na ty59 hl.1 (nthZ bh) (bB bh) U U U U kr (fun q6 A6=>tf 19 U U (fun _ _ _=>dB oG U) ?_)
       refine tf 20 U U (fun _ _ hj=>gd ty3 (A6.mono hj.1) U) (tf 21 U U (fun _ _ _=>ib U) (tf 22 U U (fun _ _ _=>co U) ?_))
       refine tf 23 U U (fun _ _ _=>co U) (bY kr ?_)
       exact hk1 _ ⟨U,U,(cb (show decide (y1.No≤(nthI l (((i1:Nat):Int) - 1)).No)=((!(gQ y1))||(decide (0 < ((i1:Nat):Int))&&decide (y1.No≤(nthI l (((i1:Nat):Int) - 1)).No))) from by rw [c2,c3] <;> rfl)),trivial⟩
      ·have c3p:=of_decide_eq_false c3
       refine tk 10 U U (tk 11 U U (tk 12 U U (tk 13 U U ?_)))
       refine tk 14 U U (tk 15 U U (tk 16 U U (tk 17 U U ?_)))
       refine tk 18 U U (tk 19 U U (tk 20 U U (tk 21 U U ?_)))
       refine tf 22 U U (fun _ _ _=>co U) (tf 23 U U (fun _ _ _=>co U) (bY kr ?_))
       exact hk1 _ ⟨U,U,(cb (show false=((!(gQ y1))||(decide (0 < ((i1:Nat):Int))&&decide (y1.No≤(nthI l (((i1:Nat):Int) - 1)).No))) from by rw [c2,c3] <;> rfl)),trivial⟩
    refine aE U (fun c4=>?_) (fun c4=>?_)
    ·have hs8:=hs6.trans (bt c4)
     refine sr (an ?_)
     exact aw [I 150] CK U hX rd (ci hs8)
    ·have hs10:=hs6.trans (bf c4)
     refine ao (av (ai (aa (aB (v':=I (((i1+1):Nat):Int)) U (bW ob) (an ?_)))))
     exact ag1 ((i1+1),rz1) _ (Nat.lt_succ_self _) ⟨bF hd1,aT hd1,hs10⟩ rd
end Go.Sg
namespace Go.Sg
open Go.Proofs
set_option maxHeartbeats 2000000
set_option maxRecDepth 100000
set_option linter.unusedVariables false
theorem jM (h:HF) (dQ:Int) (low:Int) (high:Int)  : Ret Tryz.prog 181 [I dQ,I low,I high] h (.bool (dZ dQ low high)):=by
 refine ay Tryz.func181 U Tryz.ntmps181 U fun X hM hX=>?_
 have hs0:dZ dQ low high=dZ dQ low high:=rfl
 refine sr (an (sr (aa (aa (aJ U (aa ?_))))))
 refine tq 4 [(14,.bool (decide (low≤dQ)&&decide (dQ≤high)))] (fun hk1=>?_) (fun e=>?_)
 ·refine ar 10 U (fun c1=>?_) (fun c1=>?_)
  ·refine aa (aa (aJ U (ah U ?_)))
   exact hk1 _ ⟨(cb (cW c1)),trivial⟩
  ·refine kq (bP (ah U ?_))
   exact hk1 _ ⟨(cb (cX c1)),trivial⟩
 refine an ?_
 exact aw [.bool (decide (low≤dQ)&&decide (dQ≤high))] Tryz.func181 U hX rd (cs hs0)
theorem sv (h:HF) (dQ:Int)  : Ret Tryz.prog 182 [I dQ] h (.bool (gP dQ)):=by
 refine ay Tryz.func182 U Tryz.ntmps182 U fun X hM hX=>?_
 have hs0:gP dQ=gP dQ:=rfl
 refine sr (an (sr (aa (aG (v:=.bool (dZ dQ 0 1099511627775)) Aj (jM h dQ 0 1099511627775 ) U (an ?_)))))
 exact aw [.bool (dZ dQ 0 1099511627775)] Tryz.func182 U hX rd (cs hs0)
theorem qf (h:HF) (dQ:Int)  : Ret Tryz.prog 183 [I dQ] h (.bool (gW dQ)):=by
 refine ay Tryz.func183 U Tryz.ntmps183 U fun X hM hX=>?_
 have hs0:gW dQ=gW dQ:=rfl
 refine sr (an (sr (aa (aG (v:=.bool (dZ dQ 0 63)) Aj (jM h dQ 0 63 ) U (an ?_)))))
 exact aw [.bool (dZ dQ 0 63)] Tryz.func183 U hX rd (cs hs0)
theorem wK (h:HF) (x:Deputy)  : Ret Tryz.prog 113 [.agg (Deputy.cells x).toArray] h (.bool (hY x)):=by
 refine ay Du U Tryz.ntmps113 U fun X hM hX=>?_
 have hs0:hY x=hY x:=rfl
 refine sr (dy (fun b1=>an (ae (sr (az pp U (aO 0 ty3 U U U (aG (v:=.bool (dZ x.No 0 1048576)) Aj (jM h x.No 0 1048576 ) U (cV U (aa ?_)))))))))
 refine tq 5 [(1,Q b1),(12,.bool ((!(dZ x.No 0 1048576))||(!(gP x.At))))] (fun hk1=>?_) (fun e=>?_)
 ·refine ar 7 U (fun c1=>?_) (fun c1=>?_)
  ·refine kq (kq (ah U ?_))
   exact hk1 _ ⟨U,(cb (dL c1)),trivial⟩
  ·refine az t8 U (aO 0 ty3 U U U (aG (v:=.bool (gP x.At)) Tryz.call182 (sv h x.At ) U (cV U (ah U ?_))))
   exact hk1 _ ⟨U,(cb (dM c1)),trivial⟩
 refine aa ?_
 refine tq 5 [(1,Q b1),(18,.bool (((!(dZ x.No 0 1048576))||(!(gP x.At)))||(!(gP x.Known))))] (fun hk2=>?_) (fun e=>?_)
 ·refine ar 13 U (fun c2=>?_) (fun c2=>?_)
  ·refine kq (kq (ah U ?_))
   exact hk2 _ ⟨U,(cb (dL c2)),trivial⟩
  ·refine az B1 U (aO 0 ty3 U U U (aG (v:=.bool (gP x.Known)) Tryz.call182 (sv h x.Known ) U (cV U (ah U ?_))))
   exact hk2 _ ⟨U,(cb (dM c2)),trivial⟩
 refine aa ?_
 refine tq 5 [(1,Q b1),(24,.bool ((((!(dZ x.No 0 1048576))||(!(gP x.At)))||(!(gP x.Known)))||(!(gW x.From))))] (fun hk3=>?_) (fun e=>?_)
 ·refine ar 19 U (fun c3=>?_) (fun c3=>?_)
  ·refine kq (kq (ah U ?_))
   exact hk3 _ ⟨U,(cb (dL c3)),trivial⟩
  ·refine az t7 U (aO 0 ty3 U U U (aG (v:=.bool (gW x.From)) Tryz.call183 (qf h x.From ) U (cV U (ah U ?_))))
   exact hk3 _ ⟨U,(cb (dM c3)),trivial⟩
 refine aa ?_
 refine tq 5 [(1,Q b1),(30,.bool (((((!(dZ x.No 0 1048576))||(!(gP x.At)))||(!(gP x.Known)))||(!(gW x.From)))||(!(gW x.To))))] (fun hk4=>?_) (fun e=>?_)
 ·refine ar 25 U (fun c4=>?_) (fun c4=>?_)
  ·refine kq (kq (ah U ?_))
   exact hk4 _ ⟨U,(cb (dL c4)),trivial⟩
  ·refine az t6 U (aO 0 ty3 U U U (aG (v:=.bool (gW x.To)) Tryz.call183 (qf h x.To ) U (cV U (ah U ?_))))
   exact hk4 _ ⟨U,(cb (dM c4)),trivial⟩
 refine aa ?_
 refine tq 6 [(1,Q b1),(37,.bool ((((((!(dZ x.No 0 1048576))||(!(gP x.At)))||(!(gP x.Known)))||(!(gW x.From)))||(!(gW x.To)))||(x.From==x.To)))] (fun hk5=>?_) (fun e=>?_)
 ·refine ar 31 U (fun c5=>?_) (fun c5=>?_)
  ·refine kq (kq (bP (ah U ?_)))
   exact hk5 _ ⟨U,(cb (dL c5)),trivial⟩
  ·refine az t7 U (aO 0 ty3 U U U (az t6 U (aO 0 ty3 U U U (aJ U (ah U ?_)))))
   exact hk5 _ ⟨U,(cb (dM c5)),trivial⟩
 refine ac ?_
 refine aE U (fun c6=>?_) (fun c6=>?_)
 ·have hs1:=hs0.trans (bt c6)
  refine sr (an ?_)
  exact aw [.bool false] Du U hX rd (cs hs1)
 ·have hs3:=hs0.trans (bf c6)
  refine ao (ae (sr (az BZ U (aO 0 ty3 U U U (aG (v:=.bool (dZ x.Office 0 31)) Aj (jM h x.Office 0 31 ) U (cV U (aa ?_)))))))
  refine tq 5 [(1,Q b1),(47,.bool ((!(dZ x.Office 0 31))||(!(dZ x.Kind (-1) 15))))] (fun hk6=>?_) (fun e=>?_)
  ·refine ar 42 U (fun c7=>?_) (fun c7=>?_)
   ·refine kq (kq (ah U ?_))
    exact hk6 _ ⟨U,(cb (dL c7)),trivial⟩
   ·refine az BY U (aO 0 ty3 U U U (aG (v:=.bool (dZ x.Kind (-1) 15)) Aj (jM h x.Kind (-1) 15 ) U (cV U (ah U ?_))))
    exact hk6 _ ⟨U,(cb (dM c7)),trivial⟩
  refine ac ?_
  refine aE U (fun c8=>?_) (fun c8=>?_)
  ·have hs4:=hs3.trans (bt c8)
   refine sr (an ?_)
   exact aw [.bool false] Du U hX rd (cs hs4)
  ·have hs6:=hs3.trans (bf c8)
   refine ao (ae (sr (az BX U (aO 0 ty4 U U U (ac ?_)))))
   refine aE U (fun c9=>?_) (fun c9=>?_)
   ·have hs7:=hs6.trans (bt c9)
    refine sr (az po U (aO 0 ty3 U U U (aJ U (aa ?_))))
    refine tq 4 [(57,.bool ((x.Until==0)&&(x.Most==0)))] (fun hk7=>?_) (fun e=>?_)
    ·refine ar 53 U (fun c10=>?_) (fun c10=>?_)
     ·refine az tZ U (aO 0 ty3 U U U (aJ U (ah U ?_)))
      exact hk7 _ ⟨(cb (cW c10)),trivial⟩
     ·refine kq (bP (ah U ?_))
      exact hk7 _ ⟨(cb (cX c10)),trivial⟩
    refine an ?_
    exact aw [.bool ((x.Until==0)&&(x.Most==0))] Du U hX rd (cs hs7)
   ·have hs9:=hs6.trans (bf c9)
    refine ao (sr (az t8 U (aO 0 ty3 U U U (az po U (aO 0 ty3 U U U (aJ U (aa ?_)))))))
    refine tq 4 [(1,Q b1),(67,.bool (decide (x.At < x.Until)&&decide (x.Until≤1099511627776)))] (fun hk8=>?_) (fun e=>?_)
    ·refine ar 63 U (fun c11=>?_) (fun c11=>?_)
     ·refine az po U (aO 0 ty3 U U U (aJ U (ah U ?_)))
      exact hk8 _ ⟨U,(cb (cW c11)),trivial⟩
     ·refine kq (bP (ah U ?_))
      exact hk8 _ ⟨U,(cb (cX c11)),trivial⟩
    refine aa ?_
    refine tq 4 [(72,.bool ((decide (x.At < x.Until)&&decide (x.Until≤1099511627776))&&(dZ x.Most 0 1099511627776)))] (fun hk9=>?_) (fun e=>?_)
    ·refine ar 68 U (fun c12=>?_) (fun c12=>?_)
     ·refine az tZ U (aO 0 ty3 U U U (aG (v:=.bool (dZ x.Most 0 1099511627776)) Aj (jM h x.Most 0 1099511627776 ) U (ah U ?_)))
      exact hk9 _ ⟨(cb (cW c12)),trivial⟩
     ·refine kq (bP (ah U ?_))
      exact hk9 _ ⟨(cb (cX c12)),trivial⟩
    refine an ?_
    exact aw [.bool ((decide (x.At < x.Until)&&decide (x.Until≤1099511627776))&&(dZ x.Most 0 1099511627776))] Du U hX rd (cs hs9)
theorem wL (h:HF) (l:(List Deputy)) (eW:Option Addr) (eV:Nat) (hl:SlC Deputy.rp h eW eV l):Ret Tryz.prog 68 [.slice eW l.length eV] h (I (e6 l)):=by
 refine ay CJ U Tryz.ntmps68 U fun X hM hX=>?_
 have hs0:e6 l=e6 l:=rfl
 refine sr (an (ae (sr (aa (bC sj U (aJ U (ac ?_)))))))
 refine aE U (fun c1=>?_) (fun c1=>?_)
 ·have c1p:=of_decide_eq_true c1
  have hs1:=hs0.trans (bt c1)
  refine sr (an ?_)
  exact aw [I 2] CJ U hX rd (ci hs1)
 ·have c1p:=of_decide_eq_false c1
  have hs3:=hs0.trans (bf c1)
  refine ao (ae (sr (an ?_)))
  refine br (ι:=Nat) (fun i=>[]) (fun i=>h) (fun i=>[]) (fun i=>i≤l.length∧e6 l=((e6.K1))) ?_ (fun hx1=>?_)
  ·rintro i1 ⟨bd,hs4⟩ e
   try dsimp only at bd
   try dsimp only
   refine sr (an ?_)
   exact aw [I 0] CJ U hX rd (ci hs4)
  ·refine cp (ι:=Nat×List Deputy) (fun i=>[(0,.slice eW l.length eV),(3,I ((i.1:Nat):Int))]) (fun i=>h) (fun i=>[]) (fun i=>l.drop i.1=i.2∧i.1≤l.length∧e6 l=((e6.L1 l (e6.K1)) i.2 i.1)) (fun i=>i.2.length) (0,l) rd sw ⟨U,Nat.zero_le _,hs3⟩ ?_
   rintro ⟨i1,s1⟩ ⟨hd1,bd,hs6⟩ ag1 e
   try dsimp only at hd1 bd
   rcases s1 with _ | ⟨y1,rz1⟩
   ·have dI:=cU hd1
    try dsimp only
    refine ae (sr (aa (aa (bC sj U (aB (v':=.bool false) U (cb dI) (ac (bg U (bO U ?_))))))))
    exact hx1 i1 _ ⟨bd,hs6⟩ trivial
   ·have dH:=dY hd1
    have bh:=cY hd1
    have eT:=aT hd1
    have gx:=hl.1.1
    try dsimp only
    refine ae (sr (aa (aa (bC sj U (aB (v':=.bool true) U (cb dH) (ac (bn U (ao (ae (aW (ae ?_)))))))))))
    refine my [(0,.slice eW l.length eV),(3,I ((i1:Nat):Int)),(36,.bool ((!(hY y1))||(decide (0 < ((i1:Nat):Int))&&decide (y1.No≤(nthI l (((i1:Nat):Int) - 1)).No))))] (fun e=>?_) (fun hk1=>?_)
    rotate_left
    ·refine ga ([]) mixed kr jn (fun eX _=>?_)
     refine tm 0 U (tm 1 U (fA 2 (enc:=Deputy.cells) eX jn (fun _ _ _ e=>e) sj ty169 hl.1 (nthZ bh) (bB bh) U U U U kr (fun q4 A4=>?_)))
     refine tf 3 U U (fun _ _ hj=>jP ty169 (A4.mono hj.1) U U) (tn 4 U (fu (v:=.bool (hY y1)) Tryz.call113 (wK h y1 ) U (⟨jn,?_⟩)))
     refine tf 5 U U (fun _ _ _=>ku U) (tm 6 U ?_)
     refine eo 19 U (fun c2=>?_) (fun c2=>?_)
     ·refine tk 7 U U (tk 8 U U (tk 9 U U (tk 10 U U ?_)))
      refine tk 11 U U (tk 12 U U (tk 13 U U (tk 14 U U ?_)))
      refine tk 15 U U (tk 16 U U (tk 17 U U (tk 18 U U ?_)))
      refine tk 19 U U (tk 20 U U (tk 21 U U (tk 22 U U ?_)))
      refine tf 23 U U (fun _ _ _=>co U) (bY kr ?_)
      exact hk1 _ ⟨U,U,(cb (show true=((!(hY y1))||(decide (0 < ((i1:Nat):Int))&&decide (y1.No≤(nthI l (((i1:Nat):Int) - 1)).No))) from by rw [c2] <;> rfl)),trivial⟩
     ·refine tm 7 U (tf 8 U U (fun _ _ _=>ib U) (tm 9 U ?_))
      refine eo 22 U (fun c3=>?_) (fun c3=>?_)
      ·have c3p:=of_decide_eq_true c3
       refine tm 10 U (tm 11 U (tf 12 U U (fun _ _ _=>mB (v':=I (((i1:Nat):Int) - 1)) U (iu ob)) ?_))
       have ho2:0≤((((i1:Nat):Int) - 1):Int)∧((((i1:Nat):Int) - 1):Int) < ((l).length:Int):=ob
       refine fA 13 (enc:=Deputy.cells) eX jn (fun _ _ _ e=>e) sj ty169 hl.1 ho2 (eA ho2) U U U U kr (fun q5 A5=>tf 14 U U (fun _ _ _=>dB pp U) ?_)
       refine tf 15 U U (fun _ _ hj=>gd ty3 (A5.mono hj.1) U) (tm 16 U (tm 17 U ?_))
       refine fA 18 (enc:=Deputy.cells) eX jn (fun _ _ _ e=>e) sj ty169 hl.1 (nthZ bh) (bB bh) U U U U kr (fun q6 A6=>tf 19 U U (fun _ _ _=>dB pp U) ?_)
       refine tf 20 U U (fun _ _ hj=>gd ty3 (A6.mono hj.1) U) (tf 21 U U (fun _ _ _=>ib U) (tf 22 U U (fun _ _ _=>co U) ?_))
       refine tf 23 U U (fun _ _ _=>co U) (bY kr ?_)
       exact hk1 _ ⟨U,U,(cb (show decide (y1.No≤(nthI l (((i1:Nat):Int) - 1)).No)=((!(hY y1))||(decide (0 < ((i1:Nat):Int))&&decide (y1.No≤(nthI l (((i1:Nat):Int) - 1)).No))) from by rw [c2,c3] <;> rfl)),trivial⟩
      ·have c3p:=of_decide_eq_false c3
       refine tk 10 U U (tk 11 U U (tk 12 U U (tk 13 U U ?_)))
       refine tk 14 U U (tk 15 U U (tk 16 U U (tk 17 U U ?_)))
       refine tk 18 U U (tk 19 U U (tk 20 U U (tk 21 U U ?_)))
       refine tf 22 U U (fun _ _ _=>co U) (tf 23 U U (fun _ _ _=>co U) (bY kr ?_))
       exact hk1 _ ⟨U,U,(cb (show false=((!(hY y1))||(decide (0 < ((i1:Nat):Int))&&decide (y1.No≤(nthI l (((i1:Nat):Int) - 1)).No))) from by rw [c2,c3] <;> rfl)),trivial⟩
    refine aE U (fun c4=>?_) (fun c4=>?_)
    ·have hs8:=hs6.trans (bt c4)
     refine sr (an ?_)
     exact aw [I 160] CJ U hX rd (ci hs8)
    ·have hs10:=hs6.trans (bf c4)
     refine ao (av (ai (aa (aB (v':=I (((i1+1):Nat):Int)) U (bW ob) (an ?_)))))
     exact ag1 ((i1+1),rz1) _ (Nat.lt_succ_self _) ⟨bF hd1,aT hd1,hs10⟩ rd
theorem sq (h:HF) (t:Int)  : Ret Tryz.prog 184 [I t] h (.bool (iA t)):=by
 refine ay Tryz.func184 U Tryz.ntmps184 U fun X hM hX=>?_
 have hs0:iA t=iA t:=rfl
 refine sr (an (sr (aa (aJ U (aa ?_)))))
 refine tq 3 [(8,.bool (decide (0≤t)&&decide (t < 1099511627776)))] (fun hk1=>?_) (fun e=>?_)
 ·refine ar 5 U (fun c1=>?_) (fun c1=>?_)
  ·refine aa (aJ U (ah U ?_))
   exact hk1 _ ⟨(cb (cW c1)),trivial⟩
  ·refine kq (ah U ?_)
   exact hk1 _ ⟨(cb (cX c1)),trivial⟩
 refine an ?_
 exact aw [.bool (decide (0≤t)&&decide (t < 1099511627776))] Tryz.func184 U hX rd (cs hs0)
theorem qM (h:HF) (dQ:Int)  : Ret Tryz.prog 185 [I dQ] h (.bool (i8 dQ)):=by
 refine ay Tryz.func185 U Tryz.ntmps185 U fun X hM hX=>?_
 have hs0:i8 dQ=i8 dQ:=rfl
 refine sr (an (sr (aa (aJ U (aa ?_)))))
 refine tq 3 [(8,.bool (decide (0≤dQ)&&decide (dQ≤1048576)))] (fun hk1=>?_) (fun e=>?_)
 ·refine ar 5 U (fun c1=>?_) (fun c1=>?_)
  ·refine aa (aJ U (ah U ?_))
   exact hk1 _ ⟨(cb (cW c1)),trivial⟩
  ·refine kq (ah U ?_)
   exact hk1 _ ⟨(cb (cX c1)),trivial⟩
 refine an ?_
 exact aw [.bool (decide (0≤dQ)&&decide (dQ≤1048576))] Tryz.func185 U hX rd (cs hs0)
theorem vB (h:HF) (dQ:Int)  : Ret Tryz.prog 186 [I dQ] h (.bool (kg dQ)):=by
 refine ay Tryz.func186 U Tryz.ntmps186 U fun X hM hX=>?_
 have hs0:kg dQ=kg dQ:=rfl
 refine sr (an (sr (aa (aJ U (aa ?_)))))
 refine tq 3 [(8,.bool (decide (0≤dQ)&&decide (dQ < 64)))] (fun hk1=>?_) (fun e=>?_)
 ·refine ar 5 U (fun c1=>?_) (fun c1=>?_)
  ·refine aa (aJ U (ah U ?_))
   exact hk1 _ ⟨(cb (cW c1)),trivial⟩
  ·refine kq (ah U ?_)
   exact hk1 _ ⟨(cb (cX c1)),trivial⟩
 refine an ?_
 exact aw [.bool (decide (0≤dQ)&&decide (dQ < 64))] Tryz.func186 U hX rd (cs hs0)
end Go.Sg
namespace Go.Sg
open Go.Proofs
set_option maxHeartbeats 2000000
set_option maxRecDepth 100000
set_option linter.unusedVariables false
theorem wz (h:HF) (x:Interest)  : Ret Tryz.prog 114 [.agg (Interest.cells x).toArray] h (.bool (gO x)):=by
 refine ay CI U Tryz.ntmps114 U fun X hM hX=>?_
 have hs0:gO x=gO x:=rfl
 refine sr (dy (fun b1=>an (ae (sr (az nu U (aO 0 ty3 U U U (aJ U (aa ?_))))))))
 refine tq 4 [(1,Q b1),(10,.bool (decide (x.No < 0)||decide (1048576 < x.No)))] (fun hk1=>?_) (fun e=>?_)
 ·refine ar 6 U (fun c1=>?_) (fun c1=>?_)
  ·refine kq (bP (ah U ?_))
   exact hk1 _ ⟨U,(cb (dL c1)),trivial⟩
  ·refine az nu U (aO 0 ty3 U U U (aJ U (ah U ?_)))
   exact hk1 _ ⟨U,(cb (dM c1)),trivial⟩
 refine aa ?_
 refine tq 5 [(1,Q b1),(16,.bool ((decide (x.No < 0)||decide (1048576 < x.No))||(!(iA x.At))))] (fun hk2=>?_) (fun e=>?_)
 ·refine ar 11 U (fun c2=>?_) (fun c2=>?_)
  ·refine kq (kq (ah U ?_))
   exact hk2 _ ⟨U,(cb (dL c2)),trivial⟩
  ·refine az rJ U (aO 0 ty3 U U U (aG (v:=.bool (iA x.At)) Tryz.call184 (sq h x.At ) U (cV U (ah U ?_))))
   exact hk2 _ ⟨U,(cb (dM c2)),trivial⟩
 refine aa ?_
 refine tq 5 [(1,Q b1),(22,.bool (((decide (x.No < 0)||decide (1048576 < x.No))||(!(iA x.At)))||(!(iA x.Known))))] (fun hk3=>?_) (fun e=>?_)
 ·refine ar 17 U (fun c3=>?_) (fun c3=>?_)
  ·refine kq (kq (ah U ?_))
   exact hk3 _ ⟨U,(cb (dL c3)),trivial⟩
  ·refine az zQ U (aO 0 ty3 U U U (aG (v:=.bool (iA x.Known)) Tryz.call184 (sq h x.Known ) U (cV U (ah U ?_))))
   exact hk3 _ ⟨U,(cb (dM c3)),trivial⟩
 refine aa ?_
 refine tq 5 [(1,Q b1),(28,.bool ((((decide (x.No < 0)||decide (1048576 < x.No))||(!(iA x.At)))||(!(iA x.Known)))||(!(i8 x.Party))))] (fun hk4=>?_) (fun e=>?_)
 ·refine ar 23 U (fun c4=>?_) (fun c4=>?_)
  ·refine kq (kq (ah U ?_))
   exact hk4 _ ⟨U,(cb (dL c4)),trivial⟩
  ·refine az oF U (aO 0 ty3 U U U (aG (v:=.bool (i8 x.Party)) Tryz.call185 (qM h x.Party ) U (cV U (ah U ?_))))
   exact hk4 _ ⟨U,(cb (dM c4)),trivial⟩
 refine ac ?_
 refine aE U (fun c5=>?_) (fun c5=>?_)
 ·have hs1:=hs0.trans (bt c5)
  refine sr (an ?_)
  exact aw [.bool false] CI U hX rd (cs hs1)
 ·have hs3:=hs0.trans (bf c5)
  refine ao (ae (sr (az tT U (aO 0 ty4 U U U (ac ?_)))))
  refine aE U (fun c6=>?_) (fun c6=>?_)
  ·have hs4:=hs3.trans (bt c6)
   refine sr (az mj U (aO 0 ty3 U U U (aG (v:=.bool (i8 x.Person)) Tryz.call185 (qM h x.Person ) U (aa ?_))))
   refine tq 6 [(40,.bool ((i8 x.Person)&&(x.Person != x.Party)))] (fun hk5=>?_) (fun e=>?_)
   ·refine ar 34 U (fun c7=>?_) (fun c7=>?_)
    ·refine az mj U (aO 0 ty3 U U U (az oF U (aO 0 ty3 U U U (aJ U (ah U ?_)))))
     exact hk5 _ ⟨(cb (cW c7)),trivial⟩
    ·refine kq (kq (bP (ah U ?_)))
     exact hk5 _ ⟨(cb (cX c7)),trivial⟩
   refine an ?_
   exact aw [.bool ((i8 x.Person)&&(x.Person != x.Party))] CI U hX rd (cs hs4)
  ·have hs6:=hs3.trans (bf c6)
   refine ao (sr (az mj U (aO 0 ty3 U U U (aG (v:=.bool (kg x.Person)) Tryz.call186 (vB h x.Person ) U (an ?_)))))
   exact aw [.bool (kg x.Person)] CI U hX rd (cs hs6)
theorem wA (h:HF) (l:(List Interest)) (eW:Option Addr) (eV:Nat) (hl:SlC Interest.rp h eW eV l):Ret Tryz.prog 69 [.slice eW l.length eV] h (I (eH l)):=by
 refine ay CH U Tryz.ntmps69 U fun X hM hX=>?_
 have hs0:eH l=eH l:=rfl
 refine sr (an (ae (sr (aa (bC nj U (aJ U (ac ?_)))))))
 refine aE U (fun c1=>?_) (fun c1=>?_)
 ·have c1p:=of_decide_eq_true c1
  have hs1:=hs0.trans (bt c1)
  refine sr (an ?_)
  exact aw [I 2] CH U hX rd (ci hs1)
 ·have c1p:=of_decide_eq_false c1
  have hs3:=hs0.trans (bf c1)
  refine ao (ae (sr (an ?_)))
  refine br (ι:=Nat) (fun i=>[]) (fun i=>h) (fun i=>[]) (fun i=>i≤l.length∧eH l=((eH.K1))) ?_ (fun hx1=>?_)
  ·rintro i1 ⟨bd,hs4⟩ e
   try dsimp only at bd
   try dsimp only
   refine sr (an ?_)
   exact aw [I 0] CH U hX rd (ci hs4)
  ·refine cp (ι:=Nat×List Interest) (fun i=>[(0,.slice eW l.length eV),(3,I ((i.1:Nat):Int))]) (fun i=>h) (fun i=>[]) (fun i=>l.drop i.1=i.2∧i.1≤l.length∧eH l=((eH.L1 l (eH.K1)) i.2 i.1)) (fun i=>i.2.length) (0,l) rd sw ⟨U,Nat.zero_le _,hs3⟩ ?_
   rintro ⟨i1,s1⟩ ⟨hd1,bd,hs6⟩ ag1 e
   try dsimp only at hd1 bd
   rcases s1 with _ | ⟨y1,rz1⟩
   ·have dI:=cU hd1
    try dsimp only
    refine ae (sr (aa (aa (bC nj U (aB (v':=.bool false) U (cb dI) (ac (bg U (bO U ?_))))))))
    exact hx1 i1 _ ⟨bd,hs6⟩ trivial
   ·have dH:=dY hd1
    have bh:=cY hd1
    have eT:=aT hd1
    have gx:=hl.1.1
    try dsimp only
    refine ae (sr (aa (aa (bC nj U (aB (v':=.bool true) U (cb dH) (ac (bn U (ao (ae (aW (ae ?_)))))))))))
    refine my [(0,.slice eW l.length eV),(3,I ((i1:Nat):Int)),(36,.bool ((!(gO y1))||(decide (0 < ((i1:Nat):Int))&&decide (y1.No≤(nthI l (((i1:Nat):Int) - 1)).No))))] (fun e=>?_) (fun hk1=>?_)
    rotate_left
    ·refine ga ([]) mixed kr jn (fun eX _=>?_)
     refine tm 0 U (tm 1 U (fA 2 (enc:=Interest.cells) eX jn (fun _ _ _ e=>e) nj ty61 hl.1 (nthZ bh) (bB bh) U U U U kr (fun q4 A4=>?_)))
     refine tf 3 U U (fun _ _ hj=>jP ty61 (A4.mono hj.1) U U) (tn 4 U (fu (v:=.bool (gO y1)) Tryz.call114 (wz h y1 ) U (⟨jn,?_⟩)))
     refine tf 5 U U (fun _ _ _=>ku U) (tm 6 U ?_)
     refine eo 19 U (fun c2=>?_) (fun c2=>?_)
     ·refine tk 7 U U (tk 8 U U (tk 9 U U (tk 10 U U ?_)))
      refine tk 11 U U (tk 12 U U (tk 13 U U (tk 14 U U ?_)))
      refine tk 15 U U (tk 16 U U (tk 17 U U (tk 18 U U ?_)))
      refine tk 19 U U (tk 20 U U (tk 21 U U (tk 22 U U ?_)))
      refine tf 23 U U (fun _ _ _=>co U) (bY kr ?_)
      exact hk1 _ ⟨U,U,(cb (show true=((!(gO y1))||(decide (0 < ((i1:Nat):Int))&&decide (y1.No≤(nthI l (((i1:Nat):Int) - 1)).No))) from by rw [c2] <;> rfl)),trivial⟩
     ·refine tm 7 U (tf 8 U U (fun _ _ _=>ib U) (tm 9 U ?_))
      refine eo 22 U (fun c3=>?_) (fun c3=>?_)
      ·have c3p:=of_decide_eq_true c3
       refine tm 10 U (tm 11 U (fA 12 (enc:=Interest.cells) eX jn (fun _ _ _ e=>e) nj ty61 hl.1 (nthZ bh) (bB bh) U U U U kr (fun q5 A5=>?_)))
       refine tf 13 U U (fun _ _ _=>dB nu U) (tf 14 U U (fun _ _ hj=>gd ty3 (A5.mono hj.1) U) (tm 15 U ?_))
       refine tm 16 U (tf 17 U U (fun _ _ _=>mB (v':=I (((i1:Nat):Int) - 1)) U (iu ob)) ?_)
       have ho2:0≤((((i1:Nat):Int) - 1):Int)∧((((i1:Nat):Int) - 1):Int) < ((l).length:Int):=ob
       refine fA 18 (enc:=Interest.cells) eX jn (fun _ _ _ e=>e) nj ty61 hl.1 ho2 (eA ho2) U U U U kr (fun q6 A6=>tf 19 U U (fun _ _ _=>dB nu U) ?_)
       refine tf 20 U U (fun _ _ hj=>gd ty3 (A6.mono hj.1) U) (tf 21 U U (fun _ _ _=>ib U) (tf 22 U U (fun _ _ _=>co U) ?_))
       refine tf 23 U U (fun _ _ _=>co U) (bY kr ?_)
       exact hk1 _ ⟨U,U,(cb (show decide (y1.No≤(nthI l (((i1:Nat):Int) - 1)).No)=((!(gO y1))||(decide (0 < ((i1:Nat):Int))&&decide (y1.No≤(nthI l (((i1:Nat):Int) - 1)).No))) from by rw [c2,c3] <;> rfl)),trivial⟩
      ·have c3p:=of_decide_eq_false c3
       refine tk 10 U U (tk 11 U U (tk 12 U U (tk 13 U U ?_)))
       refine tk 14 U U (tk 15 U U (tk 16 U U (tk 17 U U ?_)))
       refine tk 18 U U (tk 19 U U (tk 20 U U (tk 21 U U ?_)))
       refine tf 22 U U (fun _ _ _=>co U) (tf 23 U U (fun _ _ _=>co U) (bY kr ?_))
       exact hk1 _ ⟨U,U,(cb (show false=((!(gO y1))||(decide (0 < ((i1:Nat):Int))&&decide (y1.No≤(nthI l (((i1:Nat):Int) - 1)).No))) from by rw [c2,c3] <;> rfl)),trivial⟩
    refine aE U (fun c4=>?_) (fun c4=>?_)
    ·have hs8:=hs6.trans (bt c4)
     refine sr (an ?_)
     exact aw [I 290] CH U hX rd (ci hs8)
    ·have hs10:=hs6.trans (bf c4)
     refine ao (av (ai (aa (aB (v':=I (((i1+1):Nat):Int)) U (bW ob) (an ?_)))))
     exact ag1 ((i1+1),rz1) _ (Nat.lt_succ_self _) ⟨bF hd1,aT hd1,hs10⟩ rd
theorem kp (h:HF) (dQ:Int) (least:Int) (most:Int)  : Ret Tryz.prog 187 [I dQ,I least,I most] h (.bool (ew dQ least most)):=by
 refine ay Tryz.func187 U Tryz.ntmps187 U fun X hM hX=>?_
 have hs0:ew dQ least most=ew dQ least most:=rfl
 refine sr (an (sr (aa (aa (aJ U (aa ?_))))))
 refine tq 4 [(14,.bool (decide (least≤dQ)&&decide (dQ≤most)))] (fun hk1=>?_) (fun e=>?_)
 ·refine ar 10 U (fun c1=>?_) (fun c1=>?_)
  ·refine aa (aa (aJ U (ah U ?_)))
   exact hk1 _ ⟨(cb (cW c1)),trivial⟩
  ·refine kq (bP (ah U ?_))
   exact hk1 _ ⟨(cb (cX c1)),trivial⟩
 refine an ?_
 exact aw [.bool (decide (least≤dQ)&&decide (dQ≤most))] Tryz.func187 U hX rd (cs hs0)
theorem qe (h:HF) (dQ:Int)  : Ret Tryz.prog 188 [I dQ] h (.bool (gl dQ)):=by
 refine ay Tryz.func188 U Tryz.ntmps188 U fun X hM hX=>?_
 have hs0:gl dQ=gl dQ:=rfl
 refine sr (an (sr (aa (aJ U (aa ?_)))))
 refine tq 3 [(8,.bool (decide (0≤dQ)&&decide (dQ < 1099511627776)))] (fun hk1=>?_) (fun e=>?_)
 ·refine ar 5 U (fun c1=>?_) (fun c1=>?_)
  ·refine aa (aJ U (ah U ?_))
   exact hk1 _ ⟨(cb (cW c1)),trivial⟩
  ·refine kq (ah U ?_)
   exact hk1 _ ⟨(cb (cX c1)),trivial⟩
 refine an ?_
 exact aw [.bool (decide (0≤dQ)&&decide (dQ < 1099511627776))] Tryz.func188 U hX rd (cs hs0)
theorem wG (h:HF) (x:Budget)  : Ret Tryz.prog 115 [.agg (Budget.cells x).toArray] h (.bool (hO x)):=by
 refine ay CG U Tryz.ntmps115 U fun X hM hX=>?_
 have hs0:hO x=hO x:=rfl
 refine sr (dy (fun b1=>an (ae (sr (az nU U (aO 0 ty3 U U U (aG (v:=.bool (ew x.No 0 1048576)) Dt (kp h x.No 0 1048576 ) U (cV U (aa ?_)))))))))
 refine tq 5 [(1,Q b1),(12,.bool ((!(ew x.No 0 1048576))||(!(gl x.At))))] (fun hk1=>?_) (fun e=>?_)
 ·refine ar 7 U (fun c1=>?_) (fun c1=>?_)
  ·refine kq (kq (ah U ?_))
   exact hk1 _ ⟨U,(cb (dL c1)),trivial⟩
  ·refine az xE U (aO 0 ty3 U U U (aG (v:=.bool (gl x.At)) Tryz.call188 (qe h x.At ) U (cV U (ah U ?_))))
   exact hk1 _ ⟨U,(cb (dM c1)),trivial⟩
 refine aa ?_
 refine tq 5 [(1,Q b1),(18,.bool (((!(ew x.No 0 1048576))||(!(gl x.At)))||(!(gl x.Known))))] (fun hk2=>?_) (fun e=>?_)
 ·refine ar 13 U (fun c2=>?_) (fun c2=>?_)
  ·refine kq (kq (ah U ?_))
   exact hk2 _ ⟨U,(cb (dL c2)),trivial⟩
  ·refine az xD U (aO 0 ty3 U U U (aG (v:=.bool (gl x.Known)) Tryz.call188 (qe h x.Known ) U (cV U (ah U ?_))))
   exact hk2 _ ⟨U,(cb (dM c2)),trivial⟩
 refine aa ?_
 refine tq 5 [(1,Q b1),(24,.bool ((((!(ew x.No 0 1048576))||(!(gl x.At)))||(!(gl x.Known)))||(!(ew x.Kind (-1) 15))))] (fun hk3=>?_) (fun e=>?_)
 ·refine ar 19 U (fun c3=>?_) (fun c3=>?_)
  ·refine kq (kq (ah U ?_))
   exact hk3 _ ⟨U,(cb (dL c3)),trivial⟩
  ·refine az xC U (aO 0 ty3 U U U (aG (v:=.bool (ew x.Kind (-1) 15)) Dt (kp h x.Kind (-1) 15 ) U (cV U (ah U ?_))))
   exact hk3 _ ⟨U,(cb (dM c3)),trivial⟩
 refine aa ?_
 refine tq 5 [(1,Q b1),(30,.bool (((((!(ew x.No 0 1048576))||(!(gl x.At)))||(!(gl x.Known)))||(!(ew x.Kind (-1) 15)))||(!(ew x.Period 1 1099511627776))))] (fun hk4=>?_) (fun e=>?_)
 ·refine ar 25 U (fun c4=>?_) (fun c4=>?_)
  ·refine kq (kq (ah U ?_))
   exact hk4 _ ⟨U,(cb (dL c4)),trivial⟩
  ·refine az xB U (aO 0 ty3 U U U (aG (v:=.bool (ew x.Period 1 1099511627776)) Dt (kp h x.Period 1 1099511627776 ) U (cV U (ah U ?_))))
   exact hk4 _ ⟨U,(cb (dM c4)),trivial⟩
 refine ac ?_
 refine aE U (fun c5=>?_) (fun c5=>?_)
 ·have hs1:=hs0.trans (bt c5)
  refine sr (an ?_)
  exact aw [.bool false] CG U hX rd (cs hs1)
 ·have hs3:=hs0.trans (bf c5)
  refine ao (ae (sr (az BW U (aO 0 ty4 U U U (ac ?_)))))
  refine aE U (fun c6=>?_) (fun c6=>?_)
  ·have hs4:=hs3.trans (bt c6)
   refine sr (az tY U (aO 0 ty3 U U U (aJ U (aa ?_))))
   refine tq 4 [(40,.bool ((x.Count==0)&&(x.Value==0)))] (fun hk5=>?_) (fun e=>?_)
   ·refine ar 36 U (fun c7=>?_) (fun c7=>?_)
    ·refine az tX U (aO 0 ty3 U U U (aJ U (ah U ?_)))
     exact hk5 _ ⟨(cb (cW c7)),trivial⟩
    ·refine kq (bP (ah U ?_))
     exact hk5 _ ⟨(cb (cX c7)),trivial⟩
   refine an ?_
   exact aw [.bool ((x.Count==0)&&(x.Value==0))] CG U hX rd (cs hs4)
  ·have hs6:=hs3.trans (bf c6)
   refine ao (sr (az tY U (aO 0 ty3 U U U (aG (v:=.bool (ew x.Count 0 1048576)) Dt (kp h x.Count 0 1048576 ) U (aa ?_)))))
   refine tq 4 [(48,.bool ((ew x.Count 0 1048576)&&(ew x.Value 0 1099511627776)))] (fun hk6=>?_) (fun e=>?_)
   ·refine ar 44 U (fun c8=>?_) (fun c8=>?_)
    ·refine az tX U (aO 0 ty3 U U U (aG (v:=.bool (ew x.Value 0 1099511627776)) Dt (kp h x.Value 0 1099511627776 ) U (ah U ?_)))
     exact hk6 _ ⟨(cb (cW c8)),trivial⟩
    ·refine kq (bP (ah U ?_))
     exact hk6 _ ⟨(cb (cX c8)),trivial⟩
   refine an ?_
   exact aw [.bool ((ew x.Count 0 1048576)&&(ew x.Value 0 1099511627776))] CG U hX rd (cs hs6)
theorem wH (h:HF) (l:(List Budget)) (eW:Option Addr) (eV:Nat) (hl:SlC Budget.rp h eW eV l):Ret Tryz.prog 70 [.slice eW l.length eV] h (I (fh l)):=by
 refine ay CE U Tryz.ntmps70 U fun X hM hX=>?_
 have hs0:fh l=fh l:=rfl
 refine sr (an (ae (sr (aa (bC si U (aJ U (ac ?_)))))))
 refine aE U (fun c1=>?_) (fun c1=>?_)
 ·have c1p:=of_decide_eq_true c1
  have hs1:=hs0.trans (bt c1)
  refine sr (an ?_)
  exact aw [I 2] CE U hX rd (ci hs1)
 ·have c1p:=of_decide_eq_false c1
  have hs3:=hs0.trans (bf c1)
  refine ao (ae (sr (an ?_)))
  refine br (ι:=Nat) (fun i=>[]) (fun i=>h) (fun i=>[]) (fun i=>i≤l.length∧fh l=((fh.K1))) ?_ (fun hx1=>?_)
  ·rintro i1 ⟨bd,hs4⟩ e
   try dsimp only at bd
   try dsimp only
   refine sr (an ?_)
   exact aw [I 0] CE U hX rd (ci hs4)
  ·refine cp (ι:=Nat×List Budget) (fun i=>[(0,.slice eW l.length eV),(3,I ((i.1:Nat):Int))]) (fun i=>h) (fun i=>[]) (fun i=>l.drop i.1=i.2∧i.1≤l.length∧fh l=((fh.L1 l (fh.K1)) i.2 i.1)) (fun i=>i.2.length) (0,l) rd sw ⟨U,Nat.zero_le _,hs3⟩ ?_
   rintro ⟨i1,s1⟩ ⟨hd1,bd,hs6⟩ ag1 e
   try dsimp only at hd1 bd
   rcases s1 with _ | ⟨y1,rz1⟩
   ·have dI:=cU hd1
    try dsimp only
    refine ae (sr (aa (aa (bC si U (aB (v':=.bool false) U (cb dI) (ac (bg U (bO U ?_))))))))
    exact hx1 i1 _ ⟨bd,hs6⟩ trivial
   ·have dH:=dY hd1
    have bh:=cY hd1
    have eT:=aT hd1
    have gx:=hl.1.1
    try dsimp only
    refine ae (sr (aa (aa (bC si U (aB (v':=.bool true) U (cb dH) (ac (bn U (ao (ae (aW (ae ?_)))))))))))
    refine my [(0,.slice eW l.length eV),(3,I ((i1:Nat):Int)),(36,.bool ((!(hO y1))||(decide (0 < ((i1:Nat):Int))&&decide (y1.No≤(nthI l (((i1:Nat):Int) - 1)).No))))] (fun e=>?_) (fun hk1=>?_)
    rotate_left
    ·refine ga ([]) mixed kr jn (fun eX _=>?_)
     refine tm 0 U (tm 1 U (fA 2 (enc:=Budget.cells) eX jn (fun _ _ _ e=>e) si ty173 hl.1 (nthZ bh) (bB bh) U U U U kr (fun q4 A4=>?_)))
     refine tf 3 U U (fun _ _ hj=>jP ty173 (A4.mono hj.1) U U) (tn 4 U (fu (v:=.bool (hO y1)) Tryz.call115 (wG h y1 ) U (⟨jn,?_⟩)))
     refine tf 5 U U (fun _ _ _=>ku U) (tm 6 U ?_)
     refine eo 19 U (fun c2=>?_) (fun c2=>?_)
     ·refine tk 7 U U (tk 8 U U (tk 9 U U (tk 10 U U ?_)))
      refine tk 11 U U (tk 12 U U (tk 13 U U (tk 14 U U ?_)))
      refine tk 15 U U (tk 16 U U (tk 17 U U (tk 18 U U ?_)))
      refine tk 19 U U (tk 20 U U (tk 21 U U (tk 22 U U ?_)))
      refine tf 23 U U (fun _ _ _=>co U) (bY kr ?_)
      exact hk1 _ ⟨U,U,(cb (show true=((!(hO y1))||(decide (0 < ((i1:Nat):Int))&&decide (y1.No≤(nthI l (((i1:Nat):Int) - 1)).No))) from by rw [c2] <;> rfl)),trivial⟩
     ·refine tm 7 U (tf 8 U U (fun _ _ _=>ib U) (tm 9 U ?_))
      refine eo 22 U (fun c3=>?_) (fun c3=>?_)
      ·have c3p:=of_decide_eq_true c3
       refine tm 10 U (tm 11 U (tf 12 U U (fun _ _ _=>mB (v':=I (((i1:Nat):Int) - 1)) U (iu ob)) ?_))
       have ho2:0≤((((i1:Nat):Int) - 1):Int)∧((((i1:Nat):Int) - 1):Int) < ((l).length:Int):=ob
       refine fA 13 (enc:=Budget.cells) eX jn (fun _ _ _ e=>e) si ty173 hl.1 ho2 (eA ho2) U U U U kr (fun q5 A5=>tf 14 U U (fun _ _ _=>dB nU U) ?_)
       refine tf 15 U U (fun _ _ hj=>gd ty3 (A5.mono hj.1) U) (tm 16 U (tm 17 U ?_))
       refine fA 18 (enc:=Budget.cells) eX jn (fun _ _ _ e=>e) si ty173 hl.1 (nthZ bh) (bB bh) U U U U kr (fun q6 A6=>tf 19 U U (fun _ _ _=>dB nU U) ?_)
       refine tf 20 U U (fun _ _ hj=>gd ty3 (A6.mono hj.1) U) (tf 21 U U (fun _ _ _=>ib U) (tf 22 U U (fun _ _ _=>co U) ?_))
       refine tf 23 U U (fun _ _ _=>co U) (bY kr ?_)
       exact hk1 _ ⟨U,U,(cb (show decide (y1.No≤(nthI l (((i1:Nat):Int) - 1)).No)=((!(hO y1))||(decide (0 < ((i1:Nat):Int))&&decide (y1.No≤(nthI l (((i1:Nat):Int) - 1)).No))) from by rw [c2,c3] <;> rfl)),trivial⟩
      ·have c3p:=of_decide_eq_false c3
       refine tk 10 U U (tk 11 U U (tk 12 U U (tk 13 U U ?_)))
       refine tk 14 U U (tk 15 U U (tk 16 U U (tk 17 U U ?_)))
       refine tk 18 U U (tk 19 U U (tk 20 U U (tk 21 U U ?_)))
       refine tf 22 U U (fun _ _ _=>co U) (tf 23 U U (fun _ _ _=>co U) (bY kr ?_))
       exact hk1 _ ⟨U,U,(cb (show false=((!(hO y1))||(decide (0 < ((i1:Nat):Int))&&decide (y1.No≤(nthI l (((i1:Nat):Int) - 1)).No))) from by rw [c2,c3] <;> rfl)),trivial⟩
    refine aE U (fun c4=>?_) (fun c4=>?_)
    ·have hs8:=hs6.trans (bt c4)
     refine sr (an ?_)
     exact aw [I 180] CE U hX rd (ci hs8)
    ·have hs10:=hs6.trans (bf c4)
     refine ao (av (ai (aa (aB (v':=I (((i1+1):Nat):Int)) U (bW ob) (an ?_)))))
     exact ag1 ((i1+1),rz1) _ (Nat.lt_succ_self _) ⟨bF hd1,aT hd1,hs10⟩ rd
theorem lq (h:HF) (dQ:Int)  : Ret Tryz.prog 33 [I dQ] h (.bool (ei dQ)):=by
 refine ay Tryz.func33 U Tryz.ntmps33 U fun X hM hX=>?_
 have hs0:ei dQ=ei dQ:=rfl
 refine sr (an (sr (aa (aJ U (aa ?_)))))
 refine tq 3 [(8,.bool (decide (0≤dQ)&&decide (dQ < 1099511627776)))] (fun hk1=>?_) (fun e=>?_)
 ·refine ar 5 U (fun c1=>?_) (fun c1=>?_)
  ·refine aa (aJ U (ah U ?_))
   exact hk1 _ ⟨(cb (cW c1)),trivial⟩
  ·refine kq (ah U ?_)
   exact hk1 _ ⟨(cb (cX c1)),trivial⟩
 refine an ?_
 exact aw [.bool (decide (0≤dQ)&&decide (dQ < 1099511627776))] Tryz.func33 U hX rd (cs hs0)
theorem vF (rec:Expr→Int→Int) (h:HF) (x:Expr) (fe:cI) (limit:Int) (hrec:∀ (h:HF) (qx:Expr) (jq:cI) (qlimit:Int) (hqx:Expr.ok h qx jq) (_:qx.dep < x.dep),Ret Tryz.prog 266 [.agg (Expr.cells qx jq).toArray,I qlimit] h (I (rec qx qlimit))) (hx:Expr.ok h x fe):Ret Tryz.prog 266 [.agg (Expr.cells x fe).toArray,I limit] h (I (cR.F rec x limit)):=by
 refine ay Tryz.func266 U Tryz.ntmps266 U fun X hM hX=>?_
 have hs0:cR.F rec x limit=cR.F rec x limit:=rfl
 refine sr (dy (fun b1=>an (sr (an (ae (sr (an ?_)))))))
 refine br (ι:=Nat×Int) (fun i=>[(5,I i.2)]) (fun i=>h) (fun i=>[(b1,O (Expr.cells x fe) 66)]) (fun i=>i.1≤x.L.length∧cR.F rec x limit=((cR.K1) i.2)) ?_ (fun hx1=>?_)
 ·rintro ⟨i1,iM⟩ ⟨bd,hs1⟩ e
  try dsimp only at bd
  try dsimp only
  refine sr (aa (an ?_))
  exact aw [I iM] Tryz.func266 U hX rd (ci hs1)
 ·refine cp (ι:=Nat×Int×List Expr) (fun i=>[(1,I limit),(2,Q b1),(5,I i.2.1),(6,I ((i.1:Nat):Int))]) (fun i=>h) (fun i=>[(b1,O (Expr.cells x fe) 66)]) (fun i=>x.L.drop i.1=i.2.2∧i.1≤x.L.length∧cR.F rec x limit=((cR.L1 rec limit (cR.K1)) i.2.2 i.2.1)) (fun i=>i.2.2.length) (0,1,x.L) rd sw ⟨U,Nat.zero_le _,hs0⟩ ?_
  rintro ⟨i1,iM,s1⟩ ⟨hd1,bd,hs3⟩ ag1 e
  try dsimp only at hd1 bd
  rcases s1 with _ | ⟨y1,rz1⟩
  ·have dI:=cU hd1
   try dsimp only
   refine ae (sr (aa (az dE U (aO 0 ty64 U U U (bC fT U (aB (v':=.bool false) U (cb dI) (aa (kq (bP (ah U (ac (bg U (bO U ?_)))))))))))))
   exact hx1 (i1,iM) _ ⟨bd,hs3⟩ rd
  ·have dH:=dY hd1
   have bh:=cY hd1
   have eT:=aT hd1
   have gx:=hx.list.1.1
   try dsimp only
   refine ae (sr (aa (az dE U (aO 0 ty64 U U U (bC fT U (aB (v':=.bool true) U (cb dH) (aa (aa (aa (aJ U (ah U (ac ?_))))))))))))
   refine aE U (fun c2=>?_) (fun c2=>?_)
   ·have c2p:=of_decide_eq_true c2
    have hs5:=hs3.trans (bt c2)
    refine ao (ae (aW (ai (aa (az dE U (aO 0 ty64 U U U (aa (a8 (gL fT ty66 hx.list.1 (nthZ bh) (bB bh) U U U (fun q2 cs2 A2 ln2 rr2=>?_))))))))))
    obtain ⟨r2,rfl,ok2⟩:=rr2
    refine ed ty66 A2 U U (aa (aa (aJ U (aG (v:=I (rec y1 (IntKind.wrap .i64 (limit - iM)))) Tryz.call266 (hrec h y1 r2 (IntKind.wrap .i64 (limit - iM)) ok2 (Expr.iq (gm hd1))) U (aJ U (an (av ?_)))))))
    refine ai (aa (aB (v':=I (((i1+1):Nat):Int)) U (bW ob) (an ?_)))
    exact ag1 ((i1+1),(IntKind.wrap .i64 (iM+(rec y1 (IntKind.wrap .i64 (limit - iM))))),rz1) _ (Nat.lt_succ_self _) ⟨bF hd1,aT hd1,hs5⟩ rd
   ·have c2p:=of_decide_eq_false c2
    have hs6:=hs3.trans (bf c2)
    refine bO U ?_
    exact hx1 (i1,iM) _ ⟨bd,hs6⟩ rd
theorem ox:∀ (m:Nat) (h:HF) (x:Expr) (fe:cI) (limit:Int) (_:x.dep≤m) (hx:Expr.ok h x fe),Ret Tryz.prog 266 [.agg (Expr.cells x fe).toArray,I limit] h (I (cR.go m x limit))
 | 0,h,x,fe,limit,hd,hx=>absurd hd (Nat.not_le.2 (Expr.jR _))
 | m+1,h,x,fe,limit,hd,hx=>vF (cR.go m) h x fe limit (fun qh_ qx jq qlimit qhx qd=>ox m qh_ qx jq qlimit ob qhx) hx
theorem wE (h:HF) (x:Expr) (fe:cI) (limit:Int) (hx:Expr.ok h x fe):Ret Tryz.prog 266 [.agg (Expr.cells x fe).toArray,I limit] h (I (cR x limit)):=ox _ h x fe limit (Nat.le_refl _) hx
end Go.Sg
namespace Go.Sg
open Go.Proofs
set_option maxHeartbeats 2000000
set_option maxRecDepth 100000
set_option linter.unusedVariables false
theorem vG (rec:Expr→Int) (h:HF) (x:Expr) (fe:cI) (hrec:∀ (h:HF) (qx:Expr) (jq:cI) (hqx:Expr.ok h qx jq) (_:qx.dep < x.dep),Ret Tryz.prog 267 [.agg (Expr.cells qx jq).toArray] h (I (rec qx))) (hx:Expr.ok h x fe):Ret Tryz.prog 267 [.agg (Expr.cells x fe).toArray] h (I (bJ.F rec x)):=by
 refine ay Tryz.func267 U Tryz.ntmps267 U fun X hM hX=>?_
 have hs0:bJ.F rec x=bJ.F rec x:=rfl
 refine sr (dy (fun b1=>an (sr (an (ae (sr (an ?_)))))))
 refine br (ι:=Nat×Int) (fun i=>[(3,I i.2)]) (fun i=>h) (fun i=>[(b1,O (Expr.cells x fe) 66)]) (fun i=>i.1≤x.L.length∧bJ.F rec x=((bJ.K1) i.2)) ?_ (fun hx1=>?_)
 ·rintro ⟨i1,fP⟩ ⟨bd,hs1⟩ e
  try dsimp only at bd
  try dsimp only
  refine sr (aa (aJ U (an ?_)))
  exact aw [I (IntKind.wrap .i64 (fP+1))] Tryz.func267 U hX rd (ci hs1)
 ·refine cp (ι:=Nat×Int×List Expr) (fun i=>[(1,Q b1),(3,I i.2.1),(4,I ((i.1:Nat):Int))]) (fun i=>h) (fun i=>[(b1,O (Expr.cells x fe) 66)]) (fun i=>x.L.drop i.1=i.2.2∧i.1≤x.L.length∧bJ.F rec x=((bJ.L1 rec (bJ.K1)) i.2.2 i.2.1)) (fun i=>i.2.2.length) (0,0,x.L) rd sw ⟨U,Nat.zero_le _,hs0⟩ ?_
  rintro ⟨i1,fP,s1⟩ ⟨hd1,bd,hs3⟩ ag1 e
  try dsimp only at hd1 bd
  rcases s1 with _ | ⟨y1,rz1⟩
  ·have dI:=cU hd1
   try dsimp only
   refine ae (sr (aa (az dE U (aO 0 ty64 U U U (bC fT U (aB (v':=.bool false) U (cb dI) (ac (bg U (bO U ?_)))))))))
   exact hx1 (i1,fP) _ ⟨bd,hs3⟩ rd
  ·have dH:=dY hd1
   have bh:=cY hd1
   have eT:=aT hd1
   have gx:=hx.list.1.1
   try dsimp only
   refine ae (sr (aa (az dE U (aO 0 ty64 U U U (bC fT U (aB (v':=.bool true) U (cb dH) (ac (bn U (ao (ae (aW (ai (aa (az dE U (aO 0 ty64 U U U ?_)))))))))))))))
   refine aa (a8 (gL fT ty66 hx.list.1 (nthZ bh) (bB bh) U U U (fun q2 cs2 A2 ln2 rr2=>?_)))
   obtain ⟨r2,rfl,ok2⟩:=rr2
   refine ed ty66 A2 U U (aG (v:=I (rec y1)) Tryz.call267 (hrec h y1 r2 ok2 (Expr.iq (gm hd1))) U (a8 (gH (Io U U) (an (av (ai (aa (aB (v':=I (((i1+1):Nat):Int)) U (bW ob) ?_))))))))
   refine an ?_
   exact ag1 ((i1+1),(max fP (rec y1)),rz1) _ (Nat.lt_succ_self _) ⟨bF hd1,aT hd1,hs3⟩ rd
theorem oy:∀ (m:Nat) (h:HF) (x:Expr) (fe:cI) (_:x.dep≤m) (hx:Expr.ok h x fe),Ret Tryz.prog 267 [.agg (Expr.cells x fe).toArray] h (I (bJ.go m x))
 | 0,h,x,fe,hd,hx=>absurd hd (Nat.not_le.2 (Expr.jR _))
 | m+1,h,x,fe,hd,hx=>vG (bJ.go m) h x fe (fun qh_ qx jq qhx qd=>oy m qh_ qx jq ob qhx) hx
theorem wF (h:HF) (x:Expr) (fe:cI) (hx:Expr.ok h x fe):Ret Tryz.prog 267 [.agg (Expr.cells x fe).toArray] h (I (bJ x)):=oy _ h x fe (Nat.le_refl _) hx
theorem qO (h:HF) (x:Expr) (fe:cI) (hx:Expr.ok h x fe):Ret Tryz.prog 249 [.agg (Expr.cells x fe).toArray] h (.bool (i9 x)):=by
 refine ay Tryz.func249 U Tryz.ntmps249 U fun X hM hX=>?_
 have hs0:i9 x=i9 x:=rfl
 refine sr (dy (fun b1=>an (sr (dq 0 ty66 U U U (aG (v:=I (cR x 256)) Tryz.call266 (wE h x fe 256 hx) U (aJ U (aa ?_)))))))
 refine tq 4 [(10,.bool (decide (256 < (cR x 256))||decide (16 < (bJ x))))] (fun hk1=>?_) (fun e=>?_)
 ·refine ar 6 U (fun c1=>?_) (fun c1=>?_)
  ·refine kq (bP (ah U ?_))
   exact hk1 _ ⟨(cb (dL c1)),trivial⟩
  ·refine dq 0 ty66 U U U (aG (v:=I (bJ x)) Tryz.call267 (wF h x fe hx) U (aJ U (ah U ?_)))
   exact hk1 _ ⟨(cb (dM c1)),trivial⟩
 refine an ?_
 exact aw [.bool (decide (256 < (cR x 256))||decide (16 < (bJ x)))] Tryz.func249 U hX rd (cs hs0)
theorem tF (h:HF) (p:Policy) (fb:eO) (hp:Policy.ok h p fb):Ret Tryz.prog 227 [.agg (Policy.cells p fb).toArray] h (.bool (eQ p)):=by
 refine ay CD U Tryz.ntmps227 U fun X hM hX=>?_
 have hs0:eQ p=eQ p:=rfl
 refine sr (dy (fun b1=>an (ae (sr (az jv U (aO 0 ty62 U U U (bC kL U (aJ U (aa ?_)))))))))
 refine tq 5 [(1,Q b1),(13,.bool (decide (32 < ((p.Offices.length:Nat):Int))||decide (16 < ((p.Kinds.length:Nat):Int))))] (fun hk1=>?_) (fun e=>?_)
 ·refine ar 8 U (fun c1=>?_) (fun c1=>?_)
  ·refine kq (kq (ah U ?_))
   exact hk1 _ ⟨U,(cb (dL c1)),trivial⟩
  ·refine az kD U (aO 0 ty62 U U U (bC kL U (aJ U (ah U ?_))))
   exact hk1 _ ⟨U,(cb (dM c1)),trivial⟩
 refine aa ?_
 refine tq 5 [(1,Q b1),(19,.bool ((decide (32 < ((p.Offices.length:Nat):Int))||decide (16 < ((p.Kinds.length:Nat):Int)))||decide (16 < ((p.Rules.length:Nat):Int))))] (fun hk2=>?_) (fun e=>?_)
 ·refine ar 14 U (fun c2=>?_) (fun c2=>?_)
  ·refine kq (kq (ah U ?_))
   exact hk2 _ ⟨U,(cb (dL c2)),trivial⟩
  ·refine az e9 U (aO 0 ty63 U U U (bC jJ U (aJ U (ah U ?_))))
   exact hk2 _ ⟨U,(cb (dM c2)),trivial⟩
 refine aa ?_
 refine tq 4 [(1,Q b1),(24,.bool (((decide (32 < ((p.Offices.length:Nat):Int))||decide (16 < ((p.Kinds.length:Nat):Int)))||decide (16 < ((p.Rules.length:Nat):Int)))||(i9 p.Change)))] (fun hk3=>?_) (fun e=>?_)
 ·refine ar 20 U (fun c3=>?_) (fun c3=>?_)
  ·refine kq (bP (ah U ?_))
   exact hk3 _ ⟨U,(cb (dL c3)),trivial⟩
  ·refine az lC U (dq 0 ty66 U U U (aG (v:=.bool (i9 p.Change)) Tryz.call249 (qO h p.Change fb.Change hp.Change) U (ah U ?_)))
   exact hk3 _ ⟨U,(cb (dM c3)),trivial⟩
 refine ac ?_
 refine aE U (fun c4=>?_) (fun c4=>?_)
 ·have hs1:=hs0.trans (bt c4)
  refine sr (an ?_)
  exact aw [.bool true] CD U hX rd (cs hs1)
 ·have hs3:=hs0.trans (bf c4)
  refine ao (ae (sr (an ?_)))
  refine br (ι:=Nat) (fun i=>[]) (fun i=>h) (fun i=>[(b1,O (Policy.cells p fb) 68)]) (fun i=>i≤p.Rules.length∧eQ p=((eQ.K1))) ?_ (fun hx1=>?_)
  ·rintro i1 ⟨bd,hs4⟩ e
   try dsimp only at bd
   try dsimp only
   refine sr (an ?_)
   exact aw [.bool false] CD U hX rd (cs hs4)
  ·refine cp (ι:=Nat×List Rule) (fun i=>[(1,Q b1),(3,I ((i.1:Nat):Int))]) (fun i=>h) (fun i=>[(b1,O (Policy.cells p fb) 68)]) (fun i=>p.Rules.drop i.1=i.2∧i.1≤p.Rules.length∧eQ p=((eQ.L1 (eQ.K1)) i.2 )) (fun i=>i.2.length) (0,p.Rules) rd sw ⟨U,Nat.zero_le _,hs3⟩ ?_
   rintro ⟨i1,s1⟩ ⟨hd1,bd,hs6⟩ ag1 e
   try dsimp only at hd1 bd
   rcases s1 with _ | ⟨y1,rz1⟩
   ·have dI:=cU hd1
    try dsimp only
    refine ae (sr (aa (az e9 U (aO 0 ty63 U U U (bC jJ U (aB (v':=.bool false) U (cb dI) (ac (bg U (bO U ?_)))))))))
    exact hx1 i1 _ ⟨bd,hs6⟩ trivial
   ·have dH:=dY hd1
    have bh:=cY hd1
    have eT:=aT hd1
    have gx:=hp.Rules.1.1
    try dsimp only
    refine ae (sr (aa (az e9 U (aO 0 ty63 U U U (bC jJ U (aB (v':=.bool true) U (cb dH) (ac (bn U (ao (ae (aW (sr (az e9 U (aO 0 ty63 U U U ?_))))))))))))))
    refine aa (a8 (gL jJ ty107 hp.Rules.1 (nthZ bh) (bB bh) U U U (fun q2 cs2 A2 ln2 rr2=>?_)))
    obtain ⟨r2,rfl,ok2⟩:=rr2
    refine az ka U (uz (j:=3) ty66 A2 U U (aG (v:=.bool (i9 y1.Expr)) Tryz.call249 (qO h y1.Expr r2.Expr ok2.Expr) U (ac ?_)))
    refine aE U (fun c6=>?_) (fun c6=>?_)
    ·have hs8:=hs6.trans (bt c6)
     refine sr (an ?_)
     exact aw [.bool true] CD U hX rd (cs hs8)
    ·have hs10:=hs6.trans (bf c6)
     refine ao (av (ai (aa (aB (v':=I (((i1+1):Nat):Int)) U (bW ob) (an ?_)))))
     exact ag1 ((i1+1),rz1) _ (Nat.lt_succ_self _) ⟨bF hd1,aT hd1,hs10⟩ rd
theorem qg (h:HF) (c:Int)  : Ret Tryz.prog 276 [Y c] h (.bool (gI c)):=by
 refine ay Tryz.func276 U Tryz.ntmps276 U fun X hM hX=>?_
 have hs0:gI c=gI c:=rfl
 refine sr (an (sr (aa (aJ U (aa ?_)))))
 refine tq 3 [(0,Y c),(8,.bool (decide (97≤c)&&decide (c≤122)))] (fun hk1=>?_) (fun e=>?_)
 ·refine ar 5 U (fun c1=>?_) (fun c1=>?_)
  ·refine aa (aJ U (ah U ?_))
   exact hk1 _ ⟨U,(cb (cW c1)),trivial⟩
  ·refine kq (ah U ?_)
   exact hk1 _ ⟨U,(cb (cX c1)),trivial⟩
 refine aa ?_
 refine tq 7 [(16,.bool ((decide (97≤c)&&decide (c≤122))||(decide (65≤c)&&decide (c≤90))))] (fun hk2=>?_) (fun e=>?_)
 ·refine ar 9 U (fun c2=>?_) (fun c2=>?_)
  ·refine kq (kq (kq (ah U ?_)))
   exact hk2 _ ⟨(cb (dL c2)),trivial⟩
  ·refine aa (aJ U (aa ?_))
   refine tq 3 [(9,.bool false),(15,.bool (decide (65≤c)&&decide (c≤90)))] (fun hk3=>?_) (fun e=>?_)
   ·refine ar 12 U (fun c3=>?_) (fun c3=>?_)
    ·refine aa (aJ U (ah U ?_))
     exact hk3 _ ⟨U,(cb (cW c3)),trivial⟩
    ·refine kq (ah U ?_)
     exact hk3 _ ⟨U,(cb (cX c3)),trivial⟩
   refine ah U ?_
   exact hk2 _ ⟨(cb (dM c2)),trivial⟩
 refine an ?_
 exact aw [.bool ((decide (97≤c)&&decide (c≤122))||(decide (65≤c)&&decide (c≤90)))] Tryz.func276 U hX rd (cs hs0)
theorem vJ (h:HF) (c:Int)  : Ret Tryz.prog 280 [Y c] h (.bool (ju c)):=by
 refine ay Tryz.func280 U Tryz.ntmps280 U fun X hM hX=>?_
 have hs0:ju c=ju c:=rfl
 refine sr (an (sr (aa (aJ U (aa ?_)))))
 refine tq 3 [(8,.bool (decide (48≤c)&&decide (c≤57)))] (fun hk1=>?_) (fun e=>?_)
 ·refine ar 5 U (fun c1=>?_) (fun c1=>?_)
  ·refine aa (aJ U (ah U ?_))
   exact hk1 _ ⟨(cb (cW c1)),trivial⟩
  ·refine kq (ah U ?_)
   exact hk1 _ ⟨(cb (cX c1)),trivial⟩
 refine an ?_
 exact aw [.bool (decide (48≤c)&&decide (c≤57))] Tryz.func280 U hX rd (cs hs0)
theorem ye (h:HF) (c:Int)  : Ret Tryz.prog 277 [Y c] h (.bool (lI c)):=by
 refine ay Tryz.func277 U Tryz.ntmps277 U fun X hM hX=>?_
 have hs0:lI c=lI c:=rfl
 refine sr (an (sr (aa (aG (v:=.bool (gI c)) Tryz.call276 (qg h c ) U (aa ?_)))))
 refine tq 3 [(0,Y c),(8,.bool ((gI c)||(ju c)))] (fun hk1=>?_) (fun e=>?_)
 ·refine ar 5 U (fun c1=>?_) (fun c1=>?_)
  ·refine kq (ah U ?_)
   exact hk1 _ ⟨U,(cb (dL c1)),trivial⟩
  ·refine aa (aG (v:=.bool (ju c)) Tryz.call280 (vJ h c ) U (ah U ?_))
   exact hk1 _ ⟨U,(cb (dM c1)),trivial⟩
 refine aa ?_
 refine tq 3 [(12,.bool (((gI c)||(ju c))||(c==95)))] (fun hk2=>?_) (fun e=>?_)
 ·refine ar 9 U (fun c2=>?_) (fun c2=>?_)
  ·refine kq (ah U ?_)
   exact hk2 _ ⟨(cb (dL c2)),trivial⟩
  ·refine aa (aJ U (ah U ?_))
   exact hk2 _ ⟨(cb (dM c2)),trivial⟩
 refine an ?_
 exact aw [.bool (((gI c)||(ju c))||(c==95))] Tryz.func277 U hX rd (cs hs0)
theorem yg (h:HF) (s:ByteArray)  : Ret Tryz.prog 268 [.string s] h (.bool (fE s)):=by
 refine ay CC U Tryz.ntmps268 U fun X hM hX=>?_
 have hs0:fE s=fE s:=rfl
 refine sr (an (ae (sr (aa (a8 (gH (uu th U) (aJ U (aa ?_))))))))
 refine tq 4 [(0,.string s),(11,.bool (decide (((s.size:Nat):Int) < 1)||decide (32 < ((s.size:Nat):Int))))] (fun hk1=>?_) (fun e=>?_)
 ·refine ar 7 U (fun c1=>?_) (fun c1=>?_)
  ·refine kq (bP (ah U ?_))
   exact hk1 _ ⟨U,(cb (dL c1)),trivial⟩
  ·refine aa (a8 (gH (uu th U) (aJ U (ah U ?_))))
   exact hk1 _ ⟨U,(cb (dM c1)),trivial⟩
 refine aa ?_
 refine tq 5 [(0,.string s),(17,.bool ((decide (((s.size:Nat):Int) < 1)||decide (32 < ((s.size:Nat):Int)))||(!(gI ((s.data.getD (0:Int).toNat 0).toNat:Int)))))] (fun hk2=>?_) (fun e=>?_)
 ·refine ar 12 U (fun c2=>?_) (fun c2=>?_)
  ·refine kq (kq (ah U ?_))
   exact hk2 _ ⟨U,(cb (dL c2)),trivial⟩
  ·refine aa ?_
   have ho1:0≤(0:Int)∧(0:Int) < (s.size:Int):=ob
   refine a8 (gH (zy th U U ho1) (aG (v:=.bool (gI ((s.data.getD (0:Int).toNat 0).toNat:Int))) Tryz.call276 (qg h ((s.data.getD (0:Int).toNat 0).toNat:Int)) U (cV U (ah U ?_))))
   exact hk2 _ ⟨U,(cb (dM c2)),trivial⟩
 refine ac ?_
 refine aE U (fun c3=>?_) (fun c3=>?_)
 ·have hs1:=hs0.trans (bt c3)
  refine sr (an ?_)
  exact aw [.bool false] CC U hX rd (cs hs1)
 ·have hs3:=hs0.trans (bf c3)
  refine ao (ae (sr (an ?_)))
  refine br (ι:=Nat) (fun i=>[]) (fun i=>h) (fun i=>[]) (fun i=>i≤(List.range s.size).length∧fE s=((fE.K1))) ?_ (fun hx1=>?_)
  ·rintro i1 ⟨bd,hs4⟩ e
   try dsimp only at bd
   try dsimp only
   refine sr (an ?_)
   exact aw [.bool true] CC U hX rd (cs hs4)
  ·refine cp (ι:=Nat×List Nat) (fun i=>[(0,.string s),(3,I ((i.1:Nat):Int))]) (fun i=>h) (fun i=>[]) (fun i=>(List.range s.size).drop i.1=i.2∧i.1≤(List.range s.size).length∧fE s=((fE.L1 s (fE.K1)) i.2 i.1)) (fun i=>i.2.length) (0,(List.range s.size)) rd sw ⟨U,Nat.zero_le _,hs3⟩ ?_
   rintro ⟨i1,s1⟩ ⟨hd1,bd,hs6⟩ ag1 e
   try dsimp only at hd1 bd
   rcases s1 with _ | ⟨y1,rz1⟩
   ·have dI:decide (((i1:Nat):Int) < ((s.size:Nat):Int))=false:=by simpa using cU hd1
    try dsimp only
    refine ae (sr (aa (aa (a8 (gH (uu th U) (aB (v':=.bool false) U (cb dI) (ac (bg U (bO U ?_)))))))))
    exact hx1 i1 _ ⟨bd,hs6⟩ trivial
   ·have dH:decide (((i1:Nat):Int) < ((s.size:Nat):Int))=true:=by simpa using dY hd1
    have eT:i1 < s.size:=by simpa using aT hd1
    try dsimp only
    refine ae (sr (aa (aa (a8 (gH (uu th U) (aB (v':=.bool true) U (cb dH) (ac (bn U (ao (ae (aW (sr (aa (aa ?_))))))))))))))
    have ho3:0≤(((i1:Nat):Int):Int)∧(((i1:Nat):Int):Int) < (s.size:Int):=ob
    refine a8 (gH (zy th U U ho3) (aG (v:=.bool (lI ((s.data.getD (((i1:Nat):Int):Int).toNat 0).toNat:Int))) Tryz.call277 (ye h ((s.data.getD (((i1:Nat):Int):Int).toNat 0).toNat:Int)) U (cV U (ac ?_))))
    refine aE U (fun c5=>?_) (fun c5=>?_)
    ·have hs8:=hs6.trans (bt c5)
     refine sr (an ?_)
     exact aw [.bool false] CC U hX rd (cs hs8)
    ·have hs10:=hs6.trans (bf c5)
     refine ao (av (ai (aa (aB (v':=I (((i1+1):Nat):Int)) U (bW ob) ?_))))
     refine an ?_
     exact ag1 ((i1+1),rz1) _ (Nat.lt_succ_self _) ⟨bF hd1,aT hd1,hs10⟩ rd
theorem xY (h:HF) (s:ByteArray)  : Ret Tryz.prog 269 [.string s] h (.bool (kh s)):=by
 refine ay lk U Tryz.ntmps269 U fun X hM hX=>?_
 have hs0:kh s=kh s:=rfl
 refine sr (an (ae (sr (aa (ac (aW (ae (sr (aJ U (an ?_))))))))))
 refine aE U (fun c1=>?_) (fun c1=>?_)
 ·have hs1:=hs0.trans (bt c1)
  refine ao ?_
  refine aE U (fun c2=>?_) (fun c2=>?_)
  ·have hs2:=hs1.trans (bt c2)
   refine sr (an ?_)
   exact aw [.bool true] lk U hX rd (cs hs2)
  ·have hs4:=hs1.trans (bf c2)
   refine ao (av (sr (an ?_)))
   exact aw [.bool false] lk U hX rd (cs hs4)
 ·have hs6:=hs0.trans (bf c1)
  refine sr (aJ U (an ?_))
  refine aE U (fun c3=>?_) (fun c3=>?_)
  ·have hs7:=hs6.trans (bt c3)
   refine ao ?_
   refine aE U (fun c4=>?_) (fun c4=>?_)
   ·have hs8:=hs7.trans (bt c4)
    refine sr (an ?_)
    exact aw [.bool true] lk U hX rd (cs hs8)
   ·have hs10:=hs7.trans (bf c4)
    refine ao (av (sr (an ?_)))
    exact aw [.bool false] lk U hX rd (cs hs10)
  ·have hs12:=hs6.trans (bf c3)
   refine sr (aJ U (an ?_))
   refine aE U (fun c5=>?_) (fun c5=>?_)
   ·have hs13:=hs12.trans (bt c5)
    refine ao ?_
    refine aE U (fun c6=>?_) (fun c6=>?_)
    ·have hs14:=hs13.trans (bt c6)
     refine sr (an ?_)
     exact aw [.bool true] lk U hX rd (cs hs14)
    ·have hs16:=hs13.trans (bf c6)
     refine ao (av (sr (an ?_)))
     exact aw [.bool false] lk U hX rd (cs hs16)
   ·have hs18:=hs12.trans (bf c5)
    refine sr (aJ U (an ?_))
    refine aE U (fun c7=>?_) (fun c7=>?_)
    ·have hs19:=hs18.trans (bt c7)
     refine ao ?_
     refine aE U (fun c8=>?_) (fun c8=>?_)
     ·have hs20:=hs19.trans (bt c8)
      refine sr (an ?_)
      exact aw [.bool true] lk U hX rd (cs hs20)
     ·have hs22:=hs19.trans (bf c8)
      refine ao (av (sr (an ?_)))
      exact aw [.bool false] lk U hX rd (cs hs22)
    ·have hs24:=hs18.trans (bf c7)
     refine sr (aJ U (an ?_))
     refine aE U (fun c9=>?_) (fun c9=>?_)
     ·have hs25:=hs24.trans (bt c9)
      refine ao ?_
      refine aE U (fun c10=>?_) (fun c10=>?_)
      ·have hs26:=hs25.trans (bt c10)
       refine sr (an ?_)
       exact aw [.bool true] lk U hX rd (cs hs26)
      ·have hs28:=hs25.trans (bf c10)
       refine ao (av (sr (an ?_)))
       exact aw [.bool false] lk U hX rd (cs hs28)
     ·have hs30:=hs24.trans (bf c9)
      refine sr (aJ U (an ?_))
      refine aE U (fun c11=>?_) (fun c11=>?_)
      ·have hs31:=hs30.trans (bt c11)
       refine ao ?_
       refine aE U (fun c12=>?_) (fun c12=>?_)
       ·have hs32:=hs31.trans (bt c12)
        refine sr (an ?_)
        exact aw [.bool true] lk U hX rd (cs hs32)
       ·have hs34:=hs31.trans (bf c12)
        refine ao (av (sr (an ?_)))
        exact aw [.bool false] lk U hX rd (cs hs34)
      ·have hs36:=hs30.trans (bf c11)
       refine sr (aJ U (an ?_))
       refine aE U (fun c13=>?_) (fun c13=>?_)
       ·have hs37:=hs36.trans (bt c13)
        refine ao ?_
        refine aE U (fun c14=>?_) (fun c14=>?_)
        ·have hs38:=hs37.trans (bt c14)
         refine sr (an ?_)
         exact aw [.bool true] lk U hX rd (cs hs38)
        ·have hs40:=hs37.trans (bf c14)
         refine ao (av (sr (an ?_)))
         exact aw [.bool false] lk U hX rd (cs hs40)
       ·have hs42:=hs36.trans (bf c13)
        refine sr (aJ U (an ?_))
        refine aE U (fun c15=>?_) (fun c15=>?_)
        ·have hs43:=hs42.trans (bt c15)
         refine ao ?_
         refine aE U (fun c16=>?_) (fun c16=>?_)
         ·have hs44:=hs43.trans (bt c16)
          refine sr (an ?_)
          exact aw [.bool true] lk U hX rd (cs hs44)
         ·have hs46:=hs43.trans (bf c16)
          refine ao (av (sr (an ?_)))
          exact aw [.bool false] lk U hX rd (cs hs46)
        ·have hs48:=hs42.trans (bf c15)
         refine sr (aJ U (an ?_))
         refine aE U (fun c17=>?_) (fun c17=>?_)
         ·have hs49:=hs48.trans (bt c17)
          refine ao ?_
          refine aE U (fun c18=>?_) (fun c18=>?_)
          ·have hs50:=hs49.trans (bt c18)
           refine sr (an ?_)
           exact aw [.bool true] lk U hX rd (cs hs50)
          ·have hs52:=hs49.trans (bf c18)
           refine ao (av (sr (an ?_)))
           exact aw [.bool false] lk U hX rd (cs hs52)
         ·have hs54:=hs48.trans (bf c17)
          refine sr (aJ U (an ?_))
          refine aE U (fun c19=>?_) (fun c19=>?_)
          ·have hs55:=hs54.trans (bt c19)
           refine ao ?_
           refine aE U (fun c20=>?_) (fun c20=>?_)
           ·have hs56:=hs55.trans (bt c20)
            refine sr (an ?_)
            exact aw [.bool true] lk U hX rd (cs hs56)
           ·have hs58:=hs55.trans (bf c20)
            refine ao (av (sr (an ?_)))
            exact aw [.bool false] lk U hX rd (cs hs58)
          ·have hs60:=hs54.trans (bf c19)
           refine sr (aJ U (an ?_))
           refine aE U (fun c21=>?_) (fun c21=>?_)
           ·have hs61:=hs60.trans (bt c21)
            refine ao ?_
            refine aE U (fun c22=>?_) (fun c22=>?_)
            ·have hs62:=hs61.trans (bt c22)
             refine sr (an ?_)
             exact aw [.bool true] lk U hX rd (cs hs62)
            ·have hs64:=hs61.trans (bf c22)
             refine ao (av (sr (an ?_)))
             exact aw [.bool false] lk U hX rd (cs hs64)
           ·have hs66:=hs60.trans (bf c21)
            refine sr (aJ U (an ?_))
            refine aE U (fun c23=>?_) (fun c23=>?_)
            ·have hs67:=hs66.trans (bt c23)
             refine ao ?_
             refine aE U (fun c24=>?_) (fun c24=>?_)
             ·have hs68:=hs67.trans (bt c24)
              refine sr (an ?_)
              exact aw [.bool true] lk U hX rd (cs hs68)
             ·have hs70:=hs67.trans (bf c24)
              refine ao (av (sr (an ?_)))
              exact aw [.bool false] lk U hX rd (cs hs70)
            ·have hs72:=hs66.trans (bf c23)
             refine sr (aJ U (an ?_))
             refine aE U (fun c25=>?_) (fun c25=>?_)
             ·have hs73:=hs72.trans (bt c25)
              refine ao ?_
              refine aE U (fun c26=>?_) (fun c26=>?_)
              ·have hs74:=hs73.trans (bt c26)
               refine sr (an ?_)
               exact aw [.bool true] lk U hX rd (cs hs74)
              ·have hs76:=hs73.trans (bf c26)
               refine ao (av (sr (an ?_)))
               exact aw [.bool false] lk U hX rd (cs hs76)
             ·have hs78:=hs72.trans (bf c25)
              refine sr (aJ U (an ?_))
              refine aE U (fun c27=>?_) (fun c27=>?_)
              ·have hs79:=hs78.trans (bt c27)
               refine ao ?_
               refine aE U (fun c28=>?_) (fun c28=>?_)
               ·have hs80:=hs79.trans (bt c28)
                refine sr (an ?_)
                exact aw [.bool true] lk U hX rd (cs hs80)
               ·have hs82:=hs79.trans (bf c28)
                refine ao (av (sr (an ?_)))
                exact aw [.bool false] lk U hX rd (cs hs82)
              ·have hs84:=hs78.trans (bf c27)
               refine sr (aJ U (an ?_))
               refine aE U (fun c29=>?_) (fun c29=>?_)
               ·have hs85:=hs84.trans (bt c29)
                refine ao ?_
                refine aE U (fun c30=>?_) (fun c30=>?_)
                ·have hs86:=hs85.trans (bt c30)
                 refine sr (an ?_)
                 exact aw [.bool true] lk U hX rd (cs hs86)
                ·have hs88:=hs85.trans (bf c30)
                 refine ao (av (sr (an ?_)))
                 exact aw [.bool false] lk U hX rd (cs hs88)
               ·have hs90:=hs84.trans (bf c29)
                refine ai (aJ U (an ?_))
                refine aE U (fun c31=>?_) (fun c31=>?_)
                ·have hs91:=hs90.trans (bt c31)
                 refine sr (an ?_)
                 exact aw [.bool true] lk U hX rd (cs hs91)
                ·have hs93:=hs90.trans (bf c31)
                 refine ao (av (sr (an ?_)))
                 exact aw [.bool false] lk U hX rd (cs hs93)
end Go.Sg
