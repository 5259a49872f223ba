import Derived.Test.YtngiefchigcphaaGreatDoorCards
import Derived.Test.YtngiefchigcphaaGreatDoorTie
import Derived.ProofKit
import Derived.Deep.DeepHandedRow
import Derived.Test.YtngiefchigcphaaGreatDoorW10
/- A part of the proof of AsofSmallest. -/
set_option linter.unusedVariables false
set_option linter.unusedSimpArgs false
set_option maxRecDepth 100000
namespace Go.Sg
open Go.Proofs
set_option maxHeartbeats 2000000
theorem xY (h:HF) (l:(List Approval)) (eD:Option Addr) (eC:Nat) (hl:SlC Approval.rp h eD eC l):Ret Tryz.prog 73 [.slice eD l.length eC] h (I (fg l)):=by
 refine ae DZ U Tryz.ntmps73 U fun X hM hX=>?_
 have hs0:fg l=fg l:=rfl
 refine qT 8 U (a8 tC U (qO 2 U ?_))
 refine ak hs0 U (fun c1 hs1=>?_) (fun c1 hs2=>?_)
 ·have c1p:=of_decide_eq_true c1
  refine qT 4 U ?_
  exact ah [I 2] DZ U hX rd (ci hs1)
 ·have c1p:=of_decide_eq_false c1
  refine qT 6 U ?_
  refine aU (ι:=Nat) (fun i=>[]) (fun i=>h) (fun i=>[]) (fun i=>i≤l.length∧fg l=((fg.K1))) ?_ (fun hx1=>?_)
  ·rintro i1 ⟨aP,hs4⟩ e
   try dsimp only at aP
   refine qT 4 U ?_
   exact ah [I 0] DZ U hX rd (ci hs4)
  ·refine bG (ι:=Nat×List Approval) (fun i=>[(0,.slice eD l.length eC),(3,I ((i.1:Nat):Int))]) (fun i=>h) (fun i=>[]) (fun i=>l.drop i.1=i.2∧i.1≤l.length∧fg l=((fg.L1 l (fg.K1)) i.2 i.1)) (fun i=>i.2.length) (0,l) rd sw ⟨U,Nat.zero_le _,hs2⟩ ?_
   rintro ⟨i1,s1⟩ ⟨hd1,aP,hs6⟩ ag1 e
   try dsimp only at hd1 aP
   rcases s1 with _ | ⟨y1,rz1⟩
   ·have dr:=cw hd1
    refine qT 5 U (a8 tC U (ai (v':=.bool false) U (cb dr) (qO 3 U ?_)))
    exact hx1 i1 _ ⟨aP,hs6⟩ trivial
   ·have dq:=dy hd1
    have aM:=cA hd1
    have ey:=aE hd1
    have gi:=hl.1.1
    refine qT 5 U (a8 tC U (ai (v':=.bool true) U (cb dq) (qO 6 U ?_)))
    refine lX [(0,.slice eD l.length eC),(3,I ((i1:Nat):Int)),(36,.bool ((!(gT y1))||(decide (0 < ((i1:Nat):Int))&&decide (y1.No≤(nthI l (((i1:Nat):Int) - 1)).No))))] (fun e=>?_) (fun hk1=>?_)
    rotate_left
    ·refine fd ([]) mixed kr jn (fun dU _=>(qA [0,1] U (eJ 2 (enc:=Approval.cells) dU jn (fun _ _ _ e=>e) tC ty181 hl.1 (nthZ aM) (aV aM) U U U U kr (fun q4 A4=>?_))))
     refine tf 3 U U (fun _ _ hj=>jK ty181 (A4.mono hj.1) U U) (tn 4 U (fB (v:=.bool (gT y1)) Tryz.call119 (xX h y1 ) U (⟨jn,(qA [5,6] U ?_)⟩)))
     refine dM 19 U (fun c2=>?_) (fun c2=>?_)
     ·refine qR 7 17 U (bv kr ?_)
      exact hk1 _ ⟨U,U,(cb (show true=((!(gT y1))||(decide (0 < ((i1:Nat):Int))&&decide (y1.No≤(nthI l (((i1:Nat):Int) - 1)).No))) from by rw [c2] <;> rfl)),trivial⟩
     ·refine qR 7 3 U ?_
      refine dM 22 U (fun c3=>?_) (fun c3=>?_)
      ·have c3p:=of_decide_eq_true c3
       refine qA [10,11] U (tf 12 U U (fun _ _ _=>nF (v':=I (((i1:Nat):Int) - 1)) U (im ob)) ?_)
       have ho2:0≤((((i1:Nat):Int) - 1):Int)∧((((i1:Nat):Int) - 1):Int) < ((l).length:Int):=ob
       refine eJ 13 (enc:=Approval.cells) dU jn (fun _ _ _ e=>e) tC ty181 hl.1 ho2 (df ho2) U U U U kr (fun q5 A5=>tf 14 U U (fun _ _ _=>dx qi U) ?_)
       refine tf 15 U U (fun _ _ hj=>fK ty3 (A5.mono hj.1) U) (qA [16,17] U ?_)
       refine eJ 18 (enc:=Approval.cells) dU jn (fun _ _ _ e=>e) tC ty181 hl.1 (nthZ aM) (aV aM) U U U U kr (fun q6 A6=>tf 19 U U (fun _ _ _=>dx qi U) ?_)
       refine tf 20 U U (fun _ _ hj=>fK ty3 (A6.mono hj.1) U) (qR 21 3 U (bv kr ?_))
       exact hk1 _ ⟨U,U,(cb (show decide (y1.No≤(nthI l (((i1:Nat):Int) - 1)).No)=((!(gT y1))||(decide (0 < ((i1:Nat):Int))&&decide (y1.No≤(nthI l (((i1:Nat):Int) - 1)).No))) from by rw [c2,c3] <;> rfl)),trivial⟩
      ·have c3p:=of_decide_eq_false c3
       refine qR 10 14 U (bv kr ?_)
       exact hk1 _ ⟨U,U,(cb (show false=((!(gT y1))||(decide (0 < ((i1:Nat):Int))&&decide (y1.No≤(nthI l (((i1:Nat):Int) - 1)).No))) from by rw [c2,c3] <;> rfl)),trivial⟩
    refine ak hs6 U (fun c4 hs8=>?_) (fun c4 hs9=>?_)
    ·refine qT 4 U ?_
     exact ah [I 280] DZ U hX rd (ci hs8)
    ·refine qT 4 U (ai (v':=I (((i1+1):Nat):Int)) U (bz ob) (an ?_))
     exact ag1 ((i1+1),rz1) _ (Nat.lt_succ_self _) ⟨ba hd1,aE hd1,hs9⟩ rd
theorem rY (h:HF) (aR:Register) (cu:eB) (ia:Register.ok h aR cu) (hsm:smR aR):Ret Tryz.prog 31 [.agg (Register.cells aR cu).toArray] h (I (fZ aR)):=by
 refine ae DY U Tryz.ntmps31 U fun X hM hX=>?_
 have hs0:fZ aR=fZ aR:=rfl
 have hsv:=hsm.vers
 refine sr (dt (fun b1=>qO 5 U (aj qZ U (aI 0 ty22 U U U (au (v:=I (dH aR.Appoints)) Tryz.call67 (se h aR.Appoints cu.iJ cu.iI ia.Appoints) U (qO 2 U ?_))))))
 refine ar 5 [7,8,9,10,11,12] 12 (.bool (((dH aR.Appoints) != 0)||((eW aR.Deputies) != 0))) (fun hk1=>?_) (fun e=>?_)
 ·refine ac 7 U (fun c1=>?_) (fun c1=>?_)
  ·refine qO 5 U ?_
   exact hk1 _ (cb (dW c1))
  ·refine aj BM U (aI 0 ty23 U U U (au (v:=I (eW aR.Deputies)) Tryz.call68 (yk h aR.Deputies cu.j5 cu.j0 ia.Deputies) U (qO 2 U ?_)))
   exact hk1 _ (cb (dX c1))
 refine aB ?_
 refine ar 5 [13,14,15,16,17,18] 18 (.bool ((((dH aR.Appoints) != 0)||((eW aR.Deputies) != 0))||((eA aR.Interests) != 0))) (fun hk2=>?_) (fun e=>?_)
 ·refine ac 13 U (fun c2=>?_) (fun c2=>?_)
  ·refine qO 5 U ?_
   exact hk2 _ (cb (dW c2))
  ·refine aj tb U (aI 0 ty24 U U U (au (v:=I (eA aR.Interests)) Tryz.call69 (xW h aR.Interests cu.jz cu.jy ia.Interests) U (qO 2 U ?_)))
   exact hk2 _ (cb (dX c2))
 refine aB ?_
 refine ar 5 [19,20,21,22,23,24] 24 (.bool (((((dH aR.Appoints) != 0)||((eW aR.Deputies) != 0))||((eA aR.Interests) != 0))||((fh aR.Budgets) != 0))) (fun hk3=>?_) (fun e=>?_)
 ·refine ac 19 U (fun c3=>?_) (fun c3=>?_)
  ·refine qO 5 U ?_
   exact hk3 _ (cb (dW c3))
  ·refine aj BL U (aI 0 ty25 U U U (au (v:=I (fh aR.Budgets)) Tryz.call70 (yg h aR.Budgets cu.kR cu.kQ ia.Budgets) U (qO 2 U ?_)))
   exact hk3 _ (cb (dX c3))
 refine bh ?_
 refine ak hs0 U (fun c4 hs1=>?_) (fun c4 hs2=>?_)
 ·refine qT 4 U ?_
  exact ah [I 300] DY U hX rd (ci hs1)
 ·refine qT 4 U (aj lV U (aI 0 ty26 U U U (au (v:=I (cT aR.Versions)) Tryz.call71 (pk h aR.Versions cu.ig cu.ie ia.Versions ob) U (qO 2 U ?_))))
  refine ar 5 [29,30,31,32,33,34] 34 (.bool (((cT aR.Versions) != 0)||((e7 aR.Docs) != 0))) (fun hk4=>?_) (fun e=>?_)
  ·refine ac 29 U (fun c5=>?_) (fun c5=>?_)
   ·refine qO 5 U ?_
    exact hk4 _ (cb (dW c5))
   ·refine aj la U (aI 0 ty27 U U U (au (v:=I (e7 aR.Docs)) Tryz.call72 (yi h aR.Docs cu.oT cu.oS ia.Docs) U (qO 2 U ?_)))
    exact hk4 _ (cb (dX c5))
  refine aB ?_
  refine ar 5 [35,36,37,38,39,40] 40 (.bool ((((cT aR.Versions) != 0)||((e7 aR.Docs) != 0))||((fg aR.Approvals) != 0))) (fun hk5=>?_) (fun e=>?_)
  ·refine ac 35 U (fun c6=>?_) (fun c6=>?_)
   ·refine qO 5 U ?_
    exact hk5 _ (cb (dW c6))
   ·refine aj BK U (aI 0 ty28 U U U (au (v:=I (fg aR.Approvals)) Tryz.call73 (xY h aR.Approvals cu.jB cu.jA ia.Approvals) U (qO 2 U ?_)))
    exact hk5 _ (cb (dX c6))
  refine bh ?_
  refine ak hs2 U (fun c7 hs4=>?_) (fun c7 hs5=>?_)
  ·refine qT 4 U ?_
   exact ah [I 300] DY U hX rd (ci hs4)
  ·refine qT 5 U ?_
   exact ah [I 0] DY U hX rd (ci hs5)
theorem wZ (h:HF) (who:(List Int)) (fo:Option Addr) (fm:Nat) (hwho:SlC Rp.int h fo fm who):Ret Tryz.prog 32 [.slice fo who.length fm] h (.bool (eL who)):=by
 refine ae Tryz.func32 U Tryz.ntmps32 U fun X hM hX=>?_
 have hs0:eL who=eL who:=rfl
 refine qT 9 U ?_
 refine aU (ι:=Nat) (fun i=>[]) (fun i=>h) (fun i=>[]) (fun i=>i≤who.length∧eL who=((eL.K1))) ?_ (fun hx1=>?_)
 ·rintro i1 ⟨aP,hs1⟩ e
  try dsimp only at aP
  refine qT 4 U ?_
  exact ah [.bool true] Tryz.func32 U hX rd (cs hs1)
 ·refine bG (ι:=Nat×List Int) (fun i=>[(0,.slice fo who.length fm),(3,I ((i.1:Nat):Int))]) (fun i=>h) (fun i=>[]) (fun i=>who.drop i.1=i.2∧i.1≤who.length∧eL who=((eL.L1 who (eL.K1)) i.2 i.1)) (fun i=>i.2.length) (0,who) rd sw ⟨U,Nat.zero_le _,hs0⟩ ?_
  rintro ⟨i1,s1⟩ ⟨hd1,aP,hs3⟩ ag1 e
  try dsimp only at hd1 aP
  rcases s1 with _ | ⟨y1,rz1⟩
  ·have dr:=cw hd1
   refine qT 5 U (a8 cN U (ai (v':=.bool false) U (cb dr) (qO 3 U ?_)))
   exact hx1 i1 _ ⟨aP,hs3⟩ trivial
  ·have dq:=dy hd1
   have aM:=cA hd1
   have ey:=aE hd1
   have gi:=hwho.1.1
   refine qT 5 U (a8 cN U (ai (v':=.bool true) U (cb dq) (qO 6 U ?_)))
   refine lX [(0,.slice fo who.length fm),(3,I ((i1:Nat):Int)),(37,.bool ((decide (y1 < 0)||decide (64≤y1))||(decide (0 < ((i1:Nat):Int))&&decide (y1≤(nthI who (((i1:Nat):Int) - 1))))))] (fun e=>?_) (fun hk1=>?_)
   rotate_left
   ·refine fd ([]) mixed kr jn (fun dU _=>(qA [0,1] U (eJ 2 (enc:=fun y=>[I y]) dU jn (fun _ _ _ e=>e) cN ty3 hwho.1 (nthZ aM) (aV aM) U U U U kr (fun q3 A3=>?_))))
    refine tf 3 U U (fun _ _ hj=>fK ty3 (A3.mono hj.1) U) (qA [4,5] U ?_)
    refine dM 15 U (fun c1=>?_) (fun c1=>?_)
    ·have c1p:=of_decide_eq_true c1
     refine qR 6 22 U (bv kr ?_)
     exact hk1 _ ⟨U,U,(cb (show true=((decide (y1 < 0)||decide (64≤y1))||(decide (0 < ((i1:Nat):Int))&&decide (y1≤(nthI who (((i1:Nat):Int) - 1))))) from by rw [c1] <;> rfl)),trivial⟩
    ·have c1p:=of_decide_eq_false c1
     refine qA [6,7] U (eJ 8 (enc:=fun y=>[I y]) dU jn (fun _ _ _ e=>e) cN ty3 hwho.1 (nthZ aM) (aV aM) U U U U kr (fun q4 A4=>?_))
     refine tf 9 U U (fun _ _ hj=>fK ty3 (A4.mono hj.1) U) (qR 10 3 U ?_)
     refine dM 22 U (fun c2=>?_) (fun c2=>?_)
     ·have c2p:=of_decide_eq_true c2
      refine qR 13 15 U (bv kr ?_)
      exact hk1 _ ⟨U,U,(cb (show true=((decide (y1 < 0)||decide (64≤y1))||(decide (0 < ((i1:Nat):Int))&&decide (y1≤(nthI who (((i1:Nat):Int) - 1))))) from by rw [c1,c2] <;> rfl)),trivial⟩
     ·have c2p:=of_decide_eq_false c2
      refine qR 13 3 U ?_
      refine dM 25 U (fun c3=>?_) (fun c3=>?_)
      ·have c3p:=of_decide_eq_true c3
       refine qA [16,17] U (eJ 18 (enc:=fun y=>[I y]) dU jn (fun _ _ _ e=>e) cN ty3 hwho.1 (nthZ aM) (aV aM) U U U U kr (fun q5 A5=>?_))
       refine tf 19 U U (fun _ _ hj=>fK ty3 (A5.mono hj.1) U) (qA [20,21] U ?_)
       refine tf 22 U U (fun _ _ _=>nF (v':=I (((i1:Nat):Int) - 1)) U (im ob)) ?_
       have ho1:0≤((((i1:Nat):Int) - 1):Int)∧((((i1:Nat):Int) - 1):Int) < ((who).length:Int):=ob
       refine eJ 23 (enc:=fun y=>[I y]) dU jn (fun _ _ _ e=>e) cN ty3 hwho.1 ho1 (df ho1) U U U U kr (fun q6 A6=>tf 24 U U (fun _ _ hj=>fK ty3 (A6.mono hj.1) U) (qR 25 3 U ?_))
       refine bv kr ?_
       exact hk1 _ ⟨U,U,(cb (show decide (y1≤(nthI who (((i1:Nat):Int) - 1)))=((decide (y1 < 0)||decide (64≤y1))||(decide (0 < ((i1:Nat):Int))&&decide (y1≤(nthI who (((i1:Nat):Int) - 1))))) from by rw [c1,c2,c3] <;> rfl)),trivial⟩
      ·have c3p:=of_decide_eq_false c3
       refine qR 16 12 U ?_
       refine bv kr ?_
       exact hk1 _ ⟨U,U,(cb (show false=((decide (y1 < 0)||decide (64≤y1))||(decide (0 < ((i1:Nat):Int))&&decide (y1≤(nthI who (((i1:Nat):Int) - 1))))) from by rw [c1,c2,c3] <;> rfl)),trivial⟩
   refine ak hs3 U (fun c4 hs5=>?_) (fun c4 hs6=>?_)
   ·refine qT 4 U ?_
    exact ah [.bool false] Tryz.func32 U hX rd (cs hs5)
   ·refine qT 4 U (ai (v':=I (((i1+1):Nat):Int)) U (bz ob) (an ?_))
    exact ag1 ((i1+1),rz1) _ (Nat.lt_succ_self _) ⟨ba hd1,aE hd1,hs6⟩ rd
theorem pM (h:HF) (aR:Register) (cu:eB) (no:Int) (ia:Register.ok h aR cu):je Tryz.prog 46 [.agg (Register.cells aR cu).toArray,I no] h (fun v h'=>∃ (rr0:lv),v=.agg (Version.cells (cZ aR no) rr0).toArray∧Version.ok h' (cZ aR no) rr0):=by
 refine ae Tryz.func46 U Tryz.ntmps46 U fun X hM hX=>?_
 have hs0:cZ aR no=cZ aR no:=rfl
 refine sr (dt (fun b1=>bR zc70 (fun b2=>qO 6 U ?_)))
 let z1:Nat×Obj:=(b2,O [I 0,I 0,I 0,.string (⟨#[]⟩:ByteArray),.slice none 0 0,.slice none 0 0,.slice none 0 0,I 0,I 0,I 0,.string (⟨#[]⟩:ByteArray),.slice none 0 0,I 0] 70)
 refine aU (ι:=Nat) (fun i=>[(4,Q b2)]) (fun i=>h) (fun i=>[z1,(b1,O (Register.cells aR cu) 30)]) (fun i=>i≤aR.Versions.length∧cZ aR no=((cZ.K1))) ?_ (fun hx1=>?_)
 ·rintro i1 ⟨aP,hs1⟩ e
  try dsimp only at aP
  refine sr (aN (fq (cells:=[I 0,I 0,I 0,.string (⟨#[]⟩:ByteArray),.slice none 0 0,.slice none 0 0,.slice none 0 0,I 0,I 0,I 0,.string (⟨#[]⟩:ByteArray),.slice none 0 0,I 0]) (places:=[(0,1),(1,1),(2,1),(3,10)]) Tryz.underlying70 zc70 kr kr ?_))
  refine bL 0 ty70 U U U U U U (bh ?_)
  have hs2:cZ aR no=(Version.mk 0 0 0 (Policy.mk (⟨#[]⟩:ByteArray) ([]) ([]) ([]) (Expr.mk 0 0 0 (⟨#[]⟩:ByteArray) ([])) 0)):=hs1
  exact cJ [.agg (List.toArray [I 0,I 0,I 0,.string (⟨#[]⟩:ByteArray),.slice none 0 0,.slice none 0 0,.slice none 0 0,I 0,I 0,I 0,.string (⟨#[]⟩:ByteArray),.slice none 0 0,I 0])] Tryz.func46 U ⟨⟨0,_,_,_,_,U,U,.inl ⟨ty70,U⟩⟩,trivial⟩ ⟨(lv.mk (eE.mk none 0 none 0 none 0 (cE.mk none 0))),congrArg (fun r:Version=>(.agg (Version.cells r (lv.mk (eE.mk none 0 none 0 none 0 (cE.mk none 0)))).toArray:Value)) hs2.symm,(by rw [hs2];exact (show Version.ok h (Version.mk 0 0 0 (Policy.mk (⟨#[]⟩:ByteArray) ([]) ([]) ([]) (Expr.mk 0 0 0 (⟨#[]⟩:ByteArray) ([])) 0)) (lv.mk (eE.mk none 0 none 0 none 0 (cE.mk none 0))) from ⟨(show Policy.ok h (Policy.mk (⟨#[]⟩:ByteArray) ([]) ([]) ([]) (Expr.mk 0 0 0 (⟨#[]⟩:ByteArray) ([])) 0) (eE.mk none 0 none 0 none 0 (cE.mk none 0)) from ⟨SlC.nil,SlC.nil,SlC.nil,(show Expr.ok h (Expr.mk 0 0 0 (⟨#[]⟩:ByteArray) ([])) (cE.mk none 0) from Expr.ok.of SlC.nil)⟩)⟩))⟩
 ·refine bG (ι:=Nat×List Version) (fun i=>[(1,I no),(2,Q b1),(4,Q b2),(5,I ((i.1:Nat):Int))]) (fun i=>h) (fun i=>[z1,(b1,O (Register.cells aR cu) 30)]) (fun i=>aR.Versions.drop i.1=i.2∧i.1≤aR.Versions.length∧cZ aR no=((cZ.L1 no (cZ.K1)) i.2 )) (fun i=>i.2.length) (0,aR.Versions) rd sw ⟨U,Nat.zero_le _,hs0⟩ ?_
  rintro ⟨i1,s1⟩ ⟨hd1,aP,hs3⟩ ag1 e
  try dsimp only at hd1 aP
  rcases s1 with _ | ⟨y1,rz1⟩
  ·have dr:=cw hd1
   refine qT 4 U (aj lV U (aI 1 ty26 U U U (a8 iN U (ai (v':=.bool false) U (cb dr) (qO 3 U ?_)))))
   exact hx1 i1 _ ⟨aP,hs3⟩ rd
  ·have dq:=dy hd1
   have aM:=cA hd1
   have ey:=aE hd1
   have gi:=ia.Versions.1.1
   refine qT 4 U (aj lV U (aI 1 ty26 U U U (a8 iN U (ai (v':=.bool true) U (cb dq) (qO 7 U (aj lV U (aI 1 ty26 U U U (aB (aN (fF iN ty70 ia.Versions.1 (nthZ aM) (aV aM) U U U (fun q3 cs3 A3 ln3 rr3=>?_)))))))))))
   obtain ⟨r3,rfl,ok3⟩:=rr3
   refine aj kY U (dv ty3 A3 U (qO 3 U ?_))
   refine ak hs3 U (fun c2 hs5=>?_) (fun c2 hs6=>?_)
   ·refine sr (aj lV U (aI 1 ty26 U U U (aB (aN (fF iN ty70 ia.Versions.1 (nthZ aM) (aV aM) U U U (fun q4 cs4 A4 ln4 rr4=>?_))))))
    obtain ⟨r4,rfl,ok4⟩:=rr4
    refine el ty70 A4 U U (bL 0 ty70 U U U U U U (bh ?_))
    have hs7:cZ aR no=y1:=hs5
    exact cJ [.agg (Version.cells y1 r4).toArray] Tryz.func46 U ⟨⟨0,_,_,_,_,U,U,.inl ⟨ty70,U⟩⟩,trivial⟩ ⟨r4,congrArg (fun r:Version=>(.agg (Version.cells r r4).toArray:Value)) hs7.symm,(by rw [hs7];exact ok4)⟩
   ·refine qT 4 U (ai (v':=I (((i1+1):Nat):Int)) U (bz ob) (an ?_))
    exact ag1 ((i1+1),rz1) _ (Nat.lt_succ_self _) ⟨ba hd1,aE hd1,hs6⟩ rd
theorem jG (h:HF) (l:(List Version)) (eD:Option Addr) (eC:Nat) (fM:Int) (known:Int) (hl:SlC Version.rp h eD eC l):Ret Tryz.prog 120 [.slice eD l.length eC,I fM,I known] h (I (aJ l fM known)):=by
 refine ae Tryz.func120 U Tryz.ntmps120 U fun X hM hX=>?_
 have hs0:aJ l fM known=aJ l fM known:=rfl
 refine qT 13 U ?_
 refine aU (ι:=Nat×Int) (fun i=>[(7,I i.2)]) (fun i=>h) (fun i=>[]) (fun i=>i.1≤l.length∧aJ l fM known=((aJ.K1) i.2)∧-1≤i.2∧i.2 < (l.length:Int)) ?_ (fun hx1=>?_)
 ·rintro ⟨i1,nw⟩ ⟨aP,hs1,u1_0⟩ e
  try dsimp only at aP u1_0
  refine qT 5 U ?_
  exact ah [I nw] Tryz.func120 U hX rd (ci hs1)
 ·refine bG (ι:=Nat×Int×List Version) (fun i=>[(0,.slice eD l.length eC),(1,I fM),(2,I known),(7,I i.2.1),(8,I ((i.1:Nat):Int))]) (fun i=>h) (fun i=>[]) (fun i=>l.drop i.1=i.2.2∧i.1≤l.length∧aJ l fM known=((aJ.L1 l fM known (aJ.K1)) i.2.2 i.1 i.2.1)∧-1≤i.2.1∧i.2.1 < (l.length:Int)) (fun i=>i.2.2.length) (0,(-1),l) rd sw ⟨U,Nat.zero_le _,hs0,(by dsimp only;omega)⟩ ?_
  rintro ⟨i1,nw,s1⟩ ⟨hd1,aP,hs3,u1_0⟩ ag1 e
  try dsimp only at hd1 aP u1_0
  rcases s1 with _ | ⟨y1,rz1⟩
  ·have dr:=cw hd1
   refine qT 5 U (a8 iN U (ai (v':=.bool false) U (cb dr) (qO 3 U ?_)))
   exact hx1 (i1,nw) _ ⟨aP,hs3,u1_0⟩ rd
  ·have dq:=dy hd1
   have aM:=cA hd1
   have ey:=aE hd1
   have gi:=hl.1.1
   refine qT 5 U (a8 iN U (ai (v':=.bool true) U (cb dq) (qO 6 U ?_)))
   refine lX [(0,.slice eD l.length eC),(1,I fM),(2,I known),(7,I nw),(8,I ((i1:Nat):Int)),(47,.bool ((decide (y1.At≤fM)&&decide (y1.Known≤known))&&(decide (nw < 0)||decide ((nthI l nw).At≤y1.At))))] (fun e=>?_) (fun hk1=>?_)
   rotate_left
   ·refine fd ([]) mixed kr jn (fun dU _=>(qA [0,1] U (io 2 dU jn iN ty70 hl.1 (nthZ aM) (aV aM) U U U U kr (fun q3 cs3 A3 ln3 rr3=>?_))))
    obtain ⟨r3,rfl,ok3⟩:=rr3
    refine tf 3 U U (fun _ _ _=>dx j8 U) (tf 4 U U (fun _ _ hj=>nJ 1 ty3 (A3.mono hj.1) U U) (qR 5 3 U ?_))
    refine dM 22 U (fun c1=>?_) (fun c1=>?_)
    ·have c1p:=of_decide_eq_true c1
     refine qA [8,9] U (io 10 dU jn iN ty70 hl.1 (nthZ aM) (aV aM) U U U U kr (fun q4 cs4 A4 ln4 rr4=>?_))
     obtain ⟨r4,rfl,ok4⟩:=rr4
     refine tf 11 U U (fun _ _ _=>dx u9 U) (tf 12 U U (fun _ _ hj=>nJ 2 ty3 (A4.mono hj.1) U U) (qR 13 4 U ?_))
     refine dM 31 U (fun c2=>?_) (fun c2=>?_)
     ·have c2p:=of_decide_eq_true c2
      refine qR 17 3 U ?_
      refine dM 34 U (fun c3=>?_) (fun c3=>?_)
      ·have c3p:=of_decide_eq_true c3
       refine qR 20 13 U (bv kr ?_)
       exact hk1 _ ⟨U,U,U,U,U,(cb (show true=((decide (y1.At≤fM)&&decide (y1.Known≤known))&&(decide (nw < 0)||decide ((nthI l nw).At≤y1.At))) from by rw [c1,c2,c3] <;> rfl)),trivial⟩
      ·have c3p:=of_decide_eq_false c3
       refine qA [20,21] U (io 22 dU jn iN ty70 hl.1 (nthZ aM) (aV aM) U U U U kr (fun q5 cs5 A5 ln5 rr5=>?_))
       obtain ⟨r5,rfl,ok5⟩:=rr5
       refine tf 23 U U (fun _ _ _=>dx j8 U) (tf 24 U U (fun _ _ hj=>nJ 1 ty3 (A5.mono hj.1) U U) (qA [25,26] U ?_))
       have ho1:0≤(nw:Int)∧(nw:Int) < ((l).length:Int):=ob
       refine io 27 dU jn iN ty70 hl.1 ho1 (df ho1) U U U U kr (fun q6 cs6 A6 ln6 rr6=>?_)
       obtain ⟨r6,rfl,ok6⟩:=rr6
       refine tf 28 U U (fun _ _ _=>dx j8 U) (tf 29 U U (fun _ _ hj=>nJ 1 ty3 (A6.mono hj.1) U U) (qR 30 3 U (bv kr ?_)))
       exact hk1 _ ⟨U,U,U,U,U,(cb (show decide ((nthI l nw).At≤y1.At)=((decide (y1.At≤fM)&&decide (y1.Known≤known))&&(decide (nw < 0)||decide ((nthI l nw).At≤y1.At))) from by rw [c1,c2,c3] <;> rfl)),trivial⟩
     ·have c2p:=of_decide_eq_false c2
      refine qR 17 16 U ?_
      refine bv kr ?_
      exact hk1 _ ⟨U,U,U,U,U,(cb (show false=((decide (y1.At≤fM)&&decide (y1.Known≤known))&&(decide (nw < 0)||decide ((nthI l nw).At≤y1.At))) from by rw [c1,c2] <;> rfl)),trivial⟩
    ·have c1p:=of_decide_eq_false c1
     refine qR 8 25 U (bv kr ?_)
     exact hk1 _ ⟨U,U,U,U,U,(cb (show false=((decide (y1.At≤fM)&&decide (y1.Known≤known))&&(decide (nw < 0)||decide ((nthI l nw).At≤y1.At))) from by rw [c1] <;> rfl)),trivial⟩
   refine ak hs3 U (fun c4 hs5=>?_) (fun c4 hs6=>?_)
   ·refine qT 7 U (ai (v':=I (((i1+1):Nat):Int)) U (bz ob) (an ?_))
    exact ag1 ((i1+1),((i1:Nat):Int),rz1) _ (Nat.lt_succ_self _) ⟨ba hd1,aE hd1,hs5,(by dsimp only;omega)⟩ rd
   ·refine qT 4 U (ai (v':=I (((i1+1):Nat):Int)) U (bz ob) (an ?_))
    exact ag1 ((i1+1),nw,rz1) _ (Nat.lt_succ_self _) ⟨ba hd1,aE hd1,hs6,(by dsimp only;omega)⟩ rd
theorem kj (l:List Version) (a b:Int):aJ l a b < (l.length:Int):=by
 have key:∀ (s:List Version) (i:Nat) (g:Int),i+s.length=l.length→g < (l.length:Int)→aJ.L1 l a b aJ.K1 s i g < (l.length:Int):=by
  intro s
  induction s with
  | nil=>intro i g _ hg;exact hg
  | cons y s ih=>
   intro i g hi hg
   simp only [List.length_cons] at hi
   simp only [aJ.L1,Bool.cond_eq_ite]
   split
   ·exact ih _ _ ob ob
   ·exact ih _ _ ob hg
 exact key l 0 (-1) (by simp) ob
theorem qF (h:HF) (l:(List Int)) (eD:Option Addr) (eC:Nat) (fX:Int) (hl:SlC Rp.int h eD eC l) (hsz0:l.length≤2000000):je Tryz.prog 197 [.slice eD l.length eC,I fX] h (fun v h'=>∃ (rb0:Option Addr) (rc0:Nat),v=.slice rb0 (eG l fX).length rc0∧SlC Rp.int h' rb0 rc0 (eG l fX)):=by
 refine ae EX U Tryz.ntmps197 U fun X hM hX=>?_
 have hs0:eG l fX=eG l fX:=rfl
 refine qT 9 U ?_
 refine aU (ι:=Nat) (fun i=>[(0,.slice eD l.length eC),(1,I fX),(5,I ((i:Nat):Int))]) (fun i=>h) (fun i=>[]) (fun i=>i≤l.length∧eG l fX=((eG.K1 l fX) i)) ?_ (fun hx1=>?_)
 ·rintro i1 ⟨aP,hs1⟩ e
  try dsimp only at aP
  refine qT 5 U (a8 cN U (qO 2 U ?_))
  refine ar 7 [24,25,26,27,28,29,30,31] 31 (.bool (decide (((i1:Nat):Int) < ((l.length:Nat):Int))&&((nthI l ((i1:Nat):Int))==fX))) (fun hk1=>?_) (fun e=>?_)
  ·refine ac 24 U (fun c2=>?_) (fun c2=>?_)
   ·refine qO 2 U ?_
    have ho2:0≤(((i1:Nat):Int):Int)∧(((i1:Nat):Int):Int) < ((l).length:Int):=ob
    refine aN (eU (enc:=fun y=>[I y]) (fun _ _ _ e=>e) cN ty3 hl.1 ho2 (df ho2) U U U (fun q3 A3=>dv ty3 A3 U (qO 3 U ?_)))
    exact hk1 _ (cb (cB c2))
   ·refine qO 7 U ?_
    exact hk1 _ (cb (cC c2))
  refine bh ?_
  refine ak hs1 U (fun c3 hs2=>?_) (fun c3 hs3=>?_)
  ·refine qT 5 U ?_
   have hs4:eG l fX=l:=hs2
   exact cJ [.slice eD l.length eC] EX U rd ⟨eD,eC,congrArg (fun r:(List Int)=>(.slice eD r.length eC:Value)) hs4.symm,(by rw [hs4];exact hl)⟩
  ·refine qT 2 U ?_
   refine fd ([]) mixed kr jn (fun dU _=>(qA [1,2] U (Ah 3 dU jn cN ty3 hl.1 hl.2 ob U U U U kr (fun sb1 sc1 sl1=>(qA [5,8,9] U ?_)))))
   refine vC 10 dU jn cN ty3 hl.1 hl.2 ob U U U U kr (fun sb2 sc2 sl2=>?_)
   refine kh 0 6 kr U U ?_ ?_ 
   ·refine pL cN ty3 (fun b1=>⟨jn,?_⟩)
    refine kh 4 6 kr U U ?_ ?_ 
    ·refine db Rp.fp ([]) ([]) (fun G=>G) ap (fun _=>ap) cN ty3 zc3 U bytes3 (eb.lit (show bD Rp.int h [] ([]) from U) U) U U (ib sl1.1) lo lo (fun ob1 oc1 G1 gr1=>?_)
     refine ⟨jn,(tn 6 U (bK (cells:=[I fX]) cN ty3 zc3 U U kr (fun b2=>⟨jn,?_⟩)))⟩
     refine tn 7 U (db Rp.fp ([(b2,O [I fX] 3)]) ([]) (fun G=>[(b2,O [I fX] 3)]++(G)) ap (fun _=>ap) cN ty3 zc3 U bytes3 gr1 U U (eI 0 U (show bD Rp.int h [I fX] ([fX]) from ⟨[I fX],[],U,U,U,U⟩)) lo lo (fun ob2 oc2 G2 gr2=>?_))
     refine ⟨jn,(tn 11 U (db Rp.fp ([(b2,O [I fX] 3)]) ([]) (fun G=>[(b2,O [I fX] 3)]++(G)) ap (fun _=>ap) cN ty3 zc3 U bytes3 gr2 U U (ib sl2.1) lo lo (fun ob3 oc3 G3 gr3=>?_)))⟩
     refine ⟨jn,(qA [12] U (bv kr ?_))⟩
     refine eY Rp.bi ([(b2,O [I fX] 3)]) G3 ([]) ap hM gr3 (fun h1 hle1 sl3=>?_)
     have hs5:eG l fX=(((l.take ((((i1:Nat):Int):Int)).toNat)++[fX])++(l.drop ((((i1:Nat):Int):Int)).toNat)):=hs3
     exact cJ [.slice ob3 ((((l.take ((((i1:Nat):Int):Int)).toNat)++[fX])++(l.drop ((((i1:Nat):Int):Int)).toNat)).length) oc3] EX U rd ⟨ob3,oc3,congrArg (fun r:(List Int)=>(.slice ob3 r.length oc3:Value)) hs5.symm,(by rw [hs5];exact sl3)⟩
    ·refine bK (cells:=[I fX]) cN ty3 zc3 U U kr (fun b3=>⟨jn,(tn 4 U ?_)⟩)
     refine db Rp.fp ([(b3,O [I fX] 3)]) ([]) (fun G=>[(b3,O [I fX] 3)]++(G)) ap (fun _=>ap) cN ty3 zc3 U bytes3 (eb.lit (show bD Rp.int h [] ([]) from U) U) U U (ib sl1.1) lo lo (fun ob4 oc4 G4 gr4=>?_)
     refine ⟨jn,(tn 7 U (db Rp.fp ([(b3,O [I fX] 3)]) ([]) (fun G=>[(b3,O [I fX] 3)]++(G)) ap (fun _=>ap) cN ty3 zc3 U bytes3 gr4 U U (eI 0 U (show bD Rp.int h [I fX] ([fX]) from ⟨[I fX],[],U,U,U,U⟩)) lo lo (fun ob5 oc5 G5 gr5=>?_)))⟩
     refine ⟨jn,(tn 11 U (db Rp.fp ([(b3,O [I fX] 3)]) ([]) (fun G=>[(b3,O [I fX] 3)]++(G)) ap (fun _=>ap) cN ty3 zc3 U bytes3 gr5 U U (ib sl2.1) lo lo (fun ob6 oc6 G6 gr6=>?_)))⟩
     refine ⟨jn,(qA [12] U (bv kr ?_))⟩
     refine eY Rp.bi ([(b3,O [I fX] 3)]) G6 ([]) ap hM gr6 (fun h2 hle2 sl4=>?_)
     have hs6:eG l fX=(((l.take ((((i1:Nat):Int):Int)).toNat)++[fX])++(l.drop ((((i1:Nat):Int):Int)).toNat)):=hs3
     exact cJ [.slice ob6 ((((l.take ((((i1:Nat):Int):Int)).toNat)++[fX])++(l.drop ((((i1:Nat):Int):Int)).toNat)).length) oc6] EX U rd ⟨ob6,oc6,congrArg (fun r:(List Int)=>(.slice ob6 r.length oc6:Value)) hs6.symm,(by rw [hs6];exact sl4)⟩
   ·refine bK (cells:=[I fX]) cN ty3 zc3 U U kr (fun b4=>⟨jn,(tn 0 U ?_)⟩)
    refine pL cN ty3 (fun b5=>⟨jn,(tn 4 U (db Rp.fp ([]) ([(b4,O [I fX] 3)]) (fun G=>[(b4,O [I fX] 3)]++(G)) ap (fun _=>ap) cN ty3 zc3 U bytes3 (eb.lit (show bD Rp.int h [] ([]) from U) U) U U (ib sl1.1) lo lo (fun ob7 oc7 G7 gr7=>?_)))⟩)
    refine ⟨jn,(tn 7 U (db Rp.fp ([(b4,O [I fX] 3)]) ([]) (fun G=>[(b4,O [I fX] 3)]++(G)) ap (fun _=>ap) cN ty3 zc3 U bytes3 gr7 U U (eI 0 U (show bD Rp.int h [I fX] ([fX]) from ⟨[I fX],[],U,U,U,U⟩)) lo lo (fun ob8 oc8 G8 gr8=>?_)))⟩
    refine ⟨jn,(tn 11 U (db Rp.fp ([(b4,O [I fX] 3)]) ([]) (fun G=>[(b4,O [I fX] 3)]++(G)) ap (fun _=>ap) cN ty3 zc3 U bytes3 gr8 U U (ib sl2.1) lo lo (fun ob9 oc9 G9 gr9=>?_)))⟩
    refine ⟨jn,(qA [12] U (bv kr ?_))⟩
    refine eY Rp.bi ([(b4,O [I fX] 3)]) G9 ([]) ap hM gr9 (fun h3 hle3 sl5=>?_)
    have hs7:eG l fX=(((l.take ((((i1:Nat):Int):Int)).toNat)++[fX])++(l.drop ((((i1:Nat):Int):Int)).toNat)):=hs3
    exact cJ [.slice ob9 ((((l.take ((((i1:Nat):Int):Int)).toNat)++[fX])++(l.drop ((((i1:Nat):Int):Int)).toNat)).length) oc9] EX U rd ⟨ob9,oc9,congrArg (fun r:(List Int)=>(.slice ob9 r.length oc9:Value)) hs7.symm,(by rw [hs7];exact sl5)⟩
 ·refine bG (ι:=Nat×List Int) (fun i=>[(0,.slice eD l.length eC),(1,I fX),(5,I ((i.1:Nat):Int))]) (fun i=>h) (fun i=>[]) (fun i=>l.drop i.1=i.2∧i.1≤l.length∧eG l fX=((eG.L1 fX (eG.K1 l fX)) i.2 i.1)) (fun i=>i.2.length) (0,l) rd sw ⟨U,Nat.zero_le _,hs0⟩ ?_
  rintro ⟨i1,s1⟩ ⟨hd1,aP,hs8⟩ ag1 e
  try dsimp only at hd1 aP
  rcases s1 with _ | ⟨y1,rz1⟩
  ·have dr:=cw hd1
   refine qT 5 U (a8 cN U (ai (v':=.bool false) U (cb dr) (qO 11 U ?_)))
   exact hx1 i1 _ ⟨aP,hs8⟩ rd
  ·have dq:=dy hd1
   have aM:=cA hd1
   have ey:=aE hd1
   have gi:=hl.1.1
   refine qT 5 U (a8 cN U (ai (v':=.bool true) U (cb dq) (qO 3 U (aN (eU (enc:=fun y=>[I y]) (fun _ _ _ e=>e) cN ty3 hl.1 (nthZ aM) (aV aM) U U U (fun q4 A4=>?_))))))
   refine dv ty3 A4 U (qO 4 U ?_)
   refine ak hs8 U (fun c4 hs10=>?_) (fun c4 hs11=>?_)
   ·have c4p:=of_decide_eq_true c4
    refine qT 4 U (ai (v':=I (((i1+1):Nat):Int)) U (bz ob) (qO 3 U ?_))
    exact ag1 ((i1+1),rz1) _ (Nat.lt_succ_self _) ⟨ba hd1,aE hd1,hs10⟩ rd
   ·have c4p:=of_decide_eq_false c4
    refine m6 U ?_
    exact hx1 i1 _ ⟨aP,hs11⟩ rd
theorem vH (h:HF) (l:(List Version)) (eD:Option Addr) (eC:Nat) (begun:Int) (aW:Int) (known:Int) (hl:SlC Version.rp h eD eC l) (hsm:smV l):je Tryz.prog 121 [.slice eD l.length eC,I begun,I aW,I known] h (fun v h'=>∃ (rb0:Option Addr) (rc0:Nat),v=.slice rb0 (bZ l begun aW known).length rc0∧SlC Rp.int h' rb0 rc0 (bZ l begun aW known)):=by
 refine ae Tryz.func121 U Tryz.ntmps121 U fun X hM hX=>?_
 have hs0:bZ l begun aW known=bZ l begun aW known:=rfl
 have hsl:=hsm.len
 refine qT 13 U (au (v:=I (aJ l begun known)) zV (jG h l eD eC begun known hl) U (qO 8 U ?_))
 refine ak hs0 U (fun c1 hs1=>?_) (fun c1 hs2=>?_)
 ·have c1p:=of_decide_eq_true c1
  refine qT 4 U ?_
  have ho1:0≤((aJ l begun known):Int)∧((aJ l begun known):Int) < ((l).length:Int):=⟨ob,kj _ _ _⟩
  refine aN (fF iN ty70 hl.1 ho1 (df ho1) U U U (fun q1 cs1 A1 ln1 rr1=>?_))
  obtain ⟨r1,rfl,ok1⟩:=rr1
  refine aj kY U (dv ty3 A1 U (aN (cy Tryz.call197 (qF h ([]) none 0 ((nthI l (aJ l begun known)).No) SlC.nil (by first | omega | (simp only [List.length_nil];omega) | (have hq:=gm [] ((nthI l (aJ l begun known)).No);simp only [List.length_nil] at hq;omega))) U (fun v1 h1 hle1 hp1=>?_))))
  obtain ⟨rb1,rc1,rfl,sl1⟩:=hp1
  refine qO 7 U ?_
  refine aU (ι:=Nat×(List Int)×Option Addr×Nat×HF) (fun i=>[(9,.slice i.2.2.1 i.2.1.length i.2.2.2.1)]) (fun i=>i.2.2.2.2) (fun i=>[]) (fun i=>i.1≤l.length∧bZ l begun aW known=((bZ.K1) i.2.1)∧SlC Rp.int i.2.2.2.2 i.2.2.1 i.2.2.2.1 i.2.1∧i.2.1.length≤(eG ([]) ((nthI l (aJ l begun known)).No)).length+i.1∧HF.le h1 i.2.2.2.2) ?_ (fun hx1=>?_)
  ·rintro ⟨i1,kJ,rq,rn,hh1⟩ ⟨aP,hs3,oG,yX,hl1⟩ e
   try dsimp only at aP oG yX hl1
   refine qT 5 U ?_
   have hs4:bZ l begun aW known=kJ:=hs3
   exact cJ [.slice rq kJ.length rn] Tryz.func121 U rd ⟨rq,rn,congrArg (fun r:(List Int)=>(.slice rq r.length rn:Value)) hs4.symm,(by rw [hs4];exact oG)⟩
  ·refine bG (ι:=Nat×(List Int)×Option Addr×Nat×HF×List Version) (fun i=>[(0,.slice eD l.length eC),(1,I begun),(2,I aW),(3,I known),(9,.slice i.2.2.1 i.2.1.length i.2.2.2.1),(11,I ((i.1:Nat):Int))]) (fun i=>i.2.2.2.2.1) (fun i=>[]) (fun i=>l.drop i.1=i.2.2.2.2.2∧i.1≤l.length∧bZ l begun aW known=((bZ.L1 l begun aW known (bZ.K1)) i.2.2.2.2.2 i.2.1)∧SlC Rp.int i.2.2.2.2.1 i.2.2.1 i.2.2.2.1 i.2.1∧i.2.1.length≤(eG ([]) ((nthI l (aJ l begun known)).No)).length+i.1∧HF.le h1 i.2.2.2.2.1) (fun i=>i.2.2.2.2.2.length) (0,(eG ([]) ((nthI l (aJ l begun known)).No)),rb1,rc1,h1,l) rd sw ⟨U,Nat.zero_le _,hs1,sl1,(by first | omega | (simp only [List.length_append,List.length_cons,List.length_nil];omega) | (have hq:=gm kJ ((nthI l (aJ l y1.At known)).No);try dsimp only;omega)),(HF.le_refl h1)⟩ ?_
   rintro ⟨i1,kJ,rq,rn,hh1,s1⟩ ⟨hd1,aP,hs5,oG,yX,hl1⟩ ag1 e
   try dsimp only at hd1 aP oG yX hl1
   rcases s1 with _ | ⟨y1,rz1⟩
   ·have dr:=cw hd1
    refine qT 5 U (a8 iN U (ai (v':=.bool false) U (cb dr) (qO 3 U ?_)))
    exact hx1 (i1,kJ,rq,rn,hh1) _ ⟨aP,hs5,oG,(by first | omega | (simp only [List.length_append,List.length_cons,List.length_nil];omega) | (have hq:=gm kJ ((nthI l (aJ l y1.At known)).No);try dsimp only;omega)),hl1⟩ rd
   ·have dq:=dy hd1
    have aM:=cA hd1
    have ey:=aE hd1
    have gi:=(hl.mono Version.aD hle1).1.1
    refine qT 5 U (a8 iN U (ai (v':=.bool true) U (cb dq) (qO 9 U (aN (fF iN ty70 (hl.mono Version.aD (hle1.t hl1)).1 (nthZ aM) (aV aM) U U U (fun q4 cs4 A4 ln4 rr4=>?_))))))
    obtain ⟨r4,rfl,ok4⟩:=rr4
    refine aj j8 U (km (j:=1) ty3 A4 U U (qO 3 U ?_))
    refine ar 8 [38,39,40,41,42,43,44,45,46] 46 (.bool (decide (begun < y1.At)&&decide (y1.At≤aW))) (fun hk1=>?_) (fun e=>?_)
    ·refine ac 38 U (fun c2=>?_) (fun c2=>?_)
     ·refine qO 2 U (aN (fF iN ty70 (hl.mono Version.aD (hle1.t hl1)).1 (nthZ aM) (aV aM) U U U (fun q5 cs5 A5 ln5 rr5=>?_)))
      obtain ⟨r5,rfl,ok5⟩:=rr5
      refine aj j8 U (km (j:=1) ty3 A5 U U (qO 3 U ?_))
      exact hk1 _ (cb (cB c2))
     ·refine qO 8 U ?_
      exact hk1 _ (cb (cC c2))
    refine aB ?_
    refine ar 10 [47,48,49,50,51,52,53,54,55,56,57] 57 (.bool ((decide (begun < y1.At)&&decide (y1.At≤aW))&&decide (0≤(aJ l y1.At known)))) (fun hk2=>?_) (fun e=>?_)
    ·refine ac 47 U (fun c3=>?_) (fun c3=>?_)
     ·refine qO 3 U (aN (fF iN ty70 (hl.mono Version.aD (hle1.t hl1)).1 (nthZ aM) (aV aM) U U U (fun q6 cs6 A6 ln6 rr6=>?_)))
      obtain ⟨r6,rfl,ok6⟩:=rr6
      refine aj j8 U (km (j:=1) ty3 A6 U U (aB (au (v:=I (aJ l y1.At known)) zV (jG hh1 l eD eC y1.At known (hl.mono Version.aD (hle1.t hl1))) U (qO 2 U ?_))))
      exact hk2 _ (cb (cB c3))
     ·refine qO 10 U ?_
      exact hk2 _ (cb (cC c3))
    refine bh ?_
    refine ak hs5 U (fun c4 hs7=>?_) (fun c4 hs8=>?_)
    ·refine qT 6 U (aN (fF iN ty70 (hl.mono Version.aD (hle1.t hl1)).1 (nthZ aM) (aV aM) U U U (fun q7 cs7 A7 ln7 rr7=>?_)))
     obtain ⟨r7,rfl,ok7⟩:=rr7
     refine aj j8 U (km (j:=1) ty3 A7 U U (aB (au (v:=I (aJ l y1.At known)) zV (jG hh1 l eD eC y1.At known (hl.mono Version.aD (hle1.t hl1))) U ?_)))
     have ho2:0≤((aJ l y1.At known):Int)∧((aJ l y1.At known):Int) < ((l).length:Int):=⟨ob,kj _ _ _⟩
     refine aN (fF iN ty70 (hl.mono Version.aD (hle1.t hl1)).1 ho2 (df ho2) U U U (fun q8 cs8 A8 ln8 rr8=>?_))
     obtain ⟨r8,rfl,ok8⟩:=rr8
     refine aj kY U (dv ty3 A8 U (aN (cy Tryz.call197 (qF hh1 kJ rq rn ((nthI l (aJ l y1.At known)).No) oG (by first | omega | (simp only [List.length_nil];omega) | (have hq:=gm [] ((nthI l (aJ l begun known)).No);simp only [List.length_nil] at hq;omega))) U (fun v2 h2 hle2 hp2=>?_))))
     obtain ⟨rb2,rc2,rfl,sl2⟩:=hp2
     refine qO 5 U (ai (v':=I (((i1+1):Nat):Int)) U (bz ob) (an ?_))
     exact ag1 ((i1+1),(eG kJ ((nthI l (aJ l y1.At known)).No)),rb2,rc2,h2,rz1) _ (Nat.lt_succ_self _) ⟨ba hd1,aE hd1,hs7,sl2,(by first | omega | (simp only [List.length_append,List.length_cons,List.length_nil];omega) | (have hq:=gm kJ ((nthI l (aJ l y1.At known)).No);try dsimp only;omega)),(hl1.t hle2)⟩ rd
    ·refine qT 4 U (ai (v':=I (((i1+1):Nat):Int)) U (bz ob) (an ?_))
     exact ag1 ((i1+1),kJ,rq,rn,hh1,rz1) _ (Nat.lt_succ_self _) ⟨ba hd1,aE hd1,hs8,oG,(by first | omega | (simp only [List.length_append,List.length_cons,List.length_nil];omega) | (have hq:=gm kJ ((nthI l (aJ l y1.At known)).No);try dsimp only;omega)),hl1⟩ rd
 ·have c1p:=of_decide_eq_false c1
  refine qT 6 U ?_
  refine aU (ι:=Nat×(List Int)×Option Addr×Nat×HF) (fun i=>[(9,.slice i.2.2.1 i.2.1.length i.2.2.2.1)]) (fun i=>i.2.2.2.2) (fun i=>[]) (fun i=>i.1≤l.length∧bZ l begun aW known=((bZ.K2) i.2.1)∧SlC Rp.int i.2.2.2.2 i.2.2.1 i.2.2.2.1 i.2.1∧i.2.1.length≤0+i.1∧HF.le h i.2.2.2.2) ?_ (fun hx2=>?_)
  ·rintro ⟨i2,rC,yR,yQ,hh2⟩ ⟨jq,hs9,yP,HT,hl2⟩ e
   try dsimp only at jq yP HT hl2
   refine qT 5 U ?_
   have hs10:bZ l begun aW known=rC:=hs9
   exact cJ [.slice yR rC.length yQ] Tryz.func121 U rd ⟨yR,yQ,congrArg (fun r:(List Int)=>(.slice yR r.length yQ:Value)) hs10.symm,(by rw [hs10];exact yP)⟩
  ·refine bG (ι:=Nat×(List Int)×Option Addr×Nat×HF×List Version) (fun i=>[(0,.slice eD l.length eC),(1,I begun),(2,I aW),(3,I known),(9,.slice i.2.2.1 i.2.1.length i.2.2.2.1),(11,I ((i.1:Nat):Int))]) (fun i=>i.2.2.2.2.1) (fun i=>[]) (fun i=>l.drop i.1=i.2.2.2.2.2∧i.1≤l.length∧bZ l begun aW known=((bZ.L2 l begun aW known (bZ.K2)) i.2.2.2.2.2 i.2.1)∧SlC Rp.int i.2.2.2.2.1 i.2.2.1 i.2.2.2.1 i.2.1∧i.2.1.length≤0+i.1∧HF.le h i.2.2.2.2.1) (fun i=>i.2.2.2.2.2.length) (0,[],none,0,h,l) rd sw ⟨U,Nat.zero_le _,hs2,SlC.nil,(by first | omega | (simp only [List.length_append,List.length_cons,List.length_nil];omega) | (have hq:=gm rC ((nthI l (aJ l y2.At known)).No);try dsimp only;omega)),(HF.le_refl h)⟩ ?_
   rintro ⟨i2,rC,yR,yQ,hh2,s2⟩ ⟨hd2,jq,hs11,yP,HT,hl2⟩ ag2 e
   try dsimp only at hd2 jq yP HT hl2
   rcases s2 with _ | ⟨y2,rz2⟩
   ·have sD:=cw hd2
    refine qT 5 U (a8 iN U (ai (v':=.bool false) U (cb sD) (qO 3 U ?_)))
    exact hx2 (i2,rC,yR,yQ,hh2) _ ⟨jq,hs11,yP,(by first | omega | (simp only [List.length_append,List.length_cons,List.length_nil];omega) | (have hq:=gm rC ((nthI l (aJ l y2.At known)).No);try dsimp only;omega)),hl2⟩ rd
   ·have pW:=dy hd2
    have jL:=cA hd2
    have wH:=aE hd2
    have Df:=hl.1.1
    refine qT 5 U (a8 iN U (ai (v':=.bool true) U (cb pW) (qO 9 U (aN (fF iN ty70 (hl.mono Version.aD hl2).1 (nthZ jL) (aV jL) U U U (fun q11 cs11 A11 ln11 rr11=>?_))))))
    obtain ⟨r11,rfl,ok11⟩:=rr11
    refine aj j8 U (km (j:=1) ty3 A11 U U (qO 3 U ?_))
    refine ar 8 [38,39,40,41,42,43,44,45,46] 46 (.bool (decide (begun < y2.At)&&decide (y2.At≤aW))) (fun hk3=>?_) (fun e=>?_)
    ·refine ac 38 U (fun c5=>?_) (fun c5=>?_)
     ·refine qO 2 U (aN (fF iN ty70 (hl.mono Version.aD hl2).1 (nthZ jL) (aV jL) U U U (fun q12 cs12 A12 ln12 rr12=>?_)))
      obtain ⟨r12,rfl,ok12⟩:=rr12
      refine aj j8 U (km (j:=1) ty3 A12 U U (qO 3 U ?_))
      exact hk3 _ (cb (cB c5))
     ·refine qO 8 U ?_
      exact hk3 _ (cb (cC c5))
    refine aB ?_
    refine ar 10 [47,48,49,50,51,52,53,54,55,56,57] 57 (.bool ((decide (begun < y2.At)&&decide (y2.At≤aW))&&decide (0≤(aJ l y2.At known)))) (fun hk4=>?_) (fun e=>?_)
    ·refine ac 47 U (fun c6=>?_) (fun c6=>?_)
     ·refine qO 3 U (aN (fF iN ty70 (hl.mono Version.aD hl2).1 (nthZ jL) (aV jL) U U U (fun q13 cs13 A13 ln13 rr13=>?_)))
      obtain ⟨r13,rfl,ok13⟩:=rr13
      refine aj j8 U (km (j:=1) ty3 A13 U U (aB (au (v:=I (aJ l y2.At known)) zV (jG hh2 l eD eC y2.At known (hl.mono Version.aD hl2)) U (qO 2 U ?_))))
      exact hk4 _ (cb (cB c6))
     ·refine qO 10 U ?_
      exact hk4 _ (cb (cC c6))
    refine bh ?_
    refine ak hs11 U (fun c7 hs13=>?_) (fun c7 hs14=>?_)
    ·refine qT 6 U (aN (fF iN ty70 (hl.mono Version.aD hl2).1 (nthZ jL) (aV jL) U U U (fun q14 cs14 A14 ln14 rr14=>?_)))
     obtain ⟨r14,rfl,ok14⟩:=rr14
     refine aj j8 U (km (j:=1) ty3 A14 U U (aB (au (v:=I (aJ l y2.At known)) zV (jG hh2 l eD eC y2.At known (hl.mono Version.aD hl2)) U ?_)))
     have ho3:0≤((aJ l y2.At known):Int)∧((aJ l y2.At known):Int) < ((l).length:Int):=⟨ob,kj _ _ _⟩
     refine aN (fF iN ty70 (hl.mono Version.aD hl2).1 ho3 (df ho3) U U U (fun q15 cs15 A15 ln15 rr15=>?_))
     obtain ⟨r15,rfl,ok15⟩:=rr15
     refine aj kY U (dv ty3 A15 U (aN (cy Tryz.call197 (qF hh2 rC yR yQ ((nthI l (aJ l y2.At known)).No) yP (by first | omega | (simp only [List.length_nil];omega) | (have hq:=gm [] ((nthI l (aJ l begun known)).No);simp only [List.length_nil] at hq;omega))) U (fun v3 h3 hle3 hp3=>?_))))
     obtain ⟨rb3,rc3,rfl,sl3⟩:=hp3
     refine qO 5 U (ai (v':=I (((i2+1):Nat):Int)) U (bz ob) (an ?_))
     exact ag2 ((i2+1),(eG rC ((nthI l (aJ l y2.At known)).No)),rb3,rc3,h3,rz2) _ (Nat.lt_succ_self _) ⟨ba hd2,aE hd2,hs13,sl3,(by first | omega | (simp only [List.length_append,List.length_cons,List.length_nil];omega) | (have hq:=gm rC ((nthI l (aJ l y2.At known)).No);try dsimp only;omega)),(hl2.t hle3)⟩ rd
    ·refine qT 4 U (ai (v':=I (((i2+1):Nat):Int)) U (bz ob) (an ?_))
     exact ag2 ((i2+1),rC,yR,yQ,hh2,rz2) _ (Nat.lt_succ_self _) ⟨ba hd2,aE hd2,hs14,yP,(by first | omega | (simp only [List.length_append,List.length_cons,List.length_nil];omega) | (have hq:=gm rC ((nthI l (aJ l y2.At known)).No);try dsimp only;omega)),hl2⟩ rd
theorem wY (h:HF) (l:(List Version)) (eD:Option Addr) (eC:Nat) (begun:Int) (aW:Int) (known:Int) (hl:SlC Version.rp h eD eC l) (hsm:smV l):je Tryz.prog 75 [.slice eD l.length eC,I begun,I aW,I known] h (fun v h'=>∃ (rb0:Option Addr) (rc0:Nat),v=.tuple #[.slice rb0 ((dQ l begun aW known).1).length rc0,I ((dQ l begun aW known).2.1),I ((dQ l begun aW known).2.2)]∧SlC Rp.int h' rb0 rc0 ((dQ l begun aW known).1)):=by
 refine ae xy U Tryz.ntmps75 U fun X hM hX=>?_
 have hs0:dQ l begun aW known=dQ l begun aW known:=rfl
 refine qT 9 U (au (v:=I (cT l)) Tryz.call71 (pk h l eD eC hl ob) U (qO 8 U ?_))
 refine ak hs0 U (fun c1 hs1=>?_) (fun c1 hs2=>?_)
 ·refine qT 7 U ?_
  have hs3:dQ l begun aW known=([],0,(cT l)):=hs1
  exact cJ [.slice none 0 0,I 0,I (cT l)] xy U rd ⟨none,0,congrArg (fun r:((List Int)×Int×Int)=>(.tuple #[.slice none r.1.length 0,I r.2.1,I r.2.2]:Value)) hs3.symm,(by rw [hs3];exact SlC.nil)⟩
 ·refine qT 5 U (au (v:=.bool (cp begun)) uC (ip h begun ) U (qO 2 U ?_))
  refine ar 4 [23,24,25,26,27] 27 (.bool ((!(cp begun))||(!(cp aW)))) (fun hk1=>?_) (fun e=>?_)
  ·refine ac 23 U (fun c2=>?_) (fun c2=>?_)
   ·refine qO 4 U ?_
    exact hk1 _ (cb (dW c2))
   ·refine aB (au (v:=.bool (cp aW)) uC (ip h aW ) U (qO 2 U ?_))
    exact hk1 _ (cb (dX c2))
  refine aB ?_
  refine ar 4 [28,29,30,31,32] 32 (.bool (((!(cp begun))||(!(cp aW)))||(!(cp known)))) (fun hk2=>?_) (fun e=>?_)
  ·refine ac 28 U (fun c3=>?_) (fun c3=>?_)
   ·refine qO 4 U ?_
    exact hk2 _ (cb (dW c3))
   ·refine aB (au (v:=.bool (cp known)) uC (ip h known ) U (qO 2 U ?_))
    exact hk2 _ (cb (dX c3))
  refine aB ?_
  refine ar 4 [33,34,35,36,37] 37 (.bool ((((!(cp begun))||(!(cp aW)))||(!(cp known)))||decide (aW < begun))) (fun hk3=>?_) (fun e=>?_)
  ·refine ac 33 U (fun c4=>?_) (fun c4=>?_)
   ·refine qO 4 U ?_
    exact hk3 _ (cb (dW c4))
   ·refine qO 4 U ?_
    exact hk3 _ (cb (dX c4))
  refine bh ?_
  refine ak hs2 U (fun c5 hs4=>?_) (fun c5 hs5=>?_)
  ·refine qT 6 U ?_
   have hs6:dQ l begun aW known=([],0,1):=hs4
   exact cJ [.slice none 0 0,I 0,I 1] xy U rd ⟨none,0,congrArg (fun r:((List Int)×Int×Int)=>(.tuple #[.slice none r.1.length 0,I r.2.1,I r.2.2]:Value)) hs6.symm,(by rw [hs6];exact SlC.nil)⟩
  ·refine qT 6 U (au (v:=I (aJ l aW known)) zV (jG h l eD eC aW known hl) U (qO 8 U ?_))
   refine ak hs5 U (fun c6 hs7=>?_) (fun c6 hs8=>?_)
   ·have c6p:=of_decide_eq_true c6
    refine qT 6 U ?_
    have hs9:dQ l begun aW known=([],0,0):=hs7
    exact cJ [.slice none 0 0,I 0,I 0] xy U rd ⟨none,0,congrArg (fun r:((List Int)×Int×Int)=>(.tuple #[.slice none r.1.length 0,I r.2.1,I r.2.2]:Value)) hs9.symm,(by rw [hs9];exact SlC.nil)⟩
   ·have c6p:=of_decide_eq_false c6
    refine qT 5 U ?_
    have ho1:0≤((aJ l aW known):Int)∧((aJ l aW known):Int) < ((l).length:Int):=⟨ob,kj _ _ _⟩
    refine aN (fF iN ty70 hl.1 ho1 (df ho1) U U U (fun q1 cs1 A1 ln1 rr1=>?_))
    obtain ⟨r1,rfl,ok1⟩:=rr1
    refine aj pt U (aj qX U (km (j:=12) ty3 A1 U U (qO 13 U ?_)))
    refine ak hs8 U (fun c7 hs10=>?_) (fun c7 hs11=>?_)
    ·refine qT 5 U (au (v:=I (aJ l begun known)) zV (jG h l eD eC begun known hl) U (qO 8 U ?_))
     refine ak hs10 U (fun c8 hs12=>?_) (fun c8 hs13=>?_)
     ·have c8p:=of_decide_eq_true c8
      refine qT 7 U ?_
      have hs14:dQ l begun aW known=([],(nthI l (aJ l aW known)).Policy.Mode,0):=hs12
      exact cJ [.slice none 0 0,I ((nthI l (aJ l aW known)).Policy.Mode),I 0] xy U rd ⟨none,0,congrArg (fun r:((List Int)×Int×Int)=>(.tuple #[.slice none r.1.length 0,I r.2.1,I r.2.2]:Value)) hs14.symm,(by rw [hs14];exact SlC.nil)⟩
     ·have c8p:=of_decide_eq_false c8
      refine qT 5 U ?_
      have ho2:0≤((aJ l begun known):Int)∧((aJ l begun known):Int) < ((l).length:Int):=⟨ob,kj _ _ _⟩
      refine aN (fF iN ty70 hl.1 ho2 (df ho2) U U U (fun q2 cs2 A2 ln2 rr2=>?_))
      obtain ⟨r2,rfl,ok2⟩:=rr2
      refine aj kY U (dv ty3 A2 U (aN (bK (cells:=[I ((nthI l (aJ l begun known)).No)]) cN ty3 zc3 U U kr (fun b1=>qO 5 U ?_))))
      refine e6 0 U hM (fun h1 hle1 hb1=>?_)
      have sl1:SlC Rp.int h1 (some ⟨b1,0,none⟩) 1 ([(nthI l (aJ l begun known)).No]):=bD.slB0 (T:=3) (fz:=(0,0)) ((show bD Rp.int h [I ((nthI l (aJ l begun known)).No)] ([(nthI l (aJ l begun known)).No]) from ⟨[I ((nthI l (aJ l begun known)).No)],[],rfl,rfl,rfl,rfl⟩).mono Rp.bi hle1) hb1
      have hs15:dQ l begun aW known=([(nthI l (aJ l begun known)).No],(nthI l (aJ l aW known)).Policy.Mode,0):=hs13
      exact cJ [.slice (some ⟨b1,0,none⟩) 1 1,I ((nthI l (aJ l aW known)).Policy.Mode),I 0] xy U rd ⟨(some ⟨b1,0,none⟩),1,congrArg (fun r:((List Int)×Int×Int)=>(.tuple #[.slice (some ⟨b1,0,none⟩) r.1.length 1,I r.2.1,I r.2.2]:Value)) hs15.symm,(by rw [hs15];exact sl1)⟩
    ·refine qT 5 U ?_
     refine ak hs11 U (fun c9 hs16=>?_) (fun c9 hs17=>?_)
     ·refine qT 4 U ?_
      have ho3:0≤((aJ l aW known):Int)∧((aJ l aW known):Int) < ((l).length:Int):=⟨ob,kj _ _ _⟩
      refine aN (fF iN ty70 hl.1 ho3 (df ho3) U U U (fun q3 cs3 A3 ln3 rr3=>?_))
      obtain ⟨r3,rfl,ok3⟩:=rr3
      refine aj kY U (dv ty3 A3 U (aN (bK (cells:=[I ((nthI l (aJ l aW known)).No)]) cN ty3 zc3 U U kr (fun b2=>qO 5 U ?_))))
      refine e6 0 U hM (fun h2 hle2 hb2=>?_)
      have sl2:SlC Rp.int h2 (some ⟨b2,0,none⟩) 1 ([(nthI l (aJ l aW known)).No]):=bD.slB0 (T:=3) (fz:=(0,0)) ((show bD Rp.int h [I ((nthI l (aJ l aW known)).No)] ([(nthI l (aJ l aW known)).No]) from ⟨[I ((nthI l (aJ l aW known)).No)],[],rfl,rfl,rfl,rfl⟩).mono Rp.bi hle2) hb2
      have hs18:dQ l begun aW known=([(nthI l (aJ l aW known)).No],(nthI l (aJ l aW known)).Policy.Mode,0):=hs16
      exact cJ [.slice (some ⟨b2,0,none⟩) 1 1,I ((nthI l (aJ l aW known)).Policy.Mode),I 0] xy U rd ⟨(some ⟨b2,0,none⟩),1,congrArg (fun r:((List Int)×Int×Int)=>(.tuple #[.slice (some ⟨b2,0,none⟩) r.1.length 1,I r.2.1,I r.2.2]:Value)) hs18.symm,(by rw [hs18];exact sl2)⟩
     ·refine qT 8 U (aN (cy Tryz.call121 (vH h l eD eC begun aW known hl ob) U (fun v1 h3 hle3 hp1=>?_)))
      obtain ⟨rb1,rc1,rfl,sl3⟩:=hp1
      refine qO 5 U ?_
      have hs19:dQ l begun aW known=((bZ l begun aW known),(nthI l (aJ l aW known)).Policy.Mode,0):=hs17
      exact cJ [.slice rb1 ((bZ l begun aW known).length) rc1,I ((nthI l (aJ l aW known)).Policy.Mode),I 0] xy U rd ⟨rb1,rc1,congrArg (fun r:((List Int)×Int×Int)=>(.tuple #[.slice rb1 r.1.length rc1,I r.2.1,I r.2.2]:Value)) hs19.symm,(by rw [hs19];exact sl3)⟩
open Go.Proofs
set_option maxHeartbeats 2000000
theorem w9 (h:HF) (x:Appoint) (fM:Int) (known:Int)  : Ret Tryz.prog 202 [.agg (Appoint.cells x).toArray,I fM,I known] h (.bool (iC x fM known)):=by
 refine ae Tryz.func202 U Tryz.ntmps202 U fun X hM hX=>?_
 have hs0:iC x fM known=iC x fM known:=rfl
 refine sr (dt (fun b1=>qO 4 U (aj nd U (aI 0 ty3 U U U (qO 3 U ?_)))))
 refine ar 5 [11,12,13,14,15,16] 16 (.bool (decide (x.At≤fM)&&decide (x.Known≤known))) (fun hk1=>?_) (fun e=>?_)
 ·refine ac 11 U (fun c1=>?_) (fun c1=>?_)
  ·refine aj vf U (aI 0 ty3 U U U (qO 3 U ?_))
   exact hk1 _ (cb (cB c1))
  ·refine qO 5 U ?_
   exact hk1 _ (cb (cC c1))
 refine an ?_
 exact ah [.bool (decide (x.At≤fM)&&decide (x.Known≤known))] Tryz.func202 U hX rd (cs hs0)
theorem zD (h:HF) (l:(List Appoint)) (eD:Option Addr) (eC:Nat) (office:Int) (person:Int) (aZ:Int) (known:Int) (hl:SlC Appoint.rp h eD eC l):Ret Tryz.prog 128 [.slice eD l.length eC,I office,I person,I aZ,I known] h (I (dV l office person aZ known)):=by
 refine ae Tryz.func128 U Tryz.ntmps128 U fun X hM hX=>?_
 have hs0:dV l office person aZ known=dV l office person aZ known:=rfl
 refine qT 13 U ?_
 refine aU (ι:=Nat×Int) (fun i=>[(11,I i.2)]) (fun i=>h) (fun i=>[]) (fun i=>i.1≤l.length∧dV l office person aZ known=((dV.K1) i.2)∧-1≤i.2∧i.2 < (l.length:Int)) ?_ (fun hx1=>?_)
 ·rintro ⟨i1,fO⟩ ⟨aP,hs1,u1_0⟩ e
  try dsimp only at aP u1_0
  refine qT 5 U ?_
  exact ah [I fO] Tryz.func128 U hX rd (ci hs1)
 ·refine bG (ι:=Nat×Int×List Appoint) (fun i=>[(0,.slice eD l.length eC),(1,I office),(2,I person),(3,I aZ),(4,I known),(11,I i.2.1),(12,I ((i.1:Nat):Int))]) (fun i=>h) (fun i=>[]) (fun i=>l.drop i.1=i.2.2∧i.1≤l.length∧dV l office person aZ known=((dV.L1 l office person aZ known (dV.K1)) i.2.2 i.1 i.2.1)∧-1≤i.2.1∧i.2.1 < (l.length:Int)) (fun i=>i.2.2.length) (0,(-1),l) rd sw ⟨U,Nat.zero_le _,hs0,(by dsimp only;omega)⟩ ?_
  rintro ⟨i1,fO,s1⟩ ⟨hd1,aP,hs3,u1_0⟩ ag1 e
  try dsimp only at hd1 aP u1_0
  rcases s1 with _ | ⟨y1,rz1⟩
  ·have dr:=cw hd1
   refine qT 5 U (a8 nB U (ai (v':=.bool false) U (cb dr) (qO 3 U ?_)))
   exact hx1 (i1,fO) _ ⟨aP,hs3,u1_0⟩ rd
  ·have dq:=dy hd1
   have aM:=cA hd1
   have ey:=aE hd1
   have gi:=hl.1.1
   refine qT 5 U (a8 nB U (ai (v':=.bool true) U (cb dq) (qO 6 U ?_)))
   refine lX [(0,.slice eD l.length eC),(1,I office),(2,I person),(3,I aZ),(4,I known),(11,I fO),(12,I ((i1:Nat):Int)),(60,.bool ((((y1.Office==office)&&(y1.Person==person))&&(iC y1 aZ known))&&(decide (fO < 0)||decide ((nthI l fO).At≤y1.At))))] (fun e=>?_) (fun hk1=>?_)
   rotate_left
   ·refine fd ([]) mixed kr jn (fun dU _=>(qA [0,1] U (eJ 2 (enc:=Appoint.cells) dU jn (fun _ _ _ e=>e) nB ty59 hl.1 (nthZ aM) (aV aM) U U U U kr (fun q3 A3=>?_))))
    refine tf 3 U U (fun _ _ _=>dx ve U) (tf 4 U U (fun _ _ hj=>nJ 3 ty3 (A3.mono hj.1) U U) (qR 5 3 U ?_))
    refine dM 26 U (fun c1=>?_) (fun c1=>?_)
    ·refine qA [8,9] U (eJ 10 (enc:=Appoint.cells) dU jn (fun _ _ _ e=>e) nB ty59 hl.1 (nthZ aM) (aV aM) U U U U kr (fun q4 A4=>?_))
     refine tf 11 U U (fun _ _ _=>dx sZ U) (tf 12 U U (fun _ _ hj=>nJ 4 ty3 (A4.mono hj.1) U U) (qR 13 4 U ?_))
     refine dM 35 U (fun c2=>?_) (fun c2=>?_)
     ·refine qA [17,18] U (eJ 19 (enc:=Appoint.cells) dU jn (fun _ _ _ e=>e) nB ty59 hl.1 (nthZ aM) (aV aM) U U U U kr (fun q5 A5=>?_))
      refine tf 20 U U (fun _ _ hj=>jK ty59 (A5.mono hj.1) U U) (qA [21,22] U ?_)
      refine tn 23 U (fB (v:=.bool (iC y1 aZ known)) Tryz.call202 (w9 h y1 aZ known ) U (⟨jn,(qA [24,25] U ?_)⟩))
      refine dM 44 U (fun c3=>?_) (fun c3=>?_)
      ·refine qR 26 3 U ?_
       refine dM 47 U (fun c4=>?_) (fun c4=>?_)
       ·have c4p:=of_decide_eq_true c4
        refine qR 29 13 U (bv kr ?_)
        exact hk1 _ ⟨U,U,U,U,U,U,U,(cb (show true=((((y1.Office==office)&&(y1.Person==person))&&(iC y1 aZ known))&&(decide (fO < 0)||decide ((nthI l fO).At≤y1.At))) from by rw [c1,c2,c3,c4] <;> rfl)),trivial⟩
       ·have c4p:=of_decide_eq_false c4
        refine qA [29,30] U (eJ 31 (enc:=Appoint.cells) dU jn (fun _ _ _ e=>e) nB ty59 hl.1 (nthZ aM) (aV aM) U U U U kr (fun q6 A6=>?_))
        refine tf 32 U U (fun _ _ _=>dx nd U) (tf 33 U U (fun _ _ hj=>nJ 1 ty3 (A6.mono hj.1) U U) (qA [34,35] U ?_))
        have ho1:0≤(fO:Int)∧(fO:Int) < ((l).length:Int):=ob
        refine eJ 36 (enc:=Appoint.cells) dU jn (fun _ _ _ e=>e) nB ty59 hl.1 ho1 (df ho1) U U U U kr (fun q7 A7=>tf 37 U U (fun _ _ _=>dx nd U) ?_)
        refine tf 38 U U (fun _ _ hj=>nJ 1 ty3 (A7.mono hj.1) U U) (qR 39 3 U (bv kr ?_))
        exact hk1 _ ⟨U,U,U,U,U,U,U,(cb (show decide ((nthI l fO).At≤y1.At)=((((y1.Office==office)&&(y1.Person==person))&&(iC y1 aZ known))&&(decide (fO < 0)||decide ((nthI l fO).At≤y1.At))) from by rw [c1,c2,c3,c4] <;> rfl)),trivial⟩
      ·refine qR 26 16 U ?_
       refine bv kr ?_
       exact hk1 _ ⟨U,U,U,U,U,U,U,(cb (show false=((((y1.Office==office)&&(y1.Person==person))&&(iC y1 aZ known))&&(decide (fO < 0)||decide ((nthI l fO).At≤y1.At))) from by rw [c1,c2,c3] <;> rfl)),trivial⟩
     ·refine qR 17 25 U (bv kr ?_)
      exact hk1 _ ⟨U,U,U,U,U,U,U,(cb (show false=((((y1.Office==office)&&(y1.Person==person))&&(iC y1 aZ known))&&(decide (fO < 0)||decide ((nthI l fO).At≤y1.At))) from by rw [c1,c2] <;> rfl)),trivial⟩
    ·refine qR 8 34 U (bv kr ?_)
     exact hk1 _ ⟨U,U,U,U,U,U,U,(cb (show false=((((y1.Office==office)&&(y1.Person==person))&&(iC y1 aZ known))&&(decide (fO < 0)||decide ((nthI l fO).At≤y1.At))) from by rw [c1] <;> rfl)),trivial⟩
   refine ak hs3 U (fun c5 hs5=>?_) (fun c5 hs6=>?_)
   ·refine qT 7 U (ai (v':=I (((i1+1):Nat):Int)) U (bz ob) (an ?_))
    exact ag1 ((i1+1),((i1:Nat):Int),rz1) _ (Nat.lt_succ_self _) ⟨ba hd1,aE hd1,hs5,(by dsimp only;omega)⟩ rd
   ·refine qT 4 U (ai (v':=I (((i1+1):Nat):Int)) U (bz ob) (an ?_))
    exact ag1 ((i1+1),fO,rz1) _ (Nat.lt_succ_self _) ⟨ba hd1,aE hd1,hs6,(by dsimp only;omega)⟩ rd
theorem tL (l:List Appoint) (a b c d:Int):dV l a b c d < (l.length:Int):=by
 have key:∀ (s:List Appoint) (i:Nat) (g:Int),i+s.length=l.length→g < (l.length:Int)→dV.L1 l a b c d dV.K1 s i g < (l.length:Int):=by
  intro s
  induction s with
  | nil=>intro i g _ hg;exact hg
  | cons y s ih=>
   intro i g hi hg
   simp only [List.length_cons] at hi
   simp only [dV.L1,Bool.cond_eq_ite]
   split
   ·exact ih _ _ ob ob
   ·exact ih _ _ ob hg
 exact key l 0 (-1) (by simp) ob
theorem pN (h:HF) (l:(List Appoint)) (eD:Option Addr) (eC:Nat) (office:Int) (aW:Int) (known:Int) (hl:SlC Appoint.rp h eD eC l):je Tryz.prog 78 [.slice eD l.length eC,I office,I aW,I known] h (fun v h'=>∃ (rb0:Option Addr) (rc0:Nat),v=.tuple #[.slice rb0 ((cD l office aW known).1).length rc0,I ((cD l office aW known).2)]∧SlC Holder.rp h' rb0 rc0 ((cD l office aW known).1)):=by
 refine ae DX U Tryz.ntmps78 U fun X hM hX=>?_
 have hs0:cD l office aW known=cD l office aW known:=rfl
 refine qT 8 U (au (v:=I (dH l)) Tryz.call67 (se h l eD eC hl) U (qO 8 U ?_))
 refine ak hs0 U (fun c1 hs1=>?_) (fun c1 hs2=>?_)
 ·refine qT 6 U ?_
  have hs3:cD l office aW known=([],(dH l)):=hs1
  exact cJ [.slice none 0 0,I (dH l)] DX U rd ⟨none,0,congrArg (fun r:((List Holder)×Int)=>(.tuple #[.slice none r.1.length 0,I r.2]:Value)) hs3.symm,(by rw [hs3];exact SlC.nil)⟩
 ·refine qT 5 U (au (v:=.bool (hZ office)) Tryz.call126 (ri h office ) U (qO 2 U ?_))
  refine ar 4 [22,23,24,25,26] 26 (.bool ((!(hZ office))||(!(fE aW)))) (fun hk1=>?_) (fun e=>?_)
  ·refine ac 22 U (fun c2=>?_) (fun c2=>?_)
   ·refine qO 4 U ?_
    exact hk1 _ (cb (dW c2))
   ·refine aB (au (v:=.bool (fE aW)) Ei (m7 h aW ) U (qO 2 U ?_))
    exact hk1 _ (cb (dX c2))
  refine aB ?_
  refine ar 4 [27,28,29,30,31] 31 (.bool (((!(hZ office))||(!(fE aW)))||(!(fE known)))) (fun hk2=>?_) (fun e=>?_)
  ·refine ac 27 U (fun c3=>?_) (fun c3=>?_)
   ·refine qO 4 U ?_
    exact hk2 _ (cb (dW c3))
   ·refine aB (au (v:=.bool (fE known)) Ei (m7 h known ) U (qO 2 U ?_))
    exact hk2 _ (cb (dX c3))
  refine bh ?_
  refine ak hs2 U (fun c4 hs4=>?_) (fun c4 hs5=>?_)
  ·refine qT 5 U ?_
   have hs6:cD l office aW known=([],1):=hs4
   exact cJ [.slice none 0 0,I 1] DX U rd ⟨none,0,congrArg (fun r:((List Holder)×Int)=>(.tuple #[.slice none r.1.length 0,I r.2]:Value)) hs6.symm,(by rw [hs6];exact SlC.nil)⟩
  ·refine qT 10 U ?_
   refine aU (ι:=Nat×(List Holder)×Option Addr×Nat×LH) (fun i=>[(11,.slice i.2.2.1 i.2.1.length i.2.2.2.1)]) (fun i=>h) (fun i=>i.2.2.2.2) (fun i=>i.1≤(List.range 64).length∧cD l office aW known=((cD.K1) i.2.1)∧eb Holder.rp 133 h i.2.1 i.2.2.1 i.2.2.2.1 i.2.2.2.2∧i.2.1.length≤0+i.1) ?_ (fun hx1=>?_)
   ·rintro ⟨i1,fO,mG,mF,BF⟩ ⟨aP,hs7,mf,uq⟩ e
    try dsimp only at aP mf uq
    refine qT 6 U ?_
    refine eY Holder.aD ([]) BF ([]) ap hM mf (fun h1 hle1 sl1=>?_)
    have hs8:cD l office aW known=(fO,0):=hs7
    exact cJ [.slice mG fO.length mF,I 0] DX U rd ⟨mG,mF,congrArg (fun r:((List Holder)×Int)=>(.tuple #[.slice mG r.1.length mF,I r.2]:Value)) hs8.symm,(by rw [hs8];exact sl1)⟩
   ·refine bG (ι:=Nat×(List Holder)×Option Addr×Nat×LH×List Nat) (fun i=>[(0,.slice eD l.length eC),(1,I office),(2,I aW),(3,I known),(11,.slice i.2.2.1 i.2.1.length i.2.2.2.1),(12,I ((i.1:Nat):Int))]) (fun i=>h) (fun i=>i.2.2.2.2.1) (fun i=>(List.range 64).drop i.1=i.2.2.2.2.2∧i.1≤(List.range 64).length∧cD l office aW known=((cD.L1 l office aW known (cD.K1)) i.2.2.2.2.2 i.1 i.2.1)∧eb Holder.rp 133 h i.2.1 i.2.2.1 i.2.2.2.1 i.2.2.2.2.1∧i.2.1.length≤0+i.1) (fun i=>i.2.2.2.2.2.length) (0,[],none,0,[],(List.range 64)) rd sw ⟨U,Nat.zero_le _,hs5,eb.nil,lo⟩ ?_
    rintro ⟨i1,fO,mG,mF,BF,s1⟩ ⟨hd1,aP,hs9,mf,uq⟩ ag1 e
    try dsimp only at hd1 aP mf uq
    rcases s1 with _ | ⟨y1,rz1⟩
    ·have dr:decide (((i1:Nat):Int) < 64)=false:=by simpa using cw hd1
     refine qT 4 U (ai (v':=.bool false) U (cb dr) (qO 3 U ?_))
     exact hx1 (i1,fO,mG,mF,BF) _ ⟨aP,hs9,mf,lo⟩ rd
    ·have dq:decide (((i1:Nat):Int) < 64)=true:=by simpa using dy hd1
     have ey:i1 < 64:=by simpa using aE hd1
     refine qT 4 U (ai (v':=.bool true) U (cb dq) (qO 12 U (au (v:=I (dV l office ((i1:Nat):Int) aW known)) Tryz.call128 (zD h l eD eC office ((i1:Nat):Int) aW known hl) U (qO 7 U ?_))))
     refine ar 7 [44,45,46,47,48,49,50,51] 51 (.bool (decide (0≤(dV l office ((i1:Nat):Int) aW known))&&(!((nthI l (dV l office ((i1:Nat):Int) aW known)).Gone)))) (fun hk3=>?_) (fun e=>?_)
     ·refine ac 44 U (fun c5=>?_) (fun c5=>?_)
      ·refine qO 2 U ?_
       have ho2:0≤((dV l office ((i1:Nat):Int) aW known):Int)∧((dV l office ((i1:Nat):Int) aW known):Int) < ((l).length:Int):=⟨ob,tL _ _ _ _ _⟩
       refine aN (eU (enc:=Appoint.cells) (fun _ _ _ e=>e) nB ty59 hl.1 ho2 (df ho2) U U U (fun q2 A2=>aj xr U (km (j:=6) ty4 A2 U U (qO 2 U ?_))))
       exact hk3 _ (cb (cB c5))
      ·refine qO 7 U ?_
       exact hk3 _ (cb (cC c5))
     refine bh ?_
     refine ak hs9 U (fun c6 hs11=>?_) (fun c6 hs12=>?_)
     ·refine qT 5 U ?_
      have ho3:0≤((dV l office ((i1:Nat):Int) aW known):Int)∧((dV l office ((i1:Nat):Int) aW known):Int) < ((l).length:Int):=⟨ob,tL _ _ _ _ _⟩
      refine aN (eU (enc:=Appoint.cells) (fun _ _ _ e=>e) nB ty59 hl.1 ho3 (df ho3) U U U (fun q3 A3=>aj qY U (km (j:=5) ty3 A3 U U (aN (fq (cells:=[I ((i1:Nat):Int),I ((nthI l (dV l office ((i1:Nat):Int) aW known)).Weight)]) (places:=[(0,1),(1,1)]) Tryz.underlying133 zc133 kr kr ?_)))))
      refine aN (bK (cells:=[I ((i1:Nat):Int),I ((nthI l (dV l office ((i1:Nat):Int) aW known)).Weight)]) nh ty133 zc133 U U kr (fun b1=>aN (db Holder.eT ([(b1,O [I ((i1:Nat):Int),I ((nthI l (dV l office ((i1:Nat):Int) aW known)).Weight)] 133)]) ([]) (fun G=>[(b1,O [I ((i1:Nat):Int),I ((nthI l (dV l office ((i1:Nat):Int) aW known)).Weight)] 133)]++(G)) ap (fun _=>ap) nh ty133 zc133 U bytes133 mf U U (eI 0 U (show bD Holder.rp h [I ((i1:Nat):Int),I ((nthI l (dV l office ((i1:Nat):Int) aW known)).Weight)] ([(Holder.mk ((i1:Nat):Int) ((nthI l (dV l office ((i1:Nat):Int) aW known)).Weight))]) from ⟨[I ((i1:Nat):Int),I ((nthI l (dV l office ((i1:Nat):Int) aW known)).Weight)],[],U,U,U,U⟩)) lo lo (fun ob1 oc1 G1 gr1=>?_))))
      refine qO 5 U (ai (v':=I (((i1+1):Nat):Int)) U (bz ob) (an ?_))
      refine cG (L':=G1) js ?_
      exact ag1 ((i1+1),(fO++[(Holder.mk ((i1:Nat):Int) ((nthI l (dV l office ((i1:Nat):Int) aW known)).Weight))]),ob1,oc1,G1,rz1) _ (Nat.lt_succ_self _) ⟨ba hd1,aE hd1,hs11,gr1,lo⟩ rd
     ·refine qT 4 U (ai (v':=I (((i1+1):Nat):Int)) U (bz ob) (an ?_))
      exact ag1 ((i1+1),fO,mG,mF,BF,rz1) _ (Nat.lt_succ_self _) ⟨ba hd1,aE hd1,hs12,mf,lo⟩ rd
theorem rf (h:HF) (l:(List Int)) (eD:Option Addr) (eC:Nat) (fX:Int) (hl:SlC Rp.int h eD eC l) (hsz0:l.length≤2000000):je Tryz.prog 43 [.slice eD l.length eC,I fX] h (fun v h'=>∃ (rb0:Option Addr) (rc0:Nat),v=.slice rb0 (dP l fX).length rc0∧SlC Rp.int h' rb0 rc0 (dP l fX)):=by
 refine ae EW U Tryz.ntmps43 U fun X hM hX=>?_
 have hs0:dP l fX=dP l fX:=rfl
 refine qT 9 U ?_
 refine aU (ι:=Nat) (fun i=>[(0,.slice eD l.length eC),(1,I fX),(5,I ((i:Nat):Int))]) (fun i=>h) (fun i=>[]) (fun i=>i≤l.length∧dP l fX=((dP.K1 l fX) i)) ?_ (fun hx1=>?_)
 ·rintro i1 ⟨aP,hs1⟩ e
  try dsimp only at aP
  refine qT 5 U (a8 cN U (qO 2 U ?_))
  refine ar 7 [24,25,26,27,28,29,30,31] 31 (.bool (decide (((i1:Nat):Int) < ((l.length:Nat):Int))&&((nthI l ((i1:Nat):Int))==fX))) (fun hk1=>?_) (fun e=>?_)
  ·refine ac 24 U (fun c2=>?_) (fun c2=>?_)
   ·refine qO 2 U ?_
    have ho2:0≤(((i1:Nat):Int):Int)∧(((i1:Nat):Int):Int) < ((l).length:Int):=ob
    refine aN (eU (enc:=fun y=>[I y]) (fun _ _ _ e=>e) cN ty3 hl.1 ho2 (df ho2) U U U (fun q3 A3=>dv ty3 A3 U (qO 3 U ?_)))
    exact hk1 _ (cb (cB c2))
   ·refine qO 7 U ?_
    exact hk1 _ (cb (cC c2))
  refine bh ?_
  refine ak hs1 U (fun c3 hs2=>?_) (fun c3 hs3=>?_)
  ·refine qT 5 U ?_
   have hs4:dP l fX=l:=hs2
   exact cJ [.slice eD l.length eC] EW U rd ⟨eD,eC,congrArg (fun r:(List Int)=>(.slice eD r.length eC:Value)) hs4.symm,(by rw [hs4];exact hl)⟩
  ·refine qT 2 U ?_
   refine fd ([]) mixed kr jn (fun dU _=>(qA [1,2] U (Ah 3 dU jn cN ty3 hl.1 hl.2 ob U U U U kr (fun sb1 sc1 sl1=>(qA [5,8,9] U ?_)))))
   refine vC 10 dU jn cN ty3 hl.1 hl.2 ob U U U U kr (fun sb2 sc2 sl2=>?_)
   refine kh 0 6 kr U U ?_ ?_ 
   ·refine pL cN ty3 (fun b1=>⟨jn,?_⟩)
    refine kh 4 6 kr U U ?_ ?_ 
    ·refine db Rp.fp ([]) ([]) (fun G=>G) ap (fun _=>ap) cN ty3 zc3 U bytes3 (eb.lit (show bD Rp.int h [] ([]) from U) U) U U (ib sl1.1) lo lo (fun ob1 oc1 G1 gr1=>?_)
     refine ⟨jn,(tn 6 U (bK (cells:=[I fX]) cN ty3 zc3 U U kr (fun b2=>⟨jn,?_⟩)))⟩
     refine tn 7 U (db Rp.fp ([(b2,O [I fX] 3)]) ([]) (fun G=>[(b2,O [I fX] 3)]++(G)) ap (fun _=>ap) cN ty3 zc3 U bytes3 gr1 U U (eI 0 U (show bD Rp.int h [I fX] ([fX]) from ⟨[I fX],[],U,U,U,U⟩)) lo lo (fun ob2 oc2 G2 gr2=>?_))
     refine ⟨jn,(tn 11 U (db Rp.fp ([(b2,O [I fX] 3)]) ([]) (fun G=>[(b2,O [I fX] 3)]++(G)) ap (fun _=>ap) cN ty3 zc3 U bytes3 gr2 U U (ib sl2.1) lo lo (fun ob3 oc3 G3 gr3=>?_)))⟩
     refine ⟨jn,(qA [12] U (bv kr ?_))⟩
     refine eY Rp.bi ([(b2,O [I fX] 3)]) G3 ([]) ap hM gr3 (fun h1 hle1 sl3=>?_)
     have hs5:dP l fX=(((l.take ((((i1:Nat):Int):Int)).toNat)++[fX])++(l.drop ((((i1:Nat):Int):Int)).toNat)):=hs3
     exact cJ [.slice ob3 ((((l.take ((((i1:Nat):Int):Int)).toNat)++[fX])++(l.drop ((((i1:Nat):Int):Int)).toNat)).length) oc3] EW U rd ⟨ob3,oc3,congrArg (fun r:(List Int)=>(.slice ob3 r.length oc3:Value)) hs5.symm,(by rw [hs5];exact sl3)⟩
    ·refine bK (cells:=[I fX]) cN ty3 zc3 U U kr (fun b3=>⟨jn,(tn 4 U ?_)⟩)
     refine db Rp.fp ([(b3,O [I fX] 3)]) ([]) (fun G=>[(b3,O [I fX] 3)]++(G)) ap (fun _=>ap) cN ty3 zc3 U bytes3 (eb.lit (show bD Rp.int h [] ([]) from U) U) U U (ib sl1.1) lo lo (fun ob4 oc4 G4 gr4=>?_)
     refine ⟨jn,(tn 7 U (db Rp.fp ([(b3,O [I fX] 3)]) ([]) (fun G=>[(b3,O [I fX] 3)]++(G)) ap (fun _=>ap) cN ty3 zc3 U bytes3 gr4 U U (eI 0 U (show bD Rp.int h [I fX] ([fX]) from ⟨[I fX],[],U,U,U,U⟩)) lo lo (fun ob5 oc5 G5 gr5=>?_)))⟩
     refine ⟨jn,(tn 11 U (db Rp.fp ([(b3,O [I fX] 3)]) ([]) (fun G=>[(b3,O [I fX] 3)]++(G)) ap (fun _=>ap) cN ty3 zc3 U bytes3 gr5 U U (ib sl2.1) lo lo (fun ob6 oc6 G6 gr6=>?_)))⟩
     refine ⟨jn,(qA [12] U (bv kr ?_))⟩
     refine eY Rp.bi ([(b3,O [I fX] 3)]) G6 ([]) ap hM gr6 (fun h2 hle2 sl4=>?_)
     have hs6:dP l fX=(((l.take ((((i1:Nat):Int):Int)).toNat)++[fX])++(l.drop ((((i1:Nat):Int):Int)).toNat)):=hs3
     exact cJ [.slice ob6 ((((l.take ((((i1:Nat):Int):Int)).toNat)++[fX])++(l.drop ((((i1:Nat):Int):Int)).toNat)).length) oc6] EW U rd ⟨ob6,oc6,congrArg (fun r:(List Int)=>(.slice ob6 r.length oc6:Value)) hs6.symm,(by rw [hs6];exact sl4)⟩
   ·refine bK (cells:=[I fX]) cN ty3 zc3 U U kr (fun b4=>⟨jn,(tn 0 U ?_)⟩)
    refine pL cN ty3 (fun b5=>⟨jn,(tn 4 U (db Rp.fp ([]) ([(b4,O [I fX] 3)]) (fun G=>[(b4,O [I fX] 3)]++(G)) ap (fun _=>ap) cN ty3 zc3 U bytes3 (eb.lit (show bD Rp.int h [] ([]) from U) U) U U (ib sl1.1) lo lo (fun ob7 oc7 G7 gr7=>?_)))⟩)
    refine ⟨jn,(tn 7 U (db Rp.fp ([(b4,O [I fX] 3)]) ([]) (fun G=>[(b4,O [I fX] 3)]++(G)) ap (fun _=>ap) cN ty3 zc3 U bytes3 gr7 U U (eI 0 U (show bD Rp.int h [I fX] ([fX]) from ⟨[I fX],[],U,U,U,U⟩)) lo lo (fun ob8 oc8 G8 gr8=>?_)))⟩
    refine ⟨jn,(tn 11 U (db Rp.fp ([(b4,O [I fX] 3)]) ([]) (fun G=>[(b4,O [I fX] 3)]++(G)) ap (fun _=>ap) cN ty3 zc3 U bytes3 gr8 U U (ib sl2.1) lo lo (fun ob9 oc9 G9 gr9=>?_)))⟩
    refine ⟨jn,(qA [12] U (bv kr ?_))⟩
    refine eY Rp.bi ([(b4,O [I fX] 3)]) G9 ([]) ap hM gr9 (fun h3 hle3 sl5=>?_)
    have hs7:dP l fX=(((l.take ((((i1:Nat):Int):Int)).toNat)++[fX])++(l.drop ((((i1:Nat):Int):Int)).toNat)):=hs3
    exact cJ [.slice ob9 ((((l.take ((((i1:Nat):Int):Int)).toNat)++[fX])++(l.drop ((((i1:Nat):Int):Int)).toNat)).length) oc9] EW U rd ⟨ob9,oc9,congrArg (fun r:(List Int)=>(.slice ob9 r.length oc9:Value)) hs7.symm,(by rw [hs7];exact sl5)⟩
 ·refine bG (ι:=Nat×List Int) (fun i=>[(0,.slice eD l.length eC),(1,I fX),(5,I ((i.1:Nat):Int))]) (fun i=>h) (fun i=>[]) (fun i=>l.drop i.1=i.2∧i.1≤l.length∧dP l fX=((dP.L1 fX (dP.K1 l fX)) i.2 i.1)) (fun i=>i.2.length) (0,l) rd sw ⟨U,Nat.zero_le _,hs0⟩ ?_
  rintro ⟨i1,s1⟩ ⟨hd1,aP,hs8⟩ ag1 e
  try dsimp only at hd1 aP
  rcases s1 with _ | ⟨y1,rz1⟩
  ·have dr:=cw hd1
   refine qT 5 U (a8 cN U (ai (v':=.bool false) U (cb dr) (qO 11 U ?_)))
   exact hx1 i1 _ ⟨aP,hs8⟩ rd
  ·have dq:=dy hd1
   have aM:=cA hd1
   have ey:=aE hd1
   have gi:=hl.1.1
   refine qT 5 U (a8 cN U (ai (v':=.bool true) U (cb dq) (qO 3 U (aN (eU (enc:=fun y=>[I y]) (fun _ _ _ e=>e) cN ty3 hl.1 (nthZ aM) (aV aM) U U U (fun q4 A4=>?_))))))
   refine dv ty3 A4 U (qO 4 U ?_)
   refine ak hs8 U (fun c4 hs10=>?_) (fun c4 hs11=>?_)
   ·have c4p:=of_decide_eq_true c4
    refine qT 4 U (ai (v':=I (((i1+1):Nat):Int)) U (bz ob) (qO 3 U ?_))
    exact ag1 ((i1+1),rz1) _ (Nat.lt_succ_self _) ⟨ba hd1,aE hd1,hs10⟩ rd
   ·have c4p:=of_decide_eq_false c4
    refine m6 U ?_
    exact hx1 i1 _ ⟨aP,hs11⟩ rd
theorem zy (h:HF) (aR:Register) (cu:eB) (d:Document) (uv:il) (person:Int) (aZ:Int) (known:Int) (ia:Register.ok h aR cu) (hd:Document.ok h d uv) (hsm:smR aR) (hov:okV aR.Versions):je Tryz.prog 36 [.agg (Register.cells aR cu).toArray,.agg (Document.cells d uv).toArray,I person,I aZ,I known] h (fun v h'=>∃ (rb0:Option Addr) (rc0:Nat),v=.slice rb0 (bI aR d person aZ known).length rc0∧SlC Rp.int h' rb0 rc0 (bI aR d person aZ known)):=by
 refine ae Tryz.func36 U Tryz.ntmps36 U fun X hM hX=>?_
 have hs0:bI aR d person aZ known=bI aR d person aZ known:=rfl
 have hJl:=CJ aR.Versions d.At aZ known
 have hov1:=hov.1
 refine sr (dt (fun b1=>dt (fun b2=>qO 4 U (aN (pL cN ty3 (fun b3=>qO 6 U (aj nf U (aI 1 ty3 U U U (qO 2 U ?_)))))))))
 refine ak hs0 U (fun c1 hs1=>?_) (fun c1 hs2=>?_)
 ·have c1p:=of_decide_eq_true c1
  refine qT 5 U ?_
  refine e6 0 U hM (fun h1 hle1 hb1=>?_)
  have sl1:SlC Rp.int h1 (some ⟨b3,0,none⟩) 0 ([]):=bD.slB0 (T:=3) (fz:=(0,0)) ((show bD Rp.int h [] ([]) from rfl).mono Rp.bi hle1) hb1
  have hs3:bI aR d person aZ known=[]:=hs1
  exact cJ [.slice (some ⟨b3,0,none⟩) 0 0] Tryz.func36 U rd ⟨(some ⟨b3,0,none⟩),0,congrArg (fun r:(List Int)=>(.slice (some ⟨b3,0,none⟩) r.length 0:Value)) hs3.symm,(by rw [hs3];exact sl1)⟩
 ·have c1p:=of_decide_eq_false c1
  refine qT 3 U (aj lV U (aI 2 ty26 U U U (aj nf U (aI 1 ty3 U U U (qO 2 U (aN (cy Tryz.call75 (wY h aR.Versions cu.ig cu.ie d.At aZ known ia.Versions hsm.vers) U (fun v1 h2 hle2 hp1=>?_))))))))
  obtain ⟨rb1,rc1,rfl,sl2⟩:=hp1
  refine qO 13 U ?_
  refine e6 0 U hM (fun h8 hle8 hb2=>?_)
  have sl7:SlC Rp.int h8 (some ⟨b3,0,none⟩) 0 ([]):=bD.slB0 (T:=3) (fz:=(0,0)) ((show bD Rp.int h2 [] ([]) from rfl).mono Rp.bi hle8) hb2
  let z1:Nat×Obj:=(b1,O (Register.cells aR cu) 30)
  let z2:Nat×Obj:=(b2,O (Document.cells d uv) 52)
  refine aU (ι:=Nat×(List Int)×Option Addr×Nat×HF) (fun i=>[(11,.slice i.2.2.1 i.2.1.length i.2.2.2.1)]) (fun i=>i.2.2.2.2) (fun i=>[z2,z1]) (fun i=>i.1≤((dQ aR.Versions d.At aZ known).1).length∧bI aR d person aZ known=((bI.K1) i.2.1)∧SlC Rp.int i.2.2.2.2 i.2.2.1 i.2.2.2.1 i.2.1∧i.2.1.length≤2048 * i.1∧HF.le h8 i.2.2.2.2) ?_ (fun hx1=>?_)
  ·rintro ⟨i1,fO,mG,mF,hh1⟩ ⟨aP,hs4,mf,uq,hl1⟩ e
   try dsimp only at aP mf uq hl1
   refine qT 5 U ?_
   have hs5:bI aR d person aZ known=fO:=hs4
   exact cJ [.slice mG fO.length mF] Tryz.func36 U rd ⟨mG,mF,congrArg (fun r:(List Int)=>(.slice mG r.length mF:Value)) hs5.symm,(by rw [hs5];exact mf)⟩
  ·refine bG (ι:=Nat×(List Int)×Option Addr×Nat×HF×List Int) (fun i=>[(2,I person),(3,I aZ),(4,I known),(5,Q b1),(11,.slice i.2.2.1 i.2.1.length i.2.2.2.1),(12,.slice rb1 (((dQ aR.Versions d.At aZ known).1).length) rc1),(15,I ((i.1:Nat):Int))]) (fun i=>i.2.2.2.2.1) (fun i=>[z2,z1]) (fun i=>((dQ aR.Versions d.At aZ known).1).drop i.1=i.2.2.2.2.2∧i.1≤((dQ aR.Versions d.At aZ known).1).length∧bI aR d person aZ known=((bI.L1 aR person aZ known (bI.K1)) i.2.2.2.2.2 i.2.1)∧SlC Rp.int i.2.2.2.2.1 i.2.2.1 i.2.2.2.1 i.2.1∧i.2.1.length≤2048 * i.1∧HF.le h8 i.2.2.2.2.1) (fun i=>i.2.2.2.2.2.length) (0,[],(some ⟨b3,0,none⟩),0,h8,(dQ aR.Versions d.At aZ known).1) rd sw ⟨U,Nat.zero_le _,hs2,sl7,(by first | omega | (simp only [List.length_append,List.length_cons,List.length_nil];omega) | (skip;try dsimp only;omega)),(HF.le_refl h8)⟩ ?_
   rintro ⟨i1,fO,mG,mF,hh1,s1⟩ ⟨hd1,aP,hs6,mf,uq,hl1⟩ ag1 e
   try dsimp only at hd1 aP mf uq hl1
   rcases s1 with _ | ⟨y1,rz1⟩
   ·have dr:=cw hd1
    refine qT 5 U (a8 cN U (ai (v':=.bool false) U (cb dr) (qO 3 U ?_)))
    exact hx1 (i1,fO,mG,mF,hh1) _ ⟨aP,hs6,mf,(by first | omega | (simp only [List.length_append,List.length_cons,List.length_nil];omega) | (skip;try dsimp only;omega)),hl1⟩ rd
   ·have dq:=dy hd1
    have aM:=cA hd1
    have ey:=aE hd1
    have gi:=(sl2.mono Rp.bi hle8).1.1
    have hof:=xT hov y1
    refine qT 5 U (a8 cN U (ai (v':=.bool true) U (cb dq) (qO 6 U ?_)))
    refine fd ([z2,z1]) mixed kr jn (fun dU _=>?_)
    refine tf 0 U U (fun _ _ hj=>jT ty30 U (hj.nth (i:=1) U) U) (qA [1,2] U ?_)
    refine eJ 3 (enc:=fun y=>[I y]) dU jn (fun _ _ _ e=>e) cN ty3 (sl2.mono Rp.bi (hle8.t hl1)).1 (nthZ aM) (aV aM) U U U U kr (fun q8 A8=>tf 4 U U (fun _ _ hj=>fK ty3 (A8.mono hj.1) U) ?_)
    refine kh 5 7 kr U U ?_ ?_ 
    ·refine cy Tryz.call46 (pM hh1 aR cu y1 (ia.mono ((hle2.t hle8).t hl1))) U (fun v7 h9 hle9 hp7=>?_)
     obtain ⟨rr2,rfl,ok2⟩:=hp7
     refine ⟨⟨hle9,fun _ hp=>List.Sublist.subset (List.Sublist.refl _) hp⟩,mS (K2:=[z2,z1]) hle9 (fun _ hp=>hp) (tf 6 U U (fun _ _ _=>CH FK ty68 U U) ?_)⟩
     refine tn 7 U (Fs zc68 (fun b5=>⟨jn,?_⟩))
     refine tn 8 U (rS 0 ty68 U U U U U U (⟨jn,?_⟩))
     refine bv kr (qT 4 U ?_)
     let z3:Nat×Obj:=(b5,O (Policy.cells ((cZ aR y1).Policy) rr2.Policy) 68)
     refine aU (ι:=Nat×(List Int)×Option Addr×Nat×HF) (fun i=>[(2,I person),(3,I aZ),(4,I known),(5,Q b1),(11,.slice i.2.2.1 i.2.1.length i.2.2.2.1),(12,.slice rb1 (((dQ aR.Versions d.At aZ known).1).length) rc1),(15,I ((i1:Nat):Int))]) (fun i=>i.2.2.2.2) (fun i=>[z3,z2,z1]) (fun i=>i.1≤(((cZ aR y1).Policy).Offices).length∧bI aR d person aZ known=((fun zg5_11=>(bI.L1 aR person aZ known (bI.K1) rz1 zg5_11)) i.2.1)∧SlC Rp.int i.2.2.2.2 i.2.2.1 i.2.2.2.1 i.2.1∧i.2.1.length≤fO.length+64 * i.1∧HF.le h9 i.2.2.2.2) ?_ (fun hx5=>?_)
     ·rintro ⟨i5,np,qQ,qP,hh5⟩ ⟨jq,hs8,mW,ul,hl5⟩ e
      try dsimp only at jq mW ul hl5
      refine qT 3 U (ai (v':=I (((i1+1):Nat):Int)) U (bz ob) (an ?_))
      refine cG (L':=[z2,z1]) js ?_
      exact ag1 ((i1+1),np,qQ,qP,hh5,rz1) _ (Nat.lt_succ_self _) ⟨ba hd1,aE hd1,hs8,mW,(by first | omega | (simp only [List.length_append,List.length_cons,List.length_nil];omega) | (skip;try dsimp only;omega)),((hl1.t hle9).t hl5)⟩ rd
     ·refine bG (ι:=Nat×(List Int)×Option Addr×Nat×HF×List ByteArray) (fun i=>[(2,I person),(3,I aZ),(4,I known),(5,Q b1),(11,.slice i.2.2.1 i.2.1.length i.2.2.2.1),(12,.slice rb1 (((dQ aR.Versions d.At aZ known).1).length) rc1),(15,I ((i1:Nat):Int)),(16,Q b5),(17,I ((i.1:Nat):Int))]) (fun i=>i.2.2.2.2.1) (fun i=>[z3,z2,z1]) (fun i=>(((cZ aR y1).Policy).Offices).drop i.1=i.2.2.2.2.2∧i.1≤(((cZ aR y1).Policy).Offices).length∧bI aR d person aZ known=((bI.L5 aR person aZ known (fun zg5_11=>(bI.L1 aR person aZ known (bI.K1) rz1 zg5_11))) i.2.2.2.2.2 i.1 i.2.1)∧SlC Rp.int i.2.2.2.2.1 i.2.2.1 i.2.2.2.1 i.2.1∧i.2.1.length≤fO.length+64 * i.1∧HF.le h9 i.2.2.2.2.1) (fun i=>i.2.2.2.2.2.length) (0,fO,mG,mF,h9,((cZ aR y1).Policy).Offices) rd sw ⟨U,Nat.zero_le _,hs6,(mf.mono Rp.bi hle9),(by first | omega | (simp only [List.length_append,List.length_cons,List.length_nil];omega) | (skip;try dsimp only;omega)),(HF.le_refl h9)⟩ ?_
      rintro ⟨i5,np,qQ,qP,hh5,s5⟩ ⟨hd5,vX,hs9,mW,ul,hl5⟩ ag2 e
      try dsimp only at hd5 vX mW ul hl5
      rcases s5 with _ | ⟨y5,rz5⟩
      ·have EN:=cw hd5
       refine qT 4 U (aj iS U (aI 0 ty62 U U U (a8 kB U (ai (v':=.bool false) U (cb EN) (qO 3 U ?_)))))
       exact hx5 (i5,np,qQ,qP,hh5) _ ⟨vX,hs9,mW,(by first | omega | (simp only [List.length_append,List.length_cons,List.length_nil];omega) | (skip;try dsimp only;omega)),hl5⟩ rd
      ·have EM:=dy hd5
       have yE:=cA hd5
       have HK:=aE hd5
       have JM:=ok2.Policy.Offices.1.1
       have hHl:=uQ aR.Appoints ((i5:Nat):Int) aZ known
       refine qT 4 U (aj iS U (aI 0 ty62 U U U (a8 kB U (ai (v':=.bool true) U (cb EM) (qO 7 U (aj qZ U (aI 2 ty22 U U U (qO 3 U (aN (cy Tryz.call78 (pN hh5 aR.Appoints cu.iJ cu.iI ((i5:Nat):Int) aZ known (ia.Appoints.mono Appoint.aD ((((hle2.t hle8).t hl1).t hle9).t hl5))) U (fun v12 h14 hle14 hp12=>?_)))))))))))
       obtain ⟨rb10,rc10,rfl,sl12⟩:=hp12
       refine qO 10 U ?_
       refine aU (ι:=Nat×(List Int)×Option Addr×Nat×HF) (fun i=>[(2,I person),(3,I aZ),(4,I known),(5,Q b1),(11,.slice i.2.2.1 i.2.1.length i.2.2.2.1),(12,.slice rb1 (((dQ aR.Versions d.At aZ known).1).length) rc1),(15,I ((i1:Nat):Int)),(16,Q b5),(17,I ((i5:Nat):Int))]) (fun i=>i.2.2.2.2) (fun i=>[z3,z2,z1]) (fun i=>i.1≤((cD aR.Appoints ((i5:Nat):Int) aZ known).1).length∧bI aR d person aZ known=((fun zg7_11=>(bI.L5 aR person aZ known (fun zg5_11=>(bI.L1 aR person aZ known (bI.K1) rz1 zg5_11)) rz5 ((i5+1)) zg7_11)) i.2.1)∧SlC Rp.int i.2.2.2.2 i.2.2.1 i.2.2.2.1 i.2.1∧i.2.1.length≤np.length+i.1∧HF.le h14 i.2.2.2.2) ?_ (fun hx7=>?_)
       ·rintro ⟨i7,kA,oD,oC,hh7⟩ ⟨nU,hs11,me,uk,hl7⟩ e
        try dsimp only at nU me uk hl7
        refine qT 3 U (ai (v':=I (((i5+1):Nat):Int)) U (bz ob) (an ?_))
        exact ag2 ((i5+1),kA,oD,oC,hh7,rz5) _ (Nat.lt_succ_self _) ⟨ba hd5,aE hd5,hs11,me,(by first | omega | (simp only [List.length_append,List.length_cons,List.length_nil];omega) | (skip;try dsimp only;omega)),((hl5.t hle14).t hl7)⟩ rd
       ·refine bG (ι:=Nat×(List Int)×Option Addr×Nat×HF×List Holder) (fun i=>[(2,I person),(3,I aZ),(4,I known),(5,Q b1),(11,.slice i.2.2.1 i.2.1.length i.2.2.2.1),(12,.slice rb1 (((dQ aR.Versions d.At aZ known).1).length) rc1),(15,I ((i1:Nat):Int)),(16,Q b5),(17,I ((i5:Nat):Int)),(18,.slice rb10 (((cD aR.Appoints ((i5:Nat):Int) aZ known).1).length) rc10),(20,I ((i.1:Nat):Int))]) (fun i=>i.2.2.2.2.1) (fun i=>[z3,z2,z1]) (fun i=>((cD aR.Appoints ((i5:Nat):Int) aZ known).1).drop i.1=i.2.2.2.2.2∧i.1≤((cD aR.Appoints ((i5:Nat):Int) aZ known).1).length∧bI aR d person aZ known=((bI.L7 person (fun zg7_11=>(bI.L5 aR person aZ known (fun zg5_11=>(bI.L1 aR person aZ known (bI.K1) rz1 zg5_11)) rz5 ((i5+1)) zg7_11))) i.2.2.2.2.2 i.2.1)∧SlC Rp.int i.2.2.2.2.1 i.2.2.1 i.2.2.2.1 i.2.1∧i.2.1.length≤np.length+i.1∧HF.le h14 i.2.2.2.2.1) (fun i=>i.2.2.2.2.2.length) (0,np,qQ,qP,h14,(cD aR.Appoints ((i5:Nat):Int) aZ known).1) rd sw ⟨U,Nat.zero_le _,hs9,(mW.mono Rp.bi hle14),(by first | omega | (simp only [List.length_append,List.length_cons,List.length_nil];omega) | (have hq:=ij kA y7.Person;try dsimp only;omega)),(HF.le_refl h14)⟩ ?_
        rintro ⟨i7,kA,oD,oC,hh7,s7⟩ ⟨hd7,Dd,hs12,me,uk,hl7⟩ ag3 e
        try dsimp only at hd7 Dd me uk hl7
        rcases s7 with _ | ⟨y7,rz7⟩
        ·have HL:=cw hd7
         refine qT 5 U (a8 nh U (ai (v':=.bool false) U (cb HL) (qO 3 U ?_)))
         exact hx7 (i7,kA,oD,oC,hh7) _ ⟨Dd,hs12,me,(by first | omega | (simp only [List.length_append,List.length_cons,List.length_nil];omega) | (have hq:=ij kA y7.Person;try dsimp only;omega)),hl7⟩ rd
        ·have HJ:=dy hd7
         have rl:=cA hd7
         have Jh:=aE hd7
         have Kb:=sl12.1.1
         refine qT 5 U (a8 nh U (ai (v':=.bool true) U (cb HJ) (qO 9 U (aN (eU (enc:=Holder.cells) (fun _ _ _ e=>e) nh ty133 (sl12.mono Holder.aD hl7).1 (nthZ rl) (aV rl) U U U (fun q17 A17=>?_))))))
         refine aj oK U (dv ty3 A17 U (qO 3 U ?_))
         refine ak hs12 U (fun c16 hs14=>?_) (fun c16 hs15=>?_)
         ·refine qT 4 U (aN (eU (enc:=Holder.cells) (fun _ _ _ e=>e) nh ty133 (sl12.mono Holder.aD hl7).1 (nthZ rl) (aV rl) U U U (fun q18 A18=>aj oK U (dv ty3 A18 U (aN (cy Tryz.call43 (rf hh7 kA oD oC y7.Person me ob) U (fun v14 h16 hle16 hp14=>?_)))))))
          obtain ⟨rb12,rc12,rfl,sl14⟩:=hp14
          refine qO 5 U (ai (v':=I (((i7+1):Nat):Int)) U (bz ob) (an ?_))
          exact ag3 ((i7+1),(dP kA y7.Person),rb12,rc12,h16,rz7) _ (Nat.lt_succ_self _) ⟨ba hd7,aE hd7,hs14,sl14,(by first | omega | (simp only [List.length_append,List.length_cons,List.length_nil];omega) | (have hq:=ij kA y7.Person;try dsimp only;omega)),(hl7.t hle16)⟩ rd
         ·refine qT 4 U (ai (v':=I (((i7+1):Nat):Int)) U (bz ob) (an ?_))
          exact ag3 ((i7+1),kA,oD,oC,hh7,rz7) _ (Nat.lt_succ_self _) ⟨ba hd7,aE hd7,hs15,me,(by first | omega | (simp only [List.length_append,List.length_cons,List.length_nil];omega) | (have hq:=ij kA y7.Person;try dsimp only;omega)),hl7⟩ rd
    ·refine Fs zc68 (fun b6=>⟨jn,?_⟩)
     refine tn 5 U (cy Tryz.call46 (pM hh1 aR cu y1 (ia.mono ((hle2.t hle8).t hl1))) U (fun v15 h17 hle17 hp15=>?_))
     obtain ⟨rr3,rfl,ok3⟩:=hp15
     refine ⟨jl hle17,tu hle17 ?_⟩
     refine tf 6 U U (fun _ _ _=>CH FK ty68 U U) (tn 8 U (rS 0 ty68 U U U U U U (⟨jn,?_⟩)))
     refine bv kr (qT 4 U ?_)
     let z4:Nat×Obj:=(b6,O (Policy.cells ((cZ aR y1).Policy) rr3.Policy) 68)
     refine aU (ι:=Nat×(List Int)×Option Addr×Nat×HF) (fun i=>[(2,I person),(3,I aZ),(4,I known),(5,Q b1),(11,.slice i.2.2.1 i.2.1.length i.2.2.2.1),(12,.slice rb1 (((dQ aR.Versions d.At aZ known).1).length) rc1),(15,I ((i1:Nat):Int))]) (fun i=>i.2.2.2.2) (fun i=>[z4,z2,z1]) (fun i=>i.1≤(((cZ aR y1).Policy).Offices).length∧bI aR d person aZ known=((fun zg5_11=>(bI.L1 aR person aZ known (bI.K1) rz1 zg5_11)) i.2.1)∧SlC Rp.int i.2.2.2.2 i.2.2.1 i.2.2.2.1 i.2.1∧i.2.1.length≤fO.length+64 * i.1∧HF.le h17 i.2.2.2.2) ?_ (fun hx5=>?_)
     ·rintro ⟨i5,np,qQ,qP,hh5⟩ ⟨De,hs16,mW,ul,hl5⟩ e
      try dsimp only at De mW ul hl5
      refine qT 3 U (ai (v':=I (((i1+1):Nat):Int)) U (bz ob) (an ?_))
      refine cG (L':=[z2,z1]) js ?_
      exact ag1 ((i1+1),np,qQ,qP,hh5,rz1) _ (Nat.lt_succ_self _) ⟨ba hd1,aE hd1,hs16,mW,(by first | omega | (simp only [List.length_append,List.length_cons,List.length_nil];omega) | (skip;try dsimp only;omega)),((hl1.t hle17).t hl5)⟩ rd
     ·refine bG (ι:=Nat×(List Int)×Option Addr×Nat×HF×List ByteArray) (fun i=>[(2,I person),(3,I aZ),(4,I known),(5,Q b1),(11,.slice i.2.2.1 i.2.1.length i.2.2.2.1),(12,.slice rb1 (((dQ aR.Versions d.At aZ known).1).length) rc1),(15,I ((i1:Nat):Int)),(16,Q b6),(17,I ((i.1:Nat):Int))]) (fun i=>i.2.2.2.2.1) (fun i=>[z4,z2,z1]) (fun i=>(((cZ aR y1).Policy).Offices).drop i.1=i.2.2.2.2.2∧i.1≤(((cZ aR y1).Policy).Offices).length∧bI aR d person aZ known=((bI.L5 aR person aZ known (fun zg5_11=>(bI.L1 aR person aZ known (bI.K1) rz1 zg5_11))) i.2.2.2.2.2 i.1 i.2.1)∧SlC Rp.int i.2.2.2.2.1 i.2.2.1 i.2.2.2.1 i.2.1∧i.2.1.length≤fO.length+64 * i.1∧HF.le h17 i.2.2.2.2.1) (fun i=>i.2.2.2.2.2.length) (0,fO,mG,mF,h17,((cZ aR y1).Policy).Offices) rd sw ⟨U,Nat.zero_le _,hs6,(mf.mono Rp.bi hle17),(by first | omega | (simp only [List.length_append,List.length_cons,List.length_nil];omega) | (skip;try dsimp only;omega)),(HF.le_refl h17)⟩ ?_
      rintro ⟨i5,np,qQ,qP,hh5,s5⟩ ⟨hd5,vX,hs17,mW,ul,hl5⟩ ag4 e
      try dsimp only at hd5 vX mW ul hl5
      rcases s5 with _ | ⟨y5,rz5⟩
      ·have EN:=cw hd5
       refine qT 4 U (aj iS U (aI 0 ty62 U U U (a8 kB U (ai (v':=.bool false) U (cb EN) (qO 3 U ?_)))))
       exact hx5 (i5,np,qQ,qP,hh5) _ ⟨vX,hs17,mW,(by first | omega | (simp only [List.length_append,List.length_cons,List.length_nil];omega) | (skip;try dsimp only;omega)),hl5⟩ rd
      ·have EM:=dy hd5
       have yE:=cA hd5
       have HK:=aE hd5
       have JM:=ok3.Policy.Offices.1.1
       have hHl:=uQ aR.Appoints ((i5:Nat):Int) aZ known
       refine qT 4 U (aj iS U (aI 0 ty62 U U U (a8 kB U (ai (v':=.bool true) U (cb EM) (qO 7 U (aj qZ U (aI 2 ty22 U U U (qO 3 U (aN (cy Tryz.call78 (pN hh5 aR.Appoints cu.iJ cu.iI ((i5:Nat):Int) aZ known (ia.Appoints.mono Appoint.aD ((((hle2.t hle8).t hl1).t hle17).t hl5))) U (fun v20 h22 hle22 hp20=>?_)))))))))))
       obtain ⟨rb17,rc17,rfl,sl19⟩:=hp20
       refine qO 10 U ?_
       refine aU (ι:=Nat×(List Int)×Option Addr×Nat×HF) (fun i=>[(2,I person),(3,I aZ),(4,I known),(5,Q b1),(11,.slice i.2.2.1 i.2.1.length i.2.2.2.1),(12,.slice rb1 (((dQ aR.Versions d.At aZ known).1).length) rc1),(15,I ((i1:Nat):Int)),(16,Q b6),(17,I ((i5:Nat):Int))]) (fun i=>i.2.2.2.2) (fun i=>[z4,z2,z1]) (fun i=>i.1≤((cD aR.Appoints ((i5:Nat):Int) aZ known).1).length∧bI aR d person aZ known=((fun zg7_11=>(bI.L5 aR person aZ known (fun zg5_11=>(bI.L1 aR person aZ known (bI.K1) rz1 zg5_11)) rz5 ((i5+1)) zg7_11)) i.2.1)∧SlC Rp.int i.2.2.2.2 i.2.2.1 i.2.2.2.1 i.2.1∧i.2.1.length≤np.length+i.1∧HF.le h22 i.2.2.2.2) ?_ (fun hx7=>?_)
       ·rintro ⟨i7,kA,oD,oC,hh7⟩ ⟨vX,hs19,me,uk,hl7⟩ e
        try dsimp only at vX me uk hl7
        refine qT 3 U (ai (v':=I (((i5+1):Nat):Int)) U (bz ob) (an ?_))
        exact ag4 ((i5+1),kA,oD,oC,hh7,rz5) _ (Nat.lt_succ_self _) ⟨ba hd5,aE hd5,hs19,me,(by first | omega | (simp only [List.length_append,List.length_cons,List.length_nil];omega) | (skip;try dsimp only;omega)),((hl5.t hle22).t hl7)⟩ rd
       ·refine bG (ι:=Nat×(List Int)×Option Addr×Nat×HF×List Holder) (fun i=>[(2,I person),(3,I aZ),(4,I known),(5,Q b1),(11,.slice i.2.2.1 i.2.1.length i.2.2.2.1),(12,.slice rb1 (((dQ aR.Versions d.At aZ known).1).length) rc1),(15,I ((i1:Nat):Int)),(16,Q b6),(17,I ((i5:Nat):Int)),(18,.slice rb17 (((cD aR.Appoints ((i5:Nat):Int) aZ known).1).length) rc17),(20,I ((i.1:Nat):Int))]) (fun i=>i.2.2.2.2.1) (fun i=>[z4,z2,z1]) (fun i=>((cD aR.Appoints ((i5:Nat):Int) aZ known).1).drop i.1=i.2.2.2.2.2∧i.1≤((cD aR.Appoints ((i5:Nat):Int) aZ known).1).length∧bI aR d person aZ known=((bI.L7 person (fun zg7_11=>(bI.L5 aR person aZ known (fun zg5_11=>(bI.L1 aR person aZ known (bI.K1) rz1 zg5_11)) rz5 ((i5+1)) zg7_11))) i.2.2.2.2.2 i.2.1)∧SlC Rp.int i.2.2.2.2.1 i.2.2.1 i.2.2.2.1 i.2.1∧i.2.1.length≤np.length+i.1∧HF.le h22 i.2.2.2.2.1) (fun i=>i.2.2.2.2.2.length) (0,np,qQ,qP,h22,(cD aR.Appoints ((i5:Nat):Int) aZ known).1) rd sw ⟨U,Nat.zero_le _,hs17,(mW.mono Rp.bi hle22),(by first | omega | (simp only [List.length_append,List.length_cons,List.length_nil];omega) | (have hq:=ij kA y7.Person;try dsimp only;omega)),(HF.le_refl h22)⟩ ?_
        rintro ⟨i7,kA,oD,oC,hh7,s7⟩ ⟨hd7,Dd,hs20,me,uk,hl7⟩ ag5 e
        try dsimp only at hd7 Dd me uk hl7
        rcases s7 with _ | ⟨y7,rz7⟩
        ·have HL:=cw hd7
         refine qT 5 U (a8 nh U (ai (v':=.bool false) U (cb HL) (qO 3 U ?_)))
         exact hx7 (i7,kA,oD,oC,hh7) _ ⟨Dd,hs20,me,(by first | omega | (simp only [List.length_append,List.length_cons,List.length_nil];omega) | (have hq:=ij kA y7.Person;try dsimp only;omega)),hl7⟩ rd
        ·have HJ:=dy hd7
         have rl:=cA hd7
         have Jh:=aE hd7
         have Kb:=sl19.1.1
         refine qT 5 U (a8 nh U (ai (v':=.bool true) U (cb HJ) (qO 9 U (aN (eU (enc:=Holder.cells) (fun _ _ _ e=>e) nh ty133 (sl19.mono Holder.aD hl7).1 (nthZ rl) (aV rl) U U U (fun q27 A27=>?_))))))
         refine aj oK U (dv ty3 A27 U (qO 3 U ?_))
         refine ak hs20 U (fun c24 hs22=>?_) (fun c24 hs23=>?_)
         ·refine qT 4 U (aN (eU (enc:=Holder.cells) (fun _ _ _ e=>e) nh ty133 (sl19.mono Holder.aD hl7).1 (nthZ rl) (aV rl) U U U (fun q28 A28=>aj oK U (dv ty3 A28 U (aN (cy Tryz.call43 (rf hh7 kA oD oC y7.Person me ob) U (fun v22 h24 hle24 hp22=>?_)))))))
          obtain ⟨rb19,rc19,rfl,sl21⟩:=hp22
          refine qO 5 U (ai (v':=I (((i7+1):Nat):Int)) U (bz ob) (an ?_))
          exact ag5 ((i7+1),(dP kA y7.Person),rb19,rc19,h24,rz7) _ (Nat.lt_succ_self _) ⟨ba hd7,aE hd7,hs22,sl21,(by first | omega | (simp only [List.length_append,List.length_cons,List.length_nil];omega) | (have hq:=ij kA y7.Person;try dsimp only;omega)),(hl7.t hle24)⟩ rd
         ·refine qT 4 U (ai (v':=I (((i7+1):Nat):Int)) U (bz ob) (an ?_))
          exact ag5 ((i7+1),kA,oD,oC,hh7,rz7) _ (Nat.lt_succ_self _) ⟨ba hd7,aE hd7,hs23,me,(by first | omega | (simp only [List.length_append,List.length_cons,List.length_nil];omega) | (have hq:=ij kA y7.Person;try dsimp only;omega)),hl7⟩ rd
theorem vG (h:HF) (aR:Register) (cu:eB) (doc:Int) (person:Int) (aZ:Int) (known:Int) (ia:Register.ok h aR cu) (hsm:smR aR):Ret Tryz.prog 13 [.agg (Register.cells aR cu).toArray,I doc,I person,I aZ,I known] h (.bool (jY aR doc person aZ known)):=by
 refine ae Tryz.func13 U Tryz.ntmps13 U fun X hM hX=>?_
 have hs0:jY aR doc person aZ known=jY aR doc person aZ known:=rfl
 refine sr (dt (fun b1=>qO 5 U (dl 0 ty30 U U U (au (v:=I (fZ aR)) Tryz.call31 (rY h aR cu ia ob) U (qO 2 U ?_)))))
 refine ar 5 [15,16,17,18,19,20] 20 (.bool (((fZ aR) != 0)||decide ((ce aR doc) < 0))) (fun hk1=>?_) (fun e=>?_)
 ·refine ac 15 U (fun c1=>?_) (fun c1=>?_)
  ·refine qO 5 U ?_
   exact hk1 _ (cb (dW c1))
  ·refine dl 0 ty30 U U U (aB (au (v:=I (ce aR doc)) Tryz.call19 (qE h aR cu doc ia) U (qO 2 U ?_)))
   exact hk1 _ (cb (dX c1))
 refine aB ?_
 refine ar 4 [21,22,23,24,25] 25 (.bool ((((fZ aR) != 0)||decide ((ce aR doc) < 0))||(!(cp aZ)))) (fun hk2=>?_) (fun e=>?_)
 ·refine ac 21 U (fun c2=>?_) (fun c2=>?_)
  ·refine qO 4 U ?_
   exact hk2 _ (cb (dW c2))
  ·refine aB (au (v:=.bool (cp aZ)) uC (ip h aZ ) U (qO 2 U ?_))
   exact hk2 _ (cb (dX c2))
 refine aB ?_
 refine ar 4 [26,27,28,29,30] 30 (.bool (((((fZ aR) != 0)||decide ((ce aR doc) < 0))||(!(cp aZ)))||(!(cp known)))) (fun hk3=>?_) (fun e=>?_)
 ·refine ac 26 U (fun c3=>?_) (fun c3=>?_)
  ·refine qO 4 U ?_
   exact hk3 _ (cb (dW c3))
  ·refine aB (au (v:=.bool (cp known)) uC (ip h known ) U (qO 2 U ?_))
   exact hk3 _ (cb (dX c3))
 refine bh ?_
 refine ak hs0 U (fun c4 hs1=>?_) (fun c4 hs2=>?_)
 ·refine qT 4 U ?_
  exact ah [.bool true] Tryz.func13 U hX rd (cs hs1)
 ·refine qT 2 U ?_
  refine fd ([(b1,O (Register.cells aR cu) 30)]) mixed kr jn (fun dU _=>?_)
  refine tf 0 U U (fun _ _ hj=>jT ty30 U (hj.nth (i:=0) U) U) (tf 1 U U (fun _ _ _=>dx la U) (tf 2 U U (fun _ _ hj=>gH ty27 U (hj.nth (i:=0) U) U) ?_))
  refine tf 3 U U (fun _ _ hj=>jT ty30 U (hj.nth (i:=0) U) U) (qA [4,8,9,10] U (tn 5 U (fB (v:=I (ce aR doc)) Tryz.call19 (qE h aR cu doc ia) U ?_)))
  refine ⟨jn,?_⟩
  have ho1:0≤((ce aR doc):Int)∧((ce aR doc):Int) < ((aR.Docs).length:Int):=(by have hq:=Fv (r:=aR) (no:=doc) ob;simp only [decide_eq_true_eq,decide_eq_false_iff_not,Bool.and_eq_true,Bool.or_eq_true,Bool.not_eq_true',Bool.not_eq_false',Bool.and_eq_false_iff,Bool.or_eq_false_iff,beq_iff_eq,beq_eq_false_iff_ne,bne_iff_ne,bne_eq_false_iff_eq,List.length_append,List.length_cons,List.length_nil,List.length_drop] at *;omega)
  refine io 6 dU jn lC ty52 ia.Docs.1 ho1 (df ho1) U U U U kr (fun q1 cs1 A1 ln1 rr1=>?_)
  obtain ⟨r1,rfl,ok1⟩:=rr1
  refine tf 7 U U (fun _ _ hj=>jK ty52 (A1.mono hj.1) U U) (tn 11 U (cy Tryz.call36 (zy h aR cu (nthI aR.Docs (ce aR doc)) r1 person aZ known ia ok1 ob (by have hq:fZ aR=0:=ob;exact ((nz _).1 (wR hsm.vers (wQ hq).2.2.2.2.1)).okV)) U (fun v1 h1 hle1 hp1=>?_)))
  obtain ⟨rb1,rc1,rfl,sl1⟩:=hp1
  refine ⟨⟨hle1,fun _ hp=>List.Sublist.subset (List.Sublist.refl _) hp⟩,mS (K2:=[(b1,O (Register.cells aR cu) 30)]) hle1 (fun _ hp=>hp) (tf 12 U U (fun _ _ _=>Fu cN U) (qA [13] U (bv kr (qT 5 U ?_))))⟩
  refine ar 3 [46,47,48,49] 49 (.bool (decide ((((bI aR (nthI aR.Docs (ce aR doc)) person aZ known).length:Nat):Int)≤7)||decide (12 < (((bI aR (nthI aR.Docs (ce aR doc)) person aZ known).length:Nat):Int)))) (fun hk4=>?_) (fun e=>?_)
  ·refine ac 46 U (fun c5=>?_) (fun c5=>?_)
   ·refine qO 3 U ?_
    exact hk4 _ (cb (dW c5))
   ·refine qO 3 U ?_
    exact hk4 _ (cb (dX c5))
  refine an ?_
  exact ah [.bool (decide ((((bI aR (nthI aR.Docs (ce aR doc)) person aZ known).length:Nat):Int)≤7)||decide (12 < (((bI aR (nthI aR.Docs (ce aR doc)) person aZ known).length:Nat):Int)))] Tryz.func13 U hX rd (cs hs2)
theorem yx (h:HF) (aR:Register) (cu:eB) (doc:Int) (who:(List Int)) (fo:Option Addr) (fm:Nat) (l:(List Int)) (eD:Option Addr) (eC:Nat) (ia:Register.ok h aR cu) (hwho:SlC Rp.int h fo fm who) (hl:SlC Rp.int h eD eC l) (hsm:smR aR):Ret Tryz.prog 17 [.agg (Register.cells aR cu).toArray,I doc,.slice fo who.length fm,.slice eD l.length eC] h (.bool (eS aR doc who l)):=by
 refine ae Tryz.func17 U Tryz.ntmps17 U fun X hM hX=>?_
 have hs0:eS aR doc who l=eS aR doc who l:=rfl
 refine sr (dt (fun b1=>qO 6 U (a8 cN U (qO 2 U ?_))))
 refine aU (ι:=Nat) (fun i=>[(1,I doc),(2,.slice fo who.length fm),(4,Q b1)]) (fun i=>h) (fun i=>[(b1,O (Register.cells aR cu) 30)]) (fun i=>i≤l.length∧eS aR doc who l=((eS.K1 aR doc who))) ?_ (fun hx1=>?_)
 ·rintro i1 ⟨aP,hs1⟩ e
  try dsimp only at aP
  refine sr (dl 0 ty30 U U U (au (v:=.bool (gN aR)) Tryz.call9 (Be h aR cu ia) U (aB ?_)))
  refine ar 4 [23,24,25,26,27] 27 (.bool ((gN aR)&&((fZ aR)==0))) (fun hk1=>?_) (fun e=>?_)
  ·refine ac 23 U (fun c2=>?_) (fun c2=>?_)
   ·refine dl 0 ty30 U U U (au (v:=I (fZ aR)) Tryz.call31 (rY h aR cu ia ob) U (qO 2 U ?_))
    exact hk1 _ (cb (cB c2))
   ·refine qO 4 U ?_
    exact hk1 _ (cb (cC c2))
  refine aB ?_
  refine ar 5 [28,29,30,31,32,33] 33 (.bool (((gN aR)&&((fZ aR)==0))&&decide (0≤(ce aR doc)))) (fun hk2=>?_) (fun e=>?_)
  ·refine ac 28 U (fun c3=>?_) (fun c3=>?_)
   ·refine dl 0 ty30 U U U (aB (au (v:=I (ce aR doc)) Tryz.call19 (qE h aR cu doc ia) U (qO 2 U ?_)))
    exact hk2 _ (cb (cB c3))
   ·refine qO 5 U ?_
    exact hk2 _ (cb (cC c3))
  refine aB ?_
  refine ar 3 [34,35,36,37] 37 (.bool ((((gN aR)&&((fZ aR)==0))&&decide (0≤(ce aR doc)))&&(eL who))) (fun hk3=>?_) (fun e=>?_)
  ·refine ac 34 U (fun c4=>?_) (fun c4=>?_)
   ·refine aB (au (v:=.bool (eL who)) Tryz.call32 (wZ h who fo fm hwho) U (eH U ?_))
    exact hk3 _ (cb (cB c4))
   ·refine qO 3 U ?_
    exact hk3 _ (cb (cC c4))
  refine an ?_
  exact ah [.bool ((((gN aR)&&((fZ aR)==0))&&decide (0≤(ce aR doc)))&&(eL who))] Tryz.func17 U hX rd (cs hs1)
 ·refine bG (ι:=Nat×List Int) (fun i=>[(1,I doc),(2,.slice fo who.length fm),(4,Q b1),(11,.slice eD l.length eC),(12,I ((l.length:Nat):Int)),(13,I ((i.1:Nat):Int))]) (fun i=>h) (fun i=>[(b1,O (Register.cells aR cu) 30)]) (fun i=>l.drop i.1=i.2∧i.1≤l.length∧eS aR doc who l=((eS.L1 (eS.K1 aR doc who)) i.2 )) (fun i=>i.2.length) (0,l) rd sw ⟨U,Nat.zero_le _,hs0⟩ ?_
  rintro ⟨i1,s1⟩ ⟨hd1,aP,hs3⟩ ag1 e
  try dsimp only at hd1 aP
  rcases s1 with _ | ⟨y1,rz1⟩
  ·have dr:=cw hd1
   refine sr (ai (v':=.bool false) U (cb dr) (qO 4 U ?_))
   exact hx1 i1 _ ⟨aP,hs3⟩ rd
  ·have dq:=dy hd1
   have aM:=cA hd1
   have ey:=aE hd1
   have gi:=hl.1.1
   refine sr (ai (v':=.bool true) U (cb dq) (qO 8 U (aN (eU (enc:=fun y=>[I y]) (fun _ _ _ e=>e) cN ty3 hl.1 (nthZ aM) (aV aM) U U U (fun q2 A2=>?_)))))
   refine dv ty3 A2 U (qO 5 U (au (v:=.bool (cp y1)) uC (ip h y1 ) U (qO 2 U ?_)))
   refine ak hs3 U (fun c5 hs5=>?_) (fun c5 hs6=>?_)
   ·refine qT 4 U ?_
    exact ah [.bool false] Tryz.func17 U hX rd (cs hs5)
   ·refine qT 3 U (ai (v':=I (((i1+1):Nat):Int)) U (bz ob) (qO 2 U ?_))
    exact ag1 ((i1+1),rz1) _ (Nat.lt_succ_self _) ⟨ba hd1,aE hd1,hs6⟩ rd
theorem mj (h:HF) (s:(List Span)) (qB:Option Addr) (pK:Nat) (t:Int) (hs:SlC Span.rp h qB pK s):Ret Tryz.prog 20 [.slice qB s.length pK,I t] h (.bool (dY s t)):=by
 refine ae Tryz.func20 U Tryz.ntmps20 U fun X hM hX=>?_
 have hs0:dY s t=dY s t:=rfl
 refine qT 8 U (a8 oe U (qO 2 U ?_))
 refine aU (ι:=Nat) (fun i=>[]) (fun i=>h) (fun i=>[]) (fun i=>i≤s.length∧dY s t=((dY.K1))) ?_ (fun hx1=>?_)
 ·rintro i1 ⟨aP,hs1⟩ e
  try dsimp only at aP
  refine qT 4 U ?_
  exact ah [.bool false] Tryz.func20 U hX rd (cs hs1)
 ·refine bG (ι:=Nat×List Span) (fun i=>[(1,I t),(7,.slice qB s.length pK),(8,I ((s.length:Nat):Int)),(9,I ((i.1:Nat):Int))]) (fun i=>h) (fun i=>[]) (fun i=>s.drop i.1=i.2∧i.1≤s.length∧dY s t=((dY.L1 t (dY.K1)) i.2 )) (fun i=>i.2.length) (0,s) rd sw ⟨U,Nat.zero_le _,hs0⟩ ?_
  rintro ⟨i1,s1⟩ ⟨hd1,aP,hs3⟩ ag1 e
  try dsimp only at hd1 aP
  rcases s1 with _ | ⟨y1,rz1⟩
  ·have dr:=cw hd1
   refine sr (ai (v':=.bool false) U (cb dr) (qO 4 U ?_))
   exact hx1 i1 _ ⟨aP,hs3⟩ trivial
  ·have dq:=dy hd1
   have aM:=cA hd1
   have ey:=aE hd1
   have gi:=hs.1.1
   refine sr (ai (v':=.bool true) U (cb dq) (qO 8 U (aN (eU (enc:=Span.cells) (fun _ _ _ e=>e) oe ty46 hs.1 (nthZ aM) (aV aM) U U U (fun q2 A2=>?_)))))
   refine el ty46 A2 U U (bR zc46 (fun b2=>bL 0 ty46 U U U U U U (qO 3 U (aj BJ U (aI 0 ty3 U U U (qO 3 U ?_))))))
   refine ar 5 [17,18,19,20,21,22] 22 (.bool (decide (y1.From≤t)&&decide (t < y1.Until))) (fun hk1=>?_) (fun e=>?_)
   ·refine ac 17 U (fun c1=>?_) (fun c1=>?_)
    ·refine aB (aj xx U (aI 0 ty3 U U U (qO 2 U ?_)))
     exact hk1 _ (cb (cB c1))
    ·refine qO 5 U ?_
     exact hk1 _ (cb (cC c1))
   refine bh ?_
   refine ak hs3 U (fun c2 hs5=>?_) (fun c2 hs6=>?_)
   ·refine qT 4 U ?_
    exact ah [.bool true] Tryz.func20 U hX rd (cs hs5)
   ·refine qT 3 U (ai (v':=I (((i1+1):Nat):Int)) U (bz ob) (qO 2 U ?_))
    refine cG (L':=[]) js ?_
    exact ag1 ((i1+1),rz1) _ (Nat.lt_succ_self _) ⟨ba hd1,aE hd1,hs6⟩ rd
open Go.Proofs
set_option maxHeartbeats 2000000
theorem nS (h:HF) (who:(List Int)) (fo:Option Addr) (fm:Nat) (fX:Int) (hwho:SlC Rp.int h fo fm who) (hsz0:who.length≤2000000):je Tryz.prog 21 [.slice fo who.length fm,I fX] h (fun v h'=>∃ (rb0:Option Addr) (rc0:Nat),v=.slice rb0 (bj who fX).length rc0∧SlC Rp.int h' rb0 rc0 (bj who fX)):=by
 refine ae Tryz.func21 U Tryz.ntmps21 U fun X hM hX=>?_
 have hs0:bj who fX=bj who fX:=rfl
 refine qT 8 U (a8 cN U (qO 2 U ?_))
 refine aU (ι:=Nat×(List Int)×Option Addr×Nat×LH) (fun i=>[(1,I fX),(4,.slice i.2.2.1 i.2.1.length i.2.2.2.1)]) (fun i=>h) (fun i=>i.2.2.2.2) (fun i=>i.1≤who.length∧bj who fX=((bj.K1 fX) i.2.1)∧eb Rp.int 3 h i.2.1 i.2.2.1 i.2.2.2.1 i.2.2.2.2∧i.2.1.length≤0+i.1) ?_ (fun hx1=>?_)
 ·rintro ⟨i1,ky,oI,oH,qg⟩ ⟨aP,hs1,lA,sJ⟩ e
  try dsimp only at aP lA sJ
  refine qT 4 U (aN (bK (cells:=[I fX]) cN ty3 zc3 U U kr (fun b4=>aN (db Rp.fp ([(b4,O [I fX] 3)]) ([]) (fun G=>[(b4,O [I fX] 3)]++(G)) ap (fun _=>ap) cN ty3 zc3 U bytes3 lA U U (eI 0 U (show bD Rp.int h [I fX] ([fX]) from ⟨[I fX],[],U,U,U,U⟩)) lo lo (fun ob5 oc5 G5 gr5=>(an ?_))))))
  refine eY Rp.bi ([(b4,O [I fX] 3)]) G5 ([]) ap hM gr5 (fun h3 hle3 sl4=>?_)
  have hs2:bj who fX=(ky++[fX]):=hs1
  exact cJ [.slice ob5 ((ky++[fX]).length) oc5] Tryz.func21 U rd ⟨ob5,oc5,congrArg (fun r:(List Int)=>(.slice ob5 r.length oc5:Value)) hs2.symm,(by rw [hs2];exact sl4)⟩
 ·refine bG (ι:=Nat×(List Int)×Option Addr×Nat×LH×List Int) (fun i=>[(0,.slice fo who.length fm),(1,I fX),(4,.slice i.2.2.1 i.2.1.length i.2.2.2.1),(7,.slice fo who.length fm),(8,I ((who.length:Nat):Int)),(9,I ((i.1:Nat):Int))]) (fun i=>h) (fun i=>i.2.2.2.2.1) (fun i=>who.drop i.1=i.2.2.2.2.2∧i.1≤who.length∧bj who fX=((bj.L1 who fX (bj.K1 fX)) i.2.2.2.2.2 i.1 i.2.1)∧eb Rp.int 3 h i.2.1 i.2.2.1 i.2.2.2.1 i.2.2.2.2.1∧i.2.1.length≤0+i.1) (fun i=>i.2.2.2.2.2.length) (0,[],none,0,[],who) rd sw ⟨U,Nat.zero_le _,hs0,eb.nil,lo⟩ ?_
  rintro ⟨i1,ky,oI,oH,qg,s1⟩ ⟨hd1,aP,hs3,lA,sJ⟩ ag1 e
  try dsimp only at hd1 aP lA sJ
  rcases s1 with _ | ⟨y1,rz1⟩
  ·have dr:=cw hd1
   refine sr (ai (v':=.bool false) U (cb dr) (qO 4 U ?_))
   exact hx1 (i1,ky,oI,oH,qg) _ ⟨aP,hs3,lA,lo⟩ rd
  ·have dq:=dy hd1
   have aM:=cA hd1
   have ey:=aE hd1
   have gi:=hwho.1.1
   refine sr (ai (v':=.bool true) U (cb dq) (qO 9 U (aN (eU (enc:=fun y=>[I y]) (fun _ _ _ e=>e) cN ty3 hwho.1 (nthZ aM) (aV aM) U U U (fun q2 A2=>?_)))))
   refine dv ty3 A2 U (qO 10 U ?_)
   refine ak hs3 U (fun c2 hs5=>?_) (fun c2 hs6=>?_)
   ·have c2p:=of_decide_eq_true c2
    refine em ?_
    refine fd ([]) mixed kr jn (fun dU _=>(qA [0,1,4,5] U (vC 6 dU jn cN ty3 hwho.1 hwho.2 ob U U U U kr (fun sb2 sc2 sl5=>?_))))
    refine tn 2 U (bK (cells:=[I fX]) cN ty3 zc3 U U kr (fun b5=>⟨jn,?_⟩))
    refine tn 3 U (db Rp.fp ([(b5,O [I fX] 3)]) ([]) (fun G=>[(b5,O [I fX] 3)]++(G)) ap (fun _=>ap) cN ty3 zc3 U bytes3 lA U U (eI 0 U (show bD Rp.int h [I fX] ([fX]) from ⟨[I fX],[],U,U,U,U⟩)) lo lo (fun ob6 oc6 G6 gr6=>?_))
    refine ⟨jn,(tn 7 U (db Rp.fp ([(b5,O [I fX] 3)]) ([]) (fun G=>[(b5,O [I fX] 3)]++(G)) ap (fun _=>ap) cN ty3 zc3 U bytes3 gr6 U U (ib sl5.1) lo lo (fun ob7 oc7 G7 gr7=>?_)))⟩
    refine ⟨jn,(qA [8] U (bv kr ?_))⟩
    refine eY Rp.bi ([(b5,O [I fX] 3)]) G7 ([]) ap hM gr7 (fun h4 hle4 sl6=>?_)
    have hs7:bj who fX=((ky++[fX])++(who.drop ((((i1:Nat):Int):Int)).toNat)):=hs5
    exact cJ [.slice ob7 (((ky++[fX])++(who.drop ((((i1:Nat):Int):Int)).toNat)).length) oc7] Tryz.func21 U rd ⟨ob7,oc7,congrArg (fun r:(List Int)=>(.slice ob7 r.length oc7:Value)) hs7.symm,(by rw [hs7];exact sl6)⟩
   ·have c2p:=of_decide_eq_false c2
    refine qT 4 U (aN (bK (cells:=[I y1]) cN ty3 zc3 U U kr (fun b6=>aN (db Rp.fp ([(b6,O [I y1] 3)]) ([]) (fun G=>[(b6,O [I y1] 3)]++(G)) ap (fun _=>ap) cN ty3 zc3 U bytes3 lA U U (eI 0 U (show bD Rp.int h [I y1] ([y1]) from ⟨[I y1],[],U,U,U,U⟩)) lo lo (fun ob8 oc8 G8 gr8=>(qO 4 U (ai (v':=I (((i1+1):Nat):Int)) U (bz ob) (qO 2 U ?_))))))))
    refine cG (L':=G8) js ?_
    exact ag1 ((i1+1),(ky++[y1]),ob8,oc8,G8,rz1) _ (Nat.lt_succ_self _) ⟨ba hd1,aE hd1,hs6,gr8,lo⟩ rd
theorem rk (h:HF) (a:(List Int)) (It:Option Addr) (Is:Nat) (fP:(List Int)) (sO:Option Addr) (sN:Nat) (ha:SlC Rp.int h It Is a) (qN:SlC Rp.int h sO sN fP):Ret Tryz.prog 22 [.slice It a.length Is,.slice sO fP.length sN] h (.bool (dT a fP)):=by
 refine ae DW U Tryz.ntmps22 U fun X hM hX=>?_
 have hs0:dT a fP=dT a fP:=rfl
 refine qT 8 U (a8 cN U (aB (a8 cN U (qO 2 U ?_))))
 refine ak hs0 U (fun c1 hs1=>?_) (fun c1 hs2=>?_)
 ·refine qT 3 U (a8 cN U (aB (a8 cN U (qO 3 U ?_))))
  exact ah [.bool (decide (((a.length:Nat):Int) < ((fP.length:Nat):Int)))] DW U hX rd (cs hs1)
 ·refine qT 5 U (a8 cN U (qO 2 U ?_))
  refine aU (ι:=Nat) (fun i=>[]) (fun i=>h) (fun i=>[]) (fun i=>i≤a.length∧dT a fP=((dT.K1))) ?_ (fun hx1=>?_)
  ·rintro i1 ⟨aP,hs4⟩ e
   try dsimp only at aP
   refine qT 4 U ?_
   exact ah [.bool false] DW U hX rd (cs hs4)
  ·refine bG (ι:=Nat×List Int) (fun i=>[(0,.slice It a.length Is),(1,.slice sO fP.length sN),(17,I ((a.length:Nat):Int)),(18,I ((i.1:Nat):Int))]) (fun i=>h) (fun i=>[]) (fun i=>a.drop i.1=i.2∧i.1≤a.length∧dT a fP=((dT.L1 fP (dT.K1)) i.2 i.1)) (fun i=>i.2.length) (0,a) rd sw ⟨U,Nat.zero_le _,hs2⟩ ?_
   rintro ⟨i1,s1⟩ ⟨hd1,aP,hs6⟩ ag1 e
   try dsimp only at hd1 aP
   rcases s1 with _ | ⟨y1,rz1⟩
   ·have dr:=cw hd1
    refine sr (ai (v':=.bool false) U (cb dr) (qO 4 U ?_))
    exact hx1 i1 _ ⟨aP,hs6⟩ trivial
   ·have dq:=dy hd1
    have aM:=cA hd1
    have ey:=aE hd1
    have gi:=ha.1.1
    refine sr (ai (v':=.bool true) U (cb dq) (qO 12 U ?_))
    refine fd ([]) mixed kr jn (fun dU _=>(qA [0,1] U (eJ 2 (enc:=fun y=>[I y]) dU jn (fun _ _ _ e=>e) cN ty3 ha.1 (nthZ aM) (aV aM) U U U U kr (fun q5 A5=>?_))))
    refine tf 3 U U (fun _ _ hj=>fK ty3 (A5.mono hj.1) U) (qA [4,5] U ?_)
    have ho3:0≤(((i1:Nat):Int):Int)∧(((i1:Nat):Int):Int) < ((fP).length:Int):=ob
    refine eJ 6 (enc:=fun y=>[I y]) dU jn (fun _ _ _ e=>e) cN ty3 qN.1 ho3 (df ho3) U U U U kr (fun q6 A6=>tf 7 U U (fun _ _ hj=>fK ty3 (A6.mono hj.1) U) (qA [8] U (bv kr ?_)))
    refine ak hs6 U (fun c3 hs8=>?_) (fun c3 hs9=>?_)
    ·refine em ?_
     refine fd ([]) mixed kr jn (fun sC _=>(qA [0,1] U (eJ 2 (enc:=fun y=>[I y]) sC jn (fun _ _ _ e=>e) cN ty3 ha.1 (nthZ aM) (aV aM) U U U U kr (fun q7 A7=>?_))))
     refine tf 3 U U (fun _ _ hj=>fK ty3 (A7.mono hj.1) U) (qA [4,5] U ?_)
     have ho4:0≤(((i1:Nat):Int):Int)∧(((i1:Nat):Int):Int) < ((fP).length:Int):=ob
     refine eJ 6 (enc:=fun y=>[I y]) sC jn (fun _ _ _ e=>e) cN ty3 qN.1 ho4 (df ho4) U U U U kr (fun q8 A8=>tf 7 U U (fun _ _ hj=>fK ty3 (A8.mono hj.1) U) (qA [8,9] U (bv kr ?_)))
     exact ah [.bool (decide (y1 < (nthI fP ((i1:Nat):Int))))] DW U hX rd (cs hs8)
    ·refine qT 3 U (ai (v':=I (((i1+1):Nat):Int)) U (bz ob) (qO 2 U ?_))
     exact ag1 ((i1+1),rz1) _ (Nat.lt_succ_self _) ⟨ba hd1,aE hd1,hs9⟩ rd
end Go.Sg
namespace Go.Sg
open Go.Proofs
set_option maxHeartbeats 2000000
theorem law33_AsofSmallest_top {w:World} (h:HF) (hp:Pre h [] w) (aR:Register) (cu:eB) (doc:Int) (person:Int) (aZ:Int) (known:Int) (others:(List Int)) (ll:Option Addr) (lk:Nat) (ia:Register.ok h aR cu) (hothers:SlC Rp.int h ll lk others) (hsm:smR aR) (hsw:others.length≤1500000) (hk:Kinds h):Calls Tryz.prog 6 [.agg (Register.cells aR cu).toArray,I doc,I person,I aZ,I known,.slice ll others.length lk].toArray w fun e w'=>e=.returned (.bool (aG aR doc person aZ known others))∧RowKit.Below w.heap.size w w':=by
 refine DL hp rP U Tryz.ntmps6 U fun X hM hX=>?_
 have hs0:aG aR doc person aZ known others=aG aR doc person aZ known others:=rfl
 have hnl:=EJ aR doc person aZ known
 refine sr (dt (fun b1=>qO 5 U (au (v:=.bool mV) Tryz.call8 (zL h  hk) U (qO 2 U ?_))))
 refine ak hs0 U (fun c1 hs1=>?_) (fun c1 hs2=>?_)
 ·refine qT 4 U ?_
  exact lh [.bool false] rP U hX rd (cs hs1)
 ·refine qT 4 U (dl 0 ty30 U U U (qO 4 U (aN (bK (cells:=[I aZ,I known]) cN ty3 zc3 U U kr (fun b2=>bX 0 U hM (fun h1 hle1 hb1=>?_))))))
  have sl1:SlC Rp.int h1 (some ⟨b2,0,none⟩) 2 ([aZ,known]):=bD.slB0 (T:=3) (fz:=(0,0)) ((show bD Rp.int h [I aZ,I known] ([aZ,known]) from ⟨[I aZ],[I known],rfl,rfl,rfl,⟨[I known],[],rfl,rfl,rfl,rfl⟩⟩).mono Rp.bi hle1) hb1
  refine au (v:=.bool (eS aR doc others ([aZ,known]))) Tryz.call17 (yx h1 aR cu doc others ll lk ([aZ,known]) (some ⟨b2,0,none⟩) 2 (ia.mono hle1) (hothers.mono Rp.bi hle1) sl1 ob) U (qO 2 U ?_)
  refine ar 3 [38,39,40,41] 41 (.bool ((!(eS aR doc others ([aZ,known])))||decide (person < 0))) (fun hk1=>?_) (fun e=>?_)
  ·refine ac 38 U (fun c2=>?_) (fun c2=>?_)
   ·refine qO 3 U ?_
    exact hk1 _ (cb (dW c2))
   ·refine qO 3 U ?_
    exact hk1 _ (cb (dX c2))
  refine aB ?_
  refine ar 3 [42,43,44,45] 45 (.bool (((!(eS aR doc others ([aZ,known])))||decide (person < 0))||decide (64≤person))) (fun hk2=>?_) (fun e=>?_)
  ·refine ac 42 U (fun c3=>?_) (fun c3=>?_)
   ·refine qO 3 U ?_
    exact hk2 _ (cb (dW c3))
   ·refine qO 3 U ?_
    exact hk2 _ (cb (dX c3))
  refine aB ?_
  refine ar 8 [46,47,48,49,50,51,52,53,54] 54 (.bool ((((!(eS aR doc others ([aZ,known])))||decide (person < 0))||decide (64≤person))||(!(jY aR doc person aZ known)))) (fun hk3=>?_) (fun e=>?_)
  ·refine ac 46 U (fun c4=>?_) (fun c4=>?_)
   ·refine qO 8 U ?_
    exact hk3 _ (cb (dW c4))
   ·refine dl 0 ty30 U U U (qO 4 U (au (v:=.bool (jY aR doc person aZ known)) Tryz.call13 (vG h1 aR cu doc person aZ known (ia.mono hle1) ob) U (qO 2 U ?_)))
    exact hk3 _ (cb (dX c4))
  refine bh ?_
  refine ak hs2 U (fun c5 hs4=>?_) (fun c5 hs5=>?_)
  ·refine qT 4 U ?_
   exact lh [.bool true] rP U hX rd (cs hs4)
  ·refine qT 3 U (dl 0 ty30 U U U (qO 4 U (aN (cy B4 (kw h1 aR cu doc person aZ known (ia.mono hle1) ob (hk.mono hle1)) U (fun v1 h2 hle2 hp1=>?_)))))
   obtain ⟨rb1,rc1,rfl,sl2⟩:=hp1
   refine qO 14 U ?_
   refine ak hs5 U (fun c6 hs7=>?_) (fun c6 hs8=>?_)
   ·refine qT 5 U ?_
    refine ar 4 [69,70,71,72,73] 73 (.bool (((aA aR doc person aZ known).2.2==2)&&(((((aA aR doc person aZ known).1).length:Nat):Int)==0))) (fun hk4=>?_) (fun e=>?_)
    ·refine ac 69 U (fun c7=>?_) (fun c7=>?_)
     ·refine aB (a8 cN U (qO 2 U ?_))
      exact hk4 _ (cb (cB c7))
     ·refine qO 4 U ?_
      exact hk4 _ (cb (cC c7))
    refine aB ?_
    refine ar 3 [74,75,76,77] 77 (.bool ((((aA aR doc person aZ known).2.2==2)&&(((((aA aR doc person aZ known).1).length:Nat):Int)==0))&&(!((aA aR doc person aZ known).2.1)))) (fun hk5=>?_) (fun e=>?_)
    ·refine ac 74 U (fun c8=>?_) (fun c8=>?_)
     ·refine qO 3 U ?_
      exact hk5 _ (cb (cB c8))
     ·refine qO 3 U ?_
      exact hk5 _ (cb (cC c8))
    refine an ?_
    exact lh [.bool ((((aA aR doc person aZ known).2.2==2)&&(((((aA aR doc person aZ known).1).length:Nat):Int)==0))&&(!((aA aR doc person aZ known).2.1)))] rP U hX rd (cs hs7)
   ·refine qT 9 U (a8 cN U (qO 2 U ?_))
    let z1:Nat×Obj:=(b1,O (Register.cells aR cu) 30)
    refine aU (ι:=Nat×Bool) (fun i=>[(1,I doc),(2,I person),(3,I aZ),(4,I known),(5,.slice ll others.length lk),(6,Q b1),(13,.slice rb1 (((aA aR doc person aZ known).1).length) rc1),(14,.bool ((aA aR doc person aZ known).2.1)),(16,.bool i.2)]) (fun i=>h2) (fun i=>[z1]) (fun i=>i.1≤others.length∧aG aR doc person aZ known others=((aG.K1 aR doc person aZ known others) i.2)) ?_ (fun hx1=>?_)
    ·rintro ⟨i1,tN⟩ ⟨aP,hs10⟩ e
     try dsimp only at aP
     refine qT 10 U ?_
     refine ak hs10 U (fun c9 hs11=>?_) (fun c9 hs12=>?_)
     ·refine qT 7 U (a8 cN U (qO 2 U ?_))
      refine aU (ι:=Nat×(List Int)×Option Addr×Nat×LH) (fun i=>[(1,I doc),(2,I person),(3,I aZ),(4,I known),(6,Q b1),(13,.slice rb1 (((aA aR doc person aZ known).1).length) rc1),(14,.bool ((aA aR doc person aZ known).2.1)),(19,.slice i.2.2.1 i.2.1.length i.2.2.2.1)]) (fun i=>h2) (fun i=>[z1]++(i.2.2.2.2)) (fun i=>i.1≤others.length∧aG aR doc person aZ known others=((aG.K2 aR doc person aZ known) i.2.1)∧eb Rp.int 3 h2 i.2.1 i.2.2.1 i.2.2.2.1 i.2.2.2.2∧i.2.1.length≤0+i.1) ?_ (fun hx2=>?_)
      ·rintro ⟨i2,iL,uo,un,BE⟩ ⟨jq,hs13,um,EO⟩ e
       try dsimp only at jq um EO
       refine em ?_
       refine fd ([z1]) mixed kr jn (fun dU _=>?_)
       refine tf 0 U U (fun _ _ hj=>jT ty30 U (hj.nth (i:=0) U) U) (qA [1,2,3,5] U (tn 4 U (vF Rp.bi ([z1]) BE ([]) ap hM um (fun h6 hle6 sl6=>?_))))
       refine cy DV (nS h6 iL uo un person sl6 ob) U (fun v4 h7 hle7 hp4=>?_)
       obtain ⟨rb4,rc4,rfl,sl7⟩:=hp4
       refine ⟨⟨(hle6.t hle7),fun _ hp=>List.Sublist.subset (List.Sublist.refl _) hp⟩,mS (K2:=[z1]) (hle6.t hle7) (fun _ hp=>hp) (tn 6 U (cy xz (jx h7 aR cu doc (bj iL person) rb4 rc4 known (ia.mono (((hle1.t hle2).t hle6).t hle7)) sl7 ob (by rw [xl];omega) (hk.mono (((hle1.t hle2).t hle6).t hle7))) U (fun v5 h8 hle8 hp5=>?_)))⟩
       obtain ⟨rb5,rc5,rfl,sl8⟩:=hp5
       refine ⟨⟨hle8,fun _ hp=>List.Sublist.subset (List.Sublist.refl _) hp⟩,mS (K2:=[z1]) hle8 (fun _ hp=>hp) (qR 7 5 U (bv kr (qT 6 U ?_)))⟩
       refine ak hs13 U (fun c13 hs14=>?_) (fun c13 hs15=>?_)
       ·refine qT 4 U ?_
        exact lh [.bool false] rP U hX rd (cs hs14)
       ·refine qT 7 U ?_
        refine ak hs15 U (fun c14 hs17=>?_) (fun c14 hs18=>?_)
        ·refine qT 3 U (a8 cN U (qO 2 U ?_))
         refine ar 5 [124,125,126,127,128,129] 129 (.bool ((((((aA aR doc person aZ known).1).length:Nat):Int)==0)&&(!(dY ((bd aR doc (bj iL person) known).1) aZ)))) (fun hk6=>?_) (fun e=>?_)
         ·refine ac 124 U (fun c15=>?_) (fun c15=>?_)
          ·refine qO 2 U (au (v:=.bool (dY ((bd aR doc (bj iL person) known).1) aZ)) BY (mj h8 ((bd aR doc (bj iL person) known).1) rb5 rc5 aZ sl8) U (qO 2 U ?_))
           exact hk6 _ (cb (cB c15))
          ·refine qO 5 U ?_
           exact hk6 _ (cb (cC c15))
         refine an ?_
         exact lh [.bool ((((((aA aR doc person aZ known).1).length:Nat):Int)==0)&&(!(dY ((bd aR doc (bj iL person) known).1) aZ)))] rP U hX rd (cs hs17)
        ·refine qT 5 U (a8 cN U (qO 2 U ?_))
         refine aU (ι:=Nat) (fun i=>[(1,I doc),(2,I person),(3,I aZ),(4,I known),(6,Q b1),(13,.slice rb1 (((aA aR doc person aZ known).1).length) rc1),(19,.slice uo iL.length un),(22,.slice rb5 (((bd aR doc (bj iL person) known).1).length) rc5)]) (fun i=>h8) (fun i=>[z1]) (fun i=>i≤((aA aR doc person aZ known).1).length∧aG aR doc person aZ known others=((aG.K3 aR doc person aZ known iL))) ?_ (fun hx3=>?_)
         ·rintro i3 ⟨nU,hs20⟩ e
          try dsimp only at nU
          refine em ?_
          refine fd ([z1]) mixed kr jn (fun sC _=>?_)
          refine tf 0 U U (fun _ _ hj=>jT ty30 U (hj.nth (i:=0) U) U) (qA [1,2,3,5] U (tn 4 U (cy DV (nS h8 ((aA aR doc person aZ known).1) rb1 rc1 person (sl2.mono Rp.bi ((hle6.t hle7).t hle8)) ob) U (fun v6 h9 hle9 hp6=>?_))))
          obtain ⟨rb6,rc6,rfl,sl9⟩:=hp6
          refine ⟨⟨hle9,fun _ hp=>List.Sublist.subset (List.Sublist.refl _) hp⟩,mS (K2:=[z1]) hle9 (fun _ hp=>hp) (tn 6 U (cy xz (jx h9 aR cu doc (bj ((aA aR doc person aZ known).1) person) rb6 rc6 known (ia.mono (((((hle1.t hle2).t hle6).t hle7).t hle8).t hle9)) sl9 ob (by rw [xl];omega) (hk.mono (((((hle1.t hle2).t hle6).t hle7).t hle8).t hle9))) U (fun v7 h10 hle10 hp7=>?_)))⟩
          obtain ⟨rb7,rc7,rfl,sl10⟩:=hp7
          refine ⟨⟨hle10,fun _ hp=>List.Sublist.subset (List.Sublist.refl _) hp⟩,mS (K2:=[z1]) hle10 (fun _ hp=>hp) (qR 7 5 U (bv kr (qT 5 U ?_)))⟩
          refine ar 4 [166,167,168,169,170] 170 (.bool (((bd aR doc (bj ((aA aR doc person aZ known).1) person) known).2==0)&&(dY ((bd aR doc (bj ((aA aR doc person aZ known).1) person) known).1) aZ))) (fun hk7=>?_) (fun e=>?_)
          ·refine ac 166 U (fun c16=>?_) (fun c16=>?_)
           ·refine qO 2 U (au (v:=.bool (dY ((bd aR doc (bj ((aA aR doc person aZ known).1) person) known).1) aZ)) BY (mj h10 ((bd aR doc (bj ((aA aR doc person aZ known).1) person) known).1) rb7 rc7 aZ sl10) U (eH U ?_))
            exact hk7 _ (cb (cB c16))
           ·refine qO 4 U ?_
            exact hk7 _ (cb (cC c16))
          refine aB ?_
          refine ar 11 [171,172,173,174,175,176,177,178,179,180,181,182] 182 (.bool ((((bd aR doc (bj ((aA aR doc person aZ known).1) person) known).2==0)&&(dY ((bd aR doc (bj ((aA aR doc person aZ known).1) person) known).1) aZ))&&((!(dY ((bd aR doc (bj iL person) known).1) aZ))||(!(dT iL ((aA aR doc person aZ known).1)))))) (fun hk8=>?_) (fun e=>?_)
          ·refine ac 171 U (fun c17=>?_) (fun c17=>?_)
           ·refine qO 2 U (au (v:=.bool (dY ((bd aR doc (bj iL person) known).1) aZ)) BY (mj h10 ((bd aR doc (bj iL person) known).1) rb5 rc5 aZ (sl8.mono Span.aD (hle9.t hle10))) U (qO 2 U ?_))
            refine ar 5 [176,177,178,179,180,181] 181 (.bool ((!(dY ((bd aR doc (bj iL person) known).1) aZ))||(!(dT iL ((aA aR doc person aZ known).1))))) (fun hk9=>?_) (fun e=>?_)
            ·refine ac 176 U (fun c18=>?_) (fun c18=>?_)
             ·refine qO 5 U ?_
              exact hk9 _ (cb (dW c18))
             ·refine qO 2 U (au (v:=.bool (dT iL ((aA aR doc person aZ known).1))) Tryz.call22 (rk h10 iL uo un ((aA aR doc person aZ known).1) rb1 rc1 (sl6.mono Rp.bi (((hle7.t hle8).t hle9).t hle10)) (sl2.mono Rp.bi ((((hle6.t hle7).t hle8).t hle9).t hle10))) U (qO 2 U ?_))
              exact hk9 _ (cb (dX c18))
            refine eH U ?_
            exact hk8 _ (cb (cB c17))
           ·refine qO 11 U ?_
            exact hk8 _ (cb (cC c17))
          refine an ?_
          exact lh [.bool ((((bd aR doc (bj ((aA aR doc person aZ known).1) person) known).2==0)&&(dY ((bd aR doc (bj ((aA aR doc person aZ known).1) person) known).1) aZ))&&((!(dY ((bd aR doc (bj iL person) known).1) aZ))||(!(dT iL ((aA aR doc person aZ known).1)))))] rP U hX rd (cs hs20)
         ·refine bG (ι:=Nat×List Int) (fun i=>[(1,I doc),(2,I person),(3,I aZ),(4,I known),(6,Q b1),(13,.slice rb1 (((aA aR doc person aZ known).1).length) rc1),(19,.slice uo iL.length un),(22,.slice rb5 (((bd aR doc (bj iL person) known).1).length) rc5),(130,.slice rb1 (((aA aR doc person aZ known).1).length) rc1),(131,I ((((aA aR doc person aZ known).1).length:Nat):Int)),(132,I ((i.1:Nat):Int))]) (fun i=>h8) (fun i=>[z1]) (fun i=>((aA aR doc person aZ known).1).drop i.1=i.2∧i.1≤((aA aR doc person aZ known).1).length∧aG aR doc person aZ known others=((aG.L3 aR doc person aZ known (aG.K3 aR doc person aZ known iL)) i.2 i.1)) (fun i=>i.2.length) (0,(aA aR doc person aZ known).1) rd sw ⟨U,Nat.zero_le _,hs18⟩ ?_
          rintro ⟨i3,s3⟩ ⟨hd3,nU,hs22⟩ ag1 e
          try dsimp only at hd3 nU
          rcases s3 with _ | ⟨y3,rz3⟩
          ·have BB:=cw hd3
           refine sr (ai (v':=.bool false) U (cb BB) (qO 4 U ?_))
           exact hx3 i3 _ ⟨nU,hs22⟩ rd
          ·have BA:=dy hd3
           have rm:=cA hd3
           have FB:=aE hd3
           have I2:=(sl2.mono Rp.bi ((hle6.t hle7).t hle8)).1.1
           refine sr (ai (v':=.bool true) U (cb BA) (qO 9 U (aN (eU (enc:=fun y=>[I y]) (fun _ _ _ e=>e) cN ty3 (sl2.mono Rp.bi ((hle6.t hle7).t hle8)).1 (nthZ rm) (aV rm) U U U (fun q5 A5=>?_)))))
           refine dv ty3 A5 U (qO 9 U ?_)
           refine ar 12 [140,141,142,143,144,145,146,147,148,149,150,151,152] 152 (.bool ((y3==person)||(decide (0 < ((i3:Nat):Int))&&decide (y3≤(nthI ((aA aR doc person aZ known).1) (((i3:Nat):Int) - 1)))))) (fun hk10=>?_) (fun e=>?_)
           ·refine ac 140 U (fun c19=>?_) (fun c19=>?_)
            ·refine qO 12 U ?_
             exact hk10 _ (cb (dW c19))
            ·refine qO 3 U ?_
             refine ar 8 [143,144,145,146,147,148,149,150,151] 151 (.bool (decide (0 < ((i3:Nat):Int))&&decide (y3≤(nthI ((aA aR doc person aZ known).1) (((i3:Nat):Int) - 1))))) (fun hk11=>?_) (fun e=>?_)
             ·refine ac 143 U (fun c20=>?_) (fun c20=>?_)
              ·refine qO 2 U (ai (v':=I (((i3:Nat):Int) - 1)) U (im ob) ?_)
               have ho2:0≤((((i3:Nat):Int) - 1):Int)∧((((i3:Nat):Int) - 1):Int) < (((aA aR doc person aZ known).1).length:Int):=ob
               refine aN (eU (enc:=fun y=>[I y]) (fun _ _ _ e=>e) cN ty3 (sl2.mono Rp.bi ((hle6.t hle7).t hle8)).1 ho2 (df ho2) U U U (fun q6 A6=>dv ty3 A6 U (qO 3 U ?_)))
               exact hk11 _ (cb (cB c20))
              ·refine qO 8 U ?_
               exact hk11 _ (cb (cC c20))
             refine eH U ?_
             exact hk10 _ (cb (dX c19))
           refine bh ?_
           refine ak hs22 U (fun c21 hs24=>?_) (fun c21 hs25=>?_)
           ·refine qT 4 U ?_
            exact lh [.bool false] rP U hX rd (cs hs24)
           ·refine qT 3 U (ai (v':=I (((i3+1):Nat):Int)) U (bz ob) (qO 2 U ?_))
            exact ag1 ((i3+1),rz3) _ (Nat.lt_succ_self _) ⟨ba hd3,aE hd3,hs25⟩ rd
      ·refine bG (ι:=Nat×(List Int)×Option Addr×Nat×LH×List Int) (fun i=>[(1,I doc),(2,I person),(3,I aZ),(4,I known),(6,Q b1),(13,.slice rb1 (((aA aR doc person aZ known).1).length) rc1),(14,.bool ((aA aR doc person aZ known).2.1)),(19,.slice i.2.2.1 i.2.1.length i.2.2.2.1),(93,.slice ll others.length lk),(94,I ((others.length:Nat):Int)),(95,I ((i.1:Nat):Int))]) (fun i=>h2) (fun i=>[z1]++(i.2.2.2.2.1)) (fun i=>others.drop i.1=i.2.2.2.2.2∧i.1≤others.length∧aG aR doc person aZ known others=((aG.L2 person (aG.K2 aR doc person aZ known)) i.2.2.2.2.2 i.2.1)∧eb Rp.int 3 h2 i.2.1 i.2.2.1 i.2.2.2.1 i.2.2.2.2.1∧i.2.1.length≤0+i.1) (fun i=>i.2.2.2.2.2.length) (0,[],none,0,[],others) rd sw ⟨U,Nat.zero_le _,hs11,eb.nil,lo⟩ ?_
       rintro ⟨i2,iL,uo,un,BE,s2⟩ ⟨hd2,jq,hs27,um,EO⟩ ag2 e
       try dsimp only at hd2 jq um EO
       rcases s2 with _ | ⟨y2,rz2⟩
       ·have sD:=cw hd2
        refine sr (ai (v':=.bool false) U (cb sD) (qO 4 U ?_))
        exact hx2 (i2,iL,uo,un,BE) _ ⟨jq,hs27,um,lo⟩ rd
       ·have pW:=dy hd2
        have jL:=cA hd2
        have wH:=aE hd2
        have Df:=(hothers.mono Rp.bi (hle1.t hle2)).1.1
        refine sr (ai (v':=.bool true) U (cb pW) (qO 8 U (aN (eU (enc:=fun y=>[I y]) (fun _ _ _ e=>e) cN ty3 (hothers.mono Rp.bi (hle1.t hle2)).1 (nthZ jL) (aV jL) U U U (fun q7 A7=>?_)))))
        refine dv ty3 A7 U (qO 8 U ?_)
        refine ak hs27 U (fun c22 hs29=>?_) (fun c22 hs30=>?_)
        ·refine qT 3 U (aN (bK (cells:=[I y2]) cN ty3 zc3 U U kr (fun b4=>aN (db Rp.fp ([(b4,O [I y2] 3),z1]) ([]) (fun G=>[(b4,O [I y2] 3),z1]++(G)) ap (fun _=>ap) cN ty3 zc3 U bytes3 um U U (eI 0 U (show bD Rp.int h2 [I y2] ([y2]) from ⟨[I y2],[],U,U,U,U⟩)) lo lo (fun ob2 oc2 G2 gr2=>(qO 4 U (ai (v':=I (((i2+1):Nat):Int)) U (bz ob) (qO 2 U ?_))))))))
         refine cG (L':=[z1]++(G2)) js ?_
         exact ag2 ((i2+1),(iL++[y2]),ob2,oc2,G2,rz2) _ (Nat.lt_succ_self _) ⟨ba hd2,aE hd2,hs29,gr2,lo⟩ rd
        ·refine qT 3 U (ai (v':=I (((i2+1):Nat):Int)) U (bz ob) (qO 2 U ?_))
         exact ag2 ((i2+1),iL,uo,un,BE,rz2) _ (Nat.lt_succ_self _) ⟨ba hd2,aE hd2,hs30,um,lo⟩ rd
     ·refine qT 2 U ?_
      refine fd ([z1]) mixed kr jn (fun Kp _=>?_)
      refine tf 0 U U (fun _ _ hj=>jT ty30 U (hj.nth (i:=0) U) U) (qA [1,2,3,5] U (tn 4 U (cy DV (nS h2 others ll lk person (hothers.mono Rp.bi (hle1.t hle2)) ob) U (fun v8 h11 hle11 hp8=>?_))))
      obtain ⟨rb8,rc8,rfl,sl11⟩:=hp8
      refine ⟨⟨hle11,fun _ hp=>List.Sublist.subset (List.Sublist.refl _) hp⟩,mS (K2:=[z1]) hle11 (fun _ hp=>hp) (tn 6 U (cy xz (jx h11 aR cu doc (bj others person) rb8 rc8 known (ia.mono ((hle1.t hle2).t hle11)) sl11 ob (by rw [xl];omega) (hk.mono ((hle1.t hle2).t hle11))) U (fun v9 h12 hle12 hp9=>?_)))⟩
      obtain ⟨rb9,rc9,rfl,sl12⟩:=hp9
      refine ⟨⟨hle12,fun _ hp=>List.Sublist.subset (List.Sublist.refl _) hp⟩,mS (K2:=[z1]) hle12 (fun _ hp=>hp) (qR 7 5 U (bv kr (qT 6 U ?_)))⟩
      refine ak hs12 U (fun c23 hs31=>?_) (fun c23 hs32=>?_)
      ·refine qT 4 U ?_
       exact lh [.bool false] rP U hX rd (cs hs31)
      ·refine qT 7 U ?_
       refine ak hs32 U (fun c24 hs34=>?_) (fun c24 hs35=>?_)
       ·refine qT 3 U (a8 cN U (qO 2 U ?_))
        refine ar 5 [124,125,126,127,128,129] 129 (.bool ((((((aA aR doc person aZ known).1).length:Nat):Int)==0)&&(!(dY ((bd aR doc (bj others person) known).1) aZ)))) (fun hk12=>?_) (fun e=>?_)
        ·refine ac 124 U (fun c25=>?_) (fun c25=>?_)
         ·refine qO 2 U (au (v:=.bool (dY ((bd aR doc (bj others person) known).1) aZ)) BY (mj h12 ((bd aR doc (bj others person) known).1) rb9 rc9 aZ sl12) U (qO 2 U ?_))
          exact hk12 _ (cb (cB c25))
         ·refine qO 5 U ?_
          exact hk12 _ (cb (cC c25))
        refine an ?_
        exact lh [.bool ((((((aA aR doc person aZ known).1).length:Nat):Int)==0)&&(!(dY ((bd aR doc (bj others person) known).1) aZ)))] rP U hX rd (cs hs34)
       ·refine qT 5 U (a8 cN U (qO 2 U ?_))
        refine aU (ι:=Nat) (fun i=>[(1,I doc),(2,I person),(3,I aZ),(4,I known),(6,Q b1),(13,.slice rb1 (((aA aR doc person aZ known).1).length) rc1),(19,.slice ll others.length lk),(22,.slice rb9 (((bd aR doc (bj others person) known).1).length) rc9)]) (fun i=>h12) (fun i=>[z1]) (fun i=>i≤((aA aR doc person aZ known).1).length∧aG aR doc person aZ known others=((aG.K4 aR doc person aZ known others))) ?_ (fun hx4=>?_)
        ·rintro i4 ⟨De,hs37⟩ e
         try dsimp only at De
         refine em ?_
         refine fd ([z1]) mixed kr jn (fun Ko _=>?_)
         refine tf 0 U U (fun _ _ hj=>jT ty30 U (hj.nth (i:=0) U) U) (qA [1,2,3,5] U (tn 4 U (cy DV (nS h12 ((aA aR doc person aZ known).1) rb1 rc1 person (sl2.mono Rp.bi (hle11.t hle12)) ob) U (fun v10 h13 hle13 hp10=>?_))))
         obtain ⟨rb10,rc10,rfl,sl13⟩:=hp10
         refine ⟨⟨hle13,fun _ hp=>List.Sublist.subset (List.Sublist.refl _) hp⟩,mS (K2:=[z1]) hle13 (fun _ hp=>hp) (tn 6 U (cy xz (jx h13 aR cu doc (bj ((aA aR doc person aZ known).1) person) rb10 rc10 known (ia.mono ((((hle1.t hle2).t hle11).t hle12).t hle13)) sl13 ob (by rw [xl];omega) (hk.mono ((((hle1.t hle2).t hle11).t hle12).t hle13))) U (fun v11 h14 hle14 hp11=>?_)))⟩
         obtain ⟨rb11,rc11,rfl,sl14⟩:=hp11
         refine ⟨⟨hle14,fun _ hp=>List.Sublist.subset (List.Sublist.refl _) hp⟩,mS (K2:=[z1]) hle14 (fun _ hp=>hp) (qR 7 5 U (bv kr (qT 5 U ?_)))⟩
         refine ar 4 [166,167,168,169,170] 170 (.bool (((bd aR doc (bj ((aA aR doc person aZ known).1) person) known).2==0)&&(dY ((bd aR doc (bj ((aA aR doc person aZ known).1) person) known).1) aZ))) (fun hk13=>?_) (fun e=>?_)
         ·refine ac 166 U (fun c26=>?_) (fun c26=>?_)
          ·refine qO 2 U (au (v:=.bool (dY ((bd aR doc (bj ((aA aR doc person aZ known).1) person) known).1) aZ)) BY (mj h14 ((bd aR doc (bj ((aA aR doc person aZ known).1) person) known).1) rb11 rc11 aZ sl14) U (eH U ?_))
           exact hk13 _ (cb (cB c26))
          ·refine qO 4 U ?_
           exact hk13 _ (cb (cC c26))
         refine aB ?_
         refine ar 11 [171,172,173,174,175,176,177,178,179,180,181,182] 182 (.bool ((((bd aR doc (bj ((aA aR doc person aZ known).1) person) known).2==0)&&(dY ((bd aR doc (bj ((aA aR doc person aZ known).1) person) known).1) aZ))&&((!(dY ((bd aR doc (bj others person) known).1) aZ))||(!(dT others ((aA aR doc person aZ known).1)))))) (fun hk14=>?_) (fun e=>?_)
         ·refine ac 171 U (fun c27=>?_) (fun c27=>?_)
          ·refine qO 2 U (au (v:=.bool (dY ((bd aR doc (bj others person) known).1) aZ)) BY (mj h14 ((bd aR doc (bj others person) known).1) rb9 rc9 aZ (sl12.mono Span.aD (hle13.t hle14))) U (qO 2 U ?_))
           refine ar 5 [176,177,178,179,180,181] 181 (.bool ((!(dY ((bd aR doc (bj others person) known).1) aZ))||(!(dT others ((aA aR doc person aZ known).1))))) (fun hk15=>?_) (fun e=>?_)
           ·refine ac 176 U (fun c28=>?_) (fun c28=>?_)
            ·refine qO 5 U ?_
             exact hk15 _ (cb (dW c28))
            ·refine qO 2 U (au (v:=.bool (dT others ((aA aR doc person aZ known).1))) Tryz.call22 (rk h14 others ll lk ((aA aR doc person aZ known).1) rb1 rc1 (hothers.mono Rp.bi (((((hle1.t hle2).t hle11).t hle12).t hle13).t hle14)) (sl2.mono Rp.bi (((hle11.t hle12).t hle13).t hle14))) U (qO 2 U ?_))
             exact hk15 _ (cb (dX c28))
           refine eH U ?_
           exact hk14 _ (cb (cB c27))
          ·refine qO 11 U ?_
           exact hk14 _ (cb (cC c27))
         refine an ?_
         exact lh [.bool ((((bd aR doc (bj ((aA aR doc person aZ known).1) person) known).2==0)&&(dY ((bd aR doc (bj ((aA aR doc person aZ known).1) person) known).1) aZ))&&((!(dY ((bd aR doc (bj others person) known).1) aZ))||(!(dT others ((aA aR doc person aZ known).1)))))] rP U hX rd (cs hs37)
        ·refine bG (ι:=Nat×List Int) (fun i=>[(1,I doc),(2,I person),(3,I aZ),(4,I known),(6,Q b1),(13,.slice rb1 (((aA aR doc person aZ known).1).length) rc1),(19,.slice ll others.length lk),(22,.slice rb9 (((bd aR doc (bj others person) known).1).length) rc9),(130,.slice rb1 (((aA aR doc person aZ known).1).length) rc1),(131,I ((((aA aR doc person aZ known).1).length:Nat):Int)),(132,I ((i.1:Nat):Int))]) (fun i=>h12) (fun i=>[z1]) (fun i=>((aA aR doc person aZ known).1).drop i.1=i.2∧i.1≤((aA aR doc person aZ known).1).length∧aG aR doc person aZ known others=((aG.L4 aR doc person aZ known (aG.K4 aR doc person aZ known others)) i.2 i.1)) (fun i=>i.2.length) (0,(aA aR doc person aZ known).1) rd sw ⟨U,Nat.zero_le _,hs35⟩ ?_
         rintro ⟨i4,s4⟩ ⟨hd4,De,hs39⟩ ag3 e
         try dsimp only at hd4 De
         rcases s4 with _ | ⟨y4,rz4⟩
         ·have Kl:=cw hd4
          refine sr (ai (v':=.bool false) U (cb Kl) (qO 4 U ?_))
          exact hx4 i4 _ ⟨De,hs39⟩ rd
         ·have Kk:=dy hd4
          have Ji:=cA hd4
          have Kr:=aE hd4
          have Kt:=(sl2.mono Rp.bi (hle11.t hle12)).1.1
          refine sr (ai (v':=.bool true) U (cb Kk) (qO 9 U (aN (eU (enc:=fun y=>[I y]) (fun _ _ _ e=>e) cN ty3 (sl2.mono Rp.bi (hle11.t hle12)).1 (nthZ Ji) (aV Ji) U U U (fun q10 A10=>?_)))))
          refine dv ty3 A10 U (qO 9 U ?_)
          refine ar 12 [140,141,142,143,144,145,146,147,148,149,150,151,152] 152 (.bool ((y4==person)||(decide (0 < ((i4:Nat):Int))&&decide (y4≤(nthI ((aA aR doc person aZ known).1) (((i4:Nat):Int) - 1)))))) (fun hk16=>?_) (fun e=>?_)
          ·refine ac 140 U (fun c29=>?_) (fun c29=>?_)
           ·refine qO 12 U ?_
            exact hk16 _ (cb (dW c29))
           ·refine qO 3 U ?_
            refine ar 8 [143,144,145,146,147,148,149,150,151] 151 (.bool (decide (0 < ((i4:Nat):Int))&&decide (y4≤(nthI ((aA aR doc person aZ known).1) (((i4:Nat):Int) - 1))))) (fun hk17=>?_) (fun e=>?_)
            ·refine ac 143 U (fun c30=>?_) (fun c30=>?_)
             ·refine qO 2 U (ai (v':=I (((i4:Nat):Int) - 1)) U (im ob) ?_)
              have ho4:0≤((((i4:Nat):Int) - 1):Int)∧((((i4:Nat):Int) - 1):Int) < (((aA aR doc person aZ known).1).length:Int):=ob
              refine aN (eU (enc:=fun y=>[I y]) (fun _ _ _ e=>e) cN ty3 (sl2.mono Rp.bi (hle11.t hle12)).1 ho4 (df ho4) U U U (fun q11 A11=>dv ty3 A11 U (qO 3 U ?_)))
              exact hk17 _ (cb (cB c30))
             ·refine qO 8 U ?_
              exact hk17 _ (cb (cC c30))
            refine eH U ?_
            exact hk16 _ (cb (dX c29))
          refine bh ?_
          refine ak hs39 U (fun c31 hs41=>?_) (fun c31 hs42=>?_)
          ·refine qT 4 U ?_
           exact lh [.bool false] rP U hX rd (cs hs41)
          ·refine qT 3 U (ai (v':=I (((i4+1):Nat):Int)) U (bz ob) (qO 2 U ?_))
           exact ag3 ((i4+1),rz4) _ (Nat.lt_succ_self _) ⟨ba hd4,aE hd4,hs42⟩ rd
    ·refine bG (ι:=Nat×Bool×List Int) (fun i=>[(1,I doc),(2,I person),(3,I aZ),(4,I known),(5,.slice ll others.length lk),(6,Q b1),(13,.slice rb1 (((aA aR doc person aZ known).1).length) rc1),(14,.bool ((aA aR doc person aZ known).2.1)),(16,.bool i.2.1),(78,.slice ll others.length lk),(79,I ((others.length:Nat):Int)),(80,I ((i.1:Nat):Int))]) (fun i=>h2) (fun i=>[z1]) (fun i=>others.drop i.1=i.2.2∧i.1≤others.length∧aG aR doc person aZ known others=((aG.L1 person (aG.K1 aR doc person aZ known others)) i.2.2 i.2.1)) (fun i=>i.2.2.length) (0,false,others) rd sw ⟨U,Nat.zero_le _,hs8⟩ ?_
     rintro ⟨i1,tN,s1⟩ ⟨hd1,aP,hs44⟩ ag4 e
     try dsimp only at hd1 aP
     rcases s1 with _ | ⟨y1,rz1⟩
     ·have dr:=cw hd1
      refine sr (ai (v':=.bool false) U (cb dr) (qO 4 U ?_))
      exact hx1 (i1,tN) _ ⟨aP,hs44⟩ rd
     ·have dq:=dy hd1
      have aM:=cA hd1
      have ey:=aE hd1
      have gi:=(hothers.mono Rp.bi (hle1.t hle2)).1.1
      refine sr (ai (v':=.bool true) U (cb dq) (qO 8 U (aN (eU (enc:=fun y=>[I y]) (fun _ _ _ e=>e) cN ty3 (hothers.mono Rp.bi (hle1.t hle2)).1 (nthZ aM) (aV aM) U U U (fun q12 A12=>?_)))))
      refine dv ty3 A12 U (qO 5 U ?_)
      refine ar 4 [85,86,87,88,89] 89 (.bool (tN||(y1==person))) (fun hk18=>?_) (fun e=>?_)
      ·refine ac 85 U (fun c32=>?_) (fun c32=>?_)
       ·refine qO 4 U ?_
        exact hk18 _ (cb (dW c32))
       ·refine qO 4 U ?_
        exact hk18 _ (cb (dX c32))
      refine qO 4 U (ai (v':=I (((i1+1):Nat):Int)) U (bz ob) (qO 2 U ?_))
      exact ag4 ((i1+1),(tN||(y1==person)),rz1) _ (Nat.lt_succ_self _) ⟨ba hd1,aE hd1,hs44⟩ rd
end Go.Sg
namespace Go.Proofs.YtngiefchigcphaaGreatDoor.asofSmallest
open Go.ChangeShapes Go.WideShapes Go.ChangeAt Go.RowKit
theorem own:ownKnob Tryz.prog.godebug=none:=by kernel_rfl
theorem laidOut:laidOutB Tryz.prog=true:=by kernel_rfl
theorem contract (H:Type) (enc:TypeId×Value→H) (W:World) (base:Nat) (args:Array Value) (ds gs:List (DataW H)) (before:List MemPlace)
    (hval:∀ (j:Nat) t v,Tryz.f6.params[j]? = some t→args[j]? = some v→Value.okWide Tryz.prog W .any base t v)
    (hW:DataW.Whole enc Tryz.prog Tryz.f6.params.toList Rows.asofSmallestSpec.vars false W args.toList ds gs before) (hcond:Rows.uptoSmall H (ds++gs)=true) (hL:laidMetH Tryz.prog Rows.asofSmallestUptoRow.laid W):
    Calls Tryz.prog 6 args W fun e W'=>∃ v,e=.returned v∧Rows.asofSmallestSpec.post enc Tryz.prog Tryz.f6 false true false false W args v W':=by
  have hW':=hW
  obtain ⟨p,q,hA0,hV,rfl,hfz,hnd⟩:=hW
  have hA:DataW.TrodAll enc Tryz.prog W 0 (fun _=>true) true Tryz.f6.params.toList args.toList ds p:=hA0
  rw [Tryz.params6] at hA hval
  obtain ⟨v0,vs0,d0,ds0,p0,z0,hargs,rfl,rfl,h0,t0⟩:=trodAll_cons hA
  obtain ⟨v1,vs1,d1,ds1,p1,z1,rfl,rfl,rfl,h1,t1⟩:=trodAll_cons t0
  obtain ⟨v2,vs2,d2,ds2,p2,z2,rfl,rfl,rfl,h2,t2⟩:=trodAll_cons t1
  obtain ⟨v3,vs3,d3,ds3,p3,z3,rfl,rfl,rfl,h3,t3⟩:=trodAll_cons t2
  obtain ⟨v4,vs4,d4,ds4,p4,z4,rfl,rfl,rfl,h4,t4⟩:=trodAll_cons t3
  obtain ⟨v5,vs5,d5,ds5,p5,z5,rfl,rfl,rfl,h5,t5⟩:=trodAll_cons t4
  obtain ⟨rfl,rfl,rfl⟩:=trodAll_nil t5
  obtain rfl:args=#[v0,v1,v2,v3,v4,v5]:=by cases args;simp_all
  obtain ⟨rfl,rfl⟩:=trodVars_none hV
  clear hA0 hA
  have h0k:=h0
  have h1k:=h1
  have h2k:=h2
  have h3k:=h3
  have h4k:=h4
  have h5k:=h5
  simp only [List.append_nil] at hW' hcond
  have hB:Rows.uptoBulkAll [d0,d1,d2,d3,d4,d5]≤1048576:=of_decide_eq_true hcond
  obtain ⟨a0,rfl,_⟩:=okWide_struct Tryz.underlying30 (hval 0 30 v0 rfl rfl)
  obtain ⟨f0,g0⟩:=h0
  obtain ⟨x0,⟨r0,e0,o0⟩,q0⟩:=Sg.opn_Register f0 _ _ _ g0
  obtain rfl:a0=(Sg.Register.cells x0 r0).toArray:=by
    apply Array.toList_inj.1;exact e0
  obtain ⟨n1,rfl⟩:=okWide_int Tryz.underlying3 (hval 1 3 v1 rfl rfl)
  obtain ⟨n2,rfl⟩:=okWide_int Tryz.underlying3 (hval 2 3 v2 rfl rfl)
  obtain ⟨n3,rfl⟩:=okWide_int Tryz.underlying3 (hval 3 3 v3 rfl rfl)
  obtain ⟨n4,rfl⟩:=okWide_int Tryz.underlying3 (hval 4 3 v4 rfl rfl)
  obtain ⟨b5,l5,c5,rfl⟩:=okWide_slice Tryz.underlying31 (hval 5 31 v5 rfl rfl)
  obtain ⟨f5,g5⟩:=h5
  obtain ⟨b5',c5',x5,e5,o5,q5⟩:=Sg.opn_slice (R:=Sg.Rp.int) (sz:=fun _=>1) Tryz.underlying31 (by kernel_rfl) (by decide) (fun k _=>Sg.opn_int (by kernel_rfl) k) g5
  cases e5
  simp only [Rows.uptoBulkAll] at hB
  have y5:=Sg.szL_len (f:=fun _:Int=>1) (fun _=>Nat.le_refl _) x5
  have z0b:=Sg.bulk_one d0
  have z1b:=Sg.bulk_one d1
  have z2b:=Sg.bulk_one d2
  have z3b:=Sg.bulk_one d3
  have z4b:=Sg.bulk_one d4
  have z5b:=Sg.bulk_one d5
  have walk:=Sg.law33_AsofSmallest_top (Sg.hOf W) (Sg.pre_hOf W) x0 r0 n1 n2 n3 n4 x5 b5 c5 o0 o5 (Sg.smR_of (by omega)) (by omega) (Sg.kinds_of hL)
  rw [Sg.smallest_true (Sg.smR_of (by omega))] at walk
  refine walk.mono fun e W' ⟨he,hb⟩=>?_
  subst he
  exact ⟨_,rfl,Sg.post_below (pa:=p0++(p1++(p2++(p3++(p4++(p5++([]))))))) (pv:=[]) hW' (fun _ _ _=>trodAll_cons_mk (shut_bool Tryz.underlying4 _) trodAll_mk0) (fun sp hsp=>(trodAll_cons_mk (Sg.stays laidOut (by kernel_rfl) (by kernel_rfl) h0k hb hW'.lt (fun x hx=>by simp [hx]) hsp) (trodAll_cons_mk (Sg.stays laidOut (by kernel_rfl) (by kernel_rfl) h1k hb hW'.lt (fun x hx=>by simp [hx]) hsp) (trodAll_cons_mk (Sg.stays laidOut (by kernel_rfl) (by kernel_rfl) h2k hb hW'.lt (fun x hx=>by simp [hx]) hsp) (trodAll_cons_mk (Sg.stays laidOut (by kernel_rfl) (by kernel_rfl) h3k hb hW'.lt (fun x hx=>by simp [hx]) hsp) (trodAll_cons_mk (Sg.stays laidOut (by kernel_rfl) (by kernel_rfl) h4k hb hW'.lt (fun x hx=>by simp [hx]) hsp) (trodAll_cons_mk (Sg.stays laidOut (by kernel_rfl) (by kernel_rfl) h5k hb hW'.lt (fun x hx=>by simp [hx]) hsp) trodAll_mk0))))))) (fun _ _=>rfl) (by simp) hb (ok_one (by kernel_rfl) rfl (okWide_bool_mk Tryz.underlying4 _))⟩
end Go.Proofs.YtngiefchigcphaaGreatDoor.asofSmallest
