import Derived.Test.YtngiefchigcphaaGreatDoorW1
import Derived.Test.YtngiefchigcphaaGreatDoorW2
import Derived.Test.YtngiefchigcphaaGreatDoorW3
import Derived.Test.YtngiefchigcphaaGreatDoorW4
import Derived.Test.YtngiefchigcphaaGreatDoorW5
import Derived.Test.YtngiefchigcphaaGreatDoorW6
import Derived.Test.YtngiefchigcphaaGreatDoorW7
import Derived.Test.YtngiefchigcphaaGreatDoorW8
import Derived.Test.YtngiefchigcphaaGreatDoorW9
import Derived.Test.YtngiefchigcphaaGreatDoorW10
import Derived.Test.YtngiefchigcphaaGreatDoorW11
/- A part of the proof of the law AsofMore: where what it reads holds at most 1048576 values and letters, the call returns true and its arguments read as they did. Conditions: that bound, and that the listed table starts as the program lays it. -/
set_option linter.unusedVariables false
set_option linter.unusedSimpArgs false
namespace Go.Sg
open Go.Proofs
set_option maxHeartbeats 2000000
set_option maxRecDepth 100000
set_option linter.unusedVariables false
theorem j6 (h:HF) (aT:Register) (aR:ep) (doc:Int) (who:(List Int)) (em:Option Addr) (el:Nat) (known:Int) (iX:Register.ok h aT aR) (hwho:SlC Rp.int h em el who) (hsm:smR aT) (hsw:who.length≤2000000) (hk:Kinds h):jP Tryz.prog 10 [.agg (Register.cells aT aR).toArray,I doc,.slice em who.length el,I known] h (fun v h'=>∃ (rb0:Option Addr) (rc0:Nat),v=.tuple #[.slice rb0 ((aW aT doc who known).1).length rc0,I ((aW aT doc who known).2)]∧SlC Span.rp h' rb0 rc0 ((aW aT doc who known).1)):=by
 refine aw D4 U Tryz.ntmps10 U fun X hM hX=>?_
 have hs0:aW aT doc who known=aW aT doc who known:=rfl
 refine sr (dC (fun b1=>dC (fun b2=>bT zc34 (fun b3=>an (ad (sr (dh 2 ty30 U U U (aA (v:=I (fa aT)) Tryz.call26 (rE h aT aR iX ob hk) U ?_))))))))
 refine aF U (ac ?_)
 refine aB U (fun c1=>?_) (fun c1=>?_)
 ·have hs1:=hs0.trans (bt c1)
  refine sr (du 0 ty34 U U U U U U (an ?_))
  have hs2:aW aT doc who known=([],300):=hs1
  exact dQ [.slice none 0 0,I 300] D4 U ⟨⟨0,_,_,_,_,U,U,.inr ⟨_,ty34,U⟩⟩,U,trivial⟩ ⟨none,0,congrArg (fun r:((List Span)×Int)=>(.tuple #[.slice none r.1.length 0,I r.2]:Value)) hs2.symm,(by rw [hs2];exact SlC.nil)⟩
 ·have hs3:=hs0.trans (bf c1)
  refine ai (sr (dh 2 ty30 U U U (aa (aa (a8 (dp Tryz.call27 (vS h aT aR doc known iX) U (fun v1 h1 hle1 hp1=>?_)))))))
  obtain ⟨rr1,rfl,ok1⟩:=hp1
  refine aa (bR U U (bR U U (bT zc77 (fun b4=>bJ 0 ty77 U U U U U U (an (ad (sr (aa (cR U (aa ?_))))))))))
  refine tq 4 [(6,Q b2),(8,Q b3),(10,Q b4),(30,.bool ((!((cT aT doc known).2))||(!(fP who))))] (fun hk1=>?_) (fun e=>?_)
  ·refine au 26 U (fun c2=>?_) (fun c2=>?_)
   ·refine kq (bY (ae U ?_))
    exact hk1 _ ⟨U,U,U,(cb (eB c2)),trivial⟩
   ·refine aL 2 ty31 U U U (aA (v:=.bool (fP who)) Tryz.call28 (yA h1 who em el (hwho.mono Rp.cm hle1)) U (cR U (ae U ?_)))
    exact hk1 _ ⟨U,U,U,(cb (eE c2)),trivial⟩
  refine ac ?_
  refine aB U (fun c3=>?_) (fun c3=>?_)
  ·have hs4:=hs3.trans (bt c3)
   refine sr (du 1 ty34 U U U U U U (an ?_))
   have hs5:aW aT doc who known=([],1):=hs4
   exact dQ [.slice none 0 0,I 1] D4 U ⟨⟨1,_,_,_,_,U,U,.inr ⟨_,ty34,U⟩⟩,U,trivial⟩ ⟨none,0,congrArg (fun r:((List Span)×Int)=>(.tuple #[.slice none r.1.length 0,I r.2]:Value)) hs5.symm,(by rw [hs5];exact SlC.nil)⟩
  ·have hs6:=hs3.trans (bf c3)
   refine ai (ad (sr (dh 0 ty77 U U U (a8 (dp Tryz.call29 (pK h1 ((cT aT doc known).1) rr1 ok1 (by have a_:=(asked (by simpa using c1) (by simp only [decide_eq_true_eq,decide_eq_false_iff_not,Bool.and_eq_true,Bool.or_eq_true,Bool.not_eq_true',Bool.not_eq_false',Bool.and_eq_false_iff,Bool.or_eq_false_iff,beq_iff_eq,beq_eq_false_iff_ne,bne_iff_ne,bne_eq_false_iff_eq,List.length_append,List.length_cons,List.length_nil,List.length_drop] at c3;exact c3.1));rw [a_.reg];exact hsm) (by have a_:=(asked (by simpa using c1) (by simp only [decide_eq_true_eq,decide_eq_false_iff_not,Bool.and_eq_true,Bool.or_eq_true,Bool.not_eq_true',Bool.not_eq_false',Bool.and_eq_false_iff,Bool.or_eq_false_iff,beq_iff_eq,beq_eq_false_iff_ne,bne_iff_ne,bne_eq_false_iff_eq,List.length_append,List.length_cons,List.length_nil,List.length_drop] at c3;exact c3.1));rw [a_.reg];exact a_.vers.okV) (by have a_:=(asked (by simpa using c1) (by simp only [decide_eq_true_eq,decide_eq_false_iff_not,Bool.and_eq_true,Bool.or_eq_true,Bool.not_eq_true',Bool.not_eq_false',Bool.and_eq_false_iff,Bool.or_eq_false_iff,beq_iff_eq,beq_eq_false_iff_ne,bne_iff_ne,bne_eq_false_iff_eq,List.length_append,List.length_cons,List.length_nil,List.length_drop] at c3;exact c3.1));exact ⟨a_.doc.at_.1,Int.le_of_lt a_.doc.at_.2⟩)) U (fun v2 h2 hle2 hp2=>?_))))))
   obtain ⟨_,rfl,mo1⟩:=hp2
   refine ac (aU ?_)
   refine gv ?_
   refine dW (L':=([(b4,O (aS.cells ((cT aT doc known).1) rr1) 77),(b3,O [.slice none 0 0] 34),(b2,O [.slice em who.length el] 31),(b1,O (Register.cells aT aR) 30)])++markB []) ap ?_
   refine kc (it:=v2) (xs:=(aE ((cT aT doc known).1))) (ι:=(List Span)×Option Addr×Nat×LH×HF) [] (fun i=>i.2.2.2.2) (fun i=>[(b4,O (aS.cells ((cT aT doc known).1) rr1) 77),(b3,O [.slice i.2.1 i.1.length i.2.2.1] 34),(b2,O [.slice em who.length el] 31),(b1,O (Register.cells aT aR) 30)]++(i.2.2.2.1)) (fun s i=>aW aT doc who known=((aW.L1 aT doc who known (aW.K1)) s i.1)∧ei Span.rp 46 i.2.2.2.2 i.1 i.2.1 i.2.2.1 i.2.2.2.1∧HF.le h2 i.2.2.2.2∧i.1.length+s.length≤5000000) (fun _=>False) (fun _=>False) 0 (fun _ _ _=>False) ([],none,0,[],h2) D4 U mo1 U AK (fun _ _ _ _ _ hq=>hq) U (show [(b4,O (aS.cells ((cT aT doc known).1) rr1) 77),(b3,O [.slice none 0 0] 34),(b2,O [.slice em who.length el] 31),(b1,O (Register.cells aT aR) 30)]=_ from U) ⟨hs6,ei.nil,(HF.le_refl h2),(by have a_:=(asked (by simpa using c1) (by simp only [decide_eq_true_eq,decide_eq_false_iff_not,Bool.and_eq_true,Bool.or_eq_true,Bool.not_eq_true',Bool.not_eq_false',Bool.and_eq_false_iff,Bool.or_eq_false_iff,beq_iff_eq,beq_eq_false_iff_ne,bne_iff_ne,bne_eq_false_iff_eq,List.length_append,List.length_cons,List.length_nil,List.length_drop] at c3;exact c3.1));have:=Fa (q:=(cT aT doc known).1) (by rw [a_.reg];exact hsm) (by rw [a_.reg];exact a_.vers.okV);simpa using this)⟩ ?_ ?_ ?_ ?_ ?_
   ·rintro l1 dm1 lp1 y1 rz1 vs1 ⟨aH,eP,eO,eW,hh1⟩ hr1 X hFR1 ⟨hs7,gH,hl1,u1_0⟩ hl01 hlr1 hv1 hX hXM hlp1 nx1 rt1 ex1 pn1
    try dsimp only at gH hl1 u1_0 hlr1
    obtain rfl:=hv1
    simp only [List.length_cons] at u1_0
    refine dW (L':=[(l1,.loop lp1),(dm1,.deferred (some [])),(b4,O (aS.cells ((cT aT doc known).1) rr1) 77),(b3,O [.slice eP aH.length eO] 34),(b2,O [.slice em who.length el] 31),(b1,O (Register.cells aT aR) 30)]++(eW++(markB []))) ap ?_
    refine ah (bT zc46 (fun b6=>bJ 0 ty46 U U U U U U (iF (L':=[(b6,O (Span.cells y1) 46),(l1,.loop lp1),(dm1,.deferred (some [])),(b4,O (aS.cells ((cT aT doc known).1) rr1) 77),(b3,O [.slice eP aH.length eO] 34),(b2,O [.slice em who.length el] 31),(b1,O (Register.cells aT aR) 30)]++(eW++(markB []))) U ?_)))
    refine ac (kd 1 U hlp1 (aU (sr (aL 4 ty34 U U U (bE mX U (an (aU (sr (dh 3 ty77 U U U (aL 5 ty31 U U U (ay wy U (aL 0 ty3 U U U (aA (v:=.bool (bn ((cT aT doc known).1) who y1.From)) Tryz.call30 (mG hr1 ((cT aT doc known).1) rr1 who em el y1.From (ok1.mono ((hle2.t hl1).t hlr1)) (hwho.mono Rp.cm (((hle1.t hle2).t hl1).t hlr1)) (by have a_:=(asked (by simpa using c1) (by simp only [decide_eq_true_eq,decide_eq_false_iff_not,Bool.and_eq_true,Bool.or_eq_true,Bool.not_eq_true',Bool.not_eq_false',Bool.and_eq_false_iff,Bool.or_eq_false_iff,beq_iff_eq,beq_eq_false_iff_ne,bne_iff_ne,bne_eq_false_iff_eq,List.length_append,List.length_cons,List.length_nil,List.length_drop] at c3;exact c3.1));rw [a_.reg];exact hsm) (by have a_:=(asked (by simpa using c1) (by simp only [decide_eq_true_eq,decide_eq_false_iff_not,Bool.and_eq_true,Bool.or_eq_true,Bool.not_eq_true',Bool.not_eq_false',Bool.and_eq_false_iff,Bool.or_eq_false_iff,beq_iff_eq,beq_eq_false_iff_ne,bne_iff_ne,bne_eq_false_iff_eq,List.length_append,List.length_cons,List.length_nil,List.length_drop] at c3;exact c3.1));rw [a_.reg];exact a_.vers.okV) (by have a_:=(asked (by simpa using c1) (by simp only [decide_eq_true_eq,decide_eq_false_iff_not,Bool.and_eq_true,Bool.or_eq_true,Bool.not_eq_true',Bool.not_eq_false',Bool.and_eq_false_iff,Bool.or_eq_false_iff,beq_iff_eq,beq_eq_false_iff_ne,bne_iff_ne,bne_eq_false_iff_eq,List.length_append,List.length_cons,List.length_nil,List.length_drop] at c3;exact c3.1));exact ⟨⟨a_.doc.at_.1,Int.le_of_lt a_.doc.at_.2⟩,a_.doc.kind.1⟩) ob (hk.mono (((hle1.t hle2).t hl1).t hlr1))) U ?_)))))))))))))
    refine cR U (an ?_)
    refine aB U (fun c5=>?_) (fun c5=>?_)
    ·have hs8:=hs7.trans (bt c5)
     refine ai (ao (ao ?_))
     refine cE (L':=[(l1,.loop { lp1 with state:=.busy }),(dm1,.deferred (some [])),(b4,O (aS.cells ((cT aT doc known).1) rr1) 77),(b3,O [.slice eP aH.length eO] 34),(b2,O [.slice em who.length el] 31),(b1,O (Register.cells aT aR) 30)]++(eW++(markB []))) js ?_
     refine dW (L':=rdH l1 dm1 lp1 (([(b4,O (aS.cells ((cT aT doc known).1) rr1) 77),(b3,O [.slice eP aH.length eO] 34),(b2,O [.slice em who.length el] 31),(b1,O (Register.cells aT aR) 30)]++(eW))++markB [])) ap ?_
     exact nx1 (aH,eP,eO,eW,hr1) _ _ ⟨hs8,(gH.mono Span.aJ hlr1),(hl1.t hlr1),(by first | omega | (simp only [List.length_append,List.length_cons,List.length_nil,List.length_set];omega))⟩ (HF.le_refl _)
    ·have hs9:=hs7.trans (bf c5)
     refine ad ?_
     refine mL [(8,Q b3),(12,Q b6),(13,I ((aH.length:Nat):Int)),(47,.bool (decide (0 < ((aH.length:Nat):Int))&&((nthI aH (((aH.length:Nat):Int) - 1)).Until==y1.From)))] (fun e=>?_) (fun hk2=>?_)
     rotate_left
     ·refine gr ([(b6,O (Span.cells y1) 46),(l1,.loop { lp1 with state:=.busy }),(dm1,.deferred (some [])),(b4,O (aS.cells ((cT aT doc known).1) rr1) 77),(b3,O [.slice eP aH.length eO] 34),(b2,O [.slice em who.length el] 31),(b1,O (Register.cells aT aR) 30)]++(eW)) mixed kr jn (fun fd _=>?_)
      refine tm 0 U (tf 1 U U (fun _ _ _=>iH U) ?_)
      refine tm 2 U ?_
      refine eI 50 U (fun c6=>?_) (fun c6=>?_)
      ·have c6p:=of_decide_eq_true c6
       refine tf 3 U U (fun _ _ hj=>hY ty34 U (hj.nth (i:=4) U) U) (tm 4 U ?_)
       refine tf 5 U U (fun _ _ _=>nl (v':=I (((aH.length:Nat):Int) - 1)) U (iZ ob)) ?_
       have ho2:0≤((((aH.length:Nat):Int) - 1):Int)∧((((aH.length:Nat):Int) - 1):Int) < ((aH).length:Int):=ob
       obtain ⟨bk2,hbk2⟩:=ei.ve (gH.mono Span.aJ hlr1) ob
       refine tf 6 U U (fun _ _ _=>Au (R:=Span.rp) (xs:=aH) mX ty46 hbk2 ho2 U U U) ?_
       refine tf 7 U U (fun _ _ _=>dO uk U) (tf 8 U U (fun _ _ hj=>H9 (R:=Span.rp) (i:=((((aH.length:Nat):Int) - 1):Int).toNat) (off:=1) ty3 (gH.mono Span.aJ hlr1) hbk2 (eN ho2) (fun cs hcs=>by rw [show cs=Span.cells (nthI aH (((aH.length:Nat):Int) - 1)) from hcs];rfl) U (fun p hp=>hj.2 p (by simp only [List.mem_append,List.mem_cons,hp,true_or,or_true]))) ?_)
       refine tf 9 U U (fun _ _ _=>dO wy U) (tf 10 U U (fun _ _ hj=>hY ty3 U (hj.nth (i:=0) U) U) ?_)
       refine tf 11 U U (fun _ _ _=>iH U) (tf 12 U U (fun _ _ _=>cr U) ?_)
       refine tf 13 U U (fun _ _ _=>gG) (cd kr ?_)
       exact hk2 _ ⟨U,U,U,(cb (show ((nthI aH (((aH.length:Nat):Int) - 1)).Until==y1.From)=(decide (0 < ((aH.length:Nat):Int))&&((nthI aH (((aH.length:Nat):Int) - 1)).Until==y1.From)) from by rw [c6] <;> rfl)),trivial⟩
      ·have c6p:=of_decide_eq_false c6
       refine tk 3 U U (tk 4 U U ?_)
       refine tk 5 U U (tk 6 U U ?_)
       refine tk 7 U U (tk 8 U U ?_)
       refine tk 9 U U (tk 10 U U ?_)
       refine tk 11 U U (tf 12 U U (fun _ _ _=>cr U) ?_)
       refine tf 13 U U (fun _ _ _=>gG) (cd kr ?_)
       exact hk2 _ ⟨U,U,U,(cb (show false=(decide (0 < ((aH.length:Nat):Int))&&((nthI aH (((aH.length:Nat):Int) - 1)).Until==y1.From)) from by rw [c6] <;> rfl)),trivial⟩
     refine aB U (fun c7=>?_) (fun c7=>?_)
     ·have hs10:=hs9.trans (bt c7)
      refine ah (aL 4 ty34 U U U (aa (az (v':=I (((aH.length:Nat):Int) - 1)) U (iZ ob) (ay uk U (aL 0 ty3 U U U ?_)))))
      have ho3:0≤((((aH.length:Nat):Int) - 1):Int)∧((((aH.length:Nat):Int) - 1):Int) < ((aH).length:Int):=ob
      obtain ⟨bk3,hbk3⟩:=ei.ve (gH.mono Span.aJ hlr1) ob
      refine a8 (gW (Au (R:=Span.rp) (xs:=aH) mX ty46 hbk3 ho3 U U U) (ay uk U (a8 (BE (R:=Span.rp) (i:=((((aH.length:Nat):Int) - 1):Int).toNat) (off:=1) (u:=(nthI aH (((aH.length:Nat):Int) - 1))) (u':=(Span.mk (nthI aH (((aH.length:Nat):Int) - 1)).From y1.Until)) (v:=I y1.Until) ([(b6,O (Span.cells y1) 46),(l1,.loop { lp1 with state:=.busy }),(dm1,.deferred (some [])),(b4,O (aS.cells ((cT aT doc known).1) rr1) 77),(b3,O [.slice eP aH.length eO] 34),(b2,O [.slice em who.length el] 31),(b1,O (Register.cells aT aR) 30)]) eW (markB []) ty3 U (gH.mono Span.aJ hlr1) ap hbk3 (eN ho3) (by decide) (fun cs hcs=>by rw [show cs=Span.cells (nthI aH (((aH.length:Nat):Int) - 1)) from hcs];rfl) U U U (fun G1 gr1=>?_)))))
      refine iF (L':=[(b6,O (Span.cells y1) 46),(l1,.loop { lp1 with state:=.busy }),(dm1,.deferred (some [])),(b4,O (aS.cells ((cT aT doc known).1) rr1) 77),(b3,O [.slice eP ((aH.set ((((aH.length:Nat):Int) - 1):Int).toNat (Span.mk (nthI aH (((aH.length:Nat):Int) - 1)).From y1.Until)).length) eO] 34),(b2,O [.slice em who.length el] 31),(b1,O (Register.cells aT aR) 30)]++(G1++(markB []))) (by simp only [List.length_set,List.append_assoc,List.cons_append,List.nil_append,List.append_nil]) ?_
      refine ac (ao (ao ?_))
      refine cE (L':=[(l1,.loop { lp1 with state:=.busy }),(dm1,.deferred (some [])),(b4,O (aS.cells ((cT aT doc known).1) rr1) 77),(b3,O [.slice eP ((aH.set ((((aH.length:Nat):Int) - 1):Int).toNat (Span.mk (nthI aH (((aH.length:Nat):Int) - 1)).From y1.Until)).length) eO] 34),(b2,O [.slice em who.length el] 31),(b1,O (Register.cells aT aR) 30)]++(G1++(markB []))) js ?_
      refine dW (L':=rdH l1 dm1 lp1 (([(b4,O (aS.cells ((cT aT doc known).1) rr1) 77),(b3,O [.slice eP ((aH.set ((((aH.length:Nat):Int) - 1):Int).toNat (Span.mk (nthI aH (((aH.length:Nat):Int) - 1)).From y1.Until)).length) eO] 34),(b2,O [.slice em who.length el] 31),(b1,O (Register.cells aT aR) 30)]++(G1))++markB [])) ap ?_
      exact nx1 ((aH.set ((((aH.length:Nat):Int) - 1):Int).toNat (Span.mk (nthI aH (((aH.length:Nat):Int) - 1)).From y1.Until)),eP,eO,G1,hr1) _ _ ⟨hs10,gr1,(hl1.t hlr1),(by first | omega | (simp only [List.length_append,List.length_cons,List.length_nil,List.length_set];omega))⟩ (HF.le_refl _)
     ·have hs11:=hs9.trans (bf c7)
      refine ah (aL 4 ty34 U U U (dh 0 ty46 U U U (a8 (cf (cells:=[I y1.From,I y1.Until]) mX ty46 zc46 U U kr (fun b7=>a8 (eK Span.eZ ([(b7,O [I y1.From,I y1.Until] 46),(b6,O (Span.cells y1) 46),(l1,.loop { lp1 with state:=.busy }),(dm1,.deferred (some [])),(b4,O (aS.cells ((cT aT doc known).1) rr1) 77),(b3,O [.slice eP aH.length eO] 34),(b2,O [.slice em who.length el] 31),(b1,O (Register.cells aT aR) 30)]) (markB []) (fun G=>[(b7,O [I y1.From,I y1.Until] 46),(b6,O (Span.cells y1) 46),(l1,.loop { lp1 with state:=.busy }),(dm1,.deferred (some [])),(b4,O (aS.cells ((cT aT doc known).1) rr1) 77),(b3,O [.slice eP aH.length eO] 34),(b2,O [.slice em who.length el] 31),(b1,O (Register.cells aT aR) 30)]++(markB []++(G))) ap (fun _=>ap) mX ty46 zc46 U bytes46 (gH.mono Span.aJ hlr1) U U (ff 0 U (show bW Span.rp hr1 [I y1.From,I y1.Until] ([y1]) from ⟨[I y1.From,I y1.Until],[],U,U,U,U⟩)) lo lo (fun ob1 oc1 G2 gr2=>?_)))))))
      refine wj (rZ ([(b7,O [I y1.From,I y1.Until] 46),(b6,O (Span.cells y1) 46),(l1,.loop { lp1 with state:=.busy }),(dm1,.deferred (some [])),(b4,O (aS.cells ((cT aT doc known).1) rr1) 77),(b3,O [.slice eP aH.length eO] 34),(b2,O [.slice em who.length el] 31),(b1,O (Register.cells aT aR) 30)]) G2 (markB [])) ?_
      refine du 5 ty34 U U U U U U (ac (ao (ao ?_)))
      refine cE (L':=[(l1,.loop { lp1 with state:=.busy }),(dm1,.deferred (some [])),(b4,O (aS.cells ((cT aT doc known).1) rr1) 77),(b3,O [.slice ob1 ((aH++[y1]).length) oc1] 34),(b2,O [.slice em who.length el] 31),(b1,O (Register.cells aT aR) 30)]++(G2++(markB []))) js ?_
      refine dW (L':=rdH l1 dm1 lp1 (([(b4,O (aS.cells ((cT aT doc known).1) rr1) 77),(b3,O [.slice ob1 ((aH++[y1]).length) oc1] 34),(b2,O [.slice em who.length el] 31),(b1,O (Register.cells aT aR) 30)]++(G2))++markB [])) ap ?_
      exact nx1 ((aH++[y1]),ob1,oc1,G2,hr1) _ _ ⟨hs11,gr2,(hl1.t hlr1),(by first | omega | (simp only [List.length_append,List.length_cons,List.length_nil,List.length_set];omega))⟩ (HF.le_refl _)
   ·rintro dm1 ⟨aH,eP,eO,eW,hh1⟩ hn1 ⟨hs12,gH,hl1,u1_0⟩ hln1 hl01
    try dsimp only at gH hl1 u1_0 hln1
    refine dW (L':=[(b4,O (aS.cells ((cT aT doc known).1) rr1) 77),(b3,O [.slice eP aH.length eO] 34),(b2,O [.slice em who.length el] 31),(b1,O (Register.cells aT aR) 30)]++(eW++(markB (dm1::[])))) ap ?_
    refine ao (sr (aL 1 ty34 U U U (du 1 ty34 U U U U U U (an ?_))))
    refine gi Span.aJ ([(b4,O (aS.cells ((cT aT doc known).1) rr1) 77),(b3,O [.slice eP aH.length eO] 34),(b2,O [.slice em who.length el] 31),(b1,O (Register.cells aT aR) 30)]) eW (markB (dm1::[])) ap hM (gH.mono Span.aJ hln1) (fun h3 hle3 sl1=>?_)
    have hs13:aW aT doc who known=(aH,0):=hs12
    refine dW (L':=([(b4,O (aS.cells ((cT aT doc known).1) rr1) 77),(b3,O [.slice eP aH.length eO] 34),(b2,O [.slice em who.length el] 31),(b1,O (Register.cells aT aR) 30)])++markB (dm1::[])) ap ?_
    exact pj (dm1::[]) [.slice eP aH.length eO,I 0] D4 U ⟨⟨1,_,_,_,_,U,U,.inr ⟨_,ty34,U⟩⟩,U,trivial⟩ ⟨eP,eO,congrArg (fun r:((List Span)×Int)=>(.tuple #[.slice eP r.1.length eO,I r.2]:Value)) hs13.symm,(by rw [hs13];exact sl1)⟩
   ·exact fun _ _ _ hF=>hF.elim
   ·exact fun _ _ _ hF=>hF.elim
   ·exact fun _ _ _ _ hF=>hF.elim
theorem qJ (h:HF) (q:aS) (jo:gF) (person:Int) (bQ:Int) (hq:aS.ok h q jo) (hsm:smR q.Register) (hov:okV q.Register.Versions) (hod:(0≤q.doc.At∧q.doc.At≤1099511627776)∧0≤q.doc.Kind) (hk:Kinds h):jP Tryz.prog 38 [.agg (aS.cells q jo).toArray,I person,I bQ] h (fun v h'=>∃ (rb0:Option Addr) (rc0:Nat),v=.slice rb0 (aY q person bQ).length rc0∧SlC Rp.int h' rb0 rc0 (aY q person bQ)):=by
 refine aw Tryz.func38 U Tryz.ntmps38 U fun X hM hX=>?_
 have hs0:aY q person bQ=aY q person bQ:=rfl
 have hjl:=xF q bQ
 have hvl:=hov.1
 refine sr (dC (fun b1=>an (sr (a8 (oC (fun b2=>an (ad (sr (aa (ay mw U (ay oW U (aL 1 ty3 U U U (aF U (ac ?_))))))))))))))
 refine aB U (fun c1=>?_) (fun c1=>?_)
 ·have c1p:=of_decide_eq_true c1
  have hs1:=hs0.trans (bt c1)
  refine sr (an ?_)
  have hs2:aY q person bQ=[]:=hs1
  exact dQ [.slice none 0 0] Tryz.func38 U rd ⟨none,0,congrArg (fun r:(List Int)=>(.slice none r.length 0:Value)) hs2.symm,(by rw [hs2];exact SlC.nil)⟩
 ·have c1p:=of_decide_eq_false c1
  have hs3:=hs0.trans (bf c1)
  refine ai (sr (dh 1 ty77 U U U (aa (a8 (dp Tryz.call65 (me h q jo bQ hq ob hk) U (fun v1 h1 hle1 hp1=>?_))))))
  obtain ⟨rb1,rc1,rfl,sl1⟩:=hp1
  refine aa (bR U U (bR U U (bi (an (ad (sr (aa (bE Bi U (aa (ac ?_))))))))))
  let z1:Nat×Obj:=(b1,O (aS.cells q jo) 77)
  refine bq (ι:=Nat×(List (Int×Bool))×Obj×HF) (fun i=>[(1,I person),(7,.map (some b2))]) (fun i=>i.2.2.2) (fun i=>[(b2,i.2.2.1),z1]) (fun i=>i.1≤((av q bQ).1).length∧aY q person bQ=((aY.K1 person) i.2.1)∧gJ (Value.int .i64) ir i.2.2.2 i.2.2.1 i.2.1∧i.2.1.length≤64000000 * i.1∧HF.le h1 i.2.2.2) ?_ (fun hx1=>?_)
  ·rintro ⟨i1,dx,jp,hh1⟩ ⟨bd,hs4,fS,jN,hl1⟩ e
   try dsimp only at bd fS jN hl1
   try dsimp only
   refine sr (aa (aa (a8 (Gj 0 (k:=person) kW (e7 kx) U fS U U (fun mo4 hm4=>ac (sr (aa (cn 0 U hM (fun h3 hle3 hb1=>?_)))))))))
   have mc1:ou (Value.int .i64) ir h3 b2 (mdel dx person):=⟨_,hb1,hm4.mono ir.mono hle3⟩
   refine a8 (dp Tryz.call61 (oQ h3 (mdel dx person) b2 mc1) U (fun v3 h4 hle4 hp3=>a8 (dp Tryz.call60 (lv h4 v3 ((mdel dx person).map Prod.fst) hp3 (by rw [List.length_map];have:=(xA person dx).length_le;omega)) U (fun v4 h5 hle5 hp4=>?_))))
   obtain ⟨rb4,rc4,rfl,sl4⟩:=hp4
   refine an ?_
   have hs5:aY q person bQ=(sortI ((mdel dx person).map Prod.fst)):=hs4
   exact dQ [.slice rb4 ((sortI ((mdel dx person).map Prod.fst)).length) rc4] Tryz.func38 U rd ⟨rb4,rc4,congrArg (fun r:(List Int)=>(.slice rb4 r.length rc4:Value)) hs5.symm,(by rw [hs5];exact sl4)⟩
  ·refine ck (ι:=Nat×(List (Int×Bool))×Obj×HF×List Policy) (fun i=>[(1,I person),(2,I bQ),(3,Q b1),(7,.map (some b2)),(28,.slice rb1 (((av q bQ).1).length) rc1),(29,I ((((av q bQ).1).length:Nat):Int)),(30,I ((i.1:Nat):Int))]) (fun i=>i.2.2.2.1) (fun i=>[(b2,i.2.2.1),z1]) (fun i=>((av q bQ).1).drop i.1=i.2.2.2.2∧i.1≤((av q bQ).1).length∧aY q person bQ=((aY.L1 q bQ (aY.K1 person)) i.2.2.2.2 i.2.1)∧gJ (Value.int .i64) ir i.2.2.2.1 i.2.2.1 i.2.1∧i.2.1.length≤64000000 * i.1∧HF.le h1 i.2.2.2.1) (fun i=>i.2.2.2.2.length) (0,[],.map #[] 0,h1,(av q bQ).1) rd sw ⟨U,Nat.zero_le _,hs3,((gJ.nil (enc:=(Value.int .i64)) (V:=ir) (h:=h)).mono ir.mono hle1),lc,(HF.le_refl h1)⟩ ?_
   rintro ⟨i1,dx,jp,hh1,s1⟩ ⟨hd1,bd,hs6,fS,jN,hl1⟩ ag1 e
   try dsimp only at hd1 bd fS jN hl1
   rcases s1 with _ | ⟨y1,rz1⟩
   ·have dJ:=cS hd1
    try dsimp only
    refine sr (az (v':=.bool false) U (cb dJ) (ac (ad (ba U (bM U ?_)))))
    exact hx1 (i1,dx,jp,hh1) _ ⟨bd,hs6,fS,lc,hl1⟩ rd
   ·have dI:=dV hd1
    have bh:=cU hd1
    have e9:=aP hd1
    have gO:=sl1.1.1
    obtain ⟨v_,hv_,hve_⟩:=qe (gm hd1)
    have hsp:=hsm.vers.2 v_ hv_
    rw [hve_] at hsp
    have hvt:=hov.2 v_ hv_
    rw [hve_] at hvt
    have hofl:=hsp.2.2.2.1
    have hql:=Aw q y1 bQ
    try dsimp only
    refine sr (az (v':=.bool true) U (cb dI) (ac (ad (bj U (ai (ad (aU (sr (a8 (gX Bi ty68 (sl1.mono Policy.aJ hl1).1 (nthZ bh) (bA bh) U U U (fun q6 cs3 A6 ln3 rr3=>?_)))))))))))
    obtain ⟨r2,rfl,ok2⟩:=rr3
    refine dT ty68 A6 U U (bT zc68 (fun b7=>bJ 0 ty68 U U U U U U (ac (sr (dh 2 ty77 U U U (dh 0 ty68 U U U (aa (a8 (dp Tryz.call66 (lJ hh1 q jo y1 r2 bQ (hq.mono (hle1.t hl1)) ok2 ob ob) U (fun v5 h6 hle6 hp5=>?_))))))))))
    obtain ⟨rb5,rc5,rfl,sl5⟩:=hp5
    refine bE wD U (aa (ac ?_))
    let z2:Nat×Obj:=(b7,O (Policy.cells y1 r2) 68)
    refine bq (ι:=Nat×(List (Int×Bool))×Obj) (fun i=>[(1,I person),(2,I bQ),(3,Q b1),(7,.map (some b2)),(28,.slice rb1 (((av q bQ).1).length) rc1),(29,I ((((av q bQ).1).length:Nat):Int)),(30,I ((i1:Nat):Int))]) (fun i=>h6) (fun i=>[z2,(b2,i.2.2),z1]) (fun i=>i.1≤(aD q y1 bQ).length∧aY q person bQ=((fun zg5_b2_0=>(aY.L1 q bQ (aY.K1 person) rz1 zg5_b2_0)) i.2.1)∧gJ (Value.int .i64) ir h6 i.2.2 i.2.1∧i.2.1.length≤dx.length+2000000 * i.1) ?_ (fun hx5=>?_)
    ·rintro ⟨i5,ju,lH⟩ ⟨j4,hs8,kl,nY⟩ e
     try dsimp only at j4 kl nY
     try dsimp only
     refine ao (ah (az (v':=I (((i1+1):Nat):Int)) U (bP ob) (aa (ac ?_))))
     refine cE (L':=[(b2,lH),z1]) js ?_
     exact ag1 ((i1+1),ju,lH,h6,rz1) _ (Nat.lt_succ_self _) ⟨bF hd1,aP hd1,hs8,kl,lc,(hl1.t hle6)⟩ rd
    ·refine ck (ι:=Nat×(List (Int×Bool))×Obj×List (List Holder)) (fun i=>[(1,I person),(2,I bQ),(3,Q b1),(7,.map (some b2)),(28,.slice rb1 (((av q bQ).1).length) rc1),(29,I ((((av q bQ).1).length:Nat):Int)),(30,I ((i1:Nat):Int)),(37,.slice rb5 ((aD q y1 bQ).length) rc5),(38,I (((aD q y1 bQ).length:Nat):Int)),(39,I ((i.1:Nat):Int))]) (fun i=>h6) (fun i=>[z2,(b2,i.2.2.1),z1]) (fun i=>(aD q y1 bQ).drop i.1=i.2.2.2∧i.1≤(aD q y1 bQ).length∧aY q person bQ=((aY.L5 (fun zg5_b2_0=>(aY.L1 q bQ (aY.K1 person) rz1 zg5_b2_0))) i.2.2.2 i.2.1)∧gJ (Value.int .i64) ir h6 i.2.2.1 i.2.1∧i.2.1.length≤dx.length+2000000 * i.1) (fun i=>i.2.2.2.length) (0,dx,jp,(aD q y1 bQ)) rd sw ⟨U,Nat.zero_le _,hs6,(fS.mono ir.mono hle6),lc⟩ ?_
     rintro ⟨i5,ju,lH,s5⟩ ⟨hd5,za,hs9,kl,nY⟩ ag2 e
     try dsimp only at hd5 za kl nY
     rcases s5 with _ | ⟨y5,rz5⟩
     ·have GI:=cS hd5
      try dsimp only
      refine sr (az (v':=.bool false) U (cb GI) (ac (ad (ba U (bM U ?_)))))
      exact hx5 (i5,ju,lH) _ ⟨za,hs9,kl,lc⟩ rd
     ·have GH:=dV hd5
      have vG:=cU hd5
      have Ia:=aP hd5
      have I6:=sl5.1.1
      have hyb:=rj hsm.2.1 y1 bQ y5 (gm hd5)
      try dsimp only
      refine sr (az (v':=.bool true) U (cb GH) (ac (ad (bj U (ai (ad (aU (sr (a8 (gX wD ty101 sl5.1 (nthZ vG) (bA vG) U U U (fun q11 cs5 A11 ln5 rr5=>?_)))))))))))
      obtain ⟨rb7,rc7,rfl,sl7⟩:=rr5
      refine eM ty101 A11 U (an (sr (aa (bE wC U (aa (ac ?_))))))
      refine bq (ι:=Nat×(List (Int×Bool))×Obj) (fun i=>[(1,I person),(2,I bQ),(3,Q b1),(7,.map (some b2)),(28,.slice rb1 (((av q bQ).1).length) rc1),(29,I ((((av q bQ).1).length:Nat):Int)),(30,I ((i1:Nat):Int)),(37,.slice rb5 ((aD q y1 bQ).length) rc5),(38,I (((aD q y1 bQ).length:Nat):Int)),(39,I ((i5:Nat):Int))]) (fun i=>h6) (fun i=>[z2,(b2,i.2.2),z1]) (fun i=>i.1≤y5.length∧aY q person bQ=((fun zg7_b2_0=>(aY.L5 (fun zg5_b2_0=>(aY.L1 q bQ (aY.K1 person) rz1 zg5_b2_0)) rz5 zg7_b2_0)) i.2.1)∧gJ (Value.int .i64) ir h6 i.2.2 i.2.1∧i.2.1.length≤ju.length+i.1) ?_ (fun hx7=>?_)
      ·rintro ⟨i7,nB,xN⟩ ⟨oz,hs11,py,xO⟩ e
       try dsimp only at oz py xO
       try dsimp only
       refine ao (ah (az (v':=I (((i5+1):Nat):Int)) U (bP ob) (aa (ac ?_))))
       exact ag2 ((i5+1),nB,xN,rz5) _ (Nat.lt_succ_self _) ⟨bF hd5,aP hd5,hs11,py,lc⟩ rd
      ·refine ck (ι:=Nat×(List (Int×Bool))×Obj×List Holder) (fun i=>[(1,I person),(2,I bQ),(3,Q b1),(7,.map (some b2)),(28,.slice rb1 (((av q bQ).1).length) rc1),(29,I ((((av q bQ).1).length:Nat):Int)),(30,I ((i1:Nat):Int)),(37,.slice rb5 ((aD q y1 bQ).length) rc5),(38,I (((aD q y1 bQ).length:Nat):Int)),(39,I ((i5:Nat):Int)),(43,.slice rb7 y5.length rc7),(44,I ((y5.length:Nat):Int)),(45,I ((i.1:Nat):Int))]) (fun i=>h6) (fun i=>[z2,(b2,i.2.2.1),z1]) (fun i=>y5.drop i.1=i.2.2.2∧i.1≤y5.length∧aY q person bQ=((aY.L7 (fun zg7_b2_0=>(aY.L5 (fun zg5_b2_0=>(aY.L1 q bQ (aY.K1 person) rz1 zg5_b2_0)) rz5 zg7_b2_0))) i.2.2.2 i.2.1)∧gJ (Value.int .i64) ir h6 i.2.2.1 i.2.1∧i.2.1.length≤ju.length+i.1) (fun i=>i.2.2.2.length) (0,ju,lH,y5) rd sw ⟨U,Nat.zero_le _,hs9,kl,lc⟩ ?_
       rintro ⟨i7,nB,xN,s7⟩ ⟨hd7,I5,hs12,py,xO⟩ ag3 e
       try dsimp only at hd7 I5 py xO
       rcases s7 with _ | ⟨y7,rz7⟩
       ·have Jh:=cS hd7
        try dsimp only
        refine sr (az (v':=.bool false) U (cb Jh) (ac (ad (ba U (bM U ?_)))))
        exact hx7 (i7,nB,xN) _ ⟨I5,hs12,py,lc⟩ rd
       ·have Jf:=dV hd7
        have Ib:=cU hd7
        have Jl:=aP hd7
        have Jo:=sl7.1.1
        try dsimp only
        refine sr (az (v':=.bool true) U (cb Jf) (ac (ad (bj U (ai (ad (aU (sr (a8 (fZ (enc:=Holder.cells) (fun _ _ _ e=>e) wC ty133 sl7.1 (nthZ Ib) (bA Ib) U U U (fun q13 A13=>?_)))))))))))
        refine dT ty133 A13 U U (bT zc133 (fun b12=>bJ 0 ty133 U U U U U U (ac (ah (aa (ay yq U (aL 0 ty3 U U U (a8 (kg 2 (k:=y7.Person) (x:=true) kW (e7 kx) U py U U U (fun mo9 hm9=>?_))))))))))
        refine ac (ao (ah (az (v':=I (((i7+1):Nat):Int)) U (bP ob) (aa (ac ?_)))))
        refine cE (L':=[z2,(b2,mo9),z1]) js ?_
        exact ag3 ((i7+1),(mput nB y7.Person true),mo9,rz7) _ (Nat.lt_succ_self _) ⟨bF hd7,aP hd7,hs12,hm9,(by have:=gy nB y7.Person true;first | omega | (simp only [List.length_nil,List.length_cons] at *;omega))⟩ rd
theorem ei.anyI {h h':HF} {xs:List Int} {b:Option Addr} {c:Nat} {E:TypeId} {G:LH} (g:ei Rp.int E h xs b c G):ei Rp.int E h' xs b c G:=by
 rcases g with ⟨rfl,rfl,rfl,rfl⟩ | ⟨bk,cl,sp,rfl,hcl,h3,h4,h5,rfl⟩
 ·exact ei.nil
 ·have:=tw hcl
  subst this
  exact .inr ⟨bk,_,sp,U,tF h' _,h3,h4,h5,U⟩
section callGB
variable {P:Program} {b:Frame} {n:Nat} {ops:Array Oper} {F:List Frame→(Machine→Prop)→Prop} {e:Env} {ds:List Deferred} {X:Cx} {h:HF} {L:LH} {K:Env→HF→LH→Prop}
variable {d:Option Nat} {ty:TypeId} {pos:String} {af:Array Edge} {g:Option (Nat×Bool)}
theorem BH (A G Q:LH) {xs ys:List Int} {base:Option Addr} {cap:Nat} {f:FuncId} {ass:Array Operand} {ats:Array TypeId} {vs:List Value} (hc:∀ args w,(callFunc f args).run P w=.ok (.enter f args) w) (hG:ei Rp.int 3 h xs base cap G) (hL:L=A++(G++Q))
  (hs:∀ h1,h.le h1→SlC Rp.int h1 base cap xs→IT P f vs h1 Rp.int 3 ys) (hvs:ass.toList.map e.ev=vs)
  (t':∀ bb c G',ei Rp.int 3 h ys bb c G'→K (pute e d (.slice bb ys.length c)) h (L++G'))
  (hg:guardB ops e ⟨d,.call ⟨.value (.func f),ass,ats⟩,ty,pos,af,g⟩=true:=by rfl):
  Stp P b n ops F ds X ⟨d,.call ⟨.value (.func f),ass,ats⟩,ty,pos,af,g⟩ e h L K:=by
 unfold Stp
 rw [if_pos hg]
 intro w hw
 have harr:ass.map e.ev=vs.toArray:=Array.ext' (by simp [← hvs])
 have hr:(execOp e.ev ⟨d,.call ⟨.value (.func f),ass,ats⟩,ty,pos,af,g⟩).run P w=.ok (.enter f vs.toArray) w:=by
  simp [execOp,resolve,Env.ev,Deferred.ofValue,invoke,harr,hc]
 rw [hr]
 have back:∀ (h1:HF),h.le h1→(∀ bk o,h1 bk=some o→w.heap[bk]? = some o)→SlC Rp.int h1 base cap xs→pN P b n F ds X ⟨d,.call ⟨.value (.func f),ass,ats⟩,ty,pos,af,g⟩ e K (.ok (.enter f vs.toArray) w):=by
  intro h1 hle himm hsl
  have hp1:Pre h1 [] w:=⟨himm,fun _ hp=>(List.not_mem_nil hp).elim,List.nodup_nil,fun _ hp=>(List.not_mem_nil hp).elim⟩
  refine j2 (by simp) (jF (ow.mono (hs h1 hle hsl w hp1) ?_))
  rintro x w' ⟨h',B,hst,rfl,bb,c,rfl,hG'⟩
  have hnew:∀ p∈B,w.heap.size≤p.1:=fun p hp=>(hst.new p hp).elim id (fun hq=>by simp at hq)
  refine ⟨h,L++B,⟨hst.os.trans hw.os,hst.tape.trans hw.tape,hst.output.trans hw.output,Nat.le_trans hw.size hst.size,fun b' hb' hM=>?_,hw.le,hw.old,fun b' o hb'=>?_,fun p hp=>?_,?_,fun p hp=>?_,fun p hp=>?_⟩,t' bb c B hG'.anyI⟩
  ·rw [hst.keep b' (Nat.lt_of_lt_of_le hb' hw.size) (by simp)];exact hw.keep b' hb' hM
  ·rw [hst.keep b' (fE (hw.imm b' o hb')) (by simp)];exact hw.imm b' o hb'
  ·rcases List.mem_append.1 hp with hp | hp
   ·rw [hst.keep p.1 (fE (hw.own p hp)) (by simp)];exact hw.own p hp
   ·exact hst.own p hp
  ·rw [List.map_append,List.nodup_append]
   refine ⟨hw.dis,hst.dis,fun x hx y hy hxy=>?_⟩
   obtain ⟨p,hp,rfl⟩:=List.mem_map.1 hx
   obtain ⟨q,hq,rfl⟩:=List.mem_map.1 hy
   have:=fE (hw.own p hp)
   have:=hnew q hq
   omega
  ·rcases List.mem_append.1 hp with hp | hp
   ·exact hw.free p hp
   ·cases hh:h p.1 with
    | none=>rfl
    | some o=>have:=fE (hw.imm _ _ hh);have:=hnew p hp;omega
  ·rcases List.mem_append.1 hp with hp | hp
   ·exact hw.new p hp
   ·exact .inl (Nat.le_trans hw.size (hnew p hp))
 rcases hG with ⟨rfl,rfl,rfl,rfl⟩ | ⟨bk,cl,sp,rfl,hcl,h3,h4,h5,rfl⟩
 ·exact back h (HF.le_refl h) hw.imm SlC.nil
 ·have hmem:(bk,O (cl++sp) 3)∈L:=by rw [hL];simp
  have hle:h.le (h.add bk (.cells (cl++sp).toArray 3 (0,0))):=HF.tl (hw.free _ hmem)
  refine back _ hle (fun k o hk=>?_) ⟨bW.slB (hcl.mono Rp.cm hle) (HF.pL _ _ _) h5,h4⟩
  unfold HF.add at hk
  by_cases e0:k=bk
  ·subst e0;simp at hk;subst hk;exact hw.own _ hmem
  ·rw [if_neg e0] at hk;exact hw.imm k o hk
end callGB
structure Ba (h:HF) (q:aS) (jo:gF) (person at_:Int) (help:List Int) (hb:Option Addr) (hc:Nat) (q3 q4 q5 q6 q7:Addr) (bw:Nat):Prop where
 hq:aS.ok h q jo
 a3:At h q3 [I person]
 a4:At h q4 (aS.cells q jo)
 a5:At h q5 [I at_]
 a6:At h q6 [.slice hb help.length hc]
 a7:At h q7 [.func (.func 39) #[] #[.pointer (some ⟨bw,0,none⟩),.pointer (some q3),.pointer (some q4),.pointer (some q5),.pointer (some q6),.pointer (some q7)]]
 hh:SlC Rp.int h hb hc help
 kk:Kinds h
 sm:smR q.Register
 ov:okV q.Register.Versions
 od:(0≤q.doc.At∧q.doc.At≤1099511627776)∧0≤q.doc.Kind
 le:help.length≤12
@[reducible] def needClo (q3 q4 q5 q6 q7:Addr) (bw:Nat):List Value:=[.pointer (some ⟨bw,0,none⟩),.pointer (some q3),.pointer (some q4),.pointer (some q5),.pointer (some q6),.pointer (some q7)]
@[reducible] def needCell (bw:Nat) (b:Option Addr) (n c:Nat):Nat×Obj:=(bw,.cells [Value.slice b n c].toArray 31 (0,0))
@[reducible] def needR (h:HF) (bw:Nat) (ws:List Int) (r:Option (List Int)):Ending→HF→LH→Prop:=fun x h' B=>h'=h∧x=.returned (.bool r.isSome)∧∃ rb rc G',ei Rp.int 3 h (r.getD ws) rb rc G'∧B=needCell bw rb (r.getD ws).length rc::G'
theorem C4 {h:HF} {q:aS} {jo:gF} {person at_:Int} {help:List Int} {hb:Option Addr} {hc:Nat} {q3 q4 q5 q6 q7:Addr} {bw:Nat} (N:Ba h q jo person at_ help hb hc q3 q4 q5 q6 q7 bw)
  (fr:Nat) (ws:List Int) (wb:Option Addr) (wc:Nat) (G:LH) (hG:ei Rp.int 3 h ws wb wc G) (hws:ws.length≤100):
  oq Tryz.prog 39 ([Value.int .i64 (fr:Nat),Value.int .i64 ((0:Nat):Int)]++needClo q3 q4 q5 q6 q7 bw).toArray h (needCell bw wb ws.length wc::G) (needR h bw ws (tryP (needC q person at_) help 0 fr ws)):=by
 refine aw D3 U Tryz.ntmps39 U fun X hM hX=>?_
 refine sr (an ?_)
 refine ad (sr (aa (az (v':=.bool true) U U (ac (bj U ?_)))))
 refine ad (Ai (ι:=Nat×Option Addr×Nat×LH) (fun i=>[(2,.pointer (some ⟨bw,0,none⟩)),(4,.pointer (some q4)),(5,.pointer (some q5)),(11,.slice i.2.1 (ws++[person]).length i.2.2.1)])
  (fun i=>((i.1,.cells [Value.int .i64 person].toArray 3 (0,0))::needCell bw wb ws.length wc::G)++i.2.2.2) (fun i=>ei Rp.int 3 h (ws++[person]) i.2.1 i.2.2.1 i.2.2.2) ?_ (fun hk=>?_))
 ·rintro ⟨bs,bb,c,G2⟩ hG2 e
  dsimp only at hG2
  try dsimp only
  refine sr (aa ?_)
  refine a8 (qX ((bs,.cells [Value.int .i64 person].toArray 3 (0,0))::needCell bw wb ws.length wc::G) G2 [] Tryz.call41 (lS h _ bb c G2 hG2 (by rw [List.length_append,List.length_cons,List.length_nil];omega)) (by simp) U (fun G3 hG3=>?_))
  refine ac (sr (dT ty77 N.a4 U U (aa (eM ty3 N.a5 U ?_))))
  refine a8 (BG (v:=.bool (needC q person at_ ws)) ((bs,.cells [Value.int .i64 person].toArray 3 (0,0))::needCell bw wb ws.length wc::G) G3 [] Tryz.call30 Rp.cm hG3 U
   (fun h1 hle hsl=>mG h1 q jo _ _ _ at_ (N.hq.mono hle) hsl N.sm N.ov N.od (by rw [iI,List.length_append,List.length_cons,List.length_nil];omega) (N.kk.mono hle)) (by rw [iI];rfl) ?_)
  refine an ?_
  have e1:tryP (needC q person at_) help 0 fr ws=bif needC q person at_ ws then some ws else none:=rfl
  refine nj D3 (fun a ha w hw=>res1 U a ha w) (fun w hw=>(hw.sub (L':=needCell bw wb ws.length wc::G) js).lower) ⟨hX,?_,wb,wc,G,?_,?_⟩
  ·rw [e1];cases needC q person at_ ws <;> rfl
  ·rw [e1];cases needC q person at_ ws <;> exact hG
  ·rw [e1];cases needC q person at_ ws <;> rfl
 refine (gr [needCell bw wb ws.length wc] mixed kr ⟨HF.le_refl _,fun p hp=>by rw [List.mem_singleton.1 hp];exact List.mem_cons_self ..⟩ (fun hsep hj0=>?_))
 refine nL 0 hsep hj0 U U kr U (fun _ _ hj=>hY ty31 U (hj.nth (i:=0) U) U) ?_
 refine nL 2 hsep hj0 U U kr U (fun _ _ hj=>gu ty3 (N.a3.mono hj.1) U) ?_
 refine lQ 1 3 kr U U ?_ ?_
 ·refine BH [needCell bw wb ws.length wc] G [] Tryz.call40 hG (by simp) (fun h1 hle hsl=>lw h1 ws wb wc hsl ob) U (fun bb c G2 hG2=>?_)
  refine ⟨⟨HF.le_refl _,fun p hp=>by rw [List.mem_singleton.1 hp];exact List.mem_cons_self ..⟩,?_⟩
  refine tn 3 U (cf (cells:=[I person]) eG ty3 zc3 U U kr (fun bs=>?_))
  refine ⟨⟨HF.le_refl _,fun p hp=>by rw [List.mem_singleton.1 hp];exact List.mem_cons_of_mem _ (List.mem_cons_self ..)⟩,?_⟩
  refine tn 4 U (eK Rp.jY ((bs,.cells [Value.int .i64 person].toArray 3 (0,0))::needCell bw wb ws.length wc::G) [] (fun G'=>((bs,.cells [Value.int .i64 person].toArray 3 (0,0))::needCell bw wb ws.length wc::G)++([]++G')) (by simp) (fun _=>U) eG ty3 zc3 U bytes3 hG2 U U
   (ff 0 rfl (show bW Rp.int h [I person] [person] from ⟨[I person],[],rfl,rfl,rfl,rfl⟩)) lo lo (fun bb3 c3 G3 hG3=>?_))
  refine ⟨⟨HF.le_refl _,fun p hp=>by rw [List.mem_singleton.1 hp];simp⟩,?_⟩
  refine tn 5 U (gW gG ?_)
  refine ⟨⟨HF.le_refl _,fun p hp=>by rw [List.mem_singleton.1 hp];simp⟩,?_⟩
  refine cd kr ?_
  exact hk (bs,bb3,c3,G3) _ hG3 rd
 ·refine cf (cells:=[I person]) eG ty3 zc3 U U kr (fun bs=>?_)
  refine ⟨⟨HF.le_refl _,fun p hp=>by rw [List.mem_singleton.1 hp];exact List.mem_cons_of_mem _ (List.mem_cons_self ..)⟩,?_⟩
  refine tn 1 U (BH [(bs,.cells [Value.int .i64 person].toArray 3 (0,0)),needCell bw wb ws.length wc] G [] Tryz.call40 hG (by simp) (fun h1 hle hsl=>lw h1 ws wb wc hsl ob) U (fun bb c G2 hG2=>?_))
  refine ⟨⟨HF.le_refl _,fun p hp=>by rw [List.mem_singleton.1 hp];exact List.mem_cons_of_mem _ (List.mem_cons_self ..)⟩,?_⟩
  refine tn 4 U (eK Rp.jY ((bs,.cells [Value.int .i64 person].toArray 3 (0,0))::needCell bw wb ws.length wc::G) [] (fun G'=>((bs,.cells [Value.int .i64 person].toArray 3 (0,0))::needCell bw wb ws.length wc::G)++([]++G')) (by simp) (fun _=>U) eG ty3 zc3 U bytes3 hG2 U U
   (ff 0 rfl (show bW Rp.int h [I person] [person] from ⟨[I person],[],rfl,rfl,rfl,rfl⟩)) lo lo (fun bb3 c3 G3 hG3=>?_))
  refine ⟨⟨HF.le_refl _,fun p hp=>by rw [List.mem_singleton.1 hp];simp⟩,?_⟩
  refine tn 5 U (gW gG ?_)
  refine ⟨⟨HF.le_refl _,fun p hp=>by rw [List.mem_singleton.1 hp];simp⟩,?_⟩
  refine cd kr ?_
  exact hk (bs,bb3,c3,G3) _ hG3 rd
theorem E0 (c:List Int→Bool) (help:List Int) (m i:Nat) (ws:List Int) (hi:i+(m+1)≤help.length):
  (List.range' i (help.length - m - i)).findSome? (fun i=>tryP c help m (i+1) (ws++[nthI help ((i:Nat):Int)])) =
   match tryP c help m (i+1) (ws++[nthI help ((i:Nat):Int)]) with
   | some r=>some r
   | none=>(List.range' (i+1) (help.length - m - (i+1))).findSome? fun i=>tryP c help m (i+1) (ws++[nthI help ((i:Nat):Int)]):=by
 rw [show help.length - m - i=(help.length - m - (i+1))+1 from by omega,List.range'_succ,List.findSome?_cons]
 cases tryP c help m (i+1) (ws++[nthI help ((i:Nat):Int)]) <;> rfl
theorem yF {h:HF} {q:aS} {jo:gF} {person at_:Int} {help:List Int} {hb:Option Addr} {hc:Nat} {q3 q4 q5 q6 q7:Addr} {bw:Nat} (N:Ba h q jo person at_ help hb hc q3 q4 q5 q6 q7 bw):
  ∀ (m fr:Nat) (ws:List Int) (wb:Option Addr) (wc:Nat) (G:LH),ei Rp.int 3 h ws wb wc G→ws.length+m≤100→fr≤100 →
  oq Tryz.prog 39 ([Value.int .i64 (fr:Nat),Value.int .i64 ((m:Nat):Int)]++needClo q3 q4 q5 q6 q7 bw).toArray h (needCell bw wb ws.length wc::G) (needR h bw ws (tryP (needC q person at_) help m fr ws))
 | 0,fr,ws,wb,wc,G,hG,hws,_=>C4 N fr ws wb wc G hG ob
 | m+1,fr,ws,wb,wc,G,hG,hws,hfr=>by
  have hle:=N.le
  refine aw D3 U Tryz.ntmps39 U fun X hM hX=>?_
  refine sr (an ?_)
  refine ad (sr (aa (az (v':=.bool false) U (by show Value.bool _=_;congr 1) (ac (ba U (ai ?_))))))
  refine ad (sr (aa (an ?_)))
  refine bq (ι:=Option Addr×Nat×LH) (fun i=>[]) (fun i=>h) (fun i=>needCell bw i.1 ws.length i.2.1::i.2.2)
   (fun i=>tryP (needC q person at_) help (m+1) fr ws=none∧ei Rp.int 3 h ws i.1 i.2.1 i.2.2) ?_ (fun hx=>?_)
  ·rintro ⟨b1,c1,G1⟩ ⟨h1,h2⟩ e
   dsimp only at h1 h2
   try dsimp only
   refine sr (an ?_)
   refine nj D3 (fun a ha w hw=>res1 U a ha w) (fun w hw=>hw.lower) ⟨hX,?_,b1,c1,G1,?_,?_⟩
   ·rw [h1];rfl
   ·rw [h1];exact h2
   ·rw [h1];rfl
  ·refine ck (ι:=Nat×Option Addr×Nat×LH) (fun i=>[(1,I ((m+1:Nat):Int)),(2,.pointer (some ⟨bw,0,none⟩)),(3,.pointer (some q3)),(4,.pointer (some q4)),(5,.pointer (some q5)),(6,.pointer (some q6)),(7,.pointer (some q7)),(12,I ((i.1:Nat):Int))]) (fun i=>h) (fun i=>needCell bw i.2.1 ws.length i.2.2.1::i.2.2.2)
    (fun i=>i.1≤100∧tryP (needC q person at_) help (m+1) fr ws=(List.range' i.1 (help.length - m - i.1)).findSome? (fun i=>tryP (needC q person at_) help m (i+1) (ws++[nthI help ((i:Nat):Int)]))∧ei Rp.int 3 h ws i.2.1 i.2.2.1 i.2.2.2)
    (fun i=>101 - i.1) (fr,wb,wc,G) rd (fun w hw=>hw) ⟨hfr,rfl,hG⟩ ?_
   rintro ⟨i,b1,c1,G1⟩ ⟨hi,ht,hG1⟩ ag e
   dsimp only at hi ht hG1
   try dsimp only
   refine ad (sr (aa (aa (az (v':=I ((i+(m+1):Nat):Int)) U (iZ ob) (eM ty31 N.a6 U (bE eG U ?_))))))
   rcases Nat.lt_or_ge help.length (i+(m+1)) with hlt | hge
   ·refine az (v':=.bool false) U (cb (decide_eq_false ob)) (ac (ba U (bM U ?_)))
    refine hx (b1,c1,G1) _ ⟨?_,hG1⟩ trivial
    rw [ht,show help.length - m - i=0 from by omega];rfl
   ·refine az (v':=.bool true) U (cb (decide_eq_true ob)) (ac (bj U (ai ?_)))
    have hz:0≤((i:Nat):Int)∧((i:Nat):Int) < (help.length:Int):=by omega
    rw [E0 _ _ _ _ _ hge] at ht
    refine ad (aU ?_)
    refine ad (Ai (ι:=Option Addr×Nat×LH) (fun i'=>[(1,I ((m+1:Nat):Int)),(2,.pointer (some ⟨bw,0,none⟩)),(3,.pointer (some q3)),(4,.pointer (some q4)),(5,.pointer (some q5)),(6,.pointer (some q6)),(7,.pointer (some q7)),(12,I ((i:Nat):Int))])
     (fun i'=>needCell bw i'.1 (ws++[nthI help ((i:Nat):Int)]).length i'.2.1::i'.2.2) (fun i'=>ei Rp.int 3 h (ws++[nthI help ((i:Nat):Int)]) i'.1 i'.2.1 i'.2.2) ?_ (fun hk=>?_))
    ·rintro ⟨b2,c2,G2⟩ hG2 e
     dsimp only at hG2
     try dsimp only
     refine ad (sr (eM ty90 N.a7 U (aa (az (v':=I ((i+1:Nat):Int)) U (bP ob) (aa (az (v':=I ((m:Nat):Int)) U (by rw [iZ ob];congr 1;omega) ?_))))))
     refine a8 (tT [] (needCell bw b2 (ws++[nthI help ((i:Nat):Int)]).length c2::G2) U (kE (args:=[Value.int .i64 ((i+1:Nat):Int),Value.int .i64 ((m:Nat):Int)]) (cap:=needClo q3 q4 q5 q6 q7 bw) Tryz.call39 (yF N m (i+1) (ws++[nthI help ((i:Nat):Int)]) b2 c2 G2 hG2 (by rw [List.length_append,List.length_cons,List.length_nil];omega) ob)) U U (fun v h' B hl hR=>?_) (fun ch h' B hl hR=>by cases hR.2.1))
     obtain ⟨rfl,hv,b3,c3,G3,hG3,rfl⟩:=hR
     cases hv
     rw [List.nil_append]
     cases hr:tryP (needC q person at_) help m (i+1) (ws++[nthI help ((i:Nat):Int)]) with
     | some r=>
      rw [hr] at hG3 ht
      dsimp only [Option.getD] at hG3
      refine ac (bj U (sr (an ?_)))
      refine nj D3 (fun a ha w hw=>res1 U a ha w) (fun w hw=>hw.lower) ⟨hX,?_,b3,c3,G3,?_,?_⟩
      ·rw [ht];rfl
      ·rw [ht];exact hG3
      ·rw [ht];rfl
     | none=>
      rw [hr] at hG3 ht
      dsimp only [Option.getD] at hG3
      refine ac (ba U (ai ?_))
      have hlen:(ws++[nthI help ((i:Nat):Int)]).length=ws.length+1:=by simp
      have htk:(ws++[nthI help ((i:Nat):Int)]).take ((ws.length:Nat):Int).toNat=ws:=by simp
      refine ah (aL 0 ty31 U U U (aL 0 ty31 U U U (bE eG U (az (v':=I ((ws.length:Nat):Int)) U (by dsimp only [Option.getD];rw [iZ ob];congr 1;omega) ?_))))
      refine a8 (BF (z:=((ws.length:Nat):Int)) eG ty3 hG3 ob U U U ?_)
      have hG4:=hG3.take ((ws.length:Nat):Int).toNat
      rw [htk] at hG4 ⊢
      refine du 0 ty31 U U U U U U (ac (ao ?_))
      refine ah (aa (az (v':=I ((i+1:Nat):Int)) U (bP ob) (an ?_)))
      exact ag (i+1,b3,c3,G3) _ (by show 101 - (i+1) < 101 - i;omega) ⟨by show i+1≤100;omega,ht,hG4⟩ rd
    ·refine gr [] mixed kr ⟨HF.le_refl _,fun p hp=>(List.not_mem_nil hp).elim⟩ (fun hsep hj0=>?_)
     refine nL 1 hsep hj0 U U kr U (fun _ _ hj=>gu ty31 (N.a6.mono hj.1) U) ?_
     refine nL 2 hsep hj0 U U kr U (fun _ _ _=>Gn) ?_
     refine fR 3 (R:=Rp.int) (enc:=fun x=>[Value.int .i64 x]) hsep hj0 (fun _ _ _ hr=>hr) eG ty3 N.hh.1 hz (eN hz) U U U U kr (fun qa A5=>?_)
     refine nL 4 hsep hj0 U U kr U (fun _ _ hj=>gu ty3 (A5.mono hj.1) U) ?_
     refine lQ 0 5 kr U U ?_ ?_
     ·refine gW (hY ty31 U (List.mem_cons_self ..) U) ?_
      refine ⟨⟨HF.le_refl _,fun p hp=>(List.not_mem_nil hp).elim⟩,?_⟩
      refine tn 5 U (cf (cells:=[I (nthI help ((i:Nat):Int))]) eG ty3 zc3 U U kr (fun bs=>?_))
      refine ⟨⟨HF.le_refl _,fun p hp=>(List.not_mem_nil hp).elim⟩,?_⟩
      refine tn 6 U (eK Rp.jY [(bs,.cells [Value.int .i64 (nthI help ((i:Nat):Int))].toArray 3 (0,0)),needCell bw b1 ws.length c1] [] (fun G'=>[(bs,.cells [Value.int .i64 (nthI help ((i:Nat):Int))].toArray 3 (0,0)),needCell bw b1 ws.length c1]++([]++G')) (by simp) (fun _=>U) eG ty3 zc3 U bytes3 hG1 U U
       (ff 0 rfl (show bW Rp.int h [I (nthI help ((i:Nat):Int))] [nthI help ((i:Nat):Int)] from ⟨[I (nthI help ((i:Nat):Int))],[],rfl,rfl,rfl,rfl⟩)) lo lo (fun b3 c3 G3 hG3=>?_))
      refine ⟨⟨HF.le_refl _,fun p hp=>(List.not_mem_nil hp).elim⟩,?_⟩
      refine tn 7 U (j7 1 ty31 U U U U U U ?_)
      refine ⟨⟨HF.le_refl _,fun p hp=>(List.not_mem_nil hp).elim⟩,?_⟩
      refine cd kr ?_
      refine cE (L':=needCell bw b3 (ws++[nthI help ((i:Nat):Int)]).length c3::G3) js ?_
      exact hk (b3,c3,G3) _ hG3 rd
     ·refine cf (cells:=[I (nthI help ((i:Nat):Int))]) eG ty3 zc3 U U kr (fun bs=>?_)
      refine ⟨⟨HF.le_refl _,fun p hp=>(List.not_mem_nil hp).elim⟩,?_⟩
      refine tn 0 U (gW (hY ty31 U (List.mem_cons_of_mem _ (List.mem_cons_self ..)) U) ?_)
      refine ⟨⟨HF.le_refl _,fun p hp=>(List.not_mem_nil hp).elim⟩,?_⟩
      refine tn 6 U (eK Rp.jY [(bs,.cells [Value.int .i64 (nthI help ((i:Nat):Int))].toArray 3 (0,0)),needCell bw b1 ws.length c1] [] (fun G'=>[(bs,.cells [Value.int .i64 (nthI help ((i:Nat):Int))].toArray 3 (0,0)),needCell bw b1 ws.length c1]++([]++G')) (by simp) (fun _=>U) eG ty3 zc3 U bytes3 hG1 U U
       (ff 0 rfl (show bW Rp.int h [I (nthI help ((i:Nat):Int))] [nthI help ((i:Nat):Int)] from ⟨[I (nthI help ((i:Nat):Int))],[],rfl,rfl,rfl,rfl⟩)) lo lo (fun b3 c3 G3 hG3=>?_))
      refine ⟨⟨HF.le_refl _,fun p hp=>(List.not_mem_nil hp).elim⟩,?_⟩
      refine tn 7 U (j7 1 ty31 U U U U U U ?_)
      refine ⟨⟨HF.le_refl _,fun p hp=>(List.not_mem_nil hp).elim⟩,?_⟩
      refine cd kr ?_
      refine cE (L':=needCell bw b3 (ws++[nthI help ((i:Nat):Int)]).length c3::G3) js ?_
      exact hk (b3,c3,G3) _ hG3 rd
theorem lj (h:HF) (aT:Register) (aR:ep) (doc:Int) (person:Int) (hZ:Int) (known:Int) (iX:Register.ok h aT aR) (hsm:smR aT) (hk:Kinds h):
  jP Tryz.prog 14 [.agg (Register.cells aT aR).toArray,I doc,I person,I hZ,I known] h (fun v h'=>∃ (rb0:Option Addr) (rc0:Nat),v=.tuple #[.slice rb0 ((ia aT doc person hZ known).1).length rc0,.bool ((ia aT doc person hZ known).2.1),I ((ia aT doc person hZ known).2.2)]∧SlC Rp.int h' rb0 rc0 ((ia aT doc person hZ known).1)):=by
 refine aw Bh U Tryz.ntmps14 U fun X hM hX=>?_
 refine sr (dC (fun b5=>dC (fun b7=>dC (fun b8=>bT zc31 (fun b10=>bi (an ?_))))))
 refine ad (sr (dh 3 ty30 U U U (aA (v:=I (fa aT)) Tryz.call26 (rE h aT aR iX hsm hk) U (aF U (ac ?_)))))
 refine aB U (fun c1=>?_) (fun c1=>?_)
 ·have e1:ia aT doc person hZ known=([],false,300):=by unfold ia;rw [c1];rfl
  rw [e1]
  refine sr (du 0 ty31 U U U U U U (bi (an ?_)))
  exact dQ [.slice none 0 0,.bool false,I 300] Bh U ⟨⟨0,_,_,_,_,U,U,.inr ⟨_,ty31,U⟩⟩,U,U,trivial⟩ ⟨none,0,U,SlC.nil⟩
 refine ai (sr (dh 3 ty30 U U U (aa (aa (a8 (dp Tryz.call27 (vS h aT aR doc known iX) U (fun v1 h1 hle1 hp1=>?_)))))))
 obtain ⟨rr1,rfl,ok1⟩:=hp1
 refine aa (bR U U (bR U U (bT zc77 (fun b13=>bJ 0 ty77 U U U U U U (an ?_)))))
 refine ad (sr (aa (cR U (aa ?_))))
 refine tq 3 [(7,Q b7),(8,Q b8),(10,Q b10),(13,Q b13),(32,.bool ((!((cT aT doc known).2))||decide (person < 0)))] (fun hk1=>?_) (fun e=>?_)
 ·refine au 29 U (fun c2=>?_) (fun c2=>?_)
  ·refine kq (ae U ?_)
   exact hk1 _ ⟨U,U,U,U,(cb (eB c2)),trivial⟩
  ·refine aL 3 ty3 U U U (aF U (ae U ?_))
   exact hk1 _ ⟨U,U,U,U,(cb (eE c2)),trivial⟩
 refine aa ?_
 refine tq 3 [(7,Q b7),(8,Q b8),(10,Q b10),(13,Q b13),(36,.bool (((!((cT aT doc known).2))||decide (person < 0))||decide (64≤person)))] (fun hk1=>?_) (fun e=>?_)
 ·refine au 33 U (fun c2=>?_) (fun c2=>?_)
  ·refine kq (ae U ?_)
   exact hk1 _ ⟨U,U,U,U,(cb (eB c2)),trivial⟩
  ·refine aL 3 ty3 U U U (aF U (ae U ?_))
   exact hk1 _ ⟨U,U,U,U,(cb (eE c2)),trivial⟩
 refine aa ?_
 refine tq 4 [(7,Q b7),(8,Q b8),(10,Q b10),(13,Q b13),(41,.bool ((((!((cT aT doc known).2))||decide (person < 0))||decide (64≤person))||(!(jK hZ))))] (fun hk1=>?_) (fun e=>?_)
 ·refine au 37 U (fun c2=>?_) (fun c2=>?_)
  ·refine kq (bY (ae U ?_))
   exact hk1 _ ⟨U,U,U,U,(cb (eB c2)),trivial⟩
  ·refine aL 2 ty3 U U U (aA (v:=.bool (jK hZ)) Tryz.call37 (uA h1 hZ) U (cR U (ae U ?_)))
   exact hk1 _ ⟨U,U,U,U,(cb (eE c2)),trivial⟩
 refine ac ?_
 refine aB U (fun c3=>?_) (fun c3=>?_)
 ·have e1:ia aT doc person hZ known=([],false,1):=by unfold ia;rw [c1,c3];rfl
  rw [e1]
  refine sr (du 1 ty31 U U U U U U (bi (an ?_)))
  exact dQ [.slice none 0 0,.bool false,I 1] Bh U ⟨⟨1,_,_,_,_,U,U,.inr ⟨_,ty31,U⟩⟩,U,U,trivial⟩ ⟨none,0,U,SlC.nil⟩
 have a_:=asked (r:=aT) (doc:=doc) (known:=known) (by simpa using c1) (by simp only [Bool.or_eq_false_iff,Bool.not_eq_false'] at c3;exact c3.1.1.1)
 have hsm2:smR (cT aT doc known).1.Register:=by rw [a_.reg];exact hsm
 have hov2:okV (cT aT doc known).1.Register.Versions:=by rw [a_.reg];exact a_.vers.okV
 have hod2:(0≤(cT aT doc known).1.doc.At∧(cT aT doc known).1.doc.At≤1099511627776)∧0≤(cT aT doc known).1.doc.Kind:=⟨⟨a_.doc.at_.1,Int.le_of_lt a_.doc.at_.2⟩,a_.doc.kind.1⟩
 have e0:ia aT doc person hZ known=bif decide (12 < (((aY (cT aT doc known).1 person hZ).length:Nat):Int)) then (([],false,2):List Int×Bool×Int)
   else match needLoop (needC (cT aT doc known).1 person hZ) (aY (cT aT doc known).1 person hZ) with
    | some l=>((l,true,0):List Int×Bool×Int)
    | none=>([],false,0):=by unfold ia;rw [c1,c3];rfl
 rw [e0]
 generalize (cT aT doc known).1=q at *
 refine ai (sr (dh 0 ty77 U U U (aL 3 ty3 U U U (aL 2 ty3 U U U (a8 (dp Tryz.call38 (qJ h1 q rr1 person hZ ok1 hsm2 hov2 hod2 (hk.mono hle1)) U (fun v2 h2 hle2 hp2=>?_)))))))
 obtain ⟨hb,hc,rfl,slh⟩:=hp2
 generalize aY q person hZ=help at *
 refine bT zc31 (fun b14=>du 0 ty31 U U U U U U (ac ?_))
 refine ad (sr (aL 0 ty31 U U U (bE eG U (aF U (ac ?_)))))
 refine aB U (fun c4=>?_) (fun c4=>?_)
 ·rw [show decide (12 < ((help.length:Nat):Int))=true from c4,cond_true]
  refine sr (du 2 ty31 U U U U U U (bi (an ?_)))
  exact dQ [.slice none 0 0,.bool false,I 2] Bh U ⟨⟨2,_,_,_,_,U,U,.inr ⟨_,ty31,U⟩⟩,U,U,trivial⟩ ⟨none,0,U,SlC.nil⟩
 rw [show decide (12 < ((help.length:Nat):Int))=false from c4,cond_false]
 have hlen:help.length≤12:=by have:=of_decide_eq_false c4;omega
 refine ai (sr (bT zc90 (fun b15=>ac ?_)))
 refine sr (a8 (gj U U (du 0 ty90 U U U U U U (ac ?_))))
 refine fV 0 U hM (fun h3 l3 f15=>fV 0 U hM (fun h4 l4 f14=>fV 0 U hM (fun h5 l5 f13=>fV 1 U hM (fun h6 l6 f8=>fV 1 U hM (fun h7 l7 f7=>?_)))))
 have l27:h2.le h7:=HF.le_trans l3 (l4.t (l5.t (l6.t l7)))
 have N:Ba h7 q rr1 person hZ help hb hc ⟨b7,0,none⟩ ⟨b13,0,none⟩ ⟨b8,0,none⟩ ⟨b14,0,none⟩ ⟨b15,0,none⟩ b10:=
  ⟨ok1.mono (hle2.t l27),dP f7,(dP f13).mono (l6.t l7),(dP f8).mono l7,(dP f14).mono (l5.t (l6.t l7)),
   (dP f15).mono (l4.t (l5.t (l6.t l7))),slh.mono Rp.cm l27,hk.mono (hle1.t (hle2.t l27)),hsm2,hov2,hod2,hlen⟩
 refine cE (L':=[needCell b10 none 0 0]) js ?_
 refine ad (sr (eM ty31 N.a6 U (bE eG U (az (v':=I ((help.length+1:Nat):Int)) U (bP ob) (aa (ac ?_))))))
 refine bq (ι:=Option Addr×Nat×LH) (fun i=>[(10,Q b10)]) (fun i=>h7) (fun i=>needCell b10 i.1 0 i.2.1::i.2.2) (fun i=>needLoop (needC q person hZ) help=none) ?_ (fun hx=>?_)
 ·rintro ⟨b1,c1,G1⟩ h1 e
  rw [show needLoop (needC q person hZ) help=none from h1]
  try dsimp only
  refine sr (du 0 ty31 U U U U U U (bi (an ?_)))
  exact dQ [.slice none 0 0,.bool false,I 0] Bh U ⟨⟨0,_,_,_,_,U,U,.inr ⟨_,ty31,U⟩⟩,U,U,trivial⟩ ⟨none,0,U,SlC.nil⟩
 refine ck (ι:=Nat×Option Addr×Nat×LH) (fun i=>[(10,Q b10),(15,Q b15),(52,I ((help.length+1:Nat):Int)),(53,I ((i.1:Nat):Int))]) (fun i=>h7) (fun i=>needCell b10 i.2.1 0 i.2.2.1::i.2.2.2)
  (fun i=>i.1≤help.length+1∧needLoop (needC q person hZ) help=(List.range' i.1 (help.length+1 - i.1)).findSome? (fun many=>tryP (needC q person hZ) help many 0 [])∧ei Rp.int 3 h7 [] i.2.1 i.2.2.1 i.2.2.2)
  (fun i=>help.length+1 - i.1) (0,none,0,[]) rd (fun w hw=>hw) ⟨Nat.zero_le _,rfl,ei.nil⟩ ?_
 rintro ⟨i,b1,c1,G1⟩ ⟨hi,ht,hG1⟩ ag e
 dsimp only at hi ht hG1
 try dsimp only
 rcases Nat.lt_or_ge i (help.length+1) with hlt | hge
 ·refine sr (az (v':=.bool true) U (cb (decide_eq_true ob)) (ac (ad (bj U (ai ?_)))))
  refine ad (aU (sr (aa (an ?_))))
  refine sr (eM ty90 N.a7 U (aa ?_))
  refine a8 (tT [] (needCell b10 b1 0 c1::G1) U (kE (args:=[Value.int .i64 ((0:Nat):Int),Value.int .i64 ((i:Nat):Int)]) (cap:=needClo ⟨b7,0,none⟩ ⟨b13,0,none⟩ ⟨b8,0,none⟩ ⟨b14,0,none⟩ ⟨b15,0,none⟩ b10) Tryz.call39 (yF N i 0 [] b1 c1 G1 hG1 (by rw [List.length_nil];omega) ob)) U U (fun v h' B hl hR=>?_) (fun ch h' B hl hR=>by cases hR.2.1))
  obtain ⟨rfl,hv,b3,c3,G3,hG3,rfl⟩:=hR
  cases hv
  rw [List.nil_append]
  rw [show help.length+1 - i=(help.length+1 - (i+1))+1 from by omega,List.range'_succ,List.findSome?_cons] at ht
  cases hr:tryP (needC q person hZ) help i 0 [] with
  | some r=>
   rw [hr] at hG3 ht
   dsimp only [Option.getD] at hG3
   rw [ht]
   refine ac (bj U (sr (aL 0 ty31 U U U (du 0 ty31 U U U U U U (bi (an ?_))))))
   refine gi Rp.cm [needCell b10 b3 r.length c3] G3 [] (by rw [List.append_nil];rfl) hM hG3 (fun h9 l9 sl9=>?_)
   exact dQ [.slice b3 r.length c3,.bool true,I 0] Bh U ⟨⟨0,_,_,_,_,U,U,.inr ⟨_,ty31,U⟩⟩,U,U,trivial⟩ ⟨b3,c3,U,sl9⟩
  | none=>
   rw [hr] at hG3 ht
   dsimp only [Option.getD] at hG3
   refine ac (ba U (ai (ao ?_)))
   refine ah (az (v':=I ((i+1:Nat):Int)) U (bP ob) (aa (ac ?_)))
   exact ag (i+1,b3,c3,G3) _ (by show help.length+1 - (i+1) < help.length+1 - i;omega) ⟨hlt,ht,hG3⟩ rd
 ·have hie:i=help.length+1:=by omega
  subst hie
  refine sr (az (v':=.bool false) U (cb (decide_eq_false ob)) (ac (ad (ba U (bM U ?_)))))
  refine hx (b1,c1,G1) _ ?_ rd
  show needLoop _ _=none
  rw [ht];simp
theorem rB (h:HF)   : jP Tryz.prog 23 [] h (fun v h'=>∃ (rr0:ep),v=.agg (Register.cells (bO) rr0).toArray∧Register.ok h' (bO) rr0):=by
 refine aw Tryz.func23 U Tryz.ntmps23 U fun X hM hX=>?_
 have hs0:bO=bO:=rfl
 refine sr (bT zc30 (fun b1=>ac (sr (a8 (fO (cells:=[I 2,I 2,I 0,.string (⟨#[104,101,97,100]⟩:ByteArray),.slice none 0 0]) (places:=[(0,1),(1,1),(2,1),(3,1),(4,1)]) Tryz.underlying66 zc66 kr kr ?_)))))
 refine bT zc66 (fun b2=>bJ 0 ty66 U U U U U U (ac (sr (a8 (cf (cells:=[.string (⟨#[107]⟩:ByteArray)]) kV ty9 zc9 U U kr (fun b3=>a8 (cf (cells:=[.string (⟨#[104,101,97,100]⟩:ByteArray)]) kV ty9 zc9 U U kr (fun b4=>?_))))))))
 refine dh 2 ty66 U U U (a8 (fO (cells:=[.string (⟨#[107]⟩:ByteArray),I 0,I 5,I 2,I 2,I 0,.string (⟨#[104,101,97,100]⟩:ByteArray),.slice none 0 0]) (places:=[(0,1),(1,1),(2,1),(3,5)]) Tryz.underlying107 zc107 kr kr ?_))
 refine a8 (cf (cells:=[.string (⟨#[107]⟩:ByteArray),I 0,I 5,I 2,I 2,I 0,.string (⟨#[104,101,97,100]⟩:ByteArray),.slice none 0 0]) jV ty107 zc107 U U kr (fun b5=>dh 3 ty66 U U U ?_))
 refine a8 (fO (cells:=[.string (⟨#[112]⟩:ByteArray),.slice (some ⟨b3,0,none⟩) 1 1,.slice (some ⟨b4,0,none⟩) 1 1,.slice (some ⟨b5,0,none⟩) 1 1,I 2,I 2,I 0,.string (⟨#[104,101,97,100]⟩:ByteArray),.slice none 0 0,I 2]) (places:=[(0,1),(1,1),(2,1),(3,1),(4,5),(9,1)]) Eg zc68 kr kr ?_)
 refine bT zc68 (fun b6=>bJ 0 ty68 U U U U U U (ac (sr (a8 (fO (cells:=[I 1,I 0,I 0,I 0,I 1,I 1,.bool false]) (places:=[(0,1),(1,1),(2,1),(3,1),(4,1),(5,1),(6,1)]) Eh zc59 kr kr ?_)))))
 refine a8 (fO (cells:=[I 2,I 0,I 0,I 0,I 2,I 1,.bool false]) (places:=[(0,1),(1,1),(2,1),(3,1),(4,1),(5,1),(6,1)]) Eh zc59 kr kr (a8 (fO (cells:=[I 3,I 20,I 30,I 0,I 3,I 1,.bool false]) (places:=[(0,1),(1,1),(2,1),(3,1),(4,1),(5,1),(6,1)]) Eh zc59 kr kr ?_)))
 refine a8 (cf (cells:=[I 1,I 0,I 0,I 0,I 1,I 1,.bool false,I 2,I 0,I 0,I 0,I 2,I 1,.bool false,I 3,I 20,I 30,I 0,I 3,I 1,.bool false]) lY ty59 zc59 U U kr (fun b7=>?_))
 refine dh 1 ty68 U U U (a8 (fO (cells:=[I 7,I 0,I 0,.string (⟨#[112]⟩:ByteArray),.slice (some ⟨b3,0,none⟩) 1 1,.slice (some ⟨b4,0,none⟩) 1 1,.slice (some ⟨b5,0,none⟩) 1 1,I 2,I 2,I 0,.string (⟨#[104,101,97,100]⟩:ByteArray),.slice none 0 0,I 2]) (places:=[(0,1),(1,1),(2,1),(3,10)]) Tryz.underlying70 zc70 kr kr ?_))
 refine cn 4 U hM (fun h1 hle1 hb1=>?_)
 have sl1:SlC Rp.str h1 (some ⟨b3,0,none⟩) 1 ([(⟨#[107]⟩:ByteArray)]):=bW.slB0 (T:=9) (fz:=(0,0)) ((show bW Rp.str h [.string (⟨#[107]⟩:ByteArray)] ([(⟨#[107]⟩:ByteArray)]) from ⟨[.string (⟨#[107]⟩:ByteArray)],[],rfl,rfl,rfl,rfl⟩).mono Rp.gx hle1) hb1
 refine cn 3 U hM (fun h2 hle2 hb2=>?_)
 have sl2:SlC Rp.str h2 (some ⟨b4,0,none⟩) 1 ([(⟨#[104,101,97,100]⟩:ByteArray)]):=bW.slB0 (T:=9) (fz:=(0,0)) ((show bW Rp.str h1 [.string (⟨#[104,101,97,100]⟩:ByteArray)] ([(⟨#[104,101,97,100]⟩:ByteArray)]) from ⟨[.string (⟨#[104,101,97,100]⟩:ByteArray)],[],rfl,rfl,rfl,rfl⟩).mono Rp.gx hle2) hb2
 refine cn 2 U hM (fun h3 hle3 hb3=>?_)
 have sl3:SlC Rule.rp h3 (some ⟨b5,0,none⟩) 1 ([(Rule.mk (⟨#[107]⟩:ByteArray) 0 5 (Expr.mk 2 2 0 (⟨#[104,101,97,100]⟩:ByteArray) ([])))]):=bW.slB0 (T:=107) (fz:=(0,0)) ((show bW Rule.rp h2 [.string (⟨#[107]⟩:ByteArray),I 0,I 5,I 2,I 2,I 0,.string (⟨#[104,101,97,100]⟩:ByteArray),.slice none 0 0] ([(Rule.mk (⟨#[107]⟩:ByteArray) 0 5 (Expr.mk 2 2 0 (⟨#[104,101,97,100]⟩:ByteArray) ([])))]) from ⟨[.string (⟨#[107]⟩:ByteArray),I 0,I 5,I 2,I 2,I 0,.string (⟨#[104,101,97,100]⟩:ByteArray),.slice none 0 0],[],rfl,rfl,⟨(uC.mk (cM.mk none 0)),rfl,((show Rule.ok h (Rule.mk (⟨#[107]⟩:ByteArray) 0 5 (Expr.mk 2 2 0 (⟨#[104,101,97,100]⟩:ByteArray) ([]))) (uC.mk (cM.mk none 0)) from ⟨(show Expr.ok h (Expr.mk 2 2 0 (⟨#[104,101,97,100]⟩:ByteArray) ([])) (cM.mk none 0) from Expr.ok.of SlC.nil)⟩).mono (hle1.t hle2))⟩,rfl⟩).mono Rule.aJ hle3) hb3
 refine a8 (cf (cells:=[I 7,I 0,I 0,.string (⟨#[112]⟩:ByteArray),.slice (some ⟨b3,0,none⟩) 1 1,.slice (some ⟨b4,0,none⟩) 1 1,.slice (some ⟨b5,0,none⟩) 1 1,I 2,I 2,I 0,.string (⟨#[104,101,97,100]⟩:ByteArray),.slice none 0 0,I 2]) lu ty70 zc70 U U kr (fun b8=>?_))
 refine a8 (cf (cells:=[I 6]) eG ty3 zc3 U U kr (fun b9=>a8 (fO (cells:=[I 4,I 10,I 0,I 0,I 0,I 100,.slice (some ⟨b9,0,none⟩) 1 1,.slice none 0 0,.slice none 0 0,Y 0,Y 0,Y 0,Y 0,Y 0,Y 0,Y 0,Y 0,Y 0,Y 0,Y 0,Y 0,Y 0,Y 0,Y 0,Y 0,Y 0,Y 0,Y 0,Y 0,Y 0,Y 0,Y 0,Y 0,Y 0,Y 0,Y 0,Y 0,Y 0,Y 0,Y 0,Y 0]) (places:=[(0,1),(1,1),(2,1),(3,1),(4,1),(5,1),(6,1),(7,1),(8,1),(9,32)]) Tryz.underlying52 zc52 kr kr ?_)))
 refine cn 0 U hM (fun h4 hle4 hb4=>?_)
 have sl4:SlC Rp.int h4 (some ⟨b9,0,none⟩) 1 ([6]):=bW.slB0 (T:=3) (fz:=(0,0)) ((show bW Rp.int h3 [I 6] ([6]) from ⟨[I 6],[],rfl,rfl,rfl,rfl⟩).mono Rp.cm hle4) hb4
 refine a8 (cf (cells:=[I 4,I 10,I 0,I 0,I 0,I 100,.slice (some ⟨b9,0,none⟩) 1 1,.slice none 0 0,.slice none 0 0,Y 0,Y 0,Y 0,Y 0,Y 0,Y 0,Y 0,Y 0,Y 0,Y 0,Y 0,Y 0,Y 0,Y 0,Y 0,Y 0,Y 0,Y 0,Y 0,Y 0,Y 0,Y 0,Y 0,Y 0,Y 0,Y 0,Y 0,Y 0,Y 0,Y 0,Y 0,Y 0]) lB ty52 zc52 U U kr (fun b10=>?_))
 refine a8 (fO (cells:=[.slice (some ⟨b7,0,none⟩) 3 3,.slice none 0 0,.slice none 0 0,.slice none 0 0,.slice (some ⟨b8,0,none⟩) 1 1,.slice (some ⟨b10,0,none⟩) 1 1,.slice none 0 0]) (places:=[(0,1),(1,1),(2,1),(3,1),(4,1),(5,1),(6,1)]) Ei zc30 kr kr ?_)
 refine bJ 5 ty30 U U U U U U (ac ?_)
 refine fV 2 U hM (fun h5 hle5 hb5=>?_)
 have sl5:SlC Appoint.rp h5 (some ⟨b7,0,none⟩) 3 ([(Appoint.mk 1 0 0 0 1 1 false),(Appoint.mk 2 0 0 0 2 1 false),(Appoint.mk 3 20 30 0 3 1 false)]):=bW.slB0 (T:=59) (fz:=(0,0)) ((show bW Appoint.rp h4 [I 1,I 0,I 0,I 0,I 1,I 1,.bool false,I 2,I 0,I 0,I 0,I 2,I 1,.bool false,I 3,I 20,I 30,I 0,I 3,I 1,.bool false] ([(Appoint.mk 1 0 0 0 1 1 false),(Appoint.mk 2 0 0 0 2 1 false),(Appoint.mk 3 20 30 0 3 1 false)]) from ⟨[I 1,I 0,I 0,I 0,I 1,I 1,.bool false],[I 2,I 0,I 0,I 0,I 2,I 1,.bool false,I 3,I 20,I 30,I 0,I 3,I 1,.bool false],rfl,rfl,rfl,⟨[I 2,I 0,I 0,I 0,I 2,I 1,.bool false],[I 3,I 20,I 30,I 0,I 3,I 1,.bool false],rfl,rfl,rfl,⟨[I 3,I 20,I 30,I 0,I 3,I 1,.bool false],[],rfl,rfl,rfl,rfl⟩⟩⟩).mono Appoint.aJ hle5) hb5
 refine fV 1 U hM (fun h6 hle6 hb6=>?_)
 have sl6:SlC Version.rp h6 (some ⟨b8,0,none⟩) 1 ([(Version.mk 7 0 0 (Policy.mk (⟨#[112]⟩:ByteArray) ([(⟨#[107]⟩:ByteArray)]) ([(⟨#[104,101,97,100]⟩:ByteArray)]) ([(Rule.mk (⟨#[107]⟩:ByteArray) 0 5 (Expr.mk 2 2 0 (⟨#[104,101,97,100]⟩:ByteArray) ([])))]) (Expr.mk 2 2 0 (⟨#[104,101,97,100]⟩:ByteArray) ([])) 2))]):=bW.slB0 (T:=70) (fz:=(0,0)) ((show bW Version.rp h5 [I 7,I 0,I 0,.string (⟨#[112]⟩:ByteArray),.slice (some ⟨b3,0,none⟩) 1 1,.slice (some ⟨b4,0,none⟩) 1 1,.slice (some ⟨b5,0,none⟩) 1 1,I 2,I 2,I 0,.string (⟨#[104,101,97,100]⟩:ByteArray),.slice none 0 0,I 2] ([(Version.mk 7 0 0 (Policy.mk (⟨#[112]⟩:ByteArray) ([(⟨#[107]⟩:ByteArray)]) ([(⟨#[104,101,97,100]⟩:ByteArray)]) ([(Rule.mk (⟨#[107]⟩:ByteArray) 0 5 (Expr.mk 2 2 0 (⟨#[104,101,97,100]⟩:ByteArray) ([])))]) (Expr.mk 2 2 0 (⟨#[104,101,97,100]⟩:ByteArray) ([])) 2))]) from ⟨[I 7,I 0,I 0,.string (⟨#[112]⟩:ByteArray),.slice (some ⟨b3,0,none⟩) 1 1,.slice (some ⟨b4,0,none⟩) 1 1,.slice (some ⟨b5,0,none⟩) 1 1,I 2,I 2,I 0,.string (⟨#[104,101,97,100]⟩:ByteArray),.slice none 0 0,I 2],[],rfl,rfl,⟨(oo.mk (fh.mk (some ⟨b3,0,none⟩) 1 (some ⟨b4,0,none⟩) 1 (some ⟨b5,0,none⟩) 1 (cM.mk none 0))),rfl,((show Version.ok h3 (Version.mk 7 0 0 (Policy.mk (⟨#[112]⟩:ByteArray) ([(⟨#[107]⟩:ByteArray)]) ([(⟨#[104,101,97,100]⟩:ByteArray)]) ([(Rule.mk (⟨#[107]⟩:ByteArray) 0 5 (Expr.mk 2 2 0 (⟨#[104,101,97,100]⟩:ByteArray) ([])))]) (Expr.mk 2 2 0 (⟨#[104,101,97,100]⟩:ByteArray) ([])) 2)) (oo.mk (fh.mk (some ⟨b3,0,none⟩) 1 (some ⟨b4,0,none⟩) 1 (some ⟨b5,0,none⟩) 1 (cM.mk none 0))) from ⟨(show Policy.ok h3 (Policy.mk (⟨#[112]⟩:ByteArray) ([(⟨#[107]⟩:ByteArray)]) ([(⟨#[104,101,97,100]⟩:ByteArray)]) ([(Rule.mk (⟨#[107]⟩:ByteArray) 0 5 (Expr.mk 2 2 0 (⟨#[104,101,97,100]⟩:ByteArray) ([])))]) (Expr.mk 2 2 0 (⟨#[104,101,97,100]⟩:ByteArray) ([])) 2) (fh.mk (some ⟨b3,0,none⟩) 1 (some ⟨b4,0,none⟩) 1 (some ⟨b5,0,none⟩) 1 (cM.mk none 0)) from ⟨(sl1.mono Rp.gx (hle2.t hle3)),(sl2.mono Rp.gx hle3),sl3,(show Expr.ok h3 (Expr.mk 2 2 0 (⟨#[104,101,97,100]⟩:ByteArray) ([])) (cM.mk none 0) from Expr.ok.of SlC.nil)⟩)⟩).mono (hle4.t hle5))⟩,rfl⟩).mono Version.aJ hle6) hb6
 refine fV 0 U hM (fun h7 hle7 hb7=>?_)
 have sl7:SlC Document.rp h7 (some ⟨b10,0,none⟩) 1 ([(Document.mk 4 10 0 0 0 100 ([6]) ([]) ([]) (fun _=>0))]):=bW.slB0 (T:=52) (fz:=(0,0)) ((show bW Document.rp h6 [I 4,I 10,I 0,I 0,I 0,I 100,.slice (some ⟨b9,0,none⟩) 1 1,.slice none 0 0,.slice none 0 0,Y 0,Y 0,Y 0,Y 0,Y 0,Y 0,Y 0,Y 0,Y 0,Y 0,Y 0,Y 0,Y 0,Y 0,Y 0,Y 0,Y 0,Y 0,Y 0,Y 0,Y 0,Y 0,Y 0,Y 0,Y 0,Y 0,Y 0,Y 0,Y 0,Y 0,Y 0,Y 0] ([(Document.mk 4 10 0 0 0 100 ([6]) ([]) ([]) (fun _=>0))]) from ⟨[I 4,I 10,I 0,I 0,I 0,I 100,.slice (some ⟨b9,0,none⟩) 1 1,.slice none 0 0,.slice none 0 0,Y 0,Y 0,Y 0,Y 0,Y 0,Y 0,Y 0,Y 0,Y 0,Y 0,Y 0,Y 0,Y 0,Y 0,Y 0,Y 0,Y 0,Y 0,Y 0,Y 0,Y 0,Y 0,Y 0,Y 0,Y 0,Y 0,Y 0,Y 0,Y 0,Y 0,Y 0,Y 0],[],rfl,rfl,⟨(ii.mk (some ⟨b9,0,none⟩) 1 none 0 none 0),rfl,((show Document.ok h4 (Document.mk 4 10 0 0 0 100 ([6]) ([]) ([]) (fun _=>0)) (ii.mk (some ⟨b9,0,none⟩) 1 none 0 none 0) from ⟨sl4,SlC.nil,SlC.nil⟩).mono (hle5.t hle6))⟩,rfl⟩).mono Document.aJ hle7) hb7
 have hs1:bO=(Register.mk ([(Appoint.mk 1 0 0 0 1 1 false),(Appoint.mk 2 0 0 0 2 1 false),(Appoint.mk 3 20 30 0 3 1 false)]) ([]) ([]) ([]) ([(Version.mk 7 0 0 (Policy.mk (⟨#[112]⟩:ByteArray) ([(⟨#[107]⟩:ByteArray)]) ([(⟨#[104,101,97,100]⟩:ByteArray)]) ([(Rule.mk (⟨#[107]⟩:ByteArray) 0 5 (Expr.mk 2 2 0 (⟨#[104,101,97,100]⟩:ByteArray) ([])))]) (Expr.mk 2 2 0 (⟨#[104,101,97,100]⟩:ByteArray) ([])) 2))]) ([(Document.mk 4 10 0 0 0 100 ([6]) ([]) ([]) (fun _=>0))]) ([])):=hs0
 exact dQ [.agg (List.toArray [.slice (some ⟨b7,0,none⟩) 3 3,.slice none 0 0,.slice none 0 0,.slice none 0 0,.slice (some ⟨b8,0,none⟩) 1 1,.slice (some ⟨b10,0,none⟩) 1 1,.slice none 0 0])] Tryz.func23 U ⟨⟨2,_,_,_,_,U,U,.inl ⟨ty30,U⟩⟩,trivial⟩ ⟨(ep.mk (some ⟨b7,0,none⟩) 3 none 0 none 0 none 0 (some ⟨b8,0,none⟩) 1 (some ⟨b10,0,none⟩) 1 none 0),congrArg (fun r:Register=>(.agg (Register.cells r (ep.mk (some ⟨b7,0,none⟩) 3 none 0 none 0 none 0 (some ⟨b8,0,none⟩) 1 (some ⟨b10,0,none⟩) 1 none 0)).toArray:Value)) hs1.symm,(by rw [hs1];exact (show Register.ok h7 (Register.mk ([(Appoint.mk 1 0 0 0 1 1 false),(Appoint.mk 2 0 0 0 2 1 false),(Appoint.mk 3 20 30 0 3 1 false)]) ([]) ([]) ([]) ([(Version.mk 7 0 0 (Policy.mk (⟨#[112]⟩:ByteArray) ([(⟨#[107]⟩:ByteArray)]) ([(⟨#[104,101,97,100]⟩:ByteArray)]) ([(Rule.mk (⟨#[107]⟩:ByteArray) 0 5 (Expr.mk 2 2 0 (⟨#[104,101,97,100]⟩:ByteArray) ([])))]) (Expr.mk 2 2 0 (⟨#[104,101,97,100]⟩:ByteArray) ([])) 2))]) ([(Document.mk 4 10 0 0 0 100 ([6]) ([]) ([]) (fun _=>0))]) ([])) (ep.mk (some ⟨b7,0,none⟩) 3 none 0 none 0 none 0 (some ⟨b8,0,none⟩) 1 (some ⟨b10,0,none⟩) 1 none 0) from ⟨(sl5.mono Appoint.aJ (hle6.t hle7)),SlC.nil,SlC.nil,SlC.nil,(sl6.mono Version.aJ hle7),sl7,SlC.nil⟩))⟩
theorem nO (h:HF) (a:(List Span)) (IR:Option Addr) (IQ:Nat) (gI:(List Span)) (yz:Option Addr) (yy:Nat) (ha:SlC Span.rp h IR IQ a) (sE:SlC Span.rp h yz yy gI):Ret Tryz.prog 12 [.slice IR a.length IQ,.slice yz gI.length yy] h (.bool (dD a gI)):=by
 refine aw Dx U Tryz.ntmps12 U fun X hM hX=>?_
 have hs0:dD a gI=dD a gI:=rfl
 refine sr (an (ad (sr (aa (bE mX U (aa (bE mX U (aF U (ac ?_)))))))))
 refine aB U (fun c1=>?_) (fun c1=>?_)
 ·have hs1:=hs0.trans (bt c1)
  refine sr (an ?_)
  exact ar [.bool false] Dx U hX rd (cs hs1)
 ·have hs3:=hs0.trans (bf c1)
  refine ai (ad (sr (an ?_)))
  refine bq (ι:=Nat) (fun i=>[]) (fun i=>h) (fun i=>[]) (fun i=>i≤a.length∧dD a gI=((dD.K1))) ?_ (fun hx1=>?_)
  ·rintro i1 ⟨bd,hs4⟩ e
   try dsimp only at bd
   try dsimp only
   refine sr (an ?_)
   exact ar [.bool true] Dx U hX rd (cs hs4)
  ·refine ck (ι:=Nat×List Span) (fun i=>[(0,.slice IR a.length IQ),(1,.slice yz gI.length yy),(5,I ((i.1:Nat):Int))]) (fun i=>h) (fun i=>[]) (fun i=>a.drop i.1=i.2∧i.1≤a.length∧dD a gI=((dD.L1 gI (dD.K1)) i.2 i.1)) (fun i=>i.2.length) (0,a) rd sw ⟨U,Nat.zero_le _,hs3⟩ ?_
   rintro ⟨i1,s1⟩ ⟨hd1,bd,hs6⟩ ag1 e
   try dsimp only at hd1 bd
   rcases s1 with _ | ⟨y1,rz1⟩
   ·have dJ:=cS hd1
    try dsimp only
    refine ad (sr (aa (aa (bE mX U (az (v':=.bool false) U (cb dJ) (ac (ba U (bM U ?_))))))))
    exact hx1 i1 _ ⟨bd,hs6⟩ trivial
   ·have dI:=dV hd1
    have bh:=cU hd1
    have e9:=aP hd1
    have gO:=ha.1.1
    try dsimp only
    refine ad (sr (aa (aa (bE mX U (az (v':=.bool true) U (cb dI) (ac (bj U (ai (ad (aU (ad ?_)))))))))))
    refine gr ([]) mixed kr jn (fun fd _=>?_)
    refine tm 0 U (tm 1 U (fR 2 (enc:=Span.cells) fd jn (fun _ _ _ e=>e) mX ty46 ha.1 (nthZ bh) (bA bh) U U U U kr (fun q3 A3=>?_)))
    refine tf 3 U U (fun _ _ hj=>j8 ty46 (A3.mono hj.1) U U) (tm 4 U (tm 5 U ?_))
    have ho2:0≤(((i1:Nat):Int):Int)∧(((i1:Nat):Int):Int) < ((gI).length:Int):=ob
    refine fR 6 (enc:=Span.cells) fd jn (fun _ _ _ e=>e) mX ty46 sE.1 ho2 (eN ho2) U U U U kr (fun q4 A4=>tf 7 U U (fun _ _ hj=>j8 ty46 (A4.mono hj.1) U U) ?_)
    refine tf 8 U U (fun _ _ _=>IZ (Hb y1 (nthI gI ((i1:Nat):Int))) eqg46 U U) (cd kr ?_)
    refine aB U (fun c3=>?_) (fun c3=>?_)
    ·have hs8:=hs6.trans (bt c3)
     refine sr (an ?_)
     exact ar [.bool false] Dx U hX rd (cs hs8)
    ·have hs10:=hs6.trans (bf c3)
     refine ai (ao (ah (aa (az (v':=I (((i1+1):Nat):Int)) U (bP ob) ?_))))
     refine an ?_
     exact ag1 ((i1+1),rz1) _ (Nat.lt_succ_self _) ⟨bF hd1,aP hd1,hs10⟩ rd
theorem jM (h:HF) (aT:Register) (aR:ep) (known:Int) (who:(List Int)) (em:Option Addr) (el:Nat) (want:(List Span)) (C9:Option Addr) (C8:Nat) (iX:Register.ok h aT aR) (hwho:SlC Rp.int h em el who) (hwant:SlC Span.rp h C9 C8 want) (hsm:smR aT) (hsw:who.length≤2000000) (hk:Kinds h):Ret Tryz.prog 24 [.agg (Register.cells aT aR).toArray,I known,.slice em who.length el,.slice C9 want.length C8] h (.bool (rA aT known who want)):=by
 refine aw Tryz.func24 U Tryz.ntmps24 U fun X hM hX=>?_
 have hs0:rA aT known who want=rA aT known who want:=rfl
 refine sr (dC (fun b1=>an (sr (dh 0 ty30 U U U (aa (aa (a8 (dp zn (j6 h aT aR 4 who em el known iX hwho ob ob hk) U (fun v1 h1 hle1 hp1=>?_)))))))))
 obtain ⟨rb1,rc1,rfl,sl1⟩:=hp1
 refine aa (bR U U (bR U U (bi (an (sr (aa (aF U (aa ?_))))))))
 refine tq 4 [(24,.bool (((aW aT 4 who known).2==0)&&(dD ((aW aT 4 who known).1) want)))] (fun hk1=>?_) (fun e=>?_)
 ·refine au 20 U (fun c1=>?_) (fun c1=>?_)
  ·refine aa (aa (aA (v:=.bool (dD ((aW aT 4 who known).1) want)) Tryz.call12 (nO h1 ((aW aT 4 who known).1) rb1 rc1 want C9 C8 sl1 (hwant.mono Span.aJ hle1)) U (ae U ?_)))
   exact hk1 _ ⟨(cb (cY c1)),trivial⟩
  ·refine kq (bY (ae U ?_))
   exact hk1 _ ⟨(cb (cZ c1)),trivial⟩
 refine an ?_
 exact ar [.bool (((aW aT 4 who known).2==0)&&(dD ((aW aT 4 who known).1) want))] Tryz.func24 U hX rd (cs hs0)
theorem yY (h:HF)  (hk:Kinds h):Ret Tryz.prog 8 [] h (.bool (mO)):=by
 refine aw Tryz.func8 U Tryz.ntmps8 U fun X hM hX=>?_
 have hs0:mO=mO:=rfl
 refine sr (an (sr (a8 (dp Tryz.call23 (rB h  ) U (fun v1 h1 hle1 hp1=>?_)))))
 obtain ⟨rr1,rfl,ok1⟩:=hp1
 refine bT zc30 (fun b1=>bJ 0 ty30 U U U U U U (ac (sr (a8 (fO (cells:=[.slice none 0 0,.slice none 0 0,.slice none 0 0,.slice none 0 0,.slice none 0 0,.slice none 0 0,.slice none 0 0]) (places:=[(0,1),(1,1),(2,1),(3,1),(4,1),(5,1),(6,1)]) Ei zc30 kr kr ?_)))))
 refine a8 (dp zn (j6 h1 (Register.mk ([]) ([]) ([]) ([]) ([]) ([]) ([])) (ep.mk none 0 none 0 none 0 none 0 none 0 none 0 none 0) 0 ([]) none 0 0 (show Register.ok h1 (Register.mk ([]) ([]) ([]) ([]) ([]) ([]) ([])) (ep.mk none 0 none 0 none 0 none 0 none 0 none 0 none 0) from ⟨SlC.nil,SlC.nil,SlC.nil,SlC.nil,SlC.nil,SlC.nil,SlC.nil⟩) SlC.nil lR ob (hk.mono hle1)) U (fun v2 h2 hle2 hp2=>?_))
 rw [show (aW (Register.mk ([]) ([]) ([]) ([]) ([]) ([]) ([])) 0 ([]) 0)=([],1) from by kernel_rfl] at hp2
 obtain ⟨rb1,rc1,rfl,sl1⟩:=hp2
 refine aa (bR U U (bR U U (bi (an (sr (a8 (fO (cells:=[.slice none 0 0,.slice none 0 0,.slice none 0 0,.slice none 0 0,.slice none 0 0,.slice none 0 0,.slice none 0 0]) (places:=[(0,1),(1,1),(2,1),(3,1),(4,1),(5,1),(6,1)]) Ei zc30 kr kr ?_)))))))
 refine a8 (dp D2 (lj h2 (Register.mk ([]) ([]) ([]) ([]) ([]) ([]) ([])) (ep.mk none 0 none 0 none 0 none 0 none 0 none 0 none 0) 0 0 0 0 (show Register.ok h2 (Register.mk ([]) ([]) ([]) ([]) ([]) ([]) ([])) (ep.mk none 0 none 0 none 0 none 0 none 0 none 0 none 0) from ⟨SlC.nil,SlC.nil,SlC.nil,SlC.nil,SlC.nil,SlC.nil,SlC.nil⟩) lR (hk.mono (hle1.t hle2))) U (fun v3 h3 hle3 hp3=>?_))
 rw [show (ia (Register.mk ([]) ([]) ([]) ([]) ([]) ([]) ([])) 0 0 0 0)=([],false,1) from by kernel_rfl] at hp3
 obtain ⟨rb2,rc2,rfl,sl2⟩:=hp3
 refine aa (bR U U (bR U U (bR U U (bi (bi (an (sr (a8 (fO (cells:=[I 0,I 0,I 0,I 0,I 0,I 0,.bool false]) (places:=[(0,1),(1,1),(2,1),(3,1),(4,1),(5,1),(6,1)]) Eh zc59 kr kr ?_)))))))))
 refine a8 (cf (cells:=[I 0,I 0,I 0,I 0,I 0,I 0,.bool false]) lY ty59 zc59 U U kr (fun b2=>a8 (fO (cells:=[.slice (some ⟨b2,0,none⟩) 1 1,.slice none 0 0,.slice none 0 0,.slice none 0 0,.slice none 0 0,.slice none 0 0,.slice none 0 0]) (places:=[(0,1),(1,1),(2,1),(3,1),(4,1),(5,1),(6,1)]) Ei zc30 kr kr ?_)))
 refine cn 0 U hM (fun h4 hle4 hb1=>?_)
 have sl3:SlC Appoint.rp h4 (some ⟨b2,0,none⟩) 1 ([(Appoint.mk 0 0 0 0 0 0 false)]):=bW.slB0 (T:=59) (fz:=(0,0)) ((show bW Appoint.rp h3 [I 0,I 0,I 0,I 0,I 0,I 0,.bool false] ([(Appoint.mk 0 0 0 0 0 0 false)]) from ⟨[I 0,I 0,I 0,I 0,I 0,I 0,.bool false],[],rfl,rfl,rfl,rfl⟩).mono Appoint.aJ hle4) hb1
 refine a8 (dp zn (j6 h4 (Register.mk ([(Appoint.mk 0 0 0 0 0 0 false)]) ([]) ([]) ([]) ([]) ([]) ([])) (ep.mk (some ⟨b2,0,none⟩) 1 none 0 none 0 none 0 none 0 none 0 none 0) 0 ([]) none 0 0 (show Register.ok h4 (Register.mk ([(Appoint.mk 0 0 0 0 0 0 false)]) ([]) ([]) ([]) ([]) ([]) ([])) (ep.mk (some ⟨b2,0,none⟩) 1 none 0 none 0 none 0 none 0 none 0 none 0) from ⟨sl3,SlC.nil,SlC.nil,SlC.nil,SlC.nil,SlC.nil,SlC.nil⟩) SlC.nil lR ob (hk.mono (((hle1.t hle2).t hle3).t hle4))) U (fun v4 h5 hle5 hp4=>?_))
 rw [show (aW (Register.mk ([(Appoint.mk 0 0 0 0 0 0 false)]) ([]) ([]) ([]) ([]) ([]) ([])) 0 ([]) 0)=([],300) from by kernel_rfl] at hp4
 obtain ⟨rb3,rc3,rfl,sl4⟩:=hp4
 refine aa (bR U U (bR U U (bi (an (sr (dh 0 ty30 U U U (a8 (cf (cells:=[I 2,I 1]) eG ty3 zc3 U U kr (fun b3=>cn 0 U hM (fun h6 hle6 hb2=>?_))))))))))
 have sl5:SlC Rp.int h6 (some ⟨b3,0,none⟩) 2 ([2,1]):=bW.slB0 (T:=3) (fz:=(0,0)) ((show bW Rp.int h5 [I 2,I 1] ([2,1]) from ⟨[I 2],[I 1],rfl,rfl,rfl,⟨[I 1],[],rfl,rfl,rfl,rfl⟩⟩).mono Rp.cm hle6) hb2
 refine a8 (dp zn (j6 h6 bO rr1 4 ([2,1]) (some ⟨b3,0,none⟩) 2 0 (ok1.mono ((((hle2.t hle3).t hle4).t hle5).t hle6)) sl5 lR ob (hk.mono (((((hle1.t hle2).t hle3).t hle4).t hle5).t hle6))) U (fun v5 h7 hle7 hp5=>?_))
 rw [show (aW bO 4 ([2,1]) 0)=([],1) from by kernel_rfl] at hp5
 obtain ⟨rb4,rc4,rfl,sl6⟩:=hp5
 refine aa (bR U U (bR U U (bi (an (sr (dh 0 ty30 U U U (a8 (dp D2 (lj h7 bO rr1 4 3 20 30 (ok1.mono (((((hle2.t hle3).t hle4).t hle5).t hle6).t hle7)) lR (hk.mono ((((((hle1.t hle2).t hle3).t hle4).t hle5).t hle6).t hle7))) U (fun v6 h8 hle8 hp6=>?_)))))))))
 rw [show (ia bO 4 3 20 30)=([1],true,0) from by kernel_rfl] at hp6
 obtain ⟨rb5,rc5,rfl,sl7⟩:=hp6
 refine aa (bR U U (bR U U (bR U U (bi (bi (an (sr (dh 0 ty30 U U U (a8 (dp D2 (lj h8 bO rr1 4 3 20 29 (ok1.mono ((((((hle2.t hle3).t hle4).t hle5).t hle6).t hle7).t hle8)) lR (hk.mono (((((((hle1.t hle2).t hle3).t hle4).t hle5).t hle6).t hle7).t hle8))) U (fun v7 h9 hle9 hp7=>?_)))))))))))
 rw [show (ia bO 4 3 20 29)=([1,2],true,0) from by kernel_rfl] at hp7
 obtain ⟨rb6,rc6,rfl,sl8⟩:=hp7
 refine aa (bR U U (bR U U (bR U U (bi (bi (an (sr (dh 0 ty30 U U U (a8 (dp D2 (lj h9 bO rr1 4 1 14 30 (ok1.mono (((((((hle2.t hle3).t hle4).t hle5).t hle6).t hle7).t hle8).t hle9)) lR (hk.mono ((((((((hle1.t hle2).t hle3).t hle4).t hle5).t hle6).t hle7).t hle8).t hle9))) U (fun v8 h10 hle10 hp8=>?_)))))))))))
 rw [show (ia bO 4 1 14 30)=([],false,0) from by kernel_rfl] at hp8
 obtain ⟨rb7,rc7,rfl,sl9⟩:=hp8
 refine aa (bR U U (bR U U (bR U U (bi (bi (an (sr (dh 0 ty30 U U U (a8 (dp D2 (lj h10 bO rr1 4 1 15 30 (ok1.mono ((((((((hle2.t hle3).t hle4).t hle5).t hle6).t hle7).t hle8).t hle9).t hle10)) lR (hk.mono (((((((((hle1.t hle2).t hle3).t hle4).t hle5).t hle6).t hle7).t hle8).t hle9).t hle10))) U (fun v9 h11 hle11 hp9=>?_)))))))))))
 rw [show (ia bO 4 1 15 30)=([2],true,0) from by kernel_rfl] at hp9
 obtain ⟨rb8,rc8,rfl,sl10⟩:=hp9
 refine aa (bR U U (bR U U (bR U U (bi (bi (an (ad (sr (aa (aF U (aa (aa (aF U (ae U (aa (aa (aF U (ae U (aa (aa (aF U (ae U ?_))))))))))))))))))))))
 refine aa (aa (aF U (ae U (aa (aa (aF U (ae U (aa (aa (aF U (ae U (aa (aa (aF U (ae U (aa (aa (cR U (ae U (aa (aa (cR U (ae U (aa (aa (ae U ?_))))))))))))))))))))))))))
 refine aa (aa (cR U (ae U (ac (ba U (ai (ad (sr (aa (bE eG U (aF U (aa (aa ?_)))))))))))))
 have ho1:0≤(0:Int)∧(0:Int) < (([1]).length:Int):=(by decide)
 refine a8 (fZ (enc:=fun y=>[I y]) (fun _ _ _ e=>e) eG ty3 (sl7.mono Rp.cm ((hle9.t hle10).t hle11)).1 ho1 (eN ho1) U U U (fun q1 A1=>eM ty3 A1 U (aF U (ae U (aa (aa (bE eG U ?_)))))))
 refine aF U (ae U (aa (aa ?_)))
 have ho2:0≤(0:Int)∧(0:Int) < (([2]).length:Int):=(by decide)
 refine a8 (fZ (enc:=fun y=>[I y]) (fun _ _ _ e=>e) eG ty3 sl10.1 ho2 (eN ho2) U U U (fun q2 A2=>eM ty3 A2 U (aF U (ae U (aa (aa (bE eG U (aF U (ae U (aa (aa ?_)))))))))))
 have ho3:0≤(0:Int)∧(0:Int) < (([1,2]).length:Int):=(by decide)
 refine a8 (fZ (enc:=fun y=>[I y]) (fun _ _ _ e=>e) eG ty3 (sl8.mono Rp.cm (hle10.t hle11)).1 ho3 (eN ho3) U U U (fun q3 A3=>eM ty3 A3 U (aF U (ae U (aa (aa ?_))))))
 have ho4:0≤(1:Int)∧(1:Int) < (([1,2]).length:Int):=(by decide)
 refine a8 (fZ (enc:=fun y=>[I y]) (fun _ _ _ e=>e) eG ty3 (sl8.mono Rp.cm (hle10.t hle11)).1 ho4 (eN ho4) U U U (fun q4 A4=>eM ty3 A4 U (aF U (ae U (ac (ba U (ai (ad ?_))))))))
 refine ah (a8 (fO (cells:=[I 15,I 100]) (places:=[(0,1),(1,1)]) zu zc46 kr kr (bT zc46 (fun b4=>bJ 0 ty46 U U U U U U (ac (ad (sr (dh 1 ty30 U U U ?_))))))))
 refine a8 (cf (cells:=[I 1,I 2]) eG ty3 zc3 U U kr (fun b5=>dh 1 ty46 U U U (a8 (cf (cells:=[I 15,I 100]) mX ty46 zc46 U U kr (fun b6=>cn 1 U hM (fun h12 hle12 hb3=>?_))))))
 have sl11:SlC Rp.int h12 (some ⟨b5,0,none⟩) 2 ([1,2]):=bW.slB0 (T:=3) (fz:=(0,0)) ((show bW Rp.int h11 [I 1,I 2] ([1,2]) from ⟨[I 1],[I 2],rfl,rfl,rfl,⟨[I 2],[],rfl,rfl,rfl,rfl⟩⟩).mono Rp.cm hle12) hb3
 refine cn 0 U hM (fun h13 hle13 hb4=>?_)
 have sl12:SlC Span.rp h13 (some ⟨b6,0,none⟩) 1 ([(Span.mk 15 100)]):=bW.slB0 (T:=46) (fz:=(0,0)) ((show bW Span.rp h12 [I 15,I 100] ([(Span.mk 15 100)]) from ⟨[I 15,I 100],[],rfl,rfl,rfl,rfl⟩).mono Span.aJ hle13) hb4
 refine aA (v:=.bool true) zm (s8 (jM h13 bO rr1 0 ([1,2]) (some ⟨b5,0,none⟩) 2 ([(Span.mk 15 100)]) (some ⟨b6,0,none⟩) 1 (ok1.mono (((((((((((hle2.t hle3).t hle4).t hle5).t hle6).t hle7).t hle8).t hle9).t hle10).t hle11).t hle12).t hle13)) (sl11.mono Rp.cm hle13) sl12 lR ob (hk.mono ((((((((((((hle1.t hle2).t hle3).t hle4).t hle5).t hle6).t hle7).t hle8).t hle9).t hle10).t hle11).t hle12).t hle13))) kr) U ?_
 refine cR U (aa (dh 1 ty30 U U U (a8 (cf (cells:=[I 1,I 3]) eG ty3 zc3 U U kr (fun b7=>a8 (fO (cells:=[I 20,I 100]) (places:=[(0,1),(1,1)]) zu zc46 kr kr ?_))))))
 refine a8 (cf (cells:=[I 20,I 100]) mX ty46 zc46 U U kr (fun b8=>cn 1 U hM (fun h14 hle14 hb5=>?_)))
 have sl13:SlC Rp.int h14 (some ⟨b7,0,none⟩) 2 ([1,3]):=bW.slB0 (T:=3) (fz:=(0,0)) ((show bW Rp.int h13 [I 1,I 3] ([1,3]) from ⟨[I 1],[I 3],rfl,rfl,rfl,⟨[I 3],[],rfl,rfl,rfl,rfl⟩⟩).mono Rp.cm hle14) hb5
 refine cn 0 U hM (fun h15 hle15 hb6=>?_)
 have sl14:SlC Span.rp h15 (some ⟨b8,0,none⟩) 1 ([(Span.mk 20 100)]):=bW.slB0 (T:=46) (fz:=(0,0)) ((show bW Span.rp h14 [I 20,I 100] ([(Span.mk 20 100)]) from ⟨[I 20,I 100],[],rfl,rfl,rfl,rfl⟩).mono Span.aJ hle15) hb6
 refine aA (v:=.bool true) zm (s8 (jM h15 bO rr1 30 ([1,3]) (some ⟨b7,0,none⟩) 2 ([(Span.mk 20 100)]) (some ⟨b8,0,none⟩) 1 (ok1.mono (((((((((((((hle2.t hle3).t hle4).t hle5).t hle6).t hle7).t hle8).t hle9).t hle10).t hle11).t hle12).t hle13).t hle14).t hle15)) (sl13.mono Rp.cm hle15) sl14 lR ob (hk.mono ((((((((((((((hle1.t hle2).t hle3).t hle4).t hle5).t hle6).t hle7).t hle8).t hle9).t hle10).t hle11).t hle12).t hle13).t hle14).t hle15))) kr) U ?_
 refine cR U (ae U (aa (dh 1 ty30 U U U (a8 (cf (cells:=[I 1,I 3]) eG ty3 zc3 U U kr (fun b9=>cn 0 U hM (fun h16 hle16 hb7=>?_)))))))
 have sl15:SlC Rp.int h16 (some ⟨b9,0,none⟩) 2 ([1,3]):=bW.slB0 (T:=3) (fz:=(0,0)) ((show bW Rp.int h15 [I 1,I 3] ([1,3]) from ⟨[I 1],[I 3],rfl,rfl,rfl,⟨[I 3],[],rfl,rfl,rfl,rfl⟩⟩).mono Rp.cm hle16) hb7
 refine aA (v:=.bool true) zm (s8 (jM h16 bO rr1 29 ([1,3]) (some ⟨b9,0,none⟩) 2 ([]) none 0 (ok1.mono ((((((((((((((hle2.t hle3).t hle4).t hle5).t hle6).t hle7).t hle8).t hle9).t hle10).t hle11).t hle12).t hle13).t hle14).t hle15).t hle16)) sl15 SlC.nil lR ob (hk.mono (((((((((((((((hle1.t hle2).t hle3).t hle4).t hle5).t hle6).t hle7).t hle8).t hle9).t hle10).t hle11).t hle12).t hle13).t hle14).t hle15).t hle16))) kr) U ?_
 refine cR U (ae U (aa (dh 1 ty30 U U U (a8 (cf (cells:=[I 9]) eG ty3 zc3 U U kr (fun b10=>cn 0 U hM (fun h17 hle17 hb8=>?_)))))))
 have sl16:SlC Rp.int h17 (some ⟨b10,0,none⟩) 1 ([9]):=bW.slB0 (T:=3) (fz:=(0,0)) ((show bW Rp.int h16 [I 9] ([9]) from ⟨[I 9],[],rfl,rfl,rfl,rfl⟩).mono Rp.cm hle17) hb8
 refine aA (v:=.bool true) zm (s8 (jM h17 bO rr1 0 ([9]) (some ⟨b10,0,none⟩) 1 ([]) none 0 (ok1.mono (((((((((((((((hle2.t hle3).t hle4).t hle5).t hle6).t hle7).t hle8).t hle9).t hle10).t hle11).t hle12).t hle13).t hle14).t hle15).t hle16).t hle17)) sl16 SlC.nil lR ob (hk.mono ((((((((((((((((hle1.t hle2).t hle3).t hle4).t hle5).t hle6).t hle7).t hle8).t hle9).t hle10).t hle11).t hle12).t hle13).t hle14).t hle15).t hle16).t hle17))) kr) U ?_
 refine cR U (ae U (aa (dh 1 ty30 U U U (aA (v:=.bool true) zm (s8 (jM h17 bO rr1 0 ([]) none 0 ([]) none 0 (ok1.mono (((((((((((((((hle2.t hle3).t hle4).t hle5).t hle6).t hle7).t hle8).t hle9).t hle10).t hle11).t hle12).t hle13).t hle14).t hle15).t hle16).t hle17)) SlC.nil SlC.nil lR ob (hk.mono ((((((((((((((((hle1.t hle2).t hle3).t hle4).t hle5).t hle6).t hle7).t hle8).t hle9).t hle10).t hle11).t hle12).t hle13).t hle14).t hle15).t hle16).t hle17))) kr) U ?_))))
 refine cR U (ae U (ac (ba U (ai (sr (a8 (fO (cells:=[I 1,I 40,I 0,I 2,I 6,.bool false,.bool false]) (places:=[(0,1),(1,1),(2,1),(3,1),(4,1),(5,1),(6,1)]) FX zc61 kr kr ?_)))))))
 refine a8 (fO (cells:=[I 2,I 50,I 0,I 2,I 6,.bool false,.bool true]) (places:=[(0,1),(1,1),(2,1),(3,1),(4,1),(5,1),(6,1)]) FX zc61 kr kr (a8 (cf (cells:=[I 1,I 40,I 0,I 2,I 6,.bool false,.bool false,I 2,I 50,I 0,I 2,I 6,.bool false,.bool true]) mJ ty61 zc61 U U kr (fun b11=>?_))))
 refine ay mV U (du 2 ty24 U U U U U U (ac (sr (a8 (dp Tryz.call23 (rB h17  ) U (fun v10 h18 hle18 hp10=>?_))))))
 obtain ⟨rr2,rfl,ok2⟩:=hp10
 refine bT zc30 (fun b12=>bJ 0 ty30 U U U U U U (ac (sr (ay mA U (du 0 ty26 U U U U U U (ac (sr (dh 3 ty30 U U U (a8 (cf (cells:=[I 1,I 2]) eG ty3 zc3 U U kr (fun b13=>?_)))))))))))
 refine a8 (fO (cells:=[I 15,I 40]) (places:=[(0,1),(1,1)]) zu zc46 kr kr (a8 (fO (cells:=[I 50,I 100]) (places:=[(0,1),(1,1)]) zu zc46 kr kr ?_)))
 refine a8 (cf (cells:=[I 15,I 40,I 50,I 100]) mX ty46 zc46 U U kr (fun b14=>cn 3 U hM (fun h19 hle19 hb9=>?_)))
 have sl17:SlC Interest.rp h19 (some ⟨b11,0,none⟩) 2 ([(Interest.mk 1 40 0 2 6 false false),(Interest.mk 2 50 0 2 6 false true)]):=bW.slB0 (T:=61) (fz:=(0,0)) ((show bW Interest.rp h18 [I 1,I 40,I 0,I 2,I 6,.bool false,.bool false,I 2,I 50,I 0,I 2,I 6,.bool false,.bool true] ([(Interest.mk 1 40 0 2 6 false false),(Interest.mk 2 50 0 2 6 false true)]) from ⟨[I 1,I 40,I 0,I 2,I 6,.bool false,.bool false],[I 2,I 50,I 0,I 2,I 6,.bool false,.bool true],rfl,rfl,rfl,⟨[I 2,I 50,I 0,I 2,I 6,.bool false,.bool true],[],rfl,rfl,rfl,rfl⟩⟩).mono Interest.aJ hle19) hb9
 refine cn 1 U hM (fun h20 hle20 hb10=>?_)
 have sl18:SlC Rp.int h20 (some ⟨b13,0,none⟩) 2 ([1,2]):=bW.slB0 (T:=3) (fz:=(0,0)) ((show bW Rp.int h19 [I 1,I 2] ([1,2]) from ⟨[I 1],[I 2],rfl,rfl,rfl,⟨[I 2],[],rfl,rfl,rfl,rfl⟩⟩).mono Rp.cm hle20) hb10
 refine cn 0 U hM (fun h21 hle21 hb11=>?_)
 have sl19:SlC Span.rp h21 (some ⟨b14,0,none⟩) 2 ([(Span.mk 15 40),(Span.mk 50 100)]):=bW.slB0 (T:=46) (fz:=(0,0)) ((show bW Span.rp h20 [I 15,I 40,I 50,I 100] ([(Span.mk 15 40),(Span.mk 50 100)]) from ⟨[I 15,I 40],[I 50,I 100],rfl,rfl,rfl,⟨[I 50,I 100],[],rfl,rfl,rfl,rfl⟩⟩).mono Span.aJ hle21) hb11
 refine aA (v:=.bool true) zm (s8 (jM h21 (Register.mk bO.Appoints bO.Deputies ([(Interest.mk 1 40 0 2 6 false false),(Interest.mk 2 50 0 2 6 false true)]) bO.Budgets bO.Versions bO.Docs bO.Approvals) (ep.mk rr1.gQ rr1.gP rr1.fm rr1.fj (some ⟨b11,0,none⟩) 2 rr1.fJ rr1.fI rr1.gq rr1.gp rr1.iB rr1.iA rr1.eY rr1.eX) 0 ([1,2]) (some ⟨b13,0,none⟩) 2 ([(Span.mk 15 40),(Span.mk 50 100)]) (some ⟨b14,0,none⟩) 2 (show Register.ok h21 (Register.mk bO.Appoints bO.Deputies ([(Interest.mk 1 40 0 2 6 false false),(Interest.mk 2 50 0 2 6 false true)]) bO.Budgets bO.Versions bO.Docs bO.Approvals) (ep.mk rr1.gQ rr1.gP rr1.fm rr1.fj (some ⟨b11,0,none⟩) 2 rr1.fJ rr1.fI rr1.gq rr1.gp rr1.iB rr1.iA rr1.eY rr1.eX) from ⟨(ok1.Appoints.mono Appoint.aJ (((((((((((((((((((hle2.t hle3).t hle4).t hle5).t hle6).t hle7).t hle8).t hle9).t hle10).t hle11).t hle12).t hle13).t hle14).t hle15).t hle16).t hle17).t hle18).t hle19).t hle20).t hle21)),(ok1.Deputies.mono Deputy.aJ (((((((((((((((((((hle2.t hle3).t hle4).t hle5).t hle6).t hle7).t hle8).t hle9).t hle10).t hle11).t hle12).t hle13).t hle14).t hle15).t hle16).t hle17).t hle18).t hle19).t hle20).t hle21)),(sl17.mono Interest.aJ (hle20.t hle21)),(ok1.Budgets.mono Budget.aJ (((((((((((((((((((hle2.t hle3).t hle4).t hle5).t hle6).t hle7).t hle8).t hle9).t hle10).t hle11).t hle12).t hle13).t hle14).t hle15).t hle16).t hle17).t hle18).t hle19).t hle20).t hle21)),(ok1.Versions.mono Version.aJ (((((((((((((((((((hle2.t hle3).t hle4).t hle5).t hle6).t hle7).t hle8).t hle9).t hle10).t hle11).t hle12).t hle13).t hle14).t hle15).t hle16).t hle17).t hle18).t hle19).t hle20).t hle21)),(ok1.Docs.mono Document.aJ (((((((((((((((((((hle2.t hle3).t hle4).t hle5).t hle6).t hle7).t hle8).t hle9).t hle10).t hle11).t hle12).t hle13).t hle14).t hle15).t hle16).t hle17).t hle18).t hle19).t hle20).t hle21)),(ok1.Approvals.mono Approval.aJ (((((((((((((((((((hle2.t hle3).t hle4).t hle5).t hle6).t hle7).t hle8).t hle9).t hle10).t hle11).t hle12).t hle13).t hle14).t hle15).t hle16).t hle17).t hle18).t hle19).t hle20).t hle21))⟩) (sl18.mono Rp.cm hle21) sl19 lR ob (hk.mono ((((((((((((((((((((hle1.t hle2).t hle3).t hle4).t hle5).t hle6).t hle7).t hle8).t hle9).t hle10).t hle11).t hle12).t hle13).t hle14).t hle15).t hle16).t hle17).t hle18).t hle19).t hle20).t hle21))) kr) U ?_
 refine aa (dh 0 ty30 U U U (a8 (cf (cells:=[I 1,I 2]) eG ty3 zc3 U U kr (fun b15=>cn 0 U hM (fun h22 hle22 hb12=>?_)))))
 have sl20:SlC Rp.int h22 (some ⟨b15,0,none⟩) 2 ([1,2]):=bW.slB0 (T:=3) (fz:=(0,0)) ((show bW Rp.int h21 [I 1,I 2] ([1,2]) from ⟨[I 1],[I 2],rfl,rfl,rfl,⟨[I 2],[],rfl,rfl,rfl,rfl⟩⟩).mono Rp.cm hle22) hb12
 refine aA (v:=.bool true) zm (s8 (jM h22 (Register.mk bO.Appoints bO.Deputies bO.Interests bO.Budgets ([]) bO.Docs bO.Approvals) (ep.mk rr2.gQ rr2.gP rr2.fm rr2.fj rr2.gN rr2.gM rr2.fJ rr2.fI none 0 rr2.iB rr2.iA rr2.eY rr2.eX) 0 ([1,2]) (some ⟨b15,0,none⟩) 2 ([]) none 0 (show Register.ok h22 (Register.mk bO.Appoints bO.Deputies bO.Interests bO.Budgets ([]) bO.Docs bO.Approvals) (ep.mk rr2.gQ rr2.gP rr2.fm rr2.fj rr2.gN rr2.gM rr2.fJ rr2.fI none 0 rr2.iB rr2.iA rr2.eY rr2.eX) from ⟨(ok2.Appoints.mono Appoint.aJ (((hle19.t hle20).t hle21).t hle22)),(ok2.Deputies.mono Deputy.aJ (((hle19.t hle20).t hle21).t hle22)),(ok2.Interests.mono Interest.aJ (((hle19.t hle20).t hle21).t hle22)),(ok2.Budgets.mono Budget.aJ (((hle19.t hle20).t hle21).t hle22)),SlC.nil,(ok2.Docs.mono Document.aJ (((hle19.t hle20).t hle21).t hle22)),(ok2.Approvals.mono Approval.aJ (((hle19.t hle20).t hle21).t hle22))⟩) sl20 SlC.nil lR ob (hk.mono (((((((((((((((((((((hle1.t hle2).t hle3).t hle4).t hle5).t hle6).t hle7).t hle8).t hle9).t hle10).t hle11).t hle12).t hle13).t hle14).t hle15).t hle16).t hle17).t hle18).t hle19).t hle20).t hle21).t hle22))) kr) U ?_
 refine ae U (an ?_)
 exact ar [.bool true] Tryz.func8 U hX rd (cs hs0)
theorem vU (rec:Expr→Int→Int) (h:HF) (x:Expr) (fu:cM) (limit:Int) (hrec:∀ (h:HF) (qx:Expr) (jA:cM) (qlimit:Int) (hqx:Expr.ok h qx jA) (_:qx.dep < x.dep),Ret Tryz.prog 50 [.agg (Expr.cells qx jA).toArray,I qlimit] h (I (rec qx qlimit))) (hx:Expr.ok h x fu):Ret Tryz.prog 50 [.agg (Expr.cells x fu).toArray,I limit] h (I (eS.F rec x limit)):=by
 refine aw Tryz.func50 U Tryz.ntmps50 U fun X hM hX=>?_
 have hs0:eS.F rec x limit=eS.F rec x limit:=rfl
 refine sr (dC (fun b1=>an (sr (an (ad (sr (an ?_)))))))
 refine bq (ι:=Nat×Int) (fun i=>[(5,I i.2)]) (fun i=>h) (fun i=>[(b1,O (Expr.cells x fu) 66)]) (fun i=>i.1≤x.L.length∧eS.F rec x limit=((eS.K1) i.2)) ?_ (fun hx1=>?_)
 ·rintro ⟨i1,iY⟩ ⟨bd,hs1⟩ e
  try dsimp only at bd
  try dsimp only
  refine sr (aa (an ?_))
  exact ar [I iY] Tryz.func50 U hX rd (ci hs1)
 ·refine ck (ι:=Nat×Int×List Expr) (fun i=>[(1,I limit),(2,Q b1),(5,I i.2.1),(6,I ((i.1:Nat):Int))]) (fun i=>h) (fun i=>[(b1,O (Expr.cells x fu) 66)]) (fun i=>x.L.drop i.1=i.2.2∧i.1≤x.L.length∧eS.F rec x limit=((eS.L1 rec limit (eS.K1)) i.2.2 i.2.1)) (fun i=>i.2.2.length) (0,1,x.L) rd sw ⟨U,Nat.zero_le _,hs0⟩ ?_
  rintro ⟨i1,iY,s1⟩ ⟨hd1,bd,hs3⟩ ag1 e
  try dsimp only at hd1 bd
  rcases s1 with _ | ⟨y1,rz1⟩
  ·have dJ:=cS hd1
   try dsimp only
   refine ad (sr (aa (ay dF U (aL 0 ty64 U U U (bE gg U (az (v':=.bool false) U (cb dJ) (aa (kq (bY (ae U (ac (ba U (bM U ?_)))))))))))))
   exact hx1 (i1,iY) _ ⟨bd,hs3⟩ rd
  ·have dI:=dV hd1
   have bh:=cU hd1
   have e9:=aP hd1
   have gO:=hx.list.1.1
   try dsimp only
   refine ad (sr (aa (ay dF U (aL 0 ty64 U U U (bE gg U (az (v':=.bool true) U (cb dI) (aa (aa (aa (aF U (ae U (ac ?_))))))))))))
   refine aB U (fun c2=>?_) (fun c2=>?_)
   ·have c2p:=of_decide_eq_true c2
    have hs5:=hs3.trans (bt c2)
    refine ai (ad (aU (ah (aa (ay dF U (aL 0 ty64 U U U (aa (a8 (gX gg ty66 hx.list.1 (nthZ bh) (bA bh) U U U (fun q2 cs2 A2 ln2 rr2=>?_))))))))))
    obtain ⟨r2,rfl,ok2⟩:=rr2
    refine dT ty66 A2 U U (aa (aa (aF U (aA (v:=I (rec y1 (IntKind.wrap .i64 (limit - iY)))) Tryz.call50 (hrec h y1 r2 (IntKind.wrap .i64 (limit - iY)) ok2 (Expr.iv (gm hd1))) U (aF U (an (ao (ah ?_))))))))
    refine aa (az (v':=I (((i1+1):Nat):Int)) U (bP ob) (an ?_))
    exact ag1 ((i1+1),(IntKind.wrap .i64 (iY+(rec y1 (IntKind.wrap .i64 (limit - iY))))),rz1) _ (Nat.lt_succ_self _) ⟨bF hd1,aP hd1,hs5⟩ rd
   ·have c2p:=of_decide_eq_false c2
    have hs6:=hs3.trans (bf c2)
    refine bM U ?_
    exact hx1 (i1,iY) _ ⟨bd,hs6⟩ rd
theorem oF:∀ (m:Nat) (h:HF) (x:Expr) (fu:cM) (limit:Int) (_:x.dep≤m) (hx:Expr.ok h x fu),Ret Tryz.prog 50 [.agg (Expr.cells x fu).toArray,I limit] h (I (eS.go m x limit))
 | 0,h,x,fu,limit,hd,hx=>absurd hd (Nat.not_le.2 (Expr.j1 _))
 | m+1,h,x,fu,limit,hd,hx=>vU (eS.go m) h x fu limit (fun qh_ qx jA qlimit qhx qd=>oF m qh_ qx jA qlimit ob qhx) hx
theorem qZ (h:HF) (x:Expr) (fu:cM) (limit:Int) (hx:Expr.ok h x fu):Ret Tryz.prog 50 [.agg (Expr.cells x fu).toArray,I limit] h (I (eS x limit)):=oF _ h x fu limit (Nat.le_refl _) hx
end Go.Sg
namespace Go.Sg
open Go.Proofs
set_option maxHeartbeats 2000000
set_option maxRecDepth 100000
set_option linter.unusedVariables false
theorem ra (h:HF) (l:(List Version)) (fc:Option Addr) (fb:Nat) (hl:SlC Version.rp h fc fb l):Ret Tryz.prog 25 [.slice fc l.length fb] h (.bool (cG l)):=by
 refine aw D1 U Tryz.ntmps25 U fun X hM hX=>?_
 have hs0:cG l=cG l:=rfl
 refine sr (an (ad (sr (aa (bE lu U (aF U (ac ?_)))))))
 refine aB U (fun c1=>?_) (fun c1=>?_)
 ·have c1p:=of_decide_eq_true c1
  have hs1:=hs0.trans (bt c1)
  refine sr (an ?_)
  exact ar [.bool false] D1 U hX rd (cs hs1)
 ·have c1p:=of_decide_eq_false c1
  have hs3:=hs0.trans (bf c1)
  refine ai (ad (sr (an ?_)))
  refine bq (ι:=Nat) (fun i=>[]) (fun i=>h) (fun i=>[]) (fun i=>i≤l.length∧cG l=((cG.K1))) ?_ (fun hx1=>?_)
  ·rintro i1 ⟨bd,hs4⟩ e
   try dsimp only at bd
   try dsimp only
   refine sr (an ?_)
   exact ar [.bool true] D1 U hX rd (cs hs4)
  ·refine ck (ι:=Nat×List Version) (fun i=>[(0,.slice fc l.length fb),(3,I ((i.1:Nat):Int))]) (fun i=>h) (fun i=>[]) (fun i=>l.drop i.1=i.2∧i.1≤l.length∧cG l=((cG.L1 (cG.K1)) i.2 )) (fun i=>i.2.length) (0,l) rd sw ⟨U,Nat.zero_le _,hs3⟩ ?_
   rintro ⟨i1,s1⟩ ⟨hd1,bd,hs6⟩ ag1 e
   try dsimp only at hd1 bd
   rcases s1 with _ | ⟨y1,rz1⟩
   ·have dJ:=cS hd1
    try dsimp only
    refine ad (sr (aa (aa (bE lu U (az (v':=.bool false) U (cb dJ) (ac (ba U (bM U ?_))))))))
    exact hx1 i1 _ ⟨bd,hs6⟩ trivial
   ·have dI:=dV hd1
    have bh:=cU hd1
    have e9:=aP hd1
    have gO:=hl.1.1
    try dsimp only
    refine ad (sr (aa (aa (bE lu U (az (v':=.bool true) U (cb dI) (ac (bj U (ai (ad (aU (sr (aa (aa (a8 (gX lu ty70 hl.1 (nthZ bh) (bA bh) U U U (fun q2 cs2 A2 ln2 rr2=>?_))))))))))))))))
    obtain ⟨r2,rfl,ok2⟩:=rr2
    refine ay qo U (uO (j:=3) ty68 A2 U U (bT zc68 (fun b2=>bJ 0 ty68 U U U U U U (ac (ad (sr (ay kO U (aL 0 ty62 U U U (bE kV U (aF U (aa ?_)))))))))))
    refine tq 5 [(0,.slice fc l.length fb),(3,I ((i1:Nat):Int)),(4,Q b2),(29,.bool (decide (20 < ((y1.Policy.Kinds.length:Nat):Int))||decide (40 < ((y1.Policy.Offices.length:Nat):Int))))] (fun hk1=>?_) (fun e=>?_)
    ·refine au 24 U (fun c2=>?_) (fun c2=>?_)
     ·refine kq (kq (ae U ?_))
      exact hk1 _ ⟨U,U,U,(cb (eB c2)),trivial⟩
     ·refine ay jO U (aL 0 ty62 U U U (bE kV U (aF U (ae U ?_))))
      exact hk1 _ ⟨U,U,U,(cb (eE c2)),trivial⟩
    refine aa ?_
    refine tq 5 [(0,.slice fc l.length fb),(3,I ((i1:Nat):Int)),(4,Q b2),(35,.bool ((decide (20 < ((y1.Policy.Kinds.length:Nat):Int))||decide (40 < ((y1.Policy.Offices.length:Nat):Int)))||decide (20 < ((y1.Policy.Rules.length:Nat):Int))))] (fun hk2=>?_) (fun e=>?_)
    ·refine au 30 U (fun c3=>?_) (fun c3=>?_)
     ·refine kq (kq (ae U ?_))
      exact hk2 _ ⟨U,U,U,(cb (eB c3)),trivial⟩
     ·refine ay fC U (aL 0 ty63 U U U (bE jV U (aF U (ae U ?_))))
      exact hk2 _ ⟨U,U,U,(cb (eE c3)),trivial⟩
    refine aa ?_
    refine tq 5 [(0,.slice fc l.length fb),(3,I ((i1:Nat):Int)),(4,Q b2),(41,.bool (((decide (20 < ((y1.Policy.Kinds.length:Nat):Int))||decide (40 < ((y1.Policy.Offices.length:Nat):Int)))||decide (20 < ((y1.Policy.Rules.length:Nat):Int)))||decide (40 < (eS y1.Policy.Change 40))))] (fun hk3=>?_) (fun e=>?_)
    ·refine au 36 U (fun c4=>?_) (fun c4=>?_)
     ·refine kq (kq (ae U ?_))
      exact hk3 _ ⟨U,U,U,(cb (eB c4)),trivial⟩
     ·refine ay lN U (dh 0 ty66 U U U (aA (v:=I (eS y1.Policy.Change 40)) Tryz.call50 (qZ h y1.Policy.Change r2.Policy.Change 40 ok2.Policy.Change) U (aF U (ae U ?_))))
      exact hk3 _ ⟨U,U,U,(cb (eE c4)),trivial⟩
    refine ac ?_
    refine aB U (fun c5=>?_) (fun c5=>?_)
    ·have hs8:=hs6.trans (bt c5)
     refine sr (an ?_)
     exact ar [.bool false] D1 U hX rd (cs hs8)
    ·have hs10:=hs6.trans (bf c5)
     refine ai (sr (an ?_))
     let z1:Nat×Obj:=(b2,O (Policy.cells y1.Policy r2.Policy) 68)
     refine bq (ι:=Nat) (fun i=>[(0,.slice fc l.length fb),(3,I ((i1:Nat):Int))]) (fun i=>h) (fun i=>[z1]) (fun i=>i≤y1.Policy.Rules.length∧cG l=(((cG.L1 (cG.K1) rz1 )))) ?_ (fun hx3=>?_)
     ·rintro i3 ⟨j4,hs11⟩ e
      try dsimp only at j4
      try dsimp only
      refine ao (ah (aa (az (v':=I (((i1+1):Nat):Int)) U (bP ob) (an ?_))))
      refine cE (L':=[]) js ?_
      exact ag1 ((i1+1),rz1) _ (Nat.lt_succ_self _) ⟨bF hd1,aP hd1,hs11⟩ rd
     ·refine ck (ι:=Nat×List Rule) (fun i=>[(0,.slice fc l.length fb),(3,I ((i1:Nat):Int)),(4,Q b2),(5,I ((i.1:Nat):Int))]) (fun i=>h) (fun i=>[z1]) (fun i=>y1.Policy.Rules.drop i.1=i.2∧i.1≤y1.Policy.Rules.length∧cG l=((cG.L3 ((cG.L1 (cG.K1) rz1 ))) i.2 )) (fun i=>i.2.length) (0,y1.Policy.Rules) rd sw ⟨U,Nat.zero_le _,hs10⟩ ?_
      rintro ⟨i3,s3⟩ ⟨hd3,oz,hs12⟩ ag2 e
      try dsimp only at hd3 oz
      rcases s3 with _ | ⟨y3,rz3⟩
      ·have AN:=cS hd3
       try dsimp only
       refine ad (sr (aa (ay fC U (aL 0 ty63 U U U (bE jV U (az (v':=.bool false) U (cb AN) (ac (ba U (bM U ?_)))))))))
       exact hx3 i3 _ ⟨oz,hs12⟩ rd
      ·have AM:=dV hd3
       have qA:=cU hd3
       have EF:=aP hd3
       have H0:=ok2.Policy.Rules.1.1
       try dsimp only
       refine ad (sr (aa (ay fC U (aL 0 ty63 U U U (bE jV U (az (v':=.bool true) U (cb AM) (ac (bj U (ai (ad (aU (sr (ay fC U (aL 0 ty63 U U U ?_))))))))))))))
       refine aa (a8 (gX jV ty107 ok2.Policy.Rules.1 (nthZ qA) (bA qA) U U U (fun q4 cs4 A4 ln4 rr4=>?_)))
       obtain ⟨r4,rfl,ok4⟩:=rr4
       refine ay kn U (uO (j:=3) ty66 A4 U U (aA (v:=I (eS y3.Expr 40)) Tryz.call50 (qZ h y3.Expr r4.Expr 40 ok4.Expr) U (aF U (ac ?_))))
       refine aB U (fun c7=>?_) (fun c7=>?_)
       ·have c7p:=of_decide_eq_true c7
        have hs14:=hs12.trans (bt c7)
        refine sr (an ?_)
        exact ar [.bool false] D1 U hX rd (cs hs14)
       ·have c7p:=of_decide_eq_false c7
        have hs16:=hs12.trans (bf c7)
        refine ai (ao (ah (aa (az (v':=I (((i3+1):Nat):Int)) U (bP ob) (an ?_)))))
        exact ag2 ((i3+1),rz3) _ (Nat.lt_succ_self _) ⟨bF hd3,aP hd3,hs16⟩ rd
theorem Ao (h:HF) (aT:Register) (aR:ep) (iX:Register.ok h aT aR):Ret Tryz.prog 9 [.agg (Register.cells aT aR).toArray] h (.bool (ie aT)):=by
 refine aw Dw U Tryz.ntmps9 U fun X hM hX=>?_
 have hs0:ie aT=ie aT:=rfl
 refine sr (dC (fun b1=>an (ad (sr (ay nE U (aL 0 ty22 U U U (bE lY U (aF U (aa ?_)))))))))
 refine tq 5 [(1,Q b1),(13,.bool (decide (30 < ((aT.Appoints.length:Nat):Int))||decide (12 < ((aT.Deputies.length:Nat):Int))))] (fun hk1=>?_) (fun e=>?_)
 ·refine au 8 U (fun c1=>?_) (fun c1=>?_)
  ·refine kq (kq (ae U ?_))
   exact hk1 _ ⟨U,(cb (eB c1)),trivial⟩
  ·refine ay wB U (aL 0 ty23 U U U (bE sJ U (aF U (ae U ?_))))
   exact hk1 _ ⟨U,(cb (eE c1)),trivial⟩
 refine aa ?_
 refine tq 5 [(1,Q b1),(19,.bool ((decide (30 < ((aT.Appoints.length:Nat):Int))||decide (12 < ((aT.Deputies.length:Nat):Int)))||decide (12 < ((aT.Interests.length:Nat):Int))))] (fun hk2=>?_) (fun e=>?_)
 ·refine au 14 U (fun c2=>?_) (fun c2=>?_)
  ·refine kq (kq (ae U ?_))
   exact hk2 _ ⟨U,(cb (eB c2)),trivial⟩
  ·refine ay mV U (aL 0 ty24 U U U (bE mJ U (aF U (ae U ?_))))
   exact hk2 _ ⟨U,(cb (eE c2)),trivial⟩
 refine aa ?_
 refine tq 5 [(1,Q b1),(25,.bool (((decide (30 < ((aT.Appoints.length:Nat):Int))||decide (12 < ((aT.Deputies.length:Nat):Int)))||decide (12 < ((aT.Interests.length:Nat):Int)))||decide (12 < ((aT.Budgets.length:Nat):Int))))] (fun hk3=>?_) (fun e=>?_)
 ·refine au 20 U (fun c3=>?_) (fun c3=>?_)
  ·refine kq (kq (ae U ?_))
   exact hk3 _ ⟨U,(cb (eB c3)),trivial⟩
  ·refine ay wA U (aL 0 ty25 U U U (bE sI U (aF U (ae U ?_))))
   exact hk3 _ ⟨U,(cb (eE c3)),trivial⟩
 refine aa ?_
 refine tq 5 [(1,Q b1),(31,.bool ((((decide (30 < ((aT.Appoints.length:Nat):Int))||decide (12 < ((aT.Deputies.length:Nat):Int)))||decide (12 < ((aT.Interests.length:Nat):Int)))||decide (12 < ((aT.Budgets.length:Nat):Int)))||decide (8 < ((aT.Docs.length:Nat):Int))))] (fun hk4=>?_) (fun e=>?_)
 ·refine au 26 U (fun c4=>?_) (fun c4=>?_)
  ·refine kq (kq (ae U ?_))
   exact hk4 _ ⟨U,(cb (eB c4)),trivial⟩
  ·refine ay lm U (aL 0 ty27 U U U (bE lB U (aF U (ae U ?_))))
   exact hk4 _ ⟨U,(cb (eE c4)),trivial⟩
 refine aa ?_
 refine tq 5 [(1,Q b1),(37,.bool (((((decide (30 < ((aT.Appoints.length:Nat):Int))||decide (12 < ((aT.Deputies.length:Nat):Int)))||decide (12 < ((aT.Interests.length:Nat):Int)))||decide (12 < ((aT.Budgets.length:Nat):Int)))||decide (8 < ((aT.Docs.length:Nat):Int)))||decide (24 < ((aT.Approvals.length:Nat):Int))))] (fun hk5=>?_) (fun e=>?_)
 ·refine au 32 U (fun c5=>?_) (fun c5=>?_)
  ·refine kq (kq (ae U ?_))
   exact hk5 _ ⟨U,(cb (eB c5)),trivial⟩
  ·refine ay wz U (aL 0 ty28 U U U (bE sH U (aF U (ae U ?_))))
   exact hk5 _ ⟨U,(cb (eE c5)),trivial⟩
 refine aa ?_
 refine tq 5 [(1,Q b1),(43,.bool ((((((decide (30 < ((aT.Appoints.length:Nat):Int))||decide (12 < ((aT.Deputies.length:Nat):Int)))||decide (12 < ((aT.Interests.length:Nat):Int)))||decide (12 < ((aT.Budgets.length:Nat):Int)))||decide (8 < ((aT.Docs.length:Nat):Int)))||decide (24 < ((aT.Approvals.length:Nat):Int)))||(!(cG aT.Versions))))] (fun hk6=>?_) (fun e=>?_)
 ·refine au 38 U (fun c6=>?_) (fun c6=>?_)
  ·refine kq (kq (ae U ?_))
   exact hk6 _ ⟨U,(cb (eB c6)),trivial⟩
  ·refine ay mA U (aL 0 ty26 U U U (aA (v:=.bool (cG aT.Versions)) Tryz.call25 (ra h aT.Versions aR.gq aR.gp iX.Versions) U (cR U (ae U ?_))))
   exact hk6 _ ⟨U,(cb (eE c6)),trivial⟩
 refine ac ?_
 refine aB U (fun c7=>?_) (fun c7=>?_)
 ·have hs1:=hs0.trans (bt c7)
  refine sr (an ?_)
  exact ar [.bool false] Dw U hX rd (cs hs1)
 ·have hs3:=hs0.trans (bf c7)
  refine ai (ad (sr (an ?_)))
  refine bq (ι:=Nat) (fun i=>[]) (fun i=>h) (fun i=>[(b1,O (Register.cells aT aR) 30)]) (fun i=>i≤aT.Docs.length∧ie aT=((ie.K1))) ?_ (fun hx1=>?_)
  ·rintro i1 ⟨bd,hs4⟩ e
   try dsimp only at bd
   try dsimp only
   refine sr (an ?_)
   exact ar [.bool true] Dw U hX rd (cs hs4)
  ·refine ck (ι:=Nat×List Document) (fun i=>[(1,Q b1),(3,I ((i.1:Nat):Int))]) (fun i=>h) (fun i=>[(b1,O (Register.cells aT aR) 30)]) (fun i=>aT.Docs.drop i.1=i.2∧i.1≤aT.Docs.length∧ie aT=((ie.L1 (ie.K1)) i.2 )) (fun i=>i.2.length) (0,aT.Docs) rd sw ⟨U,Nat.zero_le _,hs3⟩ ?_
   rintro ⟨i1,s1⟩ ⟨hd1,bd,hs6⟩ ag1 e
   try dsimp only at hd1 bd
   rcases s1 with _ | ⟨y1,rz1⟩
   ·have dJ:=cS hd1
    try dsimp only
    refine ad (sr (aa (ay lm U (aL 0 ty27 U U U (bE lB U (az (v':=.bool false) U (cb dJ) (ac (ba U (bM U ?_)))))))))
    exact hx1 i1 _ ⟨bd,hs6⟩ trivial
   ·have dI:=dV hd1
    have bh:=cU hd1
    have e9:=aP hd1
    have gO:=iX.Docs.1.1
    try dsimp only
    refine ad (sr (aa (ay lm U (aL 0 ty27 U U U (bE lB U (az (v':=.bool true) U (cb dI) (ac (bj U (ai (ad (aU (sr (ay lm U (aL 0 ty27 U U U ?_))))))))))))))
    refine aa (a8 (gX lB ty52 iX.Docs.1 (nthZ bh) (bA bh) U U U (fun q3 cs3 A3 ln3 rr3=>?_)))
    obtain ⟨r3,rfl,ok3⟩:=rr3
    refine ay wv U (ns (j:=6) ty31 A3 U U (bE eG U (aF U (aa ?_))))
    refine tq 9 [(1,Q b1),(3,I ((i1:Nat):Int)),(68,.bool (decide (20 < ((y1.Parties.length:Nat):Int))||decide (20 < ((y1.Revokes.length:Nat):Int))))] (fun hk7=>?_) (fun e=>?_)
    ·refine au 59 U (fun c8=>?_) (fun c8=>?_)
     ·refine kq (kq (kq (kq (ae U ?_))))
      exact hk7 _ ⟨U,U,(cb (eB c8)),trivial⟩
     ·refine ay lm U (aL 0 ty27 U U U (aa (a8 (gX lB ty52 iX.Docs.1 (nthZ bh) (bA bh) U U U (fun q4 cs4 A4 ln4 rr4=>?_)))))
      obtain ⟨r4,rfl,ok4⟩:=rr4
      refine ay si U (ns (j:=7) ty31 A4 U U (bE eG U (aF U (ae U ?_))))
      exact hk7 _ ⟨U,U,(cb (eE c8)),trivial⟩
    refine aa ?_
    refine tq 9 [(1,Q b1),(3,I ((i1:Nat):Int)),(78,.bool ((decide (20 < ((y1.Parties.length:Nat):Int))||decide (20 < ((y1.Revokes.length:Nat):Int)))||decide (20 < ((y1.Needs.length:Nat):Int))))] (fun hk8=>?_) (fun e=>?_)
    ·refine au 69 U (fun c9=>?_) (fun c9=>?_)
     ·refine kq (kq (kq (kq (ae U ?_))))
      exact hk8 _ ⟨U,U,(cb (eB c9)),trivial⟩
     ·refine ay lm U (aL 0 ty27 U U U (aa (a8 (gX lB ty52 iX.Docs.1 (nthZ bh) (bA bh) U U U (fun q5 cs5 A5 ln5 rr5=>?_)))))
      obtain ⟨r5,rfl,ok5⟩:=rr5
      refine ay sg U (ns (j:=8) ty31 A5 U U (bE eG U (aF U (ae U ?_))))
      exact hk8 _ ⟨U,U,(cb (eE c9)),trivial⟩
    refine ac ?_
    refine aB U (fun c10=>?_) (fun c10=>?_)
    ·have hs8:=hs6.trans (bt c10)
     refine sr (an ?_)
     exact ar [.bool false] Dw U hX rd (cs hs8)
    ·have hs10:=hs6.trans (bf c10)
     refine ai (ao (ah (aa (az (v':=I (((i1+1):Nat):Int)) U (bP ob) (an ?_)))))
     exact ag1 ((i1+1),rz1) _ (Nat.lt_succ_self _) ⟨bF hd1,aP hd1,hs10⟩ rd
theorem Ap (h:HF) (aT:Register) (aR:ep) (no:Int) (iX:Register.ok h aT aR):Ret Tryz.prog 19 [.agg (Register.cells aT aR).toArray,I no] h (I (dv aT no)):=by
 refine aw Tryz.func19 U Tryz.ntmps19 U fun X hM hX=>?_
 have hs0:dv aT no=dv aT no:=rfl
 refine sr (dC (fun b1=>an (ad (sr (an ?_)))))
 refine bq (ι:=Nat) (fun i=>[]) (fun i=>h) (fun i=>[(b1,O (Register.cells aT aR) 30)]) (fun i=>i≤aT.Docs.length∧dv aT no=((dv.K1))) ?_ (fun hx1=>?_)
 ·rintro i1 ⟨bd,hs1⟩ e
  try dsimp only at bd
  try dsimp only
  refine sr (an ?_)
  exact ar [I (-1)] Tryz.func19 U hX rd (ci hs1)
 ·refine ck (ι:=Nat×List Document) (fun i=>[(1,I no),(2,Q b1),(5,I ((i.1:Nat):Int))]) (fun i=>h) (fun i=>[(b1,O (Register.cells aT aR) 30)]) (fun i=>aT.Docs.drop i.1=i.2∧i.1≤aT.Docs.length∧dv aT no=((dv.L1 no (dv.K1)) i.2 i.1)) (fun i=>i.2.length) (0,aT.Docs) rd sw ⟨U,Nat.zero_le _,hs0⟩ ?_
  rintro ⟨i1,s1⟩ ⟨hd1,bd,hs3⟩ ag1 e
  try dsimp only at hd1 bd
  rcases s1 with _ | ⟨y1,rz1⟩
  ·have dJ:=cS hd1
   try dsimp only
   refine ad (sr (aa (ay lm U (aL 0 ty27 U U U (bE lB U (az (v':=.bool false) U (cb dJ) (ac (ba U (bM U ?_)))))))))
   exact hx1 i1 _ ⟨bd,hs3⟩ trivial
  ·have dI:=dV hd1
   have bh:=cU hd1
   have e9:=aP hd1
   have gO:=iX.Docs.1.1
   try dsimp only
   refine ad (sr (aa (ay lm U (aL 0 ty27 U U U (bE lB U (az (v':=.bool true) U (cb dI) (ac (bj U (ai (ad (aU (sr (ay lm U (aL 0 ty27 U U U ?_))))))))))))))
   refine aa (a8 (gX lB ty52 iX.Docs.1 (nthZ bh) (bA bh) U U U (fun q2 cs2 A2 ln2 rr2=>?_)))
   obtain ⟨r2,rfl,ok2⟩:=rr2
   refine ay kb U (eM ty3 A2 U (aa (aF U (ac ?_))))
   refine aB U (fun c2=>?_) (fun c2=>?_)
   ·have hs5:=hs3.trans (bt c2)
    refine sr (aa (an ?_))
    exact ar [I ((i1:Nat):Int)] Tryz.func19 U hX rd (ci hs5)
   ·have hs7:=hs3.trans (bf c2)
    refine ai (ao (ah (aa (az (v':=I (((i1+1):Nat):Int)) U (bP ob) (an ?_)))))
    exact ag1 ((i1+1),rz1) _ (Nat.lt_succ_self _) ⟨bF hd1,aP hd1,hs7⟩ rd
theorem we (h:HF) (dN:Int)  : Ret Tryz.prog 126 [I dN] h (.bool (jX dN)):=by
 refine aw Tryz.func126 U Tryz.ntmps126 U fun X hM hX=>?_
 have hs0:jX dN=jX dN:=rfl
 refine sr (an (sr (aa (aF U (aa ?_)))))
 refine tq 3 [(8,.bool (decide (0≤dN)&&decide (dN < 32)))] (fun hk1=>?_) (fun e=>?_)
 ·refine au 5 U (fun c1=>?_) (fun c1=>?_)
  ·refine aa (aF U (ae U ?_))
   exact hk1 _ ⟨(cb (cY c1)),trivial⟩
  ·refine kq (ae U ?_)
   exact hk1 _ ⟨(cb (cZ c1)),trivial⟩
 refine an ?_
 exact ar [.bool (decide (0≤dN)&&decide (dN < 32))] Tryz.func126 U hX rd (cs hs0)
theorem sQ (h:HF) (dN:Int)  : Ret Tryz.prog 127 [I dN] h (.bool (ij dN)):=by
 refine aw Tryz.func127 U Tryz.ntmps127 U fun X hM hX=>?_
 have hs0:ij dN=ij dN:=rfl
 refine sr (an (sr (aa (aF U (aa ?_)))))
 refine tq 3 [(8,.bool (decide (0≤dN)&&decide (dN < 1099511627776)))] (fun hk1=>?_) (fun e=>?_)
 ·refine au 5 U (fun c1=>?_) (fun c1=>?_)
  ·refine aa (aF U (ae U ?_))
   exact hk1 _ ⟨(cb (cY c1)),trivial⟩
  ·refine kq (ae U ?_)
   exact hk1 _ ⟨(cb (cZ c1)),trivial⟩
 refine an ?_
 exact ar [.bool (decide (0≤dN)&&decide (dN < 1099511627776))] Tryz.func127 U hX rd (cs hs0)
theorem wd (h:HF) (dN:Int)  : Ret Tryz.prog 180 [I dN] h (.bool (kC dN)):=by
 refine aw Tryz.func180 U Tryz.ntmps180 U fun X hM hX=>?_
 have hs0:kC dN=kC dN:=rfl
 refine sr (an (sr (aa (aF U (aa ?_)))))
 refine tq 3 [(8,.bool (decide (0≤dN)&&decide (dN < 64)))] (fun hk1=>?_) (fun e=>?_)
 ·refine au 5 U (fun c1=>?_) (fun c1=>?_)
  ·refine aa (aF U (ae U ?_))
   exact hk1 _ ⟨(cb (cY c1)),trivial⟩
  ·refine kq (ae U ?_)
   exact hk1 _ ⟨(cb (cZ c1)),trivial⟩
 refine an ?_
 exact ar [.bool (decide (0≤dN)&&decide (dN < 64))] Tryz.func180 U hX rd (cs hs0)
theorem xl (h:HF) (x:Appoint)  : Ret Tryz.prog 112 [.agg (Appoint.cells x).toArray] h (.bool (hO x)):=by
 refine aw Dv U Tryz.ntmps112 U fun X hM hX=>?_
 have hs0:hO x=hO x:=rfl
 refine sr (dC (fun b1=>an (ad (sr (ay oV U (aL 0 ty3 U U U (aF U (aa ?_))))))))
 refine tq 4 [(1,Q b1),(10,.bool (decide (x.No < 0)||decide (1048576 < x.No)))] (fun hk1=>?_) (fun e=>?_)
 ·refine au 6 U (fun c1=>?_) (fun c1=>?_)
  ·refine kq (bY (ae U ?_))
   exact hk1 _ ⟨U,(cb (eB c1)),trivial⟩
  ·refine ay oV U (aL 0 ty3 U U U (aF U (ae U ?_)))
   exact hk1 _ ⟨U,(cb (eE c1)),trivial⟩
 refine aa ?_
 refine tq 5 [(1,Q b1),(16,.bool ((decide (x.No < 0)||decide (1048576 < x.No))||(!(ij x.At))))] (fun hk2=>?_) (fun e=>?_)
 ·refine au 11 U (fun c2=>?_) (fun c2=>?_)
  ·refine kq (kq (ae U ?_))
   exact hk2 _ ⟨U,(cb (eB c2)),trivial⟩
  ·refine ay qp U (aL 0 ty3 U U U (aA (v:=.bool (ij x.At)) Tryz.call127 (sQ h x.At ) U (cR U (ae U ?_))))
   exact hk2 _ ⟨U,(cb (eE c2)),trivial⟩
 refine aa ?_
 refine tq 5 [(1,Q b1),(22,.bool (((decide (x.No < 0)||decide (1048576 < x.No))||(!(ij x.At)))||(!(ij x.Known))))] (fun hk3=>?_) (fun e=>?_)
 ·refine au 17 U (fun c3=>?_) (fun c3=>?_)
  ·refine kq (kq (ae U ?_))
   exact hk3 _ ⟨U,(cb (eB c3)),trivial⟩
  ·refine ay uh U (aL 0 ty3 U U U (aA (v:=.bool (ij x.Known)) Tryz.call127 (sQ h x.Known ) U (cR U (ae U ?_))))
   exact hk3 _ ⟨U,(cb (eE c3)),trivial⟩
 refine aa ?_
 refine tq 5 [(1,Q b1),(28,.bool ((((decide (x.No < 0)||decide (1048576 < x.No))||(!(ij x.At)))||(!(ij x.Known)))||(!(jX x.Office))))] (fun hk4=>?_) (fun e=>?_)
 ·refine au 23 U (fun c4=>?_) (fun c4=>?_)
  ·refine kq (kq (ae U ?_))
   exact hk4 _ ⟨U,(cb (eB c4)),trivial⟩
  ·refine ay wu U (aL 0 ty3 U U U (aA (v:=.bool (jX x.Office)) Tryz.call126 (we h x.Office ) U (cR U (ae U ?_))))
   exact hk4 _ ⟨U,(cb (eE c4)),trivial⟩
 refine aa ?_
 refine tq 5 [(1,Q b1),(34,.bool (((((decide (x.No < 0)||decide (1048576 < x.No))||(!(ij x.At)))||(!(ij x.Known)))||(!(jX x.Office)))||(!(kC x.Person))))] (fun hk5=>?_) (fun e=>?_)
 ·refine au 29 U (fun c5=>?_) (fun c5=>?_)
  ·refine kq (kq (ae U ?_))
   exact hk5 _ ⟨U,(cb (eB c5)),trivial⟩
  ·refine ay ug U (aL 0 ty3 U U U (aA (v:=.bool (kC x.Person)) Tryz.call180 (wd h x.Person ) U (cR U (ae U ?_))))
   exact hk5 _ ⟨U,(cb (eE c5)),trivial⟩
 refine ac ?_
 refine aB U (fun c6=>?_) (fun c6=>?_)
 ·have hs1:=hs0.trans (bt c6)
  refine sr (an ?_)
  exact ar [.bool false] Dv U hX rd (cs hs1)
 ·have hs3:=hs0.trans (bf c6)
  refine ai (ad (sr (ay AQ U (aL 0 ty4 U U U (ac ?_)))))
  refine aB U (fun c7=>?_) (fun c7=>?_)
  ·have hs4:=hs3.trans (bt c7)
   refine sr (ay sf U (aL 0 ty3 U U U (aF U (an ?_))))
   exact ar [.bool (x.Weight==0)] Dv U hX rd (cs hs4)
  ·have hs6:=hs3.trans (bf c7)
   refine ai (sr (ay sf U (aL 0 ty3 U U U (aF U (aa ?_)))))
   refine tq 4 [(47,.bool (decide (1≤x.Weight)&&decide (x.Weight≤64)))] (fun hk6=>?_) (fun e=>?_)
   ·refine au 43 U (fun c8=>?_) (fun c8=>?_)
    ·refine ay sf U (aL 0 ty3 U U U (aF U (ae U ?_)))
     exact hk6 _ ⟨(cb (cY c8)),trivial⟩
    ·refine kq (bY (ae U ?_))
     exact hk6 _ ⟨(cb (cZ c8)),trivial⟩
   refine an ?_
   exact ar [.bool (decide (1≤x.Weight)&&decide (x.Weight≤64))] Dv U hX rd (cs hs6)
theorem xm (h:HF) (l:(List Appoint)) (fc:Option Addr) (fb:Nat) (hl:SlC Appoint.rp h fc fb l):Ret Tryz.prog 67 [.slice fc l.length fb] h (I (ey l)):=by
 refine aw Du U Tryz.ntmps67 U fun X hM hX=>?_
 have hs0:ey l=ey l:=rfl
 refine sr (an (ad (sr (aa (bE lY U (aF U (ac ?_)))))))
 refine aB U (fun c1=>?_) (fun c1=>?_)
 ·have c1p:=of_decide_eq_true c1
  have hs1:=hs0.trans (bt c1)
  refine sr (an ?_)
  exact ar [I 2] Du U hX rd (ci hs1)
 ·have c1p:=of_decide_eq_false c1
  have hs3:=hs0.trans (bf c1)
  refine ai (ad (sr (an ?_)))
  refine bq (ι:=Nat) (fun i=>[]) (fun i=>h) (fun i=>[]) (fun i=>i≤l.length∧ey l=((ey.K1))) ?_ (fun hx1=>?_)
  ·rintro i1 ⟨bd,hs4⟩ e
   try dsimp only at bd
   try dsimp only
   refine sr (an ?_)
   exact ar [I 0] Du U hX rd (ci hs4)
  ·refine ck (ι:=Nat×List Appoint) (fun i=>[(0,.slice fc l.length fb),(3,I ((i.1:Nat):Int))]) (fun i=>h) (fun i=>[]) (fun i=>l.drop i.1=i.2∧i.1≤l.length∧ey l=((ey.L1 l (ey.K1)) i.2 i.1)) (fun i=>i.2.length) (0,l) rd sw ⟨U,Nat.zero_le _,hs3⟩ ?_
   rintro ⟨i1,s1⟩ ⟨hd1,bd,hs6⟩ ag1 e
   try dsimp only at hd1 bd
   rcases s1 with _ | ⟨y1,rz1⟩
   ·have dJ:=cS hd1
    try dsimp only
    refine ad (sr (aa (aa (bE lY U (az (v':=.bool false) U (cb dJ) (ac (ba U (bM U ?_))))))))
    exact hx1 i1 _ ⟨bd,hs6⟩ trivial
   ·have dI:=dV hd1
    have bh:=cU hd1
    have e9:=aP hd1
    have gO:=hl.1.1
    try dsimp only
    refine ad (sr (aa (aa (bE lY U (az (v':=.bool true) U (cb dI) (ac (bj U (ai (ad (aU (ad ?_)))))))))))
    refine mL [(0,.slice fc l.length fb),(3,I ((i1:Nat):Int)),(36,.bool ((!(hO y1))||(decide (0 < ((i1:Nat):Int))&&decide (y1.No≤(nthI l (((i1:Nat):Int) - 1)).No))))] (fun e=>?_) (fun hk1=>?_)
    rotate_left
    ·refine gr ([]) mixed kr jn (fun fd _=>?_)
     refine tm 0 U (tm 1 U (fR 2 (enc:=Appoint.cells) fd jn (fun _ _ _ e=>e) lY ty59 hl.1 (nthZ bh) (bA bh) U U U U kr (fun q4 A4=>?_)))
     refine tf 3 U U (fun _ _ hj=>j8 ty59 (A4.mono hj.1) U U) (tn 4 U (fU (v:=.bool (hO y1)) Tryz.call112 (xl h y1 ) U (⟨jn,?_⟩)))
     refine tf 5 U U (fun _ _ _=>kH U) (tm 6 U ?_)
     refine eI 19 U (fun c2=>?_) (fun c2=>?_)
     ·refine tk 7 U U (tk 8 U U (tk 9 U U (tk 10 U U ?_)))
      refine tk 11 U U (tk 12 U U (tk 13 U U (tk 14 U U ?_)))
      refine tk 15 U U (tk 16 U U (tk 17 U U (tk 18 U U ?_)))
      refine tk 19 U U (tk 20 U U (tk 21 U U (tk 22 U U ?_)))
      refine tf 23 U U (fun _ _ _=>cr U) (cd kr ?_)
      exact hk1 _ ⟨U,U,(cb (show true=((!(hO y1))||(decide (0 < ((i1:Nat):Int))&&decide (y1.No≤(nthI l (((i1:Nat):Int) - 1)).No))) from by rw [c2] <;> rfl)),trivial⟩
     ·refine tm 7 U (tf 8 U U (fun _ _ _=>iH U) (tm 9 U ?_))
      refine eI 22 U (fun c3=>?_) (fun c3=>?_)
      ·have c3p:=of_decide_eq_true c3
       refine tm 10 U (tm 11 U (tf 12 U U (fun _ _ _=>nl (v':=I (((i1:Nat):Int) - 1)) U (iZ ob)) ?_))
       have ho2:0≤((((i1:Nat):Int) - 1):Int)∧((((i1:Nat):Int) - 1):Int) < ((l).length:Int):=ob
       refine fR 13 (enc:=Appoint.cells) fd jn (fun _ _ _ e=>e) lY ty59 hl.1 ho2 (eN ho2) U U U U kr (fun q5 A5=>tf 14 U U (fun _ _ _=>dO oV U) ?_)
       refine tf 15 U U (fun _ _ hj=>gu ty3 (A5.mono hj.1) U) (tm 16 U (tm 17 U ?_))
       refine fR 18 (enc:=Appoint.cells) fd jn (fun _ _ _ e=>e) lY ty59 hl.1 (nthZ bh) (bA bh) U U U U kr (fun q6 A6=>tf 19 U U (fun _ _ _=>dO oV U) ?_)
       refine tf 20 U U (fun _ _ hj=>gu ty3 (A6.mono hj.1) U) (tf 21 U U (fun _ _ _=>iH U) (tf 22 U U (fun _ _ _=>cr U) ?_))
       refine tf 23 U U (fun _ _ _=>cr U) (cd kr ?_)
       exact hk1 _ ⟨U,U,(cb (show decide (y1.No≤(nthI l (((i1:Nat):Int) - 1)).No)=((!(hO y1))||(decide (0 < ((i1:Nat):Int))&&decide (y1.No≤(nthI l (((i1:Nat):Int) - 1)).No))) from by rw [c2,c3] <;> rfl)),trivial⟩
      ·have c3p:=of_decide_eq_false c3
       refine tk 10 U U (tk 11 U U (tk 12 U U (tk 13 U U ?_)))
       refine tk 14 U U (tk 15 U U (tk 16 U U (tk 17 U U ?_)))
       refine tk 18 U U (tk 19 U U (tk 20 U U (tk 21 U U ?_)))
       refine tf 22 U U (fun _ _ _=>cr U) (tf 23 U U (fun _ _ _=>cr U) (cd kr ?_))
       exact hk1 _ ⟨U,U,(cb (show false=((!(hO y1))||(decide (0 < ((i1:Nat):Int))&&decide (y1.No≤(nthI l (((i1:Nat):Int) - 1)).No))) from by rw [c2,c3] <;> rfl)),trivial⟩
    refine aB U (fun c4=>?_) (fun c4=>?_)
    ·have hs8:=hs6.trans (bt c4)
     refine sr (an ?_)
     exact ar [I 150] Du U hX rd (ci hs8)
    ·have hs10:=hs6.trans (bf c4)
     refine ai (ao (ah (aa (az (v':=I (((i1+1):Nat):Int)) U (bP ob) (an ?_)))))
     exact ag1 ((i1+1),rz1) _ (Nat.lt_succ_self _) ⟨bF hd1,aP hd1,hs10⟩ rd
end Go.Sg
