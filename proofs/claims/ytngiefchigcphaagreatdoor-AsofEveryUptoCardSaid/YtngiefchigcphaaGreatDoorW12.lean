import Derived.Test.YtngiefchigcphaaGreatDoorW1
import Derived.Test.YtngiefchigcphaaGreatDoorW2
import Derived.Test.YtngiefchigcphaaGreatDoorW3
import Derived.Test.YtngiefchigcphaaGreatDoorW4
import Derived.Test.YtngiefchigcphaaGreatDoorW5
import Derived.Test.YtngiefchigcphaaGreatDoorW6
import Derived.Test.YtngiefchigcphaaGreatDoorW7
import Derived.Test.YtngiefchigcphaaGreatDoorW8
import Derived.Test.YtngiefchigcphaaGreatDoorW9
import Derived.Test.YtngiefchigcphaaGreatDoorW10
import Derived.Test.YtngiefchigcphaaGreatDoorW11
/- A part of the proof of the law AsofEvery: where what it reads holds at most 1048576 values and letters, the call returns true and its arguments read as they did. Conditions: that bound, and that the listed table starts as the program lays it. -/
set_option linter.unusedVariables false
set_option linter.unusedSimpArgs false
namespace Go.Sg
open Go.Proofs
set_option maxHeartbeats 2000000
set_option maxRecDepth 100000
set_option linter.unusedVariables false
theorem ly (h:HF) (aP:Register) (bH:er) (doc:Int) (who:(List Int)) (eG:Option Addr) (eF:Nat) (known:Int) (ip:Register.ok h aP bH) (hwho:SlC Rp.int h eG eF who) (hsm:smR aP) (hsw:who.length≤2000000) (hk:Kinds h):jK Tryz.prog 10 [.agg (Register.cells aP bH).toArray,I doc,.slice eG who.length eF,I known] h (fun v h'=>∃ (rb0:Option Addr) (rc0:Nat),v=.tuple #[.slice rb0 ((bp aP doc who known).1).length rc0,I ((bp aP doc who known).2)]∧SlC Span.rp h' rb0 rc0 ((bp aP doc who known).1)):=by
 refine ay DA U Tryz.ntmps10 U fun X hM hX=>?_
 have hs0:bp aP doc who known=bp aP doc who known:=rfl
 refine sr (dy (fun b1=>dy (fun b2=>bX zc34 (fun b3=>an (ae (sr (dq 2 ty30 U U U (aG (v:=I (fp aP)) Tryz.call26 (rf h aP bH ip ob hk) U ?_))))))))
 refine aJ U (ac ?_)
 refine aE U (fun c1=>?_) (fun c1=>?_)
 ·have hs1:=hs0.trans (bt c1)
  refine sr (dW 0 ty34 U U U U U U (an ?_))
  have hs2:bp aP doc who known=([],300):=hs1
  exact dS [.slice none 0 0,I 300] DA U ⟨⟨0,_,_,_,_,U,U,.inr ⟨_,ty34,U⟩⟩,U,trivial⟩ ⟨none,0,congrArg (fun r:((List Span)×Int)=>(.tuple #[.slice none r.1.length 0,I r.2]:Value)) hs2.symm,(by rw [hs2];exact SlC.nil)⟩
 ·have hs3:=hs0.trans (bf c1)
  refine ao (sr (dq 2 ty30 U U U (aa (aa (a8 (dg Tryz.call27 (vy h aP bH doc known ip) U (fun v1 h1 hle1 hp1=>?_)))))))
  obtain ⟨rr1,rfl,ok1⟩:=hp1
  refine aa (bG U U (bG U U (bX zc77 (fun b4=>bN 0 ty77 U U U U U U (an (ae (sr (aa (cV U (aa ?_))))))))))
  refine tq 4 [(6,Q b2),(8,Q b3),(10,Q b4),(30,.bool ((!((cT aP doc known).2))||(!(fy who))))] (fun hk1=>?_) (fun e=>?_)
  ·refine ar 26 U (fun c2=>?_) (fun c2=>?_)
   ·refine kq (bP (ah U ?_))
    exact hk1 _ ⟨U,U,U,(cb (dL c2)),trivial⟩
   ·refine aO 2 ty31 U U U (aG (v:=.bool (fy who)) Tryz.call28 (xQ h1 who eG eF (hwho.mono Rp.ce hle1)) U (cV U (ah U ?_)))
    exact hk1 _ ⟨U,U,U,(cb (dM c2)),trivial⟩
  refine ac ?_
  refine aE U (fun c3=>?_) (fun c3=>?_)
  ·have hs4:=hs3.trans (bt c3)
   refine sr (dW 1 ty34 U U U U U U (an ?_))
   have hs5:bp aP doc who known=([],1):=hs4
   exact dS [.slice none 0 0,I 1] DA U ⟨⟨1,_,_,_,_,U,U,.inr ⟨_,ty34,U⟩⟩,U,trivial⟩ ⟨none,0,congrArg (fun r:((List Span)×Int)=>(.tuple #[.slice none r.1.length 0,I r.2]:Value)) hs5.symm,(by rw [hs5];exact SlC.nil)⟩
  ·have hs6:=hs3.trans (bf c3)
   refine ao (ae (sr (dq 0 ty77 U U U (a8 (dg Tryz.call29 (pr h1 ((cT aP doc known).1) rr1 ok1 (by have a_:=(asked (by simpa using c1) (by simp only [decide_eq_true_eq,decide_eq_false_iff_not,Bool.and_eq_true,Bool.or_eq_true,Bool.not_eq_true',Bool.not_eq_false',Bool.and_eq_false_iff,Bool.or_eq_false_iff,beq_iff_eq,beq_eq_false_iff_ne,bne_iff_ne,bne_eq_false_iff_eq,List.length_append,List.length_cons,List.length_nil,List.length_drop] at c3;exact c3.1));rw [a_.reg];exact hsm) (by have a_:=(asked (by simpa using c1) (by simp only [decide_eq_true_eq,decide_eq_false_iff_not,Bool.and_eq_true,Bool.or_eq_true,Bool.not_eq_true',Bool.not_eq_false',Bool.and_eq_false_iff,Bool.or_eq_false_iff,beq_iff_eq,beq_eq_false_iff_ne,bne_iff_ne,bne_eq_false_iff_eq,List.length_append,List.length_cons,List.length_nil,List.length_drop] at c3;exact c3.1));rw [a_.reg];exact a_.vers.okV) (by have a_:=(asked (by simpa using c1) (by simp only [decide_eq_true_eq,decide_eq_false_iff_not,Bool.and_eq_true,Bool.or_eq_true,Bool.not_eq_true',Bool.not_eq_false',Bool.and_eq_false_iff,Bool.or_eq_false_iff,beq_iff_eq,beq_eq_false_iff_ne,bne_iff_ne,bne_eq_false_iff_eq,List.length_append,List.length_cons,List.length_nil,List.length_drop] at c3;exact c3.1));exact ⟨a_.doc.at_.1,Int.le_of_lt a_.doc.at_.2⟩)) U (fun v2 h2 hle2 hp2=>?_))))))
   obtain ⟨_,rfl,mo1⟩:=hp2
   refine ac (aW ?_)
   refine gf ?_
   refine dX (L':=([(b4,O (aU.cells ((cT aP doc known).1) rr1) 77),(b3,O [.slice none 0 0] 34),(b2,O [.slice eG who.length eF] 31),(b1,O (Register.cells aP bH) 30)])++markB []) ap ?_
   refine j2 (it:=v2) (xs:=(aH ((cT aP doc known).1))) (ι:=(List Span)×Option Addr×Nat×LH×HF) [] (fun i=>i.2.2.2.2) (fun i=>[(b4,O (aU.cells ((cT aP doc known).1) rr1) 77),(b3,O [.slice i.2.1 i.1.length i.2.2.1] 34),(b2,O [.slice eG who.length eF] 31),(b1,O (Register.cells aP bH) 30)]++(i.2.2.2.1)) (fun s i=>bp aP doc who known=((bp.L1 aP doc who known (bp.K1)) s i.1)∧ep Span.rp 46 i.2.2.2.2 i.1 i.2.1 i.2.2.1 i.2.2.2.1∧HF.le h2 i.2.2.2.2∧i.1.length+s.length≤5000000) (fun _=>False) (fun _=>False) 0 (fun _ _ _=>False) ([],none,0,[],h2) DA U mo1 U zL (fun _ _ _ _ _ hq=>hq) U (show [(b4,O (aU.cells ((cT aP doc known).1) rr1) 77),(b3,O [.slice none 0 0] 34),(b2,O [.slice eG who.length eF] 31),(b1,O (Register.cells aP bH) 30)]=_ from U) ⟨hs6,ep.nil,(HF.le_refl h2),(by have a_:=(asked (by simpa using c1) (by simp only [decide_eq_true_eq,decide_eq_false_iff_not,Bool.and_eq_true,Bool.or_eq_true,Bool.not_eq_true',Bool.not_eq_false',Bool.and_eq_false_iff,Bool.or_eq_false_iff,beq_iff_eq,beq_eq_false_iff_ne,bne_iff_ne,bne_eq_false_iff_eq,List.length_append,List.length_cons,List.length_nil,List.length_drop] at c3;exact c3.1));have:=Ew (q:=(cT aP doc known).1) (by rw [a_.reg];exact hsm) (by rw [a_.reg];exact a_.vers.okV);simpa using this)⟩ ?_ ?_ ?_ ?_ ?_
   ·rintro l1 dm1 lp1 y1 rz1 vs1 ⟨aV,fY,fX,im,hh1⟩ hr1 X hFR1 ⟨hs7,jb,hl1,u1_0⟩ hl01 hlr1 hv1 hX hXM hlp1 nx1 rt1 ex1 pn1
    try dsimp only at jb hl1 u1_0 hlr1
    obtain rfl:=hv1
    simp only [List.length_cons] at u1_0
    refine dX (L':=[(l1,.loop lp1),(dm1,.deferred (some [])),(b4,O (aU.cells ((cT aP doc known).1) rr1) 77),(b3,O [.slice fY aV.length fX] 34),(b2,O [.slice eG who.length eF] 31),(b1,O (Register.cells aP bH) 30)]++(im++(markB []))) ap ?_
    refine ai (bX zc46 (fun b6=>bN 0 ty46 U U U U U U (iv (L':=[(b6,O (Span.cells y1) 46),(l1,.loop lp1),(dm1,.deferred (some [])),(b4,O (aU.cells ((cT aP doc known).1) rr1) 77),(b3,O [.slice fY aV.length fX] 34),(b2,O [.slice eG who.length eF] 31),(b1,O (Register.cells aP bH) 30)]++(im++(markB []))) U ?_)))
    refine ac (j3 1 U hlp1 (aW (sr (aO 4 ty34 U U U (bC mK U (an (aW (sr (dq 3 ty77 U U U (aO 5 ty31 U U U (az tW U (aO 0 ty3 U U U (aG (v:=.bool (bu ((cT aP doc known).1) who y1.From)) Tryz.call30 (mt hr1 ((cT aP doc known).1) rr1 who eG eF y1.From (ok1.mono ((hle2.t hl1).t hlr1)) (hwho.mono Rp.ce (((hle1.t hle2).t hl1).t hlr1)) (by have a_:=(asked (by simpa using c1) (by simp only [decide_eq_true_eq,decide_eq_false_iff_not,Bool.and_eq_true,Bool.or_eq_true,Bool.not_eq_true',Bool.not_eq_false',Bool.and_eq_false_iff,Bool.or_eq_false_iff,beq_iff_eq,beq_eq_false_iff_ne,bne_iff_ne,bne_eq_false_iff_eq,List.length_append,List.length_cons,List.length_nil,List.length_drop] at c3;exact c3.1));rw [a_.reg];exact hsm) (by have a_:=(asked (by simpa using c1) (by simp only [decide_eq_true_eq,decide_eq_false_iff_not,Bool.and_eq_true,Bool.or_eq_true,Bool.not_eq_true',Bool.not_eq_false',Bool.and_eq_false_iff,Bool.or_eq_false_iff,beq_iff_eq,beq_eq_false_iff_ne,bne_iff_ne,bne_eq_false_iff_eq,List.length_append,List.length_cons,List.length_nil,List.length_drop] at c3;exact c3.1));rw [a_.reg];exact a_.vers.okV) (by have a_:=(asked (by simpa using c1) (by simp only [decide_eq_true_eq,decide_eq_false_iff_not,Bool.and_eq_true,Bool.or_eq_true,Bool.not_eq_true',Bool.not_eq_false',Bool.and_eq_false_iff,Bool.or_eq_false_iff,beq_iff_eq,beq_eq_false_iff_ne,bne_iff_ne,bne_eq_false_iff_eq,List.length_append,List.length_cons,List.length_nil,List.length_drop] at c3;exact c3.1));exact ⟨⟨a_.doc.at_.1,Int.le_of_lt a_.doc.at_.2⟩,a_.doc.kind.1⟩) ob (hk.mono (((hle1.t hle2).t hl1).t hlr1))) U ?_)))))))))))))
    refine cV U (an ?_)
    refine aE U (fun c5=>?_) (fun c5=>?_)
    ·have hs8:=hs7.trans (bt c5)
     refine ao (av (av ?_))
     refine cE (L':=[(l1,.loop { lp1 with state:=.busy }),(dm1,.deferred (some [])),(b4,O (aU.cells ((cT aP doc known).1) rr1) 77),(b3,O [.slice fY aV.length fX] 34),(b2,O [.slice eG who.length eF] 31),(b1,O (Register.cells aP bH) 30)]++(im++(markB []))) js ?_
     refine dX (L':=rdH l1 dm1 lp1 (([(b4,O (aU.cells ((cT aP doc known).1) rr1) 77),(b3,O [.slice fY aV.length fX] 34),(b2,O [.slice eG who.length eF] 31),(b1,O (Register.cells aP bH) 30)]++(im))++markB [])) ap ?_
     exact nx1 (aV,fY,fX,im,hr1) _ _ ⟨hs8,(jb.mono Span.aN hlr1),(hl1.t hlr1),(by first | omega | (simp only [List.length_append,List.length_cons,List.length_nil,List.length_set];omega))⟩ (HF.le_refl _)
    ·have hs9:=hs7.trans (bf c5)
     refine ae ?_
     refine my [(8,Q b3),(12,Q b6),(13,I ((aV.length:Nat):Int)),(47,.bool (decide (0 < ((aV.length:Nat):Int))&&((nthI aV (((aV.length:Nat):Int) - 1)).Until==y1.From)))] (fun e=>?_) (fun hk2=>?_)
     rotate_left
     ·refine ga ([(b6,O (Span.cells y1) 46),(l1,.loop { lp1 with state:=.busy }),(dm1,.deferred (some [])),(b4,O (aU.cells ((cT aP doc known).1) rr1) 77),(b3,O [.slice fY aV.length fX] 34),(b2,O [.slice eG who.length eF] 31),(b1,O (Register.cells aP bH) 30)]++(im)) mixed kr jn (fun eX _=>?_)
      refine tm 0 U (tf 1 U U (fun _ _ _=>ib U) ?_)
      refine tm 2 U ?_
      refine eo 50 U (fun c6=>?_) (fun c6=>?_)
      ·have c6p:=of_decide_eq_true c6
       refine tf 3 U U (fun _ _ hj=>gu ty34 U (hj.nth (i:=4) U) U) (tm 4 U ?_)
       refine tf 5 U U (fun _ _ _=>mB (v':=I (((aV.length:Nat):Int) - 1)) U (iu ob)) ?_
       have ho2:0≤((((aV.length:Nat):Int) - 1):Int)∧((((aV.length:Nat):Int) - 1):Int) < ((aV).length:Int):=ob
       obtain ⟨bk2,hbk2⟩:=ep.uN (jb.mono Span.aN hlr1) ob
       refine tf 6 U U (fun _ _ _=>zz (R:=Span.rp) (xs:=aV) mK ty46 hbk2 ho2 U U U) ?_
       refine tf 7 U U (fun _ _ _=>dB pY U) (tf 8 U U (fun _ _ hj=>Hq (R:=Span.rp) (i:=((((aV.length:Nat):Int) - 1):Int).toNat) (off:=1) ty3 (jb.mono Span.aN hlr1) hbk2 (eA ho2) (fun cs hcs=>by rw [show cs=Span.cells (nthI aV (((aV.length:Nat):Int) - 1)) from hcs];rfl) U (fun p hp=>hj.2 p (by simp only [List.mem_append,List.mem_cons,hp,true_or,or_true]))) ?_)
       refine tf 9 U U (fun _ _ _=>dB tW U) (tf 10 U U (fun _ _ hj=>gu ty3 U (hj.nth (i:=0) U) U) ?_)
       refine tf 11 U U (fun _ _ _=>ib U) (tf 12 U U (fun _ _ _=>co U) ?_)
       refine tf 13 U U (fun _ _ _=>fO) (bY kr ?_)
       exact hk2 _ ⟨U,U,U,(cb (show ((nthI aV (((aV.length:Nat):Int) - 1)).Until==y1.From)=(decide (0 < ((aV.length:Nat):Int))&&((nthI aV (((aV.length:Nat):Int) - 1)).Until==y1.From)) from by rw [c6] <;> rfl)),trivial⟩
      ·have c6p:=of_decide_eq_false c6
       refine tk 3 U U (tk 4 U U ?_)
       refine tk 5 U U (tk 6 U U ?_)
       refine tk 7 U U (tk 8 U U ?_)
       refine tk 9 U U (tk 10 U U ?_)
       refine tk 11 U U (tf 12 U U (fun _ _ _=>co U) ?_)
       refine tf 13 U U (fun _ _ _=>fO) (bY kr ?_)
       exact hk2 _ ⟨U,U,U,(cb (show false=(decide (0 < ((aV.length:Nat):Int))&&((nthI aV (((aV.length:Nat):Int) - 1)).Until==y1.From)) from by rw [c6] <;> rfl)),trivial⟩
     refine aE U (fun c7=>?_) (fun c7=>?_)
     ·have hs10:=hs9.trans (bt c7)
      refine ai (aO 4 ty34 U U U (aa (aB (v':=I (((aV.length:Nat):Int) - 1)) U (iu ob) (az pY U (aO 0 ty3 U U U ?_)))))
      have ho3:0≤((((aV.length:Nat):Int) - 1):Int)∧((((aV.length:Nat):Int) - 1):Int) < ((aV).length:Int):=ob
      obtain ⟨bk3,hbk3⟩:=ep.uN (jb.mono Span.aN hlr1) ob
      refine a8 (gH (zz (R:=Span.rp) (xs:=aV) mK ty46 hbk3 ho3 U U U) (az pY U (a8 (AH (R:=Span.rp) (i:=((((aV.length:Nat):Int) - 1):Int).toNat) (off:=1) (u:=(nthI aV (((aV.length:Nat):Int) - 1))) (u':=(Span.mk (nthI aV (((aV.length:Nat):Int) - 1)).From y1.Until)) (v:=I y1.Until) ([(b6,O (Span.cells y1) 46),(l1,.loop { lp1 with state:=.busy }),(dm1,.deferred (some [])),(b4,O (aU.cells ((cT aP doc known).1) rr1) 77),(b3,O [.slice fY aV.length fX] 34),(b2,O [.slice eG who.length eF] 31),(b1,O (Register.cells aP bH) 30)]) im (markB []) ty3 U (jb.mono Span.aN hlr1) ap hbk3 (eA ho3) (by decide) (fun cs hcs=>by rw [show cs=Span.cells (nthI aV (((aV.length:Nat):Int) - 1)) from hcs];rfl) U U U (fun G1 gr1=>?_)))))
      refine iv (L':=[(b6,O (Span.cells y1) 46),(l1,.loop { lp1 with state:=.busy }),(dm1,.deferred (some [])),(b4,O (aU.cells ((cT aP doc known).1) rr1) 77),(b3,O [.slice fY ((aV.set ((((aV.length:Nat):Int) - 1):Int).toNat (Span.mk (nthI aV (((aV.length:Nat):Int) - 1)).From y1.Until)).length) fX] 34),(b2,O [.slice eG who.length eF] 31),(b1,O (Register.cells aP bH) 30)]++(G1++(markB []))) (by simp only [List.length_set,List.append_assoc,List.cons_append,List.nil_append,List.append_nil]) ?_
      refine ac (av (av ?_))
      refine cE (L':=[(l1,.loop { lp1 with state:=.busy }),(dm1,.deferred (some [])),(b4,O (aU.cells ((cT aP doc known).1) rr1) 77),(b3,O [.slice fY ((aV.set ((((aV.length:Nat):Int) - 1):Int).toNat (Span.mk (nthI aV (((aV.length:Nat):Int) - 1)).From y1.Until)).length) fX] 34),(b2,O [.slice eG who.length eF] 31),(b1,O (Register.cells aP bH) 30)]++(G1++(markB []))) js ?_
      refine dX (L':=rdH l1 dm1 lp1 (([(b4,O (aU.cells ((cT aP doc known).1) rr1) 77),(b3,O [.slice fY ((aV.set ((((aV.length:Nat):Int) - 1):Int).toNat (Span.mk (nthI aV (((aV.length:Nat):Int) - 1)).From y1.Until)).length) fX] 34),(b2,O [.slice eG who.length eF] 31),(b1,O (Register.cells aP bH) 30)]++(G1))++markB [])) ap ?_
      exact nx1 ((aV.set ((((aV.length:Nat):Int) - 1):Int).toNat (Span.mk (nthI aV (((aV.length:Nat):Int) - 1)).From y1.Until)),fY,fX,G1,hr1) _ _ ⟨hs10,gr1,(hl1.t hlr1),(by first | omega | (simp only [List.length_append,List.length_cons,List.length_nil,List.length_set];omega))⟩ (HF.le_refl _)
     ·have hs11:=hs9.trans (bf c7)
      refine ai (aO 4 ty34 U U U (dq 0 ty46 U U U (a8 (ck (cells:=[I y1.From,I y1.Until]) mK ty46 zc46 U U kr (fun b7=>a8 (eK Span.e5 ([(b7,O [I y1.From,I y1.Until] 46),(b6,O (Span.cells y1) 46),(l1,.loop { lp1 with state:=.busy }),(dm1,.deferred (some [])),(b4,O (aU.cells ((cT aP doc known).1) rr1) 77),(b3,O [.slice fY aV.length fX] 34),(b2,O [.slice eG who.length eF] 31),(b1,O (Register.cells aP bH) 30)]) (markB []) (fun G=>[(b7,O [I y1.From,I y1.Until] 46),(b6,O (Span.cells y1) 46),(l1,.loop { lp1 with state:=.busy }),(dm1,.deferred (some [])),(b4,O (aU.cells ((cT aP doc known).1) rr1) 77),(b3,O [.slice fY aV.length fX] 34),(b2,O [.slice eG who.length eF] 31),(b1,O (Register.cells aP bH) 30)]++(markB []++(G))) ap (fun _=>ap) mK ty46 zc46 U bytes46 (jb.mono Span.aN hlr1) U U (eZ 0 U (show bV Span.rp hr1 [I y1.From,I y1.Until] ([y1]) from ⟨[I y1.From,I y1.Until],[],U,U,U,U⟩)) lo lo (fun ob1 oc1 G2 gr2=>?_)))))))
      refine vO (rF ([(b7,O [I y1.From,I y1.Until] 46),(b6,O (Span.cells y1) 46),(l1,.loop { lp1 with state:=.busy }),(dm1,.deferred (some [])),(b4,O (aU.cells ((cT aP doc known).1) rr1) 77),(b3,O [.slice fY aV.length fX] 34),(b2,O [.slice eG who.length eF] 31),(b1,O (Register.cells aP bH) 30)]) G2 (markB [])) ?_
      refine dW 5 ty34 U U U U U U (ac (av (av ?_)))
      refine cE (L':=[(l1,.loop { lp1 with state:=.busy }),(dm1,.deferred (some [])),(b4,O (aU.cells ((cT aP doc known).1) rr1) 77),(b3,O [.slice ob1 ((aV++[y1]).length) oc1] 34),(b2,O [.slice eG who.length eF] 31),(b1,O (Register.cells aP bH) 30)]++(G2++(markB []))) js ?_
      refine dX (L':=rdH l1 dm1 lp1 (([(b4,O (aU.cells ((cT aP doc known).1) rr1) 77),(b3,O [.slice ob1 ((aV++[y1]).length) oc1] 34),(b2,O [.slice eG who.length eF] 31),(b1,O (Register.cells aP bH) 30)]++(G2))++markB [])) ap ?_
      exact nx1 ((aV++[y1]),ob1,oc1,G2,hr1) _ _ ⟨hs11,gr2,(hl1.t hlr1),(by first | omega | (simp only [List.length_append,List.length_cons,List.length_nil,List.length_set];omega))⟩ (HF.le_refl _)
   ·rintro dm1 ⟨aV,fY,fX,im,hh1⟩ hn1 ⟨hs12,jb,hl1,u1_0⟩ hln1 hl01
    try dsimp only at jb hl1 u1_0 hln1
    refine dX (L':=[(b4,O (aU.cells ((cT aP doc known).1) rr1) 77),(b3,O [.slice fY aV.length fX] 34),(b2,O [.slice eG who.length eF] 31),(b1,O (Register.cells aP bH) 30)]++(im++(markB (dm1::[])))) ap ?_
    refine av (sr (aO 1 ty34 U U U (dW 1 ty34 U U U U U U (an ?_))))
    refine gj Span.aN ([(b4,O (aU.cells ((cT aP doc known).1) rr1) 77),(b3,O [.slice fY aV.length fX] 34),(b2,O [.slice eG who.length eF] 31),(b1,O (Register.cells aP bH) 30)]) im (markB (dm1::[])) ap hM (jb.mono Span.aN hln1) (fun h3 hle3 sl1=>?_)
    have hs13:bp aP doc who known=(aV,0):=hs12
    refine dX (L':=([(b4,O (aU.cells ((cT aP doc known).1) rr1) 77),(b3,O [.slice fY aV.length fX] 34),(b2,O [.slice eG who.length eF] 31),(b1,O (Register.cells aP bH) 30)])++markB (dm1::[])) ap ?_
    exact oT (dm1::[]) [.slice fY aV.length fX,I 0] DA U ⟨⟨1,_,_,_,_,U,U,.inr ⟨_,ty34,U⟩⟩,U,trivial⟩ ⟨fY,fX,congrArg (fun r:((List Span)×Int)=>(.tuple #[.slice fY r.1.length fX,I r.2]:Value)) hs13.symm,(by rw [hs13];exact sl1)⟩
   ·exact fun _ _ _ hF=>hF.elim
   ·exact fun _ _ _ hF=>hF.elim
   ·exact fun _ _ _ _ hF=>hF.elim
theorem qt (h:HF) (q:aU) (ja:gr) (person:Int) (bQ:Int) (hq:aU.ok h q ja) (hsm:smR q.Register) (hov:okV q.Register.Versions) (hod:(0≤q.doc.At∧q.doc.At≤1099511627776)∧0≤q.doc.Kind) (hk:Kinds h):jK Tryz.prog 38 [.agg (aU.cells q ja).toArray,I person,I bQ] h (fun v h'=>∃ (rb0:Option Addr) (rc0:Nat),v=.slice rb0 (aY q person bQ).length rc0∧SlC Rp.int h' rb0 rc0 (aY q person bQ)):=by
 refine ay Tryz.func38 U Tryz.ntmps38 U fun X hM hX=>?_
 have hs0:aY q person bQ=aY q person bQ:=rfl
 have hjl:=wZ q bQ
 have hvl:=hov.1
 refine sr (dy (fun b1=>an (sr (a8 (og (fun b2=>an (ae (sr (aa (az mh U (az ml U (aO 1 ty3 U U U (aJ U (ac ?_))))))))))))))
 refine aE U (fun c1=>?_) (fun c1=>?_)
 ·have c1p:=of_decide_eq_true c1
  have hs1:=hs0.trans (bt c1)
  refine sr (an ?_)
  have hs2:aY q person bQ=[]:=hs1
  exact dS [.slice none 0 0] Tryz.func38 U rd ⟨none,0,congrArg (fun r:(List Int)=>(.slice none r.length 0:Value)) hs2.symm,(by rw [hs2];exact SlC.nil)⟩
 ·have c1p:=of_decide_eq_false c1
  have hs3:=hs0.trans (bf c1)
  refine ao (sr (dq 1 ty77 U U U (aa (a8 (dg Tryz.call65 (lQ h q ja bQ hq ob hk) U (fun v1 h1 hle1 hp1=>?_))))))
  obtain ⟨rb1,rc1,rfl,sl1⟩:=hp1
  refine aa (bG U U (bG U U (ba (an (ae (sr (aa (bC Al U (aa (ac ?_))))))))))
  let z1:Nat×Obj:=(b1,O (aU.cells q ja) 77)
  refine br (ι:=Nat×(List (Int×Bool))×Obj×HF) (fun i=>[(1,I person),(7,.map (some b2))]) (fun i=>i.2.2.2) (fun i=>[(b2,i.2.2.1),z1]) (fun i=>i.1≤((aC q bQ).1).length∧aY q person bQ=((aY.K1 person) i.2.1)∧gy (Value.int .i64) ia i.2.2.2 i.2.2.1 i.2.1∧i.2.1.length≤64000000 * i.1∧HF.le h1 i.2.2.2) ?_ (fun hx1=>?_)
  ·rintro ⟨i1,dt,jc,hh1⟩ ⟨bd,hs4,fB,jH,hl1⟩ e
   try dsimp only at bd fB jH hl1
   try dsimp only
   refine sr (aa (aa (a8 (FB 0 (k:=person) kM (eS kl) U fB U U (fun mo4 hm4=>ac (sr (aa (cq 0 U hM (fun h3 hle3 hb1=>?_)))))))))
   have mc1:nZ (Value.int .i64) ia h3 b2 (mdel dt person):=⟨_,hb1,hm4.mono ia.mono hle3⟩
   refine a8 (dg Tryz.call61 (oC h3 (mdel dt person) b2 mc1) U (fun v3 h4 hle4 hp3=>a8 (dg Tryz.call60 (ld h4 v3 ((mdel dt person).map Prod.fst) hp3 (by rw [List.length_map];have:=(wU person dt).length_le;omega)) U (fun v4 h5 hle5 hp4=>?_))))
   obtain ⟨rb4,rc4,rfl,sl4⟩:=hp4
   refine an ?_
   have hs5:aY q person bQ=(sortI ((mdel dt person).map Prod.fst)):=hs4
   exact dS [.slice rb4 ((sortI ((mdel dt person).map Prod.fst)).length) rc4] Tryz.func38 U rd ⟨rb4,rc4,congrArg (fun r:(List Int)=>(.slice rb4 r.length rc4:Value)) hs5.symm,(by rw [hs5];exact sl4)⟩
  ·refine cp (ι:=Nat×(List (Int×Bool))×Obj×HF×List Policy) (fun i=>[(1,I person),(2,I bQ),(3,Q b1),(7,.map (some b2)),(28,.slice rb1 (((aC q bQ).1).length) rc1),(29,I ((((aC q bQ).1).length:Nat):Int)),(30,I ((i.1:Nat):Int))]) (fun i=>i.2.2.2.1) (fun i=>[(b2,i.2.2.1),z1]) (fun i=>((aC q bQ).1).drop i.1=i.2.2.2.2∧i.1≤((aC q bQ).1).length∧aY q person bQ=((aY.L1 q bQ (aY.K1 person)) i.2.2.2.2 i.2.1)∧gy (Value.int .i64) ia i.2.2.2.1 i.2.2.1 i.2.1∧i.2.1.length≤64000000 * i.1∧HF.le h1 i.2.2.2.1) (fun i=>i.2.2.2.2.length) (0,[],.map #[] 0,h1,(aC q bQ).1) rd sw ⟨U,Nat.zero_le _,hs3,((gy.nil (enc:=(Value.int .i64)) (V:=ia) (h:=h)).mono ia.mono hle1),lc,(HF.le_refl h1)⟩ ?_
   rintro ⟨i1,dt,jc,hh1,s1⟩ ⟨hd1,bd,hs6,fB,jH,hl1⟩ ag1 e
   try dsimp only at hd1 bd fB jH hl1
   rcases s1 with _ | ⟨y1,rz1⟩
   ·have dI:=cU hd1
    try dsimp only
    refine sr (aB (v':=.bool false) U (cb dI) (ac (ae (bg U (bO U ?_)))))
    exact hx1 (i1,dt,jc,hh1) _ ⟨bd,hs6,fB,lc,hl1⟩ rd
   ·have dH:=dY hd1
    have bh:=cY hd1
    have eT:=aT hd1
    have gx:=sl1.1.1
    obtain ⟨v_,hv_,hve_⟩:=sQ (gm hd1)
    have hsp:=hsm.vers.2 v_ hv_
    rw [hve_] at hsp
    have hvt:=hov.2 v_ hv_
    rw [hve_] at hvt
    have hofl:=hsp.2.2.2.1
    have hql:=zB q y1 bQ
    try dsimp only
    refine sr (aB (v':=.bool true) U (cb dH) (ac (ae (bn U (ao (ae (aW (sr (a8 (gL Al ty68 (sl1.mono Policy.aN hl1).1 (nthZ bh) (bB bh) U U U (fun q6 cs3 A6 ln3 rr3=>?_)))))))))))
    obtain ⟨r2,rfl,ok2⟩:=rr3
    refine ed ty68 A6 U U (bX zc68 (fun b7=>bN 0 ty68 U U U U U U (ac (sr (dq 2 ty77 U U U (dq 0 ty68 U U U (aa (a8 (dg Tryz.call66 (lx hh1 q ja y1 r2 bQ (hq.mono (hle1.t hl1)) ok2 ob ob) U (fun v5 h6 hle6 hp5=>?_))))))))))
    obtain ⟨rb5,rc5,rfl,sl5⟩:=hp5
    refine bC te U (aa (ac ?_))
    let z2:Nat×Obj:=(b7,O (Policy.cells y1 r2) 68)
    refine br (ι:=Nat×(List (Int×Bool))×Obj) (fun i=>[(1,I person),(2,I bQ),(3,Q b1),(7,.map (some b2)),(28,.slice rb1 (((aC q bQ).1).length) rc1),(29,I ((((aC q bQ).1).length:Nat):Int)),(30,I ((i1:Nat):Int))]) (fun i=>h6) (fun i=>[z2,(b2,i.2.2),z1]) (fun i=>i.1≤(aD q y1 bQ).length∧aY q person bQ=((fun zg5_b2_0=>(aY.L1 q bQ (aY.K1 person) rz1 zg5_b2_0)) i.2.1)∧gy (Value.int .i64) ia h6 i.2.2 i.2.1∧i.2.1.length≤dt.length+2000000 * i.1) ?_ (fun hx5=>?_)
    ·rintro ⟨i5,jg,lv⟩ ⟨jW,hs8,j8,nR⟩ e
     try dsimp only at jW j8 nR
     try dsimp only
     refine av (ai (aB (v':=I (((i1+1):Nat):Int)) U (bW ob) (aa (ac ?_))))
     refine cE (L':=[(b2,lv),z1]) js ?_
     exact ag1 ((i1+1),jg,lv,h6,rz1) _ (Nat.lt_succ_self _) ⟨bF hd1,aT hd1,hs8,j8,lc,(hl1.t hle6)⟩ rd
    ·refine cp (ι:=Nat×(List (Int×Bool))×Obj×List (List Holder)) (fun i=>[(1,I person),(2,I bQ),(3,Q b1),(7,.map (some b2)),(28,.slice rb1 (((aC q bQ).1).length) rc1),(29,I ((((aC q bQ).1).length:Nat):Int)),(30,I ((i1:Nat):Int)),(37,.slice rb5 ((aD q y1 bQ).length) rc5),(38,I (((aD q y1 bQ).length:Nat):Int)),(39,I ((i.1:Nat):Int))]) (fun i=>h6) (fun i=>[z2,(b2,i.2.2.1),z1]) (fun i=>(aD q y1 bQ).drop i.1=i.2.2.2∧i.1≤(aD q y1 bQ).length∧aY q person bQ=((aY.L5 (fun zg5_b2_0=>(aY.L1 q bQ (aY.K1 person) rz1 zg5_b2_0))) i.2.2.2 i.2.1)∧gy (Value.int .i64) ia h6 i.2.2.1 i.2.1∧i.2.1.length≤dt.length+2000000 * i.1) (fun i=>i.2.2.2.length) (0,dt,jc,(aD q y1 bQ)) rd sw ⟨U,Nat.zero_le _,hs6,(fB.mono ia.mono hle6),lc⟩ ?_
     rintro ⟨i5,jg,lv,s5⟩ ⟨hd5,FZ,hs9,j8,nR⟩ ag2 e
     try dsimp only at hd5 FZ j8 nR
     rcases s5 with _ | ⟨y5,rz5⟩
     ·have HZ:=cU hd5
      try dsimp only
      refine sr (aB (v':=.bool false) U (cb HZ) (ac (ae (bg U (bO U ?_)))))
      exact hx5 (i5,jg,lv) _ ⟨FZ,hs9,j8,lc⟩ rd
     ·have HY:=dY hd5
      have BA:=cY hd5
      have Is:=aT hd5
      have IG:=sl5.1.1
      have hyb:=ve hsm.2.1 y1 bQ y5 (gm hd5)
      try dsimp only
      refine sr (aB (v':=.bool true) U (cb HY) (ac (ae (bn U (ao (ae (aW (sr (a8 (gL te ty101 sl5.1 (nthZ BA) (bB BA) U U U (fun q11 cs5 A11 ln5 rr5=>?_)))))))))))
      obtain ⟨rb7,rc7,rfl,sl7⟩:=rr5
      refine eC ty101 A11 U (an (sr (aa (bC vZ U (aa (ac ?_))))))
      refine br (ι:=Nat×(List (Int×Bool))×Obj) (fun i=>[(1,I person),(2,I bQ),(3,Q b1),(7,.map (some b2)),(28,.slice rb1 (((aC q bQ).1).length) rc1),(29,I ((((aC q bQ).1).length:Nat):Int)),(30,I ((i1:Nat):Int)),(37,.slice rb5 ((aD q y1 bQ).length) rc5),(38,I (((aD q y1 bQ).length:Nat):Int)),(39,I ((i5:Nat):Int))]) (fun i=>h6) (fun i=>[z2,(b2,i.2.2),z1]) (fun i=>i.1≤y5.length∧aY q person bQ=((fun zg7_b2_0=>(aY.L5 (fun zg5_b2_0=>(aY.L1 q bQ (aY.K1 person) rz1 zg5_b2_0)) rz5 zg7_b2_0)) i.2.1)∧gy (Value.int .i64) ia h6 i.2.2 i.2.1∧i.2.1.length≤jg.length+i.1) ?_ (fun hx7=>?_)
      ·rintro ⟨i7,nr,xd⟩ ⟨pO,hs11,pd,xe⟩ e
       try dsimp only at pO pd xe
       try dsimp only
       refine av (ai (aB (v':=I (((i5+1):Nat):Int)) U (bW ob) (aa (ac ?_))))
       exact ag2 ((i5+1),nr,xd,rz5) _ (Nat.lt_succ_self _) ⟨bF hd5,aT hd5,hs11,pd,lc⟩ rd
      ·refine cp (ι:=Nat×(List (Int×Bool))×Obj×List Holder) (fun i=>[(1,I person),(2,I bQ),(3,Q b1),(7,.map (some b2)),(28,.slice rb1 (((aC q bQ).1).length) rc1),(29,I ((((aC q bQ).1).length:Nat):Int)),(30,I ((i1:Nat):Int)),(37,.slice rb5 ((aD q y1 bQ).length) rc5),(38,I (((aD q y1 bQ).length:Nat):Int)),(39,I ((i5:Nat):Int)),(43,.slice rb7 y5.length rc7),(44,I ((y5.length:Nat):Int)),(45,I ((i.1:Nat):Int))]) (fun i=>h6) (fun i=>[z2,(b2,i.2.2.1),z1]) (fun i=>y5.drop i.1=i.2.2.2∧i.1≤y5.length∧aY q person bQ=((aY.L7 (fun zg7_b2_0=>(aY.L5 (fun zg5_b2_0=>(aY.L1 q bQ (aY.K1 person) rz1 zg5_b2_0)) rz5 zg7_b2_0))) i.2.2.2 i.2.1)∧gy (Value.int .i64) ia h6 i.2.2.1 i.2.1∧i.2.1.length≤jg.length+i.1) (fun i=>i.2.2.2.length) (0,jg,lv,y5) rd sw ⟨U,Nat.zero_le _,hs9,j8,lc⟩ ?_
       rintro ⟨i7,nr,xd,s7⟩ ⟨hd7,It,hs12,pd,xe⟩ ag3 e
       try dsimp only at hd7 It pd xe
       rcases s7 with _ | ⟨y7,rz7⟩
       ·have IE:=cU hd7
        try dsimp only
        refine sr (aB (v':=.bool false) U (cb IE) (ac (ae (bg U (bO U ?_)))))
        exact hx7 (i7,nr,xd) _ ⟨It,hs12,pd,lc⟩ rd
       ·have IC:=dY hd7
        have Hv:=cY hd7
        have IL:=aT hd7
        have IP:=sl7.1.1
        try dsimp only
        refine sr (aB (v':=.bool true) U (cb IC) (ac (ae (bn U (ao (ae (aW (sr (a8 (fQ (enc:=Holder.cells) (fun _ _ _ e=>e) vZ ty133 sl7.1 (nthZ Hv) (bB Hv) U U U (fun q13 A13=>?_)))))))))))
        refine ed ty133 A13 U U (bX zc133 (fun b12=>bN 0 ty133 U U U U U U (ac (ai (aa (az xH U (aO 0 ty3 U U U (a8 (j5 2 (k:=y7.Person) (x:=true) kM (eS kl) U pd U U U (fun mo9 hm9=>?_))))))))))
        refine ac (av (ai (aB (v':=I (((i7+1):Nat):Int)) U (bW ob) (aa (ac ?_)))))
        refine cE (L':=[z2,(b2,mo9),z1]) js ?_
        exact ag3 ((i7+1),(mput nr y7.Person true),mo9,rz7) _ (Nat.lt_succ_self _) ⟨bF hd7,aT hd7,hs12,hm9,(by have:=gh nr y7.Person true;first | omega | (simp only [List.length_nil,List.length_cons] at *;omega))⟩ rd
theorem ep.anyI {h h':HF} {xs:List Int} {b:Option Addr} {c:Nat} {E:TypeId} {G:LH} (g:ep Rp.int E h xs b c G):ep Rp.int E h' xs b c G:=by
 rcases g with ⟨rfl,rfl,rfl,rfl⟩ | ⟨bk,cl,sp,rfl,hcl,h3,h4,h5,rfl⟩
 ·exact ep.nil
 ·have:=sR hcl
  subst this
  exact .inr ⟨bk,_,sp,U,s8 h' _,h3,h4,h5,U⟩
section callGB
variable {P:Program} {b:Frame} {n:Nat} {ops:Array Oper} {F:List Frame→(Machine→Prop)→Prop} {e:Env} {ds:List Deferred} {X:Cx} {h:HF} {L:LH} {K:Env→HF→LH→Prop}
variable {d:Option Nat} {ty:TypeId} {pos:String} {af:Array Edge} {g:Option (Nat×Bool)}
theorem AK (A G Q:LH) {xs ys:List Int} {base:Option Addr} {cap:Nat} {f:FuncId} {ass:Array Operand} {ats:Array TypeId} {vs:List Value} (hc:∀ args w,(callFunc f args).run P w=.ok (.enter f args) w) (hG:ep Rp.int 3 h xs base cap G) (hL:L=A++(G++Q))
  (hs:∀ h1,h.le h1→SlC Rp.int h1 base cap xs→Ih P f vs h1 Rp.int 3 ys) (hvs:ass.toList.map e.ev=vs)
  (t':∀ bb c G',ep Rp.int 3 h ys bb c G'→K (pute e d (.slice bb ys.length c)) h (L++G'))
  (hg:guardB ops e ⟨d,.call ⟨.value (.func f),ass,ats⟩,ty,pos,af,g⟩=true:=by rfl):
  Stp P b n ops F ds X ⟨d,.call ⟨.value (.func f),ass,ats⟩,ty,pos,af,g⟩ e h L K:=by
 unfold Stp
 rw [if_pos hg]
 intro w hw
 have harr:ass.map e.ev=vs.toArray:=Array.ext' (by simp [← hvs])
 have hr:(execOp e.ev ⟨d,.call ⟨.value (.func f),ass,ats⟩,ty,pos,af,g⟩).run P w=.ok (.enter f vs.toArray) w:=by
  simp [execOp,resolve,Env.ev,Deferred.ofValue,invoke,harr,hc]
 rw [hr]
 have back:∀ (h1:HF),h.le h1→(∀ bk o,h1 bk=some o→w.heap[bk]? = some o)→SlC Rp.int h1 base cap xs→pw P b n F ds X ⟨d,.call ⟨.value (.func f),ass,ats⟩,ty,pos,af,g⟩ e K (.ok (.enter f vs.toArray) w):=by
  intro h1 hle himm hsl
  have hp1:Pre h1 [] w:=⟨himm,fun _ hp=>(List.not_mem_nil hp).elim,List.nodup_nil,fun _ hp=>(List.not_mem_nil hp).elim⟩
  refine jU (by simp) (jx (n0.mono (hs h1 hle hsl w hp1) ?_))
  rintro x w' ⟨h',B,hst,rfl,bb,c,rfl,hG'⟩
  have hnew:∀ p∈B,w.heap.size≤p.1:=fun p hp=>(hst.new p hp).elim id (fun hq=>by simp at hq)
  refine ⟨h,L++B,⟨hst.os.trans hw.os,hst.tape.trans hw.tape,hst.output.trans hw.output,Nat.le_trans hw.size hst.size,fun b' hb' hM=>?_,hw.le,hw.old,fun b' o hb'=>?_,fun p hp=>?_,?_,fun p hp=>?_,fun p hp=>?_⟩,t' bb c B hG'.anyI⟩
  ·rw [hst.keep b' (Nat.lt_of_lt_of_le hb' hw.size) (by simp)];exact hw.keep b' hb' hM
  ·rw [hst.keep b' (fm (hw.imm b' o hb')) (by simp)];exact hw.imm b' o hb'
  ·rcases List.mem_append.1 hp with hp | hp
   ·rw [hst.keep p.1 (fm (hw.own p hp)) (by simp)];exact hw.own p hp
   ·exact hst.own p hp
  ·rw [List.map_append,List.nodup_append]
   refine ⟨hw.dis,hst.dis,fun x hx y hy hxy=>?_⟩
   obtain ⟨p,hp,rfl⟩:=List.mem_map.1 hx
   obtain ⟨q,hq,rfl⟩:=List.mem_map.1 hy
   have:=fm (hw.own p hp)
   have:=hnew q hq
   omega
  ·rcases List.mem_append.1 hp with hp | hp
   ·exact hw.free p hp
   ·cases hh:h p.1 with
    | none=>rfl
    | some o=>have:=fm (hw.imm _ _ hh);have:=hnew p hp;omega
  ·rcases List.mem_append.1 hp with hp | hp
   ·exact hw.new p hp
   ·exact .inl (Nat.le_trans hw.size (hnew p hp))
 rcases hG with ⟨rfl,rfl,rfl,rfl⟩ | ⟨bk,cl,sp,rfl,hcl,h3,h4,h5,rfl⟩
 ·exact back h (HF.le_refl h) hw.imm SlC.nil
 ·have hmem:(bk,O (cl++sp) 3)∈L:=by rw [hL];simp
  have hle:h.le (h.add bk (.cells (cl++sp).toArray 3 (0,0))):=HF.sN (hw.free _ hmem)
  refine back _ hle (fun k o hk=>?_) ⟨bV.slB (hcl.mono Rp.ce hle) (HF.pt _ _ _) h5,h4⟩
  unfold HF.add at hk
  by_cases e0:k=bk
  ·subst e0;simp at hk;subst hk;exact hw.own _ hmem
  ·rw [if_neg e0] at hk;exact hw.imm k o hk
end callGB
structure Ac (h:HF) (q:aU) (ja:gr) (person at_:Int) (help:List Int) (hb:Option Addr) (hc:Nat) (q3 q4 q5 q6 q7:Addr) (bw:Nat):Prop where
 hq:aU.ok h q ja
 a3:At h q3 [I person]
 a4:At h q4 (aU.cells q ja)
 a5:At h q5 [I at_]
 a6:At h q6 [.slice hb help.length hc]
 a7:At h q7 [.func (.func 39) #[] #[.pointer (some ⟨bw,0,none⟩),.pointer (some q3),.pointer (some q4),.pointer (some q5),.pointer (some q6),.pointer (some q7)]]
 hh:SlC Rp.int h hb hc help
 kk:Kinds h
 sm:smR q.Register
 ov:okV q.Register.Versions
 od:(0≤q.doc.At∧q.doc.At≤1099511627776)∧0≤q.doc.Kind
 le:help.length≤12
@[reducible] def needClo (q3 q4 q5 q6 q7:Addr) (bw:Nat):List Value:=[.pointer (some ⟨bw,0,none⟩),.pointer (some q3),.pointer (some q4),.pointer (some q5),.pointer (some q6),.pointer (some q7)]
@[reducible] def needCell (bw:Nat) (b:Option Addr) (n c:Nat):Nat×Obj:=(bw,.cells [Value.slice b n c].toArray 31 (0,0))
@[reducible] def needR (h:HF) (bw:Nat) (ws:List Int) (r:Option (List Int)):Ending→HF→LH→Prop:=fun x h' B=>h'=h∧x=.returned (.bool r.isSome)∧∃ rb rc G',ep Rp.int 3 h (r.getD ws) rb rc G'∧B=needCell bw rb (r.getD ws).length rc::G'
theorem Ci {h:HF} {q:aU} {ja:gr} {person at_:Int} {help:List Int} {hb:Option Addr} {hc:Nat} {q3 q4 q5 q6 q7:Addr} {bw:Nat} (N:Ac h q ja person at_ help hb hc q3 q4 q5 q6 q7 bw)
  (fr:Nat) (ws:List Int) (wb:Option Addr) (wc:Nat) (G:LH) (hG:ep Rp.int 3 h ws wb wc G) (hws:ws.length≤100):
  nX Tryz.prog 39 ([Value.int .i64 (fr:Nat),Value.int .i64 ((0:Nat):Int)]++needClo q3 q4 q5 q6 q7 bw).toArray h (needCell bw wb ws.length wc::G) (needR h bw ws (tryP (needC q person at_) help 0 fr ws)):=by
 refine ay Dz U Tryz.ntmps39 U fun X hM hX=>?_
 refine sr (an ?_)
 refine ae (sr (aa (aB (v':=.bool true) U U (ac (bn U ?_)))))
 refine ae (vN (ι:=Nat×Option Addr×Nat×LH) (fun i=>[(2,.pointer (some ⟨bw,0,none⟩)),(4,.pointer (some q4)),(5,.pointer (some q5)),(11,.slice i.2.1 (ws++[person]).length i.2.2.1)])
  (fun i=>((i.1,.cells [Value.int .i64 person].toArray 3 (0,0))::needCell bw wb ws.length wc::G)++i.2.2.2) (fun i=>ep Rp.int 3 h (ws++[person]) i.2.1 i.2.2.1 i.2.2.2) ?_ (fun hk=>?_))
 ·rintro ⟨bs,bb,c,G2⟩ hG2 e
  dsimp only at hG2
  try dsimp only
  refine sr (aa ?_)
  refine a8 (qH ((bs,.cells [Value.int .i64 person].toArray 3 (0,0))::needCell bw wb ws.length wc::G) G2 [] Tryz.call41 (lH h _ bb c G2 hG2 (by rw [List.length_append,List.length_cons,List.length_nil];omega)) (by simp) U (fun G3 hG3=>?_))
  refine ac (sr (ed ty77 N.a4 U U (aa (eC ty3 N.a5 U ?_))))
  refine a8 (AJ (v:=.bool (needC q person at_ ws)) ((bs,.cells [Value.int .i64 person].toArray 3 (0,0))::needCell bw wb ws.length wc::G) G3 [] Tryz.call30 Rp.ce hG3 U
   (fun h1 hle hsl=>mt h1 q ja _ _ _ at_ (N.hq.mono hle) hsl N.sm N.ov N.od (by rw [ie,List.length_append,List.length_cons,List.length_nil];omega) (N.kk.mono hle)) (by rw [ie];rfl) ?_)
  refine an ?_
  have e1:tryP (needC q person at_) help 0 fr ws=bif needC q person at_ ws then some ws else none:=rfl
  refine m5 Dz (fun a ha w hw=>res1 U a ha w) (fun w hw=>(hw.sub (L':=needCell bw wb ws.length wc::G) js).lower) ⟨hX,?_,wb,wc,G,?_,?_⟩
  ·rw [e1];cases needC q person at_ ws <;> rfl
  ·rw [e1];cases needC q person at_ ws <;> exact hG
  ·rw [e1];cases needC q person at_ ws <;> rfl
 refine (ga [needCell bw wb ws.length wc] mixed kr ⟨HF.le_refl _,fun p hp=>by rw [List.mem_singleton.1 hp];exact List.mem_cons_self ..⟩ (fun hsep hj0=>?_))
 refine n2 0 hsep hj0 U U kr U (fun _ _ hj=>gu ty31 U (hj.nth (i:=0) U) U) ?_
 refine n2 2 hsep hj0 U U kr U (fun _ _ hj=>gd ty3 (N.a3.mono hj.1) U) ?_
 refine lF 1 3 kr U U ?_ ?_
 ·refine AK [needCell bw wb ws.length wc] G [] Tryz.call40 hG (by simp) (fun h1 hle hsl=>lf h1 ws wb wc hsl ob) U (fun bb c G2 hG2=>?_)
  refine ⟨⟨HF.le_refl _,fun p hp=>by rw [List.mem_singleton.1 hp];exact List.mem_cons_self ..⟩,?_⟩
  refine tn 3 U (ck (cells:=[I person]) eL ty3 zc3 U U kr (fun bs=>?_))
  refine ⟨⟨HF.le_refl _,fun p hp=>by rw [List.mem_singleton.1 hp];exact List.mem_cons_of_mem _ (List.mem_cons_self ..)⟩,?_⟩
  refine tn 4 U (eK Rp.kP ((bs,.cells [Value.int .i64 person].toArray 3 (0,0))::needCell bw wb ws.length wc::G) [] (fun G'=>((bs,.cells [Value.int .i64 person].toArray 3 (0,0))::needCell bw wb ws.length wc::G)++([]++G')) (by simp) (fun _=>U) eL ty3 zc3 U bytes3 hG2 U U
   (eZ 0 rfl (show bV Rp.int h [I person] [person] from ⟨[I person],[],rfl,rfl,rfl,rfl⟩)) lo lo (fun bb3 c3 G3 hG3=>?_))
  refine ⟨⟨HF.le_refl _,fun p hp=>by rw [List.mem_singleton.1 hp];simp⟩,?_⟩
  refine tn 5 U (gH fO ?_)
  refine ⟨⟨HF.le_refl _,fun p hp=>by rw [List.mem_singleton.1 hp];simp⟩,?_⟩
  refine bY kr ?_
  exact hk (bs,bb3,c3,G3) _ hG3 rd
 ·refine ck (cells:=[I person]) eL ty3 zc3 U U kr (fun bs=>?_)
  refine ⟨⟨HF.le_refl _,fun p hp=>by rw [List.mem_singleton.1 hp];exact List.mem_cons_of_mem _ (List.mem_cons_self ..)⟩,?_⟩
  refine tn 1 U (AK [(bs,.cells [Value.int .i64 person].toArray 3 (0,0)),needCell bw wb ws.length wc] G [] Tryz.call40 hG (by simp) (fun h1 hle hsl=>lf h1 ws wb wc hsl ob) U (fun bb c G2 hG2=>?_))
  refine ⟨⟨HF.le_refl _,fun p hp=>by rw [List.mem_singleton.1 hp];exact List.mem_cons_of_mem _ (List.mem_cons_self ..)⟩,?_⟩
  refine tn 4 U (eK Rp.kP ((bs,.cells [Value.int .i64 person].toArray 3 (0,0))::needCell bw wb ws.length wc::G) [] (fun G'=>((bs,.cells [Value.int .i64 person].toArray 3 (0,0))::needCell bw wb ws.length wc::G)++([]++G')) (by simp) (fun _=>U) eL ty3 zc3 U bytes3 hG2 U U
   (eZ 0 rfl (show bV Rp.int h [I person] [person] from ⟨[I person],[],rfl,rfl,rfl,rfl⟩)) lo lo (fun bb3 c3 G3 hG3=>?_))
  refine ⟨⟨HF.le_refl _,fun p hp=>by rw [List.mem_singleton.1 hp];simp⟩,?_⟩
  refine tn 5 U (gH fO ?_)
  refine ⟨⟨HF.le_refl _,fun p hp=>by rw [List.mem_singleton.1 hp];simp⟩,?_⟩
  refine bY kr ?_
  exact hk (bs,bb3,c3,G3) _ hG3 rd
theorem En (c:List Int→Bool) (help:List Int) (m i:Nat) (ws:List Int) (hi:i+(m+1)≤help.length):
  (List.range' i (help.length - m - i)).findSome? (fun i=>tryP c help m (i+1) (ws++[nthI help ((i:Nat):Int)])) =
   match tryP c help m (i+1) (ws++[nthI help ((i:Nat):Int)]) with
   | some r=>some r
   | none=>(List.range' (i+1) (help.length - m - (i+1))).findSome? fun i=>tryP c help m (i+1) (ws++[nthI help ((i:Nat):Int)]):=by
 rw [show help.length - m - i=(help.length - m - (i+1))+1 from by omega,List.range'_succ,List.findSome?_cons]
 cases tryP c help m (i+1) (ws++[nthI help ((i:Nat):Int)]) <;> rfl
theorem xT {h:HF} {q:aU} {ja:gr} {person at_:Int} {help:List Int} {hb:Option Addr} {hc:Nat} {q3 q4 q5 q6 q7:Addr} {bw:Nat} (N:Ac h q ja person at_ help hb hc q3 q4 q5 q6 q7 bw):
  ∀ (m fr:Nat) (ws:List Int) (wb:Option Addr) (wc:Nat) (G:LH),ep Rp.int 3 h ws wb wc G→ws.length+m≤100→fr≤100 →
  nX Tryz.prog 39 ([Value.int .i64 (fr:Nat),Value.int .i64 ((m:Nat):Int)]++needClo q3 q4 q5 q6 q7 bw).toArray h (needCell bw wb ws.length wc::G) (needR h bw ws (tryP (needC q person at_) help m fr ws))
 | 0,fr,ws,wb,wc,G,hG,hws,_=>Ci N fr ws wb wc G hG ob
 | m+1,fr,ws,wb,wc,G,hG,hws,hfr=>by
  have hle:=N.le
  refine ay Dz U Tryz.ntmps39 U fun X hM hX=>?_
  refine sr (an ?_)
  refine ae (sr (aa (aB (v':=.bool false) U (by show Value.bool _=_;congr 1) (ac (bg U (ao ?_))))))
  refine ae (sr (aa (an ?_)))
  refine br (ι:=Option Addr×Nat×LH) (fun i=>[]) (fun i=>h) (fun i=>needCell bw i.1 ws.length i.2.1::i.2.2)
   (fun i=>tryP (needC q person at_) help (m+1) fr ws=none∧ep Rp.int 3 h ws i.1 i.2.1 i.2.2) ?_ (fun hx=>?_)
  ·rintro ⟨b1,c1,G1⟩ ⟨h1,h2⟩ e
   dsimp only at h1 h2
   try dsimp only
   refine sr (an ?_)
   refine m5 Dz (fun a ha w hw=>res1 U a ha w) (fun w hw=>hw.lower) ⟨hX,?_,b1,c1,G1,?_,?_⟩
   ·rw [h1];rfl
   ·rw [h1];exact h2
   ·rw [h1];rfl
  ·refine cp (ι:=Nat×Option Addr×Nat×LH) (fun i=>[(1,I ((m+1:Nat):Int)),(2,.pointer (some ⟨bw,0,none⟩)),(3,.pointer (some q3)),(4,.pointer (some q4)),(5,.pointer (some q5)),(6,.pointer (some q6)),(7,.pointer (some q7)),(12,I ((i.1:Nat):Int))]) (fun i=>h) (fun i=>needCell bw i.2.1 ws.length i.2.2.1::i.2.2.2)
    (fun i=>i.1≤100∧tryP (needC q person at_) help (m+1) fr ws=(List.range' i.1 (help.length - m - i.1)).findSome? (fun i=>tryP (needC q person at_) help m (i+1) (ws++[nthI help ((i:Nat):Int)]))∧ep Rp.int 3 h ws i.2.1 i.2.2.1 i.2.2.2)
    (fun i=>101 - i.1) (fr,wb,wc,G) rd (fun w hw=>hw) ⟨hfr,rfl,hG⟩ ?_
   rintro ⟨i,b1,c1,G1⟩ ⟨hi,ht,hG1⟩ ag e
   dsimp only at hi ht hG1
   try dsimp only
   refine ae (sr (aa (aa (aB (v':=I ((i+(m+1):Nat):Int)) U (iu ob) (eC ty31 N.a6 U (bC eL U ?_))))))
   rcases Nat.lt_or_ge help.length (i+(m+1)) with hlt | hge
   ·refine aB (v':=.bool false) U (cb (decide_eq_false ob)) (ac (bg U (bO U ?_)))
    refine hx (b1,c1,G1) _ ⟨?_,hG1⟩ trivial
    rw [ht,show help.length - m - i=0 from by omega];rfl
   ·refine aB (v':=.bool true) U (cb (decide_eq_true ob)) (ac (bn U (ao ?_)))
    have hz:0≤((i:Nat):Int)∧((i:Nat):Int) < (help.length:Int):=by omega
    rw [En _ _ _ _ _ hge] at ht
    refine ae (aW ?_)
    refine ae (vN (ι:=Option Addr×Nat×LH) (fun i'=>[(1,I ((m+1:Nat):Int)),(2,.pointer (some ⟨bw,0,none⟩)),(3,.pointer (some q3)),(4,.pointer (some q4)),(5,.pointer (some q5)),(6,.pointer (some q6)),(7,.pointer (some q7)),(12,I ((i:Nat):Int))])
     (fun i'=>needCell bw i'.1 (ws++[nthI help ((i:Nat):Int)]).length i'.2.1::i'.2.2) (fun i'=>ep Rp.int 3 h (ws++[nthI help ((i:Nat):Int)]) i'.1 i'.2.1 i'.2.2) ?_ (fun hk=>?_))
    ·rintro ⟨b2,c2,G2⟩ hG2 e
     dsimp only at hG2
     try dsimp only
     refine ae (sr (eC ty90 N.a7 U (aa (aB (v':=I ((i+1:Nat):Int)) U (bW ob) (aa (aB (v':=I ((m:Nat):Int)) U (by rw [iu ob];congr 1;omega) ?_))))))
     refine a8 (tA [] (needCell bw b2 (ws++[nthI help ((i:Nat):Int)]).length c2::G2) U (km (args:=[Value.int .i64 ((i+1:Nat):Int),Value.int .i64 ((m:Nat):Int)]) (cap:=needClo q3 q4 q5 q6 q7 bw) Tryz.call39 (xT N m (i+1) (ws++[nthI help ((i:Nat):Int)]) b2 c2 G2 hG2 (by rw [List.length_append,List.length_cons,List.length_nil];omega) ob)) U U (fun v h' B hl hR=>?_) (fun ch h' B hl hR=>by cases hR.2.1))
     obtain ⟨rfl,hv,b3,c3,G3,hG3,rfl⟩:=hR
     cases hv
     rw [List.nil_append]
     cases hr:tryP (needC q person at_) help m (i+1) (ws++[nthI help ((i:Nat):Int)]) with
     | some r=>
      rw [hr] at hG3 ht
      dsimp only [Option.getD] at hG3
      refine ac (bn U (sr (an ?_)))
      refine m5 Dz (fun a ha w hw=>res1 U a ha w) (fun w hw=>hw.lower) ⟨hX,?_,b3,c3,G3,?_,?_⟩
      ·rw [ht];rfl
      ·rw [ht];exact hG3
      ·rw [ht];rfl
     | none=>
      rw [hr] at hG3 ht
      dsimp only [Option.getD] at hG3
      refine ac (bg U (ao ?_))
      have hlen:(ws++[nthI help ((i:Nat):Int)]).length=ws.length+1:=by simp
      have htk:(ws++[nthI help ((i:Nat):Int)]).take ((ws.length:Nat):Int).toNat=ws:=by simp
      refine ai (aO 0 ty31 U U U (aO 0 ty31 U U U (bC eL U (aB (v':=I ((ws.length:Nat):Int)) U (by dsimp only [Option.getD];rw [iu ob];congr 1;omega) ?_))))
      refine a8 (AI (z:=((ws.length:Nat):Int)) eL ty3 hG3 ob U U U ?_)
      have hG4:=hG3.take ((ws.length:Nat):Int).toNat
      rw [htk] at hG4 ⊢
      refine dW 0 ty31 U U U U U U (ac (av ?_))
      refine ai (aa (aB (v':=I ((i+1:Nat):Int)) U (bW ob) (an ?_)))
      exact ag (i+1,b3,c3,G3) _ (by show 101 - (i+1) < 101 - i;omega) ⟨by show i+1≤100;omega,ht,hG4⟩ rd
    ·refine ga [] mixed kr ⟨HF.le_refl _,fun p hp=>(List.not_mem_nil hp).elim⟩ (fun hsep hj0=>?_)
     refine n2 1 hsep hj0 U U kr U (fun _ _ hj=>gd ty31 (N.a6.mono hj.1) U) ?_
     refine n2 2 hsep hj0 U U kr U (fun _ _ _=>FF) ?_
     refine fA 3 (R:=Rp.int) (enc:=fun x=>[Value.int .i64 x]) hsep hj0 (fun _ _ _ hr=>hr) eL ty3 N.hh.1 hz (eA hz) U U U U kr (fun qa A5=>?_)
     refine n2 4 hsep hj0 U U kr U (fun _ _ hj=>gd ty3 (A5.mono hj.1) U) ?_
     refine lF 0 5 kr U U ?_ ?_
     ·refine gH (gu ty31 U (List.mem_cons_self ..) U) ?_
      refine ⟨⟨HF.le_refl _,fun p hp=>(List.not_mem_nil hp).elim⟩,?_⟩
      refine tn 5 U (ck (cells:=[I (nthI help ((i:Nat):Int))]) eL ty3 zc3 U U kr (fun bs=>?_))
      refine ⟨⟨HF.le_refl _,fun p hp=>(List.not_mem_nil hp).elim⟩,?_⟩
      refine tn 6 U (eK Rp.kP [(bs,.cells [Value.int .i64 (nthI help ((i:Nat):Int))].toArray 3 (0,0)),needCell bw b1 ws.length c1] [] (fun G'=>[(bs,.cells [Value.int .i64 (nthI help ((i:Nat):Int))].toArray 3 (0,0)),needCell bw b1 ws.length c1]++([]++G')) (by simp) (fun _=>U) eL ty3 zc3 U bytes3 hG1 U U
       (eZ 0 rfl (show bV Rp.int h [I (nthI help ((i:Nat):Int))] [nthI help ((i:Nat):Int)] from ⟨[I (nthI help ((i:Nat):Int))],[],rfl,rfl,rfl,rfl⟩)) lo lo (fun b3 c3 G3 hG3=>?_))
      refine ⟨⟨HF.le_refl _,fun p hp=>(List.not_mem_nil hp).elim⟩,?_⟩
      refine tn 7 U (jY 1 ty31 U U U U U U ?_)
      refine ⟨⟨HF.le_refl _,fun p hp=>(List.not_mem_nil hp).elim⟩,?_⟩
      refine bY kr ?_
      refine cE (L':=needCell bw b3 (ws++[nthI help ((i:Nat):Int)]).length c3::G3) js ?_
      exact hk (b3,c3,G3) _ hG3 rd
     ·refine ck (cells:=[I (nthI help ((i:Nat):Int))]) eL ty3 zc3 U U kr (fun bs=>?_)
      refine ⟨⟨HF.le_refl _,fun p hp=>(List.not_mem_nil hp).elim⟩,?_⟩
      refine tn 0 U (gH (gu ty31 U (List.mem_cons_of_mem _ (List.mem_cons_self ..)) U) ?_)
      refine ⟨⟨HF.le_refl _,fun p hp=>(List.not_mem_nil hp).elim⟩,?_⟩
      refine tn 6 U (eK Rp.kP [(bs,.cells [Value.int .i64 (nthI help ((i:Nat):Int))].toArray 3 (0,0)),needCell bw b1 ws.length c1] [] (fun G'=>[(bs,.cells [Value.int .i64 (nthI help ((i:Nat):Int))].toArray 3 (0,0)),needCell bw b1 ws.length c1]++([]++G')) (by simp) (fun _=>U) eL ty3 zc3 U bytes3 hG1 U U
       (eZ 0 rfl (show bV Rp.int h [I (nthI help ((i:Nat):Int))] [nthI help ((i:Nat):Int)] from ⟨[I (nthI help ((i:Nat):Int))],[],rfl,rfl,rfl,rfl⟩)) lo lo (fun b3 c3 G3 hG3=>?_))
      refine ⟨⟨HF.le_refl _,fun p hp=>(List.not_mem_nil hp).elim⟩,?_⟩
      refine tn 7 U (jY 1 ty31 U U U U U U ?_)
      refine ⟨⟨HF.le_refl _,fun p hp=>(List.not_mem_nil hp).elim⟩,?_⟩
      refine bY kr ?_
      refine cE (L':=needCell bw b3 (ws++[nthI help ((i:Nat):Int)]).length c3::G3) js ?_
      exact hk (b3,c3,G3) _ hG3 rd
theorem kW (h:HF) (aP:Register) (bH:er) (doc:Int) (person:Int) (cM:Int) (known:Int) (ip:Register.ok h aP bH) (hsm:smR aP) (hk:Kinds h):
  jK Tryz.prog 14 [.agg (Register.cells aP bH).toArray,I doc,I person,I cM,I known] h (fun v h'=>∃ (rb0:Option Addr) (rc0:Nat),v=.tuple #[.slice rb0 ((aj aP doc person cM known).1).length rc0,.bool ((aj aP doc person cM known).2.1),I ((aj aP doc person cM known).2.2)]∧SlC Rp.int h' rb0 rc0 ((aj aP doc person cM known).1)):=by
 refine ay Ak U Tryz.ntmps14 U fun X hM hX=>?_
 refine sr (dy (fun b5=>dy (fun b7=>dy (fun b8=>bX zc31 (fun b10=>ba (an ?_))))))
 refine ae (sr (dq 3 ty30 U U U (aG (v:=I (fp aP)) Tryz.call26 (rf h aP bH ip hsm hk) U (aJ U (ac ?_)))))
 refine aE U (fun c1=>?_) (fun c1=>?_)
 ·have e1:aj aP doc person cM known=([],false,300):=by unfold aj;rw [c1];rfl
  rw [e1]
  refine sr (dW 0 ty31 U U U U U U (ba (an ?_)))
  exact dS [.slice none 0 0,.bool false,I 300] Ak U ⟨⟨0,_,_,_,_,U,U,.inr ⟨_,ty31,U⟩⟩,U,U,trivial⟩ ⟨none,0,U,SlC.nil⟩
 refine ao (sr (dq 3 ty30 U U U (aa (aa (a8 (dg Tryz.call27 (vy h aP bH doc known ip) U (fun v1 h1 hle1 hp1=>?_)))))))
 obtain ⟨rr1,rfl,ok1⟩:=hp1
 refine aa (bG U U (bG U U (bX zc77 (fun b13=>bN 0 ty77 U U U U U U (an ?_)))))
 refine ae (sr (aa (cV U (aa ?_))))
 refine tq 3 [(7,Q b7),(8,Q b8),(10,Q b10),(13,Q b13),(32,.bool ((!((cT aP doc known).2))||decide (person < 0)))] (fun hk1=>?_) (fun e=>?_)
 ·refine ar 29 U (fun c2=>?_) (fun c2=>?_)
  ·refine kq (ah U ?_)
   exact hk1 _ ⟨U,U,U,U,(cb (dL c2)),trivial⟩
  ·refine aO 3 ty3 U U U (aJ U (ah U ?_))
   exact hk1 _ ⟨U,U,U,U,(cb (dM c2)),trivial⟩
 refine aa ?_
 refine tq 3 [(7,Q b7),(8,Q b8),(10,Q b10),(13,Q b13),(36,.bool (((!((cT aP doc known).2))||decide (person < 0))||decide (64≤person)))] (fun hk1=>?_) (fun e=>?_)
 ·refine ar 33 U (fun c2=>?_) (fun c2=>?_)
  ·refine kq (ah U ?_)
   exact hk1 _ ⟨U,U,U,U,(cb (dL c2)),trivial⟩
  ·refine aO 3 ty3 U U U (aJ U (ah U ?_))
   exact hk1 _ ⟨U,U,U,U,(cb (dM c2)),trivial⟩
 refine aa ?_
 refine tq 4 [(7,Q b7),(8,Q b8),(10,Q b10),(13,Q b13),(41,.bool ((((!((cT aP doc known).2))||decide (person < 0))||decide (64≤person))||(!(jC cM))))] (fun hk1=>?_) (fun e=>?_)
 ·refine ar 37 U (fun c2=>?_) (fun c2=>?_)
  ·refine kq (bP (ah U ?_))
   exact hk1 _ ⟨U,U,U,U,(cb (dL c2)),trivial⟩
  ·refine aO 2 ty3 U U U (aG (v:=.bool (jC cM)) Tryz.call37 (uj h1 cM) U (cV U (ah U ?_)))
   exact hk1 _ ⟨U,U,U,U,(cb (dM c2)),trivial⟩
 refine ac ?_
 refine aE U (fun c3=>?_) (fun c3=>?_)
 ·have e1:aj aP doc person cM known=([],false,1):=by unfold aj;rw [c1,c3];rfl
  rw [e1]
  refine sr (dW 1 ty31 U U U U U U (ba (an ?_)))
  exact dS [.slice none 0 0,.bool false,I 1] Ak U ⟨⟨1,_,_,_,_,U,U,.inr ⟨_,ty31,U⟩⟩,U,U,trivial⟩ ⟨none,0,U,SlC.nil⟩
 have a_:=asked (r:=aP) (doc:=doc) (known:=known) (by simpa using c1) (by simp only [Bool.or_eq_false_iff,Bool.not_eq_false'] at c3;exact c3.1.1.1)
 have hsm2:smR (cT aP doc known).1.Register:=by rw [a_.reg];exact hsm
 have hov2:okV (cT aP doc known).1.Register.Versions:=by rw [a_.reg];exact a_.vers.okV
 have hod2:(0≤(cT aP doc known).1.doc.At∧(cT aP doc known).1.doc.At≤1099511627776)∧0≤(cT aP doc known).1.doc.Kind:=⟨⟨a_.doc.at_.1,Int.le_of_lt a_.doc.at_.2⟩,a_.doc.kind.1⟩
 have e0:aj aP doc person cM known=bif decide (12 < (((aY (cT aP doc known).1 person cM).length:Nat):Int)) then (([],false,2):List Int×Bool×Int)
   else match needLoop (needC (cT aP doc known).1 person cM) (aY (cT aP doc known).1 person cM) with
    | some l=>((l,true,0):List Int×Bool×Int)
    | none=>([],false,0):=by unfold aj;rw [c1,c3];rfl
 rw [e0]
 generalize (cT aP doc known).1=q at *
 refine ao (sr (dq 0 ty77 U U U (aO 3 ty3 U U U (aO 2 ty3 U U U (a8 (dg Tryz.call38 (qt h1 q rr1 person cM ok1 hsm2 hov2 hod2 (hk.mono hle1)) U (fun v2 h2 hle2 hp2=>?_)))))))
 obtain ⟨hb,hc,rfl,slh⟩:=hp2
 generalize aY q person cM=help at *
 refine bX zc31 (fun b14=>dW 0 ty31 U U U U U U (ac ?_))
 refine ae (sr (aO 0 ty31 U U U (bC eL U (aJ U (ac ?_)))))
 refine aE U (fun c4=>?_) (fun c4=>?_)
 ·rw [show decide (12 < ((help.length:Nat):Int))=true from c4,cond_true]
  refine sr (dW 2 ty31 U U U U U U (ba (an ?_)))
  exact dS [.slice none 0 0,.bool false,I 2] Ak U ⟨⟨2,_,_,_,_,U,U,.inr ⟨_,ty31,U⟩⟩,U,U,trivial⟩ ⟨none,0,U,SlC.nil⟩
 rw [show decide (12 < ((help.length:Nat):Int))=false from c4,cond_false]
 have hlen:help.length≤12:=by have:=of_decide_eq_false c4;omega
 refine ao (sr (bX zc90 (fun b15=>ac ?_)))
 refine sr (a8 (fV U U (dW 0 ty90 U U U U U U (ac ?_))))
 refine fD 0 U hM (fun h3 l3 f15=>fD 0 U hM (fun h4 l4 f14=>fD 0 U hM (fun h5 l5 f13=>fD 1 U hM (fun h6 l6 f8=>fD 1 U hM (fun h7 l7 f7=>?_)))))
 have l27:h2.le h7:=HF.le_trans l3 (l4.t (l5.t (l6.t l7)))
 have N:Ac h7 q rr1 person cM help hb hc ⟨b7,0,none⟩ ⟨b13,0,none⟩ ⟨b8,0,none⟩ ⟨b14,0,none⟩ ⟨b15,0,none⟩ b10:=
  ⟨ok1.mono (hle2.t l27),dR f7,(dR f13).mono (l6.t l7),(dR f8).mono l7,(dR f14).mono (l5.t (l6.t l7)),
   (dR f15).mono (l4.t (l5.t (l6.t l7))),slh.mono Rp.ce l27,hk.mono (hle1.t (hle2.t l27)),hsm2,hov2,hod2,hlen⟩
 refine cE (L':=[needCell b10 none 0 0]) js ?_
 refine ae (sr (eC ty31 N.a6 U (bC eL U (aB (v':=I ((help.length+1:Nat):Int)) U (bW ob) (aa (ac ?_))))))
 refine br (ι:=Option Addr×Nat×LH) (fun i=>[(10,Q b10)]) (fun i=>h7) (fun i=>needCell b10 i.1 0 i.2.1::i.2.2) (fun i=>needLoop (needC q person cM) help=none) ?_ (fun hx=>?_)
 ·rintro ⟨b1,c1,G1⟩ h1 e
  rw [show needLoop (needC q person cM) help=none from h1]
  try dsimp only
  refine sr (dW 0 ty31 U U U U U U (ba (an ?_)))
  exact dS [.slice none 0 0,.bool false,I 0] Ak U ⟨⟨0,_,_,_,_,U,U,.inr ⟨_,ty31,U⟩⟩,U,U,trivial⟩ ⟨none,0,U,SlC.nil⟩
 refine cp (ι:=Nat×Option Addr×Nat×LH) (fun i=>[(10,Q b10),(15,Q b15),(52,I ((help.length+1:Nat):Int)),(53,I ((i.1:Nat):Int))]) (fun i=>h7) (fun i=>needCell b10 i.2.1 0 i.2.2.1::i.2.2.2)
  (fun i=>i.1≤help.length+1∧needLoop (needC q person cM) help=(List.range' i.1 (help.length+1 - i.1)).findSome? (fun many=>tryP (needC q person cM) help many 0 [])∧ep Rp.int 3 h7 [] i.2.1 i.2.2.1 i.2.2.2)
  (fun i=>help.length+1 - i.1) (0,none,0,[]) rd (fun w hw=>hw) ⟨Nat.zero_le _,rfl,ep.nil⟩ ?_
 rintro ⟨i,b1,c1,G1⟩ ⟨hi,ht,hG1⟩ ag e
 dsimp only at hi ht hG1
 try dsimp only
 rcases Nat.lt_or_ge i (help.length+1) with hlt | hge
 ·refine sr (aB (v':=.bool true) U (cb (decide_eq_true ob)) (ac (ae (bn U (ao ?_)))))
  refine ae (aW (sr (aa (an ?_))))
  refine sr (eC ty90 N.a7 U (aa ?_))
  refine a8 (tA [] (needCell b10 b1 0 c1::G1) U (km (args:=[Value.int .i64 ((0:Nat):Int),Value.int .i64 ((i:Nat):Int)]) (cap:=needClo ⟨b7,0,none⟩ ⟨b13,0,none⟩ ⟨b8,0,none⟩ ⟨b14,0,none⟩ ⟨b15,0,none⟩ b10) Tryz.call39 (xT N i 0 [] b1 c1 G1 hG1 (by rw [List.length_nil];omega) ob)) U U (fun v h' B hl hR=>?_) (fun ch h' B hl hR=>by cases hR.2.1))
  obtain ⟨rfl,hv,b3,c3,G3,hG3,rfl⟩:=hR
  cases hv
  rw [List.nil_append]
  rw [show help.length+1 - i=(help.length+1 - (i+1))+1 from by omega,List.range'_succ,List.findSome?_cons] at ht
  cases hr:tryP (needC q person cM) help i 0 [] with
  | some r=>
   rw [hr] at hG3 ht
   dsimp only [Option.getD] at hG3
   rw [ht]
   refine ac (bn U (sr (aO 0 ty31 U U U (dW 0 ty31 U U U U U U (ba (an ?_))))))
   refine gj Rp.ce [needCell b10 b3 r.length c3] G3 [] (by rw [List.append_nil];rfl) hM hG3 (fun h9 l9 sl9=>?_)
   exact dS [.slice b3 r.length c3,.bool true,I 0] Ak U ⟨⟨0,_,_,_,_,U,U,.inr ⟨_,ty31,U⟩⟩,U,U,trivial⟩ ⟨b3,c3,U,sl9⟩
  | none=>
   rw [hr] at hG3 ht
   dsimp only [Option.getD] at hG3
   refine ac (bg U (ao (av ?_)))
   refine ai (aB (v':=I ((i+1:Nat):Int)) U (bW ob) (aa (ac ?_)))
   exact ag (i+1,b3,c3,G3) _ (by show help.length+1 - (i+1) < help.length+1 - i;omega) ⟨hlt,ht,hG3⟩ rd
 ·have hie:i=help.length+1:=by omega
  subst hie
  refine sr (aB (v':=.bool false) U (cb (decide_eq_false ob)) (ac (ae (bg U (bO U ?_)))))
  refine hx (b1,c1,G1) _ ?_ rd
  show needLoop _ _=none
  rw [ht];simp
theorem ra (h:HF)   : jK Tryz.prog 23 [] h (fun v h'=>∃ (rr0:er),v=.agg (Register.cells (ad) rr0).toArray∧Register.ok h' (ad) rr0):=by
 refine ay Tryz.func23 U Tryz.ntmps23 U fun X hM hX=>?_
 have hs0:ad=ad:=rfl
 refine sr (bX zc30 (fun b1=>ac (sr (a8 (fw (cells:=[I 2,I 2,I 0,.string (⟨#[104,101,97,100]⟩:ByteArray),.slice none 0 0]) (places:=[(0,1),(1,1),(2,1),(3,1),(4,1)]) Tryz.underlying66 zc66 kr kr ?_)))))
 refine bX zc66 (fun b2=>bN 0 ty66 U U U U U U (ac (sr (a8 (ck (cells:=[.string (⟨#[107]⟩:ByteArray)]) kL ty9 zc9 U U kr (fun b3=>a8 (ck (cells:=[.string (⟨#[104,101,97,100]⟩:ByteArray)]) kL ty9 zc9 U U kr (fun b4=>?_))))))))
 refine dq 2 ty66 U U U (a8 (fw (cells:=[.string (⟨#[107]⟩:ByteArray),I 0,I 5,I 2,I 2,I 0,.string (⟨#[104,101,97,100]⟩:ByteArray),.slice none 0 0]) (places:=[(0,1),(1,1),(2,1),(3,5)]) Tryz.underlying107 zc107 kr kr ?_))
 refine a8 (ck (cells:=[.string (⟨#[107]⟩:ByteArray),I 0,I 5,I 2,I 2,I 0,.string (⟨#[104,101,97,100]⟩:ByteArray),.slice none 0 0]) jJ ty107 zc107 U U kr (fun b5=>dq 3 ty66 U U U ?_))
 refine a8 (fw (cells:=[.string (⟨#[112]⟩:ByteArray),.slice (some ⟨b3,0,none⟩) 1 1,.slice (some ⟨b4,0,none⟩) 1 1,.slice (some ⟨b5,0,none⟩) 1 1,I 2,I 2,I 0,.string (⟨#[104,101,97,100]⟩:ByteArray),.slice none 0 0,I 2]) (places:=[(0,1),(1,1),(2,1),(3,1),(4,5),(9,1)]) DM zc68 kr kr ?_)
 refine bX zc68 (fun b6=>bN 0 ty68 U U U U U U (ac (sr (a8 (fw (cells:=[I 1,I 0,I 0,I 0,I 1,I 1,.bool false]) (places:=[(0,1),(1,1),(2,1),(3,1),(4,1),(5,1),(6,1)]) DN zc59 kr kr ?_)))))
 refine a8 (fw (cells:=[I 2,I 0,I 0,I 0,I 2,I 1,.bool false]) (places:=[(0,1),(1,1),(2,1),(3,1),(4,1),(5,1),(6,1)]) DN zc59 kr kr (a8 (fw (cells:=[I 3,I 20,I 30,I 0,I 3,I 1,.bool false]) (places:=[(0,1),(1,1),(2,1),(3,1),(4,1),(5,1),(6,1)]) DN zc59 kr kr ?_)))
 refine a8 (ck (cells:=[I 1,I 0,I 0,I 0,I 1,I 1,.bool false,I 2,I 0,I 0,I 0,I 2,I 1,.bool false,I 3,I 20,I 30,I 0,I 3,I 1,.bool false]) na ty59 zc59 U U kr (fun b7=>?_))
 refine dq 1 ty68 U U U (a8 (fw (cells:=[I 7,I 0,I 0,.string (⟨#[112]⟩:ByteArray),.slice (some ⟨b3,0,none⟩) 1 1,.slice (some ⟨b4,0,none⟩) 1 1,.slice (some ⟨b5,0,none⟩) 1 1,I 2,I 2,I 0,.string (⟨#[104,101,97,100]⟩:ByteArray),.slice none 0 0,I 2]) (places:=[(0,1),(1,1),(2,1),(3,10)]) Tryz.underlying70 zc70 kr kr ?_))
 refine cq 4 U hM (fun h1 hle1 hb1=>?_)
 have sl1:SlC Rp.str h1 (some ⟨b3,0,none⟩) 1 ([(⟨#[107]⟩:ByteArray)]):=bV.slB0 (T:=9) (fz:=(0,0)) ((show bV Rp.str h [.string (⟨#[107]⟩:ByteArray)] ([(⟨#[107]⟩:ByteArray)]) from ⟨[.string (⟨#[107]⟩:ByteArray)],[],rfl,rfl,rfl,rfl⟩).mono Rp.gg hle1) hb1
 refine cq 3 U hM (fun h2 hle2 hb2=>?_)
 have sl2:SlC Rp.str h2 (some ⟨b4,0,none⟩) 1 ([(⟨#[104,101,97,100]⟩:ByteArray)]):=bV.slB0 (T:=9) (fz:=(0,0)) ((show bV Rp.str h1 [.string (⟨#[104,101,97,100]⟩:ByteArray)] ([(⟨#[104,101,97,100]⟩:ByteArray)]) from ⟨[.string (⟨#[104,101,97,100]⟩:ByteArray)],[],rfl,rfl,rfl,rfl⟩).mono Rp.gg hle2) hb2
 refine cq 2 U hM (fun h3 hle3 hb3=>?_)
 have sl3:SlC Rule.rp h3 (some ⟨b5,0,none⟩) 1 ([(Rule.mk (⟨#[107]⟩:ByteArray) 0 5 (Expr.mk 2 2 0 (⟨#[104,101,97,100]⟩:ByteArray) ([])))]):=bV.slB0 (T:=107) (fz:=(0,0)) ((show bV Rule.rp h2 [.string (⟨#[107]⟩:ByteArray),I 0,I 5,I 2,I 2,I 0,.string (⟨#[104,101,97,100]⟩:ByteArray),.slice none 0 0] ([(Rule.mk (⟨#[107]⟩:ByteArray) 0 5 (Expr.mk 2 2 0 (⟨#[104,101,97,100]⟩:ByteArray) ([])))]) from ⟨[.string (⟨#[107]⟩:ByteArray),I 0,I 5,I 2,I 2,I 0,.string (⟨#[104,101,97,100]⟩:ByteArray),.slice none 0 0],[],rfl,rfl,⟨(ul.mk (cI.mk none 0)),rfl,((show Rule.ok h (Rule.mk (⟨#[107]⟩:ByteArray) 0 5 (Expr.mk 2 2 0 (⟨#[104,101,97,100]⟩:ByteArray) ([]))) (ul.mk (cI.mk none 0)) from ⟨(show Expr.ok h (Expr.mk 2 2 0 (⟨#[104,101,97,100]⟩:ByteArray) ([])) (cI.mk none 0) from Expr.ok.of SlC.nil)⟩).mono (hle1.t hle2))⟩,rfl⟩).mono Rule.aN hle3) hb3
 refine a8 (ck (cells:=[I 7,I 0,I 0,.string (⟨#[112]⟩:ByteArray),.slice (some ⟨b3,0,none⟩) 1 1,.slice (some ⟨b4,0,none⟩) 1 1,.slice (some ⟨b5,0,none⟩) 1 1,I 2,I 2,I 0,.string (⟨#[104,101,97,100]⟩:ByteArray),.slice none 0 0,I 2]) lb ty70 zc70 U U kr (fun b8=>?_))
 refine a8 (ck (cells:=[I 6]) eL ty3 zc3 U U kr (fun b9=>a8 (fw (cells:=[I 4,I 10,I 0,I 0,I 0,I 100,.slice (some ⟨b9,0,none⟩) 1 1,.slice none 0 0,.slice none 0 0,Y 0,Y 0,Y 0,Y 0,Y 0,Y 0,Y 0,Y 0,Y 0,Y 0,Y 0,Y 0,Y 0,Y 0,Y 0,Y 0,Y 0,Y 0,Y 0,Y 0,Y 0,Y 0,Y 0,Y 0,Y 0,Y 0,Y 0,Y 0,Y 0,Y 0,Y 0,Y 0]) (places:=[(0,1),(1,1),(2,1),(3,1),(4,1),(5,1),(6,1),(7,1),(8,1),(9,32)]) Tryz.underlying52 zc52 kr kr ?_)))
 refine cq 0 U hM (fun h4 hle4 hb4=>?_)
 have sl4:SlC Rp.int h4 (some ⟨b9,0,none⟩) 1 ([6]):=bV.slB0 (T:=3) (fz:=(0,0)) ((show bV Rp.int h3 [I 6] ([6]) from ⟨[I 6],[],rfl,rfl,rfl,rfl⟩).mono Rp.ce hle4) hb4
 refine a8 (ck (cells:=[I 4,I 10,I 0,I 0,I 0,I 100,.slice (some ⟨b9,0,none⟩) 1 1,.slice none 0 0,.slice none 0 0,Y 0,Y 0,Y 0,Y 0,Y 0,Y 0,Y 0,Y 0,Y 0,Y 0,Y 0,Y 0,Y 0,Y 0,Y 0,Y 0,Y 0,Y 0,Y 0,Y 0,Y 0,Y 0,Y 0,Y 0,Y 0,Y 0,Y 0,Y 0,Y 0,Y 0,Y 0,Y 0]) la ty52 zc52 U U kr (fun b10=>?_))
 refine a8 (fw (cells:=[.slice (some ⟨b7,0,none⟩) 3 3,.slice none 0 0,.slice none 0 0,.slice none 0 0,.slice (some ⟨b8,0,none⟩) 1 1,.slice (some ⟨b10,0,none⟩) 1 1,.slice none 0 0]) (places:=[(0,1),(1,1),(2,1),(3,1),(4,1),(5,1),(6,1)]) DO zc30 kr kr ?_)
 refine bN 5 ty30 U U U U U U (ac ?_)
 refine fD 2 U hM (fun h5 hle5 hb5=>?_)
 have sl5:SlC Appoint.rp h5 (some ⟨b7,0,none⟩) 3 ([(Appoint.mk 1 0 0 0 1 1 false),(Appoint.mk 2 0 0 0 2 1 false),(Appoint.mk 3 20 30 0 3 1 false)]):=bV.slB0 (T:=59) (fz:=(0,0)) ((show bV Appoint.rp h4 [I 1,I 0,I 0,I 0,I 1,I 1,.bool false,I 2,I 0,I 0,I 0,I 2,I 1,.bool false,I 3,I 20,I 30,I 0,I 3,I 1,.bool false] ([(Appoint.mk 1 0 0 0 1 1 false),(Appoint.mk 2 0 0 0 2 1 false),(Appoint.mk 3 20 30 0 3 1 false)]) from ⟨[I 1,I 0,I 0,I 0,I 1,I 1,.bool false],[I 2,I 0,I 0,I 0,I 2,I 1,.bool false,I 3,I 20,I 30,I 0,I 3,I 1,.bool false],rfl,rfl,rfl,⟨[I 2,I 0,I 0,I 0,I 2,I 1,.bool false],[I 3,I 20,I 30,I 0,I 3,I 1,.bool false],rfl,rfl,rfl,⟨[I 3,I 20,I 30,I 0,I 3,I 1,.bool false],[],rfl,rfl,rfl,rfl⟩⟩⟩).mono Appoint.aN hle5) hb5
 refine fD 1 U hM (fun h6 hle6 hb6=>?_)
 have sl6:SlC Version.rp h6 (some ⟨b8,0,none⟩) 1 ([(Version.mk 7 0 0 (Policy.mk (⟨#[112]⟩:ByteArray) ([(⟨#[107]⟩:ByteArray)]) ([(⟨#[104,101,97,100]⟩:ByteArray)]) ([(Rule.mk (⟨#[107]⟩:ByteArray) 0 5 (Expr.mk 2 2 0 (⟨#[104,101,97,100]⟩:ByteArray) ([])))]) (Expr.mk 2 2 0 (⟨#[104,101,97,100]⟩:ByteArray) ([])) 2))]):=bV.slB0 (T:=70) (fz:=(0,0)) ((show bV Version.rp h5 [I 7,I 0,I 0,.string (⟨#[112]⟩:ByteArray),.slice (some ⟨b3,0,none⟩) 1 1,.slice (some ⟨b4,0,none⟩) 1 1,.slice (some ⟨b5,0,none⟩) 1 1,I 2,I 2,I 0,.string (⟨#[104,101,97,100]⟩:ByteArray),.slice none 0 0,I 2] ([(Version.mk 7 0 0 (Policy.mk (⟨#[112]⟩:ByteArray) ([(⟨#[107]⟩:ByteArray)]) ([(⟨#[104,101,97,100]⟩:ByteArray)]) ([(Rule.mk (⟨#[107]⟩:ByteArray) 0 5 (Expr.mk 2 2 0 (⟨#[104,101,97,100]⟩:ByteArray) ([])))]) (Expr.mk 2 2 0 (⟨#[104,101,97,100]⟩:ByteArray) ([])) 2))]) from ⟨[I 7,I 0,I 0,.string (⟨#[112]⟩:ByteArray),.slice (some ⟨b3,0,none⟩) 1 1,.slice (some ⟨b4,0,none⟩) 1 1,.slice (some ⟨b5,0,none⟩) 1 1,I 2,I 2,I 0,.string (⟨#[104,101,97,100]⟩:ByteArray),.slice none 0 0,I 2],[],rfl,rfl,⟨(kX.mk (eO.mk (some ⟨b3,0,none⟩) 1 (some ⟨b4,0,none⟩) 1 (some ⟨b5,0,none⟩) 1 (cI.mk none 0))),rfl,((show Version.ok h3 (Version.mk 7 0 0 (Policy.mk (⟨#[112]⟩:ByteArray) ([(⟨#[107]⟩:ByteArray)]) ([(⟨#[104,101,97,100]⟩:ByteArray)]) ([(Rule.mk (⟨#[107]⟩:ByteArray) 0 5 (Expr.mk 2 2 0 (⟨#[104,101,97,100]⟩:ByteArray) ([])))]) (Expr.mk 2 2 0 (⟨#[104,101,97,100]⟩:ByteArray) ([])) 2)) (kX.mk (eO.mk (some ⟨b3,0,none⟩) 1 (some ⟨b4,0,none⟩) 1 (some ⟨b5,0,none⟩) 1 (cI.mk none 0))) from ⟨(show Policy.ok h3 (Policy.mk (⟨#[112]⟩:ByteArray) ([(⟨#[107]⟩:ByteArray)]) ([(⟨#[104,101,97,100]⟩:ByteArray)]) ([(Rule.mk (⟨#[107]⟩:ByteArray) 0 5 (Expr.mk 2 2 0 (⟨#[104,101,97,100]⟩:ByteArray) ([])))]) (Expr.mk 2 2 0 (⟨#[104,101,97,100]⟩:ByteArray) ([])) 2) (eO.mk (some ⟨b3,0,none⟩) 1 (some ⟨b4,0,none⟩) 1 (some ⟨b5,0,none⟩) 1 (cI.mk none 0)) from ⟨(sl1.mono Rp.gg (hle2.t hle3)),(sl2.mono Rp.gg hle3),sl3,(show Expr.ok h3 (Expr.mk 2 2 0 (⟨#[104,101,97,100]⟩:ByteArray) ([])) (cI.mk none 0) from Expr.ok.of SlC.nil)⟩)⟩).mono (hle4.t hle5))⟩,rfl⟩).mono Version.aN hle6) hb6
 refine fD 0 U hM (fun h7 hle7 hb7=>?_)
 have sl7:SlC Document.rp h7 (some ⟨b10,0,none⟩) 1 ([(Document.mk 4 10 0 0 0 100 ([6]) ([]) ([]) (fun _=>0))]):=bV.slB0 (T:=52) (fz:=(0,0)) ((show bV Document.rp h6 [I 4,I 10,I 0,I 0,I 0,I 100,.slice (some ⟨b9,0,none⟩) 1 1,.slice none 0 0,.slice none 0 0,Y 0,Y 0,Y 0,Y 0,Y 0,Y 0,Y 0,Y 0,Y 0,Y 0,Y 0,Y 0,Y 0,Y 0,Y 0,Y 0,Y 0,Y 0,Y 0,Y 0,Y 0,Y 0,Y 0,Y 0,Y 0,Y 0,Y 0,Y 0,Y 0,Y 0,Y 0,Y 0] ([(Document.mk 4 10 0 0 0 100 ([6]) ([]) ([]) (fun _=>0))]) from ⟨[I 4,I 10,I 0,I 0,I 0,I 100,.slice (some ⟨b9,0,none⟩) 1 1,.slice none 0 0,.slice none 0 0,Y 0,Y 0,Y 0,Y 0,Y 0,Y 0,Y 0,Y 0,Y 0,Y 0,Y 0,Y 0,Y 0,Y 0,Y 0,Y 0,Y 0,Y 0,Y 0,Y 0,Y 0,Y 0,Y 0,Y 0,Y 0,Y 0,Y 0,Y 0,Y 0,Y 0,Y 0,Y 0],[],rfl,rfl,⟨(gM.mk (some ⟨b9,0,none⟩) 1 none 0 none 0),rfl,((show Document.ok h4 (Document.mk 4 10 0 0 0 100 ([6]) ([]) ([]) (fun _=>0)) (gM.mk (some ⟨b9,0,none⟩) 1 none 0 none 0) from ⟨sl4,SlC.nil,SlC.nil⟩).mono (hle5.t hle6))⟩,rfl⟩).mono Document.aN hle7) hb7
 have hs1:ad=(Register.mk ([(Appoint.mk 1 0 0 0 1 1 false),(Appoint.mk 2 0 0 0 2 1 false),(Appoint.mk 3 20 30 0 3 1 false)]) ([]) ([]) ([]) ([(Version.mk 7 0 0 (Policy.mk (⟨#[112]⟩:ByteArray) ([(⟨#[107]⟩:ByteArray)]) ([(⟨#[104,101,97,100]⟩:ByteArray)]) ([(Rule.mk (⟨#[107]⟩:ByteArray) 0 5 (Expr.mk 2 2 0 (⟨#[104,101,97,100]⟩:ByteArray) ([])))]) (Expr.mk 2 2 0 (⟨#[104,101,97,100]⟩:ByteArray) ([])) 2))]) ([(Document.mk 4 10 0 0 0 100 ([6]) ([]) ([]) (fun _=>0))]) ([])):=hs0
 exact dS [.agg (List.toArray [.slice (some ⟨b7,0,none⟩) 3 3,.slice none 0 0,.slice none 0 0,.slice none 0 0,.slice (some ⟨b8,0,none⟩) 1 1,.slice (some ⟨b10,0,none⟩) 1 1,.slice none 0 0])] Tryz.func23 U ⟨⟨2,_,_,_,_,U,U,.inl ⟨ty30,U⟩⟩,trivial⟩ ⟨(er.mk (some ⟨b7,0,none⟩) 3 none 0 none 0 none 0 (some ⟨b8,0,none⟩) 1 (some ⟨b10,0,none⟩) 1 none 0),congrArg (fun r:Register=>(.agg (Register.cells r (er.mk (some ⟨b7,0,none⟩) 3 none 0 none 0 none 0 (some ⟨b8,0,none⟩) 1 (some ⟨b10,0,none⟩) 1 none 0)).toArray:Value)) hs1.symm,(by rw [hs1];exact (show Register.ok h7 (Register.mk ([(Appoint.mk 1 0 0 0 1 1 false),(Appoint.mk 2 0 0 0 2 1 false),(Appoint.mk 3 20 30 0 3 1 false)]) ([]) ([]) ([]) ([(Version.mk 7 0 0 (Policy.mk (⟨#[112]⟩:ByteArray) ([(⟨#[107]⟩:ByteArray)]) ([(⟨#[104,101,97,100]⟩:ByteArray)]) ([(Rule.mk (⟨#[107]⟩:ByteArray) 0 5 (Expr.mk 2 2 0 (⟨#[104,101,97,100]⟩:ByteArray) ([])))]) (Expr.mk 2 2 0 (⟨#[104,101,97,100]⟩:ByteArray) ([])) 2))]) ([(Document.mk 4 10 0 0 0 100 ([6]) ([]) ([]) (fun _=>0))]) ([])) (er.mk (some ⟨b7,0,none⟩) 3 none 0 none 0 none 0 (some ⟨b8,0,none⟩) 1 (some ⟨b10,0,none⟩) 1 none 0) from ⟨(sl5.mono Appoint.aN (hle6.t hle7)),SlC.nil,SlC.nil,SlC.nil,(sl6.mono Version.aN hle7),sl7,SlC.nil⟩))⟩
theorem sG (h:HF) (a:(List Span)) (If:Option Addr) (Ie:Nat) (gv:(List Span)) (xP:Option Addr) (xO:Nat) (ha:SlC Span.rp h If Ie a) (sc:SlC Span.rp h xP xO gv):Ret Tryz.prog 12 [.slice If a.length Ie,.slice xP gv.length xO] h (.bool (eU a gv)):=by
 refine ay CN U Tryz.ntmps12 U fun X hM hX=>?_
 have hs0:eU a gv=eU a gv:=rfl
 refine sr (an (ae (sr (aa (bC mK U (aa (bC mK U (aJ U (ac ?_)))))))))
 refine aE U (fun c1=>?_) (fun c1=>?_)
 ·have hs1:=hs0.trans (bt c1)
  refine sr (an ?_)
  exact aw [.bool false] CN U hX rd (cs hs1)
 ·have hs3:=hs0.trans (bf c1)
  refine ao (ae (sr (an ?_)))
  refine br (ι:=Nat) (fun i=>[]) (fun i=>h) (fun i=>[]) (fun i=>i≤a.length∧eU a gv=((eU.K1))) ?_ (fun hx1=>?_)
  ·rintro i1 ⟨bd,hs4⟩ e
   try dsimp only at bd
   try dsimp only
   refine sr (an ?_)
   exact aw [.bool true] CN U hX rd (cs hs4)
  ·refine cp (ι:=Nat×List Span) (fun i=>[(0,.slice If a.length Ie),(1,.slice xP gv.length xO),(5,I ((i.1:Nat):Int))]) (fun i=>h) (fun i=>[]) (fun i=>a.drop i.1=i.2∧i.1≤a.length∧eU a gv=((eU.L1 gv (eU.K1)) i.2 i.1)) (fun i=>i.2.length) (0,a) rd sw ⟨U,Nat.zero_le _,hs3⟩ ?_
   rintro ⟨i1,s1⟩ ⟨hd1,bd,hs6⟩ ag1 e
   try dsimp only at hd1 bd
   rcases s1 with _ | ⟨y1,rz1⟩
   ·have dI:=cU hd1
    try dsimp only
    refine ae (sr (aa (aa (bC mK U (aB (v':=.bool false) U (cb dI) (ac (bg U (bO U ?_))))))))
    exact hx1 i1 _ ⟨bd,hs6⟩ trivial
   ·have dH:=dY hd1
    have bh:=cY hd1
    have eT:=aT hd1
    have gx:=ha.1.1
    try dsimp only
    refine ae (sr (aa (aa (bC mK U (aB (v':=.bool true) U (cb dH) (ac (bn U (ao (ae (aW (ae ?_)))))))))))
    refine ga ([]) mixed kr jn (fun eX _=>?_)
    refine tm 0 U (tm 1 U (fA 2 (enc:=Span.cells) eX jn (fun _ _ _ e=>e) mK ty46 ha.1 (nthZ bh) (bB bh) U U U U kr (fun q3 A3=>?_)))
    refine tf 3 U U (fun _ _ hj=>jP ty46 (A3.mono hj.1) U U) (tm 4 U (tm 5 U ?_))
    have ho2:0≤(((i1:Nat):Int):Int)∧(((i1:Nat):Int):Int) < ((gv).length:Int):=ob
    refine fA 6 (enc:=Span.cells) eX jn (fun _ _ _ e=>e) mK ty46 sc.1 ho2 (eA ho2) U U U U kr (fun q4 A4=>tf 7 U U (fun _ _ hj=>jP ty46 (A4.mono hj.1) U U) ?_)
    refine tf 8 U U (fun _ _ _=>Im (Gn y1 (nthI gv ((i1:Nat):Int))) eqg46 U U) (bY kr ?_)
    refine aE U (fun c3=>?_) (fun c3=>?_)
    ·have hs8:=hs6.trans (bt c3)
     refine sr (an ?_)
     exact aw [.bool false] CN U hX rd (cs hs8)
    ·have hs10:=hs6.trans (bf c3)
     refine ao (av (ai (aa (aB (v':=I (((i1+1):Nat):Int)) U (bW ob) ?_))))
     refine an ?_
     exact ag1 ((i1+1),rz1) _ (Nat.lt_succ_self _) ⟨bF hd1,aT hd1,hs10⟩ rd
theorem jF (h:HF) (aP:Register) (bH:er) (known:Int) (who:(List Int)) (eG:Option Addr) (eF:Nat) (want:(List Span)) (Co:Option Addr) (Cn:Nat) (ip:Register.ok h aP bH) (hwho:SlC Rp.int h eG eF who) (hwant:SlC Span.rp h Co Cn want) (hsm:smR aP) (hsw:who.length≤2000000) (hk:Kinds h):Ret Tryz.prog 24 [.agg (Register.cells aP bH).toArray,I known,.slice eG who.length eF,.slice Co want.length Cn] h (.bool (dF aP known who want)):=by
 refine ay Tryz.func24 U Tryz.ntmps24 U fun X hM hX=>?_
 have hs0:dF aP known who want=dF aP known who want:=rfl
 refine sr (dy (fun b1=>an (sr (dq 0 ty30 U U U (aa (aa (a8 (dg Dy (ly h aP bH 4 who eG eF known ip hwho ob ob hk) U (fun v1 h1 hle1 hp1=>?_)))))))))
 obtain ⟨rb1,rc1,rfl,sl1⟩:=hp1
 refine aa (bG U U (bG U U (ba (an (sr (aa (aJ U (aa ?_))))))))
 refine tq 4 [(24,.bool (((bp aP 4 who known).2==0)&&(eU ((bp aP 4 who known).1) want)))] (fun hk1=>?_) (fun e=>?_)
 ·refine ar 20 U (fun c1=>?_) (fun c1=>?_)
  ·refine aa (aa (aG (v:=.bool (eU ((bp aP 4 who known).1) want)) Tryz.call12 (sG h1 ((bp aP 4 who known).1) rb1 rc1 want Co Cn sl1 (hwant.mono Span.aN hle1)) U (ah U ?_)))
   exact hk1 _ ⟨(cb (cW c1)),trivial⟩
  ·refine kq (bP (ah U ?_))
   exact hk1 _ ⟨(cb (cX c1)),trivial⟩
 refine an ?_
 exact aw [.bool (((bp aP 4 who known).2==0)&&(eU ((bp aP 4 who known).1) want))] Tryz.func24 U hX rd (cs hs0)
theorem ym (h:HF)  (hk:Kinds h):Ret Tryz.prog 8 [] h (.bool (mD)):=by
 refine ay Dx U Tryz.ntmps8 U fun X hM hX=>?_
 have hs0:mD=mD:=rfl
 have IT:=nl1
 have IS:=nl2
 have IR:=nl3
 refine sr (an (sr (a8 (dg Tryz.call23 (ra h  ) U (fun v1 h1 hle1 hp1=>?_)))))
 obtain ⟨rr1,rfl,ok1⟩:=hp1
 refine bX zc30 (fun b1=>bN 0 ty30 U U U U U U (ac (sr (a8 (fw (cells:=[.slice none 0 0,.slice none 0 0,.slice none 0 0,.slice none 0 0,.slice none 0 0,.slice none 0 0,.slice none 0 0]) (places:=[(0,1),(1,1),(2,1),(3,1),(4,1),(5,1),(6,1)]) DO zc30 kr kr ?_)))))
 refine a8 (dg Dy (ly h1 (Register.mk ([]) ([]) ([]) ([]) ([]) ([]) ([])) (er.mk none 0 none 0 none 0 none 0 none 0 none 0 none 0) 0 ([]) none 0 0 (show Register.ok h1 (Register.mk ([]) ([]) ([]) ([]) ([]) ([]) ([])) (er.mk none 0 none 0 none 0 none 0 none 0 none 0 none 0) from ⟨SlC.nil,SlC.nil,SlC.nil,SlC.nil,SlC.nil,SlC.nil,SlC.nil⟩) SlC.nil lG ob (hk.mono hle1)) U (fun v2 h2 hle2 hp2=>?_))
 obtain ⟨rb1,rc1,rfl,sl1⟩:=hp2
 refine aa (bG U U (bG U U (ba (an (sr (a8 (fw (cells:=[.slice none 0 0,.slice none 0 0,.slice none 0 0,.slice none 0 0,.slice none 0 0,.slice none 0 0,.slice none 0 0]) (places:=[(0,1),(1,1),(2,1),(3,1),(4,1),(5,1),(6,1)]) DO zc30 kr kr ?_)))))))
 refine a8 (dg Dw (kW h2 (Register.mk ([]) ([]) ([]) ([]) ([]) ([]) ([])) (er.mk none 0 none 0 none 0 none 0 none 0 none 0 none 0) 0 0 0 0 (show Register.ok h2 (Register.mk ([]) ([]) ([]) ([]) ([]) ([]) ([])) (er.mk none 0 none 0 none 0 none 0 none 0 none 0 none 0) from ⟨SlC.nil,SlC.nil,SlC.nil,SlC.nil,SlC.nil,SlC.nil,SlC.nil⟩) lG (hk.mono (hle1.t hle2))) U (fun v3 h3 hle3 hp3=>?_))
 obtain ⟨rb2,rc2,rfl,sl2⟩:=hp3
 refine aa (bG U U (bG U U (bG U U (ba (ba (an (sr (a8 (fw (cells:=[I 0,I 0,I 0,I 0,I 0,I 0,.bool false]) (places:=[(0,1),(1,1),(2,1),(3,1),(4,1),(5,1),(6,1)]) DN zc59 kr kr ?_)))))))))
 refine a8 (ck (cells:=[I 0,I 0,I 0,I 0,I 0,I 0,.bool false]) na ty59 zc59 U U kr (fun b2=>a8 (fw (cells:=[.slice (some ⟨b2,0,none⟩) 1 1,.slice none 0 0,.slice none 0 0,.slice none 0 0,.slice none 0 0,.slice none 0 0,.slice none 0 0]) (places:=[(0,1),(1,1),(2,1),(3,1),(4,1),(5,1),(6,1)]) DO zc30 kr kr ?_)))
 refine cq 0 U hM (fun h4 hle4 hb1=>?_)
 have sl3:SlC Appoint.rp h4 (some ⟨b2,0,none⟩) 1 ([(Appoint.mk 0 0 0 0 0 0 false)]):=bV.slB0 (T:=59) (fz:=(0,0)) ((show bV Appoint.rp h3 [I 0,I 0,I 0,I 0,I 0,I 0,.bool false] ([(Appoint.mk 0 0 0 0 0 0 false)]) from ⟨[I 0,I 0,I 0,I 0,I 0,I 0,.bool false],[],rfl,rfl,rfl,rfl⟩).mono Appoint.aN hle4) hb1
 refine a8 (dg Dy (ly h4 (Register.mk ([(Appoint.mk 0 0 0 0 0 0 false)]) ([]) ([]) ([]) ([]) ([]) ([])) (er.mk (some ⟨b2,0,none⟩) 1 none 0 none 0 none 0 none 0 none 0 none 0) 0 ([]) none 0 0 (show Register.ok h4 (Register.mk ([(Appoint.mk 0 0 0 0 0 0 false)]) ([]) ([]) ([]) ([]) ([]) ([])) (er.mk (some ⟨b2,0,none⟩) 1 none 0 none 0 none 0 none 0 none 0 none 0) from ⟨sl3,SlC.nil,SlC.nil,SlC.nil,SlC.nil,SlC.nil,SlC.nil⟩) SlC.nil lG ob (hk.mono (((hle1.t hle2).t hle3).t hle4))) U (fun v4 h5 hle5 hp4=>?_))
 obtain ⟨rb3,rc3,rfl,sl4⟩:=hp4
 refine aa (bG U U (bG U U (ba (an (sr (dq 0 ty30 U U U (a8 (ck (cells:=[I 2,I 1]) eL ty3 zc3 U U kr (fun b3=>cq 0 U hM (fun h6 hle6 hb2=>?_))))))))))
 have sl5:SlC Rp.int h6 (some ⟨b3,0,none⟩) 2 ([2,1]):=bV.slB0 (T:=3) (fz:=(0,0)) ((show bV Rp.int h5 [I 2,I 1] ([2,1]) from ⟨[I 2],[I 1],rfl,rfl,rfl,⟨[I 1],[],rfl,rfl,rfl,rfl⟩⟩).mono Rp.ce hle6) hb2
 refine a8 (dg Dy (ly h6 ad rr1 4 ([2,1]) (some ⟨b3,0,none⟩) 2 0 (ok1.mono ((((hle2.t hle3).t hle4).t hle5).t hle6)) sl5 lG ob (hk.mono (((((hle1.t hle2).t hle3).t hle4).t hle5).t hle6))) U (fun v5 h7 hle7 hp5=>?_))
 obtain ⟨rb4,rc4,rfl,sl6⟩:=hp5
 refine aa (bG U U (bG U U (ba (an (sr (dq 0 ty30 U U U (a8 (dg Dw (kW h7 ad rr1 4 3 20 30 (ok1.mono (((((hle2.t hle3).t hle4).t hle5).t hle6).t hle7)) lG (hk.mono ((((((hle1.t hle2).t hle3).t hle4).t hle5).t hle6).t hle7))) U (fun v6 h8 hle8 hp6=>?_)))))))))
 obtain ⟨rb5,rc5,rfl,sl7⟩:=hp6
 refine aa (bG U U (bG U U (bG U U (ba (ba (an (sr (dq 0 ty30 U U U (a8 (dg Dw (kW h8 ad rr1 4 3 20 29 (ok1.mono ((((((hle2.t hle3).t hle4).t hle5).t hle6).t hle7).t hle8)) lG (hk.mono (((((((hle1.t hle2).t hle3).t hle4).t hle5).t hle6).t hle7).t hle8))) U (fun v7 h9 hle9 hp7=>?_)))))))))))
 obtain ⟨rb6,rc6,rfl,sl8⟩:=hp7
 refine aa (bG U U (bG U U (bG U U (ba (ba (an (sr (dq 0 ty30 U U U (a8 (dg Dw (kW h9 ad rr1 4 1 14 30 (ok1.mono (((((((hle2.t hle3).t hle4).t hle5).t hle6).t hle7).t hle8).t hle9)) lG (hk.mono ((((((((hle1.t hle2).t hle3).t hle4).t hle5).t hle6).t hle7).t hle8).t hle9))) U (fun v8 h10 hle10 hp8=>?_)))))))))))
 obtain ⟨rb7,rc7,rfl,sl9⟩:=hp8
 refine aa (bG U U (bG U U (bG U U (ba (ba (an (sr (dq 0 ty30 U U U (a8 (dg Dw (kW h10 ad rr1 4 1 15 30 (ok1.mono ((((((((hle2.t hle3).t hle4).t hle5).t hle6).t hle7).t hle8).t hle9).t hle10)) lG (hk.mono (((((((((hle1.t hle2).t hle3).t hle4).t hle5).t hle6).t hle7).t hle8).t hle9).t hle10))) U (fun v9 h11 hle11 hp9=>?_)))))))))))
 obtain ⟨rb8,rc8,rfl,sl10⟩:=hp9
 refine aa (bG U U (bG U U (bG U U (ba (ba (an (ae (sr (aa (aJ U (aa ?_)))))))))))
 refine tq 3 [(1,Q b1),(8,I ((bp (Register.mk ([(Appoint.mk 0 0 0 0 0 0 false)]) ([]) ([]) ([]) ([]) ([]) ([])) 0 ([]) 0).2)),(10,I ((bp ad 4 ([2,1]) 0).2)),(11,.slice rb5 (((aj ad 4 3 20 30).1).length) rc5),(12,.bool ((aj ad 4 3 20 30).2.1)),(13,I ((aj ad 4 3 20 30).2.2)),(14,.slice rb6 (((aj ad 4 3 20 29).1).length) rc6),(15,.bool ((aj ad 4 3 20 29).2.1)),(16,I ((aj ad 4 3 20 29).2.2)),(18,.bool ((aj ad 4 1 14 30).2.1)),(19,I ((aj ad 4 1 14 30).2.2)),(20,.slice rb8 (((aj ad 4 1 15 30).1).length) rc8),(21,.bool ((aj ad 4 1 15 30).2.1)),(22,I ((aj ad 4 1 15 30).2.2)),(79,.bool (((bp (Register.mk ([]) ([]) ([]) ([]) ([]) ([]) ([])) 0 ([]) 0).2 != 1)||((aj (Register.mk ([]) ([]) ([]) ([]) ([]) ([]) ([])) 0 0 0 0).2.2 != 1)))] (fun hk1=>?_) (fun e=>?_)
 ·refine ar 76 U (fun c1=>?_) (fun c1=>?_)
  ·refine kq (ah U ?_)
   exact hk1 _ ⟨U,U,U,U,U,U,U,U,U,U,U,U,U,U,(cb (dL c1)),trivial⟩
  ·refine aa (aJ U (ah U ?_))
   exact hk1 _ ⟨U,U,U,U,U,U,U,U,U,U,U,U,U,U,(cb (dM c1)),trivial⟩
 refine aa ?_
 refine tq 3 [(1,Q b1),(10,I ((bp ad 4 ([2,1]) 0).2)),(11,.slice rb5 (((aj ad 4 3 20 30).1).length) rc5),(12,.bool ((aj ad 4 3 20 30).2.1)),(13,I ((aj ad 4 3 20 30).2.2)),(14,.slice rb6 (((aj ad 4 3 20 29).1).length) rc6),(15,.bool ((aj ad 4 3 20 29).2.1)),(16,I ((aj ad 4 3 20 29).2.2)),(18,.bool ((aj ad 4 1 14 30).2.1)),(19,I ((aj ad 4 1 14 30).2.2)),(20,.slice rb8 (((aj ad 4 1 15 30).1).length) rc8),(21,.bool ((aj ad 4 1 15 30).2.1)),(22,I ((aj ad 4 1 15 30).2.2)),(83,.bool ((((bp (Register.mk ([]) ([]) ([]) ([]) ([]) ([]) ([])) 0 ([]) 0).2 != 1)||((aj (Register.mk ([]) ([]) ([]) ([]) ([]) ([]) ([])) 0 0 0 0).2.2 != 1))||((bp (Register.mk ([(Appoint.mk 0 0 0 0 0 0 false)]) ([]) ([]) ([]) ([]) ([]) ([])) 0 ([]) 0).2 != 300)))] (fun hk2=>?_) (fun e=>?_)
 ·refine ar 80 U (fun c2=>?_) (fun c2=>?_)
  ·refine kq (ah U ?_)
   exact hk2 _ ⟨U,U,U,U,U,U,U,U,U,U,U,U,U,(cb (dL c2)),trivial⟩
  ·refine aa (aJ U (ah U ?_))
   exact hk2 _ ⟨U,U,U,U,U,U,U,U,U,U,U,U,U,(cb (dM c2)),trivial⟩
 refine aa ?_
 refine tq 3 [(1,Q b1),(11,.slice rb5 (((aj ad 4 3 20 30).1).length) rc5),(12,.bool ((aj ad 4 3 20 30).2.1)),(13,I ((aj ad 4 3 20 30).2.2)),(14,.slice rb6 (((aj ad 4 3 20 29).1).length) rc6),(15,.bool ((aj ad 4 3 20 29).2.1)),(16,I ((aj ad 4 3 20 29).2.2)),(18,.bool ((aj ad 4 1 14 30).2.1)),(19,I ((aj ad 4 1 14 30).2.2)),(20,.slice rb8 (((aj ad 4 1 15 30).1).length) rc8),(21,.bool ((aj ad 4 1 15 30).2.1)),(22,I ((aj ad 4 1 15 30).2.2)),(87,.bool (((((bp (Register.mk ([]) ([]) ([]) ([]) ([]) ([]) ([])) 0 ([]) 0).2 != 1)||((aj (Register.mk ([]) ([]) ([]) ([]) ([]) ([]) ([])) 0 0 0 0).2.2 != 1))||((bp (Register.mk ([(Appoint.mk 0 0 0 0 0 0 false)]) ([]) ([]) ([]) ([]) ([]) ([])) 0 ([]) 0).2 != 300))||((bp ad 4 ([2,1]) 0).2 != 1)))] (fun hk3=>?_) (fun e=>?_)
 ·refine ar 84 U (fun c3=>?_) (fun c3=>?_)
  ·refine kq (ah U ?_)
   exact hk3 _ ⟨U,U,U,U,U,U,U,U,U,U,U,U,(cb (dL c3)),trivial⟩
  ·refine aa (aJ U (ah U ?_))
   exact hk3 _ ⟨U,U,U,U,U,U,U,U,U,U,U,U,(cb (dM c3)),trivial⟩
 refine aa ?_
 refine tq 3 [(1,Q b1),(11,.slice rb5 (((aj ad 4 3 20 30).1).length) rc5),(12,.bool ((aj ad 4 3 20 30).2.1)),(14,.slice rb6 (((aj ad 4 3 20 29).1).length) rc6),(15,.bool ((aj ad 4 3 20 29).2.1)),(16,I ((aj ad 4 3 20 29).2.2)),(18,.bool ((aj ad 4 1 14 30).2.1)),(19,I ((aj ad 4 1 14 30).2.2)),(20,.slice rb8 (((aj ad 4 1 15 30).1).length) rc8),(21,.bool ((aj ad 4 1 15 30).2.1)),(22,I ((aj ad 4 1 15 30).2.2)),(91,.bool ((((((bp (Register.mk ([]) ([]) ([]) ([]) ([]) ([]) ([])) 0 ([]) 0).2 != 1)||((aj (Register.mk ([]) ([]) ([]) ([]) ([]) ([]) ([])) 0 0 0 0).2.2 != 1))||((bp (Register.mk ([(Appoint.mk 0 0 0 0 0 0 false)]) ([]) ([]) ([]) ([]) ([]) ([])) 0 ([]) 0).2 != 300))||((bp ad 4 ([2,1]) 0).2 != 1))||((aj ad 4 3 20 30).2.2 != 0)))] (fun hk4=>?_) (fun e=>?_)
 ·refine ar 88 U (fun c4=>?_) (fun c4=>?_)
  ·refine kq (ah U ?_)
   exact hk4 _ ⟨U,U,U,U,U,U,U,U,U,U,U,(cb (dL c4)),trivial⟩
  ·refine aa (aJ U (ah U ?_))
   exact hk4 _ ⟨U,U,U,U,U,U,U,U,U,U,U,(cb (dM c4)),trivial⟩
 refine aa ?_
 refine tq 3 [(1,Q b1),(11,.slice rb5 (((aj ad 4 3 20 30).1).length) rc5),(12,.bool ((aj ad 4 3 20 30).2.1)),(14,.slice rb6 (((aj ad 4 3 20 29).1).length) rc6),(15,.bool ((aj ad 4 3 20 29).2.1)),(18,.bool ((aj ad 4 1 14 30).2.1)),(19,I ((aj ad 4 1 14 30).2.2)),(20,.slice rb8 (((aj ad 4 1 15 30).1).length) rc8),(21,.bool ((aj ad 4 1 15 30).2.1)),(22,I ((aj ad 4 1 15 30).2.2)),(95,.bool (((((((bp (Register.mk ([]) ([]) ([]) ([]) ([]) ([]) ([])) 0 ([]) 0).2 != 1)||((aj (Register.mk ([]) ([]) ([]) ([]) ([]) ([]) ([])) 0 0 0 0).2.2 != 1))||((bp (Register.mk ([(Appoint.mk 0 0 0 0 0 0 false)]) ([]) ([]) ([]) ([]) ([]) ([])) 0 ([]) 0).2 != 300))||((bp ad 4 ([2,1]) 0).2 != 1))||((aj ad 4 3 20 30).2.2 != 0))||((aj ad 4 3 20 29).2.2 != 0)))] (fun hk5=>?_) (fun e=>?_)
 ·refine ar 92 U (fun c5=>?_) (fun c5=>?_)
  ·refine kq (ah U ?_)
   exact hk5 _ ⟨U,U,U,U,U,U,U,U,U,U,(cb (dL c5)),trivial⟩
  ·refine aa (aJ U (ah U ?_))
   exact hk5 _ ⟨U,U,U,U,U,U,U,U,U,U,(cb (dM c5)),trivial⟩
 refine aa ?_
 refine tq 3 [(1,Q b1),(11,.slice rb5 (((aj ad 4 3 20 30).1).length) rc5),(12,.bool ((aj ad 4 3 20 30).2.1)),(14,.slice rb6 (((aj ad 4 3 20 29).1).length) rc6),(15,.bool ((aj ad 4 3 20 29).2.1)),(18,.bool ((aj ad 4 1 14 30).2.1)),(20,.slice rb8 (((aj ad 4 1 15 30).1).length) rc8),(21,.bool ((aj ad 4 1 15 30).2.1)),(22,I ((aj ad 4 1 15 30).2.2)),(99,.bool ((((((((bp (Register.mk ([]) ([]) ([]) ([]) ([]) ([]) ([])) 0 ([]) 0).2 != 1)||((aj (Register.mk ([]) ([]) ([]) ([]) ([]) ([]) ([])) 0 0 0 0).2.2 != 1))||((bp (Register.mk ([(Appoint.mk 0 0 0 0 0 0 false)]) ([]) ([]) ([]) ([]) ([]) ([])) 0 ([]) 0).2 != 300))||((bp ad 4 ([2,1]) 0).2 != 1))||((aj ad 4 3 20 30).2.2 != 0))||((aj ad 4 3 20 29).2.2 != 0))||((aj ad 4 1 14 30).2.2 != 0)))] (fun hk6=>?_) (fun e=>?_)
 ·refine ar 96 U (fun c6=>?_) (fun c6=>?_)
  ·refine kq (ah U ?_)
   exact hk6 _ ⟨U,U,U,U,U,U,U,U,U,(cb (dL c6)),trivial⟩
  ·refine aa (aJ U (ah U ?_))
   exact hk6 _ ⟨U,U,U,U,U,U,U,U,U,(cb (dM c6)),trivial⟩
 refine aa ?_
 refine tq 3 [(1,Q b1),(11,.slice rb5 (((aj ad 4 3 20 30).1).length) rc5),(12,.bool ((aj ad 4 3 20 30).2.1)),(14,.slice rb6 (((aj ad 4 3 20 29).1).length) rc6),(15,.bool ((aj ad 4 3 20 29).2.1)),(18,.bool ((aj ad 4 1 14 30).2.1)),(20,.slice rb8 (((aj ad 4 1 15 30).1).length) rc8),(21,.bool ((aj ad 4 1 15 30).2.1)),(103,.bool (((((((((bp (Register.mk ([]) ([]) ([]) ([]) ([]) ([]) ([])) 0 ([]) 0).2 != 1)||((aj (Register.mk ([]) ([]) ([]) ([]) ([]) ([]) ([])) 0 0 0 0).2.2 != 1))||((bp (Register.mk ([(Appoint.mk 0 0 0 0 0 0 false)]) ([]) ([]) ([]) ([]) ([]) ([])) 0 ([]) 0).2 != 300))||((bp ad 4 ([2,1]) 0).2 != 1))||((aj ad 4 3 20 30).2.2 != 0))||((aj ad 4 3 20 29).2.2 != 0))||((aj ad 4 1 14 30).2.2 != 0))||((aj ad 4 1 15 30).2.2 != 0)))] (fun hk7=>?_) (fun e=>?_)
 ·refine ar 100 U (fun c7=>?_) (fun c7=>?_)
  ·refine kq (ah U ?_)
   exact hk7 _ ⟨U,U,U,U,U,U,U,U,(cb (dL c7)),trivial⟩
  ·refine aa (aJ U (ah U ?_))
   exact hk7 _ ⟨U,U,U,U,U,U,U,U,(cb (dM c7)),trivial⟩
 refine aa ?_
 refine tq 3 [(1,Q b1),(11,.slice rb5 (((aj ad 4 3 20 30).1).length) rc5),(14,.slice rb6 (((aj ad 4 3 20 29).1).length) rc6),(15,.bool ((aj ad 4 3 20 29).2.1)),(18,.bool ((aj ad 4 1 14 30).2.1)),(20,.slice rb8 (((aj ad 4 1 15 30).1).length) rc8),(21,.bool ((aj ad 4 1 15 30).2.1)),(107,.bool ((((((((((bp (Register.mk ([]) ([]) ([]) ([]) ([]) ([]) ([])) 0 ([]) 0).2 != 1)||((aj (Register.mk ([]) ([]) ([]) ([]) ([]) ([]) ([])) 0 0 0 0).2.2 != 1))||((bp (Register.mk ([(Appoint.mk 0 0 0 0 0 0 false)]) ([]) ([]) ([]) ([]) ([]) ([])) 0 ([]) 0).2 != 300))||((bp ad 4 ([2,1]) 0).2 != 1))||((aj ad 4 3 20 30).2.2 != 0))||((aj ad 4 3 20 29).2.2 != 0))||((aj ad 4 1 14 30).2.2 != 0))||((aj ad 4 1 15 30).2.2 != 0))||(!((aj ad 4 3 20 30).2.1))))] (fun hk8=>?_) (fun e=>?_)
 ·refine ar 104 U (fun c8=>?_) (fun c8=>?_)
  ·refine kq (ah U ?_)
   exact hk8 _ ⟨U,U,U,U,U,U,U,(cb (dL c8)),trivial⟩
  ·refine aa (cV U (ah U ?_))
   exact hk8 _ ⟨U,U,U,U,U,U,U,(cb (dM c8)),trivial⟩
 refine aa ?_
 refine tq 3 [(1,Q b1),(11,.slice rb5 (((aj ad 4 3 20 30).1).length) rc5),(14,.slice rb6 (((aj ad 4 3 20 29).1).length) rc6),(18,.bool ((aj ad 4 1 14 30).2.1)),(20,.slice rb8 (((aj ad 4 1 15 30).1).length) rc8),(21,.bool ((aj ad 4 1 15 30).2.1)),(111,.bool (((((((((((bp (Register.mk ([]) ([]) ([]) ([]) ([]) ([]) ([])) 0 ([]) 0).2 != 1)||((aj (Register.mk ([]) ([]) ([]) ([]) ([]) ([]) ([])) 0 0 0 0).2.2 != 1))||((bp (Register.mk ([(Appoint.mk 0 0 0 0 0 0 false)]) ([]) ([]) ([]) ([]) ([]) ([])) 0 ([]) 0).2 != 300))||((bp ad 4 ([2,1]) 0).2 != 1))||((aj ad 4 3 20 30).2.2 != 0))||((aj ad 4 3 20 29).2.2 != 0))||((aj ad 4 1 14 30).2.2 != 0))||((aj ad 4 1 15 30).2.2 != 0))||(!((aj ad 4 3 20 30).2.1)))||(!((aj ad 4 3 20 29).2.1))))] (fun hk9=>?_) (fun e=>?_)
 ·refine ar 108 U (fun c9=>?_) (fun c9=>?_)
  ·refine kq (ah U ?_)
   exact hk9 _ ⟨U,U,U,U,U,U,(cb (dL c9)),trivial⟩
  ·refine aa (cV U (ah U ?_))
   exact hk9 _ ⟨U,U,U,U,U,U,(cb (dM c9)),trivial⟩
 refine aa ?_
 refine tq 2 [(1,Q b1),(11,.slice rb5 (((aj ad 4 3 20 30).1).length) rc5),(14,.slice rb6 (((aj ad 4 3 20 29).1).length) rc6),(20,.slice rb8 (((aj ad 4 1 15 30).1).length) rc8),(21,.bool ((aj ad 4 1 15 30).2.1)),(114,.bool ((((((((((((bp (Register.mk ([]) ([]) ([]) ([]) ([]) ([]) ([])) 0 ([]) 0).2 != 1)||((aj (Register.mk ([]) ([]) ([]) ([]) ([]) ([]) ([])) 0 0 0 0).2.2 != 1))||((bp (Register.mk ([(Appoint.mk 0 0 0 0 0 0 false)]) ([]) ([]) ([]) ([]) ([]) ([])) 0 ([]) 0).2 != 300))||((bp ad 4 ([2,1]) 0).2 != 1))||((aj ad 4 3 20 30).2.2 != 0))||((aj ad 4 3 20 29).2.2 != 0))||((aj ad 4 1 14 30).2.2 != 0))||((aj ad 4 1 15 30).2.2 != 0))||(!((aj ad 4 3 20 30).2.1)))||(!((aj ad 4 3 20 29).2.1)))||(aj ad 4 1 14 30).2.1))] (fun hk10=>?_) (fun e=>?_)
 ·refine ar 112 U (fun c10=>?_) (fun c10=>?_)
  ·refine bP (ah U ?_)
   exact hk10 _ ⟨U,U,U,U,U,(cb (dL c10)),trivial⟩
  ·refine aa (ah U ?_)
   exact hk10 _ ⟨U,U,U,U,U,(cb (dM c10)),trivial⟩
 refine aa ?_
 refine tq 3 [(1,Q b1),(11,.slice rb5 (((aj ad 4 3 20 30).1).length) rc5),(14,.slice rb6 (((aj ad 4 3 20 29).1).length) rc6),(20,.slice rb8 (((aj ad 4 1 15 30).1).length) rc8),(118,.bool (((((((((((((bp (Register.mk ([]) ([]) ([]) ([]) ([]) ([]) ([])) 0 ([]) 0).2 != 1)||((aj (Register.mk ([]) ([]) ([]) ([]) ([]) ([]) ([])) 0 0 0 0).2.2 != 1))||((bp (Register.mk ([(Appoint.mk 0 0 0 0 0 0 false)]) ([]) ([]) ([]) ([]) ([]) ([])) 0 ([]) 0).2 != 300))||((bp ad 4 ([2,1]) 0).2 != 1))||((aj ad 4 3 20 30).2.2 != 0))||((aj ad 4 3 20 29).2.2 != 0))||((aj ad 4 1 14 30).2.2 != 0))||((aj ad 4 1 15 30).2.2 != 0))||(!((aj ad 4 3 20 30).2.1)))||(!((aj ad 4 3 20 29).2.1)))||(aj ad 4 1 14 30).2.1)||(!((aj ad 4 1 15 30).2.1))))] (fun hk11=>?_) (fun e=>?_)
 ·refine ar 115 U (fun c11=>?_) (fun c11=>?_)
  ·refine kq (ah U ?_)
   exact hk11 _ ⟨U,U,U,U,(cb (dL c11)),trivial⟩
  ·refine aa (cV U (ah U ?_))
   exact hk11 _ ⟨U,U,U,U,(cb (dM c11)),trivial⟩
 refine ac ?_
 refine aE U (fun c12=>?_) (fun c12=>?_)
 ·have hs1:=hs0.trans (bt c12)
  refine sr (an ?_)
  exact aw [.bool false] Dx U hX rd (cs hs1)
 ·have hs3:=hs0.trans (bf c12)
  refine ao (ae (sr (aa (bC eL U (aJ U (aa ?_))))))
  refine tq 5 [(1,Q b1),(14,.slice rb6 (((aj ad 4 3 20 29).1).length) rc6),(20,.slice rb8 (((aj ad 4 1 15 30).1).length) rc8),(127,.bool ((((((aj ad 4 3 20 30).1).length:Nat):Int) != 1)||((nthI ((aj ad 4 3 20 30).1) 0) != 1)))] (fun hk12=>?_) (fun e=>?_)
  ·refine ar 122 U (fun c13=>?_) (fun c13=>?_)
   ·refine kq (kq (ah U ?_))
    exact hk12 _ ⟨U,U,U,(cb (dL c13)),trivial⟩
   ·refine aa ?_
    have ho1:0≤(0:Int)∧(0:Int) < (((aj ad 4 3 20 30).1).length:Int):=ob
    refine a8 (fQ (enc:=fun y=>[I y]) (fun _ _ _ e=>e) eL ty3 (sl7.mono Rp.ce ((hle9.t hle10).t hle11)).1 ho1 (eA ho1) U U U (fun q1 A1=>eC ty3 A1 U (aJ U (ah U ?_))))
    exact hk12 _ ⟨U,U,U,(cb (dM c13)),trivial⟩
  refine aa ?_
  refine tq 4 [(1,Q b1),(14,.slice rb6 (((aj ad 4 3 20 29).1).length) rc6),(20,.slice rb8 (((aj ad 4 1 15 30).1).length) rc8),(132,.bool (((((((aj ad 4 3 20 30).1).length:Nat):Int) != 1)||((nthI ((aj ad 4 3 20 30).1) 0) != 1))||(((((aj ad 4 1 15 30).1).length:Nat):Int) != 1)))] (fun hk13=>?_) (fun e=>?_)
  ·refine ar 128 U (fun c14=>?_) (fun c14=>?_)
   ·refine kq (bP (ah U ?_))
    exact hk13 _ ⟨U,U,U,(cb (dL c14)),trivial⟩
   ·refine aa (bC eL U (aJ U (ah U ?_)))
    exact hk13 _ ⟨U,U,U,(cb (dM c14)),trivial⟩
  refine aa ?_
  refine tq 5 [(1,Q b1),(14,.slice rb6 (((aj ad 4 3 20 29).1).length) rc6),(138,.bool ((((((((aj ad 4 3 20 30).1).length:Nat):Int) != 1)||((nthI ((aj ad 4 3 20 30).1) 0) != 1))||(((((aj ad 4 1 15 30).1).length:Nat):Int) != 1))||((nthI ((aj ad 4 1 15 30).1) 0) != 2)))] (fun hk14=>?_) (fun e=>?_)
  ·refine ar 133 U (fun c15=>?_) (fun c15=>?_)
   ·refine kq (kq (ah U ?_))
    exact hk14 _ ⟨U,U,(cb (dL c15)),trivial⟩
   ·refine aa ?_
    have ho2:0≤(0:Int)∧(0:Int) < (((aj ad 4 1 15 30).1).length:Int):=ob
    refine a8 (fQ (enc:=fun y=>[I y]) (fun _ _ _ e=>e) eL ty3 sl10.1 ho2 (eA ho2) U U U (fun q2 A2=>eC ty3 A2 U (aJ U (ah U ?_))))
    exact hk14 _ ⟨U,U,(cb (dM c15)),trivial⟩
  refine aa ?_
  refine tq 4 [(1,Q b1),(14,.slice rb6 (((aj ad 4 3 20 29).1).length) rc6),(143,.bool (((((((((aj ad 4 3 20 30).1).length:Nat):Int) != 1)||((nthI ((aj ad 4 3 20 30).1) 0) != 1))||(((((aj ad 4 1 15 30).1).length:Nat):Int) != 1))||((nthI ((aj ad 4 1 15 30).1) 0) != 2))||(((((aj ad 4 3 20 29).1).length:Nat):Int) != 2)))] (fun hk15=>?_) (fun e=>?_)
  ·refine ar 139 U (fun c16=>?_) (fun c16=>?_)
   ·refine kq (bP (ah U ?_))
    exact hk15 _ ⟨U,U,(cb (dL c16)),trivial⟩
   ·refine aa (bC eL U (aJ U (ah U ?_)))
    exact hk15 _ ⟨U,U,(cb (dM c16)),trivial⟩
  refine aa ?_
  refine tq 5 [(1,Q b1),(14,.slice rb6 (((aj ad 4 3 20 29).1).length) rc6),(149,.bool ((((((((((aj ad 4 3 20 30).1).length:Nat):Int) != 1)||((nthI ((aj ad 4 3 20 30).1) 0) != 1))||(((((aj ad 4 1 15 30).1).length:Nat):Int) != 1))||((nthI ((aj ad 4 1 15 30).1) 0) != 2))||(((((aj ad 4 3 20 29).1).length:Nat):Int) != 2))||((nthI ((aj ad 4 3 20 29).1) 0) != 1)))] (fun hk16=>?_) (fun e=>?_)
  ·refine ar 144 U (fun c17=>?_) (fun c17=>?_)
   ·refine kq (kq (ah U ?_))
    exact hk16 _ ⟨U,U,(cb (dL c17)),trivial⟩
   ·refine aa ?_
    have ho3:0≤(0:Int)∧(0:Int) < (((aj ad 4 3 20 29).1).length:Int):=ob
    refine a8 (fQ (enc:=fun y=>[I y]) (fun _ _ _ e=>e) eL ty3 (sl8.mono Rp.ce (hle10.t hle11)).1 ho3 (eA ho3) U U U (fun q3 A3=>eC ty3 A3 U (aJ U (ah U ?_))))
    exact hk16 _ ⟨U,U,(cb (dM c17)),trivial⟩
  refine aa ?_
  refine tq 5 [(1,Q b1),(155,.bool (((((((((((aj ad 4 3 20 30).1).length:Nat):Int) != 1)||((nthI ((aj ad 4 3 20 30).1) 0) != 1))||(((((aj ad 4 1 15 30).1).length:Nat):Int) != 1))||((nthI ((aj ad 4 1 15 30).1) 0) != 2))||(((((aj ad 4 3 20 29).1).length:Nat):Int) != 2))||((nthI ((aj ad 4 3 20 29).1) 0) != 1))||((nthI ((aj ad 4 3 20 29).1) 1) != 2)))] (fun hk17=>?_) (fun e=>?_)
  ·refine ar 150 U (fun c18=>?_) (fun c18=>?_)
   ·refine kq (kq (ah U ?_))
    exact hk17 _ ⟨U,(cb (dL c18)),trivial⟩
   ·refine aa ?_
    have ho4:0≤(1:Int)∧(1:Int) < (((aj ad 4 3 20 29).1).length:Int):=ob
    refine a8 (fQ (enc:=fun y=>[I y]) (fun _ _ _ e=>e) eL ty3 (sl8.mono Rp.ce (hle10.t hle11)).1 ho4 (eA ho4) U U U (fun q4 A4=>eC ty3 A4 U (aJ U (ah U ?_))))
    exact hk17 _ ⟨U,(cb (dM c18)),trivial⟩
  refine ac ?_
  refine aE U (fun c19=>?_) (fun c19=>?_)
  ·have hs4:=hs3.trans (bt c19)
   refine sr (an ?_)
   exact aw [.bool false] Dx U hX rd (cs hs4)
  ·have hs6:=hs3.trans (bf c19)
   refine ao (sr (a8 (fw (cells:=[I 15,I 100]) (places:=[(0,1),(1,1)]) yG zc46 kr kr (bX zc46 (fun b4=>bN 0 ty46 U U U U U U (ac (ae (sr ?_))))))))
   refine dq 1 ty30 U U U (a8 (ck (cells:=[I 1,I 2]) eL ty3 zc3 U U kr (fun b5=>dq 1 ty46 U U U (a8 (ck (cells:=[I 15,I 100]) mK ty46 zc46 U U kr (fun b6=>?_))))))
   refine cq 1 U hM (fun h12 hle12 hb3=>?_)
   have sl11:SlC Rp.int h12 (some ⟨b5,0,none⟩) 2 ([1,2]):=bV.slB0 (T:=3) (fz:=(0,0)) ((show bV Rp.int h11 [I 1,I 2] ([1,2]) from ⟨[I 1],[I 2],rfl,rfl,rfl,⟨[I 2],[],rfl,rfl,rfl,rfl⟩⟩).mono Rp.ce hle12) hb3
   refine cq 0 U hM (fun h13 hle13 hb4=>?_)
   have sl12:SlC Span.rp h13 (some ⟨b6,0,none⟩) 1 ([(Span.mk 15 100)]):=bV.slB0 (T:=46) (fz:=(0,0)) ((show bV Span.rp h12 [I 15,I 100] ([(Span.mk 15 100)]) from ⟨[I 15,I 100],[],rfl,rfl,rfl,rfl⟩).mono Span.aN hle13) hb4
   refine aG (v:=.bool (dF ad 0 ([1,2]) ([(Span.mk 15 100)]))) yA (jF h13 ad rr1 0 ([1,2]) (some ⟨b5,0,none⟩) 2 ([(Span.mk 15 100)]) (some ⟨b6,0,none⟩) 1 (ok1.mono (((((((((((hle2.t hle3).t hle4).t hle5).t hle6).t hle7).t hle8).t hle9).t hle10).t hle11).t hle12).t hle13)) (sl11.mono Rp.ce hle13) sl12 lG ob (hk.mono ((((((((((((hle1.t hle2).t hle3).t hle4).t hle5).t hle6).t hle7).t hle8).t hle9).t hle10).t hle11).t hle12).t hle13))) U ?_
   refine cV U (aa ?_)
   refine tq 7 [(1,Q b1),(170,.bool ((!(dF ad 0 ([1,2]) ([(Span.mk 15 100)])))||(!(dF ad 30 ([1,3]) ([(Span.mk 20 100)])))))] (fun hk18=>?_) (fun e=>?_)
   ·refine ar 163 U (fun c20=>?_) (fun c20=>?_)
    ·refine kq (kq (kq (ah U ?_)))
     exact hk18 _ ⟨U,(cb (dL c20)),trivial⟩
    ·refine dq 1 ty30 U U U (a8 (ck (cells:=[I 1,I 3]) eL ty3 zc3 U U kr (fun b7=>a8 (fw (cells:=[I 20,I 100]) (places:=[(0,1),(1,1)]) yG zc46 kr kr ?_))))
     refine a8 (ck (cells:=[I 20,I 100]) mK ty46 zc46 U U kr (fun b8=>cq 1 U hM (fun h14 hle14 hb5=>?_)))
     have sl13:SlC Rp.int h14 (some ⟨b7,0,none⟩) 2 ([1,3]):=bV.slB0 (T:=3) (fz:=(0,0)) ((show bV Rp.int h13 [I 1,I 3] ([1,3]) from ⟨[I 1],[I 3],rfl,rfl,rfl,⟨[I 3],[],rfl,rfl,rfl,rfl⟩⟩).mono Rp.ce hle14) hb5
     refine cq 0 U hM (fun h15 hle15 hb6=>?_)
     have sl14:SlC Span.rp h15 (some ⟨b8,0,none⟩) 1 ([(Span.mk 20 100)]):=bV.slB0 (T:=46) (fz:=(0,0)) ((show bV Span.rp h14 [I 20,I 100] ([(Span.mk 20 100)]) from ⟨[I 20,I 100],[],rfl,rfl,rfl,rfl⟩).mono Span.aN hle15) hb6
     refine aG (v:=.bool (dF ad 30 ([1,3]) ([(Span.mk 20 100)]))) yA (jF h15 ad rr1 30 ([1,3]) (some ⟨b7,0,none⟩) 2 ([(Span.mk 20 100)]) (some ⟨b8,0,none⟩) 1 (ok1.mono (((((((((((((hle2.t hle3).t hle4).t hle5).t hle6).t hle7).t hle8).t hle9).t hle10).t hle11).t hle12).t hle13).t hle14).t hle15)) (sl13.mono Rp.ce hle15) sl14 lG ob (hk.mono ((((((((((((((hle1.t hle2).t hle3).t hle4).t hle5).t hle6).t hle7).t hle8).t hle9).t hle10).t hle11).t hle12).t hle13).t hle14).t hle15))) U ?_
     refine cV U (ah U (jI (h:=h13) (hle14.t hle15) hX ((((((((((((hle1.t hle2).t hle3).t hle4).t hle5).t hle6).t hle7).t hle8).t hle9).t hle10).t hle11).t hle12).t hle13) ?_))
     exact hk18 _ ⟨U,(cb (dM c20)),trivial⟩
   refine aa ?_
   refine tq 5 [(1,Q b1),(176,.bool (((!(dF ad 0 ([1,2]) ([(Span.mk 15 100)])))||(!(dF ad 30 ([1,3]) ([(Span.mk 20 100)]))))||(!(dF ad 29 ([1,3]) ([])))))] (fun hk19=>?_) (fun e=>?_)
   ·refine ar 171 U (fun c21=>?_) (fun c21=>?_)
    ·refine kq (kq (ah U ?_))
     exact hk19 _ ⟨U,(cb (dL c21)),trivial⟩
    ·refine dq 1 ty30 U U U (a8 (ck (cells:=[I 1,I 3]) eL ty3 zc3 U U kr (fun b9=>cq 0 U hM (fun h16 hle16 hb7=>?_))))
     have sl15:SlC Rp.int h16 (some ⟨b9,0,none⟩) 2 ([1,3]):=bV.slB0 (T:=3) (fz:=(0,0)) ((show bV Rp.int h13 [I 1,I 3] ([1,3]) from ⟨[I 1],[I 3],rfl,rfl,rfl,⟨[I 3],[],rfl,rfl,rfl,rfl⟩⟩).mono Rp.ce hle16) hb7
     refine aG (v:=.bool (dF ad 29 ([1,3]) ([]))) yA (jF h16 ad rr1 29 ([1,3]) (some ⟨b9,0,none⟩) 2 ([]) none 0 (ok1.mono ((((((((((((hle2.t hle3).t hle4).t hle5).t hle6).t hle7).t hle8).t hle9).t hle10).t hle11).t hle12).t hle13).t hle16)) sl15 SlC.nil lG ob (hk.mono (((((((((((((hle1.t hle2).t hle3).t hle4).t hle5).t hle6).t hle7).t hle8).t hle9).t hle10).t hle11).t hle12).t hle13).t hle16))) U ?_
     refine cV U (ah U (jI (h:=h13) hle16 hX ((((((((((((hle1.t hle2).t hle3).t hle4).t hle5).t hle6).t hle7).t hle8).t hle9).t hle10).t hle11).t hle12).t hle13) ?_))
     exact hk19 _ ⟨U,(cb (dM c21)),trivial⟩
   refine aa ?_
   refine tq 5 [(1,Q b1),(182,.bool ((((!(dF ad 0 ([1,2]) ([(Span.mk 15 100)])))||(!(dF ad 30 ([1,3]) ([(Span.mk 20 100)]))))||(!(dF ad 29 ([1,3]) ([]))))||(!(dF ad 0 ([9]) ([])))))] (fun hk20=>?_) (fun e=>?_)
   ·refine ar 177 U (fun c22=>?_) (fun c22=>?_)
    ·refine kq (kq (ah U ?_))
     exact hk20 _ ⟨U,(cb (dL c22)),trivial⟩
    ·refine dq 1 ty30 U U U (a8 (ck (cells:=[I 9]) eL ty3 zc3 U U kr (fun b10=>cq 0 U hM (fun h17 hle17 hb8=>?_))))
     have sl16:SlC Rp.int h17 (some ⟨b10,0,none⟩) 1 ([9]):=bV.slB0 (T:=3) (fz:=(0,0)) ((show bV Rp.int h13 [I 9] ([9]) from ⟨[I 9],[],rfl,rfl,rfl,rfl⟩).mono Rp.ce hle17) hb8
     refine aG (v:=.bool (dF ad 0 ([9]) ([]))) yA (jF h17 ad rr1 0 ([9]) (some ⟨b10,0,none⟩) 1 ([]) none 0 (ok1.mono ((((((((((((hle2.t hle3).t hle4).t hle5).t hle6).t hle7).t hle8).t hle9).t hle10).t hle11).t hle12).t hle13).t hle17)) sl16 SlC.nil lG ob (hk.mono (((((((((((((hle1.t hle2).t hle3).t hle4).t hle5).t hle6).t hle7).t hle8).t hle9).t hle10).t hle11).t hle12).t hle13).t hle17))) U ?_
     refine cV U (ah U (jI (h:=h13) hle17 hX ((((((((((((hle1.t hle2).t hle3).t hle4).t hle5).t hle6).t hle7).t hle8).t hle9).t hle10).t hle11).t hle12).t hle13) ?_))
     exact hk20 _ ⟨U,(cb (dM c22)),trivial⟩
   refine aa ?_
   refine tq 4 [(1,Q b1),(187,.bool (((((!(dF ad 0 ([1,2]) ([(Span.mk 15 100)])))||(!(dF ad 30 ([1,3]) ([(Span.mk 20 100)]))))||(!(dF ad 29 ([1,3]) ([]))))||(!(dF ad 0 ([9]) ([]))))||(!(dF ad 0 ([]) ([])))))] (fun hk21=>?_) (fun e=>?_)
   ·refine ar 183 U (fun c23=>?_) (fun c23=>?_)
    ·refine kq (bP (ah U ?_))
     exact hk21 _ ⟨U,(cb (dL c23)),trivial⟩
    ·refine dq 1 ty30 U U U (aG (v:=.bool (dF ad 0 ([]) ([]))) yA (jF h13 ad rr1 0 ([]) none 0 ([]) none 0 (ok1.mono (((((((((((hle2.t hle3).t hle4).t hle5).t hle6).t hle7).t hle8).t hle9).t hle10).t hle11).t hle12).t hle13)) SlC.nil SlC.nil lG ob (hk.mono ((((((((((((hle1.t hle2).t hle3).t hle4).t hle5).t hle6).t hle7).t hle8).t hle9).t hle10).t hle11).t hle12).t hle13))) U ?_)
     refine cV U (ah U ?_)
     exact hk21 _ ⟨U,(cb (dM c23)),trivial⟩
   refine ac ?_
   refine aE U (fun c24=>?_) (fun c24=>?_)
   ·have hs7:=hs6.trans (bt c24)
    refine sr (an ?_)
    exact aw [.bool false] Dx U hX rd (cs hs7)
   ·have hs9:=hs6.trans (bf c24)
    refine ao (sr (a8 (fw (cells:=[I 1,I 40,I 0,I 2,I 6,.bool false,.bool false]) (places:=[(0,1),(1,1),(2,1),(3,1),(4,1),(5,1),(6,1)]) Fd zc61 kr kr ?_)))
    refine a8 (fw (cells:=[I 2,I 50,I 0,I 2,I 6,.bool false,.bool true]) (places:=[(0,1),(1,1),(2,1),(3,1),(4,1),(5,1),(6,1)]) Fd zc61 kr kr (a8 (ck (cells:=[I 1,I 40,I 0,I 2,I 6,.bool false,.bool false,I 2,I 50,I 0,I 2,I 6,.bool false,.bool true]) nj ty61 zc61 U U kr (fun b11=>?_))))
    refine az pZ U (dW 2 ty24 U U U U U U (ac (sr (a8 (dg Tryz.call23 (ra h13  ) U (fun v10 h18 hle18 hp10=>?_))))))
    obtain ⟨rr2,rfl,ok2⟩:=hp10
    refine bX zc30 (fun b12=>bN 0 ty30 U U U U U U (ac (sr (az lD U (dW 0 ty26 U U U U U U (ac (sr (dq 3 ty30 U U U (a8 (ck (cells:=[I 1,I 2]) eL ty3 zc3 U U kr (fun b13=>?_)))))))))))
    refine a8 (fw (cells:=[I 15,I 40]) (places:=[(0,1),(1,1)]) yG zc46 kr kr (a8 (fw (cells:=[I 50,I 100]) (places:=[(0,1),(1,1)]) yG zc46 kr kr ?_)))
    refine a8 (ck (cells:=[I 15,I 40,I 50,I 100]) mK ty46 zc46 U U kr (fun b14=>cq 3 U hM (fun h19 hle19 hb9=>?_)))
    have sl17:SlC Interest.rp h19 (some ⟨b11,0,none⟩) 2 ([(Interest.mk 1 40 0 2 6 false false),(Interest.mk 2 50 0 2 6 false true)]):=bV.slB0 (T:=61) (fz:=(0,0)) ((show bV Interest.rp h18 [I 1,I 40,I 0,I 2,I 6,.bool false,.bool false,I 2,I 50,I 0,I 2,I 6,.bool false,.bool true] ([(Interest.mk 1 40 0 2 6 false false),(Interest.mk 2 50 0 2 6 false true)]) from ⟨[I 1,I 40,I 0,I 2,I 6,.bool false,.bool false],[I 2,I 50,I 0,I 2,I 6,.bool false,.bool true],rfl,rfl,rfl,⟨[I 2,I 50,I 0,I 2,I 6,.bool false,.bool true],[],rfl,rfl,rfl,rfl⟩⟩).mono Interest.aN hle19) hb9
    refine cq 1 U hM (fun h20 hle20 hb10=>?_)
    have sl18:SlC Rp.int h20 (some ⟨b13,0,none⟩) 2 ([1,2]):=bV.slB0 (T:=3) (fz:=(0,0)) ((show bV Rp.int h19 [I 1,I 2] ([1,2]) from ⟨[I 1],[I 2],rfl,rfl,rfl,⟨[I 2],[],rfl,rfl,rfl,rfl⟩⟩).mono Rp.ce hle20) hb10
    refine cq 0 U hM (fun h21 hle21 hb11=>?_)
    have sl19:SlC Span.rp h21 (some ⟨b14,0,none⟩) 2 ([(Span.mk 15 40),(Span.mk 50 100)]):=bV.slB0 (T:=46) (fz:=(0,0)) ((show bV Span.rp h20 [I 15,I 40,I 50,I 100] ([(Span.mk 15 40),(Span.mk 50 100)]) from ⟨[I 15,I 40],[I 50,I 100],rfl,rfl,rfl,⟨[I 50,I 100],[],rfl,rfl,rfl,rfl⟩⟩).mono Span.aN hle21) hb11
    refine aG (v:=.bool (dF (Register.mk ad.Appoints ad.Deputies ([(Interest.mk 1 40 0 2 6 false false),(Interest.mk 2 50 0 2 6 false true)]) ad.Budgets ad.Versions ad.Docs ad.Approvals) 0 ([1,2]) ([(Span.mk 15 40),(Span.mk 50 100)]))) yA (jF h21 (Register.mk ad.Appoints ad.Deputies ([(Interest.mk 1 40 0 2 6 false false),(Interest.mk 2 50 0 2 6 false true)]) ad.Budgets ad.Versions ad.Docs ad.Approvals) (er.mk rr1.gE rr1.gD rr1.ik rr1.ij (some ⟨b11,0,none⟩) 2 rr1.iX rr1.iW rr1.f4 rr1.f3 rr1.lj rr1.li rr1.gT rr1.gS) 0 ([1,2]) (some ⟨b13,0,none⟩) 2 ([(Span.mk 15 40),(Span.mk 50 100)]) (some ⟨b14,0,none⟩) 2 (show Register.ok h21 (Register.mk ad.Appoints ad.Deputies ([(Interest.mk 1 40 0 2 6 false false),(Interest.mk 2 50 0 2 6 false true)]) ad.Budgets ad.Versions ad.Docs ad.Approvals) (er.mk rr1.gE rr1.gD rr1.ik rr1.ij (some ⟨b11,0,none⟩) 2 rr1.iX rr1.iW rr1.f4 rr1.f3 rr1.lj rr1.li rr1.gT rr1.gS) from ⟨(ok1.Appoints.mono Appoint.aN (((((((((((((((hle2.t hle3).t hle4).t hle5).t hle6).t hle7).t hle8).t hle9).t hle10).t hle11).t hle12).t hle13).t hle18).t hle19).t hle20).t hle21)),(ok1.Deputies.mono Deputy.aN (((((((((((((((hle2.t hle3).t hle4).t hle5).t hle6).t hle7).t hle8).t hle9).t hle10).t hle11).t hle12).t hle13).t hle18).t hle19).t hle20).t hle21)),(sl17.mono Interest.aN (hle20.t hle21)),(ok1.Budgets.mono Budget.aN (((((((((((((((hle2.t hle3).t hle4).t hle5).t hle6).t hle7).t hle8).t hle9).t hle10).t hle11).t hle12).t hle13).t hle18).t hle19).t hle20).t hle21)),(ok1.Versions.mono Version.aN (((((((((((((((hle2.t hle3).t hle4).t hle5).t hle6).t hle7).t hle8).t hle9).t hle10).t hle11).t hle12).t hle13).t hle18).t hle19).t hle20).t hle21)),(ok1.Docs.mono Document.aN (((((((((((((((hle2.t hle3).t hle4).t hle5).t hle6).t hle7).t hle8).t hle9).t hle10).t hle11).t hle12).t hle13).t hle18).t hle19).t hle20).t hle21)),(ok1.Approvals.mono Approval.aN (((((((((((((((hle2.t hle3).t hle4).t hle5).t hle6).t hle7).t hle8).t hle9).t hle10).t hle11).t hle12).t hle13).t hle18).t hle19).t hle20).t hle21))⟩) (sl18.mono Rp.ce hle21) sl19 lG ob (hk.mono ((((((((((((((((hle1.t hle2).t hle3).t hle4).t hle5).t hle6).t hle7).t hle8).t hle9).t hle10).t hle11).t hle12).t hle13).t hle18).t hle19).t hle20).t hle21))) U ?_
    refine aa ?_
    refine tq 4 [(204,.bool ((dF (Register.mk ad.Appoints ad.Deputies ([(Interest.mk 1 40 0 2 6 false false),(Interest.mk 2 50 0 2 6 false true)]) ad.Budgets ad.Versions ad.Docs ad.Approvals) 0 ([1,2]) ([(Span.mk 15 40),(Span.mk 50 100)]))&&(dF (Register.mk ad.Appoints ad.Deputies ad.Interests ad.Budgets ([]) ad.Docs ad.Approvals) 0 ([1,2]) ([]))))] (fun hk22=>?_) (fun e=>?_)
    ·refine ar 200 U (fun c25=>?_) (fun c25=>?_)
     ·refine dq 0 ty30 U U U (a8 (ck (cells:=[I 1,I 2]) eL ty3 zc3 U U kr (fun b15=>cq 0 U hM (fun h22 hle22 hb12=>?_))))
      have sl20:SlC Rp.int h22 (some ⟨b15,0,none⟩) 2 ([1,2]):=bV.slB0 (T:=3) (fz:=(0,0)) ((show bV Rp.int h21 [I 1,I 2] ([1,2]) from ⟨[I 1],[I 2],rfl,rfl,rfl,⟨[I 2],[],rfl,rfl,rfl,rfl⟩⟩).mono Rp.ce hle22) hb12
      refine aG (v:=.bool (dF (Register.mk ad.Appoints ad.Deputies ad.Interests ad.Budgets ([]) ad.Docs ad.Approvals) 0 ([1,2]) ([]))) yA (jF h22 (Register.mk ad.Appoints ad.Deputies ad.Interests ad.Budgets ([]) ad.Docs ad.Approvals) (er.mk rr2.gE rr2.gD rr2.ik rr2.ij rr2.gB rr2.gA rr2.iX rr2.iW none 0 rr2.lj rr2.li rr2.gT rr2.gS) 0 ([1,2]) (some ⟨b15,0,none⟩) 2 ([]) none 0 (show Register.ok h22 (Register.mk ad.Appoints ad.Deputies ad.Interests ad.Budgets ([]) ad.Docs ad.Approvals) (er.mk rr2.gE rr2.gD rr2.ik rr2.ij rr2.gB rr2.gA rr2.iX rr2.iW none 0 rr2.lj rr2.li rr2.gT rr2.gS) from ⟨(ok2.Appoints.mono Appoint.aN (((hle19.t hle20).t hle21).t hle22)),(ok2.Deputies.mono Deputy.aN (((hle19.t hle20).t hle21).t hle22)),(ok2.Interests.mono Interest.aN (((hle19.t hle20).t hle21).t hle22)),(ok2.Budgets.mono Budget.aN (((hle19.t hle20).t hle21).t hle22)),SlC.nil,(ok2.Docs.mono Document.aN (((hle19.t hle20).t hle21).t hle22)),(ok2.Approvals.mono Approval.aN (((hle19.t hle20).t hle21).t hle22))⟩) sl20 SlC.nil lG ob (hk.mono (((((((((((((((((hle1.t hle2).t hle3).t hle4).t hle5).t hle6).t hle7).t hle8).t hle9).t hle10).t hle11).t hle12).t hle13).t hle18).t hle19).t hle20).t hle21).t hle22))) U ?_
      refine ah U (jI (h:=h21) hle22 hX ((((((((((((((((hle1.t hle2).t hle3).t hle4).t hle5).t hle6).t hle7).t hle8).t hle9).t hle10).t hle11).t hle12).t hle13).t hle18).t hle19).t hle20).t hle21) ?_)
      exact hk22 _ ⟨(cb (cW c25)),trivial⟩
     ·refine kq (bP (ah U ?_))
      exact hk22 _ ⟨(cb (cX c25)),trivial⟩
    refine an ?_
    exact aw [.bool ((dF (Register.mk ad.Appoints ad.Deputies ([(Interest.mk 1 40 0 2 6 false false),(Interest.mk 2 50 0 2 6 false true)]) ad.Budgets ad.Versions ad.Docs ad.Approvals) 0 ([1,2]) ([(Span.mk 15 40),(Span.mk 50 100)]))&&(dF (Register.mk ad.Appoints ad.Deputies ad.Interests ad.Budgets ([]) ad.Docs ad.Approvals) 0 ([1,2]) ([])))] Dx U hX rd (cs hs9)
theorem vA (rec:Expr→Int→Int) (h:HF) (x:Expr) (fe:cI) (limit:Int) (hrec:∀ (h:HF) (qx:Expr) (jq:cI) (qlimit:Int) (hqx:Expr.ok h qx jq) (_:qx.dep < x.dep),Ret Tryz.prog 50 [.agg (Expr.cells qx jq).toArray,I qlimit] h (I (rec qx qlimit))) (hx:Expr.ok h x fe):Ret Tryz.prog 50 [.agg (Expr.cells x fe).toArray,I limit] h (I (eN.F rec x limit)):=by
 refine ay Tryz.func50 U Tryz.ntmps50 U fun X hM hX=>?_
 have hs0:eN.F rec x limit=eN.F rec x limit:=rfl
 refine sr (dy (fun b1=>an (sr (an (ae (sr (an ?_)))))))
 refine br (ι:=Nat×Int) (fun i=>[(5,I i.2)]) (fun i=>h) (fun i=>[(b1,O (Expr.cells x fe) 66)]) (fun i=>i.1≤x.L.length∧eN.F rec x limit=((eN.K1) i.2)) ?_ (fun hx1=>?_)
 ·rintro ⟨i1,iM⟩ ⟨bd,hs1⟩ e
  try dsimp only at bd
  try dsimp only
  refine sr (aa (an ?_))
  exact aw [I iM] Tryz.func50 U hX rd (ci hs1)
 ·refine cp (ι:=Nat×Int×List Expr) (fun i=>[(1,I limit),(2,Q b1),(5,I i.2.1),(6,I ((i.1:Nat):Int))]) (fun i=>h) (fun i=>[(b1,O (Expr.cells x fe) 66)]) (fun i=>x.L.drop i.1=i.2.2∧i.1≤x.L.length∧eN.F rec x limit=((eN.L1 rec limit (eN.K1)) i.2.2 i.2.1)) (fun i=>i.2.2.length) (0,1,x.L) rd sw ⟨U,Nat.zero_le _,hs0⟩ ?_
  rintro ⟨i1,iM,s1⟩ ⟨hd1,bd,hs3⟩ ag1 e
  try dsimp only at hd1 bd
  rcases s1 with _ | ⟨y1,rz1⟩
  ·have dI:=cU hd1
   try dsimp only
   refine ae (sr (aa (az dE U (aO 0 ty64 U U U (bC fT U (aB (v':=.bool false) U (cb dI) (aa (kq (bP (ah U (ac (bg U (bO U ?_)))))))))))))
   exact hx1 (i1,iM) _ ⟨bd,hs3⟩ rd
  ·have dH:=dY hd1
   have bh:=cY hd1
   have eT:=aT hd1
   have gx:=hx.list.1.1
   try dsimp only
   refine ae (sr (aa (az dE U (aO 0 ty64 U U U (bC fT U (aB (v':=.bool true) U (cb dH) (aa (aa (aa (aJ U (ah U (ac ?_))))))))))))
   refine aE U (fun c2=>?_) (fun c2=>?_)
   ·have c2p:=of_decide_eq_true c2
    have hs5:=hs3.trans (bt c2)
    refine ao (ae (aW (ai (aa (az dE U (aO 0 ty64 U U U (aa (a8 (gL fT ty66 hx.list.1 (nthZ bh) (bB bh) U U U (fun q2 cs2 A2 ln2 rr2=>?_))))))))))
    obtain ⟨r2,rfl,ok2⟩:=rr2
    refine ed ty66 A2 U U (aa (aa (aJ U (aG (v:=I (rec y1 (IntKind.wrap .i64 (limit - iM)))) Tryz.call50 (hrec h y1 r2 (IntKind.wrap .i64 (limit - iM)) ok2 (Expr.iq (gm hd1))) U (aJ U (an (av (ai ?_))))))))
    refine aa (aB (v':=I (((i1+1):Nat):Int)) U (bW ob) (an ?_))
    exact ag1 ((i1+1),(IntKind.wrap .i64 (iM+(rec y1 (IntKind.wrap .i64 (limit - iM))))),rz1) _ (Nat.lt_succ_self _) ⟨bF hd1,aT hd1,hs5⟩ rd
   ·have c2p:=of_decide_eq_false c2
    have hs6:=hs3.trans (bf c2)
    refine bO U ?_
    exact hx1 (i1,iM) _ ⟨bd,hs6⟩ rd
theorem oo:∀ (m:Nat) (h:HF) (x:Expr) (fe:cI) (limit:Int) (_:x.dep≤m) (hx:Expr.ok h x fe),Ret Tryz.prog 50 [.agg (Expr.cells x fe).toArray,I limit] h (I (eN.go m x limit))
 | 0,h,x,fe,limit,hd,hx=>absurd hd (Nat.not_le.2 (Expr.jR _))
 | m+1,h,x,fe,limit,hd,hx=>vA (eN.go m) h x fe limit (fun qh_ qx jq qlimit qhx qd=>oo m qh_ qx jq qlimit ob qhx) hx
theorem qK (h:HF) (x:Expr) (fe:cI) (limit:Int) (hx:Expr.ok h x fe):Ret Tryz.prog 50 [.agg (Expr.cells x fe).toArray,I limit] h (I (eN x limit)):=oo _ h x fe limit (Nat.le_refl _) hx
end Go.Sg
