import Derived.Test.YtngiefchigcphaaGreatDoorW8
/- A part of the proof of AsofSmallest. -/
set_option linter.unusedVariables false
set_option linter.unusedSimpArgs false
set_option maxRecDepth 100000
namespace Go.Sg
open Go.Proofs
set_option maxHeartbeats 2000000
theorem jx (h:HF) (aR:Register) (cu:eB) (doc:Int) (who:(List Int)) (fo:Option Addr) (fm:Nat) (known:Int) (ia:Register.ok h aR cu) (hwho:SlC Rp.int h fo fm who) (hsm:smR aR) (hsw:who.length≤2000000) (hk:Kinds h):je Tryz.prog 10 [.agg (Register.cells aR cu).toArray,I doc,.slice fo who.length fm,I known] h (fun v h'=>∃ (rb0:Option Addr) (rc0:Nat),v=.tuple #[.slice rb0 ((bd aR doc who known).1).length rc0,I ((bd aR doc who known).2)]∧SlC Span.rp h' rb0 rc0 ((bd aR doc who known).1)):=by
 refine ae E3 U Tryz.ntmps10 U fun X hM hX=>?_
 have hs0:bd aR doc who known=bd aR doc who known:=rfl
 refine sr (dt (fun b1=>dt (fun b2=>bR zc34 (fun b3=>qO 5 U (dl 2 ty30 U U U (au (v:=I (eX aR)) Tryz.call26 (sA h aR cu ia ob hk) U (qO 2 U ?_)))))))
 refine ak hs0 U (fun c1 hs1=>?_) (fun c1 hs2=>?_)
 ·refine sr (dS 0 ty34 U U U U U U (an ?_))
  have hs3:bd aR doc who known=([],300):=hs1
  exact cJ [.slice none 0 0,I 300] E3 U ⟨⟨0,_,_,_,_,U,U,.inr ⟨_,ty34,U⟩⟩,U,trivial⟩ ⟨none,0,congrArg (fun r:((List Span)×Int)=>(.tuple #[.slice none r.1.length 0,I r.2]:Value)) hs3.symm,(by rw [hs3];exact SlC.nil)⟩
 ·refine qT 3 U (dl 2 ty30 U U U (qO 2 U (aN (cy Tryz.call27 (wV h aR cu doc known ia) U (fun v1 h1 hle1 hp1=>?_)))))
  obtain ⟨rr1,rfl,ok1⟩:=hp1
  refine qO 3 U (bR zc77 (fun b4=>bL 0 ty77 U U U U U U (qO 8 U ?_)))
  refine ar 4 [26,27,28,29,30] 30 (.bool ((!((cU aR doc known).2))||(!(fG who)))) (fun hk1=>?_) (fun e=>?_)
  ·refine ac 26 U (fun c2=>?_) (fun c2=>?_)
   ·refine qO 4 U ?_
    exact hk1 _ (cb (dW c2))
   ·refine aI 2 ty31 U U U (au (v:=.bool (fG who)) Tryz.call28 (zn h1 who fo fm (hwho.mono Rp.bi hle1)) U (qO 2 U ?_))
    exact hk1 _ (cb (dX c2))
  refine bh ?_
  refine ak hs2 U (fun c3 hs4=>?_) (fun c3 hs5=>?_)
  ·refine sr (dS 1 ty34 U U U U U U (an ?_))
   have hs6:bd aR doc who known=([],1):=hs4
   exact cJ [.slice none 0 0,I 1] E3 U ⟨⟨1,_,_,_,_,U,U,.inr ⟨_,ty34,U⟩⟩,U,trivial⟩ ⟨none,0,congrArg (fun r:((List Span)×Int)=>(.tuple #[.slice none r.1.length 0,I r.2]:Value)) hs6.symm,(by rw [hs6];exact SlC.nil)⟩
  ·refine qT 4 U (dl 0 ty77 U U U (aN (cy Tryz.call29 (qm h1 ((cU aR doc known).1) rr1 ok1 (by have a_:=(asked (by simpa using c1) (by simp only [decide_eq_true_eq,decide_eq_false_iff_not,Bool.and_eq_true,Bool.or_eq_true,Bool.not_eq_true',Bool.not_eq_false',Bool.and_eq_false_iff,Bool.or_eq_false_iff,beq_iff_eq,beq_eq_false_iff_ne,bne_iff_ne,bne_eq_false_iff_eq,List.length_append,List.length_cons,List.length_nil,List.length_drop] at c3;exact c3.1));rw [a_.reg];exact hsm) (by have a_:=(asked (by simpa using c1) (by simp only [decide_eq_true_eq,decide_eq_false_iff_not,Bool.and_eq_true,Bool.or_eq_true,Bool.not_eq_true',Bool.not_eq_false',Bool.and_eq_false_iff,Bool.or_eq_false_iff,beq_iff_eq,beq_eq_false_iff_ne,bne_iff_ne,bne_eq_false_iff_eq,List.length_append,List.length_cons,List.length_nil,List.length_drop] at c3;exact c3.1));rw [a_.reg];exact a_.vers.okV) (by have a_:=(asked (by simpa using c1) (by simp only [decide_eq_true_eq,decide_eq_false_iff_not,Bool.and_eq_true,Bool.or_eq_true,Bool.not_eq_true',Bool.not_eq_false',Bool.and_eq_false_iff,Bool.or_eq_false_iff,beq_iff_eq,beq_eq_false_iff_ne,bne_iff_ne,bne_eq_false_iff_eq,List.length_append,List.length_cons,List.length_nil,List.length_drop] at c3;exact c3.1));exact ⟨a_.doc.at_.1,Int.le_of_lt a_.doc.at_.2⟩)) U (fun v2 h2 hle2 hp2=>?_))))
   obtain ⟨_,rfl,mo1⟩:=hp2
   refine qO 2 U ?_
   refine gp ?_
   refine dZ (L':=([(b4,O (aH.cells ((cU aR doc known).1) rr1) 77),(b3,O [.slice none 0 0] 34),(b2,O [.slice fo who.length fm] 31),(b1,O (Register.cells aR cu) 30)])++markB []) ap ?_
   refine kd (it:=v2) (xs:=(az ((cU aR doc known).1))) (ι:=(List Span)×Option Addr×Nat×LH×HF) [] (fun i=>i.2.2.2.2) (fun i=>[(b4,O (aH.cells ((cU aR doc known).1) rr1) 77),(b3,O [.slice i.2.1 i.1.length i.2.2.1] 34),(b2,O [.slice fo who.length fm] 31),(b1,O (Register.cells aR cu) 30)]++(i.2.2.2.1)) (fun s i=>bd aR doc who known=((bd.L1 aR doc who known (bd.K1)) s i.1)∧eb Span.rp 46 i.2.2.2.2 i.1 i.2.1 i.2.2.1 i.2.2.2.1∧HF.le h2 i.2.2.2.2∧i.1.length+s.length≤5000000) (fun _=>False) (fun _=>False) 0 (fun _ _ _=>False) ([],none,0,[],h2) E3 U mo1 U Bz (fun _ _ _ _ _ hq=>hq) U (show [(b4,O (aH.cells ((cU aR doc known).1) rr1) 77),(b3,O [.slice none 0 0] 34),(b2,O [.slice fo who.length fm] 31),(b1,O (Register.cells aR cu) 30)]=_ from U) ⟨hs5,eb.nil,(HF.le_refl h2),(by have a_:=(asked (by simpa using c1) (by simp only [decide_eq_true_eq,decide_eq_false_iff_not,Bool.and_eq_true,Bool.or_eq_true,Bool.not_eq_true',Bool.not_eq_false',Bool.and_eq_false_iff,Bool.or_eq_false_iff,beq_iff_eq,beq_eq_false_iff_ne,bne_iff_ne,bne_eq_false_iff_eq,List.length_append,List.length_cons,List.length_nil,List.length_drop] at c3;exact c3.1));have:=Ga (q:=(cU aR doc known).1) (by rw [a_.reg];exact hsm) (by rw [a_.reg];exact a_.vers.okV);simpa using this)⟩ ?_ ?_ ?_ ?_ ?_
   ·rintro l1 dm1 lp1 y1 rz1 vs1 ⟨aQ,gk,gj,ik,hh1⟩ hr1 X hFR1 ⟨hs7,jb,hl1,u1_0⟩ hl01 hlr1 hv1 hX hXM hlp1 nx1 rt1 ex1 pn1
    try dsimp only at jb hl1 u1_0 hlr1
    obtain rfl:=hv1
    simp only [List.length_cons] at u1_0
    refine dZ (L':=[(l1,.loop lp1),(dm1,.deferred (some [])),(b4,O (aH.cells ((cU aR doc known).1) rr1) 77),(b3,O [.slice gk aQ.length gj] 34),(b2,O [.slice fo who.length fm] 31),(b1,O (Register.cells aR cu) 30)]++(ik++(markB []))) ap (bU (bR zc46 (fun b6=>bL 0 ty46 U U U U U U (iT (L':=[(b6,O (Span.cells y1) 46),(l1,.loop lp1),(dm1,.deferred (some [])),(b4,O (aH.cells ((cU aR doc known).1) rr1) 77),(b3,O [.slice gk aQ.length gj] 34),(b2,O [.slice fo who.length fm] 31),(b1,O (Register.cells aR cu) 30)]++(ik++(markB []))) U (bh (ke 1 U hlp1 (qT 3 U (aI 4 ty34 U U U (a8 oe U (qO 5 U (dl 3 ty77 U U U (aI 5 ty31 U U U (aj BJ U (aI 0 ty3 U U U (au (v:=.bool (aX ((cU aR doc known).1) who y1.From)) Tryz.call30 (mP hr1 ((cU aR doc known).1) rr1 who fo fm y1.From (ok1.mono ((hle2.t hl1).t hlr1)) (hwho.mono Rp.bi (((hle1.t hle2).t hl1).t hlr1)) (by have a_:=(asked (by simpa using c1) (by simp only [decide_eq_true_eq,decide_eq_false_iff_not,Bool.and_eq_true,Bool.or_eq_true,Bool.not_eq_true',Bool.not_eq_false',Bool.and_eq_false_iff,Bool.or_eq_false_iff,beq_iff_eq,beq_eq_false_iff_ne,bne_iff_ne,bne_eq_false_iff_eq,List.length_append,List.length_cons,List.length_nil,List.length_drop] at c3;exact c3.1));rw [a_.reg];exact hsm) (by have a_:=(asked (by simpa using c1) (by simp only [decide_eq_true_eq,decide_eq_false_iff_not,Bool.and_eq_true,Bool.or_eq_true,Bool.not_eq_true',Bool.not_eq_false',Bool.and_eq_false_iff,Bool.or_eq_false_iff,beq_iff_eq,beq_eq_false_iff_ne,bne_iff_ne,bne_eq_false_iff_eq,List.length_append,List.length_cons,List.length_nil,List.length_drop] at c3;exact c3.1));rw [a_.reg];exact a_.vers.okV) (by have a_:=(asked (by simpa using c1) (by simp only [decide_eq_true_eq,decide_eq_false_iff_not,Bool.and_eq_true,Bool.or_eq_true,Bool.not_eq_true',Bool.not_eq_false',Bool.and_eq_false_iff,Bool.or_eq_false_iff,beq_iff_eq,beq_eq_false_iff_ne,bne_iff_ne,bne_eq_false_iff_eq,List.length_append,List.length_cons,List.length_nil,List.length_drop] at c3;exact c3.1));exact ⟨⟨a_.doc.at_.1,Int.le_of_lt a_.doc.at_.2⟩,a_.doc.kind.1⟩) ob (hk.mono (((hle1.t hle2).t hl1).t hlr1))) U ?_)))))))))))))))
    refine qO 3 U ?_
    refine ak hs7 U (fun c5 hs8=>?_) (fun c5 hs9=>?_)
    ·refine qT 3 U ?_
     refine cG (L':=[(l1,.loop { lp1 with state:=.busy }),(dm1,.deferred (some [])),(b4,O (aH.cells ((cU aR doc known).1) rr1) 77),(b3,O [.slice gk aQ.length gj] 34),(b2,O [.slice fo who.length fm] 31),(b1,O (Register.cells aR cu) 30)]++(ik++(markB []))) js ?_
     refine dZ (L':=rdH l1 dm1 lp1 (([(b4,O (aH.cells ((cU aR doc known).1) rr1) 77),(b3,O [.slice gk aQ.length gj] 34),(b2,O [.slice fo who.length fm] 31),(b1,O (Register.cells aR cu) 30)]++(ik))++markB [])) ap ?_
     exact nx1 (aQ,gk,gj,ik,hr1) _ _ ⟨hs8,(jb.mono Span.aD hlr1),(hl1.t hlr1),(by first | omega | (simp only [List.length_append,List.length_cons,List.length_nil,List.length_set];omega))⟩ (HF.le_refl _)
    ·refine em ?_
     refine lX [(8,Q b3),(12,Q b6),(13,I ((aQ.length:Nat):Int)),(47,.bool (decide (0 < ((aQ.length:Nat):Int))&&((nthI aQ (((aQ.length:Nat):Int) - 1)).Until==y1.From)))] (fun e=>?_) (fun hk2=>?_)
     rotate_left
     ·refine fd ([(b6,O (Span.cells y1) 46),(l1,.loop { lp1 with state:=.busy }),(dm1,.deferred (some [])),(b4,O (aH.cells ((cU aR doc known).1) rr1) 77),(b3,O [.slice gk aQ.length gj] 34),(b2,O [.slice fo who.length fm] 31),(b1,O (Register.cells aR cu) 30)]++(ik)) mixed kr jn (fun dU _=>(qR 0 3 U ?_))
      refine dM 50 U (fun c6=>?_) (fun c6=>?_)
      ·have c6p:=of_decide_eq_true c6
       refine tf 3 U U (fun _ _ hj=>gH ty34 U (hj.nth (i:=4) U) U) (tm 4 U ?_)
       refine tf 5 U U (fun _ _ _=>nF (v':=I (((aQ.length:Nat):Int) - 1)) U (im ob)) ?_
       have ho2:0≤((((aQ.length:Nat):Int) - 1):Int)∧((((aQ.length:Nat):Int) - 1):Int) < ((aQ).length:Int):=ob
       obtain ⟨bk2,hbk2⟩:=eb.wg (jb.mono Span.aD hlr1) ob
       refine tf 6 U U (fun _ _ _=>Bj (R:=Span.rp) (xs:=aQ) oe ty46 hbk2 ho2 U U U) ?_
       refine tf 7 U U (fun _ _ _=>dx xx U) (tf 8 U U (fun _ _ hj=>Jf (R:=Span.rp) (i:=((((aQ.length:Nat):Int) - 1):Int).toNat) (off:=1) ty3 (jb.mono Span.aD hlr1) hbk2 (df ho2) (fun cs hcs=>by rw [show cs=Span.cells (nthI aQ (((aQ.length:Nat):Int) - 1)) from hcs];rfl) U (fun p hp=>hj.2 p (by simp only [List.mem_append,List.mem_cons,hp,true_or,or_true]))) ?_)
       refine tf 9 U U (fun _ _ _=>dx BJ U) (tf 10 U U (fun _ _ hj=>gH ty3 U (hj.nth (i:=0) U) U) (qR 11 3 U (bv kr ?_)))
       exact hk2 _ ⟨U,U,U,(cb (show ((nthI aQ (((aQ.length:Nat):Int) - 1)).Until==y1.From)=(decide (0 < ((aQ.length:Nat):Int))&&((nthI aQ (((aQ.length:Nat):Int) - 1)).Until==y1.From)) from by rw [c6] <;> rfl)),trivial⟩
      ·have c6p:=of_decide_eq_false c6
       refine qR 3 11 U (bv kr ?_)
       exact hk2 _ ⟨U,U,U,(cb (show false=(decide (0 < ((aQ.length:Nat):Int))&&((nthI aQ (((aQ.length:Nat):Int) - 1)).Until==y1.From)) from by rw [c6] <;> rfl)),trivial⟩
     refine ak hs9 U (fun c7 hs10=>?_) (fun c7 hs11=>?_)
     ·refine bU (aI 4 ty34 U U U (aB (ai (v':=I (((aQ.length:Nat):Int) - 1)) U (im ob) (aj xx U (aI 0 ty3 U U U ?_)))))
      have ho3:0≤((((aQ.length:Nat):Int) - 1):Int)∧((((aQ.length:Nat):Int) - 1):Int) < ((aQ).length:Int):=ob
      obtain ⟨bk3,hbk3⟩:=eb.wg (jb.mono Span.aD hlr1) ob
      refine aN (gI (Bj (R:=Span.rp) (xs:=aQ) oe ty46 hbk3 ho3 U U U) (aj xx U (aN (Cs (R:=Span.rp) (i:=((((aQ.length:Nat):Int) - 1):Int).toNat) (off:=1) (u:=(nthI aQ (((aQ.length:Nat):Int) - 1))) (u':=(Span.mk (nthI aQ (((aQ.length:Nat):Int) - 1)).From y1.Until)) (v:=I y1.Until) ([(b6,O (Span.cells y1) 46),(l1,.loop { lp1 with state:=.busy }),(dm1,.deferred (some [])),(b4,O (aH.cells ((cU aR doc known).1) rr1) 77),(b3,O [.slice gk aQ.length gj] 34),(b2,O [.slice fo who.length fm] 31),(b1,O (Register.cells aR cu) 30)]) ik (markB []) ty3 U (jb.mono Span.aD hlr1) ap hbk3 (df ho3) (by decide) (fun cs hcs=>by rw [show cs=Span.cells (nthI aQ (((aQ.length:Nat):Int) - 1)) from hcs];rfl) U U U (fun G1 gr1=>?_)))))
      refine iT (L':=[(b6,O (Span.cells y1) 46),(l1,.loop { lp1 with state:=.busy }),(dm1,.deferred (some [])),(b4,O (aH.cells ((cU aR doc known).1) rr1) 77),(b3,O [.slice gk ((aQ.set ((((aQ.length:Nat):Int) - 1):Int).toNat (Span.mk (nthI aQ (((aQ.length:Nat):Int) - 1)).From y1.Until)).length) gj] 34),(b2,O [.slice fo who.length fm] 31),(b1,O (Register.cells aR cu) 30)]++(G1++(markB []))) (by simp only [List.length_set,List.append_assoc,List.cons_append,List.nil_append,List.append_nil]) (qO 3 U ?_)
      refine cG (L':=[(l1,.loop { lp1 with state:=.busy }),(dm1,.deferred (some [])),(b4,O (aH.cells ((cU aR doc known).1) rr1) 77),(b3,O [.slice gk ((aQ.set ((((aQ.length:Nat):Int) - 1):Int).toNat (Span.mk (nthI aQ (((aQ.length:Nat):Int) - 1)).From y1.Until)).length) gj] 34),(b2,O [.slice fo who.length fm] 31),(b1,O (Register.cells aR cu) 30)]++(G1++(markB []))) js ?_
      refine dZ (L':=rdH l1 dm1 lp1 (([(b4,O (aH.cells ((cU aR doc known).1) rr1) 77),(b3,O [.slice gk ((aQ.set ((((aQ.length:Nat):Int) - 1):Int).toNat (Span.mk (nthI aQ (((aQ.length:Nat):Int) - 1)).From y1.Until)).length) gj] 34),(b2,O [.slice fo who.length fm] 31),(b1,O (Register.cells aR cu) 30)]++(G1))++markB [])) ap ?_
      exact nx1 ((aQ.set ((((aQ.length:Nat):Int) - 1):Int).toNat (Span.mk (nthI aQ (((aQ.length:Nat):Int) - 1)).From y1.Until)),gk,gj,G1,hr1) _ _ ⟨hs10,gr1,(hl1.t hlr1),(by first | omega | (simp only [List.length_append,List.length_cons,List.length_nil,List.length_set];omega))⟩ (HF.le_refl _)
     ·refine bU (aI 4 ty34 U U U (dl 0 ty46 U U U (aN (bK (cells:=[I y1.From,I y1.Until]) oe ty46 zc46 U U kr (fun b7=>aN (db Span.eT ([(b7,O [I y1.From,I y1.Until] 46),(b6,O (Span.cells y1) 46),(l1,.loop { lp1 with state:=.busy }),(dm1,.deferred (some [])),(b4,O (aH.cells ((cU aR doc known).1) rr1) 77),(b3,O [.slice gk aQ.length gj] 34),(b2,O [.slice fo who.length fm] 31),(b1,O (Register.cells aR cu) 30)]) (markB []) (fun G=>[(b7,O [I y1.From,I y1.Until] 46),(b6,O (Span.cells y1) 46),(l1,.loop { lp1 with state:=.busy }),(dm1,.deferred (some [])),(b4,O (aH.cells ((cU aR doc known).1) rr1) 77),(b3,O [.slice gk aQ.length gj] 34),(b2,O [.slice fo who.length fm] 31),(b1,O (Register.cells aR cu) 30)]++(markB []++(G))) ap (fun _=>ap) oe ty46 zc46 U bytes46 (jb.mono Span.aD hlr1) U U (eI 0 U (show bD Span.rp hr1 [I y1.From,I y1.Until] ([y1]) from ⟨[I y1.From,I y1.Until],[],U,U,U,U⟩)) lo lo (fun ob1 oc1 G2 gr2=>?_)))))))
      refine xg (sV ([(b7,O [I y1.From,I y1.Until] 46),(b6,O (Span.cells y1) 46),(l1,.loop { lp1 with state:=.busy }),(dm1,.deferred (some [])),(b4,O (aH.cells ((cU aR doc known).1) rr1) 77),(b3,O [.slice gk aQ.length gj] 34),(b2,O [.slice fo who.length fm] 31),(b1,O (Register.cells aR cu) 30)]) G2 (markB [])) ?_
      refine dS 5 ty34 U U U U U U (qO 3 U ?_)
      refine cG (L':=[(l1,.loop { lp1 with state:=.busy }),(dm1,.deferred (some [])),(b4,O (aH.cells ((cU aR doc known).1) rr1) 77),(b3,O [.slice ob1 ((aQ++[y1]).length) oc1] 34),(b2,O [.slice fo who.length fm] 31),(b1,O (Register.cells aR cu) 30)]++(G2++(markB []))) js ?_
      refine dZ (L':=rdH l1 dm1 lp1 (([(b4,O (aH.cells ((cU aR doc known).1) rr1) 77),(b3,O [.slice ob1 ((aQ++[y1]).length) oc1] 34),(b2,O [.slice fo who.length fm] 31),(b1,O (Register.cells aR cu) 30)]++(G2))++markB [])) ap ?_
      exact nx1 ((aQ++[y1]),ob1,oc1,G2,hr1) _ _ ⟨hs11,gr2,(hl1.t hlr1),(by first | omega | (simp only [List.length_append,List.length_cons,List.length_nil,List.length_set];omega))⟩ (HF.le_refl _)
   ·rintro dm1 ⟨aQ,gk,gj,ik,hh1⟩ hn1 ⟨hs12,jb,hl1,u1_0⟩ hln1 hl01
    try dsimp only at jb hl1 u1_0 hln1
    refine dZ (L':=[(b4,O (aH.cells ((cU aR doc known).1) rr1) 77),(b3,O [.slice gk aQ.length gj] 34),(b2,O [.slice fo who.length fm] 31),(b1,O (Register.cells aR cu) 30)]++(ik++(markB (dm1::[])))) ap (qT 3 U (aI 1 ty34 U U U (dS 1 ty34 U U U U U U (an ?_))))
    refine eY Span.aD ([(b4,O (aH.cells ((cU aR doc known).1) rr1) 77),(b3,O [.slice gk aQ.length gj] 34),(b2,O [.slice fo who.length fm] 31),(b1,O (Register.cells aR cu) 30)]) ik (markB (dm1::[])) ap hM (jb.mono Span.aD hln1) (fun h3 hle3 sl1=>?_)
    have hs13:bd aR doc who known=(aQ,0):=hs12
    refine dZ (L':=([(b4,O (aH.cells ((cU aR doc known).1) rr1) 77),(b3,O [.slice gk aQ.length gj] 34),(b2,O [.slice fo who.length fm] 31),(b1,O (Register.cells aR cu) 30)])++markB (dm1::[])) ap ?_
    exact pH (dm1::[]) [.slice gk aQ.length gj,I 0] E3 U ⟨⟨1,_,_,_,_,U,U,.inr ⟨_,ty34,U⟩⟩,U,trivial⟩ ⟨gk,gj,congrArg (fun r:((List Span)×Int)=>(.tuple #[.slice gk r.1.length gj,I r.2]:Value)) hs13.symm,(by rw [hs13];exact sl1)⟩
   ·exact fun _ _ _ hF=>hF.elim
   ·exact fun _ _ _ hF=>hF.elim
   ·exact fun _ _ _ _ hF=>hF.elim
theorem rE (h:HF) (q:aH) (ja:fS) (person:Int) (aW:Int) (hq:aH.ok h q ja) (hsm:smR q.Register) (hov:okV q.Register.Versions) (hod:(0≤q.doc.At∧q.doc.At≤1099511627776)∧0≤q.doc.Kind) (hk:Kinds h):je Tryz.prog 38 [.agg (aH.cells q ja).toArray,I person,I aW] h (fun v h'=>∃ (rb0:Option Addr) (rc0:Nat),v=.slice rb0 (av q person aW).length rc0∧SlC Rp.int h' rb0 rc0 (av q person aW)):=by
 refine ae Tryz.func38 U Tryz.ntmps38 U fun X hM hX=>?_
 have hs0:av q person aW=av q person aW:=rfl
 have hjl:=yy q aW
 have hvl:=hov.1
 refine sr (dt (fun b1=>qO 4 U (aN (oZ (fun b2=>qO 6 U (aj mH U (aj nf U (aI 1 ty3 U U U (qO 2 U ?_)))))))))
 refine ak hs0 U (fun c1 hs1=>?_) (fun c1 hs2=>?_)
 ·have c1p:=of_decide_eq_true c1
  refine qT 4 U ?_
  have hs3:av q person aW=[]:=hs1
  exact cJ [.slice none 0 0] Tryz.func38 U rd ⟨none,0,congrArg (fun r:(List Int)=>(.slice none r.length 0:Value)) hs3.symm,(by rw [hs3];exact SlC.nil)⟩
 ·have c1p:=of_decide_eq_false c1
  refine qT 3 U (dl 1 ty77 U U U (aB (aN (cy Tryz.call65 (mm h q ja aW hq ob hk) U (fun v1 h1 hle1 hp1=>?_)))))
  obtain ⟨rb1,rc1,rfl,sl1⟩:=hp1
  refine qO 10 U (a8 B6 U (qO 2 U ?_))
  let z1:Nat×Obj:=(b1,O (aH.cells q ja) 77)
  refine aU (ι:=Nat×(List (Int×Bool))×Obj×HF) (fun i=>[(1,I person),(7,.map (some b2))]) (fun i=>i.2.2.2) (fun i=>[(b2,i.2.2.1),z1]) (fun i=>i.1≤((ao q aW).1).length∧av q person aW=((av.K1 person) i.2.1)∧gC (Value.int .i64) gY i.2.2.2 i.2.2.1 i.2.1∧i.2.1.length≤64000000 * i.1∧HF.le h1 i.2.2.2) ?_ (fun hx1=>?_)
  ·rintro ⟨i1,dw,jc,hh1⟩ ⟨aP,hs4,fH,jJ,hl1⟩ e
   try dsimp only at aP fH jJ hl1
   refine qT 4 U (aN (Hl 0 (k:=person) lg (eO kK) U fH U U (fun mo4 hm4=>qO 4 U (bX 0 U hM (fun h3 hle3 hb1=>?_)))))
   have mc1:oR (Value.int .i64) gY h3 b2 (mdel dw person):=⟨_,hb1,hm4.mono gY.mono hle3⟩
   refine aN (cy Tryz.call61 (pq h3 (mdel dw person) b2 mc1) U (fun v3 h4 hle4 hp3=>aN (cy Tryz.call60 (lD h4 v3 ((mdel dw person).map Prod.fst) hp3 (by rw [List.length_map];have:=(uV person dw).length_le;omega)) U (fun v4 h5 hle5 hp4=>?_))))
   obtain ⟨rb4,rc4,rfl,sl4⟩:=hp4
   refine an ?_
   have hs5:av q person aW=(sortI ((mdel dw person).map Prod.fst)):=hs4
   exact cJ [.slice rb4 ((sortI ((mdel dw person).map Prod.fst)).length) rc4] Tryz.func38 U rd ⟨rb4,rc4,congrArg (fun r:(List Int)=>(.slice rb4 r.length rc4:Value)) hs5.symm,(by rw [hs5];exact sl4)⟩
  ·refine bG (ι:=Nat×(List (Int×Bool))×Obj×HF×List Policy) (fun i=>[(1,I person),(2,I aW),(3,Q b1),(7,.map (some b2)),(28,.slice rb1 (((ao q aW).1).length) rc1),(29,I ((((ao q aW).1).length:Nat):Int)),(30,I ((i.1:Nat):Int))]) (fun i=>i.2.2.2.1) (fun i=>[(b2,i.2.2.1),z1]) (fun i=>((ao q aW).1).drop i.1=i.2.2.2.2∧i.1≤((ao q aW).1).length∧av q person aW=((av.L1 q aW (av.K1 person)) i.2.2.2.2 i.2.1)∧gC (Value.int .i64) gY i.2.2.2.1 i.2.2.1 i.2.1∧i.2.1.length≤64000000 * i.1∧HF.le h1 i.2.2.2.1) (fun i=>i.2.2.2.2.length) (0,[],.map #[] 0,h1,(ao q aW).1) rd sw ⟨U,Nat.zero_le _,hs2,((gC.nil (enc:=(Value.int .i64)) (V:=gY) (h:=h)).mono gY.mono hle1),lc,(HF.le_refl h1)⟩ ?_
   rintro ⟨i1,dw,jc,hh1,s1⟩ ⟨hd1,aP,hs6,fH,jJ,hl1⟩ ag1 e
   try dsimp only at hd1 aP fH jJ hl1
   rcases s1 with _ | ⟨y1,rz1⟩
   ·have dr:=cw hd1
    refine sr (ai (v':=.bool false) U (cb dr) (qO 4 U ?_))
    exact hx1 (i1,dw,jc,hh1) _ ⟨aP,hs6,fH,lc,hl1⟩ rd
   ·have dq:=dy hd1
    have aM:=cA hd1
    have ey:=aE hd1
    have gi:=sl1.1.1
    obtain ⟨v_,hv_,hve_⟩:=qJ (gx hd1)
    have hsp:=hsm.vers.2 v_ hv_
    rw [hve_] at hsp
    have hvt:=hov.2 v_ hv_
    rw [hve_] at hvt
    have hofl:=hsp.2.2.2.1
    have hql:=Bl q y1 aW
    refine sr (ai (v':=.bool true) U (cb dq) (qO 8 U (aN (fF B6 ty68 (sl1.mono Policy.aD hl1).1 (nthZ aM) (aV aM) U U U (fun q6 cs3 A6 ln3 rr3=>?_)))))
    obtain ⟨r2,rfl,ok2⟩:=rr3
    refine el ty68 A6 U U (bR zc68 (fun b7=>bL 0 ty68 U U U U U U (qO 3 U (dl 2 ty77 U U U (dl 0 ty68 U U U (aB (aN (cy Tryz.call66 (lQ hh1 q ja y1 r2 aW (hq.mono (hle1.t hl1)) ok2 ob ob) U (fun v5 h6 hle6 hp5=>?_)))))))))
    obtain ⟨rb5,rc5,rfl,sl5⟩:=hp5
    refine a8 xA U (qO 2 U ?_)
    let z2:Nat×Obj:=(b7,O (Policy.cells y1 r2) 68)
    refine aU (ι:=Nat×(List (Int×Bool))×Obj) (fun i=>[(1,I person),(2,I aW),(3,Q b1),(7,.map (some b2)),(28,.slice rb1 (((ao q aW).1).length) rc1),(29,I ((((ao q aW).1).length:Nat):Int)),(30,I ((i1:Nat):Int))]) (fun i=>h6) (fun i=>[z2,(b2,i.2.2),z1]) (fun i=>i.1≤(aw q y1 aW).length∧av q person aW=((fun zg5_b2_0=>(av.L1 q aW (av.K1 person) rz1 zg5_b2_0)) i.2.1)∧gC (Value.int .i64) gY h6 i.2.2 i.2.1∧i.2.1.length≤dw.length+2000000 * i.1) ?_ (fun hx5=>?_)
    ·rintro ⟨i5,jj,lO⟩ ⟨jq,hs8,kq,oE⟩ e
     try dsimp only at jq kq oE
     refine qT 2 U (ai (v':=I (((i1+1):Nat):Int)) U (bz ob) (qO 2 U ?_))
     refine cG (L':=[(b2,lO),z1]) js ?_
     exact ag1 ((i1+1),jj,lO,h6,rz1) _ (Nat.lt_succ_self _) ⟨ba hd1,aE hd1,hs8,kq,lc,(hl1.t hle6)⟩ rd
    ·refine bG (ι:=Nat×(List (Int×Bool))×Obj×List (List Holder)) (fun i=>[(1,I person),(2,I aW),(3,Q b1),(7,.map (some b2)),(28,.slice rb1 (((ao q aW).1).length) rc1),(29,I ((((ao q aW).1).length:Nat):Int)),(30,I ((i1:Nat):Int)),(37,.slice rb5 ((aw q y1 aW).length) rc5),(38,I (((aw q y1 aW).length:Nat):Int)),(39,I ((i.1:Nat):Int))]) (fun i=>h6) (fun i=>[z2,(b2,i.2.2.1),z1]) (fun i=>(aw q y1 aW).drop i.1=i.2.2.2∧i.1≤(aw q y1 aW).length∧av q person aW=((av.L5 (fun zg5_b2_0=>(av.L1 q aW (av.K1 person) rz1 zg5_b2_0))) i.2.2.2 i.2.1)∧gC (Value.int .i64) gY h6 i.2.2.1 i.2.1∧i.2.1.length≤dw.length+2000000 * i.1) (fun i=>i.2.2.2.length) (0,dw,jc,(aw q y1 aW)) rd sw ⟨U,Nat.zero_le _,hs6,(fH.mono gY.mono hle6),lc⟩ ?_
     rintro ⟨i5,jj,lO,s5⟩ ⟨hd5,vX,hs9,kq,oE⟩ ag2 e
     try dsimp only at hd5 vX kq oE
     rcases s5 with _ | ⟨y5,rz5⟩
     ·have EN:=cw hd5
      refine sr (ai (v':=.bool false) U (cb EN) (qO 4 U ?_))
      exact hx5 (i5,jj,lO) _ ⟨vX,hs9,kq,lc⟩ rd
     ·have EM:=dy hd5
      have yE:=cA hd5
      have HK:=aE hd5
      have JM:=sl5.1.1
      have hyb:=sf hsm.2.1 y1 aW y5 (gx hd5)
      refine sr (ai (v':=.bool true) U (cb EM) (qO 8 U (aN (fF xA ty101 sl5.1 (nthZ yE) (aV yE) U U U (fun q11 cs5 A11 ln5 rr5=>?_)))))
      obtain ⟨rb7,rc7,rfl,sl7⟩:=rr5
      refine dv ty101 A11 U (qO 5 U (a8 nh U (qO 2 U ?_)))
      refine aU (ι:=Nat×(List (Int×Bool))×Obj) (fun i=>[(1,I person),(2,I aW),(3,Q b1),(7,.map (some b2)),(28,.slice rb1 (((ao q aW).1).length) rc1),(29,I ((((ao q aW).1).length:Nat):Int)),(30,I ((i1:Nat):Int)),(37,.slice rb5 ((aw q y1 aW).length) rc5),(38,I (((aw q y1 aW).length:Nat):Int)),(39,I ((i5:Nat):Int))]) (fun i=>h6) (fun i=>[z2,(b2,i.2.2),z1]) (fun i=>i.1≤y5.length∧av q person aW=((fun zg7_b2_0=>(av.L5 (fun zg5_b2_0=>(av.L1 q aW (av.K1 person) rz1 zg5_b2_0)) rz5 zg7_b2_0)) i.2.1)∧gC (Value.int .i64) gY h6 i.2.2 i.2.1∧i.2.1.length≤jj.length+i.1) ?_ (fun hx7=>?_)
      ·rintro ⟨i7,nV,yH⟩ ⟨nU,hs11,pX,yI⟩ e
       try dsimp only at nU pX yI
       refine qT 2 U (ai (v':=I (((i5+1):Nat):Int)) U (bz ob) (qO 2 U ?_))
       exact ag2 ((i5+1),nV,yH,rz5) _ (Nat.lt_succ_self _) ⟨ba hd5,aE hd5,hs11,pX,lc⟩ rd
      ·refine bG (ι:=Nat×(List (Int×Bool))×Obj×List Holder) (fun i=>[(1,I person),(2,I aW),(3,Q b1),(7,.map (some b2)),(28,.slice rb1 (((ao q aW).1).length) rc1),(29,I ((((ao q aW).1).length:Nat):Int)),(30,I ((i1:Nat):Int)),(37,.slice rb5 ((aw q y1 aW).length) rc5),(38,I (((aw q y1 aW).length:Nat):Int)),(39,I ((i5:Nat):Int)),(43,.slice rb7 y5.length rc7),(44,I ((y5.length:Nat):Int)),(45,I ((i.1:Nat):Int))]) (fun i=>h6) (fun i=>[z2,(b2,i.2.2.1),z1]) (fun i=>y5.drop i.1=i.2.2.2∧i.1≤y5.length∧av q person aW=((av.L7 (fun zg7_b2_0=>(av.L5 (fun zg5_b2_0=>(av.L1 q aW (av.K1 person) rz1 zg5_b2_0)) rz5 zg7_b2_0))) i.2.2.2 i.2.1)∧gC (Value.int .i64) gY h6 i.2.2.1 i.2.1∧i.2.1.length≤jj.length+i.1) (fun i=>i.2.2.2.length) (0,jj,lO,y5) rd sw ⟨U,Nat.zero_le _,hs9,kq,lc⟩ ?_
       rintro ⟨i7,nV,yH,s7⟩ ⟨hd7,Dd,hs12,pX,yI⟩ ag3 e
       try dsimp only at hd7 Dd pX yI
       rcases s7 with _ | ⟨y7,rz7⟩
       ·have HL:=cw hd7
        refine sr (ai (v':=.bool false) U (cb HL) (qO 4 U ?_))
        exact hx7 (i7,nV,yH) _ ⟨Dd,hs12,pX,lc⟩ rd
       ·have HJ:=dy hd7
        have rl:=cA hd7
        have Jh:=aE hd7
        have Kb:=sl7.1.1
        refine sr (ai (v':=.bool true) U (cb HJ) (qO 8 U (aN (eU (enc:=Holder.cells) (fun _ _ _ e=>e) nh ty133 sl7.1 (nthZ rl) (aV rl) U U U (fun q13 A13=>?_)))))
        refine el ty133 A13 U U (bR zc133 (fun b12=>bL 0 ty133 U U U U U U (qO 3 U (aj oK U (aI 0 ty3 U U U (aN (ki 2 (k:=y7.Person) (x:=true) lg (eO kK) U pX U U U (fun mo9 hm9=>(qO 3 U (ai (v':=I (((i7+1):Nat):Int)) U (bz ob) (qO 2 U ?_)))))))))))
        refine cG (L':=[z2,(b2,mo9),z1]) js ?_
        exact ag3 ((i7+1),(mput nV y7.Person true),mo9,rz7) _ (Nat.lt_succ_self _) ⟨ba hd7,aE hd7,hs12,hm9,(by have:=gr nV y7.Person true;first | omega | (simp only [List.length_nil,List.length_cons] at *;omega))⟩ rd
theorem eb.anyI {h h':HF} {xs:List Int} {b:Option Addr} {c:Nat} {E:TypeId} {G:LH} (g:eb Rp.int E h xs b c G):eb Rp.int E h' xs b c G:=by
 rcases g with ⟨rfl,rfl,rfl,rfl⟩ | ⟨bk,cl,sp,rfl,hcl,h3,h4,h5,rfl⟩
 ·exact eb.nil
 ·have:=ui hcl
  subst this
  exact .inr ⟨bk,_,sp,U,ux h' _,h3,h4,h5,U⟩
section callGB
variable {P:Program} {b:Frame} {n:Nat} {ops:Array Oper} {F:List Frame→(Machine→Prop)→Prop} {e:Env} {ds:List Deferred} {X:Cx} {h:HF} {L:LH} {K:Env→HF→LH→Prop}
variable {d:Option Nat} {ty:TypeId} {pos:String} {af:Array Edge} {g:Option (Nat×Bool)}
theorem Cv (A G Q:LH) {xs ys:List Int} {base:Option Addr} {cap:Nat} {f:FuncId} {ass:Array Operand} {ats:Array TypeId} {vs:List Value} (hc:∀ args w,(callFunc f args).run P w=.ok (.enter f args) w) (hG:eb Rp.int 3 h xs base cap G) (hL:L=A++(G++Q))
  (hs:∀ h1,h.le h1→SlC Rp.int h1 base cap xs→J0 P f vs h1 Rp.int 3 ys) (hvs:ass.toList.map e.ev=vs)
  (t':∀ bb c G',eb Rp.int 3 h ys bb c G'→K (pute e d (.slice bb ys.length c)) h (L++G'))
  (hg:guardB ops e ⟨d,.call ⟨.value (.func f),ass,ats⟩,ty,pos,af,g⟩=true:=by rfl):
  Stp P b n ops F ds X ⟨d,.call ⟨.value (.func f),ass,ats⟩,ty,pos,af,g⟩ e h L K:=by
 unfold Stp
 rw [if_pos hg]
 intro w hw
 have harr:ass.map e.ev=vs.toArray:=Array.ext' (by simp [← hvs])
 have hr:(execOp e.ev ⟨d,.call ⟨.value (.func f),ass,ats⟩,ty,pos,af,g⟩).run P w=.ok (.enter f vs.toArray) w:=by
  simp [execOp,resolve,Env.ev,Deferred.ofValue,invoke,harr,hc]
 rw [hr]
 have back:∀ (h1:HF),h.le h1→(∀ bk o,h1 bk=some o→w.heap[bk]? = some o)→SlC Rp.int h1 base cap xs→qp P b n F ds X ⟨d,.call ⟨.value (.func f),ass,ats⟩,ty,pos,af,g⟩ e K (.ok (.enter f vs.toArray) w):=by
  intro h1 hle himm hsl
  have hp1:Pre h1 [] w:=⟨himm,fun _ hp=>(List.not_mem_nil hp).elim,List.nodup_nil,fun _ hp=>(List.not_mem_nil hp).elim⟩
  refine jW (by simp) (jv (oU.mono (hs h1 hle hsl w hp1) ?_))
  rintro x w' ⟨h',B,hst,rfl,bb,c,rfl,hG'⟩
  have hnew:∀ p∈B,w.heap.size≤p.1:=fun p hp=>(hst.new p hp).elim id (fun hq=>by simp at hq)
  refine ⟨h,L++B,⟨hst.os.trans hw.os,hst.tape.trans hw.tape,hst.output.trans hw.output,Nat.le_trans hw.size hst.size,fun b' hb' hM=>?_,hw.le,hw.old,fun b' o hb'=>?_,fun p hp=>?_,?_,fun p hp=>?_,fun p hp=>?_⟩,t' bb c B hG'.anyI⟩
  ·rw [hst.keep b' (Nat.lt_of_lt_of_le hb' hw.size) (by simp)];exact hw.keep b' hb' hM
  ·rw [hst.keep b' (fu (hw.imm b' o hb')) (by simp)];exact hw.imm b' o hb'
  ·rcases List.mem_append.1 hp with hp | hp
   ·rw [hst.keep p.1 (fu (hw.own p hp)) (by simp)];exact hw.own p hp
   ·exact hst.own p hp
  ·rw [List.map_append,List.nodup_append]
   refine ⟨hw.dis,hst.dis,fun x hx y hy hxy=>?_⟩
   obtain ⟨p,hp,rfl⟩:=List.mem_map.1 hx
   obtain ⟨q,hq,rfl⟩:=List.mem_map.1 hy
   have:=fu (hw.own p hp)
   have:=hnew q hq
   omega
  ·rcases List.mem_append.1 hp with hp | hp
   ·exact hw.free p hp
   ·cases hh:h p.1 with
    | none=>rfl
    | some o=>have:=fu (hw.imm _ _ hh);have:=hnew p hp;omega
  ·rcases List.mem_append.1 hp with hp | hp
   ·exact hw.new p hp
   ·exact .inl (Nat.le_trans hw.size (hnew p hp))
 rcases hG with ⟨rfl,rfl,rfl,rfl⟩ | ⟨bk,cl,sp,rfl,hcl,h3,h4,h5,rfl⟩
 ·exact back h (HF.le_refl h) hw.imm SlC.nil
 ·have hmem:(bk,O (cl++sp) 3)∈L:=by rw [hL];simp
  have hle:h.le (h.add bk (.cells (cl++sp).toArray 3 (0,0))):=HF.uf (hw.free _ hmem)
  refine back _ hle (fun k o hk=>?_) ⟨bD.slB (hcl.mono Rp.bi hle) (HF.qn _ _ _) h5,h4⟩
  unfold HF.add at hk
  by_cases e0:k=bk
  ·subst e0;simp at hk;subst hk;exact hw.own _ hmem
  ·rw [if_neg e0] at hk;exact hw.imm k o hk
end callGB
structure BV (h:HF) (q:aH) (ja:fS) (person at_:Int) (help:List Int) (hb:Option Addr) (hc:Nat) (q3 q4 q5 q6 q7:Addr) (bw:Nat):Prop where
 hq:aH.ok h q ja
 a3:At h q3 [I person]
 a4:At h q4 (aH.cells q ja)
 a5:At h q5 [I at_]
 a6:At h q6 [.slice hb help.length hc]
 a7:At h q7 [.func (.func 39) #[] #[.pointer (some ⟨bw,0,none⟩),.pointer (some q3),.pointer (some q4),.pointer (some q5),.pointer (some q6),.pointer (some q7)]]
 hh:SlC Rp.int h hb hc help
 kk:Kinds h
 sm:smR q.Register
 ov:okV q.Register.Versions
 od:(0≤q.doc.At∧q.doc.At≤1099511627776)∧0≤q.doc.Kind
 le:help.length≤12
@[reducible] def needClo (q3 q4 q5 q6 q7:Addr) (bw:Nat):List Value:=[.pointer (some ⟨bw,0,none⟩),.pointer (some q3),.pointer (some q4),.pointer (some q5),.pointer (some q6),.pointer (some q7)]
@[reducible] def needCell (bw:Nat) (b:Option Addr) (n c:Nat):Nat×Obj:=(bw,.cells [Value.slice b n c].toArray 31 (0,0))
@[reducible] def needR (h:HF) (bw:Nat) (ws:List Int) (r:Option (List Int)):Ending→HF→LH→Prop:=fun x h' B=>h'=h∧x=.returned (.bool r.isSome)∧∃ rb rc G',eb Rp.int 3 h (r.getD ws) rb rc G'∧B=needCell bw rb (r.getD ws).length rc::G'
theorem DP {h:HF} {q:aH} {ja:fS} {person at_:Int} {help:List Int} {hb:Option Addr} {hc:Nat} {q3 q4 q5 q6 q7:Addr} {bw:Nat} (N:BV h q ja person at_ help hb hc q3 q4 q5 q6 q7 bw)
  (fr:Nat) (ws:List Int) (wb:Option Addr) (wc:Nat) (G:LH) (hG:eb Rp.int 3 h ws wb wc G) (hws:ws.length≤100):
  oP Tryz.prog 39 ([Value.int .i64 (fr:Nat),Value.int .i64 ((0:Nat):Int)]++needClo q3 q4 q5 q6 q7 bw).toArray h (needCell bw wb ws.length wc::G) (needR h bw ws (tryP (needC q person at_) help 0 fr ws)):=by
 refine ae E2 U Tryz.ntmps39 U fun X hM hX=>(qT 8 U (ai (v':=.bool true) U U (qO 2 U ?_)))
 refine em (AY (ι:=Nat×Option Addr×Nat×LH) (fun i=>[(2,.pointer (some ⟨bw,0,none⟩)),(4,.pointer (some q4)),(5,.pointer (some q5)),(11,.slice i.2.1 (ws++[person]).length i.2.2.1)])
  (fun i=>((i.1,.cells [Value.int .i64 person].toArray 3 (0,0))::needCell bw wb ws.length wc::G)++i.2.2.2) (fun i=>eb Rp.int 3 h (ws++[person]) i.2.1 i.2.2.1 i.2.2.2) ?_ (fun hk=>?_))
 ·rintro ⟨bs,bb,c,G2⟩ hG2 e
  dsimp only at hG2
  refine qT 3 U ?_
  refine aN (rT ((bs,.cells [Value.int .i64 person].toArray 3 (0,0))::needCell bw wb ws.length wc::G) G2 [] Tryz.call41 (lZ h _ bb c G2 hG2 (by rw [List.length_append,List.length_cons,List.length_nil];omega)) (by simp) U (fun G3 hG3=>(qO 3 U (el ty77 N.a4 U U (aB (dv ty3 N.a5 U ?_))))))
  refine aN (Cu (v:=.bool (needC q person at_ ws)) ((bs,.cells [Value.int .i64 person].toArray 3 (0,0))::needCell bw wb ws.length wc::G) G3 [] Tryz.call30 Rp.bi hG3 U
   (fun h1 hle hsl=>mP h1 q ja _ _ _ at_ (N.hq.mono hle) hsl N.sm N.ov N.od (by rw [iw,List.length_append,List.length_cons,List.length_nil];omega) (N.kk.mono hle)) (by rw [iw];rfl) ?_)
  refine an ?_
  have e1:tryP (needC q person at_) help 0 fr ws=bif needC q person at_ ws then some ws else none:=rfl
  refine nC E2 (fun a ha w hw=>res1 U a ha w) (fun w hw=>(hw.sub (L':=needCell bw wb ws.length wc::G) js).lower) ⟨hX,?_,wb,wc,G,?_,?_⟩
  ·rw [e1];cases needC q person at_ ws <;> rfl
  ·rw [e1];cases needC q person at_ ws <;> exact hG
  ·rw [e1];cases needC q person at_ ws <;> rfl
 refine (fd [needCell bw wb ws.length wc] mixed kr ⟨HF.le_refl _,fun p hp=>by rw [List.mem_singleton.1 hp];exact List.mem_cons_self ..⟩ (fun hsep hj0=>?_))
 refine nD 0 hsep hj0 U U kr U (fun _ _ hj=>gH ty31 U (hj.nth (i:=0) U) U) ?_
 refine nD 2 hsep hj0 U U kr U (fun _ _ hj=>fK ty3 (N.a3.mono hj.1) U) ?_
 refine kh 1 3 kr U U ?_ ?_
 ·refine Cv [needCell bw wb ws.length wc] G [] Tryz.call40 hG (by simp) (fun h1 hle hsl=>lE h1 ws wb wc hsl ob) U (fun bb c G2 hG2=>?_)
  refine ⟨⟨HF.le_refl _,fun p hp=>by rw [List.mem_singleton.1 hp];exact List.mem_cons_self ..⟩,?_⟩
  refine tn 3 U (bK (cells:=[I person]) cN ty3 zc3 U U kr (fun bs=>?_))
  refine ⟨⟨HF.le_refl _,fun p hp=>by rw [List.mem_singleton.1 hp];exact List.mem_cons_of_mem _ (List.mem_cons_self ..)⟩,?_⟩
  refine tn 4 U (db Rp.fp ((bs,.cells [Value.int .i64 person].toArray 3 (0,0))::needCell bw wb ws.length wc::G) [] (fun G'=>((bs,.cells [Value.int .i64 person].toArray 3 (0,0))::needCell bw wb ws.length wc::G)++([]++G')) (by simp) (fun _=>U) cN ty3 zc3 U bytes3 hG2 U U
   (eI 0 rfl (show bD Rp.int h [I person] [person] from ⟨[I person],[],rfl,rfl,rfl,rfl⟩)) lo lo (fun bb3 c3 G3 hG3=>?_))
  refine ⟨⟨HF.le_refl _,fun p hp=>by rw [List.mem_singleton.1 hp];simp⟩,?_⟩
  refine tn 5 U (gI CI ?_)
  refine ⟨⟨HF.le_refl _,fun p hp=>by rw [List.mem_singleton.1 hp];simp⟩,?_⟩
  refine bv kr ?_
  exact hk (bs,bb3,c3,G3) _ hG3 rd
 ·refine bK (cells:=[I person]) cN ty3 zc3 U U kr (fun bs=>?_)
  refine ⟨⟨HF.le_refl _,fun p hp=>by rw [List.mem_singleton.1 hp];exact List.mem_cons_of_mem _ (List.mem_cons_self ..)⟩,?_⟩
  refine tn 1 U (Cv [(bs,.cells [Value.int .i64 person].toArray 3 (0,0)),needCell bw wb ws.length wc] G [] Tryz.call40 hG (by simp) (fun h1 hle hsl=>lE h1 ws wb wc hsl ob) U (fun bb c G2 hG2=>?_))
  refine ⟨⟨HF.le_refl _,fun p hp=>by rw [List.mem_singleton.1 hp];exact List.mem_cons_of_mem _ (List.mem_cons_self ..)⟩,?_⟩
  refine tn 4 U (db Rp.fp ((bs,.cells [Value.int .i64 person].toArray 3 (0,0))::needCell bw wb ws.length wc::G) [] (fun G'=>((bs,.cells [Value.int .i64 person].toArray 3 (0,0))::needCell bw wb ws.length wc::G)++([]++G')) (by simp) (fun _=>U) cN ty3 zc3 U bytes3 hG2 U U
   (eI 0 rfl (show bD Rp.int h [I person] [person] from ⟨[I person],[],rfl,rfl,rfl,rfl⟩)) lo lo (fun bb3 c3 G3 hG3=>?_))
  refine ⟨⟨HF.le_refl _,fun p hp=>by rw [List.mem_singleton.1 hp];simp⟩,?_⟩
  refine tn 5 U (gI CI ?_)
  refine ⟨⟨HF.le_refl _,fun p hp=>by rw [List.mem_singleton.1 hp];simp⟩,?_⟩
  refine bv kr ?_
  exact hk (bs,bb3,c3,G3) _ hG3 rd
theorem F0 (c:List Int→Bool) (help:List Int) (m i:Nat) (ws:List Int) (hi:i+(m+1)≤help.length):
  (List.range' i (help.length - m - i)).findSome? (fun i=>tryP c help m (i+1) (ws++[nthI help ((i:Nat):Int)])) =
   match tryP c help m (i+1) (ws++[nthI help ((i:Nat):Int)]) with
   | some r=>some r
   | none=>(List.range' (i+1) (help.length - m - (i+1))).findSome? fun i=>tryP c help m (i+1) (ws++[nthI help ((i:Nat):Int)]):=by
 rw [show help.length - m - i=(help.length - m - (i+1))+1 from by omega,List.range'_succ,List.findSome?_cons]
 cases tryP c help m (i+1) (ws++[nthI help ((i:Nat):Int)]) <;> rfl
theorem zt {h:HF} {q:aH} {ja:fS} {person at_:Int} {help:List Int} {hb:Option Addr} {hc:Nat} {q3 q4 q5 q6 q7:Addr} {bw:Nat} (N:BV h q ja person at_ help hb hc q3 q4 q5 q6 q7 bw):
  ∀ (m fr:Nat) (ws:List Int) (wb:Option Addr) (wc:Nat) (G:LH),eb Rp.int 3 h ws wb wc G→ws.length+m≤100→fr≤100 →
  oP Tryz.prog 39 ([Value.int .i64 (fr:Nat),Value.int .i64 ((m:Nat):Int)]++needClo q3 q4 q5 q6 q7 bw).toArray h (needCell bw wb ws.length wc::G) (needR h bw ws (tryP (needC q person at_) help m fr ws))
 | 0,fr,ws,wb,wc,G,hG,hws,_=>DP N fr ws wb wc G hG ob
 | m+1,fr,ws,wb,wc,G,hG,hws,hfr=>by
  have hle:=N.le
  refine ae E2 U Tryz.ntmps39 U fun X hM hX=>(qT 8 U (ai (v':=.bool false) U (by show Value.bool _=_;congr 1) (qO 9 U ?_)))
  refine aU (ι:=Option Addr×Nat×LH) (fun i=>[]) (fun i=>h) (fun i=>needCell bw i.1 ws.length i.2.1::i.2.2)
   (fun i=>tryP (needC q person at_) help (m+1) fr ws=none∧eb Rp.int 3 h ws i.1 i.2.1 i.2.2) ?_ (fun hx=>?_)
  ·rintro ⟨b1,c1,G1⟩ ⟨h1,h2⟩ e
   dsimp only at h1 h2
   refine qT 4 U ?_
   refine nC E2 (fun a ha w hw=>res1 U a ha w) (fun w hw=>hw.lower) ⟨hX,?_,b1,c1,G1,?_,?_⟩
   ·rw [h1];rfl
   ·rw [h1];exact h2
   ·rw [h1];rfl
  ·refine bG (ι:=Nat×Option Addr×Nat×LH) (fun i=>[(1,I ((m+1:Nat):Int)),(2,.pointer (some ⟨bw,0,none⟩)),(3,.pointer (some q3)),(4,.pointer (some q4)),(5,.pointer (some q5)),(6,.pointer (some q6)),(7,.pointer (some q7)),(12,I ((i.1:Nat):Int))]) (fun i=>h) (fun i=>needCell bw i.2.1 ws.length i.2.2.1::i.2.2.2)
    (fun i=>i.1≤100∧tryP (needC q person at_) help (m+1) fr ws=(List.range' i.1 (help.length - m - i.1)).findSome? (fun i=>tryP (needC q person at_) help m (i+1) (ws++[nthI help ((i:Nat):Int)]))∧eb Rp.int 3 h ws i.2.1 i.2.2.1 i.2.2.2)
    (fun i=>101 - i.1) (fr,wb,wc,G) rd (fun w hw=>hw) ⟨hfr,rfl,hG⟩ ?_
   rintro ⟨i,b1,c1,G1⟩ ⟨hi,ht,hG1⟩ ag e
   dsimp only at hi ht hG1
   refine qT 5 U (ai (v':=I ((i+(m+1):Nat):Int)) U (im ob) (dv ty31 N.a6 U (a8 cN U ?_)))
   rcases Nat.lt_or_ge help.length (i+(m+1)) with hlt | hge
   ·refine ai (v':=.bool false) U (cb (decide_eq_false ob)) (qO 3 U ?_)
    refine hx (b1,c1,G1) _ ⟨?_,hG1⟩ trivial
    rw [ht,show help.length - m - i=0 from by omega];rfl
   ·refine ai (v':=.bool true) U (cb (decide_eq_true ob)) (qO 3 U ?_)
    have hz:0≤((i:Nat):Int)∧((i:Nat):Int) < (help.length:Int):=by omega
    rw [F0 _ _ _ _ _ hge] at ht
    refine qT 2 U ?_
    refine em (AY (ι:=Option Addr×Nat×LH) (fun i'=>[(1,I ((m+1:Nat):Int)),(2,.pointer (some ⟨bw,0,none⟩)),(3,.pointer (some q3)),(4,.pointer (some q4)),(5,.pointer (some q5)),(6,.pointer (some q6)),(7,.pointer (some q7)),(12,I ((i:Nat):Int))])
     (fun i'=>needCell bw i'.1 (ws++[nthI help ((i:Nat):Int)]).length i'.2.1::i'.2.2) (fun i'=>eb Rp.int 3 h (ws++[nthI help ((i:Nat):Int)]) i'.1 i'.2.1 i'.2.2) ?_ (fun hk=>?_))
    ·rintro ⟨b2,c2,G2⟩ hG2 e
     dsimp only at hG2
     refine qT 3 U (dv ty90 N.a7 U (aB (ai (v':=I ((i+1:Nat):Int)) U (bz ob) (aB (ai (v':=I ((m:Nat):Int)) U (by rw [im ob];congr 1;omega) ?_)))))
     refine aN (uM [] (needCell bw b2 (ws++[nthI help ((i:Nat):Int)]).length c2::G2) U (kL (args:=[Value.int .i64 ((i+1:Nat):Int),Value.int .i64 ((m:Nat):Int)]) (cap:=needClo q3 q4 q5 q6 q7 bw) Tryz.call39 (zt N m (i+1) (ws++[nthI help ((i:Nat):Int)]) b2 c2 G2 hG2 (by rw [List.length_append,List.length_cons,List.length_nil];omega) ob)) U U (fun v h' B hl hR=>?_) (fun ch h' B hl hR=>by cases hR.2.1))
     obtain ⟨rfl,hv,b3,c3,G3,hG3,rfl⟩:=hR
     cases hv
     rw [List.nil_append]
     cases hr:tryP (needC q person at_) help m (i+1) (ws++[nthI help ((i:Nat):Int)]) with
     | some r=>
      rw [hr] at hG3 ht
      dsimp only [Option.getD] at hG3
      refine qO 6 U ?_
      refine nC E2 (fun a ha w hw=>res1 U a ha w) (fun w hw=>hw.lower) ⟨hX,?_,b3,c3,G3,?_,?_⟩
      ·rw [ht];rfl
      ·rw [ht];exact hG3
      ·rw [ht];rfl
     | none=>
      rw [hr] at hG3 ht
      dsimp only [Option.getD] at hG3
      refine qO 3 U ?_
      have hlen:(ws++[nthI help ((i:Nat):Int)]).length=ws.length+1:=by simp
      have htk:(ws++[nthI help ((i:Nat):Int)]).take ((ws.length:Nat):Int).toNat=ws:=by simp
      refine bU (aI 0 ty31 U U U (aI 0 ty31 U U U (a8 cN U (ai (v':=I ((ws.length:Nat):Int)) U (by dsimp only [Option.getD];rw [im ob];congr 1;omega) ?_))))
      refine aN (Ct (z:=((ws.length:Nat):Int)) cN ty3 hG3 ob U U U ?_)
      have hG4:=hG3.take ((ws.length:Nat):Int).toNat
      rw [htk] at hG4 ⊢
      refine dS 0 ty31 U U U U U U (qO 4 U (ai (v':=I ((i+1:Nat):Int)) U (bz ob) (an ?_)))
      exact ag (i+1,b3,c3,G3) _ (by show 101 - (i+1) < 101 - i;omega) ⟨by show i+1≤100;omega,ht,hG4⟩ rd
    ·refine fd [] mixed kr ⟨HF.le_refl _,fun p hp=>(List.not_mem_nil hp).elim⟩ (fun hsep hj0=>?_)
     refine nD 1 hsep hj0 U U kr U (fun _ _ hj=>fK ty31 (N.a6.mono hj.1) U) ?_
     refine nD 2 hsep hj0 U U kr U (fun _ _ _=>Hp) ?_
     refine eJ 3 (R:=Rp.int) (enc:=fun x=>[Value.int .i64 x]) hsep hj0 (fun _ _ _ hr=>hr) cN ty3 N.hh.1 hz (df hz) U U U U kr (fun qa A5=>?_)
     refine nD 4 hsep hj0 U U kr U (fun _ _ hj=>fK ty3 (A5.mono hj.1) U) ?_
     refine kh 0 5 kr U U ?_ ?_
     ·refine gI (gH ty31 U (List.mem_cons_self ..) U) ?_
      refine ⟨⟨HF.le_refl _,fun p hp=>(List.not_mem_nil hp).elim⟩,?_⟩
      refine tn 5 U (bK (cells:=[I (nthI help ((i:Nat):Int))]) cN ty3 zc3 U U kr (fun bs=>?_))
      refine ⟨⟨HF.le_refl _,fun p hp=>(List.not_mem_nil hp).elim⟩,?_⟩
      refine tn 6 U (db Rp.fp [(bs,.cells [Value.int .i64 (nthI help ((i:Nat):Int))].toArray 3 (0,0)),needCell bw b1 ws.length c1] [] (fun G'=>[(bs,.cells [Value.int .i64 (nthI help ((i:Nat):Int))].toArray 3 (0,0)),needCell bw b1 ws.length c1]++([]++G')) (by simp) (fun _=>U) cN ty3 zc3 U bytes3 hG1 U U
       (eI 0 rfl (show bD Rp.int h [I (nthI help ((i:Nat):Int))] [nthI help ((i:Nat):Int)] from ⟨[I (nthI help ((i:Nat):Int))],[],rfl,rfl,rfl,rfl⟩)) lo lo (fun b3 c3 G3 hG3=>?_))
      refine ⟨⟨HF.le_refl _,fun p hp=>(List.not_mem_nil hp).elim⟩,?_⟩
      refine tn 7 U (j6 1 ty31 U U U U U U ?_)
      refine ⟨⟨HF.le_refl _,fun p hp=>(List.not_mem_nil hp).elim⟩,?_⟩
      refine bv kr ?_
      refine cG (L':=needCell bw b3 (ws++[nthI help ((i:Nat):Int)]).length c3::G3) js ?_
      exact hk (b3,c3,G3) _ hG3 rd
     ·refine bK (cells:=[I (nthI help ((i:Nat):Int))]) cN ty3 zc3 U U kr (fun bs=>?_)
      refine ⟨⟨HF.le_refl _,fun p hp=>(List.not_mem_nil hp).elim⟩,?_⟩
      refine tn 0 U (gI (gH ty31 U (List.mem_cons_of_mem _ (List.mem_cons_self ..)) U) ?_)
      refine ⟨⟨HF.le_refl _,fun p hp=>(List.not_mem_nil hp).elim⟩,?_⟩
      refine tn 6 U (db Rp.fp [(bs,.cells [Value.int .i64 (nthI help ((i:Nat):Int))].toArray 3 (0,0)),needCell bw b1 ws.length c1] [] (fun G'=>[(bs,.cells [Value.int .i64 (nthI help ((i:Nat):Int))].toArray 3 (0,0)),needCell bw b1 ws.length c1]++([]++G')) (by simp) (fun _=>U) cN ty3 zc3 U bytes3 hG1 U U
       (eI 0 rfl (show bD Rp.int h [I (nthI help ((i:Nat):Int))] [nthI help ((i:Nat):Int)] from ⟨[I (nthI help ((i:Nat):Int))],[],rfl,rfl,rfl,rfl⟩)) lo lo (fun b3 c3 G3 hG3=>?_))
      refine ⟨⟨HF.le_refl _,fun p hp=>(List.not_mem_nil hp).elim⟩,?_⟩
      refine tn 7 U (j6 1 ty31 U U U U U U ?_)
      refine ⟨⟨HF.le_refl _,fun p hp=>(List.not_mem_nil hp).elim⟩,?_⟩
      refine bv kr ?_
      refine cG (L':=needCell bw b3 (ws++[nthI help ((i:Nat):Int)]).length c3::G3) js ?_
      exact hk (b3,c3,G3) _ hG3 rd
theorem kw (h:HF) (aR:Register) (cu:eB) (doc:Int) (person:Int) (aZ:Int) (known:Int) (ia:Register.ok h aR cu) (hsm:smR aR) (hk:Kinds h):
  je Tryz.prog 14 [.agg (Register.cells aR cu).toArray,I doc,I person,I aZ,I known] h (fun v h'=>∃ (rb0:Option Addr) (rc0:Nat),v=.tuple #[.slice rb0 ((aA aR doc person aZ known).1).length rc0,.bool ((aA aR doc person aZ known).2.1),I ((aA aR doc person aZ known).2.2)]∧SlC Rp.int h' rb0 rc0 ((aA aR doc person aZ known).1)):=by
 refine ae B5 U Tryz.ntmps14 U fun X hM hX=>(sr (dt (fun b5=>dt (fun b7=>dt (fun b8=>bR zc31 (fun b10=>qO 6 U (dl 3 ty30 U U U (au (v:=I (eX aR)) Tryz.call26 (sA h aR cu ia hsm hk) U (qO 2 U ?_)))))))))
 refine kC U (fun c1=>?_) (fun c1=>?_)
 ·have e1:aA aR doc person aZ known=([],false,300):=by unfold aA;rw [c1];rfl
  rw [e1]
  refine sr (dS 0 ty31 U U U U U U (qO 3 U ?_))
  exact cJ [.slice none 0 0,.bool false,I 300] B5 U ⟨⟨0,_,_,_,_,U,U,.inr ⟨_,ty31,U⟩⟩,U,U,trivial⟩ ⟨none,0,U,SlC.nil⟩
 refine qT 3 U (dl 3 ty30 U U U (qO 2 U (aN (cy Tryz.call27 (wV h aR cu doc known ia) U (fun v1 h1 hle1 hp1=>?_)))))
 obtain ⟨rr1,rfl,ok1⟩:=hp1
 refine qO 3 U (bR zc77 (fun b13=>bL 0 ty77 U U U U U U (qO 8 U ?_)))
 refine tq 3 [(7,Q b7),(8,Q b8),(10,Q b10),(13,Q b13),(32,.bool ((!((cU aR doc known).2))||decide (person < 0)))] (fun hk1=>?_) (fun e=>?_)
 ·refine ac 29 U (fun c2=>?_) (fun c2=>?_)
  ·refine qO 3 U ?_
   exact hk1 _ ⟨U,U,U,U,(cb (dW c2)),trivial⟩
  ·refine aI 3 ty3 U U U (qO 2 U ?_)
   exact hk1 _ ⟨U,U,U,U,(cb (dX c2)),trivial⟩
 refine aB ?_
 refine tq 3 [(7,Q b7),(8,Q b8),(10,Q b10),(13,Q b13),(36,.bool (((!((cU aR doc known).2))||decide (person < 0))||decide (64≤person)))] (fun hk1=>?_) (fun e=>?_)
 ·refine ac 33 U (fun c2=>?_) (fun c2=>?_)
  ·refine qO 3 U ?_
   exact hk1 _ ⟨U,U,U,U,(cb (dW c2)),trivial⟩
  ·refine aI 3 ty3 U U U (qO 2 U ?_)
   exact hk1 _ ⟨U,U,U,U,(cb (dX c2)),trivial⟩
 refine aB ?_
 refine tq 4 [(7,Q b7),(8,Q b8),(10,Q b10),(13,Q b13),(41,.bool ((((!((cU aR doc known).2))||decide (person < 0))||decide (64≤person))||(!(iY aZ))))] (fun hk1=>?_) (fun e=>?_)
 ·refine ac 37 U (fun c2=>?_) (fun c2=>?_)
  ·refine qO 4 U ?_
   exact hk1 _ ⟨U,U,U,U,(cb (dW c2)),trivial⟩
  ·refine aI 2 ty3 U U U (au (v:=.bool (iY aZ)) Tryz.call37 (vx h1 aZ) U (qO 2 U ?_))
   exact hk1 _ ⟨U,U,U,U,(cb (dX c2)),trivial⟩
 refine bh ?_
 refine kC U (fun c3=>?_) (fun c3=>?_)
 ·have e1:aA aR doc person aZ known=([],false,1):=by unfold aA;rw [c1,c3];rfl
  rw [e1]
  refine sr (dS 1 ty31 U U U U U U (qO 3 U ?_))
  exact cJ [.slice none 0 0,.bool false,I 1] B5 U ⟨⟨1,_,_,_,_,U,U,.inr ⟨_,ty31,U⟩⟩,U,U,trivial⟩ ⟨none,0,U,SlC.nil⟩
 have a_:=asked (r:=aR) (doc:=doc) (known:=known) (by simpa using c1) (by simp only [Bool.or_eq_false_iff,Bool.not_eq_false'] at c3;exact c3.1.1.1)
 have hsm2:smR (cU aR doc known).1.Register:=by rw [a_.reg];exact hsm
 have hov2:okV (cU aR doc known).1.Register.Versions:=by rw [a_.reg];exact a_.vers.okV
 have hod2:(0≤(cU aR doc known).1.doc.At∧(cU aR doc known).1.doc.At≤1099511627776)∧0≤(cU aR doc known).1.doc.Kind:=⟨⟨a_.doc.at_.1,Int.le_of_lt a_.doc.at_.2⟩,a_.doc.kind.1⟩
 have e0:aA aR doc person aZ known=bif decide (12 < (((av (cU aR doc known).1 person aZ).length:Nat):Int)) then (([],false,2):List Int×Bool×Int)
   else match needLoop (needC (cU aR doc known).1 person aZ) (av (cU aR doc known).1 person aZ) with
    | some l=>((l,true,0):List Int×Bool×Int)
    | none=>([],false,0):=by unfold aA;rw [c1,c3];rfl
 rw [e0]
 generalize (cU aR doc known).1=q at *
 refine qT 3 U (dl 0 ty77 U U U (aI 3 ty3 U U U (aI 2 ty3 U U U (aN (cy Tryz.call38 (rE h1 q rr1 person aZ ok1 hsm2 hov2 hod2 (hk.mono hle1)) U (fun v2 h2 hle2 hp2=>?_))))))
 obtain ⟨hb,hc,rfl,slh⟩:=hp2
 generalize av q person aZ=help at *
 refine bR zc31 (fun b14=>dS 0 ty31 U U U U U U (qO 4 U (aI 0 ty31 U U U (a8 cN U (qO 2 U ?_)))))
 refine kC U (fun c4=>?_) (fun c4=>?_)
 ·rw [show decide (12 < ((help.length:Nat):Int))=true from c4,cond_true]
  refine sr (dS 2 ty31 U U U U U U (qO 3 U ?_))
  exact cJ [.slice none 0 0,.bool false,I 2] B5 U ⟨⟨2,_,_,_,_,U,U,.inr ⟨_,ty31,U⟩⟩,U,U,trivial⟩ ⟨none,0,U,SlC.nil⟩
 rw [show decide (12 < ((help.length:Nat):Int))=false from c4,cond_false]
 have hlen:help.length≤12:=by have:=of_decide_eq_false c4;omega
 refine qT 3 U (bR zc90 (fun b15=>qO 3 U (aN (gg U U (dS 0 ty90 U U U U U U (bh ?_))))))
 refine e6 0 U hM (fun h3 l3 f15=>e6 0 U hM (fun h4 l4 f14=>e6 0 U hM (fun h5 l5 f13=>e6 1 U hM (fun h6 l6 f8=>e6 1 U hM (fun h7 l7 f7=>?_)))))
 have l27:h2.le h7:=HF.le_trans l3 (l4.t (l5.t (l6.t l7)))
 have N:BV h7 q rr1 person aZ help hb hc ⟨b7,0,none⟩ ⟨b13,0,none⟩ ⟨b8,0,none⟩ ⟨b14,0,none⟩ ⟨b15,0,none⟩ b10:=
  ⟨ok1.mono (hle2.t l27),dN f7,(dN f13).mono (l6.t l7),(dN f8).mono l7,(dN f14).mono (l5.t (l6.t l7)),
   (dN f15).mono (l4.t (l5.t (l6.t l7))),slh.mono Rp.bi l27,hk.mono (hle1.t (hle2.t l27)),hsm2,hov2,hod2,hlen⟩
 refine cG (L':=[needCell b10 none 0 0]) js (qT 3 U (dv ty31 N.a6 U (a8 cN U (ai (v':=I ((help.length+1:Nat):Int)) U (bz ob) (qO 2 U ?_)))))
 refine aU (ι:=Option Addr×Nat×LH) (fun i=>[(10,Q b10)]) (fun i=>h7) (fun i=>needCell b10 i.1 0 i.2.1::i.2.2) (fun i=>needLoop (needC q person aZ) help=none) ?_ (fun hx=>?_)
 ·rintro ⟨b1,c1,G1⟩ h1 e
  rw [show needLoop (needC q person aZ) help=none from h1]
  refine sr (dS 0 ty31 U U U U U U (qO 3 U ?_))
  exact cJ [.slice none 0 0,.bool false,I 0] B5 U ⟨⟨0,_,_,_,_,U,U,.inr ⟨_,ty31,U⟩⟩,U,U,trivial⟩ ⟨none,0,U,SlC.nil⟩
 refine bG (ι:=Nat×Option Addr×Nat×LH) (fun i=>[(10,Q b10),(15,Q b15),(52,I ((help.length+1:Nat):Int)),(53,I ((i.1:Nat):Int))]) (fun i=>h7) (fun i=>needCell b10 i.2.1 0 i.2.2.1::i.2.2.2)
  (fun i=>i.1≤help.length+1∧needLoop (needC q person aZ) help=(List.range' i.1 (help.length+1 - i.1)).findSome? (fun many=>tryP (needC q person aZ) help many 0 [])∧eb Rp.int 3 h7 [] i.2.1 i.2.2.1 i.2.2.2)
  (fun i=>help.length+1 - i.1) (0,none,0,[]) rd (fun w hw=>hw) ⟨Nat.zero_le _,rfl,eb.nil⟩ ?_
 rintro ⟨i,b1,c1,G1⟩ ⟨hi,ht,hG1⟩ ag e
 dsimp only at hi ht hG1
 rcases Nat.lt_or_ge i (help.length+1) with hlt | hge
 ·refine sr (ai (v':=.bool true) U (cb (decide_eq_true ob)) (qO 13 U (dv ty90 N.a7 U (aB ?_))))
  refine aN (uM [] (needCell b10 b1 0 c1::G1) U (kL (args:=[Value.int .i64 ((0:Nat):Int),Value.int .i64 ((i:Nat):Int)]) (cap:=needClo ⟨b7,0,none⟩ ⟨b13,0,none⟩ ⟨b8,0,none⟩ ⟨b14,0,none⟩ ⟨b15,0,none⟩ b10) Tryz.call39 (zt N i 0 [] b1 c1 G1 hG1 (by rw [List.length_nil];omega) ob)) U U (fun v h' B hl hR=>?_) (fun ch h' B hl hR=>by cases hR.2.1))
  obtain ⟨rfl,hv,b3,c3,G3,hG3,rfl⟩:=hR
  cases hv
  rw [List.nil_append]
  rw [show help.length+1 - i=(help.length+1 - (i+1))+1 from by omega,List.range'_succ,List.findSome?_cons] at ht
  cases hr:tryP (needC q person aZ) help i 0 [] with
  | some r=>
   rw [hr] at hG3 ht
   dsimp only [Option.getD] at hG3
   rw [ht]
   refine qO 4 U (aI 0 ty31 U U U (dS 0 ty31 U U U U U U (qO 3 U ?_)))
   refine eY Rp.bi [needCell b10 b3 r.length c3] G3 [] (by rw [List.append_nil];rfl) hM hG3 (fun h9 l9 sl9=>?_)
   exact cJ [.slice b3 r.length c3,.bool true,I 0] B5 U ⟨⟨0,_,_,_,_,U,U,.inr ⟨_,ty31,U⟩⟩,U,U,trivial⟩ ⟨b3,c3,U,sl9⟩
  | none=>
   rw [hr] at hG3 ht
   dsimp only [Option.getD] at hG3
   refine qO 5 U (ai (v':=I ((i+1:Nat):Int)) U (bz ob) (qO 2 U ?_))
   exact ag (i+1,b3,c3,G3) _ (by show help.length+1 - (i+1) < help.length+1 - i;omega) ⟨hlt,ht,hG3⟩ rd
 ·have hie:i=help.length+1:=by omega
  subst hie
  refine sr (ai (v':=.bool false) U (cb (decide_eq_false ob)) (qO 4 U ?_))
  refine hx (b1,c1,G1) _ ?_ rd
  show needLoop _ _=none
  rw [ht];simp
theorem sx (h:HF)   : je Tryz.prog 23 [] h (fun v h'=>∃ (rr0:eB),v=.agg (Register.cells (bM) rr0).toArray∧Register.ok h' (bM) rr0):=by
 refine ae Tryz.func23 U Tryz.ntmps23 U fun X hM hX=>?_
 have hs0:bM=bM:=rfl
 refine sr (bR zc30 (fun b1=>qO 3 U (aN (fq (cells:=[I 2,I 2,I 0,.string (⟨#[104,101,97,100]⟩:ByteArray),.slice none 0 0]) (places:=[(0,1),(1,1),(2,1),(3,1),(4,1)]) Tryz.underlying66 zc66 kr kr ?_))))
 refine bR zc66 (fun b2=>bL 0 ty66 U U U U U U (qO 3 U (aN (bK (cells:=[.string (⟨#[107]⟩:ByteArray)]) kB ty9 zc9 U U kr (fun b3=>aN (bK (cells:=[.string (⟨#[104,101,97,100]⟩:ByteArray)]) kB ty9 zc9 U U kr (fun b4=>?_)))))))
 refine dl 2 ty66 U U U (aN (fq (cells:=[.string (⟨#[107]⟩:ByteArray),I 0,I 5,I 2,I 2,I 0,.string (⟨#[104,101,97,100]⟩:ByteArray),.slice none 0 0]) (places:=[(0,1),(1,1),(2,1),(3,5)]) Tryz.underlying107 zc107 kr kr ?_))
 refine aN (bK (cells:=[.string (⟨#[107]⟩:ByteArray),I 0,I 5,I 2,I 2,I 0,.string (⟨#[104,101,97,100]⟩:ByteArray),.slice none 0 0]) jR ty107 zc107 U U kr (fun b5=>dl 3 ty66 U U U ?_))
 refine aN (fq (cells:=[.string (⟨#[112]⟩:ByteArray),.slice (some ⟨b3,0,none⟩) 1 1,.slice (some ⟨b4,0,none⟩) 1 1,.slice (some ⟨b5,0,none⟩) 1 1,I 2,I 2,I 0,.string (⟨#[104,101,97,100]⟩:ByteArray),.slice none 0 0,I 2]) (places:=[(0,1),(1,1),(2,1),(3,1),(4,5),(9,1)]) Ff zc68 kr kr ?_)
 refine bR zc68 (fun b6=>bL 0 ty68 U U U U U U (qO 3 U (aN (fq (cells:=[I 1,I 0,I 0,I 0,I 1,I 1,.bool false]) (places:=[(0,1),(1,1),(2,1),(3,1),(4,1),(5,1),(6,1)]) Fg zc59 kr kr ?_))))
 refine aN (fq (cells:=[I 2,I 0,I 0,I 0,I 2,I 1,.bool false]) (places:=[(0,1),(1,1),(2,1),(3,1),(4,1),(5,1),(6,1)]) Fg zc59 kr kr (aN (fq (cells:=[I 3,I 20,I 30,I 0,I 3,I 1,.bool false]) (places:=[(0,1),(1,1),(2,1),(3,1),(4,1),(5,1),(6,1)]) Fg zc59 kr kr ?_)))
 refine aN (bK (cells:=[I 1,I 0,I 0,I 0,I 1,I 1,.bool false,I 2,I 0,I 0,I 0,I 2,I 1,.bool false,I 3,I 20,I 30,I 0,I 3,I 1,.bool false]) nB ty59 zc59 U U kr (fun b7=>?_))
 refine dl 1 ty68 U U U (aN (fq (cells:=[I 7,I 0,I 0,.string (⟨#[112]⟩:ByteArray),.slice (some ⟨b3,0,none⟩) 1 1,.slice (some ⟨b4,0,none⟩) 1 1,.slice (some ⟨b5,0,none⟩) 1 1,I 2,I 2,I 0,.string (⟨#[104,101,97,100]⟩:ByteArray),.slice none 0 0,I 2]) (places:=[(0,1),(1,1),(2,1),(3,10)]) Tryz.underlying70 zc70 kr kr ?_))
 refine bX 4 U hM (fun h1 hle1 hb1=>?_)
 have sl1:SlC Rp.str h1 (some ⟨b3,0,none⟩) 1 ([(⟨#[107]⟩:ByteArray)]):=bD.slB0 (T:=9) (fz:=(0,0)) ((show bD Rp.str h [.string (⟨#[107]⟩:ByteArray)] ([(⟨#[107]⟩:ByteArray)]) from ⟨[.string (⟨#[107]⟩:ByteArray)],[],rfl,rfl,rfl,rfl⟩).mono Rp.gq hle1) hb1
 refine bX 3 U hM (fun h2 hle2 hb2=>?_)
 have sl2:SlC Rp.str h2 (some ⟨b4,0,none⟩) 1 ([(⟨#[104,101,97,100]⟩:ByteArray)]):=bD.slB0 (T:=9) (fz:=(0,0)) ((show bD Rp.str h1 [.string (⟨#[104,101,97,100]⟩:ByteArray)] ([(⟨#[104,101,97,100]⟩:ByteArray)]) from ⟨[.string (⟨#[104,101,97,100]⟩:ByteArray)],[],rfl,rfl,rfl,rfl⟩).mono Rp.gq hle2) hb2
 refine bX 2 U hM (fun h3 hle3 hb3=>?_)
 have sl3:SlC Rule.rp h3 (some ⟨b5,0,none⟩) 1 ([(Rule.mk (⟨#[107]⟩:ByteArray) 0 5 (Expr.mk 2 2 0 (⟨#[104,101,97,100]⟩:ByteArray) ([])))]):=bD.slB0 (T:=107) (fz:=(0,0)) ((show bD Rule.rp h2 [.string (⟨#[107]⟩:ByteArray),I 0,I 5,I 2,I 2,I 0,.string (⟨#[104,101,97,100]⟩:ByteArray),.slice none 0 0] ([(Rule.mk (⟨#[107]⟩:ByteArray) 0 5 (Expr.mk 2 2 0 (⟨#[104,101,97,100]⟩:ByteArray) ([])))]) from ⟨[.string (⟨#[107]⟩:ByteArray),I 0,I 5,I 2,I 2,I 0,.string (⟨#[104,101,97,100]⟩:ByteArray),.slice none 0 0],[],rfl,rfl,⟨(vz.mk (cE.mk none 0)),rfl,((show Rule.ok h (Rule.mk (⟨#[107]⟩:ByteArray) 0 5 (Expr.mk 2 2 0 (⟨#[104,101,97,100]⟩:ByteArray) ([]))) (vz.mk (cE.mk none 0)) from ⟨(show Expr.ok h (Expr.mk 2 2 0 (⟨#[104,101,97,100]⟩:ByteArray) ([])) (cE.mk none 0) from Expr.ok.of SlC.nil)⟩).mono (hle1.t hle2))⟩,rfl⟩).mono Rule.aD hle3) hb3
 refine aN (bK (cells:=[I 7,I 0,I 0,.string (⟨#[112]⟩:ByteArray),.slice (some ⟨b3,0,none⟩) 1 1,.slice (some ⟨b4,0,none⟩) 1 1,.slice (some ⟨b5,0,none⟩) 1 1,I 2,I 2,I 0,.string (⟨#[104,101,97,100]⟩:ByteArray),.slice none 0 0,I 2]) iN ty70 zc70 U U kr (fun b8=>?_))
 refine aN (bK (cells:=[I 6]) cN ty3 zc3 U U kr (fun b9=>aN (fq (cells:=[I 4,I 10,I 0,I 0,I 0,I 100,.slice (some ⟨b9,0,none⟩) 1 1,.slice none 0 0,.slice none 0 0,Y 0,Y 0,Y 0,Y 0,Y 0,Y 0,Y 0,Y 0,Y 0,Y 0,Y 0,Y 0,Y 0,Y 0,Y 0,Y 0,Y 0,Y 0,Y 0,Y 0,Y 0,Y 0,Y 0,Y 0,Y 0,Y 0,Y 0,Y 0,Y 0,Y 0,Y 0,Y 0]) (places:=[(0,1),(1,1),(2,1),(3,1),(4,1),(5,1),(6,1),(7,1),(8,1),(9,32)]) Tryz.underlying52 zc52 kr kr ?_)))
 refine bX 0 U hM (fun h4 hle4 hb4=>?_)
 have sl4:SlC Rp.int h4 (some ⟨b9,0,none⟩) 1 ([6]):=bD.slB0 (T:=3) (fz:=(0,0)) ((show bD Rp.int h3 [I 6] ([6]) from ⟨[I 6],[],rfl,rfl,rfl,rfl⟩).mono Rp.bi hle4) hb4
 refine aN (bK (cells:=[I 4,I 10,I 0,I 0,I 0,I 100,.slice (some ⟨b9,0,none⟩) 1 1,.slice none 0 0,.slice none 0 0,Y 0,Y 0,Y 0,Y 0,Y 0,Y 0,Y 0,Y 0,Y 0,Y 0,Y 0,Y 0,Y 0,Y 0,Y 0,Y 0,Y 0,Y 0,Y 0,Y 0,Y 0,Y 0,Y 0,Y 0,Y 0,Y 0,Y 0,Y 0,Y 0,Y 0,Y 0,Y 0]) lC ty52 zc52 U U kr (fun b10=>?_))
 refine aN (fq (cells:=[.slice (some ⟨b7,0,none⟩) 3 3,.slice none 0 0,.slice none 0 0,.slice none 0 0,.slice (some ⟨b8,0,none⟩) 1 1,.slice (some ⟨b10,0,none⟩) 1 1,.slice none 0 0]) (places:=[(0,1),(1,1),(2,1),(3,1),(4,1),(5,1),(6,1)]) Fh zc30 kr kr ?_)
 refine bL 5 ty30 U U U U U U (bh ?_)
 refine e6 2 U hM (fun h5 hle5 hb5=>?_)
 have sl5:SlC Appoint.rp h5 (some ⟨b7,0,none⟩) 3 ([(Appoint.mk 1 0 0 0 1 1 false),(Appoint.mk 2 0 0 0 2 1 false),(Appoint.mk 3 20 30 0 3 1 false)]):=bD.slB0 (T:=59) (fz:=(0,0)) ((show bD Appoint.rp h4 [I 1,I 0,I 0,I 0,I 1,I 1,.bool false,I 2,I 0,I 0,I 0,I 2,I 1,.bool false,I 3,I 20,I 30,I 0,I 3,I 1,.bool false] ([(Appoint.mk 1 0 0 0 1 1 false),(Appoint.mk 2 0 0 0 2 1 false),(Appoint.mk 3 20 30 0 3 1 false)]) from ⟨[I 1,I 0,I 0,I 0,I 1,I 1,.bool false],[I 2,I 0,I 0,I 0,I 2,I 1,.bool false,I 3,I 20,I 30,I 0,I 3,I 1,.bool false],rfl,rfl,rfl,⟨[I 2,I 0,I 0,I 0,I 2,I 1,.bool false],[I 3,I 20,I 30,I 0,I 3,I 1,.bool false],rfl,rfl,rfl,⟨[I 3,I 20,I 30,I 0,I 3,I 1,.bool false],[],rfl,rfl,rfl,rfl⟩⟩⟩).mono Appoint.aD hle5) hb5
 refine e6 1 U hM (fun h6 hle6 hb6=>?_)
 have sl6:SlC Version.rp h6 (some ⟨b8,0,none⟩) 1 ([(Version.mk 7 0 0 (Policy.mk (⟨#[112]⟩:ByteArray) ([(⟨#[107]⟩:ByteArray)]) ([(⟨#[104,101,97,100]⟩:ByteArray)]) ([(Rule.mk (⟨#[107]⟩:ByteArray) 0 5 (Expr.mk 2 2 0 (⟨#[104,101,97,100]⟩:ByteArray) ([])))]) (Expr.mk 2 2 0 (⟨#[104,101,97,100]⟩:ByteArray) ([])) 2))]):=bD.slB0 (T:=70) (fz:=(0,0)) ((show bD Version.rp h5 [I 7,I 0,I 0,.string (⟨#[112]⟩:ByteArray),.slice (some ⟨b3,0,none⟩) 1 1,.slice (some ⟨b4,0,none⟩) 1 1,.slice (some ⟨b5,0,none⟩) 1 1,I 2,I 2,I 0,.string (⟨#[104,101,97,100]⟩:ByteArray),.slice none 0 0,I 2] ([(Version.mk 7 0 0 (Policy.mk (⟨#[112]⟩:ByteArray) ([(⟨#[107]⟩:ByteArray)]) ([(⟨#[104,101,97,100]⟩:ByteArray)]) ([(Rule.mk (⟨#[107]⟩:ByteArray) 0 5 (Expr.mk 2 2 0 (⟨#[104,101,97,100]⟩:ByteArray) ([])))]) (Expr.mk 2 2 0 (⟨#[104,101,97,100]⟩:ByteArray) ([])) 2))]) from ⟨[I 7,I 0,I 0,.string (⟨#[112]⟩:ByteArray),.slice (some ⟨b3,0,none⟩) 1 1,.slice (some ⟨b4,0,none⟩) 1 1,.slice (some ⟨b5,0,none⟩) 1 1,I 2,I 2,I 0,.string (⟨#[104,101,97,100]⟩:ByteArray),.slice none 0 0,I 2],[],rfl,rfl,⟨(lv.mk (eE.mk (some ⟨b3,0,none⟩) 1 (some ⟨b4,0,none⟩) 1 (some ⟨b5,0,none⟩) 1 (cE.mk none 0))),rfl,((show Version.ok h3 (Version.mk 7 0 0 (Policy.mk (⟨#[112]⟩:ByteArray) ([(⟨#[107]⟩:ByteArray)]) ([(⟨#[104,101,97,100]⟩:ByteArray)]) ([(Rule.mk (⟨#[107]⟩:ByteArray) 0 5 (Expr.mk 2 2 0 (⟨#[104,101,97,100]⟩:ByteArray) ([])))]) (Expr.mk 2 2 0 (⟨#[104,101,97,100]⟩:ByteArray) ([])) 2)) (lv.mk (eE.mk (some ⟨b3,0,none⟩) 1 (some ⟨b4,0,none⟩) 1 (some ⟨b5,0,none⟩) 1 (cE.mk none 0))) from ⟨(show Policy.ok h3 (Policy.mk (⟨#[112]⟩:ByteArray) ([(⟨#[107]⟩:ByteArray)]) ([(⟨#[104,101,97,100]⟩:ByteArray)]) ([(Rule.mk (⟨#[107]⟩:ByteArray) 0 5 (Expr.mk 2 2 0 (⟨#[104,101,97,100]⟩:ByteArray) ([])))]) (Expr.mk 2 2 0 (⟨#[104,101,97,100]⟩:ByteArray) ([])) 2) (eE.mk (some ⟨b3,0,none⟩) 1 (some ⟨b4,0,none⟩) 1 (some ⟨b5,0,none⟩) 1 (cE.mk none 0)) from ⟨(sl1.mono Rp.gq (hle2.t hle3)),(sl2.mono Rp.gq hle3),sl3,(show Expr.ok h3 (Expr.mk 2 2 0 (⟨#[104,101,97,100]⟩:ByteArray) ([])) (cE.mk none 0) from Expr.ok.of SlC.nil)⟩)⟩).mono (hle4.t hle5))⟩,rfl⟩).mono Version.aD hle6) hb6
 refine e6 0 U hM (fun h7 hle7 hb7=>?_)
 have sl7:SlC Document.rp h7 (some ⟨b10,0,none⟩) 1 ([(Document.mk 4 10 0 0 0 100 ([6]) ([]) ([]) (fun _=>0))]):=bD.slB0 (T:=52) (fz:=(0,0)) ((show bD Document.rp h6 [I 4,I 10,I 0,I 0,I 0,I 100,.slice (some ⟨b9,0,none⟩) 1 1,.slice none 0 0,.slice none 0 0,Y 0,Y 0,Y 0,Y 0,Y 0,Y 0,Y 0,Y 0,Y 0,Y 0,Y 0,Y 0,Y 0,Y 0,Y 0,Y 0,Y 0,Y 0,Y 0,Y 0,Y 0,Y 0,Y 0,Y 0,Y 0,Y 0,Y 0,Y 0,Y 0,Y 0,Y 0,Y 0] ([(Document.mk 4 10 0 0 0 100 ([6]) ([]) ([]) (fun _=>0))]) from ⟨[I 4,I 10,I 0,I 0,I 0,I 100,.slice (some ⟨b9,0,none⟩) 1 1,.slice none 0 0,.slice none 0 0,Y 0,Y 0,Y 0,Y 0,Y 0,Y 0,Y 0,Y 0,Y 0,Y 0,Y 0,Y 0,Y 0,Y 0,Y 0,Y 0,Y 0,Y 0,Y 0,Y 0,Y 0,Y 0,Y 0,Y 0,Y 0,Y 0,Y 0,Y 0,Y 0,Y 0,Y 0,Y 0],[],rfl,rfl,⟨(il.mk (some ⟨b9,0,none⟩) 1 none 0 none 0),rfl,((show Document.ok h4 (Document.mk 4 10 0 0 0 100 ([6]) ([]) ([]) (fun _=>0)) (il.mk (some ⟨b9,0,none⟩) 1 none 0 none 0) from ⟨sl4,SlC.nil,SlC.nil⟩).mono (hle5.t hle6))⟩,rfl⟩).mono Document.aD hle7) hb7
 have hs1:bM=(Register.mk ([(Appoint.mk 1 0 0 0 1 1 false),(Appoint.mk 2 0 0 0 2 1 false),(Appoint.mk 3 20 30 0 3 1 false)]) ([]) ([]) ([]) ([(Version.mk 7 0 0 (Policy.mk (⟨#[112]⟩:ByteArray) ([(⟨#[107]⟩:ByteArray)]) ([(⟨#[104,101,97,100]⟩:ByteArray)]) ([(Rule.mk (⟨#[107]⟩:ByteArray) 0 5 (Expr.mk 2 2 0 (⟨#[104,101,97,100]⟩:ByteArray) ([])))]) (Expr.mk 2 2 0 (⟨#[104,101,97,100]⟩:ByteArray) ([])) 2))]) ([(Document.mk 4 10 0 0 0 100 ([6]) ([]) ([]) (fun _=>0))]) ([])):=hs0
 exact cJ [.agg (List.toArray [.slice (some ⟨b7,0,none⟩) 3 3,.slice none 0 0,.slice none 0 0,.slice none 0 0,.slice (some ⟨b8,0,none⟩) 1 1,.slice (some ⟨b10,0,none⟩) 1 1,.slice none 0 0])] Tryz.func23 U ⟨⟨2,_,_,_,_,U,U,.inl ⟨ty30,U⟩⟩,trivial⟩ ⟨(eB.mk (some ⟨b7,0,none⟩) 3 none 0 none 0 none 0 (some ⟨b8,0,none⟩) 1 (some ⟨b10,0,none⟩) 1 none 0),congrArg (fun r:Register=>(.agg (Register.cells r (eB.mk (some ⟨b7,0,none⟩) 3 none 0 none 0 none 0 (some ⟨b8,0,none⟩) 1 (some ⟨b10,0,none⟩) 1 none 0)).toArray:Value)) hs1.symm,(by rw [hs1];exact (show Register.ok h7 (Register.mk ([(Appoint.mk 1 0 0 0 1 1 false),(Appoint.mk 2 0 0 0 2 1 false),(Appoint.mk 3 20 30 0 3 1 false)]) ([]) ([]) ([]) ([(Version.mk 7 0 0 (Policy.mk (⟨#[112]⟩:ByteArray) ([(⟨#[107]⟩:ByteArray)]) ([(⟨#[104,101,97,100]⟩:ByteArray)]) ([(Rule.mk (⟨#[107]⟩:ByteArray) 0 5 (Expr.mk 2 2 0 (⟨#[104,101,97,100]⟩:ByteArray) ([])))]) (Expr.mk 2 2 0 (⟨#[104,101,97,100]⟩:ByteArray) ([])) 2))]) ([(Document.mk 4 10 0 0 0 100 ([6]) ([]) ([]) (fun _=>0))]) ([])) (eB.mk (some ⟨b7,0,none⟩) 3 none 0 none 0 none 0 (some ⟨b8,0,none⟩) 1 (some ⟨b10,0,none⟩) 1 none 0) from ⟨(sl5.mono Appoint.aD (hle6.t hle7)),SlC.nil,SlC.nil,SlC.nil,(sl6.mono Version.aD hle7),sl7,SlC.nil⟩))⟩
theorem tW (h:HF) (a:(List Span)) (It:Option Addr) (Is:Nat) (fP:(List Span)) (sO:Option Addr) (sN:Nat) (ha:SlC Span.rp h It Is a) (qN:SlC Span.rp h sO sN fP):Ret Tryz.prog 12 [.slice It a.length Is,.slice sO fP.length sN] h (.bool (eR a fP)):=by
 refine ae El U Tryz.ntmps12 U fun X hM hX=>?_
 have hs0:eR a fP=eR a fP:=rfl
 refine qT 8 U (a8 oe U (aB (a8 oe U (qO 2 U ?_))))
 refine ak hs0 U (fun c1 hs1=>?_) (fun c1 hs2=>?_)
 ·refine qT 4 U ?_
  exact ah [.bool false] El U hX rd (cs hs1)
 ·refine qT 6 U ?_
  refine aU (ι:=Nat) (fun i=>[]) (fun i=>h) (fun i=>[]) (fun i=>i≤a.length∧eR a fP=((eR.K1))) ?_ (fun hx1=>?_)
  ·rintro i1 ⟨aP,hs4⟩ e
   try dsimp only at aP
   refine qT 4 U ?_
   exact ah [.bool true] El U hX rd (cs hs4)
  ·refine bG (ι:=Nat×List Span) (fun i=>[(0,.slice It a.length Is),(1,.slice sO fP.length sN),(5,I ((i.1:Nat):Int))]) (fun i=>h) (fun i=>[]) (fun i=>a.drop i.1=i.2∧i.1≤a.length∧eR a fP=((eR.L1 fP (eR.K1)) i.2 i.1)) (fun i=>i.2.length) (0,a) rd sw ⟨U,Nat.zero_le _,hs2⟩ ?_
   rintro ⟨i1,s1⟩ ⟨hd1,aP,hs6⟩ ag1 e
   try dsimp only at hd1 aP
   rcases s1 with _ | ⟨y1,rz1⟩
   ·have dr:=cw hd1
    refine qT 5 U (a8 oe U (ai (v':=.bool false) U (cb dr) (qO 3 U ?_)))
    exact hx1 i1 _ ⟨aP,hs6⟩ trivial
   ·have dq:=dy hd1
    have aM:=cA hd1
    have ey:=aE hd1
    have gi:=ha.1.1
    refine qT 5 U (a8 oe U (ai (v':=.bool true) U (cb dq) (qO 6 U ?_)))
    refine fd ([]) mixed kr jn (fun dU _=>(qA [0,1] U (eJ 2 (enc:=Span.cells) dU jn (fun _ _ _ e=>e) oe ty46 ha.1 (nthZ aM) (aV aM) U U U U kr (fun q3 A3=>?_))))
    refine tf 3 U U (fun _ _ hj=>jK ty46 (A3.mono hj.1) U U) (qA [4,5] U ?_)
    have ho2:0≤(((i1:Nat):Int):Int)∧(((i1:Nat):Int):Int) < ((fP).length:Int):=ob
    refine eJ 6 (enc:=Span.cells) dU jn (fun _ _ _ e=>e) oe ty46 qN.1 ho2 (df ho2) U U U U kr (fun q4 A4=>tf 7 U U (fun _ _ hj=>jK ty46 (A4.mono hj.1) U U) ?_)
    refine tf 8 U U (fun _ _ _=>J5 (Ic y1 (nthI fP ((i1:Nat):Int))) eqg46 U U) (bv kr ?_)
    refine ak hs6 U (fun c3 hs8=>?_) (fun c3 hs9=>?_)
    ·refine qT 4 U ?_
     exact ah [.bool false] El U hX rd (cs hs8)
    ·refine qT 4 U (ai (v':=I (((i1+1):Nat):Int)) U (bz ob) (an ?_))
     exact ag1 ((i1+1),rz1) _ (Nat.lt_succ_self _) ⟨ba hd1,aE hd1,hs9⟩ rd
theorem jI (h:HF) (aR:Register) (cu:eB) (known:Int) (who:(List Int)) (fo:Option Addr) (fm:Nat) (want:(List Span)) (DU:Option Addr) (DT:Nat) (ia:Register.ok h aR cu) (hwho:SlC Rp.int h fo fm who) (hwant:SlC Span.rp h DU DT want) (hsm:smR aR) (hsw:who.length≤2000000) (hk:Kinds h):Ret Tryz.prog 24 [.agg (Register.cells aR cu).toArray,I known,.slice fo who.length fm,.slice DU want.length DT] h (.bool (sv aR known who want)):=by
 refine ae Tryz.func24 U Tryz.ntmps24 U fun X hM hX=>?_
 have hs0:sv aR known who want=sv aR known who want:=rfl
 refine sr (dt (fun b1=>qO 4 U (dl 0 ty30 U U U (qO 2 U (aN (cy xz (jx h aR cu 4 who fo fm known ia hwho ob ob hk) U (fun v1 h1 hle1 hp1=>?_)))))))
 obtain ⟨rb1,rc1,rfl,sl1⟩:=hp1
 refine qO 11 U ?_
 refine ar 4 [20,21,22,23,24] 24 (.bool (((bd aR 4 who known).2==0)&&(eR ((bd aR 4 who known).1) want))) (fun hk1=>?_) (fun e=>?_)
 ·refine ac 20 U (fun c1=>?_) (fun c1=>?_)
  ·refine qO 2 U (au (v:=.bool (eR ((bd aR 4 who known).1) want)) Tryz.call12 (tW h1 ((bd aR 4 who known).1) rb1 rc1 want DU DT sl1 (hwant.mono Span.aD hle1)) U (eH U ?_))
   exact hk1 _ (cb (cB c1))
  ·refine qO 4 U ?_
   exact hk1 _ (cb (cC c1))
 refine an ?_
 exact ah [.bool (((bd aR 4 who known).2==0)&&(eR ((bd aR 4 who known).1) want))] Tryz.func24 U hX rd (cs hs0)
theorem zL (h:HF)  (hk:Kinds h):Ret Tryz.prog 8 [] h (.bool (mV)):=by
 refine ae Tryz.func8 U Tryz.ntmps8 U fun X hM hX=>?_
 have hs0:mV=mV:=rfl
 refine qT 6 U (aN (cy Tryz.call23 (sx h  ) U (fun v1 h1 hle1 hp1=>?_)))
 obtain ⟨rr1,rfl,ok1⟩:=hp1
 refine bR zc30 (fun b1=>bL 0 ty30 U U U U U U (qO 3 U (aN (fq (cells:=[.slice none 0 0,.slice none 0 0,.slice none 0 0,.slice none 0 0,.slice none 0 0,.slice none 0 0,.slice none 0 0]) (places:=[(0,1),(1,1),(2,1),(3,1),(4,1),(5,1),(6,1)]) Fh zc30 kr kr ?_))))
 refine aN (cy xz (jx h1 (Register.mk ([]) ([]) ([]) ([]) ([]) ([]) ([])) (eB.mk none 0 none 0 none 0 none 0 none 0 none 0 none 0) 0 ([]) none 0 0 (show Register.ok h1 (Register.mk ([]) ([]) ([]) ([]) ([]) ([]) ([])) (eB.mk none 0 none 0 none 0 none 0 none 0 none 0 none 0) from ⟨SlC.nil,SlC.nil,SlC.nil,SlC.nil,SlC.nil,SlC.nil,SlC.nil⟩) SlC.nil lY ob (hk.mono hle1)) U (fun v2 h2 hle2 hp2=>?_))
 rw [show (bd (Register.mk ([]) ([]) ([]) ([]) ([]) ([]) ([])) 0 ([]) 0)=([],1) from by kernel_rfl] at hp2
 obtain ⟨rb1,rc1,rfl,sl1⟩:=hp2
 refine qO 8 U (aN (fq (cells:=[.slice none 0 0,.slice none 0 0,.slice none 0 0,.slice none 0 0,.slice none 0 0,.slice none 0 0,.slice none 0 0]) (places:=[(0,1),(1,1),(2,1),(3,1),(4,1),(5,1),(6,1)]) Fh zc30 kr kr ?_))
 refine aN (cy B4 (kw h2 (Register.mk ([]) ([]) ([]) ([]) ([]) ([]) ([])) (eB.mk none 0 none 0 none 0 none 0 none 0 none 0 none 0) 0 0 0 0 (show Register.ok h2 (Register.mk ([]) ([]) ([]) ([]) ([]) ([]) ([])) (eB.mk none 0 none 0 none 0 none 0 none 0 none 0 none 0) from ⟨SlC.nil,SlC.nil,SlC.nil,SlC.nil,SlC.nil,SlC.nil,SlC.nil⟩) lY (hk.mono (hle1.t hle2))) U (fun v3 h3 hle3 hp3=>?_))
 rw [show (aA (Register.mk ([]) ([]) ([]) ([]) ([]) ([]) ([])) 0 0 0 0)=([],false,1) from by kernel_rfl] at hp3
 obtain ⟨rb2,rc2,rfl,sl2⟩:=hp3
 refine qO 10 U (aN (fq (cells:=[I 0,I 0,I 0,I 0,I 0,I 0,.bool false]) (places:=[(0,1),(1,1),(2,1),(3,1),(4,1),(5,1),(6,1)]) Fg zc59 kr kr ?_))
 refine aN (bK (cells:=[I 0,I 0,I 0,I 0,I 0,I 0,.bool false]) nB ty59 zc59 U U kr (fun b2=>aN (fq (cells:=[.slice (some ⟨b2,0,none⟩) 1 1,.slice none 0 0,.slice none 0 0,.slice none 0 0,.slice none 0 0,.slice none 0 0,.slice none 0 0]) (places:=[(0,1),(1,1),(2,1),(3,1),(4,1),(5,1),(6,1)]) Fh zc30 kr kr ?_)))
 refine bX 0 U hM (fun h4 hle4 hb1=>?_)
 have sl3:SlC Appoint.rp h4 (some ⟨b2,0,none⟩) 1 ([(Appoint.mk 0 0 0 0 0 0 false)]):=bD.slB0 (T:=59) (fz:=(0,0)) ((show bD Appoint.rp h3 [I 0,I 0,I 0,I 0,I 0,I 0,.bool false] ([(Appoint.mk 0 0 0 0 0 0 false)]) from ⟨[I 0,I 0,I 0,I 0,I 0,I 0,.bool false],[],rfl,rfl,rfl,rfl⟩).mono Appoint.aD hle4) hb1
 refine aN (cy xz (jx h4 (Register.mk ([(Appoint.mk 0 0 0 0 0 0 false)]) ([]) ([]) ([]) ([]) ([]) ([])) (eB.mk (some ⟨b2,0,none⟩) 1 none 0 none 0 none 0 none 0 none 0 none 0) 0 ([]) none 0 0 (show Register.ok h4 (Register.mk ([(Appoint.mk 0 0 0 0 0 0 false)]) ([]) ([]) ([]) ([]) ([]) ([])) (eB.mk (some ⟨b2,0,none⟩) 1 none 0 none 0 none 0 none 0 none 0 none 0) from ⟨sl3,SlC.nil,SlC.nil,SlC.nil,SlC.nil,SlC.nil,SlC.nil⟩) SlC.nil lY ob (hk.mono (((hle1.t hle2).t hle3).t hle4))) U (fun v4 h5 hle5 hp4=>?_))
 rw [show (bd (Register.mk ([(Appoint.mk 0 0 0 0 0 0 false)]) ([]) ([]) ([]) ([]) ([]) ([])) 0 ([]) 0)=([],300) from by kernel_rfl] at hp4
 obtain ⟨rb3,rc3,rfl,sl4⟩:=hp4
 refine qO 8 U (dl 0 ty30 U U U (aN (bK (cells:=[I 2,I 1]) cN ty3 zc3 U U kr (fun b3=>bX 0 U hM (fun h6 hle6 hb2=>?_)))))
 have sl5:SlC Rp.int h6 (some ⟨b3,0,none⟩) 2 ([2,1]):=bD.slB0 (T:=3) (fz:=(0,0)) ((show bD Rp.int h5 [I 2,I 1] ([2,1]) from ⟨[I 2],[I 1],rfl,rfl,rfl,⟨[I 1],[],rfl,rfl,rfl,rfl⟩⟩).mono Rp.bi hle6) hb2
 refine aN (cy xz (jx h6 bM rr1 4 ([2,1]) (some ⟨b3,0,none⟩) 2 0 (ok1.mono ((((hle2.t hle3).t hle4).t hle5).t hle6)) sl5 lY ob (hk.mono (((((hle1.t hle2).t hle3).t hle4).t hle5).t hle6))) U (fun v5 h7 hle7 hp5=>?_))
 rw [show (bd bM 4 ([2,1]) 0)=([],1) from by kernel_rfl] at hp5
 obtain ⟨rb4,rc4,rfl,sl6⟩:=hp5
 refine qO 8 U (dl 0 ty30 U U U (aN (cy B4 (kw h7 bM rr1 4 3 20 30 (ok1.mono (((((hle2.t hle3).t hle4).t hle5).t hle6).t hle7)) lY (hk.mono ((((((hle1.t hle2).t hle3).t hle4).t hle5).t hle6).t hle7))) U (fun v6 h8 hle8 hp6=>?_))))
 rw [show (aA bM 4 3 20 30)=([1],true,0) from by kernel_rfl] at hp6
 obtain ⟨rb5,rc5,rfl,sl7⟩:=hp6
 refine qO 10 U (dl 0 ty30 U U U (aN (cy B4 (kw h8 bM rr1 4 3 20 29 (ok1.mono ((((((hle2.t hle3).t hle4).t hle5).t hle6).t hle7).t hle8)) lY (hk.mono (((((((hle1.t hle2).t hle3).t hle4).t hle5).t hle6).t hle7).t hle8))) U (fun v7 h9 hle9 hp7=>?_))))
 rw [show (aA bM 4 3 20 29)=([1,2],true,0) from by kernel_rfl] at hp7
 obtain ⟨rb6,rc6,rfl,sl8⟩:=hp7
 refine qO 10 U (dl 0 ty30 U U U (aN (cy B4 (kw h9 bM rr1 4 1 14 30 (ok1.mono (((((((hle2.t hle3).t hle4).t hle5).t hle6).t hle7).t hle8).t hle9)) lY (hk.mono ((((((((hle1.t hle2).t hle3).t hle4).t hle5).t hle6).t hle7).t hle8).t hle9))) U (fun v8 h10 hle10 hp8=>?_))))
 rw [show (aA bM 4 1 14 30)=([],false,0) from by kernel_rfl] at hp8
 obtain ⟨rb7,rc7,rfl,sl9⟩:=hp8
 refine qO 10 U (dl 0 ty30 U U U (aN (cy B4 (kw h10 bM rr1 4 1 15 30 (ok1.mono ((((((((hle2.t hle3).t hle4).t hle5).t hle6).t hle7).t hle8).t hle9).t hle10)) lY (hk.mono (((((((((hle1.t hle2).t hle3).t hle4).t hle5).t hle6).t hle7).t hle8).t hle9).t hle10))) U (fun v9 h11 hle11 hp9=>?_))))
 rw [show (aA bM 4 1 15 30)=([2],true,0) from by kernel_rfl] at hp9
 obtain ⟨rb8,rc8,rfl,sl10⟩:=hp9
 refine qO 63 U (a8 cN U (qO 3 U ?_))
 have ho1:0≤(0:Int)∧(0:Int) < (([1]).length:Int):=(by decide)
 refine aN (eU (enc:=fun y=>[I y]) (fun _ _ _ e=>e) cN ty3 (sl7.mono Rp.bi ((hle9.t hle10).t hle11)).1 ho1 (df ho1) U U U (fun q1 A1=>dv ty3 A1 U (qO 4 U (a8 cN U (qO 4 U ?_)))))
 have ho2:0≤(0:Int)∧(0:Int) < (([2]).length:Int):=(by decide)
 refine aN (eU (enc:=fun y=>[I y]) (fun _ _ _ e=>e) cN ty3 sl10.1 ho2 (df ho2) U U U (fun q2 A2=>dv ty3 A2 U (qO 4 U (a8 cN U (qO 4 U ?_)))))
 have ho3:0≤(0:Int)∧(0:Int) < (([1,2]).length:Int):=(by decide)
 refine aN (eU (enc:=fun y=>[I y]) (fun _ _ _ e=>e) cN ty3 (sl8.mono Rp.bi (hle10.t hle11)).1 ho3 (df ho3) U U U (fun q3 A3=>dv ty3 A3 U (qO 4 U ?_)))
 have ho4:0≤(1:Int)∧(1:Int) < (([1,2]).length:Int):=(by decide)
 refine aN (eU (enc:=fun y=>[I y]) (fun _ _ _ e=>e) cN ty3 (sl8.mono Rp.bi (hle10.t hle11)).1 ho4 (df ho4) U U U (fun q4 A4=>dv ty3 A4 U (qO 7 U (aN (fq (cells:=[I 15,I 100]) (places:=[(0,1),(1,1)]) Ad zc46 kr kr (bR zc46 (fun b4=>bL 0 ty46 U U U U U U (qO 4 U (dl 1 ty30 U U U ?_)))))))))
 refine aN (bK (cells:=[I 1,I 2]) cN ty3 zc3 U U kr (fun b5=>dl 1 ty46 U U U (aN (bK (cells:=[I 15,I 100]) oe ty46 zc46 U U kr (fun b6=>bX 1 U hM (fun h12 hle12 hb3=>?_))))))
 have sl11:SlC Rp.int h12 (some ⟨b5,0,none⟩) 2 ([1,2]):=bD.slB0 (T:=3) (fz:=(0,0)) ((show bD Rp.int h11 [I 1,I 2] ([1,2]) from ⟨[I 1],[I 2],rfl,rfl,rfl,⟨[I 2],[],rfl,rfl,rfl,rfl⟩⟩).mono Rp.bi hle12) hb3
 refine bX 0 U hM (fun h13 hle13 hb4=>?_)
 have sl12:SlC Span.rp h13 (some ⟨b6,0,none⟩) 1 ([(Span.mk 15 100)]):=bD.slB0 (T:=46) (fz:=(0,0)) ((show bD Span.rp h12 [I 15,I 100] ([(Span.mk 15 100)]) from ⟨[I 15,I 100],[],rfl,rfl,rfl,rfl⟩).mono Span.aD hle13) hb4
 refine au (v:=.bool true) zX (tV (jI h13 bM rr1 0 ([1,2]) (some ⟨b5,0,none⟩) 2 ([(Span.mk 15 100)]) (some ⟨b6,0,none⟩) 1 (ok1.mono (((((((((((hle2.t hle3).t hle4).t hle5).t hle6).t hle7).t hle8).t hle9).t hle10).t hle11).t hle12).t hle13)) (sl11.mono Rp.bi hle13) sl12 lY ob (hk.mono ((((((((((((hle1.t hle2).t hle3).t hle4).t hle5).t hle6).t hle7).t hle8).t hle9).t hle10).t hle11).t hle12).t hle13))) kr) U (qO 2 U (dl 1 ty30 U U U (aN (bK (cells:=[I 1,I 3]) cN ty3 zc3 U U kr (fun b7=>aN (fq (cells:=[I 20,I 100]) (places:=[(0,1),(1,1)]) Ad zc46 kr kr ?_))))))
 refine aN (bK (cells:=[I 20,I 100]) oe ty46 zc46 U U kr (fun b8=>bX 1 U hM (fun h14 hle14 hb5=>?_)))
 have sl13:SlC Rp.int h14 (some ⟨b7,0,none⟩) 2 ([1,3]):=bD.slB0 (T:=3) (fz:=(0,0)) ((show bD Rp.int h13 [I 1,I 3] ([1,3]) from ⟨[I 1],[I 3],rfl,rfl,rfl,⟨[I 3],[],rfl,rfl,rfl,rfl⟩⟩).mono Rp.bi hle14) hb5
 refine bX 0 U hM (fun h15 hle15 hb6=>?_)
 have sl14:SlC Span.rp h15 (some ⟨b8,0,none⟩) 1 ([(Span.mk 20 100)]):=bD.slB0 (T:=46) (fz:=(0,0)) ((show bD Span.rp h14 [I 20,I 100] ([(Span.mk 20 100)]) from ⟨[I 20,I 100],[],rfl,rfl,rfl,rfl⟩).mono Span.aD hle15) hb6
 refine au (v:=.bool true) zX (tV (jI h15 bM rr1 30 ([1,3]) (some ⟨b7,0,none⟩) 2 ([(Span.mk 20 100)]) (some ⟨b8,0,none⟩) 1 (ok1.mono (((((((((((((hle2.t hle3).t hle4).t hle5).t hle6).t hle7).t hle8).t hle9).t hle10).t hle11).t hle12).t hle13).t hle14).t hle15)) (sl13.mono Rp.bi hle15) sl14 lY ob (hk.mono ((((((((((((((hle1.t hle2).t hle3).t hle4).t hle5).t hle6).t hle7).t hle8).t hle9).t hle10).t hle11).t hle12).t hle13).t hle14).t hle15))) kr) U (qO 3 U (dl 1 ty30 U U U (aN (bK (cells:=[I 1,I 3]) cN ty3 zc3 U U kr (fun b9=>bX 0 U hM (fun h16 hle16 hb7=>?_))))))
 have sl15:SlC Rp.int h16 (some ⟨b9,0,none⟩) 2 ([1,3]):=bD.slB0 (T:=3) (fz:=(0,0)) ((show bD Rp.int h15 [I 1,I 3] ([1,3]) from ⟨[I 1],[I 3],rfl,rfl,rfl,⟨[I 3],[],rfl,rfl,rfl,rfl⟩⟩).mono Rp.bi hle16) hb7
 refine au (v:=.bool true) zX (tV (jI h16 bM rr1 29 ([1,3]) (some ⟨b9,0,none⟩) 2 ([]) none 0 (ok1.mono ((((((((((((((hle2.t hle3).t hle4).t hle5).t hle6).t hle7).t hle8).t hle9).t hle10).t hle11).t hle12).t hle13).t hle14).t hle15).t hle16)) sl15 SlC.nil lY ob (hk.mono (((((((((((((((hle1.t hle2).t hle3).t hle4).t hle5).t hle6).t hle7).t hle8).t hle9).t hle10).t hle11).t hle12).t hle13).t hle14).t hle15).t hle16))) kr) U (qO 3 U (dl 1 ty30 U U U (aN (bK (cells:=[I 9]) cN ty3 zc3 U U kr (fun b10=>bX 0 U hM (fun h17 hle17 hb8=>?_))))))
 have sl16:SlC Rp.int h17 (some ⟨b10,0,none⟩) 1 ([9]):=bD.slB0 (T:=3) (fz:=(0,0)) ((show bD Rp.int h16 [I 9] ([9]) from ⟨[I 9],[],rfl,rfl,rfl,rfl⟩).mono Rp.bi hle17) hb8
 refine au (v:=.bool true) zX (tV (jI h17 bM rr1 0 ([9]) (some ⟨b10,0,none⟩) 1 ([]) none 0 (ok1.mono (((((((((((((((hle2.t hle3).t hle4).t hle5).t hle6).t hle7).t hle8).t hle9).t hle10).t hle11).t hle12).t hle13).t hle14).t hle15).t hle16).t hle17)) sl16 SlC.nil lY ob (hk.mono ((((((((((((((((hle1.t hle2).t hle3).t hle4).t hle5).t hle6).t hle7).t hle8).t hle9).t hle10).t hle11).t hle12).t hle13).t hle14).t hle15).t hle16).t hle17))) kr) U (qO 3 U (dl 1 ty30 U U U (au (v:=.bool true) zX (tV (jI h17 bM rr1 0 ([]) none 0 ([]) none 0 (ok1.mono (((((((((((((((hle2.t hle3).t hle4).t hle5).t hle6).t hle7).t hle8).t hle9).t hle10).t hle11).t hle12).t hle13).t hle14).t hle15).t hle16).t hle17)) SlC.nil SlC.nil lY ob (hk.mono ((((((((((((((((hle1.t hle2).t hle3).t hle4).t hle5).t hle6).t hle7).t hle8).t hle9).t hle10).t hle11).t hle12).t hle13).t hle14).t hle15).t hle16).t hle17))) kr) U ?_)))
 refine qO 7 U (aN (fq (cells:=[I 1,I 40,I 0,I 2,I 6,.bool false,.bool false]) (places:=[(0,1),(1,1),(2,1),(3,1),(4,1),(5,1),(6,1)]) GR zc61 kr kr ?_))
 refine aN (fq (cells:=[I 2,I 50,I 0,I 2,I 6,.bool false,.bool true]) (places:=[(0,1),(1,1),(2,1),(3,1),(4,1),(5,1),(6,1)]) GR zc61 kr kr (aN (bK (cells:=[I 1,I 40,I 0,I 2,I 6,.bool false,.bool false,I 2,I 50,I 0,I 2,I 6,.bool false,.bool true]) kS ty61 zc61 U U kr (fun b11=>?_))))
 refine aj tb U (dS 2 ty24 U U U U U U (qO 3 U (aN (cy Tryz.call23 (sx h17  ) U (fun v10 h18 hle18 hp10=>?_)))))
 obtain ⟨rr2,rfl,ok2⟩:=hp10
 refine bR zc30 (fun b12=>bL 0 ty30 U U U U U U (qO 3 U (aj lV U (dS 0 ty26 U U U U U U (qO 3 U (dl 3 ty30 U U U (aN (bK (cells:=[I 1,I 2]) cN ty3 zc3 U U kr (fun b13=>?_)))))))))
 refine aN (fq (cells:=[I 15,I 40]) (places:=[(0,1),(1,1)]) Ad zc46 kr kr (aN (fq (cells:=[I 50,I 100]) (places:=[(0,1),(1,1)]) Ad zc46 kr kr ?_)))
 refine aN (bK (cells:=[I 15,I 40,I 50,I 100]) oe ty46 zc46 U U kr (fun b14=>bX 3 U hM (fun h19 hle19 hb9=>?_)))
 have sl17:SlC Interest.rp h19 (some ⟨b11,0,none⟩) 2 ([(Interest.mk 1 40 0 2 6 false false),(Interest.mk 2 50 0 2 6 false true)]):=bD.slB0 (T:=61) (fz:=(0,0)) ((show bD Interest.rp h18 [I 1,I 40,I 0,I 2,I 6,.bool false,.bool false,I 2,I 50,I 0,I 2,I 6,.bool false,.bool true] ([(Interest.mk 1 40 0 2 6 false false),(Interest.mk 2 50 0 2 6 false true)]) from ⟨[I 1,I 40,I 0,I 2,I 6,.bool false,.bool false],[I 2,I 50,I 0,I 2,I 6,.bool false,.bool true],rfl,rfl,rfl,⟨[I 2,I 50,I 0,I 2,I 6,.bool false,.bool true],[],rfl,rfl,rfl,rfl⟩⟩).mono Interest.aD hle19) hb9
 refine bX 1 U hM (fun h20 hle20 hb10=>?_)
 have sl18:SlC Rp.int h20 (some ⟨b13,0,none⟩) 2 ([1,2]):=bD.slB0 (T:=3) (fz:=(0,0)) ((show bD Rp.int h19 [I 1,I 2] ([1,2]) from ⟨[I 1],[I 2],rfl,rfl,rfl,⟨[I 2],[],rfl,rfl,rfl,rfl⟩⟩).mono Rp.bi hle20) hb10
 refine bX 0 U hM (fun h21 hle21 hb11=>?_)
 have sl19:SlC Span.rp h21 (some ⟨b14,0,none⟩) 2 ([(Span.mk 15 40),(Span.mk 50 100)]):=bD.slB0 (T:=46) (fz:=(0,0)) ((show bD Span.rp h20 [I 15,I 40,I 50,I 100] ([(Span.mk 15 40),(Span.mk 50 100)]) from ⟨[I 15,I 40],[I 50,I 100],rfl,rfl,rfl,⟨[I 50,I 100],[],rfl,rfl,rfl,rfl⟩⟩).mono Span.aD hle21) hb11
 refine au (v:=.bool true) zX (tV (jI h21 (Register.mk bM.Appoints bM.Deputies ([(Interest.mk 1 40 0 2 6 false false),(Interest.mk 2 50 0 2 6 false true)]) bM.Budgets bM.Versions bM.Docs bM.Approvals) (eB.mk rr1.iJ rr1.iI rr1.j5 rr1.j0 (some ⟨b11,0,none⟩) 2 rr1.kR rr1.kQ rr1.ig rr1.ie rr1.oT rr1.oS rr1.jB rr1.jA) 0 ([1,2]) (some ⟨b13,0,none⟩) 2 ([(Span.mk 15 40),(Span.mk 50 100)]) (some ⟨b14,0,none⟩) 2 (show Register.ok h21 (Register.mk bM.Appoints bM.Deputies ([(Interest.mk 1 40 0 2 6 false false),(Interest.mk 2 50 0 2 6 false true)]) bM.Budgets bM.Versions bM.Docs bM.Approvals) (eB.mk rr1.iJ rr1.iI rr1.j5 rr1.j0 (some ⟨b11,0,none⟩) 2 rr1.kR rr1.kQ rr1.ig rr1.ie rr1.oT rr1.oS rr1.jB rr1.jA) from ⟨(ok1.Appoints.mono Appoint.aD (((((((((((((((((((hle2.t hle3).t hle4).t hle5).t hle6).t hle7).t hle8).t hle9).t hle10).t hle11).t hle12).t hle13).t hle14).t hle15).t hle16).t hle17).t hle18).t hle19).t hle20).t hle21)),(ok1.Deputies.mono Deputy.aD (((((((((((((((((((hle2.t hle3).t hle4).t hle5).t hle6).t hle7).t hle8).t hle9).t hle10).t hle11).t hle12).t hle13).t hle14).t hle15).t hle16).t hle17).t hle18).t hle19).t hle20).t hle21)),(sl17.mono Interest.aD (hle20.t hle21)),(ok1.Budgets.mono Budget.aD (((((((((((((((((((hle2.t hle3).t hle4).t hle5).t hle6).t hle7).t hle8).t hle9).t hle10).t hle11).t hle12).t hle13).t hle14).t hle15).t hle16).t hle17).t hle18).t hle19).t hle20).t hle21)),(ok1.Versions.mono Version.aD (((((((((((((((((((hle2.t hle3).t hle4).t hle5).t hle6).t hle7).t hle8).t hle9).t hle10).t hle11).t hle12).t hle13).t hle14).t hle15).t hle16).t hle17).t hle18).t hle19).t hle20).t hle21)),(ok1.Docs.mono Document.aD (((((((((((((((((((hle2.t hle3).t hle4).t hle5).t hle6).t hle7).t hle8).t hle9).t hle10).t hle11).t hle12).t hle13).t hle14).t hle15).t hle16).t hle17).t hle18).t hle19).t hle20).t hle21)),(ok1.Approvals.mono Approval.aD (((((((((((((((((((hle2.t hle3).t hle4).t hle5).t hle6).t hle7).t hle8).t hle9).t hle10).t hle11).t hle12).t hle13).t hle14).t hle15).t hle16).t hle17).t hle18).t hle19).t hle20).t hle21))⟩) (sl18.mono Rp.bi hle21) sl19 lY ob (hk.mono ((((((((((((((((((((hle1.t hle2).t hle3).t hle4).t hle5).t hle6).t hle7).t hle8).t hle9).t hle10).t hle11).t hle12).t hle13).t hle14).t hle15).t hle16).t hle17).t hle18).t hle19).t hle20).t hle21))) kr) U ?_
 refine aB (dl 0 ty30 U U U (aN (bK (cells:=[I 1,I 2]) cN ty3 zc3 U U kr (fun b15=>bX 0 U hM (fun h22 hle22 hb12=>?_)))))
 have sl20:SlC Rp.int h22 (some ⟨b15,0,none⟩) 2 ([1,2]):=bD.slB0 (T:=3) (fz:=(0,0)) ((show bD Rp.int h21 [I 1,I 2] ([1,2]) from ⟨[I 1],[I 2],rfl,rfl,rfl,⟨[I 2],[],rfl,rfl,rfl,rfl⟩⟩).mono Rp.bi hle22) hb12
 refine au (v:=.bool true) zX (tV (jI h22 (Register.mk bM.Appoints bM.Deputies bM.Interests bM.Budgets ([]) bM.Docs bM.Approvals) (eB.mk rr2.iJ rr2.iI rr2.j5 rr2.j0 rr2.jz rr2.jy rr2.kR rr2.kQ none 0 rr2.oT rr2.oS rr2.jB rr2.jA) 0 ([1,2]) (some ⟨b15,0,none⟩) 2 ([]) none 0 (show Register.ok h22 (Register.mk bM.Appoints bM.Deputies bM.Interests bM.Budgets ([]) bM.Docs bM.Approvals) (eB.mk rr2.iJ rr2.iI rr2.j5 rr2.j0 rr2.jz rr2.jy rr2.kR rr2.kQ none 0 rr2.oT rr2.oS rr2.jB rr2.jA) from ⟨(ok2.Appoints.mono Appoint.aD (((hle19.t hle20).t hle21).t hle22)),(ok2.Deputies.mono Deputy.aD (((hle19.t hle20).t hle21).t hle22)),(ok2.Interests.mono Interest.aD (((hle19.t hle20).t hle21).t hle22)),(ok2.Budgets.mono Budget.aD (((hle19.t hle20).t hle21).t hle22)),SlC.nil,(ok2.Docs.mono Document.aD (((hle19.t hle20).t hle21).t hle22)),(ok2.Approvals.mono Approval.aD (((hle19.t hle20).t hle21).t hle22))⟩) sl20 SlC.nil lY ob (hk.mono (((((((((((((((((((((hle1.t hle2).t hle3).t hle4).t hle5).t hle6).t hle7).t hle8).t hle9).t hle10).t hle11).t hle12).t hle13).t hle14).t hle15).t hle16).t hle17).t hle18).t hle19).t hle20).t hle21).t hle22))) kr) U ?_
 refine qO 3 U ?_
 exact ah [.bool true] Tryz.func8 U hX rd (cs hs0)
theorem wW (rec:Expr→Int→Int) (h:HF) (x:Expr) (fb:cE) (limit:Int) (hrec:∀ (h:HF) (qx:Expr) (jp:cE) (qlimit:Int) (hqx:Expr.ok h qx jp) (_:qx.dep < x.dep),Ret Tryz.prog 50 [.agg (Expr.cells qx jp).toArray,I qlimit] h (I (rec qx qlimit))) (hx:Expr.ok h x fb):Ret Tryz.prog 50 [.agg (Expr.cells x fb).toArray,I limit] h (I (eF.F rec x limit)):=by
 refine ae Tryz.func50 U Tryz.ntmps50 U fun X hM hX=>?_
 have hs0:eF.F rec x limit=eF.F rec x limit:=rfl
 refine sr (dt (fun b1=>qO 11 U ?_))
 refine aU (ι:=Nat×Int) (fun i=>[(5,I i.2)]) (fun i=>h) (fun i=>[(b1,O (Expr.cells x fb) 66)]) (fun i=>i.1≤x.L.length∧eF.F rec x limit=((eF.K1) i.2)) ?_ (fun hx1=>?_)
 ·rintro ⟨i1,iO⟩ ⟨aP,hs1⟩ e
  try dsimp only at aP
  refine qT 5 U ?_
  exact ah [I iO] Tryz.func50 U hX rd (ci hs1)
 ·refine bG (ι:=Nat×Int×List Expr) (fun i=>[(1,I limit),(2,Q b1),(5,I i.2.1),(6,I ((i.1:Nat):Int))]) (fun i=>h) (fun i=>[(b1,O (Expr.cells x fb) 66)]) (fun i=>x.L.drop i.1=i.2.2∧i.1≤x.L.length∧eF.F rec x limit=((eF.L1 rec limit (eF.K1)) i.2.2 i.2.1)) (fun i=>i.2.2.length) (0,1,x.L) rd sw ⟨U,Nat.zero_le _,hs0⟩ ?_
  rintro ⟨i1,iO,s1⟩ ⟨hd1,aP,hs3⟩ ag1 e
  try dsimp only at hd1 aP
  rcases s1 with _ | ⟨y1,rz1⟩
  ·have dr:=cw hd1
   refine qT 4 U (aj dC U (aI 0 ty64 U U U (a8 ga U (ai (v':=.bool false) U (cb dr) (qO 8 U ?_)))))
   exact hx1 (i1,iO) _ ⟨aP,hs3⟩ rd
  ·have dq:=dy hd1
   have aM:=cA hd1
   have ey:=aE hd1
   have gi:=hx.list.1.1
   refine qT 4 U (aj dC U (aI 0 ty64 U U U (a8 ga U (ai (v':=.bool true) U (cb dq) (qO 6 U ?_)))))
   refine ak hs3 U (fun c2 hs5=>?_) (fun c2 hs6=>?_)
   ·have c2p:=of_decide_eq_true c2
    refine qT 5 U (aj dC U (aI 0 ty64 U U U (aB (aN (fF ga ty66 hx.list.1 (nthZ aM) (aV aM) U U U (fun q2 cs2 A2 ln2 rr2=>?_))))))
    obtain ⟨r2,rfl,ok2⟩:=rr2
    refine el ty66 A2 U U (qO 3 U (au (v:=I (rec y1 (IntKind.wrap .i64 (limit - iO)))) Tryz.call50 (hrec h y1 r2 (IntKind.wrap .i64 (limit - iO)) ok2 (Expr.hY (gx hd1))) U (qO 6 U (ai (v':=I (((i1+1):Nat):Int)) U (bz ob) (an ?_)))))
    exact ag1 ((i1+1),(IntKind.wrap .i64 (iO+(rec y1 (IntKind.wrap .i64 (limit - iO))))),rz1) _ (Nat.lt_succ_self _) ⟨ba hd1,aE hd1,hs5⟩ rd
   ·have c2p:=of_decide_eq_false c2
    refine m6 U ?_
    exact hx1 (i1,iO) _ ⟨aP,hs6⟩ rd
theorem pc:∀ (m:Nat) (h:HF) (x:Expr) (fb:cE) (limit:Int) (_:x.dep≤m) (hx:Expr.ok h x fb),Ret Tryz.prog 50 [.agg (Expr.cells x fb).toArray,I limit] h (I (eF.go m x limit))
 | 0,h,x,fb,limit,hd,hx=>absurd hd (Nat.not_le.2 (Expr.jV _))
 | m+1,h,x,fb,limit,hd,hx=>wW (eF.go m) h x fb limit (fun qh_ qx jp qlimit qhx qd=>pc m qh_ qx jp qlimit ob qhx) hx
theorem rW (h:HF) (x:Expr) (fb:cE) (limit:Int) (hx:Expr.ok h x fb):Ret Tryz.prog 50 [.agg (Expr.cells x fb).toArray,I limit] h (I (eF x limit)):=pc _ h x fb limit (Nat.le_refl _) hx
open Go.Proofs
set_option maxHeartbeats 2000000
theorem rX (h:HF) (l:(List Version)) (eD:Option Addr) (eC:Nat) (hl:SlC Version.rp h eD eC l):Ret Tryz.prog 25 [.slice eD l.length eC] h (.bool (cz l)):=by
 refine ae E1 U Tryz.ntmps25 U fun X hM hX=>?_
 have hs0:cz l=cz l:=rfl
 refine qT 8 U (a8 iN U (qO 2 U ?_))
 refine ak hs0 U (fun c1 hs1=>?_) (fun c1 hs2=>?_)
 ·have c1p:=of_decide_eq_true c1
  refine qT 4 U ?_
  exact ah [.bool false] E1 U hX rd (cs hs1)
 ·have c1p:=of_decide_eq_false c1
  refine qT 6 U ?_
  refine aU (ι:=Nat) (fun i=>[]) (fun i=>h) (fun i=>[]) (fun i=>i≤l.length∧cz l=((cz.K1))) ?_ (fun hx1=>?_)
  ·rintro i1 ⟨aP,hs4⟩ e
   try dsimp only at aP
   refine qT 4 U ?_
   exact ah [.bool true] E1 U hX rd (cs hs4)
  ·refine bG (ι:=Nat×List Version) (fun i=>[(0,.slice eD l.length eC),(3,I ((i.1:Nat):Int))]) (fun i=>h) (fun i=>[]) (fun i=>l.drop i.1=i.2∧i.1≤l.length∧cz l=((cz.L1 (cz.K1)) i.2 )) (fun i=>i.2.length) (0,l) rd sw ⟨U,Nat.zero_le _,hs2⟩ ?_
   rintro ⟨i1,s1⟩ ⟨hd1,aP,hs6⟩ ag1 e
   try dsimp only at hd1 aP
   rcases s1 with _ | ⟨y1,rz1⟩
   ·have dr:=cw hd1
    refine qT 5 U (a8 iN U (ai (v':=.bool false) U (cb dr) (qO 3 U ?_)))
    exact hx1 i1 _ ⟨aP,hs6⟩ trivial
   ·have dq:=dy hd1
    have aM:=cA hd1
    have ey:=aE hd1
    have gi:=hl.1.1
    refine qT 5 U (a8 iN U (ai (v':=.bool true) U (cb dq) (qO 9 U (aN (fF iN ty70 hl.1 (nthZ aM) (aV aM) U U U (fun q2 cs2 A2 ln2 rr2=>?_))))))
    obtain ⟨r2,rfl,ok2⟩:=rr2
    refine aj pt U (vO (j:=3) ty68 A2 U U (bR zc68 (fun b2=>bL 0 ty68 U U U U U U (qO 4 U (aj kZ U (aI 0 ty62 U U U (a8 kB U (qO 2 U ?_))))))))
    refine ar 5 [24,25,26,27,28,29] 29 (.bool (decide (20 < ((y1.Policy.Kinds.length:Nat):Int))||decide (40 < ((y1.Policy.Offices.length:Nat):Int)))) (fun hk1=>?_) (fun e=>?_)
    ·refine ac 24 U (fun c2=>?_) (fun c2=>?_)
     ·refine qO 5 U ?_
      exact hk1 _ (cb (dW c2))
     ·refine aj iS U (aI 0 ty62 U U U (a8 kB U (qO 2 U ?_)))
      exact hk1 _ (cb (dX c2))
    refine aB ?_
    refine ar 5 [30,31,32,33,34,35] 35 (.bool ((decide (20 < ((y1.Policy.Kinds.length:Nat):Int))||decide (40 < ((y1.Policy.Offices.length:Nat):Int)))||decide (20 < ((y1.Policy.Rules.length:Nat):Int)))) (fun hk2=>?_) (fun e=>?_)
    ·refine ac 30 U (fun c3=>?_) (fun c3=>?_)
     ·refine qO 5 U ?_
      exact hk2 _ (cb (dW c3))
     ·refine aj fj U (aI 0 ty63 U U U (a8 jR U (qO 2 U ?_)))
      exact hk2 _ (cb (dX c3))
    refine aB ?_
    refine ar 5 [36,37,38,39,40,41] 41 (.bool (((decide (20 < ((y1.Policy.Kinds.length:Nat):Int))||decide (40 < ((y1.Policy.Offices.length:Nat):Int)))||decide (20 < ((y1.Policy.Rules.length:Nat):Int)))||decide (40 < (eF y1.Policy.Change 40)))) (fun hk3=>?_) (fun e=>?_)
    ·refine ac 36 U (fun c4=>?_) (fun c4=>?_)
     ·refine qO 5 U ?_
      exact hk3 _ (cb (dW c4))
     ·refine aj lU U (dl 0 ty66 U U U (au (v:=I (eF y1.Policy.Change 40)) Tryz.call50 (rW h y1.Policy.Change r2.Policy.Change 40 ok2.Policy.Change) U (qO 2 U ?_)))
      exact hk3 _ (cb (dX c4))
    refine bh ?_
    refine ak hs6 U (fun c5 hs8=>?_) (fun c5 hs9=>?_)
    ·refine qT 4 U ?_
     exact ah [.bool false] E1 U hX rd (cs hs8)
    ·refine qT 5 U ?_
     let z1:Nat×Obj:=(b2,O (Policy.cells y1.Policy r2.Policy) 68)
     refine aU (ι:=Nat) (fun i=>[(0,.slice eD l.length eC),(3,I ((i1:Nat):Int))]) (fun i=>h) (fun i=>[z1]) (fun i=>i≤y1.Policy.Rules.length∧cz l=(((cz.L1 (cz.K1) rz1 )))) ?_ (fun hx3=>?_)
     ·rintro i3 ⟨jq,hs11⟩ e
      try dsimp only at jq
      refine qT 3 U (ai (v':=I (((i1+1):Nat):Int)) U (bz ob) (an ?_))
      refine cG (L':=[]) js ?_
      exact ag1 ((i1+1),rz1) _ (Nat.lt_succ_self _) ⟨ba hd1,aE hd1,hs11⟩ rd
     ·refine bG (ι:=Nat×List Rule) (fun i=>[(0,.slice eD l.length eC),(3,I ((i1:Nat):Int)),(4,Q b2),(5,I ((i.1:Nat):Int))]) (fun i=>h) (fun i=>[z1]) (fun i=>y1.Policy.Rules.drop i.1=i.2∧i.1≤y1.Policy.Rules.length∧cz l=((cz.L3 ((cz.L1 (cz.K1) rz1 ))) i.2 )) (fun i=>i.2.length) (0,y1.Policy.Rules) rd sw ⟨U,Nat.zero_le _,hs9⟩ ?_
      rintro ⟨i3,s3⟩ ⟨hd3,nU,hs12⟩ ag2 e
      try dsimp only at hd3 nU
      rcases s3 with _ | ⟨y3,rz3⟩
      ·have BB:=cw hd3
       refine qT 4 U (aj fj U (aI 0 ty63 U U U (a8 jR U (ai (v':=.bool false) U (cb BB) (qO 3 U ?_)))))
       exact hx3 i3 _ ⟨nU,hs12⟩ rd
      ·have BA:=dy hd3
       have rm:=cA hd3
       have FB:=aE hd3
       have I2:=ok2.Policy.Rules.1.1
       refine qT 4 U (aj fj U (aI 0 ty63 U U U (a8 jR U (ai (v':=.bool true) U (cb BA) (qO 7 U (aj fj U (aI 0 ty63 U U U (aB (aN (fF jR ty107 ok2.Policy.Rules.1 (nthZ rm) (aV rm) U U U (fun q4 cs4 A4 ln4 rr4=>?_)))))))))))
       obtain ⟨r4,rfl,ok4⟩:=rr4
       refine aj kv U (vO (j:=3) ty66 A4 U U (au (v:=I (eF y3.Expr 40)) Tryz.call50 (rW h y3.Expr r4.Expr 40 ok4.Expr) U (qO 2 U ?_)))
       refine ak hs12 U (fun c7 hs14=>?_) (fun c7 hs15=>?_)
       ·have c7p:=of_decide_eq_true c7
        refine qT 4 U ?_
        exact ah [.bool false] E1 U hX rd (cs hs14)
       ·have c7p:=of_decide_eq_false c7
        refine qT 4 U (ai (v':=I (((i3+1):Nat):Int)) U (bz ob) (an ?_))
        exact ag2 ((i3+1),rz3) _ (Nat.lt_succ_self _) ⟨ba hd3,aE hd3,hs15⟩ rd
theorem Be (h:HF) (aR:Register) (cu:eB) (ia:Register.ok h aR cu):Ret Tryz.prog 9 [.agg (Register.cells aR cu).toArray] h (.bool (gN aR)):=by
 refine ae Ek U Tryz.ntmps9 U fun X hM hX=>?_
 have hs0:gN aR=gN aR:=rfl
 refine sr (dt (fun b1=>qO 5 U (aj qZ U (aI 0 ty22 U U U (a8 nB U (qO 2 U ?_))))))
 refine ar 5 [8,9,10,11,12,13] 13 (.bool (decide (30 < ((aR.Appoints.length:Nat):Int))||decide (12 < ((aR.Deputies.length:Nat):Int)))) (fun hk1=>?_) (fun e=>?_)
 ·refine ac 8 U (fun c1=>?_) (fun c1=>?_)
  ·refine qO 5 U ?_
   exact hk1 _ (cb (dW c1))
  ·refine aj BM U (aI 0 ty23 U U U (a8 tE U (qO 2 U ?_)))
   exact hk1 _ (cb (dX c1))
 refine aB ?_
 refine ar 5 [14,15,16,17,18,19] 19 (.bool ((decide (30 < ((aR.Appoints.length:Nat):Int))||decide (12 < ((aR.Deputies.length:Nat):Int)))||decide (12 < ((aR.Interests.length:Nat):Int)))) (fun hk2=>?_) (fun e=>?_)
 ·refine ac 14 U (fun c2=>?_) (fun c2=>?_)
  ·refine qO 5 U ?_
   exact hk2 _ (cb (dW c2))
  ·refine aj tb U (aI 0 ty24 U U U (a8 kS U (qO 2 U ?_)))
   exact hk2 _ (cb (dX c2))
 refine aB ?_
 refine ar 5 [20,21,22,23,24,25] 25 (.bool (((decide (30 < ((aR.Appoints.length:Nat):Int))||decide (12 < ((aR.Deputies.length:Nat):Int)))||decide (12 < ((aR.Interests.length:Nat):Int)))||decide (12 < ((aR.Budgets.length:Nat):Int)))) (fun hk3=>?_) (fun e=>?_)
 ·refine ac 20 U (fun c3=>?_) (fun c3=>?_)
  ·refine qO 5 U ?_
   exact hk3 _ (cb (dW c3))
  ·refine aj BL U (aI 0 ty25 U U U (a8 tD U (qO 2 U ?_)))
   exact hk3 _ (cb (dX c3))
 refine aB ?_
 refine ar 5 [26,27,28,29,30,31] 31 (.bool ((((decide (30 < ((aR.Appoints.length:Nat):Int))||decide (12 < ((aR.Deputies.length:Nat):Int)))||decide (12 < ((aR.Interests.length:Nat):Int)))||decide (12 < ((aR.Budgets.length:Nat):Int)))||decide (8 < ((aR.Docs.length:Nat):Int)))) (fun hk4=>?_) (fun e=>?_)
 ·refine ac 26 U (fun c4=>?_) (fun c4=>?_)
  ·refine qO 5 U ?_
   exact hk4 _ (cb (dW c4))
  ·refine aj la U (aI 0 ty27 U U U (a8 lC U (qO 2 U ?_)))
   exact hk4 _ (cb (dX c4))
 refine aB ?_
 refine ar 5 [32,33,34,35,36,37] 37 (.bool (((((decide (30 < ((aR.Appoints.length:Nat):Int))||decide (12 < ((aR.Deputies.length:Nat):Int)))||decide (12 < ((aR.Interests.length:Nat):Int)))||decide (12 < ((aR.Budgets.length:Nat):Int)))||decide (8 < ((aR.Docs.length:Nat):Int)))||decide (24 < ((aR.Approvals.length:Nat):Int)))) (fun hk5=>?_) (fun e=>?_)
 ·refine ac 32 U (fun c5=>?_) (fun c5=>?_)
  ·refine qO 5 U ?_
   exact hk5 _ (cb (dW c5))
  ·refine aj BK U (aI 0 ty28 U U U (a8 tC U (qO 2 U ?_)))
   exact hk5 _ (cb (dX c5))
 refine aB ?_
 refine ar 5 [38,39,40,41,42,43] 43 (.bool ((((((decide (30 < ((aR.Appoints.length:Nat):Int))||decide (12 < ((aR.Deputies.length:Nat):Int)))||decide (12 < ((aR.Interests.length:Nat):Int)))||decide (12 < ((aR.Budgets.length:Nat):Int)))||decide (8 < ((aR.Docs.length:Nat):Int)))||decide (24 < ((aR.Approvals.length:Nat):Int)))||(!(cz aR.Versions)))) (fun hk6=>?_) (fun e=>?_)
 ·refine ac 38 U (fun c6=>?_) (fun c6=>?_)
  ·refine qO 5 U ?_
   exact hk6 _ (cb (dW c6))
  ·refine aj lV U (aI 0 ty26 U U U (au (v:=.bool (cz aR.Versions)) Tryz.call25 (rX h aR.Versions cu.ig cu.ie ia.Versions) U (qO 2 U ?_)))
   exact hk6 _ (cb (dX c6))
 refine bh ?_
 refine ak hs0 U (fun c7 hs1=>?_) (fun c7 hs2=>?_)
 ·refine qT 4 U ?_
  exact ah [.bool false] Ek U hX rd (cs hs1)
 ·refine qT 6 U ?_
  refine aU (ι:=Nat) (fun i=>[]) (fun i=>h) (fun i=>[(b1,O (Register.cells aR cu) 30)]) (fun i=>i≤aR.Docs.length∧gN aR=((gN.K1))) ?_ (fun hx1=>?_)
  ·rintro i1 ⟨aP,hs4⟩ e
   try dsimp only at aP
   refine qT 4 U ?_
   exact ah [.bool true] Ek U hX rd (cs hs4)
  ·refine bG (ι:=Nat×List Document) (fun i=>[(1,Q b1),(3,I ((i.1:Nat):Int))]) (fun i=>h) (fun i=>[(b1,O (Register.cells aR cu) 30)]) (fun i=>aR.Docs.drop i.1=i.2∧i.1≤aR.Docs.length∧gN aR=((gN.L1 (gN.K1)) i.2 )) (fun i=>i.2.length) (0,aR.Docs) rd sw ⟨U,Nat.zero_le _,hs2⟩ ?_
   rintro ⟨i1,s1⟩ ⟨hd1,aP,hs6⟩ ag1 e
   try dsimp only at hd1 aP
   rcases s1 with _ | ⟨y1,rz1⟩
   ·have dr:=cw hd1
    refine qT 4 U (aj la U (aI 0 ty27 U U U (a8 lC U (ai (v':=.bool false) U (cb dr) (qO 3 U ?_)))))
    exact hx1 i1 _ ⟨aP,hs6⟩ trivial
   ·have dq:=dy hd1
    have aM:=cA hd1
    have ey:=aE hd1
    have gi:=ia.Docs.1.1
    refine qT 4 U (aj la U (aI 0 ty27 U U U (a8 lC U (ai (v':=.bool true) U (cb dq) (qO 7 U (aj la U (aI 0 ty27 U U U (aB (aN (fF lC ty52 ia.Docs.1 (nthZ aM) (aV aM) U U U (fun q3 cs3 A3 ln3 rr3=>?_)))))))))))
    obtain ⟨r3,rfl,ok3⟩:=rr3
    refine aj xu U (km (j:=6) ty31 A3 U U (a8 cN U (qO 2 U ?_)))
    refine ar 9 [59,60,61,62,63,64,65,66,67,68] 68 (.bool (decide (20 < ((y1.Parties.length:Nat):Int))||decide (20 < ((y1.Revokes.length:Nat):Int)))) (fun hk7=>?_) (fun e=>?_)
    ·refine ac 59 U (fun c8=>?_) (fun c8=>?_)
     ·refine qO 9 U ?_
      exact hk7 _ (cb (dW c8))
     ·refine aj la U (aI 0 ty27 U U U (aB (aN (fF lC ty52 ia.Docs.1 (nthZ aM) (aV aM) U U U (fun q4 cs4 A4 ln4 rr4=>?_)))))
      obtain ⟨r4,rfl,ok4⟩:=rr4
      refine aj s8 U (km (j:=7) ty31 A4 U U (a8 cN U (qO 2 U ?_)))
      exact hk7 _ (cb (dX c8))
    refine aB ?_
    refine ar 9 [69,70,71,72,73,74,75,76,77,78] 78 (.bool ((decide (20 < ((y1.Parties.length:Nat):Int))||decide (20 < ((y1.Revokes.length:Nat):Int)))||decide (20 < ((y1.Needs.length:Nat):Int)))) (fun hk8=>?_) (fun e=>?_)
    ·refine ac 69 U (fun c9=>?_) (fun c9=>?_)
     ·refine qO 9 U ?_
      exact hk8 _ (cb (dW c9))
     ·refine aj la U (aI 0 ty27 U U U (aB (aN (fF lC ty52 ia.Docs.1 (nthZ aM) (aV aM) U U U (fun q5 cs5 A5 ln5 rr5=>?_)))))
      obtain ⟨r5,rfl,ok5⟩:=rr5
      refine aj s6 U (km (j:=8) ty31 A5 U U (a8 cN U (qO 2 U ?_)))
      exact hk8 _ (cb (dX c9))
    refine bh ?_
    refine ak hs6 U (fun c10 hs8=>?_) (fun c10 hs9=>?_)
    ·refine qT 4 U ?_
     exact ah [.bool false] Ek U hX rd (cs hs8)
    ·refine qT 4 U (ai (v':=I (((i1+1):Nat):Int)) U (bz ob) (an ?_))
     exact ag1 ((i1+1),rz1) _ (Nat.lt_succ_self _) ⟨ba hd1,aE hd1,hs9⟩ rd
theorem qE (h:HF) (aR:Register) (cu:eB) (no:Int) (ia:Register.ok h aR cu):Ret Tryz.prog 19 [.agg (Register.cells aR cu).toArray,I no] h (I (ce aR no)):=by
 refine ae Tryz.func19 U Tryz.ntmps19 U fun X hM hX=>?_
 have hs0:ce aR no=ce aR no:=rfl
 refine sr (dt (fun b1=>qO 7 U ?_))
 refine aU (ι:=Nat) (fun i=>[]) (fun i=>h) (fun i=>[(b1,O (Register.cells aR cu) 30)]) (fun i=>i≤aR.Docs.length∧ce aR no=((ce.K1))) ?_ (fun hx1=>?_)
 ·rintro i1 ⟨aP,hs1⟩ e
  try dsimp only at aP
  refine qT 4 U ?_
  exact ah [I (-1)] Tryz.func19 U hX rd (ci hs1)
 ·refine bG (ι:=Nat×List Document) (fun i=>[(1,I no),(2,Q b1),(5,I ((i.1:Nat):Int))]) (fun i=>h) (fun i=>[(b1,O (Register.cells aR cu) 30)]) (fun i=>aR.Docs.drop i.1=i.2∧i.1≤aR.Docs.length∧ce aR no=((ce.L1 no (ce.K1)) i.2 i.1)) (fun i=>i.2.length) (0,aR.Docs) rd sw ⟨U,Nat.zero_le _,hs0⟩ ?_
  rintro ⟨i1,s1⟩ ⟨hd1,aP,hs3⟩ ag1 e
  try dsimp only at hd1 aP
  rcases s1 with _ | ⟨y1,rz1⟩
  ·have dr:=cw hd1
   refine qT 4 U (aj la U (aI 0 ty27 U U U (a8 lC U (ai (v':=.bool false) U (cb dr) (qO 3 U ?_)))))
   exact hx1 i1 _ ⟨aP,hs3⟩ trivial
  ·have dq:=dy hd1
   have aM:=cA hd1
   have ey:=aE hd1
   have gi:=ia.Docs.1.1
   refine qT 4 U (aj la U (aI 0 ty27 U U U (a8 lC U (ai (v':=.bool true) U (cb dq) (qO 7 U (aj la U (aI 0 ty27 U U U (aB (aN (fF lC ty52 ia.Docs.1 (nthZ aM) (aV aM) U U U (fun q2 cs2 A2 ln2 rr2=>?_)))))))))))
   obtain ⟨r2,rfl,ok2⟩:=rr2
   refine aj ka U (dv ty3 A2 U (qO 3 U ?_))
   refine ak hs3 U (fun c2 hs5=>?_) (fun c2 hs6=>?_)
   ·refine qT 5 U ?_
    exact ah [I ((i1:Nat):Int)] Tryz.func19 U hX rd (ci hs5)
   ·refine qT 4 U (ai (v':=I (((i1+1):Nat):Int)) U (bz ob) (an ?_))
    exact ag1 ((i1+1),rz1) _ (Nat.lt_succ_self _) ⟨ba hd1,aE hd1,hs6⟩ rd
theorem ri (h:HF) (dL:Int)  : Ret Tryz.prog 126 [I dL] h (.bool (hZ dL)):=by
 refine ae Tryz.func126 U Tryz.ntmps126 U fun X hM hX=>?_
 have hs0:hZ dL=hZ dL:=rfl
 refine qT 9 U ?_
 refine ar 3 [5,6,7,8] 8 (.bool (decide (0≤dL)&&decide (dL < 32))) (fun hk1=>?_) (fun e=>?_)
 ·refine ac 5 U (fun c1=>?_) (fun c1=>?_)
  ·refine qO 3 U ?_
   exact hk1 _ (cb (cB c1))
  ·refine qO 3 U ?_
   exact hk1 _ (cb (cC c1))
 refine an ?_
 exact ah [.bool (decide (0≤dL)&&decide (dL < 32))] Tryz.func126 U hX rd (cs hs0)
theorem m7 (h:HF) (dL:Int)  : Ret Tryz.prog 127 [I dL] h (.bool (fE dL)):=by
 refine ae Tryz.func127 U Tryz.ntmps127 U fun X hM hX=>?_
 have hs0:fE dL=fE dL:=rfl
 refine qT 9 U ?_
 refine ar 3 [5,6,7,8] 8 (.bool (decide (0≤dL)&&decide (dL < 1099511627776))) (fun hk1=>?_) (fun e=>?_)
 ·refine ac 5 U (fun c1=>?_) (fun c1=>?_)
  ·refine qO 3 U ?_
   exact hk1 _ (cb (cB c1))
  ·refine qO 3 U ?_
   exact hk1 _ (cb (cC c1))
 refine an ?_
 exact ah [.bool (decide (0≤dL)&&decide (dL < 1099511627776))] Tryz.func127 U hX rd (cs hs0)
theorem w8 (h:HF) (dL:Int)  : Ret Tryz.prog 180 [I dL] h (.bool (kH dL)):=by
 refine ae Tryz.func180 U Tryz.ntmps180 U fun X hM hX=>?_
 have hs0:kH dL=kH dL:=rfl
 refine qT 9 U ?_
 refine ar 3 [5,6,7,8] 8 (.bool (decide (0≤dL)&&decide (dL < 64))) (fun hk1=>?_) (fun e=>?_)
 ·refine ac 5 U (fun c1=>?_) (fun c1=>?_)
  ·refine qO 3 U ?_
   exact hk1 _ (cb (cB c1))
  ·refine qO 3 U ?_
   exact hk1 _ (cb (cC c1))
 refine an ?_
 exact ah [.bool (decide (0≤dL)&&decide (dL < 64))] Tryz.func180 U hX rd (cs hs0)
theorem yl (h:HF) (x:Appoint)  : Ret Tryz.prog 112 [.agg (Appoint.cells x).toArray] h (.bool (gL x)):=by
 refine ae Ej U Tryz.ntmps112 U fun X hM hX=>?_
 have hs0:gL x=gL x:=rfl
 refine sr (dt (fun b1=>qO 5 U (aj pw U (aI 0 ty3 U U U (qO 2 U ?_)))))
 refine ar 4 [6,7,8,9,10] 10 (.bool (decide (x.No < 0)||decide (1048576 < x.No))) (fun hk1=>?_) (fun e=>?_)
 ·refine ac 6 U (fun c1=>?_) (fun c1=>?_)
  ·refine qO 4 U ?_
   exact hk1 _ (cb (dW c1))
  ·refine aj pw U (aI 0 ty3 U U U (qO 2 U ?_))
   exact hk1 _ (cb (dX c1))
 refine aB ?_
 refine ar 5 [11,12,13,14,15,16] 16 (.bool ((decide (x.No < 0)||decide (1048576 < x.No))||(!(fE x.At)))) (fun hk2=>?_) (fun e=>?_)
 ·refine ac 11 U (fun c2=>?_) (fun c2=>?_)
  ·refine qO 5 U ?_
   exact hk2 _ (cb (dW c2))
  ·refine aj nd U (aI 0 ty3 U U U (au (v:=.bool (fE x.At)) Ei (m7 h x.At ) U (qO 2 U ?_)))
   exact hk2 _ (cb (dX c2))
 refine aB ?_
 refine ar 5 [17,18,19,20,21,22] 22 (.bool (((decide (x.No < 0)||decide (1048576 < x.No))||(!(fE x.At)))||(!(fE x.Known)))) (fun hk3=>?_) (fun e=>?_)
 ·refine ac 17 U (fun c3=>?_) (fun c3=>?_)
  ·refine qO 5 U ?_
   exact hk3 _ (cb (dW c3))
  ·refine aj vf U (aI 0 ty3 U U U (au (v:=.bool (fE x.Known)) Ei (m7 h x.Known ) U (qO 2 U ?_)))
   exact hk3 _ (cb (dX c3))
 refine aB ?_
 refine ar 5 [23,24,25,26,27,28] 28 (.bool ((((decide (x.No < 0)||decide (1048576 < x.No))||(!(fE x.At)))||(!(fE x.Known)))||(!(hZ x.Office)))) (fun hk4=>?_) (fun e=>?_)
 ·refine ac 23 U (fun c4=>?_) (fun c4=>?_)
  ·refine qO 5 U ?_
   exact hk4 _ (cb (dW c4))
  ·refine aj ve U (aI 0 ty3 U U U (au (v:=.bool (hZ x.Office)) Tryz.call126 (ri h x.Office ) U (qO 2 U ?_)))
   exact hk4 _ (cb (dX c4))
 refine aB ?_
 refine ar 5 [29,30,31,32,33,34] 34 (.bool (((((decide (x.No < 0)||decide (1048576 < x.No))||(!(fE x.At)))||(!(fE x.Known)))||(!(hZ x.Office)))||(!(kH x.Person)))) (fun hk5=>?_) (fun e=>?_)
 ·refine ac 29 U (fun c5=>?_) (fun c5=>?_)
  ·refine qO 5 U ?_
   exact hk5 _ (cb (dW c5))
  ·refine aj sZ U (aI 0 ty3 U U U (au (v:=.bool (kH x.Person)) Tryz.call180 (w8 h x.Person ) U (qO 2 U ?_)))
   exact hk5 _ (cb (dX c5))
 refine bh ?_
 refine ak hs0 U (fun c6 hs1=>?_) (fun c6 hs2=>?_)
 ·refine qT 4 U ?_
  exact ah [.bool false] Ej U hX rd (cs hs1)
 ·refine qT 4 U (aj xr U (aI 0 ty4 U U U (bh ?_)))
  refine ak hs2 U (fun c7 hs4=>?_) (fun c7 hs5=>?_)
  ·refine sr (aj qY U (aI 0 ty3 U U U (qO 3 U ?_)))
   exact ah [.bool (x.Weight==0)] Ej U hX rd (cs hs4)
  ·refine qT 3 U (aj qY U (aI 0 ty3 U U U (qO 2 U ?_)))
   refine ar 4 [43,44,45,46,47] 47 (.bool (decide (1≤x.Weight)&&decide (x.Weight≤64))) (fun hk6=>?_) (fun e=>?_)
   ·refine ac 43 U (fun c8=>?_) (fun c8=>?_)
    ·refine aj qY U (aI 0 ty3 U U U (qO 2 U ?_))
     exact hk6 _ (cb (cB c8))
    ·refine qO 4 U ?_
     exact hk6 _ (cb (cC c8))
   refine an ?_
   exact ah [.bool (decide (1≤x.Weight)&&decide (x.Weight≤64))] Ej U hX rd (cs hs5)
theorem se (h:HF) (l:(List Appoint)) (eD:Option Addr) (eC:Nat) (hl:SlC Appoint.rp h eD eC l):Ret Tryz.prog 67 [.slice eD l.length eC] h (I (dH l)):=by
 refine ae Eh U Tryz.ntmps67 U fun X hM hX=>?_
 have hs0:dH l=dH l:=rfl
 refine qT 8 U (a8 nB U (qO 2 U ?_))
 refine ak hs0 U (fun c1 hs1=>?_) (fun c1 hs2=>?_)
 ·have c1p:=of_decide_eq_true c1
  refine qT 4 U ?_
  exact ah [I 2] Eh U hX rd (ci hs1)
 ·have c1p:=of_decide_eq_false c1
  refine qT 6 U ?_
  refine aU (ι:=Nat) (fun i=>[]) (fun i=>h) (fun i=>[]) (fun i=>i≤l.length∧dH l=((dH.K1))) ?_ (fun hx1=>?_)
  ·rintro i1 ⟨aP,hs4⟩ e
   try dsimp only at aP
   refine qT 4 U ?_
   exact ah [I 0] Eh U hX rd (ci hs4)
  ·refine bG (ι:=Nat×List Appoint) (fun i=>[(0,.slice eD l.length eC),(3,I ((i.1:Nat):Int))]) (fun i=>h) (fun i=>[]) (fun i=>l.drop i.1=i.2∧i.1≤l.length∧dH l=((dH.L1 l (dH.K1)) i.2 i.1)) (fun i=>i.2.length) (0,l) rd sw ⟨U,Nat.zero_le _,hs2⟩ ?_
   rintro ⟨i1,s1⟩ ⟨hd1,aP,hs6⟩ ag1 e
   try dsimp only at hd1 aP
   rcases s1 with _ | ⟨y1,rz1⟩
   ·have dr:=cw hd1
    refine qT 5 U (a8 nB U (ai (v':=.bool false) U (cb dr) (qO 3 U ?_)))
    exact hx1 i1 _ ⟨aP,hs6⟩ trivial
   ·have dq:=dy hd1
    have aM:=cA hd1
    have ey:=aE hd1
    have gi:=hl.1.1
    refine qT 5 U (a8 nB U (ai (v':=.bool true) U (cb dq) (qO 6 U ?_)))
    refine lX [(0,.slice eD l.length eC),(3,I ((i1:Nat):Int)),(36,.bool ((!(gL y1))||(decide (0 < ((i1:Nat):Int))&&decide (y1.No≤(nthI l (((i1:Nat):Int) - 1)).No))))] (fun e=>?_) (fun hk1=>?_)
    rotate_left
    ·refine fd ([]) mixed kr jn (fun dU _=>(qA [0,1] U (eJ 2 (enc:=Appoint.cells) dU jn (fun _ _ _ e=>e) nB ty59 hl.1 (nthZ aM) (aV aM) U U U U kr (fun q4 A4=>?_))))
     refine tf 3 U U (fun _ _ hj=>jK ty59 (A4.mono hj.1) U U) (tn 4 U (fB (v:=.bool (gL y1)) Tryz.call112 (yl h y1 ) U (⟨jn,(qA [5,6] U ?_)⟩)))
     refine dM 19 U (fun c2=>?_) (fun c2=>?_)
     ·refine qR 7 17 U (bv kr ?_)
      exact hk1 _ ⟨U,U,(cb (show true=((!(gL y1))||(decide (0 < ((i1:Nat):Int))&&decide (y1.No≤(nthI l (((i1:Nat):Int) - 1)).No))) from by rw [c2] <;> rfl)),trivial⟩
     ·refine qR 7 3 U ?_
      refine dM 22 U (fun c3=>?_) (fun c3=>?_)
      ·have c3p:=of_decide_eq_true c3
       refine qA [10,11] U (tf 12 U U (fun _ _ _=>nF (v':=I (((i1:Nat):Int) - 1)) U (im ob)) ?_)
       have ho2:0≤((((i1:Nat):Int) - 1):Int)∧((((i1:Nat):Int) - 1):Int) < ((l).length:Int):=ob
       refine eJ 13 (enc:=Appoint.cells) dU jn (fun _ _ _ e=>e) nB ty59 hl.1 ho2 (df ho2) U U U U kr (fun q5 A5=>tf 14 U U (fun _ _ _=>dx pw U) ?_)
       refine tf 15 U U (fun _ _ hj=>fK ty3 (A5.mono hj.1) U) (qA [16,17] U ?_)
       refine eJ 18 (enc:=Appoint.cells) dU jn (fun _ _ _ e=>e) nB ty59 hl.1 (nthZ aM) (aV aM) U U U U kr (fun q6 A6=>tf 19 U U (fun _ _ _=>dx pw U) ?_)
       refine tf 20 U U (fun _ _ hj=>fK ty3 (A6.mono hj.1) U) (qR 21 3 U (bv kr ?_))
       exact hk1 _ ⟨U,U,(cb (show decide (y1.No≤(nthI l (((i1:Nat):Int) - 1)).No)=((!(gL y1))||(decide (0 < ((i1:Nat):Int))&&decide (y1.No≤(nthI l (((i1:Nat):Int) - 1)).No))) from by rw [c2,c3] <;> rfl)),trivial⟩
      ·have c3p:=of_decide_eq_false c3
       refine qR 10 14 U (bv kr ?_)
       exact hk1 _ ⟨U,U,(cb (show false=((!(gL y1))||(decide (0 < ((i1:Nat):Int))&&decide (y1.No≤(nthI l (((i1:Nat):Int) - 1)).No))) from by rw [c2,c3] <;> rfl)),trivial⟩
    refine ak hs6 U (fun c4 hs8=>?_) (fun c4 hs9=>?_)
    ·refine qT 4 U ?_
     exact ah [I 150] Eh U hX rd (ci hs8)
    ·refine qT 4 U (ai (v':=I (((i1+1):Nat):Int)) U (bz ob) (an ?_))
     exact ag1 ((i1+1),rz1) _ (Nat.lt_succ_self _) ⟨ba hd1,aE hd1,hs9⟩ rd
open Go.Proofs
set_option maxHeartbeats 2000000
theorem jO (h:HF) (dL:Int) (low:Int) (high:Int)  : Ret Tryz.prog 181 [I dL,I low,I high] h (.bool (ea dL low high)):=by
 refine ae Tryz.func181 U Tryz.ntmps181 U fun X hM hX=>?_
 have hs0:ea dL low high=ea dL low high:=rfl
 refine qT 10 U ?_
 refine ar 4 [10,11,12,13,14] 14 (.bool (decide (low≤dL)&&decide (dL≤high))) (fun hk1=>?_) (fun e=>?_)
 ·refine ac 10 U (fun c1=>?_) (fun c1=>?_)
  ·refine qO 4 U ?_
   exact hk1 _ (cb (cB c1))
  ·refine qO 4 U ?_
   exact hk1 _ (cb (cC c1))
 refine an ?_
 exact ah [.bool (decide (low≤dL)&&decide (dL≤high))] Tryz.func181 U hX rd (cs hs0)
theorem tK (h:HF) (dL:Int)  : Ret Tryz.prog 182 [I dL] h (.bool (gK dL)):=by
 refine ae Tryz.func182 U Tryz.ntmps182 U fun X hM hX=>?_
 have hs0:gK dL=gK dL:=rfl
 refine qT 7 U (au (v:=.bool (ea dL 0 1099511627775)) B3 (jO h dL 0 1099511627775 ) U (an ?_))
 exact ah [.bool (ea dL 0 1099511627775)] Tryz.func182 U hX rd (cs hs0)
theorem rh (h:HF) (dL:Int)  : Ret Tryz.prog 183 [I dL] h (.bool (gO dL)):=by
 refine ae Tryz.func183 U Tryz.ntmps183 U fun X hM hX=>?_
 have hs0:gO dL=gO dL:=rfl
 refine qT 7 U (au (v:=.bool (ea dL 0 63)) B3 (jO h dL 0 63 ) U (an ?_))
 exact ah [.bool (ea dL 0 63)] Tryz.func183 U hX rd (cs hs0)
theorem yj (h:HF) (x:Deputy)  : Ret Tryz.prog 113 [.agg (Deputy.cells x).toArray] h (.bool (gW x)):=by
 refine ae E0 U Tryz.ntmps113 U fun X hM hX=>?_
 have hs0:gW x=gW x:=rfl
 refine sr (dt (fun b1=>qO 5 U (aj qk U (aI 0 ty3 U U U (au (v:=.bool (ea x.No 0 1048576)) B3 (jO h x.No 0 1048576 ) U (qO 2 U ?_))))))
 refine ar 5 [7,8,9,10,11,12] 12 (.bool ((!(ea x.No 0 1048576))||(!(gK x.At)))) (fun hk1=>?_) (fun e=>?_)
 ·refine ac 7 U (fun c1=>?_) (fun c1=>?_)
  ·refine qO 5 U ?_
   exact hk1 _ (cb (dW c1))
  ·refine aj vn U (aI 0 ty3 U U U (au (v:=.bool (gK x.At)) Tryz.call182 (tK h x.At ) U (qO 2 U ?_)))
   exact hk1 _ (cb (dX c1))
 refine aB ?_
 refine ar 5 [13,14,15,16,17,18] 18 (.bool (((!(ea x.No 0 1048576))||(!(gK x.At)))||(!(gK x.Known)))) (fun hk2=>?_) (fun e=>?_)
 ·refine ac 13 U (fun c2=>?_) (fun c2=>?_)
  ·refine qO 5 U ?_
   exact hk2 _ (cb (dW c2))
  ·refine aj DD U (aI 0 ty3 U U U (au (v:=.bool (gK x.Known)) Tryz.call182 (tK h x.Known ) U (qO 2 U ?_)))
   exact hk2 _ (cb (dX c2))
 refine aB ?_
 refine ar 5 [19,20,21,22,23,24] 24 (.bool ((((!(ea x.No 0 1048576))||(!(gK x.At)))||(!(gK x.Known)))||(!(gO x.From)))) (fun hk3=>?_) (fun e=>?_)
 ·refine ac 19 U (fun c3=>?_) (fun c3=>?_)
  ·refine qO 5 U ?_
   exact hk3 _ (cb (dW c3))
  ·refine aj vm U (aI 0 ty3 U U U (au (v:=.bool (gO x.From)) Tryz.call183 (rh h x.From ) U (qO 2 U ?_)))
   exact hk3 _ (cb (dX c3))
 refine aB ?_
 refine ar 5 [25,26,27,28,29,30] 30 (.bool (((((!(ea x.No 0 1048576))||(!(gK x.At)))||(!(gK x.Known)))||(!(gO x.From)))||(!(gO x.To)))) (fun hk4=>?_) (fun e=>?_)
 ·refine ac 25 U (fun c4=>?_) (fun c4=>?_)
  ·refine qO 5 U ?_
   exact hk4 _ (cb (dW c4))
  ·refine aj vl U (aI 0 ty3 U U U (au (v:=.bool (gO x.To)) Tryz.call183 (rh h x.To ) U (qO 2 U ?_)))
   exact hk4 _ (cb (dX c4))
 refine aB ?_
 refine ar 6 [31,32,33,34,35,36,37] 37 (.bool ((((((!(ea x.No 0 1048576))||(!(gK x.At)))||(!(gK x.Known)))||(!(gO x.From)))||(!(gO x.To)))||(x.From==x.To))) (fun hk5=>?_) (fun e=>?_)
 ·refine ac 31 U (fun c5=>?_) (fun c5=>?_)
  ·refine qO 6 U ?_
   exact hk5 _ (cb (dW c5))
  ·refine aj vm U (aI 0 ty3 U U U (aj vl U (aI 0 ty3 U U U (qO 2 U ?_))))
   exact hk5 _ (cb (dX c5))
 refine bh ?_
 refine ak hs0 U (fun c6 hs1=>?_) (fun c6 hs2=>?_)
 ·refine qT 4 U ?_
  exact ah [.bool false] E0 U hX rd (cs hs1)
 ·refine qT 4 U (aj DC U (aI 0 ty3 U U U (au (v:=.bool (ea x.Office 0 31)) B3 (jO h x.Office 0 31 ) U (qO 2 U ?_))))
  refine ar 5 [42,43,44,45,46,47] 47 (.bool ((!(ea x.Office 0 31))||(!(ea x.Kind (-1) 15)))) (fun hk6=>?_) (fun e=>?_)
  ·refine ac 42 U (fun c7=>?_) (fun c7=>?_)
   ·refine qO 5 U ?_
    exact hk6 _ (cb (dW c7))
   ·refine aj DB U (aI 0 ty3 U U U (au (v:=.bool (ea x.Kind (-1) 15)) B3 (jO h x.Kind (-1) 15 ) U (qO 2 U ?_)))
    exact hk6 _ (cb (dX c7))
  refine bh ?_
  refine ak hs2 U (fun c8 hs4=>?_) (fun c8 hs5=>?_)
  ·refine qT 4 U ?_
   exact ah [.bool false] E0 U hX rd (cs hs4)
  ·refine qT 4 U (aj DA U (aI 0 ty4 U U U (bh ?_)))
   refine ak hs5 U (fun c9 hs7=>?_) (fun c9 hs8=>?_)
   ·refine sr (aj qj U (aI 0 ty3 U U U (qO 2 U ?_)))
    refine ar 4 [53,54,55,56,57] 57 (.bool ((x.Until==0)&&(x.Most==0))) (fun hk7=>?_) (fun e=>?_)
    ·refine ac 53 U (fun c10=>?_) (fun c10=>?_)
     ·refine aj vk U (aI 0 ty3 U U U (qO 2 U ?_))
      exact hk7 _ (cb (cB c10))
     ·refine qO 4 U ?_
      exact hk7 _ (cb (cC c10))
    refine an ?_
    exact ah [.bool ((x.Until==0)&&(x.Most==0))] E0 U hX rd (cs hs7)
   ·refine qT 3 U (aj vn U (aI 0 ty3 U U U (aj qj U (aI 0 ty3 U U U (qO 2 U ?_)))))
    refine ar 4 [63,64,65,66,67] 67 (.bool (decide (x.At < x.Until)&&decide (x.Until≤1099511627776))) (fun hk8=>?_) (fun e=>?_)
    ·refine ac 63 U (fun c11=>?_) (fun c11=>?_)
     ·refine aj qj U (aI 0 ty3 U U U (qO 2 U ?_))
      exact hk8 _ (cb (cB c11))
     ·refine qO 4 U ?_
      exact hk8 _ (cb (cC c11))
    refine aB ?_
    refine ar 4 [68,69,70,71,72] 72 (.bool ((decide (x.At < x.Until)&&decide (x.Until≤1099511627776))&&(ea x.Most 0 1099511627776))) (fun hk9=>?_) (fun e=>?_)
    ·refine ac 68 U (fun c12=>?_) (fun c12=>?_)
     ·refine aj vk U (aI 0 ty3 U U U (au (v:=.bool (ea x.Most 0 1099511627776)) B3 (jO h x.Most 0 1099511627776 ) U (eH U ?_)))
      exact hk9 _ (cb (cB c12))
     ·refine qO 4 U ?_
      exact hk9 _ (cb (cC c12))
    refine an ?_
    exact ah [.bool ((decide (x.At < x.Until)&&decide (x.Until≤1099511627776))&&(ea x.Most 0 1099511627776))] E0 U hX rd (cs hs8)
theorem yk (h:HF) (l:(List Deputy)) (eD:Option Addr) (eC:Nat) (hl:SlC Deputy.rp h eD eC l):Ret Tryz.prog 68 [.slice eD l.length eC] h (I (eW l)):=by
 refine ae Eg U Tryz.ntmps68 U fun X hM hX=>?_
 have hs0:eW l=eW l:=rfl
 refine qT 8 U (a8 tE U (qO 2 U ?_))
 refine ak hs0 U (fun c1 hs1=>?_) (fun c1 hs2=>?_)
 ·have c1p:=of_decide_eq_true c1
  refine qT 4 U ?_
  exact ah [I 2] Eg U hX rd (ci hs1)
 ·have c1p:=of_decide_eq_false c1
  refine qT 6 U ?_
  refine aU (ι:=Nat) (fun i=>[]) (fun i=>h) (fun i=>[]) (fun i=>i≤l.length∧eW l=((eW.K1))) ?_ (fun hx1=>?_)
  ·rintro i1 ⟨aP,hs4⟩ e
   try dsimp only at aP
   refine qT 4 U ?_
   exact ah [I 0] Eg U hX rd (ci hs4)
  ·refine bG (ι:=Nat×List Deputy) (fun i=>[(0,.slice eD l.length eC),(3,I ((i.1:Nat):Int))]) (fun i=>h) (fun i=>[]) (fun i=>l.drop i.1=i.2∧i.1≤l.length∧eW l=((eW.L1 l (eW.K1)) i.2 i.1)) (fun i=>i.2.length) (0,l) rd sw ⟨U,Nat.zero_le _,hs2⟩ ?_
   rintro ⟨i1,s1⟩ ⟨hd1,aP,hs6⟩ ag1 e
   try dsimp only at hd1 aP
   rcases s1 with _ | ⟨y1,rz1⟩
   ·have dr:=cw hd1
    refine qT 5 U (a8 tE U (ai (v':=.bool false) U (cb dr) (qO 3 U ?_)))
    exact hx1 i1 _ ⟨aP,hs6⟩ trivial
   ·have dq:=dy hd1
    have aM:=cA hd1
    have ey:=aE hd1
    have gi:=hl.1.1
    refine qT 5 U (a8 tE U (ai (v':=.bool true) U (cb dq) (qO 6 U ?_)))
    refine lX [(0,.slice eD l.length eC),(3,I ((i1:Nat):Int)),(36,.bool ((!(gW y1))||(decide (0 < ((i1:Nat):Int))&&decide (y1.No≤(nthI l (((i1:Nat):Int) - 1)).No))))] (fun e=>?_) (fun hk1=>?_)
    rotate_left
    ·refine fd ([]) mixed kr jn (fun dU _=>(qA [0,1] U (eJ 2 (enc:=Deputy.cells) dU jn (fun _ _ _ e=>e) tE ty169 hl.1 (nthZ aM) (aV aM) U U U U kr (fun q4 A4=>?_))))
     refine tf 3 U U (fun _ _ hj=>jK ty169 (A4.mono hj.1) U U) (tn 4 U (fB (v:=.bool (gW y1)) Tryz.call113 (yj h y1 ) U (⟨jn,(qA [5,6] U ?_)⟩)))
     refine dM 19 U (fun c2=>?_) (fun c2=>?_)
     ·refine qR 7 17 U (bv kr ?_)
      exact hk1 _ ⟨U,U,(cb (show true=((!(gW y1))||(decide (0 < ((i1:Nat):Int))&&decide (y1.No≤(nthI l (((i1:Nat):Int) - 1)).No))) from by rw [c2] <;> rfl)),trivial⟩
     ·refine qR 7 3 U ?_
      refine dM 22 U (fun c3=>?_) (fun c3=>?_)
      ·have c3p:=of_decide_eq_true c3
       refine qA [10,11] U (tf 12 U U (fun _ _ _=>nF (v':=I (((i1:Nat):Int) - 1)) U (im ob)) ?_)
       have ho2:0≤((((i1:Nat):Int) - 1):Int)∧((((i1:Nat):Int) - 1):Int) < ((l).length:Int):=ob
       refine eJ 13 (enc:=Deputy.cells) dU jn (fun _ _ _ e=>e) tE ty169 hl.1 ho2 (df ho2) U U U U kr (fun q5 A5=>tf 14 U U (fun _ _ _=>dx qk U) ?_)
       refine tf 15 U U (fun _ _ hj=>fK ty3 (A5.mono hj.1) U) (qA [16,17] U ?_)
       refine eJ 18 (enc:=Deputy.cells) dU jn (fun _ _ _ e=>e) tE ty169 hl.1 (nthZ aM) (aV aM) U U U U kr (fun q6 A6=>tf 19 U U (fun _ _ _=>dx qk U) ?_)
       refine tf 20 U U (fun _ _ hj=>fK ty3 (A6.mono hj.1) U) (qR 21 3 U (bv kr ?_))
       exact hk1 _ ⟨U,U,(cb (show decide (y1.No≤(nthI l (((i1:Nat):Int) - 1)).No)=((!(gW y1))||(decide (0 < ((i1:Nat):Int))&&decide (y1.No≤(nthI l (((i1:Nat):Int) - 1)).No))) from by rw [c2,c3] <;> rfl)),trivial⟩
      ·have c3p:=of_decide_eq_false c3
       refine qR 10 14 U (bv kr ?_)
       exact hk1 _ ⟨U,U,(cb (show false=((!(gW y1))||(decide (0 < ((i1:Nat):Int))&&decide (y1.No≤(nthI l (((i1:Nat):Int) - 1)).No))) from by rw [c2,c3] <;> rfl)),trivial⟩
    refine ak hs6 U (fun c4 hs8=>?_) (fun c4 hs9=>?_)
    ·refine qT 4 U ?_
     exact ah [I 160] Eg U hX rd (ci hs8)
    ·refine qT 4 U (ai (v':=I (((i1+1):Nat):Int)) U (bz ob) (an ?_))
     exact ag1 ((i1+1),rz1) _ (Nat.lt_succ_self _) ⟨ba hd1,aE hd1,hs9⟩ rd
theorem tH (h:HF) (t:Int)  : Ret Tryz.prog 184 [I t] h (.bool (iB t)):=by
 refine ae Tryz.func184 U Tryz.ntmps184 U fun X hM hX=>?_
 have hs0:iB t=iB t:=rfl
 refine qT 9 U ?_
 refine ar 3 [5,6,7,8] 8 (.bool (decide (0≤t)&&decide (t < 1099511627776))) (fun hk1=>?_) (fun e=>?_)
 ·refine ac 5 U (fun c1=>?_) (fun c1=>?_)
  ·refine qO 3 U ?_
   exact hk1 _ (cb (cB c1))
  ·refine qO 3 U ?_
   exact hk1 _ (cb (cC c1))
 refine an ?_
 exact ah [.bool (decide (0≤t)&&decide (t < 1099511627776))] Tryz.func184 U hX rd (cs hs0)
theorem rZ (h:HF) (dL:Int)  : Ret Tryz.prog 185 [I dL] h (.bool (i8 dL)):=by
 refine ae Tryz.func185 U Tryz.ntmps185 U fun X hM hX=>?_
 have hs0:i8 dL=i8 dL:=rfl
 refine qT 9 U ?_
 refine ar 3 [5,6,7,8] 8 (.bool (decide (0≤dL)&&decide (dL≤1048576))) (fun hk1=>?_) (fun e=>?_)
 ·refine ac 5 U (fun c1=>?_) (fun c1=>?_)
  ·refine qO 3 U ?_
   exact hk1 _ (cb (cB c1))
  ·refine qO 3 U ?_
   exact hk1 _ (cb (cC c1))
 refine an ?_
 exact ah [.bool (decide (0≤dL)&&decide (dL≤1048576))] Tryz.func185 U hX rd (cs hs0)
theorem wX (h:HF) (dL:Int)  : Ret Tryz.prog 186 [I dL] h (.bool (kF dL)):=by
 refine ae Tryz.func186 U Tryz.ntmps186 U fun X hM hX=>?_
 have hs0:kF dL=kF dL:=rfl
 refine qT 9 U ?_
 refine ar 3 [5,6,7,8] 8 (.bool (decide (0≤dL)&&decide (dL < 64))) (fun hk1=>?_) (fun e=>?_)
 ·refine ac 5 U (fun c1=>?_) (fun c1=>?_)
  ·refine qO 3 U ?_
   exact hk1 _ (cb (cB c1))
  ·refine qO 3 U ?_
   exact hk1 _ (cb (cC c1))
 refine an ?_
 exact ah [.bool (decide (0≤dL)&&decide (dL < 64))] Tryz.func186 U hX rd (cs hs0)
open Go.Proofs
set_option maxHeartbeats 2000000
theorem xV (h:HF) (x:Interest)  : Ret Tryz.prog 114 [.agg (Interest.cells x).toArray] h (.bool (gJ x)):=by
 refine ae Ef U Tryz.ntmps114 U fun X hM hX=>?_
 have hs0:gJ x=gJ x:=rfl
 refine sr (dt (fun b1=>qO 5 U (aj nX U (aI 0 ty3 U U U (qO 2 U ?_)))))
 refine ar 4 [6,7,8,9,10] 10 (.bool (decide (x.No < 0)||decide (1048576 < x.No))) (fun hk1=>?_) (fun e=>?_)
 ·refine ac 6 U (fun c1=>?_) (fun c1=>?_)
  ·refine qO 4 U ?_
   exact hk1 _ (cb (dW c1))
  ·refine aj nX U (aI 0 ty3 U U U (qO 2 U ?_))
   exact hk1 _ (cb (dX c1))
 refine aB ?_
 refine ar 5 [11,12,13,14,15,16] 16 (.bool ((decide (x.No < 0)||decide (1048576 < x.No))||(!(iB x.At)))) (fun hk2=>?_) (fun e=>?_)
 ·refine ac 11 U (fun c2=>?_) (fun c2=>?_)
  ·refine qO 5 U ?_
   exact hk2 _ (cb (dW c2))
  ·refine aj sY U (aI 0 ty3 U U U (au (v:=.bool (iB x.At)) Tryz.call184 (tH h x.At ) U (qO 2 U ?_)))
   exact hk2 _ (cb (dX c2))
 refine aB ?_
 refine ar 5 [17,18,19,20,21,22] 22 (.bool (((decide (x.No < 0)||decide (1048576 < x.No))||(!(iB x.At)))||(!(iB x.Known)))) (fun hk3=>?_) (fun e=>?_)
 ·refine ac 17 U (fun c3=>?_) (fun c3=>?_)
  ·refine qO 5 U ?_
   exact hk3 _ (cb (dW c3))
  ·refine aj BI U (aI 0 ty3 U U U (au (v:=.bool (iB x.Known)) Tryz.call184 (tH h x.Known ) U (qO 2 U ?_)))
   exact hk3 _ (cb (dX c3))
 refine aB ?_
 refine ar 5 [23,24,25,26,27,28] 28 (.bool ((((decide (x.No < 0)||decide (1048576 < x.No))||(!(iB x.At)))||(!(iB x.Known)))||(!(i8 x.Party)))) (fun hk4=>?_) (fun e=>?_)
 ·refine ac 23 U (fun c4=>?_) (fun c4=>?_)
  ·refine qO 5 U ?_
   exact hk4 _ (cb (dW c4))
  ·refine aj pu U (aI 0 ty3 U U U (au (v:=.bool (i8 x.Party)) Tryz.call185 (rZ h x.Party ) U (qO 2 U ?_)))
   exact hk4 _ (cb (dX c4))
 refine bh ?_
 refine ak hs0 U (fun c5 hs1=>?_) (fun c5 hs2=>?_)
 ·refine qT 4 U ?_
  exact ah [.bool false] Ef U hX rd (cs hs1)
 ·refine qT 4 U (aj vc U (aI 0 ty4 U U U (bh ?_)))
  refine ak hs2 U (fun c6 hs4=>?_) (fun c6 hs5=>?_)
  ·refine sr (aj mJ U (aI 0 ty3 U U U (au (v:=.bool (i8 x.Person)) Tryz.call185 (rZ h x.Person ) U (aB ?_))))
   refine ar 6 [34,35,36,37,38,39,40] 40 (.bool ((i8 x.Person)&&(x.Person != x.Party))) (fun hk5=>?_) (fun e=>?_)
   ·refine ac 34 U (fun c7=>?_) (fun c7=>?_)
    ·refine aj mJ U (aI 0 ty3 U U U (aj pu U (aI 0 ty3 U U U (qO 2 U ?_))))
     exact hk5 _ (cb (cB c7))
    ·refine qO 6 U ?_
     exact hk5 _ (cb (cC c7))
   refine an ?_
   exact ah [.bool ((i8 x.Person)&&(x.Person != x.Party))] Ef U hX rd (cs hs4)
  ·refine qT 3 U (aj mJ U (aI 0 ty3 U U U (au (v:=.bool (kF x.Person)) Tryz.call186 (wX h x.Person ) U (an ?_))))
   exact ah [.bool (kF x.Person)] Ef U hX rd (cs hs5)
theorem xW (h:HF) (l:(List Interest)) (eD:Option Addr) (eC:Nat) (hl:SlC Interest.rp h eD eC l):Ret Tryz.prog 69 [.slice eD l.length eC] h (I (eA l)):=by
 refine ae Ee U Tryz.ntmps69 U fun X hM hX=>?_
 have hs0:eA l=eA l:=rfl
 refine qT 8 U (a8 kS U (qO 2 U ?_))
 refine ak hs0 U (fun c1 hs1=>?_) (fun c1 hs2=>?_)
 ·have c1p:=of_decide_eq_true c1
  refine qT 4 U ?_
  exact ah [I 2] Ee U hX rd (ci hs1)
 ·have c1p:=of_decide_eq_false c1
  refine qT 6 U ?_
  refine aU (ι:=Nat) (fun i=>[]) (fun i=>h) (fun i=>[]) (fun i=>i≤l.length∧eA l=((eA.K1))) ?_ (fun hx1=>?_)
  ·rintro i1 ⟨aP,hs4⟩ e
   try dsimp only at aP
   refine qT 4 U ?_
   exact ah [I 0] Ee U hX rd (ci hs4)
  ·refine bG (ι:=Nat×List Interest) (fun i=>[(0,.slice eD l.length eC),(3,I ((i.1:Nat):Int))]) (fun i=>h) (fun i=>[]) (fun i=>l.drop i.1=i.2∧i.1≤l.length∧eA l=((eA.L1 l (eA.K1)) i.2 i.1)) (fun i=>i.2.length) (0,l) rd sw ⟨U,Nat.zero_le _,hs2⟩ ?_
   rintro ⟨i1,s1⟩ ⟨hd1,aP,hs6⟩ ag1 e
   try dsimp only at hd1 aP
   rcases s1 with _ | ⟨y1,rz1⟩
   ·have dr:=cw hd1
    refine qT 5 U (a8 kS U (ai (v':=.bool false) U (cb dr) (qO 3 U ?_)))
    exact hx1 i1 _ ⟨aP,hs6⟩ trivial
   ·have dq:=dy hd1
    have aM:=cA hd1
    have ey:=aE hd1
    have gi:=hl.1.1
    refine qT 5 U (a8 kS U (ai (v':=.bool true) U (cb dq) (qO 6 U ?_)))
    refine lX [(0,.slice eD l.length eC),(3,I ((i1:Nat):Int)),(36,.bool ((!(gJ y1))||(decide (0 < ((i1:Nat):Int))&&decide (y1.No≤(nthI l (((i1:Nat):Int) - 1)).No))))] (fun e=>?_) (fun hk1=>?_)
    rotate_left
    ·refine fd ([]) mixed kr jn (fun dU _=>(qA [0,1] U (eJ 2 (enc:=Interest.cells) dU jn (fun _ _ _ e=>e) kS ty61 hl.1 (nthZ aM) (aV aM) U U U U kr (fun q4 A4=>?_))))
     refine tf 3 U U (fun _ _ hj=>jK ty61 (A4.mono hj.1) U U) (tn 4 U (fB (v:=.bool (gJ y1)) Tryz.call114 (xV h y1 ) U (⟨jn,(qA [5,6] U ?_)⟩)))
     refine dM 19 U (fun c2=>?_) (fun c2=>?_)
     ·refine qR 7 17 U (bv kr ?_)
      exact hk1 _ ⟨U,U,(cb (show true=((!(gJ y1))||(decide (0 < ((i1:Nat):Int))&&decide (y1.No≤(nthI l (((i1:Nat):Int) - 1)).No))) from by rw [c2] <;> rfl)),trivial⟩
     ·refine qR 7 3 U ?_
      refine dM 22 U (fun c3=>?_) (fun c3=>?_)
      ·have c3p:=of_decide_eq_true c3
       refine qA [10,11] U (eJ 12 (enc:=Interest.cells) dU jn (fun _ _ _ e=>e) kS ty61 hl.1 (nthZ aM) (aV aM) U U U U kr (fun q5 A5=>?_))
       refine tf 13 U U (fun _ _ _=>dx nX U) (tf 14 U U (fun _ _ hj=>fK ty3 (A5.mono hj.1) U) (qA [15,16] U (tf 17 U U (fun _ _ _=>nF (v':=I (((i1:Nat):Int) - 1)) U (im ob)) ?_)))
       have ho2:0≤((((i1:Nat):Int) - 1):Int)∧((((i1:Nat):Int) - 1):Int) < ((l).length:Int):=ob
       refine eJ 18 (enc:=Interest.cells) dU jn (fun _ _ _ e=>e) kS ty61 hl.1 ho2 (df ho2) U U U U kr (fun q6 A6=>tf 19 U U (fun _ _ _=>dx nX U) ?_)
       refine tf 20 U U (fun _ _ hj=>fK ty3 (A6.mono hj.1) U) (qR 21 3 U (bv kr ?_))
       exact hk1 _ ⟨U,U,(cb (show decide (y1.No≤(nthI l (((i1:Nat):Int) - 1)).No)=((!(gJ y1))||(decide (0 < ((i1:Nat):Int))&&decide (y1.No≤(nthI l (((i1:Nat):Int) - 1)).No))) from by rw [c2,c3] <;> rfl)),trivial⟩
      ·have c3p:=of_decide_eq_false c3
       refine qR 10 14 U (bv kr ?_)
       exact hk1 _ ⟨U,U,(cb (show false=((!(gJ y1))||(decide (0 < ((i1:Nat):Int))&&decide (y1.No≤(nthI l (((i1:Nat):Int) - 1)).No))) from by rw [c2,c3] <;> rfl)),trivial⟩
    refine ak hs6 U (fun c4 hs8=>?_) (fun c4 hs9=>?_)
    ·refine qT 4 U ?_
     exact ah [I 290] Ee U hX rd (ci hs8)
    ·refine qT 4 U (ai (v':=I (((i1+1):Nat):Int)) U (bz ob) (an ?_))
     exact ag1 ((i1+1),rz1) _ (Nat.lt_succ_self _) ⟨ba hd1,aE hd1,hs9⟩ rd
theorem kN (h:HF) (dL:Int) (least:Int) (most:Int)  : Ret Tryz.prog 187 [I dL,I least,I most] h (.bool (et dL least most)):=by
 refine ae Tryz.func187 U Tryz.ntmps187 U fun X hM hX=>?_
 have hs0:et dL least most=et dL least most:=rfl
 refine qT 10 U ?_
 refine ar 4 [10,11,12,13,14] 14 (.bool (decide (least≤dL)&&decide (dL≤most))) (fun hk1=>?_) (fun e=>?_)
 ·refine ac 10 U (fun c1=>?_) (fun c1=>?_)
  ·refine qO 4 U ?_
   exact hk1 _ (cb (cB c1))
  ·refine qO 4 U ?_
   exact hk1 _ (cb (cC c1))
 refine an ?_
 exact ah [.bool (decide (least≤dL)&&decide (dL≤most))] Tryz.func187 U hX rd (cs hs0)
theorem rg (h:HF) (dL:Int)  : Ret Tryz.prog 188 [I dL] h (.bool (gv dL)):=by
 refine ae Tryz.func188 U Tryz.ntmps188 U fun X hM hX=>?_
 have hs0:gv dL=gv dL:=rfl
 refine qT 9 U ?_
 refine ar 3 [5,6,7,8] 8 (.bool (decide (0≤dL)&&decide (dL < 1099511627776))) (fun hk1=>?_) (fun e=>?_)
 ·refine ac 5 U (fun c1=>?_) (fun c1=>?_)
  ·refine qO 3 U ?_
   exact hk1 _ (cb (cB c1))
  ·refine qO 3 U ?_
   exact hk1 _ (cb (cC c1))
 refine an ?_
 exact ah [.bool (decide (0≤dL)&&decide (dL < 1099511627776))] Tryz.func188 U hX rd (cs hs0)
theorem ye (h:HF) (x:Budget)  : Ret Tryz.prog 115 [.agg (Budget.cells x).toArray] h (.bool (gU x)):=by
 refine ae Ed U Tryz.ntmps115 U fun X hM hX=>?_
 have hs0:gU x=gU x:=rfl
 refine sr (dt (fun b1=>qO 5 U (aj oJ U (aI 0 ty3 U U U (au (v:=.bool (et x.No 0 1048576)) EZ (kN h x.No 0 1048576 ) U (qO 2 U ?_))))))
 refine ar 5 [7,8,9,10,11,12] 12 (.bool ((!(et x.No 0 1048576))||(!(gv x.At)))) (fun hk1=>?_) (fun e=>?_)
 ·refine ac 7 U (fun c1=>?_) (fun c1=>?_)
  ·refine qO 5 U ?_
   exact hk1 _ (cb (dW c1))
  ·refine aj ze U (aI 0 ty3 U U U (au (v:=.bool (gv x.At)) Tryz.call188 (rg h x.At ) U (qO 2 U ?_)))
   exact hk1 _ (cb (dX c1))
 refine aB ?_
 refine ar 5 [13,14,15,16,17,18] 18 (.bool (((!(et x.No 0 1048576))||(!(gv x.At)))||(!(gv x.Known)))) (fun hk2=>?_) (fun e=>?_)
 ·refine ac 13 U (fun c2=>?_) (fun c2=>?_)
  ·refine qO 5 U ?_
   exact hk2 _ (cb (dW c2))
  ·refine aj zd U (aI 0 ty3 U U U (au (v:=.bool (gv x.Known)) Tryz.call188 (rg h x.Known ) U (qO 2 U ?_)))
   exact hk2 _ (cb (dX c2))
 refine aB ?_
 refine ar 5 [19,20,21,22,23,24] 24 (.bool ((((!(et x.No 0 1048576))||(!(gv x.At)))||(!(gv x.Known)))||(!(et x.Kind (-1) 15)))) (fun hk3=>?_) (fun e=>?_)
 ·refine ac 19 U (fun c3=>?_) (fun c3=>?_)
  ·refine qO 5 U ?_
   exact hk3 _ (cb (dW c3))
  ·refine aj zc U (aI 0 ty3 U U U (au (v:=.bool (et x.Kind (-1) 15)) EZ (kN h x.Kind (-1) 15 ) U (qO 2 U ?_)))
   exact hk3 _ (cb (dX c3))
 refine aB ?_
 refine ar 5 [25,26,27,28,29,30] 30 (.bool (((((!(et x.No 0 1048576))||(!(gv x.At)))||(!(gv x.Known)))||(!(et x.Kind (-1) 15)))||(!(et x.Period 1 1099511627776)))) (fun hk4=>?_) (fun e=>?_)
 ·refine ac 25 U (fun c4=>?_) (fun c4=>?_)
  ·refine qO 5 U ?_
   exact hk4 _ (cb (dW c4))
  ·refine aj zb U (aI 0 ty3 U U U (au (v:=.bool (et x.Period 1 1099511627776)) EZ (kN h x.Period 1 1099511627776 ) U (qO 2 U ?_)))
   exact hk4 _ (cb (dX c4))
 refine bh ?_
 refine ak hs0 U (fun c5 hs1=>?_) (fun c5 hs2=>?_)
 ·refine qT 4 U ?_
  exact ah [.bool false] Ed U hX rd (cs hs1)
 ·refine qT 4 U (aj Dz U (aI 0 ty4 U U U (bh ?_)))
  refine ak hs2 U (fun c6 hs4=>?_) (fun c6 hs5=>?_)
  ·refine sr (aj vj U (aI 0 ty3 U U U (qO 2 U ?_)))
   refine ar 4 [36,37,38,39,40] 40 (.bool ((x.Count==0)&&(x.Value==0))) (fun hk5=>?_) (fun e=>?_)
   ·refine ac 36 U (fun c7=>?_) (fun c7=>?_)
    ·refine aj vi U (aI 0 ty3 U U U (qO 2 U ?_))
     exact hk5 _ (cb (cB c7))
    ·refine qO 4 U ?_
     exact hk5 _ (cb (cC c7))
   refine an ?_
   exact ah [.bool ((x.Count==0)&&(x.Value==0))] Ed U hX rd (cs hs4)
  ·refine qT 3 U (aj vj U (aI 0 ty3 U U U (au (v:=.bool (et x.Count 0 1048576)) EZ (kN h x.Count 0 1048576 ) U (aB ?_))))
   refine ar 4 [44,45,46,47,48] 48 (.bool ((et x.Count 0 1048576)&&(et x.Value 0 1099511627776))) (fun hk6=>?_) (fun e=>?_)
   ·refine ac 44 U (fun c8=>?_) (fun c8=>?_)
    ·refine aj vi U (aI 0 ty3 U U U (au (v:=.bool (et x.Value 0 1099511627776)) EZ (kN h x.Value 0 1099511627776 ) U (eH U ?_)))
     exact hk6 _ (cb (cB c8))
    ·refine qO 4 U ?_
     exact hk6 _ (cb (cC c8))
   refine an ?_
   exact ah [.bool ((et x.Count 0 1048576)&&(et x.Value 0 1099511627776))] Ed U hX rd (cs hs5)
theorem yg (h:HF) (l:(List Budget)) (eD:Option Addr) (eC:Nat) (hl:SlC Budget.rp h eD eC l):Ret Tryz.prog 70 [.slice eD l.length eC] h (I (fh l)):=by
 refine ae Ec U Tryz.ntmps70 U fun X hM hX=>?_
 have hs0:fh l=fh l:=rfl
 refine qT 8 U (a8 tD U (qO 2 U ?_))
 refine ak hs0 U (fun c1 hs1=>?_) (fun c1 hs2=>?_)
 ·have c1p:=of_decide_eq_true c1
  refine qT 4 U ?_
  exact ah [I 2] Ec U hX rd (ci hs1)
 ·have c1p:=of_decide_eq_false c1
  refine qT 6 U ?_
  refine aU (ι:=Nat) (fun i=>[]) (fun i=>h) (fun i=>[]) (fun i=>i≤l.length∧fh l=((fh.K1))) ?_ (fun hx1=>?_)
  ·rintro i1 ⟨aP,hs4⟩ e
   try dsimp only at aP
   refine qT 4 U ?_
   exact ah [I 0] Ec U hX rd (ci hs4)
  ·refine bG (ι:=Nat×List Budget) (fun i=>[(0,.slice eD l.length eC),(3,I ((i.1:Nat):Int))]) (fun i=>h) (fun i=>[]) (fun i=>l.drop i.1=i.2∧i.1≤l.length∧fh l=((fh.L1 l (fh.K1)) i.2 i.1)) (fun i=>i.2.length) (0,l) rd sw ⟨U,Nat.zero_le _,hs2⟩ ?_
   rintro ⟨i1,s1⟩ ⟨hd1,aP,hs6⟩ ag1 e
   try dsimp only at hd1 aP
   rcases s1 with _ | ⟨y1,rz1⟩
   ·have dr:=cw hd1
    refine qT 5 U (a8 tD U (ai (v':=.bool false) U (cb dr) (qO 3 U ?_)))
    exact hx1 i1 _ ⟨aP,hs6⟩ trivial
   ·have dq:=dy hd1
    have aM:=cA hd1
    have ey:=aE hd1
    have gi:=hl.1.1
    refine qT 5 U (a8 tD U (ai (v':=.bool true) U (cb dq) (qO 6 U ?_)))
    refine lX [(0,.slice eD l.length eC),(3,I ((i1:Nat):Int)),(36,.bool ((!(gU y1))||(decide (0 < ((i1:Nat):Int))&&decide (y1.No≤(nthI l (((i1:Nat):Int) - 1)).No))))] (fun e=>?_) (fun hk1=>?_)
    rotate_left
    ·refine fd ([]) mixed kr jn (fun dU _=>(qA [0,1] U (eJ 2 (enc:=Budget.cells) dU jn (fun _ _ _ e=>e) tD ty173 hl.1 (nthZ aM) (aV aM) U U U U kr (fun q4 A4=>?_))))
     refine tf 3 U U (fun _ _ hj=>jK ty173 (A4.mono hj.1) U U) (tn 4 U (fB (v:=.bool (gU y1)) Tryz.call115 (ye h y1 ) U (⟨jn,(qA [5,6] U ?_)⟩)))
     refine dM 19 U (fun c2=>?_) (fun c2=>?_)
     ·refine qR 7 17 U (bv kr ?_)
      exact hk1 _ ⟨U,U,(cb (show true=((!(gU y1))||(decide (0 < ((i1:Nat):Int))&&decide (y1.No≤(nthI l (((i1:Nat):Int) - 1)).No))) from by rw [c2] <;> rfl)),trivial⟩
     ·refine qR 7 3 U ?_
      refine dM 22 U (fun c3=>?_) (fun c3=>?_)
      ·have c3p:=of_decide_eq_true c3
       refine qA [10,11] U (tf 12 U U (fun _ _ _=>nF (v':=I (((i1:Nat):Int) - 1)) U (im ob)) ?_)
       have ho2:0≤((((i1:Nat):Int) - 1):Int)∧((((i1:Nat):Int) - 1):Int) < ((l).length:Int):=ob
       refine eJ 13 (enc:=Budget.cells) dU jn (fun _ _ _ e=>e) tD ty173 hl.1 ho2 (df ho2) U U U U kr (fun q5 A5=>tf 14 U U (fun _ _ _=>dx oJ U) ?_)
       refine tf 15 U U (fun _ _ hj=>fK ty3 (A5.mono hj.1) U) (qA [16,17] U ?_)
       refine eJ 18 (enc:=Budget.cells) dU jn (fun _ _ _ e=>e) tD ty173 hl.1 (nthZ aM) (aV aM) U U U U kr (fun q6 A6=>tf 19 U U (fun _ _ _=>dx oJ U) ?_)
       refine tf 20 U U (fun _ _ hj=>fK ty3 (A6.mono hj.1) U) (qR 21 3 U (bv kr ?_))
       exact hk1 _ ⟨U,U,(cb (show decide (y1.No≤(nthI l (((i1:Nat):Int) - 1)).No)=((!(gU y1))||(decide (0 < ((i1:Nat):Int))&&decide (y1.No≤(nthI l (((i1:Nat):Int) - 1)).No))) from by rw [c2,c3] <;> rfl)),trivial⟩
      ·have c3p:=of_decide_eq_false c3
       refine qR 10 14 U (bv kr ?_)
       exact hk1 _ ⟨U,U,(cb (show false=((!(gU y1))||(decide (0 < ((i1:Nat):Int))&&decide (y1.No≤(nthI l (((i1:Nat):Int) - 1)).No))) from by rw [c2,c3] <;> rfl)),trivial⟩
    refine ak hs6 U (fun c4 hs8=>?_) (fun c4 hs9=>?_)
    ·refine qT 4 U ?_
     exact ah [I 180] Ec U hX rd (ci hs8)
    ·refine qT 4 U (ai (v':=I (((i1+1):Nat):Int)) U (bz ob) (an ?_))
     exact ag1 ((i1+1),rz1) _ (Nat.lt_succ_self _) ⟨ba hd1,aE hd1,hs9⟩ rd
theorem ip (h:HF) (dL:Int)  : Ret Tryz.prog 33 [I dL] h (.bool (cp dL)):=by
 refine ae Tryz.func33 U Tryz.ntmps33 U fun X hM hX=>?_
 have hs0:cp dL=cp dL:=rfl
 refine qT 9 U ?_
 refine ar 3 [5,6,7,8] 8 (.bool (decide (0≤dL)&&decide (dL < 1099511627776))) (fun hk1=>?_) (fun e=>?_)
 ·refine ac 5 U (fun c1=>?_) (fun c1=>?_)
  ·refine qO 3 U ?_
   exact hk1 _ (cb (cB c1))
  ·refine qO 3 U ?_
   exact hk1 _ (cb (cC c1))
 refine an ?_
 exact ah [.bool (decide (0≤dL)&&decide (dL < 1099511627776))] Tryz.func33 U hX rd (cs hs0)
theorem w6 (rec:Expr→Int→Int) (h:HF) (x:Expr) (fb:cE) (limit:Int) (hrec:∀ (h:HF) (qx:Expr) (jp:cE) (qlimit:Int) (hqx:Expr.ok h qx jp) (_:qx.dep < x.dep),Ret Tryz.prog 266 [.agg (Expr.cells qx jp).toArray,I qlimit] h (I (rec qx qlimit))) (hx:Expr.ok h x fb):Ret Tryz.prog 266 [.agg (Expr.cells x fb).toArray,I limit] h (I (cR.F rec x limit)):=by
 refine ae Tryz.func266 U Tryz.ntmps266 U fun X hM hX=>?_
 have hs0:cR.F rec x limit=cR.F rec x limit:=rfl
 refine sr (dt (fun b1=>qO 11 U ?_))
 refine aU (ι:=Nat×Int) (fun i=>[(5,I i.2)]) (fun i=>h) (fun i=>[(b1,O (Expr.cells x fb) 66)]) (fun i=>i.1≤x.L.length∧cR.F rec x limit=((cR.K1) i.2)) ?_ (fun hx1=>?_)
 ·rintro ⟨i1,iO⟩ ⟨aP,hs1⟩ e
  try dsimp only at aP
  refine qT 5 U ?_
  exact ah [I iO] Tryz.func266 U hX rd (ci hs1)
 ·refine bG (ι:=Nat×Int×List Expr) (fun i=>[(1,I limit),(2,Q b1),(5,I i.2.1),(6,I ((i.1:Nat):Int))]) (fun i=>h) (fun i=>[(b1,O (Expr.cells x fb) 66)]) (fun i=>x.L.drop i.1=i.2.2∧i.1≤x.L.length∧cR.F rec x limit=((cR.L1 rec limit (cR.K1)) i.2.2 i.2.1)) (fun i=>i.2.2.length) (0,1,x.L) rd sw ⟨U,Nat.zero_le _,hs0⟩ ?_
  rintro ⟨i1,iO,s1⟩ ⟨hd1,aP,hs3⟩ ag1 e
  try dsimp only at hd1 aP
  rcases s1 with _ | ⟨y1,rz1⟩
  ·have dr:=cw hd1
   refine qT 4 U (aj dC U (aI 0 ty64 U U U (a8 ga U (ai (v':=.bool false) U (cb dr) (qO 8 U ?_)))))
   exact hx1 (i1,iO) _ ⟨aP,hs3⟩ rd
  ·have dq:=dy hd1
   have aM:=cA hd1
   have ey:=aE hd1
   have gi:=hx.list.1.1
   refine qT 4 U (aj dC U (aI 0 ty64 U U U (a8 ga U (ai (v':=.bool true) U (cb dq) (qO 6 U ?_)))))
   refine ak hs3 U (fun c2 hs5=>?_) (fun c2 hs6=>?_)
   ·have c2p:=of_decide_eq_true c2
    refine qT 5 U (aj dC U (aI 0 ty64 U U U (aB (aN (fF ga ty66 hx.list.1 (nthZ aM) (aV aM) U U U (fun q2 cs2 A2 ln2 rr2=>?_))))))
    obtain ⟨r2,rfl,ok2⟩:=rr2
    refine el ty66 A2 U U (qO 3 U (au (v:=I (rec y1 (IntKind.wrap .i64 (limit - iO)))) Tryz.call266 (hrec h y1 r2 (IntKind.wrap .i64 (limit - iO)) ok2 (Expr.hY (gx hd1))) U (qO 6 U (ai (v':=I (((i1+1):Nat):Int)) U (bz ob) (an ?_)))))
    exact ag1 ((i1+1),(IntKind.wrap .i64 (iO+(rec y1 (IntKind.wrap .i64 (limit - iO))))),rz1) _ (Nat.lt_succ_self _) ⟨ba hd1,aE hd1,hs5⟩ rd
   ·have c2p:=of_decide_eq_false c2
    refine m6 U ?_
    exact hx1 (i1,iO) _ ⟨aP,hs6⟩ rd
theorem pi:∀ (m:Nat) (h:HF) (x:Expr) (fb:cE) (limit:Int) (_:x.dep≤m) (hx:Expr.ok h x fb),Ret Tryz.prog 266 [.agg (Expr.cells x fb).toArray,I limit] h (I (cR.go m x limit))
 | 0,h,x,fb,limit,hd,hx=>absurd hd (Nat.not_le.2 (Expr.jV _))
 | m+1,h,x,fb,limit,hd,hx=>w6 (cR.go m) h x fb limit (fun qh_ qx jp qlimit qhx qd=>pi m qh_ qx jp qlimit ob qhx) hx
theorem yc (h:HF) (x:Expr) (fb:cE) (limit:Int) (hx:Expr.ok h x fb):Ret Tryz.prog 266 [.agg (Expr.cells x fb).toArray,I limit] h (I (cR x limit)):=pi _ h x fb limit (Nat.le_refl _) hx
end Go.Sg
