import Derived.Test.YtngiefchigcphaaGreatDoorW8
/- A part of the proof of AsofSpec. -/
set_option linter.unusedVariables false
set_option linter.unusedSimpArgs false
set_option maxRecDepth 100000
namespace Go.Sg
open Go.Proofs Go.Proofs.Tryz
set_option maxHeartbeats 2000000
theorem mb (h:HF) (aZ:Register) (dD:dR) (doc:Int) (who:List Int) (dA:Option Addr) (dz:Nat) (known:Int) (gM:Register.ok h aZ dD) (hwho:SlC Rp.int h dA dz who) (hsm:smR aZ) (hsw:who.length≤2000000) (hk:Kinds h):iW prog 10 [.agg (Register.cells aZ dD).toArray,I doc,.slice dA who.length dz,I known] h (fun v h'=>∃ (rb0:Option Addr) (rc0:Nat),v=.tuple #[.slice rb0 ((cZ aZ doc who known).1).length rc0,I ((cZ aZ doc who known).2)]∧SlC Span.rp h' rb0 rc0 ((cZ aZ doc who known).1)):=by
 refine cT Fh U ntmps10 U fun X hM hX=>?_
 have hs0:cZ aZ doc who known=cZ aZ doc who known:=rfl
 refine sr (cy (fun b1=>cy (fun b2=>bG zc34 (fun b3=>qO 5 U (cM 2 ty30 U U U (ah call26 (sj _ _ _ gM ob hk) U (qO 2 U (ac hs0 U (fun c1 hs1=>?_) (fun c1 hs2=>?_)))))))))
 ·refine sr (dw 0 ty34 U U U U U U (an ?_))
  have hs3:cZ aZ doc who known=([],300):=hs1
  exact fS [.slice none 0 0,I 300] Fh U ⟨⟨0,_,_,_,_,U,U,.inr ⟨_,ty34,U⟩⟩,U,trivial⟩ ⟨none,0,congrArg (fun r:(List Span×Int)=>(.tuple #[.slice none r.1.length 0,I r.2]:Value)) hs3.symm,(by rw [hs3];exact SlC.nil)⟩
 ·refine qT 3 U (cM 2 ty30 U U U (qO 2 U (az (cg call27 (xx _ _ _ doc known gM) U (fun v1 h1 hle1 hp1=>?_)))))
  obtain ⟨rr1,rfl,ok1⟩:=hp1
  refine qO 3 U (bG zc77 (fun b4=>bC 0 ty77 U U U U U U (qO 8 U (cf 4 [26,27,28,29,30] 26 30 (!(fo who)) U (fun c2 hk1=>?_) (fun e=>?_)))))
  ·exact qL 1 [2] U (ah call28 (Ae _ _ _ _ (hwho.mono Rp.aW hle1)) U (qO 2 U (hk1 _ U)))
  refine aN (ac hs2 U (fun c3 hs4=>?_) (fun c3 hs5=>?_))
  ·refine sr (dw 1 ty34 U U U U U U (an ?_))
   have hs6:cZ aZ doc who known=([],1):=hs4
   exact fS [.slice none 0 0,I 1] Fh U ⟨⟨1,_,_,_,_,U,U,.inr ⟨_,ty34,U⟩⟩,U,trivial⟩ ⟨none,0,congrArg (fun r:(List Span×Int)=>(.tuple #[.slice none r.1.length 0,I r.2]:Value)) hs6.symm,(by rw [hs6];exact SlC.nil)⟩
  ·refine qT 4 U (cM 0 ty77 U U U (az (cg call29 (qf _ _ _ ok1 (by have a_:=(asked (by simpa using c1) (by simp only [decide_eq_true_eq,decide_eq_false_iff_not,Bool.and_eq_true,Bool.or_eq_true,Bool.not_eq_true',Bool.not_eq_false',Bool.and_eq_false_iff,Bool.or_eq_false_iff,beq_iff_eq,beq_eq_false_iff_ne,bne_iff_ne,bne_eq_false_iff_eq,List.length_append,List.length_cons,List.length_nil,List.length_drop] at c3;exact c3.1));rw [a_.reg];exact hsm) (by have a_:=(asked (by simpa using c1) (by simp only [decide_eq_true_eq,decide_eq_false_iff_not,Bool.and_eq_true,Bool.or_eq_true,Bool.not_eq_true',Bool.not_eq_false',Bool.and_eq_false_iff,Bool.or_eq_false_iff,beq_iff_eq,beq_eq_false_iff_ne,bne_iff_ne,bne_eq_false_iff_eq,List.length_append,List.length_cons,List.length_nil,List.length_drop] at c3;exact c3.1));rw [a_.reg];exact a_.vers.okV) (by have a_:=(asked (by simpa using c1) (by simp only [decide_eq_true_eq,decide_eq_false_iff_not,Bool.and_eq_true,Bool.or_eq_true,Bool.not_eq_true',Bool.not_eq_false',Bool.and_eq_false_iff,Bool.or_eq_false_iff,beq_iff_eq,beq_eq_false_iff_ne,bne_iff_ne,bne_eq_false_iff_eq,List.length_append,List.length_cons,List.length_nil,List.length_drop] at c3;exact c3.1));exact ⟨a_.doc.at_.1,Int.le_of_lt a_.doc.at_.2⟩)) U (fun v2 h2 hle2 hp2=>?_))))
   obtain ⟨_,rfl,mo1⟩:=hp2
   refine qO 2 U (gl (cS (L':=([(b4,O (aC.cells ((cB aZ doc known).1) rr1) 77),(b3,O [.slice none 0 0] 34),(b2,O [.slice dA who.length dz] 31),(b1,O (Register.cells aZ dD) 30)])++markB []) ap ?_))
   refine kb (it:=v2) (xs:=(aB ((cB aZ doc known).1))) (ι:=(List Span)×Option Addr×Nat×LH×HF) [] (fun i=>i.2.2.2.2) (fun i=>[(b4,O (aC.cells ((cB aZ doc known).1) rr1) 77),(b3,O [.slice i.2.1 i.1.length i.2.2.1] 34),(b2,O [.slice dA who.length dz] 31),(b1,O (Register.cells aZ dD) 30)]++(i.2.2.2.1)) (fun s i=>cZ aZ doc who known=((cZ.L1 aZ doc who known (cZ.K1)) s i.1)∧cJ Span.rp 46 i.2.2.2.2 i.1 i.2.1 i.2.2.1 i.2.2.2.1∧HF.le h2 i.2.2.2.2∧i.1.length+s.length≤5000000) (fun _=>False) (fun _=>False) 0 (fun _ _ _=>False) ([],none,0,[],h2) Fh U mo1 U Ct (fun _ _ _ _ _ hq=>hq) U (show [(b4,O (aC.cells ((cB aZ doc known).1) rr1) 77),(b3,O [.slice none 0 0] 34),(b2,O [.slice dA who.length dz] 31),(b1,O (Register.cells aZ dD) 30)]=_ from U) ⟨hs5,cJ.nil,lf,(by have a_:=(asked (by simpa using c1) (by simp only [decide_eq_true_eq,decide_eq_false_iff_not,Bool.and_eq_true,Bool.or_eq_true,Bool.not_eq_true',Bool.not_eq_false',Bool.and_eq_false_iff,Bool.or_eq_false_iff,beq_iff_eq,beq_eq_false_iff_ne,bne_iff_ne,bne_eq_false_iff_eq,List.length_append,List.length_cons,List.length_nil,List.length_drop] at c3;exact c3.1));have:=Gx (q:=(cB aZ doc known).1) (by rw [a_.reg];exact hsm) (by rw [a_.reg];exact a_.vers.okV);simpa using this)⟩ ?_ ?_ ?_ ?_ ?_
   ·rintro l1 dm1 lp1 y1 rz1 vs1 ⟨aF,gi,gh,iu,hh1⟩ hr1 X hFR1 ⟨hs7,jc,hl1,u1_0⟩ hl01 hlr1 hv1 hX hXM hlp1 nx1 rt1 ex1 pn1
    try dsimp only at jc hl1 u1_0 hlr1
    obtain rfl:=hv1
    simp only [List.length_cons] at u1_0
    refine cS (L':=[(l1,.loop lp1),(dm1,.deferred (some [])),(b4,O (aC.cells ((cB aZ doc known).1) rr1) 77),(b3,O [.slice gi aF.length gh] 34),(b2,O [.slice dA who.length dz] 31),(b1,O (Register.cells aZ dD) 30)]++(iu++(markB []))) ap (bh (bG zc46 (fun b6=>bC 0 ty46 U U U U U U (iw (L':=[(b6,O (Span.cells y1) 46),(l1,.loop lp1),(dm1,.deferred (some [])),(b4,O (aC.cells ((cB aZ doc known).1) rr1) 77),(b3,O [.slice gi aF.length gh] 34),(b2,O [.slice dA who.length dz] 31),(b1,O (Register.cells aZ dD) 30)]++(iu++(markB []))) U (aN (kc 1 U hlp1 (qK 10 [4] U (cM 3 ty77 U U U (qL 3 [5,0] U (ah call30 (mY _ _ _ _ _ _ y1.From (ok1.mono ((hle2.t hl1).t hlr1)) (hwho.mono Rp.aW (((hle1.t hle2).t hl1).t hlr1)) (by have a_:=(asked (by simpa using c1) (by simp only [decide_eq_true_eq,decide_eq_false_iff_not,Bool.and_eq_true,Bool.or_eq_true,Bool.not_eq_true',Bool.not_eq_false',Bool.and_eq_false_iff,Bool.or_eq_false_iff,beq_iff_eq,beq_eq_false_iff_ne,bne_iff_ne,bne_eq_false_iff_eq,List.length_append,List.length_cons,List.length_nil,List.length_drop] at c3;exact c3.1));rw [a_.reg];exact hsm) (by have a_:=(asked (by simpa using c1) (by simp only [decide_eq_true_eq,decide_eq_false_iff_not,Bool.and_eq_true,Bool.or_eq_true,Bool.not_eq_true',Bool.not_eq_false',Bool.and_eq_false_iff,Bool.or_eq_false_iff,beq_iff_eq,beq_eq_false_iff_ne,bne_iff_ne,bne_eq_false_iff_eq,List.length_append,List.length_cons,List.length_nil,List.length_drop] at c3;exact c3.1));rw [a_.reg];exact a_.vers.okV) (by have a_:=(asked (by simpa using c1) (by simp only [decide_eq_true_eq,decide_eq_false_iff_not,Bool.and_eq_true,Bool.or_eq_true,Bool.not_eq_true',Bool.not_eq_false',Bool.and_eq_false_iff,Bool.or_eq_false_iff,beq_iff_eq,beq_eq_false_iff_ne,bne_iff_ne,bne_eq_false_iff_eq,List.length_append,List.length_cons,List.length_nil,List.length_drop] at c3;exact c3.1));exact ⟨⟨a_.doc.at_.1,Int.le_of_lt a_.doc.at_.2⟩,a_.doc.kind.1⟩) ob (hk.mono (((hle1.t hle2).t hl1).t hlr1))) U (qO 3 U (ac hs7 U (fun c5 hs8=>?_) (fun c5 hs9=>?_)))))))))))))
    ·exact aG (qT 2 U (bY (L':=[(l1,.loop { lp1 with state:=.busy }),(dm1,.deferred (some [])),(b4,O (aC.cells ((cB aZ doc known).1) rr1) 77),(b3,O [.slice gi aF.length gh] 34),(b2,O [.slice dA who.length dz] 31),(b1,O (Register.cells aZ dD) 30)]++(iu++(markB []))) js (cS (L':=rdH l1 dm1 lp1 (([(b4,O (aC.cells ((cB aZ doc known).1) rr1) 77),(b3,O [.slice gi aF.length gh] 34),(b2,O [.slice dA who.length dz] 31),(b1,O (Register.cells aZ dD) 30)]++(iu))++markB [])) ap (nx1 (aF,gi,gh,iu,hr1) _ _ ⟨hs8,(jc.mono Span.ak hlr1),(hl1.t hlr1),(by first | omega | (simp only [List.length_append,List.length_cons,List.length_nil,List.length_set];omega))⟩ lf))))
    ·refine dB ?_
     refine jM [(8,Q b3),(12,Q b6),(13,I (aF.length:Int)),(47,.bool (decide (0 < (aF.length:Int))&&((nthI aF ((aF.length:Int) - 1)).Until==y1.From)))] (fun e=>?_) (fun hk2=>?_)
     rotate_left
     ·refine eA ([(b6,O (Span.cells y1) 46),(l1,.loop { lp1 with state:=.busy }),(dm1,.deferred (some [])),(b4,O (aC.cells ((cB aZ doc known).1) rr1) 77),(b3,O [.slice gi aF.length gh] 34),(b2,O [.slice dA who.length dz] 31),(b1,O (Register.cells aZ dD) 30)]++(iu)) mixed kr jn (fun cI _=>?_)
      refine qR 0 3 U ?_
      refine ct 50 U (fun c6=>?_) (fun c6=>?_)
      ·have c6p:=of_decide_eq_true c6
       refine tf 3 U U (fun _ _ hj=>fw ty34 U (hj.nth (i:=4) U) U) (tm 4 U (tf 5 U U (fun _ _ _=>kS (v':=I ((aF.length:Int) - 1)) U (gz ob)) ?_))
       have ho2:0≤(((aF.length:Int) - 1):Int)∧(((aF.length:Int) - 1):Int) < ((aF).length:Int):=ob
       obtain ⟨bk2,hbk2⟩:=cJ.jD (jc.mono Span.ak hlr1) ob
       exact tf 6 U U (fun _ _ _=>mN (R:=Span.rp) (xs:=aF) rG ty46 hbk2 ho2 U U U) (qB [7] U (tf 8 U U (fun _ _ hj=>yZ (R:=Span.rp) (i:=(((aF.length:Int) - 1):Int).toNat) (off:=1) ty3 (jc.mono Span.ak hlr1) hbk2 (bJ ho2) (fun cs hcs=>by rw [show cs=Span.cells (nthI aF ((aF.length:Int) - 1)) from hcs];rfl) U (mj hj)) (qB [9] U (tf 10 U U (fun _ _ hj=>fw ty3 U (hj.nth (i:=0) U) U) (qR 11 3 U (aI kr (hk2 _ ⟨U,U,U,(cb (show ((nthI aF ((aF.length:Int) - 1)).Until==y1.From)=(decide (0 < (aF.length:Int))&&((nthI aF ((aF.length:Int) - 1)).Until==y1.From)) from by rw [c6] <;> rfl)),trivial⟩)))))))
      ·have c6p:=of_decide_eq_false c6
       exact tk 3 U U (qR 4 10 U (aI kr (hk2 _ ⟨U,U,U,(cb (show false=(decide (0 < (aF.length:Int))&&((nthI aF ((aF.length:Int) - 1)).Until==y1.From)) from by rw [c6] <;> rfl)),trivial⟩)))
     refine ac hs9 U (fun c7 hs10=>?_) (fun c7 hs11=>?_)
     ·refine qK 3 [4] U (ae (v':=I ((aF.length:Int) - 1)) U (gz ob) (qL 2 [0] U ?_))
      have ho3:0≤(((aF.length:Int) - 1):Int)∧(((aF.length:Int) - 1):Int) < ((aF).length:Int):=ob
      obtain ⟨bk3,hbk3⟩:=cJ.jD (jc.mono Span.ak hlr1) ob
      exact az (fy (mN (R:=Span.rp) (xs:=aF) rG ty46 hbk3 ho3 U U U) (qL 1 [] U (az (uY (R:=Span.rp) (i:=(((aF.length:Int) - 1):Int).toNat) (off:=1) (u:=(nthI aF ((aF.length:Int) - 1))) (u':=(Span.mk (nthI aF ((aF.length:Int) - 1)).From y1.Until)) (v:=I y1.Until) ([(b6,O (Span.cells y1) 46),(l1,.loop { lp1 with state:=.busy }),(dm1,.deferred (some [])),(b4,O (aC.cells ((cB aZ doc known).1) rr1) 77),(b3,O [.slice gi aF.length gh] 34),(b2,O [.slice dA who.length dz] 31),(b1,O (Register.cells aZ dD) 30)]) iu (markB []) ty3 U (jc.mono Span.ak hlr1) ap hbk3 (bJ ho3) (by decide) (fun cs hcs=>by rw [show cs=Span.cells (nthI aF ((aF.length:Int) - 1)) from hcs];rfl) U U U (fun G1 gr1=>iw (L':=[(b6,O (Span.cells y1) 46),(l1,.loop { lp1 with state:=.busy }),(dm1,.deferred (some [])),(b4,O (aC.cells ((cB aZ doc known).1) rr1) 77),(b3,O [.slice gi ((aF.set (((aF.length:Int) - 1):Int).toNat (Span.mk (nthI aF ((aF.length:Int) - 1)).From y1.Until)).length) gh] 34),(b2,O [.slice dA who.length dz] 31),(b1,O (Register.cells aZ dD) 30)]++(G1++(markB []))) (by simp only [List.length_set,List.append_assoc,List.cons_append,List.nil_append,List.append_nil]) (qO 3 U (bY (L':=[(l1,.loop { lp1 with state:=.busy }),(dm1,.deferred (some [])),(b4,O (aC.cells ((cB aZ doc known).1) rr1) 77),(b3,O [.slice gi ((aF.set (((aF.length:Int) - 1):Int).toNat (Span.mk (nthI aF ((aF.length:Int) - 1)).From y1.Until)).length) gh] 34),(b2,O [.slice dA who.length dz] 31),(b1,O (Register.cells aZ dD) 30)]++(G1++(markB []))) js (cS (L':=rdH l1 dm1 lp1 (([(b4,O (aC.cells ((cB aZ doc known).1) rr1) 77),(b3,O [.slice gi ((aF.set (((aF.length:Int) - 1):Int).toNat (Span.mk (nthI aF ((aF.length:Int) - 1)).From y1.Until)).length) gh] 34),(b2,O [.slice dA who.length dz] 31),(b1,O (Register.cells aZ dD) 30)]++G1)++markB [])) ap (nx1 ((aF.set (((aF.length:Int) - 1):Int).toNat (Span.mk (nthI aF ((aF.length:Int) - 1)).From y1.Until)),gi,gh,G1,hr1) _ _ ⟨hs10,gr1,(hl1.t hlr1),(by first | omega | (simp only [List.length_append,List.length_cons,List.length_nil,List.length_set];omega))⟩ lf)))))))))
     ·exact qK 2 [4] U (cM 0 ty46 U U U (az (bd (cells:=[I y1.From,I y1.Until]) rG ty46 zc46 U U kr (fun b7=>az (bR Span.ey ([(b7,O [I y1.From,I y1.Until] 46),(b6,O (Span.cells y1) 46),(l1,.loop { lp1 with state:=.busy }),(dm1,.deferred (some [])),(b4,O (aC.cells ((cB aZ doc known).1) rr1) 77),(b3,O [.slice gi aF.length gh] 34),(b2,O [.slice dA who.length dz] 31),(b1,O (Register.cells aZ dD) 30)]) (markB []) (fun G=>[(b7,O [I y1.From,I y1.Until] 46),(b6,O (Span.cells y1) 46),(l1,.loop { lp1 with state:=.busy }),(dm1,.deferred (some [])),(b4,O (aC.cells ((cB aZ doc known).1) rr1) 77),(b3,O [.slice gi aF.length gh] 34),(b2,O [.slice dA who.length dz] 31),(b1,O (Register.cells aZ dD) 30)]++(markB []++G)) ap (fun _=>ap) rG ty46 zc46 U bytes46 (jc.mono Span.ak hlr1) U U (dr 0 U (show aT Span.rp hr1 [I y1.From,I y1.Until] ([y1]) from ⟨[I y1.From,I y1.Until],[],U,U,U,U⟩)) lo lo (fun ob1 oc1 G2 gr2=>xR (sQ ([(b7,O [I y1.From,I y1.Until] 46),(b6,O (Span.cells y1) 46),(l1,.loop { lp1 with state:=.busy }),(dm1,.deferred (some [])),(b4,O (aC.cells ((cB aZ doc known).1) rr1) 77),(b3,O [.slice gi aF.length gh] 34),(b2,O [.slice dA who.length dz] 31),(b1,O (Register.cells aZ dD) 30)]) G2 (markB [])) (dw 5 ty34 U U U U U U (qO 3 U (bY (L':=[(l1,.loop { lp1 with state:=.busy }),(dm1,.deferred (some [])),(b4,O (aC.cells ((cB aZ doc known).1) rr1) 77),(b3,O [.slice ob1 ((aF++[y1]).length) oc1] 34),(b2,O [.slice dA who.length dz] 31),(b1,O (Register.cells aZ dD) 30)]++(G2++(markB []))) js (cS (L':=rdH l1 dm1 lp1 (([(b4,O (aC.cells ((cB aZ doc known).1) rr1) 77),(b3,O [.slice ob1 ((aF++[y1]).length) oc1] 34),(b2,O [.slice dA who.length dz] 31),(b1,O (Register.cells aZ dD) 30)]++G2)++markB [])) ap (nx1 ((aF++[y1]),ob1,oc1,G2,hr1) _ _ ⟨hs11,gr2,(hl1.t hlr1),(by first | omega | (simp only [List.length_append,List.length_cons,List.length_nil,List.length_set];omega))⟩ lf)))))))))))
   ·rintro dm1 ⟨aF,gi,gh,iu,hh1⟩ hn1 ⟨hs12,jc,hl1,u1_0⟩ hln1 hl01
    try dsimp only at jc hl1 u1_0 hln1
    refine cS (L':=[(b4,O (aC.cells ((cB aZ doc known).1) rr1) 77),(b3,O [.slice gi aF.length gh] 34),(b2,O [.slice dA who.length dz] 31),(b1,O (Register.cells aZ dD) 30)]++(iu++(markB (dm1::[])))) ap (qK 4 [1] U (dw 1 ty34 U U U U U U (an (eK Span.ak ([(b4,O (aC.cells ((cB aZ doc known).1) rr1) 77),(b3,O [.slice gi aF.length gh] 34),(b2,O [.slice dA who.length dz] 31),(b1,O (Register.cells aZ dD) 30)]) iu (markB (dm1::[])) ap hM (jc.mono Span.ak hln1) (fun h3 hle3 sl1=>?_)))))
    have hs13:cZ aZ doc who known=(aF,0):=hs12
    exact cS (L':=([(b4,O (aC.cells ((cB aZ doc known).1) rr1) 77),(b3,O [.slice gi aF.length gh] 34),(b2,O [.slice dA who.length dz] 31),(b1,O (Register.cells aZ dD) 30)])++markB (dm1::[])) ap (pL (dm1::[]) [.slice gi aF.length gh,I 0] Fh U ⟨⟨1,_,_,_,_,U,U,.inr ⟨_,ty34,U⟩⟩,U,trivial⟩ ⟨gi,gh,congrArg (fun r:(List Span×Int)=>(.tuple #[.slice gi r.1.length gh,I r.2]:Value)) hs13.symm,(by rw [hs13];exact sl1)⟩)
   ·exact xf
   ·exact xf
   ·exact xf
theorem ry (h:HF) (q:aC) (j5:fM) (person:Int) (aQ:Int) (hq:aC.ok h q j5) (hsm:smR q.Register) (hov:okV q.Register.Versions) (hod:(0≤q.doc.At∧q.doc.At≤1099511627776)∧0≤q.doc.Kind) (hk:Kinds h):iW prog 38 [.agg (aC.cells q j5).toArray,I person,I aQ] h (fun v h'=>∃ (rb0:Option Addr) (rc0:Nat),v=.slice rb0 (a8 q person aQ).length rc0∧SlC Rp.int h' rb0 rc0 (a8 q person aQ)):=by
 refine sT func38 U ntmps38 U fun X hM hX hF=>?_
 have hs0:a8 q person aQ=a8 q person aQ:=rfl
 have hjl:=zo q aQ
 have hvl:=hov.1
 refine sr (cy (fun b1=>qO 4 U (az (oX (fun b2=>qL 11 [1] U (ac hs0 U (fun c1 hs1=>?_) (fun c1 hs2=>?_)))))))
 ·have c1p:=of_decide_eq_true c1
  refine qT 4 U ?_
  have hs3:a8 q person aQ=[]:=hs1
  exact nretH [.slice none 0 0] ⟨none,0,congrArg (fun r:List Int=>(.slice none r.length 0:Value)) hs3.symm,(by rw [hs3];exact SlC.nil)⟩
 ·have c1p:=of_decide_eq_false c1
  refine qT 3 U (cM 1 ty77 U U U (aj (az (cg call65 (mA _ _ _ aQ hq ob hk) U (fun v1 h1 hle1 hp1=>?_)))))
  obtain ⟨rb1,rc1,rfl,sl1⟩:=hp1
  refine qL 13 [] U ?_
  let z1:Nat×Obj:=(b1,O (aC.cells q j5) 77)
  refine lp2 ((ao q aQ).1) (fun i w=>[(1,I person),(2,I aQ),(3,Q b1),(7,.map (some b2)),(28,.slice rb1 (((ao q aQ).1).length) rc1),(29,I (((ao q aQ).1).length:Int)),(30,I (i:Int))]) (fun w=>w.2.2) (fun w=>[(b2,w.2.1),z1]) (fun i w=>hY (Value.int .i64) iV w.2.2 w.2.1 w.1∧w.1.length≤64000000 * i∧HF.le h1 w.2.2) (fun s1 i w=>(a8.L1 q aQ (a8.K1 person)) s1 w.1) ([],.map #[] 0,h1) sl1.1.1 hs2 ⟨((hY.nil (enc:=(Value.int .i64)) (V:=iV) (h:=h)).mono iV.mono hle1),lc,lf⟩ ?_ ?_
  ·rintro i1 ⟨dt,kp,hh1⟩ eR hs4 ⟨gR,lz,hl1⟩ e
   try dsimp only at gR lz hl1
   refine qT 4 U (az (HE 0 (k:=person) n9 (eJ kK) U gR U U (fun mo4 hm4=>qO 4 U (bO 0 U hM (fun h3 hle3 hb1=>?_)))))
   have mc1:oS (Value.int .i64) iV h3 b2 (mdel dt person):=⟨_,hb1,hm4.mono iV.mono hle3⟩
   refine az (cg call61 (pq h3 (mdel dt person) b2 mc1) U (fun v3 h4 hle4 hp3=>az (cg call60 (lO h4 v3 ((mdel dt person).map Prod.fst) hp3 (by rw [List.length_map];have:=(zk person dt).length_le;omega)) U (fun v4 h5 hle5 hp4=>?_))))
   obtain ⟨rb4,rc4,rfl,sl4⟩:=hp4
   refine an ?_
   have hs5:a8 q person aQ=(sortI ((mdel dt person).map Prod.fst)):=hs4
   exact nretH [.slice rb4 ((sortI ((mdel dt person).map Prod.fst)).length) rc4] ⟨rb4,rc4,congrArg (fun r:List Int=>(.slice rb4 r.length rc4:Value)) hs5.symm,(by rw [hs5];exact sl4)⟩
  ·rintro i1 ⟨dt,kp,hh1⟩ y1 rz1 hd1 cz ar dF fF hs6 ⟨gR,lz,hl1⟩ hx1 ag1 e
   try dsimp only at gR lz hl1
   obtain ⟨v_,hv_,hve_⟩:=qI (fA hd1)
   have hsp:=hsm.vers.2 v_ hv_
   rw [hve_] at hsp
   have hvt:=hov.2 v_ hv_
   rw [hve_] at hvt
   have hofl:=hsp.2.2.2.1
   have hql:=Cg q y1 aQ
   refine sr (ae (v':=.bool true) U (cb cz) (qO 8 U (az (dU GX ty68 (sl1.mono Policy.ak hl1).1 (nthZ ar) (au ar) U U U (fun _ _ _ e=>e) (fun q6 r2 A6 ok2=>dg ty68 A6 U U (bG zc68 (fun b7=>bC 0 ty68 U U U U U U (qO 3 U (cM 2 ty77 U U U (cM 0 ty68 U U U (aj (az (cg call66 (ma _ _ _ _ _ aQ (hq.mono (hle1.t hl1)) ok2 ob ob) U (fun v5 h6 hle6 hp5=>?_))))))))))))))
   obtain ⟨rb5,rc5,rfl,sl5⟩:=hp5
   refine qL 3 [] U ?_
   let z2:Nat×Obj:=(b7,O (Policy.cells y1 r2) 68)
   refine lp2 (av q y1 aQ) (fun i w=>[(1,I person),(2,I aQ),(3,Q b1),(7,.map (some b2)),(28,.slice rb1 (((ao q aQ).1).length) rc1),(29,I (((ao q aQ).1).length:Int)),(30,I (i1:Int)),(37,.slice rb5 ((av q y1 aQ).length) rc5),(38,I ((av q y1 aQ).length:Int)),(39,I (i:Int))]) (fun _=>h6) (fun w=>[z2,(b2,w.2),z1]) (fun i w=>hY (Value.int .i64) iV h6 w.2 w.1∧w.1.length≤dt.length+2000000 * i) (fun s5 i w=>(a8.L5 (fun zg5_b2_0=>(a8.L1 q aQ (a8.K1 person) rz1 zg5_b2_0))) s5 w.1) (dt,kp) sl5.1.1 hs6 ⟨(gR.mono iV.mono hle6),lc⟩ ?_ ?_
   ·rintro i5 ⟨jY,nt⟩ uA hs7 ⟨lu,oF⟩ e
    try dsimp only at lu oF
    exact e8 (bh (ae (v':=I (((i1+1):Nat):Int)) U (aL ob) (qO 2 U (bY (L':=[(b2,nt),z1]) js (ag1 (jY,nt,h6) hs7 ⟨lu,lc,(hl1.t hle6)⟩)))))
   ·rintro i5 ⟨jY,nt⟩ y5 rz5 hd5 Ki D0 KH KY hs8 ⟨lu,oF⟩ hx5 ag2 e
    try dsimp only at lu oF
    have hyb:=rU hsm.2.1 y1 aQ y5 (fA hd5)
    refine sr (ae (v':=.bool true) U (cb Ki) (qO 8 U (az (wX tC ty101 sl5.1 (nthZ D0) (au D0) U U U (fun q11 cs5 A11 ln5 rr5=>?_)))))
    obtain ⟨rb7,rc7,rfl,sl7⟩:=rr5
    refine cL ty101 A11 U (qL 8 [] U ?_)
    refine lp2 y5 (fun i w=>[(1,I person),(2,I aQ),(3,Q b1),(7,.map (some b2)),(28,.slice rb1 (((ao q aQ).1).length) rc1),(29,I (((ao q aQ).1).length:Int)),(30,I (i1:Int)),(37,.slice rb5 ((av q y1 aQ).length) rc5),(38,I ((av q y1 aQ).length:Int)),(39,I (i5:Int)),(43,.slice rb7 y5.length rc7),(44,I (y5.length:Int)),(45,I (i:Int))]) (fun _=>h6) (fun w=>[z2,(b2,w.2),z1]) (fun i w=>hY (Value.int .i64) iV h6 w.2 w.1∧w.1.length≤jY.length+i) (fun s7 i w=>(a8.L7 (fun zg7_b2_0=>(a8.L5 (fun zg5_b2_0=>(a8.L1 q aQ (a8.K1 person) rz1 zg5_b2_0)) rz5 zg7_b2_0))) s7 w.1) (jY,nt) sl7.1.1 hs8 ⟨lu,lc⟩ ?_ ?_
    ·rintro i7 ⟨pu,D2⟩ Jk hs9 ⟨su,zz⟩ e
     try dsimp only at su zz
     exact e8 (bh (ae (v':=I (((i5+1):Nat):Int)) U (aL ob) (qO 2 U (ag2 (pu,D2) hs9 ⟨su,lc⟩))))
    ·rintro i7 ⟨pu,D2⟩ y7 rz7 hd7 KU JF K7 Lb hs10 ⟨su,zz⟩ hx7 ag3 e
     try dsimp only at su zz
     exact sr (ae (v':=.bool true) U (cb KU) (qO 8 U (az (ef (enc:=Holder.cells) ei rl ty133 sl7.1 (nthZ JF) (au JF) U U U (fun q13 A13=>dg ty133 A13 U U (bG zc133 (fun b12=>bC 0 ty133 U U U U U U (qL 5 [0] U (az (ke 2 (k:=y7.Person) (x:=true) n9 (eJ kK) U su U U U (fun mo9 hm9=>qO 3 U (ae (v':=I (((i7+1):Nat):Int)) U (aL ob) (qO 2 U (bY (L':=[z2,(b2,mo9),z1]) js (ag3 ((mput pu y7.Person true),mo9) hs10 ⟨hm9,(by have:=gr pu y7.Person true;first | omega | (simp only [List.length_nil,List.length_cons] at *;omega))⟩)))))))))))))))
theorem cJ.anyI {h h':HF} {xs:List Int} {b:Option Addr} {c:Nat} {E:TypeId} {G:LH} (g:cJ Rp.int E h xs b c G):cJ Rp.int E h' xs b c G:=by
 rcases g with ⟨rfl,rfl,rfl,rfl⟩ | ⟨bk,cl,sp,rfl,hcl,h3,h4,h5,rfl⟩
 ·exact cJ.nil
 ·have:=ux hcl
  subst this
  exact .inr ⟨bk,_,sp,U,uK h' _,h3,h4,h5,U⟩
section callGB
variable {P:Program} {b:Frame} {n:Nat} {ops:Array Oper} {F:List Frame→(Machine→Prop)→Prop} {e:Env} {ds:List Deferred} {X:Cx} {h:HF} {L:LH} {K:Env→HF→LH→Prop}
variable {d:Option Nat} {ty:TypeId} {pos:String} {af:Array Edge} {g:Option (Nat×Bool)}
theorem De (A G Q:LH) {xs ys:List Int} {base:Option Addr} {cap:Nat} {f:FuncId} {ass:Array Operand} {ats:Array TypeId} {vs:List Value} (hc:∀ args w,(callFunc f args).run P w=.ok (.enter f args) w) (hG:cJ Rp.int 3 h xs base cap G) (hL:L=A++(G++Q))
  (hs:∀ h1,h.le h1→SlC Rp.int h1 base cap xs→Ku P f vs h1 Rp.int 3 ys) (hvs:ass.toList.map e.ev=vs)
  (t':∀ bb c G',cJ Rp.int 3 h ys bb c G'→K (pute e d (.slice bb ys.length c)) h (L++G'))
  (hg:guardB ops e ⟨d,.call ⟨.value (.func f),ass,ats⟩,ty,pos,af,g⟩=true:=by rfl):
  Stp P b n ops F ds X ⟨d,.call ⟨.value (.func f),ass,ats⟩,ty,pos,af,g⟩ e h L K:=by
 unfold Stp
 rw [if_pos hg]
 intro w hw
 have harr:ass.map e.ev=vs.toArray:=Array.ext' (by simp [← hvs])
 have hr:(execOp e.ev ⟨d,.call ⟨.value (.func f),ass,ats⟩,ty,pos,af,g⟩).run P w=.ok (.enter f vs.toArray) w:=by
  simp [execOp,resolve,Env.ev,Deferred.ofValue,invoke,harr,hc]
 rw [hr]
 have back:∀ (h1:HF),h.le h1→(∀ bk o,h1 bk=some o→w.heap[bk]? = some o)→SlC Rp.int h1 base cap xs→qh P b n F ds X ⟨d,.call ⟨.value (.func f),ass,ats⟩,ty,pos,af,g⟩ e K (.ok (.enter f vs.toArray) w):=by
  intro h1 hle himm hsl
  have hp1:Pre h1 [] w:=⟨himm,fun _ hp=>(List.not_mem_nil hp).elim,List.nodup_nil,fun _ hp=>(List.not_mem_nil hp).elim⟩
  refine jF (by simp) (jf (nM.mono (hs h1 hle hsl w hp1) ?_))
  rintro x w' ⟨h',B,hst,rfl,bb,c,rfl,hG'⟩
  have hnew:∀ p∈B,w.heap.size≤p.1:=fun p hp=>(hst.new p hp).elim id (fun hq=>by simp at hq)
  refine ⟨h,L++B,⟨hst.os.trans hw.os,hst.tape.trans hw.tape,hst.output.trans hw.output,Nat.le_trans hw.size hst.size,fun b' hb' hM=>?_,hw.le,hw.old,fun b' o hb'=>?_,fun p hp=>?_,?_,fun p hp=>?_,fun p hp=>?_⟩,t' bb c B hG'.anyI⟩
  ·rw [hst.keep b' (Nat.lt_of_lt_of_le hb' hw.size) (by simp)];exact hw.keep b' hb' hM
  ·rw [hst.keep b' (fh (hw.imm b' o hb')) (by simp)];exact hw.imm b' o hb'
  ·rcases List.mem_append.1 hp with hp | hp
   ·rw [hst.keep p.1 (fh (hw.own p hp)) (by simp)];exact hw.own p hp
   ·exact hst.own p hp
  ·rw [List.map_append,List.nodup_append]
   refine ⟨hw.dis,hst.dis,fun x hx y hy hxy=>?_⟩
   obtain ⟨p,hp,rfl⟩:=List.mem_map.1 hx
   obtain ⟨q,hq,rfl⟩:=List.mem_map.1 hy
   have:=fh (hw.own p hp)
   have:=hnew q hq
   omega
  ·rcases List.mem_append.1 hp with hp | hp
   ·exact hw.free p hp
   ·cases hh:h p.1 with
    | none=>rfl
    | some o=>have:=fh (hw.imm _ _ hh);have:=hnew p hp;omega
  ·rcases List.mem_append.1 hp with hp | hp
   ·exact hw.new p hp
   ·exact .inl (Nat.le_trans hw.size (hnew p hp))
 rcases hG with ⟨rfl,rfl,rfl,rfl⟩ | ⟨bk,cl,sp,rfl,hcl,h3,h4,h5,rfl⟩
 ·exact back h lf hw.imm SlC.nil
 ·have hmem:(bk,O (cl++sp) 3)∈L:=by rw [hL];simp
  have hle:h.le (h.add bk (.cells (cl++sp).toArray 3 (0,0))):=HF.se (hw.free _ hmem)
  refine back _ hle (fun k o hk=>?_) ⟨aT.slB (hcl.mono Rp.aW hle) (HF.oQ _ _ _) h5,h4⟩
  unfold HF.add at hk
  by_cases e0:k=bk
  ·subst e0;simp at hk;subst hk;exact hw.own _ hmem
  ·rw [if_neg e0] at hk;exact hw.imm k o hk
end callGB
structure CH (h:HF) (q:aC) (j5:fM) (person at_:Int) (help:List Int) (hb:Option Addr) (hc:Nat) (q3 q4 q5 q6 q7:Addr) (bw:Nat):Prop where
 hq:aC.ok h q j5
 a3:At h q3 [I person]
 a4:At h q4 (aC.cells q j5)
 a5:At h q5 [I at_]
 a6:At h q6 [.slice hb help.length hc]
 a7:At h q7 [.func (.func 39) #[] #[.pointer (some ⟨bw,0,none⟩),.pointer (some q3),.pointer (some q4),.pointer (some q5),.pointer (some q6),.pointer (some q7)]]
 hh:SlC Rp.int h hb hc help
 kk:Kinds h
 sm:smR q.Register
 ov:okV q.Register.Versions
 od:(0≤q.doc.At∧q.doc.At≤1099511627776)∧0≤q.doc.Kind
 le:help.length≤12
@[reducible] def needClo (q3 q4 q5 q6 q7:Addr) (bw:Nat):List Value:=[.pointer (some ⟨bw,0,none⟩),.pointer (some q3),.pointer (some q4),.pointer (some q5),.pointer (some q6),.pointer (some q7)]
@[reducible] def needCell (bw:Nat) (b:Option Addr) (n c:Nat):Nat×Obj:=(bw,.cells [Value.slice b n c].toArray 31 (0,0))
@[reducible] def needR (h:HF) (bw:Nat) (ws:List Int) (r:Option (List Int)):Ending→HF→LH→Prop:=fun x h' B=>h'=h∧x=.returned (.bool r.isSome)∧∃ rb rc G',cJ Rp.int 3 h (r.getD ws) rb rc G'∧B=needCell bw rb (r.getD ws).length rc::G'
theorem EB {h:HF} {q:aC} {j5:fM} {person at_:Int} {help:List Int} {hb:Option Addr} {hc:Nat} {q3 q4 q5 q6 q7:Addr} {bw:Nat} (N:CH h q j5 person at_ help hb hc q3 q4 q5 q6 q7 bw)
  (fr:Nat) (ws:List Int) (wb:Option Addr) (wc:Nat) (G:LH) (hG:cJ Rp.int 3 h ws wb wc G) (hws:ws.length≤100):
  nB prog 39 ([Value.int .i64 (fr:Nat),Value.int .i64 ((0:Nat):Int)]++needClo q3 q4 q5 q6 q7 bw).toArray h (needCell bw wb ws.length wc::G) (needR h bw ws (tryP (needC q person at_) help 0 fr ws)):=by
 refine cT Fg U ntmps39 U fun X hM hX=>qT 8 U (ae (v':=.bool true) U U (qO 2 U ?_))
 refine dB (BU (ι:=Nat×Option Addr×Nat×LH) (fun i=>[(2,.pointer (some ⟨bw,0,none⟩)),(4,.pointer (some q4)),(5,.pointer (some q5)),(11,.slice i.2.1 (ws++[person]).length i.2.2.1)])
  (fun i=>((i.1,.cells [Value.int .i64 person].toArray 3 (0,0))::needCell bw wb ws.length wc::G)++i.2.2.2) (fun i=>cJ Rp.int 3 h (ws++[person]) i.2.1 i.2.2.1 i.2.2.2) ?_ (fun hk=>?_))
 ·rintro ⟨bs,bb,c,G2⟩ hG2 e
  dsimp only at hG2
  refine qT 3 U (az (rK ((bs,.cells [Value.int .i64 person].toArray 3 (0,0))::needCell bw wb ws.length wc::G) G2 [] call41 (mm h _ bb c G2 hG2 (by rw [List.length_append,List.length_cons,List.length_nil];omega)) (by simp) U (fun G3 hG3=>qO 3 U (dg ty77 N.a4 U U (aj (cL ty3 N.a5 U ?_))))))
  refine az (Dd (v:=.bool (needC q person at_ ws)) ((bs,.cells [Value.int .i64 person].toArray 3 (0,0))::needCell bw wb ws.length wc::G) G3 [] call30 Rp.aW hG3 U
   (fun h1 hle hsl=>mY h1 q j5 _ _ _ at_ (N.hq.mono hle) hsl N.sm N.ov N.od (by rw [hZ,List.length_append,List.length_cons,List.length_nil];omega) (N.kk.mono hle)) (by rw [hZ];rfl) ?_)
  refine an ?_
  have e1:tryP (needC q person at_) help 0 fr ws=bif needC q person at_ ws then some ws else none:=rfl
  refine mF Fg (fun a ha w hw=>res1 U a ha w) (fun w hw=>(hw.sub (L':=needCell bw wb ws.length wc::G) js).lower) ⟨hX,?_,wb,wc,G,?_,?_⟩
  ·rw [e1];cases needC q person at_ ws <;> rfl
  ·rw [e1];cases needC q person at_ ws <;> exact hG
  ·rw [e1];cases needC q person at_ ws <;> rfl
 refine (eA [needCell bw wb ws.length wc] mixed kr ⟨HF.le_refl _,fun p hp=>by rw [List.mem_singleton.1 hp];exact List.mem_cons_self ..⟩ (fun hsep hj0=>lH 0 hsep hj0 U U kr U (fun _ _ hj=>fw ty31 U (hj.nth (i:=0) U) U) (lH 2 hsep hj0 U U kr U (fun _ _ hj=>eL ty3 (N.a3.mono hj.1) U) ?_)))
 refine ju 1 3 kr U U ?_ ?_
 ·refine De [needCell bw wb ws.length wc] G [] call40 hG (by simp) (fun h1 hle hsl=>lP h1 ws wb wc hsl ob) U (fun bb c G2 hG2=>⟨⟨HF.le_refl _,fun p hp=>by rw [List.mem_singleton.1 hp];exact List.mem_cons_self ..⟩,tn 3 U (bd (cells:=[I person]) cR ty3 zc3 U U kr (fun bs=>⟨⟨HF.le_refl _,fun p hp=>by rw [List.mem_singleton.1 hp];exact List.mem_cons_of_mem _ (List.mem_cons_self ..)⟩,?_⟩))⟩)
  refine tn 4 U (bR Rp.dM ((bs,.cells [Value.int .i64 person].toArray 3 (0,0))::needCell bw wb ws.length wc::G) [] (fun G'=>((bs,.cells [Value.int .i64 person].toArray 3 (0,0))::needCell bw wb ws.length wc::G)++([]++G')) (by simp) (fun _=>U) cR ty3 zc3 U bytes3 hG2 U U
   (dr 0 rfl (show aT Rp.int h [I person] [person] from ⟨[I person],[],rfl,rfl,rfl,rfl⟩)) lo lo (fun bb3 c3 G3 hG3=>?_))
  exact ⟨⟨HF.le_refl _,fun p hp=>by rw [List.mem_singleton.1 hp];simp⟩,tn 5 U (fy Dn (⟨⟨HF.le_refl _,fun p hp=>by rw [List.mem_singleton.1 hp];simp⟩,aI kr (hk (bs,bb3,c3,G3) _ hG3 rd)⟩))⟩
 ·refine bd (cells:=[I person]) cR ty3 zc3 U U kr (fun bs=>⟨⟨HF.le_refl _,fun p hp=>by rw [List.mem_singleton.1 hp];exact List.mem_cons_of_mem _ (List.mem_cons_self ..)⟩,tn 1 U (De [(bs,.cells [Value.int .i64 person].toArray 3 (0,0)),needCell bw wb ws.length wc] G [] call40 hG (by simp) (fun h1 hle hsl=>lP h1 ws wb wc hsl ob) U (fun bb c G2 hG2=>⟨⟨HF.le_refl _,fun p hp=>by rw [List.mem_singleton.1 hp];exact List.mem_cons_of_mem _ (List.mem_cons_self ..)⟩,?_⟩))⟩)
  refine tn 4 U (bR Rp.dM ((bs,.cells [Value.int .i64 person].toArray 3 (0,0))::needCell bw wb ws.length wc::G) [] (fun G'=>((bs,.cells [Value.int .i64 person].toArray 3 (0,0))::needCell bw wb ws.length wc::G)++([]++G')) (by simp) (fun _=>U) cR ty3 zc3 U bytes3 hG2 U U
   (dr 0 rfl (show aT Rp.int h [I person] [person] from ⟨[I person],[],rfl,rfl,rfl,rfl⟩)) lo lo (fun bb3 c3 G3 hG3=>?_))
  exact ⟨⟨HF.le_refl _,fun p hp=>by rw [List.mem_singleton.1 hp];simp⟩,tn 5 U (fy Dn (⟨⟨HF.le_refl _,fun p hp=>by rw [List.mem_singleton.1 hp];simp⟩,aI kr (hk (bs,bb3,c3,G3) _ hG3 rd)⟩))⟩
theorem Gl (c:List Int→Bool) (help:List Int) (m i:Nat) (ws:List Int) (hi:i+(m+1)≤help.length):
  (List.range' i (help.length - m - i)).findSome? (fun i=>tryP c help m (i+1) (ws++[nthI help (i:Int)])) =
   match tryP c help m (i+1) (ws++[nthI help (i:Int)]) with
   | some r=>some r
   | none=>(List.range' (i+1) (help.length - m - (i+1))).findSome? fun i=>tryP c help m (i+1) (ws++[nthI help (i:Int)]):=by
 rw [show help.length - m - i=(help.length - m - (i+1))+1 from by omega,List.range'_succ,List.findSome?_cons]
 cases tryP c help m (i+1) (ws++[nthI help (i:Int)]) <;> rfl
theorem Aj {h:HF} {q:aC} {j5:fM} {person at_:Int} {help:List Int} {hb:Option Addr} {hc:Nat} {q3 q4 q5 q6 q7:Addr} {bw:Nat} (N:CH h q j5 person at_ help hb hc q3 q4 q5 q6 q7 bw):
  ∀ (m fr:Nat) (ws:List Int) (wb:Option Addr) (wc:Nat) (G:LH),cJ Rp.int 3 h ws wb wc G→ws.length+m≤100→fr≤100 →
  nB prog 39 ([Value.int .i64 (fr:Nat),Value.int .i64 (m:Int)]++needClo q3 q4 q5 q6 q7 bw).toArray h (needCell bw wb ws.length wc::G) (needR h bw ws (tryP (needC q person at_) help m fr ws))
 | 0,fr,ws,wb,wc,G,hG,hws,_=>EB N fr ws wb wc G hG ob
 | m+1,fr,ws,wb,wc,G,hG,hws,hfr=>by
  have hle:=N.le
  refine cT Fg U ntmps39 U fun X hM hX=>qT 8 U (ae (v':=.bool false) U (by show Value.bool _=_;congr 1) (qO 9 U ?_))
  refine ji (ι:=Option Addr×Nat×LH) (fun i=>[]) (fun i=>h) (fun i=>needCell bw i.1 ws.length i.2.1::i.2.2)
   (fun i=>tryP (needC q person at_) help (m+1) fr ws=none∧cJ Rp.int 3 h ws i.1 i.2.1 i.2.2) ?_ (fun hx=>?_)
  ·rintro ⟨b1,c1,G1⟩ ⟨h1,h2⟩ e
   dsimp only at h1 h2
   refine qT 4 U ?_
   refine mF Fg (fun a ha w hw=>res1 U a ha w) (fun w hw=>hw.lower) ⟨hX,?_,b1,c1,G1,?_,?_⟩
   ·rw [h1];rfl
   ·rw [h1];exact h2
   ·rw [h1];rfl
  ·refine kT (ι:=Nat×Option Addr×Nat×LH) (fun i=>[(1,I ((m+1:Nat):Int)),(2,.pointer (some ⟨bw,0,none⟩)),(3,.pointer (some q3)),(4,.pointer (some q4)),(5,.pointer (some q5)),(6,.pointer (some q6)),(7,.pointer (some q7)),(12,I (i.1:Int))]) (fun i=>h) (fun i=>needCell bw i.2.1 ws.length i.2.2.1::i.2.2.2)
    (fun i=>i.1≤100∧tryP (needC q person at_) help (m+1) fr ws=(List.range' i.1 (help.length - m - i.1)).findSome? (fun i=>tryP (needC q person at_) help m (i+1) (ws++[nthI help (i:Int)]))∧cJ Rp.int 3 h ws i.2.1 i.2.2.1 i.2.2.2)
    (fun i=>101 - i.1) (fr,wb,wc,G) rd (fun w hw=>hw) ⟨hfr,rfl,hG⟩ ?_
   rintro ⟨i,b1,c1,G1⟩ ⟨hi,ht,hG1⟩ ag e
   dsimp only at hi ht hG1
   refine qT 5 U (ae (v':=I ((i+(m+1):Nat):Int)) U (gz ob) (cL ty31 N.a6 U (qL 1 [] U ?_)))
   rcases Nat.lt_or_ge help.length (i+(m+1)) with hlt | hge
   ·refine ae (v':=.bool false) U (cb (decide_eq_false ob)) (qO 3 U (hx (b1,c1,G1) _ ⟨?_,hG1⟩ trivial))
    rw [ht,show help.length - m - i=0 from by omega];rfl
   ·refine ae (v':=.bool true) U (cb (decide_eq_true ob)) (qO 3 U ?_)
    have hz:0≤(i:Int)∧(i:Int) < (help.length:Int):=by omega
    rw [Gl _ _ _ _ _ hge] at ht
    refine qT 2 U ?_
    refine dB (BU (ι:=Option Addr×Nat×LH) (fun i'=>[(1,I ((m+1:Nat):Int)),(2,.pointer (some ⟨bw,0,none⟩)),(3,.pointer (some q3)),(4,.pointer (some q4)),(5,.pointer (some q5)),(6,.pointer (some q6)),(7,.pointer (some q7)),(12,I (i:Int))])
     (fun i'=>needCell bw i'.1 (ws++[nthI help (i:Int)]).length i'.2.1::i'.2.2) (fun i'=>cJ Rp.int 3 h (ws++[nthI help (i:Int)]) i'.1 i'.2.1 i'.2.2) ?_ (fun hk=>?_))
    ·rintro ⟨b2,c2,G2⟩ hG2 e
     dsimp only at hG2
     refine qT 3 U (cL ty90 N.a7 U (aj (ae (v':=I ((i+1:Nat):Int)) U (aL ob) (aj (ae (v':=I (m:Int)) U (by rw [gz ob];congr 1;omega) (az (uZ [] (needCell bw b2 (ws++[nthI help (i:Int)]).length c2::G2) U (kL (args:=[Value.int .i64 ((i+1:Nat):Int),Value.int .i64 (m:Int)]) (cap:=needClo q3 q4 q5 q6 q7 bw) call39 (Aj N m (i+1) (ws++[nthI help (i:Int)]) b2 c2 G2 hG2 (by rw [List.length_append,List.length_cons,List.length_nil];omega) ob)) U U (fun v h' B hl hR=>?_) (fun ch h' B hl hR=>by cases hR.2.1))))))))
     obtain ⟨rfl,hv,b3,c3,G3,hG3,rfl⟩:=hR
     cases hv
     rw [List.nil_append]
     cases hr:tryP (needC q person at_) help m (i+1) (ws++[nthI help (i:Int)]) with
     | some r=>
      rw [hr] at hG3 ht
      dsimp only [Option.getD] at hG3
      refine qO 6 U ?_
      refine mF Fg (fun a ha w hw=>res1 U a ha w) (fun w hw=>hw.lower) ⟨hX,?_,b3,c3,G3,?_,?_⟩
      ·rw [ht];rfl
      ·rw [ht];exact hG3
      ·rw [ht];rfl
     | none=>
      rw [hr] at hG3 ht
      dsimp only [Option.getD] at hG3
      refine qO 3 U ?_
      have hlen:(ws++[nthI help (i:Int)]).length=ws.length+1:=by simp
      have htk:(ws++[nthI help (i:Int)]).take (ws.length:Int).toNat=ws:=by simp
      refine qK 4 [0,0] U (ae (v':=I (ws.length:Int)) U (by dsimp only [Option.getD];rw [gz ob];congr 1;omega) (az (Dc (z:=(ws.length:Int)) cR ty3 hG3 ob U U U ?_)))
      have hG4:=hG3.take (ws.length:Int).toNat
      rw [htk] at hG4 ⊢
      exact dw 0 ty31 U U U U U U (qO 4 U (ae (v':=I ((i+1:Nat):Int)) U (aL ob) (an (ag (i+1,b3,c3,G3) _ (by show 101 - (i+1) < 101 - i;omega) ⟨by show i+1≤100;omega,ht,hG4⟩ rd))))
    ·refine eA [] mixed kr ⟨HF.le_refl _,fun p hp=>(List.not_mem_nil hp).elim⟩ (fun hsep hj0=>?_)
     refine lH 1 hsep hj0 U U kr U (fun _ _ hj=>eL ty31 (N.a6.mono hj.1) U) (lH 2 hsep hj0 U U kr U (fun _ _ _=>Cb) (cC 3 (R:=Rp.int) (enc:=fun x=>[Value.int .i64 x]) hsep hj0 (fun _ _ _ hr=>hr) cR ty3 N.hh.1 hz (bJ hz) U U U U kr (fun qa A5=>lH 4 hsep hj0 U U kr U (fun _ _ hj=>eL ty3 (A5.mono hj.1) U) ?_)))
     refine ju 0 5 kr U U ?_ ?_
     ·refine fy (fw ty31 U (List.mem_cons_self ..) U) (⟨⟨HF.le_refl _,fun p hp=>(List.not_mem_nil hp).elim⟩,tn 5 U (bd (cells:=[I (nthI help (i:Int))]) cR ty3 zc3 U U kr (fun bs=>⟨⟨HF.le_refl _,fun p hp=>(List.not_mem_nil hp).elim⟩,?_⟩))⟩)
      refine tn 6 U (bR Rp.dM [(bs,.cells [Value.int .i64 (nthI help (i:Int))].toArray 3 (0,0)),needCell bw b1 ws.length c1] [] (fun G'=>[(bs,.cells [Value.int .i64 (nthI help (i:Int))].toArray 3 (0,0)),needCell bw b1 ws.length c1]++([]++G')) (by simp) (fun _=>U) cR ty3 zc3 U bytes3 hG1 U U
       (dr 0 rfl (show aT Rp.int h [I (nthI help (i:Int))] [nthI help (i:Int)] from ⟨[I (nthI help (i:Int))],[],rfl,rfl,rfl,rfl⟩)) lo lo (fun b3 c3 G3 hG3=>?_))
      exact ⟨⟨HF.le_refl _,fun p hp=>(List.not_mem_nil hp).elim⟩,tn 7 U (j7 1 ty31 U U U U U U (⟨⟨HF.le_refl _,fun p hp=>(List.not_mem_nil hp).elim⟩,aI kr (bY (L':=needCell bw b3 (ws++[nthI help (i:Int)]).length c3::G3) js (hk (b3,c3,G3) _ hG3 rd))⟩))⟩
     ·refine bd (cells:=[I (nthI help (i:Int))]) cR ty3 zc3 U U kr (fun bs=>⟨⟨HF.le_refl _,fun p hp=>(List.not_mem_nil hp).elim⟩,tn 0 U (fy (fw ty31 U (List.mem_cons_of_mem _ (List.mem_cons_self ..)) U) (⟨⟨HF.le_refl _,fun p hp=>(List.not_mem_nil hp).elim⟩,?_⟩))⟩)
      refine tn 6 U (bR Rp.dM [(bs,.cells [Value.int .i64 (nthI help (i:Int))].toArray 3 (0,0)),needCell bw b1 ws.length c1] [] (fun G'=>[(bs,.cells [Value.int .i64 (nthI help (i:Int))].toArray 3 (0,0)),needCell bw b1 ws.length c1]++([]++G')) (by simp) (fun _=>U) cR ty3 zc3 U bytes3 hG1 U U
       (dr 0 rfl (show aT Rp.int h [I (nthI help (i:Int))] [nthI help (i:Int)] from ⟨[I (nthI help (i:Int))],[],rfl,rfl,rfl,rfl⟩)) lo lo (fun b3 c3 G3 hG3=>?_))
      exact ⟨⟨HF.le_refl _,fun p hp=>(List.not_mem_nil hp).elim⟩,tn 7 U (j7 1 ty31 U U U U U U (⟨⟨HF.le_refl _,fun p hp=>(List.not_mem_nil hp).elim⟩,aI kr (bY (L':=needCell bw b3 (ws++[nthI help (i:Int)]).length c3::G3) js (hk (b3,c3,G3) _ hG3 rd))⟩))⟩
theorem lB (h:HF) (aZ:Register) (dD:dR) (doc:Int) (person:Int) (cD:Int) (known:Int) (gM:Register.ok h aZ dD) (hsm:smR aZ) (hk:Kinds h):
  iW prog 14 [.agg (Register.cells aZ dD).toArray,I doc,I person,I cD,I known] h (fun v h'=>∃ (rb0:Option Addr) (rc0:Nat),v=.tuple #[.slice rb0 ((gN aZ doc person cD known).1).length rc0,.bool ((gN aZ doc person cD known).2.1),I ((gN aZ doc person cD known).2.2)]∧SlC Rp.int h' rb0 rc0 ((gN aZ doc person cD known).1)):=by
 refine cT CQ U ntmps14 U fun X hM hX=>sr (cy (fun b5=>cy (fun b7=>cy (fun b8=>bG zc31 (fun b10=>qO 6 U (cM 3 ty30 U U U (ah (v:=I (eP aZ)) call26 (sj h aZ dD gM hsm hk) U (qO 2 U (j6 U (fun c1=>?_) (fun c1=>?_))))))))))
 ·have e1:gN aZ doc person cD known=([],false,300):=by unfold gN;rw [c1];rfl
  rw [e1]
  exact sr (dw 0 ty31 U U U U U U (qO 3 U (fS [.slice none 0 0,.bool false,I 300] CQ U ⟨⟨0,_,_,_,_,U,U,.inr ⟨_,ty31,U⟩⟩,U,U,trivial⟩ ⟨none,0,U,SlC.nil⟩)))
 refine qT 3 U (cM 3 ty30 U U U (qO 2 U (az (cg call27 (xx h aZ dD doc known gM) U (fun v1 h1 hle1 hp1=>?_)))))
 obtain ⟨rr1,rfl,ok1⟩:=hp1
 refine qO 3 U (bG zc77 (fun b13=>bC 0 ty77 U U U U U U (qO 8 U ?_)))
 refine tq 3 [(7,Q b7),(8,Q b8),(10,Q b10),(13,Q b13),(32,.bool ((!((cB aZ doc known).2))||decide (person < 0)))] (fun hk1=>?_) (fun e=>?_)
 ·refine mG 29 U (fun c2=>?_) (fun c2=>?_)
  ·exact kq (ew U (hk1 _ ⟨U,U,U,U,(cb (J8 c2)),trivial⟩))
  ·exact qL 3 [3] U (hk1 _ ⟨U,U,U,U,(cb (J9 c2)),trivial⟩)
 refine aj ?_
 refine tq 3 [(7,Q b7),(8,Q b8),(10,Q b10),(13,Q b13),(36,.bool (((!((cB aZ doc known).2))||decide (person < 0))||decide (64≤person)))] (fun hk1=>?_) (fun e=>?_)
 ·refine mG 33 U (fun c2=>?_) (fun c2=>?_)
  ·exact kq (ew U (hk1 _ ⟨U,U,U,U,(cb (J8 c2)),trivial⟩))
  ·exact qL 3 [3] U (hk1 _ ⟨U,U,U,U,(cb (J9 c2)),trivial⟩)
 refine aj ?_
 refine tq 4 [(7,Q b7),(8,Q b8),(10,Q b10),(13,Q b13),(41,.bool ((((!((cB aZ doc known).2))||decide (person < 0))||decide (64≤person))||(!(jE cD))))] (fun hk1=>?_) (fun e=>?_)
 ·refine mG 37 U (fun c2=>?_) (fun c2=>?_)
  ·exact kq (qO 2 U (hk1 _ ⟨U,U,U,U,(cb (J8 c2)),trivial⟩))
  ·exact qL 1 [2] U (ah (v:=.bool (jE cD)) call37 (vJ h1 cD) U (qO 2 U (hk1 _ ⟨U,U,U,U,(cb (J9 c2)),trivial⟩)))
 refine aN (j6 U (fun c3=>?_) (fun c3=>?_))
 ·have e1:gN aZ doc person cD known=([],false,1):=by unfold gN;rw [c1,c3];rfl
  rw [e1]
  exact sr (dw 1 ty31 U U U U U U (qO 3 U (fS [.slice none 0 0,.bool false,I 1] CQ U ⟨⟨1,_,_,_,_,U,U,.inr ⟨_,ty31,U⟩⟩,U,U,trivial⟩ ⟨none,0,U,SlC.nil⟩)))
 have a_:=asked (r:=aZ) (doc:=doc) (known:=known) (by simpa using c1) (by simp only [Bool.or_eq_false_iff,Bool.not_eq_false'] at c3;exact c3.1.1.1)
 have hsm2:smR (cB aZ doc known).1.Register:=by rw [a_.reg];exact hsm
 have hov2:okV (cB aZ doc known).1.Register.Versions:=by rw [a_.reg];exact a_.vers.okV
 have hod2:(0≤(cB aZ doc known).1.doc.At∧(cB aZ doc known).1.doc.At≤1099511627776)∧0≤(cB aZ doc known).1.doc.Kind:=⟨⟨a_.doc.at_.1,Int.le_of_lt a_.doc.at_.2⟩,a_.doc.kind.1⟩
 have e0:gN aZ doc person cD known=bif decide (12 < ((a8 (cB aZ doc known).1 person cD).length:Int)) then (([],false,2):List Int×Bool×Int)
   else match needLoop (needC (cB aZ doc known).1 person cD) (a8 (cB aZ doc known).1 person cD) with
    | some l=>((l,true,0):List Int×Bool×Int)
    | none=>([],false,0):=by unfold gN;rw [c1,c3];rfl
 rw [e0]
 generalize (cB aZ doc known).1=q at *
 refine qT 3 U (cM 0 ty77 U U U (qL 2 [3,2] U (az (cg call38 (ry h1 q rr1 person cD ok1 hsm2 hov2 hod2 (hk.mono hle1)) U (fun v2 h2 hle2 hp2=>?_)))))
 obtain ⟨hb,hc,rfl,slh⟩:=hp2
 generalize a8 q person cD=help at *
 refine bG zc31 (fun b14=>dw 0 ty31 U U U U U U (qL 8 [0] U (j6 U (fun c4=>?_) (fun c4=>?_))))
 ·rw [show decide (12 < (help.length:Int))=true from c4,cond_true]
  exact sr (dw 2 ty31 U U U U U U (qO 3 U (fS [.slice none 0 0,.bool false,I 2] CQ U ⟨⟨2,_,_,_,_,U,U,.inr ⟨_,ty31,U⟩⟩,U,U,trivial⟩ ⟨none,0,U,SlC.nil⟩)))
 rw [show decide (12 < (help.length:Int))=false from c4,cond_false]
 have hlen:help.length≤12:=by have:=of_decide_eq_false c4;omega
 refine qT 3 U (bG zc90 (fun b15=>qO 3 U (az (fX U U (dw 0 ty90 U U U U U U (aN (ff 0 U hM (fun h3 l3 f15=>ff 0 U hM (fun h4 l4 f14=>ff 0 U hM (fun h5 l5 f13=>ff 1 U hM (fun h6 l6 f8=>ff 1 U hM (fun h7 l7 f7=>?_))))))))))))
 have l27:h2.le h7:=HF.le_trans l3 (l4.t (l5.t (l6.t l7)))
 have N:CH h7 q rr1 person cD help hb hc ⟨b7,0,none⟩ ⟨b13,0,none⟩ ⟨b8,0,none⟩ ⟨b14,0,none⟩ ⟨b15,0,none⟩ b10:=
  ⟨ok1.mono (hle2.t l27),dq f7,(dq f13).mono (l6.t l7),(dq f8).mono l7,(dq f14).mono (l5.t (l6.t l7)),
   (dq f15).mono (l4.t (l5.t (l6.t l7))),slh.mono Rp.aW l27,hk.mono (hle1.t (hle2.t l27)),hsm2,hov2,hod2,hlen⟩
 refine bY (L':=[needCell b10 none 0 0]) js (qT 3 U (cL ty31 N.a6 U (qL 1 [] U (ae (v':=I ((help.length+1:Nat):Int)) U (aL ob) (qO 2 U ?_)))))
 refine ji (ι:=Option Addr×Nat×LH) (fun i=>[(10,Q b10)]) (fun i=>h7) (fun i=>needCell b10 i.1 0 i.2.1::i.2.2) (fun i=>needLoop (needC q person cD) help=none) ?_ (fun hx=>?_)
 ·rintro ⟨b1,c1,G1⟩ h1 e
  rw [show needLoop (needC q person cD) help=none from h1]
  exact sr (dw 0 ty31 U U U U U U (qO 3 U (fS [.slice none 0 0,.bool false,I 0] CQ U ⟨⟨0,_,_,_,_,U,U,.inr ⟨_,ty31,U⟩⟩,U,U,trivial⟩ ⟨none,0,U,SlC.nil⟩)))
 refine kT (ι:=Nat×Option Addr×Nat×LH) (fun i=>[(10,Q b10),(15,Q b15),(52,I ((help.length+1:Nat):Int)),(53,I (i.1:Int))]) (fun i=>h7) (fun i=>needCell b10 i.2.1 0 i.2.2.1::i.2.2.2)
  (fun i=>i.1≤help.length+1∧needLoop (needC q person cD) help=(List.range' i.1 (help.length+1 - i.1)).findSome? (fun many=>tryP (needC q person cD) help many 0 [])∧cJ Rp.int 3 h7 [] i.2.1 i.2.2.1 i.2.2.2)
  (fun i=>help.length+1 - i.1) (0,none,0,[]) rd (fun w hw=>hw) ⟨Nat.zero_le _,rfl,cJ.nil⟩ ?_
 rintro ⟨i,b1,c1,G1⟩ ⟨hi,ht,hG1⟩ ag e
 dsimp only at hi ht hG1
 rcases Nat.lt_or_ge i (help.length+1) with hlt | hge
 ·refine sr (ae (v':=.bool true) U (cb (decide_eq_true ob)) (qO 13 U (cL ty90 N.a7 U (aj (az (uZ [] (needCell b10 b1 0 c1::G1) U (kL (args:=[Value.int .i64 ((0:Nat):Int),Value.int .i64 (i:Int)]) (cap:=needClo ⟨b7,0,none⟩ ⟨b13,0,none⟩ ⟨b8,0,none⟩ ⟨b14,0,none⟩ ⟨b15,0,none⟩ b10) call39 (Aj N i 0 [] b1 c1 G1 hG1 (by rw [List.length_nil];omega) ob)) U U (fun v h' B hl hR=>?_) (fun ch h' B hl hR=>by cases hR.2.1)))))))
  obtain ⟨rfl,hv,b3,c3,G3,hG3,rfl⟩:=hR
  cases hv
  rw [List.nil_append]
  rw [show help.length+1 - i=(help.length+1 - (i+1))+1 from by omega,List.range'_succ,List.findSome?_cons] at ht
  cases hr:tryP (needC q person cD) help i 0 [] with
  | some r=>
   rw [hr] at hG3 ht
   dsimp only [Option.getD] at hG3
   rw [ht]
   exact qL 5 [0] U (dw 0 ty31 U U U U U U (qO 3 U (eK Rp.aW [needCell b10 b3 r.length c3] G3 [] (by rw [List.append_nil];rfl) hM hG3 (fun h9 l9 sl9=>fS [.slice b3 r.length c3,.bool true,I 0] CQ U ⟨⟨0,_,_,_,_,U,U,.inr ⟨_,ty31,U⟩⟩,U,U,trivial⟩ ⟨b3,c3,U,sl9⟩))))
  | none=>
   rw [hr] at hG3 ht
   dsimp only [Option.getD] at hG3
   exact aN (qT 4 U (ae (v':=I ((i+1:Nat):Int)) U (aL ob) (qO 2 U (ag (i+1,b3,c3,G3) _ (by show help.length+1 - (i+1) < help.length+1 - i;omega) ⟨hlt,ht,hG3⟩ rd))))
 ·have hie:i=help.length+1:=by omega
  subst hie
  refine sr (ae (v':=.bool false) U (cb (decide_eq_false ob)) (qO 4 U (hx (b1,c1,G1) _ ?_ rd)))
  show needLoop _ _=none
  rw [ht];simp
theorem sg (h:HF)   : iW prog 23 [] h (fun v h'=>∃ (rr0:dR),v=.agg (Register.cells (bB) rr0).toArray∧Register.ok h' (bB) rr0):=by
 refine cT func23 U ntmps23 U fun X hM hX=>?_
 have hs0:bB=bB:=rfl
 refine sr (bG zc30 (fun b1=>qO 3 U (az (em (cells:=[I 2,I 2,I 0,.string (⟨#[104,101,97,100]⟩:ByteArray),.slice none 0 0]) (places:=[(0,1),(1,1),(2,1),(3,1),(4,1)]) underlying66 zc66 kr kr (bG zc66 (fun b2=>bC 0 ty66 U U U U U U (qO 3 U (az (bd (cells:=[.string (⟨#[107]⟩:ByteArray)]) pK ty9 zc9 U U kr (fun b3=>az (bd (cells:=[.string (⟨#[104,101,97,100]⟩:ByteArray)]) pK ty9 zc9 U U kr (fun b4=>cM 2 ty66 U U U (az (em (cells:=[.string (⟨#[107]⟩:ByteArray),I 0,I 5,I 2,I 2,I 0,.string (⟨#[104,101,97,100]⟩:ByteArray),.slice none 0 0]) (places:=[(0,1),(1,1),(2,1),(3,5)]) underlying107 zc107 kr kr (az (bd (cells:=[.string (⟨#[107]⟩:ByteArray),I 0,I 5,I 2,I 2,I 0,.string (⟨#[104,101,97,100]⟩:ByteArray),.slice none 0 0]) nO ty107 zc107 U U kr (fun b5=>cM 3 ty66 U U U (az (em (cells:=[.string (⟨#[112]⟩:ByteArray),.slice (some ⟨b3,0,none⟩) 1 1,.slice (some ⟨b4,0,none⟩) 1 1,.slice (some ⟨b5,0,none⟩) 1 1,I 2,I 2,I 0,.string (⟨#[104,101,97,100]⟩:ByteArray),.slice none 0 0,I 2]) (places:=[(0,1),(1,1),(2,1),(3,1),(4,5),(9,1)]) Fw zc68 kr kr (bG zc68 (fun b6=>bC 0 ty68 U U U U U U (qO 3 U (az (em (cells:=[I 1,I 0,I 0,I 0,I 1,I 1,.bool false]) (places:=[(0,1),(1,1),(2,1),(3,1),(4,1),(5,1),(6,1)]) Fx zc59 kr kr (az (em (cells:=[I 2,I 0,I 0,I 0,I 2,I 1,.bool false]) (places:=[(0,1),(1,1),(2,1),(3,1),(4,1),(5,1),(6,1)]) Fx zc59 kr kr (az (em (cells:=[I 3,I 20,I 30,I 0,I 3,I 1,.bool false]) (places:=[(0,1),(1,1),(2,1),(3,1),(4,1),(5,1),(6,1)]) Fx zc59 kr kr (az (bd (cells:=[I 1,I 0,I 0,I 0,I 1,I 1,.bool false,I 2,I 0,I 0,I 0,I 2,I 1,.bool false,I 3,I 20,I 30,I 0,I 3,I 1,.bool false]) nG ty59 zc59 U U kr (fun b7=>cM 1 ty68 U U U (az (em (cells:=[I 7,I 0,I 0,.string (⟨#[112]⟩:ByteArray),.slice (some ⟨b3,0,none⟩) 1 1,.slice (some ⟨b4,0,none⟩) 1 1,.slice (some ⟨b5,0,none⟩) 1 1,I 2,I 2,I 0,.string (⟨#[104,101,97,100]⟩:ByteArray),.slice none 0 0,I 2]) (places:=[(0,1),(1,1),(2,1),(3,10)]) underlying70 zc70 kr kr ?_)))))))))))))))))))))))))))))))))
 refine bO 4 U hM (fun h1 hle1 hb1=>?_)
 have sl1:SlC Rp.str h1 (some ⟨b3,0,none⟩) 1 ([(⟨#[107]⟩:ByteArray)]):=aT.slB0 (T:=9) (fz:=(0,0)) ((show aT Rp.str h [.string (⟨#[107]⟩:ByteArray)] ([(⟨#[107]⟩:ByteArray)]) from ⟨[.string (⟨#[107]⟩:ByteArray)],[],rfl,rfl,rfl,rfl⟩).mono Rp.gm hle1) hb1
 refine bO 3 U hM (fun h2 hle2 hb2=>?_)
 have sl2:SlC Rp.str h2 (some ⟨b4,0,none⟩) 1 ([(⟨#[104,101,97,100]⟩:ByteArray)]):=aT.slB0 (T:=9) (fz:=(0,0)) ((show aT Rp.str h1 [.string (⟨#[104,101,97,100]⟩:ByteArray)] ([(⟨#[104,101,97,100]⟩:ByteArray)]) from ⟨[.string (⟨#[104,101,97,100]⟩:ByteArray)],[],rfl,rfl,rfl,rfl⟩).mono Rp.gm hle2) hb2
 refine bO 2 U hM (fun h3 hle3 hb3=>?_)
 have sl3:SlC Rule.rp h3 (some ⟨b5,0,none⟩) 1 ([(Rule.mk (⟨#[107]⟩:ByteArray) 0 5 (Expr.mk 2 2 0 (⟨#[104,101,97,100]⟩:ByteArray) ([])))]):=aT.slB0 (T:=107) (fz:=(0,0)) ((show aT Rule.rp h2 [.string (⟨#[107]⟩:ByteArray),I 0,I 5,I 2,I 2,I 0,.string (⟨#[104,101,97,100]⟩:ByteArray),.slice none 0 0] ([(Rule.mk (⟨#[107]⟩:ByteArray) 0 5 (Expr.mk 2 2 0 (⟨#[104,101,97,100]⟩:ByteArray) ([])))]) from ⟨[.string (⟨#[107]⟩:ByteArray),I 0,I 5,I 2,I 2,I 0,.string (⟨#[104,101,97,100]⟩:ByteArray),.slice none 0 0],[],rfl,rfl,⟨(vN.mk (ce.mk none 0)),rfl,((show Rule.ok h (Rule.mk (⟨#[107]⟩:ByteArray) 0 5 (Expr.mk 2 2 0 (⟨#[104,101,97,100]⟩:ByteArray) ([]))) (vN.mk (ce.mk none 0)) from ⟨(show Expr.ok h (Expr.mk 2 2 0 (⟨#[104,101,97,100]⟩:ByteArray) ([])) (ce.mk none 0) from Expr.ok.of SlC.nil)⟩).mono (hle1.t hle2))⟩,rfl⟩).mono Rule.ak hle3) hb3
 refine az (bd (cells:=[I 7,I 0,I 0,.string (⟨#[112]⟩:ByteArray),.slice (some ⟨b3,0,none⟩) 1 1,.slice (some ⟨b4,0,none⟩) 1 1,.slice (some ⟨b5,0,none⟩) 1 1,I 2,I 2,I 0,.string (⟨#[104,101,97,100]⟩:ByteArray),.slice none 0 0,I 2]) kJ ty70 zc70 U U kr (fun b8=>az (bd (cells:=[I 6]) cR ty3 zc3 U U kr (fun b9=>az (em (cells:=[I 4,I 10,I 0,I 0,I 0,I 100,.slice (some ⟨b9,0,none⟩) 1 1,.slice none 0 0,.slice none 0 0,Y 0,Y 0,Y 0,Y 0,Y 0,Y 0,Y 0,Y 0,Y 0,Y 0,Y 0,Y 0,Y 0,Y 0,Y 0,Y 0,Y 0,Y 0,Y 0,Y 0,Y 0,Y 0,Y 0,Y 0,Y 0,Y 0,Y 0,Y 0,Y 0,Y 0,Y 0,Y 0]) (places:=[(0,1),(1,1),(2,1),(3,1),(4,1),(5,1),(6,1),(7,1),(8,1),(9,32)]) underlying52 zc52 kr kr (bO 0 U hM (fun h4 hle4 hb4=>?_)))))))
 have sl4:SlC Rp.int h4 (some ⟨b9,0,none⟩) 1 ([6]):=aT.slB0 (T:=3) (fz:=(0,0)) ((show aT Rp.int h3 [I 6] ([6]) from ⟨[I 6],[],rfl,rfl,rfl,rfl⟩).mono Rp.aW hle4) hb4
 refine az (bd (cells:=[I 4,I 10,I 0,I 0,I 0,I 100,.slice (some ⟨b9,0,none⟩) 1 1,.slice none 0 0,.slice none 0 0,Y 0,Y 0,Y 0,Y 0,Y 0,Y 0,Y 0,Y 0,Y 0,Y 0,Y 0,Y 0,Y 0,Y 0,Y 0,Y 0,Y 0,Y 0,Y 0,Y 0,Y 0,Y 0,Y 0,Y 0,Y 0,Y 0,Y 0,Y 0,Y 0,Y 0,Y 0,Y 0]) pz ty52 zc52 U U kr (fun b10=>az (em (cells:=[.slice (some ⟨b7,0,none⟩) 3 3,.slice none 0 0,.slice none 0 0,.slice none 0 0,.slice (some ⟨b8,0,none⟩) 1 1,.slice (some ⟨b10,0,none⟩) 1 1,.slice none 0 0]) (places:=[(0,1),(1,1),(2,1),(3,1),(4,1),(5,1),(6,1)]) Fy zc30 kr kr (bC 5 ty30 U U U U U U (aN (ff 2 U hM (fun h5 hle5 hb5=>?_)))))))
 have sl5:SlC Appoint.rp h5 (some ⟨b7,0,none⟩) 3 ([(Appoint.mk 1 0 0 0 1 1 false),(Appoint.mk 2 0 0 0 2 1 false),(Appoint.mk 3 20 30 0 3 1 false)]):=aT.slB0 (T:=59) (fz:=(0,0)) ((show aT Appoint.rp h4 [I 1,I 0,I 0,I 0,I 1,I 1,.bool false,I 2,I 0,I 0,I 0,I 2,I 1,.bool false,I 3,I 20,I 30,I 0,I 3,I 1,.bool false] ([(Appoint.mk 1 0 0 0 1 1 false),(Appoint.mk 2 0 0 0 2 1 false),(Appoint.mk 3 20 30 0 3 1 false)]) from ⟨[I 1,I 0,I 0,I 0,I 1,I 1,.bool false],[I 2,I 0,I 0,I 0,I 2,I 1,.bool false,I 3,I 20,I 30,I 0,I 3,I 1,.bool false],rfl,rfl,rfl,⟨[I 2,I 0,I 0,I 0,I 2,I 1,.bool false],[I 3,I 20,I 30,I 0,I 3,I 1,.bool false],rfl,rfl,rfl,⟨[I 3,I 20,I 30,I 0,I 3,I 1,.bool false],[],rfl,rfl,rfl,rfl⟩⟩⟩).mono Appoint.ak hle5) hb5
 refine ff 1 U hM (fun h6 hle6 hb6=>?_)
 have sl6:SlC Version.rp h6 (some ⟨b8,0,none⟩) 1 ([(Version.mk 7 0 0 (Policy.mk (⟨#[112]⟩:ByteArray) ([(⟨#[107]⟩:ByteArray)]) ([(⟨#[104,101,97,100]⟩:ByteArray)]) ([(Rule.mk (⟨#[107]⟩:ByteArray) 0 5 (Expr.mk 2 2 0 (⟨#[104,101,97,100]⟩:ByteArray) ([])))]) (Expr.mk 2 2 0 (⟨#[104,101,97,100]⟩:ByteArray) ([])) 2))]):=aT.slB0 (T:=70) (fz:=(0,0)) ((show aT Version.rp h5 [I 7,I 0,I 0,.string (⟨#[112]⟩:ByteArray),.slice (some ⟨b3,0,none⟩) 1 1,.slice (some ⟨b4,0,none⟩) 1 1,.slice (some ⟨b5,0,none⟩) 1 1,I 2,I 2,I 0,.string (⟨#[104,101,97,100]⟩:ByteArray),.slice none 0 0,I 2] ([(Version.mk 7 0 0 (Policy.mk (⟨#[112]⟩:ByteArray) ([(⟨#[107]⟩:ByteArray)]) ([(⟨#[104,101,97,100]⟩:ByteArray)]) ([(Rule.mk (⟨#[107]⟩:ByteArray) 0 5 (Expr.mk 2 2 0 (⟨#[104,101,97,100]⟩:ByteArray) ([])))]) (Expr.mk 2 2 0 (⟨#[104,101,97,100]⟩:ByteArray) ([])) 2))]) from ⟨[I 7,I 0,I 0,.string (⟨#[112]⟩:ByteArray),.slice (some ⟨b3,0,none⟩) 1 1,.slice (some ⟨b4,0,none⟩) 1 1,.slice (some ⟨b5,0,none⟩) 1 1,I 2,I 2,I 0,.string (⟨#[104,101,97,100]⟩:ByteArray),.slice none 0 0,I 2],[],rfl,rfl,⟨(lC.mk (dY.mk (some ⟨b3,0,none⟩) 1 (some ⟨b4,0,none⟩) 1 (some ⟨b5,0,none⟩) 1 (ce.mk none 0))),rfl,((show Version.ok h3 (Version.mk 7 0 0 (Policy.mk (⟨#[112]⟩:ByteArray) ([(⟨#[107]⟩:ByteArray)]) ([(⟨#[104,101,97,100]⟩:ByteArray)]) ([(Rule.mk (⟨#[107]⟩:ByteArray) 0 5 (Expr.mk 2 2 0 (⟨#[104,101,97,100]⟩:ByteArray) ([])))]) (Expr.mk 2 2 0 (⟨#[104,101,97,100]⟩:ByteArray) ([])) 2)) (lC.mk (dY.mk (some ⟨b3,0,none⟩) 1 (some ⟨b4,0,none⟩) 1 (some ⟨b5,0,none⟩) 1 (ce.mk none 0))) from ⟨(show Policy.ok h3 (Policy.mk (⟨#[112]⟩:ByteArray) ([(⟨#[107]⟩:ByteArray)]) ([(⟨#[104,101,97,100]⟩:ByteArray)]) ([(Rule.mk (⟨#[107]⟩:ByteArray) 0 5 (Expr.mk 2 2 0 (⟨#[104,101,97,100]⟩:ByteArray) ([])))]) (Expr.mk 2 2 0 (⟨#[104,101,97,100]⟩:ByteArray) ([])) 2) (dY.mk (some ⟨b3,0,none⟩) 1 (some ⟨b4,0,none⟩) 1 (some ⟨b5,0,none⟩) 1 (ce.mk none 0)) from ⟨(sl1.mono Rp.gm (hle2.t hle3)),(sl2.mono Rp.gm hle3),sl3,(show Expr.ok h3 (Expr.mk 2 2 0 (⟨#[104,101,97,100]⟩:ByteArray) ([])) (ce.mk none 0) from Expr.ok.of SlC.nil)⟩)⟩).mono (hle4.t hle5))⟩,rfl⟩).mono Version.ak hle6) hb6
 refine ff 0 U hM (fun h7 hle7 hb7=>?_)
 have sl7:SlC Document.rp h7 (some ⟨b10,0,none⟩) 1 ([(Document.mk 4 10 0 0 0 100 ([6]) ([]) ([]) (fun _=>0))]):=aT.slB0 (T:=52) (fz:=(0,0)) ((show aT Document.rp h6 [I 4,I 10,I 0,I 0,I 0,I 100,.slice (some ⟨b9,0,none⟩) 1 1,.slice none 0 0,.slice none 0 0,Y 0,Y 0,Y 0,Y 0,Y 0,Y 0,Y 0,Y 0,Y 0,Y 0,Y 0,Y 0,Y 0,Y 0,Y 0,Y 0,Y 0,Y 0,Y 0,Y 0,Y 0,Y 0,Y 0,Y 0,Y 0,Y 0,Y 0,Y 0,Y 0,Y 0,Y 0,Y 0] ([(Document.mk 4 10 0 0 0 100 ([6]) ([]) ([]) (fun _=>0))]) from ⟨[I 4,I 10,I 0,I 0,I 0,I 100,.slice (some ⟨b9,0,none⟩) 1 1,.slice none 0 0,.slice none 0 0,Y 0,Y 0,Y 0,Y 0,Y 0,Y 0,Y 0,Y 0,Y 0,Y 0,Y 0,Y 0,Y 0,Y 0,Y 0,Y 0,Y 0,Y 0,Y 0,Y 0,Y 0,Y 0,Y 0,Y 0,Y 0,Y 0,Y 0,Y 0,Y 0,Y 0,Y 0,Y 0],[],rfl,rfl,⟨(gG.mk (some ⟨b9,0,none⟩) 1 none 0 none 0),rfl,((show Document.ok h4 (Document.mk 4 10 0 0 0 100 ([6]) ([]) ([]) (fun _=>0)) (gG.mk (some ⟨b9,0,none⟩) 1 none 0 none 0) from ⟨sl4,SlC.nil,SlC.nil⟩).mono (hle5.t hle6))⟩,rfl⟩).mono Document.ak hle7) hb7
 have hs1:bB=(Register.mk ([(Appoint.mk 1 0 0 0 1 1 false),(Appoint.mk 2 0 0 0 2 1 false),(Appoint.mk 3 20 30 0 3 1 false)]) ([]) ([]) ([]) ([(Version.mk 7 0 0 (Policy.mk (⟨#[112]⟩:ByteArray) ([(⟨#[107]⟩:ByteArray)]) ([(⟨#[104,101,97,100]⟩:ByteArray)]) ([(Rule.mk (⟨#[107]⟩:ByteArray) 0 5 (Expr.mk 2 2 0 (⟨#[104,101,97,100]⟩:ByteArray) ([])))]) (Expr.mk 2 2 0 (⟨#[104,101,97,100]⟩:ByteArray) ([])) 2))]) ([(Document.mk 4 10 0 0 0 100 ([6]) ([]) ([]) (fun _=>0))]) ([])):=hs0
 exact fS [.agg (List.toArray [.slice (some ⟨b7,0,none⟩) 3 3,.slice none 0 0,.slice none 0 0,.slice none 0 0,.slice (some ⟨b8,0,none⟩) 1 1,.slice (some ⟨b10,0,none⟩) 1 1,.slice none 0 0])] func23 U ⟨⟨2,_,_,_,_,U,U,.inl ⟨ty30,U⟩⟩,trivial⟩ ⟨(dR.mk (some ⟨b7,0,none⟩) 3 none 0 none 0 none 0 (some ⟨b8,0,none⟩) 1 (some ⟨b10,0,none⟩) 1 none 0),congrArg (fun r:Register=>(.agg (Register.cells r (dR.mk (some ⟨b7,0,none⟩) 3 none 0 none 0 none 0 (some ⟨b8,0,none⟩) 1 (some ⟨b10,0,none⟩) 1 none 0)).toArray:Value)) hs1.symm,(by rw [hs1];exact (show Register.ok h7 (Register.mk ([(Appoint.mk 1 0 0 0 1 1 false),(Appoint.mk 2 0 0 0 2 1 false),(Appoint.mk 3 20 30 0 3 1 false)]) ([]) ([]) ([]) ([(Version.mk 7 0 0 (Policy.mk (⟨#[112]⟩:ByteArray) ([(⟨#[107]⟩:ByteArray)]) ([(⟨#[104,101,97,100]⟩:ByteArray)]) ([(Rule.mk (⟨#[107]⟩:ByteArray) 0 5 (Expr.mk 2 2 0 (⟨#[104,101,97,100]⟩:ByteArray) ([])))]) (Expr.mk 2 2 0 (⟨#[104,101,97,100]⟩:ByteArray) ([])) 2))]) ([(Document.mk 4 10 0 0 0 100 ([6]) ([]) ([]) (fun _=>0))]) ([])) (dR.mk (some ⟨b7,0,none⟩) 3 none 0 none 0 none 0 (some ⟨b8,0,none⟩) 1 (some ⟨b10,0,none⟩) 1 none 0) from ⟨(sl5.mono Appoint.ak (hle6.t hle7)),SlC.nil,SlC.nil,SlC.nil,(sl6.mono Version.ak hle7),sl7,SlC.nil⟩))⟩
theorem oh (h:HF) (a:List Span) (Kt:Option Addr) (Ks:Nat) (iv:List Span) (Ad:Option Addr) (Ac:Nat) (ha:SlC Span.rp h Kt Ks a) (tz:SlC Span.rp h Ad Ac iv):Ret prog 12 [.slice Kt a.length Ks,.slice Ad iv.length Ac] h (.bool (dO a iv)):=by
 refine sT func12 U ntmps12 U fun X hM hX hF=>?_
 have hs0:dO a iv=dO a iv:=rfl
 refine qK 13 [] U (ac hs0 U (fun c1 hs1=>?_) (fun c1 hs2=>?_))
 ·exact sr (an (nretP [.bool false] (cs hs1)))
 ·refine qT 6 U ?_
  refine lp0 a (fun i=>[(0,.slice Kt a.length Ks),(1,.slice Ad iv.length Ac),(5,I (i:Int))]) ([]) (fun s1 i=>(dO.L1 iv (dO.K1)) s1 i) ha.1.1 hs2 ?_ ?_ ?_
  ·rintro i1 eR hs4 e
   exact sr (an (nretP [.bool true] (cs hs4)))
  ·rintro i1 y1 rz1 hd1 cz ar dF fF hs6 hx1 ag1 e
   refine qK 6 [] U (ae (v':=.bool true) U (cb cz) (qO 6 U (eA ([]) mixed kr jn (fun cI _=>qA [0,1] U (cC 2 (enc:=Span.cells) cI jn ei rG ty46 ha.1 (nthZ ar) (au ar) U U U U kr (fun q3 A3=>tf 3 U U (fun _ _ hj=>iQ ty46 (A3.mono hj.1) U U) (qA [4,5] U ?_)))))))
   have ho2:0≤((i1:Int):Int)∧((i1:Int):Int) < ((iv).length:Int):=ob
   refine cC 6 (enc:=Span.cells) cI jn ei rG ty46 tz.1 ho2 (bJ ho2) U U U U kr (fun q4 A4=>tf 7 U U (fun _ _ hj=>iQ ty46 (A4.mono hj.1) U U) (tf 8 U U (fun _ _ _=>KA (IC y1 (nthI iv (i1:Int))) eqg46 U U) (aI kr (ac hs6 U (fun c3 hs7=>?_) (fun c3 hs8=>?_)))))
   ·exact sr (an (nretP [.bool false] (cs hs7)))
   ·exact aG (qT 3 U (ae (v':=I (((i1+1):Nat):Int)) U (aL ob) (an (ag1 hs8))))
  ·rintro i1 hd1 eM hx e
   exact qK 6 [] U (ae (v':=.bool false) U (cb eM) (qO 3 U (hx _ rd)))
theorem jI (h:HF) (aZ:Register) (dD:dR) (known:Int) (who:List Int) (dA:Option Addr) (dz:Nat) (want:List Span) (GQ:Option Addr) (GP:Nat) (gM:Register.ok h aZ dD) (hwho:SlC Rp.int h dA dz who) (hwant:SlC Span.rp h GQ GP want) (hsm:smR aZ) (hsw:who.length≤2000000) (hk:Kinds h):Ret prog 24 [.agg (Register.cells aZ dD).toArray,I known,.slice dA who.length dz,.slice GQ want.length GP] h (.bool (sf aZ known who want)):=by
 refine sT func24 U ntmps24 U fun X hM hX hF=>?_
 have hs0:sf aZ known who want=sf aZ known who want:=rfl
 refine sr (cy (fun b1=>qO 4 U (cM 0 ty30 U U U (qO 2 U (az (cg Ff (mb _ _ _ 4 _ _ _ known gM hwho ob ob hk) U (fun v1 h1 hle1 hp1=>?_)))))))
 obtain ⟨rb1,rc1,rfl,sl1⟩:=hp1
 refine qO 11 U (bz 4 [20,21,22,23,24] 20 24 (dO ((cZ aZ 4 who known).1) want) U (fun c1 hk1=>?_) (fun e=>?_))
 ·exact aj (aj (ah call12 (oh _ _ _ _ _ _ _ sl1 (hwant.mono Span.ak hle1)) U (ew U (hk1 _ U))))
 exact an (nretP [.bool (((cZ aZ 4 who known).2==0)&&(dO ((cZ aZ 4 who known).1) want))] (cs hs0))
theorem AD (h:HF)  (hk:Kinds h):Ret prog 8 [] h (.bool (oz)):=by
 refine sT func8 U ntmps8 U fun X hM hX hF=>?_
 have hs0:oz=oz:=rfl
 refine qT 6 U (az (cg call23 (sg h) U (fun v1 h1 hle1 hp1=>?_)))
 obtain ⟨rr1,rfl,ok1⟩:=hp1
 refine bG zc30 (fun b1=>bC 0 ty30 U U U U U U (qO 3 U (az (em (cells:=[.slice none 0 0,.slice none 0 0,.slice none 0 0,.slice none 0 0,.slice none 0 0,.slice none 0 0,.slice none 0 0]) (places:=[(0,1),(1,1),(2,1),(3,1),(4,1),(5,1),(6,1)]) Fy zc30 kr kr (az (cg Ff (mb h1 (Register.mk ([]) ([]) ([]) ([]) ([]) ([]) ([])) (dR.mk none 0 none 0 none 0 none 0 none 0 none 0 none 0) 0 ([]) none 0 0 (show Register.ok h1 (Register.mk ([]) ([]) ([]) ([]) ([]) ([]) ([])) (dR.mk none 0 none 0 none 0 none 0 none 0 none 0 none 0) from ⟨SlC.nil,SlC.nil,SlC.nil,SlC.nil,SlC.nil,SlC.nil,SlC.nil⟩) SlC.nil ml ob (hk.mono hle1)) U (fun v2 h2 hle2 hp2=>?_)))))))
 rw [show (cZ (Register.mk ([]) ([]) ([]) ([]) ([]) ([]) ([])) 0 ([]) 0)=([],1) from by kernel_rfl] at hp2
 obtain ⟨rb1,rc1,rfl,sl1⟩:=hp2
 refine qO 8 U (az (em (cells:=[.slice none 0 0,.slice none 0 0,.slice none 0 0,.slice none 0 0,.slice none 0 0,.slice none 0 0,.slice none 0 0]) (places:=[(0,1),(1,1),(2,1),(3,1),(4,1),(5,1),(6,1)]) Fy zc30 kr kr (az (cg Fe (lB h2 (Register.mk ([]) ([]) ([]) ([]) ([]) ([]) ([])) (dR.mk none 0 none 0 none 0 none 0 none 0 none 0 none 0) 0 0 0 0 (show Register.ok h2 (Register.mk ([]) ([]) ([]) ([]) ([]) ([]) ([])) (dR.mk none 0 none 0 none 0 none 0 none 0 none 0 none 0) from ⟨SlC.nil,SlC.nil,SlC.nil,SlC.nil,SlC.nil,SlC.nil,SlC.nil⟩) ml (hk.mono (hle1.t hle2))) U (fun v3 h3 hle3 hp3=>?_)))))
 rw [show (gN (Register.mk ([]) ([]) ([]) ([]) ([]) ([]) ([])) 0 0 0 0)=([],false,1) from by kernel_rfl] at hp3
 obtain ⟨rb2,rc2,rfl,sl2⟩:=hp3
 refine qO 10 U (az (em (cells:=[I 0,I 0,I 0,I 0,I 0,I 0,.bool false]) (places:=[(0,1),(1,1),(2,1),(3,1),(4,1),(5,1),(6,1)]) Fx zc59 kr kr (az (bd (cells:=[I 0,I 0,I 0,I 0,I 0,I 0,.bool false]) nG ty59 zc59 U U kr (fun b2=>az (em (cells:=[.slice (some ⟨b2,0,none⟩) 1 1,.slice none 0 0,.slice none 0 0,.slice none 0 0,.slice none 0 0,.slice none 0 0,.slice none 0 0]) (places:=[(0,1),(1,1),(2,1),(3,1),(4,1),(5,1),(6,1)]) Fy zc30 kr kr (bO 0 U hM (fun h4 hle4 hb1=>?_))))))))
 have sl3:SlC Appoint.rp h4 (some ⟨b2,0,none⟩) 1 ([(Appoint.mk 0 0 0 0 0 0 false)]):=aT.slB0 (T:=59) (fz:=(0,0)) ((show aT Appoint.rp h3 [I 0,I 0,I 0,I 0,I 0,I 0,.bool false] ([(Appoint.mk 0 0 0 0 0 0 false)]) from ⟨[I 0,I 0,I 0,I 0,I 0,I 0,.bool false],[],rfl,rfl,rfl,rfl⟩).mono Appoint.ak hle4) hb1
 refine az (cg Ff (mb h4 (Register.mk ([(Appoint.mk 0 0 0 0 0 0 false)]) ([]) ([]) ([]) ([]) ([]) ([])) (dR.mk (some ⟨b2,0,none⟩) 1 none 0 none 0 none 0 none 0 none 0 none 0) 0 ([]) none 0 0 (show Register.ok h4 (Register.mk ([(Appoint.mk 0 0 0 0 0 0 false)]) ([]) ([]) ([]) ([]) ([]) ([])) (dR.mk (some ⟨b2,0,none⟩) 1 none 0 none 0 none 0 none 0 none 0 none 0) from ⟨sl3,SlC.nil,SlC.nil,SlC.nil,SlC.nil,SlC.nil,SlC.nil⟩) SlC.nil ml ob (hk.mono (((hle1.t hle2).t hle3).t hle4))) U (fun v4 h5 hle5 hp4=>?_))
 rw [show (cZ (Register.mk ([(Appoint.mk 0 0 0 0 0 0 false)]) ([]) ([]) ([]) ([]) ([]) ([])) 0 ([]) 0)=([],300) from by kernel_rfl] at hp4
 obtain ⟨rb3,rc3,rfl,sl4⟩:=hp4
 refine qO 8 U (cM 0 ty30 U U U (az (bd (cells:=[I 2,I 1]) cR ty3 zc3 U U kr (fun b3=>bO 0 U hM (fun h6 hle6 hb2=>?_)))))
 have sl5:SlC Rp.int h6 (some ⟨b3,0,none⟩) 2 ([2,1]):=aT.slB0 (T:=3) (fz:=(0,0)) ((show aT Rp.int h5 [I 2,I 1] ([2,1]) from ⟨[I 2],[I 1],rfl,rfl,rfl,⟨[I 1],[],rfl,rfl,rfl,rfl⟩⟩).mono Rp.aW hle6) hb2
 refine az (cg Ff (mb h6 bB rr1 4 ([2,1]) (some ⟨b3,0,none⟩) 2 0 (ok1.mono ((((hle2.t hle3).t hle4).t hle5).t hle6)) sl5 ml ob (hk.mono (((((hle1.t hle2).t hle3).t hle4).t hle5).t hle6))) U (fun v5 h7 hle7 hp5=>?_))
 rw [show (cZ bB 4 ([2,1]) 0)=([],1) from by kernel_rfl] at hp5
 obtain ⟨rb4,rc4,rfl,sl6⟩:=hp5
 refine qO 8 U (cM 0 ty30 U U U (az (cg Fe (lB h7 bB rr1 4 3 20 30 (ok1.mono (((((hle2.t hle3).t hle4).t hle5).t hle6).t hle7)) ml (hk.mono ((((((hle1.t hle2).t hle3).t hle4).t hle5).t hle6).t hle7))) U (fun v6 h8 hle8 hp6=>?_))))
 rw [show (gN bB 4 3 20 30)=([1],true,0) from by kernel_rfl] at hp6
 obtain ⟨rb5,rc5,rfl,sl7⟩:=hp6
 refine qO 10 U (cM 0 ty30 U U U (az (cg Fe (lB h8 bB rr1 4 3 20 29 (ok1.mono ((((((hle2.t hle3).t hle4).t hle5).t hle6).t hle7).t hle8)) ml (hk.mono (((((((hle1.t hle2).t hle3).t hle4).t hle5).t hle6).t hle7).t hle8))) U (fun v7 h9 hle9 hp7=>?_))))
 rw [show (gN bB 4 3 20 29)=([1,2],true,0) from by kernel_rfl] at hp7
 obtain ⟨rb6,rc6,rfl,sl8⟩:=hp7
 refine qO 10 U (cM 0 ty30 U U U (az (cg Fe (lB h9 bB rr1 4 1 14 30 (ok1.mono (((((((hle2.t hle3).t hle4).t hle5).t hle6).t hle7).t hle8).t hle9)) ml (hk.mono ((((((((hle1.t hle2).t hle3).t hle4).t hle5).t hle6).t hle7).t hle8).t hle9))) U (fun v8 h10 hle10 hp8=>?_))))
 rw [show (gN bB 4 1 14 30)=([],false,0) from by kernel_rfl] at hp8
 obtain ⟨rb7,rc7,rfl,sl9⟩:=hp8
 refine qO 10 U (cM 0 ty30 U U U (az (cg Fe (lB h10 bB rr1 4 1 15 30 (ok1.mono ((((((((hle2.t hle3).t hle4).t hle5).t hle6).t hle7).t hle8).t hle9).t hle10)) ml (hk.mono (((((((((hle1.t hle2).t hle3).t hle4).t hle5).t hle6).t hle7).t hle8).t hle9).t hle10))) U (fun v9 h11 hle11 hp9=>?_))))
 rw [show (gN bB 4 1 15 30)=([2],true,0) from by kernel_rfl] at hp9
 obtain ⟨rb8,rc8,rfl,sl10⟩:=hp9
 refine qL 67 [] U ?_
 have ho1:0≤(0:Int)∧(0:Int) < (([1]).length:Int):=(by decide)
 refine az (ef (enc:=fun y=>[I y]) ei cR ty3 (sl7.mono Rp.aW ((hle9.t hle10).t hle11)).1 ho1 (bJ ho1) U U U (fun q1 A1=>cL ty3 A1 U (qL 9 [] U ?_)))
 have ho2:0≤(0:Int)∧(0:Int) < (([2]).length:Int):=(by decide)
 refine az (ef (enc:=fun y=>[I y]) ei cR ty3 sl10.1 ho2 (bJ ho2) U U U (fun q2 A2=>cL ty3 A2 U (qL 9 [] U ?_)))
 have ho3:0≤(0:Int)∧(0:Int) < (([1,2]).length:Int):=(by decide)
 refine az (ef (enc:=fun y=>[I y]) ei cR ty3 (sl8.mono Rp.aW (hle10.t hle11)).1 ho3 (bJ ho3) U U U (fun q3 A3=>cL ty3 A3 U (qO 4 U ?_)))
 have ho4:0≤(1:Int)∧(1:Int) < (([1,2]).length:Int):=(by decide)
 refine az (ef (enc:=fun y=>[I y]) ei cR ty3 (sl8.mono Rp.aW (hle10.t hle11)).1 ho4 (bJ ho4) U U U (fun q4 A4=>cL ty3 A4 U (qO 7 U (az (em (cells:=[I 15,I 100]) (places:=[(0,1),(1,1)]) wQ zc46 kr kr (bG zc46 (fun b4=>bC 0 ty46 U U U U U U (qO 4 U (cM 1 ty30 U U U (az (bd (cells:=[I 1,I 2]) cR ty3 zc3 U U kr (fun b5=>cM 1 ty46 U U U (az (bd (cells:=[I 15,I 100]) rG ty46 zc46 U U kr (fun b6=>bO 1 U hM (fun h12 hle12 hb3=>?_))))))))))))))))
 have sl11:SlC Rp.int h12 (some ⟨b5,0,none⟩) 2 ([1,2]):=aT.slB0 (T:=3) (fz:=(0,0)) ((show aT Rp.int h11 [I 1,I 2] ([1,2]) from ⟨[I 1],[I 2],rfl,rfl,rfl,⟨[I 2],[],rfl,rfl,rfl,rfl⟩⟩).mono Rp.aW hle12) hb3
 refine bO 0 U hM (fun h13 hle13 hb4=>?_)
 have sl12:SlC Span.rp h13 (some ⟨b6,0,none⟩) 1 ([(Span.mk 15 100)]):=aT.slB0 (T:=46) (fz:=(0,0)) ((show aT Span.rp h12 [I 15,I 100] ([(Span.mk 15 100)]) from ⟨[I 15,I 100],[],rfl,rfl,rfl,rfl⟩).mono Span.ak hle13) hb4
 refine ah (v:=.bool true) AS (ui (jI h13 bB rr1 0 ([1,2]) (some ⟨b5,0,none⟩) 2 ([(Span.mk 15 100)]) (some ⟨b6,0,none⟩) 1 (ok1.mono (((((((((((hle2.t hle3).t hle4).t hle5).t hle6).t hle7).t hle8).t hle9).t hle10).t hle11).t hle12).t hle13)) (sl11.mono Rp.aW hle13) sl12 ml ob (hk.mono ((((((((((((hle1.t hle2).t hle3).t hle4).t hle5).t hle6).t hle7).t hle8).t hle9).t hle10).t hle11).t hle12).t hle13))) kr) U (qO 2 U (cM 1 ty30 U U U (az (bd (cells:=[I 1,I 3]) cR ty3 zc3 U U kr (fun b7=>az (em (cells:=[I 20,I 100]) (places:=[(0,1),(1,1)]) wQ zc46 kr kr (az (bd (cells:=[I 20,I 100]) rG ty46 zc46 U U kr (fun b8=>bO 1 U hM (fun h14 hle14 hb5=>?_))))))))))
 have sl13:SlC Rp.int h14 (some ⟨b7,0,none⟩) 2 ([1,3]):=aT.slB0 (T:=3) (fz:=(0,0)) ((show aT Rp.int h13 [I 1,I 3] ([1,3]) from ⟨[I 1],[I 3],rfl,rfl,rfl,⟨[I 3],[],rfl,rfl,rfl,rfl⟩⟩).mono Rp.aW hle14) hb5
 refine bO 0 U hM (fun h15 hle15 hb6=>?_)
 have sl14:SlC Span.rp h15 (some ⟨b8,0,none⟩) 1 ([(Span.mk 20 100)]):=aT.slB0 (T:=46) (fz:=(0,0)) ((show aT Span.rp h14 [I 20,I 100] ([(Span.mk 20 100)]) from ⟨[I 20,I 100],[],rfl,rfl,rfl,rfl⟩).mono Span.ak hle15) hb6
 refine ah (v:=.bool true) AS (ui (jI h15 bB rr1 30 ([1,3]) (some ⟨b7,0,none⟩) 2 ([(Span.mk 20 100)]) (some ⟨b8,0,none⟩) 1 (ok1.mono (((((((((((((hle2.t hle3).t hle4).t hle5).t hle6).t hle7).t hle8).t hle9).t hle10).t hle11).t hle12).t hle13).t hle14).t hle15)) (sl13.mono Rp.aW hle15) sl14 ml ob (hk.mono ((((((((((((((hle1.t hle2).t hle3).t hle4).t hle5).t hle6).t hle7).t hle8).t hle9).t hle10).t hle11).t hle12).t hle13).t hle14).t hle15))) kr) U (qO 3 U (cM 1 ty30 U U U (az (bd (cells:=[I 1,I 3]) cR ty3 zc3 U U kr (fun b9=>bO 0 U hM (fun h16 hle16 hb7=>?_))))))
 have sl15:SlC Rp.int h16 (some ⟨b9,0,none⟩) 2 ([1,3]):=aT.slB0 (T:=3) (fz:=(0,0)) ((show aT Rp.int h15 [I 1,I 3] ([1,3]) from ⟨[I 1],[I 3],rfl,rfl,rfl,⟨[I 3],[],rfl,rfl,rfl,rfl⟩⟩).mono Rp.aW hle16) hb7
 refine ah (v:=.bool true) AS (ui (jI h16 bB rr1 29 ([1,3]) (some ⟨b9,0,none⟩) 2 ([]) none 0 (ok1.mono ((((((((((((((hle2.t hle3).t hle4).t hle5).t hle6).t hle7).t hle8).t hle9).t hle10).t hle11).t hle12).t hle13).t hle14).t hle15).t hle16)) sl15 SlC.nil ml ob (hk.mono (((((((((((((((hle1.t hle2).t hle3).t hle4).t hle5).t hle6).t hle7).t hle8).t hle9).t hle10).t hle11).t hle12).t hle13).t hle14).t hle15).t hle16))) kr) U (qO 3 U (cM 1 ty30 U U U (az (bd (cells:=[I 9]) cR ty3 zc3 U U kr (fun b10=>bO 0 U hM (fun h17 hle17 hb8=>?_))))))
 have sl16:SlC Rp.int h17 (some ⟨b10,0,none⟩) 1 ([9]):=aT.slB0 (T:=3) (fz:=(0,0)) ((show aT Rp.int h16 [I 9] ([9]) from ⟨[I 9],[],rfl,rfl,rfl,rfl⟩).mono Rp.aW hle17) hb8
 refine ah (v:=.bool true) AS (ui (jI h17 bB rr1 0 ([9]) (some ⟨b10,0,none⟩) 1 ([]) none 0 (ok1.mono (((((((((((((((hle2.t hle3).t hle4).t hle5).t hle6).t hle7).t hle8).t hle9).t hle10).t hle11).t hle12).t hle13).t hle14).t hle15).t hle16).t hle17)) sl16 SlC.nil ml ob (hk.mono ((((((((((((((((hle1.t hle2).t hle3).t hle4).t hle5).t hle6).t hle7).t hle8).t hle9).t hle10).t hle11).t hle12).t hle13).t hle14).t hle15).t hle16).t hle17))) kr) U (qO 3 U (cM 1 ty30 U U U (ah (v:=.bool true) AS (ui (jI h17 bB rr1 0 ([]) none 0 ([]) none 0 (ok1.mono (((((((((((((((hle2.t hle3).t hle4).t hle5).t hle6).t hle7).t hle8).t hle9).t hle10).t hle11).t hle12).t hle13).t hle14).t hle15).t hle16).t hle17)) SlC.nil SlC.nil ml ob (hk.mono ((((((((((((((((hle1.t hle2).t hle3).t hle4).t hle5).t hle6).t hle7).t hle8).t hle9).t hle10).t hle11).t hle12).t hle13).t hle14).t hle15).t hle16).t hle17))) kr) U (qO 7 U (az (em (cells:=[I 1,I 40,I 0,I 2,I 6,.bool false,.bool false]) (places:=[(0,1),(1,1),(2,1),(3,1),(4,1),(5,1),(6,1)]) Hk zc61 kr kr (az (em (cells:=[I 2,I 50,I 0,I 2,I 6,.bool false,.bool true]) (places:=[(0,1),(1,1),(2,1),(3,1),(4,1),(5,1),(6,1)]) Hk zc61 kr kr (az (bd (cells:=[I 1,I 40,I 0,I 2,I 6,.bool false,.bool false,I 2,I 50,I 0,I 2,I 6,.bool false,.bool true]) lT ty61 zc61 U U kr (fun b11=>qL 1 [] U (dw 2 ty24 U U U U U U (qO 3 U (az (cg call23 (sg h17) U (fun v10 h18 hle18 hp10=>?_))))))))))))))))
 obtain ⟨rr2,rfl,ok2⟩:=hp10
 refine bG zc30 (fun b12=>bC 0 ty30 U U U U U U (qL 4 [] U (dw 0 ty26 U U U U U U (qO 3 U (cM 3 ty30 U U U (az (bd (cells:=[I 1,I 2]) cR ty3 zc3 U U kr (fun b13=>az (em (cells:=[I 15,I 40]) (places:=[(0,1),(1,1)]) wQ zc46 kr kr (az (em (cells:=[I 50,I 100]) (places:=[(0,1),(1,1)]) wQ zc46 kr kr (az (bd (cells:=[I 15,I 40,I 50,I 100]) rG ty46 zc46 U U kr (fun b14=>bO 3 U hM (fun h19 hle19 hb9=>?_)))))))))))))))
 have sl17:SlC Interest.rp h19 (some ⟨b11,0,none⟩) 2 ([(Interest.mk 1 40 0 2 6 false false),(Interest.mk 2 50 0 2 6 false true)]):=aT.slB0 (T:=61) (fz:=(0,0)) ((show aT Interest.rp h18 [I 1,I 40,I 0,I 2,I 6,.bool false,.bool false,I 2,I 50,I 0,I 2,I 6,.bool false,.bool true] ([(Interest.mk 1 40 0 2 6 false false),(Interest.mk 2 50 0 2 6 false true)]) from ⟨[I 1,I 40,I 0,I 2,I 6,.bool false,.bool false],[I 2,I 50,I 0,I 2,I 6,.bool false,.bool true],rfl,rfl,rfl,⟨[I 2,I 50,I 0,I 2,I 6,.bool false,.bool true],[],rfl,rfl,rfl,rfl⟩⟩).mono Interest.ak hle19) hb9
 refine bO 1 U hM (fun h20 hle20 hb10=>?_)
 have sl18:SlC Rp.int h20 (some ⟨b13,0,none⟩) 2 ([1,2]):=aT.slB0 (T:=3) (fz:=(0,0)) ((show aT Rp.int h19 [I 1,I 2] ([1,2]) from ⟨[I 1],[I 2],rfl,rfl,rfl,⟨[I 2],[],rfl,rfl,rfl,rfl⟩⟩).mono Rp.aW hle20) hb10
 refine bO 0 U hM (fun h21 hle21 hb11=>?_)
 have sl19:SlC Span.rp h21 (some ⟨b14,0,none⟩) 2 ([(Span.mk 15 40),(Span.mk 50 100)]):=aT.slB0 (T:=46) (fz:=(0,0)) ((show aT Span.rp h20 [I 15,I 40,I 50,I 100] ([(Span.mk 15 40),(Span.mk 50 100)]) from ⟨[I 15,I 40],[I 50,I 100],rfl,rfl,rfl,⟨[I 50,I 100],[],rfl,rfl,rfl,rfl⟩⟩).mono Span.ak hle21) hb11
 refine ah (v:=.bool true) AS (ui (jI h21 (Register.mk bB.Appoints bB.Deputies ([(Interest.mk 1 40 0 2 6 false false),(Interest.mk 2 50 0 2 6 false true)]) bB.Budgets bB.Versions bB.Docs bB.Approvals) (dR.mk rr1.kI rr1.kH rr1.lG rr1.lF (some ⟨b11,0,none⟩) 2 rr1.mC rr1.mB rr1.kG rr1.kF rr1.sJ rr1.sI rr1.kz rr1.ky) 0 ([1,2]) (some ⟨b13,0,none⟩) 2 ([(Span.mk 15 40),(Span.mk 50 100)]) (some ⟨b14,0,none⟩) 2 (show Register.ok h21 (Register.mk bB.Appoints bB.Deputies ([(Interest.mk 1 40 0 2 6 false false),(Interest.mk 2 50 0 2 6 false true)]) bB.Budgets bB.Versions bB.Docs bB.Approvals) (dR.mk rr1.kI rr1.kH rr1.lG rr1.lF (some ⟨b11,0,none⟩) 2 rr1.mC rr1.mB rr1.kG rr1.kF rr1.sJ rr1.sI rr1.kz rr1.ky) from ⟨(ok1.Appoints.mono Appoint.ak (((((((((((((((((((hle2.t hle3).t hle4).t hle5).t hle6).t hle7).t hle8).t hle9).t hle10).t hle11).t hle12).t hle13).t hle14).t hle15).t hle16).t hle17).t hle18).t hle19).t hle20).t hle21)),(ok1.Deputies.mono Deputy.ak (((((((((((((((((((hle2.t hle3).t hle4).t hle5).t hle6).t hle7).t hle8).t hle9).t hle10).t hle11).t hle12).t hle13).t hle14).t hle15).t hle16).t hle17).t hle18).t hle19).t hle20).t hle21)),(sl17.mono Interest.ak (hle20.t hle21)),(ok1.Budgets.mono Budget.ak (((((((((((((((((((hle2.t hle3).t hle4).t hle5).t hle6).t hle7).t hle8).t hle9).t hle10).t hle11).t hle12).t hle13).t hle14).t hle15).t hle16).t hle17).t hle18).t hle19).t hle20).t hle21)),(ok1.Versions.mono Version.ak (((((((((((((((((((hle2.t hle3).t hle4).t hle5).t hle6).t hle7).t hle8).t hle9).t hle10).t hle11).t hle12).t hle13).t hle14).t hle15).t hle16).t hle17).t hle18).t hle19).t hle20).t hle21)),(ok1.Docs.mono Document.ak (((((((((((((((((((hle2.t hle3).t hle4).t hle5).t hle6).t hle7).t hle8).t hle9).t hle10).t hle11).t hle12).t hle13).t hle14).t hle15).t hle16).t hle17).t hle18).t hle19).t hle20).t hle21)),(ok1.Approvals.mono Approval.ak (((((((((((((((((((hle2.t hle3).t hle4).t hle5).t hle6).t hle7).t hle8).t hle9).t hle10).t hle11).t hle12).t hle13).t hle14).t hle15).t hle16).t hle17).t hle18).t hle19).t hle20).t hle21))⟩) (sl18.mono Rp.aW hle21) sl19 ml ob (hk.mono ((((((((((((((((((((hle1.t hle2).t hle3).t hle4).t hle5).t hle6).t hle7).t hle8).t hle9).t hle10).t hle11).t hle12).t hle13).t hle14).t hle15).t hle16).t hle17).t hle18).t hle19).t hle20).t hle21))) kr) U ?_
 refine aj (cM 0 ty30 U U U (az (bd (cells:=[I 1,I 2]) cR ty3 zc3 U U kr (fun b15=>bO 0 U hM (fun h22 hle22 hb12=>?_)))))
 have sl20:SlC Rp.int h22 (some ⟨b15,0,none⟩) 2 ([1,2]):=aT.slB0 (T:=3) (fz:=(0,0)) ((show aT Rp.int h21 [I 1,I 2] ([1,2]) from ⟨[I 1],[I 2],rfl,rfl,rfl,⟨[I 2],[],rfl,rfl,rfl,rfl⟩⟩).mono Rp.aW hle22) hb12
 exact ah (v:=.bool true) AS (ui (jI h22 (Register.mk bB.Appoints bB.Deputies bB.Interests bB.Budgets ([]) bB.Docs bB.Approvals) (dR.mk rr2.kI rr2.kH rr2.lG rr2.lF rr2.lE rr2.lD rr2.mC rr2.mB none 0 rr2.sJ rr2.sI rr2.kz rr2.ky) 0 ([1,2]) (some ⟨b15,0,none⟩) 2 ([]) none 0 (show Register.ok h22 (Register.mk bB.Appoints bB.Deputies bB.Interests bB.Budgets ([]) bB.Docs bB.Approvals) (dR.mk rr2.kI rr2.kH rr2.lG rr2.lF rr2.lE rr2.lD rr2.mC rr2.mB none 0 rr2.sJ rr2.sI rr2.kz rr2.ky) from ⟨(ok2.Appoints.mono Appoint.ak (((hle19.t hle20).t hle21).t hle22)),(ok2.Deputies.mono Deputy.ak (((hle19.t hle20).t hle21).t hle22)),(ok2.Interests.mono Interest.ak (((hle19.t hle20).t hle21).t hle22)),(ok2.Budgets.mono Budget.ak (((hle19.t hle20).t hle21).t hle22)),SlC.nil,(ok2.Docs.mono Document.ak (((hle19.t hle20).t hle21).t hle22)),(ok2.Approvals.mono Approval.ak (((hle19.t hle20).t hle21).t hle22))⟩) sl20 SlC.nil ml ob (hk.mono (((((((((((((((((((((hle1.t hle2).t hle3).t hle4).t hle5).t hle6).t hle7).t hle8).t hle9).t hle10).t hle11).t hle12).t hle13).t hle14).t hle15).t hle16).t hle17).t hle18).t hle19).t hle20).t hle21).t hle22))) kr) U (qO 3 U (nretP [.bool true] (cs hs0)))
theorem xz (rec:Expr→Int→Int) (h:HF) (x:Expr) (eQ:ce) (limit:Int) (hrec:∀ (h:HF) (qx:Expr) (iT:ce) (qlimit:Int) (hqx:Expr.ok h qx iT) (_:qx.dep < x.dep),Ret prog 50 [.agg (Expr.cells qx iT).toArray,I qlimit] h (I (rec qx qlimit))) (hx:Expr.ok h x eQ):Ret prog 50 [.agg (Expr.cells x eQ).toArray,I limit] h (I (fb.F rec x limit)):=by
 refine sT func50 U ntmps50 U fun X hM hX hF=>?_
 have hs0:fb.F rec x limit=fb.F rec x limit:=rfl
 refine sr (cy (fun b1=>qO 11 U ?_))
 refine lp1 x.L (fun i w=>[(1,I limit),(2,Q b1),(5,I w),(6,I (i:Int))]) ([(b1,O (Expr.cells x eQ) 66)]) (fun s1 i w=>(fb.L1 rec limit (fb.K1)) s1 w) 1 hx.list.1.1 hs0 ?_ ?_ ?_
 ·rintro i1 gY eR hs1 e
  exact sr (qO 3 U (nretP [I gY] (ci hs1)))
 ·rintro i1 gY y1 rz1 hd1 cz ar dF fF hs3 hx1 ag1 e
  refine qK 7 [0] U (ae (v':=.bool true) U (cb cz) (qO 6 U (ac hs3 U (fun c2 hs4=>?_) (fun c2 hs5=>?_))))
  ·have c2p:=of_decide_eq_true c2
   exact qK 8 [0] U (az (dU jh ty66 hx.list.1 (nthZ ar) (au ar) U U U (fun _ _ _ e=>e) (fun q2 r2 A2 ok2=>dg ty66 A2 U U (qO 3 U (ah call50 (hrec _ _ _ (IntKind.wrap .i64 (limit - gY)) ok2 (Expr.gk (fA hd1))) U (qO 6 U (ae (v':=I (((i1+1):Nat):Int)) U (aL ob) (an (ag1 (IntKind.wrap .i64 (gY+(rec y1 (IntKind.wrap .i64 (limit - gY))))) hs4)))))))))
  ·have c2p:=of_decide_eq_false c2
   exact jJ U (hx1 i1 gY hs5)
 ·rintro i1 gY hd1 eM hx e
  exact qK 7 [0] U (ae (v':=.bool false) U (cb eM) (qO 8 U (hx _ rd)))
theorem o9:∀ (m:Nat) (h:HF) (x:Expr) (eQ:ce) (limit:Int) (_:x.dep≤m) (hx:Expr.ok h x eQ),Ret prog 50 [.agg (Expr.cells x eQ).toArray,I limit] h (I (fb.go m x limit))
 | 0,h,x,eQ,limit,hd,hx=>absurd hd (Nat.not_le.2 (Expr.jK _))
 | m+1,h,x,eQ,limit,hd,hx=>xz (fb.go m) h x eQ limit (fun qh_ qx iT qlimit qhx qd=>o9 m qh_ qx iT qlimit ob qhx) hx
theorem rM (h:HF) (x:Expr) (eQ:ce) (limit:Int) (hx:Expr.ok h x eQ):Ret prog 50 [.agg (Expr.cells x eQ).toArray,I limit] h (I (fb x limit)):=o9 _ h x eQ limit (Nat.le_refl _) hx
open Go.Proofs Go.Proofs.Tryz
set_option maxHeartbeats 2000000
theorem rN (h:HF) (l:List Version) (eE:Option Addr) (eD:Nat) (hl:SlC Version.rp h eE eD l):Ret prog 25 [.slice eE l.length eD] h (.bool (di l)):=by
 refine sT func25 U ntmps25 U fun X hM hX hF=>?_
 have hs0:di l=di l:=rfl
 refine qK 11 [] U (ac hs0 U (fun c1 hs1=>?_) (fun c1 hs2=>?_))
 ·have c1p:=of_decide_eq_true c1
  exact sr (an (nretP [.bool false] (cs hs1)))
 ·have c1p:=of_decide_eq_false c1
  refine qT 6 U ?_
  refine lp0 l (fun i=>[(0,.slice eE l.length eD),(3,I (i:Int))]) ([]) (fun s1 i=>(di.L1 (di.K1)) s1) hl.1.1 hs2 ?_ ?_ ?_
  ·rintro i1 eR hs4 e
   exact sr (an (nretP [.bool true] (cs hs4)))
  ·rintro i1 y1 rz1 hd1 cz ar dF fF hs6 hx1 ag1 e
   refine qK 6 [] U (ae (v':=.bool true) U (cb cz) (qO 9 U (az (dU kJ ty70 hl.1 (nthZ ar) (au ar) U U U (fun _ _ _ e=>e) (fun q2 r2 A2 ok2=>qL 1 [] U (uq (j:=3) ty68 A2 U U (bG zc68 (fun b2=>bC 0 ty68 U U U U U U (qL 9 [0] U (cf 5 [24,25,26,27,28,29] 24 29 (decide (40 < (y1.Policy.Offices.length:Int))) U (fun c2 hk1=>?_) (fun e=>?_)))))))))))
   ·exact qL 5 [0] U (hk1 _ U)
   refine aj (cf 5 [30,31,32,33,34,35] 30 35 (decide (20 < (y1.Policy.Rules.length:Int))) U (fun c3 hk2=>?_) (fun e=>?_))
   ·exact qL 5 [0] U (hk2 _ U)
   refine aj (cf 5 [36,37,38,39,40,41] 36 41 (decide (40 < (fb y1.Policy.Change 40))) U (fun c4 hk3=>?_) (fun e=>?_))
   ·exact qL 1 [] U (cM 0 ty66 U U U (ah call50 (rM _ _ _ 40 ok2.Policy.Change) U (qO 2 U (hk3 _ U))))
   refine aN (ac hs6 U (fun c5 hs7=>?_) (fun c5 hs8=>?_))
   ·exact sr (an (nretP [.bool false] (cs hs7)))
   ·refine qT 5 U ?_
    refine lp0 y1.Policy.Rules (fun i=>[(0,.slice eE l.length eD),(3,I (i1:Int)),(4,Q b2),(5,I (i:Int))]) ([(b2,O (Policy.cells y1.Policy r2.Policy) 68)]) (fun s3 i=>(di.L3 ((di.L1 (di.K1) rz1))) s3) ok2.Policy.Rules.1.1 hs8 ?_ ?_ ?_
    ·rintro i3 uA hs10 e
     exact e8 (qT 2 U (ae (v':=I (((i1+1):Nat):Int)) U (aL ob) (an (bY (L':=[]) js (ag1 hs10)))))
    ·rintro i3 y3 rz3 hd3 uz hO zw E0 hs11 hx3 ag2 e
     refine qK 7 [0] U (ae (v':=.bool true) U (cb uz) (qL 10 [0] U (az (dU nO ty107 ok2.Policy.Rules.1 (nthZ hO) (au hO) U U U (fun _ _ _ e=>e) (fun q4 r4 A4 ok4=>qL 1 [] U (uq (j:=3) ty66 A4 U U (ah call50 (rM _ _ _ 40 ok4.Expr) U (qO 2 U (ac hs11 U (fun c7 hs12=>?_) (fun c7 hs13=>?_))))))))))
     ·have c7p:=of_decide_eq_true c7
      exact sr (an (nretP [.bool false] (cs hs12)))
     ·have c7p:=of_decide_eq_false c7
      exact aG (qT 3 U (ae (v':=I (((i3+1):Nat):Int)) U (aL ob) (an (ag2 hs13))))
    ·rintro i3 hd3 Cu hx e
     exact qK 7 [0] U (ae (v':=.bool false) U (cb Cu) (qO 3 U (hx _ rd)))
  ·rintro i1 hd1 eM hx e
   exact qK 6 [] U (ae (v':=.bool false) U (cb eM) (qO 3 U (hx _ rd)))
theorem B4 (h:HF) (aZ:Register) (dD:dR) (gM:Register.ok h aZ dD):Ret prog 9 [.agg (Register.cells aZ dD).toArray] h (.bool (jN aZ)):=by
 refine sT func9 U ntmps9 U fun X hM hX hF=>?_
 have hs0:jN aZ=jN aZ:=rfl
 refine sr (cy (fun b1=>qL 10 [0] U (cf 5 [8,9,10,11,12,13] 8 13 (decide (12 < (aZ.Deputies.length:Int))) U (fun c1 hk1=>?_) (fun e=>?_))))
 ·exact qL 5 [0] U (hk1 _ U)
 refine aj (cf 5 [14,15,16,17,18,19] 14 19 (decide (12 < (aZ.Interests.length:Int))) U (fun c2 hk2=>?_) (fun e=>?_))
 ·exact qL 5 [0] U (hk2 _ U)
 refine aj (cf 5 [20,21,22,23,24,25] 20 25 (decide (12 < (aZ.Budgets.length:Int))) U (fun c3 hk3=>?_) (fun e=>?_))
 ·exact qL 5 [0] U (hk3 _ U)
 refine aj (cf 5 [26,27,28,29,30,31] 26 31 (decide (8 < (aZ.Docs.length:Int))) U (fun c4 hk4=>?_) (fun e=>?_))
 ·exact qL 5 [0] U (hk4 _ U)
 refine aj (cf 5 [32,33,34,35,36,37] 32 37 (decide (24 < (aZ.Approvals.length:Int))) U (fun c5 hk5=>?_) (fun e=>?_))
 ·exact qL 5 [0] U (hk5 _ U)
 refine aj (cf 5 [38,39,40,41,42,43] 38 43 (!(di aZ.Versions)) U (fun c6 hk6=>?_) (fun e=>?_))
 ·exact qL 2 [0] U (ah call25 (rN _ _ _ _ gM.Versions) U (qO 2 U (hk6 _ U)))
 refine aN (ac hs0 U (fun c7 hs1=>?_) (fun c7 hs2=>?_))
 ·exact sr (an (nretP [.bool false] (cs hs1)))
 ·refine qT 6 U ?_
  refine lp0 aZ.Docs (fun i=>[(1,Q b1),(3,I (i:Int))]) ([(b1,O (Register.cells aZ dD) 30)]) (fun s1 i=>(jN.L1 (jN.K1)) s1) gM.Docs.1.1 hs2 ?_ ?_ ?_
  ·rintro i1 eR hs4 e
   exact sr (an (nretP [.bool true] (cs hs4)))
  ·rintro i1 y1 rz1 hd1 cz ar dF fF hs6 hx1 ag1 e
   refine qK 7 [0] U (ae (v':=.bool true) U (cb cz) (qL 10 [0] U (az (dU pz ty52 gM.Docs.1 (nthZ ar) (au ar) U U U (fun _ _ _ e=>e) (fun q3 r3 A3 ok3=>qL 1 [] U (jm (j:=6) ty31 A3 U U (qL 3 [] U (cf 9 [59,60,61,62,63,64,65,66,67,68] 59 68 (decide (20 < (y1.Revokes.length:Int))) U (fun c8 hk7=>?_) (fun e=>?_)))))))))
   ·exact qL 3 [0] U (az (dU pz ty52 gM.Docs.1 (nthZ ar) (au ar) U U U (fun _ _ _ e=>e) (fun q4 r4 A4 ok4=>qL 1 [] U (jm (j:=7) ty31 A4 U U (qL 3 [] U (hk7 _ U))))))
   refine aj (cf 9 [69,70,71,72,73,74,75,76,77,78] 69 78 (decide (20 < (y1.Needs.length:Int))) U (fun c9 hk8=>?_) (fun e=>?_))
   ·exact qL 3 [0] U (az (dU pz ty52 gM.Docs.1 (nthZ ar) (au ar) U U U (fun _ _ _ e=>e) (fun q5 r5 A5 ok5=>qL 1 [] U (jm (j:=8) ty31 A5 U U (qL 3 [] U (hk8 _ U))))))
   refine aN (ac hs6 U (fun c10 hs7=>?_) (fun c10 hs8=>?_))
   ·exact sr (an (nretP [.bool false] (cs hs7)))
   ·exact aG (qT 3 U (ae (v':=I (((i1+1):Nat):Int)) U (aL ob) (an (ag1 hs8))))
  ·rintro i1 hd1 eM hx e
   exact qK 7 [0] U (ae (v':=.bool false) U (cb eM) (qO 3 U (hx _ rd)))
theorem B5 (h:HF) (aZ:Register) (dD:dR) (no:Int) (gM:Register.ok h aZ dD):Ret prog 19 [.agg (Register.cells aZ dD).toArray,I no] h (I (bp aZ no)):=by
 refine sT func19 U ntmps19 U fun X hM hX hF=>?_
 have hs0:bp aZ no=bp aZ no:=rfl
 refine sr (cy (fun b1=>qO 7 U ?_))
 refine lp0 aZ.Docs (fun i=>[(1,I no),(2,Q b1),(5,I (i:Int))]) ([(b1,O (Register.cells aZ dD) 30)]) (fun s1 i=>(bp.L1 no (bp.K1)) s1 i) gM.Docs.1.1 hs0 ?_ ?_ ?_
 ·rintro i1 eR hs1 e
  exact sr (an (nretP [I (-1)] (ci hs1)))
 ·rintro i1 y1 rz1 hd1 cz ar dF fF hs3 hx1 ag1 e
  refine qK 7 [0] U (ae (v':=.bool true) U (cb cz) (qL 10 [0] U (az (dU pz ty52 gM.Docs.1 (nthZ ar) (au ar) U U U (fun _ _ _ e=>e) (fun q2 r2 A2 ok2=>qL 1 [] U (cL ty3 A2 U (qO 3 U (ac hs3 U (fun c2 hs4=>?_) (fun c2 hs5=>?_)))))))))
  ·exact sr (qO 3 U (nretP [I (i1:Int)] (ci hs4)))
  ·exact aG (qT 3 U (ae (v':=I (((i1+1):Nat):Int)) U (aL ob) (an (ag1 hs5))))
 ·rintro i1 hd1 eM hx e
  exact qK 7 [0] U (ae (v':=.bool false) U (cb eM) (qO 3 U (hx _ rd)))
theorem rf (h:HF) (dK:Int)  : Ret prog 126 [I dK] h (.bool (jx dK)):=by
 refine sT func126 U ntmps126 U fun X hM hX hF=>?_
 have hs0:jx dK=jx dK:=rfl
 refine qT 9 U (bz 3 [5,6,7,8] 5 8 (decide (dK < 32)) U (fun c1 hk1=>?_) (fun e=>?_))
 ·exact aj (qO 2 U (hk1 _ U))
 exact an (nretP [.bool (decide (0≤dK)&&decide (dK < 32))] (cs hs0))
theorem nd (h:HF) (dK:Int)  : Ret prog 127 [I dK] h (.bool (ib dK)):=by
 refine sT func127 U ntmps127 U fun X hM hX hF=>?_
 have hs0:ib dK=ib dK:=rfl
 refine qT 9 U (bz 3 [5,6,7,8] 5 8 (decide (dK < 1099511627776)) U (fun c1 hk1=>?_) (fun e=>?_))
 ·exact aj (qO 2 U (hk1 _ U))
 exact an (nretP [.bool (decide (0≤dK)&&decide (dK < 1099511627776))] (cs hs0))
theorem xI (h:HF) (dK:Int)  : Ret prog 180 [I dK] h (.bool (lJ dK)):=by
 refine sT func180 U ntmps180 U fun X hM hX hF=>?_
 have hs0:lJ dK=lJ dK:=rfl
 refine qT 9 U (bz 3 [5,6,7,8] 5 8 (decide (dK < 64)) U (fun c1 hk1=>?_) (fun e=>?_))
 ·exact aj (qO 2 U (hk1 _ U))
 exact an (nretP [.bool (decide (0≤dK)&&decide (dK < 64))] (cs hs0))
theorem yY (h:HF) (x:Appoint)  : Ret prog 112 [.agg (Appoint.cells x).toArray] h (.bool (gW x)):=by
 refine sT func112 U ntmps112 U fun X hM hX hF=>?_
 have hs0:gW x=gW x:=rfl
 refine sr (cy (fun b1=>qL 9 [0] U (cf 4 [6,7,8,9,10] 6 10 (decide (1048576 < x.No)) U (fun c1 hk1=>?_) (fun e=>?_))))
 ·exact qL 4 [0] U (hk1 _ U)
 refine aj (cf 5 [11,12,13,14,15,16] 11 16 (!(ib x.At)) U (fun c2 hk2=>?_) (fun e=>?_))
 ·exact qL 2 [0] U (ah GV (nd h x.At) U (qO 2 U (hk2 _ U)))
 refine aj (cf 5 [17,18,19,20,21,22] 17 22 (!(ib x.Known)) U (fun c3 hk3=>?_) (fun e=>?_))
 ·exact qL 2 [0] U (ah GV (nd h x.Known) U (qO 2 U (hk3 _ U)))
 refine aj (cf 5 [23,24,25,26,27,28] 23 28 (!(jx x.Office)) U (fun c4 hk4=>?_) (fun e=>?_))
 ·exact qL 2 [0] U (ah call126 (rf h x.Office) U (qO 2 U (hk4 _ U)))
 refine aj (cf 5 [29,30,31,32,33,34] 29 34 (!(lJ x.Person)) U (fun c5 hk5=>?_) (fun e=>?_))
 ·exact qL 2 [0] U (ah call180 (xI h x.Person) U (qO 2 U (hk5 _ U)))
 refine aN (ac hs0 U (fun c6 hs1=>?_) (fun c6 hs2=>?_))
 ·exact sr (an (nretP [.bool false] (cs hs1)))
 ·refine qK 7 [0] U (ac hs2 U (fun c7 hs4=>?_) (fun c7 hs5=>?_))
  ·exact qK 7 [0] U (nretP [.bool (x.Weight==0)] (cs hs4))
  ·refine qK 7 [0] U (bz 4 [43,44,45,46,47] 43 47 (decide (x.Weight≤64)) U (fun c8 hk6=>?_) (fun e=>?_))
   ·exact qL 4 [0] U (hk6 _ U)
   exact an (nretP [.bool (decide (1≤x.Weight)&&decide (x.Weight≤64))] (cs hs5))
theorem rT (h:HF) (l:List Appoint) (eE:Option Addr) (eD:Nat) (hl:SlC Appoint.rp h eE eD l):Ret prog 67 [.slice eE l.length eD] h (I (eH l)):=by
 refine sT func67 U ntmps67 U fun X hM hX hF=>?_
 have hs0:eH l=eH l:=rfl
 refine qK 11 [] U (ac hs0 U (fun c1 hs1=>?_) (fun c1 hs2=>?_))
 ·have c1p:=of_decide_eq_true c1
  exact sr (an (nretP [I 2] (ci hs1)))
 ·have c1p:=of_decide_eq_false c1
  refine qT 6 U ?_
  refine lp0 l (fun i=>[(0,.slice eE l.length eD),(3,I (i:Int))]) ([]) (fun s1 i=>(eH.L1 l (eH.K1)) s1 i) hl.1.1 hs2 ?_ ?_ ?_
  ·rintro i1 eR hs4 e
   exact sr (an (nretP [I 0] (ci hs4)))
  ·rintro i1 y1 rz1 hd1 cz ar dF fF hs6 hx1 ag1 e
   refine qK 6 [] U (ae (v':=.bool true) U (cb cz) (qO 6 U ?_))
   refine jM [(0,.slice eE l.length eD),(3,I (i1:Int)),(36,.bool ((!(gW y1))||(decide (0 < (i1:Int))&&decide (y1.No≤(nthI l ((i1:Int) - 1)).No))))] (fun e=>?_) (fun hk1=>?_)
   rotate_left
   ·refine eA ([]) mixed kr jn (fun cI _=>?_)
    refine qA [0,1] U (cC 2 (enc:=Appoint.cells) cI jn ei nG ty59 hl.1 (nthZ ar) (au ar) U U U U kr (fun q4 A4=>tf 3 U U (fun _ _ hj=>iQ ty59 (A4.mono hj.1) U U) (tn 4 U (eO call112 (yY h y1) U (⟨jn,qA [5,6] U ?_⟩)))))
    refine ct 19 U (fun c2=>?_) (fun c2=>?_)
    ·exact tk 7 U U (qR 8 16 U (aI kr (hk1 _ ⟨U,U,(cb (show true=((!(gW y1))||(decide (0 < (i1:Int))&&decide (y1.No≤(nthI l ((i1:Int) - 1)).No))) from by rw [c2] <;> rfl)),trivial⟩)))
    ·refine qR 7 3 U ?_
     refine ct 22 U (fun c3=>?_) (fun c3=>?_)
     ·have c3p:=of_decide_eq_true c3
      refine qA [10,11] U (tf 12 U U (fun _ _ _=>kS (v':=I ((i1:Int) - 1)) U (gz ob)) ?_)
      have ho2:0≤(((i1:Int) - 1):Int)∧(((i1:Int) - 1):Int) < ((l).length:Int):=ob
      exact cC 13 (enc:=Appoint.cells) cI jn ei nG ty59 hl.1 ho2 (bJ ho2) U U U U kr (fun q5 A5=>qB [14] U (tf 15 U U (fun _ _ hj=>eL ty3 (A5.mono hj.1) U) (qA [16,17] U (cC 18 (enc:=Appoint.cells) cI jn ei nG ty59 hl.1 (nthZ ar) (au ar) U U U U kr (fun q6 A6=>qB [19] U (tf 20 U U (fun _ _ hj=>eL ty3 (A6.mono hj.1) U) (qR 21 3 U (aI kr (hk1 _ ⟨U,U,(cb (show decide (y1.No≤(nthI l ((i1:Int) - 1)).No)=((!(gW y1))||(decide (0 < (i1:Int))&&decide (y1.No≤(nthI l ((i1:Int) - 1)).No))) from by rw [c2,c3] <;> rfl)),trivial⟩)))))))))
     ·have c3p:=of_decide_eq_false c3
      exact tk 10 U U (qR 11 13 U (aI kr (hk1 _ ⟨U,U,(cb (show false=((!(gW y1))||(decide (0 < (i1:Int))&&decide (y1.No≤(nthI l ((i1:Int) - 1)).No))) from by rw [c2,c3] <;> rfl)),trivial⟩)))
   refine ac hs6 U (fun c4 hs7=>?_) (fun c4 hs8=>?_)
   ·exact sr (an (nretP [I 150] (ci hs7)))
   ·exact aG (qT 3 U (ae (v':=I (((i1+1):Nat):Int)) U (aL ob) (an (ag1 hs8))))
  ·rintro i1 hd1 eM hx e
   exact qK 6 [] U (ae (v':=.bool false) U (cb eM) (qO 3 U (hx _ rd)))
theorem jP (h:HF) (dK:Int) (low:Int) (high:Int)  : Ret prog 181 [I dK,I low,I high] h (.bool (fU dK low high)):=by
 refine sT func181 U ntmps181 U fun X hM hX hF=>?_
 have hs0:fU dK low high=fU dK low high:=rfl
 refine qT 10 U (bz 4 [10,11,12,13,14] 10 14 (decide (dK≤high)) U (fun c1 hk1=>?_) (fun e=>?_))
 ·exact aj (qO 3 U (hk1 _ U))
 exact an (nretP [.bool (decide (low≤dK)&&decide (dK≤high))] (cs hs0))
theorem tK (h:HF) (dK:Int)  : Ret prog 182 [I dK] h (.bool (lm dK)):=by
 refine sT func182 U ntmps182 U fun X hM hX hF=>?_
 have hs0:lm dK=lm dK:=rfl
 exact sr (qO 5 U (ah CP (jP h dK 0 1099511627775) U (an (nretP [.bool (fU dK 0 1099511627775)] (cs hs0)))))
theorem re (h:HF) (dK:Int)  : Ret prog 183 [I dK] h (.bool (jX dK)):=by
 refine sT func183 U ntmps183 U fun X hM hX hF=>?_
 have hs0:jX dK=jX dK:=rfl
 exact sr (qO 5 U (ah CP (jP h dK 0 63) U (an (nretP [.bool (fU dK 0 63)] (cs hs0)))))
theorem yW (h:HF) (x:Deputy)  : Ret prog 113 [.agg (Deputy.cells x).toArray] h (.bool (io x)):=by
 refine sT func113 U ntmps113 U fun X hM hX hF=>?_
 have hs0:io x=io x:=rfl
 refine sr (cy (fun b1=>qL 7 [0] U (ah CP (jP h x.No 0 1048576) U (qO 2 U (cf 5 [7,8,9,10,11,12] 7 12 (!(lm x.At)) U (fun c1 hk1=>?_) (fun e=>?_))))))
 ·exact qL 2 [0] U (ah call182 (tK h x.At) U (qO 2 U (hk1 _ U)))
 refine aj (cf 5 [13,14,15,16,17,18] 13 18 (!(lm x.Known)) U (fun c2 hk2=>?_) (fun e=>?_))
 ·exact qL 2 [0] U (ah call182 (tK h x.Known) U (qO 2 U (hk2 _ U)))
 refine aj (cf 5 [19,20,21,22,23,24] 19 24 (!(jX x.From)) U (fun c3 hk3=>?_) (fun e=>?_))
 ·exact qL 2 [0] U (ah call183 (re h x.From) U (qO 2 U (hk3 _ U)))
 refine aj (cf 5 [25,26,27,28,29,30] 25 30 (!(jX x.To)) U (fun c4 hk4=>?_) (fun e=>?_))
 ·exact qL 2 [0] U (ah call183 (re h x.To) U (qO 2 U (hk4 _ U)))
 refine aj (cf 6 [31,32,33,34,35,36,37] 31 37 (x.From==x.To) U (fun c5 hk5=>?_) (fun e=>?_))
 ·exact qL 6 [0,0] U (hk5 _ U)
 refine aN (ac hs0 U (fun c6 hs1=>?_) (fun c6 hs2=>?_))
 ·exact sr (an (nretP [.bool false] (cs hs1)))
 ·refine qK 6 [0] U (ah CP (jP h x.Office 0 31) U (qO 2 U (cf 5 [42,43,44,45,46,47] 42 47 (!(fU x.Kind (-1) 15)) U (fun c7 hk6=>?_) (fun e=>?_))))
  ·exact qL 2 [0] U (ah CP (jP h x.Kind (-1) 15) U (qO 2 U (hk6 _ U)))
  refine aN (ac hs2 U (fun c8 hs4=>?_) (fun c8 hs5=>?_))
  ·exact sr (an (nretP [.bool false] (cs hs4)))
  ·refine qK 7 [0] U (ac hs5 U (fun c9 hs7=>?_) (fun c9 hs8=>?_))
   ·refine qK 6 [0] U (bz 4 [53,54,55,56,57] 53 57 (x.Most==0) U (fun c10 hk7=>?_) (fun e=>?_))
    ·exact qL 4 [0] U (hk7 _ U)
    exact an (nretP [.bool ((x.Until==0)&&(x.Most==0))] (cs hs7))
   ·refine qK 9 [0,0] U (bz 4 [63,64,65,66,67] 63 67 (decide (x.Until≤1099511627776)) U (fun c11 hk8=>?_) (fun e=>?_))
    ·exact qL 4 [0] U (hk8 _ U)
    refine aj (bz 4 [68,69,70,71,72] 68 72 (fU x.Most 0 1099511627776) U (fun c12 hk9=>?_) (fun e=>?_))
    ·exact qL 2 [0] U (ah CP (jP h x.Most 0 1099511627776) U (ew U (hk9 _ U)))
    exact an (nretP [.bool ((decide (x.At < x.Until)&&decide (x.Until≤1099511627776))&&(fU x.Most 0 1099511627776))] (cs hs8))
theorem yX (h:HF) (l:List Deputy) (eE:Option Addr) (eD:Nat) (hl:SlC Deputy.rp h eE eD l):Ret prog 68 [.slice eE l.length eD] h (I (fR l)):=by
 refine sT func68 U ntmps68 U fun X hM hX hF=>?_
 have hs0:fR l=fR l:=rfl
 refine qK 11 [] U (ac hs0 U (fun c1 hs1=>?_) (fun c1 hs2=>?_))
 ·have c1p:=of_decide_eq_true c1
  exact sr (an (nretP [I 2] (ci hs1)))
 ·have c1p:=of_decide_eq_false c1
  refine qT 6 U ?_
  refine lp0 l (fun i=>[(0,.slice eE l.length eD),(3,I (i:Int))]) ([]) (fun s1 i=>(fR.L1 l (fR.K1)) s1 i) hl.1.1 hs2 ?_ ?_ ?_
  ·rintro i1 eR hs4 e
   exact sr (an (nretP [I 0] (ci hs4)))
  ·rintro i1 y1 rz1 hd1 cz ar dF fF hs6 hx1 ag1 e
   refine qK 6 [] U (ae (v':=.bool true) U (cb cz) (qO 6 U ?_))
   refine jM [(0,.slice eE l.length eD),(3,I (i1:Int)),(36,.bool ((!(io y1))||(decide (0 < (i1:Int))&&decide (y1.No≤(nthI l ((i1:Int) - 1)).No))))] (fun e=>?_) (fun hk1=>?_)
   rotate_left
   ·refine eA ([]) mixed kr jn (fun cI _=>?_)
    refine qA [0,1] U (cC 2 (enc:=Deputy.cells) cI jn ei Fv ty169 hl.1 (nthZ ar) (au ar) U U U U kr (fun q4 A4=>tf 3 U U (fun _ _ hj=>iQ ty169 (A4.mono hj.1) U U) (tn 4 U (eO call113 (yW h y1) U (⟨jn,qA [5,6] U ?_⟩)))))
    refine ct 19 U (fun c2=>?_) (fun c2=>?_)
    ·exact tk 7 U U (qR 8 16 U (aI kr (hk1 _ ⟨U,U,(cb (show true=((!(io y1))||(decide (0 < (i1:Int))&&decide (y1.No≤(nthI l ((i1:Int) - 1)).No))) from by rw [c2] <;> rfl)),trivial⟩)))
    ·refine qR 7 3 U ?_
     refine ct 22 U (fun c3=>?_) (fun c3=>?_)
     ·have c3p:=of_decide_eq_true c3
      refine qA [10,11] U (tf 12 U U (fun _ _ _=>kS (v':=I ((i1:Int) - 1)) U (gz ob)) ?_)
      have ho2:0≤(((i1:Int) - 1):Int)∧(((i1:Int) - 1):Int) < ((l).length:Int):=ob
      exact cC 13 (enc:=Deputy.cells) cI jn ei Fv ty169 hl.1 ho2 (bJ ho2) U U U U kr (fun q5 A5=>qB [14] U (tf 15 U U (fun _ _ hj=>eL ty3 (A5.mono hj.1) U) (qA [16,17] U (cC 18 (enc:=Deputy.cells) cI jn ei Fv ty169 hl.1 (nthZ ar) (au ar) U U U U kr (fun q6 A6=>qB [19] U (tf 20 U U (fun _ _ hj=>eL ty3 (A6.mono hj.1) U) (qR 21 3 U (aI kr (hk1 _ ⟨U,U,(cb (show decide (y1.No≤(nthI l ((i1:Int) - 1)).No)=((!(io y1))||(decide (0 < (i1:Int))&&decide (y1.No≤(nthI l ((i1:Int) - 1)).No))) from by rw [c2,c3] <;> rfl)),trivial⟩)))))))))
     ·have c3p:=of_decide_eq_false c3
      exact tk 10 U U (qR 11 13 U (aI kr (hk1 _ ⟨U,U,(cb (show false=((!(io y1))||(decide (0 < (i1:Int))&&decide (y1.No≤(nthI l ((i1:Int) - 1)).No))) from by rw [c2,c3] <;> rfl)),trivial⟩)))
   refine ac hs6 U (fun c4 hs7=>?_) (fun c4 hs8=>?_)
   ·exact sr (an (nretP [I 160] (ci hs7)))
   ·exact aG (qT 3 U (ae (v':=I (((i1+1):Nat):Int)) U (aL ob) (an (ag1 hs8))))
  ·rintro i1 hd1 eM hx e
   exact qK 6 [] U (ae (v':=.bool false) U (cb eM) (qO 3 U (hx _ rd)))
theorem na (h:HF) (t:Int)  : Ret prog 184 [I t] h (.bool (ia t)):=by
 refine sT func184 U ntmps184 U fun X hM hX hF=>?_
 have hs0:ia t=ia t:=rfl
 refine qT 9 U (bz 3 [5,6,7,8] 5 8 (decide (t < 1099511627776)) U (fun c1 hk1=>?_) (fun e=>?_))
 ·exact aj (qO 2 U (hk1 _ U))
 exact an (nretP [.bool (decide (0≤t)&&decide (t < 1099511627776))] (cs hs0))
theorem ol (h:HF) (dK:Int)  : Ret prog 185 [I dK] h (.bool (gD dK)):=by
 refine sT func185 U ntmps185 U fun X hM hX hF=>?_
 have hs0:gD dK=gD dK:=rfl
 refine qT 9 U (bz 3 [5,6,7,8] 5 8 (decide (dK≤1048576)) U (fun c1 hk1=>?_) (fun e=>?_))
 ·exact aj (qO 2 U (hk1 _ U))
 exact an (nretP [.bool (decide (0≤dK)&&decide (dK≤1048576))] (cs hs0))
theorem qX (h:HF) (dK:Int)  : Ret prog 186 [I dK] h (.bool (jU dK)):=by
 refine sT func186 U ntmps186 U fun X hM hX hF=>?_
 have hs0:jU dK=jU dK:=rfl
 refine qT 9 U (bz 3 [5,6,7,8] 5 8 (decide (dK < 64)) U (fun c1 hk1=>?_) (fun e=>?_))
 ·exact aj (qO 2 U (hk1 _ U))
 exact an (nretP [.bool (decide (0≤dK)&&decide (dK < 64))] (cs hs0))
theorem yJ (h:HF) (x:Interest)  : Ret prog 114 [.agg (Interest.cells x).toArray] h (.bool (gV x)):=by
 refine sT func114 U ntmps114 U fun X hM hX hF=>?_
 have hs0:gV x=gV x:=rfl
 refine sr (cy (fun b1=>qL 9 [0] U (cf 4 [6,7,8,9,10] 6 10 (decide (1048576 < x.No)) U (fun c1 hk1=>?_) (fun e=>?_))))
 ·exact qL 4 [0] U (hk1 _ U)
 refine aj (cf 5 [11,12,13,14,15,16] 11 16 (!(ia x.At)) U (fun c2 hk2=>?_) (fun e=>?_))
 ·exact qL 2 [0] U (ah GU (na h x.At) U (qO 2 U (hk2 _ U)))
 refine aj (cf 5 [17,18,19,20,21,22] 17 22 (!(ia x.Known)) U (fun c3 hk3=>?_) (fun e=>?_))
 ·exact qL 2 [0] U (ah GU (na h x.Known) U (qO 2 U (hk3 _ U)))
 refine aj (cf 5 [23,24,25,26,27,28] 23 28 (!(gD x.Party)) U (fun c4 hk4=>?_) (fun e=>?_))
 ·exact qL 2 [0] U (ah call185 (ol h x.Party) U (qO 2 U (hk4 _ U)))
 refine aN (ac hs0 U (fun c5 hs1=>?_) (fun c5 hs2=>?_))
 ·exact sr (an (nretP [.bool false] (cs hs1)))
 ·refine qK 7 [0] U (ac hs2 U (fun c6 hs4=>?_) (fun c6 hs5=>?_))
  ·refine qK 4 [0] U (ah call185 (ol h x.Person) U (aj (bz 6 [34,35,36,37,38,39,40] 34 40 (x.Person != x.Party) U (fun c7 hk5=>?_) (fun e=>?_))))
   ·exact qL 6 [0,0] U (hk5 _ U)
   exact an (nretP [.bool ((gD x.Person)&&(x.Person != x.Party))] (cs hs4))
  ·exact qK 5 [0] U (ah call186 (qX h x.Person) U (an (nretP [.bool (jU x.Person)] (cs hs5))))
theorem rO (h:HF) (l:List Interest) (eE:Option Addr) (eD:Nat) (hl:SlC Interest.rp h eE eD l):Ret prog 69 [.slice eE l.length eD] h (I (et l)):=by
 refine sT func69 U ntmps69 U fun X hM hX hF=>?_
 have hs0:et l=et l:=rfl
 refine qK 11 [] U (ac hs0 U (fun c1 hs1=>?_) (fun c1 hs2=>?_))
 ·have c1p:=of_decide_eq_true c1
  exact sr (an (nretP [I 2] (ci hs1)))
 ·have c1p:=of_decide_eq_false c1
  refine qT 6 U ?_
  refine lp0 l (fun i=>[(0,.slice eE l.length eD),(3,I (i:Int))]) ([]) (fun s1 i=>(et.L1 l (et.K1)) s1 i) hl.1.1 hs2 ?_ ?_ ?_
  ·rintro i1 eR hs4 e
   exact sr (an (nretP [I 0] (ci hs4)))
  ·rintro i1 y1 rz1 hd1 cz ar dF fF hs6 hx1 ag1 e
   refine qK 6 [] U (ae (v':=.bool true) U (cb cz) (qO 6 U ?_))
   refine jM [(0,.slice eE l.length eD),(3,I (i1:Int)),(36,.bool ((!(gV y1))||(decide (0 < (i1:Int))&&decide (y1.No≤(nthI l ((i1:Int) - 1)).No))))] (fun e=>?_) (fun hk1=>?_)
   rotate_left
   ·refine eA ([]) mixed kr jn (fun cI _=>?_)
    refine qA [0,1] U (cC 2 (enc:=Interest.cells) cI jn ei lT ty61 hl.1 (nthZ ar) (au ar) U U U U kr (fun q4 A4=>tf 3 U U (fun _ _ hj=>iQ ty61 (A4.mono hj.1) U U) (tn 4 U (eO call114 (yJ h y1) U (⟨jn,qA [5,6] U ?_⟩)))))
    refine ct 19 U (fun c2=>?_) (fun c2=>?_)
    ·exact tk 7 U U (qR 8 16 U (aI kr (hk1 _ ⟨U,U,(cb (show true=((!(gV y1))||(decide (0 < (i1:Int))&&decide (y1.No≤(nthI l ((i1:Int) - 1)).No))) from by rw [c2] <;> rfl)),trivial⟩)))
    ·refine qR 7 3 U ?_
     refine ct 22 U (fun c3=>?_) (fun c3=>?_)
     ·have c3p:=of_decide_eq_true c3
      refine qA [10,11] U (cC 12 (enc:=Interest.cells) cI jn ei lT ty61 hl.1 (nthZ ar) (au ar) U U U U kr (fun q5 A5=>qB [13] U (tf 14 U U (fun _ _ hj=>eL ty3 (A5.mono hj.1) U) (qA [15,16] U (tf 17 U U (fun _ _ _=>kS (v':=I ((i1:Int) - 1)) U (gz ob)) ?_)))))
      have ho2:0≤(((i1:Int) - 1):Int)∧(((i1:Int) - 1):Int) < ((l).length:Int):=ob
      exact cC 18 (enc:=Interest.cells) cI jn ei lT ty61 hl.1 ho2 (bJ ho2) U U U U kr (fun q6 A6=>qB [19] U (tf 20 U U (fun _ _ hj=>eL ty3 (A6.mono hj.1) U) (qR 21 3 U (aI kr (hk1 _ ⟨U,U,(cb (show decide (y1.No≤(nthI l ((i1:Int) - 1)).No)=((!(gV y1))||(decide (0 < (i1:Int))&&decide (y1.No≤(nthI l ((i1:Int) - 1)).No))) from by rw [c2,c3] <;> rfl)),trivial⟩)))))
     ·have c3p:=of_decide_eq_false c3
      exact tk 10 U U (qR 11 13 U (aI kr (hk1 _ ⟨U,U,(cb (show false=((!(gV y1))||(decide (0 < (i1:Int))&&decide (y1.No≤(nthI l ((i1:Int) - 1)).No))) from by rw [c2,c3] <;> rfl)),trivial⟩)))
   refine ac hs6 U (fun c4 hs7=>?_) (fun c4 hs8=>?_)
   ·exact sr (an (nretP [I 290] (ci hs7)))
   ·exact aG (qT 3 U (ae (v':=I (((i1+1):Nat):Int)) U (aL ob) (an (ag1 hs8))))
  ·rintro i1 hd1 eM hx e
   exact qK 6 [] U (ae (v':=.bool false) U (cb eM) (qO 3 U (hx _ rd)))
theorem kN (h:HF) (dK:Int) (least:Int) (most:Int)  : Ret prog 187 [I dK,I least,I most] h (.bool (gu dK least most)):=by
 refine sT func187 U ntmps187 U fun X hM hX hF=>?_
 have hs0:gu dK least most=gu dK least most:=rfl
 refine qT 10 U (bz 4 [10,11,12,13,14] 10 14 (decide (dK≤most)) U (fun c1 hk1=>?_) (fun e=>?_))
 ·exact aj (qO 3 U (hk1 _ U))
 exact an (nretP [.bool (decide (least≤dK)&&decide (dK≤most))] (cs hs0))
theorem ra (h:HF) (dK:Int)  : Ret prog 188 [I dK] h (.bool (jW dK)):=by
 refine sT func188 U ntmps188 U fun X hM hX hF=>?_
 have hs0:jW dK=jW dK:=rfl
 refine qT 9 U (bz 3 [5,6,7,8] 5 8 (decide (dK < 1099511627776)) U (fun c1 hk1=>?_) (fun e=>?_))
 ·exact aj (qO 2 U (hk1 _ U))
 exact an (nretP [.bool (decide (0≤dK)&&decide (dK < 1099511627776))] (cs hs0))
theorem yS (h:HF) (x:Budget)  : Ret prog 115 [.agg (Budget.cells x).toArray] h (.bool (im x)):=by
 refine sT func115 U ntmps115 U fun X hM hX hF=>?_
 have hs0:im x=im x:=rfl
 refine sr (cy (fun b1=>qL 7 [0] U (ah Fd (kN h x.No 0 1048576) U (qO 2 U (cf 5 [7,8,9,10,11,12] 7 12 (!(jW x.At)) U (fun c1 hk1=>?_) (fun e=>?_))))))
 ·exact qL 2 [0] U (ah call188 (ra h x.At) U (qO 2 U (hk1 _ U)))
 refine aj (cf 5 [13,14,15,16,17,18] 13 18 (!(jW x.Known)) U (fun c2 hk2=>?_) (fun e=>?_))
 ·exact qL 2 [0] U (ah call188 (ra h x.Known) U (qO 2 U (hk2 _ U)))
 refine aj (cf 5 [19,20,21,22,23,24] 19 24 (!(gu x.Kind (-1) 15)) U (fun c3 hk3=>?_) (fun e=>?_))
 ·exact qL 2 [0] U (ah Fd (kN h x.Kind (-1) 15) U (qO 2 U (hk3 _ U)))
 refine aj (cf 5 [25,26,27,28,29,30] 25 30 (!(gu x.Period 1 1099511627776)) U (fun c4 hk4=>?_) (fun e=>?_))
 ·exact qL 2 [0] U (ah Fd (kN h x.Period 1 1099511627776) U (qO 2 U (hk4 _ U)))
 refine aN (ac hs0 U (fun c5 hs1=>?_) (fun c5 hs2=>?_))
 ·exact sr (an (nretP [.bool false] (cs hs1)))
 ·refine qK 7 [0] U (ac hs2 U (fun c6 hs4=>?_) (fun c6 hs5=>?_))
  ·refine qK 6 [0] U (bz 4 [36,37,38,39,40] 36 40 (x.Value==0) U (fun c7 hk5=>?_) (fun e=>?_))
   ·exact qL 4 [0] U (hk5 _ U)
   exact an (nretP [.bool ((x.Count==0)&&(x.Value==0))] (cs hs4))
  ·refine qK 5 [0] U (ah Fd (kN h x.Count 0 1048576) U (aj (bz 4 [44,45,46,47,48] 44 48 (gu x.Value 0 1099511627776) U (fun c8 hk6=>?_) (fun e=>?_))))
   ·exact qL 2 [0] U (ah Fd (kN h x.Value 0 1099511627776) U (ew U (hk6 _ U)))
   exact an (nretP [.bool ((gu x.Count 0 1048576)&&(gu x.Value 0 1099511627776))] (cs hs5))
theorem yT (h:HF) (l:List Budget) (eE:Option Addr) (eD:Nat) (hl:SlC Budget.rp h eE eD l):Ret prog 70 [.slice eE l.length eD] h (I (fQ l)):=by
 refine sT func70 U ntmps70 U fun X hM hX hF=>?_
 have hs0:fQ l=fQ l:=rfl
 refine qK 11 [] U (ac hs0 U (fun c1 hs1=>?_) (fun c1 hs2=>?_))
 ·have c1p:=of_decide_eq_true c1
  exact sr (an (nretP [I 2] (ci hs1)))
 ·have c1p:=of_decide_eq_false c1
  refine qT 6 U ?_
  refine lp0 l (fun i=>[(0,.slice eE l.length eD),(3,I (i:Int))]) ([]) (fun s1 i=>(fQ.L1 l (fQ.K1)) s1 i) hl.1.1 hs2 ?_ ?_ ?_
  ·rintro i1 eR hs4 e
   exact sr (an (nretP [I 0] (ci hs4)))
  ·rintro i1 y1 rz1 hd1 cz ar dF fF hs6 hx1 ag1 e
   refine qK 6 [] U (ae (v':=.bool true) U (cb cz) (qO 6 U ?_))
   refine jM [(0,.slice eE l.length eD),(3,I (i1:Int)),(36,.bool ((!(im y1))||(decide (0 < (i1:Int))&&decide (y1.No≤(nthI l ((i1:Int) - 1)).No))))] (fun e=>?_) (fun hk1=>?_)
   rotate_left
   ·refine eA ([]) mixed kr jn (fun cI _=>?_)
    refine qA [0,1] U (cC 2 (enc:=Budget.cells) cI jn ei Fu ty173 hl.1 (nthZ ar) (au ar) U U U U kr (fun q4 A4=>tf 3 U U (fun _ _ hj=>iQ ty173 (A4.mono hj.1) U U) (tn 4 U (eO call115 (yS h y1) U (⟨jn,qA [5,6] U ?_⟩)))))
    refine ct 19 U (fun c2=>?_) (fun c2=>?_)
    ·exact tk 7 U U (qR 8 16 U (aI kr (hk1 _ ⟨U,U,(cb (show true=((!(im y1))||(decide (0 < (i1:Int))&&decide (y1.No≤(nthI l ((i1:Int) - 1)).No))) from by rw [c2] <;> rfl)),trivial⟩)))
    ·refine qR 7 3 U ?_
     refine ct 22 U (fun c3=>?_) (fun c3=>?_)
     ·have c3p:=of_decide_eq_true c3
      refine qA [10,11] U (tf 12 U U (fun _ _ _=>kS (v':=I ((i1:Int) - 1)) U (gz ob)) ?_)
      have ho2:0≤(((i1:Int) - 1):Int)∧(((i1:Int) - 1):Int) < ((l).length:Int):=ob
      exact cC 13 (enc:=Budget.cells) cI jn ei Fu ty173 hl.1 ho2 (bJ ho2) U U U U kr (fun q5 A5=>qB [14] U (tf 15 U U (fun _ _ hj=>eL ty3 (A5.mono hj.1) U) (qA [16,17] U (cC 18 (enc:=Budget.cells) cI jn ei Fu ty173 hl.1 (nthZ ar) (au ar) U U U U kr (fun q6 A6=>qB [19] U (tf 20 U U (fun _ _ hj=>eL ty3 (A6.mono hj.1) U) (qR 21 3 U (aI kr (hk1 _ ⟨U,U,(cb (show decide (y1.No≤(nthI l ((i1:Int) - 1)).No)=((!(im y1))||(decide (0 < (i1:Int))&&decide (y1.No≤(nthI l ((i1:Int) - 1)).No))) from by rw [c2,c3] <;> rfl)),trivial⟩)))))))))
     ·have c3p:=of_decide_eq_false c3
      exact tk 10 U U (qR 11 13 U (aI kr (hk1 _ ⟨U,U,(cb (show false=((!(im y1))||(decide (0 < (i1:Int))&&decide (y1.No≤(nthI l ((i1:Int) - 1)).No))) from by rw [c2,c3] <;> rfl)),trivial⟩)))
   refine ac hs6 U (fun c4 hs7=>?_) (fun c4 hs8=>?_)
   ·exact sr (an (nretP [I 180] (ci hs7)))
   ·exact aG (qT 3 U (ae (v':=I (((i1+1):Nat):Int)) U (aL ob) (an (ag1 hs8))))
  ·rintro i1 hd1 eM hx e
   exact qK 6 [] U (ae (v':=.bool false) U (cb eM) (qO 3 U (hx _ rd)))
theorem i6 (h:HF) (dK:Int)  : Ret prog 33 [I dK] h (.bool (cn dK)):=by
 refine sT func33 U ntmps33 U fun X hM hX hF=>?_
 have hs0:cn dK=cn dK:=rfl
 refine qT 9 U (bz 3 [5,6,7,8] 5 8 (decide (dK < 1099511627776)) U (fun c1 hk1=>?_) (fun e=>?_))
 ·exact aj (qO 2 U (hk1 _ U))
 exact an (nretP [.bool (decide (0≤dK)&&decide (dK < 1099511627776))] (cs hs0))
theorem xG (rec:Expr→Int→Int) (h:HF) (x:Expr) (eQ:ce) (limit:Int) (hrec:∀ (h:HF) (qx:Expr) (iT:ce) (qlimit:Int) (hqx:Expr.ok h qx iT) (_:qx.dep < x.dep),Ret prog 266 [.agg (Expr.cells qx iT).toArray,I qlimit] h (I (rec qx qlimit))) (hx:Expr.ok h x eQ):Ret prog 266 [.agg (Expr.cells x eQ).toArray,I limit] h (I (cH.F rec x limit)):=by
 refine sT func266 U ntmps266 U fun X hM hX hF=>?_
 have hs0:cH.F rec x limit=cH.F rec x limit:=rfl
 refine sr (cy (fun b1=>qO 11 U ?_))
 refine lp1 x.L (fun i w=>[(1,I limit),(2,Q b1),(5,I w),(6,I (i:Int))]) ([(b1,O (Expr.cells x eQ) 66)]) (fun s1 i w=>(cH.L1 rec limit (cH.K1)) s1 w) 1 hx.list.1.1 hs0 ?_ ?_ ?_
 ·rintro i1 gY eR hs1 e
  exact sr (qO 3 U (nretP [I gY] (ci hs1)))
 ·rintro i1 gY y1 rz1 hd1 cz ar dF fF hs3 hx1 ag1 e
  refine qK 7 [0] U (ae (v':=.bool true) U (cb cz) (qO 6 U (ac hs3 U (fun c2 hs4=>?_) (fun c2 hs5=>?_))))
  ·have c2p:=of_decide_eq_true c2
   exact qK 8 [0] U (az (dU jh ty66 hx.list.1 (nthZ ar) (au ar) U U U (fun _ _ _ e=>e) (fun q2 r2 A2 ok2=>dg ty66 A2 U U (qO 3 U (ah call266 (hrec _ _ _ (IntKind.wrap .i64 (limit - gY)) ok2 (Expr.gk (fA hd1))) U (qO 6 U (ae (v':=I (((i1+1):Nat):Int)) U (aL ob) (qO 2 U (ag1 (IntKind.wrap .i64 (gY+(rec y1 (IntKind.wrap .i64 (limit - gY))))) hs4)))))))))
  ·have c2p:=of_decide_eq_false c2
   exact jJ U (hx1 i1 gY hs5)
 ·rintro i1 gY hd1 eM hx e
  exact qK 7 [0] U (ae (v':=.bool false) U (cb eM) (qO 8 U (hx _ rd)))
theorem pg:∀ (m:Nat) (h:HF) (x:Expr) (eQ:ce) (limit:Int) (_:x.dep≤m) (hx:Expr.ok h x eQ),Ret prog 266 [.agg (Expr.cells x eQ).toArray,I limit] h (I (cH.go m x limit))
 | 0,h,x,eQ,limit,hd,hx=>absurd hd (Nat.not_le.2 (Expr.jK _))
 | m+1,h,x,eQ,limit,hd,hx=>xG (cH.go m) h x eQ limit (fun qh_ qx iT qlimit qhx qd=>pg m qh_ qx iT qlimit ob qhx) hx
theorem yQ (h:HF) (x:Expr) (eQ:ce) (limit:Int) (hx:Expr.ok h x eQ):Ret prog 266 [.agg (Expr.cells x eQ).toArray,I limit] h (I (cH x limit)):=pg _ h x eQ limit (Nat.le_refl _) hx
theorem xH (rec:Expr→Int) (h:HF) (x:Expr) (eQ:ce) (hrec:∀ (h:HF) (qx:Expr) (iT:ce) (hqx:Expr.ok h qx iT) (_:qx.dep < x.dep),Ret prog 267 [.agg (Expr.cells qx iT).toArray] h (I (rec qx))) (hx:Expr.ok h x eQ):Ret prog 267 [.agg (Expr.cells x eQ).toArray] h (I (aV.F rec x)):=by
 refine sT func267 U ntmps267 U fun X hM hX hF=>?_
 have hs0:aV.F rec x=aV.F rec x:=rfl
 refine sr (cy (fun b1=>qO 11 U ?_))
 refine lp1 x.L (fun i w=>[(1,Q b1),(3,I w),(4,I (i:Int))]) ([(b1,O (Expr.cells x eQ) 66)]) (fun s1 i w=>(aV.L1 rec (aV.K1)) s1 w) 0 hx.list.1.1 hs0 ?_ ?_ ?_
 ·rintro i1 gH eR hs1 e
  exact sr (qO 4 U (nretP [I (IntKind.wrap .i64 (gH+1))] (ci hs1)))
 ·rintro i1 gH y1 rz1 hd1 cz ar dF fF hs3 hx1 ag1 e
  exact qK 7 [0] U (ae (v':=.bool true) U (cb cz) (qL 10 [0] U (az (dU jh ty66 hx.list.1 (nthZ ar) (au ar) U U U (fun _ _ _ e=>e) (fun q2 r2 A2 ok2=>dg ty66 A2 U U (ah call267 (hrec _ _ _ ok2 (Expr.gk (fA hd1))) U (az (fy (KC U U) (qO 5 U (ae (v':=I (((i1+1):Nat):Int)) U (aL ob) (an (ag1 (max gH (rec y1)) hs3))))))))))))
 ·rintro i1 gH hd1 eM hx e
  exact qK 7 [0] U (ae (v':=.bool false) U (cb eM) (qO 3 U (hx _ rd)))
theorem ph:∀ (m:Nat) (h:HF) (x:Expr) (eQ:ce) (_:x.dep≤m) (hx:Expr.ok h x eQ),Ret prog 267 [.agg (Expr.cells x eQ).toArray] h (I (aV.go m x))
 | 0,h,x,eQ,hd,hx=>absurd hd (Nat.not_le.2 (Expr.jK _))
 | m+1,h,x,eQ,hd,hx=>xH (aV.go m) h x eQ (fun qh_ qx iT qhx qd=>ph m qh_ qx iT ob qhx) hx
theorem yR (h:HF) (x:Expr) (eQ:ce) (hx:Expr.ok h x eQ):Ret prog 267 [.agg (Expr.cells x eQ).toArray] h (I (aV x)):=ph _ h x eQ (Nat.le_refl _) hx
theorem rR (h:HF) (x:Expr) (eQ:ce) (hx:Expr.ok h x eQ):Ret prog 249 [.agg (Expr.cells x eQ).toArray] h (.bool (il x)):=by
 refine sT func249 U ntmps249 U fun X hM hX hF=>?_
 have hs0:il x=il x:=rfl
 refine sr (cy (fun b1=>qO 4 U (cM 0 ty66 U U U (ah call266 (yQ _ _ _ 256 hx) U (qO 2 U (cf 4 [6,7,8,9,10] 6 10 (decide (16 < (aV x))) U (fun c1 hk1=>?_) (fun e=>?_)))))))
 ·exact cM 0 ty66 U U U (ah call267 (yR _ _ _ hx) U (qO 2 U (hk1 _ U)))
 exact an (nretP [.bool (decide (256 < (cH x 256))||decide (16 < (aV x)))] (cs hs0))
theorem vg (h:HF) (p:Policy) (gq:dY) (hp:Policy.ok h p gq):Ret prog 227 [.agg (Policy.cells p gq).toArray] h (.bool (eu p)):=by
 refine sT func227 U ntmps227 U fun X hM hX hF=>?_
 have hs0:eu p=eu p:=rfl
 refine sr (cy (fun b1=>qL 10 [0] U (cf 5 [8,9,10,11,12,13] 8 13 (decide (16 < (p.Kinds.length:Int))) U (fun c1 hk1=>?_) (fun e=>?_))))
 ·exact qL 5 [0] U (hk1 _ U)
 refine aj (cf 5 [14,15,16,17,18,19] 14 19 (decide (16 < (p.Rules.length:Int))) U (fun c2 hk2=>?_) (fun e=>?_))
 ·exact qL 5 [0] U (hk2 _ U)
 refine aj (cf 4 [20,21,22,23,24] 20 24 (il p.Change) U (fun c3 hk3=>?_) (fun e=>?_))
 ·exact qL 1 [] U (cM 0 ty66 U U U (ah call249 (rR _ _ _ hp.Change) U (ew U (hk3 _ U))))
 refine aN (ac hs0 U (fun c4 hs1=>?_) (fun c4 hs2=>?_))
 ·exact sr (an (nretP [.bool true] (cs hs1)))
 ·refine qT 6 U ?_
  refine lp0 p.Rules (fun i=>[(1,Q b1),(3,I (i:Int))]) ([(b1,O (Policy.cells p gq) 68)]) (fun s1 i=>(eu.L1 (eu.K1)) s1) hp.Rules.1.1 hs2 ?_ ?_ ?_
  ·rintro i1 eR hs4 e
   exact sr (an (nretP [.bool false] (cs hs4)))
  ·rintro i1 y1 rz1 hd1 cz ar dF fF hs6 hx1 ag1 e
   refine qK 7 [0] U (ae (v':=.bool true) U (cb cz) (qL 10 [0] U (az (dU nO ty107 hp.Rules.1 (nthZ ar) (au ar) U U U (fun _ _ _ e=>e) (fun q2 r2 A2 ok2=>qL 1 [] U (uq (j:=3) ty66 A2 U U (ah call249 (rR _ _ _ ok2.Expr) U (aN (ac hs6 U (fun c6 hs7=>?_) (fun c6 hs8=>?_))))))))))
   ·exact sr (an (nretP [.bool true] (cs hs7)))
   ·exact aG (qT 3 U (ae (v':=I (((i1+1):Nat):Int)) U (aL ob) (an (ag1 hs8))))
  ·rintro i1 hd1 eM hx e
   exact qK 7 [0] U (ae (v':=.bool false) U (cb eM) (qO 3 U (hx _ rd)))
theorem rg (h:HF) (c:Int)  : Ret prog 276 [Y c] h (.bool (i8 c)):=by
 refine sT func276 U ntmps276 U fun X hM hX hF=>?_
 have hs0:i8 c=i8 c:=rfl
 refine qT 9 U (bz 3 [5,6,7,8] 5 8 (decide (c≤122)) U (fun c1 hk1=>?_) (fun e=>?_))
 ·exact aj (qO 2 U (hk1 _ U))
 refine aj (cf 7 [9,10,11,12,13,14,15,16] 9 16 (decide (65≤c)&&decide (c≤90)) U (fun c2 hk2=>?_) (fun e=>?_))
 ·refine qO 3 U (bz 3 [12,13,14,15] 12 15 (decide (c≤90)) U (fun c3 hk3=>?_) (fun e=>?_))
  ·exact aj (qO 2 U (hk3 _ U))
  exact ew U (hk2 _ U)
 exact an (nretP [.bool ((decide (97≤c)&&decide (c≤122))||(decide (65≤c)&&decide (c≤90)))] (cs hs0))
theorem xK (h:HF) (c:Int)  : Ret prog 280 [Y c] h (.bool (kD c)):=by
 refine sT func280 U ntmps280 U fun X hM hX hF=>?_
 have hs0:kD c=kD c:=rfl
 refine qT 9 U (bz 3 [5,6,7,8] 5 8 (decide (c≤57)) U (fun c1 hk1=>?_) (fun e=>?_))
 ·exact aj (qO 2 U (hk1 _ U))
 exact an (nretP [.bool (decide (48≤c)&&decide (c≤57))] (cs hs0))
theorem Aw (h:HF) (c:Int)  : Ret prog 277 [Y c] h (.bool (m5 c)):=by
 refine sT func277 U ntmps277 U fun X hM hX hF=>?_
 have hs0:m5 c=m5 c:=rfl
 refine qT 7 U (ah call276 (rg h c) U (aj (cf 3 [5,6,7,8] 5 8 (kD c) U (fun c1 hk1=>?_) (fun e=>?_))))
 ·exact aj (ah call280 (xK h c) U (ew U (hk1 _ U)))
 refine aj (cf 3 [9,10,11,12] 9 12 (c==95) U (fun c2 hk2=>?_) (fun e=>?_))
 ·exact aj (qO 2 U (hk2 _ U))
 exact an (nretP [.bool (((i8 c)||(kD c))||(c==95))] (cs hs0))
theorem Ay (h:HF) (s:ByteArray)  : Ret prog 268 [.string s] h (.bool (fE s)):=by
 refine sT func268 U ntmps268 U fun X hM hX hF=>?_
 have hs0:fE s=fE s:=rfl
 refine qT 8 U (az (fy (we uR U) (qO 2 U (cf 4 [7,8,9,10,11] 7 11 (decide (32 < (s.size:Int))) U (fun c1 hk1=>?_) (fun e=>?_)))))
 ·exact aj (az (fy (we uR U) (qO 2 U (hk1 _ U))))
 refine aj (cf 5 [12,13,14,15,16,17] 12 17 (!(i8 ((s.data.getD (0:Int).toNat 0).toNat:Int))) U (fun c2 hk2=>?_) (fun e=>?_))
 ·refine aj ?_
  have ho1:0≤(0:Int)∧(0:Int) < (s.size:Int):=ob
  exact az (fy (Ca uR U U ho1) (ah call276 (rg h ((s.data.getD (0:Int).toNat 0).toNat:Int)) U (qO 2 U (hk2 _ U))))
 refine aN (ac hs0 U (fun c3 hs1=>?_) (fun c3 hs2=>?_))
 ·exact sr (an (nretP [.bool false] (cs hs1)))
 ·refine qT 6 U ?_
  refine ji (ι:=Nat) (fun i=>[]) (fun i=>h) (fun i=>[]) (fun i=>i≤(List.range s.size).length∧fE s=((fE.K1))) ?_ (fun hx1=>?_)
  ·rintro i1 ⟨eR,hs4⟩ e
   exact sr (an (nretP [.bool true] (cs hs4)))
  ·refine kT (ι:=Nat×List Nat) (fun i=>[(0,.string s),(3,I (i.1:Int))]) (fun i=>h) (fun i=>[]) (fun i=>(List.range s.size).drop i.1=i.2∧i.1≤(List.range s.size).length∧fE s=((fE.L1 s (fE.K1)) i.2 i.1)) (fun i=>i.2.length) (0,(List.range s.size)) rd sw ⟨U,Nat.zero_le _,hs2⟩ ?_
   rintro ⟨i1,s1⟩ ⟨hd1,eR,hs6⟩ ag1 e
   rcases s1 with _ | ⟨y1,rz1⟩
   ·have eM:decide ((i1:Int) < (s.size:Int))=false:=by simpa using pH hd1
    exact dB (qT 4 U (az (fy (we uR U) (ae (v':=.bool false) U (cb eM) (qO 3 U (hx1 i1 _ ⟨eR,hs6⟩ trivial))))))
   ·have cz:decide ((i1:Int) < (s.size:Int))=true:=by simpa using tU hd1
    have dF:i1 < s.size:=by simpa using j2 hd1
    refine qT 5 U (az (fy (we uR U) (ae (v':=.bool true) U (cb cz) (qO 9 U ?_))))
    have ho3:0≤((i1:Int):Int)∧((i1:Int):Int) < (s.size:Int):=ob
    refine az (fy (Ca uR U U ho3) (ah call277 (Aw h ((s.data.getD ((i1:Int):Int).toNat 0).toNat:Int)) U (qO 2 U (ac hs6 U (fun c5 hs8=>?_) (fun c5 hs9=>?_)))))
    ·exact sr (an (nretP [.bool false] (cs hs8)))
    ·exact aG (qT 3 U (ae (v':=I (((i1+1):Nat):Int)) U (aL ob) (an (ag1 ((i1+1),rz1) _ (Nat.lt_succ_self _) ⟨mX hd1,j2 hd1,hs9⟩ rd))))
theorem Aq (h:HF) (s:ByteArray)  : Ret prog 269 [.string s] h (.bool (ll s)):=by
 refine sT func269 U ntmps269 U fun X hM hX hF=>?_
 have hs0:ll s=ll s:=rfl
 refine qT 16 U (ac hs0 U (fun c1 hs1=>?_) (fun c1 hs2=>?_))
 ·refine aG (ac hs1 U (fun c2 hs3=>?_) (fun c2 hs4=>?_))
  ·exact sr (an (nretP [.bool true] (cs hs3)))
  ·exact aG (qT 5 U (nretP [.bool false] (cs hs4)))
 ·refine qT 5 U (ac hs2 U (fun c3 hs7=>?_) (fun c3 hs8=>?_))
  ·refine aG (ac hs7 U (fun c4 hs9=>?_) (fun c4 hs10=>?_))
   ·exact sr (an (nretP [.bool true] (cs hs9)))
   ·exact aG (qT 5 U (nretP [.bool false] (cs hs10)))
  ·refine qT 5 U (ac hs8 U (fun c5 hs13=>?_) (fun c5 hs14=>?_))
   ·refine aG (ac hs13 U (fun c6 hs15=>?_) (fun c6 hs16=>?_))
    ·exact sr (an (nretP [.bool true] (cs hs15)))
    ·exact aG (qT 5 U (nretP [.bool false] (cs hs16)))
   ·refine qT 5 U (ac hs14 U (fun c7 hs19=>?_) (fun c7 hs20=>?_))
    ·refine aG (ac hs19 U (fun c8 hs21=>?_) (fun c8 hs22=>?_))
     ·exact sr (an (nretP [.bool true] (cs hs21)))
     ·exact aG (qT 5 U (nretP [.bool false] (cs hs22)))
    ·refine qT 5 U (ac hs20 U (fun c9 hs25=>?_) (fun c9 hs26=>?_))
     ·refine aG (ac hs25 U (fun c10 hs27=>?_) (fun c10 hs28=>?_))
      ·exact sr (an (nretP [.bool true] (cs hs27)))
      ·exact aG (qT 5 U (nretP [.bool false] (cs hs28)))
     ·refine qT 5 U (ac hs26 U (fun c11 hs31=>?_) (fun c11 hs32=>?_))
      ·refine aG (ac hs31 U (fun c12 hs33=>?_) (fun c12 hs34=>?_))
       ·exact sr (an (nretP [.bool true] (cs hs33)))
       ·exact aG (qT 5 U (nretP [.bool false] (cs hs34)))
      ·refine qT 5 U (ac hs32 U (fun c13 hs37=>?_) (fun c13 hs38=>?_))
       ·refine aG (ac hs37 U (fun c14 hs39=>?_) (fun c14 hs40=>?_))
        ·exact sr (an (nretP [.bool true] (cs hs39)))
        ·exact aG (qT 5 U (nretP [.bool false] (cs hs40)))
       ·refine qT 5 U (ac hs38 U (fun c15 hs43=>?_) (fun c15 hs44=>?_))
        ·refine aG (ac hs43 U (fun c16 hs45=>?_) (fun c16 hs46=>?_))
         ·exact sr (an (nretP [.bool true] (cs hs45)))
         ·exact aG (qT 5 U (nretP [.bool false] (cs hs46)))
        ·refine qT 5 U (ac hs44 U (fun c17 hs49=>?_) (fun c17 hs50=>?_))
         ·refine aG (ac hs49 U (fun c18 hs51=>?_) (fun c18 hs52=>?_))
          ·exact sr (an (nretP [.bool true] (cs hs51)))
          ·exact aG (qT 5 U (nretP [.bool false] (cs hs52)))
         ·refine qT 5 U (ac hs50 U (fun c19 hs55=>?_) (fun c19 hs56=>?_))
          ·refine aG (ac hs55 U (fun c20 hs57=>?_) (fun c20 hs58=>?_))
           ·exact sr (an (nretP [.bool true] (cs hs57)))
           ·exact aG (qT 5 U (nretP [.bool false] (cs hs58)))
          ·refine qT 5 U (ac hs56 U (fun c21 hs61=>?_) (fun c21 hs62=>?_))
           ·refine aG (ac hs61 U (fun c22 hs63=>?_) (fun c22 hs64=>?_))
            ·exact sr (an (nretP [.bool true] (cs hs63)))
            ·exact aG (qT 5 U (nretP [.bool false] (cs hs64)))
           ·refine qT 5 U (ac hs62 U (fun c23 hs67=>?_) (fun c23 hs68=>?_))
            ·refine aG (ac hs67 U (fun c24 hs69=>?_) (fun c24 hs70=>?_))
             ·exact sr (an (nretP [.bool true] (cs hs69)))
             ·exact aG (qT 5 U (nretP [.bool false] (cs hs70)))
            ·refine qT 5 U (ac hs68 U (fun c25 hs73=>?_) (fun c25 hs74=>?_))
             ·refine aG (ac hs73 U (fun c26 hs75=>?_) (fun c26 hs76=>?_))
              ·exact sr (an (nretP [.bool true] (cs hs75)))
              ·exact aG (qT 5 U (nretP [.bool false] (cs hs76)))
             ·refine qT 5 U (ac hs74 U (fun c27 hs79=>?_) (fun c27 hs80=>?_))
              ·refine aG (ac hs79 U (fun c28 hs81=>?_) (fun c28 hs82=>?_))
               ·exact sr (an (nretP [.bool true] (cs hs81)))
               ·exact aG (qT 5 U (nretP [.bool false] (cs hs82)))
              ·refine qT 5 U (ac hs80 U (fun c29 hs85=>?_) (fun c29 hs86=>?_))
               ·refine aG (ac hs85 U (fun c30 hs87=>?_) (fun c30 hs88=>?_))
                ·exact sr (an (nretP [.bool true] (cs hs87)))
                ·exact aG (qT 5 U (nretP [.bool false] (cs hs88)))
               ·refine qT 4 U (ac hs86 U (fun c31 hs91=>?_) (fun c31 hs92=>?_))
                ·exact sr (an (nretP [.bool true] (cs hs91)))
                ·exact aG (qT 5 U (nretP [.bool false] (cs hs92)))
end Go.Sg
