import Derived.Test.YtngiefchigcphaaGreatDoorW8
/- A part of the proof of AsofNeededSpec. -/
set_option linter.unusedVariables false
set_option linter.unusedSimpArgs false
set_option maxRecDepth 100000
namespace Go.Sg
open Go.Proofs Go.Proofs.Tryz
set_option maxHeartbeats 2000000
theorem nn (h:HF) (aT:Register) (dt:dH) (doc:Int) (who:List Int) (dU:Option Addr) (dT:Nat) (known:Int) (gD:Register.ok h aT dt) (hwho:SlC Rp.int h dU dT who) (hsm:smR aT) (hsw:who.length≤2000000) (hk:Kinds h):iq prog 10 [.agg (Register.cells aT dt).toArray,I doc,.slice dU who.length dT,I known] h (fun v h'=>∃ (rb0:Option Addr) (rc0:Nat),v=.tuple #[.slice rb0 ((eW aT doc who known).1).length rc0,I ((eW aT doc who known).2)]∧SlC Span.rp h' rb0 rc0 ((eW aT doc who known).1)):=by
 refine cU FE U ntmps10 U fun X hM hX=>?_
 have hs0:eW aT doc who known=eW aT doc who known:=rfl
 refine sr (cA (fun b1=>cA (fun b2=>bH zc34 (fun b3=>qO 5 U (cJ 2 ty30 U U U (ah call26 (sG _ _ _ gD ob hk) U (qO 2 U (ac hs0 U (fun c1 hs1=>?_) (fun c1 hs2=>?_)))))))))
 ·refine sr (dw 0 ty34 U U U U U U (an ?_))
  have hs3:eW aT doc who known=([],300):=hs1
  exact fR [.slice none 0 0,I 300] FE U ⟨⟨0,_,_,_,_,U,U,.inr ⟨_,ty34,U⟩⟩,U,trivial⟩ ⟨none,0,congrArg (fun r:(List Span×Int)=>(.tuple #[.slice none r.1.length 0,I r.2]:Value)) hs3.symm,(by rw [hs3];exact SlC.nil)⟩
 refine qT 3 U (cJ 2 ty30 U U U (qO 2 U (aA (cf call27 (xY _ _ _ doc known gD) U (fun v1 h1 hle1 hp1=>?_)))))
 obtain ⟨rr1,rfl,ok1⟩:=hp1
 refine qO 3 U (bH zc77 (fun b4=>bE 0 ty77 U U U U U U (qO 8 U (ce 4 [26,27,28,29,30] 26 30 (!(iO who)) U (fun c2 hk1=>?_) (fun e=>?_)))))
 ·exact qL 1 [2] U (ah call28 (AE _ _ _ _ (hwho.mono Rp.aK hle1)) U (qO 2 U (hk1 _ U)))
 refine aM (ac hs2 U (fun c3 hs4=>?_) (fun c3 hs5=>?_))
 ·refine sr (dw 1 ty34 U U U U U U (an ?_))
  have hs6:eW aT doc who known=([],1):=hs4
  exact fR [.slice none 0 0,I 1] FE U ⟨⟨1,_,_,_,_,U,U,.inr ⟨_,ty34,U⟩⟩,U,trivial⟩ ⟨none,0,congrArg (fun r:(List Span×Int)=>(.tuple #[.slice none r.1.length 0,I r.2]:Value)) hs6.symm,(by rw [hs6];exact SlC.nil)⟩
 refine qT 4 U (cJ 0 ty77 U U U (aA (cf call29 (qm _ _ _ ok1 (by have a_:=(asked (by simpa using c1) (by simp only [decide_eq_true_eq,decide_eq_false_iff_not,Bool.and_eq_true,Bool.or_eq_true,Bool.not_eq_true',Bool.not_eq_false',Bool.and_eq_false_iff,Bool.or_eq_false_iff,beq_iff_eq,beq_eq_false_iff_ne,bne_iff_ne,bne_eq_false_iff_eq,List.length_append,List.length_cons,List.length_nil,List.length_drop] at c3;exact c3.1));rw [a_.reg];exact hsm) (by have a_:=(asked (by simpa using c1) (by simp only [decide_eq_true_eq,decide_eq_false_iff_not,Bool.and_eq_true,Bool.or_eq_true,Bool.not_eq_true',Bool.not_eq_false',Bool.and_eq_false_iff,Bool.or_eq_false_iff,beq_iff_eq,beq_eq_false_iff_ne,bne_iff_ne,bne_eq_false_iff_eq,List.length_append,List.length_cons,List.length_nil,List.length_drop] at c3;exact c3.1));rw [a_.reg];exact a_.vers.okV) (by have a_:=(asked (by simpa using c1) (by simp only [decide_eq_true_eq,decide_eq_false_iff_not,Bool.and_eq_true,Bool.or_eq_true,Bool.not_eq_true',Bool.not_eq_false',Bool.and_eq_false_iff,Bool.or_eq_false_iff,beq_iff_eq,beq_eq_false_iff_ne,bne_iff_ne,bne_eq_false_iff_eq,List.length_append,List.length_cons,List.length_nil,List.length_drop] at c3;exact c3.1));exact ⟨a_.doc.at_.1,Int.le_of_lt a_.doc.at_.2⟩)) U (fun v2 h2 hle2 hp2=>?_))))
 obtain ⟨_,rfl,mo1⟩:=hp2
 refine qO 2 U (gk (cS (L':=([(b4,O (aC.cells ((cG aT doc known).1) rr1) 77),(b3,O [.slice none 0 0] 34),(b2,O [.slice dU who.length dT] 31),(b1,O (Register.cells aT dt) 30)])++markB []) ap ?_))
 refine kd (it:=v2) (xs:=(aD ((cG aT doc known).1))) (ι:=(List Span)×Option Addr×Nat×LH×HF) [] (fun i=>i.2.2.2.2) (fun i=>[(b4,O (aC.cells ((cG aT doc known).1) rr1) 77),(b3,O [.slice i.2.1 i.1.length i.2.2.1] 34),(b2,O [.slice dU who.length dT] 31),(b1,O (Register.cells aT dt) 30)]++(i.2.2.2.1)) (fun s i=>eW aT doc who known=((eW.L1 aT doc who known (eW.K1)) s i.1)∧cM Span.rp 46 i.2.2.2.2 i.1 i.2.1 i.2.2.1 i.2.2.2.1∧HF.le h2 i.2.2.2.2∧i.1.length+s.length≤5000000) (fun _=>False) (fun _=>False) 0 (fun _ _ _=>False) ([],none,0,[],h2) FE U mo1 U C0 (fun _ _ _ _ _ hq=>hq) U (show [(b4,O (aC.cells ((cG aT doc known).1) rr1) 77),(b3,O [.slice none 0 0] 34),(b2,O [.slice dU who.length dT] 31),(b1,O (Register.cells aT dt) 30)]=_ from U) ⟨hs5,cM.nil,lf,(by have a_:=(asked (by simpa using c1) (by simp only [decide_eq_true_eq,decide_eq_false_iff_not,Bool.and_eq_true,Bool.or_eq_true,Bool.not_eq_true',Bool.not_eq_false',Bool.and_eq_false_iff,Bool.or_eq_false_iff,beq_iff_eq,beq_eq_false_iff_ne,bne_iff_ne,bne_eq_false_iff_eq,List.length_append,List.length_cons,List.length_nil,List.length_drop] at c3;exact c3.1));have:=GW (q:=(cG aT doc known).1) (by rw [a_.reg];exact hsm) (by rw [a_.reg];exact a_.vers.okV);simpa using this)⟩ ?_ ?_ ?_ ?_ ?_
 ·rintro l1 dm1 lp1 y1 rz1 vs1 ⟨aG,gh,gg,ip,hh1⟩ hr1 X hFR1 ⟨hs7,jc,hl1,u1_0⟩ hl01 hlr1 hv1 hX hXM hlp1 nx1 rt1 ex1 pn1
  try dsimp only at jc hl1 u1_0 hlr1
  obtain rfl:=hv1
  simp only [List.length_cons] at u1_0
  refine cS (L':=[(l1,.loop lp1),(dm1,.deferred (some [])),(b4,O (aC.cells ((cG aT doc known).1) rr1) 77),(b3,O [.slice gh aG.length gg] 34),(b2,O [.slice dU who.length dT] 31),(b1,O (Register.cells aT dt) 30)]++(ip++(markB []))) ap (bn (bH zc46 (fun b6=>bE 0 ty46 U U U U U U (iW (L':=[(b6,O (Span.cells y1) 46),(l1,.loop lp1),(dm1,.deferred (some [])),(b4,O (aC.cells ((cG aT doc known).1) rr1) 77),(b3,O [.slice gh aG.length gg] 34),(b2,O [.slice dU who.length dT] 31),(b1,O (Register.cells aT dt) 30)]++(ip++(markB []))) U (aM (kg 1 U hlp1 (qK 10 [4] U (cJ 3 ty77 U U U (qL 3 [5,0] U (ah call30 (mX _ _ _ _ _ _ y1.From (ok1.mono ((hle2.t hl1).t hlr1)) (hwho.mono Rp.aK (((hle1.t hle2).t hl1).t hlr1)) (by have a_:=(asked (by simpa using c1) (by simp only [decide_eq_true_eq,decide_eq_false_iff_not,Bool.and_eq_true,Bool.or_eq_true,Bool.not_eq_true',Bool.not_eq_false',Bool.and_eq_false_iff,Bool.or_eq_false_iff,beq_iff_eq,beq_eq_false_iff_ne,bne_iff_ne,bne_eq_false_iff_eq,List.length_append,List.length_cons,List.length_nil,List.length_drop] at c3;exact c3.1));rw [a_.reg];exact hsm) (by have a_:=(asked (by simpa using c1) (by simp only [decide_eq_true_eq,decide_eq_false_iff_not,Bool.and_eq_true,Bool.or_eq_true,Bool.not_eq_true',Bool.not_eq_false',Bool.and_eq_false_iff,Bool.or_eq_false_iff,beq_iff_eq,beq_eq_false_iff_ne,bne_iff_ne,bne_eq_false_iff_eq,List.length_append,List.length_cons,List.length_nil,List.length_drop] at c3;exact c3.1));rw [a_.reg];exact a_.vers.okV) (by have a_:=(asked (by simpa using c1) (by simp only [decide_eq_true_eq,decide_eq_false_iff_not,Bool.and_eq_true,Bool.or_eq_true,Bool.not_eq_true',Bool.not_eq_false',Bool.and_eq_false_iff,Bool.or_eq_false_iff,beq_iff_eq,beq_eq_false_iff_ne,bne_iff_ne,bne_eq_false_iff_eq,List.length_append,List.length_cons,List.length_nil,List.length_drop] at c3;exact c3.1));exact ⟨⟨a_.doc.at_.1,Int.le_of_lt a_.doc.at_.2⟩,a_.doc.kind.1⟩) ob (hk.mono (((hle1.t hle2).t hl1).t hlr1))) U (qO 3 U (ac hs7 U (fun c5 hs8=>?_) (fun c5 hs9=>?_)))))))))))))
  ·exact aE (qT 2 U (bU (L':=[(l1,.loop { lp1 with state:=.busy }),(dm1,.deferred (some [])),(b4,O (aC.cells ((cG aT doc known).1) rr1) 77),(b3,O [.slice gh aG.length gg] 34),(b2,O [.slice dU who.length dT] 31),(b1,O (Register.cells aT dt) 30)]++(ip++(markB []))) js (cS (L':=rdH l1 dm1 lp1 (([(b4,O (aC.cells ((cG aT doc known).1) rr1) 77),(b3,O [.slice gh aG.length gg] 34),(b2,O [.slice dU who.length dT] 31),(b1,O (Register.cells aT dt) 30)]++(ip))++markB [])) ap (nx1 (aG,gh,gg,ip,hr1) _ _ ⟨hs8,(jc.mono Span.ak hlr1),(hl1.t hlr1),(by first | omega | (simp only [List.length_append,List.length_cons,List.length_nil,List.length_set];omega))⟩ lf))))
  refine dz ?_
  refine ke [(8,Q b3),(12,Q b6),(13,I (aG.length:Int)),(47,.bool (decide (0 < (aG.length:Int))&&((nthI aG ((aG.length:Int) - 1)).Until==y1.From)))] (fun e=>?_) (fun hk2=>?_)
  rotate_left
  ·refine eB ([(b6,O (Span.cells y1) 46),(l1,.loop { lp1 with state:=.busy }),(dm1,.deferred (some [])),(b4,O (aC.cells ((cG aT doc known).1) rr1) 77),(b3,O [.slice gh aG.length gg] 34),(b2,O [.slice dU who.length dT] 31),(b1,O (Register.cells aT dt) 30)]++(ip)) mixed kr jn (fun cB _=>?_)
   refine qR 0 3 U ?_
   refine cx 50 U (fun c6=>?_) (fun c6=>?_)
   ·have c6p:=of_decide_eq_true c6
    refine tf 3 U U (fun _ _ hj=>fI ty34 U (hj.nth (i:=4) U) U) (tm 4 U (tf 5 U U (fun _ _ _=>mq (v':=I ((aG.length:Int) - 1)) U (gG ob)) ?_))
    have ho2:0≤(((aG.length:Int) - 1):Int)∧(((aG.length:Int) - 1):Int) < ((aG).length:Int):=ob
    obtain ⟨bk2,hbk2⟩:=cM.lM (jc.mono Span.ak hlr1) ob
    exact tf 6 U U (fun _ _ _=>pN (R:=Span.rp) (xs:=aG) xg ty46 hbk2 ho2 U U U) (qB [7] U (tf 8 U U (fun _ _ hj=>DS (R:=Span.rp) (i:=(((aG.length:Int) - 1):Int).toNat) (off:=1) ty3 (jc.mono Span.ak hlr1) hbk2 (bT ho2) (fun cs hcs=>by rw [show cs=Span.cells (nthI aG ((aG.length:Int) - 1)) from hcs];rfl) U (mj hj)) (qB [9] U (tf 10 U U (fun _ _ hj=>fI ty3 U (hj.nth (i:=0) U) U) (qR 11 3 U (aI kr (hk2 _ ⟨U,U,U,(cb (show ((nthI aG ((aG.length:Int) - 1)).Until==y1.From)=(decide (0 < (aG.length:Int))&&((nthI aG ((aG.length:Int) - 1)).Until==y1.From)) from by rw [c6] <;> rfl)),trivial⟩)))))))
   have c6p:=of_decide_eq_false c6
   exact tk 3 U U (qR 4 10 U (aI kr (hk2 _ ⟨U,U,U,(cb (show false=(decide (0 < (aG.length:Int))&&((nthI aG ((aG.length:Int) - 1)).Until==y1.From)) from by rw [c6] <;> rfl)),trivial⟩)))
  refine ac hs9 U (fun c7 hs10=>?_) (fun c7 hs11=>?_)
  ·refine qK 3 [4] U (ad (v':=I ((aG.length:Int) - 1)) U (gG ob) (qL 2 [0] U ?_))
   have ho3:0≤(((aG.length:Int) - 1):Int)∧(((aG.length:Int) - 1):Int) < ((aG).length:Int):=ob
   obtain ⟨bk3,hbk3⟩:=cM.lM (jc.mono Span.ak hlr1) ob
   exact aA (fu (pN (R:=Span.rp) (xs:=aG) xg ty46 hbk3 ho3 U U U) (qL 1 [] U (aA (DF (R:=Span.rp) (i:=(((aG.length:Int) - 1):Int).toNat) (off:=1) (u:=(nthI aG ((aG.length:Int) - 1))) (u':=(Span.mk (nthI aG ((aG.length:Int) - 1)).From y1.Until)) (v:=I y1.Until) ([(b6,O (Span.cells y1) 46),(l1,.loop { lp1 with state:=.busy }),(dm1,.deferred (some [])),(b4,O (aC.cells ((cG aT doc known).1) rr1) 77),(b3,O [.slice gh aG.length gg] 34),(b2,O [.slice dU who.length dT] 31),(b1,O (Register.cells aT dt) 30)]) ip (markB []) ty3 U (jc.mono Span.ak hlr1) ap hbk3 (bT ho3) (by decide) (fun cs hcs=>by rw [show cs=Span.cells (nthI aG ((aG.length:Int) - 1)) from hcs];rfl) U U U (fun G1 gr1=>iW (L':=[(b6,O (Span.cells y1) 46),(l1,.loop { lp1 with state:=.busy }),(dm1,.deferred (some [])),(b4,O (aC.cells ((cG aT doc known).1) rr1) 77),(b3,O [.slice gh ((aG.set (((aG.length:Int) - 1):Int).toNat (Span.mk (nthI aG ((aG.length:Int) - 1)).From y1.Until)).length) gg] 34),(b2,O [.slice dU who.length dT] 31),(b1,O (Register.cells aT dt) 30)]++(G1++(markB []))) (by simp only [List.length_set,List.append_assoc,List.cons_append,List.nil_append,List.append_nil]) (qO 3 U (bU (L':=[(l1,.loop { lp1 with state:=.busy }),(dm1,.deferred (some [])),(b4,O (aC.cells ((cG aT doc known).1) rr1) 77),(b3,O [.slice gh ((aG.set (((aG.length:Int) - 1):Int).toNat (Span.mk (nthI aG ((aG.length:Int) - 1)).From y1.Until)).length) gg] 34),(b2,O [.slice dU who.length dT] 31),(b1,O (Register.cells aT dt) 30)]++(G1++(markB []))) js (cS (L':=rdH l1 dm1 lp1 (([(b4,O (aC.cells ((cG aT doc known).1) rr1) 77),(b3,O [.slice gh ((aG.set (((aG.length:Int) - 1):Int).toNat (Span.mk (nthI aG ((aG.length:Int) - 1)).From y1.Until)).length) gg] 34),(b2,O [.slice dU who.length dT] 31),(b1,O (Register.cells aT dt) 30)]++G1)++markB [])) ap (nx1 ((aG.set (((aG.length:Int) - 1):Int).toNat (Span.mk (nthI aG ((aG.length:Int) - 1)).From y1.Until)),gh,gg,G1,hr1) _ _ ⟨hs10,gr1,(hl1.t hlr1),(by first | omega | (simp only [List.length_append,List.length_cons,List.length_nil,List.length_set];omega))⟩ lf)))))))))
  exact qK 2 [4] U (cJ 0 ty46 U U U (aA (bg (cells:=[I y1.From,I y1.Until]) xg ty46 zc46 U U kr (fun b7=>aA (bS Span.eC ([(b7,O [I y1.From,I y1.Until] 46),(b6,O (Span.cells y1) 46),(l1,.loop { lp1 with state:=.busy }),(dm1,.deferred (some [])),(b4,O (aC.cells ((cG aT doc known).1) rr1) 77),(b3,O [.slice gh aG.length gg] 34),(b2,O [.slice dU who.length dT] 31),(b1,O (Register.cells aT dt) 30)]) (markB []) (fun G=>[(b7,O [I y1.From,I y1.Until] 46),(b6,O (Span.cells y1) 46),(l1,.loop { lp1 with state:=.busy }),(dm1,.deferred (some [])),(b4,O (aC.cells ((cG aT doc known).1) rr1) 77),(b3,O [.slice gh aG.length gg] 34),(b2,O [.slice dU who.length dT] 31),(b1,O (Register.cells aT dt) 30)]++(markB []++G)) ap (fun _=>ap) xg ty46 zc46 U bytes46 (jc.mono Span.ak hlr1) U U (du 0 U (show aP Span.rp hr1 [I y1.From,I y1.Until] ([y1]) from ⟨[I y1.From,I y1.Until],[],U,U,U,U⟩)) lo lo (fun ob1 oc1 G2 gr2=>yv (tr ([(b7,O [I y1.From,I y1.Until] 46),(b6,O (Span.cells y1) 46),(l1,.loop { lp1 with state:=.busy }),(dm1,.deferred (some [])),(b4,O (aC.cells ((cG aT doc known).1) rr1) 77),(b3,O [.slice gh aG.length gg] 34),(b2,O [.slice dU who.length dT] 31),(b1,O (Register.cells aT dt) 30)]) G2 (markB [])) (dw 5 ty34 U U U U U U (qO 3 U (bU (L':=[(l1,.loop { lp1 with state:=.busy }),(dm1,.deferred (some [])),(b4,O (aC.cells ((cG aT doc known).1) rr1) 77),(b3,O [.slice ob1 ((aG++[y1]).length) oc1] 34),(b2,O [.slice dU who.length dT] 31),(b1,O (Register.cells aT dt) 30)]++(G2++(markB []))) js (cS (L':=rdH l1 dm1 lp1 (([(b4,O (aC.cells ((cG aT doc known).1) rr1) 77),(b3,O [.slice ob1 ((aG++[y1]).length) oc1] 34),(b2,O [.slice dU who.length dT] 31),(b1,O (Register.cells aT dt) 30)]++G2)++markB [])) ap (nx1 ((aG++[y1]),ob1,oc1,G2,hr1) _ _ ⟨hs11,gr2,(hl1.t hlr1),(by first | omega | (simp only [List.length_append,List.length_cons,List.length_nil,List.length_set];omega))⟩ lf)))))))))))
 ·rintro dm1 ⟨aG,gh,gg,ip,hh1⟩ hn1 ⟨hs12,jc,hl1,u1_0⟩ hln1 hl01
  try dsimp only at jc hl1 u1_0 hln1
  refine cS (L':=[(b4,O (aC.cells ((cG aT doc known).1) rr1) 77),(b3,O [.slice gh aG.length gg] 34),(b2,O [.slice dU who.length dT] 31),(b1,O (Register.cells aT dt) 30)]++(ip++(markB (dm1::[])))) ap (qK 4 [1] U (dw 1 ty34 U U U U U U (an (eI Span.ak ([(b4,O (aC.cells ((cG aT doc known).1) rr1) 77),(b3,O [.slice gh aG.length gg] 34),(b2,O [.slice dU who.length dT] 31),(b1,O (Register.cells aT dt) 30)]) ip (markB (dm1::[])) ap hM (jc.mono Span.ak hln1) (fun h3 hle3 sl1=>?_)))))
  have hs13:eW aT doc who known=(aG,0):=hs12
  exact cS (L':=([(b4,O (aC.cells ((cG aT doc known).1) rr1) 77),(b3,O [.slice gh aG.length gg] 34),(b2,O [.slice dU who.length dT] 31),(b1,O (Register.cells aT dt) 30)])++markB (dm1::[])) ap (pT (dm1::[]) [.slice gh aG.length gg,I 0] FE U ⟨⟨1,_,_,_,_,U,U,.inr ⟨_,ty34,U⟩⟩,U,trivial⟩ ⟨gh,gg,congrArg (fun r:(List Span×Int)=>(.tuple #[.slice gh r.1.length gg,I r.2]:Value)) hs13.symm,(by rw [hs13];exact sl1)⟩)
 ·exact xf
 ·exact xf
 exact xf
theorem rM (h:HF) (q:aC) (j4:fL) (person:Int) (aO:Int) (hq:aC.ok h q j4) (hsm:smR q.Register) (hov:okV q.Register.Versions) (hod:(0≤q.doc.At∧q.doc.At≤1099511627776)∧0≤q.doc.Kind) (hk:Kinds h):iq prog 38 [.agg (aC.cells q j4).toArray,I person,I aO] h (fun v h'=>∃ (rb0:Option Addr) (rc0:Nat),v=.slice rb0 (az q person aO).length rc0∧SlC Rp.int h' rb0 rc0 (az q person aO)):=by
 refine sT func38 U ntmps38 U fun X hM hX hF=>?_
 have hs0:az q person aO=az q person aO:=rfl
 have hjl:=zR q aO
 have hvl:=hov.1
 refine sr (cA (fun b1=>qO 4 U (aA (pi (fun b2=>qL 11 [1] U (ac hs0 U (fun c1 hs1=>?_) (fun c1 hs2=>?_)))))))
 ·have c1p:=of_decide_eq_true c1
  refine qT 4 U ?_
  have hs3:az q person aO=[]:=hs1
  exact nretH [.slice none 0 0] ⟨none,0,congrArg (fun r:List Int=>(.slice none r.length 0:Value)) hs3.symm,(by rw [hs3];exact SlC.nil)⟩
 have c1p:=of_decide_eq_false c1
 refine qT 3 U (cJ 1 ty77 U U U (aj (aA (cf call65 (mB _ _ _ aO hq ob hk) U (fun v1 h1 hle1 hp1=>?_)))))
 obtain ⟨rb1,rc1,rfl,sl1⟩:=hp1
 refine qL 13 [] U ?_
 let z1:Nat×Obj:=(b1,O (aC.cells q j4) 77)
 refine lp2 ((aw q aO).1) (fun i w=>[(1,I person),(2,I aO),(3,Q b1),(7,.map (some b2)),(28,.slice rb1 (((aw q aO).1).length) rc1),(29,I (((aw q aO).1).length:Int)),(30,I (i:Int))]) (fun w=>w.2.2) (fun w=>[(b2,w.2.1),z1]) (fun i w=>hO (Value.int .i64) iV w.2.2 w.2.1 w.1∧w.1.length≤64000000 * i∧HF.le h1 w.2.2) (fun s1 i w=>(az.L1 q aO (az.K1 person)) s1 w.1) ([],.map #[] 0,h1) sl1.1.1 hs2 ⟨((hO.nil (enc:=(Value.int .i64)) (V:=iV) (h:=h)).mono iV.mono hle1),lc,lf⟩ ?_ ?_
 ·rintro i1 ⟨dq,ku,hh1⟩ et hs4 ⟨gQ,lz,hl1⟩ e
  try dsimp only at gQ lz hl1
  refine qT 4 U (aA (H8 0 (k:=person) oh (eE kL) U gQ U U (fun mo4 hm4=>qO 4 U (bN 0 U hM (fun h3 hle3 hb1=>?_)))))
  have mc1:oZ (Value.int .i64) iV h3 b2 (mdel dq person):=⟨_,hb1,hm4.mono iV.mono hle3⟩
  refine aA (cf call61 (pB h3 (mdel dq person) b2 mc1) U (fun v3 h4 hle4 hp3=>aA (cf call60 (lQ h4 v3 ((mdel dq person).map Prod.fst) hp3 (by rw [List.length_map];have:=(vI person dq).length_le;omega)) U (fun v4 h5 hle5 hp4=>?_))))
  obtain ⟨rb4,rc4,rfl,sl4⟩:=hp4
  refine an ?_
  have hs5:az q person aO=(sortI ((mdel dq person).map Prod.fst)):=hs4
  exact nretH [.slice rb4 ((sortI ((mdel dq person).map Prod.fst)).length) rc4] ⟨rb4,rc4,congrArg (fun r:List Int=>(.slice rb4 r.length rc4:Value)) hs5.symm,(by rw [hs5];exact sl4)⟩
 rintro i1 ⟨dq,ku,hh1⟩ y1 rz1 hd1 cw ao dy fB hs6 ⟨gQ,lz,hl1⟩ hx1 ag1 e
 try dsimp only at gQ lz hl1
 obtain ⟨v_,hv_,hve_⟩:=zQ (fq hd1)
 have hsp:=hsm.vers.2 v_ hv_
 rw [hve_] at hsp
 have hvt:=hov.2 v_ hv_
 rw [hve_] at hvt
 have hofl:=hsp.2.2.2.1
 have hql:=CL q y1 aO
 refine sr (ad (v':=.bool true) U (cb cw) (qO 8 U (aA (dV Hz ty68 (sl1.mono Policy.ak hl1).1 (nthZ ao) (au ao) U U U (fun _ _ _ e=>e) (fun q6 r2 A6 ok2=>de ty68 A6 U U (bH zc68 (fun b7=>bE 0 ty68 U U U U U U (qO 3 U (cJ 2 ty77 U U U (cJ 0 ty68 U U U (aj (aA (cf call66 (mb _ _ _ _ _ aO (hq.mono (hle1.t hl1)) ok2 ob ob) U (fun v5 h6 hle6 hp5=>?_))))))))))))))
 obtain ⟨rb5,rc5,rfl,sl5⟩:=hp5
 refine qL 3 [] U ?_
 let z2:Nat×Obj:=(b7,O (Policy.cells y1 r2) 68)
 refine lp2 (ar q y1 aO) (fun i w=>[(1,I person),(2,I aO),(3,Q b1),(7,.map (some b2)),(28,.slice rb1 (((aw q aO).1).length) rc1),(29,I (((aw q aO).1).length:Int)),(30,I (i1:Int)),(37,.slice rb5 ((ar q y1 aO).length) rc5),(38,I ((ar q y1 aO).length:Int)),(39,I (i:Int))]) (fun _=>h6) (fun w=>[z2,(b2,w.2),z1]) (fun i w=>hO (Value.int .i64) iV h6 w.2 w.1∧w.1.length≤dq.length+2000000 * i) (fun s5 i w=>(az.L5 (fun zg5_b2_0=>(az.L1 q aO (az.K1 person) rz1 zg5_b2_0))) s5 w.1) (dq,ku) sl5.1.1 hs6 ⟨(gQ.mono iV.mono hle6),lc⟩ ?_ ?_
 ·rintro i5 ⟨jX,nB⟩ sK hs7 ⟨lu,oJ⟩ e
  try dsimp only at lu oJ
  exact dY (bn (ad (v':=I (((i1+1):Nat):Int)) U (aL ob) (qO 2 U (bU (L':=[(b2,nB),z1]) js (ag1 (jX,nB,h6) hs7 ⟨lu,lc,(hl1.t hle6)⟩)))))
 rintro i5 ⟨jX,nB⟩ y5 rz5 hd5 Fo zW Iy KF hs8 ⟨lu,oJ⟩ hx5 ag2 e
 try dsimp only at lu oJ
 have hyb:=sj hsm.2.1 y1 aO y5 (fq hd5)
 refine sr (ad (v':=.bool true) U (cb Fo) (qO 8 U (aA (vr ua ty101 sl5.1 (nthZ zW) (au zW) U U U (fun q11 cs5 A11 ln5 rr5=>?_)))))
 obtain ⟨rb7,rc7,rfl,sl7⟩:=rr5
 refine cK ty101 A11 U (qL 8 [] U ?_)
 refine lp2 y5 (fun i w=>[(1,I person),(2,I aO),(3,Q b1),(7,.map (some b2)),(28,.slice rb1 (((aw q aO).1).length) rc1),(29,I (((aw q aO).1).length:Int)),(30,I (i1:Int)),(37,.slice rb5 ((ar q y1 aO).length) rc5),(38,I ((ar q y1 aO).length:Int)),(39,I (i5:Int)),(43,.slice rb7 y5.length rc7),(44,I (y5.length:Int)),(45,I (i:Int))]) (fun _=>h6) (fun w=>[z2,(b2,w.2),z1]) (fun i w=>hO (Value.int .i64) iV h6 w.2 w.1∧w.1.length≤jX.length+i) (fun s7 i w=>(az.L7 (fun zg7_b2_0=>(az.L5 (fun zg5_b2_0=>(az.L1 q aO (az.K1 person) rz1 zg5_b2_0)) rz5 zg7_b2_0))) s7 w.1) (jX,nB) sl7.1.1 hs8 ⟨lu,lc⟩ ?_ ?_
 ·rintro i7 ⟨pE,Ex⟩ JH hs9 ⟨sL,Aa⟩ e
  try dsimp only at sL Aa
  exact dY (bn (ad (v':=I (((i5+1):Nat):Int)) U (aL ob) (qO 2 U (ag2 (pE,Ex) hs9 ⟨sL,lc⟩))))
 rintro i7 ⟨pE,Ex⟩ y7 rz7 hd7 Ix rA J5 K8 hs10 ⟨sL,Aa⟩ hx7 ag3 e
 try dsimp only at sL Aa
 exact sr (ad (v':=.bool true) U (cb Ix) (qO 8 U (aA (ek (enc:=Holder.cells) ei pb ty133 sl7.1 (nthZ rA) (au rA) U U U (fun q13 A13=>de ty133 A13 U U (bH zc133 (fun b12=>bE 0 ty133 U U U U U U (qL 5 [0] U (aA (ki 2 (k:=y7.Person) (x:=true) oh (eE kL) U sL U U U (fun mo9 hm9=>qO 3 U (ad (v':=I (((i7+1):Nat):Int)) U (aL ob) (qO 2 U (bU (L':=[z2,(b2,mo9),z1]) js (ag3 ((mput pE y7.Person true),mo9) hs10 ⟨hm9,(by have:=gq pE y7.Person true;first | omega | (simp only [List.length_nil,List.length_cons] at *;omega))⟩)))))))))))))))
theorem cM.anyI {h h':HF} {xs:List Int} {b:Option Addr} {c:Nat} {E:TypeId} {G:LH} (g:cM Rp.int E h xs b c G):cM Rp.int E h' xs b c G:=by
 rcases g with ⟨rfl,rfl,rfl,rfl⟩ | ⟨bk,cl,sp,rfl,hcl,h3,h4,h5,rfl⟩
 ·exact cM.nil
 have:=uP hcl
 subst this
 exact .inr ⟨bk,_,sp,U,vc h' _,h3,h4,h5,U⟩
section callGB
variable {P:Program} {b:Frame} {n:Nat} {ops:Array Oper} {F:List Frame→(Machine→Prop)→Prop} {e:Env} {ds:List Deferred} {X:Cx} {h:HF} {L:LH} {K:Env→HF→LH→Prop}
variable {d:Option Nat} {ty:TypeId} {pos:String} {af:Array Edge} {g:Option (Nat×Bool)}
theorem DJ (A G Q:LH) {xs ys:List Int} {base:Option Addr} {cap:Nat} {f:FuncId} {ass:Array Operand} {ats:Array TypeId} {vs:List Value} (hc:∀ args w,(callFunc f args).run P w=.ok (.enter f args) w) (hG:cM Rp.int 3 h xs base cap G) (hL:L=A++(G++Q))
  (hs:∀ h1,h.le h1→SlC Rp.int h1 base cap xs→KQ P f vs h1 Rp.int 3 ys) (hvs:ass.toList.map e.ev=vs)
  (t':∀ bb c G',cM Rp.int 3 h ys bb c G'→K (pute e d (.slice bb ys.length c)) h (L++G'))
  (hg:guardB ops e ⟨d,.call ⟨.value (.func f),ass,ats⟩,ty,pos,af,g⟩=true:=by rfl):
  Stp P b n ops F ds X ⟨d,.call ⟨.value (.func f),ass,ats⟩,ty,pos,af,g⟩ e h L K:=by
 unfold Stp
 rw [if_pos hg]
 intro w hw
 have harr:ass.map e.ev=vs.toArray:=Array.ext' (by simp [← hvs])
 have hr:(execOp e.ev ⟨d,.call ⟨.value (.func f),ass,ats⟩,ty,pos,af,g⟩).run P w=.ok (.enter f vs.toArray) w:=by
  simp [execOp,resolve,Env.ev,Deferred.ofValue,invoke,harr,hc]
 rw [hr]
 have back:∀ (h1:HF),h.le h1→(∀ bk o,h1 bk=some o→w.heap[bk]? = some o)→SlC Rp.int h1 base cap xs→qo P b n F ds X ⟨d,.call ⟨.value (.func f),ass,ats⟩,ty,pos,af,g⟩ e K (.ok (.enter f vs.toArray) w):=by
  intro h1 hle himm hsl
  have hp1:Pre h1 [] w:=⟨himm,fun _ hp=>(List.not_mem_nil hp).elim,List.nodup_nil,fun _ hp=>(List.not_mem_nil hp).elim⟩
  refine jC (by simp) (jf (nS.mono (hs h1 hle hsl w hp1) ?_))
  rintro x w' ⟨h',B,hst,rfl,bb,c,rfl,hG'⟩
  have hnew:∀ p∈B,w.heap.size≤p.1:=fun p hp=>(hst.new p hp).elim id (fun hq=>by simp at hq)
  refine ⟨h,L++B,⟨hst.os.trans hw.os,hst.tape.trans hw.tape,hst.output.trans hw.output,Nat.le_trans hw.size hst.size,fun b' hb' hM=>?_,hw.le,hw.old,fun b' o hb'=>?_,fun p hp=>?_,?_,fun p hp=>?_,fun p hp=>?_⟩,t' bb c B hG'.anyI⟩
  ·rw [hst.keep b' (Nat.lt_of_lt_of_le hb' hw.size) (by simp)];exact hw.keep b' hb' hM
  ·rw [hst.keep b' (fe (hw.imm b' o hb')) (by simp)];exact hw.imm b' o hb'
  ·rcases List.mem_append.1 hp with hp | hp
   ·rw [hst.keep p.1 (fe (hw.own p hp)) (by simp)];exact hw.own p hp
   exact hst.own p hp
  ·rw [List.map_append,List.nodup_append]
   refine ⟨hw.dis,hst.dis,fun x hx y hy hxy=>?_⟩
   obtain ⟨p,hp,rfl⟩:=List.mem_map.1 hx
   obtain ⟨q,hq,rfl⟩:=List.mem_map.1 hy
   have:=fe (hw.own p hp)
   have:=hnew q hq
   omega
  ·rcases List.mem_append.1 hp with hp | hp
   ·exact hw.free p hp
   cases hh:h p.1 with
   | none=>rfl
   | some o=>have:=fe (hw.imm _ _ hh);have:=hnew p hp;omega
  rcases List.mem_append.1 hp with hp | hp
  ·exact hw.new p hp
  exact .inl (Nat.le_trans hw.size (hnew p hp))
 rcases hG with ⟨rfl,rfl,rfl,rfl⟩ | ⟨bk,cl,sp,rfl,hcl,h3,h4,h5,rfl⟩
 ·exact back h lf hw.imm SlC.nil
 have hmem:(bk,O (cl++sp) 3)∈L:=by rw [hL];simp
 have hle:h.le (h.add bk (.cells (cl++sp).toArray 3 (0,0))):=HF.sC (hw.free _ hmem)
 refine back _ hle (fun k o hk=>?_) ⟨aP.slB (hcl.mono Rp.aK hle) (HF.oX _ _ _) h5,h4⟩
 unfold HF.add at hk
 by_cases e0:k=bk
 ·subst e0;simp at hk;subst hk;exact hw.own _ hmem
 rw [if_neg e0] at hk;exact hw.imm k o hk
end callGB
structure Da (h:HF) (q:aC) (j4:fL) (person at_:Int) (help:List Int) (hb:Option Addr) (hc:Nat) (q3 q4 q5 q6 q7:Addr) (bw:Nat):Prop where
 hq:aC.ok h q j4
 a3:At h q3 [I person]
 a4:At h q4 (aC.cells q j4)
 a5:At h q5 [I at_]
 a6:At h q6 [.slice hb help.length hc]
 a7:At h q7 [.func (.func 39) #[] #[.pointer (some ⟨bw,0,none⟩),.pointer (some q3),.pointer (some q4),.pointer (some q5),.pointer (some q6),.pointer (some q7)]]
 hh:SlC Rp.int h hb hc help
 kk:Kinds h
 sm:smR q.Register
 ov:okV q.Register.Versions
 od:(0≤q.doc.At∧q.doc.At≤1099511627776)∧0≤q.doc.Kind
 le:help.length≤12
@[reducible] def needClo (q3 q4 q5 q6 q7:Addr) (bw:Nat):List Value:=[.pointer (some ⟨bw,0,none⟩),.pointer (some q3),.pointer (some q4),.pointer (some q5),.pointer (some q6),.pointer (some q7)]
@[reducible] def needCell (bw:Nat) (b:Option Addr) (n c:Nat):Nat×Obj:=(bw,.cells [Value.slice b n c].toArray 31 (0,0))
@[reducible] def needR (h:HF) (bw:Nat) (ws:List Int) (r:Option (List Int)):Ending→HF→LH→Prop:=fun x h' B=>h'=h∧x=.returned (.bool r.isSome)∧∃ rb rc G',cM Rp.int 3 h (r.getD ws) rb rc G'∧B=needCell bw rb (r.getD ws).length rc::G'
theorem EX {h:HF} {q:aC} {j4:fL} {person at_:Int} {help:List Int} {hb:Option Addr} {hc:Nat} {q3 q4 q5 q6 q7:Addr} {bw:Nat} (N:Da h q j4 person at_ help hb hc q3 q4 q5 q6 q7 bw)
  (fr:Nat) (ws:List Int) (wb:Option Addr) (wc:Nat) (G:LH) (hG:cM Rp.int 3 h ws wb wc G) (hws:ws.length≤100):
  nI prog 39 ([Value.int .i64 (fr:Nat),Value.int .i64 ((0:Nat):Int)]++needClo q3 q4 q5 q6 q7 bw).toArray h (needCell bw wb ws.length wc::G) (needR h bw ws (tryP (needC q person at_) help 0 fr ws)):=by
 refine cU FD U ntmps39 U fun X hM hX=>qT 8 U (ad (v':=.bool true) U U (qO 2 U ?_))
 refine dz (Cr (ι:=Nat×Option Addr×Nat×LH) (fun i=>[(2,.pointer (some ⟨bw,0,none⟩)),(4,.pointer (some q4)),(5,.pointer (some q5)),(11,.slice i.2.1 (ws++[person]).length i.2.2.1)])
  (fun i=>((i.1,.cells [Value.int .i64 person].toArray 3 (0,0))::needCell bw wb ws.length wc::G)++i.2.2.2) (fun i=>cM Rp.int 3 h (ws++[person]) i.2.1 i.2.2.1 i.2.2.2) ?_ (fun hk=>?_))
 ·rintro ⟨bs,bb,c,G2⟩ hG2 e
  dsimp only at hG2
  refine qT 3 U (aA (rY ((bs,.cells [Value.int .i64 person].toArray 3 (0,0))::needCell bw wb ws.length wc::G) G2 [] call41 (mn h _ bb c G2 hG2 (by rw [List.length_append,List.length_cons,List.length_nil];omega)) (by simp) U (fun G3 hG3=>qO 3 U (de ty77 N.a4 U U (aj (cK ty3 N.a5 U ?_))))))
  refine aA (DI (v:=.bool (needC q person at_ ws)) ((bs,.cells [Value.int .i64 person].toArray 3 (0,0))::needCell bw wb ws.length wc::G) G3 [] call30 Rp.aK hG3 U
   (fun h1 hle hsl=>mX h1 q j4 _ _ _ at_ (N.hq.mono hle) hsl N.sm N.ov N.od (by rw [hU,List.length_append,List.length_cons,List.length_nil];omega) (N.kk.mono hle)) (by rw [hU];rfl) ?_)
  refine an ?_
  have e1:tryP (needC q person at_) help 0 fr ws=bif needC q person at_ ws then some ws else none:=rfl
  refine mG FD (fun a ha w hw=>res1 U a ha w) (fun w hw=>(hw.sub (L':=needCell bw wb ws.length wc::G) js).lower) ⟨hX,?_,wb,wc,G,?_,?_⟩
  ·rw [e1];cases needC q person at_ ws <;> rfl
  ·rw [e1];cases needC q person at_ ws <;> exact hG
  rw [e1];cases needC q person at_ ws <;> rfl
 refine (eB [needCell bw wb ws.length wc] mixed kr ⟨HF.le_refl _,fun p hp=>by rw [List.mem_singleton.1 hp];exact List.mem_cons_self ..⟩ (fun hsep hj0=>lG 0 hsep hj0 U U kr U (fun _ _ hj=>fI ty31 U (hj.nth (i:=0) U) U) (lG 2 hsep hj0 U U kr U (fun _ _ hj=>eF ty3 (N.a3.mono hj.1) U) ?_)))
 refine jq 1 3 kr U U ?_ ?_
 ·refine DJ [needCell bw wb ws.length wc] G [] call40 hG (by simp) (fun h1 hle hsl=>lR h1 ws wb wc hsl ob) U (fun bb c G2 hG2=>⟨⟨HF.le_refl _,fun p hp=>by rw [List.mem_singleton.1 hp];exact List.mem_cons_self ..⟩,tn 3 U (bg (cells:=[I person]) cQ ty3 zc3 U U kr (fun bs=>⟨⟨HF.le_refl _,fun p hp=>by rw [List.mem_singleton.1 hp];exact List.mem_cons_of_mem _ (List.mem_cons_self ..)⟩,?_⟩))⟩)
  refine tn 4 U (bS Rp.dF ((bs,.cells [Value.int .i64 person].toArray 3 (0,0))::needCell bw wb ws.length wc::G) [] (fun G'=>((bs,.cells [Value.int .i64 person].toArray 3 (0,0))::needCell bw wb ws.length wc::G)++([]++G')) (by simp) (fun _=>U) cQ ty3 zc3 U bytes3 hG2 U U
   (du 0 rfl (show aP Rp.int h [I person] [person] from ⟨[I person],[],rfl,rfl,rfl,rfl⟩)) lo lo (fun bb3 c3 G3 hG3=>?_))
  exact ⟨⟨HF.le_refl _,fun p hp=>by rw [List.mem_singleton.1 hp];simp⟩,tn 5 U (fu DT (⟨⟨HF.le_refl _,fun p hp=>by rw [List.mem_singleton.1 hp];simp⟩,aI kr (hk (bs,bb3,c3,G3) _ hG3 rd)⟩))⟩
 refine bg (cells:=[I person]) cQ ty3 zc3 U U kr (fun bs=>⟨⟨HF.le_refl _,fun p hp=>by rw [List.mem_singleton.1 hp];exact List.mem_cons_of_mem _ (List.mem_cons_self ..)⟩,tn 1 U (DJ [(bs,.cells [Value.int .i64 person].toArray 3 (0,0)),needCell bw wb ws.length wc] G [] call40 hG (by simp) (fun h1 hle hsl=>lR h1 ws wb wc hsl ob) U (fun bb c G2 hG2=>⟨⟨HF.le_refl _,fun p hp=>by rw [List.mem_singleton.1 hp];exact List.mem_cons_of_mem _ (List.mem_cons_self ..)⟩,?_⟩))⟩)
 refine tn 4 U (bS Rp.dF ((bs,.cells [Value.int .i64 person].toArray 3 (0,0))::needCell bw wb ws.length wc::G) [] (fun G'=>((bs,.cells [Value.int .i64 person].toArray 3 (0,0))::needCell bw wb ws.length wc::G)++([]++G')) (by simp) (fun _=>U) cQ ty3 zc3 U bytes3 hG2 U U
  (du 0 rfl (show aP Rp.int h [I person] [person] from ⟨[I person],[],rfl,rfl,rfl,rfl⟩)) lo lo (fun bb3 c3 G3 hG3=>?_))
 exact ⟨⟨HF.le_refl _,fun p hp=>by rw [List.mem_singleton.1 hp];simp⟩,tn 5 U (fu DT (⟨⟨HF.le_refl _,fun p hp=>by rw [List.mem_singleton.1 hp];simp⟩,aI kr (hk (bs,bb3,c3,G3) _ hG3 rd)⟩))⟩
theorem GL (c:List Int→Bool) (help:List Int) (m i:Nat) (ws:List Int) (hi:i+(m+1)≤help.length):
  (List.range' i (help.length - m - i)).findSome? (fun i=>tryP c help m (i+1) (ws++[nthI help (i:Int)])) =
   match tryP c help m (i+1) (ws++[nthI help (i:Int)]) with
   | some r=>some r
   | none=>(List.range' (i+1) (help.length - m - (i+1))).findSome? fun i=>tryP c help m (i+1) (ws++[nthI help (i:Int)]):=by
 rw [show help.length - m - i=(help.length - m - (i+1))+1 from by omega,List.range'_succ,List.findSome?_cons]
 cases tryP c help m (i+1) (ws++[nthI help (i:Int)]) <;> rfl
theorem AH {h:HF} {q:aC} {j4:fL} {person at_:Int} {help:List Int} {hb:Option Addr} {hc:Nat} {q3 q4 q5 q6 q7:Addr} {bw:Nat} (N:Da h q j4 person at_ help hb hc q3 q4 q5 q6 q7 bw):
  ∀ (m fr:Nat) (ws:List Int) (wb:Option Addr) (wc:Nat) (G:LH),cM Rp.int 3 h ws wb wc G→ws.length+m≤100→fr≤100 →
  nI prog 39 ([Value.int .i64 (fr:Nat),Value.int .i64 (m:Int)]++needClo q3 q4 q5 q6 q7 bw).toArray h (needCell bw wb ws.length wc::G) (needR h bw ws (tryP (needC q person at_) help m fr ws))
 | 0,fr,ws,wb,wc,G,hG,hws,_=>EX N fr ws wb wc G hG ob
 | m+1,fr,ws,wb,wc,G,hG,hws,hfr=>by
  have hle:=N.le
  refine cU FD U ntmps39 U fun X hM hX=>qT 8 U (ad (v':=.bool false) U (by show Value.bool _=_;congr 1) (qO 9 U ?_))
  refine iH (ι:=Option Addr×Nat×LH) (fun i=>[]) (fun i=>h) (fun i=>needCell bw i.1 ws.length i.2.1::i.2.2)
   (fun i=>tryP (needC q person at_) help (m+1) fr ws=none∧cM Rp.int 3 h ws i.1 i.2.1 i.2.2) ?_ (fun hx=>?_)
  ·rintro ⟨b1,c1,G1⟩ ⟨h1,h2⟩ e
   dsimp only at h1 h2
   refine qT 4 U ?_
   refine mG FD (fun a ha w hw=>res1 U a ha w) (fun w hw=>hw.lower) ⟨hX,?_,b1,c1,G1,?_,?_⟩
   ·rw [h1];rfl
   ·rw [h1];exact h2
   rw [h1];rfl
  refine j5 (ι:=Nat×Option Addr×Nat×LH) (fun i=>[(1,I ((m+1:Nat):Int)),(2,.pointer (some ⟨bw,0,none⟩)),(3,.pointer (some q3)),(4,.pointer (some q4)),(5,.pointer (some q5)),(6,.pointer (some q6)),(7,.pointer (some q7)),(12,I (i.1:Int))]) (fun i=>h) (fun i=>needCell bw i.2.1 ws.length i.2.2.1::i.2.2.2)
   (fun i=>i.1≤100∧tryP (needC q person at_) help (m+1) fr ws=(List.range' i.1 (help.length - m - i.1)).findSome? (fun i=>tryP (needC q person at_) help m (i+1) (ws++[nthI help (i:Int)]))∧cM Rp.int 3 h ws i.2.1 i.2.2.1 i.2.2.2)
   (fun i=>101 - i.1) (fr,wb,wc,G) rd (fun w hw=>hw) ⟨hfr,rfl,hG⟩ ?_
  rintro ⟨i,b1,c1,G1⟩ ⟨hi,ht,hG1⟩ ag e
  dsimp only at hi ht hG1
  refine qT 5 U (ad (v':=I ((i+(m+1):Nat):Int)) U (gG ob) (cK ty31 N.a6 U (qL 1 [] U ?_)))
  rcases Nat.lt_or_ge help.length (i+(m+1)) with hlt | hge
  ·refine ad (v':=.bool false) U (cb (decide_eq_false ob)) (qO 3 U (hx (b1,c1,G1) _ ⟨?_,hG1⟩ trivial))
   rw [ht,show help.length - m - i=0 from by omega];rfl
  refine ad (v':=.bool true) U (cb (decide_eq_true ob)) (qO 3 U ?_)
  have hz:0≤(i:Int)∧(i:Int) < (help.length:Int):=by omega
  rw [GL _ _ _ _ _ hge] at ht
  refine qT 2 U ?_
  refine dz (Cr (ι:=Option Addr×Nat×LH) (fun i'=>[(1,I ((m+1:Nat):Int)),(2,.pointer (some ⟨bw,0,none⟩)),(3,.pointer (some q3)),(4,.pointer (some q4)),(5,.pointer (some q5)),(6,.pointer (some q6)),(7,.pointer (some q7)),(12,I (i:Int))])
   (fun i'=>needCell bw i'.1 (ws++[nthI help (i:Int)]).length i'.2.1::i'.2.2) (fun i'=>cM Rp.int 3 h (ws++[nthI help (i:Int)]) i'.1 i'.2.1 i'.2.2) ?_ (fun hk=>?_))
  ·rintro ⟨b2,c2,G2⟩ hG2 e
   dsimp only at hG2
   refine qT 3 U (cK ty90 N.a7 U (aj (ad (v':=I ((i+1:Nat):Int)) U (aL ob) (aj (ad (v':=I (m:Int)) U (by rw [gG ob];congr 1;omega) (aA (vt [] (needCell bw b2 (ws++[nthI help (i:Int)]).length c2::G2) U (kN (args:=[Value.int .i64 ((i+1:Nat):Int),Value.int .i64 (m:Int)]) (cap:=needClo q3 q4 q5 q6 q7 bw) call39 (AH N m (i+1) (ws++[nthI help (i:Int)]) b2 c2 G2 hG2 (by rw [List.length_append,List.length_cons,List.length_nil];omega) ob)) U U (fun v h' B hl hR=>?_) (fun ch h' B hl hR=>by cases hR.2.1))))))))
   obtain ⟨rfl,hv,b3,c3,G3,hG3,rfl⟩:=hR
   cases hv
   rw [List.nil_append]
   cases hr:tryP (needC q person at_) help m (i+1) (ws++[nthI help (i:Int)]) with
   | some r=>
    rw [hr] at hG3 ht
    dsimp only [Option.getD] at hG3
    refine qO 6 U ?_
    refine mG FD (fun a ha w hw=>res1 U a ha w) (fun w hw=>hw.lower) ⟨hX,?_,b3,c3,G3,?_,?_⟩
    ·rw [ht];rfl
    ·rw [ht];exact hG3
    rw [ht];rfl
   | none=>
    rw [hr] at hG3 ht
    dsimp only [Option.getD] at hG3
    refine qO 3 U ?_
    have hlen:(ws++[nthI help (i:Int)]).length=ws.length+1:=by simp
    have htk:(ws++[nthI help (i:Int)]).take (ws.length:Int).toNat=ws:=by simp
    refine qK 4 [0,0] U (ad (v':=I (ws.length:Int)) U (by dsimp only [Option.getD];rw [gG ob];congr 1;omega) (aA (DG (z:=(ws.length:Int)) cQ ty3 hG3 ob U U U ?_)))
    have hG4:=hG3.take (ws.length:Int).toNat
    rw [htk] at hG4 ⊢
    exact dw 0 ty31 U U U U U U (qO 4 U (ad (v':=I ((i+1:Nat):Int)) U (aL ob) (an (ag (i+1,b3,c3,G3) _ (by show 101 - (i+1) < 101 - i;omega) ⟨by show i+1≤100;omega,ht,hG4⟩ rd))))
  refine eB [] mixed kr ⟨HF.le_refl _,fun p hp=>(List.not_mem_nil hp).elim⟩ (fun hsep hj0=>?_)
  refine lG 1 hsep hj0 U U kr U (fun _ _ hj=>eF ty31 (N.a6.mono hj.1) U) (lG 2 hsep hj0 U U kr U (fun _ _ _=>CH) (cD 3 (R:=Rp.int) (enc:=fun x=>[Value.int .i64 x]) hsep hj0 (fun _ _ _ hr=>hr) cQ ty3 N.hh.1 hz (bT hz) U U U U kr (fun qa A5=>lG 4 hsep hj0 U U kr U (fun _ _ hj=>eF ty3 (A5.mono hj.1) U) ?_)))
  refine jq 0 5 kr U U ?_ ?_
  ·refine fu (fI ty31 U (List.mem_cons_self ..) U) (⟨⟨HF.le_refl _,fun p hp=>(List.not_mem_nil hp).elim⟩,tn 5 U (bg (cells:=[I (nthI help (i:Int))]) cQ ty3 zc3 U U kr (fun bs=>⟨⟨HF.le_refl _,fun p hp=>(List.not_mem_nil hp).elim⟩,?_⟩))⟩)
   refine tn 6 U (bS Rp.dF [(bs,.cells [Value.int .i64 (nthI help (i:Int))].toArray 3 (0,0)),needCell bw b1 ws.length c1] [] (fun G'=>[(bs,.cells [Value.int .i64 (nthI help (i:Int))].toArray 3 (0,0)),needCell bw b1 ws.length c1]++([]++G')) (by simp) (fun _=>U) cQ ty3 zc3 U bytes3 hG1 U U
    (du 0 rfl (show aP Rp.int h [I (nthI help (i:Int))] [nthI help (i:Int)] from ⟨[I (nthI help (i:Int))],[],rfl,rfl,rfl,rfl⟩)) lo lo (fun b3 c3 G3 hG3=>?_))
   exact ⟨⟨HF.le_refl _,fun p hp=>(List.not_mem_nil hp).elim⟩,tn 7 U (j9 1 ty31 U U U U U U (⟨⟨HF.le_refl _,fun p hp=>(List.not_mem_nil hp).elim⟩,aI kr (bU (L':=needCell bw b3 (ws++[nthI help (i:Int)]).length c3::G3) js (hk (b3,c3,G3) _ hG3 rd))⟩))⟩
  refine bg (cells:=[I (nthI help (i:Int))]) cQ ty3 zc3 U U kr (fun bs=>⟨⟨HF.le_refl _,fun p hp=>(List.not_mem_nil hp).elim⟩,tn 0 U (fu (fI ty31 U (List.mem_cons_of_mem _ (List.mem_cons_self ..)) U) (⟨⟨HF.le_refl _,fun p hp=>(List.not_mem_nil hp).elim⟩,?_⟩))⟩)
  refine tn 6 U (bS Rp.dF [(bs,.cells [Value.int .i64 (nthI help (i:Int))].toArray 3 (0,0)),needCell bw b1 ws.length c1] [] (fun G'=>[(bs,.cells [Value.int .i64 (nthI help (i:Int))].toArray 3 (0,0)),needCell bw b1 ws.length c1]++([]++G')) (by simp) (fun _=>U) cQ ty3 zc3 U bytes3 hG1 U U
   (du 0 rfl (show aP Rp.int h [I (nthI help (i:Int))] [nthI help (i:Int)] from ⟨[I (nthI help (i:Int))],[],rfl,rfl,rfl,rfl⟩)) lo lo (fun b3 c3 G3 hG3=>?_))
  exact ⟨⟨HF.le_refl _,fun p hp=>(List.not_mem_nil hp).elim⟩,tn 7 U (j9 1 ty31 U U U U U U (⟨⟨HF.le_refl _,fun p hp=>(List.not_mem_nil hp).elim⟩,aI kr (bU (L':=needCell bw b3 (ws++[nthI help (i:Int)]).length c3::G3) js (hk (b3,c3,G3) _ hG3 rd))⟩))⟩
theorem kx (h:HF) (aT:Register) (dt:dH) (doc:Int) (person:Int) (aW:Int) (known:Int) (gD:Register.ok h aT dt) (hsm:smR aT) (hk:Kinds h):
  iq prog 14 [.agg (Register.cells aT dt).toArray,I doc,I person,I aW,I known] h (fun v h'=>∃ (rb0:Option Addr) (rc0:Nat),v=.tuple #[.slice rb0 ((dP aT doc person aW known).1).length rc0,.bool ((dP aT doc person aW known).2.1),I ((dP aT doc person aW known).2.2)]∧SlC Rp.int h' rb0 rc0 ((dP aT doc person aW known).1)):=by
 refine cU Dj U ntmps14 U fun X hM hX=>sr (cA (fun b5=>cA (fun b7=>cA (fun b8=>bH zc31 (fun b10=>qO 6 U (cJ 3 ty30 U U U (ah (v:=I (eH aT)) call26 (sG h aT dt gD hsm hk) U (qO 2 U (j7 U (fun c1=>?_) (fun c1=>?_))))))))))
 ·have e1:dP aT doc person aW known=([],false,300):=by unfold dP;rw [c1];rfl
  rw [e1]
  exact sr (dw 0 ty31 U U U U U U (qO 3 U (fR [.slice none 0 0,.bool false,I 300] Dj U ⟨⟨0,_,_,_,_,U,U,.inr ⟨_,ty31,U⟩⟩,U,U,trivial⟩ ⟨none,0,U,SlC.nil⟩)))
 refine qT 3 U (cJ 3 ty30 U U U (qO 2 U (aA (cf call27 (xY h aT dt doc known gD) U (fun v1 h1 hle1 hp1=>?_)))))
 obtain ⟨rr1,rfl,ok1⟩:=hp1
 refine qO 3 U (bH zc77 (fun b13=>bE 0 ty77 U U U U U U (qO 8 U ?_)))
 refine tq 3 [(7,Q b7),(8,Q b8),(10,Q b10),(13,Q b13),(32,.bool ((!((cG aT doc known).2))||decide (person < 0)))] (fun hk1=>?_) (fun e=>?_)
 ·refine mH 29 U (fun c2=>?_) (fun c2=>?_)
  ·exact kq (dZ U (hk1 _ ⟨U,U,U,U,(cb (Kt c2)),trivial⟩))
  exact qL 3 [3] U (hk1 _ ⟨U,U,U,U,(cb (Ku c2)),trivial⟩)
 refine aj ?_
 refine tq 3 [(7,Q b7),(8,Q b8),(10,Q b10),(13,Q b13),(36,.bool (((!((cG aT doc known).2))||decide (person < 0))||decide (64≤person)))] (fun hk1=>?_) (fun e=>?_)
 ·refine mH 33 U (fun c2=>?_) (fun c2=>?_)
  ·exact kq (dZ U (hk1 _ ⟨U,U,U,U,(cb (Kt c2)),trivial⟩))
  exact qL 3 [3] U (hk1 _ ⟨U,U,U,U,(cb (Ku c2)),trivial⟩)
 refine aj ?_
 refine tq 4 [(7,Q b7),(8,Q b8),(10,Q b10),(13,Q b13),(41,.bool ((((!((cG aT doc known).2))||decide (person < 0))||decide (64≤person))||(!(jp aW))))] (fun hk1=>?_) (fun e=>?_)
 ·refine mH 37 U (fun c2=>?_) (fun c2=>?_)
  ·exact kq (qO 2 U (hk1 _ ⟨U,U,U,U,(cb (Kt c2)),trivial⟩))
  exact qL 1 [2] U (ah (v:=.bool (jp aW)) call37 (wi h1 aW) U (qO 2 U (hk1 _ ⟨U,U,U,U,(cb (Ku c2)),trivial⟩)))
 refine aM (j7 U (fun c3=>?_) (fun c3=>?_))
 ·have e1:dP aT doc person aW known=([],false,1):=by unfold dP;rw [c1,c3];rfl
  rw [e1]
  exact sr (dw 1 ty31 U U U U U U (qO 3 U (fR [.slice none 0 0,.bool false,I 1] Dj U ⟨⟨1,_,_,_,_,U,U,.inr ⟨_,ty31,U⟩⟩,U,U,trivial⟩ ⟨none,0,U,SlC.nil⟩)))
 have a_:=asked (r:=aT) (doc:=doc) (known:=known) (by simpa using c1) (by simp only [Bool.or_eq_false_iff,Bool.not_eq_false'] at c3;exact c3.1.1.1)
 have hsm2:smR (cG aT doc known).1.Register:=by rw [a_.reg];exact hsm
 have hov2:okV (cG aT doc known).1.Register.Versions:=by rw [a_.reg];exact a_.vers.okV
 have hod2:(0≤(cG aT doc known).1.doc.At∧(cG aT doc known).1.doc.At≤1099511627776)∧0≤(cG aT doc known).1.doc.Kind:=⟨⟨a_.doc.at_.1,Int.le_of_lt a_.doc.at_.2⟩,a_.doc.kind.1⟩
 have e0:dP aT doc person aW known=bif decide (12 < ((az (cG aT doc known).1 person aW).length:Int)) then (([],false,2):List Int×Bool×Int)
   else match needLoop (needC (cG aT doc known).1 person aW) (az (cG aT doc known).1 person aW) with
    | some l=>((l,true,0):List Int×Bool×Int)
    | none=>([],false,0):=by unfold dP;rw [c1,c3];rfl
 rw [e0]
 generalize (cG aT doc known).1=q at *
 refine qT 3 U (cJ 0 ty77 U U U (qL 2 [3,2] U (aA (cf call38 (rM h1 q rr1 person aW ok1 hsm2 hov2 hod2 (hk.mono hle1)) U (fun v2 h2 hle2 hp2=>?_)))))
 obtain ⟨hb,hc,rfl,slh⟩:=hp2
 generalize az q person aW=help at *
 refine bH zc31 (fun b14=>dw 0 ty31 U U U U U U (qL 8 [0] U (j7 U (fun c4=>?_) (fun c4=>?_))))
 ·rw [show decide (12 < (help.length:Int))=true from c4,cond_true]
  exact sr (dw 2 ty31 U U U U U U (qO 3 U (fR [.slice none 0 0,.bool false,I 2] Dj U ⟨⟨2,_,_,_,_,U,U,.inr ⟨_,ty31,U⟩⟩,U,U,trivial⟩ ⟨none,0,U,SlC.nil⟩)))
 rw [show decide (12 < (help.length:Int))=false from c4,cond_false]
 have hlen:help.length≤12:=by have:=of_decide_eq_false c4;omega
 refine qT 3 U (bH zc90 (fun b15=>qO 3 U (aA (fX U U (dw 0 ty90 U U U U U U (aM (eM 0 U hM (fun h3 l3 f15=>eM 0 U hM (fun h4 l4 f14=>eM 0 U hM (fun h5 l5 f13=>eM 1 U hM (fun h6 l6 f8=>eM 1 U hM (fun h7 l7 f7=>?_))))))))))))
 have l27:h2.le h7:=HF.le_trans l3 (l4.t (l5.t (l6.t l7)))
 have N:Da h7 q rr1 person aW help hb hc ⟨b7,0,none⟩ ⟨b13,0,none⟩ ⟨b8,0,none⟩ ⟨b14,0,none⟩ ⟨b15,0,none⟩ b10:=
  ⟨ok1.mono (hle2.t l27),dp f7,(dp f13).mono (l6.t l7),(dp f8).mono l7,(dp f14).mono (l5.t (l6.t l7)),
   (dp f15).mono (l4.t (l5.t (l6.t l7))),slh.mono Rp.aK l27,hk.mono (hle1.t (hle2.t l27)),hsm2,hov2,hod2,hlen⟩
 refine bU (L':=[needCell b10 none 0 0]) js (qT 3 U (cK ty31 N.a6 U (qL 1 [] U (ad (v':=I ((help.length+1:Nat):Int)) U (aL ob) (qO 2 U ?_)))))
 refine iH (ι:=Option Addr×Nat×LH) (fun i=>[(10,Q b10)]) (fun i=>h7) (fun i=>needCell b10 i.1 0 i.2.1::i.2.2) (fun i=>needLoop (needC q person aW) help=none) ?_ (fun hx=>?_)
 ·rintro ⟨b1,c1,G1⟩ h1 e
  rw [show needLoop (needC q person aW) help=none from h1]
  exact sr (dw 0 ty31 U U U U U U (qO 3 U (fR [.slice none 0 0,.bool false,I 0] Dj U ⟨⟨0,_,_,_,_,U,U,.inr ⟨_,ty31,U⟩⟩,U,U,trivial⟩ ⟨none,0,U,SlC.nil⟩)))
 refine j5 (ι:=Nat×Option Addr×Nat×LH) (fun i=>[(10,Q b10),(15,Q b15),(52,I ((help.length+1:Nat):Int)),(53,I (i.1:Int))]) (fun i=>h7) (fun i=>needCell b10 i.2.1 0 i.2.2.1::i.2.2.2)
  (fun i=>i.1≤help.length+1∧needLoop (needC q person aW) help=(List.range' i.1 (help.length+1 - i.1)).findSome? (fun many=>tryP (needC q person aW) help many 0 [])∧cM Rp.int 3 h7 [] i.2.1 i.2.2.1 i.2.2.2)
  (fun i=>help.length+1 - i.1) (0,none,0,[]) rd (fun w hw=>hw) ⟨Nat.zero_le _,rfl,cM.nil⟩ ?_
 rintro ⟨i,b1,c1,G1⟩ ⟨hi,ht,hG1⟩ ag e
 dsimp only at hi ht hG1
 rcases Nat.lt_or_ge i (help.length+1) with hlt | hge
 ·refine sr (ad (v':=.bool true) U (cb (decide_eq_true ob)) (qO 13 U (cK ty90 N.a7 U (aj (aA (vt [] (needCell b10 b1 0 c1::G1) U (kN (args:=[Value.int .i64 ((0:Nat):Int),Value.int .i64 (i:Int)]) (cap:=needClo ⟨b7,0,none⟩ ⟨b13,0,none⟩ ⟨b8,0,none⟩ ⟨b14,0,none⟩ ⟨b15,0,none⟩ b10) call39 (AH N i 0 [] b1 c1 G1 hG1 (by rw [List.length_nil];omega) ob)) U U (fun v h' B hl hR=>?_) (fun ch h' B hl hR=>by cases hR.2.1)))))))
  obtain ⟨rfl,hv,b3,c3,G3,hG3,rfl⟩:=hR
  cases hv
  rw [List.nil_append]
  rw [show help.length+1 - i=(help.length+1 - (i+1))+1 from by omega,List.range'_succ,List.findSome?_cons] at ht
  cases hr:tryP (needC q person aW) help i 0 [] with
  | some r=>
   rw [hr] at hG3 ht
   dsimp only [Option.getD] at hG3
   rw [ht]
   exact qL 5 [0] U (dw 0 ty31 U U U U U U (qO 3 U (eI Rp.aK [needCell b10 b3 r.length c3] G3 [] (by rw [List.append_nil];rfl) hM hG3 (fun h9 l9 sl9=>fR [.slice b3 r.length c3,.bool true,I 0] Dj U ⟨⟨0,_,_,_,_,U,U,.inr ⟨_,ty31,U⟩⟩,U,U,trivial⟩ ⟨b3,c3,U,sl9⟩))))
  | none=>
   rw [hr] at hG3 ht
   dsimp only [Option.getD] at hG3
   exact aM (qT 4 U (ad (v':=I ((i+1:Nat):Int)) U (aL ob) (qO 2 U (ag (i+1,b3,c3,G3) _ (by show help.length+1 - (i+1) < help.length+1 - i;omega) ⟨hlt,ht,hG3⟩ rd))))
 have hie:i=help.length+1:=by omega
 subst hie
 refine sr (ad (v':=.bool false) U (cb (decide_eq_false ob)) (qO 4 U (hx (b1,c1,G1) _ ?_ rd)))
 show needLoop _ _=none
 rw [ht];simp
theorem sE (h:HF)   : iq prog 23 [] h (fun v h'=>∃ (rr0:dH),v=.agg (Register.cells (bD) rr0).toArray∧Register.ok h' (bD) rr0):=by
 refine cU func23 U ntmps23 U fun X hM hX=>?_
 have hs0:bD=bD:=rfl
 refine sr (bH zc30 (fun b1=>qO 3 U (aA (er (cells:=[I 2,I 2,I 0,.string (⟨#[104,101,97,100]⟩:ByteArray),.slice none 0 0]) (places:=[(0,1),(1,1),(2,1),(3,1),(4,1)]) underlying66 zc66 kr kr (bH zc66 (fun b2=>bE 0 ty66 U U U U U U (qO 3 U (aA (bg (cells:=[.string (⟨#[107]⟩:ByteArray)]) pS ty9 zc9 U U kr (fun b3=>aA (bg (cells:=[.string (⟨#[104,101,97,100]⟩:ByteArray)]) pS ty9 zc9 U U kr (fun b4=>cJ 2 ty66 U U U (aA (er (cells:=[.string (⟨#[107]⟩:ByteArray),I 0,I 5,I 2,I 2,I 0,.string (⟨#[104,101,97,100]⟩:ByteArray),.slice none 0 0]) (places:=[(0,1),(1,1),(2,1),(3,5)]) underlying107 zc107 kr kr (aA (bg (cells:=[.string (⟨#[107]⟩:ByteArray),I 0,I 5,I 2,I 2,I 0,.string (⟨#[104,101,97,100]⟩:ByteArray),.slice none 0 0]) pc ty107 zc107 U U kr (fun b5=>cJ 3 ty66 U U U (aA (er (cells:=[.string (⟨#[112]⟩:ByteArray),.slice (some ⟨b3,0,none⟩) 1 1,.slice (some ⟨b4,0,none⟩) 1 1,.slice (some ⟨b5,0,none⟩) 1 1,I 2,I 2,I 0,.string (⟨#[104,101,97,100]⟩:ByteArray),.slice none 0 0,I 2]) (places:=[(0,1),(1,1),(2,1),(3,1),(4,5),(9,1)]) FS zc68 kr kr (bH zc68 (fun b6=>bE 0 ty68 U U U U U U (qO 3 U (aA (er (cells:=[I 1,I 0,I 0,I 0,I 1,I 1,.bool false]) (places:=[(0,1),(1,1),(2,1),(3,1),(4,1),(5,1),(6,1)]) FT zc59 kr kr (aA (er (cells:=[I 2,I 0,I 0,I 0,I 2,I 1,.bool false]) (places:=[(0,1),(1,1),(2,1),(3,1),(4,1),(5,1),(6,1)]) FT zc59 kr kr (aA (er (cells:=[I 3,I 20,I 30,I 0,I 3,I 1,.bool false]) (places:=[(0,1),(1,1),(2,1),(3,1),(4,1),(5,1),(6,1)]) FT zc59 kr kr (aA (bg (cells:=[I 1,I 0,I 0,I 0,I 1,I 1,.bool false,I 2,I 0,I 0,I 0,I 2,I 1,.bool false,I 3,I 20,I 30,I 0,I 3,I 1,.bool false]) uv ty59 zc59 U U kr (fun b7=>cJ 1 ty68 U U U (aA (er (cells:=[I 7,I 0,I 0,.string (⟨#[112]⟩:ByteArray),.slice (some ⟨b3,0,none⟩) 1 1,.slice (some ⟨b4,0,none⟩) 1 1,.slice (some ⟨b5,0,none⟩) 1 1,I 2,I 2,I 0,.string (⟨#[104,101,97,100]⟩:ByteArray),.slice none 0 0,I 2]) (places:=[(0,1),(1,1),(2,1),(3,10)]) underlying70 zc70 kr kr ?_)))))))))))))))))))))))))))))))))
 refine bN 4 U hM (fun h1 hle1 hb1=>?_)
 have sl1:SlC Rp.str h1 (some ⟨b3,0,none⟩) 1 ([(⟨#[107]⟩:ByteArray)]):=aP.slB0 (T:=9) (fz:=(0,0)) ((show aP Rp.str h [.string (⟨#[107]⟩:ByteArray)] ([(⟨#[107]⟩:ByteArray)]) from ⟨[.string (⟨#[107]⟩:ByteArray)],[],rfl,rfl,rfl,rfl⟩).mono Rp.gl hle1) hb1
 refine bN 3 U hM (fun h2 hle2 hb2=>?_)
 have sl2:SlC Rp.str h2 (some ⟨b4,0,none⟩) 1 ([(⟨#[104,101,97,100]⟩:ByteArray)]):=aP.slB0 (T:=9) (fz:=(0,0)) ((show aP Rp.str h1 [.string (⟨#[104,101,97,100]⟩:ByteArray)] ([(⟨#[104,101,97,100]⟩:ByteArray)]) from ⟨[.string (⟨#[104,101,97,100]⟩:ByteArray)],[],rfl,rfl,rfl,rfl⟩).mono Rp.gl hle2) hb2
 refine bN 2 U hM (fun h3 hle3 hb3=>?_)
 have sl3:SlC Rule.rp h3 (some ⟨b5,0,none⟩) 1 ([(Rule.mk (⟨#[107]⟩:ByteArray) 0 5 (Expr.mk 2 2 0 (⟨#[104,101,97,100]⟩:ByteArray) ([])))]):=aP.slB0 (T:=107) (fz:=(0,0)) ((show aP Rule.rp h2 [.string (⟨#[107]⟩:ByteArray),I 0,I 5,I 2,I 2,I 0,.string (⟨#[104,101,97,100]⟩:ByteArray),.slice none 0 0] ([(Rule.mk (⟨#[107]⟩:ByteArray) 0 5 (Expr.mk 2 2 0 (⟨#[104,101,97,100]⟩:ByteArray) ([])))]) from ⟨[.string (⟨#[107]⟩:ByteArray),I 0,I 5,I 2,I 2,I 0,.string (⟨#[104,101,97,100]⟩:ByteArray),.slice none 0 0],[],rfl,rfl,⟨(wm.mk (cm.mk none 0)),rfl,((show Rule.ok h (Rule.mk (⟨#[107]⟩:ByteArray) 0 5 (Expr.mk 2 2 0 (⟨#[104,101,97,100]⟩:ByteArray) ([]))) (wm.mk (cm.mk none 0)) from ⟨(show Expr.ok h (Expr.mk 2 2 0 (⟨#[104,101,97,100]⟩:ByteArray) ([])) (cm.mk none 0) from Expr.ok.of SlC.nil)⟩).mono (hle1.t hle2))⟩,rfl⟩).mono Rule.ak hle3) hb3
 refine aA (bg (cells:=[I 7,I 0,I 0,.string (⟨#[112]⟩:ByteArray),.slice (some ⟨b3,0,none⟩) 1 1,.slice (some ⟨b4,0,none⟩) 1 1,.slice (some ⟨b5,0,none⟩) 1 1,I 2,I 2,I 0,.string (⟨#[104,101,97,100]⟩:ByteArray),.slice none 0 0,I 2]) lg ty70 zc70 U U kr (fun b8=>aA (bg (cells:=[I 6]) cQ ty3 zc3 U U kr (fun b9=>aA (er (cells:=[I 4,I 10,I 0,I 0,I 0,I 100,.slice (some ⟨b9,0,none⟩) 1 1,.slice none 0 0,.slice none 0 0,Y 0,Y 0,Y 0,Y 0,Y 0,Y 0,Y 0,Y 0,Y 0,Y 0,Y 0,Y 0,Y 0,Y 0,Y 0,Y 0,Y 0,Y 0,Y 0,Y 0,Y 0,Y 0,Y 0,Y 0,Y 0,Y 0,Y 0,Y 0,Y 0,Y 0,Y 0,Y 0]) (places:=[(0,1),(1,1),(2,1),(3,1),(4,1),(5,1),(6,1),(7,1),(8,1),(9,32)]) underlying52 zc52 kr kr (bN 0 U hM (fun h4 hle4 hb4=>?_)))))))
 have sl4:SlC Rp.int h4 (some ⟨b9,0,none⟩) 1 ([6]):=aP.slB0 (T:=3) (fz:=(0,0)) ((show aP Rp.int h3 [I 6] ([6]) from ⟨[I 6],[],rfl,rfl,rfl,rfl⟩).mono Rp.aK hle4) hb4
 refine aA (bg (cells:=[I 4,I 10,I 0,I 0,I 0,I 100,.slice (some ⟨b9,0,none⟩) 1 1,.slice none 0 0,.slice none 0 0,Y 0,Y 0,Y 0,Y 0,Y 0,Y 0,Y 0,Y 0,Y 0,Y 0,Y 0,Y 0,Y 0,Y 0,Y 0,Y 0,Y 0,Y 0,Y 0,Y 0,Y 0,Y 0,Y 0,Y 0,Y 0,Y 0,Y 0,Y 0,Y 0,Y 0,Y 0,Y 0]) pH ty52 zc52 U U kr (fun b10=>aA (er (cells:=[.slice (some ⟨b7,0,none⟩) 3 3,.slice none 0 0,.slice none 0 0,.slice none 0 0,.slice (some ⟨b8,0,none⟩) 1 1,.slice (some ⟨b10,0,none⟩) 1 1,.slice none 0 0]) (places:=[(0,1),(1,1),(2,1),(3,1),(4,1),(5,1),(6,1)]) FU zc30 kr kr (bE 5 ty30 U U U U U U (aM (eM 2 U hM (fun h5 hle5 hb5=>?_)))))))
 have sl5:SlC Appoint.rp h5 (some ⟨b7,0,none⟩) 3 ([(Appoint.mk 1 0 0 0 1 1 false),(Appoint.mk 2 0 0 0 2 1 false),(Appoint.mk 3 20 30 0 3 1 false)]):=aP.slB0 (T:=59) (fz:=(0,0)) ((show aP Appoint.rp h4 [I 1,I 0,I 0,I 0,I 1,I 1,.bool false,I 2,I 0,I 0,I 0,I 2,I 1,.bool false,I 3,I 20,I 30,I 0,I 3,I 1,.bool false] ([(Appoint.mk 1 0 0 0 1 1 false),(Appoint.mk 2 0 0 0 2 1 false),(Appoint.mk 3 20 30 0 3 1 false)]) from ⟨[I 1,I 0,I 0,I 0,I 1,I 1,.bool false],[I 2,I 0,I 0,I 0,I 2,I 1,.bool false,I 3,I 20,I 30,I 0,I 3,I 1,.bool false],rfl,rfl,rfl,⟨[I 2,I 0,I 0,I 0,I 2,I 1,.bool false],[I 3,I 20,I 30,I 0,I 3,I 1,.bool false],rfl,rfl,rfl,⟨[I 3,I 20,I 30,I 0,I 3,I 1,.bool false],[],rfl,rfl,rfl,rfl⟩⟩⟩).mono Appoint.ak hle5) hb5
 refine eM 1 U hM (fun h6 hle6 hb6=>?_)
 have sl6:SlC Version.rp h6 (some ⟨b8,0,none⟩) 1 ([(Version.mk 7 0 0 (Policy.mk (⟨#[112]⟩:ByteArray) ([(⟨#[107]⟩:ByteArray)]) ([(⟨#[104,101,97,100]⟩:ByteArray)]) ([(Rule.mk (⟨#[107]⟩:ByteArray) 0 5 (Expr.mk 2 2 0 (⟨#[104,101,97,100]⟩:ByteArray) ([])))]) (Expr.mk 2 2 0 (⟨#[104,101,97,100]⟩:ByteArray) ([])) 2))]):=aP.slB0 (T:=70) (fz:=(0,0)) ((show aP Version.rp h5 [I 7,I 0,I 0,.string (⟨#[112]⟩:ByteArray),.slice (some ⟨b3,0,none⟩) 1 1,.slice (some ⟨b4,0,none⟩) 1 1,.slice (some ⟨b5,0,none⟩) 1 1,I 2,I 2,I 0,.string (⟨#[104,101,97,100]⟩:ByteArray),.slice none 0 0,I 2] ([(Version.mk 7 0 0 (Policy.mk (⟨#[112]⟩:ByteArray) ([(⟨#[107]⟩:ByteArray)]) ([(⟨#[104,101,97,100]⟩:ByteArray)]) ([(Rule.mk (⟨#[107]⟩:ByteArray) 0 5 (Expr.mk 2 2 0 (⟨#[104,101,97,100]⟩:ByteArray) ([])))]) (Expr.mk 2 2 0 (⟨#[104,101,97,100]⟩:ByteArray) ([])) 2))]) from ⟨[I 7,I 0,I 0,.string (⟨#[112]⟩:ByteArray),.slice (some ⟨b3,0,none⟩) 1 1,.slice (some ⟨b4,0,none⟩) 1 1,.slice (some ⟨b5,0,none⟩) 1 1,I 2,I 2,I 0,.string (⟨#[104,101,97,100]⟩:ByteArray),.slice none 0 0,I 2],[],rfl,rfl,⟨(lB.mk (dS.mk (some ⟨b3,0,none⟩) 1 (some ⟨b4,0,none⟩) 1 (some ⟨b5,0,none⟩) 1 (cm.mk none 0))),rfl,((show Version.ok h3 (Version.mk 7 0 0 (Policy.mk (⟨#[112]⟩:ByteArray) ([(⟨#[107]⟩:ByteArray)]) ([(⟨#[104,101,97,100]⟩:ByteArray)]) ([(Rule.mk (⟨#[107]⟩:ByteArray) 0 5 (Expr.mk 2 2 0 (⟨#[104,101,97,100]⟩:ByteArray) ([])))]) (Expr.mk 2 2 0 (⟨#[104,101,97,100]⟩:ByteArray) ([])) 2)) (lB.mk (dS.mk (some ⟨b3,0,none⟩) 1 (some ⟨b4,0,none⟩) 1 (some ⟨b5,0,none⟩) 1 (cm.mk none 0))) from ⟨(show Policy.ok h3 (Policy.mk (⟨#[112]⟩:ByteArray) ([(⟨#[107]⟩:ByteArray)]) ([(⟨#[104,101,97,100]⟩:ByteArray)]) ([(Rule.mk (⟨#[107]⟩:ByteArray) 0 5 (Expr.mk 2 2 0 (⟨#[104,101,97,100]⟩:ByteArray) ([])))]) (Expr.mk 2 2 0 (⟨#[104,101,97,100]⟩:ByteArray) ([])) 2) (dS.mk (some ⟨b3,0,none⟩) 1 (some ⟨b4,0,none⟩) 1 (some ⟨b5,0,none⟩) 1 (cm.mk none 0)) from ⟨(sl1.mono Rp.gl (hle2.t hle3)),(sl2.mono Rp.gl hle3),sl3,(show Expr.ok h3 (Expr.mk 2 2 0 (⟨#[104,101,97,100]⟩:ByteArray) ([])) (cm.mk none 0) from Expr.ok.of SlC.nil)⟩)⟩).mono (hle4.t hle5))⟩,rfl⟩).mono Version.ak hle6) hb6
 refine eM 0 U hM (fun h7 hle7 hb7=>?_)
 have sl7:SlC Document.rp h7 (some ⟨b10,0,none⟩) 1 ([(Document.mk 4 10 0 0 0 100 ([6]) ([]) ([]) (fun _=>0))]):=aP.slB0 (T:=52) (fz:=(0,0)) ((show aP Document.rp h6 [I 4,I 10,I 0,I 0,I 0,I 100,.slice (some ⟨b9,0,none⟩) 1 1,.slice none 0 0,.slice none 0 0,Y 0,Y 0,Y 0,Y 0,Y 0,Y 0,Y 0,Y 0,Y 0,Y 0,Y 0,Y 0,Y 0,Y 0,Y 0,Y 0,Y 0,Y 0,Y 0,Y 0,Y 0,Y 0,Y 0,Y 0,Y 0,Y 0,Y 0,Y 0,Y 0,Y 0,Y 0,Y 0] ([(Document.mk 4 10 0 0 0 100 ([6]) ([]) ([]) (fun _=>0))]) from ⟨[I 4,I 10,I 0,I 0,I 0,I 100,.slice (some ⟨b9,0,none⟩) 1 1,.slice none 0 0,.slice none 0 0,Y 0,Y 0,Y 0,Y 0,Y 0,Y 0,Y 0,Y 0,Y 0,Y 0,Y 0,Y 0,Y 0,Y 0,Y 0,Y 0,Y 0,Y 0,Y 0,Y 0,Y 0,Y 0,Y 0,Y 0,Y 0,Y 0,Y 0,Y 0,Y 0,Y 0,Y 0,Y 0],[],rfl,rfl,⟨(gE.mk (some ⟨b9,0,none⟩) 1 none 0 none 0),rfl,((show Document.ok h4 (Document.mk 4 10 0 0 0 100 ([6]) ([]) ([]) (fun _=>0)) (gE.mk (some ⟨b9,0,none⟩) 1 none 0 none 0) from ⟨sl4,SlC.nil,SlC.nil⟩).mono (hle5.t hle6))⟩,rfl⟩).mono Document.ak hle7) hb7
 have hs1:bD=(Register.mk ([(Appoint.mk 1 0 0 0 1 1 false),(Appoint.mk 2 0 0 0 2 1 false),(Appoint.mk 3 20 30 0 3 1 false)]) ([]) ([]) ([]) ([(Version.mk 7 0 0 (Policy.mk (⟨#[112]⟩:ByteArray) ([(⟨#[107]⟩:ByteArray)]) ([(⟨#[104,101,97,100]⟩:ByteArray)]) ([(Rule.mk (⟨#[107]⟩:ByteArray) 0 5 (Expr.mk 2 2 0 (⟨#[104,101,97,100]⟩:ByteArray) ([])))]) (Expr.mk 2 2 0 (⟨#[104,101,97,100]⟩:ByteArray) ([])) 2))]) ([(Document.mk 4 10 0 0 0 100 ([6]) ([]) ([]) (fun _=>0))]) ([])):=hs0
 exact fR [.agg (List.toArray [.slice (some ⟨b7,0,none⟩) 3 3,.slice none 0 0,.slice none 0 0,.slice none 0 0,.slice (some ⟨b8,0,none⟩) 1 1,.slice (some ⟨b10,0,none⟩) 1 1,.slice none 0 0])] func23 U ⟨⟨2,_,_,_,_,U,U,.inl ⟨ty30,U⟩⟩,trivial⟩ ⟨(dH.mk (some ⟨b7,0,none⟩) 3 none 0 none 0 none 0 (some ⟨b8,0,none⟩) 1 (some ⟨b10,0,none⟩) 1 none 0),congrArg (fun r:Register=>(.agg (Register.cells r (dH.mk (some ⟨b7,0,none⟩) 3 none 0 none 0 none 0 (some ⟨b8,0,none⟩) 1 (some ⟨b10,0,none⟩) 1 none 0)).toArray:Value)) hs1.symm,(by rw [hs1];exact (show Register.ok h7 (Register.mk ([(Appoint.mk 1 0 0 0 1 1 false),(Appoint.mk 2 0 0 0 2 1 false),(Appoint.mk 3 20 30 0 3 1 false)]) ([]) ([]) ([]) ([(Version.mk 7 0 0 (Policy.mk (⟨#[112]⟩:ByteArray) ([(⟨#[107]⟩:ByteArray)]) ([(⟨#[104,101,97,100]⟩:ByteArray)]) ([(Rule.mk (⟨#[107]⟩:ByteArray) 0 5 (Expr.mk 2 2 0 (⟨#[104,101,97,100]⟩:ByteArray) ([])))]) (Expr.mk 2 2 0 (⟨#[104,101,97,100]⟩:ByteArray) ([])) 2))]) ([(Document.mk 4 10 0 0 0 100 ([6]) ([]) ([]) (fun _=>0))]) ([])) (dH.mk (some ⟨b7,0,none⟩) 3 none 0 none 0 none 0 (some ⟨b8,0,none⟩) 1 (some ⟨b10,0,none⟩) 1 none 0) from ⟨(sl5.mono Appoint.ak (hle6.t hle7)),SlC.nil,SlC.nil,SlC.nil,(sl6.mono Version.ak hle7),sl7,SlC.nil⟩))⟩
theorem uB (h:HF) (a:List Span) (Jd:Option Addr) (Jc:Nat) (gR:List Span) (sZ:Option Addr) (sY:Nat) (ha:SlC Span.rp h Jd Jc a) (rK:SlC Span.rp h sZ sY gR):Ret prog 12 [.slice Jd a.length Jc,.slice sZ gR.length sY] h (.bool (fC a gR)):=by
 refine sT func12 U ntmps12 U fun X hM hX hF=>?_
 have hs0:fC a gR=fC a gR:=rfl
 refine qK 13 [] U (ac hs0 U (fun c1 hs1=>?_) (fun c1 hs2=>?_))
 ·exact sr (an (nretP [.bool false] (cs hs1)))
 refine qT 6 U ?_
 refine lp0 a (fun i=>[(0,.slice Jd a.length Jc),(1,.slice sZ gR.length sY),(5,I (i:Int))]) ([]) (fun s1 i=>(fC.L1 gR (fC.K1)) s1 i) ha.1.1 hs2 ?_ ?_ ?_
 ·rintro i1 et hs4 e
  exact sr (an (nretP [.bool true] (cs hs4)))
 ·rintro i1 y1 rz1 hd1 cw ao dy fB hs6 hx1 ag1 e
  refine qK 6 [] U (ad (v':=.bool true) U (cb cw) (qO 6 U (eB ([]) mixed kr jn (fun cB _=>qA [0,1] U (cD 2 (enc:=Span.cells) cB jn ei xg ty46 ha.1 (nthZ ao) (au ao) U U U U kr (fun q3 A3=>tf 3 U U (fun _ _ hj=>iQ ty46 (A3.mono hj.1) U U) (qA [4,5] U ?_)))))))
  have ho2:0≤((i1:Int):Int)∧((i1:Int):Int) < ((gR).length:Int):=ob
  refine cD 6 (enc:=Span.cells) cB jn ei xg ty46 rK.1 ho2 (bT ho2) U U U U kr (fun q4 A4=>tf 7 U U (fun _ _ hj=>iQ ty46 (A4.mono hj.1) U U) (tf 8 U U (fun _ _ _=>KX (I3 y1 (nthI gR (i1:Int))) eqg46 U U) (aI kr (ac hs6 U (fun c3 hs7=>?_) (fun c3 hs8=>?_)))))
  ·exact sr (an (nretP [.bool false] (cs hs7)))
  exact aE (qT 3 U (ad (v':=I (((i1+1):Nat):Int)) U (aL ob) (an (ag1 hs8))))
 rintro i1 hd1 eG hx e
 exact qK 6 [] U (ad (v':=.bool false) U (cb eG) (qO 3 U (hx _ rd)))
theorem jG (h:HF) (aT:Register) (dt:dH) (known:Int) (who:List Int) (dU:Option Addr) (dT:Nat) (want:List Span) (Hr:Option Addr) (Hq:Nat) (gD:Register.ok h aT dt) (hwho:SlC Rp.int h dU dT who) (hwant:SlC Span.rp h Hr Hq want) (hsm:smR aT) (hsw:who.length≤2000000) (hk:Kinds h):Ret prog 24 [.agg (Register.cells aT dt).toArray,I known,.slice dU who.length dT,.slice Hr want.length Hq] h (.bool (sD aT known who want)):=by
 refine sT func24 U ntmps24 U fun X hM hX hF=>?_
 have hs0:sD aT known who want=sD aT known who want:=rfl
 refine sr (cA (fun b1=>qO 4 U (cJ 0 ty30 U U U (qO 2 U (aA (cf Hx (nn _ _ _ 4 _ _ _ known gD hwho ob ob hk) U (fun v1 h1 hle1 hp1=>?_)))))))
 obtain ⟨rb1,rc1,rfl,sl1⟩:=hp1
 refine qO 11 U (bx 4 [20,21,22,23,24] 20 24 (fC ((eW aT 4 who known).1) want) U (fun c1 hk1=>?_) (fun e=>?_))
 ·exact aj (aj (ah call12 (uB _ _ _ _ _ _ _ sl1 (hwant.mono Span.ak hle1)) U (dZ U (hk1 _ U))))
 exact an (nretP [.bool (((eW aT 4 who known).2==0)&&(fC ((eW aT 4 who known).1) want))] (cs hs0))
theorem AZ (h:HF)  (hk:Kinds h):Ret prog 8 [] h (.bool (oE)):=by
 refine sT func8 U ntmps8 U fun X hM hX hF=>?_
 have hs0:oE=oE:=rfl
 refine qT 6 U (aA (cf call23 (sE h) U (fun v1 h1 hle1 hp1=>?_)))
 obtain ⟨rr1,rfl,ok1⟩:=hp1
 refine bH zc30 (fun b1=>bE 0 ty30 U U U U U U (qO 3 U (aA (er (cells:=[.slice none 0 0,.slice none 0 0,.slice none 0 0,.slice none 0 0,.slice none 0 0,.slice none 0 0,.slice none 0 0]) (places:=[(0,1),(1,1),(2,1),(3,1),(4,1),(5,1),(6,1)]) FU zc30 kr kr (aA (cf Hx (nn h1 (Register.mk ([]) ([]) ([]) ([]) ([]) ([]) ([])) (dH.mk none 0 none 0 none 0 none 0 none 0 none 0 none 0) 0 ([]) none 0 0 (show Register.ok h1 (Register.mk ([]) ([]) ([]) ([]) ([]) ([]) ([])) (dH.mk none 0 none 0 none 0 none 0 none 0 none 0 none 0) from ⟨SlC.nil,SlC.nil,SlC.nil,SlC.nil,SlC.nil,SlC.nil,SlC.nil⟩) SlC.nil mm ob (hk.mono hle1)) U (fun v2 h2 hle2 hp2=>?_)))))))
 rw [show (eW (Register.mk ([]) ([]) ([]) ([]) ([]) ([]) ([])) 0 ([]) 0)=([],1) from by kernel_rfl] at hp2
 obtain ⟨rb1,rc1,rfl,sl1⟩:=hp2
 refine qO 8 U (aA (er (cells:=[.slice none 0 0,.slice none 0 0,.slice none 0 0,.slice none 0 0,.slice none 0 0,.slice none 0 0,.slice none 0 0]) (places:=[(0,1),(1,1),(2,1),(3,1),(4,1),(5,1),(6,1)]) FU zc30 kr kr (aA (cf Di (kx h2 (Register.mk ([]) ([]) ([]) ([]) ([]) ([]) ([])) (dH.mk none 0 none 0 none 0 none 0 none 0 none 0 none 0) 0 0 0 0 (show Register.ok h2 (Register.mk ([]) ([]) ([]) ([]) ([]) ([]) ([])) (dH.mk none 0 none 0 none 0 none 0 none 0 none 0 none 0) from ⟨SlC.nil,SlC.nil,SlC.nil,SlC.nil,SlC.nil,SlC.nil,SlC.nil⟩) mm (hk.mono (hle1.t hle2))) U (fun v3 h3 hle3 hp3=>?_)))))
 rw [show (dP (Register.mk ([]) ([]) ([]) ([]) ([]) ([]) ([])) 0 0 0 0)=([],false,1) from by kernel_rfl] at hp3
 obtain ⟨rb2,rc2,rfl,sl2⟩:=hp3
 refine qO 10 U (aA (er (cells:=[I 0,I 0,I 0,I 0,I 0,I 0,.bool false]) (places:=[(0,1),(1,1),(2,1),(3,1),(4,1),(5,1),(6,1)]) FT zc59 kr kr (aA (bg (cells:=[I 0,I 0,I 0,I 0,I 0,I 0,.bool false]) uv ty59 zc59 U U kr (fun b2=>aA (er (cells:=[.slice (some ⟨b2,0,none⟩) 1 1,.slice none 0 0,.slice none 0 0,.slice none 0 0,.slice none 0 0,.slice none 0 0,.slice none 0 0]) (places:=[(0,1),(1,1),(2,1),(3,1),(4,1),(5,1),(6,1)]) FU zc30 kr kr (bN 0 U hM (fun h4 hle4 hb1=>?_))))))))
 have sl3:SlC Appoint.rp h4 (some ⟨b2,0,none⟩) 1 ([(Appoint.mk 0 0 0 0 0 0 false)]):=aP.slB0 (T:=59) (fz:=(0,0)) ((show aP Appoint.rp h3 [I 0,I 0,I 0,I 0,I 0,I 0,.bool false] ([(Appoint.mk 0 0 0 0 0 0 false)]) from ⟨[I 0,I 0,I 0,I 0,I 0,I 0,.bool false],[],rfl,rfl,rfl,rfl⟩).mono Appoint.ak hle4) hb1
 refine aA (cf Hx (nn h4 (Register.mk ([(Appoint.mk 0 0 0 0 0 0 false)]) ([]) ([]) ([]) ([]) ([]) ([])) (dH.mk (some ⟨b2,0,none⟩) 1 none 0 none 0 none 0 none 0 none 0 none 0) 0 ([]) none 0 0 (show Register.ok h4 (Register.mk ([(Appoint.mk 0 0 0 0 0 0 false)]) ([]) ([]) ([]) ([]) ([]) ([])) (dH.mk (some ⟨b2,0,none⟩) 1 none 0 none 0 none 0 none 0 none 0 none 0) from ⟨sl3,SlC.nil,SlC.nil,SlC.nil,SlC.nil,SlC.nil,SlC.nil⟩) SlC.nil mm ob (hk.mono (((hle1.t hle2).t hle3).t hle4))) U (fun v4 h5 hle5 hp4=>?_))
 rw [show (eW (Register.mk ([(Appoint.mk 0 0 0 0 0 0 false)]) ([]) ([]) ([]) ([]) ([]) ([])) 0 ([]) 0)=([],300) from by kernel_rfl] at hp4
 obtain ⟨rb3,rc3,rfl,sl4⟩:=hp4
 refine qO 8 U (cJ 0 ty30 U U U (aA (bg (cells:=[I 2,I 1]) cQ ty3 zc3 U U kr (fun b3=>bN 0 U hM (fun h6 hle6 hb2=>?_)))))
 have sl5:SlC Rp.int h6 (some ⟨b3,0,none⟩) 2 ([2,1]):=aP.slB0 (T:=3) (fz:=(0,0)) ((show aP Rp.int h5 [I 2,I 1] ([2,1]) from ⟨[I 2],[I 1],rfl,rfl,rfl,⟨[I 1],[],rfl,rfl,rfl,rfl⟩⟩).mono Rp.aK hle6) hb2
 refine aA (cf Hx (nn h6 bD rr1 4 ([2,1]) (some ⟨b3,0,none⟩) 2 0 (ok1.mono ((((hle2.t hle3).t hle4).t hle5).t hle6)) sl5 mm ob (hk.mono (((((hle1.t hle2).t hle3).t hle4).t hle5).t hle6))) U (fun v5 h7 hle7 hp5=>?_))
 rw [show (eW bD 4 ([2,1]) 0)=([],1) from by kernel_rfl] at hp5
 obtain ⟨rb4,rc4,rfl,sl6⟩:=hp5
 refine qO 8 U (cJ 0 ty30 U U U (aA (cf Di (kx h7 bD rr1 4 3 20 30 (ok1.mono (((((hle2.t hle3).t hle4).t hle5).t hle6).t hle7)) mm (hk.mono ((((((hle1.t hle2).t hle3).t hle4).t hle5).t hle6).t hle7))) U (fun v6 h8 hle8 hp6=>?_))))
 rw [show (dP bD 4 3 20 30)=([1],true,0) from by kernel_rfl] at hp6
 obtain ⟨rb5,rc5,rfl,sl7⟩:=hp6
 refine qO 10 U (cJ 0 ty30 U U U (aA (cf Di (kx h8 bD rr1 4 3 20 29 (ok1.mono ((((((hle2.t hle3).t hle4).t hle5).t hle6).t hle7).t hle8)) mm (hk.mono (((((((hle1.t hle2).t hle3).t hle4).t hle5).t hle6).t hle7).t hle8))) U (fun v7 h9 hle9 hp7=>?_))))
 rw [show (dP bD 4 3 20 29)=([1,2],true,0) from by kernel_rfl] at hp7
 obtain ⟨rb6,rc6,rfl,sl8⟩:=hp7
 refine qO 10 U (cJ 0 ty30 U U U (aA (cf Di (kx h9 bD rr1 4 1 14 30 (ok1.mono (((((((hle2.t hle3).t hle4).t hle5).t hle6).t hle7).t hle8).t hle9)) mm (hk.mono ((((((((hle1.t hle2).t hle3).t hle4).t hle5).t hle6).t hle7).t hle8).t hle9))) U (fun v8 h10 hle10 hp8=>?_))))
 rw [show (dP bD 4 1 14 30)=([],false,0) from by kernel_rfl] at hp8
 obtain ⟨rb7,rc7,rfl,sl9⟩:=hp8
 refine qO 10 U (cJ 0 ty30 U U U (aA (cf Di (kx h10 bD rr1 4 1 15 30 (ok1.mono ((((((((hle2.t hle3).t hle4).t hle5).t hle6).t hle7).t hle8).t hle9).t hle10)) mm (hk.mono (((((((((hle1.t hle2).t hle3).t hle4).t hle5).t hle6).t hle7).t hle8).t hle9).t hle10))) U (fun v9 h11 hle11 hp9=>?_))))
 rw [show (dP bD 4 1 15 30)=([2],true,0) from by kernel_rfl] at hp9
 obtain ⟨rb8,rc8,rfl,sl10⟩:=hp9
 refine qL 67 [] U ?_
 have ho1:0≤(0:Int)∧(0:Int) < (([1]).length:Int):=(by decide)
 refine aA (ek (enc:=fun y=>[I y]) ei cQ ty3 (sl7.mono Rp.aK ((hle9.t hle10).t hle11)).1 ho1 (bT ho1) U U U (fun q1 A1=>cK ty3 A1 U (qL 9 [] U ?_)))
 have ho2:0≤(0:Int)∧(0:Int) < (([2]).length:Int):=(by decide)
 refine aA (ek (enc:=fun y=>[I y]) ei cQ ty3 sl10.1 ho2 (bT ho2) U U U (fun q2 A2=>cK ty3 A2 U (qL 9 [] U ?_)))
 have ho3:0≤(0:Int)∧(0:Int) < (([1,2]).length:Int):=(by decide)
 refine aA (ek (enc:=fun y=>[I y]) ei cQ ty3 (sl8.mono Rp.aK (hle10.t hle11)).1 ho3 (bT ho3) U U U (fun q3 A3=>cK ty3 A3 U (qO 4 U ?_)))
 have ho4:0≤(1:Int)∧(1:Int) < (([1,2]).length:Int):=(by decide)
 refine aA (ek (enc:=fun y=>[I y]) ei cQ ty3 (sl8.mono Rp.aK (hle10.t hle11)).1 ho4 (bT ho4) U U U (fun q4 A4=>cK ty3 A4 U (qO 7 U (aA (er (cells:=[I 15,I 100]) (places:=[(0,1),(1,1)]) Bt zc46 kr kr (bH zc46 (fun b4=>bE 0 ty46 U U U U U U (qO 4 U (cJ 1 ty30 U U U (aA (bg (cells:=[I 1,I 2]) cQ ty3 zc3 U U kr (fun b5=>cJ 1 ty46 U U U (aA (bg (cells:=[I 15,I 100]) xg ty46 zc46 U U kr (fun b6=>bN 1 U hM (fun h12 hle12 hb3=>?_))))))))))))))))
 have sl11:SlC Rp.int h12 (some ⟨b5,0,none⟩) 2 ([1,2]):=aP.slB0 (T:=3) (fz:=(0,0)) ((show aP Rp.int h11 [I 1,I 2] ([1,2]) from ⟨[I 1],[I 2],rfl,rfl,rfl,⟨[I 2],[],rfl,rfl,rfl,rfl⟩⟩).mono Rp.aK hle12) hb3
 refine bN 0 U hM (fun h13 hle13 hb4=>?_)
 have sl12:SlC Span.rp h13 (some ⟨b6,0,none⟩) 1 ([(Span.mk 15 100)]):=aP.slB0 (T:=46) (fz:=(0,0)) ((show aP Span.rp h12 [I 15,I 100] ([(Span.mk 15 100)]) from ⟨[I 15,I 100],[],rfl,rfl,rfl,rfl⟩).mono Span.ak hle13) hb4
 refine ah (v:=.bool true) Bp (uA (jG h13 bD rr1 0 ([1,2]) (some ⟨b5,0,none⟩) 2 ([(Span.mk 15 100)]) (some ⟨b6,0,none⟩) 1 (ok1.mono (((((((((((hle2.t hle3).t hle4).t hle5).t hle6).t hle7).t hle8).t hle9).t hle10).t hle11).t hle12).t hle13)) (sl11.mono Rp.aK hle13) sl12 mm ob (hk.mono ((((((((((((hle1.t hle2).t hle3).t hle4).t hle5).t hle6).t hle7).t hle8).t hle9).t hle10).t hle11).t hle12).t hle13))) kr) U (qO 2 U (cJ 1 ty30 U U U (aA (bg (cells:=[I 1,I 3]) cQ ty3 zc3 U U kr (fun b7=>aA (er (cells:=[I 20,I 100]) (places:=[(0,1),(1,1)]) Bt zc46 kr kr (aA (bg (cells:=[I 20,I 100]) xg ty46 zc46 U U kr (fun b8=>bN 1 U hM (fun h14 hle14 hb5=>?_))))))))))
 have sl13:SlC Rp.int h14 (some ⟨b7,0,none⟩) 2 ([1,3]):=aP.slB0 (T:=3) (fz:=(0,0)) ((show aP Rp.int h13 [I 1,I 3] ([1,3]) from ⟨[I 1],[I 3],rfl,rfl,rfl,⟨[I 3],[],rfl,rfl,rfl,rfl⟩⟩).mono Rp.aK hle14) hb5
 refine bN 0 U hM (fun h15 hle15 hb6=>?_)
 have sl14:SlC Span.rp h15 (some ⟨b8,0,none⟩) 1 ([(Span.mk 20 100)]):=aP.slB0 (T:=46) (fz:=(0,0)) ((show aP Span.rp h14 [I 20,I 100] ([(Span.mk 20 100)]) from ⟨[I 20,I 100],[],rfl,rfl,rfl,rfl⟩).mono Span.ak hle15) hb6
 refine ah (v:=.bool true) Bp (uA (jG h15 bD rr1 30 ([1,3]) (some ⟨b7,0,none⟩) 2 ([(Span.mk 20 100)]) (some ⟨b8,0,none⟩) 1 (ok1.mono (((((((((((((hle2.t hle3).t hle4).t hle5).t hle6).t hle7).t hle8).t hle9).t hle10).t hle11).t hle12).t hle13).t hle14).t hle15)) (sl13.mono Rp.aK hle15) sl14 mm ob (hk.mono ((((((((((((((hle1.t hle2).t hle3).t hle4).t hle5).t hle6).t hle7).t hle8).t hle9).t hle10).t hle11).t hle12).t hle13).t hle14).t hle15))) kr) U (qO 3 U (cJ 1 ty30 U U U (aA (bg (cells:=[I 1,I 3]) cQ ty3 zc3 U U kr (fun b9=>bN 0 U hM (fun h16 hle16 hb7=>?_))))))
 have sl15:SlC Rp.int h16 (some ⟨b9,0,none⟩) 2 ([1,3]):=aP.slB0 (T:=3) (fz:=(0,0)) ((show aP Rp.int h15 [I 1,I 3] ([1,3]) from ⟨[I 1],[I 3],rfl,rfl,rfl,⟨[I 3],[],rfl,rfl,rfl,rfl⟩⟩).mono Rp.aK hle16) hb7
 refine ah (v:=.bool true) Bp (uA (jG h16 bD rr1 29 ([1,3]) (some ⟨b9,0,none⟩) 2 ([]) none 0 (ok1.mono ((((((((((((((hle2.t hle3).t hle4).t hle5).t hle6).t hle7).t hle8).t hle9).t hle10).t hle11).t hle12).t hle13).t hle14).t hle15).t hle16)) sl15 SlC.nil mm ob (hk.mono (((((((((((((((hle1.t hle2).t hle3).t hle4).t hle5).t hle6).t hle7).t hle8).t hle9).t hle10).t hle11).t hle12).t hle13).t hle14).t hle15).t hle16))) kr) U (qO 3 U (cJ 1 ty30 U U U (aA (bg (cells:=[I 9]) cQ ty3 zc3 U U kr (fun b10=>bN 0 U hM (fun h17 hle17 hb8=>?_))))))
 have sl16:SlC Rp.int h17 (some ⟨b10,0,none⟩) 1 ([9]):=aP.slB0 (T:=3) (fz:=(0,0)) ((show aP Rp.int h16 [I 9] ([9]) from ⟨[I 9],[],rfl,rfl,rfl,rfl⟩).mono Rp.aK hle17) hb8
 refine ah (v:=.bool true) Bp (uA (jG h17 bD rr1 0 ([9]) (some ⟨b10,0,none⟩) 1 ([]) none 0 (ok1.mono (((((((((((((((hle2.t hle3).t hle4).t hle5).t hle6).t hle7).t hle8).t hle9).t hle10).t hle11).t hle12).t hle13).t hle14).t hle15).t hle16).t hle17)) sl16 SlC.nil mm ob (hk.mono ((((((((((((((((hle1.t hle2).t hle3).t hle4).t hle5).t hle6).t hle7).t hle8).t hle9).t hle10).t hle11).t hle12).t hle13).t hle14).t hle15).t hle16).t hle17))) kr) U (qO 3 U (cJ 1 ty30 U U U (ah (v:=.bool true) Bp (uA (jG h17 bD rr1 0 ([]) none 0 ([]) none 0 (ok1.mono (((((((((((((((hle2.t hle3).t hle4).t hle5).t hle6).t hle7).t hle8).t hle9).t hle10).t hle11).t hle12).t hle13).t hle14).t hle15).t hle16).t hle17)) SlC.nil SlC.nil mm ob (hk.mono ((((((((((((((((hle1.t hle2).t hle3).t hle4).t hle5).t hle6).t hle7).t hle8).t hle9).t hle10).t hle11).t hle12).t hle13).t hle14).t hle15).t hle16).t hle17))) kr) U (qO 7 U (aA (er (cells:=[I 1,I 40,I 0,I 2,I 6,.bool false,.bool false]) (places:=[(0,1),(1,1),(2,1),(3,1),(4,1),(5,1),(6,1)]) HO zc61 kr kr (aA (er (cells:=[I 2,I 50,I 0,I 2,I 6,.bool false,.bool true]) (places:=[(0,1),(1,1),(2,1),(3,1),(4,1),(5,1),(6,1)]) HO zc61 kr kr (aA (bg (cells:=[I 1,I 40,I 0,I 2,I 6,.bool false,.bool false,I 2,I 50,I 0,I 2,I 6,.bool false,.bool true]) ml ty61 zc61 U U kr (fun b11=>qL 1 [] U (dw 2 ty24 U U U U U U (qO 3 U (aA (cf call23 (sE h17) U (fun v10 h18 hle18 hp10=>?_))))))))))))))))
 obtain ⟨rr2,rfl,ok2⟩:=hp10
 refine bH zc30 (fun b12=>bE 0 ty30 U U U U U U (qL 4 [] U (dw 0 ty26 U U U U U U (qO 3 U (cJ 3 ty30 U U U (aA (bg (cells:=[I 1,I 2]) cQ ty3 zc3 U U kr (fun b13=>aA (er (cells:=[I 15,I 40]) (places:=[(0,1),(1,1)]) Bt zc46 kr kr (aA (er (cells:=[I 50,I 100]) (places:=[(0,1),(1,1)]) Bt zc46 kr kr (aA (bg (cells:=[I 15,I 40,I 50,I 100]) xg ty46 zc46 U U kr (fun b14=>bN 3 U hM (fun h19 hle19 hb9=>?_)))))))))))))))
 have sl17:SlC Interest.rp h19 (some ⟨b11,0,none⟩) 2 ([(Interest.mk 1 40 0 2 6 false false),(Interest.mk 2 50 0 2 6 false true)]):=aP.slB0 (T:=61) (fz:=(0,0)) ((show aP Interest.rp h18 [I 1,I 40,I 0,I 2,I 6,.bool false,.bool false,I 2,I 50,I 0,I 2,I 6,.bool false,.bool true] ([(Interest.mk 1 40 0 2 6 false false),(Interest.mk 2 50 0 2 6 false true)]) from ⟨[I 1,I 40,I 0,I 2,I 6,.bool false,.bool false],[I 2,I 50,I 0,I 2,I 6,.bool false,.bool true],rfl,rfl,rfl,⟨[I 2,I 50,I 0,I 2,I 6,.bool false,.bool true],[],rfl,rfl,rfl,rfl⟩⟩).mono Interest.ak hle19) hb9
 refine bN 1 U hM (fun h20 hle20 hb10=>?_)
 have sl18:SlC Rp.int h20 (some ⟨b13,0,none⟩) 2 ([1,2]):=aP.slB0 (T:=3) (fz:=(0,0)) ((show aP Rp.int h19 [I 1,I 2] ([1,2]) from ⟨[I 1],[I 2],rfl,rfl,rfl,⟨[I 2],[],rfl,rfl,rfl,rfl⟩⟩).mono Rp.aK hle20) hb10
 refine bN 0 U hM (fun h21 hle21 hb11=>?_)
 have sl19:SlC Span.rp h21 (some ⟨b14,0,none⟩) 2 ([(Span.mk 15 40),(Span.mk 50 100)]):=aP.slB0 (T:=46) (fz:=(0,0)) ((show aP Span.rp h20 [I 15,I 40,I 50,I 100] ([(Span.mk 15 40),(Span.mk 50 100)]) from ⟨[I 15,I 40],[I 50,I 100],rfl,rfl,rfl,⟨[I 50,I 100],[],rfl,rfl,rfl,rfl⟩⟩).mono Span.ak hle21) hb11
 refine ah (v:=.bool true) Bp (uA (jG h21 (Register.mk bD.Appoints bD.Deputies ([(Interest.mk 1 40 0 2 6 false false),(Interest.mk 2 50 0 2 6 false true)]) bD.Budgets bD.Versions bD.Docs bD.Approvals) (dH.mk rr1.kK rr1.kJ rr1.lF rr1.lE (some ⟨b11,0,none⟩) 2 rr1.mD rr1.mC rr1.kI rr1.kH rr1.s9 rr1.s8 rr1.kB rr1.kA) 0 ([1,2]) (some ⟨b13,0,none⟩) 2 ([(Span.mk 15 40),(Span.mk 50 100)]) (some ⟨b14,0,none⟩) 2 (show Register.ok h21 (Register.mk bD.Appoints bD.Deputies ([(Interest.mk 1 40 0 2 6 false false),(Interest.mk 2 50 0 2 6 false true)]) bD.Budgets bD.Versions bD.Docs bD.Approvals) (dH.mk rr1.kK rr1.kJ rr1.lF rr1.lE (some ⟨b11,0,none⟩) 2 rr1.mD rr1.mC rr1.kI rr1.kH rr1.s9 rr1.s8 rr1.kB rr1.kA) from ⟨(ok1.Appoints.mono Appoint.ak (((((((((((((((((((hle2.t hle3).t hle4).t hle5).t hle6).t hle7).t hle8).t hle9).t hle10).t hle11).t hle12).t hle13).t hle14).t hle15).t hle16).t hle17).t hle18).t hle19).t hle20).t hle21)),(ok1.Deputies.mono Deputy.ak (((((((((((((((((((hle2.t hle3).t hle4).t hle5).t hle6).t hle7).t hle8).t hle9).t hle10).t hle11).t hle12).t hle13).t hle14).t hle15).t hle16).t hle17).t hle18).t hle19).t hle20).t hle21)),(sl17.mono Interest.ak (hle20.t hle21)),(ok1.Budgets.mono Budget.ak (((((((((((((((((((hle2.t hle3).t hle4).t hle5).t hle6).t hle7).t hle8).t hle9).t hle10).t hle11).t hle12).t hle13).t hle14).t hle15).t hle16).t hle17).t hle18).t hle19).t hle20).t hle21)),(ok1.Versions.mono Version.ak (((((((((((((((((((hle2.t hle3).t hle4).t hle5).t hle6).t hle7).t hle8).t hle9).t hle10).t hle11).t hle12).t hle13).t hle14).t hle15).t hle16).t hle17).t hle18).t hle19).t hle20).t hle21)),(ok1.Docs.mono Document.ak (((((((((((((((((((hle2.t hle3).t hle4).t hle5).t hle6).t hle7).t hle8).t hle9).t hle10).t hle11).t hle12).t hle13).t hle14).t hle15).t hle16).t hle17).t hle18).t hle19).t hle20).t hle21)),(ok1.Approvals.mono Approval.ak (((((((((((((((((((hle2.t hle3).t hle4).t hle5).t hle6).t hle7).t hle8).t hle9).t hle10).t hle11).t hle12).t hle13).t hle14).t hle15).t hle16).t hle17).t hle18).t hle19).t hle20).t hle21))⟩) (sl18.mono Rp.aK hle21) sl19 mm ob (hk.mono ((((((((((((((((((((hle1.t hle2).t hle3).t hle4).t hle5).t hle6).t hle7).t hle8).t hle9).t hle10).t hle11).t hle12).t hle13).t hle14).t hle15).t hle16).t hle17).t hle18).t hle19).t hle20).t hle21))) kr) U ?_
 refine aj (cJ 0 ty30 U U U (aA (bg (cells:=[I 1,I 2]) cQ ty3 zc3 U U kr (fun b15=>bN 0 U hM (fun h22 hle22 hb12=>?_)))))
 have sl20:SlC Rp.int h22 (some ⟨b15,0,none⟩) 2 ([1,2]):=aP.slB0 (T:=3) (fz:=(0,0)) ((show aP Rp.int h21 [I 1,I 2] ([1,2]) from ⟨[I 1],[I 2],rfl,rfl,rfl,⟨[I 2],[],rfl,rfl,rfl,rfl⟩⟩).mono Rp.aK hle22) hb12
 exact ah (v:=.bool true) Bp (uA (jG h22 (Register.mk bD.Appoints bD.Deputies bD.Interests bD.Budgets ([]) bD.Docs bD.Approvals) (dH.mk rr2.kK rr2.kJ rr2.lF rr2.lE rr2.lD rr2.lC rr2.mD rr2.mC none 0 rr2.s9 rr2.s8 rr2.kB rr2.kA) 0 ([1,2]) (some ⟨b15,0,none⟩) 2 ([]) none 0 (show Register.ok h22 (Register.mk bD.Appoints bD.Deputies bD.Interests bD.Budgets ([]) bD.Docs bD.Approvals) (dH.mk rr2.kK rr2.kJ rr2.lF rr2.lE rr2.lD rr2.lC rr2.mD rr2.mC none 0 rr2.s9 rr2.s8 rr2.kB rr2.kA) from ⟨(ok2.Appoints.mono Appoint.ak (((hle19.t hle20).t hle21).t hle22)),(ok2.Deputies.mono Deputy.ak (((hle19.t hle20).t hle21).t hle22)),(ok2.Interests.mono Interest.ak (((hle19.t hle20).t hle21).t hle22)),(ok2.Budgets.mono Budget.ak (((hle19.t hle20).t hle21).t hle22)),SlC.nil,(ok2.Docs.mono Document.ak (((hle19.t hle20).t hle21).t hle22)),(ok2.Approvals.mono Approval.ak (((hle19.t hle20).t hle21).t hle22))⟩) sl20 SlC.nil mm ob (hk.mono (((((((((((((((((((((hle1.t hle2).t hle3).t hle4).t hle5).t hle6).t hle7).t hle8).t hle9).t hle10).t hle11).t hle12).t hle13).t hle14).t hle15).t hle16).t hle17).t hle18).t hle19).t hle20).t hle21).t hle22))) kr) U (qO 3 U (nretP [.bool true] (cs hs0)))
theorem yd (rec:Expr→Int→Int) (h:HF) (x:Expr) (eL:cm) (limit:Int) (hrec:∀ (h:HF) (qx:Expr) (iT:cm) (qlimit:Int) (hqx:Expr.ok h qx iT) (_:qx.dep < x.dep),Ret prog 50 [.agg (Expr.cells qx iT).toArray,I qlimit] h (I (rec qx qlimit))) (hx:Expr.ok h x eL):Ret prog 50 [.agg (Expr.cells x eL).toArray,I limit] h (I (e8.F rec x limit)):=by
 refine sT func50 U ntmps50 U fun X hM hX hF=>?_
 have hs0:e8.F rec x limit=e8.F rec x limit:=rfl
 refine sr (cA (fun b1=>qO 11 U ?_))
 refine lp1 x.L (fun i w=>[(1,I limit),(2,Q b1),(5,I w),(6,I (i:Int))]) ([(b1,O (Expr.cells x eL) 66)]) (fun s1 i w=>(e8.L1 rec limit (e8.K1)) s1 w) 1 hx.list.1.1 hs0 ?_ ?_ ?_
 ·rintro i1 gZ et hs1 e
  exact sr (qO 3 U (nretP [I gZ] (ci hs1)))
 ·rintro i1 gZ y1 rz1 hd1 cw ao dy fB hs3 hx1 ag1 e
  refine qK 7 [0] U (ad (v':=.bool true) U (cb cw) (qO 6 U (ac hs3 U (fun c2 hs4=>?_) (fun c2 hs5=>?_))))
  ·have c2p:=of_decide_eq_true c2
   exact qK 8 [0] U (aA (dV jh ty66 hx.list.1 (nthZ ao) (au ao) U U U (fun _ _ _ e=>e) (fun q2 r2 A2 ok2=>de ty66 A2 U U (qO 3 U (ah call50 (hrec _ _ _ (IntKind.wrap .i64 (limit - gZ)) ok2 (Expr.gj (fq hd1))) U (qO 6 U (ad (v':=I (((i1+1):Nat):Int)) U (aL ob) (an (ag1 (IntKind.wrap .i64 (gZ+(rec y1 (IntKind.wrap .i64 (limit - gZ))))) hs4)))))))))
  have c2p:=of_decide_eq_false c2
  exact j6 U (hx1 i1 gZ hs5)
 rintro i1 gZ hd1 eG hx e
 exact qK 7 [0] U (ad (v':=.bool false) U (cb eG) (qO 8 U (hx _ rd)))
theorem pm:∀ (m:Nat) (h:HF) (x:Expr) (eL:cm) (limit:Int) (_:x.dep≤m) (hx:Expr.ok h x eL),Ret prog 50 [.agg (Expr.cells x eL).toArray,I limit] h (I (e8.go m x limit))
 | 0,h,x,eL,limit,hd,hx=>absurd hd (Nat.not_le.2 (Expr.jH _))
 | m+1,h,x,eL,limit,hd,hx=>yd (e8.go m) h x eL limit (fun qh_ qx iT qlimit qhx qd=>pm m qh_ qx iT qlimit ob qhx) hx
theorem rZ (h:HF) (x:Expr) (eL:cm) (limit:Int) (hx:Expr.ok h x eL):Ret prog 50 [.agg (Expr.cells x eL).toArray,I limit] h (I (e8 x limit)):=pm _ h x eL limit (Nat.le_refl _) hx
open Go.Proofs Go.Proofs.Tryz
set_option maxHeartbeats 2000000
theorem sa (h:HF) (l:List Version) (ey:Option Addr) (ew:Nat) (hl:SlC Version.rp h ey ew l):Ret prog 25 [.slice ey l.length ew] h (.bool (dg l)):=by
 refine sT func25 U ntmps25 U fun X hM hX hF=>?_
 have hs0:dg l=dg l:=rfl
 refine qK 11 [] U (ac hs0 U (fun c1 hs1=>?_) (fun c1 hs2=>?_))
 ·have c1p:=of_decide_eq_true c1
  exact sr (an (nretP [.bool false] (cs hs1)))
 have c1p:=of_decide_eq_false c1
 refine qT 6 U ?_
 refine lp0 l (fun i=>[(0,.slice ey l.length ew),(3,I (i:Int))]) ([]) (fun s1 i=>(dg.L1 (dg.K1)) s1) hl.1.1 hs2 ?_ ?_ ?_
 ·rintro i1 et hs4 e
  exact sr (an (nretP [.bool true] (cs hs4)))
 ·rintro i1 y1 rz1 hd1 cw ao dy fB hs6 hx1 ag1 e
  refine qK 6 [] U (ad (v':=.bool true) U (cb cw) (qO 9 U (aA (dV lg ty70 hl.1 (nthZ ao) (au ao) U U U (fun _ _ _ e=>e) (fun q2 r2 A2 ok2=>qL 1 [] U (uI (j:=3) ty68 A2 U U (bH zc68 (fun b2=>bE 0 ty68 U U U U U U (qL 9 [0] U (ce 5 [24,25,26,27,28,29] 24 29 (decide (40 < (y1.Policy.Offices.length:Int))) U (fun c2 hk1=>?_) (fun e=>?_)))))))))))
  ·exact qL 5 [0] U (hk1 _ U)
  refine aj (ce 5 [30,31,32,33,34,35] 30 35 (decide (20 < (y1.Policy.Rules.length:Int))) U (fun c3 hk2=>?_) (fun e=>?_))
  ·exact qL 5 [0] U (hk2 _ U)
  refine aj (ce 5 [36,37,38,39,40,41] 36 41 (decide (40 < (e8 y1.Policy.Change 40))) U (fun c4 hk3=>?_) (fun e=>?_))
  ·exact qL 1 [] U (cJ 0 ty66 U U U (ah call50 (rZ _ _ _ 40 ok2.Policy.Change) U (qO 2 U (hk3 _ U))))
  refine aM (ac hs6 U (fun c5 hs7=>?_) (fun c5 hs8=>?_))
  ·exact sr (an (nretP [.bool false] (cs hs7)))
  refine qT 5 U ?_
  refine lp0 y1.Policy.Rules (fun i=>[(0,.slice ey l.length ew),(3,I (i1:Int)),(4,Q b2),(5,I (i:Int))]) ([(b2,O (Policy.cells y1.Policy r2.Policy) 68)]) (fun s3 i=>(dg.L3 ((dg.L1 (dg.K1) rz1))) s3) ok2.Policy.Rules.1.1 hs8 ?_ ?_ ?_
  ·rintro i3 sK hs10 e
   exact dY (qT 2 U (ad (v':=I (((i1+1):Nat):Int)) U (aL ob) (an (bU (L':=[]) js (ag1 hs10)))))
  ·rintro i3 y3 rz3 hd3 sJ gU xI Ev hs11 hx3 ag2 e
   refine qK 7 [0] U (ad (v':=.bool true) U (cb sJ) (qL 10 [0] U (aA (dV pc ty107 ok2.Policy.Rules.1 (nthZ gU) (au gU) U U U (fun _ _ _ e=>e) (fun q4 r4 A4 ok4=>qL 1 [] U (uI (j:=3) ty66 A4 U U (ah call50 (rZ _ _ _ 40 ok4.Expr) U (qO 2 U (ac hs11 U (fun c7 hs12=>?_) (fun c7 hs13=>?_))))))))))
   ·have c7p:=of_decide_eq_true c7
    exact sr (an (nretP [.bool false] (cs hs12)))
   have c7p:=of_decide_eq_false c7
   exact aE (qT 3 U (ad (v':=I (((i3+1):Nat):Int)) U (aL ob) (an (ag2 hs13))))
  rintro i3 hd3 zX hx e
  exact qK 7 [0] U (ad (v':=.bool false) U (cb zX) (qO 3 U (hx _ rd)))
 rintro i1 hd1 eG hx e
 exact qK 6 [] U (ad (v':=.bool false) U (cb eG) (qO 3 U (hx _ rd)))
theorem CA (h:HF) (aT:Register) (dt:dH) (gD:Register.ok h aT dt):Ret prog 9 [.agg (Register.cells aT dt).toArray] h (.bool (jL aT)):=by
 refine sT func9 U ntmps9 U fun X hM hX hF=>?_
 have hs0:jL aT=jL aT:=rfl
 refine sr (cA (fun b1=>qL 10 [0] U (ce 5 [8,9,10,11,12,13] 8 13 (decide (12 < (aT.Deputies.length:Int))) U (fun c1 hk1=>?_) (fun e=>?_))))
 ·exact qL 5 [0] U (hk1 _ U)
 refine aj (ce 5 [14,15,16,17,18,19] 14 19 (decide (12 < (aT.Interests.length:Int))) U (fun c2 hk2=>?_) (fun e=>?_))
 ·exact qL 5 [0] U (hk2 _ U)
 refine aj (ce 5 [20,21,22,23,24,25] 20 25 (decide (12 < (aT.Budgets.length:Int))) U (fun c3 hk3=>?_) (fun e=>?_))
 ·exact qL 5 [0] U (hk3 _ U)
 refine aj (ce 5 [26,27,28,29,30,31] 26 31 (decide (8 < (aT.Docs.length:Int))) U (fun c4 hk4=>?_) (fun e=>?_))
 ·exact qL 5 [0] U (hk4 _ U)
 refine aj (ce 5 [32,33,34,35,36,37] 32 37 (decide (24 < (aT.Approvals.length:Int))) U (fun c5 hk5=>?_) (fun e=>?_))
 ·exact qL 5 [0] U (hk5 _ U)
 refine aj (ce 5 [38,39,40,41,42,43] 38 43 (!(dg aT.Versions)) U (fun c6 hk6=>?_) (fun e=>?_))
 ·exact qL 2 [0] U (ah call25 (sa _ _ _ _ gD.Versions) U (qO 2 U (hk6 _ U)))
 refine aM (ac hs0 U (fun c7 hs1=>?_) (fun c7 hs2=>?_))
 ·exact sr (an (nretP [.bool false] (cs hs1)))
 refine qT 6 U ?_
 refine lp0 aT.Docs (fun i=>[(1,Q b1),(3,I (i:Int))]) ([(b1,O (Register.cells aT dt) 30)]) (fun s1 i=>(jL.L1 (jL.K1)) s1) gD.Docs.1.1 hs2 ?_ ?_ ?_
 ·rintro i1 et hs4 e
  exact sr (an (nretP [.bool true] (cs hs4)))
 ·rintro i1 y1 rz1 hd1 cw ao dy fB hs6 hx1 ag1 e
  refine qK 7 [0] U (ad (v':=.bool true) U (cb cw) (qL 10 [0] U (aA (dV pH ty52 gD.Docs.1 (nthZ ao) (au ao) U U U (fun _ _ _ e=>e) (fun q3 r3 A3 ok3=>qL 1 [] U (jF (j:=6) ty31 A3 U U (qL 3 [] U (ce 9 [59,60,61,62,63,64,65,66,67,68] 59 68 (decide (20 < (y1.Revokes.length:Int))) U (fun c8 hk7=>?_) (fun e=>?_)))))))))
  ·exact qL 3 [0] U (aA (dV pH ty52 gD.Docs.1 (nthZ ao) (au ao) U U U (fun _ _ _ e=>e) (fun q4 r4 A4 ok4=>qL 1 [] U (jF (j:=7) ty31 A4 U U (qL 3 [] U (hk7 _ U))))))
  refine aj (ce 9 [69,70,71,72,73,74,75,76,77,78] 69 78 (decide (20 < (y1.Needs.length:Int))) U (fun c9 hk8=>?_) (fun e=>?_))
  ·exact qL 3 [0] U (aA (dV pH ty52 gD.Docs.1 (nthZ ao) (au ao) U U U (fun _ _ _ e=>e) (fun q5 r5 A5 ok5=>qL 1 [] U (jF (j:=8) ty31 A5 U U (qL 3 [] U (hk8 _ U))))))
  refine aM (ac hs6 U (fun c10 hs7=>?_) (fun c10 hs8=>?_))
  ·exact sr (an (nretP [.bool false] (cs hs7)))
  exact aE (qT 3 U (ad (v':=I (((i1+1):Nat):Int)) U (aL ob) (an (ag1 hs8))))
 rintro i1 hd1 eG hx e
 exact qK 7 [0] U (ad (v':=.bool false) U (cb eG) (qO 3 U (hx _ rd)))
theorem qI (h:HF) (aT:Register) (dt:dH) (no:Int) (gD:Register.ok h aT dt):Ret prog 19 [.agg (Register.cells aT dt).toArray,I no] h (I (bq aT no)):=by
 refine sT func19 U ntmps19 U fun X hM hX hF=>?_
 have hs0:bq aT no=bq aT no:=rfl
 refine sr (cA (fun b1=>qO 7 U ?_))
 refine lp0 aT.Docs (fun i=>[(1,I no),(2,Q b1),(5,I (i:Int))]) ([(b1,O (Register.cells aT dt) 30)]) (fun s1 i=>(bq.L1 no (bq.K1)) s1 i) gD.Docs.1.1 hs0 ?_ ?_ ?_
 ·rintro i1 et hs1 e
  exact sr (an (nretP [I (-1)] (ci hs1)))
 ·rintro i1 y1 rz1 hd1 cw ao dy fB hs3 hx1 ag1 e
  refine qK 7 [0] U (ad (v':=.bool true) U (cb cw) (qL 10 [0] U (aA (dV pH ty52 gD.Docs.1 (nthZ ao) (au ao) U U U (fun _ _ _ e=>e) (fun q2 r2 A2 ok2=>qL 1 [] U (cK ty3 A2 U (qO 3 U (ac hs3 U (fun c2 hs4=>?_) (fun c2 hs5=>?_)))))))))
  ·exact sr (qO 3 U (nretP [I (i1:Int)] (ci hs4)))
  exact aE (qT 3 U (ad (v':=I (((i1+1):Nat):Int)) U (aL ob) (an (ag1 hs5))))
 rintro i1 hd1 eG hx e
 exact qK 7 [0] U (ad (v':=.bool false) U (cb eG) (qO 3 U (hx _ rd)))
theorem rx (h:HF) (dG:Int)  : Ret prog 126 [I dG] h (.bool (jz dG)):=by
 refine sT func126 U ntmps126 U fun X hM hX hF=>?_
 have hs0:jz dG=jz dG:=rfl
 refine qT 9 U (bx 3 [5,6,7,8] 5 8 (decide (dG < 32)) U (fun c1 hk1=>?_) (fun e=>?_))
 ·exact aj (qO 2 U (hk1 _ U))
 exact an (nretP [.bool (decide (0≤dG)&&decide (dG < 32))] (cs hs0))
theorem nh (h:HF) (dG:Int)  : Ret prog 127 [I dG] h (.bool (iz dG)):=by
 refine sT func127 U ntmps127 U fun X hM hX hF=>?_
 have hs0:iz dG=iz dG:=rfl
 refine qT 9 U (bx 3 [5,6,7,8] 5 8 (decide (dG < 1099511627776)) U (fun c1 hk1=>?_) (fun e=>?_))
 ·exact aj (qO 2 U (hk1 _ U))
 exact an (nretP [.bool (decide (0≤dG)&&decide (dG < 1099511627776))] (cs hs0))
theorem yn (h:HF) (dG:Int)  : Ret prog 180 [I dG] h (.bool (lH dG)):=by
 refine sT func180 U ntmps180 U fun X hM hX hF=>?_
 have hs0:lH dG=lH dG:=rfl
 refine qT 9 U (bx 3 [5,6,7,8] 5 8 (decide (dG < 64)) U (fun c1 hk1=>?_) (fun e=>?_))
 ·exact aj (qO 2 U (hk1 _ U))
 exact an (nretP [.bool (decide (0≤dG)&&decide (dG < 64))] (cs hs0))
theorem zB (h:HF) (x:Appoint)  : Ret prog 112 [.agg (Appoint.cells x).toArray] h (.bool (ik x)):=by
 refine sT func112 U ntmps112 U fun X hM hX hF=>?_
 have hs0:ik x=ik x:=rfl
 refine sr (cA (fun b1=>qL 9 [0] U (ce 4 [6,7,8,9,10] 6 10 (decide (1048576 < x.No)) U (fun c1 hk1=>?_) (fun e=>?_))))
 ·exact qL 4 [0] U (hk1 _ U)
 refine aj (ce 5 [11,12,13,14,15,16] 11 16 (!(iz x.At)) U (fun c2 hk2=>?_) (fun e=>?_))
 ·exact qL 2 [0] U (ah Hw (nh h x.At) U (qO 2 U (hk2 _ U)))
 refine aj (ce 5 [17,18,19,20,21,22] 17 22 (!(iz x.Known)) U (fun c3 hk3=>?_) (fun e=>?_))
 ·exact qL 2 [0] U (ah Hw (nh h x.Known) U (qO 2 U (hk3 _ U)))
 refine aj (ce 5 [23,24,25,26,27,28] 23 28 (!(jz x.Office)) U (fun c4 hk4=>?_) (fun e=>?_))
 ·exact qL 2 [0] U (ah call126 (rx h x.Office) U (qO 2 U (hk4 _ U)))
 refine aj (ce 5 [29,30,31,32,33,34] 29 34 (!(lH x.Person)) U (fun c5 hk5=>?_) (fun e=>?_))
 ·exact qL 2 [0] U (ah call180 (yn h x.Person) U (qO 2 U (hk5 _ U)))
 refine aM (ac hs0 U (fun c6 hs1=>?_) (fun c6 hs2=>?_))
 ·exact sr (an (nretP [.bool false] (cs hs1)))
 refine qK 7 [0] U (ac hs2 U (fun c7 hs4=>?_) (fun c7 hs5=>?_))
 ·exact qK 7 [0] U (nretP [.bool (x.Weight==0)] (cs hs4))
 refine qK 7 [0] U (bx 4 [43,44,45,46,47] 43 47 (decide (x.Weight≤64)) U (fun c8 hk6=>?_) (fun e=>?_))
 ·exact qL 4 [0] U (hk6 _ U)
 exact an (nretP [.bool (decide (1≤x.Weight)&&decide (x.Weight≤64))] (cs hs5))
theorem si (h:HF) (l:List Appoint) (ey:Option Addr) (ew:Nat) (hl:SlC Appoint.rp h ey ew l):Ret prog 67 [.slice ey l.length ew] h (I (ff l)):=by
 refine sT func67 U ntmps67 U fun X hM hX hF=>?_
 have hs0:ff l=ff l:=rfl
 refine qK 11 [] U (ac hs0 U (fun c1 hs1=>?_) (fun c1 hs2=>?_))
 ·have c1p:=of_decide_eq_true c1
  exact sr (an (nretP [I 2] (ci hs1)))
 have c1p:=of_decide_eq_false c1
 refine qT 6 U ?_
 refine lp0 l (fun i=>[(0,.slice ey l.length ew),(3,I (i:Int))]) ([]) (fun s1 i=>(ff.L1 l (ff.K1)) s1 i) hl.1.1 hs2 ?_ ?_ ?_
 ·rintro i1 et hs4 e
  exact sr (an (nretP [I 0] (ci hs4)))
 ·rintro i1 y1 rz1 hd1 cw ao dy fB hs6 hx1 ag1 e
  refine qK 6 [] U (ad (v':=.bool true) U (cb cw) (qO 6 U ?_))
  refine ke [(0,.slice ey l.length ew),(3,I (i1:Int)),(36,.bool ((!(ik y1))||(decide (0 < (i1:Int))&&decide (y1.No≤(nthI l ((i1:Int) - 1)).No))))] (fun e=>?_) (fun hk1=>?_)
  rotate_left
  ·refine eB ([]) mixed kr jn (fun cB _=>?_)
   refine qA [0,1] U (cD 2 (enc:=Appoint.cells) cB jn ei uv ty59 hl.1 (nthZ ao) (au ao) U U U U kr (fun q4 A4=>tf 3 U U (fun _ _ hj=>iQ ty59 (A4.mono hj.1) U U) (tn 4 U (eK call112 (zB h y1) U (⟨jn,qA [5,6] U ?_⟩)))))
   refine cx 19 U (fun c2=>?_) (fun c2=>?_)
   ·exact tk 7 U U (qR 8 16 U (aI kr (hk1 _ ⟨U,U,(cb (show true=((!(ik y1))||(decide (0 < (i1:Int))&&decide (y1.No≤(nthI l ((i1:Int) - 1)).No))) from by rw [c2] <;> rfl)),trivial⟩)))
   refine qR 7 3 U ?_
   refine cx 22 U (fun c3=>?_) (fun c3=>?_)
   ·have c3p:=of_decide_eq_true c3
    refine qA [10,11] U (tf 12 U U (fun _ _ _=>mq (v':=I ((i1:Int) - 1)) U (gG ob)) ?_)
    have ho2:0≤(((i1:Int) - 1):Int)∧(((i1:Int) - 1):Int) < ((l).length:Int):=ob
    exact cD 13 (enc:=Appoint.cells) cB jn ei uv ty59 hl.1 ho2 (bT ho2) U U U U kr (fun q5 A5=>qB [14] U (tf 15 U U (fun _ _ hj=>eF ty3 (A5.mono hj.1) U) (qA [16,17] U (cD 18 (enc:=Appoint.cells) cB jn ei uv ty59 hl.1 (nthZ ao) (au ao) U U U U kr (fun q6 A6=>qB [19] U (tf 20 U U (fun _ _ hj=>eF ty3 (A6.mono hj.1) U) (qR 21 3 U (aI kr (hk1 _ ⟨U,U,(cb (show decide (y1.No≤(nthI l ((i1:Int) - 1)).No)=((!(ik y1))||(decide (0 < (i1:Int))&&decide (y1.No≤(nthI l ((i1:Int) - 1)).No))) from by rw [c2,c3] <;> rfl)),trivial⟩)))))))))
   have c3p:=of_decide_eq_false c3
   exact tk 10 U U (qR 11 13 U (aI kr (hk1 _ ⟨U,U,(cb (show false=((!(ik y1))||(decide (0 < (i1:Int))&&decide (y1.No≤(nthI l ((i1:Int) - 1)).No))) from by rw [c2,c3] <;> rfl)),trivial⟩)))
  refine ac hs6 U (fun c4 hs7=>?_) (fun c4 hs8=>?_)
  ·exact sr (an (nretP [I 150] (ci hs7)))
  exact aE (qT 3 U (ad (v':=I (((i1+1):Nat):Int)) U (aL ob) (an (ag1 hs8))))
 rintro i1 hd1 eG hx e
 exact qK 6 [] U (ad (v':=.bool false) U (cb eG) (qO 3 U (hx _ rd)))
theorem jN (h:HF) (dG:Int) (low:Int) (high:Int)  : Ret prog 181 [I dG,I low,I high] h (.bool (fT dG low high)):=by
 refine sT func181 U ntmps181 U fun X hM hX hF=>?_
 have hs0:fT dG low high=fT dG low high:=rfl
 refine qT 10 U (bx 4 [10,11,12,13,14] 10 14 (decide (dG≤high)) U (fun c1 hk1=>?_) (fun e=>?_))
 ·exact aj (qO 3 U (hk1 _ U))
 exact an (nretP [.bool (decide (low≤dG)&&decide (dG≤high))] (cs hs0))
theorem uh (h:HF) (dG:Int)  : Ret prog 182 [I dG] h (.bool (lr dG)):=by
 refine sT func182 U ntmps182 U fun X hM hX hF=>?_
 have hs0:lr dG=lr dG:=rfl
 exact sr (qO 5 U (ah Dh (jN h dG 0 1099511627775) U (an (nretP [.bool (fT dG 0 1099511627775)] (cs hs0)))))
theorem rv (h:HF) (dG:Int)  : Ret prog 183 [I dG] h (.bool (jU dG)):=by
 refine sT func183 U ntmps183 U fun X hM hX hF=>?_
 have hs0:jU dG=jU dG:=rfl
 exact sr (qO 5 U (ah Dh (jN h dG 0 63) U (an (nretP [.bool (fT dG 0 63)] (cs hs0)))))
theorem zz (h:HF) (x:Deputy)  : Ret prog 113 [.agg (Deputy.cells x).toArray] h (.bool (ij x)):=by
 refine sT func113 U ntmps113 U fun X hM hX hF=>?_
 have hs0:ij x=ij x:=rfl
 refine sr (cA (fun b1=>qL 7 [0] U (ah Dh (jN h x.No 0 1048576) U (qO 2 U (ce 5 [7,8,9,10,11,12] 7 12 (!(lr x.At)) U (fun c1 hk1=>?_) (fun e=>?_))))))
 ·exact qL 2 [0] U (ah call182 (uh h x.At) U (qO 2 U (hk1 _ U)))
 refine aj (ce 5 [13,14,15,16,17,18] 13 18 (!(lr x.Known)) U (fun c2 hk2=>?_) (fun e=>?_))
 ·exact qL 2 [0] U (ah call182 (uh h x.Known) U (qO 2 U (hk2 _ U)))
 refine aj (ce 5 [19,20,21,22,23,24] 19 24 (!(jU x.From)) U (fun c3 hk3=>?_) (fun e=>?_))
 ·exact qL 2 [0] U (ah call183 (rv h x.From) U (qO 2 U (hk3 _ U)))
 refine aj (ce 5 [25,26,27,28,29,30] 25 30 (!(jU x.To)) U (fun c4 hk4=>?_) (fun e=>?_))
 ·exact qL 2 [0] U (ah call183 (rv h x.To) U (qO 2 U (hk4 _ U)))
 refine aj (ce 6 [31,32,33,34,35,36,37] 31 37 (x.From==x.To) U (fun c5 hk5=>?_) (fun e=>?_))
 ·exact qL 6 [0,0] U (hk5 _ U)
 refine aM (ac hs0 U (fun c6 hs1=>?_) (fun c6 hs2=>?_))
 ·exact sr (an (nretP [.bool false] (cs hs1)))
 refine qK 6 [0] U (ah Dh (jN h x.Office 0 31) U (qO 2 U (ce 5 [42,43,44,45,46,47] 42 47 (!(fT x.Kind (-1) 15)) U (fun c7 hk6=>?_) (fun e=>?_))))
 ·exact qL 2 [0] U (ah Dh (jN h x.Kind (-1) 15) U (qO 2 U (hk6 _ U)))
 refine aM (ac hs2 U (fun c8 hs4=>?_) (fun c8 hs5=>?_))
 ·exact sr (an (nretP [.bool false] (cs hs4)))
 refine qK 7 [0] U (ac hs5 U (fun c9 hs7=>?_) (fun c9 hs8=>?_))
 ·refine qK 6 [0] U (bx 4 [53,54,55,56,57] 53 57 (x.Most==0) U (fun c10 hk7=>?_) (fun e=>?_))
  ·exact qL 4 [0] U (hk7 _ U)
  exact an (nretP [.bool ((x.Until==0)&&(x.Most==0))] (cs hs7))
 refine qK 9 [0,0] U (bx 4 [63,64,65,66,67] 63 67 (decide (x.Until≤1099511627776)) U (fun c11 hk8=>?_) (fun e=>?_))
 ·exact qL 4 [0] U (hk8 _ U)
 refine aj (bx 4 [68,69,70,71,72] 68 72 (fT x.Most 0 1099511627776) U (fun c12 hk9=>?_) (fun e=>?_))
 ·exact qL 2 [0] U (ah Dh (jN h x.Most 0 1099511627776) U (dZ U (hk9 _ U)))
 exact an (nretP [.bool ((decide (x.At < x.Until)&&decide (x.Until≤1099511627776))&&(fT x.Most 0 1099511627776))] (cs hs8))
theorem zA (h:HF) (l:List Deputy) (ey:Option Addr) (ew:Nat) (hl:SlC Deputy.rp h ey ew l):Ret prog 68 [.slice ey l.length ew] h (I (fQ l)):=by
 refine sT func68 U ntmps68 U fun X hM hX hF=>?_
 have hs0:fQ l=fQ l:=rfl
 refine qK 11 [] U (ac hs0 U (fun c1 hs1=>?_) (fun c1 hs2=>?_))
 ·have c1p:=of_decide_eq_true c1
  exact sr (an (nretP [I 2] (ci hs1)))
 have c1p:=of_decide_eq_false c1
 refine qT 6 U ?_
 refine lp0 l (fun i=>[(0,.slice ey l.length ew),(3,I (i:Int))]) ([]) (fun s1 i=>(fQ.L1 l (fQ.K1)) s1 i) hl.1.1 hs2 ?_ ?_ ?_
 ·rintro i1 et hs4 e
  exact sr (an (nretP [I 0] (ci hs4)))
 ·rintro i1 y1 rz1 hd1 cw ao dy fB hs6 hx1 ag1 e
  refine qK 6 [] U (ad (v':=.bool true) U (cb cw) (qO 6 U ?_))
  refine ke [(0,.slice ey l.length ew),(3,I (i1:Int)),(36,.bool ((!(ij y1))||(decide (0 < (i1:Int))&&decide (y1.No≤(nthI l ((i1:Int) - 1)).No))))] (fun e=>?_) (fun hk1=>?_)
  rotate_left
  ·refine eB ([]) mixed kr jn (fun cB _=>?_)
   refine qA [0,1] U (cD 2 (enc:=Deputy.cells) cB jn ei FQ ty169 hl.1 (nthZ ao) (au ao) U U U U kr (fun q4 A4=>tf 3 U U (fun _ _ hj=>iQ ty169 (A4.mono hj.1) U U) (tn 4 U (eK call113 (zz h y1) U (⟨jn,qA [5,6] U ?_⟩)))))
   refine cx 19 U (fun c2=>?_) (fun c2=>?_)
   ·exact tk 7 U U (qR 8 16 U (aI kr (hk1 _ ⟨U,U,(cb (show true=((!(ij y1))||(decide (0 < (i1:Int))&&decide (y1.No≤(nthI l ((i1:Int) - 1)).No))) from by rw [c2] <;> rfl)),trivial⟩)))
   refine qR 7 3 U ?_
   refine cx 22 U (fun c3=>?_) (fun c3=>?_)
   ·have c3p:=of_decide_eq_true c3
    refine qA [10,11] U (tf 12 U U (fun _ _ _=>mq (v':=I ((i1:Int) - 1)) U (gG ob)) ?_)
    have ho2:0≤(((i1:Int) - 1):Int)∧(((i1:Int) - 1):Int) < ((l).length:Int):=ob
    exact cD 13 (enc:=Deputy.cells) cB jn ei FQ ty169 hl.1 ho2 (bT ho2) U U U U kr (fun q5 A5=>qB [14] U (tf 15 U U (fun _ _ hj=>eF ty3 (A5.mono hj.1) U) (qA [16,17] U (cD 18 (enc:=Deputy.cells) cB jn ei FQ ty169 hl.1 (nthZ ao) (au ao) U U U U kr (fun q6 A6=>qB [19] U (tf 20 U U (fun _ _ hj=>eF ty3 (A6.mono hj.1) U) (qR 21 3 U (aI kr (hk1 _ ⟨U,U,(cb (show decide (y1.No≤(nthI l ((i1:Int) - 1)).No)=((!(ij y1))||(decide (0 < (i1:Int))&&decide (y1.No≤(nthI l ((i1:Int) - 1)).No))) from by rw [c2,c3] <;> rfl)),trivial⟩)))))))))
   have c3p:=of_decide_eq_false c3
   exact tk 10 U U (qR 11 13 U (aI kr (hk1 _ ⟨U,U,(cb (show false=((!(ij y1))||(decide (0 < (i1:Int))&&decide (y1.No≤(nthI l ((i1:Int) - 1)).No))) from by rw [c2,c3] <;> rfl)),trivial⟩)))
  refine ac hs6 U (fun c4 hs7=>?_) (fun c4 hs8=>?_)
  ·exact sr (an (nretP [I 160] (ci hs7)))
  exact aE (qT 3 U (ad (v':=I (((i1+1):Nat):Int)) U (aL ob) (an (ag1 hs8))))
 rintro i1 hd1 eG hx e
 exact qK 6 [] U (ad (v':=.bool false) U (cb eG) (qO 3 U (hx _ rd)))
theorem ng (h:HF) (t:Int)  : Ret prog 184 [I t] h (.bool (iw t)):=by
 refine sT func184 U ntmps184 U fun X hM hX hF=>?_
 have hs0:iw t=iw t:=rfl
 refine qT 9 U (bx 3 [5,6,7,8] 5 8 (decide (t < 1099511627776)) U (fun c1 hk1=>?_) (fun e=>?_))
 ·exact aj (qO 2 U (hk1 _ U))
 exact an (nretP [.bool (decide (0≤t)&&decide (t < 1099511627776))] (cs hs0))
theorem ow (h:HF) (dG:Int)  : Ret prog 185 [I dG] h (.bool (gz dG)):=by
 refine sT func185 U ntmps185 U fun X hM hX hF=>?_
 have hs0:gz dG=gz dG:=rfl
 refine qT 9 U (bx 3 [5,6,7,8] 5 8 (decide (dG≤1048576)) U (fun c1 hk1=>?_) (fun e=>?_))
 ·exact aj (qO 2 U (hk1 _ U))
 exact an (nretP [.bool (decide (0≤dG)&&decide (dG≤1048576))] (cs hs0))
theorem rm (h:HF) (dG:Int)  : Ret prog 186 [I dG] h (.bool (jR dG)):=by
 refine sT func186 U ntmps186 U fun X hM hX hF=>?_
 have hs0:jR dG=jR dG:=rfl
 refine qT 9 U (bx 3 [5,6,7,8] 5 8 (decide (dG < 64)) U (fun c1 hk1=>?_) (fun e=>?_))
 ·exact aj (qO 2 U (hk1 _ U))
 exact an (nretP [.bool (decide (0≤dG)&&decide (dG < 64))] (cs hs0))
theorem zk (h:HF) (x:Interest)  : Ret prog 114 [.agg (Interest.cells x).toArray] h (.bool (ib x)):=by
 refine sT func114 U ntmps114 U fun X hM hX hF=>?_
 have hs0:ib x=ib x:=rfl
 refine sr (cA (fun b1=>qL 9 [0] U (ce 4 [6,7,8,9,10] 6 10 (decide (1048576 < x.No)) U (fun c1 hk1=>?_) (fun e=>?_))))
 ·exact qL 4 [0] U (hk1 _ U)
 refine aj (ce 5 [11,12,13,14,15,16] 11 16 (!(iw x.At)) U (fun c2 hk2=>?_) (fun e=>?_))
 ·exact qL 2 [0] U (ah Hv (ng h x.At) U (qO 2 U (hk2 _ U)))
 refine aj (ce 5 [17,18,19,20,21,22] 17 22 (!(iw x.Known)) U (fun c3 hk3=>?_) (fun e=>?_))
 ·exact qL 2 [0] U (ah Hv (ng h x.Known) U (qO 2 U (hk3 _ U)))
 refine aj (ce 5 [23,24,25,26,27,28] 23 28 (!(gz x.Party)) U (fun c4 hk4=>?_) (fun e=>?_))
 ·exact qL 2 [0] U (ah call185 (ow h x.Party) U (qO 2 U (hk4 _ U)))
 refine aM (ac hs0 U (fun c5 hs1=>?_) (fun c5 hs2=>?_))
 ·exact sr (an (nretP [.bool false] (cs hs1)))
 refine qK 7 [0] U (ac hs2 U (fun c6 hs4=>?_) (fun c6 hs5=>?_))
 ·refine qK 4 [0] U (ah call185 (ow h x.Person) U (aj (bx 6 [34,35,36,37,38,39,40] 34 40 (x.Person != x.Party) U (fun c7 hk5=>?_) (fun e=>?_))))
  ·exact qL 6 [0,0] U (hk5 _ U)
  exact an (nretP [.bool ((gz x.Person)&&(x.Person != x.Party))] (cs hs4))
 exact qK 5 [0] U (ah call186 (rm h x.Person) U (an (nretP [.bool (jR x.Person)] (cs hs5))))
theorem sc (h:HF) (l:List Interest) (ey:Option Addr) (ew:Nat) (hl:SlC Interest.rp h ey ew l):Ret prog 69 [.slice ey l.length ew] h (I (e9 l)):=by
 refine sT func69 U ntmps69 U fun X hM hX hF=>?_
 have hs0:e9 l=e9 l:=rfl
 refine qK 11 [] U (ac hs0 U (fun c1 hs1=>?_) (fun c1 hs2=>?_))
 ·have c1p:=of_decide_eq_true c1
  exact sr (an (nretP [I 2] (ci hs1)))
 have c1p:=of_decide_eq_false c1
 refine qT 6 U ?_
 refine lp0 l (fun i=>[(0,.slice ey l.length ew),(3,I (i:Int))]) ([]) (fun s1 i=>(e9.L1 l (e9.K1)) s1 i) hl.1.1 hs2 ?_ ?_ ?_
 ·rintro i1 et hs4 e
  exact sr (an (nretP [I 0] (ci hs4)))
 ·rintro i1 y1 rz1 hd1 cw ao dy fB hs6 hx1 ag1 e
  refine qK 6 [] U (ad (v':=.bool true) U (cb cw) (qO 6 U ?_))
  refine ke [(0,.slice ey l.length ew),(3,I (i1:Int)),(36,.bool ((!(ib y1))||(decide (0 < (i1:Int))&&decide (y1.No≤(nthI l ((i1:Int) - 1)).No))))] (fun e=>?_) (fun hk1=>?_)
  rotate_left
  ·refine eB ([]) mixed kr jn (fun cB _=>?_)
   refine qA [0,1] U (cD 2 (enc:=Interest.cells) cB jn ei ml ty61 hl.1 (nthZ ao) (au ao) U U U U kr (fun q4 A4=>tf 3 U U (fun _ _ hj=>iQ ty61 (A4.mono hj.1) U U) (tn 4 U (eK call114 (zk h y1) U (⟨jn,qA [5,6] U ?_⟩)))))
   refine cx 19 U (fun c2=>?_) (fun c2=>?_)
   ·exact tk 7 U U (qR 8 16 U (aI kr (hk1 _ ⟨U,U,(cb (show true=((!(ib y1))||(decide (0 < (i1:Int))&&decide (y1.No≤(nthI l ((i1:Int) - 1)).No))) from by rw [c2] <;> rfl)),trivial⟩)))
   refine qR 7 3 U ?_
   refine cx 22 U (fun c3=>?_) (fun c3=>?_)
   ·have c3p:=of_decide_eq_true c3
    refine qA [10,11] U (cD 12 (enc:=Interest.cells) cB jn ei ml ty61 hl.1 (nthZ ao) (au ao) U U U U kr (fun q5 A5=>qB [13] U (tf 14 U U (fun _ _ hj=>eF ty3 (A5.mono hj.1) U) (qA [15,16] U (tf 17 U U (fun _ _ _=>mq (v':=I ((i1:Int) - 1)) U (gG ob)) ?_)))))
    have ho2:0≤(((i1:Int) - 1):Int)∧(((i1:Int) - 1):Int) < ((l).length:Int):=ob
    exact cD 18 (enc:=Interest.cells) cB jn ei ml ty61 hl.1 ho2 (bT ho2) U U U U kr (fun q6 A6=>qB [19] U (tf 20 U U (fun _ _ hj=>eF ty3 (A6.mono hj.1) U) (qR 21 3 U (aI kr (hk1 _ ⟨U,U,(cb (show decide (y1.No≤(nthI l ((i1:Int) - 1)).No)=((!(ib y1))||(decide (0 < (i1:Int))&&decide (y1.No≤(nthI l ((i1:Int) - 1)).No))) from by rw [c2,c3] <;> rfl)),trivial⟩)))))
   have c3p:=of_decide_eq_false c3
   exact tk 10 U U (qR 11 13 U (aI kr (hk1 _ ⟨U,U,(cb (show false=((!(ib y1))||(decide (0 < (i1:Int))&&decide (y1.No≤(nthI l ((i1:Int) - 1)).No))) from by rw [c2,c3] <;> rfl)),trivial⟩)))
  refine ac hs6 U (fun c4 hs7=>?_) (fun c4 hs8=>?_)
  ·exact sr (an (nretP [I 290] (ci hs7)))
  exact aE (qT 3 U (ad (v':=I (((i1+1):Nat):Int)) U (aL ob) (an (ag1 hs8))))
 rintro i1 hd1 eG hx e
 exact qK 6 [] U (ad (v':=.bool false) U (cb eG) (qO 3 U (hx _ rd)))
theorem kP (h:HF) (dG:Int) (least:Int) (most:Int)  : Ret prog 187 [I dG,I least,I most] h (.bool (gr dG least most)):=by
 refine sT func187 U ntmps187 U fun X hM hX hF=>?_
 have hs0:gr dG least most=gr dG least most:=rfl
 refine qT 10 U (bx 4 [10,11,12,13,14] 10 14 (decide (dG≤most)) U (fun c1 hk1=>?_) (fun e=>?_))
 ·exact aj (qO 3 U (hk1 _ U))
 exact an (nretP [.bool (decide (least≤dG)&&decide (dG≤most))] (cs hs0))
theorem ru (h:HF) (dG:Int)  : Ret prog 188 [I dG] h (.bool (jT dG)):=by
 refine sT func188 U ntmps188 U fun X hM hX hF=>?_
 have hs0:jT dG=jT dG:=rfl
 refine qT 9 U (bx 3 [5,6,7,8] 5 8 (decide (dG < 1099511627776)) U (fun c1 hk1=>?_) (fun e=>?_))
 ·exact aj (qO 2 U (hk1 _ U))
 exact an (nretP [.bool (decide (0≤dG)&&decide (dG < 1099511627776))] (cs hs0))
theorem zu (h:HF) (x:Budget)  : Ret prog 115 [.agg (Budget.cells x).toArray] h (.bool (ii x)):=by
 refine sT func115 U ntmps115 U fun X hM hX hF=>?_
 have hs0:ii x=ii x:=rfl
 refine sr (cA (fun b1=>qL 7 [0] U (ah FC (kP h x.No 0 1048576) U (qO 2 U (ce 5 [7,8,9,10,11,12] 7 12 (!(jT x.At)) U (fun c1 hk1=>?_) (fun e=>?_))))))
 ·exact qL 2 [0] U (ah call188 (ru h x.At) U (qO 2 U (hk1 _ U)))
 refine aj (ce 5 [13,14,15,16,17,18] 13 18 (!(jT x.Known)) U (fun c2 hk2=>?_) (fun e=>?_))
 ·exact qL 2 [0] U (ah call188 (ru h x.Known) U (qO 2 U (hk2 _ U)))
 refine aj (ce 5 [19,20,21,22,23,24] 19 24 (!(gr x.Kind (-1) 15)) U (fun c3 hk3=>?_) (fun e=>?_))
 ·exact qL 2 [0] U (ah FC (kP h x.Kind (-1) 15) U (qO 2 U (hk3 _ U)))
 refine aj (ce 5 [25,26,27,28,29,30] 25 30 (!(gr x.Period 1 1099511627776)) U (fun c4 hk4=>?_) (fun e=>?_))
 ·exact qL 2 [0] U (ah FC (kP h x.Period 1 1099511627776) U (qO 2 U (hk4 _ U)))
 refine aM (ac hs0 U (fun c5 hs1=>?_) (fun c5 hs2=>?_))
 ·exact sr (an (nretP [.bool false] (cs hs1)))
 refine qK 7 [0] U (ac hs2 U (fun c6 hs4=>?_) (fun c6 hs5=>?_))
 ·refine qK 6 [0] U (bx 4 [36,37,38,39,40] 36 40 (x.Value==0) U (fun c7 hk5=>?_) (fun e=>?_))
  ·exact qL 4 [0] U (hk5 _ U)
  exact an (nretP [.bool ((x.Count==0)&&(x.Value==0))] (cs hs4))
 refine qK 5 [0] U (ah FC (kP h x.Count 0 1048576) U (aj (bx 4 [44,45,46,47,48] 44 48 (gr x.Value 0 1099511627776) U (fun c8 hk6=>?_) (fun e=>?_))))
 ·exact qL 2 [0] U (ah FC (kP h x.Value 0 1099511627776) U (dZ U (hk6 _ U)))
 exact an (nretP [.bool ((gr x.Count 0 1048576)&&(gr x.Value 0 1099511627776))] (cs hs5))
theorem zw (h:HF) (l:List Budget) (ey:Option Addr) (ew:Nat) (hl:SlC Budget.rp h ey ew l):Ret prog 70 [.slice ey l.length ew] h (I (fP l)):=by
 refine sT func70 U ntmps70 U fun X hM hX hF=>?_
 have hs0:fP l=fP l:=rfl
 refine qK 11 [] U (ac hs0 U (fun c1 hs1=>?_) (fun c1 hs2=>?_))
 ·have c1p:=of_decide_eq_true c1
  exact sr (an (nretP [I 2] (ci hs1)))
 have c1p:=of_decide_eq_false c1
 refine qT 6 U ?_
 refine lp0 l (fun i=>[(0,.slice ey l.length ew),(3,I (i:Int))]) ([]) (fun s1 i=>(fP.L1 l (fP.K1)) s1 i) hl.1.1 hs2 ?_ ?_ ?_
 ·rintro i1 et hs4 e
  exact sr (an (nretP [I 0] (ci hs4)))
 ·rintro i1 y1 rz1 hd1 cw ao dy fB hs6 hx1 ag1 e
  refine qK 6 [] U (ad (v':=.bool true) U (cb cw) (qO 6 U ?_))
  refine ke [(0,.slice ey l.length ew),(3,I (i1:Int)),(36,.bool ((!(ii y1))||(decide (0 < (i1:Int))&&decide (y1.No≤(nthI l ((i1:Int) - 1)).No))))] (fun e=>?_) (fun hk1=>?_)
  rotate_left
  ·refine eB ([]) mixed kr jn (fun cB _=>?_)
   refine qA [0,1] U (cD 2 (enc:=Budget.cells) cB jn ei FP ty173 hl.1 (nthZ ao) (au ao) U U U U kr (fun q4 A4=>tf 3 U U (fun _ _ hj=>iQ ty173 (A4.mono hj.1) U U) (tn 4 U (eK call115 (zu h y1) U (⟨jn,qA [5,6] U ?_⟩)))))
   refine cx 19 U (fun c2=>?_) (fun c2=>?_)
   ·exact tk 7 U U (qR 8 16 U (aI kr (hk1 _ ⟨U,U,(cb (show true=((!(ii y1))||(decide (0 < (i1:Int))&&decide (y1.No≤(nthI l ((i1:Int) - 1)).No))) from by rw [c2] <;> rfl)),trivial⟩)))
   refine qR 7 3 U ?_
   refine cx 22 U (fun c3=>?_) (fun c3=>?_)
   ·have c3p:=of_decide_eq_true c3
    refine qA [10,11] U (tf 12 U U (fun _ _ _=>mq (v':=I ((i1:Int) - 1)) U (gG ob)) ?_)
    have ho2:0≤(((i1:Int) - 1):Int)∧(((i1:Int) - 1):Int) < ((l).length:Int):=ob
    exact cD 13 (enc:=Budget.cells) cB jn ei FP ty173 hl.1 ho2 (bT ho2) U U U U kr (fun q5 A5=>qB [14] U (tf 15 U U (fun _ _ hj=>eF ty3 (A5.mono hj.1) U) (qA [16,17] U (cD 18 (enc:=Budget.cells) cB jn ei FP ty173 hl.1 (nthZ ao) (au ao) U U U U kr (fun q6 A6=>qB [19] U (tf 20 U U (fun _ _ hj=>eF ty3 (A6.mono hj.1) U) (qR 21 3 U (aI kr (hk1 _ ⟨U,U,(cb (show decide (y1.No≤(nthI l ((i1:Int) - 1)).No)=((!(ii y1))||(decide (0 < (i1:Int))&&decide (y1.No≤(nthI l ((i1:Int) - 1)).No))) from by rw [c2,c3] <;> rfl)),trivial⟩)))))))))
   have c3p:=of_decide_eq_false c3
   exact tk 10 U U (qR 11 13 U (aI kr (hk1 _ ⟨U,U,(cb (show false=((!(ii y1))||(decide (0 < (i1:Int))&&decide (y1.No≤(nthI l ((i1:Int) - 1)).No))) from by rw [c2,c3] <;> rfl)),trivial⟩)))
  refine ac hs6 U (fun c4 hs7=>?_) (fun c4 hs8=>?_)
  ·exact sr (an (nretP [I 180] (ci hs7)))
  exact aE (qT 3 U (ad (v':=I (((i1+1):Nat):Int)) U (aL ob) (an (ag1 hs8))))
 rintro i1 hd1 eG hx e
 exact qK 6 [] U (ad (v':=.bool false) U (cb eG) (qO 3 U (hx _ rd)))
theorem gY (h:HF) (dG:Int)  : Ret prog 33 [I dG] h (.bool (bM dG)):=by
 refine sT func33 U ntmps33 U fun X hM hX hF=>?_
 have hs0:bM dG=bM dG:=rfl
 refine qT 9 U (bx 3 [5,6,7,8] 5 8 (decide (dG < 1099511627776)) U (fun c1 hk1=>?_) (fun e=>?_))
 ·exact aj (qO 2 U (hk1 _ U))
 exact an (nretP [.bool (decide (0≤dG)&&decide (dG < 1099511627776))] (cs hs0))
theorem yl (rec:Expr→Int→Int) (h:HF) (x:Expr) (eL:cm) (limit:Int) (hrec:∀ (h:HF) (qx:Expr) (iT:cm) (qlimit:Int) (hqx:Expr.ok h qx iT) (_:qx.dep < x.dep),Ret prog 266 [.agg (Expr.cells qx iT).toArray,I qlimit] h (I (rec qx qlimit))) (hx:Expr.ok h x eL):Ret prog 266 [.agg (Expr.cells x eL).toArray,I limit] h (I (cI.F rec x limit)):=by
 refine sT func266 U ntmps266 U fun X hM hX hF=>?_
 have hs0:cI.F rec x limit=cI.F rec x limit:=rfl
 refine sr (cA (fun b1=>qO 11 U ?_))
 refine lp1 x.L (fun i w=>[(1,I limit),(2,Q b1),(5,I w),(6,I (i:Int))]) ([(b1,O (Expr.cells x eL) 66)]) (fun s1 i w=>(cI.L1 rec limit (cI.K1)) s1 w) 1 hx.list.1.1 hs0 ?_ ?_ ?_
 ·rintro i1 gZ et hs1 e
  exact sr (qO 3 U (nretP [I gZ] (ci hs1)))
 ·rintro i1 gZ y1 rz1 hd1 cw ao dy fB hs3 hx1 ag1 e
  refine qK 7 [0] U (ad (v':=.bool true) U (cb cw) (qO 6 U (ac hs3 U (fun c2 hs4=>?_) (fun c2 hs5=>?_))))
  ·have c2p:=of_decide_eq_true c2
   exact qK 8 [0] U (aA (dV jh ty66 hx.list.1 (nthZ ao) (au ao) U U U (fun _ _ _ e=>e) (fun q2 r2 A2 ok2=>de ty66 A2 U U (qO 3 U (ah call266 (hrec _ _ _ (IntKind.wrap .i64 (limit - gZ)) ok2 (Expr.gj (fq hd1))) U (qO 6 U (ad (v':=I (((i1+1):Nat):Int)) U (aL ob) (qO 2 U (ag1 (IntKind.wrap .i64 (gZ+(rec y1 (IntKind.wrap .i64 (limit - gZ))))) hs4)))))))))
  have c2p:=of_decide_eq_false c2
  exact j6 U (hx1 i1 gZ hs5)
 rintro i1 gZ hd1 eG hx e
 exact qK 7 [0] U (ad (v':=.bool false) U (cb eG) (qO 8 U (hx _ rd)))
theorem pt:∀ (m:Nat) (h:HF) (x:Expr) (eL:cm) (limit:Int) (_:x.dep≤m) (hx:Expr.ok h x eL),Ret prog 266 [.agg (Expr.cells x eL).toArray,I limit] h (I (cI.go m x limit))
 | 0,h,x,eL,limit,hd,hx=>absurd hd (Nat.not_le.2 (Expr.jH _))
 | m+1,h,x,eL,limit,hd,hx=>yl (cI.go m) h x eL limit (fun qh_ qx iT qlimit qhx qd=>pt m qh_ qx iT qlimit ob qhx) hx
theorem zr (h:HF) (x:Expr) (eL:cm) (limit:Int) (hx:Expr.ok h x eL):Ret prog 266 [.agg (Expr.cells x eL).toArray,I limit] h (I (cI x limit)):=pt _ h x eL limit (Nat.le_refl _) hx
theorem ym (rec:Expr→Int) (h:HF) (x:Expr) (eL:cm) (hrec:∀ (h:HF) (qx:Expr) (iT:cm) (hqx:Expr.ok h qx iT) (_:qx.dep < x.dep),Ret prog 267 [.agg (Expr.cells qx iT).toArray] h (I (rec qx))) (hx:Expr.ok h x eL):Ret prog 267 [.agg (Expr.cells x eL).toArray] h (I (aY.F rec x)):=by
 refine sT func267 U ntmps267 U fun X hM hX hF=>?_
 have hs0:aY.F rec x=aY.F rec x:=rfl
 refine sr (cA (fun b1=>qO 11 U ?_))
 refine lp1 x.L (fun i w=>[(1,Q b1),(3,I w),(4,I (i:Int))]) ([(b1,O (Expr.cells x eL) 66)]) (fun s1 i w=>(aY.L1 rec (aY.K1)) s1 w) 0 hx.list.1.1 hs0 ?_ ?_ ?_
 ·rintro i1 gF et hs1 e
  exact sr (qO 4 U (nretP [I (IntKind.wrap .i64 (gF+1))] (ci hs1)))
 ·rintro i1 gF y1 rz1 hd1 cw ao dy fB hs3 hx1 ag1 e
  exact qK 7 [0] U (ad (v':=.bool true) U (cb cw) (qL 10 [0] U (aA (dV jh ty66 hx.list.1 (nthZ ao) (au ao) U U U (fun _ _ _ e=>e) (fun q2 r2 A2 ok2=>de ty66 A2 U U (ah call267 (hrec _ _ _ ok2 (Expr.gj (fq hd1))) U (aA (fu (KZ U U) (qO 5 U (ad (v':=I (((i1+1):Nat):Int)) U (aL ob) (an (ag1 (max gF (rec y1)) hs3))))))))))))
 rintro i1 gF hd1 eG hx e
 exact qK 7 [0] U (ad (v':=.bool false) U (cb eG) (qO 3 U (hx _ rd)))
theorem pu:∀ (m:Nat) (h:HF) (x:Expr) (eL:cm) (_:x.dep≤m) (hx:Expr.ok h x eL),Ret prog 267 [.agg (Expr.cells x eL).toArray] h (I (aY.go m x))
 | 0,h,x,eL,hd,hx=>absurd hd (Nat.not_le.2 (Expr.jH _))
 | m+1,h,x,eL,hd,hx=>ym (aY.go m) h x eL (fun qh_ qx iT qhx qd=>pu m qh_ qx iT ob qhx) hx
theorem zt (h:HF) (x:Expr) (eL:cm) (hx:Expr.ok h x eL):Ret prog 267 [.agg (Expr.cells x eL).toArray] h (I (aY x)):=pu _ h x eL (Nat.le_refl _) hx
theorem sf (h:HF) (x:Expr) (eL:cm) (hx:Expr.ok h x eL):Ret prog 249 [.agg (Expr.cells x eL).toArray] h (.bool (ig x)):=by
 refine sT func249 U ntmps249 U fun X hM hX hF=>?_
 have hs0:ig x=ig x:=rfl
 refine sr (cA (fun b1=>qO 4 U (cJ 0 ty66 U U U (ah call266 (zr _ _ _ 256 hx) U (qO 2 U (ce 4 [6,7,8,9,10] 6 10 (decide (16 < (aY x))) U (fun c1 hk1=>?_) (fun e=>?_)))))))
 ·exact cJ 0 ty66 U U U (ah call267 (zt _ _ _ hx) U (qO 2 U (hk1 _ U)))
 exact an (nretP [.bool (decide (256 < (cI x 256))||decide (16 < (aY x)))] (cs hs0))
theorem vB (h:HF) (p:Policy) (gp:dS) (hp:Policy.ok h p gp):Ret prog 227 [.agg (Policy.cells p gp).toArray] h (.bool (el p)):=by
 refine sT func227 U ntmps227 U fun X hM hX hF=>?_
 have hs0:el p=el p:=rfl
 refine sr (cA (fun b1=>qL 10 [0] U (ce 5 [8,9,10,11,12,13] 8 13 (decide (16 < (p.Kinds.length:Int))) U (fun c1 hk1=>?_) (fun e=>?_))))
 ·exact qL 5 [0] U (hk1 _ U)
 refine aj (ce 5 [14,15,16,17,18,19] 14 19 (decide (16 < (p.Rules.length:Int))) U (fun c2 hk2=>?_) (fun e=>?_))
 ·exact qL 5 [0] U (hk2 _ U)
 refine aj (ce 4 [20,21,22,23,24] 20 24 (ig p.Change) U (fun c3 hk3=>?_) (fun e=>?_))
 ·exact qL 1 [] U (cJ 0 ty66 U U U (ah call249 (sf _ _ _ hp.Change) U (dZ U (hk3 _ U))))
 refine aM (ac hs0 U (fun c4 hs1=>?_) (fun c4 hs2=>?_))
 ·exact sr (an (nretP [.bool true] (cs hs1)))
 refine qT 6 U ?_
 refine lp0 p.Rules (fun i=>[(1,Q b1),(3,I (i:Int))]) ([(b1,O (Policy.cells p gp) 68)]) (fun s1 i=>(el.L1 (el.K1)) s1) hp.Rules.1.1 hs2 ?_ ?_ ?_
 ·rintro i1 et hs4 e
  exact sr (an (nretP [.bool false] (cs hs4)))
 ·rintro i1 y1 rz1 hd1 cw ao dy fB hs6 hx1 ag1 e
  refine qK 7 [0] U (ad (v':=.bool true) U (cb cw) (qL 10 [0] U (aA (dV pc ty107 hp.Rules.1 (nthZ ao) (au ao) U U U (fun _ _ _ e=>e) (fun q2 r2 A2 ok2=>qL 1 [] U (uI (j:=3) ty66 A2 U U (ah call249 (sf _ _ _ ok2.Expr) U (aM (ac hs6 U (fun c6 hs7=>?_) (fun c6 hs8=>?_))))))))))
  ·exact sr (an (nretP [.bool true] (cs hs7)))
  exact aE (qT 3 U (ad (v':=I (((i1+1):Nat):Int)) U (aL ob) (an (ag1 hs8))))
 rintro i1 hd1 eG hx e
 exact qK 7 [0] U (ad (v':=.bool false) U (cb eG) (qO 3 U (hx _ rd)))
theorem ry (h:HF) (c:Int)  : Ret prog 276 [Y c] h (.bool (i6 c)):=by
 refine sT func276 U ntmps276 U fun X hM hX hF=>?_
 have hs0:i6 c=i6 c:=rfl
 refine qT 9 U (bx 3 [5,6,7,8] 5 8 (decide (c≤122)) U (fun c1 hk1=>?_) (fun e=>?_))
 ·exact aj (qO 2 U (hk1 _ U))
 refine aj (ce 7 [9,10,11,12,13,14,15,16] 9 16 (decide (65≤c)&&decide (c≤90)) U (fun c2 hk2=>?_) (fun e=>?_))
 ·refine qO 3 U (bx 3 [12,13,14,15] 12 15 (decide (c≤90)) U (fun c3 hk3=>?_) (fun e=>?_))
  ·exact aj (qO 2 U (hk3 _ U))
  exact dZ U (hk2 _ U)
 exact an (nretP [.bool ((decide (97≤c)&&decide (c≤122))||(decide (65≤c)&&decide (c≤90)))] (cs hs0))
theorem yp (h:HF) (c:Int)  : Ret prog 280 [Y c] h (.bool (kF c)):=by
 refine sT func280 U ntmps280 U fun X hM hX hF=>?_
 have hs0:kF c=kF c:=rfl
 refine qT 9 U (bx 3 [5,6,7,8] 5 8 (decide (c≤57)) U (fun c1 hk1=>?_) (fun e=>?_))
 ·exact aj (qO 2 U (hk1 _ U))
 exact an (nretP [.bool (decide (48≤c)&&decide (c≤57))] (cs hs0))
theorem AT (h:HF) (c:Int)  : Ret prog 277 [Y c] h (.bool (m6 c)):=by
 refine sT func277 U ntmps277 U fun X hM hX hF=>?_
 have hs0:m6 c=m6 c:=rfl
 refine qT 7 U (ah call276 (ry h c) U (aj (ce 3 [5,6,7,8] 5 8 (kF c) U (fun c1 hk1=>?_) (fun e=>?_))))
 ·exact aj (ah call280 (yp h c) U (dZ U (hk1 _ U)))
 refine aj (ce 3 [9,10,11,12] 9 12 (c==95) U (fun c2 hk2=>?_) (fun e=>?_))
 ·exact aj (qO 2 U (hk2 _ U))
 exact an (nretP [.bool (((i6 c)||(kF c))||(c==95))] (cs hs0))
theorem AU (h:HF) (s:ByteArray)  : Ret prog 268 [.string s] h (.bool (fA s)):=by
 refine sT func268 U ntmps268 U fun X hM hX hF=>?_
 have hs0:fA s=fA s:=rfl
 refine qT 8 U (aA (fu (wE vk U) (qO 2 U (ce 4 [7,8,9,10,11] 7 11 (decide (32 < (s.size:Int))) U (fun c1 hk1=>?_) (fun e=>?_)))))
 ·exact aj (aA (fu (wE vk U) (qO 2 U (hk1 _ U))))
 refine aj (ce 5 [12,13,14,15,16,17] 12 17 (!(i6 ((s.data.getD (0:Int).toNat 0).toNat:Int))) U (fun c2 hk2=>?_) (fun e=>?_))
 ·refine aj ?_
  have ho1:0≤(0:Int)∧(0:Int) < (s.size:Int):=ob
  exact aA (fu (CG vk U U ho1) (ah call276 (ry h ((s.data.getD (0:Int).toNat 0).toNat:Int)) U (qO 2 U (hk2 _ U))))
 refine aM (ac hs0 U (fun c3 hs1=>?_) (fun c3 hs2=>?_))
 ·exact sr (an (nretP [.bool false] (cs hs1)))
 refine qT 6 U ?_
 refine iH (ι:=Nat) (fun i=>[]) (fun i=>h) (fun i=>[]) (fun i=>i≤(List.range s.size).length∧fA s=((fA.K1))) ?_ (fun hx1=>?_)
 ·rintro i1 ⟨et,hs4⟩ e
  exact sr (an (nretP [.bool true] (cs hs4)))
 refine j5 (ι:=Nat×List Nat) (fun i=>[(0,.string s),(3,I (i.1:Int))]) (fun i=>h) (fun i=>[]) (fun i=>(List.range s.size).drop i.1=i.2∧i.1≤(List.range s.size).length∧fA s=((fA.L1 s (fA.K1)) i.2 i.1)) (fun i=>i.2.length) (0,(List.range s.size)) rd sw ⟨U,Nat.zero_le _,hs2⟩ ?_
 rintro ⟨i1,s1⟩ ⟨hd1,et,hs6⟩ ag1 e
 rcases s1 with _ | ⟨y1,rz1⟩
 ·have eG:decide ((i1:Int) < (s.size:Int))=false:=by simpa using nN hd1
  exact dz (qT 4 U (aA (fu (wE vk U) (ad (v':=.bool false) U (cb eG) (qO 3 U (hx1 i1 _ ⟨et,hs6⟩ trivial))))))
 have cw:decide ((i1:Int) < (s.size:Int))=true:=by simpa using uo hd1
 have dy:i1 < s.size:=by simpa using iY hd1
 refine qT 5 U (aA (fu (wE vk U) (ad (v':=.bool true) U (cb cw) (qO 9 U ?_))))
 have ho3:0≤((i1:Int):Int)∧((i1:Int):Int) < (s.size:Int):=ob
 refine aA (fu (CG vk U U ho3) (ah call277 (AT h ((s.data.getD ((i1:Int):Int).toNat 0).toNat:Int)) U (qO 2 U (ac hs6 U (fun c5 hs8=>?_) (fun c5 hs9=>?_)))))
 ·exact sr (an (nretP [.bool false] (cs hs8)))
 exact aE (qT 3 U (ad (v':=I (((i1+1):Nat):Int)) U (aL ob) (an (ag1 ((i1+1),rz1) _ (Nat.lt_succ_self _) ⟨lL hd1,iY hd1,hs9⟩ rd))))
theorem AO (h:HF) (s:ByteArray)  : Ret prog 269 [.string s] h (.bool (lq s)):=by
 refine sT func269 U ntmps269 U fun X hM hX hF=>?_
 have hs0:lq s=lq s:=rfl
 refine qT 16 U (ac hs0 U (fun c1 hs1=>?_) (fun c1 hs2=>?_))
 ·refine aE (ac hs1 U (fun c2 hs3=>?_) (fun c2 hs4=>?_))
  ·exact sr (an (nretP [.bool true] (cs hs3)))
  exact aE (qT 5 U (nretP [.bool false] (cs hs4)))
 refine qT 5 U (ac hs2 U (fun c3 hs7=>?_) (fun c3 hs8=>?_))
 ·refine aE (ac hs7 U (fun c4 hs9=>?_) (fun c4 hs10=>?_))
  ·exact sr (an (nretP [.bool true] (cs hs9)))
  exact aE (qT 5 U (nretP [.bool false] (cs hs10)))
 refine qT 5 U (ac hs8 U (fun c5 hs13=>?_) (fun c5 hs14=>?_))
 ·refine aE (ac hs13 U (fun c6 hs15=>?_) (fun c6 hs16=>?_))
  ·exact sr (an (nretP [.bool true] (cs hs15)))
  exact aE (qT 5 U (nretP [.bool false] (cs hs16)))
 refine qT 5 U (ac hs14 U (fun c7 hs19=>?_) (fun c7 hs20=>?_))
 ·refine aE (ac hs19 U (fun c8 hs21=>?_) (fun c8 hs22=>?_))
  ·exact sr (an (nretP [.bool true] (cs hs21)))
  exact aE (qT 5 U (nretP [.bool false] (cs hs22)))
 refine qT 5 U (ac hs20 U (fun c9 hs25=>?_) (fun c9 hs26=>?_))
 ·refine aE (ac hs25 U (fun c10 hs27=>?_) (fun c10 hs28=>?_))
  ·exact sr (an (nretP [.bool true] (cs hs27)))
  exact aE (qT 5 U (nretP [.bool false] (cs hs28)))
 refine qT 5 U (ac hs26 U (fun c11 hs31=>?_) (fun c11 hs32=>?_))
 ·refine aE (ac hs31 U (fun c12 hs33=>?_) (fun c12 hs34=>?_))
  ·exact sr (an (nretP [.bool true] (cs hs33)))
  exact aE (qT 5 U (nretP [.bool false] (cs hs34)))
 refine qT 5 U (ac hs32 U (fun c13 hs37=>?_) (fun c13 hs38=>?_))
 ·refine aE (ac hs37 U (fun c14 hs39=>?_) (fun c14 hs40=>?_))
  ·exact sr (an (nretP [.bool true] (cs hs39)))
  exact aE (qT 5 U (nretP [.bool false] (cs hs40)))
 refine qT 5 U (ac hs38 U (fun c15 hs43=>?_) (fun c15 hs44=>?_))
 ·refine aE (ac hs43 U (fun c16 hs45=>?_) (fun c16 hs46=>?_))
  ·exact sr (an (nretP [.bool true] (cs hs45)))
  exact aE (qT 5 U (nretP [.bool false] (cs hs46)))
 refine qT 5 U (ac hs44 U (fun c17 hs49=>?_) (fun c17 hs50=>?_))
 ·refine aE (ac hs49 U (fun c18 hs51=>?_) (fun c18 hs52=>?_))
  ·exact sr (an (nretP [.bool true] (cs hs51)))
  exact aE (qT 5 U (nretP [.bool false] (cs hs52)))
 refine qT 5 U (ac hs50 U (fun c19 hs55=>?_) (fun c19 hs56=>?_))
 ·refine aE (ac hs55 U (fun c20 hs57=>?_) (fun c20 hs58=>?_))
  ·exact sr (an (nretP [.bool true] (cs hs57)))
  exact aE (qT 5 U (nretP [.bool false] (cs hs58)))
 refine qT 5 U (ac hs56 U (fun c21 hs61=>?_) (fun c21 hs62=>?_))
 ·refine aE (ac hs61 U (fun c22 hs63=>?_) (fun c22 hs64=>?_))
  ·exact sr (an (nretP [.bool true] (cs hs63)))
  exact aE (qT 5 U (nretP [.bool false] (cs hs64)))
 refine qT 5 U (ac hs62 U (fun c23 hs67=>?_) (fun c23 hs68=>?_))
 ·refine aE (ac hs67 U (fun c24 hs69=>?_) (fun c24 hs70=>?_))
  ·exact sr (an (nretP [.bool true] (cs hs69)))
  exact aE (qT 5 U (nretP [.bool false] (cs hs70)))
 refine qT 5 U (ac hs68 U (fun c25 hs73=>?_) (fun c25 hs74=>?_))
 ·refine aE (ac hs73 U (fun c26 hs75=>?_) (fun c26 hs76=>?_))
  ·exact sr (an (nretP [.bool true] (cs hs75)))
  exact aE (qT 5 U (nretP [.bool false] (cs hs76)))
 refine qT 5 U (ac hs74 U (fun c27 hs79=>?_) (fun c27 hs80=>?_))
 ·refine aE (ac hs79 U (fun c28 hs81=>?_) (fun c28 hs82=>?_))
  ·exact sr (an (nretP [.bool true] (cs hs81)))
  exact aE (qT 5 U (nretP [.bool false] (cs hs82)))
 refine qT 5 U (ac hs80 U (fun c29 hs85=>?_) (fun c29 hs86=>?_))
 ·refine aE (ac hs85 U (fun c30 hs87=>?_) (fun c30 hs88=>?_))
  ·exact sr (an (nretP [.bool true] (cs hs87)))
  exact aE (qT 5 U (nretP [.bool false] (cs hs88)))
 refine qT 4 U (ac hs86 U (fun c31 hs91=>?_) (fun c31 hs92=>?_))
 ·exact sr (an (nretP [.bool true] (cs hs91)))
 exact aE (qT 5 U (nretP [.bool false] (cs hs92)))
theorem ug (h:HF) (s:ByteArray)  : Ret prog 250 [.string s] h (.bool (kE s)):=by
 refine sT func250 U ntmps250 U fun X hM hX hF=>?_
 have hs0:kE s=kE s:=rfl
 refine qT 7 U (ah call268 (AU h s) U (aj (bx 4 [5,6,7,8,9] 5 9 (!(lq s)) U (fun c1 hk1=>?_) (fun e=>?_))))
 ·exact aj (ah call269 (AO h s) U (qO 2 U (hk1 _ U)))
 exact an (nretP [.bool ((fA s)&&(!(lq s)))] (cs hs0))
theorem oz (h:HF) (l:List ByteArray) (ey:Option Addr) (ew:Nat) (s:ByteArray) (hl:SlC Rp.str h ey ew l):Ret prog 254 [.slice ey l.length ew,.string s] h (I (dA l s)):=by
 refine sT func254 U ntmps254 U fun X hM hX hF=>?_
 have hs0:dA l s=dA l s:=rfl
 refine qT 9 U ?_
 refine lp0 l (fun i=>[(0,.slice ey l.length ew),(1,.string s),(5,I (i:Int))]) ([]) (fun s1 i=>(dA.L1 s (dA.K1)) s1 i) hl.1.1 hs0 ?_ ?_ ?_
 ·rintro i1 et hs1 e
  exact sr (an (nretP [I (-1)] (ci hs1)))
 ·rintro i1 y1 rz1 hd1 cw ao dy fB hs3 hx1 ag1 e
  refine qK 6 [] U (ad (v':=.bool true) U (cb cw) (qO 9 U (aA (ek (enc:=fun y=>[.string y]) ei pS ty9 hl.1 (nthZ ao) (au ao) U U U (fun q2 A2=>cK ty9 A2 U (qO 3 U (ac hs3 U (fun c2 hs4=>?_) (fun c2 hs5=>?_))))))))
  ·exact sr (qO 3 U (nretP [I (i1:Int)] (ci hs4)))
  exact aE (qT 3 U (ad (v':=I (((i1+1):Nat):Int)) U (aL ob) (an (ag1 hs5))))
 rintro i1 hd1 eG hx e
 exact qK 6 [] U (ad (v':=.bool false) U (cb eG) (qO 3 U (hx _ rd)))
theorem pq (h:HF) (l:List ByteArray) (ey:Option Addr) (ew:Nat) (hl:SlC Rp.str h ey ew l):Ret prog 251 [.slice ey l.length ew] h (.bool (dI l)):=by
 refine sT func251 U ntmps251 U fun X hM hX hF=>?_
 have hs0:dI l=dI l:=rfl
 refine qT 9 U ?_
 refine lp0 l (fun i=>[(0,.slice ey l.length ew),(3,I (i:Int))]) ([]) (fun s1 i=>(dI.L1 l (dI.K1)) s1 i) hl.1.1 hs0 ?_ ?_ ?_
 ·rintro i1 et hs1 e
  exact sr (an (nretP [.bool true] (cs hs1)))
 ·rintro i1 y1 rz1 hd1 cw ao dy fB hs3 hx1 ag1 e
  refine qK 6 [] U (ad (v':=.bool true) U (cb cw) (qO 9 U (aA (ek (enc:=fun y=>[.string y]) ei pS ty9 hl.1 (nthZ ao) (au ao) U U U (fun q3 A3=>cK ty9 A3 U (ah call250 (ug h y1) U (qO 2 U (ce 9 [16,17,18,19,20,21,22,23,24,25] 16 25 ((dA l y1) != (i1:Int)) U (fun c1 hk1=>?_) (fun e=>?_)))))))))
  ·exact aj (qO 2 U (aA (ek (enc:=fun y=>[.string y]) ei pS ty9 hl.1 (nthZ ao) (au ao) U U U (fun q4 A4=>cK ty9 A4 U (ah call254 (oz _ _ _ _ y1 hl) U (qO 3 U (hk1 _ U)))))))
  refine aM (ac hs3 U (fun c2 hs4=>?_) (fun c2 hs5=>?_))
  ·exact sr (an (nretP [.bool false] (cs hs4)))
  exact aE (qT 3 U (ad (v':=I (((i1+1):Nat):Int)) U (aL ob) (an (ag1 hs5))))
 rintro i1 hd1 eG hx e
 exact qK 6 [] U (ad (v':=.bool false) U (cb eG) (qO 3 U (hx _ rd)))
theorem yj (rec:List ByteArray→Expr→Bool) (h:HF) (offices:List ByteArray) (cX:Option Addr) (cW:Nat) (x:Expr) (eL:cm) (hrec:∀ (h:HF) (qoffices:List ByteArray) (iC:Option Addr) (iB:Nat) (qx:Expr) (iT:cm) (hqoffices:SlC Rp.str h iC iB qoffices) (hqx:Expr.ok h qx iT) (_:qx.dep < x.dep),Ret prog 252 [.slice iC qoffices.length iB,.agg (Expr.cells qx iT).toArray] h (.bool (rec qoffices qx))) (hoffices:SlC Rp.str h cX cW offices) (hx:Expr.ok h x eL):Ret prog 252 [.slice cX offices.length cW,.agg (Expr.cells x eL).toArray] h (.bool (bC.F rec offices x)):=by
 refine sT func252 U ntmps252 U fun X hM hX hF=>?_
 have hs0:bC.F rec offices x=bC.F rec offices x:=rfl
 refine sr (cA (fun b1=>qL 9 [0] U (ce 4 [9,10,11,12,13] 9 13 (x.Kind==2) U (fun c1 hk1=>?_) (fun e=>?_))))
 ·exact qL 4 [0] U (hk1 _ U)
 refine aj (bx 6 [14,15,16,17,18,19,20] 14 20 (decide ((dA offices x.Name) < 0)) U (fun c2 hk2=>?_) (fun e=>?_))
 ·exact qL 3 [0] U (ah call254 (oz _ _ _ _ x.Name hoffices) U (qO 2 U (hk2 _ U)))
 refine aM (ac hs0 U (fun c3 hs1=>?_) (fun c3 hs2=>?_))
 ·exact sr (an (nretP [.bool false] (cs hs1)))
 refine qT 6 U ?_
 refine lp0 x.L (fun i=>[(0,.slice cX offices.length cW),(3,Q b1),(5,I (i:Int))]) ([(b1,O (Expr.cells x eL) 66)]) (fun s1 i=>(bC.L1 rec offices (bC.K1)) s1) hx.list.1.1 hs2 ?_ ?_ ?_
 ·rintro i1 et hs4 e
  exact sr (an (nretP [.bool true] (cs hs4)))
 ·rintro i1 y1 rz1 hd1 cw ao dy fB hs6 hx1 ag1 e
  refine qK 7 [0] U (ad (v':=.bool true) U (cb cw) (qL 11 [0] U (aA (dV jh ty66 hx.list.1 (nthZ ao) (au ao) U U U (fun _ _ _ e=>e) (fun q2 r2 A2 ok2=>de ty66 A2 U U (ah call252 (hrec _ _ _ _ _ _ hoffices ok2 (Expr.gj (fq hd1))) U (qO 2 U (ac hs6 U (fun c5 hs7=>?_) (fun c5 hs8=>?_)))))))))
  ·exact sr (an (nretP [.bool false] (cs hs7)))
  exact aE (qT 3 U (ad (v':=I (((i1+1):Nat):Int)) U (aL ob) (an (ag1 hs8))))
 rintro i1 hd1 eG hx e
 exact qK 7 [0] U (ad (v':=.bool false) U (cb eG) (qO 3 U (hx _ rd)))
theorem pp:∀ (m:Nat) (h:HF) (offices:List ByteArray) (cX:Option Addr) (cW:Nat) (x:Expr) (eL:cm) (_:x.dep≤m) (hoffices:SlC Rp.str h cX cW offices) (hx:Expr.ok h x eL),Ret prog 252 [.slice cX offices.length cW,.agg (Expr.cells x eL).toArray] h (.bool (bC.go m offices x))
 | 0,h,offices,cX,cW,x,eL,hd,hoffices,hx=>absurd hd (Nat.not_le.2 (Expr.jH _))
 | m+1,h,offices,cX,cW,x,eL,hd,hoffices,hx=>yj (bC.go m) h offices cX cW x eL (fun qh_ qoffices iC iB qx iT qhoffices qhx qd=>pp m qh_ qoffices iC iB qx iT ob qhoffices qhx) hoffices hx
theorem se (h:HF) (offices:List ByteArray) (cX:Option Addr) (cW:Nat) (x:Expr) (eL:cm) (hoffices:SlC Rp.str h cX cW offices) (hx:Expr.ok h x eL):Ret prog 252 [.slice cX offices.length cW,.agg (Expr.cells x eL).toArray] h (.bool (bC offices x)):=pp _ h offices cX cW x eL (Nat.le_refl _) hoffices hx
theorem zq (h:HF) (p:Policy) (gp:dS) (hp:Policy.ok h p gp):Ret prog 228 [.agg (Policy.cells p gp).toArray] h (.bool (fH p)):=by
 refine sT func228 U ntmps228 U fun X hM hX hF=>?_
 have hs0:fH p=fH p:=rfl
 refine sr (cA (fun b1=>qL 7 [0] U (ah call250 (ug h p.Name) U (qO 2 U (ce 5 [8,9,10,11,12,13] 8 13 (!(dI p.Offices)) U (fun c1 hk1=>?_) (fun e=>?_))))))
 ·exact qL 2 [0] U (ah call251 (pq _ _ _ _ hp.Offices) U (qO 2 U (hk1 _ U)))
 refine aj (ce 5 [14,15,16,17,18,19] 14 19 (!(dI p.Kinds)) U (fun c2 hk2=>?_) (fun e=>?_))
 ·exact qL 2 [0] U (ah call251 (pq _ _ _ _ hp.Kinds) U (qO 2 U (hk2 _ U)))
 refine aM (ac hs0 U (fun c3 hs1=>?_) (fun c3 hs2=>?_))
 ·exact sr (an (nretP [.bool false] (cs hs1)))
 refine qT 6 U ?_
 let z1:Nat×Obj:=(b1,O (Policy.cells p gp) 68)
 refine lp0 p.Rules (fun i=>[(1,Q b1),(3,I (i:Int))]) ([z1]) (fun s1 i=>(fH.L1 p (fH.K1 p)) s1) hp.Rules.1.1 hs2 ?_ ?_ ?_
 ·rintro i1 et hs4 e
  exact qK 5 [0] U (cJ 0 ty66 U U U (ah call252 (se _ _ _ _ _ _ hp.Offices hp.Change) U (an (nretP [.bool (bC p.Offices p.Change)] (cs hs4)))))
 ·rintro i1 y1 rz1 hd1 cw ao dy fB hs6 hx1 ag1 e
  refine qK 7 [0] U (ad (v':=.bool true) U (cb cw) (qO 6 U (eB ([z1]) mixed kr jn (fun cB _=>qB [0] U (tf 1 U U (fun _ _ hj=>fI ty62 U (hj.nth (i:=0) U) U) (qB [2] U (tf 3 U U (fun _ _ hj=>fI ty63 U (hj.nth (i:=0) U) U) (tm 4 U (gC 5 cB jn pc ty107 hp.Rules.1 (nthZ ao) (au ao) U U U U kr (fun q2 cs2 A2 ln2 rr2=>?_))))))))))
  obtain ⟨r2,rfl,ok2⟩:=rr2
  refine qB [6] U (tf 7 U U (fun _ _ hj=>Ic 3 ty66 (A2.mono hj.1) U U) (tn 8 U (eK call252 (se _ _ _ _ _ _ hp.Offices ok2.Expr) U (⟨jn,(qA [9] U (aI kr (ac hs6 U (fun c5 hs7=>?_) (fun c5 hs8=>?_))))⟩))))
  ·exact sr (an (nretP [.bool false] (cs hs7)))
  exact aE (qT 3 U (ad (v':=I (((i1+1):Nat):Int)) U (aL ob) (an (ag1 hs8))))
 rintro i1 hd1 eG hx e
 exact qK 7 [0] U (ad (v':=.bool false) U (cb eG) (qO 3 U (hx _ rd)))
theorem sg (rec:Expr→Bool→Bool) (h:HF) (x:Expr) (eL:cm) (upto:Bool) (hrec:∀ (h:HF) (qx:Expr) (iT:cm) (qupto:Bool) (hqx:Expr.ok h qx iT) (_:qx.dep < x.dep),Ret prog 253 [.agg (Expr.cells qx iT).toArray,.bool qupto] h (.bool (rec qx qupto))) (hx:Expr.ok h x eL):Ret prog 253 [.agg (Expr.cells x eL).toArray,.bool upto] h (.bool (aB.F rec x upto)):=by
 refine sT func253 U ntmps253 U fun X hM hX hF=>?_
 have hs0:aB.F rec x upto=aB.F rec x upto:=rfl
 refine sr (cA (fun b1=>qO 7 U ?_))
 refine lp0 x.L (fun i=>[(1,.bool upto),(2,Q b1),(5,I (i:Int))]) ([(b1,O (Expr.cells x eL) 66)]) (fun s1 i=>(aB.L1 rec upto (aB.K1 x upto)) s1) hx.list.1.1 hs0 ?_ ?_ ?_
 ·rintro i1 et hs1 e
  refine qK 12 [0] U (ac hs1 U (fun c3 hs2=>?_) (fun c3 hs3=>?_))
  ·refine qK 6 [0] U (bx 5 [28,29,30,31,32,33] 28 33 ((x.L.length:Int)==0) U (fun c4 hk1=>?_) (fun e=>?_))
   ·exact qL 5 [0] U (hk1 _ U)
   exact an (nretP [.bool ((x.N==0)&&((x.L.length:Int)==0))] (cs hs2))
  refine qT 5 U (ac hs3 U (fun c5 hs5=>?_) (fun c5 hs6=>?_))
  ·refine qK 6 [0] U (bx 4 [39,40,41,42,43] 39 43 (decide (x.N≤4096)) U (fun c6 hk2=>?_) (fun e=>?_))
   ·exact qL 4 [0] U (hk2 _ U)
   refine aj (bx 5 [44,45,46,47,48,49] 44 49 ((x.L.length:Int)==0) U (fun c7 hk3=>?_) (fun e=>?_))
   ·exact qL 5 [0] U (hk3 _ U)
   exact an (nretP [.bool ((decide (1≤x.N)&&decide (x.N≤4096))&&((x.L.length:Int)==0))] (cs hs5))
  refine qT 5 U (ac hs6 U (fun c8 hs8=>?_) (fun c8 hs9=>?_))
  ·refine qK 6 [0] U (bx 5 [55,56,57,58,59,60] 55 60 (decide (1≤(x.L.length:Int))) U (fun c9 hk4=>?_) (fun e=>?_))
   ·exact qL 5 [0] U (hk4 _ U)
   refine aj (bx 5 [61,62,63,64,65,66] 61 66 (decide ((x.L.length:Int)≤16)) U (fun c10 hk5=>?_) (fun e=>?_))
   ·exact qL 5 [0] U (hk5 _ U)
   refine aj (bx 4 [67,68,69,70,71] 67 71 (decide (1≤x.N)) U (fun c11 hk6=>?_) (fun e=>?_))
   ·exact qL 4 [0] U (hk6 _ U)
   refine aj (bx 7 [72,73,74,75,76,77,78,79] 72 79 (decide (x.N≤(x.L.length:Int))) U (fun c12 hk7=>?_) (fun e=>?_))
   ·exact qL 7 [0,0] U (hk7 _ U)
   exact an (nretP [.bool (((((x.Name.toList==(⟨#[]⟩:ByteArray).toList)&&decide (1≤(x.L.length:Int)))&&decide ((x.L.length:Int)≤16))&&decide (1≤x.N))&&decide (x.N≤(x.L.length:Int)))] (cs hs8))
  refine qT 5 U (ac hs9 U (fun c13 hs11=>?_) (fun c13 hs12=>?_))
  ·refine qT 4 U (bx 4 [83,84,85,86,87] 83 87 (x.Name.toList==(⟨#[]⟩:ByteArray).toList) U (fun c14 hk8=>?_) (fun e=>?_))
   ·exact qL 4 [0] U (hk8 _ U)
   refine aj (bx 5 [88,89,90,91,92,93] 88 93 ((x.L.length:Int)==2) U (fun c15 hk9=>?_) (fun e=>?_))
   ·exact qL 5 [0] U (hk9 _ U)
   refine aj (bx 4 [94,95,96,97,98] 94 98 (decide (0≤x.N)) U (fun c16 hk10=>?_) (fun e=>?_))
   ·exact qL 4 [0] U (hk10 _ U)
   refine aj (bx 4 [99,100,101,102,103] 99 103 (decide (x.N≤1099511627776)) U (fun c17 hk11=>?_) (fun e=>?_))
   ·exact qL 4 [0] U (hk11 _ U)
   exact an (nretP [.bool ((((upto&&(x.Name.toList==(⟨#[]⟩:ByteArray).toList))&&((x.L.length:Int)==2))&&decide (0≤x.N))&&decide (x.N≤1099511627776))] (cs hs11))
  exact aE (qT 5 U (nretP [.bool false] (cs hs12)))
 ·rintro i1 y1 rz1 hd1 cw ao dy fB hs15 hx1 ag1 e
  refine qK 7 [0] U (ad (v':=.bool true) U (cb cw) (qL 10 [0] U (aA (dV jh ty66 hx.list.1 (nthZ ao) (au ao) U U U (fun _ _ _ e=>e) (fun q2 r2 A2 ok2=>de ty66 A2 U U (aj (ah call253 (hrec _ _ _ upto ok2 (Expr.gj (fq hd1))) U (qO 2 U (ac hs15 U (fun c18 hs16=>?_) (fun c18 hs17=>?_))))))))))
  ·exact sr (an (nretP [.bool false] (cs hs16)))
  exact aE (qT 3 U (ad (v':=I (((i1+1):Nat):Int)) U (aL ob) (an (ag1 hs17))))
 rintro i1 hd1 eG hx e
 exact qK 7 [0] U (ad (v':=.bool false) U (cb eG) (qO 3 U (hx _ rd)))
theorem mM:∀ (m:Nat) (h:HF) (x:Expr) (eL:cm) (upto:Bool) (_:x.dep≤m) (hx:Expr.ok h x eL),Ret prog 253 [.agg (Expr.cells x eL).toArray,.bool upto] h (.bool (aB.go m x upto))
 | 0,h,x,eL,upto,hd,hx=>absurd hd (Nat.not_le.2 (Expr.jH _))
 | m+1,h,x,eL,upto,hd,hx=>sg (aB.go m) h x eL upto (fun qh_ qx iT qupto qhx qd=>mM m qh_ qx iT qupto ob qhx) hx
theorem nO (h:HF) (x:Expr) (eL:cm) (upto:Bool) (hx:Expr.ok h x eL):Ret prog 253 [.agg (Expr.cells x eL).toArray,.bool upto] h (.bool (aB x upto)):=mM _ h x eL upto (Nat.le_refl _) hx
theorem yk (h:HF) (p:Policy) (gp:dS) (hp:Policy.ok h p gp):Ret prog 229 [.agg (Policy.cells p gp).toArray] h (.bool (eX p)):=by
 refine sT func229 U ntmps229 U fun X hM hX hF=>?_
 have hs0:eX p=eX p:=rfl
 refine sr (cA (fun b1=>qL 10 [0] U (ce 8 [9,10,11,12,13,14,15,16,17] 9 17 ((p.Rules.length:Int) != (p.Kinds.length:Int)) U (fun c1 hk1=>?_) (fun e=>?_))))
 ·exact qL 8 [0,0] U (hk1 _ U)
 refine aj (ce 4 [18,19,20,21,22] 18 22 (decide (p.Mode < 1)) U (fun c2 hk2=>?_) (fun e=>?_))
 ·exact qL 4 [0] U (hk2 _ U)
 refine aj (ce 4 [23,24,25,26,27] 23 27 (decide (4 < p.Mode)) U (fun c3 hk3=>?_) (fun e=>?_))
 ·exact qL 4 [0] U (hk3 _ U)
 refine aM (ac hs0 U (fun c4 hs1=>?_) (fun c4 hs2=>?_))
 ·exact sr (an (nretP [.bool false] (cs hs1)))
 refine qT 6 U ?_
 let z1:Nat×Obj:=(b1,O (Policy.cells p gp) 68)
 refine lp0 p.Rules (fun i=>[(1,Q b1),(3,I (i:Int))]) ([z1]) (fun s1 i=>(eX.L1 p (eX.K1 p)) s1 i) hp.Rules.1.1 hs2 ?_ ?_ ?_
 ·rintro i1 et hs4 e
  exact qK 3 [] U (cJ 0 ty66 U U U (ah call253 (nO _ _ _ false hp.Change) U (an (nretP [.bool (aB p.Change false)] (cs hs4)))))
 ·rintro i1 y1 rz1 hd1 cw ao dy fB hs6 hx1 ag1 e
  refine qK 7 [0] U (ad (v':=.bool true) U (cb cw) (qL 10 [0] U (aA (dV pc ty107 hp.Rules.1 (nthZ ao) (au ao) U U U (fun _ _ _ e=>e) (fun q3 r2 A3 ok2=>de ty107 A3 U U (bH zc107 (fun b3=>bE 0 ty107 U U U U U U (qO 2 U ?_))))))))
  refine ke [(1,Q b1),(3,I (i1:Int)),(63,.bool ((((!(y1.Kind.toList==(nthI p.Kinds (i1:Int)).toList))||decide (y1.Think < 0))||decide (1099511627776≤y1.Think))||(!(aB y1.Expr true))))] (fun e=>?_) (fun hk4=>?_)
  rotate_left
  ·refine eB ([(b3,O (Rule.cells y1 r2) 107),z1]) mixed kr jn (fun cB _=>?_)
   refine qB [0] U (tf 1 U U (fun _ _ hj=>fI ty9 U (hj.nth (i:=0) U) U) (qB [2] U (tf 3 U U (fun _ _ hj=>fI ty62 U (hj.nth (i:=1) U) U) (tm 4 U ?_))))
   have ho2:0≤((i1:Int):Int)∧((i1:Int):Int) < ((p.Kinds).length:Int):=ob
   refine cD 5 (enc:=fun y=>[.string y]) cB jn ei pS ty9 hp.Kinds.1 ho2 (bT ho2) U U U U kr (fun q4 A4=>tf 6 U U (fun _ _ hj=>eF ty9 (A4.mono hj.1) U) (qA [7,8] U ?_))
   refine cx 48 U (fun c5=>?_) (fun c5=>?_)
   ·exact tk 9 U U (qR 10 14 U (aI kr (hk4 _ ⟨U,U,(cb (show true=((((!(y1.Kind.toList==(nthI p.Kinds (i1:Int)).toList))||decide (y1.Think < 0))||decide (1099511627776≤y1.Think))||(!(aB y1.Expr true))) from by rw [c5] <;> rfl)),trivial⟩)))
   refine qB [9] U (tf 10 U U (fun _ _ hj=>fI ty3 U (hj.nth (i:=0) U) U) (qR 11 3 U ?_))
   refine cx 53 U (fun c6=>?_) (fun c6=>?_)
   ·have c6p:=of_decide_eq_true c6
    exact tk 14 U U (qR 15 9 U (aI kr (hk4 _ ⟨U,U,(cb (show true=((((!(y1.Kind.toList==(nthI p.Kinds (i1:Int)).toList))||decide (y1.Think < 0))||decide (1099511627776≤y1.Think))||(!(aB y1.Expr true))) from by rw [c5,c6] <;> rfl)),trivial⟩)))
   have c6p:=of_decide_eq_false c6
   refine qB [14] U (tf 15 U U (fun _ _ hj=>fI ty3 U (hj.nth (i:=0) U) U) (qR 16 3 U ?_))
   refine cx 58 U (fun c7=>?_) (fun c7=>?_)
   ·have c7p:=of_decide_eq_true c7
    exact tk 19 U U (qR 20 4 U (aI kr (hk4 _ ⟨U,U,(cb (show true=((((!(y1.Kind.toList==(nthI p.Kinds (i1:Int)).toList))||decide (y1.Think < 0))||decide (1099511627776≤y1.Think))||(!(aB y1.Expr true))) from by rw [c5,c6,c7] <;> rfl)),trivial⟩)))
   have c7p:=of_decide_eq_false c7
   exact tf 19 U U (fun _ _ _=>nt I0 U) (tf 20 U U (fun _ _ hj=>jj ty66 U (hj.nth (i:=0) U) U) (tn 21 U (eK call253 (nO _ _ _ true ok2.Expr) U (⟨jn,qA [22,23] U (aI kr (hk4 _ ⟨U,U,(cb (show (!(aB y1.Expr true))=((((!(y1.Kind.toList==(nthI p.Kinds (i1:Int)).toList))||decide (y1.Think < 0))||decide (1099511627776≤y1.Think))||(!(aB y1.Expr true))) from by rw [c5,c6,c7] <;> rfl)),trivial⟩))⟩))))
  refine ac hs6 U (fun c8 hs7=>?_) (fun c8 hs8=>?_)
  ·exact sr (an (nretP [.bool false] (cs hs7)))
  exact aE (qT 3 U (ad (v':=I (((i1+1):Nat):Int)) U (aL ob) (an (bU (L':=[z1]) js (ag1 hs8)))))
 rintro i1 hd1 eG hx e
 exact qK 7 [0] U (ad (v':=.bool false) U (cb eG) (qO 3 U (hx _ rd)))
theorem uC (rec:List ByteArray→Expr→Expr) (h:HF) (offices:List ByteArray) (cX:Option Addr) (cW:Nat) (x:Expr) (eL:cm) (hrec:∀ (h:HF) (qoffices:List ByteArray) (iC:Option Addr) (iB:Nat) (qx:Expr) (iT:cm) (hqoffices:SlC Rp.str h iC iB qoffices) (hqx:Expr.ok h qx iT) (hsz:qx.dep≤2000000) (_:qx.dep < x.dep),iq prog 230 [.slice iC qoffices.length iB,.agg (Expr.cells qx iT).toArray] h (fun v h'=>∃ (rr0:cm),v=.agg (Expr.cells (rec qoffices qx) rr0).toArray∧Expr.ok h' (rec qoffices qx) rr0)) (hoffices:SlC Rp.str h cX cW offices) (hx:Expr.ok h x eL) (hsz:x.dep≤2000000):iq prog 230 [.slice cX offices.length cW,.agg (Expr.cells x eL).toArray] h (fun v h'=>∃ (rr0:cm),v=.agg (Expr.cells (aa.F rec offices x) rr0).toArray∧Expr.ok h' (aa.F rec offices x) rr0):=by
 refine cU func230 U ntmps230 U fun X hM hX=>?_
 have hs0:aa.F rec offices x=aa.F rec offices x:=rfl
 have hln:=Expr.Fj x
 refine sr (cA (fun b1=>bH zc66 (fun b2=>qO 3 U (cJ 1 ty66 U U U (bH zc66 (fun b3=>bE 0 ty66 U U U U U U (qL 4 [] U (dw 0 ty3 U U U U U U (qL 8 [2] U (ce 4 [12,13,14,15,16] 12 16 (x.Kind==2) U (fun c1 hk1=>?_) (fun e=>?_)))))))))))
 ·exact qL 4 [2] U (hk1 _ U)
 refine aM (ac hs0 U (fun c2 hs1=>?_) (fun c2 hs2=>?_))
 ·refine qK 4 [2] U (ah call254 (oz _ _ _ _ x.Name hoffices) U (qL 1 [] U (dw 0 ty3 U U U U U U (qL 4 [] U (dw 0 ty64 U U U U U U (qO 6 U ?_))))))
  let z1:Nat×Obj:=(b2,O [I 0,I 0,I 0,.string (⟨#[]⟩:ByteArray),.slice none 0 0] 66)
  let z3:Nat×Obj:=(b1,O (Expr.cells x eL) 66)
  refine lp2 x.L (fun i w=>[(0,.slice cX offices.length cW),(3,Q b1),(4,Q b2),(5,Q b3),(6,I (i:Int))]) (fun w=>w.2.2.2.2) (fun w=>[(b3,O [I x.Kind,I x.N,I (dA offices x.Name),.string x.Name,.slice w.2.1 w.1.length w.2.2.1] 66),z1,z3]++(w.2.2.2.1)) (fun i w=>cM Expr.rp 66 w.2.2.2.2 w.1 w.2.1 w.2.2.1 w.2.2.2.1∧w.1.length≤0+i∧HF.le h w.2.2.2.2) (fun s1 i w=>(aa.L1 rec offices (aa.K1 offices x)) s1 w.1) ([],none,0,[],h) hx.list.1.1 hs1 ⟨cM.nil,lo,lf⟩ ?_ ?_ ?_
  ·rintro i1 ⟨iS,ly,lx,vP,hh1⟩ et hs3 ⟨oO,Ag,hl1⟩ e
   try dsimp only at oO Ag hl1
   let z5:Nat×Obj:=(b3,O [I x.Kind,I x.N,I (dA offices x.Name),.string x.Name,.slice ly iS.length lx] 66)
   let z19:Nat×Obj:=(b2,O [I x.Kind,I x.N,I (dA offices x.Name),.string x.Name,.slice ly iS.length lx] 66)
   refine sr (cJ 0 ty66 U U U (bE 1 ty66 U U U U U U (iW (L':=[z5,z19,z3]++(vP)) U (aM (eI Expr.ak ([z5,z19,z3]) vP ([]) ap hM oO (fun h3 hle3 sl2=>?_))))))
   have hs4:aa.F rec offices x=(Expr.mk x.Kind x.N (dA offices x.Name) x.Name iS):=hs3
   exact fR [.agg (List.toArray [I x.Kind,I x.N,I (dA offices x.Name),.string x.Name,.slice ly iS.length lx])] func230 U ⟨⟨1,_,_,_,_,U,U,.inl ⟨ty66,U⟩⟩,trivial⟩ ⟨(cm.mk ly lx),congrArg (fun r:Expr=>(.agg (Expr.cells r (cm.mk ly lx)).toArray:Value)) hs4.symm,(by rw [hs4];exact (show Expr.ok h3 (Expr.mk x.Kind x.N (dA offices x.Name) x.Name iS) (cm.mk ly lx) from Expr.ok.of sl2))⟩
  ·rintro i1 ⟨iS,ly,lx,vP,hh1⟩ y1 rz1 hd1 cw ao dy fB hs5 ⟨oO,Ag,hl1⟩ hx1 ag1 e
   try dsimp only at oO Ag hl1
   have hdy:=Expr.gj (fq hd1)
   refine qK 7 [2] U (ad (v':=.bool true) U (cb cw) (qO 5 U (eB ([z1,z3]) mixed kr jn (fun cB _=>qB [0,2,3] U (tf 4 U U (fun _ _ hj=>fI ty64 U (hj.nth (i:=1) U) U) (tm 5 U (gC 6 cB jn jh ty66 (hx.list.mono Expr.ak hl1).1 (nthZ ao) (au ao) U U U U kr (fun q2 cs2 A2 ln2 rr3=>?_))))))))
   obtain ⟨r2,rfl,ok3⟩:=rr3
   refine tf 7 U U (fun _ _ hj=>iQ ty66 (A2.mono hj.1) U U) ?_
   refine jq 1 8 kr U U ?_ ?_ 
   ·refine fu (fI ty64 U (mf (i:=0) U) U) (⟨jn,tn 8 U (cf Dg (hrec _ _ _ _ _ _ (hoffices.mono Rp.gl hl1) ok3 ob (Expr.gj (fq hd1))) U (fun v2 h4 hle4 hp2=>?_))⟩)
    obtain ⟨rr4,rfl,ok4⟩:=hp2
    refine ⟨jl hle4,tu hle4 (tn 9 U (bg (cells:=[I ((rec offices y1).Kind),I ((rec offices y1).N),I ((rec offices y1).No),.string ((rec offices y1).Name),.slice rr4.iL ((rec offices y1).L.length) rr4.iP]) jh ty66 zc66 U U kr (fun b5=>⟨jn,?_⟩)))⟩
    let z6:Nat×Obj:=(b3,O [I x.Kind,I x.N,I (dA offices x.Name),.string x.Name,.slice ly iS.length lx] 66)
    let z15:Nat×Obj:=(b5,O [I ((rec offices y1).Kind),I ((rec offices y1).N),I ((rec offices y1).No),.string ((rec offices y1).Name),.slice rr4.iL ((rec offices y1).L.length) rr4.iP] 66)
    exact tn 10 U (bS Expr.eC ([z15,z6,z1,z3]) ([]) (fun G=>[z15,z6,z1,z3]++G) ap (fun _=>ap) jh ty66 zc66 U bytes66 (oO.mono Expr.ak hle4) U U (du 0 U (show aP Expr.rp h4 [I ((rec offices y1).Kind),I ((rec offices y1).N),I ((rec offices y1).No),.string ((rec offices y1).Name),.slice rr4.iL ((rec offices y1).L.length) rr4.iP] ([(rec offices y1)]) from ⟨[I ((rec offices y1).Kind),I ((rec offices y1).N),I ((rec offices y1).No),.string ((rec offices y1).Name),.slice rr4.iL ((rec offices y1).L.length) rr4.iP],[],U,U,⟨rr4,U,ok4⟩,U⟩)) lo lo (fun ob2 oc2 G2 gr2=>⟨jn,qB [11] U (tn 12 U (j9 1 ty64 U U U U U U (⟨jn,aI kr (qT 3 U (ad (v':=I (((i1+1):Nat):Int)) U (aL ob) (an (bU (L':=[(b3,O [I x.Kind,I x.N,I (dA offices x.Name),.string x.Name,.slice ob2 ((iS++[(rec offices y1)]).length) oc2] 66),z1,z3]++G2) js (ag1 ((iS++[(rec offices y1)]),ob2,oc2,G2,h4) hs5 ⟨gr2,lo,(hl1.t hle4)⟩)))))⟩)))⟩))
   refine cf Dg (hrec _ _ _ _ _ _ (hoffices.mono Rp.gl hl1) ok3 ob (Expr.gj (fq hd1))) U (fun v3 h5 hle5 hp3=>?_)
   obtain ⟨rr5,rfl,ok5⟩:=hp3
   refine ⟨jl hle5,tu hle5 ?_⟩
   refine jq 1 9 kr U U ?_ ?_ 
   ·refine fu (fI ty64 U (mf (i:=0) U) U) (⟨jn,tn 9 U (bg (cells:=[I ((rec offices y1).Kind),I ((rec offices y1).N),I ((rec offices y1).No),.string ((rec offices y1).Name),.slice rr5.iL ((rec offices y1).L.length) rr5.iP]) jh ty66 zc66 U U kr (fun b6=>⟨jn,?_⟩))⟩)
    let z7:Nat×Obj:=(b3,O [I x.Kind,I x.N,I (dA offices x.Name),.string x.Name,.slice ly iS.length lx] 66)
    let z16:Nat×Obj:=(b6,O [I ((rec offices y1).Kind),I ((rec offices y1).N),I ((rec offices y1).No),.string ((rec offices y1).Name),.slice rr5.iL ((rec offices y1).L.length) rr5.iP] 66)
    exact tn 10 U (bS Expr.eC ([z16,z7,z1,z3]) ([]) (fun G=>[z16,z7,z1,z3]++G) ap (fun _=>ap) jh ty66 zc66 U bytes66 (oO.mono Expr.ak hle5) U U (du 0 U (show aP Expr.rp h5 [I ((rec offices y1).Kind),I ((rec offices y1).N),I ((rec offices y1).No),.string ((rec offices y1).Name),.slice rr5.iL ((rec offices y1).L.length) rr5.iP] ([(rec offices y1)]) from ⟨[I ((rec offices y1).Kind),I ((rec offices y1).N),I ((rec offices y1).No),.string ((rec offices y1).Name),.slice rr5.iL ((rec offices y1).L.length) rr5.iP],[],U,U,⟨rr5,U,ok5⟩,U⟩)) lo lo (fun ob3 oc3 G3 gr3=>⟨jn,qB [11] U (tn 12 U (j9 1 ty64 U U U U U U (⟨jn,aI kr (qT 3 U (ad (v':=I (((i1+1):Nat):Int)) U (aL ob) (an (bU (L':=[(b3,O [I x.Kind,I x.N,I (dA offices x.Name),.string x.Name,.slice ob3 ((iS++[(rec offices y1)]).length) oc3] 66),z1,z3]++G3) js (ag1 ((iS++[(rec offices y1)]),ob3,oc3,G3,h5) hs5 ⟨gr3,lo,(hl1.t hle5)⟩)))))⟩)))⟩))
   refine bg (cells:=[I ((rec offices y1).Kind),I ((rec offices y1).N),I ((rec offices y1).No),.string ((rec offices y1).Name),.slice rr5.iL ((rec offices y1).L.length) rr5.iP]) jh ty66 zc66 U U kr (fun b7=>⟨jn,tn 1 U (fu (fI ty64 U (mf (i:=1) U) U) (⟨jn,?_⟩))⟩)
   let z8:Nat×Obj:=(b3,O [I x.Kind,I x.N,I (dA offices x.Name),.string x.Name,.slice ly iS.length lx] 66)
   let z17:Nat×Obj:=(b7,O [I ((rec offices y1).Kind),I ((rec offices y1).N),I ((rec offices y1).No),.string ((rec offices y1).Name),.slice rr5.iL ((rec offices y1).L.length) rr5.iP] 66)
   exact tn 10 U (bS Expr.eC ([z17,z8,z1,z3]) ([]) (fun G=>[z17,z8,z1,z3]++G) ap (fun _=>ap) jh ty66 zc66 U bytes66 (oO.mono Expr.ak hle5) U U (du 0 U (show aP Expr.rp h5 [I ((rec offices y1).Kind),I ((rec offices y1).N),I ((rec offices y1).No),.string ((rec offices y1).Name),.slice rr5.iL ((rec offices y1).L.length) rr5.iP] ([(rec offices y1)]) from ⟨[I ((rec offices y1).Kind),I ((rec offices y1).N),I ((rec offices y1).No),.string ((rec offices y1).Name),.slice rr5.iL ((rec offices y1).L.length) rr5.iP],[],U,U,⟨rr5,U,ok5⟩,U⟩)) lo lo (fun ob4 oc4 G4 gr4=>⟨jn,qB [11] U (tn 12 U (j9 1 ty64 U U U U U U (⟨jn,aI kr (qT 3 U (ad (v':=I (((i1+1):Nat):Int)) U (aL ob) (an (bU (L':=[(b3,O [I x.Kind,I x.N,I (dA offices x.Name),.string x.Name,.slice ob4 ((iS++[(rec offices y1)]).length) oc4] 66),z1,z3]++G4) js (ag1 ((iS++[(rec offices y1)]),ob4,oc4,G4,h5) hs5 ⟨gr4,lo,(hl1.t hle5)⟩)))))⟩)))⟩))
  rintro i1 ⟨iS,ly,lx,vP,hh1⟩ hd1 eG hx e
  exact qK 7 [2] U (ad (v':=.bool false) U (cb eG) (qO 3 U (hx _ rd)))
 refine qK 4 [] U (dw 0 ty64 U U U U U U (qO 6 U ?_))
 let z2:Nat×Obj:=(b2,O [I 0,I 0,I 0,.string (⟨#[]⟩:ByteArray),.slice none 0 0] 66)
 let z4:Nat×Obj:=(b1,O (Expr.cells x eL) 66)
 refine lp2 x.L (fun i w=>[(0,.slice cX offices.length cW),(3,Q b1),(4,Q b2),(5,Q b3),(6,I (i:Int))]) (fun w=>w.2.2.2.2) (fun w=>[(b3,O [I x.Kind,I x.N,I 0,.string x.Name,.slice w.2.1 w.1.length w.2.2.1] 66),z2,z4]++(w.2.2.2.1)) (fun i w=>cM Expr.rp 66 w.2.2.2.2 w.1 w.2.1 w.2.2.1 w.2.2.2.1∧w.1.length≤0+i∧HF.le h w.2.2.2.2) (fun s2 i w=>(aa.L2 rec offices (aa.K2 x)) s2 w.1) ([],none,0,[],h) hx.list.1.1 hs2 ⟨cM.nil,lo,lf⟩ ?_ ?_ ?_
 ·rintro i2 ⟨iR,lw,lv,vN,hh2⟩ sK hs6 ⟨oM,Ac,hl2⟩ e
  try dsimp only at oM Ac hl2
  let z9:Nat×Obj:=(b3,O [I x.Kind,I x.N,I 0,.string x.Name,.slice lw iR.length lv] 66)
  let z20:Nat×Obj:=(b2,O [I x.Kind,I x.N,I 0,.string x.Name,.slice lw iR.length lv] 66)
  refine sr (cJ 0 ty66 U U U (bE 1 ty66 U U U U U U (iW (L':=[z9,z20,z4]++(vN)) U (aM (eI Expr.ak ([z9,z20,z4]) vN ([]) ap hM oM (fun h8 hle8 sl4=>?_))))))
  have hs7:aa.F rec offices x=(Expr.mk x.Kind x.N 0 x.Name iR):=hs6
  exact fR [.agg (List.toArray [I x.Kind,I x.N,I 0,.string x.Name,.slice lw iR.length lv])] func230 U ⟨⟨1,_,_,_,_,U,U,.inl ⟨ty66,U⟩⟩,trivial⟩ ⟨(cm.mk lw lv),congrArg (fun r:Expr=>(.agg (Expr.cells r (cm.mk lw lv)).toArray:Value)) hs7.symm,(by rw [hs7];exact (show Expr.ok h8 (Expr.mk x.Kind x.N 0 x.Name iR) (cm.mk lw lv) from Expr.ok.of sl4))⟩
 ·rintro i2 ⟨iR,lw,lv,vN,hh2⟩ y2 rz2 hd2 oI jJ vM Ew hs8 ⟨oM,Ac,hl2⟩ hx2 ag2 e
  try dsimp only at oM Ac hl2
  have hdy:=Expr.gj (fq hd2)
  refine qK 7 [2] U (ad (v':=.bool true) U (cb oI) (qO 5 U (eB ([z2,z4]) mixed kr jn (fun pC _=>qB [0,2,3] U (tf 4 U U (fun _ _ hj=>fI ty64 U (hj.nth (i:=1) U) U) (tm 5 U (gC 6 pC jn jh ty66 (hx.list.mono Expr.ak hl2).1 (nthZ jJ) (au jJ) U U U U kr (fun q4 cs4 A4 ln4 rr8=>?_))))))))
  obtain ⟨r4,rfl,ok8⟩:=rr8
  refine tf 7 U U (fun _ _ hj=>iQ ty66 (A4.mono hj.1) U U) ?_
  refine jq 1 8 kr U U ?_ ?_ 
  ·refine fu (fI ty64 U (mf (i:=0) U) U) (⟨jn,tn 8 U (cf Dg (hrec _ _ _ _ _ _ (hoffices.mono Rp.gl hl2) ok8 ob (Expr.gj (fq hd2))) U (fun v5 h9 hle9 hp5=>?_))⟩)
   obtain ⟨rr9,rfl,ok9⟩:=hp5
   refine ⟨jl hle9,tu hle9 (tn 9 U (bg (cells:=[I ((rec offices y2).Kind),I ((rec offices y2).N),I ((rec offices y2).No),.string ((rec offices y2).Name),.slice rr9.iL ((rec offices y2).L.length) rr9.iP]) jh ty66 zc66 U U kr (fun b9=>⟨jn,?_⟩)))⟩
   let z10:Nat×Obj:=(b3,O [I x.Kind,I x.N,I 0,.string x.Name,.slice lw iR.length lv] 66)
   let z18:Nat×Obj:=(b9,O [I ((rec offices y2).Kind),I ((rec offices y2).N),I ((rec offices y2).No),.string ((rec offices y2).Name),.slice rr9.iL ((rec offices y2).L.length) rr9.iP] 66)
   exact tn 10 U (bS Expr.eC ([z18,z10,z2,z4]) ([]) (fun G=>[z18,z10,z2,z4]++G) ap (fun _=>ap) jh ty66 zc66 U bytes66 (oM.mono Expr.ak hle9) U U (du 0 U (show aP Expr.rp h9 [I ((rec offices y2).Kind),I ((rec offices y2).N),I ((rec offices y2).No),.string ((rec offices y2).Name),.slice rr9.iL ((rec offices y2).L.length) rr9.iP] ([(rec offices y2)]) from ⟨[I ((rec offices y2).Kind),I ((rec offices y2).N),I ((rec offices y2).No),.string ((rec offices y2).Name),.slice rr9.iL ((rec offices y2).L.length) rr9.iP],[],U,U,⟨rr9,U,ok9⟩,U⟩)) lo lo (fun ob6 oc6 G6 gr6=>⟨jn,qB [11] U (tn 12 U (j9 1 ty64 U U U U U U (⟨jn,aI kr (qT 3 U (ad (v':=I (((i2+1):Nat):Int)) U (aL ob) (an (bU (L':=[(b3,O [I x.Kind,I x.N,I 0,.string x.Name,.slice ob6 ((iR++[(rec offices y2)]).length) oc6] 66),z2,z4]++G6) js (ag2 ((iR++[(rec offices y2)]),ob6,oc6,G6,h9) hs8 ⟨gr6,lo,(hl2.t hle9)⟩)))))⟩)))⟩))
  refine cf Dg (hrec _ _ _ _ _ _ (hoffices.mono Rp.gl hl2) ok8 ob (Expr.gj (fq hd2))) U (fun v6 h10 hle10 hp6=>?_)
  obtain ⟨rr10,rfl,ok10⟩:=hp6
  refine ⟨jl hle10,tu hle10 ?_⟩
  refine jq 1 9 kr U U ?_ ?_ 
  ·refine fu (fI ty64 U (mf (i:=0) U) U) (⟨jn,tn 9 U (bg (cells:=[I ((rec offices y2).Kind),I ((rec offices y2).N),I ((rec offices y2).No),.string ((rec offices y2).Name),.slice rr10.iL ((rec offices y2).L.length) rr10.iP]) jh ty66 zc66 U U kr (fun b10=>⟨jn,?_⟩))⟩)
   let z11:Nat×Obj:=(b3,O [I x.Kind,I x.N,I 0,.string x.Name,.slice lw iR.length lv] 66)
   let z13:Nat×Obj:=(b10,O [I ((rec offices y2).Kind),I ((rec offices y2).N),I ((rec offices y2).No),.string ((rec offices y2).Name),.slice rr10.iL ((rec offices y2).L.length) rr10.iP] 66)
   exact tn 10 U (bS Expr.eC ([z13,z11,z2,z4]) ([]) (fun G=>[z13,z11,z2,z4]++G) ap (fun _=>ap) jh ty66 zc66 U bytes66 (oM.mono Expr.ak hle10) U U (du 0 U (show aP Expr.rp h10 [I ((rec offices y2).Kind),I ((rec offices y2).N),I ((rec offices y2).No),.string ((rec offices y2).Name),.slice rr10.iL ((rec offices y2).L.length) rr10.iP] ([(rec offices y2)]) from ⟨[I ((rec offices y2).Kind),I ((rec offices y2).N),I ((rec offices y2).No),.string ((rec offices y2).Name),.slice rr10.iL ((rec offices y2).L.length) rr10.iP],[],U,U,⟨rr10,U,ok10⟩,U⟩)) lo lo (fun ob7 oc7 G7 gr7=>⟨jn,qB [11] U (tn 12 U (j9 1 ty64 U U U U U U (⟨jn,aI kr (qT 3 U (ad (v':=I (((i2+1):Nat):Int)) U (aL ob) (an (bU (L':=[(b3,O [I x.Kind,I x.N,I 0,.string x.Name,.slice ob7 ((iR++[(rec offices y2)]).length) oc7] 66),z2,z4]++G7) js (ag2 ((iR++[(rec offices y2)]),ob7,oc7,G7,h10) hs8 ⟨gr7,lo,(hl2.t hle10)⟩)))))⟩)))⟩))
  refine bg (cells:=[I ((rec offices y2).Kind),I ((rec offices y2).N),I ((rec offices y2).No),.string ((rec offices y2).Name),.slice rr10.iL ((rec offices y2).L.length) rr10.iP]) jh ty66 zc66 U U kr (fun b11=>⟨jn,tn 1 U (fu (fI ty64 U (mf (i:=1) U) U) (⟨jn,?_⟩))⟩)
  let z12:Nat×Obj:=(b3,O [I x.Kind,I x.N,I 0,.string x.Name,.slice lw iR.length lv] 66)
  let z14:Nat×Obj:=(b11,O [I ((rec offices y2).Kind),I ((rec offices y2).N),I ((rec offices y2).No),.string ((rec offices y2).Name),.slice rr10.iL ((rec offices y2).L.length) rr10.iP] 66)
  exact tn 10 U (bS Expr.eC ([z14,z12,z2,z4]) ([]) (fun G=>[z14,z12,z2,z4]++G) ap (fun _=>ap) jh ty66 zc66 U bytes66 (oM.mono Expr.ak hle10) U U (du 0 U (show aP Expr.rp h10 [I ((rec offices y2).Kind),I ((rec offices y2).N),I ((rec offices y2).No),.string ((rec offices y2).Name),.slice rr10.iL ((rec offices y2).L.length) rr10.iP] ([(rec offices y2)]) from ⟨[I ((rec offices y2).Kind),I ((rec offices y2).N),I ((rec offices y2).No),.string ((rec offices y2).Name),.slice rr10.iL ((rec offices y2).L.length) rr10.iP],[],U,U,⟨rr10,U,ok10⟩,U⟩)) lo lo (fun ob8 oc8 G8 gr8=>⟨jn,qB [11] U (tn 12 U (j9 1 ty64 U U U U U U (⟨jn,aI kr (qT 3 U (ad (v':=I (((i2+1):Nat):Int)) U (aL ob) (an (bU (L':=[(b3,O [I x.Kind,I x.N,I 0,.string x.Name,.slice ob8 ((iR++[(rec offices y2)]).length) oc8] 66),z2,z4]++G8) js (ag2 ((iR++[(rec offices y2)]),ob8,oc8,G8,h10) hs8 ⟨gr8,lo,(hl2.t hle10)⟩)))))⟩)))⟩))
 rintro i2 ⟨iR,lw,lv,vN,hh2⟩ hd2 Bc hx e
 exact qK 7 [2] U (ad (v':=.bool false) U (cb Bc) (qO 3 U (hx _ rd)))
theorem nr:∀ (m:Nat) (h:HF) (offices:List ByteArray) (cX:Option Addr) (cW:Nat) (x:Expr) (eL:cm) (_:x.dep≤m) (hoffices:SlC Rp.str h cX cW offices) (hx:Expr.ok h x eL) (hsz:x.dep≤2000000),iq prog 230 [.slice cX offices.length cW,.agg (Expr.cells x eL).toArray] h (fun v h'=>∃ (rr0:cm),v=.agg (Expr.cells (aa.go m offices x) rr0).toArray∧Expr.ok h' (aa.go m offices x) rr0)
 | 0,h,offices,cX,cW,x,eL,hd,hoffices,hx,hsz=>absurd hd (Nat.not_le.2 (Expr.jH _))
 | m+1,h,offices,cX,cW,x,eL,hd,hoffices,hx,hsz=>uC (aa.go m) h offices cX cW x eL (fun qh_ qoffices iC iB qx iT qhoffices qhx qhsz qd=>nr m qh_ qoffices iC iB qx iT ob qhoffices qhx qhsz) hoffices hx hsz
theorem po (h:HF) (offices:List ByteArray) (cX:Option Addr) (cW:Nat) (x:Expr) (eL:cm) (hoffices:SlC Rp.str h cX cW offices) (hx:Expr.ok h x eL) (hsz:x.dep≤2000000):iq prog 230 [.slice cX offices.length cW,.agg (Expr.cells x eL).toArray] h (fun v h'=>∃ (rr0:cm),v=.agg (Expr.cells (aa offices x) rr0).toArray∧Expr.ok h' (aa offices x) rr0):=nr _ h offices cX cW x eL (Nat.le_refl _) hoffices hx hsz
end Go.Sg
