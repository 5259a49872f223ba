import Derived.Shelf.SlSortCmp.WholeK
import Derived.Ground.SlsfProg
import Derived.Shelf.Small.Bits
import Derived.Shelf.Small.Strs
import Derived.Shelf.Strconv.Itoa0
import Derived.Shelf.Strings.Search1
import Derived.Shelf.Sort.Plain
import Derived.Ground.Names2Prog
import Derived.Shelf.Slices.Clone
import Derived.Shelf.Slices.SearchI
import Derived.Shelf.Slices.In.SortNone
import Derived.Shelf.Slices.Empties
import Derived.Ground.SlgcProg
import Derived.Shelf.SlicesG.Cmp
import Derived.Sort.OwnSortedInts
import Derived.Test.YtngiefchigcphaaGreatDoorW6
/- A part of the proof of AsofNeededSpec. -/
set_option linter.unusedVariables false
set_option linter.unusedSimpArgs false
set_option maxRecDepth 100000
namespace Go.Sg
open Go.Proofs Go.Proofs.Tryz
set_option maxHeartbeats 2000000
theorem ve (h:HF) (x:Approval)  : Ret prog 107 [.agg (Approval.cells x).toArray] h (.bool (jP x)):=by
 refine sT func107 U ntmps107 U fun X hM hX hF=>?_
 have hs0:jP x=jP x:=rfl
 refine sr (cA (fun b1=>qL 6 [0] U (aA (bg (cells:=[I x.No]) cQ ty3 zc3 U U kr (fun b2=>bN 0 U hM (fun h1 hle1 hb1=>?_))))))
 have sl1:SlC Rp.int h1 (some ⟨b2,0,none⟩) 1 ([x.No]):=aP.slB0 (T:=3) (fz:=(0,0)) ((show aP Rp.int h [I x.No] ([x.No]) from ⟨[I x.No],[],rfl,rfl,rfl,rfl⟩).mono Rp.aK hle1) hb1
 refine ah FH (jv _ 1048576 _ _ _ sl1) U (aj (bx 7 [7,8,9,10,11,12,13,14] 7 14 (dQ 1099511627775 ([x.At,x.Known])) U (fun c1 hk1=>?_) (fun e=>?_)))
 ·refine qL 4 [0,0] U (aA (bg (cells:=[I x.At,I x.Known]) cQ ty3 zc3 U U kr (fun b3=>bN 0 U hM (fun h2 hle2 hb2=>?_))))
  have sl2:SlC Rp.int h2 (some ⟨b3,0,none⟩) 2 ([x.At,x.Known]):=aP.slB0 (T:=3) (fz:=(0,0)) ((show aP Rp.int h1 [I x.At,I x.Known] ([x.At,x.Known]) from ⟨[I x.At],[I x.Known],rfl,rfl,rfl,⟨[I x.Known],[],rfl,rfl,rfl,rfl⟩⟩).mono Rp.aK hle2) hb2
  exact ah FH (jv _ 1099511627775 _ _ _ sl2) U (dZ U (kV (h:=h1) hle2 hX hle1 (hk1 _ U)))
 refine aj (bx 5 [15,16,17,18,19,20] 15 20 (dQ 4095 ([x.Doc])) U (fun c2 hk2=>?_) (fun e=>?_))
 ·refine qL 2 [0] U (aA (bg (cells:=[I x.Doc]) cQ ty3 zc3 U U kr (fun b4=>bN 0 U hM (fun h3 hle3 hb3=>?_))))
  have sl3:SlC Rp.int h3 (some ⟨b4,0,none⟩) 1 ([x.Doc]):=aP.slB0 (T:=3) (fz:=(0,0)) ((show aP Rp.int h1 [I x.Doc] ([x.Doc]) from ⟨[I x.Doc],[],rfl,rfl,rfl,rfl⟩).mono Rp.aK hle3) hb3
  exact ah FH (jv _ 4095 _ _ _ sl3) U (dZ U (kV (h:=h1) hle3 hX hle1 (hk2 _ U)))
 refine aj (bx 7 [21,22,23,24,25,26,27,28] 21 28 (dQ 63 ([x.By,x.For])) U (fun c3 hk3=>?_) (fun e=>?_))
 ·refine qL 4 [0,0] U (aA (bg (cells:=[I x.By,I x.For]) cQ ty3 zc3 U U kr (fun b5=>bN 0 U hM (fun h4 hle4 hb4=>?_))))
  have sl4:SlC Rp.int h4 (some ⟨b5,0,none⟩) 2 ([x.By,x.For]):=aP.slB0 (T:=3) (fz:=(0,0)) ((show aP Rp.int h1 [I x.By,I x.For] ([x.By,x.For]) from ⟨[I x.By],[I x.For],rfl,rfl,rfl,⟨[I x.For],[],rfl,rfl,rfl,rfl⟩⟩).mono Rp.aK hle4) hb4
  exact ah FH (jv _ 63 _ _ _ sl4) U (dZ U (kV (h:=h1) hle4 hX hle1 (hk3 _ U)))
 refine aj (bx 5 [29,30,31,32,33,34] 29 34 (dQ 31 ([x.Office])) U (fun c4 hk4=>?_) (fun e=>?_))
 ·refine qL 2 [0] U (aA (bg (cells:=[I x.Office]) cQ ty3 zc3 U U kr (fun b6=>bN 0 U hM (fun h5 hle5 hb5=>?_))))
  have sl5:SlC Rp.int h5 (some ⟨b6,0,none⟩) 1 ([x.Office]):=aP.slB0 (T:=3) (fz:=(0,0)) ((show aP Rp.int h1 [I x.Office] ([x.Office]) from ⟨[I x.Office],[],rfl,rfl,rfl,rfl⟩).mono Rp.aK hle5) hb5
  exact ah FH (jv _ 31 _ _ _ sl5) U (dZ U (kV (h:=h1) hle5 hX hle1 (hk4 _ U)))
 exact an (nretP [.bool (((((dQ 1048576 ([x.No]))&&(dQ 1099511627775 ([x.At,x.Known])))&&(dQ 4095 ([x.Doc])))&&(dQ 63 ([x.By,x.For])))&&(dQ 31 ([x.Office])))] (cs hs0))
theorem vf (h:HF) (l:List Approval) (ey:Option Addr) (ew:Nat) (hl:SlC Approval.rp h ey ew l):Ret prog 57 [.slice ey l.length ew] h (I (cq l)):=by
 refine sT func57 U ntmps57 U fun X hM hX hF=>?_
 have hs0:cq l=cq l:=rfl
 refine qK 11 [] U (ac hs0 U (fun c1 hs1=>?_) (fun c1 hs2=>?_))
 ·have c1p:=of_decide_eq_true c1
  exact sr (an (nretP [I 2] (ci hs1)))
 have c1p:=of_decide_eq_false c1
 refine qK 12 [] U ?_
 refine lp1 l (fun i w=>[(3,I w),(9,.slice ey l.length ew),(10,I (l.length:Int)),(11,I (i:Int))]) ([]) (fun s1 i w=>(cq.L1 (cq.K1)) s1 w) (-1) hl.1.1 hs2 ?_ ?_
 ·rintro i1 gF et hs4 e
  exact sr (an (nretP [I 0] (ci hs4)))
 rintro i1 gF y1 rz1 hd1 cw ao dy fB hs6 hx1 ag1 e
 refine sr (ad (v':=.bool true) U (cb cw) (qO 8 U (aA (ek (enc:=Approval.cells) ei FO ty181 hl.1 (nthZ ao) (au ao) U U U (fun q2 A2=>de ty181 A2 U U (bH zc181 (fun b2=>bE 0 ty181 U U U U U U (qO 4 U (cJ 0 ty181 U U U (ah call107 (ve h y1) U (qO 2 U (ce 5 [18,19,20,21,22,23] 18 23 (decide (y1.No≤gF)) U (fun c2 hk1=>?_) (fun e=>?_)))))))))))))
 ·exact qL 5 [0] U (hk1 _ U)
 refine aM (ac hs6 U (fun c3 hs7=>?_) (fun c3 hs8=>?_))
 ·exact sr (an (nretP [I 280] (ci hs7)))
 exact qK 8 [0] U (ad (v':=I (((i1+1):Nat):Int)) U (aL ob) (qO 2 U (bU (L':=[]) js (ag1 y1.No hs8))))
theorem sG (h:HF) (aT:Register) (dt:dH) (gD:Register.ok h aT dt) (hsm:smR aT) (hk:Kinds h):Ret prog 26 [.agg (Register.cells aT dt).toArray] h (I (eH aT)):=by
 refine sT func26 U ntmps26 U fun X hM hX hF=>?_
 have hs0:eH aT=eH aT:=rfl
 have hsv:=hsm.vers
 refine sr (cA (fun b1=>qO 4 U ?_))
 let z1:Nat×Obj:=(b1,O (Register.cells aT dt) 30)
 refine eB ([z1]) mixed kr jn (fun cB _=>?_)
 refine qB [0] U (tf 1 U U (fun _ _ hj=>fI ty22 U (hj.nth (i:=0) U) U) (qB [3] U (tf 4 U U (fun _ _ hj=>fI ty23 U (hj.nth (i:=0) U) U) (qB [6] U (tf 7 U U (fun _ _ hj=>fI ty24 U (hj.nth (i:=0) U) U) (qB [9] U (tf 10 U U (fun _ _ hj=>fI ty25 U (hj.nth (i:=0) U) U) (qB [12] U (tf 13 U U (fun _ _ hj=>fI ty26 U (hj.nth (i:=0) U) U) (qB [15] U (tf 16 U U (fun _ _ hj=>fI ty27 U (hj.nth (i:=0) U) U) (qB [18] U (tf 19 U U (fun _ _ hj=>fI ty28 U (hj.nth (i:=0) U) U) (tm 23 U (tn 2 U (eK call51 (qc _ _ _ _ gD.Appoints) U (⟨jn,tn 5 U (eK call52 (wa _ _ _ _ gD.Deputies) U (⟨jn,tn 8 U (eK call53 (oH _ _ _ _ gD.Interests) U (⟨jn,tn 11 U (eK call54 (wZ _ _ _ _ gD.Budgets) U (⟨jn,tn 14 U (eK call55 (ny _ _ _ _ gD.Versions ob hk) U (⟨jn,(tn 17 U (eK call56 (uZ _ _ _ _ gD.Docs) U (⟨jn,(tn 20 U (eK call57 (vf _ _ _ _ gD.Approvals) U (⟨jn,(tn 21 U (bg (cells:=[I (cn aT.Appoints),I (di aT.Deputies),I (bJ aT.Interests),I (dk aT.Budgets),I (bh aT.Versions),I (bI aT.Docs),I (cq aT.Approvals)]) underlying117 ty35 zc35 U U kr (fun b2=>⟨jn,(tf 22 U U (fun _ _ _=>DR underlying117 U) (aI kr (eM 0 U hM (fun h1 hle1 hb1=>?_))))⟩)))⟩)))⟩)))⟩))⟩))⟩))⟩))⟩)))))))))))))))))
 have sl1:SlC Rp.int h1 (some ⟨b2,0,none⟩) 7 ([(cn aT.Appoints),(di aT.Deputies),(bJ aT.Interests),(dk aT.Budgets),(bh aT.Versions),(bI aT.Docs),(cq aT.Approvals)]):=aP.slB0 (T:=35) (fz:=(0,0)) ((show aP Rp.int h [I (cn aT.Appoints),I (di aT.Deputies),I (bJ aT.Interests),I (dk aT.Budgets),I (bh aT.Versions),I (bI aT.Docs),I (cq aT.Approvals)] ([(cn aT.Appoints),(di aT.Deputies),(bJ aT.Interests),(dk aT.Budgets),(bh aT.Versions),(bI aT.Docs),(cq aT.Approvals)]) from ⟨[I (cn aT.Appoints)],[I (di aT.Deputies),I (bJ aT.Interests),I (dk aT.Budgets),I (bh aT.Versions),I (bI aT.Docs),I (cq aT.Approvals)],rfl,rfl,rfl,⟨[I (di aT.Deputies)],[I (bJ aT.Interests),I (dk aT.Budgets),I (bh aT.Versions),I (bI aT.Docs),I (cq aT.Approvals)],rfl,rfl,rfl,⟨[I (bJ aT.Interests)],[I (dk aT.Budgets),I (bh aT.Versions),I (bI aT.Docs),I (cq aT.Approvals)],rfl,rfl,rfl,⟨[I (dk aT.Budgets)],[I (bh aT.Versions),I (bI aT.Docs),I (cq aT.Approvals)],rfl,rfl,rfl,⟨[I (bh aT.Versions)],[I (bI aT.Docs),I (cq aT.Approvals)],rfl,rfl,rfl,⟨[I (bI aT.Docs)],[I (cq aT.Approvals)],rfl,rfl,rfl,⟨[I (cq aT.Approvals)],[],rfl,rfl,rfl,rfl⟩⟩⟩⟩⟩⟩⟩).mono Rp.aK hle1) hb1
 refine iH (ι:=Nat) (fun i=>[]) (fun i=>h1) (fun i=>[z1]) (fun i=>i≤(List.range 7).length∧eH aT=((eH.K1))) ?_ (fun hx1=>?_)
 ·rintro i1 ⟨et,hs1⟩ e
  exact sr (an (nretP [I 0] (ci hs1)))
 refine j5 (ι:=Nat×List Nat) (fun i=>[(26,.slice (some ⟨b2,0,none⟩) 7 7),(27,I 7),(28,I (i.1:Int))]) (fun i=>h1) (fun i=>[z1]) (fun i=>(List.range 7).drop i.1=i.2∧i.1≤(List.range 7).length∧eH aT=((eH.L1 aT (eH.K1)) i.2 i.1)) (fun i=>i.2.length) (0,(List.range 7)) rd sw ⟨U,Nat.zero_le _,hs0⟩ ?_
 rintro ⟨i1,s1⟩ ⟨hd1,et,hs3⟩ ag1 e
 rcases s1 with _ | ⟨y1,rz1⟩
 ·have eG:decide ((i1:Int) < 7)=false:=by simpa using nN hd1
  exact sr (ad (v':=.bool false) U (cb eG) (qO 4 U (hx1 i1 _ ⟨et,hs3⟩ trivial)))
 have cw:decide ((i1:Int) < 7)=true:=by simpa using uo hd1
 have dy:i1 < 7:=by simpa using iY hd1
 refine sr (ad (v':=.bool true) U (cb cw) (qO 8 U ?_))
 have ho2:0≤((i1:Int):Int)∧((i1:Int):Int) < (([(cn aT.Appoints),(di aT.Deputies),(bJ aT.Interests),(dk aT.Budgets),(bh aT.Versions),(bI aT.Docs),(cq aT.Approvals)]).length:Int):=ob
 refine aA (ek (enc:=fun y=>[I y]) ei underlying117 ty35 sl1.1 ho2 (bT ho2) U U U (fun q2 A2=>cK ty35 A2 U (qO 7 U (ac hs3 U (fun c2 hs5=>?_) (fun c2 hs6=>?_)))))
 ·exact sr (an (nretP [I 300] (ci hs5)))
 exact aE (qT 2 U (ad (v':=I (((i1+1):Nat):Int)) U (aL ob) (qO 2 U (ag1 ((i1+1),rz1) _ (Nat.lt_succ_self _) ⟨lL hd1,iY hd1,hs6⟩ rd))))
theorem wi (h:HF) (t:Int)  : Ret prog 37 [I t] h (.bool (jp t)):=by
 refine sT func37 U ntmps37 U fun X hM hX hF=>?_
 have hs0:jp t=jp t:=rfl
 refine qT 9 U (bx 3 [5,6,7,8] 5 8 (decide (t < 1099511627776)) U (fun c1 hk1=>?_) (fun e=>?_))
 ·exact aj (qO 2 U (hk1 _ U))
 exact an (nretP [.bool (decide (0≤t)&&decide (t < 1099511627776))] (cs hs0))
theorem nJ (h:HF) (s:List Document) (uc:Option Addr) (tb:Nat) (f:(Document→Bool)) (f_v:Value) (hs:SlC Document.rp h uc tb s) (hf:∀ (h':HF) (ed:Document) (JQ:gE),HF.le h h'→Document.ok h' ed JQ→w5 prog f_v [.agg (Document.cells ed JQ).toArray] h' [] (.bool (f ed))):Ret prog 58 [.slice uc s.length tb,f_v] h (I (ab s f)):=by
 refine sT func58 U ntmps58 U fun X hM hX hF=>?_
 have hs0:ab s f=ab s f:=rfl
 refine qK 11 [] U ?_
 refine lp0 s (fun i=>[(0,.slice uc s.length tb),(1,f_v),(7,I (s.length:Int)),(8,I (i:Int))]) ([]) (fun s1 i=>(ab.L1 f (ab.K1)) s1 i) hs.1.1 hs0 ?_ ?_
 ·rintro i1 et hs1 e
  exact sr (an (nretP [I (-1)] (ci hs1)))
 rintro i1 y1 rz1 hd1 cw ao dy fB hs3 hx1 ag1 e
 refine sr (ad (v':=.bool true) U (cb cw) (qO 16 U (aA (dV pH ty52 hs.1 (nthZ ao) (au ao) U U U (fun _ _ _ e=>e) (fun q2 r2 A2 ok2=>de ty52 A2 U U (aA (nU (v:=.bool (f y1)) [] (List.nil_sublist _) (hf h y1 r2 lf ok2) U U (aM (ac hs3 U (fun c2 hs4=>?_) (fun c2 hs5=>?_))))))))))
 ·exact sr (qO 3 U (nretP [I (i1:Int)] (ci hs4)))
 exact aE (qT 2 U (ad (v':=I (((i1+1):Nat):Int)) U (aL ob) (qO 2 U (ag1 hs5))))
theorem wR (s:List Document) (f:Document→Bool):ab s f < (s.length:Int):=by
 have key:∀ (l:List Document) (i:Nat),ab.L1 f ab.K1 l i < ((i+l.length:Nat):Int):=by
  intro l
  induction l with
  | nil=>intro i;simp only [ab.L1,ab.K1];omega
  | cons y l ih=>
   intro i
   simp only [ab.L1,Bool.cond_eq_ite,List.length_cons]
   split
   ·omega
   have:=ih (i+1);omega
 have:=key s 0
 simpa [ab] using this
theorem Bj (h:HF) (d:Document) (wo:gE) (v0:Int) (v0_q:Addr) (hd:Document.ok h d wo) (av0:At h v0_q [I v0]):Ret prog 59 [.agg (Document.cells d wo).toArray,.pointer (some v0_q)] h (.bool (bQ d v0)):=by
 refine sT func59 U ntmps59 U fun X hM hX hF=>?_
 have hs0:bQ d v0=bQ d v0:=rfl
 exact sr (cA (fun b1=>qL 6 [0] U (cK ty3 av0 U (qO 3 U (nretP [.bool (d.No==v0)] (cs hs0))))))
theorem xY (h:HF) (aT:Register) (dt:dH) (doc:Int) (known:Int) (gD:Register.ok h aT dt):iq prog 27 [.agg (Register.cells aT dt).toArray,I doc,I known] h (fun v h'=>∃ (rr0:fL),v=.tuple #[.agg (aC.cells ((cG aT doc known).1) rr0).toArray,.bool ((cG aT doc known).2)]∧aC.ok h' ((cG aT doc known).1) rr0):=by
 refine cU func27 U ntmps27 U fun X hM hX=>?_
 have hs0:cG aT doc known=cG aT doc known:=rfl
 refine sr (cA (fun b1=>cA (fun b2=>bH zc77 (fun b3=>qL 6 [2] U (bN 1 U hM (fun h1 hle1 hb1=>aA (fX U U (ah call58 (nJ _ _ _ _ (fun ed=>bQ ed doc) (.func (.func 59) #[] #[Q b2]) (gD.Docs.mono Document.ak hle1) (fun h' ed JQ hle a0_o=>i0 call59 (Bj h' ed JQ doc ⟨b2,0,none⟩ a0_o ((dp hb1).mono hle)))) U (qO 8 U (ce 4 [15,16,17,18,19] 15 19 (!(jp known)) U (fun c1 hk1=>?_) (fun e=>?_)))))))))))
 ·exact aj (ah call37 (wi h1 known) U (qO 2 U (hk1 _ U)))
 refine aM (ac hs0 U (fun c2 hs1=>?_) (fun c2 hs2=>?_))
 ·refine sr (cJ 0 ty77 U U U (bE 0 ty77 U U U U U U (an ?_)))
  have hs3:cG aT doc known=((aC.mk (Register.mk ([]) ([]) ([]) ([]) ([]) ([]) ([])) (Document.mk 0 0 0 0 0 0 ([]) ([]) ([]) (fun _=>0)) 0),false):=hs1
  exact fR [.agg (aC.cells (aC.mk (Register.mk ([]) ([]) ([]) ([]) ([]) ([]) ([])) (Document.mk 0 0 0 0 0 0 ([]) ([]) ([]) (fun _=>0)) 0) (fL.mk (dH.mk none 0 none 0 none 0 none 0 none 0 none 0 none 0) (gE.mk none 0 none 0 none 0))).toArray,.bool false] func27 U ⟨⟨0,_,_,_,_,U,U,.inl ⟨ty77,U⟩⟩,U,trivial⟩ ⟨(fL.mk (dH.mk none 0 none 0 none 0 none 0 none 0 none 0 none 0) (gE.mk none 0 none 0 none 0)),congrArg (fun r:(aC×Bool)=>(.tuple #[.agg (aC.cells r.1 (fL.mk (dH.mk none 0 none 0 none 0 none 0 none 0 none 0 none 0) (gE.mk none 0 none 0 none 0))).toArray,.bool r.2]:Value)) hs3.symm,(by rw [hs3];exact (show aC.ok h1 (aC.mk (Register.mk ([]) ([]) ([]) ([]) ([]) ([]) ([])) (Document.mk 0 0 0 0 0 0 ([]) ([]) ([]) (fun _=>0)) 0) (fL.mk (dH.mk none 0 none 0 none 0 none 0 none 0 none 0 none 0) (gE.mk none 0 none 0 none 0)) from ⟨(show Register.ok h1 (Register.mk ([]) ([]) ([]) ([]) ([]) ([]) ([])) (dH.mk none 0 none 0 none 0 none 0 none 0 none 0 none 0) from ⟨SlC.nil,SlC.nil,SlC.nil,SlC.nil,SlC.nil,SlC.nil,SlC.nil⟩),(show Document.ok h1 (Document.mk 0 0 0 0 0 0 ([]) ([]) ([]) (fun _=>0)) (gE.mk none 0 none 0 none 0) from ⟨SlC.nil,SlC.nil,SlC.nil⟩)⟩))⟩
 refine qT 2 U ?_
 let z1:Nat×Obj:=(b1,O (Register.cells aT dt) 30)
 refine eB ([z1]) mixed kr jn (fun cB _=>?_)
 refine tf 0 U U (fun _ _ hj=>jj ty30 U (hj.nth (i:=0) U) U) (qB [1] U (tf 2 U U (fun _ _ hj=>fI ty27 U (hj.nth (i:=0) U) U) (tm 3 U ?_)))
 have ho1:0≤((ab aT.Docs (fun ed=>bQ ed doc)):Int)∧((ab aT.Docs (fun ed=>bQ ed doc)):Int) < ((aT.Docs).length:Int):=(by have:=wR aT.Docs (fun ed=>bQ ed doc);simp only [decide_eq_true_eq,decide_eq_false_iff_not,Bool.and_eq_true,Bool.or_eq_true,Bool.not_eq_true',Bool.not_eq_false',Bool.and_eq_false_iff,Bool.or_eq_false_iff,beq_iff_eq,beq_eq_false_iff_ne,bne_iff_ne,bne_eq_false_iff_eq,List.length_append,List.length_cons,List.length_nil,List.length_drop] at *;omega)
 refine gC 4 cB jn pH ty52 (gD.Docs.mono Document.ak hle1).1 ho1 (bT ho1) U U U U kr (fun q1 cs1 A1 ln1 rr1=>?_)
 obtain ⟨r1,rfl,ok1⟩:=rr1
 refine tf 5 U U (fun _ _ hj=>iQ ty52 (A1.mono hj.1) U U) (tm 6 U (tn 7 U (er (cells:=[.slice dt.kK aT.Appoints.length dt.kJ,.slice dt.lF aT.Deputies.length dt.lE,.slice dt.lD aT.Interests.length dt.lC,.slice dt.mD aT.Budgets.length dt.mC,.slice dt.kI aT.Versions.length dt.kH,.slice dt.s9 aT.Docs.length dt.s8,.slice dt.kB aT.Approvals.length dt.kA,I ((nthI aT.Docs (ab aT.Docs (fun ed=>bQ ed doc))).No),I ((nthI aT.Docs (ab aT.Docs (fun ed=>bQ ed doc))).At),I ((nthI aT.Docs (ab aT.Docs (fun ed=>bQ ed doc))).Kind),I ((nthI aT.Docs (ab aT.Docs (fun ed=>bQ ed doc))).Value),I ((nthI aT.Docs (ab aT.Docs (fun ed=>bQ ed doc))).From),I ((nthI aT.Docs (ab aT.Docs (fun ed=>bQ ed doc))).Until),.slice r1.tG ((nthI aT.Docs (ab aT.Docs (fun ed=>bQ ed doc))).Parties.length) r1.tE,.slice r1.tD ((nthI aT.Docs (ab aT.Docs (fun ed=>bQ ed doc))).Revokes.length) r1.tC,.slice r1.yI ((nthI aT.Docs (ab aT.Docs (fun ed=>bQ ed doc))).Needs.length) r1.yH,Y ((nthI aT.Docs (ab aT.Docs (fun ed=>bQ ed doc))).Text 0),Y ((nthI aT.Docs (ab aT.Docs (fun ed=>bQ ed doc))).Text 1),Y ((nthI aT.Docs (ab aT.Docs (fun ed=>bQ ed doc))).Text 2),Y ((nthI aT.Docs (ab aT.Docs (fun ed=>bQ ed doc))).Text 3),Y ((nthI aT.Docs (ab aT.Docs (fun ed=>bQ ed doc))).Text 4),Y ((nthI aT.Docs (ab aT.Docs (fun ed=>bQ ed doc))).Text 5),Y ((nthI aT.Docs (ab aT.Docs (fun ed=>bQ ed doc))).Text 6),Y ((nthI aT.Docs (ab aT.Docs (fun ed=>bQ ed doc))).Text 7),Y ((nthI aT.Docs (ab aT.Docs (fun ed=>bQ ed doc))).Text 8),Y ((nthI aT.Docs (ab aT.Docs (fun ed=>bQ ed doc))).Text 9),Y ((nthI aT.Docs (ab aT.Docs (fun ed=>bQ ed doc))).Text 10),Y ((nthI aT.Docs (ab aT.Docs (fun ed=>bQ ed doc))).Text 11),Y ((nthI aT.Docs (ab aT.Docs (fun ed=>bQ ed doc))).Text 12),Y ((nthI aT.Docs (ab aT.Docs (fun ed=>bQ ed doc))).Text 13),Y ((nthI aT.Docs (ab aT.Docs (fun ed=>bQ ed doc))).Text 14),Y ((nthI aT.Docs (ab aT.Docs (fun ed=>bQ ed doc))).Text 15),Y ((nthI aT.Docs (ab aT.Docs (fun ed=>bQ ed doc))).Text 16),Y ((nthI aT.Docs (ab aT.Docs (fun ed=>bQ ed doc))).Text 17),Y ((nthI aT.Docs (ab aT.Docs (fun ed=>bQ ed doc))).Text 18),Y ((nthI aT.Docs (ab aT.Docs (fun ed=>bQ ed doc))).Text 19),Y ((nthI aT.Docs (ab aT.Docs (fun ed=>bQ ed doc))).Text 20),Y ((nthI aT.Docs (ab aT.Docs (fun ed=>bQ ed doc))).Text 21),Y ((nthI aT.Docs (ab aT.Docs (fun ed=>bQ ed doc))).Text 22),Y ((nthI aT.Docs (ab aT.Docs (fun ed=>bQ ed doc))).Text 23),Y ((nthI aT.Docs (ab aT.Docs (fun ed=>bQ ed doc))).Text 24),Y ((nthI aT.Docs (ab aT.Docs (fun ed=>bQ ed doc))).Text 25),Y ((nthI aT.Docs (ab aT.Docs (fun ed=>bQ ed doc))).Text 26),Y ((nthI aT.Docs (ab aT.Docs (fun ed=>bQ ed doc))).Text 27),Y ((nthI aT.Docs (ab aT.Docs (fun ed=>bQ ed doc))).Text 28),Y ((nthI aT.Docs (ab aT.Docs (fun ed=>bQ ed doc))).Text 29),Y ((nthI aT.Docs (ab aT.Docs (fun ed=>bQ ed doc))).Text 30),Y ((nthI aT.Docs (ab aT.Docs (fun ed=>bQ ed doc))).Text 31),I known]) (places:=[(0,7),(7,41),(48,1)]) underlying77 zc77 kr kr ?_)))
 refine ⟨jn,(tn 8 U (rX 0 ty77 U U U U U U (⟨jn,(qA [9] U (aI kr ?_))⟩)))⟩
 have hs4:cG aT doc known=((aC.mk aT (nthI aT.Docs (ab aT.Docs (fun ed=>bQ ed doc))) known),true):=hs2
 exact fR [.agg (aC.cells (aC.mk aT (nthI aT.Docs (ab aT.Docs (fun ed=>bQ ed doc))) known) (fL.mk dt r1)).toArray,.bool true] func27 U ⟨⟨0,_,_,_,_,U,U,.inl ⟨ty77,U⟩⟩,U,trivial⟩ ⟨(fL.mk dt r1),congrArg (fun r:(aC×Bool)=>(.tuple #[.agg (aC.cells r.1 (fL.mk dt r1)).toArray,.bool r.2]:Value)) hs4.symm,(by rw [hs4];exact (show aC.ok h1 (aC.mk aT (nthI aT.Docs (ab aT.Docs (fun ed=>bQ ed doc))) known) (fL.mk dt r1) from ⟨(gD.mono hle1),ok1⟩))⟩
theorem AE (h:HF) (who:List Int) (dU:Option Addr) (dT:Nat) (hwho:SlC Rp.int h dU dT who):Ret prog 28 [.slice dU who.length dT] h (.bool (iO who)):=by
 refine sT func28 U ntmps28 U fun X hM hX hF=>?_
 have hs0:iO who=iO who:=rfl
 refine qK 15 [] U ?_
 refine lp1 who (fun i w=>[(3,I w),(6,.slice dU who.length dT),(7,I (who.length:Int)),(8,I (i:Int))]) ([]) (fun s1 i w=>(iO.L1 (iO.K1)) s1 w) (-1) hwho.1.1 hs0 ?_ ?_
 ·rintro i1 gF et hs1 e
  exact sr (an (nretP [.bool true] (cs hs1)))
 rintro i1 gF y1 rz1 hd1 cw ao dy fB hs3 hx1 ag1 e
 refine sr (ad (v':=.bool true) U (cb cw) (qO 8 U (aA (ek (enc:=fun y=>[I y]) ei cQ ty3 hwho.1 (nthZ ao) (au ao) U U U (fun q2 A2=>cK ty3 A2 U (qO 9 U (ce 3 [15,16,17,18] 15 18 (decide (64≤y1)) U (fun c1 hk1=>?_) (fun e=>?_))))))))
 ·exact aj (qO 2 U (hk1 _ U))
 refine aM (ac hs3 U (fun c2 hs4=>?_) (fun c2 hs5=>?_))
 ·exact sr (an (nretP [.bool false] (cs hs4)))
 exact aE (qT 6 U (ad (v':=I (((i1+1):Nat):Int)) U (aL ob) (qO 2 U (ag1 y1 hs5))))
end Go.Sg
namespace Go.Sg
open Go.Proofs Go.Proofs.Tryz
theorem nf.length {κ α : Type} {enc:κ→Value} {V:HF→Value→α→Prop} {h:HF}:∀ {es:List MapEntry} {m:List (κ×α)},nf enc V h es m→es.length=m.length
 | [],[],_=>rfl
 | _::_,(_,_)::_,⟨_,_,c⟩=>by simp [nf.length c]
 | [],_::_,x=>x.elim
 | _::_,[],x=>x.elim
theorem qQ {κ : Type} [Inhabited κ] (ks:List κ) (is:List Nat) (hn:is.Nodup) (hlt:∀ i∈is,i < ks.length) (hall:∀ i,i < ks.length→i∈is):(is.map fun i=>(ks[i]?).getD default).Perm ks:=by
 have h1:is.Perm (List.range ks.length):=(List.perm_ext_iff_of_nodup hn List.nodup_range).2 (fun i=>by rw [List.mem_range];exact ⟨hlt i,hall i⟩)
 refine (h1.map _).trans (List.Perm.of_eq ?_)
 apply List.ext_getElem (by simp)
 intro i h2 h3
 simp at h2
 simp [List.getElem?_eq_getElem h2]
theorem sq {κ : Type} [Inhabited κ] (ks:List κ) (is:List Nat) (hn:is.Nodup) (hlt:∀ i∈is,i < ks.length):∃ rest,((is.map fun i=>(ks[i]?).getD default)++rest).Perm ks:=by
 let js:=(List.range ks.length).filter fun i=>!is.contains i
 have hd:(is++js).Nodup:=by
  rw [List.nodup_append]
  refine ⟨hn,List.nodup_range.filter _,fun a ha b hb e=>?_⟩
  subst e
  simp [js] at hb
  exact hb.2 ha
 refine ⟨js.map fun i=>(ks[i]?).getD default,?_⟩
 rw [← List.map_append]
 refine qQ ks (is++js) hd (fun i hi=>?_) (fun i hi=>?_)
 ·rcases List.mem_append.1 hi with h | h
  ·exact hlt i h
  ·simp [js] at h;exact h.1
 ·by_cases hm:i∈is
  ·exact List.mem_append_left _ hm
  ·exact List.mem_append_right _ (by simp [js,hi,hm])
theorem tU (h:HF) (m:List (Int×Bool)) (bk:Nat) (q:Addr) (hm:oZ (Value.int .i64) iV h bk m) (aq:At h q [.map (some bk)]):
  w7 prog (.func (.func 109) #[] #[.pointer (some q)]) (fun k _ vs=>vs=[(Value.int .i64) k]) (fun xs=>xs.Perm (m.map (·.1))) h:=by
 refine ⟨109,[.pointer (some q)],rfl,call109,?_⟩
 intro yf ya yb C Sp Pn h1 A hle m1 m2 m3 hC hy
 obtain ⟨o,hb,m0,hpm,hnd0,es,clock,rfl,hE,hP,hcl⟩:=hm.mono iV.mono hle
 have hnod:(es.map (·.born)).Nodup:=hP.imp (fun h=>Nat.ne_of_lt h)
 have hkeys:=hE.keys
 have hlen:es.length=(m0.map (·.1)).length:=by rw [hE.length];simp
 let ks:=m0.map (·.1)
 let kf:Nat→Int:=fun i=>(ks[i]?).getD default
 let bf:Nat→Nat:=fun i=>(es[i]?.map (·.born)).getD 0
 have hkey:∀ (i:Nat) (en:MapEntry),es[i]? = some en→en.key=(Value.int .i64) (kf i):=by
  intro i en hi
  have h2:(es.map (·.key))[i]? = some en.key:=by simp [hi]
  rw [hkeys] at h2
  simp only [List.getElem?_map] at h2
  simp only [kf,ks,List.getElem?_map]
  cases hq:m0[i]? with
  | none=>rw [hq] at h2;simp at h2
  | some p=>rw [hq] at h2;simp at h2;simp [← h2]
 refine kN (args:=[.func yf ya yb]) (cap:=[.pointer (some q)]) call109 ?_
 refine jQ HJ rfl ntmps109 rfl fun X hXM hX=>?_
 refine dz (bn (cK ty120 (aq.mono hle) rfl (aA (Cy oh hb rfl (fun it=>aM ?_)))))
 refine iH (ι:=List Nat×LH×HF) (fun i=>[]) (fun i=>i.2.2) (fun i=>[(it,Obj.mapIter (some bk) clock (List.toArray (i.1.map bf)) clock)]++i.2.1) (fun i=>(i.1.Nodup∧(∀ j∈i.1,j < es.length)∧(∀ j,j < es.length→j∈i.1))∧C (i.1.map kf) i.2.2 i.2.1) ?_ (fun hx=>?_)
 ·rintro ⟨js,A1,h2⟩ ⟨⟨hn,hl,ha⟩,hC1⟩ e
  exact wp HJ (fun a _ w _=>kO rfl a w) (fun w hw=>hw.sub (List.sublist_append_right _ _)) (.inl ⟨rfl,.inl ⟨_,(qQ ks js hn (fun i hi=>by rw [← hlen];exact hl i hi) (fun i hi=>ha i (by rw [hlen];exact hi))).trans (hpm.map _),hC1⟩⟩)
 refine j5 (ι:=List Nat×LH×HF) (fun i=>[(0,.func yf ya yb),(5,.pointer (some ⟨it,0,none⟩))]) (fun i=>i.2.2) (fun i=>[(it,Obj.mapIter (some bk) clock (List.toArray (i.1.map bf)) clock)]++i.2.1) (fun i=>i.1.Nodup∧(∀ j∈i.1,j < es.length)∧C (i.1.map kf) i.2.2 i.2.1∧HF.le h1 i.2.2) (fun i=>es.length - i.1.length) ([],A,h1) ⟨rfl,rfl,trivial⟩ (fun w hw=>hw) ⟨List.nodup_nil,fun _ hj=>(List.not_mem_nil hj).elim,hC,HF.le_refl _⟩ ?_
 rintro ⟨js,A1,h2⟩ ⟨hn,hl,hC1,hle2⟩ ag e
 dsimp only at hn hl hC1 hle2
 have hlp:=sB hnod js hl
 show TT _ _ _ _ _ (upds e [(0,.func yf ya yb),(5,.pointer (some ⟨it,0,none⟩))]) _ _ h2 ([(it,Obj.mapIter (some bk) clock (List.toArray (js.map bf)) clock)]++A1)
 refine dz (bn (aA (E6 0 rfl (hle2 _ _ hb) (fun x hx=>hcl x (by simpa using hx)) (Nat.le_refl _) rfl (fun h0=>?_) (fun en hen=>?_))))
 ·refine km rfl rfl (aM (dz (lh rfl (j6 rfl ?_))))
  exact hx (js,A1,h2) _ ⟨⟨hn,hl,hlp.1 h0⟩,hC1⟩ trivial
 ·obtain ⟨i,hi,hni⟩:=hlp.2 en hen
  have hil:i < es.length:=by
   rcases Nat.lt_or_ge i es.length with h3 | h3
   ·exact h3
   ·simp [List.getElem?_eq_none h3] at hi
  have hmem:en∈es.toArray.toList:=by simpa using List.mem_of_getElem? hi
  have hn':(js++[i]).Nodup:=by
   rw [List.nodup_append];exact ⟨hn,by simp,fun a ha b hb' e'=>by simp at hb';subst hb';subst e';exact hni ha⟩
  have hl':∀ j∈js++[i],j < es.length:=fun j hj=>by
   rcases List.mem_append.1 hj with h3 | h3
   ·exact hl j h3
   ·simp at h3;subst h3;exact hil
  obtain ⟨rest,hrest⟩:=sq ks (js++[i]) hn' (fun j hj=>by rw [← hlen];exact hl' j hj)
  have oI:js.length+1≤es.length:=by
   have h9:=hrest.length_eq
   rw [List.length_append,List.length_map,List.length_append] at h9
   have h10:ks.length=es.length:=hlen.symm
   simp only [List.length_cons,List.length_nil] at h9
   omega
  have hrest':(js.map kf++kf i::rest).Perm (m.map (·.1)):=by
   rw [List.map_append,List.append_assoc] at hrest
   exact List.Perm.trans hrest (hpm.map _)
  obtain ⟨ekey,evl,eborn⟩:=en
  have hk':ekey=(Value.int .i64) (kf i):=hkey i _ hi
  subst hk'
  refine km rfl rfl (aM ?_)
  refine dz (lV rfl (aE (lW ?_)))
  refine dz (bn ?_)
  refine aA (fu (CI 0 rfl (hle2 _ _ hb) hmem (by simpa using hnod) rfl) ?_)
  refine km rfl rfl (fg (aM ?_))
  refine dz (bn (aj (aj ?_)))
  refine aA (me [(it,Obj.mapIter (some bk) clock ((List.toArray (js.map bf)).push eborn) clock)] A1 rfl (hy (js.map kf) (kf i) [(Value.int .i64) (kf i)] h2 A1 ⟨rest,hrest'⟩ hle2 hC1 rfl) rfl rfl (fun h3 B hle3 hC3=>?_) (fun h3 B hle3 hS3=>?_) (fun ch h3 B hle3 hP3 e'=>?_))
  ·refine lY rfl (aM (lh rfl (aE (dY ?_))))
   have hpush:((List.toArray (js.map bf)).push eborn)=List.toArray ((js++[i]).map bf):=by simp [bf,hi]
   rw [hpush]
   refine ag (js++[i],B,h3) _ (by show es.length - (js++[i]).length < es.length - js.length;rw [List.length_append];simp only [List.length_cons,List.length_nil];omega) ⟨hn',hl',by simpa using hC3,HF.le_trans hle2 hle3⟩ ⟨rfl,rfl,trivial⟩
  ·refine lY rfl (aM (lV rfl ?_))
   exact mG HJ (fun a _ w _=>kO rfl a w) (fun w hw=>hw.sub (List.sublist_append_right _ _)) (.inl ⟨rfl,.inr hS3⟩)
  ·exact E2 HJ (fun w hw=>hw.sub (List.sublist_append_right _ _)) (.inr ⟨ch,rfl,hP3⟩)
theorem qU (h:HF) (m:List (Int×Version)) (bk:Nat) (q:Addr) (hm:oZ (Value.int .i64) (kR Version.rp) h bk m) (aq:At h q [.map (some bk)]):
  w7 prog (.func (.func 209) #[] #[.pointer (some q)]) (fun k _ vs=>vs=[(Value.int .i64) k]) (fun xs=>xs.Perm (m.map (·.1))) h:=by
 refine ⟨209,[.pointer (some q)],rfl,call209,?_⟩
 intro yf ya yb C Sp Pn h1 A hle m1 m2 m3 hC hy
 obtain ⟨o,hb,m0,hpm,hnd0,es,clock,rfl,hE,hP,hcl⟩:=hm.mono (kR.mono Version.ak) hle
 have hnod:(es.map (·.born)).Nodup:=hP.imp (fun h=>Nat.ne_of_lt h)
 have hkeys:=hE.keys
 have hlen:es.length=(m0.map (·.1)).length:=by rw [hE.length];simp
 let ks:=m0.map (·.1)
 let kf:Nat→Int:=fun i=>(ks[i]?).getD default
 let bf:Nat→Nat:=fun i=>(es[i]?.map (·.born)).getD 0
 have hkey:∀ (i:Nat) (en:MapEntry),es[i]? = some en→en.key=(Value.int .i64) (kf i):=by
  intro i en hi
  have h2:(es.map (·.key))[i]? = some en.key:=by simp [hi]
  rw [hkeys] at h2
  simp only [List.getElem?_map] at h2
  simp only [kf,ks,List.getElem?_map]
  cases hq:m0[i]? with
  | none=>rw [hq] at h2;simp at h2
  | some p=>rw [hq] at h2;simp at h2;simp [← h2]
 refine kN (args:=[.func yf ya yb]) (cap:=[.pointer (some q)]) call209 ?_
 refine jQ HI rfl ntmps209 rfl fun X hXM hX=>?_
 refine dz (bn (cK ty203 (aq.mono hle) rfl (aA (Cy HH hb rfl (fun it=>aM ?_)))))
 refine iH (ι:=List Nat×LH×HF) (fun i=>[]) (fun i=>i.2.2) (fun i=>[(it,Obj.mapIter (some bk) clock (List.toArray (i.1.map bf)) clock)]++i.2.1) (fun i=>(i.1.Nodup∧(∀ j∈i.1,j < es.length)∧(∀ j,j < es.length→j∈i.1))∧C (i.1.map kf) i.2.2 i.2.1) ?_ (fun hx=>?_)
 ·rintro ⟨js,A1,h2⟩ ⟨⟨hn,hl,ha⟩,hC1⟩ e
  exact wp HI (fun a _ w _=>kO rfl a w) (fun w hw=>hw.sub (List.sublist_append_right _ _)) (.inl ⟨rfl,.inl ⟨_,(qQ ks js hn (fun i hi=>by rw [← hlen];exact hl i hi) (fun i hi=>ha i (by rw [hlen];exact hi))).trans (hpm.map _),hC1⟩⟩)
 refine j5 (ι:=List Nat×LH×HF) (fun i=>[(0,.func yf ya yb),(5,.pointer (some ⟨it,0,none⟩))]) (fun i=>i.2.2) (fun i=>[(it,Obj.mapIter (some bk) clock (List.toArray (i.1.map bf)) clock)]++i.2.1) (fun i=>i.1.Nodup∧(∀ j∈i.1,j < es.length)∧C (i.1.map kf) i.2.2 i.2.1∧HF.le h1 i.2.2) (fun i=>es.length - i.1.length) ([],A,h1) ⟨rfl,rfl,trivial⟩ (fun w hw=>hw) ⟨List.nodup_nil,fun _ hj=>(List.not_mem_nil hj).elim,hC,HF.le_refl _⟩ ?_
 rintro ⟨js,A1,h2⟩ ⟨hn,hl,hC1,hle2⟩ ag e
 dsimp only at hn hl hC1 hle2
 have hlp:=sB hnod js hl
 show TT _ _ _ _ _ (upds e [(0,.func yf ya yb),(5,.pointer (some ⟨it,0,none⟩))]) _ _ h2 ([(it,Obj.mapIter (some bk) clock (List.toArray (js.map bf)) clock)]++A1)
 refine dz (bn (aA (E6 0 rfl (hle2 _ _ hb) (fun x hx=>hcl x (by simpa using hx)) (Nat.le_refl _) rfl (fun h0=>?_) (fun en hen=>?_))))
 ·refine km rfl rfl (aM (dz (lh rfl (j6 rfl ?_))))
  exact hx (js,A1,h2) _ ⟨⟨hn,hl,hlp.1 h0⟩,hC1⟩ trivial
 ·obtain ⟨i,hi,hni⟩:=hlp.2 en hen
  have hil:i < es.length:=by
   rcases Nat.lt_or_ge i es.length with h3 | h3
   ·exact h3
   ·simp [List.getElem?_eq_none h3] at hi
  have hmem:en∈es.toArray.toList:=by simpa using List.mem_of_getElem? hi
  have hn':(js++[i]).Nodup:=by
   rw [List.nodup_append];exact ⟨hn,by simp,fun a ha b hb' e'=>by simp at hb';subst hb';subst e';exact hni ha⟩
  have hl':∀ j∈js++[i],j < es.length:=fun j hj=>by
   rcases List.mem_append.1 hj with h3 | h3
   ·exact hl j h3
   ·simp at h3;subst h3;exact hil
  obtain ⟨rest,hrest⟩:=sq ks (js++[i]) hn' (fun j hj=>by rw [← hlen];exact hl' j hj)
  have oI:js.length+1≤es.length:=by
   have h9:=hrest.length_eq
   rw [List.length_append,List.length_map,List.length_append] at h9
   have h10:ks.length=es.length:=hlen.symm
   simp only [List.length_cons,List.length_nil] at h9
   omega
  have hrest':(js.map kf++kf i::rest).Perm (m.map (·.1)):=by
   rw [List.map_append,List.append_assoc] at hrest
   exact List.Perm.trans hrest (hpm.map _)
  obtain ⟨ekey,evl,eborn⟩:=en
  have hk':ekey=(Value.int .i64) (kf i):=hkey i _ hi
  subst hk'
  refine km rfl rfl (aM ?_)
  refine dz (lV rfl (aE (lW ?_)))
  refine dz (bn ?_)
  refine aA (fu (CI 0 rfl (hle2 _ _ hb) hmem (by simpa using hnod) rfl) ?_)
  refine km rfl rfl (fg (aM ?_))
  refine dz (bn (aj (aj ?_)))
  refine aA (me [(it,Obj.mapIter (some bk) clock ((List.toArray (js.map bf)).push eborn) clock)] A1 rfl (hy (js.map kf) (kf i) [(Value.int .i64) (kf i)] h2 A1 ⟨rest,hrest'⟩ hle2 hC1 rfl) rfl rfl (fun h3 B hle3 hC3=>?_) (fun h3 B hle3 hS3=>?_) (fun ch h3 B hle3 hP3 e'=>?_))
  ·refine lY rfl (aM (lh rfl (aE (dY ?_))))
   have hpush:((List.toArray (js.map bf)).push eborn)=List.toArray ((js++[i]).map bf):=by simp [bf,hi]
   rw [hpush]
   refine ag (js++[i],B,h3) _ (by show es.length - (js++[i]).length < es.length - js.length;rw [List.length_append];simp only [List.length_cons,List.length_nil];omega) ⟨hn',hl',by simpa using hC3,HF.le_trans hle2 hle3⟩ ⟨rfl,rfl,trivial⟩
  ·refine lY rfl (aM (lV rfl ?_))
   exact mG HI (fun a _ w _=>kO rfl a w) (fun w hw=>hw.sub (List.sublist_append_right _ _)) (.inl ⟨rfl,.inr hS3⟩)
  ·exact E2 HI (fun w hw=>hw.sub (List.sublist_append_right _ _)) (.inr ⟨ch,rfl,hP3⟩)
theorem qV (h:HF) (m:List (OSeat×Appoint)) (bk:Nat) (q:Addr) (hm:oZ OSeat.enc (kR Appoint.rp) h bk m) (aq:At h q [.map (some bk)]):
  w7 prog (.func (.func 212) #[] #[.pointer (some q)]) (fun k _ vs=>vs=[OSeat.enc k]) (fun xs=>xs.Perm (m.map (·.1))) h:=by
 refine ⟨212,[.pointer (some q)],rfl,call212,?_⟩
 intro yf ya yb C Sp Pn h1 A hle m1 m2 m3 hC hy
 obtain ⟨o,hb,m0,hpm,hnd0,es,clock,rfl,hE,hP,hcl⟩:=hm.mono (kR.mono Appoint.ak) hle
 have hnod:(es.map (·.born)).Nodup:=hP.imp (fun h=>Nat.ne_of_lt h)
 have hkeys:=hE.keys
 have hlen:es.length=(m0.map (·.1)).length:=by rw [hE.length];simp
 let ks:=m0.map (·.1)
 let kf:Nat→OSeat:=fun i=>(ks[i]?).getD default
 let bf:Nat→Nat:=fun i=>(es[i]?.map (·.born)).getD 0
 have hkey:∀ (i:Nat) (en:MapEntry),es[i]? = some en→en.key=OSeat.enc (kf i):=by
  intro i en hi
  have h2:(es.map (·.key))[i]? = some en.key:=by simp [hi]
  rw [hkeys] at h2
  simp only [List.getElem?_map] at h2
  simp only [kf,ks,List.getElem?_map]
  cases hq:m0[i]? with
  | none=>rw [hq] at h2;simp at h2
  | some p=>rw [hq] at h2;simp at h2;simp [← h2]
 refine kN (args:=[.func yf ya yb]) (cap:=[.pointer (some q)]) call212 ?_
 refine jQ HG rfl ntmps212 rfl fun X hXM hX=>?_
 refine dz (bn (cK ty159 (aq.mono hle) rfl (aA (Cy HE hb rfl (fun it=>aM ?_)))))
 refine iH (ι:=List Nat×LH×HF) (fun i=>[]) (fun i=>i.2.2) (fun i=>[(it,Obj.mapIter (some bk) clock (List.toArray (i.1.map bf)) clock)]++i.2.1) (fun i=>(i.1.Nodup∧(∀ j∈i.1,j < es.length)∧(∀ j,j < es.length→j∈i.1))∧C (i.1.map kf) i.2.2 i.2.1) ?_ (fun hx=>?_)
 ·rintro ⟨js,A1,h2⟩ ⟨⟨hn,hl,ha⟩,hC1⟩ e
  exact wp HG (fun a _ w _=>kO rfl a w) (fun w hw=>hw.sub (List.sublist_append_right _ _)) (.inl ⟨rfl,.inl ⟨_,(qQ ks js hn (fun i hi=>by rw [← hlen];exact hl i hi) (fun i hi=>ha i (by rw [hlen];exact hi))).trans (hpm.map _),hC1⟩⟩)
 refine j5 (ι:=List Nat×LH×HF) (fun i=>[(0,.func yf ya yb),(5,.pointer (some ⟨it,0,none⟩))]) (fun i=>i.2.2) (fun i=>[(it,Obj.mapIter (some bk) clock (List.toArray (i.1.map bf)) clock)]++i.2.1) (fun i=>i.1.Nodup∧(∀ j∈i.1,j < es.length)∧C (i.1.map kf) i.2.2 i.2.1∧HF.le h1 i.2.2) (fun i=>es.length - i.1.length) ([],A,h1) ⟨rfl,rfl,trivial⟩ (fun w hw=>hw) ⟨List.nodup_nil,fun _ hj=>(List.not_mem_nil hj).elim,hC,HF.le_refl _⟩ ?_
 rintro ⟨js,A1,h2⟩ ⟨hn,hl,hC1,hle2⟩ ag e
 dsimp only at hn hl hC1 hle2
 have hlp:=sB hnod js hl
 show TT _ _ _ _ _ (upds e [(0,.func yf ya yb),(5,.pointer (some ⟨it,0,none⟩))]) _ _ h2 ([(it,Obj.mapIter (some bk) clock (List.toArray (js.map bf)) clock)]++A1)
 refine dz (bn (aA (E6 0 rfl (hle2 _ _ hb) (fun x hx=>hcl x (by simpa using hx)) (Nat.le_refl _) rfl (fun h0=>?_) (fun en hen=>?_))))
 ·refine km rfl rfl (aM (dz (lh rfl (j6 rfl ?_))))
  exact hx (js,A1,h2) _ ⟨⟨hn,hl,hlp.1 h0⟩,hC1⟩ trivial
 ·obtain ⟨i,hi,hni⟩:=hlp.2 en hen
  have hil:i < es.length:=by
   rcases Nat.lt_or_ge i es.length with h3 | h3
   ·exact h3
   ·simp [List.getElem?_eq_none h3] at hi
  have hmem:en∈es.toArray.toList:=by simpa using List.mem_of_getElem? hi
  have hn':(js++[i]).Nodup:=by
   rw [List.nodup_append];exact ⟨hn,by simp,fun a ha b hb' e'=>by simp at hb';subst hb';subst e';exact hni ha⟩
  have hl':∀ j∈js++[i],j < es.length:=fun j hj=>by
   rcases List.mem_append.1 hj with h3 | h3
   ·exact hl j h3
   ·simp at h3;subst h3;exact hil
  obtain ⟨rest,hrest⟩:=sq ks (js++[i]) hn' (fun j hj=>by rw [← hlen];exact hl' j hj)
  have oI:js.length+1≤es.length:=by
   have h9:=hrest.length_eq
   rw [List.length_append,List.length_map,List.length_append] at h9
   have h10:ks.length=es.length:=hlen.symm
   simp only [List.length_cons,List.length_nil] at h9
   omega
  have hrest':(js.map kf++kf i::rest).Perm (m.map (·.1)):=by
   rw [List.map_append,List.append_assoc] at hrest
   exact List.Perm.trans hrest (hpm.map _)
  obtain ⟨ekey,evl,eborn⟩:=en
  have hk':ekey=OSeat.enc (kf i):=hkey i _ hi
  subst hk'
  refine km rfl rfl (aM ?_)
  refine dz (lV rfl (aE (lW ?_)))
  refine dz (bn ?_)
  refine aA (fu (CI 0 rfl (hle2 _ _ hb) hmem (by simpa using hnod) rfl) ?_)
  refine km rfl rfl (bH zc212 (fun b3=>bE 0 ty212 rfl rfl rfl rfl rfl rfl (aM ?_)))
  refine dz (bn (aj (cJ 0 ty212 rfl rfl rfl ?_)))
  refine aA (me [(b3,Obj.cells (OSeat.cells (kf i)).toArray 212 (0,0)),(it,Obj.mapIter (some bk) clock ((List.toArray (js.map bf)).push eborn) clock)] A1 rfl (hy (js.map kf) (kf i) [OSeat.enc (kf i)] h2 A1 ⟨rest,hrest'⟩ hle2 hC1 rfl) rfl rfl (fun h3 B hle3 hC3=>?_) (fun h3 B hle3 hS3=>?_) (fun ch h3 B hle3 hP3 e'=>?_))
  ·refine lY rfl (aM (lh rfl (aE (dY ?_))))
   have hpush:((List.toArray (js.map bf)).push eborn)=List.toArray ((js++[i]).map bf):=by simp [bf,hi]
   rw [hpush]
   refine bU (L':=[(it,Obj.mapIter (some bk) clock (List.toArray ((js++[i]).map bf)) clock)]++B) (.cons _ (List.Sublist.refl _)) ?_
   refine ag (js++[i],B,h3) _ (by show es.length - (js++[i]).length < es.length - js.length;rw [List.length_append];simp only [List.length_cons,List.length_nil];omega) ⟨hn',hl',by simpa using hC3,HF.le_trans hle2 hle3⟩ ⟨rfl,rfl,trivial⟩
  ·refine lY rfl (aM (lV rfl ?_))
   exact mG HG (fun a _ w _=>kO rfl a w) (fun w hw=>hw.sub (List.sublist_append_right _ _)) (.inl ⟨rfl,.inr hS3⟩)
  ·exact E2 HG (fun w hw=>hw.sub (List.sublist_append_right _ _)) (.inr ⟨ch,rfl,hP3⟩)
end Go.Sg
namespace Go.Proofs
open Go.Shelf
def Tryz.Ef:Go.Shelf.Ren:=⟨fun | 137=>279 | 217=>281 | 266=>282 | n=>n,fun | 9=>9 | 5=>5 | 3=>3 | n=>n,fun | n=>n⟩
theorem Tryz.lays137:Go.Proofs.Lays.n137 Tryz.prog Tryz.Ef:={
 mixed:=by kernel_rfl
 f137:=Tryz.func279.trans (congrArg some (by kernel_rfl))
 f217:=Tryz.func281.trans (congrArg some (by kernel_rfl))
 f266:=Tryz.func282.trans (congrArg some (by kernel_rfl))
 t3:=Tryz.underlying3
 a3:=Tryz.isAgg3
 z3:=Tryz.sizeOf3
 v3:=Tryz.zeroValue3
 t5:=Tryz.underlying5
 a5:=Tryz.isAgg5
 z5:=Tryz.sizeOf5
 v5:=Tryz.zeroValue5
 t9:=Tryz.underlying9
 a9:=Tryz.isAgg9
 z9:=Tryz.sizeOf9
 v9:=Tryz.zeroValue9 }
open Go.RowKit in
theorem Tryz.strings_IndexByte (s:ByteArray) (c:Int) (w:World):
  Calls Tryz.prog 279 #[.string s,.int .u8 c] w fun e w'=>e=.returned (.int .i64 (Lib.indexByte s.data.toList c.toNat.toUInt8))∧w'=w:=Any.strings_IndexByte Tryz.lays137 s c w
open Go.RowKit Go.Lib in
def Tryz.Ee:Go.Shelf.Ren:=⟨fun | 189=>41 | 125=>80 | 257=>79 | 128=>138 | 129=>139 | 294=>129 | 295=>130 | 296=>131 | 297=>132 | 298=>133 | 299=>134 | 216=>135 | 300=>136 | 301=>137 | 328=>203 | 329=>204 | 330=>205 | 331=>206 | 332=>207 | 215=>208 | 343=>238 | n=>n,fun | 28=>31 | 3=>3 | 46=>136 | 0=>0 | 51=>199 | 53=>201 | 4=>4 | 183=>193 | 182=>192 | 131=>153 | 5=>5 | 9=>9 | 218=>240 | 222=>244 | 228=>271 | 229=>272 | n=>n,fun | n=>n⟩
theorem Tryz.lays189:Go.Proofs.Lays.n189 Tryz.prog Tryz.Ee:={
 mixed:=by kernel_rfl
 f125:=Tryz.func80.trans (congrArg some (by kernel_rfl))
 f128:=Tryz.func138.trans (congrArg some (by kernel_rfl))
 f129:=Tryz.func139.trans (congrArg some (by kernel_rfl))
 f189:=Tryz.func41.trans (congrArg some (by kernel_rfl))
 f215:=Tryz.func208.trans (congrArg some (by kernel_rfl))
 f216:=Tryz.func135.trans (congrArg some (by kernel_rfl))
 f257:=Tryz.func79.trans (congrArg some (by kernel_rfl))
 f294:=Tryz.func129.trans (congrArg some (by kernel_rfl))
 f295:=Tryz.func130.trans (congrArg some (by kernel_rfl))
 f296:=Tryz.func131.trans (congrArg some (by kernel_rfl))
 f297:=Tryz.func132.trans (congrArg some (by kernel_rfl))
 f298:=Tryz.func133.trans (congrArg some (by kernel_rfl))
 f299:=Tryz.func134.trans (congrArg some (by kernel_rfl))
 f300:=Tryz.func136.trans (congrArg some (by kernel_rfl))
 f301:=Tryz.func137.trans (congrArg some (by kernel_rfl))
 f328:=Tryz.func203.trans (congrArg some (by kernel_rfl))
 f329:=Tryz.func204.trans (congrArg some (by kernel_rfl))
 f330:=Tryz.func205.trans (congrArg some (by kernel_rfl))
 f331:=Tryz.func206.trans (congrArg some (by kernel_rfl))
 f332:=Tryz.func207.trans (congrArg some (by kernel_rfl))
 f343:=Tryz.func238.trans (congrArg some (by kernel_rfl))
 t0:=Tryz.underlying0
 a0:=Tryz.isAgg0
 z0:=Tryz.sizeOf0
 v0:=Tryz.zeroValue0
 t3:=Tryz.underlying3
 a3:=Tryz.isAgg3
 z3:=Tryz.sizeOf3
 v3:=Tryz.zeroValue3
 t4:=Tryz.underlying4
 a4:=Tryz.isAgg4
 z4:=Tryz.sizeOf4
 v4:=Tryz.zeroValue4
 t5:=Tryz.underlying5
 a5:=Tryz.isAgg5
 z5:=Tryz.sizeOf5
 v5:=Tryz.zeroValue5
 t9:=Tryz.underlying9
 a9:=Tryz.isAgg9
 z9:=Tryz.sizeOf9
 v9:=Tryz.zeroValue9
 t28:=Tryz.underlying31
 a28:=Tryz.isAgg31
 z28:=Tryz.sizeOf31
 v28:=Tryz.zeroValue31
 t46:=Tryz.underlying136
 a46:=Tryz.isAgg136
 z46:=Tryz.sizeOf136
 v46:=Tryz.zeroValue136
 t51:=Tryz.underlying199
 a51:=Tryz.isAgg199
 z51:=Tryz.sizeOf199
 v51:=Tryz.zeroValue199
 t53:=Tryz.underlying201
 a53:=Tryz.isAgg201
 z53:=Tryz.sizeOf201
 v53:=Tryz.zeroValue201
 t131:=Tryz.underlying153
 a131:=Tryz.isAgg153
 z131:=Tryz.sizeOf153
 v131:=Tryz.zeroValue153
 t182:=Tryz.underlying192
 a182:=Tryz.isAgg192
 z182:=Tryz.sizeOf192
 v182:=Tryz.zeroValue192
 t183:=Tryz.underlying193
 a183:=Tryz.isAgg193
 z183:=Tryz.sizeOf193
 v183:=Tryz.zeroValue193
 t218:=Tryz.underlying240
 a218:=Tryz.isAgg240
 z218:=Tryz.sizeOf240
 v218:=Tryz.zeroValue240
 t222:=Tryz.underlying244
 a222:=Tryz.isAgg244
 z222:=Tryz.sizeOf244
 v222:=Tryz.zeroValue244
 t228:=Tryz.underlying271
 a228:=Tryz.isAgg271
 z228:=Tryz.sizeOf271
 v228:=Tryz.zeroValue271
 t229:=Tryz.underlying272
 a229:=Tryz.isAgg272
 z229:=Tryz.sizeOf272
 v229:=Tryz.zeroValue272 }
open Go.Sort Go.RowKit in
theorem Tryz.slices_Sort_int (blk off cap:Nat) (zs:List Int) (w:World) (hH:Holds (Value.int .i64) w blk off zs.toArray) (hblk:blk < w.heap.size) (hsz:zs.length < 4611686018427387904):
  Calls Tryz.prog 41 #[.slice (some ⟨blk,off,none⟩) zs.length cap] w fun e w'=>
   e=.returned (.tuple #[])∧∃ n os,w'=grow (putRow (Value.int .i64) (Sort.ahead w n) blk off (zs.mergeSort fun x y=>decide (x≤y)).toArray) os:=Any.slices_Sort_int Tryz.lays189 blk off cap zs w hH hblk hsz
def Tryz.AY:Go.Shelf.Ren:=⟨fun | 15=>40 | n=>n,fun | 22=>31 | 3=>3 | 4=>4 | n=>n,fun | n=>n⟩
theorem Tryz.laysNm215:Go.Proofs.Lays2.n15 Tryz.prog Tryz.AY:={
 mixed:=by kernel_rfl
 f15:=Tryz.func40.trans (congrArg some (by kernel_rfl))
 t3:=Tryz.underlying3
 a3:=Tryz.isAgg3
 z3:=Tryz.sizeOf3
 v3:=Tryz.zeroValue3
 t4:=Tryz.underlying4
 a4:=Tryz.isAgg4
 z4:=Tryz.sizeOf4
 v4:=Tryz.zeroValue4
 t22:=Tryz.underlying31
 a22:=Tryz.isAgg31
 z22:=Tryz.sizeOf31
 v22:=Tryz.zeroValue31
 i3:=by kernel_rfl }
open Go.RowKit Go.Lib in
theorem Tryz.slices_Clone_int (b off n c:Nat) (zs:List Int) (w:World) (hz:n≤zs.length) (hbig:n * 8≤140737488355328) (hc:∀ j,j < zs.length→w.cell? ⟨b,off+j,none⟩=some (.int .i64 (zs.getD j 0))):
  Calls Tryz.prog 40 #[.slice (some ⟨b,off,none⟩) n c] w fun e w'=>∃ v',e=.returned v'∧w'.ownsRow w.heap.size 3 1 v' n ((zs.take n).map (Value.int .i64))∧v'≠.slice none 0 0∧Below w.heap.size w w':=Any.slices_Clone_int Tryz.laysNm215 b off n c zs w hz hbig hc
open Go.RowKit Go.Lib in
theorem Tryz.slices_Clone_int_nil (n c:Nat) (w:World):
  Calls Tryz.prog 40 #[.slice none n c] w fun e w'=>e=.returned (.slice none 0 0)∧w'=w:=Any.slices_Clone_int_nil Tryz.laysNm215 n c w
open Go.RowKit Go.Lib in
theorem Tryz.slices_Clone_int_zero (a:Addr) (c:Nat) (w:World):
  Calls Tryz.prog 40 #[.slice (some a) 0 c] w fun e w'=>∃ v',e=.returned v'∧w'.ownsRow w.heap.size 3 1 v' 0 []∧v'≠.slice none 0 0∧Below w.heap.size w w':=Any.slices_Clone_int_zero Tryz.laysNm215 a c w
open Go.RowKit Go.Lib in
open Go.RowKit Go.Lib in
open Go.RowKit Go.Lib in
def Tryz.AX:Go.Shelf.Ren:=⟨fun | 25=>87 | 31=>135 | 32=>147 | 37=>208 | n=>n,fun | 22=>31 | 3=>3 | 4=>4 | 40=>136 | 0=>0 | n=>n,fun | n=>n⟩
theorem Tryz.laysNm225:Go.Proofs.Lays2.n25 Tryz.prog Tryz.AX:={
 mixed:=by kernel_rfl
 f25:=Tryz.func87.trans (congrArg some (by kernel_rfl))
 f31:=Tryz.func135.trans (congrArg some (by kernel_rfl))
 f32:=Tryz.func147.trans (congrArg some (by kernel_rfl))
 f37:=Tryz.func208.trans (congrArg some (by kernel_rfl))
 t0:=Tryz.underlying0
 a0:=Tryz.isAgg0
 z0:=Tryz.sizeOf0
 v0:=Tryz.zeroValue0
 t3:=Tryz.underlying3
 a3:=Tryz.isAgg3
 z3:=Tryz.sizeOf3
 v3:=Tryz.zeroValue3
 t4:=Tryz.underlying4
 a4:=Tryz.isAgg4
 z4:=Tryz.sizeOf4
 v4:=Tryz.zeroValue4
 t22:=Tryz.underlying31
 a22:=Tryz.isAgg31
 z22:=Tryz.sizeOf31
 v22:=Tryz.zeroValue31
 t40:=Tryz.underlying136
 a40:=Tryz.isAgg136
 z40:=Tryz.sizeOf136
 v40:=Tryz.zeroValue136 }
open Go.RowKit Go.Lib in
theorem Tryz.slices_BinarySearch_int (b off n c:Nat) (zs:List Int) (x:Int) (w:World) (hz:n≤zs.length) (hbig:n < 4611686018427387904) (hc:∀ j,j < zs.length→w.cell? ⟨b,off+j,none⟩=some (.int .i64 (zs.getD j 0))) (hs:(zs.take n).Pairwise (·≤·)):
  Calls Tryz.prog 87 #[.slice (some ⟨b,off,none⟩) n c,.int .i64 x] w fun e w'=>e=.returned (.tuple #[.int .i64 ((zs.take n).countP (· < x):Nat),.bool ((zs.take n).contains x)])∧∃ q,w'=w.drewN q:=Any.slices_BinarySearch_int Tryz.laysNm225 b off n c zs x w hz hbig hc hs
open Go.RowKit Go.Sort in
theorem Tryz.slices_Sort_int_none (p:Option Addr) (cap:Nat) (w:World):
  Calls Tryz.prog 41 #[.slice p 0 cap] w fun e w'=>e=.returned (.tuple #[])∧w'=w:=Any.slices_Sort_int_none Tryz.lays189 p cap w
open Go.RowKit Go.Lib in
theorem Tryz.slices_BinarySearch_int_empty (a:Option Addr) (c:Nat) (x:Int) (w:World):
  Calls Tryz.prog 87 #[.slice a 0 c,.int .i64 x] w fun e w'=>e=.returned (.tuple #[.int .i64 0,.bool false])∧w'=w:=Any.slices_BinarySearch_int_empty Tryz.laysNm225 a c x w
def Tryz.uL:Go.Shelf.Ren:=⟨fun | 7=>208 | n=>n,fun | 22=>3 | 4=>4 | n=>n,fun | n=>n⟩
theorem Tryz.zM:Go.Proofs.SlLaysC2.n7 Tryz.prog Tryz.uL:={
 mixed:=by kernel_rfl
 f7:=⟨Tryz.f208.name,by decide,Tryz.func208.trans (congrArg some (by kernel_rfl))⟩
 t4:=Tryz.underlying4
 a4:=Tryz.isAgg4
 z4:=Tryz.sizeOf4
 v4:=Tryz.zeroValue4
 t22:=Tryz.underlying3
 a22:=Tryz.isAgg3
 z22:=Tryz.sizeOf3
 v22:=Tryz.zeroValue3 }
open Go.Lib in
theorem Tryz.cmp_isNaN_int (x:Int) (w:World):
  Calls Tryz.prog 208 #[.int .i64 x] w fun e w'=>e=.returned (.bool false)∧w'=w:=AnyG.cmp_isNaN_int Tryz.zM x w
def Tryz.uM:Go.Shelf.Ren:=⟨fun | 5=>152 | 7=>208 | n=>n,fun | 22=>3 | 3=>3 | 4=>4 | n=>n,fun | n=>n⟩
theorem Tryz.zN:Go.Proofs.SlLaysC2.n5 Tryz.prog Tryz.uM:={
 mixed:=by kernel_rfl
 f5:=⟨Tryz.f152.name,by decide,Tryz.func152.trans (congrArg some (by kernel_rfl))⟩
 f7:=⟨Tryz.f208.name,by decide,Tryz.func208.trans (congrArg some (by kernel_rfl))⟩
 t3:=Tryz.underlying3
 a3:=Tryz.isAgg3
 z3:=Tryz.sizeOf3
 v3:=Tryz.zeroValue3
 t4:=Tryz.underlying4
 a4:=Tryz.isAgg4
 z4:=Tryz.sizeOf4
 v4:=Tryz.zeroValue4
 t22:=Tryz.underlying3
 a22:=Tryz.isAgg3
 z22:=Tryz.sizeOf3
 v22:=Tryz.zeroValue3 }
open Go.Lib in
theorem Tryz.cmp_Compare_int (x y:Int) (w:World):
  Calls Tryz.prog 152 #[.int .i64 x,.int .i64 y] w fun e w'=>e=.returned (.int .i64 (Lib.compareInt x y))∧w'=w:=AnyG.cmp_Compare_int Tryz.zN x y w
def Tryz.Cv:Go.Shelf.Ren:=⟨fun | 6=>211 | 15=>80 | 14=>240 | 28=>138 | 29=>139 | 20=>257 | 21=>258 | 22=>259 | 23=>260 | 24=>261 | 25=>262 | 26=>263 | 27=>264 | 46=>272 | 47=>204 | 48=>205 | 49=>273 | 50=>274 | 57=>278 | n=>n,fun | 22=>215 | 24=>212 | 25=>214 | 3=>3 | 39=>136 | 0=>0 | 53=>199 | 55=>201 | 4=>4 | 46=>193 | 45=>192 | 50=>153 | 5=>5 | 9=>9 | 66=>240 | 70=>244 | 76=>271 | 77=>272 | n=>n,fun | n=>n⟩
theorem Tryz.sortSeat:Go.Proofs.SlLaysF0.n6 Tryz.prog Tryz.Cv:={
 mixed:=by kernel_rfl
 f6:=⟨Tryz.f211.name,by decide,Tryz.func211.trans (congrArg some (by kernel_rfl))⟩
 f14:=⟨Tryz.f240.name,by decide,Tryz.func240.trans (congrArg some (by kernel_rfl))⟩
 f15:=Tryz.func80.trans (congrArg some (by kernel_rfl))
 f20:=⟨Tryz.f257.name,by decide,Tryz.func257.trans (congrArg some (by kernel_rfl))⟩
 f21:=⟨Tryz.f258.name,by decide,Tryz.func258.trans (congrArg some (by kernel_rfl))⟩
 f22:=⟨Tryz.f259.name,by decide,Tryz.func259.trans (congrArg some (by kernel_rfl))⟩
 f23:=⟨Tryz.f260.name,by decide,Tryz.func260.trans (congrArg some (by kernel_rfl))⟩
 f24:=⟨Tryz.f261.name,by decide,Tryz.func261.trans (congrArg some (by kernel_rfl))⟩
 f25:=⟨Tryz.f262.name,by decide,Tryz.func262.trans (congrArg some (by kernel_rfl))⟩
 f26:=⟨Tryz.f263.name,by decide,Tryz.func263.trans (congrArg some (by kernel_rfl))⟩
 f27:=⟨Tryz.f264.name,by decide,Tryz.func264.trans (congrArg some (by kernel_rfl))⟩
 f28:=Tryz.func138.trans (congrArg some (by kernel_rfl))
 f29:=Tryz.func139.trans (congrArg some (by kernel_rfl))
 f46:=⟨Tryz.f272.name,by decide,Tryz.func272.trans (congrArg some (by kernel_rfl))⟩
 f47:=Tryz.func204.trans (congrArg some (by kernel_rfl))
 f48:=Tryz.func205.trans (congrArg some (by kernel_rfl))
 f49:=⟨Tryz.f273.name,by decide,Tryz.func273.trans (congrArg some (by kernel_rfl))⟩
 f50:=⟨Tryz.f274.name,by decide,Tryz.func274.trans (congrArg some (by kernel_rfl))⟩
 f57:=⟨Tryz.f278.name,by decide,Tryz.func278.trans (congrArg some (by kernel_rfl))⟩
 t0:=Tryz.underlying0
 a0:=Tryz.isAgg0
 z0:=Tryz.sizeOf0
 v0:=Tryz.zeroValue0
 t3:=Tryz.underlying3
 a3:=Tryz.isAgg3
 z3:=Tryz.sizeOf3
 v3:=Tryz.zeroValue3
 t4:=Tryz.underlying4
 a4:=Tryz.isAgg4
 z4:=Tryz.sizeOf4
 v4:=Tryz.zeroValue4
 t5:=Tryz.underlying5
 a5:=Tryz.isAgg5
 z5:=Tryz.sizeOf5
 v5:=Tryz.zeroValue5
 t9:=Tryz.underlying9
 a9:=Tryz.isAgg9
 z9:=Tryz.sizeOf9
 v9:=Tryz.zeroValue9
 t22:=Tryz.underlying215
 a22:=Tryz.isAgg215
 z22:=Tryz.sizeOf215
 v22:=Tryz.zeroValue215
 t25:=Tryz.underlying214
 a25:=Tryz.isAgg214
 z25:=Tryz.sizeOf214
 v25:=Tryz.zeroValue214
 t39:=Tryz.underlying136
 a39:=Tryz.isAgg136
 z39:=Tryz.sizeOf136
 v39:=Tryz.zeroValue136
 t45:=Tryz.underlying192
 a45:=Tryz.isAgg192
 z45:=Tryz.sizeOf192
 v45:=Tryz.zeroValue192
 t46:=Tryz.underlying193
 a46:=Tryz.isAgg193
 z46:=Tryz.sizeOf193
 v46:=Tryz.zeroValue193
 t50:=Tryz.underlying153
 a50:=Tryz.isAgg153
 z50:=Tryz.sizeOf153
 v50:=Tryz.zeroValue153
 t53:=Tryz.underlying199
 a53:=Tryz.isAgg199
 z53:=Tryz.sizeOf199
 v53:=Tryz.zeroValue199
 t55:=Tryz.underlying201
 a55:=Tryz.isAgg201
 z55:=Tryz.sizeOf201
 v55:=Tryz.zeroValue201
 t66:=Tryz.underlying240
 a66:=Tryz.isAgg240
 z66:=Tryz.sizeOf240
 v66:=Tryz.zeroValue240
 t70:=Tryz.underlying244
 a70:=Tryz.isAgg244
 z70:=Tryz.sizeOf244
 v70:=Tryz.zeroValue244
 t76:=Tryz.underlying271
 a76:=Tryz.isAgg271
 z76:=Tryz.sizeOf271
 v76:=Tryz.zeroValue271
 t77:=Tryz.underlying272
 a77:=Tryz.isAgg272
 z77:=Tryz.sizeOf272
 v77:=Tryz.zeroValue272 }
end Go.Proofs
namespace Go.Sg
open Go.Proofs Go.Proofs.Tryz Go.RowKit
theorem St.Im {h:HF} {w w':World} (hp:Pre h [] w) (hb:Below w.heap.size w w'):St ⟨w,h,[]⟩ h [] w':=
  ⟨hb.os,hb.tape,hb.output,hb.size,fun b hlt _=>hb.block b hlt,fun _ _ e=>e,fun _ _=>rfl,fun b o e=>by rw [hb.block b (fe (hp.imm b o e))];exact hp.imm b o e,
   fun _ hq=>(List.not_mem_nil hq).elim,List.nodup_nil,fun _ hq=>(List.not_mem_nil hq).elim,fun _ hq=>(List.not_mem_nil hq).elim⟩
theorem St.GY {h:HF} {w w':World} {g:Nat} {o:Obj} (hp:Pre h [] w) (hb:Below w.heap.size w w') (hg:w.heap.size≤g) (ho:w'.heap[g]? = some o):St ⟨w,h,[]⟩ h [(g,o)] w':=
  ⟨hb.os,hb.tape,hb.output,hb.size,fun b hlt _=>hb.block b hlt,fun _ _ e=>e,fun _ _=>rfl,fun b o e=>by rw [hb.block b (fe (hp.imm b o e))];exact hp.imm b o e,
   fun q hq=>by rw [List.mem_singleton.1 hq];exact ho,by simp,fun q hq=>by
     rw [List.mem_singleton.1 hq]
     show h g=none
     cases hh:h g with
     | none=>rfl
     | some o'=>have:=fe (hp.imm g o' hh);omega,fun q hq=>by rw [List.mem_singleton.1 hq];exact .inl hg⟩
theorem Ga {h:HF} {b:Option Addr} {xs:List Int} (hs:SlB Rp.int h b xs) (hne:xs≠[]):∃ g off,b=some ⟨g,off,none⟩∧∀ w,Pre h [] w→∀ j,j < xs.length→w.cell? ⟨g,off+j,none⟩=some (.int .i64 (xs.getD j 0)):=by
 obtain ⟨x0,r,rfl⟩:∃ x r,xs=x::r:=by cases xs with
  | nil=>exact (hne rfl).elim
  | cons x r=>exact ⟨x,r,rfl⟩
 obtain ⟨p,cs,rfl,hA,_,_⟩:=hs.2 0 x0 rfl
 have hsp:p.spot=none:=by
  obtain ⟨_,_,_,_,h2,_⟩:=hA
  simpa [Addr.add] using h2
 obtain ⟨g,off,sp⟩:=p
 simp only at hsp
 subst hsp
 refine ⟨g,off,rfl,fun w hp j hj=>?_⟩
 obtain ⟨p',cs',e,hA',hl,hr⟩:=hs.2 j ((x0::r)[j]) (by rw [List.getElem?_eq_getElem hj])
 cases e
 have hcs:cs'=[.int .i64 ((x0::r)[j])]:=hr
 subst hcs
 have hc:=hA'.cell (X:=⟨w,h,[]⟩) (L:=[]) (St.start hp) (j:=0) (v:=.int .i64 ((x0::r)[j])) rfl
 have ha:((⟨g,off,none⟩:Addr).add (j * Rp.int.sz)).add 0=⟨g,off+j,none⟩:=by
  have h1:j * Rp.int.sz=j:=Nat.mul_one j
  rw [h1]
  by_cases e0:j=0
  ·subst e0;simp [Addr.add]
  ·simp [Addr.add,e0]
 rw [ha] at hc
 rw [hc]
 simp [List.getD,List.getElem?_eq_getElem hj]
theorem li (h:HF) (x:List Int) (Lk:Option Addr) (Lh:Nat) (target:Int) (hx:SlC Rp.int h Lk Lh x) (hs:x.Pairwise (·≤·)) (hsz:x.length≤2000000):
  Ret prog 87 [.slice Lk x.length Lh,.int .i64 target] h (.tuple #[.int .i64 (slices_BinarySearch_int x target).1,.bool (slices_BinarySearch_int x target).2]):=by
 intro w hp
 by_cases hne:x=[]
 ·subst hne
  refine (iG (Tryz.slices_BinarySearch_int_empty Lk Lh target w) (fun w' hw=>by cases hw.1)).mono ?_
  rintro e w' ⟨rfl,rfl⟩
  exact ⟨h,[],St.start hp,rfl,rfl,rfl⟩
 ·obtain ⟨g,off,rfl,hc⟩:=Ga hx.1 hne
  refine (iG (Tryz.slices_BinarySearch_int g off x.length Lh x target w (Nat.le_refl _) (by omega) (hc w hp) (by simpa using hs)) (fun w' hw=>by cases hw.1)).mono ?_
  rintro e w' ⟨rfl,q,rfl⟩
  refine ⟨h,[],(St.start hp).drew _,?_,rfl,rfl⟩
  simp [bsI,slices_BinarySearch_int]
abbrev KQ {α : Type} (P:Program) (f:FuncId) (args:List Value) (h:HF) (R:Rp α) (E:TypeId) (xs:List α):Prop:=
 nI P f args.toArray h [] (fun r h' G=>h'=h∧∃ b c,r=.returned (.slice b xs.length c)∧cM R E h xs b c G)
theorem BQ {h:HF} {w w':World} {v:Value} {xs:List Int} (hp:Pre h [] w) (hb:Below w.heap.size w w') (ho:w'.ownsRow w.heap.size 3 1 v xs.length (xs.map (Value.int .i64))):
  ∃ h' G,St ⟨w,h,[]⟩ h' G w'∧h'=h∧∃ b c,Ending.returned v=.returned (.slice b xs.length c)∧cM Rp.int 3 h xs b c G:=by
 obtain ⟨_,⟨rfl,hn⟩ | ⟨g,cap,cur,rfl,hg,hh,h1,h2,h3,h4⟩⟩:=ho
 ·have:xs=[]:=List.length_eq_zero_iff.1 hn
  subst this
  exact ⟨h,[],St.Im hp hb,rfl,none,0,rfl,cM.nil⟩
 ·refine ⟨h,_,St.GY hp hb hg hh,rfl,some ⟨g,0,none⟩,cap,rfl,.inr ⟨g,xs.map (Value.int .i64),cur.toList.drop xs.length,rfl,?_,?_,h1,?_,?_⟩⟩
  ·have:∀ l:List Int,aP Rp.int h (l.map (Value.int .i64)) l:=by
    intro l
    induction l with
    | nil=>rfl
    | cons y l ih=>exact ⟨[.int .i64 y],l.map (Value.int .i64),rfl,rfl,rfl,ih⟩
   exact this xs
  ·have h5:xs.map (Value.int .i64)++cur.toList.drop xs.length=cur.toList:=by
    rw [← h4,Nat.mul_one];exact List.take_append_drop _ _
   rw [h5];show _=cap * 1;simpa using h3
  ·have:maxLen=9223372036854775807:=by rfl
   omega
  ·have h5:xs.map (Value.int .i64)++cur.toList.drop xs.length=cur.toList:=by
    rw [← h4,Nat.mul_one];exact List.take_append_drop _ _
   rw [h5]
theorem lR (h:HF) (s:List Int) (uc:Option Addr) (tb:Nat) (hs:SlC Rp.int h uc tb s) (hsz:s.length≤2000000):KQ prog 40 [.slice uc s.length tb] h Rp.int 3 s:=by
 intro w hp
 by_cases hne:s=[]
 ·subst hne
  cases uc with
  | none=>
   refine (iG (Tryz.slices_Clone_int_nil 0 tb w) (fun w' hw=>by cases hw.1)).mono ?_
   rintro e w' ⟨rfl,rfl⟩
   exact ⟨h,[],St.start hp,rfl,none,0,rfl,cM.nil⟩
  | some a=>
   refine (iG (Tryz.slices_Clone_int_zero a tb w) (fun w' hw=>by obtain ⟨_,e,_⟩:=hw;cases e)).mono ?_
   rintro e w' ⟨v,rfl,ho,_,hb⟩
   exact BQ (xs:=[]) hp hb ho
 ·obtain ⟨g,off,rfl,hc⟩:=Ga hs.1 hne
  refine (iG (Tryz.slices_Clone_int g off s.length tb s w (Nat.le_refl _) (by omega) (hc w hp)) (fun w' hw=>by obtain ⟨_,e,_⟩:=hw;cases e)).mono ?_
  rintro e w' ⟨v,rfl,ho,_,hb⟩
  rw [List.take_length] at ho
  exact BQ hp hb ho
theorem mn (h:HF) (xs:List Int) (b:Option Addr) (c:Nat) (G:LH) (hG:cM Rp.int 3 h xs b c G) (hsz:xs.length≤1000000000000):
  nI prog 41 [.slice b xs.length c].toArray h G (fun r h' G'=>h'=h∧r=.returned (.tuple #[])∧cM Rp.int 3 h (sortI xs) b c G'):=by
 intro w hp
 rcases hG with ⟨rfl,rfl,rfl,rfl⟩ | ⟨bk,cl,sp,rfl,hcl,hlen,hcap,hmax,rfl⟩
 ·refine (iG (Tryz.slices_Sort_int_none none 0 w) (fun w' hw=>by cases hw.1)).mono ?_
  rintro e w' ⟨rfl,rfl⟩
  exact ⟨h,[],St.start hp,rfl,rfl,by rw [show sortI []=[] from by simp [sortI]];exact cM.nil⟩
 ·have hb:=hp.own _ (List.mem_singleton.2 rfl)
  simp only at hb
  have hcl':cl=xs.map (Value.int .i64):=by
   clear hlen hb hp hcap hmax hsz
   induction xs generalizing cl with
   | nil=>exact hcl
   | cons y l ih=>
    obtain ⟨cs,r,rfl,_,hr,hl⟩:=hcl
    have:cs=[.int .i64 y]:=hr
    rw [this,ih r hl];rfl
  subst hcl'
  have hH:Sort.Holds (Value.int .i64) w bk 0 xs.toArray:=by
   refine holds_of_blockI (cur:=(xs.map (Value.int .i64)++sp).toArray) (e:=3) hb ?_
   simp
  refine (iG (Tryz.slices_Sort_int bk 0 c xs w hH (fe hb) (by omega)) (fun w' hw=>by cases hw.1)).mono ?_
  rw [CX]
  rintro e w' ⟨rfl,n,os,rfl⟩
  obtain ⟨g1,g2,g3,g4,g5⟩:=grownBy_sortedI (w:=w) (g:=bk) (n:=n) (os:=os) (sortI xs).toArray
  have hnew:=heap_sortedI (w:=w) (g:=bk) (n:=n) (os:=os) (sortI xs).toArray hb
  have htake:=take_putCellsI (xs.map (Value.int .i64)++sp).toArray (sortI xs) (by rw [hU];simp)
  refine ⟨h,[(bk,.cells (Sort.putCells (Value.int .i64) 0 (sortI xs).toArray (xs.map (Value.int .i64)++sp).toArray) 3 (0,0))],⟨g1,g2,g3,g4,fun k hk hM=>g5 k hk (fun e=>hM (by cases e;simp)),fun _ _ e=>e,fun _ _=>rfl,fun k o e=>?_,fun q hq=>?_,?_,?_,?_⟩,rfl,rfl,?_⟩
  ·have hne:k≠bk:=fun e'=>by
    have:=hp.free _ (List.mem_singleton.2 rfl)
    simp only at this
    rw [e',this] at e;cases e
   exact (g5 k (fe (hp.imm k o e)) (fun e'=>by cases e';exact hne rfl)).trans (hp.imm k o e)
  ·rw [List.mem_singleton.1 hq];exact hnew
  ·simp
  ·intro q hq;rw [List.mem_singleton.1 hq];exact hp.free (bk,Obj.cells (xs.map (Value.int .i64)++sp).toArray 3 (0,0)) (List.mem_singleton.2 rfl)
  ·intro q hq;rw [List.mem_singleton.1 hq];exact .inr (by simp)
  ·refine .inr ⟨bk,(sortI xs).map (Value.int .i64),(Sort.putCells (Value.int .i64) 0 (sortI xs).toArray (xs.map (Value.int .i64)++sp).toArray).toList.drop xs.length,rfl,?_,?_,by rw [hU];exact hcap,by rw [hU];exact hmax,?_⟩
   ·have:∀ l:List Int,aP Rp.int h (l.map (Value.int .i64)) l:=by
     intro l
     induction l with
     | nil=>rfl
     | cons y l ih=>exact ⟨[.int .i64 y],l.map (Value.int .i64),rfl,rfl,rfl,ih⟩
    exact this _
   ·rw [← htake,hU,List.take_append_drop]
    simpa [Sort.putCells] using hlen
   ·rw [← htake,hU,List.take_append_drop]
section steps
variable {P:Program} {b:Frame} {n:Nat} {ops:Array Oper} {F:List Frame→(Machine→Prop)→Prop} {e:Env} {ds:List Deferred} {X:Cx} {h:HF} {L:LH} {K:Env→HF→LH→Prop}
variable {d:Option Nat} {ty:TypeId} {pos:String} {af:Array Edge} {g:Option (Nat×Bool)}
theorem Jv {α : Type} {R:Rp α} {E:TypeId} {xs:List α} {f:FuncId} {ass:Array Operand} {ats:Array TypeId} {vs:List Value}
  (hc:∀ args w,(callFunc f args).run P w=.ok (.enter f args) w) (hs:KQ P f vs h R E xs) (hvs:ass.toList.map e.ev=vs)
  (t':∀ bb c G,cM R E h xs bb c G→K (pute e d (.slice bb xs.length c)) h (L++G))
  (hg:guardB ops e ⟨d,.call ⟨.value (.func f),ass,ats⟩,ty,pos,af,g⟩=true:=by rfl):
  Stp P b n ops F ds X ⟨d,.call ⟨.value (.func f),ass,ats⟩,ty,pos,af,g⟩ e h L K:=by
 unfold Stp
 rw [if_pos hg]
 intro w hw
 have harr:ass.map e.ev=vs.toArray:=Array.ext' (by simp [← hvs])
 have hr:(execOp e.ev ⟨d,.call ⟨.value (.func f),ass,ats⟩,ty,pos,af,g⟩).run P w=.ok (.enter f vs.toArray) w:=by
  simp [execOp,resolve,Env.ev,Deferred.ofValue,invoke,harr,hc]
 rw [hr]
 refine jC (by simp) (jf (nS.mono (hs w (hw.sub (List.nil_sublist _)).pre) ?_))
 rintro x w' ⟨h',B,hst,rfl,bb,c,rfl,hG⟩
 exact ⟨h',_,(St.after (A:=[]) (F:=L) hw hst).perm List.perm_append_comm,t' bb c B hG⟩
theorem rY (A0 G Q:LH) {v:Value} {Φ : LH→Prop} {f:FuncId} {ass:Array Operand} {ats:Array TypeId} {vs:List Value}
  (hc:∀ args w,(callFunc f args).run P w=.ok (.enter f args) w) (hs:nI P f vs.toArray h G (fun r h' G'=>h'=h∧r=.returned v∧Φ G')) (hL:L=A0++(G++Q)) (hvs:ass.toList.map e.ev=vs)
  (t':∀ G',Φ G'→K (pute e d v) h (A0++(G'++Q)))
  (hg:guardB ops e ⟨d,.call ⟨.value (.func f),ass,ats⟩,ty,pos,af,g⟩=true:=by rfl):
  Stp P b n ops F ds X ⟨d,.call ⟨.value (.func f),ass,ats⟩,ty,pos,af,g⟩ e h L K:=by
 unfold Stp
 rw [if_pos hg]
 intro w hw
 subst hL
 have hp:∀ G:LH,(A0++(G++Q)).Perm (G++(A0++Q)):=fun G=>by
  rw [← List.append_assoc,← List.append_assoc];exact List.Perm.append_right Q List.perm_append_comm
 have hw':=hw.perm (hp G)
 have harr:ass.map e.ev=vs.toArray:=Array.ext' (by simp [← hvs])
 have hr:(execOp e.ev ⟨d,.call ⟨.value (.func f),ass,ats⟩,ty,pos,af,g⟩).run P w=.ok (.enter f vs.toArray) w:=by
  simp [execOp,resolve,Env.ev,Deferred.ofValue,invoke,harr,hc]
 rw [hr]
 refine jC (by simp) (jf (nS.mono (hs w hw'.pre.left) ?_))
 rintro x w' ⟨h',B,hst,rfl,rfl,hG⟩
 exact ⟨h',_,(St.after (A:=G) (F:=A0++Q) hw' hst).perm (hp B).symm,t' B hG⟩
end steps
end Go.Sg
namespace Go.Sg
open Go.Proofs Go.Proofs.Tryz
abbrev EW {α : Type} (P:Program) (f:FuncId) (args:List Value) (h:HF) (R:Rp α) (E:TypeId) (S:List α→Prop):Prop:=
 nI P f args.toArray h [] (fun r h' G=>∃ xs bb c,S xs∧r=.returned (.slice bb xs.length c)∧cM R E h' xs bb c G)
section steps
variable {P:Program} {b:Frame} {n:Nat} {ops:Array Oper} {F:List Frame→(Machine→Prop)→Prop} {e:Env} {ds:List Deferred} {X:Cx} {h:HF} {L:LH} {K:Env→HF→LH→Prop}
variable {d:Option Nat} {ty:TypeId} {pos:String} {af:Array Edge} {g:Option (Nat×Bool)}
theorem vu {α : Type} {R:Rp α} {E:TypeId} {S:List α→Prop} {f:FuncId} {ass:Array Operand} {ats:Array TypeId} {vs:List Value}
  (hc:∀ args w,(callFunc f args).run P w=.ok (.enter f args) w) (hs:EW P f vs h R E S) (hvs:ass.toList.map e.ev=vs)
  (t':∀ h' xs bb c G,h.le h'→S xs→cM R E h' xs bb c G→K (pute e d (.slice bb xs.length c)) h' (L++G))
  (hg:guardB ops e ⟨d,.call ⟨.value (.func f),ass,ats⟩,ty,pos,af,g⟩=true:=by rfl):
  Stp P b n ops F ds X ⟨d,.call ⟨.value (.func f),ass,ats⟩,ty,pos,af,g⟩ e h L K:=by
 unfold Stp
 rw [if_pos hg]
 intro w hw
 have harr:ass.map e.ev=vs.toArray:=Array.ext' (by simp [← hvs])
 have hr:(execOp e.ev ⟨d,.call ⟨.value (.func f),ass,ats⟩,ty,pos,af,g⟩).run P w=.ok (.enter f vs.toArray) w:=by
  simp [execOp,resolve,Env.ev,Deferred.ofValue,invoke,harr,hc]
 rw [hr]
 refine jC (by simp) (jf (nS.mono (hs w (hw.sub (List.nil_sublist _)).pre) ?_))
 rintro x w' ⟨h',B,hst,xs,bb,c,hS,rfl,hG⟩
 exact ⟨h',_,(St.after (A:=[]) (F:=L) hw hst).perm List.perm_append_comm,t' h' xs bb c B hst.le hS hG⟩
end steps
theorem yu (h:HF) (it:Value) (S:List Int→Prop) (hit:w7 prog it (fun (k:Int) (_:HF) (vs:List Value)=>vs=[Value.int .i64 k]) S h) (hS:∀ xs,S xs→xs.length≤1000000000000):EW prog 178 [.slice none 0 0,it] h Rp.int 3 S:=by
 refine cU func178 rfl ntmps178 rfl fun X hM hX=>?_
 refine dz (bn (cA (fun b1=>fg (aM (dz (dz (bn (aj (aM (lW (?_)))))))))))
 refine Bu (it:=it) (S:=S) (ps:=[7])
  (fun done h' L'=>∃ gb gc G,L'=[(b1,Obj.cells (List.toArray [.slice gb done.length gc]) 31 (0,0))]++G∧cM Rp.int 3 h' done gb gc G)
  (fun _ _ _=>False) (fun _ _ _=>False) rfl hit rfl (fun x h' vs hv=>by rw [hv];rfl) ?_ (fun _ _ _ _ _ hf=>hf) (fun _ _ _ _ _ hf=>hf) ⟨none,0,[],rfl,cM.nil⟩ ?_ ?_ (fun _ _ _ _ _ hf=>hf.elim) (fun _ _ _ _ _ hf=>hf.elim)
 ·rintro done h1 h2 B hl ⟨gb,gc,G,rfl,hG⟩;exact ⟨gb,gc,G,rfl,hG.mono Rp.aK hl⟩
 ·rintro l1 r1 lp1 done y vs hr L' X' ⟨rest,hrest⟩ hle ⟨gb,gc,G,rfl,hG⟩ hv hlp hX' hXM
  obtain rfl:=hv
  have hlen:=hS _ hrest
  simp only [List.length_append,List.length_cons] at hlen
  refine bn (fg (aM ?_))
  refine kg 0 rfl hlp (lW (bn ?_))
  refine D3 2 ty31 rfl rfl rfl (aj ?_)
  refine aA (bg (cells:=[.int .i64 y]) cQ ty3 zc3 rfl rfl (by kernel_rfl) (fun b3=>?_))
  refine aA (bS Rp.dF ([(b3,Obj.cells (List.toArray [.int .i64 y]) 3 (0,0)),(l1,.loop { lp1 with state:=.busy }),(r1,.deferred (some [])),(b1,Obj.cells (List.toArray [.slice gb done.length gc]) 31 (0,0))]) [] (fun G=>[(b3,Obj.cells (List.toArray [.int .i64 y]) 3 (0,0)),(l1,.loop { lp1 with state:=.busy }),(r1,.deferred (some [])),(b1,Obj.cells (List.toArray [.slice gb done.length gc]) 31 (0,0))]++G) (G:=G) (show _=[(b3,Obj.cells (List.toArray [.int .i64 y]) 3 (0,0)),(l1,.loop { lp1 with state:=.busy }),(r1,.deferred (some [])),(b1,Obj.cells (List.toArray [.slice gb done.length gc]) 31 (0,0))]++(G++[]) from by rw [List.append_nil];rfl) (fun _=>by first | rfl | simp only [List.nil_append]) cQ ty3 zc3 rfl bytes3 hG rfl rfl (du (ys:=[y]) 0 rfl (show aP Rp.int hr [.int .i64 y] [y] from ⟨[.int .i64 y],[],rfl,rfl,rfl,rfl⟩)) (by simp only [List.length_append,List.length_cons,List.length_nil];omega) (by simp only [List.length_append,List.length_cons,List.length_nil];omega) (fun ob2 oc2 G2 gr2=>?_))
  refine dw 3 ty31 rfl rfl rfl rfl rfl rfl (aM (dY ?_))
  refine bU (L':=(l1,.loop { lp1 with state:=.busy })::(r1,.deferred (some []))::([(b1,Obj.cells (List.toArray [.slice ob2 (done++[y]).length oc2]) 31 (0,0))]++G2)) (.cons _ (List.Sublist.refl _)) ?_
  exact CD rfl ⟨ob2,oc2,G2,rfl,gr2⟩
 ·rintro r1 xs h2 L' hxs hle ⟨gb,gc,G,rfl,hG⟩
  refine dY (dz (bn (D3 1 ty31 rfl rfl rfl (fg (aM ?_)))))
  refine kC (L':=([(b1,Obj.cells (List.toArray [.slice gb xs.length gc]) 31 (0,0))]++G)++markB [r1]) (List.perm_append_singleton _ _).symm ?_
  exact vm [r1] func178 (fun a ha w hw=>res1 rfl a ha w) (fun w hw=>hw.sub (L':=G) (List.sublist_append_right _ _)) ⟨xs,gb,gc,hxs,rfl,hG⟩
theorem Bk (h:HF) (it:Value) (S:List Int→Prop) (hit:w7 prog it (fun (k:Int) (_:HF) (vs:List Value)=>vs=[Value.int .i64 k]) S h) (hS:∀ xs,S xs→xs.length≤1000000000000):EW prog 108 [it] h Rp.int 3 S:=by
 refine cU func108 rfl ntmps108 rfl fun X hM hX=>?_
 refine dz (bn (fg (aM (dz (bn (aj ?_))))))
 refine aA (vu call178 (yu h it S hit hS) rfl (fun h' xs bb c G hle hxs hG=>?_))
 refine fg (aM ?_)
 exact mG func108 (fun a ha w hw=>res1 rfl a ha w) (fun w hw=>hw.sub (L':=G) (List.sublist_append_right _ _)) ⟨xs,bb,c,hxs,rfl,hG⟩
theorem w9 (h:HF) (it:Value) (S:List OSeat→Prop) (hit:w7 prog it (fun (k:OSeat) (_:HF) (vs:List Value)=>vs=[OSeat.enc k]) S h) (hS:∀ xs,S xs→xs.length≤1000000000000):EW prog 239 [.slice none 0 0,it] h OSeat.rp 212 S:=by
 refine cU func239 rfl ntmps239 rfl fun X hM hX=>?_
 refine dz (bn (cA (fun b1=>fg (aM (dz (dz (bn (aj (aM (lW (?_)))))))))))
 refine Bu (it:=it) (S:=S) (ps:=[7])
  (fun done h' L'=>∃ gb gc G,L'=[(b1,Obj.cells (List.toArray [.slice gb done.length gc]) 215 (0,0))]++G∧cM OSeat.rp 212 h' done gb gc G)
  (fun _ _ _=>False) (fun _ _ _=>False) rfl hit rfl (fun x h' vs hv=>by rw [hv];rfl) ?_ (fun _ _ _ _ _ hf=>hf) (fun _ _ _ _ _ hf=>hf) ⟨none,0,[],rfl,cM.nil⟩ ?_ ?_ (fun _ _ _ _ _ hf=>hf.elim) (fun _ _ _ _ _ hf=>hf.elim)
 ·rintro done h1 h2 B hl ⟨gb,gc,G,rfl,hG⟩;exact ⟨gb,gc,G,rfl,hG.mono OSeat.ak hl⟩
 ·rintro l1 r1 lp1 done y vs hr L' X' ⟨rest,hrest⟩ hle ⟨gb,gc,G,rfl,hG⟩ hv hlp hX' hXM
  obtain rfl:=hv
  have hlen:=hS _ hrest
  simp only [List.length_append,List.length_cons] at hlen
  refine bn (bH zc212 (fun b2=>bE 0 ty212 rfl rfl rfl rfl rfl rfl (aM ?_)))
  refine kg 1 rfl hlp (lW (bn ?_))
  refine D3 3 ty215 rfl rfl rfl (cJ 0 ty212 rfl rfl rfl ?_)
  refine aA (bg (cells:=[.int .i64 y.office,.int .i64 y.person]) JU ty212 zc212 rfl rfl (by kernel_rfl) (fun b3=>?_))
  refine aA (bS OSeat.eC ([(b3,Obj.cells (List.toArray [.int .i64 y.office,.int .i64 y.person]) 212 (0,0)),(b2,Obj.cells (OSeat.cells y).toArray 212 (0,0)),(l1,.loop { lp1 with state:=.busy }),(r1,.deferred (some [])),(b1,Obj.cells (List.toArray [.slice gb done.length gc]) 215 (0,0))]) [] (fun G=>[(b3,Obj.cells (List.toArray [.int .i64 y.office,.int .i64 y.person]) 212 (0,0)),(b2,Obj.cells (OSeat.cells y).toArray 212 (0,0)),(l1,.loop { lp1 with state:=.busy }),(r1,.deferred (some [])),(b1,Obj.cells (List.toArray [.slice gb done.length gc]) 215 (0,0))]++G) (G:=G) (show _=[(b3,Obj.cells (List.toArray [.int .i64 y.office,.int .i64 y.person]) 212 (0,0)),(b2,Obj.cells (OSeat.cells y).toArray 212 (0,0)),(l1,.loop { lp1 with state:=.busy }),(r1,.deferred (some [])),(b1,Obj.cells (List.toArray [.slice gb done.length gc]) 215 (0,0))]++(G++[]) from by rw [List.append_nil];rfl) (fun _=>by first | rfl | simp only [List.nil_append]) JU ty212 zc212 rfl bytes212 hG rfl rfl (du (ys:=[y]) 0 rfl (show aP OSeat.rp hr [.int .i64 y.office,.int .i64 y.person] [y] from ⟨[.int .i64 y.office,.int .i64 y.person],[],rfl,rfl,rfl,rfl⟩)) (by simp only [List.length_append,List.length_cons,List.length_nil];omega) (by simp only [List.length_append,List.length_cons,List.length_nil];omega) (fun ob2 oc2 G2 gr2=>?_))
  refine dw 4 ty215 rfl rfl rfl rfl rfl rfl (aM (dY ?_))
  refine bU (L':=(l1,.loop { lp1 with state:=.busy })::(r1,.deferred (some []))::([(b1,Obj.cells (List.toArray [.slice ob2 (done++[y]).length oc2]) 215 (0,0))]++G2)) (.cons _ (.cons _ (List.Sublist.refl _))) ?_
  exact CD rfl ⟨ob2,oc2,G2,rfl,gr2⟩
 ·rintro r1 xs h2 L' hxs hle ⟨gb,gc,G,rfl,hG⟩
  refine dY (dz (bn (D3 1 ty215 rfl rfl rfl (fg (aM ?_)))))
  refine kC (L':=([(b1,Obj.cells (List.toArray [.slice gb xs.length gc]) 215 (0,0))]++G)++markB [r1]) (List.perm_append_singleton _ _).symm ?_
  exact vm [r1] func239 (fun a ha w hw=>res1 rfl a ha w) (fun w hw=>hw.sub (L':=G) (List.sublist_append_right _ _)) ⟨xs,gb,gc,hxs,rfl,hG⟩
theorem AK (h:HF) (it:Value) (S:List OSeat→Prop) (hit:w7 prog it (fun (k:OSeat) (_:HF) (vs:List Value)=>vs=[OSeat.enc k]) S h) (hS:∀ xs,S xs→xs.length≤1000000000000):EW prog 210 [it] h OSeat.rp 212 S:=by
 refine cU func210 rfl ntmps210 rfl fun X hM hX=>?_
 refine dz (bn (fg (aM (dz (bn (aj ?_))))))
 refine aA (vu call239 (w9 h it S hit hS) rfl (fun h' xs bb c G hle hxs hG=>?_))
 refine fg (aM ?_)
 exact mG func210 (fun a ha w hw=>res1 rfl a ha w) (fun w hw=>hw.sub (L':=G) (List.sublist_append_right _ _)) ⟨xs,bb,c,hxs,rfl,hG⟩
end Go.Sg
namespace Go.Sg
open Go.Proofs Go.Proofs.Tryz
theorem lQ (h:HF) (it:Value) (ks:List Int) (hit:w7 prog it (fun (k:Int) (_:HF) (vs:List Value)=>vs=[Value.int .i64 k]) (fun xs=>xs.Perm ks) h) (hk:ks.length≤1000000000000):
  iq prog 60 [it] h (fun v h'=>∃ (b:Option Addr) (c:Nat),v=.slice b (sortI ks).length c∧SlC Rp.int h' b c (sortI ks)):=by
 refine cU func60 rfl ntmps60 rfl fun X hM hX=>?_
 refine dz (bn (fg (aM (dz (bn (aj ?_))))))
 refine aA (vu call108 (Bk h it _ hit (fun xs hx=>by rw [hx.length_eq];exact hk)) rfl (fun h' xs bb c G hle hxs hG=>?_))
 refine fg (aM (dz (bn (aj ?_))))
 refine aA (rY [] G [] call41 (mn h' xs bb c G hG (by rw [hxs.length_eq];exact hk)) (by simp) rfl (fun G' hG'=>?_))
 refine aM (dz (bn (aj (fg (aM ?_)))))
 refine eI Rp.aK [] G' [] (by simp) hM hG' (fun h2 hle2 sl=>?_)
 refine fR [.slice bb xs.length c] func60 rfl ⟨rfl,trivial⟩ ⟨bb,c,?_,?_⟩
 ·rw [← Dx hxs,hU];rfl
 ·rw [← Dx hxs];exact sl
theorem pB (h:HF) (m:List (Int×Bool)) (CY:Nat) (hm:oZ (Value.int .i64) iV h CY m):iq prog 61 [.map (some CY)] h (fun v h'=>w7 prog v (fun (k:Int) (_:HF) (vs:List Value)=>vs=[(Value.int .i64) k]) (fun xs=>xs.Perm (m.map (·.1))) h'):=by
 refine cU func61 rfl ntmps61 rfl fun X hM hX=>?_
 refine dz (bn (cA (fun b1=>fg (aM (dz (bn ?_))))))
 refine bN 0 rfl hM (fun h2 hle2 hb2=>?_)
 refine aA (fX rfl rfl ?_)
 refine fg (aM ?_)
 refine fR [.func (.func 109) #[] #[.pointer (some ⟨b1,0,none⟩)]] func61 rfl ⟨rfl,trivial⟩ ?_
 exact tU h2 m CY ⟨b1,0,none⟩ (hm.mono iV.mono hle2) (dp hb2)
theorem sy (h:HF) (m:List (Int×Version)) (CY:Nat) (hm:oZ (Value.int .i64) (kR Version.rp) h CY m):iq prog 141 [.map (some CY)] h (fun v h'=>w7 prog v (fun (k:Int) (_:HF) (vs:List Value)=>vs=[(Value.int .i64) k]) (fun xs=>xs.Perm (m.map (·.1))) h'):=by
 refine cU func141 rfl ntmps141 rfl fun X hM hX=>?_
 refine dz (bn (cA (fun b1=>fg (aM (dz (bn ?_))))))
 refine bN 0 rfl hM (fun h2 hle2 hb2=>?_)
 refine aA (fX rfl rfl ?_)
 refine fg (aM ?_)
 refine fR [.func (.func 209) #[] #[.pointer (some ⟨b1,0,none⟩)]] func141 rfl ⟨rfl,trivial⟩ ?_
 exact qU h2 m CY ⟨b1,0,none⟩ (hm.mono (kR.mono Version.ak) hle2) (dp hb2)
theorem sA (h:HF) (m:List (OSeat×Appoint)) (CY:Nat) (hm:oZ OSeat.enc (kR Appoint.rp) h CY m):iq prog 154 [.map (some CY)] h (fun v h'=>w7 prog v (fun (k:OSeat) (_:HF) (vs:List Value)=>vs=[OSeat.enc k]) (fun xs=>xs.Perm (m.map (·.1))) h'):=by
 refine cU func154 rfl ntmps154 rfl fun X hM hX=>?_
 refine dz (bn (cA (fun b1=>fg (aM (dz (bn ?_))))))
 refine bN 0 rfl hM (fun h2 hle2 hb2=>?_)
 refine aA (fX rfl rfl ?_)
 refine fg (aM ?_)
 refine fR [.func (.func 212) #[] #[.pointer (some ⟨b1,0,none⟩)]] func154 rfl ⟨rfl,trivial⟩ ?_
 exact qV h2 m CY ⟨b1,0,none⟩ (hm.mono (kR.mono Appoint.ak) hle2) (dp hb2)
end Go.Sg
namespace Go.Sg
open Go.Proofs Go.Proofs.Tryz
set_option maxHeartbeats 2000000
theorem pg (h:HF) (l:List Int) (ey:Option Addr) (ew:Nat) (l_q:Addr) (hl:SlC Rp.int h ey ew l) (al:At h l_q [.slice ey l.length ew]):Itr prog (.func (.func 62) #[] (List.toArray [.pointer (some l_q)])) zS (aQ l) h:=by
 refine wN call62 ?_
 intro yf ya yb C Sp Pn h1 A hle m1 m2 m3 hC hy
 refine jQ Dn U ntmps62 U fun X hXM hX=>?_
 have hs0:aQ l=[]++aQ l:=rfl
 refine sr (cK ty31 (al.mono hle) U (qL 3 [] U ?_))
 refine lp2 l (fun i w=>[(0,.func yf ya yb),(1,.pointer (some l_q)),(6,.slice ey l.length ew),(7,I (l.length:Int)),(8,I (i:Int))]) (fun w=>w.2.2) (fun w=>w.2.1) (fun i w=>C w.1 w.2.2 w.2.1∧HF.le h1 w.2.2) (fun s1 i w=>w.1++(aQ.L1 l (aQ.K1)) s1 i) ([],A,h1) ((hl.mono Rp.aK hle).1.1) hs0 ⟨hC,lf⟩ ?_ ?_
 ·rintro i1 ⟨dn1,A1_,hh1⟩ et hs1 ⟨hC1_,hl1⟩ e
  refine gk ?_
  have hs2:aQ l=dn1:=hs1.trans (List.append_nil _)
  exact wO [] (A:=A1_) Dn U (List.Sublist.refl _) (.inl (hs2 ▸ hC1_))
 rintro i1 ⟨dn1,A1_,hh1⟩ y1 rz1 hd1 cw ao dy fB hs3 ⟨hC1_,hl1⟩ hx1 ag1 e
 refine sr (ad (v':=.bool true) U (cb cw) (qO 9 U (aA (ek (enc:=fun y=>[I y]) ei cQ ty3 (hl.mono Rp.aK (hle.t hl1)).1 (nthZ ao) (au ao) U U U (fun q3 A6=>cK ty3 A6 U (qO 11 U (ad (v':=I (((i1+1):Nat):Int)) U (aL ob) (cK ty31 (al.mono (hle.t hl1)) U (qL 3 [] U (j7 U (fun c3=>?_) (fun c3=>?_)))))))))))
 ·have c3p:=of_decide_eq_true c3
  have hs4:=hs3.trans (congrArg (dn1++·) (bt c3))
  refine qT 2 U (cK ty31 (al.mono (hle.t hl1)) U (aj (ad (v':=I (((i1+1):Nat):Int)) U (aL ob) ?_)))
  have ho2:0≤((((i1+1):Nat):Int):Int)∧((((i1+1):Nat):Int):Int) < ((l).length:Int):=ob
  refine aA (ek (enc:=fun y=>[I y]) ei cQ ty3 (hl.mono Rp.aK (hle.t hl1)).1 ho2 (bT ho2) U U U (fun q4 A7=>cK ty3 A7 U (aA (fu (KY U U) (qO 8 U (mH 28 U (fun c4=>?_) (fun c4=>?_)))))))
  ·have c4p:=of_decide_eq_true c4
   have hs5:=hs4.trans (congrArg (dn1++·) (bt c4))
   refine qO 3 U (aA (er (cells:=[I y1,I (min 1099511627776 (nthI l (((i1+1):Nat):Int)))]) (places:=[(0,1),(1,1)]) Bt zc46 kr kr ?_))
   have hx2:aQ l=dn1++((Span.mk y1 (min 1099511627776 (nthI l (((i1+1):Nat):Int))))::(aQ.L1 l (aQ.K1) rz1 (i1+1))):=hs5
   refine aA (me ([]) A1_ ap (hy dn1 (Span.mk y1 (min 1099511627776 (nthI l (((i1+1):Nat):Int)))) _ _ _ _ hx2 hl1 hC1_ U) U U (fun h5 A8 hle4 hC2=>?_) (fun h6 A9 hle5 hS2=>?_) (fun ch2 h7 A10 hle6 hP2 e=>ja (qY [] (A:=A10) Dn (List.sublist_append_right _ _) hP2)))
   ·have hs6:aQ l=(dn1++[(Span.mk y1 (min 1099511627776 (nthI l (((i1+1):Nat):Int))))])++((aQ.L1 l (aQ.K1) rz1 (i1+1))):=hx2.trans ap
    exact lY U (qO 6 U (ad (v':=I (((i1+1):Nat):Int)) U (aL ob) (qO 2 U (ag1 ((dn1++[(Span.mk y1 (min 1099511627776 (nthI l (((i1+1):Nat):Int))))]),A8,h5) hs6 ⟨hC2,(hl1.t hle4)⟩))))
   exact lY U (qO 3 U (gk (qX [] (A:=A9) Dn U (List.Sublist.refl _) (.inr hS2))))
  have c4p:=of_decide_eq_false c4
  have hs7:=hs4.trans (congrArg (dn1++·) (bf c4))
  exact kq (qO 10 U (ad (v':=I (((i1+1):Nat):Int)) U (aL ob) (qO 2 U (ag1 (dn1,A1_,hh1) hs7 ⟨hC1_,hl1⟩))))
 have c3p:=of_decide_eq_false c3
 have hs8:=hs3.trans (congrArg (dn1++·) (bf c3))
 refine qT 7 U (mH 28 U (fun c5=>?_) (fun c5=>?_))
 ·have c5p:=of_decide_eq_true c5
  have hs9:=hs8.trans (congrArg (dn1++·) (bt c5))
  refine qO 3 U (aA (er (cells:=[I y1,I 1099511627776]) (places:=[(0,1),(1,1)]) Bt zc46 kr kr ?_))
  have hx3:aQ l=dn1++((Span.mk y1 1099511627776)::(aQ.L1 l (aQ.K1) rz1 (i1+1))):=hs9
  refine aA (me ([]) A1_ ap (hy dn1 (Span.mk y1 1099511627776) _ _ _ _ hx3 hl1 hC1_ U) U U (fun h8 A11 hle7 hC3=>?_) (fun h9 A12 hle8 hS3=>?_) (fun ch3 h10 A13 hle9 hP3 e=>ja (qY [] (A:=A13) Dn (List.sublist_append_right _ _) hP3)))
  ·have hs10:aQ l=(dn1++[(Span.mk y1 1099511627776)])++((aQ.L1 l (aQ.K1) rz1 (i1+1))):=hx3.trans ap
   exact lY U (qO 6 U (ad (v':=I (((i1+1):Nat):Int)) U (aL ob) (qO 2 U (ag1 ((dn1++[(Span.mk y1 1099511627776)]),A11,h8) hs10 ⟨hC3,(hl1.t hle7)⟩))))
  exact lY U (qO 3 U (gk (qX [] (A:=A12) Dn U (List.Sublist.refl _) (.inr hS3))))
 have c5p:=of_decide_eq_false c5
 have hs11:=hs8.trans (congrArg (dn1++·) (bf c5))
 exact kq (qO 10 U (ad (v':=I (((i1+1):Nat):Int)) U (aL ob) (qO 2 U (ag1 (dn1,A1_,hh1) hs11 ⟨hC1_,hl1⟩))))
theorem qm (h:HF) (q:aC) (j4:fL) (hq:aC.ok h q j4) (hsm:smR q.Register) (hov:okV q.Register.Versions) (hod:0≤q.doc.At∧q.doc.At≤1099511627776):iq prog 29 [.agg (aC.cells q j4).toArray] h (fun v h'=>∃ (rv0:Value),v=rv0∧Itr prog rv0 zS (aD q) h'):=by
 refine sT func29 U ntmps29 U fun X hM hX hF=>?_
 have hs0:aD q=aD q:=rfl
 have hm1:=gq (mput (mput ([]:List (Int×Bool)) 0 true) q.doc.At true) q.doc.Until true
 have hm2:=gq (mput ([]:List (Int×Bool)) 0 true) q.doc.At true
 have hm3:=gq ([]:List (Int×Bool)) 0 true
 have hs1:=hsm.2.1
 have hs2:=hsm.2.2.2.1
 have hs3:=hov.1
 simp only [List.length_nil] at hm3
 refine sr (cA (fun b1=>qO 3 U ?_))
 let z1:Nat×Obj:=(b1,O (aC.cells q j4) 77)
 refine Cr (ι:=Nat×Obj) (fun i=>[(1,Q b1),(3,.map (some i.1))]) (fun i=>[(i.1,i.2),z1]) (fun i=>hO (Value.int .i64) iV h i.2 (mput (mput (mput ([]) 0 true) q.doc.At true) q.doc.Until true)) ?_ (fun hk1=>?_)
 rotate_left
 ·refine eB ([z1]) mixed kr jn (fun cB _=>?_)
  refine qB [2,3] U (tf 4 U U (fun _ _ hj=>fI ty3 U (hj.nth (i:=0) U) U) (qB [6,7] U (tf 8 U U (fun _ _ hj=>fI ty3 U (hj.nth (i:=0) U) U) (tn 0 U (pi (fun b3=>⟨jn,?_⟩))))))
  refine Dt 1 5 9 kr U U U ?_ ?_ ?_ 
  ·refine iv 0 (k:=0) (x:=true) oh (eE kL) U (hO.nil (enc:=(Value.int .i64)) (V:=iV) (h:=h)) U U U (fun mo2 hm2=>⟨jn,?_⟩)
   refine jq 5 9 kr U U ?_ ?_ 
   ·exact iv 0 (k:=q.doc.At) (x:=true) oh (eE kL) U hm2 U U U (fun mo3 hm3=>⟨jn,tn 9 U (iv 0 (k:=q.doc.Until) (x:=true) oh (eE kL) U hm3 U U U (fun mo4 hm4=>⟨jn,qA [10,11] U (aI kr (hk1 (b3,mo4) _ hm4 rd))⟩))⟩)
   exact iv 0 (k:=q.doc.Until) (x:=true) oh (eE kL) U hm2 U U U (fun mo5 hm5=>⟨jn,tn 5 U (iv 0 (k:=q.doc.At) (x:=true) oh (eE kL) U hm5 U U U (fun mo6 hm6=>⟨jn,qA [10,11] U (aI kr (hk1 (b3,mo6) _ (hO.perm hm6 (oD true (p132 0 q.doc.At q.doc.Until) List.nodup_nil)) rd))⟩))⟩)
  ·refine iv 0 (k:=q.doc.At) (x:=true) oh (eE kL) U (hO.nil (enc:=(Value.int .i64)) (V:=iV) (h:=h)) U U U (fun mo7 hm7=>⟨jn,?_⟩)
   refine jq 1 9 kr U U ?_ ?_ 
   ·exact iv 0 (k:=0) (x:=true) oh (eE kL) U hm7 U U U (fun mo8 hm8=>⟨jn,tn 9 U (iv 0 (k:=q.doc.Until) (x:=true) oh (eE kL) U hm8 U U U (fun mo9 hm9=>⟨jn,qA [10,11] U (aI kr (hk1 (b3,mo9) _ (hO.perm hm9 (oD true (p213 0 q.doc.At q.doc.Until) List.nodup_nil)) rd))⟩))⟩)
   exact iv 0 (k:=q.doc.Until) (x:=true) oh (eE kL) U hm7 U U U (fun mo10 hm10=>⟨jn,tn 1 U (iv 0 (k:=0) (x:=true) oh (eE kL) U hm10 U U U (fun mo11 hm11=>⟨jn,qA [10,11] U (aI kr (hk1 (b3,mo11) _ (hO.perm hm11 (oD true (p231 0 q.doc.At q.doc.Until) List.nodup_nil)) rd))⟩))⟩)
  refine iv 0 (k:=q.doc.Until) (x:=true) oh (eE kL) U (hO.nil (enc:=(Value.int .i64)) (V:=iV) (h:=h)) U U U (fun mo12 hm12=>⟨jn,?_⟩)
  refine jq 1 5 kr U U ?_ ?_ 
  ·exact iv 0 (k:=0) (x:=true) oh (eE kL) U hm12 U U U (fun mo13 hm13=>⟨jn,tn 5 U (iv 0 (k:=q.doc.At) (x:=true) oh (eE kL) U hm13 U U U (fun mo14 hm14=>⟨jn,qA [10,11] U (aI kr (hk1 (b3,mo14) _ (hO.perm hm14 (oD true (p312 0 q.doc.At q.doc.Until) List.nodup_nil)) rd))⟩))⟩)
  exact iv 0 (k:=q.doc.At) (x:=true) oh (eE kL) U hm12 U U U (fun mo15 hm15=>⟨jn,tn 1 U (iv 0 (k:=0) (x:=true) oh (eE kL) U hm15 U U U (fun mo16 hm16=>⟨jn,qA [10,11] U (aI kr (hk1 (b3,mo16) _ (hO.perm hm16 (oD true (p321 0 q.doc.At q.doc.Until) List.nodup_nil)) rd))⟩))⟩)
 rintro ⟨b2,mo1⟩ hm1 e
 try dsimp only at hm1
 refine qK 9 [1] U ?_
 refine lp2 q.Register.Appoints (fun i w=>[(1,Q b1),(3,.map (some b2)),(23,.slice j4.Register.kK q.Register.Appoints.length j4.Register.kJ),(24,I (q.Register.Appoints.length:Int)),(25,I (i:Int))]) (fun _=>h) (fun w=>[(b2,w.2),z1]) (fun i w=>hO (Value.int .i64) iV h w.2 w.1∧w.1.length≤(mput (mput (mput ([]) 0 true) q.doc.At true) q.doc.Until true).length+i) (fun s1 i w=>(aD.L1 (aD.K1 q)) s1 w.1) ((mput (mput (mput ([]) 0 true) q.doc.At true) q.doc.Until true),mo1) hq.Register.Appoints.1.1 hs0 ⟨hm1,(by have:=gq (mput (mput ([]) 0 true) q.doc.At true) q.doc.Until true;have:=gq (mput ([]) 0 true) q.doc.At true;have:=gq ([]) 0 true;first | omega | (simp only [List.length_nil,List.length_cons] at *;omega))⟩ ?_ ?_
 ·rintro i1 ⟨dq,ku⟩ et hs1 ⟨gQ,lz⟩ e
  try dsimp only at gQ lz
  refine qK 9 [1] U ?_
  refine lp2 q.Register.Interests (fun i w=>[(1,Q b1),(3,.map (some b2)),(35,.slice j4.Register.lD q.Register.Interests.length j4.Register.lC),(36,I (q.Register.Interests.length:Int)),(37,I (i:Int))]) (fun _=>h) (fun w=>[(b2,w.2),z1]) (fun i w=>hO (Value.int .i64) iV h w.2 w.1∧w.1.length≤dq.length+i) (fun s2 i w=>(aD.L2 (aD.K2 q)) s2 w.1) (dq,ku) hq.Register.Interests.1.1 hs1 ⟨gQ,lc⟩ ?_ ?_
  ·rintro i2 ⟨kG,EC⟩ sK hs2 ⟨sN,Ad⟩ e
   try dsimp only at sN Ad
   refine qK 9 [1] U ?_
   refine lp2 q.Register.Versions (fun i w=>[(1,Q b1),(3,.map (some b2)),(47,.slice j4.Register.kI q.Register.Versions.length j4.Register.kH),(48,I (q.Register.Versions.length:Int)),(49,I (i:Int))]) (fun _=>h) (fun w=>[(b2,w.2),z1]) (fun i w=>hO (Value.int .i64) iV h w.2 w.1∧w.1.length≤kG.length+17 * i) (fun s3 i w=>(aD.L3 q (aD.K3)) s3 w.1) (kG,EC) hq.Register.Versions.1.1 hs2 ⟨sN,lc⟩ ?_ ?_
   ·rintro i3 ⟨jo,IC⟩ JH hs3 ⟨sM,Ab⟩ e
    try dsimp only at sM Ab
    refine qT 3 U (bN 0 U hM (fun h1 hle1 hb1=>?_))
    have mc1:oZ (Value.int .i64) iV h1 b2 jo:=⟨_,hb1,sM.mono iV.mono hle1⟩
    refine aA (cf call61 (pB h1 jo b2 mc1) U (fun v1 h2 hle2 hp1=>aA (cf call60 (lQ h2 v1 (jo.map Prod.fst) hp1 (by rw [List.length_map];omega)) U (fun v2 h3 hle3 hp2=>?_))))
    obtain ⟨rb1,rc1,rfl,sl1⟩:=hp2
    refine bH zc31 (fun b17=>dw 0 ty31 U U U U U U (qO 3 U (bN 0 U hM (fun h4 hle4 hb2=>aA (fX U U (an ?_))))))
    have hs4:aD q=(aQ (sortI (jo.map Prod.fst))):=hs3
    exact nretH [.func (.func 62) #[] #[Q b17]] ⟨(.func (.func 62) #[] #[Q b17]),congrArg (fun r:List Span=>((.func (.func 62) #[] #[Q b17]):Value)) hs4.symm,(by rw [hs4];exact (pg h4 (sortI (jo.map Prod.fst)) rb1 rc1 ⟨b17,0,none⟩ (sl1.mono Rp.aK hle4) (dp hb2)))⟩
   rintro i3 ⟨jo,IC⟩ y3 rz3 hd3 sJ gU xI Ev hs5 ⟨sM,Ab⟩ hx3 ag1 e
   try dsimp only at sM Ab
   have hml:=gq jo y3.At true
   have hvr:=(hov.2 y3 (fq hd3)).1
   refine sr (ad (v':=.bool true) U (cb sJ) (qO 8 U (aA (dV lg ty70 hq.Register.Versions.1 (nthZ gU) (au gU) U U U (fun _ _ _ e=>e) (fun q14 r9 A14 ok9=>de ty70 A14 U U (bH zc70 (fun b18=>bE 0 ty70 U U U U U U (qL 6 [0] U (aA (ki 1 (k:=y3.At) (x:=true) oh (eE kL) U sM U U U (fun mo30 hm30=>qL 9 [0] U ?_)))))))))))
   refine lp2 y3.Policy.Rules (fun i w=>[(1,Q b1),(3,.map (some b2)),(47,.slice j4.Register.kI q.Register.Versions.length j4.Register.kH),(48,I (q.Register.Versions.length:Int)),(49,I (i3:Int)),(58,.slice r9.Policy.kc y3.Policy.Rules.length r9.Policy.kb),(59,I (y3.Policy.Rules.length:Int)),(60,I (i:Int))]) (fun _=>h) (fun w=>[(b18,O (Version.cells y3 r9) 70),(b2,w.2),z1]) (fun i w=>hO (Value.int .i64) iV h w.2 w.1∧w.1.length≤(mput jo y3.At true).length+i) (fun s5 i w=>(aD.L5 q (fun zg5_b2_0=>(aD.L3 q (aD.K3) rz3 zg5_b2_0))) s5 w.1) ((mput jo y3.At true),mo30) ok9.Policy.Rules.1.1 hs5 ⟨hm30,(by have:=gq jo y3.At true;first | omega | (simp only [List.length_nil,List.length_cons] at *;omega))⟩ ?_ ?_
   ·rintro i5 ⟨jX,nB⟩ K7 hs6 ⟨lu,oJ⟩ e
    try dsimp only at lu oJ
    exact dY (bn (ad (v':=I (((i3+1):Nat):Int)) U (aL ob) (qO 2 U (bU (L':=[(b2,nB),z1]) js (ag1 (jX,nB) hs6 ⟨lu,lc⟩)))))
   rintro i5 ⟨jX,nB⟩ y5 rz5 hd5 Fo zW Iy KF hs7 ⟨lu,oJ⟩ hx5 ag2 e
   try dsimp only at lu oJ
   have hth:=(hov.2 y3 (fq hd3)).2 y5 (fq hd5)
   exact sr (ad (v':=.bool true) U (cb Fo) (qO 8 U (aA (dV pc ty107 ok9.Policy.Rules.1 (nthZ zW) (au zW) U U U (fun _ _ _ e=>e) (fun q16 r11 A16 ok11=>de ty107 A16 U U (bH zc107 (fun b20=>bE 0 ty107 U U U U U U (qL 8 [3,0] U (ad (v':=I (q.doc.At+y5.Think)) U (gG ob) (aA (ki 2 (k:=(q.doc.At+y5.Think)) (x:=true) oh (eE kL) U lu U U U (fun mo32 hm32=>qO 3 U (ad (v':=I (((i5+1):Nat):Int)) U (aL ob) (qO 2 U (bU (L':=[(b18,O (Version.cells y3 r9) 70),(b2,mo32),z1]) js (ag2 ((mput jX (q.doc.At+y5.Think) true),mo32) hs7 ⟨hm32,(by have:=gq jX (q.doc.At+y5.Think) true;first | omega | (simp only [List.length_nil,List.length_cons] at *;omega))⟩))))))))))))))))
  rintro i2 ⟨kG,EC⟩ y2 rz2 hd2 oI jJ vM Ew hs8 ⟨sN,Ad⟩ hx2 ag3 e
  try dsimp only at sN Ad
  exact sr (ad (v':=.bool true) U (cb oI) (qO 8 U (aA (ek (enc:=Interest.cells) ei ml ty61 hq.Register.Interests.1 (nthZ jJ) (au jJ) U U U (fun q17 A17=>de ty61 A17 U U (bH zc61 (fun b21=>bE 0 ty61 U U U U U U (qL 5 [0] U (aA (ki 1 (k:=y2.At) (x:=true) oh (eE kL) U sN U U U (fun mo33 hm33=>qO 3 U (ad (v':=I (((i2+1):Nat):Int)) U (aL ob) (qO 2 U (bU (L':=[(b2,mo33),z1]) js (ag3 ((mput kG y2.At true),mo33) hs8 ⟨hm33,(by have:=gq kG y2.At true;first | omega | (simp only [List.length_nil,List.length_cons] at *;omega))⟩)))))))))))))))
 rintro i1 ⟨dq,ku⟩ y1 rz1 hd1 cw ao dy fB hs9 ⟨gQ,lz⟩ hx1 ag4 e
 try dsimp only at gQ lz
 exact sr (ad (v':=.bool true) U (cb cw) (qO 8 U (aA (ek (enc:=Appoint.cells) ei uv ty59 hq.Register.Appoints.1 (nthZ ao) (au ao) U U U (fun q18 A18=>de ty59 A18 U U (bH zc59 (fun b22=>bE 0 ty59 U U U U U U (qL 5 [0] U (aA (ki 1 (k:=y1.At) (x:=true) oh (eE kL) U gQ U U U (fun mo34 hm34=>qO 3 U (ad (v':=I (((i1+1):Nat):Int)) U (aL ob) (qO 2 U (bU (L':=[(b2,mo34),z1]) js (ag4 ((mput dq y1.At true),mo34) hs9 ⟨hm34,(by have:=gq dq y1.At true;first | omega | (simp only [List.length_nil,List.length_cons] at *;omega))⟩)))))))))))))))
theorem py (h:HF) (who:List Int) (dU:Option Addr) (dT:Nat) (hwho:SlC Rp.int h dU dT who):Ret prog 96 [.slice dU who.length dT] h (.bool (cv who)):=by
 refine sT func96 U ntmps96 U fun X hM hX hF=>?_
 have hs0:cv who=cv who:=rfl
 refine qK 15 [] U ?_
 refine lp1 who (fun i w=>[(3,I w),(6,.slice dU who.length dT),(7,I (who.length:Int)),(8,I (i:Int))]) ([]) (fun s1 i w=>(cv.L1 (cv.K1)) s1 w) (-1) hwho.1.1 hs0 ?_ ?_
 ·rintro i1 gF et hs1 e
  exact sr (an (nretP [.bool true] (cs hs1)))
 rintro i1 gF y1 rz1 hd1 cw ao dy fB hs3 hx1 ag1 e
 refine sr (ad (v':=.bool true) U (cb cw) (qO 8 U (aA (ek (enc:=fun y=>[I y]) ei cQ ty3 hwho.1 (nthZ ao) (au ao) U U U (fun q2 A2=>cK ty3 A2 U (qO 9 U (ce 3 [15,16,17,18] 15 18 (decide (64≤y1)) U (fun c1 hk1=>?_) (fun e=>?_))))))))
 ·exact aj (qO 2 U (hk1 _ U))
 refine aM (ac hs3 U (fun c2 hs4=>?_) (fun c2 hs5=>?_))
 ·exact sr (an (nretP [.bool false] (cs hs4)))
 exact aE (qT 6 U (ad (v':=I (((i1+1):Nat):Int)) U (aL ob) (qO 2 U (ag1 y1 hs5))))
theorem wH (h:HF) (holders:List (List Holder)) (dL:Option Addr) (dK:Nat) (offices:Int) (hholders:SlC (Rp.sl Holder.rp) h dL dK holders) (hsz0:∀ y∈holders,y.length≤2000000):Ret prog 95 [.slice dL holders.length dK,I offices] h (.bool (ck holders offices)):=by
 refine sT func95 U ntmps95 U fun X hM hX hF=>?_
 have hs0:ck holders offices=ck holders offices:=rfl
 refine qK 11 [] U ?_
 refine lp2 holders (fun i w=>[(0,.slice dL holders.length dK),(1,I offices),(10,.slice dL holders.length dK),(11,I (holders.length:Int)),(12,I (i:Int))]) (fun w=>w) (fun w=>[]) (fun i w=>HF.le h w) (fun s1 i w=>(ck.L1 (ck.K1 holders offices)) s1) h hholders.1.1 hs0 lf ?_ ?_
 ·rintro i1 hh1 et hs1 hl1 e
  try dsimp only at hl1
  exact qK 8 [] U (nretP [.bool ((holders.length:Int)==offices)] (cs hs1))
 rintro i1 hh1 y1 rz1 hd1 cw ao dy fB hs3 hl1 hx1 ag1 e
 try dsimp only at hl1
 have hszy:=hsz0 y1 (fq hd1)
 refine sr (ad (v':=.bool true) U (cb cw) (qO 8 U (aA (vr ua ty101 (hholders.mono (Rp.j8 Holder.ak) hl1).1 (nthZ ao) (au ao) U U U (fun q3 cs2 A3 ln2 rr2=>?_)))))
 obtain ⟨rb2,rc2,rfl,sl2⟩:=rr2
 refine cK ty101 A3 U (qL 13 [] U ?_)
 refine lp2 y1 (fun i w=>[(0,.slice dL holders.length dK),(1,I offices),(7,.slice w.2.1 w.1.length w.2.2.1),(10,.slice dL holders.length dK),(11,I (holders.length:Int)),(12,I (i1:Int)),(16,.slice rb2 y1.length rc2),(17,I (y1.length:Int)),(18,I (i:Int))]) (fun _=>hh1) (fun w=>w.2.2.2) (fun i w=>cM Rp.int 3 hh1 w.1 w.2.1 w.2.2.1 w.2.2.2∧w.1.length≤0+i) (fun s3 i w=>(ck.L3 (fun zg3_7=>(bif (!(cv zg3_7)) then false else (ck.L1 (ck.K1 holders offices) rz1)))) s3 w.1) ([],none,0,[]) sl2.1.1 hs3 ⟨cM.nil,lo⟩ ?_ ?_
 ·rintro i3 ⟨Hc,La,K9,IE⟩ sK hs4 ⟨Ey,ID⟩ e
  try dsimp only at Ey ID
  refine qT 3 U (oo Rp.aK ([]) IE ([]) ap hM Ey (fun h1 hle1 sl3=>ah call96 (py _ _ _ _ sl3) U (qO 2 U (ac hs4 U (fun c2 hs5=>?_) (fun c2 hs6=>?_)))))
  ·exact sr (an (nretP [.bool false] (cs hs5)))
  exact aE (qT 2 U (ad (v':=I (((i1+1):Nat):Int)) U (aL ob) (qO 2 U (ag1 h1 hs6 (hl1.t hle1)))))
 rintro i3 ⟨Hc,La,K9,IE⟩ y3 rz3 hd3 sJ gU xI Ev hs8 ⟨Ey,ID⟩ hx3 ag2 e
 try dsimp only at Ey ID
 refine sr (ad (v':=.bool true) U (cb sJ) (qO 8 U (aA (ek (enc:=Holder.cells) ei pb ty133 sl2.1 (nthZ gU) (au gU) U U U (fun q5 A5=>de ty133 A5 U U (bH zc133 (fun b3=>bE 0 ty133 U U U U U U (iW (L':=[(b3,O (Holder.cells y3) 133)]++(IE)) U (qL 8 [0] U (ce 4 [25,26,27,28,29] 25 29 (decide (64 < y3.Weight)) U (fun c3 hk1=>?_) (fun e=>?_)))))))))))
 ·exact qL 4 [0] U (hk1 _ U)
 refine aM (ac hs8 U (fun c4 hs9=>?_) (fun c4 hs10=>?_))
 ·exact sr (an (nretP [.bool false] (cs hs9)))
 exact qK 5 [0] U (aA (bg (cells:=[I y3.Person]) cQ ty3 zc3 U U kr (fun b4=>aA (bS Rp.dF ([(b4,O [I y3.Person] 3),(b3,O (Holder.cells y3) 133)]) ([]) (fun G=>[(b4,O [I y3.Person] 3),(b3,O (Holder.cells y3) 133)]++G) ap (fun _=>ap) cQ ty3 zc3 U bytes3 Ey U U (du 0 U (show aP Rp.int hh1 [I y3.Person] ([y3.Person]) from ⟨[I y3.Person],[],U,U,U,U⟩)) lo lo (fun ob1 oc1 G1 gr1=>qO 4 U (ad (v':=I (((i3+1):Nat):Int)) U (aL ob) (qO 2 U (bU (L':=G1) js (ag2 ((Hc++[y3.Person]),ob1,oc1,G1) hs10 ⟨gr1,lo⟩)))))))))
end Go.Sg
namespace Go.Sg
open Go.Proofs Go.Proofs.Tryz
theorem De (h:HF) (x:Holder) (s:Int) (bk:Nat):nI prog 223 [.agg (Holder.cells x).toArray,.pointer (some ⟨bk,0,none⟩)].toArray h [(bk,Obj.cells (List.toArray [.int .i64 s]) 3 (0,0))]
  (fun r h' B=>r=.returned (.tuple #[])∧h'=h∧B=[(bk,Obj.cells (List.toArray [.int .i64 (IntKind.wrap .i64 (s+x.Weight))]) 3 (0,0))]):=by
 refine cU func223 rfl ntmps223 rfl fun X hM hX=>?_
 refine dz (bn (cA (fun b2=>aM (bn (D3 1 ty3 rfl rfl rfl (Io IZ rfl (D3 0 ty3 rfl rfl rfl (J3 rfl (dw 1 ty3 rfl rfl rfl rfl rfl rfl (aM ?_))))))))))
 exact wp func223 (fun a _ w _=>kO rfl a w) (fun w hw=>hw.sub (List.sublist_cons_self _ _)) ⟨rfl,rfl,rfl⟩
end Go.Sg
namespace Go.Sg
open Go.Proofs Go.Proofs.Tryz
set_option maxHeartbeats 2000000
theorem nY (h:HF) (q:aR) (j4:gB) (q_q:Addr) (office:Int) (office_q:Addr) (hq:aR.ok h q j4) (aq:At h q_q (aR.cells q j4)) (aoffice:At h office_q [I office]) (hno:0≤office∧office < (q.holders.length:Int)) (hso:q.who.Pairwise (·≤·)) (hsw:q.who.length≤2000000):Itr prog (.func (.func 248) #[] (List.toArray [.pointer (some q_q),.pointer (some office_q)])) mt (bL q office) h:=by
 refine wN call248 ?_
 intro yf ya yb C Sp Pn h1 A hle m1 m2 m3 hC hy
 refine jQ HD U ntmps248 U fun X hXM hX=>?_
 have hs0:bL q office=[]++bL q office:=rfl
 refine qK 3 [] U (jF (j:=1) ty100 (aq.mono hle) U U (cK ty3 (aoffice.mono hle) U ?_))
 have ho1:0≤(office:Int)∧(office:Int) < ((q.holders).length:Int):=ob
 refine aA (vr ua ty101 (hq.holders.mono (Rp.j8 Holder.ak) hle).1 ho1 (bT ho1) U U U (fun q1 cs1 A1 ln1 rr1=>?_))
 obtain ⟨rb1,rc1,rfl,sl1⟩:=rr1
 refine cK ty101 A1 U (qL 3 [] U ?_)
 refine lp2 (nthI q.holders office) (fun i w=>[(0,.func yf ya yb),(1,.pointer (some q_q)),(12,.slice rb1 ((nthI q.holders office).length) rc1),(13,I ((nthI q.holders office).length:Int)),(14,I (i:Int))]) (fun w=>w.2.2) (fun w=>w.2.1) (fun i w=>C w.1 w.2.2 w.2.1∧HF.le h1 w.2.2) (fun s1 i w=>w.1++(bL.L1 q (bL.K1)) s1) ([],A,h1) sl1.1.1 hs0 ⟨hC,lf⟩ ?_ ?_
 ·rintro i1 ⟨dn1,A1_,hh1⟩ et hs1 ⟨hC1_,hl1⟩ e
  refine gk ?_
  have hs2:bL q office=dn1:=hs1.trans (List.append_nil _)
  exact wO [] (A:=A1_) HD U (List.Sublist.refl _) (.inl (hs2 ▸ hC1_))
 rintro i1 ⟨dn1,A1_,hh1⟩ y1 rz1 hd1 cw ao dy fB hs3 ⟨hC1_,hl1⟩ hx1 ag1 e
 refine sr (ad (v':=.bool true) U (cb cw) (qO 8 U (aA (ek (enc:=Holder.cells) ei pb ty133 (sl1.mono Holder.ak hl1).1 (nthZ ao) (au ao) U U U (fun q3 A6=>de ty133 A6 U U (bH zc133 (fun b2=>bE 0 ty133 U U U U U U (iW (L':=[(b2,O (Holder.cells y1) 133)]++(A1_)) U (qL 4 [] U (jF (j:=2) ty31 (aq.mono (hle.t hl1)) U U (qL 2 [0] U (ah call87 (li _ _ _ _ y1.Person (hq.who.mono Rp.aK (hle.t hl1)) ob ob) U (qO 10 U (mH 27 U (fun c2=>?_) (fun c2=>?_)))))))))))))))
 ·have hs4:=hs3.trans (congrArg (dn1++·) (bt c2))
  refine aj (cJ 0 ty133 U U U ?_)
  have hx2:bL q office=dn1++(y1::(bL.L1 q (bL.K1) rz1)):=hs4
  refine aA (me ([(b2,O (Holder.cells y1) 133)]) A1_ ap (hy dn1 y1 _ _ _ _ hx2 hl1 hC1_ U) U U (fun h5 A7 hle4 hC2=>?_) (fun h6 A8 hle5 hS2=>?_) (fun ch2 h7 A9 hle6 hP2 e=>ja (qY [] (A:=A9) HD (List.sublist_append_right _ _) hP2)))
  ·have hs5:bL q office=(dn1++[y1])++((bL.L1 q (bL.K1) rz1)):=hx2.trans ap
   exact lY U (qO 6 U (ad (v':=I (((i1+1):Nat):Int)) U (aL ob) (qO 2 U (bU (L':=A7) js (ag1 ((dn1++[y1]),A7,h5) hs5 ⟨hC2,(hl1.t hle4)⟩)))))
  exact lY U (qO 3 U (gk (qX [] (A:=A8) HD U js (.inr hS2))))
 have hs6:=hs3.trans (congrArg (dn1++·) (bf c2))
 exact kq (qO 8 U (ad (v':=I (((i1+1):Nat):Int)) U (aL ob) (qO 2 U (bU (L':=A1_) js (ag1 (dn1,A1_,hh1) hs6 ⟨hC1_,hl1⟩)))))
theorem lN (h:HF) (q:aR) (j4:gB) (office:Int) (hq:aR.ok h q j4) (hno:0≤office∧office < (q.holders.length:Int)) (hso:q.who.Pairwise (·≤·)) (hsw:q.who.length≤2000000):iq prog 222 [.agg (aR.cells q j4).toArray,I office] h (fun v h'=>∃ (rv0:Value),v=rv0∧Itr prog rv0 mt (fd q office) h'):=by
 refine sT func222 U ntmps222 U fun X hM hX hF=>?_
 have hs0:fd q office=fd q office:=rfl
 refine sr (cA (fun b1=>cA (fun b2=>qO 4 U (bN 1 U hM (fun h1 hle1 hb1=>bN 0 U hM (fun h2 hle2 hb2=>aA (fX U U (an ?_))))))))
 have hs1:fd q office=(bL q office):=hs0
 exact nretH [.func (.func 248) #[] #[Q b1,Q b2]] ⟨(.func (.func 248) #[] #[Q b1,Q b2]),congrArg (fun r:List Holder=>((.func (.func 248) #[] #[Q b1,Q b2]):Value)) hs1.symm,(by rw [hs1];exact (nY h2 q j4 ⟨b1,0,none⟩ office ⟨b2,0,none⟩ (hq.mono (hle1.t hle2)) ((dp hb1).mono hle2) (dp hb2) ob ob ob))⟩
theorem pO (h:HF) (q:aR) (j4:gB) (x:Expr) (eL:cm) (hq:aR.ok h q j4) (hx:Expr.ok h x eL) (hno:0≤x.No∧x.No < (q.holders.length:Int)) (hso:q.who.Pairwise (·≤·)) (hsw:q.who.length≤2000000):Ret prog 160 [.agg (aR.cells q j4).toArray,.agg (Expr.cells x eL).toArray] h (.bool (cH q x)):=by
 refine cU HC U ntmps160 U fun X hM hX=>?_
 have hs0:cH q x=cH q x:=rfl
 refine sr (cA (fun b1=>cA (fun b2=>bH zc4 (fun b3=>qO 4 U (cJ 2 ty164 U U U (qL 2 [1] U (aA (cf call222 (lN _ _ _ x.No hq ob ob ob) U (fun v1 h1 hle1 hp1=>?_)))))))))
 obtain ⟨_,rfl,mo1⟩:=hp1
 refine qO 2 U (gk ?_)
 let z1:Nat×Obj:=(b1,O (aR.cells q j4) 164)
 let z2:Nat×Obj:=(b2,O (Expr.cells x eL) 66)
 refine cS (L':=([(b3,O [.bool false] 4),z2,z1])++markB []) ap ?_
 refine kd (it:=v1) (xs:=(fd q x.No)) (ι:=Bool×HF) [] (fun i=>i.2) (fun i=>[(b3,O [.bool i.1] 4),z2,z1]) (fun s i=>cH q x=((cH.L1 (cH.K1)) s i.1)∧HF.le h1 i.2) (fun i=>cH q x=i.1∧HF.le h1 i.2) (fun _=>False) 0 (fun _ _ _=>False) (false,h1) HC U mo1 U oG (fun _ _ _ _ _ hq=>hq) U (show [(b3,O [.bool false] 4),z2,z1]=_ from U) ⟨hs0,lf⟩ ?_ ?_ ?_ ?_ ?_
 ·rintro l1 dm1 lp1 y1 rz1 vs1 ⟨aG,hh1⟩ hr1 X hFR1 ⟨hs1,hl1⟩ hl01 hlr1 hv1 hX hXM hlp1 nx1 rt1 ex1 pn1
  obtain rfl:=hv1
  exact cS (L':=[(l1,.loop lp1),(dm1,.deferred (some [])),(b3,O [.bool aG] 4),z2,z1]++(markB [])) ap (aE (kg 0 U hlp1 (qT 3 U (dw 2 ty4 U U U U U U (aM (cS (L':=rdH l1 dm1 lp1 (([(b3,O [.bool true] 4),z2,z1])++markB [])) ap (rt1 (true,hr1) _ _ _ ⟨hs1,(hl1.t hlr1)⟩ lf)))))))
 ·rintro dm1 ⟨aG,hh1⟩ hn1 ⟨hs2,hl1⟩ hln1 hl01
  refine cS (L':=[(b3,O [.bool aG] 4),z2,z1]++(markB (dm1::[]))) ap (qT 3 U (dw 0 ty4 U U U U U U (aM ?_)))
  have hs3:cH q x=false:=hs2
  exact cS (L':=([(b3,O [.bool false] 4),z2,z1])++markB (dm1::[])) ap (rV (dm1::[]) [.bool false] HC U hX ⟨⟨0,_,_,_,_,U,U,.inr ⟨_,ty4,U⟩⟩,trivial⟩ (cs hs3))
 ·rintro dm1 ⟨aG,hh1⟩ hn1 ⟨hs4,hl1⟩ hln1 hl01
  refine cS (L':=[(b3,O [.bool aG] 4),z2,z1]++(markB (dm1::[]))) ap ?_
  have hs5:cH q x=aG:=hs4
  exact cS (L':=([(b3,O [.bool aG] 4),z2,z1])++markB (dm1::[])) ap (rV (dm1::[]) [.bool aG] HC U hX ⟨⟨0,_,_,_,_,U,U,.inr ⟨_,ty4,U⟩⟩,trivial⟩ (cs hs5))
 ·exact xf
 exact xf
theorem oB (h:HF) (q:aR) (j4:gB) (x:Expr) (eL:cm) (hq:aR.ok h q j4) (hx:Expr.ok h x eL) (hno:0≤x.No∧x.No < (q.holders.length:Int)) (hso:q.who.Pairwise (·≤·)) (hsw:q.who.length≤2000000):Ret prog 161 [.agg (aR.cells q j4).toArray,.agg (Expr.cells x eL).toArray] h (.bool (ct q x)):=by
 refine cU func161 U ntmps161 U fun X hM hX=>?_
 have hs0:ct q x=ct q x:=rfl
 refine sr (cA (fun b1=>cA (fun b2=>qO 4 U (bH zc3 (fun b3=>dw 0 ty3 U U U U U U (qO 3 U (aA (fX U U (bH zc261 (fun b4=>dw 0 ty261 U U U U U U (qO 4 U (cJ 3 ty164 U U U (qL 2 [2] U (aA (cf call222 (lN _ _ _ x.No hq ob ob ob) U (fun v1 h1 hle1 hp1=>?_))))))))))))))))
 obtain ⟨_,rfl,mo1⟩:=hp1
 refine qO 2 U (gk ?_)
 let z1:Nat×Obj:=(b4,O [.func (.func 223) #[] #[Q b3]] 261)
 let z2:Nat×Obj:=(b1,O (aR.cells q j4) 164)
 let z3:Nat×Obj:=(b2,O (Expr.cells x eL) 66)
 refine cS (L':=([z1,(b3,O [I 0] 3),z3,z2])++markB []) ap ?_
 refine kd (it:=v1) (xs:=(fd q x.No)) (ι:=Int×HF) [] (fun i=>i.2) (fun i=>[z1,(b3,O [I i.1] 3),z3,z2]) (fun s i=>ct q x=((ct.L1 (ct.K1 x)) s i.1)∧HF.le h1 i.2) (fun _=>False) (fun _=>False) 0 (fun _ _ _=>False) (0,h1) func161 U mo1 U oG (fun _ _ _ _ _ hq=>hq) U (show [z1,(b3,O [I 0] 3),z3,z2]=_ from U) ⟨hs0,lf⟩ ?_ ?_ ?_ ?_ ?_
 ·rintro l1 dm1 lp1 y1 rz1 vs1 ⟨aG,hh1⟩ hr1 X hFR1 ⟨hs1,hl1⟩ hl01 hlr1 hv1 hX hXM hlp1 nx1 rt1 ex1 pn1
  obtain rfl:=hv1
  refine cS (L':=[(l1,.loop lp1),(dm1,.deferred (some [])),z1,(b3,O [I aG] 3),z3,z2]++(markB [])) ap (bn (bH zc133 (fun b6=>bE 0 ty133 U U U U U U (aM (kg 1 U hlp1 (qK 3 [3] U (cJ 0 ty133 U U U (aA (Ia 4 (o':=O [I (IntKind.wrap .i64 (aG+y1.Weight))] 3) U (kN (args:=[.agg (Holder.cells y1).toArray]) (cap:=[Q b3]) call223 (De hr1 y1 aG b3)) U U (qO 2 U ?_))))))))))
  let z4:Nat×Obj:=(b3,O [I (IntKind.wrap .i64 (aG+y1.Weight))] 3)
  exact bU (L':=[(l1,.loop { lp1 with state:=.busy }),(dm1,.deferred (some [])),z1,z4,z3,z2]++(markB [])) js (cS (L':=rdH l1 dm1 lp1 (([z1,z4,z3,z2])++markB [])) ap (nx1 ((IntKind.wrap .i64 (aG+y1.Weight)),hr1) _ _ ⟨hs1,(hl1.t hlr1)⟩ lf))
 ·rintro dm1 ⟨aG,hh1⟩ hn1 ⟨hs2,hl1⟩ hln1 hl01
  refine cS (L':=[z1,(b3,O [I aG] 3),z3,z2]++(markB (dm1::[]))) ap (qK 9 [1,2] U ?_)
  have hs3:ct q x=decide (x.N≤aG):=hs2
  exact cS (L':=([z1,(b3,O [I aG] 3),z3,z2])++markB (dm1::[])) ap (rV (dm1::[]) [.bool (decide (x.N≤aG))] func161 U hX rd (cs hs3))
 ·exact xf
 ·exact xf
 exact xf
theorem pY (rec:aR→Expr→Bool) (h:HF) (q:aR) (j4:gB) (x:Expr) (eL:cm) (hrec:∀ (h:HF) (qq:aR) (wF:gB) (qx:Expr) (iT:cm) (hqq:aR.ok h qq wF) (hqx:Expr.ok h qx iT) (hok:OkX (qq.holders.length:Int) qx) (hso:qq.who.Pairwise (·≤·)) (hsw:qq.who.length≤2000000) (_:qx.dep < x.dep),Ret prog 97 [.agg (aR.cells qq wF).toArray,.agg (Expr.cells qx iT).toArray] h (.bool (rec qq qx))) (hq:aR.ok h q j4) (hx:Expr.ok h x eL) (hok:OkX (q.holders.length:Int) x) (hso:q.who.Pairwise (·≤·)) (hsw:q.who.length≤2000000):Ret prog 162 [.agg (aR.cells q j4).toArray,.agg (Expr.cells x eL).toArray] h (.bool (dl.F rec q x)):=by
 refine sT func162 U ntmps162 U fun X hM hX hF=>?_
 have hs0:dl.F rec q x=dl.F rec q x:=rfl
 refine sr (cA (fun b1=>cA (fun b2=>qL 14 [0] U ?_)))
 let z1:Nat×Obj:=(b1,O (aR.cells q j4) 164)
 let z2:Nat×Obj:=(b2,O (Expr.cells x eL) 66)
 refine lp1 x.L (fun i w=>[(2,Q b1),(3,Q b2),(5,I w),(9,.slice eL.iL x.L.length eL.iP),(10,I (x.L.length:Int)),(11,I (i:Int))]) ([z2,z1]) (fun s1 i w=>(dl.L1 rec q (dl.K1 x)) s1 w) 0 hx.list.1.1 hs0 ?_ ?_
 ·rintro i1 gZ et hs1 e
  exact qK 8 [0] U (nretP [.bool (decide (x.N≤gZ))] (cs hs1))
 rintro i1 gZ y1 rz1 hd1 cw ao dy fB hs3 hx1 ag1 e
 have hoy:=hok.sub y1 (fq hd1)
 refine sr (ad (v':=.bool true) U (cb cw) (qO 8 U (aA (dV jh ty66 hx.list.1 (nthZ ao) (au ao) U U U (fun _ _ _ e=>e) (fun q2 r2 A2 ok2=>de ty66 A2 U U (bH zc66 (fun b4=>bE 0 ty66 U U U U U U (qO 3 U (cJ 2 ty164 U U U (cJ 0 ty66 U U U (ah HB (hrec _ _ _ _ _ hq ok2 ob ob ob (Expr.gj (fq hd1))) U (aM (ac hs3 U (fun c2 hs4=>?_) (fun c2 hs5=>?_))))))))))))))
 ·exact bn (qO 6 U (ad (v':=I (((i1+1):Nat):Int)) U (aL ob) (qO 2 U (bU (L':=[z2,z1]) js (ag1 (IntKind.wrap .i64 (gZ+1)) hs4)))))
 exact aE (qT 2 U (ad (v':=I (((i1+1):Nat):Int)) U (aL ob) (qO 2 U (bU (L':=[z2,z1]) js (ag1 gZ hs5)))))
theorem pf (rec:aR→Expr→Bool) (h:HF) (q:aR) (j4:gB) (x:Expr) (eL:cm) (hrec:∀ (h:HF) (qq:aR) (wF:gB) (qx:Expr) (iT:cm) (hqq:aR.ok h qq wF) (hqx:Expr.ok h qx iT) (hok:OkX (qq.holders.length:Int) qx) (hso:qq.who.Pairwise (·≤·)) (hsw:qq.who.length≤2000000) (_:qx.dep < x.dep),Ret prog 97 [.agg (aR.cells qq wF).toArray,.agg (Expr.cells qx iT).toArray] h (.bool (rec qq qx))) (hq:aR.ok h q j4) (hx:Expr.ok h x eL) (hok:OkX (q.holders.length:Int) x) (hso:q.who.Pairwise (·≤·)) (hsw:q.who.length≤2000000) (hk4:x.Kind=4):Ret prog 163 [.agg (aR.cells q j4).toArray,.agg (Expr.cells x eL).toArray] h (.bool (gX.F rec q x)):=by
 refine sT func163 U ntmps163 U fun X hM hX hF=>?_
 have hs0:gX.F rec q x=gX.F rec q x:=rfl
 have hl2:=hok.two hk4
 refine sr (cA (fun b1=>cA (fun b2=>qL 11 [1,0] U (ac hs0 U (fun c1 hs1=>?_) (fun c1 hs2=>?_)))))
 ·have c1p:=of_decide_eq_true c1
  refine dz (eB ([(b2,O (Expr.cells x eL) 66),(b1,O (aR.cells q j4) 164)]) mixed kr jn (fun cB _=>tf 0 U U (fun _ _ hj=>jj ty164 U (hj.nth (i:=1) U) U) (qB [1] U (tf 2 U U (fun _ _ hj=>fI ty64 U (hj.nth (i:=0) U) U) ?_))))
  have ho1:0≤(0:Int)∧(0:Int) < ((x.L).length:Int):=ob
  refine gC 3 cB jn jh ty66 hx.list.1 ho1 (bT ho1) U U U U kr (fun q1 cs1 A1 ln1 rr1=>?_)
  obtain ⟨r1,rfl,ok1⟩:=rr1
  exact tf 4 U U (fun _ _ hj=>iQ ty66 (A1.mono hj.1) U U) (tn 5 U (eK HB (hrec _ _ _ _ _ hq ok1 (hok.sub _ (fw ob)) ob ob (Expr.gj (fw ob))) U (⟨jn,(qA [6] U (aI kr (nretP [.bool (rec q (nthI x.L 0))] (cs hs1))))⟩)))
 have c1p:=of_decide_eq_false c1
 refine qT 2 U (eB ([(b2,O (Expr.cells x eL) 66),(b1,O (aR.cells q j4) 164)]) mixed kr jn (fun pC _=>tf 0 U U (fun _ _ hj=>jj ty164 U (hj.nth (i:=1) U) U) (qB [1] U (tf 2 U U (fun _ _ hj=>fI ty64 U (hj.nth (i:=0) U) U) ?_))))
 have ho2:0≤(1:Int)∧(1:Int) < ((x.L).length:Int):=ob
 refine gC 3 pC jn jh ty66 hx.list.1 ho2 (bT ho2) U U U U kr (fun q2 cs2 A2 ln2 rr2=>?_)
 obtain ⟨r2,rfl,ok2⟩:=rr2
 exact tf 4 U U (fun _ _ hj=>iQ ty66 (A2.mono hj.1) U U) (tn 5 U (eK HB (hrec _ _ _ _ _ hq ok2 (hok.sub _ (fw ob)) ob ob (Expr.gj (fw ob))) U (⟨jn,(qA [6] U (aI kr (nretP [.bool (rec q (nthI x.L 1))] (cs hs2))))⟩)))
theorem IW (rec:aR→Expr→Bool) (h:HF) (q:aR) (j4:gB) (x:Expr) (eL:cm) (hq:aR.ok h q j4) (hx:Expr.ok h x eL)
  (hrec:∀ (h:HF) (qq:aR) (wF:gB) (qx:Expr) (iT:cm) (_:aR.ok h qq wF) (_:Expr.ok h qx iT) (_:OkX (qq.holders.length:Int) qx) (_:qq.who.Pairwise (·≤·)) (_:qq.who.length≤2000000) (_:qx.dep < x.dep),Ret prog 97 [.agg (aR.cells qq wF).toArray,.agg (Expr.cells qx iT).toArray] h (.bool (rec qq qx)))
  (hok:OkX (q.holders.length:Int) x) (hso:q.who.Pairwise (·≤·)) (hsw:q.who.length≤2000000):
  w5 prog (List.getD [.nilFunc,.func (.func 160) #[] #[],.func (.func 161) #[] #[],.func (.func 162) #[] #[],.func (.func 163) #[] #[]] x.Kind.toNat .nilFunc) [.agg (aR.cells q j4).toArray,.agg (Expr.cells x eL).toArray] h [] (.bool (fulQ rec q x)):=by
 have hk:=hok.kind
 have hc:x.Kind=1∨x.Kind=2∨x.Kind=3∨x.Kind=4:=by omega
 rcases hc with e | e | e | e
 ·rw [show fulQ rec q x=cH q x from by simp [fulQ,e],e];exact i0 (cap:=[]) call160 (pO h q j4 x eL hq hx (hok.no ob) hso hsw)
 ·rw [show fulQ rec q x=ct q x from by simp [fulQ,e],e];exact i0 (cap:=[]) call161 (oB h q j4 x eL hq hx (hok.no ob) hso hsw)
 ·rw [show fulQ rec q x=dl.F rec q x from by simp [fulQ,e],e];exact i0 (cap:=[]) call162 (pY rec h q j4 x eL hrec hq hx hok hso hsw)
 rw [show fulQ rec q x=gX.F rec q x from by simp [fulQ,e],e];exact i0 (cap:=[]) call163 (pf rec h q j4 x eL hrec hq hx hok hso hsw e)
theorem nX (rec:aR→Expr→Bool) (h:HF) (q:aR) (j4:gB) (x:Expr) (eL:cm) (hrec:∀ (h:HF) (qq:aR) (wF:gB) (qx:Expr) (iT:cm) (hqq:aR.ok h qq wF) (hqx:Expr.ok h qx iT) (hok:OkX (qq.holders.length:Int) qx) (hso:qq.who.Pairwise (·≤·)) (hsw:qq.who.length≤2000000) (_:qx.dep < x.dep),Ret prog 97 [.agg (aR.cells qq wF).toArray,.agg (Expr.cells qx iT).toArray] h (.bool (rec qq qx))) (hq:aR.ok h q j4) (hx:Expr.ok h x eL) (hok:OkX (q.holders.length:Int) x) (hso:q.who.Pairwise (·≤·)) (hsw:q.who.length≤2000000):Ret prog 97 [.agg (aR.cells q j4).toArray,.agg (Expr.cells x eL).toArray] h (.bool (co.F rec q x)):=by
 refine sT func97 U ntmps97 U fun X hM hX hF=>?_
 have hs0:co.F rec q x=co.F rec q x:=rfl
 have hkd:=hok.kind
 refine sr (cA (fun b1=>cA (fun b2=>qO 4 U (aA (Ib (cells:=[.nilFunc,.func (.func 160) #[] #[],.func (.func 161) #[] #[],.func (.func 162) #[] #[],.func (.func 163) #[] #[]]) underlying227 ty226 zc227 kr (bH zc227 (fun b3=>bE 0 ty227 U U U U U U (qO 2 U (eM 0 U hM (fun h1 hle1 hb1=>eB ([(b2,O (Expr.cells x eL) 66),(b1,O (aR.cells q j4) 164)]) mixed kr jn (fun cB _=>qB [0] U (tf 1 U U (fun _ _ hj=>fI ty3 U (hj.nth (i:=0) U) U) ?_))))))))))))
 have ho1:0≤(x.Kind:Int)∧(x.Kind:Int) < 5:=ob
 have A1:=KN (dp hb1) ho1
 exact tf 2 U U (fun _ _ _=>Id underlying227 ty226 U U ho1) (tf 3 U U (fun _ _ hj=>eF ty226 (A1.mono hj.1) U) (tf 4 U U (fun _ _ hj=>jj ty164 U (hj.nth (i:=1) U) U) (tf 5 U U (fun _ _ hj=>jj ty66 U (hj.nth (i:=0) U) U) (tn 6 U (nU (v:=.bool (fulQ rec q x)) [] (List.nil_sublist _) (IW rec h1 q j4 x eL (hq.mono hle1) (hx.mono hle1) hrec hok hso hsw) U U (⟨jn,(qA [7] U (aI kr (nretP [.bool (fulQ rec q x)] (cs hs0))))⟩))))))
theorem kz:∀ (m:Nat) (h:HF) (q:aR) (j4:gB) (x:Expr) (eL:cm) (_:x.dep≤m) (hq:aR.ok h q j4) (hx:Expr.ok h x eL) (hok:OkX (q.holders.length:Int) x) (hso:q.who.Pairwise (·≤·)) (hsw:q.who.length≤2000000),Ret prog 97 [.agg (aR.cells q j4).toArray,.agg (Expr.cells x eL).toArray] h (.bool (co.go m q x))
 | 0,h,q,j4,x,eL,hd,hq,hx,hok,hso,hsw=>absurd hd (Nat.not_le.2 (Expr.jH _))
 | m+1,h,q,j4,x,eL,hd,hq,hx,hok,hso,hsw=>nX (co.go m) h q j4 x eL (fun qh_ qq wF qx iT qhq qhx qhok qhso qhsw qd=>kz m qh_ qq wF qx iT ob qhq qhx qhok qhso qhsw) hq hx hok hso hsw
theorem oC (h:HF) (q:aR) (j4:gB) (x:Expr) (eL:cm) (hq:aR.ok h q j4) (hx:Expr.ok h x eL) (hok:OkX (q.holders.length:Int) x) (hso:q.who.Pairwise (·≤·)) (hsw:q.who.length≤2000000):Ret prog 97 [.agg (aR.cells q j4).toArray,.agg (Expr.cells x eL).toArray] h (.bool (co q x)):=kz _ h q j4 x eL (Nat.le_refl _) hq hx hok hso hsw
theorem uE (h:HF) (p:Policy) (gp:dS) (kind:Int) (value:Int) (holders:List (List Holder)) (dL:Option Addr) (dK:Nat) (who:List Int) (dU:Option Addr) (dT:Nat) (hp:Policy.ok h p gp) (hholders:SlC (Rp.sl Holder.rp) h dL dK holders) (hwho:SlC Rp.int h dU dT who) (hsm:smP p) (hsz0:∀ y∈holders,y.length≤2000000) (hsw:who.length≤2000000) (hk:Kinds h):Ret prog 48 [.agg (Policy.cells p gp).toArray,I kind,I value,.slice dL holders.length dK,.slice dU who.length dT] h (.tuple #[.bool ((bY p kind value holders who).1),I ((bY p kind value holders who).2)]):=by
 refine sT func48 U ntmps48 U fun X hM hX hF=>?_
 have hs0:bY p kind value holders who=bY p kind value holders who:=rfl
 refine sr (cA (fun b1=>qO 6 U (cJ 0 ty68 U U U (ah call94 (px _ _ _ hp ob hk) U (qO 7 U (ac hs0 U (fun c1 hs1=>?_) (fun c1 hs2=>?_)))))))
 ·refine qT 6 U ?_
  have hs3:bY p kind value holders who=(false,(cj p)):=hs1
  exact nretP [.bool false,I (cj p)] (congrArg (fun r:(Bool×Int)=>(.tuple #[.bool r.1,I r.2]:Value)) hs3.symm)
 refine qT 8 U (ce 6 [21,22,23,24,25,26,27] 21 27 (decide ((p.Kinds.length:Int)≤kind)) U (fun c2 hk1=>?_) (fun e=>?_))
 ·exact qL 6 [0] U (hk1 _ U)
 refine aj (ce 3 [28,29,30,31] 28 31 (decide (value < 0)) U (fun c3 hk2=>?_) (fun e=>?_))
 ·exact aj (qO 2 U (hk2 _ U))
 refine aj (ce 3 [32,33,34,35] 32 35 (decide (1099511627776 < value)) U (fun c4 hk3=>?_) (fun e=>?_))
 ·exact aj (qO 2 U (hk3 _ U))
 refine an (ac hs2 U (fun c5 hs4=>?_) (fun c5 hs5=>?_))
 ·refine qT 5 U ?_
  have hs6:bY p kind value holders who=(false,1):=hs4
  exact nretP [.bool false,I 1] (congrArg (fun r:(Bool×Int)=>(.tuple #[.bool r.1,I r.2]:Value)) hs6.symm)
 refine qK 6 [0] U (ah call95 (wH _ _ _ _ (p.Offices.length:Int) hholders ob) U (qO 3 U (ac hs5 U (fun c6 hs7=>?_) (fun c6 hs8=>?_))))
 ·refine qT 5 U ?_
  have hs9:bY p kind value holders who=(false,210):=hs7
  exact nretP [.bool false,I 210] (congrArg (fun r:(Bool×Int)=>(.tuple #[.bool r.1,I r.2]:Value)) hs9.symm)
 refine qT 3 U (ah call96 (py _ _ _ _ hwho) U (qO 3 U (ac hs8 U (fun c7 hs10=>?_) (fun c7 hs11=>?_))))
 ·refine qT 5 U ?_
  have hs12:bY p kind value holders who=(false,1):=hs10
  exact nretP [.bool false,I 1] (congrArg (fun r:(Bool×Int)=>(.tuple #[.bool r.1,I r.2]:Value)) hs12.symm)
 refine qT 7 U (aA (er (cells:=[I value,.slice dL holders.length dK,.slice dU who.length dT]) (places:=[(0,1),(1,1),(2,1)]) underlying164 zc164 kr kr (qL 3 [0] U ?_)))
 have ho1:0≤(kind:Int)∧(kind:Int) < ((p.Rules).length:Int):=(by have hq:=mA (by simpa using c1);simp only [decide_eq_true_eq,decide_eq_false_iff_not,Bool.and_eq_true,Bool.or_eq_true,Bool.not_eq_true',Bool.not_eq_false',Bool.and_eq_false_iff,Bool.or_eq_false_iff,beq_iff_eq,beq_eq_false_iff_ne,bne_iff_ne,bne_eq_false_iff_eq,List.length_append,List.length_cons,List.length_nil,List.length_drop] at c5;omega)
 refine aA (dV pc ty107 hp.Rules.1 ho1 (bT ho1) U U U (fun _ _ _ e=>e) (fun q1 r1 A1 ok1=>qL 1 [] U (uI (j:=3) ty66 A1 U U (ah HB (oC _ _ _ _ _ (show aR.ok h (aR.mk value holders who) (gB.mk dL dK dU dT) from ⟨hholders,hwho⟩) ok1.Expr (by have hq:=mA (by simpa using c1);have hr:=BG (by simpa using c6);show OkX (holders.length:Int) _;rw [hr];exact hq.2.2 _ (uW (fw ho1))) (AV (by simpa using c7)) hsw) U (qO 3 U ?_)))))
 have hs13:bY p kind value holders who=((co (aR.mk value holders who) ((nthI p.Rules kind).Expr)),0):=hs11
 exact nretP [.bool (co (aR.mk value holders who) ((nthI p.Rules kind).Expr)),I 0] (congrArg (fun r:(Bool×Int)=>(.tuple #[.bool r.1,I r.2]:Value)) hs13.symm)
theorem np (h:HF) (l:List Version) (ey:Option Addr) (ew:Nat) (old:Bool) (hl:SlC Version.rp h ey ew l):iq prog 142 [.slice ey l.length ew,.bool old] h (fun v h'=>∃ (rb0:Option Addr) (rc0:Nat),v=.slice rb0 (fG l old).length rc0∧SlC Version.rp h' rb0 rc0 (fG l old)):=by
 refine sT func142 U ntmps142 U fun X hM hX hF=>?_
 have hs0:fG l old=fG l old:=rfl
 refine qT 9 U ?_
 have hs1:fG l old=l:=hs0
 exact nretH [.slice ey l.length ew] ⟨ey,ew,congrArg (fun r:List Version=>(.slice ey r.length ew:Value)) hs1.symm,(by rw [hs1];exact hl)⟩
theorem rR (h:HF) (l:List Version) (ey:Option Addr) (ew:Nat) (old:Bool) (hl:SlC Version.rp h ey ew l) (hne:0 < l.length):iq prog 143 [.slice ey l.length ew,.bool old] h (fun v h'=>∃ (rb0:Option Addr) (rc0:Nat),v=.slice rb0 (fj l old).length rc0∧SlC Version.rp h' rb0 rc0 (fj l old)):=by
 refine sT func143 U ntmps143 U fun X hM hX hF=>?_
 have hs0:fj l old=fj l old:=rfl
 refine qT 10 U (ac hs0 U (fun c1 hs1=>?_) (fun c1 hs2=>?_))
 ·refine qT 4 U ?_
  have hs3:fj l old=[]:=hs1
  exact nretH [.slice none 0 0] ⟨none,0,congrArg (fun r:List Version=>(.slice none r.length 0:Value)) hs3.symm,(by rw [hs3];exact SlC.nil)⟩
 refine qT 4 U (aA (H4 lg ty70 hl.1 hl.2 ob U U U (fun sb1 sc1 sl1=>an ?_)))
 have hs4:fj l old=(l.take ((1:Int)).toNat):=hs2
 exact nretH [.slice sb1 ((l.take ((1:Int)).toNat).length) sc1] ⟨sb1,sc1,congrArg (fun r:List Version=>(.slice sb1 r.length sc1:Value)) hs4.symm,(by rw [hs4];exact sl1)⟩
theorem rQ (h:HF) (l:List Version) (ey:Option Addr) (ew:Nat) (old:Bool) (hl:SlC Version.rp h ey ew l) (hne:0 < l.length):iq prog 144 [.slice ey l.length ew,.bool old] h (fun v h'=>∃ (rb0:Option Addr) (rc0:Nat),v=.slice rb0 (fF l old).length rc0∧SlC Version.rp h' rb0 rc0 (fF l old)):=by
 refine sT func144 U ntmps144 U fun X hM hX hF=>?_
 have hs0:fF l old=fF l old:=rfl
 have hbl:=hl.1.1
 refine qK 9 [] U (ad (v':=I ((l.length:Int) - 1)) U (gG ob) (aA (DH lg ty70 hl.1 hl.2 ob U U U (fun sb1 sc1 sl1=>an ?_))))
 have hs1:fF l old=(l.drop ((((l.length:Int) - 1):Int)).toNat):=hs0
 exact nretH [.slice sb1 ((l.drop ((((l.length:Int) - 1):Int)).toNat).length) sc1] ⟨sb1,sc1,congrArg (fun r:List Version=>(.slice sb1 r.length sc1:Value)) hs1.symm,(by rw [hs1];exact sl1)⟩
theorem og (h:HF)   : iq prog 83 [] h (fun v h'=>∃ (rk0:Nat),v=.map (some rk0)∧oZ (Value.int .i64) VFn h' rk0 (gN)):=by
 refine sT func83 U ntmps83 U fun X hM hX hF=>?_
 have hs0:gN=gN:=rfl
 refine qT 10 U (aA (pi (fun b1=>aA (iv 0 (k:=1) (x:=(Value.func (.func 143) #[] #[])) Dm (eE kL) U (hO.nil (enc:=(Value.int .i64)) (V:=VFn) (h:=h)) U U U (fun mo1 hm1=>aA (iv 0 (k:=2) (x:=(Value.func (.func 144) #[] #[])) Dm (eE kL) U hm1 U U U (fun mo2 hm2=>aj (aA (iv 0 (k:=3) (x:=(Value.func (.func 142) #[] #[])) Dm (eE kL) U hm2 U U U (fun mo3 hm3=>aj (aA (iv 0 (k:=4) (x:=(Value.func (.func 142) #[] #[])) Dm (eE kL) U hm3 U U U (fun mo4 hm4=>qO 3 U (eM 0 U hM (fun h1 hle1 hb1=>?_)))))))))))))))
 have mc1:oZ (Value.int .i64) VFn h1 b1 (mput (mput (mput (mput ([]) 1 (Value.func (.func 143) #[] #[])) 2 (Value.func (.func 144) #[] #[])) 3 (Value.func (.func 142) #[] #[])) 4 (Value.func (.func 142) #[] #[])):=⟨_,hb1,hm4.mono VFn.mono hle1⟩
 have hs1:gN=(mput (mput (mput (mput ([]) 1 (Value.func (.func 143) #[] #[])) 2 (Value.func (.func 144) #[] #[])) 3 (Value.func (.func 142) #[] #[])) 4 (Value.func (.func 142) #[] #[])):=hs0
 exact nretH [.map (some b1)] ⟨b1,congrArg (fun r:(List (Int×Value))=>(.map (some b1):Value)) hs1.symm,(by rw [hs1];exact mc1)⟩
theorem Em (mode:Int) (l:List Version) (old:Bool):(judgesP mode l old).length≤l.length:=by
 unfold judgesP fG fj fF
 cases mode==1 <;> cases mode==2 <;> cases old <;> simp <;> omega
theorem Ek (h:HF) (mode:Int) (hm:1≤mode∧mode≤4) (l:List Version) (ey:Option Addr) (ew:Nat) (old:Bool) (hl:SlC Version.rp h ey ew l) (hne:0 < l.length):
  Ke prog (mgetD gN mode Value.nilFunc) [.slice ey l.length ew,.bool old] h (fun v h'=>∃ (rb0:Option Addr) (rc0:Nat),v=.slice rb0 (judgesP mode l old).length rc0∧SlC Version.rp h' rb0 rc0 (judgesP mode l old)):=by
 have:mode=1∨mode=2∨mode=3∨mode=4:=by omega
 rcases this with rfl | rfl | rfl | rfl
 ·exact kN (cap:=[]) (args:=[.slice ey l.length ew,.bool old]) call143 (rR h l ey ew old hl hne)
 ·exact kN (cap:=[]) (args:=[.slice ey l.length ew,.bool old]) call144 (rQ h l ey ew old hl hne)
 ·exact kN (cap:=[]) (args:=[.slice ey l.length ew,.bool old]) call142 (np h l ey ew old hl)
 exact kN (cap:=[]) (args:=[.slice ey l.length ew,.bool old]) call142 (np h l ey ew old hl)
theorem vi (h:HF) (mode:Int) (permits:List Bool) (gy:Option Addr) (gx:Nat) (hpermits:SlC Rp.bool h gy gx permits):Ret prog 164 [I mode,.slice gy permits.length gx] h (I (fm mode permits)):=by
 refine sT func164 U ntmps164 U fun X hM hX hF=>?_
 have hs0:fm mode permits=fm mode permits:=rfl
 refine qT 7 U (aA (cf call83 (og h) U (fun v1 h1 hle1 hp1=>?_)))
 obtain ⟨rk1,rfl,mo1⟩:=hp1
 refine aj ?_
 obtain ⟨o1,hb1,hm1⟩:=mo1
 refine aA (xp (k:=mode) Dm (eE kL) hb1 hm1 (ji zv141) (show VFn _ (.nilFunc) Value.nilFunc from U) U U (fun v2 hv1=>?_))
 obtain rfl:=hv1
 refine qO 11 U (ac hs0 U (fun c1 hs1=>?_) (fun c1 hs2=>?_))
 ·exact sr (an (nretP [I 270] (ci hs1)))
 refine qK 8 [] U (ac hs2 U (fun c2 hs4=>?_) (fun c2 hs5=>?_))
 ·have c2p:=of_decide_eq_true c2
  exact sr (an (nretP [I 1] (ci hs4)))
 have c2p:=of_decide_eq_false c2
 exact aE (qT 4 U (nretP [I 0] (ci hs5)))
theorem pJ (h:HF) (s:List Bool) (uc:Option Addr) (tb:Nat) (f:(Bool→Bool)) (f_v:Value) (hs:SlC Rp.bool h uc tb s) (hf:∀ (h':HF) (ed:Bool),HF.le h h'→w5 prog f_v [.bool ed] h' [] (.bool (f ed))):Ret prog 224 [.slice uc s.length tb,f_v] h (I (dr s f)):=by
 refine sT func224 U ntmps224 U fun X hM hX hF=>?_
 have hs0:dr s f=dr s f:=rfl
 refine qK 11 [] U ?_
 refine lp0 s (fun i=>[(0,.slice uc s.length tb),(1,f_v),(7,I (s.length:Int)),(8,I (i:Int))]) ([]) (fun s1 i=>(dr.L1 f (dr.K1)) s1 i) hs.1.1 hs0 ?_ ?_
 ·rintro i1 et hs1 e
  exact sr (an (nretP [I (-1)] (ci hs1)))
 rintro i1 y1 rz1 hd1 cw ao dy fB hs3 hx1 ag1 e
 refine sr (ad (v':=.bool true) U (cb cw) (qO 16 U (aA (ek (enc:=fun y=>[.bool y]) ei tZ ty4 hs.1 (nthZ ao) (au ao) U U U (fun q2 A2=>cK ty4 A2 U (aA (nU (v:=.bool (f y1)) [] (List.nil_sublist _) (hf h y1 lf) U U (aM (ac hs3 U (fun c2 hs4=>?_) (fun c2 hs5=>?_))))))))))
 ·exact sr (qO 3 U (nretP [I (i1:Int)] (ci hs4)))
 exact aE (qT 2 U (ad (v':=I (((i1+1):Nat):Int)) U (aL ob) (qO 2 U (ag1 hs5))))
theorem mY (h:HF) (l:List Bool) (ey:Option Addr) (ew:Nat) (ok:(Bool→Bool)) (ok_v:Value) (hl:SlC Rp.bool h ey ew l) (hok:∀ (h':HF) (ed:Bool),HF.le h h'→w5 prog ok_v [.bool ed] h' [] (.bool (ok ed))):Ret prog 165 [.slice ey l.length ew,ok_v] h (I (bZ l ok)):=by
 refine sT func165 U ntmps165 U fun X hM hX hF=>?_
 have hs0:bZ l ok=bZ l ok:=rfl
 exact sr (qO 6 U (ah call224 (pJ _ _ _ _ ok ok_v hl hok) U (an (nretP [I (dr l ok)] (ci hs0)))))
end Go.Sg
