import Derived.Test.YtgddeppkkjefjaaGreatDoorW6
/- A part of the proof of AsofJudged. -/
set_option linter.unusedVariables false
set_option linter.unusedSimpArgs false
set_option maxRecDepth 100000
open List renaming length_cons→zA,not_mem_nil→jA,mem_cons_of_mem→vA,length_append→kA,mem_cons_self→zB,length_nil→vB,toArray→kB,mem_singleton→xC,nil_append→zG,mem_append→xH,range→jJ,mem_map→kJ
open Go.Value renaming int→xB
open Bool renaming and_eq_true→jB,not_eq_true'→kC,or_eq_true→xD
open Go.Sg.Rp renaming int→zC,aO→zH,str→Sz,ib→Ti
open Go.Sg.Expr renaming cells→jC,ok→qG,mk→vG,iW→kV,av→R3,rp→Su,me→S5,eD→Tw
open Go.Sg.Approval renaming cells→zD,av→kL
open Go.Sg.Interest renaming cells→jD,rp→vL,mk→zW,av→R7
open Go.Sg.Policy renaming cells→kD,mk→qM,ok→kN
open Go.IntKind renaming wrap→zE
open Go.Sg.SlC renaming nil→zF
open Go.Sg.Register renaming cells→jF,ok→qP,mk→qQ
open Go.Sg.Appoint renaming mk→kF,cells→xP,rp→kR,av→Se
open Nat renaming le_refl→xG,lt_or_ge→vK,zero_le→vM,le_trans→jP
open Go.Sg.HF renaming le_refl→jH,le→kK
open Go.Sg.Deputy renaming cells→kM,av→SK
open Go.Sg.Version renaming rp→jQ,av→vV,mk→Sv
open Go.Sg.Document renaming av→vR,rp→RV,ok→R8,mk→SR
open Go.Sg.Budget renaming cells→qS,av→Ug
open Go.Sg.Span renaming mk→qW,cells→Sk,rp→Te,av→TH
open Go.Sg.Expr.ok renaming of→Sb
open Go.Sg.Rule renaming mk→SE,av→Tk,cells→TC

namespace Go.Sg
open Go.Proofs Go.Proofs.Tryz
set_option maxHeartbeats 2000000
theorem ol(h:HF)(bG:Register)(dW:eN)(doc:Int)(who:List Int)(gF:Option Addr)(gE:Nat)(known:Int)(kW:qP h bG dW)(hwho:SlC zC h gF gE who)(hsm:smR bG)(hsw:who.length<=2000000)(hk:Kinds h):jY prog 7 [.agg (jF bG dW).toArray,I doc,.slice gF who.length gE,I known] h (λv h'=>∃(rb0:Option Addr)(rc0:Nat),v=.tuple #[.slice rb0 ((eu bG doc who known).1).length rc0,I ((eu bG doc who known).2)]/\SlC Te h' rb0 rc0 ((eu bG doc who known).1)):=by
 refine cD KU U ntmps7 U λX hM hX=>?_
 have hs0:=@rfl _ (eu bG doc who known)
 refine sr (ct (λb1=>ct (λb2=>aU zc40 (λb3=>qO 5 U (cI 2 ty30 U U U (ai call19 (sB _ _ _ kW ob hk) U (qO 2 U (ae hs0 U (λc1 hs1=>?_) (λc1 hs2=>?_)))))))))
 .refine sr (cB 0 ty40 U U U U U U (an ?_))
  have hs3:eu bG doc who known=([],300):=hs1
  exact il [.slice none 0 0,I 300] KU U ⟨⟨0,_,_,_,_,U,U,.inr ⟨_,ty40,U⟩⟩,U,trivial⟩ ⟨none,0,congrArg (λr:(List Span×Int)=>(.tuple #[.slice none r.1.length 0,I r.2]:Value)) hs3.symm,(by rw[hs3];exact zF)⟩
 refine qT 3 U (cI 2 ty30 U U U (qO 2 U (aw (cJ call30 (C6 _ _ _ doc known kW) U (λv1 h1 hle1 hp1=>?_)))))
 obtain⟨rr1,rfl,ok1⟩:=hp1
 refine qO 3 U (aU zc79 (λb4=>aR 0 ty79 U U U U U U (qO 8 U (cn 4 [26,27,28,29,30] 26 30 (!(iQ who)) U (λc2 hk1=>?_) (λe=>?_)))))
 .exact qL 1 [2] U (ai call31 (Fo _ _ _ _ (hwho.mono zH hle1)) U (qO 2 U (hk1 _ U)))
 refine aH (ae hs2 U (λc3 hs4=>?_) (λc3 hs5=>?_))
 .refine sr (cB 1 ty40 U U U U U U (an ?_))
  have hs6:eu bG doc who known=([],1):=hs4
  exact il [.slice none 0 0,I 1] KU U ⟨⟨1,_,_,_,_,U,U,.inr ⟨_,ty40,U⟩⟩,U,trivial⟩ ⟨none,0,congrArg (λr:(List Span×Int)=>(.tuple #[.slice none r.1.length 0,I r.2]:Value)) hs6.symm,(by rw[hs6];exact zF)⟩
 refine qT 4 U (cI 0 ty79 U U U (aw (cJ call32 (uE _ _ _ ok1 (by have a_:=(asked (by simpa using c1) (by simp only[decide_eq_true_eq,decide_eq_false_iff_not,jB,xD,kC,Bool.not_eq_false',Bool.and_eq_false_iff,Bool.or_eq_false_iff,beq_iff_eq,beq_eq_false_iff_ne,bne_iff_ne,bne_eq_false_iff_eq,kA,zA,vB,List.length_drop]at c3;exact c3.1));rw[a_.reg];exact hsm) (by have a_:=(asked (by simpa using c1) (by simp only[decide_eq_true_eq,decide_eq_false_iff_not,jB,xD,kC,Bool.not_eq_false',Bool.and_eq_false_iff,Bool.or_eq_false_iff,beq_iff_eq,beq_eq_false_iff_ne,bne_iff_ne,bne_eq_false_iff_eq,kA,zA,vB,List.length_drop]at c3;exact c3.1));rw[a_.reg];exact a_.vers.okV) (by have a_:=(asked (by simpa using c1) (by simp only[decide_eq_true_eq,decide_eq_false_iff_not,jB,xD,kC,Bool.not_eq_false',Bool.and_eq_false_iff,Bool.or_eq_false_iff,beq_iff_eq,beq_eq_false_iff_ne,bne_iff_ne,bne_eq_false_iff_eq,kA,zA,vB,List.length_drop]at c3;exact c3.1));exact⟨a_.doc.at_.1,Int.le_of_lt a_.doc.at_.2⟩)) U (λv2 h2 hle2 hp2=>?_))))
 obtain⟨_,rfl,mo1⟩:=hp2
 refine qO 2 U (dQ (cu (L':=([(b4,O (aD.cells ((dx bG doc known).1) rr1) 79),(b3,O [.slice none 0 0] 40),(b2,O [.slice gF who.length gE] 31),(b1,O (jF bG dW) 30)])++markB []) ap ?_))
 refine jw (it:=v2) (xs:=(aE ((dx bG doc known).1))) (ι:=(List Span)×Option Addr×Nat×LH×HF) [] (λi=>i.2.2.2.2) (λi=>[(b4,O (aD.cells ((dx bG doc known).1) rr1) 79),(b3,O [.slice i.2.1 i.1.length i.2.2.1] 40),(b2,O [.slice gF who.length gE] 31),(b1,O (jF bG dW) 30)]++(i.2.2.2.1)) (λs i=>eu bG doc who known=((eu.L1 bG doc who known (eu.K1)) s i.1)/\dA Te 51 i.2.2.2.2 i.1 i.2.1 i.2.2.1 i.2.2.2.1/\kK h2 i.2.2.2.2/\i.1.length+s.length<=5000000) (λ_=>False) (λ_=>False) 0 (λ_ _ _=>False) ([],none,0,[],h2) KU U mo1 U HK (λ_ _ _ _ _ hq=>hq) U (show[(b4,O (aD.cells ((dx bG doc known).1) rr1) 79),(b3,O [.slice none 0 0] 40),(b2,O [.slice gF who.length gE] 31),(b1,O (jF bG dW) 30)]=_ from U) ⟨hs5,dA.nil,lf,(by have a_:=(asked (by simpa using c1) (by simp only[decide_eq_true_eq,decide_eq_false_iff_not,jB,xD,kC,Bool.not_eq_false',Bool.and_eq_false_iff,Bool.or_eq_false_iff,beq_iff_eq,beq_eq_false_iff_ne,bne_iff_ne,bne_eq_false_iff_eq,kA,zA,vB,List.length_drop]at c3;exact c3.1));have:=Ms (q:=(dx bG doc known).1) (by rw[a_.reg];exact hsm) (by rw[a_.reg];exact a_.vers.okV);simpa using this)⟩ ?_ ?_ ?_ ?_ ?_
 .rintro l1 dm1 lp1 y1 rz1 vs1 ⟨aF,fw,fu,gX,hh1⟩ hr1 X hFR1 ⟨hs7,iP,hl1,u1_0⟩ hl01 hlr1 hv1 hX hXM hlp1 nx1 rt1 ex1 pn1
  try dsimp only at iP hl1 u1_0 hlr1
  obtain rfl:=hv1
  simp only[zA]at u1_0
  refine cu (L':=[(l1,.loop lp1),(dm1,.deferred (some [])),(b4,O (aD.cells ((dx bG doc known).1) rr1) 79),(b3,O [.slice fw aF.length fu] 40),(b2,O [.slice gF who.length gE] 31),(b1,O (jF bG dW) 30)]++(gX++(markB []))) ap (bu (aU zc51 (λb6=>aR 0 ty51 U U U U U U (gS (L':=[(b6,O (Sk y1) 51),(l1,.loop lp1),(dm1,.deferred (some [])),(b4,O (aD.cells ((dx bG doc known).1) rr1) 79),(b3,O [.slice fw aF.length fu] 40),(b2,O [.slice gF who.length gE] 31),(b1,O (jF bG dW) 30)]++(gX++(markB []))) U (aH (jx 1 U hlp1 (qK 10 [4] U (cI 3 ty79 U U U (qL 3 [5,0] U (ai call33 (pB _ _ _ _ _ _ y1.From (ok1.mono ((hle2.t hl1).t hlr1)) (hwho.mono zH (((hle1.t hle2).t hl1).t hlr1)) (by have a_:=(asked (by simpa using c1) (by simp only[decide_eq_true_eq,decide_eq_false_iff_not,jB,xD,kC,Bool.not_eq_false',Bool.and_eq_false_iff,Bool.or_eq_false_iff,beq_iff_eq,beq_eq_false_iff_ne,bne_iff_ne,bne_eq_false_iff_eq,kA,zA,vB,List.length_drop]at c3;exact c3.1));rw[a_.reg];exact hsm) (by have a_:=(asked (by simpa using c1) (by simp only[decide_eq_true_eq,decide_eq_false_iff_not,jB,xD,kC,Bool.not_eq_false',Bool.and_eq_false_iff,Bool.or_eq_false_iff,beq_iff_eq,beq_eq_false_iff_ne,bne_iff_ne,bne_eq_false_iff_eq,kA,zA,vB,List.length_drop]at c3;exact c3.1));rw[a_.reg];exact a_.vers.okV) (by have a_:=(asked (by simpa using c1) (by simp only[decide_eq_true_eq,decide_eq_false_iff_not,jB,xD,kC,Bool.not_eq_false',Bool.and_eq_false_iff,Bool.or_eq_false_iff,beq_iff_eq,beq_eq_false_iff_ne,bne_iff_ne,bne_eq_false_iff_eq,kA,zA,vB,List.length_drop]at c3;exact c3.1));exact⟨⟨a_.doc.at_.1,Int.le_of_lt a_.doc.at_.2⟩,a_.doc.kind.1⟩) ob (hk.mono (((hle1.t hle2).t hl1).t hlr1))) U (qO 3 U (ae hs7 U (λc5 hs8=>?_) (λc5 hs9=>?_)))))))))))))
  .exact aQ (qT 2 U (bj (L':=[(l1,.loop { lp1 with state:=.busy }),(dm1,.deferred (some [])),(b4,O (aD.cells ((dx bG doc known).1) rr1) 79),(b3,O [.slice fw aF.length fu] 40),(b2,O [.slice gF who.length gE] 31),(b1,O (jF bG dW) 30)]++(gX++(markB []))) js (cu (L':=rdH l1 dm1 lp1 (([(b4,O (aD.cells ((dx bG doc known).1) rr1) 79),(b3,O [.slice fw aF.length fu] 40),(b2,O [.slice gF who.length gE] 31),(b1,O (jF bG dW) 30)]++(gX))++markB [])) ap (nx1 (aF,fw,fu,gX,hr1) _ _ ⟨hs8,(iP.mono TH hlr1),(hl1.t hlr1),(by first|omega|(simp only[kA,zA,vB,List.length_set];omega))⟩ lf))))
  refine dJ ?_
  refine nU [(8,Q b3),(12,Q b6),(13,I (aF.length:Int)),(47,.bool (decide (0<(aF.length:Int))&&((nthI aF ((aF.length:Int)-1)).Until==y1.From)))] (λe=>?_) (λhk2=>?_)
  rotate_left
  .refine eQ ([(b6,O (Sk y1) 51),(l1,.loop { lp1 with state:=.busy }),(dm1,.deferred (some [])),(b4,O (aD.cells ((dx bG doc known).1) rr1) 79),(b3,O [.slice fw aF.length fu] 40),(b2,O [.slice gF who.length gE] 31),(b1,O (jF bG dW) 30)]++(gX)) mixed kr jn (λeF _=>?_)
   refine qR 0 3 U ?_
   refine dt 50 U (λc6=>?_) (λc6=>?_)
   .have c6p:=of_decide_eq_true c6
    refine tf 3 U U (rj 4 ty40 U U U) (tm 4 U (tf 5 U U (λ_ _ _=>ny (v':=I ((aF.length:Int)-1)) U (jc ob)) ?_))
    have ho2:0<=(((aF.length:Int)-1):Int)/\(((aF.length:Int)-1):Int)<((aF).length:Int):=ob
    obtain⟨bk2,hbk2⟩:=dA.yl (iP.mono TH hlr1) ob
    exact tf 6 U U (λ_ _ _=>nX (R:=Te) (xs:=aF) Ak ty51 hbk2 ho2 U U U) (qB [7] U (tf 8 U U (λ_ _ hj=>Cu (R:=Te) (i:=(((aF.length:Int)-1):Int).toNat) (off:=1) ty3 (iP.mono TH hlr1) hbk2 (dy ho2) (λcs_z hcs=>by rw[show cs_z=Sk (nthI aF ((aF.length:Int)-1))from hcs];rfl) U (mj hj)) (qB [9] U (tf 10 U U (rj 0 ty3 U U U) (qR 11 3 U (aN kr (hk2 _ ⟨U,U,U,(cb (show((nthI aF ((aF.length:Int)-1)).Until==y1.From)=(decide (0<(aF.length:Int))&&((nthI aF ((aF.length:Int)-1)).Until==y1.From))from by rw[c6]<;>rfl)),trivial⟩)))))))
   have c6p:=of_decide_eq_false c6
   exact tk 3 U U (qR 4 10 U (aN kr (hk2 _ ⟨U,U,U,(cb (show false=(decide (0<(aF.length:Int))&&((nthI aF ((aF.length:Int)-1)).Until==y1.From))from by rw[c6]<;>rfl)),trivial⟩)))
  refine ae hs9 U (λc7 hs10=>?_) (λc7 hs11=>?_)
  .refine qK 3 [4] U (iq (v':=I ((aF.length:Int)-1)) U (jc ob) (qL 2 [0] U ?_))
   have ho3:0<=(((aF.length:Int)-1):Int)/\(((aF.length:Int)-1):Int)<((aF).length:Int):=ob
   obtain⟨bk3,hbk3⟩:=dA.yl (iP.mono TH hlr1) ob
   exact aw (ff (nX (R:=Te) (xs:=aF) Ak ty51 hbk3 ho3 U U U) (qL 1 [] U (aw (AA (R:=Te) (i:=(((aF.length:Int)-1):Int).toNat) (off:=1) (u:=(nthI aF ((aF.length:Int)-1))) (u':=(qW (nthI aF ((aF.length:Int)-1)).From y1.Until)) (v:=I y1.Until) ([(b6,O (Sk y1) 51),(l1,.loop { lp1 with state:=.busy }),(dm1,.deferred (some [])),(b4,O (aD.cells ((dx bG doc known).1) rr1) 79),(b3,O [.slice fw aF.length fu] 40),(b2,O [.slice gF who.length gE] 31),(b1,O (jF bG dW) 30)]) gX (markB []) ty3 U (iP.mono TH hlr1) ap hbk3 (dy ho3) (by decide) (λcs_z hcs=>by rw[show cs_z=Sk (nthI aF ((aF.length:Int)-1))from hcs];rfl) U U U (λG1 gr1=>gS (L':=[(b6,O (Sk y1) 51),(l1,.loop { lp1 with state:=.busy }),(dm1,.deferred (some [])),(b4,O (aD.cells ((dx bG doc known).1) rr1) 79),(b3,O [.slice fw ((aF.set (((aF.length:Int)-1):Int).toNat (qW (nthI aF ((aF.length:Int)-1)).From y1.Until)).length) fu] 40),(b2,O [.slice gF who.length gE] 31),(b1,O (jF bG dW) 30)]++(G1++(markB []))) (by simp only[List.length_set,List.append_assoc,List.cons_append,zG,List.append_nil]) (qO 3 U (bj (L':=[(l1,.loop { lp1 with state:=.busy }),(dm1,.deferred (some [])),(b4,O (aD.cells ((dx bG doc known).1) rr1) 79),(b3,O [.slice fw ((aF.set (((aF.length:Int)-1):Int).toNat (qW (nthI aF ((aF.length:Int)-1)).From y1.Until)).length) fu] 40),(b2,O [.slice gF who.length gE] 31),(b1,O (jF bG dW) 30)]++(G1++(markB []))) js (cu (L':=rdH l1 dm1 lp1 (([(b4,O (aD.cells ((dx bG doc known).1) rr1) 79),(b3,O [.slice fw ((aF.set (((aF.length:Int)-1):Int).toNat (qW (nthI aF ((aF.length:Int)-1)).From y1.Until)).length) fu] 40),(b2,O [.slice gF who.length gE] 31),(b1,O (jF bG dW) 30)]++G1)++markB [])) ap (nx1 ((aF.set (((aF.length:Int)-1):Int).toNat (qW (nthI aF ((aF.length:Int)-1)).From y1.Until)),fw,fu,G1,hr1) _ _ ⟨hs10,gr1,(hl1.t hlr1),(by first|omega|(simp only[kA,zA,vB,List.length_set];omega))⟩ lf)))))))))
  exact qK 2 [4] U (cI 0 ty51 U U U (aw (bB (cells:=[I y1.From,I y1.Until]) Ak ty51 zc51 U U kr (λb7=>aw (eo Span.eD ([(b7,O [I y1.From,I y1.Until] 51),(b6,O (Sk y1) 51),(l1,.loop { lp1 with state:=.busy }),(dm1,.deferred (some [])),(b4,O (aD.cells ((dx bG doc known).1) rr1) 79),(b3,O [.slice fw aF.length fu] 40),(b2,O [.slice gF who.length gE] 31),(b1,O (jF bG dW) 30)]) (markB []) (λG=>[(b7,O [I y1.From,I y1.Until] 51),(b6,O (Sk y1) 51),(l1,.loop { lp1 with state:=.busy }),(dm1,.deferred (some [])),(b4,O (aD.cells ((dx bG doc known).1) rr1) 79),(b3,O [.slice fw aF.length fu] 40),(b2,O [.slice gF who.length gE] 31),(b1,O (jF bG dW) 30)]++(markB []++G)) ap (λ_=>ap) Ak ty51 zc51 U bytes51 (iP.mono TH hlr1) U U (fd 0 U (cE y1 U U)) lo lo (λob1 oc1 G2 gr2=>uO (pX ([(b7,O [I y1.From,I y1.Until] 51),(b6,O (Sk y1) 51),(l1,.loop { lp1 with state:=.busy }),(dm1,.deferred (some [])),(b4,O (aD.cells ((dx bG doc known).1) rr1) 79),(b3,O [.slice fw aF.length fu] 40),(b2,O [.slice gF who.length gE] 31),(b1,O (jF bG dW) 30)]) G2 (markB [])) (cB 5 ty40 U U U U U U (qO 3 U (bj (L':=[(l1,.loop { lp1 with state:=.busy }),(dm1,.deferred (some [])),(b4,O (aD.cells ((dx bG doc known).1) rr1) 79),(b3,O [.slice ob1 ((aF++[y1]).length) oc1] 40),(b2,O [.slice gF who.length gE] 31),(b1,O (jF bG dW) 30)]++(G2++(markB []))) js (cu (L':=rdH l1 dm1 lp1 (([(b4,O (aD.cells ((dx bG doc known).1) rr1) 79),(b3,O [.slice ob1 ((aF++[y1]).length) oc1] 40),(b2,O [.slice gF who.length gE] 31),(b1,O (jF bG dW) 30)]++G2)++markB [])) ap (nx1 ((aF++[y1]),ob1,oc1,G2,hr1) _ _ ⟨hs11,gr2,(hl1.t hlr1),(by first|omega|(simp only[kA,zA,vB,List.length_set];omega))⟩ lf)))))))))))
 .rintro dm1 ⟨aF,fw,fu,gX,hh1⟩ hn1 ⟨hs12,iP,hl1,u1_0⟩ hln1 hl01
  try dsimp only at iP hl1 u1_0 hln1
  refine cu (L':=[(b4,O (aD.cells ((dx bG doc known).1) rr1) 79),(b3,O [.slice fw aF.length fu] 40),(b2,O [.slice gF who.length gE] 31),(b1,O (jF bG dW) 30)]++(gX++(markB (dm1::[])))) ap (qK 4 [1] U (cB 1 ty40 U U U U U U (an (fW TH ([(b4,O (aD.cells ((dx bG doc known).1) rr1) 79),(b3,O [.slice fw aF.length fu] 40),(b2,O [.slice gF who.length gE] 31),(b1,O (jF bG dW) 30)]) gX (markB (dm1::[])) ap hM (iP.mono TH hln1) (λh3 hle3 sl1=>?_)))))
  have hs13:eu bG doc who known=(aF,0):=hs12
  exact cu (L':=([(b4,O (aD.cells ((dx bG doc known).1) rr1) 79),(b3,O [.slice fw aF.length fu] 40),(b2,O [.slice gF who.length gE] 31),(b1,O (jF bG dW) 30)])++markB (dm1::[])) ap (oX (dm1::[]) [.slice fw aF.length fu,I 0] KU U ⟨⟨1,_,_,_,_,U,U,.inr ⟨_,ty40,U⟩⟩,U,trivial⟩ ⟨fw,fu,congrArg (λr:(List Span×Int)=>(.tuple #[.slice fw r.1.length fu,I r.2]:Value)) hs13.symm,(by rw[hs13];exact sl1)⟩)
 .exact xf
 .exact xf
 exact xf
theorem w7(h:HF)   : jY prog 9 [] h (λv h'=>∃(rr0:eN),v=.agg (jF (bN) rr0).toArray/\qP h' (bN) rr0):=by
 refine cD func9 U ntmps9 U λX hM hX=>?_
 have hs0:=@rfl _ (bN)
 refine sr (aU zc30 (λb1=>qO 3 U (aw (eY (cells:=[I 2,I 2,I 0,.string (⟨#[104,101,97,100]⟩:ByteArray),.slice none 0 0]) (places:=[(0,1),(1,1),(2,1),(3,1),(4,1)]) underlying88 zc88 kr kr (aU zc88 (λb2=>aR 0 ty88 U U U U U U (qO 3 U (aw (bB (cells:=[.string (⟨#[107]⟩:ByteArray)]) vt ty9 zc9 U U kr (λb3=>aw (bB (cells:=[.string (⟨#[104,101,97,100]⟩:ByteArray)]) vt ty9 zc9 U U kr (λb4=>cI 2 ty88 U U U (aw (eY (cells:=[.string (⟨#[107]⟩:ByteArray),I 0,I 5,I 2,I 2,I 0,.string (⟨#[104,101,97,100]⟩:ByteArray),.slice none 0 0]) (places:=[(0,1),(1,1),(2,1),(3,5)]) underlying91 zc91 kr kr (aw (bB (cells:=[.string (⟨#[107]⟩:ByteArray),I 0,I 5,I 2,I 2,I 0,.string (⟨#[104,101,97,100]⟩:ByteArray),.slice none 0 0]) tQ ty91 zc91 U U kr (λb5=>cI 3 ty88 U U U (aw (eY (cells:=[.string (⟨#[112]⟩:ByteArray),.slice (some ⟨b3,0,none⟩) 1 1,.slice (some ⟨b4,0,none⟩) 1 1,.slice (some ⟨b5,0,none⟩) 1 1,I 2,I 2,I 0,.string (⟨#[104,101,97,100]⟩:ByteArray),.slice none 0 0,I 2]) (places:=[(0,1),(1,1),(2,1),(3,1),(4,5),(9,1)]) Lb zc94 kr kr (aU zc94 (λb6=>aR 0 ty94 U U U U U U (qO 3 U (aw (eY (cells:=[I 1,I 0,I 0,I 0,I 1,I 1,.bool false]) (places:=[(0,1),(1,1),(2,1),(3,1),(4,1),(5,1),(6,1)]) Lc zc49 kr kr (aw (eY (cells:=[I 2,I 0,I 0,I 0,I 2,I 1,.bool false]) (places:=[(0,1),(1,1),(2,1),(3,1),(4,1),(5,1),(6,1)]) Lc zc49 kr kr (aw (eY (cells:=[I 3,I 20,I 30,I 0,I 3,I 1,.bool false]) (places:=[(0,1),(1,1),(2,1),(3,1),(4,1),(5,1),(6,1)]) Lc zc49 kr kr (aw (bB (cells:=[I 1,I 0,I 0,I 0,I 1,I 1,.bool false,I 2,I 0,I 0,I 0,I 2,I 1,.bool false,I 3,I 20,I 30,I 0,I 3,I 1,.bool false]) Cn ty49 zc49 U U kr (λb7=>cI 1 ty94 U U U (aw (eY (cells:=[I 7,I 0,I 0,.string (⟨#[112]⟩:ByteArray),.slice (some ⟨b3,0,none⟩) 1 1,.slice (some ⟨b4,0,none⟩) 1 1,.slice (some ⟨b5,0,none⟩) 1 1,I 2,I 2,I 0,.string (⟨#[104,101,97,100]⟩:ByteArray),.slice none 0 0,I 2]) (places:=[(0,1),(1,1),(2,1),(3,10)]) underlying96 zc96 kr kr ?_)))))))))))))))))))))))))))))))))
 refine aP 4 U hM (λh1 hle1 hb1=>?_)
 have sl1:SlC Sz h1 (some ⟨b3,0,none⟩) 1 ([(⟨#[107]⟩:ByteArray)]):=bP.slB0 (T:=9) (fz:=(0,0)) ((show bP Sz h [.string (⟨#[107]⟩:ByteArray)] ([(⟨#[107]⟩:ByteArray)])from⟨[.string (⟨#[107]⟩:ByteArray)],[],rfl,rfl,rfl,rfl⟩).mono Ti hle1) hb1
 refine aP 3 U hM (λh2 hle2 hb2=>?_)
 have sl2:SlC Sz h2 (some ⟨b4,0,none⟩) 1 ([(⟨#[104,101,97,100]⟩:ByteArray)]):=bP.slB0 (T:=9) (fz:=(0,0)) ((show bP Sz h1 [.string (⟨#[104,101,97,100]⟩:ByteArray)] ([(⟨#[104,101,97,100]⟩:ByteArray)])from⟨[.string (⟨#[104,101,97,100]⟩:ByteArray)],[],rfl,rfl,rfl,rfl⟩).mono Ti hle2) hb2
 refine aP 2 U hM (λh3 hle3 hb3=>?_)
 have sl3:SlC Rule.rp h3 (some ⟨b5,0,none⟩) 1 ([(SE (⟨#[107]⟩:ByteArray) 0 5 (vG 2 2 0 (⟨#[104,101,97,100]⟩:ByteArray) ([])))]):=bP.slB0 (T:=91) (fz:=(0,0)) ((show bP Rule.rp h2 [.string (⟨#[107]⟩:ByteArray),I 0,I 5,I 2,I 2,I 0,.string (⟨#[104,101,97,100]⟩:ByteArray),.slice none 0 0] ([(SE (⟨#[107]⟩:ByteArray) 0 5 (vG 2 2 0 (⟨#[104,101,97,100]⟩:ByteArray) ([])))])from⟨[.string (⟨#[107]⟩:ByteArray),I 0,I 5,I 2,I 2,I 0,.string (⟨#[104,101,97,100]⟩:ByteArray),.slice none 0 0],[],rfl,rfl,⟨(Bx.mk (cY.mk none 0)),rfl,((show Rule.ok h (SE (⟨#[107]⟩:ByteArray) 0 5 (vG 2 2 0 (⟨#[104,101,97,100]⟩:ByteArray) ([]))) (Bx.mk (cY.mk none 0))from⟨(show qG h (vG 2 2 0 (⟨#[104,101,97,100]⟩:ByteArray) ([])) (cY.mk none 0)from Sb zF)⟩).mono (hle1.t hle2))⟩,rfl⟩).mono Tk hle3) hb3
 refine aw (bB (cells:=[I 7,I 0,I 0,.string (⟨#[112]⟩:ByteArray),.slice (some ⟨b3,0,none⟩) 1 1,.slice (some ⟨b4,0,none⟩) 1 1,.slice (some ⟨b5,0,none⟩) 1 1,I 2,I 2,I 0,.string (⟨#[104,101,97,100]⟩:ByteArray),.slice none 0 0,I 2]) wC ty96 zc96 U U kr (λb8=>aw (bB (cells:=[I 6]) eG ty3 zc3 U U kr (λb9=>aw (eY (cells:=[I 4,I 10,I 0,I 0,I 0,I 100,.slice (some ⟨b9,0,none⟩) 1 1,.slice none 0 0,.slice none 0 0,Y 0,Y 0,Y 0,Y 0,Y 0,Y 0,Y 0,Y 0,Y 0,Y 0,Y 0,Y 0,Y 0,Y 0,Y 0,Y 0,Y 0,Y 0,Y 0,Y 0,Y 0,Y 0,Y 0,Y 0,Y 0,Y 0,Y 0,Y 0,Y 0,Y 0,Y 0,Y 0]) (places:=[(0,1),(1,1),(2,1),(3,1),(4,1),(5,1),(6,1),(7,1),(8,1),(9,32)]) underlying70 zc70 kr kr (aP 0 U hM (λh4 hle4 hb4=>?_)))))))
 have sl4:SlC zC h4 (some ⟨b9,0,none⟩) 1 ([6]):=bP.slB0 (T:=3) (fz:=(0,0)) ((show bP zC h3 [I 6] ([6])from⟨[I 6],[],rfl,rfl,rfl,rfl⟩).mono zH hle4) hb4
 refine aw (bB (cells:=[I 4,I 10,I 0,I 0,I 0,I 100,.slice (some ⟨b9,0,none⟩) 1 1,.slice none 0 0,.slice none 0 0,Y 0,Y 0,Y 0,Y 0,Y 0,Y 0,Y 0,Y 0,Y 0,Y 0,Y 0,Y 0,Y 0,Y 0,Y 0,Y 0,Y 0,Y 0,Y 0,Y 0,Y 0,Y 0,Y 0,Y 0,Y 0,Y 0,Y 0,Y 0,Y 0,Y 0,Y 0,Y 0]) rC ty70 zc70 U U kr (λb10=>aw (eY (cells:=[.slice (some ⟨b7,0,none⟩) 3 3,.slice none 0 0,.slice none 0 0,.slice none 0 0,.slice (some ⟨b8,0,none⟩) 1 1,.slice (some ⟨b10,0,none⟩) 1 1,.slice none 0 0]) (places:=[(0,1),(1,1),(2,1),(3,1),(4,1),(5,1),(6,1)]) Ld zc30 kr kr (aR 5 ty30 U U U U U U (aH (eO 2 U hM (λh5 hle5 hb5=>?_)))))))
 have sl5:SlC kR h5 (some ⟨b7,0,none⟩) 3 ([(kF 1 0 0 0 1 1 false),(kF 2 0 0 0 2 1 false),(kF 3 20 30 0 3 1 false)]):=bP.slB0 (T:=49) (fz:=(0,0)) ((show bP kR h4 [I 1,I 0,I 0,I 0,I 1,I 1,.bool false,I 2,I 0,I 0,I 0,I 2,I 1,.bool false,I 3,I 20,I 30,I 0,I 3,I 1,.bool false] ([(kF 1 0 0 0 1 1 false),(kF 2 0 0 0 2 1 false),(kF 3 20 30 0 3 1 false)])from⟨[I 1,I 0,I 0,I 0,I 1,I 1,.bool false],[I 2,I 0,I 0,I 0,I 2,I 1,.bool false,I 3,I 20,I 30,I 0,I 3,I 1,.bool false],rfl,rfl,rfl,⟨[I 2,I 0,I 0,I 0,I 2,I 1,.bool false],[I 3,I 20,I 30,I 0,I 3,I 1,.bool false],rfl,rfl,rfl,⟨[I 3,I 20,I 30,I 0,I 3,I 1,.bool false],[],rfl,rfl,rfl,rfl⟩⟩⟩).mono Se hle5) hb5
 refine eO 1 U hM (λh6 hle6 hb6=>?_)
 have sl6:SlC jQ h6 (some ⟨b8,0,none⟩) 1 ([(Sv 7 0 0 (qM (⟨#[112]⟩:ByteArray) ([(⟨#[107]⟩:ByteArray)]) ([(⟨#[104,101,97,100]⟩:ByteArray)]) ([(SE (⟨#[107]⟩:ByteArray) 0 5 (vG 2 2 0 (⟨#[104,101,97,100]⟩:ByteArray) ([])))]) (vG 2 2 0 (⟨#[104,101,97,100]⟩:ByteArray) ([])) 2))]):=bP.slB0 (T:=96) (fz:=(0,0)) ((show bP jQ h5 [I 7,I 0,I 0,.string (⟨#[112]⟩:ByteArray),.slice (some ⟨b3,0,none⟩) 1 1,.slice (some ⟨b4,0,none⟩) 1 1,.slice (some ⟨b5,0,none⟩) 1 1,I 2,I 2,I 0,.string (⟨#[104,101,97,100]⟩:ByteArray),.slice none 0 0,I 2] ([(Sv 7 0 0 (qM (⟨#[112]⟩:ByteArray) ([(⟨#[107]⟩:ByteArray)]) ([(⟨#[104,101,97,100]⟩:ByteArray)]) ([(SE (⟨#[107]⟩:ByteArray) 0 5 (vG 2 2 0 (⟨#[104,101,97,100]⟩:ByteArray) ([])))]) (vG 2 2 0 (⟨#[104,101,97,100]⟩:ByteArray) ([])) 2))])from⟨[I 7,I 0,I 0,.string (⟨#[112]⟩:ByteArray),.slice (some ⟨b3,0,none⟩) 1 1,.slice (some ⟨b4,0,none⟩) 1 1,.slice (some ⟨b5,0,none⟩) 1 1,I 2,I 2,I 0,.string (⟨#[104,101,97,100]⟩:ByteArray),.slice none 0 0,I 2],[],rfl,rfl,⟨(pE.mk (eU.mk (some ⟨b3,0,none⟩) 1 (some ⟨b4,0,none⟩) 1 (some ⟨b5,0,none⟩) 1 (cY.mk none 0))),rfl,((show Version.ok h3 (Sv 7 0 0 (qM (⟨#[112]⟩:ByteArray) ([(⟨#[107]⟩:ByteArray)]) ([(⟨#[104,101,97,100]⟩:ByteArray)]) ([(SE (⟨#[107]⟩:ByteArray) 0 5 (vG 2 2 0 (⟨#[104,101,97,100]⟩:ByteArray) ([])))]) (vG 2 2 0 (⟨#[104,101,97,100]⟩:ByteArray) ([])) 2)) (pE.mk (eU.mk (some ⟨b3,0,none⟩) 1 (some ⟨b4,0,none⟩) 1 (some ⟨b5,0,none⟩) 1 (cY.mk none 0)))from⟨(show kN h3 (qM (⟨#[112]⟩:ByteArray) ([(⟨#[107]⟩:ByteArray)]) ([(⟨#[104,101,97,100]⟩:ByteArray)]) ([(SE (⟨#[107]⟩:ByteArray) 0 5 (vG 2 2 0 (⟨#[104,101,97,100]⟩:ByteArray) ([])))]) (vG 2 2 0 (⟨#[104,101,97,100]⟩:ByteArray) ([])) 2) (eU.mk (some ⟨b3,0,none⟩) 1 (some ⟨b4,0,none⟩) 1 (some ⟨b5,0,none⟩) 1 (cY.mk none 0))from⟨(sl1.mono Ti (hle2.t hle3)),(sl2.mono Ti hle3),sl3,(show qG h3 (vG 2 2 0 (⟨#[104,101,97,100]⟩:ByteArray) ([])) (cY.mk none 0)from Sb zF)⟩)⟩).mono (hle4.t hle5))⟩,rfl⟩).mono vV hle6) hb6
 refine eO 0 U hM (λh7 hle7 hb7=>?_)
 have sl7:SlC RV h7 (some ⟨b10,0,none⟩) 1 ([(SR 4 10 0 0 0 100 ([6]) ([]) ([]) (λ_=>0))]):=bP.slB0 (T:=70) (fz:=(0,0)) ((show bP RV h6 [I 4,I 10,I 0,I 0,I 0,I 100,.slice (some ⟨b9,0,none⟩) 1 1,.slice none 0 0,.slice none 0 0,Y 0,Y 0,Y 0,Y 0,Y 0,Y 0,Y 0,Y 0,Y 0,Y 0,Y 0,Y 0,Y 0,Y 0,Y 0,Y 0,Y 0,Y 0,Y 0,Y 0,Y 0,Y 0,Y 0,Y 0,Y 0,Y 0,Y 0,Y 0,Y 0,Y 0,Y 0,Y 0] ([(SR 4 10 0 0 0 100 ([6]) ([]) ([]) (λ_=>0))])from⟨[I 4,I 10,I 0,I 0,I 0,I 100,.slice (some ⟨b9,0,none⟩) 1 1,.slice none 0 0,.slice none 0 0,Y 0,Y 0,Y 0,Y 0,Y 0,Y 0,Y 0,Y 0,Y 0,Y 0,Y 0,Y 0,Y 0,Y 0,Y 0,Y 0,Y 0,Y 0,Y 0,Y 0,Y 0,Y 0,Y 0,Y 0,Y 0,Y 0,Y 0,Y 0,Y 0,Y 0,Y 0,Y 0],[],rfl,rfl,⟨(iC.mk (some ⟨b9,0,none⟩) 1 none 0 none 0),rfl,((show R8 h4 (SR 4 10 0 0 0 100 ([6]) ([]) ([]) (λ_=>0)) (iC.mk (some ⟨b9,0,none⟩) 1 none 0 none 0)from⟨sl4,zF,zF⟩).mono (hle5.t hle6))⟩,rfl⟩).mono vR hle7) hb7
 have hs1:bN=(qQ ([(kF 1 0 0 0 1 1 false),(kF 2 0 0 0 2 1 false),(kF 3 20 30 0 3 1 false)]) ([]) ([]) ([]) ([(Sv 7 0 0 (qM (⟨#[112]⟩:ByteArray) ([(⟨#[107]⟩:ByteArray)]) ([(⟨#[104,101,97,100]⟩:ByteArray)]) ([(SE (⟨#[107]⟩:ByteArray) 0 5 (vG 2 2 0 (⟨#[104,101,97,100]⟩:ByteArray) ([])))]) (vG 2 2 0 (⟨#[104,101,97,100]⟩:ByteArray) ([])) 2))]) ([(SR 4 10 0 0 0 100 ([6]) ([]) ([]) (λ_=>0))]) ([])):=hs0
 exact il [.agg (kB [.slice (some ⟨b7,0,none⟩) 3 3,.slice none 0 0,.slice none 0 0,.slice none 0 0,.slice (some ⟨b8,0,none⟩) 1 1,.slice (some ⟨b10,0,none⟩) 1 1,.slice none 0 0])] func9 U ⟨⟨2,_,_,_,_,U,U,.inl ⟨ty30,U⟩⟩,trivial⟩ ⟨(eN.mk (some ⟨b7,0,none⟩) 3 none 0 none 0 none 0 (some ⟨b8,0,none⟩) 1 (some ⟨b10,0,none⟩) 1 none 0),congrArg (λr:Register=>(.agg (jF r (eN.mk (some ⟨b7,0,none⟩) 3 none 0 none 0 none 0 (some ⟨b8,0,none⟩) 1 (some ⟨b10,0,none⟩) 1 none 0)).toArray:Value)) hs1.symm,(by rw[hs1];exact(show qP h7 (qQ ([(kF 1 0 0 0 1 1 false),(kF 2 0 0 0 2 1 false),(kF 3 20 30 0 3 1 false)]) ([]) ([]) ([]) ([(Sv 7 0 0 (qM (⟨#[112]⟩:ByteArray) ([(⟨#[107]⟩:ByteArray)]) ([(⟨#[104,101,97,100]⟩:ByteArray)]) ([(SE (⟨#[107]⟩:ByteArray) 0 5 (vG 2 2 0 (⟨#[104,101,97,100]⟩:ByteArray) ([])))]) (vG 2 2 0 (⟨#[104,101,97,100]⟩:ByteArray) ([])) 2))]) ([(SR 4 10 0 0 0 100 ([6]) ([]) ([]) (λ_=>0))]) ([])) (eN.mk (some ⟨b7,0,none⟩) 3 none 0 none 0 none 0 (some ⟨b8,0,none⟩) 1 (some ⟨b10,0,none⟩) 1 none 0)from⟨(sl5.mono Se (hle6.t hle7)),zF,zF,zF,(sl6.mono vV hle7),sl7,zF⟩))⟩
theorem wl(h:HF)(q:aD)(mq:gK)(person:Int)(ba:Int)(hq:aD.ok h q mq)(hsm:smR q.Register)(hov:okV q.Register.Versions)(hod:(0<=q.doc.At/\q.doc.At<=1099511627776)/\0<=q.doc.Kind)(hk:Kinds h):jY prog 35 [.agg (aD.cells q mq).toArray,I person,I ba] h (λv h'=>∃(rb0:Option Addr)(rc0:Nat),v=.slice rb0 (bp q person ba).length rc0/\SlC zC h' rb0 rc0 (bp q person ba)):=by
 refine sT func35 U ntmps35 U λX hM hX hF=>?_
 have hs0:=@rfl _ (bp q person ba)
 have hjl:=EF q ba
 have hvl:=hov.1
 refine sr (ct (λb1=>qO 4 U (aw (na (λb2=>qL 11 [1] U (ae hs0 U (λc1 hs1=>?_) (λc1 hs2=>?_)))))))
 .have c1p:=of_decide_eq_true c1
  refine qT 4 U ?_
  have hs3:bp q person ba=[]:=hs1
  exact nretH [.slice none 0 0] ⟨none,0,congrArg (λr:List Int=>(.slice none r.length 0:Value)) hs3.symm,(by rw[hs3];exact zF)⟩
 have c1p:=of_decide_eq_false c1
 refine qT 3 U (cI 1 ty79 U U U (ao (aw (cJ call83 (oT _ _ _ ba hq ob hk) U (λv1 h1 hle1 hp1=>?_)))))
 obtain⟨rb1,rc1,rfl,sl1⟩:=hp1
 refine qL 13 [] U ?_
 let z1:Nat×Obj:=(b1,O (aD.cells q mq) 79)
 refine lp2 ((aB q ba).1) (λi w=>[(1,I person),(2,I ba),(3,Q b1),(7,.map (some b2)),(28,.slice rb1 (((aB q ba).1).length) rc1),(29,I (((aB q ba).1).length:Int)),(30,I (i:Int))]) (λw=>w.2.2) (λw=>[(b2,w.2.1),z1]) (λi w=>ia (xB .i64) j0 w.2.2 w.2.1 w.1/\w.1.length<=64000000*i/\kK h1 w.2.2) (λs1 i w=>(bp.L1 q ba (bp.K1 person)) s1 w.1) ([],.map #[] 0,h1) sl1.1.1 hs2 ⟨((ia.nil (enc:=(xB .i64)) (V:=j0) (h:=h)).mono j0.mono hle1),lc,lf⟩ ?_ ?_
 .rintro i1 ⟨aZ,dB,hh1⟩ fB hs4 ⟨eV,nG,hl1⟩ e
  try dsimp only at eV nG hl1
  refine qT 4 U (aw (NI 0 (k:=person) rf (dG kz) U eV U U (λmo4 hm4=>qO 4 U (aP 0 U hM (λh3 hle3 hb1=>?_)))))
  have mc1:re (xB .i64) j0 h3 b2 (mdel aZ person):=⟨_,hb1,hm4.mono j0.mono hle3⟩
  refine aw (cJ call78 (tH h3 (mdel aZ person) b2 mc1) U (λv3 h4 hle4 hp3=>aw (cJ call77 (nV h4 v3 ((mdel aZ person).map Prod.fst) hp3 (by rw[List.length_map];have:=(EB person aZ).length_le;omega)) U (λv4 h5 hle5 hp4=>?_))))
  obtain⟨rb4,rc4,rfl,sl4⟩:=hp4
  refine an ?_
  have hs5:bp q person ba=(sortI ((mdel aZ person).map Prod.fst)):=hs4
  exact nretH [.slice rb4 ((sortI ((mdel aZ person).map Prod.fst)).length) rc4] ⟨rb4,rc4,congrArg (λr:List Int=>(.slice rb4 r.length rc4:Value)) hs5.symm,(by rw[hs5];exact sl4)⟩
 rintro i1 ⟨aZ,dB,hh1⟩ y1 rz1 hd1 du bo eA gD hs6 ⟨eV,nG,hl1⟩ hx1 ag1 e
 try dsimp only at eV nG hl1
 obtain⟨v_,hv_,hve_⟩:=zx (fS hd1)
 have hsp:=hsm.vers.2 v_ hv_
 rw[hve_]at hsp
 have hvt:=hov.2 v_ hv_
 rw[hve_]at hvt
 have hofl:=hsp.2.2.2.1
 have hql:=Hu q y1 ba
 refine sr (tO du U (qO 8 U (aw (iR M2 ty94 (sl1.mono Policy.av hl1).1 bo U U U (λ_ _ _ e=>e) (λq6 r2 A6 ok2=>dl ty94 A6 U U (aU zc94 (λb7=>aR 0 ty94 U U U U U U (qO 3 U (cI 2 ty79 U U U (cI 0 ty94 U U U (ao (aw (cJ call85 (oh _ _ _ _ _ ba (hq.mono (hle1.t hl1)) ok2 ob ob) U (λv5 h6 hle6 hp5=>?_))))))))))))))
 obtain⟨rb5,rc5,rfl,sl5⟩:=hp5
 refine qL 3 [] U ?_
 let z2:Nat×Obj:=(b7,O (kD y1 r2) 94)
 refine lp2 (aG q y1 ba) (λi w=>[(1,I person),(2,I ba),(3,Q b1),(7,.map (some b2)),(28,.slice rb1 (((aB q ba).1).length) rc1),(29,I (((aB q ba).1).length:Int)),(30,I (i1:Int)),(37,.slice rb5 ((aG q y1 ba).length) rc5),(38,I ((aG q y1 ba).length:Int)),(39,I (i:Int))]) (λ_=>h6) (λw=>[z2,(b2,w.2),z1]) (λi w=>ia (xB .i64) j0 h6 w.2 w.1/\w.1.length<=aZ.length+2000000*i) (λs5 i w=>(bp.L5 (λzg5_b2_0=>(bp.L1 q ba (bp.K1 person) rz1 zg5_b2_0))) s5 w.1) (aZ,dB) sl5.1.1 hs6 ⟨(eV.mono j0.mono hle6),lc⟩ ?_ ?_
 .rintro i5 ⟨lZ,qz⟩ BZ hs7 ⟨nB,sG⟩ e
  try dsimp only at nB sG
  exact eB (bu (oi i1 U (qO 2 U (bj (L':=[(b2,qz),z1]) js (ag1 (lZ,qz,h6) hs7 ⟨nB,lc,(hl1.t hle6)⟩)))))
 rintro i5 ⟨lZ,qz⟩ y5 rz5 hd5 QF N9 Q8 RA hs8 ⟨nB,sG⟩ hx5 ag2 e
 try dsimp only at nB sG
 have hyb:=wP hsm.2.1 y1 ba y5 (fS hd5)
 refine sr (tO QF U (qO 8 U (aw (iG F9 ty147 sl5.1 N9 U U U (λq11 cs5 A11 ln5 rr5=>?_)))))
 obtain⟨rb7,rc7,rfl,sl7⟩:=rr5
 refine de ty147 A11 U (qL 8 [] U ?_)
 refine lp2 y5 (λi w=>[(1,I person),(2,I ba),(3,Q b1),(7,.map (some b2)),(28,.slice rb1 (((aB q ba).1).length) rc1),(29,I (((aB q ba).1).length:Int)),(30,I (i1:Int)),(37,.slice rb5 ((aG q y1 ba).length) rc5),(38,I ((aG q y1 ba).length:Int)),(39,I (i5:Int)),(43,.slice rb7 y5.length rc7),(44,I (y5.length:Int)),(45,I (i:Int))]) (λ_=>h6) (λw=>[z2,(b2,w.2),z1]) (λi w=>ia (xB .i64) j0 h6 w.2 w.1/\w.1.length<=lZ.length+i) (λs7 i w=>(bp.L7 (λzg7_b2_0=>(bp.L5 (λzg5_b2_0=>(bp.L1 q ba (bp.K1 person) rz1 zg5_b2_0)) rz5 zg7_b2_0))) s7 w.1) (lZ,qz) sl7.1.1 hs8 ⟨nB,lc⟩ ?_ ?_
 .rintro i7 ⟨tI,Jp⟩ QG hs9 ⟨xh,ER⟩ e
  try dsimp only at xh ER
  exact eB (bu (oi i5 U (qO 2 U (ag2 (tI,Jp) hs9 ⟨xh,lc⟩))))
 rintro i7 ⟨tI,Jp⟩ y7 rz7 hd7 Rv Q9 RI RM hs10 ⟨xh,ER⟩ hx7 ag3 e
 try dsimp only at xh ER
 exact sr (tO Rv U (qO 8 U (aw (iF Holder.cells KV ty149 sl7.1 Q9 U U U (λq13 A13=>dl ty149 A13 U U (aU zc149 (λb12=>aR 0 ty149 U U U U U U (qL 5 [0] U (aw (iZ 2 (k:=y7.Person) (x:=true) rf (dG kz) U xh U U U (λmo9 hm9=>qO 3 U (oi i7 U (qO 2 U (bj (L':=[z2,(b2,mo9),z1]) js (ag3 ((mput tI y7.Person true),mo9) hs10 ⟨hm9,(by have:=gy tI y7.Person true;first|omega|(simp only[vB,zA]at *;omega))⟩)))))))))))))))
theorem dA.anyI{h h':HF}{xs:List Int}{b:Option Addr}{c:Nat}{E:TypeId}{G:LH}(g:dA zC E h xs b c G):dA zC E h' xs b c G:=by
 rcases g with⟨rfl,rfl,rfl,rfl⟩|⟨bk,cl,sp,rfl,hcl,h3,h4,h5,rfl⟩
 .exact dA.nil
 have:=zz hcl
 subst this
 exact .inr ⟨bk,_,sp,U,Ad h' _,h3,h4,h5,U⟩
section callGB
variable {P:Program} {b:Frame} {n:Nat} {ops:Array Oper} {F:List Frame->(Machine->Prop)->Prop} {e:Env} {ds:List Deferred} {X:Cx} {h:HF} {L:LH} {K:Env->HF->LH->Prop}
variable {d:Option Nat} {ty:TypeId} {pos:String} {af:Array Edge} {g:Option (Nat×Bool)}
theorem IF(A G Q_z:LH){xs ys:List Int}{base:Option Addr}{cap:Nat}{f:FuncId}{ass:Array Operand}{ats:Array TypeId}{vs:List Value}(hc:∀args w,(callFunc f args).run P w=.ok (.enter f args) w)(hG:dA zC 3 h xs base cap G)(hL:L=A++(G++Q_z))(hs:∀h1,h.le h1->SlC zC h1 base cap xs->QY P f vs h1 zC 3 ys)(hvs:ass.toList.map e.ev=vs)(t':∀bb c G',dA zC 3 h ys bb c G'->K (pute e d (.slice bb ys.length c)) h (L++G'))(hg:guardB ops e ⟨d,.call ⟨.value (.func f),ass,ats⟩,ty,pos,af,g⟩=true:=by rfl):
  Stp P b n ops F ds X ⟨d,.call ⟨.value (.func f),ass,ats⟩,ty,pos,af,g⟩ e h L K:=by
 unfold Stp
 rw[if_pos hg]
 intro w hw
 have harr:ass.map e.ev=vs.toArray:=Array.ext' (by simp[←hvs])
 have hr:(execOp e.ev ⟨d,.call ⟨.value (.func f),ass,ats⟩,ty,pos,af,g⟩).run P w=.ok (.enter f vs.toArray) w:=by
  simp[execOp,resolve,Env.ev,Deferred.ofValue,invoke,harr,hc]
 rw[hr]
 have back:∀(h1:HF),h.le h1->(∀bk o,h1 bk=some o->w.heap[bk]? = some o)->SlC zC h1 base cap xs->uJ P b n ops F ds X ⟨d,.call ⟨.value (.func f),ass,ats⟩,ty,pos,af,g⟩ e K (.ok (.enter f vs.toArray) w):=by
  intro h1 hle himm hsl
  have hp1:Pre h1 [] w:=⟨himm,λ_ hp=>(jA hp).elim,List.nodup_nil,λ_ hp=>(jA hp).elim⟩
  refine lj (by simp) (ji (pT.mono (hs h1 hle hsl w hp1) ?_))
  rintro x w' ⟨h',B,hst,rfl,bb,c,rfl,hG'⟩
  have hnew:∀p∈B,w.heap.size<=p.1:=λp hp=>(hst.new p hp).elim id (λhq=>by simp at hq)
  refine⟨h,L++B,⟨hst.os.trans hw.os,hst.tape.trans hw.tape,hst.output.trans hw.output,jP hw.size hst.size,λb' hb' hM=>?_,hw.le,hw.old,λb' o hb'=>?_,λp hp=>?_,?_,λp hp=>?_,λp hp=>?_⟩,t' bb c B hG'.anyI⟩
  .rw[hst.keep b' (Nat.lt_of_lt_of_le hb' hw.size) (by simp)];exact hw.keep b' hb' hM
  .rw[hst.keep b' (fD (hw.imm b' o hb')) (by simp)];exact hw.imm b' o hb'
  .rcases xH.1 hp with hp|hp
   .rw[hst.keep p.1 (fD (hw.own p hp)) (by simp)];exact hw.own p hp
   exact hst.own p hp
  .rw[List.map_append,List.nodup_append]
   refine⟨hw.dis,hst.dis,λx hx y hy hxy=>?_⟩
   obtain⟨p,hp,rfl⟩:=kJ.1 hx
   obtain⟨q,hq,rfl⟩:=kJ.1 hy
   have:=fD (hw.own p hp)
   have:=hnew q hq
   omega
  .rcases xH.1 hp with hp|hp
   .exact hw.free p hp
   cases hh:h p.1 with
   |none=>rfl
   |some o=>have:=fD (hw.imm _ _ hh);have:=hnew p hp;omega
  rcases xH.1 hp with hp|hp
  .exact hw.new p hp
  exact .inl (jP hw.size (hnew p hp))
 rcases hG with⟨rfl,rfl,rfl,rfl⟩|⟨bk,cl,sp,rfl,hcl,h3,h4,h5,rfl⟩
 .exact back h lf hw.imm zF
 have hmem:(bk,O (cl++sp) 3)∈L:=by rw[hL];simp
 have hle:h.le (h.add bk (.cells (cl++sp).toArray 3 (0,0))):=HF.zt (hw.free _ hmem)
 refine back _ hle (λk o hk=>?_) ⟨bP.slB (hcl.mono zH hle) (HF.uH _ _ _) h5,h4⟩
 unfold HF.add at hk
 by_cases e0:k=bk
 .subst e0;simp at hk;subst hk;exact hw.own _ hmem
 rw[if_neg e0]at hk;exact hw.imm k o hk
end callGB
structure H9(h:HF)(q:aD)(mq:gK)(person at_:Int)(help:List Int)(hb:Option Addr)(hc:Nat)(q3 q4 q5 q6 q7:Addr)(bw:Nat):Prop where
 hq:aD.ok h q mq
 a3:At h q3 [I person]
 a4:At h q4 (aD.cells q mq)
 a5:At h q5 [I at_]
 a6:At h q6 [.slice hb help.length hc]
 a7:At h q7 [.func (.func 36) #[] #[.pointer (some ⟨bw,0,none⟩),.pointer (some q3),.pointer (some q4),.pointer (some q5),.pointer (some q6),.pointer (some q7)]]
 hh:SlC zC h hb hc help
 kk:Kinds h
 sm:smR q.Register
 ov:okV q.Register.Versions
 od:(0<=q.doc.At/\q.doc.At<=1099511627776)/\0<=q.doc.Kind
 le:help.length<=12
@[reducible] def needClo (q3 q4 q5 q6 q7:Addr) (bw:Nat):List Value:=[.pointer (some ⟨bw,0,none⟩),.pointer (some q3),.pointer (some q4),.pointer (some q5),.pointer (some q6),.pointer (some q7)]
@[reducible] def needCell (bw:Nat) (b:Option Addr) (n c:Nat):Nat×Obj:=(bw,.cells [Value.slice b n c].toArray 31 (0,0))
@[reducible] def needR (h:HF) (bw:Nat) (ws:List Int) (r:Option (List Int)):Ending->HF->LH->Prop:=λx h' B=>h'=h/\x=.returned (.bool r.isSome)/\∃rb rc G',dA zC 3 h (r.getD ws) rb rc G'/\B=needCell bw rb (r.getD ws).length rc::G'
theorem JT{h:HF}{q:aD}{mq:gK}{person at_:Int}{help:List Int}{hb:Option Addr}{hc:Nat}{q3 q4 q5 q6 q7:Addr}{bw:Nat}(N:H9 h q mq person at_ help hb hc q3 q4 q5 q6 q7 bw)(fr:Nat)(ws:List Int)(wb:Option Addr)(wc:Nat)(G:LH)(hG:dA zC 3 h ws wb wc G)(hws:ws.length<=100):
  nL prog 36 ([xB .i64 (fr:Nat),xB .i64 ((0:Nat):Int)]++needClo q3 q4 q5 q6 q7 bw).toArray h (needCell bw wb ws.length wc::G) (needR h bw ws (tryP (needC q person at_) help 0 fr ws)):=by
 refine cD KT U ntmps36 U λX hM hX=>qT 8 U (iq (v':=.bool true) U U (qO 2 U ?_))
 refine dJ (He (ι:=Nat×Option Addr×Nat×LH) (λi=>[(2,.pointer (some ⟨bw,0,none⟩)),(4,.pointer (some q4)),(5,.pointer (some q5)),(11,.slice i.2.1 (ws++[person]).length i.2.2.1)])
  (λi=>((i.1,.cells [xB .i64 person].toArray 3 (0,0))::needCell bw wb ws.length wc::G)++i.2.2.2) (λi=>dA zC 3 h (ws++[person]) i.2.1 i.2.2.1 i.2.2.2) ?_ (λhk=>?_))
 .rintro⟨bs,bb,c,G2⟩ hG2 e
  dsimp only at hG2
  refine qT 3 U (aw (my ((bs,.cells [xB .i64 person].toArray 3 (0,0))::needCell bw wb ws.length wc::G) G2 [] KY (lH h _ bb c G2 hG2 (by rw[kA,zA,vB];omega)) (by simp) U (λG3 hG3=>qO 3 U (dl ty79 N.a4 U U (ao (de ty3 N.a5 U ?_))))))
  refine aw (AB (v:=.bool (needC q person at_ ws)) ((bs,.cells [xB .i64 person].toArray 3 (0,0))::needCell bw wb ws.length wc::G) G3 [] call33 zH hG3 U
   (λh1 hle hsl=>pB h1 q mq _ _ _ at_ (N.hq.mono hle) hsl N.sm N.ov N.od (by rw[gP,kA,zA,vB];omega) (N.kk.mono hle)) (by rw[gP];rfl) ?_)
  refine an ?_
  have e1:tryP (needC q person at_) help 0 fr ws=bif needC q person at_ ws then some ws else none:=rfl
  refine m9 KT (λa ha w hw=>res1 U a ha w) (λw hw=>(hw.sub (L':=needCell bw wb ws.length wc::G) js).lower) ⟨hX,?_,wb,wc,G,?_,?_⟩
  .rw[e1];cases needC q person at_ ws<;>rfl
  .rw[e1];cases needC q person at_ ws<;>exact hG
  rw[e1];cases needC q person at_ ws<;>rfl
 refine(eQ [needCell bw wb ws.length wc] mixed kr ⟨jH _,λp hp=>by rw[xC.1 hp];exact zB ..⟩ (λhsep hj0=>jk 0 hsep hj0 U U kr U (rj 0 ty31 U U U) (jk 2 hsep hj0 U U kr U (rh ty3 N.a3 U) ?_)))
 refine mO 1 3 kr U U ?_ ?_
 .refine IF [needCell bw wb ws.length wc] G [] call37 hG (by simp) (λh1 hle hsl=>nW h1 ws wb wc hsl ob) U (λbb c G2 hG2=>⟨⟨jH _,λp hp=>by rw[xC.1 hp];exact zB ..⟩,tn 3 U (bB (cells:=[I person]) eG ty3 zc3 U U kr (λbs=>⟨⟨jH _,λp hp=>by rw[xC.1 hp];exact vA _ (zB ..)⟩,?_⟩))⟩)
  refine tn 4 U (eo Rp.kZ ((bs,.cells [xB .i64 person].toArray 3 (0,0))::needCell bw wb ws.length wc::G) [] (λG'=>((bs,.cells [xB .i64 person].toArray 3 (0,0))::needCell bw wb ws.length wc::G)++([]++G')) (by simp) (λ_=>U) eG ty3 zc3 U bytes3 hG2 U U
   (fd 0 rfl (show bP zC h [I person] [person]from⟨[I person],[],rfl,rfl,rfl,rfl⟩)) lo lo (λbb3 c3 G3 hG3=>?_))
  exact⟨⟨jH _,λp hp=>by rw[xC.1 hp];simp⟩,tn 5 U (ff IP (⟨⟨jH _,λp hp=>by rw[xC.1 hp];simp⟩,aN kr (hk (bs,bb3,c3,G3) _ hG3 rd)⟩))⟩
 refine bB (cells:=[I person]) eG ty3 zc3 U U kr (λbs=>⟨⟨jH _,λp hp=>by rw[xC.1 hp];exact vA _ (zB ..)⟩,tn 1 U (IF [(bs,.cells [xB .i64 person].toArray 3 (0,0)),needCell bw wb ws.length wc] G [] call37 hG (by simp) (λh1 hle hsl=>nW h1 ws wb wc hsl ob) U (λbb c G2 hG2=>⟨⟨jH _,λp hp=>by rw[xC.1 hp];exact vA _ (zB ..)⟩,?_⟩))⟩)
 refine tn 4 U (eo Rp.kZ ((bs,.cells [xB .i64 person].toArray 3 (0,0))::needCell bw wb ws.length wc::G) [] (λG'=>((bs,.cells [xB .i64 person].toArray 3 (0,0))::needCell bw wb ws.length wc::G)++([]++G')) (by simp) (λ_=>U) eG ty3 zc3 U bytes3 hG2 U U
  (fd 0 rfl (show bP zC h [I person] [person]from⟨[I person],[],rfl,rfl,rfl,rfl⟩)) lo lo (λbb3 c3 G3 hG3=>?_))
 exact⟨⟨jH _,λp hp=>by rw[xC.1 hp];simp⟩,tn 5 U (ff IP (⟨⟨jH _,λp hp=>by rw[xC.1 hp];simp⟩,aN kr (hk (bs,bb3,c3,G3) _ hG3 rd)⟩))⟩
theorem Mf(c:List Int->Bool)(help:List Int)(m i:Nat)(ws:List Int)(hi:i+(m+1)<=help.length):
  (List.range' i (help.length-m-i)).findSome? (λi=>tryP c help m (i+1) (ws++[nthI help (i:Int)])) =
   match tryP c help m (i+1) (ws++[nthI help (i:Int)])with
   |some r=>some r
   |none=>(List.range' (i+1) (help.length-m-(i+1))).findSome? λi=>tryP c help m (i+1) (ws++[nthI help (i:Int)]):=by
 rw[show help.length-m-i=(help.length-m-(i+1))+1 from by omega,List.range'_succ,List.findSome?_cons]
 cases tryP c help m (i+1) (ws++[nthI help (i:Int)])<;>rfl
theorem Fu{h:HF}{q:aD}{mq:gK}{person at_:Int}{help:List Int}{hb:Option Addr}{hc:Nat}{q3 q4 q5 q6 q7:Addr}{bw:Nat}(N:H9 h q mq person at_ help hb hc q3 q4 q5 q6 q7 bw):
  ∀(m fr:Nat)(ws:List Int)(wb:Option Addr)(wc:Nat)(G:LH),dA zC 3 h ws wb wc G->ws.length+m<=100->fr<=100 ->
  nL prog 36 ([xB .i64 (fr:Nat),xB .i64 (m:Int)]++needClo q3 q4 q5 q6 q7 bw).toArray h (needCell bw wb ws.length wc::G) (needR h bw ws (tryP (needC q person at_) help m fr ws))
 |0,fr,ws,wb,wc,G,hG,hws,_=>JT N fr ws wb wc G hG ob
 |m+1,fr,ws,wb,wc,G,hG,hws,hfr=>by
  have hle:=N.le
  refine cD KT U ntmps36 U λX hM hX=>qT 8 U (iq (v':=.bool false) U (by show Value.bool _=_;congr 1) (qO 9 U ?_))
  refine iA (ι:=Option Addr×Nat×LH) (λi=>[]) (λi=>h) (λi=>needCell bw i.1 ws.length i.2.1::i.2.2)
   (λi=>tryP (needC q person at_) help (m+1) fr ws=none/\dA zC 3 h ws i.1 i.2.1 i.2.2) ?_ (λhx=>?_)
  .rintro⟨b1,c1,G1⟩ ⟨h1,h2⟩ e
   dsimp only at h1 h2
   refine qT 4 U ?_
   refine m9 KT (λa ha w hw=>res1 U a ha w) (λw hw=>hw.lower) ⟨hX,?_,b1,c1,G1,?_,?_⟩
   .rw[h1];rfl
   .rw[h1];exact h2
   rw[h1];rfl
  refine kl (ι:=Nat×Option Addr×Nat×LH) (λi=>[(1,I ((m+1:Nat):Int)),(2,.pointer (some ⟨bw,0,none⟩)),(3,.pointer (some q3)),(4,.pointer (some q4)),(5,.pointer (some q5)),(6,.pointer (some q6)),(7,.pointer (some q7)),(12,I (i.1:Int))]) (λi=>h) (λi=>needCell bw i.2.1 ws.length i.2.2.1::i.2.2.2)
   (λi=>i.1<=100/\tryP (needC q person at_) help (m+1) fr ws=(List.range' i.1 (help.length-m-i.1)).findSome? (λi=>tryP (needC q person at_) help m (i+1) (ws++[nthI help (i:Int)]))/\dA zC 3 h ws i.2.1 i.2.2.1 i.2.2.2)
   (λi=>101-i.1) (fr,wb,wc,G) rd (λw hw=>hw) ⟨hfr,rfl,hG⟩ ?_
  rintro⟨i,b1,c1,G1⟩ ⟨hi,ht,hG1⟩ ag e
  dsimp only at hi ht hG1
  refine qT 5 U (iq (v':=I ((i+(m+1):Nat):Int)) U (jc ob) (de ty31 N.a6 U (qL 1 [] U ?_)))
  rcases vK help.length (i+(m+1))with hlt|hge
  .refine fO (decide_eq_false ob) U (qO 3 U (hx (b1,c1,G1) _ ⟨?_,hG1⟩ trivial))
   rw[ht,show help.length-m-i=0 from by omega];rfl
  refine tO (decide_eq_true ob) U (qO 3 U ?_)
  have hz:0<=(i:Int)/\(i:Int)<(help.length:Int):=by omega
  rw[Mf _ _ _ _ _ hge]at ht
  refine qT 2 U ?_
  refine dJ (He (ι:=Option Addr×Nat×LH) (λi'=>[(1,I ((m+1:Nat):Int)),(2,.pointer (some ⟨bw,0,none⟩)),(3,.pointer (some q3)),(4,.pointer (some q4)),(5,.pointer (some q5)),(6,.pointer (some q6)),(7,.pointer (some q7)),(12,I (i:Int))])
   (λi'=>needCell bw i'.1 (ws++[nthI help (i:Int)]).length i'.2.1::i'.2.2) (λi'=>dA zC 3 h (ws++[nthI help (i:Int)]) i'.1 i'.2.1 i'.2.2) ?_ (λhk=>?_))
  .rintro⟨b2,c2,G2⟩ hG2 e
   dsimp only at hG2
   refine qT 3 U (de ty98 N.a7 U (ao (oi i U (ao (iq (v':=I (m:Int)) U (by rw[jc ob];congr 1;omega) (aw (uo [] (needCell bw b2 (ws++[nthI help (i:Int)]).length c2::G2) U (lV (args:=[xB .i64 ((i+1:Nat):Int),xB .i64 (m:Int)]) (cap:=needClo q3 q4 q5 q6 q7 bw) call36 (Fu N m (i+1) (ws++[nthI help (i:Int)]) b2 c2 G2 hG2 (by rw[kA,zA,vB];omega) ob)) U U (λv h' B hl hR=>?_) (λch h' B hl hR=>by cases hR.2.1))))))))
   obtain⟨rfl,hv,b3,c3,G3,hG3,rfl⟩:=hR
   cases hv
   rw[zG]
   cases hr:tryP (needC q person at_) help m (i+1) (ws++[nthI help (i:Int)])with
   |some r=>
    rw[hr]at hG3 ht
    dsimp only[Option.getD]at hG3
    refine qO 6 U ?_
    refine m9 KT (λa ha w hw=>res1 U a ha w) (λw hw=>hw.lower) ⟨hX,?_,b3,c3,G3,?_,?_⟩
    .rw[ht];rfl
    .rw[ht];exact hG3
    rw[ht];rfl
   |none=>
    rw[hr]at hG3 ht
    dsimp only[Option.getD]at hG3
    refine qO 3 U ?_
    have hlen:(ws++[nthI help (i:Int)]).length=ws.length+1:=by simp
    have htk:(ws++[nthI help (i:Int)]).take (ws.length:Int).toNat=ws:=by simp
    refine qK 4 [0,0] U (iq (v':=I (ws.length:Int)) U (by dsimp only[Option.getD];rw[jc ob];congr 1;omega) (aw (DZ (z:=(ws.length:Int)) eG ty3 hG3 ob U U U ?_)))
    have hG4:=hG3.take (ws.length:Int).toNat
    rw[htk]at hG4 ⊢
    exact cB 0 ty31 U U U U U U (qO 4 U (oi i U (an (ag (i+1,b3,c3,G3) _ (by show 101-(i+1)<101-i;omega) ⟨by show i+1<=100;omega,ht,hG4⟩ rd))))
  refine eQ [] mixed kr ⟨jH _,λp hp=>(jA hp).elim⟩ (λhsep hj0=>?_)
  refine jk 1 hsep hj0 U U kr U (rh ty31 N.a6 U) (jk 2 hsep hj0 U U kr U (λ_ _ _=>mV) (fF 3 (R:=zC) (enc:=λx=>[xB .i64 x]) hsep hj0 (λ_ _ _ hr=>hr) eG ty3 N.hh.1 hz (dy hz) U U U U kr (λqa A5=>jk 4 hsep hj0 U U kr U (rh ty3 A5 U) ?_)))
  refine mO 0 5 kr U U ?_ ?_
  .refine ff (wO ty31 U (zB ..) U) (⟨⟨jH _,λp hp=>(jA hp).elim⟩,tn 5 U (bB (cells:=[I (nthI help (i:Int))]) eG ty3 zc3 U U kr (λbs=>⟨⟨jH _,λp hp=>(jA hp).elim⟩,?_⟩))⟩)
   refine tn 6 U (eo Rp.kZ [(bs,.cells [xB .i64 (nthI help (i:Int))].toArray 3 (0,0)),needCell bw b1 ws.length c1] [] (λG'=>[(bs,.cells [xB .i64 (nthI help (i:Int))].toArray 3 (0,0)),needCell bw b1 ws.length c1]++([]++G')) (by simp) (λ_=>U) eG ty3 zc3 U bytes3 hG1 U U
    (fd 0 rfl (show bP zC h [I (nthI help (i:Int))] [nthI help (i:Int)]from⟨[I (nthI help (i:Int))],[],rfl,rfl,rfl,rfl⟩)) lo lo (λb3 c3 G3 hG3=>?_))
   exact⟨⟨jH _,λp hp=>(jA hp).elim⟩,tn 7 U (kO 1 ty31 U U U U U U (⟨⟨jH _,λp hp=>(jA hp).elim⟩,aN kr (bj (L':=needCell bw b3 (ws++[nthI help (i:Int)]).length c3::G3) js (hk (b3,c3,G3) _ hG3 rd))⟩))⟩
  refine bB (cells:=[I (nthI help (i:Int))]) eG ty3 zc3 U U kr (λbs=>⟨⟨jH _,λp hp=>(jA hp).elim⟩,tn 0 U (ff (wO ty31 U (vA _ (zB ..)) U) (⟨⟨jH _,λp hp=>(jA hp).elim⟩,?_⟩))⟩)
  refine tn 6 U (eo Rp.kZ [(bs,.cells [xB .i64 (nthI help (i:Int))].toArray 3 (0,0)),needCell bw b1 ws.length c1] [] (λG'=>[(bs,.cells [xB .i64 (nthI help (i:Int))].toArray 3 (0,0)),needCell bw b1 ws.length c1]++([]++G')) (by simp) (λ_=>U) eG ty3 zc3 U bytes3 hG1 U U
   (fd 0 rfl (show bP zC h [I (nthI help (i:Int))] [nthI help (i:Int)]from⟨[I (nthI help (i:Int))],[],rfl,rfl,rfl,rfl⟩)) lo lo (λb3 c3 G3 hG3=>?_))
  exact⟨⟨jH _,λp hp=>(jA hp).elim⟩,tn 7 U (kO 1 ty31 U U U U U U (⟨⟨jH _,λp hp=>(jA hp).elim⟩,aN kr (bj (L':=needCell bw b3 (ws++[nthI help (i:Int)]).length c3::G3) js (hk (b3,c3,G3) _ hG3 rd))⟩))⟩
theorem nK(h:HF)(bG:Register)(dW:eN)(doc:Int)(person:Int)(fa:Int)(known:Int)(kW:qP h bG dW)(hsm:smR bG)(hk:Kinds h):
  jY prog 10 [.agg (jF bG dW).toArray,I doc,I person,I fa,I known] h (λv h'=>∃(rb0:Option Addr)(rc0:Nat),v=.tuple #[.slice rb0 ((iS bG doc person fa known).1).length rc0,.bool ((iS bG doc person fa known).2.1),I ((iS bG doc person fa known).2.2)]/\SlC zC h' rb0 rc0 ((iS bG doc person fa known).1)):=by
 refine cD Ik U ntmps10 U λX hM hX=>sr (ct (λb5=>ct (λb7=>ct (λb8=>aU zc31 (λb10=>qO 6 U (cI 3 ty30 U U U (ai (v:=I (et bG)) call19 (sB h bG dW kW hsm hk) U (qO 2 U (jf U (λc1=>?_) (λc1=>?_))))))))))
 .have e1:iS bG doc person fa known=([],false,300):=by unfold iS;rw[c1];rfl
  rw[e1]
  exact sr (cB 0 ty31 U U U U U U (qO 3 U (il [.slice none 0 0,.bool false,I 300] Ik U ⟨⟨0,_,_,_,_,U,U,.inr ⟨_,ty31,U⟩⟩,U,U,trivial⟩ ⟨none,0,U,zF⟩)))
 refine qT 3 U (cI 3 ty30 U U U (qO 2 U (aw (cJ call30 (C6 h bG dW doc known kW) U (λv1 h1 hle1 hp1=>?_)))))
 obtain⟨rr1,rfl,ok1⟩:=hp1
 refine qO 3 U (aU zc79 (λb13=>aR 0 ty79 U U U U U U (qO 8 U ?_)))
 refine tq 3 [(7,Q b7),(8,Q b8),(10,Q b10),(13,Q b13),(32,.bool ((!((dx bG doc known).2))||decide (person<0)))] (λhk1=>?_) (λe=>?_)
 .refine nq 29 U (λc2=>?_) (λc2=>?_)
  .exact kq (eM U (hk1 _ ⟨U,U,U,U,(cb (Qu c2)),trivial⟩))
  exact qL 3 [3] U (hk1 _ ⟨U,U,U,U,(cb (Qv c2)),trivial⟩)
 refine ao ?_
 refine tq 3 [(7,Q b7),(8,Q b8),(10,Q b10),(13,Q b13),(36,.bool (((!((dx bG doc known).2))||decide (person<0))||decide (64<=person)))] (λhk1=>?_) (λe=>?_)
 .refine nq 33 U (λc2=>?_) (λc2=>?_)
  .exact kq (eM U (hk1 _ ⟨U,U,U,U,(cb (Qu c2)),trivial⟩))
  exact qL 3 [3] U (hk1 _ ⟨U,U,U,U,(cb (Qv c2)),trivial⟩)
 refine ao ?_
 refine tq 4 [(7,Q b7),(8,Q b8),(10,Q b10),(13,Q b13),(41,.bool ((((!((dx bG doc known).2))||decide (person<0))||decide (64<=person))||(!(mH fa))))] (λhk1=>?_) (λe=>?_)
 .refine nq 37 U (λc2=>?_) (λc2=>?_)
  .exact kq (qO 2 U (hk1 _ ⟨U,U,U,U,(cb (Qu c2)),trivial⟩))
  exact qL 1 [2] U (ai (v:=.bool (mH fa)) call34 (Bq h1 fa) U (qO 2 U (hk1 _ ⟨U,U,U,U,(cb (Qv c2)),trivial⟩)))
 refine aH (jf U (λc3=>?_) (λc3=>?_))
 .have e1:iS bG doc person fa known=([],false,1):=by unfold iS;rw[c1,c3];rfl
  rw[e1]
  exact sr (cB 1 ty31 U U U U U U (qO 3 U (il [.slice none 0 0,.bool false,I 1] Ik U ⟨⟨1,_,_,_,_,U,U,.inr ⟨_,ty31,U⟩⟩,U,U,trivial⟩ ⟨none,0,U,zF⟩)))
 have a_:=asked (r:=bG) (doc:=doc) (known:=known) (by simpa using c1) (by simp only[Bool.or_eq_false_iff,Bool.not_eq_false']at c3;exact c3.1.1.1)
 have hsm2:smR (dx bG doc known).1.Register:=by rw[a_.reg];exact hsm
 have hov2:okV (dx bG doc known).1.Register.Versions:=by rw[a_.reg];exact a_.vers.okV
 have hod2:(0<=(dx bG doc known).1.doc.At/\(dx bG doc known).1.doc.At<=1099511627776)/\0<=(dx bG doc known).1.doc.Kind:=⟨⟨a_.doc.at_.1,Int.le_of_lt a_.doc.at_.2⟩,a_.doc.kind.1⟩
 have e0:iS bG doc person fa known=bif decide (12<((bp (dx bG doc known).1 person fa).length:Int))then(([],false,2):List Int×Bool×Int)
   else match needLoop (needC (dx bG doc known).1 person fa) (bp (dx bG doc known).1 person fa)with
    |some l=>((l,true,0):List Int×Bool×Int)
    |none=>([],false,0):=by unfold iS;rw[c1,c3];rfl
 rw[e0]
 generalize (dx bG doc known).1=q at *
 refine qT 3 U (cI 0 ty79 U U U (qL 2 [3,2] U (aw (cJ call35 (wl h1 q rr1 person fa ok1 hsm2 hov2 hod2 (hk.mono hle1)) U (λv2 h2 hle2 hp2=>?_)))))
 obtain⟨hb,hc,rfl,slh⟩:=hp2
 generalize bp q person fa=help at *
 refine aU zc31 (λb14=>cB 0 ty31 U U U U U U (qL 8 [0] U (jf U (λc4=>?_) (λc4=>?_))))
 .rw[show decide (12<(help.length:Int))=true from c4,cond_true]
  exact sr (cB 2 ty31 U U U U U U (qO 3 U (il [.slice none 0 0,.bool false,I 2] Ik U ⟨⟨2,_,_,_,_,U,U,.inr ⟨_,ty31,U⟩⟩,U,U,trivial⟩ ⟨none,0,U,zF⟩)))
 rw[show decide (12<(help.length:Int))=false from c4,cond_false]
 have hlen:help.length<=12:=by have:=of_decide_eq_false c4;omega
 refine qT 3 U (aU zc98 (λb15=>qO 3 U (aw (dS U U (cB 0 ty98 U U U U U U (aH (eO 0 U hM (λh3 l3 f15=>eO 0 U hM (λh4 l4 f14=>eO 0 U hM (λh5 l5 f13=>eO 1 U hM (λh6 l6 f8=>eO 1 U hM (λh7 l7 f7=>?_))))))))))))
 have l27:h2.le h7:=HF.le_trans l3 (l4.t (l5.t (l6.t l7)))
 have N:H9 h7 q rr1 person fa help hb hc ⟨b7,0,none⟩ ⟨b13,0,none⟩ ⟨b8,0,none⟩ ⟨b14,0,none⟩ ⟨b15,0,none⟩ b10:=
  ⟨ok1.mono (hle2.t l27),bI f7,(bI f13).mono (l6.t l7),(bI f8).mono l7,(bI f14).mono (l5.t (l6.t l7)),
   (bI f15).mono (l4.t (l5.t (l6.t l7))),slh.mono zH l27,hk.mono (hle1.t (hle2.t l27)),hsm2,hov2,hod2,hlen⟩
 refine bj (L':=[needCell b10 none 0 0]) js (qT 3 U (de ty31 N.a6 U (qL 1 [] U (iq (v':=I ((help.length+1:Nat):Int)) U (Ab ob) (qO 2 U ?_)))))
 refine iA (ι:=Option Addr×Nat×LH) (λi=>[(10,Q b10)]) (λi=>h7) (λi=>needCell b10 i.1 0 i.2.1::i.2.2) (λi=>needLoop (needC q person fa) help=none) ?_ (λhx=>?_)
 .rintro⟨b1,c1,G1⟩ h1 e
  rw[show needLoop (needC q person fa) help=none from h1]
  exact sr (cB 0 ty31 U U U U U U (qO 3 U (il [.slice none 0 0,.bool false,I 0] Ik U ⟨⟨0,_,_,_,_,U,U,.inr ⟨_,ty31,U⟩⟩,U,U,trivial⟩ ⟨none,0,U,zF⟩)))
 refine kl (ι:=Nat×Option Addr×Nat×LH) (λi=>[(10,Q b10),(15,Q b15),(52,I ((help.length+1:Nat):Int)),(53,I (i.1:Int))]) (λi=>h7) (λi=>needCell b10 i.2.1 0 i.2.2.1::i.2.2.2)
  (λi=>i.1<=help.length+1/\needLoop (needC q person fa) help=(List.range' i.1 (help.length+1-i.1)).findSome? (λmany=>tryP (needC q person fa) help many 0 [])/\dA zC 3 h7 [] i.2.1 i.2.2.1 i.2.2.2)
  (λi=>help.length+1-i.1) (0,none,0,[]) rd (λw hw=>hw) ⟨vM _,rfl,dA.nil⟩ ?_
 rintro⟨i,b1,c1,G1⟩ ⟨hi,ht,hG1⟩ ag e
 dsimp only at hi ht hG1
 rcases vK i (help.length+1)with hlt|hge
 .refine sr (tO (decide_eq_true ob) U (qO 13 U (de ty98 N.a7 U (ao (aw (uo [] (needCell b10 b1 0 c1::G1) U (lV (args:=[xB .i64 ((0:Nat):Int),xB .i64 (i:Int)]) (cap:=needClo ⟨b7,0,none⟩ ⟨b13,0,none⟩ ⟨b8,0,none⟩ ⟨b14,0,none⟩ ⟨b15,0,none⟩ b10) call36 (Fu N i 0 [] b1 c1 G1 hG1 (by rw[vB];omega) ob)) U U (λv h' B hl hR=>?_) (λch h' B hl hR=>by cases hR.2.1)))))))
  obtain⟨rfl,hv,b3,c3,G3,hG3,rfl⟩:=hR
  cases hv
  rw[zG]
  rw[show help.length+1-i=(help.length+1-(i+1))+1 from by omega,List.range'_succ,List.findSome?_cons]at ht
  cases hr:tryP (needC q person fa) help i 0 []with
  |some r=>
   rw[hr]at hG3 ht
   dsimp only[Option.getD]at hG3
   rw[ht]
   exact qL 5 [0] U (cB 0 ty31 U U U U U U (qO 3 U (fW zH [needCell b10 b3 r.length c3] G3 [] (by rw[List.append_nil];rfl) hM hG3 (λh9 l9 sl9=>il [.slice b3 r.length c3,.bool true,I 0] Ik U ⟨⟨0,_,_,_,_,U,U,.inr ⟨_,ty31,U⟩⟩,U,U,trivial⟩ ⟨b3,c3,U,sl9⟩))))
  |none=>
   rw[hr]at hG3 ht
   dsimp only[Option.getD]at hG3
   exact aH (qT 4 U (oi i U (qO 2 U (ag (i+1,b3,c3,G3) _ (by show help.length+1-(i+1)<help.length+1-i;omega) ⟨hlt,ht,hG3⟩ rd))))
 have hie:i=help.length+1:=by omega
 subst hie
 refine sr (fO (decide_eq_false ob) U (qO 4 U (hx (b1,c1,G1) _ ?_ rd)))
 show needLoop _ _=none
 rw[ht];simp
theorem zf(h:HF)(a:List Span)(QW:Option Addr)(QV:Nat)(ku:List Span)(Fl:Option Addr)(Fk:Nat)(ha:SlC Te h QW QV a)(yB:SlC Te h Fl Fk ku):Ret prog 39 [.slice QW a.length QV,.slice Fl ku.length Fk] h (.bool (gR a ku)):=by
 refine sT func39 U ntmps39 U λX hM hX hF=>?_
 have hs0:=@rfl _ (gR a ku)
 refine qK 13 [] U (ae hs0 U (λc1 hs1=>?_) (λc1 hs2=>?_))
 .exact sr (an (nretP [.bool false] (cs hs1)))
 refine qT 6 U ?_
 refine lp0 a (λi=>[(0,.slice QW a.length QV),(1,.slice Fl ku.length Fk),(5,I (i:Int))]) ([]) (λs1 i=>(gR.L1 ku (gR.K1)) s1 i) ha.1.1 hs2 ?_ ?_ ?_
 .rintro i1 fB hs4 e
  exact sr (an (nretP [.bool true] (cs hs4)))
 .rintro i1 y1 rz1 hd1 du bo eA gD hs6 hx1 ag1 e
  refine qK 6 [] U (tO du U (qO 6 U (eQ ([]) mixed kr jn (λeF _=>qA [0,1] U (fF 2 (enc:=Sk) eF jn ei Ak ty51 ha.1 (nthZ bo) (fV bo) U U U U kr (λq3 A3=>tf 3 U U (λ_ _ hj=>kU ty51 (A3.mono hj.1) U U) (qA [4,5] U ?_)))))))
  have ho2:0<=((i1:Int):Int)/\((i1:Int):Int)<((ku).length:Int):=ob
  refine fF 6 (enc:=Sk) eF jn ei Ak ty51 yB.1 ho2 (dy ho2) U U U U kr (λq4 A4=>tf 7 U U (λ_ _ hj=>kU ty51 (A4.mono hj.1) U U) (tf 8 U U (λ_ _ _=>Q2 (OD y1 (nthI ku (i1:Int))) eqg51 U U) (aN kr (ae hs6 U (λc3 hs7=>?_) (λc3 hs8=>?_)))))
  .exact sr (an (nretP [.bool false] (cs hs7)))
  exact aQ (qT 3 U (oi i1 U (an (ag1 hs8))))
 rintro i1 hd1 iw hx e
 exact qK 6 [] U (fO iw U (qO 3 U (hx _ rd)))
theorem lM(h:HF)(bG:Register)(dW:eN)(known:Int)(who:List Int)(gF:Option Addr)(gE:Nat)(want:List Span)(MU:Option Addr)(MT:Nat)(kW:qP h bG dW)(hwho:SlC zC h gF gE who)(hwant:SlC Te h MU MT want)(hsm:smR bG)(hsw:who.length<=2000000)(hk:Kinds h):Ret prog 11 [.agg (jF bG dW).toArray,I known,.slice gF who.length gE,.slice MU want.length MT] h (.bool (CD bG known who want)):=by
 refine sT func11 U ntmps11 U λX hM hX hF=>?_
 have hs0:=@rfl _ (CD bG known who want)
 refine sr (ct (λb1=>qO 4 U (cI 0 ty30 U U U (qO 2 U (aw (cJ KS (ol _ _ _ 4 _ _ _ known kW hwho ob ob hk) U (λv1 h1 hle1 hp1=>?_)))))))
 obtain⟨rb1,rc1,rfl,sl1⟩:=hp1
 refine qO 11 U (bD 4 [20,21,22,23,24] 20 24 (gR ((eu bG 4 who known).1) want) U (λc1 hk1=>?_) (λe=>?_))
 .exact ao (ao (ai call39 (zf _ _ _ _ _ _ _ sl1 (hwant.mono TH hle1)) U (eM U (hk1 _ U))))
 exact an (nretP [.bool (((eu bG 4 who known).2==0)&&(gR ((eu bG 4 who known).1) want))] (cs hs0))
theorem FM(h:HF)(hk:Kinds h):Ret prog 4 [] h (.bool (u0)):=by
 refine sT func4 U ntmps4 U λX hM hX hF=>?_
 have hs0:=@rfl _ (u0)
 refine qT 6 U (aw (cJ call9 (w7 h) U (λv1 h1 hle1 hp1=>?_)))
 obtain⟨rr1,rfl,ok1⟩:=hp1
 refine aU zc30 (λb1=>aR 0 ty30 U U U U U U (qO 3 U (aw (eY (cells:=[.slice none 0 0,.slice none 0 0,.slice none 0 0,.slice none 0 0,.slice none 0 0,.slice none 0 0,.slice none 0 0]) (places:=[(0,1),(1,1),(2,1),(3,1),(4,1),(5,1),(6,1)]) Ld zc30 kr kr (aw (cJ KS (ol h1 (qQ ([]) ([]) ([]) ([]) ([]) ([]) ([])) (eN.mk none 0 none 0 none 0 none 0 none 0 none 0 none 0) 0 ([]) none 0 0 (show qP h1 (qQ ([]) ([]) ([]) ([]) ([]) ([]) ([])) (eN.mk none 0 none 0 none 0 none 0 none 0 none 0 none 0)from⟨zF,zF,zF,zF,zF,zF,zF⟩) zF oy ob (hk.mono hle1)) U (λv2 h2 hle2 hp2=>?_)))))))
 rw[show(eu (qQ ([]) ([]) ([]) ([]) ([]) ([]) ([])) 0 ([]) 0)=([],1)from by kernel_rfl]at hp2
 obtain⟨rb1,rc1,rfl,sl1⟩:=hp2
 refine qO 8 U (aw (eY (cells:=[.slice none 0 0,.slice none 0 0,.slice none 0 0,.slice none 0 0,.slice none 0 0,.slice none 0 0,.slice none 0 0]) (places:=[(0,1),(1,1),(2,1),(3,1),(4,1),(5,1),(6,1)]) Ld zc30 kr kr (aw (cJ KR (nK h2 (qQ ([]) ([]) ([]) ([]) ([]) ([]) ([])) (eN.mk none 0 none 0 none 0 none 0 none 0 none 0 none 0) 0 0 0 0 (show qP h2 (qQ ([]) ([]) ([]) ([]) ([]) ([]) ([])) (eN.mk none 0 none 0 none 0 none 0 none 0 none 0 none 0)from⟨zF,zF,zF,zF,zF,zF,zF⟩) oy (hk.mono (hle1.t hle2))) U (λv3 h3 hle3 hp3=>?_)))))
 rw[show(iS (qQ ([]) ([]) ([]) ([]) ([]) ([]) ([])) 0 0 0 0)=([],false,1)from by kernel_rfl]at hp3
 obtain⟨rb2,rc2,rfl,sl2⟩:=hp3
 refine qO 10 U (aw (eY (cells:=[I 0,I 0,I 0,I 0,I 0,I 0,.bool false]) (places:=[(0,1),(1,1),(2,1),(3,1),(4,1),(5,1),(6,1)]) Lc zc49 kr kr (aw (bB (cells:=[I 0,I 0,I 0,I 0,I 0,I 0,.bool false]) Cn ty49 zc49 U U kr (λb2=>aw (eY (cells:=[.slice (some ⟨b2,0,none⟩) 1 1,.slice none 0 0,.slice none 0 0,.slice none 0 0,.slice none 0 0,.slice none 0 0,.slice none 0 0]) (places:=[(0,1),(1,1),(2,1),(3,1),(4,1),(5,1),(6,1)]) Ld zc30 kr kr (aP 0 U hM (λh4 hle4 hb1=>?_))))))))
 have sl3:SlC kR h4 (some ⟨b2,0,none⟩) 1 ([(kF 0 0 0 0 0 0 false)]):=bP.slB0 (T:=49) (fz:=(0,0)) ((show bP kR h3 [I 0,I 0,I 0,I 0,I 0,I 0,.bool false] ([(kF 0 0 0 0 0 0 false)])from⟨[I 0,I 0,I 0,I 0,I 0,I 0,.bool false],[],rfl,rfl,rfl,rfl⟩).mono Se hle4) hb1
 refine aw (cJ KS (ol h4 (qQ ([(kF 0 0 0 0 0 0 false)]) ([]) ([]) ([]) ([]) ([]) ([])) (eN.mk (some ⟨b2,0,none⟩) 1 none 0 none 0 none 0 none 0 none 0 none 0) 0 ([]) none 0 0 (show qP h4 (qQ ([(kF 0 0 0 0 0 0 false)]) ([]) ([]) ([]) ([]) ([]) ([])) (eN.mk (some ⟨b2,0,none⟩) 1 none 0 none 0 none 0 none 0 none 0 none 0)from⟨sl3,zF,zF,zF,zF,zF,zF⟩) zF oy ob (hk.mono (((hle1.t hle2).t hle3).t hle4))) U (λv4 h5 hle5 hp4=>?_))
 rw[show(eu (qQ ([(kF 0 0 0 0 0 0 false)]) ([]) ([]) ([]) ([]) ([]) ([])) 0 ([]) 0)=([],300)from by kernel_rfl]at hp4
 obtain⟨rb3,rc3,rfl,sl4⟩:=hp4
 refine qO 8 U (cI 0 ty30 U U U (aw (bB (cells:=[I 2,I 1]) eG ty3 zc3 U U kr (λb3=>aP 0 U hM (λh6 hle6 hb2=>?_)))))
 have sl5:SlC zC h6 (some ⟨b3,0,none⟩) 2 ([2,1]):=bP.slB0 (T:=3) (fz:=(0,0)) ((show bP zC h5 [I 2,I 1] ([2,1])from⟨[I 2],[I 1],rfl,rfl,rfl,⟨[I 1],[],rfl,rfl,rfl,rfl⟩⟩).mono zH hle6) hb2
 refine aw (cJ KS (ol h6 bN rr1 4 ([2,1]) (some ⟨b3,0,none⟩) 2 0 (ok1.mono ((((hle2.t hle3).t hle4).t hle5).t hle6)) sl5 oy ob (hk.mono (((((hle1.t hle2).t hle3).t hle4).t hle5).t hle6))) U (λv5 h7 hle7 hp5=>?_))
 rw[show(eu bN 4 ([2,1]) 0)=([],1)from by kernel_rfl]at hp5
 obtain⟨rb4,rc4,rfl,sl6⟩:=hp5
 refine qO 8 U (cI 0 ty30 U U U (aw (cJ KR (nK h7 bN rr1 4 3 20 30 (ok1.mono (((((hle2.t hle3).t hle4).t hle5).t hle6).t hle7)) oy (hk.mono ((((((hle1.t hle2).t hle3).t hle4).t hle5).t hle6).t hle7))) U (λv6 h8 hle8 hp6=>?_))))
 rw[show(iS bN 4 3 20 30)=([1],true,0)from by kernel_rfl]at hp6
 obtain⟨rb5,rc5,rfl,sl7⟩:=hp6
 refine qO 10 U (cI 0 ty30 U U U (aw (cJ KR (nK h8 bN rr1 4 3 20 29 (ok1.mono ((((((hle2.t hle3).t hle4).t hle5).t hle6).t hle7).t hle8)) oy (hk.mono (((((((hle1.t hle2).t hle3).t hle4).t hle5).t hle6).t hle7).t hle8))) U (λv7 h9 hle9 hp7=>?_))))
 rw[show(iS bN 4 3 20 29)=([1,2],true,0)from by kernel_rfl]at hp7
 obtain⟨rb6,rc6,rfl,sl8⟩:=hp7
 refine qO 10 U (cI 0 ty30 U U U (aw (cJ KR (nK h9 bN rr1 4 1 14 30 (ok1.mono (((((((hle2.t hle3).t hle4).t hle5).t hle6).t hle7).t hle8).t hle9)) oy (hk.mono ((((((((hle1.t hle2).t hle3).t hle4).t hle5).t hle6).t hle7).t hle8).t hle9))) U (λv8 h10 hle10 hp8=>?_))))
 rw[show(iS bN 4 1 14 30)=([],false,0)from by kernel_rfl]at hp8
 obtain⟨rb7,rc7,rfl,sl9⟩:=hp8
 refine qO 10 U (cI 0 ty30 U U U (aw (cJ KR (nK h10 bN rr1 4 1 15 30 (ok1.mono ((((((((hle2.t hle3).t hle4).t hle5).t hle6).t hle7).t hle8).t hle9).t hle10)) oy (hk.mono (((((((((hle1.t hle2).t hle3).t hle4).t hle5).t hle6).t hle7).t hle8).t hle9).t hle10))) U (λv9 h11 hle11 hp9=>?_))))
 rw[show(iS bN 4 1 15 30)=([2],true,0)from by kernel_rfl]at hp9
 obtain⟨rb8,rc8,rfl,sl10⟩:=hp9
 refine qL 67 [] U ?_
 have ho1:0<=(0:Int)/\(0:Int)<(([1]).length:Int):=(by decide)
 refine aw (oY (enc:=λy=>[I y]) ei eG ty3 (sl7.mono zH ((hle9.t hle10).t hle11)).1 ho1 (dy ho1) U U U (λq1 A1=>de ty3 A1 U (qL 9 [] U ?_)))
 have ho2:0<=(0:Int)/\(0:Int)<(([2]).length:Int):=(by decide)
 refine aw (oY (enc:=λy=>[I y]) ei eG ty3 sl10.1 ho2 (dy ho2) U U U (λq2 A2=>de ty3 A2 U (qL 9 [] U ?_)))
 have ho3:0<=(0:Int)/\(0:Int)<(([1,2]).length:Int):=(by decide)
 refine aw (oY (enc:=λy=>[I y]) ei eG ty3 (sl8.mono zH (hle10.t hle11)).1 ho3 (dy ho3) U U U (λq3 A3=>de ty3 A3 U (qO 4 U ?_)))
 have ho4:0<=(1:Int)/\(1:Int)<(([1,2]).length:Int):=(by decide)
 refine aw (oY (enc:=λy=>[I y]) ei eG ty3 (sl8.mono zH (hle10.t hle11)).1 ho4 (dy ho4) U U U (λq4 A4=>de ty3 A4 U (qO 7 U (aw (eY (cells:=[I 15,I 100]) (places:=[(0,1),(1,1)]) Gg zc51 kr kr (aU zc51 (λb4=>aR 0 ty51 U U U U U U (qO 4 U (cI 1 ty30 U U U (aw (bB (cells:=[I 1,I 2]) eG ty3 zc3 U U kr (λb5=>cI 1 ty51 U U U (aw (bB (cells:=[I 15,I 100]) Ak ty51 zc51 U U kr (λb6=>aP 1 U hM (λh12 hle12 hb3=>?_))))))))))))))))
 have sl11:SlC zC h12 (some ⟨b5,0,none⟩) 2 ([1,2]):=bP.slB0 (T:=3) (fz:=(0,0)) ((show bP zC h11 [I 1,I 2] ([1,2])from⟨[I 1],[I 2],rfl,rfl,rfl,⟨[I 2],[],rfl,rfl,rfl,rfl⟩⟩).mono zH hle12) hb3
 refine aP 0 U hM (λh13 hle13 hb4=>?_)
 have sl12:SlC Te h13 (some ⟨b6,0,none⟩) 1 ([(qW 15 100)]):=bP.slB0 (T:=51) (fz:=(0,0)) ((show bP Te h12 [I 15,I 100] ([(qW 15 100)])from⟨[I 15,I 100],[],rfl,rfl,rfl,rfl⟩).mono TH hle13) hb4
 refine ai (v:=.bool true) F8 (ze (lM h13 bN rr1 0 ([1,2]) (some ⟨b5,0,none⟩) 2 ([(qW 15 100)]) (some ⟨b6,0,none⟩) 1 (ok1.mono (((((((((((hle2.t hle3).t hle4).t hle5).t hle6).t hle7).t hle8).t hle9).t hle10).t hle11).t hle12).t hle13)) (sl11.mono zH hle13) sl12 oy ob (hk.mono ((((((((((((hle1.t hle2).t hle3).t hle4).t hle5).t hle6).t hle7).t hle8).t hle9).t hle10).t hle11).t hle12).t hle13))) kr) U (qO 2 U (cI 1 ty30 U U U (aw (bB (cells:=[I 1,I 3]) eG ty3 zc3 U U kr (λb7=>aw (eY (cells:=[I 20,I 100]) (places:=[(0,1),(1,1)]) Gg zc51 kr kr (aw (bB (cells:=[I 20,I 100]) Ak ty51 zc51 U U kr (λb8=>aP 1 U hM (λh14 hle14 hb5=>?_))))))))))
 have sl13:SlC zC h14 (some ⟨b7,0,none⟩) 2 ([1,3]):=bP.slB0 (T:=3) (fz:=(0,0)) ((show bP zC h13 [I 1,I 3] ([1,3])from⟨[I 1],[I 3],rfl,rfl,rfl,⟨[I 3],[],rfl,rfl,rfl,rfl⟩⟩).mono zH hle14) hb5
 refine aP 0 U hM (λh15 hle15 hb6=>?_)
 have sl14:SlC Te h15 (some ⟨b8,0,none⟩) 1 ([(qW 20 100)]):=bP.slB0 (T:=51) (fz:=(0,0)) ((show bP Te h14 [I 20,I 100] ([(qW 20 100)])from⟨[I 20,I 100],[],rfl,rfl,rfl,rfl⟩).mono TH hle15) hb6
 refine ai (v:=.bool true) F8 (ze (lM h15 bN rr1 30 ([1,3]) (some ⟨b7,0,none⟩) 2 ([(qW 20 100)]) (some ⟨b8,0,none⟩) 1 (ok1.mono (((((((((((((hle2.t hle3).t hle4).t hle5).t hle6).t hle7).t hle8).t hle9).t hle10).t hle11).t hle12).t hle13).t hle14).t hle15)) (sl13.mono zH hle15) sl14 oy ob (hk.mono ((((((((((((((hle1.t hle2).t hle3).t hle4).t hle5).t hle6).t hle7).t hle8).t hle9).t hle10).t hle11).t hle12).t hle13).t hle14).t hle15))) kr) U (qO 3 U (cI 1 ty30 U U U (aw (bB (cells:=[I 1,I 3]) eG ty3 zc3 U U kr (λb9=>aP 0 U hM (λh16 hle16 hb7=>?_))))))
 have sl15:SlC zC h16 (some ⟨b9,0,none⟩) 2 ([1,3]):=bP.slB0 (T:=3) (fz:=(0,0)) ((show bP zC h15 [I 1,I 3] ([1,3])from⟨[I 1],[I 3],rfl,rfl,rfl,⟨[I 3],[],rfl,rfl,rfl,rfl⟩⟩).mono zH hle16) hb7
 refine ai (v:=.bool true) F8 (ze (lM h16 bN rr1 29 ([1,3]) (some ⟨b9,0,none⟩) 2 ([]) none 0 (ok1.mono ((((((((((((((hle2.t hle3).t hle4).t hle5).t hle6).t hle7).t hle8).t hle9).t hle10).t hle11).t hle12).t hle13).t hle14).t hle15).t hle16)) sl15 zF oy ob (hk.mono (((((((((((((((hle1.t hle2).t hle3).t hle4).t hle5).t hle6).t hle7).t hle8).t hle9).t hle10).t hle11).t hle12).t hle13).t hle14).t hle15).t hle16))) kr) U (qO 3 U (cI 1 ty30 U U U (aw (bB (cells:=[I 9]) eG ty3 zc3 U U kr (λb10=>aP 0 U hM (λh17 hle17 hb8=>?_))))))
 have sl16:SlC zC h17 (some ⟨b10,0,none⟩) 1 ([9]):=bP.slB0 (T:=3) (fz:=(0,0)) ((show bP zC h16 [I 9] ([9])from⟨[I 9],[],rfl,rfl,rfl,rfl⟩).mono zH hle17) hb8
 refine ai (v:=.bool true) F8 (ze (lM h17 bN rr1 0 ([9]) (some ⟨b10,0,none⟩) 1 ([]) none 0 (ok1.mono (((((((((((((((hle2.t hle3).t hle4).t hle5).t hle6).t hle7).t hle8).t hle9).t hle10).t hle11).t hle12).t hle13).t hle14).t hle15).t hle16).t hle17)) sl16 zF oy ob (hk.mono ((((((((((((((((hle1.t hle2).t hle3).t hle4).t hle5).t hle6).t hle7).t hle8).t hle9).t hle10).t hle11).t hle12).t hle13).t hle14).t hle15).t hle16).t hle17))) kr) U (qO 3 U (cI 1 ty30 U U U (ai (v:=.bool true) F8 (ze (lM h17 bN rr1 0 ([]) none 0 ([]) none 0 (ok1.mono (((((((((((((((hle2.t hle3).t hle4).t hle5).t hle6).t hle7).t hle8).t hle9).t hle10).t hle11).t hle12).t hle13).t hle14).t hle15).t hle16).t hle17)) zF zF oy ob (hk.mono ((((((((((((((((hle1.t hle2).t hle3).t hle4).t hle5).t hle6).t hle7).t hle8).t hle9).t hle10).t hle11).t hle12).t hle13).t hle14).t hle15).t hle16).t hle17))) kr) U (qO 7 U (aw (eY (cells:=[I 1,I 40,I 0,I 2,I 6,.bool false,.bool false]) (places:=[(0,1),(1,1),(2,1),(3,1),(4,1),(5,1),(6,1)]) Nj zc54 kr kr (aw (eY (cells:=[I 2,I 50,I 0,I 2,I 6,.bool false,.bool true]) (places:=[(0,1),(1,1),(2,1),(3,1),(4,1),(5,1),(6,1)]) Nj zc54 kr kr (aw (bB (cells:=[I 1,I 40,I 0,I 2,I 6,.bool false,.bool false,I 2,I 50,I 0,I 2,I 6,.bool false,.bool true]) ul ty54 zc54 U U kr (λb11=>qL 1 [] U (cB 2 ty24 U U U U U U (qO 3 U (aw (cJ call9 (w7 h17) U (λv10 h18 hle18 hp10=>?_))))))))))))))))
 obtain⟨rr2,rfl,ok2⟩:=hp10
 refine aU zc30 (λb12=>aR 0 ty30 U U U U U U (qL 4 [] U (cB 0 ty26 U U U U U U (qO 3 U (cI 3 ty30 U U U (aw (bB (cells:=[I 1,I 2]) eG ty3 zc3 U U kr (λb13=>aw (eY (cells:=[I 15,I 40]) (places:=[(0,1),(1,1)]) Gg zc51 kr kr (aw (eY (cells:=[I 50,I 100]) (places:=[(0,1),(1,1)]) Gg zc51 kr kr (aw (bB (cells:=[I 15,I 40,I 50,I 100]) Ak ty51 zc51 U U kr (λb14=>aP 3 U hM (λh19 hle19 hb9=>?_)))))))))))))))
 have sl17:SlC vL h19 (some ⟨b11,0,none⟩) 2 ([(zW 1 40 0 2 6 false false),(zW 2 50 0 2 6 false true)]):=bP.slB0 (T:=54) (fz:=(0,0)) ((show bP vL h18 [I 1,I 40,I 0,I 2,I 6,.bool false,.bool false,I 2,I 50,I 0,I 2,I 6,.bool false,.bool true] ([(zW 1 40 0 2 6 false false),(zW 2 50 0 2 6 false true)])from⟨[I 1,I 40,I 0,I 2,I 6,.bool false,.bool false],[I 2,I 50,I 0,I 2,I 6,.bool false,.bool true],rfl,rfl,rfl,⟨[I 2,I 50,I 0,I 2,I 6,.bool false,.bool true],[],rfl,rfl,rfl,rfl⟩⟩).mono R7 hle19) hb9
 refine aP 1 U hM (λh20 hle20 hb10=>?_)
 have sl18:SlC zC h20 (some ⟨b13,0,none⟩) 2 ([1,2]):=bP.slB0 (T:=3) (fz:=(0,0)) ((show bP zC h19 [I 1,I 2] ([1,2])from⟨[I 1],[I 2],rfl,rfl,rfl,⟨[I 2],[],rfl,rfl,rfl,rfl⟩⟩).mono zH hle20) hb10
 refine aP 0 U hM (λh21 hle21 hb11=>?_)
 have sl19:SlC Te h21 (some ⟨b14,0,none⟩) 2 ([(qW 15 40),(qW 50 100)]):=bP.slB0 (T:=51) (fz:=(0,0)) ((show bP Te h20 [I 15,I 40,I 50,I 100] ([(qW 15 40),(qW 50 100)])from⟨[I 15,I 40],[I 50,I 100],rfl,rfl,rfl,⟨[I 50,I 100],[],rfl,rfl,rfl,rfl⟩⟩).mono TH hle21) hb11
 refine ai (v:=.bool true) F8 (ze (lM h21 (qQ bN.Appoints bN.Deputies ([(zW 1 40 0 2 6 false false),(zW 2 50 0 2 6 false true)]) bN.Budgets bN.Versions bN.Docs bN.Approvals) (eN.mk rr1.lO rr1.lN rr1.mp rr1.mn (some ⟨b11,0,none⟩) 2 rr1.m8 rr1.m7 rr1.kc rr1.kb rr1.uk rr1.uj rr1.lA rr1.ly) 0 ([1,2]) (some ⟨b13,0,none⟩) 2 ([(qW 15 40),(qW 50 100)]) (some ⟨b14,0,none⟩) 2 (show qP h21 (qQ bN.Appoints bN.Deputies ([(zW 1 40 0 2 6 false false),(zW 2 50 0 2 6 false true)]) bN.Budgets bN.Versions bN.Docs bN.Approvals) (eN.mk rr1.lO rr1.lN rr1.mp rr1.mn (some ⟨b11,0,none⟩) 2 rr1.m8 rr1.m7 rr1.kc rr1.kb rr1.uk rr1.uj rr1.lA rr1.ly)from⟨(ok1.Appoints.mono Se (((((((((((((((((((hle2.t hle3).t hle4).t hle5).t hle6).t hle7).t hle8).t hle9).t hle10).t hle11).t hle12).t hle13).t hle14).t hle15).t hle16).t hle17).t hle18).t hle19).t hle20).t hle21)),(ok1.Deputies.mono SK (((((((((((((((((((hle2.t hle3).t hle4).t hle5).t hle6).t hle7).t hle8).t hle9).t hle10).t hle11).t hle12).t hle13).t hle14).t hle15).t hle16).t hle17).t hle18).t hle19).t hle20).t hle21)),(sl17.mono R7 (hle20.t hle21)),(ok1.Budgets.mono Ug (((((((((((((((((((hle2.t hle3).t hle4).t hle5).t hle6).t hle7).t hle8).t hle9).t hle10).t hle11).t hle12).t hle13).t hle14).t hle15).t hle16).t hle17).t hle18).t hle19).t hle20).t hle21)),(ok1.Versions.mono vV (((((((((((((((((((hle2.t hle3).t hle4).t hle5).t hle6).t hle7).t hle8).t hle9).t hle10).t hle11).t hle12).t hle13).t hle14).t hle15).t hle16).t hle17).t hle18).t hle19).t hle20).t hle21)),(ok1.Docs.mono vR (((((((((((((((((((hle2.t hle3).t hle4).t hle5).t hle6).t hle7).t hle8).t hle9).t hle10).t hle11).t hle12).t hle13).t hle14).t hle15).t hle16).t hle17).t hle18).t hle19).t hle20).t hle21)),(ok1.Approvals.mono kL (((((((((((((((((((hle2.t hle3).t hle4).t hle5).t hle6).t hle7).t hle8).t hle9).t hle10).t hle11).t hle12).t hle13).t hle14).t hle15).t hle16).t hle17).t hle18).t hle19).t hle20).t hle21))⟩) (sl18.mono zH hle21) sl19 oy ob (hk.mono ((((((((((((((((((((hle1.t hle2).t hle3).t hle4).t hle5).t hle6).t hle7).t hle8).t hle9).t hle10).t hle11).t hle12).t hle13).t hle14).t hle15).t hle16).t hle17).t hle18).t hle19).t hle20).t hle21))) kr) U ?_
 refine ao (cI 0 ty30 U U U (aw (bB (cells:=[I 1,I 2]) eG ty3 zc3 U U kr (λb15=>aP 0 U hM (λh22 hle22 hb12=>?_)))))
 have sl20:SlC zC h22 (some ⟨b15,0,none⟩) 2 ([1,2]):=bP.slB0 (T:=3) (fz:=(0,0)) ((show bP zC h21 [I 1,I 2] ([1,2])from⟨[I 1],[I 2],rfl,rfl,rfl,⟨[I 2],[],rfl,rfl,rfl,rfl⟩⟩).mono zH hle22) hb12
 exact ai (v:=.bool true) F8 (ze (lM h22 (qQ bN.Appoints bN.Deputies bN.Interests bN.Budgets ([]) bN.Docs bN.Approvals) (eN.mk rr2.lO rr2.lN rr2.mp rr2.mn rr2.mg rr2.mf rr2.m8 rr2.m7 none 0 rr2.uk rr2.uj rr2.lA rr2.ly) 0 ([1,2]) (some ⟨b15,0,none⟩) 2 ([]) none 0 (show qP h22 (qQ bN.Appoints bN.Deputies bN.Interests bN.Budgets ([]) bN.Docs bN.Approvals) (eN.mk rr2.lO rr2.lN rr2.mp rr2.mn rr2.mg rr2.mf rr2.m8 rr2.m7 none 0 rr2.uk rr2.uj rr2.lA rr2.ly)from⟨(ok2.Appoints.mono Se (((hle19.t hle20).t hle21).t hle22)),(ok2.Deputies.mono SK (((hle19.t hle20).t hle21).t hle22)),(ok2.Interests.mono R7 (((hle19.t hle20).t hle21).t hle22)),(ok2.Budgets.mono Ug (((hle19.t hle20).t hle21).t hle22)),zF,(ok2.Docs.mono vR (((hle19.t hle20).t hle21).t hle22)),(ok2.Approvals.mono kL (((hle19.t hle20).t hle21).t hle22))⟩) sl20 zF oy ob (hk.mono (((((((((((((((((((((hle1.t hle2).t hle3).t hle4).t hle5).t hle6).t hle7).t hle8).t hle9).t hle10).t hle11).t hle12).t hle13).t hle14).t hle15).t hle16).t hle17).t hle18).t hle19).t hle20).t hle21).t hle22))) kr) U (qO 3 U (nretP [.bool true] (cs hs0)))
theorem n8(h:HF)(eS:Int)  : Ret prog 12 [I eS] h (.bool (fh eS)):=by
 refine sT func12 U ntmps12 U λX hM hX hF=>?_
 have hs0:=@rfl _ (fh eS)
 refine qT 9 U (bD 3 [5,6,7,8] 5 8 (decide (eS<1099511627776)) U (λc1 hk1=>?_) (λe=>?_))
 .exact ao (qO 2 U (hk1 _ U))
 exact an (nretP [.bool (decide (0<=eS)&&decide (eS<1099511627776))] (cs hs0))
open Go.Proofs Go.Proofs.Tryz
set_option maxHeartbeats 2000000
theorem C8(rec:Expr->Int->Int)(h:HF)(x:Expr)(fX:cY)(limit:Int)(hrec:∀(h:HF)(qx:Expr)(lk:cY)(qlimit:Int)(hqx:qG h qx lk)(_:qx.dep<x.dep),Ret prog 88 [.agg (jC qx lk).toArray,I qlimit] h (I (rec qx qlimit)))(hx:qG h x fX):Ret prog 88 [.agg (jC x fX).toArray,I limit] h (I (fY.F rec x limit)):=by
 refine sT func88 U ntmps88 U λX hM hX hF=>?_
 have hs0:=@rfl _ (fY.F rec x limit)
 refine sr (ct (λb1=>qO 11 U ?_))
 refine lp1 x.L (λi w=>[(1,I limit),(2,Q b1),(5,I w),(6,I (i:Int))]) ([(b1,O (jC x fX) 88)]) (λs1 i w=>(fY.L1 rec limit (fY.K1)) s1 w) 1 hx.list.1.1 hs0 ?_ ?_ ?_
 .rintro i1 jm fB hs1 e
  exact sr (qO 3 U (nretP [I jm] (ci hs1)))
 .rintro i1 jm y1 rz1 hd1 du bo eA gD hs3 hx1 ag1 e
  refine qK 7 [0] U (tO du U (qO 6 U (ae hs3 U (λc2 hs4=>?_) (λc2 hs5=>?_))))
  .have c2p:=of_decide_eq_true c2
   exact qK 8 [0] U (aw (iR lP ty88 hx.list.1 bo U U U (λ_ _ _ e=>e) (λq2 r2 A2 ok2=>dl ty88 A2 U U (qO 3 U (ai call88 (hrec _ _ _ (zE .i64 (limit-jm)) ok2 (kV (fS hd1))) U (qO 6 U (oi i1 U (an (ag1 (zE .i64 (jm+(rec y1 (zE .i64 (limit-jm))))) hs4)))))))))
  have c2p:=of_decide_eq_false c2
  exact mr U (hx1 i1 jm hs5)
 rintro i1 jm hd1 iw hx e
 exact qK 7 [0] U (fO iw U (qO 8 U (hx _ rd)))
theorem tj:∀(m:Nat)(h:HF)(x:Expr)(fX:cY)(limit:Int)(_:x.dep<=m)(hx:qG h x fX),Ret prog 88 [.agg (jC x fX).toArray,I limit] h (I (fY.go m x limit))
 |0,h,x,fX,limit,hd,hx=>absurd hd (Nat.not_le.2 (S5 _))
 |m+1,h,x,fX,limit,hd,hx=>C8 (fY.go m) h x fX limit (λqh_ qx lk qlimit qhx qd=>tj m qh_ qx lk qlimit ob qhx) hx
theorem wH(h:HF)(x:Expr)(fX:cY)(limit:Int)(hx:qG h x fX):Ret prog 88 [.agg (jC x fX).toArray,I limit] h (I (fY x limit)):=tj _ h x fX limit (xG _) hx
theorem wI(h:HF)(l:List Version)(fq:Option Addr)(fp:Nat)(hl:SlC jQ h fq fp l):Ret prog 40 [.slice fq l.length fp] h (.bool (el l)):=by
 refine sT func40 U ntmps40 U λX hM hX hF=>?_
 have hs0:=@rfl _ (el l)
 refine qK 11 [] U (ae hs0 U (λc1 hs1=>?_) (λc1 hs2=>?_))
 .have c1p:=of_decide_eq_true c1
  exact sr (an (nretP [.bool false] (cs hs1)))
 have c1p:=of_decide_eq_false c1
 refine qT 6 U ?_
 refine lp0 l (λi=>[(0,.slice fq l.length fp),(3,I (i:Int))]) ([]) (λs1 i=>(el.L1 (el.K1)) s1) hl.1.1 hs2 ?_ ?_ ?_
 .rintro i1 fB hs4 e
  exact sr (an (nretP [.bool true] (cs hs4)))
 .rintro i1 y1 rz1 hd1 du bo eA gD hs6 hx1 ag1 e
  refine qK 6 [] U (tO du U (qO 9 U (aw (iR wC ty96 hl.1 bo U U U (λ_ _ _ e=>e) (λq2 r2 A2 ok2=>qL 1 [] U (zm (j:=3) ty94 A2 U U (aU zc94 (λb2=>aR 0 ty94 U U U U U U (qL 9 [0] U (cn 5 [24,25,26,27,28,29] 24 29 (decide (40<(y1.Policy.Offices.length:Int))) U (λc2 hk1=>?_) (λe=>?_)))))))))))
  .exact qL 5 [0] U (hk1 _ U)
  refine ao (cn 5 [30,31,32,33,34,35] 30 35 (decide (20<(y1.Policy.Rules.length:Int))) U (λc3 hk2=>?_) (λe=>?_))
  .exact qL 5 [0] U (hk2 _ U)
  refine ao (cn 5 [36,37,38,39,40,41] 36 41 (decide (40<(fY y1.Policy.Change 40))) U (λc4 hk3=>?_) (λe=>?_))
  .exact qL 1 [] U (cI 0 ty88 U U U (ai call88 (wH _ _ _ 40 ok2.Policy.Change) U (qO 2 U (hk3 _ U))))
  refine aH (ae hs6 U (λc5 hs7=>?_) (λc5 hs8=>?_))
  .exact sr (an (nretP [.bool false] (cs hs7)))
  refine qT 5 U ?_
  refine lp0 y1.Policy.Rules (λi=>[(0,.slice fq l.length fp),(3,I (i1:Int)),(4,Q b2),(5,I (i:Int))]) ([(b2,O (kD y1.Policy r2.Policy) 94)]) (λs3 i=>(el.L3 ((el.L1 (el.K1) rz1))) s3) ok2.Policy.Rules.1.1 hs8 ?_ ?_ ?_
  .rintro i3 BZ hs10 e
   exact eB (qT 2 U (oi i1 U (an (bj (L':=[]) js (ag1 hs10)))))
  .rintro i3 y3 rz3 hd3 HN CM LD PA hs11 hx3 ag2 e
   refine qK 7 [0] U (tO HN U (qL 10 [0] U (aw (iR tQ ty91 ok2.Policy.Rules.1 CM U U U (λ_ _ _ e=>e) (λq4 r4 A4 ok4=>qL 1 [] U (zm (j:=3) ty88 A4 U U (ai call88 (wH _ _ _ 40 ok4.Expr) U (qO 2 U (ae hs11 U (λc7 hs12=>?_) (λc7 hs13=>?_))))))))))
   .have c7p:=of_decide_eq_true c7
    exact sr (an (nretP [.bool false] (cs hs12)))
   have c7p:=of_decide_eq_false c7
   exact aQ (qT 3 U (oi i3 U (an (ag2 hs13))))
  rintro i3 hd3 Rz hx e
  exact qK 7 [0] U (fO Rz U (qO 3 U (hx _ rd)))
 rintro i1 hd1 iw hx e
 exact qK 6 [] U (fO iw U (qO 3 U (hx _ rd)))
theorem Ho(h:HF)(bG:Register)(dW:eN)(kW:qP h bG dW):Ret prog 13 [.agg (jF bG dW).toArray] h (.bool (lS bG)):=by
 refine sT func13 U ntmps13 U λX hM hX hF=>?_
 have hs0:=@rfl _ (lS bG)
 refine sr (ct (λb1=>qL 10 [0] U (cn 5 [8,9,10,11,12,13] 8 13 (decide (12<(bG.Deputies.length:Int))) U (λc1 hk1=>?_) (λe=>?_))))
 .exact qL 5 [0] U (hk1 _ U)
 refine ao (cn 5 [14,15,16,17,18,19] 14 19 (decide (12<(bG.Interests.length:Int))) U (λc2 hk2=>?_) (λe=>?_))
 .exact qL 5 [0] U (hk2 _ U)
 refine ao (cn 5 [20,21,22,23,24,25] 20 25 (decide (12<(bG.Budgets.length:Int))) U (λc3 hk3=>?_) (λe=>?_))
 .exact qL 5 [0] U (hk3 _ U)
 refine ao (cn 5 [26,27,28,29,30,31] 26 31 (decide (8<(bG.Docs.length:Int))) U (λc4 hk4=>?_) (λe=>?_))
 .exact qL 5 [0] U (hk4 _ U)
 refine ao (cn 5 [32,33,34,35,36,37] 32 37 (decide (24<(bG.Approvals.length:Int))) U (λc5 hk5=>?_) (λe=>?_))
 .exact qL 5 [0] U (hk5 _ U)
 refine ao (cn 5 [38,39,40,41,42,43] 38 43 (!(el bG.Versions)) U (λc6 hk6=>?_) (λe=>?_))
 .exact qL 2 [0] U (ai call40 (wI _ _ _ _ kW.Versions) U (qO 2 U (hk6 _ U)))
 refine aH (ae hs0 U (λc7 hs1=>?_) (λc7 hs2=>?_))
 .exact sr (an (nretP [.bool false] (cs hs1)))
 refine qT 6 U ?_
 refine lp0 bG.Docs (λi=>[(1,Q b1),(3,I (i:Int))]) ([(b1,O (jF bG dW) 30)]) (λs1 i=>(lS.L1 (lS.K1)) s1) kW.Docs.1.1 hs2 ?_ ?_ ?_
 .rintro i1 fB hs4 e
  exact sr (an (nretP [.bool true] (cs hs4)))
 .rintro i1 y1 rz1 hd1 du bo eA gD hs6 hx1 ag1 e
  refine qK 7 [0] U (tO du U (qL 10 [0] U (aw (iR rC ty70 kW.Docs.1 bo U U U (λ_ _ _ e=>e) (λq3 r3 A3 ok3=>qL 1 [] U (ky (j:=6) ty31 A3 U U (qL 3 [] U (cn 9 [59,60,61,62,63,64,65,66,67,68] 59 68 (decide (20<(y1.Revokes.length:Int))) U (λc8 hk7=>?_) (λe=>?_)))))))))
  .exact qL 3 [0] U (aw (iR rC ty70 kW.Docs.1 bo U U U (λ_ _ _ e=>e) (λq4 r4 A4 ok4=>qL 1 [] U (ky (j:=7) ty31 A4 U U (qL 3 [] U (hk7 _ U))))))
  refine ao (cn 9 [69,70,71,72,73,74,75,76,77,78] 69 78 (decide (20<(y1.Needs.length:Int))) U (λc9 hk8=>?_) (λe=>?_))
  .exact qL 3 [0] U (aw (iR rC ty70 kW.Docs.1 bo U U U (λ_ _ _ e=>e) (λq5 r5 A5 ok5=>qL 1 [] U (ky (j:=8) ty31 A5 U U (qL 3 [] U (hk8 _ U))))))
  refine aH (ae hs6 U (λc10 hs7=>?_) (λc10 hs8=>?_))
  .exact sr (an (nretP [.bool false] (cs hs7)))
  exact aQ (qT 3 U (oi i1 U (an (ag1 hs8))))
 rintro i1 hd1 iw hx e
 exact qK 7 [0] U (fO iw U (qO 3 U (hx _ rd)))
theorem yM(h:HF)(eS:Int)  : Ret prog 147 [I eS] h (.bool (nw eS)):=by
 refine sT func147 U ntmps147 U λX hM hX hF=>?_
 have hs0:=@rfl _ (nw eS)
 refine qT 9 U (bD 3 [5,6,7,8] 5 8 (decide (eS<1099511627776)) U (λc1 hk1=>?_) (λe=>?_))
 .exact ao (qO 2 U (hk1 _ U))
 exact an (nretP [.bool (decide (0<=eS)&&decide (eS<1099511627776))] (cs hs0))
theorem Dg(h:HF)(eS:Int)  : Ret prog 148 [I eS] h (.bool (pg eS)):=by
 refine sT func148 U ntmps148 U λX hM hX hF=>?_
 have hs0:=@rfl _ (pg eS)
 refine qT 9 U (bD 3 [5,6,7,8] 5 8 (decide (eS<32)) U (λc1 hk1=>?_) (λe=>?_))
 .exact ao (qO 2 U (hk1 _ U))
 exact an (nretP [.bool (decide (0<=eS)&&decide (eS<32))] (cs hs0))
theorem Df(h:HF)(eS:Int)  : Ret prog 149 [I eS] h (.bool (pf eS)):=by
 refine sT func149 U ntmps149 U λX hM hX hF=>?_
 have hs0:=@rfl _ (pf eS)
 refine qT 9 U (bD 3 [5,6,7,8] 5 8 (decide (eS<64)) U (λc1 hk1=>?_) (λe=>?_))
 .exact ao (qO 2 U (hk1 _ U))
 exact an (nretP [.bool (decide (0<=eS)&&decide (eS<64))] (cs hs0))
theorem En(h:HF)(x:Appoint)  : Ret prog 89 [.agg (xP x).toArray] h (.bool (jI x)):=by
 refine sT func89 U ntmps89 U λX hM hX hF=>?_
 have hs0:=@rfl _ (jI x)
 refine sr (ct (λb1=>qL 9 [0] U (cn 4 [6,7,8,9,10] 6 10 (decide (1048576<x.No)) U (λc1 hk1=>?_) (λe=>?_))))
 .exact qL 4 [0] U (hk1 _ U)
 refine ao (cn 5 [11,12,13,14,15,16] 11 16 (!(nw x.At)) U (λc2 hk2=>?_) (λe=>?_))
 .exact qL 2 [0] U (ai call147 (yM h x.At) U (qO 2 U (hk2 _ U)))
 refine ao (cn 5 [17,18,19,20,21,22] 17 22 (!(nw x.Known)) U (λc3 hk3=>?_) (λe=>?_))
 .exact qL 2 [0] U (ai call147 (yM h x.Known) U (qO 2 U (hk3 _ U)))
 refine ao (cn 5 [23,24,25,26,27,28] 23 28 (!(pg x.Office)) U (λc4 hk4=>?_) (λe=>?_))
 .exact qL 2 [0] U (ai call148 (Dg h x.Office) U (qO 2 U (hk4 _ U)))
 refine ao (cn 5 [29,30,31,32,33,34] 29 34 (!(pf x.Person)) U (λc5 hk5=>?_) (λe=>?_))
 .exact qL 2 [0] U (ai call149 (Df h x.Person) U (qO 2 U (hk5 _ U)))
 refine aH (ae hs0 U (λc6 hs1=>?_) (λc6 hs2=>?_))
 .exact sr (an (nretP [.bool false] (cs hs1)))
 refine qK 7 [0] U (ae hs2 U (λc7 hs4=>?_) (λc7 hs5=>?_))
 .exact qK 7 [0] U (nretP [.bool (x.Weight==0)] (cs hs4))
 refine qK 7 [0] U (bD 4 [43,44,45,46,47] 43 47 (decide (x.Weight<=64)) U (λc8 hk6=>?_) (λe=>?_))
 .exact qL 4 [0] U (hk6 _ U)
 exact an (nretP [.bool (decide (1<=x.Weight)&&decide (x.Weight<=64))] (cs hs5))
theorem Eo(h:HF)(l:List Appoint)(fq:Option Addr)(fp:Nat)(hl:SlC kR h fq fp l):Ret prog 41 [.slice fq l.length fp] h (I (fZ l)):=by
 refine sT func41 U ntmps41 U λX hM hX hF=>?_
 have hs0:=@rfl _ (fZ l)
 refine qK 11 [] U (ae hs0 U (λc1 hs1=>?_) (λc1 hs2=>?_))
 .have c1p:=of_decide_eq_true c1
  exact sr (an (nretP [I 2] (ci hs1)))
 have c1p:=of_decide_eq_false c1
 refine qT 6 U ?_
 refine lp0 l (λi=>[(0,.slice fq l.length fp),(3,I (i:Int))]) ([]) (λs1 i=>(fZ.L1 l (fZ.K1)) s1 i) hl.1.1 hs2 ?_ ?_ ?_
 .rintro i1 fB hs4 e
  exact sr (an (nretP [I 0] (ci hs4)))
 .rintro i1 y1 rz1 hd1 du bo eA gD hs6 hx1 ag1 e
  refine qK 6 [] U (tO du U (qO 6 U ?_))
  refine nU [(0,.slice fq l.length fp),(3,I (i1:Int)),(36,.bool ((!(jI y1))||(decide (0<(i1:Int))&&decide (y1.No<=(nthI l ((i1:Int)-1)).No))))] (λe=>?_) (λhk1=>?_)
  rotate_left
  .refine eQ ([]) mixed kr jn (λeF _=>?_)
   refine qA [0,1] U (fF 2 (enc:=xP) eF jn ei Cn ty49 hl.1 (nthZ bo) (fV bo) U U U U kr (λq4 A4=>tf 3 U U (λ_ _ hj=>kU ty49 (A4.mono hj.1) U U) (tn 4 U (fg call89 (En h y1) U (⟨jn,qA [5,6] U ?_⟩)))))
   refine dt 19 U (λc2=>?_) (λc2=>?_)
   .exact tk 7 U U (qR 8 16 U (aN kr (hk1 _ ⟨U,U,(cb (show true=((!(jI y1))||(decide (0<(i1:Int))&&decide (y1.No<=(nthI l ((i1:Int)-1)).No)))from by rw[c2]<;>rfl)),trivial⟩)))
   refine qR 7 3 U ?_
   refine dt 22 U (λc3=>?_) (λc3=>?_)
   .have c3p:=of_decide_eq_true c3
    refine qA [10,11] U (tf 12 U U (λ_ _ _=>ny (v':=I ((i1:Int)-1)) U (jc ob)) ?_)
    have ho2:0<=(((i1:Int)-1):Int)/\(((i1:Int)-1):Int)<((l).length:Int):=ob
    exact fF 13 (enc:=xP) eF jn ei Cn ty49 hl.1 ho2 (dy ho2) U U U U kr (λq5 A5=>qB [14] U (tf 15 U U (rh ty3 A5 U) (qA [16,17] U (fF 18 (enc:=xP) eF jn ei Cn ty49 hl.1 (nthZ bo) (fV bo) U U U U kr (λq6 A6=>qB [19] U (tf 20 U U (rh ty3 A6 U) (qR 21 3 U (aN kr (hk1 _ ⟨U,U,(cb (show decide (y1.No<=(nthI l ((i1:Int)-1)).No)=((!(jI y1))||(decide (0<(i1:Int))&&decide (y1.No<=(nthI l ((i1:Int)-1)).No)))from by rw[c2,c3]<;>rfl)),trivial⟩)))))))))
   have c3p:=of_decide_eq_false c3
   exact tk 10 U U (qR 11 13 U (aN kr (hk1 _ ⟨U,U,(cb (show false=((!(jI y1))||(decide (0<(i1:Int))&&decide (y1.No<=(nthI l ((i1:Int)-1)).No)))from by rw[c2,c3]<;>rfl)),trivial⟩)))
  refine ae hs6 U (λc4 hs7=>?_) (λc4 hs8=>?_)
  .exact sr (an (nretP [I 150] (ci hs7)))
  exact aQ (qT 3 U (oi i1 U (an (ag1 hs8))))
 rintro i1 hd1 iw hx e
 exact qK 6 [] U (fO iw U (qO 3 U (hx _ rd)))
theorem lU(h:HF)(eS:Int)(low:Int)(high:Int)  : Ret prog 150 [I eS,I low,I high] h (.bool (io eS low high)):=by
 refine sT func150 U ntmps150 U λX hM hX hF=>?_
 have hs0:=@rfl _ (io eS low high)
 refine qT 10 U (bD 4 [10,11,12,13,14] 10 14 (decide (eS<=high)) U (λc1 hk1=>?_) (λe=>?_))
 .exact ao (qO 3 U (hk1 _ U))
 exact an (nretP [.bool (decide (low<=eS)&&decide (eS<=high))] (cs hs0))
theorem yL(h:HF)(eS:Int)  : Ret prog 151 [I eS] h (.bool (oC eS)):=by
 refine sT func151 U ntmps151 U λX hM hX hF=>?_
 have hs0:=@rfl _ (oC eS)
 exact sr (qO 5 U (ai Ij (lU h eS 0 1099511627775) U (an (nretP [.bool (io eS 0 1099511627775)] (cs hs0)))))
theorem vw(h:HF)(eS:Int)  : Ret prog 152 [I eS] h (.bool (mU eS)):=by
 refine sT func152 U ntmps152 U λX hM hX hF=>?_
 have hs0:=@rfl _ (mU eS)
 exact sr (qO 5 U (ai Ij (lU h eS 0 63) U (an (nretP [.bool (io eS 0 63)] (cs hs0)))))
theorem El(h:HF)(x:Deputy)  : Ret prog 90 [.agg (kM x).toArray] h (.bool (kj x)):=by
 refine sT func90 U ntmps90 U λX hM hX hF=>?_
 have hs0:=@rfl _ (kj x)
 refine sr (ct (λb1=>qL 7 [0] U (ai Ij (lU h x.No 0 1048576) U (qO 2 U (cn 5 [7,8,9,10,11,12] 7 12 (!(oC x.At)) U (λc1 hk1=>?_) (λe=>?_))))))
 .exact qL 2 [0] U (ai call151 (yL h x.At) U (qO 2 U (hk1 _ U)))
 refine ao (cn 5 [13,14,15,16,17,18] 13 18 (!(oC x.Known)) U (λc2 hk2=>?_) (λe=>?_))
 .exact qL 2 [0] U (ai call151 (yL h x.Known) U (qO 2 U (hk2 _ U)))
 refine ao (cn 5 [19,20,21,22,23,24] 19 24 (!(mU x.From)) U (λc3 hk3=>?_) (λe=>?_))
 .exact qL 2 [0] U (ai call152 (vw h x.From) U (qO 2 U (hk3 _ U)))
 refine ao (cn 5 [25,26,27,28,29,30] 25 30 (!(mU x.To)) U (λc4 hk4=>?_) (λe=>?_))
 .exact qL 2 [0] U (ai call152 (vw h x.To) U (qO 2 U (hk4 _ U)))
 refine ao (cn 6 [31,32,33,34,35,36,37] 31 37 (x.From==x.To) U (λc5 hk5=>?_) (λe=>?_))
 .exact qL 6 [0,0] U (hk5 _ U)
 refine aH (ae hs0 U (λc6 hs1=>?_) (λc6 hs2=>?_))
 .exact sr (an (nretP [.bool false] (cs hs1)))
 refine qK 6 [0] U (ai Ij (lU h x.Office 0 31) U (qO 2 U (cn 5 [42,43,44,45,46,47] 42 47 (!(io x.Kind (-1) 15)) U (λc7 hk6=>?_) (λe=>?_))))
 .exact qL 2 [0] U (ai Ij (lU h x.Kind (-1) 15) U (qO 2 U (hk6 _ U)))
 refine aH (ae hs2 U (λc8 hs4=>?_) (λc8 hs5=>?_))
 .exact sr (an (nretP [.bool false] (cs hs4)))
 refine qK 7 [0] U (ae hs5 U (λc9 hs7=>?_) (λc9 hs8=>?_))
 .refine qK 6 [0] U (bD 4 [53,54,55,56,57] 53 57 (x.Most==0) U (λc10 hk7=>?_) (λe=>?_))
  .exact qL 4 [0] U (hk7 _ U)
  exact an (nretP [.bool ((x.Until==0)&&(x.Most==0))] (cs hs7))
 refine qK 9 [0,0] U (bD 4 [63,64,65,66,67] 63 67 (decide (x.Until<=1099511627776)) U (λc11 hk8=>?_) (λe=>?_))
 .exact qL 4 [0] U (hk8 _ U)
 refine ao (bD 4 [68,69,70,71,72] 68 72 (io x.Most 0 1099511627776) U (λc12 hk9=>?_) (λe=>?_))
 .exact qL 2 [0] U (ai Ij (lU h x.Most 0 1099511627776) U (eM U (hk9 _ U)))
 exact an (nretP [.bool ((decide (x.At<x.Until)&&decide (x.Until<=1099511627776))&&(io x.Most 0 1099511627776))] (cs hs8))
theorem Em(h:HF)(l:List Deputy)(fq:Option Addr)(fp:Nat)(hl:SlC Deputy.rp h fq fp l):Ret prog 42 [.slice fq l.length fp] h (I (ij l)):=by
 refine sT func42 U ntmps42 U λX hM hX hF=>?_
 have hs0:=@rfl _ (ij l)
 refine qK 11 [] U (ae hs0 U (λc1 hs1=>?_) (λc1 hs2=>?_))
 .have c1p:=of_decide_eq_true c1
  exact sr (an (nretP [I 2] (ci hs1)))
 have c1p:=of_decide_eq_false c1
 refine qT 6 U ?_
 refine lp0 l (λi=>[(0,.slice fq l.length fp),(3,I (i:Int))]) ([]) (λs1 i=>(ij.L1 l (ij.K1)) s1 i) hl.1.1 hs2 ?_ ?_ ?_
 .rintro i1 fB hs4 e
  exact sr (an (nretP [I 0] (ci hs4)))
 .rintro i1 y1 rz1 hd1 du bo eA gD hs6 hx1 ag1 e
  refine qK 6 [] U (tO du U (qO 6 U ?_))
  refine nU [(0,.slice fq l.length fp),(3,I (i1:Int)),(36,.bool ((!(kj y1))||(decide (0<(i1:Int))&&decide (y1.No<=(nthI l ((i1:Int)-1)).No))))] (λe=>?_) (λhk1=>?_)
  rotate_left
  .refine eQ ([]) mixed kr jn (λeF _=>?_)
   refine qA [0,1] U (fF 2 (enc:=kM) eF jn ei yF ty157 hl.1 (nthZ bo) (fV bo) U U U U kr (λq4 A4=>tf 3 U U (λ_ _ hj=>kU ty157 (A4.mono hj.1) U U) (tn 4 U (fg call90 (El h y1) U (⟨jn,qA [5,6] U ?_⟩)))))
   refine dt 19 U (λc2=>?_) (λc2=>?_)
   .exact tk 7 U U (qR 8 16 U (aN kr (hk1 _ ⟨U,U,(cb (show true=((!(kj y1))||(decide (0<(i1:Int))&&decide (y1.No<=(nthI l ((i1:Int)-1)).No)))from by rw[c2]<;>rfl)),trivial⟩)))
   refine qR 7 3 U ?_
   refine dt 22 U (λc3=>?_) (λc3=>?_)
   .have c3p:=of_decide_eq_true c3
    refine qA [10,11] U (tf 12 U U (λ_ _ _=>ny (v':=I ((i1:Int)-1)) U (jc ob)) ?_)
    have ho2:0<=(((i1:Int)-1):Int)/\(((i1:Int)-1):Int)<((l).length:Int):=ob
    exact fF 13 (enc:=kM) eF jn ei yF ty157 hl.1 ho2 (dy ho2) U U U U kr (λq5 A5=>qB [14] U (tf 15 U U (rh ty3 A5 U) (qA [16,17] U (fF 18 (enc:=kM) eF jn ei yF ty157 hl.1 (nthZ bo) (fV bo) U U U U kr (λq6 A6=>qB [19] U (tf 20 U U (rh ty3 A6 U) (qR 21 3 U (aN kr (hk1 _ ⟨U,U,(cb (show decide (y1.No<=(nthI l ((i1:Int)-1)).No)=((!(kj y1))||(decide (0<(i1:Int))&&decide (y1.No<=(nthI l ((i1:Int)-1)).No)))from by rw[c2,c3]<;>rfl)),trivial⟩)))))))))
   have c3p:=of_decide_eq_false c3
   exact tk 10 U U (qR 11 13 U (aN kr (hk1 _ ⟨U,U,(cb (show false=((!(kj y1))||(decide (0<(i1:Int))&&decide (y1.No<=(nthI l ((i1:Int)-1)).No)))from by rw[c2,c3]<;>rfl)),trivial⟩)))
  refine ae hs6 U (λc4 hs7=>?_) (λc4 hs8=>?_)
  .exact sr (an (nretP [I 160] (ci hs7)))
  exact aQ (qT 3 U (oi i1 U (an (ag1 hs8))))
 rintro i1 hd1 iw hx e
 exact qK 6 [] U (fO iw U (qO 3 U (hx _ rd)))
theorem yI(h:HF)(t:Int)  : Ret prog 153 [I t] h (.bool (nv t)):=by
 refine sT func153 U ntmps153 U λX hM hX hF=>?_
 have hs0:=@rfl _ (nv t)
 refine qT 9 U (bD 3 [5,6,7,8] 5 8 (decide (t<1099511627776)) U (λc1 hk1=>?_) (λe=>?_))
 .exact ao (qO 2 U (hk1 _ U))
 exact an (nretP [.bool (decide (0<=t)&&decide (t<1099511627776))] (cs hs0))
theorem wJ(h:HF)(eS:Int)  : Ret prog 154 [I eS] h (.bool (nu eS)):=by
 refine sT func154 U ntmps154 U λX hM hX hF=>?_
 have hs0:=@rfl _ (nu eS)
 refine qT 9 U (bD 3 [5,6,7,8] 5 8 (decide (eS<=1048576)) U (λc1 hk1=>?_) (λe=>?_))
 .exact ao (qO 2 U (hk1 _ U))
 exact an (nretP [.bool (decide (0<=eS)&&decide (eS<=1048576))] (cs hs0))
theorem C9(h:HF)(eS:Int)  : Ret prog 155 [I eS] h (.bool (pb eS)):=by
 refine sT func155 U ntmps155 U λX hM hX hF=>?_
 have hs0:=@rfl _ (pb eS)
 refine qT 9 U (bD 3 [5,6,7,8] 5 8 (decide (eS<64)) U (λc1 hk1=>?_) (λe=>?_))
 .exact ao (qO 2 U (hk1 _ U))
 exact an (nretP [.bool (decide (0<=eS)&&decide (eS<64))] (cs hs0))
theorem Ea(h:HF)(x:Interest)  : Ret prog 91 [.agg (jD x).toArray] h (.bool (jz x)):=by
 refine sT func91 U ntmps91 U λX hM hX hF=>?_
 have hs0:=@rfl _ (jz x)
 refine sr (ct (λb1=>qL 9 [0] U (cn 4 [6,7,8,9,10] 6 10 (decide (1048576<x.No)) U (λc1 hk1=>?_) (λe=>?_))))
 .exact qL 4 [0] U (hk1 _ U)
 refine ao (cn 5 [11,12,13,14,15,16] 11 16 (!(nv x.At)) U (λc2 hk2=>?_) (λe=>?_))
 .exact qL 2 [0] U (ai call153 (yI h x.At) U (qO 2 U (hk2 _ U)))
 refine ao (cn 5 [17,18,19,20,21,22] 17 22 (!(nv x.Known)) U (λc3 hk3=>?_) (λe=>?_))
 .exact qL 2 [0] U (ai call153 (yI h x.Known) U (qO 2 U (hk3 _ U)))
 refine ao (cn 5 [23,24,25,26,27,28] 23 28 (!(nu x.Party)) U (λc4 hk4=>?_) (λe=>?_))
 .exact qL 2 [0] U (ai call154 (wJ h x.Party) U (qO 2 U (hk4 _ U)))
 refine aH (ae hs0 U (λc5 hs1=>?_) (λc5 hs2=>?_))
 .exact sr (an (nretP [.bool false] (cs hs1)))
 refine qK 7 [0] U (ae hs2 U (λc6 hs4=>?_) (λc6 hs5=>?_))
 .refine qK 4 [0] U (ai call154 (wJ h x.Person) U (ao (bD 6 [34,35,36,37,38,39,40] 34 40 (x.Person != x.Party) U (λc7 hk5=>?_) (λe=>?_))))
  .exact qL 6 [0,0] U (hk5 _ U)
  exact an (nretP [.bool ((nu x.Person)&&(x.Person != x.Party))] (cs hs4))
 exact qK 5 [0] U (ai call155 (C9 h x.Person) U (an (nretP [.bool (pb x.Person)] (cs hs5))))
theorem Eb(h:HF)(l:List Interest)(fq:Option Addr)(fp:Nat)(hl:SlC vL h fq fp l):Ret prog 43 [.slice fq l.length fp] h (I (fT l)):=by
 refine sT func43 U ntmps43 U λX hM hX hF=>?_
 have hs0:=@rfl _ (fT l)
 refine qK 11 [] U (ae hs0 U (λc1 hs1=>?_) (λc1 hs2=>?_))
 .have c1p:=of_decide_eq_true c1
  exact sr (an (nretP [I 2] (ci hs1)))
 have c1p:=of_decide_eq_false c1
 refine qT 6 U ?_
 refine lp0 l (λi=>[(0,.slice fq l.length fp),(3,I (i:Int))]) ([]) (λs1 i=>(fT.L1 l (fT.K1)) s1 i) hl.1.1 hs2 ?_ ?_ ?_
 .rintro i1 fB hs4 e
  exact sr (an (nretP [I 0] (ci hs4)))
 .rintro i1 y1 rz1 hd1 du bo eA gD hs6 hx1 ag1 e
  refine qK 6 [] U (tO du U (qO 6 U ?_))
  refine nU [(0,.slice fq l.length fp),(3,I (i1:Int)),(36,.bool ((!(jz y1))||(decide (0<(i1:Int))&&decide (y1.No<=(nthI l ((i1:Int)-1)).No))))] (λe=>?_) (λhk1=>?_)
  rotate_left
  .refine eQ ([]) mixed kr jn (λeF _=>?_)
   refine qA [0,1] U (fF 2 (enc:=jD) eF jn ei ul ty54 hl.1 (nthZ bo) (fV bo) U U U U kr (λq4 A4=>tf 3 U U (λ_ _ hj=>kU ty54 (A4.mono hj.1) U U) (tn 4 U (fg call91 (Ea h y1) U (⟨jn,qA [5,6] U ?_⟩)))))
   refine dt 19 U (λc2=>?_) (λc2=>?_)
   .exact tk 7 U U (qR 8 16 U (aN kr (hk1 _ ⟨U,U,(cb (show true=((!(jz y1))||(decide (0<(i1:Int))&&decide (y1.No<=(nthI l ((i1:Int)-1)).No)))from by rw[c2]<;>rfl)),trivial⟩)))
   refine qR 7 3 U ?_
   refine dt 22 U (λc3=>?_) (λc3=>?_)
   .have c3p:=of_decide_eq_true c3
    refine qA [10,11] U (fF 12 (enc:=jD) eF jn ei ul ty54 hl.1 (nthZ bo) (fV bo) U U U U kr (λq5 A5=>qB [13] U (tf 14 U U (rh ty3 A5 U) (qA [15,16] U (tf 17 U U (λ_ _ _=>ny (v':=I ((i1:Int)-1)) U (jc ob)) ?_)))))
    have ho2:0<=(((i1:Int)-1):Int)/\(((i1:Int)-1):Int)<((l).length:Int):=ob
    exact fF 18 (enc:=jD) eF jn ei ul ty54 hl.1 ho2 (dy ho2) U U U U kr (λq6 A6=>qB [19] U (tf 20 U U (rh ty3 A6 U) (qR 21 3 U (aN kr (hk1 _ ⟨U,U,(cb (show decide (y1.No<=(nthI l ((i1:Int)-1)).No)=((!(jz y1))||(decide (0<(i1:Int))&&decide (y1.No<=(nthI l ((i1:Int)-1)).No)))from by rw[c2,c3]<;>rfl)),trivial⟩)))))
   have c3p:=of_decide_eq_false c3
   exact tk 10 U U (qR 11 13 U (aN kr (hk1 _ ⟨U,U,(cb (show false=((!(jz y1))||(decide (0<(i1:Int))&&decide (y1.No<=(nthI l ((i1:Int)-1)).No)))from by rw[c2,c3]<;>rfl)),trivial⟩)))
  refine ae hs6 U (λc4 hs7=>?_) (λc4 hs8=>?_)
  .exact sr (an (nretP [I 290] (ci hs7)))
  exact aQ (qT 3 U (oi i1 U (an (ag1 hs8))))
 rintro i1 hd1 iw hx e
 exact qK 6 [] U (fO iw U (qO 3 U (hx _ rd)))
theorem m4(h:HF)(eS:Int)(least:Int)(most:Int)  : Ret prog 156 [I eS,I least,I most] h (.bool (iK eS least most)):=by
 refine sT func156 U ntmps156 U λX hM hX hF=>?_
 have hs0:=@rfl _ (iK eS least most)
 refine qT 10 U (bD 4 [10,11,12,13,14] 10 14 (decide (eS<=most)) U (λc1 hk1=>?_) (λe=>?_))
 .exact ao (qO 3 U (hk1 _ U))
 exact an (nretP [.bool (decide (least<=eS)&&decide (eS<=most))] (cs hs0))
theorem vv(h:HF)(eS:Int)  : Ret prog 157 [I eS] h (.bool (mT eS)):=by
 refine sT func157 U ntmps157 U λX hM hX hF=>?_
 have hs0:=@rfl _ (mT eS)
 refine qT 9 U (bD 3 [5,6,7,8] 5 8 (decide (eS<1099511627776)) U (λc1 hk1=>?_) (λe=>?_))
 .exact ao (qO 2 U (hk1 _ U))
 exact an (nretP [.bool (decide (0<=eS)&&decide (eS<1099511627776))] (cs hs0))
theorem Eh(h:HF)(x:Budget)  : Ret prog 92 [.agg (qS x).toArray] h (.bool (kh x)):=by
 refine sT func92 U ntmps92 U λX hM hX hF=>?_
 have hs0:=@rfl _ (kh x)
 refine sr (ct (λb1=>qL 7 [0] U (ai KQ (m4 h x.No 0 1048576) U (qO 2 U (cn 5 [7,8,9,10,11,12] 7 12 (!(mT x.At)) U (λc1 hk1=>?_) (λe=>?_))))))
 .exact qL 2 [0] U (ai call157 (vv h x.At) U (qO 2 U (hk1 _ U)))
 refine ao (cn 5 [13,14,15,16,17,18] 13 18 (!(mT x.Known)) U (λc2 hk2=>?_) (λe=>?_))
 .exact qL 2 [0] U (ai call157 (vv h x.Known) U (qO 2 U (hk2 _ U)))
 refine ao (cn 5 [19,20,21,22,23,24] 19 24 (!(iK x.Kind (-1) 15)) U (λc3 hk3=>?_) (λe=>?_))
 .exact qL 2 [0] U (ai KQ (m4 h x.Kind (-1) 15) U (qO 2 U (hk3 _ U)))
 refine ao (cn 5 [25,26,27,28,29,30] 25 30 (!(iK x.Period 1 1099511627776)) U (λc4 hk4=>?_) (λe=>?_))
 .exact qL 2 [0] U (ai KQ (m4 h x.Period 1 1099511627776) U (qO 2 U (hk4 _ U)))
 refine aH (ae hs0 U (λc5 hs1=>?_) (λc5 hs2=>?_))
 .exact sr (an (nretP [.bool false] (cs hs1)))
 refine qK 7 [0] U (ae hs2 U (λc6 hs4=>?_) (λc6 hs5=>?_))
 .refine qK 6 [0] U (bD 4 [36,37,38,39,40] 36 40 (x.Value==0) U (λc7 hk5=>?_) (λe=>?_))
  .exact qL 4 [0] U (hk5 _ U)
  exact an (nretP [.bool ((x.Count==0)&&(x.Value==0))] (cs hs4))
 refine qK 5 [0] U (ai KQ (m4 h x.Count 0 1048576) U (ao (bD 4 [44,45,46,47,48] 44 48 (iK x.Value 0 1099511627776) U (λc8 hk6=>?_) (λe=>?_))))
 .exact qL 2 [0] U (ai KQ (m4 h x.Value 0 1099511627776) U (eM U (hk6 _ U)))
 exact an (nretP [.bool ((iK x.Count 0 1048576)&&(iK x.Value 0 1099511627776))] (cs hs5))
theorem Ei(h:HF)(l:List Budget)(fq:Option Addr)(fp:Nat)(hl:SlC Budget.rp h fq fp l):Ret prog 44 [.slice fq l.length fp] h (I (ig l)):=by
 refine sT func44 U ntmps44 U λX hM hX hF=>?_
 have hs0:=@rfl _ (ig l)
 refine qK 11 [] U (ae hs0 U (λc1 hs1=>?_) (λc1 hs2=>?_))
 .have c1p:=of_decide_eq_true c1
  exact sr (an (nretP [I 2] (ci hs1)))
 have c1p:=of_decide_eq_false c1
 refine qT 6 U ?_
 refine lp0 l (λi=>[(0,.slice fq l.length fp),(3,I (i:Int))]) ([]) (λs1 i=>(ig.L1 l (ig.K1)) s1 i) hl.1.1 hs2 ?_ ?_ ?_
 .rintro i1 fB hs4 e
  exact sr (an (nretP [I 0] (ci hs4)))
 .rintro i1 y1 rz1 hd1 du bo eA gD hs6 hx1 ag1 e
  refine qK 6 [] U (tO du U (qO 6 U ?_))
  refine nU [(0,.slice fq l.length fp),(3,I (i1:Int)),(36,.bool ((!(kh y1))||(decide (0<(i1:Int))&&decide (y1.No<=(nthI l ((i1:Int)-1)).No))))] (λe=>?_) (λhk1=>?_)
  rotate_left
  .refine eQ ([]) mixed kr jn (λeF _=>?_)
   refine qA [0,1] U (fF 2 (enc:=qS) eF jn ei An ty120 hl.1 (nthZ bo) (fV bo) U U U U kr (λq4 A4=>tf 3 U U (λ_ _ hj=>kU ty120 (A4.mono hj.1) U U) (tn 4 U (fg call92 (Eh h y1) U (⟨jn,qA [5,6] U ?_⟩)))))
   refine dt 19 U (λc2=>?_) (λc2=>?_)
   .exact tk 7 U U (qR 8 16 U (aN kr (hk1 _ ⟨U,U,(cb (show true=((!(kh y1))||(decide (0<(i1:Int))&&decide (y1.No<=(nthI l ((i1:Int)-1)).No)))from by rw[c2]<;>rfl)),trivial⟩)))
   refine qR 7 3 U ?_
   refine dt 22 U (λc3=>?_) (λc3=>?_)
   .have c3p:=of_decide_eq_true c3
    refine qA [10,11] U (tf 12 U U (λ_ _ _=>ny (v':=I ((i1:Int)-1)) U (jc ob)) ?_)
    have ho2:0<=(((i1:Int)-1):Int)/\(((i1:Int)-1):Int)<((l).length:Int):=ob
    exact fF 13 (enc:=qS) eF jn ei An ty120 hl.1 ho2 (dy ho2) U U U U kr (λq5 A5=>qB [14] U (tf 15 U U (rh ty3 A5 U) (qA [16,17] U (fF 18 (enc:=qS) eF jn ei An ty120 hl.1 (nthZ bo) (fV bo) U U U U kr (λq6 A6=>qB [19] U (tf 20 U U (rh ty3 A6 U) (qR 21 3 U (aN kr (hk1 _ ⟨U,U,(cb (show decide (y1.No<=(nthI l ((i1:Int)-1)).No)=((!(kh y1))||(decide (0<(i1:Int))&&decide (y1.No<=(nthI l ((i1:Int)-1)).No)))from by rw[c2,c3]<;>rfl)),trivial⟩)))))))))
   have c3p:=of_decide_eq_false c3
   exact tk 10 U U (qR 11 13 U (aN kr (hk1 _ ⟨U,U,(cb (show false=((!(kh y1))||(decide (0<(i1:Int))&&decide (y1.No<=(nthI l ((i1:Int)-1)).No)))from by rw[c2,c3]<;>rfl)),trivial⟩)))
  refine ae hs6 U (λc4 hs7=>?_) (λc4 hs8=>?_)
  .exact sr (an (nretP [I 180] (ci hs7)))
  exact aQ (qT 3 U (oi i1 U (an (ag1 hs8))))
 rintro i1 hd1 iw hx e
 exact qK 6 [] U (fO iw U (qO 3 U (hx _ rd)))
theorem Dd(rec:Expr->Int->Int)(h:HF)(x:Expr)(fX:cY)(limit:Int)(hrec:∀(h:HF)(qx:Expr)(lk:cY)(qlimit:Int)(hqx:qG h qx lk)(_:qx.dep<x.dep),Ret prog 277 [.agg (jC qx lk).toArray,I qlimit] h (I (rec qx qlimit)))(hx:qG h x fX):Ret prog 277 [.agg (jC x fX).toArray,I limit] h (I (dz.F rec x limit)):=by
 refine sT func277 U ntmps277 U λX hM hX hF=>?_
 have hs0:=@rfl _ (dz.F rec x limit)
 refine sr (ct (λb1=>qO 11 U ?_))
 refine lp1 x.L (λi w=>[(1,I limit),(2,Q b1),(5,I w),(6,I (i:Int))]) ([(b1,O (jC x fX) 88)]) (λs1 i w=>(dz.L1 rec limit (dz.K1)) s1 w) 1 hx.list.1.1 hs0 ?_ ?_ ?_
 .rintro i1 jm fB hs1 e
  exact sr (qO 3 U (nretP [I jm] (ci hs1)))
 .rintro i1 jm y1 rz1 hd1 du bo eA gD hs3 hx1 ag1 e
  refine qK 7 [0] U (tO du U (qO 6 U (ae hs3 U (λc2 hs4=>?_) (λc2 hs5=>?_))))
  .have c2p:=of_decide_eq_true c2
   exact qK 8 [0] U (aw (iR lP ty88 hx.list.1 bo U U U (λ_ _ _ e=>e) (λq2 r2 A2 ok2=>dl ty88 A2 U U (qO 3 U (ai call277 (hrec _ _ _ (zE .i64 (limit-jm)) ok2 (kV (fS hd1))) U (qO 6 U (oi i1 U (qO 2 U (ag1 (zE .i64 (jm+(rec y1 (zE .i64 (limit-jm))))) hs4)))))))))
  have c2p:=of_decide_eq_false c2
  exact mr U (hx1 i1 jm hs5)
 rintro i1 jm hd1 iw hx e
 exact qK 7 [0] U (fO iw U (qO 8 U (hx _ rd)))
theorem tx:∀(m:Nat)(h:HF)(x:Expr)(fX:cY)(limit:Int)(_:x.dep<=m)(hx:qG h x fX),Ret prog 277 [.agg (jC x fX).toArray,I limit] h (I (dz.go m x limit))
 |0,h,x,fX,limit,hd,hx=>absurd hd (Nat.not_le.2 (S5 _))
 |m+1,h,x,fX,limit,hd,hx=>Dd (dz.go m) h x fX limit (λqh_ qx lk qlimit qhx qd=>tx m qh_ qx lk qlimit ob qhx) hx
theorem Ef(h:HF)(x:Expr)(fX:cY)(limit:Int)(hx:qG h x fX):Ret prog 277 [.agg (jC x fX).toArray,I limit] h (I (dz x limit)):=tx _ h x fX limit (xG _) hx
theorem De(rec:Expr->Int)(h:HF)(x:Expr)(fX:cY)(hrec:∀(h:HF)(qx:Expr)(lk:cY)(hqx:qG h qx lk)(_:qx.dep<x.dep),Ret prog 278 [.agg (jC qx lk).toArray] h (I (rec qx)))(hx:qG h x fX):Ret prog 278 [.agg (jC x fX).toArray] h (I (bK.F rec x)):=by
 refine sT func278 U ntmps278 U λX hM hX hF=>?_
 have hs0:=@rfl _ (bK.F rec x)
 refine sr (ct (λb1=>qO 11 U ?_))
 refine lp1 x.L (λi w=>[(1,Q b1),(3,I w),(4,I (i:Int))]) ([(b1,O (jC x fX) 88)]) (λs1 i w=>(bK.L1 rec (bK.K1)) s1 w) 0 hx.list.1.1 hs0 ?_ ?_ ?_
 .rintro i1 gZ fB hs1 e
  exact sr (qO 4 U (nretP [I (zE .i64 (gZ+1))] (ci hs1)))
 .rintro i1 gZ y1 rz1 hd1 du bo eA gD hs3 hx1 ag1 e
  exact qK 7 [0] U (tO du U (qL 10 [0] U (aw (iR lP ty88 hx.list.1 bo U U U (λ_ _ _ e=>e) (λq2 r2 A2 ok2=>dl ty88 A2 U U (ai call278 (hrec _ _ _ ok2 (kV (fS hd1))) U (aw (ff (PX U U) (qO 5 U (oi i1 U (an (ag1 (max gZ (rec y1)) hs3))))))))))))
 rintro i1 gZ hd1 iw hx e
 exact qK 7 [0] U (fO iw U (qO 3 U (hx _ rd)))
theorem tz:∀(m:Nat)(h:HF)(x:Expr)(fX:cY)(_:x.dep<=m)(hx:qG h x fX),Ret prog 278 [.agg (jC x fX).toArray] h (I (bK.go m x))
 |0,h,x,fX,hd,hx=>absurd hd (Nat.not_le.2 (S5 _))
 |m+1,h,x,fX,hd,hx=>De (bK.go m) h x fX (λqh_ qx lk qhx qd=>tz m qh_ qx lk ob qhx) hx
theorem Eg(h:HF)(x:Expr)(fX:cY)(hx:qG h x fX):Ret prog 278 [.agg (jC x fX).toArray] h (I (bK x)):=tz _ h x fX (xG _) hx
theorem wL(h:HF)(x:Expr)(fX:cY)(hx:qG h x fX):Ret prog 251 [.agg (jC x fX).toArray] h (.bool (mL x)):=by
 refine sT func251 U ntmps251 U λX hM hX hF=>?_
 have hs0:=@rfl _ (mL x)
 refine sr (ct (λb1=>qO 4 U (cI 0 ty88 U U U (ai call277 (Ef _ _ _ 256 hx) U (qO 2 U (cn 4 [6,7,8,9,10] 6 10 (decide (16<(bK x))) U (λc1 hk1=>?_) (λe=>?_)))))))
 .exact cI 0 ty88 U U U (ai call278 (Eg _ _ _ hx) U (qO 2 U (hk1 _ U)))
 exact an (nretP [.bool (decide (256<(dz x 256))||decide (16<(bK x)))] (cs hs0))
theorem AG(h:HF)(p:Policy)(gG:eU)(hp:kN h p gG):Ret prog 214 [.agg (kD p gG).toArray] h (.bool (gx p)):=by
 refine sT func214 U ntmps214 U λX hM hX hF=>?_
 have hs0:=@rfl _ (gx p)
 refine sr (ct (λb1=>qL 10 [0] U (cn 5 [8,9,10,11,12,13] 8 13 (decide (16<(p.Kinds.length:Int))) U (λc1 hk1=>?_) (λe=>?_))))
 .exact qL 5 [0] U (hk1 _ U)
 refine ao (cn 5 [14,15,16,17,18,19] 14 19 (decide (16<(p.Rules.length:Int))) U (λc2 hk2=>?_) (λe=>?_))
 .exact qL 5 [0] U (hk2 _ U)
 refine ao (cn 4 [20,21,22,23,24] 20 24 (mL p.Change) U (λc3 hk3=>?_) (λe=>?_))
 .exact qL 1 [] U (cI 0 ty88 U U U (ai call251 (wL _ _ _ hp.Change) U (eM U (hk3 _ U))))
 refine aH (ae hs0 U (λc4 hs1=>?_) (λc4 hs2=>?_))
 .exact sr (an (nretP [.bool true] (cs hs1)))
 refine qT 6 U ?_
 refine lp0 p.Rules (λi=>[(1,Q b1),(3,I (i:Int))]) ([(b1,O (kD p gG) 94)]) (λs1 i=>(gx.L1 (gx.K1)) s1) hp.Rules.1.1 hs2 ?_ ?_ ?_
 .rintro i1 fB hs4 e
  exact sr (an (nretP [.bool false] (cs hs4)))
 .rintro i1 y1 rz1 hd1 du bo eA gD hs6 hx1 ag1 e
  refine qK 7 [0] U (tO du U (qL 10 [0] U (aw (iR tQ ty91 hp.Rules.1 bo U U U (λ_ _ _ e=>e) (λq2 r2 A2 ok2=>qL 1 [] U (zm (j:=3) ty88 A2 U U (ai call251 (wL _ _ _ ok2.Expr) U (aH (ae hs6 U (λc6 hs7=>?_) (λc6 hs8=>?_))))))))))
  .exact sr (an (nretP [.bool true] (cs hs7)))
  exact aQ (qT 3 U (oi i1 U (an (ag1 hs8))))
 rintro i1 hd1 iw hx e
 exact qK 7 [0] U (fO iw U (qO 3 U (hx _ rd)))
theorem vx(h:HF)(c:Int)  : Ret prog 286 [Y c] h (.bool (lu c)):=by
 refine sT func286 U ntmps286 U λX hM hX hF=>?_
 have hs0:=@rfl _ (lu c)
 refine qT 9 U (bD 3 [5,6,7,8] 5 8 (decide (c<=122)) U (λc1 hk1=>?_) (λe=>?_))
 .exact ao (qO 2 U (hk1 _ U))
 refine ao (cn 7 [9,10,11,12,13,14,15,16] 9 16 (decide (65<=c)&&decide (c<=90)) U (λc2 hk2=>?_) (λe=>?_))
 .refine qO 3 U (bD 3 [12,13,14,15] 12 15 (decide (c<=90)) U (λc3 hk3=>?_) (λe=>?_))
  .exact ao (qO 2 U (hk3 _ U))
  exact eM U (hk2 _ U)
 exact an (nretP [.bool ((decide (97<=c)&&decide (c<=122))||(decide (65<=c)&&decide (c<=90)))] (cs hs0))
theorem Dh(h:HF)(c:Int)  : Ret prog 298 [Y c] h (.bool (nP c)):=by
 refine sT func298 U ntmps298 U λX hM hX hF=>?_
 have hs0:=@rfl _ (nP c)
 refine qT 9 U (bD 3 [5,6,7,8] 5 8 (decide (c<=57)) U (λc1 hk1=>?_) (λe=>?_))
 .exact ao (qO 2 U (hk1 _ U))
 exact an (nretP [.bool (decide (48<=c)&&decide (c<=57))] (cs hs0))
theorem FC(h:HF)(c:Int)  : Ret prog 287 [Y c] h (.bool (sn c)):=by
 refine sT func287 U ntmps287 U λX hM hX hF=>?_
 have hs0:=@rfl _ (sn c)
 refine qT 7 U (ai call286 (vx h c) U (ao (cn 3 [5,6,7,8] 5 8 (nP c) U (λc1 hk1=>?_) (λe=>?_))))
 .exact ao (ai call298 (Dh h c) U (eM U (hk1 _ U)))
 refine ao (cn 3 [9,10,11,12] 9 12 (c==95) U (λc2 hk2=>?_) (λe=>?_))
 .exact ao (qO 2 U (hk2 _ U))
 exact an (nretP [.bool (((lu c)||(nP c))||(c==95))] (cs hs0))
theorem FD(h:HF)(s:ByteArray)  : Ret prog 279 [.string s] h (.bool (ip s)):=by
 refine sT func279 U ntmps279 U λX hM hX hF=>?_
 have hs0:=@rfl _ (ip s)
 refine qT 8 U (aw (ff (BI Ao U) (qO 2 U (cn 4 [7,8,9,10,11] 7 11 (decide (32<(s.size:Int))) U (λc1 hk1=>?_) (λe=>?_)))))
 .exact ao (aw (ff (BI Ao U) (qO 2 U (hk1 _ U))))
 refine ao (cn 5 [12,13,14,15,16,17] 12 17 (!(lu ((s.data.getD (0:Int).toNat 0).toNat:Int))) U (λc2 hk2=>?_) (λe=>?_))
 .refine ao ?_
  have ho1:0<=(0:Int)/\(0:Int)<(s.size:Int):=ob
  exact aw (ff (Hs Ao U U ho1) (ai call286 (vx h ((s.data.getD (0:Int).toNat 0).toNat:Int)) U (qO 2 U (hk2 _ U))))
 refine aH (ae hs0 U (λc3 hs1=>?_) (λc3 hs2=>?_))
 .exact sr (an (nretP [.bool false] (cs hs1)))
 refine qT 6 U ?_
 refine iA (ι:=Nat) (λi=>[]) (λi=>h) (λi=>[]) (λi=>i<=(jJ s.size).length/\ip s=((ip.K1))) ?_ (λhx1=>?_)
 .rintro i1 ⟨fB,hs4⟩ e
  exact sr (an (nretP [.bool true] (cs hs4)))
 refine kl (ι:=Nat×List Nat) (λi=>[(0,.string s),(3,I (i.1:Int))]) (λi=>h) (λi=>[]) (λi=>(jJ s.size).drop i.1=i.2/\i.1<=(jJ s.size).length/\ip s=((ip.L1 s (ip.K1)) i.2 i.1)) (λi=>i.2.length) (0,(jJ s.size)) rd sw ⟨U,vM _,hs2⟩ ?_
 rintro⟨i1,s1⟩ ⟨hd1,fB,hs6⟩ ag1 e
 rcases s1 with _|⟨y1,rz1⟩
 .have iw:decide ((i1:Int)<(s.size:Int))=false:=by simpa using oI hd1
  exact dJ (qT 4 U (aw (ff (BI Ao U) (fO iw U (qO 3 U (hx1 i1 _ ⟨fB,hs6⟩ trivial))))))
 have du:decide ((i1:Int)<(s.size:Int))=true:=by simpa using tJ hd1
 have eA:i1<s.size:=by simpa using jv hd1
 refine qT 5 U (aw (ff (BI Ao U) (tO du U (qO 9 U ?_))))
 have ho3:0<=((i1:Int):Int)/\((i1:Int):Int)<(s.size:Int):=ob
 refine aw (ff (Hs Ao U U ho3) (ai call287 (FC h ((s.data.getD ((i1:Int):Int).toNat 0).toNat:Int)) U (qO 2 U (ae hs6 U (λc5 hs8=>?_) (λc5 hs9=>?_)))))
 .exact sr (an (nretP [.bool false] (cs hs8)))
 exact aQ (qT 3 U (oi i1 U (an (ag1 ((i1+1),rz1) _ (Nat.lt_succ_self _) ⟨mY hd1,jv hd1,hs9⟩ rd))))
theorem Fy(h:HF)(s:ByteArray)  : Ret prog 280 [.string s] h (.bool (oB s)):=by
 refine sT func280 U ntmps280 U λX hM hX hF=>?_
 have hs0:=@rfl _ (oB s)
 refine qT 16 U (ae hs0 U (λc1 hs1=>?_) (λc1 hs2=>?_))
 .refine aQ (ae hs1 U (λc2 hs3=>?_) (λc2 hs4=>?_))
  .exact sr (an (nretP [.bool true] (cs hs3)))
  exact aQ (qT 5 U (nretP [.bool false] (cs hs4)))
 refine qT 5 U (ae hs2 U (λc3 hs7=>?_) (λc3 hs8=>?_))
 .refine aQ (ae hs7 U (λc4 hs9=>?_) (λc4 hs10=>?_))
  .exact sr (an (nretP [.bool true] (cs hs9)))
  exact aQ (qT 5 U (nretP [.bool false] (cs hs10)))
 refine qT 5 U (ae hs8 U (λc5 hs13=>?_) (λc5 hs14=>?_))
 .refine aQ (ae hs13 U (λc6 hs15=>?_) (λc6 hs16=>?_))
  .exact sr (an (nretP [.bool true] (cs hs15)))
  exact aQ (qT 5 U (nretP [.bool false] (cs hs16)))
 refine qT 5 U (ae hs14 U (λc7 hs19=>?_) (λc7 hs20=>?_))
 .refine aQ (ae hs19 U (λc8 hs21=>?_) (λc8 hs22=>?_))
  .exact sr (an (nretP [.bool true] (cs hs21)))
  exact aQ (qT 5 U (nretP [.bool false] (cs hs22)))
 refine qT 5 U (ae hs20 U (λc9 hs25=>?_) (λc9 hs26=>?_))
 .refine aQ (ae hs25 U (λc10 hs27=>?_) (λc10 hs28=>?_))
  .exact sr (an (nretP [.bool true] (cs hs27)))
  exact aQ (qT 5 U (nretP [.bool false] (cs hs28)))
 refine qT 5 U (ae hs26 U (λc11 hs31=>?_) (λc11 hs32=>?_))
 .refine aQ (ae hs31 U (λc12 hs33=>?_) (λc12 hs34=>?_))
  .exact sr (an (nretP [.bool true] (cs hs33)))
  exact aQ (qT 5 U (nretP [.bool false] (cs hs34)))
 refine qT 5 U (ae hs32 U (λc13 hs37=>?_) (λc13 hs38=>?_))
 .refine aQ (ae hs37 U (λc14 hs39=>?_) (λc14 hs40=>?_))
  .exact sr (an (nretP [.bool true] (cs hs39)))
  exact aQ (qT 5 U (nretP [.bool false] (cs hs40)))
 refine qT 5 U (ae hs38 U (λc15 hs43=>?_) (λc15 hs44=>?_))
 .refine aQ (ae hs43 U (λc16 hs45=>?_) (λc16 hs46=>?_))
  .exact sr (an (nretP [.bool true] (cs hs45)))
  exact aQ (qT 5 U (nretP [.bool false] (cs hs46)))
 refine qT 5 U (ae hs44 U (λc17 hs49=>?_) (λc17 hs50=>?_))
 .refine aQ (ae hs49 U (λc18 hs51=>?_) (λc18 hs52=>?_))
  .exact sr (an (nretP [.bool true] (cs hs51)))
  exact aQ (qT 5 U (nretP [.bool false] (cs hs52)))
 refine qT 5 U (ae hs50 U (λc19 hs55=>?_) (λc19 hs56=>?_))
 .refine aQ (ae hs55 U (λc20 hs57=>?_) (λc20 hs58=>?_))
  .exact sr (an (nretP [.bool true] (cs hs57)))
  exact aQ (qT 5 U (nretP [.bool false] (cs hs58)))
 refine qT 5 U (ae hs56 U (λc21 hs61=>?_) (λc21 hs62=>?_))
 .refine aQ (ae hs61 U (λc22 hs63=>?_) (λc22 hs64=>?_))
  .exact sr (an (nretP [.bool true] (cs hs63)))
  exact aQ (qT 5 U (nretP [.bool false] (cs hs64)))
 refine qT 5 U (ae hs62 U (λc23 hs67=>?_) (λc23 hs68=>?_))
 .refine aQ (ae hs67 U (λc24 hs69=>?_) (λc24 hs70=>?_))
  .exact sr (an (nretP [.bool true] (cs hs69)))
  exact aQ (qT 5 U (nretP [.bool false] (cs hs70)))
 refine qT 5 U (ae hs68 U (λc25 hs73=>?_) (λc25 hs74=>?_))
 .refine aQ (ae hs73 U (λc26 hs75=>?_) (λc26 hs76=>?_))
  .exact sr (an (nretP [.bool true] (cs hs75)))
  exact aQ (qT 5 U (nretP [.bool false] (cs hs76)))
 refine qT 5 U (ae hs74 U (λc27 hs79=>?_) (λc27 hs80=>?_))
 .refine aQ (ae hs79 U (λc28 hs81=>?_) (λc28 hs82=>?_))
  .exact sr (an (nretP [.bool true] (cs hs81)))
  exact aQ (qT 5 U (nretP [.bool false] (cs hs82)))
 refine qT 5 U (ae hs80 U (λc29 hs85=>?_) (λc29 hs86=>?_))
 .refine aQ (ae hs85 U (λc30 hs87=>?_) (λc30 hs88=>?_))
  .exact sr (an (nretP [.bool true] (cs hs87)))
  exact aQ (qT 5 U (nretP [.bool false] (cs hs88)))
 refine qT 4 U (ae hs86 U (λc31 hs91=>?_) (λc31 hs92=>?_))
 .exact sr (an (nretP [.bool true] (cs hs91)))
 exact aQ (qT 5 U (nretP [.bool false] (cs hs92)))
theorem yK(h:HF)(s:ByteArray)  : Ret prog 252 [.string s] h (.bool (pV s)):=by
 refine sT func252 U ntmps252 U λX hM hX hF=>?_
 have hs0:=@rfl _ (pV s)
 refine qT 7 U (ai call279 (FD h s) U (ao (bD 4 [5,6,7,8,9] 5 9 (!(oB s)) U (λc1 hk1=>?_) (λe=>?_))))
 .exact ao (ai call280 (Fy h s) U (qO 2 U (hk1 _ U)))
 exact an (nretP [.bool ((ip s)&&(!(oB s)))] (cs hs0))
theorem sj(h:HF)(l:List ByteArray)(fq:Option Addr)(fp:Nat)(s:ByteArray)(hl:SlC Sz h fq fp l):Ret prog 256 [.slice fq l.length fp,.string s] h (I (eC l s)):=by
 refine sT func256 U ntmps256 U λX hM hX hF=>?_
 have hs0:=@rfl _ (eC l s)
 refine qT 9 U ?_
 refine lp0 l (λi=>[(0,.slice fq l.length fp),(1,.string s),(5,I (i:Int))]) ([]) (λs1 i=>(eC.L1 s (eC.K1)) s1 i) hl.1.1 hs0 ?_ ?_ ?_
 .rintro i1 fB hs1 e
  exact sr (an (nretP [I (-1)] (ci hs1)))
 .rintro i1 y1 rz1 hd1 du bo eA gD hs3 hx1 ag1 e
  refine qK 6 [] U (tO du U (qO 9 U (aw (iF (λy=>[.string y]) vt ty9 hl.1 bo U U U (λq2 A2=>de ty9 A2 U (qO 3 U (ae hs3 U (λc2 hs4=>?_) (λc2 hs5=>?_))))))))
  .exact sr (qO 3 U (nretP [I (i1:Int)] (ci hs4)))
  exact aQ (qT 3 U (oi i1 U (an (ag1 hs5))))
 rintro i1 hd1 iw hx e
 exact qK 6 [] U (fO iw U (qO 3 U (hx _ rd)))
theorem tv(h:HF)(l:List ByteArray)(fq:Option Addr)(fp:Nat)(hl:SlC Sz h fq fp l):Ret prog 253 [.slice fq l.length fp] h (.bool (fJ l)):=by
 refine sT func253 U ntmps253 U λX hM hX hF=>?_
 have hs0:=@rfl _ (fJ l)
 refine qT 9 U ?_
 refine lp0 l (λi=>[(0,.slice fq l.length fp),(3,I (i:Int))]) ([]) (λs1 i=>(fJ.L1 l (fJ.K1)) s1 i) hl.1.1 hs0 ?_ ?_ ?_
 .rintro i1 fB hs1 e
  exact sr (an (nretP [.bool true] (cs hs1)))
 .rintro i1 y1 rz1 hd1 du bo eA gD hs3 hx1 ag1 e
  refine qK 6 [] U (tO du U (qO 9 U (aw (iF (λy=>[.string y]) vt ty9 hl.1 bo U U U (λq3 A3=>de ty9 A3 U (ai call252 (yK h y1) U (qO 2 U (cn 9 [16,17,18,19,20,21,22,23,24,25] 16 25 ((eC l y1) != (i1:Int)) U (λc1 hk1=>?_) (λe=>?_)))))))))
  .exact ao (qO 2 U (aw (iF (λy=>[.string y]) vt ty9 hl.1 bo U U U (λq4 A4=>de ty9 A4 U (ai call256 (sj _ _ _ _ y1 hl) U (qO 3 U (hk1 _ U)))))))
  refine aH (ae hs3 U (λc2 hs4=>?_) (λc2 hs5=>?_))
  .exact sr (an (nretP [.bool false] (cs hs4)))
  exact aQ (qT 3 U (oi i1 U (an (ag1 hs5))))
 rintro i1 hd1 iw hx e
 exact qK 6 [] U (fO iw U (qO 3 U (hx _ rd)))
theorem Db(rec:List ByteArray->Expr->Bool)(h:HF)(offices:List ByteArray)(dF:Option Addr)(dE:Nat)(x:Expr)(fX:cY)(hrec:∀(h:HF)(qoffices:List ByteArray)(j5:Option Addr)(j4:Nat)(qx:Expr)(lk:cY)(hqoffices:SlC Sz h j5 j4 qoffices)(hqx:qG h qx lk)(_:qx.dep<x.dep),Ret prog 254 [.slice j5 qoffices.length j4,.agg (jC qx lk).toArray] h (.bool (rec qoffices qx)))(hoffices:SlC Sz h dF dE offices)(hx:qG h x fX):Ret prog 254 [.slice dF offices.length dE,.agg (jC x fX).toArray] h (.bool (cC.F rec offices x)):=by
 refine sT func254 U ntmps254 U λX hM hX hF=>?_
 have hs0:=@rfl _ (cC.F rec offices x)
 refine sr (ct (λb1=>qL 9 [0] U (cn 4 [9,10,11,12,13] 9 13 (x.Kind==2) U (λc1 hk1=>?_) (λe=>?_))))
 .exact qL 4 [0] U (hk1 _ U)
 refine ao (bD 6 [14,15,16,17,18,19,20] 14 20 (decide ((eC offices x.Name)<0)) U (λc2 hk2=>?_) (λe=>?_))
 .exact qL 3 [0] U (ai call256 (sj _ _ _ _ x.Name hoffices) U (qO 2 U (hk2 _ U)))
 refine aH (ae hs0 U (λc3 hs1=>?_) (λc3 hs2=>?_))
 .exact sr (an (nretP [.bool false] (cs hs1)))
 refine qT 6 U ?_
 refine lp0 x.L (λi=>[(0,.slice dF offices.length dE),(3,Q b1),(5,I (i:Int))]) ([(b1,O (jC x fX) 88)]) (λs1 i=>(cC.L1 rec offices (cC.K1)) s1) hx.list.1.1 hs2 ?_ ?_ ?_
 .rintro i1 fB hs4 e
  exact sr (an (nretP [.bool true] (cs hs4)))
 .rintro i1 y1 rz1 hd1 du bo eA gD hs6 hx1 ag1 e
  refine qK 7 [0] U (tO du U (qL 11 [0] U (aw (iR lP ty88 hx.list.1 bo U U U (λ_ _ _ e=>e) (λq2 r2 A2 ok2=>dl ty88 A2 U U (ai call254 (hrec _ _ _ _ _ _ hoffices ok2 (kV (fS hd1))) U (qO 2 U (ae hs6 U (λc5 hs7=>?_) (λc5 hs8=>?_)))))))))
  .exact sr (an (nretP [.bool false] (cs hs7)))
  exact aQ (qT 3 U (oi i1 U (an (ag1 hs8))))
 rintro i1 hd1 iw hx e
 exact qK 7 [0] U (fO iw U (qO 3 U (hx _ rd)))
theorem tr:∀(m:Nat)(h:HF)(offices:List ByteArray)(dF:Option Addr)(dE:Nat)(x:Expr)(fX:cY)(_:x.dep<=m)(hoffices:SlC Sz h dF dE offices)(hx:qG h x fX),Ret prog 254 [.slice dF offices.length dE,.agg (jC x fX).toArray] h (.bool (cC.go m offices x))
 |0,h,offices,dF,dE,x,fX,hd,hoffices,hx=>absurd hd (Nat.not_le.2 (S5 _))
 |m+1,h,offices,dF,dE,x,fX,hd,hoffices,hx=>Db (cC.go m) h offices dF dE x fX (λqh_ qoffices j5 j4 qx lk qhoffices qhx qd=>tr m qh_ qoffices j5 j4 qx lk ob qhoffices qhx) hoffices hx
theorem wK(h:HF)(offices:List ByteArray)(dF:Option Addr)(dE:Nat)(x:Expr)(fX:cY)(hoffices:SlC Sz h dF dE offices)(hx:qG h x fX):Ret prog 254 [.slice dF offices.length dE,.agg (jC x fX).toArray] h (.bool (cC offices x)):=tr _ h offices dF dE x fX (xG _) hoffices hx
theorem Ee(h:HF)(p:Policy)(gG:eU)(hp:kN h p gG):Ret prog 215 [.agg (kD p gG).toArray] h (.bool (jg p)):=by
 refine sT func215 U ntmps215 U λX hM hX hF=>?_
 have hs0:=@rfl _ (jg p)
 refine sr (ct (λb1=>qL 7 [0] U (ai call252 (yK h p.Name) U (qO 2 U (cn 5 [8,9,10,11,12,13] 8 13 (!(fJ p.Offices)) U (λc1 hk1=>?_) (λe=>?_))))))
 .exact qL 2 [0] U (ai call253 (tv _ _ _ _ hp.Offices) U (qO 2 U (hk1 _ U)))
 refine ao (cn 5 [14,15,16,17,18,19] 14 19 (!(fJ p.Kinds)) U (λc2 hk2=>?_) (λe=>?_))
 .exact qL 2 [0] U (ai call253 (tv _ _ _ _ hp.Kinds) U (qO 2 U (hk2 _ U)))
 refine aH (ae hs0 U (λc3 hs1=>?_) (λc3 hs2=>?_))
 .exact sr (an (nretP [.bool false] (cs hs1)))
 refine qT 6 U ?_
 let z1:Nat×Obj:=(b1,O (kD p gG) 94)
 refine lp0 p.Rules (λi=>[(1,Q b1),(3,I (i:Int))]) ([z1]) (λs1 i=>(jg.L1 p (jg.K1 p)) s1) hp.Rules.1.1 hs2 ?_ ?_ ?_
 .rintro i1 fB hs4 e
  exact qK 5 [0] U (cI 0 ty88 U U U (ai call254 (wK _ _ _ _ _ _ hp.Offices hp.Change) U (an (nretP [.bool (cC p.Offices p.Change)] (cs hs4)))))
 .rintro i1 y1 rz1 hd1 du bo eA gD hs6 hx1 ag1 e
  refine qK 7 [0] U (tO du U (qO 6 U (eQ ([z1]) mixed kr jn (λeF _=>qB [0] U (tf 1 U U (rj 0 ty89 U U U) (qB [2] U (tf 3 U U (rj 0 ty92 U U U) (tm 4 U (km 5 eF jn tQ ty91 hp.Rules.1 (nthZ bo) (fV bo) U U U U kr (λq2 cs2 A2 ln2 rr2=>?_))))))))))
  obtain⟨r2,rfl,ok2⟩:=rr2
  refine qB [6] U (tf 7 U U (λ_ _ hj=>NR 3 ty88 (A2.mono hj.1) U U) (tn 8 U (fg call254 (wK _ _ _ _ _ _ hp.Offices ok2.Expr) U (⟨jn,(qA [9] U (aN kr (ae hs6 U (λc5 hs7=>?_) (λc5 hs8=>?_))))⟩))))
  .exact sr (an (nretP [.bool false] (cs hs7)))
  exact aQ (qT 3 U (oi i1 U (an (ag1 hs8))))
 rintro i1 hd1 iw hx e
 exact qK 7 [0] U (fO iw U (qO 3 U (hx _ rd)))
theorem wM(rec:Expr->Bool->Bool)(h:HF)(x:Expr)(fX:cY)(upto:Bool)(hrec:∀(h:HF)(qx:Expr)(lk:cY)(qupto:Bool)(hqx:qG h qx lk)(_:qx.dep<x.dep),Ret prog 255 [.agg (jC qx lk).toArray,.bool qupto] h (.bool (rec qx qupto)))(hx:qG h x fX):Ret prog 255 [.agg (jC x fX).toArray,.bool upto] h (.bool (aM.F rec x upto)):=by
 refine sT func255 U ntmps255 U λX hM hX hF=>?_
 have hs0:=@rfl _ (aM.F rec x upto)
 refine sr (ct (λb1=>qO 7 U ?_))
 refine lp0 x.L (λi=>[(1,.bool upto),(2,Q b1),(5,I (i:Int))]) ([(b1,O (jC x fX) 88)]) (λs1 i=>(aM.L1 rec upto (aM.K1 x upto)) s1) hx.list.1.1 hs0 ?_ ?_ ?_
 .rintro i1 fB hs1 e
  refine qK 12 [0] U (ae hs1 U (λc3 hs2=>?_) (λc3 hs3=>?_))
  .refine qK 6 [0] U (bD 5 [28,29,30,31,32,33] 28 33 ((x.L.length:Int)==0) U (λc4 hk1=>?_) (λe=>?_))
   .exact qL 5 [0] U (hk1 _ U)
   exact an (nretP [.bool ((x.N==0)&&((x.L.length:Int)==0))] (cs hs2))
  refine qT 5 U (ae hs3 U (λc5 hs5=>?_) (λc5 hs6=>?_))
  .refine qK 6 [0] U (bD 4 [39,40,41,42,43] 39 43 (decide (x.N<=4096)) U (λc6 hk2=>?_) (λe=>?_))
   .exact qL 4 [0] U (hk2 _ U)
   refine ao (bD 5 [44,45,46,47,48,49] 44 49 ((x.L.length:Int)==0) U (λc7 hk3=>?_) (λe=>?_))
   .exact qL 5 [0] U (hk3 _ U)
   exact an (nretP [.bool ((decide (1<=x.N)&&decide (x.N<=4096))&&((x.L.length:Int)==0))] (cs hs5))
  refine qT 5 U (ae hs6 U (λc8 hs8=>?_) (λc8 hs9=>?_))
  .refine qK 6 [0] U (bD 5 [55,56,57,58,59,60] 55 60 (decide (1<=(x.L.length:Int))) U (λc9 hk4=>?_) (λe=>?_))
   .exact qL 5 [0] U (hk4 _ U)
   refine ao (bD 5 [61,62,63,64,65,66] 61 66 (decide ((x.L.length:Int)<=16)) U (λc10 hk5=>?_) (λe=>?_))
   .exact qL 5 [0] U (hk5 _ U)
   refine ao (bD 4 [67,68,69,70,71] 67 71 (decide (1<=x.N)) U (λc11 hk6=>?_) (λe=>?_))
   .exact qL 4 [0] U (hk6 _ U)
   refine ao (bD 7 [72,73,74,75,76,77,78,79] 72 79 (decide (x.N<=(x.L.length:Int))) U (λc12 hk7=>?_) (λe=>?_))
   .exact qL 7 [0,0] U (hk7 _ U)
   exact an (nretP [.bool (((((x.Name.toList==(⟨#[]⟩:ByteArray).toList)&&decide (1<=(x.L.length:Int)))&&decide ((x.L.length:Int)<=16))&&decide (1<=x.N))&&decide (x.N<=(x.L.length:Int)))] (cs hs8))
  refine qT 5 U (ae hs9 U (λc13 hs11=>?_) (λc13 hs12=>?_))
  .refine qT 4 U (bD 4 [83,84,85,86,87] 83 87 (x.Name.toList==(⟨#[]⟩:ByteArray).toList) U (λc14 hk8=>?_) (λe=>?_))
   .exact qL 4 [0] U (hk8 _ U)
   refine ao (bD 5 [88,89,90,91,92,93] 88 93 ((x.L.length:Int)==2) U (λc15 hk9=>?_) (λe=>?_))
   .exact qL 5 [0] U (hk9 _ U)
   refine ao (bD 4 [94,95,96,97,98] 94 98 (decide (0<=x.N)) U (λc16 hk10=>?_) (λe=>?_))
   .exact qL 4 [0] U (hk10 _ U)
   refine ao (bD 4 [99,100,101,102,103] 99 103 (decide (x.N<=1099511627776)) U (λc17 hk11=>?_) (λe=>?_))
   .exact qL 4 [0] U (hk11 _ U)
   exact an (nretP [.bool ((((upto&&(x.Name.toList==(⟨#[]⟩:ByteArray).toList))&&((x.L.length:Int)==2))&&decide (0<=x.N))&&decide (x.N<=1099511627776))] (cs hs11))
  exact aQ (qT 5 U (nretP [.bool false] (cs hs12)))
 .rintro i1 y1 rz1 hd1 du bo eA gD hs15 hx1 ag1 e
  refine qK 7 [0] U (tO du U (qL 10 [0] U (aw (iR lP ty88 hx.list.1 bo U U U (λ_ _ _ e=>e) (λq2 r2 A2 ok2=>dl ty88 A2 U U (ao (ai call255 (hrec _ _ _ upto ok2 (kV (fS hd1))) U (qO 2 U (ae hs15 U (λc18 hs16=>?_) (λc18 hs17=>?_))))))))))
  .exact sr (an (nretP [.bool false] (cs hs16)))
  exact aQ (qT 3 U (oi i1 U (an (ag1 hs17))))
 rintro i1 hd1 iw hx e
 exact qK 7 [0] U (fO iw U (qO 3 U (hx _ rd)))
theorem pc:∀(m:Nat)(h:HF)(x:Expr)(fX:cY)(upto:Bool)(_:x.dep<=m)(hx:qG h x fX),Ret prog 255 [.agg (jC x fX).toArray,.bool upto] h (.bool (aM.go m x upto))
 |0,h,x,fX,upto,hd,hx=>absurd hd (Nat.not_le.2 (S5 _))
 |m+1,h,x,fX,upto,hd,hx=>wM (aM.go m) h x fX upto (λqh_ qx lk qupto qhx qd=>pc m qh_ qx lk qupto ob qhx) hx
theorem ru(h:HF)(x:Expr)(fX:cY)(upto:Bool)(hx:qG h x fX):Ret prog 255 [.agg (jC x fX).toArray,.bool upto] h (.bool (aM x upto)):=pc _ h x fX upto (xG _) hx
theorem Dc(h:HF)(p:Policy)(gG:eU)(hp:kN h p gG):Ret prog 216 [.agg (kD p gG).toArray] h (.bool (iJ p)):=by
 refine sT func216 U ntmps216 U λX hM hX hF=>?_
 have hs0:=@rfl _ (iJ p)
 refine sr (ct (λb1=>qL 10 [0] U (cn 8 [9,10,11,12,13,14,15,16,17] 9 17 ((p.Rules.length:Int) != (p.Kinds.length:Int)) U (λc1 hk1=>?_) (λe=>?_))))
 .exact qL 8 [0,0] U (hk1 _ U)
 refine ao (cn 4 [18,19,20,21,22] 18 22 (decide (p.Mode<1)) U (λc2 hk2=>?_) (λe=>?_))
 .exact qL 4 [0] U (hk2 _ U)
 refine ao (cn 4 [23,24,25,26,27] 23 27 (decide (4<p.Mode)) U (λc3 hk3=>?_) (λe=>?_))
 .exact qL 4 [0] U (hk3 _ U)
 refine aH (ae hs0 U (λc4 hs1=>?_) (λc4 hs2=>?_))
 .exact sr (an (nretP [.bool false] (cs hs1)))
 refine qT 6 U ?_
 let z1:Nat×Obj:=(b1,O (kD p gG) 94)
 refine lp0 p.Rules (λi=>[(1,Q b1),(3,I (i:Int))]) ([z1]) (λs1 i=>(iJ.L1 p (iJ.K1 p)) s1 i) hp.Rules.1.1 hs2 ?_ ?_ ?_
 .rintro i1 fB hs4 e
  exact qK 3 [] U (cI 0 ty88 U U U (ai call255 (ru _ _ _ false hp.Change) U (an (nretP [.bool (aM p.Change false)] (cs hs4)))))
 .rintro i1 y1 rz1 hd1 du bo eA gD hs6 hx1 ag1 e
  refine qK 7 [0] U (tO du U (qL 10 [0] U (aw (iR tQ ty91 hp.Rules.1 bo U U U (λ_ _ _ e=>e) (λq3 r2 A3 ok2=>dl ty91 A3 U U (aU zc91 (λb3=>aR 0 ty91 U U U U U U (qO 2 U ?_))))))))
  refine nU [(1,Q b1),(3,I (i1:Int)),(63,.bool ((((!(y1.Kind.toList==(nthI p.Kinds (i1:Int)).toList))||decide (y1.Think<0))||decide (1099511627776<=y1.Think))||(!(aM y1.Expr true))))] (λe=>?_) (λhk4=>?_)
  rotate_left
  .refine eQ ([(b3,O (TC y1 r2) 91),z1]) mixed kr jn (λeF _=>?_)
   refine qB [0] U (tf 1 U U (rj 0 ty9 U U U) (qB [2] U (tf 3 U U (rj 1 ty89 U U U) (tm 4 U ?_))))
   have ho2:0<=((i1:Int):Int)/\((i1:Int):Int)<((p.Kinds).length:Int):=ob
   refine fF 5 (enc:=λy=>[.string y]) eF jn ei vt ty9 hp.Kinds.1 ho2 (dy ho2) U U U U kr (λq4 A4=>tf 6 U U (rh ty9 A4 U) (qA [7,8] U ?_))
   refine dt 48 U (λc5=>?_) (λc5=>?_)
   .exact tk 9 U U (qR 10 14 U (aN kr (hk4 _ ⟨U,U,(cb (show true=((((!(y1.Kind.toList==(nthI p.Kinds (i1:Int)).toList))||decide (y1.Think<0))||decide (1099511627776<=y1.Think))||(!(aM y1.Expr true)))from by rw[c5]<;>rfl)),trivial⟩)))
   refine qB [9] U (tf 10 U U (rj 0 ty3 U U U) (qR 11 3 U ?_))
   refine dt 53 U (λc6=>?_) (λc6=>?_)
   .have c6p:=of_decide_eq_true c6
    exact tk 14 U U (qR 15 9 U (aN kr (hk4 _ ⟨U,U,(cb (show true=((((!(y1.Kind.toList==(nthI p.Kinds (i1:Int)).toList))||decide (y1.Think<0))||decide (1099511627776<=y1.Think))||(!(aM y1.Expr true)))from by rw[c5,c6]<;>rfl)),trivial⟩)))
   have c6p:=of_decide_eq_false c6
   refine qB [14] U (tf 15 U U (rj 0 ty3 U U U) (qR 16 3 U ?_))
   refine dt 58 U (λc7=>?_) (λc7=>?_)
   .have c7p:=of_decide_eq_true c7
    exact tk 19 U U (qR 20 4 U (aN kr (hk4 _ ⟨U,U,(cb (show true=((((!(y1.Kind.toList==(nthI p.Kinds (i1:Int)).toList))||decide (y1.Think<0))||decide (1099511627776<=y1.Think))||(!(aM y1.Expr true)))from by rw[c5,c6,c7]<;>rfl)),trivial⟩)))
   have c7p:=of_decide_eq_false c7
   exact tf 19 U U (λ_ _ _=>tA PD U) (tf 20 U U (λ_ _ hj=>jZ ty88 U (hj.nth (i:=0) U) U) (tn 21 U (fg call255 (ru _ _ _ true ok2.Expr) U (⟨jn,qA [22,23] U (aN kr (hk4 _ ⟨U,U,(cb (show(!(aM y1.Expr true))=((((!(y1.Kind.toList==(nthI p.Kinds (i1:Int)).toList))||decide (y1.Think<0))||decide (1099511627776<=y1.Think))||(!(aM y1.Expr true)))from by rw[c5,c6,c7]<;>rfl)),trivial⟩))⟩))))
  refine ae hs6 U (λc8 hs7=>?_) (λc8 hs8=>?_)
  .exact sr (an (nretP [.bool false] (cs hs7)))
  exact aQ (qT 3 U (oi i1 U (an (bj (L':=[z1]) js (ag1 hs8)))))
 rintro i1 hd1 iw hx e
 exact qK 7 [0] U (fO iw U (qO 3 U (hx _ rd)))
theorem zg(rec:List ByteArray->Expr->Expr)(h:HF)(offices:List ByteArray)(dF:Option Addr)(dE:Nat)(x:Expr)(fX:cY)(hrec:∀(h:HF)(qoffices:List ByteArray)(j5:Option Addr)(j4:Nat)(qx:Expr)(lk:cY)(hqoffices:SlC Sz h j5 j4 qoffices)(hqx:qG h qx lk)(hsz:qx.dep<=2000000)(_:qx.dep<x.dep),jY prog 217 [.slice j5 qoffices.length j4,.agg (jC qx lk).toArray] h (λv h'=>∃(rr0:cY),v=.agg (jC (rec qoffices qx) rr0).toArray/\qG h' (rec qoffices qx) rr0))(hoffices:SlC Sz h dF dE offices)(hx:qG h x fX)(hsz:x.dep<=2000000):jY prog 217 [.slice dF offices.length dE,.agg (jC x fX).toArray] h (λv h'=>∃(rr0:cY),v=.agg (jC (ah.F rec offices x) rr0).toArray/\qG h' (ah.F rec offices x) rr0):=by
 refine cD func217 U ntmps217 U λX hM hX=>?_
 have hs0:=@rfl _ (ah.F rec offices x)
 have hln:=Expr.HJ x
 refine sr (ct (λb1=>aU zc88 (λb2=>qO 3 U (cI 1 ty88 U U U (aU zc88 (λb3=>aR 0 ty88 U U U U U U (qL 4 [] U (cB 0 ty3 U U U U U U (qL 8 [2] U (cn 4 [12,13,14,15,16] 12 16 (x.Kind==2) U (λc1 hk1=>?_) (λe=>?_)))))))))))
 .exact qL 4 [2] U (hk1 _ U)
 refine aH (ae hs0 U (λc2 hs1=>?_) (λc2 hs2=>?_))
 .refine qK 4 [2] U (ai call256 (sj _ _ _ _ x.Name hoffices) U (qL 1 [] U (cB 0 ty3 U U U U U U (qL 4 [] U (cB 0 ty86 U U U U U U (qO 6 U ?_))))))
  let z1:Nat×Obj:=(b2,O [I 0,I 0,I 0,.string (⟨#[]⟩:ByteArray),.slice none 0 0] 88)
  let z3:Nat×Obj:=(b1,O (jC x fX) 88)
  refine lp2 x.L (λi w=>[(0,.slice dF offices.length dE),(3,Q b1),(4,Q b2),(5,Q b3),(6,I (i:Int))]) (λw=>w.2.2.2.2) (λw=>[(b3,O [I x.Kind,I x.N,I (eC offices x.Name),.string x.Name,.slice w.2.1 w.1.length w.2.2.1] 88),z1,z3]++(w.2.2.2.1)) (λi w=>dA Su 88 w.2.2.2.2 w.1 w.2.1 w.2.2.1 w.2.2.2.1/\w.1.length<=0+i/\kK h w.2.2.2.2) (λs1 i w=>(ah.L1 rec offices (ah.K1 offices x)) s1 w.1) ([],none,0,[],h) hx.list.1.1 hs1 ⟨dA.nil,lo,lf⟩ ?_ ?_ ?_
  .rintro i1 ⟨kp,nF,nE,AW,hh1⟩ fB hs3 ⟨sJ,E1,hl1⟩ e
   try dsimp only at sJ E1 hl1
   let z5:Nat×Obj:=(b3,O [I x.Kind,I x.N,I (eC offices x.Name),.string x.Name,.slice nF kp.length nE] 88)
   let z19:Nat×Obj:=(b2,O [I x.Kind,I x.N,I (eC offices x.Name),.string x.Name,.slice nF kp.length nE] 88)
   refine sr (cI 0 ty88 U U U (aR 1 ty88 U U U U U U (gS (L':=[z5,z19,z3]++(AW)) U (aH (fW R3 ([z5,z19,z3]) AW ([]) ap hM sJ (λh3 hle3 sl2=>?_))))))
   have hs4:ah.F rec offices x=(vG x.Kind x.N (eC offices x.Name) x.Name kp):=hs3
   exact il [.agg (kB [I x.Kind,I x.N,I (eC offices x.Name),.string x.Name,.slice nF kp.length nE])] func217 U ⟨⟨1,_,_,_,_,U,U,.inl ⟨ty88,U⟩⟩,trivial⟩ ⟨(cY.mk nF nE),congrArg (λr:Expr=>(.agg (jC r (cY.mk nF nE)).toArray:Value)) hs4.symm,(by rw[hs4];exact(show qG h3 (vG x.Kind x.N (eC offices x.Name) x.Name kp) (cY.mk nF nE)from Sb sl2))⟩
  .rintro i1 ⟨kp,nF,nE,AW,hh1⟩ y1 rz1 hd1 du bo eA gD hs5 ⟨sJ,E1,hl1⟩ hx1 ag1 e
   try dsimp only at sJ E1 hl1
   have hdy:=kV (fS hd1)
   refine qK 7 [2] U (tO du U (qO 5 U (eQ ([z1,z3]) mixed kr jn (λeF _=>qB [0,2,3] U (tf 4 U U (rj 1 ty86 U U U) (tm 5 U (km 6 eF jn lP ty88 (hx.list.mono R3 hl1).1 (nthZ bo) (fV bo) U U U U kr (λq2 cs2 A2 ln2 rr3=>?_))))))))
   obtain⟨r2,rfl,ok3⟩:=rr3
   refine tf 7 U U (λ_ _ hj=>kU ty88 (A2.mono hj.1) U U) ?_
   refine mO 1 8 kr U U ?_ ?_ 
   .refine ff (wO ty86 U (oq (i:=0) U) U) (⟨jn,tn 8 U (cJ Ii (hrec _ _ _ _ _ _ (hoffices.mono Ti hl1) ok3 ob (kV (fS hd1))) U (λv2 h4 hle4 hp2=>?_))⟩)
    obtain⟨rr4,rfl,ok4⟩:=hp2
    refine⟨jl hle4,tu hle4 (tn 9 U (bB (cells:=[I ((rec offices y1).Kind),I ((rec offices y1).N),I ((rec offices y1).No),.string ((rec offices y1).Name),.slice rr4.mI ((rec offices y1).L.length) rr4.mJ]) lP ty88 zc88 U U kr (λb5=>⟨jn,?_⟩)))⟩
    let z6:Nat×Obj:=(b3,O [I x.Kind,I x.N,I (eC offices x.Name),.string x.Name,.slice nF kp.length nE] 88)
    let z15:Nat×Obj:=(b5,O [I ((rec offices y1).Kind),I ((rec offices y1).N),I ((rec offices y1).No),.string ((rec offices y1).Name),.slice rr4.mI ((rec offices y1).L.length) rr4.mJ] 88)
    exact tn 10 U (eo Tw ([z15,z6,z1,z3]) ([]) (λG=>[z15,z6,z1,z3]++G) ap (λ_=>ap) lP ty88 zc88 U bytes88 (sJ.mono R3 hle4) U U (fd 0 U (cE (R:=Su) (rec offices y1) U ⟨rr4,U,ok4⟩)) lo lo (λob2 oc2 G2 gr2=>⟨jn,qB [11] U (tn 12 U (kO 1 ty86 U U U U U U (⟨jn,aN kr (qT 3 U (oi i1 U (an (bj (L':=[(b3,O [I x.Kind,I x.N,I (eC offices x.Name),.string x.Name,.slice ob2 ((kp++[(rec offices y1)]).length) oc2] 88),z1,z3]++G2) js (ag1 ((kp++[(rec offices y1)]),ob2,oc2,G2,h4) hs5 ⟨gr2,lo,(hl1.t hle4)⟩)))))⟩)))⟩))
   refine cJ Ii (hrec _ _ _ _ _ _ (hoffices.mono Ti hl1) ok3 ob (kV (fS hd1))) U (λv3 h5 hle5 hp3=>?_)
   obtain⟨rr5,rfl,ok5⟩:=hp3
   refine⟨jl hle5,tu hle5 ?_⟩
   refine mO 1 9 kr U U ?_ ?_ 
   .refine ff (wO ty86 U (oq (i:=0) U) U) (⟨jn,tn 9 U (bB (cells:=[I ((rec offices y1).Kind),I ((rec offices y1).N),I ((rec offices y1).No),.string ((rec offices y1).Name),.slice rr5.mI ((rec offices y1).L.length) rr5.mJ]) lP ty88 zc88 U U kr (λb6=>⟨jn,?_⟩))⟩)
    let z7:Nat×Obj:=(b3,O [I x.Kind,I x.N,I (eC offices x.Name),.string x.Name,.slice nF kp.length nE] 88)
    let z16:Nat×Obj:=(b6,O [I ((rec offices y1).Kind),I ((rec offices y1).N),I ((rec offices y1).No),.string ((rec offices y1).Name),.slice rr5.mI ((rec offices y1).L.length) rr5.mJ] 88)
    exact tn 10 U (eo Tw ([z16,z7,z1,z3]) ([]) (λG=>[z16,z7,z1,z3]++G) ap (λ_=>ap) lP ty88 zc88 U bytes88 (sJ.mono R3 hle5) U U (fd 0 U (cE (R:=Su) (rec offices y1) U ⟨rr5,U,ok5⟩)) lo lo (λob3 oc3 G3 gr3=>⟨jn,qB [11] U (tn 12 U (kO 1 ty86 U U U U U U (⟨jn,aN kr (qT 3 U (oi i1 U (an (bj (L':=[(b3,O [I x.Kind,I x.N,I (eC offices x.Name),.string x.Name,.slice ob3 ((kp++[(rec offices y1)]).length) oc3] 88),z1,z3]++G3) js (ag1 ((kp++[(rec offices y1)]),ob3,oc3,G3,h5) hs5 ⟨gr3,lo,(hl1.t hle5)⟩)))))⟩)))⟩))
   refine bB (cells:=[I ((rec offices y1).Kind),I ((rec offices y1).N),I ((rec offices y1).No),.string ((rec offices y1).Name),.slice rr5.mI ((rec offices y1).L.length) rr5.mJ]) lP ty88 zc88 U U kr (λb7=>⟨jn,tn 1 U (ff (wO ty86 U (oq (i:=1) U) U) (⟨jn,?_⟩))⟩)
   let z8:Nat×Obj:=(b3,O [I x.Kind,I x.N,I (eC offices x.Name),.string x.Name,.slice nF kp.length nE] 88)
   let z17:Nat×Obj:=(b7,O [I ((rec offices y1).Kind),I ((rec offices y1).N),I ((rec offices y1).No),.string ((rec offices y1).Name),.slice rr5.mI ((rec offices y1).L.length) rr5.mJ] 88)
   exact tn 10 U (eo Tw ([z17,z8,z1,z3]) ([]) (λG=>[z17,z8,z1,z3]++G) ap (λ_=>ap) lP ty88 zc88 U bytes88 (sJ.mono R3 hle5) U U (fd 0 U (cE (R:=Su) (rec offices y1) U ⟨rr5,U,ok5⟩)) lo lo (λob4 oc4 G4 gr4=>⟨jn,qB [11] U (tn 12 U (kO 1 ty86 U U U U U U (⟨jn,aN kr (qT 3 U (oi i1 U (an (bj (L':=[(b3,O [I x.Kind,I x.N,I (eC offices x.Name),.string x.Name,.slice ob4 ((kp++[(rec offices y1)]).length) oc4] 88),z1,z3]++G4) js (ag1 ((kp++[(rec offices y1)]),ob4,oc4,G4,h5) hs5 ⟨gr4,lo,(hl1.t hle5)⟩)))))⟩)))⟩))
  rintro i1 ⟨kp,nF,nE,AW,hh1⟩ hd1 iw hx e
  exact qK 7 [2] U (fO iw U (qO 3 U (hx _ rd)))
 refine qK 4 [] U (cB 0 ty86 U U U U U U (qO 6 U ?_))
 let z2:Nat×Obj:=(b2,O [I 0,I 0,I 0,.string (⟨#[]⟩:ByteArray),.slice none 0 0] 88)
 let z4:Nat×Obj:=(b1,O (jC x fX) 88)
 refine lp2 x.L (λi w=>[(0,.slice dF offices.length dE),(3,Q b1),(4,Q b2),(5,Q b3),(6,I (i:Int))]) (λw=>w.2.2.2.2) (λw=>[(b3,O [I x.Kind,I x.N,I 0,.string x.Name,.slice w.2.1 w.1.length w.2.2.1] 88),z2,z4]++(w.2.2.2.1)) (λi w=>dA Su 88 w.2.2.2.2 w.1 w.2.1 w.2.2.1 w.2.2.2.1/\w.1.length<=0+i/\kK h w.2.2.2.2) (λs2 i w=>(ah.L2 rec offices (ah.K2 x)) s2 w.1) ([],none,0,[],h) hx.list.1.1 hs2 ⟨dA.nil,lo,lf⟩ ?_ ?_ ?_
 .rintro i2 ⟨kn,nD,nC,AR,hh2⟩ BZ hs6 ⟨sH,EW,hl2⟩ e
  try dsimp only at sH EW hl2
  let z9:Nat×Obj:=(b3,O [I x.Kind,I x.N,I 0,.string x.Name,.slice nD kn.length nC] 88)
  let z20:Nat×Obj:=(b2,O [I x.Kind,I x.N,I 0,.string x.Name,.slice nD kn.length nC] 88)
  refine sr (cI 0 ty88 U U U (aR 1 ty88 U U U U U U (gS (L':=[z9,z20,z4]++(AR)) U (aH (fW R3 ([z9,z20,z4]) AR ([]) ap hM sH (λh8 hle8 sl4=>?_))))))
  have hs7:ah.F rec offices x=(vG x.Kind x.N 0 x.Name kn):=hs6
  exact il [.agg (kB [I x.Kind,I x.N,I 0,.string x.Name,.slice nD kn.length nC])] func217 U ⟨⟨1,_,_,_,_,U,U,.inl ⟨ty88,U⟩⟩,trivial⟩ ⟨(cY.mk nD nC),congrArg (λr:Expr=>(.agg (jC r (cY.mk nD nC)).toArray:Value)) hs7.symm,(by rw[hs7];exact(show qG h8 (vG x.Kind x.N 0 x.Name kn) (cY.mk nD nC)from Sb sl4))⟩
 .rintro i2 ⟨kn,nD,nC,AR,hh2⟩ y2 rz2 hd2 wk sF EP Kw hs8 ⟨sH,EW,hl2⟩ hx2 ag2 e
  try dsimp only at sH EW hl2
  have hdy:=kV (fS hd2)
  refine qK 7 [2] U (tO wk U (qO 5 U (eQ ([z2,z4]) mixed kr jn (λnh _=>qB [0,2,3] U (tf 4 U U (rj 1 ty86 U U U) (tm 5 U (km 6 nh jn lP ty88 (hx.list.mono R3 hl2).1 (nthZ sF) (fV sF) U U U U kr (λq4 cs4 A4 ln4 rr8=>?_))))))))
  obtain⟨r4,rfl,ok8⟩:=rr8
  refine tf 7 U U (λ_ _ hj=>kU ty88 (A4.mono hj.1) U U) ?_
  refine mO 1 8 kr U U ?_ ?_ 
  .refine ff (wO ty86 U (oq (i:=0) U) U) (⟨jn,tn 8 U (cJ Ii (hrec _ _ _ _ _ _ (hoffices.mono Ti hl2) ok8 ob (kV (fS hd2))) U (λv5 h9 hle9 hp5=>?_))⟩)
   obtain⟨rr9,rfl,ok9⟩:=hp5
   refine⟨jl hle9,tu hle9 (tn 9 U (bB (cells:=[I ((rec offices y2).Kind),I ((rec offices y2).N),I ((rec offices y2).No),.string ((rec offices y2).Name),.slice rr9.mI ((rec offices y2).L.length) rr9.mJ]) lP ty88 zc88 U U kr (λb9=>⟨jn,?_⟩)))⟩
   let z10:Nat×Obj:=(b3,O [I x.Kind,I x.N,I 0,.string x.Name,.slice nD kn.length nC] 88)
   let z18:Nat×Obj:=(b9,O [I ((rec offices y2).Kind),I ((rec offices y2).N),I ((rec offices y2).No),.string ((rec offices y2).Name),.slice rr9.mI ((rec offices y2).L.length) rr9.mJ] 88)
   exact tn 10 U (eo Tw ([z18,z10,z2,z4]) ([]) (λG=>[z18,z10,z2,z4]++G) ap (λ_=>ap) lP ty88 zc88 U bytes88 (sH.mono R3 hle9) U U (fd 0 U (cE (R:=Su) (rec offices y2) U ⟨rr9,U,ok9⟩)) lo lo (λob6 oc6 G6 gr6=>⟨jn,qB [11] U (tn 12 U (kO 1 ty86 U U U U U U (⟨jn,aN kr (qT 3 U (oi i2 U (an (bj (L':=[(b3,O [I x.Kind,I x.N,I 0,.string x.Name,.slice ob6 ((kn++[(rec offices y2)]).length) oc6] 88),z2,z4]++G6) js (ag2 ((kn++[(rec offices y2)]),ob6,oc6,G6,h9) hs8 ⟨gr6,lo,(hl2.t hle9)⟩)))))⟩)))⟩))
  refine cJ Ii (hrec _ _ _ _ _ _ (hoffices.mono Ti hl2) ok8 ob (kV (fS hd2))) U (λv6 h10 hle10 hp6=>?_)
  obtain⟨rr10,rfl,ok10⟩:=hp6
  refine⟨jl hle10,tu hle10 ?_⟩
  refine mO 1 9 kr U U ?_ ?_ 
  .refine ff (wO ty86 U (oq (i:=0) U) U) (⟨jn,tn 9 U (bB (cells:=[I ((rec offices y2).Kind),I ((rec offices y2).N),I ((rec offices y2).No),.string ((rec offices y2).Name),.slice rr10.mI ((rec offices y2).L.length) rr10.mJ]) lP ty88 zc88 U U kr (λb10=>⟨jn,?_⟩))⟩)
   let z11:Nat×Obj:=(b3,O [I x.Kind,I x.N,I 0,.string x.Name,.slice nD kn.length nC] 88)
   let z13:Nat×Obj:=(b10,O [I ((rec offices y2).Kind),I ((rec offices y2).N),I ((rec offices y2).No),.string ((rec offices y2).Name),.slice rr10.mI ((rec offices y2).L.length) rr10.mJ] 88)
   exact tn 10 U (eo Tw ([z13,z11,z2,z4]) ([]) (λG=>[z13,z11,z2,z4]++G) ap (λ_=>ap) lP ty88 zc88 U bytes88 (sH.mono R3 hle10) U U (fd 0 U (cE (R:=Su) (rec offices y2) U ⟨rr10,U,ok10⟩)) lo lo (λob7 oc7 G7 gr7=>⟨jn,qB [11] U (tn 12 U (kO 1 ty86 U U U U U U (⟨jn,aN kr (qT 3 U (oi i2 U (an (bj (L':=[(b3,O [I x.Kind,I x.N,I 0,.string x.Name,.slice ob7 ((kn++[(rec offices y2)]).length) oc7] 88),z2,z4]++G7) js (ag2 ((kn++[(rec offices y2)]),ob7,oc7,G7,h10) hs8 ⟨gr7,lo,(hl2.t hle10)⟩)))))⟩)))⟩))
  refine bB (cells:=[I ((rec offices y2).Kind),I ((rec offices y2).N),I ((rec offices y2).No),.string ((rec offices y2).Name),.slice rr10.mI ((rec offices y2).L.length) rr10.mJ]) lP ty88 zc88 U U kr (λb11=>⟨jn,tn 1 U (ff (wO ty86 U (oq (i:=1) U) U) (⟨jn,?_⟩))⟩)
  let z12:Nat×Obj:=(b3,O [I x.Kind,I x.N,I 0,.string x.Name,.slice nD kn.length nC] 88)
  let z14:Nat×Obj:=(b11,O [I ((rec offices y2).Kind),I ((rec offices y2).N),I ((rec offices y2).No),.string ((rec offices y2).Name),.slice rr10.mI ((rec offices y2).L.length) rr10.mJ] 88)
  exact tn 10 U (eo Tw ([z14,z12,z2,z4]) ([]) (λG=>[z14,z12,z2,z4]++G) ap (λ_=>ap) lP ty88 zc88 U bytes88 (sH.mono R3 hle10) U U (fd 0 U (cE (R:=Su) (rec offices y2) U ⟨rr10,U,ok10⟩)) lo lo (λob8 oc8 G8 gr8=>⟨jn,qB [11] U (tn 12 U (kO 1 ty86 U U U U U U (⟨jn,aN kr (qT 3 U (oi i2 U (an (bj (L':=[(b3,O [I x.Kind,I x.N,I 0,.string x.Name,.slice ob8 ((kn++[(rec offices y2)]).length) oc8] 88),z2,z4]++G8) js (ag2 ((kn++[(rec offices y2)]),ob8,oc8,G8,h10) hs8 ⟨gr8,lo,(hl2.t hle10)⟩)))))⟩)))⟩))
 rintro i2 ⟨kn,nD,nC,AR,hh2⟩ hd2 QH hx e
 exact qK 7 [2] U (fO QH U (qO 3 U (hx _ rd)))
theorem qo:∀(m:Nat)(h:HF)(offices:List ByteArray)(dF:Option Addr)(dE:Nat)(x:Expr)(fX:cY)(_:x.dep<=m)(hoffices:SlC Sz h dF dE offices)(hx:qG h x fX)(hsz:x.dep<=2000000),jY prog 217 [.slice dF offices.length dE,.agg (jC x fX).toArray] h (λv h'=>∃(rr0:cY),v=.agg (jC (ah.go m offices x) rr0).toArray/\qG h' (ah.go m offices x) rr0)
 |0,h,offices,dF,dE,x,fX,hd,hoffices,hx,hsz=>absurd hd (Nat.not_le.2 (S5 _))
 |m+1,h,offices,dF,dE,x,fX,hd,hoffices,hx,hsz=>zg (ah.go m) h offices dF dE x fX (λqh_ qoffices j5 j4 qx lk qhoffices qhx qhsz qd=>qo m qh_ qoffices j5 j4 qx lk ob qhoffices qhx qhsz) hoffices hx hsz
theorem tl(h:HF)(offices:List ByteArray)(dF:Option Addr)(dE:Nat)(x:Expr)(fX:cY)(hoffices:SlC Sz h dF dE offices)(hx:qG h x fX)(hsz:x.dep<=2000000):jY prog 217 [.slice dF offices.length dE,.agg (jC x fX).toArray] h (λv h'=>∃(rr0:cY),v=.agg (jC (ah offices x) rr0).toArray/\qG h' (ah offices x) rr0):=qo _ h offices dF dE x fX (xG _) hoffices hx hsz
theorem BH(h:HF)(p:Policy)(gG:eU)(hp:kN h p gG)(hsm:smP p):jY prog 158 [.agg (kD p gG).toArray] h (λv h'=>∃(rr0:eU),v=.tuple #[.agg (kD ((ew p).1) rr0).toArray,I ((ew p).2)]/\kN h' ((ew p).1) rr0):=by
 refine cD KP U ntmps158 U λX hM hX=>?_
 have hs0:=@rfl _ (ew p)
 have hsc:=hsm.change
 have hsr:=hsm.rules
 refine sr (ct (λb1=>aU zc94 (λb2=>qO 5 U (cI 1 ty94 U U U (ai call214 (AG _ _ _ hp) U (aH (ae hs0 U (λc1 hs1=>?_) (λc1 hs2=>?_))))))))
 .refine sr (aw (eY (cells:=[.string (⟨#[]⟩:ByteArray),.slice none 0 0,.slice none 0 0,.slice none 0 0,I 0,I 0,I 0,.string (⟨#[]⟩:ByteArray),.slice none 0 0,I 0]) (places:=[(0,1),(1,1),(2,1),(3,1),(4,5),(9,1)]) Lb zc94 kr kr (aR 0 ty94 U U U U U U (an ?_))))
  have hs3:ew p=((qM (⟨#[]⟩:ByteArray) ([]) ([]) ([]) (vG 0 0 0 (⟨#[]⟩:ByteArray) ([])) 0),2):=hs1
  exact il [.agg (kB [.string (⟨#[]⟩:ByteArray),.slice none 0 0,.slice none 0 0,.slice none 0 0,I 0,I 0,I 0,.string (⟨#[]⟩:ByteArray),.slice none 0 0,I 0]),I 2] KP U ⟨⟨0,_,_,_,_,U,U,.inl ⟨ty94,U⟩⟩,U,trivial⟩ ⟨(eU.mk none 0 none 0 none 0 (cY.mk none 0)),congrArg (λr:(Policy×Int)=>(.tuple #[.agg (kD r.1 (eU.mk none 0 none 0 none 0 (cY.mk none 0))).toArray,I r.2]:Value)) hs3.symm,(by rw[hs3];exact(show kN h (qM (⟨#[]⟩:ByteArray) ([]) ([]) ([]) (vG 0 0 0 (⟨#[]⟩:ByteArray) ([])) 0) (eU.mk none 0 none 0 none 0 (cY.mk none 0))from⟨zF,zF,zF,(show qG h (vG 0 0 0 (⟨#[]⟩:ByteArray) ([])) (cY.mk none 0)from Sb zF)⟩))⟩
 refine qT 4 U (cI 1 ty94 U U U (ai call215 (Ee _ _ _ hp) U (qO 2 U (ae hs2 U (λc2 hs4=>?_) (λc2 hs5=>?_)))))
 .refine sr (aw (eY (cells:=[.string (⟨#[]⟩:ByteArray),.slice none 0 0,.slice none 0 0,.slice none 0 0,I 0,I 0,I 0,.string (⟨#[]⟩:ByteArray),.slice none 0 0,I 0]) (places:=[(0,1),(1,1),(2,1),(3,1),(4,5),(9,1)]) Lb zc94 kr kr (aR 0 ty94 U U U U U U (an ?_))))
  have hs6:ew p=((qM (⟨#[]⟩:ByteArray) ([]) ([]) ([]) (vG 0 0 0 (⟨#[]⟩:ByteArray) ([])) 0),201):=hs4
  exact il [.agg (kB [.string (⟨#[]⟩:ByteArray),.slice none 0 0,.slice none 0 0,.slice none 0 0,I 0,I 0,I 0,.string (⟨#[]⟩:ByteArray),.slice none 0 0,I 0]),I 201] KP U ⟨⟨0,_,_,_,_,U,U,.inl ⟨ty94,U⟩⟩,U,trivial⟩ ⟨(eU.mk none 0 none 0 none 0 (cY.mk none 0)),congrArg (λr:(Policy×Int)=>(.tuple #[.agg (kD r.1 (eU.mk none 0 none 0 none 0 (cY.mk none 0))).toArray,I r.2]:Value)) hs6.symm,(by rw[hs6];exact(show kN h (qM (⟨#[]⟩:ByteArray) ([]) ([]) ([]) (vG 0 0 0 (⟨#[]⟩:ByteArray) ([])) 0) (eU.mk none 0 none 0 none 0 (cY.mk none 0))from⟨zF,zF,zF,(show qG h (vG 0 0 0 (⟨#[]⟩:ByteArray) ([])) (cY.mk none 0)from Sb zF)⟩))⟩
 refine qT 4 U (cI 1 ty94 U U U (ai call216 (Dc _ _ _ hp) U (qO 2 U (ae hs5 U (λc3 hs7=>?_) (λc3 hs8=>?_)))))
 .refine sr (aw (eY (cells:=[.string (⟨#[]⟩:ByteArray),.slice none 0 0,.slice none 0 0,.slice none 0 0,I 0,I 0,I 0,.string (⟨#[]⟩:ByteArray),.slice none 0 0,I 0]) (places:=[(0,1),(1,1),(2,1),(3,1),(4,5),(9,1)]) Lb zc94 kr kr (aR 0 ty94 U U U U U U (an ?_))))
  have hs9:ew p=((qM (⟨#[]⟩:ByteArray) ([]) ([]) ([]) (vG 0 0 0 (⟨#[]⟩:ByteArray) ([])) 0),200):=hs7
  exact il [.agg (kB [.string (⟨#[]⟩:ByteArray),.slice none 0 0,.slice none 0 0,.slice none 0 0,I 0,I 0,I 0,.string (⟨#[]⟩:ByteArray),.slice none 0 0,I 0]),I 200] KP U ⟨⟨0,_,_,_,_,U,U,.inl ⟨ty94,U⟩⟩,U,trivial⟩ ⟨(eU.mk none 0 none 0 none 0 (cY.mk none 0)),congrArg (λr:(Policy×Int)=>(.tuple #[.agg (kD r.1 (eU.mk none 0 none 0 none 0 (cY.mk none 0))).toArray,I r.2]:Value)) hs9.symm,(by rw[hs9];exact(show kN h (qM (⟨#[]⟩:ByteArray) ([]) ([]) ([]) (vG 0 0 0 (⟨#[]⟩:ByteArray) ([])) 0) (eU.mk none 0 none 0 none 0 (cY.mk none 0))from⟨zF,zF,zF,(show qG h (vG 0 0 0 (⟨#[]⟩:ByteArray) ([])) (cY.mk none 0)from Sb zF)⟩))⟩
 refine qT 3 U (cI 1 ty94 U U U (aU zc94 (λb3=>aR 0 ty94 U U U U U U (qL 4 [] U (cB 0 ty92 U U U U U U (qO 6 U ?_))))))
 let z4:Nat×Obj:=(b2,O [.string (⟨#[]⟩:ByteArray),.slice none 0 0,.slice none 0 0,.slice none 0 0,I 0,I 0,I 0,.string (⟨#[]⟩:ByteArray),.slice none 0 0,I 0] 94)
 let z7:Nat×Obj:=(b1,O (kD p gG) 94)
 refine lp2 p.Rules (λi w=>[(1,Q b1),(2,Q b2),(4,Q b3),(5,I (i:Int))]) (λw=>w.2.2.2.2) (λw=>[(b3,O [.string p.Name,.slice gG.jX p.Kinds.length gG.jW,.slice gG.gM p.Offices.length gG.gL,.slice w.2.1 w.1.length w.2.2.1,I p.Change.Kind,I p.Change.N,I p.Change.No,.string p.Change.Name,.slice gG.Change.mI p.Change.L.length gG.Change.mJ,I p.Mode] 94),z4,z7]++(w.2.2.2.1)) (λi w=>dA Rule.rp 91 w.2.2.2.2 w.1 w.2.1 w.2.2.1 w.2.2.2.1/\w.1.length<=0+i/\kK h w.2.2.2.2) (λs1 i w=>(ew.L1 p (ew.K1 p)) s1 i w.1) ([],none,0,[],h) hp.Rules.1.1 hs8 ⟨dA.nil,lo,lf⟩ ?_ ?_ ?_
 .rintro i1 ⟨mv,pu,pt,xp,hh1⟩ fB hs10 ⟨xn,E2,hl1⟩ e
  try dsimp only at xn E2 hl1
  refine qK 5 [2] U (cI 2 ty88 U U U (aw (cJ Ii (tl _ _ _ _ _ _ (hp.Offices.mono Ti hl1) (hp.Change.mono hl1) ob) U (λv3 h4 hle4 hp3=>?_))))
  obtain⟨rr4,rfl,ok4⟩:=hp3
  let z2:Nat×Obj:=(b3,O [.string p.Name,.slice gG.jX p.Kinds.length gG.jW,.slice gG.gM p.Offices.length gG.gL,.slice pu mv.length pt,I ((ah p.Offices p.Change).Kind),I ((ah p.Offices p.Change).N),I ((ah p.Offices p.Change).No),.string ((ah p.Offices p.Change).Name),.slice rr4.mI ((ah p.Offices p.Change).L.length) rr4.mJ,I p.Mode] 94)
  let z3:Nat×Obj:=(b2,O [.string p.Name,.slice gG.jX p.Kinds.length gG.jW,.slice gG.gM p.Offices.length gG.gL,.slice pu mv.length pt,I ((ah p.Offices p.Change).Kind),I ((ah p.Offices p.Change).N),I ((ah p.Offices p.Change).No),.string ((ah p.Offices p.Change).Name),.slice rr4.mI ((ah p.Offices p.Change).L.length) rr4.mJ,I p.Mode] 94)
  refine qL 1 [] U (cB 0 ty88 U U U U U U (qO 3 U (cI 0 ty94 U U U (aR 1 ty94 U U U U U U (gS (L':=[z2,z3,z7]++(xp)) U (an (fW Tk ([z2,z3,z7]) xp ([]) ap hM (xn.mono Tk hle4) (λh5 hle5 sl2=>?_))))))))
  have hs11:ew p=((qM p.Name p.Kinds p.Offices mv (vG ((ah p.Offices p.Change).Kind) ((ah p.Offices p.Change).N) ((ah p.Offices p.Change).No) ((ah p.Offices p.Change).Name) ((ah p.Offices p.Change).L)) p.Mode),0):=hs10
  exact il [.agg (kD (qM p.Name p.Kinds p.Offices mv (vG ((ah p.Offices p.Change).Kind) ((ah p.Offices p.Change).N) ((ah p.Offices p.Change).No) ((ah p.Offices p.Change).Name) ((ah p.Offices p.Change).L)) p.Mode) (eU.mk gG.jX gG.jW gG.gM gG.gL pu pt (cY.mk rr4.mI rr4.mJ))).toArray,I 0] KP U ⟨⟨1,_,_,_,_,U,U,.inl ⟨ty94,U⟩⟩,U,trivial⟩ ⟨(eU.mk gG.jX gG.jW gG.gM gG.gL pu pt (cY.mk rr4.mI rr4.mJ)),congrArg (λr:(Policy×Int)=>(.tuple #[.agg (kD r.1 (eU.mk gG.jX gG.jW gG.gM gG.gL pu pt (cY.mk rr4.mI rr4.mJ))).toArray,I r.2]:Value)) hs11.symm,(by rw[hs11];exact(show kN h5 (qM p.Name p.Kinds p.Offices mv (vG ((ah p.Offices p.Change).Kind) ((ah p.Offices p.Change).N) ((ah p.Offices p.Change).No) ((ah p.Offices p.Change).Name) ((ah p.Offices p.Change).L)) p.Mode) (eU.mk gG.jX gG.jW gG.gM gG.gL pu pt (cY.mk rr4.mI rr4.mJ))from⟨(hp.Kinds.mono Ti ((hl1.t hle4).t hle5)),(hp.Offices.mono Ti ((hl1.t hle4).t hle5)),sl2,(show qG h5 (vG ((ah p.Offices p.Change).Kind) ((ah p.Offices p.Change).N) ((ah p.Offices p.Change).No) ((ah p.Offices p.Change).Name) ((ah p.Offices p.Change).L)) (cY.mk rr4.mI rr4.mJ)from Sb (ok4.list.mono R3 hle5))⟩))⟩
 .rintro i1 ⟨mv,pu,pt,xp,hh1⟩ y1 rz1 hd1 du bo eA gD hs12 ⟨xn,E2,hl1⟩ hx1 ag1 e
  try dsimp only at xn E2 hl1
  have hsy:=hsm.2.1 y1 (fS hd1)
  refine qK 7 [2] U (tO du U (qL 9 [2] U ?_))
  let z1:Nat×Obj:=(b3,O [.string p.Name,.slice gG.jX p.Kinds.length gG.jW,.slice gG.gM p.Offices.length gG.gL,.slice pu mv.length pt,I p.Change.Kind,I p.Change.N,I p.Change.No,.string p.Change.Name,.slice gG.Change.mI p.Change.L.length gG.Change.mJ,I p.Mode] 94)
  refine ao (aw (iR tQ ty91 (hp.Rules.mono Tk hl1).1 bo U U U (λ_ _ _ e=>e) (λq2 r2 A2 ok5=>dl ty91 A2 U U (aU zc91 (λb6=>aR 0 ty91 U U U U U U (gS (L':=[(b6,O (TC y1 r2) 91),z1,z4,z7]++(xp)) U (qL 5 [] U (cB 0 ty3 U U U U U U (qL 6 [3] U (cI 0 ty88 U U U (aw (cJ Ii (tl _ _ _ _ _ _ (hp.Offices.mono Ti hl1) ok5.Expr ob) U (λv4 h6 hle6 hp4=>?_)))))))))))))
  obtain⟨rr6,rfl,ok6⟩:=hp4
  refine qL 1 [] U (cB 0 ty88 U U U U U U (qL 4 [1] U (cI 0 ty91 U U U (aw (bB (cells:=[.string y1.Kind,I (i1:Int),I y1.Think,I ((ah p.Offices y1.Expr).Kind),I ((ah p.Offices y1.Expr).N),I ((ah p.Offices y1.Expr).No),.string ((ah p.Offices y1.Expr).Name),.slice rr6.mI ((ah p.Offices y1.Expr).L.length) rr6.mJ]) tQ ty91 zc91 U U kr (λb7=>?_))))))
  let z5:Nat×Obj:=(b7,O [.string y1.Kind,I (i1:Int),I y1.Think,I ((ah p.Offices y1.Expr).Kind),I ((ah p.Offices y1.Expr).N),I ((ah p.Offices y1.Expr).No),.string ((ah p.Offices y1.Expr).Name),.slice rr6.mI ((ah p.Offices y1.Expr).L.length) rr6.mJ] 91)
  let z6:Nat×Obj:=(b6,O [.string y1.Kind,I (i1:Int),I y1.Think,I ((ah p.Offices y1.Expr).Kind),I ((ah p.Offices y1.Expr).N),I ((ah p.Offices y1.Expr).No),.string ((ah p.Offices y1.Expr).Name),.slice rr6.mI ((ah p.Offices y1.Expr).L.length) rr6.mJ] 91)
  refine aw (eo Rule.eD ([z5,z6,z1,z4,z7]) ([]) (λG=>[z5,z6,z1,z4,z7]++G) ap (λ_=>ap) tQ ty91 zc91 U bytes91 (xn.mono Tk hle6) U U (fd 0 U (cE (R:=Rule.rp) (SE y1.Kind (i1:Int) y1.Think (vG ((ah p.Offices y1.Expr).Kind) ((ah p.Offices y1.Expr).N) ((ah p.Offices y1.Expr).No) ((ah p.Offices y1.Expr).Name) ((ah p.Offices y1.Expr).L))) U ⟨(Bx.mk (cY.mk rr6.mI rr6.mJ)),U,(show Rule.ok h6 (SE y1.Kind (i1:Int) y1.Think (vG ((ah p.Offices y1.Expr).Kind) ((ah p.Offices y1.Expr).N) ((ah p.Offices y1.Expr).No) ((ah p.Offices y1.Expr).Name) ((ah p.Offices y1.Expr).L))) (Bx.mk (cY.mk rr6.mI rr6.mJ))from⟨(show qG h6 (vG ((ah p.Offices y1.Expr).Kind) ((ah p.Offices y1.Expr).N) ((ah p.Offices y1.Expr).No) ((ah p.Offices y1.Expr).Name) ((ah p.Offices y1.Expr).L)) (cY.mk rr6.mI rr6.mJ)from Sb ok6.list)⟩)⟩)) lo lo (λob2 oc2 G2 gr2=>qL 1 [] U (cB 2 ty92 U U U U U U (qO 4 U (oi i1 U (an (bj (L':=[(b3,O [.string p.Name,.slice gG.jX p.Kinds.length gG.jW,.slice gG.gM p.Offices.length gG.gL,.slice ob2 ((mv++[(SE y1.Kind (i1:Int) y1.Think (vG ((ah p.Offices y1.Expr).Kind) ((ah p.Offices y1.Expr).N) ((ah p.Offices y1.Expr).No) ((ah p.Offices y1.Expr).Name) ((ah p.Offices y1.Expr).L)))]).length) oc2,I p.Change.Kind,I p.Change.N,I p.Change.No,.string p.Change.Name,.slice gG.Change.mI p.Change.L.length gG.Change.mJ,I p.Mode] 94),z4,z7]++G2) js ?_)))))))
  exact ag1 ((mv++[(SE y1.Kind (i1:Int) y1.Think (vG ((ah p.Offices y1.Expr).Kind) ((ah p.Offices y1.Expr).N) ((ah p.Offices y1.Expr).No) ((ah p.Offices y1.Expr).Name) ((ah p.Offices y1.Expr).L)))]),ob2,oc2,G2,h6) hs12 ⟨gr2,lo,(hl1.t hle6)⟩
 rintro i1 ⟨mv,pu,pt,xp,hh1⟩ hd1 iw hx e
 exact qK 7 [2] U (fO iw U (qO 3 U (hx _ rd)))
theorem si(h:HF)(a:List ByteArray)(QW:Option Addr)(QV:Nat)(ku:List ByteArray)(Fl:Option Addr)(Fk:Nat)(ha:SlC Sz h QW QV a)(yB:SlC Sz h Fl Fk ku):Ret prog 218 [.slice QW a.length QV,.slice Fl ku.length Fk] h (.bool (gr a ku)):=by
 refine sT func218 U ntmps218 U λX hM hX hF=>?_
 have hs0:=@rfl _ (gr a ku)
 refine qK 13 [] U (ae hs0 U (λc1 hs1=>?_) (λc1 hs2=>?_))
 .exact sr (an (nretP [.bool false] (cs hs1)))
 refine qT 6 U ?_
 refine lp0 a (λi=>[(0,.slice QW a.length QV),(1,.slice Fl ku.length Fk),(5,I (i:Int))]) ([]) (λs1 i=>(gr.L1 ku (gr.K1)) s1 i) ha.1.1 hs2 ?_ ?_ ?_
 .rintro i1 fB hs4 e
  exact sr (an (nretP [.bool true] (cs hs4)))
 .rintro i1 y1 rz1 hd1 du bo eA gD hs6 hx1 ag1 e
  refine qK 6 [] U (tO du U (qO 6 U (eQ ([]) mixed kr jn (λeF _=>qA [0,1] U (fF 2 (enc:=λy=>[.string y]) eF jn ei vt ty9 ha.1 (nthZ bo) (fV bo) U U U U kr (λq3 A3=>tf 3 U U (rh ty9 A3 U) (qA [4,5] U ?_)))))))
  have ho2:0<=((i1:Int):Int)/\((i1:Int):Int)<((ku).length:Int):=ob
  refine fF 6 (enc:=λy=>[.string y]) eF jn ei vt ty9 yB.1 ho2 (dy ho2) U U U U kr (λq4 A4=>tf 7 U U (rh ty9 A4 U) (qA [8] U (aN kr (ae hs6 U (λc3 hs7=>?_) (λc3 hs8=>?_)))))
  .exact sr (an (nretP [.bool false] (cs hs7)))
  exact aQ (qT 3 U (oi i1 U (an (ag1 hs8))))
 rintro i1 hd1 iw hx e
 exact qK 6 [] U (fO iw U (qO 3 U (hx _ rd)))
theorem zh(rec:Expr->Expr->Bool)(h:HF)(a:Expr)(Ic:cY)(ku:Expr)(pR:cY)(hrec:∀(h:HF)(qa:Expr)(Pr:cY)(NV:Expr)(Hv:cY)(hqa:qG h qa Pr)(RH:qG h NV Hv)(_:qa.dep<a.dep),Ret prog 219 [.agg (jC qa Pr).toArray,.agg (jC NV Hv).toArray] h (.bool (rec qa NV)))(ha:qG h a Ic)(yB:qG h ku pR):Ret prog 219 [.agg (jC a Ic).toArray,.agg (jC ku pR).toArray] h (.bool (cg.F rec a ku)):=by
 refine sT func219 U ntmps219 U λX hM hX hF=>?_
 have hs0:=@rfl _ (cg.F rec a ku)
 refine sr (ct (λb1=>ct (λb2=>qL 11 [1,0] U (cn 6 [11,12,13,14,15,16,17] 11 17 (a.N != ku.N) U (λc1 hk1=>?_) (λe=>?_)))))
 .exact qL 6 [1,0] U (hk1 _ U)
 refine ao (cn 6 [18,19,20,21,22,23,24] 18 24 (a.No != ku.No) U (λc2 hk2=>?_) (λe=>?_))
 .exact qL 6 [1,0] U (hk2 _ U)
 refine ao (cn 6 [25,26,27,28,29,30,31] 25 31 (!(a.Name.toList==ku.Name.toList)) U (λc3 hk3=>?_) (λe=>?_))
 .exact qL 6 [1,0] U (hk3 _ U)
 refine ao (cn 8 [32,33,34,35,36,37,38,39,40] 32 40 ((a.L.length:Int) != (ku.L.length:Int)) U (λc4 hk4=>?_) (λe=>?_))
 .exact qL 8 [1,0] U (hk4 _ U)
 refine aH (ae hs0 U (λc5 hs1=>?_) (λc5 hs2=>?_))
 .exact sr (an (nretP [.bool false] (cs hs1)))
 refine qT 6 U ?_
 let z1:Nat×Obj:=(b2,O (jC ku pR) 88)
 let z2:Nat×Obj:=(b1,O (jC a Ic) 88)
 refine lp0 a.L (λi=>[(2,Q b1),(3,Q b2),(5,I (i:Int))]) ([z1,z2]) (λs1 i=>(cg.L1 rec ku (cg.K1)) s1 i) ha.list.1.1 hs2 ?_ ?_ ?_
 .rintro i1 fB hs4 e
  exact sr (an (nretP [.bool true] (cs hs4)))
 .rintro i1 y1 rz1 hd1 du bo eA gD hs6 hx1 ag1 e
  refine qK 7 [1] U (tO du U (qO 6 U (eQ ([z1,z2]) mixed kr jn (λeF _=>qB [0] U (tf 1 U U (rj 1 ty86 U U U) (tm 2 U (km 3 eF jn lP ty88 ha.list.1 (nthZ bo) (fV bo) U U U U kr (λq3 cs3 A3 ln3 rr3=>?_))))))))
  obtain⟨r3,rfl,ok3⟩:=rr3
  refine tf 4 U U (λ_ _ hj=>kU ty88 (A3.mono hj.1) U U) (qB [5] U (tf 6 U U (rj 0 ty86 U U U) (tm 7 U ?_)))
  have ho2:0<=((i1:Int):Int)/\((i1:Int):Int)<((ku.L).length:Int):=ob
  refine km 8 eF jn lP ty88 yB.list.1 ho2 (dy ho2) U U U U kr (λq4 cs4 A4 ln4 rr4=>?_)
  obtain⟨r4,rfl,ok4⟩:=rr4
  refine tf 9 U U (λ_ _ hj=>kU ty88 (A4.mono hj.1) U U) (tn 10 U (fg call219 (hrec _ _ _ _ _ ok3 ok4 (kV (fS hd1))) U (⟨jn,qA [11] U (aN kr (ae hs6 U (λc7 hs7=>?_) (λc7 hs8=>?_)))⟩)))
  .exact sr (an (nretP [.bool false] (cs hs7)))
  exact aQ (qT 3 U (oi i1 U (an (ag1 hs8))))
 rintro i1 hd1 iw hx e
 exact qK 7 [1] U (fO iw U (qO 3 U (hx _ rd)))
theorem qp:∀(m:Nat)(h:HF)(a:Expr)(Ic:cY)(ku:Expr)(pR:cY)(_:a.dep<=m)(ha:qG h a Ic)(yB:qG h ku pR),Ret prog 219 [.agg (jC a Ic).toArray,.agg (jC ku pR).toArray] h (.bool (cg.go m a ku))
 |0,h,a,Ic,ku,pR,hd,ha,yB=>absurd hd (Nat.not_le.2 (S5 _))
 |m+1,h,a,Ic,ku,pR,hd,ha,yB=>zh (cg.go m) h a Ic ku pR (λqh_ qa Pr NV Hv qha Q3 qd=>qp m qh_ qa Pr NV Hv ob qha Q3) ha yB
theorem tw(h:HF)(a:Expr)(Ic:cY)(ku:Expr)(pR:cY)(ha:qG h a Ic)(yB:qG h ku pR):Ret prog 219 [.agg (jC a Ic).toArray,.agg (jC ku pR).toArray] h (.bool (cg a ku)):=qp _ h a Ic ku pR (xG _) ha yB
theorem Fz(h:HF)(a:Policy)(Ic:eU)(ku:Policy)(pR:eU)(ha:kN h a Ic)(yB:kN h ku pR):Ret prog 159 [.agg (kD a Ic).toArray,.agg (kD ku pR).toArray] h (.bool (j3 a ku)):=by
 refine sT func159 U ntmps159 U λX hM hX hF=>?_
 have hs0:=@rfl _ (j3 a ku)
 refine sr (ct (λb1=>ct (λb2=>qL 11 [1,0] U (cn 6 [13,14,15,16,17,18,19] 13 19 (a.Mode != ku.Mode) U (λc1 hk1=>?_) (λe=>?_)))))
 .exact qL 6 [1,0] U (hk1 _ U)
 refine ao (cn 7 [20,21,22,23,24,25,26,27] 20 27 (!(gr a.Offices ku.Offices)) U (λc2 hk2=>?_) (λe=>?_))
 .exact qL 4 [1,0] U (ai call218 (si _ _ _ _ _ _ _ ha.Offices yB.Offices) U (qO 2 U (hk2 _ U)))
 refine ao (cn 7 [28,29,30,31,32,33,34,35] 28 35 (!(gr a.Kinds ku.Kinds)) U (λc3 hk3=>?_) (λe=>?_))
 .exact qL 4 [1,0] U (ai call218 (si _ _ _ _ _ _ _ ha.Kinds yB.Kinds) U (qO 2 U (hk3 _ U)))
 refine ao (cn 8 [36,37,38,39,40,41,42,43,44] 36 44 ((a.Rules.length:Int) != (ku.Rules.length:Int)) U (λc4 hk4=>?_) (λe=>?_))
 .exact qL 8 [1,0] U (hk4 _ U)
 refine ao (cn 7 [45,46,47,48,49,50,51,52] 45 52 (!(cg a.Change ku.Change)) U (λc5 hk5=>?_) (λe=>?_))
 .exact qL 1 [] U (cI 1 ty88 U U U (qL 1 [] U (cI 0 ty88 U U U (ai call219 (tw _ _ _ _ _ ha.Change yB.Change) U (qO 2 U (hk5 _ U))))))
 refine aH (ae hs0 U (λc6 hs1=>?_) (λc6 hs2=>?_))
 .exact sr (an (nretP [.bool false] (cs hs1)))
 refine qT 6 U ?_
 refine lp0 a.Rules (λi=>[(2,Q b1),(3,Q b2),(5,I (i:Int))]) ([(b2,O (kD ku pR) 94),(b1,O (kD a Ic) 94)]) (λs1 i=>(j3.L1 ku (j3.K1)) s1 i) ha.Rules.1.1 hs2 ?_ ?_ ?_
 .rintro i1 fB hs4 e
  exact sr (an (nretP [.bool true] (cs hs4)))
 .rintro i1 y1 rz1 hd1 du bo eA gD hs6 hx1 ag1 e
  refine qK 7 [1] U (tO du U (qL 10 [1] U (aw (iR tQ ty91 ha.Rules.1 bo U U U (λ_ _ _ e=>e) (λq3 r3 A3 ok3=>dl ty91 A3 U U (aU zc91 (λb5=>aR 0 ty91 U U U U U U (qL 6 [1] U ?_))))))))
  have ho2:0<=((i1:Int):Int)/\((i1:Int):Int)<((ku.Rules).length:Int):=ob
  refine aw (BG tQ ty91 yB.Rules.1 ho2 (dy ho2) U U U (λ_ _ _ e=>e) (λq4 r4 A4 ok4=>dl ty91 A4 U U (aU zc91 (λb6=>aR 0 ty91 U U U U U U (qL 9 [1,0] U (cn 6 [75,76,77,78,79,80,81] 75 81 (y1.KindNo != (nthI ku.Rules (i1:Int)).KindNo) U (λc7 hk6=>?_) (λe=>?_)))))))
  .exact qL 6 [1,0] U (hk6 _ U)
  refine ao (cn 6 [82,83,84,85,86,87,88] 82 88 (y1.Think != (nthI ku.Rules (i1:Int)).Think) U (λc8 hk7=>?_) (λe=>?_))
  .exact qL 6 [1,0] U (hk7 _ U)
  refine ao (cn 7 [89,90,91,92,93,94,95,96] 89 96 (!(cg y1.Expr ((nthI ku.Rules (i1:Int)).Expr))) U (λc9 hk8=>?_) (λe=>?_))
  .exact qL 1 [] U (cI 1 ty88 U U U (qL 1 [] U (cI 0 ty88 U U U (ai call219 (tw _ _ _ _ _ ok3.Expr ok4.Expr) U (qO 2 U (hk8 _ U))))))
  refine aH (ae hs6 U (λc10 hs7=>?_) (λc10 hs8=>?_))
  .exact sr (an (nretP [.bool false] (cs hs7)))
  exact aQ (qT 3 U (oi i1 U (an (bj (L':=[(b2,O (kD ku pR) 94),(b1,O (kD a Ic) 94)]) js (ag1 hs8)))))
 rintro i1 hd1 iw hx e
 exact qK 7 [1] U (fO iw U (qO 3 U (hx _ rd)))
theorem wN(h:HF)(p:Policy)(gG:eU)(hp:kN h p gG)(hsm:smP p):Ret prog 93 [.agg (kD p gG).toArray] h (I (gO p)):=by
 refine sT func93 U ntmps93 U λX hM hX hF=>?_
 have hs0:=@rfl _ (gO p)
 refine sr (ct (λb1=>qO 4 U (cI 0 ty94 U U U (aw (cJ call158 (BH _ _ _ hp ob) U (λv1 h1 hle1 hp1=>?_))))))
 obtain⟨rr1,rfl,ok1⟩:=hp1
 refine qO 3 U (aU zc94 (λb2=>aR 0 ty94 U U U U U U (qO 8 U (ae hs0 U (λc1 hs1=>?_) (λc1 hs2=>?_)))))
 .exact sr (qO 3 U (nretP [I ((ew p).2)] (ci hs1)))
 refine qT 4 U (cI 0 ty94 U U U (cI 1 ty94 U U U (ai call159 (Fz _ _ _ _ _ ok1 (hp.mono hle1)) U (qO 2 U (ae hs2 U (λc2 hs4=>?_) (λc2 hs5=>?_))))))
 .exact sr (an (nretP [I 200] (ci hs4)))
 exact aQ (qT 4 U (nretP [I 0] (ci hs5)))
theorem AH(h:HF)(l:List Version)(fq:Option Addr)(fp:Nat)(hl:SlC jQ h fq fp l)(hsm:smV l):Ret prog 45 [.slice fq l.length fp] h (I (e9 l)):=by
 refine sT func45 U ntmps45 U λX hM hX hF=>?_
 have hs0:=@rfl _ (e9 l)
 refine qK 11 [] U (ae hs0 U (λc1 hs1=>?_) (λc1 hs2=>?_))
 .have c1p:=of_decide_eq_true c1
  exact sr (an (nretP [I 2] (ci hs1)))
 have c1p:=of_decide_eq_false c1
 refine qT 6 U ?_
 refine lp0 l (λi=>[(0,.slice fq l.length fp),(3,I (i:Int))]) ([]) (λs1 i=>(e9.L1 l (e9.K1)) s1 i) hl.1.1 hs2 ?_ ?_ ?_
 .rintro i1 fB hs4 e
  exact sr (an (nretP [I 0] (ci hs4)))
 .rintro i1 y1 rz1 hd1 du bo eA gD hs6 hx1 ag1 e
  have hsy:=hsm.2 y1 (fS hd1)
  refine qK 6 [] U (tO du U (qO 9 U (aw (iR wC ty96 hl.1 bo U U U (λ_ _ _ e=>e) (λq2 r2 A2 ok2=>dl ty96 A2 U U (aU zc96 (λb2=>aR 0 ty96 U U U U U U (qO 2 U ?_))))))))
  refine nU [(0,.slice fq l.length fp),(3,I (i1:Int)),(58,.bool (((((decide (y1.No<0)||decide (1048576<y1.No))||(decide (0<(i1:Int))&&decide (y1.No<=(nthI l ((i1:Int)-1)).No)))||(!(fh y1.At)))||(!(fh y1.Known)))||((gO y1.Policy) != 0)))] (λe=>?_) (λhk1=>?_)
  rotate_left
  .let z1:Nat×Obj:=(b2,O (Version.cells y1 r2) 96)
   refine eQ ([z1]) mixed kr jn (λeF _=>?_)
   refine qB [0] U (tf 1 U U (rj 0 ty3 U U U) (qA [2,3] U ?_))
   refine dt 21 U (λc2=>?_) (λc2=>?_)
   .have c2p:=of_decide_eq_true c2
    exact tk 4 U U (qR 5 36 U (aN kr (hk1 _ ⟨U,U,(cb (show true=(((((decide (y1.No<0)||decide (1048576<y1.No))||(decide (0<(i1:Int))&&decide (y1.No<=(nthI l ((i1:Int)-1)).No)))||(!(fh y1.At)))||(!(fh y1.Known)))||((gO y1.Policy) != 0))from by rw[c2]<;>rfl)),trivial⟩)))
   have c2p:=of_decide_eq_false c2
   refine qB [4] U (tf 5 U U (rj 0 ty3 U U U) (qR 6 3 U ?_))
   refine dt 26 U (λc3=>?_) (λc3=>?_)
   .have c3p:=of_decide_eq_true c3
    exact tk 9 U U (qR 10 31 U (aN kr (hk1 _ ⟨U,U,(cb (show true=(((((decide (y1.No<0)||decide (1048576<y1.No))||(decide (0<(i1:Int))&&decide (y1.No<=(nthI l ((i1:Int)-1)).No)))||(!(fh y1.At)))||(!(fh y1.Known)))||((gO y1.Policy) != 0))from by rw[c2,c3]<;>rfl)),trivial⟩)))
   have c3p:=of_decide_eq_false c3
   refine qR 9 3 U ?_
   refine dt 29 U (λc4=>?_) (λc4=>?_)
   .have c4p:=of_decide_eq_true c4
    refine qA [12,13] U (tf 14 U U (λ_ _ _=>ny (v':=I ((i1:Int)-1)) U (jc ob)) ?_)
    have ho1:0<=(((i1:Int)-1):Int)/\(((i1:Int)-1):Int)<((l).length:Int):=ob
    refine km 15 eF jn wC ty96 hl.1 ho1 (dy ho1) U U U U kr (λq3 cs3 A3 ln3 rr3=>?_)
    obtain⟨r3,rfl,ok3⟩:=rr3
    refine qB [16] U (tf 17 U U (rh ty3 A3 U) (qB [18] U (tf 19 U U (rj 0 ty3 U U U) (qR 20 4 U ?_))))
    refine dt 41 U (λc5=>?_) (λc5=>?_)
    .have c5p:=of_decide_eq_true c5
     exact tk 24 U U (qR 25 16 U (aN kr (hk1 _ ⟨U,U,(cb (show true=(((((decide (y1.No<0)||decide (1048576<y1.No))||(decide (0<(i1:Int))&&decide (y1.No<=(nthI l ((i1:Int)-1)).No)))||(!(fh y1.At)))||(!(fh y1.Known)))||((gO y1.Policy) != 0))from by rw[c2,c3,c4,c5]<;>rfl)),trivial⟩)))
    have c5p:=of_decide_eq_false c5
    refine qB [24] U (tf 25 U U (rj 0 ty3 U U U) (tn 26 U (fg KO (n8 h y1.At) U (⟨jn,(qR 27 3 U ?_)⟩))))
    refine dt 47 U (λc6=>?_) (λc6=>?_)
    .exact tk 30 U U (qR 31 10 U (aN kr (hk1 _ ⟨U,U,(cb (show true=(((((decide (y1.No<0)||decide (1048576<y1.No))||(decide (0<(i1:Int))&&decide (y1.No<=(nthI l ((i1:Int)-1)).No)))||(!(fh y1.At)))||(!(fh y1.Known)))||((gO y1.Policy) != 0))from by rw[c2,c3,c4,c5,c6]<;>rfl)),trivial⟩)))
    refine qB [30] U (tf 31 U U (rj 0 ty3 U U U) (tn 32 U (fg KO (n8 h y1.Known) U (⟨jn,(qR 33 3 U ?_)⟩))))
    refine dt 53 U (λc7=>?_) (λc7=>?_)
    .exact tk 36 U U (qR 37 4 U (aN kr (hk1 _ ⟨U,U,(cb (show true=(((((decide (y1.No<0)||decide (1048576<y1.No))||(decide (0<(i1:Int))&&decide (y1.No<=(nthI l ((i1:Int)-1)).No)))||(!(fh y1.At)))||(!(fh y1.Known)))||((gO y1.Policy) != 0))from by rw[c2,c3,c4,c5,c6,c7]<;>rfl)),trivial⟩)))
    exact tf 36 U U (λ_ _ _=>tA LM U) (tf 37 U U (λ_ _ hj=>jZ ty94 U (hj.nth (i:=0) U) U) (tn 38 U (fg call93 (wN _ _ _ ok2.Policy ob) U (⟨jn,(qA [39,40] U (aN kr (hk1 _ ⟨U,U,(cb (show((gO y1.Policy) != 0)=(((((decide (y1.No<0)||decide (1048576<y1.No))||(decide (0<(i1:Int))&&decide (y1.No<=(nthI l ((i1:Int)-1)).No)))||(!(fh y1.At)))||(!(fh y1.Known)))||((gO y1.Policy) != 0))from by rw[c2,c3,c4,c5,c6,c7]<;>rfl)),trivial⟩)))⟩))))
   have c4p:=of_decide_eq_false c4
   refine qD 12 13 U (tf 25 U U (rj 0 ty3 U U U) (tn 26 U (fg KO (n8 h y1.At) U (⟨jn,qR 27 3 U ?_⟩))))
   refine dt 47 U (λc8=>?_) (λc8=>?_)
   .exact tk 30 U U (qR 31 10 U (aN kr (hk1 _ ⟨U,U,(cb (show true=(((((decide (y1.No<0)||decide (1048576<y1.No))||(decide (0<(i1:Int))&&decide (y1.No<=(nthI l ((i1:Int)-1)).No)))||(!(fh y1.At)))||(!(fh y1.Known)))||((gO y1.Policy) != 0))from by rw[c2,c3,c4,c8]<;>rfl)),trivial⟩)))
   refine qB [30] U (tf 31 U U (rj 0 ty3 U U U) (tn 32 U (fg KO (n8 h y1.Known) U (⟨jn,(qR 33 3 U ?_)⟩))))
   refine dt 53 U (λc9=>?_) (λc9=>?_)
   .exact tk 36 U U (qR 37 4 U (aN kr (hk1 _ ⟨U,U,(cb (show true=(((((decide (y1.No<0)||decide (1048576<y1.No))||(decide (0<(i1:Int))&&decide (y1.No<=(nthI l ((i1:Int)-1)).No)))||(!(fh y1.At)))||(!(fh y1.Known)))||((gO y1.Policy) != 0))from by rw[c2,c3,c4,c8,c9]<;>rfl)),trivial⟩)))
   exact tf 36 U U (λ_ _ _=>tA LM U) (tf 37 U U (λ_ _ hj=>jZ ty94 U (hj.nth (i:=0) U) U) (tn 38 U (fg call93 (wN _ _ _ ok2.Policy ob) U (⟨jn,(qA [39,40] U (aN kr (hk1 _ ⟨U,U,(cb (show((gO y1.Policy) != 0)=(((((decide (y1.No<0)||decide (1048576<y1.No))||(decide (0<(i1:Int))&&decide (y1.No<=(nthI l ((i1:Int)-1)).No)))||(!(fh y1.At)))||(!(fh y1.Known)))||((gO y1.Policy) != 0))from by rw[c2,c3,c4,c8,c9]<;>rfl)),trivial⟩)))⟩))))
  refine ae hs6 U (λc10 hs7=>?_) (λc10 hs8=>?_)
  .exact sr (an (nretP [I 200] (ci hs7)))
  exact aQ (qT 3 U (oi i1 U (an (bj (L':=[]) js (ag1 hs8)))))
 rintro i1 hd1 iw hx e
 exact qK 6 [] U (fO iw U (qO 3 U (hx _ rd)))
theorem FA(h:HF)(t:Int)  : Ret prog 160 [I t] h (.bool (sk t)):=by
 refine sT func160 U ntmps160 U λX hM hX hF=>?_
 have hs0:=@rfl _ (sk t)
 refine qT 9 U (bD 3 [5,6,7,8] 5 8 (decide (t<1099511627776)) U (λc1 hk1=>?_) (λe=>?_))
 .exact ao (qO 2 U (hk1 _ U))
 exact an (nretP [.bool (decide (0<=t)&&decide (t<1099511627776))] (cs hs0))
theorem ua(h:HF)(l:List Int)(fq:Option Addr)(fp:Nat)(limit:Int)(hl:SlC zC h fq fp l):Ret prog 161 [.slice fq l.length fp,I limit] h (.bool (fQ l limit)):=by
 refine sT func161 U ntmps161 U λX hM hX hF=>?_
 have hs0:=@rfl _ (fQ l limit)
 refine qT 9 U ?_
 refine lp0 l (λi=>[(0,.slice fq l.length fp),(1,I limit),(5,I (i:Int))]) ([]) (λs1 i=>(fQ.L1 l limit (fQ.K1 l)) s1 i) hl.1.1 hs0 ?_ ?_ ?_
 .rintro i1 fB hs1 e
  exact qK 7 [] U (nretP [.bool (decide ((l.length:Int)<=16))] (cs hs1))
 .rintro i1 y1 rz1 hd1 du bo eA gD hs3 hx1 ag1 e
  refine qK 6 [] U (tO du U (qO 6 U ?_))
  refine nU [(0,.slice fq l.length fp),(1,I limit),(5,I (i1:Int)),(40,.bool ((decide (y1<0)||decide (limit<=y1))||(decide (0<(i1:Int))&&decide (y1<=(nthI l ((i1:Int)-1))))))] (λe=>?_) (λhk1=>?_)
  rotate_left
  .refine eQ ([]) mixed kr jn (λeF _=>?_)
   refine qA [0,1] U (fF 2 (enc:=λy=>[I y]) eF jn ei eG ty3 hl.1 (nthZ bo) (fV bo) U U U U kr (λq3 A3=>tf 3 U U (rh ty3 A3 U) (qA [4,5] U ?_)))
   refine dt 17 U (λc1=>?_) (λc1=>?_)
   .have c1p:=of_decide_eq_true c1
    exact tk 6 U U (qR 7 22 U (aN kr (hk1 _ ⟨U,U,U,(cb (show true=((decide (y1<0)||decide (limit<=y1))||(decide (0<(i1:Int))&&decide (y1<=(nthI l ((i1:Int)-1)))))from by rw[c1]<;>rfl)),trivial⟩)))
   have c1p:=of_decide_eq_false c1
   refine qA [6,7] U (fF 8 (enc:=λy=>[I y]) eF jn ei eG ty3 hl.1 (nthZ bo) (fV bo) U U U U kr (λq4 A4=>tf 9 U U (rh ty3 A4 U) (qR 10 4 U ?_)))
   refine dt 25 U (λc2=>?_) (λc2=>?_)
   .have c2p:=of_decide_eq_true c2
    exact tk 14 U U (qR 15 14 U (aN kr (hk1 _ ⟨U,U,U,(cb (show true=((decide (y1<0)||decide (limit<=y1))||(decide (0<(i1:Int))&&decide (y1<=(nthI l ((i1:Int)-1)))))from by rw[c1,c2]<;>rfl)),trivial⟩)))
   have c2p:=of_decide_eq_false c2
   refine qR 14 3 U ?_
   refine dt 28 U (λc3=>?_) (λc3=>?_)
   .have c3p:=of_decide_eq_true c3
    refine qA [17,18] U (fF 19 (enc:=λy=>[I y]) eF jn ei eG ty3 hl.1 (nthZ bo) (fV bo) U U U U kr (λq5 A5=>tf 20 U U (rh ty3 A5 U) (qA [21,22] U (tf 23 U U (λ_ _ _=>ny (v':=I ((i1:Int)-1)) U (jc ob)) ?_))))
    have ho1:0<=(((i1:Int)-1):Int)/\(((i1:Int)-1):Int)<((l).length:Int):=ob
    exact fF 24 (enc:=λy=>[I y]) eF jn ei eG ty3 hl.1 ho1 (dy ho1) U U U U kr (λq6 A6=>tf 25 U U (rh ty3 A6 U) (qR 26 3 U (aN kr (hk1 _ ⟨U,U,U,(cb (show decide (y1<=(nthI l ((i1:Int)-1)))=((decide (y1<0)||decide (limit<=y1))||(decide (0<(i1:Int))&&decide (y1<=(nthI l ((i1:Int)-1)))))from by rw[c1,c2,c3]<;>rfl)),trivial⟩))))
   have c3p:=of_decide_eq_false c3
   exact tk 17 U U (qR 18 11 U (aN kr (hk1 _ ⟨U,U,U,(cb (show false=((decide (y1<0)||decide (limit<=y1))||(decide (0<(i1:Int))&&decide (y1<=(nthI l ((i1:Int)-1)))))from by rw[c1,c2,c3]<;>rfl)),trivial⟩)))
  refine ae hs3 U (λc4 hs4=>?_) (λc4 hs5=>?_)
  .exact sr (an (nretP [.bool false] (cs hs4)))
  exact aQ (qT 3 U (oi i1 U (an (ag1 hs5))))
 rintro i1 hd1 iw hx e
 exact qK 6 [] U (fO iw U (qO 3 U (hx _ rd)))
theorem Ej(h:HF)(d:Document)(GV:iC)(hd:R8 h d GV):Ret prog 94 [.agg (Document.cells d GV).toArray] h (.bool (ki d)):=by
 refine sT func94 U ntmps94 U λX hM hX hF=>?_
 have hs0:=@rfl _ (ki d)
 refine sr (ct (λb1=>qL 9 [0] U (cn 4 [6,7,8,9,10] 6 10 (decide (4096<=d.No)) U (λc1 hk1=>?_) (λe=>?_))))
 .exact qL 4 [0] U (hk1 _ U)
 refine ao (cn 5 [11,12,13,14,15,16] 11 16 (!(sk d.At)) U (λc2 hk2=>?_) (λe=>?_))
 .exact qL 2 [0] U (ai call160 (FA h d.At) U (qO 2 U (hk2 _ U)))
 refine ao (cn 4 [17,18,19,20,21] 17 21 (decide (d.Kind<0)) U (λc3 hk3=>?_) (λe=>?_))
 .exact qL 4 [0] U (hk3 _ U)
 refine ao (cn 4 [22,23,24,25,26] 22 26 (decide (16<=d.Kind)) U (λc4 hk4=>?_) (λe=>?_))
 .exact qL 4 [0] U (hk4 _ U)
 refine ao (cn 4 [27,28,29,30,31] 27 31 (decide (d.Value<0)) U (λc5 hk5=>?_) (λe=>?_))
 .exact qL 4 [0] U (hk5 _ U)
 refine ao (cn 4 [32,33,34,35,36] 32 36 (decide (1099511627776<d.Value)) U (λc6 hk6=>?_) (λe=>?_))
 .exact qL 4 [0] U (hk6 _ U)
 refine aH (ae hs0 U (λc7 hs1=>?_) (λc7 hs2=>?_))
 .exact sr (an (nretP [.bool false] (cs hs1)))
 refine qK 7 [0] U (bD 6 [40,41,42,43,44,45,46] 40 46 (decide (d.From<d.Until)) U (λc8 hk7=>?_) (λe=>?_))
 .exact qL 6 [0,0] U (hk7 _ U)
 refine ao (bD 4 [47,48,49,50,51] 47 51 (decide (d.Until<=1099511627776)) U (λc9 hk8=>?_) (λe=>?_))
 .exact qL 4 [0] U (hk8 _ U)
 refine ao (bD 4 [52,53,54,55,56] 52 56 (fQ d.Parties 1048577) U (λc10 hk9=>?_) (λe=>?_))
 .exact qL 2 [0] U (ai call161 (ua _ _ _ _ 1048577 hd.Parties) U (eM U (hk9 _ U)))
 refine ao (bD 6 [57,58,59,60,61,62,63] 57 63 (fQ d.Revokes d.No) U (λc11 hk10=>?_) (λe=>?_))
 .exact qL 4 [0,0] U (ai call161 (ua _ _ _ _ d.No hd.Revokes) U (eM U (hk10 _ U)))
 refine ao (bD 6 [64,65,66,67,68,69,70] 64 70 (fQ d.Needs d.No) U (λc12 hk11=>?_) (λe=>?_))
 .exact qL 4 [0,0] U (ai call161 (ua _ _ _ _ d.No hd.Needs) U (eM U (hk11 _ U)))
 exact an (nretP [.bool (((((decide (0<=d.From)&&decide (d.From<d.Until))&&decide (d.Until<=1099511627776))&&(fQ d.Parties 1048577))&&(fQ d.Revokes d.No))&&(fQ d.Needs d.No))] (cs hs2))
theorem FB(h:HF)(l:List Document)(fq:Option Addr)(fp:Nat)(no:Int)(hl:SlC RV h fq fp l):Ret prog 162 [.slice fq l.length fp,I no] h (I (ja l no)):=by
 refine sT func162 U ntmps162 U λX hM hX hF=>?_
 have hs0:=@rfl _ (ja l no)
 refine qT 9 U ?_
 refine lp0 l (λi=>[(0,.slice fq l.length fp),(1,I no),(5,I (i:Int))]) ([]) (λs1 i=>(ja.L1 no (ja.K1)) s1 i) hl.1.1 hs0 ?_ ?_ ?_
 .rintro i1 fB hs1 e
  exact sr (an (nretP [I (-1)] (ci hs1)))
 .rintro i1 y1 rz1 hd1 du bo eA gD hs3 hx1 ag1 e
  refine qK 6 [] U (tO du U (qO 9 U (aw (iR rC ty70 hl.1 bo U U U (λ_ _ _ e=>e) (λq2 r2 A2 ok2=>qL 1 [] U (de ty3 A2 U (qO 3 U (ae hs3 U (λc2 hs4=>?_) (λc2 hs5=>?_)))))))))
  .exact sr (qO 3 U (nretP [I (i1:Int)] (ci hs4)))
  exact aQ (qT 3 U (oi i1 U (an (ag1 hs5))))
 rintro i1 hd1 iw hx e
 exact qK 6 [] U (fO iw U (qO 3 U (hx _ rd)))
theorem pd(h:HF)(l:List Document)(fq:Option Addr)(fp:Nat)(nos:List Int)(N2:Option Addr)(N1:Nat)(hl:SlC RV h fq fp l)(hnos:SlC zC h N2 N1 nos):Ret prog 95 [.slice fq l.length fp,.slice N2 nos.length N1] h (.bool (dV l nos)):=by
 refine sT func95 U ntmps95 U λX hM hX hF=>?_
 have hs0:=@rfl _ (dV l nos)
 refine qT 9 U ?_
 refine lp0 nos (λi=>[(0,.slice fq l.length fp),(1,.slice N2 nos.length N1),(5,I (i:Int))]) ([]) (λs1 i=>(dV.L1 l (dV.K1)) s1) hnos.1.1 hs0 ?_ ?_ ?_
 .rintro i1 fB hs1 e
  exact sr (an (nretP [.bool true] (cs hs1)))
 .rintro i1 y1 rz1 hd1 du bo eA gD hs3 hx1 ag1 e
  refine qK 6 [] U (tO du U (qO 10 U (aw (iF (λy=>[I y]) eG ty3 hnos.1 bo U U U (λq2 A2=>de ty3 A2 U (ai call162 (FB _ _ _ _ y1 hl) U (qO 2 U (ae hs3 U (λc2 hs4=>?_) (λc2 hs5=>?_)))))))))
  .have c2p:=of_decide_eq_true c2
   exact sr (an (nretP [.bool false] (cs hs4)))
  have c2p:=of_decide_eq_false c2
  exact aQ (qT 3 U (oi i1 U (an (ag1 hs5))))
 rintro i1 hd1 iw hx e
 exact qK 6 [] U (fO iw U (qO 3 U (hx _ rd)))
theorem Ek(h:HF)(l:List Document)(fq:Option Addr)(fp:Nat)(hl:SlC RV h fq fp l):Ret prog 46 [.slice fq l.length fp] h (I (ii l)):=by
 refine sT func46 U ntmps46 U λX hM hX hF=>?_
 have hs0:=@rfl _ (ii l)
 refine qK 11 [] U (ae hs0 U (λc1 hs1=>?_) (λc1 hs2=>?_))
 .have c1p:=of_decide_eq_true c1
  exact sr (an (nretP [I 2] (ci hs1)))
 have c1p:=of_decide_eq_false c1
 refine qT 6 U ?_
 refine lp0 l (λi=>[(0,.slice fq l.length fp),(3,I (i:Int))]) ([]) (λs1 i=>(ii.L1 l (ii.K1)) s1 i) hl.1.1 hs2 ?_ ?_ ?_
 .rintro i1 fB hs4 e
  exact sr (an (nretP [I 0] (ci hs4)))
 .rintro i1 y1 rz1 hd1 du bo eA gD hs6 hx1 ag1 e
  refine qK 6 [] U (tO du U (qO 6 U ?_))
  refine nU [(0,.slice fq l.length fp),(3,I (i1:Int)),(56,.bool ((((!(ki y1))||(decide (0<(i1:Int))&&decide (y1.No<=(nthI l ((i1:Int)-1)).No)))||(!(dV l y1.Revokes)))||(!(dV l y1.Needs))))] (λe=>?_) (λhk1=>?_)
  rotate_left
  .refine eQ ([]) mixed kr jn (λeF _=>?_)
   refine qA [0,1] U (km 2 eF jn rC ty70 hl.1 (nthZ bo) (fV bo) U U U U kr (λq4 cs4 A4 ln4 rr4=>?_))
   obtain⟨r4,rfl,ok4⟩:=rr4
   refine tf 3 U U (λ_ _ hj=>kU ty70 (A4.mono hj.1) U U) (tn 4 U (fg call94 (Ej _ _ _ ok4) U (⟨jn,qA [5,6] U ?_⟩)))
   refine dt 19 U (λc2=>?_) (λc2=>?_)
   .exact tk 7 U U (qR 8 36 U (aN kr (hk1 _ ⟨U,U,(cb (show true=((((!(ki y1))||(decide (0<(i1:Int))&&decide (y1.No<=(nthI l ((i1:Int)-1)).No)))||(!(dV l y1.Revokes)))||(!(dV l y1.Needs)))from by rw[c2]<;>rfl)),trivial⟩)))
   refine qR 7 3 U ?_
   refine dt 22 U (λc3=>?_) (λc3=>?_)
   .have c3p:=of_decide_eq_true c3
    refine qA [10,11] U (km 12 eF jn rC ty70 hl.1 (nthZ bo) (fV bo) U U U U kr (λq5 cs5 A5 ln5 rr5=>?_))
    obtain⟨r5,rfl,ok5⟩:=rr5
    refine qB [13] U (tf 14 U U (rh ty3 A5 U) (qA [15,16] U (tf 17 U U (λ_ _ _=>ny (v':=I ((i1:Int)-1)) U (jc ob)) ?_)))
    have ho2:0<=(((i1:Int)-1):Int)/\(((i1:Int)-1):Int)<((l).length:Int):=ob
    refine km 18 eF jn rC ty70 hl.1 ho2 (dy ho2) U U U U kr (λq6 cs6 A6 ln6 rr6=>?_)
    obtain⟨r6,rfl,ok6⟩:=rr6
    refine qB [19] U (tf 20 U U (rh ty3 A6 U) (qR 21 4 U ?_))
    refine dt 37 U (λc4=>?_) (λc4=>?_)
    .have c4p:=of_decide_eq_true c4
     exact tk 25 U U (qR 26 18 U (aN kr (hk1 _ ⟨U,U,(cb (show true=((((!(ki y1))||(decide (0<(i1:Int))&&decide (y1.No<=(nthI l ((i1:Int)-1)).No)))||(!(dV l y1.Revokes)))||(!(dV l y1.Needs)))from by rw[c2,c3,c4]<;>rfl)),trivial⟩)))
    have c4p:=of_decide_eq_false c4
    refine qR 25 3 U (km 28 eF jn rC ty70 hl.1 (nthZ bo) (fV bo) U U U U kr (λq7 cs7 A7 ln7 rr7=>?_))
    obtain⟨r7,rfl,ok7⟩:=rr7
    refine qB [29] U (tf 30 U U (rH 7 ty31 A7 U U) (tn 31 U (fg J9 (pd _ _ _ _ _ _ _ hl ok7.Revokes) U (⟨jn,(qR 32 3 U ?_)⟩))))
    refine dt 47 U (λc5=>?_) (λc5=>?_)
    .exact tk 35 U U (qR 36 8 U (aN kr (hk1 _ ⟨U,U,(cb (show true=((((!(ki y1))||(decide (0<(i1:Int))&&decide (y1.No<=(nthI l ((i1:Int)-1)).No)))||(!(dV l y1.Revokes)))||(!(dV l y1.Needs)))from by rw[c2,c3,c4,c5]<;>rfl)),trivial⟩)))
    refine qR 35 3 U (km 38 eF jn rC ty70 hl.1 (nthZ bo) (fV bo) U U U U kr (λq8 cs8 A8 ln8 rr8=>?_))
    obtain⟨r8,rfl,ok8⟩:=rr8
    exact tf 39 U U (λ_ _ _=>tA HU U) (tf 40 U U (rH 8 ty31 A8 U U) (tn 41 U (fg J9 (pd _ _ _ _ _ _ _ hl ok8.Needs) U (⟨jn,(qA [42,43] U (aN kr (hk1 _ ⟨U,U,(cb (show(!(dV l y1.Needs))=((((!(ki y1))||(decide (0<(i1:Int))&&decide (y1.No<=(nthI l ((i1:Int)-1)).No)))||(!(dV l y1.Revokes)))||(!(dV l y1.Needs)))from by rw[c2,c3,c4,c5]<;>rfl)),trivial⟩)))⟩))))
   have c3p:=of_decide_eq_false c3
   refine qR 10 18 U (km 28 eF jn rC ty70 hl.1 (nthZ bo) (fV bo) U U U U kr (λq9 cs9 A9 ln9 rr9=>?_))
   obtain⟨r9,rfl,ok9⟩:=rr9
   refine qB [29] U (tf 30 U U (rH 7 ty31 A9 U U) (tn 31 U (fg J9 (pd _ _ _ _ _ _ _ hl ok9.Revokes) U (⟨jn,(qR 32 3 U ?_)⟩))))
   refine dt 47 U (λc6=>?_) (λc6=>?_)
   .exact tk 35 U U (qR 36 8 U (aN kr (hk1 _ ⟨U,U,(cb (show true=((((!(ki y1))||(decide (0<(i1:Int))&&decide (y1.No<=(nthI l ((i1:Int)-1)).No)))||(!(dV l y1.Revokes)))||(!(dV l y1.Needs)))from by rw[c2,c3,c6]<;>rfl)),trivial⟩)))
   refine qR 35 3 U (km 38 eF jn rC ty70 hl.1 (nthZ bo) (fV bo) U U U U kr (λq10 cs10 A10 ln10 rr10=>?_))
   obtain⟨r10,rfl,ok10⟩:=rr10
   exact tf 39 U U (λ_ _ _=>tA HU U) (tf 40 U U (rH 8 ty31 A10 U U) (tn 41 U (fg J9 (pd _ _ _ _ _ _ _ hl ok10.Needs) U (⟨jn,(qA [42,43] U (aN kr (hk1 _ ⟨U,U,(cb (show(!(dV l y1.Needs))=((((!(ki y1))||(decide (0<(i1:Int))&&decide (y1.No<=(nthI l ((i1:Int)-1)).No)))||(!(dV l y1.Revokes)))||(!(dV l y1.Needs)))from by rw[c2,c3,c6]<;>rfl)),trivial⟩)))⟩))))
  refine ae hs6 U (λc7 hs7=>?_) (λc7 hs8=>?_)
  .exact sr (an (nretP [I 170] (ci hs7)))
  exact aQ (qT 3 U (oi i1 U (an (ag1 hs8))))
 rintro i1 hd1 iw hx e
 exact qK 6 [] U (fO iw U (qO 3 U (hx _ rd)))
theorem lT(h:HF)(eS:Int)(most:Int)  : Ret prog 163 [I eS,I most] h (.bool (gv eS most)):=by
 refine sT func163 U ntmps163 U λX hM hX hF=>?_
 have hs0:=@rfl _ (gv eS most)
 refine qT 9 U (bD 4 [7,8,9,10,11] 7 11 (decide (eS<=most)) U (λc1 hk1=>?_) (λe=>?_))
 .exact ao (qO 3 U (hk1 _ U))
 exact an (nretP [.bool (decide (0<=eS)&&decide (eS<=most))] (cs hs0))
theorem yJ(h:HF)(eS:Int)  : Ret prog 164 [I eS] h (.bool (oA eS)):=by
 refine sT func164 U ntmps164 U λX hM hX hF=>?_
 have hs0:=@rfl _ (oA eS)
 exact sr (qO 5 U (ai Ih (lT h eS 1099511627775) U (an (nretP [.bool (gv eS 1099511627775)] (cs hs0)))))
theorem Hq(h:HF)(eS:Int)  : Ret prog 165 [I eS] h (.bool (uq eS)):=by
 refine sT func165 U ntmps165 U λX hM hX hF=>?_
 have hs0:=@rfl _ (uq eS)
 exact sr (qO 5 U (ai Ih (lT h eS 4095) U (an (nretP [.bool (gv eS 4095)] (cs hs0)))))
theorem Ec(h:HF)(x:Approval)  : Ret prog 96 [.agg (zD x).toArray] h (.bool (kg x)):=by
 refine sT func96 U ntmps96 U λX hM hX hF=>?_
 have hs0:=@rfl _ (kg x)
 refine sr (ct (λb1=>qL 7 [0] U (ai Ih (lT h x.No 1048576) U (qO 2 U (cn 5 [7,8,9,10,11,12] 7 12 (!(oA x.At)) U (λc1 hk1=>?_) (λe=>?_))))))
 .exact qL 2 [0] U (ai call164 (yJ h x.At) U (qO 2 U (hk1 _ U)))
 refine ao (cn 5 [13,14,15,16,17,18] 13 18 (!(oA x.Known)) U (λc2 hk2=>?_) (λe=>?_))
 .exact qL 2 [0] U (ai call164 (yJ h x.Known) U (qO 2 U (hk2 _ U)))
 refine ao (cn 5 [19,20,21,22,23,24] 19 24 (!(uq x.Doc)) U (λc3 hk3=>?_) (λe=>?_))
 .exact qL 2 [0] U (ai call165 (Hq h x.Doc) U (qO 2 U (hk3 _ U)))
 refine aH (ae hs0 U (λc4 hs1=>?_) (λc4 hs2=>?_))
 .exact sr (an (nretP [.bool false] (cs hs1)))
 refine qK 5 [0] U (ai Ih (lT h x.By 63) U (ao (bD 4 [28,29,30,31,32] 28 32 (gv x.For 63) U (λc5 hk4=>?_) (λe=>?_))))
 .exact qL 2 [0] U (ai Ih (lT h x.For 63) U (eM U (hk4 _ U)))
 refine ao (bD 4 [33,34,35,36,37] 33 37 (gv x.Office 31) U (λc6 hk5=>?_) (λe=>?_))
 .exact qL 2 [0] U (ai Ih (lT h x.Office 31) U (eM U (hk5 _ U)))
 exact an (nretP [.bool (((gv x.By 63)&&(gv x.For 63))&&(gv x.Office 31))] (cs hs2))
theorem Ed(h:HF)(l:List Approval)(fq:Option Addr)(fp:Nat)(hl:SlC Approval.rp h fq fp l):Ret prog 47 [.slice fq l.length fp] h (I (ie l)):=by
 refine sT func47 U ntmps47 U λX hM hX hF=>?_
 have hs0:=@rfl _ (ie l)
 refine qK 11 [] U (ae hs0 U (λc1 hs1=>?_) (λc1 hs2=>?_))
 .have c1p:=of_decide_eq_true c1
  exact sr (an (nretP [I 2] (ci hs1)))
 have c1p:=of_decide_eq_false c1
 refine qT 6 U ?_
 refine lp0 l (λi=>[(0,.slice fq l.length fp),(3,I (i:Int))]) ([]) (λs1 i=>(ie.L1 l (ie.K1)) s1 i) hl.1.1 hs2 ?_ ?_ ?_
 .rintro i1 fB hs4 e
  exact sr (an (nretP [I 0] (ci hs4)))
 .rintro i1 y1 rz1 hd1 du bo eA gD hs6 hx1 ag1 e
  refine qK 6 [] U (tO du U (qO 6 U ?_))
  refine nU [(0,.slice fq l.length fp),(3,I (i1:Int)),(36,.bool ((!(kg y1))||(decide (0<(i1:Int))&&decide (y1.No<=(nthI l ((i1:Int)-1)).No))))] (λe=>?_) (λhk1=>?_)
  rotate_left
  .refine eQ ([]) mixed kr jn (λeF _=>?_)
   refine qA [0,1] U (fF 2 (enc:=zD) eF jn ei Ai ty163 hl.1 (nthZ bo) (fV bo) U U U U kr (λq4 A4=>tf 3 U U (λ_ _ hj=>kU ty163 (A4.mono hj.1) U U) (tn 4 U (fg call96 (Ec h y1) U (⟨jn,qA [5,6] U ?_⟩)))))
   refine dt 19 U (λc2=>?_) (λc2=>?_)
   .exact tk 7 U U (qR 8 16 U (aN kr (hk1 _ ⟨U,U,(cb (show true=((!(kg y1))||(decide (0<(i1:Int))&&decide (y1.No<=(nthI l ((i1:Int)-1)).No)))from by rw[c2]<;>rfl)),trivial⟩)))
   refine qR 7 3 U ?_
   refine dt 22 U (λc3=>?_) (λc3=>?_)
   .have c3p:=of_decide_eq_true c3
    refine qA [10,11] U (tf 12 U U (λ_ _ _=>ny (v':=I ((i1:Int)-1)) U (jc ob)) ?_)
    have ho2:0<=(((i1:Int)-1):Int)/\(((i1:Int)-1):Int)<((l).length:Int):=ob
    exact fF 13 (enc:=zD) eF jn ei Ai ty163 hl.1 ho2 (dy ho2) U U U U kr (λq5 A5=>qB [14] U (tf 15 U U (rh ty3 A5 U) (qA [16,17] U (fF 18 (enc:=zD) eF jn ei Ai ty163 hl.1 (nthZ bo) (fV bo) U U U U kr (λq6 A6=>qB [19] U (tf 20 U U (rh ty3 A6 U) (qR 21 3 U (aN kr (hk1 _ ⟨U,U,(cb (show decide (y1.No<=(nthI l ((i1:Int)-1)).No)=((!(kg y1))||(decide (0<(i1:Int))&&decide (y1.No<=(nthI l ((i1:Int)-1)).No)))from by rw[c2,c3]<;>rfl)),trivial⟩)))))))))
   have c3p:=of_decide_eq_false c3
   exact tk 10 U U (qR 11 13 U (aN kr (hk1 _ ⟨U,U,(cb (show false=((!(kg y1))||(decide (0<(i1:Int))&&decide (y1.No<=(nthI l ((i1:Int)-1)).No)))from by rw[c2,c3]<;>rfl)),trivial⟩)))
  refine ae hs6 U (λc4 hs7=>?_) (λc4 hs8=>?_)
  .exact sr (an (nretP [I 280] (ci hs7)))
  exact aQ (qT 3 U (oi i1 U (an (ag1 hs8))))
 rintro i1 hd1 iw hx e
 exact qK 6 [] U (fO iw U (qO 3 U (hx _ rd)))
theorem D9(h:HF)(bG:Register)(dW:eN)(kW:qP h bG dW)(hsm:smR bG):Ret prog 14 [.agg (jF bG dW).toArray] h (I (mK bG)):=by
 refine sT func14 U ntmps14 U λX hM hX hF=>?_
 have hs0:=@rfl _ (mK bG)
 have hsv:=hsm.vers
 refine sr (ct (λb1=>qL 7 [0] U (ai call41 (Eo _ _ _ _ kW.Appoints) U (qO 2 U (cn 5 [7,8,9,10,11,12] 7 12 ((ij bG.Deputies) != 0) U (λc1 hk1=>?_) (λe=>?_))))))
 .exact qL 2 [0] U (ai call42 (Em _ _ _ _ kW.Deputies) U (qO 2 U (hk1 _ U)))
 refine ao (cn 5 [13,14,15,16,17,18] 13 18 ((fT bG.Interests) != 0) U (λc2 hk2=>?_) (λe=>?_))
 .exact qL 2 [0] U (ai call43 (Eb _ _ _ _ kW.Interests) U (qO 2 U (hk2 _ U)))
 refine ao (cn 5 [19,20,21,22,23,24] 19 24 ((ig bG.Budgets) != 0) U (λc3 hk3=>?_) (λe=>?_))
 .exact qL 2 [0] U (ai call44 (Ei _ _ _ _ kW.Budgets) U (qO 2 U (hk3 _ U)))
 refine aH (ae hs0 U (λc4 hs1=>?_) (λc4 hs2=>?_))
 .exact sr (an (nretP [I 300] (ci hs1)))
 refine qK 6 [0] U (ai call45 (AH _ _ _ _ kW.Versions ob) U (qO 2 U (cn 5 [29,30,31,32,33,34] 29 34 ((ii bG.Docs) != 0) U (λc5 hk4=>?_) (λe=>?_))))
 .exact qL 2 [0] U (ai call46 (Ek _ _ _ _ kW.Docs) U (qO 2 U (hk4 _ U)))
 refine ao (cn 5 [35,36,37,38,39,40] 35 40 ((ie bG.Approvals) != 0) U (λc6 hk5=>?_) (λe=>?_))
 .exact qL 2 [0] U (ai call47 (Ed _ _ _ _ kW.Approvals) U (qO 2 U (hk5 _ U)))
 refine aH (ae hs2 U (λc7 hs4=>?_) (λc7 hs5=>?_))
 .exact sr (an (nretP [I 300] (ci hs4)))
 exact aQ (qT 4 U (nretP [I 0] (ci hs5)))
theorem Hp(h:HF)(bG:Register)(dW:eN)(no:Int)(kW:qP h bG dW):Ret prog 15 [.agg (jF bG dW).toArray,I no] h (I (dc bG no)):=by
 refine sT func15 U ntmps15 U λX hM hX hF=>?_
 have hs0:=@rfl _ (dc bG no)
 refine sr (ct (λb1=>qO 7 U ?_))
 refine lp0 bG.Docs (λi=>[(1,I no),(2,Q b1),(5,I (i:Int))]) ([(b1,O (jF bG dW) 30)]) (λs1 i=>(dc.L1 no (dc.K1)) s1 i) kW.Docs.1.1 hs0 ?_ ?_ ?_
 .rintro i1 fB hs1 e
  exact sr (an (nretP [I (-1)] (ci hs1)))
 .rintro i1 y1 rz1 hd1 du bo eA gD hs3 hx1 ag1 e
  refine qK 7 [0] U (tO du U (qL 10 [0] U (aw (iR rC ty70 kW.Docs.1 bo U U U (λ_ _ _ e=>e) (λq2 r2 A2 ok2=>qL 1 [] U (de ty3 A2 U (qO 3 U (ae hs3 U (λc2 hs4=>?_) (λc2 hs5=>?_)))))))))
  .exact sr (qO 3 U (nretP [I (i1:Int)] (ci hs4)))
  exact aQ (qT 3 U (oi i1 U (an (ag1 hs5))))
 rintro i1 hd1 iw hx e
 exact qK 7 [0] U (fO iw U (qO 3 U (hx _ rd)))
theorem Da(h:HF)(who:List Int)(gF:Option Addr)(gE:Nat)(hwho:SlC zC h gF gE who):Ret prog 16 [.slice gF who.length gE] h (.bool (iU who)):=by
 refine sT func16 U ntmps16 U λX hM hX hF=>?_
 have hs0:=@rfl _ (iU who)
 refine qT 9 U ?_
 refine lp0 who (λi=>[(0,.slice gF who.length gE),(3,I (i:Int))]) ([]) (λs1 i=>(iU.L1 who (iU.K1)) s1 i) hwho.1.1 hs0 ?_ ?_ ?_
 .rintro i1 fB hs1 e
  exact sr (an (nretP [.bool true] (cs hs1)))
 .rintro i1 y1 rz1 hd1 du bo eA gD hs3 hx1 ag1 e
  refine qK 6 [] U (tO du U (qO 6 U ?_))
  refine nU [(0,.slice gF who.length gE),(3,I (i1:Int)),(37,.bool ((decide (y1<0)||decide (64<=y1))||(decide (0<(i1:Int))&&decide (y1<=(nthI who ((i1:Int)-1))))))] (λe=>?_) (λhk1=>?_)
  rotate_left
  .refine eQ ([]) mixed kr jn (λeF _=>?_)
   refine qA [0,1] U (fF 2 (enc:=λy=>[I y]) eF jn ei eG ty3 hwho.1 (nthZ bo) (fV bo) U U U U kr (λq3 A3=>tf 3 U U (rh ty3 A3 U) (qA [4,5] U ?_)))
   refine dt 15 U (λc1=>?_) (λc1=>?_)
   .have c1p:=of_decide_eq_true c1
    exact tk 6 U U (qR 7 21 U (aN kr (hk1 _ ⟨U,U,(cb (show true=((decide (y1<0)||decide (64<=y1))||(decide (0<(i1:Int))&&decide (y1<=(nthI who ((i1:Int)-1)))))from by rw[c1]<;>rfl)),trivial⟩)))
   have c1p:=of_decide_eq_false c1
   refine qA [6,7] U (fF 8 (enc:=λy=>[I y]) eF jn ei eG ty3 hwho.1 (nthZ bo) (fV bo) U U U U kr (λq4 A4=>tf 9 U U (rh ty3 A4 U) (qR 10 3 U ?_)))
   refine dt 22 U (λc2=>?_) (λc2=>?_)
   .have c2p:=of_decide_eq_true c2
    exact tk 13 U U (qR 14 14 U (aN kr (hk1 _ ⟨U,U,(cb (show true=((decide (y1<0)||decide (64<=y1))||(decide (0<(i1:Int))&&decide (y1<=(nthI who ((i1:Int)-1)))))from by rw[c1,c2]<;>rfl)),trivial⟩)))
   have c2p:=of_decide_eq_false c2
   refine qR 13 3 U ?_
   refine dt 25 U (λc3=>?_) (λc3=>?_)
   .have c3p:=of_decide_eq_true c3
    refine qA [16,17] U (fF 18 (enc:=λy=>[I y]) eF jn ei eG ty3 hwho.1 (nthZ bo) (fV bo) U U U U kr (λq5 A5=>tf 19 U U (rh ty3 A5 U) (qA [20,21] U (tf 22 U U (λ_ _ _=>ny (v':=I ((i1:Int)-1)) U (jc ob)) ?_))))
    have ho1:0<=(((i1:Int)-1):Int)/\(((i1:Int)-1):Int)<((who).length:Int):=ob
    exact fF 23 (enc:=λy=>[I y]) eF jn ei eG ty3 hwho.1 ho1 (dy ho1) U U U U kr (λq6 A6=>tf 24 U U (rh ty3 A6 U) (qR 25 3 U (aN kr (hk1 _ ⟨U,U,(cb (show decide (y1<=(nthI who ((i1:Int)-1)))=((decide (y1<0)||decide (64<=y1))||(decide (0<(i1:Int))&&decide (y1<=(nthI who ((i1:Int)-1)))))from by rw[c1,c2,c3]<;>rfl)),trivial⟩))))
   have c3p:=of_decide_eq_false c3
   exact tk 16 U U (qR 17 11 U (aN kr (hk1 _ ⟨U,U,(cb (show false=((decide (y1<0)||decide (64<=y1))||(decide (0<(i1:Int))&&decide (y1<=(nthI who ((i1:Int)-1)))))from by rw[c1,c2,c3]<;>rfl)),trivial⟩)))
  refine ae hs3 U (λc4 hs4=>?_) (λc4 hs5=>?_)
  .exact sr (an (nretP [.bool false] (cs hs4)))
  exact aQ (qT 3 U (oi i1 U (an (ag1 hs5))))
 rintro i1 hd1 iw hx e
 exact qK 6 [] U (fO iw U (qO 3 U (hx _ rd)))
theorem EE(h:HF)(bG:Register)(dW:eN)(doc:Int)(who:List Int)(gF:Option Addr)(gE:Nat)(l:List Int)(fq:Option Addr)(fp:Nat)(kW:qP h bG dW)(hwho:SlC zC h gF gE who)(hl:SlC zC h fq fp l)(hsm:smR bG):Ret prog 5 [.agg (jF bG dW).toArray,I doc,.slice gF who.length gE,.slice fq l.length fp] h (.bool (ga bG doc who l)):=by
 refine sT func5 U ntmps5 U λX hM hX hF=>?_
 have hs0:=@rfl _ (ga bG doc who l)
 refine sr (ct (λb1=>qL 9 [] U ?_))
 refine lp0 l (λi=>[(1,I doc),(2,.slice gF who.length gE),(4,Q b1),(11,.slice fq l.length fp),(12,I (l.length:Int)),(13,I (i:Int))]) ([(b1,O (jF bG dW) 30)]) (λs1 i=>(ga.L1 (ga.K1 bG doc who)) s1) hl.1.1 hs0 ?_ ?_
 .rintro i1 fB hs1 e
  refine sr (cI 0 ty30 U U U (ai call13 (Ho _ _ _ kW) U (ao (bD 4 [23,24,25,26,27] 23 27 ((mK bG)==0) U (λc2 hk1=>?_) (λe=>?_)))))
  .exact cI 0 ty30 U U U (ai call14 (D9 _ _ _ kW ob) U (qO 2 U (hk1 _ U)))
  refine ao (bD 5 [28,29,30,31,32,33] 28 33 (decide (0<=(dc bG doc))) U (λc3 hk2=>?_) (λe=>?_))
  .exact cI 0 ty30 U U U (ao (ai call15 (Hp _ _ _ doc kW) U (qO 2 U (hk2 _ U))))
  refine ao (bD 3 [34,35,36,37] 34 37 (iU who) U (λc4 hk3=>?_) (λe=>?_))
  .exact ao (ai call16 (Da _ _ _ _ hwho) U (eM U (hk3 _ U)))
  exact an (nretP [.bool ((((lS bG)&&((mK bG)==0))&&decide (0<=(dc bG doc)))&&(iU who))] (cs hs1))
 rintro i1 y1 rz1 hd1 du bo eA gD hs3 hx1 ag1 e
 refine sr (tO du U (qO 8 U (aw (iF (λy=>[I y]) eG ty3 hl.1 bo U U U (λq2 A2=>de ty3 A2 U (qO 5 U (ai KO (n8 h y1) U (qO 2 U (ae hs3 U (λc5 hs4=>?_) (λc5 hs5=>?_))))))))))
 .exact sr (an (nretP [.bool false] (cs hs4)))
 exact aQ (qT 2 U (oi i1 U (qO 2 U (ag1 hs5))))
theorem iB(h:HF)(QM:Int)  : F5 prog 18 [I QM] h (exW errV (λr:Unit=>(.tuple #[]:Value)) (nz QM)):=by
 refine cD func18 U ntmps18 U λX hM hX=>?_
 have hs0:=@rfl _ (nz QM)
 refine qT 5 U (ae hs0 U (λc1 hs1=>?_) (λc1 hs2=>?_))
 .exact bu (ao (aw (ff (Dx J8 U U) (aw (Dt U xX (λe=>gk (nM [] func18 hX (congrArg (exW errV (λr:Unit=>(.tuple #[]:Value))) hs1))))))))
 refine aQ ?_
 have hs3:nz QM=(Except.ok ()):=hs2
 exact dQ (xO [] [] func18 U hX trivial (congrArg (exW errV (λr:Unit=>(.tuple #[]:Value))) hs3))
theorem uA(h:HF)(t:Int)  : Ret prog 107 [I t] h (.bool (jO t)):=by
 refine sT func107 U ntmps107 U λX hM hX hF=>?_
 have hs0:=@rfl _ (jO t)
 refine qT 9 U (bD 4 [5,6,7,8,9] 5 9 (!(gm t)) U (λc1 hk1=>?_) (λe=>?_))
 .exact ao (ai M9 (nl h t) U (qO 2 U (hk1 _ U)))
 exact an (nretP [.bool ((t != (-1))&&(!(gm t)))] (cs hs0))
theorem pO(h:HF)(l:List Document)(fq:Option Addr)(fp:Nat)(signed:List Int)(ef:Option Addr)(dZ:Nat)(hl:SlC RV h fq fp l)(hsigned:SlC zC h ef dZ signed):Ret prog 55 [.slice fq l.length fp,.slice ef signed.length dZ] h (.bool (dv l signed)):=by
 refine sT func55 U ntmps55 U λX hM hX hF=>?_
 have hs0:=@rfl _ (dv l signed)
 refine qK 16 [] U (bD 5 [11,12,13,14,15,16] 11 16 (!(da signed jO)) U (λc1 hk1=>?_) (λe=>?_))
 .exact ao (ao (ai Iq (gT _ _ _ _ jO (.func (.func 107) #[] #[]) hsigned (λh' cj hle=>im call107 (uA h' cj))) U (qO 2 U (hk1 _ U))))
 exact an (nretP [.bool (((signed.length:Int)==(l.length:Int))&&(!(da signed jO)))] (cs hs0))
theorem As(h:HF)(x:List Int)(Qd:Option Addr)(PV:Nat)(hx:SlC zC h Qd PV x)(hne:0<x.length):Ret prog 110 [.slice Qd x.length PV] h (I (gl x)):=by
 refine sT func110 U ntmps110 U λX hM hX hF=>?_
 have hs0:=@rfl _ (gl x)
 refine qK 11 [] U (jf U (λc1=>?_) (λc1=>?_))
 .exact absurd c1 (by simp only[decide_eq_true_eq,Bool.not_eq_true,decide_eq_false_iff_not];omega)
 have c1p:=of_decide_eq_false c1
 refine qT 4 U ?_
 have ho1:0<=(0:Int)/\(0:Int)<((x).length:Int):=ob
 refine aw (oY (enc:=λy=>[I y]) ei eG ty3 hx.1 ho1 (dy ho1) U U U (λq1 A1=>de ty3 A1 U (qO 7 U ?_)))
 refine iA (ι:=Nat×Int) (λi=>[(3,I i.2)]) (λi=>h) (λi=>[]) (λi=>i.1<=x.length/\gl x=((gl.K1) i.2)) ?_ (λhx1=>?_)
 .rintro⟨i1,gZ⟩ ⟨fB,hs1⟩ e
  exact sr (qO 3 U (nretP [I gZ] (ci hs1)))
 refine kl (ι:=Nat×Int×List Int) (λi=>[(0,.slice Qd x.length PV),(3,I i.2.1),(4,I (i.1:Int))]) (λi=>h) (λi=>[]) (λi=>x.drop i.1=i.2.2/\i.1<=x.length/\gl x=((gl.L1 (gl.K1)) i.2.2 i.2.1)) (λi=>i.2.2.length) (1,(nthI x 0),(x.drop 1)) rd sw ⟨U,ob,hs0⟩ ?_
 rintro⟨i1,gZ,s1⟩ ⟨hd1,fB,hs3⟩ ag1 e
 rcases s1 with _|⟨y1,rz1⟩
 .have iw:=oI hd1
  exact qK 6 [] U (fO iw U (qO 3 U (hx1 (i1,gZ) _ ⟨fB,hs3⟩ rd)))
 have du:=tJ hd1
 have bo:=sQ hd1
 have eA:=jv hd1
 have gD:=hx.1.1
 exact qK 6 [] U (tO du U (qO 9 U (aw (iF (λy=>[I y]) eG ty3 hx.1 bo U U U (λq3 A3=>de ty3 A3 U (aw (ff (NQ U U) (qO 5 U (oi i1 U (an (ag1 ((i1+1),(min gZ y1),rz1) _ (Nat.lt_succ_self _) ⟨mY hd1,jv hd1,hs3⟩ rd)))))))))))
end Go.Sg
