import Derived.Test.YtngiefchigcphaaGreatDoorCards
import Derived.Test.YtngiefchigcphaaGreatDoorTie
import Derived.ProofKit
import Derived.Deep.DeepHandedRow
import Derived.Test.YtngiefchigcphaaGreatDoorW10
/- A part of the proof of AsofSpec. -/
set_option linter.unusedVariables false
set_option linter.unusedSimpArgs false
set_option maxRecDepth 100000
namespace Go.Sg
open Go.Proofs Go.Proofs.Tryz
set_option maxHeartbeats 2000000
theorem vW (h:HF) (l:List Version) (eE:Option Addr) (eD:Nat) (begun:Int) (aQ:Int) (known:Int) (hl:SlC Version.rp h eE eD l) (hsm:smV l):iW prog 121 [.slice eE l.length eD,I begun,I aQ,I known] h (fun v h'=>∃ (rb0:Option Addr) (rc0:Nat),v=.slice rb0 (bj l begun aQ known).length rc0∧SlC Rp.int h' rb0 rc0 (bj l begun aQ known)):=by
 refine sT func121 U ntmps121 U fun X hM hX hF=>?_
 have hs0:bj l begun aQ known=bj l begun aQ known:=rfl
 have hsl:=hsm.len
 refine qT 13 U (ah AR (jH _ _ _ _ begun known hl) U (qO 8 U (ac hs0 U (fun c1 hs1=>?_) (fun c1 hs2=>?_))))
 ·have c1p:=of_decide_eq_true c1
  refine qT 4 U ?_
  have ho1:0≤((aw l begun known):Int)∧((aw l begun known):Int) < ((l).length:Int):=⟨ob,kh _ _ _⟩
  refine az (dU kJ ty70 hl.1 ho1 (bJ ho1) U U U (fun _ _ _ e=>e) (fun q1 r1 A1 ok1=>qL 1 [] U (cL ty3 A1 U (az (cg call197 (qy h ([]) none 0 ((nthI l (aw l begun known)).No) SlC.nil (by first | omega | (simp only [List.length_nil];omega) | (have hq:=gP [] ((nthI l (aw l begun known)).No);simp only [List.length_nil] at hq;omega))) U (fun v1 h1 hle1 hp1=>?_))))))
  obtain ⟨rb1,rc1,rfl,sl1⟩:=hp1
  refine qO 7 U ?_
  refine lp2 l (fun i w=>[(0,.slice eE l.length eD),(1,I begun),(2,I aQ),(3,I known),(9,.slice w.2.1 w.1.length w.2.2.1),(11,I (i:Int))]) (fun w=>w.2.2.2) (fun w=>[]) (fun i w=>SlC Rp.int w.2.2.2 w.2.1 w.2.2.1 w.1∧w.1.length≤(dy ([]) ((nthI l (aw l begun known)).No)).length+i∧HF.le h1 w.2.2.2) (fun s1 i w=>(bj.L1 l begun aQ known (bj.K1)) s1 w.1) ((dy ([]) ((nthI l (aw l begun known)).No)),rb1,rc1,h1) ((hl.mono Version.ak hle1).1.1) hs1 ⟨sl1,(by first | omega | (simp only [List.length_append,List.length_cons,List.length_nil];omega) | (have hq:=gP jL ((nthI l (aw l y1.At known)).No);first | omega | (dsimp only;omega))),lf⟩ ?_ ?_ ?_
  ·rintro i1 ⟨jL,vv,vu,hh1⟩ eR hs3 ⟨qb,zJ,hl1⟩ e
   try dsimp only at qb zJ hl1
   refine qT 5 U ?_
   have hs4:bj l begun aQ known=jL:=hs3
   exact nretH [.slice vv jL.length vu] ⟨vv,vu,congrArg (fun r:List Int=>(.slice vv r.length vu:Value)) hs4.symm,(by rw [hs4];exact qb)⟩
  ·rintro i1 ⟨jL,vv,vu,hh1⟩ y1 rz1 hd1 cz ar dF fF hs5 ⟨qb,zJ,hl1⟩ hx1 ag1 e
   try dsimp only at qb zJ hl1
   refine qK 6 [] U (ae (v':=.bool true) U (cb cz) (qO 9 U (az (dU kJ ty70 (hl.mono Version.ak (hle1.t hl1)).1 (nthZ ar) (au ar) U U U (fun _ _ _ e=>e) (fun q4 r4 A4 ok4=>qL 1 [] U (jm (j:=1) ty3 A4 U U (qO 3 U (bz 8 [38,39,40,41,42,43,44,45,46] 38 46 (decide (y1.At≤aQ)) U (fun c2 hk1=>?_) (fun e=>?_)))))))))
   ·exact aj (aj (az (dU kJ ty70 (hl.mono Version.ak (hle1.t hl1)).1 (nthZ ar) (au ar) U U U (fun _ _ _ e=>e) (fun q5 r5 A5 ok5=>qL 1 [] U (jm (j:=1) ty3 A5 U U (qO 3 U (hk1 _ U)))))))
   refine aj (bz 10 [47,48,49,50,51,52,53,54,55,56,57] 47 57 (decide (0≤(aw l y1.At known))) U (fun c3 hk2=>?_) (fun e=>?_))
   ·exact aj (qO 2 U (az (dU kJ ty70 (hl.mono Version.ak (hle1.t hl1)).1 (nthZ ar) (au ar) U U U (fun _ _ _ e=>e) (fun q6 r6 A6 ok6=>qL 1 [] U (jm (j:=1) ty3 A6 U U (aj (ah AR (jH _ _ _ _ y1.At known (hl.mono Version.ak (hle1.t hl1))) U (qO 2 U (hk2 _ U)))))))))
   refine aN (ac hs5 U (fun c4 hs6=>?_) (fun c4 hs7=>?_))
   ·refine qT 6 U (az (dU kJ ty70 (hl.mono Version.ak (hle1.t hl1)).1 (nthZ ar) (au ar) U U U (fun _ _ _ e=>e) (fun q7 r7 A7 ok7=>qL 1 [] U (jm (j:=1) ty3 A7 U U (aj (ah AR (jH _ _ _ _ y1.At known (hl.mono Version.ak (hle1.t hl1))) U ?_))))))
    have ho2:0≤((aw l y1.At known):Int)∧((aw l y1.At known):Int) < ((l).length:Int):=⟨ob,kh _ _ _⟩
    refine az (dU kJ ty70 (hl.mono Version.ak (hle1.t hl1)).1 ho2 (bJ ho2) U U U (fun _ _ _ e=>e) (fun q8 r8 A8 ok8=>qL 1 [] U (cL ty3 A8 U (az (cg call197 (qy _ _ _ _ ((nthI l (aw l y1.At known)).No) qb (by first | omega | (simp only [List.length_nil];omega) | (have hq:=gP [] ((nthI l (aw l begun known)).No);simp only [List.length_nil] at hq;omega))) U (fun v2 h2 hle2 hp2=>?_))))))
    obtain ⟨rb2,rc2,rfl,sl2⟩:=hp2
    exact an (qT 3 U (ae (v':=I (((i1+1):Nat):Int)) U (aL ob) (an (ag1 ((dy jL ((nthI l (aw l y1.At known)).No)),rb2,rc2,h2) hs6 ⟨sl2,(by first | omega | (simp only [List.length_append,List.length_cons,List.length_nil];omega) | (have hq:=gP jL ((nthI l (aw l y1.At known)).No);first | omega | (dsimp only;omega))),(hl1.t hle2)⟩))))
   ·exact aG (qT 3 U (ae (v':=I (((i1+1):Nat):Int)) U (aL ob) (an (ag1 (jL,vv,vu,hh1) hs7 ⟨qb,(by first | omega | (simp only [List.length_append,List.length_cons,List.length_nil];omega) | (have hq:=gP jL ((nthI l (aw l y1.At known)).No);first | omega | (dsimp only;omega))),hl1⟩))))
  ·rintro i1 ⟨jL,vv,vu,hh1⟩ hd1 eM hx e
   exact qK 6 [] U (ae (v':=.bool false) U (cb eM) (qO 3 U (hx _ rd)))
 ·have c1p:=of_decide_eq_false c1
  refine qT 6 U ?_
  refine lp2 l (fun i w=>[(0,.slice eE l.length eD),(1,I begun),(2,I aQ),(3,I known),(9,.slice w.2.1 w.1.length w.2.2.1),(11,I (i:Int))]) (fun w=>w.2.2.2) (fun w=>[]) (fun i w=>SlC Rp.int w.2.2.2 w.2.1 w.2.2.1 w.1∧w.1.length≤0+i∧HF.le h w.2.2.2) (fun s2 i w=>(bj.L2 l begun aQ known (bj.K2)) s2 w.1) ([],none,0,h) hl.1.1 hs2 ⟨SlC.nil,(by first | omega | (simp only [List.length_append,List.length_cons,List.length_nil];omega) | (have hq:=gP mQ ((nthI l (aw l y2.At known)).No);first | omega | (dsimp only;omega))),lf⟩ ?_ ?_ ?_
  ·rintro i2 ⟨mQ,BF,BE,hh2⟩ uA hs8 ⟨BD,If,hl2⟩ e
   try dsimp only at BD If hl2
   refine qT 5 U ?_
   have hs9:bj l begun aQ known=mQ:=hs8
   exact nretH [.slice BF mQ.length BE] ⟨BF,BE,congrArg (fun r:List Int=>(.slice BF r.length BE:Value)) hs9.symm,(by rw [hs9];exact BD)⟩
  ·rintro i2 ⟨mQ,BF,BE,hh2⟩ y2 rz2 hd2 nE jq tO Cv hs10 ⟨BD,If,hl2⟩ hx2 ag2 e
   try dsimp only at BD If hl2
   refine qK 6 [] U (ae (v':=.bool true) U (cb nE) (qO 9 U (az (dU kJ ty70 (hl.mono Version.ak hl2).1 (nthZ jq) (au jq) U U U (fun _ _ _ e=>e) (fun q11 r11 A11 ok11=>qL 1 [] U (jm (j:=1) ty3 A11 U U (qO 3 U (bz 8 [38,39,40,41,42,43,44,45,46] 38 46 (decide (y2.At≤aQ)) U (fun c5 hk3=>?_) (fun e=>?_)))))))))
   ·exact aj (aj (az (dU kJ ty70 (hl.mono Version.ak hl2).1 (nthZ jq) (au jq) U U U (fun _ _ _ e=>e) (fun q12 r12 A12 ok12=>qL 1 [] U (jm (j:=1) ty3 A12 U U (qO 3 U (hk3 _ U)))))))
   refine aj (bz 10 [47,48,49,50,51,52,53,54,55,56,57] 47 57 (decide (0≤(aw l y2.At known))) U (fun c6 hk4=>?_) (fun e=>?_))
   ·exact aj (qO 2 U (az (dU kJ ty70 (hl.mono Version.ak hl2).1 (nthZ jq) (au jq) U U U (fun _ _ _ e=>e) (fun q13 r13 A13 ok13=>qL 1 [] U (jm (j:=1) ty3 A13 U U (aj (ah AR (jH _ _ _ _ y2.At known (hl.mono Version.ak hl2)) U (qO 2 U (hk4 _ U)))))))))
   refine aN (ac hs10 U (fun c7 hs11=>?_) (fun c7 hs12=>?_))
   ·refine qT 6 U (az (dU kJ ty70 (hl.mono Version.ak hl2).1 (nthZ jq) (au jq) U U U (fun _ _ _ e=>e) (fun q14 r14 A14 ok14=>qL 1 [] U (jm (j:=1) ty3 A14 U U (aj (ah AR (jH _ _ _ _ y2.At known (hl.mono Version.ak hl2)) U ?_))))))
    have ho3:0≤((aw l y2.At known):Int)∧((aw l y2.At known):Int) < ((l).length:Int):=⟨ob,kh _ _ _⟩
    refine az (dU kJ ty70 (hl.mono Version.ak hl2).1 ho3 (bJ ho3) U U U (fun _ _ _ e=>e) (fun q15 r15 A15 ok15=>qL 1 [] U (cL ty3 A15 U (az (cg call197 (qy _ _ _ _ ((nthI l (aw l y2.At known)).No) BD (by first | omega | (simp only [List.length_nil];omega) | (have hq:=gP [] ((nthI l (aw l begun known)).No);simp only [List.length_nil] at hq;omega))) U (fun v3 h3 hle3 hp3=>?_))))))
    obtain ⟨rb3,rc3,rfl,sl3⟩:=hp3
    exact an (qT 3 U (ae (v':=I (((i2+1):Nat):Int)) U (aL ob) (an (ag2 ((dy mQ ((nthI l (aw l y2.At known)).No)),rb3,rc3,h3) hs11 ⟨sl3,(by first | omega | (simp only [List.length_append,List.length_cons,List.length_nil];omega) | (have hq:=gP mQ ((nthI l (aw l y2.At known)).No);first | omega | (dsimp only;omega))),(hl2.t hle3)⟩))))
   ·exact aG (qT 3 U (ae (v':=I (((i2+1):Nat):Int)) U (aL ob) (an (ag2 (mQ,BF,BE,hh2) hs12 ⟨BD,(by first | omega | (simp only [List.length_append,List.length_cons,List.length_nil];omega) | (have hq:=gP mQ ((nthI l (aw l y2.At known)).No);first | omega | (dsimp only;omega))),hl2⟩))))
  ·rintro i2 ⟨mQ,BF,BE,hh2⟩ hd2 xL hx e
   exact qK 6 [] U (ae (v':=.bool false) U (cb xL) (qO 3 U (hx _ rd)))
theorem xB (h:HF) (l:List Version) (eE:Option Addr) (eD:Nat) (begun:Int) (aQ:Int) (known:Int) (hl:SlC Version.rp h eE eD l) (hsm:smV l):iW prog 75 [.slice eE l.length eD,I begun,I aQ,I known] h (fun v h'=>∃ (rb0:Option Addr) (rc0:Nat),v=.tuple #[.slice rb0 ((dJ l begun aQ known).1).length rc0,I ((dJ l begun aQ known).2.1),I ((dJ l begun aQ known).2.2)]∧SlC Rp.int h' rb0 rc0 ((dJ l begun aQ known).1)):=by
 refine sT func75 U ntmps75 U fun X hM hX hF=>?_
 have hs0:dJ l begun aQ known=dJ l begun aQ known:=rfl
 refine qT 9 U (ah call71 (pi _ _ _ _ hl ob) U (qO 8 U (ac hs0 U (fun c1 hs1=>?_) (fun c1 hs2=>?_))))
 ·refine qT 7 U ?_
  have hs3:dJ l begun aQ known=([],0,(cw l)):=hs1
  exact nretH [.slice none 0 0,I 0,I (cw l)] ⟨none,0,congrArg (fun r:(List Int×Int×Int)=>(.tuple #[.slice none r.1.length 0,I r.2.1,I r.2.2]:Value)) hs3.symm,(by rw [hs3];exact SlC.nil)⟩
 ·refine qT 5 U (ah wO (i6 h begun) U (qO 2 U (cf 4 [23,24,25,26,27] 23 27 (!(cn aQ)) U (fun c2 hk1=>?_) (fun e=>?_))))
  ·exact aj (ah wO (i6 h aQ) U (qO 2 U (hk1 _ U)))
  refine aj (cf 4 [28,29,30,31,32] 28 32 (!(cn known)) U (fun c3 hk2=>?_) (fun e=>?_))
  ·exact aj (ah wO (i6 h known) U (qO 2 U (hk2 _ U)))
  refine aj (cf 4 [33,34,35,36,37] 33 37 (decide (aQ < begun)) U (fun c4 hk3=>?_) (fun e=>?_))
  ·exact aj (qO 3 U (hk3 _ U))
  refine aN (ac hs2 U (fun c5 hs4=>?_) (fun c5 hs5=>?_))
  ·refine qT 6 U ?_
   have hs6:dJ l begun aQ known=([],0,1):=hs4
   exact nretH [.slice none 0 0,I 0,I 1] ⟨none,0,congrArg (fun r:(List Int×Int×Int)=>(.tuple #[.slice none r.1.length 0,I r.2.1,I r.2.2]:Value)) hs6.symm,(by rw [hs6];exact SlC.nil)⟩
  ·refine qT 6 U (ah AR (jH _ _ _ _ aQ known hl) U (qO 8 U (ac hs5 U (fun c6 hs7=>?_) (fun c6 hs8=>?_))))
   ·have c6p:=of_decide_eq_true c6
    refine qT 6 U ?_
    have hs9:dJ l begun aQ known=([],0,0):=hs7
    exact nretH [.slice none 0 0,I 0,I 0] ⟨none,0,congrArg (fun r:(List Int×Int×Int)=>(.tuple #[.slice none r.1.length 0,I r.2.1,I r.2.2]:Value)) hs9.symm,(by rw [hs9];exact SlC.nil)⟩
   ·have c6p:=of_decide_eq_false c6
    refine qT 5 U ?_
    have ho1:0≤((aw l aQ known):Int)∧((aw l aQ known):Int) < ((l).length:Int):=⟨ob,kh _ _ _⟩
    refine az (dU kJ ty70 hl.1 ho1 (bJ ho1) U U U (fun _ _ _ e=>e) (fun q1 r1 A1 ok1=>qL 2 [] U (jm (j:=12) ty3 A1 U U (qO 13 U (ac hs8 U (fun c7 hs10=>?_) (fun c7 hs11=>?_))))))
    ·refine qT 5 U (ah AR (jH _ _ _ _ begun known hl) U (qO 8 U (ac hs10 U (fun c8 hs12=>?_) (fun c8 hs13=>?_))))
     ·have c8p:=of_decide_eq_true c8
      refine qT 7 U ?_
      have hs14:dJ l begun aQ known=([],(nthI l (aw l aQ known)).Policy.Mode,0):=hs12
      exact nretH [.slice none 0 0,I ((nthI l (aw l aQ known)).Policy.Mode),I 0] ⟨none,0,congrArg (fun r:(List Int×Int×Int)=>(.tuple #[.slice none r.1.length 0,I r.2.1,I r.2.2]:Value)) hs14.symm,(by rw [hs14];exact SlC.nil)⟩
     ·have c8p:=of_decide_eq_false c8
      refine qT 5 U ?_
      have ho2:0≤((aw l begun known):Int)∧((aw l begun known):Int) < ((l).length:Int):=⟨ob,kh _ _ _⟩
      refine az (dU kJ ty70 hl.1 ho2 (bJ ho2) U U U (fun _ _ _ e=>e) (fun q2 r2 A2 ok2=>qL 1 [] U (cL ty3 A2 U (az (bd (cells:=[I ((nthI l (aw l begun known)).No)]) cR ty3 zc3 U U kr (fun b1=>qO 5 U (ff 0 U hM (fun h1 hle1 hb1=>?_))))))))
      have sl1:SlC Rp.int h1 (some ⟨b1,0,none⟩) 1 ([(nthI l (aw l begun known)).No]):=aT.slB0 (T:=3) (fz:=(0,0)) ((show aT Rp.int h [I ((nthI l (aw l begun known)).No)] ([(nthI l (aw l begun known)).No]) from ⟨[I ((nthI l (aw l begun known)).No)],[],rfl,rfl,rfl,rfl⟩).mono Rp.aW hle1) hb1
      have hs15:dJ l begun aQ known=([(nthI l (aw l begun known)).No],(nthI l (aw l aQ known)).Policy.Mode,0):=hs13
      exact nretH [.slice (some ⟨b1,0,none⟩) 1 1,I ((nthI l (aw l aQ known)).Policy.Mode),I 0] ⟨(some ⟨b1,0,none⟩),1,congrArg (fun r:(List Int×Int×Int)=>(.tuple #[.slice (some ⟨b1,0,none⟩) r.1.length 1,I r.2.1,I r.2.2]:Value)) hs15.symm,(by rw [hs15];exact sl1)⟩
    ·refine qT 5 U (ac hs11 U (fun c9 hs16=>?_) (fun c9 hs17=>?_))
     ·refine qT 4 U ?_
      have ho3:0≤((aw l aQ known):Int)∧((aw l aQ known):Int) < ((l).length:Int):=⟨ob,kh _ _ _⟩
      refine az (dU kJ ty70 hl.1 ho3 (bJ ho3) U U U (fun _ _ _ e=>e) (fun q3 r3 A3 ok3=>qL 1 [] U (cL ty3 A3 U (az (bd (cells:=[I ((nthI l (aw l aQ known)).No)]) cR ty3 zc3 U U kr (fun b2=>qO 5 U (ff 0 U hM (fun h2 hle2 hb2=>?_))))))))
      have sl2:SlC Rp.int h2 (some ⟨b2,0,none⟩) 1 ([(nthI l (aw l aQ known)).No]):=aT.slB0 (T:=3) (fz:=(0,0)) ((show aT Rp.int h [I ((nthI l (aw l aQ known)).No)] ([(nthI l (aw l aQ known)).No]) from ⟨[I ((nthI l (aw l aQ known)).No)],[],rfl,rfl,rfl,rfl⟩).mono Rp.aW hle2) hb2
      have hs18:dJ l begun aQ known=([(nthI l (aw l aQ known)).No],(nthI l (aw l aQ known)).Policy.Mode,0):=hs16
      exact nretH [.slice (some ⟨b2,0,none⟩) 1 1,I ((nthI l (aw l aQ known)).Policy.Mode),I 0] ⟨(some ⟨b2,0,none⟩),1,congrArg (fun r:(List Int×Int×Int)=>(.tuple #[.slice (some ⟨b2,0,none⟩) r.1.length 1,I r.2.1,I r.2.2]:Value)) hs18.symm,(by rw [hs18];exact sl2)⟩
     ·refine qT 8 U (az (cg call121 (vW _ _ _ _ begun aQ known hl ob) U (fun v1 h3 hle3 hp1=>?_)))
      obtain ⟨rb1,rc1,rfl,sl3⟩:=hp1
      refine qO 5 U ?_
      have hs19:dJ l begun aQ known=((bj l begun aQ known),(nthI l (aw l aQ known)).Policy.Mode,0):=hs17
      exact nretH [.slice rb1 ((bj l begun aQ known).length) rc1,I ((nthI l (aw l aQ known)).Policy.Mode),I 0] ⟨rb1,rc1,congrArg (fun r:(List Int×Int×Int)=>(.tuple #[.slice rb1 r.1.length rc1,I r.2.1,I r.2.2]:Value)) hs19.symm,(by rw [hs19];exact sl3)⟩
theorem xJ (h:HF) (x:Appoint) (fc:Int) (known:Int)  : Ret prog 202 [.agg (Appoint.cells x).toArray,I fc,I known] h (.bool (iC x fc known)):=by
 refine sT func202 U ntmps202 U fun X hM hX hF=>?_
 have hs0:iC x fc known=iC x fc known:=rfl
 refine sr (cy (fun b1=>qL 9 [0] U (bz 5 [11,12,13,14,15,16] 11 16 (decide (x.Known≤known)) U (fun c1 hk1=>?_) (fun e=>?_))))
 ·exact qL 5 [0] U (hk1 _ U)
 exact an (nretP [.bool (decide (x.At≤fc)&&decide (x.Known≤known))] (cs hs0))
theorem Av (h:HF) (l:List Appoint) (eE:Option Addr) (eD:Nat) (office:Int) (person:Int) (cD:Int) (known:Int) (hl:SlC Appoint.rp h eE eD l):Ret prog 128 [.slice eE l.length eD,I office,I person,I cD,I known] h (I (cx l office person cD known)):=by
 refine sT func128 U ntmps128 U fun X hM hX hF=>?_
 have hs0:cx l office person cD known=cx l office person cD known:=rfl
 refine qT 13 U ?_
 refine lp2 l (fun i w=>[(0,.slice eE l.length eD),(1,I office),(2,I person),(3,I cD),(4,I known),(11,I w),(12,I (i:Int))]) (fun _=>h) (fun w=>[]) (fun i w=>-1≤w∧w < (l.length:Int)) (fun s1 i w=>(cx.L1 l office person cD known (cx.K1)) s1 i w) (-1) hl.1.1 hs0 (by first | omega | (dsimp only;omega)) ?_ ?_ ?_
 ·rintro i1 bI eR hs1 u1_0 e
  exact sr (qO 3 U (nretP [I bI] (ci hs1)))
 ·rintro i1 bI y1 rz1 hd1 cz ar dF fF hs3 u1_0 hx1 ag1 e
  refine qK 6 [] U (ae (v':=.bool true) U (cb cz) (qO 6 U ?_))
  refine jM [(0,.slice eE l.length eD),(1,I office),(2,I person),(3,I cD),(4,I known),(11,I bI),(12,I (i1:Int)),(60,.bool ((((y1.Office==office)&&(y1.Person==person))&&(iC y1 cD known))&&(decide (bI < 0)||decide ((nthI l bI).At≤y1.At))))] (fun e=>?_) (fun hk1=>?_)
  rotate_left
  ·refine eA ([]) mixed kr jn (fun cI _=>?_)
   refine qA [0,1] U (cC 2 (enc:=Appoint.cells) cI jn ei nG ty59 hl.1 (nthZ ar) (au ar) U U U U kr (fun q3 A3=>qB [3] U (tf 4 U U (fun _ _ hj=>j4 3 ty3 (A3.mono hj.1) U U) (qR 5 3 U ?_))))
   refine ct 26 U (fun c1=>?_) (fun c1=>?_)
   ·refine qA [8,9] U (cC 10 (enc:=Appoint.cells) cI jn ei nG ty59 hl.1 (nthZ ar) (au ar) U U U U kr (fun q4 A4=>qB [11] U (tf 12 U U (fun _ _ hj=>j4 4 ty3 (A4.mono hj.1) U U) (qR 13 4 U ?_))))
    refine ct 35 U (fun c2=>?_) (fun c2=>?_)
    ·refine qA [17,18] U (cC 19 (enc:=Appoint.cells) cI jn ei nG ty59 hl.1 (nthZ ar) (au ar) U U U U kr (fun q5 A5=>tf 20 U U (fun _ _ hj=>iQ ty59 (A5.mono hj.1) U U) (qA [21,22] U (tn 23 U (eO call202 (xJ h y1 cD known) U (⟨jn,(qA [24,25] U ?_)⟩))))))
     refine ct 44 U (fun c3=>?_) (fun c3=>?_)
     ·refine qR 26 3 U ?_
      refine ct 47 U (fun c4=>?_) (fun c4=>?_)
      ·have c4p:=of_decide_eq_true c4
       exact tk 29 U U (qR 30 12 U (aI kr (hk1 _ ⟨U,U,U,U,U,U,U,(cb (show true=((((y1.Office==office)&&(y1.Person==person))&&(iC y1 cD known))&&(decide (bI < 0)||decide ((nthI l bI).At≤y1.At))) from by rw [c1,c2,c3,c4] <;> rfl)),trivial⟩)))
      ·have c4p:=of_decide_eq_false c4
       refine qA [29,30] U (cC 31 (enc:=Appoint.cells) cI jn ei nG ty59 hl.1 (nthZ ar) (au ar) U U U U kr (fun q6 A6=>qB [32] U (tf 33 U U (fun _ _ hj=>j4 1 ty3 (A6.mono hj.1) U U) (qA [34,35] U ?_))))
       have ho1:0≤(bI:Int)∧(bI:Int) < ((l).length:Int):=ob
       exact cC 36 (enc:=Appoint.cells) cI jn ei nG ty59 hl.1 ho1 (bJ ho1) U U U U kr (fun q7 A7=>qB [37] U (tf 38 U U (fun _ _ hj=>j4 1 ty3 (A7.mono hj.1) U U) (qR 39 3 U (aI kr (hk1 _ ⟨U,U,U,U,U,U,U,(cb (show decide ((nthI l bI).At≤y1.At)=((((y1.Office==office)&&(y1.Person==person))&&(iC y1 cD known))&&(decide (bI < 0)||decide ((nthI l bI).At≤y1.At))) from by rw [c1,c2,c3,c4] <;> rfl)),trivial⟩)))))
     ·exact tk 26 U U (qR 27 15 U (aI kr (hk1 _ ⟨U,U,U,U,U,U,U,(cb (show false=((((y1.Office==office)&&(y1.Person==person))&&(iC y1 cD known))&&(decide (bI < 0)||decide ((nthI l bI).At≤y1.At))) from by rw [c1,c2,c3] <;> rfl)),trivial⟩)))
    ·exact tk 17 U U (qR 18 24 U (aI kr (hk1 _ ⟨U,U,U,U,U,U,U,(cb (show false=((((y1.Office==office)&&(y1.Person==person))&&(iC y1 cD known))&&(decide (bI < 0)||decide ((nthI l bI).At≤y1.At))) from by rw [c1,c2] <;> rfl)),trivial⟩)))
   ·exact tk 8 U U (qR 9 33 U (aI kr (hk1 _ ⟨U,U,U,U,U,U,U,(cb (show false=((((y1.Office==office)&&(y1.Person==person))&&(iC y1 cD known))&&(decide (bI < 0)||decide ((nthI l bI).At≤y1.At))) from by rw [c1] <;> rfl)),trivial⟩)))
  refine ac hs3 U (fun c5 hs4=>?_) (fun c5 hs5=>?_)
  ·exact bh (qO 6 U (ae (v':=I (((i1+1):Nat):Int)) U (aL ob) (an (ag1 (i1:Int) hs4 (by first | omega | (dsimp only;omega))))))
  ·exact aG (qT 3 U (ae (v':=I (((i1+1):Nat):Int)) U (aL ob) (an (ag1 bI hs5 (by first | omega | (dsimp only;omega))))))
 ·rintro i1 bI hd1 eM hx e
  exact qK 6 [] U (ae (v':=.bool false) U (cb eM) (qO 3 U (hx _ rd)))
theorem tL (l:List Appoint) (a b c d:Int):cx l a b c d < (l.length:Int):=by
 have key:∀ (s:List Appoint) (i:Nat) (g:Int),i+s.length=l.length→g < (l.length:Int)→cx.L1 l a b c d cx.K1 s i g < (l.length:Int):=by
  intro s
  induction s with
  | nil=>intro i g _ hg;exact hg
  | cons y s ih=>
   intro i g hi hg
   simp only [List.length_cons] at hi
   simp only [cx.L1,Bool.cond_eq_ite]
   split
   ·exact ih _ _ ob ob
   ·exact ih _ _ ob hg
 exact key l 0 (-1) (by simp) ob
theorem wd (h:HF) (l:List Appoint) (eE:Option Addr) (eD:Nat) (office:Int) (aQ:Int) (known:Int) (hl:SlC Appoint.rp h eE eD l):iW prog 78 [.slice eE l.length eD,I office,I aQ,I known] h (fun v h'=>∃ (rb0:Option Addr) (rc0:Nat),v=.tuple #[.slice rb0 ((bS l office aQ known).1).length rc0,I ((bS l office aQ known).2)]∧SlC Holder.rp h' rb0 rc0 ((bS l office aQ known).1)):=by
 refine sT func78 U ntmps78 U fun X hM hX hF=>?_
 have hs0:bS l office aQ known=bS l office aQ known:=rfl
 refine qT 8 U (ah call67 (rT _ _ _ _ hl) U (qO 8 U (ac hs0 U (fun c1 hs1=>?_) (fun c1 hs2=>?_))))
 ·refine qT 6 U ?_
  have hs3:bS l office aQ known=([],(eH l)):=hs1
  exact nretH [.slice none 0 0,I (eH l)] ⟨none,0,congrArg (fun r:(List Holder×Int)=>(.tuple #[.slice none r.1.length 0,I r.2]:Value)) hs3.symm,(by rw [hs3];exact SlC.nil)⟩
 ·refine qT 5 U (ah call126 (rf h office) U (qO 2 U (cf 4 [22,23,24,25,26] 22 26 (!(ib aQ)) U (fun c2 hk1=>?_) (fun e=>?_))))
  ·exact aj (ah GV (nd h aQ) U (qO 2 U (hk1 _ U)))
  refine aj (cf 4 [27,28,29,30,31] 27 31 (!(ib known)) U (fun c3 hk2=>?_) (fun e=>?_))
  ·exact aj (ah GV (nd h known) U (qO 2 U (hk2 _ U)))
  refine aN (ac hs2 U (fun c4 hs4=>?_) (fun c4 hs5=>?_))
  ·refine qT 5 U ?_
   have hs6:bS l office aQ known=([],1):=hs4
   exact nretH [.slice none 0 0,I 1] ⟨none,0,congrArg (fun r:(List Holder×Int)=>(.tuple #[.slice none r.1.length 0,I r.2]:Value)) hs6.symm,(by rw [hs6];exact SlC.nil)⟩
  ·refine qT 10 U ?_
   refine ji (ι:=Nat×List Holder×Option Addr×Nat×LH) (fun i=>[(11,.slice i.2.2.1 i.2.1.length i.2.2.2.1)]) (fun i=>h) (fun i=>i.2.2.2.2) (fun i=>i.1≤(List.range 64).length∧bS l office aQ known=((bS.K1) i.2.1)∧cJ Holder.rp 133 h i.2.1 i.2.2.1 i.2.2.2.1 i.2.2.2.2∧i.2.1.length≤0+i.1) ?_ (fun hx1=>?_)
   ·rintro ⟨i1,bI,iH,iG,j1⟩ ⟨eR,hs7,ic,uB⟩ e
    try dsimp only at eR ic uB
    refine qT 6 U (eK Holder.ak ([]) j1 ([]) ap hM ic (fun h1 hle1 sl1=>?_))
    have hs8:bS l office aQ known=(bI,0):=hs7
    exact nretH [.slice iH bI.length iG,I 0] ⟨iH,iG,congrArg (fun r:(List Holder×Int)=>(.tuple #[.slice iH r.1.length iG,I r.2]:Value)) hs8.symm,(by rw [hs8];exact sl1)⟩
   ·refine kT (ι:=Nat×List Holder×Option Addr×Nat×LH×List Nat) (fun i=>[(0,.slice eE l.length eD),(1,I office),(2,I aQ),(3,I known),(11,.slice i.2.2.1 i.2.1.length i.2.2.2.1),(12,I (i.1:Int))]) (fun i=>h) (fun i=>i.2.2.2.2.1) (fun i=>(List.range 64).drop i.1=i.2.2.2.2.2∧i.1≤(List.range 64).length∧bS l office aQ known=((bS.L1 l office aQ known (bS.K1)) i.2.2.2.2.2 i.1 i.2.1)∧cJ Holder.rp 133 h i.2.1 i.2.2.1 i.2.2.2.1 i.2.2.2.2.1∧i.2.1.length≤0+i.1) (fun i=>i.2.2.2.2.2.length) (0,[],none,0,[],(List.range 64)) rd sw ⟨U,Nat.zero_le _,hs5,cJ.nil,lo⟩ ?_
    rintro ⟨i1,bI,iH,iG,j1,s1⟩ ⟨hd1,eR,hs9,ic,uB⟩ ag1 e
    try dsimp only at hd1 eR ic uB
    rcases s1 with _ | ⟨y1,rz1⟩
    ·have eM:decide ((i1:Int) < 64)=false:=by simpa using pH hd1
     exact dB (qT 3 U (ae (v':=.bool false) U (cb eM) (qO 3 U (hx1 (i1,bI,iH,iG,j1) _ ⟨eR,hs9,ic,lo⟩ rd))))
    ·have cz:decide ((i1:Int) < 64)=true:=by simpa using tU hd1
     have dF:i1 < 64:=by simpa using j2 hd1
     refine qT 4 U (ae (v':=.bool true) U (cb cz) (qO 12 U (ah call128 (Av _ _ _ _ office (i1:Int) aQ known hl) U (qO 7 U (bz 7 [44,45,46,47,48,49,50,51] 44 51 (!((nthI l (cx l office (i1:Int) aQ known)).Gone)) U (fun c5 hk3=>?_) (fun e=>?_))))))
     ·refine qO 2 U ?_
      have ho2:0≤((cx l office (i1:Int) aQ known):Int)∧((cx l office (i1:Int) aQ known):Int) < ((l).length:Int):=⟨ob,tL _ _ _ _ _⟩
      exact az (ef (enc:=Appoint.cells) ei nG ty59 hl.1 ho2 (bJ ho2) U U U (fun q2 A2=>qL 1 [] U (jm (j:=6) ty4 A2 U U (qO 2 U (hk3 _ U)))))
     refine aN (ac hs9 U (fun c6 hs11=>?_) (fun c6 hs12=>?_))
     ·refine qT 5 U ?_
      have ho3:0≤((cx l office (i1:Int) aQ known):Int)∧((cx l office (i1:Int) aQ known):Int) < ((l).length:Int):=⟨ob,tL _ _ _ _ _⟩
      exact az (ef (enc:=Appoint.cells) ei nG ty59 hl.1 ho3 (bJ ho3) U U U (fun q3 A3=>qL 1 [] U (jm (j:=5) ty3 A3 U U (az (em (cells:=[I (i1:Int),I ((nthI l (cx l office (i1:Int) aQ known)).Weight)]) (places:=[(0,1),(1,1)]) underlying133 zc133 kr kr (az (bd (cells:=[I (i1:Int),I ((nthI l (cx l office (i1:Int) aQ known)).Weight)]) rl ty133 zc133 U U kr (fun b1=>az (bR Holder.ey ([(b1,O [I (i1:Int),I ((nthI l (cx l office (i1:Int) aQ known)).Weight)] 133)]) ([]) (fun G=>[(b1,O [I (i1:Int),I ((nthI l (cx l office (i1:Int) aQ known)).Weight)] 133)]++G) ap (fun _=>ap) rl ty133 zc133 U bytes133 ic U U (dr 0 U (show aT Holder.rp h [I (i1:Int),I ((nthI l (cx l office (i1:Int) aQ known)).Weight)] ([(Holder.mk (i1:Int) ((nthI l (cx l office (i1:Int) aQ known)).Weight))]) from ⟨[I (i1:Int),I ((nthI l (cx l office (i1:Int) aQ known)).Weight)],[],U,U,U,U⟩)) lo lo (fun ob1 oc1 G1 gr1=>qO 5 U (ae (v':=I (((i1+1):Nat):Int)) U (aL ob) (an (bY (L':=G1) js (ag1 ((i1+1),(bI++[(Holder.mk (i1:Int) ((nthI l (cx l office (i1:Int) aQ known)).Weight))]),ob1,oc1,G1,rz1) _ (Nat.lt_succ_self _) ⟨mX hd1,j2 hd1,hs11,gr1,lo⟩ rd))))))))))))))
     ·exact aG (qT 3 U (ae (v':=I (((i1+1):Nat):Int)) U (aL ob) (an (ag1 ((i1+1),bI,iH,iG,j1,rz1) _ (Nat.lt_succ_self _) ⟨mX hd1,j2 hd1,hs12,ic,lo⟩ rd))))
theorem vY (h:HF) (holders:List (List Holder)) (dQ:Option Addr) (dP:Nat) (offices:Int) (hholders:SlC (Rp.sl Holder.rp) h dQ dP holders):Ret prog 198 [.slice dQ holders.length dP,I offices] h (.bool (da holders offices)):=by
 refine sT func198 U ntmps198 U fun X hM hX hF=>?_
 have hs0:da holders offices=da holders offices:=rfl
 refine qK 12 [] U (ac hs0 U (fun c1 hs1=>?_) (fun c1 hs2=>?_))
 ·exact sr (an (nretP [.bool false] (cs hs1)))
 ·refine qT 6 U ?_
  refine lp0 holders (fun i=>[(0,.slice dQ holders.length dP),(5,I (i:Int))]) ([]) (fun s1 i=>(da.L1 (da.K1)) s1) hholders.1.1 hs2 ?_ ?_ ?_
  ·rintro i1 eR hs4 e
   exact sr (an (nretP [.bool true] (cs hs4)))
  ·rintro i1 y1 rz1 hd1 cz ar dF fF hs6 hx1 ag1 e
   refine qK 6 [] U (ae (v':=.bool true) U (cb cz) (qO 9 U (az (wX tC ty101 hholders.1 (nthZ ar) (au ar) U U U (fun q4 cs2 A4 ln2 rr2=>?_)))))
   obtain ⟨rb2,rc2,rfl,sl2⟩:=rr2
   refine cL ty101 A4 U (qO 6 U ?_)
   refine lp0 y1 (fun i=>[(0,.slice dQ holders.length dP),(5,I (i1:Int)),(6,.slice rb2 y1.length rc2),(7,I (i:Int))]) ([]) (fun s3 i=>(da.L3 y1 ((da.L1 (da.K1) rz1))) s3 i) sl2.1.1 hs6 ?_ ?_ ?_
   ·rintro i3 uA hs7 e
    exact e8 (qT 2 U (ae (v':=I (((i1+1):Nat):Int)) U (aL ob) (an (ag1 hs7))))
   ·rintro i3 y3 rz3 hd3 uz hO zw E0 hs8 hx3 ag2 e
    refine qK 6 [] U (ae (v':=.bool true) U (cb uz) (qO 6 U ?_))
    refine jM [(0,.slice dQ holders.length dP),(5,I (i1:Int)),(6,.slice rb2 y1.length rc2),(7,I (i3:Int)),(75,.bool ((((decide (y3.Person < 0)||decide (64≤y3.Person))||decide (y3.Weight < 1))||decide (64 < y3.Weight))||(decide (0 < (i3:Int))&&decide (y3.Person≤(nthI y1 ((i3:Int) - 1)).Person))))] (fun e=>?_) (fun hk1=>?_)
    rotate_left
    ·refine eA ([]) mixed kr jn (fun cI _=>?_)
     refine qA [0,1] U (cC 2 (enc:=Holder.cells) cI jn ei rl ty133 sl2.1 (nthZ hO) (au hO) U U U U kr (fun q7 A7=>qB [3] U (tf 4 U U (fun _ _ hj=>eL ty3 (A7.mono hj.1) U) (qA [5,6] U ?_))))
     refine ct 34 U (fun c3=>?_) (fun c3=>?_)
     ·have c3p:=of_decide_eq_true c3
      exact tk 7 U U (qR 8 40 U (aI kr (hk1 _ ⟨U,U,U,U,(cb (show true=((((decide (y3.Person < 0)||decide (64≤y3.Person))||decide (y3.Weight < 1))||decide (64 < y3.Weight))||(decide (0 < (i3:Int))&&decide (y3.Person≤(nthI y1 ((i3:Int) - 1)).Person))) from by rw [c3] <;> rfl)),trivial⟩)))
     ·have c3p:=of_decide_eq_false c3
      refine qA [7,8] U (cC 9 (enc:=Holder.cells) cI jn ei rl ty133 sl2.1 (nthZ hO) (au hO) U U U U kr (fun q8 A8=>qB [10] U (tf 11 U U (fun _ _ hj=>eL ty3 (A8.mono hj.1) U) (qR 12 3 U ?_))))
      refine ct 42 U (fun c4=>?_) (fun c4=>?_)
      ·have c4p:=of_decide_eq_true c4
       exact tk 15 U U (qR 16 32 U (aI kr (hk1 _ ⟨U,U,U,U,(cb (show true=((((decide (y3.Person < 0)||decide (64≤y3.Person))||decide (y3.Weight < 1))||decide (64 < y3.Weight))||(decide (0 < (i3:Int))&&decide (y3.Person≤(nthI y1 ((i3:Int) - 1)).Person))) from by rw [c3,c4] <;> rfl)),trivial⟩)))
      ·have c4p:=of_decide_eq_false c4
       refine qA [15,16] U (cC 17 (enc:=Holder.cells) cI jn ei rl ty133 sl2.1 (nthZ hO) (au hO) U U U U kr (fun q9 A9=>qB [18] U (tf 19 U U (fun _ _ hj=>j4 1 ty3 (A9.mono hj.1) U U) (qR 20 3 U ?_))))
       refine ct 50 U (fun c5=>?_) (fun c5=>?_)
       ·have c5p:=of_decide_eq_true c5
        exact tk 23 U U (qR 24 24 U (aI kr (hk1 _ ⟨U,U,U,U,(cb (show true=((((decide (y3.Person < 0)||decide (64≤y3.Person))||decide (y3.Weight < 1))||decide (64 < y3.Weight))||(decide (0 < (i3:Int))&&decide (y3.Person≤(nthI y1 ((i3:Int) - 1)).Person))) from by rw [c3,c4,c5] <;> rfl)),trivial⟩)))
       ·have c5p:=of_decide_eq_false c5
        refine qA [23,24] U (cC 25 (enc:=Holder.cells) cI jn ei rl ty133 sl2.1 (nthZ hO) (au hO) U U U U kr (fun q10 A10=>qB [26] U (tf 27 U U (fun _ _ hj=>j4 1 ty3 (A10.mono hj.1) U U) (qR 28 3 U ?_))))
        refine ct 58 U (fun c6=>?_) (fun c6=>?_)
        ·have c6p:=of_decide_eq_true c6
         exact tk 31 U U (qR 32 16 U (aI kr (hk1 _ ⟨U,U,U,U,(cb (show true=((((decide (y3.Person < 0)||decide (64≤y3.Person))||decide (y3.Weight < 1))||decide (64 < y3.Weight))||(decide (0 < (i3:Int))&&decide (y3.Person≤(nthI y1 ((i3:Int) - 1)).Person))) from by rw [c3,c4,c5,c6] <;> rfl)),trivial⟩)))
        ·have c6p:=of_decide_eq_false c6
         refine qR 31 3 U ?_
         refine ct 61 U (fun c7=>?_) (fun c7=>?_)
         ·have c7p:=of_decide_eq_true c7
          refine qA [34,35] U (cC 36 (enc:=Holder.cells) cI jn ei rl ty133 sl2.1 (nthZ hO) (au hO) U U U U kr (fun q11 A11=>qB [37] U (tf 38 U U (fun _ _ hj=>eL ty3 (A11.mono hj.1) U) (qA [39,40] U (tf 41 U U (fun _ _ _=>kS (v':=I ((i3:Int) - 1)) U (gz ob)) ?_)))))
          have ho3:0≤(((i3:Int) - 1):Int)∧(((i3:Int) - 1):Int) < ((y1).length:Int):=ob
          exact cC 42 (enc:=Holder.cells) cI jn ei rl ty133 sl2.1 ho3 (bJ ho3) U U U U kr (fun q12 A12=>qB [43] U (tf 44 U U (fun _ _ hj=>eL ty3 (A12.mono hj.1) U) (qR 45 3 U (aI kr (hk1 _ ⟨U,U,U,U,(cb (show decide (y3.Person≤(nthI y1 ((i3:Int) - 1)).Person)=((((decide (y3.Person < 0)||decide (64≤y3.Person))||decide (y3.Weight < 1))||decide (64 < y3.Weight))||(decide (0 < (i3:Int))&&decide (y3.Person≤(nthI y1 ((i3:Int) - 1)).Person))) from by rw [c3,c4,c5,c6,c7] <;> rfl)),trivial⟩)))))
         ·have c7p:=of_decide_eq_false c7
          exact tk 34 U U (qR 35 13 U (aI kr (hk1 _ ⟨U,U,U,U,(cb (show false=((((decide (y3.Person < 0)||decide (64≤y3.Person))||decide (y3.Weight < 1))||decide (64 < y3.Weight))||(decide (0 < (i3:Int))&&decide (y3.Person≤(nthI y1 ((i3:Int) - 1)).Person))) from by rw [c3,c4,c5,c6,c7] <;> rfl)),trivial⟩)))
    refine ac hs8 U (fun c8 hs9=>?_) (fun c8 hs10=>?_)
    ·exact sr (an (nretP [.bool false] (cs hs9)))
    ·exact aG (qT 3 U (ae (v':=I (((i3+1):Nat):Int)) U (aL ob) (an (ag2 hs10))))
   ·rintro i3 hd3 Cu hx e
    exact qK 6 [] U (ae (v':=.bool false) U (cb Cu) (qO 3 U (hx _ rd)))
  ·rintro i1 hd1 eM hx e
   exact qK 6 [] U (ae (v':=.bool false) U (cb eM) (qO 3 U (hx _ rd)))
theorem nS (h:HF) (who:List Int) (dA:Option Addr) (dz:Nat) (kl:Int) (hwho:SlC Rp.int h dA dz who):Ret prog 233 [.slice dA who.length dz,I kl] h (.bool (ik who kl)):=by
 refine sT func233 U ntmps233 U fun X hM hX hF=>?_
 have hs0:ik who kl=ik who kl:=rfl
 refine qT 9 U ?_
 refine lp0 who (fun i=>[(0,.slice dA who.length dz),(1,I kl),(5,I (i:Int))]) ([]) (fun s1 i=>(ik.L1 kl (ik.K1)) s1) hwho.1.1 hs0 ?_ ?_ ?_
 ·rintro i1 eR hs1 e
  exact sr (an (nretP [.bool false] (cs hs1)))
 ·rintro i1 y1 rz1 hd1 cz ar dF fF hs3 hx1 ag1 e
  refine qK 6 [] U (ae (v':=.bool true) U (cb cz) (qO 9 U (az (ef (enc:=fun y=>[I y]) ei cR ty3 hwho.1 (nthZ ar) (au ar) U U U (fun q2 A2=>cL ty3 A2 U (qO 3 U (ac hs3 U (fun c2 hs4=>?_) (fun c2 hs5=>?_))))))))
  ·exact sr (an (nretP [.bool true] (cs hs4)))
  ·exact aG (qT 3 U (ae (v':=I (((i1+1):Nat):Int)) U (aL ob) (an (ag1 hs5))))
 ·rintro i1 hd1 eM hx e
  exact qK 6 [] U (ae (v':=.bool false) U (cb eM) (qO 3 U (hx _ rd)))
theorem vZ (rec:Expr→Int→(List (List Holder))→List Int→Bool) (h:HF) (x:Expr) (eQ:ce) (value:Int) (holders:List (List Holder)) (dQ:Option Addr) (dP:Nat) (who:List Int) (dA:Option Addr) (dz:Nat) (hrec:∀ (h:HF) (qx:Expr) (iT:ce) (qvalue:Int) (qholders:List (List Holder)) (qC:Option Addr) (qz:Nat) (qwho:List Int) (Cf:Option Addr) (Ce:Nat) (hqx:Expr.ok h qx iT) (hqholders:SlC (Rp.sl Holder.rp) h qC qz qholders) (hqwho:SlC Rp.int h Cf Ce qwho) (hok:OkX (qholders.length:Int) qx) (_:qx.dep < x.dep),Ret prog 199 [.agg (Expr.cells qx iT).toArray,I qvalue,.slice qC qholders.length qz,.slice Cf qwho.length Ce] h (.bool (rec qx qvalue qholders qwho))) (hx:Expr.ok h x eQ) (hholders:SlC (Rp.sl Holder.rp) h dQ dP holders) (hwho:SlC Rp.int h dA dz who) (hok:OkX (holders.length:Int) x):Ret prog 199 [.agg (Expr.cells x eQ).toArray,I value,.slice dQ holders.length dP,.slice dA who.length dz] h (.bool (ba.F rec x value holders who)):=by
 refine sT func199 U ntmps199 U fun X hM hX hF=>?_
 have hs0:ba.F rec x value holders who=ba.F rec x value holders who:=rfl
 have hkd:=hok.kind
 have hno:=hok.no
 have htw:=hok.two
 refine sr (cy (fun b1=>qL 19 [0] U (ac hs0 U (fun c1 hs1=>?_) (fun c1 hs2=>?_))))
 ·refine aG (ac hs1 U (fun c2 hs3=>?_) (fun c2 hs4=>?_))
  ·refine qK 5 [0] U ?_
   have ho1:0≤(x.No:Int)∧(x.No:Int) < ((holders).length:Int):=(by first | assumption | (simp only [decide_eq_true_eq,decide_eq_false_iff_not,Bool.and_eq_true,Bool.or_eq_true,Bool.not_eq_true',Bool.not_eq_false',Bool.and_eq_false_iff,Bool.or_eq_false_iff,beq_iff_eq,beq_eq_false_iff_ne,bne_iff_ne,bne_eq_false_iff_eq,List.length_append,List.length_cons,List.length_nil,List.length_drop] at *;exact hno ob))
   refine az (wX tC ty101 hholders.1 ho1 (bJ ho1) U U U (fun q1 cs1 A1 ln1 rr1=>?_))
   obtain ⟨rb1,rc1,rfl,sl1⟩:=rr1
   refine cL ty101 A1 U (qO 7 U ?_)
   refine lp1 (nthI holders x.No) (fun i w=>[(3,.slice dA who.length dz),(4,Q b1),(9,I w),(10,.slice rb1 ((nthI holders x.No).length) rc1),(11,I (i:Int))]) ([(b1,O (Expr.cells x eQ) 66)]) (fun s1 i w=>(ba.L1 who (ba.K1 x)) s1 w) 0 sl1.1.1 hs3 ?_ ?_ ?_
   ·rintro i1 jL eR hs5 e
    refine qK 6 [0] U (bz 5 [58,59,60,61,62,63] 58 63 (decide (x.N≤jL)) U (fun c3 hk1=>?_) (fun e=>?_))
    ·exact qL 5 [0] U (hk1 _ U)
    exact an (nretP [.bool ((x.Kind==2)&&decide (x.N≤jL))] (cs hs5))
   ·rintro i1 jL y1 rz1 hd1 cz ar dF fF hs7 hx1 ag1 e
    refine qK 6 [] U (ae (v':=.bool true) U (cb cz) (qO 11 U (az (ef (enc:=Holder.cells) ei rl ty133 sl1.1 (nthZ ar) (au ar) U U U (fun q3 A3=>qL 1 [] U (cL ty3 A3 U (ah GS (nS _ _ _ _ y1.Person hwho) U (aj (bz 4 [36,37,38,39,40] 36 40 true U (fun c4 hk2=>?_) (fun e=>?_))))))))))
    ·exact qL 2 [0] U (ae (v':=.bool true) U (cb c2) (ew U (hk2 _ U)))
    refine aN (ac hs7 U (fun c5 hs8=>?_) (fun c5 hs9=>?_))
    ·exact sr (an (nretP [.bool true] (cs hs8)))
    ·refine qT 6 U (az (ef (enc:=Holder.cells) ei rl ty133 sl1.1 (nthZ ar) (au ar) U U U (fun q4 A4=>qL 1 [] U (cL ty3 A4 U (ah GS (nS _ _ _ _ y1.Person hwho) U (aN (ac hs9 U (fun c6 hs11=>?_) (fun c6 hs12=>?_))))))))
     ·exact bh (qO 3 U (az (ef (enc:=Holder.cells) ei rl ty133 sl1.1 (nthZ ar) (au ar) U U U (fun q5 A5=>qL 1 [] U (jm (j:=1) ty3 A5 U U (qO 6 U (ae (v':=I (((i1+1):Nat):Int)) U (aL ob) (an (ag1 (IntKind.wrap .i64 (jL+y1.Weight)) hs11)))))))))
     ·exact aG (qT 3 U (ae (v':=I (((i1+1):Nat):Int)) U (aL ob) (an (ag1 jL hs12))))
   ·rintro i1 jL hd1 eM hx e
    exact qK 6 [] U (ae (v':=.bool false) U (cb eM) (qO 3 U (hx _ rd)))
  ·refine qT 5 U (ac hs4 U (fun c7 hs13=>?_) (fun c7 hs14=>?_))
   ·refine qT 5 U ?_
    refine lp1 x.L (fun i w=>[(1,I value),(2,.slice dQ holders.length dP),(3,.slice dA who.length dz),(4,Q b1),(9,I w),(12,I (i:Int))]) ([(b1,O (Expr.cells x eQ) 66)]) (fun s2 i w=>(ba.L2 rec value holders who (ba.K2 x)) s2 w) 0 hx.list.1.1 hs13 ?_ ?_ ?_
    ·rintro i2 mQ uA hs15 e
     exact qK 8 [0] U (nretP [.bool (decide (x.N≤mQ))] (cs hs15))
    ·rintro i2 mQ y2 rz2 hd2 nE jq tO Cv hs17 hx2 ag2 e
     have hoy:=hok.sub y2 (fA hd2)
     refine qK 7 [0] U (ae (v':=.bool true) U (cb nE) (qL 10 [0] U (az (dU jh ty66 hx.list.1 (nthZ jq) (au jq) U U U (fun _ _ _ e=>e) (fun q7 r2 A7 ok2=>dg ty66 A7 U U (qO 3 U (ah AQ (hrec _ _ _ value _ _ _ _ _ _ ok2 hholders hwho (by first | exact hok.sub _ (fm ob) | exact hoy) (Expr.gk (fA hd2))) U (aN (ac hs17 U (fun c9 hs18=>?_) (fun c9 hs19=>?_))))))))))
     ·exact bh (qO 7 U (ae (v':=I (((i2+1):Nat):Int)) U (aL ob) (an (ag2 (IntKind.wrap .i64 (mQ+1)) hs18))))
     ·exact aG (qT 3 U (ae (v':=I (((i2+1):Nat):Int)) U (aL ob) (an (ag2 mQ hs19))))
    ·rintro i2 mQ hd2 xL hx e
     exact qK 7 [0] U (ae (v':=.bool false) U (cb xL) (qO 3 U (hx _ rd)))
   ·refine qK 10 [0] U (ac hs14 U (fun c10 hs20=>?_) (fun c10 hs21=>?_))
    ·have c10p:=of_decide_eq_true c10
     refine qK 4 [0] U ?_
     have ho2:0≤(0:Int)∧(0:Int) < ((x.L).length:Int):=(by first | assumption | (simp only [decide_eq_true_eq,decide_eq_false_iff_not,Bool.and_eq_true,Bool.or_eq_true,Bool.not_eq_true',Bool.not_eq_false',Bool.and_eq_false_iff,Bool.or_eq_false_iff,beq_iff_eq,beq_eq_false_iff_ne,bne_iff_ne,bne_eq_false_iff_eq,List.length_append,List.length_cons,List.length_nil,List.length_drop] at *;have hq:=htw ob;omega))
     exact az (dU jh ty66 hx.list.1 ho2 (bJ ho2) U U U (fun _ _ _ e=>e) (fun q8 r3 A8 ok3=>dg ty66 A8 U U (qO 3 U (ah AQ (hrec _ _ _ value _ _ _ _ _ _ ok3 hholders hwho (by first | exact hok.sub _ (fm ob) | exact hoy) (Expr.gk (fm ob))) U (an (nretP [.bool (rec (nthI x.L 0) value holders who)] (cs hs20)))))))
    ·have c10p:=of_decide_eq_false c10
     refine qK 5 [0] U ?_
     have ho3:0≤(1:Int)∧(1:Int) < ((x.L).length:Int):=(by first | assumption | (simp only [decide_eq_true_eq,decide_eq_false_iff_not,Bool.and_eq_true,Bool.or_eq_true,Bool.not_eq_true',Bool.not_eq_false',Bool.and_eq_false_iff,Bool.or_eq_false_iff,beq_iff_eq,beq_eq_false_iff_ne,bne_iff_ne,bne_eq_false_iff_eq,List.length_append,List.length_cons,List.length_nil,List.length_drop] at *;have hq:=htw ob;omega))
     exact az (dU jh ty66 hx.list.1 ho3 (bJ ho3) U U U (fun _ _ _ e=>e) (fun q9 r4 A9 ok4=>dg ty66 A9 U U (qO 3 U (ah AQ (hrec _ _ _ value _ _ _ _ _ _ ok4 hholders hwho (by first | exact hok.sub _ (fm ob) | exact hoy) (Expr.gk (fm ob))) U (an (nretP [.bool (rec (nthI x.L 1) value holders who)] (cs hs21)))))))
 ·refine qT 4 U (ac hs2 U (fun c11 hs24=>?_) (fun c11 hs25=>?_))
  ·refine qK 5 [0] U ?_
   have ho4:0≤(x.No:Int)∧(x.No:Int) < ((holders).length:Int):=(by first | assumption | (simp only [decide_eq_true_eq,decide_eq_false_iff_not,Bool.and_eq_true,Bool.or_eq_true,Bool.not_eq_true',Bool.not_eq_false',Bool.and_eq_false_iff,Bool.or_eq_false_iff,beq_iff_eq,beq_eq_false_iff_ne,bne_iff_ne,bne_eq_false_iff_eq,List.length_append,List.length_cons,List.length_nil,List.length_drop] at *;exact hno ob))
   refine az (wX tC ty101 hholders.1 ho4 (bJ ho4) U U U (fun q10 cs6 A10 ln6 rr6=>?_))
   obtain ⟨rb2,rc2,rfl,sl2⟩:=rr6
   refine cL ty101 A10 U (qO 7 U ?_)
   refine lp1 (nthI holders x.No) (fun i w=>[(3,.slice dA who.length dz),(4,Q b1),(9,I w),(10,.slice rb2 ((nthI holders x.No).length) rc2),(11,I (i:Int))]) ([(b1,O (Expr.cells x eQ) 66)]) (fun s3 i w=>(ba.L3 who (ba.K3 x)) s3 w) 0 sl2.1.1 hs24 ?_ ?_ ?_
   ·rintro i3 xN Jk hs26 e
    exact qK 4 [0] U (ae (v':=.bool true) U (cb c11) (qL 8 [0] U (nretP [.bool (decide (x.N≤xN))] (cs hs26))))
   ·rintro i3 xN y3 rz3 hd3 uz hO zw E0 hs28 hx3 ag3 e
    refine qK 6 [] U (ae (v':=.bool true) U (cb uz) (qO 11 U (az (ef (enc:=Holder.cells) ei rl ty133 sl2.1 (nthZ hO) (au hO) U U U (fun q12 A12=>qL 1 [] U (cL ty3 A12 U (ah GS (nS _ _ _ _ y3.Person hwho) U (aj (bz 4 [36,37,38,39,40] 36 40 false U (fun c12 hk3=>?_) (fun e=>?_))))))))))
    ·exact qL 2 [0] U (ae (v':=.bool false) U (cb c1) (ew U (hk3 _ U)))
    refine aN (ac hs28 U (fun c13 hs29=>?_) (fun c13 hs30=>?_))
    ·exact sr (an (nretP [.bool true] (cs hs29)))
    ·refine qT 6 U (az (ef (enc:=Holder.cells) ei rl ty133 sl2.1 (nthZ hO) (au hO) U U U (fun q13 A13=>qL 1 [] U (cL ty3 A13 U (ah GS (nS _ _ _ _ y3.Person hwho) U (aN (ac hs30 U (fun c14 hs32=>?_) (fun c14 hs33=>?_))))))))
     ·exact bh (qO 3 U (az (ef (enc:=Holder.cells) ei rl ty133 sl2.1 (nthZ hO) (au hO) U U U (fun q14 A14=>qL 1 [] U (jm (j:=1) ty3 A14 U U (qO 6 U (ae (v':=I (((i3+1):Nat):Int)) U (aL ob) (an (ag3 (IntKind.wrap .i64 (xN+y3.Weight)) hs32)))))))))
     ·exact aG (qT 3 U (ae (v':=I (((i3+1):Nat):Int)) U (aL ob) (an (ag3 xN hs33))))
   ·rintro i3 xN hd3 Cu hx e
    exact qK 6 [] U (ae (v':=.bool false) U (cb Cu) (qO 3 U (hx _ rd)))
  ·refine qT 5 U (ac hs25 U (fun c15 hs34=>?_) (fun c15 hs35=>?_))
   ·refine qT 5 U ?_
    refine lp1 x.L (fun i w=>[(1,I value),(2,.slice dQ holders.length dP),(3,.slice dA who.length dz),(4,Q b1),(9,I w),(12,I (i:Int))]) ([(b1,O (Expr.cells x eQ) 66)]) (fun s4 i w=>(ba.L4 rec value holders who (ba.K4 x)) s4 w) 0 hx.list.1.1 hs34 ?_ ?_ ?_
    ·rintro i4 xM KW hs36 e
     exact qK 8 [0] U (nretP [.bool (decide (x.N≤xM))] (cs hs36))
    ·rintro i4 xM y4 rz4 hd4 KV JG K8 Lc hs38 hx4 ag4 e
     have hoy:=hok.sub y4 (fA hd4)
     refine qK 7 [0] U (ae (v':=.bool true) U (cb KV) (qL 10 [0] U (az (dU jh ty66 hx.list.1 (nthZ JG) (au JG) U U U (fun _ _ _ e=>e) (fun q16 r6 A16 ok6=>dg ty66 A16 U U (qO 3 U (ah AQ (hrec _ _ _ value _ _ _ _ _ _ ok6 hholders hwho (by first | exact hok.sub _ (fm ob) | exact hoy) (Expr.gk (fA hd4))) U (aN (ac hs38 U (fun c17 hs39=>?_) (fun c17 hs40=>?_))))))))))
     ·exact bh (qO 7 U (ae (v':=I (((i4+1):Nat):Int)) U (aL ob) (an (ag4 (IntKind.wrap .i64 (xM+1)) hs39))))
     ·exact aG (qT 3 U (ae (v':=I (((i4+1):Nat):Int)) U (aL ob) (an (ag4 xM hs40))))
    ·rintro i4 xM hd4 KX hx e
     exact qK 7 [0] U (ae (v':=.bool false) U (cb KX) (qO 3 U (hx _ rd)))
   ·refine qK 10 [0] U (ac hs35 U (fun c18 hs41=>?_) (fun c18 hs42=>?_))
    ·have c18p:=of_decide_eq_true c18
     refine qK 4 [0] U ?_
     have ho5:0≤(0:Int)∧(0:Int) < ((x.L).length:Int):=(by first | assumption | (simp only [decide_eq_true_eq,decide_eq_false_iff_not,Bool.and_eq_true,Bool.or_eq_true,Bool.not_eq_true',Bool.not_eq_false',Bool.and_eq_false_iff,Bool.or_eq_false_iff,beq_iff_eq,beq_eq_false_iff_ne,bne_iff_ne,bne_eq_false_iff_eq,List.length_append,List.length_cons,List.length_nil,List.length_drop] at *;have hq:=htw ob;omega))
     exact az (dU jh ty66 hx.list.1 ho5 (bJ ho5) U U U (fun _ _ _ e=>e) (fun q17 r7 A17 ok7=>dg ty66 A17 U U (qO 3 U (ah AQ (hrec _ _ _ value _ _ _ _ _ _ ok7 hholders hwho (by first | exact hok.sub _ (fm ob) | exact hoy) (Expr.gk (fm ob))) U (an (nretP [.bool (rec (nthI x.L 0) value holders who)] (cs hs41)))))))
    ·have c18p:=of_decide_eq_false c18
     refine qK 5 [0] U ?_
     have ho6:0≤(1:Int)∧(1:Int) < ((x.L).length:Int):=(by first | assumption | (simp only [decide_eq_true_eq,decide_eq_false_iff_not,Bool.and_eq_true,Bool.or_eq_true,Bool.not_eq_true',Bool.not_eq_false',Bool.and_eq_false_iff,Bool.or_eq_false_iff,beq_iff_eq,beq_eq_false_iff_ne,bne_iff_ne,bne_eq_false_iff_eq,List.length_append,List.length_cons,List.length_nil,List.length_drop] at *;have hq:=htw ob;omega))
     exact az (dU jh ty66 hx.list.1 ho6 (bJ ho6) U U U (fun _ _ _ e=>e) (fun q18 r8 A18 ok8=>dg ty66 A18 U U (qO 3 U (ah AQ (hrec _ _ _ value _ _ _ _ _ _ ok8 hholders hwho (by first | exact hok.sub _ (fm ob) | exact hoy) (Expr.gk (fm ob))) U (an (nretP [.bool (rec (nthI x.L 1) value holders who)] (cs hs42)))))))
theorem oo:∀ (m:Nat) (h:HF) (x:Expr) (eQ:ce) (value:Int) (holders:List (List Holder)) (dQ:Option Addr) (dP:Nat) (who:List Int) (dA:Option Addr) (dz:Nat) (_:x.dep≤m) (hx:Expr.ok h x eQ) (hholders:SlC (Rp.sl Holder.rp) h dQ dP holders) (hwho:SlC Rp.int h dA dz who) (hok:OkX (holders.length:Int) x),Ret prog 199 [.agg (Expr.cells x eQ).toArray,I value,.slice dQ holders.length dP,.slice dA who.length dz] h (.bool (ba.go m x value holders who))
 | 0,h,x,eQ,value,holders,dQ,dP,who,dA,dz,hd,hx,hholders,hwho,hok=>absurd hd (Nat.not_le.2 (Expr.jK _))
 | m+1,h,x,eQ,value,holders,dQ,dP,who,dA,dz,hd,hx,hholders,hwho,hok=>vZ (ba.go m) h x eQ value holders dQ dP who dA dz (fun qh_ qx iT qvalue qholders qC qz qwho Cf Ce qhx qhholders qhwho qhok qd=>oo m qh_ qx iT qvalue qholders qC qz qwho Cf Ce ob qhx qhholders qhwho qhok) hx hholders hwho hok
theorem xD (h:HF) (x:Expr) (eQ:ce) (value:Int) (holders:List (List Holder)) (dQ:Option Addr) (dP:Nat) (who:List Int) (dA:Option Addr) (dz:Nat) (hx:Expr.ok h x eQ) (hholders:SlC (Rp.sl Holder.rp) h dQ dP holders) (hwho:SlC Rp.int h dA dz who) (hok:OkX (holders.length:Int) x):Ret prog 199 [.agg (Expr.cells x eQ).toArray,I value,.slice dQ holders.length dP,.slice dA who.length dz] h (.bool (ba x value holders who)):=oo _ h x eQ value holders dQ dP who dA dz (Nat.le_refl _) hx hholders hwho hok
theorem vX (h:HF) (p:Policy) (gq:dY) (kind:Int) (value:Int) (holders:List (List Holder)) (dQ:Option Addr) (dP:Nat) (who:List Int) (dA:Option Addr) (dz:Nat) (hp:Policy.ok h p gq) (hholders:SlC (Rp.sl Holder.rp) h dQ dP holders) (hwho:SlC Rp.int h dA dz who) (hsm:smP p) (hsz0:∀ y∈holders,y.length≤2000000) (hsw:who.length≤2000000):Ret prog 122 [.agg (Policy.cells p gq).toArray,I kind,I value,.slice dQ holders.length dP,.slice dA who.length dz] h (.tuple #[.bool ((fK p kind value holders who).1),I ((fK p kind value holders who).2)]):=by
 refine sT func122 U ntmps122 U fun X hM hX hF=>?_
 have hs0:fK p kind value holders who=fK p kind value holders who:=rfl
 refine sr (cy (fun b1=>qO 5 U (cM 0 ty68 U U U (ah call116 (ou _ _ _ hp ob) U (qO 8 U (ac hs0 U (fun c1 hs1=>?_) (fun c1 hs2=>?_)))))))
 ·refine qT 6 U ?_
  have hs3:fK p kind value holders who=(false,(ed p)):=hs1
  exact nretP [.bool false,I (ed p)] (congrArg (fun r:(Bool×Int)=>(.tuple #[.bool r.1,I r.2]:Value)) hs3.symm)
 ·refine qT 7 U (cf 6 [20,21,22,23,24,25,26] 20 26 (decide ((p.Kinds.length:Int)≤kind)) U (fun c2 hk1=>?_) (fun e=>?_))
  ·exact qL 6 [0] U (hk1 _ U)
  refine aj (cf 3 [27,28,29,30] 27 30 (decide (value < 0)) U (fun c3 hk2=>?_) (fun e=>?_))
  ·exact aj (qO 2 U (hk2 _ U))
  refine aj (cf 3 [31,32,33,34] 31 34 (decide (1099511627776 < value)) U (fun c4 hk3=>?_) (fun e=>?_))
  ·exact aj (qO 2 U (hk3 _ U))
  refine aN (ac hs2 U (fun c5 hs4=>?_) (fun c5 hs5=>?_))
  ·refine qT 5 U ?_
   have hs6:fK p kind value holders who=(false,1):=hs4
   exact nretP [.bool false,I 1] (congrArg (fun r:(Bool×Int)=>(.tuple #[.bool r.1,I r.2]:Value)) hs6.symm)
  ·refine qK 8 [0] U (ah call198 (vY _ _ _ _ (p.Offices.length:Int) hholders) U (qO 2 U (ac hs5 U (fun c6 hs7=>?_) (fun c6 hs8=>?_))))
   ·refine qT 5 U ?_
    have hs9:fK p kind value holders who=(false,210):=hs7
    exact nretP [.bool false,I 210] (congrArg (fun r:(Bool×Int)=>(.tuple #[.bool r.1,I r.2]:Value)) hs9.symm)
   ·refine qT 5 U (ah call32 (qZ _ _ _ _ hwho) U (qO 2 U (ac hs8 U (fun c7 hs10=>?_) (fun c7 hs11=>?_))))
    ·refine qT 5 U ?_
     have hs12:fK p kind value holders who=(false,1):=hs10
     exact nretP [.bool false,I 1] (congrArg (fun r:(Bool×Int)=>(.tuple #[.bool r.1,I r.2]:Value)) hs12.symm)
    ·refine qK 6 [0] U ?_
     have ho1:0≤(kind:Int)∧(kind:Int) < ((p.Rules).length:Int):=(by have hq:=mz (vH hsm (by simpa using c1));simp only [decide_eq_true_eq,decide_eq_false_iff_not,Bool.and_eq_true,Bool.or_eq_true,Bool.not_eq_true',Bool.not_eq_false',Bool.and_eq_false_iff,Bool.or_eq_false_iff,beq_iff_eq,beq_eq_false_iff_ne,bne_iff_ne,bne_eq_false_iff_eq,List.length_append,List.length_cons,List.length_nil,List.length_drop] at *;omega)
     refine az (dU nO ty107 hp.Rules.1 ho1 (bJ ho1) U U U (fun _ _ _ e=>e) (fun q1 r1 A1 ok1=>qL 1 [] U (uq (j:=3) ty66 A1 U U (qO 3 U (ah AQ (xD _ _ _ value _ _ _ _ _ _ ok1.Expr hholders hwho (by have hq:=mz (vH hsm (by simpa using c1));have hr:=Bh (hs:=holders) (n:=(p.Offices.length:Int)) (by rw [right21];simpa using c6);show OkX (holders.length:Int) _;rw [hr];exact hq.2.2 _ (uE (fm ho1)))) U (qO 3 U ?_))))))
     have hs13:fK p kind value holders who=((ba ((nthI p.Rules kind).Expr) value holders who),0):=hs11
     exact nretP [.bool (ba ((nthI p.Rules kind).Expr) value holders who),I 0] (congrArg (fun r:(Bool×Int)=>(.tuple #[.bool r.1,I r.2]:Value)) hs13.symm)
theorem vV (h:HF) (l:List Int) (eE:Option Addr) (eD:Nat) (hl:SlC Rp.int h eE eD l):Ret prog 255 [.slice eE l.length eD] h (.bool (eI l)):=by
 refine sT func255 U ntmps255 U fun X hM hX hF=>?_
 have hs0:eI l=eI l:=rfl
 refine qT 9 U ?_
 refine lp0 l (fun i=>[(0,.slice eE l.length eD),(3,I (i:Int))]) ([]) (fun s1 i=>(eI.L1 l (eI.K1 l)) s1 i) hl.1.1 hs0 ?_ ?_ ?_
 ·rintro i1 eR hs1 e
  exact qK 7 [] U (nretP [.bool (decide ((l.length:Int)≤16))] (cs hs1))
 ·rintro i1 y1 rz1 hd1 cz ar dF fF hs3 hx1 ag1 e
  refine qK 6 [] U (ae (v':=.bool true) U (cb cz) (qO 6 U ?_))
  refine jM [(0,.slice eE l.length eD),(3,I (i1:Int)),(31,.bool ((!(gD y1))||(decide (0 < (i1:Int))&&decide (y1≤(nthI l ((i1:Int) - 1))))))] (fun e=>?_) (fun hk1=>?_)
  rotate_left
  ·refine eA ([]) mixed kr jn (fun cI _=>?_)
   refine qA [0,1] U (cC 2 (enc:=fun y=>[I y]) cI jn ei cR ty3 hl.1 (nthZ ar) (au ar) U U U U kr (fun q4 A4=>tf 3 U U (fun _ _ hj=>eL ty3 (A4.mono hj.1) U) (tn 4 U (eO call185 (ol h y1) U (⟨jn,qA [5,6] U ?_⟩)))))
   refine ct 16 U (fun c1=>?_) (fun c1=>?_)
   ·exact tk 7 U U (qR 8 14 U (aI kr (hk1 _ ⟨U,U,(cb (show true=((!(gD y1))||(decide (0 < (i1:Int))&&decide (y1≤(nthI l ((i1:Int) - 1))))) from by rw [c1] <;> rfl)),trivial⟩)))
   ·refine qR 7 3 U ?_
    refine ct 19 U (fun c2=>?_) (fun c2=>?_)
    ·have c2p:=of_decide_eq_true c2
     refine qA [10,11] U (cC 12 (enc:=fun y=>[I y]) cI jn ei cR ty3 hl.1 (nthZ ar) (au ar) U U U U kr (fun q5 A5=>tf 13 U U (fun _ _ hj=>eL ty3 (A5.mono hj.1) U) (qA [14,15] U (tf 16 U U (fun _ _ _=>kS (v':=I ((i1:Int) - 1)) U (gz ob)) ?_))))
     have ho2:0≤(((i1:Int) - 1):Int)∧(((i1:Int) - 1):Int) < ((l).length:Int):=ob
     exact cC 17 (enc:=fun y=>[I y]) cI jn ei cR ty3 hl.1 ho2 (bJ ho2) U U U U kr (fun q6 A6=>tf 18 U U (fun _ _ hj=>eL ty3 (A6.mono hj.1) U) (qR 19 3 U (aI kr (hk1 _ ⟨U,U,(cb (show decide (y1≤(nthI l ((i1:Int) - 1)))=((!(gD y1))||(decide (0 < (i1:Int))&&decide (y1≤(nthI l ((i1:Int) - 1))))) from by rw [c1,c2] <;> rfl)),trivial⟩))))
    ·have c2p:=of_decide_eq_false c2
     exact tk 10 U U (qR 11 11 U (aI kr (hk1 _ ⟨U,U,(cb (show false=((!(gD y1))||(decide (0 < (i1:Int))&&decide (y1≤(nthI l ((i1:Int) - 1))))) from by rw [c1,c2] <;> rfl)),trivial⟩)))
  refine ac hs3 U (fun c3 hs4=>?_) (fun c3 hs5=>?_)
  ·exact sr (an (nretP [.bool false] (cs hs4)))
  ·exact aG (qT 3 U (ae (v':=I (((i1+1):Nat):Int)) U (aL ob) (an (ag1 hs5))))
 ·rintro i1 hd1 eM hx e
  exact qK 6 [] U (ae (v':=.bool false) U (cb eM) (qO 3 U (hx _ rd)))
theorem yK (h:HF) (l:List Interest) (eE:Option Addr) (eD:Nat) (who:Int) (parties:List Int) (gd:Option Addr) (ga:Nat) (cD:Int) (known:Int) (hl:SlC Interest.rp h eE eD l) (hparties:SlC Rp.int h gd ga parties):Ret prog 234 [.slice eE l.length eD,I who,.slice gd parties.length ga,I cD,I known] h (I (gK l who parties cD known)):=by
 refine sT func234 U ntmps234 U fun X hM hX hF=>?_
 have hs0:gK l who parties cD known=gK l who parties cD known:=rfl
 refine qT 7 U (ah call69 (rO _ _ _ _ hl) U (qO 8 U (ac hs0 U (fun c1 hs1=>?_) (fun c1 hs2=>?_))))
 ·exact sr (qO 3 U (nretP [I (et l)] (ci hs1)))
 ·refine qT 5 U (ah call186 (qX h who) U (qO 2 U (cf 4 [20,21,22,23,24] 20 24 (!(eI parties)) U (fun c2 hk1=>?_) (fun e=>?_))))
  ·exact aj (ah call255 (vV _ _ _ _ hparties) U (qO 2 U (hk1 _ U)))
  refine aj (cf 4 [25,26,27,28,29] 25 29 (!(ia cD)) U (fun c3 hk2=>?_) (fun e=>?_))
  ·exact aj (ah GU (na h cD) U (qO 2 U (hk2 _ U)))
  refine aj (cf 4 [30,31,32,33,34] 30 34 (!(ia known)) U (fun c4 hk3=>?_) (fun e=>?_))
  ·exact aj (ah GU (na h known) U (qO 2 U (hk3 _ U)))
  refine aN (ac hs2 U (fun c5 hs4=>?_) (fun c5 hs5=>?_))
  ·exact sr (an (nretP [I 1] (ci hs4)))
  ·exact aG (qT 4 U (nretP [I 0] (ci hs5)))
theorem qY (h:HF) (x:Interest) (fc:Int) (known:Int)  : Ret prog 270 [.agg (Interest.cells x).toArray,I fc,I known] h (.bool (fT x fc known)):=by
 refine sT func270 U ntmps270 U fun X hM hX hF=>?_
 have hs0:fT x fc known=fT x fc known:=rfl
 refine sr (cy (fun b1=>qL 9 [0] U (bz 5 [11,12,13,14,15,16] 11 16 (decide (x.Known≤known)) U (fun c1 hk1=>?_) (fun e=>?_))))
 ·exact qL 5 [0] U (hk1 _ U)
 exact an (nretP [.bool (decide (x.At≤fc)&&decide (x.Known≤known))] (cs hs0))
theorem yL (h:HF) (a:Interest) (iv:Interest)  : Ret prog 271 [.agg (Interest.cells a).toArray,.agg (Interest.cells iv).toArray] h (.bool (iN a iv)):=by
 refine sT func271 U ntmps271 U fun X hM hX hF=>?_
 have hs0:iN a iv=iN a iv:=rfl
 refine sr (cy (fun b1=>cy (fun b2=>qL 10 [1,0] U (bz 6 [10,11,12,13,14,15,16] 10 16 (a.Party==iv.Party) U (fun c1 hk1=>?_) (fun e=>?_)))))
 ·exact qL 6 [1,0] U (hk1 _ U)
 refine aj (bz 6 [17,18,19,20,21,22,23] 17 23 (a.Of==iv.Of) U (fun c2 hk2=>?_) (fun e=>?_))
 ·exact qL 4 [1,0] U (az (fy (Jz Kz U U) (ew U (hk2 _ U))))
 exact an (nretP [.bool (((a.Person==iv.Person)&&(a.Party==iv.Party))&&(a.Of==iv.Of))] (cs hs0))
theorem xA (h:HF) (l:List Interest) (eE:Option Addr) (eD:Nat) (x:Interest) (aQ:Int) (known:Int) (hl:SlC Interest.rp h eE eD l):Ret prog 256 [.slice eE l.length eD,.agg (Interest.cells x).toArray,I aQ,I known] h (.bool (eX l x aQ known)):=by
 refine sT func256 U ntmps256 U fun X hM hX hF=>?_
 have hs0:eX l x aQ known=eX l x aQ known:=rfl
 refine sr (cy (fun b1=>qL 8 [0] U (cf 6 [12,13,14,15,16,17,18] 12 18 (!(fT x aQ known)) U (fun c1 hk1=>?_) (fun e=>?_))))
 ·exact cM 0 ty61 U U U (qO 2 U (ah call270 (qY h x aQ known) U (qO 2 U (hk1 _ U))))
 refine aN (ac hs0 U (fun c2 hs1=>?_) (fun c2 hs2=>?_))
 ·exact sr (an (nretP [.bool false] (cs hs1)))
 ·refine qT 6 U ?_
  let z1:Nat×Obj:=(b1,O (Interest.cells x) 61)
  refine lp0 l (fun i=>[(0,.slice eE l.length eD),(2,I aQ),(3,I known),(5,Q b1),(9,I (i:Int))]) ([z1]) (fun s1 i=>(eX.L1 x aQ known (eX.K1)) s1) hl.1.1 hs2 ?_ ?_ ?_
  ·rintro i1 eR hs4 e
   exact sr (an (nretP [.bool true] (cs hs4)))
  ·rintro i1 y1 rz1 hd1 cz ar dF fF hs6 hx1 ag1 e
   refine qK 6 [] U (ae (v':=.bool true) U (cb cz) (qO 6 U ?_))
   refine jM [(0,.slice eE l.length eD),(2,I aQ),(3,I known),(5,Q b1),(9,I (i1:Int)),(69,.bool (((iN y1 x)&&(fT y1 aQ known))&&(decide (x.At < y1.At)||((y1.At==x.At)&&decide (x.No < y1.No)))))] (fun e=>?_) (fun hk2=>?_)
   rotate_left
   ·refine eA ([z1]) mixed kr jn (fun cI _=>?_)
    refine qA [0,1] U (cC 2 (enc:=Interest.cells) cI jn ei lT ty61 hl.1 (nthZ ar) (au ar) U U U U kr (fun q3 A3=>tf 3 U U (fun _ _ hj=>iQ ty61 (A3.mono hj.1) U U) (tf 4 U U (fun _ _ hj=>jA ty61 U (hj.nth (i:=0) U) U) (tn 5 U (eO call271 (yL h y1 x) U (⟨jn,(tm 6 U ?_)⟩))))))
    refine ct 31 U (fun c3=>?_) (fun c3=>?_)
    ·refine qA [7,8] U (cC 9 (enc:=Interest.cells) cI jn ei lT ty61 hl.1 (nthZ ar) (au ar) U U U U kr (fun q4 A4=>tf 10 U U (fun _ _ hj=>iQ ty61 (A4.mono hj.1) U U) (qA [11,12] U (tn 13 U (eO call270 (qY h y1 aQ known) U (⟨jn,qA [14,15] U ?_⟩))))))
     refine ct 40 U (fun c4=>?_) (fun c4=>?_)
     ·refine qA [16,17] U (cC 18 (enc:=Interest.cells) cI jn ei lT ty61 hl.1 (nthZ ar) (au ar) U U U U kr (fun q5 A5=>qB [19] U (tf 20 U U (fun _ _ hj=>j4 1 ty3 (A5.mono hj.1) U U) (qB [21] U (tf 22 U U (fun _ _ hj=>fw ty3 U (hj.nth (i:=0) U) U) (qA [23,24] U ?_))))))
      refine ct 49 U (fun c5=>?_) (fun c5=>?_)
      ·have c5p:=of_decide_eq_true c5
       exact tk 25 U U (qR 26 19 U (aI kr (hk2 _ ⟨U,U,U,U,U,(cb (show true=(((iN y1 x)&&(fT y1 aQ known))&&(decide (x.At < y1.At)||((y1.At==x.At)&&decide (x.No < y1.No)))) from by rw [c3,c4,c5] <;> rfl)),trivial⟩)))
      ·have c5p:=of_decide_eq_false c5
       refine qA [25,26] U (cC 27 (enc:=Interest.cells) cI jn ei lT ty61 hl.1 (nthZ ar) (au ar) U U U U kr (fun q6 A6=>qB [28] U (tf 29 U U (fun _ _ hj=>j4 1 ty3 (A6.mono hj.1) U U) (qB [30] U (tf 31 U U (fun _ _ hj=>fw ty3 U (hj.nth (i:=0) U) U) (qA [32,33] U ?_))))))
       refine ct 58 U (fun c6=>?_) (fun c6=>?_)
       ·exact tm 34 U (tm 35 U (cC 36 (enc:=Interest.cells) cI jn ei lT ty61 hl.1 (nthZ ar) (au ar) U U U U kr (fun q7 A7=>qB [37] U (tf 38 U U (fun _ _ hj=>eL ty3 (A7.mono hj.1) U) (qB [39] U (tf 40 U U (fun _ _ hj=>fw ty3 U (hj.nth (i:=0) U) U) (qR 41 4 U (aI kr (hk2 _ ⟨U,U,U,U,U,(cb (show decide (x.No < y1.No)=(((iN y1 x)&&(fT y1 aQ known))&&(decide (x.At < y1.At)||((y1.At==x.At)&&decide (x.No < y1.No)))) from by rw [c3,c4,c5,c6] <;> rfl)),trivial⟩)))))))))
       ·exact tk 34 U U (qR 35 10 U (aI kr (hk2 _ ⟨U,U,U,U,U,(cb (show false=(((iN y1 x)&&(fT y1 aQ known))&&(decide (x.At < y1.At)||((y1.At==x.At)&&decide (x.No < y1.No)))) from by rw [c3,c4,c5,c6] <;> rfl)),trivial⟩)))
     ·exact tk 16 U U (qR 17 28 U (aI kr (hk2 _ ⟨U,U,U,U,U,(cb (show false=(((iN y1 x)&&(fT y1 aQ known))&&(decide (x.At < y1.At)||((y1.At==x.At)&&decide (x.No < y1.No)))) from by rw [c3,c4] <;> rfl)),trivial⟩)))
    ·exact tk 7 U U (qR 8 37 U (aI kr (hk2 _ ⟨U,U,U,U,U,(cb (show false=(((iN y1 x)&&(fT y1 aQ known))&&(decide (x.At < y1.At)||((y1.At==x.At)&&decide (x.No < y1.No)))) from by rw [c3] <;> rfl)),trivial⟩)))
   refine ac hs6 U (fun c7 hs7=>?_) (fun c7 hs8=>?_)
   ·exact sr (an (nretP [.bool false] (cs hs7)))
   ·exact aG (qT 3 U (ae (v':=I (((i1+1):Nat):Int)) U (aL ob) (an (ag1 hs8))))
  ·rintro i1 hd1 eM hx e
   exact qK 6 [] U (ae (v':=.bool false) U (cb eM) (qO 3 U (hx _ rd)))
theorem vc (h:HF) (l:List Interest) (eE:Option Addr) (eD:Nat) (fc:Int) (known:Int) (hl:SlC Interest.rp h eE eD l) (hsz:l.length≤2000000):iW prog 235 [.slice eE l.length eD,I fc,I known] h (fun v h'=>∃ (rb0:Option Addr) (rc0:Nat),v=.slice rb0 (cu l fc known).length rc0∧SlC Interest.rp h' rb0 rc0 (cu l fc known)):=by
 refine sT func235 U ntmps235 U fun X hM hX hF=>?_
 have hs0:cu l fc known=cu l fc known:=rfl
 refine qT 6 U (az (iY lT ty61 (fun b1=>qO 7 U ?_)))
 obtain ⟨G2,gr2,ge1⟩:∃ G:LH,cJ Interest.rp 61 h ([]) (some ⟨b1,0,none⟩) 0 G∧[(b1,O [] 61)]=G:=⟨_,cJ.lit (show aT Interest.rp h [] ([]) from rfl) rfl,rfl⟩
 refine cS (L':=([])++([(b1,O [] 61)]++([]))) ap ?_
 rw [ge1]
 refine kA (List.Perm.append_left _ List.perm_append_comm) (cS (L':=G2) ap ?_)
 refine lp2 l (fun i w=>[(0,.slice eE l.length eD),(1,I fc),(2,I known),(7,.slice w.2.1 w.1.length w.2.2.1),(8,I (i:Int))]) (fun _=>h) (fun w=>w.2.2.2) (fun i w=>cJ Interest.rp 61 h w.1 w.2.1 w.2.2.1 w.2.2.2∧w.1.length≤0+i) (fun s1 i w=>(cu.L1 l fc known (cu.K1)) s1 w.1) ([],(some ⟨b1,0,none⟩),0,G2) hl.1.1 hs0 ⟨gr2,lo⟩ ?_ ?_ ?_
 ·rintro i1 ⟨kw,BI,BH,FY⟩ eR hs1 ⟨BG,Im⟩ e
  try dsimp only at BG Im
  refine qT 5 U (eK Interest.ak ([]) FY ([]) ap hM BG (fun h2 hle2 sl2=>?_))
  have hs2:cu l fc known=kw:=hs1
  exact nretH [.slice BI kw.length BH] ⟨BI,BH,congrArg (fun r:List Interest=>(.slice BI r.length BH:Value)) hs2.symm,(by rw [hs2];exact sl2)⟩
 ·rintro i1 ⟨kw,BI,BH,FY⟩ y1 rz1 hd1 cz ar dF fF hs3 ⟨BG,Im⟩ hx1 ag1 e
  try dsimp only at BG Im
  refine qK 6 [] U (ae (v':=.bool true) U (cb cz) (qO 10 U (az (ef (enc:=Interest.cells) ei lT ty61 hl.1 (nthZ ar) (au ar) U U U (fun q3 A3=>dg ty61 A3 U U (qO 2 U (ah call256 (xA _ _ _ _ y1 fc known hl) U (aN (ac hs3 U (fun c2 hs4=>?_) (fun c2 hs5=>?_))))))))))
  ·refine qT 4 U (az (ef (enc:=Interest.cells) ei lT ty61 hl.1 (nthZ ar) (au ar) U U U (fun q4 A4=>dg ty61 A4 U U (az (bd (cells:=[I y1.No,I y1.At,I y1.Known,I y1.Person,I y1.Party,.bool y1.Of,.bool y1.Gone]) lT ty61 zc61 U U kr (fun b3=>?_))))))
   let z1:Nat×Obj:=(b3,O [I y1.No,I y1.At,I y1.Known,I y1.Person,I y1.Party,.bool y1.Of,.bool y1.Gone] 61)
   exact az (bR Interest.ey ([z1]) ([]) (fun G=>[z1]++G) ap (fun _=>ap) lT ty61 zc61 U bytes61 BG U U (dr 0 U (show aT Interest.rp h [I y1.No,I y1.At,I y1.Known,I y1.Person,I y1.Party,.bool y1.Of,.bool y1.Gone] ([y1]) from ⟨[I y1.No,I y1.At,I y1.Known,I y1.Person,I y1.Party,.bool y1.Of,.bool y1.Gone],[],U,U,U,U⟩)) lo lo (fun ob2 oc2 G3 gr3=>qO 5 U (ae (v':=I (((i1+1):Nat):Int)) U (aL ob) (an (bY (L':=G3) js (ag1 ((kw++[y1]),ob2,oc2,G3) hs4 ⟨gr3,lo⟩))))))
  ·exact aG (qT 3 U (ae (v':=I (((i1+1):Nat):Int)) U (aL ob) (an (ag1 (kw,BI,BH,FY) hs5 ⟨BG,lo⟩))))
 ·rintro i1 ⟨kw,BI,BH,FY⟩ hd1 eM hx e
  exact qK 6 [] U (ae (v':=.bool false) U (cb eM) (qO 3 U (hx _ rd)))
theorem jw (h:HF) (l:List dN) (b:Option Addr) (c:Nat) (G:LH) (x:dN) (eQ:lN) (hG:cJ dN.rp 270 h l b c G) (hx:dN.ok h x eQ) (hsz:l.length≤2000000):
  nB prog 236 [.slice b l.length c,.agg (dN.cells x eQ).toArray].toArray h G (fun r h' G'=>∃ b' c',h'=h∧r=.returned (.slice b' (rwPut l x).length c')∧cJ dN.rp 270 h (rwPut l x) b' c' G'):=by
 refine cT func236 U ntmps236 U fun X hM hX=>sr (cy (fun b1=>qO 7 U ?_))
 let z1:Nat×Obj:=(b1,.cells (dN.cells x eQ).toArray 270 (0,0))
 refine lp0 l (fun i=>[(0,.slice b l.length c),(3,Q b1),(5,I (i:Int))]) ([z1]++G) (fun s _=>bif s.any (fun w=>w.To==x.To) then l else l++[x]) hG.bound (show rwPut l x=_ from U) ?_ ?_ ?_
 ·rintro i _ hs e
  replace hs:rwPut l x=l++[x]:=hs
  refine qT 3 U (cM 0 ty270 U U U (az (bd (cells:=dN.cells x eQ) wN ty270 zc270 U U kr (fun b2=>?_))))
  let z2:Nat×Obj:=(b2,.cells (dN.cells x eQ).toArray 270 (0,0))
  refine az (bR dN.ey ([z2,z1]) [] (fun G'=>[z2,z1]++([]++G')) ap (fun _=>U) wN ty270 zc270 U bytes270 hG U U
   (dr 0 rfl (show aT dN.rp h (dN.cells x eQ) [x] from ⟨dN.cells x eQ,[],rfl,rfl,⟨eQ,rfl,hx⟩,rfl⟩)) lo lo (fun b3 c3 G3 hG3=>?_))
  refine an ?_
  refine mF func236 (fun a ha w hw=>res1 U a ha w) (fun w hw=>(hw.sub (L':=G3) js).lower) ⟨b3,c3,hX,?_,?_⟩
  ·rw [hs];rfl
  ·rw [hs];exact hG3
 ·rintro i y r hd hlt hget hltp hbd hs hx1 ag e
  obtain ⟨bk,hbk⟩:=hG.jD ob
  refine qK 6 [] rfl (ae (v':=.bool true) rfl (cb hlt) (qO 6 rfl (eA ([z1]++G) mixed kr jn (fun hsep hJ=>lH 0 hsep hJ rfl rfl kr rfl (fun _ _ _=>Cb) (lH 1 hsep hJ rfl rfl kr rfl (fun _ _ _=>Cb) (lH 2 hsep hJ rfl rfl kr rfl (fun _ _ _=>mN (R:=dN.rp) (xs:=l) (z:=(i:Int)) wN ty270 hbk ob rfl rfl rfl) (lH 3 hsep hJ rfl rfl kr rfl (fun _ _ _=>nn Eh rfl) (lH 4 hsep hJ rfl rfl kr rfl (fun _ _ hj=>yZ (R:=dN.rp) (i:=(i:Int).toNat) (off:=1) ty3 hG hbk (au hget) (fun cs hcs=>by obtain ⟨q,e1,_⟩:=hcs;rw [e1];rfl) rfl (fun p hp=>hj.2 p (List.mem_append_right _ hp))) (lH 5 hsep hJ rfl rfl kr rfl (fun _ _ _=>nn Eh rfl) (lH 6 hsep hJ rfl rfl kr rfl (fun _ _ hj=>fw ty3 rfl (hj.nth (i:=0) rfl) rfl) ?_))))))))))
  refine lH 7 hsep hJ U U kr U (fun _ _ _=>JA U) (aI kr (j6 (t:=y.To==x.To) U (fun c1=>?_) (fun c1=>?_)))
  ·replace hs:rwPut l x=l:=hs.trans (by simp only [List.any_cons,c1,Bool.true_or,cond_true])
   refine qT 5 U ?_
   refine mF func236 (fun a ha w hw=>res1 U a ha w) (fun w hw=>(hw.sub (List.sublist_append_right _ _)).lower) ⟨b,c,hX,?_,?_⟩
   ·rw [hs];rfl
   ·rw [hs];exact hG
  ·exact aG (qT 3 U (ae (v':=I ((i+1:Nat):Int)) U (aL ob) (an (ag (hs.trans (by simp only [List.any_cons,c1,Bool.false_or]))))))
 ·rintro i hd hge hx e
  exact qK 6 [] U (ae (v':=.bool false) U (cb hge) (qO 3 U (hx _ rd)))
theorem B6 (h:HF) (l:List Int) (eE:Option Addr) (eD:Nat) (kl:Int) (hl:SlC Rp.int h eE eD l):Ret prog 237 [.slice eE l.length eD,I kl] h (.bool (iK l kl)):=by
 refine sT func237 U ntmps237 U fun X hM hX hF=>?_
 have hs0:iK l kl=iK l kl:=rfl
 refine qT 9 U ?_
 refine lp0 l (fun i=>[(0,.slice eE l.length eD),(1,I kl),(5,I (i:Int))]) ([]) (fun s1 i=>(iK.L1 kl (iK.K1)) s1) hl.1.1 hs0 ?_ ?_ ?_
 ·rintro i1 eR hs1 e
  exact sr (an (nretP [.bool false] (cs hs1)))
 ·rintro i1 y1 rz1 hd1 cz ar dF fF hs3 hx1 ag1 e
  refine qK 6 [] U (ae (v':=.bool true) U (cb cz) (qO 9 U (az (ef (enc:=fun y=>[I y]) ei cR ty3 hl.1 (nthZ ar) (au ar) U U U (fun q2 A2=>cL ty3 A2 U (qO 3 U (ac hs3 U (fun c2 hs4=>?_) (fun c2 hs5=>?_))))))))
  ·exact sr (an (nretP [.bool true] (cs hs4)))
  ·exact aG (qT 3 U (ae (v':=I (((i1+1):Nat):Int)) U (aL ob) (an (ag1 hs5))))
 ·rintro i1 hd1 eM hx e
  exact qK 6 [] U (ae (v':=.bool false) U (cb eM) (qO 3 U (hx _ rd)))
theorem ve (h:HF) (l:List Interest) (eE:Option Addr) (eD:Nat) (who:Int) (parties:List Int) (gd:Option Addr) (ga:Nat) (cD:Int) (known:Int) (hl:SlC Interest.rp h eE eD l) (hparties:SlC Rp.int h gd ga parties) (hsz:l.length≤2000000):iW prog 200 [.slice eE l.length eD,I who,.slice gd parties.length ga,I cD,I known] h (fun v h'=>∃ (rb0:Option Addr) (rc0:Nat),v=.tuple #[.slice rb0 ((br l who parties cD known).1).length rc0,.bool ((br l who parties cD known).2.1),I ((br l who parties cD known).2.2)]∧SlC Rp.int h' rb0 rc0 ((br l who parties cD known).1)):=by
 refine sT func200 U ntmps200 U fun X hM hX hF=>?_
 have hs0:br l who parties cD known=br l who parties cD known:=rfl
 have hall:=An l cD known
 refine qT 13 U (ah call234 (yK _ _ _ _ who _ _ _ cD known hl hparties) U (qO 8 U (ac hs0 U (fun c1 hs1=>?_) (fun c1 hs2=>?_))))
 ·refine qT 7 U ?_
  have hs3:br l who parties cD known=([],false,(gK l who parties cD known)):=hs1
  exact nretH [.slice none 0 0,.bool false,I (gK l who parties cD known)] ⟨none,0,congrArg (fun r:(List Int×Bool×Int)=>(.tuple #[.slice none r.1.length 0,.bool r.2.1,I r.2.2]:Value)) hs3.symm,(by rw [hs3];exact SlC.nil)⟩
 ·refine qT 6 U (az (cg call235 (vc _ _ _ _ cD known hl ob) U (fun v1 h1 hle1 hp1=>?_)))
  obtain ⟨rb1,rc1,rfl,sl1⟩:=hp1
  refine qO 4 U (az (iY wN ty270 (fun b1=>qO 7 U ?_)))
  obtain ⟨G1,gr1,ge1⟩:∃ G:LH,cJ dN.rp 270 h1 ([]) (some ⟨b1,0,none⟩) 0 G∧[(b1,O [] 270)]=G:=⟨_,cJ.lit (show aT dN.rp h1 [] ([]) from rfl) rfl,rfl⟩
  refine cS (L':=([])++([(b1,O [] 270)]++([]))) ap ?_
  rw [ge1]
  refine kA (List.Perm.append_left _ List.perm_append_comm) (cS (L':=G1) ap ?_)
  refine lp2 (cu l cD known) (fun i w=>[(1,I who),(2,.slice gd parties.length ga),(14,.slice rb1 ((cu l cD known).length) rc1),(15,.slice w.2.1 w.1.length w.2.2.1),(16,I (i:Int))]) (fun w=>w.2.2.2.2) (fun w=>w.2.2.2.1) (fun i w=>cJ dN.rp 270 w.2.2.2.2 w.1 w.2.1 w.2.2.1 w.2.2.2.1∧HF.le h1 w.2.2.2.2∧nL (cu l cD known) w.1) (fun s1 i w=>(br.L1 who (br.K1 l parties cD known)) s1 w.1) ([],(some ⟨b1,0,none⟩),0,G1,h1) sl1.1.1 hs2 ⟨gr1,lf,nL.nil⟩ ?_ ?_ ?_
  ·rintro i1 ⟨qc,zM,zL,wA,hh1⟩ eR hs4 ⟨wz,hl1,u1_0⟩ e
   try dsimp only at wz hl1 u1_0
   refine qT 5 U ?_
   refine ji (ι:=Nat×List dN×Option Addr×Nat×LH×HF) (fun i=>[]) (fun i=>i.2.2.2.2.2) (fun i=>i.2.2.2.2.1) (fun i=>br l who parties cD known=(br.K2) i.1 i.2.1∧cJ dN.rp 270 i.2.2.2.2.2 i.2.1 i.2.2.1 i.2.2.2.1 i.2.2.2.2.1∧HF.le hh1 i.2.2.2.2.2) ?_ (fun hx2=>?_)
   ·rintro ⟨i2,jZ,Cy,Cw,Cz,hh2⟩ ⟨hs5,nF,hl2⟩ e
    try dsimp only at nF hl2
    refine qT 6 U ?_
    have hs6:br l who parties cD known=([],false,0):=hs5
    exact nretH [.slice none 0 0,.bool false,I 0] ⟨none,0,congrArg (fun r:(List Int×Bool×Int)=>(.tuple #[.slice none r.1.length 0,.bool r.2.1,I r.2.2]:Value)) hs6.symm,(by rw [hs6];exact SlC.nil)⟩
   ·refine kT (ι:=Nat×List dN×Option Addr×Nat×LH×HF×Nat) (fun i=>[(2,.slice gd parties.length ga),(14,.slice rb1 ((cu l cD known).length) rc1),(15,.slice i.2.2.1 i.2.1.length i.2.2.2.1),(17,I (i.1:Int))]) (fun i=>i.2.2.2.2.2.1) (fun i=>i.2.2.2.2.1) (fun i=>br l who parties cD known=(br.L2 l parties cD known (br.K2)) i.2.2.2.2.2.2 i.1 i.2.1∧i.2.2.2.2.2.2+i.1=(l.length+1)∧cJ dN.rp 270 i.2.2.2.2.2.1 i.2.1 i.2.2.1 i.2.2.2.1 i.2.2.2.2.1∧HF.le hh1 i.2.2.2.2.2.1∧nL (cu l cD known) i.2.1) (fun i=>i.2.2.2.2.2.2) (0,qc,zM,zL,wA,hh1,(l.length+1)) rd sw ⟨hs4,U,wz,lf,ob⟩ ?_
    rintro ⟨i2,jZ,Cy,Cw,Cz,hh2,rz2⟩ ⟨hs7,hf2,nF,hl2,u2_0⟩ ag1 e
    try dsimp only at hf2 nF hl2 u2_0
    have hwl:=u2_0.len
    rcases Nat.lt_or_ge i2 jZ.length with tO | hge2p
    ·obtain ⟨rz2,rfl⟩:∃ q,rz2=q+1:=⟨rz2 - 1,by omega⟩
     have nE:decide ((i2:Int) < (jZ.length:Int))=true:=decide_eq_true ob
     have hs8:=hs7.trans (bt nE)
     refine qK 6 [] U (ae (v':=.bool true) U (cb nE) (qO 11 U ?_))
     have ho1:0≤((i2:Int):Int)∧((i2:Int):Int) < ((jZ).length:Int):=ob
     obtain ⟨bk1,hbk1⟩:=cJ.jD nF ob
     refine az (fy (mN (R:=dN.rp) (xs:=jZ) wN ty270 hbk1 ho1 rfl rfl rfl) (qL 1 [] rfl (az (fy (yZ (R:=dN.rp) (i:=((i2:Int):Int).toNat) (off:=1) ty3 nF hbk1 (bJ ho1) (fun cs hcs=>by obtain ⟨q,e1,_⟩:=hcs;rw [e1];rfl) rfl mh) (ah call237 (B6 _ _ _ _ ((nthI jZ (i2:Int)).To) (hparties.mono Rp.aW ((hle1.t hl1).t hl2))) rfl (aN (ac hs8 rfl (fun c2 hs9=>?_) (fun c2 hs10=>?_))))))))
     ·refine qT 4 U ?_
      have ho2:0≤((i2:Int):Int)∧((i2:Int):Int) < ((jZ).length:Int):=ob
      obtain ⟨bk2,hbk2⟩:=cJ.jD nF ob
      refine az (fy (mN (R:=dN.rp) (xs:=jZ) wN ty270 hbk2 ho2 U U U) (qL 1 [] U ?_))
      obtain ⟨_,⟨r1,rfl,ok1⟩,hi1⟩:=cJ.elem nF (bJ ho2)
      refine az (fy (za (off:=0) ty31 hi1 hbk2 U U mh) (qO 4 U ?_))
      have hs11:br l who parties cD known=((nthI jZ (i2:Int)).gT,true,0):=hs9
      exact nretH [.slice r1.Ai ((nthI jZ (i2:Int)).gT.length) r1.Ah,.bool true,I 0] ⟨r1.Ai,r1.Ah,congrArg (fun r:(List Int×Bool×Int)=>(.tuple #[.slice r1.Ai r.1.length r1.Ah,.bool r.2.1,I r.2.2]:Value)) hs11.symm,(by rw [hs11];exact ok1.gT)⟩
     ·refine qT 6 U ?_
      have ho3:0≤((i2:Int):Int)∧((i2:Int):Int) < ((jZ).length:Int):=ob
      obtain ⟨bk3,hbk3⟩:=cJ.jD nF ob
      refine az (fy (mN (R:=dN.rp) (xs:=jZ) wN ty270 hbk3 ho3 U U U) (qL 1 [] U ?_))
      obtain ⟨_,⟨r2,rfl,ok2⟩,hi2⟩:=cJ.elem nF (bJ ho3)
      refine az (fy (za (off:=0) ty31 hi2 hbk3 U U mh) (qL 3 [] U (ac hs10 U (fun c3 hs12=>?_) (fun c3 hs13=>?_))))
      ·exact jJ U (qT 2 U (ae (v':=I (((i2+1):Nat):Int)) U (aL ob) (an (ag1 ((i2+1),jZ,Cy,Cw,Cz,hh2,rz2) _ (Nat.lt_succ_self _) ⟨hs12,(by dsimp only;omega),nF,hl2,ob⟩ rd))))
      ·refine qT 5 U ?_
       refine lp2 (cu l cD known) (fun i w=>[(2,.slice gd parties.length ga),(14,.slice rb1 ((cu l cD known).length) rc1),(15,.slice w.2.1 w.1.length w.2.2.1),(17,I (i2:Int)),(18,I (i:Int))]) (fun w=>w.2.2.2.2) (fun w=>w.2.2.2.1) (fun i w=>cJ dN.rp 270 w.2.2.2.2 w.1 w.2.1 w.2.2.1 w.2.2.2.1∧HF.le hh2 w.2.2.2.2∧nL (cu l cD known) w.1∧i2 < w.1.length∧nthI w.1 (i2:Int)=nthI jZ (i2:Int)) (fun s3 i w=>(br.L3 i2 (fun zg3_15=>(br.L2 l parties cD known (br.K2) rz2 (i2+1) zg3_15))) s3 w.1) (jZ,Cy,Cw,Cz,hh2) ((sl1.mono Interest.ak (hl1.t hl2)).1.1) hs13 ⟨nF,lf,ob,ob,U⟩ ?_ ?_ ?_
       ·rintro i3 ⟨eS,m7,m6,eB,hh3⟩ uA hs14 ⟨j0,hl3,u3_0,u3_1,u3_2⟩ e
        try dsimp only at j0 hl3 u3_0 u3_1 u3_2
        exact e8 (qT 2 U (ae (v':=I (((i2+1):Nat):Int)) U (aL ob) (an (ag1 ((i2+1),eS,m7,m6,eB,hh3,rz2) _ (Nat.lt_succ_self _) ⟨hs14,(by dsimp only;omega),j0,(hl2.t hl3),ob⟩ rd))))
       ·rintro i3 ⟨eS,m7,m6,eB,hh3⟩ y3 rz3 hd3 uz hO zw E0 hs15 ⟨j0,hl3,u3_0,u3_1,u3_2⟩ hx3 ag2 e
        try dsimp only at j0 hl3 u3_0 u3_1 u3_2
        have hpl:(nthI eS (i2:Int)).gT.length≤7:=(by have q8:=nL.at u3_0 u3_1;rw [u3_2] at q8 ⊢;simp only [beq_eq_false_iff_ne] at *;omega)
        have hW3:=nL.put (x:=(dN.mk ((nthI eS (i2:Int)).gT++[y3.No]) y3.Party)) u3_0 (Bq (fA hd3)) lo
        have hN3:=Nat.lt_of_lt_of_le u3_1 (Df eS (dN.mk ((nthI eS (i2:Int)).gT++[y3.No]) y3.Party))
        have hR3:=(Bf (dN.mk ((nthI eS (i2:Int)).gT++[y3.No]) y3.Party) u3_1).trans u3_2
        have hL3:=u3_0.len
        refine qK 6 [] U (ae (v':=.bool true) U (cb uz) (qO 6 U ?_))
        refine jM [(2,.slice gd parties.length ga),(14,.slice rb1 ((cu l cD known).length) rc1),(15,.slice m7 eS.length m6),(17,I (i2:Int)),(18,I (i3:Int)),(116,.bool (y3.Of&&(y3.Person==(nthI eS (i2:Int)).To)))] (fun e=>?_) (fun hk1=>?_)
        rotate_left
        ·refine eA (eB) mixed kr jn (fun cI _=>?_)
         refine qA [0,1] U (cC 2 (enc:=Interest.cells) cI jn ei lT ty61 (sl1.mono Interest.ak ((hl1.t hl2).t hl3)).1 (nthZ hO) (au hO) U U U U kr (fun q5 A5=>qB [3] U (tf 4 U U (fun _ _ hj=>j4 5 ty4 (A5.mono hj.1) U U) (tm 5 U ?_))))
         refine ct 104 U (fun c4=>?_) (fun c4=>?_)
         ·refine qA [6,7] U (cC 8 (enc:=Interest.cells) cI jn ei lT ty61 (sl1.mono Interest.ak ((hl1.t hl2).t hl3)).1 (nthZ hO) (au hO) U U U U kr (fun q6 A6=>qB [9] U (tf 10 U U (fun _ _ hj=>j4 3 ty3 (A6.mono hj.1) U U) (qA [11,12] U ?_))))
          have ho5:0≤((i2:Int):Int)∧((i2:Int):Int) < ((eS).length:Int):=ob
          obtain ⟨bk5,hbk5⟩:=cJ.jD j0 ob
          exact tf 13 rfl rfl (fun _ _ _=>mN (R:=dN.rp) (xs:=eS) wN ty270 hbk5 ho5 rfl rfl rfl) (qB [14] rfl (tf 15 rfl rfl (fun _ _ hj=>yZ (R:=dN.rp) (i:=((i2:Int):Int).toNat) (off:=1) ty3 j0 hbk5 (bJ ho5) (fun cs hcs=>by obtain ⟨q,e1,_⟩:=hcs;rw [e1];rfl) rfl (mj hj)) (qA [16,17] rfl (aI kr (hk1 _ ⟨rfl,rfl,rfl,rfl,rfl,(cb (show (y3.Person==(nthI eS (i2:Int)).To)=(y3.Of&&(y3.Person==(nthI eS (i2:Int)).To)) from by rw [c4] <;> rfl)),trivial⟩)))))
         ·exact tk 6 U U (qR 7 11 U (aI kr (hk1 _ ⟨U,U,U,U,U,(cb (show false=(y3.Of&&(y3.Person==(nthI eS (i2:Int)).To)) from by rw [c4] <;> rfl)),trivial⟩)))
        refine ac hs15 U (fun c5 hs16=>?_) (fun c5 hs17=>?_)
        ·refine eA ([]) mixed kr jn (fun nK _=>?_)
         refine qA [0,2,3] U ?_
         have ho6:0≤((i2:Int):Int)∧((i2:Int):Int) < ((eS).length:Int):=ob
         obtain ⟨bk6,hbk6⟩:=cJ.jD j0 ob
         refine tf 4 U U (fun _ _ _=>mN (R:=dN.rp) (xs:=eS) wN ty270 hbk6 ho6 U U U) (qB [5,8,9] U (cC 10 (enc:=Interest.cells) nK jn ei lT ty61 (sl1.mono Interest.ak ((hl1.t hl2).t hl3)).1 (nthZ hO) (au hO) U U U U kr (fun q7 A7=>qB [11] U (tf 12 U U (fun _ _ hj=>eL ty3 (A7.mono hj.1) U) (qA [15,16] U (cC 17 (enc:=Interest.cells) nK jn ei lT ty61 (sl1.mono Interest.ak ((hl1.t hl2).t hl3)).1 (nthZ hO) (au hO) U U U U kr (fun q8 A8=>qB [18] U (tf 19 U U (fun _ _ hj=>j4 4 ty3 (A8.mono hj.1) U U) ?_))))))))
         refine C1 1 6 13 kr U U U ?_ ?_ ?_ 
         ·refine iY cR ty3 (fun b2=>⟨jn,?_⟩)
          refine ju 6 13 kr U U ?_ ?_ 
          ·obtain ⟨_,⟨r3,rfl,ok3⟩,hi3⟩:=cJ.elem j0 (bJ ho6)
           refine fy (za (off:=0) ty31 hi3 hbk6 U U mh) (⟨jn,?_⟩)
           refine ju 7 13 kr U U ?_ ?_ 
           ·exact bR Rp.dM ([]) (eB) (fun G=>eB++G) ap (fun _=>ap) cR ty3 zc3 U bytes3 (cJ.lit (show aT Rp.int hh3 [] ([]) from U) U) U U (fC ok3.gT.1) lo lo (fun ob1 oc1 G2 gr2=>⟨jn,(tn 13 U (bd (cells:=[I y3.No]) cR ty3 zc3 U U kr (fun b3=>⟨jn,(tn 14 U (bR Rp.dM ([(b3,O [I y3.No] 3)]++(eB)) ([]) (fun G=>[(b3,O [I y3.No] 3)]++(eB++G)) ap (fun _=>ap) cR ty3 zc3 U bytes3 gr2 U U (dr 0 U (show aT Rp.int hh3 [I y3.No] ([y3.No]) from ⟨[I y3.No],[],U,U,U,U⟩)) lo lo (fun ob2 oc2 G3 gr3=>⟨jn,(tn 20 U (em (cells:=[.slice ob2 (((nthI eS (i2:Int)).gT++[y3.No]).length) oc2,I y3.Party]) (places:=[(0,1),(1,1)]) wM zc270 kr kr (⟨jn,(tn 21 U (kg Rp.aW ([(b3,O [I y3.No] 3)]++(eB)) G3 ([]) ap hM gr3 (fun h2 hle2 sl2=>mH ([(b3,O [I y3.No] 3)]) eB ([]) (fun G=>[(b3,O [I y3.No] 3)]++G) wL (jw h2 eS m7 m6 eB (dN.mk ((nthI eS (i2:Int)).gT++[y3.No]) y3.Party) (lN.mk ob2 oc2) (j0.mono dN.ak hle2) (show dN.ok h2 (dN.mk ((nthI eS (i2:Int)).gT++[y3.No]) y3.Party) (lN.mk ob2 oc2) from ⟨sl2⟩) ob) ap (fun _=>ap) U (fun ob3 oc3 G4 gr4=>⟨⟨hle2,fun _ hp=>List.Sublist.subset js hp⟩,kV (K2:=[]) hle2 (fun _ hp=>hp) (qA [22] U (aI kr (qT 3 U (ae (v':=I (((i3+1):Nat):Int)) U (aL ob) (an (bY (L':=G4) js (ag2 ((rwPut eS (dN.mk ((nthI eS (i2:Int)).gT++[y3.No]) y3.Party)),ob3,oc3,G4,h2) hs16 ⟨gr4,(hl3.t hle2),ob,ob,ob⟩)))))))⟩))))⟩)))⟩)))⟩)))⟩)
           ·exact bd (cells:=[I y3.No]) cR ty3 zc3 U U kr (fun b4=>⟨jn,(tn 7 U (bR Rp.dM ([(b4,O [I y3.No] 3)]) (eB) (fun G=>[(b4,O [I y3.No] 3)]++(eB++G)) ap (fun _=>ap) cR ty3 zc3 U bytes3 (cJ.lit (show aT Rp.int hh3 [] ([]) from U) U) U U (fC ok3.gT.1) lo lo (fun ob4 oc4 G5 gr5=>⟨jn,(tn 14 U (bR Rp.dM ([(b4,O [I y3.No] 3)]++(eB)) ([]) (fun G=>[(b4,O [I y3.No] 3)]++(eB++G)) ap (fun _=>ap) cR ty3 zc3 U bytes3 gr5 U U (dr 0 U (show aT Rp.int hh3 [I y3.No] ([y3.No]) from ⟨[I y3.No],[],U,U,U,U⟩)) lo lo (fun ob5 oc5 G6 gr6=>⟨jn,(tn 20 U (em (cells:=[.slice ob5 (((nthI eS (i2:Int)).gT++[y3.No]).length) oc5,I y3.Party]) (places:=[(0,1),(1,1)]) wM zc270 kr kr (⟨jn,(tn 21 U (kg Rp.aW ([(b4,O [I y3.No] 3)]++(eB)) G6 ([]) ap hM gr6 (fun h3 hle3 sl3=>mH ([(b4,O [I y3.No] 3)]) eB ([]) (fun G=>[(b4,O [I y3.No] 3)]++G) wL (jw h3 eS m7 m6 eB (dN.mk ((nthI eS (i2:Int)).gT++[y3.No]) y3.Party) (lN.mk ob5 oc5) (j0.mono dN.ak hle3) (show dN.ok h3 (dN.mk ((nthI eS (i2:Int)).gT++[y3.No]) y3.Party) (lN.mk ob5 oc5) from ⟨sl3⟩) ob) ap (fun _=>ap) U (fun ob6 oc6 G7 gr7=>⟨⟨hle3,fun _ hp=>List.Sublist.subset js hp⟩,kV (K2:=[]) hle3 (fun _ hp=>hp) (qA [22] U (aI kr (qT 3 U (ae (v':=I (((i3+1):Nat):Int)) U (aL ob) (an (bY (L':=G7) js (ag2 ((rwPut eS (dN.mk ((nthI eS (i2:Int)).gT++[y3.No]) y3.Party)),ob6,oc6,G7,h3) hs16 ⟨gr7,(hl3.t hle3),ob,ob,ob⟩)))))))⟩))))⟩)))⟩)))⟩)))⟩)
          ·refine bd (cells:=[I y3.No]) cR ty3 zc3 U U kr (fun b5=>⟨jn,(tn 6 U ?_)⟩)
           obtain ⟨_,⟨r4,rfl,ok4⟩,hi4⟩:=cJ.elem j0 (bJ ho6)
           exact fy (za (off:=0) ty31 hi4 hbk6 U U mh) (⟨jn,tn 7 U (bR Rp.dM ([(b5,O [I y3.No] 3)]) (eB) (fun G=>[(b5,O [I y3.No] 3)]++(eB++G)) ap (fun _=>ap) cR ty3 zc3 U bytes3 (cJ.lit (show aT Rp.int hh3 [] ([]) from U) U) U U (fC ok4.gT.1) lo lo (fun ob7 oc7 G8 gr8=>⟨jn,(tn 14 U (bR Rp.dM ([(b5,O [I y3.No] 3)]++(eB)) ([]) (fun G=>[(b5,O [I y3.No] 3)]++(eB++G)) ap (fun _=>ap) cR ty3 zc3 U bytes3 gr8 U U (dr 0 U (show aT Rp.int hh3 [I y3.No] ([y3.No]) from ⟨[I y3.No],[],U,U,U,U⟩)) lo lo (fun ob8 oc8 G9 gr9=>⟨jn,(tn 20 U (em (cells:=[.slice ob8 (((nthI eS (i2:Int)).gT++[y3.No]).length) oc8,I y3.Party]) (places:=[(0,1),(1,1)]) wM zc270 kr kr (⟨jn,(tn 21 U (kg Rp.aW ([(b5,O [I y3.No] 3)]++(eB)) G9 ([]) ap hM gr9 (fun h4 hle4 sl4=>mH ([(b5,O [I y3.No] 3)]) eB ([]) (fun G=>[(b5,O [I y3.No] 3)]++G) wL (jw h4 eS m7 m6 eB (dN.mk ((nthI eS (i2:Int)).gT++[y3.No]) y3.Party) (lN.mk ob8 oc8) (j0.mono dN.ak hle4) (show dN.ok h4 (dN.mk ((nthI eS (i2:Int)).gT++[y3.No]) y3.Party) (lN.mk ob8 oc8) from ⟨sl4⟩) ob) ap (fun _=>ap) U (fun ob9 oc9 G10 gr10=>⟨⟨hle4,fun _ hp=>List.Sublist.subset js hp⟩,kV (K2:=[]) hle4 (fun _ hp=>hp) (qA [22] U (aI kr (qT 3 U (ae (v':=I (((i3+1):Nat):Int)) U (aL ob) (an (bY (L':=G10) js (ag2 ((rwPut eS (dN.mk ((nthI eS (i2:Int)).gT++[y3.No]) y3.Party)),ob9,oc9,G10,h4) hs16 ⟨gr10,(hl3.t hle4),ob,ob,ob⟩)))))))⟩))))⟩)))⟩)))⟩))⟩)
         ·obtain ⟨_,⟨r5,rfl,ok5⟩,hi5⟩:=cJ.elem j0 (bJ ho6)
          refine fy (za (off:=0) ty31 hi5 hbk6 U U mh) (⟨jn,?_⟩)
          refine ju 1 13 kr U U ?_ ?_ 
          ·refine iY cR ty3 (fun b6=>⟨jn,?_⟩)
           refine ju 7 13 kr U U ?_ ?_ 
           ·exact bR Rp.dM ([]) (eB) (fun G=>eB++G) ap (fun _=>ap) cR ty3 zc3 U bytes3 (cJ.lit (show aT Rp.int hh3 [] ([]) from U) U) U U (fC ok5.gT.1) lo lo (fun ob10 oc10 G11 gr11=>⟨jn,(tn 13 U (bd (cells:=[I y3.No]) cR ty3 zc3 U U kr (fun b7=>⟨jn,(tn 14 U (bR Rp.dM ([(b7,O [I y3.No] 3)]++(eB)) ([]) (fun G=>[(b7,O [I y3.No] 3)]++(eB++G)) ap (fun _=>ap) cR ty3 zc3 U bytes3 gr11 U U (dr 0 U (show aT Rp.int hh3 [I y3.No] ([y3.No]) from ⟨[I y3.No],[],U,U,U,U⟩)) lo lo (fun ob11 oc11 G12 gr12=>⟨jn,(tn 20 U (em (cells:=[.slice ob11 (((nthI eS (i2:Int)).gT++[y3.No]).length) oc11,I y3.Party]) (places:=[(0,1),(1,1)]) wM zc270 kr kr (⟨jn,(tn 21 U (kg Rp.aW ([(b7,O [I y3.No] 3)]++(eB)) G12 ([]) ap hM gr12 (fun h5 hle5 sl5=>mH ([(b7,O [I y3.No] 3)]) eB ([]) (fun G=>[(b7,O [I y3.No] 3)]++G) wL (jw h5 eS m7 m6 eB (dN.mk ((nthI eS (i2:Int)).gT++[y3.No]) y3.Party) (lN.mk ob11 oc11) (j0.mono dN.ak hle5) (show dN.ok h5 (dN.mk ((nthI eS (i2:Int)).gT++[y3.No]) y3.Party) (lN.mk ob11 oc11) from ⟨sl5⟩) ob) ap (fun _=>ap) U (fun ob12 oc12 G13 gr13=>⟨⟨hle5,fun _ hp=>List.Sublist.subset js hp⟩,kV (K2:=[]) hle5 (fun _ hp=>hp) (qA [22] U (aI kr (qT 3 U (ae (v':=I (((i3+1):Nat):Int)) U (aL ob) (an (bY (L':=G13) js (ag2 ((rwPut eS (dN.mk ((nthI eS (i2:Int)).gT++[y3.No]) y3.Party)),ob12,oc12,G13,h5) hs16 ⟨gr13,(hl3.t hle5),ob,ob,ob⟩)))))))⟩))))⟩)))⟩)))⟩)))⟩)
           ·exact bd (cells:=[I y3.No]) cR ty3 zc3 U U kr (fun b8=>⟨jn,(tn 7 U (bR Rp.dM ([(b8,O [I y3.No] 3)]) (eB) (fun G=>[(b8,O [I y3.No] 3)]++(eB++G)) ap (fun _=>ap) cR ty3 zc3 U bytes3 (cJ.lit (show aT Rp.int hh3 [] ([]) from U) U) U U (fC ok5.gT.1) lo lo (fun ob13 oc13 G14 gr14=>⟨jn,(tn 14 U (bR Rp.dM ([(b8,O [I y3.No] 3)]++(eB)) ([]) (fun G=>[(b8,O [I y3.No] 3)]++(eB++G)) ap (fun _=>ap) cR ty3 zc3 U bytes3 gr14 U U (dr 0 U (show aT Rp.int hh3 [I y3.No] ([y3.No]) from ⟨[I y3.No],[],U,U,U,U⟩)) lo lo (fun ob14 oc14 G15 gr15=>⟨jn,(tn 20 U (em (cells:=[.slice ob14 (((nthI eS (i2:Int)).gT++[y3.No]).length) oc14,I y3.Party]) (places:=[(0,1),(1,1)]) wM zc270 kr kr (⟨jn,(tn 21 U (kg Rp.aW ([(b8,O [I y3.No] 3)]++(eB)) G15 ([]) ap hM gr15 (fun h6 hle6 sl6=>mH ([(b8,O [I y3.No] 3)]) eB ([]) (fun G=>[(b8,O [I y3.No] 3)]++G) wL (jw h6 eS m7 m6 eB (dN.mk ((nthI eS (i2:Int)).gT++[y3.No]) y3.Party) (lN.mk ob14 oc14) (j0.mono dN.ak hle6) (show dN.ok h6 (dN.mk ((nthI eS (i2:Int)).gT++[y3.No]) y3.Party) (lN.mk ob14 oc14) from ⟨sl6⟩) ob) ap (fun _=>ap) U (fun ob15 oc15 G16 gr16=>⟨⟨hle6,fun _ hp=>List.Sublist.subset js hp⟩,kV (K2:=[]) hle6 (fun _ hp=>hp) (qA [22] U (aI kr (qT 3 U (ae (v':=I (((i3+1):Nat):Int)) U (aL ob) (an (bY (L':=G16) js (ag2 ((rwPut eS (dN.mk ((nthI eS (i2:Int)).gT++[y3.No]) y3.Party)),ob15,oc15,G16,h6) hs16 ⟨gr16,(hl3.t hle6),ob,ob,ob⟩)))))))⟩))))⟩)))⟩)))⟩)))⟩)
          ·exact bd (cells:=[I y3.No]) cR ty3 zc3 U U kr (fun b9=>⟨jn,(tn 1 U (iY cR ty3 (fun b10=>⟨jn,(tn 7 U (bR Rp.dM ([]) ([(b9,O [I y3.No] 3)]++(eB)) (fun G=>[(b9,O [I y3.No] 3)]++(eB++G)) ap (fun _=>ap) cR ty3 zc3 U bytes3 (cJ.lit (show aT Rp.int hh3 [] ([]) from U) U) U U (fC ok5.gT.1) lo lo (fun ob16 oc16 G17 gr17=>⟨jn,(tn 14 U (bR Rp.dM ([(b9,O [I y3.No] 3)]++(eB)) ([]) (fun G=>[(b9,O [I y3.No] 3)]++(eB++G)) ap (fun _=>ap) cR ty3 zc3 U bytes3 gr17 U U (dr 0 U (show aT Rp.int hh3 [I y3.No] ([y3.No]) from ⟨[I y3.No],[],U,U,U,U⟩)) lo lo (fun ob17 oc17 G18 gr18=>⟨jn,(tn 20 U (em (cells:=[.slice ob17 (((nthI eS (i2:Int)).gT++[y3.No]).length) oc17,I y3.Party]) (places:=[(0,1),(1,1)]) wM zc270 kr kr (⟨jn,(tn 21 U (kg Rp.aW ([(b9,O [I y3.No] 3)]++(eB)) G18 ([]) ap hM gr18 (fun h7 hle7 sl7=>mH ([(b9,O [I y3.No] 3)]) eB ([]) (fun G=>[(b9,O [I y3.No] 3)]++G) wL (jw h7 eS m7 m6 eB (dN.mk ((nthI eS (i2:Int)).gT++[y3.No]) y3.Party) (lN.mk ob17 oc17) (j0.mono dN.ak hle7) (show dN.ok h7 (dN.mk ((nthI eS (i2:Int)).gT++[y3.No]) y3.Party) (lN.mk ob17 oc17) from ⟨sl7⟩) ob) ap (fun _=>ap) U (fun ob18 oc18 G19 gr19=>⟨⟨hle7,fun _ hp=>List.Sublist.subset js hp⟩,kV (K2:=[]) hle7 (fun _ hp=>hp) (qA [22] U (aI kr (qT 3 U (ae (v':=I (((i3+1):Nat):Int)) U (aL ob) (an (bY (L':=G19) js (ag2 ((rwPut eS (dN.mk ((nthI eS (i2:Int)).gT++[y3.No]) y3.Party)),ob18,oc18,G19,h7) hs16 ⟨gr19,(hl3.t hle7),ob,ob,ob⟩)))))))⟩))))⟩)))⟩)))⟩)))⟩)))⟩)
         ·refine bd (cells:=[I y3.No]) cR ty3 zc3 U U kr (fun b11=>⟨jn,?_⟩)
          refine ju 1 6 kr U U ?_ ?_ 
          ·refine iY cR ty3 (fun b12=>⟨jn,(tn 6 U ?_)⟩)
           obtain ⟨_,⟨r6,rfl,ok6⟩,hi6⟩:=cJ.elem j0 (bJ ho6)
           exact fy (za (off:=0) ty31 hi6 hbk6 U U mh) (⟨jn,tn 7 U (bR Rp.dM ([]) ([(b11,O [I y3.No] 3)]++(eB)) (fun G=>[(b11,O [I y3.No] 3)]++(eB++G)) ap (fun _=>ap) cR ty3 zc3 U bytes3 (cJ.lit (show aT Rp.int hh3 [] ([]) from U) U) U U (fC ok6.gT.1) lo lo (fun ob19 oc19 G20 gr20=>⟨jn,(tn 14 U (bR Rp.dM ([(b11,O [I y3.No] 3)]++(eB)) ([]) (fun G=>[(b11,O [I y3.No] 3)]++(eB++G)) ap (fun _=>ap) cR ty3 zc3 U bytes3 gr20 U U (dr 0 U (show aT Rp.int hh3 [I y3.No] ([y3.No]) from ⟨[I y3.No],[],U,U,U,U⟩)) lo lo (fun ob20 oc20 G21 gr21=>⟨jn,(tn 20 U (em (cells:=[.slice ob20 (((nthI eS (i2:Int)).gT++[y3.No]).length) oc20,I y3.Party]) (places:=[(0,1),(1,1)]) wM zc270 kr kr (⟨jn,(tn 21 U (kg Rp.aW ([(b11,O [I y3.No] 3)]++(eB)) G21 ([]) ap hM gr21 (fun h8 hle8 sl8=>mH ([(b11,O [I y3.No] 3)]) eB ([]) (fun G=>[(b11,O [I y3.No] 3)]++G) wL (jw h8 eS m7 m6 eB (dN.mk ((nthI eS (i2:Int)).gT++[y3.No]) y3.Party) (lN.mk ob20 oc20) (j0.mono dN.ak hle8) (show dN.ok h8 (dN.mk ((nthI eS (i2:Int)).gT++[y3.No]) y3.Party) (lN.mk ob20 oc20) from ⟨sl8⟩) ob) ap (fun _=>ap) U (fun ob21 oc21 G22 gr22=>⟨⟨hle8,fun _ hp=>List.Sublist.subset js hp⟩,kV (K2:=[]) hle8 (fun _ hp=>hp) (qA [22] U (aI kr (qT 3 U (ae (v':=I (((i3+1):Nat):Int)) U (aL ob) (an (bY (L':=G22) js (ag2 ((rwPut eS (dN.mk ((nthI eS (i2:Int)).gT++[y3.No]) y3.Party)),ob21,oc21,G22,h8) hs16 ⟨gr22,(hl3.t hle8),ob,ob,ob⟩)))))))⟩))))⟩)))⟩)))⟩))⟩)
          ·obtain ⟨_,⟨r7,rfl,ok7⟩,hi7⟩:=cJ.elem j0 (bJ ho6)
           exact fy (za (off:=0) ty31 hi7 hbk6 U U mh) (⟨jn,tn 1 U (iY cR ty3 (fun b13=>⟨jn,(tn 7 U (bR Rp.dM ([]) ([(b11,O [I y3.No] 3)]++(eB)) (fun G=>[(b11,O [I y3.No] 3)]++(eB++G)) ap (fun _=>ap) cR ty3 zc3 U bytes3 (cJ.lit (show aT Rp.int hh3 [] ([]) from U) U) U U (fC ok7.gT.1) lo lo (fun ob22 oc22 G23 gr23=>⟨jn,(tn 14 U (bR Rp.dM ([(b11,O [I y3.No] 3)]++(eB)) ([]) (fun G=>[(b11,O [I y3.No] 3)]++(eB++G)) ap (fun _=>ap) cR ty3 zc3 U bytes3 gr23 U U (dr 0 U (show aT Rp.int hh3 [I y3.No] ([y3.No]) from ⟨[I y3.No],[],U,U,U,U⟩)) lo lo (fun ob23 oc23 G24 gr24=>⟨jn,(tn 20 U (em (cells:=[.slice ob23 (((nthI eS (i2:Int)).gT++[y3.No]).length) oc23,I y3.Party]) (places:=[(0,1),(1,1)]) wM zc270 kr kr (⟨jn,(tn 21 U (kg Rp.aW ([(b11,O [I y3.No] 3)]++(eB)) G24 ([]) ap hM gr24 (fun h9 hle9 sl9=>mH ([(b11,O [I y3.No] 3)]) eB ([]) (fun G=>[(b11,O [I y3.No] 3)]++G) wL (jw h9 eS m7 m6 eB (dN.mk ((nthI eS (i2:Int)).gT++[y3.No]) y3.Party) (lN.mk ob23 oc23) (j0.mono dN.ak hle9) (show dN.ok h9 (dN.mk ((nthI eS (i2:Int)).gT++[y3.No]) y3.Party) (lN.mk ob23 oc23) from ⟨sl9⟩) ob) ap (fun _=>ap) U (fun ob24 oc24 G25 gr25=>⟨⟨hle9,fun _ hp=>List.Sublist.subset js hp⟩,kV (K2:=[]) hle9 (fun _ hp=>hp) (qA [22] U (aI kr (qT 3 U (ae (v':=I (((i3+1):Nat):Int)) U (aL ob) (an (bY (L':=G25) js (ag2 ((rwPut eS (dN.mk ((nthI eS (i2:Int)).gT++[y3.No]) y3.Party)),ob24,oc24,G25,h9) hs16 ⟨gr25,(hl3.t hle9),ob,ob,ob⟩)))))))⟩))))⟩)))⟩)))⟩)))⟩))⟩)
        ·exact aG (qT 3 U (ae (v':=I (((i3+1):Nat):Int)) U (aL ob) (an (ag2 (eS,m7,m6,eB,hh3) hs17 ⟨j0,hl3,ob,ob,ob⟩))))
       ·rintro i3 ⟨eS,m7,m6,eB,hh3⟩ hd3 Cu hx e
        exact qK 6 [] U (ae (v':=.bool false) U (cb Cu) (qO 3 U (hx _ rd)))
    ·have xL:decide ((i2:Int) < (jZ.length:Int))=false:=decide_eq_false ob
     have hs8:br l who parties cD known=(br.K2) i2 jZ:=by cases rz2 with | zero=>exact hs7 | succ q=>exact hs7.trans (bf xL)
     exact qK 6 [] U (ae (v':=.bool false) U (cb xL) (qO 3 U (hx2 (i2,jZ,Cy,Cw,Cz,hh2) _ ⟨hs8,nF,hl2⟩ trivial)))
  ·rintro i1 ⟨qc,zM,zL,wA,hh1⟩ y1 rz1 hd1 cz ar dF fF hs18 ⟨wz,hl1,u1_0⟩ hx1 ag3 e
   try dsimp only at wz hl1 u1_0
   have hL1:=u1_0.len
   have hW1:=nL.put (x:=(dN.mk [y1.No] y1.Party)) u1_0 (Bq (fA hd1)) (by simp)
   refine qK 6 [] U (ae (v':=.bool true) U (cb cz) (qO 9 U (az (ef (enc:=Interest.cells) ei lT ty61 (sl1.mono Interest.ak hl1).1 (nthZ ar) (au ar) U U U (fun q9 A9=>qL 1 [] U (jm (j:=5) ty4 A9 U U (qO 2 U (bz 8 [45,46,47,48,49,50,51,52,53] 45 53 (y1.Person==who) U (fun c6 hk2=>?_) (fun e=>?_)))))))))
   ·exact aj (aj (az (ef (enc:=Interest.cells) ei lT ty61 (sl1.mono Interest.ak hl1).1 (nthZ ar) (au ar) U U U (fun q10 A10=>qL 1 [] U (jm (j:=3) ty3 A10 U U (qO 3 U (hk2 _ U)))))))
   refine aN (ac hs18 U (fun c7 hs19=>?_) (fun c7 hs20=>?_))
   ·refine eA ([]) mixed kr jn (fun zu _=>?_)
    refine qR 0 3 U (cC 3 (enc:=Interest.cells) zu jn ei lT ty61 (sl1.mono Interest.ak hl1).1 (nthZ ar) (au ar) U U U U kr (fun q11 A11=>qB [4] U (tf 5 U U (fun _ _ hj=>eL ty3 (A11.mono hj.1) U) (qA [7,8] U (cC 9 (enc:=Interest.cells) zu jn ei lT ty61 (sl1.mono Interest.ak hl1).1 (nthZ ar) (au ar) U U U U kr (fun q12 A12=>qB [10] U (tf 11 U U (fun _ _ hj=>j4 4 ty3 (A12.mono hj.1) U U) (tn 6 U (bd (cells:=[I y1.No]) cR ty3 zc3 U U kr (fun b14=>⟨jn,tn 12 U (em (cells:=[.slice (some ⟨b14,0,none⟩) 1 1,I y1.Party]) (places:=[(0,1),(1,1)]) wM zc270 kr kr (⟨jn,tn 13 U (Bc 0 U hM (fun h10 hle10 hb1=>?_))⟩))⟩))))))))))
    have sl10:SlC Rp.int h10 (some ⟨b14,0,none⟩) 1 ([y1.No]):=aT.slB0 (T:=3) (fz:=(0,0)) ((show aT Rp.int hh1 [I y1.No] ([y1.No]) from ⟨[I y1.No],[],rfl,rfl,rfl,rfl⟩).mono Rp.aW hle10) hb1
    exact mH ([]) wA ([]) (fun G=>G) wL (jw h10 qc zM zL wA (dN.mk ([y1.No]) y1.Party) (lN.mk (some ⟨b14,0,none⟩) 1) (wz.mono dN.ak hle10) (show dN.ok h10 (dN.mk ([y1.No]) y1.Party) (lN.mk (some ⟨b14,0,none⟩) 1) from ⟨sl10⟩) ob) ap (fun _=>ap) U (fun ob25 oc25 G26 gr26=>⟨⟨hle10,fun _ hp=>List.Sublist.subset (List.nil_sublist _) hp⟩,kV (K2:=[]) hle10 (fun _ hp=>hp) (qA [14] U (aI kr (qT 3 U (ae (v':=I (((i1+1):Nat):Int)) U (aL ob) (an (ag3 ((rwPut qc (dN.mk ([y1.No]) y1.Party)),ob25,oc25,G26,h10) hs19 ⟨gr26,(hl1.t hle10),ob⟩))))))⟩)
   ·exact aG (qT 3 U (ae (v':=I (((i1+1):Nat):Int)) U (aL ob) (an (ag3 (qc,zM,zL,wA,hh1) hs20 ⟨wz,hl1,ob⟩))))
  ·rintro i1 ⟨qc,zM,zL,wA,hh1⟩ hd1 eM hx e
   exact qK 6 [] U (ae (v':=.bool false) U (cb eM) (qO 3 U (hx _ rd)))
theorem Ap (h:HF) (aZ:Register) (dD:dR) (d:Document) (vP:gG) (who:List Int) (dA:Option Addr) (dz:Nat) (cD:Int) (known:Int) (gM:Register.ok h aZ dD) (hd:Document.ok h d vP) (hwho:SlC Rp.int h dA dz who) (hsi:aZ.Interests.length≤2000000) (hsw:who.length≤2000000):iW prog 123 [.agg (Register.cells aZ dD).toArray,.agg (Document.cells d vP).toArray,.slice dA who.length dz,I cD,I known] h (fun v h'=>∃ (rb0:Option Addr) (rc0:Nat),v=.slice rb0 (fu aZ d who cD known).length rc0∧SlC Rp.int h' rb0 rc0 (fu aZ d who cD known)):=by
 refine sT func123 U ntmps123 U fun X hM hX hF=>?_
 have hs0:fu aZ d who cD known=fu aZ d who cD known:=rfl
 refine sr (cy (fun b1=>cy (fun b2=>qO 4 U (az (iY cR ty3 (fun b3=>qO 7 U ?_))))))
 obtain ⟨G2,gr2,ge1⟩:∃ G:LH,cJ Rp.int 3 h ([]) (some ⟨b3,0,none⟩) 0 G∧[(b3,O [] 3)]=G:=⟨_,cJ.lit (show aT Rp.int h [] ([]) from rfl) rfl,rfl⟩
 let z1:Nat×Obj:=(b1,O (Register.cells aZ dD) 30)
 let z2:Nat×Obj:=(b2,O (Document.cells d vP) 52)
 refine cS (L':=([])++([(b3,O [] 3)]++([z2,z1]))) ap ?_
 rw [ge1]
 refine kA (List.Perm.append_left _ List.perm_append_comm) (cS (L':=[z2,z1]++G2) ap ?_)
 refine lp2 who (fun i w=>[(2,.slice dA who.length dz),(3,I cD),(4,I known),(5,Q b1),(6,Q b2),(11,.slice w.2.1 w.1.length w.2.2.1),(12,I (i:Int))]) (fun w=>w.2.2.2.2) (fun w=>[z2,z1]++(w.2.2.2.1)) (fun i w=>cJ Rp.int 3 w.2.2.2.2 w.1 w.2.1 w.2.2.1 w.2.2.2.1∧w.1.length≤0+i∧HF.le h w.2.2.2.2) (fun s1 i w=>(fu.L1 aZ d cD known (fu.K1)) s1 w.1) ([],(some ⟨b3,0,none⟩),0,G2,h) hwho.1.1 hs0 ⟨gr2,lo,lf⟩ ?_ ?_ ?_
 ·rintro i1 ⟨bI,iH,iG,j1,hh1⟩ eR hs1 ⟨ic,uB,hl1⟩ e
  try dsimp only at ic uB hl1
  refine qT 5 U (eK Rp.aW ([z2,z1]) j1 ([]) ap hM ic (fun h3 hle3 sl3=>?_))
  have hs2:fu aZ d who cD known=bI:=hs1
  exact nretH [.slice iH bI.length iG] ⟨iH,iG,congrArg (fun r:List Int=>(.slice iH r.length iG:Value)) hs2.symm,(by rw [hs2];exact sl3)⟩
 ·rintro i1 ⟨bI,iH,iG,j1,hh1⟩ y1 rz1 hd1 cz ar dF fF hs3 ⟨ic,uB,hl1⟩ hx1 ag1 e
  try dsimp only at ic uB hl1
  refine qK 6 [] U (ae (v':=.bool true) U (cb cz) (qO 6 U (eA ([z2,z1]) mixed kr jn (fun cI _=>qB [0] U (tf 1 U U (fun _ _ hj=>fw ty24 U (hj.nth (i:=1) U) U) (qA [2,3] U (cC 4 (enc:=fun y=>[I y]) cI jn ei cR ty3 (hwho.mono Rp.aW hl1).1 (nthZ ar) (au ar) U U U U kr (fun q3 A3=>tf 5 U U (fun _ _ hj=>eL ty3 (A3.mono hj.1) U) (qB [6] U (tf 7 U U (fun _ _ hj=>fw ty31 U (hj.nth (i:=0) U) U) (qA [8,9] U (tn 10 U (cg call200 (ve _ _ _ _ y1 _ _ _ cD known (gM.Interests.mono Interest.ak hl1) (hd.Parties.mono Rp.aW hl1) hsi) U (fun v2 h4 hle4 hp2=>?_))))))))))))))
  obtain ⟨rb2,rc2,rfl,sl4⟩:=hp2
  refine ⟨⟨hle4,fun _ hp=>List.Sublist.subset js hp⟩,kV (K2:=[z2,z1]) hle4 (fun _ hp=>hp) (qR 11 7 U (aI kr (qT 5 U (ac hs3 U (fun c2 hs4=>?_) (fun c2 hs5=>?_)))))⟩
  ·exact bh (qO 3 U (az (ef (enc:=fun y=>[I y]) ei cR ty3 (hwho.mono Rp.aW (hl1.t hle4)).1 (nthZ ar) (au ar) U U U (fun q4 A4=>cL ty3 A4 U (az (bd (cells:=[I y1]) cR ty3 zc3 U U kr (fun b5=>az (bR Rp.dM ([(b5,O [I y1] 3),z2,z1]) ([]) (fun G=>[(b5,O [I y1] 3),z2,z1]++G) ap (fun _=>ap) cR ty3 zc3 U bytes3 (ic.mono Rp.aW hle4) U U (dr 0 U (show aT Rp.int h4 [I y1] ([y1]) from ⟨[I y1],[],U,U,U,U⟩)) lo lo (fun ob2 oc2 G3 gr3=>qO 5 U (ae (v':=I (((i1+1):Nat):Int)) U (aL ob) (an (bY (L':=[z2,z1]++G3) js (ag1 ((bI++[y1]),ob2,oc2,G3,h4) hs4 ⟨gr3,lo,(hl1.t hle4)⟩)))))))))))))
  ·exact aG (qT 3 U (ae (v':=I (((i1+1):Nat):Int)) U (aL ob) (an (ag1 (bI,iH,iG,j1,h4) hs5 ⟨(ic.mono Rp.aW hle4),lo,(hl1.t hle4)⟩))))
 ·rintro i1 ⟨bI,iH,iG,j1,hh1⟩ hd1 eM hx e
  exact qK 6 [] U (ae (v':=.bool false) U (cb eM) (qO 3 U (hx _ rd)))
theorem yG (h:HF) (aZ:Register) (dD:dR) (p:Policy) (gq:dY) (d:Document) (vP:gG) (who:List Int) (dA:Option Addr) (dz:Nat) (mE:Int) (known:Int) (gM:Register.ok h aZ dD) (hp:Policy.ok h p gq) (hd:Document.ok h d vP) (hwho:SlC Rp.int h dA dz who) (hsm:smR aZ) (hsp:smP p) (hsw:who.length≤2000000) (hkr:p.Rules.length=p.Kinds.length) (htr:∀ y∈p.Rules,0≤y.Think∧y.Think≤1099511627775) (hod:(0≤d.At∧d.At≤1099511627776)∧0≤d.Kind):Ret prog 76 [.agg (Register.cells aZ dD).toArray,.agg (Policy.cells p gq).toArray,.agg (Document.cells d vP).toArray,.slice dA who.length dz,I mE,I known] h (.bool (eY aZ p d who mE known)):=by
 refine sT func76 U ntmps76 U fun X hM hX hF=>?_
 have hs0:eY aZ p d who mE known=eY aZ p d who mE known:=rfl
 have hofl:=hsp.2.2.2.1
 refine sr (cy (fun b1=>cy (fun b2=>cy (fun b3=>qO 4 U ?_))))
 refine jM [(3,.slice dA who.length dz),(4,I mE),(5,I known),(6,Q b1),(7,Q b2),(8,Q b3),(38,.bool (decide ((p.Kinds.length:Int)≤d.Kind)||decide (mE < (d.At+(nthI p.Rules d.Kind).Think))))] (fun e=>?_) (fun hk1=>?_)
 rotate_left
 ·refine eA ([(b3,O (Document.cells d vP) 52),(b2,O (Policy.cells p gq) 68),(b1,O (Register.cells aZ dD) 30)]) mixed kr jn (fun cI _=>?_)
  refine qB [0] U (tf 1 U U (fun _ _ hj=>fw ty3 U (hj.nth (i:=0) U) U) (qB [2] U (tf 3 U U (fun _ _ hj=>fw ty62 U (hj.nth (i:=1) U) U) (tf 4 U U (fun _ _ _=>Dm pK U) (qA [5,6] U ?_)))))
  refine ct 25 U (fun c1=>?_) (fun c1=>?_)
  ·have c1p:=of_decide_eq_true c1
   exact tk 7 U U (qR 8 12 U (aI kr (hk1 _ ⟨U,U,U,U,U,U,(cb (show true=(decide ((p.Kinds.length:Int)≤d.Kind)||decide (mE < (d.At+(nthI p.Rules d.Kind).Think))) from by rw [c1] <;> rfl)),trivial⟩)))
  ·have c1p:=of_decide_eq_false c1
   refine qB [7,8] U (tf 9 U U (fun _ _ hj=>fw ty3 U (hj.nth (i:=0) U) U) (qB [10] U (tf 11 U U (fun _ _ hj=>fw ty63 U (hj.nth (i:=1) U) U) (qB [12] U (tf 13 U U (fun _ _ hj=>fw ty3 U (hj.nth (i:=0) U) U) ?_)))))
   have ho1:0≤(d.Kind:Int)∧(d.Kind:Int) < ((p.Rules).length:Int):=ob
   refine gA 14 cI jn nO ty107 hp.Rules.1 ho1 (bJ ho1) U U U U kr (fun q1 cs1 A1 ln1 rr1=>?_)
   obtain ⟨r1,rfl,ok1⟩:=rr1
   exact tf 15 U U (fun _ _ _=>nn Ei U) (tf 16 U U (fun _ _ hj=>j4 2 ty3 (A1.mono hj.1) U U) (tf 17 U U (fun _ _ _=>kS (v':=I (d.At+(nthI p.Rules d.Kind).Think)) U (gz (by first | omega | (have hth:=htr _ (fm ob);omega)))) (qA [18,19] U (aI kr (hk1 _ ⟨U,U,U,U,U,U,(cb (show decide (mE < (d.At+(nthI p.Rules d.Kind).Think))=(decide ((p.Kinds.length:Int)≤d.Kind)||decide (mE < (d.At+(nthI p.Rules d.Kind).Think))) from by rw [c1] <;> rfl)),trivial⟩)))))
 refine ac hs0 U (fun c2 hs1=>?_) (fun c2 hs2=>?_)
 ·exact sr (an (nretP [.bool false] (cs hs1)))
 ·refine qT 3 U (az (iY tC ty101 (fun b4=>qO 7 U ?_)))
  obtain ⟨G2,gr2,ge1⟩:∃ G:LH,cJ (Rp.sl Holder.rp) 101 h ([]) (some ⟨b4,0,none⟩) 0 G∧[(b4,O [] 101)]=G:=⟨_,cJ.lit (show aT (Rp.sl Holder.rp) h [] ([]) from rfl) rfl,rfl⟩
  let z1:Nat×Obj:=(b1,O (Register.cells aZ dD) 30)
  let z2:Nat×Obj:=(b3,O (Document.cells d vP) 52)
  let z3:Nat×Obj:=(b2,O (Policy.cells p gq) 68)
  refine cS (L':=([])++([(b4,O [] 101)]++([z2,z3,z1]))) ap ?_
  rw [ge1]
  refine kA (List.Perm.append_left _ List.perm_append_comm) (cS (L':=[z2,z3,z1]++G2) ap ?_)
  refine lp2 p.Offices (fun i w=>[(3,.slice dA who.length dz),(4,I mE),(5,I known),(6,Q b1),(7,Q b2),(8,Q b3),(13,.slice w.2.1 w.1.length w.2.2.1),(14,I (i:Int))]) (fun w=>w.2.2.2.2) (fun w=>[z2,z3,z1]++(w.2.2.2.1)) (fun i w=>cJ (Rp.sl Holder.rp) 101 w.2.2.2.2 w.1 w.2.1 w.2.2.1 w.2.2.2.1∧w.1.length≤0+i∧HF.le h w.2.2.2.2∧(∀ y∈w.1,y.length≤2000000)) (fun s1 i w=>(eY.L1 aZ mE known (eY.K1 aZ p d who mE known)) s1 i w.1) ([],(some ⟨b4,0,none⟩),0,G2,h) hp.Offices.1.1 hs2 ⟨gr2,lo,lf,(fun y hy=>(List.not_mem_nil hy).elim)⟩ ?_ ?_ ?_
  ·rintro i1 ⟨tT,Iv,Iu,E4,hh1⟩ eR hs4 ⟨zO,E3,hl1,u1_0⟩ e
   try dsimp only at zO E3 hl1 u1_0
   refine dB (eA ([z2,z3,z1]) mixed kr jn (fun nK _=>tf 0 U U (fun _ _ hj=>jA ty68 U (hj.nth (i:=1) U) U) (qB [1] U (tf 2 U U (fun _ _ hj=>fw ty3 U (hj.nth (i:=0) U) U) (qB [3] U (tf 4 U U (fun _ _ hj=>fw ty3 U (hj.nth (i:=0) U) U) (tm 5 U (tf 6 U U (fun _ _ hj=>jA ty30 U (hj.nth (i:=2) U) U) (tf 7 U U (fun _ _ hj=>jA ty52 U (hj.nth (i:=0) U) U) (qR 8 3 U (tn 11 U (cg call123 (Ap _ _ _ _ _ _ _ _ mE known (gM.mono hl1) (hd.mono hl1) (hwho.mono Rp.aW hl1) hsm.2.2.2.1 hsw) U (fun v3 h4 hle4 hp3=>?_)))))))))))))
   obtain ⟨rb3,rc3,rfl,sl4⟩:=hp3
   exact ⟨jl hle4,tu hle4 (tn 12 U (kg (Rp.nP Holder.ak) ([z2,z3,z1]) E4 ([]) ap hM (zO.mono (Rp.nP Holder.ak) hle4) (fun h5 hle5 sl5=>eO call122 (vX _ _ _ d.Kind d.Value _ _ _ _ _ _ (hp.mono ((hl1.t hle4).t hle5)) sl5 (sl4.mono Rp.aW hle5) hsp u1_0 (Nat.le_trans (E6 _ _ _ _ _) hsw)) U (⟨⟨hle5,fun _ hp=>List.Sublist.subset (List.Sublist.refl _) hp⟩,kV (K2:=[z2,z3,z1]) hle5 (fun _ hp=>hp) (qR 13 5 U (aI kr (qT 5 U (nretP [.bool ((fK p d.Kind d.Value tT (fu aZ d who mE known)).1)] (cs hs4)))))⟩))))⟩
  ·rintro i1 ⟨tT,Iv,Iu,E4,hh1⟩ y1 rz1 hd1 cz ar dF fF hs6 ⟨zO,E3,hl1,u1_0⟩ hx1 ag1 e
   try dsimp only at zO E3 hl1 u1_0
   refine qK 7 [1] U (ae (v':=.bool true) U (cb cz) (qL 12 [2] U (az (cg call78 (wd _ _ _ _ (i1:Int) mE known (gM.Appoints.mono Appoint.ak hl1)) U (fun v4 h6 hle6 hp4=>?_)))))
   obtain ⟨rb4,rc4,rfl,sl6⟩:=hp4
   refine qO 9 U (az (bd (cells:=[.slice rb4 (((bS aZ.Appoints (i1:Int) mE known).1).length) rc4]) tC ty101 zc101 U U kr (fun b6=>?_)))
   let z4:Nat×Obj:=(b6,O [.slice rb4 (((bS aZ.Appoints (i1:Int) mE known).1).length) rc4] 101)
   exact az (bR (Rp.FG Holder.ak) ([z4,z2,z3,z1]) ([]) (fun G=>[z4,z2,z3,z1]++G) ap (fun _=>ap) tC ty101 zc101 U bytes101 (zO.mono (Rp.nP Holder.ak) hle6) U U (dr 0 U (show aT (Rp.sl Holder.rp) h6 [.slice rb4 (((bS aZ.Appoints (i1:Int) mE known).1).length) rc4] ([(bS aZ.Appoints (i1:Int) mE known).1]) from ⟨[.slice rb4 (((bS aZ.Appoints (i1:Int) mE known).1).length) rc4],[],U,U,⟨rb4,rc4,U,sl6⟩,U⟩)) lo lo (fun ob2 oc2 G3 gr3=>qO 5 U (ae (v':=I (((i1+1):Nat):Int)) U (aL (by first | omega | (have hth:=htr _ (fm ob);omega))) (an (bY (L':=[z2,z3,z1]++G3) js (ag1 ((tT++[(bS aZ.Appoints (i1:Int) mE known).1]),ob2,oc2,G3,h6) hs6 ⟨gr3,lo,(hl1.t hle6),(fun y hy=>(List.mem_append.1 hy).elim (u1_0 y) (fun hy=>by rw [List.mem_singleton.1 hy];exact Nat.le_trans (Cd _ _ _ _) (by decide)))⟩))))))
  ·rintro i1 ⟨tT,Iv,Iu,E4,hh1⟩ hd1 eM hx e
   exact qK 7 [1] U (ae (v':=.bool false) U (cb eM) (qO 3 U (hx _ rd)))
theorem yO (h:HF) (mode:Int) (permits:List Bool) (gC:Option Addr) (gB:Nat) (hpermits:SlC Rp.bool h gC gB permits):Ret prog 124 [I mode,.slice gC permits.length gB] h (I (jV mode permits)):=by
 refine sT func124 U ntmps124 U fun X hM hX hF=>?_
 have hs0:jV mode permits=jV mode permits:=rfl
 refine qT 10 U (cf 3 [7,8,9,10] 7 10 (decide (4 < mode)) U (fun c1 hk1=>?_) (fun e=>?_))
 ·exact aj (qO 2 U (hk1 _ U))
 refine aN (ac hs0 U (fun c2 hs1=>?_) (fun c2 hs2=>?_))
 ·exact sr (an (nretP [I 270] (ci hs1)))
 ·refine qK 8 [] U (ac hs2 U (fun c3 hs4=>?_) (fun c3 hs5=>?_))
  ·have c3p:=of_decide_eq_true c3
   exact sr (an (nretP [I 1] (ci hs4)))
  ·have c3p:=of_decide_eq_false c3
   exact aG (qT 4 U (nretP [I 0] (ci hs5)))
theorem rP (h:HF) (permits:List Bool) (gC:Option Addr) (gB:Nat) (so:Bool) (hpermits:SlC Rp.bool h gC gB permits):Ret prog 201 [.slice gC permits.length gB,.bool so] h (I (eG permits so)):=by
 refine sT func201 U ntmps201 U fun X hM hX hF=>?_
 have hs0:eG permits so=eG permits so:=rfl
 refine qT 9 U ?_
 refine lp0 permits (fun i=>[(0,.slice gC permits.length gB),(1,.bool so),(5,I (i:Int))]) ([]) (fun s1 i=>(eG.L1 so (eG.K1)) s1 i) hpermits.1.1 hs0 ?_ ?_ ?_
 ·rintro i1 eR hs1 e
  exact sr (an (nretP [I (-1)] (ci hs1)))
 ·rintro i1 y1 rz1 hd1 cz ar dF fF hs3 hx1 ag1 e
  refine qK 6 [] U (ae (v':=.bool true) U (cb cz) (qO 9 U (az (ef (enc:=fun y=>[.bool y]) ei tB ty4 hpermits.1 (nthZ ar) (au ar) U U U (fun q2 A2=>cL ty4 A2 U (aj (az (fy (Jz Kz U U) (aN (ac hs3 U (fun c2 hs4=>?_) (fun c2 hs5=>?_)))))))))))
  ·exact sr (qO 3 U (nretP [I (i1:Int)] (ci hs4)))
  ·exact aG (qT 3 U (ae (v':=I (((i1+1):Nat):Int)) U (aL ob) (an (ag1 hs5))))
 ·rintro i1 hd1 eM hx e
  exact qK 6 [] U (ae (v':=.bool false) U (cb eM) (qO 3 U (hx _ rd)))
theorem vf (h:HF) (mode:Int) (permits:List Bool) (gC:Option Addr) (gB:Nat) (hpermits:SlC Rp.bool h gC gB permits):Ret prog 125 [I mode,.slice gC permits.length gB] h (.bool (jG mode permits)):=by
 refine sT func125 U ntmps125 U fun X hM hX hF=>?_
 have hs0:jG mode permits=jG mode permits:=rfl
 refine qT 15 U (ac hs0 U (fun c1 hs1=>?_) (fun c1 hs2=>?_))
 ·refine qK 6 [] U (bz 4 [11,12,13,14,15] 11 15 (decide ((eG permits false) < 0)) U (fun c2 hk1=>?_) (fun e=>?_))
  ·exact aj (ah call201 (rP _ _ _ _ false hpermits) U (qO 2 U (hk1 _ U)))
  exact an (nretP [.bool (decide (0 < (permits.length:Int))&&decide ((eG permits false) < 0))] (cs hs1))
 ·refine qT 5 U (ac hs2 U (fun c3 hs4=>?_) (fun c3 hs5=>?_))
  ·exact sr (aj (ah call201 (rP _ _ _ _ true hpermits) U (qO 3 U (nretP [.bool (decide (0≤(eG permits true)))] (cs hs4)))))
  ·refine qK 8 [] U (bz 4 [24,25,26,27,28] 24 28 (nthI permits 0) U (fun c4 hk2=>?_) (fun e=>?_))
   ·refine aj ?_
    have ho1:0≤(0:Int)∧(0:Int) < ((permits).length:Int):=(by have hq:=eq_of_beq (by assumption:(((permits).length:Int)==1)=true);omega)
    exact az (ef (enc:=fun y=>[.bool y]) ei tB ty4 hpermits.1 ho1 (bJ ho1) U U U (fun q1 A1=>cL ty4 A1 U (ew U (hk2 _ U))))
   exact an (nretP [.bool (((permits.length:Int)==1)&&(nthI permits 0))] (cs hs5))
theorem xC (h:HF) (mode:Int) (permits:List Bool) (gC:Option Addr) (gB:Nat) (hpermits:SlC Rp.bool h gC gB permits):Ret prog 77 [I mode,.slice gC permits.length gB] h (.tuple #[.bool ((iB mode permits).1),I ((iB mode permits).2)]):=by
 refine sT func77 U ntmps77 U fun X hM hX hF=>?_
 have hs0:iB mode permits=iB mode permits:=rfl
 refine qT 9 U (ah call124 (yO _ mode _ _ _ hpermits) U (qO 8 U (ac hs0 U (fun c1 hs1=>?_) (fun c1 hs2=>?_))))
 ·refine qT 6 U ?_
  have hs3:iB mode permits=(false,(jV mode permits)):=hs1
  exact nretP [.bool false,I (jV mode permits)] (congrArg (fun r:(Bool×Int)=>(.tuple #[.bool r.1,I r.2]:Value)) hs3.symm)
 ·refine qT 5 U (ah call125 (vf _ mode _ _ _ hpermits) U (qO 3 U ?_))
  have hs4:iB mode permits=((jG mode permits),0):=hs2
  exact nretP [.bool (jG mode permits),I 0] (congrArg (fun r:(Bool×Int)=>(.tuple #[.bool r.1,I r.2]:Value)) hs4.symm)
theorem rL (h:HF) (aZ:Register) (dD:dR) (d:Document) (vP:gG) (who:List Int) (dA:Option Addr) (dz:Nat) (cD:Int) (known:Int) (gM:Register.ok h aZ dD) (hd:Document.ok h d vP) (hwho:SlC Rp.int h dA dz who) (hsm:smR aZ) (hgv:px aZ.Versions) (hsw:who.length≤2000000) (hod:(0≤d.At∧d.At≤1099511627776)∧0≤d.Kind):Ret prog 35 [.agg (Register.cells aZ dD).toArray,.agg (Document.cells d vP).toArray,.slice dA who.length dz,I cD,I known] h (.bool (gp aZ d who cD known)):=by
 refine sT func35 U ntmps35 U fun X hM hX hF=>?_
 have hs0:gp aZ d who cD known=gp aZ d who cD known:=rfl
 have hJl:=Do aZ.Versions d.At cD known
 have hvl:=hgv.len
 refine sr (cy (fun b1=>cy (fun b2=>qL 10 [0] U (cf 5 [22,23,24,25,26,27] 22 27 (decide (d.Until≤cD)) U (fun c1 hk1=>?_) (fun e=>?_)))))
 ·exact qL 5 [0] U (hk1 _ U)
 refine aN (ac hs0 U (fun c2 hs1=>?_) (fun c2 hs2=>?_))
 ·exact sr (an (nretP [.bool false] (cs hs1)))
 ·refine qK 9 [1,0] U (az (cg call75 (xB _ _ _ _ d.At cD known gM.Versions hsm.vers) U (fun v1 h1 hle1 hp1=>?_)))
  obtain ⟨rb1,rc1,rfl,sl1⟩:=hp1
  refine qO 10 U (az (iY tB ty4 (fun b3=>qO 7 U ?_)))
  obtain ⟨G2,gr2,ge1⟩:∃ G:LH,cJ Rp.bool 4 h1 ([]) (some ⟨b3,0,none⟩) 0 G∧[(b3,O [] 4)]=G:=⟨_,cJ.lit (show aT Rp.bool h1 [] ([]) from rfl) rfl,rfl⟩
  let z1:Nat×Obj:=(b1,O (Register.cells aZ dD) 30)
  let z2:Nat×Obj:=(b2,O (Document.cells d vP) 52)
  refine cS (L':=([])++([(b3,O [] 4)]++([z2,z1]))) ap ?_
  rw [ge1]
  refine kA (List.Perm.append_left _ List.perm_append_comm) (cS (L':=[z2,z1]++G2) ap ?_)
  refine lp2 ((dJ aZ.Versions d.At cD known).1) (fun i w=>[(2,.slice dA who.length dz),(3,I cD),(4,I known),(5,Q b1),(6,Q b2),(11,.slice rb1 (((dJ aZ.Versions d.At cD known).1).length) rc1),(12,I ((dJ aZ.Versions d.At cD known).2.1)),(14,.slice w.2.1 w.1.length w.2.2.1),(15,I (i:Int))]) (fun w=>w.2.2.2.2) (fun w=>[z2,z1]++(w.2.2.2.1)) (fun i w=>cJ Rp.bool 4 w.2.2.2.2 w.1 w.2.1 w.2.2.1 w.2.2.2.1∧w.1.length≤0+i∧HF.le h1 w.2.2.2.2) (fun s1 i w=>(gp.L1 aZ d who cD known (gp.K1 aZ d cD known)) s1 w.1) ([],(some ⟨b3,0,none⟩),0,G2,h1) sl1.1.1 hs2 ⟨gr2,lo,lf⟩ ?_ ?_ ?_
  ·rintro i1 ⟨tR,It,Is,E2,hh1⟩ eR hs4 ⟨zN,E1,hl1⟩ e
   try dsimp only at zN E1 hl1
   exact sr (qO 2 U (oc Rp.qe ([z2,z1]) E2 ([]) ap hM zN (fun h4 hle4 sl3=>ah call77 (xC _ ((dJ aZ.Versions d.At cD known).2.1) _ _ _ sl3) U (qO 11 U (nretP [.bool ((iB ((dJ aZ.Versions d.At cD known).2.1) tR).1)] (cs hs4))))))
  ·rintro i1 ⟨tR,It,Is,E2,hh1⟩ y1 rz1 hd1 cz ar dF fF hs6 ⟨zN,E1,hl1⟩ hx1 ag1 e
   try dsimp only at zN E1 hl1
   refine qK 6 [] U (ae (v':=.bool true) U (cb cz) (qO 5 U (eA ([z2,z1]) mixed kr jn (fun cI _=>tm 0 U (tf 1 U U (fun _ _ hj=>jA ty30 U (hj.nth (i:=1) U) U) (tf 2 U U (fun _ _ hj=>jA ty30 U (hj.nth (i:=1) U) U) (qA [3,4] U (cC 5 (enc:=fun y=>[I y]) cI jn ei cR ty3 (sl1.mono Rp.aW hl1).1 (nthZ ar) (au ar) U U U U kr (fun q2 A2=>tf 6 U U (fun _ _ hj=>eL ty3 (A2.mono hj.1) U) (tf 9 U U (fun _ _ hj=>jA ty52 U (hj.nth (i:=0) U) U) (qR 10 3 U (tn 7 U (cg call46 (vT _ _ _ y1 (gM.mono (hle1.t hl1))) U (fun v3 h5 hle5 hp3=>?_))))))))))))))
   obtain ⟨rr2,rfl,ok2⟩:=hp3
   refine ⟨⟨hle5,fun _ hp=>List.Sublist.subset js hp⟩,kV (K2:=[z2,z1]) hle5 (fun _ hp=>hp) (tf 8 U U (fun _ _ _=>HM Jr ty68 U U) (tn 13 U (eO call76 (yG _ _ _ _ _ _ _ _ _ _ cD known (gM.mono ((hle1.t hl1).t hle5)) ok2.Policy (hd.mono ((hle1.t hl1).t hle5)) (hwho.mono Rp.aW ((hle1.t hl1).t hle5)) hsm (Ao hsm _) hsw (DP hgv _) (EO hgv.okV _) hod) U (⟨jn,tn 14 U (bd (cells:=[.bool (eY aZ ((bM aZ y1).Policy) d who cD known)]) tB ty4 zc4 U U kr (fun b5=>⟨jn,?_⟩))⟩))))⟩
   let z3:Nat×Obj:=(b5,O [.bool (eY aZ ((bM aZ y1).Policy) d who cD known)] 4)
   exact tn 15 U (bR Rp.wG ([z3,z2,z1]) ([]) (fun G=>[z3,z2,z1]++G) ap (fun _=>ap) tB ty4 zc4 U bytes4 (zN.mono Rp.qe hle5) U U (dr 0 U (show aT Rp.bool h5 [.bool (eY aZ ((bM aZ y1).Policy) d who cD known)] ([(eY aZ ((bM aZ y1).Policy) d who cD known)]) from ⟨[.bool (eY aZ ((bM aZ y1).Policy) d who cD known)],[],U,U,U,U⟩)) lo lo (fun ob2 oc2 G3 gr3=>⟨jn,qA [16] U (aI kr (qT 3 U (ae (v':=I (((i1+1):Nat):Int)) U (aL ob) (an (bY (L':=[z2,z1]++G3) js (ag1 ((tR++[(eY aZ ((bM aZ y1).Policy) d who cD known)]),ob2,oc2,G3,h5) hs6 ⟨gr3,lo,(hl1.t hle5)⟩))))))⟩))
  ·rintro i1 ⟨tR,It,Is,E2,hh1⟩ hd1 eM hx e
   exact qK 6 [] U (ae (v':=.bool false) U (cb eM) (qO 3 U (hx _ rd)))
theorem yH (h:HF) (aZ:Register) (dD:dR) (doc:Int) (who:List Int) (dA:Option Addr) (dz:Nat) (known:Int) (gM:Register.ok h aZ dD) (hwho:SlC Rp.int h dA dz who) (hsm:smR aZ) (hsw:who.length≤2000000):iW prog 11 [.agg (Register.cells aZ dD).toArray,I doc,.slice dA who.length dz,I known] h (fun v h'=>∃ (rb0:Option Addr) (rc0:Nat),v=.tuple #[.slice rb0 ((dx aZ doc who known).1).length rc0,I ((dx aZ doc who known).2)]∧SlC Span.rp h' rb0 rc0 ((dx aZ doc who known).1)):=by
 refine sT func11 U ntmps11 U fun X hM hX hF=>?_
 have hs0:dx aZ doc who known=dx aZ doc who known:=rfl
 refine sr (cy (fun b1=>qO 6 U (cM 0 ty30 U U U (ah call31 (yI _ _ _ gM ob) U (qO 2 U (ac hs0 U (fun c1 hs1=>?_) (fun c1 hs2=>?_)))))))
 ·refine qT 5 U ?_
  have hs3:dx aZ doc who known=([],300):=hs1
  exact nretH [.slice none 0 0,I 300] ⟨none,0,congrArg (fun r:(List Span×Int)=>(.tuple #[.slice none r.1.length 0,I r.2]:Value)) hs3.symm,(by rw [hs3];exact SlC.nil)⟩
 ·refine qT 3 U (cM 0 ty30 U U U (aj (ah call19 (B5 _ _ _ doc gM) U (qO 8 U (cf 4 [24,25,26,27,28] 24 28 (!(df who)) U (fun c2 hk1=>?_) (fun e=>?_))))))
  ·exact aj (ah call32 (qZ _ _ _ _ hwho) U (qO 2 U (hk1 _ U)))
  refine aj (cf 4 [29,30,31,32,33] 29 33 (!(cn known)) U (fun c3 hk2=>?_) (fun e=>?_))
  ·exact aj (ah wO (i6 h known) U (qO 2 U (hk2 _ U)))
  refine aN (ac hs2 U (fun c4 hs4=>?_) (fun c4 hs5=>?_))
  ·refine qT 5 U ?_
   have hs6:dx aZ doc who known=([],1):=hs4
   exact nretH [.slice none 0 0,I 1] ⟨none,0,congrArg (fun r:(List Span×Int)=>(.tuple #[.slice none r.1.length 0,I r.2]:Value)) hs6.symm,(by rw [hs6];exact SlC.nil)⟩
  ·refine qT 3 U (az (iY rG ty46 (fun b2=>qO 3 U ?_)))
   let z1:Nat×Obj:=(b1,O (Register.cells aZ dD) 30)
   refine eA ([(b2,O [] 46),z1]) mixed kr jn (fun cI _=>?_)
   refine tf 0 U U (fun _ _ hj=>jA ty30 U (hj.nth (i:=1) U) U) (qB [1] U (tf 2 U U (fun _ _ hj=>fw ty27 U (hj.nth (i:=1) U) U) (tm 3 U ?_)))
   have ho1:0≤((bp aZ doc):Int)∧((bp aZ doc):Int) < ((aZ.Docs).length:Int):=(by have hq:=pj (r:=aZ) (no:=doc) ob;simp only [decide_eq_true_eq,decide_eq_false_iff_not,Bool.and_eq_true,Bool.or_eq_true,Bool.not_eq_true',Bool.not_eq_false',Bool.and_eq_false_iff,Bool.or_eq_false_iff,beq_iff_eq,beq_eq_false_iff_ne,bne_iff_ne,bne_eq_false_iff_eq,List.length_append,List.length_cons,List.length_nil,List.length_drop] at *;omega)
   refine gA 4 cI jn pz ty52 gM.Docs.1 ho1 (bJ ho1) U U U U kr (fun q1 cs1 A1 ln1 rr1=>?_)
   obtain ⟨r1,rfl,ok1⟩:=rr1
   refine tf 5 U U (fun _ _ hj=>iQ ty52 (A1.mono hj.1) U U) (tn 6 U (cg call34 (vU _ _ _ _ _ gM ok1 (few9 hsm (by simpa using c1)).lens (few9 hsm (by simpa using c1)).vers.okV ((few9 hsm (by simpa using c1)).doc (by have hq:=pj (r:=aZ) (no:=doc) ob;simp only [decide_eq_true_eq,decide_eq_false_iff_not,Bool.and_eq_true,Bool.or_eq_true,Bool.not_eq_true',Bool.not_eq_false',Bool.and_eq_false_iff,Bool.or_eq_false_iff,beq_iff_eq,beq_eq_false_iff_ne,bne_iff_ne,bne_eq_false_iff_eq,List.length_append,List.length_cons,List.length_nil,List.length_drop] at *;omega))) U (fun v1 h1 hle1 hp1=>?_)))
   obtain ⟨rb1,rc1,rfl,sl1⟩:=hp1
   refine ⟨⟨hle1,fun _ hp=>List.Sublist.subset (List.Sublist.refl _) hp⟩,kV (K2:=[(b2,O [] 46),z1]) hle1 (fun _ hp=>hp) (qA [7] U (aI kr (qT 5 U ?_)))⟩
   obtain ⟨G1,gr1,ge1⟩:∃ G:LH,cJ Span.rp 46 h1 ([]) (some ⟨b2,0,none⟩) 0 G∧[(b2,O [] 46)]=G:=⟨_,cJ.lit (show aT Span.rp h1 [] ([]) from rfl) rfl,rfl⟩
   refine cS (L':=([])++([(b2,O [] 46)]++([z1]))) ap ?_
   rw [ge1]
   refine kA (List.Perm.append_left _ List.perm_append_comm) (cS (L':=[z1]++G1) ap ?_)
   refine lp2 (aD aZ (nthI aZ.Docs (bp aZ doc))) (fun i w=>[(2,.slice dA who.length dz),(3,I known),(4,Q b1),(10,I (bp aZ doc)),(11,.slice w.2.1 w.1.length w.2.2.1),(12,.slice rb1 ((aD aZ (nthI aZ.Docs (bp aZ doc))).length) rc1),(13,I (i:Int))]) (fun _=>h1) (fun w=>[z1]++(w.2.2.2)) (fun i w=>cJ Span.rp 46 h1 w.1 w.2.1 w.2.2.1 w.2.2.2∧w.1.length≤i) (fun s1 i w=>(dx.L1 aZ doc who known (dx.K1)) s1 i w.1) ([],(some ⟨b2,0,none⟩),0,G1) sl1.1.1 hs5 ⟨gr1,(by simp)⟩ ?_ ?_ ?_
   ·rintro i1 ⟨bI,iH,iG,j1⟩ eR hs7 ⟨ic,u1_0⟩ e
    try dsimp only at ic u1_0
    refine qT 6 U (eK Span.ak ([z1]) j1 ([]) ap hM ic (fun h2 hle2 sl2=>?_))
    have hs8:dx aZ doc who known=(bI,0):=hs7
    exact nretH [.slice iH bI.length iG,I 0] ⟨iH,iG,congrArg (fun r:(List Span×Int)=>(.tuple #[.slice iH r.1.length iG,I r.2]:Value)) hs8.symm,(by rw [hs8];exact sl2)⟩
   ·rintro i1 ⟨bI,iH,iG,j1⟩ y1 rz1 hd1 cz ar dF fF hs9 ⟨ic,u1_0⟩ hx1 ag1 e
    try dsimp only at ic u1_0
    have hchg:=(few9 hsm (by simpa using c1)).chg (nthI aZ.Docs (bp aZ doc))
    refine qK 6 [] U (ae (v':=.bool true) U (cb cz) (qO 13 U (ae (v':=I (((i1+1):Nat):Int)) U (aL ob) (qL 4 [] U (ac hs9 U (fun c7 hs10=>?_) (fun c7 hs11=>?_))))))
    ·have c7p:=of_decide_eq_true c7
     refine qT 3 U (ae (v':=I (((i1+1):Nat):Int)) U (aL ob) ?_)
     have ho5:0≤((((i1+1):Nat):Int):Int)∧((((i1+1):Nat):Int):Int) < (((aD aZ (nthI aZ.Docs (bp aZ doc)))).length:Int):=ob
     refine az (ef (enc:=fun y=>[I y]) ei cR ty3 sl1.1 ho5 (bJ ho5) U U U (fun q6 A6=>cL ty3 A6 U (qO 4 U (eA ([z1]++(j1)) mixed kr jn (fun nK _=>tf 0 U U (fun _ _ hj=>jA ty30 U (hj.nth (i:=0) U) U) (qB [1] U (tf 2 U U (fun _ _ hj=>fw ty27 U (hj.nth (i:=0) U) U) (tm 3 U ?_))))))))
     have ho6:0≤((bp aZ doc):Int)∧((bp aZ doc):Int) < ((aZ.Docs).length:Int):=(by have hq:=pj (r:=aZ) (no:=doc) ob;simp only [decide_eq_true_eq,decide_eq_false_iff_not,Bool.and_eq_true,Bool.or_eq_true,Bool.not_eq_true',Bool.not_eq_false',Bool.and_eq_false_iff,Bool.or_eq_false_iff,beq_iff_eq,beq_eq_false_iff_ne,bne_iff_ne,bne_eq_false_iff_eq,List.length_append,List.length_cons,List.length_nil,List.length_drop] at *;omega)
     refine gA 4 nK jn pz ty52 (gM.Docs.mono Document.ak hle1).1 ho6 (bJ ho6) U U U U kr (fun q7 cs3 A7 ln3 rr3=>?_)
     obtain ⟨r3,rfl,ok3⟩:=rr3
     refine tf 5 U U (fun _ _ hj=>iQ ty52 (A7.mono hj.1) U U) (qR 6 3 U (cC 9 (enc:=fun y=>[I y]) nK jn ei cR ty3 sl1.1 (nthZ ar) (au ar) U U U U kr (fun q8 A8=>tf 10 U U (fun _ _ hj=>eL ty3 (A8.mono hj.1) U) (tm 11 U (tn 12 U (eO call35 (rL _ _ _ _ _ _ _ _ y1 known (gM.mono hle1) ok3 (hwho.mono Rp.aW hle1) hsm (few9 hsm (by simpa using c1)).vers hsw ((few9 hsm (by simpa using c1)).doc (by have hq:=pj (r:=aZ) (no:=doc) ob;simp only [decide_eq_true_eq,decide_eq_false_iff_not,Bool.and_eq_true,Bool.or_eq_true,Bool.not_eq_true',Bool.not_eq_false',Bool.and_eq_false_iff,Bool.or_eq_false_iff,beq_iff_eq,beq_eq_false_iff_ne,bne_iff_ne,bne_eq_false_iff_eq,List.length_append,List.length_cons,List.length_nil,List.length_drop] at *;omega))) U (⟨jn,(qA [13] U (aI kr (ac hs10 U (fun c8 hs12=>?_) (fun c8 hs13=>?_))))⟩)))))))
     ·exact jJ U (qT 2 U (ae (v':=I (((i1+1):Nat):Int)) U (aL ob) (an (ag1 (bI,iH,iG,j1) hs12 ⟨ic,(by first | omega | (simp only [List.length_append,List.length_cons,List.length_nil,List.length_set];omega))⟩))))
     ·refine qK 8 [] U ?_
      refine jM [(2,.slice dA who.length dz),(3,I known),(4,Q b1),(10,I (bp aZ doc)),(11,.slice iH bI.length iG),(12,.slice rb1 ((aD aZ (nthI aZ.Docs (bp aZ doc))).length) rc1),(13,I (i1:Int)),(14,I (nthI (aD aZ (nthI aZ.Docs (bp aZ doc))) (((i1+1):Nat):Int))),(15,I (bI.length:Int)),(88,.bool (decide (0 < (bI.length:Int))&&((nthI bI ((bI.length:Int) - 1)).Until==y1)))] (fun e=>?_) (fun hk3=>?_)
      rotate_left
      ·refine eA ([z1]++(j1)) mixed kr jn (fun zu _=>?_)
       refine qR 0 3 U ?_
       refine ct 76 U (fun c9=>?_) (fun c9=>?_)
       ·have c9p:=of_decide_eq_true c9
        refine qA [3,4] U (tf 5 U U (fun _ _ _=>kS (v':=I ((bI.length:Int) - 1)) U (gz ob)) ?_)
        have ho7:0≤(((bI.length:Int) - 1):Int)∧(((bI.length:Int) - 1):Int) < ((bI).length:Int):=ob
        obtain ⟨bk2,hbk2⟩:=cJ.jD ic ob
        exact tf 6 U U (fun _ _ _=>mN (R:=Span.rp) (xs:=bI) rG ty46 hbk2 ho7 U U U) (qB [7] U (tf 8 U U (fun _ _ hj=>yZ (R:=Span.rp) (i:=(((bI.length:Int) - 1):Int).toNat) (off:=1) ty3 ic hbk2 (bJ ho7) (fun cs hcs=>by rw [show cs=Span.cells (nthI bI ((bI.length:Int) - 1)) from hcs];rfl) U (mj hj)) (qA [9,10] U (cC 11 (enc:=fun y=>[I y]) zu jn ei cR ty3 sl1.1 (nthZ ar) (au ar) U U U U kr (fun q9 A9=>tf 12 U U (fun _ _ hj=>eL ty3 (A9.mono hj.1) U) (qA [13,14] U (aI kr (hk3 _ ⟨U,U,U,U,U,U,U,U,U,(cb (show ((nthI bI ((bI.length:Int) - 1)).Until==y1)=(decide (0 < (bI.length:Int))&&((nthI bI ((bI.length:Int) - 1)).Until==y1)) from by rw [c9] <;> rfl)),trivial⟩))))))))
       ·have c9p:=of_decide_eq_false c9
        exact tk 3 U U (qR 4 11 U (aI kr (hk3 _ ⟨U,U,U,U,U,U,U,U,U,(cb (show false=(decide (0 < (bI.length:Int))&&((nthI bI ((bI.length:Int) - 1)).Until==y1)) from by rw [c9] <;> rfl)),trivial⟩)))
      refine ac hs13 U (fun c10 hs14=>?_) (fun c10 hs15=>?_)
      ·refine qT 3 U (ae (v':=I ((bI.length:Int) - 1)) U (gz ob) (aj ?_))
       have ho8:0≤(((bI.length:Int) - 1):Int)∧(((bI.length:Int) - 1):Int) < ((bI).length:Int):=ob
       obtain ⟨bk3,hbk3⟩:=cJ.jD ic ob
       exact az (fy (mN (R:=Span.rp) (xs:=bI) rG ty46 hbk3 ho8 U U U) (qL 1 [] U (az (uY (R:=Span.rp) (i:=(((bI.length:Int) - 1):Int).toNat) (off:=1) (u:=(nthI bI ((bI.length:Int) - 1))) (u':=(Span.mk (nthI bI ((bI.length:Int) - 1)).From (nthI (aD aZ (nthI aZ.Docs (bp aZ doc))) (((i1+1):Nat):Int)))) (v:=I (nthI (aD aZ (nthI aZ.Docs (bp aZ doc))) (((i1+1):Nat):Int))) ([z1]) j1 ([]) ty3 U ic ap hbk3 (bJ ho8) (by decide) (fun cs hcs=>by rw [show cs=Span.cells (nthI bI ((bI.length:Int) - 1)) from hcs];rfl) U U U (fun G2 gr2=>iw (L':=[z1]++G2) (by first | rfl | simp only [List.length_set,List.append_assoc,List.cons_append,List.nil_append,List.append_nil]) (Jy 11 (.slice iH ((bI.set (((bI.length:Int) - 1):Int).toNat (Span.mk (nthI bI ((bI.length:Int) - 1)).From (nthI (aD aZ (nthI aZ.Docs (bp aZ doc))) (((i1+1):Nat):Int)))).length) iG) (congrArg (fun n_=>Value.slice iH n_ iG) (List.length_set ..).symm) (qO 4 U (ae (v':=I (((i1+1):Nat):Int)) U (aL ob) (an (ag1 ((bI.set (((bI.length:Int) - 1):Int).toNat (Span.mk (nthI bI ((bI.length:Int) - 1)).From (nthI (aD aZ (nthI aZ.Docs (bp aZ doc))) (((i1+1):Nat):Int)))),iH,iG,G2) hs14 ⟨gr2,(by first | omega | (simp only [List.length_append,List.length_cons,List.length_nil,List.length_set];omega))⟩))))))))))
      ·exact bh (qO 3 U (az (ef (enc:=fun y=>[I y]) ei cR ty3 sl1.1 (nthZ ar) (au ar) U U U (fun q10 A10=>cL ty3 A10 U (aj (az (em (cells:=[I y1,I (nthI (aD aZ (nthI aZ.Docs (bp aZ doc))) (((i1+1):Nat):Int))]) (places:=[(0,1),(1,1)]) wQ zc46 kr kr (az (bd (cells:=[I y1,I (nthI (aD aZ (nthI aZ.Docs (bp aZ doc))) (((i1+1):Nat):Int))]) rG ty46 zc46 U U kr (fun b3=>az (bR Span.ey ([(b3,O [I y1,I (nthI (aD aZ (nthI aZ.Docs (bp aZ doc))) (((i1+1):Nat):Int))] 46),z1]) ([]) (fun G=>[(b3,O [I y1,I (nthI (aD aZ (nthI aZ.Docs (bp aZ doc))) (((i1+1):Nat):Int))] 46),z1]++G) ap (fun _=>ap) rG ty46 zc46 U bytes46 ic U U (dr 0 U (show aT Span.rp h1 [I y1,I (nthI (aD aZ (nthI aZ.Docs (bp aZ doc))) (((i1+1):Nat):Int))] ([(Span.mk y1 (nthI (aD aZ (nthI aZ.Docs (bp aZ doc))) (((i1+1):Nat):Int)))]) from ⟨[I y1,I (nthI (aD aZ (nthI aZ.Docs (bp aZ doc))) (((i1+1):Nat):Int))],[],U,U,U,U⟩)) lo lo (fun ob1 oc1 G3 gr3=>qO 5 U (ae (v':=I (((i1+1):Nat):Int)) U (aL ob) (an (bY (L':=[z1]++G3) js (ag1 ((bI++[(Span.mk y1 (nthI (aD aZ (nthI aZ.Docs (bp aZ doc))) (((i1+1):Nat):Int)))]),ob1,oc1,G3) hs15 ⟨gr3,(by first | omega | (simp only [List.length_append,List.length_cons,List.length_nil,List.length_set];omega))⟩))))))))))))))))
    ·have c7p:=of_decide_eq_false c7
     refine qT 3 U (eA ([z1]++(j1)) mixed kr jn (fun JE _=>tf 0 U U (fun _ _ hj=>jA ty30 U (hj.nth (i:=0) U) U) (qB [1] U (tf 2 U U (fun _ _ hj=>fw ty27 U (hj.nth (i:=0) U) U) (tm 3 U ?_)))))
     have ho9:0≤((bp aZ doc):Int)∧((bp aZ doc):Int) < ((aZ.Docs).length:Int):=(by have hq:=pj (r:=aZ) (no:=doc) ob;simp only [decide_eq_true_eq,decide_eq_false_iff_not,Bool.and_eq_true,Bool.or_eq_true,Bool.not_eq_true',Bool.not_eq_false',Bool.and_eq_false_iff,Bool.or_eq_false_iff,beq_iff_eq,beq_eq_false_iff_ne,bne_iff_ne,bne_eq_false_iff_eq,List.length_append,List.length_cons,List.length_nil,List.length_drop] at *;omega)
     refine gA 4 JE jn pz ty52 (gM.Docs.mono Document.ak hle1).1 ho9 (bJ ho9) U U U U kr (fun q11 cs4 A11 ln4 rr4=>?_)
     obtain ⟨r4,rfl,ok4⟩:=rr4
     refine tf 5 U U (fun _ _ hj=>iQ ty52 (A11.mono hj.1) U U) (qR 6 3 U (cC 9 (enc:=fun y=>[I y]) JE jn ei cR ty3 sl1.1 (nthZ ar) (au ar) U U U U kr (fun q12 A12=>tf 10 U U (fun _ _ hj=>eL ty3 (A12.mono hj.1) U) (tm 11 U (tn 12 U (eO call35 (rL _ _ _ _ _ _ _ _ y1 known (gM.mono hle1) ok4 (hwho.mono Rp.aW hle1) hsm (few9 hsm (by simpa using c1)).vers hsw ((few9 hsm (by simpa using c1)).doc (by have hq:=pj (r:=aZ) (no:=doc) ob;simp only [decide_eq_true_eq,decide_eq_false_iff_not,Bool.and_eq_true,Bool.or_eq_true,Bool.not_eq_true',Bool.not_eq_false',Bool.and_eq_false_iff,Bool.or_eq_false_iff,beq_iff_eq,beq_eq_false_iff_ne,bne_iff_ne,bne_eq_false_iff_eq,List.length_append,List.length_cons,List.length_nil,List.length_drop] at *;omega))) U (⟨jn,(qA [13] U (aI kr (ac hs11 U (fun c11 hs16=>?_) (fun c11 hs17=>?_))))⟩)))))))
     ·exact jJ U (qT 2 U (ae (v':=I (((i1+1):Nat):Int)) U (aL ob) (an (ag1 (bI,iH,iG,j1) hs16 ⟨ic,(by first | omega | (simp only [List.length_append,List.length_cons,List.length_nil,List.length_set];omega))⟩))))
     ·refine qK 8 [] U ?_
      refine jM [(2,.slice dA who.length dz),(3,I known),(4,Q b1),(10,I (bp aZ doc)),(11,.slice iH bI.length iG),(12,.slice rb1 ((aD aZ (nthI aZ.Docs (bp aZ doc))).length) rc1),(13,I (i1:Int)),(14,I 1099511627776),(15,I (bI.length:Int)),(88,.bool (decide (0 < (bI.length:Int))&&((nthI bI ((bI.length:Int) - 1)).Until==y1)))] (fun e=>?_) (fun hk4=>?_)
      rotate_left
      ·refine eA ([z1]++(j1)) mixed kr jn (fun KG _=>?_)
       refine qR 0 3 U ?_
       refine ct 76 U (fun c12=>?_) (fun c12=>?_)
       ·have c12p:=of_decide_eq_true c12
        refine qA [3,4] U (tf 5 U U (fun _ _ _=>kS (v':=I ((bI.length:Int) - 1)) U (gz ob)) ?_)
        have ho10:0≤(((bI.length:Int) - 1):Int)∧(((bI.length:Int) - 1):Int) < ((bI).length:Int):=ob
        obtain ⟨bk4,hbk4⟩:=cJ.jD ic ob
        exact tf 6 U U (fun _ _ _=>mN (R:=Span.rp) (xs:=bI) rG ty46 hbk4 ho10 U U U) (qB [7] U (tf 8 U U (fun _ _ hj=>yZ (R:=Span.rp) (i:=(((bI.length:Int) - 1):Int).toNat) (off:=1) ty3 ic hbk4 (bJ ho10) (fun cs hcs=>by rw [show cs=Span.cells (nthI bI ((bI.length:Int) - 1)) from hcs];rfl) U (mj hj)) (qA [9,10] U (cC 11 (enc:=fun y=>[I y]) KG jn ei cR ty3 sl1.1 (nthZ ar) (au ar) U U U U kr (fun q13 A13=>tf 12 U U (fun _ _ hj=>eL ty3 (A13.mono hj.1) U) (qA [13,14] U (aI kr (hk4 _ ⟨U,U,U,U,U,U,U,U,U,(cb (show ((nthI bI ((bI.length:Int) - 1)).Until==y1)=(decide (0 < (bI.length:Int))&&((nthI bI ((bI.length:Int) - 1)).Until==y1)) from by rw [c12] <;> rfl)),trivial⟩))))))))
       ·have c12p:=of_decide_eq_false c12
        exact tk 3 U U (qR 4 11 U (aI kr (hk4 _ ⟨U,U,U,U,U,U,U,U,U,(cb (show false=(decide (0 < (bI.length:Int))&&((nthI bI ((bI.length:Int) - 1)).Until==y1)) from by rw [c12] <;> rfl)),trivial⟩)))
      refine ac hs17 U (fun c13 hs18=>?_) (fun c13 hs19=>?_)
      ·refine qT 3 U (ae (v':=I ((bI.length:Int) - 1)) U (gz ob) (aj ?_))
       have ho11:0≤(((bI.length:Int) - 1):Int)∧(((bI.length:Int) - 1):Int) < ((bI).length:Int):=ob
       obtain ⟨bk5,hbk5⟩:=cJ.jD ic ob
       exact az (fy (mN (R:=Span.rp) (xs:=bI) rG ty46 hbk5 ho11 U U U) (qL 1 [] U (az (uY (R:=Span.rp) (i:=(((bI.length:Int) - 1):Int).toNat) (off:=1) (u:=(nthI bI ((bI.length:Int) - 1))) (u':=(Span.mk (nthI bI ((bI.length:Int) - 1)).From 1099511627776)) (v:=I 1099511627776) ([z1]) j1 ([]) ty3 U ic ap hbk5 (bJ ho11) (by decide) (fun cs hcs=>by rw [show cs=Span.cells (nthI bI ((bI.length:Int) - 1)) from hcs];rfl) U U U (fun G4 gr4=>iw (L':=[z1]++G4) (by first | rfl | simp only [List.length_set,List.append_assoc,List.cons_append,List.nil_append,List.append_nil]) (Jy 11 (.slice iH ((bI.set (((bI.length:Int) - 1):Int).toNat (Span.mk (nthI bI ((bI.length:Int) - 1)).From 1099511627776)).length) iG) (congrArg (fun n_=>Value.slice iH n_ iG) (List.length_set ..).symm) (qO 4 U (ae (v':=I (((i1+1):Nat):Int)) U (aL ob) (an (ag1 ((bI.set (((bI.length:Int) - 1):Int).toNat (Span.mk (nthI bI ((bI.length:Int) - 1)).From 1099511627776)),iH,iG,G4) hs18 ⟨gr4,(by first | omega | (simp only [List.length_append,List.length_cons,List.length_nil,List.length_set];omega))⟩))))))))))
      ·exact bh (qO 3 U (az (ef (enc:=fun y=>[I y]) ei cR ty3 sl1.1 (nthZ ar) (au ar) U U U (fun q14 A14=>cL ty3 A14 U (aj (az (em (cells:=[I y1,I 1099511627776]) (places:=[(0,1),(1,1)]) wQ zc46 kr kr (az (bd (cells:=[I y1,I 1099511627776]) rG ty46 zc46 U U kr (fun b4=>az (bR Span.ey ([(b4,O [I y1,I 1099511627776] 46),z1]) ([]) (fun G=>[(b4,O [I y1,I 1099511627776] 46),z1]++G) ap (fun _=>ap) rG ty46 zc46 U bytes46 ic U U (dr 0 U (show aT Span.rp h1 [I y1,I 1099511627776] ([(Span.mk y1 1099511627776)]) from ⟨[I y1,I 1099511627776],[],U,U,U,U⟩)) lo lo (fun ob2 oc2 G5 gr5=>qO 5 U (ae (v':=I (((i1+1):Nat):Int)) U (aL ob) (an (bY (L':=[z1]++G5) js (ag1 ((bI++[(Span.mk y1 1099511627776)]),ob2,oc2,G5) hs19 ⟨gr5,(by first | omega | (simp only [List.length_append,List.length_cons,List.length_nil,List.length_set];omega))⟩))))))))))))))))
   ·rintro i1 ⟨bI,iH,iG,j1⟩ hd1 eM hx e
    exact qK 6 [] U (ae (v':=.bool false) U (cb eM) (qO 3 U (hx _ rd)))
end Go.Sg
namespace Go.Sg
open Go.Proofs Go.Proofs.Tryz
set_option maxHeartbeats 2000000
theorem law33_AsofSpec_top {w:World} (h:HF) (hp:Pre h [] w) (aZ:Register) (dD:dR) (doc:Int) (who:List Int) (dA:Option Addr) (dz:Nat) (known:Int) (gM:Register.ok h aZ dD) (hwho:SlC Rp.int h dA dz who) (hsm:smR aZ) (hsw:who.length≤1500000) (hk:Kinds h):Calls prog 3 [.agg (Register.cells aZ dD).toArray,I doc,.slice dA who.length dz,I known].toArray w fun e w'=>e=.returned (.bool (ls aZ doc who known))∧RowKit.Below w.heap.size w w':=by
 refine Ew hp Hl U ntmps3 U fun X hM hX=>?_
 have hs0:ls aZ doc who known=ls aZ doc who known:=rfl
 refine sr (cy (fun b1=>qO 5 U (ah call8 (AD h  hk) U (qO 2 U (ac hs0 U (fun c1 hs1=>?_) (fun c1 hs2=>?_))))))
 ·exact sr (an (yh [.bool false] Hl U hX rd (cs hs1)))
 ·refine qT 4 U (cM 0 ty30 U U U (ah call9 (B4 _ _ _ gM) U (qO 2 U (cf 4 [18,19,20,21,22] 18 22 (decide (100 < (who.length:Int))) U (fun c2 hk1=>?_) (fun e=>?_)))))
  ·exact qL 4 [] U (hk1 _ U)
  refine aN (ac hs2 U (fun c3 hs4=>?_) (fun c3 hs5=>?_))
  ·exact sr (an (yh [.bool true] Hl U hX rd (cs hs4)))
  ·refine qT 3 U (cM 0 ty30 U U U (qO 3 U (az (cg Ff (mb _ _ _ doc _ _ _ known gM hwho ob ob hk) U (fun v1 h1 hle1 hp1=>?_)))))
   obtain ⟨rb1,rc1,rfl,sl1⟩:=hp1
   refine qO 8 U (cM 0 ty30 U U U (qO 3 U (az (cg call11 (yH _ _ _ doc _ _ _ known (gM.mono hle1) (hwho.mono Rp.aW hle1) ob ob) U (fun v2 h2 hle2 hp2=>?_)))))
   obtain ⟨rb2,rc2,rfl,sl2⟩:=hp2
   refine qO 10 U (ah call12 (oh _ _ _ _ _ _ _ (sl1.mono Span.ak hle2) sl2) U (aj (bz 4 [42,43,44,45,46] 42 46 ((cZ aZ doc who known).2==(dx aZ doc who known).2) U (fun c4 hk2=>?_) (fun e=>?_))))
   ·exact aj (qO 3 U (hk2 _ U))
   exact an (yh [.bool ((dO ((cZ aZ doc who known).1) ((dx aZ doc who known).1))&&((cZ aZ doc who known).2==(dx aZ doc who known).2))] Hl U hX rd (cs hs5))
end Go.Sg
namespace Go.Proofs.YtngiefchigcphaaGreatDoor.asofSpec
open Go.ChangeShapes Go.WideShapes Go.ChangeAt Go.RowKit
theorem own:ownKnob Tryz.prog.godebug=none:=by kernel_rfl
theorem laidOut:laidOutB Tryz.prog=true:=by kernel_rfl
theorem contract (H:Type) (enc:TypeId×Value→H) (W:World) (base:Nat) (args:Array Value) (ds gs:List (DataW H)) (before:List MemPlace)
    (hval:∀ (j:Nat) t v,Tryz.f3.params[j]? = some t→args[j]? = some v→Value.okWide Tryz.prog W .any base t v)
    (hW:DataW.Whole enc Tryz.prog Tryz.f3.params.toList Rows.asofSpecSpec.vars false W args.toList ds gs before) (hcond:Rows.uptoSmall H (ds++gs)=true) (hL:laidMetH Tryz.prog Rows.asofSpecUptoRow.laid W):
    Calls Tryz.prog 3 args W fun e W'=>∃ v,e=.returned v∧Rows.asofSpecSpec.post enc Tryz.prog Tryz.f3 false true false false W args v W':=by
  have hW':=hW
  obtain ⟨p,q,hA0,hV,rfl,hfz,hnd⟩:=hW
  have hA:DataW.TrodAll enc Tryz.prog W 0 (fun _=>true) true Tryz.f3.params.toList args.toList ds p:=hA0
  rw [Tryz.params3] at hA hval
  obtain ⟨v0,vs0,d0,ds0,p0,z0,hargs,rfl,rfl,h0,t0⟩:=trodAll_cons hA
  obtain ⟨v1,vs1,d1,ds1,p1,z1,rfl,rfl,rfl,h1,t1⟩:=trodAll_cons t0
  obtain ⟨v2,vs2,d2,ds2,p2,z2,rfl,rfl,rfl,h2,t2⟩:=trodAll_cons t1
  obtain ⟨v3,vs3,d3,ds3,p3,z3,rfl,rfl,rfl,h3,t3⟩:=trodAll_cons t2
  obtain ⟨rfl,rfl,rfl⟩:=trodAll_nil t3
  obtain rfl:args=#[v0,v1,v2,v3]:=by cases args;simp_all
  obtain ⟨rfl,rfl⟩:=trodVars_none hV
  clear hA0 hA
  have h0k:=h0
  have h1k:=h1
  have h2k:=h2
  have h3k:=h3
  simp only [List.append_nil] at hW' hcond
  have hB:Rows.uptoBulkAll [d0,d1,d2,d3]≤1048576:=of_decide_eq_true hcond
  obtain ⟨a0,rfl,_⟩:=okWide_struct Tryz.underlying30 (hval 0 30 v0 rfl rfl)
  obtain ⟨f0,g0⟩:=h0
  obtain ⟨x0,⟨r0,e0,o0⟩,q0⟩:=Sg.opn_Register f0 _ _ _ g0
  obtain rfl:a0=(Sg.Register.cells x0 r0).toArray:=by
    apply Array.toList_inj.1;exact e0
  obtain ⟨n1,rfl⟩:=okWide_int Tryz.underlying3 (hval 1 3 v1 rfl rfl)
  obtain ⟨b2,l2,c2,rfl⟩:=okWide_slice Tryz.underlying31 (hval 2 31 v2 rfl rfl)
  obtain ⟨f2,g2⟩:=h2
  obtain ⟨b2',c2',x2,e2,o2,q2⟩:=Sg.opn_slice (R:=Sg.Rp.int) (sz:=fun _=>1) Tryz.underlying31 (by kernel_rfl) (by decide) (fun k _=>Sg.opn_int (by kernel_rfl) k) g2
  cases e2
  obtain ⟨n3,rfl⟩:=okWide_int Tryz.underlying3 (hval 3 3 v3 rfl rfl)
  simp only [Rows.uptoBulkAll] at hB
  have y2:=Sg.szL_len (f:=fun _:Int=>1) (fun _=>Nat.le_refl _) x2
  have z0b:=Sg.bulk_one d0
  have z1b:=Sg.bulk_one d1
  have z2b:=Sg.bulk_one d2
  have z3b:=Sg.bulk_one d3
  have walk:=Sg.law33_AsofSpec_top (Sg.hOf W) (Sg.pre_hOf W) x0 r0 n1 x2 b2 c2 n3 o0 o2 (Sg.smR_of (by omega)) (by omega) (Sg.kinds_of hL)
  rw [Sg.spec_true (Sg.smR_of (by omega))] at walk
  refine walk.mono fun e W' ⟨he,hb⟩=>?_
  subst he
  exact ⟨_,rfl,Sg.post_below (pa:=p0++(p1++(p2++(p3++([]))))) (pv:=[]) hW' (fun _ _ _=>trodAll_cons_mk (shut_bool Tryz.underlying4 _) trodAll_mk0) (fun sp hsp=>(trodAll_cons_mk (Sg.stays laidOut (by kernel_rfl) (by kernel_rfl) h0k hb hW'.lt (fun x hx=>by simp [hx]) hsp) (trodAll_cons_mk (Sg.stays laidOut (by kernel_rfl) (by kernel_rfl) h1k hb hW'.lt (fun x hx=>by simp [hx]) hsp) (trodAll_cons_mk (Sg.stays laidOut (by kernel_rfl) (by kernel_rfl) h2k hb hW'.lt (fun x hx=>by simp [hx]) hsp) (trodAll_cons_mk (Sg.stays laidOut (by kernel_rfl) (by kernel_rfl) h3k hb hW'.lt (fun x hx=>by simp [hx]) hsp) trodAll_mk0))))) (fun _ _=>rfl) (by simp) hb (ok_one (by kernel_rfl) rfl (okWide_bool_mk Tryz.underlying4 _))⟩
end Go.Proofs.YtngiefchigcphaaGreatDoor.asofSpec
