import Derived.Shelf.SlSortCmp.NoneTotal
import Derived.WalkKit
import Derived.Test.YtngiefchigcphaaGreatDoorW7
/- A part of the proof of AsofNeededSpec. -/
set_option linter.unusedVariables false
set_option linter.unusedSimpArgs false
set_option maxRecDepth 100000
namespace Go.Sg
open Go.Proofs Go.Proofs.Tryz
set_option maxHeartbeats 2000000
theorem rT (h:HF) (Fx:Bool)  : Ret prog 166 [.bool Fx] h (.bool (dD Fx)):=by
 refine sT func166 U ntmps166 U fun X hM hX hF=>?_
 have hs0:dD Fx=dD Fx:=rfl
 exact sr (qO 7 U (nretP [.bool Fx] (cs hs0)))
theorem rS (h:HF) (Fx:Bool)  : Ret prog 167 [.bool Fx] h (.bool (eJ Fx)):=by
 refine sT func167 U ntmps167 U fun X hM hX hF=>?_
 have hs0:eJ Fx=eJ Fx:=rfl
 exact sr (qO 8 U (nretP [.bool (!Fx)] (cs hs0)))
theorem us (h:HF) (mode:Int) (permits:List Bool) (gy:Option Addr) (gx:Nat) (hpermits:SlC Rp.bool h gy gx permits) (hsz0:permits.length≤2000000):iq prog 98 [I mode,.slice gy permits.length gx] h (fun v h'=>∃ (rb0:Option Addr) (rc0:Nat),v=.tuple #[.slice rb0 ((aN mode permits).1).length rc0,.bool ((aN mode permits).2.1),I ((aN mode permits).2.2)]∧SlC Rp.int h' rb0 rc0 ((aN mode permits).1)):=by
 refine sT func98 U ntmps98 U fun X hM hX hF=>?_
 have hs0:aN mode permits=aN mode permits:=rfl
 refine qT 11 U (ah call164 (vi _ mode _ _ _ hpermits) U (qO 7 U (ac hs0 U (fun c1 hs1=>?_) (fun c1 hs2=>?_))))
 ·refine qT 7 U ?_
  have hs3:aN mode permits=([],false,(fm mode permits)):=hs1
  exact nretH [.slice none 0 0,.bool false,I (fm mode permits)] ⟨none,0,congrArg (fun r:(List Int×Bool×Int)=>(.tuple #[.slice none r.1.length 0,.bool r.2.1,I r.2.2]:Value)) hs3.symm,(by rw [hs3];exact SlC.nil)⟩
 refine qT 4 U (ah call165 (mY _ _ _ _ dD (.func (.func 166) #[] #[]) hpermits (fun h' ed hle =>i0 call166 (rT h' ed))) U (qO 5 U (ah call165 (mY _ _ _ _ eJ (.func (.func 167) #[] #[]) hpermits (fun h' ed hle =>i0 call167 (rS h' ed))) U (qO 9 U (bx 3 [23,24,25,26] 23 26 (decide (0≤(bZ permits dD))) U (fun c2 hk1=>?_) (fun e=>?_))))))
 ·exact aj (qO 2 U (hk1 _ U))
 refine an (ac hs2 U (fun c3 hs4=>?_) (fun c3 hs5=>?_))
 ·refine qT 3 U (aA (bg (cells:=[I (bZ permits dD)]) cQ ty3 zc3 U U kr (fun b1=>qO 4 U (eM 0 U hM (fun h1 hle1 hb1=>?_)))))
  have sl1:SlC Rp.int h1 (some ⟨b1,0,none⟩) 1 ([(bZ permits dD)]):=aP.slB0 (T:=3) (fz:=(0,0)) ((show aP Rp.int h [I (bZ permits dD)] ([(bZ permits dD)]) from ⟨[I (bZ permits dD)],[],rfl,rfl,rfl,rfl⟩).mono Rp.aK hle1) hb1
  have hs6:aN mode permits=([(bZ permits dD)],true,0):=hs4
  exact nretH [.slice (some ⟨b1,0,none⟩) 1 1,.bool true,I 0] ⟨(some ⟨b1,0,none⟩),1,congrArg (fun r:(List Int×Bool×Int)=>(.tuple #[.slice (some ⟨b1,0,none⟩) r.1.length 1,.bool r.2.1,I r.2.2]:Value)) hs6.symm,(by rw [hs6];exact sl1)⟩
 refine qT 5 U (bx 3 [32,33,34,35] 32 35 (decide (0≤(bZ permits eJ))) U (fun c4 hk2=>?_) (fun e=>?_))
 ·exact aj (qO 2 U (hk2 _ U))
 refine an (ac hs5 U (fun c5 hs7=>?_) (fun c5 hs8=>?_))
 ·refine qT 3 U (aA (bg (cells:=[I (bZ permits eJ)]) cQ ty3 zc3 U U kr (fun b2=>qO 4 U (eM 0 U hM (fun h2 hle2 hb2=>?_)))))
  have sl2:SlC Rp.int h2 (some ⟨b2,0,none⟩) 1 ([(bZ permits eJ)]):=aP.slB0 (T:=3) (fz:=(0,0)) ((show aP Rp.int h [I (bZ permits eJ)] ([(bZ permits eJ)]) from ⟨[I (bZ permits eJ)],[],rfl,rfl,rfl,rfl⟩).mono Rp.aK hle2) hb2
  have hs9:aN mode permits=([(bZ permits eJ)],false,0):=hs7
  exact nretH [.slice (some ⟨b2,0,none⟩) 1 1,.bool false,I 0] ⟨(some ⟨b2,0,none⟩),1,congrArg (fun r:(List Int×Bool×Int)=>(.tuple #[.slice (some ⟨b2,0,none⟩) r.1.length 1,.bool r.2.1,I r.2.2]:Value)) hs9.symm,(by rw [hs9];exact sl2)⟩
 refine qT 6 U (ac hs8 U (fun c6 hs10=>?_) (fun c6 hs11=>?_))
 ·refine qK 13 [] U ?_
  refine lp2 permits (fun i w=>[(4,.slice w.2.1 w.1.length w.2.2.1),(5,.bool (decide (0≤(bZ permits dD)))),(55,I (permits.length:Int)),(56,I (i:Int))]) (fun _=>h) (fun w=>w.2.2.2) (fun i w=>cM Rp.int 3 h w.1 w.2.1 w.2.2.1 w.2.2.2∧w.1.length≤0+i) (fun s1 i w=>(aN.L1 (aN.K1 permits)) s1 i w.1) ([],none,0,[]) hpermits.1.1 hs10 ⟨cM.nil,lo⟩ ?_ ?_
  ·rintro i1 ⟨oT,ul,uk,xJ⟩ et hs12 ⟨rB,Al⟩ e
   try dsimp only at rB Al
   refine qT 8 U (eI Rp.aK ([]) xJ ([]) ap hM rB (fun h4 hle4 sl4=>?_))
   have hs13:aN mode permits=(oT,decide (0≤(bZ permits dD)),0):=hs12
   exact nretH [.slice ul oT.length uk,.bool (decide (0≤(bZ permits dD))),I 0] ⟨ul,uk,congrArg (fun r:(List Int×Bool×Int)=>(.tuple #[.slice ul r.1.length uk,.bool r.2.1,I r.2.2]:Value)) hs13.symm,(by rw [hs13];exact sl4)⟩
  rintro i1 ⟨oT,ul,uk,xJ⟩ y1 rz1 hd1 cw ao dy fB hs14 ⟨rB,Al⟩ hx1 ag1 e
  try dsimp only at rB Al
  exact sr (ad (v':=.bool true) U (cb cw) (qO 14 U (aA (bg (cells:=[I (i1:Int)]) cQ ty3 zc3 U U kr (fun b4=>aA (bS Rp.dF ([(b4,O [I (i1:Int)] 3)]) ([]) (fun G=>[(b4,O [I (i1:Int)] 3)]++G) ap (fun _=>ap) cQ ty3 zc3 U bytes3 rB U U (du 0 U (show aP Rp.int h [I (i1:Int)] ([(i1:Int)]) from ⟨[I (i1:Int)],[],U,U,U,U⟩)) lo lo (fun ob2 oc2 G2 gr2=>qO 4 U (ad (v':=I (((i1+1):Nat):Int)) U (aL ob) (qO 2 U (bU (L':=G2) js (ag1 ((oT++[(i1:Int)]),ob2,oc2,G2) hs14 ⟨gr2,lo⟩)))))))))))
 refine qT 6 U (ac hs11 U (fun c7 hs15=>?_) (fun c7 hs16=>?_))
 ·refine qK 5 [] U (bx 4 [49,50,51,52,53] 49 53 (nthI permits 0) U (fun c8 hk3=>?_) (fun e=>?_))
  ·refine aj ?_
   have ho1:0≤(0:Int)∧(0:Int) < ((permits).length:Int):=ob
   exact aA (ek (enc:=fun y=>[.bool y]) ei tZ ty4 hpermits.1 ho1 (bT ho1) U U U (fun q1 A1=>cK ty4 A1 U (dZ U (hk3 _ U))))
  refine qL 10 [] U ?_
  refine lp2 permits (fun i w=>[(4,.slice w.2.1 w.1.length w.2.2.1),(5,.bool (((permits.length:Int)==1)&&(nthI permits 0))),(55,I (permits.length:Int)),(56,I (i:Int))]) (fun _=>h) (fun w=>w.2.2.2) (fun i w=>cM Rp.int 3 h w.1 w.2.1 w.2.2.1 w.2.2.2∧w.1.length≤0+i) (fun s2 i w=>(aN.L2 (aN.K2 permits)) s2 i w.1) ([],none,0,[]) hpermits.1.1 hs15 ⟨cM.nil,lo⟩ ?_ ?_
  ·rintro i2 ⟨Be,Gm,Gl,J8⟩ sK hs17 ⟨EE,IL⟩ e
   try dsimp only at EE IL
   refine qT 8 U (eI Rp.aK ([]) J8 ([]) ap hM EE (fun h6 hle6 sl6=>?_))
   have hs18:aN mode permits=(Be,(((permits.length:Int)==1)&&(nthI permits 0)),0):=hs17
   exact nretH [.slice Gm Be.length Gl,.bool (((permits.length:Int)==1)&&(nthI permits 0)),I 0] ⟨Gm,Gl,congrArg (fun r:(List Int×Bool×Int)=>(.tuple #[.slice Gm r.1.length Gl,.bool r.2.1,I r.2.2]:Value)) hs18.symm,(by rw [hs18];exact sl6)⟩
  rintro i2 ⟨Be,Gm,Gl,J8⟩ y2 rz2 hd2 oI jJ vM Ew hs19 ⟨EE,IL⟩ hx2 ag2 e
  try dsimp only at EE IL
  exact sr (ad (v':=.bool true) U (cb oI) (qO 14 U (aA (bg (cells:=[I (i2:Int)]) cQ ty3 zc3 U U kr (fun b6=>aA (bS Rp.dF ([(b6,O [I (i2:Int)] 3)]) ([]) (fun G=>[(b6,O [I (i2:Int)] 3)]++G) ap (fun _=>ap) cQ ty3 zc3 U bytes3 EE U U (du 0 U (show aP Rp.int h [I (i2:Int)] ([(i2:Int)]) from ⟨[I (i2:Int)],[],U,U,U,U⟩)) lo lo (fun ob4 oc4 G4 gr4=>qO 4 U (ad (v':=I (((i2+1):Nat):Int)) U (aL ob) (qO 2 U (bU (L':=G4) js (ag2 ((Be++[(i2:Int)]),ob4,oc4,G4) hs19 ⟨gr4,lo⟩)))))))))))
 refine qK 9 [] U ?_
 refine lp2 permits (fun i w=>[(4,.slice w.2.1 w.1.length w.2.2.1),(5,.bool false),(55,I (permits.length:Int)),(56,I (i:Int))]) (fun _=>h) (fun w=>w.2.2.2) (fun i w=>cM Rp.int 3 h w.1 w.2.1 w.2.2.1 w.2.2.2∧w.1.length≤0+i) (fun s3 i w=>(aN.L3 (aN.K3)) s3 i w.1) ([],none,0,[]) hpermits.1.1 hs16 ⟨cM.nil,lo⟩ ?_ ?_
 ·rintro i3 ⟨Bd,Gg,Ge,J7⟩ JH hs20 ⟨EB,II⟩ e
  try dsimp only at EB II
  refine qT 8 U (eI Rp.aK ([]) J7 ([]) ap hM EB (fun h8 hle8 sl8=>?_))
  have hs21:aN mode permits=(Bd,false,0):=hs20
  exact nretH [.slice Gg Bd.length Ge,.bool false,I 0] ⟨Gg,Ge,congrArg (fun r:(List Int×Bool×Int)=>(.tuple #[.slice Gg r.1.length Ge,.bool r.2.1,I r.2.2]:Value)) hs21.symm,(by rw [hs21];exact sl8)⟩
 rintro i3 ⟨Bd,Gg,Ge,J7⟩ y3 rz3 hd3 sJ gU xI Ev hs22 ⟨EB,II⟩ hx3 ag3 e
 try dsimp only at EB II
 exact sr (ad (v':=.bool true) U (cb sJ) (qO 14 U (aA (bg (cells:=[I (i3:Int)]) cQ ty3 zc3 U U kr (fun b8=>aA (bS Rp.dF ([(b8,O [I (i3:Int)] 3)]) ([]) (fun G=>[(b8,O [I (i3:Int)] 3)]++G) ap (fun _=>ap) cQ ty3 zc3 U bytes3 EB U U (du 0 U (show aP Rp.int h [I (i3:Int)] ([(i3:Int)]) from ⟨[I (i3:Int)],[],U,U,U,U⟩)) lo lo (fun ob6 oc6 G6 gr6=>qO 4 U (ad (v':=I (((i3+1):Nat):Int)) U (aL ob) (qO 2 U (bU (L':=G6) js (ag3 ((Bd++[(i3:Int)]),ob6,oc6,G6) hs22 ⟨gr6,lo⟩)))))))))))
theorem uu (h:HF) (mode:Int) (permits:List Bool) (gy:Option Addr) (gx:Nat) (hpermits:SlC Rp.bool h gy gx permits) (hsz0:permits.length≤2000000):Ret prog 49 [I mode,.slice gy permits.length gx] h (.tuple #[.bool ((eP mode permits).1),I ((eP mode permits).2)]):=by
 refine sT func49 U ntmps49 U fun X hM hX hF=>?_
 have hs0:eP mode permits=eP mode permits:=rfl
 refine qT 9 U (aA (cf call98 (us _ mode _ _ _ hpermits ob) U (fun v1 h1 hle1 hp1=>?_)))
 obtain ⟨rb1,rc1,rfl,sl1⟩:=hp1
 refine qO 14 U ?_
 have hs1:eP mode permits=((aN mode permits).2.1,(aN mode permits).2.2):=hs0
 exact nretP [.bool ((aN mode permits).2.1),I ((aN mode permits).2.2)] (congrArg (fun r:(Bool×Int)=>(.tuple #[.bool r.1,I r.2]:Value)) hs1.symm)
theorem sH (h:HF) (l:List Interest) (ey:Option Addr) (ew:Nat) (person:Int) (parties:List Int) (gd:Option Addr) (ga:Nat) (aW:Int) (known:Int) (hl:SlC Interest.rp h ey ew l) (hparties:SlC Rp.int h gd ga parties):Ret prog 84 [.slice ey l.length ew,I person,.slice gd parties.length ga,I aW,I known] h (I (bP l person parties aW known)):=by
 refine sT func84 U ntmps84 U fun X hM hX hF=>?_
 have hs0:bP l person parties aW known=bP l person parties aW known:=rfl
 refine qT 8 U (ah call53 (oH _ _ _ _ hl) U (qO 7 U (ac hs0 U (fun c1 hs1=>?_) (fun c1 hs2=>?_))))
 ·exact sr (qO 3 U (nretP [I (bJ l)] (ci hs1)))
 refine qK 12 [] U ?_
 refine lp1 parties (fun i w=>[(1,I person),(2,.slice gd parties.length ga),(3,I aW),(4,I known),(12,I w),(20,.slice gd parties.length ga),(21,I (parties.length:Int)),(22,I (i:Int))]) ([]) (fun s1 i w=>(bP.L1 (bP.K1 person parties aW known)) s1 w) (-1) hparties.1.1 hs2 ?_ ?_
 ·rintro i1 Cf et hs4 e
  refine qT 4 U (ah xh (fU h person 64) U (qO 2 U (ce 4 [38,39,40,41,42] 38 42 (decide (16 < (parties.length:Int))) U (fun c2 hk1=>?_) (fun e=>?_))))
  ·exact qL 4 [] U (hk1 _ U)
  refine aj (ce 4 [43,44,45,46,47] 43 47 (!(aS aW 1099511627776)) U (fun c3 hk2=>?_) (fun e=>?_))
  ·exact aj (ah xh (fU h aW 1099511627776) U (qO 2 U (hk2 _ U)))
  refine aj (ce 4 [48,49,50,51,52] 48 52 (!(aS known 1099511627776)) U (fun c4 hk3=>?_) (fun e=>?_))
  ·exact aj (ah xh (fU h known 1099511627776) U (qO 2 U (hk3 _ U)))
  refine aM (ac hs4 U (fun c5 hs5=>?_) (fun c5 hs6=>?_))
  ·exact sr (an (nretP [I 1] (ci hs5)))
  exact aE (qT 4 U (nretP [I 0] (ci hs6)))
 rintro i1 Cf y1 rz1 hd1 cw ao dy fB hs9 hx1 ag1 e
 refine sr (ad (v':=.bool true) U (cb cw) (qO 8 U (aA (ek (enc:=fun y=>[I y]) ei cQ ty3 hparties.1 (nthZ ao) (au ao) U U U (fun q2 A2=>cK ty3 A2 U (qO 9 U (ce 3 [29,30,31,32] 29 32 (decide (1048576 < y1)) U (fun c6 hk4=>?_) (fun e=>?_))))))))
 ·exact aj (qO 2 U (hk4 _ U))
 refine aM (ac hs9 U (fun c7 hs10=>?_) (fun c7 hs11=>?_))
 ·exact sr (an (nretP [I 1] (ci hs10)))
 exact aE (qT 6 U (ad (v':=I (((i1+1):Nat):Int)) U (aL ob) (qO 2 U (ag1 y1 hs11))))
theorem qg (h:HF) (v0:List Interest) (Kh:Option Addr) (Kg:Nat) (v0_q:Addr) (v1:List (cp×Interest)) (KV:Nat) (v1_q:Addr) (hv0:SlC Interest.rp h Kh Kg v0) (av0:At h v0_q [.slice Kh v0.length Kg]) (hv1:oZ cp.enc (kR Interest.rp) h KV v1) (av1:At h v1_q [.map (some KV)]):Itr prog (.func (.func 146) #[] (List.toArray [.pointer (some v0_q),.pointer (some v1_q)])) qW (bp v0 v1) h:=by
 refine wN call146 ?_
 intro yf ya yb C Sp Pn h1 A hle m1 m2 m3 hC hy
 refine jQ Dl U ntmps146 U fun X hXM hX=>?_
 have hs0:bp v0 v1=[]++bp v0 v1:=rfl
 refine sr (cK ty24 (av0.mono hle) U (qL 3 [] U ?_))
 refine lp2 v0 (fun i w=>[(0,.func yf ya yb),(2,.pointer (some v1_q)),(6,.slice Kh v0.length Kg),(7,I (v0.length:Int)),(8,I (i:Int))]) (fun w=>w.2.2) (fun w=>w.2.1) (fun i w=>C w.1 w.2.2 w.2.1∧HF.le h1 w.2.2) (fun s1 i w=>w.1++(bp.L1 v1 (bp.K1)) s1) ([],A,h1) ((hv0.mono Interest.ak hle).1.1) hs0 ⟨hC,lf⟩ ?_ ?_
 ·rintro i1 ⟨dn1,A1_,hh1⟩ et hs1 ⟨hC1_,hl1⟩ e
  refine gk ?_
  have hs2:bp v0 v1=dn1:=hs1.trans (List.append_nil _)
  exact wO [] (A:=A1_) Dl U (List.Sublist.refl _) (.inl (hs2 ▸ hC1_))
 rintro i1 ⟨dn1,A1_,hh1⟩ y1 rz1 hd1 cw ao dy fB hs3 ⟨hC1_,hl1⟩ hx1 ag1 e
 refine sr (ad (v':=.bool true) U (cb cw) (qO 8 U (aA (ek (enc:=Interest.cells) ei ml ty61 (hv0.mono Interest.ak (hle.t hl1)).1 (nthZ ao) (au ao) U U U (fun q2 A2=>de ty61 A2 U U (bH zc61 (fun b2=>bE 0 ty61 U U U U U U (iW (L':=[(b2,O (Interest.cells y1) 61)]++(A1_)) U (qO 2 U ?_)))))))))
 let z1:Nat×Obj:=(b2,O (Interest.cells y1) 61)
 refine eB ([z1]) mixed kr jn (fun cB _=>?_)
 refine qB [0] U (tf 1 U U (fun _ _ hj=>fI ty4 U (hj.nth (i:=0) U) U) (qA [2,3] U ?_))
 refine cx 15 U (fun c1=>?_) (fun c1=>?_)
 ·refine tf 4 U U (fun _ _ hj=>eF ty205 ((av1.mono (hle.t hl1)).mono hj.1) U) (qB [5] U (tf 6 U U (fun _ _ hj=>fI ty3 U (hj.nth (i:=0) U) U) (qB [7] U (tf 8 U U (fun _ _ hj=>fI ty3 U (hj.nth (i:=0) U) U) (qB [9] U (tf 10 U U (fun _ _ hj=>fI ty4 U (hj.nth (i:=0) U) U) (tf 13 U U (fun _ _ hj=>jj ty61 U (hj.nth (i:=0) U) U) (tn 11 U (er (cells:=[I y1.Person,I y1.Party,.bool y1.Of]) (places:=[(0,1),(1,1),(2,1)]) FN zc207 kr kr (⟨jn,tn 12 U ?_⟩))))))))))
  obtain ⟨o2,hb2,hm2⟩:=(hv1.mono (kR.mono Interest.ak) (hle.t hl1))
  refine pX (k:=(cp.mk y1.Person y1.Party y1.Of)) underlying205 pP hb2 hm2 (ji zv61) (show (kR Interest.rp) _ (.agg (List.toArray [I 0,I 0,I 0,I 0,I 0,.bool false,.bool false])) (Interest.mk 0 0 0 0 0 false false) from ⟨_,U,U⟩) U U (fun v2 hv2=>?_)
  obtain ⟨_,rfl,rfl⟩:=hv2
  refine ⟨jn,(tf 14 U U (fun _ _ _=>K0 (C6 (mgetD v1 (cp.mk y1.Person y1.Party y1.Of) (Interest.mk 0 0 0 0 0 false false)) y1) eqg61 U U) (tf 15 U U (fun _ _ _=>td U (cb (show (decide ((mgetD v1 (cp.mk y1.Person y1.Party y1.Of) (Interest.mk 0 0 0 0 0 false false))=y1))=((!y1.Gone)&&(decide ((mgetD v1 (cp.mk y1.Person y1.Party y1.Of) (Interest.mk 0 0 0 0 0 false false))=y1))) from by first | (rw [c1];rfl) | (rw [c1];rfl) | simp [c1]))) (tm 16 U ?_)))⟩
  refine cx 28 U (fun c2=>?_) (fun c2=>?_)
  ·have ct1:=c2
   have hs4:=hs3.trans (congrArg (dn1++·) (bt ct1))
   refine tm 17 U (tf 18 U U (fun _ _ hj=>jj ty61 U (hj.nth (i:=0) U) U) ?_)
   have hx1:bp v0 v1=dn1++(y1::(bp.L1 v1 (bp.K1) rz1)):=hs4
   refine tn 19 U (me ([z1]) A1_ ap (hy dn1 y1 _ _ _ _ hx1 hl1 hC1_ U) U U (fun h2 A3 hle1 hC1=>?_) (fun h3 A4 hle2 hS1=>?_) (fun ch1 h4 A5 hle3 hP1 e=>ja (qY [] (A:=A5) Dl (List.sublist_append_right _ _) hP1)))
   ·have hs5:bp v0 v1=(dn1++[y1])++((bp.L1 v1 (bp.K1) rz1)):=hx1.trans ap
    exact ⟨⟨hle1,fun _ hp=>List.Sublist.subset js hp⟩,kM (K2:=[z1]) hle1 (fun _ hp=>hp) (qA [20,21] U (aI kr (qT 4 U (ad (v':=I (((i1+1):Nat):Int)) U (aL ob) (qO 2 U (bU (L':=A3) js (ag1 ((dn1++[y1]),A3,h2) hs5 ⟨hC1,(hl1.t hle1)⟩)))))))⟩
   exact ⟨⟨hle2,fun _ hp=>List.Sublist.subset js hp⟩,kM (K2:=[z1]) hle2 (fun _ hp=>hp) (qA [20,21] U (aI kr (lV U (gk (qX [] (A:=A4) Dl U js (.inr hS1))))))⟩
  have ct2:=c2
  have hs6:=hs3.trans (congrArg (dn1++·) (bf ct2))
  exact tk 17 U U (qR 18 4 U (aI kr (qT 4 U (ad (v':=I (((i1+1):Nat):Int)) U (aL ob) (qO 2 U (bU (L':=A1_) js (ag1 (dn1,A1_,hh1) hs6 ⟨hC1_,hl1⟩)))))))
 refine qR 4 11 U (tf 15 U U (fun _ _ _=>td U (cb (show false=((!y1.Gone)&&(decide ((mgetD v1 (cp.mk y1.Person y1.Party y1.Of) (Interest.mk 0 0 0 0 0 false false))=y1))) from by first | (rw [c1];rfl) | (rw [c1];rfl) | simp [c1]))) (tm 16 U ?_))
 refine cx 28 U (fun c3=>?_) (fun c3=>?_)
 ·have ct3:=c3
  have hs7:=hs3.trans (congrArg (dn1++·) (bt ct3))
  refine tm 17 U (tf 18 U U (fun _ _ hj=>jj ty61 U (hj.nth (i:=0) U) U) ?_)
  have hx2:bp v0 v1=dn1++(y1::(bp.L1 v1 (bp.K1) rz1)):=hs7
  refine tn 19 U (me ([z1]) A1_ ap (hy dn1 y1 _ _ _ _ hx2 hl1 hC1_ U) U U (fun h5 A6 hle4 hC2=>?_) (fun h6 A7 hle5 hS2=>?_) (fun ch2 h7 A8 hle6 hP2 e=>ja (qY [] (A:=A8) Dl (List.sublist_append_right _ _) hP2)))
  ·have hs8:bp v0 v1=(dn1++[y1])++((bp.L1 v1 (bp.K1) rz1)):=hx2.trans ap
   exact ⟨⟨hle4,fun _ hp=>List.Sublist.subset js hp⟩,kM (K2:=[z1]) hle4 (fun _ hp=>hp) (qA [20,21] U (aI kr (qT 4 U (ad (v':=I (((i1+1):Nat):Int)) U (aL ob) (qO 2 U (bU (L':=A6) js (ag1 ((dn1++[y1]),A6,h5) hs8 ⟨hC2,(hl1.t hle4)⟩)))))))⟩
  exact ⟨⟨hle5,fun _ hp=>List.Sublist.subset js hp⟩,kM (K2:=[z1]) hle5 (fun _ hp=>hp) (qA [20,21] U (aI kr (lV U (gk (qX [] (A:=A7) Dl U js (.inr hS2))))))⟩
 have ct4:=c3
 have hs9:=hs3.trans (congrArg (dn1++·) (bf ct4))
 exact tk 17 U U (qR 18 4 U (aI kr (qT 4 U (ad (v':=I (((i1+1):Nat):Int)) U (aL ob) (qO 2 U (bU (L':=A1_) js (ag1 (dn1,A1_,hh1) hs9 ⟨hC1_,hl1⟩)))))))
theorem rI (h:HF) (l:List Interest) (ey:Option Addr) (ew:Nat) (fa:Int) (known:Int) (hl:SlC Interest.rp h ey ew l):iq prog 86 [.slice ey l.length ew,I fa,I known] h (fun v h'=>∃ (rv0:Value),v=rv0∧Itr prog rv0 qW (bO l fa known) h'):=by
 refine sT func86 U ntmps86 U fun X hM hX hF=>?_
 have hs0:bO l fa known=bO l fa known:=rfl
 refine sr (cA (fun b1=>qO 4 U (aA (pi (fun b2=>bH zc205 (fun b3=>dw 0 ty205 U U U U U U (qL 8 [2] U ?_)))))))
 let z1:Nat×Obj:=(b1,O [.slice ey l.length ew] 24)
 let z2:Nat×Obj:=(b3,O [.map (some b2)] 205)
 refine lp2 l (fun i w=>[(1,I fa),(2,I known),(3,Q b1),(7,Q b3),(14,.slice ey l.length ew),(15,I (l.length:Int)),(16,I (i:Int))]) (fun _=>h) (fun w=>[z2,(b2,w.2),z1]) (fun i w=>hO cp.enc (kR Interest.rp) h w.2 w.1∧w.1.length≤0+i) (fun s1 i w=>(bO.L1 fa known (bO.K1 l)) s1 w.1) ([],.map #[] 0) hl.1.1 hs0 ⟨(hO.nil (enc:=cp.enc) (V:=(kR Interest.rp)) (h:=h)),lc⟩ ?_ ?_
 ·rintro i1 ⟨dq,ku⟩ et hs1 ⟨gQ,lz⟩ e
  refine sr (bN 2 U hM (fun h1 hle1 hb1=>bN 0 U hM (fun h2 hle2 hb2=>aA (fX U U (an (eM 0 U hM (fun h3 hle3 hb3=>?_)))))))
  have mc1:oZ cp.enc (kR Interest.rp) h3 b2 dq:=⟨_,hb3,(gQ.mono (kR.mono Interest.ak) (hle1.t hle2)).mono (kR.mono Interest.ak) hle3⟩
  have hs2:bO l fa known=(bp l dq):=hs1
  exact nretH [.func (.func 146) #[] #[Q b1,Q b3]] ⟨(.func (.func 146) #[] #[Q b1,Q b3]),congrArg (fun r:List Interest=>((.func (.func 146) #[] #[Q b1,Q b3]):Value)) hs2.symm,(by rw [hs2];exact (qg h3 l ey ew ⟨b1,0,none⟩ dq b2 ⟨b3,0,none⟩ (hl.mono Interest.ak ((hle1.t hle2).t hle3)) ((dp hb1).mono (hle2.t hle3)) mc1 ((dp hb2).mono hle3)))⟩
 rintro i1 ⟨dq,ku⟩ y1 rz1 hd1 cw ao dy fB hs3 ⟨gQ,lz⟩ hx1 ag1 e
 refine sr (ad (v':=.bool true) U (cb cw) (qO 8 U (aA (ek (enc:=Interest.cells) ei ml ty61 hl.1 (nthZ ao) (au ao) U U U (fun q2 A2=>de ty61 A2 U U (bH zc61 (fun b5=>bE 0 ty61 U U U U U U (qL 9 [0] U (ce 5 [24,25,26,27,28,29] 24 29 (decide (known < y1.Known)) U (fun c1 hk1=>?_) (fun e=>?_))))))))))
 ·exact qL 5 [0] U (hk1 _ U)
 refine aM (ac hs3 U (fun c2 hs4=>?_) (fun c2 hs5=>?_))
 ·exact j6 U (bn (ad (v':=I (((i1+1):Nat):Int)) U (aL ob) (qO 2 U (bU (L':=[z2,(b2,ku),z1]) js (ag1 (dq,ku) hs4 ⟨gQ,lc⟩)))))
 refine qK 9 [0,0,0] U (aA (er (cells:=[I y1.Person,I y1.Party,.bool y1.Of]) (places:=[(0,1),(1,1),(2,1)]) FN zc207 kr kr (bH zc207 (fun b6=>bE 0 ty207 U U U U U U (qL 4 [2] U (cJ 0 ty207 U U U (aA (yW 3 (k:=(cp.mk y1.Person y1.Party y1.Of)) underlying205 pP U gQ (ji zv61) (show (kR Interest.rp) _ (.agg (List.toArray [I 0,I 0,I 0,I 0,I 0,.bool false,.bool false])) (Interest.mk 0 0 0 0 0 false false) from ⟨_,U,U⟩) U U (fun v1 hv1=>?_)))))))))
 obtain ⟨_,rfl,rfl⟩:=hv1
 refine qO 3 U (bH zc61 (fun b7=>bE 0 ty61 U U U U U U (qO 7 U (ce 6 [45,46,47,48,49,50,51] 45 51 (decide ((mgetD dq (cp.mk y1.Person y1.Party y1.Of) (Interest.mk 0 0 0 0 0 false false)).At≤y1.At)) U (fun c3 hk2=>?_) (fun e=>?_)))))
 ·exact qL 6 [2,0] U (hk2 _ U)
 refine aM (ac hs5 U (fun c4 hs6=>?_) (fun c4 hs7=>?_))
 ·exact qK 2 [3] U (cJ 1 ty207 U U U (cJ 2 ty61 U U U (aA (ki 4 (k:=(cp.mk y1.Person y1.Party y1.Of)) (x:=y1) underlying205 pP U gQ U U ⟨_,U,U⟩ (fun mo1 hm1=>qO 3 U (ad (v':=I (((i1+1):Nat):Int)) U (aL ob) (qO 2 U (bU (L':=[z2,(b2,mo1),z1]) js (ag1 ((mput dq (cp.mk y1.Person y1.Party y1.Of) y1),mo1) hs6 ⟨hm1,(by have:=gq dq (cp.mk y1.Person y1.Party y1.Of) y1;first | omega | (simp only [List.length_nil,List.length_cons] at *;omega))⟩)))))))))
 exact aE (qT 2 U (ad (v':=I (((i1+1):Nat):Int)) U (aL ob) (qO 2 U (bU (L':=[z2,(b2,ku),z1]) js (ag1 (dq,ku) hs7 ⟨gQ,lc⟩)))))
theorem qn.mono {h h':HF} (hl:h.le h'):∀ {vs:List Value} {ws:List fN},qn h vs ws→qn h' vs ws
 | [],[],_=>trivial
 | _::_,_::_,⟨⟨r,e,o⟩,t⟩=>⟨⟨r,e,o.mono hl⟩,qn.mono hl t⟩
 | [],_::_,x=>x.elim
 | _::_,[],x=>x.elim
theorem qn.snoc {h:HF} {v:Value} {w:fN} (hw:∃ r,v=.agg (fN.cells w r).toArray∧fN.ok h w r):∀ {vs:List Value} {ws:List fN},qn h vs ws→qn h (vs++[v]) (ws++[w])
 | [],[],_=>⟨hw,trivial⟩
 | _::_,_::_,⟨a,t⟩=>⟨a,qn.snoc hw t⟩
 | [],_::_,x=>x.elim
 | _::_,[],x=>x.elim
theorem qn.len {h:HF}:∀ {vs:List Value} {ws:List fN},qn h vs ws→vs.length=ws.length
 | [],[],_=>rfl
 | _::_,_::_,⟨_,t⟩=>by simp [qn.len t]
 | [],_::_,x=>x.elim
 | _::_,[],x=>x.elim
theorem kn (h:HF) (w:fN) (KT:GG) (q1 q2:Addr) (bm bc:Nat) (om:Obj) (m:List (Int×Bool)) (cap s r:Nat) (vs:List Value) (q:List fN)
  (hw:fN.ok h w KT) (a1:At h q1 [.map (some bm)]) (a2:At h q2 [.chan (some bc)]) (hm:hO (Value.int .i64) iV h om m) (hq:qn h vs q) (hroom:mgetD m w.to false=false→vs.length < cap):
  ld prog (.func (.func 85) #[] #[.pointer (some q1),.pointer (some q2)]) #[.agg (fN.cells w KT).toArray] h [(bm,om),(bc,.chan cap vs.toArray false s r false)]
   (fun x h' B=>x=.returned (.tuple #[])∧h'=h∧∃ om' vs' s',hO (Value.int .i64) iV h om' (conPut w m q).1∧qn h vs' (conPut w m q).2∧B=[(bm,om'),(bc,.chan cap vs'.toArray false s' r false)]):=by
 refine kN (args:=[.agg (fN.cells w KT).toArray]) (cap:=[.pointer (some q1),.pointer (some q2)]) call85 (cU func85 U ntmps85 U fun X hM hX=>sr (cA (fun b1=>qO 3 U (cK ty120 a1 U (qL 2 [0] U (aA (yX 1 (k:=w.to) oh (eE kL) U hm (ji zv4) (show iV _ (.bool false) false from U) U U (fun v hv=>?_))))))))
 obtain rfl:=hv
 cases hc:mgetD m w.to false with
 | true=>
  refine qO 4 U ?_
  have e1:conPut w m q=(m,q):=by simp [conPut,hc]
  refine wp func85 (fun a ha w hw=>kO U a w) (fun w hw=>(hw.sub (L':=[(bm,om),(bc,.chan cap vs.toArray false s r false)]) js).lower) ⟨U,hX,om,vs,s,?_,?_,U⟩
  ·rw [e1];exact hm
  rw [e1];exact hq
 | false=>
  refine qO 3 U ?_
  have e1:conPut w m q=(mput m w.to true,q++[w]):=by simp [conPut,hc]
  refine sr (cK ty120 a1 U (qL 2 [0] U (aA (ki 1 (k:=w.to) (x:=true) oh (eE kL) U hm U U U (fun om' hm'=>qO 2 U (cK ty146 a2 U (cJ 0 ty148 U U U (KA 2 U U U (hroom hc) (aM ?_)))))))))
  refine wp func85 (fun a ha w hw=>kO U a w) (fun ww hww=>(hww.sub (L':=[(bm,om'),(bc,.chan cap (vs++[Value.agg (fN.cells w KT).toArray]).toArray false (s+1) r false)]) js).lower) ⟨U,hX,om',vs++[.agg (fN.cells w KT).toArray],s+1,?_,?_,U⟩
  ·rw [e1];exact hm'
  rw [e1];exact qn.snoc ⟨KT,rfl,hw⟩ hq
theorem V3.mono:wl V3:=fun _ _ _ _ _ e=>e
theorem FR.mono {h h':HF} (hl:h.le h'):∀ {m:List (Int×Option Addr×Nat×Nat)} {f:List (Int×List Interest)} {G:LH},FR h m f G→FR h' m f G
 | [],[],_,e=>e
 | (_,_)::_,(_,_)::_,_,⟨a,b,G1,G2,c,d,t⟩=>⟨a,b,G1,G2,c,d.mono Interest.ak hl,FR.mono hl t⟩
 | [],(_,_)::_,_,x=>x.elim
 | (_,_)::_,[],_,x=>x.elim
theorem FR.get {h:HF} (k:Int):∀ {m:List (Int×Option Addr×Nat×Nat)} {f:List (Int×List Interest)} {G:LH},FR h m f G →
  ∃ b c G1 G2,mgetD m k (none,0,0)=(b,(mgetD f k []).length,c)∧cM Interest.rp 61 h (mgetD f k []) b c G1∧G.Perm (G1++G2) ∧
   ∀ b' c' xs' G1',cM Interest.rp 61 h xs' b' c' G1'→∃ G',FR h (mput m k (b',xs'.length,c')) (mput f k xs') G'∧G'.Perm (G1'++G2)
 | [],[],G,e=>by
  subst e
  refine ⟨none,0,[],[],U,cM.nil,List.Perm.refl _,fun b' c' xs' G1' hG=>⟨G1',⟨U,U,G1',[],by simp,hG,U⟩,by simp⟩⟩
 | (k0,x)::m,(k',xs)::f,G,⟨e,hn,G1,G2,hG,hg,t⟩=>by
  subst e hG
  by_cases hk:k=k0
  ·subst hk
   refine ⟨x.1,x.2.2,G1,G2,?_,?_,List.Perm.refl _,fun b' c' xs' G1' hG'=>⟨G1'++G2,?_,List.Perm.refl _⟩⟩
   ·simp [mgetD,mget?,← hn]
   ·simpa [mgetD,mget?] using hg
   simp only [mput,if_true]
   exact ⟨U,U,G1',G2,U,hG',t⟩
  obtain ⟨b,c,H1,H2,h1,h2,h3,h4⟩:=FR.get k t
  refine ⟨b,c,H1,G1++H2,?_,?_,?_,fun b' c' xs' G1' hG'=>?_⟩
  ·simpa [mgetD,mget?,hk] using h1
  ·simpa [mgetD,mget?,hk] using h2
  ·refine (List.Perm.append_left G1 h3).trans ?_
   rw [← List.append_assoc,← List.append_assoc];exact List.Perm.append_right H2 List.perm_append_comm
  obtain ⟨G',g1,g2⟩:=h4 b' c' xs' G1' hG'
  refine ⟨G1++G',?_,?_⟩
  ·simp only [mput,hk,if_false]
   exact ⟨U,hn,G1,G',U,hg,g1⟩
  refine (List.Perm.append_left G1 g2).trans ?_
  rw [← List.append_assoc,← List.append_assoc];exact List.Perm.append_right H2 List.perm_append_comm
 | [],(_,_)::_,_,x=>x.elim
 | (_,_)::_,[],_,x=>x.elim
theorem FR.keys {h:HF}:∀ {m:List (Int×Option Addr×Nat×Nat)} {f:List (Int×List Interest)} {G:LH},FR h m f G→m.map (·.1)=f.map (·.1)
 | [],[],_,_=>rfl
 | (_,_)::_,(_,_)::_,_,⟨a,_,_,_,_,_,t⟩=>by simp [a,FR.keys t]
 | [],(_,_)::_,_,x=>x.elim
 | (_,_)::_,[],_,x=>x.elim
theorem FR.mem {h:HF}:∀ {m:List (Int×Option Addr×Nat×Nat)} {f:List (Int×List Interest)} {G:LH},FR h m f G→(m.map (·.1)).Nodup→∀ p∈m,p.2.2.1=(mgetD f p.1 []).length∧∃ G1,(∀ q∈G1,q∈G)∧cM Interest.rp 61 h (mgetD f p.1 []) p.2.1 p.2.2.2 G1
 | [],[],_,_,_,_,hp=>(List.not_mem_nil hp).elim
 | (k,x)::m,(k',xs)::f,G,⟨e,hn,G1,G2,hG,hg,t⟩,hnd,p,hp=>by
  subst e hG
  rw [List.map_cons,List.nodup_cons] at hnd
  rcases List.mem_cons.1 hp with rfl | hp
  ·exact ⟨by simp [mgetD,mget?,hn],G1,fun q hq=>List.mem_append_left _ hq,by simpa [mgetD,mget?] using hg⟩
  have hne:¬ p.1=k:=fun e=>hnd.1 (by have h9:=List.mem_map_of_mem (f:=(·.1)) hp;rw [e] at h9;exact h9)
  obtain ⟨h1,H,h2,h3⟩:=FR.mem t hnd.2 p hp
  exact ⟨by simpa [mgetD,mget?,hne] using h1,H,fun q hq=>List.mem_append_right _ (h2 q hq),by simpa [mgetD,mget?,hne] using h3⟩
 | [],(_,_)::_,_,x,_,_,_=>x.elim
 | (_,_)::_,[],_,x,_,_,_=>x.elim
theorem Eb {α : Type}:∀ {f:List (Int×α)} (z:α),(f.map (·.1)).Nodup→f=f.map fun p=>(p.1,mgetD f p.1 z)
 | [],_,_=>rfl
 | (k,x)::f,z,hn=>by
  rw [List.map_cons,List.nodup_cons] at hn
  rw [List.map_cons]
  congr 1
  ·simp [mgetD,mget?]
  have ih:=Eb z hn.2
  conv=>lhs;rw [ih]
  apply List.map_congr_left
  intro p hp
  have hne:¬ p.1=k:=fun e=>hn.1 (by have h9:=List.mem_map_of_mem (f:=(·.1)) hp;rw [e] at h9;exact h9)
  simp [mgetD,mget?,hne]
theorem E0 {h:HF} {h2:HF} (g:Int→List Interest):∀ {es:List MapEntry} {m:List (Int×Option Addr×Nat×Nat)},nf (Value.int .i64) V3 h es m →
  (∀ p∈m,p.2.2.1=(g p.1).length∧SlC Interest.rp h2 p.2.1 p.2.2.2 (g p.1))→nf (Value.int .i64) (VSl Interest.rp) h2 es (m.map fun p=>(p.1,g p.1))
 | [],[],_,_=>trivial
 | e::es,(k,x)::m,⟨a,b,c⟩,hg=>by
  obtain ⟨h1,h3⟩:=hg (k,x) (List.mem_cons_self ..)
  refine ⟨a,⟨x.1,x.2.2,?_,h3⟩,E0 g c fun p hp=>hg p (List.mem_cons_of_mem _ hp)⟩
  rw [show e.val=.slice x.1 x.2.1 x.2.2 from b,h1]
 | [],_::_,x,_=>x.elim
 | _::_,[],x,_=>x.elim
theorem FR.frozen {h h2:HF} {o:Obj} {m:List (Int×Option Addr×Nat×Nat)} {f:List (Int×List Interest)} {G:LH} (hm:hO (Value.int .i64) V3 h o m) (hf:FR h m f G) (hl:h.le h2) (hG:∀ p∈G,h2 p.1=some p.2):
  hO (Value.int .i64) (VSl Interest.rp) h2 o f:=by
 have hnd:=hm.nodup
 have hk:=hf.keys
 obtain ⟨m',hp,hn,es,c,rfl,hE,h1,h3⟩:=hm
 have hmem:=hf.mem hnd
 have hfe:=Eb (f:=f) [] (hk ▸ hnd)
 have hfm:f=m.map fun p=>(p.1,mgetD f p.1 []):=by
  have e1:(f.map fun p=>(p.1,mgetD f p.1 []))=(f.map (·.1)).map fun k=>(k,mgetD f k []):=by rw [List.map_map];rfl
  have e2:(m.map fun p=>(p.1,mgetD f p.1 []))=(m.map (·.1)).map fun k=>(k,mgetD f k []):=by rw [List.map_map];rfl
  rw [e2,hk,← e1];exact hfe
 refine ⟨m'.map fun p=>(p.1,mgetD f p.1 []),?_,?_,es,c,U,E0 (fun k=>mgetD f k []) hE fun p hp'=>?_,h1,h3⟩
 ·have hpm:=hp.map fun p=>(p.1,mgetD f p.1 ([]:List Interest))
  rw [← hfm] at hpm;exact hpm
 ·rw [List.map_map];exact hn
 obtain ⟨h5,G1,h6,h7⟩:=hmem p (hp.mem_iff.1 hp')
 exact ⟨h5,h7.frozen Interest.ak hl fun q hq=>hG q (h6 q hq)⟩
theorem Av (k:Int→Int):∀ (l:List Int) (g:Int),bP.L1 k l g=0→(∀ x∈l,g < x∧x≤1048576)∧l.Pairwise (· < ·)∧∃ g',k g'=0
 | [],g,h=>⟨fun _ h=>(List.not_mem_nil h).elim,List.Pairwise.nil,g,h⟩
 | y::l,g,h=>by
  simp only [bP.L1,Bool.cond_eq_ite,Bool.or_eq_true,decide_eq_true_eq] at h
  split at h
  ·omega
  next hc=>
  obtain ⟨h1,h2,h3⟩:=Av k l y h
  refine ⟨fun x hx=>?_,List.pairwise_cons.2 ⟨fun x hx=>(h1 x hx).1,h2⟩,h3⟩
  rcases List.mem_cons.1 hx with rfl | hx
  ·omega
  have:=h1 x hx;omega
theorem yt {l:List Interest} {person:Int} {parties:List Int} {a b:Int} (h:bP l person parties a b=0):parties.Pairwise (·≤·)∧parties.length≤16:=by
 unfold bP at h
 rw [Bool.cond_eq_ite] at h
 split at h
 ·next hc=>simp at hc;exact absurd h hc
 obtain ⟨_,h2,g',h3⟩:=Av _ _ _ h
 refine ⟨h2.imp (fun h=>Int.le_of_lt h),?_⟩
 unfold bP.K1 at h3
 rw [Bool.cond_eq_ite] at h3
 split at h3
 ·omega
 next hc=>
 simp only [Bool.or_eq_true,not_or,decide_eq_true_eq] at hc
 omega
theorem oq (h:HF) (b:Option Addr) (n c:Nat) (hc:n≤c):Ret prog 88 [.slice b n c] h (.slice b n n):=by
 exact cU func88 U ntmps88 U fun X hM hX=>qK 11 [] U (aA (fu (Kr cQ ty3 U U U hc) (an (Cq [.slice b n n] func88 U hX rd U))))
theorem rJ (h:HF) (l:List Interest) (ey:Option Addr) (ew:Nat) (person:Int) (parties:List Int) (gd:Option Addr) (ga:Nat) (aW known:Int)
  (hl:SlC Interest.rp h ey ew l) (hparties:SlC Rp.int h gd ga parties) (hsz:l.length≤2000000):
  iq prog 45 [.slice ey l.length ew,I person,.slice gd parties.length ga,I aW,I known] h
   (fun v h'=>∃ (rb0:Option Addr) (rc0:Nat),v=.tuple #[.slice rb0 ((dB l person parties aW known).1.length) rc0,.bool ((dB l person parties aW known).2.1),I ((dB l person parties aW known).2.2)]∧SlC Rp.int h' rb0 rc0 ((dB l person parties aW known).1)):=by
 refine cU FG U ntmps45 U fun X hM hX=>sr (cA (fun b1=>qL 12 [0] U (ah (v:=I (bP l person parties aW known)) call84 (sH h l ey ew person parties gd ga aW known hl hparties) U (qO 7 U (j7 U (fun c1=>?_) (fun c1=>?_))))))
 ·have e1:dB l person parties aW known=([],false,bP l person parties aW known):=by unfold dB;rw [c1];rfl
  exact sr (qO 5 U (fR [.slice none 0 0,.bool false,I (bP l person parties aW known)] FG U rd ⟨none,0,by rw [e1];rfl,by rw [e1];exact SlC.nil⟩))
 have hex:bP l person parties aW known=0:=by simpa using c1
 obtain ⟨hps,hpl⟩:=yt hex
 have e1:dB l person parties aW known=((conFind l person parties (bO l aW known)).1,(conFind l person parties (bO l aW known)).2,0):=by unfold dB;rw [c1];rfl
 rw [e1]
 have hstl:=Dv l aW known
 generalize hst:bO l aW known=st at hstl
 refine qT 3 U (aA (pi (fun bf=>bH zc145 (fun b14=>dw 0 ty145 U U U U U U (qO 3 U (aA (pi (fun bm=>bH zc120 (fun b15=>dw 0 ty120 U U U U U U (qL 5 [] U (aA (H7 underlying146 bytes148 U ob (by decide) (fun bc=>bH zc146 (fun b16=>dw 0 ty146 U U U U U U (qO 3 U (aA (fX U U (bH zc149 (fun b17=>dw 0 ty149 U U U U U U (aM (eM 0 U hM (fun h1 l1 f17=>eM 0 U hM (fun h2 l2 f16=>eM 1 U hM (fun h3 l3 f15=>eM 2 U hM (fun h4 l4 f14=>eM 3 U hM (fun h5 l5 f1=>?_))))))))))))))))))))))))))
 have a17:=(dp f17).mono (l2.t (l3.t (l4.t l5)))
 have a16:=(dp f16).mono (l3.t (l4.t l5))
 have a15:=(dp f15).mono (l4.t l5)
 have a14:=(dp f14).mono l5
 have a1:=dp f1
 have l05:h.le h5:=HF.le_trans l1 (l2.t (l3.t (l4.t l5)))
 clear f17 f16 f15 f14 f1 l1 l2 l3 l4 l5
 refine qT 6 U (aA (cf call86 (rI h5 l ey ew aW known (hl.mono Interest.ak l05)) U (fun v1 h6 l6 hp1=>?_)))
 obtain ⟨_,rfl,hit⟩:=hp1
 rw [hst] at hit
 refine qO 2 U (gk ?_)
 refine kd (it:=v1) (xs:=st) (ι:=List (Int×List Interest)×List (Int×Bool)×List fN×List Value×Nat×Obj×List (Int×Option Addr×Nat×Nat)×Obj×LH×HF) [] (fun i=>i.2.2.2.2.2.2.2.2.2)
  (fun i=>[(bc,.chan l.length i.2.2.2.1.toArray false i.2.2.2.2.1 0 false),(bm,i.2.2.2.2.2.1),(bf,i.2.2.2.2.2.2.2.1)]++i.2.2.2.2.2.2.2.2.1)
  (fun rest i=>(conFill person rest i.1 i.2.1 i.2.2.1=conFill person st [] [] []∧(∀ x∈rest,x∈st))∧(qn i.2.2.2.2.2.2.2.2.2 i.2.2.2.1 i.2.2.1∧hO (Value.int .i64) iV i.2.2.2.2.2.2.2.2.2 i.2.2.2.2.2.1 i.2.1∧hO (Value.int .i64) V3 i.2.2.2.2.2.2.2.2.2 i.2.2.2.2.2.2.2.1 i.2.2.2.2.2.2.1∧FR i.2.2.2.2.2.2.2.2.2 i.2.2.2.2.2.2.1 i.1 i.2.2.2.2.2.2.2.2.1)∧(qp st i.2.1 i.2.2.1∧GH st i.1)∧h6.le i.2.2.2.2.2.2.2.2.2∧(∀ k,(mgetD i.1 k []).length+rest.length≤l.length))
  (fun _=>False) (fun _=>False) 0 (fun _ _ _=>False) ([],[],[],[],0,.map #[] 0,[],.map #[] 0,[],h6) FG rfl hit rfl wM (fun _ _ _ _ _ hq=>hq) rfl rfl
  ⟨⟨rfl,fun _ hx=>hx⟩,⟨trivial,hO.nil,hO.nil,rfl⟩,⟨⟨fun _ hp=>(List.not_mem_nil hp).elim,Nat.le_refl _,fun _ hp=>(List.not_mem_nil hp).elim⟩,fun _ _ hx=>(List.not_mem_nil hx).elim⟩,HF.le_refl _,fun k=>by simp [mgetD,mget?];exact hstl⟩ ?_ ?_ (fun _ _ _ hF=>hF.elim) (fun _ _ _ hF=>hF.elim) (fun _ _ _ _ hF=>hF.elim)
 ·rintro l1 r1 lp1 x rest vs1 ⟨f,m,q,vs,s,om,m3,o3,Gf,hh⟩ h7 X' hFR ⟨⟨hfill,hin⟩,⟨hwy,hmm,hm3,hfr⟩,⟨hgq,hgf⟩,h6h,hlen⟩ h67 hh7 hv hX' hXM hlp nx rt ex pn
  dsimp only at hfill hin hwy hmm hm3 hfr hgq hgf h6h hh7 hlen
  obtain rfl:=hv
  have hxst:x∈st:=hin x (List.mem_cons_self ..)
  have hin':∀ y∈rest,y∈st:=fun y hy=>hin y (List.mem_cons_of_mem _ hy)
  have h57:h5.le h7:=HF.le_trans l6 h67
  replace hwy:=hwy.mono hh7
  replace hmm:=hmm.mono iV.mono hh7
  replace hm3:=hm3.mono V3.mono hh7
  replace hfr:=hfr.mono hh7
  have h67':h6.le h7:=h67
  clear hh7 h6h
  refine bn (bH zc61 (fun b18=>bE 0 ty61 U U U U U U (aM (kg 1 U hlp (qT 2 U (cS (L':=[(b18,.cells (Interest.cells x).toArray 61 (0,0)),(l1,.loop { lp1 with state:=.busy }),(r1,.deferred (some [])),(bc,.chan l.length vs.toArray false s 0 false),(bm,om),(bf,o3)]++Gf) (by simp [markB,setNth]) (qK 6 [0] U (j7 U (fun cO=>?_) (fun cO=>?_)))))))))
  ·obtain ⟨gb,gc,G1,G2,hget,hgrow,hperm,hput⟩:=hfr.get x.Person
   have hlx:=hlen x.Person
   simp only [List.length_cons] at hlx
   have hnext:conFill person rest (mput f x.Person (mgetD f x.Person []++[x])) m q=conFill person st [] [] []:=by
    rw [← hfill];simp [conFill,cO]
   have hlen':∀ k,(mgetD (mput f x.Person (mgetD f x.Person []++[x])) k []).length+rest.length≤l.length:=fun k=>by
    rw [qS]
    split
    ·simp only [List.length_append,List.length_cons,List.length_nil];omega
    have:=hlen k;simp only [List.length_cons] at this;omega
   have fin:∀ (e':Env) (b8:Nat) (o8:Obj) (o3':Obj) (gb':Option Addr) (gc':Nat) (G1':LH),cM Interest.rp 61 h7 (mgetD f x.Person []++[x]) gb' gc' G1'→hO (Value.int .i64) V3 h7 o3' (mput m3 x.Person (gb',(mgetD f x.Person []++[x]).length,gc')) →
     TT prog (roundFrame l1 45) 111 [.inBlock 2,.inBlock 1] hFR e' [] X' h7 ([(b8,o8),(b18,.cells (Interest.cells x).toArray 61 (0,0)),(l1,.loop { lp1 with state:=.busy }),(r1,.deferred (some [])),(bc,.chan l.length vs.toArray false s 0 false),(bm,om),(bf,o3')]++(G2++G1')):=by
    intro e' b8 o8 o3' gb' gc' G1' hG' hm'
    obtain ⟨G',hfr',hp'⟩:=hput gb' gc' _ G1' hG'
    exact dY (dY (bU (L':=[(l1,.loop { lp1 with state:=.busy }),(r1,.deferred (some [])),(bc,.chan l.length vs.toArray false s 0 false),(bm,om),(bf,o3')]++(G2++G1')) js (kC (L':=[(l1,.loop { lp1 with state:=.busy }),(r1,.deferred (some [])),(bc,.chan l.length vs.toArray false s 0 false),(bm,om),(bf,o3')]++G') (List.Perm.append_left _ (List.perm_append_comm.trans hp'.symm)) (cS (L':=rdH l1 r1 lp1 (([(bc,.chan l.length vs.toArray false s 0 false),(bm,om),(bf,o3')]++G')++markB [])) (by simp [markB]) (nx (mput f x.Person (mgetD f x.Person []++[x]),m,q,vs,s,om,mput m3 x.Person (gb',(mgetD f x.Person []++[x]).length,gc'),o3',G',h7) _ _ ⟨⟨hnext,hin'⟩,⟨hwy,hmm,hm',hfr'⟩,⟨hgq,hgf.put hxst⟩,h67',hlen'⟩ lf)))))
   have hJ:∀ {L:LH},Jst h7 [(b18,.cells (Interest.cells x).toArray 61 (0,0))] h7 ((b18,.cells (Interest.cells x).toArray 61 (0,0))::L):=CZ js
   have hJ2:∀ {L:LH} {p:Nat×Obj},Jst h7 [(b18,.cells (Interest.cells x).toArray 61 (0,0))] h7 (p::(b18,.cells (Interest.cells x).toArray 61 (0,0))::L):=CZ js
   refine eB [(b18,.cells (Interest.cells x).toArray 61 (0,0))] mixed kr hJ (fun hsep _=>?_)
   refine lG 0 hsep hJ U U kr U (fun _ _ hj=>eF ty145 ((a14.mono h57).mono hj.1) U) (lG 1 hsep hJ U U kr U (fun _ _ _=>nt Gw U) (lG 2 hsep hJ U U kr U (fun _ _ hj=>fI ty3 U (hj.nth (i:=0) U) U) (lG 3 hsep hJ U U kr U (fun _ _ hj=>eF ty145 ((a14.mono h57).mono hj.1) U) (lG 4 hsep hJ U U kr U (fun _ _ _=>nt Gw U) (lG 5 hsep hJ U U kr U (fun _ _ hj=>fI ty3 U (hj.nth (i:=0) U) U) (lG 7 hsep hJ U U kr U (fun _ _ hj=>jj ty61 U (hj.nth (i:=0) U) U) ?_))))))
   refine jq 6 8 kr U U ?_ ?_
   ·refine yX 5 (k:=x.Person) FF (eE kL) U hm3 (ji zv24) (show V3 _ (.slice none 0 0) (none,0,0) from U) U U (fun v hv=>?_)
    rw [hget] at hv
    obtain rfl:=hv
    exact ⟨hJ,tn 8 U (bg (cells:=Interest.cells x) ml ty61 zc61 U U kr (fun b8=>⟨hJ2,tn 9 U (H5 (List.Perm.append_left ([(b8,.cells (Interest.cells x).toArray 61 (0,0)),(b18,.cells (Interest.cells x).toArray 61 (0,0)),(l1,.loop { lp1 with state:=.busy }),(r1,.deferred (some [])),(bc,.chan l.length vs.toArray false s 0 false),(bm,om),(bf,o3)]:LH) hperm) (bS Interest.eC [(b8,.cells (Interest.cells x).toArray 61 (0,0)),(b18,.cells (Interest.cells x).toArray 61 (0,0)),(l1,.loop { lp1 with state:=.busy }),(r1,.deferred (some [])),(bc,.chan l.length vs.toArray false s 0 false),(bm,om),(bf,o3)] G2 (fun G=>[(b8,.cells (Interest.cells x).toArray 61 (0,0)),(b18,.cells (Interest.cells x).toArray 61 (0,0)),(l1,.loop { lp1 with state:=.busy }),(r1,.deferred (some [])),(bc,.chan l.length vs.toArray false s 0 false),(bm,om),(bf,o3)]++(G2++G)) U (fun _=>U) ml ty61 zc61 U bytes61 hgrow U U (du 0 U (show aP Interest.rp h7 (Interest.cells x) [x] from ⟨Interest.cells x,[],by simp,U,U,U⟩)) lo lo (fun gb' gc' G1' hG'=>⟨hJ2,tn 10 U (ki 6 (k:=x.Person) (x:=(gb',(mgetD f x.Person []++[x]).length,gc')) FF (eE kL) U hm3 U U U (fun o3' hm'=>⟨hJ2,aI kr (fin _ b8 _ o3' gb' gc' G1' hG' hm')⟩))⟩)))⟩))⟩
   refine bg (cells:=Interest.cells x) ml ty61 zc61 U U kr (fun b8=>⟨hJ2,tn 6 U (yX 6 (k:=x.Person) FF (eE kL) U hm3 (ji zv24) (show V3 _ (.slice none 0 0) (none,0,0) from U) U U (fun v hv=>?_))⟩)
   rw [hget] at hv
   obtain rfl:=hv
   exact ⟨hJ2,tn 9 U (H5 (List.Perm.append_left ([(b8,.cells (Interest.cells x).toArray 61 (0,0)),(b18,.cells (Interest.cells x).toArray 61 (0,0)),(l1,.loop { lp1 with state:=.busy }),(r1,.deferred (some [])),(bc,.chan l.length vs.toArray false s 0 false),(bm,om),(bf,o3)]:LH) hperm) (bS Interest.eC [(b8,.cells (Interest.cells x).toArray 61 (0,0)),(b18,.cells (Interest.cells x).toArray 61 (0,0)),(l1,.loop { lp1 with state:=.busy }),(r1,.deferred (some [])),(bc,.chan l.length vs.toArray false s 0 false),(bm,om),(bf,o3)] G2 (fun G=>[(b8,.cells (Interest.cells x).toArray 61 (0,0)),(b18,.cells (Interest.cells x).toArray 61 (0,0)),(l1,.loop { lp1 with state:=.busy }),(r1,.deferred (some [])),(bc,.chan l.length vs.toArray false s 0 false),(bm,om),(bf,o3)]++(G2++G)) U (fun _=>U) ml ty61 zc61 U bytes61 hgrow U U (du 0 U (show aP Interest.rp h7 (Interest.cells x) [x] from ⟨Interest.cells x,[],by simp,U,U,U⟩)) lo lo (fun gb' gc' G1' hG'=>⟨hJ2,tn 10 U (ki 6 (k:=x.Person) (x:=(gb',(mgetD f x.Person []++[x]).length,gc')) FF (eE kL) U hm3 U U U (fun o3' hm'=>⟨hJ2,aI kr (fin _ b8 _ o3' gb' gc' G1' hG' hm')⟩))⟩)))⟩
  refine qK 4 [0] U (cK ty3 (a1.mono h57) U (qO 3 U ?_))
  have hlen':∀ k,(mgetD f k []).length+rest.length≤l.length:=fun k=>by have:=hlen k;simp only [List.length_cons] at this;omega
  refine j7 U (fun cP=>?_) (fun cP=>?_)
  ·have hnext:conFill person rest f (conPut ⟨[x.No],x.Party⟩ m q).1 (conPut ⟨[x.No],x.Party⟩ m q).2=conFill person st [] [] []:=by
    rw [← hfill];simp only [conFill,cO,cond_false,cP,cond_true]
   have hpty:(fN.mk [x.No] x.Party).to∈st.map (·.Party):=List.mem_map_of_mem hxst
   refine bn (cK ty149 (a17.mono h57) U (qL 2 [0] U (aA (GQ (cells:=[I x.No]) hXM cQ ty3 zc3 U U kr (fun b65 hb65=>yM 0 U hb65 (fun h8 l8 f8=>?_))))))
   have sl8:SlC Rp.int h8 (some ⟨b65,0,none⟩) 1 [x.No]:=aP.slB0 (T:=3) (fz:=(0,0)) (show aP Rp.int h8 [I x.No] [x.No] from ⟨[I x.No],[],rfl,rfl,rfl,rfl⟩) f8
   refine qL 2 [0] U (aA (er (cells:=fN.cells ⟨[x.No],x.Party⟩ ⟨some ⟨b65,0,none⟩,1⟩) (places:=[(0,1),(1,1)]) underlying148 zc148 kr kr ?_))
   refine aA (Cz (vs:=[.agg (fN.cells ⟨[x.No],x.Party⟩ ⟨some ⟨b65,0,none⟩,1⟩).toArray]) [(bm,om),(bc,.chan l.length vs.toArray false s 0 false)] ([(b18,.cells (Interest.cells x).toArray 61 (0,0)),(l1,.loop { lp1 with state:=.busy }),(r1,.deferred (some [])),(bf,o3)]++Gf) ?_
    (kn h8 ⟨[x.No],x.Party⟩ ⟨some ⟨b65,0,none⟩,1⟩ ⟨b15,0,none⟩ ⟨b16,0,none⟩ bm bc om m l.length s 0 vs q ⟨sl8⟩ (a15.mono (h57.t l8)) (a16.mono (h57.t l8)) (hmm.mono iV.mono l8) (hwy.mono l8) (fun hno=>by rw [hwy.len];exact sV hgq hmm.nodup hpty hstl hno)) rfl rfl (fun B hB=>?_))
   ·exact tj [(b18,.cells (Interest.cells x).toArray 61 (0,0)),(l1,.loop { lp1 with state:=.busy }),(r1,.deferred (some []))] ((bf,o3)::Gf) (bc,.chan l.length vs.toArray false s 0 false) (bm,om)
   obtain ⟨om',vs',s',hm',hw',rfl⟩:=hB
   refine qO 3 U (bU (L':=[(bm,om'),(bc,.chan l.length vs'.toArray false s' 0 false)]++([(l1,.loop { lp1 with state:=.busy }),(r1,.deferred (some [])),(bf,o3)]++Gf)) js ?_)
   refine kC (L':=rdH l1 r1 lp1 (([(bc,.chan l.length vs'.toArray false s' 0 false),(bm,om'),(bf,o3)]++Gf)++markB [])) ?_ ?_
   ·rw [show markB []=([]:LH) from rfl,List.append_nil]
    exact (tj [(l1,Obj.loop { lp1 with state:=.busy }),(r1,.deferred (some []))] ((bf,o3)::Gf) (bc,.chan l.length vs'.toArray false s' 0 false) (bm,om')).symm
   exact nx (f,(conPut ⟨[x.No],x.Party⟩ m q).1,(conPut ⟨[x.No],x.Party⟩ m q).2,vs',s',om',m3,o3,Gf,h8) _ _ ⟨⟨hnext,hin'⟩,⟨hw',hm',hm3.mono V3.mono l8,hfr.mono l8⟩,⟨pF hgq hpty (by simp),hgf⟩,HF.le_trans h67' l8,hlen'⟩ lf
  have hnext:conFill person rest f m q=conFill person st [] [] []:=by
   rw [← hfill];simp only [conFill,cO,cond_false,cP]
  exact aE (qT 2 U (bU (L':=[(l1,.loop { lp1 with state:=.busy }),(r1,.deferred (some [])),(bc,.chan l.length vs.toArray false s 0 false),(bm,om),(bf,o3)]++Gf) js (cS (L':=rdH l1 r1 lp1 (([(bc,.chan l.length vs.toArray false s 0 false),(bm,om),(bf,o3)]++Gf)++markB [])) (by simp [markB]) (nx (f,m,q,vs,s,om,m3,o3,Gf,h7) _ _ ⟨⟨hnext,hin'⟩,⟨hwy,hmm,hm3,hfr⟩,⟨hgq,hgf⟩,h67',hlen'⟩ lf))))
 rintro dm ⟨f,m0,q0,vs0,s0,om0,m3,o3,Gf,hh⟩ h7 ⟨⟨hfill,_⟩,⟨hwy,hmm,hm3,hfr⟩,⟨hgq,hgf⟩,h6h,hlen⟩ hh7 h67
 dsimp only at hfill hwy hmm hm3 hfr hgq hgf h6h hh7 hlen
 refine dY (eM 2 U hM (fun h8 l8 f8=>E1 [(bc,.chan l.length vs0.toArray false s0 0 false),(bm,om0)] Gf (markB [dm]) U hM (fun h9 l9 hG9=>?_)))
 have h89:hh.le h9:=HF.le_trans hh7 (l8.t l9)
 have hmF:hO (Value.int .i64) (VSl Interest.rp) h9 o3 f:=FR.frozen hm3 hfr h89 hG9
 have hbf:h9 bf=some o3:=l9 _ _ f8
 have h59:h5.le h9:=HF.le_trans l6 (h67.t (l8.t l9))
 replace a14:=a14.mono h59
 replace a15:=a15.mono h59
 replace a16:=a16.mono h59
 replace a17:=a17.mono h59
 have hpar:=(hparties.mono Rp.aK l05).mono Rp.aK h59
 have hcf:conFind l person parties st=conLoop parties f (l.length+1) m0 q0:=by
  unfold conFind;rw [← hfill];rfl
 have hwy0:=hwy.mono h89
 have hmm0:=hmm.mono iV.mono h89
 clear hwy hmm hm3 hfr hG9 l8 f8 h6h hh7 h67 hfill a1
 generalize hCF:conFind l person parties st=CF at hcf
 refine dz ?_
 refine iH (ι:=List Value×Nat×Nat×Obj×HF) (fun i=>[]) (fun i=>i.2.2.2.2) (fun i=>[(bc,.chan l.length i.1.toArray false i.2.1 i.2.2.1 false),(bm,i.2.2.2.1)]++markB [dm]) (fun i=>CF=([],false)) ?_ (fun hx=>?_)
 ·rintro ⟨vs,s,r,om,hh⟩ hc e
  exact sr (qO 4 U (pT [dm] [.slice none 0 0,.bool false,I 0] FG U rd ⟨none,0,by rw [hc];rfl,by rw [hc];exact SlC.nil⟩))
 refine j5 (ι:=Nat×List (Int×Bool)×List fN×List Value×Nat×Nat×Obj×HF) (fun i=>[(2,.slice gd parties.length ga),(14,Q b14),(16,Q b16),(17,Q b17)]) (fun i=>i.2.2.2.2.2.2.2)
  (fun i=>[(bc,.chan l.length i.2.2.2.1.toArray false i.2.2.2.2.1 i.2.2.2.2.2.1 false),(bm,i.2.2.2.2.2.2.1)]++markB [dm])
  (fun i=>CF=conLoop parties f i.1 i.2.1 i.2.2.1∧i.2.2.1.length+(l.length - i.2.1.length) < i.1∧qn i.2.2.2.2.2.2.2 i.2.2.2.1 i.2.2.1∧hO (Value.int .i64) iV i.2.2.2.2.2.2.2 i.2.2.2.2.2.2.1 i.2.1∧qp st i.2.1 i.2.2.1∧h9.le i.2.2.2.2.2.2.2)
  (fun i=>i.1) (l.length+1,m0,q0,vs0,s0,0,om0,h9) rd (fun w hw=>hw) ⟨hcf,?_,hwy0,hmm0,hgq,HF.le_refl _⟩ ?_
 ·show q0.length+(l.length - m0.length) < l.length+1
  have:=hgq.2.1;have:=It hgq hmm0.nodup;omega
 clear hcf hwy0 hmm0 hgq
 rintro ⟨n,m,q,vs,s,r,om,hh⟩ ⟨hcf,hn,hwy,hmm,hgq,h9h⟩ ag e
 dsimp only at hcf hn hwy hmm hgq h9h
 obtain ⟨n,rfl⟩:∃ n',n=n'+1:=⟨n - 1,by omega⟩
 refine qT 3 U (cK ty146 (a16.mono h9h) U (aA (fu (Kq underlying146 (List.mem_cons_self ..) U) ?_)))
 rcases q with _ | ⟨w,q⟩
 ·have hv0:vs=[]:=List.eq_nil_of_length_eq_zero hwy.len
  subst hv0
  exact ad (v':=.bool false) U U (qO 3 U (hx ([],s,r,om,hh) _ hcf trivial))
 rcases vs with _ | ⟨v,vs⟩
 ·exact hwy.elim
 obtain ⟨⟨wr,rfl,hok⟩,hwy⟩:=hwy
 refine ad (v':=.bool true) U (cb (decide_eq_true (by simp))) (qO 6 U (cK ty146 (a16.mono h9h) U (KB 0 underlying146 zv148 U U (bH zc148 (fun b19=>bE 0 ty148 U U U U U U (qL 7 [0] U (ah (v:=.tuple #[I (slices_BinarySearch_int parties w.to).1,.bool (slices_BinarySearch_int parties w.to).2]) call87 (li hh parties gd ga w.to (hpar.mono Rp.aK h9h) hps ob) U (qO 10 U ?_))))))))
 have hgq':qp st m q:=⟨hgq.1,by have:=hgq.2.1;simp only [List.length_cons] at this;omega,fun w' hw'=>hgq.2.2 w' (List.mem_cons_of_mem _ hw')⟩
 have hw8:=hgq.2.2 w (List.mem_cons_self ..)
 simp only [List.length_cons] at hn
 refine j7 U (fun cF=>?_) (fun cF=>?_)
 ·have hc2:CF=(w.path,true):=by
   rw [hcf];simp only [conLoop];rw [show parties.contains w.to=true from cF];rfl
  exact qK 8 [0] U (bU (L':=[(bc,.chan l.length vs.toArray false s (r+1) false),(bm,om)]++markB [dm]) js (pT [dm] [.slice wr.ss w.path.length wr.uF,.bool true,I 0] FG U rd ⟨wr.ss,wr.uF,by rw [hc2];rfl,by rw [hc2];exact hok.path⟩))
 have hc2:CF=(bif (w.path.length:Int)==8 then conLoop parties f n m q else conLoop parties f n (conStep w.path (mgetD f w.to []) m q).1 (conStep w.path (mgetD f w.to []) m q).2):=by
  rw [hcf];simp only [conLoop];rw [show parties.contains w.to=false from cF];rfl
 refine qK 9 [0] U (j7 U (fun c8=>?_) (fun c8=>?_))
 ·rw [show ((w.path.length:Int)==8)=true from c8] at hc2
  exact j6 U (bU (L':=[(bc,.chan l.length vs.toArray false s (r+1) false),(bm,om)]++markB [dm]) js (ag (n,m,q,vs,s,r+1,om,hh) _ (Nat.lt_succ_self _) ⟨hc2,by show q.length+(l.length - m.length) < n;omega,hwy,hmm,hgq',h9h⟩ rd))
 rw [show ((w.path.length:Int)==8)=false from c8] at hc2
 refine qT 3 U (cK ty145 (a14.mono h9h) U (qL 2 [0] U (aA (pX (k:=w.to) FF (eE kL) (h9h _ _ hbf) (hmF.mono (VSl.mono Interest.ak) h9h) (ji zv24) (show VSl Interest.rp _ (.slice none 0 0) [] from ⟨none,0,U,SlC.nil⟩) U U (fun v hv=>?_)))))
 obtain ⟨xb,xc,rfl,slx⟩:=hv
 have hxs:∀ y∈mgetD f w.to [],y∈st:=hgf w.to
 generalize mgetD f w.to []=xs at slx hc2 hxs
 refine qL 3 [] U ?_
 have hw7:w.path.length+1≤8:=by simp at c8;omega
 have hsum:=we (path:=w.path) hstl hw7 hxs hgq' hmm.nodup
 generalize hcs:conStep w.path xs m q=CS at hc2 hsum
 refine iH (ι:=List Value×Nat×Obj×HF) (fun i=>[(2,.slice gd parties.length ga),(14,Q b14),(16,Q b16),(17,Q b17)]) (fun i=>i.2.2.2) (fun i=>[(b19,.cells (fN.cells w wr).toArray 148 (0,0)),(bc,.chan l.length i.1.toArray false i.2.1 (r+1) false),(bm,i.2.2.1)]++markB [dm])
  (fun i=>qn i.2.2.2 i.1 CS.2∧hO (Value.int .i64) iV i.2.2.2 i.2.2.1 CS.1∧qp st CS.1 CS.2∧hh.le i.2.2.2) ?_ (fun hx2=>?_)
 ·rintro ⟨vs2,s2,om2,h10⟩ ⟨hw2,hm2,hg2,hle2⟩ e2
  exact dY (bU (L':=[(bc,.chan l.length vs2.toArray false s2 (r+1) false),(bm,om2)]++markB [dm]) js (ag (n,CS.1,CS.2,vs2,s2,r+1,om2,h10) _ (Nat.lt_succ_self _) ⟨hc2,by show CS.2.length+(l.length - CS.1.length) < n;omega,hw2,hm2,hg2,HF.le_trans h9h hle2⟩ rd))
 refine j5 (ι:=Nat×List (Int×Bool)×List fN×List Value×Nat×Obj×HF×List Interest) (fun i=>[(2,.slice gd parties.length ga),(14,Q b14),(16,Q b16),(17,Q b17),(19,Q b19),(92,.slice xb xs.length xc),(93,I (xs.length:Int)),(94,I (i.1:Int))]) (fun i=>i.2.2.2.2.2.2.1)
  (fun i=>[(b19,.cells (fN.cells w wr).toArray 148 (0,0)),(bc,.chan l.length i.2.2.2.1.toArray false i.2.2.2.2.1 (r+1) false),(bm,i.2.2.2.2.2.1)]++markB [dm])
  (fun i=>xs.drop i.1=i.2.2.2.2.2.2.2∧conStep w.path i.2.2.2.2.2.2.2 i.2.1 i.2.2.1=CS∧qn i.2.2.2.2.2.2.1 i.2.2.2.1 i.2.2.1∧hO (Value.int .i64) iV i.2.2.2.2.2.2.1 i.2.2.2.2.2.1 i.2.1∧qp st i.2.1 i.2.2.1∧hh.le i.2.2.2.2.2.2.1)
  (fun i=>i.2.2.2.2.2.2.2.length) (0,m,q,vs,s,om,hh,xs) rd (fun w hw=>hw) ⟨rfl,hcs,hwy,hmm,hgq',HF.le_refl _⟩ ?_
 rintro ⟨i1,m2,q2,vs2,s2,om2,h10,rest⟩ ⟨hd1,hcs2,hw2,hm2,hg2,hle2⟩ ag2 e2
 dsimp only at hd1 hcs2 hw2 hm2 hg2 hle2
 rcases rest with _ | ⟨x,rest⟩
 ·have hge:=nN hd1
  refine sr (ad (v':=.bool false) U (cb hge) (qO 4 U ?_))
  obtain rfl:(m2,q2)=CS:=hcs2
  exact hx2 (vs2,s2,om2,h10) _ ⟨hw2,hm2,hg2,hle2⟩ rd
 have hlt:=uo hd1
 have hget:=u0 hd1
 have hxst:x∈st:=hxs x (fq hd1)
 have hpty:(fN.mk (w.path++[x.No]) x.Party).to∈st.map (·.Party):=List.mem_map_of_mem hxst
 have slx2:=slx.mono Interest.ak hle2
 have hokp:=hok.path.mono Rp.aK hle2
 have fB:=slx.1.1
 have dy:=iY hd1
 have h910:h9.le h10:=HF.le_trans h9h hle2
 refine sr (ad (v':=.bool true) U (cb hlt) (qO 8 U (aA (ek (enc:=Interest.cells) ei ml ty61 slx2.1 (nthZ hget) (au hget) U U U (fun qx Ax=>de ty61 Ax U U (bH zc61 (fun b23=>bE 0 ty61 U U U U U U (aM ?_))))))))
 refine Jl (ι:=List Value×Nat×Obj×HF) (fun i=>[(2,.slice gd parties.length ga),(14,Q b14),(16,Q b16),(17,Q b17),(19,Q b19),(92,.slice xb xs.length xc),(93,I (xs.length:Int)),(94,I (i1:Int))]) (fun i=>i.2.2.2) (fun i=>[(b19,.cells (fN.cells w wr).toArray 148 (0,0)),(bc,.chan l.length i.1.toArray false i.2.1 (r+1) false),(bm,i.2.2.1)]++markB [dm])
  (fun i=>h10.le i.2.2.2∧qn i.2.2.2 i.1 (conPut ⟨w.path++[x.No],x.Party⟩ m2 q2).2∧hO (Value.int .i64) iV i.2.2.2 i.2.2.1 (conPut ⟨w.path++[x.No],x.Party⟩ m2 q2).1) ?_ (fun fin=>?_)
 ·rintro ⟨vs3,s3,om3,h11⟩ ⟨l11,hw3,hm3⟩ e3
  dsimp only at l11 hw3 hm3
  exact dY (bn (ad (v':=I ((i1+1:Nat):Int)) U (aL ob) (qO 2 U (ag2 (i1+1,(conPut ⟨w.path++[x.No],x.Party⟩ m2 q2).1,(conPut ⟨w.path++[x.No],x.Party⟩ m2 q2).2,vs3,s3,om3,h11,rest) _ (Nat.lt_succ_self _) ⟨lL hd1,hcs2,hw3,hm3,pF hg2 hpty (by simpa using hw7),HF.le_trans hle2 l11⟩ rd))))
 have hKs:∀ p∈([(b23,.cells (Interest.cells x).toArray 61 (0,0)),(b19,.cells (fN.cells w wr).toArray 148 (0,0))]:LH),p∈([(b23,.cells (Interest.cells x).toArray 61 (0,0)),(b19,.cells (fN.cells w wr).toArray 148 (0,0)),(bc,.chan l.length vs2.toArray false s2 (r+1) false),(bm,om2)]++markB [dm]:LH):=fun p hp=>by
  rcases List.mem_cons.1 hp with rfl | hp
  ·simp
  rw [List.mem_singleton.1 hp];simp
 have hJ:Jst h10 [(b23,.cells (Interest.cells x).toArray 61 (0,0)),(b19,.cells (fN.cells w wr).toArray 148 (0,0))] h10 ([(b23,.cells (Interest.cells x).toArray 61 (0,0)),(b19,.cells (fN.cells w wr).toArray 148 (0,0)),(bc,.chan l.length vs2.toArray false s2 (r+1) false),(bm,om2)]++markB [dm]):=⟨HF.le_refl _,hKs⟩
 refine eB [(b23,.cells (Interest.cells x).toArray 61 (0,0)),(b19,.cells (fN.cells w wr).toArray 148 (0,0))] mixed kr hJ (fun hsep _=>?_)
 refine lG 0 hsep hJ U U kr U (fun _ _ hj=>eF ty149 ((a17.mono h910).mono hj.1) U) (lG 1 hsep hJ U U kr U (fun _ _ _=>nt IY U) (lG 2 hsep hJ U U kr U (fun _ _ hj=>fI ty31 U (hj.nth (i:=1) U) U) (lG 4 hsep hJ U U kr U (fun _ _ _=>nt JM U) (lG 5 hsep hJ U U kr U (fun _ _ hj=>fI ty3 U (hj.nth (i:=0) U) U) (lG 8 hsep hJ U U kr U (fun _ _ _=>nt JL U) (lG 9 hsep hJ U U kr U (fun _ _ hj=>fI ty3 U (hj.nth (i:=0) U) U) ?_))))))
 have hpl8:w.path.length≤wr.uF:=hokp.2
 have hpn:=hokp.1.1
 refine jq 3 6 kr U U ?_ ?_
 ·refine eK (v:=.slice wr.ss w.path.length w.path.length) call88 (oq h10 wr.ss w.path.length wr.uF hpl8) U ⟨hJ,tn 6 U (bg (cells:=[I x.No]) cQ ty3 zc3 U U kr (fun b6=>⟨⟨HF.le_refl _,fun p hp=>List.mem_cons_of_mem _ (hKs p hp)⟩,tn 7 U (BB (R:=Rp.int) (xs:=w.path) (ys:=[x.No]) cQ ty3 zc3 U bytes3 (fo hokp.1) U U (du 0 U (show aP Rp.int h10 [I x.No] [x.No] from ⟨[I x.No],[],U,U,U,U⟩)) (by simp) lo lo (fun nb nc NG hNG=>⟨⟨HF.le_refl _,fun p hp=>List.mem_append_right NG (List.mem_cons_of_mem _ (hKs p hp))⟩,tn 10 U (er (cells:=fN.cells ⟨w.path++[x.No],x.Party⟩ ⟨nb,nc⟩) (places:=[(0,1),(1,1)]) underlying148 zc148 kr kr ⟨⟨HF.le_refl _,fun p hp=>List.mem_append_right NG (List.mem_cons_of_mem _ (hKs p hp))⟩,tn 11 U (jK Rp.aK [] NG ((b6,.cells [Value.int .i64 x.No].toArray 3 (0,0))::[(b23,.cells (Interest.cells x).toArray 61 (0,0)),(b19,.cells (fN.cells w wr).toArray 148 (0,0)),(bc,.chan l.length vs2.toArray false s2 (r+1) false),(bm,om2)]++markB [dm]) U hM hNG (fun h11 l11 slN=>?_))⟩)⟩))⟩))⟩
  refine Cz (vs:=[.agg (fN.cells ⟨w.path++[x.No],x.Party⟩ ⟨nb,nc⟩).toArray]) [(bm,om2),(bc,.chan l.length vs2.toArray false s2 (r+1) false)] ([(b6,.cells [Value.int .i64 x.No].toArray 3 (0,0)),(b23,.cells (Interest.cells x).toArray 61 (0,0)),(b19,.cells (fN.cells w wr).toArray 148 (0,0))]++markB [dm]) ?_
   (kn h11 ⟨w.path++[x.No],x.Party⟩ ⟨nb,nc⟩ ⟨b15,0,none⟩ ⟨b16,0,none⟩ bm bc om2 m2 l.length s2 (r+1) vs2 q2 ⟨slN⟩ (a15.mono (h910.t l11)) (a16.mono (h910.t l11)) (hm2.mono iV.mono l11) (hw2.mono l11) (fun hno=>by rw [hw2.len];exact sV hg2 hm2.nodup hpty hstl hno)) rfl rfl (fun B hB=>?_)
  ·exact tj [(b6,.cells [Value.int .i64 x.No].toArray 3 (0,0)),(b23,.cells (Interest.cells x).toArray 61 (0,0)),(b19,.cells (fN.cells w wr).toArray 148 (0,0))] (markB [dm]) (bc,.chan l.length vs2.toArray false s2 (r+1) false) (bm,om2)
  obtain ⟨om3,vs3,s3,hm3,hw3,rfl⟩:=hB
  exact ⟨⟨l11,fun p hp=>by rcases hp with _ | ⟨_,_ | ⟨_,h⟩⟩;simp;simp;cases h⟩,kM (K2:=[(b23,.cells (Interest.cells x).toArray 61 (0,0)),(b19,.cells (fN.cells w wr).toArray 148 (0,0))]) l11 (fun _ hp=>hp) (aI kr (kC (tj [(b6,.cells [Value.int .i64 x.No].toArray 3 (0,0)),(b23,.cells (Interest.cells x).toArray 61 (0,0)),(b19,.cells (fN.cells w wr).toArray 148 (0,0))] (markB [dm]) (bc,.chan l.length vs3.toArray false s3 (r+1) false) (bm,om3)).symm (bU (L':=[(b19,.cells (fN.cells w wr).toArray 148 (0,0)),(bc,.chan l.length vs3.toArray false s3 (r+1) false),(bm,om3)]++markB [dm]) js (fin (vs3,s3,om3,h11) _ ⟨l11,hw3,hm3⟩ rd))))⟩
 refine bg (cells:=[I x.No]) cQ ty3 zc3 U U kr (fun b6=>⟨⟨HF.le_refl _,fun p hp=>List.mem_cons_of_mem _ (hKs p hp)⟩,tn 3 U (eK (v:=.slice wr.ss w.path.length w.path.length) call88 (oq h10 wr.ss w.path.length wr.uF hpl8) U ⟨⟨HF.le_refl _,fun p hp=>List.mem_cons_of_mem _ (hKs p hp)⟩,tn 7 U (BB (R:=Rp.int) (xs:=w.path) (ys:=[x.No]) cQ ty3 zc3 U bytes3 (fo hokp.1) U U (du 0 U (show aP Rp.int h10 [I x.No] [x.No] from ⟨[I x.No],[],U,U,U,U⟩)) (by simp) lo lo (fun nb nc NG hNG=>⟨⟨HF.le_refl _,fun p hp=>List.mem_append_right NG (List.mem_cons_of_mem _ (hKs p hp))⟩,tn 10 U (er (cells:=fN.cells ⟨w.path++[x.No],x.Party⟩ ⟨nb,nc⟩) (places:=[(0,1),(1,1)]) underlying148 zc148 kr kr ⟨⟨HF.le_refl _,fun p hp=>List.mem_append_right NG (List.mem_cons_of_mem _ (hKs p hp))⟩,tn 11 U (jK Rp.aK [] NG ((b6,.cells [Value.int .i64 x.No].toArray 3 (0,0))::[(b23,.cells (Interest.cells x).toArray 61 (0,0)),(b19,.cells (fN.cells w wr).toArray 148 (0,0)),(bc,.chan l.length vs2.toArray false s2 (r+1) false),(bm,om2)]++markB [dm]) U hM hNG (fun h11 l11 slN=>?_))⟩)⟩))⟩)⟩)
 refine Cz (vs:=[.agg (fN.cells ⟨w.path++[x.No],x.Party⟩ ⟨nb,nc⟩).toArray]) [(bm,om2),(bc,.chan l.length vs2.toArray false s2 (r+1) false)] ([(b6,.cells [Value.int .i64 x.No].toArray 3 (0,0)),(b23,.cells (Interest.cells x).toArray 61 (0,0)),(b19,.cells (fN.cells w wr).toArray 148 (0,0))]++markB [dm]) ?_
  (kn h11 ⟨w.path++[x.No],x.Party⟩ ⟨nb,nc⟩ ⟨b15,0,none⟩ ⟨b16,0,none⟩ bm bc om2 m2 l.length s2 (r+1) vs2 q2 ⟨slN⟩ (a15.mono (h910.t l11)) (a16.mono (h910.t l11)) (hm2.mono iV.mono l11) (hw2.mono l11) (fun hno=>by rw [hw2.len];exact sV hg2 hm2.nodup hpty hstl hno)) rfl rfl (fun B hB=>?_)
 ·exact tj [(b6,.cells [Value.int .i64 x.No].toArray 3 (0,0)),(b23,.cells (Interest.cells x).toArray 61 (0,0)),(b19,.cells (fN.cells w wr).toArray 148 (0,0))] (markB [dm]) (bc,.chan l.length vs2.toArray false s2 (r+1) false) (bm,om2)
 obtain ⟨om3,vs3,s3,hm3,hw3,rfl⟩:=hB
 exact ⟨⟨l11,fun p hp=>by rcases hp with _ | ⟨_,_ | ⟨_,h⟩⟩;simp;simp;cases h⟩,kM (K2:=[(b23,.cells (Interest.cells x).toArray 61 (0,0)),(b19,.cells (fN.cells w wr).toArray 148 (0,0))]) l11 (fun _ hp=>hp) (aI kr (kC (tj [(b6,.cells [Value.int .i64 x.No].toArray 3 (0,0)),(b23,.cells (Interest.cells x).toArray 61 (0,0)),(b19,.cells (fN.cells w wr).toArray 148 (0,0))] (markB [dm]) (bc,.chan l.length vs3.toArray false s3 (r+1) false) (bm,om3)).symm (bU (L':=[(b19,.cells (fN.cells w wr).toArray 148 (0,0)),(bc,.chan l.length vs3.toArray false s3 (r+1) false),(bm,om3)]++markB [dm]) js (fin (vs3,s3,om3,h11) _ ⟨l11,hw3,hm3⟩ rd))))⟩
theorem pR (h:HF) (dG:Int) (q:aC) (j4:fL) (q_q:Addr) (at_:Int) (at__q:Addr) (hq:aC.ok h q j4) (aq:At h q_q (aC.cells q j4)) (aat_:At h at__q [I at_]) (hsm:smR q.Register):Ret prog 63 [I dG,.pointer (some q_q),.pointer (some at__q)] h (.bool (bB dG q at_)):=by
 refine sT func63 U ntmps63 U fun X hM hX hF=>?_
 have hs0:bB dG q at_=bB dG q at_:=rfl
 refine qK 8 [] U (jF (j:=2) ty24 aq U U (qL 3 [] U (jF (j:=13) ty31 aq U U (cK ty3 aat_ U (qL 1 [] U (jF (j:=48) ty3 aq U U (aA (cf call45 (rJ _ _ _ _ dG _ _ _ at_ q.known hq.Register.Interests hq.doc.Parties hsm.2.2.2.1) U (fun v1 h1 hle1 hp1=>?_)))))))))
 obtain ⟨rb1,rc1,rfl,sl1⟩:=hp1
 refine qO 13 U (ce 2 [25,26,27] 25 27 ((dB q.Register.Interests dG q.doc.Parties at_ q.known).2.1) U (fun c1 hk1=>?_) (fun e=>?_))
 ·exact aj (dZ U (hk1 _ U))
 exact an (nretP [.bool (((dB q.Register.Interests dG q.doc.Parties at_ q.known).2.2 != 0)||(dB q.Register.Interests dG q.doc.Parties at_ q.known).2.1)] (cs hs0))
theorem uP {h:HF}:∀ {cl:List Value} {xs:List Int},aP Rp.int h cl xs→cl=xs.map (Value.int .i64)
 | _,[],hc=>hc
 | _,x::xs,⟨cs,rest,e,_,hr,hc⟩=>by
  have:cs=[I x]:=hr
  rw [e,this,uP hc];rfl
theorem vc (h:HF):∀ xs:List Int,aP Rp.int h (xs.map (Value.int .i64)) xs
 | []=>rfl
 | x::xs=>⟨[I x],xs.map (Value.int .i64),rfl,rfl,rfl,vc h xs⟩
theorem Es (f:Int→Bool):∀ (l:List Int) (i:Nat),(bV.L1 f bV.K1 l i=-1∧∀ x∈l,f x=false) ∨
  ∃ a y b,l=a++y::b∧bV.L1 f bV.K1 l i=((i+a.length:Nat):Int)∧f y=true∧∀ x∈a,f x=false
 | [],i=>.inl ⟨rfl,fun _ h=>(List.not_mem_nil h).elim⟩
 | y::l,i=>by
  simp only [bV.L1]
  cases hy:f y with
  | true=>exact .inr ⟨[],y,l,rfl,by simp,hy,fun _ h=>(List.not_mem_nil h).elim⟩
  | false=>
   rcases Es f l (i+1) with ⟨h1,h2⟩ | ⟨a,z,b,rfl,h2,h3,h4⟩
   ·exact .inl ⟨h1,fun x hx=>by rcases List.mem_cons.1 hx with rfl | hx;exact hy;exact h2 x hx⟩
   refine .inr ⟨y::a,z,b,rfl,?_,h3,fun x hx=>by rcases List.mem_cons.1 hx with rfl | hx;exact hy;exact h4 x hx⟩
   rw [cond_false,h2];simp only [List.length_cons];congr 1;omega
theorem xO {q:Int→Bool} {l:List Int} (h:∀ x∈l,q x=false):(l.filter fun x=>!(q x))=l:=by
 rw [List.filter_eq_self];intro x hx;simp [h x hx]
theorem I8 {q:Int→Bool} {s zs:List Int} {i j:Nat} {y:Int} (hij:i < j) (hz:zs.length=s.length) (hj:s[j]? = some y) (ht:zs.take i=(s.take j).filter fun x=>!(q x)) (hd:zs.drop j=s.drop j) (hy:q y=false):
  (zs.set i y).take (i+1)=((s.take (j+1)).filter fun x=>!(q x))∧(zs.set i y).drop (j+1)=s.drop (j+1):=by
 have hjl:j < s.length:=by
  rcases Nat.lt_or_ge j s.length with h | h
  ·exact h
  simp [List.getElem?_eq_none h] at hj
 constructor
 ·rw [List.take_add_one,List.take_set_of_le (Nat.le_refl _),ht,List.take_add_one,hj,List.filter_append]
  simp [hy,show i < zs.length from by omega]
 rw [List.drop_set_of_lt ob,← List.drop_drop,hd,List.drop_drop]
theorem I7 {q:Int→Bool} {s zs:List Int} {i j:Nat} {y:Int} (hj:s[j]? = some y) (ht:zs.take i=(s.take j).filter fun x=>!(q x)) (hd:zs.drop j=s.drop j) (hy:q y=true):
  zs.take i=((s.take (j+1)).filter fun x=>!(q x))∧zs.drop (j+1)=s.drop (j+1):=by
 constructor
 ·rw [List.take_add_one,hj,List.filter_append,ht];simp [hy]
 rw [← List.drop_drop,hd,List.drop_drop]
theorem yZ {w:World} {bk i n cc:Nat} {cl:List Value} (hb:w.heap[bk]? = some (.cells cl.toArray 3 (0,0))) (hle:i+(n+1)≤cl.length) (ty:TypeId):
  (Builtin.clear_ #[31] ty #[.slice (some ⟨bk,i,none⟩) (n+1) cc]).run prog w=.ok (.tuple #[]) { w with heap:=w.heap.setIfInBounds bk (.cells (splice cl i (List.replicate (n+1) (I 0))).toArray 3 (0,0)) }:=by
 have hz:(zeroValue 3).run prog w=.ok (I 0) w:=ji kr w
 have h9:=kD (P:=prog) i (List.replicate (n+1) (I 0)) 0 cl w hb (by simpa using hle) (fun v hv=>by rw [(List.mem_replicate.1 hv).2];rfl)
 rw [Nat.add_zero] at h9
 have hzc:(Builtin.zeroCells (Value.int .i64 0).cells (n+1)).toList=List.replicate (n+1) (Value.int .i64 0):=by
  simp [Builtin.zeroCells,Value.cells]
  rw [List.eq_replicate_iff]
  refine ⟨by simp,fun x hx=>?_⟩
  obtain ⟨j,_,rfl⟩:=List.mem_map.1 hx
  simp [Nat.mod_one]
 simp only [Builtin.clear_,Sem.run_bind]
 simp [run_underlying cQ,hz,hzc,h9]
theorem pK (h:HF) (s:List Int) (b:Option Addr) (c:Nat) (G:LH) (del:Int→Bool) (del_v:Value) (hG:cM Rp.int 3 h s b c G)
  (hdel:∀ (h':HF) (ed:Int),HF.le h h'→w5 prog del_v [I ed] h' [] (.bool (del ed))) (hsz:s.length≤2000000):
  nI prog 64 [.slice b s.length c,del_v].toArray h G (fun r h' G'=>h'=h∧r=.returned (.slice b (bv s del).length c)∧cM Rp.int 3 h (bv s del) b c G'):=by
 refine cU func64 U ntmps64 U fun X hM hX=>qT 8 U (aA (DI [] G [] call110 Rp.aK hG (by simp) (fun h1 hle hsl=>mw h1 s b c del del_v hsl (fun h' a hl=>hdel h' a (hle.t hl))) U (qO 6 U ?_)))
 have hcase:=Es del s 0
 rw [show bV.L1 del bV.K1 s 0=bV s del from rfl] at hcase
 rcases hcase with ⟨h1,h2⟩ | ⟨a,y,r,hs,h1,hy,ha⟩
 ·rw [h1]
  refine ad (v':=.bool true) U U (qO 7 U ?_)
  have hf:bv s del=s:=xO h2
  refine mG func64 (fun a ha w hw=>res1 U a ha w) (fun w hw=>hw.lower) ⟨hX,?_,?_⟩
  ·rw [hf];rfl
  rw [hf];exact hG
 rw [h1,Nat.zero_add]
 have hne:((a.length:Int)==-1)=false:=by simp
 have hsl:s.length=a.length+(r.length+1):=by rw [hs];simp
 refine ad (v':=.bool false) U (cb hne) (qO 7 U (ad (v':=I ((a.length+1:Nat):Int)) U (aL ob) (an ?_)))
 refine iH (ι:=Nat×List Int×LH) (fun i=>[(0,.slice b s.length c),(1,del_v),(5,I (i.1:Int))]) (fun i=>h) (fun i=>i.2.2)
  (fun i=>i.1 < s.length∧i.2.1.length=s.length∧i.2.1.take i.1=bv s del∧cM Rp.int 3 h i.2.1 b c i.2.2) ?_ (fun hx=>?_)
 ·rintro ⟨i,zs,G'⟩ ⟨hi,hz,hf,hG'⟩ e
  dsimp only at hi hz hf hG'
  rcases hG' with ⟨rfl,_⟩ | ⟨bk,cl,sp,rfl,hcl,h3,h4,h5,rfl⟩
  ·simp at hz;omega
  have hcl':=uP hcl
  subst hcl'
  have hcz:zs.length≤c:=h4
  have h3':zs.length+sp.length=c:=by simpa [Rp.int] using h3
  have hz2:0≤(i:Int)∧(i:Int)≤(s.length:Int):=by omega
  have hzn:(i:Int).toNat=i:=by omega
  have hgf:cM Rp.int 3 h zs (some ⟨bk,0,none⟩) c [(bk,.cells (zs.map (Value.int .i64)++sp).toArray 3 (0,0))]:=.inr ⟨bk,_,sp,rfl,hcl,h3,h4,h5,rfl⟩
  obtain ⟨m,hm⟩:∃ m,s.length - i=m+1:=⟨s.length - i - 1,by omega⟩
  refine qT 4 U (aA (fu (v:=.slice (some ⟨bk,i,none⟩) (m+1) (c - i)) (GT cQ ty3 U U ob ob hm) ?_))
  refine aA (gW U fun w hw=>⟨.tuple #[],_,h,_,?_,hw.write (i:=0) U (.cells (splice (zs.map (Value.int .i64)++sp) i (List.replicate (m+1) (I 0))).toArray 3 (0,0)),?_⟩)
  ·have:=yZ (w:=w) (i:=i) (n:=m) (cc:=c - i) (hw.own _ (List.mem_singleton.2 rfl)) (by simp;omega)
   simp only [execOp,resolve,invoke,builtin]
   simp [Env.ev,upd,upds,pute,this]
  have hsp:∃ sp',splice (zs.map (Value.int .i64)++sp) i (List.replicate (m+1) (I 0))=(zs.take i).map (Value.int .i64)++sp':=by
   have e1:zs.map (Value.int .i64)++sp=(zs.take i).map (Value.int .i64)++((zs.drop i).map (Value.int .i64)++sp):=by
    rw [← List.append_assoc,← List.map_append,List.take_append_drop]
   rw [e1]
   have e2:i=((zs.take i).map (Value.int .i64)).length:=by simp;omega
   have:=wq (List.replicate (m+1) (I 0)) ((zs.take i).map (Value.int .i64)) ((zs.drop i).map (Value.int .i64)++sp) (by simp;omega)
   rw [← e2] at this
   exact ⟨_,this⟩
  obtain ⟨sp',hsp⟩:=hsp
  have hlen:((zs.take i).map (Value.int .i64)++sp').length=c * Rp.int.sz:=by
   rw [← hsp,AW];exact h3
  rw [hsp]
  have hg2:cM Rp.int 3 h (zs.take i) (some ⟨bk,0,none⟩) c [(bk,.cells ((zs.take i).map (Value.int .i64)++sp').toArray 3 (0,0))]:=
   .inr ⟨bk,_,sp',rfl,vc h _,hlen,by rw [List.length_take];omega,by rw [List.length_take];omega,rfl⟩
  refine qO 5 U (aA (DG (z:=(i:Int)) cQ ty3 hgf ob (by show _=Value.slice _ _ _;rw [hz];rfl) U U (an ?_)))
  refine mG func64 (fun a ha w hw=>res1 U a ha w) (fun w hw=>hw.lower) ⟨hX,?_,?_⟩
  ·rw [← hf,hzn];rfl
  rw [← hf];exact hg2
 refine j5 (ι:=Nat×Nat×List Int×LH) (fun i=>[(0,.slice b s.length c),(1,del_v),(5,I (i.1:Int)),(6,I (i.2.1:Int))]) (fun i=>h) (fun i=>i.2.2.2)
  (fun i=>i.1 < i.2.1∧i.2.1≤s.length∧i.2.2.1.length=s.length∧i.2.2.1.take i.1=((s.take i.2.1).filter fun x=>!(del x))∧i.2.2.1.drop i.2.1=s.drop i.2.1∧cM Rp.int 3 h i.2.2.1 b c i.2.2.2)
  (fun i=>s.length - i.2.1) (a.length,a.length+1,s,G) rd (fun w hw=>hw) ⟨Nat.lt_succ_self _,by show a.length+1≤s.length;omega,rfl,?_,rfl,hG⟩ ?_
 ·show s.take a.length=((s.take (a.length+1)).filter fun x=>!(del x))
  rw [hs,List.take_left' rfl,List.take_add_one,List.take_left' rfl,List.filter_append,xO ha];simp [hy]
 rintro ⟨i,j,zs,G'⟩ ⟨hij,hjl,hz,ht,hd,hG'⟩ ag e
 dsimp only at hij hjl hz ht hd hG'
 rcases Nat.lt_or_ge j s.length with hj | hj
 ·have hjs:s[j]? = some s[j]:=List.getElem?_eq_getElem hj
  have hjz:zs[j]? = some s[j]:=by
   have e1:(zs.drop j)[0]? = (s.drop j)[0]?:=by rw [hd]
   simpa [hjs] using e1
  obtain ⟨bk,hbk⟩:=hG'.lM ob
  have hiz:zs[i]? = some zs[i]:=List.getElem?_eq_getElem ob
  refine qK 6 [] U (ad (v':=.bool true) U (cb (decide_eq_true ob)) (qO 9 U (aA (fu (pN (R:=Rp.int) (xs:=zs) (z:=(j:Int)) cQ ty3 hbk ob U hz.symm U) (aA (fu (DS (R:=Rp.int) (off:=0) (i:=j) ty3 hG' hbk hjz (fun cs hcs=>by rw [show cs=[I s[j]] from hcs];rfl) (by rfl) (fun p hp=>hp)) (qO 6 U (aA (nU (v:=.bool (del s[j])) [] (List.nil_sublist _) (hdel h s[j] lf) U U ?_)))))))))
  cases hy:del s[j] with
  | true=>
   obtain ⟨k1,k2⟩:=I7 hjs ht hd hy
   exact lY U (qO 6 U (ad (v':=I ((j+1:Nat):Int)) U (aL ob) (an (ag (i,j+1,zs,G') _ (by show s.length - (j+1) < s.length - j;omega) ⟨by show i < j+1;omega,hj,hz,k1,k2,hG'⟩ rd))))
  | false=>
   obtain ⟨k1,k2⟩:=I8 hij hz hjs ht hd hy
   refine qO 8 U (aA (fu (pN (R:=Rp.int) (xs:=zs) (z:=(i:Int)) cQ ty3 hbk ob U hz.symm U) (aA (DF (R:=Rp.int) (i:=i) (off:=0) (u:=zs[i]) (u':=s[j]) (v:=I s[j]) [] G' [] ty3 U hG' (by simp) hbk hiz (by decide) (fun cs hcs=>by rw [show cs=[I zs[i]] from hcs];rfl) (by rfl) U U (fun G2 hG2=>?_)))))
   rw [List.nil_append,List.append_nil]
   exact aM (qT 2 U (ad (v':=I ((i+1:Nat):Int)) U (aL ob) (qO 5 U (ad (v':=I ((j+1:Nat):Int)) U (aL ob) (an (ag (i+1,j+1,zs.set i s[j],G2) _ (by show s.length - (j+1) < s.length - j;omega) ⟨by show i+1 < j+1;omega,hj,by show (zs.set i s[j]).length=s.length;simpa using hz,k1,k2,hG2⟩ rd))))))
 have hje:j=s.length:=by omega
 subst hje
 exact qK 6 [] U (ad (v':=.bool false) U (cb (decide_eq_false ob)) (qO 3 U (hx (i,zs,G') _ ⟨hij,hz,by show zs.take i=_;rw [ht,List.take_length];rfl,hG'⟩ rd)))
theorem mi (h:HF) (dG:Int)  : Ret prog 81 [I dG] h (.bool (eZ dG)):=by
 refine sT func81 U ntmps81 U fun X hM hX hF=>?_
 have hs0:eZ dG=eZ dG:=rfl
 refine qT 9 U (bx 3 [5,6,7,8] 5 8 (decide (dG < 1099511627776)) U (fun c1 hk1=>?_) (fun e=>?_))
 ·exact aj (qO 2 U (hk1 _ U))
 exact an (nretP [.bool (decide (0≤dG)&&decide (dG < 1099511627776))] (cs hs0))
theorem rE (h:HF) (l:List Version) (ey:Option Addr) (ew:Nat) (l_q:Addr) (known:Int) (known_q:Addr) (eo:Int) (from__q:Addr) (hl:SlC Version.rp h ey ew l) (al:At h l_q [.slice ey l.length ew]) (aknown:At h known_q [I known]) (afrom_:At h from__q [I eo]) (hsz:l.length≤2000000):Itr prog (.func (.func 140) #[] (List.toArray [.pointer (some l_q),.pointer (some known_q),.pointer (some from__q)])) nL (bz l known eo) h:=by
 refine wN call140 ?_
 intro yf ya yb C Sp Pn h1 A hle m1 m2 m3 hC hy
 refine jQ HA U ntmps140 U fun X hXM hX=>?_
 have hs0:bz l known eo=[]++bz l known eo:=rfl
 refine sr (aA (H6 hXM (fun b1 b1M=>qO 9 U (cK ty26 (al.mono hle) U (qL 3 [] U ?_)))))
 refine lp2 l (fun i w=>[(0,.func yf ya yb),(2,.pointer (some known_q)),(3,.pointer (some from__q)),(5,.map (some b1)),(6,I w.1),(13,.slice ey l.length ew),(14,I (l.length:Int)),(15,I (i:Int))]) (fun _=>h1) (fun w=>[(b1,w.2.2)]++(A)) (fun i w=>hO (Value.int .i64) (kR Version.rp) h1 w.2.2 w.2.1∧w.2.1.length≤0+i) (fun s1 i w=>[]++(bz.L1 known eo (bz.K1)) s1 w.1 w.2.1) ((-1),[],.map #[] 0) ((hl.mono Version.ak hle).1.1) hs0 ⟨(hO.nil (enc:=(Value.int .i64)) (V:=(kR Version.rp)) (h:=h1)),lc⟩ ?_ ?_
 ·rintro i1 ⟨oS,cR,lA⟩ et hs1 ⟨iU,sR⟩ e
  try dsimp only at iU sR
  refine qT 3 U (yM 0 U b1M (fun h8 hle7 hb3=>?_))
  have mc2:oZ (Value.int .i64) (kR Version.rp) h8 b1 cR:=⟨_,hb3,iU.mono (kR.mono Version.ak) hle7⟩
  refine aA (cf call141 (sy h8 cR b1 mc2) U (fun v4 h9 hle8 hp3=>aA (cf call60 (lQ h9 v4 (cR.map Prod.fst) hp3 (by rw [List.length_map];omega)) U (fun v5 h10 hle9 hp4=>?_))))
  obtain ⟨rb2,rc2,rfl,sl2⟩:=hp4
  refine qL 3 [] U ?_
  refine lp2 (sortI (cR.map Prod.fst)) (fun i w=>[(0,.func yf ya yb),(5,.map (some b1)),(39,.slice rb2 ((sortI (cR.map Prod.fst)).length) rc2),(40,I ((sortI (cR.map Prod.fst)).length:Int)),(41,I (i:Int))]) (fun w=>w.2.2) (fun w=>w.2.1) (fun i w=>C w.1 w.2.2 w.2.1∧HF.le h10 w.2.2) (fun s2 i w=>w.1++(bz.L2 cR (bz.K2)) s2) ([],A,h10) sl2.1.1 hs1 ⟨(m1 _ _ _ _ ((hle7.t hle8).t hle9) hC),lf⟩ ?_ ?_
  ·rintro i2 ⟨dn2,A2_,hh2⟩ sK hs2 ⟨hC2_,hl2⟩ e
   try dsimp only at hC2_ hl2
   refine gk ?_
   have hs3:bz l known eo=dn2:=hs2.trans (List.append_nil _)
   exact wO [] (A:=A2_) HA U (List.Sublist.refl _) (.inl (hs3 ▸ hC2_))
  rintro i2 ⟨dn2,A2_,hh2⟩ y2 rz2 hd2 oI jJ vM Ew hs4 ⟨hC2_,hl2⟩ hx2 ag1 e
  try dsimp only at hC2_ hl2
  refine sr (ad (v':=.bool true) U (cb oI) (qO 8 U (aA (ek (enc:=fun y=>[I y]) ei cQ ty3 (sl2.mono Rp.aK hl2).1 (nthZ jJ) (au jJ) U U U (fun q4 A10=>cK ty3 A10 U (qO 8 U ?_))))))
  obtain ⟨o3,hb5,hm5⟩:=(mc2.mono (kR.mono Version.ak) ((hle8.t hle9).t hl2))
  refine aA (pX (k:=y2) HH (eE kL) hb5 hm5 (ji zv70) (show (kR Version.rp) _ (.agg (List.toArray [I 0,I 0,I 0,.string (⟨#[]⟩:ByteArray),.slice none 0 0,.slice none 0 0,.slice none 0 0,I 0,I 0,I 0,.string (⟨#[]⟩:ByteArray),.slice none 0 0,I 0])) (Version.mk 0 0 0 (Policy.mk (⟨#[]⟩:ByteArray) [] [] [] (Expr.mk 0 0 0 (⟨#[]⟩:ByteArray) []) 0)) from ⟨_,U,(lB.mk (dS.mk none 0 none 0 none 0 (cm.mk none 0))),U,⟨⟨SlC.nil,SlC.nil,SlC.nil,(Expr.ok.of SlC.nil)⟩⟩⟩) U U (fun v7 hv3=>?_))
  obtain ⟨_,rfl,rr4,rfl,ok4⟩:=hv3
  have hx3:bz l known eo=dn2++((y2,(mgetD cR y2 (Version.mk 0 0 0 (Policy.mk (⟨#[]⟩:ByteArray) [] [] [] (Expr.mk 0 0 0 (⟨#[]⟩:ByteArray) []) 0))))::(bz.L2 cR (bz.K2) rz2)):=hs4
  refine aA (me ([]) A2_ ap (hy dn2 (y2,(mgetD cR y2 (Version.mk 0 0 0 (Policy.mk (⟨#[]⟩:ByteArray) [] [] [] (Expr.mk 0 0 0 (⟨#[]⟩:ByteArray) []) 0)))) _ _ _ _ hx3 (((hle7.t hle8).t hle9).t hl2) hC2_ ⟨rr4,U,ok4⟩) U U (fun h14 A11 hle13 hC3=>?_) (fun h15 A12 hle14 hS3=>?_) (fun ch3 h16 A13 hle15 hP3 e=>ja (qY [] (A:=A13) HA (List.sublist_append_right _ _) hP3)))
  ·have hs5:bz l known eo=(dn2++[(y2,(mgetD cR y2 (Version.mk 0 0 0 (Policy.mk (⟨#[]⟩:ByteArray) [] [] [] (Expr.mk 0 0 0 (⟨#[]⟩:ByteArray) []) 0))))])++((bz.L2 cR (bz.K2) rz2)):=hx3.trans ap
   exact lY U (qO 5 U (ad (v':=I (((i2+1):Nat):Int)) U (aL ob) (qO 2 U (ag1 ((dn2++[(y2,(mgetD cR y2 (Version.mk 0 0 0 (Policy.mk (⟨#[]⟩:ByteArray) [] [] [] (Expr.mk 0 0 0 (⟨#[]⟩:ByteArray) []) 0))))]),A11,h14) hs5 ⟨hC3,(hl2.t hle13)⟩))))
  exact lY U (qO 2 U (gk (qX [] (A:=A12) HA U (List.Sublist.refl _) (.inr hS3))))
 rintro i1 ⟨oS,cR,lA⟩ y1 rz1 hd1 cw ao dy fB hs6 ⟨iU,sR⟩ hx1 ag2 e
 try dsimp only at iU sR
 refine sr (ad (v':=.bool true) U (cb cw) (qO 8 U (aA (dV lg ty70 (hl.mono Version.ak hle).1 (nthZ ao) (au ao) U U U (fun _ _ _ e=>e) (fun q5 r2 A14 ok5=>de ty70 A14 U U (bH zc70 (fun b3=>bE 0 ty70 U U U U U U (iW (L':=[(b3,O (Version.cells y1 r2) 70),(b1,lA)]++(A)) U (qL 6 [0] U (cK ty3 (aknown.mono hle) U (qO 2 U (j7 U (fun c5=>?_) (fun c5=>?_)))))))))))))
 ·have c5p:=of_decide_eq_true c5
  have hs7:=hs6.trans (congrArg ([]++·) (bt c5))
  exact j6 U (bn (ad (v':=I (((i1+1):Nat):Int)) U (aL ob) (qO 2 U (bU (L':=[(b1,lA)]++(A)) js (ag2 (oS,cR,lA) hs7 ⟨iU,lc⟩)))))
 have c5p:=of_decide_eq_false c5
 have hs8:=hs6.trans (congrArg ([]++·) (bf c5))
 refine qK 11 [0] U (cK ty3 (afrom_.mono hle) U (qO 2 U (j7 U (fun c6=>?_) (fun c6=>?_))))
 ·have c6p:=of_decide_eq_true c6
  have hs9:=hs8.trans (congrArg ([]++·) (bt c6))
  refine qT 7 U (j7 U (fun c7=>?_) (fun c7=>?_))
  ·have c7p:=of_decide_eq_true c7
   have hs10:=hs9.trans (congrArg ([]++·) (bt c7))
   exact j6 U (bn (ad (v':=I (((i1+1):Nat):Int)) U (aL ob) (qO 2 U (bU (L':=[(b1,lA)]++(A)) js (ag2 (oS,cR,lA) hs10 ⟨iU,lc⟩)))))
  have c7p:=of_decide_eq_false c7
  have hs11:=hs9.trans (congrArg ([]++·) (bf c7))
  exact aE (eB ([(b3,O (Version.cells y1 r2) 70),(b1,lA)]) mixed kr jn (fun cB _=>tm 0 U (tf 1 U U (fun _ _ hj=>eF ty3 ((afrom_.mono hle).mono hj.1) U) (qA [2,3] U (aI kr (qT 3 U (cJ 0 ty70 U U U (aA (ki 1 (k:=eo) (x:=y1) HH (eE kL) U iU U U ⟨_,U,r2,U,ok5⟩ (fun mo3 hm6=>qO 3 U (ad (v':=I (((i1+1):Nat):Int)) U (aL ob) (qO 2 U (bU (L':=[(b1,mo3)]++(A)) js (ag2 (y1.At,(mput cR eo y1),mo3) hs11 ⟨hm6,(by have:=gq cR eo y1;first | omega | (simp only [List.length_nil,List.length_cons] at *;omega))⟩))))))))))))))
 have c6p:=of_decide_eq_false c6
 have hs12:=hs8.trans (congrArg ([]++·) (bf c6))
 exact aE (qT 3 U (cJ 0 ty70 U U U (aA (ki 1 (k:=y1.At) (x:=y1) HH (eE kL) U iU U U ⟨_,U,r2,U,ok5⟩ (fun mo4 hm7=>qO 3 U (ad (v':=I (((i1+1):Nat):Int)) U (aL ob) (qO 2 U (bU (L':=[(b1,mo4)]++(A)) js (ag2 (oS,(mput cR y1.At y1),mo4) hs12 ⟨hm7,(by have:=gq cR y1.At y1;first | omega | (simp only [List.length_nil,List.length_cons] at *;omega))⟩)))))))))
theorem tJ (h:HF) (l:List Version) (ey:Option Addr) (ew:Nat) (rj:Int) (known:Int) (hl:SlC Version.rp h ey ew l) (hsz:l.length≤2000000):iq prog 82 [.slice ey l.length ew,I rj,I known] h (fun v h'=>∃ (rv0:Value),v=rv0∧Itr prog rv0 nL (ef l rj known) h'):=by
 refine sT func82 U ntmps82 U fun X hM hX hF=>?_
 have hs0:ef l rj known=ef l rj known:=rfl
 refine sr (cA (fun b1=>cA (fun b2=>cA (fun b3=>qO 4 U (bN 2 U hM (fun h1 hle1 hb1=>bN 0 U hM (fun h2 hle2 hb2=>bN 0 U hM (fun h3 hle3 hb3=>aA (fX U U (qO 2 U ?_))))))))))
 have hs1:ef l rj known=(bz l known rj):=hs0
 exact nretH [.func (.func 140) #[] #[Q b1,Q b3,Q b2]] ⟨(.func (.func 140) #[] #[Q b1,Q b3,Q b2]),congrArg (fun r:(List (Int×Version))=>((.func (.func 140) #[] #[Q b1,Q b3,Q b2]):Value)) hs1.symm,(by rw [hs1];exact (rE h3 l ey ew ⟨b1,0,none⟩ known ⟨b3,0,none⟩ rj ⟨b2,0,none⟩ (hl.mono Version.ak ((hle1.t hle2).t hle3)) ((dp hb1).mono (hle2.t hle3)) ((dp hb2).mono hle3) (dp hb3) ob))⟩
theorem ut (h:HF) (l:List Version) (ey:Option Addr) (ew:Nat) (begun:Int) (aO:Int) (known:Int) (hl:SlC Version.rp h ey ew l) (hsm:smV l) (hk:Kinds h):iq prog 44 [.slice ey l.length ew,I begun,I aO,I known] h (fun v h'=>∃ (rb0:Option Addr) (rc0:Nat),v=.tuple #[.slice rb0 ((ay l begun aO known).1).length rc0,I ((ay l begun aO known).2.1),I ((ay l begun aO known).2.2)]∧SlC Rp.int h' rb0 rc0 ((ay l begun aO known).1)):=by
 refine cU Dk U ntmps44 U fun X hM hX=>?_
 have hs0:ay l begun aO known=ay l begun aO known:=rfl
 have hsl:=hsm.len
 refine sr (cA (fun b1=>cA (fun b2=>qO 8 U (ah call55 (ny _ _ _ _ hl ob hk) U (qO 7 U (ac hs0 U (fun c1 hs1=>?_) (fun c1 hs2=>?_)))))))
 ·refine qT 7 U ?_
  have hs3:ay l begun aO known=([],0,(bh l)):=hs1
  exact fR [.slice none 0 0,I 0,I (bh l)] Dk U rd ⟨none,0,congrArg (fun r:(List Int×Int×Int)=>(.tuple #[.slice none r.1.length 0,I r.2.1,I r.2.2]:Value)) hs3.symm,(by rw [hs3];exact SlC.nil)⟩
 refine qK 5 [1] U (ah call81 (mi h begun) U (qO 2 U (ce 4 [25,26,27,28,29] 25 29 (!(eZ aO)) U (fun c2 hk1=>?_) (fun e=>?_))))
 ·exact qL 1 [0] U (ah call81 (mi h aO) U (qO 2 U (hk1 _ U)))
 refine aj (ce 4 [30,31,32,33,34] 30 34 (!(eZ known)) U (fun c3 hk2=>?_) (fun e=>?_))
 ·exact aj (ah call81 (mi h known) U (qO 2 U (hk2 _ U)))
 refine aj (ce 4 [35,36,37,38,39] 35 39 (decide (aO < begun)) U (fun c4 hk3=>?_) (fun e=>?_))
 ·exact qL 4 [1,0] U (hk3 _ U)
 refine aM (ac hs2 U (fun c5 hs4=>?_) (fun c5 hs5=>?_))
 ·refine qT 6 U ?_
  have hs6:ay l begun aO known=([],0,1):=hs4
  exact fR [.slice none 0 0,I 0,I 1] Dk U rd ⟨none,0,congrArg (fun r:(List Int×Int×Int)=>(.tuple #[.slice none r.1.length 0,I r.2.1,I r.2.2]:Value)) hs6.symm,(by rw [hs6];exact SlC.nil)⟩
 refine qT 3 U (bH zc26 (fun b3=>qO 3 U (bH zc4 (fun b4=>dw 0 ty4 U U U U U U (qL 7 [3] U (aA (cf call82 (tJ _ _ _ _ begun known hl ob) U (fun v1 h1 hle1 hp1=>?_))))))))
 obtain ⟨_,rfl,mo1⟩:=hp1
 refine qO 2 U (gk (cS (L':=([(b4,O [.bool false] 4),(b3,O [.slice none 0 0] 26),(b2,O [I aO] 3),(b1,O [I begun] 3)])++markB []) ap ?_))
 refine GK (it:=v1) (xs:=(ef l begun known)) (ι:=Bool×List Version×Option Addr×Nat×LH×HF) [] (fun i=>i.2.2.2.2.2) (fun i=>[(b4,O [.bool i.1] 4),(b3,O [.slice i.2.2.1 i.2.1.length i.2.2.2.1] 26),(b2,O [I aO] 3),(b1,O [I begun] 3)]++(i.2.2.2.2.1)) (fun s i=>ay l begun aO known=((ay.L1 begun aO (ay.K1)) s i.1 i.2.1)∧cM Version.rp 70 i.2.2.2.2.2 i.2.1 i.2.2.1 i.2.2.2.1 i.2.2.2.2.1∧HF.le h1 i.2.2.2.2.2∧(∀ x∈i.2.1,x∈l)∧(∀ q∈s,q.2∈l)∧i.2.1.length+s.length≤l.length) (fun _=>False) 0 (fun _ _ _=>False) (false,[],none,0,[],h1) Dk U mo1 U tV (fun _ _ _ _ _ hq=>hq) U (show [(b4,O [.bool false] 4),(b3,O [.slice none 0 0] 26),(b2,O [I aO] 3),(b1,O [I begun] 3)]=_ from U) ⟨hs5,cM.nil,lf,(fun x hx=>(List.not_mem_nil hx).elim),sI,(by have:=xE l begun known;simpa using this)⟩ ?_ ?_ ?_ ?_
 ·rintro l1 dm1 lp1 y1 rz1 vs1 ⟨fV,aG,gh,gg,ip,hh1⟩ hr1 X hFR1 ⟨hs7,jc,hl1,u1_0,u1_1,u1_2⟩ hl01 hlr1 hv1 hX hXM hlp1 nx1 rt1 ex1 pn1
  try dsimp only at jc hl1 u1_0 u1_1 u1_2 hlr1
  obtain ⟨rr1_0,rfl,ok1_0⟩:=hv1
  simp only [List.length_cons] at u1_2
  let z2:Nat×Obj:=(b3,O [.slice gh aG.length gg] 26)
  let z6:Nat×Obj:=(dm1,.deferred (some []))
  refine cS (L':=[(l1,.loop lp1),z6,(b4,O [.bool fV] 4),z2,(b2,O [I aO] 3),(b1,O [I begun] 3)]++(ip++(markB []))) ap (qT 5 U (bH zc70 (fun b6=>bE 0 ty70 U U U U U U (iW (L':=[(b6,O (Version.cells y1.2 rr1_0) 70),(l1,.loop lp1),z6,(b4,O [.bool fV] 4),z2,(b2,O [I aO] 3),(b1,O [I begun] 3)]++(ip++(markB []))) U (aM (kg 1 U hlp1 (qK 8 [5] U (ac hs7 U (fun c7 hs8=>?_) (fun c7 hs9=>?_)))))))))
  ·have c7p:=of_decide_eq_true c7
   exact bU (L':=[(l1,.loop { lp1 with state:=.busy }),z6,(b4,O [.bool fV] 4),z2,(b2,O [I aO] 3),(b1,O [I begun] 3)]++(ip++(markB []))) js (cS (L':=rdH l1 dm1 lp1 (([(b4,O [.bool fV] 4),z2,(b2,O [I aO] 3),(b1,O [I begun] 3)]++(ip))++markB [])) ap (ex1 (fV,aG,gh,gg,ip,hr1) _ _ _ ⟨hs8,(jc.mono Version.ak hlr1),(hl1.t hlr1),u1_0,(fun q hq=>(List.not_mem_nil hq).elim),(by simp only [List.length_nil,List.length_cons] at *;omega)⟩ lf U))
  have c7p:=of_decide_eq_false c7
  refine qK 5 [3] U (ce 4 [50,51,52,53,54] 50 54 (y1.1==begun) U (fun c8 hk4=>?_) (fun e=>?_))
  ·exact qL 4 [6] U (hk4 _ U)
  refine dw 3 ty4 U U U U U U (qL 3 [4] U (cJ 0 ty70 U U U (aA (bg (cells:=[I y1.2.No,I y1.2.At,I y1.2.Known,.string y1.2.Policy.Name,.slice rr1_0.Policy.gI y1.2.Policy.Kinds.length rr1_0.Policy.gH,.slice rr1_0.Policy.fc y1.2.Policy.Offices.length rr1_0.Policy.fb,.slice rr1_0.Policy.kc y1.2.Policy.Rules.length rr1_0.Policy.kb,I y1.2.Policy.Change.Kind,I y1.2.Policy.Change.N,I y1.2.Policy.Change.No,.string y1.2.Policy.Change.Name,.slice rr1_0.Policy.Change.iL y1.2.Policy.Change.L.length rr1_0.Policy.Change.iP,I y1.2.Policy.Mode]) lg ty70 zc70 U U kr (fun b7=>?_)))))
  let z1:Nat×Obj:=(b7,O [I y1.2.No,I y1.2.At,I y1.2.Known,.string y1.2.Policy.Name,.slice rr1_0.Policy.gI y1.2.Policy.Kinds.length rr1_0.Policy.gH,.slice rr1_0.Policy.fc y1.2.Policy.Offices.length rr1_0.Policy.fb,.slice rr1_0.Policy.kc y1.2.Policy.Rules.length rr1_0.Policy.kb,I y1.2.Policy.Change.Kind,I y1.2.Policy.Change.N,I y1.2.Policy.Change.No,.string y1.2.Policy.Change.Name,.slice rr1_0.Policy.Change.iL y1.2.Policy.Change.L.length rr1_0.Policy.Change.iP,I y1.2.Policy.Mode] 70)
  let z4:Nat×Obj:=(b4,O [.bool (fV||(y1.1==begun))] 4)
  let z5:Nat×Obj:=(l1,.loop { lp1 with state:=.busy })
  let z7:Nat×Obj:=(b6,O (Version.cells y1.2 rr1_0) 70)
  refine aA (bS Version.eC ([z1,z7,z5,z6,z4,z2,(b2,O [I aO] 3),(b1,O [I begun] 3)]) (markB []) (fun G=>[z1,z7,z5,z6,z4,z2,(b2,O [I aO] 3),(b1,O [I begun] 3)]++(markB []++G)) ap (fun _=>ap) lg ty70 zc70 U bytes70 (jc.mono Version.ak hlr1) U U (du 0 U (show aP Version.rp hr1 [I y1.2.No,I y1.2.At,I y1.2.Known,.string y1.2.Policy.Name,.slice rr1_0.Policy.gI y1.2.Policy.Kinds.length rr1_0.Policy.gH,.slice rr1_0.Policy.fc y1.2.Policy.Offices.length rr1_0.Policy.fb,.slice rr1_0.Policy.kc y1.2.Policy.Rules.length rr1_0.Policy.kb,I y1.2.Policy.Change.Kind,I y1.2.Policy.Change.N,I y1.2.Policy.Change.No,.string y1.2.Policy.Change.Name,.slice rr1_0.Policy.Change.iL y1.2.Policy.Change.L.length rr1_0.Policy.Change.iP,I y1.2.Policy.Mode] ([y1.2]) from ⟨[I y1.2.No,I y1.2.At,I y1.2.Known,.string y1.2.Policy.Name,.slice rr1_0.Policy.gI y1.2.Policy.Kinds.length rr1_0.Policy.gH,.slice rr1_0.Policy.fc y1.2.Policy.Offices.length rr1_0.Policy.fb,.slice rr1_0.Policy.kc y1.2.Policy.Rules.length rr1_0.Policy.kb,I y1.2.Policy.Change.Kind,I y1.2.Policy.Change.N,I y1.2.Policy.Change.No,.string y1.2.Policy.Change.Name,.slice rr1_0.Policy.Change.iL y1.2.Policy.Change.L.length rr1_0.Policy.Change.iP,I y1.2.Policy.Mode],[],U,U,⟨rr1_0,U,ok1_0⟩,U⟩)) lo lo (fun ob1 oc1 G1 gr1=>yv (tr ([z1,z7,z5,z6,z4,z2,(b2,O [I aO] 3),(b1,O [I begun] 3)]) G1 (markB [])) (dw 5 ty26 U U U U U U (qO 2 U ?_))))
  let z9:Nat×Obj:=(b3,O [.slice ob1 ((aG++[y1.2]).length) oc1] 26)
  exact bU (L':=[z5,z6,z4,z9,(b2,O [I aO] 3),(b1,O [I begun] 3)]++(G1++(markB []))) js (cS (L':=rdH l1 dm1 lp1 (([z4,z9,(b2,O [I aO] 3),(b1,O [I begun] 3)]++G1)++markB [])) ap (nx1 ((fV||(y1.1==begun)),(aG++[y1.2]),ob1,oc1,G1,hr1) _ _ ⟨hs9,gr1,(hl1.t hlr1),(fun x hx=>(List.mem_append.1 hx).elim (u1_0 x) (fun hx=>by rw [List.mem_singleton.1 hx];exact u1_1 y1 (List.mem_cons_self ..))),(fun q hq=>u1_1 q (List.mem_cons_of_mem _ hq)),(by simp only [List.length_append,List.length_cons,List.length_nil] at *;omega)⟩ lf))
 ·rintro dm1 ⟨fV,aG,gh,gg,ip,hh1⟩ hn1 ⟨hs10,jc,hl1,u1_0,u1_1,u1_2⟩ hln1 hl01
  try dsimp only at jc hl1 u1_0 u1_1 u1_2 hln1
  let z3:Nat×Obj:=(b3,O [.slice gh aG.length gg] 26)
  refine cS (L':=[(b4,O [.bool fV] 4),z3,(b2,O [I aO] 3),(b1,O [I begun] 3)]++(ip++(markB (dm1::[])))) ap (qK 7 [1] U (ac hs10 U (fun c9 hs11=>?_) (fun c9 hs12=>?_)))
  ·refine qT 6 U ?_
   have hs13:ay l begun aO known=([],0,0):=hs11
   exact cS (L':=([(b4,O [.bool fV] 4),z3,(b2,O [I aO] 3),(b1,O [I begun] 3)]++(ip))++markB (dm1::[])) ap (pT (dm1::[]) [.slice none 0 0,I 0,I 0] Dk U rd ⟨none,0,congrArg (fun r:(List Int×Int×Int)=>(.tuple #[.slice none r.1.length 0,I r.2.1,I r.2.2]:Value)) hs13.symm,(by rw [hs13];exact SlC.nil)⟩)
  refine qK 6 [1,1] U (ad (v':=I ((aG.length:Int) - 1)) U (gG ob) (oo Version.ak ([(b4,O [.bool fV] 4),z3,(b2,O [I aO] 3),(b1,O [I begun] 3)]) ip (markB (dm1::[])) ap hM (jc.mono Version.ak hln1) (fun h2 hle2 sl1=>?_)))
  have ho1:0≤(((aG.length:Int) - 1):Int)∧(((aG.length:Int) - 1):Int) < ((aG).length:Int):=ob
  refine aA (dV lg ty70 sl1.1 ho1 (bT ho1) U U U (fun _ _ _ e=>e) (fun q1 r1 A1 ok1=>qL 2 [] U (jF (j:=12) ty3 A1 U U (qO 4 U (eB ([(b4,O [.bool fV] 4),z3,(b2,O [I aO] 3),(b1,O [I begun] 3)]) mixed kr jn (fun cB _=>tm 1 U (tf 3 U U (fun _ _ hj=>fI ty26 U (hj.nth (i:=1) U) U) (tf 4 U U (fun _ _ hj=>fI ty4 U (hj.nth (i:=0) U) U) (tm 7 U (tn 0 U (cf call83 (og h2) U (fun v2 h3 hle3 hp2=>?_))))))))))))
  obtain ⟨rk2,rfl,mo2⟩:=hp2
  refine ⟨jl hle3,tu hle3 (tn 2 U ?_)⟩
  obtain ⟨o1,hb1,hm1⟩:=mo2
  refine pX (k:=(nthI aG ((aG.length:Int) - 1)).Policy.Mode) Dm (eE kL) hb1 hm1 (ji zv141) (show VFn _ (.nilFunc) Value.nilFunc from U) U U (fun v3 hv1=>?_)
  obtain rfl:=hv1
  refine ⟨jn,tn 5 U (H9 (Ek h3 ((nthI aG ((aG.length:Int) - 1)).Policy.Mode) (((je l).1 (by simpa using c1)).mode (u1_0 _ (fw ho1))) aG gh gg fV (sl1.mono Version.ak hle3) ob) U U (fun v4 h4 hle4 hp3=>?_))⟩
  obtain ⟨rb1,rc1,rfl,sl2⟩:=hp3
  have hjl:=Em ((nthI aG ((aG.length:Int) - 1)).Policy.Mode) aG fV
  refine ⟨jl hle4,tu hle4 (tf 6 U U (fun _ _ _=>DR lg U) (aI kr ?_))⟩
  refine lp2 (judgesP ((nthI aG ((aG.length:Int) - 1)).Policy.Mode) aG fV) (fun i w=>[(8,.slice w.2.1 w.1.length w.2.2.1),(9,I ((nthI aG ((aG.length:Int) - 1)).Policy.Mode)),(75,.slice rb1 ((judgesP ((nthI aG ((aG.length:Int) - 1)).Policy.Mode) aG fV).length) rc1),(76,I (((judgesP ((nthI aG ((aG.length:Int) - 1)).Policy.Mode) aG fV).length:Nat):Int)),(77,I (i:Int))]) (fun _=>h4) (fun w=>[(b4,O [.bool fV] 4),z3,(b2,O [I aO] 3),(b1,O [I begun] 3)]++(w.2.2.2++(markB (dm1::[])))) (fun i w=>cM Rp.int 3 h4 w.1 w.2.1 w.2.2.1 w.2.2.2∧w.1.length≤0+i) (fun s2 i w=>(ay.L2 (ay.K2 aG)) s2 w.1) ([],none,0,[]) sl2.1.1 hs12 ⟨cM.nil,lo⟩ ?_ ?_
  ·rintro i2 ⟨Af,Gj,Gi,Gk⟩ et hs14 ⟨ED,IK⟩ e
   try dsimp only at ED IK
   refine qT 3 U (aA (rY ([(b4,O [.bool fV] 4),z3,(b2,O [I aO] 3),(b1,O [I begun] 3)]) Gk (markB (dm1::[])) call41 (mn h4 Af Gj Gi Gk ED (by first | assumption | omega | (simp only [List.length_append,List.length_cons,List.length_nil] ;omega))) ap U (fun G4 gr4=>qO 9 U (eI Rp.aK ([(b4,O [.bool fV] 4),z3,(b2,O [I aO] 3),(b1,O [I begun] 3)]) G4 (markB (dm1::[])) ap hM gr4 (fun h6 hle6 sl4=>?_)))))
   have hs15:ay l begun aO known=((sortI Af),(nthI aG ((aG.length:Int) - 1)).Policy.Mode,0):=hs14
   exact cS (L':=([(b4,O [.bool fV] 4),z3,(b2,O [I aO] 3),(b1,O [I begun] 3)])++markB (dm1::[])) ap (pT (dm1::[]) [.slice Gj Af.length Gi,I ((nthI aG ((aG.length:Int) - 1)).Policy.Mode),I 0] Dk U rd ⟨Gj,Gi,(by rw [hs15];simp [retVal,hU]),(by rw [hs15];exact sl4)⟩)
  rintro i2 ⟨Af,Gj,Gi,Gk⟩ y2 rz2 hd2 oI jJ vM Ew hs16 ⟨ED,IK⟩ hx2 ag1 e
  try dsimp only at ED IK
  refine sr (ad (v':=.bool true) U (cb oI) (qO 8 U (aA (dV lg ty70 sl2.1 (nthZ jJ) (au jJ) U U U (fun _ _ _ e=>e) (fun q3 r3 A3 ok3=>de ty70 A3 U U (bH zc70 (fun b10=>bE 0 ty70 U U U U U U (iW (L':=[(b10,O (Version.cells y2 r3) 70),(b4,O [.bool fV] 4),z3,(b2,O [I aO] 3),(b1,O [I begun] 3)]++(Gk++(markB (dm1::[])))) U ?_))))))))
  let z8:Nat×Obj:=(b10,O (Version.cells y2 r3) 70)
  exact qL 5 [0] U (aA (bg (cells:=[I y2.No]) cQ ty3 zc3 U U kr (fun b11=>aA (bS Rp.dF ([(b11,O [I y2.No] 3),z8,(b4,O [.bool fV] 4),z3,(b2,O [I aO] 3),(b1,O [I begun] 3)]) (markB (dm1::[])) (fun G=>[(b11,O [I y2.No] 3),z8,(b4,O [.bool fV] 4),z3,(b2,O [I aO] 3),(b1,O [I begun] 3)]++(markB (dm1::[])++G)) ap (fun _=>ap) cQ ty3 zc3 U bytes3 ED U U (du 0 U (show aP Rp.int h4 [I y2.No] ([y2.No]) from ⟨[I y2.No],[],U,U,U,U⟩)) lo lo (fun ob3 oc3 G5 gr5=>yv (tr ([(b11,O [I y2.No] 3),z8,(b4,O [.bool fV] 4),z3,(b2,O [I aO] 3),(b1,O [I begun] 3)]) G5 (markB (dm1::[]))) (qO 4 U (ad (v':=I (((i2+1):Nat):Int)) U (aL ob) (qO 2 U (bU (L':=[(b4,O [.bool fV] 4),z3,(b2,O [I aO] 3),(b1,O [I begun] 3)]++(G5++(markB (dm1::[])))) js (ag1 ((Af++[y2.No]),ob3,oc3,G5) hs16 ⟨gr5,lo⟩))))))))))
 ·exact xf
 exact xf
theorem tK (h:HF) (s:List Int) (uc:Option Addr) (tb:Nat) (v:Int) (hs:SlC Rp.int h uc tb s):Ret prog 179 [.slice uc s.length tb,I v] h (I (eh s v)):=by
 refine sT func179 U ntmps179 U fun X hM hX hF=>?_
 have hs0:eh s v=eh s v:=rfl
 refine qK 11 [] U ?_
 refine lp0 s (fun i=>[(0,.slice uc s.length tb),(1,I v),(7,I (s.length:Int)),(8,I (i:Int))]) ([]) (fun s1 i=>(eh.L1 v (eh.K1)) s1 i) hs.1.1 hs0 ?_ ?_
 ·rintro i1 et hs1 e
  exact sr (an (nretP [I (-1)] (ci hs1)))
 rintro i1 y1 rz1 hd1 cw ao dy fB hs3 hx1 ag1 e
 refine sr (ad (v':=.bool true) U (cb cw) (qO 16 U (aA (ek (enc:=fun y=>[I y]) ei cQ ty3 hs.1 (nthZ ao) (au ao) U U U (fun q2 A2=>cK ty3 A2 U (qO 2 U (ac hs3 U (fun c2 hs4=>?_) (fun c2 hs5=>?_))))))))
 ·exact sr (qO 3 U (nretP [I (i1:Int)] (ci hs4)))
 exact aE (qT 2 U (ad (v':=I (((i1+1):Nat):Int)) U (aL ob) (qO 2 U (ag1 hs5))))
theorem qv (h:HF) (s:List Int) (uc:Option Addr) (tb:Nat) (v:Int) (hs:SlC Rp.int h uc tb s):Ret prog 111 [.slice uc s.length tb,I v] h (.bool (dM s v)):=by
 refine sT func111 U ntmps111 U fun X hM hX hF=>?_
 have hs0:dM s v=dM s v:=rfl
 exact sr (qO 6 U (ah call179 (tK _ _ _ _ v hs) U (qO 3 U (nretP [.bool (decide (0≤(eh s v)))] (cs hs0)))))
end Go.Sg
namespace Go.Proofs
open Go.Shelf Go.RowKit Go.Lib Go.Sort
set_option maxHeartbeats 1000000 in
theorem Tryz.closure151 (x y:Go.Sg.OSeat) (W:World):Calls Tryz.prog 151 #[.agg (Go.Sg.OSeat.cells x).toArray,.agg (Go.Sg.OSeat.cells y).toArray] W fun e w'=>e=.returned (.int .i64 (Lib.compareInt x.person y.person))∧∃ q os',w'=grow (W.drewN q) os':=by
 have hcon:=fun W'=>Tryz.cmp_Compare_int x.person y.person W'
 generalize Lib.compareInt x.person y.person=r at hcon ⊢
 unfold Go.Sg.OSeat.cells
 go_enter Tryz.func151,Tryz.ntmps151
 go_wp2_with (go_at_call 152;refine (hcon _).mono ?_;rintro e w' ⟨rfl,rfl⟩)
 go_ret
 exact ⟨rfl,0,_,by rw [alloc_eq_grow,alloc_eq_grow,grow_grow];rfl⟩
theorem Tryz.ltSeat (x y:Go.Sg.OSeat):ltOf (fun x y:Go.Sg.OSeat=>Lib.compareInt x.person y.person) x y=decide (x.person < y.person):=by
 unfold ltOf Lib.compareInt
 by_cases h1:x.person < y.person
 ·simp [h1]
 ·by_cases h2:y.person < x.person <;> simp [h1,h2]
theorem Tryz.swoSeat:SWO (ltOf fun x y:Go.Sg.OSeat=>Lib.compareInt x.person y.person) where
 irrefl x:=by rw [Tryz.ltSeat];simp
 trans x y z h1 h2:=by rw [Tryz.ltSeat] at *;simp at *;omega
 ntrans x y z h1 h2:=by rw [Tryz.ltSeat] at *;simp at *;omega
end Go.Proofs
namespace Go.Sg
open Go.Proofs Go.Proofs.Tryz Go.RowKit Go.Sort
theorem xn {h:HF}:∀ {cl:List Value} {xs:List OSeat},aP OSeat.rp h cl xs→cl=xs.flatMap OSeat.cells
 | _,[],hc=>hc
 | _,x::xs,⟨cs,rest,e,_,hr,hc⟩=>by
  have:cs=OSeat.cells x:=hr
  rw [e,this,xn hc];rfl
theorem xW (h:HF):∀ xs:List OSeat,aP OSeat.rp h (xs.flatMap OSeat.cells) xs
 | []=>rfl
 | x::xs=>⟨OSeat.cells x,xs.flatMap OSeat.cells,rfl,rfl,rfl,xW h xs⟩
theorem BA:∀ (xs:List OSeat) (j:Nat),j < xs.length * 2→(xs.flatMap OSeat.cells)[j]? = some ((OSeat.cells (xs.getD (j / 2) default)).getD (j % 2) undef)
 | [],j,hj=>by simp at hj
 | x::xs,0,_=>by simp [OSeat.cells]
 | x::xs,1,_=>by simp [OSeat.cells]
 | x::xs,j+2,hj=>by
  have ih:=BA xs j (by simp at hj;omega)
  simp only [List.flatMap_cons]
  rw [List.getElem?_append_right (by simp [OSeat.cells])]
  simp only [OSeat.cells,List.length_cons,List.length_nil]
  rw [show j+2 - (0+1+1)=j from by omega,show (j+2) / 2=j / 2+1 from by omega,show (j+2) % 2=j % 2 from by omega]
  simpa [OSeat.cells] using ih
theorem n9 (xs:List OSeat):(xs.flatMap OSeat.cells).length=xs.length * 2:=by
 induction xs with
 | nil=>rfl
 | cons x xs ih=>rw [List.flatMap_cons,List.length_append,ih];simp [OSeat.cells];omega
theorem Au (xs:List OSeat):(flatK OSeat.cells 2 xs.toArray).toList=xs.flatMap OSeat.cells:=by
 apply List.ext_getElem?
 intro j
 rcases Nat.lt_or_ge j (xs.length * 2) with hj | hj
 ·rw [BA xs j hj]
  have h1:=get_flatK OSeat.cells 2 xs.toArray j (by simpa using hj)
  have h2:j < (flatK OSeat.cells 2 xs.toArray).size:=by rw [size_flatK];simpa using hj
  rw [getElem!_pos _ j h2] at h1
  rw [Array.getElem?_toList,Array.getElem?_eq_getElem h2,h1]
  have h3:j / 2 < xs.length:=by omega
  congr 1
  rw [getElem!_pos xs.toArray (j / 2) (by simpa using h3)]
  have h4:j % 2 < 2:=Nat.mod_lt _ (by omega)
  simp only [List.getElem_toArray,List.getD,List.getElem?_eq_getElem h3,Option.getD_some]
  rw [getElem!_pos _ (j % 2) (by simpa [OSeat.cells] using h4)]
  rw [List.getElem?_eq_getElem (by simpa [OSeat.cells] using h4),Option.getD_some]
 ·rw [List.getElem?_eq_none (by rw [Array.length_toList,size_flatK];simpa using hj),List.getElem?_eq_none (by rw [n9];exact hj)]
theorem DU (F cur:Array Value) (h:F.size≤cur.size):(putCells id 0 F cur).toList=F.toList++cur.toList.drop F.size:=by
 apply List.ext_getElem?
 intro j
 rcases Nat.lt_or_ge j cur.size with hj | hj
 ·have e1:(putCells id 0 F cur).toList[j]? = some (if j < F.size then F[j]! else cur[j]):=by
   rw [Array.getElem?_toList]
   simp [putCells,hj]
  rw [e1]
  rcases Nat.lt_or_ge j F.size with h1 | h1
  ·rw [if_pos h1,List.getElem?_append_left (by simpa using h1),Array.getElem?_toList,Array.getElem?_eq_getElem h1,getElem!_pos _ j h1]
  ·rw [if_neg (by omega),List.getElem?_append_right (by simpa using h1),List.getElem?_drop,Array.getElem?_toList,Array.length_toList,show F.size+(j - F.size)=j from by omega,Array.getElem?_eq_getElem hj]
 ·rw [List.getElem?_eq_none (by simpa [putCells] using hj),List.getElem?_eq_none (by simp;omega)]
theorem IA {w:World} {g n:Nat} {os:Array Obj} {cur:Array Value} {e:TypeId} {fr:Nat×Nat} (d:Array Value) (hb:w.heap[g]? = some (.cells cur e fr)):
  (grow (putRow id (Sort.ahead w n) g 0 d) os).heap[g]? = some (.cells (putCells id 0 d cur) e fr):=by
 have hg:g < w.heap.size:=(Array.getElem?_eq_some_iff.1 hb).1
 rw [heap_grow_old _ _ (by simpa using hg)]
 simp [putRow,mapBlock,Sort.ahead,Array.getElem?_modify,hb,onCells]
theorem Hb {w:World} {g n:Nat} {os:Array Obj} (d:Array Value):(grow (putRow id (Sort.ahead w n) g 0 d) os).os=w.os∧(grow (putRow id (Sort.ahead w n) g 0 d) os).tape=w.tape∧(grow (putRow id (Sort.ahead w n) g 0 d) os).output=w.output ∧
  w.heap.size≤(grow (putRow id (Sort.ahead w n) g 0 d) os).heap.size∧∀ k,k < w.heap.size→k≠g→(grow (putRow id (Sort.ahead w n) g 0 d) os).heap[k]? = w.heap[k]?:=by
 refine ⟨rfl,rfl,rfl,by simp [putRow,mapBlock,Sort.ahead],fun k hk hne=>?_⟩
 rw [heap_grow_old _ _ (by simpa using hk)]
 simp [putRow,mapBlock,Sort.ahead,Array.getElem?_modify,Ne.symm hne]
theorem pW (h:HF) (xs:List OSeat) (b:Option Addr) (c:Nat) (G:LH) (hG:cM OSeat.rp 212 h xs b c G) (hsz:xs.length≤1000000000000):
  nI prog 211 [.slice b xs.length c,.func (.func 151) #[] #[]].toArray h G (fun r h' G'=>h'=h∧r=.returned (.tuple #[])∧∃ ys,ys.Perm xs∧ys.Pairwise (fun x y=>x.person≤y.person)∧cM OSeat.rp 212 h ys b c G'):=by
 intro w hp
 rcases hG with ⟨rfl,rfl,rfl,rfl⟩ | ⟨bk,cl,sp,rfl,hcl,hlen,hcap,hmax,rfl⟩
 ·refine (iG (AnyF.slices_SortFunc_none Tryz.sortSeat none 0 (.func (.func 151) #[] #[]) w) (fun w' hw=>by cases hw.1)).mono ?_
  rintro e w' ⟨rfl,rfl⟩
  exact ⟨h,[],St.start hp,rfl,rfl,[],List.Perm.refl _,List.Pairwise.nil,cM.nil⟩
 ·have hb:=hp.own _ (List.mem_singleton.2 rfl)
  simp only at hb
  have hcl':=xn hcl
  subst hcl'
  have hfl:=Au xs
  have hH:HoldsK OSeat.cells 2 w bk 0 xs.toArray:=by
   intro j hj
   rw [size_flatK] at hj
   have hj':j < xs.length * 2:=by simpa using hj
   refine ⟨?_,by simp [World.frozen?,hb]⟩
   have h2:j < (flatK OSeat.cells 2 xs.toArray).size:=by rw [size_flatK];exact hj
   have h3:(flatK OSeat.cells 2 xs.toArray).toList[j]? = some (flatK OSeat.cells 2 xs.toArray)[j]!:=by
    rw [Array.getElem?_toList,Array.getElem?_eq_getElem h2,getElem!_pos _ j h2]
   rw [hfl] at h3
   have h4:(xs.flatMap OSeat.cells++sp)[j]? = some (flatK OSeat.cells 2 xs.toArray)[j]!:=by
    rw [List.getElem?_append_left (by rw [n9];exact hj')];exact h3
   simp only [World.cell?,hb,Nat.zero_add]
   simpa using h4
  have eg:∀ args w,(callFunc 151 args).run prog w=.ok (.enter 151 args) w:=call151
  have hcall:=AnyQ.slices_SortFunc Tryz.sortSeat 2 Tryz.isAgg212 Tryz.sizeOf212 OSeat.cells (fun _=>rfl) (fun x v hv=>by simp [OSeat.cells] at hv;rcases hv with rfl | rfl <;> rfl)
   (fun x y=>Lib.compareInt x.person y.person) Tryz.swoSeat 151 #[] bk 0 c xs.toArray w eg (fun _ _ _ _ x y=>Tryz.closure151 x y _) hH (fe hb) (by simp;omega)
  change Calls prog 211 _ _ _ at hcall
  rw [List.size_toArray] at hcall
  refine (iG hcall (fun w' hw=>by cases hw.1)).mono ?_
  rintro e w' ⟨rfl,d',n,os,⟨hds,_,hperm⟩,hsorted,rfl⟩
  have hds':d'.size=xs.length:=by simpa using hds
  have hF:(flatK OSeat.cells 2 d').toList=d'.toList.flatMap OSeat.cells:=by have:=Au d'.toList;simpa using this
  have hFs:(flatK OSeat.cells 2 d').size=xs.length * 2:=by rw [size_flatK,hds']
  obtain ⟨g1,g2,g3,g4,g5⟩:=Hb (w:=w) (g:=bk) (n:=n) (os:=os) (flatK OSeat.cells 2 d')
  have hnew:=IA (w:=w) (g:=bk) (n:=n) (os:=os) (flatK OSeat.cells 2 d') hb
  have hcur:(putCells id 0 (flatK OSeat.cells 2 d') (xs.flatMap OSeat.cells++sp).toArray).toList=d'.toList.flatMap OSeat.cells++sp:=by
   rw [DU _ _ (by rw [hFs,← n9];simp),hF,hFs]
   congr 1
   rw [← n9]
   exact List.drop_left' rfl
  have hcur':putCells id 0 (flatK OSeat.cells 2 d') (xs.flatMap OSeat.cells++sp).toArray=(d'.toList.flatMap OSeat.cells++sp).toArray:=by rw [← hcur]
  rw [hcur'] at hnew
  have hperm':d'.toList.Perm xs:=by
   have e1:d'.extract 0 xs.length=d':=by rw [← hds'];simp
   have e2:xs.toArray.extract 0 xs.length=xs.toArray:=by simp
   rw [e1,e2] at hperm;exact hperm
  refine ⟨h,[(bk,.cells (d'.toList.flatMap OSeat.cells++sp).toArray 212 (0,0))],⟨g1,g2,g3,g4,fun k hk hM=>g5 k hk (fun e=>hM (by subst e;simp)),fun _ _ e=>e,fun _ _=>rfl,fun k o e=>?_,fun q hq=>?_,?_,?_,?_⟩,rfl,rfl,d'.toList,hperm',?_,?_⟩
  ·have hne:k≠bk:=fun e'=>by
    have:=hp.free _ (List.mem_singleton.2 rfl)
    simp only at this
    rw [e',this] at e;cases e
   exact (g5 k (fe (hp.imm k o e)) hne).trans (hp.imm k o e)
  ·rw [List.mem_singleton.1 hq];exact hnew
  ·simp
  ·intro q hq;rw [List.mem_singleton.1 hq];exact hp.free (bk,Obj.cells (xs.flatMap OSeat.cells++sp).toArray 212 (0,0)) (List.mem_singleton.2 rfl)
  ·intro q hq;rw [List.mem_singleton.1 hq];exact .inr (by simp)
  ·rw [List.pairwise_iff_getElem]
   intro i j hi hj hij
   have hj':j < d'.size:=by simpa using hj
   have hi':i < d'.size:=by simpa using hi
   have:=hsorted i j (Nat.zero_le _) hij (by omega)
   rw [Tryz.ltSeat,getElem!_pos _ j hj',getElem!_pos _ i hi'] at this
   simp only [Array.getElem_toList]
   simpa using this
  ·refine .inr ⟨bk,d'.toList.flatMap OSeat.cells,sp,rfl,xW h _,?_,?_,?_,rfl⟩
   ·rw [List.length_append,n9,hperm'.length_eq,← n9,← List.length_append];exact hlen
   ·rw [hperm'.length_eq];exact hcap
   ·rw [hperm'.length_eq];exact hmax
theorem pI (h:HF) (it:Value) (ks:List OSeat) (hit:w7 prog it (fun (k:OSeat) (_:HF) (vs:List Value)=>vs=[OSeat.enc k]) (fun xs=>xs.Perm ks) h) (hk:ks.length≤1000000000000):
  iq prog 153 [it,.func (.func 151) #[] #[]] h (fun v h'=>∃ (b:Option Addr) (c:Nat) (ys:List OSeat),ys.Perm ks∧ys.Pairwise (fun x y=>x.person≤y.person)∧v=.slice b ys.length c∧SlC OSeat.rp h' b c ys):=by
 refine cU func153 rfl ntmps153 rfl fun X hM hX=>?_
 refine dz (bn (fg (aM (dz (bn (aj ?_))))))
 refine aA (vu call210 (AK h it _ hit (fun xs hx=>by rw [hx.length_eq];exact hk)) rfl (fun h' xs bb c G hle hxs hG=>?_))
 refine fg (aM (dz (bn (aj (aj ?_)))))
 refine aA (rY [] G [] call211 (pW h' xs bb c G hG (by rw [hxs.length_eq];exact hk)) (by simp) rfl (fun G' hG'=>?_))
 obtain ⟨ys,hp,hs,hG'⟩:=hG'
 refine aM (dz (bn (aj (fg (aM ?_)))))
 refine eI OSeat.ak [] G' [] (by simp) hM hG' (fun h2 hle2 sl=>?_)
 exact fR [.slice bb xs.length c] func153 rfl ⟨rfl,trivial⟩ ⟨bb,c,ys,hp.trans hxs,hs,by rw [hp.length_eq];rfl,sl⟩
end Go.Sg
namespace Go.Sg
open Go.Proofs Go.Proofs.Tryz
set_option maxHeartbeats 2000000
theorem mB (h:HF) (q:aC) (j4:fL) (fa:Int) (hq:aC.ok h q j4) (hsm:smR q.Register) (hk:Kinds h):iq prog 65 [.agg (aC.cells q j4).toArray,I fa] h (fun v h'=>∃ (rb0:Option Addr) (rc0:Nat),v=.tuple #[.slice rb0 ((aw q fa).1).length rc0,I ((aw q fa).2)]∧SlC Policy.rp h' rb0 rc0 ((aw q fa).1)):=by
 refine sT func65 U ntmps65 U fun X hM hX hF=>?_
 have hs0:aw q fa=aw q fa:=rfl
 have hsv:=hsm.vers
 have hsl:=hsv.len
 refine sr (cA (fun b1=>qL 14 [0,0,0] U (aA (cf call44 (ut _ _ _ _ q.doc.At fa q.known hq.Register.Versions ob hk) U (fun v1 h1 hle1 hp1=>?_)))))
 obtain ⟨rb1,rc1,rfl,sl1⟩:=hp1
 refine qO 14 U (ac hs0 U (fun c1 hs1=>?_) (fun c1 hs2=>?_))
 ·refine qT 5 U ?_
  have hs3:aw q fa=([],0):=hs1
  exact nretH [.slice none 0 0,I 0] ⟨none,0,congrArg (fun r:(List Policy×Int)=>(.tuple #[.slice none r.1.length 0,I r.2]:Value)) hs3.symm,(by rw [hs3];exact SlC.nil)⟩
 refine qK 10 [0] U ?_
 let z2:Nat×Obj:=(b1,O (aC.cells q j4) 77)
 refine lp2 q.Register.Versions (fun i w=>[(4,.slice w.2.1 w.1.length w.2.2.1),(5,I ((ay q.Register.Versions q.doc.At fa q.known).2.1)),(6,.slice rb1 (((ay q.Register.Versions q.doc.At fa q.known).1).length) rc1),(28,.slice j4.Register.kI q.Register.Versions.length j4.Register.kH),(29,I (q.Register.Versions.length:Int)),(30,I (i:Int))]) (fun _=>h1) (fun w=>[z2]++(w.2.2.2)) (fun i w=>cM Policy.rp 68 h1 w.1 w.2.1 w.2.2.1 w.2.2.2∧w.1.length≤0+i) (fun s1 i w=>(aw.L1 q fa (aw.K1 q fa)) s1 w.1) ([],none,0,[]) ((hq.Register.Versions.mono Version.ak hle1).1.1) hs2 ⟨cM.nil,lo⟩ ?_ ?_
 ·rintro i1 ⟨oT,ul,uk,xJ⟩ et hs4 ⟨rB,Al⟩ e
  try dsimp only at rB Al
  refine qT 7 U (eI Policy.ak ([z2]) xJ ([]) ap hM rB (fun h3 hle3 sl3=>?_))
  have hs5:aw q fa=(oT,(ay q.Register.Versions q.doc.At fa q.known).2.1):=hs4
  exact nretH [.slice ul oT.length uk,I ((ay q.Register.Versions q.doc.At fa q.known).2.1)] ⟨ul,uk,congrArg (fun r:(List Policy×Int)=>(.tuple #[.slice ul r.1.length uk,I r.2]:Value)) hs5.symm,(by rw [hs5];exact sl3)⟩
 rintro i1 ⟨oT,ul,uk,xJ⟩ y1 rz1 hd1 cw ao dy fB hs6 ⟨rB,Al⟩ hx1 ag1 e
 try dsimp only at rB Al
 refine sr (ad (v':=.bool true) U (cb cw) (qO 8 U (aA (dV lg ty70 (hq.Register.Versions.mono Version.ak hle1).1 (nthZ ao) (au ao) U U U (fun _ _ _ e=>e) (fun q2 r2 A2 ok2=>de ty70 A2 U U (bH zc70 (fun b4=>bE 0 ty70 U U U U U U (iW (L':=[(b4,O (Version.cells y1 r2) 70),z2]++(xJ)) U (qL 6 [0] U (ah call111 (qv _ _ _ _ y1.No sl1) U (aM (ac hs6 U (fun c3 hs7=>?_) (fun c3 hs8=>?_)))))))))))))
 ·refine qK 3 [] U (cJ 0 ty68 U U U (aA (bg (cells:=[.string y1.Policy.Name,.slice r2.Policy.gI y1.Policy.Kinds.length r2.Policy.gH,.slice r2.Policy.fc y1.Policy.Offices.length r2.Policy.fb,.slice r2.Policy.kc y1.Policy.Rules.length r2.Policy.kb,I y1.Policy.Change.Kind,I y1.Policy.Change.N,I y1.Policy.Change.No,.string y1.Policy.Change.Name,.slice r2.Policy.Change.iL y1.Policy.Change.L.length r2.Policy.Change.iP,I y1.Policy.Mode]) Hz ty68 zc68 U U kr (fun b5=>?_))))
  let z1:Nat×Obj:=(b5,O [.string y1.Policy.Name,.slice r2.Policy.gI y1.Policy.Kinds.length r2.Policy.gH,.slice r2.Policy.fc y1.Policy.Offices.length r2.Policy.fb,.slice r2.Policy.kc y1.Policy.Rules.length r2.Policy.kb,I y1.Policy.Change.Kind,I y1.Policy.Change.N,I y1.Policy.Change.No,.string y1.Policy.Change.Name,.slice r2.Policy.Change.iL y1.Policy.Change.L.length r2.Policy.Change.iP,I y1.Policy.Mode] 68)
  exact aA (bS Policy.eC ([z1,(b4,O (Version.cells y1 r2) 70),z2]) ([]) (fun G=>[z1,(b4,O (Version.cells y1 r2) 70),z2]++G) ap (fun _=>ap) Hz ty68 zc68 U bytes68 rB U U (du 0 U (show aP Policy.rp h1 [.string y1.Policy.Name,.slice r2.Policy.gI y1.Policy.Kinds.length r2.Policy.gH,.slice r2.Policy.fc y1.Policy.Offices.length r2.Policy.fb,.slice r2.Policy.kc y1.Policy.Rules.length r2.Policy.kb,I y1.Policy.Change.Kind,I y1.Policy.Change.N,I y1.Policy.Change.No,.string y1.Policy.Change.Name,.slice r2.Policy.Change.iL y1.Policy.Change.L.length r2.Policy.Change.iP,I y1.Policy.Mode] ([y1.Policy]) from ⟨[.string y1.Policy.Name,.slice r2.Policy.gI y1.Policy.Kinds.length r2.Policy.gH,.slice r2.Policy.fc y1.Policy.Offices.length r2.Policy.fb,.slice r2.Policy.kc y1.Policy.Rules.length r2.Policy.kb,I y1.Policy.Change.Kind,I y1.Policy.Change.N,I y1.Policy.Change.No,.string y1.Policy.Change.Name,.slice r2.Policy.Change.iL y1.Policy.Change.L.length r2.Policy.Change.iP,I y1.Policy.Mode],[],U,U,⟨r2.Policy,U,ok2.Policy⟩,U⟩)) lo lo (fun ob2 oc2 G2 gr2=>qO 4 U (ad (v':=I (((i1+1):Nat):Int)) U (aL ob) (qO 2 U (bU (L':=[z2]++G2) js (ag1 ((oT++[y1.Policy]),ob2,oc2,G2) hs7 ⟨gr2,lo⟩))))))
 exact aE (qT 2 U (ad (v':=I (((i1+1):Nat):Int)) U (aL ob) (qO 2 U (bU (L':=[z2]++(xJ)) js (ag1 (oT,ul,uk,xJ) hs8 ⟨rB,lo⟩)))))
theorem ot (h:HF) (seq:List Holder) (seq_v:Value) (hseq:Itr prog seq_v mt seq h) (hsz:seq.length≤2000000):iq prog 149 [.slice none 0 0,seq_v] h (fun v h'=>∃ (rb0:Option Addr) (rc0:Nat),v=.slice rb0 (bR seq).length rc0∧SlC Holder.rp h' rb0 rc0 (bR seq)):=by
 refine cU func149 U ntmps149 U fun X hM hX=>?_
 have hs0:bR seq=bR seq:=rfl
 refine sr (cA (fun b1=>qO 8 U (gk (cS (L':=([(b1,O [.slice none 0 0] 101)])++markB []) ap ?_))))
 refine kd (it:=seq_v) (xs:=seq) (ι:=(List Holder)×Option Addr×Nat×LH×HF) [] (fun i=>i.2.2.2.2) (fun i=>[(b1,O [.slice i.2.1 i.1.length i.2.2.1] 101)]++(i.2.2.2.1)) (fun s i=>bR seq=((bR.L1 (bR.K1)) s i.1)∧cM Holder.rp 133 i.2.2.2.2 i.1 i.2.1 i.2.2.1 i.2.2.2.1∧HF.le h i.2.2.2.2∧i.1.length+s.length≤seq.length) (fun _=>False) (fun _=>False) 0 (fun _ _ _=>False) ([],none,0,[],h) func149 U hseq U oG (fun _ _ _ _ _ hq=>hq) U (show [(b1,O [.slice none 0 0] 101)]=_ from U) ⟨hs0,cM.nil,lf,(by simp)⟩ ?_ ?_ ?_ ?_ ?_
 ·rintro l1 dm1 lp1 y1 rz1 vs1 ⟨cR,qi,qh,sS,hh1⟩ hr1 X hFR1 ⟨hs1,iU,hl1,u1_0⟩ hl01 hlr1 hv1 hX hXM hlp1 nx1 rt1 ex1 pn1
  obtain rfl:=hv1
  simp only [List.length_cons] at u1_0
  let z1:Nat×Obj:=(b1,O [.slice qi cR.length qh] 101)
  let z3:Nat×Obj:=(dm1,.deferred (some []))
  refine cS (L':=[(l1,.loop lp1),z3,z1]++(sS++(markB []))) ap (bn (bH zc133 (fun b4=>bE 0 ty133 U U U U U U (iW (L':=[(b4,O (Holder.cells y1) 133),(l1,.loop lp1),z3,z1]++(sS++(markB []))) U ?_))))
  let z4:Nat×Obj:=(l1,.loop { lp1 with state:=.busy })
  let z5:Nat×Obj:=(b4,O (Holder.cells y1) 133)
  refine aM (kg 1 U hlp1 (qK 3 [3] U (cJ 0 ty133 U U U (aA (bg (cells:=[I y1.Person,I y1.Weight]) pb ty133 zc133 U U kr (fun b5=>aA (bS Holder.eC ([(b5,O [I y1.Person,I y1.Weight] 133),z5,z4,z3,z1]) (markB []) (fun G=>[(b5,O [I y1.Person,I y1.Weight] 133),z5,z4,z3,z1]++(markB []++G)) ap (fun _=>ap) pb ty133 zc133 U bytes133 (iU.mono Holder.ak hlr1) U U (du 0 U (show aP Holder.rp hr1 [I y1.Person,I y1.Weight] ([y1]) from ⟨[I y1.Person,I y1.Weight],[],U,U,U,U⟩)) lo lo (fun ob2 oc2 G2 gr2=>yv (tr ([(b5,O [I y1.Person,I y1.Weight] 133),z5,z4,z3,z1]) G2 (markB [])) (dw 4 ty101 U U U U U U (qO 2 U ?_))))))))))
  let z6:Nat×Obj:=(b1,O [.slice ob2 ((cR++[y1]).length) oc2] 101)
  exact bU (L':=[z4,z3,z6]++(G2++(markB []))) js (cS (L':=rdH l1 dm1 lp1 (([z6]++G2)++markB [])) ap (nx1 ((cR++[y1]),ob2,oc2,G2,hr1) _ _ ⟨hs1,gr2,(hl1.t hlr1),(by simp only [List.length_append,List.length_cons,List.length_nil] at *;omega)⟩ lf))
 ·rintro dm1 ⟨cR,qi,qh,sS,hh1⟩ hn1 ⟨hs2,iU,hl1,u1_0⟩ hln1 hl01
  let z2:Nat×Obj:=(b1,O [.slice qi cR.length qh] 101)
  refine cS (L':=[z2]++(sS++(markB (dm1::[])))) ap (qK 6 [0] U (eI Holder.ak ([z2]) sS (markB (dm1::[])) ap hM (iU.mono Holder.ak hln1) (fun h2 hle2 sl2=>?_)))
  have hs3:bR seq=cR:=hs2
  exact cS (L':=([z2])++markB (dm1::[])) ap (pT (dm1::[]) [.slice qi cR.length qh] func149 U rd ⟨qi,qh,congrArg (fun r:List Holder=>(.slice qi r.length qh:Value)) hs3.symm,(by rw [hs3];exact sl2)⟩)
 ·exact xf
 ·exact xf
 exact xf
theorem pL (h:HF) (seq:List Holder) (seq_v:Value) (hseq:Itr prog seq_v mt seq h) (hsz:seq.length≤2000000):iq prog 91 [seq_v] h (fun v h'=>∃ (rb0:Option Addr) (rc0:Nat),v=.slice rb0 (eY seq).length rc0∧SlC Holder.rp h' rb0 rc0 (eY seq)):=by
 refine sT func91 U ntmps91 U fun X hM hX hF=>?_
 have hs0:eY seq=eY seq:=rfl
 refine qT 7 U (aA (cf call149 (ot h seq seq_v hseq ob) U (fun v1 h1 hle1 hp1=>?_)))
 obtain ⟨rb1,rc1,rfl,sl1⟩:=hp1
 refine an ?_
 have hs1:eY seq=(bR seq):=hs0
 exact nretH [.slice rb1 ((bR seq).length) rc1] ⟨rb1,rc1,congrArg (fun r:List Holder=>(.slice rb1 r.length rc1:Value)) hs1.symm,(by rw [hs1];exact sl1)⟩
theorem su (h:HF) (m:List (OSeat×Appoint)) (CY:Nat) (m_q:Addr) (office:Int) (office_q:Addr) (hm:oZ OSeat.enc (kR Appoint.rp) h CY m) (am:At h m_q [.map (some CY)]) (aoffice:At h office_q [I office]) (hsz:m.length≤1000000000):Itr prog (.func (.func 150) #[] (List.toArray [.pointer (some m_q),.pointer (some office_q)])) mt (bA m office) h:=by
 refine wN call150 ?_
 intro yf ya yb C Sp Pn h1 A hle m1 m2 m3 hC hy
 refine jQ Hy U ntmps150 U fun X hXM hX=>?_
 have hs0:bA m office=[]++bA m office:=rfl
 refine qT 6 U (cK ty159 (am.mono hle) U (aA (cf call154 (sA h1 m CY (hm.mono (kR.mono Appoint.ak) hle)) U (fun v1 h2 hle1 hp1=>aj (aA (cf call153 (pI h2 v1 (m.map Prod.fst) hp1 (by rw [List.length_map];omega)) U (fun v2 h3 hle2 hp2=>?_)))))))
 obtain ⟨rb1,rc1,ys_,hper_,hsrt_,rfl,sl1⟩:=hp2
 have Lm:bA m office=[]++((bA.L1 m office (bA.K1)) ys_):=Bb (by obtain ⟨_,_,q⟩:=hm;exact q.nodup) hper_ hsrt_
 refine qL 3 [] U ?_
 refine lp2 ys_ (fun i w=>[(0,.func yf ya yb),(1,.pointer (some m_q)),(2,.pointer (some office_q)),(11,.slice rb1 ys_.length rc1),(12,I (ys_.length:Int)),(13,I (i:Int))]) (fun w=>w.2.2) (fun w=>w.2.1) (fun i w=>C w.1 w.2.2 w.2.1∧HF.le h3 w.2.2) (fun s1 i w=>w.1++(bA.L1 m office (bA.K1)) s1) ([],A,h3) sl1.1.1 Lm ⟨(m1 _ _ _ _ (hle1.t hle2) hC),lf⟩ ?_ ?_
 ·rintro i1 ⟨dn1,A1_,hh1⟩ et hs1 ⟨hC1_,hl1⟩ e
  refine gk ?_
  have hs2:bA m office=dn1:=hs1.trans (List.append_nil _)
  exact wO [] (A:=A1_) Hy U (List.Sublist.refl _) (.inl (hs2 ▸ hC1_))
 rintro i1 ⟨dn1,A1_,hh1⟩ y1 rz1 hd1 cw ao dy fB hs3 ⟨hC1_,hl1⟩ hx1 ag1 e
 refine sr (ad (v':=.bool true) U (cb cw) (qO 8 U (aA (ek (enc:=OSeat.cells) ei JU ty212 (sl1.mono OSeat.ak hl1).1 (nthZ ao) (au ao) U U U (fun q2 A2=>de ty212 A2 U U (bH zc212 (fun b3=>bE 0 ty212 U U U U U U (iW (L':=[(b3,O (OSeat.cells y1) 212)]++(A1_)) U (qO 3 U (cK ty159 (am.mono (((hle.t hle1).t hle2).t hl1)) U (cJ 0 ty212 U U U ?_)))))))))))
 obtain ⟨o2,hb2,hm2⟩:=(hm.mono (kR.mono Appoint.ak) (((hle.t hle1).t hle2).t hl1))
 refine aA (pX (k:=y1) HE uK hb2 hm2 (ji zv59) (show (kR Appoint.rp) _ (.agg (List.toArray [I 0,I 0,I 0,I 0,I 0,I 0,.bool false])) (Appoint.mk 0 0 0 0 0 0 false) from ⟨_,U,U⟩) U U (fun v4 hv2=>?_))
 obtain ⟨_,rfl,rfl⟩:=hv2
 refine bH zc59 (fun b4=>bE 0 ty59 U U U U U U (iW (L':=[(b4,O (Appoint.cells (mgetD m y1 (Appoint.mk 0 0 0 0 0 0 false))) 59),(b3,O (OSeat.cells y1) 212)]++(A1_)) U (qL 5 [1] U (cK ty3 (aoffice.mono (((hle.t hle1).t hle2).t hl1)) U (qO 2 U (bx 4 [24,25,26,27,28] 24 28 (!((mgetD m y1 (Appoint.mk 0 0 0 0 0 0 false)).Gone)) U (fun c1 hk1=>?_) (fun e=>?_)))))))
 ·exact qL 4 [0] U (hk1 _ U)
 refine aj (mH 29 U (fun c2=>?_) (fun c2=>?_))
 ·have hs4:=hs3.trans (congrArg (dn1++·) (bt c2))
  refine qL 5 [0,0] U (aA (er (cells:=[I ((mgetD m y1 (Appoint.mk 0 0 0 0 0 0 false)).Person),I ((mgetD m y1 (Appoint.mk 0 0 0 0 0 0 false)).Weight)]) (places:=[(0,1),(1,1)]) underlying133 zc133 kr kr ?_))
  have hx1:bA m office=dn1++((Holder.mk ((mgetD m y1 (Appoint.mk 0 0 0 0 0 0 false)).Person) ((mgetD m y1 (Appoint.mk 0 0 0 0 0 0 false)).Weight))::(bA.L1 m office (bA.K1) rz1)):=hs4
  refine aA (me ([(b4,O (Appoint.cells (mgetD m y1 (Appoint.mk 0 0 0 0 0 0 false))) 59),(b3,O (OSeat.cells y1) 212)]) A1_ ap (hy dn1 (Holder.mk ((mgetD m y1 (Appoint.mk 0 0 0 0 0 0 false)).Person) ((mgetD m y1 (Appoint.mk 0 0 0 0 0 0 false)).Weight)) _ _ _ _ hx1 ((hle1.t hle2).t hl1) hC1_ U) U U (fun h4 A3 hle3 hC1=>?_) (fun h5 A4 hle4 hS1=>?_) (fun ch1 h6 A5 hle5 hP1 e=>ja (qY [] (A:=A5) Hy (List.sublist_append_right _ _) hP1)))
  ·have hs5:bA m office=(dn1++[(Holder.mk ((mgetD m y1 (Appoint.mk 0 0 0 0 0 0 false)).Person) ((mgetD m y1 (Appoint.mk 0 0 0 0 0 0 false)).Weight))])++((bA.L1 m office (bA.K1) rz1)):=hx1.trans ap
   exact lY U (qO 6 U (ad (v':=I (((i1+1):Nat):Int)) U (aL ob) (qO 2 U (bU (L':=A3) js (ag1 ((dn1++[(Holder.mk ((mgetD m y1 (Appoint.mk 0 0 0 0 0 0 false)).Person) ((mgetD m y1 (Appoint.mk 0 0 0 0 0 0 false)).Weight))]),A3,h4) hs5 ⟨hC1,(hl1.t hle3)⟩)))))
  exact lY U (qO 3 U (gk (qX [] (A:=A4) Hy U js (.inr hS1))))
 have hs6:=hs3.trans (congrArg (dn1++·) (bf c2))
 exact kq (qO 12 U (ad (v':=I (((i1+1):Nat):Int)) U (aL ob) (qO 2 U (bU (L':=A1_) js (ag1 (dn1,A1_,hh1) hs6 ⟨hC1_,hl1⟩)))))
theorem uG (h:HF) (m:List (OSeat×Appoint)) (CY:Nat) (office:Int) (hm:oZ OSeat.enc (kR Appoint.rp) h CY m) (hsz:m.length≤1000000000):iq prog 92 [.map (some CY),I office] h (fun v h'=>∃ (rv0:Value),v=rv0∧Itr prog rv0 mt (fW m office) h'):=by
 refine sT func92 U ntmps92 U fun X hM hX hF=>?_
 have hs0:fW m office=fW m office:=rfl
 refine sr (cA (fun b1=>cA (fun b2=>qO 4 U (bN 1 U hM (fun h1 hle1 hb1=>bN 0 U hM (fun h2 hle2 hb2=>aA (fX U U (an ?_))))))))
 have hs1:fW m office=(bA m office):=hs0
 exact nretH [.func (.func 150) #[] #[Q b1,Q b2]] ⟨(.func (.func 150) #[] #[Q b1,Q b2]),congrArg (fun r:List Holder=>((.func (.func 150) #[] #[Q b1,Q b2]):Value)) hs1.symm,(by rw [hs1];exact (su h2 m CY ⟨b1,0,none⟩ office ⟨b2,0,none⟩ (hm.mono (kR.mono Appoint.ak) (hle1.t hle2)) ((dp hb1).mono hle2) (dp hb2) ob))⟩
theorem rH (h:HF) (x:Appoint) (v0:Int) (v0_q:Addr) (v1:Int) (v1_q:Addr) (av0:At h v0_q [I v0]) (av1:At h v1_q [I v1]):Ret prog 155 [.agg (Appoint.cells x).toArray,.pointer (some v0_q),.pointer (some v1_q)] h (.tuple #[.agg (OSeat.cells ((e6 x v0 v1).1)).toArray,.bool ((e6 x v0 v1).2)]):=by
 refine cU func155 U ntmps155 U fun X hM hX=>?_
 have hs0:e6 x v0 v1=e6 x v0 v1:=rfl
 refine sr (cA (fun b1=>bH zc212 (fun b2=>qO 3 U ?_)))
 let z1:Nat×Obj:=(b1,O (Appoint.cells x) 59)
 refine Jk ([(b2,O [I x.Office,I x.Person] 212),z1]) [(4,Q b2),(5,.bool (decide (x.At≤v0)&&decide (x.Known≤v1)))] (fun e=>?_) (fun hk1=>?_)
 rotate_left
 ·refine eB ([z1]) mixed kr jn (fun cB _=>?_)
  refine qB [0] U (tf 1 U U (fun _ _ hj=>fI ty3 U (hj.nth (i:=0) U) U) (qB [2] U (tf 3 U U (fun _ _ hj=>fI ty3 U (hj.nth (i:=0) U) U) (qB [5] U (tf 6 U U (fun _ _ hj=>fI ty3 U (hj.nth (i:=0) U) U) (tf 7 U U (fun _ _ hj=>eF ty3 (av0.mono hj.1) U) (qA [8,9] U ?_)))))))
  refine cx 15 U (fun c1=>?_) (fun c1=>?_)
  ·have c1p:=of_decide_eq_true c1
   exact tf 10 U U (fun _ _ _=>nt JN U) (tf 11 U U (fun _ _ hj=>fI ty3 U (hj.nth (i:=0) U) U) (tf 12 U U (fun _ _ hj=>eF ty3 (av1.mono hj.1) U) (qA [13,14] U (tn 4 U (er (cells:=[I x.Office,I x.Person]) (places:=[(0,1),(1,1)]) FM zc212 kr kr (⟨jn,(tn 15 U (rX 0 ty212 U U U U U U (⟨jn,(qA [16] U (aI kr (hk1 _ ⟨U,(cb (show decide (x.Known≤v1)=(decide (x.At≤v0)&&decide (x.Known≤v1)) from by rw [c1] <;> rfl)),trivial⟩)))⟩)))⟩))))))
  have c1p:=of_decide_eq_false c1
  exact tk 10 U U (qR 11 4 U (tn 4 U (er (cells:=[I x.Office,I x.Person]) (places:=[(0,1),(1,1)]) FM zc212 kr kr (⟨jn,(tn 15 U (rX 0 ty212 U U U U U U (⟨jn,(qA [16] U (aI kr (hk1 _ ⟨U,(cb (show false=(decide (x.At≤v0)&&decide (x.Known≤v1)) from by rw [c1] <;> rfl)),trivial⟩)))⟩)))⟩))))
 have hs1:e6 x v0 v1=((OSeat.mk x.Office x.Person),(decide (x.At≤v0)&&decide (x.Known≤v1))):=hs0
 exact Cq [.agg (List.toArray [I x.Office,I x.Person]),.bool (decide (x.At≤v0)&&decide (x.Known≤v1))] func155 U hX ⟨⟨0,_,_,_,_,U,U,.inl ⟨ty212,U⟩⟩,U,trivial⟩ (congrArg (fun r:(OSeat×Bool)=>(.tuple #[.agg (OSeat.cells r.1).toArray,.bool r.2]:Value)) hs1.symm)
theorem qb (h:HF) (l:List Appoint) (ey:Option Addr) (ew:Nat) (key:(Appoint→OSeat×Bool)) (key_v:Value) (later:(Appoint→Appoint→Bool)) (later_v:Value) (hl:SlC Appoint.rp h ey ew l) (hkey:∀ (h':HF) (ed:Appoint),HF.le h h'→w5 prog key_v [.agg (Appoint.cells ed).toArray] h' [] (.tuple #[.agg (OSeat.cells ((key ed).1)).toArray,.bool ((key ed).2)])) (hlater:∀ (h':HF) (ed:Appoint) (Lj:Appoint),HF.le h h'→w5 prog later_v [.agg (Appoint.cells ed).toArray,.agg (Appoint.cells Lj).toArray] h' [] (.bool (later ed Lj))):iq prog 156 [.slice ey l.length ew,key_v,later_v] h (fun v h'=>∃ (rk0:Nat),v=.map (some rk0)∧oZ OSeat.enc (kR Appoint.rp) h' rk0 (bG l key later)):=by
 refine sT func156 U ntmps156 U fun X hM hX hF=>?_
 have hs0:bG l key later=bG l key later:=rfl
 refine qT 6 U (aA (pi (fun b1=>qL 9 [] U ?_)))
 refine lp2 l (fun i w=>[(1,key_v),(2,later_v),(7,.map (some b1)),(15,.slice ey l.length ew),(16,I (l.length:Int)),(17,I (i:Int))]) (fun _=>h) (fun w=>[(b1,w.2)]) (fun i w=>hO OSeat.enc (kR Appoint.rp) h w.2 w.1∧w.1.length≤0+i) (fun s1 i w=>(bG.L1 key later (bG.K1)) s1 w.1) ([],.map #[] 0) hl.1.1 hs0 ⟨(hO.nil (enc:=OSeat.enc) (V:=(kR Appoint.rp)) (h:=h)),lc⟩ ?_ ?_
 ·rintro i1 ⟨cR,lA⟩ et hs1 ⟨iU,sR⟩ e
  refine qT 5 U (eM 0 U hM (fun h1 hle1 hb1=>?_))
  have mc1:oZ OSeat.enc (kR Appoint.rp) h1 b1 cR:=⟨_,hb1,iU.mono (kR.mono Appoint.ak) hle1⟩
  have hs2:bG l key later=cR:=hs1
  exact nretH [.map (some b1)] ⟨b1,congrArg (fun r:(List (OSeat×Appoint))=>(.map (some b1):Value)) hs2.symm,(by rw [hs2];exact mc1)⟩
 rintro i1 ⟨cR,lA⟩ y1 rz1 hd1 cw ao dy fB hs3 ⟨iU,sR⟩ hx1 ag1 e
 refine sr (ad (v':=.bool true) U (cb cw) (qO 8 U (aA (ek (enc:=Appoint.cells) ei uv ty59 hl.1 (nthZ ao) (au ao) U U U (fun q2 A2=>de ty59 A2 U U (bH zc59 (fun b5=>bE 0 ty59 U U U U U U (qO 4 U (cJ 0 ty59 U U U (aA (nU (v:=.tuple #[.agg (OSeat.cells ((key y1).1)).toArray,.bool ((key y1).2)]) [] (List.nil_sublist _) (hkey h y1 lf) U U (qO 3 U (bH zc212 (fun b6=>bE 0 ty212 U U U U U U (qO 5 U (cJ 0 ty212 U U U (aA (yW 2 (k:=(key y1).1) HE uK U iU (ji zv59) (show (kR Appoint.rp) _ (.agg (List.toArray [I 0,I 0,I 0,I 0,I 0,I 0,.bool false])) (Appoint.mk 0 0 0 0 0 0 false) from ⟨_,U,U⟩) U U (fun v2 hv2=>?_)))))))))))))))))))
 obtain ⟨_,rfl,rfl⟩:=hv2
 refine qO 3 U (bH zc59 (fun b7=>bE 0 ty59 U U U U U U (qO 6 U (bx 10 [34,35,36,37,38,39,40,41,42,43,44] 34 44 ((!(mhas cR ((key y1).1)))||(!(later (mgetD cR ((key y1).1) (Appoint.mk 0 0 0 0 0 0 false)) y1))) U (fun c1 hk1=>?_) (fun e=>?_)))))
 ·refine qO 3 U (ce 6 [37,38,39,40,41,42,43] 37 43 (!(later (mgetD cR ((key y1).1) (Appoint.mk 0 0 0 0 0 0 false)) y1)) U (fun c2 hk2=>?_) (fun e=>?_))
  ·exact aj (cJ 0 ty59 U U U (cJ 2 ty59 U U U (aA (nU (v:=.bool (later (mgetD cR ((key y1).1) (Appoint.mk 0 0 0 0 0 0 false)) y1)) [] (List.nil_sublist _) (hlater h (mgetD cR ((key y1).1) (Appoint.mk 0 0 0 0 0 0 false)) y1 lf) U U (qO 2 U (hk2 _ U))))))
  exact dZ U (hk1 _ U)
 refine aM (ac hs3 U (fun c3 hs4=>?_) (fun c3 hs5=>?_))
 ·exact bn (aj (cJ 1 ty212 U U U (cJ 2 ty59 U U U (aA (ki 3 (k:=(key y1).1) (x:=y1) HE uK U iU U U ⟨_,U,U⟩ (fun mo1 hm1=>qO 3 U (ad (v':=I (((i1+1):Nat):Int)) U (aL ob) (qO 2 U (bU (L':=[(b1,mo1)]) js (ag1 ((mput cR ((key y1).1) y1),mo1) hs4 ⟨hm1,(by have:=gq cR ((key y1).1) y1;first | omega | (simp only [List.length_nil,List.length_cons] at *;omega))⟩))))))))))
 exact aE (qT 2 U (ad (v':=I (((i1+1):Nat):Int)) U (aL ob) (qO 2 U (bU (L':=[(b1,lA)]) js (ag1 (cR,lA) hs5 ⟨iU,lc⟩)))))
theorem rG (h:HF) (a:Appoint) (gR:Appoint)  : Ret prog 157 [.agg (Appoint.cells a).toArray,.agg (Appoint.cells gR).toArray] h (.bool (e5 a gR)):=by
 refine sT func157 U ntmps157 U fun X hM hX hF=>?_
 have hs0:e5 a gR=e5 a gR:=rfl
 exact sr (cA (fun b1=>cA (fun b2=>qL 11 [1,0] U (nretP [.bool (decide (gR.At < a.At))] (cs hs0)))))
theorem tT (h:HF) (l:List Appoint) (ey:Option Addr) (ew:Nat) (fa:Int) (known:Int) (hl:SlC Appoint.rp h ey ew l):iq prog 93 [.slice ey l.length ew,I fa,I known] h (fun v h'=>∃ (rk0:Nat),v=.map (some rk0)∧oZ OSeat.enc (kR Appoint.rp) h' rk0 (em l fa known)):=by
 refine sT func93 U ntmps93 U fun X hM hX hF=>?_
 have hs0:em l fa known=em l fa known:=rfl
 refine sr (cA (fun b1=>cA (fun b2=>qO 4 U (bN 1 U hM (fun h1 hle1 hb1=>bN 0 U hM (fun h2 hle2 hb2=>aA (fX U U (qO 6 U (aA (cf call156 (qb _ _ _ _ (fun ed=>e6 ed fa known) (.func (.func 155) #[] #[Q b1,Q b2]) e5 (.func (.func 157) #[] #[]) (hl.mono Appoint.ak (hle1.t hle2)) (fun h' ed hle =>i0 call155 (rH h' ed fa ⟨b1,0,none⟩ known ⟨b2,0,none⟩  (((dp hb1).mono hle2).mono hle) ((dp hb2).mono hle))) (fun h' ed Lj hle =>i0 call157 (rG h' ed Lj))) U (fun v1 h3 hle3 hp1=>?_)))))))))))
 obtain ⟨rk1,rfl,mo1⟩:=hp1
 refine an ?_
 have hs1:em l fa known=(bG l (fun ed=>e6 ed fa known) e5):=hs0
 exact nretH [.map (some rk1)] ⟨rk1,congrArg (fun r:(List (OSeat×Appoint))=>(.map (some rk1):Value)) hs1.symm,(by rw [hs1];exact mo1)⟩
theorem uH (h:HF) (l:List Appoint) (ey:Option Addr) (ew:Nat) (office:Int) (aO:Int) (known:Int) (hl:SlC Appoint.rp h ey ew l) (hsz:l.length≤2000000):iq prog 47 [.slice ey l.length ew,I office,I aO,I known] h (fun v h'=>∃ (rb0:Option Addr) (rc0:Nat),v=.tuple #[.slice rb0 ((dh l office aO known).1).length rc0,I ((dh l office aO known).2)]∧SlC Holder.rp h' rb0 rc0 ((dh l office aO known).1)):=by
 refine sT func47 U ntmps47 U fun X hM hX hF=>?_
 have hs0:dh l office aO known=dh l office aO known:=rfl
 refine qT 9 U (ah call51 (qc _ _ _ _ hl) U (qO 7 U (ac hs0 U (fun c1 hs1=>?_) (fun c1 hs2=>?_))))
 ·refine qT 6 U ?_
  have hs3:dh l office aO known=([],(cn l)):=hs1
  exact nretH [.slice none 0 0,I (cn l)] ⟨none,0,congrArg (fun r:(List Holder×Int)=>(.tuple #[.slice none r.1.length 0,I r.2]:Value)) hs3.symm,(by rw [hs3];exact SlC.nil)⟩
 refine qT 5 U (ah call89 (lT h office) U (qO 2 U (ce 4 [18,19,20,21,22] 18 22 (!(db aO)) U (fun c2 hk1=>?_) (fun e=>?_))))
 ·exact aj (ah Dq (jm h aO) U (qO 2 U (hk1 _ U)))
 refine aj (ce 4 [23,24,25,26,27] 23 27 (!(db known)) U (fun c3 hk2=>?_) (fun e=>?_))
 ·exact aj (ah Dq (jm h known) U (qO 2 U (hk2 _ U)))
 refine aM (ac hs2 U (fun c4 hs4=>?_) (fun c4 hs5=>?_))
 ·refine qT 5 U ?_
  have hs6:dh l office aO known=([],1):=hs4
  exact nretH [.slice none 0 0,I 1] ⟨none,0,congrArg (fun r:(List Holder×Int)=>(.tuple #[.slice none r.1.length 0,I r.2]:Value)) hs6.symm,(by rw [hs6];exact SlC.nil)⟩
 refine qT 6 U (aA (cf call93 (tT _ _ _ _ aO known hl) U (fun v1 h1 hle1 hp1=>?_)))
 obtain ⟨rk1,rfl,mo1⟩:=hp1
 refine aj (aA (cf call92 (uG h1 (em l aO known) rk1 office mo1 (by have:=qu l aO known;omega)) U (fun v2 h2 hle2 hp2=>?_)))
 obtain ⟨_,rfl,mo2⟩:=hp2
 refine aA (cf call91 (pL h2 (fW (em l aO known) office) v2 mo2 (by have h1:=qu l aO known;have h2:=xH (em l aO known) office;omega)) U (fun v3 h3 hle3 hp3=>?_))
 obtain ⟨rb1,rc1,rfl,sl1⟩:=hp3
 refine qO 3 U ?_
 have hs7:dh l office aO known=((eY (fW (em l aO known) office)),0):=hs5
 exact nretH [.slice rb1 ((eY (fW (em l aO known) office)).length) rc1,I 0] ⟨rb1,rc1,congrArg (fun r:(List Holder×Int)=>(.tuple #[.slice rb1 r.1.length rc1,I r.2]:Value)) hs7.symm,(by rw [hs7];exact sl1)⟩
theorem mb (h:HF) (q:aC) (j4:fL) (p:Policy) (gp:dS) (aO:Int) (hq:aC.ok h q j4) (hp:Policy.ok h p gp) (hsm:smR q.Register) (hszp:p.Offices.length≤2000000):iq prog 66 [.agg (aC.cells q j4).toArray,.agg (Policy.cells p gp).toArray,I aO] h (fun v h'=>∃ (rb0:Option Addr) (rc0:Nat),v=.slice rb0 (ar q p aO).length rc0∧SlC (Rp.sl Holder.rp) h' rb0 rc0 (ar q p aO)):=by
 refine sT func66 U ntmps66 U fun X hM hX hF=>?_
 have hs0:ar q p aO=ar q p aO:=rfl
 refine sr (cA (fun b1=>cA (fun b2=>qL 10 [0] U ?_)))
 let z2:Nat×Obj:=(b1,O (aC.cells q j4) 77)
 let z3:Nat×Obj:=(b2,O (Policy.cells p gp) 68)
 refine lp2 p.Offices (fun i w=>[(2,I aO),(3,Q b1),(6,.slice w.2.1 w.1.length w.2.2.1),(12,I (p.Offices.length:Int)),(13,I (i:Int))]) (fun w=>w.2.2.2.2) (fun w=>[z3,z2]++(w.2.2.2.1)) (fun i w=>cM (Rp.sl Holder.rp) 101 w.2.2.2.2 w.1 w.2.1 w.2.2.1 w.2.2.2.1∧w.1.length≤0+i∧HF.le h w.2.2.2.2) (fun s1 i w=>(ar.L1 q aO (ar.K1)) s1 i w.1) ([],none,0,[],h) hp.Offices.1.1 hs0 ⟨cM.nil,lo,lf⟩ ?_ ?_
 ·rintro i1 ⟨oS,Gq,Gp,J9,hh1⟩ et hs1 ⟨EF,IP,hl1⟩ e
  try dsimp only at EF IP hl1
  refine qT 5 U (eI (Rp.j8 Holder.ak) ([z3,z2]) J9 ([]) ap hM EF (fun h3 hle3 sl3=>?_))
  have hs2:ar q p aO=oS:=hs1
  exact nretH [.slice Gq oS.length Gp] ⟨Gq,Gp,congrArg (fun r:(List (List Holder))=>(.slice Gq r.length Gp:Value)) hs2.symm,(by rw [hs2];exact sl3)⟩
 rintro i1 ⟨oS,Gq,Gp,J9,hh1⟩ y1 rz1 hd1 cw ao dy fB hs3 ⟨EF,IP,hl1⟩ hx1 ag1 e
 try dsimp only at EF IP hl1
 refine sr (ad (v':=.bool true) U (cb cw) (qL 20 [1,1] U (aA (cf call47 (uH _ _ _ _ (i1:Int) aO q.known (hq.Register.Appoints.mono Appoint.ak hl1) hsm.2.1) U (fun v2 h4 hle4 hp2=>?_)))))
 obtain ⟨rb2,rc2,rfl,sl4⟩:=hp2
 refine qO 9 U (aA (bg (cells:=[.slice rb2 (((dh q.Register.Appoints (i1:Int) aO q.known).1).length) rc2]) ua ty101 zc101 U U kr (fun b4=>?_)))
 let z1:Nat×Obj:=(b4,O [.slice rb2 (((dh q.Register.Appoints (i1:Int) aO q.known).1).length) rc2] 101)
 exact aA (bS (Rp.Cw Holder.ak) ([z1,z3,z2]) ([]) (fun G=>[z1,z3,z2]++G) ap (fun _=>ap) ua ty101 zc101 U bytes101 (EF.mono (Rp.j8 Holder.ak) hle4) U U (du 0 U (show aP (Rp.sl Holder.rp) h4 [.slice rb2 (((dh q.Register.Appoints (i1:Int) aO q.known).1).length) rc2] ([(dh q.Register.Appoints (i1:Int) aO q.known).1]) from ⟨[.slice rb2 (((dh q.Register.Appoints (i1:Int) aO q.known).1).length) rc2],[],U,U,⟨rb2,rc2,U,sl4⟩,U⟩)) lo lo (fun ob2 oc2 G2 gr2=>qO 4 U (ad (v':=I (((i1+1):Nat):Int)) U (aL ob) (qO 2 U (bU (L':=[z3,z2]++G2) js (ag1 ((oS++[(dh q.Register.Appoints (i1:Int) aO q.known).1]),ob2,oc2,G2,h4) hs3 ⟨gr2,lo,(hl1.t hle4)⟩))))))
theorem mX (h:HF) (q:aC) (j4:fL) (who:List Int) (dU:Option Addr) (dT:Nat) (aO:Int) (hq:aC.ok h q j4) (hwho:SlC Rp.int h dU dT who) (hsm:smR q.Register) (hov:okV q.Register.Versions) (hod:(0≤q.doc.At∧q.doc.At≤1099511627776)∧0≤q.doc.Kind) (hsw:who.length≤2000000) (hk:Kinds h):Ret prog 30 [.agg (aC.cells q j4).toArray,.slice dU who.length dT,I aO] h (.bool (cT q who aO)):=by
 refine sT func30 U ntmps30 U fun X hM hX hF=>?_
 have hs0:cT q who aO=cT q who aO:=rfl
 have hjl:=zR q aO
 have hvl:=hsm.vers.len
 obtain ⟨hod,hdk⟩:=hod
 refine sr (cA (fun b1=>cA (fun b2=>qL 11 [0,1] U (ce 6 [25,26,27,28,29,30,31] 25 31 (decide (q.doc.Until≤aO)) U (fun c1 hk1=>?_) (fun e=>?_)))))
 ·exact qL 6 [0,1] U (hk1 _ U)
 refine aM (ac hs0 U (fun c2 hs1=>?_) (fun c2 hs2=>?_))
 ·exact sr (an (nretP [.bool false] (cs hs1)))
 refine qT 3 U (bN 1 U hM (fun h1 hle1 hb1=>bN 0 U hM (fun h2 hle2 hb2=>aA (fX U U (qO 5 U (aA (Jv call40 (lR h2 who dU dT (hwho.mono Rp.aK (hle1.t hle2)) (by first | assumption | omega)) U (fun ob1 oc1 G1 gr1=>aj (aA (rY (v:=.slice ob1 (bv who (fun ed=>bB ed q aO)).length oc1) ([]) G1 ([]) call64 (pK h2 who ob1 oc1 G1 (fun ed=>bB ed q aO) (.func (.func 63) #[] #[Q b1,Q b2]) gr1 (fun h' ed hle =>i0 call63 (pR h' ed q j4 ⟨b1,0,none⟩ aO ⟨b2,0,none⟩  ((hq.mono (hle1.t hle2)).mono hle) (((dp hb1).mono hle2).mono hle) ((dp hb2).mono hle) hsm)) (by first | assumption | omega)) ap U (fun G2 gr2=>iW (L':=G2) ap (oo Rp.aK ([]) G2 ([]) ap hM gr2 (fun h3 hle3 sl1=>qO 8 U (de ty77 ((dp hb1).mono (hle2.t hle3)) U U (cK ty3 ((dp hb2).mono hle3) U (aA (cf call65 (mB _ _ _ aO (hq.mono ((hle1.t hle2).t hle3)) ob (hk.mono ((hle1.t hle2).t hle3))) U (fun v1 h4 hle4 hp1=>?_))))))))))))))))))
 obtain ⟨rb1,rc1,rfl,sl2⟩:=hp1
 refine qL 13 [] U ?_
 refine lp2 ((aw q aO).1) (fun i w=>[(3,Q b1),(5,Q b2),(8,.slice ob1 ((bv who (fun ed=>bB ed q aO)).length) oc1),(9,.slice w.2.1 w.1.length w.2.2.1),(11,I ((aw q aO).2)),(43,.slice rb1 (((aw q aO).1).length) rc1),(44,I (((aw q aO).1).length:Int)),(45,I (i:Int))]) (fun w=>w.2.2.2.2) (fun w=>w.2.2.2.1) (fun i w=>cM Rp.bool 4 w.2.2.2.2 w.1 w.2.1 w.2.2.1 w.2.2.2.1∧w.1.length≤0+i∧HF.le h4 w.2.2.2.2) (fun s1 i w=>(cT.L1 q who aO (cT.K1 q aO)) s1 w.1) ([],none,0,[],h4) sl2.1.1 hs2 ⟨cM.nil,lo,lf⟩ ?_ ?_
 ·rintro i1 ⟨jI,vT,vS,IN,hh1⟩ et hs4 ⟨qj,Ak,hl1⟩ e
  try dsimp only at qj Ak hl1
  refine qT 4 U (oo Rp.ql ([]) IN ([]) ap hM qj (fun h5 hle5 sl3=>ah call49 (uu _ ((aw q aO).2) _ _ _ sl3 ob) U (qO 10 U (bx 3 [103,104,105,106] 103 106 ((eP ((aw q aO).2) jI).2==0) U (fun c3 hk2=>?_) (fun e=>?_)))))
  ·exact aj (qO 2 U (hk2 _ U))
  exact an (nretP [.bool ((eP ((aw q aO).2) jI).1&&((eP ((aw q aO).2) jI).2==0))] (cs hs4))
 rintro i1 ⟨jI,vT,vS,IN,hh1⟩ y1 rz1 hd1 cw ao dy fB hs6 ⟨qj,Ak,hl1⟩ hx1 ag1 e
 try dsimp only at qj Ak hl1
 obtain ⟨v_,hv_,hve_⟩:=zQ (fq hd1)
 have hsp:=hsm.vers.2 v_ hv_
 rw [hve_] at hsp
 have hvt:=hov.2 v_ hv_
 rw [hve_] at hvt
 have hofl:=hsp.2.2.2.1
 refine sr (ad (v':=.bool true) U (cb cw) (qO 8 U (aA (dV Hz ty68 (sl2.mono Policy.ak hl1).1 (nthZ ao) (au ao) U U U (fun _ _ _ e=>e) (fun q3 r3 A3 ok3=>de ty68 A3 U U (bH zc68 (fun b4=>bE 0 ty68 U U U U U U (iW (L':=[(b4,O (Policy.cells y1 r3) 68)]++(IN)) U (qL 5 [] U (jF (j:=9) ty3 ((dp hb1).mono (((hle2.t hle3).t hle4).t hl1)) U U (qO 3 U ?_)))))))))))
 refine ke [(3,Q b1),(5,Q b2),(8,.slice ob1 ((bv who (fun ed=>bB ed q aO)).length) oc1),(9,.slice vT jI.length vS),(11,I ((aw q aO).2)),(13,Q b4),(14,I q.doc.Kind),(15,.bool (decide (q.doc.Kind < (y1.Rules.length:Int))&&decide ((q.doc.At+(nthI y1.Rules q.doc.Kind).Think)≤aO))),(43,.slice rb1 (((aw q aO).1).length) rc1),(44,I (((aw q aO).1).length:Int)),(45,I (i1:Int))] (fun e=>?_) (fun hk3=>?_)
 rotate_left
 ·refine eB ([(b4,O (Policy.cells y1 r3) 68)]) mixed kr jn (fun cB _=>?_)
  refine qB [0,1] U (tf 2 U U (fun _ _ hj=>fI ty63 U (hj.nth (i:=0) U) U) (tf 3 U U (fun _ _ _=>DR pc U) (qA [4,5] U ?_)))
  refine cx 57 U (fun c4=>?_) (fun c4=>?_)
  ·have c4p:=of_decide_eq_true c4
   refine tf 6 U U (fun _ _ hj=>eF ty3 (((dp hb2).mono ((hle3.t hle4).t hl1)).mono hj.1) U) (qB [7,8] U (tf 9 U U (fun _ _ hj=>kQ 8 ty3 (((dp hb1).mono (((hle2.t hle3).t hle4).t hl1)).mono hj.1) U U) (qB [10] U (tf 11 U U (fun _ _ hj=>fI ty63 U (hj.nth (i:=0) U) U) (tm 12 U ?_)))))
   have ho2:0≤(q.doc.Kind:Int)∧(q.doc.Kind:Int) < ((y1.Rules).length:Int):=ob
   refine gC 13 cB jn pc ty107 ok3.Rules.1 ho2 (bT ho2) U U U U kr (fun q4 cs4 A4 ln4 rr4=>?_)
   obtain ⟨r4,rfl,ok4⟩:=rr4
   exact tf 14 U U (fun _ _ _=>nt EK U) (tf 15 U U (fun _ _ hj=>kQ 2 ty3 (A4.mono hj.1) U U) (tf 16 U U (fun _ _ _=>mq (v':=I (q.doc.At+(nthI y1.Rules q.doc.Kind).Think)) U (gG (by first | omega | (have hth:=hvt.2 _ (fw ob);omega)))) (qR 17 3 U (aI kr (hk3 _ ⟨U,U,U,U,U,U,U,(cb (show decide ((q.doc.At+(nthI y1.Rules q.doc.Kind).Think)≤aO)=(decide (q.doc.Kind < (y1.Rules.length:Int))&&decide ((q.doc.At+(nthI y1.Rules q.doc.Kind).Think)≤aO)) from by rw [c4] <;> rfl)),U,U,U,trivial⟩)))))
  have c4p:=of_decide_eq_false c4
  exact tk 6 U U (qR 7 13 U (aI kr (hk3 _ ⟨U,U,U,U,U,U,U,(cb (show false=(decide (q.doc.Kind < (y1.Rules.length:Int))&&decide ((q.doc.At+(nthI y1.Rules q.doc.Kind).Think)≤aO)) from by rw [c4] <;> rfl)),U,U,U,trivial⟩)))
 refine qT 5 U (ac hs6 U (fun c5 hs7=>?_) (fun c5 hs8=>?_))
 ·refine dz ?_
  let z1:Nat×Obj:=(b4,O (Policy.cells y1 r3) 68)
  refine eB ([z1]) mixed kr jn (fun pC _=>?_)
  refine tf 0 U U (fun _ _ hj=>jj ty68 U (hj.nth (i:=0) U) U) (qD 1 3 U (tf 4 U U (fun _ _ hj=>kQ 10 ty3 (((dp hb1).mono (((hle2.t hle3).t hle4).t hl1)).mono hj.1) U U) (tf 5 U U (fun _ _ hj=>iQ ty77 (((dp hb1).mono (((hle2.t hle3).t hle4).t hl1)).mono hj.1) U U) (tf 6 U U (fun _ _ hj=>jj ty68 U (hj.nth (i:=0) U) U) (tf 7 U U (fun _ _ hj=>eF ty3 (((dp hb2).mono ((hle3.t hle4).t hl1)).mono hj.1) U) (tm 9 U (tn 8 U (cf call66 (mb _ _ _ _ _ aO (hq.mono ((((hle1.t hle2).t hle3).t hle4).t hl1)) ok3 ob ob) U (fun v2 h6 hle6 hp2=>?_)))))))))
  obtain ⟨rb2,rc2,rfl,sl4⟩:=hp2
  refine ⟨⟨hle6,fun _ hp=>List.Sublist.subset js hp⟩,kM (K2:=[z1]) hle6 (fun _ hp=>hp) (tn 10 U (eK call48 (uE _ _ _ q.doc.Kind q.doc.Value _ _ _ _ _ _ (ok3.mono hle6) sl4 (sl1.mono Rp.aK ((hle4.t hl1).t hle6)) ob (sj hsm.2.1 _ _) (Nat.le_trans (Hi _ _) hsw) (hk.mono (((((hle1.t hle2).t hle3).t hle4).t hl1).t hle6))) U (⟨jn,(qR 11 5 U (aI kr (qT 3 U (bx 3 [87,88,89,90] 87 90 ((bY y1 q.doc.Kind q.doc.Value (ar q y1 aO) (bv who (fun ed=>bB ed q aO))).2==0) U (fun c6 hk4=>?_) (fun e=>?_)))))⟩)))⟩
  ·exact aj (qO 2 U (hk4 _ U))
  refine qO 5 U (aA (bg (cells:=[.bool ((bY y1 q.doc.Kind q.doc.Value (ar q y1 aO) (bv who (fun ed=>bB ed q aO))).1&&((bY y1 q.doc.Kind q.doc.Value (ar q y1 aO) (bv who (fun ed=>bB ed q aO))).2==0))]) tZ ty4 zc4 U U kr (fun b5=>aA (bS Rp.w4 ([(b5,O [.bool ((bY y1 q.doc.Kind q.doc.Value (ar q y1 aO) (bv who (fun ed=>bB ed q aO))).1&&((bY y1 q.doc.Kind q.doc.Value (ar q y1 aO) (bv who (fun ed=>bB ed q aO))).2==0))] 4),z1]) ([]) (fun G=>[(b5,O [.bool ((bY y1 q.doc.Kind q.doc.Value (ar q y1 aO) (bv who (fun ed=>bB ed q aO))).1&&((bY y1 q.doc.Kind q.doc.Value (ar q y1 aO) (bv who (fun ed=>bB ed q aO))).2==0))] 4),z1]++G) ap (fun _=>ap) tZ ty4 zc4 U bytes4 (qj.mono Rp.ql hle6) U U (du 0 U (show aP Rp.bool h6 [.bool ((bY y1 q.doc.Kind q.doc.Value (ar q y1 aO) (bv who (fun ed=>bB ed q aO))).1&&((bY y1 q.doc.Kind q.doc.Value (ar q y1 aO) (bv who (fun ed=>bB ed q aO))).2==0))] ([((bY y1 q.doc.Kind q.doc.Value (ar q y1 aO) (bv who (fun ed=>bB ed q aO))).1&&((bY y1 q.doc.Kind q.doc.Value (ar q y1 aO) (bv who (fun ed=>bB ed q aO))).2==0))]) from ⟨[.bool ((bY y1 q.doc.Kind q.doc.Value (ar q y1 aO) (bv who (fun ed=>bB ed q aO))).1&&((bY y1 q.doc.Kind q.doc.Value (ar q y1 aO) (bv who (fun ed=>bB ed q aO))).2==0))],[],U,U,U,U⟩)) lo lo (fun ob2 oc2 G3 gr3=>qO 4 U (ad (v':=I (((i1+1):Nat):Int)) U (aL (by first | omega | (have hth:=hvt.2 _ (fw ob);omega))) (qO 2 U ?_)))))))
  exact bU (L':=G3) js (ag1 ((jI++[((bY y1 q.doc.Kind q.doc.Value (ar q y1 aO) (bv who (fun ed=>bB ed q aO))).1&&((bY y1 q.doc.Kind q.doc.Value (ar q y1 aO) (bv who (fun ed=>bB ed q aO))).2==0))]),ob2,oc2,G3,h6) hs7 ⟨gr3,lo,(hl1.t hle6)⟩)
 exact aE (qT 3 U (aA (bg (cells:=[.bool (decide (q.doc.Kind < (y1.Rules.length:Int))&&decide ((q.doc.At+(nthI y1.Rules q.doc.Kind).Think)≤aO))]) tZ ty4 zc4 U U kr (fun b6=>aA (bS Rp.w4 ([(b6,O [.bool (decide (q.doc.Kind < (y1.Rules.length:Int))&&decide ((q.doc.At+(nthI y1.Rules q.doc.Kind).Think)≤aO))] 4),(b4,O (Policy.cells y1 r3) 68)]) ([]) (fun G=>[(b6,O [.bool (decide (q.doc.Kind < (y1.Rules.length:Int))&&decide ((q.doc.At+(nthI y1.Rules q.doc.Kind).Think)≤aO))] 4),(b4,O (Policy.cells y1 r3) 68)]++G) ap (fun _=>ap) tZ ty4 zc4 U bytes4 qj U U (du 0 U (show aP Rp.bool hh1 [.bool (decide (q.doc.Kind < (y1.Rules.length:Int))&&decide ((q.doc.At+(nthI y1.Rules q.doc.Kind).Think)≤aO))] ([(decide (q.doc.Kind < (y1.Rules.length:Int))&&decide ((q.doc.At+(nthI y1.Rules q.doc.Kind).Think)≤aO))]) from ⟨[.bool (decide (q.doc.Kind < (y1.Rules.length:Int))&&decide ((q.doc.At+(nthI y1.Rules q.doc.Kind).Think)≤aO))],[],U,U,U,U⟩)) lo lo (fun ob3 oc3 G4 gr4=>qO 4 U (ad (v':=I (((i1+1):Nat):Int)) U (aL (by first | omega | (have hth:=hvt.2 _ (fw ob);omega))) (qO 2 U (bU (L':=G4) js (ag1 ((jI++[(decide (q.doc.Kind < (y1.Rules.length:Int))&&decide ((q.doc.At+(nthI y1.Rules q.doc.Kind).Think)≤aO))]),ob3,oc3,G4,hh1) hs8 ⟨gr4,lo,hl1⟩))))))))))
end Go.Sg
