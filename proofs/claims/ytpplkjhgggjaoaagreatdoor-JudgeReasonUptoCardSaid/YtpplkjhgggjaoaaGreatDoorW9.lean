import Derived.Shelf.SlSortCmp.NoneTotal
import Derived.WalkKit
import Derived.Test.YtpplkjhgggjaoaaGreatDoorW8
/- A part of the proof of JudgeReason. -/
set_option linter.unusedVariables false
set_option linter.unusedSimpArgs false
set_option maxRecDepth 100000
namespace Go.Sg
open Go.Proofs Go.Proofs.Tryz
set_option maxHeartbeats 2000000
theorem s8 (h:HF) (l:List Budget) (e8:Option Addr) (eZ:Nat) (u:List Use) (zR:Option Addr) (zQ:Nat) (kind:Int) (value:Int) (fC:Int) (known:Int) (hl:SlC Budget.rp h e8 eZ l) (hu:SlC Use.rp h zR zQ u) (hsz:l.length≤2000000):Ret prog 27 [.slice e8 l.length eZ,.slice zR u.length zQ,I kind,I value,I fC,I known] h (.tuple #[I ((ce l u kind value fC known).1),.bool ((ce l u kind value fC known).2.1),I ((ce l u kind value fC known).2.2)]):=by
 refine cz Ai U ntmps27 U fun X hM hX=>?_
 have hs0:ce l u kind value fC known=ce l u kind value fC known:=rfl
 refine qT 10 U (av call68 (rY _ _ _ _ hl) U (qO 7 U (ai hs0 U (fun c1 hs1=>?_) (fun c1 hs2=>?_))))
 ·refine qT 7 U ?_
  have hs3:ce l u kind value fC known=(0,false,(cx l)):=hs1
  exact qv [I 0,.bool false,I (cx l)] Ai U hX rd (congrArg (fun r:(Int×Bool×Int)=>(.tuple #[I r.1,.bool r.2.1,I r.2.2]:Value)) hs3.symm)
 refine qK 8 [] U (ai hs2 U (fun c2 hs4=>?_) (fun c2 hs5=>?_))
 ·have c2p:=of_decide_eq_true c2
  refine qT 6 U ?_
  have hs6:ce l u kind value fC known=(0,false,2):=hs4
  exact qv [I 0,.bool false,I 2] Ai U hX rd (congrArg (fun r:(Int×Bool×Int)=>(.tuple #[I r.1,.bool r.2.1,I r.2.2]:Value)) hs6.symm)
 have c2p:=of_decide_eq_false c2
 refine qT 5 U (av call99 (zN _ _ _ _ hu) U (qO 2 U (ai hs5 U (fun c3 hs7=>?_) (fun c3 hs8=>?_))))
 ·refine qT 6 U ?_
  have hs9:ce l u kind value fC known=(0,false,180):=hs7
  exact qv [I 0,.bool false,I 180] Ai U hX rd (congrArg (fun r:(Int×Bool×Int)=>(.tuple #[I r.1,.bool r.2.1,I r.2.2]:Value)) hs9.symm)
 refine qT 5 U (aF (bV (cells:=[I kind]) fa ty3 zc3 U U kr (fun b1=>aT 0 U hM (fun h1 hle1 hb1=>?_))))
 have sl1:SlC Rp.int h1 (some ⟨b1,0,none⟩) 1 ([kind]):=bu.slB0 (T:=3) (fz:=(0,0)) ((show bu Rp.int h [I kind] ([kind]) from ⟨[I kind],[],rfl,rfl,rfl,rfl⟩).mono Rp.aY hle1) hb1
 refine av td (dK _ 0 15 _ _ _ sl1) U (qO 2 U (bY 5 [36,37,38,39,40,41] 36 41 (!(aU 0 1099511627776 ([value]))) U (fun c4 hk1=>?_) (fun e=>?_)))
 ·refine aj (aF (bV (cells:=[I value]) fa ty3 zc3 U U kr (fun b2=>aT 0 U hM (fun h2 hle2 hb2=>?_))))
  have sl2:SlC Rp.int h2 (some ⟨b2,0,none⟩) 1 ([value]):=bu.slB0 (T:=3) (fz:=(0,0)) ((show bu Rp.int h1 [I value] ([value]) from ⟨[I value],[],rfl,rfl,rfl,rfl⟩).mono Rp.aY hle2) hb2
  exact av td (dK _ 0 1099511627776 _ _ _ sl2) U (qO 2 U (jP (h:=h1) hle2 hX hle1 (hk1 _ U)))
 refine aj (bY 6 [42,43,44,45,46,47,48] 42 48 (!(aU 0 1099511627775 ([fC,known]))) U (fun c5 hk2=>?_) (fun e=>?_))
 ·refine qO 2 U (aF (bV (cells:=[I fC,I known]) fa ty3 zc3 U U kr (fun b3=>aT 0 U hM (fun h3 hle3 hb3=>?_))))
  have sl3:SlC Rp.int h3 (some ⟨b3,0,none⟩) 2 ([fC,known]):=bu.slB0 (T:=3) (fz:=(0,0)) ((show bu Rp.int h1 [I fC,I known] ([fC,known]) from ⟨[I fC],[I known],rfl,rfl,rfl,⟨[I known],[],rfl,rfl,rfl,rfl⟩⟩).mono Rp.aY hle3) hb3
  exact av td (dK _ 0 1099511627775 _ _ _ sl3) U (qO 2 U (jP (h:=h1) hle3 hX hle1 (hk2 _ U)))
 refine aD (ai hs8 U (fun c6 hs10=>?_) (fun c6 hs11=>?_))
 ·refine qT 6 U ?_
  have hs12:ce l u kind value fC known=(0,false,1):=hs10
  exact qv [I 0,.bool false,I 1] Ai U hX rd (congrArg (fun r:(Int×Bool×Int)=>(.tuple #[I r.1,.bool r.2.1,I r.2.2]:Value)) hs12.symm)
 refine qT 8 U (aF (cY call101 (vv _ _ _ _ kind fC known (hl.mono Budget.ao hle1) ob) U (fun v1 h4 hle4 hp1=>?_)))
 obtain ⟨rb1,rc1,rfl,sl4⟩:=hp1
 refine qL 3 [] U (dY (cu (L':=markB []) ap ?_))
 refine pF (ι:=Nat×List Nat×HF) (fun i=>[]) (fun i=>marks i.2.1) (fun i=>i.2.2) (fun i=>markB i.2.1) (fun i=>i.1≤(bQ l kind fC known).length∧ce l u kind value fC known=((ce.K1))∧HF.le h4 i.2.2) ?_ (fun hx1=>?_)
 ·rintro ⟨i1,rs1,hh1⟩ ⟨fA,hs13,hl1⟩ e
  refine qT 6 U ?_
  have hs14:ce l u kind value fC known=((-1),true,0):=hs13
  exact cu (L':=([])++markB rs1) ap (pE rs1 [I (-1),.bool true,I 0] Ai U hX rd (congrArg (fun r:(Int×Bool×Int)=>(.tuple #[I r.1,.bool r.2.1,I r.2.2]:Value)) hs14.symm))
 refine tK (ι:=Nat×List Nat×HF×List Budget) (fun i=>[(1,.slice zR u.length zQ),(3,I value),(4,I fC),(5,I known),(53,.slice rb1 ((bQ l kind fC known).length) rc1),(54,I ((bQ l kind fC known).length:Int)),(55,I (i.1:Int))]) (fun i=>marks i.2.1) (fun i=>i.2.2.1) (fun i=>markB i.2.1) (fun i=>(bQ l kind fC known).drop i.1=i.2.2.2∧i.1≤(bQ l kind fC known).length∧ce l u kind value fC known=((ce.L1 u value fC known (ce.K1)) i.2.2.2)∧HF.le h4 i.2.2.1) (fun i=>i.2.2.2.length) (0,[],h4,(bQ l kind fC known)) U rd sw ⟨U,Nat.zero_le _,hs11,lf⟩ ?_
 rintro ⟨i1,rs1,hh1,s1⟩ ⟨hd1,fA,hs15,hl1⟩ ag1 e
 rcases s1 with _ | ⟨y1,rz1⟩
 ·have il:=nH hd1
  exact sr (aw (v':=.bool false) U (cb il) (qO 4 U (hx1 (i1,rs1,hh1) _ ⟨fA,hs15,hl1⟩ trivial)))
 have dx:=rW hd1
 have aL:=rG hd1
 have eH:=jr hd1
 have hO:=sl4.1.1
 refine sr (aw (v':=.bool true) U (cb dx) (qO 8 U (aF (fj (enc:=Budget.cells) ei vy ty101 (sl4.mono Budget.ao hl1).1 (nthZ aL) (ba aL) U U U (fun q2 A2=>dz ty101 A2 U U (aV zc101 (fun b7=>aS 0 ty101 U U U U U U (qO 4 U (aV zc3 (fun b8=>aV zc3 (fun b9=>cJ 1 ty3 U U U U U U (cJ 0 ty3 U U U U U U (qO 4 U (cW 2 ty101 U U U (qO 3 U (aF (cY call102 (zO _ y1 _ _ _ fC known (hu.mono Use.ao ((hle1.t hle4).t hl1)) (EY (by simpa using c1) (gi hd1))) U (fun v3 h6 hle6 hp3=>?_))))))))))))))))))
 obtain ⟨_,rfl,mo2⟩:=hp3
 refine qO 2 U ?_
 let z1:Nat×Obj:=(b7,O (Budget.cells y1) 101)
 refine cu (L':=([(b9,O [I value] 3),(b8,O [I 1] 3),z1])++markB rs1) ap ?_
 refine jw (it:=v3) (xs:=(mB y1 u fC known)) (ι:=Int×Int×HF) rs1 (fun i=>i.2.2) (fun i=>[(b9,O [I i.1] 3),(b8,O [I i.2.1] 3),z1]) (fun s i=>ce l u kind value fC known=((ce.L3 (fun zg3_b9_0 zg3_b8_0=>(bif (decide (y1.Count < zg3_b8_0)||decide (y1.Value < zg3_b9_0)) then (y1.No,false,0) else (ce.L1 u value fC known (ce.K1) rz1)))) s i.1 i.2.1)∧HF.le h6 i.2.2) (fun _=>False) (fun _=>False) 0 (fun _ _ _=>False) (value,1,h6) Ai U mo2 U yX (fun _ _ _ _ _ hq=>hq) U (show [(b9,O [I value] 3),(b8,O [I 1] 3),z1]=_ from U) ⟨hs15,lf⟩ ?_ ?_ ?_ ?_ ?_
 ·rintro l3 dm3 lp3 y3 rz3 vs3 ⟨sH,uU,hh3⟩ hr3 X hFR3 ⟨hs17,hl3⟩ hl03 hlr3 hv3 hX hXM hlp3 nx3 rt3 ex3 pn3
  obtain rfl:=hv3
  exact cu (L':=[(l3,.loop lp3),(dm3,.deferred (some [])),(b9,O [I sH] 3),(b8,O [I uU] 3),z1]++(markB rs1)) ap (qT 3 U (jh 0 U hlp3 (qK 5 [3] U (cJ 3 ty3 U U U U U U (qL 5 [2] U (cJ 2 ty3 U U U U U U (qO 2 U (cu (L':=rdH l3 dm3 lp3 (([(b9,O [I (IntKind.wrap .i64 (sH+y3))] 3),(b8,O [I (IntKind.wrap .i64 (uU+1))] 3),z1])++markB rs1)) ap (nx3 ((IntKind.wrap .i64 (sH+y3)),(IntKind.wrap .i64 (uU+1)),hr3) _ _ ⟨hs17,(hl3.t hlr3)⟩ lf)))))))))
 ·rintro dm3 ⟨sH,uU,hh3⟩ hn3 ⟨hs18,hl3⟩ hln3 hl03
  refine cu (L':=[(b9,O [I sH] 3),(b8,O [I uU] 3),z1]++(markB (dm3::rs1))) ap (qK 8 [1,2] U (bY 5 [75,76,77,78,79,80] 75 80 (decide (y1.Value < sH)) U (fun c7 hk3=>?_) (fun e=>?_)))
  ·exact qL 5 [0,2] U (hk3 _ U)
  refine aD (ai hs18 U (fun c8 hs19=>?_) (fun c8 hs20=>?_))
  ·refine qK 8 [2] U ?_
   have hs21:ce l u kind value fC known=(y1.No,false,0):=hs19
   exact cu (L':=([(b9,O [I sH] 3),(b8,O [I uU] 3),z1])++markB (dm3::rs1)) ap (pE (dm3::rs1) [I y1.No,.bool false,I 0] Ai U hX rd (congrArg (fun r:(Int×Bool×Int)=>(.tuple #[I r.1,.bool r.2.1,I r.2.2]:Value)) hs21.symm))
  exact aJ (qT 2 U (aw (v':=I (((i1+1):Nat):Int)) U (bw ob) (qO 2 U (bB (L':=markB (dm3::rs1)) js (ag1 ((i1+1),(dm3::rs1),hn3,rz1) _ (Nat.lt_succ_self _) ⟨lQ hd1,jr hd1,hs20,(((hl1.t hle6).t hl3).t hln3)⟩ rd)))))
 ·exact xf
 ·exact xf
 exact xf
theorem rV (h:HF) (t:Int)  : Ret prog 214 [I t] h (.bool (iC t)):=by
 refine sT func214 U ntmps214 U fun X hM hX hF=>?_
 have hs0:iC t=iC t:=rfl
 refine qT 9 U (bC 4 [5,6,7,8,9] 5 9 (!(fp t)) U (fun c1 hk1=>?_) (fun e=>?_))
 ·exact aj (av Jg (lP h t) U (qO 2 U (hk1 _ U)))
 exact an (nretP [.bool ((t != (-1))&&(!(fp t)))] (cs hs0))
theorem nS (h:HF) (l:List Document) (e8:Option Addr) (eZ:Nat) (signed:List Int) (ec:Option Addr) (dZ:Nat) (hl:SlC Document.rp h e8 eZ l) (hsigned:SlC Rp.int h ec dZ signed):Ret prog 124 [.slice e8 l.length eZ,.slice ec signed.length dZ] h (.bool (de l signed)):=by
 refine sT func124 U ntmps124 U fun X hM hX hF=>?_
 have hs0:de l signed=de l signed:=rfl
 refine qK 16 [] U (bC 5 [11,12,13,14,15,16] 11 16 (!(cw signed iC)) U (fun c1 hk1=>?_) (fun e=>?_))
 ·exact aj (aj (av ED (gM _ _ _ _ iC (.func (.func 214) #[] #[]) hsigned (fun h' dB hle =>iu call214 (rV h' dB))) U (qO 2 U (hk1 _ U))))
 exact an (nretP [.bool (((signed.length:Int)==(l.length:Int))&&(!(cw signed iC)))] (cs hs0))
theorem wN (h:HF) (x:List Int) (Me:Option Addr) (LS:Nat) (hx:SlC Rp.int h Me LS x) (hne:0 < x.length):Ret prog 217 [.slice Me x.length LS] h (I (fK x)):=by
 refine sT func217 U ntmps217 U fun X hM hX hF=>?_
 have hs0:fK x=fK x:=rfl
 refine qK 11 [] U (jG U (fun c1=>?_) (fun c1=>?_))
 ·exact absurd c1 (by simp only [decide_eq_true_eq,Bool.not_eq_true,decide_eq_false_iff_not];omega)
 have c1p:=of_decide_eq_false c1
 refine qT 4 U ?_
 have ho1:0≤(0:Int)∧(0:Int) < ((x).length:Int):=ob
 refine aF (fj (enc:=fun y=>[I y]) ei fa ty3 hx.1 ho1 (dU ho1) U U U (fun q1 A1=>dF ty3 A1 U (qO 7 U ?_)))
 refine jx (ι:=Nat×Int) (fun i=>[(3,I i.2)]) (fun i=>h) (fun i=>[]) (fun i=>i.1≤x.length∧fK x=((fK.K1) i.2)) ?_ (fun hx1=>?_)
 ·rintro ⟨i1,ii⟩ ⟨fA,hs1⟩ e
  exact sr (qO 3 U (nretP [I ii] (ci hs1)))
 refine ku (ι:=Nat×Int×List Int) (fun i=>[(0,.slice Me x.length LS),(3,I i.2.1),(4,I (i.1:Int))]) (fun i=>h) (fun i=>[]) (fun i=>x.drop i.1=i.2.2∧i.1≤x.length∧fK x=((fK.L1 (fK.K1)) i.2.2 i.2.1)) (fun i=>i.2.2.length) (1,(nthI x 0),(x.drop 1)) rd sw ⟨U,ob,hs0⟩ ?_
 rintro ⟨i1,ii,s1⟩ ⟨hd1,fA,hs3⟩ ag1 e
 rcases s1 with _ | ⟨y1,rz1⟩
 ·have il:=nH hd1
  exact qK 6 [] U (aw (v':=.bool false) U (cb il) (qO 3 U (hx1 (i1,ii) _ ⟨fA,hs3⟩ rd)))
 have dx:=rW hd1
 have aL:=rG hd1
 have eH:=jr hd1
 have hO:=hx.1.1
 exact qK 6 [] U (aw (v':=.bool true) U (cb dx) (qO 9 U (aF (fj (enc:=fun y=>[I y]) ei fa ty3 hx.1 (nthZ aL) (ba aL) U U U (fun q3 A3=>dF ty3 A3 U (aF (fg (LU U U) (qO 5 U (aw (v':=I (((i1+1):Nat):Int)) U (bw ob) (an (ag1 ((i1+1),(min ii y1),rz1) _ (Nat.lt_succ_self _) ⟨lQ hd1,jr hd1,hs3⟩ rd)))))))))))
theorem kU (h:HF) (p:eW) (fL:qn) (p_q:Addr) (tv:Int) (cv:Int) (hp:eW.ok h p fL) (ap:At h p_q (eW.cells p fL)) (hi:0≤tv∧tv < (p.shelf.docs.length:Int)) (hlen:p.done.length=p.shelf.docs.length∧p.lacks.length=p.shelf.docs.length):Ret prog 127 [.pointer (some p_q),I tv,I cv] h (.tuple #[I ((cD p tv cv).1),I ((cD p tv cv).2)]):=by
 refine sT func127 U ntmps127 U fun X hM hX hF=>?_
 have hs0:cD p tv cv=cD p tv cv:=rfl
 refine qT 8 U (aF (fg (fF U) (qL 2 [] U (dF ty27 ap U (aj ?_)))))
 have ho1:0≤(tv:Int)∧(tv:Int) < ((p.shelf.docs).length:Int):=ob
 refine aF (gC oL ty51 hp.shelf.docs.1 ho1 (dU ho1) U U U (fun _ _ _ e=>e) (fun q1 r1 A1 ok1=>dz ty51 A1 U U (aV zc51 (fun b1=>aS 0 ty51 U U U U U U (qO 6 U (aF (fg (fF U) (qL 1 [] U (kd (j:=3) ty57 ap U U (aj ?_))))))))))
 have ho2:0≤(tv:Int)∧(tv:Int) < ((p.done).length:Int):=ob
 refine aF (fj (enc:=fun y=>[.bool y]) ei CY ty4 hp.done.1 ho2 (dU ho2) U U U (fun q2 A2=>dF ty4 A2 U (qO 3 U (ai hs0 U (fun c1 hs1=>?_) (fun c1 hs2=>?_)))))
 ·refine qT 5 U ?_
  have hs3:cD p tv cv=(1,(-1)):=hs1
  exact nretP [I 1,I (-1)] (congrArg (fun r:(Int×Int)=>(.tuple #[I r.1,I r.2]:Value)) hs3.symm)
 refine qT 3 U (aF (fg (fF U) (qL 1 [] U (kd (j:=4) ty31 ap U U (aj ?_)))))
 have ho3:0≤(tv:Int)∧(tv:Int) < ((p.lacks).length:Int):=ob
 refine aF (fj (enc:=fun y=>[I y]) ei fa ty3 hp.lacks.1 ho3 (dU ho3) U U U (fun q3 A3=>dF ty3 A3 U (qO 3 U (ai hs2 U (fun c2 hs4=>?_) (fun c2 hs5=>?_)))))
 ·have c2p:=of_decide_eq_true c2
  refine aR (eQ ([(b1,O (Document.cells (nthI p.shelf.docs tv) r1) 51)]) mixed kr jn (fun dH _=>tm 0 U (tf 1 U U (fun _ _ _=>fF U) (qB [2] U (tf 3 U U (fun _ _ hj=>jK 4 ty31 (ap.mono hj.1) U U) (tm 4 U ?_))))))
  have ho4:0≤(tv:Int)∧(tv:Int) < ((p.lacks).length:Int):=ob
  refine fW 5 (enc:=fun y=>[I y]) dH jn ei fa ty3 hp.lacks.1 ho4 (dU ho4) U U U U kr (fun q4 A4=>tf 6 U U (fun _ _ hj=>eV ty3 (A4.mono hj.1) U) (qA [7,8] U (aW kr ?_)))
  have hs6:cD p tv cv=(4,(nthI p.lacks tv)):=hs4
  exact nretP [I 4,I (nthI p.lacks tv)] (congrArg (fun r:(Int×Int)=>(.tuple #[I r.1,I r.2]:Value)) hs6.symm)
 have c2p:=of_decide_eq_false c2
 refine aR ?_
 let z1:Nat×Obj:=(b1,O (Document.cells (nthI p.shelf.docs tv) r1) 51)
 refine eQ ([z1]) mixed kr jn (fun lA _=>?_)
 refine tm 0 U (tf 1 U U (fun _ _ _=>fF U) (qB [2] U (tf 3 U U (fun _ _ hj=>jK 5 ty236 (ap.mono hj.1) U U) (qB [4] U (tf 5 U U (fun _ _ hj=>fH ty3 U (hj.nth (i:=0) U) U) (tn 6 U ?_))))))
 obtain ⟨o1,hb1,hm1⟩:=hp.revoked
 refine mt (k:=(nthI p.shelf.docs tv).No) Ex (eY lS) hb1 hm1 (eG zv31) (show (VSl Rp.int) _ (.slice none 0 0) [] from ⟨none,0,U,SlC.nil⟩) U U (fun v1 hv1=>?_)
 obtain ⟨rb1,rc1,rfl,sl1⟩:=hv1
 refine ⟨jn,(tf 7 U U (fun _ _ _=>E4 fa U) (qA [8,9] U (aW kr (ai hs5 U (fun c3 hs7=>?_) (fun c3 hs8=>?_)))))⟩
 ·have c3p:=of_decide_eq_true c3
  refine aR (eQ ([z1]) mixed kr jn (fun MP _=>tm 0 U (tf 1 U U (fun _ _ _=>fF U) (qB [2] U (tf 3 U U (fun _ _ hj=>jK 5 ty236 (ap.mono hj.1) U U) (qB [4] U (tf 5 U U (fun _ _ hj=>fH ty3 U (hj.nth (i:=0) U) U) (tn 6 U ?_))))))))
  obtain ⟨o2,hb2,hm2⟩:=hp.revoked
  refine mt (k:=(nthI p.shelf.docs tv).No) Ex (eY lS) hb2 hm2 (eG zv31) (show (VSl Rp.int) _ (.slice none 0 0) [] from ⟨none,0,U,SlC.nil⟩) U U (fun v2 hv2=>?_)
  obtain ⟨rb2,rc2,rfl,sl2⟩:=hv2
  refine ⟨jn,(tn 7 U (eP call217 (wN _ _ _ _ sl2 ob) U (⟨jn,(qA [8,9] U (aW kr ?_))⟩)))⟩
  have hs9:cD p tv cv=(5,(fK (mgetD p.revoked ((nthI p.shelf.docs tv).No) []))):=hs7
  exact nretP [I 5,I (fK (mgetD p.revoked ((nthI p.shelf.docs tv).No) []))] (congrArg (fun r:(Int×Int)=>(.tuple #[I r.1,I r.2]:Value)) hs9.symm)
 have c3p:=of_decide_eq_false c3
 refine qK 8 [0] U (ai hs8 U (fun c4 hs10=>?_) (fun c4 hs11=>?_))
 ·have c4p:=of_decide_eq_true c4
  refine qT 5 U ?_
  have hs12:cD p tv cv=(2,(-1)):=hs10
  exact nretP [I 2,I (-1)] (congrArg (fun r:(Int×Int)=>(.tuple #[I r.1,I r.2]:Value)) hs12.symm)
 have c4p:=of_decide_eq_false c4
 refine qK 8 [0] U (ai hs11 U (fun c5 hs13=>?_) (fun c5 hs14=>?_))
 ·have c5p:=of_decide_eq_true c5
  refine qT 5 U ?_
  have hs15:cD p tv cv=(3,(-1)):=hs13
  exact nretP [I 3,I (-1)] (congrArg (fun r:(Int×Int)=>(.tuple #[I r.1,I r.2]:Value)) hs15.symm)
 have c5p:=of_decide_eq_false c5
 refine qT 7 U ?_
 have hs16:cD p tv cv=(0,(-1)):=hs14
 exact nretP [I 0,I (-1)] (congrArg (fun r:(Int×Int)=>(.tuple #[I r.1,I r.2]:Value)) hs16.symm)
theorem uT (cmp:Int→Int→Int):∀ (j:Nat) (xs:List Int),(insIn cmp j xs).length=xs.length
 | 0,xs=>rfl
 | j+1,xs=>by
  simp only [insIn,Bool.cond_eq_ite]
  split
  ·rw [uT cmp j];simp
  rfl
theorem yp (cmp:Int→Int→Int):∀ (j:Nat) (xs:List Int),j < xs.length→∀ x∈insIn cmp j xs,x∈xs
 | 0,xs,_,x,hx=>hx
 | j+1,xs,hj,x,hx=>by
  simp only [insIn,Bool.cond_eq_ite] at hx
  split at hx
  ·have h1:=yp cmp j _ (by simp;omega) x hx
   rcases List.mem_or_eq_of_mem_set h1 with h1 | rfl
   ·rcases List.mem_or_eq_of_mem_set h1 with h1 | rfl
    ·exact h1
    simp [List.getD_eq_getElem?_getD,show j < xs.length by omega]
   simp [List.getD_eq_getElem?_getD,show j+1 < xs.length by omega]
  exact hx
theorem Bv (cmp:Int→Int→Int):∀ (m i:Nat) (xs:List Int),(insOut cmp m i xs).length=xs.length
 | 0,_,_=>rfl
 | m+1,i,xs=>by simp only [insOut];rw [Bv cmp m,uT]
theorem Ay (xs:List Int) (cmp:Int→Int→Int):(eX xs cmp).length=xs.length:=Bv _ _ _ _
theorem wM (j:Nat) (hj:j < 9223372036854775807):Value.int .i64 (IntKind.i64.wrap (((j+1:Nat):Int) - 1))=I (j:Int):=by
 rw [jV ob];congr 1;omega
theorem mU (h:HF) (xs:List Int) (b:Option Addr) (c:Nat) (G:LH) (cmp:Int→Int→Int) (cmp_v:Value) (hG:em Rp.int 3 h xs b c G)
  (hcmp:∀ (h':HF) (dB Af:Int),HF.le h h'→dB∈xs→Af∈xs→rH prog cmp_v [I dB,I Af] h' [] (I (cmp dB Af))) (hsz:xs.length≤2000000):
  mP prog 364 [.slice b xs.length c,I 0,I (xs.length:Int),cmp_v].toArray h G (fun r h' G'=>h'=h∧r=.returned (.tuple #[])∧em Rp.int 3 h (eX xs cmp) b c G'):=by
 refine cz func364 U ntmps364 U fun X hM hX=>qT 3 U (aw (v':=I ((1:Nat):Int)) U U (an ?_))
 refine jx (ι:=List Int×LH) (fun i=>[]) (fun i=>h) (fun i=>i.2) (fun i=>i.1=eX xs cmp∧em Rp.int 3 h i.1 b c i.2) ?_ (fun hx=>?_)
 ·rintro ⟨ys,G'⟩ ⟨hs,hG'⟩ e
  dsimp only at hs hG'
  exact tL func364 (fun a _ w _=>kO U a w) (fun w hw=>hw.lower) ⟨hX,U,hs ▸ hG'⟩
 refine ku (ι:=Nat×List Int×LH) (fun i=>[(0,.slice b xs.length c),(1,I 0),(2,I (xs.length:Int)),(3,cmp_v),(8,I (i.1:Int))]) (fun i=>h) (fun i=>i.2.2)
  (fun i=>insOut cmp (xs.length - i.1) i.1 i.2.1=eX xs cmp∧1≤i.1∧i.2.1.length=xs.length∧(∀ x∈i.2.1,x∈xs)∧em Rp.int 3 h i.2.1 b c i.2.2) (fun i=>xs.length - i.1) (1,xs,G) rd (fun w hw=>hw) ⟨rfl,Nat.le_refl _,rfl,fun _ hx=>hx,hG⟩ ?_
 rintro ⟨i,ys,G1⟩ ⟨hs,hi1,hyl,hym,hG1⟩ ag e
 dsimp only at hs hi1 hyl hym hG1
 rcases Nat.lt_or_ge i xs.length with hi | hi
 ·refine qT 5 U (aw (v':=.bool true) U (cb (decide_eq_true ob)) (qO 10 U ?_))
  refine jx (ι:=List Int×LH) (fun q=>[(0,.slice b xs.length c),(1,I 0),(2,I (xs.length:Int)),(3,cmp_v),(8,I (i:Int))]) (fun q=>h) (fun q=>q.2) (fun q=>q.1=insIn cmp i ys∧em Rp.int 3 h q.1 b c q.2) ?_ (fun hy=>?_)
  ·rintro ⟨zs,G2⟩ ⟨hz,hG2⟩ e2
   dsimp only at hz hG2
   subst hz
   refine qT 3 U (aw (v':=I ((i+1:Nat):Int)) U (bw ob) (an (ag (i+1,insIn cmp i ys,G2) _ (by show xs.length - (i+1) < xs.length - i;omega) ⟨?_,by show 1≤i+1;omega,by show (insIn cmp i ys).length=xs.length;rw [uT];exact hyl,fun x hx=>hym x (yp cmp i ys ob x hx),hG2⟩ rd)))
   show insOut cmp (xs.length - (i+1)) (i+1) (insIn cmp i ys)=_
   rw [← hs,show xs.length - i=(xs.length - (i+1))+1 from by omega];rfl
  refine ku (ι:=Nat×List Int×LH) (fun q=>[(0,.slice b xs.length c),(1,I 0),(2,I (xs.length:Int)),(3,cmp_v),(8,I (i:Int)),(9,I (q.1:Int))]) (fun q=>h) (fun q=>q.2.2)
   (fun q=>insIn cmp q.1 q.2.1=insIn cmp i ys∧q.1≤i∧q.2.1.length=xs.length∧(∀ x∈q.2.1,x∈xs)∧em Rp.int 3 h q.2.1 b c q.2.2) (fun q=>q.1) (i,ys,G1) rd (fun w hw=>hw) ⟨rfl,Nat.le_refl _,hyl,hym,hG1⟩ ?_
  rintro ⟨j,zs,G2⟩ ⟨hz,hji,hzl,hzm,hG2⟩ ag2 e2
  dsimp only at hz hji hzl hzm hG2
  have J0:∀ {L:LH},Jst h [] h L:=fJ (List.nil_sublist _)
  obtain ⟨bk,hbk⟩:=hG2.IM ob
  have JG:Jst h G2 h G2:=fJ (List.Sublist.refl _)
  refine qT 2 U (eQ G2 mixed kr JG (fun hsep _=>dX 0 hsep JG U U kr U (fun _ _ _=>jE) (dX 1 hsep JG U U kr U (fun _ _ _=>jE) ?_)))
  rcases j with _ | j
  ·exact dX 2 hsep JG U U kr U (fun _ _ _=>np (v':=.bool false) U (cb (decide_eq_false ob))) (dX 3 hsep JG U U kr U (fun _ _ _=>jE) (ld 4 hsep JG U U kr U (ld 5 hsep JG U U kr U (ld 6 hsep JG U U kr U (ld 7 hsep JG U U kr U (ld 8 hsep JG U U kr U (ld 9 hsep JG U U kr U (ld 10 hsep JG U U kr U (ld 11 hsep JG U U kr U (ld 12 hsep JG U U kr U (ld 13 hsep JG U U kr U (ld 14 hsep JG U U kr U (ld 15 hsep JG U U kr U (dX 16 hsep JG U U kr U (fun _ _ _=>Gt U) (aW kr (qT 2 U (hy (zs,G2) _ ⟨hz,hG2⟩ rd)))))))))))))))))
  have hj1:zs[j+1]? = some (zs.getD (j+1) 0):=by simp [List.getD_eq_getElem?_getD,show j+1 < zs.length by omega]
  have hj0:zs[j]? = some (zs.getD j 0):=by simp [List.getD_eq_getElem?_getD,show j < zs.length by omega]
  have hjn:(((j+1:Nat):Int)).toNat=j+1:=by omega
  have hjn0:((j:Int)).toNat=j:=by omega
  refine dX 2 hsep JG U U kr U (fun _ _ _=>np (v':=.bool true) U (cb (decide_eq_true ob))) (dX 3 hsep JG U U kr U (fun _ _ _=>jE) (dX 4 hsep JG U U kr U (fun _ _ _=>jE) (dX 5 hsep JG U U kr U (fun _ _ _=>jE) (dX 6 hsep JG U U kr U (fun _ _ _=>jE) (dX 7 hsep JG U U kr U (fun _ _ _=>oO (R:=Rp.int) (xs:=zs) (z:=((j+1:Nat):Int)) fa ty3 hbk ob U hzl.symm U) (dX 8 hsep JG U U kr U (fun _ _ hj=>Dh (R:=Rp.int) (off:=0) (i:=j+1) ty3 hG2 hbk hj1 (fun cs hcs=>by rw [show cs=[I (zs.getD (j+1) 0)] from hcs];rfl) (by rfl) (fun p hp=>hj.2 p hp)) (dX 9 hsep JG U U kr U (fun _ _ _=>jE) (dX 10 hsep JG U U kr U (fun _ _ _=>jE) (dX 11 hsep JG U U kr U (fun _ _ _=>np (v':=I (j:Int)) U (wM j ob)) (dX 12 hsep JG U U kr U (fun _ _ _=>oO (R:=Rp.int) (xs:=zs) (z:=(j:Int)) fa ty3 hbk ob U hzl.symm U) (dX 13 hsep JG U U kr U (fun _ _ hj=>Dh (R:=Rp.int) (off:=0) (i:=j) ty3 hG2 hbk hj0 (fun cs hcs=>by rw [show cs=[I (zs.getD j 0)] from hcs];rfl) (by rfl) (fun p hp=>hj.2 p hp)) (tn 14 U (kH (v:=I (cmp (zs.getD (j+1) 0) (zs.getD j 0))) [] (List.nil_sublist _) (hcmp h (zs.getD (j+1) 0) (zs.getD j 0) lf (hzm _ (List.mem_of_getElem? hj1)) (hzm _ (List.mem_of_getElem? hj0))) U U ⟨JG,dX 15 hsep JG U U kr U (fun _ _ _=>J5 U) (dX 16 hsep JG U U kr U (fun _ _ _=>Gt U) (aW kr (jG U (fun hc=>aJ ?_) (fun hc=>?_))))⟩)))))))))))))
  ·refine qT 2 U (eQ [] mixed kr J0 (fun lA _=>dX 0 lA J0 U U kr U (fun _ _ _=>jE) (dX 1 lA J0 U U kr U (fun _ _ _=>jE) (dX 5 lA J0 U U kr U (fun _ _ _=>jE) (dX 6 lA J0 U U kr U (fun _ _ _=>jE) (dX 2 lA J0 U U kr U (fun _ _ _=>jE) (dX 3 lA J0 U U kr U (fun _ _ _=>jE) (dX 4 lA J0 U U kr U (fun _ _ _=>np (v':=I (j:Int)) U (wM j ob)) (dX 7 lA J0 U U kr U (fun _ _ _=>np (v':=I (j:Int)) U (wM j ob)) (dX 8 lA J0 U U kr U (fun _ _ _=>oO (R:=Rp.int) (xs:=zs) (z:=(j:Int)) fa ty3 hbk ob U hzl.symm U) (dX 10 lA J0 U U kr U (fun _ _ _=>jE) (dX 11 lA J0 U U kr U (fun _ _ _=>jE) (dX 12 lA J0 U U kr U (fun _ _ _=>oO (R:=Rp.int) (xs:=zs) (z:=((j+1:Nat):Int)) fa ty3 hbk ob U hzl.symm U) ?_)))))))))))))
   refine mT 9 13 kr U U
    (fg (Dh (R:=Rp.int) (off:=0) (i:=j) ty3 hG2 hbk hj0 (fun cs hcs=>by rw [show cs=[I (zs.getD j 0)] from hcs];rfl) (by rfl) (fun p hp=>hp)) ⟨J0,tn 13 rfl (fg (Dh (R:=Rp.int) (off:=0) (i:=j+1) ty3 hG2 hbk hj1 (fun cs hcs=>by rw [show cs=[I (zs.getD (j+1) 0)] from hcs];rfl) (by rfl) (fun p hp=>hp)) ⟨J0,?_⟩)⟩)
    (fg (Dh (R:=Rp.int) (off:=0) (i:=j+1) ty3 hG2 hbk hj1 (fun cs hcs=>by rw [show cs=[I (zs.getD (j+1) 0)] from hcs];rfl) (by rfl) (fun p hp=>hp)) ⟨J0,tn 9 rfl (fg (Dh (R:=Rp.int) (off:=0) (i:=j) ty3 hG2 hbk hj0 (fun cs hcs=>by rw [show cs=[I (zs.getD j 0)] from hcs];rfl) (by rfl) (fun p hp=>hp)) ⟨J0,?_⟩)⟩)
   all_goals
    refine dX 14 lA J0 U U kr U (fun _ _ _=>oO (R:=Rp.int) (xs:=zs) (z:=((j+1:Nat):Int)) fa ty3 hbk ob U hzl.symm U) (tn 15 U (ET (R:=Rp.int) (i:=j+1) (off:=0) (u:=zs.getD (j+1) 0) (u':=zs.getD j 0) (v:=I (zs.getD j 0)) [] G2 [] ty3 U hG2 (by simp) hbk hj1 (by decide) (fun cs hcs=>by rw [show cs=[I (zs.getD (j+1) 0)] from hcs];rfl) (by rfl) U U (fun G3 hG3=>⟨J0,?_⟩)))
    rw [List.nil_append,List.append_nil]
    refine dX 16 lA J0 U U kr U (fun _ _ _=>oO (R:=Rp.int) (xs:=zs) (z:=(j:Int)) fa ty3 hbk ob U hzl.symm U) ?_
    have hj0':(zs.set (j+1) (zs.getD j 0))[j]? = some (zs.getD j 0):=by rw [List.getElem?_set_ne ob];exact hj0
    refine tn 17 U (ET (R:=Rp.int) (i:=j) (off:=0) (u:=zs.getD j 0) (u':=zs.getD (j+1) 0) (v:=I (zs.getD (j+1) 0)) [] G3 [] ty3 U hG3 (by simp) hbk hj0' (by decide) (fun cs hcs=>by rw [show cs=[I (zs.getD j 0)] from hcs];rfl) (by rfl) U U (fun G4 hG4=>⟨J0,?_⟩))
    rw [List.nil_append,List.append_nil]
    refine aW kr (qT 3 U (aw (v':=I (j:Int)) U (wM j ob) (an (ag2 (j,(zs.set (j+1) (zs.getD j 0)).set j (zs.getD (j+1) 0),G4) _ (Nat.lt_succ_self _) ⟨?_,by show j≤i;omega,by show ((zs.set (j+1) (zs.getD j 0)).set j (zs.getD (j+1) 0)).length=xs.length;simpa using hzl,fun x hx=>(List.mem_or_eq_of_mem_set hx).elim (fun hx=>(List.mem_or_eq_of_mem_set hx).elim (hzm x) (fun hx=>hx ▸ hzm _ (List.mem_of_getElem? hj0))) (fun hx=>hx ▸ hzm _ (List.mem_of_getElem? hj1)),hG4⟩ rd))))
    show insIn cmp j ((zs.set (j+1) (zs.getD j 0)).set j (zs.getD (j+1) 0))=insIn cmp i ys
    rw [← hz];simp only [insIn,hc,cond_true]
  refine kv U (hy (zs,G2) _ ⟨?_,hG2⟩ rd)
  show zs=insIn cmp i ys
  rw [← hz];simp only [insIn,hc,cond_false]
 refine qT 5 U (aw (v':=.bool false) U (cb (decide_eq_false ob)) (qO 3 U (hx (ys,G1) _ ⟨?_,hG1⟩ trivial)))
 show ys=_
 rw [← hs,show xs.length - i=0 from by omega];rfl
theorem pc (h:HF) (xs:List Int) (b:Option Addr) (c:Nat) (G:LH) (cmp:Int→Int→Int) (cmp_v:Value) (hG:em Rp.int 3 h xs b c G)
  (hcmp:∀ (h':HF) (dB Af:Int),HF.le h h'→dB∈xs→Af∈xs→rH prog cmp_v [I dB,I Af] h' [] (I (cmp dB Af))) (hsz:xs.length < 20):
  mP prog 332 [.slice b xs.length c,I (xs.length:Int),cmp_v].toArray h G (fun r h' G'=>h'=h∧r=.returned (.tuple #[])∧em Rp.int 3 h (eX xs cmp) b c G'):=by
 refine cz func332 U ntmps332 U fun X hM hX=>qT 12 U (An (qT 5 U (aw (v':=.bool false) U (cb (decide_eq_false ob)) (qO 9 U (aF (lV [] G [] call364 (mU h xs b c G cmp cmp_v hG hcmp ob) (by simp) U (fun G2 hG2=>?_)))))))
 rw [List.nil_append,List.append_nil]
 exact aD (ie (An (qT 5 U (aw (v':=.bool false) U (cb (decide_eq_false ob)) (qO 3 U (tL func332 (fun a _ w _=>kO U a w) (fun w hw=>hw.lower) ⟨hX,U,hG2⟩))))))
theorem oM (h:HF) (xs:List Int) (b:Option Addr) (c:Nat) (G:LH) (cmp:Int→Int→Int) (cmp_v:Value) (hG:em Rp.int 3 h xs b c G)
  (hcmp:∀ (h':HF) (dB Af:Int),HF.le h h'→dB∈xs→Af∈xs→rH prog cmp_v [I dB,I Af] h' [] (I (cmp dB Af))) (hsz:xs.length < 20):
  mP prog 290 [.slice b xs.length c,cmp_v].toArray h G (fun r h' G'=>h'=h∧r=.returned (.tuple #[])∧em Rp.int 3 h (eX xs cmp) b c G'):=by
 refine cz func290 U ntmps290 U fun X hM hX=>qK 5 [] U (aF (lV [] G [] call332 (pc h xs b c G cmp cmp_v hG hcmp hsz) (by simp) U (fun G2 hG2=>?_)))
 rw [List.nil_append,List.append_nil]
 exact aD (tL func290 (fun a _ w _=>kO U a w) (fun w hw=>hw.lower) ⟨hX,U,hG2⟩)
theorem wx (h:HF) (x:Int) (y:Int)  : Ret prog 118 [I x,I y] h (I (cmp_Compare_int x y)):=by
 refine sT func118 U ntmps118 U fun X hM hX hF=>?_
 have hs0:cmp_Compare_int x y=cmp_Compare_int x y:=rfl
 refine qT 7 U (av call211 (rX h x) U (qO 5 U (av call211 (rX h y) U (qO 7 U (ai hs0 U (fun c1 hs1=>?_) (fun c1 hs2=>?_))))))
 ·refine qT 5 U (ai hs1 U (fun c2 hs3=>?_) (fun c2 hs4=>?_))
  ·exact sr (an (nretP [I 0] (ci hs3)))
  exact aJ (qT 4 U (nretP [I (-1)] (ci hs4)))
 refine qT 6 U (ai hs2 U (fun c3 hs7=>?_) (fun c3 hs8=>?_))
 ·exact sr (an (nretP [I 1] (ci hs7)))
 refine qT 8 U (ai hs8 U (fun c4 hs10=>?_) (fun c4 hs11=>?_))
 ·have c4p:=of_decide_eq_true c4
  exact sr (an (nretP [I (-1)] (ci hs10)))
 have c4p:=of_decide_eq_false c4
 refine qT 8 U (ai hs11 U (fun c5 hs13=>?_) (fun c5 hs14=>?_))
 ·have c5p:=of_decide_eq_true c5
  exact sr (an (nretP [I 1] (ci hs13)))
 have c5p:=of_decide_eq_false c5
 exact aJ (qT 4 U (nretP [I 0] (ci hs14)))
theorem oV (h:HF) (a:Int) (jt:Int) (p:nK) (fL:Ic) (p_p:Addr) (p_q:Addr) (hp:nK.ok h p fL) (pp:At h p_p (nK.cells p fL)) (ap:At h p_q [.pointer (some p_p)]) (ha:0≤a∧a < (p.signed.length:Int)) (hb:0≤jt∧jt < (p.signed.length:Int)):Ret prog 291 [I a,I jt,.pointer (some p_q)] h (I (hY a jt p)):=by
 refine sT func291 U ntmps291 U fun X hM hX hF=>?_
 have hs0:hY a jt p=hY a jt p:=rfl
 refine qT 5 U (eQ ([]) mixed kr jn (fun dH _=>tf 0 U U (fun _ _ hj=>eV ty211 (ap.mono hj.1) U) (tf 1 U U (fun _ _ _=>fF U) (qB [2] U (tf 3 U U (fun _ _ hj=>jK 2 ty31 (pp.mono hj.1) U U) (tm 4 U ?_))))))
 have ho1:0≤(a:Int)∧(a:Int) < ((p.signed).length:Int):=ob
 refine fW 5 (enc:=fun y=>[I y]) dH jn ei fa ty3 hp.signed.1 ho1 (dU ho1) U U U U kr (fun q1 A1=>tf 6 U U (fun _ _ hj=>eV ty3 (A1.mono hj.1) U) (tf 7 U U (fun _ _ hj=>eV ty211 (ap.mono hj.1) U) (tf 8 U U (fun _ _ _=>fF U) (qB [9] U (tf 10 U U (fun _ _ hj=>jK 2 ty31 (pp.mono hj.1) U U) (tm 11 U ?_))))))
 have ho2:0≤(jt:Int)∧(jt:Int) < ((p.signed).length:Int):=ob
 exact fW 12 (enc:=fun y=>[I y]) dH jn ei fa ty3 hp.signed.1 ho2 (dU ho2) U U U U kr (fun q2 A2=>tf 13 U U (fun _ _ hj=>eV ty3 (A2.mono hj.1) U) (tn 14 U (eP call118 (wx h (nthI p.signed a) (nthI p.signed jt)) U (⟨jn,(qA [15] U (aW kr (nretP [I (cmp_Compare_int (nthI p.signed a) (nthI p.signed jt))] (ci hs0))))⟩))))
theorem so (h:HF) (v0:List Int) (ri:Option Addr) (rh:Nat) (v0_q:Addr) (hv0:SlC Rp.int h ri rh v0) (av0:At h v0_q [.slice ri v0.length rh]):Itr prog (.func (.func 333) #[] (List.toArray [.pointer (some v0_q)])) uS (cX v0) h:=by
 refine pU call333 ?_
 intro yf ya yb C Sp Pn h1 A hle m1 m2 m3 hC hy
 refine iV I5 U ntmps333 U fun X hXM hX=>?_
 have hs0:cX v0=[]++cX v0:=rfl
 refine sr (dF ty31 (av0.mono hle) U (qL 3 [] U ?_))
 refine lp2 v0 (fun i w=>[(0,.func yf ya yb),(5,.slice ri v0.length rh),(6,I (v0.length:Int)),(7,I (i:Int))]) (fun w=>w.2.2) (fun w=>w.2.1) (fun i w=>C w.1 w.2.2 w.2.1∧HF.le h1 w.2.2) (fun s1 i w=>w.1++(cX.L1 (cX.K1)) s1) ([],A,h1) ((hv0.mono Rp.aY hle).1.1) hs0 ⟨hC,lf⟩ ?_ ?_
 ·rintro i1 ⟨dn1,A1_,hh1⟩ fA hs1 ⟨hC1_,hl1⟩ e
  refine dY ?_
  have hs2:cX v0=dn1:=hs1.trans (List.append_nil _)
  exact pV [] (A:=A1_) I5 U (List.Sublist.refl _) (.inl (hs2 ▸ hC1_))
 rintro i1 ⟨dn1,A1_,hh1⟩ y1 rz1 hd1 dx aL eH hO hs3 ⟨hC1_,hl1⟩ hx1 ag1 e
 refine sr (aw (v':=.bool true) U (cb dx) (qO 8 U (aF (fj (enc:=fun y=>[I y]) ei fa ty3 (hv0.mono Rp.aY (hle.t hl1)).1 (nthZ aL) (ba aL) U U U (fun q2 A5=>dF ty3 A5 U (qO 6 U ?_))))))
 have hx2:cX v0=dn1++(y1::(cX.L1 (cX.K1) rz1)):=hs3
 refine aF (jW ([]) A1_ ap (hy dn1 y1 _ _ _ _ hx2 hl1 hC1_ U) U U (fun h5 A6 hle4 hC2=>?_) (fun h6 A7 hle5 hS2=>?_) (fun ch2 h7 A8 hle6 hP2 e=>gp (lG [] (A:=A8) I5 (List.sublist_append_right _ _) hP2)))
 ·have hs4:cX v0=(dn1++[y1])++((cX.L1 (cX.K1) rz1)):=hx2.trans ap
  exact kz U (qO 5 U (aw (v':=I (((i1+1):Nat):Int)) U (bw ob) (qO 2 U (ag1 ((dn1++[y1]),A6,h5) hs4 ⟨hC2,(hl1.t hle4)⟩))))
 exact kz U (qO 2 U (dY (lq [] (A:=A7) I5 U (List.Sublist.refl _) (.inr hS2))))
theorem tP (h:HF) (s:List Int) (pL:Option Addr) (pK:Nat) (hs:SlC Rp.int h pL pK s):jN prog 292 [.slice pL s.length pK] h (fun v h'=>∃ (rv0:Value),v=rv0∧Itr prog rv0 uS (jj s) h'):=by
 refine sT func292 U ntmps292 U fun X hM hX hF=>?_
 have hs0:jj s=jj s:=rfl
 refine sr (cA (fun b1=>qO 4 U (aT 0 U hM (fun h1 hle1 hb1=>aF (et U U (an ?_))))))
 have hs1:jj s=(cX s):=hs0
 exact nretH [.func (.func 333) #[] #[Q b1]] ⟨(.func (.func 333) #[] #[Q b1]),congrArg (fun r:List Int=>((.func (.func 333) #[] #[Q b1]):Value)) hs1.symm,(by rw [hs1];exact (so h1 s pL pK ⟨b1,0,none⟩ (hs.mono Rp.aY hle1) (ct hb1)))⟩
theorem qi (h:HF) (p:nK) (fL:Ic) (p_q:Addr) (jR:Int) (hp:nK.ok h p fL) (ap:At h p_q (nK.cells p fL)) (hsg:p.signed.length < 20):jN prog 215 [.pointer (some p_q),.int .i64 jR] h (fun v h'=>∃ (rv0:Value),v=rv0∧Itr prog rv0 uS (bN p jR) h'):=by
 refine cz func215 U ntmps215 U fun X hM hX=>?_
 have hs0:bN p jR=bN p jR:=rfl
 refine aR (ay (cA (fun b1=>cK (aD (aR (ay (cK (aD (aR (aR (ay (kl 0 ty211 U U U (aF (fg (fF U) (fX Ky U (kd (j:=2) ty31 ap U U (Bf fa U (aj (?_)))))))))))))))))))
 refine aD (?_)
 refine lp2 p.signed (fun i w=>[(1,.int .i64 jR),(2,.pointer (some ⟨b1,0,none⟩)),(5,.slice w.2.1 w.1.length w.2.2.1),(11,.slice fL.ec p.signed.length fL.dZ),(12,.int .i64 (p.signed.length:Int)),(13,.int .i64 (i:Int))]) (fun _=>h) (fun w=>[(b1,Obj.cells (List.toArray [.pointer (some p_q)]) 211 (0,0))]++(w.2.2.2)) (fun i w=>em Rp.int 3 h w.1 w.2.1 w.2.2.1 w.2.2.2∧w.1.length≤0+i∧(∀ x∈w.1,0≤x∧x < (p.signed.length:Int))) (fun s1 i w=>(bN.L1 jR (bN.K1 p)) s1 i w.1) ([],none,0,[]) hp.signed.1.1 hs0 ⟨em.nil,(by simp only [List.length_append,List.length_cons,List.length_nil];omega),(fun x hx=>(List.not_mem_nil hx).elim)⟩ ?_ ?_
 ·skip
  rintro i1 ⟨iJ,FJ,FI,vJ⟩ fA hs1 ⟨Ds,Ks,u1_0⟩ e
  try dsimp only at Ds
  try dsimp only at Ks
  try dsimp only at u1_0
  show TT _ _ _ _ _ (upds e [(1,.int .i64 jR),(2,.pointer (some ⟨b1,0,none⟩)),(5,.slice FJ iJ.length FI),(11,.slice fL.ec p.signed.length fL.dZ),(12,.int .i64 (p.signed.length:Int)),(13,.int .i64 (i1:Int))]) _ _ h ([(b1,Obj.cells (List.toArray [.pointer (some p_q)]) 211 (0,0))]++(vJ))
  refine aR (ay (aj (aT 0 U hM (fun h1 hle1 hb1=>aF (et U U (aF (lV ([]) vJ ([]) call290 (oM h1 iJ FJ FI vJ (fun dB Af=>hY dB Af p) (.func (.func 291) #[] #[.pointer (some ⟨b1,0,none⟩)]) (Ds.mono Rp.aY hle1) (fun h' dB Af hle Kh M8 =>iu call291 (oV h' dB Af p fL p_q ⟨b1,0,none⟩  ((hp.mono hle1).mono hle) ((ap.mono hle1).mono hle) ((ct hb1).mono hle) (u1_0 _ Kh) (u1_0 _ M8))) (by first | assumption | omega)) (show vJ=[]++(vJ++([])) from by first | rfl | simp only [List.append_assoc,List.cons_append,List.nil_append,List.append_nil]) U (fun G1 gr1=>?_))))))))
  refine iw (L':=G1) (by first | rfl | simp only [List.append_assoc,List.cons_append,List.nil_append,List.append_nil]) (aD (aR (ay (aj (pG Rp.aY ([]) G1 ([]) (show G1=[]++(G1++([])) from by first | rfl | simp only [List.append_assoc,List.cons_append,List.nil_append,List.append_nil]) hM gr1 (fun h2 hle2 sl1=>?_))))))
  refine aF (cY call292 (tP _ _ _ _ sl1) (by first | rfl | (simp only [Ay,ir];rfl)) (fun v1 h3 hle3 hp1=>?_))
  obtain ⟨_,rfl,mo1⟩:=hp1
  refine cK (aD (?_))
  have hs2:bN p jR=(jj (eX iJ (fun dB Af=>hY dB Af p))):=hs1
  exact jd [v1] func215 U ⟨U,trivial⟩ ⟨v1,congrArg (fun r:List Int=>(v1:Value)) hs2.symm,(by rw [hs2];exact mo1)⟩
 skip
 rintro i1 ⟨iJ,FJ,FI,vJ⟩ y1 rz1 hd1 dx aL eH hO hs3 ⟨Ds,Ks,u1_0⟩ hx1 ag1 e
 try dsimp only at Ds
 try dsimp only at Ks
 try dsimp only at u1_0
 show TT _ _ _ _ _ (upds e [(1,.int .i64 jR),(2,.pointer (some ⟨b1,0,none⟩)),(5,.slice FJ iJ.length FI),(11,.slice fL.ec p.signed.length fL.dZ),(12,.int .i64 (p.signed.length:Int)),(13,.int .i64 (i1:Int))]) _ _ h ([(b1,Obj.cells (List.toArray [.pointer (some p_q)]) 211 (0,0))]++(vJ))
 refine aR (ay (aw (v':=.bool true) U (congrArg Value.bool dx) (aD (aR (iq U (aJ (aR (ie (aR (ay (aj (aF (fj (enc:=fun y=>[.int .i64 y]) (fun _ _ _ e=>e) fa ty3 hp.signed.1 (nthZ aL) (ba aL) U U U (fun q2 A2=>?_))))))))))))))
 refine dF ty3 A2 U (cK (cK (aD (aR (ay (aj (Bg U (aj (?_)))))))))
 refine bC 4 [20,21,22,23,24] 20 24 (decide (y1≤jR)) U (fun c1 hk1=>?_) (fun e=>?_)
 ·skip
  refine aj (aj (Bg U (ek U (?_))))
  exact hk1 _ U
 refine aD (?_)
 refine ai hs3 U (fun c2 hs4=>?_) (fun c2 hs5=>?_)
 ·skip
  refine ay (aj (aj (aF (bV (cells:=[.int .i64 (i1:Int)]) fa ty3 zc3 U U (by kernel_rfl) (fun b2=>aF (eR Rp.kR ([(b2,Obj.cells (List.toArray [.int .i64 (i1:Int)]) 3 (0,0)),(b1,Obj.cells (List.toArray [.pointer (some p_q)]) 211 (0,0))]) ([]) (fun G=>[(b2,Obj.cells (List.toArray [.int .i64 (i1:Int)]) 3 (0,0)),(b1,Obj.cells (List.toArray [.pointer (some p_q)]) 211 (0,0))]++G) (show [(b2,Obj.cells (List.toArray [.int .i64 (i1:Int)]) 3 (0,0)),(b1,Obj.cells (List.toArray [.pointer (some p_q)]) 211 (0,0))]++(vJ)=[(b2,Obj.cells (List.toArray [.int .i64 (i1:Int)]) 3 (0,0)),(b1,Obj.cells (List.toArray [.pointer (some p_q)]) 211 (0,0))]++(vJ++([])) from by first | rfl | simp only [List.append_assoc,List.cons_append,List.nil_append,List.append_nil]) (fun _=>by first | rfl | simp only [List.append_assoc,List.cons_append,List.nil_append,List.append_nil]) fa ty3 zc3 U bytes3 Ds U U (fI 0 U (show bu Rp.int h [.int .i64 (i1:Int)] ([(i1:Int)]) from ⟨[.int .i64 (i1:Int)],[],U,U,U,U⟩)) (by simp only [List.length_append,List.length_cons,List.length_nil,List.length_take,List.length_drop];omega) (by simp only [List.length_append,List.length_cons,List.length_nil,List.length_take,List.length_drop];omega) (fun ob1 oc1 G2 gr2=>?_)))))))
  refine cK (aD (da (ay (aw (v':=.int .i64 (((i1+1):Nat):Int)) U (bw (by omega)) (aj (aD (?_)))))))
  refine bB (L':=[(b1,Obj.cells (List.toArray [.pointer (some p_q)]) 211 (0,0))]++G2) (.cons _ (.cons_cons _ (List.Sublist.refl _))) ?_
  exact ag1 ((iJ++[(i1:Int)]),ob1,oc1,G2) hs4 ⟨gr2,(by simp only [List.length_append,List.length_cons,List.length_nil];omega),(by first | assumption | exact fun x hx=>(List.mem_append.1 hx).elim (u1_0 x) (fun hx=>by rw [List.mem_singleton.1 hx];omega))⟩
 skip
 refine aJ (da (ay (aw (v':=.int .i64 (((i1+1):Nat):Int)) U (bw (by omega)) (aj (aD (?_))))))
 exact ag1 (iJ,FJ,FI,vJ) hs5 ⟨Ds,(by simp only [List.length_append,List.length_cons,List.length_nil];omega),(by first | assumption | exact fun x hx=>(List.mem_append.1 hx).elim (u1_0 x) (fun hx=>by rw [List.mem_singleton.1 hx];omega))⟩
theorem rq (h:HF) (v0:List Int) (ri:Option Addr) (rh:Nat) (v0_q:Addr) (hv0:SlC Rp.int h ri rh v0) (av0:At h v0_q [.slice ri v0.length rh]):Itr prog (.func (.func 293) #[] (List.toArray [.pointer (some v0_q)])) us (ik v0) h:=by
 refine pU call293 ?_
 intro yf ya yb C Sp Pn h1 A hle m1 m2 m3 hC hy
 refine iV I4 U ntmps293 U fun X hXM hX=>?_
 have hbd:=hv0.1.1
 refine sr (dF ty31 (av0.mono hle) U (qL 1 [] U (aw (v':=I ((v0.length:Int) - 1)) U (jV ob) (qO 3 U ?_))))
 refine ku (ι:=Nat×List (Int×Int)×LH×HF) (fun i=>[(0,.func yf ya yb),(1,.pointer (some v0_q)),(3,I ((i.1:Int) - 1))]) (fun i=>i.2.2.2) (fun i=>i.2.2.1)
  (fun i=>ik v0=i.2.1++backL v0 i.1∧i.1≤v0.length∧C i.2.1 i.2.2.2 i.2.2.1∧HF.le h1 i.2.2.2) (fun i=>i.1) (v0.length,[],A,h1) rd (fun w hw=>hw) ⟨rfl,Nat.le_refl _,hC,HF.le_refl _⟩ ?_
 rintro ⟨m,dn,A1,hh⟩ ⟨hs,hm,hC1,hl1⟩ ag e
 dsimp only at hs hm hC1 hl1
 rcases m with _ | m
 ·exact aR (qT 3 U (aw (v':=.bool false) U (cb (decide_eq_false ob)) (qO 3 U (dY (pV [] (A:=A1) I4 U (List.Sublist.refl _) (.inl ((show ik v0=dn from hs.trans (List.append_nil _)) ▸ hC1)))))))
 have e1:(((m+1:Nat):Int) - 1)=(m:Int):=by omega
 rw [e1]
 have ho:0≤(m:Int)∧(m:Int) < (v0.length:Int):=by omega
 refine qT 4 U (aw (v':=.bool true) U (cb (decide_eq_true ob)) (qO 9 U (dF ty31 (av0.mono (hle.t hl1)) U (aj (aF (fj (enc:=fun y=>[I y]) ei fa ty3 (hv0.mono Rp.aY (hle.t hl1)).1 ho (dU ho) U U U (fun q2 A5=>dF ty3 A5 U ?_)))))))
 have hx:ik v0=dn++(((m:Int),nthI v0 (m:Int))::backL v0 m):=hs
 refine aF (jW ([]) A1 U (hy dn ((m:Int),nthI v0 (m:Int)) _ _ _ _ hx hl1 hC1 U) U U (fun h5 A6 hle4 hC2=>?_) (fun h6 A7 hle5 hS2=>?_) (fun ch2 h7 A8 hle6 hP2 e=>gp (lG [] (A:=A8) I4 (List.sublist_append_right _ _) hP2)))
 ·have hs4:ik v0=(dn++[((m:Int),nthI v0 (m:Int))])++backL v0 m:=hx.trans ap
  exact kz U (qO 6 U (aw (v':=I ((m:Int) - 1)) U (jV ob) (an (ag (m,dn++[((m:Int),nthI v0 (m:Int))],A6,h5) _ (Nat.lt_succ_self _) ⟨hs4,by show m≤v0.length;omega,hC2,HF.le_trans hl1 hle4⟩ rd))))
 exact kz U (qO 2 U (dY (lq [] (A:=A7) I4 U (List.Sublist.refl _) (.inr hS2))))
theorem sq (h:HF) (s:List Int) (pL:Option Addr) (pK:Nat) (hs:SlC Rp.int h pL pK s):jN prog 216 [.slice pL s.length pK] h (fun v h'=>∃ (rv0:Value),v=rv0∧Itr prog rv0 us (iI s) h'):=by
 refine sT func216 U ntmps216 U fun X hM hX hF=>?_
 have hs0:iI s=iI s:=rfl
 refine sr (cA (fun b1=>qO 4 U (aT 0 U hM (fun h1 hle1 hb1=>aF (et U U (an ?_))))))
 have hs1:iI s=(ik s):=hs0
 exact nretH [.func (.func 293) #[] #[Q b1]] ⟨(.func (.func 293) #[] #[Q b1]),congrArg (fun r:(List (Int×Int))=>((.func (.func 293) #[] #[Q b1]):Value)) hs1.symm,(by rw [hs1];exact (rq h1 s pL pK ⟨b1,0,none⟩ (hs.mono Rp.aY hle1) (ct hb1)))⟩
theorem If (s:List Int):jj s=s:=by
  show cX.L1 cX.K1 s=s
  induction s with
  | nil=>rfl
  | cons y s ih=>simp only [cX.L1,ih]
theorem Bu (cmp:Int→Int→Int):∀ (m i:Nat) (xs:List Int),m=0∨i+m≤xs.length→∀ x∈insOut cmp m i xs,x∈xs
  | 0,_,_,_,x,hx=>hx
  | m+1,i,xs,h,x,hx=>by
    simp only [insOut] at hx
    exact yp cmp i xs (by omega) x (Bu cmp m (i+1) _ (by rw [uT];omega) x hx)
theorem Gi (xs:List Int) (cmp:Int→Int→Int):∀ x∈eX xs cmp,x∈xs:=Bu _ _ _ _ (by omega)
theorem AA (p:eW) (cv:Int):∀ (s:List Int) (i:Nat) (g:List Int),(∀ x∈g,0≤x∧x < (i:Int))→g.length≤i →
  (∀ x∈bN.L1 cv (bN.K1 p) s i g,0≤x∧x < ((i+s.length:Nat):Int))∧(bN.L1 cv (bN.K1 p) s i g).length≤i+s.length:=by
 intro s
 induction s with
 | nil=>
  intro i g hg hl
  simp only [bN.L1,bN.K1,If,List.length_nil,Nat.add_zero,Ay]
  exact ⟨fun x hx=>hg x (Gi _ _ x hx),hl⟩
 | cons y s ih=>
  intro i g hg hl
  have e1:i+(y::s).length=(i+1)+s.length:=by simp only [List.length_cons];omega
  rw [e1]
  simp only [bN.L1,Bool.cond_eq_ite]
  split
  ·refine ih (i+1) _ (fun x hx=>?_) (by simp only [List.length_append,List.length_cons,List.length_nil];omega)
   rcases List.mem_append.1 hx with hx | hx
   ·have:=hg x hx;omega
   rw [List.mem_singleton.1 hx];omega
  exact ih (i+1) g (fun x hx=>by have:=hg x hx;omega) (by omega)
theorem EQ (p:eW) (cv:Int):∀ x∈bN p cv,0≤x∧x < (p.signed.length:Int):=by
  have:=(AA p cv p.signed 0 [] (fun _ h=>(List.not_mem_nil h).elim) (Nat.le_refl _)).1
  simpa [bN] using this
theorem EP (p:eW) (cv:Int):(bN p cv).length≤p.signed.length:=by
  have:=(AA p cv p.signed 0 [] (fun _ h=>(List.not_mem_nil h).elim) (Nat.le_refl _)).2
  simpa [bN] using this
theorem V3i.mono:vM V3i:=fun _ _ _ _ _ e=>e
theorem FRi.mono {h h':HF} (hl:h.le h'):∀ {m:List (Int×Option Addr×Nat×Nat)} {f:List (Int×List Int)} {G:LH},FRi h m f G→FRi h' m f G
  | [],[],_,e=>e
  | (_,_)::_,(_,_)::_,_,⟨a,b,G1,G2,c,d,t⟩=>⟨a,b,G1,G2,c,d.mono Rp.aY hl,FRi.mono hl t⟩
  | [],(_,_)::_,_,x=>x.elim
  | (_,_)::_,[],_,x=>x.elim
theorem FRi.get {h:HF} (k:Int):∀ {m:List (Int×Option Addr×Nat×Nat)} {f:List (Int×List Int)} {G:LH},FRi h m f G →
  ∃ b c G1 G2,mgetD m k (none,0,0)=(b,(mgetD f k []).length,c)∧em Rp.int 3 h (mgetD f k []) b c G1∧G.Perm (G1++G2) ∧
   ∀ b' c' xs' G1',em Rp.int 3 h xs' b' c' G1'→∃ G',FRi h (mput m k (b',xs'.length,c')) (mput f k xs') G'∧G'.Perm (G1'++G2)
 | [],[],G,e=>by
  subst e
  refine ⟨none,0,[],[],U,em.nil,List.Perm.refl _,fun b' c' xs' G1' hG=>⟨G1',⟨U,U,G1',[],by simp,hG,U⟩,by simp⟩⟩
 | (k0,x)::m,(k',xs)::f,G,⟨e,hn,G1,G2,hG,hg,t⟩=>by
  subst e hG
  by_cases hk:k=k0
  ·subst hk
   refine ⟨x.1,x.2.2,G1,G2,?_,?_,List.Perm.refl _,fun b' c' xs' G1' hG'=>⟨G1'++G2,?_,List.Perm.refl _⟩⟩
   ·simp [mgetD,mget?,← hn]
   ·simpa [mgetD,mget?] using hg
   simp only [mput,if_true]
   exact ⟨U,U,G1',G2,U,hG',t⟩
  obtain ⟨b,c,H1,H2,h1,h2,h3,h4⟩:=FRi.get k t
  refine ⟨b,c,H1,G1++H2,?_,?_,?_,fun b' c' xs' G1' hG'=>?_⟩
  ·simpa [mgetD,mget?,hk] using h1
  ·simpa [mgetD,mget?,hk] using h2
  ·refine (List.Perm.append_left G1 h3).trans ?_
   rw [← List.append_assoc,← List.append_assoc];exact List.Perm.append_right H2 List.perm_append_comm
  obtain ⟨G',g1,g2⟩:=h4 b' c' xs' G1' hG'
  refine ⟨G1++G',?_,?_⟩
  ·simp only [mput,hk,if_false]
   exact ⟨U,hn,G1,G',U,hg,g1⟩
  refine (List.Perm.append_left G1 g2).trans ?_
  rw [← List.append_assoc,← List.append_assoc];exact List.Perm.append_right H2 List.perm_append_comm
 | [],(_,_)::_,_,x=>x.elim
 | (_,_)::_,[],_,x=>x.elim
theorem FRi.keys {h:HF}:∀ {m:List (Int×Option Addr×Nat×Nat)} {f:List (Int×List Int)} {G:LH},FRi h m f G→m.map (·.1)=f.map (·.1)
  | [],[],_,_=>rfl
  | (_,_)::_,(_,_)::_,_,⟨a,_,_,_,_,_,t⟩=>by simp [a,FRi.keys t]
  | [],(_,_)::_,_,x=>x.elim
  | (_,_)::_,[],_,x=>x.elim
theorem FRi.mem {h:HF}:∀ {m:List (Int×Option Addr×Nat×Nat)} {f:List (Int×List Int)} {G:LH},FRi h m f G→(m.map (·.1)).Nodup→∀ p∈m,p.2.2.1=(mgetD f p.1 []).length∧∃ G1,(∀ q∈G1,q∈G)∧em Rp.int 3 h (mgetD f p.1 []) p.2.1 p.2.2.2 G1
 | [],[],_,_,_,_,hp=>(List.not_mem_nil hp).elim
 | (k,x)::m,(k',xs)::f,G,⟨e,hn,G1,G2,hG,hg,t⟩,hnd,p,hp=>by
  subst e hG
  rw [List.map_cons,List.nodup_cons] at hnd
  rcases List.mem_cons.1 hp with rfl | hp
  ·exact ⟨by simp [mgetD,mget?,hn],G1,fun q hq=>List.mem_append_left _ hq,by simpa [mgetD,mget?] using hg⟩
  have hne:¬ p.1=k:=fun e=>hnd.1 (by have h9:=List.mem_map_of_mem (f:=(·.1)) hp;rw [e] at h9;exact h9)
  obtain ⟨h1,H,h2,h3⟩:=FRi.mem t hnd.2 p hp
  exact ⟨by simpa [mgetD,mget?,hne] using h1,H,fun q hq=>List.mem_append_right _ (h2 q hq),by simpa [mgetD,mget?,hne] using h3⟩
 | [],(_,_)::_,_,x,_,_,_=>x.elim
 | (_,_)::_,[],_,x,_,_,_=>x.elim
theorem Dq {α : Type}:∀ {f:List (Int×α)} (z:α),(f.map (·.1)).Nodup→f=f.map fun p=>(p.1,mgetD f p.1 z)
 | [],_,_=>rfl
 | (k,x)::f,z,hn=>by
  rw [List.map_cons,List.nodup_cons] at hn
  rw [List.map_cons]
  congr 1
  ·simp [mgetD,mget?]
  have ih:=Dq z hn.2
  conv=>lhs;rw [ih]
  apply List.map_congr_left
  intro p hp
  have hne:¬ p.1=k:=fun e=>hn.1 (by have h9:=List.mem_map_of_mem (f:=(·.1)) hp;rw [e] at h9;exact h9)
  simp [mgetD,mget?,hne]
theorem DJ {h:HF} {h2:HF} (g:Int→List Int):∀ {es:List MapEntry} {m:List (Int×Option Addr×Nat×Nat)},nf (Value.int .i64) V3i h es m →
    (∀ p∈m,p.2.2.1=(g p.1).length∧SlC Rp.int h2 p.2.1 p.2.2.2 (g p.1))→nf (Value.int .i64) (VSl Rp.int) h2 es (m.map fun p=>(p.1,g p.1))
  | [],[],_,_=>trivial
  | e::es,(k,x)::m,⟨a,b,c⟩,hg=>by
    obtain ⟨h1,h3⟩:=hg (k,x) (List.mem_cons_self ..)
    refine ⟨a,⟨x.1,x.2.2,?_,h3⟩,DJ g c fun p hp=>hg p (List.mem_cons_of_mem _ hp)⟩
    rw [show e.val=.slice x.1 x.2.1 x.2.2 from b,h1]
  | [],_::_,x,_=>x.elim
  | _::_,[],x,_=>x.elim
theorem FRi.frozen {h h2:HF} {o:Obj} {m:List (Int×Option Addr×Nat×Nat)} {f:List (Int×List Int)} {G:LH} (hm:iL (Value.int .i64) V3i h o m) (hf:FRi h m f G) (hl:h.le h2) (hG:∀ p∈G,h2 p.1=some p.2):
  iL (Value.int .i64) (VSl Rp.int) h2 o f:=by
 have hnd:=hm.nodup
 have hk:=hf.keys
 obtain ⟨m',hp,hn,es,c,rfl,hE,h1,h3⟩:=hm
 have hmem:=hf.mem hnd
 have hfe:=Dq (f:=f) [] (hk ▸ hnd)
 have hfm:f=m.map fun p=>(p.1,mgetD f p.1 []):=by
  have e1:(f.map fun p=>(p.1,mgetD f p.1 []))=(f.map (·.1)).map fun k=>(k,mgetD f k []):=by rw [List.map_map];rfl
  have e2:(m.map fun p=>(p.1,mgetD f p.1 []))=(m.map (·.1)).map fun k=>(k,mgetD f k []):=by rw [List.map_map];rfl
  rw [e2,hk,← e1];exact hfe
 refine ⟨m'.map fun p=>(p.1,mgetD f p.1 []),?_,?_,es,c,U,DJ (fun k=>mgetD f k []) hE fun p hp'=>?_,h1,h3⟩
 ·have hpm:=hp.map fun p=>(p.1,mgetD f p.1 ([]:List Int))
  rw [← hfm] at hpm;exact hpm
 ·rw [List.map_map];exact hn
 obtain ⟨h5,G1,h6,h7⟩:=hmem p (hp.mem_iff.1 hp')
 exact ⟨h5,h7.frozen Rp.aY hl fun q hq=>hG q (h6 q hq)⟩
section
variable {b0:Frame} {n:Nat} {ops:Array Oper} {F:List Frame→(Machine→Prop)→Prop} {ds:List Deferred} {X:Cx} {e:Env} {h h':HF} {L:LH} {l:List Document} {lb:Option Addr} {lc:Nat} {sg:List Int} {sb:Option Addr} {sc:Nat} {at_:Int} {q4:Addr} {a b c d f g t:Bool} {ty:TypeId} {pos:String} {af:Array Edge}
theorem M6 (hl:SlC Document.rp h lb lc l) (hI:PlI h l lb lc sg sb sc at_ q4 false b c d f g t e h' L):
    Stp prog b0 n ops F ds X ⟨some 17,.call ⟨.value (.func 150),#[.tmp 16],#[27]⟩,ty,pos,af,none⟩ e h' L (fun e2 h2 L2=>Jst h [] h2 L2∧PlI h l lb lc sg sb sc at_ q4 true b c d f g t e2 h2 L2):=by
  obtain ⟨hv,hle,⟨k2,k4,k16,k18,k20,k23⟩,sr,b5,b8,b9,b12,b11,x1,x5,x8,x9,x12,x10,x11,hL⟩:=hI
  cases g <;> cases t <;> simp at hv
  refine cY call150 (nT h' l lb lc (hl.mono Document.ao hle)) (congrArg (fun x=>[x]) k16) (fun v h2 hl2 hp=>?_)
  obtain ⟨r2,rfl,ok2⟩:=hp
  exact ⟨⟨HF.le_trans hle hl2,fun _ hp=>(List.not_mem_nil hp).elim⟩,U,HF.le_trans hle hl2,⟨k2,k4,k16,k18,k20,k23⟩,r2,b5,b8,b9,b12,b11,fun _=>⟨U,ok2⟩,x5,x8,x9,x12,fun h=>(by cases h),fun h=>(by cases h),hL⟩
theorem M5 (hn:l.length < 20) (hI:PlI h l lb lc sg sb sc at_ q4 a false c d f g t e h' L):
    Stp prog b0 n ops F ds X ⟨some 21,.makeSlice 57 (.tmp 20) (.tmp 20),ty,pos,af,none⟩ e h' L (fun e2 h2 L2=>Jst h [] h2 L2∧PlI h l lb lc sg sb sc at_ q4 a true c d f g t e2 h2 L2):=by
  obtain ⟨hv,hle,⟨k2,k4,k16,k18,k20,k23⟩,sr,b5,b8,b9,b12,b11,x1,x5,x8,x9,x12,x10,x11,hL⟩:=hI
  cases g <;> cases t <;> simp at hv
  refine C9 CY zc4 ty4 bytes4 k20 k20 (by omega) (by omega) (fun bk=>?_)
  exact ⟨⟨hle,fun _ hp=>(List.not_mem_nil hp).elim⟩,U,hle,⟨k2,k4,k16,k18,k20,k23⟩,sr,bk,b8,b9,b12,b11,x1,fun _=>U,x8,x9,x12,fun h=>(by cases h),fun h=>(by cases h),
    (List.Perm.cons _ hL).trans (pmid (pmid (pmid (pmid (List.Perm.refl _)))))⟩
theorem M4 (hn:l.length < 20) (hI:PlI h l lb lc sg sb sc at_ q4 a b false d f g t e h' L):
    Stp prog b0 n ops F ds X ⟨some 24,.makeSlice 31 (.tmp 23) (.tmp 23),ty,pos,af,none⟩ e h' L (fun e2 h2 L2=>Jst h [] h2 L2∧PlI h l lb lc sg sb sc at_ q4 a b true d f g t e2 h2 L2):=by
  obtain ⟨hv,hle,⟨k2,k4,k16,k18,k20,k23⟩,sr,b5,b8,b9,b12,b11,x1,x5,x8,x9,x12,x10,x11,hL⟩:=hI
  cases g <;> cases t <;> simp at hv
  refine C9 fa zc3 ty3 bytes3 k23 k23 (by omega) (by omega) (fun bk=>?_)
  exact ⟨⟨hle,fun _ hp=>(List.not_mem_nil hp).elim⟩,U,hle,⟨k2,k4,k16,k18,k20,k23⟩,sr,b5,bk,b9,b12,b11,x1,x5,fun _=>U,x9,x12,fun h=>(by cases h),fun h=>(by cases h),
    (List.Perm.cons _ hL).trans (pmid (pmid (pmid (List.Perm.refl _))))⟩
theorem M3 (hI:PlI h l lb lc sg sb sc at_ q4 a b c false f g t e h' L):
    Stp prog b0 n ops F ds X ⟨some 25,.makeMap 236 none,ty,pos,af,none⟩ e h' L (fun e2 h2 L2=>Jst h [] h2 L2∧PlI h l lb lc sg sb sc at_ q4 a b c true f g t e2 h2 L2):=by
  obtain ⟨hv,hle,⟨k2,k4,k16,k18,k20,k23⟩,sr,b5,b8,b9,b12,b11,x1,x5,x8,x9,x12,x10,x11,hL⟩:=hI
  cases g <;> cases t <;> simp at hv
  refine mr (fun bk=>?_)
  exact ⟨⟨hle,fun _ hp=>(List.not_mem_nil hp).elim⟩,U,hle,⟨k2,k4,k16,k18,k20,k23⟩,sr,b5,b8,bk,b12,b11,x1,x5,x8,fun _=>U,x12,fun h=>(by cases h),fun h=>(by cases h),
    (List.Perm.cons _ hL).trans (pmid (pmid (List.Perm.refl _)))⟩
theorem MM (hI:PlI h l lb lc sg sb sc at_ q4 a b c d false g t e h' L):
    Stp prog b0 n ops F ds X ⟨some 7,.alloc 211,ty,pos,af,none⟩ e h' L (fun e2 h2 L2=>Jst h [] h2 L2∧PlI h l lb lc sg sb sc at_ q4 a b c d true g t e2 h2 L2):=by
  obtain ⟨hv,hle,⟨k2,k4,k16,k18,k20,k23⟩,sr,b5,b8,b9,b12,b11,x1,x5,x8,x9,x12,x10,x11,hL⟩:=hI
  refine su zc211 (fun bk=>?_)
  exact ⟨⟨hle,fun _ hp=>(List.not_mem_nil hp).elim⟩,hv,hle,⟨k2,k4,k16,k18,k20,k23⟩,sr,b5,b8,b9,bk,b11,x1,x5,x8,x9,fun _=>U,x10,x11,
    (List.Perm.cons _ hL).trans (pmid (List.Perm.refl _))⟩
theorem MO (ha:(a&&b&&c&&d)=true) (hI:PlI h l lb lc sg sb sc at_ q4 a b c d f false t e h' L):
    Stp prog b0 n ops F ds X ⟨some 26,.build 238 #[(0,.tmp 17),(1,.tmp 18),(2,.tmp 21),(3,.tmp 24),(4,.tmp 25)],ty,pos,af,none⟩ e h' L (fun e2 h2 L2=>Jst h [] h2 L2∧PlI h l lb lc sg sb sc at_ q4 a b c d f true t e2 h2 L2):=by
  obtain ⟨hv,hle,⟨k2,k4,k16,k18,k20,k23⟩,sr,b5,b8,b9,b12,b11,x1,x5,x8,x9,x12,x10,x11,hL⟩:=hI
  cases a <;> cases b <;> cases c <;> cases d <;> simp at ha
  cases t <;> simp at hv
  obtain ⟨x1,o1⟩:=x1 rfl
  replace x5:=x5 rfl
  replace x8:=x8 rfl
  replace x9:=x9 rfl
  refine DO [(17,_),(18,_),(21,_),(24,_),(25,_)] ⟨x1,k18,x5,x8,x9,trivial⟩ ?_
  have hc:eW.cells (playP l sg) (playR l.length sr sb sc b5 b8 b9)=[.slice sr.BZ (aC l).docs.length sr.BY,.map (some sr.F8),.slice sb sg.length sc,.slice (some ⟨b5,0,none⟩) l.length l.length,.slice (some ⟨b8,0,none⟩) l.length l.length,.map (some b9)]:=by simp [eW.cells,playP,playR]
  refine fw (cells:=[.slice sr.BZ (aC l).docs.length sr.BY,.map (some sr.F8),.slice sb sg.length sc,.slice (some ⟨b5,0,none⟩) l.length l.length,.slice (some ⟨b8,0,none⟩) l.length l.length,.map (some b9)]) (places:=[(0,2),(2,1),(3,1),(4,1),(5,1)]) underlying238 zc238 (by kernel_rfl) (by kernel_rfl) ?_
  exact ⟨⟨hle,fun _ hp=>(List.not_mem_nil hp).elim⟩,U,hle,⟨k2,k4,k16,U,k20,k23⟩,sr,b5,b8,b9,b12,b11,fun _=>⟨U,o1⟩,fun _=>U,fun _=>U,fun _=>U,x12,fun _=>(congrArg (fun z:List Value=>Value.agg z.toArray) hc).symm,fun h=>(by cases h),hL⟩
theorem MN (hI:PlI h l lb lc sg sb sc at_ q4 a b c d f true false e h' L):
    Stp prog b0 n ops F ds X ⟨some 27,.box 238 (.tmp 26),ty,pos,af,none⟩ e h' L (fun e2 h2 L2=>Jst h [] h2 L2∧PlI h l lb lc sg sb sc at_ q4 a b c d f true true e2 h2 L2):=by
  obtain ⟨hv,hle,⟨k2,k4,k16,k18,k20,k23⟩,sr,b5,b8,b9,b12,b11,x1,x5,x8,x9,x12,x10,x11,hL⟩:=hI
  replace x10:=x10 rfl
  refine DO [(26,_)] ⟨x10,trivial⟩ ?_
  refine MK (fun bk=>?_)
  exact ⟨⟨hle,fun _ hp=>(List.not_mem_nil hp).elim⟩,hv,hle,⟨k2,k4,k16,k18,k20,k23⟩,sr,b5,b8,b9,b12,bk,x1,x5,x8,x9,x12,fun _=>U,fun _=>U,List.Perm.cons _ hL⟩
end
theorem Lm {i:Nat} {a b c d f g t:Bool} (h:i∈plN a b c d f g t):(i=1∧a=false)∨(i=5∧b=false)∨(i=8∧c=false)∨(i=9∧d=false)∨(i=10∧(a&&b&&c&&d)=true∧g=false)∨(i=11∧g=true∧t=false)∨(i=12∧f=false)∨(a=true∧b=true∧c=true∧d=true∧f=true∧g=true∧t=true):=by
 simp only [plN,List.mem_append] at h
 rcases h with h | h | h | h | h | h | h | h
 ·cases a with
  | true=>simp at h
  | false=>simp at h;exact .inl ⟨h,rfl⟩
 ·cases b with
  | true=>simp at h
  | false=>simp at h;exact .inr (.inl ⟨h,rfl⟩)
 ·cases c with
  | true=>simp at h
  | false=>simp at h;exact .inr (.inr (.inl ⟨h,rfl⟩))
 ·cases d with
  | true=>simp at h
  | false=>simp at h;exact .inr (.inr (.inr (.inl ⟨h,rfl⟩)))
 ·cases g with
  | true=>simp at h
  | false=>
   cases hh:(a&&b&&c&&d) with
   | false=>rw [hh] at h;simp at h
   | true=>rw [hh] at h;simp at h;exact .inr (.inr (.inr (.inr (.inl ⟨h,rfl,rfl⟩))))
 ·cases g with
  | false=>simp at h
  | true=>
   cases t with
   | true=>simp at h
   | false=>simp at h;exact .inr (.inr (.inr (.inr (.inr (.inl ⟨h,rfl,rfl⟩)))))
 ·cases f with
  | true=>simp at h
  | false=>simp at h;exact .inr (.inr (.inr (.inr (.inr (.inr (.inl ⟨h,rfl⟩))))))
 cases a <;> cases b <;> cases c <;> cases d <;> cases f <;> cases g <;> cases t <;> simp at h
 exact .inr (.inr (.inr (.inr (.inr (.inr (.inr ⟨U,U,U,U,U,U,U⟩))))))
theorem J7 {a b c d f g t:Bool} (h:plM a b c d f g t=0):a=true∧b=true∧c=true∧d=true∧f=true∧g=true∧t=true:=by
  cases a <;> cases b <;> cases c <;> cases d <;> cases f <;> cases g <;> cases t <;> simp [plM] at h <;> simp
structure tb (h:HF) (n b5 b8 br:Nat) (P:eW) (om:Obj) (m3:List (Int×Option Addr×Nat×Nat)) (Gf:LH):Prop where
  done:P.done.length=n
  lacks:P.lacks.length=n
  map:iL (Value.int .i64) V3i h om m3
  rev:FRi h m3 P.revoked Gf
theorem tb.mono {h h':HF} {n b5 b8 br:Nat} {P:eW} {om:Obj} {m3:List (Int×Option Addr×Nat×Nat)} {Gf:LH} (o:tb h n b5 b8 br P om m3 Gf) (hl:h.le h'):tb h' n b5 b8 br P om m3 Gf:=
  ⟨o.done,o.lacks,o.map.mono V3i.mono hl,o.rev.mono hl⟩
theorem zq (h:HF):∀ xs:List Bool,bu Rp.bool h (xs.map Value.bool) xs
  | []=>rfl
  | x::xs=>⟨[.bool x],xs.map Value.bool,rfl,rfl,rfl,zq h xs⟩
theorem yY (h:HF):∀ xs:List Int,bu Rp.int h (xs.map (Value.int .i64)) xs
  | []=>rfl
  | x::xs=>⟨[.int .i64 x],xs.map (Value.int .i64),rfl,rfl,rfl,yY h xs⟩
theorem tb.lent {h h1:HF} {n b5 b8 br:Nat} {P:eW} {om:Obj} {m3:List (Int×Option Addr×Nat×Nat)} {Gf:LH} {sr:mC} {sb:Option Addr} {sc:Nat} (o:tb h n b5 b8 br P om m3 Gf) (hn:n < 20) (hs:gv.ok h P.shelf sr) (hg:SlC Rp.int h sb sc P.signed)
    (hl:h.le h1) (hL:∀ p∈plB b5 b8 br P om Gf,h1 p.1=some p.2):eW.ok h1 P (playR n sr sb sc b5 b8 br):=by
  have h5:=hL (b5,.cells (P.done.map Value.bool).toArray 4 (0,0)) (by simp [plB])
  have h8:=hL (b8,.cells (P.lacks.map (Value.int .i64)).toArray 3 (0,0)) (by simp [plB])
  have hr:=hL (br,om) (by simp [plB])
  have hd:=o.done
  have hk:=o.lacks
  exact ⟨hs.mono hl,hg.mono Rp.aY hl,bu.slB0 (zq h1 _) h5 (by omega) (by rw [hd];exact Nat.le_refl _),bu.slB0 (yY h1 _) h8 (by omega) (by rw [hk];exact Nat.le_refl _),
    ⟨om,hr,FRi.frozen o.map o.rev hl (fun p hp=>hL p (by simp [plB,hp]))⟩⟩
theorem Cz (l:List Document):(aC l).docs=l:=by
  have:∀ (s:List Document) (i:Nat) (g:List (Int×Int)),(aC.L1 (aC.K1 l) s i g).docs=l:=by
    intro s
    induction s with
    | nil=>intro i g;rfl
    | cons y s ih=>intro i g;exact ih _ _
  exact this _ _ _
theorem Fc (l:List Document) (hl:0 < l.length) (k:Int):0≤mgetD (aC l).at_ k 0∧mgetD (aC l).at_ k 0 < (l.length:Int):=by
  have key:∀ (s:List Document) (i:Nat) (g:List (Int×Int)),i+s.length=l.length→(∀ p∈g,0≤p.2∧p.2 < (l.length:Int))→∀ p∈(aC.L1 (aC.K1 l) s i g).at_,0≤p.2∧p.2 < (l.length:Int):=by
    intro s
    induction s with
    | nil=>intro i g _ hg;exact hg
    | cons y s ih=>
      intro i g hi hg
      simp only [List.length_cons] at hi
      exact ih (i+1) _ (by omega) (rQ (P:=fun x:Int=>0≤x∧x < (l.length:Int)) _ hg (by omega))
  exact uQ (P:=fun x:Int=>0≤x∧x < (l.length:Int)) k (key l 0 [] (by simp) (fun _ h=>(List.not_mem_nil h).elim)) (by omega)
theorem vT {α : Type} (f:α→Value) (xs:List α) (k:Nat) (y:α):splice (xs.map f) (k * 1) [f y]=(xs.set k y).map f:=by
  simp [splice,kN,List.map_set]
theorem Bc {l:List Document} {sg:List Int} {P:eW} {r:qn} (h1:P.shelf=aC l) (h2:P.signed=sg) (h3:P.done.length=l.length) (h4:P.lacks.length=l.length):eW.cells P r=eW.cells (playP l sg) r:=by
  simp [eW.cells,playP,h1,h2,h3,h4]
theorem uf (sg:List Int) (i:Int) (no:Int) (P:eW):(playLack sg i P no).shelf=P.shelf∧(playLack sg i P no).signed=P.signed∧(playLack sg i P no).done=P.done∧(playLack sg i P no).lacks.length=P.lacks.length∧(playLack sg i P no).revoked=P.revoked:=by
  unfold playLack
  cases (cD P (mgetD P.shelf.at_ no 0) (nthI sg i)).1 != 0 <;> simp
theorem wY {d:Document} {Q:eW} {y:Int} {P:List (Int×List Int)} {i:Nat} (h:∀ k,(mgetD Q.revoked k []).length≤(mgetD P k []).length+i):∀ k,(mgetD (playRevoke d Q y).revoked k []).length≤(mgetD P k []).length+(i+1):=fun k=>by
 show (mgetD (mput Q.revoked y (mgetD Q.revoked y []++[d.No])) k []).length≤_
 rw [wh]
 split
 ·next hk=>subst hk;have:=h k;simp only [List.length_append,List.length_cons,List.length_nil];omega
 have:=h k;omega
theorem oZ (h:HF) (l:List Document) (e8:Option Addr) (eZ:Nat) (signed:List Int) (ec:Option Addr) (dZ:Nat) (cv:Int) (hl:SlC Document.rp h e8 eZ l) (hsigned:SlC Rp.int h ec dZ signed)
  (hck:aX l=0) (hsg:signed.length=l.length) (hln:l.length < 20):
  jN prog 126 [.slice e8 l.length eZ,.slice ec signed.length dZ,.int .i64 cv] h (fun v h'=>∃ (rq0:Addr) (rr0:qn),v=.pointer (some rq0)∧eW.ok h' (co l signed cv) rr0∧At h' rq0 (eW.cells (co l signed cv) rr0)):=by
 refine cz func126 U ntmps126 U fun X hM hX=>?_
 refine aR (ay (cA (fun b4=>cK (aD ?_))))
 refine eI 0 U hM (fun h1 l1 f4=>?_)
 have a4:=ct f4
 show TT _ _ _ _ _ _ _ _ h1 []
 have J0:∀ {L:LH},Jst h1 [] h1 L:=fJ (List.nil_sublist _)
 refine aR (eQ [] mixed (by kernel_rfl) J0 (fun hsep _=>?_))
 refine dX 0 hsep J0 U U (by kernel_rfl) U (fun _ _ _=>jE) (dX 2 hsep J0 U U (by kernel_rfl) U (fun _ _ hj=>eV ty31 (a4.mono hj.1) U) (dX 3 hsep J0 U U (by kernel_rfl) U (fun _ _ _=>jE) ?_))
 refine dX 4 hsep J0 U U (by kernel_rfl) U (fun _ _ _=>E4 oL U) (dX 6 hsep J0 U U (by kernel_rfl) U (fun _ _ _=>jE) (dX 7 hsep J0 U U (by kernel_rfl) U (fun _ _ _=>E4 oL U) ?_))
 refine Mg (σ:=Bool×Bool×Bool×Bool×Bool×Bool×Bool) 1 (fun s e2 h2 L2=>PlI h1 l e8 eZ signed ec dZ cv ⟨b4,0,none⟩ s.1 s.2.1 s.2.2.1 s.2.2.2.1 s.2.2.2.2.1 s.2.2.2.2.2.1 s.2.2.2.2.2.2 e2 h2 L2)
  (fun s=>plM s.1 s.2.1 s.2.2.1 s.2.2.2.1 s.2.2.2.2.1 s.2.2.2.2.2.1 s.2.2.2.2.2.2) (fun s=>plD s.1 s.2.1 s.2.2.1 s.2.2.2.1 s.2.2.2.2.1 s.2.2.2.2.2.1 s.2.2.2.2.2.2) ?_ ?_ 7 (false,false,false,false,false,false,false) _ _ _ rfl
  ⟨rfl,HF.le_refl _,⟨rfl,rfl,rfl,rfl,rfl,rfl⟩,⟨none,0,0⟩,0,0,0,0,0,fun h=>(by cases h),fun h=>(by cases h),fun h=>(by cases h),fun h=>(by cases h),fun h=>(by cases h),fun h=>(by cases h),fun h=>(by cases h),List.Perm.refl _⟩
 ·rintro ⟨a,b,c,d,f,g,t⟩ e2 h2 L2 hI hμ
  obtain ⟨e1,e2',e3,e4,e5,e6,e7⟩:=J7 hμ
  dsimp only at e1 e2' e3 e4 e5 e6 e7
  subst e1 e2' e3 e4 e5 e6 e7
  obtain ⟨_,hle,⟨k2,k4,_,_,_,_⟩,sr,b5,b8,br,b12,b11,x1,_,_,_,x12,_,x11,hL⟩:=hI
  obtain ⟨_,oks⟩:=x1 rfl
  have k7:=x12 rfl
  have k27:=x11 rfl
  clear x1 x12 x11
  dsimp only at k7 k27 oks hL k2 k4
  have J2:∀ {L:LH},Jst h1 [] h2 L:=⟨hle,fun _ hp=>(List.not_mem_nil hp).elim⟩
  refine mF 13 (by kernel_rfl) U (AE hL (DO [(7,.pointer (some ⟨b12,0,none⟩)),(27,.pointer (some ⟨b11,0,none⟩))] ⟨k7,k27,trivial⟩ (jX 1 (off:=0) (vs:=[.pointer (some ⟨b11,0,none⟩)]) ty211 U U U U (by rfl) U ⟨J2,aW (by kernel_rfl) ?_⟩)))
  refine Mf [(2,.int .i64 cv),(4,.pointer (some ⟨b4,0,none⟩)),(7,.pointer (some ⟨b12,0,none⟩))] ⟨k2,k4,U,trivial⟩ ?_
  refine eI 1 U hM (fun h3 l3 f12=>eI 0 U hM (fun h4 l4 f11=>?_))
  have A7:=(ct f12).mono l4
  have A11:=ct f11
  have l24:h2.le h4:=HF.le_trans l3 l4
  have l04:h.le h4:=HF.le_trans l1 (HF.le_trans hle l24)
  replace oks:=oks.mono l24
  replace a4:=a4.mono (HF.le_trans hle l24)
  clear f12 f11 l3 l4 J2 J0 hL k2 k4 k7 k27
  refine mp (L':=plB b5 b8 br (playP l signed) (.map #[] 0) []) (by
   have h9:plB b5 b8 br (playP l signed) (.map #[] 0) []=[(b5,.cells (List.replicate l.length (.bool false)).toArray 4 (0,0)),(b8,.cells (List.replicate l.length (.int .i64 0)).toArray 3 (0,0)),(br,.map #[] 0)]:=by simp [plB,playP,List.map_replicate]
   rw [h9]
   exact List.reverse_perm [(b5,Obj.cells (List.replicate l.length (.bool false)).toArray 4 (0,0)),(b8,.cells (List.replicate l.length (.int .i64 0)).toArray 3 (0,0)),(br,.map #[] 0)]) ?_
  have hl4:=hl.mono Document.ao l04
  have hs4:=hsigned.mono Rp.aY l04
  refine aR (aR (ay (dF ty211 A7 U (aj ?_))))
  refine aF (cY call215 (qi h4 (playP l signed) (playR l.length sr ec dZ b5 b8 br) ⟨b11,0,none⟩ cv ⟨hs4⟩ A11 (by show signed.length < 20;omega)) U (fun v5 h5 l5 hp=>?_))
  obtain ⟨rv,rfl,hit⟩:=hp
  refine aD (ie (dY ?_))
  have hord:=EQ (playP l signed) cv
  have hordl:=EP (playP l signed) cv
  have hsl:(playP l signed).signed.length=l.length:=hsg
  replace a4:=a4.mono l5
  replace A7:=A7.mono l5
  replace A11:=A11.mono l5
  replace hl4:=hl4.mono Document.ao l5
  replace hs4:=hs4.mono Rp.aY l5
  replace oks:=oks.mono l5
  have hdr:=DA hck
  refine jw (it:=v5) (xs:=bN (playP l signed) cv) (ι:=eW×Obj×List (Int×Option Addr×Nat×Nat)×LH×HF) [] (fun i=>i.2.2.2.2) (fun i=>plB b5 b8 br i.1 i.2.1 i.2.2.2.1)
   (fun rest i=>rest.foldl playStep i.1=co l signed cv∧i.1.shelf=aC l∧i.1.signed=signed∧tb i.2.2.2.2 l.length b5 b8 br i.1 i.2.1 i.2.2.1 i.2.2.2.1∧h5.le i.2.2.2.2∧(∀ x∈rest,0≤x∧x < (l.length:Int))∧(∀ k,(mgetD i.1.revoked k []).length+16 * rest.length≤320))
   (fun _=>False) (fun _=>False) 0 (fun _ _ _=>False) (playP l signed,.map #[] 0,[],[],h5) func126 rfl hit rfl yX (fun _ _ _ _ _ hq=>hq) rfl rfl
   ⟨rfl,rfl,rfl,⟨by simp [playP],by simp [playP],iL.nil,rfl⟩,HF.le_refl _,fun x hx=>hsl ▸ hord x hx,fun k=>by show 0+16 * _≤320;omega⟩ ?_ ?_ (fun _ _ _ hF=>hF.elim) (fun _ _ _ hF=>hF.elim) (fun _ _ _ _ hF=>hF.elim)
  ·rintro wD r1 lp1 x rest vs1 ⟨P,om,m3,Gf,hh⟩ h7 X' FR ⟨hfold,hsh,hsgd,hown,h5h,hin,hcnt⟩ h57 hh7 hv hX' hXM hlp nx rt ex pn
   dsimp only at hfold hsh hsgd hown h5h hin hcnt hh7
   obtain rfl:=hv
   have hPl:P.signed.length=l.length:=by rw [hsgd];exact hsg
   have hD:=Cz l
   have hx0:=hin x (List.mem_cons_self ..)
   have hx:0≤x∧x < ((aC l).docs.length:Int):=by rw [hD];exact hx0
   have hxn:x.toNat < l.length:=by omega
   replace hown:=hown.mono hh7
   have oks7:=oks.mono h57
   have A7':=A7.mono h57
   have A11':=A11.mono h57
   have a4':=a4.mono h57
   have hs7:=hs4.mono Rp.aY h57
   have hpd:=hown.done
   have hpl:=hown.lacks
   clear hh7
   refine ay (aV zc3 (fun bi=>cJ 0 ty3 U U U U U U (aD ?_)))
   refine jh 1 U hlp (ie ?_)
   refine cu (L':=[(bi,.cells (List.toArray [.int .i64 x]) 3 (0,0)),(wD,.loop { lp1 with state:=.busy }),(r1,.deferred (some []))]++plB b5 b8 br P om Gf) (show [(bi,Obj.cells (List.toArray [Value.int .i64 x]) 3 (0,0)),(wD,.loop { lp1 with state:=.busy }),(r1,.deferred (some []))]++(plB b5 b8 br P om Gf++markB [])=_ from by simp [markB]) ?_
   have JI:∀ {A:LH},Jst h7 [(bi,.cells (List.toArray [.int .i64 x]) 3 (0,0))] h7 ((bi,.cells (List.toArray [.int .i64 x]) 3 (0,0))::A):=fJ (.cons_cons _ (List.nil_sublist _))
   have JI2:∀ {A:LH} {p:Nat×Obj},Jst h7 [(bi,.cells (List.toArray [.int .i64 x]) 3 (0,0))] h7 (p::(bi,.cells (List.toArray [.int .i64 x]) 3 (0,0))::A):=fJ (.cons _ (.cons_cons _ (List.nil_sublist _)))
   refine aR (eQ [(bi,.cells (List.toArray [.int .i64 x]) 3 (0,0))] mixed (by kernel_rfl) JI (fun hs4 _=>?_))
   refine dX 0 hs4 JI U U (by kernel_rfl) U (fun _ _ hj=>eV ty211 (A7'.mono hj.1) U) (dX 1 hs4 JI U U (by kernel_rfl) U (fun _ _ _=>fF U) (dX 2 hs4 JI U U (by kernel_rfl) U (fun _ _ _=>jS FN U) (dX 3 hs4 JI U U (by kernel_rfl) U (fun _ _ _=>jS KA U) ?_)))
   refine dX 4 hs4 JI U U (by kernel_rfl) U (fun _ _ hj=>eV ty27 (A11'.mono hj.1) U) (dX 5 hs4 JI U U (by kernel_rfl) U (fun _ _ hj=>fH ty3 U (hj.nth (i:=0) U) U) ?_)
   refine ji 6 hs4 JI oL ty51 oks7.docs.1 hx (dU hx) U U U U (by kernel_rfl) (fun q1 cs1 B1 ln1 rr1=>?_)
   obtain ⟨dr,rfl,okd⟩:=rr1
   refine dX 7 hs4 JI U U (by kernel_rfl) U (fun _ _ hj=>j9 ty51 (B1.mono hj.1) U U) ?_
   refine mF 8 (by kernel_rfl) U (su zc51 (fun bd=>⟨JI2,?_⟩))
   refine mF 9 (by kernel_rfl) U (nj 0 ty51 U U U U U U ⟨JI2,aW (by kernel_rfl) ?_⟩)
   generalize hdd:nthI (aC l).docs x=d at okd B1
   have hdP:nthI P.shelf.docs x=d:=by rw [hsh];exact hdd
   have hdl:d∈l:=by have h9:=mL hx;rw [hdd,hD] at h9;exact h9
   have hgd:=hdr d hdl
   show TT _ _ _ _ _ _ _ _ h7 ([(bd,.cells (Document.cells d dr).toArray 51 (0,0)),(bi,.cells (List.toArray [.int .i64 x]) 3 (0,0)),(wD,.loop { lp1 with state:=.busy }),(r1,.deferred (some []))]++plB b5 b8 br P om Gf)
   have JD:∀ {A:LH},Jst h7 [(bd,.cells (Document.cells d dr).toArray 51 (0,0)),(bi,.cells (List.toArray [.int .i64 x]) 3 (0,0))] h7 ((bd,.cells (Document.cells d dr).toArray 51 (0,0))::(bi,.cells (List.toArray [.int .i64 x]) 3 (0,0))::A):=fJ (.cons_cons _ (.cons_cons _ (List.nil_sublist _)))
   refine aR (eQ [(bd,.cells (Document.cells d dr).toArray 51 (0,0)),(bi,.cells (List.toArray [.int .i64 x]) 3 (0,0))] mixed (by kernel_rfl) JD (fun hs5 _=>?_))
   refine dX 0 hs5 JD U U (by kernel_rfl) U (fun _ _ hj=>eV ty211 (A7'.mono hj.1) U) (dX 1 hs5 JD U U (by kernel_rfl) U (fun _ _ _=>fF U) (dX 2 hs5 JD U U (by kernel_rfl) U (fun _ _ _=>jS BQ U) ?_))
   refine dX 3 hs5 JD U U (by kernel_rfl) U (fun _ _ hj=>jK 4 ty31 (A11'.mono hj.1) U U) (dX 4 hs5 JD U U (by kernel_rfl) U (fun _ _ hj=>fH ty3 U (hj.nth (i:=1) U) U) ?_)
   refine dX 5 hs5 JD U U (by kernel_rfl) U (fun _ _ _=>oO (R:=Rp.int) (xs:=P.lacks) (bk:=b8) (z:=x) fa ty3 U (by omega) U (by simp [playP,hpl]) U) ?_
   refine mF 6 (by kernel_rfl) U (jX 5 (off:=x.toNat * 1) (vs:=[.int .i64 (-1)]) ty3 U U U U (Nat.ble_eq_true_of_le (by simp only [List.length_map,List.length_cons,List.length_nil];omega)) U ⟨JD,aW (by kernel_rfl) ?_⟩)
   refine cu (L':=[(bd,.cells (Document.cells d dr).toArray 51 (0,0)),(bi,.cells (List.toArray [.int .i64 x]) 3 (0,0)),(wD,.loop { lp1 with state:=.busy }),(r1,.deferred (some []))]++plB b5 b8 br { P with lacks:=P.lacks.set x.toNat (-1) } om Gf) (by rw [vT (Value.int .i64)];rfl) ?_
   have own1:tb h7 l.length b5 b8 br { P with lacks:=P.lacks.set x.toNat (-1) } om m3 Gf:=⟨hpd,by simpa using hpl,hown.map,hown.rev⟩
   refine aR (aR (ay (fX Ef U (kl 0 ty31 U U U ?_))))
   refine aF (cY call216 (sq h7 d.Needs _ _ okd.Needs) U (fun v8 h8 l8 hp8=>?_))
   obtain ⟨rv8,rfl,hit8⟩:=hp8
   refine aD (ie ?_)
   refine Ig (it:=v8) (xs:=iI d.Needs) 2 U (fun done h' L'=>h8.le h'∧tb h' l.length b5 b8 br (done.foldl (fun q (z:Int×Int)=>playLack P.signed x q z.2) { P with lacks:=P.lacks.set x.toNat (-1) }) om m3 Gf∧L'=[(bd,.cells (Document.cells d dr).toArray 51 (0,0)),(bi,.cells (List.toArray [.int .i64 x]) 3 (0,0)),(wD,.loop { lp1 with state:=.busy }),(r1,.deferred (some []))]++plB b5 b8 br (done.foldl (fun q (z:Int×Int)=>playLack P.signed x q z.2) { P with lacks:=P.lacks.set x.toNat (-1) }) om Gf)
    rfl hit8 rfl zH (fun _ _ _ _ hl ⟨a,b,c⟩=>⟨HF.le_trans a hl,b.mono hl,c⟩) ⟨HF.le_refl _,own1.mono l8,rfl⟩ ?_ ?_
   ·rintro l2 lp2 done z rest2 vs2 h9 L9 X9 hxs h89 ⟨h89',own2,rfl⟩ hv2 hlp2 hX9 hXM9
    obtain rfl:=hv2
    obtain ⟨Pm,hPm⟩:∃ Pm,Pm=done.foldl (fun q (z:Int×Int)=>playLack P.signed x q z.2) { P with lacks:=P.lacks.set x.toNat (-1) }:=⟨_,rfl⟩
    have hPs:Pm.shelf=aC l∧Pm.signed=signed:=by
     rw [hPm]
     have:∀ (s:List (Int×Int)) (Q:eW),Q.shelf=aC l∧Q.signed=signed→(s.foldl (fun q (z:Int×Int)=>playLack P.signed x q z.2) Q).shelf=aC l∧(s.foldl (fun q (z:Int×Int)=>playLack P.signed x q z.2) Q).signed=signed:=by
      intro s
      induction s with
      | nil=>intro Q h;exact h
      | cons y s ih=>intro Q h;obtain ⟨a1,a2,_⟩:=uf P.signed x y.2 Q;exact ih _ ⟨a1.trans h.1,a2.trans h.2⟩
     exact this _ _ ⟨hsh,hsgd⟩
    rw [← hPm] at own2
    have l79:h7.le h9:=HF.le_trans l8 h89
    have JK:∀ {A:LH} {p q:Nat×Obj},Jst h9 [(bi,.cells (List.toArray [.int .i64 x]) 3 (0,0))] h9 (p::q::(bi,.cells (List.toArray [.int .i64 x]) 3 (0,0))::A):=fJ (.cons _ (.cons _ (.cons_cons _ (List.nil_sublist _))))
    refine ay (cK (aD ?_))
    refine jh 0 U hlp2 (ie ?_)
    rw [← hPm]
    refine cu (L':=[(l2,.loop { lp2 with state:=.busy }),(bd,.cells (Document.cells d dr).toArray 51 (0,0)),(bi,.cells (List.toArray [.int .i64 x]) 3 (0,0)),(wD,.loop { lp1 with state:=.busy }),(r1,.deferred (some []))]++plB b5 b8 br Pm om Gf) U ?_
    refine aR (eQ [(bi,.cells (List.toArray [.int .i64 x]) 3 (0,0))] mixed (by kernel_rfl) JK (fun hs8 _=>?_))
    refine dX 0 hs8 JK U U (by kernel_rfl) U (fun _ _ hj=>eV ty211 ((A7'.mono l79).mono hj.1) U) (dX 1 hs8 JK U U (by kernel_rfl) U (fun _ _ hj=>eV ty211 ((A7'.mono l79).mono hj.1) U) (dX 2 hs8 JK U U (by kernel_rfl) U (fun _ _ _=>fF U) ?_))
    refine dX 3 hs8 JK U U (by kernel_rfl) U (fun _ _ _=>jS FN U) (dX 4 hs8 JK U U (by kernel_rfl) U (fun _ _ _=>jS Kz U) (dX 5 hs8 JK U U (by kernel_rfl) U (fun _ _ hj=>jK 1 ty190 ((A11'.mono l79).mono hj.1) U U) ?_))
    refine dX 6 hs8 JK U U (by kernel_rfl) U (fun _ _ _=>jE) (dX 8 hs8 JK U U (by kernel_rfl) U (fun _ _ hj=>eV ty31 ((a4'.mono l79).mono hj.1) U) (dX 9 hs8 JK U U (by kernel_rfl) U (fun _ _ hj=>fH ty3 U (hj.nth (i:=0) U) U) ?_))
    have hxs:0≤x∧x < (signed.length:Int):=by omega
    refine fW 10 (enc:=fun y=>[.int .i64 y]) hs8 JK (fun _ _ _ e=>e) fa ty3 (hs7.mono Rp.aY l79).1 hxs (dU hxs) U U U U (by kernel_rfl) (fun q3 B3=>?_)
    refine dX 11 hs8 JK U U (by kernel_rfl) U (fun _ _ hj=>eV ty3 (B3.mono hj.1) U) ?_
    obtain ⟨mo,hmb,hmm⟩:=(oks7.mono l79).at_
    refine mF 7 (by kernel_rfl) U (mt (k:=z.2) wH (eY lS) hmb hmm (eG zv3) (show sM _ (.int .i64 0) 0 from U) U U (fun v hv=>?_))
    obtain rfl:=hv
    refine ⟨JK,?_⟩
    have hat:=Fc l (by omega) z.2
    refine mF 12 (by kernel_rfl) U (JT (v:=.tuple #[.int .i64 (cD Pm (mgetD (aC l).at_ z.2 0) (nthI signed x)).1,.int .i64 (cD Pm (mgetD (aC l).at_ z.2 0) (nthI signed x)).2]) call127 (fun hz lz hall=>kU hz Pm (playR l.length sr ec dZ b5 b8 br) ⟨b11,0,none⟩ (mgetD (aC l).at_ z.2 0) (nthI signed x)
     (own2.lent hln (hPs.1 ▸ oks7.mono l79) (hPs.2 ▸ hs7.mono Rp.aY l79) lz (fun p hp=>hall p (by simp only [List.mem_append,List.mem_cons];exact .inr hp))) (by rw [Bc hPs.1 hPs.2 own2.done own2.lacks];exact (A11'.mono l79).mono lz) (by rw [hPs.1,hD];exact hat) (by rw [hPs.1,hD];exact ⟨own2.done,own2.lacks⟩)) rfl ⟨JK,?_⟩)
    refine dX 13 hs8 JK U U (by kernel_rfl) U (fun _ _ _=>jE) (dX 14 hs8 JK U U (by kernel_rfl) U (fun _ _ _=>uN U U) (dX 15 hs8 JK U U (by kernel_rfl) U (fun _ _ _=>uN U U) ?_))
    refine dX 16 hs8 JK U U (by kernel_rfl) U (fun _ _ _=>ua) (dX 17 hs8 JK U U (by kernel_rfl) U (fun _ _ _=>ua) (aW (by kernel_rfl) ?_))
    refine aR (ay (aj (Bg U (aD ?_))))
    have hlk:playLack P.signed x Pm z.2=bif (cD Pm (mgetD (aC l).at_ z.2 0) (nthI signed x)).1 != 0 then { Pm with lacks:=Pm.lacks.set x.toNat z.2 } else Pm:=by
     unfold playLack;rw [hPs.1,hsgd]
    have hnx:(done++[z]).foldl (fun q (z:Int×Int)=>playLack P.signed x q z.2) { P with lacks:=P.lacks.set x.toNat (-1) }=playLack P.signed x Pm z.2:=by rw [List.foldl_append,hPm];rfl
    refine jG U (fun c1=>?_) (fun c1=>aJ (da ?_))
    ·refine eQ [(bi,.cells (List.toArray [.int .i64 x]) 3 (0,0))] mixed (by kernel_rfl) JK (fun hs9 _=>?_)
     refine dX 0 hs9 JK U U (by kernel_rfl) U (fun _ _ hj=>eV ty211 ((A7'.mono l79).mono hj.1) U) (dX 1 hs9 JK U U (by kernel_rfl) U (fun _ _ _=>fF U) (dX 2 hs9 JK U U (by kernel_rfl) U (fun _ _ _=>jS BQ U) ?_))
     refine dX 3 hs9 JK U U (by kernel_rfl) U (fun _ _ hj=>jK 4 ty31 ((A11'.mono l79).mono hj.1) U U) (dX 4 hs9 JK U U (by kernel_rfl) U (fun _ _ hj=>fH ty3 U (hj.nth (i:=0) U) U) (dX 5 hs9 JK U U (by kernel_rfl) U (fun _ _ _=>jE) ?_))
     have hml:=own2.lacks
     refine dX 6 hs9 JK U U (by kernel_rfl) U (fun _ _ _=>oO (R:=Rp.int) (xs:=Pm.lacks) (bk:=b8) (z:=x) fa ty3 U (by omega) U (by simp [playP,hml]) U) ?_
     refine mF 7 (by kernel_rfl) U (jX 6 (off:=x.toNat * 1) (vs:=[.int .i64 z.2]) ty3 U U U U (Nat.ble_eq_true_of_le (by simp only [List.length_map,List.length_cons,List.length_nil];omega)) U ⟨JK,aW (by kernel_rfl) (da ?_)⟩)
     rw [c1,cond_true] at hlk
     refine cu (L':=(l2,.loop { lp2 with state:=.busy })::([(bd,.cells (Document.cells d dr).toArray 51 (0,0)),(bi,.cells (List.toArray [.int .i64 x]) 3 (0,0)),(wD,.loop { lp1 with state:=.busy }),(r1,.deferred (some []))]++plB b5 b8 br { Pm with lacks:=Pm.lacks.set x.toNat z.2 } om Gf)) (by rw [vT (Value.int .i64)];rfl) ?_
     refine Ht U ⟨h89',?_,?_⟩
     ·rw [hnx,hlk];exact ⟨own2.done,by simpa using hml,own2.map,own2.rev⟩
     rw [hnx,hlk]
    rw [c1,cond_false] at hlk
    refine Ht U ⟨h89',?_,?_⟩
    ·rw [hnx,hlk];exact own2
    rw [hnx,hlk];rfl
   rintro h9 L9 h89 ⟨h89',own2,rfl⟩
   obtain ⟨Pm,hPm⟩:∃ Pm,Pm=(iI d.Needs).foldl (fun q (z:Int×Int)=>playLack P.signed x q z.2) { P with lacks:=P.lacks.set x.toNat (-1) }:=⟨_,rfl⟩
   rw [← hPm] at own2
   rw [← hPm]
   have hPs:Pm.shelf=aC l∧Pm.signed=signed∧Pm.revoked=P.revoked:=by
    rw [hPm]
    have:∀ (s:List (Int×Int)) (Q:eW),Q.shelf=aC l∧Q.signed=signed∧Q.revoked=P.revoked→(s.foldl (fun q (z:Int×Int)=>playLack P.signed x q z.2) Q).shelf=aC l∧(s.foldl (fun q (z:Int×Int)=>playLack P.signed x q z.2) Q).signed=signed∧(s.foldl (fun q (z:Int×Int)=>playLack P.signed x q z.2) Q).revoked=P.revoked:=by
     intro s
     induction s with
     | nil=>intro Q h;exact h
     | cons y s ih=>intro Q h;obtain ⟨a1,a2,_,_,a5⟩:=uf P.signed x y.2 Q;exact ih _ ⟨a1.trans h.1,a2.trans h.2.1,a5.trans h.2.2⟩
    exact this _ _ ⟨hsh,hsgd,U⟩
   have hmid:playMid P x=Pm:=by unfold playMid;rw [hdP];exact hPm.symm
   have hstep:playStep P x=bif decide (nthI Pm.lacks x < 0) then d.Revokes.foldl (playRevoke d) (playDone Pm x) else playDone Pm x:=by
    unfold playStep;rw [hmid,hdP]
   have l79:h7.le h9:=HF.le_trans l8 h89
   have hmd:=own2.done
   have hml:=own2.lacks
   have JN:∀ {A:LH},Jst h9 [(bd,.cells (Document.cells d dr).toArray 51 (0,0)),(bi,.cells (List.toArray [.int .i64 x]) 3 (0,0))] h9 ((bd,.cells (Document.cells d dr).toArray 51 (0,0))::(bi,.cells (List.toArray [.int .i64 x]) 3 (0,0))::A):=fJ (.cons_cons _ (.cons_cons _ (List.nil_sublist _)))
   refine da (aR (eQ [(bd,.cells (Document.cells d dr).toArray 51 (0,0)),(bi,.cells (List.toArray [.int .i64 x]) 3 (0,0))] mixed (by kernel_rfl) JN (fun hs11 _=>?_)))
   refine dX 0 hs11 JN U U (by kernel_rfl) U (fun _ _ hj=>eV ty211 ((A7'.mono l79).mono hj.1) U) (dX 1 hs11 JN U U (by kernel_rfl) U (fun _ _ _=>fF U) (dX 2 hs11 JN U U (by kernel_rfl) U (fun _ _ _=>jS Kx U) ?_))
   refine dX 3 hs11 JN U U (by kernel_rfl) U (fun _ _ hj=>jK 3 ty57 ((A11'.mono l79).mono hj.1) U U) (dX 4 hs11 JN U U (by kernel_rfl) U (fun _ _ hj=>fH ty3 U (hj.nth (i:=1) U) U) ?_)
   refine dX 5 hs11 JN U U (by kernel_rfl) U (fun _ _ _=>oO (R:=Rp.bool) (xs:=Pm.done) (bk:=b5) (z:=x) CY ty4 U (by omega) U (by simp [playP,hmd]) U) ?_
   refine mF 6 (by kernel_rfl) U (jX 4 (off:=x.toNat * 1) (vs:=[.bool true]) ty4 U U U U (Nat.ble_eq_true_of_le (by simp only [List.length_map,List.length_cons,List.length_nil];omega)) U ⟨JN,aW (by kernel_rfl) ?_⟩)
   refine cu (L':=[(bd,.cells (Document.cells d dr).toArray 51 (0,0)),(bi,.cells (List.toArray [.int .i64 x]) 3 (0,0)),(wD,.loop { lp1 with state:=.busy }),(r1,.deferred (some []))]++plB b5 b8 br (playDone Pm x) om Gf) (by rw [vT Value.bool];rfl) ?_
   have own3:tb h9 l.length b5 b8 br (playDone Pm x) om m3 Gf:=⟨by simpa [playDone] using hmd,hml,own2.map,own2.rev⟩
   have JB:∀ {A:LH},Jst h9 [(bi,.cells (List.toArray [.int .i64 x]) 3 (0,0)),(b8,.cells (Pm.lacks.map (Value.int .i64)).toArray 3 (0,0))] h9 ([(bd,.cells (Document.cells d dr).toArray 51 (0,0)),(bi,.cells (List.toArray [.int .i64 x]) 3 (0,0)),(wD,.loop { lp1 with state:=.busy }),(r1,.deferred (some []))]++plB b5 b8 br (playDone Pm x) om A):=⟨HF.le_refl _,fun p hp=>by
    simp only [List.mem_cons,List.not_mem_nil,or_false] at hp
    rcases hp with rfl | rfl <;> simp [plB,playDone]⟩
   refine aR (eQ [(bi,.cells (List.toArray [.int .i64 x]) 3 (0,0)),(b8,.cells (Pm.lacks.map (Value.int .i64)).toArray 3 (0,0))] mixed (by kernel_rfl) JB (fun hs12 _=>?_))
   refine dX 0 hs12 JB U U (by kernel_rfl) U (fun _ _ hj=>eV ty211 ((A7'.mono l79).mono hj.1) U) (dX 1 hs12 JB U U (by kernel_rfl) U (fun _ _ _=>fF U) (dX 2 hs12 JB U U (by kernel_rfl) U (fun _ _ _=>jS BQ U) ?_))
   refine dX 3 hs12 JB U U (by kernel_rfl) U (fun _ _ hj=>jK 4 ty31 ((A11'.mono l79).mono hj.1) U U) (dX 4 hs12 JB U U (by kernel_rfl) U (fun _ _ hj=>fH ty3 U (hj.nth (i:=0) U) U) ?_)
   refine dX 5 hs12 JB U U (by kernel_rfl) U (fun _ _ _=>oO (R:=Rp.int) (xs:=Pm.lacks) (bk:=b8) (z:=x) fa ty3 U (by omega) U (by simp [playP,hml]) U) ?_
   have hlx:(Pm.lacks.map (Value.int .i64))[x.toNat * 1]? = some (.int .i64 (nthI Pm.lacks x)):=by
    rw [Nat.mul_one,List.getElem?_map,dU (by omega)];rfl
   refine dX 6 hs12 JB U U (by kernel_rfl) U (fun _ _ hj=>fH ty3 U (hj.nth (i:=1) U) (by rw [gP];exact hlx)) (dX 7 hs12 JB U U (by kernel_rfl) U (fun _ _ _=>J5 U) (aW (by kernel_rfl) ?_))
   have hin':∀ y∈rest,0≤y∧y < (l.length:Int):=fun y hy=>hin y (List.mem_cons_of_mem _ hy)
   have h59:h5.le h9:=HF.le_trans h57 l79
   refine jG U (fun c1=>?_) (fun c1=>aJ (da ?_))
   ·rw [c1,cond_true] at hstep
    have hrl:=hgd.revokes.2
    refine aR (ay (fX LE U (kl 0 ty31 U U U (Bf fa U (aj (aD ?_))))))
    have hfin:∀ (Q:eW) (oQ:Obj) (mQ:List (Int×Option Addr×Nat×Nat)) (GQ:LH) (e':Env),Q=d.Revokes.foldl (playRevoke d) (playDone Pm x)→tb h9 l.length b5 b8 br Q oQ mQ GQ→Q.shelf=aC l→Q.signed=signed→(∀ k,(mgetD Q.revoked k []).length≤(mgetD P.revoked k []).length+d.Revokes.length) →
      TT prog (roundFrame wD 126) 114 [.inBlock 1] FR e' [] X' h9 ([(bd,.cells (Document.cells d dr).toArray 51 (0,0)),(bi,.cells (List.toArray [.int .i64 x]) 3 (0,0)),(wD,.loop { lp1 with state:=.busy }),(r1,.deferred (some []))]++plB b5 b8 br Q oQ GQ):=by
     intro Q oQ mQ GQ e' hQ ownQ hQs hQg hQc
     refine da ?_
     refine bB (L':=[(wD,.loop { lp1 with state:=.busy }),(r1,.deferred (some []))]++plB b5 b8 br Q oQ GQ) (.cons _ (.cons _ (List.Sublist.refl _))) ?_
     refine cu (L':=rdH wD r1 lp1 (plB b5 b8 br Q oQ GQ++markB [])) (by simp [markB,rdH]) ?_
     refine nx (Q,oQ,mQ,GQ,h9) _ _ ⟨?_,hQs,hQg,ownQ,h59,hin',fun k=>?_⟩ lf
     ·rw [← hfold,List.foldl_cons,hstep,hQ]
     have h1':=hcnt k
     have h2':=hQc k
     simp only [List.length_cons] at h1'
     show (mgetD Q.revoked k []).length+16 * rest.length≤320
     omega
    refine jx (ι:=eW×Obj×List (Int×Option Addr×Nat×Nat)×LH) (fun i=>[]) (fun i=>h9) (fun i=>[(bd,.cells (Document.cells d dr).toArray 51 (0,0)),(bi,.cells (List.toArray [.int .i64 x]) 3 (0,0)),(wD,.loop { lp1 with state:=.busy }),(r1,.deferred (some []))]++plB b5 b8 br i.1 i.2.1 i.2.2.2)
     (fun i=>i.1=d.Revokes.foldl (playRevoke d) (playDone Pm x)∧tb h9 l.length b5 b8 br i.1 i.2.1 i.2.2.1 i.2.2.2∧i.1.shelf=aC l∧i.1.signed=signed∧∀ k,(mgetD i.1.revoked k []).length≤(mgetD P.revoked k []).length+d.Revokes.length) ?_ (fun hx4=>?_)
    ·rintro ⟨Q,oQ,mQ,GQ⟩ ⟨q1,q2,q3,q4,q5⟩ e4
     exact hfin Q oQ mQ GQ _ q1 q2 q3 q4 q5
    refine ku (ι:=Nat×eW×Obj×List (Int×Option Addr×Nat×Nat)×LH) (fun i=>[(7,.pointer (some ⟨b12,0,none⟩)),(9,.pointer (some ⟨bd,0,none⟩)),(91,.slice dr.pA d.Revokes.length dr.pz),(92,.int .i64 (d.Revokes.length:Int)),(93,.int .i64 (i.1:Int))]) (fun i=>h9)
     (fun i=>[(bd,.cells (Document.cells d dr).toArray 51 (0,0)),(bi,.cells (List.toArray [.int .i64 x]) 3 (0,0)),(wD,.loop { lp1 with state:=.busy }),(r1,.deferred (some []))]++plB b5 b8 br i.2.1 i.2.2.1 i.2.2.2.2)
     (fun i=>(d.Revokes.drop i.1).foldl (playRevoke d) i.2.1=d.Revokes.foldl (playRevoke d) (playDone Pm x)∧i.1≤d.Revokes.length∧tb h9 l.length b5 b8 br i.2.1 i.2.2.1 i.2.2.2.1 i.2.2.2.2∧i.2.1.shelf=aC l∧i.2.1.signed=signed∧∀ k,(mgetD i.2.1.revoked k []).length≤(mgetD P.revoked k []).length+i.1)
     (fun i=>d.Revokes.length - i.1) (0,playDone Pm x,om,m3,Gf) ⟨rfl,rfl,rfl,rfl,rfl,trivial⟩ (fun w hw=>hw) ⟨rfl,Nat.zero_le _,own3,hPs.1,hPs.2.1,fun k=>by show (mgetD Pm.revoked k []).length≤_;rw [hPs.2.2];omega⟩ ?_
    rintro ⟨i,Q,oQ,mQ,GQ⟩ ⟨hfQ,hiQ,ownQ,hQs,hQg,hQc⟩ ag e5
    dsimp only at hfQ hiQ ownQ hQs hQg hQc
    show TT _ _ _ _ _ (upds e5 [(7,.pointer (some ⟨b12,0,none⟩)),(9,.pointer (some ⟨bd,0,none⟩)),(91,.slice dr.pA d.Revokes.length dr.pz),(92,.int .i64 (d.Revokes.length:Int)),(93,.int .i64 (i:Int))]) _ _ h9 ([(bd,.cells (Document.cells d dr).toArray 51 (0,0)),(bi,.cells (List.toArray [.int .i64 x]) 3 (0,0)),(wD,.loop { lp1 with state:=.busy }),(r1,.deferred (some []))]++plB b5 b8 br Q oQ GQ)
    rcases Nat.lt_or_ge i d.Revokes.length with hi | hi
    ·have hgi:d.Revokes[i]? = some d.Revokes[i]:=List.getElem?_eq_getElem hi
     obtain ⟨y,hy⟩:∃ y,d.Revokes[i]=y:=⟨_,rfl⟩
     rw [hy] at hgi
     have hdrop:d.Revokes.drop i=y::d.Revokes.drop (i+1):=by rw [List.drop_eq_getElem_cons hi,hy]
     rw [hdrop,List.foldl_cons] at hfQ
     obtain ⟨gb,gc,G1,G2,hget,hgrow,hperm,hput⟩:=ownQ.rev.get y
     have hcy:=hQc y
     have hcP:=hcnt y
     refine aR (ay (aw (v':=.bool true) U (congrArg Value.bool (decide_eq_true (by omega))) (aD (aR (iq U (aJ ?_))))))
     refine aR (ie (aR (ay (aF (fj (enc:=fun y=>[.int .i64 y]) (fun _ _ _ e=>e) fa ty3 (okd.Revokes.mono Rp.aY l79).1 (nthZ hgi) (ba hgi) U U U (fun q6 B6=>?_))))))
     refine dF ty3 B6 U (cK (aD ?_))
     have JE:∀ {A:LH},Jst h9 [(bd,.cells (Document.cells d dr).toArray 51 (0,0))] h9 ((bd,.cells (Document.cells d dr).toArray 51 (0,0))::A):=fJ (.cons_cons _ (List.nil_sublist _))
     have JE2:∀ {A:LH} {p:Nat×Obj},Jst h9 [(bd,.cells (Document.cells d dr).toArray 51 (0,0))] h9 (p::(bd,.cells (Document.cells d dr).toArray 51 (0,0))::A):=fJ (.cons _ (.cons_cons _ (List.nil_sublist _)))
     refine eQ [(bd,.cells (Document.cells d dr).toArray 51 (0,0))] mixed (by kernel_rfl) JE (fun hs16 _=>?_)
     refine dX 0 hs16 JE U U (by kernel_rfl) U (fun _ _ hj=>eV ty211 ((A7'.mono l79).mono hj.1) U) (dX 1 hs16 JE U U (by kernel_rfl) U (fun _ _ _=>fF U) (dX 2 hs16 JE U U (by kernel_rfl) U (fun _ _ _=>jS FM U) (dX 3 hs16 JE U U (by kernel_rfl) U (fun _ _ hj=>jK 5 ty236 ((A11'.mono l79).mono hj.1) U U) ?_)))
     refine dX 4 hs16 JE U U (by kernel_rfl) U (fun _ _ _=>jE) (dX 5 hs16 JE U U (by kernel_rfl) U (fun _ _ hj=>eV ty211 ((A7'.mono l79).mono hj.1) U) (dX 6 hs16 JE U U (by kernel_rfl) U (fun _ _ _=>fF U) (dX 7 hs16 JE U U (by kernel_rfl) U (fun _ _ _=>jS FM U) (dX 8 hs16 JE U U (by kernel_rfl) U (fun _ _ hj=>jK 5 ty236 ((A11'.mono l79).mono hj.1) U U) ?_))))
     refine dX 9 hs16 JE U U (by kernel_rfl) U (fun _ _ _=>jE) (dX 11 hs16 JE U U (by kernel_rfl) U (fun _ _ _=>jS HV U) (dX 12 hs16 JE U U (by kernel_rfl) U (fun _ _ hj=>fH ty3 U (hj.nth (i:=0) U) U) ?_))
     refine mT 10 13 (by kernel_rfl) U U ?_ ?_
     ·refine mJ 6 (k:=y) Ex (eY lS) U ownQ.map (eG zv31) (show V3i _ (.slice none 0 0) (none,0,0) from U) U U (fun v hv=>?_)
      rw [hget] at hv
      obtain rfl:=hv
      refine ⟨JE,?_⟩
      refine mF 13 (by kernel_rfl) U (bV (cells:=[.int .i64 d.No]) fa ty3 zc3 U U (by kernel_rfl) (fun bn=>⟨JE2,?_⟩))
      refine mF 14 (by kernel_rfl) U (AE (List.Perm.append_left ([(bn,.cells (List.toArray [.int .i64 d.No]) 3 (0,0)),(bd,.cells (Document.cells d dr).toArray 51 (0,0)),(bi,.cells (List.toArray [.int .i64 x]) 3 (0,0)),(wD,.loop { lp1 with state:=.busy }),(r1,.deferred (some [])),(b5,.cells (Q.done.map Value.bool).toArray 4 (0,0)),(b8,.cells (Q.lacks.map (Value.int .i64)).toArray 3 (0,0)),(br,oQ)]:LH) hperm) ?_)
      refine eR Rp.kR [(bn,.cells (List.toArray [.int .i64 d.No]) 3 (0,0)),(bd,.cells (Document.cells d dr).toArray 51 (0,0)),(bi,.cells (List.toArray [.int .i64 x]) 3 (0,0)),(wD,.loop { lp1 with state:=.busy }),(r1,.deferred (some [])),(b5,.cells (Q.done.map Value.bool).toArray 4 (0,0)),(b8,.cells (Q.lacks.map (Value.int .i64)).toArray 3 (0,0)),(br,oQ)] G2 (fun G=>[(bn,.cells (List.toArray [.int .i64 d.No]) 3 (0,0)),(bd,.cells (Document.cells d dr).toArray 51 (0,0)),(bi,.cells (List.toArray [.int .i64 x]) 3 (0,0)),(wD,.loop { lp1 with state:=.busy }),(r1,.deferred (some [])),(b5,.cells (Q.done.map Value.bool).toArray 4 (0,0)),(b8,.cells (Q.lacks.map (Value.int .i64)).toArray 3 (0,0)),(br,oQ)]++(G2++G)) U (fun _=>U) fa ty3 zc3 U bytes3 hgrow U U (fI 0 U (show bu Rp.int h9 [.int .i64 d.No] [d.No] from ⟨[.int .i64 d.No],[],U,U,U,U⟩)) (by simp only [List.length_cons,List.length_nil] at *;omega) (by simp only [List.length_cons,List.length_nil] at *;omega) (fun gb' gc' G1' hG'=>⟨JE2,?_⟩)
      refine mF 15 (by kernel_rfl) U (jJ 7 (k:=y) (x:=(gb',(mgetD Q.revoked y []++[d.No]).length,gc')) Ex (eY lS) U ownQ.map U U U (fun oR hmR=>⟨JE2,aW (by kernel_rfl) ?_⟩))
      obtain ⟨G',hfr',hp'⟩:=hput gb' gc' _ G1' hG'
      refine da (ay (aw (v':=.int .i64 ((i+1:Nat):Int)) U (bw (by omega)) (aj (aD ?_))))
      refine cu (L':=[(bn,.cells (List.toArray [.int .i64 d.No]) 3 (0,0)),(bd,.cells (Document.cells d dr).toArray 51 (0,0)),(bi,.cells (List.toArray [.int .i64 x]) 3 (0,0)),(wD,.loop { lp1 with state:=.busy }),(r1,.deferred (some [])),(b5,.cells (Q.done.map Value.bool).toArray 4 (0,0)),(b8,.cells (Q.lacks.map (fun v=>Value.int .i64 v)).toArray 3 (0,0)),(br,oR)]++(G2++G1')) U ?_
      refine mp (L':=(bn,.cells (List.toArray [.int .i64 d.No]) 3 (0,0))::([(bd,.cells (Document.cells d dr).toArray 51 (0,0)),(bi,.cells (List.toArray [.int .i64 x]) 3 (0,0)),(wD,.loop { lp1 with state:=.busy }),(r1,.deferred (some []))]++plB b5 b8 br (playRevoke d Q y) oR G')) (List.Perm.append_left [_,_,_,_,_,_,_,_] (List.perm_append_comm.trans hp'.symm)) ?_
      refine bB (L':=[(bd,.cells (Document.cells d dr).toArray 51 (0,0)),(bi,.cells (List.toArray [.int .i64 x]) 3 (0,0)),(wD,.loop { lp1 with state:=.busy }),(r1,.deferred (some []))]++plB b5 b8 br (playRevoke d Q y) oR G') (.cons _ (List.Sublist.refl _)) ?_
      exact ag (i+1,playRevoke d Q y,oR,mput mQ y (gb',(mgetD Q.revoked y []++[d.No]).length,gc'),G') _ (by show d.Revokes.length - (i+1) < d.Revokes.length - i;omega) ⟨hfQ,hi,⟨ownQ.done,ownQ.lacks,hmR,hfr'⟩,hQs,hQg,wY hQc⟩ ⟨U,U,U,U,U,trivial⟩
     refine bV (cells:=[.int .i64 d.No]) fa ty3 zc3 U U (by kernel_rfl) (fun bn=>⟨JE2,?_⟩)
     refine mF 10 (by kernel_rfl) U (mJ 7 (k:=y) Ex (eY lS) U ownQ.map (eG zv31) (show V3i _ (.slice none 0 0) (none,0,0) from U) U U (fun v hv=>?_))
     rw [hget] at hv
     obtain rfl:=hv
     refine ⟨JE2,?_⟩
     refine mF 14 (by kernel_rfl) U (AE (List.Perm.append_left ([(bn,.cells (List.toArray [.int .i64 d.No]) 3 (0,0)),(bd,.cells (Document.cells d dr).toArray 51 (0,0)),(bi,.cells (List.toArray [.int .i64 x]) 3 (0,0)),(wD,.loop { lp1 with state:=.busy }),(r1,.deferred (some [])),(b5,.cells (Q.done.map Value.bool).toArray 4 (0,0)),(b8,.cells (Q.lacks.map (Value.int .i64)).toArray 3 (0,0)),(br,oQ)]:LH) hperm) ?_)
     refine eR Rp.kR [(bn,.cells (List.toArray [.int .i64 d.No]) 3 (0,0)),(bd,.cells (Document.cells d dr).toArray 51 (0,0)),(bi,.cells (List.toArray [.int .i64 x]) 3 (0,0)),(wD,.loop { lp1 with state:=.busy }),(r1,.deferred (some [])),(b5,.cells (Q.done.map Value.bool).toArray 4 (0,0)),(b8,.cells (Q.lacks.map (Value.int .i64)).toArray 3 (0,0)),(br,oQ)] G2 (fun G=>[(bn,.cells (List.toArray [.int .i64 d.No]) 3 (0,0)),(bd,.cells (Document.cells d dr).toArray 51 (0,0)),(bi,.cells (List.toArray [.int .i64 x]) 3 (0,0)),(wD,.loop { lp1 with state:=.busy }),(r1,.deferred (some [])),(b5,.cells (Q.done.map Value.bool).toArray 4 (0,0)),(b8,.cells (Q.lacks.map (Value.int .i64)).toArray 3 (0,0)),(br,oQ)]++(G2++G)) U (fun _=>U) fa ty3 zc3 U bytes3 hgrow U U (fI 0 U (show bu Rp.int h9 [.int .i64 d.No] [d.No] from ⟨[.int .i64 d.No],[],U,U,U,U⟩)) (by simp only [List.length_cons,List.length_nil] at *;omega) (by simp only [List.length_cons,List.length_nil] at *;omega) (fun gb' gc' G1' hG'=>⟨JE2,?_⟩)
     refine mF 15 (by kernel_rfl) U (jJ 7 (k:=y) (x:=(gb',(mgetD Q.revoked y []++[d.No]).length,gc')) Ex (eY lS) U ownQ.map U U U (fun oR hmR=>⟨JE2,aW (by kernel_rfl) ?_⟩))
     obtain ⟨G',hfr',hp'⟩:=hput gb' gc' _ G1' hG'
     refine da (ay (aw (v':=.int .i64 ((i+1:Nat):Int)) U (bw (by omega)) (aj (aD ?_))))
     refine cu (L':=[(bn,.cells (List.toArray [.int .i64 d.No]) 3 (0,0)),(bd,.cells (Document.cells d dr).toArray 51 (0,0)),(bi,.cells (List.toArray [.int .i64 x]) 3 (0,0)),(wD,.loop { lp1 with state:=.busy }),(r1,.deferred (some [])),(b5,.cells (Q.done.map Value.bool).toArray 4 (0,0)),(b8,.cells (Q.lacks.map (fun v=>Value.int .i64 v)).toArray 3 (0,0)),(br,oR)]++(G2++G1')) U ?_
     refine mp (L':=(bn,.cells (List.toArray [.int .i64 d.No]) 3 (0,0))::([(bd,.cells (Document.cells d dr).toArray 51 (0,0)),(bi,.cells (List.toArray [.int .i64 x]) 3 (0,0)),(wD,.loop { lp1 with state:=.busy }),(r1,.deferred (some []))]++plB b5 b8 br (playRevoke d Q y) oR G')) (List.Perm.append_left [_,_,_,_,_,_,_,_] (List.perm_append_comm.trans hp'.symm)) ?_
     refine bB (L':=[(bd,.cells (Document.cells d dr).toArray 51 (0,0)),(bi,.cells (List.toArray [.int .i64 x]) 3 (0,0)),(wD,.loop { lp1 with state:=.busy }),(r1,.deferred (some []))]++plB b5 b8 br (playRevoke d Q y) oR G') (.cons _ (List.Sublist.refl _)) ?_
     exact ag (i+1,playRevoke d Q y,oR,mput mQ y (gb',(mgetD Q.revoked y []++[d.No]).length,gc'),G') _ (by show d.Revokes.length - (i+1) < d.Revokes.length - i;omega) ⟨hfQ,hi,⟨ownQ.done,ownQ.lacks,hmR,hfr'⟩,hQs,hQg,wY hQc⟩ ⟨U,U,U,U,U,trivial⟩
    refine aR (ay (aw (v':=.bool false) U (congrArg Value.bool (decide_eq_false (by omega))) (aD (aR (kL U (kv U ?_))))))
    have hie:i=d.Revokes.length:=by omega
    refine hx4 (Q,oQ,mQ,GQ) _ ⟨?_,ownQ,hQs,hQg,fun k=>?_⟩ trivial
    ·rw [hie,List.drop_length] at hfQ;exact hfQ
    have:=hQc k;show (mgetD Q.revoked k []).length≤_;omega
   rw [c1,cond_false] at hstep
   refine bB (L':=[(wD,.loop { lp1 with state:=.busy }),(r1,.deferred (some []))]++plB b5 b8 br (playDone Pm x) om Gf) (.cons _ (.cons _ (List.Sublist.refl _))) ?_
   refine cu (L':=rdH wD r1 lp1 (plB b5 b8 br (playDone Pm x) om Gf++markB [])) (by simp [markB,rdH]) ?_
   refine nx (playDone Pm x,om,m3,Gf,h9) _ _ ⟨?_,hPs.1,hPs.2.1,own3,h59,hin',fun k=>?_⟩ lf
   ·rw [← hfold,List.foldl_cons,hstep]
   have:=hcnt k
   simp only [List.length_cons] at this
   show (mgetD Pm.revoked k []).length+16 * rest.length≤320
   rw [hPs.2.2];omega
  rintro r1 ⟨P,om,m3,Gf,hh⟩ h7 ⟨hfold,hsh,hsgd,hown,h5h,hin,hcnt⟩ hh7 h57
  dsimp only at hfold hsh hsgd hown h5h hin hcnt hh7
  replace hown:=hown.mono hh7
  have hPl:P.signed.length=l.length:=by rw [hsgd];exact hsg
  refine da (aR (ay (dF ty211 (A7.mono h57) U (cK (aD ?_)))))
  refine Ao [] (plB b5 b8 br P om Gf) (markB [r1]) U hM (fun h8 l8 hG=>?_)
  have hP:P=co l signed cv:=hfold
  have okP:=hown.lent (sr:=sr) (sb:=ec) (sc:=dZ) hln (hsh ▸ oks.mono h57) (hsgd ▸ hs4.mono Rp.aY h57) l8 hG
  exact oq [r1] [.pointer (some ⟨b11,0,none⟩)] func126 U ⟨U,trivial⟩ ⟨⟨b11,0,none⟩,playR l.length sr ec dZ b5 b8 br,U,hP ▸ okP,by
   rw [← hP,Bc hsh hsgd hown.done hown.lacks];exact A11.mono (HF.le_trans h57 l8)⟩
 rintro ⟨a,b,c,d,f,g,t⟩ e2 h2 L2 hI hμ
 dsimp only at hI hμ ⊢
 have hv:=hI.1
 refine Lb (plN a b c d f g t) ?_ ?_ (fun i hi o ho=>?_)
 ·clear hI hμ
  revert hv
  cases a <;> cases b <;> cases c <;> cases d <;> cases f <;> cases g <;> cases t <;> intro hv <;> first | exact absurd hv (by decide) | kernel_rfl
 ·clear hI
  revert hv hμ
  cases a <;> cases b <;> cases c <;> cases d <;> cases f <;> cases g <;> cases t <;> intro hμ hv <;> first | exact absurd hv (by decide) | exact absurd rfl hμ | decide
 rcases Lm hi with ⟨rfl,rfl⟩ | ⟨rfl,rfl⟩ | ⟨rfl,rfl⟩ | ⟨rfl,rfl⟩ | ⟨rfl,ha,rfl⟩ | ⟨rfl,rfl,rfl⟩ | ⟨rfl,rfl⟩ | ⟨rfl,rfl,rfl,rfl,rfl,rfl,rfl⟩
 ·obtain rfl:=Option.some.inj (show some _=some o from ho)
  exact Stp.mono (fun _ _ _ q=>⟨q.1,(true,b,c,d,f,g,t),by simp only [plM,cond_true,cond_false];omega,pmid (pmid (pmid (pmid (pmid (pmid (List.Perm.refl _)))))),q.2⟩) (M6 (hl.mono Document.ao l1) hI)
 ·obtain rfl:=Option.some.inj (show some _=some o from ho)
  exact Stp.mono (fun _ _ _ q=>⟨q.1,(a,true,c,d,f,g,t),by simp only [plM,cond_true,cond_false];omega,pmid (pmid (pmid (pmid (pmid (List.Perm.refl _))))),q.2⟩) (M5 hln hI)
 ·obtain rfl:=Option.some.inj (show some _=some o from ho)
  exact Stp.mono (fun _ _ _ q=>⟨q.1,(a,b,true,d,f,g,t),by simp only [plM,cond_true,cond_false];omega,pmid (pmid (pmid (pmid (List.Perm.refl _)))),q.2⟩) (M4 hln hI)
 ·obtain rfl:=Option.some.inj (show some _=some o from ho)
  exact Stp.mono (fun _ _ _ q=>⟨q.1,(a,b,c,true,f,g,t),by simp only [plM,cond_true,cond_false];omega,pmid (pmid (pmid (List.Perm.refl _))),q.2⟩) (M3 hI)
 ·obtain rfl:=Option.some.inj (show some _=some o from ho)
  exact Stp.mono (fun _ _ _ q=>⟨q.1,(a,b,c,d,f,true,t),by simp only [plM,cond_true,cond_false];omega,pmid (List.Perm.refl _),q.2⟩) (MO ha hI)
 ·obtain rfl:=Option.some.inj (show some _=some o from ho)
  exact Stp.mono (fun _ _ _ q=>⟨q.1,(a,b,c,d,f,true,true),by simp only [plM,cond_true,cond_false],List.Perm.refl _,q.2⟩) (MN hI)
 ·obtain rfl:=Option.some.inj (show some _=some o from ho)
  exact Stp.mono (fun _ _ _ q=>⟨q.1,(a,b,c,d,true,g,t),by simp only [plM,cond_true,cond_false];omega,pmid (pmid (List.Perm.refl _)),q.2⟩) (MM hI)
 exact absurd U hμ
theorem oH (h:HF) (l:List Document) (e8:Option Addr) (eZ:Nat) (signed:List Int) (ec:Option Addr) (dZ:Nat) (cv:Int) (hl:SlC Document.rp h e8 eZ l) (hsigned:SlC Rp.int h ec dZ signed) (hln:l.length < 20):jN prog 52 [.slice e8 l.length eZ,.slice ec signed.length dZ,I cv] h (fun v h'=>∃ (rb0:Option Addr) (rc0:Nat),v=.tuple #[.slice rb0 ((cd l signed cv).1).length rc0,I ((cd l signed cv).2)]∧SlC Rp.int h' rb0 rc0 ((cd l signed cv).1)):=by
 refine sT func52 U ntmps52 U fun X hM hX hF=>?_
 have hs0:cd l signed cv=cd l signed cv:=rfl
 refine qT 9 U (av call70 (m5 _ _ _ _ hl) U (qO 7 U (ai hs0 U (fun c1 hs1=>?_) (fun c1 hs2=>?_))))
 ·refine qT 6 U ?_
  have hs3:cd l signed cv=([],(aX l)):=hs1
  exact nretH [.slice none 0 0,I (aX l)] ⟨none,0,congrArg (fun r:(List Int×Int)=>(.tuple #[.slice none r.1.length 0,I r.2]:Value)) hs3.symm,(by rw [hs3];exact SlC.nil)⟩
 refine qT 6 U (av call124 (nS _ _ _ _ _ _ _ hl hsigned) U (qO 2 U (bY 4 [23,24,25,26,27] 23 27 (!(fp cv)) U (fun c2 hk1=>?_) (fun e=>?_))))
 ·exact aj (av Jg (lP h cv) U (qO 2 U (hk1 _ U)))
 refine aD (ai hs2 U (fun c3 hs4=>?_) (fun c3 hs5=>?_))
 ·refine qT 5 U ?_
  have hs6:cd l signed cv=([],1):=hs4
  exact nretH [.slice none 0 0,I 1] ⟨none,0,congrArg (fun r:(List Int×Int)=>(.tuple #[.slice none r.1.length 0,I r.2]:Value)) hs6.symm,(by rw [hs6];exact SlC.nil)⟩
 refine qT 6 U (aF (cY call126 (oZ _ _ _ _ _ _ _ cv hl hsigned (by simpa using c1) (wP ob) hln) U (fun v1 h1 hle1 hp1=>?_)))
 obtain ⟨q1,rr1,rfl,ok1,A1⟩:=hp1
 refine qL 9 [] U ?_
 refine lp2 l (fun i w=>[(2,I cv),(6,.slice w.2.1 w.1.length w.2.2.1),(9,.pointer (some q1)),(32,.slice e8 l.length eZ),(33,I (l.length:Int)),(34,I (i:Int))]) (fun _=>h1) (fun w=>w.2.2.2) (fun i w=>em Rp.int 3 h1 w.1 w.2.1 w.2.2.1 w.2.2.2∧w.1.length≤0+i) (fun s1 i w=>(cd.L1 l signed cv (cd.K1)) s1 i w.1) ([],none,0,[]) ((hl.mono Document.ao hle1).1.1) hs5 ⟨em.nil,lo⟩ ?_ ?_
 ·rintro i1 ⟨oU,FG,FF,FH⟩ fA hs7 ⟨Dr,Kr⟩ e
  try dsimp only at Dr Kr
  refine qT 6 U (gL Rp.aY ([]) FH ([]) ap hM Dr (fun h3 hle3 sl2=>?_))
  have hs8:cd l signed cv=(oU,0):=hs7
  exact nretH [.slice FG oU.length FF,I 0] ⟨FG,FF,congrArg (fun r:(List Int×Int)=>(.tuple #[.slice FG r.1.length FF,I r.2]:Value)) hs8.symm,(by rw [hs8];exact sl2)⟩
 rintro i1 ⟨oU,FG,FF,FH⟩ y1 rz1 hd1 dx aL eH hO hs9 ⟨Dr,Kr⟩ hx1 ag1 e
 try dsimp only at Dr Kr
 refine sr (aw (v':=.bool true) U (cb dx) (qO 9 U (aF (gC oL ty51 (hl.mono Document.ao hle1).1 (nthZ aL) (ba aL) U U U (fun _ _ _ e=>e) (fun q3 r2 A3 ok3=>dz ty51 A3 U U (aV zc51 (fun b3=>cK (aS 0 ty51 U U U U U U (iw (L':=[(b3,O (Document.cells y1 r2) 51)]++(FH)) U (qO 6 U (av call127 (kU h1 (co l signed cv) rr1 q1 (i1:Int) cv ok1 A1 (by first | exact Dj ob | (rw [qM];omega)) (yT _ _ _)) U (qO 11 U (ai hs9 U (fun c5 hs10=>?_) (fun c5 hs11=>?_))))))))))))))
 ·exact qK 4 [0] U (aF (bV (cells:=[I y1.No]) fa ty3 zc3 U U kr (fun b4=>aF (eR Rp.kR ([(b4,O [I y1.No] 3),(b3,O (Document.cells y1 r2) 51)]) ([]) (fun G=>[(b4,O [I y1.No] 3),(b3,O (Document.cells y1 r2) 51)]++G) ap (fun _=>ap) fa ty3 zc3 U bytes3 Dr U U (fI 0 U (show bu Rp.int h1 [I y1.No] ([y1.No]) from ⟨[I y1.No],[],U,U,U,U⟩)) lo lo (fun ob2 oc2 G2 gr2=>qO 4 U (aw (v':=I (((i1+1):Nat):Int)) U (bw ob) (qO 2 U (bB (L':=G2) js (ag1 ((oU++[y1.No]),ob2,oc2,G2) hs10 ⟨gr2,lo⟩)))))))))
 exact aJ (qT 2 U (aw (v':=I (((i1+1):Nat):Int)) U (bw ob) (qO 2 U (bB (L':=FH) js (ag1 (oU,FG,FF,FH) hs11 ⟨Dr,lo⟩)))))
theorem rS (h:HF) (d:Document) (FW:jO) (v0:bo) (IU:jv) (v0_q:Addr) (hd:Document.ok h d FW) (hv0:bo.ok h v0 IU) (av0:At h v0_q (bo.cells v0 IU)):Ret prog 130 [.agg (Document.cells d FW).toArray,.pointer (some v0_q)] h (.bool (bX d v0)):=by
 refine sT func130 U ntmps130 U fun X hM hX hF=>?_
 have hs0:bX d v0=bX d v0:=rfl
 exact sr (cA (fun b1=>qL 8 [0] U (kd (j:=7) ty3 av0 U U (qO 3 U (nretP [.bool (d.No==v0.doc.No)] (cs hs0))))))
theorem nL (h:HF) (s:List Document) (pL:Option Addr) (pK:Nat) (f:(Document→Bool)) (f_v:Value) (hs:SlC Document.rp h pL pK s) (hf:∀ (h':HF) (dB:Document) (vw:jO),HF.le h h'→dB∈s→Document.ok h' dB vw→rH prog f_v [.agg (Document.cells dB vw).toArray] h' [] (.bool (f dB))):Ret prog 218 [.slice pL s.length pK,f_v] h (.bool (ig s f)):=by
 refine sT func218 U ntmps218 U fun X hM hX hF=>?_
 have hs0:ig s f=ig s f:=rfl
 exact sr (qO 6 U (av call128 (j4 _ _ _ _ f f_v hs hf) U (qO 3 U (nretP [.bool (decide (0≤(ad s f)))] (cs hs0)))))
theorem yz (h:HF) (l:List Document) (e8:Option Addr) (eZ:Nat) (signed:List Int) (ec:Option Addr) (dZ:Nat) (no:Int) (cL:Int) (hl:SlC Document.rp h e8 eZ l) (hsigned:SlC Rp.int h ec dZ signed) (hln:l.length < 20):Ret prog 84 [.slice e8 l.length eZ,.slice ec signed.length dZ,I no,I cL] h (.tuple #[I ((fE l signed no cL).1),I ((fE l signed no cL).2.1),I ((fE l signed no cL).2.2)]):=by
 refine sT func84 U ntmps84 U fun X hM hX hF=>?_
 have hs0:fE l signed no cL=fE l signed no cL:=rfl
 refine qT 10 U (av call70 (m5 _ _ _ _ hl) U (qO 7 U (ai hs0 U (fun c1 hs1=>?_) (fun c1 hs2=>?_))))
 ·refine qT 7 U ?_
  have hs3:fE l signed no cL=(0,0,(aX l)):=hs1
  exact nretP [I 0,I 0,I (aX l)] (congrArg (fun r:(Int×Int×Int)=>(.tuple #[I r.1,I r.2.1,I r.2.2]:Value)) hs3.symm)
 refine qT 6 U (av call124 (nS _ _ _ _ _ _ _ hl hsigned) U (qO 2 U (bY 4 [24,25,26,27,28] 24 28 (!(fp cL)) U (fun c2 hk1=>?_) (fun e=>?_))))
 ·exact aj (av Jg (lP h cL) U (qO 2 U (hk1 _ U)))
 refine aD (ai hs2 U (fun c3 hs4=>?_) (fun c3 hs5=>?_))
 ·refine qT 6 U ?_
  have hs6:fE l signed no cL=(0,0,1):=hs4
  exact nretP [I 0,I 0,I 1] (congrArg (fun r:(Int×Int×Int)=>(.tuple #[I r.1,I r.2.1,I r.2.2]:Value)) hs6.symm)
 refine qT 6 U (aF (cY call126 (oZ _ _ _ _ _ _ _ cL hl hsigned (by simpa using c1) (wP ob) hln) U (fun v1 h1 hle1 hp1=>?_)))
 obtain ⟨q1,rr1,rfl,ok1,A1⟩:=hp1
 refine qO 5 U (aF (fg (fF U) (qL 2 [] U (kd (j:=1) ty190 A1 U U (aj ?_)))))
 obtain ⟨o1,hb1,hm1⟩:=ok1.shelf.at_
 refine aF (qw (k:=no) wH (eY lS) hb1 hm1 (eG zv3) (show sM _ (I 0) 0 from U) U U (fun v2 hv1=>?_))
 obtain rfl:=hv1
 refine qO 12 U (ai hs5 U (fun c4 hs7=>?_) (fun c4 hs8=>?_))
 ·refine qT 6 U ?_
  have hs9:fE l signed no cL=(0,0,1):=hs7
  exact nretP [I 0,I 0,I 1] (congrArg (fun r:(Int×Int×Int)=>(.tuple #[I r.1,I r.2.1,I r.2.2]:Value)) hs9.symm)
 refine qT 6 U (av call127 (kU h1 (co l signed cL) rr1 q1 (mgetD ((co l signed cL).shelf.at_) no 0) cL ok1 A1 (by first | exact Dj ob | (rw [qM];omega)) (yT _ _ _)) U (qO 14 U ?_))
 have hs10:fE l signed no cL=((cD (co l signed cL) (mgetD ((co l signed cL).shelf.at_) no 0) cL).1,(cD (co l signed cL) (mgetD ((co l signed cL).shelf.at_) no 0) cL).2,0):=hs8
 exact nretP [I ((cD (co l signed cL) (mgetD ((co l signed cL).shelf.at_) no 0) cL).1),I ((cD (co l signed cL) (mgetD ((co l signed cL).shelf.at_) no 0) cL).2),I 0] (congrArg (fun r:(Int×Int×Int)=>(.tuple #[I r.1,I r.2.1,I r.2.2]:Value)) hs10.symm)
theorem vh (h:HF) (s:List Int) (pL:Option Addr) (pK:Nat) (v:Int) (hs:SlC Rp.int h pL pK s):Ret prog 221 [.slice pL s.length pK,I v] h (I (gk s v)):=by
 refine sT func221 U ntmps221 U fun X hM hX hF=>?_
 have hs0:gk s v=gk s v:=rfl
 refine qK 11 [] U ?_
 refine lp0 s (fun i=>[(0,.slice pL s.length pK),(1,I v),(7,I (s.length:Int)),(8,I (i:Int))]) ([]) (fun s1 i=>(gk.L1 v (gk.K1)) s1 i) hs.1.1 hs0 ?_ ?_
 ·rintro i1 fA hs1 e
  exact sr (an (nretP [I (-1)] (ci hs1)))
 rintro i1 y1 rz1 hd1 dx aL eH hO hs3 hx1 ag1 e
 refine sr (aw (v':=.bool true) U (cb dx) (qO 16 U (aF (fj (enc:=fun y=>[I y]) ei fa ty3 hs.1 (nthZ aL) (ba aL) U U U (fun q2 A2=>dF ty3 A2 U (qO 2 U (ai hs3 U (fun c2 hs4=>?_) (fun c2 hs5=>?_))))))))
 ·exact sr (qO 3 U (nretP [I (i1:Int)] (ci hs4)))
 exact aJ (qT 2 U (aw (v':=I (((i1+1):Nat):Int)) U (bw ob) (qO 2 U (ag1 hs5))))
theorem ni (h:HF) (s:List Int) (pL:Option Addr) (pK:Nat) (v:Int) (hs:SlC Rp.int h pL pK s):Ret prog 134 [.slice pL s.length pK,I v] h (.bool (jy s v)):=by
 refine sT func134 U ntmps134 U fun X hM hX hF=>?_
 have hs0:jy s v=jy s v:=rfl
 exact sr (qO 6 U (av call221 (vh _ _ _ _ v hs) U (qO 3 U (nretP [.bool (decide (0≤(gk s v)))] (cs hs0)))))
theorem rC (h:HF) (d:Document) (FW:jO) (c:bo) (kC:jv) (c_q:Addr) (signed:List Int) (ec:Option Addr) (dZ:Nat) (signed_q:Addr) (hd:Document.ok h d FW) (hc:bo.ok h c kC) (ac:At h c_q (bo.cells c kC)) (hsigned:SlC Rp.int h ec dZ signed) (asigned:At h signed_q [.slice ec signed.length dZ]) (hsm:smR c.Register) (hco:iS c) (hln:c.Register.Docs.length < 20) (hsg:de c.Register.Docs signed=true) (hdm:d∈c.Register.Docs):Ret prog 219 [.agg (Document.cells d FW).toArray,.pointer (some c_q),.pointer (some signed_q)] h (.bool (iO d c signed)):=by
 refine sT func219 U ntmps219 U fun X hM hX hF=>?_
 have hs0:iO d c signed=iO d c signed:=rfl
 refine sr (cA (fun b1=>qL 9 [0] U (kd (j:=7) ty3 ac U U (av call134 (ni _ _ _ _ c.doc.No hd.Revokes) U (qO 2 U (ai hs0 U (fun c1 hs1=>?_) (fun c1 hs2=>?_)))))))
 ·exact sr (an (nretP [.bool false] (cs hs1)))
 refine qK 5 [] U (kd (j:=5) ty27 ac U U (dF ty31 asigned U (qL 3 [0] U (kd (j:=48) ty3 ac U U (av call84 (yz _ _ _ _ _ _ _ d.No c.at_ hc.Register.Docs hsigned ob) U (qO 11 U (aF (mK rI (gU h ((fE c.Register.Docs signed d.No c.at_).2.2)) (kJ (II hco hsg hdm)) U (qO 6 U (bC 3 [32,33,34,35] 32 35 ((fE c.Register.Docs signed d.No c.at_).1 != 4) U (fun c2 hk1=>?_) (fun e=>?_)))))))))))
 ·exact aj (qO 2 U (hk1 _ U))
 exact an (nretP [.bool (((fE c.Register.Docs signed d.No c.at_).1 != 1)&&((fE c.Register.Docs signed d.No c.at_).1 != 4))] (cs hs2))
theorem nt (h:HF) (c:bo) (kC:jv) (signed:List Int) (ec:Option Addr) (dZ:Nat) (hc:bo.ok h c kC) (hsigned:SlC Rp.int h ec dZ signed) (hsm:smR c.Register) (hco:iS c) (hln:c.Register.Docs.length < 20) (hsg:de c.Register.Docs signed=true):Ret prog 131 [.agg (bo.cells c kC).toArray,.slice ec signed.length dZ] h (.bool (eT c signed)):=by
 refine sT func131 U ntmps131 U fun X hM hX hF=>?_
 have hs0:eT c signed=eT c signed:=rfl
 exact sr (cA (fun b1=>cA (fun b2=>qL 7 [1] U (aT 1 U hM (fun h1 hle1 hb1=>aT 0 U hM (fun h2 hle2 hb2=>aF (et U U (av call218 (nL _ _ _ _ (fun dB=>iO dB c signed) (.func (.func 219) #[] #[Q b1,Q b2]) (hc.Register.Docs.mono Document.ao (hle1.t hle2)) (fun h' dB vw hle Kh a0_o=>iu call219 (rC h' dB vw c kC ⟨b1,0,none⟩ signed ec dZ ⟨b2,0,none⟩ a0_o ((hc.mono (hle1.t hle2)).mono hle) (((ct hb1).mono hle2).mono hle) ((hsigned.mono Rp.aY (hle1.t hle2)).mono Rp.aY hle) ((ct hb2).mono hle) hsm hco ob hsg Kh))) U (an (nretP [.bool (ig c.Register.Docs (fun dB=>iO dB c signed))] (cs hs0)))))))))))
theorem tq (h:HF) (c:bo) (kC:jv) (signed:List Int) (ec:Option Addr) (dZ:Nat) (hc:bo.ok h c kC) (hsigned:SlC Rp.int h ec dZ signed) (hsm:smR c.Register) (hco:iS c) (hln:c.Register.Docs.length < 20) (hsg:de c.Register.Docs signed=true):Ret prog 55 [.agg (bo.cells c kC).toArray,.slice ec signed.length dZ] h (.bool (fY c signed)):=by
 refine sT func55 U ntmps55 U fun X hM hX hF=>?_
 have hs0:fY c signed=fY c signed:=rfl
 refine sr (cA (fun b1=>qL 7 [0] U (aT 0 U hM (fun h1 hle1 hb1=>aF (et U U (av call128 (j4 _ _ _ _ (fun dB=>bX dB c) (.func (.func 130) #[] #[Q b1]) (hc.Register.Docs.mono Document.ao hle1) (fun h' dB vw hle Kh a0_o=>iu call130 (rS h' dB vw c kC ⟨b1,0,none⟩ a0_o ((hc.mono hle1).mono hle) ((ct hb1).mono hle)))) U (qO 3 U ?_)))))))
 refine nZ [(4,.bool (((decide (c.at_ < c.doc.At)||decide (c.doc.Until≤c.at_))||(decide (0≤(nthI signed (ad c.Register.Docs (fun dB=>bX dB c))))&&decide ((nthI signed (ad c.Register.Docs (fun dB=>bX dB c)))≤c.at_)))||(eT c signed)))] (fun e=>?_) (fun hk1=>?_)
 rotate_left
 ·refine eQ ([]) mixed kr jn (fun dH _=>?_)
  refine qB [0] U (tf 1 U U (fun _ _ hj=>jK 48 ty3 ((ct hb1).mono hj.1) U U) (qB [2,3] U (tf 4 U U (fun _ _ hj=>jK 8 ty3 ((ct hb1).mono hj.1) U U) (qA [5,6] U ?_))))
  refine dt 17 U (fun c1=>?_) (fun c1=>?_)
  ·have c1p:=of_decide_eq_true c1
   exact tk 7 U U (qR 8 28 U (aW kr (hk1 _ ⟨(cb (show true=(((decide (c.at_ < c.doc.At)||decide (c.doc.Until≤c.at_))||(decide (0≤(nthI signed (ad c.Register.Docs (fun dB=>bX dB c))))&&decide ((nthI signed (ad c.Register.Docs (fun dB=>bX dB c)))≤c.at_)))||(eT c signed)) from by rw [c1] <;> rfl)),trivial⟩)))
  have c1p:=of_decide_eq_false c1
  refine qB [7] U (tf 8 U U (fun _ _ hj=>jK 48 ty3 ((ct hb1).mono hj.1) U U) (qB [9,10] U (tf 11 U U (fun _ _ hj=>jK 12 ty3 ((ct hb1).mono hj.1) U U) (qR 12 3 U ?_))))
  refine dt 25 U (fun c2=>?_) (fun c2=>?_)
  ·have c2p:=of_decide_eq_true c2
   exact tk 15 U U (qR 16 20 U (aW kr (hk1 _ ⟨(cb (show true=(((decide (c.at_ < c.doc.At)||decide (c.doc.Until≤c.at_))||(decide (0≤(nthI signed (ad c.Register.Docs (fun dB=>bX dB c))))&&decide ((nthI signed (ad c.Register.Docs (fun dB=>bX dB c)))≤c.at_)))||(eT c signed)) from by rw [c1,c2] <;> rfl)),trivial⟩)))
  have c2p:=of_decide_eq_false c2
  refine qA [15,16] U ?_
  have ho1:0≤((ad c.Register.Docs (fun dB=>bX dB c)):Int)∧((ad c.Register.Docs (fun dB=>bX dB c)):Int) < ((signed).length:Int):=(DB hco hsg)
  refine fW 17 (enc:=fun y=>[I y]) dH jn ei fa ty3 (hsigned.mono Rp.aY hle1).1 ho1 (dU ho1) U U U U kr (fun q1 A1=>tf 18 U U (fun _ _ hj=>eV ty3 (A1.mono hj.1) U) (qA [19,20] U ?_))
  refine dt 31 U (fun c3=>?_) (fun c3=>?_)
  ·have c3p:=of_decide_eq_true c3
   refine qA [21,22] U ?_
   have ho2:0≤((ad c.Register.Docs (fun dB=>bX dB c)):Int)∧((ad c.Register.Docs (fun dB=>bX dB c)):Int) < ((signed).length:Int):=(DB hco hsg)
   refine fW 23 (enc:=fun y=>[I y]) dH jn ei fa ty3 (hsigned.mono Rp.aY hle1).1 ho2 (dU ho2) U U U U kr (fun q2 A2=>tf 24 U U (fun _ _ hj=>eV ty3 (A2.mono hj.1) U) (qB [25] U (tf 26 U U (fun _ _ hj=>jK 48 ty3 ((ct hb1).mono hj.1) U U) (qR 27 4 U ?_))))
   refine dt 41 U (fun c4=>?_) (fun c4=>?_)
   ·have c4p:=of_decide_eq_true c4
    exact tk 31 U U (qR 32 4 U (aW kr (hk1 _ ⟨(cb (show true=(((decide (c.at_ < c.doc.At)||decide (c.doc.Until≤c.at_))||(decide (0≤(nthI signed (ad c.Register.Docs (fun dB=>bX dB c))))&&decide ((nthI signed (ad c.Register.Docs (fun dB=>bX dB c)))≤c.at_)))||(eT c signed)) from by rw [c1,c2,c3,c4] <;> rfl)),trivial⟩)))
   have c4p:=of_decide_eq_false c4
   exact tf 31 U U (fun _ _ hj=>j9 ty123 ((ct hb1).mono hj.1) U U) (tm 32 U (tn 33 U (eP call131 (nt _ _ _ _ _ _ (hc.mono hle1) (hsigned.mono Rp.aY hle1) ob ob ob ob) U (⟨jn,(qA [34,35] U (aW kr (hk1 _ ⟨(cb (show (eT c signed)=(((decide (c.at_ < c.doc.At)||decide (c.doc.Until≤c.at_))||(decide (0≤(nthI signed (ad c.Register.Docs (fun dB=>bX dB c))))&&decide ((nthI signed (ad c.Register.Docs (fun dB=>bX dB c)))≤c.at_)))||(eT c signed)) from by rw [c1,c2,c3,c4] <;> rfl)),trivial⟩)))⟩))))
  have c3p:=of_decide_eq_false c3
  exact tk 21 U U (qR 22 9 U (tf 31 U U (fun _ _ hj=>j9 ty123 ((ct hb1).mono hj.1) U U) (tm 32 U (tn 33 U (eP call131 (nt _ _ _ _ _ _ (hc.mono hle1) (hsigned.mono Rp.aY hle1) ob ob ob ob) U (⟨jn,(qA [34,35] U (aW kr (hk1 _ ⟨(cb (show (eT c signed)=(((decide (c.at_ < c.doc.At)||decide (c.doc.Until≤c.at_))||(decide (0≤(nthI signed (ad c.Register.Docs (fun dB=>bX dB c))))&&decide ((nthI signed (ad c.Register.Docs (fun dB=>bX dB c)))≤c.at_)))||(eT c signed)) from by rw [c1,c2,c3] <;> rfl)),trivial⟩)))⟩))))))
 exact nretP [.bool (((decide (c.at_ < c.doc.At)||decide (c.doc.Until≤c.at_))||(decide (0≤(nthI signed (ad c.Register.Docs (fun dB=>bX dB c))))&&decide ((nthI signed (ad c.Register.Docs (fun dB=>bX dB c)))≤c.at_)))||(eT c signed))] (cs hs0)
theorem ym (h:HF) (c:bo) (kC:jv) (c_q:Addr) (signed:List Int) (ec:Option Addr) (dZ:Nat) (signed_q:Addr) (hc:bo.ok h c kC) (ac:At h c_q (bo.cells c kC)) (hsigned:SlC Rp.int h ec dZ signed) (asigned:At h signed_q [.slice ec signed.length dZ]) (hsm:smR c.Register) (hco:iS c) (hln:c.Register.Docs.length < 20) (hsg:de c.Register.Docs signed=true):Ret prog 54 [.pointer (some c_q),.pointer (some signed_q)] h (.bool (rF c signed)):=by
 refine sT func54 U ntmps54 U fun X hM hX hF=>?_
 have hs0:rF c signed=rF c signed:=rfl
 exact sr (qO 4 U (dz ty123 ac U U (dF ty31 asigned U (av call55 (tq _ _ _ _ _ _ hc hsigned ob ob ob ob) U (an (nretP [.bool (fY c signed)] (cs hs0)))))))
theorem sE (h:HF) (eo:Int) (v0:List Int) (ri:Option Addr) (rh:Nat) (v0_q:Addr) (hv0:SlC Rp.int h ri rh v0) (av0:At h v0_q [.slice ri v0.length rh]):Ret prog 133 [I eo,.pointer (some v0_q)] h (.bool (jA eo v0)):=by
 refine sT func133 U ntmps133 U fun X hM hX hF=>?_
 have hs0:jA eo v0=jA eo v0:=rfl
 exact sr (qO 4 U (dF ty31 av0 U (aj (av call134 (ni _ _ _ _ eo hv0) U (qO 3 U (nretP [.bool (!(jy v0 eo))] (cs hs0)))))))
theorem ur (h:HF) (c:bo) (kC:jv) (signed:List Int) (ec:Option Addr) (dZ:Nat) (hc:bo.ok h c kC) (hsigned:SlC Rp.int h ec dZ signed) (hsm:smR c.Register) (hco:iS c) (hln:c.Register.Docs.length < 20) (hsg:de c.Register.Docs signed=true):Ret prog 57 [.agg (bo.cells c kC).toArray,.slice ec signed.length dZ] h (.bool (iv c signed)):=by
 refine sT func57 U ntmps57 U fun X hM hX hF=>?_
 have hs0:iv c signed=iv c signed:=rfl
 refine sr (cA (fun b1=>qL 10 [0,0] U (aF (cY call52 (oH _ _ _ _ _ _ _ c.at_ hc.Register.Docs hsigned ob) U (fun v1 h1 hle1 hp1=>?_)))))
 obtain ⟨rb1,rc1,rfl,sl1⟩:=hp1
 exact aj (qO 2 U (aV zc31 (fun b2=>cJ 0 ty31 U U U U U U (qO 5 U (aF (mK rI (gU h1 ((cd c.Register.Docs signed c.at_).2)) (kJ (CM hco hsg)) U (qL 6 [1] U (aT 0 U hM (fun h2 hle2 hb1=>aF (et U U (av ED (gM _ _ _ _ (fun dB=>jA dB ((cd c.Register.Docs signed c.at_).1)) (.func (.func 133) #[] #[Q b2]) (hc.doc.Needs.mono Rp.aY (hle1.t hle2)) (fun h' dB hle =>iu call133 (sE h' dB ((cd c.Register.Docs signed c.at_).1) rb1 rc1 ⟨b2,0,none⟩  ((sl1.mono Rp.aY hle2).mono Rp.aY hle) ((ct hb1).mono hle)))) U (an (nretP [.bool (cw c.doc.Needs (fun dB=>jA dB ((cd c.Register.Docs signed c.at_).1)))] (cs hs0))))))))))))))
theorem yl (h:HF) (c:bo) (kC:jv) (c_q:Addr) (signed:List Int) (ec:Option Addr) (dZ:Nat) (signed_q:Addr) (hc:bo.ok h c kC) (ac:At h c_q (bo.cells c kC)) (hsigned:SlC Rp.int h ec dZ signed) (asigned:At h signed_q [.slice ec signed.length dZ]) (hsm:smR c.Register) (hco:iS c) (hln:c.Register.Docs.length < 20) (hsg:de c.Register.Docs signed=true):Ret prog 56 [.pointer (some c_q),.pointer (some signed_q)] h (.bool (rE c signed)):=by
 refine sT func56 U ntmps56 U fun X hM hX hF=>?_
 have hs0:rE c signed=rE c signed:=rfl
 exact sr (qO 4 U (dz ty123 ac U U (dF ty31 asigned U (av call57 (ur _ _ _ _ _ _ hc hsigned ob ob ob ob) U (an (nretP [.bool (iv c signed)] (cs hs0)))))))
theorem pI (h:HF) (seq:List Holder) (seq_v:Value) (hseq:Itr prog seq_v mY seq h) (hsz:seq.length≤2000000):jN prog 176 [.slice none 0 0,seq_v] h (fun v h'=>∃ (rb0:Option Addr) (rc0:Nat),v=.slice rb0 (cf seq).length rc0∧SlC Holder.rp h' rb0 rc0 (cf seq)):=by
 refine cz func176 U ntmps176 U fun X hM hX=>?_
 have hs0:cf seq=cf seq:=rfl
 refine sr (cA (fun b1=>qO 8 U (dY (cu (L':=([(b1,O [.slice none 0 0] 68)])++markB []) ap ?_))))
 refine jw (it:=seq_v) (xs:=seq) (ι:=(List Holder)×Option Addr×Nat×LH×HF) [] (fun i=>i.2.2.2.2) (fun i=>[(b1,O [.slice i.2.1 i.1.length i.2.2.1] 68)]++(i.2.2.2.1)) (fun s i=>cf seq=((cf.L1 (cf.K1)) s i.1)∧em Holder.rp 158 i.2.2.2.2 i.1 i.2.1 i.2.2.1 i.2.2.2.1∧HF.le h i.2.2.2.2∧i.1.length+s.length≤seq.length) (fun _=>False) (fun _=>False) 0 (fun _ _ _=>False) ([],none,0,[],h) func176 U hseq U pS (fun _ _ _ _ _ hq=>hq) U (show [(b1,O [.slice none 0 0] 68)]=_ from U) ⟨hs0,em.nil,lf,(by simp)⟩ ?_ ?_ ?_ ?_ ?_
 ·rintro l1 dm1 lp1 y1 rz1 vs1 ⟨bz,kT,kS,mn,hh1⟩ hr1 X hFR1 ⟨hs1,fo,hl1,u1_0⟩ hl01 hlr1 hv1 hX hXM hlp1 nx1 rt1 ex1 pn1
  obtain rfl:=hv1
  simp only [List.length_cons] at u1_0
  let z1:Nat×Obj:=(b1,O [.slice kT bz.length kS] 68)
  let z3:Nat×Obj:=(dm1,.deferred (some []))
  refine cu (L':=[(l1,.loop lp1),z3,z1]++(mn++(markB []))) ap (ay (aV zc158 (fun b4=>aS 0 ty158 U U U U U U (iw (L':=[(b4,O (Holder.cells y1) 158),(l1,.loop lp1),z3,z1]++(mn++(markB []))) U ?_))))
  let z4:Nat×Obj:=(l1,.loop { lp1 with state:=.busy })
  let z5:Nat×Obj:=(b4,O (Holder.cells y1) 158)
  refine aD (jh 1 U hlp1 (qK 3 [3] U (cW 0 ty158 U U U (aF (bV (cells:=[I y1.Person,I y1.Weight]) I3 ty158 zc158 U U kr (fun b5=>aF (eR Holder.eF ([(b5,O [I y1.Person,I y1.Weight] 158),z5,z4,z3,z1]) (markB []) (fun G=>[(b5,O [I y1.Person,I y1.Weight] 158),z5,z4,z3,z1]++(markB []++G)) ap (fun _=>ap) I3 ty158 zc158 U bytes158 (fo.mono Holder.ao hlr1) U U (fI 0 U (show bu Holder.rp hr1 [I y1.Person,I y1.Weight] ([y1]) from ⟨[I y1.Person,I y1.Weight],[],U,U,U,U⟩)) lo lo (fun ob2 oc2 G2 gr2=>uI (py ([(b5,O [I y1.Person,I y1.Weight] 158),z5,z4,z3,z1]) G2 (markB [])) (cJ 4 ty68 U U U U U U (qO 2 U ?_))))))))))
  let z6:Nat×Obj:=(b1,O [.slice ob2 ((bz++[y1]).length) oc2] 68)
  exact bB (L':=[z4,z3,z6]++(G2++(markB []))) js (cu (L':=rdH l1 dm1 lp1 (([z6]++G2)++markB [])) ap (nx1 ((bz++[y1]),ob2,oc2,G2,hr1) _ _ ⟨hs1,gr2,(hl1.t hlr1),(by simp only [List.length_append,List.length_cons,List.length_nil] at *;omega)⟩ lf))
 ·rintro dm1 ⟨bz,kT,kS,mn,hh1⟩ hn1 ⟨hs2,fo,hl1,u1_0⟩ hln1 hl01
  let z2:Nat×Obj:=(b1,O [.slice kT bz.length kS] 68)
  refine cu (L':=[z2]++(mn++(markB (dm1::[])))) ap (qK 6 [0] U (gL Holder.ao ([z2]) mn (markB (dm1::[])) ap hM (fo.mono Holder.ao hln1) (fun h2 hle2 sl2=>?_)))
  have hs3:cf seq=bz:=hs2
  exact cu (L':=([z2])++markB (dm1::[])) ap (oq (dm1::[]) [.slice kT bz.length kS] func176 U rd ⟨kT,kS,congrArg (fun r:List Holder=>(.slice kT r.length kS:Value)) hs3.symm,(by rw [hs3];exact sl2)⟩)
 ·exact xf
 ·exact xf
 exact xf
theorem rl (h:HF) (seq:List Holder) (seq_v:Value) (hseq:Itr prog seq_v mY seq h) (hsz:seq.length≤2000000):jN prog 91 [seq_v] h (fun v h'=>∃ (rb0:Option Addr) (rc0:Nat),v=.slice rb0 (fD seq).length rc0∧SlC Holder.rp h' rb0 rc0 (fD seq)):=by
 refine sT func91 U ntmps91 U fun X hM hX hF=>?_
 have hs0:fD seq=fD seq:=rfl
 refine qT 7 U (aF (cY call176 (pI h seq seq_v hseq ob) U (fun v1 h1 hle1 hp1=>?_)))
 obtain ⟨rb1,rc1,rfl,sl1⟩:=hp1
 refine an ?_
 have hs1:fD seq=(cf seq):=hs0
 exact nretH [.slice rb1 ((cf seq).length) rc1] ⟨rb1,rc1,congrArg (fun r:List Holder=>(.slice rb1 r.length rc1:Value)) hs1.symm,(by rw [hs1];exact sl1)⟩
end Go.Sg
namespace Go.Proofs
open Go.Shelf Go.RowKit Go.Lib Go.Sort
set_option maxHeartbeats 1000000 in
theorem Tryz.closure178 (x y:Go.Sg.OSeat) (W:World):Calls Tryz.prog 178 #[.agg (Go.Sg.OSeat.cells x).toArray,.agg (Go.Sg.OSeat.cells y).toArray] W fun e w'=>e=.returned (.int .i64 (Lib.compareInt x.person y.person))∧∃ q os',w'=grow (W.drewN q) os':=by
 have hcon:=fun W'=>Tryz.cmp_Compare_int x.person y.person W'
 generalize Lib.compareInt x.person y.person=r at hcon ⊢
 unfold Go.Sg.OSeat.cells
 go_enter Tryz.func178,Tryz.ntmps178
 go_wp2_with (go_at_call 118;refine (hcon _).mono ?_;rintro e w' ⟨rfl,rfl⟩)
 go_ret
 exact ⟨rfl,0,_,by rw [alloc_eq_grow,alloc_eq_grow,grow_grow];rfl⟩
theorem Tryz.ltSeat (x y:Go.Sg.OSeat):ltOf (fun x y:Go.Sg.OSeat=>Lib.compareInt x.person y.person) x y=decide (x.person < y.person):=by
 unfold ltOf Lib.compareInt
 by_cases h1:x.person < y.person
 ·simp [h1]
 ·by_cases h2:y.person < x.person <;> simp [h1,h2]
theorem Tryz.swoSeat:SWO (ltOf fun x y:Go.Sg.OSeat=>Lib.compareInt x.person y.person) where
 irrefl x:=by rw [Tryz.ltSeat];simp
 trans x y z h1 h2:=by rw [Tryz.ltSeat] at *;simp at *;omega
 ntrans x y z h1 h2:=by rw [Tryz.ltSeat] at *;simp at *;omega
end Go.Proofs
namespace Go.Sg
open Go.Proofs Go.Proofs.Tryz Go.RowKit Go.Sort
theorem yM {h:HF}:∀ {cl:List Value} {xs:List OSeat},bu OSeat.rp h cl xs→cl=xs.flatMap OSeat.cells
 | _,[],hc=>hc
 | _,x::xs,⟨cs,rest,e,_,hr,hc⟩=>by
  have:cs=OSeat.cells x:=hr
  rw [e,this,yM hc];rfl
theorem zn (h:HF):∀ xs:List OSeat,bu OSeat.rp h (xs.flatMap OSeat.cells) xs
 | []=>rfl
 | x::xs=>⟨OSeat.cells x,xs.flatMap OSeat.cells,rfl,rfl,rfl,zn h xs⟩
theorem C8:∀ (xs:List OSeat) (j:Nat),j < xs.length * 2→(xs.flatMap OSeat.cells)[j]? = some ((OSeat.cells (xs.getD (j / 2) default)).getD (j % 2) undef)
 | [],j,hj=>by simp at hj
 | x::xs,0,_=>by simp [OSeat.cells]
 | x::xs,1,_=>by simp [OSeat.cells]
 | x::xs,j+2,hj=>by
  have ih:=C8 xs j (by simp at hj;omega)
  simp only [List.flatMap_cons]
  rw [List.getElem?_append_right (by simp [OSeat.cells])]
  simp only [OSeat.cells,List.length_cons,List.length_nil]
  rw [show j+2 - (0+1+1)=j from by omega,show (j+2) / 2=j / 2+1 from by omega,show (j+2) % 2=j % 2 from by omega]
  simpa [OSeat.cells] using ih
theorem pt (xs:List OSeat):(xs.flatMap OSeat.cells).length=xs.length * 2:=by
 induction xs with
 | nil=>rfl
 | cons x xs ih=>rw [List.flatMap_cons,List.length_append,ih];simp [OSeat.cells];omega
theorem BR (xs:List OSeat):(flatK OSeat.cells 2 xs.toArray).toList=xs.flatMap OSeat.cells:=by
 apply List.ext_getElem?
 intro j
 rcases Nat.lt_or_ge j (xs.length * 2) with hj | hj
 ·rw [C8 xs j hj]
  have h1:=get_flatK OSeat.cells 2 xs.toArray j (by simpa using hj)
  have h2:j < (flatK OSeat.cells 2 xs.toArray).size:=by rw [size_flatK];simpa using hj
  rw [getElem!_pos _ j h2] at h1
  rw [Array.getElem?_toList,Array.getElem?_eq_getElem h2,h1]
  have h3:j / 2 < xs.length:=by omega
  congr 1
  rw [getElem!_pos xs.toArray (j / 2) (by simpa using h3)]
  have h4:j % 2 < 2:=Nat.mod_lt _ (by omega)
  simp only [List.getElem_toArray,List.getD,List.getElem?_eq_getElem h3,Option.getD_some]
  rw [getElem!_pos _ (j % 2) (by simpa [OSeat.cells] using h4)]
  rw [List.getElem?_eq_getElem (by simpa [OSeat.cells] using h4),Option.getD_some]
 ·rw [List.getElem?_eq_none (by rw [Array.length_toList,size_flatK];simpa using hj),List.getElem?_eq_none (by rw [pt];exact hj)]
theorem E5 (F cur:Array Value) (h:F.size≤cur.size):(putCells id 0 F cur).toList=F.toList++cur.toList.drop F.size:=by
 apply List.ext_getElem?
 intro j
 rcases Nat.lt_or_ge j cur.size with hj | hj
 ·have e1:(putCells id 0 F cur).toList[j]? = some (if j < F.size then F[j]! else cur[j]):=by
   rw [Array.getElem?_toList]
   simp [putCells,hj]
  rw [e1]
  rcases Nat.lt_or_ge j F.size with h1 | h1
  ·rw [if_pos h1,List.getElem?_append_left (by simpa using h1),Array.getElem?_toList,Array.getElem?_eq_getElem h1,getElem!_pos _ j h1]
  ·rw [if_neg (by omega),List.getElem?_append_right (by simpa using h1),List.getElem?_drop,Array.getElem?_toList,Array.length_toList,show F.size+(j - F.size)=j from by omega,Array.getElem?_eq_getElem hj]
 ·rw [List.getElem?_eq_none (by simpa [putCells] using hj),List.getElem?_eq_none (by simp;omega)]
theorem Ki {w:World} {g n:Nat} {os:Array Obj} {cur:Array Value} {e:TypeId} {fr:Nat×Nat} (d:Array Value) (hb:w.heap[g]? = some (.cells cur e fr)):
  (grow (putRow id (Sort.ahead w n) g 0 d) os).heap[g]? = some (.cells (putCells id 0 d cur) e fr):=by
 have hg:g < w.heap.size:=(Array.getElem?_eq_some_iff.1 hb).1
 rw [heap_grow_old _ _ (by simpa using hg)]
 simp [putRow,mapBlock,Sort.ahead,Array.getElem?_modify,hb,onCells]
theorem IB {w:World} {g n:Nat} {os:Array Obj} (d:Array Value):(grow (putRow id (Sort.ahead w n) g 0 d) os).os=w.os∧(grow (putRow id (Sort.ahead w n) g 0 d) os).tape=w.tape∧(grow (putRow id (Sort.ahead w n) g 0 d) os).output=w.output ∧
  w.heap.size≤(grow (putRow id (Sort.ahead w n) g 0 d) os).heap.size∧∀ k,k < w.heap.size→k≠g→(grow (putRow id (Sort.ahead w n) g 0 d) os).heap[k]? = w.heap[k]?:=by
 refine ⟨rfl,rfl,rfl,by simp [putRow,mapBlock,Sort.ahead],fun k hk hne=>?_⟩
 rw [heap_grow_old _ _ (by simpa using hk)]
 simp [putRow,mapBlock,Sort.ahead,Array.getElem?_modify,Ne.symm hne]
theorem rK (h:HF) (xs:List OSeat) (b:Option Addr) (c:Nat) (G:LH) (hG:em OSeat.rp 182 h xs b c G) (hsz:xs.length≤1000000000000):
  mP prog 274 [.slice b xs.length c,.func (.func 178) #[] #[]].toArray h G (fun r h' G'=>h'=h∧r=.returned (.tuple #[])∧∃ ys,ys.Perm xs∧ys.Pairwise (fun x y=>x.person≤y.person)∧em OSeat.rp 182 h ys b c G'):=by
 intro w hp
 rcases hG with ⟨rfl,rfl,rfl,rfl⟩ | ⟨bk,cl,sp,rfl,hcl,hlen,hcap,hmax,rfl⟩
 ·refine (jU (AnyF.slices_SortFunc_none Tryz.sortSeat none 0 (.func (.func 178) #[] #[]) w) (fun w' hw=>by cases hw.1)).mono ?_
  rintro e w' ⟨rfl,rfl⟩
  exact ⟨h,[],St.start hp,rfl,rfl,[],List.Perm.refl _,List.Pairwise.nil,em.nil⟩
 ·have hb:=hp.own _ (List.mem_singleton.2 rfl)
  simp only at hb
  have hcl':=yM hcl
  subst hcl'
  have hfl:=BR xs
  have hH:HoldsK OSeat.cells 2 w bk 0 xs.toArray:=by
   intro j hj
   rw [size_flatK] at hj
   have hj':j < xs.length * 2:=by simpa using hj
   refine ⟨?_,by simp [World.frozen?,hb]⟩
   have h2:j < (flatK OSeat.cells 2 xs.toArray).size:=by rw [size_flatK];exact hj
   have h3:(flatK OSeat.cells 2 xs.toArray).toList[j]? = some (flatK OSeat.cells 2 xs.toArray)[j]!:=by
    rw [Array.getElem?_toList,Array.getElem?_eq_getElem h2,getElem!_pos _ j h2]
   rw [hfl] at h3
   have h4:(xs.flatMap OSeat.cells++sp)[j]? = some (flatK OSeat.cells 2 xs.toArray)[j]!:=by
    rw [List.getElem?_append_left (by rw [pt];exact hj')];exact h3
   simp only [World.cell?,hb,Nat.zero_add]
   simpa using h4
  have eg:∀ args w,(callFunc 178 args).run prog w=.ok (.enter 178 args) w:=call178
  have hcall:=AnyQ.slices_SortFunc Tryz.sortSeat 2 Tryz.isAgg182 Tryz.sizeOf182 OSeat.cells (fun _=>rfl) (fun x v hv=>by simp [OSeat.cells] at hv;rcases hv with rfl | rfl <;> rfl)
   (fun x y=>Lib.compareInt x.person y.person) Tryz.swoSeat 178 #[] bk 0 c xs.toArray w eg (fun _ _ _ _ x y=>Tryz.closure178 x y _) hH (gQ hb) (by simp;omega)
  change Calls prog 274 _ _ _ at hcall
  rw [List.size_toArray] at hcall
  refine (jU hcall (fun w' hw=>by cases hw.1)).mono ?_
  rintro e w' ⟨rfl,d',n,os,⟨hds,_,hperm⟩,hsorted,rfl⟩
  have hds':d'.size=xs.length:=by simpa using hds
  have hF:(flatK OSeat.cells 2 d').toList=d'.toList.flatMap OSeat.cells:=by have:=BR d'.toList;simpa using this
  have hFs:(flatK OSeat.cells 2 d').size=xs.length * 2:=by rw [size_flatK,hds']
  obtain ⟨g1,g2,g3,g4,g5⟩:=IB (w:=w) (g:=bk) (n:=n) (os:=os) (flatK OSeat.cells 2 d')
  have hnew:=Ki (w:=w) (g:=bk) (n:=n) (os:=os) (flatK OSeat.cells 2 d') hb
  have hcur:(putCells id 0 (flatK OSeat.cells 2 d') (xs.flatMap OSeat.cells++sp).toArray).toList=d'.toList.flatMap OSeat.cells++sp:=by
   rw [E5 _ _ (by rw [hFs,← pt];simp),hF,hFs]
   congr 1
   rw [← pt]
   exact List.drop_left' rfl
  have hcur':putCells id 0 (flatK OSeat.cells 2 d') (xs.flatMap OSeat.cells++sp).toArray=(d'.toList.flatMap OSeat.cells++sp).toArray:=by rw [← hcur]
  rw [hcur'] at hnew
  have hperm':d'.toList.Perm xs:=by
   have e1:d'.extract 0 xs.length=d':=by rw [← hds'];simp
   have e2:xs.toArray.extract 0 xs.length=xs.toArray:=by simp
   rw [e1,e2] at hperm;exact hperm
  refine ⟨h,[(bk,.cells (d'.toList.flatMap OSeat.cells++sp).toArray 182 (0,0))],⟨g1,g2,g3,g4,fun k hk hM=>g5 k hk (fun e=>hM (by subst e;simp)),fun _ _ e=>e,fun _ _=>rfl,fun k o e=>?_,fun q hq=>?_,?_,?_,?_⟩,rfl,rfl,d'.toList,hperm',?_,?_⟩
  ·have hne:k≠bk:=fun e'=>by
    have:=hp.free _ (List.mem_singleton.2 rfl)
    simp only at this
    rw [e',this] at e;cases e
   exact (g5 k (gQ (hp.imm k o e)) hne).trans (hp.imm k o e)
  ·rw [List.mem_singleton.1 hq];exact hnew
  ·simp
  ·intro q hq;rw [List.mem_singleton.1 hq];exact hp.free (bk,Obj.cells (xs.flatMap OSeat.cells++sp).toArray 182 (0,0)) (List.mem_singleton.2 rfl)
  ·intro q hq;rw [List.mem_singleton.1 hq];exact .inr (by simp)
  ·rw [List.pairwise_iff_getElem]
   intro i j hi hj hij
   have hj':j < d'.size:=by simpa using hj
   have hi':i < d'.size:=by simpa using hi
   have:=hsorted i j (Nat.zero_le _) hij (by omega)
   rw [Tryz.ltSeat,getElem!_pos _ j hj',getElem!_pos _ i hi'] at this
   simp only [Array.getElem_toList]
   simpa using this
  ·refine .inr ⟨bk,d'.toList.flatMap OSeat.cells,sp,rfl,zn h _,?_,?_,?_,rfl⟩
   ·rw [List.length_append,pt,hperm'.length_eq,← pt,← List.length_append];exact hlen
   ·rw [hperm'.length_eq];exact hcap
   ·rw [hperm'.length_eq];exact hmax
theorem rj (h:HF) (it:Value) (ks:List OSeat) (hit:Cl prog it (fun (k:OSeat) (_:HF) (vs:List Value)=>vs=[OSeat.enc k]) (fun xs=>xs.Perm ks) h) (hk:ks.length≤1000000000000):
  jN prog 179 [it,.func (.func 178) #[] #[]] h (fun v h'=>∃ (b:Option Addr) (c:Nat) (ys:List OSeat),ys.Perm ks∧ys.Pairwise (fun x y=>x.person≤y.person)∧v=.slice b ys.length c∧SlC OSeat.rp h' b c ys):=by
 refine cz func179 rfl ntmps179 rfl fun X hM hX=>?_
 refine aR (ay (cK (aD (aR (ay (aj ?_))))))
 refine aF (wV call273 (Cn h it _ hit (fun xs hx=>by rw [hx.length_eq];exact hk)) rfl (fun h' xs bb c G hle hxs hG=>?_))
 refine cK (aD (aR (ay (aj (aj ?_)))))
 refine aF (lV [] G [] call274 (rK h' xs bb c G hG (by rw [hxs.length_eq];exact hk)) (by simp) rfl (fun G' hG'=>?_))
 obtain ⟨ys,hp,hs,hG'⟩:=hG'
 refine aD (aR (ay (aj (cK (aD ?_)))))
 refine gL OSeat.ao [] G' [] (by simp) hM hG' (fun h2 hle2 sl=>?_)
 exact jd [.slice bb xs.length c] func179 rfl ⟨rfl,trivial⟩ ⟨bb,c,ys,hp.trans hxs,hs,by rw [hp.length_eq];rfl,sl⟩
end Go.Sg
namespace Go.Sg
open Go.Proofs Go.Proofs.Tryz
set_option maxHeartbeats 2000000
theorem uh (h:HF) (m:List (OSeat×Appoint)) (Gz:Nat) (m_q:Addr) (office:Int) (office_q:Addr) (hm:qt OSeat.enc (iH Appoint.rp) h Gz m) (am:At h m_q [.map (some Gz)]) (aoffice:At h office_q [I office]) (hsz:m.length≤1000000000):Itr prog (.func (.func 177) #[] (List.toArray [.pointer (some m_q),.pointer (some office_q)])) mY (bZ m office) h:=by
 refine pU call177 ?_
 intro yf ya yb C Sp Pn h1 A hle m1 m2 m3 hC hy
 refine iV I2 U ntmps177 U fun X hXM hX=>?_
 have hs0:bZ m office=[]++bZ m office:=rfl
 refine qT 6 U (dF ty162 (am.mono hle) U (aF (cY call180 (uo h1 m Gz (hm.mono (iH.mono Appoint.ao) hle)) U (fun v1 h2 hle1 hp1=>aj (aF (cY call179 (rj h2 v1 (m.map Prod.fst) hp1 (by rw [List.length_map];omega)) U (fun v2 h3 hle2 hp2=>?_)))))))
 obtain ⟨rb1,rc1,ys_,hper_,hsrt_,rfl,sl1⟩:=hp2
 have M7:bZ m office=[]++((bZ.L1 m office (bZ.K1)) ys_):=CG (by obtain ⟨_,_,q⟩:=hm;exact q.nodup) hper_ hsrt_
 refine qL 3 [] U ?_
 refine lp2 ys_ (fun i w=>[(0,.func yf ya yb),(1,.pointer (some m_q)),(2,.pointer (some office_q)),(11,.slice rb1 ys_.length rc1),(12,I (ys_.length:Int)),(13,I (i:Int))]) (fun w=>w.2.2) (fun w=>w.2.1) (fun i w=>C w.1 w.2.2 w.2.1∧HF.le h3 w.2.2) (fun s1 i w=>w.1++(bZ.L1 m office (bZ.K1)) s1) ([],A,h3) sl1.1.1 M7 ⟨(m1 _ _ _ _ (hle1.t hle2) hC),lf⟩ ?_ ?_
 ·rintro i1 ⟨dn1,A1_,hh1⟩ fA hs1 ⟨hC1_,hl1⟩ e
  refine dY ?_
  have hs2:bZ m office=dn1:=hs1.trans (List.append_nil _)
  exact pV [] (A:=A1_) I2 U (List.Sublist.refl _) (.inl (hs2 ▸ hC1_))
 rintro i1 ⟨dn1,A1_,hh1⟩ y1 rz1 hd1 dx aL eH hO hs3 ⟨hC1_,hl1⟩ hx1 ag1 e
 refine sr (aw (v':=.bool true) U (cb dx) (qO 8 U (aF (fj (enc:=OSeat.cells) ei LT ty182 (sl1.mono OSeat.ao hl1).1 (nthZ aL) (ba aL) U U U (fun q2 A2=>dz ty182 A2 U U (aV zc182 (fun b3=>aS 0 ty182 U U U U U U (iw (L':=[(b3,O (OSeat.cells y1) 182)]++(A1_)) U (qO 3 U (dF ty162 (am.mono (((hle.t hle1).t hle2).t hl1)) U (cW 0 ty182 U U U ?_)))))))))))
 obtain ⟨o2,hb2,hm2⟩:=(hm.mono (iH.mono Appoint.ao) (((hle.t hle1).t hle2).t hl1))
 refine aF (mt (k:=y1) Ha sB hb2 hm2 (eG zv89) (show (iH Appoint.rp) _ (.agg (List.toArray [I 0,I 0,I 0,I 0,I 0,I 0,.bool false])) (Appoint.mk 0 0 0 0 0 0 false) from ⟨_,U,U⟩) U U (fun v4 hv2=>?_))
 obtain ⟨_,rfl,rfl⟩:=hv2
 refine aV zc89 (fun b4=>aS 0 ty89 U U U U U U (iw (L':=[(b4,O (Appoint.cells (mgetD m y1 (Appoint.mk 0 0 0 0 0 0 false))) 89),(b3,O (OSeat.cells y1) 182)]++(A1_)) U (qL 5 [1] U (dF ty3 (aoffice.mono (((hle.t hle1).t hle2).t hl1)) U (qO 2 U (bC 4 [24,25,26,27,28] 24 28 (!((mgetD m y1 (Appoint.mk 0 0 0 0 0 0 false)).Gone)) U (fun c1 hk1=>?_) (fun e=>?_)))))))
 ·exact qL 4 [0] U (hk1 _ U)
 refine aj (rJ 29 U (fun c2=>?_) (fun c2=>?_))
 ·have hs4:=hs3.trans (congrArg (dn1++·) (bt c2))
  refine qL 5 [0,0] U (aF (fw (cells:=[I ((mgetD m y1 (Appoint.mk 0 0 0 0 0 0 false)).Person),I ((mgetD m y1 (Appoint.mk 0 0 0 0 0 0 false)).Weight)]) (places:=[(0,1),(1,1)]) underlying158 zc158 kr kr ?_))
  have hx1:bZ m office=dn1++((Holder.mk ((mgetD m y1 (Appoint.mk 0 0 0 0 0 0 false)).Person) ((mgetD m y1 (Appoint.mk 0 0 0 0 0 0 false)).Weight))::(bZ.L1 m office (bZ.K1) rz1)):=hs4
  refine aF (jW ([(b4,O (Appoint.cells (mgetD m y1 (Appoint.mk 0 0 0 0 0 0 false))) 89),(b3,O (OSeat.cells y1) 182)]) A1_ ap (hy dn1 (Holder.mk ((mgetD m y1 (Appoint.mk 0 0 0 0 0 0 false)).Person) ((mgetD m y1 (Appoint.mk 0 0 0 0 0 0 false)).Weight)) _ _ _ _ hx1 ((hle1.t hle2).t hl1) hC1_ U) U U (fun h4 A3 hle3 hC1=>?_) (fun h5 A4 hle4 hS1=>?_) (fun ch1 h6 A5 hle5 hP1 e=>gp (lG [] (A:=A5) I2 (List.sublist_append_right _ _) hP1)))
  ·have hs5:bZ m office=(dn1++[(Holder.mk ((mgetD m y1 (Appoint.mk 0 0 0 0 0 0 false)).Person) ((mgetD m y1 (Appoint.mk 0 0 0 0 0 0 false)).Weight))])++((bZ.L1 m office (bZ.K1) rz1)):=hx1.trans ap
   exact kz U (qO 6 U (aw (v':=I (((i1+1):Nat):Int)) U (bw ob) (qO 2 U (bB (L':=A3) js (ag1 ((dn1++[(Holder.mk ((mgetD m y1 (Appoint.mk 0 0 0 0 0 0 false)).Person) ((mgetD m y1 (Appoint.mk 0 0 0 0 0 0 false)).Weight))]),A3,h4) hs5 ⟨hC1,(hl1.t hle3)⟩)))))
  exact kz U (qO 3 U (dY (lq [] (A:=A4) I2 U js (.inr hS1))))
 have hs6:=hs3.trans (congrArg (dn1++·) (bf c2))
 exact kq (qO 12 U (aw (v':=I (((i1+1):Nat):Int)) U (bw ob) (qO 2 U (bB (L':=A1_) js (ag1 (dn1,A1_,hh1) hs6 ⟨hC1_,hl1⟩)))))
theorem wa (h:HF) (m:List (OSeat×Appoint)) (Gz:Nat) (office:Int) (hm:qt OSeat.enc (iH Appoint.rp) h Gz m) (hsz:m.length≤1000000000):jN prog 92 [.map (some Gz),I office] h (fun v h'=>∃ (rv0:Value),v=rv0∧Itr prog rv0 mY (iD m office) h'):=by
 refine sT func92 U ntmps92 U fun X hM hX hF=>?_
 have hs0:iD m office=iD m office:=rfl
 refine sr (cA (fun b1=>cA (fun b2=>qO 4 U (aT 1 U hM (fun h1 hle1 hb1=>aT 0 U hM (fun h2 hle2 hb2=>aF (et U U (an ?_))))))))
 have hs1:iD m office=(bZ m office):=hs0
 exact nretH [.func (.func 177) #[] #[Q b1,Q b2]] ⟨(.func (.func 177) #[] #[Q b1,Q b2]),congrArg (fun r:List Holder=>((.func (.func 177) #[] #[Q b1,Q b2]):Value)) hs1.symm,(by rw [hs1];exact (uh h2 m Gz ⟨b1,0,none⟩ office ⟨b2,0,none⟩ (hm.mono (iH.mono Appoint.ao) (hle1.t hle2)) ((ct hb1).mono hle2) (ct hb2) ob))⟩
theorem wd (h:HF) (l:List Appoint) (e8:Option Addr) (eZ:Nat) (office:Int) (cv:Int) (known:Int) (hl:SlC Appoint.rp h e8 eZ l) (hsz:l.length≤2000000):jN prog 24 [.slice e8 l.length eZ,I office,I cv,I known] h (fun v h'=>∃ (rb0:Option Addr) (rc0:Nat),v=.tuple #[.slice rb0 ((eh l office cv known).1).length rc0,I ((eh l office cv known).2)]∧SlC Holder.rp h' rb0 rc0 ((eh l office cv known).1)):=by
 refine sT func24 U ntmps24 U fun X hM hX hF=>?_
 have hs0:eh l office cv known=eh l office cv known:=rfl
 refine qT 9 U (av call65 (n8 _ _ _ _ hl) U (qO 7 U (ai hs0 U (fun c1 hs1=>?_) (fun c1 hs2=>?_))))
 ·refine qT 6 U ?_
  have hs3:eh l office cv known=([],(cZ l)):=hs1
  exact nretH [.slice none 0 0,I (cZ l)] ⟨none,0,congrArg (fun r:(List Holder×Int)=>(.tuple #[.slice none r.1.length 0,I r.2]:Value)) hs3.symm,(by rw [hs3];exact SlC.nil)⟩
 refine qT 5 U (av Jn (kI h office) U (qO 2 U (bY 4 [18,19,20,21,22] 18 22 (!(di cv)) U (fun c2 hk1=>?_) (fun e=>?_))))
 ·exact aj (av Ak (iM h cv) U (qO 2 U (hk1 _ U)))
 refine aj (bY 4 [23,24,25,26,27] 23 27 (!(di known)) U (fun c3 hk2=>?_) (fun e=>?_))
 ·exact aj (av Ak (iM h known) U (qO 2 U (hk2 _ U)))
 refine aD (ai hs2 U (fun c4 hs4=>?_) (fun c4 hs5=>?_))
 ·refine qT 5 U ?_
  have hs6:eh l office cv known=([],1):=hs4
  exact nretH [.slice none 0 0,I 1] ⟨none,0,congrArg (fun r:(List Holder×Int)=>(.tuple #[.slice none r.1.length 0,I r.2]:Value)) hs6.symm,(by rw [hs6];exact SlC.nil)⟩
 refine qT 6 U (aF (cY call93 (oY _ _ _ _ cv known hl) U (fun v1 h1 hle1 hp1=>?_)))
 obtain ⟨rk1,rfl,mo1⟩:=hp1
 refine aj (aF (cY call92 (wa h1 (dk l cv known) rk1 office mo1 (by have:=sn l cv known;omega)) U (fun v2 h2 hle2 hp2=>?_)))
 obtain ⟨_,rfl,mo2⟩:=hp2
 refine aF (cY call91 (rl h2 (iD (dk l cv known) office) v2 mo2 (by have h1:=sn l cv known;have h2:=ze (dk l cv known) office;omega)) U (fun v3 h3 hle3 hp3=>?_))
 obtain ⟨rb1,rc1,rfl,sl1⟩:=hp3
 refine qO 3 U ?_
 have hs7:eh l office cv known=((fD (iD (dk l cv known) office)),0):=hs5
 exact nretH [.slice rb1 ((fD (iD (dk l cv known) office)).length) rc1,I 0] ⟨rb1,rc1,congrArg (fun r:(List Holder×Int)=>(.tuple #[.slice rb1 r.1.length rc1,I r.2]:Value)) hs7.symm,(by rw [hs7];exact sl1)⟩
theorem qN (h:HF) (who:List Int) (pC:Option Addr) (pB:Nat) (hwho:SlC Rp.int h pC pB who):Ret prog 96 [.slice pC who.length pB] h (.bool (eE who)):=by
 refine sT func96 U ntmps96 U fun X hM hX hF=>?_
 have hs0:eE who=eE who:=rfl
 refine qK 15 [] U ?_
 refine lp1 who (fun i w=>[(3,I w),(6,.slice pC who.length pB),(7,I (who.length:Int)),(8,I (i:Int))]) ([]) (fun s1 i w=>(eE.L1 (eE.K1)) s1 w) (-1) hwho.1.1 hs0 ?_ ?_
 ·rintro i1 ii fA hs1 e
  exact sr (an (nretP [.bool true] (cs hs1)))
 rintro i1 ii y1 rz1 hd1 dx aL eH hO hs3 hx1 ag1 e
 refine sr (aw (v':=.bool true) U (cb dx) (qO 8 U (aF (fj (enc:=fun y=>[I y]) ei fa ty3 hwho.1 (nthZ aL) (ba aL) U U U (fun q2 A2=>dF ty3 A2 U (qO 9 U (bY 3 [15,16,17,18] 15 18 (decide (64≤y1)) U (fun c1 hk1=>?_) (fun e=>?_))))))))
 ·exact aj (qO 2 U (hk1 _ U))
 refine aD (ai hs3 U (fun c2 hs4=>?_) (fun c2 hs5=>?_))
 ·exact sr (an (nretP [.bool false] (cs hs4)))
 exact aJ (qT 6 U (aw (v':=I (((i1+1):Nat):Int)) U (bw ob) (qO 2 U (ag1 y1 hs5))))
theorem xZ (h:HF) (holders:List (List Holder)) (j1:Option Addr) (j0:Nat) (offices:Int) (hholders:SlC (Rp.sl Holder.rp) h j1 j0 holders) (hsz0:∀ y∈holders,y.length≤2000000):Ret prog 95 [.slice j1 holders.length j0,I offices] h (.bool (er holders offices)):=by
 refine sT func95 U ntmps95 U fun X hM hX hF=>?_
 have hs0:er holders offices=er holders offices:=rfl
 refine qK 11 [] U ?_
 refine lp2 holders (fun i w=>[(0,.slice j1 holders.length j0),(1,I offices),(10,.slice j1 holders.length j0),(11,I (holders.length:Int)),(12,I (i:Int))]) (fun w=>w) (fun w=>[]) (fun i w=>HF.le h w) (fun s1 i w=>(er.L1 (er.K1 holders offices)) s1) h hholders.1.1 hs0 lf ?_ ?_
 ·rintro i1 hh1 fA hs1 hl1 e
  try dsimp only at hl1
  exact qK 8 [] U (nretP [.bool ((holders.length:Int)==offices)] (cs hs1))
 rintro i1 hh1 y1 rz1 hd1 dx aL eH hO hs3 hl1 hx1 ag1 e
 try dsimp only at hl1
 have hszy:=hsz0 y1 (gi hd1)
 refine sr (aw (v':=.bool true) U (cb dx) (qO 8 U (aF (Hr I1 ty68 (hholders.mono (Rp.uK Holder.ao) hl1).1 (nthZ aL) (ba aL) U U U (fun q3 cs2 A3 ln2 rr2=>?_)))))
 obtain ⟨rb2,rc2,rfl,sl2⟩:=rr2
 refine dF ty68 A3 U (qL 13 [] U ?_)
 refine lp2 y1 (fun i w=>[(0,.slice j1 holders.length j0),(1,I offices),(7,.slice w.2.1 w.1.length w.2.2.1),(10,.slice j1 holders.length j0),(11,I (holders.length:Int)),(12,I (i1:Int)),(16,.slice rb2 y1.length rc2),(17,I (y1.length:Int)),(18,I (i:Int))]) (fun _=>hh1) (fun w=>w.2.2.2) (fun i w=>em Rp.int 3 hh1 w.1 w.2.1 w.2.2.1 w.2.2.2∧w.1.length≤0+i) (fun s3 i w=>(er.L3 (fun zg3_7=>(bif (!(eE zg3_7)) then false else (er.L1 (er.K1 holders offices) rz1)))) s3 w.1) ([],none,0,[]) sl2.1.1 hs3 ⟨em.nil,lo⟩ ?_ ?_
 ·rintro i3 ⟨ID,MS,MR,Km⟩ zJ hs4 ⟨FB,Kl⟩ e
  try dsimp only at FB Kl
  refine qT 3 U (pG Rp.aY ([]) Km ([]) ap hM FB (fun h1 hle1 sl3=>av call96 (qN _ _ _ _ sl3) U (qO 2 U (ai hs4 U (fun c2 hs5=>?_) (fun c2 hs6=>?_)))))
  ·exact sr (an (nretP [.bool false] (cs hs5)))
  exact aJ (qT 2 U (aw (v':=I (((i1+1):Nat):Int)) U (bw ob) (qO 2 U (ag1 h1 hs6 (hl1.t hle1)))))
 rintro i3 ⟨ID,MS,MR,Km⟩ y3 rz3 hd3 D9 sZ HE Lu hs8 ⟨FB,Kl⟩ hx3 ag2 e
 try dsimp only at FB Kl
 refine sr (aw (v':=.bool true) U (cb D9) (qO 8 U (aF (fj (enc:=Holder.cells) ei I3 ty158 sl2.1 (nthZ sZ) (ba sZ) U U U (fun q5 A5=>dz ty158 A5 U U (aV zc158 (fun b3=>aS 0 ty158 U U U U U U (iw (L':=[(b3,O (Holder.cells y3) 158)]++(Km)) U (qL 8 [0] U (bY 4 [25,26,27,28,29] 25 29 (decide (64 < y3.Weight)) U (fun c3 hk1=>?_) (fun e=>?_)))))))))))
 ·exact qL 4 [0] U (hk1 _ U)
 refine aD (ai hs8 U (fun c4 hs9=>?_) (fun c4 hs10=>?_))
 ·exact sr (an (nretP [.bool false] (cs hs9)))
 exact qK 5 [0] U (aF (bV (cells:=[I y3.Person]) fa ty3 zc3 U U kr (fun b4=>aF (eR Rp.kR ([(b4,O [I y3.Person] 3),(b3,O (Holder.cells y3) 158)]) ([]) (fun G=>[(b4,O [I y3.Person] 3),(b3,O (Holder.cells y3) 158)]++G) ap (fun _=>ap) fa ty3 zc3 U bytes3 FB U U (fI 0 U (show bu Rp.int hh1 [I y3.Person] ([y3.Person]) from ⟨[I y3.Person],[],U,U,U,U⟩)) lo lo (fun ob1 oc1 G1 gr1=>qO 4 U (aw (v':=I (((i3+1):Nat):Int)) U (bw ob) (qO 2 U (bB (L':=G1) js (ag2 ((ID++[y3.Person]),ob1,oc1,G1) hs10 ⟨gr1,lo⟩)))))))))
theorem pj (h:HF) (q:aZ) (qp:im) (q_q:Addr) (office:Int) (office_q:Addr) (hq:aZ.ok h q qp) (aq:At h q_q (aZ.cells q qp)) (aoffice:At h office_q [I office]) (hno:0≤office∧office < (q.holders.length:Int)) (hso:q.who.Pairwise (·≤·)) (hsw:q.who.length≤2000000):Itr prog (.func (.func 330) #[] (List.toArray [.pointer (some q_q),.pointer (some office_q)])) mY (cn q office) h:=by
 refine pU call330 ?_
 intro yf ya yb C Sp Pn h1 A hle m1 m2 m3 hC hy
 refine iV I0 U ntmps330 U fun X hXM hX=>?_
 have hs0:cn q office=[]++cn q office:=rfl
 refine qK 3 [] U (kd (j:=1) ty67 (aq.mono hle) U U (dF ty3 (aoffice.mono hle) U ?_))
 have ho1:0≤(office:Int)∧(office:Int) < ((q.holders).length:Int):=ob
 refine aF (Hr I1 ty68 (hq.holders.mono (Rp.uK Holder.ao) hle).1 ho1 (dU ho1) U U U (fun q1 cs1 A1 ln1 rr1=>?_))
 obtain ⟨rb1,rc1,rfl,sl1⟩:=rr1
 refine dF ty68 A1 U (qL 3 [] U ?_)
 refine lp2 (nthI q.holders office) (fun i w=>[(0,.func yf ya yb),(1,.pointer (some q_q)),(12,.slice rb1 ((nthI q.holders office).length) rc1),(13,I ((nthI q.holders office).length:Int)),(14,I (i:Int))]) (fun w=>w.2.2) (fun w=>w.2.1) (fun i w=>C w.1 w.2.2 w.2.1∧HF.le h1 w.2.2) (fun s1 i w=>w.1++(cn.L1 q (cn.K1)) s1) ([],A,h1) sl1.1.1 hs0 ⟨hC,lf⟩ ?_ ?_
 ·rintro i1 ⟨dn1,A1_,hh1⟩ fA hs1 ⟨hC1_,hl1⟩ e
  refine dY ?_
  have hs2:cn q office=dn1:=hs1.trans (List.append_nil _)
  exact pV [] (A:=A1_) I0 U (List.Sublist.refl _) (.inl (hs2 ▸ hC1_))
 rintro i1 ⟨dn1,A1_,hh1⟩ y1 rz1 hd1 dx aL eH hO hs3 ⟨hC1_,hl1⟩ hx1 ag1 e
 refine sr (aw (v':=.bool true) U (cb dx) (qO 8 U (aF (fj (enc:=Holder.cells) ei I3 ty158 (sl1.mono Holder.ao hl1).1 (nthZ aL) (ba aL) U U U (fun q3 A6=>dz ty158 A6 U U (aV zc158 (fun b2=>aS 0 ty158 U U U U U U (iw (L':=[(b2,O (Holder.cells y1) 158)]++(A1_)) U (qL 4 [] U (kd (j:=2) ty31 (aq.mono (hle.t hl1)) U U (qL 2 [0] U (av call114 (lU _ _ _ _ y1.Person (hq.who.mono Rp.aY (hle.t hl1)) ob ob) U (qO 10 U (rJ 27 U (fun c2=>?_) (fun c2=>?_)))))))))))))))
 ·have hs4:=hs3.trans (congrArg (dn1++·) (bt c2))
  refine aj (cW 0 ty158 U U U ?_)
  have hx2:cn q office=dn1++(y1::(cn.L1 q (cn.K1) rz1)):=hs4
  refine aF (jW ([(b2,O (Holder.cells y1) 158)]) A1_ ap (hy dn1 y1 _ _ _ _ hx2 hl1 hC1_ U) U U (fun h5 A7 hle4 hC2=>?_) (fun h6 A8 hle5 hS2=>?_) (fun ch2 h7 A9 hle6 hP2 e=>gp (lG [] (A:=A9) I0 (List.sublist_append_right _ _) hP2)))
  ·have hs5:cn q office=(dn1++[y1])++((cn.L1 q (cn.K1) rz1)):=hx2.trans ap
   exact kz U (qO 6 U (aw (v':=I (((i1+1):Nat):Int)) U (bw ob) (qO 2 U (bB (L':=A7) js (ag1 ((dn1++[y1]),A7,h5) hs5 ⟨hC2,(hl1.t hle4)⟩)))))
  exact kz U (qO 3 U (dY (lq [] (A:=A8) I0 U js (.inr hS2))))
 have hs6:=hs3.trans (congrArg (dn1++·) (bf c2))
 exact kq (qO 8 U (aw (v':=I (((i1+1):Nat):Int)) U (bw ob) (qO 2 U (bB (L':=A1_) js (ag1 (dn1,A1_,hh1) hs6 ⟨hC1_,hl1⟩)))))
theorem mE (h:HF) (q:aZ) (qp:im) (office:Int) (hq:aZ.ok h q qp) (hno:0≤office∧office < (q.holders.length:Int)) (hso:q.who.Pairwise (·≤·)) (hsw:q.who.length≤2000000):jN prog 285 [.agg (aZ.cells q qp).toArray,I office] h (fun v h'=>∃ (rv0:Value),v=rv0∧Itr prog rv0 mY (gr q office) h'):=by
 refine sT func285 U ntmps285 U fun X hM hX hF=>?_
 have hs0:gr q office=gr q office:=rfl
 refine sr (cA (fun b1=>cA (fun b2=>qO 4 U (aT 1 U hM (fun h1 hle1 hb1=>aT 0 U hM (fun h2 hle2 hb2=>aF (et U U (an ?_))))))))
 have hs1:gr q office=(cn q office):=hs0
 exact nretH [.func (.func 330) #[] #[Q b1,Q b2]] ⟨(.func (.func 330) #[] #[Q b1,Q b2]),congrArg (fun r:List Holder=>((.func (.func 330) #[] #[Q b1,Q b2]):Value)) hs1.symm,(by rw [hs1];exact (pj h2 q qp ⟨b1,0,none⟩ office ⟨b2,0,none⟩ (hq.mono (hle1.t hle2)) ((ct hb1).mono hle2) (ct hb2) ob ob ob))⟩
theorem ry (h:HF) (q:aZ) (qp:im) (x:Expr) (fP:cG) (hq:aZ.ok h q qp) (hx:Expr.ok h x fP) (hno:0≤x.No∧x.No < (q.holders.length:Int)) (hso:q.who.Pairwise (·≤·)) (hsw:q.who.length≤2000000):Ret prog 186 [.agg (aZ.cells q qp).toArray,.agg (Expr.cells x fP).toArray] h (.bool (dV q x)):=by
 refine cz IZ U ntmps186 U fun X hM hX=>?_
 have hs0:dV q x=dV q x:=rfl
 refine sr (cA (fun b1=>cA (fun b2=>aV zc4 (fun b3=>qO 4 U (cW 2 ty167 U U U (qL 2 [1] U (aF (cY call285 (mE _ _ _ x.No hq ob ob ob) U (fun v1 h1 hle1 hp1=>?_)))))))))
 obtain ⟨_,rfl,mo1⟩:=hp1
 refine qO 2 U (dY ?_)
 let z1:Nat×Obj:=(b1,O (aZ.cells q qp) 167)
 let z2:Nat×Obj:=(b2,O (Expr.cells x fP) 62)
 refine cu (L':=([(b3,O [.bool false] 4),z2,z1])++markB []) ap ?_
 refine jw (it:=v1) (xs:=(gr q x.No)) (ι:=Bool×HF) [] (fun i=>i.2) (fun i=>[(b3,O [.bool i.1] 4),z2,z1]) (fun s i=>dV q x=((dV.L1 (dV.K1)) s i.1)∧HF.le h1 i.2) (fun i=>dV q x=i.1∧HF.le h1 i.2) (fun _=>False) 0 (fun _ _ _=>False) (false,h1) IZ U mo1 U pS (fun _ _ _ _ _ hq=>hq) U (show [(b3,O [.bool false] 4),z2,z1]=_ from U) ⟨hs0,lf⟩ ?_ ?_ ?_ ?_ ?_
 ·rintro l1 dm1 lp1 y1 rz1 vs1 ⟨bJ,hh1⟩ hr1 X hFR1 ⟨hs1,hl1⟩ hl01 hlr1 hv1 hX hXM hlp1 nx1 rt1 ex1 pn1
  obtain rfl:=hv1
  exact cu (L':=[(l1,.loop lp1),(dm1,.deferred (some [])),(b3,O [.bool bJ] 4),z2,z1]++(markB [])) ap (aJ (jh 0 U hlp1 (qT 3 U (cJ 2 ty4 U U U U U U (aD (cu (L':=rdH l1 dm1 lp1 (([(b3,O [.bool true] 4),z2,z1])++markB [])) ap (rt1 (true,hr1) _ _ _ ⟨hs1,(hl1.t hlr1)⟩ lf)))))))
 ·rintro dm1 ⟨bJ,hh1⟩ hn1 ⟨hs2,hl1⟩ hln1 hl01
  refine cu (L':=[(b3,O [.bool bJ] 4),z2,z1]++(markB (dm1::[]))) ap (qT 3 U (cJ 0 ty4 U U U U U U (aD ?_)))
  have hs3:dV q x=false:=hs2
  exact cu (L':=([(b3,O [.bool false] 4),z2,z1])++markB (dm1::[])) ap (pE (dm1::[]) [.bool false] IZ U hX ⟨⟨0,_,_,_,_,U,U,.inr ⟨_,ty4,U⟩⟩,trivial⟩ (cs hs3))
 ·rintro dm1 ⟨bJ,hh1⟩ hn1 ⟨hs4,hl1⟩ hln1 hl01
  refine cu (L':=[(b3,O [.bool bJ] 4),z2,z1]++(markB (dm1::[]))) ap ?_
  have hs5:dV q x=bJ:=hs4
  exact cu (L':=([(b3,O [.bool bJ] 4),z2,z1])++markB (dm1::[])) ap (pE (dm1::[]) [.bool bJ] IZ U hX ⟨⟨0,_,_,_,_,U,U,.inr ⟨_,ty4,U⟩⟩,trivial⟩ (cs hs5))
 ·exact xf
 exact xf
end Go.Sg
namespace Go.Sg
open Go.Proofs Go.Proofs.Tryz
theorem Es (h:HF) (x:Holder) (s:Int) (bk:Nat):mP prog 286 [.agg (Holder.cells x).toArray,.pointer (some ⟨bk,0,none⟩)].toArray h [(bk,Obj.cells (List.toArray [.int .i64 s]) 3 (0,0))]
  (fun r h' B=>r=.returned (.tuple #[])∧h'=h∧B=[(bk,Obj.cells (List.toArray [.int .i64 (IntKind.wrap .i64 (s+x.Weight))]) 3 (0,0))]):=by
 refine cz func286 rfl ntmps286 rfl fun X hM hX=>?_
 refine aR (ay (cA (fun b2=>aD (ay (kl 1 ty3 rfl rfl rfl (fX KC rfl (kl 0 ty3 rfl rfl rfl (Bg rfl (cJ 1 ty3 rfl rfl rfl rfl rfl rfl (aD ?_))))))))))
 exact tL func286 (fun a _ w _=>kO rfl a w) (fun w hw=>hw.sub (List.sublist_cons_self _ _)) ⟨rfl,rfl,rfl⟩
end Go.Sg
