import Derived.Test.YtknehchipcogdaaGreatDoorJ61
/- Part of JudgeSpec. -/
set_option linter.unusedVariables false
set_option linter.unusedSimpArgs false
set_option maxRecDepth 100000
open List renaming length_cons→xA,not_mem_nil→vA,length_append→kA,mem_cons_self→zB,length_nil→xB,toArray→vB,mem_singleton→kB,append_assoc→zC,range→xF
open Go.Sg.Rp renaming int→jB,bG→vJ
open Go.Sg.HF renaming le_trans→xD
open Nat renaming zero_le→kJ,le_trans→zN
open Go.Sg.SlC renaming nil→vE
open Go.Sg.Register renaming cells→vH,ok→vM,mk→kM
open Go.Sg.Budget renaming rp→xV,mk→YM,aB→ZU
namespace Go.Sg
variable {P:Program}{f:FuncId}{pe:Int->Go.Value}{v:Go.Value}{vs:List Go.Value}{x:Operand}{ρ:Type}
section
open Go.Proofs Go.Proofs.Tryz
set_option maxHeartbeats 4000000
theorem E9(h c rL c_q vK bV bU signed_q)(hc:bZ.ok h c rL)(ac:At h c_q (bZ.cells c rL))(iC:SlC jB h bV bU vK)(asigned:At h signed_q [.slice bV vK.length bU])(hsm:smR c.Register)(hco:kj c)(hln:c.Register.cj.length<20)(hsg:bT c.Register.cj vK=true):Ret prog 33 [.pointer (some c_q),.pointer (some signed_q)] h (.bool (CD c vK)):=by
 refine sVv func33 ntmps33 ?_
 generalize hz:(CD c vK)=z
 have hsq:=hsm;unfold smR at hsq
 have hcq:=hco;cases hcq
 exact W
theorem CW(h p jv vL vN)(bh:List (List aV))(gr gp gv nd na)(hp:aw.ok h p jv)(pt:SlC (Rp.sl aV.rp) h gr gp bh)(hwho:SlC jB h nd na gv)(hsm:smP p)(hsz0:∀y∈bh,y.length<=2000000)(hsw:gv.length<=2000000)(hk:ey h):Ret prog 182 [.agg (aw.cells p jv).toArray,I vL,I vN,.slice gr bh.length gp,.slice nd gv.length na] h (.tuple #[.bool ((me p vL vN bh gv).1),I ((me p vL vN bh gv).2)]):=by
 refine sVv func182 ntmps182 ?_
 generalize hz:(me p vL vN bh gv)=z
 have hsq:=hsm;unfold smP at hsq
 have k0:=λ(a:dF p=0)(b:¬vL<0)(c:¬(p.ey.length:Int)<=vL)=>(show 0<=vL/\vL<(p.dt.length:Int)from by have:=(sS a).1;omega)
 have k1:=λa b c(d:dg bh (p.aD.length:Int)=true)=>(show OkX (bh.length:Int) (nthI p.dt vL).ai from by rw[LE d];exact(sS a).2.2 _ (De (lu (k0 a b c))))
 have k2:=@KR
 exact W
instance k182:Ct 182:=⟨_,call182,@CW⟩
theorem AG(h bK fA)(nW:vM h bK fA)(hsm:smR bK):Ret prog 12 [.agg (vH bK fA).toArray] h (I (ij bK)):=by
 refine sVv func12 ntmps12 ?_
 generalize hz:(ij bK)=z
 have hsv:=hsm.vers
 have hsq:=hsm;unfold smR at hsq
 exact W
instance k12:Ct 12:=⟨_,call12,@AG⟩
theorem CK(h l eP eO aW aT ad)(hl:SlC aC.rp h eP eO l)(hsm:smV l)(hk:ey h):j0 prog 108 [.slice eP l.length eO,I aW,I aT,I ad] h (λv h'=>∃(rb0:Option Addr)(rc0:Nat),v=.tuple #[.slice rb0 ((aN l aW aT ad).1).length rc0,I ((aN l aW aT ad).2.1),I ((aN l aW aT ad).2.2)]/\SlC jB h' rb0 rc0 ((aN l aW aT ad).1)):=by
 refine el Oj U ntmps108 U λX hM hX=>?_
 have hs0:=@rfl _ (aN l aW aT ad)
 have hsl:=hsm.len
 refine sr (j2 (λb1=>j2 (λb2=>qO 8 U (e9 call49 (tB _ _ _ _ hl ob hk) U (qO 7 U (dy hs0 U (λc1 hs1=>?_) (λc1 hs2=>?_)))))))
 .refine qT 7 U ?_
  have hs3:aN l aW aT ad=([],0,(bE l)):=hs1
  exact mK [zSN,I 0,I (bE l)] Oj U rd ⟨none,0,congrArg (λr:(List Int×Int×Int)=>(.tuple #[.slice none r.1.length 0,I r.2.1,I r.2.2]:Value)) hs3.symm,(by rw[hs3];exact vE)⟩
 refine qK 5 [1] U (e9 call178 (qY h aW) U (qO 2 U (pH 4 [25,26,27,28,29] 25 29 (!(io aT)) U (λc2 hk1=>?_) (λe=>?_))))
 .exact qL 1 [0] U (e9 call178 (qY h aT) U (qO 2 U (hk1 _ U)))
 refine dU (pH 4 [30,31,32,33,34] 30 34 (!(io ad)) U (λc3 hk2=>?_) (λe=>?_))
 .exact dU (e9 call178 (qY h ad) U (qO 2 U (hk2 _ U)))
 refine dU (pH 4 [35,36,37,38,39] 35 39 (decide (aT<aW)) U (λc4 hk3=>?_) (λe=>?_))
 .exact qL 4 [1,0] U (hk3 _ U)
 refine ck (dy hs2 U (λc5 hs4=>?_) (λc5 hs5=>?_))
 .refine qT 6 U ?_
  have hs6:aN l aW aT ad=([],0,1):=hs4
  exact mK [zSN,I 0,I 1] Oj U rd ⟨none,0,congrArg (λr:(List Int×Int×Int)=>(.tuple #[.slice none r.1.length 0,I r.2.1,I r.2.2]:Value)) hs6.symm,(by rw[hs6];exact vE)⟩
 refine qT 3 U (cS zc26 (λb3=>qO 3 U (cS zc4 (λb4=>dK 0 ty4 U U U U U U (qL 7 [3] U (aS (eb call179 (Cd _ _ _ _ aW ad hl ob) U (λv1 h1 kE hp1=>?_))))))))
 obtain⟨_,rfl,mo1⟩:=hp1
 refine qO 2 U (ke (eA (L':=([(b4,O [.bool false] 4),(b3,O [zSN] 26),(b2,O [I aT] 3),(b1,O [I aW] 3)])++markB []) ap ?_))
 refine Lq (it:=v1) (xs:=(gh l aW ad)) (ι:=Bool×List aC×Option Addr×Nat×LH×HF) [] (λi=>i.2.2.2.2.2) (λi=>[(b4,O [.bool i.1] 4),(b3,O [.slice i.2.2.1 i.2.1.length i.2.2.2.1] 26),(b2,O [I aT] 3),(b1,O [I aW] 3)]++(i.2.2.2.2.1)) (λs i=>aN l aW aT ad=((aN.L1 aW aT (aN.K1)) s i.1 i.2.1)/\di aC.rp 63 i.2.2.2.2.2 i.2.1 i.2.2.1 i.2.2.2.1 i.2.2.2.2.1/\HF.le h1 i.2.2.2.2.2/\(∀x∈i.2.1,x∈l)/\(∀q∈s,q.2∈l)/\i.2.1.length+s.length<=l.length) (λ_=>False) 0 (λ_ _ _=>False) (false,[],none,0,[],h1) Oj U mo1 U ul (λ_ _ _ _ _ hq=>hq) U (show[(b4,O [.bool false] 4),(b3,O [zSN] 26),(b2,O [I aT] 3),(b1,O [I aW] 3)]=_ from U) ⟨hs5,di.nil,lf,(λx hx=>(vA hx).elim),Bf,(by have:=F1 l aW ad;simpa using this)⟩ ?_ ?_ ?_ ?_
 .rintro l1 dm1 lp1 y1 rz1 vs1 ⟨fh,cT,ni,nh,nj,hh1⟩ hr1 X hFR1 ⟨hs7,pu,hl1,kR,u1_1,u1_2⟩ hl01 hlr1 hv1 hX hXM hlp1 nx1 rt1 ex1 pn1
  try dsimp only at pu hl1 kR u1_1 u1_2 hlr1
  obtain⟨rr1_0,rfl,ok1_0⟩:=hv1
  simp only[xA]at u1_2
  let z2:Nat×Obj:=(b3,O [.slice ni cT.length nh] 26)
  let z6:Nat×Obj:=(dm1,.deferred (some []))
  refine eA (L':=[(l1,.loop lp1),z6,(b4,O [.bool fh] 4),z2,(b2,O [I aT] 3),(b1,O [I aW] 3)]++(nj++(markB []))) ap (qT 5 U (cS zc63 (λb6=>cJ 0 ty63 U U U U U U (mf (L':=[(b6,O (aC.cells y1.2 rr1_0) 63),(l1,.loop lp1),z6,(b4,O [.bool fh] 4),z2,(b2,O [I aT] 3),(b1,O [I aW] 3)]++(nj++(markB []))) U (ck (nJ 1 U hlp1 (qK 8 [5] U (dy hs7 U (λc7 hs8=>?_) (λc7 hs9=>?_)))))))))
  .have c7p:=of_decide_eq_true c7
   exact ek (L':=[(l1,.loop { lp1 with state:=.busy }),z6,(b4,O [.bool fh] 4),z2,(b2,O [I aT] 3),(b1,O [I aW] 3)]++(nj++(markB []))) js (eA (L':=rdH l1 dm1 lp1 (([(b4,O [.bool fh] 4),z2,(b2,O [I aT] 3),(b1,O [I aW] 3)]++(nj))++markB [])) ap (ex1 (fh,cT,ni,nh,nj,hr1) _ _ _ ⟨hs8,(pu.mono aC.aB hlr1),(hl1.t hlr1),kR,(λq hq=>(vA hq).elim),(by simp only[xB,xA]at *;omega)⟩ lf U))
  have c7p:=of_decide_eq_false c7
  refine qK 5 [3] U (pH 4 [50,51,52,53,54] 50 54 (y1.1==aW) U (λc8 hk4=>?_) (λe=>?_))
  .exact qL 4 [6] U (hk4 _ U)
  refine dK 3 ty4 U U U U U U (qL 3 [4] U (ga 0 ty63 U U U (aS (cM (cells:=[I y1.2.No,I y1.2.At,I y1.2.eH,.string y1.2.aw.Name,.slice rr1_0.aw.lj y1.2.aw.ey.length rr1_0.aw.li,.slice rr1_0.aw.iM y1.2.aw.aD.length rr1_0.aw.iL,.slice rr1_0.aw.sB y1.2.aw.dt.length rr1_0.aw.sA,I y1.2.aw.aP.Kind,I y1.2.aw.aP.N,I y1.2.aw.aP.No,.string y1.2.aw.aP.Name,.slice rr1_0.aw.aP.qg y1.2.aw.aP.L.length rr1_0.aw.aP.qs,I y1.2.aw.Mode]) FA ty63 zc63 U U kr (λb7=>?_)))))
  let z1:Nat×Obj:=(b7,O [I y1.2.No,I y1.2.At,I y1.2.eH,.string y1.2.aw.Name,.slice rr1_0.aw.lj y1.2.aw.ey.length rr1_0.aw.li,.slice rr1_0.aw.iM y1.2.aw.aD.length rr1_0.aw.iL,.slice rr1_0.aw.sB y1.2.aw.dt.length rr1_0.aw.sA,I y1.2.aw.aP.Kind,I y1.2.aw.aP.N,I y1.2.aw.aP.No,.string y1.2.aw.aP.Name,.slice rr1_0.aw.aP.qg y1.2.aw.aP.L.length rr1_0.aw.aP.qs,I y1.2.aw.Mode] 63)
  let z4:Nat×Obj:=(b4,O [.bool (fh||(y1.1==aW))] 4)
  let z5:Nat×Obj:=(l1,.loop { lp1 with state:=.busy })
  let z7:Nat×Obj:=(b6,O (aC.cells y1.2 rr1_0) 63)
  refine aS (dN aC.ft ([z1,z7,z5,z6,z4,z2,(b2,O [I aT] 3),(b1,O [I aW] 3)]) (markB []) (λG=>[z1,z7,z5,z6,z4,z2,(b2,O [I aT] 3),(b1,O [I aW] 3)]++(markB []++G)) ap (λ_=>ap) FA ty63 zc63 U bytes63 (pu.mono aC.aB hlr1) U U (gQ 0 U (cE (R:=aC.rp) (y1.2) U ⟨rr1_0,U,ok1_0⟩)) lo lo (λob1 oc1 G1 gr1=>wl (BN ([z1,z7,z5,z6,z4,z2,(b2,O [I aT] 3),(b1,O [I aW] 3)]) G1 (markB [])) (dK 5 ty26 U U U U U U (qO 2 U ?_))))
  let z9:Nat×Obj:=(b3,O [.slice ob1 ((cT++[y1.2]).length) oc1] 26)
  exact ek (L':=[z5,z6,z4,z9,(b2,O [I aT] 3),(b1,O [I aW] 3)]++(G1++(markB []))) js (eA (L':=rdH l1 dm1 lp1 (([z4,z9,(b2,O [I aT] 3),(b1,O [I aW] 3)]++G1)++markB [])) ap (nx1 ((fh||(y1.1==aW)),(cT++[y1.2]),ob1,oc1,G1,hr1) _ _ ⟨hs9,gr1,(hl1.t hlr1),(λx hx=>(List.mem_append.1 hx).elim (kR x) (λhx=>by rw[kB.1 hx];exact u1_1 y1 (zB ..))),(λq hq=>u1_1 q (List.mem_cons_of_mem _ hq)),(by simp only[kA,xA,xB]at *;omega)⟩ lf))
 .rintro dm1 ⟨fh,cT,ni,nh,nj,hh1⟩ hn1 ⟨hs10,pu,hl1,kR,u1_1,u1_2⟩ hln1 hl01
  try dsimp only at pu hl1 kR u1_1 u1_2 hln1
  let z3:Nat×Obj:=(b3,O [.slice ni cT.length nh] 26)
  refine eA (L':=[(b4,O [.bool fh] 4),z3,(b2,O [I aT] 3),(b1,O [I aW] 3)]++(nj++(markB (dm1::[])))) ap (qK 7 [1] U (dy hs10 U (λc9 hs11=>?_) (λc9 hs12=>?_)))
  .refine qT 6 U ?_
   have hs13:aN l aW aT ad=([],0,0):=hs11
   exact eA (L':=([(b4,O [.bool fh] 4),z3,(b2,O [I aT] 3),(b1,O [I aW] 3)]++(nj))++markB (dm1::[])) ap (uX (dm1::[]) [zSN,I 0,I 0] Oj U rd ⟨none,0,congrArg (λr:(List Int×Int×Int)=>(.tuple #[.slice none r.1.length 0,I r.2.1,I r.2.2]:Value)) hs13.symm,(by rw[hs13];exact vE)⟩)
  refine qK 6 [1,1] U (ls (v':=I ((cT.length:Int)-1)) U (nv ob) (sP aC.aB ([(b4,O [.bool fh] 4),z3,(b2,O [I aT] 3),(b1,O [I aW] 3)]) nj (markB (dm1::[])) ap hM (pu.mono aC.aB hln1) (λh2 kF sl1=>?_)))
  have ho1:0<=(((cT.length:Int)-1):Int)/\(((cT.length:Int)-1):Int)<((cT).length:Int):=ob
  refine aS (If FA ty63 sl1.1 ho1 (eu ho1) U U U (λ_ _ _ e=>e) (λq1 r1 A1 ok1=>qL 2 [] U (nm (j:=12) ty3 A1 U U (qO 4 U (hU ([(b4,O [.bool fh] 4),z3,(b2,O [I aT] 3),(b1,O [I aW] 3)]) mixed kr jn (λkI _=>tm 1 U (tf 3 U U (rj 1 ty26 U U U) (tf 4 U U (rj 0 ty4 U U U) (tm 7 U (tn 0 U (eb call180 (uW h2) U (λv2 h3 kG hp2=>?_))))))))))))
  obtain⟨rk2,rfl,mo2⟩:=hp2
  refine⟨jl kG,tu kG (tn 2 U ?_)⟩
  obtain⟨o1,hb1,hm1⟩:=mo2
  refine ru (k:=(nthI cT ((cT.length:Int)-1)).aw.Mode) Ol (im qZ) hb1 hm1 (gF zv237) (show VFn _ (.nilFunc) Value.nilFunc from U) U U (λv3 hv1=>?_)
  obtain rfl:=hv1
  refine⟨jn,tn 5 U (T8 (Px h3 ((nthI cT ((cT.length:Int)-1)).aw.Mode) (((rI l).1 (by simpa using c1)).mode (kR _ (lu ho1))) cT ni nh fh (sl1.mono aC.aB kG) ob) U U (λv4 h4 kK hp3=>?_))⟩
  obtain⟨rb1,rc1,rfl,sl2⟩:=hp3
  have hjl:=Pz ((nthI cT ((cT.length:Int)-1)).aw.Mode) cT fh
  refine⟨jl kK,tu kK (tf 6 U U (λ_ _ _=>LG FA U) (dJ kr ?_))⟩
  refine lp2 (judgesP ((nthI cT ((cT.length:Int)-1)).aw.Mode) cT fh) (λi w=>[(8,.slice w.2.1 w.1.length w.2.2.1),(9,I ((nthI cT ((cT.length:Int)-1)).aw.Mode)),(75,.slice rb1 ((judgesP ((nthI cT ((cT.length:Int)-1)).aw.Mode) cT fh).length) rc1),(76,I (((judgesP ((nthI cT ((cT.length:Int)-1)).aw.Mode) cT fh).length:Nat):Int)),(77,I (i:Int))]) (λ_=>h4) (λw=>[(b4,O [.bool fh] 4),z3,(b2,O [I aT] 3),(b1,O [I aW] 3)]++(w.2.2.2++(markB (dm1::[])))) (λi w=>di jB 3 h4 w.1 w.2.1 w.2.2.1 w.2.2.2/\w.1.length<=0+i) (λs2 i w=>(aN.L2 (aN.K2 cT)) s2 w.1) ([],none,0,[]) sl2.1.1 hs12 ⟨di.nil,lo⟩ ?_ ?_
  .rintro i2 ⟨nX,yh,yg,um⟩ pq hs14 ⟨zx,UJ⟩ e
   try dsimp only at zx UJ
   refine qT 3 U (aS (pT ([(b4,O [.bool fh] 4),z3,(b2,O [I aT] 3),(b1,O [I aW] 3)]) um (markB (dm1::[])) Tw (oL h4 nX yh yg um zx (by first|assumption|omega|(simp only[kA,xA,xB] ;omega))) ap U (λG4 gr4=>qO 9 U (jz vJ ([(b4,O [.bool fh] 4),z3,(b2,O [I aT] 3),(b1,O [I aW] 3)]) G4 (markB (dm1::[])) ap hM gr4 (λh6 kQ sl4=>?_)))))
   have hs15:aN l aW aT ad=((sortI nX),(nthI cT ((cT.length:Int)-1)).aw.Mode,0):=hs14
   exact eA (L':=([(b4,O [.bool fh] 4),z3,(b2,O [I aT] 3),(b1,O [I aW] 3)])++markB (dm1::[])) ap (uX (dm1::[]) [.slice yh nX.length yg,I ((nthI cT ((cT.length:Int)-1)).aw.Mode),I 0] Oj U rd ⟨yh,yg,(by rw[hs15];simp[retVal,kO]),(by rw[hs15];exact sl4)⟩)
  rintro i2 ⟨nX,yh,yg,um⟩ y2 rz2 hd2 Cr zw L8 UC hs16 ⟨zx,UJ⟩ hx2 ag1 e
  try dsimp only at zx UJ
  refine sr (tO Cr U (qO 8 U (aS (iR FA ty63 sl2.1 zw U U U (λ_ _ _ e=>e) (λq3 r3 A3 ok3=>lh ty63 A3 U U (cS zc63 (λb10=>cJ 0 ty63 U U U U U U (mf (L':=[(b10,O (aC.cells y2 r3) 63),(b4,O [.bool fh] 4),z3,(b2,O [I aT] 3),(b1,O [I aW] 3)]++(um++(markB (dm1::[])))) U ?_))))))))
  let z8:Nat×Obj:=(b10,O (aC.cells y2 r3) 63)
  exact qL 5 [0] U (aS (cM (cells:=[I y2.No]) fm ty3 zc3 U U kr (λb11=>aS (dN Rp.fR ([(b11,O [I y2.No] 3),z8,(b4,O [.bool fh] 4),z3,(b2,O [I aT] 3),(b1,O [I aW] 3)]) (markB (dm1::[])) (λG=>[(b11,O [I y2.No] 3),z8,(b4,O [.bool fh] 4),z3,(b2,O [I aT] 3),(b1,O [I aW] 3)]++(markB (dm1::[])++G)) ap (λ_=>ap) fm ty3 zc3 U bytes3 zx U U (gQ 0 U (cE (y2.No) U U)) lo lo (λob3 oc3 G5 gr5=>wl (BN ([(b11,O [I y2.No] 3),z8,(b4,O [.bool fh] 4),z3,(b2,O [I aT] 3),(b1,O [I aW] 3)]) G5 (markB (dm1::[]))) (qO 4 U (oi i2 U (qO 2 U (ek (L':=[(b4,O [.bool fh] 4),z3,(b2,O [I aT] 3),(b1,O [I aW] 3)]++(G5++(markB (dm1::[])))) js (ag1 ((nX++[y2.No]),ob3,oc3,G5) hs16 ⟨gr5,lo⟩))))))))))
 .exact xf
 exact xf
theorem pZ(h bK fA)(nW:vM h bK fA)(hsm:smR bK)(hk:ey h):Ret prog 11 [.agg (vH bK fA).toArray] h (I (cQ bK)):=by
 refine sT func11 U ntmps11 U λX hM hX hF=>?_
 have hs0:=@rfl _ (cQ bK)
 have hsv:=hsm.vers
 refine sr (j2 (λb1=>qO 4 U ?_))
 let z1:Nat×Obj:=(b1,O (vH bK fA) 30)
 refine hU ([z1]) mixed kr jn (λkI _=>?_)
 refine qB [0] U (tf 1 U U (rj 0 ty22 U U U) (qB [3] U (tf 4 U U (rj 0 ty23 U U U) (qB [6] U (tf 7 U U (rj 0 ty24 U U U) (qB [9] U (tf 10 U U (rj 0 ty25 U U U) (qB [12] U (tf 13 U U (rj 0 ty26 U U U) (qB [15] U (tf 16 U U (rj 0 ty27 U U U) (qB [18] U (tf 19 U U (rj 0 ty28 U U U) (tm 23 U (tn 2 U (kg call45 (xX _ _ _ _ nW.fj) U (⟨jn,tn 5 U (kg call46 (wH _ _ _ _ nW.dY) U (⟨jn,tn 8 U (kg call47 (vu _ _ _ _ nW.gu) U (⟨jn,tn 11 U (kg call48 (yj _ _ _ _ nW.fF) U (⟨jn,tn 14 U (kg call49 (tB _ _ _ _ nW.Versions ob hk) U (⟨jn,(tn 17 U (kg call50 (rl _ _ _ _ nW.cj) U (⟨jn,(tn 20 U (kg call51 (we _ _ _ _ nW.bS) U (⟨jn,(tn 21 U (cM (cells:=[I (du bK.fj),I (dG bK.dY),I (cK bK.gu),I (bY bK.fF),I (bE bK.Versions),I (aR bK.cj),I (bN bK.bS)]) underlying110 ty37 zc37 U U kr (λb2=>⟨jn,(tf 22 U U (λ_ _ _=>LG underlying110 U) (dJ kr (fK 0 U hM (λh1 kE hb1=>?_))))⟩)))⟩)))⟩)))⟩))⟩))⟩))⟩))⟩)))))))))))))))))
 have sl1:SlC jB h1 (zAD b2) 7 ([(du bK.fj),(dG bK.dY),(cK bK.gu),(bY bK.fF),(bE bK.Versions),(aR bK.cj),(bN bK.bS)]):=bW.slB0 (T:=37) (fz:=(0,0)) ((show bW jB h [I (du bK.fj),I (dG bK.dY),I (cK bK.gu),I (bY bK.fF),I (bE bK.Versions),I (aR bK.cj),I (bN bK.bS)] ([(du bK.fj),(dG bK.dY),(cK bK.gu),(bY bK.fF),(bE bK.Versions),(aR bK.cj),(bN bK.bS)])from⟨[I (du bK.fj)],[I (dG bK.dY),I (cK bK.gu),I (bY bK.fF),I (bE bK.Versions),I (aR bK.cj),I (bN bK.bS)],rfl,rfl,rfl,⟨[I (dG bK.dY)],[I (cK bK.gu),I (bY bK.fF),I (bE bK.Versions),I (aR bK.cj),I (bN bK.bS)],rfl,rfl,rfl,⟨[I (cK bK.gu)],[I (bY bK.fF),I (bE bK.Versions),I (aR bK.cj),I (bN bK.bS)],rfl,rfl,rfl,⟨[I (bY bK.fF)],[I (bE bK.Versions),I (aR bK.cj),I (bN bK.bS)],rfl,rfl,rfl,⟨[I (bE bK.Versions)],[I (aR bK.cj),I (bN bK.bS)],rfl,rfl,rfl,⟨[I (aR bK.cj)],[I (bN bK.bS)],rfl,rfl,rfl,⟨[I (bN bK.bS)],[],rfl,rfl,rfl,rfl⟩⟩⟩⟩⟩⟩⟩).mono vJ kE) hb1
 refine km (ι:=Nat) (λi=>[]) (λi=>h1) (λi=>[z1]) (λi=>i<=(xF 7).length/\cQ bK=((cQ.K1))) ?_ (λhx1=>?_)
 .rintro i1 ⟨pq,hs1⟩ e
  exact sr (an (nretP [I 0] (ci hs1)))
 refine mL (ι:=Nat×List Nat) (λi=>[(26,.slice (zAD b2) 7 7),(27,I 7),(28,I (i.1:Int))]) (λi=>h1) (λi=>[z1]) (λi=>(xF 7).drop i.1=i.2/\i.1<=(xF 7).length/\cQ bK=((cQ.L1 bK (cQ.K1)) i.2 i.1)) (λi=>i.2.length) (0,(xF 7)) rd sw ⟨U,kJ _,hs0⟩ ?_
 rintro⟨i1,s1⟩ ⟨hd1,pq,hs3⟩ ag1 e
 rcases s1 with _|⟨y1,rz1⟩
 .have rZ:decide ((i1:Int)<7)=false:=by simpa using rm hd1
  exact sr (fO rZ U (qO 4 U (hx1 i1 _ ⟨pq,hs3⟩ trivial)))
 have ns:decide ((i1:Int)<7)=true:=by simpa using Bs hd1
 have po:i1<7:=by simpa using kl hd1
 refine sr (tO ns U (qO 8 U ?_))
 have ho2:0<=((i1:Int):Int)/\((i1:Int):Int)<(([(du bK.fj),(dG bK.dY),(cK bK.gu),(bY bK.fF),(bE bK.Versions),(aR bK.cj),(bN bK.bS)]).length:Int):=ob
 refine aS (tW (enc:=λy=>[I y]) ei underlying110 ty37 sl1.1 ho2 (eu ho2) U U U (λq2 A2=>iw ty37 A2 U (qO 7 U (dy hs3 U (λc2 hs5=>?_) (λc2 hs6=>?_)))))
 .exact sr (an (nretP [I 300] (ci hs5)))
 exact jf (qT 2 U (oi i1 U (qO 2 U (ag1 ((i1+1),rz1) _ (Nat.lt_succ_self _) ⟨nl hd1,kl hd1,hs6⟩ rd))))
theorem xa(h c rL p jv gv nd na)(hc:bZ.ok h c rL)(hp:aw.ok h p jv)(hwho:SlC jB h nd na gv)(hsm:smR c.Register)(hco:kj c)(hsp:smP p)(hofl:p.aD.length<=32)(hsw:gv.length<=2000000)(hk:ey h):Ret prog 109 [.agg (bZ.cells c rL).toArray,.agg (aw.cells p jv).toArray,.slice nd gv.length na] h (.bool (eo c p gv)):=by
 refine sVv func109 ntmps109 ?_
 generalize hz:(eo c p gv)=z
 have hsq:=hsm;unfold smR at hsq
 have q4:=λ(i:Int)(a:0<=i/\i<32)=>(show my ((jh c.Register.fj i c.at_ c.ad).2)=.ok ()from by rw[Gu ((kh _).1 hco.chk).1 a hco.time hco.know];rfl)
 have q5:=λ(i:Int)=>zN (BD c.Register.fj i c.at_ c.ad) hsm.2.1
 have hcq:=hco;cases hcq
 have q0:=@Gu
 have q1:=@BD
 have HA:=lM [2,3,4,15] 16 (.mJ (λw=>(∀y∈w.1,y.length<=2000000)) (.mG 7 (Rp.sl aV.rp) 241 .mE)) (λs1 i w=>(eo.L1 c (eo.K1 c p gv)) s1 i w.1)
 exact W
theorem Ir(h bK fA vK bV bU u xl xk bD dh ad)(nW:vM h bK fA)(iC:SlC jB h bV bU vK)(hu:SlC Use.rp h xl xk u)(hsm:smR bK):Ret prog 40 [.agg (vH bK fA).toArray,.slice bV vK.length bU,.slice xl u.length xk,I bD,I dh,I ad] h (I (jb bK vK u bD dh ad)):=by
 refine sVv func40 ntmps40 ?_
 generalize hz:(jb bK vK u bD dh ad)=z
 have hsq:=hsm;unfold smR at hsq
 exact W
instance k40:Ct 40:=⟨_,call40,@Ir⟩
section
variable {P:Program} {e:Env} {X:Cx} {h:HF} {L:LH} {d:Option Nat} {ty:TypeId} {pos:String} {af:Array Edge} {g:Option (Nat×Bool)}
theorem VA{t u:TypeId}(hT:∃ms,P.underlying t=some (.interface ms))(hx:e.ev x=.nilIface):∀w,St X h L w->(execOp e.ev ⟨d,.binOp .eql t x (.const .nilIface) u,ty,pos,af,g⟩).run P w=.ok (.value (.bool true)) w:=
 λw _=>by
  obtain⟨ms,hT⟩:=hT
  have hc:e.ev (.const .nilIface)=.nilIface:=rfl
  have he:(Op.equal t .nilIface .nilIface).run P w=.ok true w:=by
   rw[Op.equal,Op.maxDepth,show(10000:Nat)=9999+1 from rfl,Op.equalIn];simp[run_underlying hT]
  simp[execOp,hx,hc,eqGuard,binOp,he]
theorem Vz{t u:TypeId}{T:TypeId}(hT:∃ms,P.underlying t=some (.interface ms))(hx:e.ev x=.iface T v):∀w,St X h L w->(execOp e.ev ⟨d,.binOp .eql t x (.const .nilIface) u,ty,pos,af,g⟩).run P w=.ok (.value (.bool false)) w:=
 λw _=>by
  obtain⟨ms,hT⟩:=hT
  have hc:e.ev (.const .nilIface)=.nilIface:=rfl
  have he:(Op.equal t (.iface T v) .nilIface).run P w=.ok false w:=by
   rw[Op.equal,Op.maxDepth,show(10000:Nat)=9999+1 from rfl,Op.equalIn];simp[run_underlying hT]
  simp[execOp,hx,hc,eqGuard,binOp,he]
theorem Qu{xt T:TypeId}{k:IntKind}(hT:P.underlying T=some (.int k))(hx:e.ev x=.iface T v):∀w,St X h L w->(execOp e.ev ⟨d,.typeAssert x xt T true,ty,pos,af,g⟩).run P w=.ok (.value (.tuple #[v,.bool true])) w:=
 λw _=>by simp[execOp,hx,Instr.typeAssert,run_underlying hT]
end
theorem Kg(h b1 e0)(X':Cx):TT prog (deferFrame 28) 14 [.code (bodyOf Tryz.f28)] (Km prog X' .returning (λh' B=>h'=h/\B=[(b1,O [I e0] 37)])) (envArgs [Q b1]) [] X' h [(b1,O [I e0] 37)]:=by
 exact sr (FB (λcs_z Φ⟨c,rest,hcs,hm,_⟩=>by subst hcs;simp[recoverD,hm]) (qO 4 U (aS (fU (VA ⟨_,Tm⟩ U) (qO 6 U (MM HL U ⟨U,U⟩))))))
theorem yY(h:HF)(b1:Nat)(e0 ee:Int)(X':Cx):TT prog (deferFrame 28) 14 [.code (bodyOf Tryz.f28)]
  (λcs_z Φ=>∃c rest,cs_z=c::rest/\c.mode=.panicking [{ v:=errV ee,recovered:=false }]/\Km prog X' (.panicking [{ v:=errV ee,recovered:=true }]) (λh' B=>h'=h/\B=[(b1,O [I ee] 37)]) ({ c with mode:=(.panicking [{ v:=errV ee,recovered:=true }]) }::rest) Φ)
  (envArgs [Q b1]) [] X' h [(b1,O [I e0] 37)]:=by
 exact sr (HV (F':=Km prog X' (.panicking [{ v:=errV ee,recovered:=true }]) (λh' B=>h'=h/\B=[(b1,O [I ee] 37)])) (errV ee) (λcs_z Φ⟨c,rest,hcs,hm,hF⟩=>⟨_,by subst hcs;simp[recoverD,hm],hF⟩) (qO 4 U (aS (fU (Vz ⟨_,Tm⟩ U) (qO 4 U (aS (fU (Qu underlying37 U) (qO 11 U (aS (fU (gK U) (dK 0 ty37 U U U U U U (qO 2 U (MM HL U ⟨U,U⟩)))))))))))))
theorem uO{b:Frame}{n:Nat}{ops:Array Oper}{l:List Oper}{k:List Item}{F:List Frame->(Machine->Prop)->Prop}{e:Env}{ds:List Deferred}{X:Cx}{h:HF}{L:LH}{d:Nat}{ty:TypeId}{pos:String}{af:Array Edge}{g:Option (Nat×Bool)}{ass:Array Operand}{ats:Array TypeId}{x:Except Int ρ}{φ:ρ->Value->HF->Prop}(hc:∀args w,(callFunc f args).run P w=.ok (.enter f args) w)(hs:My P f vs h pe x φ)(hvs:ass.toList.map e.ev=vs)(t':∀u v h',x=.ok u->h.le h'->φ u v h'->TO P b n ops l k F (upd e d v) ds X h' L)(tp:∀p h',x=.error p->h.le h'->TP P b n [{ v:=pe p,recovered:=false }] F e ds X h' L)(hdn:Nat.blt d n=true:=by rfl)(hg:guardB ops e ⟨some d,.call ⟨.value (.func f),ass,ats⟩,ty,pos,af,g⟩=true:=by rfl):
  TO P b n ops (⟨some d,.call ⟨.value (.func f),ass,ats⟩,ty,pos,af,g⟩::l) k F e ds X h L:=by
 refine ML U (rn hdn) U hg (λw hw=>?_)
 have harr:ass.map e.ev=vs.toArray:=Array.ext' (by simp[←hvs])
 refine⟨.enter f vs.toArray,w,?_,?_⟩
 .simp[execOp,resolve,Env.ev,Deferred.ofValue,invoke,harr,hc]
 refine lH (tT.mono (hs w (hw.sub (List.nil_sublist _)).pre) ?_)
 rintro y w' ⟨h',B,hst,rfl,hv⟩
 have hw2:=St.after (A:=[]) (B:=[]) (F:=L) hw hst
 cases y with
 |outgrown=>trivial
 |returned v=>
  cases x with
  |ok u=>obtain⟨v',hv,hφ⟩:=hv;cases hv;exact⟨h',_,hw2,t' _ _ _ rfl hst.le hφ⟩
  |error p=>cases hv
 |panicked ch=>
  cases x with
  |ok u=>obtain⟨v',hv,_⟩:=hv;cases hv
  |error p=>cases hv;exact⟨h',_,hw2,tp _ _ rfl hst.le⟩
theorem Fw.toXH{h:HF}{enc:ρ->Value}{x:Except Int ρ}(hs:Fw P f vs h (exW pe enc x)):My P f vs h pe x (λu v h'=>v=enc u/\h'=h):=
 qf.mono hs (λr h' B hl hR=>by
  obtain⟨rfl,rfl,hv⟩:=hR
  refine⟨U,?_⟩
  cases x with
  |ok u=>simp only[exW]at hv;exact⟨_,hv,rfl,rfl⟩
  |error p=>simp only[exW]at hv;exact hv)
theorem zt(h bK fA bD vP aU ad)(nW:vM h bK fA)(hsm:smR bK)(hk:ey h):
  j0 prog 23 [.agg (vH bK fA).toArray,I bD,I vP,I aU,I ad] h (λv h'=>∃(rb0:Option Addr)(rc0:Nat),v=.tuple #[.slice rb0 ((iB bK bD vP aU ad).1).length rc0,I ((iB bK bD vP aU ad).2)]/\SlC jB h' rb0 rc0 ((iB bK bD vP aU ad).1)):=by
 refine el Ra U ntmps23 U λX hM hX=>sr (j2 (λb5=>jj (cS zc37 (λb11=>qO 3 U (Ls U U (ck ?_))))))
 have fin:∀(hh:HF)(xs:List Int)(rb:Option Addr)(rc:Nat)(ee:Int)(B:LH)(e:Env),iB bK bD vP aU ad=(xs,ee)->SlC jB hh rb rc xs->e 10=.slice rb xs.length rc->e 11=Q b11->∀a:Act,envOf a=e->∀w,St X hh ([(b11,O [I ee] 37)]++B) w ->
   ∃v h2 B2,(results Tryz.f23 a.tmps).run prog w=.ok v w/\St X h2 B2 w/\(B2=[]/\∃v',Ending.returned v=.returned v'/\∃(rb0:Option Addr)(rc0:Nat),v'=.tuple #[.slice rb0 ((iB bK bD vP aU ad).1).length rc0,I ((iB bK bD vP aU ad).2)]/\SlC jB h2 rb0 rc0 ((iB bK bD vP aU ad).1)):=by
  intro hh xs rb rc ee B e he hs h10 h11 a ha w hw
  rw[he]
  exact⟨_,hh,[],oP (rs:=[.tmp 10,.cell 11 37]) (vs:=[.slice rb xs.length rc,I ee]) U ⟨h10,⟨0,b11,[I ee],37,(0,0),U,h11,.inr ⟨_,ty37,U⟩⟩,trivial⟩ a ha w hw,hw.sub (List.nil_sublist _),U,_,U,rb,rc,U,hs⟩
 refine sr (ga 1 ty30 U U U (e9 (v:=I (cQ bK)) Q9 (pZ h bK fA nW hsm hk) U ?_))
 refine uO Kp (lv h (cQ bK)).toXH U (λu v h1 hx1 kE hp1=>?_) (λee h1 hx1 kE=>?_)
 rotate_left
 .have e1:iB bK bD vP aU ad=([],ee):=by
   unfold my at hx1;unfold iB
   cases hc:cQ bK != 0 with
   |true=>rw[hc]at hx1;cases hx1;rfl
   |false=>rw[hc]at hx1;cases hx1
  refine Du (c:=bodyOf Tryz.f28) (cap:=[Q b11]) (A:=[(b11,O [I 0] 37)]) (R':=λh'' B=>h''=h1/\B=[(b11,O [I ee] 37)]) Ra HL U Oi U Oh (λX' _=>yY h1 b11 0 ee X') U ?_
  rintro h'' B _ ⟨rfl,rfl⟩ a ha w hw
  exact fin _ [] none 0 ee _ _ e1 vE U U a ha w hw
 obtain⟨rfl,rfl⟩:=hp1
 have hc0:cQ bK=0:=by
  unfold my at hx1
  cases hc:cQ bK != 0 with
  |true=>rw[hc]at hx1;cases hx1
  |false=>simpa using hc
 refine qO 3 U (ga 1 ty30 U U U (qO 3 U ?_))
 refine uO call32 (CB h1 bK fA bD aU ad nW) U (λc v h2 hx2 kF hp2=>?_) (λee h2 hx2 kF=>?_)
 rotate_left
 .have e1:iB bK bD vP aU ad=([],ee):=by unfold iB;rw[hc0,hx2];rfl
  refine Du (c:=bodyOf Tryz.f28) (cap:=[Q b11]) (A:=[(b11,O [I 0] 37)]) (R':=λh'' B=>h''=h2/\B=[(b11,O [I ee] 37)]) Ra HL U Oi U Oh (λX' _=>yY h2 b11 0 ee X') U ?_
  rintro h'' B _ ⟨rfl,rfl⟩ a ha w hw
  exact fin _ [] none 0 ee _ _ e1 vE U U a ha w hw
 obtain⟨cr,rfl,okc⟩:=hp2
 obtain⟨hce,hco,_,_⟩:=Nn hc0 hx2
 have hreg:c.Register=bK:=by rw[hce]
 have hsc:smR c.Register:=by rw[hreg];exact hsm
 refine cS zc91 (λb12=>cJ 0 ty91 U U U U U U (ck ?_))
 let z1:Nat×Obj:=(b12,O (bZ.cells c cr) 91)
 obtain⟨K,hK⟩:∃K:LH,K=[z1]:=⟨_,rfl⟩
 have J:∀{h':HF}{A:LH},h2.le h'->Jst h2 [z1] h' (z1::A):=λhl=>⟨hl,λq hq=>by rw[kB.1 hq];exact zB ..⟩
 refine eI (hU [z1] mixed kr (J lf) (λhsep _=>j5 0 hsep (J lf) U U kr U (λ_ _ hj=>nQ ty91 U (hj.nth (i:=0) U) U) (j5 1 hsep (J lf) U U kr U (λ_ _ hj=>nQ ty91 U (hj.nth (i:=0) U) U) (j5 2 hsep (J lf) U U kr U (λ_ _ _=>nT) ?_))))
 refine tn 3 U (OO call91 (sG h2 c cr vP okc) U (λp v h3 hpp kG hp3=>⟨J kG,?_⟩) (λee h3 hpp kG e' hA=>?_))
 rotate_left
 .have e1:iB bK bD vP aU ad=([],ee):=by unfold iB;rw[hc0,hx2];simp only[bne_self_eq_false,cond_false,hpp]
  refine Hk (L':=[(b11,O [I 0] 37)]++[z1,(b5,O (vH bK fA) 30)]) (List.Perm.swap _ _ _) (Du (c:=bodyOf Tryz.f28) (cap:=[Q b11]) (A:=[(b11,O [I 0] 37)]) (R':=λh'' B=>h''=h3/\B=[(b11,O [I ee] 37)]) Ra HL U Oi U Oh (λX' _=>yY h3 b11 0 ee X') U ?_)
  rintro h'' B _ ⟨rfl,rfl⟩ a ha w hw
  exact fin _ [] none 0 ee _ _ e1 vE ((hA.at_ 10).trans U) ((hA.at_ 11).trans U) a ha w hw
 have hpk:=uJ hco hsc hpp
 have e1:iB bK bD vP aU ad=(cZ c p,0):=by unfold iB;rw[hc0,hx2];simp only[bne_self_eq_false,cond_false,hpp]
 obtain⟨pr,rfl,okp⟩:=hp3
 refine tn 4 U (eb call90 (sH h3 c cr p pr (okc.mono kG) okp hsc hco hpk.rules) U (λv h4 kK hp4=>⟨J (kG.t kK),?_⟩))
 obtain⟨rb,rc,rfl,sl⟩:=hp4
 refine j5 5 hsep (J (kG.t kK)) U U kr U (λ_ _ _=>Ug) (tn 6 U (qi 1 (off:=0) (vs:=[I 0]) ty37 U U U U (by rfl) U ⟨J (kG.t kK),dJ kr (jy (L':=[(b11,O [I 0] 37)]++[z1,(b5,O (vH bK fA) 30)]) (List.Perm.swap _ _ _) (Oq (c:=bodyOf Tryz.f28) (cap:=[Q b11]) (A:=[(b11,O [I 0] 37)]) (R':=λh'' B=>h''=h4/\B=[(b11,O [I 0] 37)]) Ra HL U Oi U Oh (λX' _=>Kg h4 b11 0 X') U ?_))⟩))
 rintro h'' B _ ⟨rfl,rfl⟩ a ha w hw
 exact fin _ _ rb rc 0 _ _ e1 sl U U a ha w hw
theorem EH{α : Type}{xs:List α}{i:Nat}{y:α}(h:xs[i]? = some y):xs.take (i+1)=xs.take i++[y]:=by
  rw[List.take_add_one,h];rfl
theorem C7(h c rL bv s0 b0)(hc:bZ.ok h c rL)(hsm:smR c.Register)(hco:kj c)(hat:c.bD.At<=c.at_)(hk:ey h):
  qf prog 38 (vB [.agg (bZ.cells c rL).toArray,Q bv]) h [(bv,verO s0 b0 none 0 0 none 0 0)]
   (λr h' B=>∃vb vc wb wc G,r=.returned (.bool (gB c))/\B=(bv,verO s0 b0 vb (askJ c).1.length vc wb (askAll c).length wc)::G/\SlC jB h' vb vc (askJ c).1/\di jB 3 h' (askAll c) wb wc G):=by
 have hJ:Jdg c.Register.Versions (askJ c):=BZ hco.vers hco.good.at_ hco.time hco.know hat
 have hJl:(askJ c).1.length<=256:=zN (Kj _ _ _ _) hco.vers.len
 have hpx:∀y∈(askJ c).1,exOk (gm c y):=λy hy=>Ng (hJ.mem y hy)
 have hpk:∀y∈(askJ c).1,Qc (askP c y):=λy hy=>uJ hco hsm (V7 (hpx y hy))
 refine el func38 U ntmps38 U λX hM hX=>?_
 refine sr (j2 (λb2=>an ?_))
 refine sr (lT VT U (lT V5 U (qm 0 ty26 U U U (lT NR U (lT V1 U (qm 0 ty3 U U U (lT VS U (qm 0 ty3 U U U (lT VR U (qm 0 ty3 U U U (aS (eb call108 (CK h c.Register.Versions _ _ c.bD.At c.at_ c.ad hc.Register.Versions hsm.vers hk) U (λv1 h1 kE hp1=>?_)))))))))))))
 obtain⟨vb,vc,rfl,slv⟩:=hp1
 refine qO 11 U (aS (xy Kp (lv h1 _) (qI hJ.err) U (qO 9 U (RJ fm U (qO 2 U ?_)))))
 refine lp2 (γ:=List Bool×Option Addr×Nat×LH×List Int×Option Addr×Nat×LH×HF) (x0:=(askJ c).1) (askJ c).1
  (λi g=>[(1,Q bv),(2,Q b2),(5,.slice vb (askJ c).1.length vc),(6,I (askJ c).2.1),(8,.slice g.2.1 g.1.length g.2.2.1),(31,.slice vb (askJ c).1.length vc),(32,I (((askJ c).1.length:Nat):Int)),(33,I (i:Int))])
  (λg=>g.2.2.2.2.2.2.2.2)
  (λg=>[(b2,O (bZ.cells c rL) 91),(bv,verO s0 b0 none 0 0 g.2.2.2.2.2.1 g.2.2.2.2.1.length g.2.2.2.2.2.2.1)]++(g.2.2.2.1++g.2.2.2.2.2.2.2.1))
  (λi g=>g.1=((askJ c).1.take i).map (askAns c)/\g.2.2.2.2.1=((askJ c).1.take i).flatMap (askWho c)/\di Rp.bool 4 g.2.2.2.2.2.2.2.2 g.1 g.2.1 g.2.2.1 g.2.2.2.1/\di jB 3 g.2.2.2.2.2.2.2.2 g.2.2.2.2.1 g.2.2.2.2.2.1 g.2.2.2.2.2.2.1 g.2.2.2.2.2.2.2.1/\h1.le g.2.2.2.2.2.2.2.2/\g.1.length<=i/\g.2.2.2.2.1.length<=i*2000000)
  (λs i _=>(askJ c).1.take i++s) ([],none,0,[],[],none,0,[],h1) ob rfl ⟨rfl,rfl,di.nil,di.nil,HF.le_refl _,kJ _,kJ _⟩ ?_ ?_
 .rintro i ⟨az,ab,ac,Ga,ws,wb,wc,Gw,hh⟩ hil hx0 ⟨ha,hw,gA,gW,eT,la,lw⟩ e
  dsimp only at ha hw gA gW eT la lw hx0
  rw[List.append_nil]at hx0
  rw[←hx0]at ha hw
  subst ha hw
  obtain⟨ws,hws⟩:∃ws,ws=(askJ c).1.flatMap (askWho c):=⟨_,rfl⟩
  have hall:askAll c=slices_Compact_int (sortI ws):=by rw[hws];rfl
  rw[←hws]at gW lw
  obtain⟨az,has⟩:∃az,az=(askJ c).1.map (askAns c):=⟨_,rfl⟩
  rw[←has]at gA la
  show TT _ _ _ _ _ (upds e [(1,Q bv),(2,Q b2),(5,.slice vb (askJ c).1.length vc),(6,I (askJ c).2.1),(8,.slice ab ((askJ c).1.map (askAns c)).length ac),(31,.slice vb (askJ c).1.length vc),(32,I (((askJ c).1.length:Nat):Int)),(33,I (i:Int))]) _ _ hh ([(b2,O (bZ.cells c rL) 91),(bv,verO s0 b0 none 0 0 wb ((askJ c).1.flatMap (askWho c)).length wc)]++(Ga++Gw))
  rw[←hws,←has]
  refine qT 3 U (aS (fU (gK U) (lT Ek U (qm 1 ty31 U U U (aS (pT ([(b2,O (bZ.cells c rL) 91),(bv,verO s0 b0 none 0 0 wb ws.length wc)]++Ga) Gw [] Tw (oL hh ws wb wc Gw gW ob) (by simp only[zC,List.cons_append,List.nil_append,List.append_nil]) U (λG2 g2=>ck ?_)))))))
  refine qT 6 U (aS (fU (gK U) (lT Ek U (qm 1 ty31 U U U (aS (pT (v:=.slice wb (slices_Compact_int (sortI ws)).length wc) ([(b2,O (bZ.cells c rL) 91),(bv,verO s0 b0 none 0 0 wb ws.length wc)]++Ga) G2 [] call111 (sE hh (sortI ws) wb wc G2 g2) U (by simp only[kO];rfl) (λG3 g3=>?_)))))))
  refine aS (fU (gK U) (lT V2 U (dK 1 ty31 U U U U U U (aS (fU (gK U) (lT Ek U (dK 1 ty31 U U U U U U (ck (eA (L':=[(b2,O (bZ.cells c rL) 91),(bv,verO s0 b0 vb (askJ c).1.length vc wb (slices_Compact_int (sortI ws)).length wc)]++(Ga++G3)) (by rw[List.append_nil,zC];rfl) ?_)))))))))
  have fin:∀(hz:HF)(r:Bool),hh.le hz->r=gB c->∀(e:Env),e 4=.bool r->∀k,TT prog (bodyFrame 38) 88 (.code .ret::k) (lJ prog X (λr h' B=>∃vb vc wb wc G,r=.returned (.bool (gB c))/\B=(bv,verO s0 b0 vb (askJ c).1.length vc wb (askAll c).length wc)::G/\SlC jB h' vb vc (askJ c).1/\di jB 3 h' (askAll c) wb wc G)) e [] X hz ([(b2,O (bZ.cells c rL) 91),(bv,verO s0 b0 vb (askJ c).1.length vc wb (slices_Compact_int (sortI ws)).length wc)]++(Ga++G3)):=by
   intro hz r hlz hr e he k
   subst hr
   refine ra (v:=.bool (gB c)) (h2:=hz) (B:=(bv,verO s0 b0 vb (askJ c).1.length vc wb (slices_Compact_int (sortI ws)).length wc)::G3) func38 (λa ha w _=>by rw[←he];exact res1 U a ha w) (λw hw=>hw.sub (.cons _ (.cons_cons _ (List.sublist_append_right _ _)))) ⟨vb,vc,wb,wc,G3,U,?_,slv.mono vJ (xD eT hlz),?_⟩
   .rw[hall]
   rw[hall];exact g3.mono vJ hlz
  refine qT 6 U ?_
  refine lL U (λc1=>?_) (λc1=>?_)
  .exact sr (an (fin hh false lf (by unfold gB;rw[show((askJ c).2.1==0)=true from c1];rfl) _ U _))
  have hm:=hJ.mode2 (by simpa using c1)
  have hal:az.length<=256:=by rw[has,List.length_map];exact hJl
  refine qT 5 U (aS (Ig ([(b2,O (bZ.cells c rL) 91),(bv,verO s0 b0 vb (askJ c).1.length vc wb (slices_Compact_int (sortI ws)).length wc)]) Ga G3 (v:=.tuple #[.bool ((ip (askJ c).2.1 az).1),I ((ip (askJ c).2.1 az).2)]) call112 Rp.sV gA U (λhz lz sl=>CL hz (askJ c).2.1 az ab ac sl ob) U ?_))
  exact dU (qO 8 U (aS (xy Kp (lv hh _) (qI (Q4 hm hal)) U (qO 6 U (fin hh _ lf (by unfold gB;rw[show((askJ c).2.1==0)=false from c1,cond_false,←has]) _ U _)))))
 rintro i ⟨az,ab,ac,Ga,ws,wb,wc,Gw,hh⟩ y r hd hlt hget hltp hbd hx0 ⟨ha,hw,gA,gW,eT,la,lw⟩ hx ag e
 dsimp only at ha hw gA gW eT la lw
 have hy:y∈(askJ c).1:=List.mem_of_getElem? hget
 have hcc:=hc.mono (xD kE eT)
 show TT _ _ _ _ _ (upds e [(1,Q bv),(2,Q b2),(5,.slice vb (askJ c).1.length vc),(6,I (askJ c).2.1),(8,.slice ab az.length ac),(31,.slice vb (askJ c).1.length vc),(32,I (((askJ c).1.length:Nat):Int)),(33,I (i:Int))]) _ _ hh ([(b2,O (bZ.cells c rL) 91),(bv,verO s0 b0 none 0 0 wb ws.length wc)]++(Ga++Gw))
 refine sr (tO hlt U (qO 8 U (aS (tW (enc:=λy=>[I y]) (λ_ _ _ e=>e) fm ty3 (slv.mono vJ eT).1 (nthZ hget) (jk hget) U U U (λq1 A1=>iw ty3 A1 U (an ?_))))))
 refine sr (ga 0 ty91 U U U (dU (aS (SB call91 (sG hh c rL y hcc) (hpx y hy) U (λv3 h3 kG hp3=>?_)))))
 obtain⟨pr,rfl,okp⟩:=hp3
 refine cS zc61 (λb11=>cJ 0 ty61 U U U U U U (ck ?_))
 refine sr (ga 1 ty91 U U U (ga 0 ty61 U U U (aS (eb call90 (sH h3 c rL (askP c y) pr (hcc.mono kG) okp hsm hco (hpk y hy).rules) U (λv4 h4 kK hp4=>?_)))))
 obtain⟨ub,uc,rfl,slu⟩:=hp4
 refine qO 5 U (ga 1 ty91 U U U (ga 0 ty61 U U U (dU (e9 (v:=.bool (askAns c y)) call109 (xa h4 c rL (askP c y) pr (askWho c y) ub uc (hcc.mono (xD kG kK)) (okp.mono kK) slu hsm hco (hpk y hy).sm (hpk y hy).off (I3 hsm _) (hk.mono (xD kE (xD eT (xD kG kK))))) U ?_))))
 have hl4:hh.le h4:=xD kG kK
 have hwl:=I3 hsm (askP c y)
 refine aS (cM (cells:=[.bool (askAns c y)]) Do ty4 zc4 U U kr (λb13=>?_))
 refine aS (dN Rp.Fv ([(b13,O [.bool (askAns c y)] 4),(b11,O (aw.cells (askP c y) pr) 61),(b2,O (bZ.cells c rL) 91),(bv,verO s0 b0 none 0 0 wb ws.length wc)]) Gw (λG=>[(b13,O [.bool (askAns c y)] 4),(b11,O (aw.cells (askP c y) pr) 61),(b2,O (bZ.cells c rL) 91),(bv,verO s0 b0 none 0 0 wb ws.length wc)]++(Gw++G)) U (λ_=>U) Do ty4 zc4 U bytes4 (gA.mono Rp.sV hl4) U U (gQ (ys:=[askAns c y]) 0 U ⟨[.bool (askAns c y)],[],U,U,U,U⟩) lo lo (λab2 ac2 Ga2 gA2=>an ?_))
 refine qT 3 U (aS (fU (gK U) (lT Ek U (qm 3 ty31 U U U (dU (aS (dN Rp.fR ([(b13,O [.bool (askAns c y)] 4),(b11,O (aw.cells (askP c y) pr) 61),(b2,O (bZ.cells c rL) 91),(bv,verO s0 b0 none 0 0 wb ws.length wc)]) Ga2 (λG=>[(b13,O [.bool (askAns c y)] 4),(b11,O (aw.cells (askP c y) pr) 61),(b2,O (bZ.cells c rL) 91),(bv,verO s0 b0 none 0 0 wb ws.length wc)]++(Ga2++G)) U (λ_=>U) fm ty3 zc3 U bytes3 (gW.mono vJ hl4) U U (iY slu.1) (by show(_+(askWho c y).length)*_<=_;unfold askWho;omega) (by show _+(askWho c y).length<=_;unfold askWho;omega) (λwb2 wc2 Gw2 gW2=>?_))))))))
 refine aS (fU (gK U) (lT Ek U (dK 3 ty31 U U U U U U (ck (ek (L':=[(b2,O (bZ.cells c rL) 91),(bv,verO s0 b0 none 0 0 wb2 (ws++askWho c y).length wc2)]++(Ga2++Gw2)) js (qT 2 U (ls (v':=I (((i+1:Nat)):Int)) U (NX ob) (qO 2 U ?_))))))))
 refine ag (az++[askAns c y],ab2,ac2,Ga2,ws++askWho c y,wb2,wc2,Gw2,h4) (by rw[EH hget,zC];exact hx0) ⟨?_,?_,gA2,gW2,xD eT hl4,?_,?_⟩
 .show az++[askAns c y]=_;rw[EH hget,ha,List.map_append];rfl
 .show ws++askWho c y=_;rw[EH hget,hw,List.flatMap_append];simp
 .show(az++[askAns c y]).length<=i+1;rw[kA];simp only[xA,xB];omega
 show(ws++askWho c y).length<=(i+1)*2000000;rw[kA];unfold askWho;omega
theorem QJ(h c rL q bv s0 b0)(hc:bZ.ok h c rL)(aq:At h q (bZ.cells c rL))(hsm:smR c.Register)(hco:kj c)(hat:c.bD.At<=c.at_)(hk:ey h):
    qf prog 37 (vB [.pointer (some q),Q bv]) h [(bv,verO s0 b0 none 0 0 none 0 0)]
      (λr h' B=>∃vb vc wb wc G,r=.returned (.bool (!(gB c)))/\B=(bv,verO s0 b0 vb (askJ c).1.length vc wb (askAll c).length wc)::G/\SlC jB h' vb vc (askJ c).1/\di jB 3 h' (askAll c) wb wc G):=by
  refine el func37 U ntmps37 U λX hM hX=>?_
  refine qT 6 rfl (lh ty91 aq rfl rfl (aS (pG (A:=[(bv,verO s0 b0 none 0 0 none 0 0)]) (Fr:=[]) call38 rfl (C7 h c rL bv s0 b0 hc hsm hco hat hk) rfl (λv h2 B eT hR=>?_) (λch h2 B eT hR=>by obtain⟨_,_,_,_,_,hr,_⟩:=hR;cases hr))))
  obtain⟨vb,vc,wb,wc,G,hr,rfl,s1,g1⟩:=hR
  cases hr
  exact sF U (an (ra (v:=.bool (!(gB c))) (h2:=h2) (B:=(bv,verO s0 b0 vb (askJ c).1.length vc wb (askAll c).length wc)::G) func37 (λa ha w hw=>oP (rs:=[.tmp 2]) (vs:=[.bool (!(gB c))]) U rd a ha w hw) (λw hw=>by simpa using hw) ⟨vb,vc,wb,wc,G,U,U,s1,g1⟩))
theorem QI(h r XK qr u xl xk qu)(c:bZ)(rL:sC)(qc)(at_ ad:Int)(qa qk bv s0 b0 vb vn vc wb wn wc)(hr:vM h r XK)(ar:At h qr (vH r XK))(hu:SlC Use.rp h xl xk u)(au:At h qu [.slice xl u.length xk])(ac:At h qc (bZ.cells c rL))(aa:At h qa [I at_])(ak:At h qk [I ad])(hsm:smR r)(he:(judgeRoom c r u at_ ad).2.2=0):
  qf prog 39 (vB [.pointer (some qr),.pointer (some qu),.pointer (some qc),.pointer (some qa),.pointer (some qk),Q bv]) h [(bv,verO s0 b0 vb vn vc wb wn wc)]
   (λx h' B=>x=.returned (.bool (!(judgeRoom c r u at_ ad).2.1))/\h'=h/\B=[(bv,verO s0 (bif !(judgeRoom c r u at_ ad).2.1 then(judgeRoom c r u at_ ad).1 else b0) vb vn vc wb wn wc)]):=by
 refine el func39 U ntmps39 U λX hM hX=>?_
 refine qT 6 U (lT R8 U (nm (j:=3) ty25 ar U U (iw ty32 au U (lT NR U (lT V0 U (nm (j:=9) ty3 ac U U (lT NR U (lT VZ U (nm (j:=10) ty3 ac U U (iw ty3 aa U (iw ty3 ak U (e9 (v:=.tuple #[I (judgeRoom c r u at_ ad).1,.bool (judgeRoom c r u at_ ad).2.1,I (judgeRoom c r u at_ ad).2.2]) call31 (zO h r.fF _ _ u xl xk c.bD.Kind c.bD.Value at_ ad hr.fF hu hsm.2.2.2.2.1) U (qO 11 U (aS (xy Kp (lv h _) (qI he) U (qO 7 U ?_))))))))))))))))
 refine lL U (λc1=>?_) (λc1=>?_)
 .exact cB (dU (lT R7 U (dK 0 ty3 U U U U U U (qO 7 U (ra (v:=.bool (!(judgeRoom c r u at_ ad).2.1)) (h2:=h) (B:=[(bv,verO s0 (judgeRoom c r u at_ ad).1 vb vn vc wb wn wc)]) func39 (λa ha w hw=>oP (rs:=[.tmp 6]) (vs:=[.bool (!(judgeRoom c r u at_ ad).2.1)]) U rd a ha w hw) (λw hw=>hw) ⟨U,U,by rw[show(!(judgeRoom c r u at_ ad).2.1)=true from c1];rfl⟩)))))
 exact jf (qT 6 U (ra (v:=.bool (!(judgeRoom c r u at_ ad).2.1)) (h2:=h) (B:=[(bv,verO s0 b0 vb vn vc wb wn wc)]) func39 (λa ha w hw=>oP (rs:=[.tmp 6]) (vs:=[.bool (!(judgeRoom c r u at_ ad).2.1)]) U rd a ha w hw) (λw hw=>hw) ⟨U,U,by rw[show(!(judgeRoom c r u at_ ad).2.1)=false from c1];rfl⟩))
theorem I8{e:Int}{ee:Int}(h:my e=.error ee):(e != 0)=true/\ee=e:=by
  unfold my at h
  cases hc:e != 0 with
  |true=>rw[hc]at h;cases h;exact⟨rfl,rfl⟩
  |false=>rw[hc]at h;cases h
theorem C2{e:Int}{u:Unit}(h:my e=.ok u):e=0:=by
  unfold my at h
  cases hc:e != 0 with
  |true=>rw[hc]at h;cases h
  |false=>simpa using hc
theorem ot(h bK fA vK bV bU u xl xk bD dh ad)(nW:vM h bK fA)(iC:SlC jB h bV bU vK)(hu:SlC Use.rp h xl xk u)(hsm:smR bK)(hln:bK.cj.length<20)(hk:ey h):
  j0 prog 9 [.agg (vH bK fA).toArray,.slice bV vK.length bU,.slice xl u.length xk,I bD,I dh,I ad] h (λv h'=>∃rr0:py,v=.tuple #[.agg (dT.cells (da bK vK u bD dh ad).1 rr0).toArray,I ((da bK vK u bD dh ad).2)]/\dT.ok h' (da bK vK u bD dh ad).1 rr0):=by
 refine el func9 U ntmps9 U λX hM hX=>?_
 refine sr (j2 (λb6=>j2 (λb7=>j2 (λb8=>j2 (λb10=>j2 (λb11=>cS zc36 (λb12=>cS zc37 (λb13=>ck ?_))))))))
 refine sr (Ls U U (ck ?_))
 have fin:∀(hh:HF)(V:dT)(vb:Option Addr)(vc:Nat)(wb:Option Addr)(wc:Nat)(ee:Int)(B:LH)(e:Env),da bK vK u bD dh ad=(V,ee)->SlC jB hh vb vc V.Versions->SlC jB hh wb wc V.Who->e 12=Q b12->e 13=Q b13->∀a:Act,envOf a=e->∀w,St X hh ([(b13,O [I ee] 37)]++((b12,verO V.State V.Budget vb V.Versions.length vc wb V.Who.length wc)::B)) w ->
   ∃v h2 B2,(results Tryz.f9 a.tmps).run prog w=.ok v w/\St X h2 B2 w/\(B2=[]/\∃v',Ending.returned v=.returned v'/\(λv h'=>∃rr0:py,v=.tuple #[.agg (dT.cells (da bK vK u bD dh ad).1 rr0).toArray,I ((da bK vK u bD dh ad).2)]/\dT.ok h' (da bK vK u bD dh ad).1 rr0) v' h2):=by
  intro hh V vb vc wb wc ee B e he h1 h2 h12 h13 a ha w hw
  refine⟨_,hh,[],oP (rs:=[.cell 12 36,.cell 13 37]) (vs:=[.agg (dT.cells V ⟨vb,vc,wb,wc⟩).toArray,I ee]) U ⟨⟨1,b12,_,36,(0,0),U,h12,.inl ⟨ty36,U⟩⟩,⟨0,b13,[I ee],37,(0,0),U,h13,.inr ⟨_,ty37,U⟩⟩,trivial⟩ a ha w hw,hw.sub (List.nil_sublist _),U,_,U,⟨vb,vc,wb,wc⟩,?_,?_⟩
  .rw[he];rfl
  rw[he];exact⟨h1,h2⟩
 have pan:∀(hh:HF)(e0 ee:Int)(B:LH)(e:Env),da bK vK u bD dh ad=(⟨0,0,[],[]⟩,ee)->e 12=Q b12->e 13=Q b13 ->
   TP prog (bodyFrame 9) 69 [{ v:=errV ee,recovered:=false }] (lJ prog X (λx h' B=>B=[]/\∃v,x=.returned v/\(λv h'=>∃rr0:py,v=.tuple #[.agg (dT.cells (da bK vK u bD dh ad).1 rr0).toArray,I ((da bK vK u bD dh ad).2)]/\dT.ok h' (da bK vK u bD dh ad).1 rr0) v h')) e [{ target:=.fn (.func 28) #[],args:=vB [Q b13] }] X hh ((b13,O [I e0] 37)::(b12,verO 0 0 none 0 0 none 0 0)::B):=by
  intro hh e0 ee B e he h12 h13
  refine Du (c:=bodyOf Tryz.f28) (cap:=[Q b13]) (A:=[(b13,O [I e0] 37)]) (R':=λh'' B=>h''=hh/\B=[(b13,O [I ee] 37)]) func9 HL U Oi U Oh (λX' _=>yY hh b13 e0 ee X') U ?_
  rintro h'' B2 _ ⟨rfl,rfl⟩ a ha w hw
  exact fin _ ⟨0,0,[],[]⟩ none 0 none 0 ee B e he vE vE h12 h13 a ha w hw
 refine sr (ga 6 ty30 U U U (e9 (v:=I (cQ bK)) Q9 (pZ h bK fA nW hsm hk) U ?_))
 refine uO Kp (lv h (cQ bK)).toXH U (λv_ v h1 hx1 kE hp1=>?_) (λee h1 hx1 kE=>?_)
 rotate_left
 .obtain⟨e1,rfl⟩:=I8 hx1
  exact pan h1 _ _ _ _ (by unfold da;rw[e1];rfl) U U
 obtain⟨rfl,rfl⟩:=hp1
 have hc0:=C2 hx1
 refine qO 3 U (lT V4 U (qm 6 ty27 U U U (qm 5 ty31 U U U (aS (eb call30 (tM h1 bK.cj _ _ vK bV bU 0 nW.cj iC hln) U (λv2 h2 kF hp2=>?_))))))
 obtain⟨fb,fc,rfl,_⟩:=hp2
 refine qO 3 U (dK 0 ty37 U U U U U U (qO 3 U (qm 0 ty37 U U U ?_)))
 refine uO Kp (lv h2 (bR bK.cj vK 0).2).toXH U (λv_ v h3 hx3 kG hp3=>?_) (λee h3 hx3 kG=>?_)
 rotate_left
 .obtain⟨e1,rfl⟩:=I8 hx3
  exact pan h3 _ _ _ _ (by unfold da;rw[hc0,e1];rfl) U U
 obtain⟨rfl,rfl⟩:=hp3
 have hf0:=C2 hx3
 refine qO 3 U (lT R8 U (qm 6 ty25 U U U (qm 4 ty32 U U U (e9 (v:=.tuple #[I (bo bK.fF u 0 0 0 0).1,.bool (bo bK.fF u 0 0 0 0).2.1,I (bo bK.fF u 0 0 0 0).2.2]) call31 (zO h3 bK.fF _ _ u xl xk 0 0 0 0 (nW.mono kF).fF (hu.mono Use.aB kF) hsm.2.2.2.2.1) U (qO 4 U (dK 0 ty37 U U U U U U (qO 3 U (qm 0 ty37 U U U ?_))))))))
 refine uO Kp (lv h3 (bo bK.fF u 0 0 0 0).2.2).toXH U (λv_ v h4 hx4 kK hp4=>?_) (λee h4 hx4 kK=>?_)
 rotate_left
 .obtain⟨e1,rfl⟩:=I8 hx4
  exact pan h4 _ _ _ _ (by unfold da;rw[hc0,hf0,e1];rfl) U U
 obtain⟨rfl,rfl⟩:=hp4
 have hb0:=C2 hx4
 refine qO 3 U (ga 6 ty30 U U U (dU (qm 3 ty3 U U U (qm 2 ty3 U U U ?_))))
 refine uO call32 (CB h4 bK fA bD dh ad (nW.mono kF)) U (λc v h5 hx5 kP hp5=>?_) (λee h5 hx5 kP=>?_)
 rotate_left
 .exact pan h5 _ _ _ _ (by unfold da;rw[hc0,hf0,hb0,hx5];rfl) U U
 obtain⟨cr,rfl,okc⟩:=hp5
 have hj:da bK vK u bD dh ad=(judgeC c bK vK u dh ad,0):=by unfold da;rw[hc0,hf0,hb0,hx5];rfl
 obtain⟨hce,hco,_,_⟩:=Nn hc0 hx5
 have hreg:c.Register=bK:=by rw[hce]
 have hca:c.at_=dh:=by rw[hce]
 have hck:c.ad=ad:=by rw[hce]
 have hsc:smR c.Register:=by rw[hreg];exact hsm
 have hlc:c.Register.cj.length<20:=by rw[hreg];exact hln
 have hsg:bT c.Register.cj vK=true:=by rw[hreg];exact NC hf0
 have hroom:(judgeRoom c bK u dh ad).2.2=0:=Ub hb0 hco.kind hco.good.value (hca▸hco.time) (hck▸hco.know)
 rw[hb0]
 refine cS zc91 (λb14=>cJ 0 ty91 U U U U U U (ck ?_))
 refine sr (lT R7 U (dK 2 ty3 U U U U U U (ck (fK 0 U hM (λg1 l1 f14=>fK 2 U hM (λg2 l2 f11=>fK 2 U hM (λg3 l3 f10=>fK 2 U hM (λg4 l4 f8=>fK 2 U hM (λg5 l5 f7=>fK 2 U hM (λg6 l6 f6=>?_))))))))))
 have a14:=(gM f14).mono (xD l2 (xD l3 (xD l4 (xD l5 l6))))
 have a11:=(gM f11).mono (xD l3 (xD l4 (xD l5 l6)))
 have a10:=(gM f10).mono (xD l4 (xD l5 l6))
 have a8:=(gM f8).mono (xD l5 l6)
 have a7:=(gM f7).mono l6
 have a6:=gM f6
 have l56:h5.le g6:=xD l1 (xD l2 (xD l3 (xD l4 (xD l5 l6))))
 have l06:h1.le g6:=xD kF (xD kP l56)
 have okg:=okc.mono l56
 have okr:=nW.mono l06
 have hsg6:=iC.mono vJ l06
 have hu6:=hu.mono Use.aB l06
 have hk6:=hk.mono l06
 clear f14 f11 f10 f8 f7 f6
 show TT _ _ _ _ _ _ _ _ g6 [(b13,O [I 0] 37),(b12,verO 0 (-1) none 0 0 none 0 0)]
 refine qT 3 U (aS (kw U U (aS (ia (cells:=[I 1,.func (.func 33) #[] #[Q b14,Q b7]]) (places:=[(0,1),(1,1)]) Tk zc94 kr kr (aS (kw U U (aS (ia (cells:=[I 2,.func (.func 35) #[] #[Q b14,Q b7]]) (places:=[(0,1),(1,1)]) Tk zc94 kr kr (aS (kw U U (aS (ia (cells:=[I 3,.func (.func 37) #[] #[Q b14,Q b12]]) (places:=[(0,1),(1,1)]) Tk zc94 kr kr (aS (kw U U (aS (ia (cells:=[I 4,.func (.func 39) #[] #[Q b6,Q b8,Q b14,Q b10,Q b11,Q b12]]) (places:=[(0,1),(1,1)]) Tk zc94 kr kr (aS (cM (cells:=[I 1,.func (.func 33) #[] #[Q b14,Q b7],I 2,.func (.func 35) #[] #[Q b14,Q b7],I 3,.func (.func 37) #[] #[Q b14,Q b12],I 4,.func (.func 39) #[] #[Q b6,Q b8,Q b14,Q b10,Q b11,Q b12]]) Og ty94 zc94 U U kr (λb15=>RJ Og U (qO 2 U ?_))))))))))))))))))))
 have ret:∀(hh:HF)(V:dT)(vb:Option Addr)(vc:Nat)(wb:Option Addr)(wc:Nat)(B:LH)(e:Env)(k:List Item),judgeC c bK vK u dh ad=V->SlC jB hh vb vc V.Versions->SlC jB hh wb wc V.Who->e 12=Q b12->e 13=Q b13 ->
   TT prog (bodyFrame 9) 69 (.code .ret::k) (lJ prog X (λx h' B=>B=[]/\∃v,x=.returned v/\(λv h'=>∃rr0:py,v=.tuple #[.agg (dT.cells (da bK vK u bD dh ad).1 rr0).toArray,I ((da bK vK u bD dh ad).2)]/\dT.ok h' (da bK vK u bD dh ad).1 rr0) v h')) e [{ target:=.fn (.func 28) #[],args:=vB [Q b13] }] X hh ((b13,O [I 0] 37)::(b12,verO V.State V.Budget vb V.Versions.length vc wb V.Who.length wc)::B):=by
  intro hh V vb vc wb wc B e k hv h1 h2 h12 h13
  refine Oq (c:=bodyOf Tryz.f28) (cap:=[Q b13]) (A:=[(b13,O [I 0] 37)]) (R':=λh'' B=>h''=hh/\B=[(b13,O [I 0] 37)]) func9 HL U Oi U Oh (λX' _=>Kg hh b13 0 X') U ?_
  rintro h'' B2 _ ⟨rfl,rfl⟩ a ha w hw
  exact fin _ V vb vc wb wc 0 B e (by rw[hj,hv]) h1 h2 h12 h13 a ha w hw
 refine nI (HS (sr (ls (v':=.bool true) U U (qO 8 U (aS (fU (FO (i:=0) Og ty94 U U ob) (ga 0 ty94 U U U (cS zc94 (λc0=>cJ 0 ty94 U U U U U U (ck ?_))))))))))
 refine sr (lT Hu U (qm 0 ty33 U U U (aS (wo (v:=.bool (iy c vK)) [] (List.nil_sublist _) (oO (cap:=[Q b14,Q b7]) call33 (E9 g6 c cr ⟨b14,0,none⟩ vK bV bU ⟨b7,0,none⟩ okg a14 hsg6 a7 hsc hco hlc hsg)) U U (ck ?_)))))
 refine lL U (λk1=>?_) (λk1=>?_)
 .exact sr (lT Hv U (qm 0 ty3 U U U (lT El U (dK 3 ty3 U U U U U U (qO 3 U (ga 3 ty36 U U U (cJ 3 ty36 U U U U U U (dK 2 ty37 U U U U U U (ck (ek (.cons _ (.cons _ (List.Sublist.refl _))) (ret g6 ⟨1,-1,[],[]⟩ none 0 none 0 [] _ _ (by unfold judgeC;rw[show iy c vK=true from k1];rfl) vE vE U U)))))))))))
 replace k1:iy c vK=false:=k1
 have hat:c.bD.At<=c.at_:=S5 k1
 refine qT 3 U (ls (v':=I 1) U U (qO 2 U (Dt (ek (.cons _ (List.Sublist.refl _)) (sr (ls (v':=.bool true) U U (qO 8 U (aS (fU (FO (i:=1) Og ty94 U U ob) (ga 0 ty94 U U U (cS zc94 (λc1=>cJ 0 ty94 U U U U U U (ck ?_)))))))))))))
 refine sr (lT Hu U (qm 0 ty33 U U U (aS (wo (v:=.bool (ki c vK)) [] (List.nil_sublist _) (oO (cap:=[Q b14,Q b7]) call35 (E8 g6 c cr ⟨b14,0,none⟩ vK bV bU ⟨b7,0,none⟩ okg a14 hsg6 a7 hsc hco hlc hsg)) U U (ck ?_)))))
 refine lL U (λk2=>?_) (λk2=>?_)
 .exact sr (lT Hv U (qm 0 ty3 U U U (lT El U (dK 3 ty3 U U U U U U (qO 3 U (ga 3 ty36 U U U (cJ 3 ty36 U U U U U U (dK 2 ty37 U U U U U U (ck (ek (.cons _ (.cons _ (List.Sublist.refl _))) (ret g6 ⟨2,-1,[],[]⟩ none 0 none 0 [] _ _ (by unfold judgeC;rw[k1,show ki c vK=true from k2];rfl) vE vE U U)))))))))))
 replace k2:ki c vK=false:=k2
 refine qT 3 U (ls (v':=I 2) U U (qO 2 U (Dt (ek (.cons _ (List.Sublist.refl _)) (sr (ls (v':=.bool true) U U (qO 8 U (aS (fU (FO (i:=2) Og ty94 U U ob) (ga 0 ty94 U U U (cS zc94 (λc2=>cJ 0 ty94 U U U U U U (ck ?_)))))))))))))
 refine sr (lT Hu rfl (qm 0 ty33 rfl rfl rfl (aS (DF [(c2,O [I 3,.func (.func 37) #[] #[Q b14,Q b12]] 94),(b15,O [I 1,.func (.func 33) #[] #[Q b14,Q b7],I 2,.func (.func 35) #[] #[Q b14,Q b7],I 3,.func (.func 37) #[] #[Q b14,Q b12],I 4,.func (.func 39) #[] #[Q b6,Q b8,Q b14,Q b10,Q b11,Q b12]] 94),(b13,O [I 0] 37)] [(b12,verO 0 (-1) none 0 0 none 0 0)] rfl (pP (args:=[]) (cap:=[Q b14,Q b12]) call37 (QJ g6 c cr ⟨b14,0,none⟩ b12 0 (-1) okg a14 hsc hco hat hk6)) rfl rfl (λv7 h7 B7 l7 hR=>?_) (λch h7 B7 l7 hR=>by obtain⟨_,_,_,_,_,hr,_⟩:=hR;cases hr)))))
 obtain⟨vb,vc,wb,wc,G,hr,rfl,sv7,gw⟩:=hR
 cases hr
 refine ck (jz vJ ([(c2,O [I 3,.func (.func 37) #[] #[Q b14,Q b12]] 94),(b15,O [I 1,.func (.func 33) #[] #[Q b14,Q b7],I 2,.func (.func 35) #[] #[Q b14,Q b7],I 3,.func (.func 37) #[] #[Q b14,Q b12],I 4,.func (.func 39) #[] #[Q b6,Q b8,Q b14,Q b10,Q b11,Q b12]] 94),(b13,O [I 0] 37)]++[(b12,verO 0 (-1) vb (askJ c).1.length vc wb (askAll c).length wc)]) G [] (by rw[List.append_nil];rfl) hM gw (λh8 l8 sw_z=>?_))
 have sv:=sv7.mono vJ l8
 have l68:g6.le h8:=xD l7 l8
 refine eA (L':=[(c2,O [I 3,.func (.func 37) #[] #[Q b14,Q b12]] 94),(b15,O [I 1,.func (.func 33) #[] #[Q b14,Q b7],I 2,.func (.func 35) #[] #[Q b14,Q b7],I 3,.func (.func 37) #[] #[Q b14,Q b12],I 4,.func (.func 39) #[] #[Q b6,Q b8,Q b14,Q b10,Q b11,Q b12]] 94),(b13,O [I 0] 37),(b12,verO 0 (-1) vb (askJ c).1.length vc wb (askAll c).length wc)]) (by rw[List.append_nil];rfl) ?_
 refine lL U (λk3=>?_) (λk3=>?_)
 .exact sr (lT Hv U (qm 0 ty3 U U U (lT El U (dK 3 ty3 U U U U U U (qO 3 U (ga 3 ty36 U U U (cJ 3 ty36 U U U U U U (dK 2 ty37 U U U U U U (ck (ek (.cons _ (.cons _ (List.Sublist.refl _))) (ret h8 ⟨3,-1,(askJ c).1,askAll c⟩ vb vc wb wc [] _ _ (by unfold judgeC;rw[k1,k2,show(!(gB c))=true from k3];rfl) sv sw_z U U)))))))))))
 replace k3:(!(gB c))=false:=k3
 refine qT 3 U (ls (v':=I 3) U U (qO 2 U (Dt (ek (.cons _ (List.Sublist.refl _)) (sr (ls (v':=.bool true) U U (qO 8 U (aS (fU (FO (i:=3) Og ty94 U U ob) (ga 0 ty94 U U U (cS zc94 (λc3=>cJ 0 ty94 U U U U U U (ck ?_)))))))))))))
 refine sr (lT Hu U (qm 0 ty33 U U U (aS (DF [(c3,O [I 4,.func (.func 39) #[] #[Q b6,Q b8,Q b14,Q b10,Q b11,Q b12]] 94),(b15,O [I 1,.func (.func 33) #[] #[Q b14,Q b7],I 2,.func (.func 35) #[] #[Q b14,Q b7],I 3,.func (.func 37) #[] #[Q b14,Q b12],I 4,.func (.func 39) #[] #[Q b6,Q b8,Q b14,Q b10,Q b11,Q b12]] 94),(b13,O [I 0] 37)] [(b12,verO 0 (-1) vb (askJ c).1.length vc wb (askAll c).length wc)] U (pP (args:=[]) (cap:=[Q b6,Q b8,Q b14,Q b10,Q b11,Q b12]) call39 (QI h8 bK fA ⟨b6,0,none⟩ u xl xk ⟨b8,0,none⟩ c cr ⟨b14,0,none⟩ dh ad ⟨b10,0,none⟩ ⟨b11,0,none⟩ b12 0 (-1) vb (askJ c).1.length vc wb (askAll c).length wc (okr.mono l68) (a6.mono l68) (hu6.mono Use.aB l68) (a8.mono l68) (a14.mono l68) (a10.mono l68) (a11.mono l68) hsm hroom)) U U (λv9 h9 B9 l9 hR=>?_) (λch h9 B9 l9 hR=>by cases hR.1)))))
 obtain⟨hr,rfl,rfl⟩:=hR
 cases hr
 refine ck (lL U (λk4=>?_) (λk4=>?_))
 .exact eA (L':=[(c3,O [I 4,.func (.func 39) #[] #[Q b6,Q b8,Q b14,Q b10,Q b11,Q b12]] 94),(b15,O [I 1,.func (.func 33) #[] #[Q b14,Q b7],I 2,.func (.func 35) #[] #[Q b14,Q b7],I 3,.func (.func 37) #[] #[Q b14,Q b12],I 4,.func (.func 39) #[] #[Q b6,Q b8,Q b14,Q b10,Q b11,Q b12]] 94),(b13,O [I 0] 37),(b12,verO 0 (judgeRoom c bK u dh ad).1 vb (askJ c).1.length vc wb (askAll c).length wc)]) (by rw[show(!(judgeRoom c bK u dh ad).2.1)=true from k4];rfl) (sr (lT Hv U (qm 0 ty3 U U U (lT El U (dK 3 ty3 U U U U U U (qO 3 U (ga 3 ty36 U U U (cJ 3 ty36 U U U U U U (dK 2 ty37 U U U U U U (ck (ek (.cons _ (.cons _ (List.Sublist.refl _))) (ret h9 ⟨4,(judgeRoom c bK u dh ad).1,(askJ c).1,askAll c⟩ vb vc wb wc [] _ _ (by unfold judgeC;rw[k1,k2,k3,show(!(judgeRoom c bK u dh ad).2.1)=true from k4];rfl) sv sw_z U U))))))))))))
 replace k4:(!(judgeRoom c bK u dh ad).2.1)=false:=k4
 exact eA (L':=[(c3,O [I 4,.func (.func 39) #[] #[Q b6,Q b8,Q b14,Q b10,Q b11,Q b12]] 94),(b15,O [I 1,.func (.func 33) #[] #[Q b14,Q b7],I 2,.func (.func 35) #[] #[Q b14,Q b7],I 3,.func (.func 37) #[] #[Q b14,Q b12],I 4,.func (.func 39) #[] #[Q b6,Q b8,Q b14,Q b10,Q b11,Q b12]] 94),(b13,O [I 0] 37),(b12,verO 0 (-1) vb (askJ c).1.length vc wb (askAll c).length wc)]) (by rw[k4];rfl) (qT 3 U (ls (v':=I 4) U U (qO 2 U (Dt (ek (.cons _ (List.Sublist.refl _)) (sr (ls (v':=.bool false) U U (qO 6 U (lT El U (dK 2 ty3 U U U U U U (qO 3 U (ga 2 ty36 U U U (cJ 2 ty36 U U U U U U (dK 1 ty37 U U U U U U (ck (ek (.cons _ (List.Sublist.refl _)) (ret h9 ⟨0,-1,(askJ c).1,askAll c⟩ vb vc wb wc [] _ _ (by unfold judgeC;rw[k1,k2,k3,k4];rfl) sv sw_z U U)))))))))))))))))
theorem pY(h bK fA eB state)(nW:vM h bK fA)(hsm:smR bK)(hln:bK.cj.length<20)(hk:ey h):Ret prog 26 [.agg (vH bK fA).toArray,I eB,I state] h (.bool (Pr bK eB state)):=by
 refine sT func26 U ntmps26 U λX hM hX hF=>?_
 have hs0:=@rfl _ (Pr bK eB state)
 refine sr (j2 (λb1=>qO 4 U (ga 0 ty30 U U U (aS (cM (cells:=[I (-1)]) fm ty3 zc3 U U kr (λb2=>dU (dV 0 U hM (λh1 kE hb1=>?_))))))))
 have sl1:SlC jB h1 (zAD b2) 1 ([(-1)]):=bW.slB0 (T:=3) (fz:=(0,0)) ((show bW jB h [I (-1)] ([(-1)])from⟨[I (-1)],[],rfl,rfl,rfl,rfl⟩).mono vJ kE) hb1
 refine aS (eb Oe (ot _ _ _ _ _ _ ([]) none 0 7 eB 100 (nW.mono kE) sl1 vE ob ob (hk.mono kE)) U (λv1 h2 kF hp1=>?_))
 obtain⟨rr1,rfl,ok1⟩:=hp1
 refine qO 3 U (cS zc36 (λb3=>cJ 0 ty36 U U U U U U (qO 7 U (pF 5 [18,19,20,21,22,23] 18 23 (((da bK ([(-1)]) ([]) 7 eB 100).1).State==state) U (λc1 hk1=>?_) (λe=>?_)))))
 .exact qL 5 [0] U (hk1 _ U)
 exact an (nretP [.bool (((da bK ([(-1)]) ([]) 7 eB 100).2==0)&&(((da bK ([(-1)]) ([]) 7 eB 100).1).State==state))] (cs hs0))
theorem KY(h)(hk:ey h):Ret prog 7 [] h (.bool (yO)):=by
 refine sT func7 U ntmps7 U λX hM hX hF=>?_
 have hs0:=@rfl _ (yO)
 refine qT 6 U (aS (ia (cells:=[zSN,zSN,zSN,zSN,zSN,zSN,zSN]) (places:=[(0,1),(1,1),(2,1),(3,1),(4,1),(5,1),(6,1)]) TE zc30 kr kr (aS (eb Oe (ot h (kM ([]) ([]) ([]) ([]) ([]) ([]) ([])) (iK.mk none 0 none 0 none 0 none 0 none 0 none 0 none 0) ([]) none 0 ([]) none 0 0 0 0 ⟨vE,vE,vE,vE,vE,vE,vE⟩ vE vE (by first|exact oK|exact mp (by decide) (by decide) (by decide)) (by decide) hk) U (λv1 h1 kE hp1=>?_)))))
 rw[show(da (kM ([]) ([]) ([]) ([]) ([]) ([]) ([])) ([]) ([]) 0 0 0)=((dT.mk 0 0 [] []),1)from by kernel_rfl]at hp1
 obtain⟨rr1,rfl,ok1⟩:=hp1
 refine qO 3 U (cS zc36 (λb1=>cJ 0 ty36 U U U U U U (qO 4 U ?_)))
 let z3:Nat×Obj:=(b1,O [I 0,I 0,.slice rr1.nu 0 rr1.nt,.slice rr1.Mw 0 rr1.Mv] 36)
 refine aS (pG (A:=[]) (Fr:=[z3]) Gv rfl (iQ h1) rfl (λv2 h2 B1 kF hp2=>?_) (λ_ _ _ _ hR_=>by obtain⟨_,_,_,_,_,_,_,_,_,hr_,_⟩:=hR_;cases hr_))
 obtain⟨b2,q1,q2,q3,q4,q5,q6,q7,q8,hr_,rfl,sl1,sl2,sl3,sl4⟩:=hp2
 cases hr_
 refine dV 0 U hM (λh3 kG hb1=>?_)
 have sl5:SlC aA.rp h3 (zAD b2) 1 ([(aA.mk 0 0 0 0 2 1 false)]):=bW.slB0 (T:=76) (fz:=(0,0)) ((show bW aA.rp h2 [I 0,I 0,I 0,I 0,I 2,I 1,.bool false] ([(aA.mk 0 0 0 0 2 1 false)])from⟨[I 0,I 0,I 0,I 0,I 2,I 1,.bool false],[],rfl,rfl,rfl,rfl⟩).mono aA.aB kG) hb1
 refine aS (eb call23 (zt h3 (kM ([(aA.mk 0 0 0 0 2 1 false)]) aQ.dY ([]) ([]) aQ.Versions aQ.cj aQ.bS) (iK.mk (zAD b2) 1 q1 q2 none 0 none 0 q3 q4 q5 q6 q7 q8) 7 1 10 100 ⟨sl5,(sl1.mono aE.aB kG),vE,vE,(sl2.mono aC.aB kG),(sl3.mono aj.aB kG),(sl4.mono ae.aB kG)⟩ (by first|exact oK|exact mp (by decide) (by decide) (by decide)) (hk.mono ((kE.t kF).t kG))) U (λv3 h4 kK hp3=>?_))
 rw[show(iB (kM ([(aA.mk 0 0 0 0 2 1 false)]) aQ.dY ([]) ([]) aQ.Versions aQ.cj aQ.bS) 7 1 10 100)=([2],0)from by kernel_rfl]at hp3
 obtain⟨rb1,rc1,rfl,sl6⟩:=hp3
 refine qO 8 rfl (aS (pG (A:=[]) (Fr:=[z3]) Gv rfl (iQ h4) rfl (λv4 h5 B2 kP hp4=>?_) (λ_ _ _ _ hR_=>by obtain⟨_,_,_,_,_,_,_,_,_,hr_,_⟩:=hR_;cases hr_)))
 obtain⟨b3,q9,q10,q11,q12,q13,q14,q15,q16,hr_,rfl,sl7,sl8,sl9,sl10⟩:=hp4
 cases hr_
 refine dV 0 U hM (λh6 kQ hb2=>?_)
 have sl11:SlC aA.rp h6 (zAD b3) 1 ([(aA.mk 0 0 0 0 2 1 false)]):=bW.slB0 (T:=76) (fz:=(0,0)) ((show bW aA.rp h5 [I 0,I 0,I 0,I 0,I 2,I 1,.bool false] ([(aA.mk 0 0 0 0 2 1 false)])from⟨[I 0,I 0,I 0,I 0,I 2,I 1,.bool false],[],rfl,rfl,rfl,rfl⟩).mono aA.aB kQ) hb2
 refine aS (eb call23 (zt h6 (kM ([(aA.mk 0 0 0 0 2 1 false)]) aQ.dY ([]) ([]) aQ.Versions aQ.cj aQ.bS) (iK.mk (zAD b3) 1 q9 q10 none 0 none 0 q11 q12 q13 q14 q15 q16) 7 1 10 5 ⟨sl11,(sl7.mono aE.aB kQ),vE,vE,(sl8.mono aC.aB kQ),(sl9.mono aj.aB kQ),(sl10.mono ae.aB kQ)⟩ (by first|exact oK|exact mp (by decide) (by decide) (by decide)) (hk.mono (((((kE.t kF).t kG).t kK).t kP).t kQ))) U (λv5 h7 hle7 hp5=>?_))
 rw[show(iB (kM ([(aA.mk 0 0 0 0 2 1 false)]) aQ.dY ([]) ([]) aQ.Versions aQ.cj aQ.bS) 7 1 10 5)=([],0)from by kernel_rfl]at hp5
 obtain⟨rb2,rc2,rfl,sl12⟩:=hp5
 refine qO 8 rfl (aS (pG (A:=[]) (Fr:=[z3]) Gv rfl (iQ h7) rfl (λv6 h8 B3 hle8 hp6=>?_) (λ_ _ _ _ hR_=>by obtain⟨_,_,_,_,_,_,_,_,_,hr_,_⟩:=hR_;cases hr_)))
 obtain⟨b4,q17,q18,q19,q20,q21,q22,q23,q24,hr_,rfl,sl13,sl14,sl15,sl16⟩:=hp6
 cases hr_
 refine dV 0 U hM (λh9 hle9 hb3=>?_)
 have sl17:SlC aA.rp h9 (zAD b4) 1 ([(aA.mk 0 0 0 0 2 1 false)]):=bW.slB0 (T:=76) (fz:=(0,0)) ((show bW aA.rp h8 [I 0,I 0,I 0,I 0,I 2,I 1,.bool false] ([(aA.mk 0 0 0 0 2 1 false)])from⟨[I 0,I 0,I 0,I 0,I 2,I 1,.bool false],[],rfl,rfl,rfl,rfl⟩).mono aA.aB hle9) hb3
 refine aS (eb Oe (ot h9 (kM ([(aA.mk 0 0 0 0 2 1 false)]) aQ.dY ([]) ([]) aQ.Versions aQ.cj aQ.bS) (iK.mk (zAD b4) 1 q17 q18 none 0 none 0 q19 q20 q21 q22 q23 q24) ([]) none 0 ([]) none 0 7 10 100 ⟨sl17,(sl13.mono aE.aB hle9),vE,vE,(sl14.mono aC.aB hle9),(sl15.mono aj.aB hle9),(sl16.mono ae.aB hle9)⟩ vE vE (by first|exact oK|exact mp (by decide) (by decide) (by decide)) (by decide) (hk.mono ((((((((kE.t kF).t kG).t kK).t kP).t kQ).t hle7).t hle8).t hle9))) U (λv7 h10 hle10 hp7=>?_))
 rw[show(da (kM ([(aA.mk 0 0 0 0 2 1 false)]) aQ.dY ([]) ([]) aQ.Versions aQ.cj aQ.bS) ([]) ([]) 7 10 100)=((dT.mk 0 0 [] []),1)from by kernel_rfl]at hp7
 obtain⟨rr2,rfl,ok2⟩:=hp7
 refine qO 3 U (cS zc36 (λb5=>cJ 0 ty36 U U U U U U (qO 4 U ?_)))
 let z5:Nat×Obj:=(b5,O [I 0,I 0,.slice rr2.nu 0 rr2.nt,.slice rr2.Mw 0 rr2.Mv] 36)
 refine aS (pG (A:=[]) (Fr:=[z5,z3]) Gv rfl (iQ h10) rfl (λv8 h11 B4 hle11 hp8=>?_) (λ_ _ _ _ hR_=>by obtain⟨_,_,_,_,_,_,_,_,_,hr_,_⟩:=hR_;cases hr_))
 obtain⟨b6,q25,q26,q27,q28,q29,q30,q31,q32,hr_,rfl,sl18,sl19,sl20,sl21⟩:=hp8
 cases hr_
 refine cS zc30 (λb7=>cJ 0 ty30 U U U U U U (qL 5 [0] U (aS (fU (FO (i:=0) underlying22 ty76 U U ob) (qL 1 [] U (dK 1 ty3 U U U U U U (qO 3 U ?_)))))))
 let z1:Nat×Obj:=(b7,O [.slice (zAD b6) 1 1,.slice q25 1 q26,zSN,zSN,.slice q27 1 q28,.slice q29 1 q30,.slice q31 1 q32] 30)
 refine aS (pG (A:=[]) (Fr:=[z1,(b6,O [I 0,I 0,I 0,I 0,I 2,I 0,.bool false] 76),z5,z3]) Gv rfl (iQ h11) rfl (λv9 h12 B5 hle12 hp9=>?_) (λ_ _ _ _ hR_=>by obtain⟨_,_,_,_,_,_,_,_,_,hr_,_⟩:=hR_;cases hr_))
 obtain⟨b8,q33,q34,q35,q36,q37,q38,q39,q40,hr_,rfl,sl22,sl23,sl24,sl25⟩:=hp9
 cases hr_
 refine cS zc30 (λb9=>cJ 0 ty30 U U U U U U (qO 3 U (aS (ia (cells:=[I 0,I 0,I 0,I 5,I 9,.bool false,.bool false]) (places:=[(0,1),(1,1),(2,1),(3,1),(4,1),(5,1),(6,1)]) underlying78 zc78 kr kr (aS (cM (cells:=[I 0,I 0,I 0,I 5,I 9,.bool false,.bool false]) Dn ty78 zc78 U U kr (λb10=>qL 1 [] U (dK 1 ty24 U U U U U U (qO 4 U (aS (ia (cells:=[zSN,zSN,zSN,zSN,zSN,zSN,zSN]) (places:=[(0,1),(1,1),(2,1),(3,1),(4,1),(5,1),(6,1)]) TE zc30 kr kr (e9 (v:=I 0) Q9 (w5 (pZ h12 (kM ([]) ([]) ([]) ([]) ([]) ([]) ([])) (iK.mk none 0 none 0 none 0 none 0 none 0 none 0 none 0) ⟨vE,vE,vE,vE,vE,vE,vE⟩ (by first|exact oK|exact mp (by decide) (by decide) (by decide)) (hk.mono (((((((((((kE.t kF).t kG).t kK).t kP).t kQ).t hle7).t hle8).t hle9).t hle10).t hle11).t hle12))) kr) U (qO 2 U (ga 3 ty30 U U U (dV 4 U hM (λh13 hle13 hb4=>?_))))))))))))))))
 have sl26:SlC aA.rp h13 (zAD b6) 1 ([(aA.mk 0 0 0 0 2 0 false)]):=bW.slB0 (T:=76) (fz:=(0,0)) ((show bW aA.rp h12 [I 0,I 0,I 0,I 0,I 2,I 0,.bool false] ([(aA.mk 0 0 0 0 2 0 false)])from⟨[I 0,I 0,I 0,I 0,I 2,I 0,.bool false],[],rfl,rfl,rfl,rfl⟩).mono aA.aB hle13) hb4
 refine e9 (v:=I 300) Q9 (w5 (pZ h13 (kM ([(aA.mk 0 0 0 0 2 0 false)]) aQ.dY ([]) ([]) aQ.Versions aQ.cj aQ.bS) (iK.mk (zAD b6) 1 q25 q26 none 0 none 0 q27 q28 q29 q30 q31 q32) ⟨sl26,(sl18.mono aE.aB (hle12.t hle13)),vE,vE,(sl19.mono aC.aB (hle12.t hle13)),(sl20.mono aj.aB (hle12.t hle13)),(sl21.mono ae.aB (hle12.t hle13))⟩ (by first|exact oK|exact mp (by decide) (by decide) (by decide)) (hk.mono ((((((((((((kE.t kF).t kG).t kK).t kP).t kQ).t hle7).t hle8).t hle9).t hle10).t hle11).t hle12).t hle13))) kr) U (qO 20 U (aS (cM (cells:=[I 2]) fm ty3 zc3 U U kr (λb11=>dV 0 U hM (λh14 hle14 hb5=>?_)))))
 have sl27:SlC jB h14 (zAD b11) 1 ([2]):=bW.slB0 (T:=3) (fz:=(0,0)) ((show bW jB h13 [I 2] ([2])from⟨[I 2],[],rfl,rfl,rfl,rfl⟩).mono vJ hle14) hb5
 refine e9 (v:=.bool true) call25 (w5 (wu h14 ([2]) rb1 rc1 ([2]) (zAD b11) 1 (sl6.mono vJ (((((((((kP.t kQ).t hle7).t hle8).t hle9).t hle10).t hle11).t hle12).t hle13).t hle14)) sl27) kr) U (qL 12 [] U ?_)
 let z2:Nat×Obj:=(b9,O [.slice (zAD b8) 1 1,.slice q33 1 q34,.slice (zAD b10) 1 1,zSN,.slice q35 1 q36,.slice q37 1 q38,.slice q39 1 q40] 30)
 let z8:Nat×Obj:=(b10,O [I 0,I 0,I 0,I 5,I 9,.bool false,.bool false] 78)
 let z9:Nat×Obj:=(b8,O [I 0,I 0,I 0,I 0,I 2,I 1,.bool false] 76)
 refine aS (pG (A:=[]) (Fr:=[z8,z2,z9,z1,z5,z3]) Gv rfl (iQ h14) rfl (λv10 h15 B6 hle15 hp10=>?_) (λ_ _ _ _ hR_=>by obtain⟨_,_,_,_,_,_,_,_,_,hr_,_⟩:=hR_;cases hr_))
 obtain⟨b12,q41,q42,q43,q44,q45,q46,q47,q48,hr_,rfl,sl28,sl29,sl30,sl31⟩:=hp10
 cases hr_
 refine cS zc30 (λb13=>cJ 0 ty30 U U U U U U (qO 3 U (aS (ia (cells:=[I 8,I 0,I 0,I (-1),I 10,I 1,I 59,.bool false]) (places:=[(0,1),(1,1),(2,1),(3,1),(4,1),(5,1),(6,1),(7,1)]) underlying81 zc81 kr kr (aS (cM (cells:=[I 8,I 0,I 0,I (-1),I 10,I 1,I 59,.bool false]) underlying25 ty81 zc81 U U kr (λb14=>qL 1 [] U (dK 1 ty25 U U U U U U (qO 3 U (ga 1 ty30 U U U (aS (cM (cells:=[I (-1)]) fm ty3 zc3 U U kr (λb15=>dV 3 U hM (λh16 hle16 hb6=>?_))))))))))))))
 have sl32:SlC aA.rp h16 (zAD b12) 1 ([(aA.mk 0 0 0 0 2 1 false)]):=bW.slB0 (T:=76) (fz:=(0,0)) ((show bW aA.rp h15 [I 0,I 0,I 0,I 0,I 2,I 1,.bool false] ([(aA.mk 0 0 0 0 2 1 false)])from⟨[I 0,I 0,I 0,I 0,I 2,I 1,.bool false],[],rfl,rfl,rfl,rfl⟩).mono aA.aB hle16) hb6
 refine dV 1 U hM (λh17 hle17 hb7=>?_)
 have sl33:SlC xV h17 (zAD b14) 1 ([(YM 8 0 0 (-1) 10 1 59 false)]):=bW.slB0 (T:=81) (fz:=(0,0)) ((show bW xV h16 [I 8,I 0,I 0,I (-1),I 10,I 1,I 59,.bool false] ([(YM 8 0 0 (-1) 10 1 59 false)])from⟨[I 8,I 0,I 0,I (-1),I 10,I 1,I 59,.bool false],[],rfl,rfl,rfl,rfl⟩).mono ZU hle17) hb7
 refine dV 0 U hM (λh18 hle18 hb8=>?_)
 have sl34:SlC jB h18 (zAD b15) 1 ([(-1)]):=bW.slB0 (T:=3) (fz:=(0,0)) ((show bW jB h17 [I (-1)] ([(-1)])from⟨[I (-1)],[],rfl,rfl,rfl,rfl⟩).mono vJ hle18) hb8
 refine aS (eb Oe (ot h18 (kM ([(aA.mk 0 0 0 0 2 1 false)]) aQ.dY ([]) ([(YM 8 0 0 (-1) 10 1 59 false)]) aQ.Versions aQ.cj aQ.bS) (iK.mk (zAD b12) 1 q41 q42 none 0 (zAD b14) 1 q43 q44 q45 q46 q47 q48) ([(-1)]) (zAD b15) 1 ([]) none 0 7 10 100 ⟨(sl32.mono aA.aB (hle17.t hle18)),(sl28.mono aE.aB ((hle16.t hle17).t hle18)),vE,(sl33.mono ZU hle18),(sl29.mono aC.aB ((hle16.t hle17).t hle18)),(sl30.mono aj.aB ((hle16.t hle17).t hle18)),(sl31.mono ae.aB ((hle16.t hle17).t hle18))⟩ sl34 vE (by first|exact oK|exact mp (by decide) (by decide) (by decide)) (by decide) (hk.mono (((((((((((((((((kE.t kF).t kG).t kK).t kP).t kQ).t hle7).t hle8).t hle9).t hle10).t hle11).t hle12).t hle13).t hle14).t hle15).t hle16).t hle17).t hle18))) U (λv11 h19 hle19 hp11=>?_))
 rw[show(da (kM ([(aA.mk 0 0 0 0 2 1 false)]) aQ.dY ([]) ([(YM 8 0 0 (-1) 10 1 59 false)]) aQ.Versions aQ.cj aQ.bS) ([(-1)]) ([]) 7 10 100)=((dT.mk 4 8 [1] [2]),0)from by kernel_rfl]at hp11
 obtain⟨rr3,rfl,ok3⟩:=hp11
 refine qO 3 U (cS zc36 (λb16=>cJ 0 ty36 U U U U U U (qO 4 U ?_)))
 let z4:Nat×Obj:=(b13,O [.slice (zAD b12) 1 1,.slice q41 1 q42,zSN,.slice (zAD b14) 1 1,.slice q43 1 q44,.slice q45 1 q46,.slice q47 1 q48] 30)
 let z6:Nat×Obj:=(b16,O [I 4,I 8,.slice rr3.nu 1 rr3.nt,.slice rr3.Mw 1 rr3.Mv] 36)
 refine aS (pG (A:=[]) (Fr:=[z6,z4,z8,z2,z9,z1,z5,z3]) Gv rfl (iQ h19) rfl (λv12 h20 B7 hle20 hp12=>?_) (λ_ _ _ _ hR_=>by obtain⟨_,_,_,_,_,_,_,_,_,hr_,_⟩:=hR_;cases hr_))
 obtain⟨b17,q49,q50,q51,q52,q53,q54,q55,q56,hr_,rfl,sl35,sl36,sl37,sl38⟩:=hp12
 cases hr_
 refine aS (cM (cells:=[I 9]) fm ty3 zc3 U U kr (λb18=>dV 1 U hM (λh21 hle21 hb9=>?_)))
 have sl39:SlC aA.rp h21 (zAD b17) 1 ([(aA.mk 0 0 0 0 2 1 false)]):=bW.slB0 (T:=76) (fz:=(0,0)) ((show bW aA.rp h20 [I 0,I 0,I 0,I 0,I 2,I 1,.bool false] ([(aA.mk 0 0 0 0 2 1 false)])from⟨[I 0,I 0,I 0,I 0,I 2,I 1,.bool false],[],rfl,rfl,rfl,rfl⟩).mono aA.aB hle21) hb9
 refine dV 0 U hM (λh22 hle22 hb10=>?_)
 have sl40:SlC jB h22 (zAD b18) 1 ([9]):=bW.slB0 (T:=3) (fz:=(0,0)) ((show bW jB h21 [I 9] ([9])from⟨[I 9],[],rfl,rfl,rfl,rfl⟩).mono vJ hle22) hb10
 refine aS (eb Oe (ot h22 (kM ([(aA.mk 0 0 0 0 2 1 false)]) aQ.dY ([]) ([]) aQ.Versions aQ.cj aQ.bS) (iK.mk (zAD b17) 1 q49 q50 none 0 none 0 q51 q52 q53 q54 q55 q56) ([9]) (zAD b18) 1 ([]) none 0 7 10 100 ⟨(sl39.mono aA.aB hle22),(sl35.mono aE.aB (hle21.t hle22)),vE,vE,(sl36.mono aC.aB (hle21.t hle22)),(sl37.mono aj.aB (hle21.t hle22)),(sl38.mono ae.aB (hle21.t hle22))⟩ sl40 vE (by first|exact oK|exact mp (by decide) (by decide) (by decide)) (by decide) (hk.mono (((((((((((((((((((((kE.t kF).t kG).t kK).t kP).t kQ).t hle7).t hle8).t hle9).t hle10).t hle11).t hle12).t hle13).t hle14).t hle15).t hle16).t hle17).t hle18).t hle19).t hle20).t hle21).t hle22))) U (λv13 h23 hle23 hp13=>?_))
 rw[show(da (kM ([(aA.mk 0 0 0 0 2 1 false)]) aQ.dY ([]) ([]) aQ.Versions aQ.cj aQ.bS) ([9]) ([]) 7 10 100)=((dT.mk 1 (-1) [] []),0)from by kernel_rfl]at hp13
 obtain⟨rr4,rfl,ok4⟩:=hp13
 refine qO 3 U (cS zc36 (λb19=>cJ 0 ty36 U U U U U U (qL 37 [1,1,0,0] U ?_)))
 let z7:Nat×Obj:=(b19,O [I 1,I (-1),.slice rr4.nu 0 rr4.nt,.slice rr4.Mw 0 rr4.Mv] 36)
 refine aS (pG (A:=[]) (Fr:=[z7,z6,z4,z8,z2,z9,z1,z5,z3]) Gv rfl (iQ h23) rfl (λv14 h24 B8 hle24 hp14=>?_) (λ_ _ _ _ hR_=>by obtain⟨_,_,_,_,_,_,_,_,_,hr_,_⟩:=hR_;cases hr_))
 obtain⟨b20,q57,q58,q59,q60,q61,q62,q63,q64,hr_,rfl,sl41,sl42,sl43,sl44⟩:=hp14
 cases hr_
 refine dV 0 U hM (λh25 hle25 hb11=>?_)
 have sl45:SlC aA.rp h25 (zAD b20) 1 ([(aA.mk 0 0 0 0 2 1 false)]):=bW.slB0 (T:=76) (fz:=(0,0)) ((show bW aA.rp h24 [I 0,I 0,I 0,I 0,I 2,I 1,.bool false] ([(aA.mk 0 0 0 0 2 1 false)])from⟨[I 0,I 0,I 0,I 0,I 2,I 1,.bool false],[],rfl,rfl,rfl,rfl⟩).mono aA.aB hle25) hb11
 refine e9 (v:=.bool true) Lk (w5 (pY h25 (kM ([(aA.mk 0 0 0 0 2 1 false)]) aQ.dY ([]) ([]) aQ.Versions aQ.cj aQ.bS) (iK.mk (zAD b20) 1 q57 q58 none 0 none 0 q59 q60 q61 q62 q63 q64) 0 1 ⟨sl45,(sl41.mono aE.aB hle25),vE,vE,(sl42.mono aC.aB hle25),(sl43.mono aj.aB hle25),(sl44.mono ae.aB hle25)⟩ (by first|exact oK|exact mp (by decide) (by decide) (by decide)) (by decide) (hk.mono ((((((((((((((((((((((((kE.t kF).t kG).t kK).t kP).t kQ).t hle7).t hle8).t hle9).t hle10).t hle11).t hle12).t hle13).t hle14).t hle15).t hle16).t hle17).t hle18).t hle19).t hle20).t hle21).t hle22).t hle23).t hle24).t hle25))) kr) rfl (dU (aS (pG (A:=[]) (Fr:=[z7,z6,z4,z8,z2,z9,z1,z5,z3]) Gv rfl (iQ h25) rfl (λv15 h26 B9 hle26 hp15=>?_) (λ_ _ _ _ hR_=>by obtain⟨_,_,_,_,_,_,_,_,_,hr_,_⟩:=hR_;cases hr_))))
 obtain⟨b21,q65,q66,q67,q68,q69,q70,q71,q72,hr_,rfl,sl46,sl47,sl48,sl49⟩:=hp15
 cases hr_
 refine dV 0 U hM (λh27 hle27 hb12=>?_)
 have sl50:SlC aA.rp h27 (zAD b21) 1 ([(aA.mk 0 0 0 0 2 1 false)]):=bW.slB0 (T:=76) (fz:=(0,0)) ((show bW aA.rp h26 [I 0,I 0,I 0,I 0,I 2,I 1,.bool false] ([(aA.mk 0 0 0 0 2 1 false)])from⟨[I 0,I 0,I 0,I 0,I 2,I 1,.bool false],[],rfl,rfl,rfl,rfl⟩).mono aA.aB hle27) hb12
 refine e9 (v:=.bool true) Lk (w5 (pY h27 (kM ([(aA.mk 0 0 0 0 2 1 false)]) aQ.dY ([]) ([]) aQ.Versions aQ.cj aQ.bS) (iK.mk (zAD b21) 1 q65 q66 none 0 none 0 q67 q68 q69 q70 q71 q72) 6 3 ⟨sl50,(sl46.mono aE.aB hle27),vE,vE,(sl47.mono aC.aB hle27),(sl48.mono aj.aB hle27),(sl49.mono ae.aB hle27)⟩ (by first|exact oK|exact mp (by decide) (by decide) (by decide)) (by decide) (hk.mono ((((((((((((((((((((((((((kE.t kF).t kG).t kK).t kP).t kQ).t hle7).t hle8).t hle9).t hle10).t hle11).t hle12).t hle13).t hle14).t hle15).t hle16).t hle17).t hle18).t hle19).t hle20).t hle21).t hle22).t hle23).t hle24).t hle25).t hle26).t hle27))) kr) rfl (qO 2 rfl (aS (pG (A:=[]) (Fr:=[z7,z6,z4,z8,z2,z9,z1,z5,z3]) Gv rfl (iQ h27) rfl (λv16 h28 B10 hle28 hp16=>?_) (λ_ _ _ _ hR_=>by obtain⟨_,_,_,_,_,_,_,_,_,hr_,_⟩:=hR_;cases hr_))))
 obtain⟨b22,q73,q74,q75,q76,q77,q78,q79,q80,hr_,rfl,sl51,sl52,sl53,sl54⟩:=hp16
 cases hr_
 refine dV 0 U hM (λh29 hle29 hb13=>?_)
 have sl55:SlC aA.rp h29 (zAD b22) 1 ([(aA.mk 0 0 0 0 2 1 false)]):=bW.slB0 (T:=76) (fz:=(0,0)) ((show bW aA.rp h28 [I 0,I 0,I 0,I 0,I 2,I 1,.bool false] ([(aA.mk 0 0 0 0 2 1 false)])from⟨[I 0,I 0,I 0,I 0,I 2,I 1,.bool false],[],rfl,rfl,rfl,rfl⟩).mono aA.aB hle29) hb13
 refine e9 (v:=.bool true) Lk (w5 (pY h29 (kM ([(aA.mk 0 0 0 0 2 1 false)]) aQ.dY ([]) ([]) aQ.Versions aQ.cj aQ.bS) (iK.mk (zAD b22) 1 q73 q74 none 0 none 0 q75 q76 q77 q78 q79 q80) 7 0 ⟨sl55,(sl51.mono aE.aB hle29),vE,vE,(sl52.mono aC.aB hle29),(sl53.mono aj.aB hle29),(sl54.mono ae.aB hle29)⟩ (by first|exact oK|exact mp (by decide) (by decide) (by decide)) (by decide) (hk.mono ((((((((((((((((((((((((((((kE.t kF).t kG).t kK).t kP).t kQ).t hle7).t hle8).t hle9).t hle10).t hle11).t hle12).t hle13).t hle14).t hle15).t hle16).t hle17).t hle18).t hle19).t hle20).t hle21).t hle22).t hle23).t hle24).t hle25).t hle26).t hle27).t hle28).t hle29))) kr) rfl (qO 2 rfl (aS (pG (A:=[]) (Fr:=[z7,z6,z4,z8,z2,z9,z1,z5,z3]) Gv rfl (iQ h29) rfl (λv17 h30 B11 hle30 hp17=>?_) (λ_ _ _ _ hR_=>by obtain⟨_,_,_,_,_,_,_,_,_,hr_,_⟩:=hR_;cases hr_))))
 obtain⟨b23,q81,q82,q83,q84,q85,q86,q87,q88,hr_,rfl,sl56,sl57,sl58,sl59⟩:=hp17
 cases hr_
 refine dV 0 U hM (λh31 hle31 hb14=>?_)
 have sl60:SlC aA.rp h31 (zAD b23) 1 ([(aA.mk 0 0 0 0 2 1 false)]):=bW.slB0 (T:=76) (fz:=(0,0)) ((show bW aA.rp h30 [I 0,I 0,I 0,I 0,I 2,I 1,.bool false] ([(aA.mk 0 0 0 0 2 1 false)])from⟨[I 0,I 0,I 0,I 0,I 2,I 1,.bool false],[],rfl,rfl,rfl,rfl⟩).mono aA.aB hle31) hb14
 refine e9 (v:=.bool true) Lk (w5 (pY h31 (kM ([(aA.mk 0 0 0 0 2 1 false)]) aQ.dY ([]) ([]) aQ.Versions aQ.cj aQ.bS) (iK.mk (zAD b23) 1 q81 q82 none 0 none 0 q83 q84 q85 q86 q87 q88) 39 0 ⟨sl60,(sl56.mono aE.aB hle31),vE,vE,(sl57.mono aC.aB hle31),(sl58.mono aj.aB hle31),(sl59.mono ae.aB hle31)⟩ (by first|exact oK|exact mp (by decide) (by decide) (by decide)) (by decide) (hk.mono ((((((((((((((((((((((((((((((kE.t kF).t kG).t kK).t kP).t kQ).t hle7).t hle8).t hle9).t hle10).t hle11).t hle12).t hle13).t hle14).t hle15).t hle16).t hle17).t hle18).t hle19).t hle20).t hle21).t hle22).t hle23).t hle24).t hle25).t hle26).t hle27).t hle28).t hle29).t hle30).t hle31))) kr) rfl (qO 2 rfl (aS (pG (A:=[]) (Fr:=[z7,z6,z4,z8,z2,z9,z1,z5,z3]) Gv rfl (iQ h31) rfl (λv18 h32 B12 hle32 hp18=>?_) (λ_ _ _ _ hR_=>by obtain⟨_,_,_,_,_,_,_,_,_,hr_,_⟩:=hR_;cases hr_))))
 obtain⟨b24,q89,q90,q91,q92,q93,q94,q95,q96,hr_,rfl,sl61,sl62,sl63,sl64⟩:=hp18
 cases hr_
 refine dV 0 U hM (λh33 hle33 hb15=>?_)
 have sl65:SlC aA.rp h33 (zAD b24) 1 ([(aA.mk 0 0 0 0 2 1 false)]):=bW.slB0 (T:=76) (fz:=(0,0)) ((show bW aA.rp h32 [I 0,I 0,I 0,I 0,I 2,I 1,.bool false] ([(aA.mk 0 0 0 0 2 1 false)])from⟨[I 0,I 0,I 0,I 0,I 2,I 1,.bool false],[],rfl,rfl,rfl,rfl⟩).mono aA.aB hle33) hb15
 refine e9 (v:=.bool true) Lk (w5 (pY h33 (kM ([(aA.mk 0 0 0 0 2 1 false)]) aQ.dY ([]) ([]) aQ.Versions aQ.cj aQ.bS) (iK.mk (zAD b24) 1 q89 q90 none 0 none 0 q91 q92 q93 q94 q95 q96) 40 3 ⟨sl65,(sl61.mono aE.aB hle33),vE,vE,(sl62.mono aC.aB hle33),(sl63.mono aj.aB hle33),(sl64.mono ae.aB hle33)⟩ (by first|exact oK|exact mp (by decide) (by decide) (by decide)) (by decide) (hk.mono ((((((((((((((((((((((((((((((((kE.t kF).t kG).t kK).t kP).t kQ).t hle7).t hle8).t hle9).t hle10).t hle11).t hle12).t hle13).t hle14).t hle15).t hle16).t hle17).t hle18).t hle19).t hle20).t hle21).t hle22).t hle23).t hle24).t hle25).t hle26).t hle27).t hle28).t hle29).t hle30).t hle31).t hle32).t hle33))) kr) rfl (qO 2 rfl (aS (pG (A:=[]) (Fr:=[z7,z6,z4,z8,z2,z9,z1,z5,z3]) Gv rfl (iQ h33) rfl (λv19 h34 B13 hle34 hp19=>?_) (λ_ _ _ _ hR_=>by obtain⟨_,_,_,_,_,_,_,_,_,hr_,_⟩:=hR_;cases hr_))))
 obtain⟨b25,q97,q98,q99,q100,q101,q102,q103,q104,hr_,rfl,sl66,sl67,sl68,sl69⟩:=hp19
 cases hr_
 refine dV 0 U hM (λh35 hle35 hb16=>?_)
 have sl70:SlC aA.rp h35 (zAD b25) 1 ([(aA.mk 0 0 0 0 2 1 false)]):=bW.slB0 (T:=76) (fz:=(0,0)) ((show bW aA.rp h34 [I 0,I 0,I 0,I 0,I 2,I 1,.bool false] ([(aA.mk 0 0 0 0 2 1 false)])from⟨[I 0,I 0,I 0,I 0,I 2,I 1,.bool false],[],rfl,rfl,rfl,rfl⟩).mono aA.aB hle35) hb16
 refine e9 (v:=.bool true) Lk (w5 (pY h35 (kM ([(aA.mk 0 0 0 0 2 1 false)]) aQ.dY ([]) ([]) aQ.Versions aQ.cj aQ.bS) (iK.mk (zAD b25) 1 q97 q98 none 0 none 0 q99 q100 q101 q102 q103 q104) 50 1 ⟨sl70,(sl66.mono aE.aB hle35),vE,vE,(sl67.mono aC.aB hle35),(sl68.mono aj.aB hle35),(sl69.mono ae.aB hle35)⟩ (by first|exact oK|exact mp (by decide) (by decide) (by decide)) (by decide) (hk.mono ((((((((((((((((((((((((((((((((((kE.t kF).t kG).t kK).t kP).t kQ).t hle7).t hle8).t hle9).t hle10).t hle11).t hle12).t hle13).t hle14).t hle15).t hle16).t hle17).t hle18).t hle19).t hle20).t hle21).t hle22).t hle23).t hle24).t hle25).t hle26).t hle27).t hle28).t hle29).t hle30).t hle31).t hle32).t hle33).t hle34).t hle35))) kr) U (qO 2 U (ga 4 ty30 U U U (dV 5 U hM (λh36 hle36 hb17=>?_))))
 have sl71:SlC aA.rp h36 (zAD b8) 1 ([(aA.mk 0 0 0 0 2 1 false)]):=bW.slB0 (T:=76) (fz:=(0,0)) ((show bW aA.rp h35 [I 0,I 0,I 0,I 0,I 2,I 1,.bool false] ([(aA.mk 0 0 0 0 2 1 false)])from⟨[I 0,I 0,I 0,I 0,I 2,I 1,.bool false],[],rfl,rfl,rfl,rfl⟩).mono aA.aB hle36) hb17
 refine dV 3 U hM (λh37 hle37 hb18=>?_)
 have sl72:SlC av.rp h37 (zAD b10) 1 ([(av.mk 0 0 0 5 9 false false)]):=bW.slB0 (T:=78) (fz:=(0,0)) ((show bW av.rp h36 [I 0,I 0,I 0,I 5,I 9,.bool false,.bool false] ([(av.mk 0 0 0 5 9 false false)])from⟨[I 0,I 0,I 0,I 5,I 9,.bool false,.bool false],[],rfl,rfl,rfl,rfl⟩).mono av.aB hle37) hb18
 exact e9 (v:=.bool true) Lk (w5 (pY h37 (kM ([(aA.mk 0 0 0 0 2 1 false)]) aQ.dY ([(av.mk 0 0 0 5 9 false false)]) ([]) aQ.Versions aQ.cj aQ.bS) (iK.mk (zAD b8) 1 q33 q34 (zAD b10) 1 none 0 q35 q36 q37 q38 q39 q40) 10 3 ⟨(sl71.mono aA.aB hle37),(sl22.mono aE.aB ((((((((((((((((((((((((hle13.t hle14).t hle15).t hle16).t hle17).t hle18).t hle19).t hle20).t hle21).t hle22).t hle23).t hle24).t hle25).t hle26).t hle27).t hle28).t hle29).t hle30).t hle31).t hle32).t hle33).t hle34).t hle35).t hle36).t hle37)),sl72,vE,(sl23.mono aC.aB ((((((((((((((((((((((((hle13.t hle14).t hle15).t hle16).t hle17).t hle18).t hle19).t hle20).t hle21).t hle22).t hle23).t hle24).t hle25).t hle26).t hle27).t hle28).t hle29).t hle30).t hle31).t hle32).t hle33).t hle34).t hle35).t hle36).t hle37)),(sl24.mono aj.aB ((((((((((((((((((((((((hle13.t hle14).t hle15).t hle16).t hle17).t hle18).t hle19).t hle20).t hle21).t hle22).t hle23).t hle24).t hle25).t hle26).t hle27).t hle28).t hle29).t hle30).t hle31).t hle32).t hle33).t hle34).t hle35).t hle36).t hle37)),(sl25.mono ae.aB ((((((((((((((((((((((((hle13.t hle14).t hle15).t hle16).t hle17).t hle18).t hle19).t hle20).t hle21).t hle22).t hle23).t hle24).t hle25).t hle26).t hle27).t hle28).t hle29).t hle30).t hle31).t hle32).t hle33).t hle34).t hle35).t hle36).t hle37))⟩ (by first|exact oK|exact mp (by decide) (by decide) (by decide)) (by decide) (hk.mono ((((((((((((((((((((((((((((((((((((kE.t kF).t kG).t kK).t kP).t kQ).t hle7).t hle8).t hle9).t hle10).t hle11).t hle12).t hle13).t hle14).t hle15).t hle16).t hle17).t hle18).t hle19).t hle20).t hle21).t hle22).t hle23).t hle24).t hle25).t hle26).t hle27).t hle28).t hle29).t hle30).t hle31).t hle32).t hle33).t hle34).t hle35).t hle36).t hle37))) kr) U (qO 3 U (nretP [.bool true] (cs hs0)))
end
end Go.Sg
