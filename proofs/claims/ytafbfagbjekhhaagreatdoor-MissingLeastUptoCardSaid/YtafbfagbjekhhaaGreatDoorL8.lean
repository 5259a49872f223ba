import Derived.Test.YtafbfagbjekhhaaGreatDoorL7
/- A part of the proof of MissingLeast. -/
set_option linter.unusedVariables false
set_option linter.unusedSimpArgs false
set_option maxRecDepth 100000
open List renaming length_cons→zA,length_append→jA,not_mem_nil→kA,length_nil→zB,toArray→xB,mem_cons_self→vB,mem_cons_of_mem→xC,mem_singleton→jC,range→vD,mem_cons→kD,mem_of_getElem?→xE,append_assoc→jE,nil_append→vF,map_cons→kG,mem_append→qH,mem_map→qJ,mem_append_left→qS,map_append→Wx,map_nil→WI
open Go.Sg.HF renaming le_trans→vA,le_refl→kH,le→xJ
open Go.Sg.Rp renaming int→jB,bw→vH,bool→qW,str→WN,sl→W9,iZ→Xl
open Go.IntKind renaming wrap→kB
open Go.Value renaming int→zC
open Go.Sg.Register renaming cells→zD,ok→zL
open Nat renaming le_refl→kE,zero_le→zH,le_trans→kL,lt_or_ge→kM,le_succ_of_le→XH
open Go.Sg.SlC renaming nil→zG
open Go.Sg.Lack renaming rp→jJ,cells→xQ,mk→vT
open Go.Sg.Budget renaming cells→xM,rp→zR
open Go.Sg.Use renaming rp→XC,aD→Yf

namespace Go.Sg
variable {P:Program}{f:FuncId}{i:Nat}{p:Prop}{pe:Int->Go.Value}{q:Int->Bool}{signed:List Int}{u:List Use}{v:Go.Value}{vs:List Go.Value}{x:Operand}{ρ:Type}
open Go.Proofs Go.Proofs.Tryz
set_option maxHeartbeats 2000000
theorem xr(rec:bj->aj->Bool)(h q wm)(x:aj)(gR)(hrec:∀(h:HF)(qq:bj)(EA:og)(qx:aj)(mz:eC)(hqq:bj.ok h qq EA)(hqx:aj.ok h qx mz)(hok:OkX (qq.da.length:Int) qx)(hso:qq.kU.Pairwise (·<=·))(hsw:qq.kU.length<=2000000)(_:qx.dep<x.dep),Ret prog 206 [.agg (bj.cells qq EA).toArray,.agg (aj.cells qx mz).toArray] h (.bool (rec qq qx)))(hq:bj.ok h q wm)(hx:aj.ok h x gR)(hok:OkX (q.da.length:Int) x)(hso:q.kU.Pairwise (·<=·))(hsw:q.kU.length<=2000000):Ret prog 274 [.agg (bj.cells q wm).toArray,.agg (aj.cells x gR).toArray] h (.bool (eu.F rec q x)):=by
 refine sT func274 U ntmps274 U λX hM hX hF=>?_
 have hs0:=@rfl _ (eu.F rec q x)
 refine sr (eO (λb1=>eO (λb2=>qL 14 [0] U ?_)))
 let z1:Nat×Obj:=(b1,O (bj.cells q wm) 275)
 let z2:Nat×Obj:=(b2,O (aj.cells x gR) 59)
 refine lp1 x.L (λi w=>[(2,Q b1),(3,Q b2),(5,I w),(9,.slice gR.oV x.L.length gR.pk),(10,I (x.L.length:Int)),(11,I (i:Int))]) ([z2,z1]) (λs1 i w=>(eu.L1 rec q (eu.K1 x)) s1 w) 0 hx.list.1.1 hs0 ?_ ?_
 .rintro i1 fg iP hs1 e
  exact qK 8 [0] U (nretP [.bool (decide (x.N<=fg))] (cs hs1))
 rintro i1 fg y1 rz1 hd1 fY dz iT mF hs3 hx1 ag1 e
 have hoy:=hok.sub y1 (hZ hd1)
 refine sr (tO fY U (qO 8 U (aI (iR qI ty59 hx.list.1 dz U U U (λ_ _ _ e=>e) (λq2 r2 A2 ok2=>eU ty59 A2 U U (bH zc59 (λb4=>bE 0 ty59 U U U U U U (qO 3 U (dy 2 ty275 U U U (dy 0 ty59 U U U (aS Ru (hrec _ _ _ _ _ hq ok2 ob ob ob (aj.lj (hZ hd1))) U (bo (aH hs3 U (λc2 hs4=>?_) (λc2 hs5=>?_))))))))))))))
 .exact bJ (qO 6 U (oi i1 U (qO 2 U (cu (L':=[z2,z1]) js (ag1 (kB .i64 (fg+1)) hs4)))))
 exact bL (qT 2 U (oi i1 U (qO 2 U (cu (L':=[z2,z1]) js (ag1 fg hs5)))))
theorem vY(rec:bj->aj->Bool)(h q wm)(x:aj)(gR)(hrec:∀(h:HF)(qq:bj)(EA:og)(qx:aj)(mz:eC)(hqq:bj.ok h qq EA)(hqx:aj.ok h qx mz)(hok:OkX (qq.da.length:Int) qx)(hso:qq.kU.Pairwise (·<=·))(hsw:qq.kU.length<=2000000)(_:qx.dep<x.dep),Ret prog 206 [.agg (bj.cells qq EA).toArray,.agg (aj.cells qx mz).toArray] h (.bool (rec qq qx)))(hq:bj.ok h q wm)(hx:aj.ok h x gR)(hok:OkX (q.da.length:Int) x)(hso:q.kU.Pairwise (·<=·))(hsw:q.kU.length<=2000000)(hk4:x.Kind=4):Ret prog 275 [.agg (bj.cells q wm).toArray,.agg (aj.cells x gR).toArray] h (.bool (lP.F rec q x)):=by
 refine sT func275 U ntmps275 U λX hM hX hF=>?_
 have hs0:=@rfl _ (lP.F rec q x)
 have hl2:=hok.two hk4
 refine sr (eO (λb1=>eO (λb2=>qL 11 [1,0] U (aH hs0 U (λc1 hs1=>?_) (λc1 hs2=>?_)))))
 .have c1p:=of_decide_eq_true c1
  refine ea (eY ([(b2,O (aj.cells x gR) 59),(b1,O (bj.cells q wm) 275)]) mixed kr jn (λgK _=>tf 0 U U (λ_ _ hj=>lO ty275 U (hj.nth (i:=1) U) U) (qB [1] U (tf 2 U U (rj 0 ty57 U U U) ?_))))
  have ho1:0<=(0:Int)/\(0:Int)<((x.L).length:Int):=ob
  refine oK 3 gK jn qI ty59 hx.list.1 ho1 (di ho1) U U U U kr (λq1 cs1 A1 ln1 rr1=>?_)
  obtain⟨r1,rfl,ok1⟩:=rr1
  exact tf 4 U U (λ_ _ hj=>mW ty59 (A1.mono hj.1) U U) (tn 5 U (gi Ru (hrec _ _ _ _ _ hq ok1 (hok.sub _ (ow ob)) ob ob (aj.lj (ow ob))) U (⟨jn,(qA [6] U (bO kr (nretP [.bool (rec q (nthI x.L 0))] (cs hs1))))⟩)))
 have c1p:=of_decide_eq_false c1
 refine qT 2 U (eY ([(b2,O (aj.cells x gR) 59),(b1,O (bj.cells q wm) 275)]) mixed kr jn (λlZ _=>tf 0 U U (λ_ _ hj=>lO ty275 U (hj.nth (i:=1) U) U) (qB [1] U (tf 2 U U (rj 0 ty57 U U U) ?_))))
 have ho2:0<=(1:Int)/\(1:Int)<((x.L).length:Int):=ob
 refine oK 3 lZ jn qI ty59 hx.list.1 ho2 (di ho2) U U U U kr (λq2 cs2 A2 ln2 rr2=>?_)
 obtain⟨r2,rfl,ok2⟩:=rr2
 exact tf 4 U U (λ_ _ hj=>mW ty59 (A2.mono hj.1) U U) (tn 5 U (gi Ru (hrec _ _ _ _ _ hq ok2 (hok.sub _ (ow ob)) ob ob (aj.lj (ow ob))) U (⟨jn,(qA [6] U (bO kr (nretP [.bool (rec q (nthI x.L 1))] (cs hs2))))⟩)))
theorem SX(rec:bj->aj->Bool)(h q wm x gR)(hq:bj.ok h q wm)(hx:aj.ok h x gR)(hrec:∀(h:HF)(qq:bj)(EA:og)(qx:aj)(mz:eC)(_:bj.ok h qq EA)(_:aj.ok h qx mz)(_:OkX (qq.da.length:Int) qx)(_:qq.kU.Pairwise (·<=·))(_:qq.kU.length<=2000000)(_:qx.dep<x.dep),Ret prog 206 [.agg (bj.cells qq EA).toArray,.agg (aj.cells qx mz).toArray] h (.bool (rec qq qx)))(hok:OkX (q.da.length:Int) x)(hso:q.kU.Pairwise (·<=·))(hsw:q.kU.length<=2000000):
  qX prog (List.getD [.nilFunc,.func (.func 272) #[] #[],.func (.func 273) #[] #[],.func (.func 274) #[] #[],.func (.func 275) #[] #[]] x.Kind.toNat .nilFunc) [.agg (bj.cells q wm).toArray,.agg (aj.cells x gR).toArray] h [] (.bool (fulQ rec q x)):=by
 have hk:=hok.kind
 have hc:x.Kind=1\/x.Kind=2\/x.Kind=3\/x.Kind=4:=by omega
 rcases hc with e|e|e|e
 .rw[show fulQ rec q x=ey q x from by simp[fulQ,e],e];exact iA (cap:=[]) call272 (wY h q wm x gR hq hx (hok.no ob) hso hsw)
 .rw[show fulQ rec q x=dc q x from by simp[fulQ,e],e];exact iA (cap:=[]) call273 (vh h q wm x gR hq hx (hok.no ob) hso hsw)
 .rw[show fulQ rec q x=eu.F rec q x from by simp[fulQ,e],e];exact iA (cap:=[]) call274 (xr rec h q wm x gR hrec hq hx hok hso hsw)
 rw[show fulQ rec q x=lP.F rec q x from by simp[fulQ,e],e];exact iA (cap:=[]) call275 (vY rec h q wm x gR hrec hq hx hok hso hsw e)
theorem ul(rec:bj->aj->Bool)(h q wm)(x:aj)(gR)(hrec:∀(h:HF)(qq:bj)(EA:og)(qx:aj)(mz:eC)(hqq:bj.ok h qq EA)(hqx:aj.ok h qx mz)(hok:OkX (qq.da.length:Int) qx)(hso:qq.kU.Pairwise (·<=·))(hsw:qq.kU.length<=2000000)(_:qx.dep<x.dep),Ret prog 206 [.agg (bj.cells qq EA).toArray,.agg (aj.cells qx mz).toArray] h (.bool (rec qq qx)))(hq:bj.ok h q wm)(hx:aj.ok h x gR)(hok:OkX (q.da.length:Int) x)(hso:q.kU.Pairwise (·<=·))(hsw:q.kU.length<=2000000):Ret prog 206 [.agg (bj.cells q wm).toArray,.agg (aj.cells x gR).toArray] h (.bool (cV.F rec q x)):=by
 refine sT func206 U ntmps206 U λX hM hX hF=>?_
 have hs0:=@rfl _ (cV.F rec q x)
 have hkd:=hok.kind
 refine sr (eO (λb1=>eO (λb2=>qO 4 U (aI (Sa (cells:=[.nilFunc,.func (.func 272) #[] #[],.func (.func 273) #[] #[],.func (.func 274) #[] #[],.func (.func 275) #[] #[]]) underlying312 ty311 zc312 kr (bH zc312 (λb3=>bE 0 ty312 U U U U U U (qO 2 U (gE 0 U hM (λh1 hle1 hb1=>eY ([(b2,O (aj.cells x gR) 59),(b1,O (bj.cells q wm) 275)]) mixed kr jn (λgK _=>qB [0] U (tf 1 U U (rj 0 ty3 U U U) ?_))))))))))))
 have ho1:0<=(x.Kind:Int)/\(x.Kind:Int)<5:=ob
 have A1:=Vt (dO hb1) ho1
 exact tf 2 U U (λ_ _ _=>Sf underlying312 ty311 U U ho1) (tf 3 U U (rh ty311 A1 U) (tf 4 U U (λ_ _ hj=>lO ty275 U (hj.nth (i:=1) U) U) (tf 5 U U (λ_ _ hj=>lO ty59 U (hj.nth (i:=0) U) U) (tn 6 U (ka (v:=.bool (fulQ rec q x)) [] (List.nil_sublist _) (SX rec h1 q wm x gR (hq.mono hle1) (hx.mono hle1) hrec hok hso hsw) U U (⟨jn,(qA [7] U (bO kr (nretP [.bool (fulQ rec q x)] (cs hs0))))⟩))))))
theorem nP:∀(m:Nat)(h:HF)(q:bj)(wm:og)(x:aj)(gR:eC)(_:x.dep<=m)(hq:bj.ok h q wm)(hx:aj.ok h x gR)(hok:OkX (q.da.length:Int) x)(hso:q.kU.Pairwise (·<=·))(hsw:q.kU.length<=2000000),Ret prog 206 [.agg (bj.cells q wm).toArray,.agg (aj.cells x gR).toArray] h (.bool (cV.go m q x))
 |0,h,q,wm,x,gR,hd,hq,hx,hok,hso,hsw=>absurd hd (Nat.not_le.2 (aj.ni _))
 |m+1,h,q,wm,x,gR,hd,hq,hx,hok,hso,hsw=>ul (cV.go m) h q wm x gR (λqh_ qq EA qx mz qhq qhx qhok qhso qhsw qd=>nP m qh_ qq EA qx mz ob qhq qhx qhok qhso qhsw) hq hx hok hso hsw
theorem vi(h q wm x gR)(hq:bj.ok h q wm)(hx:aj.ok h x gR)(hok:OkX (q.da.length:Int) x)(hso:q.kU.Pairwise (·<=·))(hsw:q.kU.length<=2000000):Ret prog 206 [.agg (bj.cells q wm).toArray,.agg (aj.cells x gR).toArray] h (.bool (cV q x)):=nP _ h q wm x gR (kE _) hq hx hok hso hsw
theorem vj(h p jg kind value)(da:List (List bW))(mv mu kU oo oh)(hp:aw.ok h p jg)(AS:SlC (W9 bW.rp) h mv mu da)(hwho:SlC jB h oo oh kU)(hsm:smP p)(hsz0:∀y∈da,y.length<=2000000)(hsw:kU.length<=2000000)(hk:dN h):Ret prog 137 [.agg (aw.cells p jg).toArray,I kind,I value,.slice mv da.length mu,.slice oo kU.length oh] h (.tuple #[.bool ((eh p kind value da kU).1),I ((eh p kind value da kU).2)]):=by
 refine sT func137 U ntmps137 U λX hM hX hF=>?_
 have hs0:=@rfl _ (eh p kind value da kU)
 refine sr (eO (λb1=>qO 6 U (dy 0 ty61 U U U (aS call146 (wo _ _ _ hp ob hk) U (qO 7 U (aH hs0 U (λc1 hs1=>?_) (λc1 hs2=>?_)))))))
 .refine qT 6 U ?_
  have hs3:eh p kind value da kU=(false,(dh p)):=hs1
  exact nretP [.bool false,I (dh p)] (hs3▸U)
 refine qT 8 U (gy 6 [21,22,23,24,25,26,27] 21 27 (decide ((p.dN.length:Int)<=kind)) U (λc2 hk1=>?_) (λe=>?_))
 .exact qL 6 [0] U (hk1 _ U)
 refine bp (gy 3 [28,29,30,31] 28 31 (decide (value<0)) U (λc3 hk2=>?_) (λe=>?_))
 .exact bp (qO 2 U (hk2 _ U))
 refine bp (gy 3 [32,33,34,35] 32 35 (decide (1099511627776<value)) U (λc4 hk3=>?_) (λe=>?_))
 .exact bp (qO 2 U (hk3 _ U))
 refine an (aH hs2 U (λc5 hs4=>?_) (λc5 hs5=>?_))
 .refine qT 5 U ?_
  have hs6:eh p kind value da kU=(false,1):=hs4
  exact nretP [.bool false,I 1] (hs6▸U)
 refine qK 6 [0] U (aS call204 (EC _ _ _ _ (p.aA.length:Int) AS ob) U (qO 3 U (aH hs5 U (λc6 hs7=>?_) (λc6 hs8=>?_))))
 .refine qT 5 U ?_
  have hs9:eh p kind value da kU=(false,210):=hs7
  exact nretP [.bool false,I 210] (hs9▸U)
 refine qT 3 U (aS call205 (wq _ _ _ _ hwho) U (qO 3 U (aH hs8 U (λc7 hs10=>?_) (λc7 hs11=>?_))))
 .refine qT 5 U ?_
  have hs12:eh p kind value da kU=(false,1):=hs10
  exact nretP [.bool false,I 1] (hs12▸U)
 refine qT 7 U (aI (ie (cells:=[I value,.slice mv da.length mu,.slice oo kU.length oh]) (places:=[(0,1),(1,1),(2,1)]) underlying275 zc275 kr kr (qL 3 [0] U ?_)))
 have ho1:0<=(kind:Int)/\(kind:Int)<((p.dp).length:Int):=(by have hq:=BC (by simpa using c1);simp only[decide_eq_true_eq,decide_eq_false_iff_not,Bool.and_eq_true,Bool.or_eq_true,Bool.not_eq_true',Bool.not_eq_false',Bool.and_eq_false_iff,Bool.or_eq_false_iff,beq_iff_eq,beq_eq_false_iff_ne,bne_iff_ne,bne_eq_false_iff_eq,jA,zA,zB,List.length_drop]at c5;omega)
 refine aI (yv GB ty65 hp.dp.1 ho1 (di ho1) U U U (λ_ _ _ e=>e) (λq1 r1 A1 ok1=>qL 1 [] U (EF (j:=3) ty59 A1 U U (aS Ru (vi _ _ _ _ _ (show bj.ok h (bj.mk value da kU) (og.mk mv mu oo oh)from⟨AS,hwho⟩) ok1.aj (by have hq:=BC (by simpa using c1);have hr:=QL (by simpa using c6);show OkX (da.length:Int) _;rw[hr];exact hq.2.2 _ (IE (ow ho1))) (Jp (by simpa using c7)) hsw) U (qO 3 U ?_)))))
 have hs13:eh p kind value da kU=((cV (bj.mk value da kU) ((nthI p.dp kind).aj)),0):=hs11
 exact nretP [.bool (cV (bj.mk value da kU) ((nthI p.dp kind).aj)),I 0] (hs13▸U)
theorem w9(h c pQ p jg kU oo oh)(hc:bU.ok h c pQ)(hp:aw.ok h p jg)(hwho:SlC jB h oo oh kU)(hsm:smR c.Register)(hco:jw c)(hsp:smP p)(hofl:p.aA.length<=32)(hsw:kU.length<=2000000)(hk:dN h):Ret prog 93 [.agg (bU.cells c pQ).toArray,.agg (aw.cells p jg).toArray,.slice oo kU.length oh] h (.bool (dt c p kU)):=by
 refine sT func93 U ntmps93 U λX hM hX hF=>?_
 have hs0:=@rfl _ (dt c p kU)
 refine sr (eO (λb1=>eO (λb2=>qL 14 [0] U ?_)))
 let z1:Nat×Obj:=(b2,O (aw.cells p jg) 61)
 let z2:Nat×Obj:=(b1,O (bU.cells c pQ) 96)
 refine lp2 p.aA (λi w=>[(2,.slice oo kU.length oh),(3,Q b1),(4,Q b2),(7,.slice w.2.1 w.1.length w.2.2.1),(15,I (p.aA.length:Int)),(16,I (i:Int))]) (λw=>w.2.2.2.2) (λw=>[z1,z2]++(w.2.2.2.1)) (λi w=>cN (W9 bW.rp) 191 w.2.2.2.2 w.1 w.2.1 w.2.2.1 w.2.2.2.1/\w.1.length<=0+i/\xJ h w.2.2.2.2/\(∀y∈w.1,y.length<=2000000)) (λs1 i w=>(dt.L1 c (dt.K1 c p kU)) s1 i w.1) ([],none,0,[],h) hp.aA.1.1 hs0 ⟨cN.nil,lo,lf,(λy hy=>(kA hy).elim)⟩ ?_ ?_
 .rintro i1 ⟨Gc,VO,VN,UH,hh1⟩ iP hs1 ⟨NH,SR,hl1,u1_0⟩ e
  try dsimp only at NH SR hl1 u1_0
  refine sr (dy 0 ty61 U U U (qL 8 [1,1] U (oW (Rp.Bo bW.aD) ([z1,z2]) UH ([]) ap hM NH (λh3 hle3 sl3=>aS call137 (vj _ _ _ c.aV.Kind c.aV.Value _ _ _ _ _ _ (hp.mono (hl1.t hle3)) sl3 (hwho.mono vH (hl1.t hle3)) hsp ob ob (hk.mono (hl1.t hle3))) U (qO 10 U (kI 3 [52,53,54,55] 52 55 ((eh p c.aV.Kind c.aV.Value Gc kU).2==0) U (λc1 hk1=>?_) (λe=>?_)))))))
  .exact bp (qO 2 U (hk1 _ U))
  exact an (nretP [.bool ((eh p c.aV.Kind c.aV.Value Gc kU).1&&((eh p c.aV.Kind c.aV.Value Gc kU).2==0))] (cs hs1))
 rintro i1 ⟨Gc,VO,VN,UH,hh1⟩ y1 rz1 hd1 fY dz iT mF hs3 ⟨NH,SR,hl1,u1_0⟩ hx1 ag1 e
 try dsimp only at NH SR hl1 u1_0
 refine sr (tO fY U (qL 21 [1,1,1] U (aI (cx call133 (vk _ _ _ _ (i1:Int) c.at_ c.ah (hc.Register.dF.mono aK.aD hl1) hsm.2.1) U (λv2 h4 hle4 hp2=>?_)))))
 obtain⟨rb2,rc2,rfl,sl4⟩:=hp2
 exact bp (qO 8 U (aI (pN Es (jf h4 ((fd c.Register.dF (i1:Int) c.at_ c.ah).2)) (nq (Oc ((lF _).1 hco.chk).1 ob hco.time hco.know)) U (qO 4 U (aI (bN (cells:=[.slice rb2 (((fd c.Register.dF (i1:Int) c.at_ c.ah).1).length) rc2]) Mh ty191 zc191 U U kr (λb4=>aI (eB (Rp.KW bW.aD) ([(b4,O [.slice rb2 (((fd c.Register.dF (i1:Int) c.at_ c.ah).1).length) rc2] 191),z1,z2]) ([]) (λG=>[(b4,O [.slice rb2 (((fd c.Register.dF (i1:Int) c.at_ c.ah).1).length) rc2] 191),z1,z2]++G) ap (λ_=>ap) Mh ty191 zc191 U bytes191 (NH.mono (Rp.Bo bW.aD) hle4) U U (ic 0 U (cE (R:=(W9 bW.rp)) ((fd c.Register.dF (i1:Int) c.at_ c.ah).1) U ⟨rb2,rc2,U,sl4⟩)) lo lo (λob2 oc2 G2 gr2=>qO 4 U (oi i1 U (qO 2 U (cu (L':=[z1,z2]++G2) js (ag1 ((Gc++[(fd c.Register.dF (i1:Int) c.at_ c.ah).1]),ob2,oc2,G2,h4) hs3 ⟨gr2,lo,(hl1.t hle4),(λy hy=>(qH.1 hy).elim (u1_0 y) (λhy=>by rw[jC.1 hy];exact kL (Bm _ _ _ _) hsm.2.1))⟩)))))))))))))
section
variable {P:Program} {e:Env} {X:Cx} {h:HF} {L:LH} {d:Option Nat} {ty:TypeId} {pos:String} {af:Array Edge} {g:Option (Nat×Bool)}
theorem T1{t u:TypeId}(hT:∃ms,P.underlying t=some (.interface ms))(hx:e.ev x=.nilIface):∀w,St X h L w->(execOp e.ev ⟨d,.binOp .eql t x (.const .nilIface) u,ty,pos,af,g⟩).run P w=.ok (.value (.bool true)) w:=
 λw _=>by
  obtain⟨ms,hT⟩:=hT
  have hc:e.ev (.const .nilIface)=.nilIface:=rfl
  have he:(Op.equal t .nilIface .nilIface).run P w=.ok true w:=by
   rw[Op.equal,Op.maxDepth,show(10000:Nat)=9999+1 from rfl,Op.equalIn];simp[run_underlying hT]
  simp[execOp,hx,hc,eqGuard,binOp,he]
theorem T0{t u:TypeId}{T:TypeId}(hT:∃ms,P.underlying t=some (.interface ms))(hx:e.ev x=.iface T v):∀w,St X h L w->(execOp e.ev ⟨d,.binOp .eql t x (.const .nilIface) u,ty,pos,af,g⟩).run P w=.ok (.value (.bool false)) w:=
 λw _=>by
  obtain⟨ms,hT⟩:=hT
  have hc:e.ev (.const .nilIface)=.nilIface:=rfl
  have he:(Op.equal t (.iface T v) .nilIface).run P w=.ok false w:=by
   rw[Op.equal,Op.maxDepth,show(10000:Nat)=9999+1 from rfl,Op.equalIn];simp[run_underlying hT]
  simp[execOp,hx,hc,eqGuard,binOp,he]
theorem Ou{xt T:TypeId}{k:IntKind}(hT:P.underlying T=some (.int k))(hx:e.ev x=.iface T v):∀w,St X h L w->(execOp e.ev ⟨d,.typeAssert x xt T true,ty,pos,af,g⟩).run P w=.ok (.value (.tuple #[v,.bool true])) w:=
 λw _=>by simp[execOp,hx,Instr.typeAssert,run_underlying hT]
end
theorem IU(h b1 e0)(X':Cx):TT prog (deferFrame 24) 14 [.code (bodyOf Tryz.f24)] (I3 prog X' .returning (λh' B=>h'=h/\B=[(b1,O [I e0] 36)])) (envArgs [Q b1]) [] X' h [(b1,O [I e0] 36)]:=by
 exact sr (E5 (λcs_z Φ⟨c,rest,hcs,hm,_⟩=>by subst hcs;simp[recoverD,hm]) (qO 4 U (aI (eG (T1 ⟨_,RK⟩ U) (qO 6 U (KQ GC U ⟨U,U⟩))))))
theorem yN(h:HF)(b1:Nat)(e0 ee:Int)(X':Cx):TT prog (deferFrame 24) 14 [.code (bodyOf Tryz.f24)]
  (λcs_z Φ=>∃c rest,cs_z=c::rest/\c.mode=.panicking [{ v:=errV ee,recovered:=false }]/\I3 prog X' (.panicking [{ v:=errV ee,recovered:=true }]) (λh' B=>h'=h/\B=[(b1,O [I ee] 36)]) ({ c with mode:=(.panicking [{ v:=errV ee,recovered:=true }]) }::rest) Φ)
  (envArgs [Q b1]) [] X' h [(b1,O [I e0] 36)]:=by
 exact sr (GM (F':=I3 prog X' (.panicking [{ v:=errV ee,recovered:=true }]) (λh' B=>h'=h/\B=[(b1,O [I ee] 36)])) (errV ee) (λcs_z Φ⟨c,rest,hcs,hm,hF⟩=>⟨_,by subst hcs;simp[recoverD,hm],hF⟩) (qO 4 U (aI (eG (T0 ⟨_,RK⟩ U) (qO 4 U (aI (eG (Ou RL U) (qO 11 U (aI (eG (gv U) (cW 0 ty36 U U U U U U (qO 2 U (KQ GC U ⟨U,U⟩)))))))))))))
theorem uw{b:Frame}{n:Nat}{ops:Array Oper}{l:List Oper}{k:List Item}{F:List Frame->(Machine->Prop)->Prop}{e:Env}{ds:List Deferred}{X:Cx}{h:HF}{L:LH}{d:Nat}{ty:TypeId}{pos:String}{af:Array Edge}{g:Option (Nat×Bool)}{ass:Array Operand}{ats:Array TypeId}{x:Except Int ρ}{φ:ρ->Value->HF->Prop}(hc:∀args w,(callFunc f args).run P w=.ok (.enter f args) w)(hs:KI P f vs h pe x φ)(hvs:ass.toList.map e.ev=vs)(t':∀u v h',x=.ok u->h.le h'->φ u v h'->TO P b n ops l k F (upd e d v) ds X h' L)(tp:∀p h',x=.error p->h.le h'->TP P b n [{ v:=pe p,recovered:=false }] F e ds X h' L)(hdn:Nat.blt d n=true:=by rfl)(hg:guardB ops e ⟨some d,.call ⟨.value (.func f),ass,ats⟩,ty,pos,af,g⟩=true:=by rfl):
  TO P b n ops (⟨some d,.call ⟨.value (.func f),ass,ats⟩,ty,pos,af,g⟩::l) k F e ds X h L:=by
 refine KP U (qi hdn) U hg (λw hw=>?_)
 have harr:ass.map e.ev=vs.toArray:=Array.ext' (by simp[←hvs])
 refine⟨.enter f vs.toArray,w,?_,?_⟩
 .simp[execOp,resolve,Env.ev,Deferred.ofValue,invoke,harr,hc]
 refine lq (tr.mono (hs w (hw.sub (List.nil_sublist _)).pre) ?_)
 rintro y w' ⟨h',B,hst,rfl,hv⟩
 have hw2:=St.after (A:=[]) (B:=[]) (F:=L) hw hst
 cases y with
 |outgrown=>trivial
 |returned v=>
  cases x with
  |ok u=>obtain⟨v',hv,hφ⟩:=hv;cases hv;exact⟨h',_,hw2,t' _ _ _ rfl hst.le hφ⟩
  |error p=>cases hv
 |panicked ch=>
  cases x with
  |ok u=>obtain⟨v',hv,_⟩:=hv;cases hv
  |error p=>cases hv;exact⟨h',_,hw2,tp _ _ rfl hst.le⟩
theorem IY.toXH{h:HF}{enc:ρ->Value}{x:Except Int ρ}(hs:IY P f vs h (exW pe enc x)):KI P f vs h pe x (λu v h'=>v=enc u/\h'=h):=
 pJ.mono hs (λr h' B hl hR=>by
  obtain⟨rfl,rfl,hv⟩:=hR
  refine⟨U,?_⟩
  cases x with
  |ok u=>simp only[exW]at hv;exact⟨_,hv,rfl,rfl⟩
  |error p=>simp only[exW]at hv;exact hv)
theorem F8(h cK gU aV version dA ah)(mK:zL h cK gU)(hsm:smR cK)(hk:dN h):
  j6 prog 134 [.agg (zD cK gU).toArray,I aV,I version,I dA,I ah] h (λv h'=>∃(rb0:Option Addr)(rc0:Nat),v=.tuple #[.slice rb0 ((fT cK aV version dA ah).1).length rc0,I ((fT cK aV version dA ah).2)]/\SlC jB h' rb0 rc0 ((fT cK aV version dA ah).1)):=by
 refine cX Pf U ntmps134 U λX hM hX=>sr (eO (λb5=>iu (bH zc36 (λb11=>qO 3 U (JW U U (bo ?_))))))
 have fin:∀(hh:HF)(xs:List Int)(rb:Option Addr)(rc:Nat)(ee:Int)(B:LH)(e:Env),fT cK aV version dA ah=(xs,ee)->SlC jB hh rb rc xs->e 10=.slice rb xs.length rc->e 11=Q b11->∀a:Act,envOf a=e->∀w,St X hh ([(b11,O [I ee] 36)]++B) w ->
   ∃v h2 B2,(results Tryz.f134 a.tmps).run prog w=.ok v w/\St X h2 B2 w/\(B2=[]/\∃v',Ending.returned v=.returned v'/\∃(rb0:Option Addr)(rc0:Nat),v'=.tuple #[.slice rb0 ((fT cK aV version dA ah).1).length rc0,I ((fT cK aV version dA ah).2)]/\SlC jB h2 rb0 rc0 ((fT cK aV version dA ah).1)):=by
  intro hh xs rb rc ee B e he hs h10 h11 a ha w hw
  rw[he]
  exact⟨_,hh,[],oL (rs:=[.tmp 10,.cell 11 36]) (vs:=[.slice rb xs.length rc,I ee]) U ⟨h10,⟨0,b11,[I ee],36,(0,0),U,h11,.inr ⟨_,ty36,U⟩⟩,trivial⟩ a ha w hw,hw.sub (List.nil_sublist _),U,_,U,rb,rc,U,hs⟩
 refine sr (dy 1 ty30 U U U (aS (v:=I (dM cK)) call26 (AN h cK gU mK hsm hk) U ?_))
 refine uw Es (jf h (dM cK)).toXH U (λu v h1 hx1 hle1 hp1=>?_) (λee h1 hx1 hle1=>?_)
 rotate_left
 .have e1:fT cK aV version dA ah=([],ee):=by
   unfold nm at hx1;unfold fT
   cases hc:dM cK != 0 with
   |true=>rw[hc]at hx1;cases hx1;rfl
   |false=>rw[hc]at hx1;cases hx1
  refine Df (c:=bodyOf Tryz.f24) (cap:=[Q b11]) (A:=[(b11,O [I 0] 36)]) (R':=λh'' B=>h''=h1/\B=[(b11,O [I ee] 36)]) Pf GC U Mg U Mf (λX' _=>yN h1 b11 0 ee X') U ?_
  rintro h'' B _ ⟨rfl,rfl⟩ a ha w hw
  exact fin _ [] none 0 ee _ _ e1 zG U U a ha w hw
 obtain⟨rfl,rfl⟩:=hp1
 have hc0:dM cK=0:=by
  unfold nm at hx1
  cases hc:dM cK != 0 with
  |true=>rw[hc]at hx1;cases hx1
  |false=>simpa using hc
 refine qO 3 U (dy 1 ty30 U U U (qO 3 U ?_))
 refine uw call29 (Cc h1 cK gU aV dA ah mK) U (λc v h2 hx2 hle2 hp2=>?_) (λee h2 hx2 hle2=>?_)
 rotate_left
 .have e1:fT cK aV version dA ah=([],ee):=by unfold fT;rw[hc0,hx2];rfl
  refine Df (c:=bodyOf Tryz.f24) (cap:=[Q b11]) (A:=[(b11,O [I 0] 36)]) (R':=λh'' B=>h''=h2/\B=[(b11,O [I ee] 36)]) Pf GC U Mg U Mf (λX' _=>yN h2 b11 0 ee X') U ?_
  rintro h'' B _ ⟨rfl,rfl⟩ a ha w hw
  exact fin _ [] none 0 ee _ _ e1 zG U U a ha w hw
 obtain⟨cr,rfl,okc⟩:=hp2
 obtain⟨hce,hco,_,_⟩:=Gr hc0 hx2
 have hreg:c.Register=cK:=by rw[hce]
 have hsc:smR c.Register:=by rw[hreg];exact hsm
 refine bH zc96 (λb12=>bE 0 ty96 U U U U U U (bo ?_))
 let z1:Nat×Obj:=(b12,O (bU.cells c cr) 96)
 obtain⟨K,hK⟩:∃K:LH,K=[z1]:=⟨_,rfl⟩
 have J:∀{h':HF}{A:LH},h2.le h'->Jst h2 [z1] h' (z1::A):=λhl=>⟨hl,λq hq=>by rw[jC.1 hq];exact vB ..⟩
 refine ea (eY [z1] mixed kr (J lf) (λhsep _=>ki 0 hsep (J lf) U U kr U (λ_ _ hj=>lO ty96 U (hj.nth (i:=0) U) U) (ki 1 hsep (J lf) U U kr U (λ_ _ hj=>lO ty96 U (hj.nth (i:=0) U) U) (ki 2 hsep (J lf) U U kr U (λ_ _ _=>nX) ?_))))
 refine tn 3 U (MK call91 (rR h2 c cr version okc) U (λp v h3 hpp hle3 hp3=>⟨J hle3,?_⟩) (λee h3 hpp hle3 e' hA=>?_))
 rotate_left
 .have e1:fT cK aV version dA ah=([],ee):=by unfold fT;rw[hc0,hx2];simp only[bne_self_eq_false,cond_false,hpp]
  refine KN (L':=[(b11,O [I 0] 36)]++[z1,(b5,O (zD cK gU) 30)]) (List.Perm.swap _ _ _) (Df (c:=bodyOf Tryz.f24) (cap:=[Q b11]) (A:=[(b11,O [I 0] 36)]) (R':=λh'' B=>h''=h3/\B=[(b11,O [I ee] 36)]) Pf GC U Mg U Mf (λX' _=>yN h3 b11 0 ee X') U ?_)
  rintro h'' B _ ⟨rfl,rfl⟩ a ha w hw
  exact fin _ [] none 0 ee _ _ e1 zG ((hA.at_ 10).trans U) ((hA.at_ 11).trans U) a ha w hw
 have hpk:=us hco hsc hpp
 have e1:fT cK aV version dA ah=(dj c p,0):=by unfold fT;rw[hc0,hx2];simp only[bne_self_eq_false,cond_false,hpp]
 obtain⟨pr,rfl,okp⟩:=hp3
 refine tn 4 U (cx call92 (rS h3 c cr p pr (okc.mono hle3) okp hsc hco hpk.rules) U (λv h4 hle4 hp4=>⟨J (hle3.t hle4),?_⟩))
 obtain⟨rb,rc,rfl,sl⟩:=hp4
 refine ki 5 hsep (J (hle3.t hle4)) U U kr U (λ_ _ _=>Sk) (tn 6 U (lM 1 (off:=0) (vs:=[I 0]) ty36 U U U U (by rfl) U ⟨J (hle3.t hle4),bO kr (m6 (L':=[(b11,O [I 0] 36)]++[z1,(b5,O (zD cK gU) 30)]) (List.Perm.swap _ _ _) (Mq (c:=bodyOf Tryz.f24) (cap:=[Q b11]) (A:=[(b11,O [I 0] 36)]) (R':=λh'' B=>h''=h4/\B=[(b11,O [I 0] 36)]) Pf GC U Mg U Mf (λX' _=>IU h4 b11 0 X') U ?_))⟩))
 rintro h'' B _ ⟨rfl,rfl⟩ a ha w hw
 exact fin _ _ rb rc 0 _ _ e1 sl U U a ha w hw
theorem Eu{α:Type}{xs:List α}{y:α}(h:xs[i]? = some y):xs.take (i+1)=xs.take i++[y]:=by
  rw[List.take_add_one,h];rfl
theorem CP(h c pQ bv s0 b0)(hc:bU.ok h c pQ)(hsm:smR c.Register)(hco:jw c)(hat:c.aV.At<=c.at_)(hk:dN h):
  pJ prog 35 (xB [.agg (bU.cells c pQ).toArray,Q bv]) h [(bv,verO s0 b0 none 0 0 none 0 0)]
   (λr h' B=>∃vb vc wb wc G,r=.returned (.bool (iz c))/\B=(bv,verO s0 b0 vb (askJ c).1.length vc wb (askAll c).length wc)::G/\SlC jB h' vb vc (askJ c).1/\cN jB 3 h' (askAll c) wb wc G):=by
 have hJ:Jdg c.Register.Versions (askJ c):=BF hco.vers hco.good.at_ hco.time hco.know hat
 have hJl:(askJ c).1.length<=256:=kL (C8 _ _ _ _) hco.vers.len
 have hpx:∀y∈(askJ c).1,exOk (fX c y):=λy hy=>Lh (hJ.mem y hy)
 have hpk:∀y∈(askJ c).1,Tp (askP c y):=λy hy=>us hco hsm (Us (hpx y hy))
 refine cX func35 U ntmps35 U λX hM hX=>?_
 refine sr (eO (λb2=>an ?_))
 refine sr (lD Ui U (lD Ur U (py 0 ty26 U U U (lD LJ U (lD Un U (py 0 ty3 U U U (lD Uh U (py 0 ty3 U U U (lD Ug U (py 0 ty3 U U U (aI (cx call65 (uJ h c.Register.Versions _ _ c.aV.At c.at_ c.ah hc.Register.Versions hsm.vers hk) U (λv1 h1 hle1 hp1=>?_)))))))))))))
 obtain⟨vb,vc,rfl,slv⟩:=hp1
 refine qO 11 U (aI (pN Es (jf h1 _) (nq hJ.err) U (qO 9 U (Fk eP U (qO 2 U ?_)))))
 refine lp2 (γ:=List Bool×Option Addr×Nat×LH×List Int×Option Addr×Nat×LH×HF) (x0:=(askJ c).1) (askJ c).1
  (λi g=>[(1,Q bv),(2,Q b2),(5,.slice vb (askJ c).1.length vc),(6,I (askJ c).2.1),(8,.slice g.2.1 g.1.length g.2.2.1),(31,.slice vb (askJ c).1.length vc),(32,I (((askJ c).1.length:Nat):Int)),(33,I (i:Int))])
  (λg=>g.2.2.2.2.2.2.2.2)
  (λg=>[(b2,O (bU.cells c pQ) 96),(bv,verO s0 b0 none 0 0 g.2.2.2.2.2.1 g.2.2.2.2.1.length g.2.2.2.2.2.2.1)]++(g.2.2.2.1++g.2.2.2.2.2.2.2.1))
  (λi g=>g.1=((askJ c).1.take i).map (askAns c)/\g.2.2.2.2.1=((askJ c).1.take i).flatMap (askWho c)/\cN qW 4 g.2.2.2.2.2.2.2.2 g.1 g.2.1 g.2.2.1 g.2.2.2.1/\cN jB 3 g.2.2.2.2.2.2.2.2 g.2.2.2.2.1 g.2.2.2.2.2.1 g.2.2.2.2.2.2.1 g.2.2.2.2.2.2.2.1/\h1.le g.2.2.2.2.2.2.2.2/\g.1.length<=i/\g.2.2.2.2.1.length<=i*2000000)
  (λs i _=>(askJ c).1.take i++s) ([],none,0,[],[],none,0,[],h1) ob rfl ⟨rfl,rfl,cN.nil,cN.nil,kH _,zH _,zH _⟩ ?_ ?_
 .rintro i ⟨az,ab,ac,Ga,ws,wb,wc,Gw,hh⟩ hil hx0 ⟨ha,hw,gA,gW,de,la,lw⟩ e
  dsimp only at ha hw gA gW de la lw hx0
  rw[List.append_nil]at hx0
  rw[←hx0]at ha hw
  subst ha hw
  obtain⟨ws,hws⟩:∃ws,ws=(askJ c).1.flatMap (askWho c):=⟨_,rfl⟩
  have hall:askAll c=slices_Compact_int (sortI ws):=by rw[hws];rfl
  rw[←hws]at gW lw
  obtain⟨az,has⟩:∃az,az=(askJ c).1.map (askAns c):=⟨_,rfl⟩
  rw[←has]at gA la
  show TT _ _ _ _ _ (upds e [(1,Q bv),(2,Q b2),(5,.slice vb (askJ c).1.length vc),(6,I (askJ c).2.1),(8,.slice ab ((askJ c).1.map (askAns c)).length ac),(31,.slice vb (askJ c).1.length vc),(32,I (((askJ c).1.length:Nat):Int)),(33,I (i:Int))]) _ _ hh ([(b2,O (bU.cells c pQ) 96),(bv,verO s0 b0 none 0 0 wb ((askJ c).1.flatMap (askWho c)).length wc)]++(Ga++Gw))
  rw[←hws,←has]
  refine qT 3 U (aI (eG (gv U) (lD D7 U (py 1 ty31 U U U (aI (m9 ([(b2,O (bU.cells c pQ) 96),(bv,verO s0 b0 none 0 0 wb ws.length wc)]++Ga) Gw [] Pk (mP hh ws wb wc Gw gW ob) (by simp only[jE,List.cons_append,vF,List.append_nil]) U (λG2 g2=>bo ?_)))))))
  refine qT 6 U (aI (eG (gv U) (lD D7 U (py 1 ty31 U U U (aI (m9 (v:=.slice wb (slices_Compact_int (sortI ws)).length wc) ([(b2,O (bU.cells c pQ) 96),(bv,verO s0 b0 none 0 0 wb ws.length wc)]++Ga) G2 [] call95 (oI hh (sortI ws) wb wc G2 g2) U (by simp only[iW];rfl) (λG3 g3=>?_)))))))
  refine aI (eG (gv U) (lD Up U (cW 1 ty31 U U U U U U (aI (eG (gv U) (lD D7 U (cW 1 ty31 U U U U U U (bo (bZ (L':=[(b2,O (bU.cells c pQ) 96),(bv,verO s0 b0 vb (askJ c).1.length vc wb (slices_Compact_int (sortI ws)).length wc)]++(Ga++G3)) (by rw[List.append_nil,jE];rfl) ?_)))))))))
  have fin:∀(hz:HF)(r:Bool),hh.le hz->r=iz c->∀(e:Env),e 4=.bool r->∀k,TT prog (bodyFrame 35) 88 (.code .ret::k) (mV prog X (λr h' B=>∃vb vc wb wc G,r=.returned (.bool (iz c))/\B=(bv,verO s0 b0 vb (askJ c).1.length vc wb (askAll c).length wc)::G/\SlC jB h' vb vc (askJ c).1/\cN jB 3 h' (askAll c) wb wc G)) e [] X hz ([(b2,O (bU.cells c pQ) 96),(bv,verO s0 b0 vb (askJ c).1.length vc wb (slices_Compact_int (sortI ws)).length wc)]++(Ga++G3)):=by
   intro hz r hlz hr e he k
   subst hr
   refine nu (v:=.bool (iz c)) (h2:=hz) (B:=(bv,verO s0 b0 vb (askJ c).1.length vc wb (slices_Compact_int (sortI ws)).length wc)::G3) func35 (λa ha w _=>by rw[←he];exact res1 U a ha w) (λw hw=>hw.sub (.cons _ (.cons_cons _ (List.sublist_append_right _ _)))) ⟨vb,vc,wb,wc,G3,U,?_,slv.mono vH (vA de hlz),?_⟩
   .rw[hall]
   rw[hall];exact g3.mono vH hlz
  refine qT 6 U ?_
  refine ly U (λc1=>?_) (λc1=>?_)
  .exact sr (an (fin hh false lf (by unfold iz;rw[show((askJ c).2.1==0)=true from c1];rfl) _ U _))
  have hm:=hJ.mode2 (by simpa using c1)
  have hal:az.length<=256:=by rw[has,List.length_map];exact hJl
  refine qT 5 U (aI (Dp ([(b2,O (bU.cells c pQ) 96),(bv,verO s0 b0 vb (askJ c).1.length vc wb (slices_Compact_int (sortI ws)).length wc)]) Ga G3 (v:=.tuple #[.bool ((gf (askJ c).2.1 az).1),I ((gf (askJ c).2.1 az).2)]) call68 Rp.ss gA U (λhz lz sl=>uK hz (askJ c).2.1 az ab ac sl ob) U ?_))
  exact bp (qO 8 U (aI (pN Es (jf hh _) (nq (I4 hm hal)) U (qO 6 U (fin hh _ lf (by unfold iz;rw[show((askJ c).2.1==0)=false from c1,cond_false,←has]) _ U _)))))
 rintro i ⟨az,ab,ac,Ga,ws,wb,wc,Gw,hh⟩ y r hd hlt hget hltp hbd hx0 ⟨ha,hw,gA,gW,de,la,lw⟩ hx ag e
 dsimp only at ha hw gA gW de la lw
 have hy:y∈(askJ c).1:=xE hget
 have hcc:=hc.mono (vA hle1 de)
 show TT _ _ _ _ _ (upds e [(1,Q bv),(2,Q b2),(5,.slice vb (askJ c).1.length vc),(6,I (askJ c).2.1),(8,.slice ab az.length ac),(31,.slice vb (askJ c).1.length vc),(32,I (((askJ c).1.length:Nat):Int)),(33,I (i:Int))]) _ _ hh ([(b2,O (bU.cells c pQ) 96),(bv,verO s0 b0 none 0 0 wb ws.length wc)]++(Ga++Gw))
 refine sr (tO hlt U (qO 8 U (aI (tx (enc:=λy=>[I y]) (λ_ _ _ e=>e) eP ty3 (slv.mono vH de).1 (nthZ hget) (gI hget) U U U (λq1 A1=>eJ ty3 A1 U (an ?_))))))
 refine sr (dy 0 ty96 U U U (bp (aI (QJ call91 (rR hh c pQ y hcc) (hpx y hy) U (λv3 h3 hle3 hp3=>?_)))))
 obtain⟨pr,rfl,okp⟩:=hp3
 refine bH zc61 (λb11=>bE 0 ty61 U U U U U U (bo ?_))
 refine sr (dy 1 ty96 U U U (dy 0 ty61 U U U (aI (cx call92 (rS h3 c pQ (askP c y) pr (hcc.mono hle3) okp hsm hco (hpk y hy).rules) U (λv4 h4 hle4 hp4=>?_)))))
 obtain⟨ub,uc,rfl,slu⟩:=hp4
 refine qO 5 U (dy 1 ty96 U U U (dy 0 ty61 U U U (bp (aS (v:=.bool (askAns c y)) call93 (w9 h4 c pQ (askP c y) pr (askWho c y) ub uc (hcc.mono (vA hle3 hle4)) (okp.mono hle4) slu hsm hco (hpk y hy).sm (hpk y hy).off (HM hsm _) (hk.mono (vA hle1 (vA de (vA hle3 hle4))))) U ?_))))
 have hl4:hh.le h4:=vA hle3 hle4
 have hwl:=HM hsm (askP c y)
 refine aI (bN (cells:=[.bool (askAns c y)]) Et ty4 zc4 U U kr (λb13=>?_))
 refine aI (eB Rp.E2 ([(b13,O [.bool (askAns c y)] 4),(b11,O (aw.cells (askP c y) pr) 61),(b2,O (bU.cells c pQ) 96),(bv,verO s0 b0 none 0 0 wb ws.length wc)]) Gw (λG=>[(b13,O [.bool (askAns c y)] 4),(b11,O (aw.cells (askP c y) pr) 61),(b2,O (bU.cells c pQ) 96),(bv,verO s0 b0 none 0 0 wb ws.length wc)]++(Gw++G)) U (λ_=>U) Et ty4 zc4 U bytes4 (gA.mono Rp.ss hl4) U U (ic (ys:=[askAns c y]) 0 U ⟨[.bool (askAns c y)],[],U,U,U,U⟩) lo lo (λab2 ac2 Ga2 gA2=>an ?_))
 refine qT 3 U (aI (eG (gv U) (lD D7 U (py 3 ty31 U U U (bp (aI (eB Rp.jZ ([(b13,O [.bool (askAns c y)] 4),(b11,O (aw.cells (askP c y) pr) 61),(b2,O (bU.cells c pQ) 96),(bv,verO s0 b0 none 0 0 wb ws.length wc)]) Ga2 (λG=>[(b13,O [.bool (askAns c y)] 4),(b11,O (aw.cells (askP c y) pr) 61),(b2,O (bU.cells c pQ) 96),(bv,verO s0 b0 none 0 0 wb ws.length wc)]++(Ga2++G)) U (λ_=>U) eP ty3 zc3 U bytes3 (gW.mono vH hl4) U U (km slu.1) (by show(_+(askWho c y).length)*_<=_;unfold askWho;omega) (by show _+(askWho c y).length<=_;unfold askWho;omega) (λwb2 wc2 Gw2 gW2=>?_))))))))
 refine aI (eG (gv U) (lD D7 U (cW 3 ty31 U U U U U U (bo (cu (L':=[(b2,O (bU.cells c pQ) 96),(bv,verO s0 b0 none 0 0 wb2 (ws++askWho c y).length wc2)]++(Ga2++Gw2)) js (qT 2 U (i8 (v':=I (((i+1:Nat)):Int)) U (nH ob) (qO 2 U ?_))))))))
 refine ag (az++[askAns c y],ab2,ac2,Ga2,ws++askWho c y,wb2,wc2,Gw2,h4) (by rw[Eu hget,jE];exact hx0) ⟨?_,?_,gA2,gW2,vA de hl4,?_,?_⟩
 .show az++[askAns c y]=_;rw[Eu hget,ha,Wx];rfl
 .show ws++askWho c y=_;rw[Eu hget,hw,List.flatMap_append];simp
 .show(az++[askAns c y]).length<=i+1;rw[jA];simp only[zA,zB];omega
 show(ws++askWho c y).length<=(i+1)*2000000;rw[jA];unfold askWho;omega
theorem ON(h c pQ q bv s0 b0)(hc:bU.ok h c pQ)(aq:At h q (bU.cells c pQ))(hsm:smR c.Register)(hco:jw c)(hat:c.aV.At<=c.at_)(hk:dN h):
    pJ prog 34 (xB [.pointer (some q),Q bv]) h [(bv,verO s0 b0 none 0 0 none 0 0)]
      (λr h' B=>∃vb vc wb wc G,r=.returned (.bool (!(iz c)))/\B=(bv,verO s0 b0 vb (askJ c).1.length vc wb (askAll c).length wc)::G/\SlC jB h' vb vc (askJ c).1/\cN jB 3 h' (askAll c) wb wc G):=by
  refine cX func34 U ntmps34 U λX hM hX=>?_
  refine qT 6 rfl (eU ty96 aq rfl rfl (aI (GY (A:=[(bv,verO s0 b0 none 0 0 none 0 0)]) (Fr:=[]) call35 rfl (CP h c pQ bv s0 b0 hc hsm hco hat hk) rfl (λv h2 B de hR=>?_) (λch h2 B de hR=>by obtain⟨_,_,_,_,_,hr,_⟩:=hR;cases hr))))
  obtain⟨vb,vc,wb,wc,G,hr,rfl,s1,g1⟩:=hR
  cases hr
  exact nB U (an (nu (v:=.bool (!(iz c))) (h2:=h2) (B:=(bv,verO s0 b0 vb (askJ c).1.length vc wb (askAll c).length wc)::G) func34 (λa ha w hw=>oL (rs:=[.tmp 2]) (vs:=[.bool (!(iz c))]) U rd a ha w hw) (λw hw=>by simpa using hw) ⟨vb,vc,wb,wc,G,U,U,s1,g1⟩))
theorem OM(h r sP qr u ql qj qu)(c:bU)(pQ:sG)(qc)(at_ ah:Int)(qa qk bv s0 b0 vb vn vc wb wn wc)(hr:zL h r sP)(ar:At h qr (zD r sP))(hu:SlC XC h ql qj u)(au:At h qu [.slice ql u.length qj])(ac:At h qc (bU.cells c pQ))(aa:At h qa [I at_])(ak:At h qk [I ah])(hsm:smR r)(he:(judgeRoom c r u at_ ah).2.2=0):
  pJ prog 36 (xB [.pointer (some qr),.pointer (some qu),.pointer (some qc),.pointer (some qa),.pointer (some qk),Q bv]) h [(bv,verO s0 b0 vb vn vc wb wn wc)]
   (λx h' B=>x=.returned (.bool (!(judgeRoom c r u at_ ah).2.1))/\h'=h/\B=[(bv,verO s0 (bif !(judgeRoom c r u at_ ah).2.1 then(judgeRoom c r u at_ ah).1 else b0) vb vn vc wb wn wc)]):=by
 refine cX func36 U ntmps36 U λX hM hX=>?_
 refine qT 6 U (lD Qj U (lQ (j:=3) ty25 ar U U (eJ ty32 au U (lD LJ U (lD Um U (lQ (j:=9) ty3 ac U U (lD LJ U (lD Ul U (lQ (j:=10) ty3 ac U U (eJ ty3 aa U (eJ ty3 ak U (aS (v:=.tuple #[I (judgeRoom c r u at_ ah).1,.bool (judgeRoom c r u at_ ah).2.1,I (judgeRoom c r u at_ ah).2.2]) call28 (tE h r.dH _ _ u ql qj c.aV.Kind c.aV.Value at_ ah hr.dH hu hsm.2.2.2.2.1) U (qO 11 U (aI (pN Es (jf h _) (nq he) U (qO 7 U ?_))))))))))))))))
 refine ly U (λc1=>?_) (λc1=>?_)
 .exact bJ (bp (lD Qi U (cW 0 ty3 U U U U U U (qO 7 U (nu (v:=.bool (!(judgeRoom c r u at_ ah).2.1)) (h2:=h) (B:=[(bv,verO s0 (judgeRoom c r u at_ ah).1 vb vn vc wb wn wc)]) func36 (λa ha w hw=>oL (rs:=[.tmp 6]) (vs:=[.bool (!(judgeRoom c r u at_ ah).2.1)]) U rd a ha w hw) (λw hw=>hw) ⟨U,U,by rw[show(!(judgeRoom c r u at_ ah).2.1)=true from c1];rfl⟩)))))
 exact bL (qT 6 U (nu (v:=.bool (!(judgeRoom c r u at_ ah).2.1)) (h2:=h) (B:=[(bv,verO s0 b0 vb vn vc wb wn wc)]) func36 (λa ha w hw=>oL (rs:=[.tmp 6]) (vs:=[.bool (!(judgeRoom c r u at_ ah).2.1)]) U rd a ha w hw) (λw hw=>hw) ⟨U,U,by rw[show(!(judgeRoom c r u at_ ah).2.1)=false from c1];rfl⟩))
theorem HR{e:Int}{ee:Int}(h:nm e=.error ee):(e != 0)=true/\ee=e:=by
  unfold nm at h
  cases hc:e != 0 with
  |true=>rw[hc]at h;cases h;exact⟨rfl,rfl⟩
  |false=>rw[hc]at h;cases h
theorem CK{e:Int}{u:Unit}(h:nm e=.ok u):e=0:=by
  unfold nm at h
  cases hc:e != 0 with
  |true=>rw[hc]at h;cases h
  |false=>simpa using hc
theorem HY(h cK gU signed co cn u ql qj aV cy ah)(mK:zL h cK gU)(eN:SlC jB h co cn signed)(hu:SlC XC h ql qj u)(hsm:smR cK)(hln:cK.cd.length<20)(hk:dN h):
  j6 prog 9 [.agg (zD cK gU).toArray,.slice co signed.length cn,.slice ql u.length qj,I aV,I cy,I ah] h (λv h'=>∃rr0:vI,v=.tuple #[.agg (fN.cells (bF cK signed u aV cy ah).1 rr0).toArray,I ((bF cK signed u aV cy ah).2)]/\fN.ok h' (bF cK signed u aV cy ah).1 rr0):=by
 refine cX func9 U ntmps9 U λX hM hX=>?_
 refine sr (eO (λb6=>eO (λb7=>eO (λb8=>eO (λb10=>eO (λb11=>bH zc40 (λb12=>bH zc36 (λb13=>bo ?_))))))))
 refine sr (JW U U (bo ?_))
 have fin:∀(hh:HF)(V:fN)(vb:Option Addr)(vc:Nat)(wb:Option Addr)(wc:Nat)(ee:Int)(B:LH)(e:Env),bF cK signed u aV cy ah=(V,ee)->SlC jB hh vb vc V.Versions->SlC jB hh wb wc V.Who->e 12=Q b12->e 13=Q b13->∀a:Act,envOf a=e->∀w,St X hh ([(b13,O [I ee] 36)]++((b12,verO V.State V.Budget vb V.Versions.length vc wb V.Who.length wc)::B)) w ->
   ∃v h2 B2,(results Tryz.f9 a.tmps).run prog w=.ok v w/\St X h2 B2 w/\(B2=[]/\∃v',Ending.returned v=.returned v'/\(λv h'=>∃rr0:vI,v=.tuple #[.agg (fN.cells (bF cK signed u aV cy ah).1 rr0).toArray,I ((bF cK signed u aV cy ah).2)]/\fN.ok h' (bF cK signed u aV cy ah).1 rr0) v' h2):=by
  intro hh V vb vc wb wc ee B e he h1 h2 h12 h13 a ha w hw
  refine⟨_,hh,[],oL (rs:=[.cell 12 40,.cell 13 36]) (vs:=[.agg (fN.cells V ⟨vb,vc,wb,wc⟩).toArray,I ee]) U ⟨⟨1,b12,_,40,(0,0),U,h12,.inl ⟨ty40,U⟩⟩,⟨0,b13,[I ee],36,(0,0),U,h13,.inr ⟨_,ty36,U⟩⟩,trivial⟩ a ha w hw,hw.sub (List.nil_sublist _),U,_,U,⟨vb,vc,wb,wc⟩,?_,?_⟩
  .rw[he];rfl
  rw[he];exact⟨h1,h2⟩
 have pan:∀(hh:HF)(e0 ee:Int)(B:LH)(e:Env),bF cK signed u aV cy ah=(⟨0,0,[],[]⟩,ee)->e 12=Q b12->e 13=Q b13 ->
   TP prog (bodyFrame 9) 69 [{ v:=errV ee,recovered:=false }] (mV prog X (λx h' B=>B=[]/\∃v,x=.returned v/\(λv h'=>∃rr0:vI,v=.tuple #[.agg (fN.cells (bF cK signed u aV cy ah).1 rr0).toArray,I ((bF cK signed u aV cy ah).2)]/\fN.ok h' (bF cK signed u aV cy ah).1 rr0) v h')) e [{ target:=.fn (.func 24) #[],args:=xB [Q b13] }] X hh ((b13,O [I e0] 36)::(b12,verO 0 0 none 0 0 none 0 0)::B):=by
  intro hh e0 ee B e he h12 h13
  refine Df (c:=bodyOf Tryz.f24) (cap:=[Q b13]) (A:=[(b13,O [I e0] 36)]) (R':=λh'' B=>h''=hh/\B=[(b13,O [I ee] 36)]) func9 GC U Mg U Mf (λX' _=>yN hh b13 e0 ee X') U ?_
  rintro h'' B2 _ ⟨rfl,rfl⟩ a ha w hw
  exact fin _ ⟨0,0,[],[]⟩ none 0 none 0 ee B e he zG zG h12 h13 a ha w hw
 refine sr (dy 6 ty30 U U U (aS (v:=I (dM cK)) call26 (AN h cK gU mK hsm hk) U ?_))
 refine uw Es (jf h (dM cK)).toXH U (λv_ v h1 hx1 hle1 hp1=>?_) (λee h1 hx1 hle1=>?_)
 rotate_left
 .obtain⟨e1,rfl⟩:=HR hx1
  exact pan h1 _ _ _ _ (by unfold bF;rw[e1];rfl) U U
 obtain⟨rfl,rfl⟩:=hp1
 have hc0:=CK hx1
 refine qO 3 U (lD Uq U (py 6 ty27 U U U (py 5 ty31 U U U (aI (cx call27 (pg h1 cK.cd _ _ signed co cn 0 mK.cd eN hln) U (λv2 h2 hle2 hp2=>?_))))))
 obtain⟨fb,fc,rfl,_⟩:=hp2
 refine qO 3 U (cW 0 ty36 U U U U U U (qO 3 U (py 0 ty36 U U U ?_)))
 refine uw Es (jf h2 (bD cK.cd signed 0).2).toXH U (λv_ v h3 hx3 hle3 hp3=>?_) (λee h3 hx3 hle3=>?_)
 rotate_left
 .obtain⟨e1,rfl⟩:=HR hx3
  exact pan h3 _ _ _ _ (by unfold bF;rw[hc0,e1];rfl) U U
 obtain⟨rfl,rfl⟩:=hp3
 have hf0:=CK hx3
 refine qO 3 U (lD Qj U (py 6 ty25 U U U (py 4 ty32 U U U (aS (v:=.tuple #[I (bM cK.dH u 0 0 0 0).1,.bool (bM cK.dH u 0 0 0 0).2.1,I (bM cK.dH u 0 0 0 0).2.2]) call28 (tE h3 cK.dH _ _ u ql qj 0 0 0 0 (mK.mono hle2).dH (hu.mono Yf hle2) hsm.2.2.2.2.1) U (qO 4 U (cW 0 ty36 U U U U U U (qO 3 U (py 0 ty36 U U U ?_))))))))
 refine uw Es (jf h3 (bM cK.dH u 0 0 0 0).2.2).toXH U (λv_ v h4 hx4 hle4 hp4=>?_) (λee h4 hx4 hle4=>?_)
 rotate_left
 .obtain⟨e1,rfl⟩:=HR hx4
  exact pan h4 _ _ _ _ (by unfold bF;rw[hc0,hf0,e1];rfl) U U
 obtain⟨rfl,rfl⟩:=hp4
 have hb0:=CK hx4
 refine qO 3 U (dy 6 ty30 U U U (bp (py 3 ty3 U U U (py 2 ty3 U U U ?_))))
 refine uw call29 (Cc h4 cK gU aV cy ah (mK.mono hle2)) U (λc v h5 hx5 hle5 hp5=>?_) (λee h5 hx5 hle5=>?_)
 rotate_left
 .exact pan h5 _ _ _ _ (by unfold bF;rw[hc0,hf0,hb0,hx5];rfl) U U
 obtain⟨cr,rfl,okc⟩:=hp5
 have hj:bF cK signed u aV cy ah=(judgeC c cK signed u cy ah,0):=by unfold bF;rw[hc0,hf0,hb0,hx5];rfl
 obtain⟨hce,hco,_,_⟩:=Gr hc0 hx5
 have hreg:c.Register=cK:=by rw[hce]
 have hca:c.at_=cy:=by rw[hce]
 have hck:c.ah=ah:=by rw[hce]
 have hsc:smR c.Register:=by rw[hreg];exact hsm
 have hlc:c.Register.cd.length<20:=by rw[hreg];exact hln
 have hsg:cD c.Register.cd signed=true:=by rw[hreg];exact LA hf0
 have hroom:(judgeRoom c cK u cy ah).2.2=0:=Sb hb0 hco.kind hco.good.value (hca▸hco.time) (hck▸hco.know)
 rw[hb0]
 refine bH zc96 (λb14=>bE 0 ty96 U U U U U U (bo ?_))
 refine sr (lD Qi U (cW 2 ty3 U U U U U U (bo (gE 0 U hM (λg1 l1 f14=>gE 2 U hM (λg2 l2 f11=>gE 2 U hM (λg3 l3 f10=>gE 2 U hM (λg4 l4 f8=>gE 2 U hM (λg5 l5 f7=>gE 2 U hM (λg6 l6 f6=>?_))))))))))
 have a14:=(dO f14).mono (vA l2 (vA l3 (vA l4 (vA l5 l6))))
 have a11:=(dO f11).mono (vA l3 (vA l4 (vA l5 l6)))
 have a10:=(dO f10).mono (vA l4 (vA l5 l6))
 have a8:=(dO f8).mono (vA l5 l6)
 have a7:=(dO f7).mono l6
 have a6:=dO f6
 have l56:h5.le g6:=vA l1 (vA l2 (vA l3 (vA l4 (vA l5 l6))))
 have l06:h1.le g6:=vA hle2 (vA hle5 l56)
 have okg:=okc.mono l56
 have okr:=mK.mono l06
 have hsg6:=eN.mono vH l06
 have hu6:=hu.mono Yf l06
 have hk6:=hk.mono l06
 clear f14 f11 f10 f8 f7 f6
 show TT _ _ _ _ _ _ _ _ g6 [(b13,O [I 0] 36),(b12,verO 0 (-1) none 0 0 none 0 0)]
 refine qT 3 U (aI (gM U U (aI (ie (cells:=[I 1,.func (.func 30) #[] #[Q b14,Q b7]]) (places:=[(0,1),(1,1)]) Rt zc98 kr kr (aI (gM U U (aI (ie (cells:=[I 2,.func (.func 32) #[] #[Q b14,Q b7]]) (places:=[(0,1),(1,1)]) Rt zc98 kr kr (aI (gM U U (aI (ie (cells:=[I 3,.func (.func 34) #[] #[Q b14,Q b12]]) (places:=[(0,1),(1,1)]) Rt zc98 kr kr (aI (gM U U (aI (ie (cells:=[I 4,.func (.func 36) #[] #[Q b6,Q b8,Q b14,Q b10,Q b11,Q b12]]) (places:=[(0,1),(1,1)]) Rt zc98 kr kr (aI (bN (cells:=[I 1,.func (.func 30) #[] #[Q b14,Q b7],I 2,.func (.func 32) #[] #[Q b14,Q b7],I 3,.func (.func 34) #[] #[Q b14,Q b12],I 4,.func (.func 36) #[] #[Q b6,Q b8,Q b14,Q b10,Q b11,Q b12]]) Me ty98 zc98 U U kr (λb15=>Fk Me U (qO 2 U ?_))))))))))))))))))))
 have ret:∀(hh:HF)(V:fN)(vb:Option Addr)(vc:Nat)(wb:Option Addr)(wc:Nat)(B:LH)(e:Env)(k:List Item),judgeC c cK signed u cy ah=V->SlC jB hh vb vc V.Versions->SlC jB hh wb wc V.Who->e 12=Q b12->e 13=Q b13 ->
   TT prog (bodyFrame 9) 69 (.code .ret::k) (mV prog X (λx h' B=>B=[]/\∃v,x=.returned v/\(λv h'=>∃rr0:vI,v=.tuple #[.agg (fN.cells (bF cK signed u aV cy ah).1 rr0).toArray,I ((bF cK signed u aV cy ah).2)]/\fN.ok h' (bF cK signed u aV cy ah).1 rr0) v h')) e [{ target:=.fn (.func 24) #[],args:=xB [Q b13] }] X hh ((b13,O [I 0] 36)::(b12,verO V.State V.Budget vb V.Versions.length vc wb V.Who.length wc)::B):=by
  intro hh V vb vc wb wc B e k hv h1 h2 h12 h13
  refine Mq (c:=bodyOf Tryz.f24) (cap:=[Q b13]) (A:=[(b13,O [I 0] 36)]) (R':=λh'' B=>h''=hh/\B=[(b13,O [I 0] 36)]) func9 GC U Mg U Mf (λX' _=>IU hh b13 0 X') U ?_
  rintro h'' B2 _ ⟨rfl,rfl⟩ a ha w hw
  exact fin _ V vb vc wb wc 0 B e (by rw[hj,hv]) h1 h2 h12 h13 a ha w hw
 refine m7 (GJ (sr (i8 (v':=.bool true) U U (qO 8 U (aI (eG (HK (i:=0) Me ty98 U U ob) (dy 0 ty98 U U U (bH zc98 (λc0=>bE 0 ty98 U U U U U U (bo ?_))))))))))
 refine sr (lD Gy U (py 0 ty33 U U U (aI (ka (v:=.bool (fK c signed)) [] (List.nil_sublist _) (iA (cap:=[Q b14,Q b7]) call30 (EO g6 c cr ⟨b14,0,none⟩ signed co cn ⟨b7,0,none⟩ okg a14 hsg6 a7 hsc hco hlc hsg)) U U (bo ?_)))))
 refine ly U (λk1=>?_) (λk1=>?_)
 .exact sr (lD Gz U (py 0 ty3 U U U (lD D8 U (cW 3 ty3 U U U U U U (qO 3 U (dy 3 ty40 U U U (bE 3 ty40 U U U U U U (cW 2 ty36 U U U U U U (bo (cu (.cons _ (.cons _ (List.Sublist.refl _))) (ret g6 ⟨1,-1,[],[]⟩ none 0 none 0 [] _ _ (by unfold judgeC;rw[show fK c signed=true from k1];rfl) zG zG U U)))))))))))
 replace k1:fK c signed=false:=k1
 have hat:c.aV.At<=c.at_:=KE k1
 refine qT 3 U (i8 (v':=I 1) U U (qO 2 U (De (cu (.cons _ (List.Sublist.refl _)) (sr (i8 (v':=.bool true) U U (qO 8 U (aI (eG (HK (i:=1) Me ty98 U U ob) (dy 0 ty98 U U U (bH zc98 (λc1=>bE 0 ty98 U U U U U U (bo ?_)))))))))))))
 refine sr (lD Gy U (py 0 ty33 U U U (aI (ka (v:=.bool (jY c signed)) [] (List.nil_sublist _) (iA (cap:=[Q b14,Q b7]) call32 (EN g6 c cr ⟨b14,0,none⟩ signed co cn ⟨b7,0,none⟩ okg a14 hsg6 a7 hsc hco hlc hsg)) U U (bo ?_)))))
 refine ly U (λk2=>?_) (λk2=>?_)
 .exact sr (lD Gz U (py 0 ty3 U U U (lD D8 U (cW 3 ty3 U U U U U U (qO 3 U (dy 3 ty40 U U U (bE 3 ty40 U U U U U U (cW 2 ty36 U U U U U U (bo (cu (.cons _ (.cons _ (List.Sublist.refl _))) (ret g6 ⟨2,-1,[],[]⟩ none 0 none 0 [] _ _ (by unfold judgeC;rw[k1,show jY c signed=true from k2];rfl) zG zG U U)))))))))))
 replace k2:jY c signed=false:=k2
 refine qT 3 U (i8 (v':=I 2) U U (qO 2 U (De (cu (.cons _ (List.Sublist.refl _)) (sr (i8 (v':=.bool true) U U (qO 8 U (aI (eG (HK (i:=2) Me ty98 U U ob) (dy 0 ty98 U U U (bH zc98 (λc2=>bE 0 ty98 U U U U U U (bo ?_)))))))))))))
 refine sr (lD Gy rfl (py 0 ty33 rfl rfl rfl (aI (Do [(c2,O [I 3,.func (.func 34) #[] #[Q b14,Q b12]] 98),(b15,O [I 1,.func (.func 30) #[] #[Q b14,Q b7],I 2,.func (.func 32) #[] #[Q b14,Q b7],I 3,.func (.func 34) #[] #[Q b14,Q b12],I 4,.func (.func 36) #[] #[Q b6,Q b8,Q b14,Q b10,Q b11,Q b12]] 98),(b13,O [I 0] 36)] [(b12,verO 0 (-1) none 0 0 none 0 0)] rfl (nv (args:=[]) (cap:=[Q b14,Q b12]) call34 (ON g6 c cr ⟨b14,0,none⟩ b12 0 (-1) okg a14 hsc hco hat hk6)) rfl rfl (λv7 h7 B7 l7 hR=>?_) (λch h7 B7 l7 hR=>by obtain⟨_,_,_,_,_,hr,_⟩:=hR;cases hr)))))
 obtain⟨vb,vc,wb,wc,G,hr,rfl,sv7,gw⟩:=hR
 cases hr
 refine bo (fQ vH ([(c2,O [I 3,.func (.func 34) #[] #[Q b14,Q b12]] 98),(b15,O [I 1,.func (.func 30) #[] #[Q b14,Q b7],I 2,.func (.func 32) #[] #[Q b14,Q b7],I 3,.func (.func 34) #[] #[Q b14,Q b12],I 4,.func (.func 36) #[] #[Q b6,Q b8,Q b14,Q b10,Q b11,Q b12]] 98),(b13,O [I 0] 36)]++[(b12,verO 0 (-1) vb (askJ c).1.length vc wb (askAll c).length wc)]) G [] (by rw[List.append_nil];rfl) hM gw (λh8 l8 sw_z=>?_))
 have sv:=sv7.mono vH l8
 have l68:g6.le h8:=vA l7 l8
 refine bZ (L':=[(c2,O [I 3,.func (.func 34) #[] #[Q b14,Q b12]] 98),(b15,O [I 1,.func (.func 30) #[] #[Q b14,Q b7],I 2,.func (.func 32) #[] #[Q b14,Q b7],I 3,.func (.func 34) #[] #[Q b14,Q b12],I 4,.func (.func 36) #[] #[Q b6,Q b8,Q b14,Q b10,Q b11,Q b12]] 98),(b13,O [I 0] 36),(b12,verO 0 (-1) vb (askJ c).1.length vc wb (askAll c).length wc)]) (by rw[List.append_nil];rfl) ?_
 refine ly U (λk3=>?_) (λk3=>?_)
 .exact sr (lD Gz U (py 0 ty3 U U U (lD D8 U (cW 3 ty3 U U U U U U (qO 3 U (dy 3 ty40 U U U (bE 3 ty40 U U U U U U (cW 2 ty36 U U U U U U (bo (cu (.cons _ (.cons _ (List.Sublist.refl _))) (ret h8 ⟨3,-1,(askJ c).1,askAll c⟩ vb vc wb wc [] _ _ (by unfold judgeC;rw[k1,k2,show(!(iz c))=true from k3];rfl) sv sw_z U U)))))))))))
 replace k3:(!(iz c))=false:=k3
 refine qT 3 U (i8 (v':=I 3) U U (qO 2 U (De (cu (.cons _ (List.Sublist.refl _)) (sr (i8 (v':=.bool true) U U (qO 8 U (aI (eG (HK (i:=3) Me ty98 U U ob) (dy 0 ty98 U U U (bH zc98 (λc3=>bE 0 ty98 U U U U U U (bo ?_)))))))))))))
 refine sr (lD Gy U (py 0 ty33 U U U (aI (Do [(c3,O [I 4,.func (.func 36) #[] #[Q b6,Q b8,Q b14,Q b10,Q b11,Q b12]] 98),(b15,O [I 1,.func (.func 30) #[] #[Q b14,Q b7],I 2,.func (.func 32) #[] #[Q b14,Q b7],I 3,.func (.func 34) #[] #[Q b14,Q b12],I 4,.func (.func 36) #[] #[Q b6,Q b8,Q b14,Q b10,Q b11,Q b12]] 98),(b13,O [I 0] 36)] [(b12,verO 0 (-1) vb (askJ c).1.length vc wb (askAll c).length wc)] U (nv (args:=[]) (cap:=[Q b6,Q b8,Q b14,Q b10,Q b11,Q b12]) call36 (OM h8 cK gU ⟨b6,0,none⟩ u ql qj ⟨b8,0,none⟩ c cr ⟨b14,0,none⟩ cy ah ⟨b10,0,none⟩ ⟨b11,0,none⟩ b12 0 (-1) vb (askJ c).1.length vc wb (askAll c).length wc (okr.mono l68) (a6.mono l68) (hu6.mono Yf l68) (a8.mono l68) (a14.mono l68) (a10.mono l68) (a11.mono l68) hsm hroom)) U U (λv9 h9 B9 l9 hR=>?_) (λch h9 B9 l9 hR=>by cases hR.1)))))
 obtain⟨hr,rfl,rfl⟩:=hR
 cases hr
 refine bo (ly U (λk4=>?_) (λk4=>?_))
 .exact bZ (L':=[(c3,O [I 4,.func (.func 36) #[] #[Q b6,Q b8,Q b14,Q b10,Q b11,Q b12]] 98),(b15,O [I 1,.func (.func 30) #[] #[Q b14,Q b7],I 2,.func (.func 32) #[] #[Q b14,Q b7],I 3,.func (.func 34) #[] #[Q b14,Q b12],I 4,.func (.func 36) #[] #[Q b6,Q b8,Q b14,Q b10,Q b11,Q b12]] 98),(b13,O [I 0] 36),(b12,verO 0 (judgeRoom c cK u cy ah).1 vb (askJ c).1.length vc wb (askAll c).length wc)]) (by rw[show(!(judgeRoom c cK u cy ah).2.1)=true from k4];rfl) (sr (lD Gz U (py 0 ty3 U U U (lD D8 U (cW 3 ty3 U U U U U U (qO 3 U (dy 3 ty40 U U U (bE 3 ty40 U U U U U U (cW 2 ty36 U U U U U U (bo (cu (.cons _ (.cons _ (List.Sublist.refl _))) (ret h9 ⟨4,(judgeRoom c cK u cy ah).1,(askJ c).1,askAll c⟩ vb vc wb wc [] _ _ (by unfold judgeC;rw[k1,k2,k3,show(!(judgeRoom c cK u cy ah).2.1)=true from k4];rfl) sv sw_z U U))))))))))))
 replace k4:(!(judgeRoom c cK u cy ah).2.1)=false:=k4
 exact bZ (L':=[(c3,O [I 4,.func (.func 36) #[] #[Q b6,Q b8,Q b14,Q b10,Q b11,Q b12]] 98),(b15,O [I 1,.func (.func 30) #[] #[Q b14,Q b7],I 2,.func (.func 32) #[] #[Q b14,Q b7],I 3,.func (.func 34) #[] #[Q b14,Q b12],I 4,.func (.func 36) #[] #[Q b6,Q b8,Q b14,Q b10,Q b11,Q b12]] 98),(b13,O [I 0] 36),(b12,verO 0 (-1) vb (askJ c).1.length vc wb (askAll c).length wc)]) (by rw[k4];rfl) (qT 3 U (i8 (v':=I 4) U U (qO 2 U (De (cu (.cons _ (List.Sublist.refl _)) (sr (i8 (v':=.bool false) U U (qO 6 U (lD D8 U (cW 2 ty3 U U U U U U (qO 3 U (dy 2 ty40 U U U (bE 2 ty40 U U U U U U (cW 1 ty36 U U U U U U (bo (cu (.cons _ (List.Sublist.refl _)) (ret h9 ⟨0,-1,(askJ c).1,askAll c⟩ vb vc wb wc [] _ _ (by unfold judgeC;rw[k1,k2,k3,k4];rfl) sv sw_z U U)))))))))))))))))
theorem pL(h l fo fm)(t:Int)(cmp:ao->Int->Int)(cmp_v)(k:Nat)(hl:SlC ao.rp h fo fm l)(hcmp:∀(h':HF)(el:ao)(r_:oH)(Eo:Int),xJ h h'->ao.ok h' el r_->qX prog cmp_v [.agg (ao.cells el r_).toArray,I Eo] h' [] (I (cmp el Eo)))(hk:k<=l.length)(hlo:∀i y,i<k->l[i]? = some y->cmp y t<0)(hhi:∀i y,k<=i->l[i]? = some y->¬cmp y t<0)(hsz:l.length<=2000000):
  Ret prog 59 [.slice fo l.length fm,I t,cmp_v] h (retVal [I (k:Nat),.bool ((l[k]?).any λy=>cmp y t==0)]):=by
 refine sT func59 U ntmps59 U λX hM hX hF=>qK 18 [] U ?_
 refine gB (ι:=Unit) (λ_=>[(0,.slice fo l.length fm),(1,I t),(2,cmp_v),(8,I (l.length:Int)),(9,I (k:Int))]) (λ_=>h) (λ_=>[]) (λ_=>True) ?_ (λhx=>?_)
 .rintro⟨⟩ _ e
  refine qT 5 U ?_
  rcases kM k l.length with hlt|hge
  .have hget:l[k]? = some l[k]:=List.getElem?_eq_getElem hlt
   refine tO (decide_eq_true ob) U (qO 4 U (aI (iR xh ty54 hl.1 hget U U U (λ_ _ _ e=>e) (λq r_ A ok_=>eU ty54 A U U (bp (aI (ka (v:=I (cmp l[k] t)) [] (List.nil_sublist _) (hcmp h l[k] _ t lf ok_) U U (i8 (v':=.bool (cmp l[k] t==0)) U U (mY (s:=true) U (qO 3 U (nretP [I (k:Int),.bool (cmp l[k] t==0)] ?_)))))))))))
   rw[hget];rfl
  have hget:l[k]? = none:=List.getElem?_eq_none hge
  refine fO (decide_eq_false ob) U (qO 9 U (mY (s:=false) U (qO 3 U (nretP [I (k:Int),.bool false] ?_))))
  rw[hget];rfl
 refine ju (ι:=Nat×Nat) (λi=>[(0,.slice fo l.length fm),(1,I t),(2,cmp_v),(8,I (l.length:Int)),(9,I (i.1:Int)),(10,I (i.2:Int))]) (λi=>h) (λi=>[]) (λi=>i.1<=k/\k<=i.2/\i.2<=l.length) (λi=>i.2-i.1) (0,l.length) rd (λw hw=>hw) ⟨zH _,hk,kE _⟩ ?_
 rintro⟨i,j⟩ ⟨hik,hkj,hjl⟩ ag e
 dsimp only at hik hkj hjl
 rcases kM i j with hij|hij
 .refine qT 5 U (tO (decide_eq_true ob) U (qO 8 U (i8 (v':=I ((i+j:Nat):Int)) U (by rw[lv ob];rfl) (aI (eG (Le (m':=((i+j:Nat):Int)) nI RO U (u64w ob)) (aI (eG (Sh (m:=i+j) U U) (aI (eG (Le (m':=(((i+j)/2:Nat):Int)) RO nI U (i64w ob)) ?_)))))))))
  obtain⟨q,hq⟩:∃q,(i+j)/2=q:=⟨_,rfl⟩
  rw[hq]
  have hqj:q<j:=by omega
  have hget:l[q]? = some l[q]:=List.getElem?_eq_getElem ob
  refine qO 7 U (aI (iR xh ty54 hl.1 hget U U U (λ_ _ _ e=>e) (λq' r_ A ok_=>eU ty54 A U U (bp (aI (ka (v:=I (cmp l[q] t)) [] (List.nil_sublist _) (hcmp h l[q] _ t lf ok_) U U ?_))))))
  by_cases hc:cmp l[q] t<0
  .have hqk:q<k:=by
    rcases kM q k with h1|h1
    .exact h1
    exact(hhi q _ h1 hget hc).elim
   exact tO (decide_eq_true hc) U (qO 4 U (oi q U (qO 3 U (ag (q+1,j) _ (by show j-(q+1)<j-i;omega) ⟨hqk,hkj,hjl⟩ rd))))
  have hqk:k<=q:=by
   rcases kM q k with h1|h1
   .exact(hc (hlo q _ h1 hget)).elim
   exact h1
  exact fO (decide_eq_false hc) U (qO 7 U (ag (i,q) _ (by show q-i<j-i;omega) ⟨hik,hqk,by show q<=l.length;omega⟩ rd))
 have hki:i=k:=by omega
 subst hki
 exact ea (qT 4 U (fO (decide_eq_false ob) U (qO 3 U (hx () _ trivial rd))))
theorem pY(h l fo fm)(t:Int)(cmp:aE->Int->Int)(cmp_v)(k:Nat)(hl:SlC aE.rp h fo fm l)(hcmp:∀(h':HF)(el:aE)(r_:pR)(Eo:Int),xJ h h'->aE.ok h' el r_->qX prog cmp_v [.agg (aE.cells el r_).toArray,I Eo] h' [] (I (cmp el Eo)))(hk:k<=l.length)(hlo:∀i y,i<k->l[i]? = some y->cmp y t<0)(hhi:∀i y,k<=i->l[i]? = some y->¬cmp y t<0)(hsz:l.length<=2000000):
  Ret prog 131 [.slice fo l.length fm,I t,cmp_v] h (retVal [I (k:Nat),.bool ((l[k]?).any λy=>cmp y t==0)]):=by
 refine sT func131 U ntmps131 U λX hM hX hF=>qK 18 [] U ?_
 refine gB (ι:=Unit) (λ_=>[(0,.slice fo l.length fm),(1,I t),(2,cmp_v),(8,I (l.length:Int)),(9,I (k:Int))]) (λ_=>h) (λ_=>[]) (λ_=>True) ?_ (λhx=>?_)
 .rintro⟨⟩ _ e
  refine qT 5 U ?_
  rcases kM k l.length with hlt|hge
  .have hget:l[k]? = some l[k]:=List.getElem?_eq_getElem hlt
   refine tO (decide_eq_true ob) U (qO 4 U (aI (iR Cr ty63 hl.1 hget U U U (λ_ _ _ e=>e) (λq r_ A ok_=>eU ty63 A U U (bp (aI (ka (v:=I (cmp l[k] t)) [] (List.nil_sublist _) (hcmp h l[k] _ t lf ok_) U U (i8 (v':=.bool (cmp l[k] t==0)) U U (mY (s:=true) U (qO 3 U (nretP [I (k:Int),.bool (cmp l[k] t==0)] ?_)))))))))))
   rw[hget];rfl
  have hget:l[k]? = none:=List.getElem?_eq_none hge
  refine fO (decide_eq_false ob) U (qO 9 U (mY (s:=false) U (qO 3 U (nretP [I (k:Int),.bool false] ?_))))
  rw[hget];rfl
 refine ju (ι:=Nat×Nat) (λi=>[(0,.slice fo l.length fm),(1,I t),(2,cmp_v),(8,I (l.length:Int)),(9,I (i.1:Int)),(10,I (i.2:Int))]) (λi=>h) (λi=>[]) (λi=>i.1<=k/\k<=i.2/\i.2<=l.length) (λi=>i.2-i.1) (0,l.length) rd (λw hw=>hw) ⟨zH _,hk,kE _⟩ ?_
 rintro⟨i,j⟩ ⟨hik,hkj,hjl⟩ ag e
 dsimp only at hik hkj hjl
 rcases kM i j with hij|hij
 .refine qT 5 U (tO (decide_eq_true ob) U (qO 8 U (i8 (v':=I ((i+j:Nat):Int)) U (by rw[lv ob];rfl) (aI (eG (Le (m':=((i+j:Nat):Int)) nI RO U (u64w ob)) (aI (eG (Sh (m:=i+j) U U) (aI (eG (Le (m':=(((i+j)/2:Nat):Int)) RO nI U (i64w ob)) ?_)))))))))
  obtain⟨q,hq⟩:∃q,(i+j)/2=q:=⟨_,rfl⟩
  rw[hq]
  have hqj:q<j:=by omega
  have hget:l[q]? = some l[q]:=List.getElem?_eq_getElem ob
  refine qO 7 U (aI (iR Cr ty63 hl.1 hget U U U (λ_ _ _ e=>e) (λq' r_ A ok_=>eU ty63 A U U (bp (aI (ka (v:=I (cmp l[q] t)) [] (List.nil_sublist _) (hcmp h l[q] _ t lf ok_) U U ?_))))))
  by_cases hc:cmp l[q] t<0
  .have hqk:q<k:=by
    rcases kM q k with h1|h1
    .exact h1
    exact(hhi q _ h1 hget hc).elim
   exact tO (decide_eq_true hc) U (qO 4 U (oi q U (qO 3 U (ag (q+1,j) _ (by show j-(q+1)<j-i;omega) ⟨hqk,hkj,hjl⟩ rd))))
  have hqk:k<=q:=by
   rcases kM q k with h1|h1
   .exact(hc (hlo q _ h1 hget)).elim
   exact h1
  exact fO (decide_eq_false hc) U (qO 7 U (ag (i,q) _ (by show q-i<j-i;omega) ⟨hik,hqk,by show q<=l.length;omega⟩ rd))
 have hki:i=k:=by omega
 subst hki
 exact ea (qT 4 U (fO (decide_eq_false ob) U (qO 3 U (hx () _ trivial rd))))
theorem EK(h d Be no)(hd:ao.ok h d Be):Ret prog 60 [.agg (ao.cells d Be).toArray,I no] h (I (w6 d no)):=by
 refine sT func60 U ntmps60 U λX hM hX hF=>?_
 generalize hz:(w6 d no)=z;have hs:=hz.symm
 exact W
theorem DH(h r sP r_q at_ at__q ah known_q d Be d_q)(hr:zL h r sP)(ar:At h r_q (zD r sP))(aat_:At h at__q [I at_])(aknown:At h known_q [I ah])(hd:ao.ok h d Be)(ad:At h d_q (ao.cells d Be))(hsm:smR r):Itr prog (.func (.func 124) #[] (xB [.pointer (some r_q),.pointer (some at__q),.pointer (some known_q),.pointer (some d_q)])) sC (aU r at_ ah d) h:=by
 refine sj call124 ?_
 intro yf ya yb C Sp Pn h1 A de m1 m2 m3 hC hy
 refine j1 Rs U ntmps124 U λX hXM hX=>?_
 have hs0:aU r at_ ah d=[]++aU r at_ ah d:=rfl
 refine qT 4 U ?_
 refine gB (ι:=Nat×List Int×LH×HF) (λi=>[]) (λi=>i.2.2.2) (λi=>i.2.2.1) (λi=>i.1<=(vD 64).length/\aU r at_ ah d=i.2.1++((aU.K1))/\C i.2.1 i.2.2.2 i.2.2.1/\xJ h1 i.2.2.2) ?_ (λhx1=>?_)
 .rintro⟨i1,dn1,A1_,hh1⟩ ⟨iP,hs1,hC1_,hl1⟩ e
  refine dR ?_
  have hs2:aU r at_ ah d=dn1:=hs1.trans (List.append_nil _)
  exact sk [] (A:=A1_) Rs U (List.Sublist.refl _) (.inl (hs2▸hC1_))
 refine ju (ι:=Nat×List Int×LH×HF×List Nat) (λi=>[(0,.func yf ya yb),(1,.pointer (some r_q)),(2,.pointer (some at__q)),(3,.pointer (some known_q)),(4,.pointer (some d_q)),(16,I (i.1:Int))]) (λi=>i.2.2.2.1) (λi=>i.2.2.1) (λi=>(vD 64).drop i.1=i.2.2.2.2/\i.1<=(vD 64).length/\aU r at_ ah d=i.2.1++((aU.L1 r at_ ah d (aU.K1)) i.2.2.2.2 i.1)/\C i.2.1 i.2.2.2.1 i.2.2.1/\xJ h1 i.2.2.2.1) (λi=>i.2.2.2.2.length) (0,[],A,h1,(vD 64)) rd sw ⟨U,zH _,hs0,hC,lf⟩ ?_
 rintro⟨i1,dn1,A1_,hh1,s1⟩ ⟨hd1,iP,hs3,hC1_,hl1⟩ ag1 e
 rcases s1 with _|⟨y1,rz1⟩
 .have ml:decide ((i1:Int)<64)=false:=by simpa using nF hd1
  exact sr (fO ml U (qO 4 U (hx1 (i1,dn1,A1_,hh1) _ ⟨iP,hs3,hC1_,hl1⟩ trivial)))
 have fY:decide ((i1:Int)<64)=true:=by simpa using tc hd1
 have iT:i1<64:=by simpa using ip hd1
 refine sr (tO fY U (qO 20 U ?_))
 refine gB (ι:=Nat×Bool) (λi=>[(0,.func yf ya yb),(1,.pointer (some r_q)),(2,.pointer (some at__q)),(3,.pointer (some known_q)),(4,.pointer (some d_q)),(6,I (i1:Int)),(7,.bool i.2),(16,I (i1:Int))]) (λi=>hh1) (λi=>A1_) (λi=>i.1<=(vD 32).length/\aU r at_ ah d=dn1++((λzg3_7=>(bif(!zg3_7)then(aU.L1 r at_ ah d (aU.K1) rz1 (i1+1))else(bif(!((dV r.er (i1:Int) d.lh at_ ah).2.1))then((i1:Int)::(aU.L1 r at_ ah d (aU.K1) rz1 (i1+1)))else(aU.L1 r at_ ah d (aU.K1) rz1 (i1+1))))) i.2)) ?_ (λhx3=>?_)
 .rintro⟨i3,DT⟩ ⟨DP,hs5⟩ e
  refine qT 6 U (ly U (λc3=>?_) (λc3=>?_))
  .have hs6:=hs5.trans (congrArg (dn1++·) (bt c3))
   exact kW U (bJ (oi i1 U (qO 2 U (ag1 ((i1+1),dn1,A1_,hh1,rz1) _ (Nat.lt_succ_self _) ⟨kx hd1,ip hd1,hs6,hC1_,hl1⟩ rd))))
  have hs7:=hs5.trans (congrArg (dn1++·) (bf c3))
  refine qK 4 [] U (lQ (j:=2) ty24 (ar.mono (de.t hl1)) U U (qL 2 [] U (lQ (j:=6) ty31 (ad.mono (de.t hl1)) U U (eJ ty3 (aat_.mono (de.t hl1)) U (eJ ty3 (aknown.mono (de.t hl1)) U (aI (cx call126 (rU _ _ _ _ (i1:Int) _ _ _ at_ ah (hr.er.mono aG.aD (de.t hl1)) (hd.lh.mono vH (de.t hl1)) hsm.2.2.2.1) U (λv1 h2 hle1 hp1=>?_))))))))
  obtain⟨rb1,rc1,rfl,sl1⟩:=hp1
  refine qO 13 U (uO 55 U (λc4=>?_) (λc4=>?_))
  .have hs8:=hs7.trans (congrArg (dn1++·) (bt c4))
   refine qO 2 U ?_
   have hx1:aU r at_ ah d=dn1++((i1:Int)::(aU.L1 r at_ ah d (aU.K1) rz1 (i1+1))):=hs8
   refine aI (mq ([]) A1_ ap (hy dn1 (i1:Int) _ _ _ _ hx1 (hl1.t hle1) (m1 _ _ _ _ hle1 hC1_) U) U U (λh3 A1 hle2 hC1=>?_) (λh4 A2 hle3 hS1=>?_) (λch1 h5 A3 hle4 hP1 e=>iY (oJ [] (A:=A3) Rs (List.sublist_append_right _ _) hP1)))
   .have hs9:aU r at_ ah d=(dn1++[(i1:Int)])++((aU.L1 r at_ ah d (aU.K1) rz1 (i1+1))):=hx1.trans ap
    exact nB U (qO 6 U (oi i1 U (qO 2 U (ag1 ((i1+1),(dn1++[(i1:Int)]),A1,h3,rz1) _ (Nat.lt_succ_self _) ⟨kx hd1,ip hd1,hs9,hC1,((hl1.t hle1).t hle2)⟩ rd))))
   exact nB U (qO 3 U (dR (n8 [] (A:=A2) Rs U (List.Sublist.refl _) (.inr hS1))))
  have hs10:=hs7.trans (congrArg (dn1++·) (bf c4))
  exact kq (qO 8 U (oi i1 U (qO 2 U (ag1 ((i1+1),dn1,A1_,h2,rz1) _ (Nat.lt_succ_self _) ⟨kx hd1,ip hd1,hs10,(m1 _ _ _ _ hle1 hC1_),(hl1.t hle1)⟩ rd))))
 refine ju (ι:=Nat×Bool×List Nat) (λi=>[(0,.func yf ya yb),(1,.pointer (some r_q)),(2,.pointer (some at__q)),(3,.pointer (some known_q)),(4,.pointer (some d_q)),(6,I (i1:Int)),(7,.bool i.2.1),(16,I (i1:Int)),(19,I (i.1:Int))]) (λi=>hh1) (λi=>A1_) (λi=>(vD 32).drop i.1=i.2.2/\i.1<=(vD 32).length/\aU r at_ ah d=dn1++((aU.L3 r at_ ah i1 (λzg3_7=>(bif(!zg3_7)then(aU.L1 r at_ ah d (aU.K1) rz1 (i1+1))else(bif(!((dV r.er (i1:Int) d.lh at_ ah).2.1))then((i1:Int)::(aU.L1 r at_ ah d (aU.K1) rz1 (i1+1)))else(aU.L1 r at_ ah d (aU.K1) rz1 (i1+1)))))) i.2.2 i.1 i.2.1)) (λi=>i.2.2.length) (0,false,(vD 32)) rd sw ⟨U,zH _,hs3⟩ ?_
 rintro⟨i3,DT,s3⟩ ⟨hd3,ND,hs11⟩ ag2 e
 rcases s3 with _|⟨y3,rz3⟩
 .have Vk:decide ((i3:Int)<32)=false:=by simpa using nF hd3
  exact sr (fO Vk U (qO 4 U (hx3 (i3,DT) _ ⟨ND,hs11⟩ rd)))
 have OO:decide ((i3:Int)<32)=true:=by simpa using tc hd3
 have NC:i3<32:=by simpa using ip hd3
 refine sr (tO OO U (qL 14 [] U (eJ ty22 (ar.mono (de.t hl1)) U (qO 2 U (eJ ty3 (aat_.mono (de.t hl1)) U (eJ ty3 (aknown.mono (de.t hl1)) U (aS call125 (xx _ _ _ _ (i3:Int) (i1:Int) at_ ah (hr.dF.mono aK.aD (de.t hl1))) U (qO 13 U (gy 2 [35,36,37] 35 37 ((eQ r.dF (i3:Int) (i1:Int) at_ ah).2.2.1) U (λc5 hk1=>?_) (λe=>?_))))))))))
 .exact bp (mY U (hk1 _ U))
 exact an (qT 2 U (oi i3 U (qO 2 U (ag2 ((i3+1),(DT||(eQ r.dF (i3:Int) (i1:Int) at_ ah).2.2.1),rz3) _ (Nat.lt_succ_self _) ⟨kx hd3,ip hd3,hs11⟩ rd))))
instance kI124:CtI 124:=⟨_,@DH⟩
theorem F6(h cK gU d Be bq ah)(mK:zL h cK gU)(hd:ao.ok h d Be)(hsm:smR cK):j6 prog 62 [.agg (zD cK gU).toArray,.agg (ao.cells d Be).toArray,I bq,I ah] h (λv h'=>∃(rv0:Value),v=rv0/\Itr prog rv0 sC (gC cK d bq ah) h'):=by
 refine sT func62 U ntmps62 U λX hM hX hF=>?_
 generalize hz:(gC cK d bq ah)=z;have hs:=hz.symm
 exact W
theorem BU(h l fo fm kind bq ah)(hl:SlC zR h fo fm l)(hsz0:l.length<=2000000):j6 prog 64 [.slice fo l.length fm,I kind,I bq,I ah] h (λv h'=>∃(rb0:Option Addr)(rc0:Nat),v=.tuple #[.slice rb0 ((ep l kind bq ah).1).length rc0,I ((ep l kind bq ah).2)]/\SlC zR h' rb0 rc0 ((ep l kind bq ah).1)):=by
 refine sT func64 U ntmps64 U λX hM hX hF=>?_
 have hs0:=@rfl _ (ep l kind bq ah)
 refine qT 9 U (aS call75 (so _ _ _ _ hl) U (qO 7 U (aH hs0 U (λc1 hs1=>?_) (λc1 hs2=>?_))))
 .refine qT 6 U ?_
  have hs3:ep l kind bq ah=([],(bX l)):=hs1
  exact nretH [zSN,I (bX l)] (hs3▸⟨none,0,U,zG⟩)
 refine qT 5 U (aI (bN (cells:=[I kind]) eP ty3 zc3 U U kr (λb1=>cz 0 U hM (λh1 hle1 hb1=>?_))))
 have sl1:SlC jB h1 (zAD b1) 1 ([kind]):=cS.slB0 (T:=3) (fz:=(0,0)) ((show cS jB h [I kind] ([kind])from⟨[I kind],[],rfl,rfl,rfl,rfl⟩).mono vH hle1) hb1
 refine aS Dc (iL _ 0 15 _ _ _ sl1) U (qO 2 U (gy 6 [20,21,22,23,24,25,26] 20 26 (!(cg 0 1099511627775 ([bq,ah]))) U (λc2 hk1=>?_) (λe=>?_)))
 .refine qO 2 U (aI (bN (cells:=[I bq,I ah]) eP ty3 zc3 U U kr (λb2=>cz 0 U hM (λh2 hle2 hb2=>?_))))
  have sl2:SlC jB h2 (zAD b2) 2 ([bq,ah]):=cS.slB0 (T:=3) (fz:=(0,0)) ((show cS jB h1 [I bq,I ah] ([bq,ah])from⟨[I bq],[I ah],rfl,rfl,rfl,⟨[I ah],[],rfl,rfl,rfl,rfl⟩⟩).mono vH hle2) hb2
  exact aS Dc (iL _ 0 1099511627775 _ _ _ sl2) U (qO 2 U (tZ (h:=h1) hle2 hX hle1 (hk1 _ U)))
 refine bo (aH hs2 U (λc3 hs4=>?_) (λc3 hs5=>?_))
 .refine qT 5 U ?_
  have hs6:ep l kind bq ah=([],1):=hs4
  exact nretH [zSN,I 1] (hs6▸⟨none,0,U,zG⟩)
 refine qT 7 U (aI (cx call84 (tU _ _ _ _ kind bq ah (hl.mono Budget.aD hle1) ob) U (λv1 h3 hle3 hp1=>?_)))
 obtain⟨rb1,rc1,rfl,sl3⟩:=hp1
 refine qO 3 U ?_
 have hs7:ep l kind bq ah=((ba l kind bq ah),0):=hs5
 exact nretH [.slice rb1 ((ba l kind bq ah).length) rc1,I 0] (hs7▸⟨rb1,rc1,U,sl3⟩)
theorem CM(h x gR no)(hx:aE.ok h x gR):Ret prog 132 [.agg (aE.cells x gR).toArray,I no] h (I (tB x no)):=by
 refine sT func132 U ntmps132 U λX hM hX hF=>?_
 generalize hz:(tB x no)=z;have hs:=hz.symm
 exact W
theorem Cy(h)(n:Nat)(hn:n<=1000000000):Rd prog 203 [zSN,I (n:Int)] h jB 3 ([]:List Int):=by
 refine sT func203 U ntmps203 U λX hM hX hF=>?_
 refine wtt U (wcF U (decide_eq_false (by omega)) ?_)
 refine wto U (aI (eG (PK eP U) ?_))
 refine bp (Fk eP U ?_)
 refine i8 (v':=I 0) U U ?_
 have e1:IntKind.i64.wrap ((n:Int)-0)=n:=by have:=lv (z:=(n:Int)) (by omega);simp only[Int.sub_zero];injection this
 refine i8 (v':=I (n:Int)) U (congrArg I e1) ?_
 refine wot U ?_
 rcases Nat.eq_zero_or_pos n with h0|h0
 . subst h0
   refine wcF U U ?_
   refine wtt U ?_
   exact nu hF (λa ha w hw=>res1 U a ha w) (λw hw=>hw.lower) ⟨hX,none,0,U,cN.nil⟩
 . refine wcT rfl (decide_eq_true (by omega)) ?_
   refine wto U (aI (eG (PK eP U) ?_))
   refine aI (eG (v:=zSN) (HJ eP ty3 U U) ?_)
   refine bp (aI (J8 (R:=jB) (xs:=[]) (base:=none) (cap:=0) (G:=[]) (k:=n) (kn:=.i64) [] [] U eP nI ty3 zc3 U (by decide) bytes3 cN.nil U U U h0 (by simp;omega) (by simp;omega) (by simp;omega) (λbk cl sp cap hc hl hcap=>?_)))
   refine bp (Fk eP U (aI (eG (Kd (m:=0) eP ty3 U U (zH _)) ?_)))
   refine wot U ?_
   exact nu hF (λa ha w hw=>res1 U a ha w) (λw hw=>hw.lower) ⟨hX,zAD bk,cap,U,.inr ⟨bk,cl,sp,U,hc,hl,zH _,zH _,U⟩⟩
theorem BJ(h)(n:Nat)(hn:n<=1000000000):Rd prog 71 [zSN,I (n:Int)] h jJ 45 ([]:List Lack):=by
 refine sT func71 U ntmps71 U λX hM hX hF=>?_
 refine wtt U (wcF U (decide_eq_false (by omega)) ?_)
 refine wto U (aI (eG (PK nR U) ?_))
 refine bp (Fk nR U ?_)
 refine i8 (v':=I 0) U U ?_
 have e1:IntKind.i64.wrap ((n:Int)-0)=n:=by have:=lv (z:=(n:Int)) (by omega);simp only[Int.sub_zero];injection this
 refine i8 (v':=I (n:Int)) U (congrArg I e1) ?_
 refine wot U ?_
 rcases Nat.eq_zero_or_pos n with h0|h0
 . subst h0
   refine wcF U U ?_
   refine wtt U ?_
   exact nu hF (λa ha w hw=>res1 U a ha w) (λw hw=>hw.lower) ⟨hX,none,0,U,cN.nil⟩
 . refine wcT rfl (decide_eq_true (by omega)) ?_
   refine wto U (aI (eG (PK nR U) ?_))
   refine aI (eG (v:=zSN) (HJ nR ty45 U U) ?_)
   refine bp (aI (J8 (R:=jJ) (xs:=[]) (base:=none) (cap:=0) (G:=[]) (k:=n) (kn:=.i64) [] [] U nR nI ty45 zc45 U (by decide) bytes45 cN.nil U U U h0 (by simp;omega) (by simp;omega) (by simp;omega) (λbk cl sp cap hc hl hcap=>?_)))
   refine bp (Fk nR U (aI (eG (Kd (m:=0) nR ty45 U U (zH _)) ?_)))
   refine wot U ?_
   exact nu hF (λa ha w hw=>res1 U a ha w) (λw hw=>hw.lower) ⟨hX,zAD bk,cap,U,.inr ⟨bk,cl,sp,U,hc,hl,zH _,zH _,U⟩⟩
theorem Ak(h)(ls:List (List Int))(b c)(hl:SlC (W9 jB) h b c ls)(hsz:ls.length<=100)(hsy:∀y∈ls,y.length<=2000000):Rd prog 136 [.slice b ls.length c] h jB 3 ls.flatten:=by
 refine sT func136 U ntmps136 U λX hM hX hF=>?_
 have hbd:=KS ls 0 2000000 hsy
 have hfl:=Ew ls 0
 have htk:=λ(i:Nat)(y:List Int)(r:List (List Int))(hd:ls.drop i=y::r)=>JZ hd
 generalize hz:ls.flatten=z at *
 refine wtt U ?_
 refine lp2 ls (λi(g:Nat)=>[(0,.slice b ls.length c),(3,I (g:Int)),(9,.slice b ls.length c),(10,I (ls.length:Int)),(11,I (i:Int))]) (λ_=>h) (λ_=>[]) (λi g=>g<=i*2000000) (λs i g=>sumL s g) 0 (by omega) U (by omega) (λi g hi hs hg e=>?_) (λi g y r hd hlt hget hltp hbd' hs hg hx ag e=>?_)
 . have hn:z.length=g:=by have:sumL ls 0=g:=hs;omega
   refine wto U (aI (Dr call203 (Cy h g (by omega)) U (λb1 c1 G1 hG1=>?_)))
   refine wot U ?_
   refine lp2 ls (λi(w:List Int×Option Addr×Nat×LH)=>[(6,.slice w.2.1 w.1.length w.2.2.1),(25,.slice b ls.length c),(26,I (ls.length:Int)),(27,I (i:Int))]) (λ_=>h) (λw=>w.2.2.2) (λi w=>cN jB 3 h w.1 w.2.1 w.2.2.1 w.2.2.2/\w.1=(ls.take i).flatten) (λs i w=>w.1++s.flatten) ([],b1,c1,G1) (by omega) hz.symm ⟨hG1,U⟩ (λi w hi hs hw e=>?_) (λi w y r hd hlt hget hltp hbd' hs hw hx ag e=>?_)
   . obtain⟨w1,wb,wc,wG⟩:=w
     refine wtt U ?_
     have hs':z=w1:=hs.trans (List.append_nil _)
     subst hs'
     exact nu hF (λa ha w hw=>res1 U a ha w) (λw hw=>hw.lower) ⟨hX,wb,wc,U,hw.1⟩
   . obtain⟨w1,wb,wc,wG⟩:=w
     obtain⟨hw,hwt⟩:=hw
     dsimp only at hw hwt hs
     have htf:=htk i y r hd
     rw[←hwt]at htf
     refine wtt U (wcT U hlt ?_)
     refine wto U (wix U U U U hl U (nthZ hget) (gI hget) (λq cs hA hl' hr=>?_))
     obtain⟨yb,yc,rfl,hy⟩:=hr
     refine wlh0 U U hA (woo U ?_)
     refine wap U U hw U pmg U hy U U U U (by omega) (by omega) (λbs cp G hG=>?_)
     refine wot U ?_
     exact ag (w1++y,bs,cp,G) (hs.trans (by simp)) ⟨hG,by rw[hwt,List.take_add_one,hget];simp⟩ ⟨U,U,U,nH ob,trivial⟩
 . have hy:=hsy y (II hd)
   refine wtt U (wcT U hlt ?_)
   refine wto U (wix U U U U hl U (nthZ hget) (gI hget) (λq cs hA hl' hr=>?_))
   obtain⟨yb,yc,rfl,hyl⟩:=hr
   refine wlh0 U U hA ?_
   have hw:IntKind.i64.wrap ((g:Int)+(y.length:Int))=((g+y.length:Nat):Int):=by have:=lv (z:=((g+y.length:Nat):Int)) (by omega);injection this
   refine wot U (wcF U (decide_eq_false (by rw[hw];omega)) ?_)
   refine wtt U ?_
   exact ag (g+y.length) hs (by omega) ⟨U,congrArg I hw,U,U,nH ob,trivial⟩
theorem zk(h)(ls:List (List Lack))(b c)(hl:SlC (W9 jJ) h b c ls)(hsz:ls.length<=100)(hsy:∀y∈ls,y.length<=2000000):Rd prog 23 [.slice b ls.length c] h jJ 45 ls.flatten:=by
 refine sT func23 U ntmps23 U λX hM hX hF=>?_
 have hbd:=KS ls 0 2000000 hsy
 have hfl:=Ew ls 0
 have htk:=λ(i:Nat)(y:List Lack)(r:List (List Lack))(hd:ls.drop i=y::r)=>JZ hd
 generalize hz:ls.flatten=z at *
 refine wtt U ?_
 refine lp2 ls (λi(g:Nat)=>[(0,.slice b ls.length c),(3,I (g:Int)),(9,.slice b ls.length c),(10,I (ls.length:Int)),(11,I (i:Int))]) (λ_=>h) (λ_=>[]) (λi g=>g<=i*2000000) (λs i g=>sumL s g) 0 (by omega) U (by omega) (λi g hi hs hg e=>?_) (λi g y r hd hlt hget hltp hbd' hs hg hx ag e=>?_)
 . have hn:z.length=g:=by have:sumL ls 0=g:=hs;omega
   refine wto U (aI (Dr call71 (BJ h g (by omega)) U (λb1 c1 G1 hG1=>?_)))
   refine wot U ?_
   refine lp2 ls (λi(w:List Lack×Option Addr×Nat×LH)=>[(6,.slice w.2.1 w.1.length w.2.2.1),(25,.slice b ls.length c),(26,I (ls.length:Int)),(27,I (i:Int))]) (λ_=>h) (λw=>w.2.2.2) (λi w=>cN jJ 45 h w.1 w.2.1 w.2.2.1 w.2.2.2/\w.1=(ls.take i).flatten) (λs i w=>w.1++s.flatten) ([],b1,c1,G1) (by omega) hz.symm ⟨hG1,U⟩ (λi w hi hs hw e=>?_) (λi w y r hd hlt hget hltp hbd' hs hw hx ag e=>?_)
   . obtain⟨w1,wb,wc,wG⟩:=w
     refine wtt U ?_
     have hs':z=w1:=hs.trans (List.append_nil _)
     subst hs'
     exact nu hF (λa ha w hw=>res1 U a ha w) (λw hw=>hw.lower) ⟨hX,wb,wc,U,hw.1⟩
   . obtain⟨w1,wb,wc,wG⟩:=w
     obtain⟨hw,hwt⟩:=hw
     dsimp only at hw hwt hs
     have htf:=htk i y r hd
     rw[←hwt]at htf
     refine wtt U (wcT U hlt ?_)
     refine wto U (wix U U U U hl U (nthZ hget) (gI hget) (λq cs hA hl' hr=>?_))
     obtain⟨yb,yc,rfl,hy⟩:=hr
     refine wlh0 U U hA (woo U ?_)
     refine wap U U hw U pmg U hy U U U U (by omega) (by omega) (λbs cp G hG=>?_)
     refine wot U ?_
     exact ag (w1++y,bs,cp,G) (hs.trans (by simp)) ⟨hG,by rw[hwt,List.take_add_one,hget];simp⟩ ⟨U,U,U,nH ob,trivial⟩
 . have hy:=hsy y (II hd)
   refine wtt U (wcT U hlt ?_)
   refine wto U (wix U U U U hl U (nthZ hget) (gI hget) (λq cs hA hl' hr=>?_))
   obtain⟨yb,yc,rfl,hyl⟩:=hr
   refine wlh0 U U hA ?_
   have hw:IntKind.i64.wrap ((g:Int)+(y.length:Int))=((g+y.length:Nat):Int):=by have:=lv (z:=((g+y.length:Nat):Int)) (by omega);injection this
   refine wot U (wcF U (decide_eq_false (by rw[hw];omega)) ?_)
   refine wtt U ?_
   exact ag (g+y.length) hs (by omega) ⟨U,congrArg I hw,U,U,nH ob,trivial⟩
theorem CL(h w Tz Ty kU oo oh who_q p jg p_q)(d:ao)(Be:oH)(d_q)(hs_:List (List bW))(VJ VI hs_q)(hw:SlC jB h Tz Ty w)(hwho:SlC jB h oo oh kU)(awho:At h who_q [.slice oo kU.length oh])(hp:aw.ok h p jg)(ap_:At h p_q (aw.cells p jg))(ad_:At h d_q (ao.cells d Be))(hhs:SlC (W9 bW.rp) h VJ VI hs_)(ahs:At h hs_q [.slice VJ hs_.length VI])(hsm:smP p)(hsz:∀y∈hs_,y.length<=2000000)(hl1:kU.length<=1000000)(hl2:w.length<=1000000)(hk:dN h):
  Ret prog 135 [.slice Tz w.length Ty,.pointer (some who_q),.pointer (some p_q),.pointer (some d_q),.pointer (some hs_q)] h (.bool (pU w kU p d hs_)):=by
 refine sT func135 U ntmps135 U λX hM hX hF=>?_
 generalize hz:pU w kU p d hs_=z;have hs:=hz.symm
 refine wto U (wlh0 U U awho ?_)
 refine woo U ?_
 refine aI (bN (cells:=[.slice oo kU.length oh,.slice Tz w.length Ty]) underlying272 ty31 zc31 U U kr (λb1=>cz 0 U hM (λh1 hle1 hb1=>?_)))
 have hcat:SlC (W9 jB) h1 (zAD b1) 2 [kU,w]:=slL hb1 lf (cCo (R:=W9 jB) (cs:=[.slice oo kU.length oh]) (show(W9 jB).rep h1 _ kU from⟨_,_,rfl,slm hwho hle1⟩) rfl (cCo (R:=W9 jB) (cs:=[.slice Tz w.length Ty]) (show(W9 jB).rep h1 _ w from⟨_,_,rfl,slm hw hle1⟩) rfl cNi)) (by simp) (by simp)
 refine aI (Dr call136 (Ak h1 [kU,w] _ 2 hcat (by simp) (by simp;omega)) U (λb2 c2 G hG=>?_))
 have hfl:[kU,w].flatten=kU++w:=by simp
 rw[hfl]at hG ⊢
 refine woo U ?_
 refine aI (m9 [] G [] Pk (mP h1 _ _ _ G hG (by simp;omega)) ap U (λG2 hG2=>?_))
 refine wot U ?_
 refine eY ([]) mixed kr jn (λgK _=>?_)
 refine tf 0 U U (λ_ _ hj=>mW ty61 ((ap_.mono hle1).mono hj.1) U U) ?_
 refine qB [1] U (tf 2 U U (rH 2 ty3 (ad_.mono hle1) U U) ?_)
 refine qB [3] U (tf 4 U U (rH 3 ty3 (ad_.mono hle1) U U) ?_)
 refine tf 5 U U (rh ty190 (ahs.mono hle1) U) ?_
 refine qA [6] U ?_
 refine tn 7 U ?_
 refine m9 (v:=.slice b2 (slices_Compact_int (sortI (kU++w))).length c2) [] G2 [] call95 (oI h1 _ _ _ _ hG2) U (by simp only[iW];rfl) (λG3 hG3=>⟨jn,?_⟩)
 refine tn 8 U ?_
 refine xm vH [] G3 [] U hM hG3 (λh2 hle2 sl2=>?_)
 have de:=vA hle1 hle2
 have hcl:(slices_Compact_int (sortI (kU++w))).length<=2000000:=kL (NW _) (by rw[iW];simp;omega)
 refine gi call137 (vj h2 p jg d.Kind d.Value hs_ _ _ _ _ _ (hp.mono de) (slm hhs de) sl2 hsm hsz hcl (hk.mono de)) U ⟨jl hle2,tu hle2 ?_⟩
 refine qR 9 5 U (bO kr ?_)
 exact W
theorem LU(a b):cmp_Compare_int a b<0↔a<b:=by
 have h1:∀x,cmp_isNaN_int x=false:=λx=>by simp[cmp_isNaN_int]
 simp only[cmp_Compare_int,h1,cond_false]
 by_cases h:a<b
 .simp[h]
 simp only[h,decide_false,cond_false,iff_false]
 by_cases h':b<a<;>simp[h']
theorem xz(h r sP d Be)(no at_ ah:Int)(hr:zL h r sP)(hd:ao.ok h d Be)(hsm:smR r)(hk:dN h)(hso:r.Versions.Pairwise λa b=>a.No<b.No)(hin:bsPos aE.No r.Versions no<r.Versions.length)(hof:(nthI r.Versions (bsPos aE.No r.Versions no)).aw.aA.length<=1000)(hpl:(fT r d.No no at_ ah).1.length<=1000000):
   j6 prog 66 [.agg (zD r sP).toArray,.agg (ao.cells d Be).toArray,I no,I at_,I ah] h (λv h'=>FnC h' v (j8 r d no at_ ah)):=by
 refine sT func66 U ntmps66 U λX hM hX hF=>?_
 obtain⟨k,hkk⟩:∃k,bsPos aE.No r.Versions no=k:=⟨_,rfl⟩
 have hsp:=C2 aE.No no r.Versions hso
 rw[hkk]at hin hof hsp
 generalize hpe:nthI r.Versions (k:Int)=ver at *
 have hvm:ver∈r.Versions:=by rw[←hpe];exact ow (by omega)
 have hsp_:smP ver.aw:=hsm.vers.2 _ hvm
 have hfun:j8 r d no at_ ah=λw=>pU w (fT r d.No no at_ ah).1 ver.aw d ((vD ver.aw.aA.length).map (ig r at_ ah)):=by
  funext w;unfold j8;rw[hkk,hpe]
 rw[hfun]
 refine wto U (eO (λb5=>eO (λb6=>?_)))
 refine woo U (wld U U nthA U ?_)
 refine woo U ?_
 refine aS call131 (pY h r.Versions _ _ no tB (.func (.func 132) #[] #[]) k hr.Versions (λh' a0 r0 a1 hl hok=>iA call132 (CM h' a0 r0 a1 hok)) (by omega) (λi y hi hy=>(LU _ _).2 (hsp.1 i y hi hy)) (λi y hi hy hc=>hsp.2 i y hi hy ((LU _ _).1 hc)) hsm.vers.len) U ?_
 refine woo U (wld U U nthA U ?_)
 refine woo U (wix U U U U hr.Versions U (z:=(k:Int)) (y:=ver) (by omega) (by rw[←hpe];exact di (by omega)) (λq cs hA hl hr0=>?_))
 obtain⟨vr,rfl,hv⟩:=hr0
 have hp:=hv.aw
 refine woo U (wlhS U U hA ?_)
 refine aI (wal U (λb13=>?_))
 refine wsW U U U nthA U U U ?_
 refine rn ?_
 refine wld U U nthA U ?_
 refine rn ?_
 refine aI (GW (R:=W9 bW.rp) (x0:=[]) (m:=ver.aw.aA.length) (λG=>[(b13,_),(b6,_),(b5,_)]++G) U ⟨none,0,U,zG⟩ (λ_=>U) Mh zc191 ty191 bytes191 U U (by omega) (by omega) (λbk G hG=>?_))
 refine aI (wal U (λb14=>?_))
 refine wst U U nthA U U U U ?_
 refine rn ?_
 refine wld U U nthA U ?_
 refine rn ?_
 have hlr:(vD ver.aw.aA.length).length=ver.aw.aA.length:=List.length_range
 have hrep:(List.replicate ver.aw.aA.length ([]:List bW)).length=ver.aw.aA.length:=List.length_replicate
 refine lp2 (vD ver.aw.aA.length) (λi(g:List (List bW)×LH×HF)=>[(2,I no),(3,I at_),(4,I ah),(5,Q b5),(6,Q b6),(13,Q b13),(14,Q b14),(36,I ((vD ver.aw.aA.length).length:Int)),(37,I (i:Int))]) (λg=>g.2.2) (λg=>[(b14,O [.slice (zAD bk) (List.replicate ver.aw.aA.length ([]:List bW)).length ver.aw.aA.length] 190),(b13,O (aw.cells ver.aw vr.aw) 61),(b6,O (ao.cells d Be) 54),(b5,O (zD r sP) 30)]++g.2.1) (λi g=>cN (W9 bW.rp) 191 g.2.2 g.1 (zAD bk) ver.aw.aA.length g.2.1/\g.1.length=ver.aw.aA.length/\h.le g.2.2) (λs i g=>g.1.take i++s.map (ig r at_ ah)) (List.replicate ver.aw.aA.length [],G,h) (by omega) (U:((vD ver.aw.aA.length).map (ig r at_ ah))=_) ⟨hG,hrep,kH _⟩ (λi g hi hs2 hg e=>?_) (λi g y rr hd hlt hget hltp hbd hs2 hg hx ag e=>?_) (h0:=⟨U,U,U,U,U,U,U,congrArg (λm:Nat=>I (m:Int)) (hrep.trans hlr.symm),U,trivial⟩)
 . obtain⟨g1,G1,hh⟩:=g
   obtain⟨hG1,hg2,hl⟩:=hg
   dsimp only at hG1 hg2 hl hs2
   have hg3:(vD ver.aw.aA.length).map (ig r at_ ah)=g1:=by
     have h1:=congrArg List.length hs2
     simp only[List.length_map,WI,List.append_nil,List.length_take,List.length_range]at h1
     rw[hs2,WI,List.append_nil,List.take_of_length_le (by omega)]
   rw[hg3]
   refine rn ?_
   refine dy 3 ty30 U U U ?_
   refine rn ?_
   refine wld U U nthA U ?_
   refine rn ?_
   refine aI (cx call134 (F8 hh r sP d.No no at_ ah (hr.mono hl) hsm (hk.mono hl)) U (λv h2 hle2 hp2=>?_))
   obtain⟨rb,rc,rfl,sl⟩:=hp2
   refine rn ?_
   refine aI (wal U (λb16=>?_))
   refine wst U U nthA U U U U ?_
   refine rn ?_
   refine wfgo (Q:=[(b16,O [.slice rb (fT r d.No no at_ ah).1.length rc] 31),(b14,O [.slice (zAD bk) (List.replicate ver.aw.aA.length ([]:List bW)).length ver.aw.aA.length] 190),(b13,O (aw.cells ver.aw vr.aw) 61),(b6,O (ao.cells d Be) 54),(b5,O (zD r sP) 30)]) (grm hG1 hle2) (List.Perm.refl _) hM (λh3 hle3 slh=>?_)
   refine wmz 0 U U nthA hM (λh4 hle4 a16=>?_)
   refine wmz 1 U U nthA hM (λh5 hle5 a13=>?_)
   refine wmz 2 U U nthA hM (λh6 hle6 a6=>?_)
   refine wmz 3 U U nthA hM (λh7 hle7 a14=>?_)
   refine aI (wmf ?_)
   refine rn ?_
   refine wrH [.func (.func 135) #[] #[Q b16,Q b13,Q b6,Q b14]] hF U rdd ?_
   have l6:=hle7
   have l5:=vA hle6 l6
   have l4:=vA hle5 l5
   have l3:=vA hle4 l4
   have l2:=vA hle3 l3
   have l1:=vA hle2 l2
   have l0:=vA hl l1
   have a14:At h7 ⟨b14,0,none⟩ [.slice (zAD bk) g1.length ver.aw.aA.length]:=by rw[hg2,←hrep];simpa using a14
   refine⟨⟨_,_,_,U⟩,λh' w wb wc hle' hw hlw=>iA call135 (CL h' w wb wc _ rb rc ⟨b16,0,none⟩ ver.aw vr.aw ⟨b13,0,none⟩ d Be ⟨b6,0,none⟩ g1 (zAD bk) _ ⟨b14,0,none⟩ hw ((slm sl l2).mono vH hle') ((a16.mono l4).mono hle') ((hp.mono l0).mono hle') ((a13.mono l5).mono hle') ((a6.mono l6).mono hle') ((slm slh l3).mono (Rp.KW bW.dg.mono).mono hle') (a14.mono hle') hsp_ ?_ hpl hlw (hk.mono (vA l0 hle')))⟩
   rw[←hg3]
   intro y hy
   obtain⟨j,_,rfl⟩:=qJ.1 hy
   exact kL (Bm _ _ _ _) hsm.2.1
 . obtain⟨g1,G1,hh⟩:=g
   obtain⟨hG1,hg2,hl⟩:=hg
   dsimp only at hG1 hg2 hl hs2
   have hyi:y=i:=by rw[List.getElem?_range (by omega)]at hget;exact(Option.some.inj hget).symm
   subst hyi
   refine wtt U (wcT U hlt ?_)
   refine rn ?_
   refine eY ([(b14,O [.slice (zAD bk) (List.replicate ver.aw.aA.length ([]:List bW)).length ver.aw.aA.length] 190),(b5,O (zD r sP) 30)]) mixed kr jn (λgK _=>?_)
   refine tf 0 U U (rj 0 ty190 U U U) ?_
   refine qB [1,2] U (tf 3 U U (rj 1 ty22 U U U) ?_)
   refine qA [4,5,6] U ?_
   refine tn 7 U (cx call133 (vk hh r.dF _ _ (y:Int) at_ ah (slm hr.dF hl) hsm.2.1) U (λv h2 hle2 hp2=>?_))
   obtain⟨rb,rc,rfl,sl⟩:=hp2
   refine⟨jl hle2,tu hle2 ?_⟩
   refine qA [8,9,10] U ?_
   have hyl:y<ver.aw.aA.length:=by omega
   have hi2:g1[y]? = some g1[y]:=List.getElem?_eq_getElem (by omega)
   refine tf 11 U U (λ_ _ _=>nY (R:=W9 bW.rp) (xs:=g1) (z:=(y:Int)) Mh ty191 U (by omega) U (hrep.trans hg2.symm) U) ?_
   refine tn 12 rfl (uT (R:=W9 bW.rp) (xs:=g1) (u:=g1[y]) (u':=ig r at_ ah y) (v:=.slice rb (ig r at_ ah y).length rc) (off:=0) [(b14,O [.slice (zAD bk) (List.replicate ver.aw.aA.length ([]:List bW)).length ver.aw.aA.length] 190),(b13,O (aw.cells ver.aw vr.aw) 61),(b6,O (ao.cells d Be) 54),(b5,O (zD r sP) 30)] G1 [] ty191 rfl (grm hG1 hle2) (by simp) rfl hi2 (by decide) (λcs hc=>by obtain⟨_,_,rfl,_⟩:=hc;exact⟨rb,rc,rfl,sl⟩) rfl rfl rfl (λG2 hG2=>⟨jn,bO kr ?_⟩))
   refine rn ?_
   have hs3:((vD ver.aw.aA.length).map (ig r at_ ah))=(g1.set y (ig r at_ ah y)).take (y+1)++rr.map (ig r at_ ah):=by
     rw[hs2,kG,List.take_add_one,List.take_set,List.getElem?_set_self (by omega)]
     have hset:(List.take y g1).set y (ig r at_ ah y)=List.take y g1:=List.set_eq_of_length_le (by rw[List.length_take];omega)
     simp[hset]
   exact wsb (ag (g1.set y (ig r at_ ah y),G2,h2) hs3 ⟨hG2,by simpa using hg2,vA hl hle2⟩ ⟨U,U,U,U,U,U,U,U,nH (by omega),trivial⟩) jsA lf hX (vA hl hle2)
theorem EJ(h w Tz Ty e_ e_q)(vs:List (List Int->Bool))(UQ UP vs_q mode mode_q)(hw:SlC jB h Tz Ty w)(ae:At h e_q [I e_])(hvs:SlC rpFn h UQ UP vs)(avs:At h vs_q [.slice UQ vs.length UP])(am:At h mode_q [I mode])(hl:vs.length<=1000000)(hlw:w.length<=1000000):
  Ret prog 67 [.slice Tz w.length Ty,.pointer (some e_q),.pointer (some vs_q),.pointer (some mode_q)] h (.bool (oE w e_ vs mode)):=by
 refine sT func67 U ntmps67 U λX hM hX hF=>?_
 generalize hz:oE w e_ vs mode=z;have hs:=hz.symm
 refine wto U (wlh0 U U ae ?_)
 refine wot U (wcond U hs (λc hs=>?_) (λc hs=>?_))
 . exact W
 refine wto U (wlh0 U U avs ?_)
 refine woo U ?_
 refine aI (GW (R:=qW) (x0:=false) (m:=vs.length) (λG=>[]++G) U U (λ_=>U) Et zc4 ty4 bytes4 U U (by omega) (by omega) (λbk G hG=>?_))
 refine woo U (wlh0 U U avs ?_)
 refine wot U ?_
 refine lp2 vs (λi(g:List Bool×LH)=>[(0,.slice Tz w.length Ty),(3,.pointer (some mode_q)),(6,.slice (zAD bk) vs.length vs.length),(16,.slice UQ vs.length UP),(17,I (vs.length:Int)),(18,I (i:Int))]) (λ_=>h) (λg=>g.2) (λi g=>cN qW 4 h g.1 (zAD bk) vs.length g.2/\g.1.length=vs.length) (λs i g=>g.1.take i++s.map λf=>f w) (List.replicate vs.length false,G) (by omega) (U:(vs.map λf=>f w)=_) ⟨hG,by simp⟩ (λi g hi hs2 hg e=>?_) (λi g y r hd hlt hget hltp hbd hs2 hg hx ag e=>?_) (h0:=⟨U,U,congrArg (λm=>Value.slice (zAD bk) m vs.length) List.length_replicate,U,U,U,trivial⟩)
 . obtain⟨g1,G1⟩:=g
   obtain⟨hG1,hg2⟩:=hg
   dsimp only at hG1 hg2 hs2
   have hg3:(vs.map λf=>f w)=g1:=by
     have h1:=congrArg List.length hs2
     simp only[List.length_map,WI,List.append_nil,List.length_take]at h1
     rw[hs2,WI,List.append_nil,List.take_of_length_le (by omega)]
   refine wto U (wlh0 U U am ?_)
   refine woo U (wfgo hG1 pmg hM (λh2 hle2 sl2=>?_))
   have hvv:Value.slice (zAD bk) vs.length vs.length=.slice (zAD bk) g1.length vs.length:=by rw[hg2]
   refine aS call68 (uK h2 mode g1 _ _ sl2 (by omega)) (congrArg (λv=>[I mode,v]) hvv) ?_
   rw[hg3]at hs
   exact W
 . obtain⟨g1,G1⟩:=g
   obtain⟨hG1,hg2⟩:=hg
   dsimp only at hG1 hg2 hs2
   refine wtt U (wcT U hlt ?_)
   refine wto U (wix U U U U hvs U (nthZ hget) (gI hget) (λq1 cs hA hl' hr=>?_))
   obtain⟨v,rfl,h1v,hv⟩:=hr
   refine wlh0 U U hA ?_
   refine woo U ?_
   refine aI (ka (v:=.bool (y w)) [] (List.nil_sublist _) (hv h w Tz Ty lf hw hlw) U U ?_)
   have hi2:g1[i]? = some g1[i]:=List.getElem?_eq_getElem (by omega)
   refine aI (eG (nY (R:=qW) (xs:=g1) (z:=(i:Int)) Et ty4 U (by omega) U hg2.symm U) ?_)
   refine aI (uT (R:=qW) (xs:=g1) (u:=g1[i]) (u':=y w) (v:=.bool (y w)) (off:=0) [] G1 [] ty4 U hG1 (by simp) U hi2 (by decide) (λcs hc=>by rw[show cs=[.bool g1[i]]from hc];rfl) U U U (λG2 hG2=>?_))
   refine wot U ?_
   have hs3:(vs.map λf=>f w)=(g1.set i (y w)).take (i+1)++r.map λf=>f w:=by
     rw[hs2,kG,List.take_add_one,List.take_set,List.getElem?_set_self (by omega)]
     have hset:(List.take i g1).set i (y w)=List.take i g1:=List.set_eq_of_length_le (by rw[List.length_take];omega)
     simp[hset]
   have hG3:cN qW 4 h (g1.set i (y w)) (zAD bk) vs.length ([]++(G2++[])):=by simpa using hG2
   exact ag (g1.set i (y w),[]++(G2++[])) hs3 ⟨hG3,by simpa using hg2⟩ ⟨U,U,U,U,U,nH (by omega),trivial⟩
theorem Sz(h:p:=by
  refine tn 8 U (m4 0 U hM (λh9 hle9 f9=>?_))
  have hys:SlC rpFn h9 (zAD b3) 1 [j8 r d y at_ ah]:=slL f9 lf (cCo (R:=rpFn) (cs:=[.func fn0 fi0 ca0]) ⟨_,rfl,hfn.mono hle9⟩ rfl cNi) (by simp) (by simp)
  refine eB Ka [(b32,O [.slice vb vs1.length vc] 134),(b31,O [I (aM r.Versions d.At at_ ah).2.2] 36),(b30,O [I (aM r.Versions d.At at_ ah).2.1] 3),(b17,O (ao.cells d dr) 54),(b14,O (fN.cells (bF r signed u aV at_ ah).1 vr) 40),(b12,O [.bool ((bF r signed u aV at_ ah).1.State==1),.slice fb (ew (gC r d at_ ah)).length fc,.slice nb n1.length nc,.slice ob o1.length oc,.nilFunc] 79),(b6,O (Register.cells r sP) 30)] [] (λG=>[(b32,O [.slice vb vs1.length vc] 134),(b31,O [I (aM r.Versions d.At at_ ah).2.2] 36),(b30,O [I (aM r.Versions d.At at_ ah).2.1] 3),(b17,O (ao.cells d dr) 54),(b14,O (fN.cells (bF r signed u aV at_ ah).1 vr) 40),(b12,O [.bool ((bF r signed u aV at_ ah).1.State==1),.slice fb (ew (gC r d at_ ah)).length fc,.slice nb n1.length nc,.slice ob o1.length oc,.nilFunc] 79),(b6,O (Register.cells r sP) 30)]++G) (by simp[dropNth]) (λ_=>U) underlying134 ty77 zc77 U bytes77 (grm hvG (HF.le_trans hle8 hle9)) U U (km hys.1) (by simp only[List.length_cons,List.length_nil];omega) (by simp only[List.length_cons,List.length_nil];omega) (λbs cp G2 hG2=>?_)
  refine⟨jl hle9,tu hle9 ?_⟩
  refine tn 9 U (lM 0 ty134 U U U U U U ?_)
  refine⟨jn,bO kr ?_⟩
  refine rn ?_
  exact ag (vs1++[j8 r d y at_ ah],bs,cp,G2,h9) (by rw[hs2,List.map_cons];simp) ⟨hG2,by simp;omega,HF.le_trans lhh (HF.le_trans hle8 hle9)⟩ ⟨U,U,U,U,U,U,U,U,U,U,U,U,U,U,nH (by omega),trivial⟩):p:=h
theorem Sy(h:p:=by
  refine tn 7 U (bN (cells:=[.func fn0 fi0 ca0]) underlying134 ty77 zc77 U U kr (λb3=>?_))
  refine⟨jn,?_⟩
  exact Sz):p:=h
theorem AH(h r sP signed pS pK u ql qj)(aV at_ ah:Int)(hr:zL h r sP)(hsi:SlC jB h pS pK signed)(hu:SlC XC h ql qj u)(hsm:smR r)(hln:r.cd.length<20)(hk:dN h)(hok:(bF r signed u aV at_ ah).2=0->vU r aV at_ ah):
   j6 prog 20 [.agg (zD r sP).toArray,.slice pS signed.length pK,.slice ql u.length qj,I aV,I at_,I ah] h (λv h'=>QOk h' v (io r signed u aV at_ ah).1 (io r signed u aV at_ ah).2):=by
 refine sT func20 U ntmps20 U λX hM hX hF=>?_
 refine wto U (eO (λb6=>?_))
 refine aI (wal U (λb12=>?_))
 refine rn ?_
 refine dy 1 ty30 U U U ?_
 refine rn ?_
 refine aI (cx call9 (HY h r sP signed _ _ u _ _ aV at_ ah hr hsi hu hsm hln hk) U (λv h1 hle1 hp1=>?_))
 obtain⟨vr,rfl,okv⟩:=hp1
 refine rn ?_
 refine aI (wal U (λb14=>?_))
 refine wsW U U U nthA U U U ?_
 refine rn ?_
 cases hj:((bF r signed u aV at_ ah).2 != 0)with
 |true=>
  refine wcT U U ?_
  refine rn ?_
  refine dy 1 ty79 U U U ?_
  refine rn ?_
  refine wsW U U U nthA U U U ?_
  refine rn ?_
  refine wrH [.agg #[.bool false,zSN,zSN,zSN,.nilFunc],I (bF r signed u aV at_ ah).2] hF U rdR ?_
  have hq:io r signed u aV at_ ah=(⟨false,[],[],[],λ_=>false⟩,(bF r signed u aV at_ ah).2):=by unfold io;rw[hj];rfl
  rw[hq]
  refine⟨none,0,none,0,none,0,.nilFunc,U,U,zG,zG,zG,λh0=>?_⟩
  rw[show(bF r signed u aV at_ ah).2=0 from h0]at hj;cases hj
 |false=>
  have hj0:(bF r signed u aV at_ ah).2=0:=by simpa using hj
  have ok:=hok hj0
  have hq:io r signed u aV at_ ah=(iN r signed u aV at_ ah (fq r aV),0):=by unfold io;rw[hj];rfl
  rw[hq]
  obtain⟨odocs,odin,overs,ovin,ovlen,oflen,onlen,oslen⟩:=ok
  have hdk:nthI r.cd ((bsPos ao.No r.cd aV:Nat):Int)=fq r aV:=rfl
  generalize fq r aV=d at *
  have hsp:=C2 ao.No aV r.cd odocs
  generalize bsPos ao.No r.cd aV=k at *
  refine wcF U U ?_
  refine rn ?_
  refine wld U U nthA U ?_
  refine rn ?_
  refine aS call59 (pL h1 r.cd _ _ aV w6 (.func (.func 60) #[] #[]) k (slm hr.cd hle1) (λh' a0 r0 a1 hl hok=>iA call60 (EK h' a0 r0 a1 hok)) (by omega) (λi y hi hy=>(LU _ _).2 (hsp.1 i y hi hy)) (λi y hi hy hc=>hsp.2 i y hi hy ((LU _ _).1 hc)) hsm.2.2.2.2.2.1) U ?_
  refine rn ?_
  refine wld U U nthA U ?_
  refine rn ?_
  refine wix U U U U (slm hr.cd hle1) U (z:=(k:Int)) (y:=d) (by omega) (by rw[←hdk];exact di (by omega)) (λq cs hA hl hr0=>?_)
  obtain⟨dr,rfl,hd⟩:=hr0
  refine wlhs U U hA U ?_
  refine aI (wal U (λb17=>?_))
  refine wsW U U U nthA U U U ?_
  refine rn ?_
  refine wld U U nthA U ?_
  refine rn ?_
  refine wst U U nthA U U U U ?_
  refine rn ?_
  refine dy 3 ty30 U U U ?_
  refine dy 0 ty54 U U U ?_
  refine rn ?_
  refine aI (cx call62 (F6 h1 r sP d dr at_ ah (hr.mono hle1) hd hsm) U (λv h2 hle2 hp2=>?_))
  obtain⟨_,rfl,hit⟩:=hp2
  refine aI (cx call61 (zm h2 _ _ hit (by omega)) U (λv h3 hle3 hp3=>?_))
  obtain⟨fb,fc,rfl,slf⟩:=hp3
  refine rn ?_
  refine wst U U nthA U U U U ?_
  refine rn ?_
  refine wld U U nthA U ?_
  refine rn ?_
  have l13:=vA hle2 hle3
  have l03:=vA hle1 l13
  refine aI (cx call27 (pg h3 r.cd _ _ signed _ _ at_ (slm hr.cd l03) (slm hsi l03) hln) U (λv h4 hle4 hp4=>?_))
  obtain⟨gb,gc,rfl,slg⟩:=hp4
  have l04:=vA l03 hle4
  refine rn ?_
  refine wld U U nthA U ?_
  refine rn ?_
  have l14:=vA l13 hle4
  refine lp2 d.fp (λi(w:List Int×Option Addr×Nat×LH)=>[(1,.slice pS signed.length pK),(2,.slice ql u.length qj),(3,I aV),(4,I at_),(5,I ah),(6,Q b6),(12,Q b12),(14,Q b14),(17,Q b17),(18,.slice gb (bD r.cd signed at_).1.length gc),(81,.slice dr.En d.fp.length dr.Em),(82,I (d.fp.length:Int)),(83,I (i:Int))]) (λ_=>h4) (λw=>[(b17,O (ao.cells d dr) 54),(b14,O (fN.cells (bF r signed u aV at_ ah).1 vr) 40),(b12,O [.bool ((bF r signed u aV at_ ah).1.State==1),.slice fb (ew (gC r d at_ ah)).length fc,.slice w.2.1 w.1.length w.2.2.1,zSN,.nilFunc] 79),(b6,O (zD r sP) 30)]++w.2.2.2) (λi w=>cN jB 3 h4 w.1 w.2.1 w.2.2.1 w.2.2.2/\w.1.length<=i) (λs i w=>je (bD r.cd signed at_).1 s w.1) ([],none,0,[]) (by omega) (U:je (bD r.cd signed at_).1 d.fp []=_) ⟨cN.nil,kE _⟩ (λi w hi hs2 hw e=>?_) (λi w y rr hd1 hlt hget hltp hbd hs2 hw hx ag e=>?_)
  . obtain⟨n1,nb,nc,nG⟩:=w
    obtain⟨hnG,hn2⟩:=hw
    dsimp only at hnG hn2 hs2
    have hn3:je (bD r.cd signed at_).1 d.fp []=n1:=hs2
    refine wfg (Q:=[(b17,O (ao.cells d dr) 54),(b14,O (fN.cells (bF r signed u aV at_ ah).1 vr) 40),(b12,O [.bool ((bF r signed u aV at_ ah).1.State==1),.slice fb (ew (gC r d at_ ah)).length fc,.slice nb n1.length nc,zSN,.nilFunc] 79),(b6,O (zD r sP) 30)]) hnG (List.Perm.refl _) hM (λh5 hle5 sln=>?_)
    have l05:=vA l04 hle5
    refine rn ?_
    refine wld U U nthA U ?_
    refine rn ?_
    refine wld U U nthA U ?_
    refine rn ?_
    refine aI (cx call64 (BU h5 r.dH _ _ d.Kind at_ ah (slm hr.dH l05) hsm.2.2.2.2.1) U (λv h6 hle6 hp6=>?_))
    obtain⟨sb,sc,rfl,sls⟩:=hp6
    have l06:=vA l05 hle6
    have l16:=vA (vA l14 hle5) hle6
    refine rn ?_
    refine lp2 (ep r.dH d.Kind at_ ah).1 (λi(w:List Int×Option Addr×Nat×LH)=>[(1,.slice pS signed.length pK),(2,.slice ql u.length qj),(3,I aV),(4,I at_),(5,I ah),(6,Q b6),(12,Q b12),(14,Q b14),(17,Q b17),(108,.slice sb (ep r.dH d.Kind at_ ah).1.length sc),(109,I (((ep r.dH d.Kind at_ ah).1.length:Nat):Int)),(110,I (i:Int))]) (λ_=>h6) (λw=>[(b17,O (ao.cells d dr) 54),(b14,O (fN.cells (bF r signed u aV at_ ah).1 vr) 40),(b12,O [.bool ((bF r signed u aV at_ ah).1.State==1),.slice fb (ew (gC r d at_ ah)).length fc,.slice nb n1.length nc,.slice w.2.1 w.1.length w.2.2.1,.nilFunc] 79),(b6,O (zD r sP) 30)]++w.2.2.2) (λi w=>cN jB 3 h6 w.1 w.2.1 w.2.2.1 w.2.2.2/\w.1.length<=i) (λs i w=>jX u d at_ ah s w.1) ([],none,0,[]) (by omega) (U:jX u d at_ ah (ep r.dH d.Kind at_ ah).1 []=_) ⟨cN.nil,kE _⟩ (λi w hi hs2 hw e=>?_) (λi w y rr hd1 hlt hget hltp hbd hs2 hw hx ag e=>?_)
    . obtain⟨o1,ob,oc,oG⟩:=w
      obtain⟨hoG,ho2⟩:=hw
      dsimp only at hoG ho2 hs2
      have ho3:jX u d at_ ah (ep r.dH d.Kind at_ ah).1 []=o1:=hs2
      refine wfg (Q:=[(b17,O (ao.cells d dr) 54),(b14,O (fN.cells (bF r signed u aV at_ ah).1 vr) 40),(b12,O [.bool ((bF r signed u aV at_ ah).1.State==1),.slice fb (ew (gC r d at_ ah)).length fc,.slice nb n1.length nc,.slice ob o1.length oc,.nilFunc] 79),(b6,O (zD r sP) 30)]) hoG (List.Perm.refl _) hM (λh7 hle7 slo=>?_)
      have l07:=vA l06 hle7
      refine rn ?_
      refine wld U U nthA U ?_
      refine rn ?_
      refine wld U U nthA U ?_
      refine rn ?_
      refine aI (cx call65 (uJ h7 r.Versions _ _ d.At at_ ah (slm hr.Versions l07) hsm.vers (hk.mono l07)) U (λv h8 hle8 hp8=>?_))
      obtain⟨jb,jc,rfl,slj⟩:=hp8
      have l08:=vA l07 hle8
      have l18:=vA (vA l16 hle7) hle8
      refine rn ?_
      refine aI (wal U (λb30=>?_))
      refine aI (wal U (λb31=>?_))
      refine rn ?_
      refine wst U U nthA U U U U ?_
      refine wst U U nthA U U U U ?_
      refine rn ?_
      refine aI (wal U (λb32=>?_))
      refine rn ?_
      refine lp2 (aM r.Versions d.At at_ ah).1 (λi(w:List (List Int->Bool)×Option Addr×Nat×LH×HF)=>[(1,.slice pS signed.length pK),(2,.slice ql u.length qj),(3,I aV),(4,I at_),(5,I ah),(6,Q b6),(12,Q b12),(14,Q b14),(17,Q b17),(30,Q b30),(31,Q b31),(32,Q b32),(149,.slice jb (aM r.Versions d.At at_ ah).1.length jc),(150,I (((aM r.Versions d.At at_ ah).1.length:Nat):Int)),(151,I (i:Int))]) (λw=>w.2.2.2.2) (λw=>[(b32,O [.slice w.2.1 w.1.length w.2.2.1] 134),(b31,O [I (aM r.Versions d.At at_ ah).2.2] 36),(b30,O [I (aM r.Versions d.At at_ ah).2.1] 3),(b17,O (ao.cells d dr) 54),(b14,O (fN.cells (bF r signed u aV at_ ah).1 vr) 40),(b12,O [.bool ((bF r signed u aV at_ ah).1.State==1),.slice fb (ew (gC r d at_ ah)).length fc,.slice nb n1.length nc,.slice ob o1.length oc,.nilFunc] 79),(b6,O (zD r sP) 30)]++w.2.2.2.1) (λi w=>cN rpFn 77 w.2.2.2.2 w.1 w.2.1 w.2.2.1 w.2.2.2.1/\w.1.length<=i/\h8.le w.2.2.2.2) (λs i w=>w.1++s.map (λno=>j8 r d no at_ ah)) ([],none,0,[],h8) (by omega) (U:(aM r.Versions d.At at_ ah).1.map (λno=>j8 r d no at_ ah)=_) ⟨cN.nil,kE _,kH _⟩ (λi w hi hs2 hw e=>?_) (λi w y rr hd1 hlt hget hltp hbd hs2 hw hx ag e=>?_)
      . obtain⟨vs1,vb,vc,vG,hh⟩:=w
        obtain⟨hvG,hv2,lhh⟩:=hw
        dsimp only at hvG hv2 lhh hs2
        have hv3:(aM r.Versions d.At at_ ah).1.map (λno=>j8 r d no at_ ah)=vs1:=by rw[hs2];simp
        refine wfg (Q:=[(b32,O [.slice vb vs1.length vc] 134),(b31,O [I (aM r.Versions d.At at_ ah).2.2] 36),(b30,O [I (aM r.Versions d.At at_ ah).2.1] 3),(b17,O (ao.cells d dr) 54),(b14,O (fN.cells (bF r signed u aV at_ ah).1 vr) 40),(b12,O [.bool ((bF r signed u aV at_ ah).1.State==1),.slice fb (ew (gC r d at_ ah)).length fc,.slice nb n1.length nc,.slice ob o1.length oc,.nilFunc] 79),(b6,O (zD r sP) 30)]) hvG (List.Perm.refl _) hM (λh9 hle9 slv=>?_)
        refine rn ?_
        refine wmz 0 U U nthA hM (λh10 hle10 a31=>?_)
        refine wmz 1 U U nthA hM (λh11 hle11 a32=>?_)
        refine wmz 2 U U nthA hM (λh12 hle12 a30=>?_)
        refine aI (wmf ?_)
        refine rn ?_
        refine wst U U nthA U U U U ?_
        refine rn ?_
        refine dy 2 ty79 U U U ?_
        refine wsW U U U nthA U U U ?_
        refine rn ?_
        have hqq:iN r signed u aV at_ ah d=⟨(bF r signed u aV at_ ah).1.State==1,ew (gC r d at_ ah),n1,o1,λw=>oE w (aM r.Versions d.At at_ ah).2.2 vs1 (aM r.Versions d.At at_ ah).2.1⟩:=by
          unfold iN;rw[hn3,ho3,hv3]
        rw[hqq]
        refine wrH [.agg #[.bool ((bF r signed u aV at_ ah).1.State==1),.slice fb (ew (gC r d at_ ah)).length fc,.slice nb n1.length nc,.slice ob o1.length oc,.func (.func 67) #[] #[Q b31,Q b32,Q b30]],I 0] hF U rdR ?_
        have k11:=hle12
        have k10:=vA hle11 k11
        have k9:=vA hle10 k10
        have k8:=vA (vA lhh hle9) k9
        have k7:=vA hle8 k8
        have k5:=vA (vA hle6 hle7) k7
        have k3:=vA (vA hle4 hle5) k5
        refine⟨fb,fc,nb,nc,ob,oc,_,U,U,slm slf k3,slm sln k5,slm slo k7,λ_=>⟨⟨_,_,_,U⟩,λh' w wb wc hle' hw hlw=>?_⟩⟩
        exact iA call67 (EJ h' w wb wc (aM r.Versions d.At at_ ah).2.2 ⟨b31,0,none⟩ vs1 vb vc ⟨b32,0,none⟩ (aM r.Versions d.At at_ ah).2.1 ⟨b30,0,none⟩ hw ((a31.mono k10).mono hle') (slm slv (vA k9 hle')) ((a32.mono k11).mono hle') (a30.mono hle') (by omega) hlw)
      . obtain⟨vs1,vb,vc,vG,hh⟩:=w
        obtain⟨hvG,hv2,lhh⟩:=hw
        dsimp only at hvG hv2 lhh hs2
        have hym:=ovin y (II hd1)
        have l0h:=vA l08 lhh
        refine wtt U (wcT U hlt ?_)
        refine rn ?_
        refine wix U U U U (slm slj lhh) U (nthZ hget) (gI hget) (λq cs hA hl hr0=>?_)
        have hr0:=(hr0:cs=_)
        subst hr0
        refine wlh0 U U hA ?_
        refine rn ?_
        refine eY ([(b17,O (ao.cells d dr) 54),(b6,O (zD r sP) 30)]) mixed kr jn (λgK _=>?_)
        refine tf 1 U U (λ_ _ hj=>lO ty30 U (hj.nth (i:=1) U) U) ?_
        refine tf 2 U U (λ_ _ hj=>lO ty54 U (hj.nth (i:=0) U) U) ?_
        refine qA [3,4,5] U ?_
        refine nk 0 6 kr U U ?_ ?_
        . refine eG (vX (off:=0) ty134 rfl (qS _ (vB ..)) rfl) ⟨jn,?_⟩
          refine tn 6 U (cx call66 (xz hh r sP d dr y at_ ah (hr.mono l0h) (hd.mono (vA l18 lhh)) hsm (hk.mono l0h) overs hym.1 hym.2.1 hym.2.2) U (λv h8' hle8 hfn=>?_))
          obtain⟨fn0,fi0,ca0,rfl⟩:=hfn.1
          refine⟨jl hle8,tu hle8 ?_⟩
          exact Sy
        . refine cx call66 (xz hh r sP d dr y at_ ah (hr.mono l0h) (hd.mono (vA l18 lhh)) hsm (hk.mono l0h) overs hym.1 hym.2.1 hym.2.2) rfl (λv h8' hle8 hfn=>?_)
          obtain⟨fn0,fi0,ca0,rfl⟩:=hfn.1
          refine⟨jl hle8,tu hle8 ?_⟩
          refine nk 0 7 kr U U ?_ ?_
          . refine eG (vX (off:=0) ty134 rfl (qS _ (vB ..)) rfl) ⟨jn,?_⟩
            exact Sy
          . refine bN (cells:=[.func fn0 fi0 ca0]) underlying134 ty77 zc77 rfl rfl kr (λb3=>?_)
            refine⟨jn,?_⟩
            refine tn 0 U (eG (vX (off:=0) ty134 U (xC _ (qS _ (vB ..))) U) ⟨jn,?_⟩)
            exact Sz
    . obtain⟨o1,ob,oc,oG⟩:=w
      obtain⟨hoG,ho2⟩:=hw
      dsimp only at hoG ho2 hs2
      refine wtt U (wcT U hlt ?_)
      refine rn ?_
      refine wix U U U U sls U (nthZ hget) (gI hget) (λq cs hA hl hr0=>?_)
      have hr0:=(hr0:cs=_)
      subst hr0
      refine wlhs U U hA U ?_
      refine aI (wal U (λb25=>?_))
      refine wsW U U U nthA U U U ?_
      refine rn ?_
      refine dy 0 ty73 U U U ?_
      refine aI (bN (cells:=xM y) Dd ty73 zc73 U U kr (λb3=>cz 0 U hM (λh7 hle7 f3=>?_)))
      have hys:SlC zR h7 (zAD b3) 1 [y]:=slL f3 lf (cE y rfl rfl) (by simp) (by simp)
      have l07:=vA l06 hle7
      refine rn ?_
      refine wld U U nthA U ?_
      refine rn ?_
      refine wld U U nthA U ?_
      refine rn ?_
      refine aS call28 (tE h7 [y] _ _ u _ _ d.Kind d.Value at_ ah hys (slm hu l07) (by simp)) U ?_
      refine rn ?_
      cases hc:(bM [y] u d.Kind d.Value at_ ah).2.1 with
      |true=>
        refine wcF U U ?_
        refine rn ?_
        exact wsb (ag (o1,ob,oc,oG) (by rw[hs2,jX,hc];rfl) ⟨hoG,XH ho2⟩ ⟨U,U,U,U,U,U,U,U,U,U,U,nH (by omega),trivial⟩) (List.Sublist.cons _ (List.Sublist.refl _)) hle7 hX l06
      |false=>
        refine wcT U U ?_
        refine rn ?_
        refine wld U U nthA U ?_
        refine rn ?_
        refine wld U U nthA U ?_
        refine aI (bN (cells:=[I y.No]) eP ty3 zc3 U U kr (λb4=>cz 0 U hM (λh8 hle8 f4=>?_)))
        have hyn:SlC jB h8 (zAD b4) 1 [y.No]:=slL f4 lf (cE y.No rfl rfl) (by simp) (by simp)
        refine wap (Q:=[(b25,O (xM y) 73),(b17,O (ao.cells d dr) 54),(b14,O (fN.cells (bF r signed u aV at_ ah).1 vr) 40),(b12,O [.bool ((bF r signed u aV at_ ah).1.State==1),.slice fb (ew (gC r d at_ ah)).length fc,.slice nb n1.length nc,.slice ob o1.length oc,.nilFunc] 79),(b6,O (zD r sP) 30)]) U U (grm (grm hoG hle7) hle8) U (List.Perm.refl _) U hyn U U U U (by simp only[zA,zB];omega) (by simp only[zA,zB];omega) (λbs cp G2 hG2=>?_)
        refine rn ?_
        refine wst U U nthA U U U U ?_
        refine rn ?_
        exact wsb (ag (o1++[y.No],bs,cp,G2) (by rw[hs2,jX,hc];rfl) ⟨hG2.flat (λ_ _ _ _ a=>a),by simp;omega⟩ ⟨U,U,U,U,U,U,U,U,U,U,U,nH (by omega),trivial⟩) (List.Sublist.cons _ (List.Sublist.refl _)) (vA hle7 hle8) hX l06
  . obtain⟨n1,nb,nc,nG⟩:=w
    obtain⟨hnG,hn2⟩:=hw
    dsimp only at hnG hn2 hs2
    refine wtt U (wcT U hlt ?_)
    refine rn ?_
    refine wix U U U U (slm hd.fp l14) U (nthZ hget) (gI hget) (λq cs hA hl hr0=>?_)
    have hr0:=(hr0:cs=_)
    subst hr0
    refine wlh0 U U hA ?_
    refine rn ?_
    refine aS call63 (nU h4 (bD r.cd signed at_).1 _ _ y slg) U ?_
    refine rn ?_
    cases hc:gH (bD r.cd signed at_).1 y with
    |true=>
      refine wcF U U ?_
      refine rn ?_
      exact ag (n1,nb,nc,nG) (by rw[hs2,je,hc];rfl) ⟨hnG,XH hn2⟩ ⟨U,U,U,U,U,U,U,U,U,U,U,U,nH (by omega),trivial⟩
    |false=>
      refine wcT U U ?_
      refine rn ?_
      refine wld U U nthA U ?_
      refine rn ?_
      refine aI (bN (cells:=[I y]) eP ty3 zc3 U U kr (λb3=>cz 0 U hM (λh5 hle5 f3=>?_)))
      have hys:SlC jB h5 (zAD b3) 1 [y]:=slL f3 lf (cE y rfl rfl) (by simp) (by simp)
      refine wap (Q:=[(b17,O (ao.cells d dr) 54),(b14,O (fN.cells (bF r signed u aV at_ ah).1 vr) 40),(b12,O [.bool ((bF r signed u aV at_ ah).1.State==1),.slice fb (ew (gC r d at_ ah)).length fc,.slice nb n1.length nc,zSN,.nilFunc] 79),(b6,O (zD r sP) 30)]) U U (grm hnG hle5) U (List.Perm.refl _) U hys U U U U (by simp only[zA,zB];omega) (by simp only[zA,zB];omega) (λbs cp G2 hG2=>?_)
      refine rn ?_
      refine wst U U nthA U U U U ?_
      refine rn ?_
      exact wsb (ag (n1++[y],bs,cp,G2) (by rw[hs2,je,hc];rfl) ⟨hG2.flat (λ_ _ _ _ a=>a),by simp;omega⟩ ⟨U,U,U,U,U,U,U,U,U,U,U,U,nH (by omega),trivial⟩) (List.Sublist.refl _) hle5 hX l04
theorem ng(h kind l fo fm)(hl:SlC jB h fo fm l)(hsz0:l.length<=2000000):j6 prog 21 [I kind,.slice fo l.length fm] h (λv h'=>∃(rb0:Option Addr)(rc0:Nat),v=.slice rb0 (bu kind l).length rc0/\SlC jJ h' rb0 rc0 (bu kind l)):=by
 refine sT func21 U ntmps21 U λX hM hX hF=>?_
 have hs0:=@rfl _ (bu kind l)
 refine qK 11 [] U ?_
 refine lp2 l (λi w=>[(0,I kind),(4,.slice w.2.1 w.1.length w.2.2.1),(7,.slice fo l.length fm),(8,I (l.length:Int)),(9,I (i:Int))]) (λ_=>h) (λw=>w.2.2.2) (λi w=>cN jJ 45 h w.1 w.2.1 w.2.2.1 w.2.2.2/\w.1.length<=0+i) (λs1 i w=>(bu.L1 kind (bu.K1)) s1 w.1) ([],none,0,[]) hl.1.1 hs0 ⟨cN.nil,lo⟩ ?_ ?_
 .rintro i1 ⟨BT,Qb,Qa,UI⟩ iP hs1 ⟨NJ,ST⟩ e
  try dsimp only at NJ ST
  refine qT 5 U (fQ Lack.aD ([]) UI ([]) ap hM NJ (λh2 hle2 sl2=>?_))
  have hs2:bu kind l=BT:=hs1
  exact nretH [.slice Qb BT.length Qa] ⟨Qb,Qa,congrArg (λr:List Lack=>(.slice Qb r.length Qa:Value)) hs2.symm,(by rw[hs2];exact sl2)⟩
 rintro i1 ⟨BT,Qb,Qa,UI⟩ y1 rz1 hd1 fY dz iT mF hs3 ⟨NJ,ST⟩ hx1 ag1 e
 try dsimp only at NJ ST
 exact sr (tO fY U (qO 8 U (aI (iF (λy=>[I y]) eP ty3 hl.1 dz U U U (λq2 A2=>eJ ty3 A2 U (qO 6 U (aI (ie (cells:=[I kind,I y1]) (places:=[(0,1),(1,1)]) RM zc45 kr kr (aI (bN (cells:=[I kind,I y1]) nR ty45 zc45 U U kr (λb2=>aI (eB Lack.dg ([(b2,O [I kind,I y1] 45)]) ([]) (λG=>[(b2,O [I kind,I y1] 45)]++G) ap (λ_=>ap) nR ty45 zc45 U bytes45 NJ U U (ic 0 U (cE (vT kind y1) U U)) lo lo (λob2 oc2 G2 gr2=>qO 4 U (oi i1 U (qO 2 U (cu (L':=G2) js (ag1 ((BT++[(vT kind y1)]),ob2,oc2,G2) hs3 ⟨gr2,lo⟩)))))))))))))))))
theorem w7(h m):Ret prog 140 [.int .u64 m] h (I (pop64 m)):=by
 refine sT func140 U ntmps140 U λX hM hX hF=>?_
 generalize hz:pop64 m=z;have hs:=hz.symm
 exact W
instance kC140:Ct 140:=⟨_,call140,@w7⟩
theorem yB(h m):Ret prog 70 [.int .u64 m] h (I (pop64 m)):=by
 refine sT func70 U ntmps70 U λX hM hX hF=>?_
 generalize hz:pop64 m=z;have hs:=hz.symm
 exact W
theorem DG(h p U5 U4 n_q p_q)(hp:SlC jB h U5 U4 p)(an_:At h n_q [I (p.length:Int)])(ap_:At h p_q [.slice U5 p.length U4])(hsz:p.length<=12):
   Itr prog (.func (.func 69) #[] (xB [.pointer (some n_q),.pointer (some p_q)])) Nu (iB p) h:=by
 refine sj call69 ?_
 intro yf ya yb C Sp Pn h1 A de m1 m2 m3 hC hy
 refine j1 Rr U ntmps69 U λX hXM hX=>?_
 have h12:=Sm hsz
 have hs0:iB p=[]++upF (λsize=>downF (setsM p size) (2 ^ p.length)) 0 (p.length+1):=rfl
 generalize iB p=z at *
 have hNN:((2:Int) ^ p.length)=((2 ^ p.length:Nat):Int):=by simp
 generalize 2 ^ p.length=N at *
 refine wto U (wlh0 U U (atm an_ de) ?_)
 refine wot U ?_
 have hn1:IntKind.i64.wrap ((p.length:Int)+1)=((p.length+1:Nat):Int):=wrap64 (by omega)
 refine gB (ι:=Nat×List (List Int)×LH×HF) (λi=>[]) (λi=>i.2.2.2) (λi=>i.2.2.1) (λi=>i.1<=p.length+1/\z=i.2.1++[]/\C i.2.1 i.2.2.2 i.2.2.1/\xJ h1 i.2.2.2) ?_ (λhx1=>?_)
 . rintro⟨i1,dn1,A1_,hh1⟩ ⟨iP,hs1,hC1_,hl1⟩ e
   refine dR ?_
   have hs2:z=dn1:=hs1.trans (List.append_nil _)
   exact sk [] (A:=A1_) Rr U (List.Sublist.refl _) (.inl (hs2▸hC1_))
 refine ju (ι:=Nat×List (List Int)×LH×HF) (λi=>[(0,.func yf ya yb),(1,.pointer (some n_q)),(2,.pointer (some p_q)),(10,I ((p.length+1:Nat):Int)),(11,I (i.1:Int))]) (λi=>i.2.2.2) (λi=>i.2.2.1) (λi=>i.1<=p.length+1/\z=i.2.1++upF (λsize=>downF (setsM p size) N) i.1 (p.length+1-i.1)/\C i.2.1 i.2.2.2 i.2.2.1/\xJ h1 i.2.2.2) (λi=>p.length+1-i.1) (0,[],A,h1) ⟨U,U,U,congrArg I hn1,U,trivial⟩ sws ⟨zH _,hs0,hC,kH h1⟩ ?_
 rintro⟨i1,dn1,A1_,hh1⟩ ⟨iP,hs1,hC1_,hl1⟩ ag1 e
 dsimp only at iP hs1 hC1_ hl1
 rcases kM i1 (p.length+1)with fY|ml
 case inr=>
  have:p.length+1-i1=0:=by omega
  rw[this]at hs1
  refine wtt U (wcF U (decide_eq_false (by omega)) ?_)
  exact kW U (hx1 (i1,dn1,A1_,hh1) _ ⟨iP,hs1,hC1_,hl1⟩ trivial)
 obtain⟨c1,hc1⟩:∃c,p.length+1-i1=c+1:=⟨p.length-i1,by omega⟩
 rw[hc1]at hs1
 have hc1':p.length+1-(i1+1)=c1:=by omega
 refine wtt U (wcT U (decide_eq_true (by omega)) ?_)
 refine wto U (wlh0 U U (atm an_ (vA de hl1)) ?_)
 refine wshl U U (by omega) ?_
 have hp2:IntKind.i64.wrap (1*2 ^ min ((p.length:Int)).toNat IntKind.i64.bits)=(N:Int):=by
  have h64:min ((p.length:Int)).toNat IntKind.i64.bits=p.length:=by simp[IntKind.bits];omega
  rw[h64,Int.one_mul,hNN];exact wrap64 (by omega)
 have hm0:IntKind.i64.wrap (IntKind.i64.wrap (1*2 ^ min ((p.length:Int)).toNat IntKind.i64.bits)-1)=(N:Int)-1:=by rw[hp2];exact wrap64 (by omega)
 refine wot U ?_
 refine gB (ι:=List (List Int)×LH×HF) (λi=>[(0,.func yf ya yb),(1,.pointer (some n_q)),(2,.pointer (some p_q)),(10,I ((p.length+1:Nat):Int)),(11,I (i1:Int))]) (λi=>i.2.2) (λi=>i.2.1) (λi=>z=i.1++upF (λsize=>downF (setsM p size) N) (i1+1) c1/\C i.1 i.2.2 i.2.1/\xJ h1 i.2.2) ?_ (λhx2=>?_)
 . rintro⟨dn2,A2_,hh2⟩ ⟨hs2,hC2_,hl2⟩ e
   dsimp only at hs2 hC2_ hl2
   refine wtt U ?_
   exact ag1 (i1+1,dn2,A2_,hh2) _ (by show p.length+1-(i1+1)<p.length+1-i1;omega) ⟨fY,by show z=dn2++upF _ (i1+1) (p.length+1-(i1+1));rw[hc1'];exact hs2,hC2_,hl2⟩ ⟨U,U,U,U,nH (by omega),trivial⟩
 refine ju (ι:=Nat×List (List Int)×LH×HF) (λi=>[(0,.func yf ya yb),(1,.pointer (some n_q)),(2,.pointer (some p_q)),(4,I (i1:Int)),(5,I ((i.1:Int)-1)),(10,I ((p.length+1:Nat):Int)),(11,I (i1:Int))]) (λi=>i.2.2.2) (λi=>i.2.2.1) (λi=>i.1<=N/\z=i.2.1++(downF (setsM p i1) i.1++upF (λsize=>downF (setsM p size) N) (i1+1) c1)/\C i.2.1 i.2.2.2 i.2.2.1/\xJ h1 i.2.2.2) (λi=>i.1) (N,dn1,A1_,hh1) ⟨U,U,U,U,congrArg I hm0,U,U,trivial⟩ sws ⟨kE _,hs1,hC1_,hl1⟩ ?_
 rintro⟨j2,dn2,A2_,hh2⟩ ⟨hj2,hs2,hC2_,hl2⟩ ag2 e
 dsimp only at hj2 hs2 hC2_ hl2
 rcases j2 with _|m
 . refine wtt rfl (wcF rfl (decide_eq_false (by show ¬(0:Int)<=((0:Nat):Int)-1;omega)) ?_)
   exact kW U (hx2 (dn2,A2_,hh2) _ ⟨hs2,hC2_,hl2⟩ ⟨U,U,U,U,U,trivial⟩)
 dsimp only
 have e5:((m+1:Nat):Int)-1=(m:Int):=by omega
 rw[e5]
 have hnx:∀dn A' hh e',z=dn++(downF (setsM p i1) m++upF (λsize=>downF (setsM p size) N) (i1+1) c1)->C dn hh A'->xJ h1 hh->iD e' [(0,.func yf ya yb),(1,.pointer (some n_q)),(2,.pointer (some p_q)),(4,I (i1:Int)),(5,I (IntKind.i64.wrap ((m:Int)-1))),(10,I ((p.length+1:Nat):Int)),(11,I (i1:Int))]->_:=
   λdn A' hh e' a1 a2 a3 a4=>ag2 (m,dn,A',hh) e' (Nat.lt_succ_self m) ⟨by omega,a1,a2,a3⟩ (by rw[wrap64 (z:=(m:Int)-1) (by omega)]at a4;exact a4)
 refine wtt U (wcT U (decide_eq_true (by omega)) ?_)
 refine wto U (wcv U U U ?_)
 have hU:kB .u64 (m:Int)=m:=wrapU (by omega)
 rw[hU]
 refine aS call70 (yB hh2 (m:Int)) U ?_
 refine wot U ?_
 cases hb:(pop64 (m:Int)==(i1:Int))with
 |false=>
  refine wcT U (by rw[bne,hb];rfl) ?_
  refine wtt U ?_
  exact hnx dn2 A2_ hh2 _ (by simpa[downF,setsM,hb]using hs2) hC2_ hl2 ⟨U,U,U,U,U,U,U,trivial⟩
 |true=>
  have hs3:z=dn2++(setOf p (m:Int)::(downF (setsM p i1) m++upF (λsize=>downF (setsM p size) N) (i1+1) c1)):=by simpa[downF,setsM,hb]using hs2
  refine wcF U (by rw[bne,hb];rfl) ?_
  refine wto U (aI (Ol hXM eP ty3 (λbk hbk=>?_)))
  refine woo U (wlh0 U U (atm ap_ (vA de hl2)) ?_)
  refine wot U ?_
  have hps:SlC jB hh2 U5 U4 p:=slm hp (vA de hl2)
  refine lp2 p (λq(w:List Int×Option Addr×Nat×LH)=>[(0,.func yf ya yb),(1,.pointer (some n_q)),(2,.pointer (some p_q)),(4,I (i1:Int)),(5,I (m:Int)),(6,.slice w.2.1 w.1.length w.2.2.1),(10,I ((p.length+1:Nat):Int)),(11,I (i1:Int)),(27,.slice U5 p.length U4),(28,I (p.length:Int)),(29,I (q:Int))]) (λ_=>hh2) (λw=>w.2.2.2++A2_) (λq w=>cN jB 3 hh2 w.1 w.2.1 w.2.2.1 w.2.2.2/\Nw X w.2.2.2/\w.1.length<=q) (λs q w=>setOf.L p.length (m:Int) s q w.1) ([],zAD bk,0,[(bk,.cells [].toArray 3 (0,0))]) (by omega) (U:setOf p (m:Int)=_) ⟨cN.lit cNi U,λp hp=>by rw[jC.1 hp];exact hbk,kE _⟩ (λq w hi hs hw e=>?_) (λq w y r hd hlt hget hltp hbd hs hw hx ag e=>?_)
  . obtain⟨w1,wb,wc,wG⟩:=w
    obtain⟨hG,hN,hw3⟩:=hw
    dsimp only at hG hN hw3 hs
    have hs4:setOf p (m:Int)=w1:=hs
    rw[hs4]at hs3
    refine wto U ?_
    refine Mt vH (List.Perm.refl _) hN hG (λh3 hle3 hsl=>?_)
    refine aI (mq ([]) A2_ ap (hy dn2 w1 _ _ _ _ hs3 (vA hl2 hle3) (m1 _ _ _ _ hle3 hC2_) ⟨_,_,U,hsl⟩) U U (λh4 A1 hle4 hC4=>?_) (λh4 A2 hle4 hS4=>?_) (λch1 h5 A3 hle5 hP1 e=>iY (oJ [] (A:=A3) Rr (List.sublist_append_right _ _) hP1)))
    . refine wot rfl (wcF rfl rfl ?_)
      refine wtt U ?_
      exact hnx (dn2++[w1]) A1 h4 _ (hs3.trans (by simp)) hC4 (vA (vA hl2 hle3) hle4) ⟨U,U,U,U,U,U,U,trivial⟩
    . refine wot rfl (wcT rfl rfl ?_)
      exact dR (n8 [] (A:=A2) Rr U (List.Sublist.refl _) (.inr hS4))
  . obtain⟨w1,wb,wc,wG⟩:=w
    obtain⟨hG,hN,hw3⟩:=hw
    dsimp only at hG hN hw3 hs
    refine wtt U (wcT U hlt ?_)
    refine wto U (wix U U U U hps U (nthZ hget) (gI hget) (λq1 cs hA hl' hr=>?_))
    have hr:=(hr:cs=_)
    subst hr
    refine wlh0 U U hA ?_
    refine woo U (wlh0 U U (atm an_ (vA de hl2)) ?_)
    refine woo U ?_
    have hk:IntKind.i64.wrap (IntKind.i64.wrap ((p.length:Int)-1)-(q:Int))=(p.length:Int)-1-(q:Int):=by rw[wrap64 (z:=(p.length:Int)-1) (by omega)];exact wrap64 (by omega)
    refine wshr U U (by rw[hk];omega) (wband U U ?_)
    refine wot U ?_
    have hst:setOf p (m:Int)=setOf.L p.length (m:Int) r (q+1) (bif bitAt (m:Int) ((p.length:Int)-1-(q:Int))then w1++[y]else w1):=hs
    rw[←hk]at hst
    cases hbit:bitAt (m:Int) (IntKind.i64.wrap (IntKind.i64.wrap ((p.length:Int)-1)-(q:Int)))with
    |false=>
      rw[hbit]at hst
      refine wcF U hbit ?_
      refine wtt U ?_
      exact ag (w1,wb,wc,wG) hst ⟨hG,hN,XH hw3⟩ ⟨U,U,U,U,U,U,U,U,U,U,nH (by omega),trivial⟩
    |true=>
      rw[hbit]at hst
      refine wcT U hbit ?_
      refine wto U (aI (Ey (cells:=[I y]) hXM eP ty3 zc3 U U kr (λb3 hb3=>Cv 0 U hb3 (λh3 hle3 f3=>?_))))
      have hys:SlC jB h3 (zAD b3) 1 [y]:=slL f3 lf (cE y rfl rfl) (by simp) (by simp)
      refine Og Rp.jZ hXM hN (List.Perm.refl _) eP ty3 zc3 U bytes3 (hG.mono vH hle3) U U (km hys.1) (by simp only[zA,zB];omega) (by simp only[zA,zB];omega) (λbs cp G hG2 hN2=>?_)
      refine wot U ?_
      exact wsb (ag (w1++[y],bs,cp,G) hst ⟨hG2.flat (λ_ _ _ _ a=>a),hN2,by simp;omega⟩ ⟨U,U,U,U,U,U,U,U,U,U,nH (by omega),trivial⟩) (List.Sublist.refl _) hle3 hX hl2
instance kI69:CtI 69:=⟨_,@DG⟩
theorem F5(h p U5 U4)(hp:SlC jB h U5 U4 p)(hsz:p.length<=12):j6 prog 22 [.slice U5 p.length U4] h (λv h'=>∃(rv0:Value),v=rv0/\Itr prog rv0 Nu (iB p) h'):=by
 refine sT func22 U ntmps22 U λX hM hX hF=>?_
 generalize hz:iB p=z;have hs:=hz.symm
 exact W
theorem wv(f:List Int):∀(l g:List Int),(je f l g).length<=g.length+l.length
  |[],g=>by simp[je]
  |y::s,g=>by
    have h1:=wv f s (bif !(gH f y)then g++[y]else g)
    simp only[je]
    cases hc:(!gH f y)<;>rw[hc]at h1<;>simp at h1 ⊢<;>omega
theorem xy(u:List Use)(d:ao)(a b):∀(l:List Budget)(g:List Int),(jX u d a b l g).length<=g.length+l.length
  |[],g=>by simp[jX]
  |y::s,g=>by
    have h1:=xy u d a b s (bif !((bM [y] u d.Kind d.Value a b).2.1)then g++[y.No]else g)
    simp only[jX]
    cases hc:(!((bM [y] u d.Kind d.Value a b).2.1))<;>rw[hc]at h1<;>simp at h1 ⊢<;>omega
theorem Uv{r:Register}{aV at_ ah:Int}(hok:(bF r signed u aV at_ ah).2=0->vU r aV at_ ah):(io r signed u aV at_ ah).1.needs.length<=1000000/\(io r signed u aV at_ ah).1.over.length<=1000000:=by
  unfold io
  cases hj:((bF r signed u aV at_ ah).2 != 0)with
  |true=>simp
  |false=>
    have ok:=hok (by simpa using hj)
    have h1:=wv (bD r.cd signed at_).1 (fq r aV).fp []
    have h2:=xy u (fq r aV) at_ ah (ep r.dH (fq r aV).Kind at_ ah).1 []
    have h3:=ok.nlen;have h4:=ok.slen
    simp only[cond_false,iN,zB]at h1 h2 ⊢
    omega
theorem EL(k)(l:List Int):(bu k l).length=l.length:=by
  have h:∀(l:List Int)(g:List Lack),(bu.L1 k bu.K1 l g).length=g.length+l.length:=by
    intro l
    induction l with
    |nil=>intro g;simp[bu.L1,bu.K1]
    |cons y s ih=>intro g;simp only[bu.L1];rw[ih];simp;omega
  have:=h l []
  simpa[bu]using this
theorem Sw(h:p:=by
  refine tn 3 U (lM 1 ty36 U U U U U U ⟨jn,bO kr ?_⟩)
  exact wrH [zSN,.bool false,I e] hF U rdR ⟨none,0,U,SlC.nil⟩):p:=h
theorem nZ(h r sP signed pS pK u ql qj)(aV at_ ah:Int)(hr:zL h r sP)(hsi:SlC jB h pS pK signed)(hu:SlC XC h ql qj u)(hsm:smR r)(hln:r.cd.length<20)(hk:dN h)(hok:(bF r signed u aV at_ ah).2=0->vU r aV at_ ah):
   j6 prog 8 [.agg (zD r sP).toArray,.slice pS signed.length pK,.slice ql u.length qj,I aV,I at_,I ah] h (λv h'=>∃(lb:Option Addr)(lc:Nat),v=.tuple #[.slice lb ((aY r signed u aV at_ ah).1).length lc,.bool ((aY r signed u aV at_ ah).2.1),I ((aY r signed u aV at_ ah).2.2)]/\SlC jJ h' lb lc ((aY r signed u aV at_ ah).1)):=by
 change j6 prog 8 _ h (λv h'=>MOk h' v (aY r signed u aV at_ ah))
 refine sT func8 U ntmps8 U λX hM hX hF=>?_
 obtain⟨hl1,hl2⟩:=Uv hok
 have hcall:=AH h r sP signed pS pK u ql qj aV at_ ah hr hsi hu hsm hln hk hok
 unfold aY
 generalize io r signed u aV at_ ah=qe at *
 obtain⟨q,e⟩:=qe
 dsimp only at hl1 hl2 hcall ⊢
 refine wto U (eO (λb6=>?_))
 refine aI (wal U (λb12=>?_))
 refine aI (wal U (λb13=>?_))
 refine aI (wal U (λb14=>?_))
 refine rn ?_
 refine dy 3 ty30 U U U ?_
 refine rn ?_
 refine aI (cx call20 hcall U (λv h1 hle1 hp1=>?_))
 obtain⟨fb,fc,nb,nc,ob,oc,dv,rfl,h1dv,slf,sln,slo,hdec⟩:=hp1
 refine rn ?_
 refine aI (wal U (λb15=>?_))
 refine wsW U U U nthA U U (by simp only[List.all_cons,List.all_nil,h1dv];rfl) ?_
 refine wst U U nthA U U U U ?_
 refine rn ?_
 refine wld U U nthA U ?_
 refine rn ?_
 cases he:(e != 0)with
 |true=>
  have hM_:lW aV q e=([],false,e):=by unfold lW;rw[he];rfl
  rw[hM_]
  refine wcT U U ?_
  refine rn ?_
  refine eY ([]) mixed kr jn (λgK _=>?_)
  refine nk 0 1 kr U U ?_ ?_
  . refine eG (vX (off:=0) (cl:=[I e]) ty36 rfl (nthMem (i:=1) rfl) rfl) ⟨jn,?_⟩
    refine tn 1 U (lM 3 ty35 U U U U U U ⟨jn,?_⟩)
    refine tn 2 U (lM 2 ty4 U U U U U U ⟨jn,?_⟩)
    exact Sw
  . refine lM 3 ty35 rfl rfl rfl rfl rfl rfl ⟨jn,?_⟩
    refine nk 0 2 kr U U ?_ ?_
    . refine eG (vX (off:=0) (cl:=[I e]) ty36 rfl (nthMem (i:=1) rfl) rfl) ⟨jn,?_⟩
      refine tn 2 U (lM 2 ty4 U U U U U U ⟨jn,?_⟩)
      exact Sw
    . refine lM 2 ty4 rfl rfl rfl rfl rfl rfl ⟨jn,?_⟩
      refine tn 0 U (eG (vX (off:=0) (cl:=[I e]) ty36 U (nthMem (i:=1) U) U) ⟨jn,?_⟩)
      exact Sw
 |false=>
  have e0:e=0:=by simpa using he
  refine wcF U U ?_
  refine rn ?_
  refine wld U U nthA U ?_
  refine rn ?_
  cases hf:decide (12<(q.free.length:Int))with
  |true=>
   have hM_:lW aV q e=([],false,2):=by unfold lW;rw[he,hf];rfl
   rw[hM_]
   refine wcT U U ?_
   refine rn ?_
   refine wst U U nthA U U U U ?_
   refine wst U U nthA U U U U ?_
   refine wst U U nthA U U U U ?_
   refine rn ?_
   exact wrH [zSN,.bool false,I 2] hF U rdR ⟨none,0,U,zG⟩
  |false=>
   have hfl:q.free.length<=12:=by have:=of_decide_eq_false hf;omega
   refine wcF U U ?_
   refine rn ?_
   refine wld U U nthA U ?_
   refine rn ?_
   cases hcl:q.closed with
   |true=>
    have hM_:lW aV q e=(bu 4 [aV],false,0):=by unfold lW;rw[he,hf,hcl];rfl
    rw[hM_]
    refine wcT U U ?_
    refine rn ?_
    refine aI (bN (cells:=[I aV]) eP ty3 zc3 U U kr (λb3=>cz 0 U hM (λh2 hle2 f3=>?_)))
    have hys:SlC jB h2 (zAD b3) 1 [aV]:=slL f3 lf (cE aV rfl rfl) (by simp) (by simp)
    refine aI (cx Rq (ng h2 4 [aV] _ _ hys (by simp)) U (λv h3 hle3 hp3=>?_))
    obtain⟨lb,lc,rfl,sll⟩:=hp3
    refine wst U U nthA U U U U ?_
    refine wst U U nthA U U U U ?_
    refine wst U U nthA U U U U ?_
    refine rn ?_
    exact wrH [.slice lb (bu 4 [aV]).length lc,.bool false,I 0] hF U rdR ⟨lb,lc,U,sll⟩
   |false=>
    refine wcF U U ?_
    refine rn ?_
    refine wld U U nthA U ?_
    refine aI (cx call22 (F5 h1 q.free _ _ slf hfl) U (λv h2 hle2 hp2=>?_))
    obtain⟨_,rfl,hit⟩:=hp2
    refine rn ?_
    have hlen:∀w∈(iB q.free),w.length<=12:=λw hw=>kL (MF hw) hfl
    refine dR (bZ (L':=[(b15,O [.bool false,.slice fb q.free.length fc,.slice nb q.needs.length nc,.slice ob q.over.length oc,dv] 79),(b14,O [I e] 36),(b13,O [.bool false] 4),(b12,O [zSN] 35),(b6,O (zD r sP) 30)]++markB []) ap ?_)
    refine j9 (it:=_) (xs:=(iB q.free)) (ι:=Option (List Int×Option Addr×Nat×LH)×HF) [] (λi=>i.2) (λi=>match i.1 with|none=>[(b15,O [.bool false,.slice fb q.free.length fc,.slice nb q.needs.length nc,.slice ob q.over.length oc,dv] 79),(b14,O [I e] 36),(b13,O [.bool false] 4),(b12,O [zSN] 35),(b6,O (zD r sP) 30)]|some (w,lb,lc,G)=>[(b15,O [.bool false,.slice fb q.free.length fc,.slice nb q.needs.length nc,.slice ob q.over.length oc,dv] 79),(b14,O [I 0] 36),(b13,O [.bool true] 4),(b12,O [.slice lb (eV q w).length lc] 35),(b6,O (zD r sP) 30)]++G) (λs i=>i.1=none/\(iB q.free).find? q.decides=s.find? q.decides/\(∀w∈s,w.length<=12)/\h2.le i.2) (λi=>∃w lb lc G,i.1=some (w,lb,lc,G)/\(iB q.free).find? q.decides=some w/\cN jJ 45 i.2 (eV q w) lb lc G/\h2.le i.2) (λ_=>False) 1 (λ_ _ _=>False) (none,h2) hF rfl hit rfl (λx h vs hv=>by obtain⟨_,_,rfl,_⟩:=hv;rfl) (λ_ _ _ _ _ hq=>hq) rfl rfl ⟨rfl,rfl,hlen,kH _⟩ ?_ ?_ ?_ ?_ ?_
    . rintro l1 dm1 lp1 y rz1 vs1 ⟨_,hh1⟩ hr1 X1 hFR1 ⟨hi0,hs1,hle_,hl1⟩ hl01 hlr1 hv1 hX1 hXM1 hlp1 nx1 rt1 ex1 pn1
      dsimp only at hi0 hs1 hle_ hl1
      subst hi0
      obtain⟨yb,yc,rfl,sly⟩:=hv1
      have hyl:=hle_ y (vB ..)
      have h1r:h1.le hr1:=vA hle2 (vA hl1 hlr1)
      refine bZ (L':=[(l1,.loop lp1),(dm1,.deferred (some []))]++([(b15,O [.bool false,.slice fb q.free.length fc,.slice nb q.needs.length nc,.slice ob q.over.length oc,dv] 79),(b14,O [I e] 36),(b13,O [.bool false] 4),(b12,O [zSN] 35),(b6,O (zD r sP) 30)]++(markB []))) ap ?_
      refine rn ?_
      refine kh 0 U hlp1 ?_
      refine rn ?_
      refine wld U U nthA U ?_
      refine rn ?_
      refine aI (ka (v:=.bool (q.decides y)) [] (List.nil_sublist _) ((hdec e0).2 hr1 y yb yc h1r sly (by omega)) U U ?_)
      refine rn ?_
      cases hD:q.decides y with
      |false=>
        refine wcF U U ?_
        refine rn ?_
        exact nx1 (none,hr1) _ _ ⟨U,by rw[hs1,List.find?_cons,hD],λw hw=>hle_ w (xC _ hw),vA hl1 hlr1⟩ lf
      |true=>
        refine wcT U U ?_
        refine rn ?_
        refine eY ([(b15,O [.bool false,.slice fb q.free.length fc,.slice nb q.needs.length nc,.slice ob q.over.length oc,dv] 79)]) mixed kr jn (λgK _=>?_)
        refine qA [0] U (qB [2] U (tf 3 U U (rj 0 ty31 U U U) ?_))
        refine qB [5] U (tf 6 U U (rj 0 ty31 U U U) ?_)
        refine tn 1 U (cx Rq (ng hr1 1 y _ _ sly (by omega)) U (λv g1 k1 p1=>?_))
        obtain⟨ab,ac,rfl,sa⟩:=p1
        refine⟨jl k1,tu k1 ?_⟩
        refine tn 4 U (cx Rq (ng g1 2 q.needs _ _ (slm sln (vA h1r k1)) (by omega)) U (λv g2 k2 p2=>?_))
        obtain⟨bb,bc,rfl,sb⟩:=p2
        refine⟨jl k2,tu k2 ?_⟩
        refine tn 7 U (cx Rq (ng g2 3 q.over _ _ (slm slo (vA (vA h1r k1) k2)) (by omega)) U (λv g3 k3 p3=>?_))
        obtain⟨cb,cc,rfl,sc⟩:=p3
        refine⟨jl k3,tu k3 ?_⟩
        refine tn 8 U (Ey (cells:=[.slice ab (bu 1 y).length ac,.slice bb (bu 2 q.needs).length bc,.slice cb (bu 3 q.over).length cc]) hXM1 underlying140 ty35 zc35 U U kr (λb3 hb3=>?_))
        refine⟨jn,?_⟩
        refine tn 9 U (QI 0 U hb3 (λg4 k4 f4=>?_))
        have hcat:SlC (W9 jJ) g4 (zAD b3) 3 [bu 1 y,bu 2 q.needs,bu 3 q.over]:=slL f4 lf
          (cCo (R:=W9 jJ) (cs:=[.slice ab (bu 1 y).length ac]) (show(W9 jJ).rep g4 _ _ from⟨_,_,rfl,slm sa (vA (vA k2 k3) k4)⟩) rfl
          (cCo (R:=W9 jJ) (cs:=[.slice bb (bu 2 q.needs).length bc]) (show(W9 jJ).rep g4 _ _ from⟨_,_,rfl,slm sb (vA k3 k4)⟩) rfl
          (cCo (R:=W9 jJ) (cs:=[.slice cb (bu 3 q.over).length cc]) (show(W9 jJ).rep g4 _ _ from⟨_,_,rfl,slm sc k4⟩) rfl cNi))) (by simp) (by simp)
        refine Dr call23 (zk g4 _ _ 3 hcat (by simp) ?_) U (λb2 c2 G hG=>?_)
        . intro z hz
          simp only[kD,kA,or_false]at hz
          have hk1:=EL 1 y;have hk2:=EL 2 q.needs;have hk3:=EL 3 q.over
          rcases hz with rfl|rfl|rfl<;>omega
        have hfl_:[bu 1 y,bu 2 q.needs,bu 3 q.over].flatten=eV q y:=by simp[eV]
        rw[hfl_]at hG ⊢
        refine⟨jl k4,tu k4 ?_⟩
        refine tn 10 U (lM 5 ty35 U U U U U U ⟨jn,?_⟩)
        refine tn 11 U (lM 4 ty4 U U U U U U ⟨jn,?_⟩)
        refine tn 12 U (lM 3 ty36 U U U U U U ⟨jn,bO kr ?_⟩)
        have kk:=vA (vA (vA k1 k2) k3) k4
        have hfd:(iB q.free).find? q.decides=some y:=by rw[hs1,List.find?_cons,hD]
        refine bZ (L':=rdH l1 dm1 lp1 (([(b15,O [.bool false,.slice fb q.free.length fc,.slice nb q.needs.length nc,.slice ob q.over.length oc,dv] 79),(b14,O [I 0] 36),(b13,O [.bool true] 4),(b12,O [.slice b2 (eV q y).length c2] 35),(b6,O (zD r sP) 30)]++G)++markB [])) (by simp[markB];rfl) ?_
        exact rt1 (some (y,b2,c2,G),g4) _ _ _ ⟨y,b2,c2,G,U,hfd,hG,vA (vA hl1 hlr1) kk⟩ lf
    . rintro dm1 ⟨_,hh1⟩ hn1 ⟨hi0,hs1,hle_,hl1⟩ hln1 hl01
      dsimp only at hi0 hs1 hl1
      subst hi0
      have hM_:lW aV q e=([],false,0):=by unfold lW;rw[he,hf,hcl,hs1];rfl
      rw[hM_]
      refine bZ (L':=[(b15,O [.bool false,.slice fb q.free.length fc,.slice nb q.needs.length nc,.slice ob q.over.length oc,dv] 79),(b14,O [I e] 36),(b13,O [.bool false] 4),(b12,O [zSN] 35),(b6,O (zD r sP) 30)]++markB (dm1::[])) ap ?_
      refine rn ?_
      refine wst U U nthA U U U U ?_
      refine wst U U nthA U U U U ?_
      refine wst U U nthA U U U U ?_
      refine rn ?_
      refine bZ (L':=[(b15,O [.bool false,.slice fb q.free.length fc,.slice nb q.needs.length nc,.slice ob q.over.length oc,dv] 79),(b14,O [I 0] 36),(b13,O [.bool false] 4),(b12,O [zSN] 35),(b6,O (zD r sP) 30)]++markB (dm1::[])) U ?_
      exact oq (dm1::[]) [zSN,.bool false,I 0] hF U rdR ⟨none,0,U,zG⟩
    . rintro dm1 ⟨_,hh1⟩ hn1 ⟨w,lb,lc,G,hi0,hs1,hG,hl1⟩ hln1 hl01
      dsimp only at hi0 hs1 hG hl1
      subst hi0
      have hM_:lW aV q e=(eV q w,true,0):=by unfold lW;rw[he,hf,hcl,hs1];rfl
      rw[hM_]
      refine fQ mnG [(b15,O [.bool false,.slice fb q.free.length fc,.slice nb q.needs.length nc,.slice ob q.over.length oc,dv] 79),(b14,O [I 0] 36),(b13,O [.bool true] 4),(b12,O [.slice lb (eV q w).length lc] 35),(b6,O (zD r sP) 30)] G (markB (dm1::[])) ap hM (grm hG hln1) (λh3 hle3 sl=>?_)
      refine bZ (L':=[(b15,O [.bool false,.slice fb q.free.length fc,.slice nb q.needs.length nc,.slice ob q.over.length oc,dv] 79),(b14,O [I 0] 36),(b13,O [.bool true] 4),(b12,O [.slice lb (eV q w).length lc] 35),(b6,O (zD r sP) 30)]++markB (dm1::[])) ap ?_
      exact oq (dm1::[]) [.slice lb (eV q w).length lc,.bool true,I 0] hF U rdR ⟨lb,lc,U,sl⟩
    . exact xf
    . exact xf
theorem Aj(h s pS pK)(v:Lack)(hs:SlC jJ h pS pK s):Ret prog 96 [.slice pS s.length pK,.agg (xQ v).toArray] h (I (fF s v)):=by
 refine sT func96 U ntmps96 U λX hM hX hF=>?_
 have hs0:=@rfl _ (fF s v)
 refine sr (eO (λb1=>qL 9 [] U ?_))
 refine lp0 s (λi=>[(0,.slice pS s.length pK),(3,Q b1),(7,I (s.length:Int)),(8,I (i:Int))]) ([(b1,O (xQ v) 45)]) (λs1 i=>(fF.L1 v (fF.K1)) s1 i) hs.1.1 hs0 ?_ ?_
 .rintro i1 iP hs1 e
  exact sr (an (nretP [I (-1)] (ci hs1)))
 rintro i1 y1 rz1 hd1 fY dz iT mF hs3 hx1 ag1 e
 refine sr (tO fY U (qO 12 U (eY ([(b1,O (xQ v) 45)]) mixed kr jn (λgK _=>tf 0 U U (λ_ _ hj=>lO ty45 U (hj.nth (i:=0) U) U) (qA [1,2] U (ir 3 (enc:=xQ) gK jn ei nR ty45 hs.1 (nthZ dz) (gI dz) U U U U kr (λq2 A2=>tf 4 U U (λ_ _ hj=>mW ty45 (A2.mono hj.1) U U) (tf 5 U U (λ_ _ _=>MU (IG v y1) eqg45 U U) (bO kr (aH hs3 U (λc2 hs4=>?_) (λc2 hs5=>?_)))))))))))
 .exact sr (qO 3 U (nretP [I (i1:Int)] (ci hs4)))
 exact bL (qT 2 U (oi i1 U (qO 2 U (ag1 hs5))))
instance kC96:Ct 96:=⟨_,call96,@Aj⟩
theorem xj(h s pS pK)(v:Lack)(hs:SlC jJ h pS pK s):Ret prog 39 [.slice pS s.length pK,.agg (xQ v).toArray] h (.bool (mg s v)):=by
 refine sT func39 U ntmps39 U λX hM hX hF=>?_
 generalize hz:(mg s v)=z;have hs:=hz.symm
 exact W
theorem zt(h gF v0 tW tV v0_q v1 v1_q)(hv0:SlC jJ h tW tV v0)(av0:At h v0_q [.slice tW v0.length tV])(av1:At h v1_q [I v1]):Ret prog 38 [I gF,.pointer (some v0_q),.pointer (some v1_q)] h (.bool (eT gF v0 v1)):=by
 refine sT func38 U ntmps38 U λX hM hX hF=>?_
 have hs0:=@rfl _ (eT gF v0 v1)
 exact sr (qO 4 U (eJ ty35 av0 U (eJ ty3 av1 U (bp (aI (ie (cells:=[I v1,I gF]) (places:=[(0,1),(1,1)]) RM zc45 kr kr (aS call39 (xj _ _ _ _ (vT v1 gF) hv0) U (an (nretP [.bool (mg v0 (vT v1 gF))] (cs hs0))))))))))
theorem BP(h gF)(v0:(Int->Bool))(v0_v v0_q)(hv0:∀(h':HF)(el:Int),xJ h h'->qX prog v0_v [I el] h' [] (.bool (v0 el)))(av0:At h v0_q [v0_v]):Ret prog 41 [I gF,.pointer (some v0_q)] h (.bool (nC gF v0)):=by
 refine sT func41 U ntmps41 U λX hM hX hF=>?_
 generalize hz:(nC gF v0)=z;have hs:=hz.symm
 exact W
theorem H3{h:HF}:∀{cl:List Value}{xs:List Int},cS jB h cl xs->cl=xs.map (zC .i64)
 |_,[],hc=>hc
 |_,x::xs,⟨cs_z,rest,e,_,hr,hc⟩=>by
  have:cs_z=[I x]:=hr
  rw[e,this,H3 hc];rfl
theorem IT(h):∀xs:List Int,cS jB h (xs.map (zC .i64)) xs
 |[]=>rfl
 |x::xs=>⟨[I x],xs.map (zC .i64),rfl,rfl,rfl,IT h xs⟩
theorem Nz(f:Int->Bool):∀(l:List Int)(i:Nat),(cQ.L1 f cQ.K1 l i=-1/\∀x∈l,f x=false) \/
  ∃a y b,l=a++y::b/\cQ.L1 f cQ.K1 l i=((i+a.length:Nat):Int)/\f y=true/\∀x∈a,f x=false
 |[],i=>.inl ⟨rfl,λ_ h=>(kA h).elim⟩
 |y::l,i=>by
  simp only[cQ.L1]
  cases hy:f y with
  |true=>exact .inr ⟨[],y,l,rfl,by simp,hy,λ_ h=>(kA h).elim⟩
  |false=>
   rcases Nz f l (i+1)with⟨h1,h2⟩|⟨a,z,b,rfl,h2,h3,h4⟩
   .exact .inl ⟨h1,λx hx=>by rcases kD.1 hx with rfl|hx;exact hy;exact h2 x hx⟩
   refine .inr ⟨y::a,z,b,rfl,?_,h3,λx hx=>by rcases kD.1 hx with rfl|hx;exact hy;exact h4 x hx⟩
   rw[cond_false,h2];simp only[zA];congr 1;omega
theorem FD{l:List Int}(h:∀x∈l,q x=false):(l.filter λx=>!(q x))=l:=by
 rw[List.filter_eq_self];intro x hx;simp[h x hx]
theorem Tb{s zs:List Int}{j:Nat}{y:Int}(hij:i<j)(hz:zs.length=s.length)(hj:s[j]? = some y)(ht:zs.take i=(s.take j).filter λx=>!(q x))(hd:zs.drop j=s.drop j)(hy:q y=false):
  (zs.set i y).take (i+1)=((s.take (j+1)).filter λx=>!(q x))/\(zs.set i y).drop (j+1)=s.drop (j+1):=by
 have hjl:j<s.length:=by
  rcases kM j s.length with h|h
  .exact h
  simp[List.getElem?_eq_none h]at hj
 constructor
 .rw[List.take_add_one,List.take_set_of_le (kE _),ht,List.take_add_one,hj,List.filter_append]
  simp[hy,show i<zs.length from by omega]
 rw[List.drop_set_of_lt ob,←List.drop_drop,hd,List.drop_drop]
theorem Ta{s zs:List Int}{j:Nat}{y:Int}(hj:s[j]? = some y)(ht:zs.take i=(s.take j).filter λx=>!(q x))(hd:zs.drop j=s.drop j)(hy:q y=true):
  zs.take i=((s.take (j+1)).filter λx=>!(q x))/\zs.drop (j+1)=s.drop (j+1):=by
 constructor
 .rw[List.take_add_one,hj,List.filter_append,ht];simp[hy]
 rw[←List.drop_drop,hd,List.drop_drop]
theorem Ha{w:World}{bk n cc:Nat}{cl:List Value}(hb:w.heap[bk]? = some (.cells cl.toArray 3 (0,0)))(de:i+(n+1)<=cl.length)(ty:TypeId):
  (Builtin.clear_ #[31] ty #[.slice (some ⟨bk,i,none⟩) (n+1) cc]).run prog w=.ok (.tuple #[]) { w with heap:=w.heap.setIfInBounds bk (.cells (splice cl i (List.replicate (n+1) (I 0))).toArray 3 (0,0)) }:=by
 have hz:(zeroValue 3).run prog w=.ok (I 0) w:=ft kr w
 have h9:=lS (P:=prog) i (List.replicate (n+1) (I 0)) 0 cl w hb (by simpa using de) (λv hv=>by rw[(List.mem_replicate.1 hv).2];rfl)
 rw[Nat.add_zero]at h9
 have hzc:(Builtin.zeroCells (zC .i64 0).cells (n+1)).toList=List.replicate (n+1) (zC .i64 0):=by
  simp[Builtin.zeroCells,Value.cells]
  rw[List.eq_replicate_iff]
  refine⟨by simp,λx hx=>?_⟩
  obtain⟨j,_,rfl⟩:=qJ.1 hx
  simp[Nat.mod_one]
 simp only[Builtin.clear_,Sem.run_bind]
 simp[run_underlying eP,hz,hzc,h9]
theorem wQ(h)(s:List Int)(b c G)(del:Int->Bool)(del_v)(hG:cN jB 3 h s b c G)(hdel:∀(h':HF)(el:Int),xJ h h'->qX prog del_v [I el] h' [] (.bool (del el)))(hsz:s.length<=2000000):
  pJ prog 42 [.slice b s.length c,del_v].toArray h G (λr h' G'=>h'=h/\r=.returned (.slice b (fy s del).length c)/\cN jB 3 h (fy s del) b c G'):=by
 refine cX func42 U ntmps42 U λX hM hX=>qT 8 U (aI (Dp [] G [] call97 vH hG (by simp) (λh1 de hsl=>qn h1 s b c del del_v hsl (λh' a hl=>hdel h' a (de.t hl))) U (qO 6 U ?_)))
 have hcase:=Nz del s 0
 rw[show cQ.L1 del cQ.K1 s 0=cQ s del from rfl]at hcase
 rcases hcase with⟨h1,h2⟩|⟨a,y,r,hs,h1,hy,ha⟩
 .rw[h1]
  refine i8 (v':=.bool true) U U (qO 7 U ?_)
  have hf:fy s del=s:=FD h2
  refine nu func42 (λa ha w hw=>res1 U a ha w) (λw hw=>hw.lower) ⟨hX,?_,?_⟩
  .rw[hf];rfl
  rw[hf];exact hG
 rw[h1,Nat.zero_add]
 have hne:((a.length:Int)==-1)=false:=by simp
 have hsl:s.length=a.length+(r.length+1):=by rw[hs];simp
 refine fO hne U (qO 7 U (i8 (v':=I ((a.length+1:Nat):Int)) U (nH ob) (an ?_)))
 refine gB (ι:=Nat×List Int×LH) (λi=>[(0,.slice b s.length c),(1,del_v),(5,I (i.1:Int))]) (λi=>h) (λi=>i.2.2)
  (λi=>i.1<s.length/\i.2.1.length=s.length/\i.2.1.take i.1=fy s del/\cN jB 3 h i.2.1 b c i.2.2) ?_ (λhx=>?_)
 .rintro⟨i,zs,G'⟩ ⟨hi,hz,hf,hG'⟩ e
  dsimp only at hi hz hf hG'
  rcases hG' with⟨rfl,_⟩|⟨bk,cl,sp,rfl,hcl,h3,h4,h5,rfl⟩
  .simp at hz;omega
  have hcl':=H3 hcl
  subst hcl'
  have hcz:zs.length<=c:=h4
  have h3':zs.length+sp.length=c:=by simpa[jB]using h3
  have hz2:0<=(i:Int)/\(i:Int)<=(s.length:Int):=by omega
  have hzn:(i:Int).toNat=i:=by omega
  have hgf:cN jB 3 h zs (zAD bk) c [(bk,.cells (zs.map (zC .i64)++sp).toArray 3 (0,0))]:=.inr ⟨bk,_,sp,rfl,hcl,h3,h4,h5,rfl⟩
  obtain⟨m,hm⟩:∃m,s.length-i=m+1:=⟨s.length-i-1,by omega⟩
  refine qT 4 U (aI (eG (v:=.slice (some ⟨bk,i,none⟩) (m+1) (c-i)) (QN eP ty3 U U ob ob hm) ?_))
  refine aI (iM U λw hw=>⟨.tuple #[],_,h,_,?_,hw.write (i:=0) U (.cells (splice (zs.map (zC .i64)++sp) i (List.replicate (m+1) (I 0))).toArray 3 (0,0)),?_⟩)
  .have:=Ha (w:=w) (i:=i) (n:=m) (cc:=c-i) (hw.own _ (jC.2 rfl)) (by simp;omega)
   simp only[execOp,resolve,invoke,builtin]
   simp[Env.ev,upd,upds,pute,this]
  have hsp:∃sp',splice (zs.map (zC .i64)++sp) i (List.replicate (m+1) (I 0))=(zs.take i).map (zC .i64)++sp':=by
   have e1:zs.map (zC .i64)++sp=(zs.take i).map (zC .i64)++((zs.drop i).map (zC .i64)++sp):=by
    rw[←jE,←Wx,List.take_append_drop]
   rw[e1]
   have e2:i=((zs.take i).map (zC .i64)).length:=by simp;omega
   have:=ux (List.replicate (m+1) (I 0)) ((zs.take i).map (zC .i64)) ((zs.drop i).map (zC .i64)++sp) (by simp;omega)
   rw[←e2]at this
   exact⟨_,this⟩
  obtain⟨sp',hsp⟩:=hsp
  have hlen:((zs.take i).map (zC .i64)++sp').length=c*Rp.int.sz:=by
   rw[←hsp,Cb];exact h3
  rw[hsp]
  have hg2:cN jB 3 h (zs.take i) (zAD bk) c [(bk,.cells ((zs.take i).map (zC .i64)++sp').toArray 3 (0,0))]:=
   .inr ⟨bk,_,sp',rfl,IT h _,hlen,by rw[List.length_take];omega,by rw[List.length_take];omega,rfl⟩
  refine qO 5 U (aI (MI (z:=(i:Int)) eP ty3 hgf ob (by show _=Value.slice _ _ _;rw[hz];rfl) U U (an ?_)))
  refine nu func42 (λa ha w hw=>res1 U a ha w) (λw hw=>hw.lower) ⟨hX,?_,?_⟩
  .rw[←hf,hzn];rfl
  rw[←hf];exact hg2
 refine ju (ι:=Nat×Nat×List Int×LH) (λi=>[(0,.slice b s.length c),(1,del_v),(5,I (i.1:Int)),(6,I (i.2.1:Int))]) (λi=>h) (λi=>i.2.2.2)
  (λi=>i.1<i.2.1/\i.2.1<=s.length/\i.2.2.1.length=s.length/\i.2.2.1.take i.1=((s.take i.2.1).filter λx=>!(del x))/\i.2.2.1.drop i.2.1=s.drop i.2.1/\cN jB 3 h i.2.2.1 b c i.2.2.2)
  (λi=>s.length-i.2.1) (a.length,a.length+1,s,G) rd (λw hw=>hw) ⟨Nat.lt_succ_self _,by show a.length+1<=s.length;omega,rfl,?_,rfl,hG⟩ ?_
 .show s.take a.length=((s.take (a.length+1)).filter λx=>!(del x))
  rw[hs,List.take_left' rfl,List.take_add_one,List.take_left' rfl,List.filter_append,FD ha];simp[hy]
 rintro⟨i,j,zs,G'⟩ ⟨hij,hjl,hz,ht,hd,hG'⟩ ag e
 dsimp only at hij hjl hz ht hd hG'
 rcases kM j s.length with hj|hj
 .have hjs:s[j]? = some s[j]:=List.getElem?_eq_getElem hj
  have hjz:zs[j]? = some s[j]:=by
   have e1:(zs.drop j)[0]? = (s.drop j)[0]?:=by rw[hd]
   simpa[hjs]using e1
  obtain⟨bk,hbk⟩:=hG'.yg ob
  have hiz:zs[i]? = some zs[i]:=List.getElem?_eq_getElem ob
  refine qK 6 [] U (tO (decide_eq_true ob) U (qO 9 U (aI (eG (nY (R:=jB) (xs:=zs) (z:=(j:Int)) eP ty3 hbk ob U hz.symm U) (aI (eG (Fg (R:=jB) (off:=0) (i:=j) ty3 hG' hbk hjz (λcs_z hcs=>by rw[show cs_z=[I s[j]]from hcs];rfl) (by rfl) (λp hp=>hp)) (qO 6 U (aI (ka (v:=.bool (del s[j])) [] (List.nil_sublist _) (hdel h s[j] lf) U U ?_)))))))))
  cases hy:del s[j]with
  |true=>
   obtain⟨k1,k2⟩:=Ta hjs ht hd hy
   exact nB U (qO 6 U (oi j U (an (ag (i,j+1,zs,G') _ (by show s.length-(j+1)<s.length-j;omega) ⟨by show i<j+1;omega,hj,hz,k1,k2,hG'⟩ rd))))
  |false=>
   obtain⟨k1,k2⟩:=Tb hij hz hjs ht hd hy
   refine qO 8 U (aI (eG (nY (R:=jB) (xs:=zs) (z:=(i:Int)) eP ty3 hbk ob U hz.symm U) (aI (uT (R:=jB) (i:=i) (off:=0) (u:=zs[i]) (u':=s[j]) (v:=I s[j]) [] G' [] ty3 U hG' (by simp) hbk hiz (by decide) (λcs_z hcs=>by rw[show cs_z=[I zs[i]]from hcs];rfl) (by rfl) U U (λG2 hG2=>?_)))))
   rw[vF,List.append_nil]
   exact bo (qT 2 U (oi i U (qO 5 U (oi j U (an (ag (i+1,j+1,zs.set i s[j],G2) _ (by show s.length-(j+1)<s.length-j;omega) ⟨by show i+1<j+1;omega,hj,by show(zs.set i s[j]).length=s.length;simpa using hz,k1,k2,hG2⟩ rd))))))
 have hje:j=s.length:=by omega
 subst hje
 exact qK 6 [] U (fO (decide_eq_false ob) U (qO 3 U (hx (i,zs,G') _ ⟨hij,hz,by show zs.take i=_;rw[ht,List.take_length];rfl,hG'⟩ rd)))
theorem BO(h p)(v0:(Int->Bool))(v0_v v0_q)(hv0:∀(h':HF)(el:Int),xJ h h'->qX prog v0_v [I el] h' [] (.bool (v0 el)))(av0:At h v0_q [v0_v]):Ret prog 44 [I p,.pointer (some v0_q)] h (.bool (jy p v0)):=by
 refine sT func44 U ntmps44 U λX hM hX hF=>?_
 generalize hz:(jy p v0)=z;have hs:=hz.symm
 exact W
theorem tQ(h kind l fo fm l_q)(hl:SlC jJ h fo fm l)(al:At h l_q [.slice fo l.length fm]):j6 prog 37 [I kind,.pointer (some l_q)] h (λv h'=>FnI h' v (λn=>eT n l kind)):=by
 refine sT func37 U ntmps37 U λX hM hX hF=>?_
 refine wto U (eO (λb2=>?_))
 refine rn ?_
 refine wmz 1 U U nthA hM (λh1 hle1 a2=>?_)
 refine aI (wmf ?_)
 refine rn ?_
 refine wrH [.func (.func 38) #[] #[.pointer (some l_q),Q b2]] hF U rdR ?_
 exact⟨⟨_,_,_,U⟩,λh' n hle'=>iA call38 (zt h' n l fo fm l_q kind ⟨b2,0,none⟩ (slm hl (vA hle1 hle')) (al.mono (vA hle1 hle')) (a2.mono hle'))⟩
theorem O2(s:List Int)(f:Int->Bool):(fy s f).length<=s.length:=List.length_filter_le _ _
theorem Tm{r:Register}{aV at_ ah:Int}(hok:(bF r signed u aV at_ ah).2=0->vU r aV at_ ah):(io r signed u aV at_ ah).1.free.length<=1000000:=by
  unfold io
  cases hj:((bF r signed u aV at_ ah).2 != 0)with
  |true=>simp
  |false=>
    have ok:=hok (by simpa using hj)
    have h1:=ok.flen
    simp only[cond_false,iN,wE]
    exact h1
theorem lE(h r sP signed pS pK u ql qj)(aV at_ ah:Int)(l fo fm)(hr:zL h r sP)(hsi:SlC jB h pS pK signed)(hu:SlC XC h ql qj u)(hl:SlC jJ h fo fm l)(hsm:smR r)(hln:r.cd.length<20)(hk:dN h)(hok:(bF r signed u aV at_ ah).2=0->vU r aV at_ ah):
   Ret prog 11 [.agg (zD r sP).toArray,.slice pS signed.length pK,.slice ql u.length qj,I aV,I at_,I ah,.slice fo l.length fm] h (.tuple #[.bool (dS r signed u aV at_ ah l).1,I (dS r signed u aV at_ ah l).2]):=by
 refine sT func11 U ntmps11 U λX hM hX hF=>?_
 have hfl:=Tm hok
 have hcall:=AH h r sP signed pS pK u ql qj aV at_ ah hr hsi hu hsm hln hk hok
 unfold dS
 generalize io r signed u aV at_ ah=qe at *
 obtain⟨q,e⟩:=qe
 dsimp only at hfl hcall ⊢
 refine wto U (eO (λb7=>eO (λb13=>?_)))
 refine rn ?_
 refine dy 1 ty30 U U U ?_
 refine rn ?_
 refine aI (cx call20 hcall U (λv h1 hle1 hp1=>?_))
 obtain⟨fb,fc,nb,nc,ob,oc,dv,rfl,h1dv,slf,sln,slo,hdec⟩:=hp1
 refine rn ?_
 refine aI (wal U (λb16=>?_))
 refine wsW U U U nthA U U (by simp only[List.all_cons,List.all_nil,h1dv];rfl) ?_
 refine rn ?_
 cases he:(e != 0)with
 |true=>
  have hE_:mt q e l=(false,e):=by unfold mt;rw[he];rfl
  rw[hE_]
  refine wgo U (wgo U (wgo U ?_))
  refine rn ?_
  refine wcT U U ?_
  refine rn ?_
  exact wrP [.bool false,I e] hF U rdR hX U
 |false=>
  have e0:e=0:=by simpa using he
  subst e0
  refine wgo U ?_
  refine wld U U nthA U ?_
  refine wgo U ?_
  refine rn ?_
  cases hcl:q.closed with
  |true=>
   have hE_:mt q 0 l=(false,0):=by unfold mt;rw[hcl];rfl
   rw[hE_]
   refine wcT U U ?_
   refine rn ?_
   exact wrP [.bool false,I 0] hF U rdR hX U
  |false=>
   refine wcF U U ?_
   refine rn ?_
   refine wmz 0 U U nthA hM (λh2 hle2 a13=>?_)
   refine aI (wmf ?_)
   refine rn ?_
   refine aI (pq (λbm=>?_))
   refine rn ?_
   refine wld U U nthA U ?_
   refine aI (uU 0 (k:=2) (x:=q.needs) GF (gx nI) U (lr.nil (enc:=(zC .i64)) (V:=VSl jB) (h:=h2)) U U ⟨nb,nc,U,slm sln hle2⟩ (λmo1 hm1=>?_))
   refine rn ?_
   refine wld U U nthA U ?_
   refine aI (uU 0 (k:=3) (x:=q.over) GF (gx nI) U hm1 U U ⟨ob,oc,U,slm slo hle2⟩ (λmo2 hm2=>?_))
   have hmem0:∀p:Int×List Int,p∈mput (mput ([]:List (Int×List Int)) 2 q.needs) 3 q.over↔p=(2,q.needs)\/p=(3,q.over):=λp=>by simp[mput]
   obtain⟨m0,hpm,hnd0,es,clock,rfl,hEr,hP,hcl_⟩:=hm2
   refine cz 0 U hM (λh3 hle3 hbm=>?_)
   have hm0:∀(i:Nat)(p:Int×List Int),m0[i]? = some p->p=(2,q.needs)\/p=(3,q.over):=λi p hi=>(hmem0 p).1 (hpm.mem_iff.1 (xE hi))
   have hnod:(es.map (·.born)).Nodup:=hP.imp (λh=>Nat.ne_of_lt h)
   have hlen:es.length=m0.length:=by
     clear hbm hP hcl_ hnod hpm hnd0 hm0
     induction es generalizing m0 with
     |nil=>cases m0 with
       |nil=>rfl
       |cons _ _=>exact hEr.elim
     |cons a es ih=>cases m0 with
       |nil=>exact hEr.elim
       |cons b m0=>simpa using ih m0 hEr.2.2
   have hgd:kw l 2 q.needs=false->kw l 3 q.over=false->mt q 0 l=(q.decides (fy q.free (λp=>jy p (λn=>eT n l 1))),0):=λa b=>by unfold mt;rw[hcl,a,b];rfl
   have hbd:∀p:Int×List Int,(p=(2,q.needs)\/p=(3,q.over))->kw l p.1 p.2=true->mt q 0 l=(false,0):=by
     rintro p (rfl|rfl) hb
     . unfold mt;rw[hcl,show kw l 2 q.needs=true from hb];rfl
     . unfold mt;rw[hcl,show kw l 3 q.over=true from hb];cases kw l 2 q.needs<;>rfl
   refine rn ?_
   refine aI (KZ GF hbm U (λit=>?_))
   refine rn ?_
   let bf:Nat->Nat:=λi=>(es[i]?.map (·.born)).getD 0
   have hle13:h1.le h3:=vA hle2 hle3
   have hle03:h.le h3:=vA hle1 hle13
   have aq3:=a13.mono hle3
   have hq16:(b16,O [.bool q.closed,.slice fb q.free.length fc,.slice nb q.needs.length nc,.slice ob q.over.length oc,dv] 79)=(b16,O [.bool false,.slice fb q.free.length fc,.slice nb q.needs.length nc,.slice ob q.over.length oc,dv] 79):=by rw[hcl]
   refine gB (ι:=List Nat×HF) (λi=>[(16,Q b16),(17,.func (.func 37) #[] #[Q b13])]) (λi=>i.2) (λi=>[(it,Obj.mapIter (some bm) clock (xB (i.1.map bf)) clock),(b16,O [.bool false,.slice fb q.free.length fc,.slice nb q.needs.length nc,.slice ob q.over.length oc,dv] 79),(b7,O (zD r sP) 30)]) (λi=>(∀j,j<es.length->∀p,m0[j]? = some p->kw l p.1 p.2=false)/\h3.le i.2) ?_ (λhx=>?_)
   . rintro⟨js,hh⟩ ⟨hall,lhh⟩ e
     dsimp only at hall lhh
     have hget:∀p,(p=(2,q.needs)\/p=(3,q.over))->kw l p.1 p.2=false:=λp hp=>by
       obtain⟨j,hj⟩:=List.getElem?_of_mem (hpm.mem_iff.2 ((hmem0 p).2 hp))
       exact hall j (by rw[hlen];exact(List.getElem?_eq_some_iff.1 hj).1) p hj
     rw[hgd (hget _ (.inl rfl)) (hget _ (.inr rfl))]
     refine rn ?_
     have l2h:=vA hle3 lhh
     have l0h:=vA hle03 lhh
     refine aI (GX (nv (args:=[I 1]) (cap:=[Q b13]) call37 (tQ hh 1 l fo fm ⟨b13,0,none⟩ (slm hl l0h) (a13.mono l2h))) U U (λv h4 hle4 hfn=>?_))
     obtain⟨⟨f0,fi0,ca0,rfl⟩,hfn⟩:=hfn
     refine bH (show zeroC prog 102=some [.nilFunc] by kernel_rfl) (λb21=>?_)
     refine cW 0 (show tySz prog 102=some (1,false) by kernel_rfl) U U U U U U ?_
     refine cz 0 U hM (λh5 hle5 f5=>?_)
     have a21:At h5 ⟨b21,0,none⟩ [.func f0 fi0 ca0]:=dO f5
     have l15:=vA (vA (vA hle13 lhh) hle4) hle5
     refine rn ?_
     refine eY ([(b16,O [.bool false,.slice fb q.free.length fc,.slice nb q.needs.length nc,.slice ob q.over.length oc,dv] 79)]) mixed kr jn (λgK _=>?_)
     refine qB [0] U (tf 1 U U (rj 0 ty77 U U U) ?_)
     refine qB [2] U (tf 3 U U (rj 0 ty31 U U U) ?_)
     refine tf 5 U U (v:=.func (.func 44) #[] #[Q b21]) (λ_ _ _ w hw=>by simp[execOp,Instr.makeFunc];rfl) ?_
     refine tn 4 U (Dr call43 (BK h5 q.free fb fc (slm slf l15) (by omega)) U (λb2 c2 G hG=>?_))
     refine⟨jn,?_⟩
     refine tn 6 U (m9 (v:=.slice b2 (fy q.free (λp=>jy p (λn=>eT n l 1))).length c2) [(it,Obj.mapIter (some bm) clock (xB (js.map bf)) clock),(b16,O [.bool false,.slice fb q.free.length fc,.slice nb q.needs.length nc,.slice ob q.over.length oc,dv] 79),(b7,O (zD r sP) 30)] G [] call42 (wQ h5 q.free b2 c2 G (λp=>jy p (λn=>eT n l 1)) (.func (.func 44) #[] #[Q b21]) hG (λh' a hle'=>iA call44 (BO h' a (λn=>eT n l 1) (.func f0 fi0 ca0) ⟨b21,0,none⟩ (λh'' a' hle''=>hfn h'' a' (vA (vA hle5 hle') hle'')) (a21.mono hle'))) (by omega)) (by rw[List.append_nil];rfl) U (λG2 hG2=>?_))
     refine⟨jn,?_⟩
     refine tn 7 U (xm vH [(it,Obj.mapIter (some bm) clock (xB (js.map bf)) clock),(b16,O [.bool false,.slice fb q.free.length fc,.slice nb q.needs.length nc,.slice ob q.over.length oc,dv] 79),(b7,O (zD r sP) 30)] G2 [] U hM hG2 (λh6 hle6 sl2=>?_))
     refine ka (v:=.bool (q.decides (fy q.free (λp=>jy p (λn=>eT n l 1))))) [] (List.nil_sublist _) ((hdec U).2 h6 _ b2 c2 (vA l15 hle6) sl2 (kL (O2 _ _) hfl)) U U ?_
     refine⟨jl hle6,tu hle6 (qA [8,9] U (bO kr ?_))⟩
     exact wrP [.bool (q.decides (fy q.free (λp=>jy p (λn=>eT n l 1)))),I 0] hF U rdR hX U
   refine ju (ι:=List Nat×HF) (λi=>[(16,Q b16),(17,.func (.func 37) #[] #[Q b13]),(46,Q it)]) (λi=>i.2) (λi=>[(it,Obj.mapIter (some bm) clock (xB (i.1.map bf)) clock),(b16,O [.bool false,.slice fb q.free.length fc,.slice nb q.needs.length nc,.slice ob q.over.length oc,dv] 79),(b7,O (zD r sP) 30)]) (λi=>i.1.Nodup/\(∀j∈i.1,j<es.length)/\(∀j∈i.1,∀p,m0[j]? = some p->kw l p.1 p.2=false)/\h3.le i.2) (λi=>es.length-i.1.length) ([],h3) ⟨U,U,U,trivial⟩ sws ⟨List.nodup_nil,λ_ h=>absurd h (kA),λ_ h=>absurd h (kA),kH _⟩ ?_
   rintro⟨js,hh⟩ ⟨hn,hlt,hok_,lhh⟩ ag e
   dsimp only at hn hlt hok_ lhh
   have hlp:=AK hnod js hlt
   refine rn ?_
   refine aI (Ok 0 U (lhh _ _ hbm) (λx hx=>hcl_ x (by simpa using hx)) (kE _) U (λh0=>?_) (λen hen=>?_))
   . refine rn ?_
     refine wcF U U ?_
     exact kW U (hx (js,hh) _ ⟨λj hj p hp=>hok_ j (hlp.1 h0 j hj) p hp,lhh⟩ ⟨U,U,trivial⟩)
   . obtain⟨i,hi,hni⟩:=hlp.2 en hen
     obtain⟨p,hp,hkey,hval⟩:=NP hEr hi
     have hil:i<es.length:=(List.getElem?_eq_some_iff.1 hi).1
     have hmem:en∈es.toArray.toList:=by simpa using xE hi
     have hn':(js++[i]).Nodup:=by
       rw[List.nodup_append];exact⟨hn,by simp,λa ha b hb' e'=>by simp at hb';subst hb';subst e';exact hni ha⟩
     have hl':∀j∈js++[i],j<es.length:=λj hj=>by
       rcases qH.1 hj with h3|h3
       . exact hlt j h3
       . simp at h3;subst h3;exact hil
     have zy:js.length+1<=es.length:=by
       obtain⟨rest,hrest⟩:=AA (m0.map (·.1)) (js++[i]) hn' (λj hj=>by rw[List.length_map,←hlen];exact hl' j hj)
       have h9:=hrest.length_eq
       simp only[jA,List.length_map,zA,zB]at h9
       omega
     have hpp:=hm0 i p hp
     obtain⟨kb,kc,hv_,hsl⟩:=hval
     obtain⟨ekey,evl,eborn⟩:=en
     dsimp only at hkey hv_
     subst hkey hv_
     refine rn ?_
     refine wcT U U ?_
     refine rn ?_
     refine aI (eG (Ld 0 U (lhh _ _ hbm) hmem (by simpa using hnod) U) ?_)
     refine rn ?_
     have l2h:=vA hle3 lhh
     have l0h:=vA hle03 lhh
     refine aI (GX (nv (args:=[I p.1]) (cap:=[Q b13]) call37 (tQ hh p.1 l fo fm ⟨b13,0,none⟩ (slm hl l0h) (a13.mono l2h))) U U (λv h4 hle4 hfn=>?_))
     obtain⟨⟨f0,fi0,ca0,rfl⟩,hfn⟩:=hfn
     refine bH (show zeroC prog 102=some [.nilFunc] by kernel_rfl) (λb20=>?_)
     refine cW 0 (show tySz prog 102=some (1,false) by kernel_rfl) U U U U U U ?_
     refine rn ?_
     refine wmz 0 U U nthA hM (λh5 hle5 a20=>?_)
     refine aI (wmf ?_)
     have l25:=vA (vA l2h hle4) hle5
     refine aS call40 (mR h5 p.2 kb kc (λn=>nC n (λn=>eT n l p.1)) (.func (.func 41) #[] #[Q b20]) (slm hsl l25) (λh' a hle'=>iA call41 (BP h' a (λn=>eT n l p.1) (.func f0 fi0 ca0) ⟨b20,0,none⟩ (λh'' a' hle''=>hfn h'' a' (vA (vA hle5 hle') hle'')) (a20.mono hle')))) U ?_
     refine rn ?_
     cases hb:kw l p.1 p.2 with
     |true=>
       rw[hbd p hpp hb]
       refine wcT U hb ?_
       refine rn ?_
       exact wrP [.bool false,I 0] hF U rdR hX U
     |false=>
       refine wcF U hb ?_
       refine rn ?_
       have hpush:((xB (js.map bf)).push eborn)=xB ((js++[i]).map bf):=by simp[bf,hi]
       refine bZ (L':=[(it,Obj.mapIter (some bm) clock (xB ((js++[i]).map bf)) clock),(b16,O [.bool false,.slice fb q.free.length fc,.slice nb q.needs.length nc,.slice ob q.over.length oc,dv] 79),(b7,O (zD r sP) 30)]) (by rw[←hpush];rfl) ?_
       exact ag (js++[i],h5) _ (by show es.length-(js++[i]).length<es.length-js.length;rw[jA];simp only[zA,zB];omega) ⟨hn',hl',λj hj p' hp'=>by
         rcases qH.1 hj with h3|h3
         . exact hok_ j h3 p' hp'
         . simp at h3;subst h3;rw[hp]at hp';cases hp';exact hb,vA (vA lhh hle4) hle5⟩ ⟨rfl,rfl,rfl,trivial⟩
theorem mA(h kind EH)  : Ret prog 15 [I kind,I EH] h (.agg (xQ (DL kind EH)).toArray):=by
 refine sT func15 U ntmps15 U λX hM hX hF=>?_
 generalize hz:(DL kind EH)=z;have hs:=hz.symm
 exact W
theorem FT(rec:aj->Int->Int)(h)(x:aj)(gR dL)(hrec:∀(h:HF)(qx:aj)(mz:eC)(qlimit:Int)(hqx:aj.ok h qx mz)(_:qx.dep<x.dep),Ret prog 240 [.agg (aj.cells qx mz).toArray,I qlimit] h (I (rec qx qlimit)))(hx:aj.ok h x gR):Ret prog 240 [.agg (aj.cells x gR).toArray,I dL] h (I (dJ.F rec x dL)):=by
 refine sT func240 U ntmps240 U λX hM hX hF=>?_
 have hs0:=@rfl _ (dJ.F rec x dL)
 refine sr (eO (λb1=>qO 11 U ?_))
 refine lp1 x.L (λi w=>[(1,I dL),(2,Q b1),(5,I w),(6,I (i:Int))]) ([(b1,O (aj.cells x gR) 59)]) (λs1 i w=>(dJ.L1 rec dL (dJ.K1)) s1 w) 1 hx.list.1.1 hs0 ?_ ?_ ?_
 .rintro i1 fg iP hs1 e
  exact sr (qO 3 U (nretP [I fg] (ci hs1)))
 .rintro i1 fg y1 rz1 hd1 fY dz iT mF hs3 hx1 ag1 e
  refine qK 7 [0] U (tO fY U (qO 6 U (aH hs3 U (λc2 hs4=>?_) (λc2 hs5=>?_))))
  .have c2p:=of_decide_eq_true c2
   exact qK 8 [0] U (aI (iR qI ty59 hx.list.1 dz U U U (λ_ _ _ e=>e) (λq2 r2 A2 ok2=>eU ty59 A2 U U (qO 3 U (aS call240 (hrec _ _ _ (kB .i64 (dL-fg)) ok2 (aj.lj (hZ hd1))) U (qO 6 U (oi i1 U (qO 2 U (ag1 (kB .i64 (fg+(rec y1 (kB .i64 (dL-fg))))) hs4)))))))))
  have c2p:=of_decide_eq_false c2
  exact kW U (hx1 i1 fg hs5)
 rintro i1 fg hd1 ml hx e
 exact qK 7 [0] U (fO ml U (qO 8 U (hx _ rd)))
theorem wk:∀(m:Nat)(h:HF)(x:aj)(gR:eC)(dL:Int)(_:x.dep<=m)(hx:aj.ok h x gR),Ret prog 240 [.agg (aj.cells x gR).toArray,I dL] h (I (dJ.go m x dL))
 |0,h,x,gR,dL,hd,hx=>absurd hd (Nat.not_le.2 (aj.ni _))
 |m+1,h,x,gR,dL,hd,hx=>FT (dJ.go m) h x gR dL (λqh_ qx mz qlimit qhx qd=>wk m qh_ qx mz qlimit ob qhx) hx
theorem Hs(h x gR dL)(hx:aj.ok h x gR):Ret prog 240 [.agg (aj.cells x gR).toArray,I dL] h (I (dJ x dL)):=wk _ h x gR dL (kE _) hx
instance kC240:Ct 240:=⟨_,call240,@Hs⟩
theorem FU(rec:aj->Int)(h)(x:aj)(gR)(hrec:∀(h:HF)(qx:aj)(mz:eC)(hqx:aj.ok h qx mz)(_:qx.dep<x.dep),Ret prog 241 [.agg (aj.cells qx mz).toArray] h (I (rec qx)))(hx:aj.ok h x gR):Ret prog 241 [.agg (aj.cells x gR).toArray] h (I (bS.F rec x)):=by
 refine sT func241 U ntmps241 U λX hM hX hF=>?_
 have hs0:=@rfl _ (bS.F rec x)
 refine sr (eO (λb1=>qO 11 U ?_))
 refine lp1 x.L (λi w=>[(1,Q b1),(3,I w),(4,I (i:Int))]) ([(b1,O (aj.cells x gR) 59)]) (λs1 i w=>(bS.L1 rec (bS.K1)) s1 w) 0 hx.list.1.1 hs0 ?_ ?_ ?_
 .rintro i1 lG iP hs1 e
  exact sr (qO 4 U (nretP [I (kB .i64 (lG+1))] (ci hs1)))
 .rintro i1 lG y1 rz1 hd1 fY dz iT mF hs3 hx1 ag1 e
  exact qK 7 [0] U (tO fY U (qL 10 [0] U (aI (iR qI ty59 hx.list.1 dz U U U (λ_ _ _ e=>e) (λq2 r2 A2 ok2=>eU ty59 A2 U U (aS call241 (hrec _ _ _ ok2 (aj.lj (hZ hd1))) U (aI (eG (UD U U) (qO 5 U (oi i1 U (an (ag1 (max lG (rec y1)) hs3))))))))))))
 rintro i1 lG hd1 ml hx e
 exact qK 7 [0] U (fO ml U (qO 3 U (hx _ rd)))
theorem wl:∀(m:Nat)(h:HF)(x:aj)(gR:eC)(_:x.dep<=m)(hx:aj.ok h x gR),Ret prog 241 [.agg (aj.cells x gR).toArray] h (I (bS.go m x))
 |0,h,x,gR,hd,hx=>absurd hd (Nat.not_le.2 (aj.ni _))
 |m+1,h,x,gR,hd,hx=>FU (bS.go m) h x gR (λqh_ qx mz qhx qd=>wl m qh_ qx mz ob qhx) hx
theorem Ht(h x gR)(hx:aj.ok h x gR):Ret prog 241 [.agg (aj.cells x gR).toArray] h (I (bS x)):=wl _ h x gR (kE _) hx
instance kC241:Ct 241:=⟨_,call241,@Ht⟩
theorem Hr(h x gR)(hx:aj.ok h x gR):Ret prog 166 [.agg (aj.cells x gR).toArray] h (.bool (mi x)):=by
 refine sT func166 U ntmps166 U λX hM hX hF=>?_
 generalize hz:(mi x)=z;have hs:=hz.symm
 exact W
instance kC166:Ct 166:=⟨_,call166,@Hr⟩
theorem Dt(h p jg)(hp:aw.ok h p jg):Ret prog 102 [.agg (aw.cells p jg).toArray] h (.bool (fG p)):=by
 refine sT func102 U ntmps102 U λX hM hX hF=>?_
 generalize hz:(fG p)=z;have hs:=hz.symm
 have HA:=h0 [1] 3 (λs1 i=>(fG.L1 (fG.K1)) s1)
 exact W
theorem F2(h c)  : Ret prog 299 [Y c] h (.bool (nW c)):=by
 refine sT func299 U ntmps299 U λX hM hX hF=>?_
 generalize hz:(nW c)=z;have hs:=hz.symm
 exact W
instance kC299:Ct 299:=⟨_,call299,@F2⟩
theorem F3(h c)  : Ret prog 325 [Y c] h (.bool (uk c)):=by
 refine sT func325 U ntmps325 U λX hM hX hF=>?_
 generalize hz:(uk c)=z;have hs:=hz.symm
 exact W
instance kC325:Ct 325:=⟨_,call325,@F3⟩
theorem Jj(h c)  : Ret prog 300 [Y c] h (.bool (vf c)):=by
 refine sT func300 U ntmps300 U λX hM hX hF=>?_
 generalize hz:(vf c)=z;have hs:=hz.symm
 exact W
instance kC300:Ct 300:=⟨_,call300,@Jj⟩
theorem Jk(h s)  : Ret prog 242 [.string s] h (.bool (j3 s)):=by
 refine sT func242 U ntmps242 U λX hM hX hF=>?_
 generalize hz:(j3 s)=z;have hs:=hz.symm
 have HA:=h0 [0] 3 (λs1 i=>((j3.L1 s (j3.K1)) s1 i))
 exact W
instance kC242:Ct 242:=⟨_,call242,@Jk⟩
theorem I9(h s)  : Ret prog 243 [.string s] h (.bool (uZ s)):=by
 refine sT func243 U ntmps243 U λX hM hX hF=>?_
 have hs0:=@rfl _ (uZ s)
 refine qT 16 U (aH hs0 U (λc1 hs1=>?_) (λc1 hs2=>?_))
 .refine bL (aH hs1 U (λc2 hs3=>?_) (λc2 hs4=>?_))
  .exact sr (an (nretP [.bool true] (cs hs3)))
  exact bL (qT 5 U (nretP [.bool false] (cs hs4)))
 refine qT 5 U (aH hs2 U (λc3 hs7=>?_) (λc3 hs8=>?_))
 .refine bL (aH hs7 U (λc4 hs9=>?_) (λc4 hs10=>?_))
  .exact sr (an (nretP [.bool true] (cs hs9)))
  exact bL (qT 5 U (nretP [.bool false] (cs hs10)))
 refine qT 5 U (aH hs8 U (λc5 hs13=>?_) (λc5 hs14=>?_))
 .refine bL (aH hs13 U (λc6 hs15=>?_) (λc6 hs16=>?_))
  .exact sr (an (nretP [.bool true] (cs hs15)))
  exact bL (qT 5 U (nretP [.bool false] (cs hs16)))
 refine qT 5 U (aH hs14 U (λc7 hs19=>?_) (λc7 hs20=>?_))
 .refine bL (aH hs19 U (λc8 hs21=>?_) (λc8 hs22=>?_))
  .exact sr (an (nretP [.bool true] (cs hs21)))
  exact bL (qT 5 U (nretP [.bool false] (cs hs22)))
 refine qT 5 U (aH hs20 U (λc9 hs25=>?_) (λc9 hs26=>?_))
 .refine bL (aH hs25 U (λc10 hs27=>?_) (λc10 hs28=>?_))
  .exact sr (an (nretP [.bool true] (cs hs27)))
  exact bL (qT 5 U (nretP [.bool false] (cs hs28)))
 refine qT 5 U (aH hs26 U (λc11 hs31=>?_) (λc11 hs32=>?_))
 .refine bL (aH hs31 U (λc12 hs33=>?_) (λc12 hs34=>?_))
  .exact sr (an (nretP [.bool true] (cs hs33)))
  exact bL (qT 5 U (nretP [.bool false] (cs hs34)))
 refine qT 5 U (aH hs32 U (λc13 hs37=>?_) (λc13 hs38=>?_))
 .refine bL (aH hs37 U (λc14 hs39=>?_) (λc14 hs40=>?_))
  .exact sr (an (nretP [.bool true] (cs hs39)))
  exact bL (qT 5 U (nretP [.bool false] (cs hs40)))
 refine qT 5 U (aH hs38 U (λc15 hs43=>?_) (λc15 hs44=>?_))
 .refine bL (aH hs43 U (λc16 hs45=>?_) (λc16 hs46=>?_))
  .exact sr (an (nretP [.bool true] (cs hs45)))
  exact bL (qT 5 U (nretP [.bool false] (cs hs46)))
 refine qT 5 U (aH hs44 U (λc17 hs49=>?_) (λc17 hs50=>?_))
 .refine bL (aH hs49 U (λc18 hs51=>?_) (λc18 hs52=>?_))
  .exact sr (an (nretP [.bool true] (cs hs51)))
  exact bL (qT 5 U (nretP [.bool false] (cs hs52)))
 refine qT 5 U (aH hs50 U (λc19 hs55=>?_) (λc19 hs56=>?_))
 .refine bL (aH hs55 U (λc20 hs57=>?_) (λc20 hs58=>?_))
  .exact sr (an (nretP [.bool true] (cs hs57)))
  exact bL (qT 5 U (nretP [.bool false] (cs hs58)))
 refine qT 5 U (aH hs56 U (λc21 hs61=>?_) (λc21 hs62=>?_))
 .refine bL (aH hs61 U (λc22 hs63=>?_) (λc22 hs64=>?_))
  .exact sr (an (nretP [.bool true] (cs hs63)))
  exact bL (qT 5 U (nretP [.bool false] (cs hs64)))
 refine qT 5 U (aH hs62 U (λc23 hs67=>?_) (λc23 hs68=>?_))
 .refine bL (aH hs67 U (λc24 hs69=>?_) (λc24 hs70=>?_))
  .exact sr (an (nretP [.bool true] (cs hs69)))
  exact bL (qT 5 U (nretP [.bool false] (cs hs70)))
 refine qT 5 U (aH hs68 U (λc25 hs73=>?_) (λc25 hs74=>?_))
 .refine bL (aH hs73 U (λc26 hs75=>?_) (λc26 hs76=>?_))
  .exact sr (an (nretP [.bool true] (cs hs75)))
  exact bL (qT 5 U (nretP [.bool false] (cs hs76)))
 refine qT 5 U (aH hs74 U (λc27 hs79=>?_) (λc27 hs80=>?_))
 .refine bL (aH hs79 U (λc28 hs81=>?_) (λc28 hs82=>?_))
  .exact sr (an (nretP [.bool true] (cs hs81)))
  exact bL (qT 5 U (nretP [.bool false] (cs hs82)))
 refine qT 5 U (aH hs80 U (λc29 hs85=>?_) (λc29 hs86=>?_))
 .refine bL (aH hs85 U (λc30 hs87=>?_) (λc30 hs88=>?_))
  .exact sr (an (nretP [.bool true] (cs hs87)))
  exact bL (qT 5 U (nretP [.bool false] (cs hs88)))
 refine qT 4 U (aH hs86 U (λc31 hs91=>?_) (λc31 hs92=>?_))
 .exact sr (an (nretP [.bool true] (cs hs91)))
 exact bL (qT 5 U (nretP [.bool false] (cs hs92)))
instance kC243:Ct 243:=⟨_,call243,@I9⟩
theorem Jb(h s)  : Ret prog 167 [.string s] h (.bool (oZ s)):=by
 refine sT func167 U ntmps167 U λX hM hX hF=>?_
 generalize hz:(oZ s)=z;have hs:=hz.symm
 exact W
instance kC167:Ct 167:=⟨_,call167,@Jb⟩
theorem Ao(h l fo fm s)(hl:SlC WN h fo fm l):Ret prog 171 [.slice fo l.length fm,.string s] h (I (fU l s)):=by
 refine sT func171 U ntmps171 U λX hM hX hF=>?_
 generalize hz:(fU l s)=z;have hs:=hz.symm
 have HA:=h0 [0,1] 5 (λs1 i=>(fU.L1 s (fU.K1)) s1 i)
 exact W
instance kC171:Ct 171:=⟨_,call171,@Ao⟩
theorem Du(h l fo fm)(hl:SlC WN h fo fm l):Ret prog 168 [.slice fo l.length fm] h (.bool (fH l)):=by
 refine sT func168 U ntmps168 U λX hM hX hF=>?_
 generalize hz:(fH l)=z;have hs:=hz.symm
 have HA:=h0 [0] 3 (λs1 i=>(fH.L1 l (fH.K1)) s1 i)
 exact W
instance kC168:Ct 168:=⟨_,call168,@Du⟩
instance kR169:Cl 169:=⟨call169⟩
theorem FQ(rec:List ByteArray->aj->Bool)(h aC dQ dP)(x:aj)(gR)(hrec:∀(h:HF)(qoffices:List ByteArray)(lC:Option Addr)(lB:Nat)(qx:aj)(mz:eC)(hqoffices:SlC WN h lC lB qoffices)(hqx:aj.ok h qx mz)(_:qx.dep<x.dep),Ret prog 169 [.slice lC qoffices.length lB,.agg (aj.cells qx mz).toArray] h (.bool (rec qoffices qx)))(gY:SlC WN h dQ dP aC)(hx:aj.ok h x gR):Ret prog 169 [.slice dQ aC.length dP,.agg (aj.cells x gR).toArray] h (.bool (cv.F rec aC x)):=by
 refine sT func169 U ntmps169 U λX hM hX hF=>?_
 generalize hz:(cv.F rec aC x)=z;have hs:=hz.symm
 have HA:=h0 [0,3] 5 (λs1 i=>(cv.L1 rec aC (cv.K1)) s1)
 exact W
theorem wj:∀(m:Nat)(h:HF)(aC:List ByteArray)(dQ:Option Addr)(dP:Nat)(x:aj)(gR:eC)(_:x.dep<=m)(gY:SlC WN h dQ dP aC)(hx:aj.ok h x gR),Ret prog 169 [.slice dQ aC.length dP,.agg (aj.cells x gR).toArray] h (.bool (cv.go m aC x))
 |0,h,aC,dQ,dP,x,gR,hd,gY,hx=>absurd hd (Nat.not_le.2 (aj.ni _))
 |m+1,h,aC,dQ,dP,x,gR,hd,gY,hx=>FQ (cv.go m) h aC dQ dP x gR (λqh_ qoffices lC lB qx mz qhoffices qhx qd=>wj m qh_ qoffices lC lB qx mz ob qhoffices qhx) gY hx
theorem Hq(h aC dQ dP x gR)(gY:SlC WN h dQ dP aC)(hx:aj.ok h x gR):Ret prog 169 [.slice dQ aC.length dP,.agg (aj.cells x gR).toArray] h (.bool (cv aC x)):=wj _ h aC dQ dP x gR (kE _) gY hx
instance kC169:Ct 169:=⟨_,call169,@Hq⟩
theorem Hp(h p jg)(hp:aw.ok h p jg):Ret prog 103 [.agg (aw.cells p jg).toArray] h (.bool (iS p)):=by
 refine sT func103 U ntmps103 U λX hM hX hF=>?_
 generalize hz:(iS p)=z;have hs:=hz.symm
 have HA:=h0 [1] 3 (λs1 i=>(iS.L1 p (iS.K1 p)) s1)
 exact W
instance kR170:Cl 170:=⟨call170⟩
theorem An(rec:aj->Bool->Bool)(h)(x:aj)(gR upto)(hrec:∀(h:HF)(qx:aj)(mz:eC)(qupto:Bool)(hqx:aj.ok h qx mz)(_:qx.dep<x.dep),Ret prog 170 [.agg (aj.cells qx mz).toArray,.bool qupto] h (.bool (rec qx qupto)))(hx:aj.ok h x gR):Ret prog 170 [.agg (aj.cells x gR).toArray,.bool upto] h (.bool (aR.F rec x upto)):=by
 refine sT func170 U ntmps170 U λX hM hX hF=>?_
 generalize hz:(aR.F rec x upto)=z;have hs:=hz.symm
 have HA:=h0 [1,2] 5 (λs1 i=>(aR.L1 rec upto (aR.K1 x upto)) s1)
 exact W
theorem rf:∀(m:Nat)(h:HF)(x:aj)(gR:eC)(upto:Bool)(_:x.dep<=m)(hx:aj.ok h x gR),Ret prog 170 [.agg (aj.cells x gR).toArray,.bool upto] h (.bool (aR.go m x upto))
 |0,h,x,gR,upto,hd,hx=>absurd hd (Nat.not_le.2 (aj.ni _))
 |m+1,h,x,gR,upto,hd,hx=>An (aR.go m) h x gR upto (λqh_ qx mz qupto qhx qd=>rf m qh_ qx mz qupto ob qhx) hx
theorem BL(h x gR upto)(hx:aj.ok h x gR):Ret prog 170 [.agg (aj.cells x gR).toArray,.bool upto] h (.bool (aR x upto)):=rf _ h x gR upto (kE _) hx
instance kC170:Ct 170:=⟨_,call170,@BL⟩
theorem FS(h p jg)(hp:aw.ok h p jg):Ret prog 104 [.agg (aw.cells p jg).toArray] h (.bool (gN p)):=by
 refine sT func104 U ntmps104 U λX hM hX hF=>?_
 generalize hz:(gN p)=z;have hs:=hz.symm
 have HA:=h0 [1] 3 (λs1 i=>(gN.L1 p (gN.K1 p)) s1 i)
 exact W
theorem Lw(h:p:=by
  let z6:Nat×Obj:=(b3,O [I x.Kind,I x.N,I (fU aC x.Name),.string x.Name,.slice rD ns.length rC] 59)
  let z15:Nat×Obj:=(b5,O [I ((rec aC y1).Kind),I ((rec aC y1).N),I ((rec aC y1).No),.string ((rec aC y1).Name),.slice rr4.oV ((rec aC y1).L.length) rr4.pk] 59)
  exact tn 10 U (eB aj.dg ([z15,z6,z1,z3]) ([]) (λG=>[z15,z6,z1,z3]++G) ap (λ_=>ap) qI ty59 zc59 U bytes59 (AY.mono aj.aD hle4) U U (ic 0 U (cE (R:=aj.rp) (rec aC y1) U ⟨rr4,U,ok4⟩)) lo lo (λob2 oc2 G2 gr2=>⟨jn,qB [11] U (tn 12 U (lM 1 ty57 U U U U U U (⟨jn,bO kr (qT 3 U (oi i1 U (an (cu (L':=[(b3,O [I x.Kind,I x.N,I (fU aC x.Name),.string x.Name,.slice ob2 ((ns++[(rec aC y1)]).length) oc2] 59),z1,z3]++G2) js (ag1 ((ns++[(rec aC y1)]),ob2,oc2,G2,h4) hs5 ⟨gr2,lo,(hl1.t hle4)⟩)))))⟩)))⟩))):p:=h
theorem Lv(h:p:=by
  let z10:Nat×Obj:=(b3,O [I x.Kind,I x.N,I 0,.string x.Name,.slice ry nr.length rx] 59)
  let z18:Nat×Obj:=(b9,O [I ((rec aC y2).Kind),I ((rec aC y2).N),I ((rec aC y2).No),.string ((rec aC y2).Name),.slice rr9.oV ((rec aC y2).L.length) rr9.pk] 59)
  exact tn 10 U (eB aj.dg ([z18,z10,z2,z4]) ([]) (λG=>[z18,z10,z2,z4]++G) ap (λ_=>ap) qI ty59 zc59 U bytes59 (AV.mono aj.aD hle9) U U (ic 0 U (cE (R:=aj.rp) (rec aC y2) U ⟨rr9,U,ok9⟩)) lo lo (λob6 oc6 G6 gr6=>⟨jn,qB [11] U (tn 12 U (lM 1 ty57 U U U U U U (⟨jn,bO kr (qT 3 U (oi i2 U (an (cu (L':=[(b3,O [I x.Kind,I x.N,I 0,.string x.Name,.slice ob6 ((nr++[(rec aC y2)]).length) oc6] 59),z2,z4]++G6) js (ag2 ((nr++[(rec aC y2)]),ob6,oc6,G6,h9) hs8 ⟨gr6,lo,(hl2.t hle9)⟩)))))⟩)))⟩))):p:=h
theorem CB(rec:List ByteArray->aj->aj)(h aC dQ dP)(x:aj)(gR)(hrec:∀(h:HF)(qoffices:List ByteArray)(lC:Option Addr)(lB:Nat)(qx:aj)(mz:eC)(hqoffices:SlC WN h lC lB qoffices)(hqx:aj.ok h qx mz)(hsz:qx.dep<=2000000)(_:qx.dep<x.dep),j6 prog 105 [.slice lC qoffices.length lB,.agg (aj.cells qx mz).toArray] h (λv h'=>∃(rr0:eC),v=.agg (aj.cells (rec qoffices qx) rr0).toArray/\aj.ok h' (rec qoffices qx) rr0))(gY:SlC WN h dQ dP aC)(hx:aj.ok h x gR)(hsz:x.dep<=2000000):j6 prog 105 [.slice dQ aC.length dP,.agg (aj.cells x gR).toArray] h (λv h'=>∃(rr0:eC),v=.agg (aj.cells (av.F rec aC x) rr0).toArray/\aj.ok h' (av.F rec aC x) rr0):=by
 refine cX func105 U ntmps105 U λX hM hX=>?_
 have hs0:=@rfl _ (av.F rec aC x)
 have hln:=aj.OI x
 refine sr (eO (λb1=>bH zc59 (λb2=>qO 3 U (dy 1 ty59 U U U (bH zc59 (λb3=>bE 0 ty59 U U U U U U (qL 4 [] U (cW 0 ty3 U U U U U U (qL 8 [2] U (gy 4 [12,13,14,15,16] 12 16 (x.Kind==2) U (λc1 hk1=>?_) (λe=>?_)))))))))))
 .exact qL 4 [2] U (hk1 _ U)
 refine bo (aH hs0 U (λc2 hs1=>?_) (λc2 hs2=>?_))
 .refine qK 4 [2] U (aS call171 (Ao _ _ _ _ x.Name gY) U (qL 1 [] U (cW 0 ty3 U U U U U U (qL 4 [] U (cW 0 ty57 U U U U U U (qO 6 U ?_))))))
  let z1:Nat×Obj:=(b2,O [I 0,I 0,I 0,.string (⟨#[]⟩:ByteArray),zSN] 59)
  let z3:Nat×Obj:=(b1,O (aj.cells x gR) 59)
  refine lp2 x.L (λi w=>[(0,.slice dQ aC.length dP),(3,Q b1),(4,Q b2),(5,Q b3),(6,I (i:Int))]) (λw=>w.2.2.2.2) (λw=>[(b3,O [I x.Kind,I x.N,I (fU aC x.Name),.string x.Name,.slice w.2.1 w.1.length w.2.2.1] 59),z1,z3]++(w.2.2.2.1)) (λi w=>cN aj.rp 59 w.2.2.2.2 w.1 w.2.1 w.2.2.1 w.2.2.2.1/\w.1.length<=0+i/\xJ h w.2.2.2.2) (λs1 i w=>(av.L1 rec aC (av.K1 aC x)) s1 w.1) ([],none,0,[],h) hx.list.1.1 hs1 ⟨cN.nil,lo,lf⟩ ?_ ?_ ?_
  .rintro i1 ⟨ns,rD,rC,D0,hh1⟩ iP hs3 ⟨AY,Ir,hl1⟩ e
   try dsimp only at AY Ir hl1
   let z5:Nat×Obj:=(b3,O [I x.Kind,I x.N,I (fU aC x.Name),.string x.Name,.slice rD ns.length rC] 59)
   let z19:Nat×Obj:=(b2,O [I x.Kind,I x.N,I (fU aC x.Name),.string x.Name,.slice rD ns.length rC] 59)
   refine sr (dy 0 ty59 U U U (bE 1 ty59 U U U U U U (jm (L':=[z5,z19,z3]++(D0)) U (bo (fQ aj.aD ([z5,z19,z3]) D0 ([]) ap hM AY (λh3 hle3 sl2=>?_))))))
   have hs4:av.F rec aC x=(aj.mk x.Kind x.N (fU aC x.Name) x.Name ns):=hs3
   exact lL [.agg (xB [I x.Kind,I x.N,I (fU aC x.Name),.string x.Name,.slice rD ns.length rC])] func105 U ⟨⟨1,_,_,_,_,U,U,.inl ⟨ty59,U⟩⟩,trivial⟩ ⟨(eC.mk rD rC),congrArg (λr:aj=>(.agg (aj.cells r (eC.mk rD rC)).toArray:Value)) hs4.symm,(by rw[hs4];exact(show aj.ok h3 (aj.mk x.Kind x.N (fU aC x.Name) x.Name ns) (eC.mk rD rC)from aj.ok.of sl2))⟩
  .rintro i1 ⟨ns,rD,rC,D0,hh1⟩ y1 rz1 hd1 fY dz iT mF hs5 ⟨AY,Ir,hl1⟩ hx1 ag1 e
   try dsimp only at AY Ir hl1
   have hdy:=aj.lj (hZ hd1)
   refine qK 7 [2] U (tO fY U (qO 5 U (eY ([z1,z3]) mixed kr jn (λgK _=>qB [0,2,3] U (tf 4 U U (rj 1 ty57 U U U) (tm 5 U (oK 6 gK jn qI ty59 (hx.list.mono aj.aD hl1).1 (nthZ dz) (gI dz) U U U U kr (λq2 cs2 A2 ln2 rr3=>?_))))))))
   obtain⟨r2,rfl,ok3⟩:=rr3
   refine tf 7 U U (λ_ _ hj=>mW ty59 (A2.mono hj.1) U U) ?_
   refine nk 1 8 kr U U ?_ ?_ 
   .refine eG (vX ty57 U (pT (i:=0) U) U) (⟨jn,tn 8 U (cx Md (hrec _ _ _ _ _ _ (gY.mono Xl hl1) ok3 ob (aj.lj (hZ hd1))) U (λv2 h4 hle4 hp2=>?_))⟩)
    obtain⟨rr4,rfl,ok4⟩:=hp2
    refine⟨jl hle4,tu hle4 (tn 9 U (bN (cells:=[I ((rec aC y1).Kind),I ((rec aC y1).N),I ((rec aC y1).No),.string ((rec aC y1).Name),.slice rr4.oV ((rec aC y1).L.length) rr4.pk]) qI ty59 zc59 U U kr (λb5=>⟨jn,?_⟩)))⟩
    exact Lw
   refine cx Md (hrec _ _ _ _ _ _ (gY.mono Xl hl1) ok3 ob (aj.lj (hZ hd1))) U (λv3 h4 hle4 hp3=>?_)
   obtain⟨rr4,rfl,ok4⟩:=hp3
   refine⟨jl hle4,tu hle4 ?_⟩
   refine nk 1 9 kr U U ?_ ?_ 
   .refine eG (vX ty57 U (pT (i:=0) U) U) (⟨jn,tn 9 U (bN (cells:=[I ((rec aC y1).Kind),I ((rec aC y1).N),I ((rec aC y1).No),.string ((rec aC y1).Name),.slice rr4.oV ((rec aC y1).L.length) rr4.pk]) qI ty59 zc59 U U kr (λb5=>⟨jn,?_⟩))⟩)
    exact Lw
   refine bN (cells:=[I ((rec aC y1).Kind),I ((rec aC y1).N),I ((rec aC y1).No),.string ((rec aC y1).Name),.slice rr4.oV ((rec aC y1).L.length) rr4.pk]) qI ty59 zc59 U U kr (λb5=>⟨jn,tn 1 U (eG (vX ty57 U (pT (i:=1) U) U) (⟨jn,?_⟩))⟩)
   exact Lw
  rintro i1 ⟨ns,rD,rC,D0,hh1⟩ hd1 ml hx e
  exact qK 7 [2] U (fO ml U (qO 3 U (hx _ rd)))
 refine qK 4 [] U (cW 0 ty57 U U U U U U (qO 6 U ?_))
 let z2:Nat×Obj:=(b2,O [I 0,I 0,I 0,.string (⟨#[]⟩:ByteArray),zSN] 59)
 let z4:Nat×Obj:=(b1,O (aj.cells x gR) 59)
 refine lp2 x.L (λi w=>[(0,.slice dQ aC.length dP),(3,Q b1),(4,Q b2),(5,Q b3),(6,I (i:Int))]) (λw=>w.2.2.2.2) (λw=>[(b3,O [I x.Kind,I x.N,I 0,.string x.Name,.slice w.2.1 w.1.length w.2.2.1] 59),z2,z4]++(w.2.2.2.1)) (λi w=>cN aj.rp 59 w.2.2.2.2 w.1 w.2.1 w.2.2.1 w.2.2.2.1/\w.1.length<=0+i/\xJ h w.2.2.2.2) (λs2 i w=>(av.L2 rec aC (av.K2 x)) s2 w.1) ([],none,0,[],h) hx.list.1.1 hs2 ⟨cN.nil,lo,lf⟩ ?_ ?_ ?_
 .rintro i2 ⟨nr,ry,rx,DV,hh2⟩ DP hs6 ⟨AV,Il,hl2⟩ e
  try dsimp only at AV Il hl2
  let z9:Nat×Obj:=(b3,O [I x.Kind,I x.N,I 0,.string x.Name,.slice ry nr.length rx] 59)
  let z20:Nat×Obj:=(b2,O [I x.Kind,I x.N,I 0,.string x.Name,.slice ry nr.length rx] 59)
  refine sr (dy 0 ty59 U U U (bE 1 ty59 U U U U U U (jm (L':=[z9,z20,z4]++(DV)) U (bo (fQ aj.aD ([z9,z20,z4]) DV ([]) ap hM AV (λh8 hle8 sl4=>?_))))))
  have hs7:av.F rec aC x=(aj.mk x.Kind x.N 0 x.Name nr):=hs6
  exact lL [.agg (xB [I x.Kind,I x.N,I 0,.string x.Name,.slice ry nr.length rx])] func105 U ⟨⟨1,_,_,_,_,U,U,.inl ⟨ty59,U⟩⟩,trivial⟩ ⟨(eC.mk ry rx),congrArg (λr:aj=>(.agg (aj.cells r (eC.mk ry rx)).toArray:Value)) hs7.symm,(by rw[hs7];exact(show aj.ok h8 (aj.mk x.Kind x.N 0 x.Name nr) (eC.mk ry rx)from aj.ok.of sl4))⟩
 .rintro i2 ⟨nr,ry,rx,DV,hh2⟩ y2 rz2 hd2 zy tR Ib OP hs8 ⟨AV,Il,hl2⟩ hx2 ag2 e
  try dsimp only at AV Il hl2
  have hdy:=aj.lj (hZ hd2)
  refine qK 7 [2] U (tO zy U (qO 5 U (eY ([z2,z4]) mixed kr jn (λlZ _=>qB [0,2,3] U (tf 4 U U (rj 1 ty57 U U U) (tm 5 U (oK 6 lZ jn qI ty59 (hx.list.mono aj.aD hl2).1 (nthZ tR) (gI tR) U U U U kr (λq4 cs4 A4 ln4 rr8=>?_))))))))
  obtain⟨r4,rfl,ok8⟩:=rr8
  refine tf 7 U U (λ_ _ hj=>mW ty59 (A4.mono hj.1) U U) ?_
  refine nk 1 8 kr U U ?_ ?_ 
  .refine eG (vX ty57 U (pT (i:=0) U) U) (⟨jn,tn 8 U (cx Md (hrec _ _ _ _ _ _ (gY.mono Xl hl2) ok8 ob (aj.lj (hZ hd2))) U (λv5 h9 hle9 hp5=>?_))⟩)
   obtain⟨rr9,rfl,ok9⟩:=hp5
   refine⟨jl hle9,tu hle9 (tn 9 U (bN (cells:=[I ((rec aC y2).Kind),I ((rec aC y2).N),I ((rec aC y2).No),.string ((rec aC y2).Name),.slice rr9.oV ((rec aC y2).L.length) rr9.pk]) qI ty59 zc59 U U kr (λb9=>⟨jn,?_⟩)))⟩
   exact Lv
  refine cx Md (hrec _ _ _ _ _ _ (gY.mono Xl hl2) ok8 ob (aj.lj (hZ hd2))) U (λv6 h9 hle9 hp6=>?_)
  obtain⟨rr9,rfl,ok9⟩:=hp6
  refine⟨jl hle9,tu hle9 ?_⟩
  refine nk 1 9 kr U U ?_ ?_ 
  .refine eG (vX ty57 U (pT (i:=0) U) U) (⟨jn,tn 9 U (bN (cells:=[I ((rec aC y2).Kind),I ((rec aC y2).N),I ((rec aC y2).No),.string ((rec aC y2).Name),.slice rr9.oV ((rec aC y2).L.length) rr9.pk]) qI ty59 zc59 U U kr (λb9=>⟨jn,?_⟩))⟩)
   exact Lv
  refine bN (cells:=[I ((rec aC y2).Kind),I ((rec aC y2).N),I ((rec aC y2).No),.string ((rec aC y2).Name),.slice rr9.oV ((rec aC y2).L.length) rr9.pk]) qI ty59 zc59 U U kr (λb9=>⟨jn,tn 1 U (eG (vX ty57 U (pT (i:=1) U) U) (⟨jn,?_⟩))⟩)
  exact Lv
 rintro i2 ⟨nr,ry,rx,DV,hh2⟩ hd2 SI hx e
 exact qK 7 [2] U (fO SI U (qO 3 U (hx _ rd)))
theorem sN:∀(m:Nat)(h:HF)(aC:List ByteArray)(dQ:Option Addr)(dP:Nat)(x:aj)(gR:eC)(_:x.dep<=m)(gY:SlC WN h dQ dP aC)(hx:aj.ok h x gR)(hsz:x.dep<=2000000),j6 prog 105 [.slice dQ aC.length dP,.agg (aj.cells x gR).toArray] h (λv h'=>∃(rr0:eC),v=.agg (aj.cells (av.go m aC x) rr0).toArray/\aj.ok h' (av.go m aC x) rr0)
 |0,h,aC,dQ,dP,x,gR,hd,gY,hx,hsz=>absurd hd (Nat.not_le.2 (aj.ni _))
 |m+1,h,aC,dQ,dP,x,gR,hd,gY,hx,hsz=>CB (av.go m) h aC dQ dP x gR (λqh_ qoffices lC lB qx mz qhoffices qhx qhsz qd=>sN m qh_ qoffices lC lB qx mz ob qhoffices qhx qhsz) gY hx hsz
theorem wi(h aC dQ dP x gR)(gY:SlC WN h dQ dP aC)(hx:aj.ok h x gR)(hsz:x.dep<=2000000):j6 prog 105 [.slice dQ aC.length dP,.agg (aj.cells x gR).toArray] h (λv h'=>∃(rr0:eC),v=.agg (aj.cells (av aC x) rr0).toArray/\aj.ok h' (av aC x) rr0):=sN _ h aC dQ dP x gR (kE _) gY hx hsz
theorem xq(h p jg)(hp:aw.ok h p jg)(hsm:smP p):j6 prog 52 [.agg (aw.cells p jg).toArray] h (λv h'=>∃(rr0:jv),v=.tuple #[.agg (aw.cells ((eo p).1) rr0).toArray,I ((eo p).2)]/\aw.ok h' ((eo p).1) rr0):=by
 refine cX Pe U ntmps52 U λX hM hX=>?_
 have hs0:=@rfl _ (eo p)
 have hsc:=hsm.change
 have hsr:=hsm.rules
 refine sr (eO (λb1=>bH zc61 (λb2=>qO 5 U (dy 1 ty61 U U U (aS call102 (Dt _ _ _ hp) U (bo (aH hs0 U (λc1 hs1=>?_) (λc1 hs2=>?_))))))))
 .refine sr (aI (ie (cells:=[.string (⟨#[]⟩:ByteArray),zSN,zSN,zSN,I 0,I 0,I 0,.string (⟨#[]⟩:ByteArray),zSN,I 0]) (places:=[(0,1),(1,1),(2,1),(3,1),(4,5),(9,1)]) Py zc61 kr kr (bE 0 ty61 U U U U U U (an ?_))))
  have hs3:eo p=((aw.mk (⟨#[]⟩:ByteArray) ([]) ([]) ([]) (aj.mk 0 0 0 (⟨#[]⟩:ByteArray) ([])) 0),2):=hs1
  exact lL [.agg (xB [.string (⟨#[]⟩:ByteArray),zSN,zSN,zSN,I 0,I 0,I 0,.string (⟨#[]⟩:ByteArray),zSN,I 0]),I 2] Pe U ⟨⟨0,_,_,_,_,U,U,.inl ⟨ty61,U⟩⟩,U,trivial⟩ ⟨(jv.mk none 0 none 0 none 0 (eC.mk none 0)),congrArg (λr:(aw×Int)=>(.tuple #[.agg (aw.cells r.1 (jv.mk none 0 none 0 none 0 (eC.mk none 0))).toArray,I r.2]:Value)) hs3.symm,(by rw[hs3];exact(show aw.ok h (aw.mk (⟨#[]⟩:ByteArray) ([]) ([]) ([]) (aj.mk 0 0 0 (⟨#[]⟩:ByteArray) ([])) 0) (jv.mk none 0 none 0 none 0 (eC.mk none 0))from⟨zG,zG,zG,(show aj.ok h (aj.mk 0 0 0 (⟨#[]⟩:ByteArray) ([])) (eC.mk none 0)from aj.ok.of zG)⟩))⟩
 refine qT 4 U (dy 1 ty61 U U U (aS call103 (Hp _ _ _ hp) U (qO 2 U (aH hs2 U (λc2 hs4=>?_) (λc2 hs5=>?_)))))
 .refine sr (aI (ie (cells:=[.string (⟨#[]⟩:ByteArray),zSN,zSN,zSN,I 0,I 0,I 0,.string (⟨#[]⟩:ByteArray),zSN,I 0]) (places:=[(0,1),(1,1),(2,1),(3,1),(4,5),(9,1)]) Py zc61 kr kr (bE 0 ty61 U U U U U U (an ?_))))
  have hs6:eo p=((aw.mk (⟨#[]⟩:ByteArray) ([]) ([]) ([]) (aj.mk 0 0 0 (⟨#[]⟩:ByteArray) ([])) 0),201):=hs4
  exact lL [.agg (xB [.string (⟨#[]⟩:ByteArray),zSN,zSN,zSN,I 0,I 0,I 0,.string (⟨#[]⟩:ByteArray),zSN,I 0]),I 201] Pe U ⟨⟨0,_,_,_,_,U,U,.inl ⟨ty61,U⟩⟩,U,trivial⟩ ⟨(jv.mk none 0 none 0 none 0 (eC.mk none 0)),congrArg (λr:(aw×Int)=>(.tuple #[.agg (aw.cells r.1 (jv.mk none 0 none 0 none 0 (eC.mk none 0))).toArray,I r.2]:Value)) hs6.symm,(by rw[hs6];exact(show aw.ok h (aw.mk (⟨#[]⟩:ByteArray) ([]) ([]) ([]) (aj.mk 0 0 0 (⟨#[]⟩:ByteArray) ([])) 0) (jv.mk none 0 none 0 none 0 (eC.mk none 0))from⟨zG,zG,zG,(show aj.ok h (aj.mk 0 0 0 (⟨#[]⟩:ByteArray) ([])) (eC.mk none 0)from aj.ok.of zG)⟩))⟩
 refine qT 4 U (dy 1 ty61 U U U (aS call104 (FS _ _ _ hp) U (qO 2 U (aH hs5 U (λc3 hs7=>?_) (λc3 hs8=>?_)))))
 .refine sr (aI (ie (cells:=[.string (⟨#[]⟩:ByteArray),zSN,zSN,zSN,I 0,I 0,I 0,.string (⟨#[]⟩:ByteArray),zSN,I 0]) (places:=[(0,1),(1,1),(2,1),(3,1),(4,5),(9,1)]) Py zc61 kr kr (bE 0 ty61 U U U U U U (an ?_))))
  have hs9:eo p=((aw.mk (⟨#[]⟩:ByteArray) ([]) ([]) ([]) (aj.mk 0 0 0 (⟨#[]⟩:ByteArray) ([])) 0),200):=hs7
  exact lL [.agg (xB [.string (⟨#[]⟩:ByteArray),zSN,zSN,zSN,I 0,I 0,I 0,.string (⟨#[]⟩:ByteArray),zSN,I 0]),I 200] Pe U ⟨⟨0,_,_,_,_,U,U,.inl ⟨ty61,U⟩⟩,U,trivial⟩ ⟨(jv.mk none 0 none 0 none 0 (eC.mk none 0)),congrArg (λr:(aw×Int)=>(.tuple #[.agg (aw.cells r.1 (jv.mk none 0 none 0 none 0 (eC.mk none 0))).toArray,I r.2]:Value)) hs9.symm,(by rw[hs9];exact(show aw.ok h (aw.mk (⟨#[]⟩:ByteArray) ([]) ([]) ([]) (aj.mk 0 0 0 (⟨#[]⟩:ByteArray) ([])) 0) (jv.mk none 0 none 0 none 0 (eC.mk none 0))from⟨zG,zG,zG,(show aj.ok h (aj.mk 0 0 0 (⟨#[]⟩:ByteArray) ([])) (eC.mk none 0)from aj.ok.of zG)⟩))⟩
 refine qT 3 U (dy 1 ty61 U U U (bH zc61 (λb3=>bE 0 ty61 U U U U U U (qL 4 [] U (cW 0 ty56 U U U U U U (qO 6 U ?_))))))
 let z4:Nat×Obj:=(b2,O [.string (⟨#[]⟩:ByteArray),zSN,zSN,zSN,I 0,I 0,I 0,.string (⟨#[]⟩:ByteArray),zSN,I 0] 61)
 let z7:Nat×Obj:=(b1,O (aw.cells p jg) 61)
 refine lp2 p.dp (λi w=>[(1,Q b1),(2,Q b2),(4,Q b3),(5,I (i:Int))]) (λw=>w.2.2.2.2) (λw=>[(b3,O [.string p.Name,.slice jg.kg p.dN.length jg.ke,.slice jg.ib p.aA.length jg.ia,.slice w.2.1 w.1.length w.2.2.1,I p.aO.Kind,I p.aO.N,I p.aO.No,.string p.aO.Name,.slice jg.aO.oV p.aO.L.length jg.aO.pk,I p.Mode] 61),z4,z7]++(w.2.2.2.1)) (λi w=>cN fC.rp 65 w.2.2.2.2 w.1 w.2.1 w.2.2.1 w.2.2.2.1/\w.1.length<=0+i/\xJ h w.2.2.2.2) (λs1 i w=>(eo.L1 p (eo.K1 p)) s1 i w.1) ([],none,0,[],h) hp.dp.1.1 hs8 ⟨cN.nil,lo,lf⟩ ?_ ?_ ?_
 .rintro i1 ⟨nt,rF,rE,Ba,hh1⟩ iP hs10 ⟨AZ,Is,hl1⟩ e
  try dsimp only at AZ Is hl1
  refine qK 5 [2] U (dy 2 ty59 U U U (aI (cx Md (wi _ _ _ _ _ _ (hp.aA.mono Xl hl1) (hp.aO.mono hl1) ob) U (λv3 h4 hle4 hp3=>?_))))
  obtain⟨rr4,rfl,ok4⟩:=hp3
  let z2:Nat×Obj:=(b3,O [.string p.Name,.slice jg.kg p.dN.length jg.ke,.slice jg.ib p.aA.length jg.ia,.slice rF nt.length rE,I ((av p.aA p.aO).Kind),I ((av p.aA p.aO).N),I ((av p.aA p.aO).No),.string ((av p.aA p.aO).Name),.slice rr4.oV ((av p.aA p.aO).L.length) rr4.pk,I p.Mode] 61)
  let z3:Nat×Obj:=(b2,O [.string p.Name,.slice jg.kg p.dN.length jg.ke,.slice jg.ib p.aA.length jg.ia,.slice rF nt.length rE,I ((av p.aA p.aO).Kind),I ((av p.aA p.aO).N),I ((av p.aA p.aO).No),.string ((av p.aA p.aO).Name),.slice rr4.oV ((av p.aA p.aO).L.length) rr4.pk,I p.Mode] 61)
  refine qL 1 [] U (cW 0 ty59 U U U U U U (qO 3 U (dy 0 ty61 U U U (bE 1 ty61 U U U U U U (jm (L':=[z2,z3,z7]++(Ba)) U (an (fQ fC.aD ([z2,z3,z7]) Ba ([]) ap hM (AZ.mono fC.aD hle4) (λh5 hle5 sl2=>?_))))))))
  have hs11:eo p=((aw.mk p.Name p.dN p.aA nt (aj.mk ((av p.aA p.aO).Kind) ((av p.aA p.aO).N) ((av p.aA p.aO).No) ((av p.aA p.aO).Name) ((av p.aA p.aO).L)) p.Mode),0):=hs10
  exact lL [.agg (aw.cells (aw.mk p.Name p.dN p.aA nt (aj.mk ((av p.aA p.aO).Kind) ((av p.aA p.aO).N) ((av p.aA p.aO).No) ((av p.aA p.aO).Name) ((av p.aA p.aO).L)) p.Mode) (jv.mk jg.kg jg.ke jg.ib jg.ia rF rE (eC.mk rr4.oV rr4.pk))).toArray,I 0] Pe U ⟨⟨1,_,_,_,_,U,U,.inl ⟨ty61,U⟩⟩,U,trivial⟩ ⟨(jv.mk jg.kg jg.ke jg.ib jg.ia rF rE (eC.mk rr4.oV rr4.pk)),congrArg (λr:(aw×Int)=>(.tuple #[.agg (aw.cells r.1 (jv.mk jg.kg jg.ke jg.ib jg.ia rF rE (eC.mk rr4.oV rr4.pk))).toArray,I r.2]:Value)) hs11.symm,(by rw[hs11];exact(show aw.ok h5 (aw.mk p.Name p.dN p.aA nt (aj.mk ((av p.aA p.aO).Kind) ((av p.aA p.aO).N) ((av p.aA p.aO).No) ((av p.aA p.aO).Name) ((av p.aA p.aO).L)) p.Mode) (jv.mk jg.kg jg.ke jg.ib jg.ia rF rE (eC.mk rr4.oV rr4.pk))from⟨(hp.dN.mono Xl ((hl1.t hle4).t hle5)),(hp.aA.mono Xl ((hl1.t hle4).t hle5)),sl2,(show aj.ok h5 (aj.mk ((av p.aA p.aO).Kind) ((av p.aA p.aO).N) ((av p.aA p.aO).No) ((av p.aA p.aO).Name) ((av p.aA p.aO).L)) (eC.mk rr4.oV rr4.pk)from aj.ok.of (ok4.list.mono aj.aD hle5))⟩))⟩
 .rintro i1 ⟨nt,rF,rE,Ba,hh1⟩ y1 rz1 hd1 fY dz iT mF hs12 ⟨AZ,Is,hl1⟩ hx1 ag1 e
  try dsimp only at AZ Is hl1
  have hsy:=hsm.2.1 y1 (hZ hd1)
  refine qK 7 [2] U (tO fY U (qL 9 [2] U ?_))
  let z1:Nat×Obj:=(b3,O [.string p.Name,.slice jg.kg p.dN.length jg.ke,.slice jg.ib p.aA.length jg.ia,.slice rF nt.length rE,I p.aO.Kind,I p.aO.N,I p.aO.No,.string p.aO.Name,.slice jg.aO.oV p.aO.L.length jg.aO.pk,I p.Mode] 61)
  refine bp (aI (iR GB ty65 (hp.dp.mono fC.aD hl1).1 dz U U U (λ_ _ _ e=>e) (λq2 r2 A2 ok5=>eU ty65 A2 U U (bH zc65 (λb6=>bE 0 ty65 U U U U U U (jm (L':=[(b6,O (fC.cells y1 r2) 65),z1,z4,z7]++(Ba)) U (qL 5 [] U (cW 0 ty3 U U U U U U (qL 6 [3] U (dy 0 ty59 U U U (aI (cx Md (wi _ _ _ _ _ _ (hp.aA.mono Xl hl1) ok5.aj ob) U (λv4 h6 hle6 hp4=>?_)))))))))))))
  obtain⟨rr6,rfl,ok6⟩:=hp4
  refine qL 1 [] U (cW 0 ty59 U U U U U U (qL 4 [1] U (dy 0 ty65 U U U (aI (bN (cells:=[.string y1.Kind,I (i1:Int),I y1.iV,I ((av p.aA y1.aj).Kind),I ((av p.aA y1.aj).N),I ((av p.aA y1.aj).No),.string ((av p.aA y1.aj).Name),.slice rr6.oV ((av p.aA y1.aj).L.length) rr6.pk]) GB ty65 zc65 U U kr (λb7=>?_))))))
  let z5:Nat×Obj:=(b7,O [.string y1.Kind,I (i1:Int),I y1.iV,I ((av p.aA y1.aj).Kind),I ((av p.aA y1.aj).N),I ((av p.aA y1.aj).No),.string ((av p.aA y1.aj).Name),.slice rr6.oV ((av p.aA y1.aj).L.length) rr6.pk] 65)
  let z6:Nat×Obj:=(b6,O [.string y1.Kind,I (i1:Int),I y1.iV,I ((av p.aA y1.aj).Kind),I ((av p.aA y1.aj).N),I ((av p.aA y1.aj).No),.string ((av p.aA y1.aj).Name),.slice rr6.oV ((av p.aA y1.aj).L.length) rr6.pk] 65)
  refine aI (eB fC.dg ([z5,z6,z1,z4,z7]) ([]) (λG=>[z5,z6,z1,z4,z7]++G) ap (λ_=>ap) GB ty65 zc65 U bytes65 (AZ.mono fC.aD hle6) U U (ic 0 U (cE (R:=fC.rp) (fC.mk y1.Kind (i1:Int) y1.iV (aj.mk ((av p.aA y1.aj).Kind) ((av p.aA y1.aj).N) ((av p.aA y1.aj).No) ((av p.aA y1.aj).Name) ((av p.aA y1.aj).L))) U ⟨(Co.mk (eC.mk rr6.oV rr6.pk)),U,(show fC.ok h6 (fC.mk y1.Kind (i1:Int) y1.iV (aj.mk ((av p.aA y1.aj).Kind) ((av p.aA y1.aj).N) ((av p.aA y1.aj).No) ((av p.aA y1.aj).Name) ((av p.aA y1.aj).L))) (Co.mk (eC.mk rr6.oV rr6.pk))from⟨(show aj.ok h6 (aj.mk ((av p.aA y1.aj).Kind) ((av p.aA y1.aj).N) ((av p.aA y1.aj).No) ((av p.aA y1.aj).Name) ((av p.aA y1.aj).L)) (eC.mk rr6.oV rr6.pk)from aj.ok.of ok6.list)⟩)⟩)) lo lo (λob2 oc2 G2 gr2=>qL 1 [] U (cW 2 ty56 U U U U U U (qO 4 U (oi i1 U (an (cu (L':=[(b3,O [.string p.Name,.slice jg.kg p.dN.length jg.ke,.slice jg.ib p.aA.length jg.ia,.slice ob2 ((nt++[(fC.mk y1.Kind (i1:Int) y1.iV (aj.mk ((av p.aA y1.aj).Kind) ((av p.aA y1.aj).N) ((av p.aA y1.aj).No) ((av p.aA y1.aj).Name) ((av p.aA y1.aj).L)))]).length) oc2,I p.aO.Kind,I p.aO.N,I p.aO.No,.string p.aO.Name,.slice jg.aO.oV p.aO.L.length jg.aO.pk,I p.Mode] 61),z4,z7]++G2) js ?_)))))))
  exact ag1 ((nt++[(fC.mk y1.Kind (i1:Int) y1.iV (aj.mk ((av p.aA y1.aj).Kind) ((av p.aA y1.aj).N) ((av p.aA y1.aj).No) ((av p.aA y1.aj).Name) ((av p.aA y1.aj).L)))]),ob2,oc2,G2,h6) hs12 ⟨gr2,lo,(hl1.t hle6)⟩
 rintro i1 ⟨nt,rF,rE,Ba,hh1⟩ hd1 ml hx e
 exact qK 7 [2] U (fO ml U (qO 3 U (hx _ rd)))
instance kC52:Ct 52:=⟨_,call52,@xq⟩
end Go.Sg
