import Derived.Test.YtknehchipcogdaaGreatDoorJ21
import Derived.Test.YtknehchipcogdaaGreatDoorJ23
import Derived.Test.YtknehchipcogdaaGreatDoorJ24
import Derived.Test.YtknehchipcogdaaGreatDoorJ25
/- Part of JudgeSpec. -/
set_option linter.unusedVariables false
set_option linter.unusedSimpArgs false
set_option maxRecDepth 100000
open List renaming length_cons→xA,not_mem_nil→vA,length_append→kA,toArray→vB,append_assoc→zC,mem_cons→vC,nil_append→qD
open Go.Sg.Rp renaming int→jB,bG→vJ,fR→XZ,str→X5,kv→YS,bool→vV
open Nat renaming le_refl→zE,lt_or_ge→vR
open Go.Value renaming int→jC,func→zQ
namespace Go.Sg
variable {p:Prop}{q:ae->Bool}
open Go.Proofs Go.Proofs.Tryz
set_option maxHeartbeats 4000000
theorem rK(h s c):Ret prog 423 [.string s,Y c] h (I (mz s c)):=by
 refine sT func423 U ntmps423 U λX hM hX hF=>?_
 have hs0:=@rfl _ (mz s c)
 exact sr (qO 6 U (aS (fU (Uf U U) (an (nretP [I (idxByte s c)] (ci hs0))))))
instance k423:Ct 423:=⟨_,call423,@rK⟩
theorem uj(h x0 W1)(hx0:ai.ok h x0 W1):Ret prog 442 [.agg (ai.cells x0 W1).toArray] h (.bool (sQ x0)):=by
 refine sVv func442 ntmps442 ?_
 generalize hz:(sQ x0)=z
 exact W
instance k442:Ct 442:=⟨_,call442,@uj⟩
theorem Fs(h x):Ret prog 161 [I x] h (.bool (cmp_isNaN_int x)):=by
 refine sT XH U ntmps161 U λX hM hX hF=>?_
 generalize hz:(cmp_isNaN_int x)=z;have hs:=hz.symm
 exact W
instance k161:Ct 161:=⟨_,call161,@Fs⟩
theorem Ay(h Oa):Ret prog 287 [.bool Oa] h (.bool (m4 Oa)):=by
 refine sVv func287 ntmps287 ?_
 generalize hz:(m4 Oa)=z
 exact W
instance k287:Ct 287:=⟨_,call287,@Ay⟩
theorem Aw(h Oa):Ret prog 288 [.bool Oa] h (.bool (nH Oa)):=by
 refine sVv func288 ntmps288 ?_
 generalize hz:(nH Oa)=z
 exact W
instance k288:Ct 288:=⟨_,call288,@Aw⟩
theorem iQ(h):qf prog 24 (vB []) h [] (λr h' B=>∃(bk:Nat)(db:Option Addr)(dc:Nat)(vb:Option Addr)(vc:Nat)(ob_z:Option Addr)(oc:Nat)(ab:Option Addr)(ac:Nat),r=.returned (.agg (vB [.slice (zAD bk) 1 1,.slice db 1 dc,zSN,zSN,.slice vb 1 vc,.slice ob_z 1 oc,.slice ab 1 ac]))/\B=[(bk,O [I 0,I 0,I 0,I 0,I 2,I 1,.bool false] 76)]/\SlC aE.rp h' db dc aQ.dY/\SlC aC.rp h' vb vc aQ.Versions/\SlC aj.rp h' ob_z oc aQ.cj/\SlC ae.rp h' ab ac aQ.bS):=by
 refine el func24 U ntmps24 U λX hM hX=>?_
 have hs0:=@rfl _ (aQ)
 refine sr (cS zc30 (λb1=>qO 3 U (aS (ia (cells:=[I 0,I 0,I 0,I 0,I 2,I 1,.bool false]) (places:=[(0,1),(1,1),(2,1),(3,1),(4,1),(5,1),(6,1)]) underlying76 zc76 kr kr (aS (cM (cells:=[I 0,I 0,I 0,I 0,I 2,I 1,.bool false]) underlying22 ty76 zc76 U U kr (λb2=>aS (eb call92 (Jg h) U (λv1 h1 hle1 hp1=>?_)))))))))
 obtain⟨rr1,rfl,ok1⟩:=hp1
 refine aS (ia (cells:=[I 1,I 0,I 0,.string cL.Name,.slice rr1.lj cL.ey.length rr1.li,.slice rr1.iM cL.aD.length rr1.iL,.slice rr1.sB cL.dt.length rr1.sA,I cL.aP.Kind,I cL.aP.N,I cL.aP.No,.string cL.aP.Name,.slice rr1.aP.qg cL.aP.L.length rr1.aP.qs,I cL.Mode]) (places:=[(0,1),(1,1),(2,1),(3,10)]) underlying63 zc63 kr kr (aS (cM (cells:=[I 1,I 0,I 0,.string cL.Name,.slice rr1.lj cL.ey.length rr1.li,.slice rr1.iM cL.aD.length rr1.iL,.slice rr1.sB cL.dt.length rr1.sA,I cL.aP.Kind,I cL.aP.N,I cL.aP.No,.string cL.aP.Name,.slice rr1.aP.qg cL.aP.L.length rr1.aP.qs,I cL.Mode]) FA ty63 zc63 U U kr (λb3=>aS (ia (cells:=[.slice (zAD b2) 1 1,zSN,zSN,zSN,.slice (zAD b3) 1 1,zSN,zSN]) (places:=[(0,1),(1,1),(2,1),(3,1),(4,1),(5,1),(6,1)]) TE zc30 kr kr (cS zc30 (λb4=>cJ 0 ty30 U U U U U U (qO 3 U (aS (ia (cells:=[I 0,I 0,I 0,I 40,I 2,I 5,I 0,I (-1),I 100,.bool false]) (places:=[(0,1),(1,1),(2,1),(3,1),(4,1),(5,1),(6,1),(7,1),(8,1),(9,1)]) underlying150 zc150 kr kr (aS (cM (cells:=[I 0,I 0,I 0,I 40,I 2,I 5,I 0,I (-1),I 100,.bool false]) ur ty150 zc150 U U kr (λb5=>qL 1 [] U (dK 1 ty23 U U U U U U (qO 3 U (aS (cM (cells:=[I 9]) fm ty3 zc3 U U kr (λb6=>aS (ia (cells:=[I 7,I 1,I 0,I 60,I 0,I 50,.slice (zAD b6) 1 1,zSN,zSN,Y 0,Y 0,Y 0,Y 0,Y 0,Y 0,Y 0,Y 0,Y 0,Y 0,Y 0,Y 0,Y 0,Y 0,Y 0,Y 0,Y 0,Y 0,Y 0,Y 0,Y 0,Y 0,Y 0,Y 0,Y 0,Y 0,Y 0,Y 0,Y 0,Y 0,Y 0,Y 0]) (places:=[(0,1),(1,1),(2,1),(3,1),(4,1),(5,1),(6,1),(7,1),(8,1),(9,32)]) underlying54 zc54 kr kr (dV 0 U hM (λh2 hle2 hb1=>?_)))))))))))))))))))))
 have sl1:SlC jB h2 (zAD b6) 1 ([9]):=bW.slB0 (T:=3) (fz:=(0,0)) ((show bW jB h1 [I 9] ([9])from⟨[I 9],[],rfl,rfl,rfl,rfl⟩).mono vJ hle2) hb1
 refine aS (cM (cells:=[I 7,I 1,I 0,I 60,I 0,I 50,.slice (zAD b6) 1 1,zSN,zSN,Y 0,Y 0,Y 0,Y 0,Y 0,Y 0,Y 0,Y 0,Y 0,Y 0,Y 0,Y 0,Y 0,Y 0,Y 0,Y 0,Y 0,Y 0,Y 0,Y 0,Y 0,Y 0,Y 0,Y 0,Y 0,Y 0,Y 0,Y 0,Y 0,Y 0,Y 0,Y 0]) MG ty54 zc54 U U kr (λb7=>qL 1 [] U (dK 2 ty27 U U U U U U (qO 3 U (aS (ia (cells:=[I 3,I 4,I 6,I 7,I 5,I 2,I 0,.bool false]) (places:=[(0,1),(1,1),(2,1),(3,1),(4,1),(5,1),(6,1),(7,1)]) underlying67 zc67 kr kr (aS (cM (cells:=[I 3,I 4,I 6,I 7,I 5,I 2,I 0,.bool false]) MF ty67 zc67 U U kr (λb8=>qL 1 [] U (dK 3 ty28 U U U U U U (qO 3 U (ga 3 ty30 U U U (cJ 6 ty30 U U U U U U (ck ?_))))))))))))))
 have hle3:=HF.le_refl h2
 refine fK 2 U hM (λh4 hle4 hb3=>?_)
 have sl3:SlC aE.rp h4 (zAD b5) 1 ([(aE.mk 0 0 0 40 2 5 0 (-1) 100 false)]):=bW.slB0 (T:=150) (fz:=(0,0)) ((show bW aE.rp h2 [I 0,I 0,I 0,I 40,I 2,I 5,I 0,I (-1),I 100,.bool false] ([(aE.mk 0 0 0 40 2 5 0 (-1) 100 false)])from⟨[I 0,I 0,I 0,I 40,I 2,I 5,I 0,I (-1),I 100,.bool false],[],rfl,rfl,rfl,rfl⟩).mono aE.aB hle4) hb3
 refine fK 3 U hM (λh5 hle5 hb4=>?_)
 have sl4:SlC aC.rp h5 (zAD b3) 1 ([(aC.mk 1 0 0 cL)]):=bW.slB0 (T:=63) (fz:=(0,0)) ((show bW aC.rp h4 [I 1,I 0,I 0,.string cL.Name,.slice rr1.lj cL.ey.length rr1.li,.slice rr1.iM cL.aD.length rr1.iL,.slice rr1.sB cL.dt.length rr1.sA,I cL.aP.Kind,I cL.aP.N,I cL.aP.No,.string cL.aP.Name,.slice rr1.aP.qg cL.aP.L.length rr1.aP.qs,I cL.Mode] ([(aC.mk 1 0 0 cL)])from⟨[I 1,I 0,I 0,.string cL.Name,.slice rr1.lj cL.ey.length rr1.li,.slice rr1.iM cL.aD.length rr1.iL,.slice rr1.sB cL.dt.length rr1.sA,I cL.aP.Kind,I cL.aP.N,I cL.aP.No,.string cL.aP.Name,.slice rr1.aP.qg cL.aP.L.length rr1.aP.qs,I cL.Mode],[],rfl,rfl,⟨(px.mk rr1),rfl,((show aC.ok h1 (aC.mk 1 0 0 cL) (px.mk rr1)from⟨ok1⟩).mono ((hle2.t hle3).t hle4))⟩,rfl⟩).mono aC.aB hle5) hb4
 refine fK 1 U hM (λh6 hle6 hb5=>?_)
 have sl5:SlC aj.rp h6 (zAD b7) 1 ([(aj.mk 7 1 0 60 0 50 ([9]) ([]) ([]) (λ_=>0))]):=bW.slB0 (T:=54) (fz:=(0,0)) ((show bW aj.rp h5 [I 7,I 1,I 0,I 60,I 0,I 50,.slice (zAD b6) 1 1,zSN,zSN,Y 0,Y 0,Y 0,Y 0,Y 0,Y 0,Y 0,Y 0,Y 0,Y 0,Y 0,Y 0,Y 0,Y 0,Y 0,Y 0,Y 0,Y 0,Y 0,Y 0,Y 0,Y 0,Y 0,Y 0,Y 0,Y 0,Y 0,Y 0,Y 0,Y 0,Y 0,Y 0] ([(aj.mk 7 1 0 60 0 50 ([9]) ([]) ([]) (λ_=>0))])from⟨[I 7,I 1,I 0,I 60,I 0,I 50,.slice (zAD b6) 1 1,zSN,zSN,Y 0,Y 0,Y 0,Y 0,Y 0,Y 0,Y 0,Y 0,Y 0,Y 0,Y 0,Y 0,Y 0,Y 0,Y 0,Y 0,Y 0,Y 0,Y 0,Y 0,Y 0,Y 0,Y 0,Y 0,Y 0,Y 0,Y 0,Y 0,Y 0,Y 0,Y 0,Y 0],[],rfl,rfl,⟨(m6.mk (zAD b6) 1 none 0 none 0),rfl,((show aj.ok h2 (aj.mk 7 1 0 60 0 50 ([9]) ([]) ([]) (λ_=>0)) (m6.mk (zAD b6) 1 none 0 none 0)from⟨sl1,SlC.nil,SlC.nil⟩).mono ((hle3.t hle4).t hle5))⟩,rfl⟩).mono aj.aB hle6) hb5
 refine fK 0 U hM (λh7 hle7 hb6=>?_)
 have sl6:SlC ae.rp h7 (zAD b8) 1 ([(ae.mk 3 4 6 7 5 2 0 false)]):=bW.slB0 (T:=67) (fz:=(0,0)) ((show bW ae.rp h6 [I 3,I 4,I 6,I 7,I 5,I 2,I 0,.bool false] ([(ae.mk 3 4 6 7 5 2 0 false)])from⟨[I 3,I 4,I 6,I 7,I 5,I 2,I 0,.bool false],[],rfl,rfl,rfl,rfl⟩).mono ae.aB hle7) hb6
 exact ra (v:=.agg (vB [.slice (zAD b2) 1 1,.slice (zAD b5) 1 1,zSN,zSN,.slice (zAD b3) 1 1,.slice (zAD b7) 1 1,.slice (zAD b8) 1 1])) (h2:=h7) (B:=[(b2,O [I 0,I 0,I 0,I 0,I 2,I 1,.bool false] 76)]) func24 (λa ha w hw=>oP (rs:=[.cell 0 30]) (vs:=[.agg (vB [.slice (zAD b2) 1 1,.slice (zAD b5) 1 1,zSN,zSN,.slice (zAD b3) 1 1,.slice (zAD b7) 1 1,.slice (zAD b8) 1 1])]) U ⟨⟨2,_,_,_,_,U,U,.inl ⟨ty30,U⟩⟩,trivial⟩ a ha w hw) (λw hw=>hw.sub (.cons _ (.cons_cons _ (.cons _ .slnil)))) ⟨b2,zAD b5,1,zAD b3,1,zAD b7,1,zAD b8,1,U,U,(sl3.mono aE.aB ((hle5.t hle6).t hle7)),(sl4.mono aC.aB (hle6.t hle7)),(sl5.mono aj.aB hle7),sl6⟩
theorem Nw(h:p:=by
  let z6:Nat×Obj:=(b3,O [I x.Kind,I x.N,I (gf aF x.Name),.string x.Name,.slice sj od.length si] 59)
  let z15:Nat×Obj:=(b5,O [I ((rec aF y1).Kind),I ((rec aF y1).N),I ((rec aF y1).No),.string ((rec aF y1).Name),.slice rr4.qg ((rec aF y1).L.length) rr4.qs] 59)
  exact tn 10 U (dN ai.ft ([z15,z6,z1,z3]) ([]) (λG=>[z15,z6,z1,z3]++G) ap (λ_=>ap) us ty59 zc59 U bytes59 (Bk.mono ai.aB hle4) U U (gQ 0 U (cE (R:=ai.rp) (rec aF y1) U ⟨rr4,U,ok4⟩)) lo lo (λob2 oc2 G2 gr2=>⟨jn,qB [11] U (tn 12 U (qi 1 ty57 U U U U U U (⟨jn,dJ kr (qT 3 U (oi i1 U (an (ek (L':=[(b3,O [I x.Kind,I x.N,I (gf aF x.Name),.string x.Name,.slice ob2 ((od++[(rec aF y1)]).length) oc2] 59),z1,z3]++G2) js (ag1 ((od++[(rec aF y1)]),ob2,oc2,G2,h4) hs5 ⟨gr2,lo,(hl1.t hle4)⟩)))))⟩)))⟩))):p:=h
theorem Nv(h:p:=by
  let z10:Nat×Obj:=(b3,O [I x.Kind,I x.N,I 0,.string x.Name,.slice se oa.length sd] 59)
  let z18:Nat×Obj:=(b9,O [I ((rec aF y2).Kind),I ((rec aF y2).N),I ((rec aF y2).No),.string ((rec aF y2).Name),.slice rr9.qg ((rec aF y2).L.length) rr9.qs] 59)
  exact tn 10 U (dN ai.ft ([z18,z10,z2,z4]) ([]) (λG=>[z18,z10,z2,z4]++G) ap (λ_=>ap) us ty59 zc59 U bytes59 (Bh.mono ai.aB hle9) U U (gQ 0 U (cE (R:=ai.rp) (rec aF y2) U ⟨rr9,U,ok9⟩)) lo lo (λob6 oc6 G6 gr6=>⟨jn,qB [11] U (tn 12 U (qi 1 ty57 U U U U U U (⟨jn,dJ kr (qT 3 U (oi i2 U (an (ek (L':=[(b3,O [I x.Kind,I x.N,I 0,.string x.Name,.slice ob6 ((oa++[(rec aF y2)]).length) oc6] 59),z2,z4]++G6) js (ag2 ((oa++[(rec aF y2)]),ob6,oc6,G6,h9) hs8 ⟨gr6,lo,(hl2.t hle9)⟩)))))⟩)))⟩))):p:=h
theorem CQ(rec:List ByteArray->ai->ai)(h aF et ep)(x:ai)(gN)(hrec:∀(h:HF)(qoffices:List ByteArray)(lQ:Option Addr)(lP:Nat)(qx:ai)(mi:dO)(hqoffices:SlC X5 h lQ lP qoffices)(hqx:ai.ok h qx mi)(hsz:qx.dep<=2000000)(_:qx.dep<x.dep),j0 prog 233 [.slice lQ qoffices.length lP,.agg (ai.cells qx mi).toArray] h (λv h'=>∃(rr0:dO),v=.agg (ai.cells (rec qoffices qx) rr0).toArray/\ai.ok h' (rec qoffices qx) rr0))(iz:SlC X5 h et ep aF)(hx:ai.ok h x gN)(hsz:x.dep<=2000000):j0 prog 233 [.slice et aF.length ep,.agg (ai.cells x gN).toArray] h (λv h'=>∃(rr0:dO),v=.agg (ai.cells (ao.F rec aF x) rr0).toArray/\ai.ok h' (ao.F rec aF x) rr0):=by
 refine el func233 U ntmps233 U λX hM hX=>?_
 have hs0:=@rfl _ (ao.F rec aF x)
 have hln:=ai.QC x
 refine sr (j2 (λb1=>cS zc59 (λb2=>qO 3 U (ga 1 ty59 U U U (cS zc59 (λb3=>cJ 0 ty59 U U U U U U (qL 4 [] U (dK 0 ty3 U U U U U U (qL 8 [2] U (pH 4 [12,13,14,15,16] 12 16 (x.Kind==2) U (λc1 hk1=>?_) (λe=>?_)))))))))))
 .exact qL 4 [2] U (hk1 _ U)
 refine ck (dy hs0 U (λc2 hs1=>?_) (λc2 hs2=>?_))
 .refine qK 4 [2] U (e9 call317 (AI _ _ _ _ x.Name iz) U (qL 1 [] U (dK 0 ty3 U U U U U U (qL 4 [] U (dK 0 ty57 U U U U U U (qO 6 U ?_))))))
  let z1:Nat×Obj:=(b2,O [I 0,I 0,I 0,.string (⟨#[]⟩:ByteArray),zSN] 59)
  let z3:Nat×Obj:=(b1,O (ai.cells x gN) 59)
  refine lp2 x.L (λi w=>[(0,.slice et aF.length ep),(3,Q b1),(4,Q b2),(5,Q b3),(6,I (i:Int))]) (λw=>w.2.2.2.2) (λw=>[(b3,O [I x.Kind,I x.N,I (gf aF x.Name),.string x.Name,.slice w.2.1 w.1.length w.2.2.1] 59),z1,z3]++(w.2.2.2.1)) (λi w=>di ai.rp 59 w.2.2.2.2 w.1 w.2.1 w.2.2.1 w.2.2.2.1/\w.1.length<=0+i/\HF.le h w.2.2.2.2) (λs1 i w=>(ao.L1 rec aF (ao.K1 aF x)) s1 w.1) ([],none,0,[],h) hx.list.1.1 hs1 ⟨di.nil,lo,lf⟩ ?_ ?_ ?_
  .rintro i1 ⟨od,sj,si,Eg,hh1⟩ pq hs3 ⟨Bk,JC,hl1⟩ e
   try dsimp only at Bk JC hl1
   let z5:Nat×Obj:=(b3,O [I x.Kind,I x.N,I (gf aF x.Name),.string x.Name,.slice sj od.length si] 59)
   let z19:Nat×Obj:=(b2,O [I x.Kind,I x.N,I (gf aF x.Name),.string x.Name,.slice sj od.length si] 59)
   refine sr (ga 0 ty59 U U U (cJ 1 ty59 U U U U U U (mf (L':=[z5,z19,z3]++(Eg)) U (ck (jz ai.aB ([z5,z19,z3]) Eg ([]) ap hM Bk (λh3 hle3 sl2=>?_))))))
   have hs4:ao.F rec aF x=(ai.mk x.Kind x.N (gf aF x.Name) x.Name od):=hs3
   exact mK [.agg (vB [I x.Kind,I x.N,I (gf aF x.Name),.string x.Name,.slice sj od.length si])] func233 U ⟨⟨1,_,_,_,_,U,U,.inl ⟨ty59,U⟩⟩,trivial⟩ ⟨(dO.mk sj si),congrArg (λr:ai=>(.agg (ai.cells r (dO.mk sj si)).toArray:Value)) hs4.symm,(by rw[hs4];exact(show ai.ok h3 (ai.mk x.Kind x.N (gf aF x.Name) x.Name od) (dO.mk sj si)from ai.ok.of sl2))⟩
  .rintro i1 ⟨od,sj,si,Eg,hh1⟩ y1 rz1 hd1 ns iI po xe hs5 ⟨Bk,JC,hl1⟩ hx1 ag1 e
   try dsimp only at Bk JC hl1
   have hdy:=ai.lI (fe hd1)
   refine qK 7 [2] U (tO ns U (qO 5 U (hU ([z1,z3]) mixed kr jn (λkI _=>qB [0,2,3] U (tf 4 U U (rj 1 ty57 U U U) (tm 5 U (sY 6 kI jn us ty59 (hx.list.mono ai.aB hl1).1 (nthZ iI) (jk iI) U U U U kr (λq2 cs2 A2 ln2 rr3=>?_))))))))
   obtain⟨r2,rfl,ok3⟩:=rr3
   refine tf 7 U U (λ_ _ hj=>s5 ty59 (A2.mono hj.1) U U) ?_
   refine np 1 8 kr U U ?_ ?_
   .refine fU (Ab ty57 U (qz (i:=0) U) U) (⟨jn,tn 8 U (eb On (hrec _ _ _ _ _ _ (iz.mono YS hl1) ok3 ob (ai.lI (fe hd1))) U (λv2 h4 hle4 hp2=>?_))⟩)
    obtain⟨rr4,rfl,ok4⟩:=hp2
    refine⟨jl hle4,tu hle4 (tn 9 U (cM (cells:=[I ((rec aF y1).Kind),I ((rec aF y1).N),I ((rec aF y1).No),.string ((rec aF y1).Name),.slice rr4.qg ((rec aF y1).L.length) rr4.qs]) us ty59 zc59 U U kr (λb5=>⟨jn,?_⟩)))⟩
    exact Nw
   refine eb On (hrec _ _ _ _ _ _ (iz.mono YS hl1) ok3 ob (ai.lI (fe hd1))) U (λv3 h4 hle4 hp3=>?_)
   obtain⟨rr4,rfl,ok4⟩:=hp3
   refine⟨jl hle4,tu hle4 ?_⟩
   refine np 1 9 kr U U ?_ ?_
   .refine fU (Ab ty57 U (qz (i:=0) U) U) (⟨jn,tn 9 U (cM (cells:=[I ((rec aF y1).Kind),I ((rec aF y1).N),I ((rec aF y1).No),.string ((rec aF y1).Name),.slice rr4.qg ((rec aF y1).L.length) rr4.qs]) us ty59 zc59 U U kr (λb5=>⟨jn,?_⟩))⟩)
    exact Nw
   refine cM (cells:=[I ((rec aF y1).Kind),I ((rec aF y1).N),I ((rec aF y1).No),.string ((rec aF y1).Name),.slice rr4.qg ((rec aF y1).L.length) rr4.qs]) us ty59 zc59 U U kr (λb5=>⟨jn,tn 1 U (fU (Ab ty57 U (qz (i:=1) U) U) (⟨jn,?_⟩))⟩)
   exact Nw
  rintro i1 ⟨od,sj,si,Eg,hh1⟩ hd1 rZ hx e
  exact qK 7 [2] U (fO rZ U (qO 3 U (hx _ rd)))
 refine qK 4 [] U (dK 0 ty57 U U U U U U (qO 6 U ?_))
 let z2:Nat×Obj:=(b2,O [I 0,I 0,I 0,.string (⟨#[]⟩:ByteArray),zSN] 59)
 let z4:Nat×Obj:=(b1,O (ai.cells x gN) 59)
 refine lp2 x.L (λi w=>[(0,.slice et aF.length ep),(3,Q b1),(4,Q b2),(5,Q b3),(6,I (i:Int))]) (λw=>w.2.2.2.2) (λw=>[(b3,O [I x.Kind,I x.N,I 0,.string x.Name,.slice w.2.1 w.1.length w.2.2.1] 59),z2,z4]++(w.2.2.2.1)) (λi w=>di ai.rp 59 w.2.2.2.2 w.1 w.2.1 w.2.2.1 w.2.2.2.1/\w.1.length<=0+i/\HF.le h w.2.2.2.2) (λs2 i w=>(ao.L2 rec aF (ao.K2 x)) s2 w.1) ([],none,0,[],h) hx.list.1.1 hs2 ⟨di.nil,lo,lf⟩ ?_ ?_ ?_
 .rintro i2 ⟨oa,se,sd,Eb,hh2⟩ Ff hs6 ⟨Bh,Jy,hl2⟩ e
  try dsimp only at Bh Jy hl2
  let z9:Nat×Obj:=(b3,O [I x.Kind,I x.N,I 0,.string x.Name,.slice se oa.length sd] 59)
  let z20:Nat×Obj:=(b2,O [I x.Kind,I x.N,I 0,.string x.Name,.slice se oa.length sd] 59)
  refine sr (ga 0 ty59 U U U (cJ 1 ty59 U U U U U U (mf (L':=[z9,z20,z4]++(Eb)) U (ck (jz ai.aB ([z9,z20,z4]) Eb ([]) ap hM Bh (λh8 hle8 sl4=>?_))))))
  have hs7:ao.F rec aF x=(ai.mk x.Kind x.N 0 x.Name oa):=hs6
  exact mK [.agg (vB [I x.Kind,I x.N,I 0,.string x.Name,.slice se oa.length sd])] func233 U ⟨⟨1,_,_,_,_,U,U,.inl ⟨ty59,U⟩⟩,trivial⟩ ⟨(dO.mk se sd),congrArg (λr:ai=>(.agg (ai.cells r (dO.mk se sd)).toArray:Value)) hs7.symm,(by rw[hs7];exact(show ai.ok h8 (ai.mk x.Kind x.N 0 x.Name oa) (dO.mk se sd)from ai.ok.of sl4))⟩
 .rintro i2 ⟨oa,se,sd,Eb,hh2⟩ y2 rz2 hd2 Cr zw L8 UC hs8 ⟨Bh,Jy,hl2⟩ hx2 ag2 e
  try dsimp only at Bh Jy hl2
  have hdy:=ai.lI (fe hd2)
  refine qK 7 [2] U (tO Cr U (qO 5 U (hU ([z2,z4]) mixed kr jn (λow _=>qB [0,2,3] U (tf 4 U U (rj 1 ty57 U U U) (tm 5 U (sY 6 ow jn us ty59 (hx.list.mono ai.aB hl2).1 (nthZ zw) (jk zw) U U U U kr (λq4 cs4 A4 ln4 rr8=>?_))))))))
  obtain⟨r4,rfl,ok8⟩:=rr8
  refine tf 7 U U (λ_ _ hj=>s5 ty59 (A4.mono hj.1) U U) ?_
  refine np 1 8 kr U U ?_ ?_
  .refine fU (Ab ty57 U (qz (i:=0) U) U) (⟨jn,tn 8 U (eb On (hrec _ _ _ _ _ _ (iz.mono YS hl2) ok8 ob (ai.lI (fe hd2))) U (λv5 h9 hle9 hp5=>?_))⟩)
   obtain⟨rr9,rfl,ok9⟩:=hp5
   refine⟨jl hle9,tu hle9 (tn 9 U (cM (cells:=[I ((rec aF y2).Kind),I ((rec aF y2).N),I ((rec aF y2).No),.string ((rec aF y2).Name),.slice rr9.qg ((rec aF y2).L.length) rr9.qs]) us ty59 zc59 U U kr (λb9=>⟨jn,?_⟩)))⟩
   exact Nv
  refine eb On (hrec _ _ _ _ _ _ (iz.mono YS hl2) ok8 ob (ai.lI (fe hd2))) U (λv6 h9 hle9 hp6=>?_)
  obtain⟨rr9,rfl,ok9⟩:=hp6
  refine⟨jl hle9,tu hle9 ?_⟩
  refine np 1 9 kr U U ?_ ?_
  .refine fU (Ab ty57 U (qz (i:=0) U) U) (⟨jn,tn 9 U (cM (cells:=[I ((rec aF y2).Kind),I ((rec aF y2).N),I ((rec aF y2).No),.string ((rec aF y2).Name),.slice rr9.qg ((rec aF y2).L.length) rr9.qs]) us ty59 zc59 U U kr (λb9=>⟨jn,?_⟩))⟩)
   exact Nv
  refine cM (cells:=[I ((rec aF y2).Kind),I ((rec aF y2).N),I ((rec aF y2).No),.string ((rec aF y2).Name),.slice rr9.qg ((rec aF y2).L.length) rr9.qs]) us ty59 zc59 U U kr (λb9=>⟨jn,tn 1 U (fU (Ab ty57 U (qz (i:=1) U) U) (⟨jn,?_⟩))⟩)
  exact Nv
 rintro i2 ⟨oa,se,sd,Eb,hh2⟩ hd2 PH hx e
 exact qK 7 [2] U (fO PH U (qO 3 U (hx _ rd)))
theorem tw:∀(m:Nat)(h:HF)(aF:List ByteArray)(et:Option Addr)(ep:Nat)(x:ai)(gN:dO)(_:x.dep<=m)(iz:SlC X5 h et ep aF)(hx:ai.ok h x gN)(hsz:x.dep<=2000000),j0 prog 233 [.slice et aF.length ep,.agg (ai.cells x gN).toArray] h (λv h'=>∃(rr0:dO),v=.agg (ai.cells (ao.go m aF x) rr0).toArray/\ai.ok h' (ao.go m aF x) rr0)
 |0,h,aF,et,ep,x,gN,hd,iz,hx,hsz=>absurd hd (Nat.not_le.2 (ai.ny _))
 |m+1,h,aF,et,ep,x,gN,hd,iz,hx,hsz=>CQ (ao.go m) h aF et ep x gN (λqh_ qoffices lQ lP qx mi qhoffices qhx qhsz qd=>tw m qh_ qoffices lQ lP qx mi ob qhoffices qhx qhsz) iz hx hsz
theorem wv(h aF et ep x gN)(iz:SlC X5 h et ep aF)(hx:ai.ok h x gN)(hsz:x.dep<=2000000):j0 prog 233 [.slice et aF.length ep,.agg (ai.cells x gN).toArray] h (λv h'=>∃(rr0:dO),v=.agg (ai.cells (ao aF x) rr0).toArray/\ai.ok h' (ao aF x) rr0):=tw _ h aF et ep x gN (zE _) iz hx hsz
theorem Nu(h:p:=by
  let z12:Nat×Obj:=(b6,O [I ((rec aF y1).Kind),I ((rec aF y1).N),I ((rec aF y1).No),.string ((rec aF y1).Name),.slice rr4.qg ((rec aF y1).L.length) rr4.qs] 59)
  exact tn 6 U (dN ai.ft ([z12,z8,z1,z4]) ([]) (λG=>[z12,z8,z1,z4]++G) ap (λ_=>ap) us ty59 zc59 U bytes59 (Bo.mono ai.aB hle4) U U (gQ 0 U (cE (R:=ai.rp) (rec aF y1) U ⟨rr4,U,ok4⟩)) lo lo (λob2 oc2 G2 gr2=>⟨jn,qB [7] U (tn 8 U (qi 3 ty57 U U U U U U (⟨jn,dJ kr (qT 2 U (oi i1 U (qO 2 U (ek (L':=[z1,(b1,O [I x.Kind,I x.N,I (bp aF x.Name),.string x.Name,.slice ob2 ((pg++[(rec aF y1)]).length) oc2] 59)]++G2) js (ag1 ((pg++[(rec aF y1)]),ob2,oc2,G2,h4) hs5 ⟨gr2,lo,(hl1.t hle4)⟩)))))⟩)))⟩))):p:=h
theorem Nt(h:p:=by
  let z11:Nat×Obj:=(b12,O [I ((rec aF y2).Kind),I ((rec aF y2).N),I ((rec aF y2).No),.string ((rec aF y2).Name),.slice rr9.qg ((rec aF y2).L.length) rr9.qs] 59)
  exact tn 6 U (dN ai.ft ([z11,z7,z2,z6]) ([]) (λG=>[z11,z7,z2,z6]++G) ap (λ_=>ap) us ty59 zc59 U bytes59 (Bi.mono ai.aB hle9) U U (gQ 0 U (cE (R:=ai.rp) (rec aF y2) U ⟨rr9,U,ok9⟩)) lo lo (λob6 oc6 G6 gr6=>⟨jn,qB [7] U (tn 8 U (qi 3 ty57 U U U U U U (⟨jn,dJ kr (qT 2 U (oi i2 U (qO 2 U (ek (L':=[z2,(b1,O [I x.Kind,I x.N,I 0,.string x.Name,.slice ob6 ((pd++[(rec aF y2)]).length) oc6] 59)]++G6) js (ag2 ((pd++[(rec aF y2)]),ob6,oc6,G6,h9) hs8 ⟨gr6,lo,(hl2.t hle9)⟩)))))⟩)))⟩))):p:=h
theorem AN(rec:List ByteArray->ai->ai)(h aF et ep)(x:ai)(gN)(hrec:∀(h:HF)(qoffices:List ByteArray)(lQ:Option Addr)(lP:Nat)(qx:ai)(mi:dO)(hqoffices:SlC X5 h lQ lP qoffices)(hqx:ai.ok h qx mi)(hsz:qx.dep<=2000000)(_:qx.dep<x.dep),j0 prog 306 [.slice lQ qoffices.length lP,.agg (ai.cells qx mi).toArray] h (λv h'=>∃(rr0:dO),v=.agg (ai.cells (rec qoffices qx) rr0).toArray/\ai.ok h' (rec qoffices qx) rr0))(iz:SlC X5 h et ep aF)(hx:ai.ok h x gN)(hsz:x.dep<=2000000):j0 prog 306 [.slice et aF.length ep,.agg (ai.cells x gN).toArray] h (λv h'=>∃(rr0:dO),v=.agg (ai.cells (ay.F rec aF x) rr0).toArray/\ai.ok h' (ay.F rec aF x) rr0):=by
 refine el func306 U ntmps306 U λX hM hX=>?_
 have hs0:=@rfl _ (ay.F rec aF x)
 have hln:=ai.QC x
 refine sr (j2 (λb1=>cS zc59 (λb2=>qL 4 [] U (dK 1 ty3 U U U U U U (qO 4 U (ga 1 ty59 U U U (e9 call308 (uk _ _ _ (show ai.ok h (ai.mk x.Kind x.N 0 x.Name x.L) (dO.mk gN.qg gN.qs)from ai.ok.of hx.list)) U (ck (dy hs0 U (λc1 hs1=>?_) (λc1 hs2=>?_))))))))))
 .refine qK 4 [1] U (e9 call309 (rN _ _ _ _ x.Name iz) U (qL 1 [] U (dK 1 ty3 U U U U U U (qL 10 [1] U (dK 1 ty57 U U U U U U (qL 8 [] U ?_))))))
  let z1:Nat×Obj:=(b2,O [I 0,I 0,I 0,.string (⟨#[]⟩:ByteArray),zSN] 59)
  refine lp2 x.L (λi w=>[(0,.slice et aF.length ep),(3,Q b1),(4,Q b2),(19,.slice gN.qg x.L.length gN.qs),(20,I (x.L.length:Int)),(21,I (i:Int))]) (λw=>w.2.2.2.2) (λw=>[z1,(b1,O [I x.Kind,I x.N,I (bp aF x.Name),.string x.Name,.slice w.2.1 w.1.length w.2.2.1] 59)]++(w.2.2.2.1)) (λi w=>di ai.rp 59 w.2.2.2.2 w.1 w.2.1 w.2.2.1 w.2.2.2.1/\w.1.length<=0+i/\HF.le h w.2.2.2.2) (λs1 i w=>(ay.L1 rec aF (ay.K1 aF x)) s1 w.1) ([],none,0,[],h) hx.list.1.1 hs1 ⟨di.nil,lo,lf⟩ ?_ ?_
  .rintro i1 ⟨pg,tJ,tI,Ei,hh1⟩ pq hs3 ⟨Bo,JF,hl1⟩ e
   try dsimp only at Bo JF hl1
   let z3:Nat×Obj:=(b1,O [I x.Kind,I x.N,I (bp aF x.Name),.string x.Name,.slice tJ pg.length tI] 59)
   let z15:Nat×Obj:=(b2,O [I x.Kind,I x.N,I (bp aF x.Name),.string x.Name,.slice tJ pg.length tI] 59)
   refine sr (ga 1 ty59 U U U (cJ 0 ty59 U U U U U U (mf (L':=[z15,z3]++(Ei)) U (ck (jz ai.aB ([z15,z3]) Ei ([]) ap hM Bo (λh3 hle3 sl2=>?_))))))
   have hs4:ay.F rec aF x=(ai.mk x.Kind x.N (bp aF x.Name) x.Name pg):=hs3
   exact mK [.agg (vB [I x.Kind,I x.N,I (bp aF x.Name),.string x.Name,.slice tJ pg.length tI])] func306 U ⟨⟨0,_,_,_,_,U,U,.inl ⟨ty59,U⟩⟩,trivial⟩ ⟨(dO.mk tJ tI),congrArg (λr:ai=>(.agg (ai.cells r (dO.mk tJ tI)).toArray:Value)) hs4.symm,(by rw[hs4];exact(show ai.ok h3 (ai.mk x.Kind x.N (bp aF x.Name) x.Name pg) (dO.mk tJ tI)from ai.ok.of sl2))⟩
  rintro i1 ⟨pg,tJ,tI,Ei,hh1⟩ y1 rz1 hd1 ns iI po xe hs5 ⟨Bo,JF,hl1⟩ hx1 ag1 e
  try dsimp only at Bo JF hl1
  have hdy:=ai.lI (fe hd1)
  refine sr (tO ns U (qO 8 U (aS (iR us ty59 (hx.list.mono ai.aB hl1).1 iI U U U (λ_ _ _ e=>e) (λq2 r2 A2 ok3=>?_)))))
  let z4:Nat×Obj:=(b1,O [I x.Kind,I x.N,I (bp aF x.Name),.string x.Name,.slice tJ pg.length tI] 59)
  refine lh ty59 A2 U U (cS zc59 (λb5=>cJ 0 ty59 U U U U U U (mf (L':=[(b5,O (ai.cells y1 r2) 59),z1,z4]++(Ei)) U (ck ?_))))
  let z8:Nat×Obj:=(b5,O (ai.cells y1 r2) 59)
  refine hU ([z8,z1]) mixed kr jn (λkI _=>?_)
  refine qB [0,2] U (tf 3 U U (λ_ _ hj=>nQ ty59 U (hj.nth (i:=0) U) U) ?_)
  refine np 1 4 kr U U ?_ ?_
  .refine fU (Ab ty57 U (qz (i:=2) U) U) (⟨jn,tn 4 U (eb Om (hrec _ _ _ _ _ _ (iz.mono YS hl1) ok3 ob (ai.lI (fe hd1))) U (λv2 h4 hle4 hp2=>?_))⟩)
   obtain⟨rr4,rfl,ok4⟩:=hp2
   refine⟨jl hle4,tu hle4 (tn 5 U (cM (cells:=[I ((rec aF y1).Kind),I ((rec aF y1).N),I ((rec aF y1).No),.string ((rec aF y1).Name),.slice rr4.qg ((rec aF y1).L.length) rr4.qs]) us ty59 zc59 U U kr (λb6=>⟨jn,?_⟩)))⟩
   exact Nu
  refine eb Om (hrec _ _ _ _ _ _ (iz.mono YS hl1) ok3 ob (ai.lI (fe hd1))) U (λv3 h4 hle4 hp3=>?_)
  obtain⟨rr4,rfl,ok4⟩:=hp3
  refine⟨jl hle4,tu hle4 ?_⟩
  refine np 1 5 kr U U ?_ ?_
  .refine fU (Ab ty57 U (qz (i:=2) U) U) (⟨jn,tn 5 U (cM (cells:=[I ((rec aF y1).Kind),I ((rec aF y1).N),I ((rec aF y1).No),.string ((rec aF y1).Name),.slice rr4.qg ((rec aF y1).L.length) rr4.qs]) us ty59 zc59 U U kr (λb6=>⟨jn,?_⟩))⟩)
   exact Nu
  refine cM (cells:=[I ((rec aF y1).Kind),I ((rec aF y1).N),I ((rec aF y1).No),.string ((rec aF y1).Name),.slice rr4.qg ((rec aF y1).L.length) rr4.qs]) us ty59 zc59 U U kr (λb6=>⟨jn,tn 1 U (fU (Ab ty57 U (qz (i:=3) U) U) (⟨jn,?_⟩))⟩)
  exact Nu
 refine qK 10 [1] U (dK 1 ty57 U U U U U U (qL 8 [] U ?_))
 let z2:Nat×Obj:=(b2,O [I 0,I 0,I 0,.string (⟨#[]⟩:ByteArray),zSN] 59)
 refine lp2 x.L (λi w=>[(0,.slice et aF.length ep),(3,Q b1),(4,Q b2),(19,.slice gN.qg x.L.length gN.qs),(20,I (x.L.length:Int)),(21,I (i:Int))]) (λw=>w.2.2.2.2) (λw=>[z2,(b1,O [I x.Kind,I x.N,I 0,.string x.Name,.slice w.2.1 w.1.length w.2.2.1] 59)]++(w.2.2.2.1)) (λi w=>di ai.rp 59 w.2.2.2.2 w.1 w.2.1 w.2.2.1 w.2.2.2.1/\w.1.length<=0+i/\HF.le h w.2.2.2.2) (λs2 i w=>(ay.L2 rec aF (ay.K2 x)) s2 w.1) ([],none,0,[],h) hx.list.1.1 hs2 ⟨di.nil,lo,lf⟩ ?_ ?_
 .rintro i2 ⟨pd,tH,tG,Ec,hh2⟩ Ff hs6 ⟨Bi,Jz,hl2⟩ e
  try dsimp only at Bi Jz hl2
  let z5:Nat×Obj:=(b1,O [I x.Kind,I x.N,I 0,.string x.Name,.slice tH pd.length tG] 59)
  let z16:Nat×Obj:=(b2,O [I x.Kind,I x.N,I 0,.string x.Name,.slice tH pd.length tG] 59)
  refine sr (ga 1 ty59 U U U (cJ 0 ty59 U U U U U U (mf (L':=[z16,z5]++(Ec)) U (ck (jz ai.aB ([z16,z5]) Ec ([]) ap hM Bi (λh8 hle8 sl4=>?_))))))
  have hs7:ay.F rec aF x=(ai.mk x.Kind x.N 0 x.Name pd):=hs6
  exact mK [.agg (vB [I x.Kind,I x.N,I 0,.string x.Name,.slice tH pd.length tG])] func306 U ⟨⟨0,_,_,_,_,U,U,.inl ⟨ty59,U⟩⟩,trivial⟩ ⟨(dO.mk tH tG),congrArg (λr:ai=>(.agg (ai.cells r (dO.mk tH tG)).toArray:Value)) hs7.symm,(by rw[hs7];exact(show ai.ok h8 (ai.mk x.Kind x.N 0 x.Name pd) (dO.mk tH tG)from ai.ok.of sl4))⟩
 rintro i2 ⟨pd,tH,tG,Ec,hh2⟩ y2 rz2 hd2 Cr zw L8 UC hs8 ⟨Bi,Jz,hl2⟩ hx2 ag2 e
 try dsimp only at Bi Jz hl2
 have hdy:=ai.lI (fe hd2)
 refine sr (tO Cr U (qO 8 U (aS (iR us ty59 (hx.list.mono ai.aB hl2).1 zw U U U (λ_ _ _ e=>e) (λq4 r4 A4 ok8=>?_)))))
 let z6:Nat×Obj:=(b1,O [I x.Kind,I x.N,I 0,.string x.Name,.slice tH pd.length tG] 59)
 refine lh ty59 A4 U U (cS zc59 (λb11=>cJ 0 ty59 U U U U U U (mf (L':=[(b11,O (ai.cells y2 r4) 59),z2,z6]++(Ec)) U (ck ?_))))
 let z7:Nat×Obj:=(b11,O (ai.cells y2 r4) 59)
 refine hU ([z7,z2]) mixed kr jn (λow _=>?_)
 refine qB [0,2] U (tf 3 U U (λ_ _ hj=>nQ ty59 U (hj.nth (i:=0) U) U) ?_)
 refine np 1 4 kr U U ?_ ?_
 .refine fU (Ab ty57 U (qz (i:=2) U) U) (⟨jn,tn 4 U (eb Om (hrec _ _ _ _ _ _ (iz.mono YS hl2) ok8 ob (ai.lI (fe hd2))) U (λv5 h9 hle9 hp5=>?_))⟩)
  obtain⟨rr9,rfl,ok9⟩:=hp5
  refine⟨jl hle9,tu hle9 (tn 5 U (cM (cells:=[I ((rec aF y2).Kind),I ((rec aF y2).N),I ((rec aF y2).No),.string ((rec aF y2).Name),.slice rr9.qg ((rec aF y2).L.length) rr9.qs]) us ty59 zc59 U U kr (λb12=>⟨jn,?_⟩)))⟩
  exact Nt
 refine eb Om (hrec _ _ _ _ _ _ (iz.mono YS hl2) ok8 ob (ai.lI (fe hd2))) U (λv6 h9 hle9 hp6=>?_)
 obtain⟨rr9,rfl,ok9⟩:=hp6
 refine⟨jl hle9,tu hle9 ?_⟩
 refine np 1 5 kr U U ?_ ?_
 .refine fU (Ab ty57 U (qz (i:=2) U) U) (⟨jn,tn 5 U (cM (cells:=[I ((rec aF y2).Kind),I ((rec aF y2).N),I ((rec aF y2).No),.string ((rec aF y2).Name),.slice rr9.qg ((rec aF y2).L.length) rr9.qs]) us ty59 zc59 U U kr (λb12=>⟨jn,?_⟩))⟩)
  exact Nt
 refine cM (cells:=[I ((rec aF y2).Kind),I ((rec aF y2).N),I ((rec aF y2).No),.string ((rec aF y2).Name),.slice rr9.qg ((rec aF y2).L.length) rr9.qs]) us ty59 zc59 U U kr (λb12=>⟨jn,tn 1 U (fU (Ab ty57 U (qz (i:=3) U) U) (⟨jn,?_⟩))⟩)
 exact Nt
theorem rT:∀(m:Nat)(h:HF)(aF:List ByteArray)(et:Option Addr)(ep:Nat)(x:ai)(gN:dO)(_:x.dep<=m)(iz:SlC X5 h et ep aF)(hx:ai.ok h x gN)(hsz:x.dep<=2000000),j0 prog 306 [.slice et aF.length ep,.agg (ai.cells x gN).toArray] h (λv h'=>∃(rr0:dO),v=.agg (ai.cells (ay.go m aF x) rr0).toArray/\ai.ok h' (ay.go m aF x) rr0)
 |0,h,aF,et,ep,x,gN,hd,iz,hx,hsz=>absurd hd (Nat.not_le.2 (ai.ny _))
 |m+1,h,aF,et,ep,x,gN,hd,iz,hx,hsz=>AN (ay.go m) h aF et ep x gN (λqh_ qoffices lQ lP qx mi qhoffices qhx qhsz qd=>rT m qh_ qoffices lQ lP qx mi ob qhoffices qhx qhsz) iz hx hsz
theorem ue(h aF et ep x gN)(iz:SlC X5 h et ep aF)(hx:ai.ok h x gN)(hsz:x.dep<=2000000):j0 prog 306 [.slice et aF.length ep,.agg (ai.cells x gN).toArray] h (λv h'=>∃(rr0:dO),v=.agg (ai.cells (ay aF x) rr0).toArray/\ai.ok h' (ay aF x) rr0):=rT _ h aF et ep x gN (zE _) iz hx hsz
theorem ES(rec:ai->Int->(List (List aV))->List Int->Bool)(h)(x:ai)(gN value)(bh:List (List aV))(gr gp gv nd na)(hrec:∀(h:HF)(qx:ai)(mi:dO)(qvalue:Int)(qholders:List (List aV))(yJ:Option Addr)(yI:Nat)(qwho:List Int)(Nd:Option Addr)(Nc:Nat)(hqx:ai.ok h qx mi)(hqholders:SlC (Rp.sl aV.rp) h yJ yI qholders)(hqwho:SlC jB h Nd Nc qwho)(hok:OkX (qholders.length:Int) qx)(_:qx.dep<x.dep),Ret prog 296 [.agg (ai.cells qx mi).toArray,I qvalue,.slice yJ qholders.length yI,.slice Nd qwho.length Nc] h (.bool (rec qx qvalue qholders qwho)))(hx:ai.ok h x gN)(pt:SlC (Rp.sl aV.rp) h gr gp bh)(hwho:SlC jB h nd na gv)(hok:OkX (bh.length:Int) x):Ret prog 296 [.agg (ai.cells x gN).toArray,I value,.slice gr bh.length gp,.slice nd gv.length na] h (.bool (bC.F rec x value bh gv)):=by
 refine sVv func296 ntmps296 ?_
 generalize hz:(bC.F rec x value bh gv)=z
 have hkd:=hok.kind
 have hno:=hok.no
 have htw:=hok.two
 have k0:=λ(i:Int)(u:0<=i)(v:i<2)(a:¬x.Kind=1)(b:¬x.Kind=2)(c:¬x.Kind=3)=>hok.sub _ (lu (show 0<=i/\i<(x.L.length:Int)from by have:=hok.kind;have:=hok.two (by omega);omega))
 have k1:=λ(i:Int)(u:0<=i)(v:i<2)(a:¬x.Kind=1)(b:¬x.Kind=2)(c:¬x.Kind=3)=>ai.lI (lu (show 0<=i/\i<(x.L.length:Int)from by have:=hok.kind;have:=hok.two (by omega);omega))
 have w1:=λ{y:aV}(m:y∈nthI bh x.No)(a:x.Kind=1)=>(show(x.Kind==1)=true from by rw[a];rfl)
 have w2:=λ{y:aV}(m:y∈nthI bh x.No)(a:x.Kind=2)=>(show(x.Kind==1)=false from by rw[a];rfl)
 have w0:=λ{y}(a:y∈_)=>hok.sub y a
 have HA:=h1 [3,4,10] 11 (λw=>[(9,I w)]) (λs1 i w=>(bC.L1 gv (bC.K1 x)) s1 w)
 have HB:=h1 [1,2,3,4] 12 (λw=>[(9,I w)]) (λs2 i w=>(bC.L2 rec value bh gv (bC.K2 x)) s2 w)
 have HC:=h1 [3,4,10] 11 (λw=>[(9,I w)]) (λs3 i w=>(bC.L3 gv (bC.K3 x)) s3 w)
 have HD:=h1 [1,2,3,4] 12 (λw=>[(9,I w)]) (λs4 i w=>(bC.L4 rec value bh gv (bC.K4 x)) s4 w)
 exact W
theorem vi:∀(m:Nat)(h:HF)(x:ai)(gN:dO)(value:Int)(bh:List (List aV))(gr:Option Addr)(gp:Nat)(gv:List Int)(nd:Option Addr)(na:Nat)(_:x.dep<=m)(hx:ai.ok h x gN)(pt:SlC (Rp.sl aV.rp) h gr gp bh)(hwho:SlC jB h nd na gv)(hok:OkX (bh.length:Int) x),Ret prog 296 [.agg (ai.cells x gN).toArray,I value,.slice gr bh.length gp,.slice nd gv.length na] h (.bool (bC.go m x value bh gv))
 |0,h,x,gN,value,bh,gr,gp,gv,nd,na,hd,hx,pt,hwho,hok=>absurd hd (Nat.not_le.2 (ai.ny _))
 |m+1,h,x,gN,value,bh,gr,gp,gv,nd,na,hd,hx,pt,hwho,hok=>ES (bC.go m) h x gN value bh gr gp gv nd na (λqh_ qx mi qvalue qholders yJ yI qwho Nd Nc qhx qhholders qhwho qhok qd=>vi m qh_ qx mi qvalue qholders yJ yI qwho Nd Nc ob qhx qhholders qhwho qhok) hx pt hwho hok
theorem GK(h x gN value)(bh:List (List aV))(gr gp gv nd na)(hx:ai.ok h x gN)(pt:SlC (Rp.sl aV.rp) h gr gp bh)(hwho:SlC jB h nd na gv)(hok:OkX (bh.length:Int) x):Ret prog 296 [.agg (ai.cells x gN).toArray,I value,.slice gr bh.length gp,.slice nd gv.length na] h (.bool (bC x value bh gv)):=vi _ h x gN value bh gr gp gv nd na (zE _) hx pt hwho hok
instance k296:Ct 296:=⟨_,call296,@GK⟩
theorem Ns(h:p:=by
  obtain⟨rb1,rc1,rfl,sl3⟩:=hp1
  refine⟨⟨(hle2.t hle3),λ_ hp=>List.Sublist.subset js hp⟩,xq (K2:=[]) (hle2.t hle3) (λ_ hp=>hp) (qR 15 5 U (dJ kr (qT 4 U (dy hs8 U (λc4 hs9=>?_) (λc4 hs10=>?_)))))⟩
  .refine qT 4 U (aS (iF aE.cells ur ty150 (hl.mono aE.aB ((hl1.t hle2).t hle3)).1 iI U U U (λq7 A7=>qL 1 [] U (iw ty3 A7 U (aS (cM (cells:=[I y1.No]) fm ty3 zc3 U U kr (λb4=>dU (aS (dN Rp.fR ([]) ([(b3,O [I y1.To] 3)]) (λG=>[(b3,O [I y1.To] 3)]++G) ap (λ_=>ap) fm ty3 zc3 U bytes3 (di.lit (show bW Rp.int h3 [I y1.No] ([y1.No])from⟨[I y1.No],[],U,U,U,U⟩) U) U U (iY sl3.1) lo lo (λob3 oc3 G3 gr3=>qO 3 U (jz Rp.bG ([(b3,O [I y1.To] 3)]) G3 ([]) ap hM gr3 (λh4 hle4 sl4=>?_))))))))))))
   have hs11:cX.F rec l people to many=(([y1.No]++(rec l (people++[y1.To]) to (many-1)).1),true):=hs9
   exact nretH [.slice ob3 (([y1.No]++(rec l (people++[y1.To]) to (many-1)).1).length) oc3,.bool true] (hs11▸⟨ob3,oc3,U,sl4⟩)
  exact jf (qT 3 U (oi i1 U (an (ek (L':=[]) js (ag1 h3 hs10 ((hl1.t hle2).t hle3))))))):p:=h
theorem IR(rec:List aE->List Int->Int->Int->(List Int×Bool))(hrp:∀(q:List aE)(p:List Int)(b n:Int),0<=n->(rec q p b n).1.length<=n.toNat)(h l eP eO people oq oo to)(many:Int)(hrec:∀(h:HF)(ql:List aE)(VC:Option Addr)(VB:Nat)(qpeople:List Int)(BK:Option Addr)(BJ:Nat)(qto:Int)(qmany:Int)(hql:SlC aE.rp h VC VB ql)(hqpeople:SlC jB h BK BJ qpeople)(hmn:(0<=qmany/\qmany<=8)/\(0<qpeople.length/\qpeople.length+qmany.toNat<=100))(_:(qmany.toNat+1)<(many.toNat+1)),j0 prog 361 [.slice VC ql.length VB,.slice BK qpeople.length BJ,I qto,I qmany] h (λv h'=>∃(rb0:Option Addr)(rc0:Nat),v=.tuple #[.slice rb0 ((rec ql qpeople qto qmany).1).length rc0,.bool ((rec ql qpeople qto qmany).2)]/\SlC jB h' rb0 rc0 ((rec ql qpeople qto qmany).1)))(hl:SlC aE.rp h eP eO l)(hpeople:SlC jB h oq oo people)(hmn:(0<=many/\many<=8)/\(0<people.length/\people.length+many.toNat<=100)):j0 prog 361 [.slice eP l.length eO,.slice oq people.length oo,I to,I many] h (λv h'=>∃(rb0:Option Addr)(rc0:Nat),v=.tuple #[.slice rb0 ((cX.F rec l people to many).1).length rc0,.bool ((cX.F rec l people to many).2)]/\SlC jB h' rb0 rc0 ((cX.F rec l people to many).1)):=by
 refine sT func361 U ntmps361 U λX hM hX hF=>?_
 have hs0:=@rfl _ (cX.F rec l people to many)
 refine qK 10 [] U (ls (v':=I ((people.length:Int)-1)) U (nv ob) ?_)
 have ho1:0<=(((people.length:Int)-1):Int)/\(((people.length:Int)-1):Int)<((people).length:Int):=ob
 refine aS (tW (enc:=λy=>[I y]) ei fm ty3 hpeople.1 ho1 (eu ho1) U U U (λq1 A1=>iw ty3 A1 U (qO 8 U (dy hs0 U (λc1 hs1=>?_) (λc1 hs2=>?_)))))
 .refine sr (aS (lC fm ty3 (λb1=>qO 6 U (fK 0 U hM (λh1 hle1 hb1=>?_)))))
  have sl1:SlC jB h1 (zAD b1) 0 ([]):=bW.slB0 (T:=3) (fz:=(0,0)) ((show bW jB h [] ([])from rfl).mono vJ hle1) hb1
  have hs3:cX.F rec l people to many=([],((nthI people ((people.length:Int)-1))==to)):=hs1
  exact nretH [.slice (zAD b1) 0 0,.bool ((nthI people ((people.length:Int)-1))==to)] (hs3▸⟨(zAD b1),0,U,sl1⟩)
 refine qT 6 U ?_
 refine lp2 l (λi w=>[(0,.slice eP l.length eO),(1,.slice oq people.length oo),(2,I to),(3,I many),(10,I (nthI people ((people.length:Int)-1))),(11,I (i:Int))]) (λw=>w) (λw=>[]) (λi w=>HF.le h w) (λs1 i w=>(cX.L1 rec l people to many (cX.K1)) s1) h hl.1.1 hs2 lf ?_ ?_ ?_
 .rintro i1 hh1 pq hs4 hl1 e
  try dsimp only at hl1
  refine qT 5 U ?_
  have hs5:cX.F rec l people to many=([],false):=hs4
  exact nretH [zSN,.bool false] (hs5▸⟨none,0,U,SlC.nil⟩)
 .rintro i1 hh1 y1 rz1 hd1 ns iI po xe hs6 hl1 hx1 ag1 e
  try dsimp only at hl1
  have hq:=hrp l ([]++people++[y1.To]) to (many-1) (by simp only[beq_eq_false_iff_ne]at *;omega)
  refine qK 6 [] U (tO ns U (qO 10 U (aS (iF aE.cells ur ty150 (hl.mono aE.aB hl1).1 iI U U U (λq4 A4=>qL 1 [] U (nm (j:=4) ty3 A4 U U (qO 3 U (pH 8 [39,40,41,42,43,44,45,46,47] 39 47 (lZ people y1.To) U (λc2 hk1=>?_) (λe=>?_)))))))))
  .exact dU (qO 2 U (aS (iF aE.cells ur ty150 (hl.mono aE.aB hl1).1 iI U U U (λq5 A5=>qL 1 [] U (nm (j:=5) ty3 A5 U U (e9 call397 (M9 _ _ _ _ y1.To (hpeople.mono vJ hl1)) U (I6 U (hk1 _ U))))))))
  refine ck (dy hs6 U (λc3 hs7=>?_) (λc3 hs8=>?_))
  .exact jI U (qT 2 U (oi i1 U (an (ag1 hh1 hs7 hl1))))
  refine qT 2 U (hU ([]) mixed kr jn (λkI _=>qA [0,2,4,5] U (jr 6 (enc:=aE.cells) kI jn ei ur ty150 (hl.mono aE.aB hl1).1 (nthZ iI) (jk iI) U U U U kr (λq6 A6=>qB [7] U (tf 8 U U (rH 5 ty3 A6 U U) (qA [11,12] U (tf 13 U U (λ_ _ _=>yH (v':=I (many-1)) U (nv ob)) ?_)))))))
  refine np 1 9 kr U U ?_ ?_
  .refine lC fm ty3 (λb2=>⟨jn,?_⟩)
   refine np 3 9 kr U U ?_ ?_
   .refine dN XZ ([]) ([]) (λG=>G) ap (λ_=>ap) fm ty3 zc3 U bytes3 (di.lit (show bW jB hh1 [] ([])from U) U) U U (iY (hpeople.mono vJ hl1).1) lo lo (λob1 oc1 G1 gr1=>⟨jn,(tn 9 U (cM (cells:=[I y1.To]) fm ty3 zc3 U U kr (λb3=>⟨jn,tn 10 U (dN XZ ([(b3,O [I y1.To] 3)]) ([]) (λG=>[(b3,O [I y1.To] 3)]++G) ap (λ_=>ap) fm ty3 zc3 U bytes3 gr1 U U (gQ 0 U (cE (y1.To) U U)) lo lo (λob2 oc2 G2 gr2=>⟨jn,(tn 14 U (nD vJ ([(b3,O [I y1.To] 3)]) G2 ([]) ap hM gr2 (λh2 hle2 sl2=>eb Ts (hrec _ _ _ _ _ _ _ to (many-1) (hl.mono aE.aB (hl1.t hle2)) sl2 ob (by simp only[beq_eq_false_iff_ne]at *;omega)) U (λv1 h3 hle3 hp1=>?_))))⟩))⟩)))⟩)
    exact Ns
   refine cM (cells:=[I y1.To]) fm ty3 zc3 U U kr (λb3=>⟨jn,(tn 3 U (dN XZ ([(b3,O [I y1.To] 3)]) ([]) (λG=>[(b3,O [I y1.To] 3)]++G) ap (λ_=>ap) fm ty3 zc3 U bytes3 (di.lit (show bW jB hh1 [] ([])from U) U) U U (iY (hpeople.mono vJ hl1).1) lo lo (λob4 oc4 G4 gr4=>⟨jn,(tn 10 U (dN XZ ([(b3,O [I y1.To] 3)]) ([]) (λG=>[(b3,O [I y1.To] 3)]++G) ap (λ_=>ap) fm ty3 zc3 U bytes3 gr4 U U (gQ 0 U (cE (y1.To) U U)) lo lo (λob5 oc5 G5 gr5=>⟨jn,(tn 14 U (nD vJ ([(b3,O [I y1.To] 3)]) G5 ([]) ap hM gr5 (λh5 hle2 sl5=>eb Ts (hrec _ _ _ _ _ _ _ to (many-1) (hl.mono aE.aB (hl1.t hle2)) sl5 ob (by simp only[beq_eq_false_iff_ne]at *;omega)) U (λv2 h3 hle3 hp1=>?_))))⟩)))⟩)))⟩)
   exact Ns
  refine cM (cells:=[I y1.To]) fm ty3 zc3 U U kr (λb3=>⟨jn,(tn 1 U (lC fm ty3 (λb8=>⟨jn,(tn 3 U (dN XZ ([]) ([(b3,O [I y1.To] 3)]) (λG=>[(b3,O [I y1.To] 3)]++G) ap (λ_=>ap) fm ty3 zc3 U bytes3 (di.lit (show bW jB hh1 [] ([])from U) U) U U (iY (hpeople.mono vJ hl1).1) lo lo (λob7 oc7 G7 gr7=>⟨jn,(tn 10 U (dN XZ ([(b3,O [I y1.To] 3)]) ([]) (λG=>[(b3,O [I y1.To] 3)]++G) ap (λ_=>ap) fm ty3 zc3 U bytes3 gr7 U U (gQ 0 U (cE (y1.To) U U)) lo lo (λob8 oc8 G8 gr8=>⟨jn,(tn 14 U (nD vJ ([(b3,O [I y1.To] 3)]) G8 ([]) ap hM gr8 (λh8 hle2 sl8=>eb Ts (hrec _ _ _ _ _ _ _ to (many-1) (hl.mono aE.aB (hl1.t hle2)) sl8 ob (by simp only[beq_eq_false_iff_ne]at *;omega)) U (λv3 h3 hle3 hp1=>?_))))⟩)))⟩)))⟩)))⟩)
  exact Ns
 rintro i1 hh1 hd1 rZ hx e
 exact qK 6 [] U (fO rZ U (qO 3 U (hx _ rd)))
theorem xz:∀(m:Nat)(h:HF)(l:List aE)(eP:Option Addr)(eO:Nat)(people:List Int)(oq:Option Addr)(oo:Nat)(to:Int)(many:Int)(_:(many.toNat+1)<=m)(hl:SlC aE.rp h eP eO l)(hpeople:SlC jB h oq oo people)(hmn:(0<=many/\many<=8)/\(0<people.length/\people.length+many.toNat<=100)),j0 prog 361 [.slice eP l.length eO,.slice oq people.length oo,I to,I many] h (λv h'=>∃(rb0:Option Addr)(rc0:Nat),v=.tuple #[.slice rb0 ((cX.go m l people to many).1).length rc0,.bool ((cX.go m l people to many).2)]/\SlC jB h' rb0 rc0 ((cX.go m l people to many).1))
 |0,h,l,eP,eO,people,oq,oo,to,many,hd,hl,hpeople,hmn=>absurd hd (Nat.not_le.2 (Nat.succ_pos _))
 |m+1,h,l,eP,eO,people,oq,oo,to,many,hd,hl,hpeople,hmn=>IR (cX.go m) (HH m) h l eP eO people oq oo to many (λqh_ ql VC VB qpeople BK BJ qto qmany qhl qhpeople qhmn qd=>xz m qh_ ql VC VB qpeople BK BJ qto qmany ob qhl qhpeople qhmn) hl hpeople hmn
theorem KG(h l eP eO people oq oo to)(many:Int)(hl:SlC aE.rp h eP eO l)(hpeople:SlC jB h oq oo people)(hmn:(0<=many/\many<=8)/\(0<people.length/\people.length+many.toNat<=100)):j0 prog 361 [.slice eP l.length eO,.slice oq people.length oo,I to,I many] h (λv h'=>∃(rb0:Option Addr)(rc0:Nat),v=.tuple #[.slice rb0 ((cX l people to many).1).length rc0,.bool ((cX l people to many).2)]/\SlC jB h' rb0 rc0 ((cX l people to many).1)):=xz _ h l eP eO people oq oo to many (zE _) hl hpeople hmn
theorem te(x:ae):(ae.cells x).length=8:=rfl
theorem CE(f:ae->Bool):∀(l:List ae)(i:Nat),(dp.L1 f dp.K1 l i=-1/\∀x∈l,f x=false) \/
  ∃a y b,l=a++y::b/\dp.L1 f dp.K1 l i=((i+a.length:Nat):Int)/\f y=true/\∀x∈a,f x=false
 |[],i=>.inl ⟨rfl,λ_ h=>(vA h).elim⟩
 |y::l,i=>by
  simp only[dp.L1]
  cases hy:f y with
  |true=>exact .inr ⟨[],y,l,rfl,by simp,hy,λ_ h=>(vA h).elim⟩
  |false=>
   rcases CE f l (i+1)with⟨h1,h2⟩|⟨a,z,b,rfl,h2,h3,h4⟩
   .exact .inl ⟨h1,λx hx=>by rcases vC.1 hx with rfl|hx;exact hy;exact h2 x hx⟩
   refine .inr ⟨y::a,z,b,rfl,?_,h3,λx hx=>by rcases vC.1 hx with rfl|hx;exact hy;exact h4 x hx⟩
   rw[cond_false,h2];simp only[xA];congr 1;omega
theorem EA{l:List ae}(h:∀x∈l,q x=false):(l.filter λx=>!(q x))=l:=by
 rw[List.filter_eq_self];intro x hx;simp[h x hx]
theorem Ta{s zs:List ae}{i j:Nat}{y:ae}(hij:i<j)(hz:zs.length=s.length)(hj:s[j]? = some y)(ht:zs.take i=(s.take j).filter λx=>!(q x))(hd:zs.drop j=s.drop j)(hy:q y=false):
  (zs.set i y).take (i+1)=((s.take (j+1)).filter λx=>!(q x))/\(zs.set i y).drop (j+1)=s.drop (j+1):=by
 have hjl:j<s.length:=by
  rcases vR j s.length with h|h
  .exact h
  simp[List.getElem?_eq_none h]at hj
 constructor
 .rw[List.take_add_one,List.take_set_of_le (zE _),ht,List.take_add_one,hj,List.filter_append]
  simp[hy,show i<zs.length from by omega]
 rw[List.drop_set_of_lt ob,←List.drop_drop,hd,List.drop_drop]
theorem S9{s zs:List ae}{i j:Nat}{y:ae}(hj:s[j]? = some y)(ht:zs.take i=(s.take j).filter λx=>!(q x))(hd:zs.drop j=s.drop j)(hy:q y=true):
  zs.take i=((s.take (j+1)).filter λx=>!(q x))/\zs.drop (j+1)=s.drop (j+1):=by
 constructor
 .rw[List.take_add_one,hj,List.filter_append,ht];simp[hy]
 rw[←List.drop_drop,hd,List.drop_drop]
theorem EC{h:HF}{xs:List ae}{bk c:Nat}{sp:List Value}(h3:(xs.flatMap ae.cells++sp).length=c*8)(h4:xs.length<=c)(h5:xs.length<=9223372036854775807):di ae.rp 67 h xs (zAD bk) c [(bk,.cells (xs.flatMap ae.cells++sp).toArray 67 (0,0))]:=
 .inr ⟨bk,_,sp,rfl,JV (λ_ _=>rfl) te h xs,h3,h4,h5,rfl⟩
theorem tj(h)(s:List ae)(b c G)(del:ae->Bool)(del_v)(hG:di ae.rp 67 h s b c G)(hdel:∀(h':HF)(fX:ae),HF.le h h'->wg prog del_v [.agg (ae.cells fX).toArray] h' [] (.bool (del fX)))(hsz:s.length<=2000000):
  qf prog 328 [.slice b s.length c,del_v].toArray h G (λr h' G'=>h'=h/\r=.returned (.slice b (fL s del).length c)/\di ae.rp 67 h (fL s del) b c G'):=by
 refine el func328 U ntmps328 U λX hM hX=>qT 8 U (aS (Ig [] G [] call377 ae.aB hG (by simp) (λh1 eT hsl=>tV h1 s b c del del_v hsl (λh' a hl=>hdel h' a (eT.t hl))) U (qO 6 U ?_)))
 have hcase:=CE del s 0
 rw[show dp.L1 del dp.K1 s 0=dp s del from rfl]at hcase
 rcases hcase with⟨h1,h2⟩|⟨a,y,r,hs,h1,hy,ha⟩
 .rw[h1]
  refine ls (v':=.bool true) U U (qO 7 U ?_)
  have hf:fL s del=s:=EA h2
  refine ra func328 (λa ha w hw=>res1 U a ha w) (λw hw=>hw.lower) ⟨hX,?_,?_⟩
  .rw[hf];rfl
  rw[hf];exact hG
 rw[h1,Nat.zero_add]
 have hne:((a.length:Int)==-1)=false:=by simp
 have hsl:s.length=a.length+(r.length+1):=by rw[hs];simp
 refine fO hne U (qO 7 U (ls (v':=I ((a.length+1:Nat):Int)) U (NX ob) (an ?_)))
 refine km (ι:=Nat×List ae×LH) (λi=>[(0,.slice b s.length c),(1,del_v),(5,I (i.1:Int))]) (λi=>h) (λi=>i.2.2)
  (λi=>i.1<s.length/\i.2.1.length=s.length/\i.2.1.take i.1=fL s del/\di ae.rp 67 h i.2.1 b c i.2.2) ?_ (λhx=>?_)
 .rintro⟨i,zs,G'⟩ ⟨hi,hz,hf,hG'⟩ e
  dsimp only at hi hz hf hG'
  rcases hG' with⟨rfl,_⟩|⟨bk,cl,sp,rfl,hcl,h3,h4,h5,rfl⟩
  .simp at hz;omega
  have hcl':=Dj (C:=ae.cells) (λ_ _ _ e=>e) hcl
  subst hcl'
  have hcz:zs.length<=c:=h4
  have hzl:=vX te zs
  have h3':zs.length*8+sp.length=c*8:=by rw[←hzl,←kA];exact h3
  have hzn:(i:Int).toNat=i:=by omega
  have hgf:di ae.rp 67 h zs (zAD bk) c [(bk,.cells (zs.flatMap ae.cells++sp).toArray 67 (0,0))]:=EC h3 h4 h5
  obtain⟨m,hm⟩:∃m,s.length-i=m+1:=⟨s.length-i-1,by omega⟩
  refine qT 4 U (aS (fU (v:=.slice (some ⟨bk,i*8,none⟩) (m+1) (c-i)) (Qv MF ty67 U U ob ob hm) (aS (Sw (P:=prog) 0 (sz:=8) (zs:=[I 0,I 0,I 0,I 0,I 0,I 0,I 0,.bool false]) (bk:=bk) (cl:=zs.flatMap ae.cells++sp) (cc:=c-i) MF (gF zv67) U U (by decide) (by decide) U U (off:=i*8) (m:=m) (by rw[kA,hzl];omega) (λvs hvl=>?_)))))
  have hsp:∃sp',splice (zs.flatMap ae.cells++sp) (i*8) vs=(zs.take i).flatMap ae.cells++sp':=by
   have e1:zs.flatMap ae.cells++sp=(zs.take i).flatMap ae.cells++((zs.drop i).flatMap ae.cells++sp):=by
    rw[←zC,←List.flatMap_append,List.take_append_drop]
   rw[e1]
   have e2:i*8=((zs.take i).flatMap ae.cells).length:=by rw[vX te,List.length_take];congr 1;omega
   have:=BE vs ((zs.take i).flatMap ae.cells) ((zs.drop i).flatMap ae.cells++sp) (by rw[kA,vX te,List.length_drop,hvl];omega)
   rw[←e2]at this
   exact⟨_,this⟩
  obtain⟨sp',hsp⟩:=hsp
  have hlen:((zs.take i).flatMap ae.cells++sp').length=c*8:=by
   rw[←hsp,KU];exact h3
  show TO _ _ _ _ _ _ _ _ _ _ h [(bk,.cells (splice (zs.flatMap ae.cells++sp) (i*8) vs).toArray 67 (0,0))]
  rw[hsp]
  have hg2:di ae.rp 67 h (zs.take i) (zAD bk) c [(bk,.cells ((zs.take i).flatMap ae.cells++sp').toArray 67 (0,0))]:=
   EC hlen (by rw[List.length_take];omega) (by rw[List.length_take];omega)
  refine qO 5 U (aS (T1 (z:=(i:Int)) MF ty67 hgf ob (by show _=Value.slice _ _ _;rw[hz];rfl) U U (an ?_)))
  refine ra func328 (λa ha w hw=>res1 U a ha w) (λw hw=>hw.lower) ⟨hX,?_,?_⟩
  .rw[←hf,hzn];rfl
  rw[←hf];exact hg2
 refine mL (ι:=Nat×Nat×List ae×LH) (λi=>[(0,.slice b s.length c),(1,del_v),(5,I (i.1:Int)),(6,I (i.2.1:Int))]) (λi=>h) (λi=>i.2.2.2)
  (λi=>i.1<i.2.1/\i.2.1<=s.length/\i.2.2.1.length=s.length/\i.2.2.1.take i.1=((s.take i.2.1).filter λx=>!(del x))/\i.2.2.1.drop i.2.1=s.drop i.2.1/\di ae.rp 67 h i.2.2.1 b c i.2.2.2)
  (λi=>s.length-i.2.1) (a.length,a.length+1,s,G) rd (λw hw=>hw) ⟨Nat.lt_succ_self _,by show a.length+1<=s.length;omega,rfl,?_,rfl,hG⟩ ?_
 .show s.take a.length=((s.take (a.length+1)).filter λx=>!(del x))
  rw[hs,List.take_left' rfl,List.take_add_one,List.take_left' rfl,List.filter_append,EA ha];simp[hy]
 rintro⟨i,j,zs,G'⟩ ⟨hij,hjl,hz,ht,hd,hG'⟩ ag e
 dsimp only at hij hjl hz ht hd hG'
 rcases vR j s.length with hj|hj
 .have hjs:s[j]? = some s[j]:=List.getElem?_eq_getElem hj
  have hjz:zs[j]? = some s[j]:=by
   have e1:(zs.drop j)[0]? = (s.drop j)[0]?:=by rw[hd]
   simpa[hjs]using e1
  have hiz:zs[i]? = some zs[i]:=List.getElem?_eq_getElem ob
  rcases hG' with⟨rfl,_⟩|⟨bk,cl,sp,rfl,hcl,h3,h4,h5,rfl⟩
  .simp at hz;omega
  have hcl':=Dj (C:=ae.cells) (λ_ _ _ e=>e) hcl
  subst hcl'
  refine qK 6 [] U (tO (decide_eq_true ob) U (qO 9 U (aS (fU (nU (R:=ae.rp) (xs:=zs) (z:=(j:Int)) MF ty67 U ob U hz.symm U) (aS (fU (nQ (off:=j*8) (cs:=ae.cells s[j]) ty67 U (List.mem_singleton.2 U) (U1 te hjz)) (cS zc67 (λb7=>cJ 0 ty67 U U U U U U (qO 4 U (ga 0 ty67 U U U (aS (wo (v:=.bool (del s[j])) [] (List.nil_sublist _) (hdel h s[j] lf) U U ?_))))))))))))
  cases hy:del s[j]with
  |true=>
   obtain⟨k1,k2⟩:=S9 hjs ht hd hy
   exact sF U (qO 6 U (oi j U (an (ek (L':=[(bk,.cells (zs.flatMap ae.cells++sp).toArray 67 (0,0))]) js (ag (i,j+1,zs,[(bk,.cells (zs.flatMap ae.cells++sp).toArray 67 (0,0))]) _ (by show s.length-(j+1)<s.length-j;omega) ⟨by show i<j+1;omega,hj,hz,k1,k2,EC h3 h4 h5⟩ rd)))))
  |false=>
   obtain⟨k1,k2⟩:=Ta hij hz hjs ht hd hy
   refine qO 7 U (ga 0 ty67 U U U (aS (fU (nU (R:=ae.rp) (xs:=zs) (z:=(i:Int)) MF ty67 U ob U hz.symm U) (aS (qi 1 (off:=i*8) (vs:=ae.cells s[j]) ty67 U U U U (by rw[kA,vX te,te];exact Nat.ble_eq_true_of_le ob) U ?_)))))
   have hsl2:setNth [(b7,O (ae.cells s[j]) 67),(bk,.cells (zs.flatMap ae.cells++sp).toArray 67 (0,0))] 1 (bk,.cells (splice (zs.flatMap ae.cells++sp) (i*8) (ae.cells s[j])).toArray 67 (0,0))=[(b7,O (ae.cells s[j]) 67),(bk,.cells ((zs.set i s[j]).flatMap ae.cells++sp).toArray 67 (0,0))]:=by
    rw[OD te hiz];rfl
   refine mf hsl2 (qO 3 U (oi i U (qO 5 U (oi j U (an (ek (L':=[(bk,.cells ((zs.set i s[j]).flatMap ae.cells++sp).toArray 67 (0,0))]) js ?_))))))
   have hzl2:(zs.set i s[j]).length=s.length:=by rw[List.length_set];exact hz
   exact ag (i+1,j+1,zs.set i s[j],[(bk,.cells ((zs.set i s[j]).flatMap ae.cells++sp).toArray 67 (0,0))]) _ (by show s.length-(j+1)<s.length-j;omega) ⟨by show i+1<j+1;omega,hj,hzl2,k1,k2,EC (by rw[kA,vX te,List.length_set,←vX te,←kA];exact h3) (by rw[List.length_set];exact h4) (by rw[List.length_set];exact h5)⟩ rd
 have hje:j=s.length:=by omega
 subst hje
 exact qK 6 [] U (fO (decide_eq_false ob) U (qO 3 U (hx (i,zs,G') _ ⟨hij,hz,by show zs.take i=_;rw[ht,List.take_length];rfl,hG'⟩ rd)))
theorem IK(h)(x:Budget):Ret prog 136 [.agg (Budget.cells x).toArray] h (.bool (oD x)):=by
 refine sVv func136 ntmps136 ?_
 generalize hz:(oD x)=z
 exact W
instance k136:Ct 136:=⟨_,call136,@IK⟩
theorem CB(h bK fA bD aT ad)(nW:Register.ok h bK fA):My prog 32 [.agg (Register.cells bK fA).toArray,I bD,I aT,I ad] h errV (nr bK bD aT ad) (λ(r:bZ)v h'=>∃(rr0:sC),v=.agg (bZ.cells r rr0).toArray/\bZ.ok h' r rr0):=by
 refine el func32 U ntmps32 U λX hM hX=>?_
 have hs0:=@rfl _ (nr bK bD aT ad)
 refine sr (j2 (λb1=>j2 (λb2=>cS zc91 (λb3=>qL 5 [2] U (dV 1 U hM (λh1 hle1 hb1=>aS (kw U U (e9 call102 (pm _ _ _ _ (λfX=>bz fX bD) (.func (.func 103) #[] #[Q b2]) (nW.cj.mono aj.aB hle1) (λh' fX Le eT Xb a0_o=>oO call103 (Hd h' fX Le bD ⟨b2,0,none⟩ a0_o ((gM hb1).mono eT)))) U (qO 8 U (pH 5 [16,17,18,19,20,21] 16 21 (decide ((min aT ad)<0)) U (λc1 hk1=>?_) (λe=>?_)))))))))))
 .exact dU (dU (aS (fU (Wg U U) (qO 2 U (hk1 _ U)))))
 refine dU (pH 5 [22,23,24,25,26,27] 22 27 (decide (1099511627776<=(max aT ad))) U (λc2 hk2=>?_) (λe=>?_))
 .exact dU (dU (aS (fU (Wh U U) (qO 2 U (hk2 _ U)))))
 refine ck (dy hs0 U (λc3 hs1=>?_) (λc3 hs2=>?_))
 .exact cB (aS (fU (RD underlying37 U U) (aS (MR U EL (λe=>nK (Ou [] func32 hs1))))))
 refine qT 2 U ?_
 let z1:Nat×Obj:=(b1,O (Register.cells bK fA) 30)
 refine hU ([z1]) mixed kr jn (λkI _=>?_)
 refine tf 0 U U (λ_ _ hj=>nQ ty30 U (hj.nth (i:=0) U) U) (qB [1] U (tf 2 U U (rj 0 ty27 U U U) (tm 3 U ?_)))
 have ho1:0<=((ah bK.cj (λfX=>bz fX bD)):Int)/\((ah bK.cj (λfX=>bz fX bD)):Int)<((bK.cj).length:Int):=(by have hq:=Fe bK.cj (λfX=>bz fX bD);simp only[decide_eq_true_eq,decide_eq_false_iff_not,Bool.and_eq_true,Bool.or_eq_true,Bool.not_eq_true',Bool.not_eq_false',Bool.and_eq_false_iff,Bool.or_eq_false_iff,beq_iff_eq,beq_eq_false_iff_ne,bne_iff_ne,bne_eq_false_iff_eq,kA,xA,List.length_nil,List.length_drop]at *;omega)
 refine sY 4 kI jn MG ty54 (nW.cj.mono aj.aB hle1).1 ho1 (eu ho1) U U U U kr (λq1 cs1 A1 ln1 rr1=>?_)
 obtain⟨r1,rfl,ok1⟩:=rr1
 refine tf 5 U U (λ_ _ hj=>s5 ty54 (A1.mono hj.1) U U) (qA [6,7] U (tn 8 U (ia (cells:=[.slice fA.zg bK.fj.length fA.zf,.slice fA.ze bK.dY.length fA.zc,.slice fA.wM bK.gu.length fA.wK,.slice fA.Cc bK.fF.length fA.Cb,.slice fA.nu bK.Versions.length fA.nt,.slice fA.N8 bK.cj.length fA.N7,.slice fA.wQ bK.bS.length fA.wO,I ((nthI bK.cj (ah bK.cj (λfX=>bz fX bD))).No),I ((nthI bK.cj (ah bK.cj (λfX=>bz fX bD))).At),I ((nthI bK.cj (ah bK.cj (λfX=>bz fX bD))).Kind),I ((nthI bK.cj (ah bK.cj (λfX=>bz fX bD))).Value),I ((nthI bK.cj (ah bK.cj (λfX=>bz fX bD))).From),I ((nthI bK.cj (ah bK.cj (λfX=>bz fX bD))).nS),.slice r1.BY ((nthI bK.cj (ah bK.cj (λfX=>bz fX bD))).nz.length) r1.BX,.slice r1.uU ((nthI bK.cj (ah bK.cj (λfX=>bz fX bD))).eX.length) r1.uT,.slice r1.Hx ((nthI bK.cj (ah bK.cj (λfX=>bz fX bD))).eQ.length) r1.Hw,Y ((nthI bK.cj (ah bK.cj (λfX=>bz fX bD))).Text 0),Y ((nthI bK.cj (ah bK.cj (λfX=>bz fX bD))).Text 1),Y ((nthI bK.cj (ah bK.cj (λfX=>bz fX bD))).Text 2),Y ((nthI bK.cj (ah bK.cj (λfX=>bz fX bD))).Text 3),Y ((nthI bK.cj (ah bK.cj (λfX=>bz fX bD))).Text 4),Y ((nthI bK.cj (ah bK.cj (λfX=>bz fX bD))).Text 5),Y ((nthI bK.cj (ah bK.cj (λfX=>bz fX bD))).Text 6),Y ((nthI bK.cj (ah bK.cj (λfX=>bz fX bD))).Text 7),Y ((nthI bK.cj (ah bK.cj (λfX=>bz fX bD))).Text 8),Y ((nthI bK.cj (ah bK.cj (λfX=>bz fX bD))).Text 9),Y ((nthI bK.cj (ah bK.cj (λfX=>bz fX bD))).Text 10),Y ((nthI bK.cj (ah bK.cj (λfX=>bz fX bD))).Text 11),Y ((nthI bK.cj (ah bK.cj (λfX=>bz fX bD))).Text 12),Y ((nthI bK.cj (ah bK.cj (λfX=>bz fX bD))).Text 13),Y ((nthI bK.cj (ah bK.cj (λfX=>bz fX bD))).Text 14),Y ((nthI bK.cj (ah bK.cj (λfX=>bz fX bD))).Text 15),Y ((nthI bK.cj (ah bK.cj (λfX=>bz fX bD))).Text 16),Y ((nthI bK.cj (ah bK.cj (λfX=>bz fX bD))).Text 17),Y ((nthI bK.cj (ah bK.cj (λfX=>bz fX bD))).Text 18),Y ((nthI bK.cj (ah bK.cj (λfX=>bz fX bD))).Text 19),Y ((nthI bK.cj (ah bK.cj (λfX=>bz fX bD))).Text 20),Y ((nthI bK.cj (ah bK.cj (λfX=>bz fX bD))).Text 21),Y ((nthI bK.cj (ah bK.cj (λfX=>bz fX bD))).Text 22),Y ((nthI bK.cj (ah bK.cj (λfX=>bz fX bD))).Text 23),Y ((nthI bK.cj (ah bK.cj (λfX=>bz fX bD))).Text 24),Y ((nthI bK.cj (ah bK.cj (λfX=>bz fX bD))).Text 25),Y ((nthI bK.cj (ah bK.cj (λfX=>bz fX bD))).Text 26),Y ((nthI bK.cj (ah bK.cj (λfX=>bz fX bD))).Text 27),Y ((nthI bK.cj (ah bK.cj (λfX=>bz fX bD))).Text 28),Y ((nthI bK.cj (ah bK.cj (λfX=>bz fX bD))).Text 29),Y ((nthI bK.cj (ah bK.cj (λfX=>bz fX bD))).Text 30),Y ((nthI bK.cj (ah bK.cj (λfX=>bz fX bD))).Text 31),I aT,I ad]) (places:=[(0,7),(7,41),(48,1),(49,1)]) underlying91 zc91 kr kr ?_)))
 refine⟨jn,(tn 9 U (tl 0 ty91 U U U U U U (⟨jn,(dJ kr ?_)⟩)))⟩
 have hs3:nr bK bD aT ad=(Except.ok (bZ.mk bK (nthI bK.cj (ah bK.cj (λfX=>bz fX bD))) aT ad)):=hs2
 exact ke (Oo [] [.agg (bZ.cells (bZ.mk bK (nthI bK.cj (ah bK.cj (λfX=>bz fX bD))) aT ad) (sC.mk fA r1)).toArray] func32 U ⟨⟨0,_,_,_,_,U,U,.inl ⟨ty91,U⟩⟩,trivial⟩ hs3 ⟨(sC.mk fA r1),U,(show bZ.ok h1 (bZ.mk bK (nthI bK.cj (ah bK.cj (λfX=>bz fX bD))) aT ad) (sC.mk fA r1)from⟨(nW.mono hle1),ok1⟩)⟩)
theorem KI(h l eP eO aI bu aU ad)(hl:SlC aA.rp h eP eO l):Ret prog 244 [.slice eP l.length eO,I aI,I bu,I aU,I ad] h (I (dI l aI bu aU ad)):=by
 refine sVv func244 ntmps244 ?_
 generalize hz:(dI l aI bu aU ad)=z
 have HA:=lM [0,1,2,3,4] 12 (.mJ (λw=>w.1<(l.length:Int)) (.mJ (λw=>-1<=w.1) (.mA (λv=>[(11,I v)]) .mE))) (λs1 i w=>(dI.L1 l aI bu aU ad (dI.K1)) s1 i w.1)
 exact W
instance k244:Ct 244:=⟨_,call244,@KI⟩
theorem KJ(l:List aA)(a b c d):dI l a b c d<(l.length:Int):=by
 have key:∀(s:List aA)(i:Nat)(g:Int),i+s.length=l.length->g<(l.length:Int)->dI.L1 l a b c d dI.K1 s i g<(l.length:Int):=by
  intro s
  induction s with
  |nil=>intro i g _ hg;exact hg
  |cons y s ih=>
   intro i g hi hg
   simp only[xA]at hi
   simp only[dI.L1,Bool.cond_eq_ite]
   split
   .exact ih _ _ ob ob
   exact ih _ _ ob hg
 exact key l 0 (-1) (by simp) ob
theorem DW(h p jv)(hp:aw.ok h p jv)(hsm:smP p):Fw prog 303 [.agg (aw.cells p jv).toArray] h (exW stopV (λr:Unit=>(.tuple #[]:Value)) (dv p)):=by
 refine sVv func303 ntmps303 ?_
 generalize hz:(dv p)=z
 have hsr:=hsm.rules
 have hsc:=hsm.change
 have hsq:=hsm;unfold smP at hsq
 have q5:=λ{y:ai}(a:y∈aH p)=>(show(0:Int)<=1/\(1:Int)+(y.dep:Int)<=2000000 from by have:=tL hsm a;omega)
 have q0:=@tL
 have w0:=λ{y}(a:y∈_)=>tL hsm a
 have HA:=lK [24,25] 26 (λs i=>((dv.L1 (dv.K1)) s))
 have HB:=λ{b6}{rz1}=>lX stopV z (.mD b6 (λv=>[I v]) 3 .mE) (λs w=>((dv.L3 (λzg3_b6_0=>(dv.L1 (dv.K1) rz1))) s w.1))
 exact W
instance k303:Ct 303:=⟨_,call303,@DW⟩
theorem wh(h s zo zm v)(hs:SlC X5 h zo zm s):Ret prog 367 [.slice zo s.length zm,.string v] h (.bool (dZ s v)):=by
 refine sVv func367 ntmps367 ?_
 generalize hz:(dZ s v)=z
 exact W
instance k367:Ct 367:=⟨_,call367,@wh⟩
theorem AJ(h l eP eO done J3 J1 effective Gg Ge ND dh)(hl:SlC aj.rp h eP eO l)(hdone:SlC jB h J3 J1 done)(heffective:SlC vV h Gg Ge effective)(hdn:∀x∈done,0<=x/\x<(l.length:Int))(hef:effective.length=l.length):Ret prog 290 [.slice eP l.length eO,.slice J3 done.length J1,.slice Gg effective.length Ge,I ND,I dh] h (.tuple #[I ((fg l done effective ND dh).1),I ((fg l done effective ND dh).2)]):=by
 refine sVv func290 ntmps290 ?_
 generalize hz:(fg l done effective ND dh)=z
 have q4:=λ(a:(!(eV done ND))=false)=>UD hdn hef a
 have q5:=λ(a:(!(eV done ND))=false)=>UD hdn rfl a
 have HA:=h0 [0,1,2,3,4] 12 (λs1 i=>(fg.L1 l done effective ND (fg.K1 l ND dh)) s1 i)
 exact W
theorem oy(h p jv p_q)(tc:Int)(aT)(hp:ff.ok h p jv)(ap_z:At h p_q (ff.cells p jv))(hi:0<=tc/\tc<(p.shelf.docs.length:Int))(hlen:p.done.length=p.shelf.docs.length/\p.lacks.length=p.shelf.docs.length):Ret prog 97 [.pointer (some p_q),I tc,I aT] h (.tuple #[I ((cu p tc aT).1),I ((cu p tc aT).2)]):=by
 refine sT func97 U ntmps97 U λX hM hX hF=>?_
 have hs0:=@rfl _ (cu p tc aT)
 refine qT 8 U (aS (fU (gK U) (qL 2 [] U (iw ty27 ap_z U (dU ?_)))))
 have ho1:0<=(tc:Int)/\(tc:Int)<((p.shelf.docs).length:Int):=ob
 refine aS (If MG ty54 hp.shelf.docs.1 ho1 (eu ho1) U U U (λ_ _ _ e=>e) (λq1 r1 A1 ok1=>lh ty54 A1 U U (cS zc54 (λb1=>cJ 0 ty54 U U U U U U (qO 6 U (aS (fU (gK U) (qL 1 [] U (nm (j:=3) ty168 ap_z U U (dU ?_))))))))))
 have ho2:0<=(tc:Int)/\(tc:Int)<((p.done).length:Int):=ob
 refine aS (tW (enc:=λy=>[.bool y]) ei Do ty4 hp.done.1 ho2 (eu ho2) U U U (λq2 A2=>iw ty4 A2 U (qO 3 U (dy hs0 U (λc1 hs1=>?_) (λc1 hs2=>?_)))))
 .refine qT 5 U ?_
  have hs3:cu p tc aT=(1,(-1)):=hs1
  exact nretP [I 1,I (-1)] (hs3▸U)
 refine qT 3 U (aS (fU (gK U) (qL 1 [] U (nm (j:=4) ty31 ap_z U U (dU ?_)))))
 have ho3:0<=(tc:Int)/\(tc:Int)<((p.lacks).length:Int):=ob
 refine aS (tW (enc:=λy=>[I y]) ei fm ty3 hp.lacks.1 ho3 (eu ho3) U U U (λq3 A3=>iw ty3 A3 U (qO 3 U (dy hs2 U (λc2 hs4=>?_) (λc2 hs5=>?_)))))
 .have c2p:=of_decide_eq_true c2
  refine eI (hU ([(b1,O (aj.cells (nthI p.shelf.docs tc) r1) 54)]) mixed kr jn (λkI _=>tm 0 U (tf 1 U U (λ_ _ _=>gK U) (qB [2] U (tf 3 U U (rH 4 ty31 ap_z U U) (tm 4 U ?_))))))
  have ho4:0<=(tc:Int)/\(tc:Int)<((p.lacks).length:Int):=ob
  refine jr 5 (enc:=λy=>[I y]) kI jn ei fm ty3 hp.lacks.1 ho4 (eu ho4) U U U U kr (λq4 A4=>tf 6 U U (rh ty3 A4 U) (qA [7,8] U (dJ kr ?_)))
  have hs6:cu p tc aT=(4,(nthI p.lacks tc)):=hs4
  exact nretP [I 4,I (nthI p.lacks tc)] (hs6▸U)
 have c2p:=of_decide_eq_false c2
 refine eI ?_
 let z1:Nat×Obj:=(b1,O (aj.cells (nthI p.shelf.docs tc) r1) 54)
 refine hU ([z1]) mixed kr jn (λow _=>?_)
 refine tm 0 U (tf 1 U U (λ_ _ _=>gK U) (qB [2] U (tf 3 U U (rH 5 ty133 ap_z U U) (qB [4] U (tf 5 U U (rj 0 ty3 U U U) (tn 6 U ?_))))))
 obtain⟨o1,hb1,hm1⟩:=hp.revoked
 refine ru (k:=(nthI p.shelf.docs tc).No) Rg (im qZ) hb1 hm1 (gF zv31) (show(VSl jB) _ (zSN) []from⟨none,0,U,SlC.nil⟩) U U (λv1 hv1=>?_)
 obtain⟨rb1,rc1,rfl,sl1⟩:=hv1
 refine⟨jn,(tf 7 U U (λ_ _ _=>LG fm U) (qA [8,9] U (dJ kr (dy hs5 U (λc3 hs7=>?_) (λc3 hs8=>?_)))))⟩
 .have c3p:=of_decide_eq_true c3
  refine eI (hU ([z1]) mixed kr jn (λF4 _=>tm 0 U (tf 1 U U (λ_ _ _=>gK U) (qB [2] U (tf 3 U U (rH 5 ty133 ap_z U U) (qB [4] U (tf 5 U U (rj 0 ty3 U U U) (tn 6 U ?_))))))))
  obtain⟨o2,hb2,hm2⟩:=hp.revoked
  refine ru (k:=(nthI p.shelf.docs tc).No) Rg (im qZ) hb2 hm2 (gF zv31) (show(VSl jB) _ (zSN) []from⟨none,0,U,SlC.nil⟩) U U (λv2 hv2=>?_)
  obtain⟨rb2,rc2,rfl,sl2⟩:=hv2
  refine⟨jn,(tn 7 U (kg call171 (Dz _ _ _ _ sl2 ob) U (⟨jn,(qA [8,9] U (dJ kr ?_))⟩)))⟩
  have hs9:cu p tc aT=(5,(iu (mgetD p.revoked ((nthI p.shelf.docs tc).No) []))):=hs7
  exact nretP [I 5,I (iu (mgetD p.revoked ((nthI p.shelf.docs tc).No) []))] (hs9▸U)
 have c3p:=of_decide_eq_false c3
 refine qK 8 [0] U (dy hs8 U (λc4 hs10=>?_) (λc4 hs11=>?_))
 .have c4p:=of_decide_eq_true c4
  refine qT 5 U ?_
  have hs12:cu p tc aT=(2,(-1)):=hs10
  exact nretP [I 2,I (-1)] (hs12▸U)
 have c4p:=of_decide_eq_false c4
 refine qK 8 [0] U (dy hs11 U (λc5 hs13=>?_) (λc5 hs14=>?_))
 .have c5p:=of_decide_eq_true c5
  refine qT 5 U ?_
  have hs15:cu p tc aT=(3,(-1)):=hs13
  exact nretP [I 3,I (-1)] (hs15▸U)
 have c5p:=of_decide_eq_false c5
 refine qT 7 U ?_
 have hs16:cu p tc aT=(0,(-1)):=hs14
 exact nretP [I 0,I (-1)] (hs16▸U)
instance k97:Ct 97:=⟨_,call97,@oy⟩
theorem GR(h l eP eO)(tc:Int)(aT ad)(hl:SlC Budget.rp h eP eO l)(hi:0<=tc/\tc<(l.length:Int)):Ret prog 292 [.slice eP l.length eO,I tc,I aT,I ad] h (.bool (iT l tc aT ad)):=by
 refine sVv func292 ntmps292 ?_
 generalize hz:(iT l tc aT ad)=z
 have HA:=h0 [0,2,3,9] 10 (λs1 i=>(iT.L1 l tc aT ad (iT.K1)) s1)
 exact W
instance k292:Ct 292:=⟨_,call292,@GR⟩
theorem GC(h l eP eO)(x:av)(aT ad)(hl:SlC av.rp h eP eO l):Ret prog 326 [.slice eP l.length eO,.agg (av.cells x).toArray,I aT,I ad] h (.bool (ib l x aT ad)):=by
 refine sVv func326 ntmps326 ?_
 generalize hz:(ib l x aT ad)=z
 have HA:=h0 [0,2,3,5] 9 (λs1 i=>(ib.L1 x aT ad (ib.K1)) s1)
 exact W
instance k326:Ct 326:=⟨_,call326,@GC⟩
theorem AM(h aF et ep x gN)(iz:SlC X5 h et ep aF)(hx:ai.ok h x gN)(hsz:x.dep<=1500000):Ret prog 213 [.slice et aF.length ep,.agg (ai.cells x gN).toArray] h (.bool (cW aF x)):=by
 refine sVv func213 ntmps213 ?_
 generalize hz:(cW aF x)=z
 have HA:=lS z (λw=>false) .mE (λs w=>((cW.L1 aF (cW.K1)) s))
 exact W
instance k213:Ct 213:=⟨_,call213,@AM⟩
theorem GM(h p jv)(hp:aw.ok h p jv):Ret prog 232 [.agg (aw.cells p jv).toArray] h (.bool (ic p)):=by
 refine sVv func232 ntmps232 ?_
 generalize hz:(ic p)=z
 have HA:=h0 [1] 3 (λs1 i=>(ic.L1 p (ic.K1 p)) s1 i)
 exact W
theorem KC(h u xl xk)(hu:SlC Use.rp h xl xk u):Ret prog 189 [.slice xl u.length xk] h (.bool (eZ u)):=by
 refine sVv func189 ntmps189 ?_
 generalize hz:(eZ u)=z
 have HA:=h0 [0] 3 (λs1 i=>(eZ.L1 u (eZ.K1)) s1 i)
 have HB:=λ{y1}{rz1}{i1}=>h0 [0,3] 4 (λs1 i=>((eZ.L3 u y1 ((eZ.L1 u (eZ.K1) rz1 (i1+1)))) s1 i))
 exact W
instance k189:Ct 189:=⟨_,call189,@KC⟩
theorem AA(h s c):Ret prog 419 [.string s,Y c] h (I (strings_IndexByte s c)):=by
 refine sVv func419 ntmps419 ?_
 generalize hz:(strings_IndexByte s c)=z
 exact W
instance k419:Ct 419:=⟨_,call419,@AA⟩
theorem AF(h l eP eO)(hl:SlC aC.rp h eP eO l):Ret prog 27 [.slice eP l.length eO] h (.bool (eW l)):=by
 refine sVv func27 ntmps27 ?_
 generalize hz:(eW l)=z
 have HA:=h0 [0] 3 (λs1 i=>(eW.L1 (eW.K1)) s1)
 have HB:=λ{rz1}=>h0 [0,3,4] 5 (λs3 i=>(eW.L3 ((eW.L1 (eW.K1) rz1))) s3)
 exact W
instance k27:Ct 27:=⟨_,call27,@AF⟩
theorem GL(rec:List ByteArray->ai->Bool)(h aF et ep)(x:ai)(gN)(hrec:∀(h:HF)(qoffices:List ByteArray)(lQ:Option Addr)(lP:Nat)(qx:ai)(mi:dO)(hqoffices:SlC X5 h lQ lP qoffices)(hqx:ai.ok h qx mi)(_:qx.dep<x.dep),Ret prog 315 [.slice lQ qoffices.length lP,.agg (ai.cells qx mi).toArray] h (.bool (rec qoffices qx)))(iz:SlC X5 h et ep aF)(hx:ai.ok h x gN):Ret prog 315 [.slice et aF.length ep,.agg (ai.cells x gN).toArray] h (.bool (cq.F rec aF x)):=by
 refine sVv func315 ntmps315 ?_
 generalize hz:(cq.F rec aF x)=z
 have HA:=h0 [0,3] 5 (λs1 i=>(cq.L1 rec aF (cq.K1)) s1)
 exact W
theorem wx:∀(m:Nat)(h:HF)(aF:List ByteArray)(et:Option Addr)(ep:Nat)(x:ai)(gN:dO)(_:x.dep<=m)(iz:SlC X5 h et ep aF)(hx:ai.ok h x gN),Ret prog 315 [.slice et aF.length ep,.agg (ai.cells x gN).toArray] h (.bool (cq.go m aF x))
 |0,h,aF,et,ep,x,gN,hd,iz,hx=>absurd hd (Nat.not_le.2 (ai.ny _))
 |m+1,h,aF,et,ep,x,gN,hd,iz,hx=>GL (cq.go m) h aF et ep x gN (λqh_ qoffices lQ lP qx mi qhoffices qhx qd=>wx m qh_ qoffices lQ lP qx mi ob qhoffices qhx) iz hx
theorem IE(h aF et ep x gN)(iz:SlC X5 h et ep aF)(hx:ai.ok h x gN):Ret prog 315 [.slice et aF.length ep,.agg (ai.cells x gN).toArray] h (.bool (cq aF x)):=wx _ h aF et ep x gN (zE _) iz hx
instance k315:Ct 315:=⟨_,call315,@IE⟩
theorem GF(h l eP eO)(x:ae)(aT ad)(hl:SlC ae.rp h eP eO l):Ret prog 358 [.slice eP l.length eO,.agg (ae.cells x).toArray,I aT,I ad] h (.bool (gR l x aT ad)):=by
 refine sVv func358 ntmps358 ?_
 generalize hz:(gR l x aT ad)=z
 have HA:=h0 [0,2,3,5] 9 (λs1 i=>(gR.L1 x aT ad (gR.K1)) s1)
 exact W
instance k358:Ct 358:=⟨_,call358,@GF⟩
theorem EO(h l eP eO)(hl:SlC jB h eP eO l):Ret prog 325 [.slice eP l.length eO] h (.bool (gC l)):=by
 refine sVv func325 ntmps325 ?_
 generalize hz:(gC l)=z
 have HA:=h0 [0] 3 (λs1 i=>(gC.L1 l (gC.K1 l)) s1 i)
 exact W
instance k325:Ct 325:=⟨_,call325,@EO⟩
theorem Di(h ir):Ret prog 209 [I ir] h (.bool (j4 ir)):=by
 refine sVv func209 ntmps209 ?_
 generalize hz:(j4 ir)=z
 exact W
instance k209:Ct 209:=⟨_,call209,@Di⟩
theorem C8(h)(x:av):Ret prog 126 [.agg (av.cells x).toArray] h (.bool (nG x)):=by
 refine sVv func126 ntmps126 ?_
 generalize hz:(nG x)=z
 exact W
instance k126:Ct 126:=⟨_,call126,@C8⟩
theorem Dg(h d Ap)(hd:aj.ok h d Ap):Ret prog 131 [.agg (aj.cells d Ap).toArray] h (.bool (m9 d)):=by
 refine sVv func131 ntmps131 ?_
 generalize hz:(m9 d)=z
 exact W
instance k131:Ct 131:=⟨_,call131,@Dg⟩
theorem sG(h c rL no)(hc:bZ.ok h c rL):My prog 91 [.agg (bZ.cells c rL).toArray,I no] h errV (gm c no) (λ(r:aw)v h'=>∃(rr0:iq),v=.agg (aw.cells r rr0).toArray/\aw.ok h' r rr0):=by
 refine sVv func91 ntmps91 ?_
 generalize hz:(gm c no)=z
 have q0:=@He
 exact W
theorem uW(h) :j0 prog 180 [] h (λv h'=>∃(rk0:Nat),v=.map (some rk0)/\uN (jC .i64) VFn h' rk0 (lx)):=by
 refine sT func180 U ntmps180 U λX hM hX hF=>?_
 have hs0:=@rfl _ (lx)
 refine qT 10 U (aS (uw (λb1=>aS (AE 0 (k:=1) (x:=(zQ (.func 266) #[] #[])) Ol (im qZ) U (lB.nil (enc:=(jC .i64)) (V:=VFn) (h:=h)) U U U (λmo1 hm1=>aS (AE 0 (k:=2) (x:=(zQ (.func 267) #[] #[])) Ol (im qZ) U hm1 U U U (λmo2 hm2=>dU (aS (AE 0 (k:=3) (x:=(zQ (.func 265) #[] #[])) Ol (im qZ) U hm2 U U U (λmo3 hm3=>dU (aS (AE 0 (k:=4) (x:=(zQ (.func 265) #[] #[])) Ol (im qZ) U hm3 U U U (λmo4 hm4=>qO 3 U (fK 0 U hM (λh1 hle1 hb1=>?_)))))))))))))))
 have mc1:uN (jC .i64) VFn h1 b1 (mput (mput (mput (mput ([]) 1 (zQ (.func 266) #[] #[])) 2 (zQ (.func 267) #[] #[])) 3 (zQ (.func 265) #[] #[])) 4 (zQ (.func 265) #[] #[])):=⟨_,hb1,hm4.mono VFn.mono hle1⟩
 have hs1:lx=(mput (mput (mput (mput ([]) 1 (zQ (.func 266) #[] #[])) 2 (zQ (.func 267) #[] #[])) 3 (zQ (.func 265) #[] #[])) 4 (zQ (.func 265) #[] #[])):=hs0
 exact nretH [.map (some b1)] (hs1▸⟨b1,U,mc1⟩)
theorem Pz(mode)(l:List aC)(old):(judgesP mode l old).length<=l.length:=by
 unfold judgesP kc kb jp
 cases mode==1<;>cases mode==2<;>cases old<;>simp<;>omega
theorem Px(h)(mode:Int)(hm:1<=mode/\mode<=4)(l eP eO old)(hl:SlC aC.rp h eP eO l)(hne:0<l.length):
  Wo prog (mgetD lx mode Value.nilFunc) [.slice eP l.length eO,.bool old] h (λv h'=>∃(rb0:Option Addr)(rc0:Nat),v=.slice rb0 (judgesP mode l old).length rc0/\SlC aC.rp h' rb0 rc0 (judgesP mode l old)):=by
 have:mode=1\/mode=2\/mode=3\/mode=4:=by omega
 rcases this with rfl|rfl|rfl|rfl
 .exact pP (cap:=[]) (args:=[.slice eP l.length eO,.bool old]) call266 (Av h l eP eO old hl hne)
 .exact pP (cap:=[]) (args:=[.slice eP l.length eO,.bool old]) call267 (Au h l eP eO old hl hne)
 .exact pP (cap:=[]) (args:=[.slice eP l.length eO,.bool old]) call265 (tg h l eP eO old hl)
 exact pP (cap:=[]) (args:=[.slice eP l.length eO,.bool old]) call265 (tg h l eP eO old hl)
theorem Iq_(h d Ap)(hd:aj.ok h d Ap):Ret prog 139 [.agg (aj.cells d Ap).toArray] h (.bool (nO d)):=by
 refine sVv func139 ntmps139 ?_
 generalize hz:(nO d)=z
 exact W
instance k139:Ct 139:=⟨_,call139,@Iq_⟩
theorem uB(h l eP eO)(ok:(ByteArray->Bool))(ok_v)(hl:SlC X5 h eP eO l)(hok:∀(h':HF)(fX:ByteArray),HF.le h h'->wg prog ok_v [.string fX] h' [] (.bool (ok fX))):Ret prog 366 [.slice eP l.length eO,ok_v] h (.bool (cA l ok)):=by
 refine sVv func366 ntmps366 ?_
 generalize hz:(cA l ok)=z
 have HA:=h0 [0,1,7,8] 9 (λs1 i=>(cA.L1 l ok (cA.K1)) s1 i)
 exact W
instance k366:Ct 366:=⟨_,call366,@uB⟩
theorem Cj(h l eP eO eB ad)(hl:SlC aA.rp h eP eO l):j0 prog 270 [.slice eP l.length eO,I eB,I ad] h (λv h'=>∃(rk0:Nat),v=.map (some rk0)/\uN OSeat.enc (mT aA.rp) h' rk0 (gj l eB ad)):=by
 refine sVv func270 ntmps270 ?_
 generalize hz:(gj l eB ad)=z
 exact W
instance k270:Ct 270:=⟨_,call270,@Cj⟩
theorem sN(h l eP eO bD aT ad)(hl:SlC ae.rp h eP eO l):j0 prog 378 [.slice eP l.length eO,I bD,I aT,I ad] h (λv h'=>∃(rv0:Value),v=rv0/\Itr prog rv0 rW (fS l bD aT ad) h'):=by
 refine sVv func378 ntmps378 ?_
 generalize hz:(fS l bD aT ad)=z
 exact W
theorem sx(l:List ae)(bD aT ad):(fS l bD aT ad).length<=l.length:=by
 show(de.L1 bD aT ad de.K1 l).length<=l.length
 induction l with
 |nil=>exact zE _
 |cons y l ih=>simp only[de.L1,Bool.cond_eq_ite];split<;>simp only[xA]<;>omega
theorem IX(h)(x:aA):Ret prog 133 [.agg (aA.cells x).toArray] h (.bool (oF x)):=by
 refine sVv func133 ntmps133 ?_
 generalize hz:(oF x)=z
 exact W
instance k133:Ct 133:=⟨_,call133,@IX⟩
theorem It(h)(x:av):Ret prog 135 [.agg (av.cells x).toArray] h (.bool (oB x)):=by
 refine sVv func135 ntmps135 ?_
 generalize hz:(oB x)=z
 exact W
instance k135:Ct 135:=⟨_,call135,@It⟩
theorem IM(h l eP eO nos Wm Wl)(hl:SlC aj.rp h eP eO l)(hnos:SlC jB h Wm Wl nos):Ret prog 140 [.slice eP l.length eO,.slice Wm nos.length Wl] h (.bool (gg l nos)):=by
 refine sVv func140 ntmps140 ?_
 generalize hz:(gg l nos)=z
 have HA:=h0 [0,1] 5 (λs1 i=>(gg.L1 l (gg.K1)) s1)
 exact W
instance k140:Ct 140:=⟨_,call140,@IM⟩
theorem DT(h l eP eO signed bV bU)(hl:SlC aj.rp h eP eO l)(iC:SlC jB h bV bU signed):Ret prog 186 [.slice eP l.length eO,.slice bV signed.length bU] h (.bool (dq l signed)):=by
 refine sVv func186 ntmps186 ?_
 generalize hz:(dq l signed)=z
 have HA:=h0 [0,1] 5 (λs1 i=>(dq.L1 (dq.K1 l signed)) s1)
 exact W
instance k186:Ct 186:=⟨_,call186,@DT⟩
theorem DN(h mode permits ku kt)(hpermits:SlC vV h ku kt permits):Ret prog 203 [I mode,.slice ku permits.length kt] h (.bool (rR mode permits)):=by
 refine sVv func203 ntmps203 ?_
 generalize hz:(rR mode permits)=z
 exact W
instance k203:Ct 203:=⟨_,call203,@DN⟩
theorem ug(h x gN)(hx:ai.ok h x gN):Ret prog 445 [.agg (ai.cells x gN).toArray] h (.bool (mu x)):=by
 refine sVv func445 ntmps445 ?_
 generalize hz:(mu x)=z
 exact W
instance k445:Ct 445:=⟨_,call445,@ug⟩
theorem wX(h)(seq:List aE)(seq_v)(hseq:Itr prog seq_v vr seq h)(hsz:seq.length<=2000000):j0 prog 332 [seq_v] h (λv h'=>∃(rb0:Option Addr)(rc0:Nat),v=.slice rb0 (dx seq).length rc0/\SlC aE.rp h' rb0 rc0 (dx seq)):=by
 refine sVv func332 ntmps332 ?_
 generalize hz:(dx seq)=z
 exact W
theorem wY(s:List aE):dx s=s:=by
 have:∀(s acc:List aE),dj.L1 dj.K1 s acc=acc++s:=by
  intro s
  induction s with
  |nil=>intro acc;exact(List.append_nil _).symm
  |cons y s ih=>intro acc;simp only[dj.L1,ih,zC,List.cons_append,qD]
 exact(this s []).trans (qD _)
theorem wd(h x y):Ret prog 86 [I x,I y] h (I (cmp_Compare_int x y)):=by
 refine sVv func86 ntmps86 ?_
 generalize hz:(cmp_Compare_int x y)=z
 exact W
instance k86:Ct 86:=⟨_,call86,@wd⟩
theorem Hi(h)(Oa:Budget)(u xl xk aT ad)(hu:SlC Use.rp h xl xk u)(hbp:Oa.mH≠0):j0 prog 101 [.agg (Budget.cells Oa).toArray,.slice xl u.length xk,I aT,I ad] h (λv h'=>∃(rv0:Value),v=rv0/\Itr prog rv0 BS (qp Oa u aT ad) h'):=by
 refine sVv func101 ntmps101 ?_
 generalize hz:(qp Oa u aT ad)=z
 exact W
theorem Cd(h l eP eO cV ad)(hl:SlC aC.rp h eP eO l)(hsz:l.length<=2000000):j0 prog 179 [.slice eP l.length eO,I cV,I ad] h (λv h'=>∃(rv0:Value),v=rv0/\Itr prog rv0 tX (gh l cV ad) h'):=by
 refine sVv func179 ntmps179 ?_
 generalize hz:(gh l cV ad)=z
 exact W
theorem wW(h)(seq:List aV)(seq_v)(hseq:Itr prog seq_v rg seq h)(hsz:seq.length<=2000000):j0 prog 268 [seq_v] h (λv h'=>∃(rb0:Option Addr)(rc0:Nat),v=.slice rb0 (ll seq).length rc0/\SlC aV.rp h' rb0 rc0 (ll seq)):=by
 refine sVv func268 ntmps268 ?_
 generalize hz:(ll seq)=z
 exact W
instance k268:Ct 268:=⟨_,call268,@wW⟩
theorem qt(h q xm)(aI:Int)(hq:ba.ok h q xm)(hno:0<=aI/\aI<(q.bh.length:Int))(hso:q.gv.Pairwise (·<=·))(hsw:q.gv.length<=2000000):j0 prog 389 [.agg (ba.cells q xm).toArray,I aI] h (λv h'=>∃(rv0:Value),v=rv0/\Itr prog rv0 rg (kX q aI) h'):=by
 refine sVv func389 ntmps389 ?_
 generalize hz:(kX q aI)=z
 exact W
instance k389:Ct 389:=⟨_,call389,@qt⟩
theorem Kt(h a Ob mR sM)(ha:dT.ok h a Ob)(K6:dT.ok h mR sM):Ret prog 13 [.agg (dT.cells a Ob).toArray,.agg (dT.cells mR sM).toArray] h (.bool (oS a mR)):=by
 refine sVv func13 ntmps13 ?_
 generalize hz:(oS a mR)=z
 exact W
theorem AD(h s zo zm)(hs:SlC jB h zo zm s):j0 prog 260 [.slice zo s.length zm] h (λv h'=>∃(rv0:Value),v=rv0/\Itr prog rv0 BS (lN s) h'):=by
 refine sVv func260 ntmps260 ?_
 generalize hz:(lN s)=z
 exact W
theorem yA(h s zo zm)(hs:SlC jB h zo zm s):j0 prog 170 [.slice zo s.length zm] h (λv h'=>∃(rv0:Value),v=rv0/\Itr prog rv0 Ba (j9 s) h'):=by
 refine sVv func170 ntmps170 ?_
 generalize hz:(j9 s)=z
 exact W
theorem sD(h s zo zm)(f:(aj->Bool))(f_v)(hs:SlC aj.rp h zo zm s)(hf:∀(h':HF)(fX:aj)(Le:m6),HF.le h h'->fX∈s->aj.ok h' fX Le->wg prog f_v [.agg (aj.cells fX Le).toArray] h' [] (.bool (f fX))):Ret prog 174 [.slice zo s.length zm,f_v] h (.bool (j1 s f)):=by
 refine sVv func174 ntmps174 ?_
 generalize hz:(j1 s f)=z
 exact W
instance k174:Ct 174:=⟨_,call174,@sD⟩
theorem IF(h x gN)(hx:ai.ok h x gN):Ret prog 312 [.agg (ai.cells x gN).toArray] h (.bool (mX x)):=by
 refine sVv func312 ntmps312 ?_
 generalize hz:(mX x)=z
 exact W
instance k312:Ct 312:=⟨_,call312,@IF⟩
theorem KM(h c):Ret prog 400 [Y c] h (.bool (vl c)):=by
 refine sVv func400 ntmps400 ?_
 generalize hz:(vl c)=z
 exact W
instance k400:Ct 400:=⟨_,call400,@KM⟩
theorem D2(h ir):Ret prog 205 [I ir] h (.bool (fQ ir)):=by
 refine sVv func205 ntmps205 ?_
 generalize hz:(fQ ir)=z
 exact W
instance k205:Ct 205:=⟨_,call205,@D2⟩
theorem Co(h ir):Ret prog 206 [I ir] h (.bool (gl ir)):=by
 refine sVv func206 ntmps206 ?_
 generalize hz:(gl ir)=z
 exact W
instance k206:Ct 206:=⟨_,call206,@Co⟩
theorem Bt(h ir):Ret prog 210 [I ir] h (.bool (iW ir)):=by
 refine sVv func210 ntmps210 ?_
 generalize hz:(iW ir)=z
 exact W
instance k210:Ct 210:=⟨_,call210,@Bt⟩
theorem uY(h s zo zm)(f:(Int->Bool))(f_v)(hs:SlC jB h zo zm s)(hf:∀(h':HF)(fX:Int),HF.le h h'->wg prog f_v [I fX] h' [] (.bool (f fX))):Ret prog 76 [.slice zo s.length zm,f_v] h (.bool (fB s f)):=by
 refine sVv func76 ntmps76 ?_
 generalize hz:(fB s f)=z
 exact W
instance k76:Ct 76:=⟨_,call76,@uY⟩
theorem uh(h x gN)(hx:ai.ok h x gN):Ret prog 444 [.agg (ai.cells x gN).toArray] h (.bool (mv x)):=by
 refine sVv func444 ntmps444 ?_
 generalize hz:(mv x)=z
 exact W
instance k444:Ct 444:=⟨_,call444,@uh⟩
theorem yi(h t):Ret prog 168 [I t] h (.bool (lG t)):=by
 refine sVv func168 ntmps168 ?_
 generalize hz:(lG t)=z
 exact W
instance k168:Ct 168:=⟨_,call168,@yi⟩
theorem yz(h s zo zm v)(hs:SlC jB h zo zm s):Ret prog 107 [.slice zo s.length zm,I v] h (.bool (kY s v)):=by
 refine sVv func107 ntmps107 ?_
 generalize hz:(kY s v)=z
 exact W
instance k107:Ct 107:=⟨_,call107,@yz⟩
theorem Aa(h l eP eO)(ok:(Bool->Bool))(ok_v)(hl:SlC vV h eP eO l)(hok:∀(h':HF)(fX:Bool),HF.le h h'->wg prog ok_v [.bool fX] h' [] (.bool (ok fX))):Ret prog 286 [.slice eP l.length eO,ok_v] h (I (jx l ok)):=by
 refine sVv func286 ntmps286 ?_
 generalize hz:(jx l ok)=z
 exact W
instance k286:Ct 286:=⟨_,call286,@Aa⟩
theorem Ck(h ir):Ret prog 207 [I ir] h (.bool (ji ir)):=by
 refine sVv func207 ntmps207 ?_
 generalize hz:(ji ir)=z
 exact W
instance k207:Ct 207:=⟨_,call207,@Ck⟩
theorem KH(h ir):Ret prog 220 [I ir] h (.bool (oX ir)):=by
 refine sVv func220 ntmps220 ?_
 generalize hz:(oX ir)=z
 exact W
instance k220:Ct 220:=⟨_,call220,@KH⟩
theorem GV(h ir):Ret prog 221 [I ir] h (.bool (nk ir)):=by
 refine sVv func221 ntmps221 ?_
 generalize hz:(nk ir)=z
 exact W
instance k221:Ct 221:=⟨_,call221,@GV⟩
theorem Kv(h ir):Ret prog 228 [I ir] h (.bool (iO ir)):=by
 refine sVv func228 ntmps228 ?_
 generalize hz:(iO ir)=z
 exact W
instance k228:Ct 228:=⟨_,call228,@Kv⟩
theorem M3(h ir):Ret prog 229 [I ir] h (.bool (pA ir)):=by
 refine sVv func229 ntmps229 ?_
 generalize hz:(pA ir)=z
 exact W
instance k229:Ct 229:=⟨_,call229,@M3⟩
end Go.Sg
