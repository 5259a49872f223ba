import Derived.Test.YtknehchipcogdaaGreatDoorJ21
import Derived.Test.YtknehchipcogdaaGreatDoorJ23
import Derived.Test.YtknehchipcogdaaGreatDoorJ24
import Derived.Test.YtknehchipcogdaaGreatDoorJ25
/- Part of JudgeSpec. -/
set_option linter.unusedVariables false
set_option linter.unusedSimpArgs false
set_option maxRecDepth 100000
namespace Go.Sg
variable {p:Prop}{q:ae->Bool}
open Go.Proofs Go.Proofs.Tryz
set_option maxHeartbeats 4000000
theorem Ky(h a Ob mR sM)(ha:aw.ok h a Ob)(K6:aw.ok h mR sM):Ret prog 225 [.agg (aw.cells a Ob).toArray,.agg (aw.cells mR sM).toArray] h (.bool (jO a mR)):=by
 refine sVv func225 ntmps225 ?_
 generalize hz:(jO a mR)=z
 have HA:=h0 [2,3] 5 (λs1 i=>(jO.L1 mR (jO.K1)) s1 i)
 exact W
instance k225:Ct 225:=⟨_,call225,@Ky⟩
theorem EP(h l eP eO aW aT ad)(hl:SlC aC.rp h eP eO l)(hsm:smV l):j0 prog 197 [.slice eP l.length eO,I aW,I aT,I ad] h (λv h'=>∃(rb0:Option Addr)(rc0:Nat),v=.slice rb0 (dk l aW aT ad).length rc0/\SlC Rp.int h' rb0 rc0 (dk l aW aT ad)):=by
 refine sVv func197 ntmps197 ?_
 generalize hz:(dk l aW aT ad)=z
 have hsl:=hsm.len
 have gn:=trivial
 have q0:=@Cw
 have h9:(gG [] (nthI l (cn l aW ad)).No).length<=1:=Cw [] _
 have k0:=λ(a:0<=cn l aW ad)=>(show _/\_ from⟨a,vk l aW ad⟩)
 have k1:=λ(t:Int)(a:0<=cn l t ad)=>(show _/\_ from⟨a,vk l t ad⟩)
 have HA:=lM [0,1,2,3] 11 (.mS 9 Rp.int .mE) (λs1 i w=>(dk.L1 l aW aT ad (dk.K1)) s1 w.1)
 have HB:=lM [0,1,2,3] 11 (.mS 9 Rp.int .mE) (λs2 i w=>(dk.L2 l aW aT ad (dk.K2)) s2 w.1)
 exact W
instance k197:Ct 197:=⟨_,call197,@EP⟩
theorem nZ(h v0 Ar Aq v0_q)(v1:List (ea×aE))(Tg v1_q)(v2:(aE->Bool))(v2_v v2_q)(v3:bL)(v3_q)(hv0:SlC aE.rp h Ar Aq v0)(av0:At h v0_q [.slice Ar v0.length Aq])(hv1:uN ea.enc (mT aE.rp) h Tg v1)(av1:At h v1_q [.map (some Tg)])(hv2:∀(h':HF)(fX:aE),HF.le h h'->wg prog v2_v [.agg (aE.cells fX).toArray] h' [] (.bool (v2 fX)))(av2:At h v2_q [v2_v])(av3:At h v3_q (bL.cells v3)):Itr prog (.func (.func 382) #[] (List.toArray [.pointer (some v0_q),.pointer (some v1_q),.pointer (some v2_q),.pointer (some v3_q)])) vr (bX v0 v1 v2 v3) h:=by
 refine vt call382 ?_
 generalize hz:bX v0 v1 v2 v3=z;have hs:=hz.symm
 intro yf ya yb C Sp Pn h1 A eT m1 m2 m3 hC hy
 refine sTY func382 U ntmps382 U λX hXM hX hF=>?_
 have hv:z=[]++z:=rfl
 have HA:=h0 [0,2,3,4,8,9] 10 (λs1 i=>(bX.L1 v1 v2 v3 (bX.K1)) s1)
 exact W
instance kI382:CtI 382:=⟨_,@nZ⟩
theorem E0(h)(bh:List (List aV))(gr gp aF)(pt:SlC (Rp.sl aV.rp) h gr gp bh)(hsz0:∀y∈bh,y.length<=2000000):Ret prog 271 [.slice gr bh.length gp,I aF] h (.bool (dg bh aF)):=by
 refine sT func271 U ntmps271 U λX hM hX hF=>?_
 have hs0:=@rfl _ (dg bh aF)
 refine qK 11 [] U ?_
 refine lp2 bh (λi w=>[(0,.slice gr bh.length gp),(1,I aF),(10,.slice gr bh.length gp),(11,I (bh.length:Int)),(12,I (i:Int))]) (λw=>w) (λw=>[]) (λi w=>HF.le h w) (λs1 i w=>(dg.L1 (dg.K1 bh aF)) s1) h pt.1.1 hs0 lf ?_ ?_
 .rintro i1 hh1 pq hs1 hl1 e
  try dsimp only at hl1
  exact qK 8 [] U (nretP [.bool ((bh.length:Int)==aF)] (cs hs1))
 rintro i1 hh1 y1 rz1 hd1 ns iI po xe hs3 hl1 hx1 ag1 e
 try dsimp only at hl1
 have hszy:=hsz0 y1 (fe hd1)
 refine sr (tO ns U (qO 8 U (aS (iG Tr ty241 (pt.mono (Rp.BF aV.aB) hl1).1 iI U U U (λq3 cs2 A3 ln2 rr2=>?_)))))
 obtain⟨rb2,rc2,rfl,sl2⟩:=rr2
 refine iw ty241 A3 U (qL 13 [] U ?_)
 refine lp2 y1 (λi w=>[(0,.slice gr bh.length gp),(1,I aF),(7,.slice w.2.1 w.1.length w.2.2.1),(10,.slice gr bh.length gp),(11,I (bh.length:Int)),(12,I (i1:Int)),(16,.slice rb2 y1.length rc2),(17,I (y1.length:Int)),(18,I (i:Int))]) (λ_=>hh1) (λw=>w.2.2.2) (λi w=>di Rp.int 3 hh1 w.1 w.2.1 w.2.2.1 w.2.2.2/\w.1.length<=0+i) (λs3 i w=>(dg.L3 (λzg3_7=>(bif(!(dL zg3_7))then false else(dg.L1 (dg.K1 bh aF) rz1)))) s3 w.1) ([],none,0,[]) sl2.1.1 hs3 ⟨di.nil,lo⟩ ?_ ?_
 .rintro i3 ⟨K7,Xe,Xd,UH⟩ Ff hs4 ⟨PI,UG⟩ e
  try dsimp only at PI UG
  refine qT 3 U (sP Rp.bG ([]) UH ([]) ap hM PI (λh1 hle1 sl3=>e9 call272 (wC _ _ _ _ sl3) U (qO 2 U (dy hs4 U (λc2 hs5=>?_) (λc2 hs6=>?_)))))
  .exact sr (an (nretP [.bool false] (cs hs5)))
  exact jf (qT 2 U (oi i1 U (qO 2 U (ag1 h1 hs6 (hl1.t hle1)))))
 rintro i3 ⟨K7,Xe,Xd,UH⟩ y3 rz3 hd3 NE qb L7 WO hs8 ⟨PI,UG⟩ hx3 ag2 e
 try dsimp only at PI UG
 refine sr (tO NE U (qO 8 U (aS (iF aV.cells underlying241 ty284 sl2.1 qb U U U (λq5 A5=>lh ty284 A5 U U (cS zc284 (λb3=>cJ 0 ty284 U U U U U U (mf (L':=[(b3,O (aV.cells y3) 284)]++(UH)) U (qL 8 [0] U (pH 4 [25,26,27,28,29] 25 29 (decide (64<y3.fD)) U (λc3 hk1=>?_) (λe=>?_)))))))))))
 .exact qL 4 [0] U (hk1 _ U)
 refine ck (dy hs8 U (λc4 hs9=>?_) (λc4 hs10=>?_))
 .exact sr (an (nretP [.bool false] (cs hs9)))
 exact qK 5 [0] U (aS (cM (cells:=[I y3.bw]) fm ty3 zc3 U U kr (λb4=>aS (dN Rp.fR ([(b4,O [I y3.bw] 3),(b3,O (aV.cells y3) 284)]) ([]) (λG=>[(b4,O [I y3.bw] 3),(b3,O (aV.cells y3) 284)]++G) ap (λ_=>ap) fm ty3 zc3 U bytes3 PI U U (gQ 0 U (cE (y3.bw) U U)) lo lo (λob1 oc1 G1 gr1=>qO 4 U (oi i3 U (qO 2 U (ek (L':=G1) js (ag2 ((K7++[y3.bw]),ob1,oc1,G1) hs10 ⟨gr1,lo⟩)))))))))
instance k271:Ct 271:=⟨_,call271,@E0⟩
theorem Ai(h l eP eO eB ad)(hl:SlC av.rp h eP eO l):j0 prog 320 [.slice eP l.length eO,I eB,I ad] h (λv h'=>∃(rv0:Value),v=rv0/\Itr prog rv0 yR (cH l eB ad) h'):=by
 refine sVv func320 ntmps320 ?_
 generalize hz:(cH l eB ad)=z
 have HA:=λ{b2}=>lM [1,2,3,7,14,15] 16 (.mM b2 dX.enc (mT av.rp) .mE) (λs1 i w=>(cH.L1 eB ad (cH.K1 l)) s1 w.1)
 exact W
theorem DV(h l eP eO eB ad)(hl:SlC aE.rp h eP eO l)(hsz0:l.length<=2000000):j0 prog 395 [.slice eP l.length eO,I eB,I ad] h (λv h'=>∃(rb0:Option Addr)(rc0:Nat),v=.slice rb0 (cN l eB ad).length rc0/\SlC aE.rp h' rb0 rc0 (cN l eB ad)):=by
 refine sT func395 U ntmps395 U λX hM hX hF=>?_
 have hs0:=@rfl _ (cN l eB ad)
 refine qT 6 U (aS (lC ur ty150 (λb1=>qO 7 U ?_)))
 obtain⟨G1,gr1,ge1⟩:∃G:LH,di aE.rp 150 h ([]) (zAD b1) 0 G/\[(b1,O [] 150)]=G:=⟨_,di.lit (show bW aE.rp h [] ([])from rfl) rfl,rfl⟩
 refine eA (L':=([])++([(b1,O [] 150)]++([]))) ap ?_
 rw[ge1]
 refine jy (List.Perm.append_left _ List.perm_append_comm) (eA (L':=G1) ap ?_)
 refine lp2 l (λi w=>[(0,.slice eP l.length eO),(1,I eB),(2,I ad),(7,.slice w.2.1 w.1.length w.2.2.1),(8,I (i:Int))]) (λ_=>h) (λw=>w.2.2.2) (λi w=>di aE.rp 150 h w.1 w.2.1 w.2.2.1 w.2.2.2/\w.1.length<=0+i) (λs1 i w=>(cN.L1 l eB ad (cN.K1)) s1 w.1) ([],(zAD b1),0,G1) hl.1.1 hs0 ⟨gr1,lo⟩ ?_ ?_ ?_
 .rintro i1 ⟨ph,F9,F8,PL⟩ pq hs1 ⟨Mc,UQ⟩ e
  try dsimp only at Mc UQ
  refine qT 5 U (jz aE.aB ([]) PL ([]) ap hM Mc (λh1 hle1 sl1=>?_))
  have hs2:cN l eB ad=ph:=hs1
  exact nretH [.slice F9 ph.length F8] ⟨F9,F8,congrArg (λr:List aE=>(.slice F9 r.length F8:Value)) hs2.symm,(by rw[hs2];exact sl1)⟩
 .rintro i1 ⟨ph,F9,F8,PL⟩ y1 rz1 hd1 ns iI po xe hs3 ⟨Mc,UQ⟩ hx1 ag1 e
  try dsimp only at Mc UQ
  refine qK 6 [] U (tO ns U (qO 9 U (aS (iF aE.cells ur ty150 hl.1 iI U U U (λq3 A3=>lh ty150 A3 U U (qO 2 U (e9 call406 (zq h y1 eB ad) U (dU (pF 7 [25,26,27,28,29,30,31,32] 25 32 (!y1.mU) U (λc1 hk1=>?_) (λe=>?_))))))))))
  .exact dU (dU (aS (iF aE.cells ur ty150 hl.1 iI U U U (λq4 A4=>qL 1 [] U (nm (j:=9) ty4 A4 U U (qO 2 U (hk1 _ U)))))))
  refine dU (pF 8 [33,34,35,36,37,38,39,40,41] 33 41 (decide (eB<y1.nS)) U (λc2 hk2=>?_) (λe=>?_))
  .exact dU (qO 2 U (aS (iF aE.cells ur ty150 hl.1 iI U U U (λq5 A5=>qL 1 [] U (nm (j:=3) ty3 A5 U U (qO 2 U (hk2 _ U)))))))
  refine qO 7 U ?_
  refine lp1 l (λi w=>[(0,.slice eP l.length eO),(1,I eB),(2,I ad),(7,.slice F9 ph.length F8),(8,I (i1:Int)),(9,.bool w),(10,I (i:Int))]) (PL) (λs3 i w=>(cN.L3 eB ad y1 (λzg3_9=>(bif zg3_9 then(cN.L1 l eB ad (cN.K1) rz1 (ph++[y1]))else(cN.L1 l eB ad (cN.K1) rz1 ph)))) s3 w) (((iU y1 eB ad)&&(!y1.mU))&&decide (eB<y1.nS)) hl.1.1 hs3 ?_ ?_ ?_
  .rintro i3 vx Ff hs4 e
   refine qT 4 U (dy hs4 U (λc4 hs5=>?_) (λc4 hs6=>?_))
   .refine qT 4 U (aS (iF aE.cells ur ty150 hl.1 iI U U U (λq9 A9=>lh ty150 A9 U U (aS (cM (cells:=[I y1.No,I y1.At,I y1.eH,I y1.nS,I y1.From,I y1.To,I y1.dQ,I y1.Kind,I y1.N5,.bool y1.mU]) ur ty150 zc150 U U kr (λb2=>?_))))))
    let z1:Nat×Obj:=(b2,O [I y1.No,I y1.At,I y1.eH,I y1.nS,I y1.From,I y1.To,I y1.dQ,I y1.Kind,I y1.N5,.bool y1.mU] 150)
    exact aS (dN aE.ft ([z1]) ([]) (λG=>[z1]++G) ap (λ_=>ap) ur ty150 zc150 U bytes150 Mc U U (gQ 0 U (cE y1 U U)) lo lo (λob1 oc1 G2 gr2=>qO 5 U (oi i1 U (an (ek (L':=G2) js (ag1 ((ph++[y1]),ob1,oc1,G2) hs5 ⟨gr2,lo⟩))))))
   exact jf (qT 3 U (oi i1 U (an (ag1 (ph,F9,F8,PL) hs6 ⟨Mc,lo⟩))))
  .rintro i3 vx y3 rz3 hd3 NE qb L7 WO hs7 hx3 ag2 e
   refine qK 6 [] U (tO NE U (qO 4 U (dy hs7 U (λc5 hs8=>?_) (λc5 hs9=>?_))))
   .refine qT 4 U ?_
    refine MJ [(0,.slice eP l.length eO),(1,I eB),(2,I ad),(7,.slice F9 ph.length F8),(8,I (i1:Int)),(9,.bool vx),(10,I (i3:Int)),(107,.bool (((iU y3 eB ad)&&(mb y1 y3))&&(decide (y1.At<y3.At)||((y3.At==y1.At)&&decide (y1.No<y3.No)))))] (λe=>?_) (λhk3=>?_)
    rotate_left
    .refine hU ([]) mixed kr jn (λkI _=>?_)
     refine qA [0,1] U (jr 2 (enc:=aE.cells) kI jn ei ur ty150 hl.1 (nthZ qb) (jk qb) U U U U kr (λq10 A10=>tf 3 U U (λ_ _ hj=>s5 ty150 (A10.mono hj.1) U U) (qA [4,5] U (tn 6 U (kg call406 (zq h y3 eB ad) U (⟨jn,(tm 7 U ?_)⟩))))))
     refine pk 58 U (λc6=>?_) (λc6=>?_)
     .refine qA [8,9] U (jr 10 (enc:=aE.cells) kI jn ei ur ty150 hl.1 (nthZ iI) (jk iI) U U U U kr (λq11 A11=>tf 11 U U (λ_ _ hj=>s5 ty150 (A11.mono hj.1) U U) (qA [12,13] U (jr 14 (enc:=aE.cells) kI jn ei ur ty150 hl.1 (nthZ qb) (jk qb) U U U U kr (λq12 A12=>tf 15 U U (λ_ _ hj=>s5 ty150 (A12.mono hj.1) U U) (tn 16 U (kg call407 (IS h y1 y3) U (⟨jn,(qA [17,18] U ?_)⟩))))))))
      refine pk 69 U (λc7=>?_) (λc7=>?_)
      .refine qA [19,20] U (jr 21 (enc:=aE.cells) kI jn ei ur ty150 hl.1 (nthZ qb) (jk qb) U U U U kr (λq13 A13=>qB [22] U (tf 23 U U (rH 1 ty3 A13 U U) (qA [24,25] U (jr 26 (enc:=aE.cells) kI jn ei ur ty150 hl.1 (nthZ iI) (jk iI) U U U U kr (λq14 A14=>qB [27] U (tf 28 U U (rH 1 ty3 A14 U U) (qA [29,30] U ?_))))))))
       refine pk 81 U (λc8=>?_) (λc8=>?_)
       .have c8p:=of_decide_eq_true c8
        exact tk 31 U U (qR 32 25 U (dJ kr (hk3 _ ⟨U,U,U,U,U,U,U,(cb (show true=(((iU y3 eB ad)&&(mb y1 y3))&&(decide (y1.At<y3.At)||((y3.At==y1.At)&&decide (y1.No<y3.No))))from by rw[c6,c7,c8]<;>rfl)),trivial⟩)))
       have c8p:=of_decide_eq_false c8
       refine qA [31,32] U (jr 33 (enc:=aE.cells) kI jn ei ur ty150 hl.1 (nthZ qb) (jk qb) U U U U kr (λq15 A15=>qB [34] U (tf 35 U U (rH 1 ty3 A15 U U) (qA [36,37] U (jr 38 (enc:=aE.cells) kI jn ei ur ty150 hl.1 (nthZ iI) (jk iI) U U U U kr (λq16 A16=>qB [39] U (tf 40 U U (rH 1 ty3 A16 U U) (qA [41,42] U ?_))))))))
       refine pk 93 U (λc9=>?_) (λc9=>?_)
       .exact tm 43 U (tm 44 U (jr 45 (enc:=aE.cells) kI jn ei ur ty150 hl.1 (nthZ qb) (jk qb) U U U U kr (λq17 A17=>qB [46] U (tf 47 U U (rh ty3 A17 U) (qA [48,49] U (jr 50 (enc:=aE.cells) kI jn ei ur ty150 hl.1 (nthZ iI) (jk iI) U U U U kr (λq18 A18=>qB [51] U (tf 52 U U (rh ty3 A18 U) (qR 53 4 U (dJ kr (hk3 _ ⟨U,U,U,U,U,U,U,(cb (show decide (y1.No<y3.No)=(((iU y3 eB ad)&&(mb y1 y3))&&(decide (y1.At<y3.At)||((y3.At==y1.At)&&decide (y1.No<y3.No))))from by rw[c6,c7,c8,c9]<;>rfl)),trivial⟩)))))))))))
       exact tk 43 U U (qR 44 13 U (dJ kr (hk3 _ ⟨U,U,U,U,U,U,U,(cb (show false=(((iU y3 eB ad)&&(mb y1 y3))&&(decide (y1.At<y3.At)||((y3.At==y1.At)&&decide (y1.No<y3.No))))from by rw[c6,c7,c8,c9]<;>rfl)),trivial⟩)))
      exact tk 19 U U (qR 20 37 U (dJ kr (hk3 _ ⟨U,U,U,U,U,U,U,(cb (show false=(((iU y3 eB ad)&&(mb y1 y3))&&(decide (y1.At<y3.At)||((y3.At==y1.At)&&decide (y1.No<y3.No))))from by rw[c6,c7]<;>rfl)),trivial⟩)))
     exact tk 8 U U (qR 9 48 U (dJ kr (hk3 _ ⟨U,U,U,U,U,U,U,(cb (show false=(((iU y3 eB ad)&&(mb y1 y3))&&(decide (y1.At<y3.At)||((y3.At==y1.At)&&decide (y1.No<y3.No))))from by rw[c6]<;>rfl)),trivial⟩)))
    refine dy hs8 U (λc10 hs10=>?_) (λc10 hs11=>?_)
    .exact cB (qO 5 U (oi i3 U (an (ag2 false hs10))))
    exact jf (qT 3 U (oi i3 U (an (ag2 vx hs11))))
   exact jI U (hx3 i3 vx hs9)
  rintro i3 vx hd3 UA hx e
  exact qK 6 [] U (fO UA U (qO 6 U (hx _ rd)))
 rintro i1 ⟨ph,F9,F8,PL⟩ hd1 rZ hx e
 exact qK 6 [] U (fO rZ U (qO 3 U (hx _ rd)))
instance k395:Ct 395:=⟨_,call395,@DV⟩
end Go.Sg
