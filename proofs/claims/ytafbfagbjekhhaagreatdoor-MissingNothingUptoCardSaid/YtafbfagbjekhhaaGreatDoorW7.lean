import Derived.Shelf.SlSortCmp.NoneTotal
import Derived.WalkKit
import Derived.Lib.Overlaps
import Derived.Test.YtafbfagbjekhhaaGreatDoorW6
/- A part of the proof of MissingNothing. -/
set_option linter.unusedVariables false
set_option linter.unusedSimpArgs false
set_option maxRecDepth 100000
open List renaming length_cons→zA,length_append→vA,not_mem_nil→kA,length_nil→zB,toArray→xB,mem_cons_self→kB,mem_singleton→xC,mem_cons_of_mem→jC,append_assoc→vD,range→qE,mem_cons→zE,mem_of_getElem?→xE,nil_append→zF,cons_append→kK,mem_append_right→kN,mem_map_of_mem→V9,ext_getElem?→WI
open Go.Sg.HF renaming le_trans→jA,le_refl→kH,le→xJ
open Go.Sg.Rp renaming int→jB,bH→qJ,sl→Wx,jz→W3
open Go.IntKind renaming wrap→vB,bits→XY
open Go.Value renaming int→qC
open Go.Sg.Register renaming cells→kC,ok→vK
open Bool renaming or_eq_true→kD
open Nat renaming le_refl→vE,zero_le→xH,le_trans→qM,lt_or_ge→xM
open Go.Sg.OSeat renaming cells→kE,enc→jT,rp→WM
open Go.Sg.SlC renaming nil→qG
open Go.Obj renaming cells→jG
open Array renaming ext'→qS
open Go.Sg.St renaming start→Ww
open Go.World renaming cell?→WE

namespace Go.Sg
section
open Go.Proofs Go.Proofs.Tryz
set_option maxHeartbeats 2000000
theorem zp(h l fg ff ba dT think cB ah)(hl:SlC ay.rp h fg ff l)(hsz:l.length<=2000000):j4 prog 225 [.slice fg l.length ff,I ba,I dT,I think,I cB,I ah] h (λv h'=>∃(rb0:Option Addr)(rc0:Nat),v=.tuple #[.slice rb0 ((da l ba dT think cB ah).1).length rc0,I ((da l ba dT think cB ah).2)]/\SlC ay.rp h' rb0 rc0 ((da l ba dT think cB ah).1)):=by
 refine sT func225 U ntmps225 U λX hM hX hF=>?_
 have hs0:=@rfl _ (da l ba dT think cB ah)
 have hst:=yH l ba cB ah
 refine sr (eL (λb1=>eL (λb2=>eL (λb3=>qO 7 U (aX call45 (vt _ _ _ _ hl) U (qO 7 U (aI hs0 U (λc1 hs1=>?_) (λc1 hs2=>?_))))))))
 .refine qT 6 U ?_
  have hs3:da l ba dT think cB ah=([],(cf l)):=hs1
  exact nretH [zSN,I (cf l)] (hs3▸⟨none,0,U,qG⟩)
 refine qT 5 U (aH (bT (cells:=[I ba]) eM ty3 zc3 U U kr (λb4=>cv 0 U hM (λh1 hle1 hb1=>?_))))
 have sl1:SlC jB h1 (zAD b4) 1 ([ba]):=cY.slB0 (T:=3) (fz:=(0,0)) ((show cY jB h [I ba] ([ba])from⟨[I ba],[],rfl,rfl,rfl,rfl⟩).mono qJ hle1) hb1
 refine aX call99 (pB _ 4095 _ _ _ sl1) U (qO 2 U (gz 8 [23,24,25,26,27,28,29,30,31] 23 31 (!(fD 1099511627775 ([dT,think,cB,ah]))) U (λc2 hk1=>?_) (λe=>?_)))
 .refine qL 4 [2,1,0] U (aH (bT (cells:=[I dT,I think,I cB,I ah]) eM ty3 zc3 U U kr (λb5=>cv 0 U hM (λh2 hle2 hb2=>?_))))
  have sl2:SlC jB h2 (zAD b5) 4 ([dT,think,cB,ah]):=cY.slB0 (T:=3) (fz:=(0,0)) ((show cY jB h1 [I dT,I think,I cB,I ah] ([dT,think,cB,ah])from⟨[I dT],[I think,I cB,I ah],rfl,rfl,rfl,⟨[I think],[I cB,I ah],rfl,rfl,rfl,⟨[I cB],[I ah],rfl,rfl,rfl,⟨[I ah],[],rfl,rfl,rfl,rfl⟩⟩⟩⟩).mono qJ hle2) hb2
  exact aX call99 (pB _ 1099511627775 _ _ _ sl2) U (qO 2 U (sx (h:=h1) hle2 hX hle1 (hk1 _ U)))
 refine bp (aI hs2 U (λc3 hs4=>?_) (λc3 hs5=>?_))
 .refine qT 5 U ?_
  have hs6:da l ba dT think cB ah=([],1):=hs4
  exact nretH [zSN,I 1] (hs6▸⟨none,0,U,qG⟩)
 refine qK 7 [0] U (aH (Ti call289 (zo _ _ _ _ ba cB ah (hl.mono ay.aG hle1) ob) U (λob1 oc1 G1 gr1=>cv 2 U hM (λh3 hle3 hb3=>cv 0 U hM (λh4 hle4 hb4=>cv 0 U hM (λh5 hle5 hb5=>aH (gB U U (aH (m6 (v:=.slice ob1 (fW (aP l ba cB ah) (λef=>j1 ef dT cB think)).length oc1) ([]) G1 ([]) call288 (sL h5 (aP l ba cB ah) ob1 oc1 G1 (λef=>j1 ef dT cB think) (.func (.func 290) #[] #[Q b1,Q b3,Q b2]) (gr1.mono ay.aG ((hle3.t hle4).t hle5)) (λh' ef db=>ip call290 (xO h' ef dT ⟨b1,0,none⟩ cB ⟨b3,0,none⟩ think ⟨b2,0,none⟩  (((dM hb3).mono (hle4.t hle5)).mono db) (((dM hb4).mono hle5).mono db) ((dM hb5).mono db))) ob) ap U (λG2 gr2=>jf (L':=G2) ap (pR ay.aG ([]) G2 ([]) ap hM gr2 (λh6 hle6 sl3=>qO 3 U ?_))))))))))))
 have hs7:da l ba dT think cB ah=((fW (aP l ba cB ah) (λef=>j1 ef dT cB think)),0):=hs5
 exact nretH [.slice ob1 ((fW (aP l ba cB ah) (λef=>j1 ef dT cB think)).length) oc1,I 0] (hs7▸⟨ob1,oc1,U,sl3⟩)
theorem FZ(h l fg ff eF to)(q:cL)(hl:SlC bz.rp h fg ff l):Ret prog 291 [.slice fg l.length ff,I eF,I to,.agg (cL.cells q).toArray] h (I (na l eF to q)):=by
 refine sT func291 U ntmps291 U λX hM hX hF=>?_
 generalize hz:(na l eF to q)=z;have hs:=hz.symm
 exact W
theorem uM(h)(seq:List bz)(seq_v)(hseq:Itr prog seq_v vg seq h)(hsz:seq.length<=2000000):j4 prog 320 [zSN,seq_v] h (λv h'=>∃(rb0:Option Addr)(rc0:Nat),v=.slice rb0 (dB seq).length rc0/\SlC bz.rp h' rb0 rc0 (dB seq)):=by
 refine cV func320 U ntmps320 U λX hM hX=>?_
 have hs0:=@rfl _ (dB seq)
 refine sr (eL (λb1=>qO 8 U (dR (bY (L':=([(b1,O [zSN] 23)])++markB []) ap ?_))))
 refine j7 (it:=seq_v) (xs:=seq) (ι:=(List bz)×Option Addr×Nat×LH×HF) [] (λi=>i.2.2.2.2) (λi=>[(b1,O [.slice i.2.1 i.1.length i.2.2.1] 23)]++(i.2.2.2.1)) (λs i=>dB seq=((dB.L1 (dB.K1)) s i.1)/\cN bz.rp 204 i.2.2.2.2 i.1 i.2.1 i.2.2.1 i.2.2.2.1/\xJ h i.2.2.2.2/\i.1.length+s.length<=seq.length) (λ_=>False) (λ_=>False) 0 (λ_ _ _=>False) ([],none,0,[],h) func320 U hseq U HM (λ_ _ _ _ _ hq=>hq) U (show[(b1,O [zSN] 23)]=_ from U) ⟨hs0,cN.nil,lf,(by simp)⟩ ?_ ?_ ?_ ?_ ?_
 .rintro l1 dm1 lp1 y1 rz1 vs1 ⟨aZ,iV,iU,ki,hh1⟩ hr1 X hFR1 ⟨hs1,eY,hl1,u1_0⟩ hl01 hlr1 hv1 hX hXM hlp1 nx1 rt1 ex1 pn1
  obtain rfl:=hv1
  simp only[zA]at u1_0
  let z1:Nat×Obj:=(b1,O [.slice iV aZ.length iU] 23)
  let z4:Nat×Obj:=(dm1,.deferred (some []))
  refine bY (L':=[(l1,.loop lp1),z4,z1]++(ki++(markB []))) ap (bM (bJ zc204 (λb4=>bG 0 ty204 U U U U U U (jf (L':=[(b4,O (bz.cells y1) 204),(l1,.loop lp1),z4,z1]++(ki++(markB []))) U (bp (kg 1 U hlp1 (qK 3 [3] U (du 0 ty204 U U U (aH (bT (cells:=[I y1.No,I y1.At,I y1.dU,I y1.mT,I y1.From,I y1.To,I y1.ep,I y1.Kind,I y1.NN,.bool y1.mG]) Jz ty204 zc204 U U kr (λb5=>?_)))))))))))
  let z3:Nat×Obj:=(b5,O [I y1.No,I y1.At,I y1.dU,I y1.mT,I y1.From,I y1.To,I y1.ep,I y1.Kind,I y1.NN,.bool y1.mG] 204)
  let z5:Nat×Obj:=(l1,.loop { lp1 with state:=.busy })
  let z6:Nat×Obj:=(b4,O (bz.cells y1) 204)
  refine aH (eN bz.dl ([z3,z6,z5,z4,z1]) (markB []) (λG=>[z3,z6,z5,z4,z1]++(markB []++G)) ap (λ_=>ap) Jz ty204 zc204 U bytes204 (eY.mono bz.aG hlr1) U U (gV 0 U (cE y1 U U)) lo lo (λob2 oc2 G2 gr2=>qI (qi ([z3,z6,z5,z4,z1]) G2 (markB [])) (cU 4 ty23 U U U U U U (qO 2 U ?_))))
  let z7:Nat×Obj:=(b1,O [.slice ob2 ((aZ++[y1]).length) oc2] 23)
  exact cm (L':=[z5,z4,z7]++(G2++(markB []))) js (bY (L':=rdH l1 dm1 lp1 (([z7]++G2)++markB [])) ap (nx1 ((aZ++[y1]),ob2,oc2,G2,hr1) _ _ ⟨hs1,gr2,(hl1.t hlr1),(by simp only[vA,zA,zB]at *;omega)⟩ lf))
 .rintro dm1 ⟨aZ,iV,iU,ki,hh1⟩ hn1 ⟨hs2,eY,hl1,u1_0⟩ hln1 hl01
  let z2:Nat×Obj:=(b1,O [.slice iV aZ.length iU] 23)
  refine bY (L':=[z2]++(ki++(markB (dm1::[])))) ap (qK 6 [0] U (fF bz.aG ([z2]) ki (markB (dm1::[])) ap hM (eY.mono bz.aG hln1) (λh2 hle2 sl2=>?_)))
  have hs3:dB seq=aZ:=hs2
  exact bY (L':=([z2])++markB (dm1::[])) ap (od (dm1::[]) [.slice iV aZ.length iU] func320 U rd ⟨iV,iU,congrArg (λr:List bz=>(.slice iV r.length iU:Value)) hs3.symm,(by rw[hs3];exact sl2)⟩)
 .exact xf
 .exact xf
 exact xf
instance kC320:Ct 320:=⟨_,call320,@uM⟩
theorem wH(h)(seq:List bz)(seq_v)(hseq:Itr prog seq_v vg seq h)(hsz:seq.length<=2000000):j4 prog 292 [seq_v] h (λv h'=>∃(rb0:Option Addr)(rc0:Nat),v=.slice rb0 (dA seq).length rc0/\SlC bz.rp h' rb0 rc0 (dA seq)):=by
 refine sT func292 U ntmps292 U λX hM hX hF=>?_
 generalize hz:(dA seq)=z;have hs:=hz.symm
 exact W
theorem wJ(s:List bz):dA s=s:=by
 have:∀(s acc:List bz),dB.L1 dB.K1 s acc=acc++s:=by
  intro s
  induction s with
  |nil=>intro acc;exact(List.append_nil _).symm
  |cons y s ih=>intro acc;simp only[dB.L1,ih,vD,kK,zF]
 exact(this s []).trans (zF _)
theorem oM(h)(q:cL)(x:bz)  : Ret prog 321 [.agg (cL.cells q).toArray,.agg (bz.cells x).toArray] h (.bool (gM q x)):=by
 refine sT func321 U ntmps321 U λX hM hX hF=>?_
 generalize hz:(gM q x)=z;have hs:=hz.symm
 exact W
theorem uq(h)(q:cL)(x:bz)  : Ret prog 323 [.agg (cL.cells q).toArray,.agg (bz.cells x).toArray] h (.bool (iz q x)):=by
 refine sT func323 U ntmps323 U λX hM hX hF=>?_
 generalize hz:(iz q x)=z;have hs:=hz.symm
 exact W
theorem Po{p:Prop}(h:p:=by
  exact⟨⟨hle1,λ_ hp=>List.Sublist.subset js hp⟩,sK (K2:=[z1]) hle1 (λ_ hp=>hp) (qA [27,28] U (bW kr (qT 4 U (oi i1 U (qO 2 U (cm (L':=A3) js (ag1 ((dn1++[y1]),A3,h2) hs5 ⟨hC1,(hl1.t hle1)⟩)))))))⟩):p:=h
theorem rL(h v0 tX tW v0_q)(v1:List (ec×bz))(QW v1_q)(v2:(bz->Bool))(v2_v v2_q)(v3:cL)(v3_q)(hv0:SlC bz.rp h tX tW v0)(av0:At h v0_q [.slice tX v0.length tW])(hv1:vO ec.enc (km bz.rp) h QW v1)(av1:At h v1_q [.map (some QW)])(hv2:∀(h':HF)(ef:bz),xJ h h'->qw prog v2_v [.agg (bz.cells ef).toArray] h' [] (.bool (v2 ef)))(av2:At h v2_q [v2_v])(av3:At h v3_q (cL.cells v3)):Itr prog (.func (.func 322) #[] (xB [.pointer (some v0_q),.pointer (some v1_q),.pointer (some v2_q),.pointer (some v3_q)])) vg (aL v0 v1 v2 v3) h:=by
 refine si call322 ?_
 intro yf ya yb C Sp Pn h1 A db m1 m2 m3 hC hy
 refine jX Gk U ntmps322 U λX hXM hX=>?_
 have hs0:aL v0 v1 v2 v3=[]++aL v0 v1 v2 v3:=rfl
 refine sr (eE ty23 (av0.mono db) U (qL 3 [] U ?_))
 refine lp2 v0 (λi w=>[(0,.func yf ya yb),(2,.pointer (some v1_q)),(3,.pointer (some v2_q)),(4,.pointer (some v3_q)),(8,.slice tX v0.length tW),(9,I (v0.length:Int)),(10,I (i:Int))]) (λw=>w.2.2) (λw=>w.2.1) (λi w=>C w.1 w.2.2 w.2.1/\xJ h1 w.2.2) (λs1 i w=>w.1++(aL.L1 v1 v2 v3 (aL.K1)) s1) ([],A,h1) ((hv0.mono bz.aG db).1.1) hs0 ⟨hC,lf⟩ ?_ ?_
 .rintro i1 ⟨dn1,A1_,hh1⟩ i7 hs1 ⟨hC1_,hl1⟩ e
  refine dR ?_
  have hs2:aL v0 v1 v2 v3=dn1:=hs1.trans (List.append_nil _)
  exact sj [] (A:=A1_) Gk U (List.Sublist.refl _) (.inl (hs2▸hC1_))
 rintro i1 ⟨dn1,A1_,hh1⟩ y1 rz1 hd1 gg dL i5 mF hs3 ⟨hC1_,hl1⟩ hx1 ag1 e
 refine sr (tO gg U (qO 8 U (aH (iF bz.cells Jz ty204 (hv0.mono bz.aG (db.t hl1)).1 dL U U U (λq2 A2=>eJ ty204 A2 U U (bJ zc204 (λb2=>bG 0 ty204 U U U U U U (jf (L':=[(b2,O (bz.cells y1) 204)]++(A1_)) U (qO 2 U ?_)))))))))
 let z1:Nat×Obj:=(b2,O (bz.cells y1) 204)
 refine fo ([z1]) mixed kr jn (λim _=>?_)
 refine tf 0 U U (rh ty365 (av1.mono (db.t hl1)) U) (qB [1] U (tf 2 U U (rj 0 ty3 U U U) (qB [3] U (tf 4 U U (rj 0 ty3 U U U) (qB [5] U (tf 6 U U (rj 0 ty3 U U U) (qB [7] U (tf 8 U U (rj 0 ty3 U U U) (tf 11 U U (λ_ _ hj=>lV ty204 U (hj.nth (i:=0) U) U) (tn 9 U (gv (cells:=[I y1.From,I y1.To,I y1.ep,I y1.Kind]) (places:=[(0,1),(1,1),(2,1),(3,1)]) O1 zc367 kr kr (⟨jn,tn 10 U ?_⟩))))))))))))
 obtain⟨o2,hb2,hm2⟩:=(hv1.mono (km.mono bz.aG) (db.t hl1))
 refine ph (k:=(ec.mk y1.From y1.To y1.ep y1.Kind)) underlying365 wQ hb2 hm2 (eG zv204) (show(km bz.rp) _ (.agg (xB [I 0,I 0,I 0,I 0,I 0,I 0,I 0,I 0,I 0,.bool false])) (bz.mk 0 0 0 0 0 0 0 0 0 false)from⟨_,U,U⟩) U U (λv2 hv2=>?_)
 obtain⟨_,rfl,rfl⟩:=hv2
 refine⟨jn,(tf 12 U U (λ_ _ _=>JY (Oy (mgetD v1 (ec.mk y1.From y1.To y1.ep y1.Kind) (bz.mk 0 0 0 0 0 0 0 0 0 false)) y1) eqg204 U U) (tm 13 U ?_))⟩
 refine fJ 27 U (λc1=>?_) (λc1=>?_)
 .refine tf 14 U U (rh ty205 (av2.mono (db.t hl1)) U) (tf 15 U U (λ_ _ hj=>lV ty204 U (hj.nth (i:=0) U) U) (tn 16 U (j8 (v:=.bool (v2 y1)) [] (List.nil_sublist _) (hv2 hh1 y1 (db.t hl1)) U U (⟨jn,qA [17,18] U ?_⟩))))
  refine fJ 32 U (λc2=>?_) (λc2=>?_)
  .refine tf 19 U U (λ_ _ hj=>oE ty325 ((av3.mono (db.t hl1)).mono hj.1) U U) (tf 20 U U (λ_ _ hj=>lV ty204 U (hj.nth (i:=0) U) U) (tn 21 U (gu call323 (uq hh1 v3 y1) U (⟨jn,tf 22 U U (λ_ _ _=>pj U (cb (show(iz v3 y1)=(((decide ((mgetD v1 (ec.mk y1.From y1.To y1.ep y1.Kind) (bz.mk 0 0 0 0 0 0 0 0 0 false))=y1))&&(v2 y1))&&(iz v3 y1))from by first|(rw[c1];rw[c2];rfl)|(rw[c2];rfl)|simp[c1,c2]))) (tm 23 U ?_)⟩))))
   refine fJ 37 U (λc3=>?_) (λc3=>?_)
   .have ct1:=c3
    have hs4:=hs3.trans (congrArg (dn1++·) (bt ct1))
    refine tm 24 U (tf 25 U U (λ_ _ hj=>lV ty204 U (hj.nth (i:=0) U) U) ?_)
    have hx1:aL v0 v1 v2 v3=dn1++(y1::(aL.L1 v1 v2 v3 (aL.K1) rz1)):=hs4
    refine tn 26 U (me ([z1]) A1_ ap (hy dn1 y1 _ _ _ _ hx1 hl1 hC1_ U) U U (λh2 A3 hle1 hC1=>?_) (λh3 A4 hle2 hS1=>?_) (λch1 h4 A5 hle3 hP1 e=>iN (oz [] (A:=A5) Gk (List.sublist_append_right _ _) hP1)))
    .have hs5:aL v0 v1 v2 v3=(dn1++[y1])++((aL.L1 v1 v2 v3 (aL.K1) rz1)):=hx1.trans ap
     exact Po
    exact⟨⟨hle2,λ_ hp=>List.Sublist.subset js hp⟩,sK (K2:=[z1]) hle2 (λ_ hp=>hp) (qA [27,28] U (bW kr (mq U (dR (nU [] (A:=A4) Gk U js (.inr hS1))))))⟩
   have ct2:=c3
   have hs6:=hs3.trans (congrArg (dn1++·) (bf ct2))
   exact tk 24 U U (qR 25 4 U (bW kr (qT 4 U (oi i1 U (qO 2 U (cm (L':=A1_) js (ag1 (dn1,A1_,hh1) hs6 ⟨hC1_,hl1⟩)))))))
  refine qR 19 3 U (tf 22 U U (λ_ _ _=>pj U (cb (show false=(((decide ((mgetD v1 (ec.mk y1.From y1.To y1.ep y1.Kind) (bz.mk 0 0 0 0 0 0 0 0 0 false))=y1))&&(v2 y1))&&(iz v3 y1))from by first|(rw[c1];rw[c2];rfl)|(rw[c2];rfl)|simp[c1,c2]))) (tm 23 U ?_))
  refine fJ 37 U (λc4=>?_) (λc4=>?_)
  .have ct3:=c4
   have hs7:=hs3.trans (congrArg (dn1++·) (bt ct3))
   refine tm 24 U (tf 25 U U (λ_ _ hj=>lV ty204 U (hj.nth (i:=0) U) U) ?_)
   have hx2:aL v0 v1 v2 v3=dn1++(y1::(aL.L1 v1 v2 v3 (aL.K1) rz1)):=hs7
   refine tn 26 U (me ([z1]) A1_ ap (hy dn1 y1 _ _ _ _ hx2 hl1 hC1_ U) U U (λh5 A6 hle4 hC2=>?_) (λh6 A7 hle5 hS2=>?_) (λch2 h7 A8 hle6 hP2 e=>iN (oz [] (A:=A8) Gk (List.sublist_append_right _ _) hP2)))
   .have hs8:aL v0 v1 v2 v3=(dn1++[y1])++((aL.L1 v1 v2 v3 (aL.K1) rz1)):=hx2.trans ap
    exact⟨⟨hle4,λ_ hp=>List.Sublist.subset js hp⟩,sK (K2:=[z1]) hle4 (λ_ hp=>hp) (qA [27,28] U (bW kr (qT 4 U (oi i1 U (qO 2 U (cm (L':=A6) js (ag1 ((dn1++[y1]),A6,h5) hs8 ⟨hC2,(hl1.t hle4)⟩)))))))⟩
   exact⟨⟨hle5,λ_ hp=>List.Sublist.subset js hp⟩,sK (K2:=[z1]) hle5 (λ_ hp=>hp) (qA [27,28] U (bW kr (mq U (dR (nU [] (A:=A7) Gk U js (.inr hS2))))))⟩
  have ct4:=c4
  have hs9:=hs3.trans (congrArg (dn1++·) (bf ct4))
  exact tk 24 U U (qR 25 4 U (bW kr (qT 4 U (oi i1 U (qO 2 U (cm (L':=A1_) js (ag1 (dn1,A1_,hh1) hs9 ⟨hC1_,hl1⟩)))))))
 refine qR 14 8 U (tf 22 U U (λ_ _ _=>pj U (cb (show false=(((decide ((mgetD v1 (ec.mk y1.From y1.To y1.ep y1.Kind) (bz.mk 0 0 0 0 0 0 0 0 0 false))=y1))&&(v2 y1))&&(iz v3 y1))from by first|(rw[c1];rfl)|(rw[c1];rfl)|simp[c1]))) (tm 23 U ?_))
 refine fJ 37 U (λc5=>?_) (λc5=>?_)
 .have ct3:=c5
  have hs7:=hs3.trans (congrArg (dn1++·) (bt ct3))
  refine tm 24 U (tf 25 U U (λ_ _ hj=>lV ty204 U (hj.nth (i:=0) U) U) ?_)
  have hx2:aL v0 v1 v2 v3=dn1++(y1::(aL.L1 v1 v2 v3 (aL.K1) rz1)):=hs7
  refine tn 26 U (me ([z1]) A1_ ap (hy dn1 y1 _ _ _ _ hx2 hl1 hC1_ U) U U (λh2 A3 hle1 hC1=>?_) (λh6 A7 hle5 hS2=>?_) (λch2 h7 A8 hle6 hP2 e=>iN (oz [] (A:=A8) Gk (List.sublist_append_right _ _) hP2)))
  .have hs5:aL v0 v1 v2 v3=(dn1++[y1])++((aL.L1 v1 v2 v3 (aL.K1) rz1)):=hx2.trans ap
   exact Po
  exact⟨⟨hle5,λ_ hp=>List.Sublist.subset js hp⟩,sK (K2:=[z1]) hle5 (λ_ hp=>hp) (qA [27,28] U (bW kr (mq U (dR (nU [] (A:=A7) Gk U js (.inr hS2))))))⟩
 have ct6:=c5
 have hs12:=hs3.trans (congrArg (dn1++·) (bf ct6))
 exact tk 24 U U (qR 25 4 U (bW kr (qT 4 U (oi i1 U (qO 2 U (cm (L':=A1_) js (ag1 (dn1,A1_,hh1) hs12 ⟨hC1_,hl1⟩)))))))
theorem tg(h)(q:cL)(l fg ff)(hl:SlC bz.rp h fg ff l):j4 prog 293 [.agg (cL.cells q).toArray,.slice fg l.length ff] h (λv h'=>∃(rv0:Value),v=rv0/\Itr prog rv0 vg (aY q l) h'):=by
 refine sT func293 U ntmps293 U λX hM hX hF=>?_
 have hs0:=@rfl _ (aY q l)
 refine sr (eL (λb1=>eL (λb2=>qO 4 U (du 1 ty325 U U U (aH (gB U U (bJ zc205 (λb3=>cU 0 ty205 U U U U U U (qO 3 U (aH (oC (λb4=>bJ zc365 (λb5=>cU 0 ty365 U U U U U U (qL 8 [3] U ?_))))))))))))))
 let z1:Nat×Obj:=(b3,O [.func (.func 321) #[.agg (cL.cells q).toArray] #[]] 205)
 let z2:Nat×Obj:=(b2,O [.slice fg l.length ff] 23)
 let z3:Nat×Obj:=(b1,O (cL.cells q) 325)
 let z4:Nat×Obj:=(b5,O [.map (some b4)] 365)
 refine lp2 l (λi w=>[(2,Q b1),(3,Q b2),(5,Q b3),(6,Q b5),(15,.slice fg l.length ff),(16,I (l.length:Int)),(17,I (i:Int))]) (λ_=>h) (λw=>[z4,(b4,w.2),z1,z2,z3]) (λi w=>kY ec.enc (km bz.rp) h w.2 w.1/\w.1.length<=0+i) (λs1 i w=>(aY.L1 q (aY.K1 q l)) s1 w.1) ([],.map #[] 0) hl.1.1 hs0 ⟨(kY.nil (enc:=ec.enc) (V:=(km bz.rp)) (h:=h)),lc⟩ ?_ ?_
 .rintro i1 ⟨eR,Ic⟩ i7 hs1 ⟨AP,Ss⟩ e
  refine sr (cv 3 U hM (λh1 hle1 hb1=>cv 0 U hM (λh2 hle2 hb2=>cv 1 U hM (λh3 hle3 hb3=>cv 1 U hM (λh4 hle4 hb4=>aH (gB U U (an (gl 0 U hM (λh5 hle5 hb5=>?_)))))))))
  have mc1:vO ec.enc (km bz.rp) h5 b4 eR:=⟨_,hb5,(AP.mono (km.mono bz.aG) (((hle1.t hle2).t hle3).t hle4)).mono (km.mono bz.aG) hle5⟩
  have hs2:aY q l=(aL l eR (gM q) q):=hs1
  exact nretH [.func (.func 322) #[] #[Q b2,Q b5,Q b3,Q b1]] (hs2▸⟨(.func (.func 322) #[] #[Q b2,Q b5,Q b3,Q b1]),U,(rL h5 l fg ff ⟨b2,0,none⟩ eR b4 ⟨b5,0,none⟩ (gM q) (.func (.func 321) #[.agg (cL.cells q).toArray] #[]) ⟨b3,0,none⟩ q ⟨b1,0,none⟩ (hl.mono bz.aG ((((hle1.t hle2).t hle3).t hle4).t hle5)) ((dM hb1).mono (((hle2.t hle3).t hle4).t hle5)) mc1 ((dM hb2).mono ((hle3.t hle4).t hle5)) (λh' ef db=>Mz (fl:=[.agg (cL.cells q).toArray]) (cap:=[]) call321 (oM h' q ef)) ((dM hb3).mono (hle4.t hle5)) ((dM hb4).mono hle5))⟩)
 rintro i1 ⟨eR,Ic⟩ y1 rz1 hd1 gg dL i5 mF hs3 ⟨AP,Ss⟩ hx1 ag1 e
 refine sr (tO gg U (qO 8 U (aH (iF bz.cells Jz ty204 hl.1 dL U U U (λq2 A2=>eJ ty204 A2 U U (bJ zc204 (λb9=>bG 0 ty204 U U U U U U (qL 11 [0,0,0,0] U (aH (gv (cells:=[I y1.From,I y1.To,I y1.ep,I y1.Kind]) (places:=[(0,1),(1,1),(2,1),(3,1)]) O1 zc367 kr kr (bJ zc367 (λb10=>bG 0 ty367 U U U U U U (qL 4 [2] U (du 0 ty367 U U U (aH (mL 3 (k:=(ec.mk y1.From y1.To y1.ep y1.Kind)) underlying365 wQ U AP (eG zv204) (show(km bz.rp) _ (.agg (xB [I 0,I 0,I 0,I 0,I 0,I 0,I 0,I 0,I 0,.bool false])) (bz.mk 0 0 0 0 0 0 0 0 0 false)from⟨_,U,U⟩) U U (λv2 hv2=>?_)))))))))))))))))
 obtain⟨_,rfl,rfl⟩:=hv2
 refine qO 3 U (bJ zc204 (λb11=>bG 0 ty204 U U U U U U (qL 5 [5] U (du 2 ty204 U U U (aH (j8 (v:=.bool (gM q y1)) [] (List.nil_sublist _) (Mz (fl:=[.agg (cL.cells q).toArray]) (args:=[.agg (bz.cells y1).toArray]) (cap:=[]) call321 (oM h q y1)) U U (bD (jO 10 [39,40,41,42,43,44,45,46,47,48,49] 39 49 ((!(mhas eR (ec.mk y1.From y1.To y1.ep y1.Kind)))||decide ((mgetD eR (ec.mk y1.From y1.To y1.ep y1.Kind) (bz.mk 0 0 0 0 0 0 0 0 0 false)).At<=y1.At)) U (λc1 hk1=>?_) (λe=>?_)))))))))
 .refine qO 3 U (gz 6 [42,43,44,45,46,47,48] 42 48 (decide ((mgetD eR (ec.mk y1.From y1.To y1.ep y1.Kind) (bz.mk 0 0 0 0 0 0 0 0 0 false)).At<=y1.At)) U (λc2 hk2=>?_) (λe=>?_))
  .exact qL 6 [2,0] U (hk2 _ U)
  exact mU U (hk1 _ U)
 refine bp (aI hs3 U (λc3 hs4=>?_) (λc3 hs5=>?_))
 .exact qK 2 [3] U (du 1 ty367 U U U (du 2 ty204 U U U (aH (mt 4 (k:=(ec.mk y1.From y1.To y1.ep y1.Kind)) (x:=y1) underlying365 wQ U AP U U ⟨_,U,U⟩ (λmo1 hm1=>qO 3 U (oi i1 U (qO 2 U (cm (L':=[z4,(b4,mo1),z1,z2,z3]) js (ag1 ((mput eR (ec.mk y1.From y1.To y1.ep y1.Kind) y1),mo1) hs4 ⟨hm1,(by have:=nw eR (ec.mk y1.From y1.To y1.ep y1.Kind) y1;first|omega|(simp only[zB,zA]at *;omega))⟩)))))))))
 exact bO (qT 2 U (oi i1 U (qO 2 U (cm (L':=[z4,(b4,Ic),z1,z2,z3]) js (ag1 (eR,Ic) hs5 ⟨AP,lc⟩)))))
theorem rV(q:cL)(l:List bz):(aY q l).length<=l.length:=by
 have h1:∀(v:List (ec×bz))(s:List bz),(aL.L1 v (gM q) q aL.K1 s).length<=s.length:=by
  intro v s
  induction s with
  |nil=>exact vE _
  |cons y s ih=>simp only[aL.L1,Bool.cond_eq_ite];split<;>simp only[zA]<;>omega
 have h2:∀(s:List bz)(g:List (ec×bz)),(aY.L1 q (aY.K1 q l) s g).length<=l.length:=by
  intro s
  induction s with
  |nil=>intro g;exact h1 g l
  |cons y s ih=>intro g;simp only[aY.L1,Bool.cond_eq_ite];split<;>exact ih _
 exact h2 _ _
theorem D0(h l fg ff eF to aV kind value mb ah)(hl:SlC bz.rp h fg ff l)(hsz:l.length<=2000000):j4 prog 226 [.slice fg l.length ff,I eF,I to,I aV,I kind,I value,I mb,I ah] h (λv h'=>∃(rb0:Option Addr)(rc0:Nat),v=.tuple #[.slice rb0 ((aS l eF to aV kind value mb ah).1).length rc0,.bool ((aS l eF to aV kind value mb ah).2.1),I ((aS l eF to aV kind value mb ah).2.2)]/\SlC jB h' rb0 rc0 ((aS l eF to aV kind value mb ah).1)):=by
 refine sT func226 U ntmps226 U λX hM hX hF=>?_
 have hs0:=@rfl _ (aS l eF to aV kind value mb ah)
 have hcv:(dA (aY (cL.mk aV kind value mb ah) l)).length<=2000000:=by rw[wJ];exact qM (rV _ _) hsz
 refine qT 13 U (aH (gv (cells:=[I aV,I kind,I value,I mb,I ah]) (places:=[(0,1),(1,1),(2,1),(3,1),(4,1)]) underlying325 zc325 kr kr (bJ zc325 (λb1=>bG 0 ty325 U U U U U U (qO 7 U (du 0 ty325 U U U (aX call291 (FZ _ _ _ _ eF to (cL.mk aV kind value mb ah) hl) U (qO 7 U (aI hs0 U (λc1 hs1=>?_) (λc1 hs2=>?_))))))))))
 .refine qT 7 U ?_
  have hs3:aS l eF to aV kind value mb ah=([],false,(na l eF to (cL.mk aV kind value mb ah))):=hs1
  exact nretH [zSN,.bool false,I (na l eF to (cL.mk aV kind value mb ah))] (hs3▸⟨none,0,U,qG⟩)
 refine qT 3 U (du 0 ty325 U U U (bD (aH (cw call293 (tg _ (cL.mk aV kind value mb ah) _ _ _ hl) U (λv1 h1 hle1 hp1=>?_)))))
 obtain⟨_,rfl,mo1⟩:=hp1
 refine aH (cw call292 (wH h1 (aY (cL.mk aV kind value mb ah) l) v1 mo1 (qM (rV _ _) hsz)) U (λv2 h2 hle2 hp2=>?_))
 obtain⟨rb1,rc1,rfl,sl1⟩:=hp2
 refine qO 4 U (aH (oC (λb2=>bD (aH (uP 0 (k:=to) (x:=0) Cf (fe mR) U (kY.nil (enc:=(qC .i64)) (V:=tq) (h:=h2)) U U U (λmo2 hm1=>qO 8 U ?_))))))
 let z1:Nat×Obj:=(b1,O [I aV,I kind,I value,I mb,I ah] 325)
 refine gx (ι:=Nat×(List (Int×Int))×Obj) (λi=>[(1,I eF),(16,zSN),(20,.slice rb1 ((dA (aY (cL.mk aV kind value mb ah) l)).length) rc1),(21,.map (some b2))]) (λi=>h2) (λi=>[(b2,i.2.2),z1]) (λi=>i.1<=(qE 8).length/\aS l eF to aV kind value mb ah=((aS.K1 l eF aV kind value mb ah) i.2.1)/\kY (qC .i64) tq h2 i.2.2 i.2.1/\(∀p∈i.2.1,0<=p.2/\p.2<=8)) ?_ (λhx1=>?_)
 .rintro⟨i1,cg,eB⟩ ⟨i7,hs4,iD,u1_0⟩ e
  try dsimp only at i7 iD u1_0
  have hf8:=(Bo (P:=λx:Int=>0<=x/\x<=8) eF u1_0 (show(0:Int)<=0/\(0:Int)<=8 from⟨Int.le_refl _,by omega⟩))
  have hrg:=List.length_range (n:=(mgetD cg eF 0).toNat)
  refine qT 4 U (aH (mL 0 (k:=eF) Cf (fe mR) U iD (eG zv3) (show tq _ (I 0) 0 from U) U U (λv5 hv3=>?_)))
  obtain rfl:=hv3
  refine qO 12 U (aI hs4 U (λc3 hs5=>?_) (λc3 hs6=>?_))
  .refine qT 6 U ?_
   have hs7:aS l eF to aV kind value mb ah=([],false,0):=hs5
   exact nretH [zSN,.bool false,I 0] (hs7▸⟨none,0,U,qG⟩)
  refine qT 7 U ?_
  refine gx (ι:=Nat×List Int×Option Addr×Nat×LH×Int) (λi=>[(16,.slice i.2.2.1 i.2.1.length i.2.2.2.1)]) (λi=>h2) (λi=>[(b2,eB),z1]++(i.2.2.2.2.1)) (λi=>i.1<=(qE (((mgetD cg eF 0)).toNat)).length/\aS l eF to aV kind value mb ah=((aS.K4) i.2.1 i.2.2.2.2.2)/\cN jB 3 h2 i.2.1 i.2.2.1 i.2.2.2.1 i.2.2.2.2.1/\i.2.1.length<=i.1) ?_ (λhx4=>?_)
  .rintro⟨i4,AL,H5,H4,Lk,Fi⟩ ⟨CI,hs8,EK,Ot⟩ e
   try dsimp only at CI EK Ot
   refine qT 7 U (fF qJ ([(b2,eB),z1]) Lk ([]) ap hM EK (λh3 hle3 sl2=>?_))
   have hs9:aS l eF to aV kind value mb ah=(AL,true,0):=hs8
   exact nretH [.slice H5 AL.length H4,.bool true,I 0] (hs9▸⟨H5,H4,U,sl2⟩)
  refine jw (ι:=Nat×List Int×Option Addr×Nat×LH×Int×List Nat) (λi=>[(16,.slice i.2.2.1 i.2.1.length i.2.2.2.1),(20,.slice rb1 ((dA (aY (cL.mk aV kind value mb ah) l)).length) rc1),(21,.map (some b2)),(29,I ((((((mgetD cg eF 0)).toNat)-i.1):Nat):Int)),(31,I i.2.2.2.2.2.1)]) (λi=>h2) (λi=>[(b2,eB),z1]++(i.2.2.2.2.1)) (λi=>(qE (((mgetD cg eF 0)).toNat)).drop i.1=i.2.2.2.2.2.2/\i.1<=(qE (((mgetD cg eF 0)).toNat)).length/\aS l eF to aV kind value mb ah=((aS.L4 l eF aV kind value mb ah cg (aS.K4)) i.2.2.2.2.2.2 i.1 i.2.1 i.2.2.2.2.2.1)/\cN jB 3 h2 i.2.1 i.2.2.1 i.2.2.2.1 i.2.2.2.2.1/\i.2.1.length<=i.1) (λi=>i.2.2.2.2.2.2.length) (0,[],none,0,[],eF,(qE (((mgetD cg eF 0)).toNat))) ⟨U,U,U,(congrArg (qC .i64) (show(mgetD cg eF 0)=((((((mgetD cg eF 0)).toNat)-0):Nat):Int)from(by have hq:=(Bo (P:=λx:Int=>0<=x/\x<=8) eF u1_0 (show(0:Int)<=0/\(0:Int)<=8 from⟨Int.le_refl _,by omega⟩));omega))),U,trivial⟩ sw ⟨U,xH _,hs6,cN.nil,lo⟩ ?_
  rintro⟨i4,AL,H5,H4,Lk,Fi,s4⟩ ⟨hd4,Qz,hs10,EK,Ot⟩ ag1 e
  try dsimp only at hd4 Qz EK Ot
  rcases s4 with _|⟨y4,rz4⟩
  .have UL:decide (0<((((((mgetD cg eF 0)).toNat)-i4):Nat):Int))=false:=decide_eq_false (by have q_:=of_decide_eq_false (nZ hd4);rw[List.length_range]at q_;omega)
   exact el (qT 3 U (fO UL U (qO 3 U (hx4 (i4,AL,H5,H4,Lk,Fi) _ ⟨Qz,hs10,EK,lo⟩ rd))))
  have UK:decide (0<((((((mgetD cg eF 0)).toNat)-i4):Nat):Int))=true:=decide_eq_true (by have q_:=il hd4;rw[List.length_range]at q_;omega)
  have Nb:i4<(((mgetD cg eF 0)).toNat):=by simpa using il hd4
  refine qT 4 U (tO UK U (qL 11 [] U ?_))
  refine lp3 (dA (aY (cL.mk aV kind value mb ah) l)) (λi w=>[(16,.slice w.2.1 w.1.length w.2.2.1),(20,.slice rb1 ((dA (aY (cL.mk aV kind value mb ah) l)).length) rc1),(21,.map (some b2)),(29,I ((((((mgetD cg eF 0)).toNat)-i4):Nat):Int)),(31,I w.2.2.2.2),(110,.slice rb1 ((dA (aY (cL.mk aV kind value mb ah) l)).length) rc1),(111,I (((dA (aY (cL.mk aV kind value mb ah) l)).length:Nat):Int)),(112,I (i:Int))]) (λ_=>h2) (λw=>[(b2,eB),z1]++(w.2.2.2.1)) (λi w=>cN jB 3 h2 w.1 w.2.1 w.2.2.1 w.2.2.2.1/\w.1.length<=i4) (λi w=>cN jB 3 h2 w.1 w.2.1 w.2.2.1 w.2.2.2.1/\w.1.length<=i4+1) (λ_ _ h=>⟨h.1,Nat.le_succ_of_le h.2⟩) (λs6 i w=>(aS.L6 eF cg i4 (λzg6_16 zg6_31=>(aS.L4 l eF aV kind value mb ah cg (aS.K4) rz4 (i4+1) zg6_16 zg6_31))) s6 w.1 w.2.2.2.2) (AL,H5,H4,Lk,Fi) sl1.1.1 hs10 ⟨EK,lo⟩ ?_ ?_
  .rintro i6 ⟨DE,Oq,Oo,HY,Fh⟩ Nd hs12 ⟨EJ,On⟩ e
   try dsimp only at EJ On
   exact fM (qT 2 U (iS (v':=I ((((((mgetD cg eF 0)).toNat)-(i4+1)):Nat):Int)) U (Lv Nb ob) (an (ag1 ((i4+1),DE,Oq,Oo,HY,Fh,rz4) _ (Nat.lt_succ_self _) ⟨ll hd4,il hd4,hs12,EJ,lo⟩ rd))))
  rintro i6 ⟨DE,Oq,Oo,HY,Fh⟩ y6 rz6 hd6 VE Vf VT VY hs13 ⟨EJ,On⟩ hx6 ag2 e
  try dsimp only at EJ On
  refine sr (tO VE U (qO 8 U (aH (iF bz.cells Jz ty204 sl1.1 Vf U U U (λq4 A4=>eJ ty204 A4 U U (bJ zc204 (λb6=>bG 0 ty204 U U U U U U (jf (L':=[(b6,O (bz.cells y6) 204),(b2,eB),z1]++(HY)) U (qL 6 [0] U (aH (mL 1 (k:=y6.To) Cf (fe mR) U iD (eG zv3) (show tq _ (I 0) 0 from U) U U (λv8 hv6=>?_))))))))))))
  obtain rfl:=hv6
  refine qL 13 [0] U (jO 2 [127,128,129] 127 129 (mhas cg y6.To) U (λc5 hk1=>?_) (λe=>?_))
  .exact bD (mU U (hk1 _ U))
  refine bD (jO 5 [130,131,132,133,134,135] 130 135 ((mgetD cg y6.To 0)==((((((mgetD cg eF 0)).toNat)-(i4+1)):Nat):Int)) U (λc6 hk2=>?_) (λe=>?_))
  .exact bD (bD (iS (v':=I ((((((mgetD cg eF 0)).toNat)-(i4+1)):Nat):Int)) U (Lv Nb ob) (qO 2 U (hk2 _ U))))
  refine bp (aI hs13 U (λc7 hs14=>?_) (λc7 hs15=>?_))
  .refine el ?_
   let z2:Nat×Obj:=(b6,O (bz.cells y6) 204)
   refine fo ([z2,(b2,eB),z1]) mixed kr jn (λim _=>?_)
   exact tm 0 U (qB [1] U (tf 2 U U (rj 0 ty3 U U U) (qB [5] U (tf 6 U U (rj 0 ty3 U U U) (tn 3 U (bT (cells:=[I y6.No]) eM ty3 zc3 U U kr (λb7=>⟨jn,tn 4 U (eN W3 ([(b7,O [I y6.No] 3),z2,(b2,eB),z1]) ([]) (λG=>[(b7,O [I y6.No] 3),z2,(b2,eB),z1]++G) ap (λ_=>ap) eM ty3 zc3 U bytes3 EJ U U (gV 0 U (cE (y6.No) U U)) lo lo (λob1 oc1 G1 gr1=>⟨jn,qA [7,8] U (bW kr (kw U (cm (L':=[(b2,eB),z1]++G1) js (hx6 i6 ((DE++[y6.No]),ob1,oc1,G1,y6.To) hs14 ⟨gr1,lo⟩))))⟩))⟩)))))))
  exact bO (qT 2 U (oi i6 U (qO 2 U (cm (L':=[(b2,eB),z1]++(HY)) js (ag2 (DE,Oq,Oo,HY,Fh) hs15 ⟨EJ,lo⟩)))))
 refine jw (ι:=Nat×(List (Int×Int))×Obj×List Nat) (λi=>[(1,I eF),(16,zSN),(20,.slice rb1 ((dA (aY (cL.mk aV kind value mb ah) l)).length) rc1),(21,.map (some b2)),(57,I (i.1:Int))]) (λi=>h2) (λi=>[(b2,i.2.2.1),z1]) (λi=>(qE 8).drop i.1=i.2.2.2/\i.1<=(qE 8).length/\aS l eF to aV kind value mb ah=((aS.L1 l aV kind value mb ah (aS.K1 l eF aV kind value mb ah)) i.2.2.2 i.1 i.2.1)/\kY (qC .i64) tq h2 i.2.2.1 i.2.1/\(∀p∈i.2.1,0<=p.2/\p.2<=8)) (λi=>i.2.2.2.length) (0,(mput ([]) to 0),mo2,(qE 8)) rd sw ⟨U,xH _,hs2,hm1,(λp hp=>by rw[xC.1 hp];exact⟨Int.le_refl _,by omega⟩)⟩ ?_
 rintro⟨i1,cg,eB,s1⟩ ⟨hd1,i7,hs16,iD,u1_0⟩ ag3 e
 try dsimp only at hd1 i7 iD u1_0
 rcases s1 with _|⟨y1,rz1⟩
 .have mE:decide ((i1:Int)<8)=false:=by simpa using nZ hd1
  exact sr (fO mE U (qO 4 U (hx1 (i1,cg,eB) _ ⟨i7,hs16,iD,u1_0⟩ rd)))
 have gg:decide ((i1:Int)<8)=true:=by simpa using tU hd1
 have i5:i1<8:=by simpa using il hd1
 have hr8:i1<8:=i5
 refine sr (tO gg U (qL 17 [] U ?_))
 refine lp2 (dA (aY (cL.mk aV kind value mb ah) l)) (λi w=>[(1,I eF),(16,zSN),(20,.slice rb1 ((dA (aY (cL.mk aV kind value mb ah) l)).length) rc1),(21,.map (some b2)),(22,I (i1:Int)),(57,I (i1:Int)),(60,.slice rb1 ((dA (aY (cL.mk aV kind value mb ah) l)).length) rc1),(61,I (((dA (aY (cL.mk aV kind value mb ah) l)).length:Nat):Int)),(62,I (i:Int))]) (λ_=>h2) (λw=>[(b2,w.2),z1]) (λi w=>kY (qC .i64) tq h2 w.2 w.1/\(∀p∈w.1,0<=p.2/\p.2<=8)) (λs3 i w=>(aS.L3 i1 (λzg3_b2_0=>(aS.L1 l aV kind value mb ah (aS.K1 l eF aV kind value mb ah) rz1 (i1+1) zg3_b2_0))) s3 w.1) (cg,eB) sl1.1.1 hs16 ⟨iD,ob⟩ ?_ ?_
 .rintro i3 ⟨oJ,DG⟩ Qz hs18 ⟨sZ,u3_0⟩ e
  try dsimp only at sZ u3_0
  exact fM (bM (oi i1 U (qO 2 U (ag3 ((i1+1),oJ,DG,rz1) _ (Nat.lt_succ_self _) ⟨ll hd1,il hd1,hs18,sZ,ob⟩ rd))))
 rintro i3 ⟨oJ,DG⟩ y3 rz3 hd3 Om Sh Nc VF hs19 ⟨sZ,u3_0⟩ hx3 ag4 e
 try dsimp only at sZ u3_0
 refine sr (tO Om U (qO 8 U (aH (iF bz.cells Jz ty204 sl1.1 Sh U U U (λq6 A6=>eJ ty204 A6 U U (bJ zc204 (λb9=>bG 0 ty204 U U U U U U (qL 6 [0] U (aH (mL 1 (k:=y3.From) Cf (fe mR) U sZ (eG zv3) (show tq _ (I 0) 0 from U) U U (λv11 hv9=>?_)))))))))))
 obtain rfl:=hv9
 refine qL 11 [0] U (aH (mL 1 (k:=y3.To) Cf (fe mR) U sZ (eG zv3) (show tq _ (I 0) 0 from U) U U (λv12 hv10=>?_)))
 obtain rfl:=hv10
 refine qO 10 U (jO 4 [81,82,83,84,85] 81 85 ((mgetD oJ y3.To 0)==(i1:Int)) U (λc8 hk3=>?_) (λe=>?_))
 .exact bD (qO 3 U (hk3 _ U))
 refine bD (jO 3 [86,87,88,89] 86 89 (!(mhas oJ y3.From)) U (λc9 hk4=>?_) (λe=>?_))
 .exact bD (qO 2 U (hk4 _ U))
 refine bp (aI hs19 U (λc10 hs20=>?_) (λc10 hs21=>?_))
 .exact qK 5 [0] U (oi i1 U (aH (mt 1 (k:=y3.From) (x:=(((i1+1):Nat):Int)) Cf (fe mR) U sZ U U U (λmo3 hm2=>qO 3 U (oi i3 U (qO 2 U (cm (L':=[(b2,mo3),z1]) js (ag4 ((mput oJ y3.From (((i1+1):Nat):Int)),mo3) hs20 ⟨hm2,(by first|assumption|exact As (P:=λx:Int=>0<=x/\x<=8) _ ob ob)⟩))))))))
 exact bO (qT 2 U (oi i3 U (qO 2 U (cm (L':=[(b2,DG),z1]) js (ag4 (oJ,DG) hs21 ⟨sZ,(by first|assumption|exact As (P:=λx:Int=>0<=x/\x<=8) _ ob ob)⟩)))))
theorem AI(h l fg ff bS er nu nt dw ah)(hl:SlC aF.rp h fg ff l)(HT:SlC jB h nu nt er):Ret prog 190 [.slice fg l.length ff,I bS,.slice nu er.length nt,I dw,I ah] h (I (dp l bS er dw ah)):=by
 refine sT func190 U ntmps190 U λX hM hX hF=>?_
 generalize hz:(dp l bS er dw ah)=z;have hs:=hz.symm
 have HA:=h1 [1,2,3,4,20,21] 22 (λw=>[(12,I w)]) (λs1 i w=>(dp.L1 (dp.K1 bS er dw ah)) s1 w)
 exact W
theorem Ps{p:Prop}(h:p:=by
  exact⟨⟨hle1,λ_ hp=>List.Sublist.subset js hp⟩,sK (K2:=[z1]) hle1 (λ_ hp=>hp) (qA [20,21] U (bW kr (qT 4 U (oi i1 U (qO 2 U (cm (L':=A3) js (ag1 ((dn1++[y1]),A3,h2) hs5 ⟨hC1,(hl1.t hle1)⟩)))))))⟩):p:=h
theorem xu(h v0 tX tW v0_q)(v1:List (dX×aF))(QW v1_q)(hv0:SlC aF.rp h tX tW v0)(av0:At h v0_q [.slice tX v0.length tW])(hv1:vO dX.enc (km aF.rp) h QW v1)(av1:At h v1_q [.map (some QW)]):Itr prog (.func (.func 264) #[] (xB [.pointer (some v0_q),.pointer (some v1_q)])) yy (bZ v0 v1) h:=by
 refine si call264 ?_
 intro yf ya yb C Sp Pn h1 A db m1 m2 m3 hC hy
 refine jX LR U ntmps264 U λX hXM hX=>?_
 have hs0:bZ v0 v1=[]++bZ v0 v1:=rfl
 refine sr (eE ty24 (av0.mono db) U (qL 3 [] U ?_))
 refine lp2 v0 (λi w=>[(0,.func yf ya yb),(2,.pointer (some v1_q)),(6,.slice tX v0.length tW),(7,I (v0.length:Int)),(8,I (i:Int))]) (λw=>w.2.2) (λw=>w.2.1) (λi w=>C w.1 w.2.2 w.2.1/\xJ h1 w.2.2) (λs1 i w=>w.1++(bZ.L1 v1 (bZ.K1)) s1) ([],A,h1) ((hv0.mono aF.aG db).1.1) hs0 ⟨hC,lf⟩ ?_ ?_
 .rintro i1 ⟨dn1,A1_,hh1⟩ i7 hs1 ⟨hC1_,hl1⟩ e
  refine dR ?_
  have hs2:bZ v0 v1=dn1:=hs1.trans (List.append_nil _)
  exact sj [] (A:=A1_) LR U (List.Sublist.refl _) (.inl (hs2▸hC1_))
 rintro i1 ⟨dn1,A1_,hh1⟩ y1 rz1 hd1 gg dL i5 mF hs3 ⟨hC1_,hl1⟩ hx1 ag1 e
 refine sr (tO gg U (qO 8 U (aH (iF aF.cells Gn ty207 (hv0.mono aF.aG (db.t hl1)).1 dL U U U (λq2 A2=>eJ ty207 A2 U U (bJ zc207 (λb2=>bG 0 ty207 U U U U U U (jf (L':=[(b2,O (aF.cells y1) 207)]++(A1_)) U (qO 2 U ?_)))))))))
 let z1:Nat×Obj:=(b2,O (aF.cells y1) 207)
 refine fo ([z1]) mixed kr jn (λim _=>?_)
 refine qB [0] U (tf 1 U U (rj 0 ty4 U U U) (qA [2,3] U ?_))
 refine fJ 15 U (λc1=>?_) (λc1=>?_)
 .refine tf 4 U U (rh ty299 (av1.mono (db.t hl1)) U) (qB [5] U (tf 6 U U (rj 0 ty3 U U U) (qB [7] U (tf 8 U U (rj 0 ty3 U U U) (qB [9] U (tf 10 U U (rj 0 ty4 U U U) (tf 13 U U (λ_ _ hj=>lV ty207 U (hj.nth (i:=0) U) U) (tn 11 U (gv (cells:=[I y1.cZ,I y1.iw,.bool y1.Of]) (places:=[(0,1),(1,1),(2,1)]) O2 zc301 kr kr (⟨jn,tn 12 U ?_⟩))))))))))
  obtain⟨o2,hb2,hm2⟩:=(hv1.mono (km.mono aF.aG) (db.t hl1))
  refine ph (k:=(dX.mk y1.cZ y1.iw y1.Of)) underlying299 wO hb2 hm2 (eG zv207) (show(km aF.rp) _ (.agg (xB [I 0,I 0,I 0,I 0,I 0,.bool false,.bool false])) (aF.mk 0 0 0 0 0 false false)from⟨_,U,U⟩) U U (λv2 hv2=>?_)
  obtain⟨_,rfl,rfl⟩:=hv2
  refine⟨jn,(tf 14 U U (λ_ _ _=>JY (Lq (mgetD v1 (dX.mk y1.cZ y1.iw y1.Of) (aF.mk 0 0 0 0 0 false false)) y1) eqg207 U U) (tf 15 U U (λ_ _ _=>pj U (cb (show(decide ((mgetD v1 (dX.mk y1.cZ y1.iw y1.Of) (aF.mk 0 0 0 0 0 false false))=y1))=((!y1.mG)&&(decide ((mgetD v1 (dX.mk y1.cZ y1.iw y1.Of) (aF.mk 0 0 0 0 0 false false))=y1)))from by first|(rw[c1];rfl)|(rw[c1];rfl)|simp[c1]))) (tm 16 U ?_)))⟩
  refine fJ 28 U (λc2=>?_) (λc2=>?_)
  .have ct1:=c2
   have hs4:=hs3.trans (congrArg (dn1++·) (bt ct1))
   refine tm 17 U (tf 18 U U (λ_ _ hj=>lV ty207 U (hj.nth (i:=0) U) U) ?_)
   have hx1:bZ v0 v1=dn1++(y1::(bZ.L1 v1 (bZ.K1) rz1)):=hs4
   refine tn 19 U (me ([z1]) A1_ ap (hy dn1 y1 _ _ _ _ hx1 hl1 hC1_ U) U U (λh2 A3 hle1 hC1=>?_) (λh3 A4 hle2 hS1=>?_) (λch1 h4 A5 hle3 hP1 e=>iN (oz [] (A:=A5) LR (List.sublist_append_right _ _) hP1)))
   .have hs5:bZ v0 v1=(dn1++[y1])++((bZ.L1 v1 (bZ.K1) rz1)):=hx1.trans ap
    exact Ps
   exact⟨⟨hle2,λ_ hp=>List.Sublist.subset js hp⟩,sK (K2:=[z1]) hle2 (λ_ hp=>hp) (qA [20,21] U (bW kr (mq U (dR (nU [] (A:=A4) LR U js (.inr hS1))))))⟩
  have ct2:=c2
  have hs6:=hs3.trans (congrArg (dn1++·) (bf ct2))
  exact tk 17 U U (qR 18 4 U (bW kr (qT 4 U (oi i1 U (qO 2 U (cm (L':=A1_) js (ag1 (dn1,A1_,hh1) hs6 ⟨hC1_,hl1⟩)))))))
 refine qR 4 11 U (tf 15 U U (λ_ _ _=>pj U (cb (show false=((!y1.mG)&&(decide ((mgetD v1 (dX.mk y1.cZ y1.iw y1.Of) (aF.mk 0 0 0 0 0 false false))=y1)))from by first|(rw[c1];rfl)|(rw[c1];rfl)|simp[c1]))) (tm 16 U ?_))
 refine fJ 28 U (λc3=>?_) (λc3=>?_)
 .have ct3:=c3
  have hs7:=hs3.trans (congrArg (dn1++·) (bt ct3))
  refine tm 17 U (tf 18 U U (λ_ _ hj=>lV ty207 U (hj.nth (i:=0) U) U) ?_)
  have hx2:bZ v0 v1=dn1++(y1::(bZ.L1 v1 (bZ.K1) rz1)):=hs7
  refine tn 19 U (me ([z1]) A1_ ap (hy dn1 y1 _ _ _ _ hx2 hl1 hC1_ U) U U (λh2 A3 hle1 hC1=>?_) (λh6 A7 hle5 hS2=>?_) (λch2 h7 A8 hle6 hP2 e=>iN (oz [] (A:=A8) LR (List.sublist_append_right _ _) hP2)))
  .have hs5:bZ v0 v1=(dn1++[y1])++((bZ.L1 v1 (bZ.K1) rz1)):=hx2.trans ap
   exact Ps
  exact⟨⟨hle5,λ_ hp=>List.Sublist.subset js hp⟩,sK (K2:=[z1]) hle5 (λ_ hp=>hp) (qA [20,21] U (bW kr (mq U (dR (nU [] (A:=A7) LR U js (.inr hS2))))))⟩
 have ct4:=c3
 have hs9:=hs3.trans (congrArg (dn1++·) (bf ct4))
 exact tk 17 U U (qR 18 4 U (bW kr (qT 4 U (oi i1 U (qO 2 U (cm (L':=A1_) js (ag1 (dn1,A1_,hh1) hs9 ⟨hC1_,hl1⟩)))))))
theorem zk(h l fg ff lq ah)(hl:SlC aF.rp h fg ff l):j4 prog 192 [.slice fg l.length ff,I lq,I ah] h (λv h'=>∃(rv0:Value),v=rv0/\Itr prog rv0 yy (df l lq ah) h'):=by
 refine sT func192 U ntmps192 U λX hM hX hF=>?_
 have hs0:=@rfl _ (df l lq ah)
 refine sr (eL (λb1=>qO 4 U (aH (oC (λb2=>bJ zc299 (λb3=>cU 0 ty299 U U U U U U (qL 8 [2] U ?_)))))))
 let z1:Nat×Obj:=(b1,O [.slice fg l.length ff] 24)
 let z2:Nat×Obj:=(b3,O [.map (some b2)] 299)
 refine lp2 l (λi w=>[(1,I lq),(2,I ah),(3,Q b1),(7,Q b3),(14,.slice fg l.length ff),(15,I (l.length:Int)),(16,I (i:Int))]) (λ_=>h) (λw=>[z2,(b2,w.2),z1]) (λi w=>kY dX.enc (km aF.rp) h w.2 w.1/\w.1.length<=0+i) (λs1 i w=>(df.L1 lq ah (df.K1 l)) s1 w.1) ([],.map #[] 0) hl.1.1 hs0 ⟨(kY.nil (enc:=dX.enc) (V:=(km aF.rp)) (h:=h)),lc⟩ ?_ ?_
 .rintro i1 ⟨cg,eB⟩ i7 hs1 ⟨iD,Ih⟩ e
  refine sr (cv 2 U hM (λh1 hle1 hb1=>cv 0 U hM (λh2 hle2 hb2=>aH (gB U U (an (gl 0 U hM (λh3 hle3 hb3=>?_)))))))
  have mc1:vO dX.enc (km aF.rp) h3 b2 cg:=⟨_,hb3,(iD.mono (km.mono aF.aG) (hle1.t hle2)).mono (km.mono aF.aG) hle3⟩
  have hs2:df l lq ah=(bZ l cg):=hs1
  exact nretH [.func (.func 264) #[] #[Q b1,Q b3]] (hs2▸⟨(.func (.func 264) #[] #[Q b1,Q b3]),U,(xu h3 l fg ff ⟨b1,0,none⟩ cg b2 ⟨b3,0,none⟩ (hl.mono aF.aG ((hle1.t hle2).t hle3)) ((dM hb1).mono (hle2.t hle3)) mc1 ((dM hb2).mono hle3))⟩)
 rintro i1 ⟨cg,eB⟩ y1 rz1 hd1 gg dL i5 mF hs3 ⟨iD,Ih⟩ hx1 ag1 e
 refine sr (tO gg U (qO 8 U (aH (iF aF.cells Gn ty207 hl.1 dL U U U (λq2 A2=>eJ ty207 A2 U U (bJ zc207 (λb5=>bG 0 ty207 U U U U U U (qL 9 [0] U (gz 5 [24,25,26,27,28,29] 24 29 (decide (ah<y1.dU)) U (λc1 hk1=>?_) (λe=>?_))))))))))
 .exact qL 5 [0] U (hk1 _ U)
 refine bp (aI hs3 U (λc2 hs4=>?_) (λc2 hs5=>?_))
 .exact kw U (bM (oi i1 U (qO 2 U (cm (L':=[z2,(b2,eB),z1]) js (ag1 (cg,eB) hs4 ⟨iD,lc⟩)))))
 refine qK 9 [0,0,0] U (aH (gv (cells:=[I y1.cZ,I y1.iw,.bool y1.Of]) (places:=[(0,1),(1,1),(2,1)]) O2 zc301 kr kr (bJ zc301 (λb6=>bG 0 ty301 U U U U U U (qL 4 [2] U (du 0 ty301 U U U (aH (mL 3 (k:=(dX.mk y1.cZ y1.iw y1.Of)) underlying299 wO U iD (eG zv207) (show(km aF.rp) _ (.agg (xB [I 0,I 0,I 0,I 0,I 0,.bool false,.bool false])) (aF.mk 0 0 0 0 0 false false)from⟨_,U,U⟩) U U (λv1 hv1=>?_)))))))))
 obtain⟨_,rfl,rfl⟩:=hv1
 refine qO 3 U (bJ zc207 (λb7=>bG 0 ty207 U U U U U U (qO 7 U (gz 6 [45,46,47,48,49,50,51] 45 51 (decide ((mgetD cg (dX.mk y1.cZ y1.iw y1.Of) (aF.mk 0 0 0 0 0 false false)).At<=y1.At)) U (λc3 hk2=>?_) (λe=>?_)))))
 .exact qL 6 [2,0] U (hk2 _ U)
 refine bp (aI hs5 U (λc4 hs6=>?_) (λc4 hs7=>?_))
 .exact qK 2 [3] U (du 1 ty301 U U U (du 2 ty207 U U U (aH (mt 4 (k:=(dX.mk y1.cZ y1.iw y1.Of)) (x:=y1) underlying299 wO U iD U U ⟨_,U,U⟩ (λmo1 hm1=>qO 3 U (oi i1 U (qO 2 U (cm (L':=[z2,(b2,mo1),z1]) js (ag1 ((mput cg (dX.mk y1.cZ y1.iw y1.Of) y1),mo1) hs6 ⟨hm1,(by have:=nw cg (dX.mk y1.cZ y1.iw y1.Of) y1;first|omega|(simp only[zB,zA]at *;omega))⟩)))))))))
 exact bO (qT 2 U (oi i1 U (qO 2 U (cm (L':=[z2,(b2,eB),z1]) js (ag1 (cg,eB) hs7 ⟨iD,lc⟩)))))
theorem xU.mono{h h':HF}(hl:h.le h'):∀{vs:List Value}{ws:List iv},xU h vs ws->xU h' vs ws
 |[],[],_=>trivial
 |_::_,_::_,⟨⟨r,e,o⟩,t⟩=>⟨⟨r,e,o.mono hl⟩,xU.mono hl t⟩
 |[],_::_,x=>x.elim
 |_::_,[],x=>x.elim
theorem xU.snoc{h:HF}{v:Value}{w:iv}(hw:∃r,v=.agg (iv.cells w r).toArray/\iv.ok h w r):∀{vs:List Value}{ws:List iv},xU h vs ws->xU h (vs++[v]) (ws++[w])
 |[],[],_=>⟨hw,trivial⟩
 |_::_,_::_,⟨a,t⟩=>⟨a,xU.snoc hw t⟩
 |[],_::_,x=>x.elim
 |_::_,[],x=>x.elim
theorem xU.len{h:HF}:∀{vs:List Value}{ws:List iv},xU h vs ws->vs.length=ws.length
 |[],[],_=>rfl
 |_::_,_::_,⟨_,t⟩=>by simp[xU.len t]
 |[],_::_,x=>x.elim
 |_::_,[],x=>x.elim
theorem nz(h w UY q1 q2 bm bc om)(m:List (Int×Bool))(cap s r:Nat)(vs:List Value)(q:List iv)(hw:iv.ok h w UY)(a1:At h q1 [.map (some bm)])(a2:At h q2 [.chan (some bc)])(hm:kY (qC .i64) rX h om m)(hq:xU h vs q)(hroom:mgetD m w.to false=false->vs.length<cap):
  nK prog (.func (.func 191) #[] #[.pointer (some q1),.pointer (some q2)]) #[.agg (iv.cells w UY).toArray] h [(bm,om),(bc,.chan cap vs.toArray false s r false)]
   (λx h' B=>x=.returned (.tuple #[])/\h'=h/\∃om' vs' s',kY (qC .i64) rX h om' (conPut w m q).1/\xU h vs' (conPut w m q).2/\B=[(bm,om'),(bc,.chan cap vs'.toArray false s' r false)]):=by
 refine np (args:=[.agg (iv.cells w UY).toArray]) (cap:=[.pointer (some q1),.pointer (some q2)]) call191 (cV func191 U ntmps191 U λX hM hX=>sr (eL (λb1=>qO 3 U (eE ty221 a1 U (qL 2 [0] U (aH (nq 1 (k:=w.to) Rh (fe mR) U hm (eG zv4) (show rX _ (.bool false) false from U) U U (λv hv=>?_))))))))
 obtain rfl:=hv
 cases hc:mgetD m w.to false with
 |true=>
  refine qO 4 U ?_
  have e1:conPut w m q=(m,q):=by simp[conPut,hc]
  refine zU func191 (λa ha w hw=>nr U a w) (λw hw=>(hw.sub (L':=[(bm,om),(bc,.chan cap vs.toArray false s r false)]) js).lower) ⟨U,hX,om,vs,s,?_,?_,U⟩
  .rw[e1];exact hm
  rw[e1];exact hq
 |false=>
  refine qO 3 U ?_
  have e1:conPut w m q=(mput m w.to true,q++[w]):=by simp[conPut,hc]
  refine sr (eE ty221 a1 U (qL 2 [0] U (aH (mt 1 (k:=w.to) (x:=true) Rh (fe mR) U hm U U U (λom' hm'=>qO 2 U (eE ty255 a2 U (du 0 ty257 U U U (UG 2 U U U (hroom hc) (bp ?_)))))))))
  refine zU func191 (λa ha w hw=>nr U a w) (λww hww=>(hww.sub (L':=[(bm,om'),(bc,.chan cap (vs++[Value.agg (iv.cells w UY).toArray]).toArray false (s+1) r false)]) js).lower) ⟨U,hX,om',vs++[.agg (iv.cells w UY).toArray],s+1,?_,?_,U⟩
  .rw[e1];exact hm'
  rw[e1];exact xU.snoc ⟨UY,rfl,hw⟩ hq
theorem FR.mono{h h':HF}(hl:h.le h'){m:List (Int×Option Addr×Nat×Nat)}{f:List (Int×List aF)}{G:LH}(x:FR h m f G):FR h' m f G:=FRg.mono aF.aG hl x
theorem Is(k:Int->Int):∀(l:List Int)(g:Int),dp.L1 k l g=0->(∀x∈l,g<x/\x<=1048576)/\l.Pairwise (·<·)/\∃g',k g'=0
 |[],g,h=>⟨λ_ h=>(kA h).elim,List.Pairwise.nil,g,h⟩
 |y::l,g,h=>by
  simp only[dp.L1,Bool.cond_eq_ite,kD,decide_eq_true_eq]at h
  split at h
  .omega
  next hc=>
  obtain⟨h1,h2,h3⟩:=Is k l y h
  refine⟨λx hx=>?_,List.pairwise_cons.2 ⟨λx hx=>(h1 x hx).1,h2⟩,h3⟩
  rcases zE.1 hx with rfl|hx
  .omega
  have:=h1 x hx;omega
theorem FY{l:List aF}{bS:Int}{er:List Int}{a b:Int}(h:dp l bS er a b=0):er.Pairwise (·<=·)/\er.length<=16:=by
 unfold dp at h
 rw[Bool.cond_eq_ite]at h
 split at h
 .next hc=>simp at hc;exact absurd h hc
 obtain⟨_,h2,g',h3⟩:=Is _ _ _ h
 refine⟨h2.imp (λh=>Int.le_of_lt h),?_⟩
 unfold dp.K1 at h3
 rw[Bool.cond_eq_ite]at h3
 split at h3
 .omega
 next hc=>
 simp only[kD,not_or,decide_eq_true_eq]at hc
 omega
theorem uK(h b)(n c:Nat)(hc:n<=c):Ret prog 194 [.slice b n c] h (.slice b n n):=by
 exact cV func194 U ntmps194 U λX hM hX=>qK 11 [] U (aH (eu (Ux eM ty3 U U U hc) (an (vU [.slice b n n] func194 U hX rd U))))
theorem rR(h l fg ff bS er nu nt dw ah)(hl:SlC aF.rp h fg ff l)(HT:SlC jB h nu nt er)(hsz:l.length<=2000000):
  j4 prog 126 [.slice fg l.length ff,I bS,.slice nu er.length nt,I dw,I ah] h
   (λv h'=>∃(rb0:Option Addr)(rc0:Nat),v=.tuple #[.slice rb0 ((dV l bS er dw ah).1.length) rc0,.bool ((dV l bS er dw ah).2.1),I ((dV l bS er dw ah).2.2)]/\SlC jB h' rb0 rc0 ((dV l bS er dw ah).1)):=by
 refine cV OR U ntmps126 U λX hM hX=>sr (eL (λb1=>qL 12 [0] U (aX (v:=I (dp l bS er dw ah)) call190 (AI h l fg ff bS er nu nt dw ah hl HT) U (qO 7 U (lu U (λc1=>?_) (λc1=>?_))))))
 .have e1:dV l bS er dw ah=([],false,dp l bS er dw ah):=by unfold dV;rw[c1];rfl
  exact sr (qO 5 U (lJ [zSN,.bool false,I (dp l bS er dw ah)] OR U rd ⟨none,0,by rw[e1];rfl,by rw[e1];exact qG⟩))
 have hex:dp l bS er dw ah=0:=by simpa using c1
 obtain⟨hps,hpl⟩:=FY hex
 have e1:dV l bS er dw ah=((conFind l bS er (df l dw ah)).1,(conFind l bS er (df l dw ah)).2,0):=by unfold dV;rw[c1];rfl
 rw[e1]
 have hstl:=Mc l dw ah
 generalize hst:df l dw ah=st at hstl
 refine qT 3 U (aH (oC (λbf=>bJ zc254 (λb14=>cU 0 ty254 U U U U U U (qO 3 U (aH (oC (λbm=>bJ zc221 (λb15=>cU 0 ty221 U U U U U U (qL 5 [] U (aH (RJ underlying255 bytes257 U ob (by decide) (λbc=>bJ zc255 (λb16=>cU 0 ty255 U U U U U U (qO 3 U (aH (gB U U (bJ zc258 (λb17=>cU 0 ty258 U U U U U U (bp (gl 0 U hM (λh1 l1 f17=>gl 0 U hM (λh2 l2 f16=>gl 1 U hM (λh3 l3 f15=>gl 2 U hM (λh4 l4 f14=>gl 3 U hM (λh5 l5 f1=>?_))))))))))))))))))))))))))
 have a17:=(dM f17).mono (l2.t (l3.t (l4.t l5)))
 have a16:=(dM f16).mono (l3.t (l4.t l5))
 have a15:=(dM f15).mono (l4.t l5)
 have a14:=(dM f14).mono l5
 have a1:=dM f1
 have l05:h.le h5:=jA l1 (l2.t (l3.t (l4.t l5)))
 clear f17 f16 f15 f14 f1 l1 l2 l3 l4 l5
 refine qT 6 U (aH (cw call192 (zk h5 l fg ff dw ah (hl.mono aF.aG l05)) U (λv1 h6 l6 hp1=>?_)))
 obtain⟨_,rfl,hit⟩:=hp1
 rw[hst]at hit
 refine qO 2 U (dR ?_)
 refine j7 (it:=v1) (xs:=st) (ι:=List (Int×List aF)×List (Int×Bool)×List iv×List Value×Nat×Obj×List (Int×Option Addr×Nat×Nat)×Obj×LH×HF) [] (λi=>i.2.2.2.2.2.2.2.2.2)
  (λi=>[(bc,.chan l.length i.2.2.2.1.toArray false i.2.2.2.2.1 0 false),(bm,i.2.2.2.2.2.1),(bf,i.2.2.2.2.2.2.2.1)]++i.2.2.2.2.2.2.2.2.1)
  (λrest i=>(conFill bS rest i.1 i.2.1 i.2.2.1=conFill bS st [] [] []/\(∀x∈rest,x∈st))/\(xU i.2.2.2.2.2.2.2.2.2 i.2.2.2.1 i.2.2.1/\kY (qC .i64) rX i.2.2.2.2.2.2.2.2.2 i.2.2.2.2.2.1 i.2.1/\kY (qC .i64) V3 i.2.2.2.2.2.2.2.2.2 i.2.2.2.2.2.2.2.1 i.2.2.2.2.2.2.1/\FR i.2.2.2.2.2.2.2.2.2 i.2.2.2.2.2.2.1 i.1 i.2.2.2.2.2.2.2.2.1)/\(xX st i.2.1 i.2.2.1/\P3 st i.1)/\h6.le i.2.2.2.2.2.2.2.2.2/\(∀k,(mgetD i.1 k []).length+rest.length<=l.length))
  (λ_=>False) (λ_=>False) 0 (λ_ _ _=>False) ([],[],[],[],0,.map #[] 0,[],.map #[] 0,[],h6) OR rfl hit rfl ED (λ_ _ _ _ _ hq=>hq) rfl rfl
  ⟨⟨rfl,λ_ hx=>hx⟩,⟨trivial,kY.nil,kY.nil,rfl⟩,⟨⟨λ_ hp=>(kA hp).elim,vE _,λ_ hp=>(kA hp).elim⟩,λ_ _ hx=>(kA hx).elim⟩,kH _,λk=>by simp[mgetD,mget?];exact hstl⟩ ?_ ?_ (λ_ _ _ hF=>hF.elim) (λ_ _ _ hF=>hF.elim) (λ_ _ _ _ hF=>hF.elim)
 .rintro l1 r1 lp1 x rest vs1 ⟨f,m,q,vs,s,om,m3,o3,Gf,hh⟩ h7 X' hFR ⟨⟨hfill,hin⟩,⟨hwy,hmm,hm3,hfr⟩,⟨hgq,hgf⟩,h6h,hlen⟩ h67 hh7 hv hX' hXM hlp nx rt ex pn
  dsimp only at hfill hin hwy hmm hm3 hfr hgq hgf h6h hh7 hlen
  obtain rfl:=hv
  have hxst:x∈st:=hin x (kB ..)
  have hin':∀y∈rest,y∈st:=λy hy=>hin y (jC _ hy)
  have h57:h5.le h7:=jA l6 h67
  replace hwy:=hwy.mono hh7
  replace hmm:=hmm.mono rX.mono hh7
  replace hm3:=hm3.mono V3.mono hh7
  replace hfr:=hfr.mono hh7
  have h67':h6.le h7:=h67
  clear hh7 h6h
  refine bM (bJ zc207 (λb18=>bG 0 ty207 U U U U U U (bp (kg 1 U hlp (qT 2 U (bY (L':=[(b18,.cells (aF.cells x).toArray 207 (0,0)),(l1,.loop { lp1 with state:=.busy }),(r1,.deferred (some [])),(bc,.chan l.length vs.toArray false s 0 false),(bm,om),(bf,o3)]++Gf) (by simp[markB,setNth]) (qK 6 [0] U (lu U (λcO=>?_) (λcO=>?_)))))))))
  .obtain⟨gb,gc,G1,G2,hget,hgrow,hperm,hput⟩:=hfr.get x.cZ
   have hlx:=hlen x.cZ
   simp only[zA]at hlx
   have hnext:conFill bS rest (mput f x.cZ (mgetD f x.cZ []++[x])) m q=conFill bS st [] [] []:=by
    rw[←hfill];simp[conFill,cO]
   have hlen':∀k,(mgetD (mput f x.cZ (mgetD f x.cZ []++[x])) k []).length+rest.length<=l.length:=λk=>by
    rw[CC]
    split
    .simp only[vA,zA,zB];omega
    have:=hlen k;simp only[zA]at this;omega
   have fin:∀(e':Env)(b8:Nat)(o8:Obj)(o3':Obj)(gb':Option Addr)(gc':Nat)(G1':LH),cN aF.rp 207 h7 (mgetD f x.cZ []++[x]) gb' gc' G1'->kY (qC .i64) V3 h7 o3' (mput m3 x.cZ (gb',(mgetD f x.cZ []++[x]).length,gc')) ->
     TT prog (roundFrame l1 126) 111 [.inBlock 2,.inBlock 1] hFR e' [] X' h7 ([(b8,o8),(b18,.cells (aF.cells x).toArray 207 (0,0)),(l1,.loop { lp1 with state:=.busy }),(r1,.deferred (some [])),(bc,.chan l.length vs.toArray false s 0 false),(bm,om),(bf,o3')]++(G2++G1')):=by
    intro e' b8 o8 o3' gb' gc' G1' hG' hm'
    obtain⟨G',hfr',hp'⟩:=hput gb' gc' _ G1' hG'
    exact fM (fM (cm (L':=[(l1,.loop { lp1 with state:=.busy }),(r1,.deferred (some [])),(bc,.chan l.length vs.toArray false s 0 false),(bm,om),(bf,o3')]++(G2++G1')) js (mY (L':=[(l1,.loop { lp1 with state:=.busy }),(r1,.deferred (some [])),(bc,.chan l.length vs.toArray false s 0 false),(bm,om),(bf,o3')]++G') (List.Perm.append_left _ (List.perm_append_comm.trans hp'.symm)) (bY (L':=rdH l1 r1 lp1 (([(bc,.chan l.length vs.toArray false s 0 false),(bm,om),(bf,o3')]++G')++markB [])) (by simp[markB]) (nx (mput f x.cZ (mgetD f x.cZ []++[x]),m,q,vs,s,om,mput m3 x.cZ (gb',(mgetD f x.cZ []++[x]).length,gc'),o3',G',h7) _ _ ⟨⟨hnext,hin'⟩,⟨hwy,hmm,hm',hfr'⟩,⟨hgq,hgf.put hxst⟩,h67',hlen'⟩ lf)))))
   have hJ:∀{L:LH},Jst h7 [(b18,.cells (aF.cells x).toArray 207 (0,0))] h7 ((b18,.cells (aF.cells x).toArray 207 (0,0))::L):=DC js
   have hJ2:∀{L:LH}{p:Nat×Obj},Jst h7 [(b18,.cells (aF.cells x).toArray 207 (0,0))] h7 (p::(b18,.cells (aF.cells x).toArray 207 (0,0))::L):=DC js
   refine fo [(b18,.cells (aF.cells x).toArray 207 (0,0))] mixed kr hJ (λhsep _=>?_)
   refine kh 0 hsep hJ U U kr U (rh ty254 (a14.mono h57) U) (kh 1 hsep hJ U U kr U (λ_ _ _=>yR Nl U) (kh 2 hsep hJ U U kr U (rj 0 ty3 U U U) (kh 3 hsep hJ U U kr U (rh ty254 (a14.mono h57) U) (kh 4 hsep hJ U U kr U (λ_ _ _=>yR Nl U) (kh 5 hsep hJ U U kr U (rj 0 ty3 U U U) (kh 7 hsep hJ U U kr U (λ_ _ hj=>lV ty207 U (hj.nth (i:=0) U) U) ?_))))))
   refine nn 6 8 kr U U ?_ ?_
   .refine nq 5 (k:=x.cZ) OQ (fe mR) U hm3 (eG zv24) (show V3 _ (zSN) (none,0,0)from U) U U (λv hv=>?_)
    rw[hget]at hv
    obtain rfl:=hv
    exact⟨hJ,tn 8 U (bT (cells:=aF.cells x) Gn ty207 zc207 U U kr (λb8=>⟨hJ2,tn 9 U (GD (List.Perm.append_left ([(b8,.cells (aF.cells x).toArray 207 (0,0)),(b18,.cells (aF.cells x).toArray 207 (0,0)),(l1,.loop { lp1 with state:=.busy }),(r1,.deferred (some [])),(bc,.chan l.length vs.toArray false s 0 false),(bm,om),(bf,o3)]:LH) hperm) (eN aF.dl [(b8,.cells (aF.cells x).toArray 207 (0,0)),(b18,.cells (aF.cells x).toArray 207 (0,0)),(l1,.loop { lp1 with state:=.busy }),(r1,.deferred (some [])),(bc,.chan l.length vs.toArray false s 0 false),(bm,om),(bf,o3)] G2 (λG=>[(b8,.cells (aF.cells x).toArray 207 (0,0)),(b18,.cells (aF.cells x).toArray 207 (0,0)),(l1,.loop { lp1 with state:=.busy }),(r1,.deferred (some [])),(bc,.chan l.length vs.toArray false s 0 false),(bm,om),(bf,o3)]++(G2++G)) U (λ_=>U) Gn ty207 zc207 U bytes207 hgrow U U (gV 0 U (show cY aF.rp h7 (aF.cells x) [x]from⟨aF.cells x,[],by simp,U,U,U⟩)) lo lo (λgb' gc' G1' hG'=>⟨hJ2,tn 10 U (mt 6 (k:=x.cZ) (x:=(gb',(mgetD f x.cZ []++[x]).length,gc')) OQ (fe mR) U hm3 U U U (λo3' hm'=>⟨hJ2,bW kr (fin _ b8 _ o3' gb' gc' G1' hG' hm')⟩))⟩)))⟩))⟩
   refine bT (cells:=aF.cells x) Gn ty207 zc207 U U kr (λb8=>⟨hJ2,tn 6 U (nq 6 (k:=x.cZ) OQ (fe mR) U hm3 (eG zv24) (show V3 _ (zSN) (none,0,0)from U) U U (λv hv=>?_))⟩)
   rw[hget]at hv
   obtain rfl:=hv
   exact⟨hJ2,tn 9 U (GD (List.Perm.append_left ([(b8,.cells (aF.cells x).toArray 207 (0,0)),(b18,.cells (aF.cells x).toArray 207 (0,0)),(l1,.loop { lp1 with state:=.busy }),(r1,.deferred (some [])),(bc,.chan l.length vs.toArray false s 0 false),(bm,om),(bf,o3)]:LH) hperm) (eN aF.dl [(b8,.cells (aF.cells x).toArray 207 (0,0)),(b18,.cells (aF.cells x).toArray 207 (0,0)),(l1,.loop { lp1 with state:=.busy }),(r1,.deferred (some [])),(bc,.chan l.length vs.toArray false s 0 false),(bm,om),(bf,o3)] G2 (λG=>[(b8,.cells (aF.cells x).toArray 207 (0,0)),(b18,.cells (aF.cells x).toArray 207 (0,0)),(l1,.loop { lp1 with state:=.busy }),(r1,.deferred (some [])),(bc,.chan l.length vs.toArray false s 0 false),(bm,om),(bf,o3)]++(G2++G)) U (λ_=>U) Gn ty207 zc207 U bytes207 hgrow U U (gV 0 U (show cY aF.rp h7 (aF.cells x) [x]from⟨aF.cells x,[],by simp,U,U,U⟩)) lo lo (λgb' gc' G1' hG'=>⟨hJ2,tn 10 U (mt 6 (k:=x.cZ) (x:=(gb',(mgetD f x.cZ []++[x]).length,gc')) OQ (fe mR) U hm3 U U U (λo3' hm'=>⟨hJ2,bW kr (fin _ b8 _ o3' gb' gc' G1' hG' hm')⟩))⟩)))⟩
  refine qK 4 [0] U (eE ty3 (a1.mono h57) U (qO 3 U ?_))
  have hlen':∀k,(mgetD f k []).length+rest.length<=l.length:=λk=>by have:=hlen k;simp only[zA]at this;omega
  refine lu U (λcP=>?_) (λcP=>?_)
  .have hnext:conFill bS rest f (conPut ⟨[x.No],x.iw⟩ m q).1 (conPut ⟨[x.No],x.iw⟩ m q).2=conFill bS st [] [] []:=by
    rw[←hfill];simp only[conFill,cO,cond_false,cP,cond_true]
   have hpty:(iv.mk [x.No] x.iw).to∈st.map (·.iw):=V9 hxst
   refine bM (eE ty258 (a17.mono h57) U (qL 2 [0] U (aH (Ek (cells:=[I x.No]) hXM eM ty3 zc3 U U kr (λb65 hb65=>Cj 0 U hb65 (λh8 l8 f8=>?_))))))
   have sl8:SlC jB h8 (zAD b65) 1 [x.No]:=cY.slB0 (T:=3) (fz:=(0,0)) (show cY jB h8 [I x.No] [x.No]from⟨[I x.No],[],rfl,rfl,rfl,rfl⟩) f8
   refine qL 2 [0] U (aH (gv (cells:=iv.cells ⟨[x.No],x.iw⟩ ⟨zAD b65,1⟩) (places:=[(0,1),(1,1)]) underlying257 zc257 kr kr ?_))
   refine aH (KJ (vs:=[.agg (iv.cells ⟨[x.No],x.iw⟩ ⟨zAD b65,1⟩).toArray]) [(bm,om),(bc,.chan l.length vs.toArray false s 0 false)] ([(b18,.cells (aF.cells x).toArray 207 (0,0)),(l1,.loop { lp1 with state:=.busy }),(r1,.deferred (some [])),(bf,o3)]++Gf) ?_
    (nz h8 ⟨[x.No],x.iw⟩ ⟨zAD b65,1⟩ ⟨b15,0,none⟩ ⟨b16,0,none⟩ bm bc om m l.length s 0 vs q ⟨sl8⟩ (a15.mono (h57.t l8)) (a16.mono (h57.t l8)) (hmm.mono rX.mono l8) (hwy.mono l8) (λhno=>by rw[hwy.len];exact Bb hgq hmm.nodup hpty hstl hno)) rfl rfl (λB hB=>?_))
   .exact Bm [(b18,.cells (aF.cells x).toArray 207 (0,0)),(l1,.loop { lp1 with state:=.busy }),(r1,.deferred (some []))] ((bf,o3)::Gf) (bc,.chan l.length vs.toArray false s 0 false) (bm,om)
   obtain⟨om',vs',s',hm',hw',rfl⟩:=hB
   refine qO 3 U (cm (L':=[(bm,om'),(bc,.chan l.length vs'.toArray false s' 0 false)]++([(l1,.loop { lp1 with state:=.busy }),(r1,.deferred (some [])),(bf,o3)]++Gf)) js ?_)
   refine mY (L':=rdH l1 r1 lp1 (([(bc,.chan l.length vs'.toArray false s' 0 false),(bm,om'),(bf,o3)]++Gf)++markB [])) ?_ ?_
   .rw[show markB []=([]:LH)from rfl,List.append_nil]
    exact(Bm [(l1,Obj.loop { lp1 with state:=.busy }),(r1,.deferred (some []))] ((bf,o3)::Gf) (bc,.chan l.length vs'.toArray false s' 0 false) (bm,om')).symm
   exact nx (f,(conPut ⟨[x.No],x.iw⟩ m q).1,(conPut ⟨[x.No],x.iw⟩ m q).2,vs',s',om',m3,o3,Gf,h8) _ _ ⟨⟨hnext,hin'⟩,⟨hw',hm',hm3.mono V3.mono l8,hfr.mono l8⟩,⟨wu hgq hpty (by simp),hgf⟩,jA h67' l8,hlen'⟩ lf
  have hnext:conFill bS rest f m q=conFill bS st [] [] []:=by
   rw[←hfill];simp only[conFill,cO,cond_false,cP]
  exact bO (qT 2 U (cm (L':=[(l1,.loop { lp1 with state:=.busy }),(r1,.deferred (some [])),(bc,.chan l.length vs.toArray false s 0 false),(bm,om),(bf,o3)]++Gf) js (bY (L':=rdH l1 r1 lp1 (([(bc,.chan l.length vs.toArray false s 0 false),(bm,om),(bf,o3)]++Gf)++markB [])) (by simp[markB]) (nx (f,m,q,vs,s,om,m3,o3,Gf,h7) _ _ ⟨⟨hnext,hin'⟩,⟨hwy,hmm,hm3,hfr⟩,⟨hgq,hgf⟩,h67',hlen'⟩ lf))))
 rintro dm ⟨f,m0,q0,vs0,s0,om0,m3,o3,Gf,hh⟩ h7 ⟨⟨hfill,_⟩,⟨hwy,hmm,hm3,hfr⟩,⟨hgq,hgf⟩,h6h,hlen⟩ hh7 h67
 dsimp only at hfill hwy hmm hm3 hfr hgq hgf h6h hh7 hlen
 refine fM (gl 2 U hM (λh8 l8 f8=>Gr [(bc,.chan l.length vs0.toArray false s0 0 false),(bm,om0)] Gf (markB [dm]) U hM (λh9 l9 hG9=>?_)))
 have h89:hh.le h9:=jA hh7 (l8.t l9)
 have hmF:kY (qC .i64) (VSl aF.rp) h9 o3 f:=FRg.frozen aF.aG hm3 hfr h89 hG9
 have hbf:h9 bf=some o3:=l9 _ _ f8
 have h59:h5.le h9:=jA l6 (h67.t (l8.t l9))
 replace a14:=a14.mono h59
 replace a15:=a15.mono h59
 replace a16:=a16.mono h59
 replace a17:=a17.mono h59
 have hpar:=(HT.mono qJ l05).mono qJ h59
 have hcf:conFind l bS er st=conLoop er f (l.length+1) m0 q0:=by
  unfold conFind;rw[←hfill];rfl
 have hwy0:=hwy.mono h89
 have hmm0:=hmm.mono rX.mono h89
 clear hwy hmm hm3 hfr hG9 l8 f8 h6h hh7 h67 hfill a1
 generalize hCF:conFind l bS er st=CF at hcf
 refine el ?_
 refine gx (ι:=List Value×Nat×Nat×Obj×HF) (λi=>[]) (λi=>i.2.2.2.2) (λi=>[(bc,.chan l.length i.1.toArray false i.2.1 i.2.2.1 false),(bm,i.2.2.2.1)]++markB [dm]) (λi=>CF=([],false)) ?_ (λhx=>?_)
 .rintro⟨vs,s,r,om,hh⟩ hc e
  exact sr (qO 4 U (od [dm] [zSN,.bool false,I 0] OR U rd ⟨none,0,by rw[hc];rfl,by rw[hc];exact qG⟩))
 refine jw (ι:=Nat×List (Int×Bool)×List iv×List Value×Nat×Nat×Obj×HF) (λi=>[(2,.slice nu er.length nt),(14,Q b14),(16,Q b16),(17,Q b17)]) (λi=>i.2.2.2.2.2.2.2)
  (λi=>[(bc,.chan l.length i.2.2.2.1.toArray false i.2.2.2.2.1 i.2.2.2.2.2.1 false),(bm,i.2.2.2.2.2.2.1)]++markB [dm])
  (λi=>CF=conLoop er f i.1 i.2.1 i.2.2.1/\i.2.2.1.length+(l.length-i.2.1.length)<i.1/\xU i.2.2.2.2.2.2.2 i.2.2.2.1 i.2.2.1/\kY (qC .i64) rX i.2.2.2.2.2.2.2 i.2.2.2.2.2.2.1 i.2.1/\xX st i.2.1 i.2.2.1/\h9.le i.2.2.2.2.2.2.2)
  (λi=>i.1) (l.length+1,m0,q0,vs0,s0,0,om0,h9) rd (λw hw=>hw) ⟨hcf,?_,hwy0,hmm0,hgq,kH _⟩ ?_
 .show q0.length+(l.length-m0.length)<l.length+1
  have:=hgq.2.1;have:=R9 hgq hmm0.nodup;omega
 clear hcf hwy0 hmm0 hgq
 rintro⟨n,m,q,vs,s,r,om,hh⟩ ⟨hcf,hn,hwy,hmm,hgq,h9h⟩ ag e
 dsimp only at hcf hn hwy hmm hgq h9h
 obtain⟨n,rfl⟩:∃n',n=n'+1:=⟨n-1,by omega⟩
 refine qT 3 U (eE ty255 (a16.mono h9h) U (aH (eu (Uw underlying255 (kB ..) U) ?_)))
 rcases q with _|⟨w,q⟩
 .have hv0:vs=[]:=List.eq_nil_of_length_eq_zero hwy.len
  subst hv0
  exact iS (v':=.bool false) U U (qO 3 U (hx ([],s,r,om,hh) _ hcf trivial))
 rcases vs with _|⟨v,vs⟩
 .exact hwy.elim
 obtain⟨⟨wr,rfl,hok⟩,hwy⟩:=hwy
 refine tO (decide_eq_true (by simp)) U (qO 6 U (eE ty255 (a16.mono h9h) U (UH 0 underlying255 zv257 U U (bJ zc257 (λb19=>bG 0 ty257 U U U U U U (qL 7 [0] U (aX (v:=.tuple #[I (slices_BinarySearch_int er w.to).1,.bool (slices_BinarySearch_int er w.to).2]) call193 (oO hh er nu nt w.to (hpar.mono qJ h9h) hps ob) U (qO 10 U ?_))))))))
 have hgq':xX st m q:=⟨hgq.1,by have:=hgq.2.1;simp only[zA]at this;omega,λw' hw'=>hgq.2.2 w' (jC _ hw')⟩
 have hw8:=hgq.2.2 w (kB ..)
 simp only[zA]at hn
 refine lu U (λcF=>?_) (λcF=>?_)
 .have hc2:CF=(w.path,true):=by
   rw[hcf];simp only[conLoop];rw[show er.contains w.to=true from cF];rfl
  exact qK 8 [0] U (cm (L':=[(bc,.chan l.length vs.toArray false s (r+1) false),(bm,om)]++markB [dm]) js (od [dm] [.slice wr.Aq w.path.length wr.Cv,.bool true,I 0] OR U rd ⟨wr.Aq,wr.Cv,by rw[hc2];rfl,by rw[hc2];exact hok.path⟩))
 have hc2:CF=(bif(w.path.length:Int)==8 then conLoop er f n m q else conLoop er f n (conStep w.path (mgetD f w.to []) m q).1 (conStep w.path (mgetD f w.to []) m q).2):=by
  rw[hcf];simp only[conLoop];rw[show er.contains w.to=false from cF];rfl
 refine qK 9 [0] U (lu U (λc8=>?_) (λc8=>?_))
 .rw[show((w.path.length:Int)==8)=true from c8]at hc2
  exact kw U (cm (L':=[(bc,.chan l.length vs.toArray false s (r+1) false),(bm,om)]++markB [dm]) js (ag (n,m,q,vs,s,r+1,om,hh) _ (Nat.lt_succ_self _) ⟨hc2,by show q.length+(l.length-m.length)<n;omega,hwy,hmm,hgq',h9h⟩ rd))
 rw[show((w.path.length:Int)==8)=false from c8]at hc2
 refine qT 3 U (eE ty254 (a14.mono h9h) U (qL 2 [0] U (aH (ph (k:=w.to) OQ (fe mR) (h9h _ _ hbf) (hmF.mono (VSl.mono aF.aG) h9h) (eG zv24) (show VSl aF.rp _ (zSN) []from⟨none,0,U,qG⟩) U U (λv hv=>?_)))))
 obtain⟨xb,xc,rfl,slx⟩:=hv
 have hxs:∀y∈mgetD f w.to [],y∈st:=hgf w.to
 generalize mgetD f w.to []=xs at slx hc2 hxs
 refine qL 3 [] U ?_
 have hw7:w.path.length+1<=8:=by simp at c8;omega
 have hsum:=D2 (path:=w.path) hstl hw7 hxs hgq' hmm.nodup
 generalize hcs:conStep w.path xs m q=CS at hc2 hsum
 refine gx (ι:=List Value×Nat×Obj×HF) (λi=>[(2,.slice nu er.length nt),(14,Q b14),(16,Q b16),(17,Q b17)]) (λi=>i.2.2.2) (λi=>[(b19,.cells (iv.cells w wr).toArray 257 (0,0)),(bc,.chan l.length i.1.toArray false i.2.1 (r+1) false),(bm,i.2.2.1)]++markB [dm])
  (λi=>xU i.2.2.2 i.1 CS.2/\kY (qC .i64) rX i.2.2.2 i.2.2.1 CS.1/\xX st CS.1 CS.2/\hh.le i.2.2.2) ?_ (λhx2=>?_)
 .rintro⟨vs2,s2,om2,h10⟩ ⟨hw2,hm2,hg2,hle2⟩ e2
  exact fM (cm (L':=[(bc,.chan l.length vs2.toArray false s2 (r+1) false),(bm,om2)]++markB [dm]) js (ag (n,CS.1,CS.2,vs2,s2,r+1,om2,h10) _ (Nat.lt_succ_self _) ⟨hc2,by show CS.2.length+(l.length-CS.1.length)<n;omega,hw2,hm2,hg2,jA h9h hle2⟩ rd))
 refine jw (ι:=Nat×List (Int×Bool)×List iv×List Value×Nat×Obj×HF×List aF) (λi=>[(2,.slice nu er.length nt),(14,Q b14),(16,Q b16),(17,Q b17),(19,Q b19),(92,.slice xb xs.length xc),(93,I (xs.length:Int)),(94,I (i.1:Int))]) (λi=>i.2.2.2.2.2.2.1)
  (λi=>[(b19,.cells (iv.cells w wr).toArray 257 (0,0)),(bc,.chan l.length i.2.2.2.1.toArray false i.2.2.2.2.1 (r+1) false),(bm,i.2.2.2.2.2.1)]++markB [dm])
  (λi=>xs.drop i.1=i.2.2.2.2.2.2.2/\conStep w.path i.2.2.2.2.2.2.2 i.2.1 i.2.2.1=CS/\xU i.2.2.2.2.2.2.1 i.2.2.2.1 i.2.2.1/\kY (qC .i64) rX i.2.2.2.2.2.2.1 i.2.2.2.2.2.1 i.2.1/\xX st i.2.1 i.2.2.1/\hh.le i.2.2.2.2.2.2.1)
  (λi=>i.2.2.2.2.2.2.2.length) (0,m,q,vs,s,om,hh,xs) rd (λw hw=>hw) ⟨rfl,hcs,hwy,hmm,hgq',kH _⟩ ?_
 rintro⟨i1,m2,q2,vs2,s2,om2,h10,rest⟩ ⟨hd1,hcs2,hw2,hm2,hg2,hle2⟩ ag2 e2
 dsimp only at hd1 hcs2 hw2 hm2 hg2 hle2
 rcases rest with _|⟨x,rest⟩
 .have hge:=nZ hd1
  refine sr (fO hge U (qO 4 U ?_))
  obtain rfl:(m2,q2)=CS:=hcs2
  exact hx2 (vs2,s2,om2,h10) _ ⟨hw2,hm2,hg2,hle2⟩ rd
 have hlt:=tU hd1
 have hget:=sn hd1
 have hxst:x∈st:=hxs x (gP hd1)
 have hpty:(iv.mk (w.path++[x.No]) x.iw).to∈st.map (·.iw):=V9 hxst
 have slx2:=slx.mono aF.aG hle2
 have hokp:=hok.path.mono qJ hle2
 have mF:=slx.1.1
 have i5:=il hd1
 have h910:h9.le h10:=jA h9h hle2
 refine sr (tO hlt U (qO 8 U (aH (iF aF.cells Gn ty207 slx2.1 hget U U U (λqx Ax=>eJ ty207 Ax U U (bJ zc207 (λb23=>bG 0 ty207 U U U U U U (bp ?_))))))))
 refine Ta (ι:=List Value×Nat×Obj×HF) (λi=>[(2,.slice nu er.length nt),(14,Q b14),(16,Q b16),(17,Q b17),(19,Q b19),(92,.slice xb xs.length xc),(93,I (xs.length:Int)),(94,I (i1:Int))]) (λi=>i.2.2.2) (λi=>[(b19,.cells (iv.cells w wr).toArray 257 (0,0)),(bc,.chan l.length i.1.toArray false i.2.1 (r+1) false),(bm,i.2.2.1)]++markB [dm])
  (λi=>h10.le i.2.2.2/\xU i.2.2.2 i.1 (conPut ⟨w.path++[x.No],x.iw⟩ m2 q2).2/\kY (qC .i64) rX i.2.2.2 i.2.2.1 (conPut ⟨w.path++[x.No],x.iw⟩ m2 q2).1) ?_ (λfin=>?_)
 .rintro⟨vs3,s3,om3,h11⟩ ⟨l11,hw3,hm3⟩ e3
  dsimp only at l11 hw3 hm3
  exact fM (bM (oi i1 U (qO 2 U (ag2 (i1+1,(conPut ⟨w.path++[x.No],x.iw⟩ m2 q2).1,(conPut ⟨w.path++[x.No],x.iw⟩ m2 q2).2,vs3,s3,om3,h11,rest) _ (Nat.lt_succ_self _) ⟨ll hd1,hcs2,hw3,hm3,wu hg2 hpty (by simpa using hw7),jA hle2 l11⟩ rd))))
 have hKs:∀p∈([(b23,.cells (aF.cells x).toArray 207 (0,0)),(b19,.cells (iv.cells w wr).toArray 257 (0,0))]:LH),p∈([(b23,.cells (aF.cells x).toArray 207 (0,0)),(b19,.cells (iv.cells w wr).toArray 257 (0,0)),(bc,.chan l.length vs2.toArray false s2 (r+1) false),(bm,om2)]++markB [dm]:LH):=λp hp=>by
  rcases zE.1 hp with rfl|hp
  .simp
  rw[xC.1 hp];simp
 have hJ:Jst h10 [(b23,.cells (aF.cells x).toArray 207 (0,0)),(b19,.cells (iv.cells w wr).toArray 257 (0,0))] h10 ([(b23,.cells (aF.cells x).toArray 207 (0,0)),(b19,.cells (iv.cells w wr).toArray 257 (0,0)),(bc,.chan l.length vs2.toArray false s2 (r+1) false),(bm,om2)]++markB [dm]):=⟨kH _,hKs⟩
 refine fo [(b23,.cells (aF.cells x).toArray 207 (0,0)),(b19,.cells (iv.cells w wr).toArray 257 (0,0))] mixed kr hJ (λhsep _=>?_)
 refine kh 0 hsep hJ U U kr U (rh ty258 (a17.mono h910) U) (kh 1 hsep hJ U U kr U (λ_ _ _=>yR SF U) (kh 2 hsep hJ U U kr U (rj 1 ty31 U U U) (kh 4 hsep hJ U U kr U (λ_ _ _=>yR SI U) (kh 5 hsep hJ U U kr U (rj 0 ty3 U U U) (kh 8 hsep hJ U U kr U (λ_ _ _=>yR SH U) (kh 9 hsep hJ U U kr U (rj 0 ty3 U U U) ?_))))))
 have hpl8:w.path.length<=wr.Cv:=hokp.2
 have hpn:=hokp.1.1
 refine nn 3 6 kr U U ?_ ?_
 .refine gu (v:=.slice wr.Aq w.path.length w.path.length) call194 (uK h10 wr.Aq w.path.length wr.Cv hpl8) U ⟨hJ,tn 6 U (bT (cells:=[I x.No]) eM ty3 zc3 U U kr (λb6=>⟨⟨kH _,λp hp=>jC _ (hKs p hp)⟩,tn 7 U (JN (R:=jB) (xs:=w.path) (ys:=[x.No]) eM ty3 zc3 U bytes3 (mi hokp.1) U U (gV 0 U (show cY jB h10 [I x.No] [x.No]from⟨[I x.No],[],U,U,U,U⟩)) (by simp) lo lo (λnb nc NG hNG=>⟨⟨kH _,λp hp=>kN NG (jC _ (hKs p hp))⟩,tn 10 U (gv (cells:=iv.cells ⟨w.path++[x.No],x.iw⟩ ⟨nb,nc⟩) (places:=[(0,1),(1,1)]) underlying257 zc257 kr kr ⟨⟨kH _,λp hp=>kN NG (jC _ (hKs p hp))⟩,tn 11 U (Bi qJ [] NG ((b6,.cells [qC .i64 x.No].toArray 3 (0,0))::[(b23,.cells (aF.cells x).toArray 207 (0,0)),(b19,.cells (iv.cells w wr).toArray 257 (0,0)),(bc,.chan l.length vs2.toArray false s2 (r+1) false),(bm,om2)]++markB [dm]) U hM hNG (λh11 l11 slN=>?_))⟩)⟩))⟩))⟩
  refine KJ (vs:=[.agg (iv.cells ⟨w.path++[x.No],x.iw⟩ ⟨nb,nc⟩).toArray]) [(bm,om2),(bc,.chan l.length vs2.toArray false s2 (r+1) false)] ([(b6,.cells [qC .i64 x.No].toArray 3 (0,0)),(b23,.cells (aF.cells x).toArray 207 (0,0)),(b19,.cells (iv.cells w wr).toArray 257 (0,0))]++markB [dm]) ?_
   (nz h11 ⟨w.path++[x.No],x.iw⟩ ⟨nb,nc⟩ ⟨b15,0,none⟩ ⟨b16,0,none⟩ bm bc om2 m2 l.length s2 (r+1) vs2 q2 ⟨slN⟩ (a15.mono (h910.t l11)) (a16.mono (h910.t l11)) (hm2.mono rX.mono l11) (hw2.mono l11) (λhno=>by rw[hw2.len];exact Bb hg2 hm2.nodup hpty hstl hno)) rfl rfl (λB hB=>?_)
  .exact Bm [(b6,.cells [qC .i64 x.No].toArray 3 (0,0)),(b23,.cells (aF.cells x).toArray 207 (0,0)),(b19,.cells (iv.cells w wr).toArray 257 (0,0))] (markB [dm]) (bc,.chan l.length vs2.toArray false s2 (r+1) false) (bm,om2)
  obtain⟨om3,vs3,s3,hm3,hw3,rfl⟩:=hB
  exact⟨⟨l11,λp hp=>by rcases hp with _|⟨_,_|⟨_,h⟩⟩;simp;simp;cases h⟩,sK (K2:=[(b23,.cells (aF.cells x).toArray 207 (0,0)),(b19,.cells (iv.cells w wr).toArray 257 (0,0))]) l11 (λ_ hp=>hp) (bW kr (mY (Bm [(b6,.cells [qC .i64 x.No].toArray 3 (0,0)),(b23,.cells (aF.cells x).toArray 207 (0,0)),(b19,.cells (iv.cells w wr).toArray 257 (0,0))] (markB [dm]) (bc,.chan l.length vs3.toArray false s3 (r+1) false) (bm,om3)).symm (cm (L':=[(b19,.cells (iv.cells w wr).toArray 257 (0,0)),(bc,.chan l.length vs3.toArray false s3 (r+1) false),(bm,om3)]++markB [dm]) js (fin (vs3,s3,om3,h11) _ ⟨l11,hw3,hm3⟩ rd))))⟩
 refine bT (cells:=[I x.No]) eM ty3 zc3 U U kr (λb6=>⟨⟨kH _,λp hp=>jC _ (hKs p hp)⟩,tn 3 U (gu (v:=.slice wr.Aq w.path.length w.path.length) call194 (uK h10 wr.Aq w.path.length wr.Cv hpl8) U ⟨⟨kH _,λp hp=>jC _ (hKs p hp)⟩,tn 7 U (JN (R:=jB) (xs:=w.path) (ys:=[x.No]) eM ty3 zc3 U bytes3 (mi hokp.1) U U (gV 0 U (show cY jB h10 [I x.No] [x.No]from⟨[I x.No],[],U,U,U,U⟩)) (by simp) lo lo (λnb nc NG hNG=>⟨⟨kH _,λp hp=>kN NG (jC _ (hKs p hp))⟩,tn 10 U (gv (cells:=iv.cells ⟨w.path++[x.No],x.iw⟩ ⟨nb,nc⟩) (places:=[(0,1),(1,1)]) underlying257 zc257 kr kr ⟨⟨kH _,λp hp=>kN NG (jC _ (hKs p hp))⟩,tn 11 U (Bi qJ [] NG ((b6,.cells [qC .i64 x.No].toArray 3 (0,0))::[(b23,.cells (aF.cells x).toArray 207 (0,0)),(b19,.cells (iv.cells w wr).toArray 257 (0,0)),(bc,.chan l.length vs2.toArray false s2 (r+1) false),(bm,om2)]++markB [dm]) U hM hNG (λh11 l11 slN=>?_))⟩)⟩))⟩)⟩)
 refine KJ (vs:=[.agg (iv.cells ⟨w.path++[x.No],x.iw⟩ ⟨nb,nc⟩).toArray]) [(bm,om2),(bc,.chan l.length vs2.toArray false s2 (r+1) false)] ([(b6,.cells [qC .i64 x.No].toArray 3 (0,0)),(b23,.cells (aF.cells x).toArray 207 (0,0)),(b19,.cells (iv.cells w wr).toArray 257 (0,0))]++markB [dm]) ?_
  (nz h11 ⟨w.path++[x.No],x.iw⟩ ⟨nb,nc⟩ ⟨b15,0,none⟩ ⟨b16,0,none⟩ bm bc om2 m2 l.length s2 (r+1) vs2 q2 ⟨slN⟩ (a15.mono (h910.t l11)) (a16.mono (h910.t l11)) (hm2.mono rX.mono l11) (hw2.mono l11) (λhno=>by rw[hw2.len];exact Bb hg2 hm2.nodup hpty hstl hno)) rfl rfl (λB hB=>?_)
 .exact Bm [(b6,.cells [qC .i64 x.No].toArray 3 (0,0)),(b23,.cells (aF.cells x).toArray 207 (0,0)),(b19,.cells (iv.cells w wr).toArray 257 (0,0))] (markB [dm]) (bc,.chan l.length vs2.toArray false s2 (r+1) false) (bm,om2)
 obtain⟨om3,vs3,s3,hm3,hw3,rfl⟩:=hB
 exact⟨⟨l11,λp hp=>by rcases hp with _|⟨_,_|⟨_,h⟩⟩;simp;simp;cases h⟩,sK (K2:=[(b23,.cells (aF.cells x).toArray 207 (0,0)),(b19,.cells (iv.cells w wr).toArray 257 (0,0))]) l11 (λ_ hp=>hp) (bW kr (mY (Bm [(b6,.cells [qC .i64 x.No].toArray 3 (0,0)),(b23,.cells (aF.cells x).toArray 207 (0,0)),(b19,.cells (iv.cells w wr).toArray 257 (0,0))] (markB [dm]) (bc,.chan l.length vs3.toArray false s3 (r+1) false) (bm,om3)).symm (cm (L':=[(b19,.cells (iv.cells w wr).toArray 257 (0,0)),(bc,.chan l.length vs3.toArray false s3 (r+1) false),(bm,om3)]++markB [dm]) js (fin (vs3,s3,om3,h11) _ ⟨l11,hw3,hm3⟩ rd))))⟩
theorem rQ(h c pK)(bS:Int)(hc:bU.ok h c pK)(hsm:smR c.Register)(hco:jo c)(hpp:0<=bS/\bS<64):Ret prog 227 [.agg (bU.cells c pK).toArray,I bS] h (.bool (j0 c bS)):=by
 refine sT func227 U ntmps227 U λX hM hX hF=>?_
 have hs0:=@rfl _ (j0 c bS)
 refine sr (eL (λb1=>qL 15 [0,0,0,0] U (aH (cw call126 (rR _ _ _ _ bS _ _ _ c.at_ c.ah hc.Register.ej hc.ba.kU hsm.2.2.2.1) U (λv1 h1 hle1 hp1=>?_)))))
 obtain⟨rb1,rc1,rfl,sl1⟩:=hp1
 exact bD (qO 10 U (aH (pG Ee (iY h1 ((dV c.Register.ej bS c.ba.kU c.at_ c.ah).2.2)) (ni (OD hco hpp)) U (qO 6 U (nretP [.bool ((dV c.Register.ej bS c.ba.kU c.at_ c.ah).2.1)] (cs hs0))))))
theorem zh(h c pK c_q p i8 p_q)(hc:bU.ok h c pK)(ac:At h c_q (bU.cells c pK))(hp:aw.ok h p i8)(ap_z:At h p_q (aw.cells p i8))(hsm:smR c.Register)(hco:jo c)(hpr:p.di.length=p.dQ.length/\∀y∈p.di,0<=y.iK/\y.iK<=1099511627775):Itr prog (.func (.func 224) #[] (xB [.pointer (some c_q),.pointer (some p_q)])) ri (cR c p) h:=by
 refine si call224 ?_
 intro yf ya yb C Sp Pn h1 A db m1 m2 m3 hC hy
 refine jX OP U ntmps224 U λX hXM hX=>?_
 have hs0:cR c p=[]++cR c p:=rfl
 have hkd:=hco.kind
 refine qK 5 [] U (lM (j:=9) ty3 (ac.mono db) U U (qL 1 [] U (lM (j:=1) ty55 (ap_z.mono db) U U (qL 3 [] U (lu U (λc1=>?_) (λc1=>?_))))))
 .have c1p:=of_decide_eq_true c1
  have hs1:=hs0.trans (congrArg ([]++·) (bt c1))
  refine dR ?_
  have hs2:cR c p=[]:=hs1.trans (List.append_nil _)
  exact nU [] (A:=A) OP U (List.Sublist.refl _) (.inl (hs2▸hC))
 have c1p:=of_decide_eq_false c1
 have hs3:=hs0.trans (congrArg ([]++·) (bf c1))
 refine qT 2 U (fo ([]) mixed kr jn (λim _=>qB [0,1] U (tf 2 U U (rH 6 ty28 (ac.mono db) U U) (qB [3,4] U (tf 5 U U (rH 7 ty3 (ac.mono db) U U) (qB [6,7] U (tf 8 U U (rH 8 ty3 (ac.mono db) U U) (qB [9] U (tf 10 U U (rH 3 ty56 (ap_z.mono db) U U) (qB [11,12] U (tf 13 U U (rH 9 ty3 (ac.mono db) U U) ?_)))))))))))
 have ho1:0<=(c.ba.Kind:Int)/\(c.ba.Kind:Int)<((p.di).length:Int):=ob
 refine oB 14 im jn zI ty65 (hp.di.mono ft.aG db).1 ho1 (dC ho1) U U U U kr (λq1 cs1 A1 ln1 rr1=>?_)
 obtain⟨r1,rfl,ok1⟩:=rr1
 refine qB [15] U (tf 16 U U (rH 2 ty3 A1 U U) (qB [17] U (tf 18 U U (rH 48 ty3 (ac.mono db) U U) (qB [19] U (tf 20 U U (rH 49 ty3 (ac.mono db) U U) (tn 21 U (cw call225 (zp _ _ _ _ c.ba.No c.ba.At ((nthI p.di c.ba.Kind).iK) c.at_ c.ah (hc.Register.dy.mono ay.aG db) hsm.2.2.2.2.2.2) U (λv1 h2 hle1 hp1=>?_))))))))
 obtain⟨rb1,rc1,rfl,sl1⟩:=hp1
 refine⟨⟨hle1,λ_ hp=>List.Sublist.subset (List.nil_sublist _) hp⟩,sK (K2:=[]) hle1 (λ_ hp=>hp) (qR 22 5 U (bW kr (qT 3 U (aH (pG Ee (iY h2 ((da c.Register.dy c.ba.No c.ba.At ((nthI p.di c.ba.Kind).iK) c.at_ c.ah).2)) (by first|exact ni (AZ hco hpr ob)|exact ni (AY hco (gP hd1))|exact ni (Ba hco (gP hd1))) U (qL 7 [] U ?_))))))⟩
 refine lp2 ((da c.Register.dy c.ba.No c.ba.At ((nthI p.di c.ba.Kind).iK) c.at_ c.ah).1) (λi w=>[(0,.func yf ya yb),(1,.pointer (some c_q)),(48,.slice rb1 (((da c.Register.dy c.ba.No c.ba.At ((nthI p.di c.ba.Kind).iK) c.at_ c.ah).1).length) rc1),(49,I ((((da c.Register.dy c.ba.No c.ba.At ((nthI p.di c.ba.Kind).iK) c.at_ c.ah).1).length:Nat):Int)),(50,I (i:Int))]) (λw=>w.2.2) (λw=>w.2.1) (λi w=>C w.1 w.2.2 w.2.1/\xJ h2 w.2.2) (λs1 i w=>w.1++(cR.L1 c (cR.K1)) s1) ([],A,h2) sl1.1.1 hs3 ⟨(m1 _ _ _ _ hle1 hC),lf⟩ ?_ ?_
 .rintro i1 ⟨dn1,A1_,hh1⟩ i7 hs4 ⟨hC1_,hl1⟩ e
  refine dR ?_
  have hs5:cR c p=dn1:=hs4.trans (List.append_nil _)
  exact sj [] (A:=A1_) OP U (List.Sublist.refl _) (.inl (hs5▸hC1_))
 rintro i1 ⟨dn1,A1_,hh1⟩ y1 rz1 hd1 gg dL i5 mF hs6 ⟨hC1_,hl1⟩ hx1 ag1 e
 refine sr (tO gg U (qO 8 U (aH (iF ay.cells zz ty67 (sl1.mono ay.aG hl1).1 dL U U U (λq3 A3=>eJ ty67 A3 U U (bJ zc67 (λb2=>bG 0 ty67 U U U U U U (jf (L':=[(b2,O (ay.cells y1) 67)]++(A1_)) U (qL 5 [] U (eE ty22 (ac.mono ((db.t hle1).t hl1)) U (qL 5 [0,0] U (lM (j:=48) ty3 (ac.mono ((db.t hle1).t hl1)) U U (qL 1 [] U (lM (j:=49) ty3 (ac.mono ((db.t hle1).t hl1)) U U (aX call125 (xk _ _ _ _ y1.ep y1.For c.at_ c.ah (hc.Register.dD.mono aK.aG ((db.t hle1).t hl1))) U (qO 13 U (aH (pG Ee (iY hh1 ((eO c.Register.dD y1.ep y1.For c.at_ c.ah).2.2.2)) (by first|exact ni (AZ hco hpr ob)|exact ni (AY hco (gP hd1))|exact ni (Ba hco (gP hd1))) U (qL 5 [] U (lM (j:=1) ty23 (ac.mono ((db.t hle1).t hl1)) U U (qL 8 [0,0,0] U (lM (j:=9) ty3 (ac.mono ((db.t hle1).t hl1)) U U (qL 2 [] U (lM (j:=10) ty3 (ac.mono ((db.t hle1).t hl1)) U U (qL 1 [] U (lM (j:=48) ty3 (ac.mono ((db.t hle1).t hl1)) U U (qL 1 [] U (lM (j:=49) ty3 (ac.mono ((db.t hle1).t hl1)) U U (aH (cw call226 (D0 _ _ _ _ y1.For y1.By y1.ep c.ba.Kind c.ba.Value c.at_ c.ah (hc.Register.fR.mono bz.aG ((db.t hle1).t hl1)) hsm.2.2.1) U (λv3 h4 hle3 hp3=>?_)))))))))))))))))))))))))))))))
 obtain⟨rb3,rc3,rfl,sl3⟩:=hp3
 refine qO 11 U (aH (pG Ee (iY h4 ((aS c.Register.fR y1.For y1.By y1.ep c.ba.Kind c.ba.Value c.at_ c.ah).2.2)) (by first|exact ni (AZ hco hpr ob)|exact ni (AY hco (gP hd1))|exact ni (Ba hco (gP hd1))) U (qO 5 U (jO 2 [100,101,102] 100 102 ((aS c.Register.fR y1.For y1.By y1.ep c.ba.Kind c.ba.Value c.at_ c.ah).2.1) U (λc2 hk1=>?_) (λe=>?_)))))
 .exact bD (mU U (hk1 _ U))
 refine bD (jO 6 [103,104,105,106,107,108,109] 103 109 (!(j0 c y1.For)) U (λc3 hk2=>?_) (λe=>?_))
 .exact eJ ty96 (ac.mono (((db.t hle1).t hl1).t hle3)) U U (qL 2 [0] U (aX call227 (rQ _ _ _ y1.For (hc.mono (((db.t hle1).t hl1).t hle3)) hsm ob (by first|exact Ko hco (gP hd1)|exact Nv hco (gP hd1))) U (qO 2 U (hk2 _ U))))
 refine bD (jO 6 [110,111,112,113,114,115,116] 110 116 (!(j0 c y1.By)) U (λc4 hk3=>?_) (λe=>?_))
 .exact eJ ty96 (ac.mono (((db.t hle1).t hl1).t hle3)) U U (qL 2 [0] U (aX call227 (rQ _ _ _ y1.By (hc.mono (((db.t hle1).t hl1).t hle3)) hsm ob (by first|exact Ko hco (gP hd1)|exact Nv hco (gP hd1))) U (qO 2 U (hk3 _ U))))
 refine bD (uJ 117 U (λc5=>?_) (λc5=>?_))
 .have hs7:=hs6.trans (congrArg (dn1++·) (bt c5))
  refine bD (du 0 ty67 U U U ?_)
  have hx1:cR c p=dn1++(y1::(cR.L1 c (cR.K1) rz1)):=hs7
  refine aH (me ([(b2,O (ay.cells y1) 67)]) A1_ ap (hy dn1 y1 _ _ _ _ hx1 ((hle1.t hl1).t hle3) (m1 _ _ _ _ hle3 hC1_) U) U U (λh5 A4 hle4 hC1=>?_) (λh6 A5 hle5 hS1=>?_) (λch1 h7 A6 hle6 hP1 e=>iN (oz [] (A:=A6) OP (List.sublist_append_right _ _) hP1)))
  .have hs8:cR c p=(dn1++[y1])++((cR.L1 c (cR.K1) rz1)):=hx1.trans ap
   exact nv U (qO 6 U (oi i1 U (qO 2 U (cm (L':=A4) js (ag1 ((dn1++[y1]),A4,h5) hs8 ⟨hC1,((hl1.t hle3).t hle4)⟩)))))
  exact nv U (qO 3 U (dR (nU [] (A:=A5) OP U js (.inr hS1))))
 have hs9:=hs6.trans (congrArg (dn1++·) (bf c5))
 exact kq (qO 8 U (oi i1 U (qO 2 U (cm (L':=A1_) js (ag1 (dn1,A1_,h4) hs9 ⟨(m1 _ _ _ _ hle3 hC1_),(hl1.t hle3)⟩)))))
end
section
open Go.Proofs Go.Proofs.Tryz Go.RowKit
theorem Jl{out:List Int}{x:Int}:(compStep out x).getLast? = some x:=by
 unfold compStep
 split
 .assumption
 .simp
theorem IC(xs:List Int):∀k,k<=xs.length->Lib.compactUpTo xs.toArray k=compI (xs.take k)/\(0<k->(compI (xs.take k)).getLast? = xs[k-1]?)
 |0,_=>⟨by simp[Lib.compactUpTo,compI],λh=>absurd h (Nat.lt_irrefl _)⟩
 |k+1,hk=>by
  obtain⟨h1,h2⟩:=IC xs k (by omega)
  have hx:xs[k]? = some xs[k]:=List.getElem?_eq_getElem (by omega)
  have ht:xs.take (k+1)=xs.take k++[xs[k]]:=by rw[List.take_add_one,hx];rfl
  have hc:compI (xs.take (k+1))=compStep (compI (xs.take k)) xs[k]:=by unfold compI;rw[ht,List.foldl_append];rfl
  refine⟨?_,λ_=>by rw[hc,Jl,Nat.add_sub_cancel,hx]⟩
  rw[Lib.compactUpTo_succ,h1,hc]
  have hd:xs.toArray[k]! = xs[k]:=by simp[getElem!_pos,show k<xs.length by omega]
  rcases Nat.eq_zero_or_pos k with rfl|hk0
  .simp[Lib.keeps,compI,compStep,hd]
  .have hl:=h2 hk0
   have hd1:xs.toArray[k-1]! = xs[k-1]:=by simp[getElem!_pos,show k-1<xs.length by omega]
   have hx1:xs[k-1]? = some xs[k-1]:=List.getElem?_eq_getElem (by omega)
   unfold compStep
   rw[hl,hx1,hd]
   by_cases he:xs[k-1]=xs[k]
   .have:Lib.keeps xs.toArray k=false:=Lib.keeps_neg hk0 (by rw[hd,hd1,he])
    simp[this,he]
   .have:Lib.keeps xs.toArray k=true:=Lib.keeps_pos (by rw[hd,hd1];exact λe=>he e.symm)
    simp[this,he]
theorem OE(xs:List Int):Lib.compact xs=compI xs:=by
 have:=(IC xs xs.length (vE _)).1
 rw[List.take_length]at this
 exact this
theorem Ny(xs:List Int):(compI xs).length<=xs.length:=by
 have:∀(l acc:List Int),(l.foldl compStep acc).length<=acc.length+l.length:=by
  intro l
  induction l with
  |nil=>intro acc;exact vE _
  |cons y l ih=>
   grind [compStep,zA]
 have h3:=this xs []
 simpa[compI]using h3
theorem oy(h:HF)(xs:List Int)(b:Option Addr)(c:Nat)(G:LH)(hG:cN jB 3 h xs b c G):
  pC prog 95 [.slice b xs.length c].toArray h G (λr h' G'=>h'=h/\r=.returned (.slice b (slices_Compact_int xs).length c)/\cN jB 3 h (slices_Compact_int xs) b c G'):=by
 intro w hp
 rcases hG with⟨rfl,rfl,rfl,rfl⟩|⟨bk,cl,sp,rfl,hcl,hlen,hcap,hmax,rfl⟩
 .refine(j5 (Tryz.slices_Compact_int_empty none 0 w) (λw' hw=>by cases hw.1)).mono ?_
  rintro e w' ⟨rfl,rfl⟩
  exact⟨h,[],Ww hp,rfl,rfl,cN.nil⟩
 .have hb:=hp.own _ (xC.2 rfl)
  simp only at hb
  have hcl':cl=xs.map (qC .i64):=by
   clear hlen hb hp hcap hmax
   induction xs generalizing cl with
   |nil=>exact hcl
   |cons y l ih=>
    obtain⟨cs,r,rfl,_,hr,hl⟩:=hcl
    have:cs=[.int .i64 y]:=hr
    rw[this,ih r hl];rfl
  subst hcl'
  have hH:Sort.Holds (qC .i64) w bk 0 xs.toArray:=by
   refine holds_of_blockI (cur:=(xs.map (qC .i64)++sp).toArray) (e:=3) hb ?_
   simp
  refine(j5 (Tryz.slices_Compact_int bk 0 c xs w hH hmax hcap) (λw' hw=>by cases hw.1)).mono ?_
  rw[OE]
  have db:=Ny xs
  rintro e w' ⟨rfl,n,rfl⟩
  let ys:List Int:=compI xs++List.replicate (xs.length-(compI xs).length) 0
  have hys:ys.length=xs.length:=by simp[ys];omega
  obtain⟨g1,g2,g3,g4,g5⟩:=grownBy_sortedI (w:=w) (g:=bk) (n:=n) (os:=#[]) ys.toArray
  have hnew:=heap_sortedI (w:=w) (g:=bk) (n:=n) (os:=#[]) ys.toArray hb
  have htake:=take_putCellsI (xs.map (qC .i64)++sp).toArray ys (by rw[hys];simp)
  have hgr:∀W:World,Go.Sort.grow W #[]=W:=λW=>by simp[Go.Sort.grow]
  rw[hgr]at g1 g2 g3 g4 g5 hnew
  refine⟨h,[(bk,.cells (Sort.putCells (qC .i64) 0 ys.toArray (xs.map (qC .i64)++sp).toArray) 3 (0,0))],⟨g1,g2,g3,g4,λk hk hM=>g5 k hk (λe=>hM (by cases e;simp)),λ_ _ e=>e,λ_ _=>rfl,λk o e=>?_,λq hq=>?_,?_,?_,?_⟩,rfl,rfl,?_⟩
  .have hne:k≠bk:=λe'=>by
    have:=hp.free _ (xC.2 rfl)
    simp only at this
    rw[e',this]at e;cases e
   exact(g5 k (ij (hp.imm k o e)) (λe'=>by cases e';exact hne rfl)).trans (hp.imm k o e)
  .rw[xC.1 hq];exact hnew
  .simp
  .intro q hq;rw[xC.1 hq];exact hp.free (bk,jG (xs.map (qC .i64)++sp).toArray 3 (0,0)) (xC.2 rfl)
  .intro q hq;rw[xC.1 hq];exact .inr (by simp)
  .have hcells:∀l:List Int,cY jB h (l.map (qC .i64)) l:=by
    intro l
    induction l with
    |nil=>rfl
    |cons y l ih=>exact⟨[.int .i64 y],l.map (qC .i64),rfl,rfl,rfl,ih⟩
   have hg:cN jB 3 h ys (some ⟨bk,0,none⟩) c [(bk,.cells (Sort.putCells (qC .i64) 0 ys.toArray (xs.map (qC .i64)++sp).toArray) 3 (0,0))]:=by
    refine .inr ⟨bk,ys.map (qC .i64),(Sort.putCells (qC .i64) 0 ys.toArray (xs.map (qC .i64)++sp).toArray).toList.drop ys.length,rfl,hcells _,?_,by rw[hys];exact hcap,by rw[hys];exact hmax,?_⟩
    .rw[←htake,List.take_append_drop]
     simpa[Sort.putCells]using hlen
    .rw[←htake,List.take_append_drop]
   have:=hg.take (compI xs).length
   rwa [show ys.take (compI xs).length=compI xs from by simp[ys]]at this
end
end Go.Sg

namespace Go.Proofs
open Go.Shelf Go.RowKit Go.Lib Go.Sort
set_option maxHeartbeats 1000000 in
theorem Tryz.closure178(x y:Go.Sg.OSeat)(W:World):Calls Tryz.prog 269 #[.agg (Go.Sg.OSeat.cells x).toArray,.agg (Go.Sg.OSeat.cells y).toArray] W λe w'=>e=.returned (.int .i64 (Lib.compareInt x.bS y.bS))/\∃q os',w'=grow (W.drewN q) os':=by
 have hcon:=λW'=>Tryz.cmp_Compare_int x.bS y.bS W'
 generalize Lib.compareInt x.bS y.bS=r at hcon ⊢
 unfold Go.Sg.OSeat.cells
 go_enter Tryz.func269,Tryz.ntmps269
 go_wp2_with (go_at_call 48;refine(hcon _).mono ?_;rintro e w' ⟨rfl,rfl⟩)
 go_ret
 exact⟨rfl,0,_,by rw[alloc_eq_grow,alloc_eq_grow,grow_grow];rfl⟩
theorem Tryz.ltSeat(x y:Go.Sg.OSeat):ltOf (λx y:Go.Sg.OSeat=>Lib.compareInt x.bS y.bS) x y=decide (x.bS<y.bS):=by grind [ltOf,Lib.compareInt]
theorem Tryz.swoSeat:SWO (ltOf λx y:Go.Sg.OSeat=>Lib.compareInt x.bS y.bS) where
 irrefl x:=by rw[Tryz.ltSeat];simp
 trans x y z h1 h2:=by rw[Tryz.ltSeat]at *;simp at *;omega
 ntrans x y z h1 h2:=by rw[Tryz.ltSeat]at *;simp at *;omega
end Go.Proofs
namespace Go.Sg
variable {n:Nat}{os:Array Obj}{w:World}
section
open Go.Proofs Go.Proofs.Tryz Go.RowKit Go.Sort
theorem EV{h:HF}:∀{cl:List Value}{xs:List OSeat},cY WM h cl xs->cl=xs.flatMap kE
 |_,[],hc=>hc
 |_,x::xs,⟨cs,rest,e,_,hr,hc⟩=>by
  have:cs=kE x:=hr
  rw[e,this,EV hc];rfl
theorem Fv(h:HF):∀xs:List OSeat,cY WM h (xs.flatMap kE) xs
 |[]=>rfl
 |x::xs=>⟨kE x,xs.flatMap kE,rfl,rfl,rfl,Fv h xs⟩
theorem JK:∀(xs:List OSeat)(j:Nat),j<xs.length*2->(xs.flatMap kE)[j]? = some ((kE (xs.getD (j/2) default)).getD (j%2) undef)
 |[],j,hj=>by simp at hj
 |x::xs,0,_=>by simp[kE]
 |x::xs,1,_=>by simp[kE]
 |x::xs,j+2,hj=>by
  have ih:=JK xs j (by simp at hj;omega)
  grind [kE,zA,zB]
theorem uv(xs:List OSeat):(xs.flatMap kE).length=xs.length*2:=by
 induction xs with
 |nil=>rfl
 |cons x xs ih=>rw[List.flatMap_cons,vA,ih];simp[kE];omega
theorem Ip(xs:List OSeat):(flatK kE 2 xs.toArray).toList=xs.flatMap kE:=by
 apply WI
 intro j
 rcases xM j (xs.length*2)with hj|hj
 .rw[JK xs j hj]
  have h1:=get_flatK kE 2 xs.toArray j (by simpa using hj)
  have h2:j<(flatK kE 2 xs.toArray).size:=by rw[size_flatK];simpa using hj
  grind [List.getD,kE]
 .rw[List.getElem?_eq_none (by rw[Array.length_toList,size_flatK];simpa using hj),List.getElem?_eq_none (by rw[uv];exact hj)]
theorem MC(F cur:Array Value)(h:F.size<=cur.size):(putCells id 0 F cur).toList=F.toList++cur.toList.drop F.size:=by
 apply WI
 grind [putCells]
theorem Sj{g:Nat}{cur:Array Value}{e:TypeId}{fr:Nat×Nat}(d:Array Value)(hb:w.heap[g]? = some (.cells cur e fr)):
  (grow (putRow id (Sort.ahead w n) g 0 d) os).heap[g]? = some (.cells (putCells id 0 d cur) e fr):=by
 have hg:g<w.heap.size:=(Array.getElem?_eq_some_iff.1 hb).1
 rw[heap_grow_old _ _ (by simpa using hg)]
 grind [putRow,mapBlock,Sort.ahead,onCells]
theorem QA{g:Nat}(d:Array Value):(grow (putRow id (Sort.ahead w n) g 0 d) os).os=w.os/\(grow (putRow id (Sort.ahead w n) g 0 d) os).tape=w.tape/\(grow (putRow id (Sort.ahead w n) g 0 d) os).output=w.output /\
  w.heap.size<=(grow (putRow id (Sort.ahead w n) g 0 d) os).heap.size/\∀k,k<w.heap.size->k≠g->(grow (putRow id (Sort.ahead w n) g 0 d) os).heap[k]? = w.heap[k]?:=by
 refine⟨rfl,rfl,rfl,by simp[putRow,mapBlock,Sort.ahead],λk hk hne=>?_⟩
 rw[heap_grow_old _ _ (by simpa using hk)]
 grind [putRow,mapBlock,Sort.ahead]
theorem w8(h:HF)(xs:List OSeat)(b:Option Addr)(c:Nat)(G:LH)(hG:cN WM 252 h xs b c G)(hsz:xs.length<=1000000000000):
  pC prog 304 [.slice b xs.length c,.func (.func 269) #[] #[]].toArray h G (λr h' G'=>h'=h/\r=.returned (.tuple #[])/\∃ys,ys.Perm xs/\ys.Pairwise (λx y=>x.bS<=y.bS)/\cN WM 252 h ys b c G'):=by
 intro w hp
 rcases hG with⟨rfl,rfl,rfl,rfl⟩|⟨bk,cl,sp,rfl,hcl,hlen,hcap,hmax,rfl⟩
 .refine(j5 (AnyF.slices_SortFunc_none Tryz.sortSeat none 0 (.func (.func 269) #[] #[]) w) (λw' hw=>by cases hw.1)).mono ?_
  rintro e w' ⟨rfl,rfl⟩
  exact⟨h,[],Ww hp,rfl,rfl,[],List.Perm.refl _,List.Pairwise.nil,cN.nil⟩
 .have hb:=hp.own _ (xC.2 rfl)
  simp only at hb
  have hcl':=EV hcl
  subst hcl'
  have hfl:=Ip xs
  have hH:HoldsK kE 2 w bk 0 xs.toArray:=by
   intro j hj
   rw[size_flatK]at hj
   have hj':j<xs.length*2:=by simpa using hj
   refine⟨?_,by simp[World.frozen?,hb]⟩
   have h2:j<(flatK kE 2 xs.toArray).size:=by rw[size_flatK];exact hj
   have h3:(flatK kE 2 xs.toArray).toList[j]? = some (flatK kE 2 xs.toArray)[j]!:=by
    rw[Array.getElem?_toList,Array.getElem?_eq_getElem h2,getElem!_pos _ j h2]
   rw[hfl]at h3
   have h4:(xs.flatMap kE++sp)[j]? = some (flatK kE 2 xs.toArray)[j]!:=by
    rw[List.getElem?_append_left (by rw[uv];exact hj')];exact h3
   simp only[WE,hb,Nat.zero_add]
   simpa using h4
  have eg:∀args w,(callFunc 269 args).run prog w=.ok (.enter 269 args) w:=call269
  have hcall:=AnyQ.slices_SortFunc Tryz.sortSeat 2 Tryz.isAgg252 Tryz.sizeOf252 kE (λ_=>rfl) (λx v hv=>by simp[kE]at hv;rcases hv with rfl|rfl<;>rfl)
   (λx y=>Lib.compareInt x.bS y.bS) Tryz.swoSeat 269 #[] bk 0 c xs.toArray w eg (λ_ _ _ _ x y=>Tryz.closure178 x y _) hH (ij hb) (by simp;omega)
  change Calls prog 304 _ _ _ at hcall
  rw[List.size_toArray]at hcall
  refine(j5 hcall (λw' hw=>by cases hw.1)).mono ?_
  rintro e w' ⟨rfl,d',n,os,⟨hds,_,hperm⟩,hsorted,rfl⟩
  have hds':d'.size=xs.length:=by simpa using hds
  have hF:(flatK kE 2 d').toList=d'.toList.flatMap kE:=by have:=Ip d'.toList;simpa using this
  have hFs:(flatK kE 2 d').size=xs.length*2:=by rw[size_flatK,hds']
  obtain⟨g1,g2,g3,g4,g5⟩:=QA (w:=w) (g:=bk) (n:=n) (os:=os) (flatK kE 2 d')
  have hnew:=Sj (w:=w) (g:=bk) (n:=n) (os:=os) (flatK kE 2 d') hb
  have hcur:(putCells id 0 (flatK kE 2 d') (xs.flatMap kE++sp).toArray).toList=d'.toList.flatMap kE++sp:=by
   rw[MC _ _ (by rw[hFs,←uv];simp),hF,hFs]
   congr 1
   rw[←uv]
   exact List.drop_left' rfl
  have hcur':putCells id 0 (flatK kE 2 d') (xs.flatMap kE++sp).toArray=(d'.toList.flatMap kE++sp).toArray:=by rw[←hcur]
  rw[hcur']at hnew
  have hperm':d'.toList.Perm xs:=by
   have e1:d'.extract 0 xs.length=d':=by rw[←hds'];simp
   have e2:xs.toArray.extract 0 xs.length=xs.toArray:=by simp
   rw[e1,e2]at hperm;exact hperm
  refine⟨h,[(bk,.cells (d'.toList.flatMap kE++sp).toArray 252 (0,0))],⟨g1,g2,g3,g4,λk hk hM=>g5 k hk (λe=>hM (by subst e;simp)),λ_ _ e=>e,λ_ _=>rfl,λk o e=>?_,λq hq=>?_,?_,?_,?_⟩,rfl,rfl,d'.toList,hperm',?_,?_⟩
  .have hne:k≠bk:=λe'=>by
    have:=hp.free _ (xC.2 rfl)
    simp only at this
    rw[e',this]at e;cases e
   exact(g5 k (ij (hp.imm k o e)) hne).trans (hp.imm k o e)
  .rw[xC.1 hq];exact hnew
  .simp
  .intro q hq;rw[xC.1 hq];exact hp.free (bk,jG (xs.flatMap kE++sp).toArray 252 (0,0)) (xC.2 rfl)
  .intro q hq;rw[xC.1 hq];exact .inr (by simp)
  .rw[List.pairwise_iff_getElem]
   intro i j hi hj hij
   have hj':j<d'.size:=by simpa using hj
   have hi':i<d'.size:=by simpa using hi
   have:=hsorted i j (xH _) hij (by omega)
   rw[Tryz.ltSeat,getElem!_pos _ j hj',getElem!_pos _ i hi']at this
   simp only[Array.getElem_toList]
   simpa using this
  .refine .inr ⟨bk,d'.toList.flatMap kE,sp,rfl,Fv h _,?_,?_,?_,rfl⟩
   .rw[vA,uv,hperm'.length_eq,←uv,←vA];exact hlen
   .rw[hperm'.length_eq];exact hcap
   .rw[hperm'.length_eq];exact hmax
theorem wA(h:HF)(it:Value)(ks:List OSeat)(hit:IL prog it (λ(k:OSeat)(_:HF)(vs:List Value)=>vs=[jT k]) (λxs=>xs.Perm ks) h)(hk:ks.length<=1000000000000):
  j4 prog 270 [it,.func (.func 269) #[] #[]] h (λv h'=>∃(b:Option Addr)(c:Nat)(ys:List OSeat),ys.Perm ks/\ys.Pairwise (λx y=>x.bS<=y.bS)/\v=.slice b ys.length c/\SlC WM h' b c ys):=by
 refine cV func270 rfl ntmps270 rfl λX hM hX=>?_
 refine el (bM (ig (bp (el (bM (bD ?_))))))
 refine aH (Dg call303 (IP h it _ hit (λxs hx=>by rw[hx.length_eq];exact hk)) rfl (λh' xs bb c G db hxs hG=>?_))
 refine ig (bp (el (bM (bD (bD ?_)))))
 refine aH (m6 [] G [] call304 (w8 h' xs bb c G hG (by rw[hxs.length_eq];exact hk)) (by simp) rfl (λG' hG'=>?_))
 obtain⟨ys,hp,hs,hG'⟩:=hG'
 refine bp (el (bM (bD (ig (bp ?_)))))
 refine fF OSeat.aG [] G' [] (by simp) hM hG' (λh2 hle2 sl=>?_)
 exact lJ [.slice bb xs.length c] func270 rfl ⟨rfl,trivial⟩ ⟨bb,c,ys,hp.trans hxs,hs,by rw[hp.length_eq];rfl,sl⟩
end
section
open Go.Proofs Go.Proofs.Tryz
set_option maxHeartbeats 2000000
theorem BI(h c pK p i8)(hc:bU.ok h c pK)(hp:aw.ok h p i8)(hsm:smR c.Register)(hco:jo c)(hpr:p.di.length=p.dQ.length/\∀y∈p.di,0<=y.iK/\y.iK<=1099511627775):j4 prog 161 [.agg (bU.cells c pK).toArray,.agg (aw.cells p i8).toArray] h (λv h'=>∃(rv0:Value),v=rv0/\Itr prog rv0 ri (gN c p) h'):=by
 refine sT func161 U ntmps161 U λX hM hX hF=>?_
 have hs0:=@rfl _ (gN c p)
 refine sr (eL (λb1=>eL (λb2=>qO 4 U (cv 1 U hM (λh1 hle1 hb1=>cv 0 U hM (λh2 hle2 hb2=>aH (gB U U (an ?_))))))))
 have hs1:gN c p=(cR c p):=hs0
 exact nretH [.func (.func 224) #[] #[Q b1,Q b2]] (hs1▸⟨(.func (.func 224) #[] #[Q b1,Q b2]),U,(zh h2 c pK ⟨b1,0,none⟩ p i8 ⟨b2,0,none⟩ (hc.mono (hle1.t hle2)) ((dM hb1).mono hle2) (hp.mono (hle1.t hle2)) (dM hb2) ob ob ob)⟩)
theorem rP(h c pK p i8)(hc:bU.ok h c pK)(hp:aw.ok h p i8)(hsm:smR c.Register)(hco:jo c)(hpr:p.di.length=p.dQ.length/\∀y∈p.di,0<=y.iK/\y.iK<=1099511627775):j4 prog 92 [.agg (bU.cells c pK).toArray,.agg (aw.cells p i8).toArray] h (λv h'=>∃(rb0:Option Addr)(rc0:Nat),v=.slice rb0 (de c p).length rc0/\SlC jB h' rb0 rc0 (de c p)):=by
 refine cV func92 U ntmps92 U λX hM hX=>?_
 have hs0:=@rfl _ (de c p)
 refine sr (eL (λb1=>eL (λb2=>bJ zc31 (λb3=>qO 4 U (du 2 ty96 U U U (du 1 ty61 U U U (aH (cw call161 (BI _ _ _ _ _ hc hp ob ob ob) U (λv1 h1 hle1 hp1=>?_)))))))))
 obtain⟨_,rfl,mo1⟩:=hp1
 refine qO 2 U (dR ?_)
 let z1:Nat×Obj:=(b2,O (aw.cells p i8) 61)
 let z2:Nat×Obj:=(b1,O (bU.cells c pK) 96)
 refine bY (L':=([(b3,O [zSN] 31),z1,z2])++markB []) ap ?_
 refine j7 (it:=v1) (xs:=(gN c p)) (ι:=(List Int)×Option Addr×Nat×LH×HF) [] (λi=>i.2.2.2.2) (λi=>[(b3,O [.slice i.2.1 i.1.length i.2.2.1] 31),z1,z2]++(i.2.2.2.1)) (λs i=>de c p=((de.L1 (de.K1)) s i.1)/\cN jB 3 i.2.2.2.2 i.1 i.2.1 i.2.2.1 i.2.2.2.1/\xJ h1 i.2.2.2.2/\i.1.length+s.length<=2000000) (λ_=>False) (λ_=>False) 0 (λ_ _ _=>False) ([],none,0,[],h1) func92 U mo1 U sf (λ_ _ _ _ _ hq=>hq) U (show[(b3,O [zSN] 31),z1,z2]=_ from U) ⟨hs0,cN.nil,lf,(by have hc:=Sl hsm p;simpa using hc)⟩ ?_ ?_ ?_ ?_ ?_
 .rintro l1 dm1 lp1 y1 rz1 vs1 ⟨bF,my,mw,mz,hh1⟩ hr1 X hFR1 ⟨hs1,lj,hl1,u1_0⟩ hl01 hlr1 hv1 hX hXM hlp1 nx1 rt1 ex1 pn1
  try dsimp only at lj hl1 u1_0 hlr1
  obtain rfl:=hv1
  simp only[zA]at u1_0
  let z3:Nat×Obj:=(b3,O [.slice my bF.length mw] 31)
  let z6:Nat×Obj:=(dm1,.deferred (some []))
  refine bY (L':=[(l1,.loop lp1),z6,z3,z1,z2]++(mz++(markB []))) ap (bM (bJ zc67 (λb6=>bG 0 ty67 U U U U U U (jf (L':=[(b6,O (ay.cells y1) 67),(l1,.loop lp1),z6,z3,z1,z2]++(mz++(markB []))) U ?_))))
  let z7:Nat×Obj:=(l1,.loop { lp1 with state:=.busy })
  let z8:Nat×Obj:=(b6,O (ay.cells y1) 67)
  refine bp (kg 1 U hlp1 (qK 5 [3,0] U (aH (bT (cells:=[I y1.For]) eM ty3 zc3 U U kr (λb7=>aH (eN W3 ([(b7,O [I y1.For] 3),z8,z7,z6,z3,z1,z2]) (markB []) (λG=>[(b7,O [I y1.For] 3),z8,z7,z6,z3,z1,z2]++(markB []++G)) ap (λ_=>ap) eM ty3 zc3 U bytes3 (lj.mono qJ hlr1) U U (gV 0 U (cE (y1.For) U U)) lo lo (λob2 oc2 G4 gr4=>qI (qi ([(b7,O [I y1.For] 3),z8,z7,z6,z3,z1,z2]) G4 (markB [])) (cU 4 ty31 U U U U U U (qO 2 U ?_)))))))))
  let z9:Nat×Obj:=(b3,O [.slice ob2 ((bF++[y1.For]).length) oc2] 31)
  exact cm (L':=[z7,z6,z9,z1,z2]++(G4++(markB []))) js (bY (L':=rdH l1 dm1 lp1 (([z9,z1,z2]++G4)++markB [])) ap (nx1 ((bF++[y1.For]),ob2,oc2,G4,hr1) _ _ ⟨hs1,gr4,(hl1.t hlr1),(by first|omega|(simp only[vA,zA,zB]at *;omega))⟩ lf))
 .rintro dm1 ⟨bF,my,mw,mz,hh1⟩ hn1 ⟨hs2,lj,hl1,u1_0⟩ hln1 hl01
  try dsimp only at lj hl1 u1_0 hln1
  let z4:Nat×Obj:=(b3,O [.slice my bF.length mw] 31)
  refine bY (L':=[z4,z1,z2]++(mz++(markB (dm1::[])))) ap (qK 4 [0] U (aH (m6 ([z4,z1,z2]) mz (markB (dm1::[])) OT (mJ hn1 bF my mw mz (lj.mono qJ hln1) (by first|assumption|omega|(simp only[vA,zA,zB] ;omega))) ap U (λG5 gr5=>qL 4 [0] U (aH (m6 (v:=.slice my (slices_Compact_int (sortI bF)).length mw) ([z4,z1,z2]) G5 (markB (dm1::[])) call95 (oy hn1 (sortI bF) my mw G5 gr5) ap (by first|rfl|(simp only[iL];rfl)) (λG6 gr6=>jf (L':=[z4,z1,z2]++(G6++(markB (dm1::[])))) ap (cU 0 ty31 U U U U U U (bp ?_)))))))))
  let z5:Nat×Obj:=(b3,O [.slice my ((slices_Compact_int (sortI bF)).length) mw] 31)
  refine fF qJ ([z5,z1,z2]) G6 (markB (dm1::[])) ap hM gr6 (λh3 hle3 sl2=>?_)
  have hs3:de c p=(slices_Compact_int (sortI bF)):=hs2
  exact bY (L':=([z5,z1,z2])++markB (dm1::[])) ap (od (dm1::[]) [.slice my ((slices_Compact_int (sortI bF)).length) mw] func92 U ⟨⟨0,_,_,_,_,U,U,.inr ⟨_,ty31,U⟩⟩,trivial⟩ ⟨my,mw,congrArg (λr:List Int=>(.slice my r.length mw:Value)) hs3.symm,(by rw[hs3];exact sl2)⟩)
 .exact xf
 .exact xf
 exact xf
theorem uL(h)(seq:List cq)(seq_v)(hseq:Itr prog seq_v pV seq h)(hsz:seq.length<=2000000):j4 prog 267 [zSN,seq_v] h (λv h'=>∃(rb0:Option Addr)(rc0:Nat),v=.slice rb0 (cT seq).length rc0/\SlC cq.rp h' rb0 rc0 (cT seq)):=by
 refine cV func267 U ntmps267 U λX hM hX=>?_
 have hs0:=@rfl _ (cT seq)
 refine sr (eL (λb1=>qO 8 U (dR (bY (L':=([(b1,O [zSN] 191)])++markB []) ap ?_))))
 refine j7 (it:=seq_v) (xs:=seq) (ι:=(List cq)×Option Addr×Nat×LH×HF) [] (λi=>i.2.2.2.2) (λi=>[(b1,O [.slice i.2.1 i.1.length i.2.2.1] 191)]++(i.2.2.2.1)) (λs i=>cT seq=((cT.L1 (cT.K1)) s i.1)/\cN cq.rp 268 i.2.2.2.2 i.1 i.2.1 i.2.2.1 i.2.2.2.1/\xJ h i.2.2.2.2/\i.1.length+s.length<=seq.length) (λ_=>False) (λ_=>False) 0 (λ_ _ _=>False) ([],none,0,[],h) func267 U hseq U vf (λ_ _ _ _ _ hq=>hq) U (show[(b1,O [zSN] 191)]=_ from U) ⟨hs0,cN.nil,lf,(by simp)⟩ ?_ ?_ ?_ ?_ ?_
 .rintro l1 dm1 lp1 y1 rz1 vs1 ⟨aZ,iV,iU,ki,hh1⟩ hr1 X hFR1 ⟨hs1,eY,hl1,u1_0⟩ hl01 hlr1 hv1 hX hXM hlp1 nx1 rt1 ex1 pn1
  obtain rfl:=hv1
  simp only[zA]at u1_0
  let z1:Nat×Obj:=(b1,O [.slice iV aZ.length iU] 191)
  let z3:Nat×Obj:=(dm1,.deferred (some []))
  refine bY (L':=[(l1,.loop lp1),z3,z1]++(ki++(markB []))) ap (bM (bJ zc268 (λb4=>bG 0 ty268 U U U U U U (jf (L':=[(b4,O (cq.cells y1) 268),(l1,.loop lp1),z3,z1]++(ki++(markB []))) U ?_))))
  let z4:Nat×Obj:=(l1,.loop { lp1 with state:=.busy })
  let z5:Nat×Obj:=(b4,O (cq.cells y1) 268)
  refine bp (kg 1 U hlp1 (qK 3 [3] U (du 0 ty268 U U U (aH (bT (cells:=[I y1.cZ,I y1.j3]) Ra ty268 zc268 U U kr (λb5=>aH (eN cq.dl ([(b5,O [I y1.cZ,I y1.j3] 268),z5,z4,z3,z1]) (markB []) (λG=>[(b5,O [I y1.cZ,I y1.j3] 268),z5,z4,z3,z1]++(markB []++G)) ap (λ_=>ap) Ra ty268 zc268 U bytes268 (eY.mono cq.aG hlr1) U U (gV 0 U (cE y1 U U)) lo lo (λob2 oc2 G2 gr2=>qI (qi ([(b5,O [I y1.cZ,I y1.j3] 268),z5,z4,z3,z1]) G2 (markB [])) (cU 4 ty191 U U U U U U (qO 2 U ?_))))))))))
  let z6:Nat×Obj:=(b1,O [.slice ob2 ((aZ++[y1]).length) oc2] 191)
  exact cm (L':=[z4,z3,z6]++(G2++(markB []))) js (bY (L':=rdH l1 dm1 lp1 (([z6]++G2)++markB [])) ap (nx1 ((aZ++[y1]),ob2,oc2,G2,hr1) _ _ ⟨hs1,gr2,(hl1.t hlr1),(by simp only[vA,zA,zB]at *;omega)⟩ lf))
 .rintro dm1 ⟨aZ,iV,iU,ki,hh1⟩ hn1 ⟨hs2,eY,hl1,u1_0⟩ hln1 hl01
  let z2:Nat×Obj:=(b1,O [.slice iV aZ.length iU] 191)
  refine bY (L':=[z2]++(ki++(markB (dm1::[])))) ap (qK 6 [0] U (fF cq.aG ([z2]) ki (markB (dm1::[])) ap hM (eY.mono cq.aG hln1) (λh2 hle2 sl2=>?_)))
  have hs3:cT seq=aZ:=hs2
  exact bY (L':=([z2])++markB (dm1::[])) ap (od (dm1::[]) [.slice iV aZ.length iU] func267 U rd ⟨iV,iU,congrArg (λr:List cq=>(.slice iV r.length iU:Value)) hs3.symm,(by rw[hs3];exact sl2)⟩)
 .exact xf
 .exact xf
 exact xf
instance kC267:Ct 267:=⟨_,call267,@uL⟩
theorem wE(h)(seq:List cq)(seq_v)(hseq:Itr prog seq_v pV seq h)(hsz:seq.length<=2000000):j4 prog 201 [seq_v] h (λv h'=>∃(rb0:Option Addr)(rc0:Nat),v=.slice rb0 (iE seq).length rc0/\SlC cq.rp h' rb0 rc0 (iE seq)):=by
 refine sT func201 U ntmps201 U λX hM hX hF=>?_
 generalize hz:(iE seq)=z;have hs:=hz.symm
 exact W
theorem wM(h)(seq:List OSeat)(seq_v)(hseq:Itr prog seq_v Kd seq h)(hsz:seq.length<=2000000):j4 prog 326 [zSN,seq_v] h (λv h'=>∃(rb0:Option Addr)(rc0:Nat),v=.slice rb0 (fp seq).length rc0/\SlC WM h' rb0 rc0 (fp seq)):=by
 refine cV OU U ntmps326 U λX hM hX=>?_
 have hs0:=@rfl _ (fp seq)
 refine sr (eL (λb1=>qO 8 U (dR (bY (L':=([(b1,O [zSN] 306)])++markB []) ap ?_))))
 refine j7 (it:=seq_v) (xs:=seq) (ι:=(List OSeat)×Option Addr×Nat×LH×HF) [] (λi=>i.2.2.2.2) (λi=>[(b1,O [.slice i.2.1 i.1.length i.2.2.1] 306)]++(i.2.2.2.1)) (λs i=>fp seq=((fp.L1 (fp.K1)) s i.1)/\cN WM 252 i.2.2.2.2 i.1 i.2.1 i.2.2.1 i.2.2.2.1/\xJ h i.2.2.2.2/\i.1.length+s.length<=seq.length) (λ_=>False) (λ_=>False) 0 (λ_ _ _=>False) ([],none,0,[],h) OU U hseq U Jg (λ_ _ _ _ _ hq=>hq) U (show[(b1,O [zSN] 306)]=_ from U) ⟨hs0,cN.nil,lf,(by simp)⟩ ?_ ?_ ?_ ?_ ?_
 .rintro l1 dm1 lp1 y1 rz1 vs1 ⟨aZ,iV,iU,ki,hh1⟩ hr1 X hFR1 ⟨hs1,eY,hl1,u1_0⟩ hl01 hlr1 hv1 hX hXM hlp1 nx1 rt1 ex1 pn1
  obtain rfl:=hv1
  simp only[zA]at u1_0
  let z1:Nat×Obj:=(b1,O [.slice iV aZ.length iU] 306)
  let z3:Nat×Obj:=(dm1,.deferred (some []))
  refine bY (L':=[(l1,.loop lp1),z3,z1]++(ki++(markB []))) ap (bM (bJ zc252 (λb4=>bG 0 ty252 U U U U U U (jf (L':=[(b4,O (kE y1) 252),(l1,.loop lp1),z3,z1]++(ki++(markB []))) U ?_))))
  let z4:Nat×Obj:=(l1,.loop { lp1 with state:=.busy })
  let z5:Nat×Obj:=(b4,O (kE y1) 252)
  refine bp (kg 1 U hlp1 (qK 3 [3] U (du 0 ty252 U U U (aH (bT (cells:=[I y1.aV,I y1.bS]) O7 ty252 zc252 U U kr (λb5=>aH (eN OSeat.dl ([(b5,O [I y1.aV,I y1.bS] 252),z5,z4,z3,z1]) (markB []) (λG=>[(b5,O [I y1.aV,I y1.bS] 252),z5,z4,z3,z1]++(markB []++G)) ap (λ_=>ap) O7 ty252 zc252 U bytes252 (eY.mono OSeat.aG hlr1) U U (gV 0 U (cE y1 U U)) lo lo (λob2 oc2 G2 gr2=>qI (qi ([(b5,O [I y1.aV,I y1.bS] 252),z5,z4,z3,z1]) G2 (markB [])) (cU 4 ty306 U U U U U U (qO 2 U ?_))))))))))
  let z6:Nat×Obj:=(b1,O [.slice ob2 ((aZ++[y1]).length) oc2] 306)
  exact cm (L':=[z4,z3,z6]++(G2++(markB []))) js (bY (L':=rdH l1 dm1 lp1 (([z6]++G2)++markB [])) ap (nx1 ((aZ++[y1]),ob2,oc2,G2,hr1) _ _ ⟨hs1,gr2,(hl1.t hlr1),(by simp only[vA,zA,zB]at *;omega)⟩ lf))
 .rintro dm1 ⟨aZ,iV,iU,ki,hh1⟩ hn1 ⟨hs2,eY,hl1,u1_0⟩ hln1 hl01
  let z2:Nat×Obj:=(b1,O [.slice iV aZ.length iU] 306)
  refine bY (L':=[z2]++(ki++(markB (dm1::[])))) ap (qK 6 [0] U (fF OSeat.aG ([z2]) ki (markB (dm1::[])) ap hM (eY.mono OSeat.aG hln1) (λh2 hle2 sl2=>?_)))
  have hs3:fp seq=aZ:=hs2
  exact bY (L':=([z2])++markB (dm1::[])) ap (od (dm1::[]) [.slice iV aZ.length iU] OU U rd ⟨iV,iU,congrArg (λr:List OSeat=>(.slice iV r.length iU:Value)) hs3.symm,(by rw[hs3];exact sl2)⟩)
 .exact xf
 .exact xf
 exact xf
instance kC326:Ct 326:=⟨_,call326,@wM⟩
theorem Ar(h)(m:List (OSeat×aK))(Og m_q aV office_q)(hm:vO jT (km aK.rp) h Og m)(am:At h m_q [.map (some Og)])(aoffice:At h office_q [I aV])(hsz:m.length<=1000000000):Itr prog (.func (.func 268) #[] (xB [.pointer (some m_q),.pointer (some office_q)])) pV (cy m aV) h:=by
 refine si call268 ?_
 intro yf ya yb C Sp Pn h1 A db m1 m2 m3 hC hy
 refine jX Q9 U ntmps268 U λX hXM hX=>?_
 have hs0:cy m aV=[]++cy m aV:=rfl
 refine qT 6 U (eE ty249 (am.mono db) U (aH (cw call271 (AA h1 m Og (hm.mono (km.mono aK.aG) db)) U (λv1 h2 hle1 hp1=>bD (aH (cw call270 (wA h2 v1 (m.map Prod.fst) hp1 (by rw[List.length_map];omega)) U (λv2 h3 hle2 hp2=>?_)))))))
 obtain⟨rb1,rc1,ys_,hper_,hsrt_,rfl,sl1⟩:=hp2
 have VC:cy m aV=[]++((cy.L1 m aV (cy.K1)) ys_):=Jh (by obtain⟨_,_,q⟩:=hm;exact q.nodup) hper_ hsrt_
 refine qL 3 [] U ?_
 refine lp2 ys_ (λi w=>[(0,.func yf ya yb),(1,.pointer (some m_q)),(2,.pointer (some office_q)),(11,.slice rb1 ys_.length rc1),(12,I (ys_.length:Int)),(13,I (i:Int))]) (λw=>w.2.2) (λw=>w.2.1) (λi w=>C w.1 w.2.2 w.2.1/\xJ h3 w.2.2) (λs1 i w=>w.1++(cy.L1 m aV (cy.K1)) s1) ([],A,h3) sl1.1.1 VC ⟨(m1 _ _ _ _ (hle1.t hle2) hC),lf⟩ ?_ ?_
 .rintro i1 ⟨dn1,A1_,hh1⟩ i7 hs1 ⟨hC1_,hl1⟩ e
  refine dR ?_
  have hs2:cy m aV=dn1:=hs1.trans (List.append_nil _)
  exact sj [] (A:=A1_) Q9 U (List.Sublist.refl _) (.inl (hs2▸hC1_))
 rintro i1 ⟨dn1,A1_,hh1⟩ y1 rz1 hd1 gg dL i5 mF hs3 ⟨hC1_,hl1⟩ hx1 ag1 e
 refine sr (tO gg U (qO 8 U (aH (iF kE O7 ty252 (sl1.mono OSeat.aG hl1).1 dL U U U (λq2 A2=>eJ ty252 A2 U U (bJ zc252 (λb3=>bG 0 ty252 U U U U U U (jf (L':=[(b3,O (kE y1) 252)]++(A1_)) U (qO 3 U (eE ty249 (am.mono (((db.t hle1).t hle2).t hl1)) U (du 0 ty252 U U U ?_)))))))))))
 obtain⟨o2,hb2,hm2⟩:=(hm.mono (km.mono aK.aG) (((db.t hle1).t hle2).t hl1))
 refine aH (ph (k:=y1) OW yr hb2 hm2 (eG zv120) (show(km aK.rp) _ (.agg (xB [I 0,I 0,I 0,I 0,I 0,I 0,.bool false])) (aK.mk 0 0 0 0 0 0 false)from⟨_,U,U⟩) U U (λv4 hv2=>?_))
 obtain⟨_,rfl,rfl⟩:=hv2
 refine bJ zc120 (λb4=>bG 0 ty120 U U U U U U (jf (L':=[(b4,O (aK.cells (mgetD m y1 (aK.mk 0 0 0 0 0 0 false))) 120),(b3,O (kE y1) 252)]++(A1_)) U (qL 5 [1] U (eE ty3 (aoffice.mono (((db.t hle1).t hle2).t hl1)) U (qO 2 U (jO 4 [24,25,26,27,28] 24 28 (!((mgetD m y1 (aK.mk 0 0 0 0 0 0 false)).mG)) U (λc1 hk1=>?_) (λe=>?_)))))))
 .exact qL 4 [0] U (hk1 _ U)
 refine bD (uJ 29 U (λc2=>?_) (λc2=>?_))
 .have hs4:=hs3.trans (congrArg (dn1++·) (bt c2))
  refine qL 5 [0,0] U (aH (gv (cells:=[I ((mgetD m y1 (aK.mk 0 0 0 0 0 0 false)).cZ),I ((mgetD m y1 (aK.mk 0 0 0 0 0 0 false)).j3)]) (places:=[(0,1),(1,1)]) underlying268 zc268 kr kr ?_))
  have hx1:cy m aV=dn1++((cq.mk ((mgetD m y1 (aK.mk 0 0 0 0 0 0 false)).cZ) ((mgetD m y1 (aK.mk 0 0 0 0 0 0 false)).j3))::(cy.L1 m aV (cy.K1) rz1)):=hs4
  refine aH (me ([(b4,O (aK.cells (mgetD m y1 (aK.mk 0 0 0 0 0 0 false))) 120),(b3,O (kE y1) 252)]) A1_ ap (hy dn1 (cq.mk ((mgetD m y1 (aK.mk 0 0 0 0 0 0 false)).cZ) ((mgetD m y1 (aK.mk 0 0 0 0 0 0 false)).j3)) _ _ _ _ hx1 ((hle1.t hle2).t hl1) hC1_ U) U U (λh4 A3 hle3 hC1=>?_) (λh5 A4 hle4 hS1=>?_) (λch1 h6 A5 hle5 hP1 e=>iN (oz [] (A:=A5) Q9 (List.sublist_append_right _ _) hP1)))
  .have hs5:cy m aV=(dn1++[(cq.mk ((mgetD m y1 (aK.mk 0 0 0 0 0 0 false)).cZ) ((mgetD m y1 (aK.mk 0 0 0 0 0 0 false)).j3))])++((cy.L1 m aV (cy.K1) rz1)):=hx1.trans ap
   exact nv U (qO 6 U (oi i1 U (qO 2 U (cm (L':=A3) js (ag1 ((dn1++[(cq.mk ((mgetD m y1 (aK.mk 0 0 0 0 0 0 false)).cZ) ((mgetD m y1 (aK.mk 0 0 0 0 0 0 false)).j3))]),A3,h4) hs5 ⟨hC1,(hl1.t hle3)⟩)))))
  exact nv U (qO 3 U (dR (nU [] (A:=A4) Q9 U js (.inr hS1))))
 have hs6:=hs3.trans (congrArg (dn1++·) (bf c2))
 exact kq (qO 12 U (oi i1 U (qO 2 U (cm (L':=A1_) js (ag1 (dn1,A1_,hh1) hs6 ⟨hC1_,hl1⟩)))))
end
section
open Go.Proofs Go.Proofs.Tryz
theorem LJ(h:HF)(x:cq)(s:Int)(bk:Nat):pC prog 307 [.agg (cq.cells x).toArray,.pointer (some ⟨bk,0,none⟩)].toArray h [(bk,jG (xB [.int .i64 s]) 3 (0,0))]
  (λr h' B=>r=.returned (.tuple #[])/\h'=h/\B=[(bk,jG (xB [.int .i64 (vB .i64 (s+x.j3))]) 3 (0,0))]):=by
 refine cV func307 rfl ntmps307 rfl λX hM hX=>?_
 refine el (bM (eL (λb2=>bp (bM (pk 1 ty3 rfl rfl rfl (lA SE rfl (pk 0 ty3 rfl rfl rfl (Hv rfl (cU 1 ty3 rfl rfl rfl rfl rfl rfl (bp ?_))))))))))
 exact zU func307 (λa _ w _=>nr rfl a w) (λw hw=>hw.sub (List.sublist_cons_self _ _)) ⟨rfl,rfl,rfl⟩
end
section
open Go.Proofs Go.Proofs.Tryz
set_option maxHeartbeats 2000000
theorem Cw(h)(m:List (OSeat×aK))(Og aV)(hm:vO jT (km aK.rp) h Og m)(hsz:m.length<=1000000000):j4 prog 202 [.map (some Og),I aV] h (λv h'=>∃(rv0:Value),v=rv0/\Itr prog rv0 pV (kz m aV) h'):=by
 refine sT func202 U ntmps202 U λX hM hX hF=>?_
 have hs0:=@rfl _ (kz m aV)
 refine sr (eL (λb1=>eL (λb2=>qO 4 U (cv 1 U hM (λh1 hle1 hb1=>cv 0 U hM (λh2 hle2 hb2=>aH (gB U U (an ?_))))))))
 have hs1:kz m aV=(cy m aV):=hs0
 exact nretH [.func (.func 268) #[] #[Q b1,Q b2]] (hs1▸⟨(.func (.func 268) #[] #[Q b1,Q b2]),U,(Ar h2 m Og ⟨b1,0,none⟩ aV ⟨b2,0,none⟩ (hm.mono (km.mono aK.aG) (hle1.t hle2)) ((dM hb1).mono hle2) (dM hb2) ob)⟩)
theorem u9(h l fg ff aV bq ah)(hl:SlC aK.rp h fg ff l)(hsz:l.length<=2000000):j4 prog 133 [.slice fg l.length ff,I aV,I bq,I ah] h (λv h'=>∃(rb0:Option Addr)(rc0:Nat),v=.tuple #[.slice rb0 ((eW l aV bq ah).1).length rc0,I ((eW l aV bq ah).2)]/\SlC cq.rp h' rb0 rc0 ((eW l aV bq ah).1)):=by
 refine sT func133 U ntmps133 U λX hM hX hF=>?_
 have hs0:=@rfl _ (eW l aV bq ah)
 refine qT 9 U (aX call72 (sd _ _ _ _ hl) U (qO 7 U (aI hs0 U (λc1 hs1=>?_) (λc1 hs2=>?_))))
 .refine qT 6 U ?_
  have hs3:eW l aV bq ah=([],(dz l)):=hs1
  exact nretH [zSN,I (dz l)] (hs3▸⟨none,0,U,qG⟩)
 refine qT 5 U (aX call186 (pA h aV) U (qO 2 U (gz 4 [18,19,20,21,22] 18 22 (!(fy bq)) U (λc2 hk1=>?_) (λe=>?_))))
 .exact bD (aX O0 (m8 h bq) U (qO 2 U (hk1 _ U)))
 refine bD (gz 4 [23,24,25,26,27] 23 27 (!(fy ah)) U (λc3 hk2=>?_) (λe=>?_))
 .exact bD (aX O0 (m8 h ah) U (qO 2 U (hk2 _ U)))
 refine bp (aI hs2 U (λc4 hs4=>?_) (λc4 hs5=>?_))
 .refine qT 5 U ?_
  have hs6:eW l aV bq ah=([],1):=hs4
  exact nretH [zSN,I 1] (hs6▸⟨none,0,U,qG⟩)
 refine qT 6 U (aH (cw call189 (tP _ _ _ _ bq ah hl) U (λv1 h1 hle1 hp1=>?_)))
 obtain⟨rk1,rfl,mo1⟩:=hp1
 refine bD (aH (cw call202 (Cw h1 (dI l bq ah) rk1 aV mo1 (by have:=yg l bq ah;omega)) U (λv2 h2 hle2 hp2=>?_)))
 obtain⟨_,rfl,mo2⟩:=hp2
 refine aH (cw call201 (wE h2 (kz (dI l bq ah) aV) v2 mo2 (by have h1:=yg l bq ah;have h2:=Ff (dI l bq ah) aV;omega)) U (λv3 h3 hle3 hp3=>?_))
 obtain⟨rb1,rc1,rfl,sl1⟩:=hp3
 refine qO 3 U ?_
 have hs7:eW l aV bq ah=((iE (kz (dI l bq ah) aV)),0):=hs5
 exact nretH [.slice rb1 ((iE (kz (dI l bq ah) aV)).length) rc1,I 0] (hs7▸⟨rb1,rc1,U,sl1⟩)
theorem wj(h lm oa n9)(hwho:SlC jB h oa n9 lm):Ret prog 205 [.slice oa lm.length n9] h (.bool (fd lm)):=by
 refine sT func205 U ntmps205 U λX hM hX hF=>?_
 generalize hz:(fd lm)=z;have hs:=hz.symm
 have HA:=h1 [6,7] 8 (λw=>[(3,I w)]) (λs1 i w=>(fd.L1 (fd.K1)) s1 w)
 exact W
theorem Ep(h)(dh:List (List cq))(mg mf aC)(AK:SlC (Wx cq.rp) h mg mf dh)(hsz0:∀y∈dh,y.length<=2000000):Ret prog 204 [.slice mg dh.length mf,I aC] h (.bool (eU dh aC)):=by
 refine sT func204 U ntmps204 U λX hM hX hF=>?_
 have hs0:=@rfl _ (eU dh aC)
 refine qK 11 [] U ?_
 refine lp2 dh (λi w=>[(0,.slice mg dh.length mf),(1,I aC),(10,.slice mg dh.length mf),(11,I (dh.length:Int)),(12,I (i:Int))]) (λw=>w) (λw=>[]) (λi w=>xJ h w) (λs1 i w=>(eU.L1 (eU.K1 dh aC)) s1) h AK.1.1 hs0 lf ?_ ?_
 .rintro i1 hh1 i7 hs1 hl1 e
  try dsimp only at hl1
  exact qK 8 [] U (nretP [.bool ((dh.length:Int)==aC)] (cs hs1))
 rintro i1 hh1 y1 rz1 hd1 gg dL i5 mF hs3 hl1 hx1 ag1 e
 try dsimp only at hl1
 have hszy:=hsz0 y1 (gP hd1)
 refine sr (tO gg U (qO 8 U (aH (iG LQ ty191 (AK.mono (Rp.Bh cq.aG) hl1).1 dL U U U (λq3 cs2 A3 ln2 rr2=>?_)))))
 obtain⟨rb2,rc2,rfl,sl2⟩:=rr2
 refine eE ty191 A3 U (qL 13 [] U ?_)
 refine lp2 y1 (λi w=>[(0,.slice mg dh.length mf),(1,I aC),(7,.slice w.2.1 w.1.length w.2.2.1),(10,.slice mg dh.length mf),(11,I (dh.length:Int)),(12,I (i1:Int)),(16,.slice rb2 y1.length rc2),(17,I (y1.length:Int)),(18,I (i:Int))]) (λ_=>hh1) (λw=>w.2.2.2) (λi w=>cN jB 3 hh1 w.1 w.2.1 w.2.2.1 w.2.2.2/\w.1.length<=0+i) (λs3 i w=>(eU.L3 (λzg3_7=>(bif(!(fd zg3_7))then false else(eU.L1 (eU.K1 dh aC) rz1)))) s3 w.1) ([],none,0,[]) sl2.1.1 hs3 ⟨cN.nil,lo⟩ ?_ ?_
 .rintro i3 ⟨DH,Vh,Vg,So⟩ CI hs4 ⟨Ng,Sn⟩ e
  try dsimp only at Ng Sn
  refine qT 3 U (pR qJ ([]) So ([]) ap hM Ng (λh1 hle1 sl3=>aX call205 (wj _ _ _ _ sl3) U (qO 2 U (aI hs4 U (λc2 hs5=>?_) (λc2 hs6=>?_)))))
  .exact sr (an (nretP [.bool false] (cs hs5)))
  exact bO (qT 2 U (oi i1 U (qO 2 U (ag1 h1 hs6 (hl1.t hle1)))))
 rintro i3 ⟨DH,Vh,Vg,So⟩ y3 rz3 hd3 Om Sh Nc VF hs8 ⟨Ng,Sn⟩ hx3 ag2 e
 try dsimp only at Ng Sn
 refine sr (tO Om U (qO 8 U (aH (iF cq.cells Ra ty268 sl2.1 Sh U U U (λq5 A5=>eJ ty268 A5 U U (bJ zc268 (λb3=>bG 0 ty268 U U U U U U (jf (L':=[(b3,O (cq.cells y3) 268)]++(So)) U (qL 8 [0] U (gz 4 [25,26,27,28,29] 25 29 (decide (64<y3.j3)) U (λc3 hk1=>?_) (λe=>?_)))))))))))
 .exact qL 4 [0] U (hk1 _ U)
 refine bp (aI hs8 U (λc4 hs9=>?_) (λc4 hs10=>?_))
 .exact sr (an (nretP [.bool false] (cs hs9)))
 exact qK 5 [0] U (aH (bT (cells:=[I y3.cZ]) eM ty3 zc3 U U kr (λb4=>aH (eN W3 ([(b4,O [I y3.cZ] 3),(b3,O (cq.cells y3) 268)]) ([]) (λG=>[(b4,O [I y3.cZ] 3),(b3,O (cq.cells y3) 268)]++G) ap (λ_=>ap) eM ty3 zc3 U bytes3 Ng U U (gV 0 U (cE (y3.cZ) U U)) lo lo (λob1 oc1 G1 gr1=>qO 4 U (oi i3 U (qO 2 U (cm (L':=G1) js (ag2 ((DH++[y3.cZ]),ob1,oc1,G1) hs10 ⟨gr1,lo⟩)))))))))
theorem ul(h q wg q_q)(aV:Int)(office_q)(hq:bB.ok h q wg)(aq:At h q_q (bB.cells q wg))(aoffice:At h office_q [I aV])(hno:0<=aV/\aV<(q.dh.length:Int))(hso:q.lm.Pairwise (·<=·))(hsw:q.lm.length<=2000000):Itr prog (.func (.func 328) #[] (xB [.pointer (some q_q),.pointer (some office_q)])) pV (cM q aV) h:=by
 refine si call328 ?_
 intro yf ya yb C Sp Pn h1 A db m1 m2 m3 hC hy
 refine jX Q8 U ntmps328 U λX hXM hX=>?_
 have hs0:cM q aV=[]++cM q aV:=rfl
 refine qK 3 [] U (lM (j:=1) ty190 (aq.mono db) U U (eE ty3 (aoffice.mono db) U ?_))
 have ho1:0<=(aV:Int)/\(aV:Int)<((q.dh).length:Int):=ob
 refine aH (Mp LQ ty191 (hq.dh.mono (Rp.Bh cq.aG) db).1 ho1 (dC ho1) U U U (λq1 cs1 A1 ln1 rr1=>?_))
 obtain⟨rb1,rc1,rfl,sl1⟩:=rr1
 refine eE ty191 A1 U (qL 3 [] U ?_)
 refine lp2 (nthI q.dh aV) (λi w=>[(0,.func yf ya yb),(1,.pointer (some q_q)),(12,.slice rb1 ((nthI q.dh aV).length) rc1),(13,I ((nthI q.dh aV).length:Int)),(14,I (i:Int))]) (λw=>w.2.2) (λw=>w.2.1) (λi w=>C w.1 w.2.2 w.2.1/\xJ h1 w.2.2) (λs1 i w=>w.1++(cM.L1 q (cM.K1)) s1) ([],A,h1) sl1.1.1 hs0 ⟨hC,lf⟩ ?_ ?_
 .rintro i1 ⟨dn1,A1_,hh1⟩ i7 hs1 ⟨hC1_,hl1⟩ e
  refine dR ?_
  have hs2:cM q aV=dn1:=hs1.trans (List.append_nil _)
  exact sj [] (A:=A1_) Q8 U (List.Sublist.refl _) (.inl (hs2▸hC1_))
 rintro i1 ⟨dn1,A1_,hh1⟩ y1 rz1 hd1 gg dL i5 mF hs3 ⟨hC1_,hl1⟩ hx1 ag1 e
 refine sr (tO gg U (qO 8 U (aH (iF cq.cells Ra ty268 (sl1.mono cq.aG hl1).1 dL U U U (λq3 A6=>eJ ty268 A6 U U (bJ zc268 (λb2=>bG 0 ty268 U U U U U U (jf (L':=[(b2,O (cq.cells y1) 268)]++(A1_)) U (qL 4 [] U (lM (j:=2) ty31 (aq.mono (db.t hl1)) U U (qL 2 [0] U (aX call193 (oO _ _ _ _ y1.cZ (hq.lm.mono qJ (db.t hl1)) ob ob) U (qO 10 U (uJ 27 U (λc2=>?_) (λc2=>?_)))))))))))))))
 .have hs4:=hs3.trans (congrArg (dn1++·) (bt c2))
  refine bD (du 0 ty268 U U U ?_)
  have hx2:cM q aV=dn1++(y1::(cM.L1 q (cM.K1) rz1)):=hs4
  refine aH (me ([(b2,O (cq.cells y1) 268)]) A1_ ap (hy dn1 y1 _ _ _ _ hx2 hl1 hC1_ U) U U (λh5 A7 hle4 hC2=>?_) (λh6 A8 hle5 hS2=>?_) (λch2 h7 A9 hle6 hP2 e=>iN (oz [] (A:=A9) Q8 (List.sublist_append_right _ _) hP2)))
  .have hs5:cM q aV=(dn1++[y1])++((cM.L1 q (cM.K1) rz1)):=hx2.trans ap
   exact nv U (qO 6 U (oi i1 U (qO 2 U (cm (L':=A7) js (ag1 ((dn1++[y1]),A7,h5) hs5 ⟨hC2,(hl1.t hle4)⟩)))))
  exact nv U (qO 3 U (dR (nU [] (A:=A8) Q8 U js (.inr hS2))))
 have hs6:=hs3.trans (congrArg (dn1++·) (bf c2))
 exact kq (qO 8 U (oi i1 U (qO 2 U (cm (L':=A1_) js (ag1 (dn1,A1_,hh1) hs6 ⟨hC1_,hl1⟩)))))
instance kI328:CtI 328:=⟨_,@ul⟩
theorem px(h q wg)(aV:Int)(hq:bB.ok h q wg)(hno:0<=aV/\aV<(q.dh.length:Int))(hso:q.lm.Pairwise (·<=·))(hsw:q.lm.length<=2000000):j4 prog 306 [.agg (bB.cells q wg).toArray,I aV] h (λv h'=>∃(rv0:Value),v=rv0/\Itr prog rv0 pV (j9 q aV) h'):=by
 refine sT func306 U ntmps306 U λX hM hX hF=>?_
 generalize hz:(j9 q aV)=z;have hs:=hz.symm
 exact W
theorem wN(h q wg x gG)(hq:bB.ok h q wg)(hx:aj.ok h x gG)(hno:0<=x.No/\x.No<(q.dh.length:Int))(hso:q.lm.Pairwise (·<=·))(hsw:q.lm.length<=2000000):Ret prog 272 [.agg (bB.cells q wg).toArray,.agg (aj.cells x gG).toArray] h (.bool (eI q x)):=by
 refine cV Q7 U ntmps272 U λX hM hX=>?_
 have hs0:=@rfl _ (eI q x)
 refine sr (eL (λb1=>eL (λb2=>bJ zc4 (λb3=>qO 4 U (du 2 ty275 U U U (qL 2 [1] U (aH (cw call306 (px _ _ _ x.No hq ob ob ob) U (λv1 h1 hle1 hp1=>?_)))))))))
 obtain⟨_,rfl,mo1⟩:=hp1
 refine qO 2 U (dR ?_)
 let z1:Nat×Obj:=(b1,O (bB.cells q wg) 275)
 let z2:Nat×Obj:=(b2,O (aj.cells x gG) 59)
 refine bY (L':=([(b3,O [.bool false] 4),z2,z1])++markB []) ap ?_
 refine j7 (it:=v1) (xs:=(j9 q x.No)) (ι:=Bool×HF) [] (λi=>i.2) (λi=>[(b3,O [.bool i.1] 4),z2,z1]) (λs i=>eI q x=((eI.L1 (eI.K1)) s i.1)/\xJ h1 i.2) (λi=>eI q x=i.1/\xJ h1 i.2) (λ_=>False) 0 (λ_ _ _=>False) (false,h1) Q7 U mo1 U vf (λ_ _ _ _ _ hq=>hq) U (show[(b3,O [.bool false] 4),z2,z1]=_ from U) ⟨hs0,lf⟩ ?_ ?_ ?_ ?_ ?_
 .rintro l1 dm1 lp1 y1 rz1 vs1 ⟨bF,hh1⟩ hr1 X hFR1 ⟨hs1,hl1⟩ hl01 hlr1 hv1 hX hXM hlp1 nx1 rt1 ex1 pn1
  obtain rfl:=hv1
  exact bY (L':=[(l1,.loop lp1),(dm1,.deferred (some [])),(b3,O [.bool bF] 4),z2,z1]++(markB [])) ap (bO (kg 0 U hlp1 (qT 3 U (cU 2 ty4 U U U U U U (bp (bY (L':=rdH l1 dm1 lp1 (([(b3,O [.bool true] 4),z2,z1])++markB [])) ap (rt1 (true,hr1) _ _ _ ⟨hs1,(hl1.t hlr1)⟩ lf)))))))
 .rintro dm1 ⟨bF,hh1⟩ hn1 ⟨hs2,hl1⟩ hln1 hl01
  refine bY (L':=[(b3,O [.bool bF] 4),z2,z1]++(markB (dm1::[]))) ap (qT 3 U (cU 0 ty4 U U U U U U (bp ?_)))
  have hs3:eI q x=false:=hs2
  exact bY (L':=([(b3,O [.bool false] 4),z2,z1])++markB (dm1::[])) ap (uH (dm1::[]) [.bool false] Q7 U hX ⟨⟨0,_,_,_,_,U,U,.inr ⟨_,ty4,U⟩⟩,trivial⟩ (cs hs3))
 .rintro dm1 ⟨bF,hh1⟩ hn1 ⟨hs4,hl1⟩ hln1 hl01
  refine bY (L':=[(b3,O [.bool bF] 4),z2,z1]++(markB (dm1::[]))) ap ?_
  have hs5:eI q x=bF:=hs4
  exact bY (L':=([(b3,O [.bool bF] 4),z2,z1])++markB (dm1::[])) ap (uH (dm1::[]) [.bool bF] Q7 U hX ⟨⟨0,_,_,_,_,U,U,.inr ⟨_,ty4,U⟩⟩,trivial⟩ (cs hs5))
 .exact xf
 exact xf
theorem uY(h q wg x gG)(hq:bB.ok h q wg)(hx:aj.ok h x gG)(hno:0<=x.No/\x.No<(q.dh.length:Int))(hso:q.lm.Pairwise (·<=·))(hsw:q.lm.length<=2000000):Ret prog 273 [.agg (bB.cells q wg).toArray,.agg (aj.cells x gG).toArray] h (.bool (ey q x)):=by
 refine cV func273 U ntmps273 U λX hM hX=>?_
 have hs0:=@rfl _ (ey q x)
 refine sr (eL (λb1=>eL (λb2=>qO 4 U (bJ zc3 (λb3=>cU 0 ty3 U U U U U U (qO 3 U (aH (gB U U (bJ zc345 (λb4=>cU 0 ty345 U U U U U U (qO 4 U (du 3 ty275 U U U (qL 2 [2] U (aH (cw call306 (px _ _ _ x.No hq ob ob ob) U (λv1 h1 hle1 hp1=>?_))))))))))))))))
 obtain⟨_,rfl,mo1⟩:=hp1
 refine qO 2 U (dR ?_)
 let z1:Nat×Obj:=(b4,O [.func (.func 307) #[] #[Q b3]] 345)
 let z2:Nat×Obj:=(b1,O (bB.cells q wg) 275)
 let z3:Nat×Obj:=(b2,O (aj.cells x gG) 59)
 refine bY (L':=([z1,(b3,O [I 0] 3),z3,z2])++markB []) ap ?_
 refine j7 (it:=v1) (xs:=(j9 q x.No)) (ι:=Int×HF) [] (λi=>i.2) (λi=>[z1,(b3,O [I i.1] 3),z3,z2]) (λs i=>ey q x=((ey.L1 (ey.K1 x)) s i.1)/\xJ h1 i.2) (λ_=>False) (λ_=>False) 0 (λ_ _ _=>False) (0,h1) func273 U mo1 U vf (λ_ _ _ _ _ hq=>hq) U (show[z1,(b3,O [I 0] 3),z3,z2]=_ from U) ⟨hs0,lf⟩ ?_ ?_ ?_ ?_ ?_
 .rintro l1 dm1 lp1 y1 rz1 vs1 ⟨bF,hh1⟩ hr1 X hFR1 ⟨hs1,hl1⟩ hl01 hlr1 hv1 hX hXM hlp1 nx1 rt1 ex1 pn1
  obtain rfl:=hv1
  refine bY (L':=[(l1,.loop lp1),(dm1,.deferred (some [])),z1,(b3,O [I bF] 3),z3,z2]++(markB [])) ap (bM (bJ zc268 (λb6=>bG 0 ty268 U U U U U U (bp (kg 1 U hlp1 (qK 3 [3] U (du 0 ty268 U U U (aH (RL 4 (o':=O [I (vB .i64 (bF+y1.j3))] 3) U (np (args:=[.agg (cq.cells y1).toArray]) (cap:=[Q b3]) call307 (LJ hr1 y1 bF b3)) U U (qO 2 U ?_))))))))))
  let z4:Nat×Obj:=(b3,O [I (vB .i64 (bF+y1.j3))] 3)
  exact cm (L':=[(l1,.loop { lp1 with state:=.busy }),(dm1,.deferred (some [])),z1,z4,z3,z2]++(markB [])) js (bY (L':=rdH l1 dm1 lp1 (([z1,z4,z3,z2])++markB [])) ap (nx1 ((vB .i64 (bF+y1.j3)),hr1) _ _ ⟨hs1,(hl1.t hlr1)⟩ lf))
 .rintro dm1 ⟨bF,hh1⟩ hn1 ⟨hs2,hl1⟩ hln1 hl01
  refine bY (L':=[z1,(b3,O [I bF] 3),z3,z2]++(markB (dm1::[]))) ap (qK 9 [1,2] U ?_)
  have hs3:ey q x=decide (x.N<=bF):=hs2
  exact bY (L':=([z1,(b3,O [I bF] 3),z3,z2])++markB (dm1::[])) ap (uH (dm1::[]) [.bool (decide (x.N<=bF))] func273 U hX rd (cs hs3))
 .exact xf
 .exact xf
 exact xf
end
variable {E ty u:TypeId}{G:LH}{P:Program}{X:Cx}{a:Bool}{base:Option Addr}{cap m sz vo:Nat}{h:HF}{kn:IntKind}{x y:Operand}{zs:List Go.Value}{α:Type}{R:Rp α}{xs:List α}
section
section
variable {P:Program} {b:Frame} {n:Nat} {ops:Array Oper} {F:List Frame->(Machine->Prop)->Prop} {e:Env} {ds:List Deferred} {X:Cx} {h:HF} {L:LH} {K:Env->HF->LH->Prop}
variable {d:Option Nat} {ty:TypeId} {pos:String} {af:Array Edge} {g:Option (Nat×Bool)}
theorem JV{t:TypeId}{hi:Operand}{bk n:Nat}(hT:P.underlying t=some (.slice E))(hS:tySz P E=some (sz,a))(hx:e.ev x=.slice (some ⟨bk,0,none⟩) n cap)(hhi:e.ev hi=.int .i64 (m:Nat))(hm:m<=cap):
  ∀w,St X h L w->(execOp e.ev ⟨d,.slice t x none (some hi) none,ty,pos,af,g⟩).run P w=.ok (.value (.slice (some ⟨bk,0,none⟩) m cap)) w:=λw hw=>by
 simp[execOp,Instr.sliceAt,Instr.slice,Instr.sliceBounds,Instr.sliceBound,hx,hhi,asIntOf,run_underlying hT,fL hS,hm,Addr.add]
theorem Pi{t:TypeId}{c:Nat}(hT:P.underlying t=some (.slice E))(hx:e.ev x=.slice base m c):
  ∀w,St X h L w->(execOp e.ev ⟨d,.call ⟨.builtin .cap,#[x],#[t]⟩,ty,pos,af,g⟩).run P w=.ok (.value (.int .i64 (c:Nat))) w:=
 λw _=>by simp[execOp,resolve,invoke,builtin,Builtin.cap_,hx,run_underlying hT,goInt]
theorem KT{s t:TypeId}{S:TypeDesc}{kk k2:IntKind}{m m':Int}(hS:P.underlying s=some S)(hT:P.underlying t=some (.int k2))(hx:e.ev x=.int kk m)(hm:vB k2 m=m'):
  ∀w,St X h L w->(execOp e.ev ⟨d,.convert s t x,ty,pos,af,g⟩).run P w=.ok (.value (.int k2 m')) w:=λw hw=>by
 simp[execOp,convert,run_underlying hS,run_underlying hT,hx,Conv.intToInt,hm]
theorem RR{t:TypeId}(hx:e.ev x=.int .u64 (m:Nat))(hy:e.ev y=.int .u64 1):
  ∀w,St X h L w->(execOp e.ev ⟨d,.binOp .shr t x y u,ty,pos,af,g⟩).run P w=.ok (.value (.int .u64 ((m/2:Nat):Int))) w:=λw hw=>by
 have:min 1 64=1:=rfl
 simp[execOp,hx,hy,eqGuard,binOp,Op.shift,XY,this,Int.fdiv_eq_ediv_of_nonneg]
end
theorem Ms(A Q:LH){t tn:TypeId}{k:Nat}(hw:St X h (A++(G++Q)) w)(hT:P.underlying t=some (.slice E))(hN:P.underlying tn=some (.int kn))(hS:tySz P E=some (R.sz,a))(hz:zeroC P E=some zs)(hzl:zs.length=R.sz)(hpos:0<R.sz)(hby:bytesOf P E=some vo)(hG:cN R E h xs base cap G)(hk:0<k)(hno:cap<xs.length+k)(hb:(xs.length+k)*vo<=140737488355328)(hb2:xs.length+k<=9223372036854775807):
  ∃bk cl sp cap' w',(Builtin.append_ #[t,tn] ty #[.slice base xs.length cap,.int kn k]).run P w=.ok (.slice (some ⟨bk,0,none⟩) (xs.length+k) cap') w'/\cY R h cl xs/\(cl++sp).length=cap'*R.sz/\xs.length+k<=cap' /\
   St X h ((bk,.cells (cl++sp).toArray E (0,0))::(A++(G++Q))) w':=by
 obtain⟨i,hi,hby'⟩:∃i,P.info? E=some i/\i.bytes=vo:=by
  unfold bytesOf at hby
  cases hi:P.info? E with
  |none=>simp[hi]at hby
  |some i=>exact⟨i,rfl,by simpa[hi]using hby⟩
 have hsz:i.size=R.sz:=by
  have:=fL hS w
  simpa[sizeOf,typeInfo,hi]using this
 obtain⟨z,hzz,hzc⟩:∃z,i.zero=some z/\z.cells=zs.toArray:=by
  unfold zeroC at hz
  cases hzz:i.zero with
  |none=>simp[hi,hzz]at hz
  |some z=>exact⟨z,rfl,by simp[hi,hzz]at hz;rw[mB,hz]⟩
 have hwd:St X h (A++(G++Q)) w.drew:=hw.drew _
 obtain⟨cl0,hc0,hf0⟩:∃cl0,cY R h cl0 xs/\(Builtin.firstCells R.sz xs.length (.slice base xs.length cap)).run P w.drew=.ok cl0.toArray w.drew:=by
  rcases hG with⟨rfl,rfl,rfl,rfl⟩|⟨bk,cl0,sp,rfl,hc0,hlen,db,_,rfl⟩
  .exact⟨[],rfl,by simp[Builtin.firstCells]⟩
  .refine⟨cl0,hc0,run_firstCells_some _ _ _ _ _ _ _ hc0.len λj v hj=>?_⟩
   have hown:w.drew.heap[bk]? = some (.cells (cl0++sp).toArray E (0,0)):=hwd.own (bk,_) (by simp)
   have hlt:=(List.getElem?_eq_some_iff.1 hj).1
   rw[oo]
   simp only[WE,hown]
   simp[List.getElem?_append_left hlt,hj]
 have hfit:Builtin.nextslicecap (xs.length+k) cap*i.bytes<=281474976710656:=growslice_fits hno (by rw[hby'];exact hb)
 have h48':¬(281474976710656<Builtin.nextslicecap (xs.length+k) cap*i.bytes):=by omega
 have h63':¬(9223372036854775807<((xs.length:Int)+(k:Int))):=by omega
 have hroom:¬(xs.length+k<=cap):=by omega
 have hge:=grownCap_ge w (xs.length+k) cap E
 have hn:k≠0:=by omega
 have hwr:IntKind.i64.wrap (k:Int)=k:=by rw[IntKind.wrap_i64];omega
 have h48i:¬(281474976710656<(k:Int)*(i.bytes:Int)):=by
  rw[←Int.natCast_mul,hby']
  have:k*vo<=(xs.length+k)*vo:=Nat.mul_le_mul_right _ (by omega)
  omega
 have hneg:¬((k:Int)<0):=by omega
 have hns:¬(k*i.size=0):=Nat.mul_ne_zero hn (by omega)
 let nc:=grownCap w (xs.length+k) cap E
 let rest:=(Builtin.zeroCells z.cells k++Builtin.zeroCells z.cells (nc-(xs.length+k))).toList
 refine⟨w.heap.size,cl0,rest,nc,w.drew.alloc (.cells (cl0++rest).toArray E),?_,hc0,?_,hge,hwd.alloc (.cells (cl0++rest).toArray E (0,0))⟩
 .rw[←hsz]at hf0
  simp[Builtin.append_,run_underlying hT,run_underlying hN,asInt,asIntOf,hwr,hneg,h48i,hns,sizeOf,typeInfo,zeroValue,hi,hzz,hroom,h63',h48',Question.forced,hf0,newRow,grownCap,nc,rest]
  congr 2
  apply qS
  simp
 .have h1:rest.length=k*R.sz+(nc-(xs.length+k))*R.sz:=by
   simp[rest,Builtin.zeroCells,hzc,hzl]
  simp only[vA,h1,hc0.len,←Nat.add_mul]
  congr 1
  omega
section
variable {P:Program} {b:Frame} {n:Nat} {ops:Array Oper} {F:List Frame->(Machine->Prop)->Prop} {e:Env} {ds:List Deferred} {X:Cx} {h:HF} {L:LH} {K:Env->HF->LH->Prop}
variable {d:Option Nat} {ty:TypeId} {pos:String} {af:Array Edge} {g:Option (Nat×Bool)}
theorem JM(A G Q:LH){t tn:TypeId}{s:Operand}{k:Nat}(hL:L=A++(G++Q))(hT:P.underlying t=some (.slice E))(hN:P.underlying tn=some (.int kn))(hS:tySz P E=some (R.sz,a))(hz:zeroC P E=some zs)(hzl:zs.length=R.sz)(hpos:0<R.sz)(hby:bytesOf P E=some vo)(hG:cN R E h xs base cap G)(hx:e.ev s=.slice base m cap)(hm:m=xs.length)(hy:e.ev y=.int kn (k:Nat))(hk:0<k)(hno:cap<xs.length+k)(hb:(xs.length+k)*vo<=140737488355328)(hb2:xs.length+k<=9223372036854775807)(t':∀bk cl sp cap',cY R h cl xs->(cl++sp).length=cap'*R.sz->xs.length+k<=cap'->K (pute e d (.slice (some ⟨bk,0,none⟩) (xs.length+k) cap')) h ((bk,.cells (cl++sp).toArray E (0,0))::L))(hgd:guardB ops e ⟨d,.call ⟨.builtin .append,#[s,y],#[t,tn]⟩,ty,pos,af,g⟩=true:=by rfl):Stp P b n ops F ds X ⟨d,.call ⟨.builtin .append,#[s,y],#[t,tn]⟩,ty,pos,af,g⟩ e h L K:=
 iB hgd λw hw=>by
  subst hL hm
  obtain⟨bk,cl,sp,cap',w',hr,h1,h2,h3,hst⟩:=Ms (P:=P) (ty:=ty) A Q hw hT hN hS hz hzl hpos hby hG hk hno hb hb2
  refine⟨_,w',h,_,?_,hst,t' _ _ _ _ h1 h2 h3⟩
  simp[execOp,resolve,invoke,builtin,hx,hy,hr]
end
end
variable {K:Env->HF->LH->Prop}{af:Array Edge}{d:Option Nat}{g:Option (Nat×Bool)}{l:List Oper}{ops:Array Oper}{pos:String}
section
theorem Mt(hg:R.Good)(A Q:LH){t:TypeId}{ys:List α}{x:Value}(hw:St X h (A++(G++Q)) w)(hT:P.underlying t=some (.slice E))(hS:tySz P E=some (R.sz,a))(hz:zeroC P E=some zs)(hzl:zs.length=R.sz)(hby:bytesOf P E=some vo)(hG:cN R E h xs base cap G)(hsrc:Src R h (A++(G++Q)) x ys)(hb:(xs.length+ys.length)*vo<=140737488355328)(hb2:xs.length+ys.length<=9223372036854775807):
  ∃base' cap' G' w',(Builtin.append_ #[t,t] ty #[.slice base xs.length cap,x]).run P w=.ok (.slice base' (xs++ys).length cap') w'/\cN R E h (xs++ys) base' cap' G'/\St X h (A++(G'++Q)) w'/\∀p∈G',(∃q∈G,q.1=p.1)\/w.heap.size<=p.1:=by
 obtain⟨i,hi,hby'⟩:∃i,P.info? E=some i/\i.bytes=vo:=by
  unfold bytesOf at hby
  cases hi:P.info? E with
  |none=>simp[hi]at hby
  |some i=>exact⟨i,rfl,by simpa[hi]using hby⟩
 have hsz:i.size=R.sz:=by
  have:=fL hS w
  simpa[sizeOf,typeInfo,hi]using this
 obtain⟨z,hzz,hzc⟩:∃z,i.zero=some z/\z.cells=zs.toArray:=by
  unfold zeroC at hz
  cases hzz:i.zero with
  |none=>simp[hi,hzz]at hz
  |some z=>exact⟨z,rfl,by simp[hi,hzz]at hz;rw[mB,hz]⟩
 have hnewlen:(xs++ys).length=xs.length+ys.length:=by simp
 obtain⟨cl,bs,c,hx,hc,hf⟩:=uy (P:=P) hsrc hw
 by_cases hroom:xs.length+ys.length<=cap
 ·
  rcases hG with⟨rfl,rfl,rfl,rfl⟩|⟨bk,cl0,sp,rfl,hc0,hlen,db,_,rfl⟩
  .have hy:ys=[]:=List.eq_nil_of_length_eq_zero (by simpa using hroom)
   subst hy
   cases hc
   refine⟨none,0,[],w,?_,cN.nil,by simpa using hw,λ_ hp=>(kA hp).elim⟩
   subst hx
   rw[←hsz]at hf
   simp[Builtin.append_,run_underlying hT,sizeOf,typeInfo,hi,Builtin.lenOf,hf]at hf ⊢
  .have hlcl:=hc.len
   have hl0:=hc0.len
   have hfit:cl.length<=sp.length:=by
    simp only[vA]at hlen
    have:(xs.length+ys.length)*R.sz<=cap*R.sz:=Nat.mul_le_mul_right _ hroom
    rw[Nat.add_mul]at this
    omega
   have hown:w.heap[bk]? = some (.cells (cl0++sp).toArray E (0,0)):=hw.own (bk,_) (by simp)
   have hst:=lP (P:=P) (T:=E) (xs.length*R.sz) cl 0 (cl0++sp) w hown (by simp;omega) (by simpa using hc.LC hg)
   simp only[Nat.add_zero]at hst
   have hwr:=hw.write (i:=A.length) (b:=bk) (o:=.cells (cl0++sp).toArray E (0,0)) (by simpa using K7 A _ Q) (.cells (splice (cl0++sp) (xs.length*R.sz) cl).toArray E (0,0))
   refine⟨some ⟨bk,0,none⟩,cap,[(bk,.cells (splice (cl0++sp) (xs.length*R.sz) cl).toArray E (0,0))],{ w with heap:=w.heap.setIfInBounds bk (.cells (splice (cl0++sp) (xs.length*R.sz) cl).toArray E (0,0)) },?_,?_,?_,λp hp=>.inl ⟨_,xC.2 rfl,by rw[xC.1 hp]⟩⟩
   .subst hx
    rw[←hsz]at hf hst ⊢
    simp[Builtin.append_,run_underlying hT,sizeOf,typeInfo,hi,Builtin.lenOf,hf,hroom,oo,hst]
   .have hsp:=uu cl cl0 sp hfit
    rw[hl0]at hsp
    refine .inr ⟨bk,cl0++cl,sp.drop cl.length,rfl,cY.app hc hc0,?_,by simpa using hroom,by simpa using hb2,?_⟩
    .simp only[vA,List.length_drop]at hlen ⊢;omega
    .rw[hsp];simp
   .have:=Cn A (bk,jG (cl0++sp).toArray E (0,0)) (bk,.cells (splice (cl0++sp) (xs.length*R.sz) cl).toArray E (0,0)) Q
    simp only[kK,zF]at hwr ⊢
    rw[this]at hwr
    exact hwr
 ·
  have hcap:cap<xs.length+ys.length:=by omega
  have hwd:St X h (A++(G++Q)) w.drew:=hw.drew _
  obtain⟨cl0,hc0,hf0⟩:∃cl0,cY R h cl0 xs/\(Builtin.firstCells R.sz xs.length (.slice base xs.length cap)).run P w.drew=.ok cl0.toArray w.drew:=by
   rcases hG with⟨rfl,rfl,rfl,rfl⟩|⟨bk,cl0,sp,rfl,hc0,hlen,db,_,rfl⟩
   .exact⟨[],rfl,by simp[Builtin.firstCells]⟩
   .refine⟨cl0,hc0,run_firstCells_some _ _ _ _ _ _ _ hc0.len λj v hj=>?_⟩
    have hown:w.drew.heap[bk]? = some (.cells (cl0++sp).toArray E (0,0)):=hwd.own (bk,_) (by simp)
    have hlt:=(List.getElem?_eq_some_iff.1 hj).1
    rw[oo]
    simp only[WE,hown]
    simp[List.getElem?_append_left hlt,hj]
  obtain⟨cl',_,_,hx',hc',hf'⟩:=uy (P:=P) hsrc hwd
  have hfit:Builtin.nextslicecap (xs.length+ys.length) cap*i.bytes<=281474976710656:=growslice_fits hcap (by rw[hby'];exact hb)
  have h48':¬(281474976710656<Builtin.nextslicecap (xs.length+ys.length) cap*i.bytes):=by omega
  have h63':¬(9223372036854775807<((xs.length:Int)+(ys.length:Int))):=by omega
  have hge:=grownCap_ge w (xs.length+ys.length) cap E
  let nc:=grownCap w (xs.length+ys.length) cap E
  let rest:=(Builtin.zeroCells z.cells (nc-(xs.length+ys.length))).toList
  refine⟨some ⟨w.heap.size,0,none⟩,nc,[(w.heap.size,.cells ((cl0++cl')++rest).toArray E (0,0))],w.drew.alloc (.cells ((cl0++cl')++rest).toArray E),?_,?_,?_,λp hp=>.inr (by rw[xC.1 hp];exact vE _)⟩
  .subst hx
   rw[←hsz]at hf0 hf'
   simp[Builtin.append_,run_underlying hT,sizeOf,typeInfo,zeroValue,hi,hzz,Builtin.lenOf,hroom,h63',h48',Question.forced,hf0,hf',newRow,grownCap,nc,rest]
   congr 2
   apply qS
   simp
  .refine .inr ⟨w.heap.size,cl0++cl',rest,rfl,cY.app hc' hc0,?_,by rw[hnewlen];exact hge,by rw[hnewlen];exact hb2,rfl⟩
   have:rest.length=(nc-(xs.length+ys.length))*R.sz:=by
    simp[rest,Builtin.zeroCells,hzc,hzl]
   simp only[vA,this,hc0.len,hc'.len,←Nat.add_mul]
   congr 1
   omega
  .have h1:=hwd.alloc (.cells ((cl0++cl')++rest).toArray E (0,0))
   have hsub:((w.heap.size,jG ((cl0++cl')++rest).toArray E (0,0))::(A++Q)).Sublist ((w.heap.size,jG ((cl0++cl')++rest).toArray E (0,0))::(A++(G++Q))):=
    .cons_cons _ ((List.Sublist.refl A).append (List.sublist_append_right G Q))
   have h2:=h1.sub hsub
   exact h2.perm (List.perm_middle.symm)
section
variable {P:Program} {b:Frame} {n:Nat} {k:List Item} {F:List Frame->(Machine->Prop)->Prop} {e:Env} {ds:List Deferred} {X:Cx} {h:HF} {L:LH}
def Nw(X:Cx)(G:LH):Prop:=∀p∈G,p.1∉X.M
theorem NR(hg:R.Good){t:TypeId}{s:Operand}{ys:List α}{Q:LH}{d:Nat}(hXM:∀b∈X.M,b<X.w0.heap.size)(hN:Nw X G)(hp:L.Perm (G++Q))(hT:P.underlying t=some (.slice E))(hS:tySz P E=some (R.sz,a))(hz:zeroC P E=some zs)(hzl:zs.length=R.sz)(hby:bytesOf P E=some vo)(hG:cN R E h xs base cap G)(hx:e.ev s=.slice base m cap)(hm:m=xs.length)(hsrc:Src R h (G++Q) (e.ev y) ys)(hb:(xs.length+ys.length)*vo<=140737488355328)(hb2:xs.length+ys.length<=9223372036854775807)(t':∀base' cap' G',cN R E h (xs++ys) base' cap' G'->Nw X G'->TO P b n ops l k F (upd e d (.slice base' (xs++ys).length cap')) ds X h (G'++Q))(hd:Nat.blt d n=true:=by rfl)(hgd:guardB ops e ⟨some d,.call ⟨.builtin .append,#[s,y],#[t,t]⟩,ty,pos,af,g⟩=true:=by rfl):TO P b n ops (⟨some d,.call ⟨.builtin .append,#[s,y],#[t,t]⟩,ty,pos,af,g⟩::l) k F e ds X h L:=
 qI hp (aH (iB hgd λw hw=>by
  subst hm
  obtain⟨base',cap',G',w',hr,hG',hst,hnew⟩:=Mt (P:=P) (ty:=ty) hg [] Q hw hT hS hz hzl hby hG hsrc hb hb2
  refine⟨_,w',h,_,?_,hst,t' _ _ _ hG' (λp hp hM=>?_)⟩
  .simp[execOp,resolve,invoke,builtin,hx,hr]
  .rcases hnew p hp with⟨q,hq,e1⟩|h1
   .exact hN q hq (e1▸hM)
   .have:=hXM _ hM;have:=hw.size;omega) rfl hd)
theorem NX{t:TypeId}(hXM:∀b∈X.M,b<X.w0.heap.size)(hT:P.underlying t=some (.slice E))(hS:tySz P E=some (sz,a))(t':∀bk,bk∉X.M->K (pute e d (.slice (some ⟨bk,0,none⟩) 0 0)) h ((bk,.cells [].toArray E (0,0))::L))(hg:guardB ops e ⟨d,.buildSlice t 0 #[],ty,pos,af,g⟩=true:=by rfl):Stp P b n ops F ds X ⟨d,.buildSlice t 0 #[],ty,pos,af,g⟩ e h L K:=
 iB hg λw hw=>by
  refine⟨_,_,h,_,?_,hw.alloc _,t' _ (λhm=>by have:=hXM _ hm;have:=hw.size;omega)⟩
  have h0:(Array.range 0).map (λ_:Nat=>(default:Value))=#[]:=by apply Array.eq_empty_of_size_eq_zero;simp
  simp[execOp,Instr.buildSlice,run_underlying hT,fL hS,Instr.fill,newRow,h0]
theorem Qf{o:Oper}(i:Nat){bk:Nat}{ob:Obj}(hi:nth L i=some (bk,ob))(hM:bk∉X.M)(t:∀h2,h.le h2->h2 bk=some ob->Stp P b n ops F ds X o e h2 (dropNth L i) K)(hg:guardB ops e o=true:=by rfl):Stp P b n ops F ds X o e h L K:=by
 unfold Stp
 rw[if_pos hg]
 intro w hw
 have h1:=hw.perm (nY L i _ hi)
 have:=t _ (HF.yw (h1.free (bk,ob) (by simp))) (HF.tl _ _ _)
 unfold Stp at this
 rw[if_pos hg]at this
 exact this w (h1.freeze hM)
theorem St.freezeNw{w:World}:∀{G Q:LH}{h:HF},Nw X G->St X h (G++Q) w->St X (h.addAll G) Q w/\h.le (h.addAll G)/\∀p∈G,(h.addAll G) p.1=some p.2
 |[],_,h,_,s=>⟨s,kH _,λ_ hp=>(kA hp).elim⟩
 |(b,o)::G,Q,h,hN,s=>by
  have h1:=s.freeze (hN _ (kB ..))
  obtain⟨a,c,d⟩:=St.freezeNw (λp hp=>hN p (jC _ hp)) h1
  have db:h.le (h.add b o):=HF.yw (s.free (b,o) (by simp))
  refine⟨a,jA db c,λp hp=>?_⟩
  rcases zE.1 hp with rfl|hp
  .exact c _ _ (HF.tl _ _ _)
  .exact d p hp
theorem L8{Q:LH}(hm:R.Mono)(hp:L.Perm (G++Q))(hN:Nw X G)(hG:cN R E h xs base cap G)(t:∀h2,h.le h2->SlC R h2 base cap xs->TO P b n ops l k F e ds X h2 Q):TO P b n ops l k F e ds X h L:=λw hw=>by
 obtain⟨a,c,d⟩:=St.freezeNw hN (hw.perm hp)
 exact t _ c (hG.frozen hm c d) w a
end
end
variable {i:Nat}{v:Go.Value}
section
open Go.Proofs Go.Proofs.Tryz
theorem Hp{e:Env}{L:LH}{t:TypeId}{hi:Operand}(hT:P.underlying t=some (.slice E))(hS:tySz P E=some (sz,a))(hx:e.ev x=.slice none 0 0)(hhi:e.ev hi=.int .i64 ((0:Nat):Int)):
  ∀w,St X h L w->(execOp e.ev ⟨d,.slice t x none (some hi) none,ty,pos,af,g⟩).run P w=.ok (.value (.slice none 0 0)) w:=λw hw=>by
 simp[execOp,Instr.sliceAt,Instr.slice,Instr.sliceBounds,Instr.sliceBound,hx,hhi,asIntOf,run_underlying hT,fL hS]
def sumL{α : Type}:List (List α)->Nat->Nat
 |[],g=>g
 |y::r,g=>sumL r (g+y.length)
theorem KD{α : Type}:∀(ls:List (List α))(g m:Nat),(∀y∈ls,y.length<=m)->sumL ls g<=g+ls.length*m
 |[],g,m,_=>by simp[sumL]
 |y::r,g,m,h=>by
  have h1:=KD r (g+y.length) m (λz hz=>h z (jC _ hz))
  have h2:=h y (kB ..)
  simp only[sumL,zA,Nat.add_mul,Nat.one_mul];omega
theorem Ei{α : Type}:∀(ls:List (List α))(g:Nat),sumL ls g=g+ls.flatten.length
 |[],g=>by simp[sumL]
 |y::r,g=>by rw[sumL,Ei r];simp;omega
theorem Iv{l r:List α}{y:α}(h:l.drop i=y::r):y∈l:=List.mem_of_mem_drop (h▸kB .. : y∈l.drop i)
theorem JF{ls r:List (List α)}{y:List α}(h:ls.drop i=y::r):(ls.take i).flatten.length+y.length<=ls.flatten.length:=by
 have:=congrArg (λl=>(List.flatten l).length) (List.take_append_drop i ls)
 grind
theorem u64w(h:m<=9223372036854775807):vB .u64 (m:Int)=m:=by grind [vB,IntKind.signed,XY]
theorem i64w(h:m<=9223372036854775807):vB .i64 (m:Int)=m:=by
 have:=lI (z:=(m:Int)) ob
 injection this
def M5(x:List Int)(h:HF)(vs:List Value):Prop:=∃b c,vs=[.slice b x.length c]/\SlC jB h b c x
theorem wrapU(h:m<=9223372036854775807):vB .u64 (m:Int)=m:=by grind [vB,IntKind.signed,XY]
def FnC(h:HF)(v:Value)(f:List Int->Bool):Prop:=(∃fn fi ca,v=.func fn fi ca)/\∀(h':HF)(w:List Int)(wb:Option Addr)(wc:Nat),h.le h'->SlC jB h' wb wc w->w.length<=1000000->qw prog v [.slice wb w.length wc] h' [] (.bool (f w))
theorem FnC.mono{h':HF}{f:List Int->Bool}(a:FnC h v f)(hl:h.le h'):FnC h' v f:=⟨a.1,λh2 w wb wc l=>a.2 h2 w wb wc (jA hl l)⟩
def rpFn:Rp (List Int->Bool):=⟨1,λh cs f=>∃v,cs=[v]/\FnC h v f⟩
theorem JO:rpFn.Good:=⟨λ_ _ _ _ hl⟨v,a,b⟩=>⟨v,a,b.mono hl⟩,λ_ _ _⟨v,a,b⟩=>by obtain⟨_,_,_,rfl⟩:=b.1;subst a;rfl,Nat.one_pos⟩
instance:RpG rpFn:=⟨JO⟩
def QOk(h:HF)(v:Value)(q:QP)(e:Int):Prop:=∃(fb:Option Addr)(fc:Nat)(nb:Option Addr)(nc:Nat)(ob:Option Addr)(oc:Nat)(dv:Value),v=.tuple #[.agg #[.bool q.closed,.slice fb q.free.length fc,.slice nb q.needs.length nc,.slice ob q.over.length oc,dv],I e]/\one dv=true /\
 SlC jB h fb fc q.free/\SlC jB h nb nc q.needs/\SlC jB h ob oc q.over/\(e=0->FnC h dv q.decides)
theorem nthMem{L:LH}{p:Nat×Obj}(h:nth L i=some p):p∈L:=by rw[iT]at h;exact xE h
def MOk(h:HF)(v:Value)(M:List eC×Bool×Int):Prop:=∃(lb:Option Addr)(lc:Nat),v=.tuple #[.slice lb M.1.length lc,.bool M.2.1,I M.2.2]/\SlC eC.rp h lb lc M.1
def FnI(h:HF)(v:Value)(f:Int->Bool):Prop:=(∃fn fi ca,v=.func fn fi ca)/\∀(h':HF)(n:Int),h.le h'->qw prog v [I n] h' [] (.bool (f n))
theorem FnI.mono{h':HF}{f:Int->Bool}(a:FnI h v f)(hl:h.le h'):FnI h' v f:=⟨a.1,λh2 n l=>a.2 h2 n (jA hl l)⟩
theorem Np{κ α : Type}{enc:κ->Value}{V:HF->Value->α->Prop}{h:HF}:∀{es:List MapEntry}{m:List (κ×α)}{i:Nat}{en:MapEntry},rM enc V h es m->es[i]? = some en->∃p,m[i]? = some p/\en.key=enc p.1/\V h en.val p.2
 |e::es,(k,v)::m,0,en,hE,hi=>by simp at hi;subst hi;exact⟨(k,v),rfl,hE.1,hE.2.1⟩
 |e::es,(k,v)::m,i+1,en,hE,hi=>Np (m:=m) hE.2.2 (by simpa using hi)
 |[],[],i,en,_,hi=>by simp at hi
 |_::_,[],i,en,hE,_=>hE.elim
 |[],_::_,i,en,hE,_=>hE.elim
theorem BC(h:HF)(s:List Int)(pM:Option Addr)(pD:Nat)(hs:SlC jB h pM pD s)(hsz:s.length<=2000000):QQ prog 43 [.slice pM s.length pD] h jB 3 s:=by
 intro w hp
 by_cases hne:s=[]
 .subst hne
  cases pM with
  |none=>
   refine(j5 (Tryz.slices_Clone_int_nil 0 pD w) (λw' hw=>by cases hw.1)).mono ?_
   rintro e w' ⟨rfl,rfl⟩
   exact⟨h,[],Ww hp,rfl,none,0,rfl,cN.nil⟩
  |some a=>
   refine(j5 (Tryz.slices_Clone_int_zero a pD w) (λw' hw=>by obtain⟨_,e,_⟩:=hw;cases e)).mono ?_
   rintro e w' ⟨v,rfl,ho,_,hb⟩
   exact J5 (xs:=[]) hp hb ho
 .obtain⟨g,off,rfl,hc⟩:=Pz hs.1 hne
  refine(j5 (Tryz.slices_Clone_int g off s.length pD s w (vE _) (by omega) (hc w hp)) (λw' hw=>by obtain⟨_,e,_⟩:=hw;cases e)).mono ?_
  grind [J5]
end
variable {f:FuncId}{pe:Int->Go.Value}{vs:List Go.Value}{ρ:Type}
section
open Go.Proofs Go.Proofs.Tryz
set_option maxHeartbeats 2000000
theorem xh(rec:bB->aj->Bool)(h q wg)(x:aj)(gG)(hrec:∀(h:HF)(qq:bB)(En:n8)(qx:aj)(ml:eo)(hqq:bB.ok h qq En)(hqx:aj.ok h qx ml)(hok:OkX (qq.dh.length:Int) qx)(hso:qq.lm.Pairwise (·<=·))(hsw:qq.lm.length<=2000000)(_:qx.dep<x.dep),Ret prog 206 [.agg (bB.cells qq En).toArray,.agg (aj.cells qx ml).toArray] h (.bool (rec qq qx)))(hq:bB.ok h q wg)(hx:aj.ok h x gG)(hok:OkX (q.dh.length:Int) x)(hso:q.lm.Pairwise (·<=·))(hsw:q.lm.length<=2000000):Ret prog 274 [.agg (bB.cells q wg).toArray,.agg (aj.cells x gG).toArray] h (.bool (fU.F rec q x)):=by
 refine sT func274 U ntmps274 U λX hM hX hF=>?_
 have hs0:=@rfl _ (fU.F rec q x)
 refine sr (eL (λb1=>eL (λb2=>qL 14 [0] U ?_)))
 let z1:Nat×Obj:=(b1,O (bB.cells q wg) 275)
 let z2:Nat×Obj:=(b2,O (aj.cells x gG) 59)
 refine lp1 x.L (λi w=>[(2,Q b1),(3,Q b2),(5,I w),(9,.slice gG.oN x.L.length gG.pc),(10,I (x.L.length:Int)),(11,I (i:Int))]) ([z2,z1]) (λs1 i w=>(fU.L1 rec q (fU.K1 x)) s1 w) 0 hx.list.1.1 hs0 ?_ ?_
 .rintro i1 eZ i7 hs1 e
  exact qK 8 [0] U (nretP [.bool (decide (x.N<=eZ))] (cs hs1))
 rintro i1 eZ y1 rz1 hd1 gg dL i5 mF hs3 hx1 ag1 e
 have hoy:=hok.sub y1 (gP hd1)
 refine sr (tO gg U (qO 8 U (aH (iR qt ty59 hx.list.1 dL U U U (λ_ _ _ e=>e) (λq2 r2 A2 ok2=>eJ ty59 A2 U U (bJ zc59 (λb4=>bG 0 ty59 U U U U U U (qO 3 U (du 2 ty275 U U U (du 0 ty59 U U U (aX Q6 (hrec _ _ _ _ _ hq ok2 ob ob ob (aj.lD (gP hd1))) U (bp (aI hs3 U (λc2 hs4=>?_) (λc2 hs5=>?_))))))))))))))
 .exact bM (qO 6 U (oi i1 U (qO 2 U (cm (L':=[z2,z1]) js (ag1 (vB .i64 (eZ+1)) hs4)))))
 exact bO (qT 2 U (oi i1 U (qO 2 U (cm (L':=[z2,z1]) js (ag1 eZ hs5)))))
theorem vz(rec:bB->aj->Bool)(h q wg)(x:aj)(gG)(hrec:∀(h:HF)(qq:bB)(En:n8)(qx:aj)(ml:eo)(hqq:bB.ok h qq En)(hqx:aj.ok h qx ml)(hok:OkX (qq.dh.length:Int) qx)(hso:qq.lm.Pairwise (·<=·))(hsw:qq.lm.length<=2000000)(_:qx.dep<x.dep),Ret prog 206 [.agg (bB.cells qq En).toArray,.agg (aj.cells qx ml).toArray] h (.bool (rec qq qx)))(hq:bB.ok h q wg)(hx:aj.ok h x gG)(hok:OkX (q.dh.length:Int) x)(hso:q.lm.Pairwise (·<=·))(hsw:q.lm.length<=2000000)(hk4:x.Kind=4):Ret prog 275 [.agg (bB.cells q wg).toArray,.agg (aj.cells x gG).toArray] h (.bool (mO.F rec q x)):=by
 refine sT func275 U ntmps275 U λX hM hX hF=>?_
 have hs0:=@rfl _ (mO.F rec q x)
 have hl2:=hok.two hk4
 refine sr (eL (λb1=>eL (λb2=>qL 11 [1,0] U (aI hs0 U (λc1 hs1=>?_) (λc1 hs2=>?_)))))
 .have c1p:=of_decide_eq_true c1
  refine el (fo ([(b2,O (aj.cells x gG) 59),(b1,O (bB.cells q wg) 275)]) mixed kr jn (λim _=>tf 0 U U (λ_ _ hj=>lV ty275 U (hj.nth (i:=1) U) U) (qB [1] U (tf 2 U U (rj 0 ty57 U U U) ?_))))
  have ho1:0<=(0:Int)/\(0:Int)<((x.L).length:Int):=ob
  refine oB 3 im jn qt ty59 hx.list.1 ho1 (dC ho1) U U U U kr (λq1 cs1 A1 ln1 rr1=>?_)
  obtain⟨r1,rfl,ok1⟩:=rr1
  exact tf 4 U U (λ_ _ hj=>oE ty59 (A1.mono hj.1) U U) (tn 5 U (gu Q6 (hrec _ _ _ _ _ hq ok1 (hok.sub _ (pI ob)) ob ob (aj.lD (pI ob))) U (⟨jn,(qA [6] U (bW kr (nretP [.bool (rec q (nthI x.L 0))] (cs hs1))))⟩)))
 have c1p:=of_decide_eq_false c1
 refine qT 2 U (fo ([(b2,O (aj.cells x gG) 59),(b1,O (bB.cells q wg) 275)]) mixed kr jn (λnJ _=>tf 0 U U (λ_ _ hj=>lV ty275 U (hj.nth (i:=1) U) U) (qB [1] U (tf 2 U U (rj 0 ty57 U U U) ?_))))
 have ho2:0<=(1:Int)/\(1:Int)<((x.L).length:Int):=ob
 refine oB 3 nJ jn qt ty59 hx.list.1 ho2 (dC ho2) U U U U kr (λq2 cs2 A2 ln2 rr2=>?_)
 obtain⟨r2,rfl,ok2⟩:=rr2
 exact tf 4 U U (λ_ _ hj=>oE ty59 (A2.mono hj.1) U U) (tn 5 U (gu Q6 (hrec _ _ _ _ _ hq ok2 (hok.sub _ (pI ob)) ob ob (aj.lD (pI ob))) U (⟨jn,(qA [6] U (bW kr (nretP [.bool (rec q (nthI x.L 1))] (cs hs2))))⟩)))
theorem SB(rec:bB->aj->Bool)(h q wg x gG)(hq:bB.ok h q wg)(hx:aj.ok h x gG)(hrec:∀(h:HF)(qq:bB)(En:n8)(qx:aj)(ml:eo)(_:bB.ok h qq En)(_:aj.ok h qx ml)(_:OkX (qq.dh.length:Int) qx)(_:qq.lm.Pairwise (·<=·))(_:qq.lm.length<=2000000)(_:qx.dep<x.dep),Ret prog 206 [.agg (bB.cells qq En).toArray,.agg (aj.cells qx ml).toArray] h (.bool (rec qq qx)))(hok:OkX (q.dh.length:Int) x)(hso:q.lm.Pairwise (·<=·))(hsw:q.lm.length<=2000000):
  qw prog (List.getD [.nilFunc,.func (.func 272) #[] #[],.func (.func 273) #[] #[],.func (.func 274) #[] #[],.func (.func 275) #[] #[]] x.Kind.toNat .nilFunc) [.agg (bB.cells q wg).toArray,.agg (aj.cells x gG).toArray] h [] (.bool (fulQ rec q x)):=by
 have hk:=hok.kind
 have hc:x.Kind=1\/x.Kind=2\/x.Kind=3\/x.Kind=4:=by omega
 rcases hc with e|e|e|e
 .rw[show fulQ rec q x=eI q x from by simp[fulQ,e],e];exact ip (cap:=[]) call272 (wN h q wg x gG hq hx (hok.no ob) hso hsw)
 .rw[show fulQ rec q x=ey q x from by simp[fulQ,e],e];exact ip (cap:=[]) call273 (uY h q wg x gG hq hx (hok.no ob) hso hsw)
 .rw[show fulQ rec q x=fU.F rec q x from by simp[fulQ,e],e];exact ip (cap:=[]) call274 (xh rec h q wg x gG hrec hq hx hok hso hsw)
 rw[show fulQ rec q x=mO.F rec q x from by simp[fulQ,e],e];exact ip (cap:=[]) call275 (vz rec h q wg x gG hrec hq hx hok hso hsw e)
theorem uk(rec:bB->aj->Bool)(h q wg)(x:aj)(gG)(hrec:∀(h:HF)(qq:bB)(En:n8)(qx:aj)(ml:eo)(hqq:bB.ok h qq En)(hqx:aj.ok h qx ml)(hok:OkX (qq.dh.length:Int) qx)(hso:qq.lm.Pairwise (·<=·))(hsw:qq.lm.length<=2000000)(_:qx.dep<x.dep),Ret prog 206 [.agg (bB.cells qq En).toArray,.agg (aj.cells qx ml).toArray] h (.bool (rec qq qx)))(hq:bB.ok h q wg)(hx:aj.ok h x gG)(hok:OkX (q.dh.length:Int) x)(hso:q.lm.Pairwise (·<=·))(hsw:q.lm.length<=2000000):Ret prog 206 [.agg (bB.cells q wg).toArray,.agg (aj.cells x gG).toArray] h (.bool (eA.F rec q x)):=by
 refine sT func206 U ntmps206 U λX hM hX hF=>?_
 have hs0:=@rfl _ (eA.F rec q x)
 have hkd:=hok.kind
 refine sr (eL (λb1=>eL (λb2=>qO 4 U (aH (RM (cells:=[.nilFunc,.func (.func 272) #[] #[],.func (.func 273) #[] #[],.func (.func 274) #[] #[],.func (.func 275) #[] #[]]) underlying312 ty311 zc312 kr (bJ zc312 (λb3=>bG 0 ty312 U U U U U U (qO 2 U (gl 0 U hM (λh1 hle1 hb1=>fo ([(b2,O (aj.cells x gG) 59),(b1,O (bB.cells q wg) 275)]) mixed kr jn (λim _=>qB [0] U (tf 1 U U (rj 0 ty3 U U U) ?_))))))))))))
 have ho1:0<=(x.Kind:Int)/\(x.Kind:Int)<5:=ob
 have A1:=UW (dM hb1) ho1
 exact tf 2 U U (λ_ _ _=>RQ underlying312 ty311 U U ho1) (tf 3 U U (rh ty311 A1 U) (tf 4 U U (λ_ _ hj=>lV ty275 U (hj.nth (i:=1) U) U) (tf 5 U U (λ_ _ hj=>lV ty59 U (hj.nth (i:=0) U) U) (tn 6 U (j8 (v:=.bool (fulQ rec q x)) [] (List.nil_sublist _) (SB rec h1 q wg x gG (hq.mono hle1) (hx.mono hle1) hrec hok hso hsw) U U (⟨jn,(qA [7] U (bW kr (nretP [.bool (fulQ rec q x)] (cs hs0))))⟩))))))
theorem nI:∀(m:Nat)(h:HF)(q:bB)(wg:n8)(x:aj)(gG:eo)(_:x.dep<=m)(hq:bB.ok h q wg)(hx:aj.ok h x gG)(hok:OkX (q.dh.length:Int) x)(hso:q.lm.Pairwise (·<=·))(hsw:q.lm.length<=2000000),Ret prog 206 [.agg (bB.cells q wg).toArray,.agg (aj.cells x gG).toArray] h (.bool (eA.go m q x))
 |0,h,q,wg,x,gG,hd,hq,hx,hok,hso,hsw=>absurd hd (Nat.not_le.2 (aj.nd _))
 |m+1,h,q,wg,x,gG,hd,hq,hx,hok,hso,hsw=>uk (eA.go m) h q wg x gG (λqh_ qq En qx ml qhq qhx qhok qhso qhsw qd=>nI m qh_ qq En qx ml ob qhq qhx qhok qhso qhsw) hq hx hok hso hsw
theorem uZ(h q wg x gG)(hq:bB.ok h q wg)(hx:aj.ok h x gG)(hok:OkX (q.dh.length:Int) x)(hso:q.lm.Pairwise (·<=·))(hsw:q.lm.length<=2000000):Ret prog 206 [.agg (bB.cells q wg).toArray,.agg (aj.cells x gG).toArray] h (.bool (eA q x)):=nI _ h q wg x gG (vE _) hq hx hok hso hsw
theorem u0(h p i8 kind value)(dh:List (List cq))(mg mf lm oa n9)(hp:aw.ok h p i8)(AK:SlC (Wx cq.rp) h mg mf dh)(hwho:SlC jB h oa n9 lm)(hsm:smP p)(hsz0:∀y∈dh,y.length<=2000000)(hsw:lm.length<=2000000)(hk:dQ h):Ret prog 137 [.agg (aw.cells p i8).toArray,I kind,I value,.slice mg dh.length mf,.slice oa lm.length n9] h (.tuple #[.bool ((gm p kind value dh lm).1),I ((gm p kind value dh lm).2)]):=by
 refine sT func137 U ntmps137 U λX hM hX hF=>?_
 have hs0:=@rfl _ (gm p kind value dh lm)
 refine sr (eL (λb1=>qO 6 U (du 0 ty61 U U U (aX call146 (wh _ _ _ hp ob hk) U (qO 7 U (aI hs0 U (λc1 hs1=>?_) (λc1 hs2=>?_)))))))
 .refine qT 6 U ?_
  have hs3:gm p kind value dh lm=(false,(dt p)):=hs1
  exact nretP [.bool false,I (dt p)] (hs3▸U)
 refine qT 8 U (gz 6 [21,22,23,24,25,26,27] 21 27 (decide ((p.dQ.length:Int)<=kind)) U (λc2 hk1=>?_) (λe=>?_))
 .exact qL 6 [0] U (hk1 _ U)
 refine bD (gz 3 [28,29,30,31] 28 31 (decide (value<0)) U (λc3 hk2=>?_) (λe=>?_))
 .exact bD (qO 2 U (hk2 _ U))
 refine bD (gz 3 [32,33,34,35] 32 35 (decide (1099511627776<value)) U (λc4 hk3=>?_) (λe=>?_))
 .exact bD (qO 2 U (hk3 _ U))
 refine an (aI hs2 U (λc5 hs4=>?_) (λc5 hs5=>?_))
 .refine qT 5 U ?_
  have hs6:gm p kind value dh lm=(false,1):=hs4
  exact nretP [.bool false,I 1] (hs6▸U)
 refine qK 6 [0] U (aX call204 (Ep _ _ _ _ (p.aB.length:Int) AK ob) U (qO 3 U (aI hs5 U (λc6 hs7=>?_) (λc6 hs8=>?_))))
 .refine qT 5 U ?_
  have hs9:gm p kind value dh lm=(false,210):=hs7
  exact nretP [.bool false,I 210] (hs9▸U)
 refine qT 3 U (aX call205 (wj _ _ _ _ hwho) U (qO 3 U (aI hs8 U (λc7 hs10=>?_) (λc7 hs11=>?_))))
 .refine qT 5 U ?_
  have hs12:gm p kind value dh lm=(false,1):=hs10
  exact nretP [.bool false,I 1] (hs12▸U)
 refine qT 7 U (aH (gv (cells:=[I value,.slice mg dh.length mf,.slice oa lm.length n9]) (places:=[(0,1),(1,1),(2,1)]) underlying275 zc275 kr kr (qL 3 [0] U ?_)))
 have ho1:0<=(kind:Int)/\(kind:Int)<((p.di).length:Int):=(by have hq:=Bt (by simpa using c1);simp only[decide_eq_true_eq,decide_eq_false_iff_not,Bool.and_eq_true,kD,Bool.not_eq_true',Bool.not_eq_false',Bool.and_eq_false_iff,Bool.or_eq_false_iff,beq_iff_eq,beq_eq_false_iff_ne,bne_iff_ne,bne_eq_false_iff_eq,vA,zA,zB,List.length_drop]at c5;omega)
 refine aH (yl zI ty65 hp.di.1 ho1 (dC ho1) U U U (λ_ _ _ e=>e) (λq1 r1 A1 ok1=>qL 1 [] U (Eu (j:=3) ty59 A1 U U (aX Q6 (uZ _ _ _ _ _ (show bB.ok h (bB.mk value dh lm) (n8.mk mg mf oa n9)from⟨AK,hwho⟩) ok1.aj (by have hq:=Bt (by simpa using c1);have hr:=Ql (by simpa using c6);show OkX (dh.length:Int) _;rw[hr];exact hq.2.2 _ (Ir (pI ho1))) (I8 (by simpa using c7)) hsw) U (qO 3 U ?_)))))
 have hs13:gm p kind value dh lm=((eA (bB.mk value dh lm) ((nthI p.di kind).aj)),0):=hs11
 exact nretP [.bool (eA (bB.mk value dh lm) ((nthI p.di kind).aj)),I 0] (hs13▸U)
theorem wV(h c pK p i8 lm oa n9)(hc:bU.ok h c pK)(hp:aw.ok h p i8)(hwho:SlC jB h oa n9 lm)(hsm:smR c.Register)(hco:jo c)(hsp:smP p)(hofl:p.aB.length<=32)(hsw:lm.length<=2000000)(hk:dQ h):Ret prog 93 [.agg (bU.cells c pK).toArray,.agg (aw.cells p i8).toArray,.slice oa lm.length n9] h (.bool (dG c p lm)):=by
 refine sT func93 U ntmps93 U λX hM hX hF=>?_
 have hs0:=@rfl _ (dG c p lm)
 refine sr (eL (λb1=>eL (λb2=>qL 14 [0] U ?_)))
 let z1:Nat×Obj:=(b2,O (aw.cells p i8) 61)
 let z2:Nat×Obj:=(b1,O (bU.cells c pK) 96)
 refine lp2 p.aB (λi w=>[(2,.slice oa lm.length n9),(3,Q b1),(4,Q b2),(7,.slice w.2.1 w.1.length w.2.2.1),(15,I (p.aB.length:Int)),(16,I (i:Int))]) (λw=>w.2.2.2.2) (λw=>[z1,z2]++(w.2.2.2.1)) (λi w=>cN (Wx cq.rp) 191 w.2.2.2.2 w.1 w.2.1 w.2.2.1 w.2.2.2.1/\w.1.length<=0+i/\xJ h w.2.2.2.2/\(∀y∈w.1,y.length<=2000000)) (λs1 i w=>(dG.L1 c (dG.K1 c p lm)) s1 i w.1) ([],none,0,[],h) hp.aB.1.1 hs0 ⟨cN.nil,lo,lf,(λy hy=>(kA hy).elim)⟩ ?_ ?_
 .rintro i1 ⟨FX,Vj,Vi,Ua,hh1⟩ i7 hs1 ⟨Ni,Sv,hl1,u1_0⟩ e
  try dsimp only at Ni Sv hl1 u1_0
  refine sr (du 0 ty61 U U U (qL 8 [1,1] U (pR (Rp.Bh cq.aG) ([z1,z2]) Ua ([]) ap hM Ni (λh3 hle3 sl3=>aX call137 (u0 _ _ _ c.ba.Kind c.ba.Value _ _ _ _ _ _ (hp.mono (hl1.t hle3)) sl3 (hwho.mono qJ (hl1.t hle3)) hsp ob ob (hk.mono (hl1.t hle3))) U (qO 10 U (jO 3 [52,53,54,55] 52 55 ((gm p c.ba.Kind c.ba.Value FX lm).2==0) U (λc1 hk1=>?_) (λe=>?_)))))))
  .exact bD (qO 2 U (hk1 _ U))
  exact an (nretP [.bool ((gm p c.ba.Kind c.ba.Value FX lm).1&&((gm p c.ba.Kind c.ba.Value FX lm).2==0))] (cs hs1))
 rintro i1 ⟨FX,Vj,Vi,Ua,hh1⟩ y1 rz1 hd1 gg dL i5 mF hs3 ⟨Ni,Sv,hl1,u1_0⟩ hx1 ag1 e
 try dsimp only at Ni Sv hl1 u1_0
 refine sr (tO gg U (qL 21 [1,1,1] U (aH (cw call133 (u9 _ _ _ _ (i1:Int) c.at_ c.ah (hc.Register.dD.mono aK.aG hl1) hsm.2.1) U (λv2 h4 hle4 hp2=>?_)))))
 obtain⟨rb2,rc2,rfl,sl4⟩:=hp2
 exact bD (qO 8 U (aH (pG Ee (iY h4 ((eW c.Register.dD (i1:Int) c.at_ c.ah).2)) (ni (NO ((lN _).1 hco.chk).1 ob hco.time hco.know)) U (qO 4 U (aH (bT (cells:=[.slice rb2 (((eW c.Register.dD (i1:Int) c.at_ c.ah).1).length) rc2]) LQ ty191 zc191 U U kr (λb4=>aH (eN (Rp.KH cq.aG) ([(b4,O [.slice rb2 (((eW c.Register.dD (i1:Int) c.at_ c.ah).1).length) rc2] 191),z1,z2]) ([]) (λG=>[(b4,O [.slice rb2 (((eW c.Register.dD (i1:Int) c.at_ c.ah).1).length) rc2] 191),z1,z2]++G) ap (λ_=>ap) LQ ty191 zc191 U bytes191 (Ni.mono (Rp.Bh cq.aG) hle4) U U (gV 0 U (cE (R:=(Wx cq.rp)) ((eW c.Register.dD (i1:Int) c.at_ c.ah).1) U ⟨rb2,rc2,U,sl4⟩)) lo lo (λob2 oc2 G2 gr2=>qO 4 U (oi i1 U (qO 2 U (cm (L':=[z1,z2]++G2) js (ag1 ((FX++[(eW c.Register.dD (i1:Int) c.at_ c.ah).1]),ob2,oc2,G2,h4) hs3 ⟨gr2,lo,(hl1.t hle4),(λy hy=>(List.mem_append.1 hy).elim (u1_0 y) (λhy=>by rw[xC.1 hy];exact qM (Fx _ _ _ _) hsm.2.1))⟩)))))))))))))
section
variable {P:Program} {e:Env} {X:Cx} {h:HF} {L:LH} {d:Option Nat} {ty:TypeId} {pos:String} {af:Array Edge} {g:Option (Nat×Bool)}
theorem Tp{t:TypeId}(hT:∃ms,P.underlying t=some (.interface ms))(hx:e.ev x=.nilIface):∀w,St X h L w->(execOp e.ev ⟨d,.binOp .eql t x (.const .nilIface) u,ty,pos,af,g⟩).run P w=.ok (.value (.bool true)) w:=
 λw _=>by
  obtain⟨ms,hT⟩:=hT
  have hc:e.ev (.const .nilIface)=.nilIface:=rfl
  have he:(Op.equal t .nilIface .nilIface).run P w=.ok true w:=by
   rw[Op.equal,Op.maxDepth,show(10000:Nat)=9999+1 from rfl,Op.equalIn];simp[run_underlying hT]
  simp[execOp,hx,hc,eqGuard,binOp,he]
theorem Tn{t:TypeId}{T:TypeId}(hT:∃ms,P.underlying t=some (.interface ms))(hx:e.ev x=.iface T v):∀w,St X h L w->(execOp e.ev ⟨d,.binOp .eql t x (.const .nilIface) u,ty,pos,af,g⟩).run P w=.ok (.value (.bool false)) w:=
 λw _=>by
  obtain⟨ms,hT⟩:=hT
  have hc:e.ev (.const .nilIface)=.nilIface:=rfl
  have he:(Op.equal t (.iface T v) .nilIface).run P w=.ok false w:=by
   rw[Op.equal,Op.maxDepth,show(10000:Nat)=9999+1 from rfl,Op.equalIn];simp[run_underlying hT]
  simp[execOp,hx,hc,eqGuard,binOp,he]
theorem N4{xt T:TypeId}{k:IntKind}(hT:P.underlying T=some (.int k))(hx:e.ev x=.iface T v):∀w,St X h L w->(execOp e.ev ⟨d,.typeAssert x xt T true,ty,pos,af,g⟩).run P w=.ok (.value (.tuple #[v,.bool true])) w:=
 λw _=>by simp[execOp,hx,Instr.typeAssert,run_underlying hT]
end
theorem IH(h b1 e0)(X':Cx):TT prog (deferFrame 24) 14 [.code (bodyOf Tryz.f24)] (IM prog X' .returning (λh' B=>h'=h/\B=[(b1,O [I e0] 36)])) (envArgs [Q b1]) [] X' h [(b1,O [I e0] 36)]:=by
 exact sr (ES (λcs_z Φ⟨c,rest,hcs,hm,_⟩=>by subst hcs;simp[recoverD,hm]) (qO 4 U (aH (eu (Tp ⟨_,Rm⟩ U) (qO 6 U (KB Gj U ⟨U,U⟩))))))
theorem yG(h:HF)(b1:Nat)(e0 ee:Int)(X':Cx):TT prog (deferFrame 24) 14 [.code (bodyOf Tryz.f24)]
  (λcs_z Φ=>∃c rest,cs_z=c::rest/\c.mode=.panicking [{ v:=errV ee,recovered:=false }]/\IM prog X' (.panicking [{ v:=errV ee,recovered:=true }]) (λh' B=>h'=h/\B=[(b1,O [I ee] 36)]) ({ c with mode:=(.panicking [{ v:=errV ee,recovered:=true }]) }::rest) Φ)
  (envArgs [Q b1]) [] X' h [(b1,O [I e0] 36)]:=by
 exact sr (Gt (F':=IM prog X' (.panicking [{ v:=errV ee,recovered:=true }]) (λh' B=>h'=h/\B=[(b1,O [I ee] 36)])) (errV ee) (λcs_z Φ⟨c,rest,hcs,hm,hF⟩=>⟨_,by subst hcs;simp[recoverD,hm],hF⟩) (qO 4 U (aH (eu (Tn ⟨_,Rm⟩ U) (qO 4 U (aH (eu (N4 Rn U) (qO 11 U (aH (eu (gf U) (cU 0 ty36 U U U U U U (qO 2 U (KB Gj U ⟨U,U⟩)))))))))))))
theorem ut{b:Frame}{k:List Item}{F:List Frame->(Machine->Prop)->Prop}{e:Env}{ds:List Deferred}{L:LH}{d:Nat}{ass:Array Operand}{ats:Array TypeId}{x:Except Int ρ}{φ:ρ->Value->HF->Prop}(hc:∀args w,(callFunc f args).run P w=.ok (.enter f args) w)(hs:Ku P f vs h pe x φ)(hvs:ass.toList.map e.ev=vs)(t':∀u v h',x=.ok u->h.le h'->φ u v h'->TO P b n ops l k F (upd e d v) ds X h' L)(tp:∀p h',x=.error p->h.le h'->TP P b n [{ v:=pe p,recovered:=false }] F e ds X h' L)(hdn:Nat.blt d n=true:=by rfl)(hg:guardB ops e ⟨some d,.call ⟨.value (.func f),ass,ats⟩,ty,pos,af,g⟩=true:=by rfl):
  TO P b n ops (⟨some d,.call ⟨.value (.func f),ass,ats⟩,ty,pos,af,g⟩::l) k F e ds X h L:=by
 refine KA U (pZ hdn) U hg (λw hw=>?_)
 have harr:ass.map e.ev=vs.toArray:=qS (by simp[←hvs])
 refine⟨.enter f vs.toArray,w,?_,?_⟩
 .simp[execOp,resolve,Env.ev,Deferred.ofValue,invoke,harr,hc]
 refine lk (tw.mono (hs w (hw.sub (List.nil_sublist _)).pre) ?_)
 rintro y w' ⟨h',B,hst,rfl,hv⟩
 have hw2:=St.after (A:=[]) (B:=[]) (F:=L) hw hst
 cases y with
 |outgrown=>trivial
 |returned v=>
  cases x with
  |ok u=>obtain⟨v',hv,hφ⟩:=hv;cases hv;exact⟨h',_,hw2,t' _ _ _ rfl hst.le hφ⟩
  |error p=>cases hv
 |panicked ch=>
  cases x with
  |ok u=>obtain⟨v',hv,_⟩:=hv;cases hv
  |error p=>cases hv;exact⟨h',_,hw2,tp _ _ rfl hst.le⟩
theorem II.toXH{enc:ρ->Value}{x:Except Int ρ}(hs:II P f vs h (exW pe enc x)):Ku P f vs h pe x (λu v h'=>v=enc u/\h'=h):=
 pC.mono hs (λr h' B hl hR=>by
  obtain⟨rfl,rfl,hv⟩:=hR
  refine⟨U,?_⟩
  cases x with
  |ok u=>simp only[exW]at hv;exact⟨_,hv,rfl,rfl⟩
  |error p=>simp only[exW]at hv;exact hv)
theorem FT(h cK gH ba version dw ah)(mS:vK h cK gH)(hsm:smR cK)(hk:dQ h):
  j4 prog 134 [.agg (kC cK gH).toArray,I ba,I version,I dw,I ah] h (λv h'=>∃(rb0:Option Addr)(rc0:Nat),v=.tuple #[.slice rb0 ((fI cK ba version dw ah).1).length rc0,I ((fI cK ba version dw ah).2)]/\SlC jB h' rb0 rc0 ((fI cK ba version dw ah).1)):=by
 refine cV OO U ntmps134 U λX hM hX=>sr (eL (λb5=>ig (bJ zc36 (λb11=>qO 3 U (JD U U (bp ?_))))))
 have fin:∀(hh:HF)(xs:List Int)(rb:Option Addr)(rc:Nat)(ee:Int)(B:LH)(e:Env),fI cK ba version dw ah=(xs,ee)->SlC jB hh rb rc xs->e 10=.slice rb xs.length rc->e 11=Q b11->∀a:Act,envOf a=e->∀w,St X hh ([(b11,O [I ee] 36)]++B) w ->
   ∃v h2 B2,(results Tryz.f134 a.tmps).run prog w=.ok v w/\St X h2 B2 w/\(B2=[]/\∃v',Ending.returned v=.returned v'/\∃(rb0:Option Addr)(rc0:Nat),v'=.tuple #[.slice rb0 ((fI cK ba version dw ah).1).length rc0,I ((fI cK ba version dw ah).2)]/\SlC jB h2 rb0 rc0 ((fI cK ba version dw ah).1)):=by
  intro hh xs rb rc ee B e he hs h10 h11 a ha w hw
  rw[he]
  exact⟨_,hh,[],oD (rs:=[.tmp 10,.cell 11 36]) (vs:=[.slice rb xs.length rc,I ee]) U ⟨h10,⟨0,b11,[I ee],36,(0,0),U,h11,.inr ⟨_,ty36,U⟩⟩,trivial⟩ a ha w hw,hw.sub (List.nil_sublist _),U,_,U,rb,rc,U,hs⟩
 refine sr (du 1 ty30 U U U (aX (v:=I (dY cK)) call26 (AF h cK gH mS hsm hk) U ?_))
 refine ut Ee (iY h (dY cK)).toXH U (λu v h1 hx1 hle1 hp1=>?_) (λee h1 hx1 hle1=>?_)
 rotate_left
 .have e1:fI cK ba version dw ah=([],ee):=by
   unfold nf at hx1;unfold fI
   cases hc:dY cK != 0 with
   |true=>rw[hc]at hx1;cases hx1;rfl
   |false=>rw[hc]at hx1;cases hx1
  refine C4 (c:=bodyOf Tryz.f24) (cap:=[Q b11]) (A:=[(b11,O [I 0] 36)]) (R':=λh'' B=>h''=h1/\B=[(b11,O [I ee] 36)]) OO Gj U LP U LO (λX' _=>yG h1 b11 0 ee X') U ?_
  rintro h'' B _ ⟨rfl,rfl⟩ a ha w hw
  exact fin _ [] none 0 ee _ _ e1 qG U U a ha w hw
 obtain⟨rfl,rfl⟩:=hp1
 have hc0:dY cK=0:=by
  unfold nf at hx1
  cases hc:dY cK != 0 with
  |true=>rw[hc]at hx1;cases hx1
  |false=>simpa using hc
 refine qO 3 U (du 1 ty30 U U U (qO 3 U ?_))
 refine ut call29 (BV h1 cK gH ba dw ah mS) U (λc v h2 hx2 hle2 hp2=>?_) (λee h2 hx2 hle2=>?_)
 rotate_left
 .have e1:fI cK ba version dw ah=([],ee):=by unfold fI;rw[hc0,hx2];rfl
  refine C4 (c:=bodyOf Tryz.f24) (cap:=[Q b11]) (A:=[(b11,O [I 0] 36)]) (R':=λh'' B=>h''=h2/\B=[(b11,O [I ee] 36)]) OO Gj U LP U LO (λX' _=>yG h2 b11 0 ee X') U ?_
  rintro h'' B _ ⟨rfl,rfl⟩ a ha w hw
  exact fin _ [] none 0 ee _ _ e1 qG U U a ha w hw
 obtain⟨cr,rfl,okc⟩:=hp2
 obtain⟨hce,hco,_,_⟩:=F9 hc0 hx2
 have hreg:c.Register=cK:=by rw[hce]
 have hsc:smR c.Register:=by rw[hreg];exact hsm
 refine bJ zc96 (λb12=>bG 0 ty96 U U U U U U (bp ?_))
 let z1:Nat×Obj:=(b12,O (bU.cells c cr) 96)
 obtain⟨K,hK⟩:∃K:LH,K=[z1]:=⟨_,rfl⟩
 have J:∀{h':HF}{A:LH},h2.le h'->Jst h2 [z1] h' (z1::A):=λhl=>⟨hl,λq hq=>by rw[xC.1 hq];exact kB ..⟩
 refine el (fo [z1] mixed kr (J lf) (λhsep _=>kh 0 hsep (J lf) U U kr U (λ_ _ hj=>lV ty96 U (hj.nth (i:=0) U) U) (kh 1 hsep (J lf) U U kr U (λ_ _ hj=>lV ty96 U (hj.nth (i:=0) U) U) (kh 2 hsep (J lf) U U kr U (λ_ _ _=>nQ) ?_))))
 refine tn 3 U (Mq call91 (rO h2 c cr version okc) U (λp v h3 hpp hle3 hp3=>⟨J hle3,?_⟩) (λee h3 hpp hle3 e' hA=>?_))
 rotate_left
 .have e1:fI cK ba version dw ah=([],ee):=by unfold fI;rw[hc0,hx2];simp only[bne_self_eq_false,cond_false,hpp]
  refine Ky (L':=[(b11,O [I 0] 36)]++[z1,(b5,O (kC cK gH) 30)]) (List.Perm.swap _ _ _) (C4 (c:=bodyOf Tryz.f24) (cap:=[Q b11]) (A:=[(b11,O [I 0] 36)]) (R':=λh'' B=>h''=h3/\B=[(b11,O [I ee] 36)]) OO Gj U LP U LO (λX' _=>yG h3 b11 0 ee X') U ?_)
  rintro h'' B _ ⟨rfl,rfl⟩ a ha w hw
  exact fin _ [] none 0 ee _ _ e1 qG ((hA.at_ 10).trans U) ((hA.at_ 11).trans U) a ha w hw
 have hpk:=yD hco hsc hpp
 have e1:fI cK ba version dw ah=(de c p,0):=by unfold fI;rw[hc0,hx2];simp only[bne_self_eq_false,cond_false,hpp]
 obtain⟨pr,rfl,okp⟩:=hp3
 refine tn 4 U (cw call92 (rP h3 c cr p pr (okc.mono hle3) okp hsc hco hpk.rules) U (λv h4 hle4 hp4=>⟨J (hle3.t hle4),?_⟩))
 obtain⟨rb,rc,rfl,sl⟩:=hp4
 refine kh 5 hsep (J (hle3.t hle4)) U U kr U (λ_ _ _=>RU) (tn 6 U (lK 1 (off:=0) (vs:=[I 0]) ty36 U U U U (by rfl) U ⟨J (hle3.t hle4),bW kr (mY (L':=[(b11,O [I 0] 36)]++[z1,(b5,O (kC cK gH) 30)]) (List.Perm.swap _ _ _) (LZ (c:=bodyOf Tryz.f24) (cap:=[Q b11]) (A:=[(b11,O [I 0] 36)]) (R':=λh'' B=>h''=h4/\B=[(b11,O [I 0] 36)]) OO Gj U LP U LO (λX' _=>IH h4 b11 0 X') U ?_))⟩))
 rintro h'' B _ ⟨rfl,rfl⟩ a ha w hw
 exact fin _ _ rb rc 0 _ _ e1 sl U U a ha w hw
theorem Eh{y:α}(h:xs[i]? = some y):xs.take (i+1)=xs.take i++[y]:=by
  rw[List.take_add_one,h];rfl
theorem CE(h c pK bv s0 b0)(hc:bU.ok h c pK)(hsm:smR c.Register)(hco:jo c)(hat:c.ba.At<=c.at_)(hk:dQ h):
  pC prog 35 (xB [.agg (bU.cells c pK).toArray,Q bv]) h [(bv,verO s0 b0 none 0 0 none 0 0)]
   (λr h' B=>∃vb vc wb wc G,r=.returned (.bool (gq c))/\B=(bv,verO s0 b0 vb (askJ c).1.length vc wb (askAll c).length wc)::G/\SlC jB h' vb vc (askJ c).1/\cN jB 3 h' (askAll c) wb wc G):=by
 have hJ:Jdg c.Register.Versions (askJ c):=Bw hco.vers hco.good.at_ hco.time hco.know hat
 have hJl:(askJ c).1.length<=256:=qM (CX _ _ _ _) hco.vers.len
 have hpx:∀y∈(askJ c).1,exOk (fP c y):=λy hy=>KV (hJ.mem y hy)
 have hpk:∀y∈(askJ c).1,Ug (askP c y):=λy hy=>yD hco hsm (TU (hpx y hy))
 refine cV func35 U ntmps35 U λX hM hX=>?_
 refine sr (eL (λb2=>an ?_))
 refine sr (lA TH U (lA TS U (pk 0 ty26 U U U (lA Lp U (lA TM U (pk 0 ty3 U U U (lA TG U (pk 0 ty3 U U U (lA TF U (pk 0 ty3 U U U (aH (cw call65 (uF h c.Register.Versions _ _ c.ba.At c.at_ c.ah hc.Register.Versions hsm.vers hk) U (λv1 h1 hle1 hp1=>?_)))))))))))))
 obtain⟨vb,vc,rfl,slv⟩:=hp1
 refine qO 11 U (aH (pG Ee (iY h1 _) (ni hJ.err) U (qO 9 U (E6 eM U (qO 2 U ?_)))))
 refine lp2 (γ:=List Bool×Option Addr×Nat×LH×List Int×Option Addr×Nat×LH×HF) (x0:=(askJ c).1) (askJ c).1
  (λi g=>[(1,Q bv),(2,Q b2),(5,.slice vb (askJ c).1.length vc),(6,I (askJ c).2.1),(8,.slice g.2.1 g.1.length g.2.2.1),(31,.slice vb (askJ c).1.length vc),(32,I (((askJ c).1.length:Nat):Int)),(33,I (i:Int))])
  (λg=>g.2.2.2.2.2.2.2.2)
  (λg=>[(b2,O (bU.cells c pK) 96),(bv,verO s0 b0 none 0 0 g.2.2.2.2.2.1 g.2.2.2.2.1.length g.2.2.2.2.2.2.1)]++(g.2.2.2.1++g.2.2.2.2.2.2.2.1))
  (λi g=>g.1=((askJ c).1.take i).map (askAns c)/\g.2.2.2.2.1=((askJ c).1.take i).flatMap (askWho c)/\cN Rp.bool 4 g.2.2.2.2.2.2.2.2 g.1 g.2.1 g.2.2.1 g.2.2.2.1/\cN jB 3 g.2.2.2.2.2.2.2.2 g.2.2.2.2.1 g.2.2.2.2.2.1 g.2.2.2.2.2.2.1 g.2.2.2.2.2.2.2.1/\h1.le g.2.2.2.2.2.2.2.2/\g.1.length<=i/\g.2.2.2.2.1.length<=i*2000000)
  (λs i _=>(askJ c).1.take i++s) ([],none,0,[],[],none,0,[],h1) ob rfl ⟨rfl,rfl,cN.nil,cN.nil,kH _,xH _,xH _⟩ ?_ ?_
 .rintro i ⟨az,ab,ac,Ga,ws,wb,wc,Gw,hh⟩ hil hx0 ⟨ha,hw,gA,gW,db,la,lw⟩ e
  dsimp only at ha hw gA gW db la lw hx0
  rw[List.append_nil]at hx0
  rw[←hx0]at ha hw
  subst ha hw
  obtain⟨ws,hws⟩:∃ws,ws=(askJ c).1.flatMap (askWho c):=⟨_,rfl⟩
  have hall:askAll c=slices_Compact_int (sortI ws):=by rw[hws];rfl
  rw[←hws]at gW lw
  obtain⟨az,has⟩:∃az,az=(askJ c).1.map (askAns c):=⟨_,rfl⟩
  rw[←has]at gA la
  show TT _ _ _ _ _ (upds e [(1,Q bv),(2,Q b2),(5,.slice vb (askJ c).1.length vc),(6,I (askJ c).2.1),(8,.slice ab ((askJ c).1.map (askAns c)).length ac),(31,.slice vb (askJ c).1.length vc),(32,I (((askJ c).1.length:Nat):Int)),(33,I (i:Int))]) _ _ hh ([(b2,O (bU.cells c pK) 96),(bv,verO s0 b0 none 0 0 wb ((askJ c).1.flatMap (askWho c)).length wc)]++(Ga++Gw))
  rw[←hws,←has]
  refine qT 3 U (aH (eu (gf U) (lA DU U (pk 1 ty31 U U U (aH (m6 ([(b2,O (bU.cells c pK) 96),(bv,verO s0 b0 none 0 0 wb ws.length wc)]++Ga) Gw [] OT (mJ hh ws wb wc Gw gW ob) (by simp only[vD,kK,zF,List.append_nil]) U (λG2 g2=>bp ?_)))))))
  refine qT 6 U (aH (eu (gf U) (lA DU U (pk 1 ty31 U U U (aH (m6 (v:=.slice wb (slices_Compact_int (sortI ws)).length wc) ([(b2,O (bU.cells c pK) 96),(bv,verO s0 b0 none 0 0 wb ws.length wc)]++Ga) G2 [] call95 (oy hh (sortI ws) wb wc G2 g2) U (by simp only[iL];rfl) (λG3 g3=>?_)))))))
  refine aH (eu (gf U) (lA TQ U (cU 1 ty31 U U U U U U (aH (eu (gf U) (lA DU U (cU 1 ty31 U U U U U U (bp (bY (L':=[(b2,O (bU.cells c pK) 96),(bv,verO s0 b0 vb (askJ c).1.length vc wb (slices_Compact_int (sortI ws)).length wc)]++(Ga++G3)) (by rw[List.append_nil,vD];rfl) ?_)))))))))
  have fin:∀(hz:HF)(r:Bool),hh.le hz->r=gq c->∀(e:Env),e 4=.bool r->∀k,TT prog (bodyFrame 35) 88 (.code .ret::k) (mN prog X (λr h' B=>∃vb vc wb wc G,r=.returned (.bool (gq c))/\B=(bv,verO s0 b0 vb (askJ c).1.length vc wb (askAll c).length wc)::G/\SlC jB h' vb vc (askJ c).1/\cN jB 3 h' (askAll c) wb wc G)) e [] X hz ([(b2,O (bU.cells c pK) 96),(bv,verO s0 b0 vb (askJ c).1.length vc wb (slices_Compact_int (sortI ws)).length wc)]++(Ga++G3)):=by
   intro hz r hlz hr e he k
   subst hr
   refine nm (v:=.bool (gq c)) (h2:=hz) (B:=(bv,verO s0 b0 vb (askJ c).1.length vc wb (slices_Compact_int (sortI ws)).length wc)::G3) func35 (λa ha w _=>by rw[←he];exact res1 U a ha w) (λw hw=>hw.sub (.cons _ (.cons_cons _ (List.sublist_append_right _ _)))) ⟨vb,vc,wb,wc,G3,U,?_,slv.mono qJ (jA db hlz),?_⟩
   .rw[hall]
   rw[hall];exact g3.mono qJ hlz
  refine qT 6 U ?_
  refine lu U (λc1=>?_) (λc1=>?_)
  .exact sr (an (fin hh false lf (by unfold gq;rw[show((askJ c).2.1==0)=true from c1];rfl) _ U _))
  have hm:=hJ.mode2 (by simpa using c1)
  have hal:az.length<=256:=by rw[has,List.length_map];exact hJl
  refine qT 5 U (aH (Df ([(b2,O (bU.cells c pK) 96),(bv,verO s0 b0 vb (askJ c).1.length vc wb (slices_Compact_int (sortI ws)).length wc)]) Ga G3 (v:=.tuple #[.bool ((gU (askJ c).2.1 az).1),I ((gU (askJ c).2.1 az).2)]) call68 Rp.su gA U (λhz lz sl=>uG hz (askJ c).2.1 az ab ac sl ob) U ?_))
  exact bD (qO 8 U (aH (pG Ee (iY hh _) (ni (Iq_ hm hal)) U (qO 6 U (fin hh _ lf (by unfold gq;rw[show((askJ c).2.1==0)=false from c1,cond_false,←has]) _ U _)))))
 rintro i ⟨az,ab,ac,Ga,ws,wb,wc,Gw,hh⟩ y r hd hlt hget hltp hbd hx0 ⟨ha,hw,gA,gW,db,la,lw⟩ hx ag e
 dsimp only at ha hw gA gW db la lw
 have hy:y∈(askJ c).1:=xE hget
 have hcc:=hc.mono (jA hle1 db)
 show TT _ _ _ _ _ (upds e [(1,Q bv),(2,Q b2),(5,.slice vb (askJ c).1.length vc),(6,I (askJ c).2.1),(8,.slice ab az.length ac),(31,.slice vb (askJ c).1.length vc),(32,I (((askJ c).1.length:Nat):Int)),(33,I (i:Int))]) _ _ hh ([(b2,O (bU.cells c pK) 96),(bv,verO s0 b0 none 0 0 wb ws.length wc)]++(Ga++Gw))
 refine sr (tO hlt U (qO 8 U (aH (tA (enc:=λy=>[I y]) (λ_ _ _ e=>e) eM ty3 (slv.mono qJ db).1 (nthZ hget) (iC hget) U U U (λq1 A1=>eE ty3 A1 U (an ?_))))))
 refine sr (du 0 ty96 U U U (bD (aH (Qg call91 (rO hh c pK y hcc) (hpx y hy) U (λv3 h3 hle3 hp3=>?_)))))
 obtain⟨pr,rfl,okp⟩:=hp3
 refine bJ zc61 (λb11=>bG 0 ty61 U U U U U U (bp ?_))
 refine sr (du 1 ty96 U U U (du 0 ty61 U U U (aH (cw call92 (rP h3 c pK (askP c y) pr (hcc.mono hle3) okp hsm hco (hpk y hy).rules) U (λv4 h4 hle4 hp4=>?_)))))
 obtain⟨ub,uc,rfl,slu⟩:=hp4
 refine qO 5 U (du 1 ty96 U U U (du 0 ty61 U U U (bD (aX (v:=.bool (askAns c y)) call93 (wV h4 c pK (askP c y) pr (askWho c y) ub uc (hcc.mono (jA hle3 hle4)) (okp.mono hle4) slu hsm hco (hpk y hy).sm (hpk y hy).off (Hs hsm _) (hk.mono (jA hle1 (jA db (jA hle3 hle4))))) U ?_))))
 have hl4:hh.le h4:=jA hle3 hle4
 have hwl:=Hs hsm (askP c y)
 refine aH (bT (cells:=[.bool (askAns c y)]) Ef ty4 zc4 U U kr (λb13=>?_))
 refine aH (eN Rp.EP ([(b13,O [.bool (askAns c y)] 4),(b11,O (aw.cells (askP c y) pr) 61),(b2,O (bU.cells c pK) 96),(bv,verO s0 b0 none 0 0 wb ws.length wc)]) Gw (λG=>[(b13,O [.bool (askAns c y)] 4),(b11,O (aw.cells (askP c y) pr) 61),(b2,O (bU.cells c pK) 96),(bv,verO s0 b0 none 0 0 wb ws.length wc)]++(Gw++G)) U (λ_=>U) Ef ty4 zc4 U bytes4 (gA.mono Rp.su hl4) U U (gV (ys:=[askAns c y]) 0 U ⟨[.bool (askAns c y)],[],U,U,U,U⟩) lo lo (λab2 ac2 Ga2 gA2=>an ?_))
 refine qT 3 U (aH (eu (gf U) (lA DU U (pk 3 ty31 U U U (bD (aH (eN W3 ([(b13,O [.bool (askAns c y)] 4),(b11,O (aw.cells (askP c y) pr) 61),(b2,O (bU.cells c pK) 96),(bv,verO s0 b0 none 0 0 wb ws.length wc)]) Ga2 (λG=>[(b13,O [.bool (askAns c y)] 4),(b11,O (aw.cells (askP c y) pr) 61),(b2,O (bU.cells c pK) 96),(bv,verO s0 b0 none 0 0 wb ws.length wc)]++(Ga2++G)) U (λ_=>U) eM ty3 zc3 U bytes3 (gW.mono qJ hl4) U U (mi slu.1) (by show(_+(askWho c y).length)*_<=_;unfold askWho;omega) (by show _+(askWho c y).length<=_;unfold askWho;omega) (λwb2 wc2 Gw2 gW2=>?_))))))))
 refine aH (eu (gf U) (lA DU U (cU 3 ty31 U U U U U U (bp (cm (L':=[(b2,O (bU.cells c pK) 96),(bv,verO s0 b0 none 0 0 wb2 (ws++askWho c y).length wc2)]++(Ga2++Gw2)) js (qT 2 U (iS (v':=I (((i+1:Nat)):Int)) U (n0 ob) (qO 2 U ?_))))))))
 refine ag (az++[askAns c y],ab2,ac2,Ga2,ws++askWho c y,wb2,wc2,Gw2,h4) (by rw[Eh hget,vD];exact hx0) ⟨?_,?_,gA2,gW2,jA db hl4,?_,?_⟩
 .show az++[askAns c y]=_;rw[Eh hget,ha,List.map_append];rfl
 .show ws++askWho c y=_;rw[Eh hget,hw,List.flatMap_append];simp
 .show(az++[askAns c y]).length<=i+1;rw[vA];simp only[zA,zB];omega
 show(ws++askWho c y).length<=(i+1)*2000000;rw[vA];unfold askWho;omega
theorem Ol(h c pK q bv s0 b0)(hc:bU.ok h c pK)(aq:At h q (bU.cells c pK))(hsm:smR c.Register)(hco:jo c)(hat:c.ba.At<=c.at_)(hk:dQ h):
    pC prog 34 (xB [.pointer (some q),Q bv]) h [(bv,verO s0 b0 none 0 0 none 0 0)]
      (λr h' B=>∃vb vc wb wc G,r=.returned (.bool (!(gq c)))/\B=(bv,verO s0 b0 vb (askJ c).1.length vc wb (askAll c).length wc)::G/\SlC jB h' vb vc (askJ c).1/\cN jB 3 h' (askAll c) wb wc G):=by
  refine cV func34 U ntmps34 U λX hM hX=>?_
  refine qT 6 rfl (eJ ty96 aq rfl rfl (aH (GG (A:=[(bv,verO s0 b0 none 0 0 none 0 0)]) (Fr:=[]) call35 rfl (CE h c pK bv s0 b0 hc hsm hco hat hk) rfl (λv h2 B db hR=>?_) (λch h2 B db hR=>by obtain⟨_,_,_,_,_,hr,_⟩:=hR;cases hr))))
  obtain⟨vb,vc,wb,wc,G,hr,rfl,s1,g1⟩:=hR
  cases hr
  exact nv U (an (nm (v:=.bool (!(gq c))) (h2:=h2) (B:=(bv,verO s0 b0 vb (askJ c).1.length vc wb (askAll c).length wc)::G) func34 (λa ha w hw=>oD (rs:=[.tmp 2]) (vs:=[.bool (!(gq c))]) U rd a ha w hw) (λw hw=>by simpa using hw) ⟨vb,vc,wb,wc,G,U,U,s1,g1⟩))
theorem Ok(h r sR qr u qs qp qu)(c:bU)(pK:sI)(qc)(at_ ah:Int)(qa qk bv s0 b0 vb vn vc wb wn wc)(hr:vK h r sR)(ar:At h qr (kC r sR))(hu:SlC Use.rp h qs qp u)(au:At h qu [.slice qs u.length qp])(ac:At h qc (bU.cells c pK))(aa:At h qa [I at_])(ak:At h qk [I ah])(hsm:smR r)(he:(judgeRoom c r u at_ ah).2.2=0):
  pC prog 36 (xB [.pointer (some qr),.pointer (some qu),.pointer (some qc),.pointer (some qa),.pointer (some qk),Q bv]) h [(bv,verO s0 b0 vb vn vc wb wn wc)]
   (λx h' B=>x=.returned (.bool (!(judgeRoom c r u at_ ah).2.1))/\h'=h/\B=[(bv,verO s0 (bif !(judgeRoom c r u at_ ah).2.1 then(judgeRoom c r u at_ ah).1 else b0) vb vn vc wb wn wc)]):=by
 refine cV func36 U ntmps36 U λX hM hX=>?_
 refine qT 6 U (lA PS U (lM (j:=3) ty25 ar U U (eE ty32 au U (lA Lp U (lA TL U (lM (j:=9) ty3 ac U U (lA Lp U (lA TK U (lM (j:=10) ty3 ac U U (eE ty3 aa U (eE ty3 ak U (aX (v:=.tuple #[I (judgeRoom c r u at_ ah).1,.bool (judgeRoom c r u at_ ah).2.1,I (judgeRoom c r u at_ ah).2.2]) call28 (tG h r.dN _ _ u qs qp c.ba.Kind c.ba.Value at_ ah hr.dN hu hsm.2.2.2.2.1) U (qO 11 U (aH (pG Ee (iY h _) (ni he) U (qO 7 U ?_))))))))))))))))
 refine lu U (λc1=>?_) (λc1=>?_)
 .exact bM (bD (lA PR U (cU 0 ty3 U U U U U U (qO 7 U (nm (v:=.bool (!(judgeRoom c r u at_ ah).2.1)) (h2:=h) (B:=[(bv,verO s0 (judgeRoom c r u at_ ah).1 vb vn vc wb wn wc)]) func36 (λa ha w hw=>oD (rs:=[.tmp 6]) (vs:=[.bool (!(judgeRoom c r u at_ ah).2.1)]) U rd a ha w hw) (λw hw=>hw) ⟨U,U,by rw[show(!(judgeRoom c r u at_ ah).2.1)=true from c1];rfl⟩)))))
 exact bO (qT 6 U (nm (v:=.bool (!(judgeRoom c r u at_ ah).2.1)) (h2:=h) (B:=[(bv,verO s0 b0 vb vn vc wb wn wc)]) func36 (λa ha w hw=>oD (rs:=[.tmp 6]) (vs:=[.bool (!(judgeRoom c r u at_ ah).2.1)]) U rd a ha w hw) (λw hw=>hw) ⟨U,U,by rw[show(!(judgeRoom c r u at_ ah).2.1)=false from c1];rfl⟩))
theorem HE{e:Int}{ee:Int}(h:nf e=.error ee):(e != 0)=true/\ee=e:=by
  unfold nf at h
  cases hc:e != 0 with
  |true=>rw[hc]at h;cases h;exact⟨rfl,rfl⟩
  |false=>rw[hc]at h;cases h
theorem Cz{e:Int}{u:Unit}(h:nf e=.ok u):e=0:=by
  unfold nf at h
  cases hc:e != 0 with
  |true=>rw[hc]at h;cases h
  |false=>simpa using hc
theorem AE(h cK gH signed cu ct u qs qp ba cB ah)(mS:vK h cK gH)(eT:SlC jB h cu ct signed)(hu:SlC Use.rp h qs qp u)(hsm:smR cK)(hln:cK.cj.length<20)(hk:dQ h):
  j4 prog 9 [.agg (kC cK gH).toArray,.slice cu signed.length ct,.slice qs u.length qp,I ba,I cB,I ah] h (λv h'=>∃rr0:vu,v=.tuple #[.agg (fA.cells (bj cK signed u ba cB ah).1 rr0).toArray,I ((bj cK signed u ba cB ah).2)]/\fA.ok h' (bj cK signed u ba cB ah).1 rr0):=by
 refine cV func9 U ntmps9 U λX hM hX=>?_
 refine sr (eL (λb6=>eL (λb7=>eL (λb8=>eL (λb10=>eL (λb11=>bJ zc40 (λb12=>bJ zc36 (λb13=>bp ?_))))))))
 refine sr (JD U U (bp ?_))
 have fin:∀(hh:HF)(V:fA)(vb:Option Addr)(vc:Nat)(wb:Option Addr)(wc:Nat)(ee:Int)(B:LH)(e:Env),bj cK signed u ba cB ah=(V,ee)->SlC jB hh vb vc V.Versions->SlC jB hh wb wc V.Who->e 12=Q b12->e 13=Q b13->∀a:Act,envOf a=e->∀w,St X hh ([(b13,O [I ee] 36)]++((b12,verO V.State V.Budget vb V.Versions.length vc wb V.Who.length wc)::B)) w ->
   ∃v h2 B2,(results Tryz.f9 a.tmps).run prog w=.ok v w/\St X h2 B2 w/\(B2=[]/\∃v',Ending.returned v=.returned v'/\(λv h'=>∃rr0:vu,v=.tuple #[.agg (fA.cells (bj cK signed u ba cB ah).1 rr0).toArray,I ((bj cK signed u ba cB ah).2)]/\fA.ok h' (bj cK signed u ba cB ah).1 rr0) v' h2):=by
  intro hh V vb vc wb wc ee B e he h1 h2 h12 h13 a ha w hw
  refine⟨_,hh,[],oD (rs:=[.cell 12 40,.cell 13 36]) (vs:=[.agg (fA.cells V ⟨vb,vc,wb,wc⟩).toArray,I ee]) U ⟨⟨1,b12,_,40,(0,0),U,h12,.inl ⟨ty40,U⟩⟩,⟨0,b13,[I ee],36,(0,0),U,h13,.inr ⟨_,ty36,U⟩⟩,trivial⟩ a ha w hw,hw.sub (List.nil_sublist _),U,_,U,⟨vb,vc,wb,wc⟩,?_,?_⟩
  .rw[he];rfl
  rw[he];exact⟨h1,h2⟩
 have pan:∀(hh:HF)(e0 ee:Int)(B:LH)(e:Env),bj cK signed u ba cB ah=(⟨0,0,[],[]⟩,ee)->e 12=Q b12->e 13=Q b13 ->
   TP prog (bodyFrame 9) 69 [{ v:=errV ee,recovered:=false }] (mN prog X (λx h' B=>B=[]/\∃v,x=.returned v/\(λv h'=>∃rr0:vu,v=.tuple #[.agg (fA.cells (bj cK signed u ba cB ah).1 rr0).toArray,I ((bj cK signed u ba cB ah).2)]/\fA.ok h' (bj cK signed u ba cB ah).1 rr0) v h')) e [{ target:=.fn (.func 24) #[],args:=xB [Q b13] }] X hh ((b13,O [I e0] 36)::(b12,verO 0 0 none 0 0 none 0 0)::B):=by
  intro hh e0 ee B e he h12 h13
  refine C4 (c:=bodyOf Tryz.f24) (cap:=[Q b13]) (A:=[(b13,O [I e0] 36)]) (R':=λh'' B=>h''=hh/\B=[(b13,O [I ee] 36)]) func9 Gj U LP U LO (λX' _=>yG hh b13 e0 ee X') U ?_
  rintro h'' B2 _ ⟨rfl,rfl⟩ a ha w hw
  exact fin _ ⟨0,0,[],[]⟩ none 0 none 0 ee B e he qG qG h12 h13 a ha w hw
 refine sr (du 6 ty30 U U U (aX (v:=I (dY cK)) call26 (AF h cK gH mS hsm hk) U ?_))
 refine ut Ee (iY h (dY cK)).toXH U (λv_ v h1 hx1 hle1 hp1=>?_) (λee h1 hx1 hle1=>?_)
 rotate_left
 .obtain⟨e1,rfl⟩:=HE hx1
  exact pan h1 _ _ _ _ (by unfold bj;rw[e1];rfl) U U
 obtain⟨rfl,rfl⟩:=hp1
 have hc0:=Cz hx1
 refine qO 3 U (lA TR U (pk 6 ty27 U U U (pk 5 ty31 U U U (aH (cw call27 (oY h1 cK.cj _ _ signed cu ct 0 mS.cj eT hln) U (λv2 h2 hle2 hp2=>?_))))))
 obtain⟨fb,fc,rfl,_⟩:=hp2
 refine qO 3 U (cU 0 ty36 U U U U U U (qO 3 U (pk 0 ty36 U U U ?_)))
 refine ut Ee (iY h2 (bA cK.cj signed 0).2).toXH U (λv_ v h3 hx3 hle3 hp3=>?_) (λee h3 hx3 hle3=>?_)
 rotate_left
 .obtain⟨e1,rfl⟩:=HE hx3
  exact pan h3 _ _ _ _ (by unfold bj;rw[hc0,e1];rfl) U U
 obtain⟨rfl,rfl⟩:=hp3
 have hf0:=Cz hx3
 refine qO 3 U (lA PS U (pk 6 ty25 U U U (pk 4 ty32 U U U (aX (v:=.tuple #[I (aN cK.dN u 0 0 0 0).1,.bool (aN cK.dN u 0 0 0 0).2.1,I (aN cK.dN u 0 0 0 0).2.2]) call28 (tG h3 cK.dN _ _ u qs qp 0 0 0 0 (mS.mono hle2).dN (hu.mono Use.aG hle2) hsm.2.2.2.2.1) U (qO 4 U (cU 0 ty36 U U U U U U (qO 3 U (pk 0 ty36 U U U ?_))))))))
 refine ut Ee (iY h3 (aN cK.dN u 0 0 0 0).2.2).toXH U (λv_ v h4 hx4 hle4 hp4=>?_) (λee h4 hx4 hle4=>?_)
 rotate_left
 .obtain⟨e1,rfl⟩:=HE hx4
  exact pan h4 _ _ _ _ (by unfold bj;rw[hc0,hf0,e1];rfl) U U
 obtain⟨rfl,rfl⟩:=hp4
 have hb0:=Cz hx4
 refine qO 3 U (du 6 ty30 U U U (bD (pk 3 ty3 U U U (pk 2 ty3 U U U ?_))))
 refine ut call29 (BV h4 cK gH ba cB ah (mS.mono hle2)) U (λc v h5 hx5 hle5 hp5=>?_) (λee h5 hx5 hle5=>?_)
 rotate_left
 .exact pan h5 _ _ _ _ (by unfold bj;rw[hc0,hf0,hb0,hx5];rfl) U U
 obtain⟨cr,rfl,okc⟩:=hp5
 have hj:bj cK signed u ba cB ah=(judgeC c cK signed u cB ah,0):=by unfold bj;rw[hc0,hf0,hb0,hx5];rfl
 obtain⟨hce,hco,_,_⟩:=F9 hc0 hx5
 have hreg:c.Register=cK:=by rw[hce]
 have hca:c.at_=cB:=by rw[hce]
 have hck:c.ah=ah:=by rw[hce]
 have hsc:smR c.Register:=by rw[hreg];exact hsm
 have hlc:c.Register.cj.length<20:=by rw[hreg];exact hln
 have hsg:cC c.Register.cj signed=true:=by rw[hreg];exact Lg hf0
 have hroom:(judgeRoom c cK u cB ah).2.2=0:=GM hb0 hco.kind hco.good.value (hca▸hco.time) (hck▸hco.know)
 rw[hb0]
 refine bJ zc96 (λb14=>bG 0 ty96 U U U U U U (bp ?_))
 refine sr (lA PR U (cU 2 ty3 U U U U U U (bp (gl 0 U hM (λg1 l1 f14=>gl 2 U hM (λg2 l2 f11=>gl 2 U hM (λg3 l3 f10=>gl 2 U hM (λg4 l4 f8=>gl 2 U hM (λg5 l5 f7=>gl 2 U hM (λg6 l6 f6=>?_))))))))))
 have a14:=(dM f14).mono (jA l2 (jA l3 (jA l4 (jA l5 l6))))
 have a11:=(dM f11).mono (jA l3 (jA l4 (jA l5 l6)))
 have a10:=(dM f10).mono (jA l4 (jA l5 l6))
 have a8:=(dM f8).mono (jA l5 l6)
 have a7:=(dM f7).mono l6
 have a6:=dM f6
 have l56:h5.le g6:=jA l1 (jA l2 (jA l3 (jA l4 (jA l5 l6))))
 have l06:h1.le g6:=jA hle2 (jA hle5 l56)
 have okg:=okc.mono l56
 have okr:=mS.mono l06
 have hsg6:=eT.mono qJ l06
 have hu6:=hu.mono Use.aG l06
 have hk6:=hk.mono l06
 clear f14 f11 f10 f8 f7 f6
 show TT _ _ _ _ _ _ _ _ g6 [(b13,O [I 0] 36),(b12,verO 0 (-1) none 0 0 none 0 0)]
 refine qT 3 U (aH (gB U U (aH (gv (cells:=[I 1,.func (.func 30) #[] #[Q b14,Q b7]]) (places:=[(0,1),(1,1)]) Q5 zc98 kr kr (aH (gB U U (aH (gv (cells:=[I 2,.func (.func 32) #[] #[Q b14,Q b7]]) (places:=[(0,1),(1,1)]) Q5 zc98 kr kr (aH (gB U U (aH (gv (cells:=[I 3,.func (.func 34) #[] #[Q b14,Q b12]]) (places:=[(0,1),(1,1)]) Q5 zc98 kr kr (aH (gB U U (aH (gv (cells:=[I 4,.func (.func 36) #[] #[Q b6,Q b8,Q b14,Q b10,Q b11,Q b12]]) (places:=[(0,1),(1,1)]) Q5 zc98 kr kr (aH (bT (cells:=[I 1,.func (.func 30) #[] #[Q b14,Q b7],I 2,.func (.func 32) #[] #[Q b14,Q b7],I 3,.func (.func 34) #[] #[Q b14,Q b12],I 4,.func (.func 36) #[] #[Q b6,Q b8,Q b14,Q b10,Q b11,Q b12]]) LN ty98 zc98 U U kr (λb15=>E6 LN U (qO 2 U ?_))))))))))))))))))))
 have ret:∀(hh:HF)(V:fA)(vb:Option Addr)(vc:Nat)(wb:Option Addr)(wc:Nat)(B:LH)(e:Env)(k:List Item),judgeC c cK signed u cB ah=V->SlC jB hh vb vc V.Versions->SlC jB hh wb wc V.Who->e 12=Q b12->e 13=Q b13 ->
   TT prog (bodyFrame 9) 69 (.code .ret::k) (mN prog X (λx h' B=>B=[]/\∃v,x=.returned v/\(λv h'=>∃rr0:vu,v=.tuple #[.agg (fA.cells (bj cK signed u ba cB ah).1 rr0).toArray,I ((bj cK signed u ba cB ah).2)]/\fA.ok h' (bj cK signed u ba cB ah).1 rr0) v h')) e [{ target:=.fn (.func 24) #[],args:=xB [Q b13] }] X hh ((b13,O [I 0] 36)::(b12,verO V.State V.Budget vb V.Versions.length vc wb V.Who.length wc)::B):=by
  intro hh V vb vc wb wc B e k hv h1 h2 h12 h13
  refine LZ (c:=bodyOf Tryz.f24) (cap:=[Q b13]) (A:=[(b13,O [I 0] 36)]) (R':=λh'' B=>h''=hh/\B=[(b13,O [I 0] 36)]) func9 Gj U LP U LO (λX' _=>IH hh b13 0 X') U ?_
  rintro h'' B2 _ ⟨rfl,rfl⟩ a ha w hw
  exact fin _ V vb vc wb wc 0 B e (by rw[hj,hv]) h1 h2 h12 h13 a ha w hw
 refine mZ (Gq (sr (iS (v':=.bool true) U U (qO 8 U (aH (eu (Hq (i:=0) LN ty98 U U ob) (du 0 ty98 U U U (bJ zc98 (λc0=>bG 0 ty98 U U U U U U (bp ?_))))))))))
 refine sr (lA Gg U (pk 0 ty33 U U U (aH (j8 (v:=.bool (hY c signed)) [] (List.nil_sublist _) (ip (cap:=[Q b14,Q b7]) call30 (EC g6 c cr ⟨b14,0,none⟩ signed cu ct ⟨b7,0,none⟩ okg a14 hsg6 a7 hsc hco hlc hsg)) U U (bp ?_)))))
 refine lu U (λk1=>?_) (λk1=>?_)
 .exact sr (lA Gh U (pk 0 ty3 U U U (lA DV U (cU 3 ty3 U U U U U U (qO 3 U (du 3 ty40 U U U (bG 3 ty40 U U U U U U (cU 2 ty36 U U U U U U (bp (cm (.cons _ (.cons _ (List.Sublist.refl _))) (ret g6 ⟨1,-1,[],[]⟩ none 0 none 0 [] _ _ (by unfold judgeC;rw[show hY c signed=true from k1];rfl) qG qG U U)))))))))))
 replace k1:hY c signed=false:=k1
 have hat:c.ba.At<=c.at_:=Kp k1
 refine qT 3 U (iS (v':=I 1) U U (qO 2 U (C3 (cm (.cons _ (List.Sublist.refl _)) (sr (iS (v':=.bool true) U U (qO 8 U (aH (eu (Hq (i:=1) LN ty98 U U ob) (du 0 ty98 U U U (bJ zc98 (λc1=>bG 0 ty98 U U U U U U (bp ?_)))))))))))))
 refine sr (lA Gg U (pk 0 ty33 U U U (aH (j8 (v:=.bool (iZ c signed)) [] (List.nil_sublist _) (ip (cap:=[Q b14,Q b7]) call32 (EB g6 c cr ⟨b14,0,none⟩ signed cu ct ⟨b7,0,none⟩ okg a14 hsg6 a7 hsc hco hlc hsg)) U U (bp ?_)))))
 refine lu U (λk2=>?_) (λk2=>?_)
 .exact sr (lA Gh U (pk 0 ty3 U U U (lA DV U (cU 3 ty3 U U U U U U (qO 3 U (du 3 ty40 U U U (bG 3 ty40 U U U U U U (cU 2 ty36 U U U U U U (bp (cm (.cons _ (.cons _ (List.Sublist.refl _))) (ret g6 ⟨2,-1,[],[]⟩ none 0 none 0 [] _ _ (by unfold judgeC;rw[k1,show iZ c signed=true from k2];rfl) qG qG U U)))))))))))
 replace k2:iZ c signed=false:=k2
 refine qT 3 U (iS (v':=I 2) U U (qO 2 U (C3 (cm (.cons _ (List.Sublist.refl _)) (sr (iS (v':=.bool true) U U (qO 8 U (aH (eu (Hq (i:=2) LN ty98 U U ob) (du 0 ty98 U U U (bJ zc98 (λc2=>bG 0 ty98 U U U U U U (bp ?_)))))))))))))
 refine sr (lA Gg rfl (pk 0 ty33 rfl rfl rfl (aH (De [(c2,O [I 3,.func (.func 34) #[] #[Q b14,Q b12]] 98),(b15,O [I 1,.func (.func 30) #[] #[Q b14,Q b7],I 2,.func (.func 32) #[] #[Q b14,Q b7],I 3,.func (.func 34) #[] #[Q b14,Q b12],I 4,.func (.func 36) #[] #[Q b6,Q b8,Q b14,Q b10,Q b11,Q b12]] 98),(b13,O [I 0] 36)] [(b12,verO 0 (-1) none 0 0 none 0 0)] rfl (np (args:=[]) (cap:=[Q b14,Q b12]) call34 (Ol g6 c cr ⟨b14,0,none⟩ b12 0 (-1) okg a14 hsc hco hat hk6)) rfl rfl (λv7 h7 B7 l7 hR=>?_) (λch h7 B7 l7 hR=>by obtain⟨_,_,_,_,_,hr,_⟩:=hR;cases hr)))))
 obtain⟨vb,vc,wb,wc,G,hr,rfl,sv7,gw⟩:=hR
 cases hr
 refine bp (fF qJ ([(c2,O [I 3,.func (.func 34) #[] #[Q b14,Q b12]] 98),(b15,O [I 1,.func (.func 30) #[] #[Q b14,Q b7],I 2,.func (.func 32) #[] #[Q b14,Q b7],I 3,.func (.func 34) #[] #[Q b14,Q b12],I 4,.func (.func 36) #[] #[Q b6,Q b8,Q b14,Q b10,Q b11,Q b12]] 98),(b13,O [I 0] 36)]++[(b12,verO 0 (-1) vb (askJ c).1.length vc wb (askAll c).length wc)]) G [] (by rw[List.append_nil];rfl) hM gw (λh8 l8 sw_z=>?_))
 have sv:=sv7.mono qJ l8
 have l68:g6.le h8:=jA l7 l8
 refine bY (L':=[(c2,O [I 3,.func (.func 34) #[] #[Q b14,Q b12]] 98),(b15,O [I 1,.func (.func 30) #[] #[Q b14,Q b7],I 2,.func (.func 32) #[] #[Q b14,Q b7],I 3,.func (.func 34) #[] #[Q b14,Q b12],I 4,.func (.func 36) #[] #[Q b6,Q b8,Q b14,Q b10,Q b11,Q b12]] 98),(b13,O [I 0] 36),(b12,verO 0 (-1) vb (askJ c).1.length vc wb (askAll c).length wc)]) (by rw[List.append_nil];rfl) ?_
 refine lu U (λk3=>?_) (λk3=>?_)
 .exact sr (lA Gh U (pk 0 ty3 U U U (lA DV U (cU 3 ty3 U U U U U U (qO 3 U (du 3 ty40 U U U (bG 3 ty40 U U U U U U (cU 2 ty36 U U U U U U (bp (cm (.cons _ (.cons _ (List.Sublist.refl _))) (ret h8 ⟨3,-1,(askJ c).1,askAll c⟩ vb vc wb wc [] _ _ (by unfold judgeC;rw[k1,k2,show(!(gq c))=true from k3];rfl) sv sw_z U U)))))))))))
 replace k3:(!(gq c))=false:=k3
 refine qT 3 U (iS (v':=I 3) U U (qO 2 U (C3 (cm (.cons _ (List.Sublist.refl _)) (sr (iS (v':=.bool true) U U (qO 8 U (aH (eu (Hq (i:=3) LN ty98 U U ob) (du 0 ty98 U U U (bJ zc98 (λc3=>bG 0 ty98 U U U U U U (bp ?_)))))))))))))
 refine sr (lA Gg U (pk 0 ty33 U U U (aH (De [(c3,O [I 4,.func (.func 36) #[] #[Q b6,Q b8,Q b14,Q b10,Q b11,Q b12]] 98),(b15,O [I 1,.func (.func 30) #[] #[Q b14,Q b7],I 2,.func (.func 32) #[] #[Q b14,Q b7],I 3,.func (.func 34) #[] #[Q b14,Q b12],I 4,.func (.func 36) #[] #[Q b6,Q b8,Q b14,Q b10,Q b11,Q b12]] 98),(b13,O [I 0] 36)] [(b12,verO 0 (-1) vb (askJ c).1.length vc wb (askAll c).length wc)] U (np (args:=[]) (cap:=[Q b6,Q b8,Q b14,Q b10,Q b11,Q b12]) call36 (Ok h8 cK gH ⟨b6,0,none⟩ u qs qp ⟨b8,0,none⟩ c cr ⟨b14,0,none⟩ cB ah ⟨b10,0,none⟩ ⟨b11,0,none⟩ b12 0 (-1) vb (askJ c).1.length vc wb (askAll c).length wc (okr.mono l68) (a6.mono l68) (hu6.mono Use.aG l68) (a8.mono l68) (a14.mono l68) (a10.mono l68) (a11.mono l68) hsm hroom)) U U (λv9 h9 B9 l9 hR=>?_) (λch h9 B9 l9 hR=>by cases hR.1)))))
 obtain⟨hr,rfl,rfl⟩:=hR
 cases hr
 refine bp (lu U (λk4=>?_) (λk4=>?_))
 .exact bY (L':=[(c3,O [I 4,.func (.func 36) #[] #[Q b6,Q b8,Q b14,Q b10,Q b11,Q b12]] 98),(b15,O [I 1,.func (.func 30) #[] #[Q b14,Q b7],I 2,.func (.func 32) #[] #[Q b14,Q b7],I 3,.func (.func 34) #[] #[Q b14,Q b12],I 4,.func (.func 36) #[] #[Q b6,Q b8,Q b14,Q b10,Q b11,Q b12]] 98),(b13,O [I 0] 36),(b12,verO 0 (judgeRoom c cK u cB ah).1 vb (askJ c).1.length vc wb (askAll c).length wc)]) (by rw[show(!(judgeRoom c cK u cB ah).2.1)=true from k4];rfl) (sr (lA Gh U (pk 0 ty3 U U U (lA DV U (cU 3 ty3 U U U U U U (qO 3 U (du 3 ty40 U U U (bG 3 ty40 U U U U U U (cU 2 ty36 U U U U U U (bp (cm (.cons _ (.cons _ (List.Sublist.refl _))) (ret h9 ⟨4,(judgeRoom c cK u cB ah).1,(askJ c).1,askAll c⟩ vb vc wb wc [] _ _ (by unfold judgeC;rw[k1,k2,k3,show(!(judgeRoom c cK u cB ah).2.1)=true from k4];rfl) sv sw_z U U))))))))))))
 replace k4:(!(judgeRoom c cK u cB ah).2.1)=false:=k4
 exact bY (L':=[(c3,O [I 4,.func (.func 36) #[] #[Q b6,Q b8,Q b14,Q b10,Q b11,Q b12]] 98),(b15,O [I 1,.func (.func 30) #[] #[Q b14,Q b7],I 2,.func (.func 32) #[] #[Q b14,Q b7],I 3,.func (.func 34) #[] #[Q b14,Q b12],I 4,.func (.func 36) #[] #[Q b6,Q b8,Q b14,Q b10,Q b11,Q b12]] 98),(b13,O [I 0] 36),(b12,verO 0 (-1) vb (askJ c).1.length vc wb (askAll c).length wc)]) (by rw[k4];rfl) (qT 3 U (iS (v':=I 4) U U (qO 2 U (C3 (cm (.cons _ (List.Sublist.refl _)) (sr (iS (v':=.bool false) U U (qO 6 U (lA DV U (cU 2 ty3 U U U U U U (qO 3 U (du 2 ty40 U U U (bG 2 ty40 U U U U U U (cU 1 ty36 U U U U U U (bp (cm (.cons _ (List.Sublist.refl _)) (ret h9 ⟨0,-1,(askJ c).1,askAll c⟩ vb vc wb wc [] _ _ (by unfold judgeC;rw[k1,k2,k3,k4];rfl) sv sw_z U U)))))))))))))))))
theorem pE(h l fg ff)(t:Int)(cmp:ao->Int->Int)(cmp_v)(k:Nat)(hl:SlC ao.rp h fg ff l)(hcmp:∀(h':HF)(ef:ao)(r_:ox)(Ec:Int),xJ h h'->ao.ok h' ef r_->qw prog cmp_v [.agg (ao.cells ef r_).toArray,I Ec] h' [] (I (cmp ef Ec)))(hk:k<=l.length)(hlo:∀i y,i<k->l[i]? = some y->cmp y t<0)(hhi:∀i y,k<=i->l[i]? = some y->¬cmp y t<0)(hsz:l.length<=2000000):
  Ret prog 59 [.slice fg l.length ff,I t,cmp_v] h (retVal [I (k:Nat),.bool ((l[k]?).any λy=>cmp y t==0)]):=by
 refine sT func59 U ntmps59 U λX hM hX hF=>qK 18 [] U ?_
 refine gx (ι:=Unit) (λ_=>[(0,.slice fg l.length ff),(1,I t),(2,cmp_v),(8,I (l.length:Int)),(9,I (k:Int))]) (λ_=>h) (λ_=>[]) (λ_=>True) ?_ (λhx=>?_)
 .rintro⟨⟩ _ e
  refine qT 5 U ?_
  rcases xM k l.length with hlt|hge
  .have hget:l[k]? = some l[k]:=List.getElem?_eq_getElem hlt
   refine tO (decide_eq_true ob) U (qO 4 U (aH (iR w7 ty54 hl.1 hget U U U (λ_ _ _ e=>e) (λq r_ A ok_=>eJ ty54 A U U (bD (aH (j8 (v:=I (cmp l[k] t)) [] (List.nil_sublist _) (hcmp h l[k] _ t lf ok_) U U (iS (v':=.bool (cmp l[k] t==0)) U U (mU (s:=true) U (qO 3 U (nretP [I (k:Int),.bool (cmp l[k] t==0)] ?_)))))))))))
   rw[hget];rfl
  have hget:l[k]? = none:=List.getElem?_eq_none hge
  refine fO (decide_eq_false ob) U (qO 9 U (mU (s:=false) U (qO 3 U (nretP [I (k:Int),.bool false] ?_))))
  rw[hget];rfl
 refine jw (ι:=Nat×Nat) (λi=>[(0,.slice fg l.length ff),(1,I t),(2,cmp_v),(8,I (l.length:Int)),(9,I (i.1:Int)),(10,I (i.2:Int))]) (λi=>h) (λi=>[]) (λi=>i.1<=k/\k<=i.2/\i.2<=l.length) (λi=>i.2-i.1) (0,l.length) rd (λw hw=>hw) ⟨xH _,hk,vE _⟩ ?_
 rintro⟨i,j⟩ ⟨hik,hkj,hjl⟩ ag e
 dsimp only at hik hkj hjl
 rcases xM i j with hij|hij
 .refine qT 5 U (tO (decide_eq_true ob) U (qO 8 U (iS (v':=I ((i+j:Nat):Int)) U (by rw[lI ob];rfl) (aH (eu (KT (m':=((i+j:Nat):Int)) mR Rq U (u64w ob)) (aH (eu (RR (m:=i+j) U U) (aH (eu (KT (m':=(((i+j)/2:Nat):Int)) Rq mR U (i64w ob)) ?_)))))))))
  obtain⟨q,hq⟩:∃q,(i+j)/2=q:=⟨_,rfl⟩
  rw[hq]
  have hqj:q<j:=by omega
  have hget:l[q]? = some l[q]:=List.getElem?_eq_getElem ob
  refine qO 7 U (aH (iR w7 ty54 hl.1 hget U U U (λ_ _ _ e=>e) (λq' r_ A ok_=>eJ ty54 A U U (bD (aH (j8 (v:=I (cmp l[q] t)) [] (List.nil_sublist _) (hcmp h l[q] _ t lf ok_) U U ?_))))))
  by_cases hc:cmp l[q] t<0
  .have hqk:q<k:=by
    rcases xM q k with h1|h1
    .exact h1
    exact(hhi q _ h1 hget hc).elim
   exact tO (decide_eq_true hc) U (qO 4 U (oi q U (qO 3 U (ag (q+1,j) _ (by show j-(q+1)<j-i;omega) ⟨hqk,hkj,hjl⟩ rd))))
  have hqk:k<=q:=by
   rcases xM q k with h1|h1
   .exact(hc (hlo q _ h1 hget)).elim
   exact h1
  exact fO (decide_eq_false hc) U (qO 7 U (ag (i,q) _ (by show q-i<j-i;omega) ⟨hik,hqk,by show q<=l.length;omega⟩ rd))
 have hki:i=k:=by omega
 subst hki
 exact el (qT 4 U (fO (decide_eq_false ob) U (qO 3 U (hx () _ trivial rd))))
theorem pT(h l fg ff)(t:Int)(cmp:aD->Int->Int)(cmp_v)(k:Nat)(hl:SlC aD.rp h fg ff l)(hcmp:∀(h':HF)(ef:aD)(r_:pL)(Ec:Int),xJ h h'->aD.ok h' ef r_->qw prog cmp_v [.agg (aD.cells ef r_).toArray,I Ec] h' [] (I (cmp ef Ec)))(hk:k<=l.length)(hlo:∀i y,i<k->l[i]? = some y->cmp y t<0)(hhi:∀i y,k<=i->l[i]? = some y->¬cmp y t<0)(hsz:l.length<=2000000):
  Ret prog 131 [.slice fg l.length ff,I t,cmp_v] h (retVal [I (k:Nat),.bool ((l[k]?).any λy=>cmp y t==0)]):=by
 refine sT func131 U ntmps131 U λX hM hX hF=>qK 18 [] U ?_
 refine gx (ι:=Unit) (λ_=>[(0,.slice fg l.length ff),(1,I t),(2,cmp_v),(8,I (l.length:Int)),(9,I (k:Int))]) (λ_=>h) (λ_=>[]) (λ_=>True) ?_ (λhx=>?_)
 .rintro⟨⟩ _ e
  refine qT 5 U ?_
  rcases xM k l.length with hlt|hge
  .have hget:l[k]? = some l[k]:=List.getElem?_eq_getElem hlt
   refine tO (decide_eq_true ob) U (qO 4 U (aH (iR Ch ty63 hl.1 hget U U U (λ_ _ _ e=>e) (λq r_ A ok_=>eJ ty63 A U U (bD (aH (j8 (v:=I (cmp l[k] t)) [] (List.nil_sublist _) (hcmp h l[k] _ t lf ok_) U U (iS (v':=.bool (cmp l[k] t==0)) U U (mU (s:=true) U (qO 3 U (nretP [I (k:Int),.bool (cmp l[k] t==0)] ?_)))))))))))
   rw[hget];rfl
  have hget:l[k]? = none:=List.getElem?_eq_none hge
  refine fO (decide_eq_false ob) U (qO 9 U (mU (s:=false) U (qO 3 U (nretP [I (k:Int),.bool false] ?_))))
  rw[hget];rfl
 refine jw (ι:=Nat×Nat) (λi=>[(0,.slice fg l.length ff),(1,I t),(2,cmp_v),(8,I (l.length:Int)),(9,I (i.1:Int)),(10,I (i.2:Int))]) (λi=>h) (λi=>[]) (λi=>i.1<=k/\k<=i.2/\i.2<=l.length) (λi=>i.2-i.1) (0,l.length) rd (λw hw=>hw) ⟨xH _,hk,vE _⟩ ?_
 rintro⟨i,j⟩ ⟨hik,hkj,hjl⟩ ag e
 dsimp only at hik hkj hjl
 rcases xM i j with hij|hij
 .refine qT 5 U (tO (decide_eq_true ob) U (qO 8 U (iS (v':=I ((i+j:Nat):Int)) U (by rw[lI ob];rfl) (aH (eu (KT (m':=((i+j:Nat):Int)) mR Rq U (u64w ob)) (aH (eu (RR (m:=i+j) U U) (aH (eu (KT (m':=(((i+j)/2:Nat):Int)) Rq mR U (i64w ob)) ?_)))))))))
  obtain⟨q,hq⟩:∃q,(i+j)/2=q:=⟨_,rfl⟩
  rw[hq]
  have hqj:q<j:=by omega
  have hget:l[q]? = some l[q]:=List.getElem?_eq_getElem ob
  refine qO 7 U (aH (iR Ch ty63 hl.1 hget U U U (λ_ _ _ e=>e) (λq' r_ A ok_=>eJ ty63 A U U (bD (aH (j8 (v:=I (cmp l[q] t)) [] (List.nil_sublist _) (hcmp h l[q] _ t lf ok_) U U ?_))))))
  by_cases hc:cmp l[q] t<0
  .have hqk:q<k:=by
    rcases xM q k with h1|h1
    .exact h1
    exact(hhi q _ h1 hget hc).elim
   exact tO (decide_eq_true hc) U (qO 4 U (oi q U (qO 3 U (ag (q+1,j) _ (by show j-(q+1)<j-i;omega) ⟨hqk,hkj,hjl⟩ rd))))
  have hqk:k<=q:=by
   rcases xM q k with h1|h1
   .exact(hc (hlo q _ h1 hget)).elim
   exact h1
  exact fO (decide_eq_false hc) U (qO 7 U (ag (i,q) _ (by show q-i<j-i;omega) ⟨hik,hqk,by show q<=l.length;omega⟩ rd))
 have hki:i=k:=by omega
 subst hki
 exact el (qT 4 U (fO (decide_eq_false ob) U (qO 3 U (hx () _ trivial rd))))
end
end Go.Sg
