import Derived.Test.YtgddeppkkjefjaaGreatDoorCards
import Derived.Test.YtgddeppkkjefjaaGreatDoorTie
import Derived.ProofKit
import Derived.Deep.DeepHandedRow
import Derived.Test.YtgddeppkkjefjaaGreatDoorW8
/- A part of the proof of AsofJudged. -/
set_option linter.unusedVariables false
set_option linter.unusedSimpArgs false
set_option maxRecDepth 100000
open List renaming length_cons→zA,length_append→kA,length_nil→vB,toArray→kB,append_assoc→qE
open Go.Sg.Rp renaming int→zC,aO→zH
open Go.Sg.Approval renaming cells→zD,av→kL
open Go.Sg.Policy renaming cells→kD,ok→kN
open Go.Sg.HF renaming le_trans→qF
open Go.Sg.SlC renaming nil→zF
open Go.Sg.Register renaming cells→jF,ok→qP
open Nat renaming zero_le→vM,le_trans→jP
open Go.Sg.Appoint renaming av→Se
open Go.Sg.Holder renaming av→SJ,rp→S1

namespace Go.Sg
variable {P:Program}{f:FuncId}{pe:Int->Go.Value}{v:Go.Value}{vs:List Go.Value}{x:Operand}{ρ:Type}
section
open Go.Proofs Go.Proofs.Tryz
set_option maxHeartbeats 2000000
theorem wh(h:HF)(c:bL)(og:kd)(c_q:Addr)(p:Policy)(gG:eU)(p_q:Addr)(hc:bL.ok h c og)(ac:At h c_q (bL.cells c og))(hp:kN h p gG)(ap_z:At h p_q (kD p gG))(hsm:smR c.Register)(hco:jt c)(hpr:p.Rules.length=p.Kinds.length/\∀y∈p.Rules,0<=y.Think/\y.Think<=1099511627775):Itr prog (.func (.func 189) #[] (kB [.pointer (some c_q),.pointer (some p_q)])) pk (cN c p) h:=by
 refine rl call189 ?_
 intro yf ya yb C Sp Pn h1 A hle m1 m2 m3 hC hy
 refine iN KN U ntmps189 U λX hXM hX=>?_
 have hs0:cN c p=[]++cN c p:=rfl
 have hkd:=hco.kind
 refine qK 5 [] U (ky (j:=9) ty3 (ac.mono hle) U U (qL 1 [] U (ky (j:=1) ty89 (ap_z.mono hle) U U (qL 3 [] U (jf U (λc1=>?_) (λc1=>?_))))))
 .have c1p:=of_decide_eq_true c1
  have hs1:=hs0.trans (congrArg ([]++·) (bt c1))
  refine dQ ?_
  have hs2:cN c p=[]:=hs1.trans (List.append_nil _)
  exact mi [] (A:=A) KN U (List.Sublist.refl _) (.inl (hs2▸hC))
 have c1p:=of_decide_eq_false c1
 have hs3:=hs0.trans (congrArg ([]++·) (bf c1))
 refine qT 2 U (eQ ([]) mixed kr jn (λeF _=>qB [0,1] U (tf 2 U U (rH 6 ty28 (ac.mono hle) U U) (qB [3,4] U (tf 5 U U (rH 7 ty3 (ac.mono hle) U U) (qB [6,7] U (tf 8 U U (rH 8 ty3 (ac.mono hle) U U) (qB [9] U (tf 10 U U (rH 3 ty92 (ap_z.mono hle) U U) (qB [11,12] U (tf 13 U U (rH 9 ty3 (ac.mono hle) U U) ?_)))))))))))
 have ho1:0<=(c.doc.Kind:Int)/\(c.doc.Kind:Int)<((p.Rules).length:Int):=ob
 refine km 14 eF jn tQ ty91 (hp.Rules.mono Rule.av hle).1 ho1 (dy ho1) U U U U kr (λq1 cs1 A1 ln1 rr1=>?_)
 obtain⟨r1,rfl,ok1⟩:=rr1
 refine qB [15] U (tf 16 U U (rH 2 ty3 A1 U U) (qB [17] U (tf 18 U U (rH 48 ty3 (ac.mono hle) U U) (qB [19] U (tf 20 U U (rH 49 ty3 (ac.mono hle) U U) (tn 21 U (cJ call190 (wp _ _ _ _ c.doc.No c.doc.At ((nthI p.Rules c.doc.Kind).Think) c.at_ c.known (hc.Register.Approvals.mono kL hle) hsm.2.2.2.2.2.2) U (λv1 h2 hle1 hp1=>?_))))))))
 obtain⟨rb1,rc1,rfl,sl1⟩:=hp1
 refine⟨⟨hle1,λ_ hp=>List.Sublist.subset (List.nil_sublist _) hp⟩,nr (K2:=[]) hle1 (λ_ hp=>hp) (qR 22 5 U (aN kr (qT 3 U (aw (n2 vr (iB h2 ((cU c.Register.Approvals c.doc.No c.doc.At ((nthI p.Rules c.doc.Kind).Think) c.at_ c.known).2)) (by first|exact mu (xu hco hpr ob)|exact mu (xr hco (fS hd1))|exact mu (xw hco (fS hd1))) U (qL 7 [] U ?_))))))⟩
 refine lp2 ((cU c.Register.Approvals c.doc.No c.doc.At ((nthI p.Rules c.doc.Kind).Think) c.at_ c.known).1) (λi w=>[(0,.func yf ya yb),(1,.pointer (some c_q)),(48,.slice rb1 (((cU c.Register.Approvals c.doc.No c.doc.At ((nthI p.Rules c.doc.Kind).Think) c.at_ c.known).1).length) rc1),(49,I ((((cU c.Register.Approvals c.doc.No c.doc.At ((nthI p.Rules c.doc.Kind).Think) c.at_ c.known).1).length:Nat):Int)),(50,I (i:Int))]) (λw=>w.2.2) (λw=>w.2.1) (λi w=>C w.1 w.2.2 w.2.1/\HF.le h2 w.2.2) (λs1 i w=>w.1++(cN.L1 c (cN.K1)) s1) ([],A,h2) sl1.1.1 hs3 ⟨(m1 _ _ _ _ hle1 hC),lf⟩ ?_ ?_
 .rintro i1 ⟨dn1,A1_,hh1⟩ fB hs4 ⟨hC1_,hl1⟩ e
  refine dQ ?_
  have hs5:cN c p=dn1:=hs4.trans (List.append_nil _)
  exact rm [] (A:=A1_) KN U (List.Sublist.refl _) (.inl (hs5▸hC1_))
 rintro i1 ⟨dn1,A1_,hh1⟩ y1 rz1 hd1 du bo eA gD hs6 ⟨hC1_,hl1⟩ hx1 ag1 e
 refine sr (tO du U (qO 8 U (aw (iF zD Ai ty163 (sl1.mono kL hl1).1 bo U U U (λq3 A3=>dl ty163 A3 U U (aU zc163 (λb2=>aR 0 ty163 U U U U U U (gS (L':=[(b2,O (zD y1) 163)]++(A1_)) U (qL 5 [] U (de ty22 (ac.mono ((hle.t hle1).t hl1)) U (qL 5 [0,0] U (ky (j:=48) ty3 (ac.mono ((hle.t hle1).t hl1)) U U (qL 1 [] U (ky (j:=49) ty3 (ac.mono ((hle.t hle1).t hl1)) U U (ai call191 (BP _ _ _ _ y1.Office y1.For c.at_ c.known (hc.Register.Appoints.mono Se ((hle.t hle1).t hl1))) U (qO 13 U (aw (n2 vr (iB hh1 ((hO c.Register.Appoints y1.Office y1.For c.at_ c.known).2.2.2)) (by first|exact mu (xu hco hpr ob)|exact mu (xr hco (fS hd1))|exact mu (xw hco (fS hd1))) U (qL 5 [] U (ky (j:=1) ty23 (ac.mono ((hle.t hle1).t hl1)) U U (qL 8 [0,0,0] U (ky (j:=9) ty3 (ac.mono ((hle.t hle1).t hl1)) U U (qL 2 [] U (ky (j:=10) ty3 (ac.mono ((hle.t hle1).t hl1)) U U (qL 1 [] U (ky (j:=48) ty3 (ac.mono ((hle.t hle1).t hl1)) U U (qL 1 [] U (ky (j:=49) ty3 (ac.mono ((hle.t hle1).t hl1)) U U (aw (cJ call192 (Bh _ _ _ _ y1.For y1.By y1.Office c.doc.Kind c.doc.Value c.at_ c.known (hc.Register.Deputies.mono Deputy.av ((hle.t hle1).t hl1)) hsm.2.2.1) U (λv3 h4 hle3 hp3=>?_)))))))))))))))))))))))))))))))
 obtain⟨rb3,rc3,rfl,sl3⟩:=hp3
 refine qO 11 U (aw (n2 vr (iB h4 ((aI c.Register.Deputies y1.For y1.By y1.Office c.doc.Kind c.doc.Value c.at_ c.known).2.2)) (by first|exact mu (xu hco hpr ob)|exact mu (xr hco (fS hd1))|exact mu (xw hco (fS hd1))) U (qO 5 U (bD 2 [100,101,102] 100 102 ((aI c.Register.Deputies y1.For y1.By y1.Office c.doc.Kind c.doc.Value c.at_ c.known).2.1) U (λc2 hk1=>?_) (λe=>?_)))))
 .exact ao (eM U (hk1 _ U))
 refine ao (bD 6 [103,104,105,106,107,108,109] 103 109 (!(iO c y1.For)) U (λc3 hk2=>?_) (λe=>?_))
 .exact dl ty72 (ac.mono (((hle.t hle1).t hl1).t hle3)) U U (qL 2 [0] U (ai call193 (pM _ _ _ y1.For (hc.mono (((hle.t hle1).t hl1).t hle3)) hsm ob (by first|exact GX hco (fS hd1)|exact JA hco (fS hd1))) U (qO 2 U (hk2 _ U))))
 refine ao (bD 6 [110,111,112,113,114,115,116] 110 116 (!(iO c y1.By)) U (λc4 hk3=>?_) (λe=>?_))
 .exact dl ty72 (ac.mono (((hle.t hle1).t hl1).t hle3)) U U (qL 2 [0] U (ai call193 (pM _ _ _ y1.By (hc.mono (((hle.t hle1).t hl1).t hle3)) hsm ob (by first|exact GX hco (fS hd1)|exact JA hco (fS hd1))) U (qO 2 U (hk3 _ U))))
 refine ao (nq 117 U (λc5=>?_) (λc5=>?_))
 .have hs7:=hs6.trans (congrArg (dn1++·) (bt c5))
  refine ao (cI 0 ty163 U U U ?_)
  have hx1:cN c p=dn1++(y1::(cN.L1 c (cN.K1) rz1)):=hs7
  refine aw (j2 ([(b2,O (zD y1) 163)]) A1_ ap (hy dn1 y1 _ _ _ _ hx1 ((hle1.t hl1).t hle3) (m1 _ _ _ _ hle3 hC1_) U) U U (λh5 A4 hle4 hC1=>?_) (λh6 A5 hle5 hS1=>?_) (λch1 h7 A6 hle6 hP1 e=>gk (mC [] (A:=A6) KN (List.sublist_append_right _ _) hP1)))
  .have hs8:cN c p=(dn1++[y1])++((cN.L1 c (cN.K1) rz1)):=hx1.trans ap
   exact lL U (qO 6 U (oi i1 U (qO 2 U (bj (L':=A4) js (ag1 ((dn1++[y1]),A4,h5) hs8 ⟨hC1,((hl1.t hle3).t hle4)⟩)))))
  exact lL U (qO 3 U (dQ (mi [] (A:=A5) KN U js (.inr hS1))))
 have hs9:=hs6.trans (congrArg (dn1++·) (bf c5))
 exact kq (qO 8 U (oi i1 U (qO 2 U (bj (L':=A1_) js (ag1 (dn1,A1_,h4) hs9 ⟨(m1 _ _ _ _ hle3 hC1_),(hl1.t hle3)⟩)))))
theorem yz(h:HF)(c:bL)(og:kd)(p:Policy)(gG:eU)(hc:bL.ok h c og)(hp:kN h p gG)(hsm:smR c.Register)(hco:jt c)(hpr:p.Rules.length=p.Kinds.length/\∀y∈p.Rules,0<=y.Think/\y.Think<=1099511627775):jY prog 123 [.agg (bL.cells c og).toArray,.agg (kD p gG).toArray] h (λv h'=>∃(rv0:Value),v=rv0/\Itr prog rv0 pk (gV c p) h'):=by
 refine sT func123 U ntmps123 U λX hM hX hF=>?_
 have hs0:=@rfl _ (gV c p)
 refine sr (ct (λb1=>ct (λb2=>qO 4 U (aP 1 U hM (λh1 hle1 hb1=>aP 0 U hM (λh2 hle2 hb2=>aw (dS U U (an ?_))))))))
 have hs1:gV c p=(cN c p):=hs0
 exact nretH [.func (.func 189) #[] #[Q b1,Q b2]] (hs1▸⟨(.func (.func 189) #[] #[Q b1,Q b2]),U,(wh h2 c og ⟨b1,0,none⟩ p gG ⟨b2,0,none⟩ (hc.mono (hle1.t hle2)) ((bI hb1).mono hle2) (hp.mono (hle1.t hle2)) (bI hb2) ob ob ob)⟩)
theorem wg(h:HF)(c:bL)(og:kd)(p:Policy)(gG:eU)(hc:bL.ok h c og)(hp:kN h p gG)(hsm:smR c.Register)(hco:jt c)(hpr:p.Rules.length=p.Kinds.length/\∀y∈p.Rules,0<=y.Think/\y.Think<=1099511627775):jY prog 72 [.agg (bL.cells c og).toArray,.agg (kD p gG).toArray] h (λv h'=>∃(rb0:Option Addr)(rc0:Nat),v=.slice rb0 (cL c p).length rc0/\SlC zC h' rb0 rc0 (cL c p)):=by
 refine cD func72 U ntmps72 U λX hM hX=>?_
 have hs0:=@rfl _ (cL c p)
 refine sr (ct (λb1=>ct (λb2=>aU zc31 (λb3=>qO 4 U (cI 2 ty72 U U U (cI 1 ty94 U U U (aw (cJ call123 (yz _ _ _ _ _ hc hp ob ob ob) U (λv1 h1 hle1 hp1=>?_)))))))))
 obtain⟨_,rfl,mo1⟩:=hp1
 refine qO 2 U (dQ ?_)
 let z1:Nat×Obj:=(b2,O (kD p gG) 94)
 let z2:Nat×Obj:=(b1,O (bL.cells c og) 72)
 refine cu (L':=([(b3,O [.slice none 0 0] 31),z1,z2])++markB []) ap ?_
 refine jw (it:=v1) (xs:=(gV c p)) (ι:=(List Int)×Option Addr×Nat×LH×HF) [] (λi=>i.2.2.2.2) (λi=>[(b3,O [.slice i.2.1 i.1.length i.2.2.1] 31),z1,z2]++(i.2.2.2.1)) (λs i=>cL c p=((cL.L1 (cL.K1)) s i.1)/\dA zC 3 i.2.2.2.2 i.1 i.2.1 i.2.2.1 i.2.2.2.1/\HF.le h1 i.2.2.2.2/\i.1.length+s.length<=2000000) (λ_=>False) (λ_=>False) 0 (λ_ _ _=>False) ([],none,0,[],h1) func72 U mo1 U qb (λ_ _ _ _ _ hq=>hq) U (show[(b3,O [.slice none 0 0] 31),z1,z2]=_ from U) ⟨hs0,dA.nil,lf,(by have hc:=Ob hsm p;simpa using hc)⟩ ?_ ?_ ?_ ?_ ?_
 .rintro l1 dm1 lp1 y1 rz1 vs1 ⟨aF,fw,fu,gX,hh1⟩ hr1 X hFR1 ⟨hs1,iP,hl1,u1_0⟩ hl01 hlr1 hv1 hX hXM hlp1 nx1 rt1 ex1 pn1
  try dsimp only at iP hl1 u1_0 hlr1
  obtain rfl:=hv1
  simp only[zA]at u1_0
  let z3:Nat×Obj:=(b3,O [.slice fw aF.length fu] 31)
  let z6:Nat×Obj:=(dm1,.deferred (some []))
  refine cu (L':=[(l1,.loop lp1),z6,z3,z1,z2]++(gX++(markB []))) ap (bu (aU zc163 (λb6=>aR 0 ty163 U U U U U U (gS (L':=[(b6,O (zD y1) 163),(l1,.loop lp1),z6,z3,z1,z2]++(gX++(markB []))) U ?_))))
  let z7:Nat×Obj:=(l1,.loop { lp1 with state:=.busy })
  let z8:Nat×Obj:=(b6,O (zD y1) 163)
  refine aH (jx 1 U hlp1 (qK 5 [3,0] U (aw (bB (cells:=[I y1.For]) eG ty3 zc3 U U kr (λb7=>aw (eo Rp.kZ ([(b7,O [I y1.For] 3),z8,z7,z6,z3,z1,z2]) (markB []) (λG=>[(b7,O [I y1.For] 3),z8,z7,z6,z3,z1,z2]++(markB []++G)) ap (λ_=>ap) eG ty3 zc3 U bytes3 (iP.mono zH hlr1) U U (fd 0 U (cE (y1.For) U U)) lo lo (λob2 oc2 G4 gr4=>uO (pX ([(b7,O [I y1.For] 3),z8,z7,z6,z3,z1,z2]) G4 (markB [])) (cB 4 ty31 U U U U U U (qO 2 U ?_)))))))))
  let z9:Nat×Obj:=(b3,O [.slice ob2 ((aF++[y1.For]).length) oc2] 31)
  exact bj (L':=[z7,z6,z9,z1,z2]++(G4++(markB []))) js (cu (L':=rdH l1 dm1 lp1 (([z9,z1,z2]++G4)++markB [])) ap (nx1 ((aF++[y1.For]),ob2,oc2,G4,hr1) _ _ ⟨hs1,gr4,(hl1.t hlr1),(by first|omega|(simp only[kA,zA,vB]at *;omega))⟩ lf))
 .rintro dm1 ⟨aF,fw,fu,gX,hh1⟩ hn1 ⟨hs2,iP,hl1,u1_0⟩ hln1 hl01
  try dsimp only at iP hl1 u1_0 hln1
  let z4:Nat×Obj:=(b3,O [.slice fw aF.length fu] 31)
  refine cu (L':=[z4,z1,z2]++(gX++(markB (dm1::[])))) ap (qK 4 [0] U (aw (my ([z4,z1,z2]) gX (markB (dm1::[])) KY (lH hn1 aF fw fu gX (iP.mono zH hln1) (by first|assumption|omega|(simp only[kA,zA,vB] ;omega))) ap U (λG5 gr5=>qL 4 [0] U (aw (my (v:=.slice fw (slices_Compact_int (sortI aF)).length fu) ([z4,z1,z2]) G5 (markB (dm1::[])) call74 (pL hn1 (sortI aF) fw fu G5 gr5) ap (by first|rfl|(simp only[gP];rfl)) (λG6 gr6=>gS (L':=[z4,z1,z2]++(G6++(markB (dm1::[])))) ap (cB 0 ty31 U U U U U U (aH ?_)))))))))
  let z5:Nat×Obj:=(b3,O [.slice fw ((slices_Compact_int (sortI aF)).length) fu] 31)
  refine fW zH ([z5,z1,z2]) G6 (markB (dm1::[])) ap hM gr6 (λh3 hle3 sl2=>?_)
  have hs3:cL c p=(slices_Compact_int (sortI aF)):=hs2
  exact cu (L':=([z5,z1,z2])++markB (dm1::[])) ap (oX (dm1::[]) [.slice fw ((slices_Compact_int (sortI aF)).length) fu] func72 U ⟨⟨0,_,_,_,_,U,U,.inr ⟨_,ty31,U⟩⟩,trivial⟩ ⟨fw,fu,congrArg (λr:List Int=>(.slice fw r.length fu:Value)) hs3.symm,(by rw[hs3];exact sl2)⟩)
 .exact xf
 .exact xf
 exact xf
theorem uh(h:HF)(c:bL)(og:kd)(p:Policy)(gG:eU)(who:List Int)(gF:Option Addr)(gE:Nat)(hc:bL.ok h c og)(hp:kN h p gG)(hwho:SlC zC h gF gE who)(hsm:smR c.Register)(hco:jt c)(hsp:smP p)(hofl:p.Offices.length<=32)(hsw:who.length<=2000000)(hk:Kinds h):Ret prog 73 [.agg (bL.cells c og).toArray,.agg (kD p gG).toArray,.slice gF who.length gE] h (.bool (dN c p who)):=by
 refine sT func73 U ntmps73 U λX hM hX hF=>?_
 have hs0:=@rfl _ (dN c p who)
 refine sr (ct (λb1=>ct (λb2=>qL 14 [0] U ?_)))
 let z1:Nat×Obj:=(b2,O (kD p gG) 94)
 let z2:Nat×Obj:=(b1,O (bL.cells c og) 72)
 refine lp2 p.Offices (λi w=>[(2,.slice gF who.length gE),(3,Q b1),(4,Q b2),(7,.slice w.2.1 w.1.length w.2.2.1),(15,I (p.Offices.length:Int)),(16,I (i:Int))]) (λw=>w.2.2.2.2) (λw=>[z1,z2]++(w.2.2.2.1)) (λi w=>dA (Rp.sl S1) 147 w.2.2.2.2 w.1 w.2.1 w.2.2.1 w.2.2.2.1/\w.1.length<=0+i/\HF.le h w.2.2.2.2/\(∀y∈w.1,y.length<=2000000)) (λs1 i w=>(dN.L1 c (dN.K1 c p who)) s1 i w.1) ([],none,0,[],h) hp.Offices.1.1 hs0 ⟨dA.nil,lo,lf,(λy hy=>(List.not_mem_nil hy).elim)⟩ ?_ ?_
 .rintro i1 ⟨Dm,Re,Rd,P6,hh1⟩ fB hs1 ⟨Ju,Oo,hl1,u1_0⟩ e
  try dsimp only at Ju Oo hl1 u1_0
  refine sr (cI 0 ty94 U U U (qL 8 [1,1] U (ox (Rp.tb SJ) ([z1,z2]) P6 ([]) ap hM Ju (λh3 hle3 sl3=>ai call84 (su _ _ _ c.doc.Kind c.doc.Value _ _ _ _ _ _ (hp.mono (hl1.t hle3)) sl3 (hwho.mono zH (hl1.t hle3)) hsp ob ob (hk.mono (hl1.t hle3))) U (qO 10 U (bD 3 [52,53,54,55] 52 55 ((bU p c.doc.Kind c.doc.Value Dm who).2==0) U (λc1 hk1=>?_) (λe=>?_)))))))
  .exact ao (qO 2 U (hk1 _ U))
  exact an (nretP [.bool ((bU p c.doc.Kind c.doc.Value Dm who).1&&((bU p c.doc.Kind c.doc.Value Dm who).2==0))] (cs hs1))
 rintro i1 ⟨Dm,Re,Rd,P6,hh1⟩ y1 rz1 hd1 du bo eA gD hs3 ⟨Ju,Oo,hl1,u1_0⟩ hx1 ag1 e
 try dsimp only at Ju Oo hl1 u1_0
 refine sr (tO du U (qL 21 [1,1,1] U (aw (cJ call124 (sx _ _ _ _ (i1:Int) c.at_ c.known (hc.Register.Appoints.mono Se hl1) hsm.2.1) U (λv2 h4 hle4 hp2=>?_)))))
 obtain⟨rb2,rc2,rfl,sl4⟩:=hp2
 exact ao (qO 8 U (aw (n2 vr (iB h4 ((dg c.Register.Appoints (i1:Int) c.at_ c.known).2)) (mu (JV ((lY _).1 hco.chk).1 ob hco.time hco.know)) U (qO 4 U (aw (bB (cells:=[.slice rb2 (((dg c.Register.Appoints (i1:Int) c.at_ c.known).1).length) rc2]) F9 ty147 zc147 U U kr (λb4=>aw (eo (Rp.Lm SJ) ([(b4,O [.slice rb2 (((dg c.Register.Appoints (i1:Int) c.at_ c.known).1).length) rc2] 147),z1,z2]) ([]) (λG=>[(b4,O [.slice rb2 (((dg c.Register.Appoints (i1:Int) c.at_ c.known).1).length) rc2] 147),z1,z2]++G) ap (λ_=>ap) F9 ty147 zc147 U bytes147 (Ju.mono (Rp.tb SJ) hle4) U U (fd 0 U (cE (R:=(Rp.sl S1)) ((dg c.Register.Appoints (i1:Int) c.at_ c.known).1) U ⟨rb2,rc2,U,sl4⟩)) lo lo (λob2 oc2 G2 gr2=>qO 4 U (oi i1 U (qO 2 U (bj (L':=[z1,z2]++G2) js (ag1 ((Dm++[(dg c.Register.Appoints (i1:Int) c.at_ c.known).1]),ob2,oc2,G2,h4) hs3 ⟨gr2,lo,(hl1.t hle4),(λy hy=>(List.mem_append.1 hy).elim (u1_0 y) (λhy=>by rw[List.mem_singleton.1 hy];exact jP (C7 _ _ _ _) hsm.2.1))⟩)))))))))))))
section
variable {P:Program} {e:Env} {X:Cx} {h:HF} {L:LH} {d:Option Nat} {ty:TypeId} {pos:String} {af:Array Edge} {g:Option (Nat×Bool)}
theorem Pp{t u:TypeId}(hT:∃ms,P.underlying t=some (.interface ms))(hx:e.ev x=.nilIface):∀w,St X h L w->(execOp e.ev ⟨d,.binOp .eql t x (.const .nilIface) u,ty,pos,af,g⟩).run P w=.ok (.value (.bool true)) w:=
  λw _=>by
    obtain⟨ms,hT⟩:=hT
    have hc:e.ev (.const .nilIface)=.nilIface:=rfl
    have he:(Op.equal t .nilIface .nilIface).run P w=.ok true w:=by
      rw[Op.equal,Op.maxDepth,show(10000:Nat)=9999+1 from rfl,Op.equalIn];simp[run_underlying hT]
    simp[execOp,hx,hc,eqGuard,binOp,he]
theorem Po{t u:TypeId}{T:TypeId}(hT:∃ms,P.underlying t=some (.interface ms))(hx:e.ev x=.iface T v):∀w,St X h L w->(execOp e.ev ⟨d,.binOp .eql t x (.const .nilIface) u,ty,pos,af,g⟩).run P w=.ok (.value (.bool false)) w:=
  λw _=>by
    obtain⟨ms,hT⟩:=hT
    have hc:e.ev (.const .nilIface)=.nilIface:=rfl
    have he:(Op.equal t (.iface T v) .nilIface).run P w=.ok false w:=by
      rw[Op.equal,Op.maxDepth,show(10000:Nat)=9999+1 from rfl,Op.equalIn];simp[run_underlying hT]
    simp[execOp,hx,hc,eqGuard,binOp,he]
theorem Kj{xt T:TypeId}{k:IntKind}(hT:P.underlying T=some (.int k))(hx:e.ev x=.iface T v):∀w,St X h L w->(execOp e.ev ⟨d,.typeAssert x xt T true,ty,pos,af,g⟩).run P w=.ok (.value (.tuple #[v,.bool true])) w:=
  λw _=>by simp[execOp,hx,Instr.typeAssert,run_underlying hT]
end
theorem KH(h:HF)(b1:Nat)(e0:Int)(X':Cx):TT prog (deferFrame 17) 14 [.code (bodyOf Tryz.f17)] (Fw prog X' .returning (λh' B=>h'=h/\B=[(b1,O [I e0] 37)])) (envArgs [Q b1]) [] X' h [(b1,O [I e0] 37)]:=by
  refine sr (Co (λcs_z Φ⟨c,rest,hcs,hm,_⟩=>by subst hcs;simp[recoverD,hm]) (aH ?_))
  exact ll (sr (aw (ff (Pp ⟨_,Nc⟩ U) (qO 6 U (Hh J3 U ⟨U,U⟩)))))
theorem KI(h:HF)(b1:Nat)(e0 ee:Int)(X':Cx):TT prog (deferFrame 17) 14 [.code (bodyOf Tryz.f17)]
    (λcs_z Φ=>∃c rest,cs_z=c::rest/\c.mode=.panicking [{ v:=errV ee,recovered:=false }]/\Fw prog X' (.panicking [{ v:=errV ee,recovered:=true }]) (λh' B=>h'=h/\B=[(b1,O [I ee] 37)]) ({ c with mode:=(.panicking [{ v:=errV ee,recovered:=true }]) }::rest) Φ)
    (envArgs [Q b1]) [] X' h [(b1,O [I e0] 37)]:=by
  refine sr (DN (F':=Fw prog X' (.panicking [{ v:=errV ee,recovered:=true }]) (λh' B=>h'=h/\B=[(b1,O [I ee] 37)])) (errV ee) (λcs_z Φ⟨c,rest,hcs,hm,hF⟩=>⟨_,by subst hcs;simp[recoverD,hm],hF⟩) (aH ?_))
  exact ll (sr (aw (ff (Po ⟨_,Nc⟩ U) (qO 4 U (aw (ff (Kj J8 U) (qO 11 U (aw (ff (fR U) (cB 0 ty37 U U U U U U (qO 2 U (Hh J3 U ⟨U,U⟩))))))))))))
theorem xU{b:Frame}{n:Nat}{ops:Array Oper}{l:List Oper}{k:List Item}{F:List Frame->(Machine->Prop)->Prop}{e:Env}{ds:List Deferred}{X:Cx}{h:HF}{L:LH}{d:Nat}{ty:TypeId}{pos:String}{af:Array Edge}{g:Option (Nat×Bool)}{ass:Array Operand}{ats:Array TypeId}{x:Except Int ρ}{φ:ρ->Value->HF->Prop}(hc:∀args w,(callFunc f args).run P w=.ok (.enter f args) w)(hs:G0 P f vs h pe x φ)(hvs:ass.toList.map e.ev=vs)(t':∀u v h',x=.ok u->h.le h'->φ u v h'->TO P b n ops l k F (upd e d v) ds X h' L)(tp:∀p h',x=.error p->h.le h'->TP P b n [{ v:=pe p,recovered:=false }] F e ds X h' L)(hdn:Nat.blt d n=true:=by rfl)(hg:guardB ops e ⟨some d,.call ⟨.value (.func f),ass,ats⟩,ty,pos,af,g⟩=true:=by rfl):
  TO P b n ops (⟨some d,.call ⟨.value (.func f),ass,ats⟩,ty,pos,af,g⟩::l) k F e ds X h L:=by
 refine Hg U (oJ hdn) U hg (λw hw=>?_)
 have harr:ass.map e.ev=vs.toArray:=Array.ext' (by simp[←hvs])
 refine⟨.enter f vs.toArray,w,?_,?_⟩
 .simp[execOp,resolve,Env.ev,Deferred.ofValue,invoke,harr,hc]
 refine ji (pT.mono (hs w (hw.sub (List.nil_sublist _)).pre) ?_)
 rintro y w' ⟨h',B,hst,rfl,hv⟩
 have hw2:=St.after (A:=[]) (B:=[]) (F:=L) hw hst
 cases y with
 |outgrown=>trivial
 |returned v=>
  cases x with
  |ok u=>obtain⟨v',hv,hφ⟩:=hv;cases hv;exact⟨h',_,hw2,t' _ _ _ rfl hst.le hφ⟩
  |error p=>cases hv
 |panicked ch=>
  cases x with
  |ok u=>obtain⟨v',hv,_⟩:=hv;cases hv
  |error p=>cases hv;exact⟨h',_,hw2,tp _ _ rfl hst.le⟩
theorem F5.toXH{h:HF}{enc:ρ->Value}{x:Except Int ρ}(hs:F5 P f vs h (exW pe enc x)):G0 P f vs h pe x (λu v h'=>v=enc u/\h'=h):=
  nL.mono hs (λr h' B hl hR=>by
    obtain⟨rfl,rfl,hv⟩:=hR
    refine⟨U,?_⟩
    cases x with
    |ok u=>simp only[exW]at hv;exact⟨_,hv,rfl,rfl⟩
    |error p=>simp only[exW]at hv;exact hv)
theorem BD{α : Type}{xs:List α}{i:Nat}{y:α}(h:xs[i]? = some y):xs.take (i+1)=xs.take i++[y]:=by
  rw[List.take_add_one,h];rfl
theorem zy(h:HF)(c:bL)(og:kd)(bv:Nat)(s0 b0:Int)(hc:bL.ok h c og)(hsm:smR c.Register)(hco:jt c)(hat:c.doc.At<=c.at_)(hk:Kinds h):
  nL prog 28 (kB [.agg (bL.cells c og).toArray,Q bv]) h [(bv,verO s0 b0 none 0 0 none 0 0)]
   (λr h' B=>∃vb vc wb wc G,r=.returned (.bool (ft c))/\B=(bv,verO s0 b0 vb (askJ c).1.length vc wb (askAll c).length wc)::G/\SlC zC h' vb vc (askJ c).1/\dA zC 3 h' (askAll c) wb wc G):=by
 have hJ:Jdg c.Register.Versions (askJ c):=G9 hco.vers hco.good.at_ hco.time hco.know hat
 have hJl:(askJ c).1.length<=256:=jP (KK _ _ _ _) hco.vers.len
 have hpx:∀y∈(askJ c).1,exOk (fE c y):=λy hy=>AI (hJ.mem y hy)
 have hpk:∀y∈(askJ c).1,OV (askP c y):=λy hy=>Bj hco hsm (PS (hpx y hy))
 refine cD func28 U ntmps28 U λX hM hX=>?_
 refine sr (ct (λb2=>an ?_))
 refine sr (j7 PH U (j7 PR U (n0 0 ty26 U U U (j7 HT U (j7 PL U (n0 0 ty3 U U U (j7 PG U (n0 0 ty3 U U U (j7 PF U (n0 0 ty3 U U U (aw (cJ call70 (rW h c.Register.Versions _ _ c.doc.At c.at_ c.known hc.Register.Versions hsm.vers hk) U (λv1 h1 hle1 hp1=>?_)))))))))))))
 obtain⟨vb,vc,rfl,slv⟩:=hp1
 refine qO 11 U (aw (n2 vr (iB h1 _) (mu hJ.err) U (qO 9 U (Lv eG U (qO 2 U ?_)))))
 refine lp2 (γ:=List Bool×Option Addr×Nat×LH×List Int×Option Addr×Nat×LH×HF) (x0:=(askJ c).1) (askJ c).1
  (λi g=>[(1,Q bv),(2,Q b2),(5,.slice vb (askJ c).1.length vc),(6,I (askJ c).2.1),(8,.slice g.2.1 g.1.length g.2.2.1),(31,.slice vb (askJ c).1.length vc),(32,I (((askJ c).1.length:Nat):Int)),(33,I (i:Int))])
  (λg=>g.2.2.2.2.2.2.2.2)
  (λg=>[(b2,O (bL.cells c og) 72),(bv,verO s0 b0 none 0 0 g.2.2.2.2.2.1 g.2.2.2.2.1.length g.2.2.2.2.2.2.1)]++(g.2.2.2.1++g.2.2.2.2.2.2.2.1))
  (λi g=>g.1=((askJ c).1.take i).map (askAns c)/\g.2.2.2.2.1=((askJ c).1.take i).flatMap (askWho c)/\dA Rp.bool 4 g.2.2.2.2.2.2.2.2 g.1 g.2.1 g.2.2.1 g.2.2.2.1/\dA zC 3 g.2.2.2.2.2.2.2.2 g.2.2.2.2.1 g.2.2.2.2.2.1 g.2.2.2.2.2.2.1 g.2.2.2.2.2.2.2.1/\h1.le g.2.2.2.2.2.2.2.2/\g.1.length<=i/\g.2.2.2.2.1.length<=i*2000000)
  (λs i _=>(askJ c).1.take i++s) ([],none,0,[],[],none,0,[],h1) ob rfl ⟨rfl,rfl,dA.nil,dA.nil,HF.le_refl _,vM _,vM _⟩ ?_ ?_
 .rintro i ⟨az,ab,ac,Ga,ws,wb,wc,Gw,hh⟩ hil hx0 ⟨ha,hw,gA,gW,hle,la,lw⟩ e
  dsimp only at ha hw gA gW hle la lw hx0
  rw[List.append_nil]at hx0
  rw[←hx0]at ha hw
  subst ha hw
  obtain⟨ws,hws⟩:∃ws,ws=(askJ c).1.flatMap (askWho c):=⟨_,rfl⟩
  have hall:askAll c=slices_Compact_int (sortI ws):=by rw[hws];rfl
  rw[←hws]at gW lw
  obtain⟨az,has⟩:∃az,az=(askJ c).1.map (askAns c):=⟨_,rfl⟩
  rw[←has]at gA la
  show TT _ _ _ _ _ (upds e [(1,Q bv),(2,Q b2),(5,.slice vb (askJ c).1.length vc),(6,I (askJ c).2.1),(8,.slice ab ((askJ c).1.map (askAns c)).length ac),(31,.slice vb (askJ c).1.length vc),(32,I (((askJ c).1.length:Nat):Int)),(33,I (i:Int))]) _ _ hh ([(b2,O (bL.cells c og) 72),(bv,verO s0 b0 none 0 0 wb ((askJ c).1.flatMap (askWho c)).length wc)]++(Ga++Gw))
  rw[←hws,←has]
  refine qT 3 U (aw (ff (fR U) (j7 Bd U (n0 1 ty31 U U U (aw (my ([(b2,O (bL.cells c og) 72),(bv,verO s0 b0 none 0 0 wb ws.length wc)]++Ga) Gw [] KY (lH hh ws wb wc Gw gW ob) (by simp only[qE,List.cons_append,List.nil_append,List.append_nil]) U (λG2 g2=>aH ?_)))))))
  refine qT 6 U (aw (ff (fR U) (j7 Bd U (n0 1 ty31 U U U (aw (my (v:=.slice wb (slices_Compact_int (sortI ws)).length wc) ([(b2,O (bL.cells c og) 72),(bv,verO s0 b0 none 0 0 wb ws.length wc)]++Ga) G2 [] call74 (pL hh (sortI ws) wb wc G2 g2) U (by simp only[gP];rfl) (λG3 g3=>?_)))))))
  refine aw (ff (fR U) (j7 PP U (cB 1 ty31 U U U U U U (aw (ff (fR U) (j7 Bd U (cB 1 ty31 U U U U U U (aH (cu (L':=[(b2,O (bL.cells c og) 72),(bv,verO s0 b0 vb (askJ c).1.length vc wb (slices_Compact_int (sortI ws)).length wc)]++(Ga++G3)) (by rw[List.append_nil,qE];rfl) ?_)))))))))
  have fin:∀(hz:HF)(r:Bool),hh.le hz->r=ft c->∀(e:Env),e 4=.bool r->∀k,TT prog (bodyFrame 28) 88 (.code .ret::k) (mm prog X (λr h' B=>∃vb vc wb wc G,r=.returned (.bool (ft c))/\B=(bv,verO s0 b0 vb (askJ c).1.length vc wb (askAll c).length wc)::G/\SlC zC h' vb vc (askJ c).1/\dA zC 3 h' (askAll c) wb wc G)) e [] X hz ([(b2,O (bL.cells c og) 72),(bv,verO s0 b0 vb (askJ c).1.length vc wb (slices_Compact_int (sortI ws)).length wc)]++(Ga++G3)):=by
   intro hz r hlz hr e he k
   subst hr
   refine m9 (v:=.bool (ft c)) (h2:=hz) (B:=(bv,verO s0 b0 vb (askJ c).1.length vc wb (slices_Compact_int (sortI ws)).length wc)::G3) func28 (λa ha w _=>by rw[←he];exact res1 U a ha w) (λw hw=>hw.sub (.cons _ (.cons_cons _ (List.sublist_append_right _ _)))) ⟨vb,vc,wb,wc,G3,U,?_,slv.mono zH (qF hle hlz),?_⟩
   .rw[hall]
   rw[hall];exact g3.mono zH hlz
  refine qT 6 U ?_
  refine jf U (λc1=>?_) (λc1=>?_)
  .exact sr (an (fin hh false lf (by unfold ft;rw[show((askJ c).2.1==0)=true from c1];rfl) _ U _))
  have hm:=hJ.mode2 (by simpa using c1)
  have hal:az.length<=256:=by rw[has,List.length_map];exact hJl
  refine qT 5 U (aw (AB ([(b2,O (bL.cells c og) 72),(bv,verO s0 b0 vb (askJ c).1.length vc wb (slices_Compact_int (sortI ws)).length wc)]) Ga G3 (v:=.tuple #[.bool ((fP (askJ c).2.1 az).1),I ((fP (askJ c).2.1 az).2)]) call75 Rp.rS gA U (λhz lz sl=>rX hz (askJ c).2.1 az ab ac sl ob) U ?_))
  exact ao (qO 8 U (aw (n2 vr (iB hh _) (mu (KM hm hal)) U (qO 6 U (fin hh _ lf (by unfold ft;rw[show((askJ c).2.1==0)=false from c1,cond_false,←has]) _ U _)))))
 rintro i ⟨az,ab,ac,Ga,ws,wb,wc,Gw,hh⟩ y r hd hlt hget hltp hbd hx0 ⟨ha,hw,gA,gW,hle,la,lw⟩ hx ag e
 dsimp only at ha hw gA gW hle la lw
 have hy:y∈(askJ c).1:=List.mem_of_getElem? hget
 have hcc:=hc.mono (qF hle1 hle)
 show TT _ _ _ _ _ (upds e [(1,Q bv),(2,Q b2),(5,.slice vb (askJ c).1.length vc),(6,I (askJ c).2.1),(8,.slice ab az.length ac),(31,.slice vb (askJ c).1.length vc),(32,I (((askJ c).1.length:Nat):Int)),(33,I (i:Int))]) _ _ hh ([(b2,O (bL.cells c og) 72),(bv,verO s0 b0 none 0 0 wb ws.length wc)]++(Ga++Gw))
 refine sr (tO hlt U (qO 8 U (aw (oY (enc:=λy=>[I y]) (λ_ _ _ e=>e) eG ty3 (slv.mono zH hle).1 (nthZ hget) (fV hget) U U U (λq1 A1=>de ty3 A1 U (an ?_))))))
 refine sr (cI 0 ty72 U U U (ao (aw (Ml call71 (we hh c og y hcc) (hpx y hy) U (λv3 h3 hle3 hp3=>?_)))))
 obtain⟨pr,rfl,okp⟩:=hp3
 refine aU zc94 (λb11=>aR 0 ty94 U U U U U U (aH ?_))
 refine sr (cI 1 ty72 U U U (cI 0 ty94 U U U (aw (cJ call72 (wg h3 c og (askP c y) pr (hcc.mono hle3) okp hsm hco (hpk y hy).rules) U (λv4 h4 hle4 hp4=>?_)))))
 obtain⟨ub,uc,rfl,slu⟩:=hp4
 refine qO 5 U (cI 1 ty72 U U U (cI 0 ty94 U U U (ao (ai (v:=.bool (askAns c y)) call73 (uh h4 c og (askP c y) pr (askWho c y) ub uc (hcc.mono (qF hle3 hle4)) (okp.mono hle4) slu hsm hco (hpk y hy).sm (hpk y hy).off (Es hsm _) (hk.mono (qF hle1 (qF hle (qF hle3 hle4))))) U ?_))))
 have hl4:hh.le h4:=qF hle3 hle4
 have hwl:=Es hsm (askP c y)
 refine aw (bB (cells:=[.bool (askAns c y)]) yD ty4 zc4 U U kr (λb13=>?_))
 refine aw (eo Rp.Cg ([(b13,O [.bool (askAns c y)] 4),(b11,O (kD (askP c y) pr) 94),(b2,O (bL.cells c og) 72),(bv,verO s0 b0 none 0 0 wb ws.length wc)]) Gw (λG=>[(b13,O [.bool (askAns c y)] 4),(b11,O (kD (askP c y) pr) 94),(b2,O (bL.cells c og) 72),(bv,verO s0 b0 none 0 0 wb ws.length wc)]++(Gw++G)) U (λ_=>U) yD ty4 zc4 U bytes4 (gA.mono Rp.rS hl4) U U (fd (ys:=[askAns c y]) 0 U ⟨[.bool (askAns c y)],[],U,U,U,U⟩) lo lo (λab2 ac2 Ga2 gA2=>an ?_))
 refine qT 3 U (aw (ff (fR U) (j7 Bd U (n0 3 ty31 U U U (ao (aw (eo Rp.kZ ([(b13,O [.bool (askAns c y)] 4),(b11,O (kD (askP c y) pr) 94),(b2,O (bL.cells c og) 72),(bv,verO s0 b0 none 0 0 wb ws.length wc)]) Ga2 (λG=>[(b13,O [.bool (askAns c y)] 4),(b11,O (kD (askP c y) pr) 94),(b2,O (bL.cells c og) 72),(bv,verO s0 b0 none 0 0 wb ws.length wc)]++(Ga2++G)) U (λ_=>U) eG ty3 zc3 U bytes3 (gW.mono zH hl4) U U (zb slu.1) (by show(_+(askWho c y).length)*_<=_;unfold askWho;omega) (by show _+(askWho c y).length<=_;unfold askWho;omega) (λwb2 wc2 Gw2 gW2=>?_))))))))
 refine aw (ff (fR U) (j7 Bd U (cB 3 ty31 U U U U U U (aH (bj (L':=[(b2,O (bL.cells c og) 72),(bv,verO s0 b0 none 0 0 wb2 (ws++askWho c y).length wc2)]++(Ga2++Gw2)) js (qT 2 U (iq (v':=I (((i+1:Nat)):Int)) U (Ab ob) (qO 2 U ?_))))))))
 refine ag (az++[askAns c y],ab2,ac2,Ga2,ws++askWho c y,wb2,wc2,Gw2,h4) (by rw[BD hget,qE];exact hx0) ⟨?_,?_,gA2,gW2,qF hle hl4,?_,?_⟩
 .show az++[askAns c y]=_;rw[BD hget,ha,List.map_append];rfl
 .show ws++askWho c y=_;rw[BD hget,hw,List.flatMap_append];simp
 .show(az++[askAns c y]).length<=i+1;rw[kA];simp only[zA,vB];omega
 show(ws++askWho c y).length<=(i+1)*2000000;rw[kA];unfold askWho;omega
theorem Kv(h:HF)(c:bL)(og:kd)(q:Addr)(bv:Nat)(s0 b0:Int)(hc:bL.ok h c og)(aq:At h q (bL.cells c og))(hsm:smR c.Register)(hco:jt c)(hat:c.doc.At<=c.at_)(hk:Kinds h):
    nL prog 27 (kB [.pointer (some q),Q bv]) h [(bv,verO s0 b0 none 0 0 none 0 0)]
      (λr h' B=>∃vb vc wb wc G,r=.returned (.bool (!(ft c)))/\B=(bv,verO s0 b0 vb (askJ c).1.length vc wb (askAll c).length wc)::G/\SlC zC h' vb vc (askJ c).1/\dA zC 3 h' (askAll c) wb wc G):=by
  refine cD func27 U ntmps27 U λX hM hX=>?_
  refine qT 6 rfl (dl ty72 aq rfl rfl (aw (D1 (A:=[(bv,verO s0 b0 none 0 0 none 0 0)]) (Fr:=[]) call28 rfl (zy h c og bv s0 b0 hc hsm hco hat hk) rfl (λv h2 B hle hR=>?_) (λch h2 B hle hR=>by obtain⟨_,_,_,_,_,hr,_⟩:=hR;cases hr))))
  obtain⟨vb,vc,wb,wc,G,hr,rfl,s1,g1⟩:=hR
  cases hr
  exact lL U (an (m9 (v:=.bool (!(ft c))) (h2:=h2) (B:=(bv,verO s0 b0 vb (askJ c).1.length vc wb (askAll c).length wc)::G) func27 (λa ha w hw=>nO (rs:=[.tmp 2]) (vs:=[.bool (!(ft c))]) U rd a ha w hw) (λw hw=>by simpa using hw) ⟨vb,vc,wb,wc,G,U,U,s1,g1⟩))
theorem Ku(h:HF)(r:Register)(RE:eN)(qr:Addr)(u:List Use)(BC:Option Addr)(BB:Nat)(qu:Addr)(c:bL)(og:kd)(qc:Addr)(at_ known:Int)(qa qk:Addr)(bv:Nat)(s0 b0:Int)(vb:Option Addr)(vn vc:Nat)(wb:Option Addr)(wn wc:Nat)(hr:qP h r RE)(ar:At h qr (jF r RE))(hu:SlC Use.rp h BC BB u)(au:At h qu [.slice BC u.length BB])(ac:At h qc (bL.cells c og))(aa:At h qa [I at_])(ak:At h qk [I known])(hsm:smR r)(he:(judgeRoom c r u at_ known).2.2=0):
  nL prog 29 (kB [.pointer (some qr),.pointer (some qu),.pointer (some qc),.pointer (some qa),.pointer (some qk),Q bv]) h [(bv,verO s0 b0 vb vn vc wb wn wc)]
   (λx h' B=>x=.returned (.bool (!(judgeRoom c r u at_ known).2.1))/\h'=h/\B=[(bv,verO s0 (bif !(judgeRoom c r u at_ known).2.1 then(judgeRoom c r u at_ known).1 else b0) vb vn vc wb wn wc)]):=by
 refine cD func29 U ntmps29 U λX hM hX=>?_
 refine qT 6 U (j7 LP U (ky (j:=3) ty25 ar U U (de ty32 au U (j7 HT U (j7 PK U (ky (j:=9) ty3 ac U U (j7 HT U (j7 PJ U (ky (j:=10) ty3 ac U U (de ty3 aa U (de ty3 ak U (ai (v:=.tuple #[I (judgeRoom c r u at_ known).1,.bool (judgeRoom c r u at_ known).2.1,I (judgeRoom c r u at_ known).2.2]) call21 (vU h r.Budgets _ _ u BC BB c.doc.Kind c.doc.Value at_ known hr.Budgets hu hsm.2.2.2.2.1) U (qO 11 U (aw (n2 vr (iB h _) (mu he) U (qO 7 U ?_))))))))))))))))
 refine jf U (λc1=>?_) (λc1=>?_)
 .exact bu (ao (j7 LO U (cB 0 ty3 U U U U U U (qO 7 U (m9 (v:=.bool (!(judgeRoom c r u at_ known).2.1)) (h2:=h) (B:=[(bv,verO s0 (judgeRoom c r u at_ known).1 vb vn vc wb wn wc)]) func29 (λa ha w hw=>nO (rs:=[.tmp 6]) (vs:=[.bool (!(judgeRoom c r u at_ known).2.1)]) U rd a ha w hw) (λw hw=>hw) ⟨U,U,by rw[show(!(judgeRoom c r u at_ known).2.1)=true from c1];rfl⟩)))))
 exact aQ (qT 6 U (m9 (v:=.bool (!(judgeRoom c r u at_ known).2.1)) (h2:=h) (B:=[(bv,verO s0 b0 vb vn vc wb wn wc)]) func29 (λa ha w hw=>nO (rs:=[.tmp 6]) (vs:=[.bool (!(judgeRoom c r u at_ known).2.1)]) U rd a ha w hw) (λw hw=>hw) ⟨U,U,by rw[show(!(judgeRoom c r u at_ known).2.1)=false from c1];rfl⟩))
theorem Ex{e:Int}{ee:Int}(h:nz e=.error ee):(e != 0)=true/\ee=e:=by
  unfold nz at h
  cases hc:e != 0 with
  |true=>rw[hc]at h;cases h;exact⟨rfl,rfl⟩
  |false=>rw[hc]at h;cases h
theorem zp{e:Int}{u:Unit}(h:nz e=.ok u):e=0:=by
  unfold nz at h
  cases hc:e != 0 with
  |true=>rw[hc]at h;cases h
  |false=>simpa using hc
theorem EH(h:HF)(bG:Register)(dW:eN)(signed:List Int)(ef:Option Addr)(dZ:Nat)(u:List Use)(BC:Option Addr)(BB:Nat)(doc:Int)(eR:Int)(known:Int)(kW:qP h bG dW)(hsigned:SlC zC h ef dZ signed)(hu:SlC Use.rp h BC BB u)(hsm:smR bG)(hln:bG.Docs.length<20)(hk:Kinds h):
  jY prog 6 [.agg (jF bG dW).toArray,.slice ef signed.length dZ,.slice BC u.length BB,I doc,I eR,I known] h (λv h'=>∃rr0:sS,v=.tuple #[.agg (iv.cells (dj bG signed u doc eR known).1 rr0).toArray,I ((dj bG signed u doc eR known).2)]/\iv.ok h' (dj bG signed u doc eR known).1 rr0):=by
 refine cD func6 U ntmps6 U λX hM hX=>?_
 refine sr (ct (λb6=>ct (λb7=>ct (λb8=>ct (λb10=>ct (λb11=>aU zc36 (λb12=>aU zc37 (λb13=>aH ?_))))))))
 refine sr (Mg U U (aH ?_))
 have fin:∀(hh:HF)(V:iv)(vb:Option Addr)(vc:Nat)(wb:Option Addr)(wc:Nat)(ee:Int)(B:LH)(e:Env),dj bG signed u doc eR known=(V,ee)->SlC zC hh vb vc V.Versions->SlC zC hh wb wc V.Who->e 12=Q b12->e 13=Q b13->∀a:Act,envOf a=e->∀w,St X hh ([(b13,O [I ee] 37)]++((b12,verO V.State V.Budget vb V.Versions.length vc wb V.Who.length wc)::B)) w ->
   ∃v h2 B2,(results Tryz.f6 a.tmps).run prog w=.ok v w/\St X h2 B2 w/\(B2=[]/\∃v',Ending.returned v=.returned v'/\(λv h'=>∃rr0:sS,v=.tuple #[.agg (iv.cells (dj bG signed u doc eR known).1 rr0).toArray,I ((dj bG signed u doc eR known).2)]/\iv.ok h' (dj bG signed u doc eR known).1 rr0) v' h2):=by
  intro hh V vb vc wb wc ee B e he h1 h2 h12 h13 a ha w hw
  refine⟨_,hh,[],nO (rs:=[.cell 12 36,.cell 13 37]) (vs:=[.agg (iv.cells V ⟨vb,vc,wb,wc⟩).toArray,I ee]) U ⟨⟨1,b12,_,36,(0,0),U,h12,.inl ⟨ty36,U⟩⟩,⟨0,b13,[I ee],37,(0,0),U,h13,.inr ⟨_,ty37,U⟩⟩,trivial⟩ a ha w hw,hw.sub (List.nil_sublist _),U,_,U,⟨vb,vc,wb,wc⟩,?_,?_⟩
  .rw[he];rfl
  rw[he];exact⟨h1,h2⟩
 have pan:∀(hh:HF)(e0 ee:Int)(B:LH)(e:Env),dj bG signed u doc eR known=(⟨0,0,[],[]⟩,ee)->e 12=Q b12->e 13=Q b13 ->
   TP prog (bodyFrame 6) 69 [{ v:=errV ee,recovered:=false }] (mm prog X (λx h' B=>B=[]/\∃v,x=.returned v/\(λv h'=>∃rr0:sS,v=.tuple #[.agg (iv.cells (dj bG signed u doc eR known).1 rr0).toArray,I ((dj bG signed u doc eR known).2)]/\iv.ok h' (dj bG signed u doc eR known).1 rr0) v h')) e [{ target:=.fn (.func 17) #[],args:=kB [Q b13] }] X hh ((b13,O [I e0] 37)::(b12,verO 0 0 none 0 0 none 0 0)::B):=by
  intro hh e0 ee B e he h12 h13
  refine Nq (c:=bodyOf Tryz.f17) (cap:=[Q b13]) (A:=[(b13,O [I e0] 37)]) (R':=λh'' B=>h''=hh/\B=[(b13,O [I ee] 37)]) func6 J3 U ntmps17 U call17 (λX' _=>KI hh b13 e0 ee X') U ?_
  rintro h'' B2 _ ⟨rfl,rfl⟩ a ha w hw
  exact fin _ ⟨0,0,[],[]⟩ none 0 none 0 ee B e he zF zF h12 h13 a ha w hw
 refine sr (cI 6 ty30 U U U (ai (v:=I (et bG)) call19 (sB h bG dW kW hsm hk) U ?_))
 refine xU vr (iB h (et bG)).toXH U (λv_ v h1 hx1 hle1 hp1=>?_) (λee h1 hx1 hle1=>?_)
 rotate_left
 .obtain⟨e1,rfl⟩:=Ex hx1
  exact pan h1 _ _ _ _ (by unfold dj;rw[e1];rfl) U U
 obtain⟨rfl,rfl⟩:=hp1
 have hc0:=zp hx1
 refine qO 3 U (j7 PQ U (n0 6 ty27 U U U (n0 5 ty31 U U U (aw (cJ call20 (qZ h1 bG.Docs _ _ signed ef dZ 0 kW.Docs hsigned hln) U (λv2 h2 hle2 hp2=>?_))))))
 obtain⟨fb,fc,rfl,_⟩:=hp2
 refine qO 3 U (cB 0 ty37 U U U U U U (qO 3 U (n0 0 ty37 U U U ?_)))
 refine xU vr (iB h2 (bW bG.Docs signed 0).2).toXH U (λv_ v h3 hx3 hle3 hp3=>?_) (λee h3 hx3 hle3=>?_)
 rotate_left
 .obtain⟨e1,rfl⟩:=Ex hx3
  exact pan h3 _ _ _ _ (by unfold dj;rw[hc0,e1];rfl) U U
 obtain⟨rfl,rfl⟩:=hp3
 have hf0:=zp hx3
 refine qO 3 U (j7 LP U (n0 6 ty25 U U U (n0 4 ty32 U U U (ai (v:=.tuple #[I (bZ bG.Budgets u 0 0 0 0).1,.bool (bZ bG.Budgets u 0 0 0 0).2.1,I (bZ bG.Budgets u 0 0 0 0).2.2]) call21 (vU h3 bG.Budgets _ _ u BC BB 0 0 0 0 (kW.mono hle2).Budgets (hu.mono Use.av hle2) hsm.2.2.2.2.1) U (qO 4 U (cB 0 ty37 U U U U U U (qO 3 U (n0 0 ty37 U U U ?_))))))))
 refine xU vr (iB h3 (bZ bG.Budgets u 0 0 0 0).2.2).toXH U (λv_ v h4 hx4 hle4 hp4=>?_) (λee h4 hx4 hle4=>?_)
 rotate_left
 .obtain⟨e1,rfl⟩:=Ex hx4
  exact pan h4 _ _ _ _ (by unfold dj;rw[hc0,hf0,e1];rfl) U U
 obtain⟨rfl,rfl⟩:=hp4
 have hb0:=zp hx4
 refine qO 3 U (cI 6 ty30 U U U (ao (n0 3 ty3 U U U (n0 2 ty3 U U U ?_))))
 refine xU call22 (FN h4 bG dW doc eR known (kW.mono hle2)) U (λc v h5 hx5 hle5 hp5=>?_) (λee h5 hx5 hle5=>?_)
 rotate_left
 .exact pan h5 _ _ _ _ (by unfold dj;rw[hc0,hf0,hb0,hx5];rfl) U U
 obtain⟨cr,rfl,okc⟩:=hp5
 have hj:dj bG signed u doc eR known=(judgeC c bG signed u eR known,0):=by unfold dj;rw[hc0,hf0,hb0,hx5];rfl
 obtain⟨hce,hco,_,_⟩:=HC hc0 hx5
 have hreg:c.Register=bG:=by rw[hce]
 have hca:c.at_=eR:=by rw[hce]
 have hck:c.known=known:=by rw[hce]
 have hsc:smR c.Register:=by rw[hreg];exact hsm
 have hlc:c.Register.Docs.length<20:=by rw[hreg];exact hln
 have hsg:dv c.Register.Docs signed=true:=by rw[hreg];exact HL hf0
 have hroom:(judgeRoom c bG u eR known).2.2=0:=NO hb0 hco.kind hco.good.value (hca▸hco.time) (hck▸hco.know)
 rw[hb0]
 refine aU zc72 (λb14=>aR 0 ty72 U U U U U U (aH ?_))
 refine sr (j7 LO U (cB 2 ty3 U U U U U U (aH (eO 0 U hM (λg1 l1 f14=>eO 2 U hM (λg2 l2 f11=>eO 2 U hM (λg3 l3 f10=>eO 2 U hM (λg4 l4 f8=>eO 2 U hM (λg5 l5 f7=>eO 2 U hM (λg6 l6 f6=>?_))))))))))
 have a14:=(bI f14).mono (qF l2 (qF l3 (qF l4 (qF l5 l6))))
 have a11:=(bI f11).mono (qF l3 (qF l4 (qF l5 l6)))
 have a10:=(bI f10).mono (qF l4 (qF l5 l6))
 have a8:=(bI f8).mono (qF l5 l6)
 have a7:=(bI f7).mono l6
 have a6:=bI f6
 have l56:h5.le g6:=qF l1 (qF l2 (qF l3 (qF l4 (qF l5 l6))))
 have l06:h1.le g6:=qF hle2 (qF hle5 l56)
 have okg:=okc.mono l56
 have okr:=kW.mono l06
 have hsg6:=hsigned.mono zH l06
 have hu6:=hu.mono Use.av l06
 have hk6:=hk.mono l06
 clear f14 f11 f10 f8 f7 f6
 show TT _ _ _ _ _ _ _ _ g6 [(b13,O [I 0] 37),(b12,verO 0 (-1) none 0 0 none 0 0)]
 refine qT 3 U (aw (dS U U (aw (eY (cells:=[I 1,.func (.func 23) #[] #[Q b14,Q b7]]) (places:=[(0,1),(1,1)]) J1 zc74 kr kr (aw (dS U U (aw (eY (cells:=[I 2,.func (.func 25) #[] #[Q b14,Q b7]]) (places:=[(0,1),(1,1)]) J1 zc74 kr kr (aw (dS U U (aw (eY (cells:=[I 3,.func (.func 27) #[] #[Q b14,Q b12]]) (places:=[(0,1),(1,1)]) J1 zc74 kr kr (aw (dS U U (aw (eY (cells:=[I 4,.func (.func 29) #[] #[Q b6,Q b8,Q b14,Q b10,Q b11,Q b12]]) (places:=[(0,1),(1,1)]) J1 zc74 kr kr (aw (bB (cells:=[I 1,.func (.func 23) #[] #[Q b14,Q b7],I 2,.func (.func 25) #[] #[Q b14,Q b7],I 3,.func (.func 27) #[] #[Q b14,Q b12],I 4,.func (.func 29) #[] #[Q b6,Q b8,Q b14,Q b10,Q b11,Q b12]]) Ie ty74 zc74 U U kr (λb15=>Lv Ie U (qO 2 U ?_))))))))))))))))))))
 have ret:∀(hh:HF)(V:iv)(vb:Option Addr)(vc:Nat)(wb:Option Addr)(wc:Nat)(B:LH)(e:Env)(k:List Item),judgeC c bG signed u eR known=V->SlC zC hh vb vc V.Versions->SlC zC hh wb wc V.Who->e 12=Q b12->e 13=Q b13 ->
   TT prog (bodyFrame 6) 69 (.code .ret::k) (mm prog X (λx h' B=>B=[]/\∃v,x=.returned v/\(λv h'=>∃rr0:sS,v=.tuple #[.agg (iv.cells (dj bG signed u doc eR known).1 rr0).toArray,I ((dj bG signed u doc eR known).2)]/\iv.ok h' (dj bG signed u doc eR known).1 rr0) v h')) e [{ target:=.fn (.func 17) #[],args:=kB [Q b13] }] X hh ((b13,O [I 0] 37)::(b12,verO V.State V.Budget vb V.Versions.length vc wb V.Who.length wc)::B):=by
  intro hh V vb vc wb wc B e k hv h1 h2 h12 h13
  refine Nl (c:=bodyOf Tryz.f17) (cap:=[Q b13]) (A:=[(b13,O [I 0] 37)]) (R':=λh'' B=>h''=hh/\B=[(b13,O [I 0] 37)]) func6 J3 U ntmps17 U call17 (λX' _=>KH hh b13 0 X') U ?_
  rintro h'' B2 _ ⟨rfl,rfl⟩ a ha w hw
  exact fin _ V vb vc wb wc 0 B e (by rw[hj,hv]) h1 h2 h12 h13 a ha w hw
 refine ll (DK (sr (iq (v':=.bool true) U U (qO 8 U (aw (ff (Ep (i:=0) Ie ty74 U U ob) (cI 0 ty74 U U U (aU zc74 (λc0=>aR 0 ty74 U U U U U U (aH ?_))))))))))
 refine sr (j7 DD U (n0 0 ty33 U U U (aw (lX (v:=.bool (eX c signed)) [] (List.nil_sublist _) (im (cap:=[Q b14,Q b7]) call23 (BU g6 c cr ⟨b14,0,none⟩ signed ef dZ ⟨b7,0,none⟩ okg a14 hsg6 a7 hsc hco hlc hsg)) U U (aH ?_)))))
 refine jf U (λk1=>?_) (λk1=>?_)
 .exact sr (j7 DE U (n0 0 ty3 U U U (j7 Be U (cB 3 ty3 U U U U U U (qO 3 U (cI 3 ty36 U U U (aR 3 ty36 U U U U U U (cB 2 ty37 U U U U U U (aH (bj (.cons _ (.cons _ (List.Sublist.refl _))) (ret g6 ⟨1,-1,[],[]⟩ none 0 none 0 [] _ _ (by unfold judgeC;rw[show eX c signed=true from k1];rfl) zF zF U U)))))))))))
 replace k1:eX c signed=false:=k1
 have hat:c.doc.At<=c.at_:=GY k1
 refine qT 3 U (iq (v':=I 1) U U (qO 2 U (Aq (bj (.cons _ (List.Sublist.refl _)) (sr (iq (v':=.bool true) U U (qO 8 U (aw (ff (Ep (i:=1) Ie ty74 U U ob) (cI 0 ty74 U U U (aU zc74 (λc1=>aR 0 ty74 U U U U U U (aH ?_)))))))))))))
 refine sr (j7 DD U (n0 0 ty33 U U U (aw (lX (v:=.bool (hY c signed)) [] (List.nil_sublist _) (im (cap:=[Q b14,Q b7]) call25 (BT g6 c cr ⟨b14,0,none⟩ signed ef dZ ⟨b7,0,none⟩ okg a14 hsg6 a7 hsc hco hlc hsg)) U U (aH ?_)))))
 refine jf U (λk2=>?_) (λk2=>?_)
 .exact sr (j7 DE U (n0 0 ty3 U U U (j7 Be U (cB 3 ty3 U U U U U U (qO 3 U (cI 3 ty36 U U U (aR 3 ty36 U U U U U U (cB 2 ty37 U U U U U U (aH (bj (.cons _ (.cons _ (List.Sublist.refl _))) (ret g6 ⟨2,-1,[],[]⟩ none 0 none 0 [] _ _ (by unfold judgeC;rw[k1,show hY c signed=true from k2];rfl) zF zF U U)))))))))))
 replace k2:hY c signed=false:=k2
 refine qT 3 U (iq (v':=I 2) U U (qO 2 U (Aq (bj (.cons _ (List.Sublist.refl _)) (sr (iq (v':=.bool true) U U (qO 8 U (aw (ff (Ep (i:=2) Ie ty74 U U ob) (cI 0 ty74 U U U (aU zc74 (λc2=>aR 0 ty74 U U U U U U (aH ?_)))))))))))))
 refine sr (j7 DD rfl (n0 0 ty33 rfl rfl rfl (aw (uo [(c2,O [I 3,.func (.func 27) #[] #[Q b14,Q b12]] 74),(b15,O [I 1,.func (.func 23) #[] #[Q b14,Q b7],I 2,.func (.func 25) #[] #[Q b14,Q b7],I 3,.func (.func 27) #[] #[Q b14,Q b12],I 4,.func (.func 29) #[] #[Q b6,Q b8,Q b14,Q b10,Q b11,Q b12]] 74),(b13,O [I 0] 37)] [(b12,verO 0 (-1) none 0 0 none 0 0)] rfl (lV (args:=[]) (cap:=[Q b14,Q b12]) call27 (Kv g6 c cr ⟨b14,0,none⟩ b12 0 (-1) okg a14 hsc hco hat hk6)) rfl rfl (λv7 h7 B7 l7 hR=>?_) (λch h7 B7 l7 hR=>by obtain⟨_,_,_,_,_,hr,_⟩:=hR;cases hr)))))
 obtain⟨vb,vc,wb,wc,G,hr,rfl,sv7,gw⟩:=hR
 cases hr
 refine aH (fW zH ([(c2,O [I 3,.func (.func 27) #[] #[Q b14,Q b12]] 74),(b15,O [I 1,.func (.func 23) #[] #[Q b14,Q b7],I 2,.func (.func 25) #[] #[Q b14,Q b7],I 3,.func (.func 27) #[] #[Q b14,Q b12],I 4,.func (.func 29) #[] #[Q b6,Q b8,Q b14,Q b10,Q b11,Q b12]] 74),(b13,O [I 0] 37)]++[(b12,verO 0 (-1) vb (askJ c).1.length vc wb (askAll c).length wc)]) G [] (by rw[List.append_nil];rfl) hM gw (λh8 l8 sw_z=>?_))
 have sv:=sv7.mono zH l8
 have l68:g6.le h8:=qF l7 l8
 refine cu (L':=[(c2,O [I 3,.func (.func 27) #[] #[Q b14,Q b12]] 74),(b15,O [I 1,.func (.func 23) #[] #[Q b14,Q b7],I 2,.func (.func 25) #[] #[Q b14,Q b7],I 3,.func (.func 27) #[] #[Q b14,Q b12],I 4,.func (.func 29) #[] #[Q b6,Q b8,Q b14,Q b10,Q b11,Q b12]] 74),(b13,O [I 0] 37),(b12,verO 0 (-1) vb (askJ c).1.length vc wb (askAll c).length wc)]) (by rw[List.append_nil];rfl) ?_
 refine jf U (λk3=>?_) (λk3=>?_)
 .exact sr (j7 DE U (n0 0 ty3 U U U (j7 Be U (cB 3 ty3 U U U U U U (qO 3 U (cI 3 ty36 U U U (aR 3 ty36 U U U U U U (cB 2 ty37 U U U U U U (aH (bj (.cons _ (.cons _ (List.Sublist.refl _))) (ret h8 ⟨3,-1,(askJ c).1,askAll c⟩ vb vc wb wc [] _ _ (by unfold judgeC;rw[k1,k2,show(!(ft c))=true from k3];rfl) sv sw_z U U)))))))))))
 replace k3:(!(ft c))=false:=k3
 refine qT 3 U (iq (v':=I 3) U U (qO 2 U (Aq (bj (.cons _ (List.Sublist.refl _)) (sr (iq (v':=.bool true) U U (qO 8 U (aw (ff (Ep (i:=3) Ie ty74 U U ob) (cI 0 ty74 U U U (aU zc74 (λc3=>aR 0 ty74 U U U U U U (aH ?_)))))))))))))
 refine sr (j7 DD U (n0 0 ty33 U U U (aw (uo [(c3,O [I 4,.func (.func 29) #[] #[Q b6,Q b8,Q b14,Q b10,Q b11,Q b12]] 74),(b15,O [I 1,.func (.func 23) #[] #[Q b14,Q b7],I 2,.func (.func 25) #[] #[Q b14,Q b7],I 3,.func (.func 27) #[] #[Q b14,Q b12],I 4,.func (.func 29) #[] #[Q b6,Q b8,Q b14,Q b10,Q b11,Q b12]] 74),(b13,O [I 0] 37)] [(b12,verO 0 (-1) vb (askJ c).1.length vc wb (askAll c).length wc)] U (lV (args:=[]) (cap:=[Q b6,Q b8,Q b14,Q b10,Q b11,Q b12]) call29 (Ku h8 bG dW ⟨b6,0,none⟩ u BC BB ⟨b8,0,none⟩ c cr ⟨b14,0,none⟩ eR known ⟨b10,0,none⟩ ⟨b11,0,none⟩ b12 0 (-1) vb (askJ c).1.length vc wb (askAll c).length wc (okr.mono l68) (a6.mono l68) (hu6.mono Use.av l68) (a8.mono l68) (a14.mono l68) (a10.mono l68) (a11.mono l68) hsm hroom)) U U (λv9 h9 B9 l9 hR=>?_) (λch h9 B9 l9 hR=>by cases hR.1)))))
 obtain⟨hr,rfl,rfl⟩:=hR
 cases hr
 refine aH (jf U (λk4=>?_) (λk4=>?_))
 .exact cu (L':=[(c3,O [I 4,.func (.func 29) #[] #[Q b6,Q b8,Q b14,Q b10,Q b11,Q b12]] 74),(b15,O [I 1,.func (.func 23) #[] #[Q b14,Q b7],I 2,.func (.func 25) #[] #[Q b14,Q b7],I 3,.func (.func 27) #[] #[Q b14,Q b12],I 4,.func (.func 29) #[] #[Q b6,Q b8,Q b14,Q b10,Q b11,Q b12]] 74),(b13,O [I 0] 37),(b12,verO 0 (judgeRoom c bG u eR known).1 vb (askJ c).1.length vc wb (askAll c).length wc)]) (by rw[show(!(judgeRoom c bG u eR known).2.1)=true from k4];rfl) (sr (j7 DE U (n0 0 ty3 U U U (j7 Be U (cB 3 ty3 U U U U U U (qO 3 U (cI 3 ty36 U U U (aR 3 ty36 U U U U U U (cB 2 ty37 U U U U U U (aH (bj (.cons _ (.cons _ (List.Sublist.refl _))) (ret h9 ⟨4,(judgeRoom c bG u eR known).1,(askJ c).1,askAll c⟩ vb vc wb wc [] _ _ (by unfold judgeC;rw[k1,k2,k3,show(!(judgeRoom c bG u eR known).2.1)=true from k4];rfl) sv sw_z U U))))))))))))
 replace k4:(!(judgeRoom c bG u eR known).2.1)=false:=k4
 exact cu (L':=[(c3,O [I 4,.func (.func 29) #[] #[Q b6,Q b8,Q b14,Q b10,Q b11,Q b12]] 74),(b15,O [I 1,.func (.func 23) #[] #[Q b14,Q b7],I 2,.func (.func 25) #[] #[Q b14,Q b7],I 3,.func (.func 27) #[] #[Q b14,Q b12],I 4,.func (.func 29) #[] #[Q b6,Q b8,Q b14,Q b10,Q b11,Q b12]] 74),(b13,O [I 0] 37),(b12,verO 0 (-1) vb (askJ c).1.length vc wb (askAll c).length wc)]) (by rw[k4];rfl) (qT 3 U (iq (v':=I 4) U U (qO 2 U (Aq (bj (.cons _ (List.Sublist.refl _)) (sr (iq (v':=.bool false) U U (qO 6 U (j7 Be U (cB 2 ty3 U U U U U U (qO 3 U (cI 2 ty36 U U U (aR 2 ty36 U U U U U U (cB 1 ty37 U U U U U U (aH (bj (.cons _ (List.Sublist.refl _)) (ret h9 ⟨0,-1,(askJ c).1,askAll c⟩ vb vc wb wc [] _ _ (by unfold judgeC;rw[k1,k2,k3,k4];rfl) sv sw_z U U)))))))))))))))))
theorem Jb(h:HF)(s:List Span)(pU:Option Addr)(pI:Nat)(t:Int)(hs:SlC Span.rp h pU pI s):Ret prog 8 [.slice pU s.length pI,I t] h (.bool (lq s t)):=by
 refine sT func8 U ntmps8 U λX hM hX hF=>?_
 have hs0:=@rfl _ (lq s t)
 refine qK 11 [] U ?_
 refine lp0 s (λi=>[(1,I t),(7,.slice pU s.length pI),(8,I (s.length:Int)),(9,I (i:Int))]) ([]) (λs1 i=>(lq.L1 t (lq.K1)) s1) hs.1.1 hs0 ?_ ?_
 .rintro i1 fB hs1 e
  exact sr (an (nretP [.bool false] (cs hs1)))
 rintro i1 y1 rz1 hd1 du bo eA gD hs3 hx1 ag1 e
 refine sr (tO du U (qO 8 U (aw (iF Span.cells Ak ty51 hs.1 bo U U U (λq2 A2=>dl ty51 A2 U U (aU zc51 (λb2=>aR 0 ty51 U U U U U U (qL 8 [0] U (bD 5 [17,18,19,20,21,22] 17 22 (decide (t<y1.Until)) U (λc1 hk1=>?_) (λe=>?_))))))))))
 .exact qL 5 [0] U (hk1 _ U)
 refine aH (ae hs3 U (λc2 hs4=>?_) (λc2 hs5=>?_))
 .exact sr (an (nretP [.bool true] (cs hs4)))
 exact aQ (qT 2 U (oi i1 U (qO 2 U (bj (L':=[]) js (ag1 hs5)))))
end
section
open Go.Proofs Go.Proofs.Tryz
set_option maxHeartbeats 2000000
theorem law33_AsofJudged_top{w:World}(h:HF)(hp:Pre h [] w)(bG:Register)(dW:eN)(signed:List Int)(ef:Option Addr)(dZ:Nat)(u:List Use)(BC:Option Addr)(BB:Nat)(doc:Int)(eR:Int)(known:Int)(kW:qP h bG dW)(hsigned:SlC zC h ef dZ signed)(hu:SlC Use.rp h BC BB u)(hsm:smR bG)(hk:Kinds h):Calls prog 3 [.agg (jF bG dW).toArray,.slice ef signed.length dZ,.slice BC u.length BB,I doc,I eR,I known].toArray w λe w'=>e=.returned (.bool (nR bG signed u doc eR known))/\RowKit.Below w.heap.size w w':=by
 refine JM hp Le U ntmps3 U λX hM hX=>?_
 have hs0:=@rfl _ (nR bG signed u doc eR known)
 refine sr (ct (λb1=>qO 5 U (ai call4 (FM h  hk) U (qO 2 U (ae hs0 U (λc1 hs1=>?_) (λc1 hs2=>?_))))))
 .exact sr (an (Ap [.bool false] Le U hX rd (cs hs1)))
 .refine qT 4 U (cI 0 ty30 U U U (qO 3 U (aw (bB (cells:=[I eR,I known]) eG ty3 zc3 U U kr (λb2=>aP 0 U hM (λh1 hle1 hb1=>?_))))))
  have sl1:SlC zC h1 (some ⟨b2,0,none⟩) 2 ([eR,known]):=bP.slB0 (T:=3) (fz:=(0,0)) ((show bP zC h [I eR,I known] ([eR,known])from⟨[I eR],[I known],rfl,rfl,rfl,⟨[I known],[],rfl,rfl,rfl,rfl⟩⟩).mono zH hle1) hb1
  refine ai call5 (EE _ _ _ doc ([]) none 0 _ _ _ (kW.mono hle1) zF sl1 ob) U (qO 2 U (cn 4 [26,27,28,29,30] 26 30 (decide (50<(u.length:Int))) U (λc2 hk1=>?_) (λe=>?_)))
  .exact qL 4 [] U (hk1 _ U)
  refine aH (ae hs2 U (λc3 hs4=>?_) (λc3 hs5=>?_))
  .exact sr (an (Ap [.bool true] Le U hX rd (cs hs4)))
  .refine qT 3 U (cI 0 ty30 U U U (qO 5 U (aw (cJ call6 (EH _ _ _ _ _ _ _ _ _ doc eR known (kW.mono hle1) (hsigned.mono zH hle1) (hu.mono Use.av hle1) hsm (Jh (who:=[]) (l:=[eR,known]) (by have hq:=(by assumption:((!(ga bG doc ([]) ([eR,known])))||decide (50<(u.length:Int)))=false);simp only[Bool.or_eq_false_iff,Bool.not_eq_false']at hq;exact hq.1)) (hk.mono hle1)) U (λv1 h2 hle2 hp1=>?_)))))
   obtain⟨rr1,rfl,ok1⟩:=hp1
   refine qO 3 U (aU zc36 (λb3=>aR 0 ty36 U U U U U U (qO 8 U (cn 9 [43,44,45,46,47,48,49,50,51,52] 43 52 ((((dj bG signed u doc eR known).1).State != 0)&&(((dj bG signed u doc eR known).1).State != 4)) U (λc4 hk2=>?_) (λe=>?_)))))
   .refine qL 4 [0] U (bD 4 [47,48,49,50,51] 47 51 (((dj bG signed u doc eR known).1).State != 4) U (λc5 hk3=>?_) (λe=>?_))
    .exact qL 4 [0] U (hk3 _ U)
    exact eM U (hk2 _ U)
   refine aH (ae hs5 U (λc6 hs7=>?_) (λc6 hs8=>?_))
   .exact sr (an (Ap [.bool true] Le U hX rd (cs hs7)))
   .refine qT 3 U (cI 1 ty30 U U U (qL 4 [0] U (aw (cJ KS (ol _ _ _ doc _ _ _ known (kW.mono (hle1.t hle2)) ok1.Who hsm (Kt _ _ _ _ _ _) (hk.mono (hle1.t hle2))) U (λv2 h3 hle3 hp2=>?_)))))
    obtain⟨rb1,rc1,rfl,sl2⟩:=hp2
    refine qO 11 U (bD 4 [64,65,66,67,68] 64 68 (lq ((eu bG doc (((dj bG signed u doc eR known).1).Who) known).1) eR) U (λc7 hk4=>?_) (λe=>?_))
    .exact ao (ao (ai call8 (Jb _ _ _ _ eR sl2) U (eM U (hk4 _ U))))
    exact an (Ap [.bool (((eu bG doc (((dj bG signed u doc eR known).1).Who) known).2==0)&&(lq ((eu bG doc (((dj bG signed u doc eR known).1).Who) known).1) eR))] Le U hX rd (cs hs8))
end
end Go.Sg

namespace Go.Proofs.YtgddeppkkjefjaaGreatDoor.asofJudged
open Go.ChangeShapes Go.WideShapes Go.ChangeAt Go.RowKit
theorem own:ownKnob Tryz.prog.godebug=none:=by kernel_rfl
theorem laidOut:laidOutB Tryz.prog=true:=by kernel_rfl
theorem contract(H:Type)(enc:TypeId×Value->H)(W:World)(base:Nat)(args:Array Value)(ds gs:List (DataW H))(before:List MemPlace)(hval:∀(j:Nat)t v,Tryz.f3.params[j]? = some t->args[j]? = some v->Value.okWide Tryz.prog W .any base t v)(hW:DataW.Whole enc Tryz.prog Tryz.f3.params.toList Rows.asofJudgedSpec.vars false W args.toList ds gs before)(hcond:Rows.uptoSmall H (ds++gs)=true)(hL:laidMetH Tryz.prog Rows.asofJudgedUptoRow.laid W):
    Calls Tryz.prog 3 args W λe W'=>∃v,e=.returned v/\Rows.asofJudgedSpec.post enc Tryz.prog Tryz.f3 false true false false W args v W':=by
  have hW':=hW
  obtain⟨p,q,hA0,hV,rfl,hfz,hnd⟩:=hW
  have hA:DataW.TrodAll enc Tryz.prog W 0 (λ_=>true) true Tryz.f3.params.toList args.toList ds p:=hA0
  rw[Tryz.params3]at hA hval
  obtain⟨v0,vs0,d0,ds0,p0,z0,hargs,rfl,rfl,h0,t0⟩:=trodAll_cons hA
  obtain⟨v1,vs1,d1,ds1,p1,z1,rfl,rfl,rfl,h1,t1⟩:=trodAll_cons t0
  obtain⟨v2,vs2,d2,ds2,p2,z2,rfl,rfl,rfl,h2,t2⟩:=trodAll_cons t1
  obtain⟨v3,vs3,d3,ds3,p3,z3,rfl,rfl,rfl,h3,t3⟩:=trodAll_cons t2
  obtain⟨v4,vs4,d4,ds4,p4,z4,rfl,rfl,rfl,h4,t4⟩:=trodAll_cons t3
  obtain⟨v5,vs5,d5,ds5,p5,z5,rfl,rfl,rfl,h5,t5⟩:=trodAll_cons t4
  obtain⟨rfl,rfl,rfl⟩:=trodAll_nil t5
  obtain rfl:args=#[v0,v1,v2,v3,v4,v5]:=by cases args;simp_all
  obtain⟨rfl,rfl⟩:=trodVars_none hV
  clear hA0 hA
  have h0k:=h0
  have h1k:=h1
  have h2k:=h2
  have h3k:=h3
  have h4k:=h4
  have h5k:=h5
  simp only[List.append_nil]at hW' hcond
  have hB:Rows.uptoBulkAll [d0,d1,d2,d3,d4,d5]<=1048576:=of_decide_eq_true hcond
  obtain⟨a0,rfl,_⟩:=okWide_struct Tryz.underlying30 (hval 0 30 v0 rfl rfl)
  obtain⟨f0,g0⟩:=h0
  obtain⟨x0,⟨r0,e0,o0⟩,q0⟩:=Sg.opn_Register f0 _ _ _ g0
  obtain rfl:a0=(Sg.Register.cells x0 r0).toArray:=by
    apply Array.toList_inj.1;exact e0
  obtain⟨b1,l1,c1,rfl⟩:=okWide_slice Tryz.underlying31 (hval 1 31 v1 rfl rfl)
  obtain⟨f1,g1⟩:=h1
  obtain⟨b1',c1',x1,e1,o1,q1⟩:=Sg.opn_slice (R:=Sg.Rp.int) (sz:=λ_=>1) Tryz.underlying31 (by kernel_rfl) (by decide) (λk _=>Sg.opn_int (by kernel_rfl) k) g1
  cases e1
  obtain⟨b2,l2,c2,rfl⟩:=okWide_slice Tryz.underlying32 (hval 2 32 v2 rfl rfl)
  obtain⟨f2,g2⟩:=h2
  obtain⟨b2',c2',x2,e2,o2,q2⟩:=Sg.opn_slice (R:=Sg.Use.rp) (sz:=λ_=>1) Tryz.underlying32 (by kernel_rfl) (by decide) (λk _=>Sg.opn_Use k) g2
  cases e2
  obtain⟨n3,rfl⟩:=okWide_int Tryz.underlying3 (hval 3 3 v3 rfl rfl)
  obtain⟨n4,rfl⟩:=okWide_int Tryz.underlying3 (hval 4 3 v4 rfl rfl)
  obtain⟨n5,rfl⟩:=okWide_int Tryz.underlying3 (hval 5 3 v5 rfl rfl)
  simp only[Rows.uptoBulkAll]at hB
  have y1:=Sg.szL_len (f:=λ_:Int=>1) (λ_=>Nat.le_refl _) x1
  have y2:=Sg.szL_len (f:=λ_:Sg.Use=>1) (λ_=>Nat.le_refl _) x2
  have z0b:=Sg.bulk_one d0
  have z1b:=Sg.bulk_one d1
  have z2b:=Sg.bulk_one d2
  have z3b:=Sg.bulk_one d3
  have z4b:=Sg.bulk_one d4
  have z5b:=Sg.bulk_one d5
  have walk:=Sg.law33_AsofJudged_top (Sg.hOf W) (Sg.pre_hOf W) x0 r0 x1 b1 c1 x2 b2 c2 n3 n4 n5 o0 o1 o2 (Sg.smR_of (by omega)) (Sg.kinds_of hL)
  rw[Sg.judged_true (Sg.smR_of (by omega))]at walk
  refine walk.mono λe W'⟨he,hb⟩=>?_
  subst he
  exact⟨_,rfl,Sg.post_below (pa:=p0++(p1++(p2++(p3++(p4++(p5++([]))))))) (pv:=[]) hW' (λ_ _ _=>trodAll_cons_mk (shut_bool Tryz.underlying4 _) trodAll_mk0) (λsp hsp=>(trodAll_cons_mk (Sg.stays laidOut (by kernel_rfl) (by kernel_rfl) h0k hb hW'.lt (λx hx=>by simp[hx]) hsp) (trodAll_cons_mk (Sg.stays laidOut (by kernel_rfl) (by kernel_rfl) h1k hb hW'.lt (λx hx=>by simp[hx]) hsp) (trodAll_cons_mk (Sg.stays laidOut (by kernel_rfl) (by kernel_rfl) h2k hb hW'.lt (λx hx=>by simp[hx]) hsp) (trodAll_cons_mk (Sg.stays laidOut (by kernel_rfl) (by kernel_rfl) h3k hb hW'.lt (λx hx=>by simp[hx]) hsp) (trodAll_cons_mk (Sg.stays laidOut (by kernel_rfl) (by kernel_rfl) h4k hb hW'.lt (λx hx=>by simp[hx]) hsp) (trodAll_cons_mk (Sg.stays laidOut (by kernel_rfl) (by kernel_rfl) h5k hb hW'.lt (λx hx=>by simp[hx]) hsp) trodAll_mk0))))))) (λ_ _=>rfl) (by simp) hb (ok_one (by kernel_rfl) rfl (okWide_bool_mk Tryz.underlying4 _))⟩
end Go.Proofs.YtgddeppkkjefjaaGreatDoor.asofJudged
