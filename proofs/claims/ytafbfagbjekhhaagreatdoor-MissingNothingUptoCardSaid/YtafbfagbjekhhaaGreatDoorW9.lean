import Derived.Test.YtafbfagbjekhhaaGreatDoorCards
import Derived.Test.YtafbfagbjekhhaaGreatDoorTie
import Derived.ProofKit
import Derived.Deep.DeepHandedRow
import Derived.Test.YtafbfagbjekhhaaGreatDoorW8
/- A part of the proof of MissingNothing. -/
set_option linter.unusedVariables false
set_option linter.unusedSimpArgs false
set_option maxRecDepth 100000
open List renaming length_cons→zA,length_append→vA,length_nil→zB,append_assoc→vD,range→qE,nil_append→zF,perm_append_comm→xG,cons_append→kK
open Go.Sg.Rp renaming int→jB,bH→qJ,bool→vV,jz→W3
open Go.IntKind renaming wrap→vB
open Go.Value renaming int→qC
open Bool renaming and_eq_true→zC,or_eq_true→kD,not_eq_true'→qF
open Go.Sg.Register renaming cells→kC,ok→vK
open Nat renaming zero_le→xH
open Go.Sg.Budget renaming cells→vL,rp→vQ
open Go.Sg.Use renaming cells→WL,rp→W0

namespace Go.Sg
section
open Go.Proofs Go.Proofs.Tryz
set_option maxHeartbeats 2000000
theorem Aj(h signed cu ct lq)(eT:SlC jB h cu ct signed)(hsn:signed.length<=2000000):j4 prog 184 [.slice cu signed.length ct,I lq] h (λv h'=>∃(rb0:Option Addr)(rc0:Nat),v=.slice rb0 (cn signed lq).length rc0/\SlC jB h' rb0 rc0 (cn signed lq)):=by
 refine sT func184 U ntmps184 U λX hM hX hF=>?_
 have hs0:=@rfl _ (cn signed lq)
 refine qT 6 U (aH (rY eM ty3 (λb1=>qO 7 U (gl 0 U hM (λh1 hle1 hb1=>?_)))))
 have sl1:SlC jB h1 (zAD b1) 0 ([]):=cY.slB0 (T:=3) (fz:=(0,0)) ((show cY jB h [] ([])from rfl).mono qJ hle1) hb1
 refine lp2 signed (λi w=>[(0,.slice cu signed.length ct),(1,I lq),(5,.slice w.2.1 w.1.length w.2.2.1),(6,I (i:Int))]) (λw=>w.2.2.2) (λw=>[]) (λi w=>SlC jB w.2.2.2 w.2.1 w.2.2.1 w.1/\w.1.length<=i/\HF.le h1 w.2.2.2/\(∀x∈w.1,0<=x/\x<(signed.length:Int))) (λs1 i w=>(cn.L1 signed lq (cn.K1)) s1 i w.1) ([],(zAD b1),0,h1) ((eT.mono qJ hle1).1.1) hs0 ⟨sl1,(by first|omega|(simp only[vA,zA,zB];omega)|(simp only[vA,zA,zB,List.length_take,List.length_drop];first|omega|(dsimp only;omega))),lf,(λx hx=>(List.not_mem_nil hx).elim)⟩ ?_ ?_ ?_
 .rintro i1 ⟨eZ,yU,yT,hh1⟩ i7 hs1 ⟨te,Ik,hl1,u1_0⟩ e
  try dsimp only at te Ik hl1 u1_0
  refine qT 5 U ?_
  have hs2:cn signed lq=eZ:=hs1
  exact nretH [.slice yU eZ.length yT] ⟨yU,yT,congrArg (λr:List Int=>(.slice yU r.length yT:Value)) hs2.symm,(by rw[hs2];exact te)⟩
 .rintro i1 ⟨eZ,yU,yT,hh1⟩ y1 rz1 hd1 gg dL i5 mF hs3 ⟨te,Ik,hl1,u1_0⟩ hx1 ag1 e
  try dsimp only at te Ik hl1 u1_0
  refine qK 6 [] U (tO gg U (qO 10 U (aH (iF (λy=>[I y]) eM ty3 (eT.mono qJ (hle1.t hl1)).1 dL U U U (λq3 A3=>eE ty3 A3 U (qO 2 U (gz 7 [20,21,22,23,24,25,26,27] 20 27 (decide (lq<y1)) U (λc1 hk1=>?_) (λe=>?_))))))))
  .exact bD (bD (aH (iF (λy=>[I y]) eM ty3 (eT.mono qJ (hle1.t hl1)).1 dL U U U (λq4 A4=>eE ty3 A4 U (qO 3 U (hk1 _ U))))))
  refine bp (aI hs3 U (λc2 hs4=>?_) (λc2 hs5=>?_))
  .exact kw U (qT 2 U (oi i1 U (an (ag1 (eZ,yU,yT,hh1) hs4 ⟨te,(by first|omega|(simp only[vA,zA,zB];omega)|(simp only[vA,zA,zB,List.length_take,List.length_drop];first|omega|(dsimp only;omega))),hl1,(by first|assumption|exact Dt u1_0 ob)⟩))))
  refine qK 8 [] U ?_
  refine gx (ι:=Nat) (λi=>[(0,.slice cu signed.length ct),(1,I lq),(5,.slice yU eZ.length yT),(6,I (i1:Int)),(7,I (((eZ.length-i):Nat):Int))]) (λi=>hh1) (λi=>[]) (λi=>i<=(qE eZ.length).length/\cn signed lq=((λzi3=>(cn.L1 signed lq (cn.K1) rz1 (i1+1) (((eZ.take (((((eZ.length-zi3):Nat):Int):Int)).toNat)++[(i1:Int)])++(eZ.drop (((((eZ.length-zi3):Nat):Int):Int)).toNat)))) i)) ?_ (λhx3=>?_)
  .rintro i3 ⟨CI,hs6⟩ e
   try dsimp only at CI
   refine fo ([]) mixed kr jn (λim _=>?_)
   refine qA [1,2] U (JH 3 im jn eM ty3 te.1 te.2 ob U U U U kr (λsb3 sc3 sl5=>qA [5,8,9] U (P9 10 im jn eM ty3 te.1 te.2 ob U U U U kr (λsb4 sc4 sl6=>?_))))
   refine nn 0 6 kr U U ?_ ?_ 
   .refine rY eM ty3 (λb4=>⟨jn,?_⟩)
    refine nn 4 6 kr U U ?_ ?_ 
    .refine eN W3 ([]) ([]) (λG=>G) ap (λ_=>ap) eM ty3 zc3 U bytes3 (cN.lit (show cY jB hh1 [] ([])from U) U) U U (mi sl5.1) lo lo (λob4 oc4 G4 gr4=>⟨jn,(tn 6 U (bT (cells:=[I (i1:Int)]) eM ty3 zc3 U U kr (λb5=>?_)))⟩)
     let z3:Nat×Obj:=(b5,O [I (i1:Int)] 3)
     exact⟨jn,(tn 7 U (eN W3 ([z3]) ([]) (λG=>[z3]++G) ap (λ_=>ap) eM ty3 zc3 U bytes3 gr4 U U (gV 0 U (cE (i1:Int) U U)) lo lo (λob5 oc5 G5 gr5=>⟨jn,(tn 11 U (eN W3 ([z3]) ([]) (λG=>[z3]++G) ap (λ_=>ap) eM ty3 zc3 U bytes3 gr5 U U (mi sl6.1) lo lo (λob6 oc6 G6 gr6=>⟨jn,(qA [12] U (bW kr (qT 3 U (oi i1 U (an (fF qJ ([z3]) G6 ([]) ap hM gr6 (λh3 hle3 sl7=>cm (L':=[]) js (ag1 ((((eZ.take (((((eZ.length-i3):Nat):Int):Int)).toNat)++[(i1:Int)])++(eZ.drop (((((eZ.length-i3):Nat):Int):Int)).toNat)),ob6,oc6,h3) hs6 ⟨sl7,(by first|omega|(simp only[vA,zA,zB];omega)|(simp only[vA,zA,zB,List.length_take,List.length_drop];first|omega|(dsimp only;omega))),(hl1.t hle3),(by first|assumption|exact Dt u1_0 ob)⟩))))))))⟩)))⟩)))⟩
    refine bT (cells:=[I (i1:Int)]) eM ty3 zc3 U U kr (λb6=>⟨jn,(tn 4 U ?_)⟩)
    let z1:Nat×Obj:=(b6,O [I (i1:Int)] 3)
    exact eN W3 ([z1]) ([]) (λG=>[z1]++G) ap (λ_=>ap) eM ty3 zc3 U bytes3 (cN.lit (show cY jB hh1 [] ([])from U) U) U U (mi sl5.1) lo lo (λob7 oc7 G7 gr7=>⟨jn,(tn 7 U (eN W3 ([z1]) ([]) (λG=>[z1]++G) ap (λ_=>ap) eM ty3 zc3 U bytes3 gr7 U U (gV 0 U (cE (i1:Int) U U)) lo lo (λob8 oc8 G8 gr8=>⟨jn,(tn 11 U (eN W3 ([z1]) ([]) (λG=>[z1]++G) ap (λ_=>ap) eM ty3 zc3 U bytes3 gr8 U U (mi sl6.1) lo lo (λob9 oc9 G9 gr9=>⟨jn,(qA [12] U (bW kr (qT 3 U (oi i1 U (an (fF qJ ([z1]) G9 ([]) ap hM gr9 (λh4 hle4 sl8=>cm (L':=[]) js (ag1 ((((eZ.take (((((eZ.length-i3):Nat):Int):Int)).toNat)++[(i1:Int)])++(eZ.drop (((((eZ.length-i3):Nat):Int):Int)).toNat)),ob9,oc9,h4) hs6 ⟨sl8,(by first|omega|(simp only[vA,zA,zB];omega)|(simp only[vA,zA,zB,List.length_take,List.length_drop];first|omega|(dsimp only;omega))),(hl1.t hle4),(by first|assumption|exact Dt u1_0 ob)⟩))))))))⟩)))⟩)))⟩)
   refine bT (cells:=[I (i1:Int)]) eM ty3 zc3 U U kr (λb7=>⟨jn,(tn 0 U ?_)⟩)
   let z2:Nat×Obj:=(b7,O [I (i1:Int)] 3)
   exact rY eM ty3 (λb8=>⟨jn,(tn 4 U (eN W3 ([]) ([z2]) (λG=>[z2]++G) ap (λ_=>ap) eM ty3 zc3 U bytes3 (cN.lit (show cY jB hh1 [] ([])from U) U) U U (mi sl5.1) lo lo (λob10 oc10 G10 gr10=>⟨jn,(tn 7 U (eN W3 ([z2]) ([]) (λG=>[z2]++G) ap (λ_=>ap) eM ty3 zc3 U bytes3 gr10 U U (gV 0 U (cE (i1:Int) U U)) lo lo (λob11 oc11 G11 gr11=>⟨jn,(tn 11 U (eN W3 ([z2]) ([]) (λG=>[z2]++G) ap (λ_=>ap) eM ty3 zc3 U bytes3 gr11 U U (mi sl6.1) lo lo (λob12 oc12 G12 gr12=>⟨jn,(qA [12] U (bW kr (qT 3 U (oi i1 U (an (fF qJ ([z2]) G12 ([]) ap hM gr12 (λh5 hle5 sl9=>cm (L':=[]) js (ag1 ((((eZ.take (((((eZ.length-i3):Nat):Int):Int)).toNat)++[(i1:Int)])++(eZ.drop (((((eZ.length-i3):Nat):Int):Int)).toNat)),ob12,oc12,h5) hs6 ⟨sl9,(by first|omega|(simp only[vA,zA,zB];omega)|(simp only[vA,zA,zB,List.length_take,List.length_drop];first|omega|(dsimp only;omega))),(hl1.t hle5),(by first|assumption|exact Dt u1_0 ob)⟩))))))))⟩)))⟩)))⟩)))⟩)
  refine jw (ι:=Nat×List Nat) (λi=>[(0,.slice cu signed.length ct),(1,I lq),(5,.slice yU eZ.length yT),(6,I (i1:Int)),(7,I (((eZ.length-i.1):Nat):Int))]) (λi=>hh1) (λi=>[]) (λi=>(qE eZ.length).drop i.1=i.2/\i.1<=(qE eZ.length).length/\cn signed lq=((cn.L3 signed y1 eZ (λzi3=>(cn.L1 signed lq (cn.K1) rz1 (i1+1) (((eZ.take (((((eZ.length-zi3):Nat):Int):Int)).toNat)++[(i1:Int)])++(eZ.drop (((((eZ.length-zi3):Nat):Int):Int)).toNat))))) i.2 i.1)) (λi=>i.2.length) (0,(qE eZ.length)) ⟨U,U,U,U,(congrArg (qC .i64) (show(eZ.length:Int)=(((eZ.length-0):Nat):Int)from by omega)),trivial⟩ sw ⟨U,xH _,hs5⟩ ?_
  rintro⟨i3,s3⟩ ⟨hd3,Nd,hs7⟩ ag2 e
  try dsimp only at hd3 Nd
  rcases s3 with _|⟨y3,rz3⟩
  .have UM:decide (0<(((eZ.length-i3):Nat):Int))=false:=decide_eq_false (by have q_:=of_decide_eq_false (nZ hd3);rw[List.length_range]at q_;omega)
   exact el (el (fo ([]) mixed kr jn (λnJ _=>tm 0 U (tf 1 U U (λ_ _ _=>yo (v':=.bool false) U (cb UM)) (qR 2 15 U (bW kr (qT 2 U (hx3 i3 _ ⟨Nd,hs7⟩ rd))))))))
  have Om:decide (0<(((eZ.length-i3):Nat):Int))=true:=decide_eq_true (by have q_:=il hd3;rw[List.length_range]at q_;omega)
  have Nc:i3<eZ.length:=by simpa using il hd3
  refine qT 2 U (fo ([]) mixed kr jn (λNa _=>tm 0 U (tf 1 U U (λ_ _ _=>yo (v':=.bool true) U (cb Om)) (qR 2 4 U (tf 6 U U (λ_ _ _=>yo (v':=I (((eZ.length-(i3+1)):Nat):Int)) U (Lv Nc ob)) ?_)))))
  have ho3:0<=((((eZ.length-(i3+1)):Nat):Int):Int)/\((((eZ.length-(i3+1)):Nat):Int):Int)<((eZ).length:Int):=ob
  refine kZ 7 (enc:=λy=>[I y]) Na jn ei eM ty3 te.1 ho3 (dC ho3) U U U U kr (λq8 A8=>tf 8 U U (rh ty3 A8 U) ?_)
  have ho4:0<=((nthI eZ (((eZ.length-(i3+1)):Nat):Int)):Int)/\((nthI eZ (((eZ.length-(i3+1)):Nat):Int)):Int)<((signed).length:Int):=(by first|omega|exact Tv u1_0 ob _)
  refine kZ 9 (enc:=λy=>[I y]) Na jn ei eM ty3 (eT.mono qJ (hle1.t hl1)).1 ho4 (dC ho4) U U U U kr (λq9 A9=>tf 10 U U (rh ty3 A9 U) (qA [11,12] U (kZ 13 (enc:=λy=>[I y]) Na jn ei eM ty3 (eT.mono qJ (hle1.t hl1)).1 (nthZ dL) (iC dL) U U U U kr (λq10 A10=>tf 14 U U (rh ty3 A10 U) (qA [15,16] U (bW kr (aI hs7 U (λc4 hs9=>?_) (λc4 hs10=>?_))))))))
  .have c4p:=of_decide_eq_true c4
   exact bO (qT 3 U (iS (v':=I (((eZ.length-(i3+1)):Nat):Int)) U (Lv Nc ob) (qO 3 U (ag2 ((i3+1),rz3) _ (Nat.lt_succ_self _) ⟨ll hd3,il hd3,hs9⟩ rd))))
  have c4p:=of_decide_eq_false c4
  exact kw U (hx3 i3 _ ⟨Nd,hs10⟩ rd)
 rintro i1 ⟨eZ,yU,yT,hh1⟩ hd1 mE hx e
 exact qK 6 [] U (fO mE U (qO 3 U (hx _ rd)))
theorem Hk(h l fg ff signed cu ct bq)(hl:SlC ao.rp h fg ff l)(eT:SlC jB h cu ct signed)(hsg:signed.length=l.length)(hsn:signed.length<=2000000)(hnd:∀d∈l,d.fm.length<=16):j4 prog 182 [.slice fg l.length ff,.slice cu signed.length ct,I bq] h (λv h'=>∃(rb0:Option Addr)(rc0:Nat),v=.slice rb0 (co l signed bq).length rc0/\SlC jB h' rb0 rc0 (co l signed bq)):=by
 refine sT func182 U ntmps182 U λX hM hX hF=>?_
 have hs0:=@rfl _ (co l signed bq)
 refine qT 8 U (aH (cw call184 (Aj _ _ _ _ bq eT ob) U (λv1 h1 hle1 hp1=>?_)))
 obtain⟨rb1,rc1,rfl,sl1⟩:=hp1
 refine qL 6 [] U (aH (GE (R:=vV) (x0:=false) (m:=l.length) (λG=>G) U U (λ_=>ap) Ef zc4 ty4 bytes4 U U ob ob (λb1 G1 gr1=>qO 4 U (aH (rY eM ty3 (λb2=>qO 7 U ?_))))))
 obtain⟨G6,gr6,ge1⟩:∃G:LH,cN jB 3 h1 ([]) (zAD b2) 0 G/\[(b2,O [] 3)]=G:=⟨_,cN.lit (show cY jB h1 [] ([])from rfl) rfl,rfl⟩
 refine bY (L':=([])++([(b2,O [] 3)]++G1)) ap ?_
 rw[ge1]
 refine mY (List.Perm.append_left _ xG) (bY (L':=G1++G6) ap ?_)
 refine lp4 l (λi w=>[(0,.slice fg l.length ff),(1,.slice cu signed.length ct),(7,.slice rb1 ((cn signed bq).length) rc1),(8,.slice (zAD b1) ((List.replicate l.length false).length) l.length),(9,.slice w.2.1 w.1.length w.2.2.1),(10,I (i:Int))]) (λ_=>h1) (λw=>G1++(w.2.2.2)) (λi w=>cN jB 3 h1 w.1 w.2.1 w.2.2.1 w.2.2.2/\w.1.length<=0+i/\w.1.length=i) (λi w=>cN jB 3 h1 w.1 w.2.1 w.2.2.1 w.2.2.2/\w.1.length<=0+i/\w.1.length=l.length) (λi g hi h=>⟨h.1,h.2.1,h.2.2.trans hi⟩) (λs1 i w=>(co.L1 (co.K1 l signed bq)) s1 w.1) ([],(zAD b2),0,G6) ((hl.mono ao.aG hle1).1.1) hs0 ⟨gr6,lo,U⟩ ?_ ?_ ?_
 .rintro i1 ⟨pW,DS,DR,Fj⟩ i7 hs1 ⟨yS,Ij,u1_0⟩ e
  try dsimp only at yS Ij u1_0
  refine qT 5 U ?_
  refine lp2 (cn signed bq) (λi w=>[(0,.slice fg l.length ff),(1,.slice cu signed.length ct),(7,.slice rb1 ((cn signed bq).length) rc1),(8,.slice w.2.1 w.1.length w.2.2.1),(9,.slice w.2.2.2.2.2.1 w.2.2.2.2.1.length w.2.2.2.2.2.2.1),(11,I (i:Int))]) (λ_=>h1) (λw=>w.2.2.2.1++(w.2.2.2.2.2.2.2)) (λi w=>cN vV 4 h1 w.1 w.2.1 w.2.2.1 w.2.2.2.1/\cN jB 3 h1 w.2.2.2.2.1 w.2.2.2.2.2.1 w.2.2.2.2.2.2.1 w.2.2.2.2.2.2.2/\w.1.length=l.length/\w.2.2.2.2.1.length=l.length) (λs2 i w=>(co.L2 l signed bq (co.K2)) s2 i w.1 w.2.2.2.2.1) ((List.replicate l.length false),(zAD b1),l.length,G1,pW,DS,DR,Fj) sl1.1.1 hs1 ⟨gr1,yS,List.length_replicate,ob⟩ ?_ ?_ ?_
  .rintro i2 ⟨mv,qm,ql,py,H9,Kf,Ke,PF⟩ CI hs2 ⟨rx,Nh,u2_0,u2_1⟩ e
   try dsimp only at rx Nh u2_0 u2_1
   refine qT 5 U (fF qJ (py) PF ([]) ap hM Nh (λh2 hle2 sl8=>bY (L':=py) ap ?_))
   have hs3:co l signed bq=H9:=hs2
   exact nretH [.slice Kf H9.length Ke] ⟨Kf,Ke,congrArg (λr:List Int=>(.slice Kf r.length Ke:Value)) hs3.symm,(by rw[hs3];exact sl8)⟩
  .rintro i2 ⟨mv,qm,ql,py,H9,Kf,Ke,PF⟩ y2 rz2 hd2 xw rS Fg Nf hs4 ⟨rx,Nh,u2_0,u2_1⟩ hx2 ag1 e
   try dsimp only at rx Nh u2_0 u2_1
   have hnl:=Pk (P:=λd:ao=>d.fm.length<=16) hnd (xH _) y2
   refine qK 6 [] U (tO xw U (qO 9 U (aH (iF (λy=>[I y]) eM ty3 sl1.1 rS U U U (λq35 A35=>eE ty3 A35 U (qO 7 U ?_))))))
   have ho40:0<=(y2:Int)/\(y2:Int)<((l).length:Int):=(by first|omega|(have hq:=uB signed bq _ (gP hd2);omega))
   refine aH (yl w7 ty54 (hl.mono ao.aG hle1).1 ho40 (dC ho40) U U U (λ_ _ _ e=>e) (λq36 r15 A36 ok15=>qL 1 [] U (lM (j:=8) ty31 A36 U U (qL 1 [] U (iS (v':=I ((((nthI l y2).fm.length:Nat):Int)-1)) U (lI ob) (an ?_))))))
   refine gx (ι:=Nat×List Int×Option Addr×Nat×LH) (λi=>[(0,.slice fg l.length ff),(1,.slice cu signed.length ct),(7,.slice rb1 ((cn signed bq).length) rc1),(8,.slice qm mv.length ql),(9,.slice i.2.2.1 i.2.1.length i.2.2.2.1),(11,I (i2:Int)),(12,I y2)]) (λi=>h1) (λi=>py++(i.2.2.2.2)) (λi=>i.1<=(qE ((nthI l y2).fm.length)).length/\co l signed bq=((λzg4_9=>(co.L2 l signed bq (co.K2) rz2 (i2+1) (mv.set (y2:Int).toNat (decide ((nthI zg4_9 y2)<0))) zg4_9)) i.2.1)/\cN jB 3 h1 i.2.1 i.2.2.1 i.2.2.2.1 i.2.2.2.2/\i.2.1.length=l.length) ?_ (λhx4=>?_)
   .rintro⟨i4,vI,H3,HZ,DF⟩ ⟨Nd,hs5,B4,u4_0⟩ e
    try dsimp only at Nd B4 u4_0
    refine qT 5 U ?_
    have ho49:0<=(y2:Int)/\(y2:Int)<((vI).length:Int):=ob
    have hgz:=cN.xz B4 (by omega)
    obtain⟨bk10,hbk10⟩:=hgz
    refine aH (eu (nR (R:=jB) (xs:=vI) eM ty3 hbk10 ho49 U U U) (aH (eu (E2 (R:=jB) (i:=(y2:Int).toNat) (off:=0) ty3 B4 hbk10 (dC ho49) (λcs_z hcs=>by rw[show cs_z=[I (nthI vI y2)]from hcs];rfl) U mh) (Hv U ?_))))
    have ho50:0<=(y2:Int)/\(y2:Int)<((mv).length:Int):=ob
    have hgz:=cN.xz rx (by omega)
    obtain⟨bk11,hbk11⟩:=hgz
    exact aH (eu (nR (R:=vV) (xs:=mv) Ef ty4 hbk11 ho50 U U U) (aH (uO (R:=vV) (i:=(y2:Int).toNat) (off:=0) (u:=(nthI mv y2)) (u':=decide ((nthI vI y2)<0)) (v:=.bool (decide ((nthI vI y2)<0))) ([]) py (DF) ty4 U rx ap hbk11 (dC ho50) (by decide) (λcs_z hcs=>by rw[show cs_z=[.bool (nthI mv y2)]from hcs];rfl) U U U (λG12 gr12=>jf (L':=G12++(DF)) (by first|rfl|simp only[List.length_set,vD,kK,zF,List.append_nil]) (T3 8 (.slice qm ((mv.set (y2:Int).toNat (decide ((nthI vI y2)<0))).length) ql) (congrArg (λn_=>Value.slice qm n_ ql) (List.length_set ..).symm) (qO 4 U (oi i2 U (an (ag1 ((mv.set (y2:Int).toNat (decide ((nthI vI y2)<0))),qm,ql,G12,vI,H3,HZ,DF) hs5 ⟨gr12,B4,(by first|assumption|(rw[List.length_set];assumption)),(by first|assumption|(rw[List.length_set];assumption))⟩)))))))))
   refine jw (ι:=Nat×List Int×Option Addr×Nat×LH×List Nat) (λi=>[(0,.slice fg l.length ff),(1,.slice cu signed.length ct),(7,.slice rb1 ((cn signed bq).length) rc1),(8,.slice qm mv.length ql),(9,.slice i.2.2.1 i.2.1.length i.2.2.2.1),(11,I (i2:Int)),(12,I y2),(13,I ((((((nthI l y2).fm.length)-i.1):Nat):Int)-1))]) (λi=>h1) (λi=>py++(i.2.2.2.2.1)) (λi=>(qE ((nthI l y2).fm.length)).drop i.1=i.2.2.2.2.2/\i.1<=(qE ((nthI l y2).fm.length)).length/\co l signed bq=((co.L4 l signed bq i2 y2 mv (λzg4_9=>(co.L2 l signed bq (co.K2) rz2 (i2+1) (mv.set (y2:Int).toNat (decide ((nthI zg4_9 y2)<0))) zg4_9))) i.2.2.2.2.2 i.1 i.2.1)/\cN jB 3 h1 i.2.1 i.2.2.1 i.2.2.2.1 i.2.2.2.2.1/\i.2.1.length=l.length) (λi=>i.2.2.2.2.2.length) (0,H9,Kf,Ke,PF,(qE ((nthI l y2).fm.length))) ⟨U,U,U,U,U,U,U,(congrArg (qC .i64) (show((((nthI l y2).fm.length:Nat):Int)-1)=((((((nthI l y2).fm.length)-0):Nat):Int)-1)from by omega)),trivial⟩ sw ⟨U,xH _,hs4,Nh,ob⟩ ?_
   rintro⟨i4,vI,H3,HZ,DF,s4⟩ ⟨hd4,Qz,hs6,B4,u4_0⟩ ag2 e
   try dsimp only at hd4 Qz B4 u4_0
   rcases s4 with _|⟨y4,rz4⟩
   .have UL:decide (0<=((((((nthI l y2).fm.length)-i4):Nat):Int)-1))=false:=decide_eq_false (by have q_:=of_decide_eq_false (nZ hd4);rw[List.length_range]at q_;omega)
    exact el (qT 3 U (fO UL U (qO 3 U (hx4 (i4,vI,H3,HZ,DF) _ ⟨Qz,hs6,B4,u4_0⟩ rd))))
   have UK:decide (0<=((((((nthI l y2).fm.length)-i4):Nat):Int)-1))=true:=decide_eq_true (by have q_:=il hd4;rw[List.length_range]at q_;omega)
   have Nb:i4<((nthI l y2).fm.length):=by simpa using il hd4
   refine qT 4 U (tO UK U (qO 6 U (fo (py++(DF)) mixed kr jn (λim _=>qR 0 3 U (JH 3 im jn eM ty3 sl1.1 sl1.2 ob U U U U kr (λsb8 sc8 sl10=>qR 4 4 U ?_))))))
   have ho51:0<=(y2:Int)/\(y2:Int)<((l).length:Int):=(by first|omega|(have hq:=uB signed bq _ (gP hd2);omega))
   refine oB 8 im jn w7 ty54 (hl.mono ao.aG hle1).1 ho51 (dC ho51) U U U U kr (λq42 cs18 A42 ln18 rr18=>?_)
   obtain⟨r18,rfl,ok18⟩:=rr18
   refine qB [9] U (tf 10 U U (rH 8 ty31 A42 U U) (tm 11 U ?_))
   have ho52:0<=(((((((nthI l y2).fm.length)-i4):Nat):Int)-1):Int)/\(((((((nthI l y2).fm.length)-i4):Nat):Int)-1):Int)<(((nthI l y2).fm).length:Int):=ob
   refine kZ 12 (enc:=λy=>[I y]) im jn ei eM ty3 ok18.fm.1 ho52 (dC ho52) U U U U kr (λq43 A43=>tf 13 U U (rh ty3 A43 U) (qA [15,16] U ?_))
   have ho53:0<=(y2:Int)/\(y2:Int)<((signed).length:Int):=(by first|omega|(have hq:=uB signed bq _ (gP hd2);omega))
   refine kZ 17 (enc:=λy=>[I y]) im jn ei eM ty3 (eT.mono qJ hle1).1 ho53 (dC ho53) U U U U kr (λq44 A44=>tf 18 U U (rh ty3 A44 U) (tn 14 U (gu call255 (BT _ _ _ _ (nthI ((nthI l y2).fm) ((((((nthI l y2).fm.length)-i4):Nat):Int)-1)) (hl.mono ao.aG hle1)) U (⟨jn,tn 19 U (Df ([]) py (DF) call183 Rp.su rx ap (λhq1 hqle1 hqsl=>Ai hq1 l fg ff ((cn signed bq).take (((i2:Int):Int)).toNat) sb8 sc8 mv qm ql (gF l (nthI ((nthI l y2).fm) ((((((nthI l y2).fm.length)-i4):Nat):Int)-1))) (nthI signed y2) (hl.mono ao.aG (hle1.t hqle1)) (sl10.mono qJ hqle1) hqsl (λx hx=>by have hq:=uB signed bq x (List.mem_of_mem_take hx);omega) ob) U (⟨jn,(qR 20 5 U (bW kr (qT 5 U (aI hs6 U (λc15 hs8=>?_) (λc15 hs9=>?_)))))⟩))⟩))))
   .refine qT 5 U ?_
    have ho54:0<=(y2:Int)/\(y2:Int)<((l).length:Int):=(by first|omega|(have hq:=uB signed bq _ (gP hd2);omega))
    refine aH (yl w7 ty54 (hl.mono ao.aG hle1).1 ho54 (dC ho54) U U U (λ_ _ _ e=>e) (λq45 r19 A45 ok19=>qL 1 [] U (lM (j:=8) ty31 A45 U U (bD ?_))))
    have ho55:0<=(((((((nthI l y2).fm.length)-i4):Nat):Int)-1):Int)/\(((((((nthI l y2).fm.length)-i4):Nat):Int)-1):Int)<(((nthI l y2).fm).length:Int):=ob
    refine aH (tA (enc:=λy=>[I y]) ei eM ty3 ok19.fm.1 ho55 (dC ho55) U U U (λq46 A46=>eE ty3 A46 U ?_))
    have ho56:0<=(y2:Int)/\(y2:Int)<((vI).length:Int):=ob
    have hgz:=cN.xz B4 (by omega)
    obtain⟨bk12,hbk12⟩:=hgz
    exact aH (eu (nR (R:=jB) (xs:=vI) eM ty3 hbk12 ho56 U U U) (aH (uO (R:=jB) (i:=(y2:Int).toNat) (off:=0) (u:=(nthI vI y2)) (u':=(nthI ((nthI l y2).fm) ((((((nthI l y2).fm.length)-i4):Nat):Int)-1))) (v:=I (nthI ((nthI l y2).fm) ((((((nthI l y2).fm.length)-i4):Nat):Int)-1))) (py) DF ([]) ty3 U B4 ap hbk12 (dC ho56) (by decide) (λcs_z hcs=>by rw[show cs_z=[I (nthI vI y2)]from hcs];rfl) U U U (λG13 gr13=>jf (L':=py++G13) (by first|rfl|simp only[List.length_set,vD,kK,zF,List.append_nil]) (T3 9 (.slice H3 ((vI.set (y2:Int).toNat (nthI ((nthI l y2).fm) ((((((nthI l y2).fm.length)-i4):Nat):Int)-1))).length) HZ) (congrArg (λn_=>Value.slice H3 n_ HZ) (List.length_set ..).symm) (qO 4 U (iS (v':=I ((((((nthI l y2).fm.length)-(i4+1)):Nat):Int)-1)) U (PU Nb ob) (an (ag2 ((i4+1),(vI.set (y2:Int).toNat (nthI ((nthI l y2).fm) ((((((nthI l y2).fm.length)-i4):Nat):Int)-1))),H3,HZ,G13,rz4) _ (Nat.lt_succ_self _) ⟨ll hd4,il hd4,hs8,gr13,(by first|assumption|(rw[List.length_set];assumption))⟩ rd)))))))))
   exact bO (qT 3 U (iS (v':=I ((((((nthI l y2).fm.length)-(i4+1)):Nat):Int)-1)) U (PU Nb ob) (an (ag2 ((i4+1),vI,H3,HZ,DF,rz4) _ (Nat.lt_succ_self _) ⟨ll hd4,il hd4,hs9,B4,(by first|assumption|(rw[List.length_set];assumption))⟩ rd))))
  rintro i2 ⟨mv,qm,ql,py,H9,Kf,Ke,PF⟩ hd2 Si hx e
  exact qK 6 [] U (fO Si U (qO 3 U (hx _ rd)))
 .rintro i1 ⟨pW,DS,DR,Fj⟩ y1 rz1 hd1 gg dL i5 mF hs10 ⟨yS,Ij,u1_0⟩ hx1 ag3 e
  try dsimp only at yS Ij u1_0
  exact qK 6 [] U (tO gg U (qO 7 U (aH (bT (cells:=[I (-1)]) eM ty3 zc3 U U kr (λb4=>aH (eN W3 ([(b4,O [I (-1)] 3)]++G1) ([]) (λG=>[(b4,O [I (-1)] 3)]++(G1++G)) ap (λ_=>ap) eM ty3 zc3 U bytes3 yS U U (gV 0 U (cE (-1) U U)) lo lo (λob2 oc2 G14 gr14=>qO 5 U (oi i1 U (an (cm (L':=G1++G14) js (ag3 ((pW++[(-1)]),ob2,oc2,G14) hs10 ⟨gr14,lo,lo⟩)))))))))))
 rintro i1 ⟨pW,DS,DR,Fj⟩ hd1 mE hx e
 exact qK 6 [] U (fO mE U (qO 3 U (hx _ rd)))
theorem Hi(h l fg ff signed cu ct)(DD:Int)(dw)(hl:SlC ao.rp h fg ff l)(eT:SlC jB h cu ct signed)(hsg:signed.length=l.length)(hsn:signed.length<=2000000)(hnd:∀d∈l,d.fm.length<=16)(hi:0<=DD/\DD<(l.length:Int)):Ret prog 116 [.slice fg l.length ff,.slice cu signed.length ct,I DD,I dw] h (.tuple #[I ((ld l signed DD dw).1),I ((ld l signed DD dw).2)]):=by
 refine sT func116 U ntmps116 U λX hM hX hF=>?_
 have hs0:=@rfl _ (ld l signed DD dw)
 have hll:=QR l signed dw hsg
 refine qT 10 U (aH (cw call182 (Hk _ _ _ _ _ _ _ dw hl eT ob ob ob) U (λv1 h1 hle1 hp1=>?_)))
 obtain⟨rb1,rc1,rfl,sl1⟩:=hp1
 refine qO 4 U (aH (rY Ef ty4 (λb1=>qO 7 U ?_)))
 obtain⟨G2,gr2,ge1⟩:∃G:LH,cN vV 4 h1 ([]) (zAD b1) 0 G/\[(b1,O [] 4)]=G:=⟨_,cN.lit (show cY vV h1 [] ([])from rfl) rfl,rfl⟩
 refine bY (L':=([])++([(b1,O [] 4)]++([]))) ap ?_
 rw[ge1]
 refine mY (List.Perm.append_left _ xG) (bY (L':=G2) ap ?_)
 refine lp4 l (λi w=>[(0,.slice fg l.length ff),(1,.slice cu signed.length ct),(2,I DD),(3,I dw),(10,.slice rb1 ((co l signed dw).length) rc1),(11,.slice w.2.1 w.1.length w.2.2.1),(12,I (i:Int))]) (λ_=>h1) (λw=>w.2.2.2) (λi w=>cN vV 4 h1 w.1 w.2.1 w.2.2.1 w.2.2.2/\w.1.length<=0+i/\w.1.length=i) (λi w=>cN vV 4 h1 w.1 w.2.1 w.2.2.1 w.2.2.2/\w.1.length<=0+i/\w.1.length=l.length) (λi g hi h=>⟨h.1,h.2.1,h.2.2.trans hi⟩) (λs1 i w=>(ld.L1 l signed dw (ld.K1 l signed DD dw)) s1 i w.1) ([],(zAD b1),0,G2) ((hl.mono ao.aG hle1).1.1) hs0 ⟨gr2,lo,U⟩ ?_ ?_ ?_
 .rintro i1 ⟨mA,SA,Sz,Ow⟩ i7 hs1 ⟨Il,Ov,u1_0⟩ e
  try dsimp only at Il Ov u1_0
  refine qT 5 U (aH (cw call184 (Aj _ _ _ _ dw (eT.mono qJ hle1) ob) U (λv3 h4 hle4 hp3=>?_)))
  obtain⟨rb3,rc3,rfl,sl4⟩:=hp3
  refine qO 3 U (pR Rp.su ([]) Ow ([]) ap hM (Il.mono Rp.su hle4) (λh5 hle5 sl5=>aX call183 (Ai _ _ _ _ _ _ _ _ _ _ DD dw (hl.mono ao.aG ((hle1.t hle4).t hle5)) (sl4.mono qJ hle5) sl5 (λx hx=>by have hq:=uB signed dw x hx;omega) ob) U (qO 12 U (aI hs1 U (λc2 hs2=>?_) (λc2 hs3=>?_)))))
  .refine qT 3 U ?_
   have ho3:0<=(DD:Int)/\(DD:Int)<(((co l signed dw)).length:Int):=ob
   refine aH (tA (enc:=λy=>[I y]) ei eM ty3 (sl1.mono qJ (hle4.t hle5)).1 ho3 (dC ho3) U U U (λq3 A3=>eE ty3 A3 U (qO 9 U ?_)))
   have hs4:ld l signed DD dw=((eV l (cn signed dw) mA DD dw).1,(nthI (co l signed dw) DD)):=hs2
   exact nretP [I ((eV l (cn signed dw) mA DD dw).1),I (nthI (co l signed dw) DD)] (hs4▸U)
  refine qT 8 U ?_
  have hs5:ld l signed DD dw=((eV l (cn signed dw) mA DD dw).1,(eV l (cn signed dw) mA DD dw).2):=hs3
  exact nretP [I ((eV l (cn signed dw) mA DD dw).1),I ((eV l (cn signed dw) mA DD dw).2)] (hs5▸U)
 .rintro i1 ⟨mA,SA,Sz,Ow⟩ y1 rz1 hd1 gg dL i5 mF hs6 ⟨Il,Ov,u1_0⟩ hx1 ag1 e
  try dsimp only at Il Ov u1_0
  refine qK 6 [] U (tO gg U (qO 9 U ?_))
  have ho4:0<=((i1:Int):Int)/\((i1:Int):Int)<(((co l signed dw)).length:Int):=ob
  refine aH (tA (enc:=λy=>[I y]) ei eM ty3 sl1.1 ho4 (dC ho4) U U U (λq4 A4=>eE ty3 A4 U (Hv U (aH (bT (cells:=[.bool (decide ((nthI (co l signed dw) (i1:Int))<0))]) Ef ty4 zc4 U U kr (λb3=>?_))))))
  let z1:Nat×Obj:=(b3,O [.bool (decide ((nthI (co l signed dw) (i1:Int))<0))] 4)
  exact aH (eN Rp.EP ([z1]) ([]) (λG=>[z1]++G) ap (λ_=>ap) Ef ty4 zc4 U bytes4 Il U U (gV 0 U (cE (decide ((nthI (co l signed dw) (i1:Int))<0)) U U)) lo lo (λob2 oc2 G3 gr3=>qO 5 U (oi i1 U (an (cm (L':=G3) js (ag1 ((mA++[decide ((nthI (co l signed dw) (i1:Int))<0)]),ob2,oc2,G3) hs6 ⟨gr3,lo,lo⟩))))))
 rintro i1 ⟨mA,SA,Sz,Ow⟩ hd1 mE hx e
 exact qK 6 [] U (fO mE U (qO 3 U (hx _ rd)))
theorem Em(h l fg ff signed cu ct bq)(hl:SlC ao.rp h fg ff l)(eT:SlC jB h cu ct signed)(hsn:l.length<=2000000):j4 prog 55 [.slice fg l.length ff,.slice cu signed.length ct,I bq] h (λv h'=>∃(rb0:Option Addr)(rc0:Nat),v=.tuple #[.slice rb0 ((fG l signed bq).1).length rc0,I ((fG l signed bq).2)]/\SlC jB h' rb0 rc0 ((fG l signed bq).1)):=by
 refine sT func55 U ntmps55 U λX hM hX hF=>?_
 have hs0:=@rfl _ (fG l signed bq)
 refine qT 8 U (aX call112 (Ak _ _ _ _ hl) U (qO 8 U (aI hs0 U (λc1 hs1=>?_) (λc1 hs2=>?_))))
 .refine qT 6 U ?_
  have hs3:fG l signed bq=([],(ek l)):=hs1
  exact nretH [zSN,I (ek l)] (hs3▸⟨none,0,U,SlC.nil⟩)
 refine qT 6 U (aX call114 (Dp _ _ _ _ _ _ _ hl eT) U (qO 2 U (gz 4 [22,23,24,25,26] 22 26 (!(oT bq)) U (λc2 hk1=>?_) (λe=>?_))))
 .exact bD (aX call115 (BS h bq) U (qO 2 U (hk1 _ U)))
 refine bp (aI hs2 U (λc3 hs4=>?_) (λc3 hs5=>?_))
 .refine qT 5 U ?_
  have hs6:fG l signed bq=([],1):=hs4
  exact nretH [zSN,I 1] (hs6▸⟨none,0,U,SlC.nil⟩)
 refine qT 3 U (aH (rY eM ty3 (λb1=>qO 7 U ?_)))
 obtain⟨G2,gr2,ge1⟩:∃G:LH,cN jB 3 h ([]) (zAD b1) 0 G/\[(b1,O [] 3)]=G:=⟨_,cN.lit (show cY jB h [] ([])from rfl) rfl,rfl⟩
 refine bY (L':=([])++([(b1,O [] 3)]++([]))) ap ?_
 rw[ge1]
 refine mY (List.Perm.append_left _ xG) (bY (L':=G2) ap ?_)
 refine lp2 l (λi w=>[(0,.slice fg l.length ff),(1,.slice cu signed.length ct),(2,I bq),(9,.slice w.2.1 w.1.length w.2.2.1),(10,I (i:Int))]) (λ_=>h) (λw=>w.2.2.2) (λi w=>cN jB 3 h w.1 w.2.1 w.2.2.1 w.2.2.2/\w.1.length<=0+i) (λs1 i w=>(fG.L1 l signed bq (fG.K1)) s1 i w.1) ([],(zAD b1),0,G2) hl.1.1 hs5 ⟨gr2,lo⟩ ?_ ?_ ?_
 .rintro i1 ⟨pW,DS,DR,Fj⟩ i7 hs7 ⟨yS,Ij⟩ e
  try dsimp only at yS Ij
  refine qT 6 U (fF qJ ([]) Fj ([]) ap hM yS (λh2 hle2 sl2=>?_))
  have hs8:fG l signed bq=(pW,0):=hs7
  exact nretH [.slice DS pW.length DR,I 0] (hs8▸⟨DS,DR,U,sl2⟩)
 .rintro i1 ⟨pW,DS,DR,Fj⟩ y1 rz1 hd1 gg dL i5 mF hs9 ⟨yS,Ij⟩ hx1 ag1 e
  try dsimp only at yS Ij
  refine qK 6 [] U (tO gg U (qO 11 U (aX call116 (Hi _ _ _ _ _ _ _ (i1:Int) bq hl eT (yI (by simp only[decide_eq_true_eq,decide_eq_false_iff_not,zC,kD,qF,Bool.not_eq_false',Bool.and_eq_false_iff,Bool.or_eq_false_iff,beq_iff_eq,beq_eq_false_iff_ne,bne_iff_ne,bne_eq_false_iff_eq,vA,zA,zB,List.length_drop]at *;first|assumption|exact(by assumption:_/\_).1|exact(by assumption:(_/\_)/\_).1.1)) (by rw[show signed.length=l.length from(yI (by simp only[decide_eq_true_eq,decide_eq_false_iff_not,zC,kD,qF,Bool.not_eq_false',Bool.and_eq_false_iff,Bool.or_eq_false_iff,beq_iff_eq,beq_eq_false_iff_ne,bne_iff_ne,bne_eq_false_iff_eq,vA,zA,zB,List.length_drop]at *;first|assumption|exact(by assumption:_/\_).1|exact(by assumption:(_/\_)/\_).1.1))];exact hsn) (NC ob) (by first|omega|exact Find_ok ob)) U (qO 11 U (aI hs9 U (λc5 hs10=>?_) (λc5 hs11=>?_))))))
  .exact bM (qO 3 U (aH (iR w7 ty54 hl.1 dL U U U (λ_ _ _ e=>e) (λq2 r2 A2 ok2=>qL 1 [] U (eE ty3 A2 U (aH (bT (cells:=[I y1.No]) eM ty3 zc3 U U kr (λb3=>aH (eN W3 ([(b3,O [I y1.No] 3)]) ([]) (λG=>[(b3,O [I y1.No] 3)]++G) ap (λ_=>ap) eM ty3 zc3 U bytes3 yS U U (gV 0 U (cE (y1.No) U U)) lo lo (λob2 oc2 G3 gr3=>qO 5 U (oi i1 U (an (cm (L':=G3) js (ag1 ((pW++[y1.No]),ob2,oc2,G3) hs10 ⟨gr3,lo⟩))))))))))))))
  exact bO (qT 3 U (oi i1 U (an (ag1 (pW,DS,DR,Fj) hs11 ⟨yS,lo⟩))))
 rintro i1 ⟨pW,DS,DR,Fj⟩ hd1 mE hx e
 exact qK 6 [] U (fO mE U (qO 3 U (hx _ rd)))
theorem BR(h gp)  : Ret prog 118 [I gp] h (.bool (uU gp)):=by
 refine sT func118 U ntmps118 U λX hM hX hF=>?_
 generalize hz:(uU gp)=z;have hs:=hz.symm
 exact W
instance kC118:Ct 118:=⟨_,call118,@BR⟩
theorem IW(h u qs qp)(hu:SlC W0 h qs qp u):Ret prog 117 [.slice qs u.length qp] h (.bool (gE u)):=by
 refine sT func117 U ntmps117 U λX hM hX hF=>?_
 generalize hz:(gE u)=z;have hs:=hz.symm
 have HA:=h0 [0] 3 (λs1 i=>(gE.L1 u (gE.K1)) s1 i)
 have HB:=λy1 rz1 i1=>h0 [0,3] 4 (λs1 i=>((gE.L3 u y1 ((gE.L1 u (gE.K1) rz1 (i1+1)))) s1 i))
 exact W
theorem FH(h)(x:Budget)(lq ah)  : Ret prog 260 [.agg (vL x).toArray,I lq,I ah] h (.bool (jy x lq ah)):=by
 refine sT func260 U ntmps260 U λX hM hX hF=>?_
 generalize hz:(jy x lq ah)=z;have hs:=hz.symm
 exact W
instance kC260:Ct 260:=⟨_,call260,@FH⟩
theorem FG(h l fg ff)(sF:Int)(bq ah)(hl:SlC vQ h fg ff l)(hi:0<=sF/\sF<(l.length:Int)):Ret prog 185 [.slice fg l.length ff,I sF,I bq,I ah] h (.bool (iq l sF bq ah)):=by
 refine sT func185 U ntmps185 U λX hM hX hF=>?_
 generalize hz:(iq l sF bq ah)=z;have hs:=hz.symm
 have HA:=h0 [0,2,3,9] 10 (λs1 i=>(iq.L1 l sF bq ah (iq.K1)) s1)
 exact W
instance kC185:Ct 185:=⟨_,call185,@FG⟩
theorem Do(h l fg ff Ew bq ah)(hl:SlC vQ h fg ff l)(hsz0:l.length<=2000000):j4 prog 121 [.slice fg l.length ff,I Ew,I bq,I ah] h (λv h'=>∃(rb0:Option Addr)(rc0:Nat),v=.slice rb0 (dH l Ew bq ah).length rc0/\SlC vQ h' rb0 rc0 (dH l Ew bq ah)):=by
 refine sT func121 U ntmps121 U λX hM hX hF=>?_
 generalize hz:(dH l Ew bq ah)=z;have hs:=hz.symm
 have HA:=hG [0,1,2,3] 10 9 vQ 73 (λs1 i w=>(dH.L1 l Ew bq ah (dH.K1)) s1 i w)
 exact W
theorem IV(h)(x:Budget)(u qs qp value dw ah)(hu:SlC W0 h qs qp u)(hxp:x.eK≠0):Ret prog 122 [.agg (vL x).toArray,.slice qs u.length qp,I value,I dw,I ah] h (.bool (mM x u value dw ah)):=by
 refine sT func122 U ntmps122 U λX hM hX hF=>?_
 have hs0:=@rfl _ (mM x u value dw ah)
 refine sr (eL (λb1=>qO 16 U ?_))
 refine lp1 u (λi w=>[(1,.slice qs u.length qp),(3,I dw),(4,I ah),(5,Q b1),(11,I w.1),(12,I w.2),(13,I (i:Int))]) ([(b1,O (vL x) 73)]) (λs1 i w=>(mM.L1 x dw ah (mM.K1 x)) s1 w.1 w.2) (0,value) hu.1.1 hs0 ?_ ?_ ?_
 .rintro i1 ⟨mA,rD⟩ i7 hs1 e
  refine qK 7 [0] U (gz 5 [71,72,73,74,75,76] 71 76 (decide (x.Value<rD)) U (λc1 hk1=>?_) (λe=>?_))
  .exact qL 5 [0] U (hk1 _ U)
  exact an (nretP [.bool (decide (x.Count<=mA)||decide (x.Value<rD))] (cs hs1))
 .rintro i1 ⟨mA,rD⟩ y1 rz1 hd1 gg dL i5 mF hs3 hx1 ag1 e
  refine qK 6 [] U (tO gg U (qO 6 U ?_))
  refine Eg [(1,.slice qs u.length qp),(3,I dw),(4,I ah),(5,Q b1),(11,I mA),(12,I rD),(13,I (i1:Int)),(57,.bool ((decide (y1.dU<=ah)&&((x.Kind==(-1))||(x.Kind==y1.Kind)))&&((vB .i64 (y1.At.tdiv x.eK))==(vB .i64 (dw.tdiv x.eK)))))] (λe=>?_) (λhk2=>?_)
  rotate_left
  .refine fo ([(b1,O (vL x) 73)]) mixed kr jn (λim _=>?_)
   refine qA [0,1] U (kZ 2 (enc:=WL) im jn ei JA ty223 hu.1 (nthZ dL) (iC dL) U U U U kr (λq3 A3=>qB [3] U (tf 4 U U (rH 4 ty3 A3 U U) (qR 5 3 U ?_))))
   refine fJ 28 U (λc2=>?_) (λc2=>?_)
   .have c2p:=of_decide_eq_true c2
    refine qB [8] U (tf 9 U U (rj 0 ty3 U U U) (qA [10,11] U ?_))
    refine fJ 32 U (λc3=>?_) (λc3=>?_)
    .exact tk 12 U U (qR 13 12 U (kZ 25 (enc:=WL) im jn ei JA ty223 hu.1 (nthZ dL) (iC dL) U U U U kr (λq4 A4=>qB [26] U (tf 27 U U (rH 3 ty3 A4 U U) (qB [28] U (tf 29 U U (rj 0 ty3 U U U) (tf 30 U U (λ_ _ _=>E1 U U ob) (qB [31,32] U (tf 33 U U (rj 0 ty3 U U U) (tf 34 U U (λ_ _ _=>E1 U U ob) (qA [35,36] U (bW kr (hk2 _ ⟨U,U,U,U,U,U,U,(cb (show((vB .i64 (y1.At.tdiv x.eK))==(vB .i64 (dw.tdiv x.eK)))=((decide (y1.dU<=ah)&&((x.Kind==(-1))||(x.Kind==y1.Kind)))&&((vB .i64 (y1.At.tdiv x.eK))==(vB .i64 (dw.tdiv x.eK))))from by rw[c2,c3]<;>rfl)),trivial⟩)))))))))))))
    refine qB [12] U (tf 13 U U (rj 0 ty3 U U U) (qA [14,15] U (kZ 16 (enc:=WL) im jn ei JA ty223 hu.1 (nthZ dL) (iC dL) U U U U kr (λq5 A5=>qB [17] U (tf 18 U U (rH 1 ty3 A5 U U) (qR 19 4 U ?_))))))
    refine fJ 43 U (λc4=>?_) (λc4=>?_)
    .exact tm 23 U (tm 24 U (kZ 25 (enc:=WL) im jn ei JA ty223 hu.1 (nthZ dL) (iC dL) U U U U kr (λq6 A6=>qB [26] U (tf 27 U U (rH 3 ty3 A6 U U) (qB [28] U (tf 29 U U (rj 0 ty3 U U U) (tf 30 U U (λ_ _ _=>E1 U U ob) (qB [31,32] U (tf 33 U U (rj 0 ty3 U U U) (tf 34 U U (λ_ _ _=>E1 U U ob) (qA [35,36] U (bW kr (hk2 _ ⟨U,U,U,U,U,U,U,(cb (show((vB .i64 (y1.At.tdiv x.eK))==(vB .i64 (dw.tdiv x.eK)))=((decide (y1.dU<=ah)&&((x.Kind==(-1))||(x.Kind==y1.Kind)))&&((vB .i64 (y1.At.tdiv x.eK))==(vB .i64 (dw.tdiv x.eK))))from by rw[c2,c3,c4]<;>rfl)),trivial⟩)))))))))))))
    exact tk 23 U U (qR 24 13 U (bW kr (hk2 _ ⟨U,U,U,U,U,U,U,(cb (show false=((decide (y1.dU<=ah)&&((x.Kind==(-1))||(x.Kind==y1.Kind)))&&((vB .i64 (y1.At.tdiv x.eK))==(vB .i64 (dw.tdiv x.eK))))from by rw[c2,c3,c4]<;>rfl)),trivial⟩)))
   have c2p:=of_decide_eq_false c2
   exact tk 8 U U (qR 9 28 U (bW kr (hk2 _ ⟨U,U,U,U,U,U,U,(cb (show false=((decide (y1.dU<=ah)&&((x.Kind==(-1))||(x.Kind==y1.Kind)))&&((vB .i64 (y1.At.tdiv x.eK))==(vB .i64 (dw.tdiv x.eK))))from by rw[c2]<;>rfl)),trivial⟩)))
  refine aI hs3 U (λc5 hs4=>?_) (λc5 hs5=>?_)
  .exact sr (qO 8 U (aH (iF WL JA ty223 hu.1 dL U U U (λq7 A7=>qL 1 [] U (lM (j:=2) ty3 A7 U U (qO 6 U (oi i1 U (an (ag1 ((vB .i64 (mA+1)),(vB .i64 (rD+y1.Value))) hs4)))))))))
  exact bO (qT 3 U (oi i1 U (an (ag1 (mA,rD) hs5))))
 rintro i1 ⟨mA,rD⟩ hd1 mE hx e
 exact qK 6 [] U (fO mE U (qO 3 U (hx _ rd)))
theorem IX(h l fg ff u qs qp LG value cB ah)(hl:SlC vQ h fg ff l)(hu:SlC W0 h qs qp u)(hsz:l.length<=2000000):Ret prog 56 [.slice fg l.length ff,.slice qs u.length qp,I LG,I value,I cB,I ah] h (.tuple #[I ((ii l u LG value cB ah).1),.bool ((ii l u LG value cB ah).2.1),I ((ii l u LG value cB ah).2.2)]):=by
 refine sT func56 U ntmps56 U λX hM hX hF=>?_
 have hs0:=@rfl _ (ii l u LG value cB ah)
 refine qT 9 U (aX call110 (Ah _ _ _ _ hl) U (qO 8 U (aI hs0 U (λc1 hs1=>?_) (λc1 hs2=>?_))))
 .refine qT 7 U ?_
  have hs3:ii l u LG value cB ah=(0,false,(fY l)):=hs1
  exact nretP [I 0,.bool false,I (fY l)] (hs3▸U)
 refine qK 8 [] U (aI hs2 U (λc2 hs4=>?_) (λc2 hs5=>?_))
 .have c2p:=of_decide_eq_true c2
  refine qT 6 U ?_
  have hs6:ii l u LG value cB ah=(0,false,2):=hs4
  exact nretP [I 0,.bool false,I 2] (hs6▸U)
 have c2p:=of_decide_eq_false c2
 refine qT 5 U (aX call117 (IW _ _ _ _ hu) U (qO 2 U (aI hs5 U (λc3 hs7=>?_) (λc3 hs8=>?_))))
 .refine qT 6 U ?_
  have hs9:ii l u LG value cB ah=(0,false,180):=hs7
  exact nretP [I 0,.bool false,I 180] (hs9▸U)
 refine qT 5 U (aX call118 (BR h LG) U (qO 2 U (gz 4 [32,33,34,35,36] 32 36 (!(jx value 0 1099511627776)) U (λc4 hk1=>?_) (λe=>?_))))
 .exact bD (aX call119 (yQ h value 0 1099511627776) U (qO 2 U (hk1 _ U)))
 refine bD (gz 4 [37,38,39,40,41] 37 41 (!(ky cB)) U (λc5 hk2=>?_) (λe=>?_))
 .exact bD (aX call120 (tB h cB) U (qO 2 U (hk2 _ U)))
 refine bD (gz 4 [42,43,44,45,46] 42 46 (!(ky ah)) U (λc6 hk3=>?_) (λe=>?_))
 .exact bD (aX call120 (tB h ah) U (qO 2 U (hk3 _ U)))
 refine bp (aI hs8 U (λc7 hs10=>?_) (λc7 hs11=>?_))
 .refine qT 6 U ?_
  have hs12:ii l u LG value cB ah=(0,false,1):=hs10
  exact nretP [I 0,.bool false,I 1] (hs12▸U)
 refine qT 7 U (aH (cw call121 (Do _ _ _ _ LG cB ah hl ob) U (λv1 h1 hle1 hp1=>?_)))
 obtain⟨rb1,rc1,rfl,sl1⟩:=hp1
 refine qO 7 U ?_
 refine lp0 (dH l LG cB ah) (λi=>[(1,.slice qs u.length qp),(3,I value),(4,I cB),(5,I ah),(16,.slice rb1 ((dH l LG cB ah).length) rc1),(17,I (i:Int))]) ([]) (λs1 i=>(ii.L1 u value cB ah (ii.K1)) s1) sl1.1.1 hs11 ?_ ?_ ?_
 .rintro i1 i7 hs13 e
  refine qT 6 U ?_
  have hs14:ii l u LG value cB ah=((-1),true,0):=hs13
  exact nretP [I (-1),.bool true,I 0] (hs14▸U)
 .rintro i1 y1 rz1 hd1 gg dL i5 mF hs15 hx1 ag1 e
  refine qK 6 [] U (tO gg U (qO 9 U (aH (iF vL C1 ty73 sl1.1 dL U U U (λq3 A3=>eJ ty73 A3 U U (qO 4 U (aX call122 (IV _ y1 _ _ _ value cB ah (hu.mono Use.aG hle1) (KQ (by simpa using c1) (gP hd1))) U (bp (aI hs15 U (λc9 hs16=>?_) (λc9 hs17=>?_))))))))))
  .refine qT 4 U (aH (iF vL C1 ty73 sl1.1 dL U U U (λq4 A4=>qL 1 [] U (eE ty3 A4 U (qO 4 U ?_)))))
   have hs18:ii l u LG value cB ah=(y1.No,false,0):=hs16
   exact nretP [I y1.No,.bool false,I 0] (hs18▸U)
  exact bO (qT 3 U (oi i1 U (an (ag1 hs17))))
 rintro i1 hd1 mE hx e
 exact qK 6 [] U (fO mE U (qO 3 U (hx _ rd)))
theorem KO(h cK gH no)(mS:vK h cK gH):Ret prog 57 [.agg (kC cK gH).toArray,I no] h (I (eS cK no)):=by
 refine sT func57 U ntmps57 U λX hM hX hF=>?_
 generalize hz:(eS cK no)=z;have hs:=hz.symm
 have HA:=h0 [1,2] 5 (λs1 i=>(eS.L1 no (eS.K1)) s1 i)
 exact W
theorem yP(h gp)  : Ret prog 58 [I gp] h (.bool (nO gp)):=by
 refine sT func58 U ntmps58 U λX hM hX hF=>?_
 generalize hz:(nO gp)=z;have hs:=hz.symm
 exact W
theorem GU(h cK gH signed cu ct u qs qp ba cB ah)(mS:vK h cK gH)(eT:SlC jB h cu ct signed)(hu:SlC W0 h qs qp u)(hsm:smR cK):Ret prog 19 [.agg (kC cK gH).toArray,.slice cu signed.length ct,.slice qs u.length qp,I ba,I cB,I ah] h (I (oP cK signed u ba cB ah)):=by
 refine sT func19 U ntmps19 U λX hM hX hF=>?_
 have hs0:=@rfl _ (oP cK signed u ba cB ah)
 refine sr (eL (λb1=>qO 5 U (du 0 ty30 U U U (aX call54 (GV _ _ _ mS ob) U (qO 2 U (aI hs0 U (λc1 hs1=>?_) (λc1 hs2=>?_)))))))
 .exact sr (an (nretP [I 300] (ci hs1)))
 refine qK 6 [0] U (aH (cw call55 (Em _ _ _ _ _ _ _ 0 mS.cj eT hsm.2.2.2.2.2.1) U (λv1 h1 hle1 hp1=>?_)))
 obtain⟨rb1,rc1,rfl,sl1⟩:=hp1
 refine qO 12 U (aI hs2 U (λc2 hs4=>?_) (λc2 hs5=>?_))
 .exact sr (qO 3 U (nretP [I ((fG cK.cj signed 0).2)] (ci hs4)))
 refine qK 6 [0] U (aX call56 (IX _ _ _ _ _ _ _ 0 0 0 0 (mS.dN.mono Budget.aG hle1) (hu.mono Use.aG hle1) hsm.2.2.2.2.1) U (qO 14 U (aI hs5 U (λc3 hs7=>?_) (λc3 hs8=>?_))))
 .exact sr (qO 3 U (nretP [I ((ii cK.dN u 0 0 0 0).2.2)] (ci hs7)))
 refine qT 4 U (du 0 ty30 U U U (bD (aX call57 (KO _ _ _ ba (mS.mono hle1)) U (qO 2 U (gz 4 [46,47,48,49,50] 46 50 (!(nO cB)) U (λc4 hk1=>?_) (λe=>?_))))))
 .exact bD (aX call58 (yP h1 cB) U (qO 2 U (hk1 _ U)))
 refine bD (gz 4 [51,52,53,54,55] 51 55 (!(nO ah)) U (λc5 hk2=>?_) (λe=>?_))
 .exact bD (aX call58 (yP h1 ah) U (qO 2 U (hk2 _ U)))
 refine bp (aI hs8 U (λc6 hs10=>?_) (λc6 hs11=>?_))
 .exact sr (an (nretP [I 1] (ci hs10)))
 exact bO (qT 4 U (nretP [I 0] (ci hs11)))
theorem HL(h cK gH signed cu ct u qs qp ba cB ah)(mS:vK h cK gH)(eT:SlC jB h cu ct signed)(hu:SlC W0 h qs qp u)(hsm:smR cK):Ret prog 7 [.agg (kC cK gH).toArray,.slice cu signed.length ct,.slice qs u.length qp,I ba,I cB,I ah] h (.bool (li cK signed u ba cB ah)):=by
 refine sT func7 U ntmps7 U λX hM hX hF=>?_
 have hs0:=@rfl _ (li cK signed u ba cB ah)
 refine sr (eL (λb1=>qO 4 U (du 0 ty30 U U U (qO 2 U (aX call18 (KM _ _ _ _ _ _ _ _ _ mS eT hu) U (bD (jO 9 [17,18,19,20,21,22,23,24,25,26] 17 26 ((oP cK signed u ba cB ah)==0) U (λc1 hk1=>?_) (λe=>?_))))))))
 .exact du 0 ty30 U U U (qO 5 U (aX call19 (GU _ _ _ _ _ _ _ _ _ ba cB ah mS eT hu ob) U (qO 2 U (hk1 _ U))))
 exact an (nretP [.bool ((lG cK signed u)&&((oP cK signed u ba cB ah)==0))] (cs hs0))
theorem call212(args:Array Value)(w:World):(callFunc 100 args).run prog w=((Extern.SlicesOverlaps.overlaps #[28,28] #[4] args).run prog w).andThen λv w'=>.ok (.value v) w':=
 run_callFunc_extern func100 kr kr kr kr args w
end
section
open Go.Proofs Go.Proofs.Tryz
set_option maxHeartbeats 2000000
theorem law32_MissingNothing_top{w:World}(h:HF)(hp:Pre h [] w)(cK:Register)(gH:pu)(signed:List Int)(cu:Option Addr)(ct:Nat)(u:List Use)(qs:Option Addr)(qp:Nat)(ba:Int)(cB:Int)(ah:Int)(mS:vK h cK gH)(eT:SlC jB h cu ct signed)(hu:SlC W0 h qs qp u)(hsm:smR cK)(hk:dQ h):Calls prog 3 [.agg (kC cK gH).toArray,.slice cu signed.length ct,.slice qs u.length qp,I ba,I cB,I ah].toArray w λe w'=>e=.returned (.bool (cz cK signed u ba cB ah))/\RowKit.Below w.heap.size w w':=by
 refine NH hp C2 U ntmps3 U λX hM hX=>?_
 have hs0:=@rfl _ (cz cK signed u ba cB ah)
 refine sr (eL (λb1=>qO 5 U (aX call6 (Jf h  hk) U (qO 2 U (aI hs0 U (λc1 hs1=>?_) (λc1 hs2=>?_))))))
 .exact sr (an (qy [.bool false] C2 U hX rd (cs hs1)))
 .refine qT 4 U (du 0 ty30 U U U (qO 5 U (aX call7 (HL _ _ _ _ _ _ _ _ _ ba cB ah mS eT hu ob) U (qO 2 U (aI hs2 U (λc2 hs4=>?_) (λc2 hs5=>?_))))))
  .exact sr (an (qy [.bool true] C2 U hX rd (cs hs4)))
  .refine qT 3 U (du 0 ty30 U U U (qO 5 U (aH (cw Q1 (nS _ _ _ _ _ _ _ _ _ ba cB ah mS eT hu hsm (GO (by simpa using(by assumption:(!(li cK signed u ba cB ah))=false))) hk (λ_=>(Qm hsm (by simpa using(by assumption:(!(li cK signed u ba cB ah))=false))))) U (λv1 h1 hle1 hp1=>?_)))))
   obtain⟨rb1,rc1,rfl,sl1⟩:=hp1
   refine qO 10 U (du 0 ty30 U U U (qO 5 U (aH (cw call9 (AE _ _ _ _ _ _ _ _ _ ba cB ah (mS.mono hle1) (eT.mono qJ hle1) (hu.mono Use.aG hle1) hsm (GO (by simpa using(by assumption:(!(li cK signed u ba cB ah))=false))) (hk.mono hle1)) U (λv2 h2 hle2 hp2=>?_)))))
   obtain⟨rr1,rfl,ok1⟩:=hp2
   refine qO 3 U (bJ zc40 (λb2=>bG 0 ty40 U U U U U U (qO 8 U (gz 3 [57,58,59,60] 57 60 ((bj cK signed u ba cB ah).2 != 0) U (λc3 hk1=>?_) (λe=>?_)))))
   .exact bD (qO 2 U (hk1 _ U))
   refine bp (aI hs5 U (λc4 hs7=>?_) (λc4 hs8=>?_))
   .exact sr (an (qy [.bool false] C2 U hX rd (cs hs7)))
   .refine qT 3 U (aH (oC (λb3=>qL 9 [] U ?_)))
    let z1:Nat×Obj:=(b2,O (fA.cells ((bj cK signed u ba cB ah).1) rr1) 40)
    let z2:Nat×Obj:=(b1,O (kC cK gH) 30)
    refine lp2 ((aR cK signed u ba cB ah).1) (λi w=>[(3,I ba),(13,.slice rb1 (((aR cK signed u ba cB ah).1).length) rc1),(14,.bool ((aR cK signed u ba cB ah).2.1)),(16,Q b2),(18,.map (some b3)),(62,.slice rb1 (((aR cK signed u ba cB ah).1).length) rc1),(63,I (((aR cK signed u ba cB ah).1).length:Int)),(64,I (i:Int))]) (λ_=>h2) (λw=>[(b3,w.2),z1,z2]) (λi w=>kY (qC .i64) tq h2 w.2 w.1/\w.1.length<=0+i) (λs1 i w=>(cz.L1 (cz.K1 cK signed u ba cB ah)) s1 w.1) ([],.map #[] 0) ((sl1.mono eC.aG hle2).1.1) hs8 ⟨(kY.nil (enc:=(qC .i64)) (V:=tq) (h:=h2)),lc⟩ ?_ ?_
    .rintro i1 ⟨bF,If⟩ i7 hs10 ⟨lj,Su⟩ e
     refine qK 12 [1] U (aI hs10 U (λc6 hs11=>?_) (λc6 hs12=>?_))
     .refine qT 4 U (jO 4 [79,80,81,82,83] 79 83 ((((aR cK signed u ba cB ah).1).length:Int)==0) U (λc7 hk2=>?_) (λe=>?_))
      .exact qL 4 [] U (hk2 _ U)
      exact an (qy [.bool ((aR cK signed u ba cB ah).2.1&&((((aR cK signed u ba cB ah).1).length:Int)==0))] C2 U hX rd (cs hs11))
     .refine qT 5 U (aI hs12 U (λc8 hs14=>?_) (λc8 hs15=>?_))
      .refine qT 5 U (jO 6 [88,89,90,91,92,93,94] 88 94 (ju ((aR cK signed u ba cB ah).1) ([(eC.mk 4 ba)])) U (λc9 hk3=>?_) (λe=>?_))
       .refine qO 2 U (aH (gv (cells:=[I 4,I ba]) (places:=[(0,1),(1,1)]) O4 zc45 kr kr (aH (bT (cells:=[I 4,I ba]) w6 ty45 zc45 U U kr (λb5=>cv 0 U hM (λh3 hle3 hb1=>?_))))))
        have sl2:SlC eC.rp h3 (zAD b5) 1 ([(eC.mk 4 ba)]):=cY.slB0 (T:=45) (fz:=(0,0)) ((show cY eC.rp h2 [I 4,I ba] ([(eC.mk 4 ba)])from⟨[I 4,I ba],[],rfl,rfl,rfl,rfl⟩).mono eC.aG hle3) hb1
        exact aX call10 (BQ _ _ _ _ _ _ _ (sl1.mono eC.aG (hle2.t hle3)) sl2) U (mU U (sx (h:=h2) hle3 hX (hle1.t hle2) (hk3 _ U)))
       exact an (qy [.bool ((!((aR cK signed u ba cB ah).2.1))&&(ju ((aR cK signed u ba cB ah).1) ([(eC.mk 4 ba)])))] C2 U hX rd (cs hs14))
      .refine qT 5 U (aI hs15 U (λc10 hs17=>?_) (λc10 hs18=>?_))
       .refine qT 5 U (jO 4 [99,100,101,102,103] 99 103 ((((aR cK signed u ba cB ah).1).length:Int)==0) U (λc11 hk4=>?_) (λe=>?_))
        .exact qL 4 [] U (hk4 _ U)
        refine bD (gz 4 [104,105,106,107,108] 104 108 (decide (0<(mgetD bF 2 0))) U (λc12 hk5=>?_) (λe=>?_))
        .refine bD (aH (nq 0 (k:=2) Cf (fe mR) U lj (eG zv3) (show tq _ (I 0) 0 from U) U U (λv4 hv2=>?_)))
         obtain rfl:=hv2
         exact Hv U (mU U (hk5 _ U))
        exact an (qy [.bool (((!((aR cK signed u ba cB ah).2.1))&&((((aR cK signed u ba cB ah).1).length:Int)==0))||decide (0<(mgetD bF 2 0)))] C2 U hX rd (cs hs17))
       .refine qT 5 U (aI hs18 U (λc13 hs20=>?_) (λc13 hs21=>?_))
        .refine qT 3 U (aH (nq 0 (k:=2) Cf (fe mR) U lj (eG zv3) (show tq _ (I 0) 0 from U) U U (λv5 hv3=>?_)))
         obtain rfl:=hv3
         refine qO 2 U (jO 13 [114,115,116,117,118,119,120,121,122,123,124,125,126,127] 114 127 (((!((aR cK signed u ba cB ah).2.1))&&((((aR cK signed u ba cB ah).1).length:Int)==0))||decide (0<(mgetD bF 1 0))) U (λc14 hk6=>?_) (λe=>?_))
         .refine qO 3 U (jO 4 [117,118,119,120,121] 117 121 ((((aR cK signed u ba cB ah).1).length:Int)==0) U (λc15 hk7=>?_) (λe=>?_))
          .exact qL 4 [] U (hk7 _ U)
          refine bD (gz 4 [122,123,124,125,126] 122 126 (decide (0<(mgetD bF 1 0))) U (λc16 hk8=>?_) (λe=>?_))
          .refine bD (aH (nq 0 (k:=1) Cf (fe mR) U lj (eG zv3) (show tq _ (I 0) 0 from U) U U (λv6 hv4=>?_)))
           obtain rfl:=hv4
           exact Hv U (mU U (hk8 _ U))
          exact mU U (hk6 _ U)
         exact an (qy [.bool (((mgetD bF 2 0)==0)&&(((!((aR cK signed u ba cB ah).2.1))&&((((aR cK signed u ba cB ah).1).length:Int)==0))||decide (0<(mgetD bF 1 0))))] C2 U hX rd (cs hs20))
        .refine qT 5 U (aI hs21 U (λc17 hs23=>?_) (λc17 hs24=>?_))
         .refine qK 11 [] U ?_
          refine lp1 ((aR cK signed u ba cB ah).1) (λi w=>[(13,.slice rb1 (((aR cK signed u ba cB ah).1).length) rc1),(14,.bool ((aR cK signed u ba cB ah).2.1)),(16,Q b2),(18,.map (some b3)),(21,.bool w),(130,.slice rb1 (((aR cK signed u ba cB ah).1).length) rc1),(131,I (((aR cK signed u ba cB ah).1).length:Int)),(132,I (i:Int))]) ([(b3,If),z1,z2]) (λs2 i w=>(cz.L2 cK signed u ba cB ah (cz.K2 cK signed u ba cB ah bF)) s2 w) false ((sl1.mono eC.aG hle2).1.1) hs23 ?_ ?_
          .rintro i2 Ca CI hs25 e
           refine qT 4 U (jO 2 [146,147,148] 146 148 Ca U (λc18 hk9=>?_) (λe=>?_))
           .exact bD (mU U (hk9 _ U))
           refine bD (jO 6 [149,150,151,152,153,154,155] 149 155 ((mgetD bF 3 0)==(((aR cK signed u ba cB ah).1).length:Int)) U (λc19 hk10=>?_) (λe=>?_))
           .refine bD (aH (nq 0 (k:=3) Cf (fe mR) U lj (eG zv3) (show tq _ (I 0) 0 from U) U U (λv7 hv5=>?_)))
            obtain rfl:=hv5
            exact qL 4 [] U (hk10 _ U)
           exact an (qy [.bool (((aR cK signed u ba cB ah).2.1&&Ca)&&((mgetD bF 3 0)==(((aR cK signed u ba cB ah).1).length:Int)))] C2 U hX rd (cs hs25))
          .rintro i2 Ca y2 rz2 hd2 xw rS Fg Nf hs27 hx2 ag1 e
           refine sr (tO xw U (qO 8 U (aH (iF eC.cells w6 ty45 (sl1.mono eC.aG hle2).1 rS U U U (λq3 A3=>eJ ty45 A3 U U (bJ zc45 (λb7=>bG 0 ty45 U U U U U U (qO 4 U (gz 6 [137,138,139,140,141,142,143] 137 143 (decide (y2=(eC.mk 3 (((bj cK signed u ba cB ah).1).Budget)))) U (λc20 hk11=>?_) (λe=>?_))))))))))
           .exact du 0 ty45 U U U (qL 2 [2] U (aH (gv (cells:=[I 3,I (((bj cK signed u ba cB ah).1).Budget)]) (places:=[(0,1),(1,1)]) O4 zc45 kr kr (aH (eu (JY (It y2 (eC.mk 3 (((bj cK signed u ba cB ah).1).Budget))) eqg45 U U) (mU U (hk11 _ U)))))))
           exact an (qT 2 U (oi i2 U (qO 2 U (cm (L':=[(b3,If),z1,z2]) js (ag1 (Ca||(decide (y2=(eC.mk 3 (((bj cK signed u ba cB ah).1).Budget))))) hs27)))))
         .exact bO (qT 5 U (qy [.bool false] C2 U hX rd (cs hs24)))
    .rintro i1 ⟨bF,If⟩ y1 rz1 hd1 gg dL i5 mF hs29 ⟨lj,Su⟩ hx1 ag2 e
     refine sr (tO gg U (qO 8 U (aH (iF eC.cells w6 ty45 (sl1.mono eC.aG hle2).1 dL U U U (λq4 A4=>eJ ty45 A4 U U (bJ zc45 (λb8=>bG 0 ty45 U U U U U U (qL 5 [0] U (aH (nq 1 (k:=y1.Kind) Cf (fe mR) U lj (eG zv3) (show tq _ (I 0) 0 from U) U U (λv8 hv6=>?_)))))))))))
     obtain rfl:=hv6
     exact Hv U (aH (mt 1 (k:=y1.Kind) (x:=(vB .i64 ((mgetD bF y1.Kind 0)+1))) Cf (fe mR) U lj U U U (λmo2 hm2=>qO 3 U (oi i1 U (qO 2 U (cm (L':=[(b3,mo2),z1,z2]) js (ag2 ((mput bF y1.Kind (vB .i64 ((mgetD bF y1.Kind 0)+1))),mo2) hs29 ⟨hm2,(by have:=nw bF y1.Kind (vB .i64 ((mgetD bF y1.Kind 0)+1));first|omega|(simp only[zB,zA]at *;omega))⟩)))))))
end
end Go.Sg

namespace Go.Proofs.YtafbfagbjekhhaaGreatDoor.missingNothing
open Go.ChangeShapes Go.WideShapes Go.ChangeAt Go.RowKit
theorem own:ownKnob Tryz.prog.godebug=none:=by kernel_rfl
theorem laidOut:laidOutB Tryz.prog=true:=by kernel_rfl
theorem contract(H:Type)(enc:TypeId×Value->H)(W:World)(base:Nat)(args:Array Value)(ds gs:List (DataW H))(before:List MemPlace)(hval:∀(j:Nat)t v,Tryz.f3.params[j]? = some t->args[j]? = some v->Value.okWide Tryz.prog W .any base t v)(hW:DataW.Whole enc Tryz.prog Tryz.f3.params.toList Rows.missingNothingSpec.vars false W args.toList ds gs before)(hcond:Rows.uptoSmall H (ds++gs)=true)(hL:laidMetH Tryz.prog Rows.missingNothingUptoRow.laid W):
    Calls Tryz.prog 3 args W λe W'=>∃v,e=.returned v/\Rows.missingNothingSpec.post enc Tryz.prog Tryz.f3 false true false false W args v W':=by
  have hW':=hW
  obtain⟨p,q,hA0,hV,rfl,hfz,hnd⟩:=hW
  have hA:DataW.TrodAll enc Tryz.prog W 0 (λ_=>true) true Tryz.f3.params.toList args.toList ds p:=hA0
  rw[Tryz.params3]at hA hval
  obtain⟨v0,vs0,d0,ds0,p0,z0,hargs,rfl,rfl,h0,t0⟩:=trodAll_cons hA
  obtain⟨v1,vs1,d1,ds1,p1,z1,rfl,rfl,rfl,h1,t1⟩:=trodAll_cons t0
  obtain⟨v2,vs2,d2,ds2,p2,z2,rfl,rfl,rfl,h2,t2⟩:=trodAll_cons t1
  obtain⟨v3,vs3,d3,ds3,p3,z3,rfl,rfl,rfl,h3,t3⟩:=trodAll_cons t2
  obtain⟨v4,vs4,d4,ds4,p4,z4,rfl,rfl,rfl,h4,t4⟩:=trodAll_cons t3
  obtain⟨v5,vs5,d5,ds5,p5,z5,rfl,rfl,rfl,h5,t5⟩:=trodAll_cons t4
  obtain⟨rfl,rfl,rfl⟩:=trodAll_nil t5
  obtain rfl:args=#[v0,v1,v2,v3,v4,v5]:=by cases args;simp_all
  obtain⟨rfl,rfl⟩:=trodVars_none hV
  clear hA0 hA
  have h0k:=h0
  have h1k:=h1
  have h2k:=h2
  have h3k:=h3
  have h4k:=h4
  have h5k:=h5
  simp only[List.append_nil]at hW' hcond
  have hB:Rows.uptoBulkAll [d0,d1,d2,d3,d4,d5]<=1048576:=of_decide_eq_true hcond
  obtain⟨a0,rfl,_⟩:=okWide_struct Tryz.underlying30 (hval 0 30 v0 rfl rfl)
  obtain⟨f0,g0⟩:=h0
  obtain⟨x0,⟨r0,e0,o0⟩,q0⟩:=Sg.opn_Register f0 _ _ _ g0
  obtain rfl:a0=(Sg.Register.cells x0 r0).toArray:=by
    apply Array.toList_inj.1;exact e0
  obtain⟨b1,l1,c1,rfl⟩:=okWide_slice Tryz.underlying31 (hval 1 31 v1 rfl rfl)
  obtain⟨f1,g1⟩:=h1
  obtain⟨b1',c1',x1,e1,o1,q1⟩:=Sg.opn_slice (R:=Sg.Rp.int) (sz:=λ_=>1) Tryz.underlying31 (by kernel_rfl) (by decide) (λk _=>Sg.opn_int (by kernel_rfl) k) g1
  cases e1
  obtain⟨b2,l2,c2,rfl⟩:=okWide_slice Tryz.underlying32 (hval 2 32 v2 rfl rfl)
  obtain⟨f2,g2⟩:=h2
  obtain⟨b2',c2',x2,e2,o2,q2⟩:=Sg.opn_slice (R:=Sg.Use.rp) (sz:=λ_=>1) Tryz.underlying32 (by kernel_rfl) (by decide) (λk _=>Sg.opn_Use k) g2
  cases e2
  obtain⟨n3,rfl⟩:=okWide_int Tryz.underlying3 (hval 3 3 v3 rfl rfl)
  obtain⟨n4,rfl⟩:=okWide_int Tryz.underlying3 (hval 4 3 v4 rfl rfl)
  obtain⟨n5,rfl⟩:=okWide_int Tryz.underlying3 (hval 5 3 v5 rfl rfl)
  simp only[Rows.uptoBulkAll]at hB
  have y1:=Sg.szL_len (f:=λ_:Int=>1) (λ_=>Nat.le_refl _) x1
  have y2:=Sg.szL_len (f:=λ_:Sg.Use=>1) (λ_=>Nat.le_refl _) x2
  have z0b:=Sg.bulk_one d0
  have z1b:=Sg.bulk_one d1
  have z2b:=Sg.bulk_one d2
  have z3b:=Sg.bulk_one d3
  have z4b:=Sg.bulk_one d4
  have z5b:=Sg.bulk_one d5
  have walk:=Sg.law32_MissingNothing_top (Sg.hOf W) (Sg.pre_hOf W) x0 r0 x1 b1 c1 x2 b2 c2 n3 n4 n5 o0 o1 o2 (Sg.smR_of (by omega)) (Sg.kinds_of hL)
  rw[Sg.nothing_true (Sg.smR_of (by omega))]at walk
  refine walk.mono λe W'⟨he,hb⟩=>?_
  subst he
  exact⟨_,rfl,Sg.post_below (pa:=p0++(p1++(p2++(p3++(p4++(p5++([]))))))) (pv:=[]) hW' (λ_ _ _=>trodAll_cons_mk (shut_bool Tryz.underlying4 _) trodAll_mk0) (λsp hsp=>(trodAll_cons_mk (Sg.stays laidOut (by kernel_rfl) (by kernel_rfl) h0k hb hW'.lt (λx hx=>by simp[hx]) hsp) (trodAll_cons_mk (Sg.stays laidOut (by kernel_rfl) (by kernel_rfl) h1k hb hW'.lt (λx hx=>by simp[hx]) hsp) (trodAll_cons_mk (Sg.stays laidOut (by kernel_rfl) (by kernel_rfl) h2k hb hW'.lt (λx hx=>by simp[hx]) hsp) (trodAll_cons_mk (Sg.stays laidOut (by kernel_rfl) (by kernel_rfl) h3k hb hW'.lt (λx hx=>by simp[hx]) hsp) (trodAll_cons_mk (Sg.stays laidOut (by kernel_rfl) (by kernel_rfl) h4k hb hW'.lt (λx hx=>by simp[hx]) hsp) (trodAll_cons_mk (Sg.stays laidOut (by kernel_rfl) (by kernel_rfl) h5k hb hW'.lt (λx hx=>by simp[hx]) hsp) trodAll_mk0))))))) (λ_ _=>rfl) (by simp) hb (ok_one (by kernel_rfl) rfl (okWide_bool_mk Tryz.underlying4 _))⟩
end Go.Proofs.YtafbfagbjekhhaaGreatDoor.missingNothing
