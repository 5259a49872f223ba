import Derived.Test.YtknehchipcogdaaGreatDoorJ6
/- A part of the proof of JudgeSpec. -/
set_option linter.unusedVariables false
set_option linter.unusedSimpArgs false
set_option maxRecDepth 100000
open List renaming length_cons→xA,not_mem_nil→vA,length_append→kA,length_nil→xB,toArray→vB,nil_append→qD,mem_of_getElem?→kD,range→xF
open Go.Sg.Rp renaming int→jB,bG→vJ,fR→XZ
open Go.Value renaming int→jC
open Go.Sg.HF renaming le→zM
open Nat renaming le_refl→zE,zero_le→kJ,lt_or_ge→vR
open Go.Sg.Budget renaming cells→zV,rp→xV

namespace Go.Sg
section
open Go.Proofs Go.Proofs.Tryz
set_option maxHeartbeats 4000000
theorem BT(cmp:Int->Int->Int):∀(j:Nat)(xs:List Int),(insIn cmp j xs).length=xs.length
 |0,xs=>rfl
 |j+1,xs=>by
  simp only[insIn,Bool.cond_eq_ite]
  split
  .rw[BT cmp j];simp
  rfl
theorem Fc(cmp:Int->Int->Int):∀(j:Nat)(xs:List Int),j<xs.length->∀x∈insIn cmp j xs,x∈xs
 |0,xs,_,x,hx=>hx
 |j+1,xs,hj,x,hx=>by
  simp only[insIn,Bool.cond_eq_ite]at hx
  split at hx
  .have h1:=Fc cmp j _ (by simp;omega) x hx
   rcases List.mem_or_eq_of_mem_set h1 with h1|rfl
   .rcases List.mem_or_eq_of_mem_set h1 with h1|rfl
    .exact h1
    simp[List.getD_eq_getElem?_getD,show j<xs.length by omega]
   simp[List.getD_eq_getElem?_getD,show j+1<xs.length by omega]
  exact hx
theorem Jl(cmp:Int->Int->Int):∀(m i:Nat)(xs:List Int),(insOut cmp m i xs).length=xs.length
 |0,_,_=>rfl
 |m+1,i,xs=>by simp only[insOut];rw[Jl cmp m,BT]
theorem H6(xs:List Int)(cmp:Int->Int->Int):(fa xs cmp).length=xs.length:=Jl _ _ _ _
theorem Dv(j:Nat)(hj:j<9223372036854775807):jC .i64 (IntKind.i64.wrap (((j+1:Nat):Int)-1))=I (j:Int):=by
 rw[nv ob];congr 1;omega
theorem re(h)(xs:List Int)(b c G)(cmp:Int->Int->Int)(cmp_v)(hG:di jB 3 h xs b c G)(hcmp:∀(h':HF)(fX Ko:Int),zM h h'->fX∈xs->Ko∈xs->wg prog cmp_v [I fX,I Ko] h' [] (I (cmp fX Ko)))(hsz:xs.length<=2000000):
  qf prog 384 [.slice b xs.length c,I 0,I (xs.length:Int),cmp_v].toArray h G (λr h' G'=>h'=h/\r=.returned (.tuple #[])/\di jB 3 h (fa xs cmp) b c G'):=by
 refine el func384 U ntmps384 U λX hM hX=>qT 3 U (ls (v':=I ((1:Nat):Int)) U U (an ?_))
 refine km (ι:=List Int×LH) (λi=>[]) (λi=>h) (λi=>i.2) (λi=>i.1=fa xs cmp/\di jB 3 h i.1 b c i.2) ?_ (λhx=>?_)
 .rintro⟨ys,G'⟩ ⟨hs,hG'⟩ e
  dsimp only at hs hG'
  exact Az func384 (λa _ w _=>ol U a w) (λw hw=>hw.lower) ⟨hX,U,hs▸hG'⟩
 refine mL (ι:=Nat×List Int×LH) (λi=>[(0,.slice b xs.length c),(1,I 0),(2,I (xs.length:Int)),(3,cmp_v),(8,I (i.1:Int))]) (λi=>h) (λi=>i.2.2)
  (λi=>insOut cmp (xs.length-i.1) i.1 i.2.1=fa xs cmp/\1<=i.1/\i.2.1.length=xs.length/\(∀x∈i.2.1,x∈xs)/\di jB 3 h i.2.1 b c i.2.2) (λi=>xs.length-i.1) (1,xs,G) rd (λw hw=>hw) ⟨rfl,zE _,rfl,λ_ hx=>hx,hG⟩ ?_
 rintro⟨i,ys,G1⟩ ⟨hs,hi1,hyl,hym,hG1⟩ ag e
 dsimp only at hs hi1 hyl hym hG1
 rcases vR i xs.length with hi|hi
 .refine qT 5 U (tO (decide_eq_true ob) U (qO 10 U ?_))
  refine km (ι:=List Int×LH) (λq=>[(0,.slice b xs.length c),(1,I 0),(2,I (xs.length:Int)),(3,cmp_v),(8,I (i:Int))]) (λq=>h) (λq=>q.2) (λq=>q.1=insIn cmp i ys/\di jB 3 h q.1 b c q.2) ?_ (λhy=>?_)
  .rintro⟨zs,G2⟩ ⟨hz,hG2⟩ e2
   dsimp only at hz hG2
   subst hz
   refine qT 3 U (oi i U (an (ag (i+1,insIn cmp i ys,G2) _ (by show xs.length-(i+1)<xs.length-i;omega) ⟨?_,by show 1<=i+1;omega,by show(insIn cmp i ys).length=xs.length;rw[BT];exact hyl,λx hx=>hym x (Fc cmp i ys ob x hx),hG2⟩ rd)))
   show insOut cmp (xs.length-(i+1)) (i+1) (insIn cmp i ys)=_
   rw[←hs,show xs.length-i=(xs.length-(i+1))+1 from by omega];rfl
  refine mL (ι:=Nat×List Int×LH) (λq=>[(0,.slice b xs.length c),(1,I 0),(2,I (xs.length:Int)),(3,cmp_v),(8,I (i:Int)),(9,I (q.1:Int))]) (λq=>h) (λq=>q.2.2)
   (λq=>insIn cmp q.1 q.2.1=insIn cmp i ys/\q.1<=i/\q.2.1.length=xs.length/\(∀x∈q.2.1,x∈xs)/\di jB 3 h q.2.1 b c q.2.2) (λq=>q.1) (i,ys,G1) rd (λw hw=>hw) ⟨rfl,zE _,hyl,hym,hG1⟩ ?_
  rintro⟨j,zs,G2⟩ ⟨hz,hji,hzl,hzm,hG2⟩ ag2 e2
  dsimp only at hz hji hzl hzm hG2
  have J0:∀{L:LH},Jst h [] h L:=D5 (List.nil_sublist _)
  obtain⟨bk,hbk⟩:=hG2.pE ob
  have JG:Jst h G2 h G2:=D5 (List.Sublist.refl _)
  refine qT 2 U (hU G2 mixed kr JG (λhsep _=>j5 0 hsep JG U U kr U (λ_ _ _=>nT) (j5 1 hsep JG U U kr U (λ_ _ _=>nT) ?_)))
  rcases j with _|j
  .exact j5 2 hsep JG U U kr U (λ_ _ _=>yH (v':=.bool false) U (cb (decide_eq_false ob))) (j5 3 hsep JG U U kr U (λ_ _ _=>nT) (n8 4 hsep JG U U kr U (n8 5 hsep JG U U kr U (n8 6 hsep JG U U kr U (n8 7 hsep JG U U kr U (n8 8 hsep JG U U kr U (n8 9 hsep JG U U kr U (n8 10 hsep JG U U kr U (n8 11 hsep JG U U kr U (n8 12 hsep JG U U kr U (n8 13 hsep JG U U kr U (n8 14 hsep JG U U kr U (n8 15 hsep JG U U kr U (j5 16 hsep JG U U kr U (λ_ _ _=>Qw U) (dJ kr (qT 2 U (hy (zs,G2) _ ⟨hz,hG2⟩ rd)))))))))))))))))
  have hj1:zs[j+1]? = some (zs.getD (j+1) 0):=by simp[List.getD_eq_getElem?_getD,show j+1<zs.length by omega]
  have hj0:zs[j]? = some (zs.getD j 0):=by simp[List.getD_eq_getElem?_getD,show j<zs.length by omega]
  have hjn:(((j+1:Nat):Int)).toNat=j+1:=by omega
  have hjn0:((j:Int)).toNat=j:=by omega
  refine j5 2 hsep JG U U kr U (λ_ _ _=>yH (v':=.bool true) U (cb (decide_eq_true ob))) (j5 3 hsep JG U U kr U (λ_ _ _=>nT) (j5 4 hsep JG U U kr U (λ_ _ _=>nT) (j5 5 hsep JG U U kr U (λ_ _ _=>nT) (j5 6 hsep JG U U kr U (λ_ _ _=>nT) (j5 7 hsep JG U U kr U (λ_ _ _=>nU (R:=jB) (xs:=zs) (z:=((j+1:Nat):Int)) fm ty3 hbk ob U hzl.symm U) (j5 8 hsep JG U U kr U (λ_ _ hj=>Cz (R:=jB) (off:=0) (i:=j+1) ty3 hG2 hbk hj1 (λcs_z hcs=>by rw[show cs_z=[I (zs.getD (j+1) 0)]from hcs];rfl) (by rfl) (λp hp=>hj.2 p hp)) (j5 9 hsep JG U U kr U (λ_ _ _=>nT) (j5 10 hsep JG U U kr U (λ_ _ _=>nT) (j5 11 hsep JG U U kr U (λ_ _ _=>yH (v':=I (j:Int)) U (Dv j ob)) (j5 12 hsep JG U U kr U (λ_ _ _=>nU (R:=jB) (xs:=zs) (z:=(j:Int)) fm ty3 hbk ob U hzl.symm U) (j5 13 hsep JG U U kr U (λ_ _ hj=>Cz (R:=jB) (off:=0) (i:=j) ty3 hG2 hbk hj0 (λcs_z hcs=>by rw[show cs_z=[I (zs.getD j 0)]from hcs];rfl) (by rfl) (λp hp=>hj.2 p hp)) (tn 14 U (wo (v:=I (cmp (zs.getD (j+1) 0) (zs.getD j 0))) [] (List.nil_sublist _) (hcmp h (zs.getD (j+1) 0) (zs.getD j 0) lf (hzm _ (kD hj1)) (hzm _ (kD hj0))) U U ⟨JG,j5 15 hsep JG U U kr U (λ_ _ _=>RF U) (j5 16 hsep JG U U kr U (λ_ _ _=>Qw U) (dJ kr (lL U (λhc=>jf ?_) (λhc=>?_))))⟩)))))))))))))
  .refine qT 2 U (hU [] mixed kr J0 (λow _=>j5 0 ow J0 U U kr U (λ_ _ _=>nT) (j5 1 ow J0 U U kr U (λ_ _ _=>nT) (j5 5 ow J0 U U kr U (λ_ _ _=>nT) (j5 6 ow J0 U U kr U (λ_ _ _=>nT) (j5 2 ow J0 U U kr U (λ_ _ _=>nT) (j5 3 ow J0 U U kr U (λ_ _ _=>nT) (j5 4 ow J0 U U kr U (λ_ _ _=>yH (v':=I (j:Int)) U (Dv j ob)) (j5 7 ow J0 U U kr U (λ_ _ _=>yH (v':=I (j:Int)) U (Dv j ob)) (j5 8 ow J0 U U kr U (λ_ _ _=>nU (R:=jB) (xs:=zs) (z:=(j:Int)) fm ty3 hbk ob U hzl.symm U) (j5 10 ow J0 U U kr U (λ_ _ _=>nT) (j5 11 ow J0 U U kr U (λ_ _ _=>nT) (j5 12 ow J0 U U kr U (λ_ _ _=>nU (R:=jB) (xs:=zs) (z:=((j+1:Nat):Int)) fm ty3 hbk ob U hzl.symm U) ?_)))))))))))))
   refine np 9 13 kr U U
    (fU (Cz (R:=jB) (off:=0) (i:=j) ty3 hG2 hbk hj0 (λcs_z hcs=>by rw[show cs_z=[I (zs.getD j 0)]from hcs];rfl) (by rfl) (λp hp=>hp)) ⟨J0,tn 13 rfl (fU (Cz (R:=jB) (off:=0) (i:=j+1) ty3 hG2 hbk hj1 (λcs_z hcs=>by rw[show cs_z=[I (zs.getD (j+1) 0)]from hcs];rfl) (by rfl) (λp hp=>hp)) ⟨J0,?_⟩)⟩)
    (fU (Cz (R:=jB) (off:=0) (i:=j+1) ty3 hG2 hbk hj1 (λcs_z hcs=>by rw[show cs_z=[I (zs.getD (j+1) 0)]from hcs];rfl) (by rfl) (λp hp=>hp)) ⟨J0,tn 9 rfl (fU (Cz (R:=jB) (off:=0) (i:=j) ty3 hG2 hbk hj0 (λcs_z hcs=>by rw[show cs_z=[I (zs.getD j 0)]from hcs];rfl) (by rfl) (λp hp=>hp)) ⟨J0,?_⟩)⟩)
   all_goals
    refine j5 14 ow J0 U U kr U (λ_ _ _=>nU (R:=jB) (xs:=zs) (z:=((j+1:Nat):Int)) fm ty3 hbk ob U hzl.symm U) (tn 15 U (DE (R:=jB) (i:=j+1) (off:=0) (u:=zs.getD (j+1) 0) (u':=zs.getD j 0) (v:=I (zs.getD j 0)) [] G2 [] ty3 U hG2 (by simp) hbk hj1 (by decide) (λcs_z hcs=>by rw[show cs_z=[I (zs.getD (j+1) 0)]from hcs];rfl) (by rfl) U U (λG3 hG3=>⟨J0,?_⟩)))
    rw[qD,List.append_nil]
    refine j5 16 ow J0 U U kr U (λ_ _ _=>nU (R:=jB) (xs:=zs) (z:=(j:Int)) fm ty3 hbk ob U hzl.symm U) ?_
    have hj0':(zs.set (j+1) (zs.getD j 0))[j]? = some (zs.getD j 0):=by rw[List.getElem?_set_ne ob];exact hj0
    refine tn 17 U (DE (R:=jB) (i:=j) (off:=0) (u:=zs.getD j 0) (u':=zs.getD (j+1) 0) (v:=I (zs.getD (j+1) 0)) [] G3 [] ty3 U hG3 (by simp) hbk hj0' (by decide) (λcs_z hcs=>by rw[show cs_z=[I (zs.getD j 0)]from hcs];rfl) (by rfl) U U (λG4 hG4=>⟨J0,?_⟩))
    rw[qD,List.append_nil]
    refine dJ kr (qT 3 U (ls (v':=I (j:Int)) U (Dv j ob) (an (ag2 (j,(zs.set (j+1) (zs.getD j 0)).set j (zs.getD (j+1) 0),G4) _ (Nat.lt_succ_self _) ⟨?_,by show j<=i;omega,by show((zs.set (j+1) (zs.getD j 0)).set j (zs.getD (j+1) 0)).length=xs.length;simpa using hzl,λx hx=>(List.mem_or_eq_of_mem_set hx).elim (λhx=>(List.mem_or_eq_of_mem_set hx).elim (hzm x) (λhx=>hx▸hzm _ (kD hj0))) (λhx=>hx▸hzm _ (kD hj1)),hG4⟩ rd))))
    show insIn cmp j ((zs.set (j+1) (zs.getD j 0)).set j (zs.getD (j+1) 0))=insIn cmp i ys
    rw[←hz];simp only[insIn,hc,cond_true]
  refine jI U (hy (zs,G2) _ ⟨?_,hG2⟩ rd)
  show zs=insIn cmp i ys
  rw[←hz];simp only[insIn,hc,cond_false]
 refine qT 5 U (fO (decide_eq_false ob) U (qO 3 U (hx (ys,G1) _ ⟨?_,hG1⟩ trivial)))
 show ys=_
 rw[←hs,show xs.length-i=0 from by omega];rfl
theorem ut(h)(xs:List Int)(b c G)(cmp:Int->Int->Int)(cmp_v)(hG:di jB 3 h xs b c G)(hcmp:∀(h':HF)(fX Ko:Int),zM h h'->fX∈xs->Ko∈xs->wg prog cmp_v [I fX,I Ko] h' [] (I (cmp fX Ko)))(hsz:xs.length<20):
  qf prog 334 [.slice b xs.length c,I (xs.length:Int),cmp_v].toArray h G (λr h' G'=>h'=h/\r=.returned (.tuple #[])/\di jB 3 h (fa xs cmp) b c G'):=by
 refine el func334 U ntmps334 U λX hM hX=>qT 12 U (HS (qT 5 U (fO (decide_eq_false ob) U (qO 9 U (aS (pT [] G [] call384 (re h xs b c G cmp cmp_v hG hcmp ob) (by simp) U (λG2 hG2=>?_)))))))
 rw[qD,List.append_nil]
 exact ck (nI (HS (qT 5 U (fO (decide_eq_false ob) U (qO 3 U (Az func334 (λa _ w _=>ol U a w) (λw hw=>hw.lower) ⟨hX,U,hG2⟩))))))
theorem tU(h)(xs:List Int)(b c G)(cmp:Int->Int->Int)(cmp_v)(hG:di jB 3 h xs b c G)(hcmp:∀(h':HF)(fX Ko:Int),zM h h'->fX∈xs->Ko∈xs->wg prog cmp_v [I fX,I Ko] h' [] (I (cmp fX Ko)))(hsz:xs.length<20):
  qf prog 258 [.slice b xs.length c,cmp_v].toArray h G (λr h' G'=>h'=h/\r=.returned (.tuple #[])/\di jB 3 h (fa xs cmp) b c G'):=by
 refine el func258 U ntmps258 U λX hM hX=>qK 5 [] U (aS (pT [] G [] call334 (ut h xs b c G cmp cmp_v hG hcmp hsz) (by simp) U (λG2 hG2=>?_)))
 rw[qD,List.append_nil]
 exact ck (Az func258 (λa _ w _=>ol U a w) (λw hw=>hw.lower) ⟨hX,U,hG2⟩)
theorem qY(h ir)  : Ret prog 178 [I ir] h (.bool (io ir)):=by
 refine sVv func178 ntmps178 ?_
 generalize hz:(io ir)=z
 exact W
theorem wu(h a Xi Xh mR P8 P7)(ha:SlC jB h Xi Xh a)(K6:SlC jB h P8 P7 mR):Ret prog 25 [.slice Xi a.length Xh,.slice P8 mR.length P7] h (.bool (iv a mR)):=by
 refine sVv func25 ntmps25 ?_
 generalize hz:(iv a mR)=z
 have HA:=h0 [0,1] 5 (λs1 i=>(iv.L1 mR (iv.K1)) s1 i)
 exact W
instance kC25:Ct 25:=⟨_,call25,@wu⟩
theorem AK(h signed bV bU eB)(iC:SlC jB h bV bU signed)(hsn:signed.length<=2000000):j0 prog 291 [.slice bV signed.length bU,I eB] h (λv h'=>∃(rb0:Option Addr)(rc0:Nat),v=.slice rb0 (aX signed eB).length rc0/\SlC jB h' rb0 rc0 (aX signed eB)):=by
 refine sT func291 U ntmps291 U λX hM hX hF=>?_
 have hs0:=@rfl _ (aX signed eB)
 refine qT 6 U (aS (lC fm ty3 (λb1=>qO 7 U (fK 0 U hM (λh1 hle1 hb1=>?_)))))
 have sl1:SlC jB h1 (zAD b1) 0 ([]):=bW.slB0 (T:=3) (fz:=(0,0)) ((show bW jB h [] ([])from rfl).mono vJ hle1) hb1
 refine lp2 signed (λi w=>[(0,.slice bV signed.length bU),(1,I eB),(5,.slice w.2.1 w.1.length w.2.2.1),(6,I (i:Int))]) (λw=>w.2.2.2) (λw=>[]) (λi w=>SlC jB w.2.2.2 w.2.1 w.2.2.1 w.1/\w.1.length<=i/\zM h1 w.2.2.2/\(∀x∈w.1,0<=x/\x<(signed.length:Int))) (λs1 i w=>(aX.L1 signed eB (aX.K1)) s1 i w.1) ([],(zAD b1),0,h1) ((iC.mono vJ hle1).1.1) hs0 ⟨sl1,(by first|omega|(simp only[kA,xA,xB];omega)|(simp only[kA,xA,xB,List.length_take,List.length_drop];first|omega|(dsimp only;omega))),lf,(λx hx=>(vA hx).elim)⟩ ?_ ?_ ?_
 .rintro i1 ⟨gL,zz,zy,hh1⟩ pq hs1 ⟨tK,JI,hl1,u1_0⟩ e
  try dsimp only at tK JI hl1 u1_0
  refine qT 5 U ?_
  have hs2:aX signed eB=gL:=hs1
  exact nretH [.slice zz gL.length zy] ⟨zz,zy,congrArg (λr:List Int=>(.slice zz r.length zy:Value)) hs2.symm,(by rw[hs2];exact tK)⟩
 .rintro i1 ⟨gL,zz,zy,hh1⟩ y1 rz1 hd1 ns iI po xe hs3 ⟨tK,JI,hl1,u1_0⟩ hx1 ag1 e
  try dsimp only at tK JI hl1 u1_0
  refine qK 6 [] U (tO ns U (qO 10 U (aS (iF (λy=>[I y]) fm ty3 (iC.mono vJ (hle1.t hl1)).1 iI U U U (λq3 A3=>iw ty3 A3 U (qO 2 U (pH 7 [20,21,22,23,24,25,26,27] 20 27 (decide (eB<y1)) U (λc1 hk1=>?_) (λe=>?_))))))))
  .exact dU (dU (aS (iF (λy=>[I y]) fm ty3 (iC.mono vJ (hle1.t hl1)).1 iI U U U (λq4 A4=>iw ty3 A4 U (qO 3 U (hk1 _ U))))))
  refine ck (dy hs3 U (λc2 hs4=>?_) (λc2 hs5=>?_))
  .exact jI U (qT 2 U (oi i1 U (an (ag1 (gL,zz,zy,hh1) hs4 ⟨tK,(by first|omega|(simp only[kA,xA,xB];omega)|(simp only[kA,xA,xB,List.length_take,List.length_drop];first|omega|(dsimp only;omega))),hl1,(by first|assumption|exact DZ u1_0 ob)⟩))))
  refine qK 8 [] U ?_
  refine km (ι:=Nat) (λi=>[(0,.slice bV signed.length bU),(1,I eB),(5,.slice zz gL.length zy),(6,I (i1:Int)),(7,I (((gL.length-i):Nat):Int))]) (λi=>hh1) (λi=>[]) (λi=>i<=(xF gL.length).length/\aX signed eB=((λzi3=>(aX.L1 signed eB (aX.K1) rz1 (i1+1) (((gL.take (((((gL.length-zi3):Nat):Int):Int)).toNat)++[(i1:Int)])++(gL.drop (((((gL.length-zi3):Nat):Int):Int)).toNat)))) i)) ?_ (λhx3=>?_)
  .rintro i3 ⟨Ff,hs6⟩ e
   try dsimp only at Ff
   refine hU ([]) mixed kr jn (λkI _=>?_)
   refine qA [1,2] U (EI 3 kI jn fm ty3 tK.1 tK.2 ob U U U U kr (λsb3 sc3 sl5=>qA [5,8,9] U (Lt 10 kI jn fm ty3 tK.1 tK.2 ob U U U U kr (λsb4 sc4 sl6=>?_))))
   refine np 0 6 kr U U ?_ ?_ 
   .refine lC fm ty3 (λb4=>⟨jn,?_⟩)
    refine np 4 6 kr U U ?_ ?_ 
    .refine dN XZ ([]) ([]) (λG=>G) ap (λ_=>ap) fm ty3 zc3 U bytes3 (di.lit (show bW jB hh1 [] ([])from U) U) U U (iY sl5.1) lo lo (λob4 oc4 G4 gr4=>⟨jn,(tn 6 U (cM (cells:=[I (i1:Int)]) fm ty3 zc3 U U kr (λb5=>?_)))⟩)
     let z3:Nat×Obj:=(b5,O [I (i1:Int)] 3)
     exact⟨jn,(tn 7 U (dN XZ ([z3]) ([]) (λG=>[z3]++G) ap (λ_=>ap) fm ty3 zc3 U bytes3 gr4 U U (gQ 0 U (cE (i1:Int) U U)) lo lo (λob5 oc5 G5 gr5=>⟨jn,(tn 11 U (dN XZ ([z3]) ([]) (λG=>[z3]++G) ap (λ_=>ap) fm ty3 zc3 U bytes3 gr5 U U (iY sl6.1) lo lo (λob6 oc6 G6 gr6=>⟨jn,(qA [12] U (dJ kr (qT 3 U (oi i1 U (an (jz vJ ([z3]) G6 ([]) ap hM gr6 (λh3 hle3 sl7=>ek (L':=[]) js (ag1 ((((gL.take (((((gL.length-i3):Nat):Int):Int)).toNat)++[(i1:Int)])++(gL.drop (((((gL.length-i3):Nat):Int):Int)).toNat)),ob6,oc6,h3) hs6 ⟨sl7,(by first|omega|(simp only[kA,xA,xB];omega)|(simp only[kA,xA,xB,List.length_take,List.length_drop];first|omega|(dsimp only;omega))),(hl1.t hle3),(by first|assumption|exact DZ u1_0 ob)⟩))))))))⟩)))⟩)))⟩
    refine cM (cells:=[I (i1:Int)]) fm ty3 zc3 U U kr (λb6=>⟨jn,(tn 4 U ?_)⟩)
    let z1:Nat×Obj:=(b6,O [I (i1:Int)] 3)
    exact dN XZ ([z1]) ([]) (λG=>[z1]++G) ap (λ_=>ap) fm ty3 zc3 U bytes3 (di.lit (show bW jB hh1 [] ([])from U) U) U U (iY sl5.1) lo lo (λob7 oc7 G7 gr7=>⟨jn,(tn 7 U (dN XZ ([z1]) ([]) (λG=>[z1]++G) ap (λ_=>ap) fm ty3 zc3 U bytes3 gr7 U U (gQ 0 U (cE (i1:Int) U U)) lo lo (λob8 oc8 G8 gr8=>⟨jn,(tn 11 U (dN XZ ([z1]) ([]) (λG=>[z1]++G) ap (λ_=>ap) fm ty3 zc3 U bytes3 gr8 U U (iY sl6.1) lo lo (λob9 oc9 G9 gr9=>⟨jn,(qA [12] U (dJ kr (qT 3 U (oi i1 U (an (jz vJ ([z1]) G9 ([]) ap hM gr9 (λh4 hle4 sl8=>ek (L':=[]) js (ag1 ((((gL.take (((((gL.length-i3):Nat):Int):Int)).toNat)++[(i1:Int)])++(gL.drop (((((gL.length-i3):Nat):Int):Int)).toNat)),ob9,oc9,h4) hs6 ⟨sl8,(by first|omega|(simp only[kA,xA,xB];omega)|(simp only[kA,xA,xB,List.length_take,List.length_drop];first|omega|(dsimp only;omega))),(hl1.t hle4),(by first|assumption|exact DZ u1_0 ob)⟩))))))))⟩)))⟩)))⟩)
   refine cM (cells:=[I (i1:Int)]) fm ty3 zc3 U U kr (λb7=>⟨jn,(tn 0 U ?_)⟩)
   let z2:Nat×Obj:=(b7,O [I (i1:Int)] 3)
   exact lC fm ty3 (λb8=>⟨jn,(tn 4 U (dN XZ ([]) ([z2]) (λG=>[z2]++G) ap (λ_=>ap) fm ty3 zc3 U bytes3 (di.lit (show bW jB hh1 [] ([])from U) U) U U (iY sl5.1) lo lo (λob10 oc10 G10 gr10=>⟨jn,(tn 7 U (dN XZ ([z2]) ([]) (λG=>[z2]++G) ap (λ_=>ap) fm ty3 zc3 U bytes3 gr10 U U (gQ 0 U (cE (i1:Int) U U)) lo lo (λob11 oc11 G11 gr11=>⟨jn,(tn 11 U (dN XZ ([z2]) ([]) (λG=>[z2]++G) ap (λ_=>ap) fm ty3 zc3 U bytes3 gr11 U U (iY sl6.1) lo lo (λob12 oc12 G12 gr12=>⟨jn,(qA [12] U (dJ kr (qT 3 U (oi i1 U (an (jz vJ ([z2]) G12 ([]) ap hM gr12 (λh5 hle5 sl9=>ek (L':=[]) js (ag1 ((((gL.take (((((gL.length-i3):Nat):Int):Int)).toNat)++[(i1:Int)])++(gL.drop (((((gL.length-i3):Nat):Int):Int)).toNat)),ob12,oc12,h5) hs6 ⟨sl9,(by first|omega|(simp only[kA,xA,xB];omega)|(simp only[kA,xA,xB,List.length_take,List.length_drop];first|omega|(dsimp only;omega))),(hl1.t hle5),(by first|assumption|exact DZ u1_0 ob)⟩))))))))⟩)))⟩)))⟩)))⟩)
  refine mL (ι:=Nat×List Nat) (λi=>[(0,.slice bV signed.length bU),(1,I eB),(5,.slice zz gL.length zy),(6,I (i1:Int)),(7,I (((gL.length-i.1):Nat):Int))]) (λi=>hh1) (λi=>[]) (λi=>(xF gL.length).drop i.1=i.2/\i.1<=(xF gL.length).length/\aX signed eB=((aX.L3 signed y1 gL (λzi3=>(aX.L1 signed eB (aX.K1) rz1 (i1+1) (((gL.take (((((gL.length-zi3):Nat):Int):Int)).toNat)++[(i1:Int)])++(gL.drop (((((gL.length-zi3):Nat):Int):Int)).toNat))))) i.2 i.1)) (λi=>i.2.length) (0,(xF gL.length)) ⟨U,U,U,U,(congrArg (jC .i64) (show(gL.length:Int)=(((gL.length-0):Nat):Int)from by omega)),trivial⟩ sw ⟨U,kJ _,hs5⟩ ?_
  rintro⟨i3,s3⟩ ⟨hd3,SS,hs7⟩ ag2 e
  try dsimp only at hd3 SS
  rcases s3 with _|⟨y3,rz3⟩
  .have UA:decide (0<(((gL.length-i3):Nat):Int))=false:=decide_eq_false (by have q_:=of_decide_eq_false (rm hd3);rw[List.length_range]at q_;omega)
   exact eI (eI (hU ([]) mixed kr jn (λow _=>tm 0 U (tf 1 U U (λ_ _ _=>yH (v':=.bool false) U (cb UA)) (qR 2 15 U (dJ kr (qT 2 U (hx3 i3 _ ⟨SS,hs7⟩ rd))))))))
  have NE:decide (0<(((gL.length-i3):Nat):Int))=true:=decide_eq_true (by have q_:=kl hd3;rw[List.length_range]at q_;omega)
  have L7:i3<gL.length:=by simpa using kl hd3
  refine qT 2 U (hU ([]) mixed kr jn (λF4 _=>tm 0 U (tf 1 U U (λ_ _ _=>yH (v':=.bool true) U (cb NE)) (qR 2 4 U (tf 6 U U (λ_ _ _=>yH (v':=I (((gL.length-(i3+1)):Nat):Int)) U (NY L7 ob)) ?_)))))
  have ho3:0<=((((gL.length-(i3+1)):Nat):Int):Int)/\((((gL.length-(i3+1)):Nat):Int):Int)<((gL).length:Int):=ob
  refine jr 7 (enc:=λy=>[I y]) F4 jn ei fm ty3 tK.1 ho3 (eu ho3) U U U U kr (λq8 A8=>tf 8 U U (rh ty3 A8 U) ?_)
  have ho4:0<=((nthI gL (((gL.length-(i3+1)):Nat):Int)):Int)/\((nthI gL (((gL.length-(i3+1)):Nat):Int)):Int)<((signed).length:Int):=(by first|omega|exact VG u1_0 ob _)
  refine jr 9 (enc:=λy=>[I y]) F4 jn ei fm ty3 (iC.mono vJ (hle1.t hl1)).1 ho4 (eu ho4) U U U U kr (λq9 A9=>tf 10 U U (rh ty3 A9 U) (qA [11,12] U (jr 13 (enc:=λy=>[I y]) F4 jn ei fm ty3 (iC.mono vJ (hle1.t hl1)).1 (nthZ iI) (jk iI) U U U U kr (λq10 A10=>tf 14 U U (rh ty3 A10 U) (qA [15,16] U (dJ kr (dy hs7 U (λc4 hs9=>?_) (λc4 hs10=>?_))))))))
  .have c4p:=of_decide_eq_true c4
   exact jf (qT 3 U (ls (v':=I (((gL.length-(i3+1)):Nat):Int)) U (NY L7 ob) (qO 3 U (ag2 ((i3+1),rz3) _ (Nat.lt_succ_self _) ⟨nl hd3,kl hd3,hs9⟩ rd))))
  have c4p:=of_decide_eq_false c4
  exact jI U (hx3 i3 _ ⟨SS,hs10⟩ rd)
 rintro i1 ⟨gL,zz,zy,hh1⟩ hd1 rZ hx e
 exact qK 6 [] U (fO rZ U (qO 3 U (hx _ rd)))
theorem sK(h l eP eO)(hl:SlC aj.rp h eP eO l):j0 prog 130 [.slice eP l.length eO] h (λv h'=>∃(rr0:pO),v=.agg (jo.cells (aG l) rr0).toArray/\jo.ok h' (aG l) rr0):=by
 refine sVv func130 ntmps130 ?_
 generalize hz:(aG l)=z
 have HA:=λ{b2}=>lM [2,3,9,10] 11 (.mM b2 (jC .i64) Ao .mE) (λs1 i w=>(aG.L1 (aG.K1 l)) s1 i w.1)
 exact W
instance kC130:Ct 130:=⟨_,call130,@sK⟩
theorem Ey(h u xl xk u_q ad known_q)(bg:Budget)(bg_q at_ at__q)(hu:SlC Use.rp h xl xk u)(au:At h u_q [.slice xl u.length xk])(aknown:At h known_q [I ad])(abg:At h bg_q (zV bg))(aat_:At h at__q [I at_])(hbp:bg.mH≠0):Itr prog (.func (.func 173) #[] (vB [.pointer (some u_q),.pointer (some known_q),.pointer (some bg_q),.pointer (some at__q)])) BS (eD u ad bg at_) h:=by
 refine vt call173 ?_
 generalize hz:eD u ad bg at_=z;have hs:=hz.symm
 intro yf ya yb C Sp Pn h1 A eT m1 m2 m3 hC hy
 refine sTY func173 U ntmps173 U λX hXM hX hF=>?_
 have hv:z=[]++z:=rfl
 have HA:=h0 [0,2,3,4,8,9] 10 (λs1 i=>(eD.L1 ad bg at_ (eD.K1)) s1)
 exact W
instance kI173:CtI 173:=⟨_,@Ey⟩
theorem AO(rec:ai->Int->List hZ)(h)(x:ai)(gN x_q)(depth:Int)(depth_q)(hrec:∀(h:HF)(qx:ai)(mi:dO)(qdepth:Int)(_:ai.ok h qx mi)(_:0<=qdepth/\qdepth+qx.dep<=2000000)(_:qx.dep<x.dep),j0 prog 307 [.agg (ai.cells qx mi).toArray,I qdepth] h (λv h'=>∃rv0:Value,v=rv0/\Itr prog rv0 yc (rec qx qdepth) h'))(hx:ai.ok h x gN)(ax:At h x_q (ai.cells x gN))(adepth:At h depth_q [I depth])(hb:0<=depth/\depth+x.dep<=2000000):Itr prog (.func (.func 368) #[] (vB [.pointer (some x_q),.pointer (some depth_q)])) yc (aM.F rec x depth) h:=by
 refine vt call368 ?_
 intro yf ya yb C Sp Pn h1 A eT m1 m2 m3 hC hy
 refine oA Lo U ntmps368 U λX hXM hX=>?_
 have hs0:aM.F rec x depth=[]++aM.F rec x depth:=rfl
 refine sr (j2 (λb1=>qL 5 [0] U (lh ty59 (ax.mono eT) U U (iw ty3 (adepth.mono eT) U (aS (ia (cells:=[I x.Kind,I x.N,I x.No,.string x.Name,.slice gN.qg x.L.length gN.qs,I depth]) (places:=[(0,5),(5,1)]) underlying316 zc316 kr kr ?_))))))
 have hx1:aM.F rec x depth=[]++((hZ.mk (ai.mk x.Kind x.N x.No x.Name x.L) depth)::((aM.L1 rec depth (aM.K1)) x.L)):=hs0
 let z1:Nat×Obj:=(b1,O [.func yf ya yb] 382)
 refine aS (sZ ([z1]) A ap (hy [] (hZ.mk (ai.mk x.Kind x.N x.No x.Name x.L) depth) _ _ _ _ hx1 lf hC ⟨(za.mk (dO.mk gN.qg gN.qs)),U,(show hZ.ok h1 (hZ.mk (ai.mk x.Kind x.N x.No x.Name x.L) depth) (za.mk (dO.mk gN.qg gN.qs))from⟨(show ai.ok h1 (ai.mk x.Kind x.N x.No x.Name x.L) (dO.mk gN.qg gN.qs)from ai.ok.of (hx.list.mono ai.aB eT))⟩)⟩) U U (λh2 A1 hle1 hC1=>?_) (λh3 A2 hle2 hS1=>?_) (λch1 h4 A3 hle3 hP1 e=>nK (Bd [] (A:=A3) Lo (List.sublist_append_right _ _) hP1)))
 .have hs1:aM.F rec x depth=[(hZ.mk (ai.mk x.Kind x.N x.No x.Name x.L) depth)]++(((aM.L1 rec depth (aM.K1)) x.L)):=hx1.trans ap
  refine qL 7 [] U (nm (j:=4) ty57 (ax.mono (eT.t hle1)) U U (qL 3 [] U (ke (eA (L':=[z1]++(A1++(markB []))) ap ?_))))
  refine yv (ι:=Nat×List hZ×LH×List Nat×HF) (λi=>[]) (λi=>marks i.2.2.2.1) (λi=>i.2.2.2.2) (λi=>[z1]++(i.2.2.1++(markB i.2.2.2.1))) (λi=>i.1<=x.L.length/\aM.F rec x depth=i.2.1++((aM.K1))/\C i.2.1 i.2.2.2.2 i.2.2.1/\zM h2 i.2.2.2.2) ?_ (λhx1=>?_)
  .rintro⟨i1,dn1,A1_,rs1,hh1⟩ ⟨pq,hs2,hC1_,hl1⟩ e
   refine eA (L':=([z1]++(A1_))++markB rs1) ap ?_
   have hs3:aM.F rec x depth=dn1:=hs2.trans (List.append_nil _)
   exact Fa rs1 (A:=A1_) Lo U js (.inl (hs3▸hC1_))
  refine Ds (ι:=Nat×List hZ×LH×List Nat×HF×List ai) (λi=>[(2,.pointer (some depth_q)),(3,Q b1),(14,.slice gN.qg x.L.length gN.qs),(15,I (x.L.length:Int)),(16,I (i.1:Int))]) (λi=>marks i.2.2.2.1) (λi=>i.2.2.2.2.1) (λi=>[z1]++(i.2.2.1++(markB i.2.2.2.1))) (λi=>x.L.drop i.1=i.2.2.2.2.2/\i.1<=x.L.length/\aM.F rec x depth=i.2.1++((aM.L1 rec depth (aM.K1)) i.2.2.2.2.2)/\C i.2.1 i.2.2.2.2.1 i.2.2.1/\zM h2 i.2.2.2.2.1) (λi=>i.2.2.2.2.2.length) (0,[(hZ.mk (ai.mk x.Kind x.N x.No x.Name x.L) depth)],A1,[],h2,x.L) U rd sw ⟨U,kJ _,hs1,hC1,lf⟩ ?_
  rintro⟨i1,dn1,A1_,rs1,hh1,s1⟩ ⟨hd1,pq,hs4,hC1_,hl1⟩ ag1 e
  rcases s1 with _|⟨y1,rz1⟩
  .have rZ:=rm hd1
   exact sr (fO rZ U (qO 4 U (hx1 (i1,dn1,A1_,rs1,hh1) _ ⟨pq,hs4,hC1_,hl1⟩ trivial)))
  have ns:=Bs hd1
  have iI:=sR hd1
  have po:=kl hd1
  have xe:=(hx.list.mono ai.aB (eT.t hle1)).1.1
  have hdy:=ai.lI (fe hd1)
  refine sr (tO ns U (qO 8 U (aS (iR us ty59 (hx.list.mono ai.aB ((eT.t hle1).t hl1)).1 iI U U U (λ_ _ _ e=>e) (λq2 r2 A8 ok2=>lh ty59 A8 U U (cS zc59 (λb4=>cJ 0 ty59 U U U U U U (mf (L':=[(b4,O (ai.cells y1 r2) 59),z1]++(A1_++(markB rs1))) U (qO 3 U (ga 0 ty59 U U U (iw ty3 (adepth.mono ((eT.t hle1).t hl1)) U (ls (v':=I (depth+1)) U (nv ob) (aS (eb call307 (hrec _ _ _ (depth+1) ok2 ob (ai.lI (fe hd1))) U (λv2 h9 hle8 hp2=>?_)))))))))))))))
  obtain⟨_,rfl,mo2⟩:=hp2
  refine qO 2 U ?_
  let z2:Nat×Obj:=(b4,O (ai.cells y1 r2) 59)
  refine eA (L':=([z2,z1]++(A1_))++markB rs1) ap ?_
  refine pz (it:=v2) (xs:=(rec y1 (depth+1))) (ι:=List hZ×LH×HF) rs1 (λi=>i.2.2) (λi=>[z2,z1]++(i.2.1)) (λs i=>aM.F rec x depth=i.1++((aM.L3 ((aM.L1 rec depth (aM.K1) rz1))) s)/\C i.1 i.2.2 i.2.1/\zM h9 i.2.2) (λi=>Sp i.2.2 i.2.1/\zM h9 i.2.2) (λ_=>False) 0 (λch h L=>∃B,B.Sublist L/\Pn ch h B) (dn1,A1_,h9) Lo U mo2 U xd (λ_ _ _ _ hl⟨B,hs,hp⟩=>⟨B,hs,m3 _ _ _ _ hl hp⟩) U (show[z2,z1]++(A1_)=_ from U) ⟨hs4,(m1 _ _ _ _ hle8 hC1_),lf⟩ ?_ ?_ ?_ ?_ ?_
  .rintro l3 dm3 lp3 y3 rz3 vs3 ⟨dn3,A3_,hh3⟩ hr3 X hFR3 ⟨hs6,hC3_,hl3⟩ hl03 hlr3 hv3 hX hXM hlp3 nx3 rt3 ex3 pn3
   obtain⟨rr3_0,rfl,ok3_0⟩:=hv3
   let z3:Nat×Obj:=(dm3,.deferred (some []))
   refine eA (L':=[(l3,.loop lp3),z3,z2,z1]++(A3_++(markB rs1))) ap (cB (cS zc316 (λb6=>cJ 0 ty316 U U U U U U (mf (L':=[(b6,O (hZ.cells y3 rr3_0) 316),(l3,.loop lp3),z3,z2,z1]++(A3_++(markB rs1))) U (ck (nJ 1 U hlp3 (qK 4 [4] U (ga 0 ty316 U U U ?_))))))))
   have hx4:aM.F rec x depth=dn3++(y3::((aM.L3 ((aM.L1 rec depth (aM.K1) rz1))) rz3)):=hs6
   let z4:Nat×Obj:=(l3,.loop { lp3 with state:=.busy })
   refine aS (TZ ([(b6,O (hZ.cells y3 rr3_0) 316),z4,z3,z2,z1]) A3_ (markB rs1) ap (hy dn3 y3 _ _ _ _ hx4 ((((hle1.t hl1).t hle8).t hl3).t hlr3) (m1 _ _ _ _ hlr3 hC3_) ⟨rr3_0,U,ok3_0⟩) U U (λh13 A12 hle12 hC4=>?_) (λh14 A13 hle13 hS4=>?_) (λch4 h15 A14 hle14 hP4 e=>EF (L':=[z4,z3]++(A14++(markB rs1))) js (pn3 _ _ _ A14 ⟨A14,List.Sublist.refl _,hP4⟩)))
   .have hs7:aM.F rec x depth=(dn3++[y3])++(((aM.L3 ((aM.L1 rec depth (aM.K1) rz1))) rz3)):=hx4.trans ap
    exact sF U (qO 4 U (ek (L':=[z4,z3,z2,z1]++(A12++(markB rs1))) js (eA (L':=rdH l3 dm3 lp3 (([z2,z1]++(A12))++markB rs1)) ap (nx3 ((dn3++[y3]),A12,h13) _ _ ⟨hs7,hC4,((hl3.t hlr3).t hle12)⟩ lf))))
   exact sF U (qO 2 U (ek (L':=[z4,z3,z2,z1]++(A13++(markB rs1))) js (eA (L':=rdH l3 dm3 lp3 (([z2,z1]++(A13))++markB rs1)) ap (rt3 (dn3,A13,h14) _ _ _ ⟨hS4,((hl3.t hlr3).t hle13)⟩ lf))))
  .rintro dm3 ⟨dn3,A3_,hh3⟩ hn3 ⟨hs8,hC3_,hl3⟩ hln3 hl03
   exact eA (L':=[z2,z1]++(A3_++(markB (dm3::rs1)))) ap (qT 3 U (oi i1 U (qO 2 U (ek (L':=[z1]++(A3_++(markB (dm3::rs1)))) js (ag1 ((i1+1),dn3,A3_,(dm3::rs1),hn3,rz1) _ (Nat.lt_succ_self _) ⟨nl hd1,kl hd1,hs8,(m1 _ _ _ _ hln3 hC3_),(((hl1.t hle8).t hl3).t hln3)⟩ rd)))))
  .rintro dm3 ⟨dn3,A3_,hh3⟩ hn3 ⟨hS5,hl3⟩ hln3 hl03
   exact eA (L':=[z2,z1]++(A3_++(markB (dm3::rs1)))) ap (eA (L':=([z2,z1]++(A3_))++markB (dm3::rs1)) ap (Bc (dm3::rs1) (A:=A3_) Lo U js (.inr (m2 _ _ _ hln3 hS5))))
  .exact xf
  rintro dm3 ch hn3 L0 ⟨B,hB,hp⟩ hl03
  exact Bd (dm3::rs1) Lo hB hp
 exact sF U (qO 2 U (ke (Bc [] (A:=A2) Lo U js (.inr hS1))))
theorem tA:∀(m:Nat)(h:HF)(x:ai)(gN:dO)(depth:Int)(_:ai.ok h x gN)(_:0<=depth/\depth+x.dep<=2000000)(_:x.dep<=m),j0 prog 307 [.agg (ai.cells x gN).toArray,I depth] h (λv h'=>∃rv0:Value,v=rv0/\Itr prog rv0 yc (aM.go m x depth) h')
 |0,h,x,gN,depth,hx,hb,hd=>absurd hd (Nat.not_le.2 (ai.ny _))
 |m+1,h,x,gN,depth,hx,hb,hd=>by
  exact el func307 U ntmps307 U λX hM hX=>sr (j2 (λb1=>j2 (λb2=>qO 4 U (dV 1 U hM (λh2 hle2 hb2=>dV 0 U hM (λh3 hle3 hb3=>aS (kw U U (an (mK [.func (.func 368) #[] #[Q b1,Q b2]] func307 U rd ⟨_,U,AO (aM.go m) h3 x gN ⟨b1,0,none⟩ depth ⟨b2,0,none⟩ (λh' y XQ d' hy hb' hl=>tA m h' y XQ d' hy hb' ob) (hx.mono (hle2.t hle3)) ((gM hb2).mono hle3) (gM hb3) hb⟩)))))))))
theorem wA(h x gN)(depth:Int)(hx:ai.ok h x gN)(hb:0<=depth/\depth+x.dep<=2000000):j0 prog 307 [.agg (ai.cells x gN).toArray,I depth] h (λv h'=>∃rv0:Value,v=rv0/\Itr prog rv0 yc (bB x depth) h'):=tA _ h x gN depth hx hb (zE _)
instance kC307:Ct 307:=⟨_,call307,@wA⟩
theorem u0(h)(seq:List aV)(seq_v)(hseq:Itr prog seq_v rg seq h)(hsz:seq.length<=2000000):j0 prog 337 [zSN,seq_v] h (λv h'=>∃(rb0:Option Addr)(rc0:Nat),v=.slice rb0 (dz seq).length rc0/\SlC aV.rp h' rb0 rc0 (dz seq)):=by
 refine sVv func337 ntmps337 ?_
 generalize hz:(dz seq)=z
 have HA:=λ{b1}=>lR (.mF b1 (λl b c=>[.slice b l.length c]) 241 aV.rp 284 .mE) (λs w=>((dz.L1 (dz.K1)) s w.1))
 exact W
instance kC337:Ct 337:=⟨_,call337,@u0⟩
theorem Cs(h l eP eO kind aT ad)(hl:SlC xV h eP eO l)(hsz0:l.length<=2000000):j0 prog 100 [.slice eP l.length eO,I kind,I aT,I ad] h (λv h'=>∃(rb0:Option Addr)(rc0:Nat),v=.slice rb0 (aZ l kind aT ad).length rc0/\SlC xV h' rb0 rc0 (aZ l kind aT ad)):=by
 refine sVv func100 ntmps100 ?_
 generalize hz:(aZ l kind aT ad)=z
 have HA:=λ{b1}=>lM [0,1,2,3,8,9,18,19] 20 (.mM b1 ig.enc (mT xV) .mE) (λs1 i w=>(aZ.L1 kind aT ad (aZ.K1 l)) s1 w.1)
 have HB:=λ{cU}=>hG [9,69,70] 71 8 xV 81 (λs2 i w=>(aZ.L2 cU (aZ.K2)) s2 w)
 exact W
theorem KA(h)(x:Budget)(u xl xk value aU ad)(hu:SlC Use.rp h xl xk u)(hxp:x.mH≠0):Ret prog 194 [.agg (zV x).toArray,.slice xl u.length xk,I value,I aU,I ad] h (.bool (kZ x u value aU ad)):=by
 refine sVv func194 ntmps194 ?_
 generalize hz:(kZ x u value aU ad)=z
 have HA:=lM [1,3,4,5] 13 (.mA (λv=>[(11,I v)]) (.mA (λv=>[(12,I v)]) .mE)) (λs1 i w=>(kZ.L1 x aU ad (kZ.K1 x)) s1 w.1 w.2.1)
 exact W
instance kC194:Ct 194:=⟨_,call194,@KA⟩
end
end Go.Sg
