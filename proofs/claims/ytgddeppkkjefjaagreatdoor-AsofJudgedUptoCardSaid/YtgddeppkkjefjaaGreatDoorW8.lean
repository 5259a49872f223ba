import Derived.Test.YtgddeppkkjefjaaGreatDoorW7
/- A part of the proof of AsofJudged. -/
set_option linter.unusedVariables false
set_option linter.unusedSimpArgs false
set_option maxRecDepth 100000
open List renaming length_cons→zA,not_mem_nil→jA,mem_cons_of_mem→vA,length_append→kA,mem_cons_self→zB,length_nil→vB,toArray→kB,mem_cons→qC,mem_singleton→xC,append_assoc→qE,mem_of_getElem?→vE,getElem?_eq_getElem→vF,nil_append→zG,map_cons→kG,mem_append→xH,range→jJ,perm_append_comm→xL,mem_map_of_mem→zM,nodup_cons→xN
open Go.Value renaming int→xB,bool→Sl
open Bool renaming and_eq_true→jB,not_eq_true'→kC,or_eq_true→xD
open Go.Sg.Rp renaming int→zC,aO→zH
open Go.Sg.Approval renaming cells→zD,av→kL,rp→xM,mk→R9
open Go.Sg.Policy renaming cells→kD
open Go.IntKind renaming wrap→zE
open Go.Sg.HF renaming le_trans→qF,le_refl→jH,le→kK
open Go.Sg.SlC renaming nil→zF
open Go.Sg.Register renaming cells→jF
open Go.Sg.Appoint renaming mk→kF,rp→kR
open Nat renaming le_refl→xG,lt_or_ge→vK,zero_le→vM,le_trans→jP
open Go.Sg.Deputy renaming cells→kM,rp→Sr,av→SK,mk→TJ
open Go.Sg.Document renaming cells→vQ,av→vR,rp→RV,ok→R8
open Go.Sg.Budget renaming cells→qS,rp→S2,mk→TI,av→Ug
open Go.Sg.Version renaming cells→kS,av→vV,ok→TU
open Option.some renaming inj→xT
open Go.Sg.OSeat renaming mk→S7
open Go.Sg.Stp renaming mono→T1
open Go.Sg.Use renaming cells→Uz

namespace Go.Sg
variable {h:HF}{i:Nat}{m3:List (Int×Option Addr×Nat×Nat)}{om:Obj}{q:Approval->Bool}{y:Approval}
section
open Go.Proofs Go.Proofs.Tryz
set_option maxHeartbeats 2000000
theorem mG(h:HF)(p:fx)(gG:sV)(p_q:Addr)(wu:Int)(ba:Int)(hp:fx.ok h p gG)(ap_z:At h p_q (fx.cells p gG))(hi:0<=wu/\wu<(p.shelf.docs.length:Int))(hlen:p.done.length=p.shelf.docs.length/\p.lacks.length=p.shelf.docs.length):Ret prog 58 [.pointer (some p_q),I wu,I ba] h (.tuple #[I ((cX p wu ba).1),I ((cX p wu ba).2)]):=by
 refine sT func58 U ntmps58 U λX hM hX hF=>?_
 have hs0:=@rfl _ (cX p wu ba)
 refine qT 8 U (aw (ff (fR U) (qL 2 [] U (de ty27 ap_z U (ao ?_)))))
 have ho1:0<=(wu:Int)/\(wu:Int)<((p.shelf.docs).length:Int):=ob
 refine aw (BG rC ty70 hp.shelf.docs.1 ho1 (dy ho1) U U U (λ_ _ _ e=>e) (λq1 r1 A1 ok1=>dl ty70 A1 U U (aU zc70 (λb1=>aR 0 ty70 U U U U U U (qO 6 U (aw (ff (fR U) (qL 1 [] U (ky (j:=3) ty129 ap_z U U (ao ?_))))))))))
 have ho2:0<=(wu:Int)/\(wu:Int)<((p.done).length:Int):=ob
 refine aw (oY (enc:=λy=>[.bool y]) ei yD ty4 hp.done.1 ho2 (dy ho2) U U U (λq2 A2=>de ty4 A2 U (qO 3 U (ae hs0 U (λc1 hs1=>?_) (λc1 hs2=>?_)))))
 .refine qT 5 U ?_
  have hs3:cX p wu ba=(1,(-1)):=hs1
  exact nretP [I 1,I (-1)] (hs3▸U)
 refine qT 3 U (aw (ff (fR U) (qL 1 [] U (ky (j:=4) ty31 ap_z U U (ao ?_)))))
 have ho3:0<=(wu:Int)/\(wu:Int)<((p.lacks).length:Int):=ob
 refine aw (oY (enc:=λy=>[I y]) ei eG ty3 hp.lacks.1 ho3 (dy ho3) U U U (λq3 A3=>de ty3 A3 U (qO 3 U (ae hs2 U (λc2 hs4=>?_) (λc2 hs5=>?_)))))
 .have c2p:=of_decide_eq_true c2
  refine dJ (eQ ([(b1,O (vQ (nthI p.shelf.docs wu) r1) 70)]) mixed kr jn (λeF _=>tm 0 U (tf 1 U U (λ_ _ _=>fR U) (qB [2] U (tf 3 U U (rH 4 ty31 ap_z U U) (tm 4 U ?_))))))
  have ho4:0<=(wu:Int)/\(wu:Int)<((p.lacks).length:Int):=ob
  refine fF 5 (enc:=λy=>[I y]) eF jn ei eG ty3 hp.lacks.1 ho4 (dy ho4) U U U U kr (λq4 A4=>tf 6 U U (rh ty3 A4 U) (qA [7,8] U (aN kr ?_)))
  have hs6:cX p wu ba=(4,(nthI p.lacks wu)):=hs4
  exact nretP [I 4,I (nthI p.lacks wu)] (hs6▸U)
 have c2p:=of_decide_eq_false c2
 refine dJ ?_
 let z1:Nat×Obj:=(b1,O (vQ (nthI p.shelf.docs wu) r1) 70)
 refine eQ ([z1]) mixed kr jn (λnh _=>?_)
 refine tm 0 U (tf 1 U U (λ_ _ _=>fR U) (qB [2] U (tf 3 U U (rH 5 ty169 ap_z U U) (qB [4] U (tf 5 U U (rj 0 ty3 U U U) (tn 6 U ?_))))))
 obtain⟨o1,hb1,hm1⟩:=hp.revoked
 refine nN (k:=(nthI p.shelf.docs wu).No) Ig (dG kz) hb1 hm1 (e8 zv31) (show(VSl zC) _ (.slice none 0 0) []from⟨none,0,U,zF⟩) U U (λv1 hv1=>?_)
 obtain⟨rb1,rc1,rfl,sl1⟩:=hv1
 refine⟨jn,(tf 7 U U (λ_ _ _=>Gq eG U) (qA [8,9] U (aN kr (ae hs5 U (λc3 hs7=>?_) (λc3 hs8=>?_)))))⟩
 .have c3p:=of_decide_eq_true c3
  refine dJ (eQ ([z1]) mixed kr jn (λQ7 _=>tm 0 U (tf 1 U U (λ_ _ _=>fR U) (qB [2] U (tf 3 U U (rH 5 ty169 ap_z U U) (qB [4] U (tf 5 U U (rj 0 ty3 U U U) (tn 6 U ?_))))))))
  obtain⟨o2,hb2,hm2⟩:=hp.revoked
  refine nN (k:=(nthI p.shelf.docs wu).No) Ig (dG kz) hb2 hm2 (e8 zv31) (show(VSl zC) _ (.slice none 0 0) []from⟨none,0,U,zF⟩) U U (λv2 hv2=>?_)
  obtain⟨rb2,rc2,rfl,sl2⟩:=hv2
  refine⟨jn,(tn 7 U (fg call110 (As _ _ _ _ sl2 ob) U (⟨jn,(qA [8,9] U (aN kr ?_))⟩)))⟩
  have hs9:cX p wu ba=(5,(gl (mgetD p.revoked ((nthI p.shelf.docs wu).No) []))):=hs7
  exact nretP [I 5,I (gl (mgetD p.revoked ((nthI p.shelf.docs wu).No) []))] (hs9▸U)
 have c3p:=of_decide_eq_false c3
 refine qK 8 [0] U (ae hs8 U (λc4 hs10=>?_) (λc4 hs11=>?_))
 .have c4p:=of_decide_eq_true c4
  refine qT 5 U ?_
  have hs12:cX p wu ba=(2,(-1)):=hs10
  exact nretP [I 2,I (-1)] (hs12▸U)
 have c4p:=of_decide_eq_false c4
 refine qK 8 [0] U (ae hs11 U (λc5 hs13=>?_) (λc5 hs14=>?_))
 .have c5p:=of_decide_eq_true c5
  refine qT 5 U ?_
  have hs15:cX p wu ba=(3,(-1)):=hs13
  exact nretP [I 3,I (-1)] (hs15▸U)
 have c5p:=of_decide_eq_false c5
 refine qT 7 U ?_
 have hs16:cX p wu ba=(0,(-1)):=hs14
 exact nretP [I 0,I (-1)] (hs16▸U)
theorem yh(cmp:Int->Int->Int):∀(j:Nat)(xs:List Int),(insIn cmp j xs).length=xs.length
 |0,xs=>rfl
 |j+1,xs=>by
  simp only[insIn,Bool.cond_eq_ite]
  split
  .rw[yh cmp j];simp
  rfl
theorem BX(cmp:Int->Int->Int):∀(j:Nat)(xs:List Int),j<xs.length->∀x∈insIn cmp j xs,x∈xs
 |0,xs,_,x,hx=>hx
 |j+1,xs,hj,x,hx=>by
  simp only[insIn,Bool.cond_eq_ite]at hx
  split at hx
  .have h1:=BX cmp j _ (by simp;omega) x hx
   rcases List.mem_or_eq_of_mem_set h1 with h1|rfl
   .rcases List.mem_or_eq_of_mem_set h1 with h1|rfl
    .exact h1
    simp[List.getD_eq_getElem?_getD,show j<xs.length by omega]
   simp[List.getD_eq_getElem?_getD,show j+1<xs.length by omega]
  exact hx
theorem EL(cmp:Int->Int->Int):∀(m i:Nat)(xs:List Int),(insOut cmp m i xs).length=xs.length
 |0,_,_=>rfl
 |m+1,i,xs=>by simp only[insOut];rw[EL cmp m,yh]
theorem DS(xs:List Int)(cmp:Int->Int->Int):(fy xs cmp).length=xs.length:=EL _ _ _ _
theorem Ar(j:Nat)(hj:j<9223372036854775807):xB .i64 (IntKind.i64.wrap (((j+1:Nat):Int)-1))=I (j:Int):=by
 rw[jc ob];congr 1;omega
theorem oz(h:HF)(xs:List Int)(b:Option Addr)(c:Nat)(G:LH)(cmp:Int->Int->Int)(cmp_v:Value)(hG:dA zC 3 h xs b c G)(hcmp:∀(h':HF)(cj DF:Int),kK h h'->cj∈xs->DF∈xs->sZ prog cmp_v [I cj,I DF] h' [] (I (cmp cj DF)))(hsz:xs.length<=2000000):
  nL prog 264 [.slice b xs.length c,I 0,I (xs.length:Int),cmp_v].toArray h G (λr h' G'=>h'=h/\r=.returned (.tuple #[])/\dA zC 3 h (fy xs cmp) b c G'):=by
 refine cD func264 U ntmps264 U λX hM hX=>qT 3 U (iq (v':=I ((1:Nat):Int)) U U (an ?_))
 refine iA (ι:=List Int×LH) (λi=>[]) (λi=>h) (λi=>i.2) (λi=>i.1=fy xs cmp/\dA zC 3 h i.1 b c i.2) ?_ (λhx=>?_)
 .rintro⟨ys,G'⟩ ⟨hs,hG'⟩ e
  dsimp only at hs hG'
  exact uN func264 (λa _ w _=>lK U a w) (λw hw=>hw.lower) ⟨hX,U,hs▸hG'⟩
 refine kl (ι:=Nat×List Int×LH) (λi=>[(0,.slice b xs.length c),(1,I 0),(2,I (xs.length:Int)),(3,cmp_v),(8,I (i.1:Int))]) (λi=>h) (λi=>i.2.2)
  (λi=>insOut cmp (xs.length-i.1) i.1 i.2.1=fy xs cmp/\1<=i.1/\i.2.1.length=xs.length/\(∀x∈i.2.1,x∈xs)/\dA zC 3 h i.2.1 b c i.2.2) (λi=>xs.length-i.1) (1,xs,G) rd (λw hw=>hw) ⟨rfl,xG _,rfl,λ_ hx=>hx,hG⟩ ?_
 rintro⟨i,ys,G1⟩ ⟨hs,hi1,hyl,hym,hG1⟩ ag e
 dsimp only at hs hi1 hyl hym hG1
 rcases vK i xs.length with hi|hi
 .refine qT 5 U (tO (decide_eq_true ob) U (qO 10 U ?_))
  refine iA (ι:=List Int×LH) (λq=>[(0,.slice b xs.length c),(1,I 0),(2,I (xs.length:Int)),(3,cmp_v),(8,I (i:Int))]) (λq=>h) (λq=>q.2) (λq=>q.1=insIn cmp i ys/\dA zC 3 h q.1 b c q.2) ?_ (λhy=>?_)
  .rintro⟨zs,G2⟩ ⟨hz,hG2⟩ e2
   dsimp only at hz hG2
   subst hz
   refine qT 3 U (oi i U (an (ag (i+1,insIn cmp i ys,G2) _ (by show xs.length-(i+1)<xs.length-i;omega) ⟨?_,by show 1<=i+1;omega,by show(insIn cmp i ys).length=xs.length;rw[yh];exact hyl,λx hx=>hym x (BX cmp i ys ob x hx),hG2⟩ rd)))
   show insOut cmp (xs.length-(i+1)) (i+1) (insIn cmp i ys)=_
   rw[←hs,show xs.length-i=(xs.length-(i+1))+1 from by omega];rfl
  refine kl (ι:=Nat×List Int×LH) (λq=>[(0,.slice b xs.length c),(1,I 0),(2,I (xs.length:Int)),(3,cmp_v),(8,I (i:Int)),(9,I (q.1:Int))]) (λq=>h) (λq=>q.2.2)
   (λq=>insIn cmp q.1 q.2.1=insIn cmp i ys/\q.1<=i/\q.2.1.length=xs.length/\(∀x∈q.2.1,x∈xs)/\dA zC 3 h q.2.1 b c q.2.2) (λq=>q.1) (i,ys,G1) rd (λw hw=>hw) ⟨rfl,xG _,hyl,hym,hG1⟩ ?_
  rintro⟨j,zs,G2⟩ ⟨hz,hji,hzl,hzm,hG2⟩ ag2 e2
  dsimp only at hz hji hzl hzm hG2
  have J0:∀{L:LH},Jst h [] h L:=AO (List.nil_sublist _)
  obtain⟨bk,hbk⟩:=hG2.yl ob
  have JG:Jst h G2 h G2:=AO (List.Sublist.refl _)
  refine qT 2 U (eQ G2 mixed kr JG (λhsep _=>jk 0 hsep JG U U kr U (λ_ _ _=>mV) (jk 1 hsep JG U U kr U (λ_ _ _=>mV) ?_)))
  rcases j with _|j
  .exact jk 2 hsep JG U U kr U (λ_ _ _=>ny (v':=.bool false) U (cb (decide_eq_false ob))) (jk 3 hsep JG U U kr U (λ_ _ _=>mV) (mP 4 hsep JG U U kr U (mP 5 hsep JG U U kr U (mP 6 hsep JG U U kr U (mP 7 hsep JG U U kr U (mP 8 hsep JG U U kr U (mP 9 hsep JG U U kr U (mP 10 hsep JG U U kr U (mP 11 hsep JG U U kr U (mP 12 hsep JG U U kr U (mP 13 hsep JG U U kr U (mP 14 hsep JG U U kr U (mP 15 hsep JG U U kr U (jk 16 hsep JG U U kr U (λ_ _ _=>Kl U) (aN kr (qT 2 U (hy (zs,G2) _ ⟨hz,hG2⟩ rd)))))))))))))))))
  have hj1:zs[j+1]? = some (zs.getD (j+1) 0):=by simp[List.getD_eq_getElem?_getD,show j+1<zs.length by omega]
  have hj0:zs[j]? = some (zs.getD j 0):=by simp[List.getD_eq_getElem?_getD,show j<zs.length by omega]
  have hjn:(((j+1:Nat):Int)).toNat=j+1:=by omega
  have hjn0:((j:Int)).toNat=j:=by omega
  refine jk 2 hsep JG U U kr U (λ_ _ _=>ny (v':=.bool true) U (cb (decide_eq_true ob))) (jk 3 hsep JG U U kr U (λ_ _ _=>mV) (jk 4 hsep JG U U kr U (λ_ _ _=>mV) (jk 5 hsep JG U U kr U (λ_ _ _=>mV) (jk 6 hsep JG U U kr U (λ_ _ _=>mV) (jk 7 hsep JG U U kr U (λ_ _ _=>nX (R:=zC) (xs:=zs) (z:=((j+1:Nat):Int)) eG ty3 hbk ob U hzl.symm U) (jk 8 hsep JG U U kr U (λ_ _ hj=>Cu (R:=zC) (off:=0) (i:=j+1) ty3 hG2 hbk hj1 (λcs_z hcs=>by rw[show cs_z=[I (zs.getD (j+1) 0)]from hcs];rfl) (by rfl) (λp hp=>hj.2 p hp)) (jk 9 hsep JG U U kr U (λ_ _ _=>mV) (jk 10 hsep JG U U kr U (λ_ _ _=>mV) (jk 11 hsep JG U U kr U (λ_ _ _=>ny (v':=I (j:Int)) U (Ar j ob)) (jk 12 hsep JG U U kr U (λ_ _ _=>nX (R:=zC) (xs:=zs) (z:=(j:Int)) eG ty3 hbk ob U hzl.symm U) (jk 13 hsep JG U U kr U (λ_ _ hj=>Cu (R:=zC) (off:=0) (i:=j) ty3 hG2 hbk hj0 (λcs_z hcs=>by rw[show cs_z=[I (zs.getD j 0)]from hcs];rfl) (by rfl) (λp hp=>hj.2 p hp)) (tn 14 U (lX (v:=I (cmp (zs.getD (j+1) 0) (zs.getD j 0))) [] (List.nil_sublist _) (hcmp h (zs.getD (j+1) 0) (zs.getD j 0) lf (hzm _ (vE hj1)) (hzm _ (vE hj0))) U U ⟨JG,jk 15 hsep JG U U kr U (λ_ _ _=>NU U) (jk 16 hsep JG U U kr U (λ_ _ _=>Kl U) (aN kr (jf U (λhc=>aQ ?_) (λhc=>?_))))⟩)))))))))))))
  .refine qT 2 U (eQ [] mixed kr J0 (λnh _=>jk 0 nh J0 U U kr U (λ_ _ _=>mV) (jk 1 nh J0 U U kr U (λ_ _ _=>mV) (jk 5 nh J0 U U kr U (λ_ _ _=>mV) (jk 6 nh J0 U U kr U (λ_ _ _=>mV) (jk 2 nh J0 U U kr U (λ_ _ _=>mV) (jk 3 nh J0 U U kr U (λ_ _ _=>mV) (jk 4 nh J0 U U kr U (λ_ _ _=>ny (v':=I (j:Int)) U (Ar j ob)) (jk 7 nh J0 U U kr U (λ_ _ _=>ny (v':=I (j:Int)) U (Ar j ob)) (jk 8 nh J0 U U kr U (λ_ _ _=>nX (R:=zC) (xs:=zs) (z:=(j:Int)) eG ty3 hbk ob U hzl.symm U) (jk 10 nh J0 U U kr U (λ_ _ _=>mV) (jk 11 nh J0 U U kr U (λ_ _ _=>mV) (jk 12 nh J0 U U kr U (λ_ _ _=>nX (R:=zC) (xs:=zs) (z:=((j+1:Nat):Int)) eG ty3 hbk ob U hzl.symm U) ?_)))))))))))))
   refine mO 9 13 kr U U
    (ff (Cu (R:=zC) (off:=0) (i:=j) ty3 hG2 hbk hj0 (λcs_z hcs=>by rw[show cs_z=[I (zs.getD j 0)]from hcs];rfl) (by rfl) (λp hp=>hp)) ⟨J0,tn 13 rfl (ff (Cu (R:=zC) (off:=0) (i:=j+1) ty3 hG2 hbk hj1 (λcs_z hcs=>by rw[show cs_z=[I (zs.getD (j+1) 0)]from hcs];rfl) (by rfl) (λp hp=>hp)) ⟨J0,?_⟩)⟩)
    (ff (Cu (R:=zC) (off:=0) (i:=j+1) ty3 hG2 hbk hj1 (λcs_z hcs=>by rw[show cs_z=[I (zs.getD (j+1) 0)]from hcs];rfl) (by rfl) (λp hp=>hp)) ⟨J0,tn 9 rfl (ff (Cu (R:=zC) (off:=0) (i:=j) ty3 hG2 hbk hj0 (λcs_z hcs=>by rw[show cs_z=[I (zs.getD j 0)]from hcs];rfl) (by rfl) (λp hp=>hp)) ⟨J0,?_⟩)⟩)
   all_goals
    refine jk 14 nh J0 U U kr U (λ_ _ _=>nX (R:=zC) (xs:=zs) (z:=((j+1:Nat):Int)) eG ty3 hbk ob U hzl.symm U) (tn 15 U (AA (R:=zC) (i:=j+1) (off:=0) (u:=zs.getD (j+1) 0) (u':=zs.getD j 0) (v:=I (zs.getD j 0)) [] G2 [] ty3 U hG2 (by simp) hbk hj1 (by decide) (λcs_z hcs=>by rw[show cs_z=[I (zs.getD (j+1) 0)]from hcs];rfl) (by rfl) U U (λG3 hG3=>⟨J0,?_⟩)))
    rw[zG,List.append_nil]
    refine jk 16 nh J0 U U kr U (λ_ _ _=>nX (R:=zC) (xs:=zs) (z:=(j:Int)) eG ty3 hbk ob U hzl.symm U) ?_
    have hj0':(zs.set (j+1) (zs.getD j 0))[j]? = some (zs.getD j 0):=by rw[List.getElem?_set_ne ob];exact hj0
    refine tn 17 U (AA (R:=zC) (i:=j) (off:=0) (u:=zs.getD j 0) (u':=zs.getD (j+1) 0) (v:=I (zs.getD (j+1) 0)) [] G3 [] ty3 U hG3 (by simp) hbk hj0' (by decide) (λcs_z hcs=>by rw[show cs_z=[I (zs.getD j 0)]from hcs];rfl) (by rfl) U U (λG4 hG4=>⟨J0,?_⟩))
    rw[zG,List.append_nil]
    refine aN kr (qT 3 U (iq (v':=I (j:Int)) U (Ar j ob) (an (ag2 (j,(zs.set (j+1) (zs.getD j 0)).set j (zs.getD (j+1) 0),G4) _ (Nat.lt_succ_self _) ⟨?_,by show j<=i;omega,by show((zs.set (j+1) (zs.getD j 0)).set j (zs.getD (j+1) 0)).length=xs.length;simpa using hzl,λx hx=>(List.mem_or_eq_of_mem_set hx).elim (λhx=>(List.mem_or_eq_of_mem_set hx).elim (hzm x) (λhx=>hx▸hzm _ (vE hj0))) (λhx=>hx▸hzm _ (vE hj1)),hG4⟩ rd))))
    show insIn cmp j ((zs.set (j+1) (zs.getD j 0)).set j (zs.getD (j+1) 0))=insIn cmp i ys
    rw[←hz];simp only[insIn,hc,cond_true]
  refine mr U (hy (zs,G2) _ ⟨?_,hG2⟩ rd)
  show zs=insIn cmp i ys
  rw[←hz];simp only[insIn,hc,cond_false]
 refine qT 5 U (fO (decide_eq_false ob) U (qO 3 U (hx (ys,G1) _ ⟨?_,hG1⟩ trivial)))
 show ys=_
 rw[←hs,show xs.length-i=0 from by omega];rfl
theorem rD(h:HF)(xs:List Int)(b:Option Addr)(c:Nat)(G:LH)(cmp:Int->Int->Int)(cmp_v:Value)(hG:dA zC 3 h xs b c G)(hcmp:∀(h':HF)(cj DF:Int),kK h h'->cj∈xs->DF∈xs->sZ prog cmp_v [I cj,I DF] h' [] (I (cmp cj DF)))(hsz:xs.length<20):
  nL prog 230 [.slice b xs.length c,I (xs.length:Int),cmp_v].toArray h G (λr h' G'=>h'=h/\r=.returned (.tuple #[])/\dA zC 3 h (fy xs cmp) b c G'):=by
 refine cD func230 U ntmps230 U λX hM hX=>qT 12 U (DK (qT 5 U (fO (decide_eq_false ob) U (qO 9 U (aw (my [] G [] call264 (oz h xs b c G cmp cmp_v hG hcmp ob) (by simp) U (λG2 hG2=>?_)))))))
 rw[zG,List.append_nil]
 exact aH (ll (DK (qT 5 U (fO (decide_eq_false ob) U (qO 3 U (uN func230 (λa _ w _=>lK U a w) (λw hw=>hw.lower) ⟨hX,U,hG2⟩))))))
theorem rg(h:HF)(xs:List Int)(b:Option Addr)(c:Nat)(G:LH)(cmp:Int->Int->Int)(cmp_v:Value)(hG:dA zC 3 h xs b c G)(hcmp:∀(h':HF)(cj DF:Int),kK h h'->cj∈xs->DF∈xs->sZ prog cmp_v [I cj,I DF] h' [] (I (cmp cj DF)))(hsz:xs.length<20):
  nL prog 179 [.slice b xs.length c,cmp_v].toArray h G (λr h' G'=>h'=h/\r=.returned (.tuple #[])/\dA zC 3 h (fy xs cmp) b c G'):=by
 refine cD func179 U ntmps179 U λX hM hX=>qK 5 [] U (aw (my [] G [] call230 (rD h xs b c G cmp cmp_v hG hcmp hsz) (by simp) U (λG2 hG2=>?_)))
 rw[zG,List.append_nil]
 exact aH (uN func179 (λa _ w _=>lK U a w) (λw hw=>hw.lower) ⟨hX,U,hG2⟩)
theorem rq(h:HF)(a:Int)(ku:Int)(p:pG)(gG:Ma)(p_p:Addr)(p_q:Addr)(hp:pG.ok h p gG)(pp:At h p_p (pG.cells p gG))(ap_z:At h p_q [.pointer (some p_p)])(ha:0<=a/\a<(p.signed.length:Int))(hb:0<=ku/\ku<(p.signed.length:Int)):Ret prog 180 [I a,I ku,.pointer (some p_q)] h (I (i8 a ku p)):=by
 refine sT func180 U ntmps180 U λX hM hX hF=>?_
 have hs0:=@rfl _ (i8 a ku p)
 refine qT 5 U (eQ ([]) mixed kr jn (λeF _=>tf 0 U U (rh ty112 ap_z U) (tf 1 U U (λ_ _ _=>fR U) (qB [2] U (tf 3 U U (rH 2 ty31 pp U U) (tm 4 U ?_))))))
 have ho1:0<=(a:Int)/\(a:Int)<((p.signed).length:Int):=ob
 refine fF 5 (enc:=λy=>[I y]) eF jn ei eG ty3 hp.signed.1 ho1 (dy ho1) U U U U kr (λq1 A1=>tf 6 U U (rh ty3 A1 U) (tf 7 U U (rh ty112 ap_z U) (tf 8 U U (λ_ _ _=>fR U) (qB [9] U (tf 10 U U (rH 2 ty31 pp U U) (tm 11 U ?_))))))
 have ho2:0<=(ku:Int)/\(ku:Int)<((p.signed).length:Int):=ob
 exact fF 12 (enc:=λy=>[I y]) eF jn ei eG ty3 hp.signed.1 ho2 (dy ho2) U U U U kr (λq2 A2=>tf 13 U U (rh ty3 A2 U) (tn 14 U (fg call181 (Ac h (nthI p.signed a) (nthI p.signed ku)) U (⟨jn,(qA [15] U (aN kr (nretP [I (cmp_Compare_int (nthI p.signed a) (nthI p.signed ku))] (ci hs0))))⟩))))
theorem uQ(h:HF)(v0:List Int)(tP:Option Addr)(tN:Nat)(v0_q:Addr)(hv0:SlC zC h tP tN v0)(av0:At h v0_q [.slice tP v0.length tN]):Itr prog (.func (.func 231) #[] (kB [.pointer (some v0_q)])) yg (df v0) h:=by
 refine rl call231 ?_
 intro yf ya yb C Sp Pn h1 A hle m1 m2 m3 hC hy
 refine iN J7 U ntmps231 U λX hXM hX=>?_
 have hs0:df v0=[]++df v0:=rfl
 refine sr (de ty31 (av0.mono hle) U (qL 3 [] U ?_))
 refine lp2 v0 (λi w=>[(0,.func yf ya yb),(5,.slice tP v0.length tN),(6,I (v0.length:Int)),(7,I (i:Int))]) (λw=>w.2.2) (λw=>w.2.1) (λi w=>C w.1 w.2.2 w.2.1/\kK h1 w.2.2) (λs1 i w=>w.1++(df.L1 (df.K1)) s1) ([],A,h1) ((hv0.mono zH hle).1.1) hs0 ⟨hC,lf⟩ ?_ ?_
 .rintro i1 ⟨dn1,A1_,hh1⟩ fB hs1 ⟨hC1_,hl1⟩ e
  refine dQ ?_
  have hs2:df v0=dn1:=hs1.trans (List.append_nil _)
  exact rm [] (A:=A1_) J7 U (List.Sublist.refl _) (.inl (hs2▸hC1_))
 rintro i1 ⟨dn1,A1_,hh1⟩ y1 rz1 hd1 du bo eA gD hs3 ⟨hC1_,hl1⟩ hx1 ag1 e
 refine sr (tO du U (qO 8 U (aw (iF (λy=>[I y]) eG ty3 (hv0.mono zH (hle.t hl1)).1 bo U U U (λq2 A5=>de ty3 A5 U (qO 6 U ?_))))))
 have hx2:df v0=dn1++(y1::(df.L1 (df.K1) rz1)):=hs3
 refine aw (j2 ([]) A1_ ap (hy dn1 y1 _ _ _ _ hx2 hl1 hC1_ U) U U (λh5 A6 hle4 hC2=>?_) (λh6 A7 hle5 hS2=>?_) (λch2 h7 A8 hle6 hP2 e=>gk (mC [] (A:=A8) J7 (List.sublist_append_right _ _) hP2)))
 .have hs4:df v0=(dn1++[y1])++((df.L1 (df.K1) rz1)):=hx2.trans ap
  exact lL U (qO 5 U (oi i1 U (qO 2 U (ag1 ((dn1++[y1]),A6,h5) hs4 ⟨hC2,(hl1.t hle4)⟩))))
 exact lL U (qO 2 U (dQ (mi [] (A:=A7) J7 U (List.Sublist.refl _) (.inr hS2))))
theorem wG(h:HF)(s:List Int)(pU:Option Addr)(pI:Nat)(hs:SlC zC h pU pI s):jY prog 182 [.slice pU s.length pI] h (λv h'=>∃(rv0:Value),v=rv0/\Itr prog rv0 yg (lg s) h'):=by
 refine sT func182 U ntmps182 U λX hM hX hF=>?_
 have hs0:=@rfl _ (lg s)
 refine sr (ct (λb1=>qO 4 U (aP 0 U hM (λh1 hle1 hb1=>aw (dS U U (an ?_))))))
 have hs1:lg s=(df s):=hs0
 exact nretH [.func (.func 231) #[] #[Q b1]] (hs1▸⟨(.func (.func 231) #[] #[Q b1]),U,(uQ h1 s pU pI ⟨b1,0,none⟩ (hs.mono zH hle1) (bI hb1))⟩)
theorem sP(h:HF)(p:pG)(gG:Ma)(p_q:Addr)(jU:Int)(hp:pG.ok h p gG)(ap_z:At h p_q (pG.cells p gG))(hsg:p.signed.length<20):jY prog 108 [.pointer (some p_q),I jU] h (λv h'=>∃(rv0:Value),v=rv0/\Itr prog rv0 yg (bS p jU) h'):=by
 refine sT func108 U ntmps108 U λX hM hX hF=>?_
 have hs0:=@rfl _ (bS p jU)
 refine sr (ct (λb1=>qL 10 [0] U (aw (ff (fR U) (qL 1 [] U (ky (j:=2) ty31 ap_z U U (qL 3 [] U ?_)))))))
 let z1:Nat×Obj:=(b1,O [.pointer (some p_q)] 112)
 refine lp2 p.signed (λi w=>[(1,I jU),(2,Q b1),(5,.slice w.2.1 w.1.length w.2.2.1),(11,.slice gG.ef p.signed.length gG.dZ),(12,I (p.signed.length:Int)),(13,I (i:Int))]) (λ_=>h) (λw=>[z1]++(w.2.2.2)) (λi w=>dA zC 3 h w.1 w.2.1 w.2.2.1 w.2.2.2/\w.1.length<=0+i/\(∀x∈w.1,0<=x/\x<(p.signed.length:Int))) (λs1 i w=>(bS.L1 jU (bS.K1 p)) s1 i w.1) ([],none,0,[]) hp.signed.1.1 hs0 ⟨dA.nil,lo,(λx hx=>(jA hx).elim)⟩ ?_ ?_
 .rintro i1 ⟨jm,Ou,Ot,LI⟩ fB hs1 ⟨GR,Oq,u1_0⟩ e
  try dsimp only at GR Oq u1_0
  refine qT 3 U (aP 0 U hM (λh1 hle1 hb1=>aw (dS U U (aw (my ([]) LI ([]) call179 (rg h1 jm Ou Ot LI (λcj DF=>i8 cj DF p) (.func (.func 180) #[] #[Q b1]) (GR.mono zH hle1) (λh' cj DF hle My Ru=>im call180 (rq h' cj DF p gG p_q ⟨b1,0,none⟩  ((hp.mono hle1).mono hle) ((ap_z.mono hle1).mono hle) ((bI hb1).mono hle) (u1_0 _ My) (u1_0 _ Ru))) (by first|assumption|omega)) ap U (λG1 gr1=>gS (L':=G1) ap (qO 4 U (ox zH ([]) G1 ([]) ap hM gr1 (λh2 hle2 sl1=>aw (cJ call182 (wG _ _ _ _ sl1) (by first|rfl|(simp only[DS,gP];rfl)) (λv1 h3 hle3 hp1=>?_)))))))))))
  obtain⟨_,rfl,mo1⟩:=hp1
  refine an ?_
  have hs2:bS p jU=(lg (fy jm (λcj DF=>i8 cj DF p))):=hs1
  exact nretH [v1] (hs2▸⟨v1,U,mo1⟩)
 rintro i1 ⟨jm,Ou,Ot,LI⟩ y1 rz1 hd1 du bo eA gD hs3 ⟨GR,Oq,u1_0⟩ hx1 ag1 e
 try dsimp only at GR Oq u1_0
 refine sr (tO du U (qO 9 U (aw (iF (λy=>[I y]) eG ty3 hp.signed.1 bo U U U (λq2 A2=>de ty3 A2 U (qO 8 U (bD 4 [20,21,22,23,24] 20 24 (decide (y1<=jU)) U (λc1 hk1=>?_) (λe=>?_))))))))
 .exact ao (qO 3 U (hk1 _ U))
 refine aH (ae hs3 U (λc2 hs4=>?_) (λc2 hs5=>?_))
 .exact bu (qO 2 U (aw (bB (cells:=[I (i1:Int)]) eG ty3 zc3 U U kr (λb2=>aw (eo Rp.kZ ([(b2,O [I (i1:Int)] 3),z1]) ([]) (λG=>[(b2,O [I (i1:Int)] 3),z1]++G) ap (λ_=>ap) eG ty3 zc3 U bytes3 GR U U (fd 0 U (cE (i1:Int) U U)) lo lo (λob1 oc1 G2 gr2=>qO 4 U (oi i1 U (qO 2 U (bj (L':=[z1]++G2) js (ag1 ((jm++[(i1:Int)]),ob1,oc1,G2) hs4 ⟨gr2,lo,(by first|assumption|exact λx hx=>(xH.1 hx).elim (u1_0 x) (λhx=>by rw[xC.1 hx];omega))⟩))))))))))
 exact aQ (qT 2 U (oi i1 U (qO 2 U (ag1 (jm,Ou,Ot,LI) hs5 ⟨GR,lo,(by first|assumption|exact λx hx=>(xH.1 hx).elim (u1_0 x) (λhx=>by rw[xC.1 hx];omega))⟩))))
theorem tZ(h:HF)(v0:List Int)(tP:Option Addr)(tN:Nat)(v0_q:Addr)(hv0:SlC zC h tP tN v0)(av0:At h v0_q [.slice tP v0.length tN]):Itr prog (.func (.func 183) #[] (kB [.pointer (some v0_q)])) xa (iE v0) h:=by
 refine rl call183 ?_
 intro yf ya yb C Sp Pn h1 A hle m1 m2 m3 hC hy
 refine iN J6 U ntmps183 U λX hXM hX=>?_
 have hbd:=hv0.1.1
 refine sr (de ty31 (av0.mono hle) U (qL 1 [] U (iq (v':=I ((v0.length:Int)-1)) U (jc ob) (qO 3 U ?_))))
 refine kl (ι:=Nat×List (Int×Int)×LH×HF) (λi=>[(0,.func yf ya yb),(1,.pointer (some v0_q)),(3,I ((i.1:Int)-1))]) (λi=>i.2.2.2) (λi=>i.2.2.1)
  (λi=>iE v0=i.2.1++backL v0 i.1/\i.1<=v0.length/\C i.2.1 i.2.2.2 i.2.2.1/\kK h1 i.2.2.2) (λi=>i.1) (v0.length,[],A,h1) rd (λw hw=>hw) ⟨rfl,xG _,hC,jH _⟩ ?_
 rintro⟨m,dn,A1,hh⟩ ⟨hs,hm,hC1,hl1⟩ ag e
 dsimp only at hs hm hC1 hl1
 rcases m with _|m
 .exact dJ (qT 3 U (fO (decide_eq_false ob) U (qO 3 U (dQ (rm [] (A:=A1) J6 U (List.Sublist.refl _) (.inl ((show iE v0=dn from hs.trans (List.append_nil _))▸hC1)))))))
 have e1:(((m+1:Nat):Int)-1)=(m:Int):=by omega
 rw[e1]
 have ho:0<=(m:Int)/\(m:Int)<(v0.length:Int):=by omega
 refine qT 4 U (tO (decide_eq_true ob) U (qO 9 U (de ty31 (av0.mono (hle.t hl1)) U (ao (aw (oY (enc:=λy=>[I y]) ei eG ty3 (hv0.mono zH (hle.t hl1)).1 ho (dy ho) U U U (λq2 A5=>de ty3 A5 U ?_)))))))
 have hx:iE v0=dn++(((m:Int),nthI v0 (m:Int))::backL v0 m):=hs
 refine aw (j2 ([]) A1 U (hy dn ((m:Int),nthI v0 (m:Int)) _ _ _ _ hx hl1 hC1 U) U U (λh5 A6 hle4 hC2=>?_) (λh6 A7 hle5 hS2=>?_) (λch2 h7 A8 hle6 hP2 e=>gk (mC [] (A:=A8) J6 (List.sublist_append_right _ _) hP2)))
 .have hs4:iE v0=(dn++[((m:Int),nthI v0 (m:Int))])++backL v0 m:=hx.trans ap
  exact lL U (qO 6 U (iq (v':=I ((m:Int)-1)) U (jc ob) (an (ag (m,dn++[((m:Int),nthI v0 (m:Int))],A6,h5) _ (Nat.lt_succ_self _) ⟨hs4,by show m<=v0.length;omega,hC2,qF hl1 hle4⟩ rd))))
 exact lL U (qO 2 U (dQ (mi [] (A:=A7) J6 U (List.Sublist.refl _) (.inr hS2))))
theorem uR(h:HF)(s:List Int)(pU:Option Addr)(pI:Nat)(hs:SlC zC h pU pI s):jY prog 109 [.slice pU s.length pI] h (λv h'=>∃(rv0:Value),v=rv0/\Itr prog rv0 xa (ke s) h'):=by
 refine sT func109 U ntmps109 U λX hM hX hF=>?_
 have hs0:=@rfl _ (ke s)
 refine sr (ct (λb1=>qO 4 U (aP 0 U hM (λh1 hle1 hb1=>aw (dS U U (an ?_))))))
 have hs1:ke s=(iE s):=hs0
 exact nretH [.func (.func 183) #[] #[Q b1]] (hs1▸⟨(.func (.func 183) #[] #[Q b1]),U,(tZ h1 s pU pI ⟨b1,0,none⟩ (hs.mono zH hle1) (bI hb1))⟩)
theorem JZ(s:List Int):lg s=s:=by
  show df.L1 df.K1 s=s
  induction s with
  |nil=>rfl
  |cons y s ih=>simp only[df.L1,ih]
theorem EK(cmp:Int->Int->Int):∀(m i:Nat)(xs:List Int),m=0\/i+m<=xs.length->∀x∈insOut cmp m i xs,x∈xs
  |0,_,_,_,x,hx=>hx
  |m+1,i,xs,h,x,hx=>by
    simp only[insOut]at hx
    exact BX cmp i xs ob x (EK cmp m (i+1) _ (by rw[yh];omega) x hx)
theorem Kb(xs:List Int)(cmp:Int->Int->Int):∀x∈fy xs cmp,x∈xs:=EK _ _ _ _ ob
theorem DV(p:fx)(ba:Int):∀(s:List Int)(i:Nat)(g:List Int),(∀x∈g,0<=x/\x<(i:Int))->g.length<=i ->
  (∀x∈bS.L1 ba (bS.K1 p) s i g,0<=x/\x<((i+s.length:Nat):Int))/\(bS.L1 ba (bS.K1 p) s i g).length<=i+s.length:=by
 intro s
 induction s with
 |nil=>
  intro i g hg hl
  simp only[bS.L1,bS.K1,JZ,vB,Nat.add_zero,DS]
  exact⟨λx hx=>hg x (Kb _ _ x hx),hl⟩
 |cons y s ih=>
  intro i g hg hl
  have e1:i+(y::s).length=(i+1)+s.length:=by simp only[zA];omega
  rw[e1]
  simp only[bS.L1,Bool.cond_eq_ite]
  split
  .refine ih (i+1) _ (λx hx=>?_) lo
   rcases xH.1 hx with hx|hx
   .have:=hg x hx;omega
   rw[xC.1 hx];omega
  exact ih (i+1) g (λx hx=>by have:=hg x hx;omega) ob
theorem IC(p:fx)(ba:Int):∀x∈bS p ba,0<=x/\x<(p.signed.length:Int):=by
  have:=(DV p ba p.signed 0 [] (λ_ h=>(jA h).elim) (xG _)).1
  simpa[bS]using this
theorem IB(p:fx)(ba:Int):(bS p ba).length<=p.signed.length:=by
  have:=(DV p ba p.signed 0 [] (λ_ h=>(jA h).elim) (xG _)).2
  simpa[bS]using this
theorem V3i.mono:yW V3i:=λ_ _ _ _ _ e=>e
theorem FRi.mono{h h':HF}(hl:h.le h'):∀{m:List (Int×Option Addr×Nat×Nat)}{f:List (Int×List Int)}{G:LH},FRi h m f G->FRi h' m f G
  |[],[],_,e=>e
  |(_,_)::_,(_,_)::_,_,⟨a,b,G1,G2,c,d,t⟩=>⟨a,b,G1,G2,c,d.mono zH hl,FRi.mono hl t⟩
  |[],(_,_)::_,_,x=>x.elim
  |(_,_)::_,[],_,x=>x.elim
theorem FRi.get{h:HF}(k:Int):∀{m:List (Int×Option Addr×Nat×Nat)}{f:List (Int×List Int)}{G:LH},FRi h m f G ->
  ∃b c G1 G2,mgetD m k (none,0,0)=(b,(mgetD f k []).length,c)/\dA zC 3 h (mgetD f k []) b c G1/\G.Perm (G1++G2) /\
   ∀b' c' xs' G1',dA zC 3 h xs' b' c' G1'->∃G',FRi h (mput m k (b',xs'.length,c')) (mput f k xs') G'/\G'.Perm (G1'++G2)
 |[],[],G,e=>by
  subst e
  refine⟨none,0,[],[],U,dA.nil,List.Perm.refl _,λb' c' xs' G1' hG=>⟨G1',⟨U,U,G1',[],by simp,hG,U⟩,by simp⟩⟩
 |(k0,x)::m,(k',xs)::f,G,⟨e,hn,G1,G2,hG,hg,t⟩=>by
  subst e hG
  by_cases hk:k=k0
  .subst hk
   refine⟨x.1,x.2.2,G1,G2,?_,?_,List.Perm.refl _,λb' c' xs' G1' hG'=>⟨G1'++G2,?_,List.Perm.refl _⟩⟩
   .simp[mgetD,mget?,←hn]
   .simpa[mgetD,mget?]using hg
   simp only[mput,if_true]
   exact⟨U,U,G1',G2,U,hG',t⟩
  obtain⟨b,c,H1,H2,h1,h2,h3,h4⟩:=FRi.get k t
  refine⟨b,c,H1,G1++H2,?_,?_,?_,λb' c' xs' G1' hG'=>?_⟩
  .simpa[mgetD,mget?,hk]using h1
  .simpa[mgetD,mget?,hk]using h2
  .refine(List.Perm.append_left G1 h3).trans ?_
   rw[←qE,←qE];exact List.Perm.append_right H2 xL
  obtain⟨G',g1,g2⟩:=h4 b' c' xs' G1' hG'
  refine⟨G1++G',?_,?_⟩
  .simp only[mput,hk,if_false]
   exact⟨U,hn,G1,G',U,hg,g1⟩
  refine(List.Perm.append_left G1 g2).trans ?_
  rw[←qE,←qE];exact List.Perm.append_right H2 xL
 |[],(_,_)::_,_,x=>x.elim
 |(_,_)::_,[],_,x=>x.elim
theorem FRi.keys{h:HF}:∀{m:List (Int×Option Addr×Nat×Nat)}{f:List (Int×List Int)}{G:LH},FRi h m f G->m.map (·.1)=f.map (·.1)
  |[],[],_,_=>rfl
  |(_,_)::_,(_,_)::_,_,⟨a,_,_,_,_,_,t⟩=>by simp[a,FRi.keys t]
  |[],(_,_)::_,_,x=>x.elim
  |(_,_)::_,[],_,x=>x.elim
theorem FRi.mem{h:HF}:∀{m:List (Int×Option Addr×Nat×Nat)}{f:List (Int×List Int)}{G:LH},FRi h m f G->(m.map (·.1)).Nodup->∀p∈m,p.2.2.1=(mgetD f p.1 []).length/\∃G1,(∀q∈G1,q∈G)/\dA zC 3 h (mgetD f p.1 []) p.2.1 p.2.2.2 G1
 |[],[],_,_,_,_,hp=>(jA hp).elim
 |(k,x)::m,(k',xs)::f,G,⟨e,hn,G1,G2,hG,hg,t⟩,hnd,p,hp=>by
  subst e hG
  rw[kG,xN]at hnd
  rcases qC.1 hp with rfl|hp
  .exact⟨by simp[mgetD,mget?,hn],G1,λq hq=>List.mem_append_left _ hq,by simpa[mgetD,mget?]using hg⟩
  have hne:¬p.1=k:=λe=>hnd.1 (by have h9:=zM (f:=(·.1)) hp;rw[e]at h9;exact h9)
  obtain⟨h1,H,h2,h3⟩:=FRi.mem t hnd.2 p hp
  exact⟨by simpa[mgetD,mget?,hne]using h1,H,λq hq=>List.mem_append_right _ (h2 q hq),by simpa[mgetD,mget?,hne]using h3⟩
 |[],(_,_)::_,_,x,_,_,_=>x.elim
 |(_,_)::_,[],_,x,_,_,_=>x.elim
theorem GM{α : Type}:∀{f:List (Int×α)}(z:α),(f.map (·.1)).Nodup->f=f.map λp=>(p.1,mgetD f p.1 z)
 |[],_,_=>rfl
 |(k,x)::f,z,hn=>by
  rw[kG,xN]at hn
  rw[kG]
  congr 1
  .simp[mgetD,mget?]
  have ih:=GM z hn.2
  conv=>lhs;rw[ih]
  apply List.map_congr_left
  intro p hp
  have hne:¬p.1=k:=λe=>hn.1 (by have h9:=zM (f:=(·.1)) hp;rw[e]at h9;exact h9)
  simp[mgetD,mget?,hne]
theorem Hb{h:HF}{h2:HF}(g:Int->List Int):∀{es:List MapEntry}{m:List (Int×Option Addr×Nat×Nat)},pF (xB .i64) V3i h es m ->
    (∀p∈m,p.2.2.1=(g p.1).length/\SlC zC h2 p.2.1 p.2.2.2 (g p.1))->pF (xB .i64) (VSl zC) h2 es (m.map λp=>(p.1,g p.1))
  |[],[],_,_=>trivial
  |e::es,(k,x)::m,⟨a,b,c⟩,hg=>by
    obtain⟨h1,h3⟩:=hg (k,x) (zB ..)
    refine⟨a,⟨x.1,x.2.2,?_,h3⟩,Hb g c λp hp=>hg p (vA _ hp)⟩
    rw[show e.val=.slice x.1 x.2.1 x.2.2 from b,h1]
  |[],_::_,x,_=>x.elim
  |_::_,[],x,_=>x.elim
theorem FRi.frozen{h2:HF}{o:Obj}{m:List (Int×Option Addr×Nat×Nat)}{f:List (Int×List Int)}{G:LH}(hm:ia (xB .i64) V3i h o m)(hf:FRi h m f G)(hl:h.le h2)(hG:∀p∈G,h2 p.1=some p.2):
  ia (xB .i64) (VSl zC) h2 o f:=by
 have hnd:=hm.nodup
 have hk:=hf.keys
 obtain⟨m',hp,hn,es,c,rfl,hE,h1,h3⟩:=hm
 have hmem:=hf.mem hnd
 have hfe:=GM (f:=f) [] (hk▸hnd)
 have hfm:f=m.map λp=>(p.1,mgetD f p.1 []):=by
  have e1:(f.map λp=>(p.1,mgetD f p.1 []))=(f.map (·.1)).map λk=>(k,mgetD f k []):=by rw[List.map_map];rfl
  have e2:(m.map λp=>(p.1,mgetD f p.1 []))=(m.map (·.1)).map λk=>(k,mgetD f k []):=by rw[List.map_map];rfl
  rw[e2,hk,←e1];exact hfe
 refine⟨m'.map λp=>(p.1,mgetD f p.1 []),?_,?_,es,c,U,Hb (λk=>mgetD f k []) hE λp hp'=>?_,h1,h3⟩
 .have hpm:=hp.map λp=>(p.1,mgetD f p.1 ([]:List Int))
  rw[←hfm]at hpm;exact hpm
 .rw[List.map_map];exact hn
 obtain⟨h5,G1,h6,h7⟩:=hmem p (hp.mem_iff.1 hp')
 exact⟨h5,h7.frozen zH hl λq hq=>hG q (h6 q hq)⟩
section
variable {b0:Frame} {n:Nat} {ops:Array Oper} {F:List Frame->(Machine->Prop)->Prop} {ds:List Deferred} {X:Cx} {e:Env} {h h':HF} {L:LH} {l:List Document} {lb:Option Addr} {lc_z:Nat} {sg:List Int} {sb:Option Addr} {sc:Nat} {at_:Int} {q4:Addr} {a b c d f g t:Bool} {ty:TypeId} {pos:String} {af:Array Edge}
theorem Rs(hl:SlC RV h lb lc_z l)(hI:PlI h l lb lc_z sg sb sc at_ q4 false b c d f g t e h' L):
    Stp prog b0 n ops F ds X ⟨some 17,.call ⟨.value (.func 103),#[.tmp 16],#[27]⟩,ty,pos,af,none⟩ e h' L (λe2 h2 L2=>Jst h [] h2 L2/\PlI h l lb lc_z sg sb sc at_ q4 true b c d f g t e2 h2 L2):=by
  obtain⟨hv,hle,⟨k2,k4,k16,k18,k20,k23⟩,sq,b5,b8,b9,b12,b11,x1,x5,x8,x9,x12,x10,x11,hL⟩:=hI
  cases g<;>cases t<;>simp at hv
  refine cJ call103 (pP h' l lb lc_z (hl.mono vR hle)) (congrArg (λx=>[x]) k16) (λv h2 hl2 hp=>?_)
  obtain⟨r2,rfl,ok2⟩:=hp
  exact⟨⟨qF hle hl2,λ_ hp=>(jA hp).elim⟩,U,qF hle hl2,⟨k2,k4,k16,k18,k20,k23⟩,r2,b5,b8,b9,b12,b11,λ_=>⟨U,ok2⟩,x5,x8,x9,x12,λh=>(by cases h),λh=>(by cases h),hL⟩
theorem Rr(hn:l.length<20)(hI:PlI h l lb lc_z sg sb sc at_ q4 a false c d f g t e h' L):
    Stp prog b0 n ops F ds X ⟨some 21,.makeSlice 129 (.tmp 20) (.tmp 20),ty,pos,af,none⟩ e h' L (λe2 h2 L2=>Jst h [] h2 L2/\PlI h l lb lc_z sg sb sc at_ q4 a true c d f g t e2 h2 L2):=by
  obtain⟨hv,hle,⟨k2,k4,k16,k18,k20,k23⟩,sq,b5,b8,b9,b12,b11,x1,x5,x8,x9,x12,x10,x11,hL⟩:=hI
  cases g<;>cases t<;>simp at hv
  refine Gk yD zc4 ty4 bytes4 k20 k20 ob ob (λbk=>?_)
  exact⟨⟨hle,λ_ hp=>(jA hp).elim⟩,U,hle,⟨k2,k4,k16,k18,k20,k23⟩,sq,bk,b8,b9,b12,b11,x1,λ_=>U,x8,x9,x12,λh=>(by cases h),λh=>(by cases h),
    (List.Perm.cons _ hL).trans (pmid (pmid (pmid (pmid (List.Perm.refl _)))))⟩
theorem Rq(hn:l.length<20)(hI:PlI h l lb lc_z sg sb sc at_ q4 a b false d f g t e h' L):
    Stp prog b0 n ops F ds X ⟨some 24,.makeSlice 31 (.tmp 23) (.tmp 23),ty,pos,af,none⟩ e h' L (λe2 h2 L2=>Jst h [] h2 L2/\PlI h l lb lc_z sg sb sc at_ q4 a b true d f g t e2 h2 L2):=by
  obtain⟨hv,hle,⟨k2,k4,k16,k18,k20,k23⟩,sq,b5,b8,b9,b12,b11,x1,x5,x8,x9,x12,x10,x11,hL⟩:=hI
  cases g<;>cases t<;>simp at hv
  refine Gk eG zc3 ty3 bytes3 k23 k23 ob ob (λbk=>?_)
  exact⟨⟨hle,λ_ hp=>(jA hp).elim⟩,U,hle,⟨k2,k4,k16,k18,k20,k23⟩,sq,b5,bk,b9,b12,b11,x1,x5,λ_=>U,x9,x12,λh=>(by cases h),λh=>(by cases h),
    (List.Perm.cons _ hL).trans (pmid (pmid (pmid (List.Perm.refl _))))⟩
theorem Ro(hI:PlI h l lb lc_z sg sb sc at_ q4 a b c false f g t e h' L):
    Stp prog b0 n ops F ds X ⟨some 25,.makeMap 169 none,ty,pos,af,none⟩ e h' L (λe2 h2 L2=>Jst h [] h2 L2/\PlI h l lb lc_z sg sb sc at_ q4 a b c true f g t e2 h2 L2):=by
  obtain⟨hv,hle,⟨k2,k4,k16,k18,k20,k23⟩,sq,b5,b8,b9,b12,b11,x1,x5,x8,x9,x12,x10,x11,hL⟩:=hI
  cases g<;>cases t<;>simp at hv
  refine na (λbk=>?_)
  exact⟨⟨hle,λ_ hp=>(jA hp).elim⟩,U,hle,⟨k2,k4,k16,k18,k20,k23⟩,sq,b5,b8,bk,b12,b11,x1,x5,x8,λ_=>U,x12,λh=>(by cases h),λh=>(by cases h),
    (List.Perm.cons _ hL).trans (pmid (pmid (List.Perm.refl _)))⟩
theorem Q4(hI:PlI h l lb lc_z sg sb sc at_ q4 a b c d false g t e h' L):
    Stp prog b0 n ops F ds X ⟨some 7,.alloc 112,ty,pos,af,none⟩ e h' L (λe2 h2 L2=>Jst h [] h2 L2/\PlI h l lb lc_z sg sb sc at_ q4 a b c d true g t e2 h2 L2):=by
  obtain⟨hv,hle,⟨k2,k4,k16,k18,k20,k23⟩,sq,b5,b8,b9,b12,b11,x1,x5,x8,x9,x12,x10,x11,hL⟩:=hI
  refine AD zc112 (λbk=>?_)
  exact⟨⟨hle,λ_ hp=>(jA hp).elim⟩,hv,hle,⟨k2,k4,k16,k18,k20,k23⟩,sq,b5,b8,b9,bk,b11,x1,x5,x8,x9,λ_=>U,x10,x11,
    (List.Perm.cons _ hL).trans (pmid (List.Perm.refl _))⟩
theorem Q6(ha:(a&&b&&c&&d)=true)(hI:PlI h l lb lc_z sg sb sc at_ q4 a b c d f false t e h' L):
    Stp prog b0 n ops F ds X ⟨some 26,.build 171 #[(0,.tmp 17),(1,.tmp 18),(2,.tmp 21),(3,.tmp 24),(4,.tmp 25)],ty,pos,af,none⟩ e h' L (λe2 h2 L2=>Jst h [] h2 L2/\PlI h l lb lc_z sg sb sc at_ q4 a b c d f true t e2 h2 L2):=by
  obtain⟨hv,hle,⟨k2,k4,k16,k18,k20,k23⟩,sq,b5,b8,b9,b12,b11,x1,x5,x8,x9,x12,x10,x11,hL⟩:=hI
  cases a<;>cases b<;>cases c<;>cases d<;>simp at ha
  cases t<;>simp at hv
  obtain⟨x1,o1⟩:=x1 rfl
  replace x5:=x5 rfl
  replace x8:=x8 rfl
  replace x9:=x9 rfl
  refine Hj [(17,_),(18,_),(21,_),(24,_),(25,_)] ⟨x1,k18,x5,x8,x9,trivial⟩ ?_
  have hc:fx.cells (playP l sg) (playR l.length sq sb sc b5 b8 b9)=[.slice sq.Ff (ay l).docs.length sq.Fe,.map (some sq.JQ),.slice sb sg.length sc,.slice (some ⟨b5,0,none⟩) l.length l.length,.slice (some ⟨b8,0,none⟩) l.length l.length,.map (some b9)]:=by simp[fx.cells,playP,playR]
  exact eY (cells:=[.slice sq.Ff (ay l).docs.length sq.Fe,.map (some sq.JQ),.slice sb sg.length sc,.slice (some ⟨b5,0,none⟩) l.length l.length,.slice (some ⟨b8,0,none⟩) l.length l.length,.map (some b9)]) (places:=[(0,2),(2,1),(3,1),(4,1),(5,1)]) underlying171 zc171 kr kr (⟨⟨hle,λ_ hp=>(jA hp).elim⟩,U,hle,⟨k2,k4,k16,U,k20,k23⟩,sq,b5,b8,b9,b12,b11,λ_=>⟨U,o1⟩,λ_=>U,λ_=>U,λ_=>U,x12,λ_=>(congrArg (λz:List Value=>Value.agg z.toArray) hc).symm,λh=>(by cases h),hL⟩)
theorem Q5(hI:PlI h l lb lc_z sg sb sc at_ q4 a b c d f true false e h' L):
    Stp prog b0 n ops F ds X ⟨some 27,.box 171 (.tmp 26),ty,pos,af,none⟩ e h' L (λe2 h2 L2=>Jst h [] h2 L2/\PlI h l lb lc_z sg sb sc at_ q4 a b c d f true true e2 h2 L2):=by
  obtain⟨hv,hle,⟨k2,k4,k16,k18,k20,k23⟩,sq,b5,b8,b9,b12,b11,x1,x5,x8,x9,x12,x10,x11,hL⟩:=hI
  replace x10:=x10 rfl
  refine Hj [(26,_)] ⟨x10,trivial⟩ (Q1 (λbk=>?_))
  exact⟨⟨hle,λ_ hp=>(jA hp).elim⟩,hv,hle,⟨k2,k4,k16,k18,k20,k23⟩,sq,b5,b8,b9,b12,bk,x1,x5,x8,x9,x12,λ_=>U,λ_=>U,List.Perm.cons _ hL⟩
end
theorem Ps{a b c d f g t:Bool}(h:i∈plN a b c d f g t):(i=1/\a=false)\/(i=5/\b=false)\/(i=8/\c=false)\/(i=9/\d=false)\/(i=10/\(a&&b&&c&&d)=true/\g=false)\/(i=11/\g=true/\t=false)\/(i=12/\f=false)\/(a=true/\b=true/\c=true/\d=true/\f=true/\g=true/\t=true):=by
 simp only[plN,xH]at h
 rcases h with h|h|h|h|h|h|h|h
 .cases a with
  |true=>simp at h
  |false=>simp at h;exact .inl ⟨h,rfl⟩
 .cases b with
  |true=>simp at h
  |false=>simp at h;exact .inr (.inl ⟨h,rfl⟩)
 .cases c with
  |true=>simp at h
  |false=>simp at h;exact .inr (.inr (.inl ⟨h,rfl⟩))
 .cases d with
  |true=>simp at h
  |false=>simp at h;exact .inr (.inr (.inr (.inl ⟨h,rfl⟩)))
 .cases g with
  |true=>simp at h
  |false=>
   cases hh:(a&&b&&c&&d)with
   |false=>rw[hh]at h;simp at h
   |true=>rw[hh]at h;simp at h;exact .inr (.inr (.inr (.inr (.inl ⟨h,rfl,rfl⟩))))
 .cases g with
  |false=>simp at h
  |true=>
   cases t with
   |true=>simp at h
   |false=>simp at h;exact .inr (.inr (.inr (.inr (.inr (.inl ⟨h,rfl,rfl⟩)))))
 .cases f with
  |true=>simp at h
  |false=>simp at h;exact .inr (.inr (.inr (.inr (.inr (.inr (.inl ⟨h,rfl⟩))))))
 cases a<;>cases b<;>cases c<;>cases d<;>cases f<;>cases g<;>cases t<;>simp at h
 exact .inr (.inr (.inr (.inr (.inr (.inr (.inr ⟨U,U,U,U,U,U,U⟩))))))
theorem NW{a b c d f g t:Bool}(h:plM a b c d f g t=0):a=true/\b=true/\c=true/\d=true/\f=true/\g=true/\t=true:=by
  cases a<;>cases b<;>cases c<;>cases d<;>cases f<;>cases g<;>cases t<;>simp[plM]at h<;>simp
structure vW(h:HF)(n b5 b8 br:Nat)(P:fx)(om:Obj)(m3:List (Int×Option Addr×Nat×Nat))(Gf:LH):Prop where
  done:P.done.length=n
  lacks:P.lacks.length=n
  map:ia (xB .i64) V3i h om m3
  rev:FRi h m3 P.revoked Gf
theorem vW.mono{h':HF}{n b5 b8 br:Nat}{P:fx}{Gf:LH}(o:vW h n b5 b8 br P om m3 Gf)(hl:h.le h'):vW h' n b5 b8 br P om m3 Gf:=
  ⟨o.done,o.lacks,o.map.mono V3i.mono hl,o.rev.mono hl⟩
theorem C4(h:HF):∀xs:List Bool,bP Rp.bool h (xs.map Sl) xs
  |[]=>rfl
  |x::xs=>⟨[.bool x],xs.map Sl,rfl,rfl,rfl,C4 h xs⟩
theorem CG(h:HF):∀xs:List Int,bP zC h (xs.map (xB .i64)) xs
  |[]=>rfl
  |x::xs=>⟨[I x],xs.map (xB .i64),rfl,rfl,rfl,CG h xs⟩
theorem vW.lent{h1:HF}{n b5 b8 br:Nat}{P:fx}{Gf:LH}{sq:nS}{sb:Option Addr}{sc:Nat}(o:vW h n b5 b8 br P om m3 Gf)(hn:n<20)(hs:gB.ok h P.shelf sq)(hg:SlC zC h sb sc P.signed)(hl:h.le h1)(hL:∀p∈plB b5 b8 br P om Gf,h1 p.1=some p.2):fx.ok h1 P (playR n sq sb sc b5 b8 br):=by
  have h5:=hL (b5,.cells (P.done.map Sl).toArray 4 (0,0)) (by simp[plB])
  have h8:=hL (b8,.cells (P.lacks.map (xB .i64)).toArray 3 (0,0)) (by simp[plB])
  have hr:=hL (br,om) (by simp[plB])
  have hd:=o.done
  have hk:=o.lacks
  exact⟨hs.mono hl,hg.mono zH hl,bP.slB0 (C4 h1 _) h5 ob (by rw[hd];exact xG _),bP.slB0 (CG h1 _) h8 ob (by rw[hk];exact xG _),
    ⟨om,hr,FRi.frozen o.map o.rev hl (λp hp=>hL p (by simp[plB,hp]))⟩⟩
theorem FI(l:List Document):(ay l).docs=l:=by
  have:∀(s:List Document)(i:Nat)(g:List (Int×Int)),(ay.L1 (ay.K1 l) s i g).docs=l:=by
    intro s
    induction s with
    |nil=>intro i g;rfl
    |cons y s ih=>intro i g;exact ih _ _
  exact this _ _ _
theorem IX(l:List Document)(hl:0<l.length)(k:Int):0<=mgetD (ay l).at_ k 0/\mgetD (ay l).at_ k 0<(l.length:Int):=by
  have key:∀(s:List Document)(i:Nat)(g:List (Int×Int)),i+s.length=l.length->(∀p∈g,0<=p.2/\p.2<(l.length:Int))->∀p∈(ay.L1 (ay.K1 l) s i g).at_,0<=p.2/\p.2<(l.length:Int):=by
    intro s
    induction s with
    |nil=>intro i g _ hg;exact hg
    |cons y s ih=>
      intro i g hi hg
      simp only[zA]at hi
      exact ih (i+1) _ ob (wW (P:=λx:Int=>0<=x/\x<(l.length:Int)) _ hg ob)
  exact yd (P:=λx:Int=>0<=x/\x<(l.length:Int)) k (key l 0 [] (by simp) (λ_ h=>(jA h).elim)) ob
theorem zc{α : Type}(f:α->Value)(xs:List α)(k:Nat)(y:α):splice (xs.map f) (k*1) [f y]=(xs.set k y).map f:=by
  simp[splice,mw,List.map_set]
theorem Er{l:List Document}{sg:List Int}{P:fx}{r:sV}(h1:P.shelf=ay l)(h2:P.signed=sg)(h3:P.done.length=l.length)(h4:P.lacks.length=l.length):fx.cells P r=fx.cells (playP l sg) r:=by
  simp[fx.cells,playP,h1,h2,h3,h4]
theorem wS(sg:List Int)(i:Int)(no:Int)(P:fx):(playLack sg i P no).shelf=P.shelf/\(playLack sg i P no).signed=P.signed/\(playLack sg i P no).done=P.done/\(playLack sg i P no).lacks.length=P.lacks.length/\(playLack sg i P no).revoked=P.revoked:=by
  unfold playLack
  cases(cX P (mgetD P.shelf.at_ no 0) (nthI sg i)).1 != 0<;>simp
theorem AF{d:Document}{Q_z:fx}{y:Int}{P:List (Int×List Int)}(h:∀k,(mgetD Q_z.revoked k []).length<=(mgetD P k []).length+i):∀k,(mgetD (playRevoke d Q_z y).revoked k []).length<=(mgetD P k []).length+(i+1):=λk=>by
 show(mgetD (mput Q_z.revoked y (mgetD Q_z.revoked y []++[d.No])) k []).length<=_
 rw[zq]
 split
 .next hk=>subst hk;have:=h k;simp only[kA,zA,vB];omega
 have:=h k;omega
theorem rA(h:HF)(l:List Document)(fq:Option Addr)(fp:Nat)(signed:List Int)(ef:Option Addr)(dZ:Nat)(ba:Int)(hl:SlC RV h fq fp l)(hsigned:SlC zC h ef dZ signed)(hck:bz l=0)(hsg:signed.length=l.length)(hln:l.length<20):
  jY prog 57 [.slice fq l.length fp,.slice ef signed.length dZ,I ba] h (λv h'=>∃(rq0:Addr)(rr0:sV),v=.pointer (some rq0)/\fx.ok h' (cA l signed ba) rr0/\At h' rq0 (fx.cells (cA l signed ba) rr0)):=by
 refine cD func57 U ntmps57 U λX hM hX=>?_
 refine sr (ct (λb4=>an ?_))
 refine eO 0 U hM (λh1 l1 f4=>?_)
 have a4:=bI f4
 show TT _ _ _ _ _ _ _ _ h1 []
 refine dJ (eQ [] mixed kr jn (λhsep _=>?_))
 refine tm 0 U (tf 2 U U (rh ty31 a4 U) (tm 3 U (tf 4 U U (λ_ _ _=>Gq rC U) (tm 6 U (tf 7 U U (λ_ _ _=>Gq rC U) ?_)))))
 refine Qj (σ:=Bool×Bool×Bool×Bool×Bool×Bool×Bool) 1 (λs e2 h2 L2=>PlI h1 l fq fp signed ef dZ ba ⟨b4,0,none⟩ s.1 s.2.1 s.2.2.1 s.2.2.2.1 s.2.2.2.2.1 s.2.2.2.2.2.1 s.2.2.2.2.2.2 e2 h2 L2)
  (λs=>plM s.1 s.2.1 s.2.2.1 s.2.2.2.1 s.2.2.2.2.1 s.2.2.2.2.2.1 s.2.2.2.2.2.2) (λs=>plD s.1 s.2.1 s.2.2.1 s.2.2.2.1 s.2.2.2.2.1 s.2.2.2.2.2.1 s.2.2.2.2.2.2) ?_ ?_ 7 (false,false,false,false,false,false,false) _ _ _ rfl
  ⟨rfl,jH _,⟨rfl,rfl,rfl,rfl,rfl,rfl⟩,⟨none,0,0⟩,0,0,0,0,0,λh=>(by cases h),λh=>(by cases h),λh=>(by cases h),λh=>(by cases h),λh=>(by cases h),λh=>(by cases h),λh=>(by cases h),List.Perm.refl _⟩
 .rintro⟨a,b,c,d,f,g,t⟩ e2 h2 L2 hI hμ
  obtain⟨e1,e2',e3,e4,e5,e6,e7⟩:=NW hμ
  dsimp only at e1 e2' e3 e4 e5 e6 e7
  subst e1 e2' e3 e4 e5 e6 e7
  obtain⟨_,hle,⟨k2,k4,_,_,_,_⟩,sr0,b5,b8,br,b12,b11,x1,_,_,_,x12,_,x11,hL⟩:=hI
  obtain⟨_,oks⟩:=x1 rfl
  have k7:=x12 rfl
  have k27:=x11 rfl
  clear x1 x12 x11
  dsimp only at k7 k27 oks hL k2 k4
  have J2:∀{L:LH},Jst h1 [] h2 L:=⟨hle,λ_ hp=>(jA hp).elim⟩
  refine tn 13 U (D0 hL (Hj [(7,Q b12),(27,Q b11)] ⟨k7,k27,trivial⟩ (kO 1 (off:=0) (vs:=[Q b11]) ty112 U U U U (by rfl) U ⟨J2,aN kr (Qg [(2,I ba),(4,Q b4),(7,Q b12)] ⟨k2,k4,U,trivial⟩ (eO 1 U hM (λh3 l3 f12=>eO 0 U hM (λh4 l4 f11=>?_))))⟩)))
  have A7:=(bI f12).mono l4
  have A11:=bI f11
  have l24:h2.le h4:=qF l3 l4
  have l04:h.le h4:=qF l1 (qF hle l24)
  replace oks:=oks.mono l24
  replace a4:=a4.mono (qF hle l24)
  clear f12 f11 l3 l4 J2 hL k2 k4 k7 k27
  refine oo (L':=plB b5 b8 br (playP l signed) (.map #[] 0) []) (by
   have h9:plB b5 b8 br (playP l signed) (.map #[] 0) []=[(b5,.cells (List.replicate l.length (.bool false)).toArray 4 (0,0)),(b8,.cells (List.replicate l.length (I 0)).toArray 3 (0,0)),(br,.map #[] 0)]:=by simp[plB,playP,List.map_replicate]
   rw[h9]
   exact List.reverse_perm [(b5,O (List.replicate l.length (.bool false)) 4),(b8,.cells (List.replicate l.length (I 0)).toArray 3 (0,0)),(br,.map #[] 0)]) ?_
  have hl4:=hl.mono vR l04
  have hs4:=hsigned.mono zH l04
  refine qT 3 U (de ty112 A7 U (ao (aw (cJ call108 (sP h4 (playP l signed) (playR l.length sr0 ef dZ b5 b8 br) ⟨b11,0,none⟩ ba ⟨hs4⟩ A11 (by show signed.length<20;omega)) U (λv5 h5 l5 hp=>?_)))))
  obtain⟨rv,rfl,hit⟩:=hp
  refine qO 2 U (dQ ?_)
  have hord:=IC (playP l signed) ba
  have hordl:=IB (playP l signed) ba
  have hsl:(playP l signed).signed.length=l.length:=hsg
  replace a4:=a4.mono l5
  replace A7:=A7.mono l5
  replace A11:=A11.mono l5
  replace hl4:=hl4.mono vR l5
  replace hs4:=hs4.mono zH l5
  replace oks:=oks.mono l5
  have hdr:=yk hck
  refine jw (it:=v5) (xs:=bS (playP l signed) ba) (ι:=fx×Obj×List (Int×Option Addr×Nat×Nat)×LH×HF) [] (λi=>i.2.2.2.2) (λi=>plB b5 b8 br i.1 i.2.1 i.2.2.2.1)
   (λrest i=>rest.foldl playStep i.1=cA l signed ba/\i.1.shelf=ay l/\i.1.signed=signed/\vW i.2.2.2.2 l.length b5 b8 br i.1 i.2.1 i.2.2.1 i.2.2.2.1/\h5.le i.2.2.2.2/\(∀x∈rest,0<=x/\x<(l.length:Int))/\(∀k,(mgetD i.1.revoked k []).length+16*rest.length<=320))
   (λ_=>False) (λ_=>False) 0 (λ_ _ _=>False) (playP l signed,.map #[] 0,[],[],h5) func57 rfl hit rfl CE (λ_ _ _ _ _ hq=>hq) rfl rfl
   ⟨rfl,rfl,rfl,⟨by simp[playP],by simp[playP],ia.nil,rfl⟩,jH _,λx hx=>hsl▸hord x hx,λk=>by show 0+16*_<=320;omega⟩ ?_ ?_ (λ_ _ _ hF=>hF.elim) (λ_ _ _ hF=>hF.elim) (λ_ _ _ _ hF=>hF.elim)
  .rintro Rn r1 lp1 x rest vs1 ⟨P,om,m3,Gf,hh⟩ h7 X' FR ⟨hfold,hsh,hsgd,hown,h5h,hin,hcnt⟩ h57 hh7 hv hX' hXM hlp nx rt ex pn
   dsimp only at hfold hsh hsgd hown h5h hin hcnt hh7
   obtain rfl:=hv
   have hPl:P.signed.length=l.length:=by rw[hsgd];exact hsg
   have hD:=FI l
   have hx0:=hin x (zB ..)
   have hx:0<=x/\x<((ay l).docs.length:Int):=by rw[hD];exact hx0
   have hxn:x.toNat<l.length:=by omega
   replace hown:=hown.mono hh7
   have oks7:=oks.mono h57
   have A7':=A7.mono h57
   have A11':=A11.mono h57
   have a4':=a4.mono h57
   have hs7:=hs4.mono zH h57
   have hpd:=hown.done
   have hpl:=hown.lacks
   clear hh7
   refine bu (aU zc3 (λbi=>cB 0 ty3 U U U U U U (aH ?_)))
   let zi:Nat×Obj:=(bi,O [I x] 3)
   let zl:Nat×Obj:=(Rn,.loop { lp1 with state:=.busy })
   let zr:Nat×Obj:=(r1,.deferred (some []))
   refine jx 1 U hlp (ll (cu (L':=[zi,zl,zr]++plB b5 b8 br P om Gf) (show[zi,zl,zr]++(plB b5 b8 br P om Gf++markB [])=_ from by simp[markB]) (dJ (eQ [zi] mixed kr jn (λhs4 _=>?_)))))
   refine tf 0 U U (rh ty112 A7' U) (tf 1 U U (λ_ _ _=>fR U) (qB [2,3] U (tf 4 U U (rh ty27 A11' U) (tf 5 U U (rj 0 ty3 U U U) (km 6 hs4 jn rC ty70 oks7.docs.1 hx (dy hx) U U U U kr (λq1 cs1 B1 ln1 rr1=>?_))))))
   obtain⟨dr,rfl,okd⟩:=rr1
   refine tf 7 U U (λ_ _ hj=>kU ty70 (B1.mono hj.1) U U) (tn 8 U (AD zc70 (λbd=>⟨jn,(tn 9 U (qm 0 ty70 U U U U U U ⟨jn,aN kr ?_⟩))⟩)))
   generalize hdd:nthI (ay l).docs x=d at okd B1
   let zd:Nat×Obj:=(bd,O (vQ d dr) 70)
   have hdP:nthI P.shelf.docs x=d:=by rw[hsh];exact hdd
   have hdl:d∈l:=by have h9:=lm hx;rw[hdd,hD]at h9;exact h9
   have hgd:=hdr d hdl
   show TT _ _ _ _ _ _ _ _ h7 ([zd,zi,zl,zr]++plB b5 b8 br P om Gf)
   refine dJ (eQ [zd,zi] mixed kr jn (λhs5 _=>?_))
   refine tf 0 U U (rh ty112 A7' U) (tf 1 U U (λ_ _ _=>fR U) (qB [2] U (tf 3 U U (rH 4 ty31 A11' U U) (tf 4 U U (rj 1 ty3 U U U) (tf 5 U U (λ_ _ _=>nX (R:=zC) (xs:=P.lacks) (bk:=b8) (z:=x) eG ty3 U ob U (by simp[playP,hpl]) U) (tn 6 U (kO 5 (off:=x.toNat*1) (vs:=[I (-1)]) ty3 U U U U (Nat.ble_eq_true_of_le (by simp only[List.length_map,zA,vB];omega)) U ⟨jn,aN kr (cu (L':=[zd,zi,zl,zr]++plB b5 b8 br { P with lacks:=P.lacks.set x.toNat (-1) } om Gf) (by rw[zc (xB .i64)];rfl) ?_)⟩)))))))
   have own1:vW h7 l.length b5 b8 br { P with lacks:=P.lacks.set x.toNat (-1) } om m3 Gf:=⟨hpd,by simpa using hpl,hown.map,hown.rev⟩
   refine qT 3 U (j7 HU U (n0 0 ty31 U U U (aw (cJ call109 (uR h7 d.Needs _ _ okd.Needs) U (λv8 h8 l8 hp8=>?_)))))
   obtain⟨rv8,rfl,hit8⟩:=hp8
   refine qO 2 U ?_
   refine Md (it:=v8) (xs:=ke d.Needs) 2 U (λdone h' L'=>h8.le h'/\vW h' l.length b5 b8 br (done.foldl (λq(z:Int×Int)=>playLack P.signed x q z.2) { P with lacks:=P.lacks.set x.toNat (-1) }) om m3 Gf/\L'=[zd,zi,zl,zr]++plB b5 b8 br (done.foldl (λq(z:Int×Int)=>playLack P.signed x q z.2) { P with lacks:=P.lacks.set x.toNat (-1) }) om Gf)
    rfl hit8 rfl Dk (λ_ _ _ _ hl⟨a,b,c⟩=>⟨qF a hl,b.mono hl,c⟩) ⟨jH _,own1.mono l8,rfl⟩ ?_ ?_
   .rintro l2 lp2 done z rest2 vs2 h9 L9 X9 hxs h89 ⟨h89',own2,rfl⟩ hv2 hlp2 hX9 hXM9
    obtain rfl:=hv2
    obtain⟨Pm,hPm⟩:∃Pm,Pm=done.foldl (λq(z:Int×Int)=>playLack P.signed x q z.2) { P with lacks:=P.lacks.set x.toNat (-1) }:=⟨_,rfl⟩
    have hPs:Pm.shelf=ay l/\Pm.signed=signed:=by
     rw[hPm]
     have:∀(s:List (Int×Int))(QD:fx),QD.shelf=ay l/\QD.signed=signed->(s.foldl (λq(z:Int×Int)=>playLack P.signed x q z.2) QD).shelf=ay l/\(s.foldl (λq(z:Int×Int)=>playLack P.signed x q z.2) QD).signed=signed:=by
      intro s
      induction s with
      |nil=>intro QD h;exact h
      |cons y s ih=>intro QD h;obtain⟨a1,a2,_⟩:=wS P.signed x y.2 QD;exact ih _ ⟨a1.trans h.1,a2.trans h.2⟩
     exact this _ _ ⟨hsh,hsgd⟩
    rw[←hPm]at own2
    have l79:h7.le h9:=qF l8 h89
    have A79:=A7'.mono l79
    have B79:=A11'.mono l79
    refine qT 3 U (jx 0 U hlp2 (ll ?_))
    rw[←hPm]
    refine cu (L':=[(l2,.loop { lp2 with state:=.busy }),zd,zi,zl,zr]++plB b5 b8 br Pm om Gf) U (dJ (eQ [zi] mixed kr jn (λhs8 _=>?_)))
    refine tf 0 U U (rh ty112 A79 U) (tf 1 U U (rh ty112 A79 U) (tf 2 U U (λ_ _ _=>fR U) (qB [3,4] U (tf 5 U U (rH 1 ty165 B79 U U) (tm 6 U (tf 8 U U (rh ty31 (a4'.mono l79) U) (tf 9 U U (rj 0 ty3 U U U) ?_)))))))
    have hxs:0<=x/\x<(signed.length:Int):=by omega
    refine fF 10 (enc:=λy=>[I y]) hs8 jn (λ_ _ _ e=>e) eG ty3 (hs7.mono zH l79).1 hxs (dy hxs) U U U U kr (λq3 B3=>?_)
    refine tf 11 U U (rh ty3 B3 U) ?_
    obtain⟨mo,hmb,hmm⟩:=(oks7.mono l79).at_
    refine tn 7 U (nN (k:=z.2) Al (dG kz) hmb hmm (e8 zv3) (show vo _ (I 0) 0 from U) U U (λv hv=>?_))
    obtain rfl:=hv
    refine⟨jn,?_⟩
    have hat:=IX l ob z.2
    refine tn 12 U (NK (v:=.tuple #[I (cX Pm (mgetD (ay l).at_ z.2 0) (nthI signed x)).1,I (cX Pm (mgetD (ay l).at_ z.2 0) (nthI signed x)).2]) call58 (λhz lz hall=>mG hz Pm (playR l.length sr0 ef dZ b5 b8 br) ⟨b11,0,none⟩ (mgetD (ay l).at_ z.2 0) (nthI signed x)
     (own2.lent hln (hPs.1▸oks7.mono l79) (hPs.2▸hs7.mono zH l79) lz (λp hp=>hall p (by simp only[xH,qC];exact .inr hp))) (by rw[Er hPs.1 hPs.2 own2.done own2.lacks];exact(A11'.mono l79).mono lz) (by rw[hPs.1,hD];exact hat) (by rw[hPs.1,hD];exact⟨own2.done,own2.lacks⟩)) rfl ⟨jn,?_⟩)
    refine qR 13 5 U (aN kr (qT 5 U ?_))
    have hlk:playLack P.signed x Pm z.2=bif(cX Pm (mgetD (ay l).at_ z.2 0) (nthI signed x)).1 != 0 then { Pm with lacks:=Pm.lacks.set x.toNat z.2 }else Pm:=by
     unfold playLack;rw[hPs.1,hsgd]
    have hnx:(done++[z]).foldl (λq(z:Int×Int)=>playLack P.signed x q z.2) { P with lacks:=P.lacks.set x.toNat (-1) }=playLack P.signed x Pm z.2:=by rw[List.foldl_append,hPm];rfl
    refine jf U (λc1=>?_) (λc1=>qT 2 U ?_)
    .refine eQ [zi] mixed kr jn (λhs9 _=>?_)
     refine tf 0 U U (rh ty112 A79 U) (tf 1 U U (λ_ _ _=>fR U) (qB [2] U (tf 3 U U (rH 4 ty31 B79 U U) (tf 4 U U (rj 0 ty3 U U U) (tm 5 U ?_)))))
     have hml:=own2.lacks
     refine tf 6 U U (λ_ _ _=>nX (R:=zC) (xs:=Pm.lacks) (bk:=b8) (z:=x) eG ty3 U ob U (by simp[playP,hml]) U) (tn 7 U (kO 6 (off:=x.toNat*1) (vs:=[I z.2]) ty3 U U U U (Nat.ble_eq_true_of_le (by simp only[List.length_map,zA,vB];omega)) U ⟨jn,aN kr (eB ?_)⟩))
     rw[c1,cond_true]at hlk
     refine cu (L':=(l2,.loop { lp2 with state:=.busy })::([zd,zi,zl,zr]++plB b5 b8 br { Pm with lacks:=Pm.lacks.set x.toNat z.2 } om Gf)) (by rw[zc (xB .i64)];rfl) ?_
     refine Lq U ⟨h89',?_,?_⟩
     .rw[hnx,hlk];exact⟨own2.done,by simpa using hml,own2.map,own2.rev⟩
     rw[hnx,hlk]
    rw[c1,cond_false]at hlk
    refine Lq U ⟨h89',?_,?_⟩
    .rw[hnx,hlk];exact own2
    rw[hnx,hlk];rfl
   rintro h9 L9 h89 ⟨h89',own2,rfl⟩
   obtain⟨Pm,hPm⟩:∃Pm,Pm=(ke d.Needs).foldl (λq(z:Int×Int)=>playLack P.signed x q z.2) { P with lacks:=P.lacks.set x.toNat (-1) }:=⟨_,rfl⟩
   rw[←hPm]at own2
   rw[←hPm]
   have hPs:Pm.shelf=ay l/\Pm.signed=signed/\Pm.revoked=P.revoked:=by
    rw[hPm]
    have:∀(s:List (Int×Int))(QD:fx),QD.shelf=ay l/\QD.signed=signed/\QD.revoked=P.revoked->(s.foldl (λq(z:Int×Int)=>playLack P.signed x q z.2) QD).shelf=ay l/\(s.foldl (λq(z:Int×Int)=>playLack P.signed x q z.2) QD).signed=signed/\(s.foldl (λq(z:Int×Int)=>playLack P.signed x q z.2) QD).revoked=P.revoked:=by
     intro s
     induction s with
     |nil=>intro QD h;exact h
     |cons y s ih=>intro QD h;obtain⟨a1,a2,_,_,a5⟩:=wS P.signed x y.2 QD;exact ih _ ⟨a1.trans h.1,a2.trans h.2.1,a5.trans h.2.2⟩
    exact this _ _ ⟨hsh,hsgd,U⟩
   have hmid:playMid P x=Pm:=by unfold playMid;rw[hdP];exact hPm.symm
   have hstep:playStep P x=bif decide (nthI Pm.lacks x<0)then d.Revokes.foldl (playRevoke d) (playDone Pm x)else playDone Pm x:=by
    unfold playStep;rw[hmid,hdP]
   have l79:h7.le h9:=qF l8 h89
   have A79:=A7'.mono l79
   have B79:=A11'.mono l79
   have hmd:=own2.done
   have hml:=own2.lacks
   refine qT 2 U (eQ [zd,zi] mixed kr jn (λhs11 _=>?_))
   refine tf 0 U U (rh ty112 A79 U) (tf 1 U U (λ_ _ _=>fR U) (qB [2] U (tf 3 U U (rH 3 ty129 B79 U U) (tf 4 U U (rj 1 ty3 U U U) (tf 5 U U (λ_ _ _=>nX (R:=Rp.bool) (xs:=Pm.done) (bk:=b5) (z:=x) yD ty4 U ob U (by simp[playP,hmd]) U) (tn 6 U (kO 4 (off:=x.toNat*1) (vs:=[.bool true]) ty4 U U U U (Nat.ble_eq_true_of_le (by simp only[List.length_map,zA,vB];omega)) U ⟨jn,aN kr (cu (L':=[zd,zi,zl,zr]++plB b5 b8 br (playDone Pm x) om Gf) (by rw[zc Sl];rfl) ?_)⟩)))))))
   have own3:vW h9 l.length b5 b8 br (playDone Pm x) om m3 Gf:=⟨by simpa[playDone]using hmd,hml,own2.map,own2.rev⟩
   have JB:∀{A:LH},Jst h9 [zi,(b8,.cells (Pm.lacks.map (xB .i64)).toArray 3 (0,0))] h9 ([zd,zi,zl,zr]++plB b5 b8 br (playDone Pm x) om A):=⟨jH _,λp hp=>by
    simp only[qC,jA,or_false]at hp
    rcases hp with rfl|rfl<;>simp[plB,playDone]⟩
   refine dJ (eQ [zi,(b8,.cells (Pm.lacks.map (xB .i64)).toArray 3 (0,0))] mixed kr JB (λhs12 _=>?_))
   refine jk 0 hs12 JB U U kr U (rh ty112 A79 U) (jk 1 hs12 JB U U kr U (λ_ _ _=>fR U) (jk 2 hs12 JB U U kr U (λ_ _ _=>tA Oz U) (jk 3 hs12 JB U U kr U (rH 4 ty31 B79 U U) (jk 4 hs12 JB U U kr U (rj 0 ty3 U U U) (jk 5 hs12 JB U U kr U (λ_ _ _=>nX (R:=zC) (xs:=Pm.lacks) (bk:=b8) (z:=x) eG ty3 U ob U (by simp[playP,hml]) U) ?_)))))
   have hlx:(Pm.lacks.map (xB .i64))[x.toNat*1]? = some (I (nthI Pm.lacks x)):=by
    rw[Nat.mul_one,List.getElem?_map,dy ob];rfl
   refine jk 6 hs12 JB U U kr U (λ_ _ hj=>wO ty3 U (hj.nth (i:=1) U) (by rw[hZ];exact hlx)) (jk 7 hs12 JB U U kr U (λ_ _ _=>NU U) (aN kr ?_))
   have hin':∀y∈rest,0<=y/\y<(l.length:Int):=λy hy=>hin y (vA _ hy)
   have h59:h5.le h9:=qF h57 l79
   refine jf U (λc1=>?_) (λc1=>qT 2 U ?_)
   .rw[c1,cond_true]at hstep
    have hrl:=hgd.revokes.2
    refine sr (j7 PI U (n0 0 ty31 U U U (Lv eG U (qO 2 U ?_))))
    have hfin:∀(QD:fx)(oQ:Obj)(mQ:List (Int×Option Addr×Nat×Nat))(GQ:LH)(e':Env),QD=d.Revokes.foldl (playRevoke d) (playDone Pm x)->vW h9 l.length b5 b8 br QD oQ mQ GQ->QD.shelf=ay l->QD.signed=signed->(∀k,(mgetD QD.revoked k []).length<=(mgetD P.revoked k []).length+d.Revokes.length) ->
      TT prog (roundFrame Rn 57) 114 [.inBlock 1] FR e' [] X' h9 ([zd,zi,zl,zr]++plB b5 b8 br QD oQ GQ):=by
     intro QD oQ mQ GQ e' hQ ownQ hQs hQg hQc
     refine eB (bj (L':=[zl,zr]++plB b5 b8 br QD oQ GQ) js (cu (L':=rdH Rn r1 lp1 (plB b5 b8 br QD oQ GQ++markB [])) (by simp[markB,rdH,zl,zr]) ?_))
     refine nx (QD,oQ,mQ,GQ,h9) _ _ ⟨?_,hQs,hQg,ownQ,h59,hin',λk=>?_⟩ lf
     .rw[←hfold,List.foldl_cons,hstep,hQ]
     have h1':=hcnt k
     have h2':=hQc k
     simp only[zA]at h1'
     show(mgetD QD.revoked k []).length+16*rest.length<=320
     omega
    refine iA (ι:=fx×Obj×List (Int×Option Addr×Nat×Nat)×LH) (λi=>[]) (λi=>h9) (λi=>[zd,zi,zl,zr]++plB b5 b8 br i.1 i.2.1 i.2.2.2)
     (λi=>i.1=d.Revokes.foldl (playRevoke d) (playDone Pm x)/\vW h9 l.length b5 b8 br i.1 i.2.1 i.2.2.1 i.2.2.2/\i.1.shelf=ay l/\i.1.signed=signed/\∀k,(mgetD i.1.revoked k []).length<=(mgetD P.revoked k []).length+d.Revokes.length) ?_ (λhx4=>?_)
    .rintro⟨QD,oQ,mQ,GQ⟩ ⟨q1,q2,q3,q4,q5⟩ e4
     exact hfin QD oQ mQ GQ _ q1 q2 q3 q4 q5
    refine kl (ι:=Nat×fx×Obj×List (Int×Option Addr×Nat×Nat)×LH) (λi=>[(7,Q b12),(9,Q bd),(91,.slice dr.oV d.Revokes.length dr.oU),(92,I (d.Revokes.length:Int)),(93,I (i.1:Int))]) (λi=>h9)
     (λi=>[zd,zi,zl,zr]++plB b5 b8 br i.2.1 i.2.2.1 i.2.2.2.2)
     (λi=>(d.Revokes.drop i.1).foldl (playRevoke d) i.2.1=d.Revokes.foldl (playRevoke d) (playDone Pm x)/\i.1<=d.Revokes.length/\vW h9 l.length b5 b8 br i.2.1 i.2.2.1 i.2.2.2.1 i.2.2.2.2/\i.2.1.shelf=ay l/\i.2.1.signed=signed/\∀k,(mgetD i.2.1.revoked k []).length<=(mgetD P.revoked k []).length+i.1)
     (λi=>d.Revokes.length-i.1) (0,playDone Pm x,om,m3,Gf) rd (λw hw=>hw) ⟨rfl,vM _,own3,hPs.1,hPs.2.1,λk=>by show(mgetD Pm.revoked k []).length<=_;rw[hPs.2.2];omega⟩ ?_
    rintro⟨i,QD,oQ,mQ,GQ⟩ ⟨hfQ,hiQ,ownQ,hQs,hQg,hQc⟩ ag e5
    dsimp only at hfQ hiQ ownQ hQs hQg hQc
    show TT _ _ _ _ _ (upds e5 [(7,Q b12),(9,Q bd),(91,.slice dr.oV d.Revokes.length dr.oU),(92,I (d.Revokes.length:Int)),(93,I (i:Int))]) _ _ h9 ([zd,zi,zl,zr]++plB b5 b8 br QD oQ GQ)
    rcases vK i d.Revokes.length with hi|hi
    .have hgi:d.Revokes[i]? = some d.Revokes[i]:=vF hi
     obtain⟨y,hy⟩:∃y,d.Revokes[i]=y:=⟨_,rfl⟩
     rw[hy]at hgi
     have hdrop:d.Revokes.drop i=y::d.Revokes.drop (i+1):=by rw[List.drop_eq_getElem_cons hi,hy]
     rw[hdrop,List.foldl_cons]at hfQ
     obtain⟨gb,gc,G1,G2,hget,hgrow,hperm,hput⟩:=ownQ.rev.get y
     have hcy:=hQc y
     have hcP:=hcnt y
     refine sr (tO (decide_eq_true ob) U (qO 8 U (aw (oY (enc:=λy=>[I y]) (λ_ _ _ e=>e) eG ty3 (okd.Revokes.mono zH l79).1 (nthZ hgi) (fV hgi) U U U (λq6 B6=>?_)))))
     refine de ty3 B6 U (an (eQ [zd] mixed kr jn (λhs16 _=>?_)))
     refine tf 0 U U (rh ty112 A79 U) (tf 1 U U (λ_ _ _=>fR U) (qB [2] U (tf 3 U U (rH 5 ty169 B79 U U) (tm 4 U (tf 5 U U (rh ty112 A79 U) (tf 6 U U (λ_ _ _=>fR U) (qB [7] U (tf 8 U U (rH 5 ty169 B79 U U) (qB [9,11] U (tf 12 U U (rj 0 ty3 U U U) ?_))))))))))
     refine mO 10 13 kr U U ?_ ?_
     .refine qn 6 (k:=y) Ig (dG kz) U ownQ.map (e8 zv31) (show V3i _ (.slice none 0 0) (none,0,0)from U) U U (λv hv=>?_)
      rw[hget]at hv
      obtain rfl:=hv
      refine⟨jn,(tn 13 U (bB (cells:=[I d.No]) eG ty3 zc3 U U kr (λbn=>⟨jn,?_⟩)))⟩
      let zn:Nat×Obj:=(bn,O [I d.No] 3)
      let z5:Nat×Obj:=(b5,O (QD.done.map Sl) 4)
      refine tn 14 U (D0 (List.Perm.append_left ([zn,zd,zi,zl,zr,z5,(b8,.cells (QD.lacks.map (xB .i64)).toArray 3 (0,0)),(br,oQ)]:LH) hperm) (eo Rp.kZ [zn,zd,zi,zl,zr,z5,(b8,.cells (QD.lacks.map (xB .i64)).toArray 3 (0,0)),(br,oQ)] G2 (λG=>[zn,zd,zi,zl,zr,z5,(b8,.cells (QD.lacks.map (xB .i64)).toArray 3 (0,0)),(br,oQ)]++(G2++G)) U (λ_=>U) eG ty3 zc3 U bytes3 hgrow U U (fd 0 U (show bP zC h9 [I d.No] [d.No]from⟨[I d.No],[],U,U,U,U⟩)) (by simp only[zA,vB]at *;omega) (by simp only[zA,vB]at *;omega) (λgb' gc' G1' hG'=>⟨jn,?_⟩)))
      refine tn 15 U (iZ 7 (k:=y) (x:=(gb',(mgetD QD.revoked y []++[d.No]).length,gc')) Ig (dG kz) U ownQ.map U U U (λoR hmR=>⟨jn,aN kr ?_⟩))
      obtain⟨G',hfr',hp'⟩:=hput gb' gc' _ G1' hG'
      refine qT 2 U (oi i U (qO 2 U (cu (L':=[zn,zd,zi,zl,zr,z5,(b8,.cells (QD.lacks.map (λv=>xB .i64 v)).toArray 3 (0,0)),(br,oR)]++(G2++G1')) U ?_)))
      exact oo (L':=zn::([zd,zi,zl,zr]++plB b5 b8 br (playRevoke d QD y) oR G')) (List.Perm.append_left [_,_,_,_,_,_,_,_] (List.perm_append_comm.trans hp'.symm)) (bj (L':=[zd,zi,zl,zr]++plB b5 b8 br (playRevoke d QD y) oR G') js (ag (i+1,playRevoke d QD y,oR,mput mQ y (gb',(mgetD QD.revoked y []++[d.No]).length,gc'),G') _ (by show d.Revokes.length-(i+1)<d.Revokes.length-i;omega) ⟨hfQ,hi,⟨ownQ.done,ownQ.lacks,hmR,hfr'⟩,hQs,hQg,AF hQc⟩ rd))
     refine bB (cells:=[I d.No]) eG ty3 zc3 U U kr (λbn=>⟨jn,?_⟩)
     let zn:Nat×Obj:=(bn,O [I d.No] 3)
     let z5:Nat×Obj:=(b5,O (QD.done.map Sl) 4)
     refine tn 10 U (qn 7 (k:=y) Ig (dG kz) U ownQ.map (e8 zv31) (show V3i _ (.slice none 0 0) (none,0,0)from U) U U (λv hv=>?_))
     rw[hget]at hv
     obtain rfl:=hv
     refine⟨jn,(tn 14 U (D0 (List.Perm.append_left ([zn,zd,zi,zl,zr,z5,(b8,.cells (QD.lacks.map (xB .i64)).toArray 3 (0,0)),(br,oQ)]:LH) hperm) (eo Rp.kZ [zn,zd,zi,zl,zr,z5,(b8,.cells (QD.lacks.map (xB .i64)).toArray 3 (0,0)),(br,oQ)] G2 (λG=>[zn,zd,zi,zl,zr,z5,(b8,.cells (QD.lacks.map (xB .i64)).toArray 3 (0,0)),(br,oQ)]++(G2++G)) U (λ_=>U) eG ty3 zc3 U bytes3 hgrow U U (fd 0 U (show bP zC h9 [I d.No] [d.No]from⟨[I d.No],[],U,U,U,U⟩)) (by simp only[zA,vB]at *;omega) (by simp only[zA,vB]at *;omega) (λgb' gc' G1' hG'=>⟨jn,?_⟩))))⟩
     refine tn 15 U (iZ 7 (k:=y) (x:=(gb',(mgetD QD.revoked y []++[d.No]).length,gc')) Ig (dG kz) U ownQ.map U U U (λoR hmR=>⟨jn,aN kr ?_⟩))
     obtain⟨G',hfr',hp'⟩:=hput gb' gc' _ G1' hG'
     refine qT 2 U (oi i U (qO 2 U (cu (L':=[zn,zd,zi,zl,zr,z5,(b8,.cells (QD.lacks.map (λv=>xB .i64 v)).toArray 3 (0,0)),(br,oR)]++(G2++G1')) U ?_)))
     exact oo (L':=zn::([zd,zi,zl,zr]++plB b5 b8 br (playRevoke d QD y) oR G')) (List.Perm.append_left [_,_,_,_,_,_,_,_] (List.perm_append_comm.trans hp'.symm)) (bj (L':=[zd,zi,zl,zr]++plB b5 b8 br (playRevoke d QD y) oR G') js (ag (i+1,playRevoke d QD y,oR,mput mQ y (gb',(mgetD QD.revoked y []++[d.No]).length,gc'),G') _ (by show d.Revokes.length-(i+1)<d.Revokes.length-i;omega) ⟨hfQ,hi,⟨ownQ.done,ownQ.lacks,hmR,hfr'⟩,hQs,hQg,AF hQc⟩ rd))
    refine sr (fO (decide_eq_false ob) U (qO 4 U ?_))
    have hie:i=d.Revokes.length:=by omega
    refine hx4 (QD,oQ,mQ,GQ) _ ⟨?_,ownQ,hQs,hQg,λk=>?_⟩ trivial
    .rw[hie,List.drop_length]at hfQ;exact hfQ
    have:=hQc k;show(mgetD QD.revoked k []).length<=_;omega
   rw[c1,cond_false]at hstep
   refine bj (L':=[zl,zr]++plB b5 b8 br (playDone Pm x) om Gf) js (cu (L':=rdH Rn r1 lp1 (plB b5 b8 br (playDone Pm x) om Gf++markB [])) (by simp[markB,rdH,zl,zr]) ?_)
   refine nx (playDone Pm x,om,m3,Gf,h9) _ _ ⟨?_,hPs.1,hPs.2.1,own3,h59,hin',λk=>?_⟩ lf
   .rw[←hfold,List.foldl_cons,hstep]
   have:=hcnt k
   simp only[zA]at this
   show(mgetD Pm.revoked k []).length+16*rest.length<=320
   rw[hPs.2.2];omega
  rintro r1 ⟨P,om,m3,Gf,hh⟩ h7 ⟨hfold,hsh,hsgd,hown,h5h,hin,hcnt⟩ hh7 h57
  dsimp only at hfold hsh hsgd hown h5h hin hcnt hh7
  replace hown:=hown.mono hh7
  have hPl:P.signed.length=l.length:=by rw[hsgd];exact hsg
  refine qT 3 U (de ty112 (A7.mono h57) U (an (DL [] (plB b5 b8 br P om Gf) (markB [r1]) U hM (λh8 l8 hG=>?_))))
  have hP:P=cA l signed ba:=hfold
  have okP:=hown.lent (sq:=sr0) (sb:=ef) (sc:=dZ) hln (hsh▸oks.mono h57) (hsgd▸hs4.mono zH h57) l8 hG
  exact oX [r1] [Q b11] func57 U rd ⟨⟨b11,0,none⟩,playR l.length sr0 ef dZ b5 b8 br,U,hP▸okP,by
   rw[←hP,Er hsh hsgd hown.done hown.lacks];exact A11.mono (qF h57 l8)⟩
 rintro⟨a,b,c,d,f,g,t⟩ e2 h2 L2 hI hμ
 dsimp only at hI hμ ⊢
 have hv:=hI.1
 refine Pa (plN a b c d f g t) ?_ ?_ (λi hi o ho=>?_)
 .clear hI hμ
  revert hv
  cases a<;>cases b<;>cases c<;>cases d<;>cases f<;>cases g<;>cases t<;>intro hv<;>first|exact absurd hv (by decide)|kernel_rfl
 .clear hI
  revert hv hμ
  cases a<;>cases b<;>cases c<;>cases d<;>cases f<;>cases g<;>cases t<;>intro hμ hv<;>first|exact absurd hv (by decide)|exact absurd rfl hμ|decide
 rcases Ps hi with⟨rfl,rfl⟩|⟨rfl,rfl⟩|⟨rfl,rfl⟩|⟨rfl,rfl⟩|⟨rfl,ha,rfl⟩|⟨rfl,rfl,rfl⟩|⟨rfl,rfl⟩|⟨rfl,rfl,rfl,rfl,rfl,rfl,rfl⟩
 .obtain rfl:=xT (show some _=some o from ho)
  exact T1 (λ_ _ _ q=>⟨q.1,(true,b,c,d,f,g,t),by simp only[plM,cond_true,cond_false];omega,pmid (pmid (pmid (pmid (pmid (pmid (List.Perm.refl _)))))),q.2⟩) (Rs (hl.mono vR l1) hI)
 .obtain rfl:=xT (show some _=some o from ho)
  exact T1 (λ_ _ _ q=>⟨q.1,(a,true,c,d,f,g,t),by simp only[plM,cond_true,cond_false];omega,pmid (pmid (pmid (pmid (pmid (List.Perm.refl _))))),q.2⟩) (Rr hln hI)
 .obtain rfl:=xT (show some _=some o from ho)
  exact T1 (λ_ _ _ q=>⟨q.1,(a,b,true,d,f,g,t),by simp only[plM,cond_true,cond_false];omega,pmid (pmid (pmid (pmid (List.Perm.refl _)))),q.2⟩) (Rq hln hI)
 .obtain rfl:=xT (show some _=some o from ho)
  exact T1 (λ_ _ _ q=>⟨q.1,(a,b,c,true,f,g,t),by simp only[plM,cond_true,cond_false];omega,pmid (pmid (pmid (List.Perm.refl _))),q.2⟩) (Ro hI)
 .obtain rfl:=xT (show some _=some o from ho)
  exact T1 (λ_ _ _ q=>⟨q.1,(a,b,c,d,f,true,t),by simp only[plM,cond_true,cond_false];omega,pmid (List.Perm.refl _),q.2⟩) (Q6 ha hI)
 .obtain rfl:=xT (show some _=some o from ho)
  exact T1 (λ_ _ _ q=>⟨q.1,(a,b,c,d,f,true,true),by simp only[plM,cond_true,cond_false],List.Perm.refl _,q.2⟩) (Q5 hI)
 .obtain rfl:=xT (show some _=some o from ho)
  exact T1 (λ_ _ _ q=>⟨q.1,(a,b,c,d,true,g,t),by simp only[plM,cond_true,cond_false];omega,pmid (pmid (List.Perm.refl _)),q.2⟩) (Q4 hI)
 exact absurd U hμ
theorem qZ(h:HF)(l:List Document)(fq:Option Addr)(fp:Nat)(signed:List Int)(ef:Option Addr)(dZ:Nat)(ba:Int)(hl:SlC RV h fq fp l)(hsigned:SlC zC h ef dZ signed)(hln:l.length<20):jY prog 20 [.slice fq l.length fp,.slice ef signed.length dZ,I ba] h (λv h'=>∃(rb0:Option Addr)(rc0:Nat),v=.tuple #[.slice rb0 ((bW l signed ba).1).length rc0,I ((bW l signed ba).2)]/\SlC zC h' rb0 rc0 ((bW l signed ba).1)):=by
 refine sT func20 U ntmps20 U λX hM hX hF=>?_
 have hs0:=@rfl _ (bW l signed ba)
 refine qT 9 U (ai call53 (oH _ _ _ _ hl) U (qO 7 U (ae hs0 U (λc1 hs1=>?_) (λc1 hs2=>?_))))
 .refine qT 6 U ?_
  have hs3:bW l signed ba=([],(bz l)):=hs1
  exact nretH [.slice none 0 0,I (bz l)] (hs3▸⟨none,0,U,zF⟩)
 refine qT 6 U (ai call55 (pO _ _ _ _ _ _ _ hl hsigned) U (qO 2 U (cn 4 [23,24,25,26,27] 23 27 (!(gm ba)) U (λc2 hk1=>?_) (λe=>?_))))
 .exact ao (ai M9 (nl h ba) U (qO 2 U (hk1 _ U)))
 refine aH (ae hs2 U (λc3 hs4=>?_) (λc3 hs5=>?_))
 .refine qT 5 U ?_
  have hs6:bW l signed ba=([],1):=hs4
  exact nretH [.slice none 0 0,I 1] (hs6▸⟨none,0,U,zF⟩)
 refine qT 6 U (aw (cJ call57 (rA _ _ _ _ _ _ _ ba hl hsigned (by simpa using c1) (Au ob) hln) U (λv1 h1 hle1 hp1=>?_)))
 obtain⟨q1,rr1,rfl,ok1,A1⟩:=hp1
 refine qL 9 [] U ?_
 refine lp2 l (λi w=>[(2,I ba),(6,.slice w.2.1 w.1.length w.2.2.1),(9,.pointer (some q1)),(32,.slice fq l.length fp),(33,I (l.length:Int)),(34,I (i:Int))]) (λ_=>h1) (λw=>w.2.2.2) (λi w=>dA zC 3 h1 w.1 w.2.1 w.2.2.1 w.2.2.2/\w.1.length<=0+i) (λs1 i w=>(bW.L1 l signed ba (bW.K1)) s1 i w.1) ([],none,0,[]) ((hl.mono vR hle1).1.1) hs5 ⟨dA.nil,lo⟩ ?_ ?_
 .rintro i1 ⟨nn,Ba,AZ,CP⟩ fB hs7 ⟨vz,E5⟩ e
  try dsimp only at vz E5
  refine qT 6 U (fW zH ([]) CP ([]) ap hM vz (λh3 hle3 sl2=>?_))
  have hs8:bW l signed ba=(nn,0):=hs7
  exact nretH [.slice Ba nn.length AZ,I 0] (hs8▸⟨Ba,AZ,U,sl2⟩)
 rintro i1 ⟨nn,Ba,AZ,CP⟩ y1 rz1 hd1 du bo eA gD hs9 ⟨vz,E5⟩ hx1 ag1 e
 try dsimp only at vz E5
 refine sr (tO du U (qO 9 U (aw (iR rC ty70 (hl.mono vR hle1).1 bo U U U (λ_ _ _ e=>e) (λq3 r2 A3 ok3=>dl ty70 A3 U U (aU zc70 (λb3=>fU (aR 0 ty70 U U U U U U (gS (L':=[(b3,O (vQ y1 r2) 70)]++(CP)) U (qO 6 U (ai call58 (mG h1 (cA l signed ba) rr1 q1 (i1:Int) ba ok1 A1 (by first|exact Gs ob|(rw[tC];omega)) (Cy _ _ _)) U (qO 11 U (ae hs9 U (λc5 hs10=>?_) (λc5 hs11=>?_))))))))))))))
 .exact qK 4 [0] U (aw (bB (cells:=[I y1.No]) eG ty3 zc3 U U kr (λb4=>aw (eo Rp.kZ ([(b4,O [I y1.No] 3),(b3,O (vQ y1 r2) 70)]) ([]) (λG=>[(b4,O [I y1.No] 3),(b3,O (vQ y1 r2) 70)]++G) ap (λ_=>ap) eG ty3 zc3 U bytes3 vz U U (fd 0 U (cE (y1.No) U U)) lo lo (λob2 oc2 G2 gr2=>qO 4 U (oi i1 U (qO 2 U (bj (L':=G2) js (ag1 ((nn++[y1.No]),ob2,oc2,G2) hs10 ⟨gr2,lo⟩)))))))))
 exact aQ (qT 2 U (oi i1 U (qO 2 U (bj (L':=CP) js (ag1 (nn,Ba,AZ,CP) hs11 ⟨vz,lo⟩)))))
theorem Dp(h:HF)(u:List Use)(BC:Option Addr)(BB:Nat)(hu:SlC Use.rp h BC BB u):Ret prog 59 [.slice BC u.length BB] h (.bool (ka u)):=by
 refine sT func59 U ntmps59 U λX hM hX hF=>?_
 have hs0:=@rfl _ (ka u)
 refine qT 6 U (aw (na (λb1=>qL 9 [] U ?_)))
 refine lp2 u (λi w=>[(3,.map (some b1)),(7,.slice BC u.length BB),(8,I (u.length:Int)),(9,I (i:Int))]) (λ_=>h) (λw=>[(b1,w.2)]) (λi w=>ia (xB .i64) j0 h w.2 w.1/\w.1.length<=0+i) (λs1 i w=>(ka.L1 (ka.K1)) s1 w.1) ([],.map #[] 0) hu.1.1 hs0 ⟨(ia.nil (enc:=(xB .i64)) (V:=j0) (h:=h)),lc⟩ ?_ ?_
 .rintro i1 ⟨bC,gY⟩ fB hs1 ⟨fK,nH⟩ e
  exact sr (an (nretP [.bool true] (cs hs1)))
 rintro i1 ⟨bC,gY⟩ y1 rz1 hd1 du bo eA gD hs3 ⟨fK,nH⟩ hx1 ag1 e
 refine sr (tO du U (qO 8 U (aw (iF Uz Qf ty178 hu.1 bo U U U (λq2 A2=>dl ty178 A2 U U (aU zc178 (λb4=>aR 0 ty178 U U U U U U (qL 7 [0] U (aw (qn 1 (k:=y1.Doc) rf (dG kz) U fK (e8 zv4) (show j0 _ (.bool false) false from U) U U (λv2 hv2=>?_)))))))))))
 obtain rfl:=hv2
 refine ao (cn 6 [17,18,19,20,21,22,23] 17 23 (!(aW 0 4095 ([y1.Doc]))) U (λc1 hk1=>?_) (λe=>?_))
 .refine qL 2 [0] U (aw (bB (cells:=[I y1.Doc]) eG ty3 zc3 U U kr (λb5=>aP 0 U hM (λh2 hle2 hb2=>?_))))
  have sl2:SlC zC h2 (some ⟨b5,0,none⟩) 1 ([y1.Doc]):=bP.slB0 (T:=3) (fz:=(0,0)) ((show bP zC h [I y1.Doc] ([y1.Doc])from⟨[I y1.Doc],[],rfl,rfl,rfl,rfl⟩).mono zH hle2) hb2
  exact ai vY (dP _ 0 4095 _ _ _ sl2) U (qO 2 U (kI (h:=h) hle2 hX lf (hk1 _ U)))
 refine ao (cn 6 [24,25,26,27,28,29,30] 24 30 (!(aW 0 15 ([y1.Kind]))) U (λc2 hk2=>?_) (λe=>?_))
 .refine qL 2 [0] U (aw (bB (cells:=[I y1.Kind]) eG ty3 zc3 U U kr (λb6=>aP 0 U hM (λh3 hle3 hb3=>?_))))
  have sl3:SlC zC h3 (some ⟨b6,0,none⟩) 1 ([y1.Kind]):=bP.slB0 (T:=3) (fz:=(0,0)) ((show bP zC h [I y1.Kind] ([y1.Kind])from⟨[I y1.Kind],[],rfl,rfl,rfl,rfl⟩).mono zH hle3) hb3
  exact ai vY (dP _ 0 15 _ _ _ sl3) U (qO 2 U (kI (h:=h) hle3 hX lf (hk2 _ U)))
 refine ao (cn 6 [31,32,33,34,35,36,37] 31 37 (!(aW 0 1099511627776 ([y1.Value]))) U (λc3 hk3=>?_) (λe=>?_))
 .refine qL 2 [0] U (aw (bB (cells:=[I y1.Value]) eG ty3 zc3 U U kr (λb7=>aP 0 U hM (λh4 hle4 hb4=>?_))))
  have sl4:SlC zC h4 (some ⟨b7,0,none⟩) 1 ([y1.Value]):=bP.slB0 (T:=3) (fz:=(0,0)) ((show bP zC h [I y1.Value] ([y1.Value])from⟨[I y1.Value],[],rfl,rfl,rfl,rfl⟩).mono zH hle4) hb4
  exact ai vY (dP _ 0 1099511627776 _ _ _ sl4) U (qO 2 U (kI (h:=h) hle4 hX lf (hk3 _ U)))
 refine ao (cn 8 [38,39,40,41,42,43,44,45,46] 38 46 (!(aW 0 1099511627775 ([y1.At,y1.Known]))) U (λc4 hk4=>?_) (λe=>?_))
 .refine qL 4 [0,0] U (aw (bB (cells:=[I y1.At,I y1.Known]) eG ty3 zc3 U U kr (λb8=>aP 0 U hM (λh5 hle5 hb5=>?_))))
  have sl5:SlC zC h5 (some ⟨b8,0,none⟩) 2 ([y1.At,y1.Known]):=bP.slB0 (T:=3) (fz:=(0,0)) ((show bP zC h [I y1.At,I y1.Known] ([y1.At,y1.Known])from⟨[I y1.At],[I y1.Known],rfl,rfl,rfl,⟨[I y1.Known],[],rfl,rfl,rfl,rfl⟩⟩).mono zH hle5) hb5
  exact ai vY (dP _ 0 1099511627775 _ _ _ sl5) U (qO 2 U (kI (h:=h) hle5 hX lf (hk4 _ U)))
 refine aH (ae hs3 U (λc5 hs4=>?_) (λc5 hs5=>?_))
 .exact sr (an (nretP [.bool false] (cs hs4)))
 exact qK 5 [0] U (aw (iZ 1 (k:=y1.Doc) (x:=true) rf (dG kz) U fK U U U (λmo1 hm1=>qO 3 U (oi i1 U (qO 2 U (bj (L':=[(b1,mo1)]) js (ag1 ((mput bC y1.Doc true),mo1) hs5 ⟨hm1,(by have:=gy bC y1.Doc true;first|omega|(simp only[vB,zA]at *;omega))⟩)))))))
theorem yC(h:HF)(l:List Budget)(fq:Option Addr)(fp:Nat)(kind:Int)(ba:Int)(known:Int)(hl:SlC S2 h fq fp l)(hsz0:l.length<=2000000):jY prog 61 [.slice fq l.length fp,I kind,I ba,I known] h (λv h'=>∃(rb0:Option Addr)(rc0:Nat),v=.slice rb0 (bV l kind ba known).length rc0/\SlC S2 h' rb0 rc0 (bV l kind ba known)):=by
 refine sT func61 U ntmps61 U λX hM hX hF=>?_
 have hs0:=@rfl _ (bV l kind ba known)
 refine qT 6 U (aw (na (λb1=>qL 9 [] U ?_)))
 refine lp2 l (λi w=>[(0,.slice fq l.length fp),(1,I kind),(2,I ba),(3,I known),(8,.slice none 0 0),(9,.map (some b1)),(18,.slice fq l.length fp),(19,I (l.length:Int)),(20,I (i:Int))]) (λ_=>h) (λw=>[(b1,w.2)]) (λi w=>ia gC.enc (iY S2) h w.2 w.1/\w.1.length<=0+i) (λs1 i w=>(bV.L1 kind ba known (bV.K1 l)) s1 w.1) ([],.map #[] 0) hl.1.1 hs0 ⟨(ia.nil (enc:=gC.enc) (V:=(iY S2)) (h:=h)),lc⟩ ?_ ?_
 .rintro i1 ⟨bC,gY⟩ fB hs1 ⟨fK,nH⟩ e
  try dsimp only at fK nH
  refine qK 7 [] U ?_
  refine lp2 l (λi w=>[(8,.slice w.2.1 w.1.length w.2.2.1),(9,.map (some b1)),(69,.slice fq l.length fp),(70,I (l.length:Int)),(71,I (i:Int))]) (λ_=>h) (λw=>[(b1,gY)]++(w.2.2.2)) (λi w=>dA S2 120 h w.1 w.2.1 w.2.2.1 w.2.2.2/\w.1.length<=0+i) (λs2 i w=>(bV.L2 bC (bV.K2)) s2 w.1) ([],none,0,[]) hl.1.1 hs1 ⟨dA.nil,lo⟩ ?_ ?_
  .rintro i2 ⟨rn,xl,xk,yT⟩ BZ hs2 ⟨vy,EZ⟩ e
   try dsimp only at vy EZ
   refine qT 5 U (fW Ug ([(b1,gY)]) yT ([]) ap hM vy (λh1 hle1 sl1=>?_))
   have hs3:bV l kind ba known=rn:=hs2
   exact nretH [.slice xl rn.length xk] ⟨xl,xk,congrArg (λr:List Budget=>(.slice xl r.length xk:Value)) hs3.symm,(by rw[hs3];exact sl1)⟩
  rintro i2 ⟨rn,xl,xk,yT⟩ y2 rz2 hd2 wk sF EP Kw hs4 ⟨vy,EZ⟩ hx2 ag1 e
  try dsimp only at vy EZ
  refine sr (tO wk U (qO 8 U (aw (iF qS An ty120 hl.1 sF U U U (λq3 A3=>dl ty120 A3 U U (aU zc120 (λb4=>aR 0 ty120 U U U U U U (gS (L':=[(b4,O (qS y2) 120),(b1,gY)]++(yT)) U (qO 2 U ?_)))))))))
  refine nU [(8,.slice xl rn.length xk),(9,.map (some b1)),(16,Q b4),(69,.slice fq l.length fp),(70,I (l.length:Int)),(71,I (i2:Int)),(88,.bool ((!y2.Gone)&&(decide ((mgetD bC (gC.mk y2.Kind y2.Period) (TI 0 0 0 0 0 0 0 false))=y2))))] (λe=>?_) (λhk1=>?_)
  rotate_left
  .let z2:Nat×Obj:=(b4,O (qS y2) 120)
   refine eQ ([z2,(b1,gY)]) mixed kr jn (λeF _=>?_)
   refine qB [0] U (tf 1 U U (rj 0 ty4 U U U) (qA [2,3] U ?_))
   refine dt 78 U (λc1=>?_) (λc1=>?_)
   .refine qB [4,5] U (tf 6 U U (rj 0 ty3 U U U) (qB [7] U (tf 8 U U (rj 0 ty3 U U U) (tf 11 U U (λ_ _ hj=>jZ ty120 U (hj.nth (i:=0) U) U) (tn 9 U (eY (cells:=[I y2.Kind,I y2.Period]) (places:=[(0,1),(1,1)]) La zc181 kr kr (⟨jn,tn 10 U (qn 1 (k:=(gC.mk y2.Kind y2.Period)) underlying179 wZ U fK (e8 zv120) (show(iY S2) _ (.agg (kB [I 0,I 0,I 0,I 0,I 0,I 0,I 0,.bool false])) (TI 0 0 0 0 0 0 0 false)from⟨_,U,U⟩) U U (λv2 hv2=>?_))⟩)))))))
    obtain⟨_,rfl,rfl⟩:=hv2
    exact⟨jn,(tf 12 U U (λ_ _ _=>Ls (KD (mgetD bC (gC.mk y2.Kind y2.Period) (TI 0 0 0 0 0 0 0 false)) y2) eqg120 U U) (qA [13] U (aN kr (hk1 _ ⟨U,U,U,U,U,U,(cb (show(decide ((mgetD bC (gC.mk y2.Kind y2.Period) (TI 0 0 0 0 0 0 0 false))=y2))=((!y2.Gone)&&(decide ((mgetD bC (gC.mk y2.Kind y2.Period) (TI 0 0 0 0 0 0 0 false))=y2)))from by rw[c1]<;>rfl)),trivial⟩))))⟩
   exact tk 4 U U (qR 5 9 U (aN kr (hk1 _ ⟨U,U,U,U,U,U,(cb (show false=((!y2.Gone)&&(decide ((mgetD bC (gC.mk y2.Kind y2.Period) (TI 0 0 0 0 0 0 0 false))=y2)))from by rw[c1]<;>rfl)),trivial⟩)))
  refine ae hs4 U (λc2 hs5=>?_) (λc2 hs6=>?_)
  .refine qT 2 U (cI 0 ty120 U U U (aw (bB (cells:=[I y2.No,I y2.At,I y2.Known,I y2.Kind,I y2.Period,I y2.Count,I y2.Value,.bool y2.Gone]) An ty120 zc120 U U kr (λb5=>?_))))
   let z1:Nat×Obj:=(b5,O [I y2.No,I y2.At,I y2.Known,I y2.Kind,I y2.Period,I y2.Count,I y2.Value,.bool y2.Gone] 120)
   exact aw (eo Budget.eD ([z1,(b4,O (qS y2) 120),(b1,gY)]) ([]) (λG=>[z1,(b4,O (qS y2) 120),(b1,gY)]++G) ap (λ_=>ap) An ty120 zc120 U bytes120 vy U U (fd 0 U (cE y2 U U)) lo lo (λob1 oc1 G1 gr1=>qO 4 U (oi i2 U (qO 2 U (bj (L':=[(b1,gY)]++G1) js (ag1 ((rn++[y2]),ob1,oc1,G1) hs5 ⟨gr1,lo⟩))))))
  exact aQ (qT 2 U (oi i2 U (qO 2 U (bj (L':=[(b1,gY)]++(yT)) js (ag1 (rn,xl,xk,yT) hs6 ⟨vy,lo⟩)))))
 rintro i1 ⟨bC,gY⟩ y1 rz1 hd1 du bo eA gD hs7 ⟨fK,nH⟩ hx1 ag2 e
 try dsimp only at fK nH
 refine sr (tO du U (qO 8 U (aw (iF qS An ty120 hl.1 bo U U U (λq4 A4=>dl ty120 A4 U U (aU zc120 (λb6=>aR 0 ty120 U U U U U U (qL 9 [0] U (cn 5 [28,29,30,31,32,33] 28 33 (decide (known<y1.Known)) U (λc3 hk2=>?_) (λe=>?_))))))))))
 .exact qL 5 [0] U (hk2 _ U)
 refine ao (cn 10 [34,35,36,37,38,39,40,41,42,43,44] 34 44 ((y1.Kind != (-1))&&(y1.Kind != kind)) U (λc4 hk3=>?_) (λe=>?_))
 .refine qL 4 [0] U (bD 5 [38,39,40,41,42,43] 38 43 (y1.Kind != kind) U (λc5 hk4=>?_) (λe=>?_))
  .exact qL 5 [0] U (hk4 _ U)
  exact eM U (hk3 _ U)
 refine aH (ae hs7 U (λc6 hs8=>?_) (λc6 hs9=>?_))
 .exact mr U (bu (oi i1 U (qO 2 U (bj (L':=[(b1,gY)]) js (ag2 (bC,gY) hs8 ⟨fK,lc⟩)))))
 refine qK 7 [0,0] U (aw (eY (cells:=[I y1.Kind,I y1.Period]) (places:=[(0,1),(1,1)]) La zc181 kr kr (aU zc181 (λb7=>aR 0 ty181 U U U U U U (qO 4 U (cI 0 ty181 U U U (aw (lI 2 (k:=(gC.mk y1.Kind y1.Period)) underlying179 wZ U fK (e8 zv120) (show(iY S2) _ (.agg (kB [I 0,I 0,I 0,I 0,I 0,I 0,I 0,.bool false])) (TI 0 0 0 0 0 0 0 false)from⟨_,U,U⟩) U U (λv3 hv3=>?_)))))))))
 obtain⟨_,rfl,rfl⟩:=hv3
 refine qO 3 U (aU zc120 (λb8=>aR 0 ty120 U U U U U U (qO 7 U (cn 6 [58,59,60,61,62,63,64] 58 64 (decide ((mgetD bC (gC.mk y1.Kind y1.Period) (TI 0 0 0 0 0 0 0 false)).At<=y1.At)) U (λc7 hk5=>?_) (λe=>?_)))))
 .exact qL 6 [0,2] U (hk5 _ U)
 refine aH (ae hs9 U (λc8 hs10=>?_) (λc8 hs11=>?_))
 .exact bu (ao (cI 1 ty181 U U U (cI 2 ty120 U U U (aw (iZ 3 (k:=(gC.mk y1.Kind y1.Period)) (x:=y1) underlying179 wZ U fK U U ⟨_,U,U⟩ (λmo1 hm1=>qO 3 U (oi i1 U (qO 2 U (bj (L':=[(b1,mo1)]) js (ag2 ((mput bC (gC.mk y1.Kind y1.Period) y1),mo1) hs10 ⟨hm1,(by have:=gy bC (gC.mk y1.Kind y1.Period) y1;first|omega|(simp only[vB,zA]at *;omega))⟩))))))))))
 exact aQ (qT 2 U (oi i1 U (qO 2 U (bj (L':=[(b1,gY)]) js (ag2 (bC,gY) hs11 ⟨fK,lc⟩)))))
theorem Bp(h:HF)(u:List Use)(BC:Option Addr)(BB:Nat)(u_q:Addr)(known:Int)(known_q:Addr)(bg:Budget)(bg_q:Addr)(at_:Int)(at__q:Addr)(hu:SlC Use.rp h BC BB u)(au:At h u_q [.slice BC u.length BB])(aknown:At h known_q [I known])(abg:At h bg_q (qS bg))(aat_:At h at__q [I at_])(hbp:bg.Period≠0):Itr prog (.func (.func 112) #[] (kB [.pointer (some u_q),.pointer (some known_q),.pointer (some bg_q),.pointer (some at__q)])) yg (cw u known bg at_) h:=by
 refine rl call112 ?_
 intro yf ya yb C Sp Pn h1 A hle m1 m2 m3 hC hy
 refine iN Aj U ntmps112 U λX hXM hX=>?_
 have hs0:cw u known bg at_=[]++cw u known bg at_:=rfl
 refine sr (de ty32 (au.mono hle) U (qL 3 [] U ?_))
 refine lp2 u (λi w=>[(0,.func yf ya yb),(2,.pointer (some known_q)),(3,.pointer (some bg_q)),(4,.pointer (some at__q)),(8,.slice BC u.length BB),(9,I (u.length:Int)),(10,I (i:Int))]) (λw=>w.2.2) (λw=>w.2.1) (λi w=>C w.1 w.2.2 w.2.1/\kK h1 w.2.2) (λs1 i w=>w.1++(cw.L1 known bg at_ (cw.K1)) s1) ([],A,h1) ((hu.mono Use.av hle).1.1) hs0 ⟨hC,lf⟩ ?_ ?_
 .rintro i1 ⟨dn1,A1_,hh1⟩ fB hs1 ⟨hC1_,hl1⟩ e
  refine dQ ?_
  have hs2:cw u known bg at_=dn1:=hs1.trans (List.append_nil _)
  exact rm [] (A:=A1_) Aj U (List.Sublist.refl _) (.inl (hs2▸hC1_))
 rintro i1 ⟨dn1,A1_,hh1⟩ y1 rz1 hd1 du bo eA gD hs3 ⟨hC1_,hl1⟩ hx1 ag1 e
 refine sr (tO du U (qO 8 U (aw (iF Uz Qf ty178 (hu.mono Use.av (hle.t hl1)).1 bo U U U (λq2 A2=>dl ty178 A2 U U (aU zc178 (λb2=>aR 0 ty178 U U U U U U (gS (L':=[(b2,O (Uz y1) 178)]++(A1_)) U (qO 2 U ?_)))))))))
 let z1:Nat×Obj:=(b2,O (Uz y1) 178)
 refine eQ ([z1]) mixed kr jn (λeF _=>?_)
 refine qB [0] U (tf 1 U U (rj 0 ty3 U U U) (tf 2 U U (rh ty3 (aknown.mono (hle.t hl1)) U) (qA [3,4] U ?_)))
 refine dt 18 U (λc1=>?_) (λc1=>?_)
 .have c1p:=of_decide_eq_true c1
  refine qB [5] U (tf 6 U U (rH 3 ty3 (abg.mono (hle.t hl1)) U U) (qA [7,8] U ?_))
  refine dt 22 U (λc2=>?_) (λc2=>?_)
  .refine qD 9 9 U (tf 18 U U (rj 0 ty3 U U U) (qB [19] U (tf 20 U U (rH 4 ty3 (abg.mono (hle.t hl1)) U U) (tf 21 U U (λ_ _ _=>Lr U U ob) (tf 22 U U (rh ty3 (aat_.mono (hle.t hl1)) U) (qB [23] U (tf 24 U U (rH 4 ty3 (abg.mono (hle.t hl1)) U U) (tf 25 U U (λ_ _ _=>Lr U U ob) (qA [26] U (tf 27 U U (λ_ _ _=>nQ U (cb (show((zE .i64 (y1.At.tdiv bg.Period))==(zE .i64 (at_.tdiv bg.Period)))=((decide (y1.Known<=known)&&((bg.Kind==(-1))||(bg.Kind==y1.Kind)))&&((zE .i64 (y1.At.tdiv bg.Period))==(zE .i64 (at_.tdiv bg.Period))))from by first|(rw[c1];rw[c2];rfl)|(rw[c2];rfl)|simp[c1,c2]))) (tm 28 U ?_)))))))))))
   refine dt 42 U (λc3=>?_) (λc3=>?_)
   .have ct1:=c3
    have hs4:=hs3.trans (congrArg (dn1++·) (bt ct1))
    refine qB [29,30] U (tf 31 U U (rj 0 ty3 U U U) ?_)
    have hx1:cw u known bg at_=dn1++(y1.Value::(cw.L1 known bg at_ (cw.K1) rz1)):=hs4
    refine tn 32 U (j2 ([z1]) A1_ ap (hy dn1 y1.Value _ _ _ _ hx1 hl1 hC1_ U) U U (λh2 A3 hle1 hC1=>?_) (λh3 A4 hle2 hS1=>?_) (λch1 h4 A5 hle3 hP1 e=>gk (mC [] (A:=A5) Aj (List.sublist_append_right _ _) hP1)))
    .have hs5:cw u known bg at_=(dn1++[y1.Value])++((cw.L1 known bg at_ (cw.K1) rz1)):=hx1.trans ap
     exact⟨⟨hle1,λ_ hp=>List.Sublist.subset js hp⟩,nr (K2:=[z1]) hle1 (λ_ hp=>hp) (qA [33,34] U (aN kr (qT 4 U (oi i1 U (qO 2 U (bj (L':=A3) js (ag1 ((dn1++[y1.Value]),A3,h2) hs5 ⟨hC1,(hl1.t hle1)⟩)))))))⟩
    exact⟨⟨hle2,λ_ hp=>List.Sublist.subset js hp⟩,nr (K2:=[z1]) hle2 (λ_ hp=>hp) (qA [33,34] U (aN kr (kY U (dQ (mi [] (A:=A4) Aj U js (.inr hS1))))))⟩
   have ct2:=c3
   have hs6:=hs3.trans (congrArg (dn1++·) (bf ct2))
   exact tk 29 U U (qR 30 5 U (aN kr (qT 4 U (oi i1 U (qO 2 U (bj (L':=A1_) js (ag1 (dn1,A1_,hh1) hs6 ⟨hC1_,hl1⟩)))))))
  refine qB [9] U (tf 10 U U (rH 3 ty3 (abg.mono (hle.t hl1)) U U) (qB [11] U (tf 12 U U (rj 0 ty3 U U U) (qR 13 4 U ?_))))
  refine dt 30 U (λc4=>?_) (λc4=>?_)
  .refine qB [17] U (tf 18 U U (rj 0 ty3 U U U) (qB [19] U (tf 20 U U (rH 4 ty3 (abg.mono (hle.t hl1)) U U) (tf 21 U U (λ_ _ _=>Lr U U ob) (tf 22 U U (rh ty3 (aat_.mono (hle.t hl1)) U) (qB [23] U (tf 24 U U (rH 4 ty3 (abg.mono (hle.t hl1)) U U) (tf 25 U U (λ_ _ _=>Lr U U ob) (qA [26] U (tf 27 U U (λ_ _ _=>nQ U (cb (show((zE .i64 (y1.At.tdiv bg.Period))==(zE .i64 (at_.tdiv bg.Period)))=((decide (y1.Known<=known)&&((bg.Kind==(-1))||(bg.Kind==y1.Kind)))&&((zE .i64 (y1.At.tdiv bg.Period))==(zE .i64 (at_.tdiv bg.Period))))from by first|(rw[c1];rw[c2];rw[c4];rfl)|(rw[c4];rfl)|simp[c1,c2,c4]))) (tm 28 U ?_)))))))))))
   refine dt 42 U (λc5=>?_) (λc5=>?_)
   .have ct3:=c5
    have hs7:=hs3.trans (congrArg (dn1++·) (bt ct3))
    refine qB [29,30] U (tf 31 U U (rj 0 ty3 U U U) ?_)
    have hx2:cw u known bg at_=dn1++(y1.Value::(cw.L1 known bg at_ (cw.K1) rz1)):=hs7
    refine tn 32 U (j2 ([z1]) A1_ ap (hy dn1 y1.Value _ _ _ _ hx2 hl1 hC1_ U) U U (λh5 A6 hle4 hC2=>?_) (λh6 A7 hle5 hS2=>?_) (λch2 h7 A8 hle6 hP2 e=>gk (mC [] (A:=A8) Aj (List.sublist_append_right _ _) hP2)))
    .have hs8:cw u known bg at_=(dn1++[y1.Value])++((cw.L1 known bg at_ (cw.K1) rz1)):=hx2.trans ap
     exact⟨⟨hle4,λ_ hp=>List.Sublist.subset js hp⟩,nr (K2:=[z1]) hle4 (λ_ hp=>hp) (qA [33,34] U (aN kr (qT 4 U (oi i1 U (qO 2 U (bj (L':=A6) js (ag1 ((dn1++[y1.Value]),A6,h5) hs8 ⟨hC2,(hl1.t hle4)⟩)))))))⟩
    exact⟨⟨hle5,λ_ hp=>List.Sublist.subset js hp⟩,nr (K2:=[z1]) hle5 (λ_ hp=>hp) (qA [33,34] U (aN kr (kY U (dQ (mi [] (A:=A7) Aj U js (.inr hS2))))))⟩
   have ct4:=c5
   have hs9:=hs3.trans (congrArg (dn1++·) (bf ct4))
   exact tk 29 U U (qR 30 5 U (aN kr (qT 4 U (oi i1 U (qO 2 U (bj (L':=A1_) js (ag1 (dn1,A1_,hh1) hs9 ⟨hC1_,hl1⟩)))))))
  refine qR 17 10 U (tf 27 U U (λ_ _ _=>nQ U (cb (show false=((decide (y1.Known<=known)&&((bg.Kind==(-1))||(bg.Kind==y1.Kind)))&&((zE .i64 (y1.At.tdiv bg.Period))==(zE .i64 (at_.tdiv bg.Period))))from by first|(rw[c1];rw[c2];rw[c4];rfl)|(rw[c4];rfl)|simp[c1,c2,c4]))) (tm 28 U ?_))
  refine dt 42 U (λc6=>?_) (λc6=>?_)
  .have ct5:=c6
   have hs10:=hs3.trans (congrArg (dn1++·) (bt ct5))
   refine qB [29,30] U (tf 31 U U (rj 0 ty3 U U U) ?_)
   have hx3:cw u known bg at_=dn1++(y1.Value::(cw.L1 known bg at_ (cw.K1) rz1)):=hs10
   refine tn 32 U (j2 ([z1]) A1_ ap (hy dn1 y1.Value _ _ _ _ hx3 hl1 hC1_ U) U U (λh8 A9 hle7 hC3=>?_) (λh9 A10 hle8 hS3=>?_) (λch3 h10 A11 hle9 hP3 e=>gk (mC [] (A:=A11) Aj (List.sublist_append_right _ _) hP3)))
   .have hs11:cw u known bg at_=(dn1++[y1.Value])++((cw.L1 known bg at_ (cw.K1) rz1)):=hx3.trans ap
    exact⟨⟨hle7,λ_ hp=>List.Sublist.subset js hp⟩,nr (K2:=[z1]) hle7 (λ_ hp=>hp) (qA [33,34] U (aN kr (qT 4 U (oi i1 U (qO 2 U (bj (L':=A9) js (ag1 ((dn1++[y1.Value]),A9,h8) hs11 ⟨hC3,(hl1.t hle7)⟩)))))))⟩
   exact⟨⟨hle8,λ_ hp=>List.Sublist.subset js hp⟩,nr (K2:=[z1]) hle8 (λ_ hp=>hp) (qA [33,34] U (aN kr (kY U (dQ (mi [] (A:=A10) Aj U js (.inr hS3))))))⟩
  have ct6:=c6
  have hs12:=hs3.trans (congrArg (dn1++·) (bf ct6))
  exact tk 29 U U (qR 30 5 U (aN kr (qT 4 U (oi i1 U (qO 2 U (bj (L':=A1_) js (ag1 (dn1,A1_,hh1) hs12 ⟨hC1_,hl1⟩)))))))
 have c1p:=of_decide_eq_false c1
 refine qR 5 22 U (tf 27 U U (λ_ _ _=>nQ U (cb (show false=((decide (y1.Known<=known)&&((bg.Kind==(-1))||(bg.Kind==y1.Kind)))&&((zE .i64 (y1.At.tdiv bg.Period))==(zE .i64 (at_.tdiv bg.Period))))from by first|(rw[c1];rfl)|(rw[c1];rfl)|simp[c1]))) (tm 28 U ?_))
 refine dt 42 U (λc7=>?_) (λc7=>?_)
 .have ct7:=c7
  have hs13:=hs3.trans (congrArg (dn1++·) (bt ct7))
  refine qB [29,30] U (tf 31 U U (rj 0 ty3 U U U) ?_)
  have hx4:cw u known bg at_=dn1++(y1.Value::(cw.L1 known bg at_ (cw.K1) rz1)):=hs13
  refine tn 32 U (j2 ([z1]) A1_ ap (hy dn1 y1.Value _ _ _ _ hx4 hl1 hC1_ U) U U (λh11 A12 hle10 hC4=>?_) (λh12 A13 hle11 hS4=>?_) (λch4 h13 A14 hle12 hP4 e=>gk (mC [] (A:=A14) Aj (List.sublist_append_right _ _) hP4)))
  .have hs14:cw u known bg at_=(dn1++[y1.Value])++((cw.L1 known bg at_ (cw.K1) rz1)):=hx4.trans ap
   exact⟨⟨hle10,λ_ hp=>List.Sublist.subset js hp⟩,nr (K2:=[z1]) hle10 (λ_ hp=>hp) (qA [33,34] U (aN kr (qT 4 U (oi i1 U (qO 2 U (bj (L':=A12) js (ag1 ((dn1++[y1.Value]),A12,h11) hs14 ⟨hC4,(hl1.t hle10)⟩)))))))⟩
  exact⟨⟨hle11,λ_ hp=>List.Sublist.subset js hp⟩,nr (K2:=[z1]) hle11 (λ_ hp=>hp) (qA [33,34] U (aN kr (kY U (dQ (mi [] (A:=A13) Aj U js (.inr hS4))))))⟩
 have ct8:=c7
 have hs15:=hs3.trans (congrArg (dn1++·) (bf ct8))
 exact tk 29 U U (qR 30 5 U (aN kr (qT 4 U (oi i1 U (qO 2 U (bj (L':=A1_) js (ag1 (dn1,A1_,hh1) hs15 ⟨hC1_,hl1⟩)))))))
theorem Dq(h:HF)(Fm:Budget)(u:List Use)(BC:Option Addr)(BB:Nat)(ba:Int)(known:Int)(hu:SlC Use.rp h BC BB u)(hbp:Fm.Period≠0):jY prog 62 [.agg (qS Fm).toArray,.slice BC u.length BB,I ba,I known] h (λv h'=>∃(rv0:Value),v=rv0/\Itr prog rv0 yg (pA Fm u ba known) h'):=by
 refine sT func62 U ntmps62 U λX hM hX hF=>?_
 have hs0:=@rfl _ (pA Fm u ba known)
 refine sr (ct (λb1=>ct (λb2=>ct (λb3=>ct (λb4=>qO 4 U (aP 2 U hM (λh1 hle1 hb1=>aP 0 U hM (λh2 hle2 hb2=>aP 1 U hM (λh3 hle3 hb3=>aP 0 U hM (λh4 hle4 hb4=>aw (dS U U (an ?_))))))))))))
 have hs1:pA Fm u ba known=(cw u known Fm ba):=hs0
 exact nretH [.func (.func 112) #[] #[Q b2,Q b4,Q b1,Q b3]] (hs1▸⟨(.func (.func 112) #[] #[Q b2,Q b4,Q b1,Q b3]),U,(Bp h4 u BC BB ⟨b2,0,none⟩ known ⟨b4,0,none⟩ Fm ⟨b1,0,none⟩ ba ⟨b3,0,none⟩ (hu.mono Use.av (((hle1.t hle2).t hle3).t hle4)) ((bI hb1).mono ((hle2.t hle3).t hle4)) ((bI hb2).mono (hle3.t hle4)) ((bI hb3).mono hle4) (bI hb4) ob)⟩)
theorem vU(h:HF)(l:List Budget)(fq:Option Addr)(fp:Nat)(u:List Use)(BC:Option Addr)(BB:Nat)(kind:Int)(value:Int)(eR:Int)(known:Int)(hl:SlC S2 h fq fp l)(hu:SlC Use.rp h BC BB u)(hsz:l.length<=2000000):Ret prog 21 [.slice fq l.length fp,.slice BC u.length BB,I kind,I value,I eR,I known] h (.tuple #[I ((bZ l u kind value eR known).1),.bool ((bZ l u kind value eR known).2.1),I ((bZ l u kind value eR known).2.2)]):=by
 refine cD DH U ntmps21 U λX hM hX=>?_
 have hs0:=@rfl _ (bZ l u kind value eR known)
 refine qT 10 U (ai call51 (uD _ _ _ _ hl) U (qO 7 U (ae hs0 U (λc1 hs1=>?_) (λc1 hs2=>?_))))
 .refine qT 7 U ?_
  have hs3:bZ l u kind value eR known=(0,false,(cR l)):=hs1
  exact s8 [I 0,.bool false,I (cR l)] DH U hX rd (congrArg (λr:(Int×Bool×Int)=>(.tuple #[I r.1,.bool r.2.1,I r.2.2]:Value)) hs3.symm)
 refine qK 8 [] U (ae hs2 U (λc2 hs4=>?_) (λc2 hs5=>?_))
 .have c2p:=of_decide_eq_true c2
  refine qT 6 U ?_
  have hs6:bZ l u kind value eR known=(0,false,2):=hs4
  exact s8 [I 0,.bool false,I 2] DH U hX rd (congrArg (λr:(Int×Bool×Int)=>(.tuple #[I r.1,.bool r.2.1,I r.2.2]:Value)) hs6.symm)
 have c2p:=of_decide_eq_false c2
 refine qT 5 U (ai call59 (Dp _ _ _ _ hu) U (qO 2 U (ae hs5 U (λc3 hs7=>?_) (λc3 hs8=>?_))))
 .refine qT 6 U ?_
  have hs9:bZ l u kind value eR known=(0,false,180):=hs7
  exact s8 [I 0,.bool false,I 180] DH U hX rd (congrArg (λr:(Int×Bool×Int)=>(.tuple #[I r.1,.bool r.2.1,I r.2.2]:Value)) hs9.symm)
 refine qT 5 U (aw (bB (cells:=[I kind]) eG ty3 zc3 U U kr (λb1=>aP 0 U hM (λh1 hle1 hb1=>?_))))
 have sl1:SlC zC h1 (some ⟨b1,0,none⟩) 1 ([kind]):=bP.slB0 (T:=3) (fz:=(0,0)) ((show bP zC h [I kind] ([kind])from⟨[I kind],[],rfl,rfl,rfl,rfl⟩).mono zH hle1) hb1
 refine ai vY (dP _ 0 15 _ _ _ sl1) U (qO 2 U (cn 5 [36,37,38,39,40,41] 36 41 (!(aW 0 1099511627776 ([value]))) U (λc4 hk1=>?_) (λe=>?_)))
 .refine ao (aw (bB (cells:=[I value]) eG ty3 zc3 U U kr (λb2=>aP 0 U hM (λh2 hle2 hb2=>?_))))
  have sl2:SlC zC h2 (some ⟨b2,0,none⟩) 1 ([value]):=bP.slB0 (T:=3) (fz:=(0,0)) ((show bP zC h1 [I value] ([value])from⟨[I value],[],rfl,rfl,rfl,rfl⟩).mono zH hle2) hb2
  exact ai vY (dP _ 0 1099511627776 _ _ _ sl2) U (qO 2 U (kI (h:=h1) hle2 hX hle1 (hk1 _ U)))
 refine ao (cn 6 [42,43,44,45,46,47,48] 42 48 (!(aW 0 1099511627775 ([eR,known]))) U (λc5 hk2=>?_) (λe=>?_))
 .refine qO 2 U (aw (bB (cells:=[I eR,I known]) eG ty3 zc3 U U kr (λb3=>aP 0 U hM (λh3 hle3 hb3=>?_))))
  have sl3:SlC zC h3 (some ⟨b3,0,none⟩) 2 ([eR,known]):=bP.slB0 (T:=3) (fz:=(0,0)) ((show bP zC h1 [I eR,I known] ([eR,known])from⟨[I eR],[I known],rfl,rfl,rfl,⟨[I known],[],rfl,rfl,rfl,rfl⟩⟩).mono zH hle3) hb3
  exact ai vY (dP _ 0 1099511627775 _ _ _ sl3) U (qO 2 U (kI (h:=h1) hle3 hX hle1 (hk2 _ U)))
 refine aH (ae hs8 U (λc6 hs10=>?_) (λc6 hs11=>?_))
 .refine qT 6 U ?_
  have hs12:bZ l u kind value eR known=(0,false,1):=hs10
  exact s8 [I 0,.bool false,I 1] DH U hX rd (congrArg (λr:(Int×Bool×Int)=>(.tuple #[I r.1,.bool r.2.1,I r.2.2]:Value)) hs12.symm)
 refine qT 8 U (aw (cJ call61 (yC _ _ _ _ kind eR known (hl.mono Ug hle1) ob) U (λv1 h4 hle4 hp1=>?_)))
 obtain⟨rb1,rc1,rfl,sl4⟩:=hp1
 refine qL 3 [] U (dQ (cu (L':=markB []) ap ?_))
 refine rZ (ι:=Nat×List Nat×HF) (λi=>[]) (λi=>marks i.2.1) (λi=>i.2.2) (λi=>markB i.2.1) (λi=>i.1<=(bV l kind eR known).length/\bZ l u kind value eR known=((bZ.K1))/\kK h4 i.2.2) ?_ (λhx1=>?_)
 .rintro⟨i1,rs1,hh1⟩ ⟨fB,hs13,hl1⟩ e
  refine qT 6 U ?_
  have hs14:bZ l u kind value eR known=((-1),true,0):=hs13
  exact cu (L':=([])++markB rs1) ap (rY rs1 [I (-1),.bool true,I 0] DH U hX rd (congrArg (λr:(Int×Bool×Int)=>(.tuple #[I r.1,.bool r.2.1,I r.2.2]:Value)) hs14.symm))
 refine wD (ι:=Nat×List Nat×HF×List Budget) (λi=>[(1,.slice BC u.length BB),(3,I value),(4,I eR),(5,I known),(53,.slice rb1 ((bV l kind eR known).length) rc1),(54,I ((bV l kind eR known).length:Int)),(55,I (i.1:Int))]) (λi=>marks i.2.1) (λi=>i.2.2.1) (λi=>markB i.2.1) (λi=>(bV l kind eR known).drop i.1=i.2.2.2/\i.1<=(bV l kind eR known).length/\bZ l u kind value eR known=((bZ.L1 u value eR known (bZ.K1)) i.2.2.2)/\kK h4 i.2.2.1) (λi=>i.2.2.2.length) (0,[],h4,(bV l kind eR known)) U rd sw ⟨U,vM _,hs11,lf⟩ ?_
 rintro⟨i1,rs1,hh1,s1⟩ ⟨hd1,fB,hs15,hl1⟩ ag1 e
 rcases s1 with _|⟨y1,rz1⟩
 .have iw:=oI hd1
  exact sr (fO iw U (qO 4 U (hx1 (i1,rs1,hh1) _ ⟨fB,hs15,hl1⟩ trivial)))
 have du:=tJ hd1
 have bo:=sQ hd1
 have eA:=jv hd1
 have gD:=sl4.1.1
 refine sr (tO du U (qO 8 U (aw (iF qS An ty120 (sl4.mono Ug hl1).1 bo U U U (λq2 A2=>dl ty120 A2 U U (aU zc120 (λb7=>aR 0 ty120 U U U U U U (qO 4 U (aU zc3 (λb8=>aU zc3 (λb9=>cB 1 ty3 U U U U U U (cB 0 ty3 U U U U U U (qO 4 U (cI 2 ty120 U U U (qO 3 U (aw (cJ call62 (Dq _ y1 _ _ _ eR known (hu.mono Use.av ((hle1.t hle4).t hl1)) (IJ (by simpa using c1) (fS hd1))) U (λv3 h6 hle6 hp3=>?_))))))))))))))))))
 obtain⟨_,rfl,mo2⟩:=hp3
 refine qO 2 U ?_
 let z1:Nat×Obj:=(b7,O (qS y1) 120)
 refine cu (L':=([(b9,O [I value] 3),(b8,O [I 1] 3),z1])++markB rs1) ap ?_
 refine jw (it:=v3) (xs:=(pA y1 u eR known)) (ι:=Int×Int×HF) rs1 (λi=>i.2.2) (λi=>[(b9,O [I i.1] 3),(b8,O [I i.2.1] 3),z1]) (λs i=>bZ l u kind value eR known=((bZ.L3 (λzg3_b9_0 zg3_b8_0=>(bif(decide (y1.Count<zg3_b8_0)||decide (y1.Value<zg3_b9_0))then(y1.No,false,0)else(bZ.L1 u value eR known (bZ.K1) rz1)))) s i.1 i.2.1)/\kK h6 i.2.2) (λ_=>False) (λ_=>False) 0 (λ_ _ _=>False) (value,1,h6) DH U mo2 U CE (λ_ _ _ _ _ hq=>hq) U (show[(b9,O [I value] 3),(b8,O [I 1] 3),z1]=_ from U) ⟨hs15,lf⟩ ?_ ?_ ?_ ?_ ?_
 .rintro l3 dm3 lp3 y3 rz3 vs3 ⟨vh,yi,hh3⟩ hr3 X hFR3 ⟨hs17,hl3⟩ hl03 hlr3 hv3 hX hXM hlp3 nx3 rt3 ex3 pn3
  obtain rfl:=hv3
  exact cu (L':=[(l3,.loop lp3),(dm3,.deferred (some [])),(b9,O [I vh] 3),(b8,O [I yi] 3),z1]++(markB rs1)) ap (qT 3 U (jx 0 U hlp3 (qK 5 [3] U (cB 3 ty3 U U U U U U (qL 5 [2] U (cB 2 ty3 U U U U U U (qO 2 U (cu (L':=rdH l3 dm3 lp3 (([(b9,O [I (zE .i64 (vh+y3))] 3),(b8,O [I (zE .i64 (yi+1))] 3),z1])++markB rs1)) ap (nx3 ((zE .i64 (vh+y3)),(zE .i64 (yi+1)),hr3) _ _ ⟨hs17,(hl3.t hlr3)⟩ lf)))))))))
 .rintro dm3 ⟨vh,yi,hh3⟩ hn3 ⟨hs18,hl3⟩ hln3 hl03
  refine cu (L':=[(b9,O [I vh] 3),(b8,O [I yi] 3),z1]++(markB (dm3::rs1))) ap (qK 8 [1,2] U (cn 5 [75,76,77,78,79,80] 75 80 (decide (y1.Value<vh)) U (λc7 hk3=>?_) (λe=>?_)))
  .exact qL 5 [0,2] U (hk3 _ U)
  refine aH (ae hs18 U (λc8 hs19=>?_) (λc8 hs20=>?_))
  .refine qK 8 [2] U ?_
   have hs21:bZ l u kind value eR known=(y1.No,false,0):=hs19
   exact cu (L':=([(b9,O [I vh] 3),(b8,O [I yi] 3),z1])++markB (dm3::rs1)) ap (rY (dm3::rs1) [I y1.No,.bool false,I 0] DH U hX rd (congrArg (λr:(Int×Bool×Int)=>(.tuple #[I r.1,.bool r.2.1,I r.2.2]:Value)) hs21.symm))
  exact aQ (qT 2 U (oi i1 U (qO 2 U (bj (L':=markB (dm3::rs1)) js (ag1 ((i1+1),(dm3::rs1),hn3,rz1) _ (Nat.lt_succ_self _) ⟨mY hd1,jv hd1,hs20,(((hl1.t hle6).t hl3).t hln3)⟩ rd)))))
 .exact xf
 .exact xf
 exact xf
theorem Dj(h:HF)(d:Document)(GV:iC)(v0:Int)(v0_q:Addr)(hd:R8 h d GV)(av0:At h v0_q [I v0]):Ret prog 64 [.agg (vQ d GV).toArray,.pointer (some v0_q)] h (.bool (bE d v0)):=by
 refine sT func64 U ntmps64 U λX hM hX hF=>?_
 have hs0:=@rfl _ (bE d v0)
 exact sr (ct (λb1=>qL 6 [0] U (de ty3 av0 U (qO 3 U (nretP [.bool (d.No==v0)] (cs hs0))))))
theorem FN(h:HF)(bG:Register)(dW:eN)(doc:Int)(ba:Int)(known:Int)(kW:Register.ok h bG dW):G0 prog 22 [.agg (jF bG dW).toArray,I doc,I ba,I known] h errV (mW bG doc ba known) (λ(r:bL)v h'=>∃(rr0:kd),v=.agg (bL.cells r rr0).toArray/\bL.ok h' r rr0):=by
 refine cD func22 U ntmps22 U λX hM hX=>?_
 have hs0:=@rfl _ (mW bG doc ba known)
 refine sr (ct (λb1=>ct (λb2=>aU zc72 (λb3=>qL 5 [2] U (aP 1 U hM (λh1 hle1 hb1=>aw (dS U U (ai M8 (jo _ _ _ _ (λcj=>bE cj doc) (.func (.func 64) #[] #[Q b2]) (kW.Docs.mono vR hle1) (λh' cj wq hle My a0_o=>im call64 (Dj h' cj wq doc ⟨b2,0,none⟩ a0_o ((bI hb1).mono hle)))) U (qO 8 U (cn 5 [16,17,18,19,20,21] 16 21 (decide ((min ba known)<0)) U (λc1 hk1=>?_) (λe=>?_)))))))))))
 .exact ao (ao (aw (ff (NQ U U) (qO 2 U (hk1 _ U)))))
 refine ao (cn 5 [22,23,24,25,26,27] 22 27 (decide (1099511627776<=(max ba known))) U (λc2 hk2=>?_) (λe=>?_))
 .exact ao (ao (aw (ff (PX U U) (qO 2 U (hk2 _ U)))))
 refine aH (ae hs0 U (λc3 hs1=>?_) (λc3 hs2=>?_))
 .exact bu (aw (ff (Dx J8 U U) (aw (Dt U xX (λe=>gk (Iu [] func22 hs1))))))
 refine qT 2 U ?_
 let z1:Nat×Obj:=(b1,O (jF bG dW) 30)
 refine eQ ([z1]) mixed kr jn (λeF _=>?_)
 refine tf 0 U U (λ_ _ hj=>jZ ty30 U (hj.nth (i:=0) U) U) (qB [1] U (tf 2 U U (rj 0 ty27 U U U) (tm 3 U ?_)))
 have ho1:0<=((ad bG.Docs (λcj=>bE cj doc)):Int)/\((ad bG.Docs (λcj=>bE cj doc)):Int)<((bG.Docs).length:Int):=(by have hq:=uy bG.Docs (λcj=>bE cj doc);simp only[decide_eq_true_eq,decide_eq_false_iff_not,jB,xD,kC,Bool.not_eq_false',Bool.and_eq_false_iff,Bool.or_eq_false_iff,beq_iff_eq,beq_eq_false_iff_ne,bne_iff_ne,bne_eq_false_iff_eq,kA,zA,vB,List.length_drop]at *;omega)
 refine km 4 eF jn rC ty70 (kW.Docs.mono vR hle1).1 ho1 (dy ho1) U U U U kr (λq1 cs1 A1 ln1 rr1=>?_)
 obtain⟨r1,rfl,ok1⟩:=rr1
 refine tf 5 U U (λ_ _ hj=>kU ty70 (A1.mono hj.1) U U) (qA [6,7] U (tn 8 U (eY (cells:=[.slice dW.lO bG.Appoints.length dW.lN,.slice dW.mp bG.Deputies.length dW.mn,.slice dW.mg bG.Interests.length dW.mf,.slice dW.m8 bG.Budgets.length dW.m7,.slice dW.kc bG.Versions.length dW.kb,.slice dW.uk bG.Docs.length dW.uj,.slice dW.lA bG.Approvals.length dW.ly,I ((nthI bG.Docs (ad bG.Docs (λcj=>bE cj doc))).No),I ((nthI bG.Docs (ad bG.Docs (λcj=>bE cj doc))).At),I ((nthI bG.Docs (ad bG.Docs (λcj=>bE cj doc))).Kind),I ((nthI bG.Docs (ad bG.Docs (λcj=>bE cj doc))).Value),I ((nthI bG.Docs (ad bG.Docs (λcj=>bE cj doc))).From),I ((nthI bG.Docs (ad bG.Docs (λcj=>bE cj doc))).Until),.slice r1.rU ((nthI bG.Docs (ad bG.Docs (λcj=>bE cj doc))).Parties.length) r1.rT,.slice r1.oV ((nthI bG.Docs (ad bG.Docs (λcj=>bE cj doc))).Revokes.length) r1.oU,.slice r1.yn ((nthI bG.Docs (ad bG.Docs (λcj=>bE cj doc))).Needs.length) r1.ym,Y ((nthI bG.Docs (ad bG.Docs (λcj=>bE cj doc))).Text 0),Y ((nthI bG.Docs (ad bG.Docs (λcj=>bE cj doc))).Text 1),Y ((nthI bG.Docs (ad bG.Docs (λcj=>bE cj doc))).Text 2),Y ((nthI bG.Docs (ad bG.Docs (λcj=>bE cj doc))).Text 3),Y ((nthI bG.Docs (ad bG.Docs (λcj=>bE cj doc))).Text 4),Y ((nthI bG.Docs (ad bG.Docs (λcj=>bE cj doc))).Text 5),Y ((nthI bG.Docs (ad bG.Docs (λcj=>bE cj doc))).Text 6),Y ((nthI bG.Docs (ad bG.Docs (λcj=>bE cj doc))).Text 7),Y ((nthI bG.Docs (ad bG.Docs (λcj=>bE cj doc))).Text 8),Y ((nthI bG.Docs (ad bG.Docs (λcj=>bE cj doc))).Text 9),Y ((nthI bG.Docs (ad bG.Docs (λcj=>bE cj doc))).Text 10),Y ((nthI bG.Docs (ad bG.Docs (λcj=>bE cj doc))).Text 11),Y ((nthI bG.Docs (ad bG.Docs (λcj=>bE cj doc))).Text 12),Y ((nthI bG.Docs (ad bG.Docs (λcj=>bE cj doc))).Text 13),Y ((nthI bG.Docs (ad bG.Docs (λcj=>bE cj doc))).Text 14),Y ((nthI bG.Docs (ad bG.Docs (λcj=>bE cj doc))).Text 15),Y ((nthI bG.Docs (ad bG.Docs (λcj=>bE cj doc))).Text 16),Y ((nthI bG.Docs (ad bG.Docs (λcj=>bE cj doc))).Text 17),Y ((nthI bG.Docs (ad bG.Docs (λcj=>bE cj doc))).Text 18),Y ((nthI bG.Docs (ad bG.Docs (λcj=>bE cj doc))).Text 19),Y ((nthI bG.Docs (ad bG.Docs (λcj=>bE cj doc))).Text 20),Y ((nthI bG.Docs (ad bG.Docs (λcj=>bE cj doc))).Text 21),Y ((nthI bG.Docs (ad bG.Docs (λcj=>bE cj doc))).Text 22),Y ((nthI bG.Docs (ad bG.Docs (λcj=>bE cj doc))).Text 23),Y ((nthI bG.Docs (ad bG.Docs (λcj=>bE cj doc))).Text 24),Y ((nthI bG.Docs (ad bG.Docs (λcj=>bE cj doc))).Text 25),Y ((nthI bG.Docs (ad bG.Docs (λcj=>bE cj doc))).Text 26),Y ((nthI bG.Docs (ad bG.Docs (λcj=>bE cj doc))).Text 27),Y ((nthI bG.Docs (ad bG.Docs (λcj=>bE cj doc))).Text 28),Y ((nthI bG.Docs (ad bG.Docs (λcj=>bE cj doc))).Text 29),Y ((nthI bG.Docs (ad bG.Docs (λcj=>bE cj doc))).Text 30),Y ((nthI bG.Docs (ad bG.Docs (λcj=>bE cj doc))).Text 31),I ba,I known]) (places:=[(0,7),(7,41),(48,1),(49,1)]) underlying72 zc72 kr kr ?_)))
 refine⟨jn,(tn 9 U (qm 0 ty72 U U U U U U (⟨jn,(aN kr ?_)⟩)))⟩
 have hs3:mW bG doc ba known=(Except.ok (bL.mk bG (nthI bG.Docs (ad bG.Docs (λcj=>bE cj doc))) ba known)):=hs2
 exact dQ (Is [] [.agg (bL.cells (bL.mk bG (nthI bG.Docs (ad bG.Docs (λcj=>bE cj doc))) ba known) (kd.mk dW r1)).toArray] func22 U ⟨⟨0,_,_,_,_,U,U,.inl ⟨ty72,U⟩⟩,trivial⟩ hs3 ⟨(kd.mk dW r1),U,(show bL.ok h1 (bL.mk bG (nthI bG.Docs (ad bG.Docs (λcj=>bE cj doc))) ba known) (kd.mk dW r1)from⟨(kW.mono hle1),ok1⟩)⟩)
theorem uv(h:HF)(d:Document)(GV:iC)(v0:bL)(MW:kd)(v0_q:Addr)(hd:R8 h d GV)(hv0:bL.ok h v0 MW)(av0:At h v0_q (bL.cells v0 MW)):Ret prog 65 [.agg (vQ d GV).toArray,.pointer (some v0_q)] h (.bool (ck d v0)):=by
 refine sT func65 U ntmps65 U λX hM hX hF=>?_
 have hs0:=@rfl _ (ck d v0)
 exact sr (ct (λb1=>qL 8 [0] U (ky (j:=7) ty3 av0 U U (qO 3 U (nretP [.bool (d.No==v0.doc.No)] (cs hs0))))))
theorem pH(h:HF)(s:List Document)(pU:Option Addr)(pI:Nat)(f:(Document->Bool))(f_v:Value)(hs:SlC RV h pU pI s)(hf:∀(h':HF)(cj:Document)(wq:iC),kK h h'->cj∈s->R8 h' cj wq->sZ prog f_v [.agg (vQ cj wq).toArray] h' [] (.bool (f cj))):Ret prog 113 [.slice pU s.length pI,f_v] h (.bool (jp s f)):=by
 refine sT func113 U ntmps113 U λX hM hX hF=>?_
 have hs0:=@rfl _ (jp s f)
 exact sr (qO 6 U (ai M8 (jo _ _ _ _ f f_v hs hf) U (qO 3 U (nretP [.bool (decide (0<=(ad s f)))] (cs hs0)))))
theorem Cd(h:HF)(l:List Document)(fq:Option Addr)(fp:Nat)(signed:List Int)(ef:Option Addr)(dZ:Nat)(no:Int)(fa:Int)(hl:SlC RV h fq fp l)(hsigned:SlC zC h ef dZ signed)(hln:l.length<20):Ret prog 115 [.slice fq l.length fp,.slice ef signed.length dZ,I no,I fa] h (.tuple #[I ((gd l signed no fa).1),I ((gd l signed no fa).2.1),I ((gd l signed no fa).2.2)]):=by
 refine sT func115 U ntmps115 U λX hM hX hF=>?_
 have hs0:=@rfl _ (gd l signed no fa)
 refine qT 10 U (ai call53 (oH _ _ _ _ hl) U (qO 7 U (ae hs0 U (λc1 hs1=>?_) (λc1 hs2=>?_))))
 .refine qT 7 U ?_
  have hs3:gd l signed no fa=(0,0,(bz l)):=hs1
  exact nretP [I 0,I 0,I (bz l)] (hs3▸U)
 refine qT 6 U (ai call55 (pO _ _ _ _ _ _ _ hl hsigned) U (qO 2 U (cn 4 [24,25,26,27,28] 24 28 (!(gm fa)) U (λc2 hk1=>?_) (λe=>?_))))
 .exact ao (ai M9 (nl h fa) U (qO 2 U (hk1 _ U)))
 refine aH (ae hs2 U (λc3 hs4=>?_) (λc3 hs5=>?_))
 .refine qT 6 U ?_
  have hs6:gd l signed no fa=(0,0,1):=hs4
  exact nretP [I 0,I 0,I 1] (hs6▸U)
 refine qT 6 U (aw (cJ call57 (rA _ _ _ _ _ _ _ fa hl hsigned (by simpa using c1) (Au ob) hln) U (λv1 h1 hle1 hp1=>?_)))
 obtain⟨q1,rr1,rfl,ok1,A1⟩:=hp1
 refine qO 5 U (aw (ff (fR U) (qL 2 [] U (ky (j:=1) ty165 A1 U U (ao ?_)))))
 obtain⟨o1,hb1,hm1⟩:=ok1.shelf.at_
 refine aw (tc (k:=no) Al (dG kz) hb1 hm1 (e8 zv3) (show vo _ (I 0) 0 from U) U U (λv2 hv1=>?_))
 obtain rfl:=hv1
 refine qO 12 U (ae hs5 U (λc4 hs7=>?_) (λc4 hs8=>?_))
 .refine qT 6 U ?_
  have hs9:gd l signed no fa=(0,0,1):=hs7
  exact nretP [I 0,I 0,I 1] (hs9▸U)
 refine qT 6 U (ai call58 (mG h1 (cA l signed fa) rr1 q1 (mgetD ((cA l signed fa).shelf.at_) no 0) fa ok1 A1 (by first|exact Gs ob|(rw[tC];omega)) (Cy _ _ _)) U (qO 14 U ?_))
 have hs10:gd l signed no fa=((cX (cA l signed fa) (mgetD ((cA l signed fa).shelf.at_) no 0) fa).1,(cX (cA l signed fa) (mgetD ((cA l signed fa).shelf.at_) no 0) fa).2,0):=hs8
 exact nretP [I ((cX (cA l signed fa) (mgetD ((cA l signed fa).shelf.at_) no 0) fa).1),I ((cX (cA l signed fa) (mgetD ((cA l signed fa).shelf.at_) no 0) fa).2),I 0] (hs10▸U)
theorem ug(h:HF)(d:Document)(GV:iC)(c:bL)(og:kd)(c_q:Addr)(signed:List Int)(ef:Option Addr)(dZ:Nat)(signed_q:Addr)(hd:R8 h d GV)(hc:bL.ok h c og)(ac:At h c_q (bL.cells c og))(hsigned:SlC zC h ef dZ signed)(asigned:At h signed_q [.slice ef signed.length dZ])(hsm:smR c.Register)(hco:jt c)(hln:c.Register.Docs.length<20)(hsg:dv c.Register.Docs signed=true)(hdm:d∈c.Register.Docs):Ret prog 114 [.agg (vQ d GV).toArray,.pointer (some c_q),.pointer (some signed_q)] h (.bool (kv d c signed)):=by
 refine sT func114 U ntmps114 U λX hM hX hF=>?_
 have hs0:=@rfl _ (kv d c signed)
 refine sr (ct (λb1=>qL 9 [0] U (ky (j:=7) ty3 ac U U (ai call69 (mR _ _ _ _ c.doc.No hd.Revokes) U (qO 2 U (ae hs0 U (λc1 hs1=>?_) (λc1 hs2=>?_)))))))
 .exact sr (an (nretP [.bool false] (cs hs1)))
 refine qK 5 [] U (ky (j:=5) ty27 ac U U (de ty31 asigned U (qL 3 [0] U (ky (j:=48) ty3 ac U U (ai call115 (Cd _ _ _ _ _ _ _ d.No c.at_ hc.Register.Docs hsigned ob) U (qO 11 U (aw (n2 vr (iB h ((gd c.Register.Docs signed d.No c.at_).2.2)) (mu (MJ hco hsg hdm)) U (qO 6 U (bD 3 [32,33,34,35] 32 35 ((gd c.Register.Docs signed d.No c.at_).1 != 4) U (λc2 hk1=>?_) (λe=>?_)))))))))))
 .exact ao (qO 2 U (hk1 _ U))
 exact an (nretP [.bool (((gd c.Register.Docs signed d.No c.at_).1 != 1)&&((gd c.Register.Docs signed d.No c.at_).1 != 4))] (cs hs2))
theorem pj(h:HF)(c:bL)(og:kd)(signed:List Int)(ef:Option Addr)(dZ:Nat)(hc:bL.ok h c og)(hsigned:SlC zC h ef dZ signed)(hsm:smR c.Register)(hco:jt c)(hln:c.Register.Docs.length<20)(hsg:dv c.Register.Docs signed=true):Ret prog 66 [.agg (bL.cells c og).toArray,.slice ef signed.length dZ] h (.bool (fG c signed)):=by
 refine sT func66 U ntmps66 U λX hM hX hF=>?_
 have hs0:=@rfl _ (fG c signed)
 exact sr (ct (λb1=>ct (λb2=>qL 7 [1] U (aP 1 U hM (λh1 hle1 hb1=>aP 0 U hM (λh2 hle2 hb2=>aw (dS U U (ai call113 (pH _ _ _ _ (λcj=>kv cj c signed) (.func (.func 114) #[] #[Q b1,Q b2]) (hc.Register.Docs.mono vR (hle1.t hle2)) (λh' cj wq hle My a0_o=>im call114 (ug h' cj wq c og ⟨b1,0,none⟩ signed ef dZ ⟨b2,0,none⟩ a0_o ((hc.mono (hle1.t hle2)).mono hle) (((bI hb1).mono hle2).mono hle) ((hsigned.mono zH (hle1.t hle2)).mono zH hle) ((bI hb2).mono hle) hsm hco ob hsg My))) U (an (nretP [.bool (jp c.Register.Docs (λcj=>kv cj c signed))] (cs hs0)))))))))))
theorem wi(h:HF)(c:bL)(og:kd)(signed:List Int)(ef:Option Addr)(dZ:Nat)(hc:bL.ok h c og)(hsigned:SlC zC h ef dZ signed)(hsm:smR c.Register)(hco:jt c)(hln:c.Register.Docs.length<20)(hsg:dv c.Register.Docs signed=true):Ret prog 24 [.agg (bL.cells c og).toArray,.slice ef signed.length dZ] h (.bool (eX c signed)):=by
 refine sT func24 U ntmps24 U λX hM hX hF=>?_
 have hs0:=@rfl _ (eX c signed)
 refine sr (ct (λb1=>qL 7 [0] U (aP 0 U hM (λh1 hle1 hb1=>aw (dS U U (ai M8 (jo _ _ _ _ (λcj=>ck cj c) (.func (.func 65) #[] #[Q b1]) (hc.Register.Docs.mono vR hle1) (λh' cj wq hle My a0_o=>im call65 (uv h' cj wq c og ⟨b1,0,none⟩ a0_o ((hc.mono hle1).mono hle) ((bI hb1).mono hle)))) U (qO 3 U ?_)))))))
 refine nU [(4,.bool (((decide (c.at_<c.doc.At)||decide (c.doc.Until<=c.at_))||(decide (0<=(nthI signed (ad c.Register.Docs (λcj=>ck cj c))))&&decide ((nthI signed (ad c.Register.Docs (λcj=>ck cj c)))<=c.at_)))||(fG c signed)))] (λe=>?_) (λhk1=>?_)
 rotate_left
 .refine eQ ([]) mixed kr jn (λeF _=>?_)
  refine qB [0] U (tf 1 U U (rH 48 ty3 (bI hb1) U U) (qB [2,3] U (tf 4 U U (rH 8 ty3 (bI hb1) U U) (qA [5,6] U ?_))))
  refine dt 17 U (λc1=>?_) (λc1=>?_)
  .have c1p:=of_decide_eq_true c1
   exact tk 7 U U (qR 8 28 U (aN kr (hk1 _ ⟨(cb (show true=(((decide (c.at_<c.doc.At)||decide (c.doc.Until<=c.at_))||(decide (0<=(nthI signed (ad c.Register.Docs (λcj=>ck cj c))))&&decide ((nthI signed (ad c.Register.Docs (λcj=>ck cj c)))<=c.at_)))||(fG c signed))from by rw[c1]<;>rfl)),trivial⟩)))
  have c1p:=of_decide_eq_false c1
  refine qB [7] U (tf 8 U U (rH 48 ty3 (bI hb1) U U) (qB [9,10] U (tf 11 U U (rH 12 ty3 (bI hb1) U U) (qR 12 3 U ?_))))
  refine dt 25 U (λc2=>?_) (λc2=>?_)
  .have c2p:=of_decide_eq_true c2
   exact tk 15 U U (qR 16 20 U (aN kr (hk1 _ ⟨(cb (show true=(((decide (c.at_<c.doc.At)||decide (c.doc.Until<=c.at_))||(decide (0<=(nthI signed (ad c.Register.Docs (λcj=>ck cj c))))&&decide ((nthI signed (ad c.Register.Docs (λcj=>ck cj c)))<=c.at_)))||(fG c signed))from by rw[c1,c2]<;>rfl)),trivial⟩)))
  have c2p:=of_decide_eq_false c2
  refine qA [15,16] U ?_
  have ho1:0<=((ad c.Register.Docs (λcj=>ck cj c)):Int)/\((ad c.Register.Docs (λcj=>ck cj c)):Int)<((signed).length:Int):=(GW hco hsg)
  refine fF 17 (enc:=λy=>[I y]) eF jn ei eG ty3 (hsigned.mono zH hle1).1 ho1 (dy ho1) U U U U kr (λq1 A1=>tf 18 U U (rh ty3 A1 U) (qA [19,20] U ?_))
  refine dt 31 U (λc3=>?_) (λc3=>?_)
  .have c3p:=of_decide_eq_true c3
   refine qA [21,22] U ?_
   have ho2:0<=((ad c.Register.Docs (λcj=>ck cj c)):Int)/\((ad c.Register.Docs (λcj=>ck cj c)):Int)<((signed).length:Int):=(GW hco hsg)
   refine fF 23 (enc:=λy=>[I y]) eF jn ei eG ty3 (hsigned.mono zH hle1).1 ho2 (dy ho2) U U U U kr (λq2 A2=>tf 24 U U (rh ty3 A2 U) (qB [25] U (tf 26 U U (rH 48 ty3 (bI hb1) U U) (qR 27 4 U ?_))))
   refine dt 41 U (λc4=>?_) (λc4=>?_)
   .have c4p:=of_decide_eq_true c4
    exact tk 31 U U (qR 32 4 U (aN kr (hk1 _ ⟨(cb (show true=(((decide (c.at_<c.doc.At)||decide (c.doc.Until<=c.at_))||(decide (0<=(nthI signed (ad c.Register.Docs (λcj=>ck cj c))))&&decide ((nthI signed (ad c.Register.Docs (λcj=>ck cj c)))<=c.at_)))||(fG c signed))from by rw[c1,c2,c3,c4]<;>rfl)),trivial⟩)))
   have c4p:=of_decide_eq_false c4
   exact tf 31 U U (λ_ _ hj=>kU ty72 ((bI hb1).mono hj.1) U U) (tm 32 U (tn 33 U (fg call66 (pj _ _ _ _ _ _ (hc.mono hle1) (hsigned.mono zH hle1) ob ob ob ob) U (⟨jn,(qA [34,35] U (aN kr (hk1 _ ⟨(cb (show(fG c signed)=(((decide (c.at_<c.doc.At)||decide (c.doc.Until<=c.at_))||(decide (0<=(nthI signed (ad c.Register.Docs (λcj=>ck cj c))))&&decide ((nthI signed (ad c.Register.Docs (λcj=>ck cj c)))<=c.at_)))||(fG c signed))from by rw[c1,c2,c3,c4]<;>rfl)),trivial⟩)))⟩))))
  have c3p:=of_decide_eq_false c3
  exact tk 21 U U (qR 22 9 U (tf 31 U U (λ_ _ hj=>kU ty72 ((bI hb1).mono hj.1) U U) (tm 32 U (tn 33 U (fg call66 (pj _ _ _ _ _ _ (hc.mono hle1) (hsigned.mono zH hle1) ob ob ob ob) U (⟨jn,(qA [34,35] U (aN kr (hk1 _ ⟨(cb (show(fG c signed)=(((decide (c.at_<c.doc.At)||decide (c.doc.Until<=c.at_))||(decide (0<=(nthI signed (ad c.Register.Docs (λcj=>ck cj c))))&&decide ((nthI signed (ad c.Register.Docs (λcj=>ck cj c)))<=c.at_)))||(fG c signed))from by rw[c1,c2,c3]<;>rfl)),trivial⟩)))⟩))))))
 exact nretP [.bool (((decide (c.at_<c.doc.At)||decide (c.doc.Until<=c.at_))||(decide (0<=(nthI signed (ad c.Register.Docs (λcj=>ck cj c))))&&decide ((nthI signed (ad c.Register.Docs (λcj=>ck cj c)))<=c.at_)))||(fG c signed))] (cs hs0)
theorem BU(h:HF)(c:bL)(og:kd)(c_q:Addr)(signed:List Int)(ef:Option Addr)(dZ:Nat)(signed_q:Addr)(hc:bL.ok h c og)(ac:At h c_q (bL.cells c og))(hsigned:SlC zC h ef dZ signed)(asigned:At h signed_q [.slice ef signed.length dZ])(hsm:smR c.Register)(hco:jt c)(hln:c.Register.Docs.length<20)(hsg:dv c.Register.Docs signed=true):Ret prog 23 [.pointer (some c_q),.pointer (some signed_q)] h (.bool (yQ c signed)):=by
 refine sT func23 U ntmps23 U λX hM hX hF=>?_
 have hs0:=@rfl _ (yQ c signed)
 exact sr (qO 4 U (dl ty72 ac U U (de ty31 asigned U (ai call24 (wi _ _ _ _ _ _ hc hsigned ob ob ob ob) U (an (nretP [.bool (eX c signed)] (cs hs0)))))))
theorem u9(h:HF)(eS:Int)(v0:List Int)(tP:Option Addr)(tN:Nat)(v0_q:Addr)(hv0:SlC zC h tP tN v0)(av0:At h v0_q [.slice tP v0.length tN]):Ret prog 68 [I eS,.pointer (some v0_q)] h (.bool (lr eS v0)):=by
 refine sT func68 U ntmps68 U λX hM hX hF=>?_
 have hs0:=@rfl _ (lr eS v0)
 exact sr (qO 4 U (de ty31 av0 U (ao (ai call69 (mR _ _ _ _ eS hv0) U (qO 3 U (nretP [.bool (!(eH v0 eS))] (cs hs0)))))))
theorem w9(h:HF)(c:bL)(og:kd)(signed:List Int)(ef:Option Addr)(dZ:Nat)(hc:bL.ok h c og)(hsigned:SlC zC h ef dZ signed)(hsm:smR c.Register)(hco:jt c)(hln:c.Register.Docs.length<20)(hsg:dv c.Register.Docs signed=true):Ret prog 26 [.agg (bL.cells c og).toArray,.slice ef signed.length dZ] h (.bool (hY c signed)):=by
 refine sT func26 U ntmps26 U λX hM hX hF=>?_
 have hs0:=@rfl _ (hY c signed)
 refine sr (ct (λb1=>qL 10 [0,0] U (aw (cJ call20 (qZ _ _ _ _ _ _ _ c.at_ hc.Register.Docs hsigned ob) U (λv1 h1 hle1 hp1=>?_)))))
 obtain⟨rb1,rc1,rfl,sl1⟩:=hp1
 exact ao (qO 2 U (aU zc31 (λb2=>cB 0 ty31 U U U U U U (qO 5 U (aw (n2 vr (iB h1 ((bW c.Register.Docs signed c.at_).2)) (mu (FU hco hsg)) U (qL 6 [1] U (aP 0 U hM (λh2 hle2 hb1=>aw (dS U U (ai Iq (gT _ _ _ _ (λcj=>lr cj ((bW c.Register.Docs signed c.at_).1)) (.func (.func 68) #[] #[Q b2]) (hc.doc.Needs.mono zH (hle1.t hle2)) (λh' cj hle=>im call68 (u9 h' cj ((bW c.Register.Docs signed c.at_).1) rb1 rc1 ⟨b2,0,none⟩  ((sl1.mono zH hle2).mono zH hle) ((bI hb1).mono hle)))) U (an (nretP [.bool (da c.doc.Needs (λcj=>lr cj ((bW c.Register.Docs signed c.at_).1)))] (cs hs0))))))))))))))
theorem BT(h:HF)(c:bL)(og:kd)(c_q:Addr)(signed:List Int)(ef:Option Addr)(dZ:Nat)(signed_q:Addr)(hc:bL.ok h c og)(ac:At h c_q (bL.cells c og))(hsigned:SlC zC h ef dZ signed)(asigned:At h signed_q [.slice ef signed.length dZ])(hsm:smR c.Register)(hco:jt c)(hln:c.Register.Docs.length<20)(hsg:dv c.Register.Docs signed=true):Ret prog 25 [.pointer (some c_q),.pointer (some signed_q)] h (.bool (yP c signed)):=by
 refine sT func25 U ntmps25 U λX hM hX hF=>?_
 have hs0:=@rfl _ (yP c signed)
 exact sr (qO 4 U (dl ty72 ac U U (de ty31 asigned U (ai call26 (w9 _ _ _ _ _ _ hc hsigned ob ob ob ob) U (an (nretP [.bool (hY c signed)] (cs hs0)))))))
theorem rE(h:HF)(s:List Version)(pU:Option Addr)(pI:Nat)(f:(Version->Bool))(f_v:Value)(hs:SlC Version.rp h pU pI s)(hf:∀(h':HF)(cj:Version)(wq:pE),kK h h'->TU h' cj wq->sZ prog f_v [.agg (kS cj wq).toArray] h' [] (.bool (f cj))):Ret prog 121 [.slice pU s.length pI,f_v] h (I (bq s f)):=by
 refine sT func121 U ntmps121 U λX hM hX hF=>?_
 have hs0:=@rfl _ (bq s f)
 refine qK 11 [] U ?_
 refine lp0 s (λi=>[(0,.slice pU s.length pI),(1,f_v),(7,I (s.length:Int)),(8,I (i:Int))]) ([]) (λs1 i=>(bq.L1 f (bq.K1)) s1 i) hs.1.1 hs0 ?_ ?_
 .rintro i1 fB hs1 e
  exact sr (an (nretP [I (-1)] (ci hs1)))
 rintro i1 y1 rz1 hd1 du bo eA gD hs3 hx1 ag1 e
 refine sr (tO du U (qO 16 U (aw (iR wC ty96 hs.1 bo U U U (λ_ _ _ e=>e) (λq2 r2 A2 ok2=>dl ty96 A2 U U (aw (lX (v:=.bool (f y1)) [] (List.nil_sublist _) (hf h y1 r2 lf ok2) U U (aH (ae hs3 U (λc2 hs4=>?_) (λc2 hs5=>?_))))))))))
 .exact sr (qO 3 U (nretP [I (i1:Int)] (ci hs4)))
 exact aQ (qT 2 U (oi i1 U (qO 2 U (ag1 hs5))))
theorem Dl(s:List Version)(f:Version->Bool):bq s f<(s.length:Int):=by
 have key:∀(l:List Version)(i:Nat),bq.L1 f bq.K1 l i<((i+l.length:Nat):Int):=by
  intro l
  induction l with
  |nil=>intro i;simp only[bq.L1,bq.K1];omega
  |cons y l ih=>
   intro i
   simp only[bq.L1,Bool.cond_eq_ite,zA]
   split
   .omega
   have:=ih (i+1);omega
 have:=key s 0
 simpa[bq]using this
theorem uu(h:HF)(v:Version)(RB:pE)(v0:Int)(v0_q:Addr)(hv:TU h v RB)(av0:At h v0_q [I v0]):Ret prog 122 [.agg (kS v RB).toArray,.pointer (some v0_q)] h (.bool (eK v v0)):=by
 refine sT func122 U ntmps122 U λX hM hX hF=>?_
 have hs0:=@rfl _ (eK v v0)
 exact sr (ct (λb1=>qL 6 [0] U (de ty3 av0 U (qO 3 U (nretP [.bool (v.No==v0)] (cs hs0))))))
theorem we(h:HF)(c:bL)(og:kd)(no:Int)(hc:bL.ok h c og):G0 prog 71 [.agg (bL.cells c og).toArray,I no] h errV (fE c no) (λ(r:Policy)v h'=>∃(rr0:eU),v=.agg (kD r rr0).toArray/\Policy.ok h' r rr0):=by
 refine cD func71 U ntmps71 U λX hM hX=>?_
 have hs0:=@rfl _ (fE c no)
 refine sr (ct (λb1=>ct (λb2=>aU zc94 (λb3=>qL 6 [2] U (aP 1 U hM (λh1 hle1 hb1=>aw (dS U U (ai call121 (rE _ _ _ _ (λcj=>eK cj no) (.func (.func 122) #[] #[Q b2]) (hc.Register.Versions.mono vV hle1) (λh' cj wq hle a0_o=>im call122 (uu h' cj wq no ⟨b2,0,none⟩ a0_o ((bI hb1).mono hle)))) U (qO 8 U (ae hs0 U (λc1 hs1=>?_) (λc1 hs2=>?_)))))))))))
 .have c1p:=of_decide_eq_true c1
  exact bu (aw (ff (Dx J8 U U) (aw (Dt U xX (λe=>gk (Iu [] func71 hs1))))))
 have c1p:=of_decide_eq_false c1
 refine qK 7 [1] U ?_
 have ho1:0<=((bq c.Register.Versions (λcj=>eK cj no)):Int)/\((bq c.Register.Versions (λcj=>eK cj no)):Int)<((c.Register.Versions).length:Int):=(by have hq:=Dl c.Register.Versions (λcj=>eK cj no);simp only[decide_eq_true_eq,decide_eq_false_iff_not,jB,xD,kC,Bool.not_eq_false',Bool.and_eq_false_iff,Bool.or_eq_false_iff,beq_iff_eq,beq_eq_false_iff_ne,bne_iff_ne,bne_eq_false_iff_eq,kA,zA,vB,List.length_drop]at *;omega)
 refine aw (BG wC ty96 (hc.Register.Versions.mono vV hle1).1 ho1 (dy ho1) U U U (λ_ _ _ e=>e) (λq1 r1 A1 ok1=>qL 1 [] U (zm (j:=3) ty94 A1 U U (aR 0 ty94 U U U U U U (aH ?_)))))
 have hs3:fE c no=(Except.ok ((nthI c.Register.Versions (bq c.Register.Versions (λcj=>eK cj no))).Policy)):=hs2
 exact dQ (Is [] [.agg (kD ((nthI c.Register.Versions (bq c.Register.Versions (λcj=>eK cj no))).Policy) r1.Policy).toArray] func71 U ⟨⟨0,_,_,_,_,U,U,.inl ⟨ty94,U⟩⟩,trivial⟩ hs3 ⟨r1.Policy,U,ok1.Policy⟩)
theorem ri(h:HF)(s:List Approval)(pU:Option Addr)(pI:Nat)(f:(Approval->Bool))(f_v:Value)(hs:SlC xM h pU pI s)(hf:∀(h':HF)(cj:Approval),kK h h'->sZ prog f_v [.agg (zD cj).toArray] h' [] (.bool (f cj))):Ret prog 266 [.slice pU s.length pI,f_v] h (I (cV s f)):=by
 refine sT func266 U ntmps266 U λX hM hX hF=>?_
 have hs0:=@rfl _ (cV s f)
 refine qK 11 [] U ?_
 refine lp0 s (λi=>[(0,.slice pU s.length pI),(1,f_v),(7,I (s.length:Int)),(8,I (i:Int))]) ([]) (λs1 i=>(cV.L1 f (cV.K1)) s1 i) hs.1.1 hs0 ?_ ?_
 .rintro i1 fB hs1 e
  exact sr (an (nretP [I (-1)] (ci hs1)))
 rintro i1 y1 rz1 hd1 du bo eA gD hs3 hx1 ag1 e
 refine sr (tO du U (qO 16 U (aw (iF zD Ai ty163 hs.1 bo U U U (λq2 A2=>dl ty163 A2 U U (aw (lX (v:=.bool (f y1)) [] (List.nil_sublist _) (hf h y1 lf) U U (aH (ae hs3 U (λc2 hs4=>?_) (λc2 hs5=>?_))))))))))
 .exact sr (qO 3 U (nretP [I (i1:Int)] (ci hs4)))
 exact aQ (qT 2 U (oi i1 U (qO 2 U (ag1 hs5))))
theorem qi(x:Approval):(zD x).length=8:=rfl
theorem yS(f:Approval->Bool):∀(l:List Approval)(i:Nat),(cV.L1 f cV.K1 l i=-1/\∀x∈l,f x=false) \/
  ∃a y b,l=a++y::b/\cV.L1 f cV.K1 l i=((i+a.length:Nat):Int)/\f y=true/\∀x∈a,f x=false
 |[],i=>.inl ⟨rfl,λ_ h=>(jA h).elim⟩
 |y::l,i=>by
  simp only[cV.L1]
  cases hy:f y with
  |true=>exact .inr ⟨[],y,l,rfl,by simp,hy,λ_ h=>(jA h).elim⟩
  |false=>
   rcases yS f l (i+1)with⟨h1,h2⟩|⟨a,z,b,rfl,h2,h3,h4⟩
   .exact .inl ⟨h1,λx hx=>by rcases qC.1 hx with rfl|hx;exact hy;exact h2 x hx⟩
   refine .inr ⟨y::a,z,b,rfl,?_,h3,λx hx=>by rcases qC.1 hx with rfl|hx;exact hy;exact h4 x hx⟩
   rw[cond_false,h2];simp only[zA];congr 1;omega
theorem Bv{l:List Approval}(h:∀x∈l,q x=false):(l.filter λx=>!(q x))=l:=by
 rw[List.filter_eq_self];intro x hx;simp[h x hx]
theorem MP{s zs:List Approval}{j:Nat}(hij:i<j)(hz:zs.length=s.length)(hj:s[j]? = some y)(ht:zs.take i=(s.take j).filter λx=>!(q x))(hd:zs.drop j=s.drop j)(hy:q y=false):
  (zs.set i y).take (i+1)=((s.take (j+1)).filter λx=>!(q x))/\(zs.set i y).drop (j+1)=s.drop (j+1):=by
 have hjl:j<s.length:=by
  rcases vK j s.length with h|h
  .exact h
  simp[List.getElem?_eq_none h]at hj
 constructor
 .rw[List.take_add_one,List.take_set_of_le (xG _),ht,List.take_add_one,hj,List.filter_append]
  simp[hy,show i<zs.length from by omega]
 rw[List.drop_set_of_lt ob,←List.drop_drop,hd,List.drop_drop]
theorem MO{s zs:List Approval}{j:Nat}(hj:s[j]? = some y)(ht:zs.take i=(s.take j).filter λx=>!(q x))(hd:zs.drop j=s.drop j)(hy:q y=true):
  zs.take i=((s.take (j+1)).filter λx=>!(q x))/\zs.drop (j+1)=s.drop (j+1):=by
 constructor
 .rw[List.take_add_one,hj,List.filter_append,ht];simp[hy]
 rw[←List.drop_drop,hd,List.drop_drop]
theorem Bw{xs:List Approval}{bk c:Nat}{sp:List Value}(h3:(xs.flatMap zD++sp).length=c*8)(h4:xs.length<=c)(h5:xs.length<=9223372036854775807):dA xM 163 h xs (some ⟨bk,0,none⟩) c [(bk,.cells (xs.flatMap zD++sp).toArray 163 (0,0))]:=
 .inr ⟨bk,_,sp,rfl,Fa (λ_ _=>rfl) qi h xs,h3,h4,h5,rfl⟩
theorem ql(h:HF)(s:List Approval)(b:Option Addr)(c:Nat)(G:LH)(del:Approval->Bool)(del_v:Value)(hG:dA xM 163 h s b c G)(hdel:∀(h':HF)(cj:Approval),kK h h'->sZ prog del_v [.agg (zD cj).toArray] h' [] (.bool (del cj)))(hsz:s.length<=2000000):
  nL prog 233 [.slice b s.length c,del_v].toArray h G (λr h' G'=>h'=h/\r=.returned (.slice b (fI s del).length c)/\dA xM 163 h (fI s del) b c G'):=by
 refine cD func233 U ntmps233 U λX hM hX=>qT 8 U (aw (AB [] G [] call266 kL hG (by simp) (λh1 hle hsl=>ri h1 s b c del del_v hsl (λh' a hl=>hdel h' a (hle.t hl))) U (qO 6 U ?_)))
 have hcase:=yS del s 0
 rw[show cV.L1 del cV.K1 s 0=cV s del from rfl]at hcase
 rcases hcase with⟨h1,h2⟩|⟨a,y,r,hs,h1,hy,ha⟩
 .rw[h1]
  refine iq (v':=.bool true) U U (qO 7 U ?_)
  have hf:fI s del=s:=Bv h2
  refine m9 func233 (λa ha w hw=>res1 U a ha w) (λw hw=>hw.lower) ⟨hX,?_,?_⟩
  .rw[hf];rfl
  rw[hf];exact hG
 rw[h1,Nat.zero_add]
 have hne:((a.length:Int)==-1)=false:=by simp
 have hsl:s.length=a.length+(r.length+1):=by rw[hs];simp
 refine fO hne U (qO 7 U (iq (v':=I ((a.length+1:Nat):Int)) U (Ab ob) (an ?_)))
 refine iA (ι:=Nat×List Approval×LH) (λi=>[(0,.slice b s.length c),(1,del_v),(5,I (i.1:Int))]) (λi=>h) (λi=>i.2.2)
  (λi=>i.1<s.length/\i.2.1.length=s.length/\i.2.1.take i.1=fI s del/\dA xM 163 h i.2.1 b c i.2.2) ?_ (λhx=>?_)
 .rintro⟨i,zs,G'⟩ ⟨hi,hz,hf,hG'⟩ e
  dsimp only at hi hz hf hG'
  rcases hG' with⟨rfl,_⟩|⟨bk,cl,sp,rfl,hcl,h3,h4,h5,rfl⟩
  .simp at hz;omega
  have hcl':=Ae (C:=zD) (λ_ _ _ e=>e) hcl
  subst hcl'
  have hcz:zs.length<=c:=h4
  have hzl:=sO qi zs
  have h3':zs.length*8+sp.length=c*8:=by rw[←hzl,←kA];exact h3
  have hzn:(i:Int).toNat=i:=by omega
  have hgf:dA xM 163 h zs (some ⟨bk,0,none⟩) c [(bk,.cells (zs.flatMap zD++sp).toArray 163 (0,0))]:=Bw h3 h4 h5
  obtain⟨m,hm⟩:∃m,s.length-i=m+1:=⟨s.length-i-1,by omega⟩
  refine qT 4 U (aw (ff (v:=.slice (some ⟨bk,i*8,none⟩) (m+1) (c-i)) (Kk Ai ty163 U U ob ob hm) (aw (Mh (P:=prog) 0 (sz:=8) (zs:=[I 0,I 0,I 0,I 0,I 0,I 0,I 0,.bool false]) (bk:=bk) (cl:=zs.flatMap zD++sp) (cc:=c-i) Ai (e8 zv163) U U (by decide) (by decide) U U (off:=i*8) (m:=m) (by rw[kA,hzl];omega) (λvs hvl=>?_)))))
  have hsp:∃sp',splice (zs.flatMap zD++sp) (i*8) vs=(zs.take i).flatMap zD++sp':=by
   have e1:zs.flatMap zD++sp=(zs.take i).flatMap zD++((zs.drop i).flatMap zD++sp):=by
    rw[←qE,←List.flatMap_append,List.take_append_drop]
   rw[e1]
   have e2:i*8=((zs.take i).flatMap zD).length:=by rw[sO qi,List.length_take];congr 1;omega
   have:=um vs ((zs.take i).flatMap zD) ((zs.drop i).flatMap zD++sp) (by rw[kA,sO qi,List.length_drop,hvl];omega)
   rw[←e2]at this
   exact⟨_,this⟩
  obtain⟨sp',hsp⟩:=hsp
  have hlen:((zs.take i).flatMap zD++sp').length=c*8:=by
   rw[←hsp,yO];exact h3
  show TO _ _ _ _ _ _ _ _ _ _ h [(bk,.cells (splice (zs.flatMap zD++sp) (i*8) vs).toArray 163 (0,0))]
  rw[hsp]
  have hg2:dA xM 163 h (zs.take i) (some ⟨bk,0,none⟩) c [(bk,.cells ((zs.take i).flatMap zD++sp').toArray 163 (0,0))]:=
   Bw hlen (by rw[List.length_take];omega) (by rw[List.length_take];omega)
  refine qO 5 U (aw (DZ (z:=(i:Int)) Ai ty163 hgf ob (by show _=Value.slice _ _ _;rw[hz];rfl) U U (an ?_)))
  refine m9 func233 (λa ha w hw=>res1 U a ha w) (λw hw=>hw.lower) ⟨hX,?_,?_⟩
  .rw[←hf,hzn];rfl
  rw[←hf];exact hg2
 refine kl (ι:=Nat×Nat×List Approval×LH) (λi=>[(0,.slice b s.length c),(1,del_v),(5,I (i.1:Int)),(6,I (i.2.1:Int))]) (λi=>h) (λi=>i.2.2.2)
  (λi=>i.1<i.2.1/\i.2.1<=s.length/\i.2.2.1.length=s.length/\i.2.2.1.take i.1=((s.take i.2.1).filter λx=>!(del x))/\i.2.2.1.drop i.2.1=s.drop i.2.1/\dA xM 163 h i.2.2.1 b c i.2.2.2)
  (λi=>s.length-i.2.1) (a.length,a.length+1,s,G) rd (λw hw=>hw) ⟨Nat.lt_succ_self _,by show a.length+1<=s.length;omega,rfl,?_,rfl,hG⟩ ?_
 .show s.take a.length=((s.take (a.length+1)).filter λx=>!(del x))
  rw[hs,List.take_left' rfl,List.take_add_one,List.take_left' rfl,List.filter_append,Bv ha];simp[hy]
 rintro⟨i,j,zs,G'⟩ ⟨hij,hjl,hz,ht,hd,hG'⟩ ag e
 dsimp only at hij hjl hz ht hd hG'
 rcases vK j s.length with hj|hj
 .have hjs:s[j]? = some s[j]:=vF hj
  have hjz:zs[j]? = some s[j]:=by
   have e1:(zs.drop j)[0]? = (s.drop j)[0]?:=by rw[hd]
   simpa[hjs]using e1
  have hiz:zs[i]? = some zs[i]:=vF ob
  rcases hG' with⟨rfl,_⟩|⟨bk,cl,sp,rfl,hcl,h3,h4,h5,rfl⟩
  .simp at hz;omega
  have hcl':=Ae (C:=zD) (λ_ _ _ e=>e) hcl
  subst hcl'
  refine qK 6 [] U (tO (decide_eq_true ob) U (qO 9 U (aw (ff (nX (R:=xM) (xs:=zs) (z:=(j:Int)) Ai ty163 U ob U hz.symm U) (aw (ff (jZ (off:=j*8) (cs:=zD s[j]) ty163 U (xC.2 U) (OL qi hjz)) (aU zc163 (λb7=>aR 0 ty163 U U U U U U (qO 4 U (cI 0 ty163 U U U (aw (lX (v:=.bool (del s[j])) [] (List.nil_sublist _) (hdel h s[j] lf) U U ?_))))))))))))
  cases hy:del s[j]with
  |true=>
   obtain⟨k1,k2⟩:=MO hjs ht hd hy
   exact lL U (qO 6 U (oi j U (an (bj (L':=[(bk,.cells (zs.flatMap zD++sp).toArray 163 (0,0))]) js (ag (i,j+1,zs,[(bk,.cells (zs.flatMap zD++sp).toArray 163 (0,0))]) _ (by show s.length-(j+1)<s.length-j;omega) ⟨by show i<j+1;omega,hj,hz,k1,k2,Bw h3 h4 h5⟩ rd)))))
  |false=>
   obtain⟨k1,k2⟩:=MP hij hz hjs ht hd hy
   refine qO 7 U (cI 0 ty163 U U U (aw (ff (nX (R:=xM) (xs:=zs) (z:=(i:Int)) Ai ty163 U ob U hz.symm U) (aw (kO 1 (off:=i*8) (vs:=zD s[j]) ty163 U U U U (by rw[kA,sO qi,qi];exact Nat.ble_eq_true_of_le ob) U ?_)))))
   have hsl2:setNth [(b7,O (zD s[j]) 163),(bk,.cells (zs.flatMap zD++sp).toArray 163 (0,0))] 1 (bk,.cells (splice (zs.flatMap zD++sp) (i*8) (zD s[j])).toArray 163 (0,0))=[(b7,O (zD s[j]) 163),(bk,.cells ((zs.set i s[j]).flatMap zD++sp).toArray 163 (0,0))]:=by
    rw[Ix qi hiz];rfl
   refine gS hsl2 (qO 3 U (oi i U (qO 5 U (oi j U (an (bj (L':=[(bk,.cells ((zs.set i s[j]).flatMap zD++sp).toArray 163 (0,0))]) js ?_))))))
   have hzl2:(zs.set i s[j]).length=s.length:=by rw[List.length_set];exact hz
   exact ag (i+1,j+1,zs.set i s[j],[(bk,.cells ((zs.set i s[j]).flatMap zD++sp).toArray 163 (0,0))]) _ (by show s.length-(j+1)<s.length-j;omega) ⟨by show i+1<j+1;omega,hj,hzl2,k1,k2,Bw (by rw[kA,sO qi,List.length_set,←sO qi,←kA];exact h3) (by rw[List.length_set];exact h4) (by rw[List.length_set];exact h5)⟩ rd
 have hje:j=s.length:=by omega
 subst hje
 exact qK 6 [] U (fO (decide_eq_false ob) U (qO 3 U (hx (i,zs,G') _ ⟨hij,hz,by show zs.take i=_;rw[ht,List.take_length];rfl,hG'⟩ rd)))
theorem uF(h:HF)(v0:List Approval)(tP:Option Addr)(tN:Nat)(v0_q:Addr)(v1:Int)(v1_q:Addr)(v2:Int)(v2_q:Addr)(v3:Int)(v3_q:Addr)(hv0:SlC xM h tP tN v0)(av0:At h v0_q [.slice tP v0.length tN])(av1:At h v1_q [I v1])(av2:At h v2_q [I v2])(av3:At h v3_q [I v3]):Itr prog (.func (.func 283) #[] (kB [.pointer (some v0_q),.pointer (some v1_q),.pointer (some v2_q),.pointer (some v3_q)])) pk (bO v0 v1 v2 v3) h:=by
 refine rl call283 ?_
 intro yf ya yb C Sp Pn h1 A hle m1 m2 m3 hC hy
 refine iN J5 U ntmps283 U λX hXM hX=>?_
 have hs0:bO v0 v1 v2 v3=[]++bO v0 v1 v2 v3:=rfl
 refine sr (de ty28 (av0.mono hle) U (qL 3 [] U ?_))
 refine lp2 v0 (λi w=>[(0,.func yf ya yb),(2,.pointer (some v1_q)),(3,.pointer (some v2_q)),(4,.pointer (some v3_q)),(8,.slice tP v0.length tN),(9,I (v0.length:Int)),(10,I (i:Int))]) (λw=>w.2.2) (λw=>w.2.1) (λi w=>C w.1 w.2.2 w.2.1/\kK h1 w.2.2) (λs1 i w=>w.1++(bO.L1 v1 v2 v3 (bO.K1)) s1) ([],A,h1) ((hv0.mono kL hle).1.1) hs0 ⟨hC,lf⟩ ?_ ?_
 .rintro i1 ⟨dn1,A1_,hh1⟩ fB hs1 ⟨hC1_,hl1⟩ e
  refine dQ ?_
  have hs2:bO v0 v1 v2 v3=dn1:=hs1.trans (List.append_nil _)
  exact rm [] (A:=A1_) J5 U (List.Sublist.refl _) (.inl (hs2▸hC1_))
 rintro i1 ⟨dn1,A1_,hh1⟩ y1 rz1 hd1 du bo eA gD hs3 ⟨hC1_,hl1⟩ hx1 ag1 e
 refine sr (tO du U (qO 8 U (aw (iF zD Ai ty163 (hv0.mono kL (hle.t hl1)).1 bo U U U (λq2 A2=>dl ty163 A2 U U (aU zc163 (λb2=>aR 0 ty163 U U U U U U (gS (L':=[(b2,O (zD y1) 163)]++(A1_)) U (qL 5 [0] U (de ty3 (av1.mono (hle.t hl1)) U (qO 2 U (bD 5 [18,19,20,21,22,23] 18 23 (decide (y1.At<=v2)) U (λc1 hk1=>?_) (λe=>?_)))))))))))))
 .exact qL 2 [0] U (de ty3 (av2.mono (hle.t hl1)) U (qO 2 U (hk1 _ U)))
 refine ao (bD 5 [24,25,26,27,28,29] 24 29 (decide (y1.Known<=v3)) U (λc2 hk2=>?_) (λe=>?_))
 .exact qL 2 [0] U (de ty3 (av3.mono (hle.t hl1)) U (qO 2 U (hk2 _ U)))
 refine ao (nq 30 U (λc3=>?_) (λc3=>?_))
 .have hs4:=hs3.trans (congrArg (dn1++·) (bt c3))
  refine ao (cI 0 ty163 U U U ?_)
  have hx1:bO v0 v1 v2 v3=dn1++(y1::(bO.L1 v1 v2 v3 (bO.K1) rz1)):=hs4
  refine aw (j2 ([(b2,O (zD y1) 163)]) A1_ ap (hy dn1 y1 _ _ _ _ hx1 hl1 hC1_ U) U U (λh2 A3 hle1 hC1=>?_) (λh3 A4 hle2 hS1=>?_) (λch1 h4 A5 hle3 hP1 e=>gk (mC [] (A:=A5) J5 (List.sublist_append_right _ _) hP1)))
  .have hs5:bO v0 v1 v2 v3=(dn1++[y1])++((bO.L1 v1 v2 v3 (bO.K1) rz1)):=hx1.trans ap
   exact lL U (qO 6 U (oi i1 U (qO 2 U (bj (L':=A3) js (ag1 ((dn1++[y1]),A3,h2) hs5 ⟨hC1,(hl1.t hle1)⟩)))))
  exact lL U (qO 3 U (dQ (mi [] (A:=A4) J5 U js (.inr hS1))))
 have hs6:=hs3.trans (congrArg (dn1++·) (bf c3))
 exact kq (qO 8 U (oi i1 U (qO 2 U (bj (L':=A1_) js (ag1 (dn1,A1_,hh1) hs6 ⟨hC1_,hl1⟩)))))
theorem pS(h:HF)(l:List Approval)(fq:Option Addr)(fp:Nat)(doc:Int)(ba:Int)(known:Int)(hl:SlC xM h fq fp l):jY prog 267 [.slice fq l.length fp,I doc,I ba,I known] h (λv h'=>∃(rv0:Value),v=rv0/\Itr prog rv0 pk (fj l doc ba known) h'):=by
 refine sT func267 U ntmps267 U λX hM hX hF=>?_
 have hs0:=@rfl _ (fj l doc ba known)
 refine sr (ct (λb1=>ct (λb2=>ct (λb3=>ct (λb4=>qO 4 U (aP 3 U hM (λh1 hle1 hb1=>aP 2 U hM (λh2 hle2 hb2=>aP 1 U hM (λh3 hle3 hb3=>aP 0 U hM (λh4 hle4 hb4=>aw (dS U U (an ?_))))))))))))
 have hs1:fj l doc ba known=(bO l doc ba known):=hs0
 exact nretH [.func (.func 283) #[] #[Q b1,Q b2,Q b3,Q b4]] (hs1▸⟨(.func (.func 283) #[] #[Q b1,Q b2,Q b3,Q b4]),U,(uF h4 l fq fp ⟨b1,0,none⟩ doc ⟨b2,0,none⟩ ba ⟨b3,0,none⟩ known ⟨b4,0,none⟩ (hl.mono kL (((hle1.t hle2).t hle3).t hle4)) ((bI hb1).mono ((hle2.t hle3).t hle4)) ((bI hb2).mono (hle3.t hle4)) ((bI hb3).mono hle4) (bI hb4))⟩)
theorem pC(l:List Approval)(doc ba known:Int):(fj l doc ba known).length<=l.length:=by
 show(bO.L1 doc ba known bO.K1 l).length<=l.length
 induction l with
 |nil=>exact xG _
 |cons y l ih=>simp only[bO.L1,Bool.cond_eq_ite];split<;>simp only[zA]<;>omega
theorem iX(h:HF)(x:Approval)  : Ret prog 268 [.agg (zD x).toArray] h (.agg (fe.cells (cf x)).toArray):=by
 refine cD func268 U ntmps268 U λX hM hX=>?_
 have hs0:=@rfl _ (cf x)
 refine sr (ct (λb1=>aU zc328 (λb2=>qL 11 [1,1,1,1] U (aw (eY (cells:=[I x.Doc,I x.By,I x.For,I x.Office]) (places:=[(0,1),(1,1),(2,1),(3,1)]) Ni zc328 kr kr (aR 0 ty328 U U U U U U (aH ?_)))))))
 have hs1:cf x=(fe.mk x.Doc x.By x.For x.Office):=hs0
 exact s8 [.agg (kB [I x.Doc,I x.By,I x.For,I x.Office])] func268 U hX ⟨⟨0,_,_,_,_,U,U,.inl ⟨ty328,U⟩⟩,trivial⟩ (congrArg (λr:fe=>(.agg (fe.cells r).toArray:Value)) hs1.symm)
theorem wo(h:HF)(l:List Approval)(fq:Option Addr)(fp:Nat)(doc:Int)(ba:Int)(known:Int)(hl:SlC xM h fq fp l)(hsz:l.length<=2000000):Ri prog 234 [.slice fq l.length fp,I doc,I ba,I known] h xM 163 (aJ l doc ba known):=by
 refine cD J4 U ntmps234 U λX hM hX=>?_
 have hs0:=@rfl _ (aJ l doc ba known)
 refine sr (aU zc28 (λb1=>qO 3 U (aw (na (λb2=>aU zc324 (λb3=>cB 0 ty324 U U U U U U (qO 8 U (aw (cJ call267 (pS _ _ _ _ doc ba known hl) U (λv1 h1 hle1 hp1=>?_))))))))))
 obtain⟨_,rfl,mo1⟩:=hp1
 refine qO 2 U (dQ ?_)
 let z1:Nat×Obj:=(b3,O [.map (some b2)] 324)
 let z2:Nat×Obj:=(b1,O [.slice none 0 0] 28)
 refine cu (L':=([z1,(b2,.map #[] 0),z2])++markB []) ap ?_
 refine jw (it:=v1) (xs:=(fj l doc ba known)) (ι:=(List (fe×Approval))×Obj×HF) [] (λi=>i.2.2) (λi=>[z1,(b2,i.2.1),z2]) (λs i=>aJ l doc ba known=((aJ.L1 (aJ.K1 l doc ba known)) s i.1)/\ia fe.enc (iY xM) i.2.2 i.2.1 i.1/\kK h1 i.2.2) (λ_=>False) (λ_=>False) 0 (λ_ _ _=>False) ([],.map #[] 0,h1) J4 U mo1 U qb (λ_ _ _ _ _ hq=>hq) U (show[z1,(b2,.map #[] 0),z2]=_ from U) ⟨hs0,((ia.nil (enc:=fe.enc) (V:=(iY xM)) (h:=h)).mono (iY.mono kL) hle1),lf⟩ ?_ ?_ ?_ ?_ ?_
 .rintro l1 dm1 lp1 y1 rz1 vs1 ⟨aZ,dB,hh1⟩ hr1 X hFR1 ⟨hs1,eV,hl1⟩ hl01 hlr1 hv1 hX hXM hlp1 nx1 rt1 ex1 pn1
  obtain rfl:=hv1
  let z6:Nat×Obj:=(dm1,.deferred (some []))
  refine cu (L':=[(l1,.loop lp1),z6,z1,(b2,dB),z2]++(markB [])) ap (bu (aU zc163 (λb6=>aR 0 ty163 U U U U U U (aH (jx 1 U hlp1 (qT 2 U ?_))))))
  let z3:Nat×Obj:=(l1,.loop { lp1 with state:=.busy })
  let z7:Nat×Obj:=(b6,O (zD y1) 163)
  refine eQ ([z7,z3,z6,z1,(b2,dB),z2]) mixed kr jn (λeF _=>?_)
  refine tf 0 U U (rj 3 ty324 U U U) (tf 1 U U (λ_ _ hj=>jZ ty163 U (hj.nth (i:=0) U) U) ?_)
  refine mO 2 7 kr U U ?_ ?_ 
  .refine fg If (iX hr1 y1) U (⟨jn,?_⟩)
   refine mO 3 7 kr U U ?_ ?_ 
   .refine lI 4 (k:=(cf y1)) F7 mh U (eV.mono (iY.mono kL) hlr1) (e8 zv163) (show(iY xM) _ (.agg (kB [I 0,I 0,I 0,I 0,I 0,I 0,I 0,.bool false])) (R9 0 0 0 0 0 0 0 false)from⟨_,U,U⟩) U U (λv3 hv2=>?_)
    obtain⟨_,rfl,rfl⟩:=hv2
    refine⟨jn,qR 4 3 U (tn 7 U (AD zc163 (λb7=>⟨jn,tn 8 U (qm 0 ty163 U U U U U U (⟨jn,qA [9] U (aN kr (qT 5 U (cn 6 [30,31,32,33,34,35,36] 30 36 (decide ((mgetD aZ (cf y1) (R9 0 0 0 0 0 0 0 false)).At<=y1.At)) U (λc1 hk1=>?_) (λe=>?_))))⟩))⟩)))⟩
    .exact qL 6 [1,0] U (hk1 _ U)
    refine aH (ae hs1 U (λc2 hs2=>?_) (λc2 hs3=>?_))
    .let z8:Nat×Obj:=(b7,O (zD (mgetD aZ (cf y1) (R9 0 0 0 0 0 0 0 false))) 163)
     refine eQ ([z8,z7,z3,z6,z1,z2]) mixed kr jn (λnh _=>?_)
     exact tf 0 U U (rj 4 ty324 U U U) (tf 1 U U (λ_ _ hj=>jZ ty163 U (hj.nth (i:=1) U) U) (tf 3 U U (λ_ _ hj=>jZ ty163 U (hj.nth (i:=1) U) U) (tn 2 U (fg If (iX hr1 y1) U (⟨jn,tn 4 U (iZ 5 (k:=(cf y1)) (x:=y1) F7 mh U (eV.mono (iY.mono kL) hlr1) U U ⟨_,U,U⟩ (λmo2 hm1=>⟨jn,aN kr (eB (bj (L':=[z3,z6,z1,(b2,mo2),z2]++(markB [])) js (cu (L':=rdH l1 dm1 lp1 (([z1,(b2,mo2),z2])++markB [])) ap (nx1 ((mput aZ (cf y1) y1),mo2,hr1) _ _ ⟨hs2,hm1,(hl1.t hlr1)⟩ lf))))⟩))⟩)))))
    exact aQ (eB (bj (L':=[z3,z6,z1,(b2,dB),z2]++(markB [])) js (cu (L':=rdH l1 dm1 lp1 (([z1,(b2,dB),z2])++markB [])) ap (nx1 (aZ,dB,hr1) _ _ ⟨hs3,(eV.mono (iY.mono kL) hlr1),(hl1.t hlr1)⟩ lf))))
   refine AD zc163 (λb8=>⟨jn,tn 3 U (lI 5 (k:=(cf y1)) F7 mh U (eV.mono (iY.mono kL) hlr1) (e8 zv163) (show(iY xM) _ (.agg (kB [I 0,I 0,I 0,I 0,I 0,I 0,I 0,.bool false])) (R9 0 0 0 0 0 0 0 false)from⟨_,U,U⟩) U U (λv4 hv3=>?_))⟩)
   obtain⟨_,rfl,rfl⟩:=hv3
   refine⟨jn,qR 4 3 U (tn 8 U (qm 0 ty163 U U U U U U (⟨jn,qA [9] U (aN kr (qT 5 U (cn 6 [30,31,32,33,34,35,36] 30 36 (decide ((mgetD aZ (cf y1) (R9 0 0 0 0 0 0 0 false)).At<=y1.At)) U (λc3 hk2=>?_) (λe=>?_))))⟩)))⟩
   .exact qL 6 [1,0] U (hk2 _ U)
   refine aH (ae hs1 U (λc4 hs4=>?_) (λc4 hs5=>?_))
   .let z9:Nat×Obj:=(b8,O (zD (mgetD aZ (cf y1) (R9 0 0 0 0 0 0 0 false))) 163)
    refine eQ ([z9,z7,z3,z6,z1,z2]) mixed kr jn (λQ7 _=>?_)
    exact tf 0 U U (rj 4 ty324 U U U) (tf 1 U U (λ_ _ hj=>jZ ty163 U (hj.nth (i:=1) U) U) (tf 3 U U (λ_ _ hj=>jZ ty163 U (hj.nth (i:=1) U) U) (tn 2 U (fg If (iX hr1 y1) U (⟨jn,tn 4 U (iZ 5 (k:=(cf y1)) (x:=y1) F7 mh U (eV.mono (iY.mono kL) hlr1) U U ⟨_,U,U⟩ (λmo3 hm2=>⟨jn,aN kr (eB (bj (L':=[z3,z6,z1,(b2,mo3),z2]++(markB [])) js (cu (L':=rdH l1 dm1 lp1 (([z1,(b2,mo3),z2])++markB [])) ap (nx1 ((mput aZ (cf y1) y1),mo3,hr1) _ _ ⟨hs4,hm2,(hl1.t hlr1)⟩ lf))))⟩))⟩)))))
   exact aQ (eB (bj (L':=[z3,z6,z1,(b2,dB),z2]++(markB [])) js (cu (L':=rdH l1 dm1 lp1 (([z1,(b2,dB),z2])++markB [])) ap (nx1 (aZ,dB,hr1) _ _ ⟨hs5,(eV.mono (iY.mono kL) hlr1),(hl1.t hlr1)⟩ lf))))
  refine AD zc163 (λb9=>⟨jn,tn 2 U (fg If (iX hr1 y1) U (⟨jn,tn 3 U (lI 5 (k:=(cf y1)) F7 mh U (eV.mono (iY.mono kL) hlr1) (e8 zv163) (show(iY xM) _ (.agg (kB [I 0,I 0,I 0,I 0,I 0,I 0,I 0,.bool false])) (R9 0 0 0 0 0 0 0 false)from⟨_,U,U⟩) U U (λv5 hv4=>?_))⟩))⟩)
  obtain⟨_,rfl,rfl⟩:=hv4
  refine⟨jn,qR 4 3 U (tn 8 U (qm 0 ty163 U U U U U U (⟨jn,qA [9] U (aN kr (qT 5 U (cn 6 [30,31,32,33,34,35,36] 30 36 (decide ((mgetD aZ (cf y1) (R9 0 0 0 0 0 0 0 false)).At<=y1.At)) U (λc5 hk3=>?_) (λe=>?_))))⟩)))⟩
  .exact qL 6 [1,0] U (hk3 _ U)
  refine aH (ae hs1 U (λc6 hs6=>?_) (λc6 hs7=>?_))
  .let z10:Nat×Obj:=(b9,O (zD (mgetD aZ (cf y1) (R9 0 0 0 0 0 0 0 false))) 163)
   refine eQ ([z10,z7,z3,z6,z1,z2]) mixed kr jn (λRG _=>?_)
   exact tf 0 U U (rj 4 ty324 U U U) (tf 1 U U (λ_ _ hj=>jZ ty163 U (hj.nth (i:=1) U) U) (tf 3 U U (λ_ _ hj=>jZ ty163 U (hj.nth (i:=1) U) U) (tn 2 U (fg If (iX hr1 y1) U (⟨jn,tn 4 U (iZ 5 (k:=(cf y1)) (x:=y1) F7 mh U (eV.mono (iY.mono kL) hlr1) U U ⟨_,U,U⟩ (λmo4 hm3=>⟨jn,aN kr (eB (bj (L':=[z3,z6,z1,(b2,mo4),z2]++(markB [])) js (cu (L':=rdH l1 dm1 lp1 (([z1,(b2,mo4),z2])++markB [])) ap (nx1 ((mput aZ (cf y1) y1),mo4,hr1) _ _ ⟨hs6,hm3,(hl1.t hlr1)⟩ lf))))⟩))⟩)))))
  exact aQ (eB (bj (L':=[z3,z6,z1,(b2,dB),z2]++(markB [])) js (cu (L':=rdH l1 dm1 lp1 (([z1,(b2,dB),z2])++markB [])) ap (nx1 (aZ,dB,hr1) _ _ ⟨hs7,(eV.mono (iY.mono kL) hlr1),(hl1.t hlr1)⟩ lf))))
 .rintro dm1 ⟨aZ,dB,hh1⟩ hn1 ⟨hs8,eV,hl1⟩ hln1 hl01
  refine cu (L':=[z1,(b2,dB),z2]++(markB (dm1::[]))) ap (qT 8 U (aw (cJ call267 (pS _ _ _ _ doc ba known (hl.mono kL ((hle1.t hl1).t hln1))) U (λv6 h2 hle2 hp2=>?_))))
  obtain⟨_,rfl,mo5⟩:=hp2
  refine qO 2 U (cu (L':=([z1,(b2,dB),z2])++markB (dm1::[])) ap ?_)
  refine jw (it:=v6) (xs:=(fj l doc ba known)) (ι:=(List Approval)×Option Addr×Nat×LH×HF) (dm1::[]) (λi=>i.2.2.2.2) (λi=>[z1,(b2,dB),(b1,O [.slice i.2.1 i.1.length i.2.2.1] 28)]++(i.2.2.2.1)) (λs i=>aJ l doc ba known=((aJ.L2 aZ (aJ.K2)) s i.1)/\dA xM 163 i.2.2.2.2 i.1 i.2.1 i.2.2.1 i.2.2.2.1/\kK h2 i.2.2.2.2/\i.1.length+s.length<=l.length) (λ_=>False) (λ_=>False) 0 (λ_ _ _=>False) ([],none,0,[],h2) J4 U mo5 U qb (λ_ _ _ _ _ hq=>hq) U (show[z1,(b2,dB),z2]=_ from U) ⟨hs8,dA.nil,lf,(by have hc:=pC l doc ba known;simpa using hc)⟩ ?_ ?_ ?_ ?_ ?_
  .rintro l2 dm2 lp2 y2 rz2 vs2 ⟨ni,AV,AU,pq,hh2⟩ hr2 X hFR2 ⟨hs9,AT,hl2,u2_0⟩ hl02 hlr2 hv2 hX hXM hlp2 nx2 rt2 ex2 pn2
   obtain rfl:=hv2
   simp only[zA]at u2_0
   let z4:Nat×Obj:=(b1,O [.slice AV ni.length AU] 28)
   let z13:Nat×Obj:=(dm2,.deferred (some []))
   refine cu (L':=[(l2,.loop lp2),z13,z1,(b2,dB),z4]++(pq++(markB (dm1::[])))) ap (bu (aU zc163 (λb11=>aR 0 ty163 U U U U U U (gS (L':=[(b11,O (zD y2) 163),(l2,.loop lp2),z13,z1,(b2,dB),z4]++(pq++(markB (dm1::[])))) U (aH (jx 1 U hlp2 (qT 2 U ?_)))))))
   refine nU [(8,Q b1),(13,Q b11),(57,.bool ((!y2.Gone)&&(decide ((mgetD aZ (cf y2) (R9 0 0 0 0 0 0 0 false))=y2))))] (λe=>?_) (λhk4=>?_)
   rotate_left
   .refine eQ ([(b11,O (zD y2) 163),(l2,.loop { lp2 with state:=.busy }),z13,z1,(b2,dB),z4]) mixed kr jn (λRF _=>?_)
    refine qB [0] U (tf 1 U U (rj 0 ty4 U U U) (qA [2,3] U ?_))
    refine dt 50 U (λc7=>?_) (λc7=>?_)
    .refine tf 4 U U (rj 3 ty324 U U U) (tf 5 U U (λ_ _ hj=>jZ ty163 U (hj.nth (i:=0) U) U) (tf 8 U U (λ_ _ hj=>jZ ty163 U (hj.nth (i:=0) U) U) (tn 6 U (fg If (iX hr2 y2) U (⟨jn,tn 7 U (qn 4 (k:=(cf y2)) F7 mh U (eV.mono (iY.mono kL) (((hln1.t hle2).t hl2).t hlr2)) (e8 zv163) (show(iY xM) _ (.agg (kB [I 0,I 0,I 0,I 0,I 0,I 0,I 0,.bool false])) (R9 0 0 0 0 0 0 0 false)from⟨_,U,U⟩) U U (λv8 hv6=>?_))⟩)))))
     obtain⟨_,rfl,rfl⟩:=hv6
     exact⟨jn,tf 9 U U (λ_ _ _=>Ls (HY (mgetD aZ (cf y2) (R9 0 0 0 0 0 0 0 false)) y2) eqg163 U U) (qA [10] U (aN kr (hk4 _ ⟨U,U,(cb (show(decide ((mgetD aZ (cf y2) (R9 0 0 0 0 0 0 0 false))=y2))=((!y2.Gone)&&(decide ((mgetD aZ (cf y2) (R9 0 0 0 0 0 0 0 false))=y2)))from by rw[c7]<;>rfl)),trivial⟩)))⟩
    exact tk 4 U U (qR 5 6 U (aN kr (hk4 _ ⟨U,U,(cb (show false=((!y2.Gone)&&(decide ((mgetD aZ (cf y2) (R9 0 0 0 0 0 0 0 false))=y2)))from by rw[c7]<;>rfl)),trivial⟩)))
   refine ae hs9 U (λc8 hs10=>?_) (λc8 hs11=>?_)
   .refine qK 2 [5] U (cI 0 ty163 U U U (aw (bB (cells:=[I y2.No,I y2.At,I y2.Known,I y2.Doc,I y2.By,I y2.For,I y2.Office,.bool y2.Gone]) Ai ty163 zc163 U U kr (λb12=>?_))))
    let z11:Nat×Obj:=(b12,O [I y2.No,I y2.At,I y2.Known,I y2.Doc,I y2.By,I y2.For,I y2.Office,.bool y2.Gone] 163)
    let z12:Nat×Obj:=(l2,.loop { lp2 with state:=.busy })
    let z14:Nat×Obj:=(b11,O (zD y2) 163)
    refine aw (eo Approval.eD ([z11,z14,z12,z13,z1,(b2,dB),z4]) (markB (dm1::[])) (λG=>[z11,z14,z12,z13,z1,(b2,dB),z4]++(markB (dm1::[])++G)) ap (λ_=>ap) Ai ty163 zc163 U bytes163 (AT.mono kL hlr2) U U (fd 0 U (cE y2 U U)) lo lo (λob1 oc1 G1 gr1=>uO (pX ([z11,z14,z12,z13,z1,(b2,dB),z4]) G1 (markB (dm1::[]))) (cB 6 ty28 U U U U U U (qO 2 U ?_))))
    let z15:Nat×Obj:=(b1,O [.slice ob1 ((ni++[y2]).length) oc1] 28)
    exact bj (L':=[z12,z13,z1,(b2,dB),z15]++(G1++(markB (dm1::[])))) js (cu (L':=rdH l2 dm2 lp2 (([z1,(b2,dB),z15]++G1)++markB (dm1::[]))) ap (nx2 ((ni++[y2]),ob1,oc1,G1,hr2) _ _ ⟨hs10,gr1,(hl2.t hlr2),(by first|omega|(simp only[kA,zA,vB]at *;omega))⟩ lf))
   exact aQ (eB (bj (L':=[(l2,.loop { lp2 with state:=.busy }),z13,z1,(b2,dB),z4]++(pq++(markB (dm1::[])))) js (cu (L':=rdH l2 dm2 lp2 (([z1,(b2,dB),z4]++(pq))++markB (dm1::[]))) ap (nx2 (ni,AV,AU,pq,hr2) _ _ ⟨hs11,(AT.mono kL hlr2),(hl2.t hlr2),(by first|omega|(simp only[kA,zA,vB]at *;omega))⟩ lf))))
  .rintro dm2 ⟨ni,AV,AU,pq,hh2⟩ hn2 ⟨hs12,AT,hl2,u2_0⟩ hln2 hl02
   let z5:Nat×Obj:=(b1,O [.slice AV ni.length AU] 28)
   refine cu (L':=[z1,(b2,dB),z5]++(pq++(markB (dm2::(dm1::[]))))) ap (qK 4 [2] U (cB 2 ty28 U U U U U U (aH ?_)))
   have hs13:aJ l doc ba known=ni:=hs12
   exact cu (L':=([z1,(b2,dB),z5]++(pq))++markB (dm2::(dm1::[]))) ap (O2 (dm2::(dm1::[])) (A:=[z1,(b2,dB),z5]) (G:=pq) (Q:=[]) J4 U hX ap (λh1=>dA.flat (λ_ _ _ _ e=>e) (AT.mono kL hln2)) ⟨⟨2,_,_,_,_,U,U,.inr ⟨_,ty28,U⟩⟩,trivial⟩ hs13)
  .exact xf
  .exact xf
  exact xf
 .exact xf
 .exact xf
 exact xf
theorem vm(l:List Approval)(doc ba known:Int):(aJ l doc ba known).length<=l.length:=by
 have h2:∀(g:List (fe×Approval))(s acc:List Approval),(aJ.L2 g aJ.K2 s acc).length<=acc.length+s.length:=by
  intro g s
  induction s with
  |nil=>intro acc;exact xG _
  |cons y s ih=>
   intro acc
   simp only[aJ.L2,Bool.cond_eq_ite]
   split
   .have:=ih (acc++[y]);simp only[kA,zA,vB]at *;omega
   have:=ih acc;simp only[zA];omega
 have h1:∀(s:List Approval)(g:List (fe×Approval)),(aJ.L1 (aJ.K1 l doc ba known) s g).length<=l.length:=by
  intro s
  induction s with
  |nil=>
   intro g
   have h3:=h2 g (fj l doc ba known) []
   have h4:=pC l doc ba known
   show(aJ.L2 g aJ.K2 (fj l doc ba known) []).length<=l.length
   simp only[vB]at h3;omega
  |cons y s ih=>intro g;simp only[aJ.L1,Bool.cond_eq_ite];split<;>exact ih _
 exact h1 _ _
theorem uG(h:HF)(y:Approval)(begun:Int)(begun_q:Addr)(at_:Int)(at__q:Addr)(think:Int)(think_q:Addr)(abegun:At h begun_q [I begun])(aat_:At h at__q [I at_])(athink:At h think_q [I think]):Ret prog 235 [.agg (zD y).toArray,.pointer (some begun_q),.pointer (some at__q),.pointer (some think_q)] h (.bool (ik y begun at_ think)):=by
 refine sT func235 U ntmps235 U λX hM hX hF=>?_
 have hs0:=@rfl _ (ik y begun at_ think)
 refine sr (ct (λb1=>qL 6 [0] U (de ty3 abegun U (qO 2 U (cn 7 [10,11,12,13,14,15,16,17] 10 17 (decide ((zE .i64 (at_-y.At))<think)) U (λc1 hk1=>?_) (λe=>?_))))))
 .exact de ty3 aat_ U (qL 3 [0] U (de ty3 athink U (qO 2 U (hk1 _ U))))
 exact an (nretP [.bool (decide (y.At<begun)||decide ((zE .i64 (at_-y.At))<think))] (cs hs0))
theorem wp(h:HF)(l:List Approval)(fq:Option Addr)(fp:Nat)(doc:Int)(begun:Int)(think:Int)(eR:Int)(known:Int)(hl:SlC xM h fq fp l)(hsz:l.length<=2000000):jY prog 190 [.slice fq l.length fp,I doc,I begun,I think,I eR,I known] h (λv h'=>∃(rb0:Option Addr)(rc0:Nat),v=.tuple #[.slice rb0 ((cU l doc begun think eR known).1).length rc0,I ((cU l doc begun think eR known).2)]/\SlC xM h' rb0 rc0 ((cU l doc begun think eR known).1)):=by
 refine sT func190 U ntmps190 U λX hM hX hF=>?_
 have hs0:=@rfl _ (cU l doc begun think eR known)
 have hst:=vm l doc eR known
 refine sr (ct (λb1=>ct (λb2=>ct (λb3=>qO 7 U (ai call54 (sR _ _ _ _ hl) U (qO 7 U (ae hs0 U (λc1 hs1=>?_) (λc1 hs2=>?_))))))))
 .refine qT 6 U ?_
  have hs3:cU l doc begun think eR known=([],(bX l)):=hs1
  exact nretH [.slice none 0 0,I (bX l)] (hs3▸⟨none,0,U,zF⟩)
 refine qT 5 U (aw (bB (cells:=[I doc]) eG ty3 zc3 U U kr (λb4=>aP 0 U hM (λh1 hle1 hb1=>?_))))
 have sl1:SlC zC h1 (some ⟨b4,0,none⟩) 1 ([doc]):=bP.slB0 (T:=3) (fz:=(0,0)) ((show bP zC h [I doc] ([doc])from⟨[I doc],[],rfl,rfl,rfl,rfl⟩).mono zH hle1) hb1
 refine ai Gb (jb _ 4095 _ _ _ sl1) U (qO 2 U (cn 8 [23,24,25,26,27,28,29,30,31] 23 31 (!(dw 1099511627775 ([begun,think,eR,known]))) U (λc2 hk1=>?_) (λe=>?_)))
 .refine qL 4 [2,1,0] U (aw (bB (cells:=[I begun,I think,I eR,I known]) eG ty3 zc3 U U kr (λb5=>aP 0 U hM (λh2 hle2 hb2=>?_))))
  have sl2:SlC zC h2 (some ⟨b5,0,none⟩) 4 ([begun,think,eR,known]):=bP.slB0 (T:=3) (fz:=(0,0)) ((show bP zC h1 [I begun,I think,I eR,I known] ([begun,think,eR,known])from⟨[I begun],[I think,I eR,I known],rfl,rfl,rfl,⟨[I think],[I eR,I known],rfl,rfl,rfl,⟨[I eR],[I known],rfl,rfl,rfl,⟨[I known],[],rfl,rfl,rfl,rfl⟩⟩⟩⟩).mono zH hle2) hb2
  exact ai Gb (jb _ 1099511627775 _ _ _ sl2) U (qO 2 U (kI (h:=h1) hle2 hX hle1 (hk1 _ U)))
 refine aH (ae hs2 U (λc3 hs4=>?_) (λc3 hs5=>?_))
 .refine qT 5 U ?_
  have hs6:cU l doc begun think eR known=([],1):=hs4
  exact nretH [.slice none 0 0,I 1] (hs6▸⟨none,0,U,zF⟩)
 refine qK 7 [0] U (aw (Pg call234 (wo _ _ _ _ doc eR known (hl.mono kL hle1) ob) U (λob1 oc1 G1 gr1=>aP 2 U hM (λh3 hle3 hb3=>aP 0 U hM (λh4 hle4 hb4=>aP 0 U hM (λh5 hle5 hb5=>aw (dS U U (aw (my (v:=.slice ob1 (fI (aJ l doc eR known) (λcj=>ik cj begun eR think)).length oc1) ([]) G1 ([]) call233 (ql h5 (aJ l doc eR known) ob1 oc1 G1 (λcj=>ik cj begun eR think) (.func (.func 235) #[] #[Q b1,Q b3,Q b2]) (gr1.mono kL ((hle3.t hle4).t hle5)) (λh' cj hle=>im call235 (uG h' cj begun ⟨b1,0,none⟩ eR ⟨b3,0,none⟩ think ⟨b2,0,none⟩  (((bI hb3).mono (hle4.t hle5)).mono hle) (((bI hb4).mono hle5).mono hle) ((bI hb5).mono hle))) ob) ap U (λG2 gr2=>gS (L':=G2) ap (ox kL ([]) G2 ([]) ap hM gr2 (λh6 hle6 sl3=>qO 3 U ?_))))))))))))
 have hs7:cU l doc begun think eR known=((fI (aJ l doc eR known) (λcj=>ik cj begun eR think)),0):=hs5
 exact nretH [.slice ob1 ((fI (aJ l doc eR known) (λcj=>ik cj begun eR think)).length) oc1,I 0] (hs7▸⟨ob1,oc1,U,sl3⟩)
theorem BP(h:HF)(l:List Appoint)(fq:Option Addr)(fp:Nat)(office:Int)(person:Int)(fa:Int)(known:Int)(hl:SlC kR h fq fp l):Ret prog 191 [.slice fq l.length fp,I office,I person,I fa,I known] h (.tuple #[I ((hO l office person fa known).1),I ((hO l office person fa known).2.1),.bool ((hO l office person fa known).2.2.1),I ((hO l office person fa known).2.2.2)]):=by
 refine sT func191 U ntmps191 U λX hM hX hF=>?_
 have hs0:=@rfl _ (hO l office person fa known)
 refine qT 11 U (ai call48 (pY _ _ _ _ hl) U (qO 7 U (ae hs0 U (λc1 hs1=>?_) (λc1 hs2=>?_))))
 .refine qT 8 U ?_
  have hs3:hO l office person fa known=(0,0,false,(dq l)):=hs1
  exact nretP [I 0,I 0,.bool false,I (dq l)] (hs3▸U)
 refine qT 5 U (ai Nh (mt h office) U (qO 2 U (cn 4 [24,25,26,27,28] 24 28 (!(gh person)) U (λc2 hk1=>?_) (λe=>?_))))
 .exact ao (ai call169 (nZ h person) U (qO 2 U (hk1 _ U)))
 refine ao (cn 4 [29,30,31,32,33] 29 33 (!(cZ fa)) U (λc3 hk2=>?_) (λe=>?_))
 .exact ao (ai DI (jh h fa) U (qO 2 U (hk2 _ U)))
 refine ao (cn 4 [34,35,36,37,38] 34 38 (!(cZ known)) U (λc4 hk3=>?_) (λe=>?_))
 .exact ao (ai DI (jh h known) U (qO 2 U (hk3 _ U)))
 refine aH (ae hs2 U (λc5 hs4=>?_) (λc5 hs5=>?_))
 .refine qT 7 U ?_
  have hs6:hO l office person fa known=(0,0,false,1):=hs4
  exact nretP [I 0,I 0,.bool false,I 1] (hs6▸U)
 refine qT 6 U (aw (cJ call196 (ry _ _ _ _ fa known hl) U (λv1 h1 hle1 hp1=>?_)))
 obtain⟨rk1,rfl,mo1⟩:=hp1
 refine qO 2 U (aw (eY (cells:=[I office,I person]) (places:=[(0,1),(1,1)]) Ir zc285 kr kr ?_))
 obtain⟨o1,hb1,hm1⟩:=mo1
 refine aw (tc (k:=(S7 office person)) KZ uX hb1 hm1 (e8 zv49) (show(iY kR) _ (.agg (kB [I 0,I 0,I 0,I 0,I 0,I 0,.bool false])) (kF 0 0 0 0 0 0 false)from⟨_,U,U⟩) U U (λv2 hv1=>?_))
 obtain⟨_,rfl,rfl⟩:=hv1
 refine qO 3 U (aU zc49 (λb1=>aR 0 ty49 U U U U U U (qO 8 U (cn 3 [52,53,54,55] 52 55 ((mgetD (dp l fa known) (S7 office person) (kF 0 0 0 0 0 0 false)).Gone) U (λc6 hk4=>?_) (λe=>?_)))))
 .exact qL 3 [0] U (hk4 _ U)
 refine aH (ae hs5 U (λc7 hs7=>?_) (λc7 hs8=>?_))
 .refine qT 7 U ?_
  have hs9:hO l office person fa known=(0,0,false,0):=hs7
  exact nretP [I 0,I 0,.bool false,I 0] (hs9▸U)
 refine qT 2 U (eQ ([(b1,O (Appoint.cells (mgetD (dp l fa known) (S7 office person) (kF 0 0 0 0 0 0 false))) 49)]) mixed kr jn (λeF _=>qB [0] U (tf 1 U U (rj 0 ty3 U U U) (qB [2] U (tf 3 U U (rj 0 ty3 U U U) (qR 4 4 U (aN kr ?_)))))))
 have hs10:hO l office person fa known=((mgetD (dp l fa known) (S7 office person) (kF 0 0 0 0 0 0 false)).No,(mgetD (dp l fa known) (S7 office person) (kF 0 0 0 0 0 0 false)).Weight,true,0):=hs8
 exact nretP [I ((mgetD (dp l fa known) (S7 office person) (kF 0 0 0 0 0 0 false)).No),I ((mgetD (dp l fa known) (S7 office person) (kF 0 0 0 0 0 0 false)).Weight),.bool true,I 0] (hs10▸U)
theorem Do(h:HF)(l:List Deputy)(fq:Option Addr)(fp:Nat)(dR:Int)(to:Int)(q:cS)(hl:SlC Sr h fq fp l):Ret prog 236 [.slice fq l.length fp,I dR,I to,.agg (cS.cells q).toArray] h (I (md l dR to q)):=by
 refine sT func236 U ntmps236 U λX hM hX hF=>?_
 have hs0:=@rfl _ (md l dR to q)
 refine sr (ct (λb1=>qO 6 U (ai call49 (tK _ _ _ _ hl) U (qO 7 U (ae hs0 U (λc1 hs1=>?_) (λc1 hs2=>?_))))))
 .exact sr (qO 3 U (nretP [I (dH l)] (ci hs1)))
 refine qT 5 U (ai Nf (mb h dR) U (qO 2 U (cn 4 [18,19,20,21,22] 18 22 (!(gi to)) U (λc2 hk1=>?_) (λe=>?_))))
 .exact ao (ai Nf (mb h to) U (qO 2 U (hk1 _ U)))
 refine ao (cn 5 [23,24,25,26,27,28] 23 28 (!(di q.office 0 31)) U (λc3 hk2=>?_) (λe=>?_))
 .exact qL 2 [0] U (ai Cm (ir h q.office 0 31) U (qO 2 U (hk2 _ U)))
 refine ao (cn 5 [29,30,31,32,33,34] 29 34 (!(di q.kind 0 15)) U (λc4 hk3=>?_) (λe=>?_))
 .exact qL 2 [0] U (ai Cm (ir h q.kind 0 15) U (qO 2 U (hk3 _ U)))
 refine ao (cn 5 [35,36,37,38,39,40] 35 40 (!(di q.value 0 1099511627776)) U (λc5 hk4=>?_) (λe=>?_))
 .exact qL 2 [0] U (ai Cm (ir h q.value 0 1099511627776) U (qO 2 U (hk4 _ U)))
 refine ao (cn 5 [41,42,43,44,45,46] 41 46 (!(gu q.at_)) U (λc6 hk5=>?_) (λe=>?_))
 .exact qL 2 [0] U (ai Ng (mZ h q.at_) U (qO 2 U (hk5 _ U)))
 refine ao (cn 5 [47,48,49,50,51,52] 47 52 (!(gu q.known)) U (λc7 hk6=>?_) (λe=>?_))
 .exact qL 2 [0] U (ai Ng (mZ h q.known) U (qO 2 U (hk6 _ U)))
 refine aH (ae hs2 U (λc8 hs4=>?_) (λc8 hs5=>?_))
 .exact sr (an (nretP [I 1] (ci hs4)))
 exact aQ (qT 4 U (nretP [I 0] (ci hs5)))
theorem se(h:HF)(seq:List Deputy)(seq_v:Value)(hseq:Itr prog seq_v sD seq h)(hsz:seq.length<=2000000):jY prog 269 [.slice none 0 0,seq_v] h (λv h'=>∃(rb0:Option Addr)(rc0:Nat),v=.slice rb0 (db seq).length rc0/\SlC Sr h' rb0 rc0 (db seq)):=by
 refine cD func269 U ntmps269 U λX hM hX=>?_
 have hs0:=@rfl _ (db seq)
 refine sr (ct (λb1=>qO 8 U (dQ (cu (L':=([(b1,O [.slice none 0 0] 23)])++markB []) ap ?_))))
 refine jw (it:=seq_v) (xs:=seq) (ι:=(List Deputy)×Option Addr×Nat×LH×HF) [] (λi=>i.2.2.2.2) (λi=>[(b1,O [.slice i.2.1 i.1.length i.2.2.1] 23)]++(i.2.2.2.1)) (λs i=>db seq=((db.L1 (db.K1)) s i.1)/\dA Sr 157 i.2.2.2.2 i.1 i.2.1 i.2.2.1 i.2.2.2.1/\kK h i.2.2.2.2/\i.1.length+s.length<=seq.length) (λ_=>False) (λ_=>False) 0 (λ_ _ _=>False) ([],none,0,[],h) func269 U hseq U EJ (λ_ _ _ _ _ hq=>hq) U (show[(b1,O [.slice none 0 0] 23)]=_ from U) ⟨hs0,dA.nil,lf,(by simp)⟩ ?_ ?_ ?_ ?_ ?_
 .rintro l1 dm1 lp1 y1 rz1 vs1 ⟨bC,mF,mE,nI,hh1⟩ hr1 X hFR1 ⟨hs1,fK,hl1,u1_0⟩ hl01 hlr1 hv1 hX hXM hlp1 nx1 rt1 ex1 pn1
  obtain rfl:=hv1
  simp only[zA]at u1_0
  let z1:Nat×Obj:=(b1,O [.slice mF bC.length mE] 23)
  let z4:Nat×Obj:=(dm1,.deferred (some []))
  refine cu (L':=[(l1,.loop lp1),z4,z1]++(nI++(markB []))) ap (bu (aU zc157 (λb4=>aR 0 ty157 U U U U U U (gS (L':=[(b4,O (kM y1) 157),(l1,.loop lp1),z4,z1]++(nI++(markB []))) U (aH (jx 1 U hlp1 (qK 3 [3] U (cI 0 ty157 U U U (aw (bB (cells:=[I y1.No,I y1.At,I y1.Known,I y1.Until,I y1.From,I y1.To,I y1.Office,I y1.Kind,I y1.Most,.bool y1.Gone]) yF ty157 zc157 U U kr (λb5=>?_)))))))))))
  let z3:Nat×Obj:=(b5,O [I y1.No,I y1.At,I y1.Known,I y1.Until,I y1.From,I y1.To,I y1.Office,I y1.Kind,I y1.Most,.bool y1.Gone] 157)
  let z5:Nat×Obj:=(l1,.loop { lp1 with state:=.busy })
  let z6:Nat×Obj:=(b4,O (kM y1) 157)
  refine aw (eo Deputy.eD ([z3,z6,z5,z4,z1]) (markB []) (λG=>[z3,z6,z5,z4,z1]++(markB []++G)) ap (λ_=>ap) yF ty157 zc157 U bytes157 (fK.mono SK hlr1) U U (fd 0 U (cE y1 U U)) lo lo (λob2 oc2 G2 gr2=>uO (pX ([z3,z6,z5,z4,z1]) G2 (markB [])) (cB 4 ty23 U U U U U U (qO 2 U ?_))))
  let z7:Nat×Obj:=(b1,O [.slice ob2 ((bC++[y1]).length) oc2] 23)
  exact bj (L':=[z5,z4,z7]++(G2++(markB []))) js (cu (L':=rdH l1 dm1 lp1 (([z7]++G2)++markB [])) ap (nx1 ((bC++[y1]),ob2,oc2,G2,hr1) _ _ ⟨hs1,gr2,(hl1.t hlr1),(by simp only[kA,zA,vB]at *;omega)⟩ lf))
 .rintro dm1 ⟨bC,mF,mE,nI,hh1⟩ hn1 ⟨hs2,fK,hl1,u1_0⟩ hln1 hl01
  let z2:Nat×Obj:=(b1,O [.slice mF bC.length mE] 23)
  refine cu (L':=[z2]++(nI++(markB (dm1::[])))) ap (qK 6 [0] U (fW SK ([z2]) nI (markB (dm1::[])) ap hM (fK.mono SK hln1) (λh2 hle2 sl2=>?_)))
  have hs3:db seq=bC:=hs2
  exact cu (L':=([z2])++markB (dm1::[])) ap (oX (dm1::[]) [.slice mF bC.length mE] func269 U rd ⟨mF,mE,congrArg (λr:List Deputy=>(.slice mF r.length mE:Value)) hs3.symm,(by rw[hs3];exact sl2)⟩)
 .exact xf
 .exact xf
 exact xf
theorem tW(h:HF)(seq:List Deputy)(seq_v:Value)(hseq:Itr prog seq_v sD seq h)(hsz:seq.length<=2000000):jY prog 237 [seq_v] h (λv h'=>∃(rb0:Option Addr)(rc0:Nat),v=.slice rb0 (dk seq).length rc0/\SlC Sr h' rb0 rc0 (dk seq)):=by
 refine sT func237 U ntmps237 U λX hM hX hF=>?_
 have hs0:=@rfl _ (dk seq)
 refine qT 7 U (aw (cJ call269 (se h seq seq_v hseq ob) U (λv1 h1 hle1 hp1=>?_)))
 obtain⟨rb1,rc1,rfl,sl1⟩:=hp1
 refine an ?_
 have hs1:dk seq=(db seq):=hs0
 exact nretH [.slice rb1 ((db seq).length) rc1] (hs1▸⟨rb1,rc1,U,sl1⟩)
theorem tX(s:List Deputy):dk s=s:=by
 have:∀(s acc:List Deputy),db.L1 db.K1 s acc=acc++s:=by
  intro s
  induction s with
  |nil=>intro acc;exact(List.append_nil _).symm
  |cons y s ih=>intro acc;simp only[db.L1,ih,qE,List.cons_append,zG]
 exact(this s []).trans (zG _)
theorem nm(h:HF)(q:cS)(x:Deputy)  : Ret prog 270 [.agg (cS.cells q).toArray,.agg (kM x).toArray] h (.bool (gf q x)):=by
 refine sT func270 U ntmps270 U λX hM hX hF=>?_
 have hs0:=@rfl _ (gf q x)
 refine sr (ct (λb1=>ct (λb2=>qL 10 [0,1] U (bD 6 [10,11,12,13,14,15,16] 10 16 (decide (x.Known<=q.known)) U (λc1 hk1=>?_) (λe=>?_)))))
 .exact qL 6 [0,1] U (hk1 _ U)
 exact an (nretP [.bool (decide (x.At<=q.at_)&&decide (x.Known<=q.known))] (cs hs0))
theorem rM(h:HF)(q:cS)(x:Deputy)  : Ret prog 272 [.agg (cS.cells q).toArray,.agg (kM x).toArray] h (.bool (gJ q x)):=by
 refine sT func272 U ntmps272 U λX hM hX hF=>?_
 have hs0:=@rfl _ (gJ q x)
 refine sr (ct (λb1=>ct (λb2=>qL 8 [0] U (bD 6 [8,9,10,11,12,13,14] 8 14 (decide (q.at_<x.Until)) U (λc1 hk1=>?_) (λe=>?_)))))
 .exact qL 6 [1,0] U (hk1 _ U)
 refine ao (bD 6 [15,16,17,18,19,20,21] 15 21 (x.Office==q.office) U (λc2 hk2=>?_) (λe=>?_))
 .exact qL 6 [0,1] U (hk2 _ U)
 refine ao (bD 11 [22,23,24,25,26,27,28,29,30,31,32,33] 22 33 ((x.Kind==(-1))||(x.Kind==q.kind)) U (λc3 hk3=>?_) (λe=>?_))
 .refine qL 4 [0] U (cn 6 [26,27,28,29,30,31,32] 26 32 (x.Kind==q.kind) U (λc4 hk4=>?_) (λe=>?_))
  .exact qL 6 [0,1] U (hk4 _ U)
  exact eM U (hk3 _ U)
 refine ao (bD 6 [34,35,36,37,38,39,40] 34 40 (decide (q.value<=x.Most)) U (λc5 hk5=>?_) (λe=>?_))
 .exact qL 6 [1,0] U (hk5 _ U)
 exact an (nretP [.bool (((((!x.Gone)&&decide (q.at_<x.Until))&&(x.Office==q.office))&&((x.Kind==(-1))||(x.Kind==q.kind)))&&decide (q.value<=x.Most))] (cs hs0))
theorem pJ(h:HF)(v0:List Deputy)(tP:Option Addr)(tN:Nat)(v0_q:Addr)(v1:List (em×Deputy))(MV:Nat)(v1_q:Addr)(v2:(Deputy->Bool))(v2_v:Value)(v2_q:Addr)(v3:cS)(v3_q:Addr)(hv0:SlC Sr h tP tN v0)(av0:At h v0_q [.slice tP v0.length tN])(hv1:re em.enc (iY Sr) h MV v1)(av1:At h v1_q [.map (some MV)])(hv2:∀(h':HF)(cj:Deputy),kK h h'->sZ prog v2_v [.agg (kM cj).toArray] h' [] (.bool (v2 cj)))(av2:At h v2_q [v2_v])(av3:At h v3_q (cS.cells v3)):Itr prog (.func (.func 271) #[] (kB [.pointer (some v0_q),.pointer (some v1_q),.pointer (some v2_q),.pointer (some v3_q)])) sD (aC v0 v1 v2 v3) h:=by
 refine rl call271 ?_
 intro yf ya yb C Sp Pn h1 A hle m1 m2 m3 hC hy
 refine iN DG U ntmps271 U λX hXM hX=>?_
 have hs0:aC v0 v1 v2 v3=[]++aC v0 v1 v2 v3:=rfl
 refine sr (de ty23 (av0.mono hle) U (qL 3 [] U ?_))
 refine lp2 v0 (λi w=>[(0,.func yf ya yb),(2,.pointer (some v1_q)),(3,.pointer (some v2_q)),(4,.pointer (some v3_q)),(8,.slice tP v0.length tN),(9,I (v0.length:Int)),(10,I (i:Int))]) (λw=>w.2.2) (λw=>w.2.1) (λi w=>C w.1 w.2.2 w.2.1/\kK h1 w.2.2) (λs1 i w=>w.1++(aC.L1 v1 v2 v3 (aC.K1)) s1) ([],A,h1) ((hv0.mono SK hle).1.1) hs0 ⟨hC,lf⟩ ?_ ?_
 .rintro i1 ⟨dn1,A1_,hh1⟩ fB hs1 ⟨hC1_,hl1⟩ e
  refine dQ ?_
  have hs2:aC v0 v1 v2 v3=dn1:=hs1.trans (List.append_nil _)
  exact rm [] (A:=A1_) DG U (List.Sublist.refl _) (.inl (hs2▸hC1_))
 rintro i1 ⟨dn1,A1_,hh1⟩ y1 rz1 hd1 du bo eA gD hs3 ⟨hC1_,hl1⟩ hx1 ag1 e
 refine sr (tO du U (qO 8 U (aw (iF kM yF ty157 (hv0.mono SK (hle.t hl1)).1 bo U U U (λq2 A2=>dl ty157 A2 U U (aU zc157 (λb2=>aR 0 ty157 U U U U U U (gS (L':=[(b2,O (kM y1) 157)]++(A1_)) U (qO 2 U ?_)))))))))
 let z1:Nat×Obj:=(b2,O (kM y1) 157)
 refine eQ ([z1]) mixed kr jn (λeF _=>?_)
 refine tf 0 U U (rh ty331 (av1.mono (hle.t hl1)) U) (qB [1] U (tf 2 U U (rj 0 ty3 U U U) (qB [3] U (tf 4 U U (rj 0 ty3 U U U) (qB [5] U (tf 6 U U (rj 0 ty3 U U U) (qB [7] U (tf 8 U U (rj 0 ty3 U U U) (tf 11 U U (λ_ _ hj=>jZ ty157 U (hj.nth (i:=0) U) U) (tn 9 U (eY (cells:=[I y1.From,I y1.To,I y1.Office,I y1.Kind]) (places:=[(0,1),(1,1),(2,1),(3,1)]) K8 zc333 kr kr (⟨jn,tn 10 U ?_⟩))))))))))))
 obtain⟨o2,hb2,hm2⟩:=(hv1.mono (iY.mono SK) (hle.t hl1))
 refine nN (k:=(em.mk y1.From y1.To y1.Office y1.Kind)) underlying331 uf hb2 hm2 (e8 zv157) (show(iY Sr) _ (.agg (kB [I 0,I 0,I 0,I 0,I 0,I 0,I 0,I 0,I 0,.bool false])) (TJ 0 0 0 0 0 0 0 0 0 false)from⟨_,U,U⟩) U U (λv2 hv2=>?_)
 obtain⟨_,rfl,rfl⟩:=hv2
 refine⟨jn,(tf 12 U U (λ_ _ _=>Ls (KC (mgetD v1 (em.mk y1.From y1.To y1.Office y1.Kind) (TJ 0 0 0 0 0 0 0 0 0 false)) y1) eqg157 U U) (tm 13 U ?_))⟩
 refine dt 27 U (λc1=>?_) (λc1=>?_)
 .refine tf 14 U U (rh ty155 (av2.mono (hle.t hl1)) U) (tf 15 U U (λ_ _ hj=>jZ ty157 U (hj.nth (i:=0) U) U) (tn 16 U (lX (v:=.bool (v2 y1)) [] (List.nil_sublist _) (hv2 hh1 y1 (hle.t hl1)) U U (⟨jn,qA [17,18] U ?_⟩))))
  refine dt 32 U (λc2=>?_) (λc2=>?_)
  .refine tf 19 U U (λ_ _ hj=>kU ty287 ((av3.mono (hle.t hl1)).mono hj.1) U U) (tf 20 U U (λ_ _ hj=>jZ ty157 U (hj.nth (i:=0) U) U) (tn 21 U (fg call272 (rM hh1 v3 y1) U (⟨jn,tf 22 U U (λ_ _ _=>nQ U (cb (show(gJ v3 y1)=(((decide ((mgetD v1 (em.mk y1.From y1.To y1.Office y1.Kind) (TJ 0 0 0 0 0 0 0 0 0 false))=y1))&&(v2 y1))&&(gJ v3 y1))from by first|(rw[c1];rw[c2];rfl)|(rw[c2];rfl)|simp[c1,c2]))) (tm 23 U ?_)⟩))))
   refine dt 37 U (λc3=>?_) (λc3=>?_)
   .have ct1:=c3
    have hs4:=hs3.trans (congrArg (dn1++·) (bt ct1))
    refine tm 24 U (tf 25 U U (λ_ _ hj=>jZ ty157 U (hj.nth (i:=0) U) U) ?_)
    have hx1:aC v0 v1 v2 v3=dn1++(y1::(aC.L1 v1 v2 v3 (aC.K1) rz1)):=hs4
    refine tn 26 U (j2 ([z1]) A1_ ap (hy dn1 y1 _ _ _ _ hx1 hl1 hC1_ U) U U (λh2 A3 hle1 hC1=>?_) (λh3 A4 hle2 hS1=>?_) (λch1 h4 A5 hle3 hP1 e=>gk (mC [] (A:=A5) DG (List.sublist_append_right _ _) hP1)))
    .have hs5:aC v0 v1 v2 v3=(dn1++[y1])++((aC.L1 v1 v2 v3 (aC.K1) rz1)):=hx1.trans ap
     exact⟨⟨hle1,λ_ hp=>List.Sublist.subset js hp⟩,nr (K2:=[z1]) hle1 (λ_ hp=>hp) (qA [27,28] U (aN kr (qT 4 U (oi i1 U (qO 2 U (bj (L':=A3) js (ag1 ((dn1++[y1]),A3,h2) hs5 ⟨hC1,(hl1.t hle1)⟩)))))))⟩
    exact⟨⟨hle2,λ_ hp=>List.Sublist.subset js hp⟩,nr (K2:=[z1]) hle2 (λ_ hp=>hp) (qA [27,28] U (aN kr (kY U (dQ (mi [] (A:=A4) DG U js (.inr hS1))))))⟩
   have ct2:=c3
   have hs6:=hs3.trans (congrArg (dn1++·) (bf ct2))
   exact tk 24 U U (qR 25 4 U (aN kr (qT 4 U (oi i1 U (qO 2 U (bj (L':=A1_) js (ag1 (dn1,A1_,hh1) hs6 ⟨hC1_,hl1⟩)))))))
  refine qR 19 3 U (tf 22 U U (λ_ _ _=>nQ U (cb (show false=(((decide ((mgetD v1 (em.mk y1.From y1.To y1.Office y1.Kind) (TJ 0 0 0 0 0 0 0 0 0 false))=y1))&&(v2 y1))&&(gJ v3 y1))from by first|(rw[c1];rw[c2];rfl)|(rw[c2];rfl)|simp[c1,c2]))) (tm 23 U ?_))
  refine dt 37 U (λc4=>?_) (λc4=>?_)
  .have ct3:=c4
   have hs7:=hs3.trans (congrArg (dn1++·) (bt ct3))
   refine tm 24 U (tf 25 U U (λ_ _ hj=>jZ ty157 U (hj.nth (i:=0) U) U) ?_)
   have hx2:aC v0 v1 v2 v3=dn1++(y1::(aC.L1 v1 v2 v3 (aC.K1) rz1)):=hs7
   refine tn 26 U (j2 ([z1]) A1_ ap (hy dn1 y1 _ _ _ _ hx2 hl1 hC1_ U) U U (λh5 A6 hle4 hC2=>?_) (λh6 A7 hle5 hS2=>?_) (λch2 h7 A8 hle6 hP2 e=>gk (mC [] (A:=A8) DG (List.sublist_append_right _ _) hP2)))
   .have hs8:aC v0 v1 v2 v3=(dn1++[y1])++((aC.L1 v1 v2 v3 (aC.K1) rz1)):=hx2.trans ap
    exact⟨⟨hle4,λ_ hp=>List.Sublist.subset js hp⟩,nr (K2:=[z1]) hle4 (λ_ hp=>hp) (qA [27,28] U (aN kr (qT 4 U (oi i1 U (qO 2 U (bj (L':=A6) js (ag1 ((dn1++[y1]),A6,h5) hs8 ⟨hC2,(hl1.t hle4)⟩)))))))⟩
   exact⟨⟨hle5,λ_ hp=>List.Sublist.subset js hp⟩,nr (K2:=[z1]) hle5 (λ_ hp=>hp) (qA [27,28] U (aN kr (kY U (dQ (mi [] (A:=A7) DG U js (.inr hS2))))))⟩
  have ct4:=c4
  have hs9:=hs3.trans (congrArg (dn1++·) (bf ct4))
  exact tk 24 U U (qR 25 4 U (aN kr (qT 4 U (oi i1 U (qO 2 U (bj (L':=A1_) js (ag1 (dn1,A1_,hh1) hs9 ⟨hC1_,hl1⟩)))))))
 refine qR 14 8 U (tf 22 U U (λ_ _ _=>nQ U (cb (show false=(((decide ((mgetD v1 (em.mk y1.From y1.To y1.Office y1.Kind) (TJ 0 0 0 0 0 0 0 0 0 false))=y1))&&(v2 y1))&&(gJ v3 y1))from by first|(rw[c1];rfl)|(rw[c1];rfl)|simp[c1]))) (tm 23 U ?_))
 refine dt 37 U (λc5=>?_) (λc5=>?_)
 .have ct5:=c5
  have hs10:=hs3.trans (congrArg (dn1++·) (bt ct5))
  refine tm 24 U (tf 25 U U (λ_ _ hj=>jZ ty157 U (hj.nth (i:=0) U) U) ?_)
  have hx3:aC v0 v1 v2 v3=dn1++(y1::(aC.L1 v1 v2 v3 (aC.K1) rz1)):=hs10
  refine tn 26 U (j2 ([z1]) A1_ ap (hy dn1 y1 _ _ _ _ hx3 hl1 hC1_ U) U U (λh8 A9 hle7 hC3=>?_) (λh9 A10 hle8 hS3=>?_) (λch3 h10 A11 hle9 hP3 e=>gk (mC [] (A:=A11) DG (List.sublist_append_right _ _) hP3)))
  .have hs11:aC v0 v1 v2 v3=(dn1++[y1])++((aC.L1 v1 v2 v3 (aC.K1) rz1)):=hx3.trans ap
   exact⟨⟨hle7,λ_ hp=>List.Sublist.subset js hp⟩,nr (K2:=[z1]) hle7 (λ_ hp=>hp) (qA [27,28] U (aN kr (qT 4 U (oi i1 U (qO 2 U (bj (L':=A9) js (ag1 ((dn1++[y1]),A9,h8) hs11 ⟨hC3,(hl1.t hle7)⟩)))))))⟩
  exact⟨⟨hle8,λ_ hp=>List.Sublist.subset js hp⟩,nr (K2:=[z1]) hle8 (λ_ hp=>hp) (qA [27,28] U (aN kr (kY U (dQ (mi [] (A:=A10) DG U js (.inr hS3))))))⟩
 have ct6:=c5
 have hs12:=hs3.trans (congrArg (dn1++·) (bf ct6))
 exact tk 24 U U (qR 25 4 U (aN kr (qT 4 U (oi i1 U (qO 2 U (bj (L':=A1_) js (ag1 (dn1,A1_,hh1) hs12 ⟨hC1_,hl1⟩)))))))
theorem ra(h:HF)(q:cS)(l:List Deputy)(fq:Option Addr)(fp:Nat)(hl:SlC Sr h fq fp l):jY prog 238 [.agg (cS.cells q).toArray,.slice fq l.length fp] h (λv h'=>∃(rv0:Value),v=rv0/\Itr prog rv0 sD (aV q l) h'):=by
 refine sT func238 U ntmps238 U λX hM hX hF=>?_
 have hs0:=@rfl _ (aV q l)
 refine sr (ct (λb1=>ct (λb2=>qO 4 U (cI 1 ty287 U U U (aw (dS U U (aU zc155 (λb3=>cB 0 ty155 U U U U U U (qO 3 U (aw (na (λb4=>aU zc331 (λb5=>cB 0 ty331 U U U U U U (qL 8 [3] U ?_))))))))))))))
 let z1:Nat×Obj:=(b3,O [.func (.func 270) #[.agg (cS.cells q).toArray] #[]] 155)
 let z2:Nat×Obj:=(b2,O [.slice fq l.length fp] 23)
 let z3:Nat×Obj:=(b1,O (cS.cells q) 287)
 let z4:Nat×Obj:=(b5,O [.map (some b4)] 331)
 refine lp2 l (λi w=>[(2,Q b1),(3,Q b2),(5,Q b3),(6,Q b5),(15,.slice fq l.length fp),(16,I (l.length:Int)),(17,I (i:Int))]) (λ_=>h) (λw=>[z4,(b4,w.2),z1,z2,z3]) (λi w=>ia em.enc (iY Sr) h w.2 w.1/\w.1.length<=0+i) (λs1 i w=>(aV.L1 q (aV.K1 q l)) s1 w.1) ([],.map #[] 0) hl.1.1 hs0 ⟨(ia.nil (enc:=em.enc) (V:=(iY Sr)) (h:=h)),lc⟩ ?_ ?_
 .rintro i1 ⟨eL,E0⟩ fB hs1 ⟨xm,Ol⟩ e
  refine sr (aP 3 U hM (λh1 hle1 hb1=>aP 0 U hM (λh2 hle2 hb2=>aP 1 U hM (λh3 hle3 hb3=>aP 1 U hM (λh4 hle4 hb4=>aw (dS U U (an (eO 0 U hM (λh5 hle5 hb5=>?_)))))))))
  have mc1:re em.enc (iY Sr) h5 b4 eL:=⟨_,hb5,(xm.mono (iY.mono SK) (((hle1.t hle2).t hle3).t hle4)).mono (iY.mono SK) hle5⟩
  have hs2:aV q l=(aC l eL (gf q) q):=hs1
  exact nretH [.func (.func 271) #[] #[Q b2,Q b5,Q b3,Q b1]] (hs2▸⟨(.func (.func 271) #[] #[Q b2,Q b5,Q b3,Q b1]),U,(pJ h5 l fq fp ⟨b2,0,none⟩ eL b4 ⟨b5,0,none⟩ (gf q) (.func (.func 270) #[.agg (cS.cells q).toArray] #[]) ⟨b3,0,none⟩ q ⟨b1,0,none⟩ (hl.mono SK ((((hle1.t hle2).t hle3).t hle4).t hle5)) ((bI hb1).mono (((hle2.t hle3).t hle4).t hle5)) mc1 ((bI hb2).mono ((hle3.t hle4).t hle5)) (λh' cj hle=>IL (fl:=[.agg (cS.cells q).toArray]) (cap:=[]) call270 (nm h' q cj)) ((bI hb3).mono (hle4.t hle5)) ((bI hb4).mono hle5))⟩)
 rintro i1 ⟨eL,E0⟩ y1 rz1 hd1 du bo eA gD hs3 ⟨xm,Ol⟩ hx1 ag1 e
 refine sr (tO du U (qO 8 U (aw (iF kM yF ty157 hl.1 bo U U U (λq2 A2=>dl ty157 A2 U U (aU zc157 (λb9=>aR 0 ty157 U U U U U U (qL 11 [0,0,0,0] U (aw (eY (cells:=[I y1.From,I y1.To,I y1.Office,I y1.Kind]) (places:=[(0,1),(1,1),(2,1),(3,1)]) K8 zc333 kr kr (aU zc333 (λb10=>aR 0 ty333 U U U U U U (qL 4 [2] U (cI 0 ty333 U U U (aw (lI 3 (k:=(em.mk y1.From y1.To y1.Office y1.Kind)) underlying331 uf U xm (e8 zv157) (show(iY Sr) _ (.agg (kB [I 0,I 0,I 0,I 0,I 0,I 0,I 0,I 0,I 0,.bool false])) (TJ 0 0 0 0 0 0 0 0 0 false)from⟨_,U,U⟩) U U (λv2 hv2=>?_)))))))))))))))))
 obtain⟨_,rfl,rfl⟩:=hv2
 refine qO 3 U (aU zc157 (λb11=>aR 0 ty157 U U U U U U (qL 5 [5] U (cI 2 ty157 U U U (aw (lX (v:=.bool (gf q y1)) [] (List.nil_sublist _) (IL (fl:=[.agg (cS.cells q).toArray]) (args:=[.agg (kM y1).toArray]) (cap:=[]) call270 (nm h q y1)) U U (ao (bD 10 [39,40,41,42,43,44,45,46,47,48,49] 39 49 ((!(mhas eL (em.mk y1.From y1.To y1.Office y1.Kind)))||decide ((mgetD eL (em.mk y1.From y1.To y1.Office y1.Kind) (TJ 0 0 0 0 0 0 0 0 0 false)).At<=y1.At)) U (λc1 hk1=>?_) (λe=>?_)))))))))
 .refine qO 3 U (cn 6 [42,43,44,45,46,47,48] 42 48 (decide ((mgetD eL (em.mk y1.From y1.To y1.Office y1.Kind) (TJ 0 0 0 0 0 0 0 0 0 false)).At<=y1.At)) U (λc2 hk2=>?_) (λe=>?_))
  .exact qL 6 [2,0] U (hk2 _ U)
  exact eM U (hk1 _ U)
 refine aH (ae hs3 U (λc3 hs4=>?_) (λc3 hs5=>?_))
 .exact qK 2 [3] U (cI 1 ty333 U U U (cI 2 ty157 U U U (aw (iZ 4 (k:=(em.mk y1.From y1.To y1.Office y1.Kind)) (x:=y1) underlying331 uf U xm U U ⟨_,U,U⟩ (λmo1 hm1=>qO 3 U (oi i1 U (qO 2 U (bj (L':=[z4,(b4,mo1),z1,z2,z3]) js (ag1 ((mput eL (em.mk y1.From y1.To y1.Office y1.Kind) y1),mo1) hs4 ⟨hm1,(by have:=gy eL (em.mk y1.From y1.To y1.Office y1.Kind) y1;first|omega|(simp only[vB,zA]at *;omega))⟩)))))))))
 exact aQ (qT 2 U (oi i1 U (qO 2 U (bj (L':=[z4,(b4,E0),z1,z2,z3]) js (ag1 (eL,E0) hs5 ⟨xm,lc⟩)))))
theorem pQ(q:cS)(l:List Deputy):(aV q l).length<=l.length:=by
 have h1:∀(v:List (em×Deputy))(s:List Deputy),(aC.L1 v (gf q) q aC.K1 s).length<=s.length:=by
  intro v s
  induction s with
  |nil=>exact xG _
  |cons y s ih=>simp only[aC.L1,Bool.cond_eq_ite];split<;>simp only[zA]<;>omega
 have h2:∀(s:List Deputy)(g:List (em×Deputy)),(aV.L1 q (aV.K1 q l) s g).length<=l.length:=by
  intro s
  induction s with
  |nil=>intro g;exact h1 g l
  |cons y s ih=>intro g;simp only[aV.L1,Bool.cond_eq_ite];split<;>exact ih _
 exact h2 _ _
theorem Bh(h:HF)(l:List Deputy)(fq:Option Addr)(fp:Nat)(dR:Int)(to:Int)(office:Int)(kind:Int)(value:Int)(ld:Int)(known:Int)(hl:SlC Sr h fq fp l)(hsz:l.length<=2000000):jY prog 192 [.slice fq l.length fp,I dR,I to,I office,I kind,I value,I ld,I known] h (λv h'=>∃(rb0:Option Addr)(rc0:Nat),v=.tuple #[.slice rb0 ((aI l dR to office kind value ld known).1).length rc0,.bool ((aI l dR to office kind value ld known).2.1),I ((aI l dR to office kind value ld known).2.2)]/\SlC zC h' rb0 rc0 ((aI l dR to office kind value ld known).1)):=by
 refine sT func192 U ntmps192 U λX hM hX hF=>?_
 have hs0:=@rfl _ (aI l dR to office kind value ld known)
 have hcv:(dk (aV (cS.mk office kind value ld known) l)).length<=2000000:=by rw[tX];exact jP (pQ _ _) hsz
 refine qT 13 U (aw (eY (cells:=[I office,I kind,I value,I ld,I known]) (places:=[(0,1),(1,1),(2,1),(3,1),(4,1)]) underlying287 zc287 kr kr (aU zc287 (λb1=>aR 0 ty287 U U U U U U (qO 7 U (cI 0 ty287 U U U (ai call236 (Do _ _ _ _ dR to (cS.mk office kind value ld known) hl) U (qO 7 U (ae hs0 U (λc1 hs1=>?_) (λc1 hs2=>?_))))))))))
 .refine qT 7 U ?_
  have hs3:aI l dR to office kind value ld known=([],false,(md l dR to (cS.mk office kind value ld known))):=hs1
  exact nretH [.slice none 0 0,.bool false,I (md l dR to (cS.mk office kind value ld known))] (hs3▸⟨none,0,U,zF⟩)
 refine qT 3 U (cI 0 ty287 U U U (ao (aw (cJ call238 (ra _ (cS.mk office kind value ld known) _ _ _ hl) U (λv1 h1 hle1 hp1=>?_)))))
 obtain⟨_,rfl,mo1⟩:=hp1
 refine aw (cJ call237 (tW h1 (aV (cS.mk office kind value ld known) l) v1 mo1 (jP (pQ _ _) hsz)) U (λv2 h2 hle2 hp2=>?_))
 obtain⟨rb1,rc1,rfl,sl1⟩:=hp2
 refine qO 4 U (aw (na (λb2=>ao (aw (jy 0 (k:=to) (x:=0) Al (dG kz) U (ia.nil (enc:=(xB .i64)) (V:=vo) (h:=h2)) U U U (λmo2 hm1=>qO 8 U ?_))))))
 let z1:Nat×Obj:=(b1,O [I office,I kind,I value,I ld,I known] 287)
 refine iA (ι:=Nat×(List (Int×Int))×Obj) (λi=>[(1,I dR),(16,.slice none 0 0),(20,.slice rb1 ((dk (aV (cS.mk office kind value ld known) l)).length) rc1),(21,.map (some b2))]) (λi=>h2) (λi=>[(b2,i.2.2),z1]) (λi=>i.1<=(jJ 8).length/\aI l dR to office kind value ld known=((aI.K1 l dR office kind value ld known) i.2.1)/\ia (xB .i64) vo h2 i.2.2 i.2.1/\(∀p∈i.2.1,0<=p.2/\p.2<=8)) ?_ (λhx1=>?_)
 .rintro⟨i1,aZ,dB⟩ ⟨fB,hs4,eV,u1_0⟩ e
  try dsimp only at fB eV u1_0
  have hf8:=(yd (P:=λx:Int=>0<=x/\x<=8) dR u1_0 (show(0:Int)<=0/\(0:Int)<=8 from⟨Int.le_refl _,by omega⟩))
  have hrg:=List.length_range (n:=(mgetD aZ dR 0).toNat)
  refine qT 4 U (aw (lI 0 (k:=dR) Al (dG kz) U eV (e8 zv3) (show vo _ (I 0) 0 from U) U U (λv5 hv3=>?_)))
  obtain rfl:=hv3
  refine qO 12 U (ae hs4 U (λc3 hs5=>?_) (λc3 hs6=>?_))
  .refine qT 6 U ?_
   have hs7:aI l dR to office kind value ld known=([],false,0):=hs5
   exact nretH [.slice none 0 0,.bool false,I 0] (hs7▸⟨none,0,U,zF⟩)
  refine qT 7 U ?_
  refine iA (ι:=Nat×List Int×Option Addr×Nat×LH×Int) (λi=>[(16,.slice i.2.2.1 i.2.1.length i.2.2.2.1)]) (λi=>h2) (λi=>[(b2,dB),z1]++(i.2.2.2.2.1)) (λi=>i.1<=(jJ (((mgetD aZ dR 0)).toNat)).length/\aI l dR to office kind value ld known=((aI.K4) i.2.1 i.2.2.2.2.2)/\dA zC 3 h2 i.2.1 i.2.2.1 i.2.2.2.1 i.2.2.2.2.1/\i.2.1.length<=i.1) ?_ (λhx4=>?_)
  .rintro⟨i4,xi,EU,ET,HP,CO⟩ ⟨BZ,hs8,Cb,KA⟩ e
   try dsimp only at BZ Cb KA
   refine qT 7 U (fW zH ([(b2,dB),z1]) HP ([]) ap hM Cb (λh3 hle3 sl2=>?_))
   have hs9:aI l dR to office kind value ld known=(xi,true,0):=hs8
   exact nretH [.slice EU xi.length ET,.bool true,I 0] (hs9▸⟨EU,ET,U,sl2⟩)
  refine kl (ι:=Nat×List Int×Option Addr×Nat×LH×Int×List Nat) (λi=>[(16,.slice i.2.2.1 i.2.1.length i.2.2.2.1),(20,.slice rb1 ((dk (aV (cS.mk office kind value ld known) l)).length) rc1),(21,.map (some b2)),(29,I ((((((mgetD aZ dR 0)).toNat)-i.1):Nat):Int)),(31,I i.2.2.2.2.2.1)]) (λi=>h2) (λi=>[(b2,dB),z1]++(i.2.2.2.2.1)) (λi=>(jJ (((mgetD aZ dR 0)).toNat)).drop i.1=i.2.2.2.2.2.2/\i.1<=(jJ (((mgetD aZ dR 0)).toNat)).length/\aI l dR to office kind value ld known=((aI.L4 l dR office kind value ld known aZ (aI.K4)) i.2.2.2.2.2.2 i.1 i.2.1 i.2.2.2.2.2.1)/\dA zC 3 h2 i.2.1 i.2.2.1 i.2.2.2.1 i.2.2.2.2.1/\i.2.1.length<=i.1) (λi=>i.2.2.2.2.2.2.length) (0,[],none,0,[],dR,(jJ (((mgetD aZ dR 0)).toNat))) ⟨U,U,U,(congrArg (xB .i64) (show(mgetD aZ dR 0)=((((((mgetD aZ dR 0)).toNat)-0):Nat):Int)from(by have hq:=(yd (P:=λx:Int=>0<=x/\x<=8) dR u1_0 (show(0:Int)<=0/\(0:Int)<=8 from⟨Int.le_refl _,by omega⟩));omega))),U,trivial⟩ sw ⟨U,vM _,hs6,dA.nil,lo⟩ ?_
  rintro⟨i4,xi,EU,ET,HP,CO,s4⟩ ⟨hd4,Pz,hs10,Cb,KA⟩ ag1 e
  try dsimp only at hd4 Pz Cb KA
  rcases s4 with _|⟨y4,rz4⟩
  .have Ry:decide (0<((((((mgetD aZ dR 0)).toNat)-i4):Nat):Int))=false:=decide_eq_false (by have q_:=of_decide_eq_false (oI hd4);rw[List.length_range]at q_;omega)
   exact dJ (qT 3 U (fO Ry U (qO 3 U (hx4 (i4,xi,EU,ET,HP,CO) _ ⟨Pz,hs10,Cb,lo⟩ rd))))
  have Rx:decide (0<((((((mgetD aZ dR 0)).toNat)-i4):Nat):Int))=true:=decide_eq_true (by have q_:=jv hd4;rw[List.length_range]at q_;omega)
  have P1:i4<(((mgetD aZ dR 0)).toNat):=by simpa using jv hd4
  refine qT 4 U (tO Rx U (qL 11 [] U ?_))
  refine lp3 (dk (aV (cS.mk office kind value ld known) l)) (λi w=>[(16,.slice w.2.1 w.1.length w.2.2.1),(20,.slice rb1 ((dk (aV (cS.mk office kind value ld known) l)).length) rc1),(21,.map (some b2)),(29,I ((((((mgetD aZ dR 0)).toNat)-i4):Nat):Int)),(31,I w.2.2.2.2),(110,.slice rb1 ((dk (aV (cS.mk office kind value ld known) l)).length) rc1),(111,I (((dk (aV (cS.mk office kind value ld known) l)).length:Nat):Int)),(112,I (i:Int))]) (λ_=>h2) (λw=>[(b2,dB),z1]++(w.2.2.2.1)) (λi w=>dA zC 3 h2 w.1 w.2.1 w.2.2.1 w.2.2.2.1/\w.1.length<=i4) (λi w=>dA zC 3 h2 w.1 w.2.1 w.2.2.1 w.2.2.2.1/\w.1.length<=i4+1) (λ_ _ h=>⟨h.1,Nat.le_succ_of_le h.2⟩) (λs6 i w=>(aI.L6 dR aZ i4 (λzg6_16 zg6_31=>(aI.L4 l dR office kind value ld known aZ (aI.K4) rz4 (i4+1) zg6_16 zg6_31))) s6 w.1 w.2.2.2.2) (xi,EU,ET,HP,CO) sl1.1.1 hs10 ⟨Cb,lo⟩ ?_ ?_
  .rintro i6 ⟨AQ,Kz,Ky,ES,CN⟩ QG hs12 ⟨Ca,Kx⟩ e
   try dsimp only at Ca Kx
   exact eB (qT 2 U (iq (v':=I ((((((mgetD aZ dR 0)).toNat)-(i4+1)):Nat):Int)) U (OG P1 ob) (an (ag1 ((i4+1),AQ,Kz,Ky,ES,CN,rz4) _ (Nat.lt_succ_self _) ⟨mY hd4,jv hd4,hs12,Ca,lo⟩ rd))))
  rintro i6 ⟨AQ,Kz,Ky,ES,CN⟩ y6 rz6 hd6 Rw Ra RJ RN hs13 ⟨Ca,Kx⟩ hx6 ag2 e
  try dsimp only at Ca Kx
  refine sr (tO Rw U (qO 8 U (aw (iF kM yF ty157 sl1.1 Ra U U U (λq4 A4=>dl ty157 A4 U U (aU zc157 (λb6=>aR 0 ty157 U U U U U U (gS (L':=[(b6,O (kM y6) 157),(b2,dB),z1]++(ES)) U (qL 6 [0] U (aw (lI 1 (k:=y6.To) Al (dG kz) U eV (e8 zv3) (show vo _ (I 0) 0 from U) U U (λv8 hv6=>?_))))))))))))
  obtain rfl:=hv6
  refine qL 13 [0] U (bD 2 [127,128,129] 127 129 (mhas aZ y6.To) U (λc5 hk1=>?_) (λe=>?_))
  .exact ao (eM U (hk1 _ U))
  refine ao (bD 5 [130,131,132,133,134,135] 130 135 ((mgetD aZ y6.To 0)==((((((mgetD aZ dR 0)).toNat)-(i4+1)):Nat):Int)) U (λc6 hk2=>?_) (λe=>?_))
  .exact ao (ao (iq (v':=I ((((((mgetD aZ dR 0)).toNat)-(i4+1)):Nat):Int)) U (OG P1 ob) (qO 2 U (hk2 _ U))))
  refine aH (ae hs13 U (λc7 hs14=>?_) (λc7 hs15=>?_))
  .refine dJ ?_
   let z2:Nat×Obj:=(b6,O (kM y6) 157)
   refine eQ ([z2,(b2,dB),z1]) mixed kr jn (λeF _=>?_)
   exact tm 0 U (qB [1] U (tf 2 U U (rj 0 ty3 U U U) (qB [5] U (tf 6 U U (rj 0 ty3 U U U) (tn 3 U (bB (cells:=[I y6.No]) eG ty3 zc3 U U kr (λb7=>⟨jn,tn 4 U (eo Rp.kZ ([(b7,O [I y6.No] 3),z2,(b2,dB),z1]) ([]) (λG=>[(b7,O [I y6.No] 3),z2,(b2,dB),z1]++G) ap (λ_=>ap) eG ty3 zc3 U bytes3 Ca U U (fd 0 U (cE (y6.No) U U)) lo lo (λob1 oc1 G1 gr1=>⟨jn,qA [7,8] U (aN kr (mr U (bj (L':=[(b2,dB),z1]++G1) js (hx6 i6 ((AQ++[y6.No]),ob1,oc1,G1,y6.To) hs14 ⟨gr1,lo⟩))))⟩))⟩)))))))
  exact aQ (qT 2 U (oi i6 U (qO 2 U (bj (L':=[(b2,dB),z1]++(ES)) js (ag2 (AQ,Kz,Ky,ES,CN) hs15 ⟨Ca,lo⟩)))))
 refine kl (ι:=Nat×(List (Int×Int))×Obj×List Nat) (λi=>[(1,I dR),(16,.slice none 0 0),(20,.slice rb1 ((dk (aV (cS.mk office kind value ld known) l)).length) rc1),(21,.map (some b2)),(57,I (i.1:Int))]) (λi=>h2) (λi=>[(b2,i.2.2.1),z1]) (λi=>(jJ 8).drop i.1=i.2.2.2/\i.1<=(jJ 8).length/\aI l dR to office kind value ld known=((aI.L1 l office kind value ld known (aI.K1 l dR office kind value ld known)) i.2.2.2 i.1 i.2.1)/\ia (xB .i64) vo h2 i.2.2.1 i.2.1/\(∀p∈i.2.1,0<=p.2/\p.2<=8)) (λi=>i.2.2.2.length) (0,(mput ([]) to 0),mo2,(jJ 8)) rd sw ⟨U,vM _,hs2,hm1,(λp hp=>by rw[xC.1 hp];exact⟨Int.le_refl _,by omega⟩)⟩ ?_
 rintro⟨i1,aZ,dB,s1⟩ ⟨hd1,fB,hs16,eV,u1_0⟩ ag3 e
 try dsimp only at hd1 fB eV u1_0
 rcases s1 with _|⟨y1,rz1⟩
 .have iw:decide ((i1:Int)<8)=false:=by simpa using oI hd1
  exact sr (fO iw U (qO 4 U (hx1 (i1,aZ,dB) _ ⟨fB,hs16,eV,u1_0⟩ rd)))
 have du:decide ((i1:Int)<8)=true:=by simpa using tJ hd1
 have eA:i1<8:=by simpa using jv hd1
 have hr8:i1<8:=eA
 refine sr (tO du U (qL 17 [] U ?_))
 refine lp2 (dk (aV (cS.mk office kind value ld known) l)) (λi w=>[(1,I dR),(16,.slice none 0 0),(20,.slice rb1 ((dk (aV (cS.mk office kind value ld known) l)).length) rc1),(21,.map (some b2)),(22,I (i1:Int)),(57,I (i1:Int)),(60,.slice rb1 ((dk (aV (cS.mk office kind value ld known) l)).length) rc1),(61,I (((dk (aV (cS.mk office kind value ld known) l)).length:Nat):Int)),(62,I (i:Int))]) (λ_=>h2) (λw=>[(b2,w.2),z1]) (λi w=>ia (xB .i64) vo h2 w.2 w.1/\(∀p∈w.1,0<=p.2/\p.2<=8)) (λs3 i w=>(aI.L3 i1 (λzg3_b2_0=>(aI.L1 l office kind value ld known (aI.K1 l dR office kind value ld known) rz1 (i1+1) zg3_b2_0))) s3 w.1) (aZ,dB) sl1.1.1 hs16 ⟨eV,ob⟩ ?_ ?_
 .rintro i3 ⟨gz,uz⟩ Pz hs18 ⟨ma,u3_0⟩ e
  try dsimp only at ma u3_0
  exact eB (bu (oi i1 U (qO 2 U (ag3 ((i1+1),gz,uz,rz1) _ (Nat.lt_succ_self _) ⟨mY hd1,jv hd1,hs18,ma,ob⟩ rd))))
 rintro i3 ⟨gz,uz⟩ y3 rz3 hd3 HN CM LD PA hs19 ⟨ma,u3_0⟩ hx3 ag4 e
 try dsimp only at ma u3_0
 refine sr (tO HN U (qO 8 U (aw (iF kM yF ty157 sl1.1 CM U U U (λq6 A6=>dl ty157 A6 U U (aU zc157 (λb9=>aR 0 ty157 U U U U U U (qL 6 [0] U (aw (lI 1 (k:=y3.From) Al (dG kz) U ma (e8 zv3) (show vo _ (I 0) 0 from U) U U (λv11 hv9=>?_)))))))))))
 obtain rfl:=hv9
 refine qL 11 [0] U (aw (lI 1 (k:=y3.To) Al (dG kz) U ma (e8 zv3) (show vo _ (I 0) 0 from U) U U (λv12 hv10=>?_)))
 obtain rfl:=hv10
 refine qO 10 U (bD 4 [81,82,83,84,85] 81 85 ((mgetD gz y3.To 0)==(i1:Int)) U (λc8 hk3=>?_) (λe=>?_))
 .exact ao (qO 3 U (hk3 _ U))
 refine ao (bD 3 [86,87,88,89] 86 89 (!(mhas gz y3.From)) U (λc9 hk4=>?_) (λe=>?_))
 .exact ao (qO 2 U (hk4 _ U))
 refine aH (ae hs19 U (λc10 hs20=>?_) (λc10 hs21=>?_))
 .exact qK 5 [0] U (oi i1 U (aw (iZ 1 (k:=y3.From) (x:=(((i1+1):Nat):Int)) Al (dG kz) U ma U U U (λmo3 hm2=>qO 3 U (oi i3 U (qO 2 U (bj (L':=[(b2,mo3),z1]) js (ag4 ((mput gz y3.From (((i1+1):Nat):Int)),mo3) hs20 ⟨hm2,(by first|assumption|exact wW (P:=λx:Int=>0<=x/\x<=8) _ ob ob)⟩))))))))
 exact aQ (qT 2 U (oi i3 U (qO 2 U (bj (L':=[(b2,uz),z1]) js (ag4 (gz,uz) hs21 ⟨ma,(by first|assumption|exact wW (P:=λx:Int=>0<=x/\x<=8) _ ob ob)⟩)))))
theorem pM(h:HF)(c:bL)(og:kd)(person:Int)(hc:bL.ok h c og)(hsm:smR c.Register)(hco:jt c)(hpp:0<=person/\person<64):Ret prog 193 [.agg (bL.cells c og).toArray,I person] h (.bool (iO c person)):=by
 refine sT func193 U ntmps193 U λX hM hX hF=>?_
 have hs0:=@rfl _ (iO c person)
 refine sr (ct (λb1=>qL 15 [0,0,0,0] U (aw (cJ call81 (pN _ _ _ _ person _ _ _ c.at_ c.known hc.Register.Interests hc.doc.Parties hsm.2.2.2.1) U (λv1 h1 hle1 hp1=>?_)))))
 obtain⟨rb1,rc1,rfl,sl1⟩:=hp1
 exact ao (qO 10 U (aw (n2 vr (iB h1 ((cQ c.Register.Interests person c.doc.Parties c.at_ c.known).2.2)) (mu (Fg hco hpp)) U (qO 6 U (nretP [.bool ((cQ c.Register.Interests person c.doc.Parties c.at_ c.known).2.1)] (cs hs0))))))
end
section
open Go.Proofs Go.Proofs.Tryz Go.RowKit
theorem FX{out:List Int}{x:Int}:(compStep out x).getLast? = some x:=by
 unfold compStep
 split
 .assumption
 .simp
theorem Fi(xs:List Int):∀k,k<=xs.length->Lib.compactUpTo xs.toArray k=compI (xs.take k)/\(0<k->(compI (xs.take k)).getLast? = xs[k-1]?)
 |0,_=>⟨by simp[Lib.compactUpTo,compI],λh=>absurd h (Nat.lt_irrefl _)⟩
 |k+1,hk=>by
  obtain⟨h1,h2⟩:=Fi xs k (by omega)
  have hx:xs[k]? = some xs[k]:=vF (by omega)
  have ht:xs.take (k+1)=xs.take k++[xs[k]]:=by rw[List.take_add_one,hx];rfl
  have hc:compI (xs.take (k+1))=compStep (compI (xs.take k)) xs[k]:=by unfold compI;rw[ht,List.foldl_append];rfl
  refine⟨?_,λ_=>by rw[hc,FX,Nat.add_sub_cancel,hx]⟩
  rw[Lib.compactUpTo_succ,h1,hc]
  have hd:xs.toArray[k]! = xs[k]:=by simp[getElem!_pos,show k<xs.length by omega]
  rcases Nat.eq_zero_or_pos k with rfl|hk0
  .simp[Lib.keeps,compI,compStep,hd]
  .have hl:=h2 hk0
   have hd1:xs.toArray[k-1]! = xs[k-1]:=by simp[getElem!_pos,show k-1<xs.length by omega]
   have hx1:xs[k-1]? = some xs[k-1]:=vF (by omega)
   unfold compStep
   rw[hl,hx1,hd]
   by_cases he:xs[k-1]=xs[k]
   .have:Lib.keeps xs.toArray k=false:=Lib.keeps_neg hk0 (by rw[hd,hd1,he])
    simp[this,he]
   .have:Lib.keeps xs.toArray k=true:=Lib.keeps_pos (by rw[hd,hd1];exact λe=>he e.symm)
    simp[this,he]
theorem KF(xs:List Int):Lib.compact xs=compI xs:=by
 have:=(Fi xs xs.length (xG _)).1
 rw[List.take_length]at this
 exact this
theorem OM(xs:List Int):(compI xs).length<=xs.length:=by
 have:∀(l acc:List Int),(l.foldl compStep acc).length<=acc.length+l.length:=by
  intro l
  induction l with
  |nil=>intro acc;exact xG _
  |cons y l ih=>
   intro acc
   have h1:=ih (compStep acc y)
   have h2:(compStep acc y).length<=acc.length+1:=by unfold compStep;split<;>simp
   simp only[List.foldl_cons,zA];omega
 have h3:=this xs []
 simpa[compI]using h3
theorem pL(h:HF)(xs:List Int)(b:Option Addr)(c:Nat)(G:LH)(hG:dA zC 3 h xs b c G):
  nL prog 74 [.slice b xs.length c].toArray h G (λr h' G'=>h'=h/\r=.returned (.slice b (slices_Compact_int xs).length c)/\dA zC 3 h (slices_Compact_int xs) b c G'):=by
 intro w hp
 rcases hG with⟨rfl,rfl,rfl,rfl⟩|⟨bk,cl,sp,rfl,hcl,hlen,hcap,hmax,rfl⟩
 .refine(iT (Tryz.slices_Compact_int_empty none 0 w) (λw' hw=>by cases hw.1)).mono ?_
  rintro e w' ⟨rfl,rfl⟩
  exact⟨h,[],St.start hp,rfl,rfl,dA.nil⟩
 .have hb:=hp.own _ (xC.2 rfl)
  simp only at hb
  have hcl':cl=xs.map (xB .i64):=by
   clear hlen hb hp hcap hmax
   induction xs generalizing cl with
   |nil=>exact hcl
   |cons y l ih=>
    obtain⟨cs,r,rfl,_,hr,hl⟩:=hcl
    have:cs=[.int .i64 y]:=hr
    rw[this,ih r hl];rfl
  subst hcl'
  have hH:Sort.Holds (xB .i64) w bk 0 xs.toArray:=by
   refine holds_of_blockI (cur:=(xs.map (xB .i64)++sp).toArray) (e:=3) hb ?_
   simp
  refine(iT (Tryz.slices_Compact_int bk 0 c xs w hH hmax hcap) (λw' hw=>by cases hw.1)).mono ?_
  rw[KF]
  have hle:=OM xs
  rintro e w' ⟨rfl,n,rfl⟩
  let ys:List Int:=compI xs++List.replicate (xs.length-(compI xs).length) 0
  have hys:ys.length=xs.length:=by simp[ys];omega
  obtain⟨g1,g2,g3,g4,g5⟩:=grownBy_sortedI (w:=w) (g:=bk) (n:=n) (os:=#[]) ys.toArray
  have hnew:=heap_sortedI (w:=w) (g:=bk) (n:=n) (os:=#[]) ys.toArray hb
  have htake:=take_putCellsI (xs.map (xB .i64)++sp).toArray ys (by rw[hys];simp)
  have hgr:∀W:World,Go.Sort.grow W #[]=W:=λW=>by simp[Go.Sort.grow]
  rw[hgr]at g1 g2 g3 g4 g5 hnew
  refine⟨h,[(bk,.cells (Sort.putCells (xB .i64) 0 ys.toArray (xs.map (xB .i64)++sp).toArray) 3 (0,0))],⟨g1,g2,g3,g4,λk hk hM=>g5 k hk (λe=>hM (by cases e;simp)),λ_ _ e=>e,λ_ _=>rfl,λk o e=>?_,λq hq=>?_,?_,?_,?_⟩,rfl,rfl,?_⟩
  .have hne:k≠bk:=λe'=>by
    have:=hp.free _ (xC.2 rfl)
    simp only at this
    rw[e',this]at e;cases e
   exact(g5 k (fD (hp.imm k o e)) (λe'=>by cases e';exact hne rfl)).trans (hp.imm k o e)
  .rw[xC.1 hq];exact hnew
  .simp
  .intro q hq;rw[xC.1 hq];exact hp.free (bk,Obj.cells (xs.map (xB .i64)++sp).toArray 3 (0,0)) (xC.2 rfl)
  .intro q hq;rw[xC.1 hq];exact .inr (by simp)
  .have hcells:∀l:List Int,bP zC h (l.map (xB .i64)) l:=by
    intro l
    induction l with
    |nil=>rfl
    |cons y l ih=>exact⟨[.int .i64 y],l.map (xB .i64),rfl,rfl,rfl,ih⟩
   have hg:dA zC 3 h ys (some ⟨bk,0,none⟩) c [(bk,.cells (Sort.putCells (xB .i64) 0 ys.toArray (xs.map (xB .i64)++sp).toArray) 3 (0,0))]:=by
    refine .inr ⟨bk,ys.map (xB .i64),(Sort.putCells (xB .i64) 0 ys.toArray (xs.map (xB .i64)++sp).toArray).toList.drop ys.length,rfl,hcells _,?_,by rw[hys];exact hcap,by rw[hys];exact hmax,?_⟩
    .rw[←htake,List.take_append_drop]
     simpa[Sort.putCells]using hlen
    .rw[←htake,List.take_append_drop]
   have:=hg.take (compI xs).length
   rwa [show ys.take (compI xs).length=compI xs from by simp[ys]]at this
end
end Go.Sg
