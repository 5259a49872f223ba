import Derived.Test.YtpplkjhgggjaoaaGreatDoorW5
/- A part of the proof of JudgePeopleSpec. -/
set_option linter.unusedVariables false
set_option linter.unusedSimpArgs false
set_option maxRecDepth 100000
open List renaming length_cons→xA,not_mem_nil→vA,mem_cons_of_mem→kA,mem_cons_self→zB,length_append→xB,mem_cons→jB,toArray→vB,mem_singleton→qC,length_nil→jC,append_assoc→vD,mem_append→jE,mem_of_getElem?→vF,nil_append→kF,getElem?_eq_getElem→zG,perm_append_comm→kH,map_cons→jJ,range→zK,getElem?_eq_none→kK,mem_append_right→qN,mem_map_of_mem→vN,mem_append_left→kP,nodup_cons→xR,getElem?_map→Sv,map_append→SP,nodup_append→S6,nodup_nil→S7
open Go.Sg.Rp renaming int→kB,aL→xH,ep→SL,bool→UP
open Go.Sg.Approval renaming cells→zC,aj→zH,rp→qJ,mk→kT
open Go.Sg.Interest renaming cells→xC,rp→xK,aj→vQ,mk→qW
open Bool renaming or_eq_true→kC
open Go.Value renaming int→zD
open Go.Sg.Appoint renaming mk→jD,rp→vH,cells→xL,aj→zR
open Go.IntKind renaming wrap→qE
open Go.Sg.Policy renaming cells→xE,ok→kN,mk→zP
open Go.Sg.SlC renaming nil→vE
open Go.Sg.OSeat renaming cells→xF,enc→SE,mk→SQ,rp→Uy
open Go.Sg.HF renaming le_trans→xG,le→xM,le_refl→qQ
open Go.Sg.Deputy renaming cells→jG,aj→zM,rp→xN,mk→Tt
open Nat renaming le_refl→vG,zero_le→qM,lt_or_ge→kM,le_trans→xS
open Go.Sg.Expr renaming mk→qH
open Go.Obj renaming cells→zJ
open Go.Deferred renaming ofValue→xJ
open Go.Sg.Register renaming cells→vK
open Go.Sg.Version renaming aj→jN,rp→zQ,cells→SU,mk→Tk,ok→Ur
open Array renaming ext'→SN

namespace Go.Sg
variable {h:HF}{q:Approval->Bool}{y:Approval}
section
open Go.Proofs Go.Proofs.Tryz
set_option maxHeartbeats 2000000
theorem rN(h:HF)(s:List Approval)(sY:Option Addr)(sX:Nat)(f:(Approval->Bool))(f_v:Value)(hs:SlC qJ h sY sX s)(hf:∀(h':HF)(dE:Approval),xM h h'->uL prog f_v [.agg (zC dE).toArray] h' [] (.bool (f dE))):Ret prog 197 [.slice sY s.length sX,f_v] h (I (cL s f)):=by
 refine sT func197 U ntmps197 U λX hM hX hF=>?_
 have hs0:=@rfl _ (cL s f)
 refine qK 11 [] U ?_
 refine lp0 s (λi=>[(0,.slice sY s.length sX),(1,f_v),(7,I (s.length:Int)),(8,I (i:Int))]) ([]) (λs1 i=>(cL.L1 f (cL.K1)) s1 i) hs.1.1 hs0 ?_ ?_
 .rintro i1 ft hs1 e
  exact sr (an (nretP [I (-1)] (ci hs1)))
 rintro i1 y1 rz1 hd1 cY aJ dY gy hs3 hx1 ag1 e
 refine sr (tO cY U (qO 16 U (aA (iF zC oD ty81 hs.1 aJ U U U (λq2 A2=>dv ty81 A2 U U (aA (mG (v:=.bool (f y1)) [] (List.nil_sublist _) (hf h y1 lf) U U (aI (ae hs3 U (λc2 hs4=>?_) (λc2 hs5=>?_))))))))))
 .exact sr (qO 3 U (nretP [I (i1:Int)] (ci hs4)))
 exact aH (qT 2 U (oi i1 U (qO 2 U (ag1 hs5))))
theorem qZ(x:Approval):(zC x).length=8:=rfl
theorem Ab(f:Approval->Bool):∀(l:List Approval)(i:Nat),(cL.L1 f cL.K1 l i=-1/\∀x∈l,f x=false) \/
  ∃a y b,l=a++y::b/\cL.L1 f cL.K1 l i=((i+a.length:Nat):Int)/\f y=true/\∀x∈a,f x=false
 |[],i=>.inl ⟨rfl,λ_ h=>(vA h).elim⟩
 |y::l,i=>by
  simp only[cL.L1]
  cases hy:f y with
  |true=>exact .inr ⟨[],y,l,rfl,by simp,hy,λ_ h=>(vA h).elim⟩
  |false=>
   rcases Ab f l (i+1)with⟨h1,h2⟩|⟨a,z,b,rfl,h2,h3,h4⟩
   .exact .inl ⟨h1,λx hx=>by rcases jB.1 hx with rfl|hx;exact hy;exact h2 x hx⟩
   refine .inr ⟨y::a,z,b,rfl,?_,h3,λx hx=>by rcases jB.1 hx with rfl|hx;exact hy;exact h4 x hx⟩
   rw[cond_false,h2];simp only[xA];congr 1;omega
theorem Cb{l:List Approval}(h:∀x∈l,q x=false):(l.filter λx=>!(q x))=l:=by
 rw[List.filter_eq_self];intro x hx;simp[h x hx]
theorem N0{s zs:List Approval}{i j:Nat}(hij:i<j)(hz:zs.length=s.length)(hj:s[j]? = some y)(ht:zs.take i=(s.take j).filter λx=>!(q x))(hd:zs.drop j=s.drop j)(hy:q y=false):
  (zs.set i y).take (i+1)=((s.take (j+1)).filter λx=>!(q x))/\(zs.set i y).drop (j+1)=s.drop (j+1):=by
 have hjl:j<s.length:=by
  rcases kM j s.length with h|h
  .exact h
  simp[kK h]at hj
 constructor
 .rw[List.take_add_one,List.take_set_of_le (vG _),ht,List.take_add_one,hj,List.filter_append]
  simp[hy,show i<zs.length from by omega]
 rw[List.drop_set_of_lt ob,←List.drop_drop,hd,List.drop_drop]
theorem NY{s zs:List Approval}{i j:Nat}(hj:s[j]? = some y)(ht:zs.take i=(s.take j).filter λx=>!(q x))(hd:zs.drop j=s.drop j)(hy:q y=true):
  zs.take i=((s.take (j+1)).filter λx=>!(q x))/\zs.drop (j+1)=s.drop (j+1):=by
 constructor
 .rw[List.take_add_one,hj,List.filter_append,ht];simp[hy]
 rw[←List.drop_drop,hd,List.drop_drop]
theorem Cd{xs:List Approval}{bk c:Nat}{sp:List Value}(h3:(xs.flatMap zC++sp).length=c*8)(h4:xs.length<=c)(h5:xs.length<=9223372036854775807):cZ qJ 81 h xs (some ⟨bk,0,none⟩) c [(bk,.cells (xs.flatMap zC++sp).toArray 81 (0,0))]:=
 .inr ⟨bk,_,sp,rfl,F0 (λ_ _=>rfl) qZ h xs,h3,h4,h5,rfl⟩
theorem rf(h:HF)(s:List Approval)(b:Option Addr)(c:Nat)(G:LH)(del:Approval->Bool)(del_v:Value)(hG:cZ qJ 81 h s b c G)(hdel:∀(h':HF)(dE:Approval),xM h h'->uL prog del_v [.agg (zC dE).toArray] h' [] (.bool (del dE)))(hsz:s.length<=2000000):
  oo prog 104 [.slice b s.length c,del_v].toArray h G (λr h' G'=>h'=h/\r=.returned (.slice b (fu s del).length c)/\cZ qJ 81 h (fu s del) b c G'):=by
 refine cH func104 U ntmps104 U λX hM hX=>qT 8 U (aA (JE [] G [] call197 zH hG (by simp) (λh1 hle hsl=>rN h1 s b c del del_v hsl (λh' a hl=>hdel h' a (hle.t hl))) U (qO 6 U ?_)))
 have hcase:=Ab del s 0
 rw[show cL.L1 del cL.K1 s 0=cL s del from rfl]at hcase
 rcases hcase with⟨h1,h2⟩|⟨a,y,r,hs,h1,hy,ha⟩
 .rw[h1]
  refine j9 (v':=.bool true) U U (qO 7 U ?_)
  have hf:fu s del=s:=Cb h2
  refine oO func104 (λa ha w hw=>res1 U a ha w) (λw hw=>hw.lower) ⟨hX,?_,?_⟩
  .rw[hf];rfl
  rw[hf];exact hG
 rw[h1,Nat.zero_add]
 have hne:((a.length:Int)==-1)=false:=by simp
 have hsl:s.length=a.length+(r.length+1):=by rw[hs];simp
 refine fO hne U (qO 7 U (j9 (v':=I ((a.length+1:Nat):Int)) U (LO ob) (an ?_)))
 refine iT (ι:=Nat×List Approval×LH) (λi=>[(0,.slice b s.length c),(1,del_v),(5,I (i.1:Int))]) (λi=>h) (λi=>i.2.2)
  (λi=>i.1<s.length/\i.2.1.length=s.length/\i.2.1.take i.1=fu s del/\cZ qJ 81 h i.2.1 b c i.2.2) ?_ (λhx=>?_)
 .rintro⟨i,zs,G'⟩ ⟨hi,hz,hf,hG'⟩ e
  dsimp only at hi hz hf hG'
  rcases hG' with⟨rfl,_⟩|⟨bk,cl,sp,rfl,hcl,h3,h4,h5,rfl⟩
  .simp at hz;omega
  have hcl':=AM (C:=zC) (λ_ _ _ e=>e) hcl
  subst hcl'
  have hcz:zs.length<=c:=h4
  have hzl:=tD qZ zs
  have h3':zs.length*8+sp.length=c*8:=by rw[←hzl,←xB];exact h3
  have hzn:(i:Int).toNat=i:=by omega
  have hgf:cZ qJ 81 h zs (some ⟨bk,0,none⟩) c [(bk,.cells (zs.flatMap zC++sp).toArray 81 (0,0))]:=Cd h3 h4 h5
  obtain⟨m,hm⟩:∃m,s.length-i=m+1:=⟨s.length-i-1,by omega⟩
  refine qT 4 U (aA (fj (v:=.slice (some ⟨bk,i*8,none⟩) (m+1) (c-i)) (Lo oD ty81 U U ob ob hm) (aA (Nk (P:=prog) 0 (sz:=8) (zs:=[I 0,I 0,I 0,I 0,I 0,I 0,I 0,.bool false]) (bk:=bk) (cl:=zs.flatMap zC++sp) (cc:=c-i) oD (fp zv81) U U (by decide) (by decide) U U (off:=i*8) (m:=m) (by rw[xB,hzl];omega) (λvs hvl=>?_)))))
  have hsp:∃sp',splice (zs.flatMap zC++sp) (i*8) vs=(zs.take i).flatMap zC++sp':=by
   have e1:zs.flatMap zC++sp=(zs.take i).flatMap zC++((zs.drop i).flatMap zC++sp):=by
    rw[←vD,←List.flatMap_append,List.take_append_drop]
   rw[e1]
   have e2:i*8=((zs.take i).flatMap zC).length:=by rw[tD qZ,List.length_take];congr 1;omega
   have:=yI vs ((zs.take i).flatMap zC) ((zs.drop i).flatMap zC++sp) (by rw[xB,tD qZ,List.length_drop,hvl];omega)
   rw[←e2]at this
   exact⟨_,this⟩
  obtain⟨sp',hsp⟩:=hsp
  have hlen:((zs.take i).flatMap zC++sp').length=c*8:=by
   rw[←hsp,GG];exact h3
  show TO _ _ _ _ _ _ _ _ _ _ h [(bk,.cells (splice (zs.flatMap zC++sp) (i*8) vs).toArray 81 (0,0))]
  rw[hsp]
  have hg2:cZ qJ 81 h (zs.take i) (some ⟨bk,0,none⟩) c [(bk,.cells ((zs.take i).flatMap zC++sp').toArray 81 (0,0))]:=
   Cd hlen (by rw[List.length_take];omega) (by rw[List.length_take];omega)
  refine qO 5 U (aA (OR (z:=(i:Int)) oD ty81 hgf ob (by show _=Value.slice _ _ _;rw[hz];rfl) U U (an ?_)))
  refine oO func104 (λa ha w hw=>res1 U a ha w) (λw hw=>hw.lower) ⟨hX,?_,?_⟩
  .rw[←hf,hzn];rfl
  rw[←hf];exact hg2
 refine ls (ι:=Nat×Nat×List Approval×LH) (λi=>[(0,.slice b s.length c),(1,del_v),(5,I (i.1:Int)),(6,I (i.2.1:Int))]) (λi=>h) (λi=>i.2.2.2)
  (λi=>i.1<i.2.1/\i.2.1<=s.length/\i.2.2.1.length=s.length/\i.2.2.1.take i.1=((s.take i.2.1).filter λx=>!(del x))/\i.2.2.1.drop i.2.1=s.drop i.2.1/\cZ qJ 81 h i.2.2.1 b c i.2.2.2)
  (λi=>s.length-i.2.1) (a.length,a.length+1,s,G) rd (λw hw=>hw) ⟨Nat.lt_succ_self _,by show a.length+1<=s.length;omega,rfl,?_,rfl,hG⟩ ?_
 .show s.take a.length=((s.take (a.length+1)).filter λx=>!(del x))
  rw[hs,List.take_left' rfl,List.take_add_one,List.take_left' rfl,List.filter_append,Cb ha];simp[hy]
 rintro⟨i,j,zs,G'⟩ ⟨hij,hjl,hz,ht,hd,hG'⟩ ag e
 dsimp only at hij hjl hz ht hd hG'
 rcases kM j s.length with hj|hj
 .have hjs:s[j]? = some s[j]:=zG hj
  have hjz:zs[j]? = some s[j]:=by
   have e1:(zs.drop j)[0]? = (s.drop j)[0]?:=by rw[hd]
   simpa[hjs]using e1
  have hiz:zs[i]? = some zs[i]:=zG ob
  rcases hG' with⟨rfl,_⟩|⟨bk,cl,sp,rfl,hcl,h3,h4,h5,rfl⟩
  .simp at hz;omega
  have hcl':=AM (C:=zC) (λ_ _ _ e=>e) hcl
  subst hcl'
  refine qK 6 [] U (tO (decide_eq_true ob) U (qO 9 U (aA (fj (nB (R:=qJ) (xs:=zs) (z:=(j:Int)) oD ty81 U ob U hz.symm U) (aA (fj (i7 (off:=j*8) (cs:=zC s[j]) ty81 U (qC.2 U) (PT qZ hjz)) (aS zc81 (λb7=>aR 0 ty81 U U U U U U (qO 4 U (cN 0 ty81 U U U (aA (mG (v:=.bool (del s[j])) [] (List.nil_sublist _) (hdel h s[j] lf) U U ?_))))))))))))
  cases hy:del s[j]with
  |true=>
   obtain⟨k1,k2⟩:=NY hjs ht hd hy
   exact nF U (qO 6 U (oi j U (an (ba (L':=[(bk,.cells (zs.flatMap zC++sp).toArray 81 (0,0))]) js (ag (i,j+1,zs,[(bk,.cells (zs.flatMap zC++sp).toArray 81 (0,0))]) _ (by show s.length-(j+1)<s.length-j;omega) ⟨by show i<j+1;omega,hj,hz,k1,k2,Cd h3 h4 h5⟩ rd)))))
  |false=>
   obtain⟨k1,k2⟩:=N0 hij hz hjs ht hd hy
   refine qO 7 U (cN 0 ty81 U U U (aA (fj (nB (R:=qJ) (xs:=zs) (z:=(i:Int)) oD ty81 U ob U hz.symm U) (aA (lx 1 (off:=i*8) (vs:=zC s[j]) ty81 U U U U (by rw[xB,tD qZ,qZ];exact Nat.ble_eq_true_of_le ob) U ?_)))))
   have hsl2:setNth [(b7,O (zC s[j]) 81),(bk,.cells (zs.flatMap zC++sp).toArray 81 (0,0))] 1 (bk,.cells (splice (zs.flatMap zC++sp) (i*8) (zC s[j])).toArray 81 (0,0))=[(b7,O (zC s[j]) 81),(bk,.cells ((zs.set i s[j]).flatMap zC++sp).toArray 81 (0,0))]:=by
    rw[Jq qZ hiz];rfl
   refine iO hsl2 (qO 3 U (oi i U (qO 5 U (oi j U (an (ba (L':=[(bk,.cells ((zs.set i s[j]).flatMap zC++sp).toArray 81 (0,0))]) js ?_))))))
   have hzl2:(zs.set i s[j]).length=s.length:=by rw[List.length_set];exact hz
   exact ag (i+1,j+1,zs.set i s[j],[(bk,.cells ((zs.set i s[j]).flatMap zC++sp).toArray 81 (0,0))]) _ (by show s.length-(j+1)<s.length-j;omega) ⟨by show i+1<j+1;omega,hj,hzl2,k1,k2,Cd (by rw[xB,tD qZ,List.length_set,←tD qZ,←xB];exact h3) (by rw[List.length_set];exact h4) (by rw[List.length_set];exact h5)⟩ rd
 have hje:j=s.length:=by omega
 subst hje
 exact qK 6 [] U (fO (decide_eq_false ob) U (qO 3 U (hx (i,zs,G') _ ⟨hij,hz,by show zs.take i=_;rw[ht,List.take_length];rfl,hG'⟩ rd)))
theorem vj(h:HF)(v0:List Approval)(uv:Option Addr)(uu:Nat)(v0_q:Addr)(v1:Int)(v1_q:Addr)(v2:Int)(v2_q:Addr)(v3:Int)(v3_q:Addr)(hv0:SlC qJ h uv uu v0)(av0:At h v0_q [.slice uv v0.length uu])(av1:At h v1_q [I v1])(av2:At h v2_q [I v2])(av3:At h v3_q [I v3]):Itr prog (.func (.func 288) #[] (vB [.pointer (some v0_q),.pointer (some v1_q),.pointer (some v2_q),.pointer (some v3_q)])) pA (bB v0 v1 v2 v3) h:=by
 refine tq call288 ?_
 intro yf ya yb C Sp Pn h1 A hle m1 m2 m3 hC hy
 refine jz Om U ntmps288 U λX hXM hX=>?_
 have hs0:bB v0 v1 v2 v3=[]++bB v0 v1 v2 v3:=rfl
 refine sr (dD ty28 (av0.mono hle) U (qL 3 [] U ?_))
 refine lp2 v0 (λi w=>[(0,.func yf ya yb),(2,.pointer (some v1_q)),(3,.pointer (some v2_q)),(4,.pointer (some v3_q)),(8,.slice uv v0.length uu),(9,I (v0.length:Int)),(10,I (i:Int))]) (λw=>w.2.2) (λw=>w.2.1) (λi w=>C w.1 w.2.2 w.2.1/\xM h1 w.2.2) (λs1 i w=>w.1++(bB.L1 v1 v2 v3 (bB.K1)) s1) ([],A,h1) ((hv0.mono zH hle).1.1) hs0 ⟨hC,lf⟩ ?_ ?_
 .rintro i1 ⟨dn1,A1_,hh1⟩ ft hs1 ⟨hC1_,hl1⟩ e
  refine ej ?_
  have hs2:bB v0 v1 v2 v3=dn1:=hs1.trans (List.append_nil _)
  exact tr [] (A:=A1_) Om U (List.Sublist.refl _) (.inl (hs2▸hC1_))
 rintro i1 ⟨dn1,A1_,hh1⟩ y1 rz1 hd1 cY aJ dY gy hs3 ⟨hC1_,hl1⟩ hx1 ag1 e
 refine sr (tO cY U (qO 8 U (aA (iF zC oD ty81 (hv0.mono zH (hle.t hl1)).1 aJ U U U (λq2 A2=>dv ty81 A2 U U (aS zc81 (λb2=>aR 0 ty81 U U U U U U (iO (L':=[(b2,O (zC y1) 81)]++(A1_)) U (qL 5 [0] U (dD ty3 (av1.mono (hle.t hl1)) U (qO 2 U (aU 5 [18,19,20,21,22,23] 18 23 (decide (y1.At<=v2)) U (λc1 hk1=>?_) (λe=>?_)))))))))))))
 .exact qL 2 [0] U (dD ty3 (av2.mono (hle.t hl1)) U (qO 2 U (hk1 _ U)))
 refine av (aU 5 [24,25,26,27,28,29] 24 29 (decide (y1.Known<=v3)) U (λc2 hk2=>?_) (λe=>?_))
 .exact qL 2 [0] U (dD ty3 (av3.mono (hle.t hl1)) U (qO 2 U (hk2 _ U)))
 refine av (uN 30 U (λc3=>?_) (λc3=>?_))
 .have hs4:=hs3.trans (congrArg (dn1++·) (bt c3))
  refine av (cN 0 ty81 U U U ?_)
  have hx1:bB v0 v1 v2 v3=dn1++(y1::(bB.L1 v1 v2 v3 (bB.K1) rz1)):=hs4
  refine aA (lv ([(b2,O (zC y1) 81)]) A1_ ap (hy dn1 y1 _ _ _ _ hx1 hl1 hC1_ U) U U (λh2 A3 hle1 hC1=>?_) (λh3 A4 hle2 hS1=>?_) (λch1 h4 A5 hle3 hP1 e=>gK (nC [] (A:=A5) Om (List.sublist_append_right _ _) hP1)))
  .have hs5:bB v0 v1 v2 v3=(dn1++[y1])++((bB.L1 v1 v2 v3 (bB.K1) rz1)):=hx1.trans ap
   exact nF U (qO 6 U (oi i1 U (qO 2 U (ba (L':=A3) js (ag1 ((dn1++[y1]),A3,h2) hs5 ⟨hC1,(hl1.t hle1)⟩)))))
  exact nF U (qO 3 U (ej (nn [] (A:=A4) Om U js (.inr hS1))))
 have hs6:=hs3.trans (congrArg (dn1++·) (bf c3))
 exact kq (qO 8 U (oi i1 U (qO 2 U (ba (L':=A1_) js (ag1 (dn1,A1_,hh1) hs6 ⟨hC1_,hl1⟩)))))
theorem qb(h:HF)(l:List Approval)(dU:Option Addr)(dT:Nat)(doc:Int)(bI:Int)(known:Int)(hl:SlC qJ h dU dT l):i9 prog 198 [.slice dU l.length dT,I doc,I bI,I known] h (λv h'=>∃(rv0:Value),v=rv0/\Itr prog rv0 pA (eZ l doc bI known) h'):=by
 refine sT func198 U ntmps198 U λX hM hX hF=>?_
 have hs0:=@rfl _ (eZ l doc bI known)
 refine sr (bS (λb1=>bS (λb2=>bS (λb3=>bS (λb4=>qO 4 U (aO 3 U hM (λh1 hle1 hb1=>aO 2 U hM (λh2 hle2 hb2=>aO 1 U hM (λh3 hle3 hb3=>aO 0 U hM (λh4 hle4 hb4=>aA (eI U U (an ?_))))))))))))
 have hs1:eZ l doc bI known=(bB l doc bI known):=hs0
 exact nretH [.func (.func 288) #[] #[Q b1,Q b2,Q b3,Q b4]] (hs1▸⟨(.func (.func 288) #[] #[Q b1,Q b2,Q b3,Q b4]),U,(vj h4 l dU dT ⟨b1,0,none⟩ doc ⟨b2,0,none⟩ bI ⟨b3,0,none⟩ known ⟨b4,0,none⟩ (hl.mono zH (((hle1.t hle2).t hle3).t hle4)) ((cz hb1).mono ((hle2.t hle3).t hle4)) ((cz hb2).mono (hle3.t hle4)) ((cz hb3).mono hle4) (cz hb4))⟩)
theorem pL(l:List Approval)(doc bI known:Int):(eZ l doc bI known).length<=l.length:=by
 show(bB.L1 doc bI known bB.K1 l).length<=l.length
 induction l with
 |nil=>exact vG _
 |cons y l ih=>simp only[bB.L1,Bool.cond_eq_ite];split<;>simp only[xA]<;>omega
theorem iY(h:HF)(x:Approval)  : Ret prog 199 [.agg (zC x).toArray] h (.agg (eG.cells (aZ x)).toArray):=by
 refine cH func199 U ntmps199 U λX hM hX=>?_
 have hs0:=@rfl _ (aZ x)
 refine sr (bS (λb1=>aS zc274 (λb2=>qL 11 [1,1,1,1] U (aA (e9 (cells:=[I x.Doc,I x.By,I x.For,I x.Office]) (places:=[(0,1),(1,1),(2,1),(3,1)]) Oz zc274 kr kr (aR 0 ty274 U U U U U U (aI ?_)))))))
 have hs1:aZ x=(eG.mk x.Doc x.By x.For x.Office):=hs0
 exact tR [.agg (vB [I x.Doc,I x.By,I x.For,I x.Office])] func199 U hX ⟨⟨0,_,_,_,_,U,U,.inl ⟨ty274,U⟩⟩,trivial⟩ (congrArg (λr:eG=>(.agg (eG.cells r).toArray:Value)) hs1.symm)
theorem wZ(h:HF)(l:List Approval)(dU:Option Addr)(dT:Nat)(doc:Int)(bI:Int)(known:Int)(hl:SlC qJ h dU dT l)(hsz:l.length<=2000000):RS prog 105 [.slice dU l.length dT,I doc,I bI,I known] h qJ 81 (aD l doc bI known):=by
 refine cH Ol U ntmps105 U λX hM hX=>?_
 have hs0:=@rfl _ (aD l doc bI known)
 refine sr (aS zc28 (λb1=>qO 3 U (aA (oK (λb2=>aS zc270 (λb3=>cK 0 ty270 U U U U U U (qO 8 U (aA (cC call198 (qb _ _ _ _ doc bI known hl) U (λv1 h1 hle1 hp1=>?_))))))))))
 obtain⟨_,rfl,mo1⟩:=hp1
 refine qO 2 U (ej ?_)
 let z1:Nat×Obj:=(b3,O [.map (some b2)] 270)
 let z2:Nat×Obj:=(b1,O [.slice none 0 0] 28)
 refine bW (L':=([z1,(b2,.map #[] 0),z2])++markB []) ap ?_
 refine ke (it:=v1) (xs:=(eZ l doc bI known)) (ι:=(List (eG×Approval))×Obj×HF) [] (λi=>i.2.2) (λi=>[z1,(b2,i.2.1),z2]) (λs i=>aD l doc bI known=((aD.L1 (aD.K1 l doc bI known)) s i.1)/\jY eG.enc (iZ qJ) i.2.2 i.2.1 i.1/\xM h1 i.2.2) (λ_=>False) (λ_=>False) 0 (λ_ _ _=>False) ([],.map #[] 0,h1) Ol U mo1 U qj (λ_ _ _ _ _ hq=>hq) U (show[z1,(b2,.map #[] 0),z2]=_ from U) ⟨hs0,((jY.nil (enc:=eG.enc) (V:=(iZ qJ)) (h:=h)).mono (iZ.mono zH) hle1),lf⟩ ?_ ?_ ?_ ?_ ?_
 .rintro l1 dm1 lp1 y1 rz1 vs1 ⟨bN,dS,hh1⟩ hr1 X hFR1 ⟨hs1,gG,hl1⟩ hl01 hlr1 hv1 hX hXM hlp1 nx1 rt1 ex1 pn1
  obtain rfl:=hv1
  let z6:Nat×Obj:=(dm1,.deferred (some []))
  refine bW (L':=[(l1,.loop lp1),z6,z1,(b2,dS),z2]++(markB [])) ap (bC (aS zc81 (λb6=>aR 0 ty81 U U U U U U (aI (j2 1 U hlp1 (qT 2 U ?_))))))
  let z3:Nat×Obj:=(l1,.loop { lp1 with state:=.busy })
  let z7:Nat×Obj:=(b6,O (zC y1) 81)
  refine eh ([z7,z3,z6,z1,(b2,dS),z2]) mixed kr jn (λdt _=>?_)
  refine tf 0 U U (rj 3 ty270 U U U) (tf 1 U U (λ_ _ hj=>i7 ty81 U (hj.nth (i:=0) U) U) ?_)
  refine lY 2 7 kr U U ?_ ?_ 
  .refine et Jc (iY hr1 y1) U (⟨jn,?_⟩)
   refine lY 3 7 kr U U ?_ ?_ 
   .refine lZ 4 (k:=(aZ y1)) Hc mA U (gG.mono (iZ.mono zH) hlr1) (fp zv81) (show(iZ qJ) _ (.agg (vB [I 0,I 0,I 0,I 0,I 0,I 0,I 0,.bool false])) (kT 0 0 0 0 0 0 0 false)from⟨_,U,U⟩) U U (λv3 hv2=>?_)
    obtain⟨_,rfl,rfl⟩:=hv2
    refine⟨jn,qR 4 3 U (tn 7 U (Bi zc81 (λb7=>⟨jn,tn 8 U (sW 0 ty81 U U U U U U (⟨jn,qA [9] U (aG kr (qT 5 U (bL 6 [30,31,32,33,34,35,36] 30 36 (decide ((mgetD bN (aZ y1) (kT 0 0 0 0 0 0 0 false)).At<=y1.At)) U (λc1 hk1=>?_) (λe=>?_))))⟩))⟩)))⟩
    .exact qL 6 [1,0] U (hk1 _ U)
    refine aI (ae hs1 U (λc2 hs2=>?_) (λc2 hs3=>?_))
    .let z11:Nat×Obj:=(b7,O (zC (mgetD bN (aZ y1) (kT 0 0 0 0 0 0 0 false))) 81)
     refine eh ([z11,z7,z3,z6,z1,z2]) mixed kr jn (λmF _=>?_)
     exact tf 0 U U (rj 4 ty270 U U U) (tf 1 U U (λ_ _ hj=>i7 ty81 U (hj.nth (i:=1) U) U) (tf 3 U U (λ_ _ hj=>i7 ty81 U (hj.nth (i:=1) U) U) (tn 2 U (et Jc (iY hr1 y1) U (⟨jn,tn 4 U (ll 5 (k:=(aZ y1)) (x:=y1) Hc mA U (gG.mono (iZ.mono zH) hlr1) U U ⟨_,U,U⟩ (λmo2 hm1=>⟨jn,aG kr (eX (ba (L':=[z3,z6,z1,(b2,mo2),z2]++(markB [])) js (bW (L':=rdH l1 dm1 lp1 (([z1,(b2,mo2),z2])++markB [])) ap (nx1 ((mput bN (aZ y1) y1),mo2,hr1) _ _ ⟨hs2,hm1,(hl1.t hlr1)⟩ lf))))⟩))⟩)))))
    exact aH (eX (ba (L':=[z3,z6,z1,(b2,dS),z2]++(markB [])) js (bW (L':=rdH l1 dm1 lp1 (([z1,(b2,dS),z2])++markB [])) ap (nx1 (bN,dS,hr1) _ _ ⟨hs3,(gG.mono (iZ.mono zH) hlr1),(hl1.t hlr1)⟩ lf))))
   refine Bi zc81 (λb8=>⟨jn,tn 3 U (lZ 5 (k:=(aZ y1)) Hc mA U (gG.mono (iZ.mono zH) hlr1) (fp zv81) (show(iZ qJ) _ (.agg (vB [I 0,I 0,I 0,I 0,I 0,I 0,I 0,.bool false])) (kT 0 0 0 0 0 0 0 false)from⟨_,U,U⟩) U U (λv4 hv3=>?_))⟩)
   obtain⟨_,rfl,rfl⟩:=hv3
   refine⟨jn,qR 4 3 U (tn 8 U (sW 0 ty81 U U U U U U (⟨jn,qA [9] U (aG kr (qT 5 U (bL 6 [30,31,32,33,34,35,36] 30 36 (decide ((mgetD bN (aZ y1) (kT 0 0 0 0 0 0 0 false)).At<=y1.At)) U (λc3 hk2=>?_) (λe=>?_))))⟩)))⟩
   .exact qL 6 [1,0] U (hk2 _ U)
   refine aI (ae hs1 U (λc4 hs4=>?_) (λc4 hs5=>?_))
   .let z12:Nat×Obj:=(b8,O (zC (mgetD bN (aZ y1) (kT 0 0 0 0 0 0 0 false))) 81)
    refine eh ([z12,z7,z3,z6,z1,z2]) mixed kr jn (λML _=>?_)
    exact tf 0 U U (rj 4 ty270 U U U) (tf 1 U U (λ_ _ hj=>i7 ty81 U (hj.nth (i:=1) U) U) (tf 3 U U (λ_ _ hj=>i7 ty81 U (hj.nth (i:=1) U) U) (tn 2 U (et Jc (iY hr1 y1) U (⟨jn,tn 4 U (ll 5 (k:=(aZ y1)) (x:=y1) Hc mA U (gG.mono (iZ.mono zH) hlr1) U U ⟨_,U,U⟩ (λmo3 hm2=>⟨jn,aG kr (eX (ba (L':=[z3,z6,z1,(b2,mo3),z2]++(markB [])) js (bW (L':=rdH l1 dm1 lp1 (([z1,(b2,mo3),z2])++markB [])) ap (nx1 ((mput bN (aZ y1) y1),mo3,hr1) _ _ ⟨hs4,hm2,(hl1.t hlr1)⟩ lf))))⟩))⟩)))))
   exact aH (eX (ba (L':=[z3,z6,z1,(b2,dS),z2]++(markB [])) js (bW (L':=rdH l1 dm1 lp1 (([z1,(b2,dS),z2])++markB [])) ap (nx1 (bN,dS,hr1) _ _ ⟨hs5,(gG.mono (iZ.mono zH) hlr1),(hl1.t hlr1)⟩ lf))))
  refine Bi zc81 (λb9=>⟨jn,tn 2 U (et Jc (iY hr1 y1) U (⟨jn,tn 3 U (lZ 5 (k:=(aZ y1)) Hc mA U (gG.mono (iZ.mono zH) hlr1) (fp zv81) (show(iZ qJ) _ (.agg (vB [I 0,I 0,I 0,I 0,I 0,I 0,I 0,.bool false])) (kT 0 0 0 0 0 0 0 false)from⟨_,U,U⟩) U U (λv5 hv4=>?_))⟩))⟩)
  obtain⟨_,rfl,rfl⟩:=hv4
  refine⟨jn,qR 4 3 U (tn 8 U (sW 0 ty81 U U U U U U (⟨jn,qA [9] U (aG kr (qT 5 U (bL 6 [30,31,32,33,34,35,36] 30 36 (decide ((mgetD bN (aZ y1) (kT 0 0 0 0 0 0 0 false)).At<=y1.At)) U (λc5 hk3=>?_) (λe=>?_))))⟩)))⟩
  .exact qL 6 [1,0] U (hk3 _ U)
  refine aI (ae hs1 U (λc6 hs6=>?_) (λc6 hs7=>?_))
  .let z13:Nat×Obj:=(b9,O (zC (mgetD bN (aZ y1) (kT 0 0 0 0 0 0 0 false))) 81)
   refine eh ([z13,z7,z3,z6,z1,z2]) mixed kr jn (λSf _=>?_)
   exact tf 0 U U (rj 4 ty270 U U U) (tf 1 U U (λ_ _ hj=>i7 ty81 U (hj.nth (i:=1) U) U) (tf 3 U U (λ_ _ hj=>i7 ty81 U (hj.nth (i:=1) U) U) (tn 2 U (et Jc (iY hr1 y1) U (⟨jn,tn 4 U (ll 5 (k:=(aZ y1)) (x:=y1) Hc mA U (gG.mono (iZ.mono zH) hlr1) U U ⟨_,U,U⟩ (λmo4 hm3=>⟨jn,aG kr (eX (ba (L':=[z3,z6,z1,(b2,mo4),z2]++(markB [])) js (bW (L':=rdH l1 dm1 lp1 (([z1,(b2,mo4),z2])++markB [])) ap (nx1 ((mput bN (aZ y1) y1),mo4,hr1) _ _ ⟨hs6,hm3,(hl1.t hlr1)⟩ lf))))⟩))⟩)))))
  exact aH (eX (ba (L':=[z3,z6,z1,(b2,dS),z2]++(markB [])) js (bW (L':=rdH l1 dm1 lp1 (([z1,(b2,dS),z2])++markB [])) ap (nx1 (bN,dS,hr1) _ _ ⟨hs7,(gG.mono (iZ.mono zH) hlr1),(hl1.t hlr1)⟩ lf))))
 .rintro dm1 ⟨bN,dS,hh1⟩ hn1 ⟨hs8,gG,hl1⟩ hln1 hl01
  refine bW (L':=[z1,(b2,dS),z2]++(markB (dm1::[]))) ap (qT 8 U (aA (cC call198 (qb _ _ _ _ doc bI known (hl.mono zH ((hle1.t hl1).t hln1))) U (λv6 h2 hle2 hp2=>?_))))
  obtain⟨_,rfl,mo5⟩:=hp2
  refine qO 2 U (bW (L':=([z1,(b2,dS),z2])++markB (dm1::[])) ap ?_)
  refine ke (it:=v6) (xs:=(eZ l doc bI known)) (ι:=(List Approval)×Option Addr×Nat×LH×HF) (dm1::[]) (λi=>i.2.2.2.2) (λi=>[z1,(b2,dS),(b1,O [.slice i.2.1 i.1.length i.2.2.1] 28)]++(i.2.2.2.1)) (λs i=>aD l doc bI known=((aD.L2 bN (aD.K2)) s i.1)/\cZ qJ 81 i.2.2.2.2 i.1 i.2.1 i.2.2.1 i.2.2.2.1/\xM h2 i.2.2.2.2/\i.1.length+s.length<=l.length) (λ_=>False) (λ_=>False) 0 (λ_ _ _=>False) ([],none,0,[],h2) Ol U mo5 U qj (λ_ _ _ _ _ hq=>hq) U (show[z1,(b2,dS),z2]=_ from U) ⟨hs8,cZ.nil,lf,(by have hc:=pL l doc bI known;simpa using hc)⟩ ?_ ?_ ?_ ?_ ?_
  .rintro l2 dm2 lp2 y2 rz2 vs2 ⟨nJ,BH,BG,pD,hh2⟩ hr2 X hFR2 ⟨hs9,BF,hl2,u2_0⟩ hl02 hlr2 hv2 hX hXM hlp2 nx2 rt2 ex2 pn2
   obtain rfl:=hv2
   simp only[xA]at u2_0
   let z4:Nat×Obj:=(b1,O [.slice BH nJ.length BG] 28)
   let z10:Nat×Obj:=(dm2,.deferred (some []))
   refine bW (L':=[(l2,.loop lp2),z10,z1,(b2,dS),z4]++(pD++(markB (dm1::[])))) ap (bC (aS zc81 (λb11=>aR 0 ty81 U U U U U U (iO (L':=[(b11,O (zC y2) 81),(l2,.loop lp2),z10,z1,(b2,dS),z4]++(pD++(markB (dm1::[])))) U (aI (j2 1 U hlp2 (qT 2 U ?_)))))))
   refine m8 [(8,Q b1),(13,Q b11),(57,.bool ((!y2.Gone)&&(decide ((mgetD bN (aZ y2) (kT 0 0 0 0 0 0 0 false))=y2))))] (λe=>?_) (λhk4=>?_)
   rotate_left
   .refine eh ([(b11,O (zC y2) 81),(l2,.loop { lp2 with state:=.busy }),z10,z1,(b2,dS),z4]) mixed kr jn (λSe _=>?_)
    refine qB [0] U (tf 1 U U (rj 0 ty4 U U U) (qA [2,3] U ?_))
    refine cB 50 U (λc7=>?_) (λc7=>?_)
    .refine tf 4 U U (rj 3 ty270 U U U) (tf 5 U U (λ_ _ hj=>i7 ty81 U (hj.nth (i:=0) U) U) (tf 8 U U (λ_ _ hj=>i7 ty81 U (hj.nth (i:=0) U) U) (tn 6 U (et Jc (iY hr2 y2) U (⟨jn,tn 7 U (rg 4 (k:=(aZ y2)) Hc mA U (gG.mono (iZ.mono zH) (((hln1.t hle2).t hl2).t hlr2)) (fp zv81) (show(iZ qJ) _ (.agg (vB [I 0,I 0,I 0,I 0,I 0,I 0,I 0,.bool false])) (kT 0 0 0 0 0 0 0 false)from⟨_,U,U⟩) U U (λv8 hv6=>?_))⟩)))))
     obtain⟨_,rfl,rfl⟩:=hv6
     exact⟨jn,tf 9 U U (λ_ _ _=>MA (IS (mgetD bN (aZ y2) (kT 0 0 0 0 0 0 0 false)) y2) eqg81 U U) (qA [10] U (aG kr (hk4 _ ⟨U,U,(cb (show(decide ((mgetD bN (aZ y2) (kT 0 0 0 0 0 0 0 false))=y2))=((!y2.Gone)&&(decide ((mgetD bN (aZ y2) (kT 0 0 0 0 0 0 0 false))=y2)))from by rw[c7]<;>rfl)),trivial⟩)))⟩
    exact tk 4 U U (qR 5 6 U (aG kr (hk4 _ ⟨U,U,(cb (show false=((!y2.Gone)&&(decide ((mgetD bN (aZ y2) (kT 0 0 0 0 0 0 0 false))=y2)))from by rw[c7]<;>rfl)),trivial⟩)))
   refine ae hs9 U (λc8 hs10=>?_) (λc8 hs11=>?_)
   .refine qK 2 [5] U (cN 0 ty81 U U U (aA (aV (cells:=[I y2.No,I y2.At,I y2.Known,I y2.Doc,I y2.By,I y2.For,I y2.Office,.bool y2.Gone]) oD ty81 zc81 U U kr (λb12=>?_))))
    let z8:Nat×Obj:=(b12,O [I y2.No,I y2.At,I y2.Known,I y2.Doc,I y2.By,I y2.For,I y2.Office,.bool y2.Gone] 81)
    let z9:Nat×Obj:=(l2,.loop { lp2 with state:=.busy })
    let z14:Nat×Obj:=(b11,O (zC y2) 81)
    refine aA (cd Approval.eo ([z8,z14,z9,z10,z1,(b2,dS),z4]) (markB (dm1::[])) (λG=>[z8,z14,z9,z10,z1,(b2,dS),z4]++(markB (dm1::[])++G)) ap (λ_=>ap) oD ty81 zc81 U bytes81 (BF.mono zH hlr2) U U (dX 0 U (cE y2 U U)) lo lo (λob1 oc1 G1 gr1=>yH (sH ([z8,z14,z9,z10,z1,(b2,dS),z4]) G1 (markB (dm1::[]))) (cK 6 ty28 U U U U U U (qO 2 U ?_))))
    let z15:Nat×Obj:=(b1,O [.slice ob1 ((nJ++[y2]).length) oc1] 28)
    exact ba (L':=[z9,z10,z1,(b2,dS),z15]++(G1++(markB (dm1::[])))) js (bW (L':=rdH l2 dm2 lp2 (([z1,(b2,dS),z15]++G1)++markB (dm1::[]))) ap (nx2 ((nJ++[y2]),ob1,oc1,G1,hr2) _ _ ⟨hs10,gr1,(hl2.t hlr2),(by first|omega|(simp only[xB,xA,jC]at *;omega))⟩ lf))
   exact aH (eX (ba (L':=[(l2,.loop { lp2 with state:=.busy }),z10,z1,(b2,dS),z4]++(pD++(markB (dm1::[])))) js (bW (L':=rdH l2 dm2 lp2 (([z1,(b2,dS),z4]++(pD))++markB (dm1::[]))) ap (nx2 (nJ,BH,BG,pD,hr2) _ _ ⟨hs11,(BF.mono zH hlr2),(hl2.t hlr2),(by first|omega|(simp only[xB,xA,jC]at *;omega))⟩ lf))))
  .rintro dm2 ⟨nJ,BH,BG,pD,hh2⟩ hn2 ⟨hs12,BF,hl2,u2_0⟩ hln2 hl02
   let z5:Nat×Obj:=(b1,O [.slice BH nJ.length BG] 28)
   refine bW (L':=[z1,(b2,dS),z5]++(pD++(markB (dm2::(dm1::[]))))) ap (qK 4 [2] U (cK 2 ty28 U U U U U U (aI ?_)))
   have hs13:aD l doc bI known=nJ:=hs12
   exact bW (L':=([z1,(b2,dS),z5]++(pD))++markB (dm2::(dm1::[]))) ap (P8 (dm2::(dm1::[])) (A:=[z1,(b2,dS),z5]) (G:=pD) (Q:=[]) Ol U hX ap (λh1=>cZ.flat (λ_ _ _ _ e=>e) (BF.mono zH hln2)) ⟨⟨2,_,_,_,_,U,U,.inr ⟨_,ty28,U⟩⟩,trivial⟩ hs13)
  .exact xf
  .exact xf
  exact xf
 .exact xf
 .exact xf
 exact xf
theorem wl(l:List Approval)(doc bI known:Int):(aD l doc bI known).length<=l.length:=by
 have h2:∀(g:List (eG×Approval))(s acc:List Approval),(aD.L2 g aD.K2 s acc).length<=acc.length+s.length:=by
  intro g s
  induction s with
  |nil=>intro acc;exact vG _
  |cons y s ih=>
   intro acc
   simp only[aD.L2,Bool.cond_eq_ite]
   split
   .have:=ih (acc++[y]);simp only[xB,xA,jC]at *;omega
   have:=ih acc;simp only[xA];omega
 have h1:∀(s:List Approval)(g:List (eG×Approval)),(aD.L1 (aD.K1 l doc bI known) s g).length<=l.length:=by
  intro s
  induction s with
  |nil=>
   intro g
   have h3:=h2 g (eZ l doc bI known) []
   have h4:=pL l doc bI known
   show(aD.L2 g aD.K2 (eZ l doc bI known) []).length<=l.length
   simp only[jC]at h3;omega
  |cons y s ih=>intro g;simp only[aD.L1,Bool.cond_eq_ite];split<;>exact ih _
 exact h1 _ _
theorem vk(h:HF)(y:Approval)(begun:Int)(begun_q:Addr)(at_:Int)(at__q:Addr)(think:Int)(think_q:Addr)(abegun:At h begun_q [I begun])(aat_:At h at__q [I at_])(athink:At h think_q [I think]):Ret prog 106 [.agg (zC y).toArray,.pointer (some begun_q),.pointer (some at__q),.pointer (some think_q)] h (.bool (iS y begun at_ think)):=by
 refine sT func106 U ntmps106 U λX hM hX hF=>?_
 have hs0:=@rfl _ (iS y begun at_ think)
 refine sr (bS (λb1=>qL 6 [0] U (dD ty3 abegun U (qO 2 U (bL 7 [10,11,12,13,14,15,16,17] 10 17 (decide ((qE .i64 (at_-y.At))<think)) U (λc1 hk1=>?_) (λe=>?_))))))
 .exact dD ty3 aat_ U (qL 3 [0] U (dD ty3 athink U (qO 2 U (hk1 _ U))))
 exact an (nretP [.bool (decide (y.At<begun)||decide ((qE .i64 (at_-y.At))<think))] (cs hs0))
theorem w4(h:HF)(l:List Approval)(dU:Option Addr)(dT:Nat)(doc:Int)(begun:Int)(think:Int)(eB:Int)(known:Int)(hl:SlC qJ h dU dT l)(hsz:l.length<=2000000):i9 prog 28 [.slice dU l.length dT,I doc,I begun,I think,I eB,I known] h (λv h'=>∃(rb0:Option Addr)(rc0:Nat),v=.tuple #[.slice rb0 ((cj l doc begun think eB known).1).length rc0,I ((cj l doc begun think eB known).2)]/\SlC qJ h' rb0 rc0 ((cj l doc begun think eB known).1)):=by
 refine sT func28 U ntmps28 U λX hM hX hF=>?_
 have hs0:=@rfl _ (cj l doc begun think eB known)
 have hst:=wl l doc eB known
 refine sr (bS (λb1=>bS (λb2=>bS (λb3=>qO 7 U (ai call71 (tI _ _ _ _ hl) U (qO 7 U (ae hs0 U (λc1 hs1=>?_) (λc1 hs2=>?_))))))))
 .refine qT 6 U ?_
  have hs3:cj l doc begun think eB known=([],(bJ l)):=hs1
  exact nretH [.slice none 0 0,I (bJ l)] (hs3▸⟨none,0,U,vE⟩)
 refine qT 5 U (aA (aV (cells:=[I doc]) dy ty3 zc3 U U kr (λb4=>aO 0 U hM (λh1 hle1 hb1=>?_))))
 have sl1:SlC kB h1 (some ⟨b4,0,none⟩) 1 ([doc]):=aY.slB0 (T:=3) (fz:=(0,0)) ((show aY kB h [I doc] ([doc])from⟨[I doc],[],rfl,rfl,rfl,rfl⟩).mono xH hle1) hb1
 refine ai Hd (ja _ 4095 _ _ _ sl1) U (qO 2 U (bL 8 [23,24,25,26,27,28,29,30,31] 23 31 (!(cJ 1099511627775 ([begun,think,eB,known]))) U (λc2 hk1=>?_) (λe=>?_)))
 .refine qL 4 [2,1,0] U (aA (aV (cells:=[I begun,I think,I eB,I known]) dy ty3 zc3 U U kr (λb5=>aO 0 U hM (λh2 hle2 hb2=>?_))))
  have sl2:SlC kB h2 (some ⟨b5,0,none⟩) 4 ([begun,think,eB,known]):=aY.slB0 (T:=3) (fz:=(0,0)) ((show aY kB h1 [I begun,I think,I eB,I known] ([begun,think,eB,known])from⟨[I begun],[I think,I eB,I known],rfl,rfl,rfl,⟨[I think],[I eB,I known],rfl,rfl,rfl,⟨[I eB],[I known],rfl,rfl,rfl,⟨[I known],[],rfl,rfl,rfl,rfl⟩⟩⟩⟩).mono xH hle2) hb2
  exact ai Hd (ja _ 1099511627775 _ _ _ sl2) U (qO 2 U (lg (h:=h1) hle2 hX hle1 (hk1 _ U)))
 refine aI (ae hs2 U (λc3 hs4=>?_) (λc3 hs5=>?_))
 .refine qT 5 U ?_
  have hs6:cj l doc begun think eB known=([],1):=hs4
  exact nretH [.slice none 0 0,I 1] (hs6▸⟨none,0,U,vE⟩)
 refine qK 7 [0] U (aA (Qj call105 (wZ _ _ _ _ doc eB known (hl.mono zH hle1) ob) U (λob1 oc1 G1 gr1=>aO 2 U hM (λh3 hle3 hb3=>aO 0 U hM (λh4 hle4 hb4=>aO 0 U hM (λh5 hle5 hb5=>aA (eI U U (aA (nQ (v:=.slice ob1 (fu (aD l doc eB known) (λdE=>iS dE begun eB think)).length oc1) ([]) G1 ([]) call104 (rf h5 (aD l doc eB known) ob1 oc1 G1 (λdE=>iS dE begun eB think) (.func (.func 106) #[] #[Q b1,Q b3,Q b2]) (gr1.mono zH ((hle3.t hle4).t hle5)) (λh' dE hle=>iK call106 (vk h' dE begun ⟨b1,0,none⟩ eB ⟨b3,0,none⟩ think ⟨b2,0,none⟩  (((cz hb3).mono (hle4.t hle5)).mono hle) (((cz hb4).mono hle5).mono hle) ((cz hb5).mono hle))) ob) ap U (λG2 gr2=>iO (L':=G2) ap (sR zH ([]) G2 ([]) ap hM gr2 (λh6 hle6 sl3=>qO 3 U ?_))))))))))))
 have hs7:cj l doc begun think eB known=((fu (aD l doc eB known) (λdE=>iS dE begun eB think)),0):=hs5
 exact nretH [.slice ob1 ((fu (aD l doc eB known) (λdE=>iS dE begun eB think)).length) oc1,I 0] (hs7▸⟨ob1,oc1,U,sl3⟩)
theorem wS(h:HF)(x:Appoint)(v0:Int)(v0_q:Addr)(v1:Int)(v1_q:Addr)(av0:At h v0_q [I v0])(av1:At h v1_q [I v1]):Ret prog 181 [.agg (xL x).toArray,.pointer (some v0_q),.pointer (some v1_q)] h (.tuple #[.agg (xF ((gr x v0 v1).1)).toArray,.bool ((gr x v0 v1).2)]):=by
 refine cH func181 U ntmps181 U λX hM hX=>?_
 have hs0:=@rfl _ (gr x v0 v1)
 refine sr (bS (λb1=>aS zc182 (λb2=>qO 3 U ?_)))
 let z1:Nat×Obj:=(b1,O (xL x) 89)
 refine Qa ([(b2,O [I x.Office,I x.Person] 182),z1]) [(4,Q b2),(5,.bool (decide (x.At<=v0)&&decide (x.Known<=v1)))] (λe=>?_) (λhk1=>?_)
 rotate_left
 .refine eh ([z1]) mixed kr jn (λdt _=>?_)
  refine qB [0] U (tf 1 U U (rj 0 ty3 U U U) (qB [2] U (tf 3 U U (rj 0 ty3 U U U) (qB [5] U (tf 6 U U (rj 0 ty3 U U U) (tf 7 U U (rh ty3 av0 U) (qA [8,9] U ?_)))))))
  refine cB 15 U (λc1=>?_) (λc1=>?_)
  .have c1p:=of_decide_eq_true c1
   exact tf 10 U U (λ_ _ _=>tc QG U) (tf 11 U U (rj 0 ty3 U U U) (tf 12 U U (rh ty3 av1 U) (qA [13,14] U (tn 4 U (e9 (cells:=[I x.Office,I x.Person]) (places:=[(0,1),(1,1)]) Jf zc182 kr kr (⟨jn,(tn 15 U (sW 0 ty182 U U U U U U (⟨jn,(qA [16] U (aG kr (hk1 _ ⟨U,(cb (show decide (x.Known<=v1)=(decide (x.At<=v0)&&decide (x.Known<=v1))from by rw[c1]<;>rfl)),trivial⟩)))⟩)))⟩))))))
  have c1p:=of_decide_eq_false c1
  exact tk 10 U U (qR 11 4 U (tn 4 U (e9 (cells:=[I x.Office,I x.Person]) (places:=[(0,1),(1,1)]) Jf zc182 kr kr (⟨jn,(tn 15 U (sW 0 ty182 U U U U U U (⟨jn,(qA [16] U (aG kr (hk1 _ ⟨U,(cb (show false=(decide (x.At<=v0)&&decide (x.Known<=v1))from by rw[c1]<;>rfl)),trivial⟩)))⟩)))⟩))))
 have hs1:gr x v0 v1=((SQ x.Office x.Person),(decide (x.At<=v0)&&decide (x.Known<=v1))):=hs0
 exact tR [.agg (vB [I x.Office,I x.Person]),.bool (decide (x.At<=v0)&&decide (x.Known<=v1))] func181 U hX ⟨⟨0,_,_,_,_,U,U,.inl ⟨ty182,U⟩⟩,U,trivial⟩ (congrArg (λr:(OSeat×Bool)=>(.tuple #[.agg (xF r.1).toArray,.bool r.2]:Value)) hs1.symm)
theorem uU(h:HF)(l:List Appoint)(dU:Option Addr)(dT:Nat)(key:(Appoint->OSeat×Bool))(key_v:Value)(later:(Appoint->Appoint->Bool))(later_v:Value)(hl:SlC vH h dU dT l)(hkey:∀(h':HF)(dE:Appoint),xM h h'->uL prog key_v [.agg (xL dE).toArray] h' [] (.tuple #[.agg (xF ((key dE).1)).toArray,.bool ((key dE).2)]))(hlater:∀(h':HF)(dE:Appoint)(Ef:Appoint),xM h h'->uL prog later_v [.agg (xL dE).toArray,.agg (xL Ef).toArray] h' [] (.bool (later dE Ef))):i9 prog 182 [.slice dU l.length dT,key_v,later_v] h (λv h'=>∃(rk0:Nat),v=.map (some rk0)/\tQ SE (iZ vH) h' rk0 (cM l key later)):=by
 refine sT func182 U ntmps182 U λX hM hX hF=>?_
 have hs0:=@rfl _ (cM l key later)
 refine qT 6 U (aA (oK (λb1=>qL 9 [] U ?_)))
 refine lp2 l (λi w=>[(1,key_v),(2,later_v),(7,.map (some b1)),(15,.slice dU l.length dT),(16,I (l.length:Int)),(17,I (i:Int))]) (λ_=>h) (λw=>[(b1,w.2)]) (λi w=>jY SE (iZ vH) h w.2 w.1/\w.1.length<=0+i) (λs1 i w=>(cM.L1 key later (cM.K1)) s1 w.1) ([],.map #[] 0) hl.1.1 hs0 ⟨(jY.nil (enc:=SE) (V:=(iZ vH)) (h:=h)),lc⟩ ?_ ?_
 .rintro i1 ⟨bx,im⟩ ft hs1 ⟨fP,n8⟩ e
  refine qT 5 U (eC 0 U hM (λh1 hle1 hb1=>?_))
  have mc1:tQ SE (iZ vH) h1 b1 bx:=⟨_,hb1,fP.mono (iZ.mono zR) hle1⟩
  have hs2:cM l key later=bx:=hs1
  exact nretH [.map (some b1)] (hs2▸⟨b1,U,mc1⟩)
 rintro i1 ⟨bx,im⟩ y1 rz1 hd1 cY aJ dY gy hs3 ⟨fP,n8⟩ hx1 ag1 e
 refine sr (tO cY U (qO 8 U (aA (iF xL sO ty89 hl.1 aJ U U U (λq2 A2=>dv ty89 A2 U U (aS zc89 (λb5=>aR 0 ty89 U U U U U U (qO 4 U (cN 0 ty89 U U U (aA (mG (v:=.tuple #[.agg (xF ((key y1).1)).toArray,.bool ((key y1).2)]) [] (List.nil_sublist _) (hkey h y1 lf) U U (qO 3 U (aS zc182 (λb6=>aR 0 ty182 U U U U U U (qO 5 U (cN 0 ty182 U U U (aA (lZ 2 (k:=(key y1).1) Me vX U fP (fp zv89) (show(iZ vH) _ (.agg (vB [I 0,I 0,I 0,I 0,I 0,I 0,.bool false])) (jD 0 0 0 0 0 0 false)from⟨_,U,U⟩) U U (λv2 hv2=>?_)))))))))))))))))))
 obtain⟨_,rfl,rfl⟩:=hv2
 refine qO 3 U (aS zc89 (λb7=>aR 0 ty89 U U U U U U (qO 6 U (aU 10 [34,35,36,37,38,39,40,41,42,43,44] 34 44 ((!(mhas bx ((key y1).1)))||(!(later (mgetD bx ((key y1).1) (jD 0 0 0 0 0 0 false)) y1))) U (λc1 hk1=>?_) (λe=>?_)))))
 .refine qO 3 U (bL 6 [37,38,39,40,41,42,43] 37 43 (!(later (mgetD bx ((key y1).1) (jD 0 0 0 0 0 0 false)) y1)) U (λc2 hk2=>?_) (λe=>?_))
  .exact av (cN 0 ty89 U U U (cN 2 ty89 U U U (aA (mG (v:=.bool (later (mgetD bx ((key y1).1) (jD 0 0 0 0 0 0 false)) y1)) [] (List.nil_sublist _) (hlater h (mgetD bx ((key y1).1) (jD 0 0 0 0 0 0 false)) y1 lf) U U (qO 2 U (hk2 _ U))))))
  exact eE U (hk1 _ U)
 refine aI (ae hs3 U (λc3 hs4=>?_) (λc3 hs5=>?_))
 .exact bC (av (cN 1 ty182 U U U (cN 2 ty89 U U U (aA (ll 3 (k:=(key y1).1) (x:=y1) Me vX U fP U U ⟨_,U,U⟩ (λmo1 hm1=>qO 3 U (oi i1 U (qO 2 U (ba (L':=[(b1,mo1)]) js (ag1 ((mput bx ((key y1).1) y1),mo1) hs4 ⟨hm1,(by have:=nu bx ((key y1).1) y1;first|omega|(simp only[jC,xA]at *;omega))⟩))))))))))
 exact aH (qT 2 U (oi i1 U (qO 2 U (ba (L':=[(b1,im)]) js (ag1 (bx,im) hs5 ⟨fP,lc⟩)))))
theorem wR(h:HF)(a:Appoint)(jy:Appoint)  : Ret prog 183 [.agg (xL a).toArray,.agg (xL jy).toArray] h (.bool (gq a jy)):=by
 refine sT func183 U ntmps183 U λX hM hX hF=>?_
 have hs0:=@rfl _ (gq a jy)
 exact sr (bS (λb1=>bS (λb2=>qL 11 [1,0] U (nretP [.bool (decide (jy.At<a.At))] (cs hs0)))))
theorem rZ(h:HF)(l:List Appoint)(dU:Option Addr)(dT:Nat)(eU:Int)(known:Int)(hl:SlC vH h dU dT l):i9 prog 93 [.slice dU l.length dT,I eU,I known] h (λv h'=>∃(rk0:Nat),v=.map (some rk0)/\tQ SE (iZ vH) h' rk0 (dx l eU known)):=by
 refine sT func93 U ntmps93 U λX hM hX hF=>?_
 have hs0:=@rfl _ (dx l eU known)
 refine sr (bS (λb1=>bS (λb2=>qO 4 U (aO 1 U hM (λh1 hle1 hb1=>aO 0 U hM (λh2 hle2 hb2=>aA (eI U U (qO 6 U (aA (cC call182 (uU _ _ _ _ (λdE=>gr dE eU known) (.func (.func 181) #[] #[Q b1,Q b2]) gq (.func (.func 183) #[] #[]) (hl.mono zR (hle1.t hle2)) (λh' dE hle=>iK call181 (wS h' dE eU ⟨b1,0,none⟩ known ⟨b2,0,none⟩  (((cz hb1).mono hle2).mono hle) ((cz hb2).mono hle))) (λh' dE Ef hle=>iK call183 (wR h' dE Ef))) U (λv1 h3 hle3 hp1=>?_)))))))))))
 obtain⟨rk1,rfl,mo1⟩:=hp1
 refine an ?_
 have hs1:dx l eU known=(cM l (λdE=>gr dE eU known) gq):=hs0
 exact nretH [.map (some rk1)] (hs1▸⟨rk1,U,mo1⟩)
theorem Cr(h:HF)(l:List Appoint)(dU:Option Addr)(dT:Nat)(office:Int)(person:Int)(bw:Int)(known:Int)(hl:SlC vH h dU dT l):Ret prog 29 [.slice dU l.length dT,I office,I person,I bw,I known] h (.tuple #[I ((gF l office person bw known).1),I ((gF l office person bw known).2.1),.bool ((gF l office person bw known).2.2.1),I ((gF l office person bw known).2.2.2)]):=by
 refine sT func29 U ntmps29 U λX hM hX hF=>?_
 have hs0:=@rfl _ (gF l office person bw known)
 refine qT 11 U (ai call65 (qh _ _ _ _ hl) U (qO 7 U (ae hs0 U (λc1 hs1=>?_) (λc1 hs2=>?_))))
 .refine qT 8 U ?_
  have hs3:gF l office person bw known=(0,0,false,(df l)):=hs1
  exact nretP [I 0,I 0,.bool false,I (df l)] (hs3▸U)
 refine qT 5 U (ai Oy (mH h office) U (qO 2 U (bL 4 [24,25,26,27,28] 24 28 (!(fE person)) U (λc2 hk1=>?_) (λe=>?_))))
 .exact av (ai call107 (oA h person) U (qO 2 U (hk1 _ U)))
 refine av (bL 4 [29,30,31,32,33] 29 33 (!(di bw)) U (λc3 hk2=>?_) (λe=>?_))
 .exact av (ai Eo (jg h bw) U (qO 2 U (hk2 _ U)))
 refine av (bL 4 [34,35,36,37,38] 34 38 (!(di known)) U (λc4 hk3=>?_) (λe=>?_))
 .exact av (ai Eo (jg h known) U (qO 2 U (hk3 _ U)))
 refine aI (ae hs2 U (λc5 hs4=>?_) (λc5 hs5=>?_))
 .refine qT 7 U ?_
  have hs6:gF l office person bw known=(0,0,false,1):=hs4
  exact nretP [I 0,I 0,.bool false,I 1] (hs6▸U)
 refine qT 6 U (aA (cC call93 (rZ _ _ _ _ bw known hl) U (λv1 h1 hle1 hp1=>?_)))
 obtain⟨rk1,rfl,mo1⟩:=hp1
 refine qO 2 U (aA (e9 (cells:=[I office,I person]) (places:=[(0,1),(1,1)]) Jf zc182 kr kr ?_))
 obtain⟨o1,hb1,hm1⟩:=mo1
 refine aA (tT (k:=(SQ office person)) Me vX hb1 hm1 (fp zv89) (show(iZ vH) _ (.agg (vB [I 0,I 0,I 0,I 0,I 0,I 0,.bool false])) (jD 0 0 0 0 0 0 false)from⟨_,U,U⟩) U U (λv2 hv1=>?_))
 obtain⟨_,rfl,rfl⟩:=hv1
 refine qO 3 U (aS zc89 (λb1=>aR 0 ty89 U U U U U U (qO 8 U (bL 3 [52,53,54,55] 52 55 ((mgetD (dx l bw known) (SQ office person) (jD 0 0 0 0 0 0 false)).Gone) U (λc6 hk4=>?_) (λe=>?_)))))
 .exact qL 3 [0] U (hk4 _ U)
 refine aI (ae hs5 U (λc7 hs7=>?_) (λc7 hs8=>?_))
 .refine qT 7 U ?_
  have hs9:gF l office person bw known=(0,0,false,0):=hs7
  exact nretP [I 0,I 0,.bool false,I 0] (hs9▸U)
 refine qT 2 U (eh ([(b1,O (xL (mgetD (dx l bw known) (SQ office person) (jD 0 0 0 0 0 0 false))) 89)]) mixed kr jn (λdt _=>qB [0] U (tf 1 U U (rj 0 ty3 U U U) (qB [2] U (tf 3 U U (rj 0 ty3 U U U) (qR 4 4 U (aG kr ?_)))))))
 have hs10:gF l office person bw known=((mgetD (dx l bw known) (SQ office person) (jD 0 0 0 0 0 0 false)).No,(mgetD (dx l bw known) (SQ office person) (jD 0 0 0 0 0 0 false)).Weight,true,0):=hs8
 exact nretP [I ((mgetD (dx l bw known) (SQ office person) (jD 0 0 0 0 0 0 false)).No),I ((mgetD (dx l bw known) (SQ office person) (jD 0 0 0 0 0 0 false)).Weight),.bool true,I 0] (hs10▸U)
theorem DY(h:HF)(l:List Deputy)(dU:Option Addr)(dT:Nat)(cu:Int)(to:Int)(q:bR)(hl:SlC xN h dU dT l):Ret prog 108 [.slice dU l.length dT,I cu,I to,.agg (bR.cells q).toArray] h (I (jt l cu to q)):=by
 refine sT func108 U ntmps108 U λX hM hX hF=>?_
 have hs0:=@rfl _ (jt l cu to q)
 refine sr (bS (λb1=>qO 6 U (ai call66 (um _ _ _ _ hl) U (qO 7 U (ae hs0 U (λc1 hs1=>?_) (λc1 hs2=>?_))))))
 .exact sr (qO 3 U (nretP [I (dk l)] (ci hs1)))
 refine qT 5 U (ai Ow (mv h cu) U (qO 2 U (bL 4 [18,19,20,21,22] 18 22 (!(fD to)) U (λc2 hk1=>?_) (λe=>?_))))
 .exact av (ai Ow (mv h to) U (qO 2 U (hk1 _ U)))
 refine av (bL 5 [23,24,25,26,27,28] 23 28 (!(bV q.office 0 31)) U (λc3 hk2=>?_) (λe=>?_))
 .exact qL 2 [0] U (ai C3 (iB h q.office 0 31) U (qO 2 U (hk2 _ U)))
 refine av (bL 5 [29,30,31,32,33,34] 29 34 (!(bV q.kind 0 15)) U (λc4 hk3=>?_) (λe=>?_))
 .exact qL 2 [0] U (ai C3 (iB h q.kind 0 15) U (qO 2 U (hk3 _ U)))
 refine av (bL 5 [35,36,37,38,39,40] 35 40 (!(bV q.value 0 1099511627776)) U (λc5 hk4=>?_) (λe=>?_))
 .exact qL 2 [0] U (ai C3 (iB h q.value 0 1099511627776) U (qO 2 U (hk4 _ U)))
 refine av (bL 5 [41,42,43,44,45,46] 41 46 (!(fX q.at_)) U (λc6 hk5=>?_) (λe=>?_))
 .exact qL 2 [0] U (ai Ox (nq h q.at_) U (qO 2 U (hk5 _ U)))
 refine av (bL 5 [47,48,49,50,51,52] 47 52 (!(fX q.known)) U (λc7 hk6=>?_) (λe=>?_))
 .exact qL 2 [0] U (ai Ox (nq h q.known) U (qO 2 U (hk6 _ U)))
 refine aI (ae hs2 U (λc8 hs4=>?_) (λc8 hs5=>?_))
 .exact sr (an (nretP [I 1] (ci hs4)))
 exact aH (qT 4 U (nretP [I 0] (ci hs5)))
theorem sV(h:HF)(seq:List Deputy)(seq_v:Value)(hseq:Itr prog seq_v tl seq h)(hsz:seq.length<=2000000):i9 prog 203 [.slice none 0 0,seq_v] h (λv h'=>∃(rb0:Option Addr)(rc0:Nat),v=.slice rb0 (bT seq).length rc0/\SlC xN h' rb0 rc0 (bT seq)):=by
 refine cH func203 U ntmps203 U λX hM hX=>?_
 have hs0:=@rfl _ (bT seq)
 refine sr (bS (λb1=>qO 8 U (ej (bW (L':=([(b1,O [.slice none 0 0] 23)])++markB []) ap ?_))))
 refine ke (it:=seq_v) (xs:=seq) (ι:=(List Deputy)×Option Addr×Nat×LH×HF) [] (λi=>i.2.2.2.2) (λi=>[(b1,O [.slice i.2.1 i.1.length i.2.2.1] 23)]++(i.2.2.2.1)) (λs i=>bT seq=((bT.L1 (bT.K1)) s i.1)/\cZ xN 93 i.2.2.2.2 i.1 i.2.1 i.2.2.1 i.2.2.2.1/\xM h i.2.2.2.2/\i.1.length+s.length<=seq.length) (λ_=>False) (λ_=>False) 0 (λ_ _ _=>False) ([],none,0,[],h) func203 U hseq U Fs (λ_ _ _ _ _ hq=>hq) U (show[(b1,O [.slice none 0 0] 23)]=_ from U) ⟨hs0,cZ.nil,lf,(by simp)⟩ ?_ ?_ ?_ ?_ ?_
 .rintro l1 dm1 lp1 y1 rz1 vs1 ⟨bx,mX,mW,n9,hh1⟩ hr1 X hFR1 ⟨hs1,fP,hl1,u1_0⟩ hl01 hlr1 hv1 hX hXM hlp1 nx1 rt1 ex1 pn1
  obtain rfl:=hv1
  simp only[xA]at u1_0
  let z1:Nat×Obj:=(b1,O [.slice mX bx.length mW] 23)
  let z4:Nat×Obj:=(dm1,.deferred (some []))
  refine bW (L':=[(l1,.loop lp1),z4,z1]++(n9++(markB []))) ap (bC (aS zc93 (λb4=>aR 0 ty93 U U U U U U (iO (L':=[(b4,O (jG y1) 93),(l1,.loop lp1),z4,z1]++(n9++(markB []))) U (aI (j2 1 U hlp1 (qK 3 [3] U (cN 0 ty93 U U U (aA (aV (cells:=[I y1.No,I y1.At,I y1.Known,I y1.Until,I y1.From,I y1.To,I y1.Office,I y1.Kind,I y1.Most,.bool y1.Gone]) nr ty93 zc93 U U kr (λb5=>?_)))))))))))
  let z3:Nat×Obj:=(b5,O [I y1.No,I y1.At,I y1.Known,I y1.Until,I y1.From,I y1.To,I y1.Office,I y1.Kind,I y1.Most,.bool y1.Gone] 93)
  let z5:Nat×Obj:=(l1,.loop { lp1 with state:=.busy })
  let z6:Nat×Obj:=(b4,O (jG y1) 93)
  refine aA (cd Deputy.eo ([z3,z6,z5,z4,z1]) (markB []) (λG=>[z3,z6,z5,z4,z1]++(markB []++G)) ap (λ_=>ap) nr ty93 zc93 U bytes93 (fP.mono zM hlr1) U U (dX 0 U (cE y1 U U)) lo lo (λob2 oc2 G2 gr2=>yH (sH ([z3,z6,z5,z4,z1]) G2 (markB [])) (cK 4 ty23 U U U U U U (qO 2 U ?_))))
  let z7:Nat×Obj:=(b1,O [.slice ob2 ((bx++[y1]).length) oc2] 23)
  exact ba (L':=[z5,z4,z7]++(G2++(markB []))) js (bW (L':=rdH l1 dm1 lp1 (([z7]++G2)++markB [])) ap (nx1 ((bx++[y1]),ob2,oc2,G2,hr1) _ _ ⟨hs1,gr2,(hl1.t hlr1),(by simp only[xB,xA,jC]at *;omega)⟩ lf))
 .rintro dm1 ⟨bx,mX,mW,n9,hh1⟩ hn1 ⟨hs2,fP,hl1,u1_0⟩ hln1 hl01
  let z2:Nat×Obj:=(b1,O [.slice mX bx.length mW] 23)
  refine bW (L':=[z2]++(n9++(markB (dm1::[])))) ap (qK 6 [0] U (eY zM ([z2]) n9 (markB (dm1::[])) ap hM (fP.mono zM hln1) (λh2 hle2 sl2=>?_)))
  have hs3:bT seq=bx:=hs2
  exact bW (L':=([z2])++markB (dm1::[])) ap (re (dm1::[]) [.slice mX bx.length mW] func203 U rd ⟨mX,mW,congrArg (λr:List Deputy=>(.slice mX r.length mW:Value)) hs3.symm,(by rw[hs3];exact sl2)⟩)
 .exact xf
 .exact xf
 exact xf
theorem uA(h:HF)(seq:List Deputy)(seq_v:Value)(hseq:Itr prog seq_v tl seq h)(hsz:seq.length<=2000000):i9 prog 109 [seq_v] h (λv h'=>∃(rb0:Option Addr)(rc0:Nat),v=.slice rb0 (cX seq).length rc0/\SlC xN h' rb0 rc0 (cX seq)):=by
 refine sT func109 U ntmps109 U λX hM hX hF=>?_
 have hs0:=@rfl _ (cX seq)
 refine qT 7 U (aA (cC call203 (sV h seq seq_v hseq ob) U (λv1 h1 hle1 hp1=>?_)))
 obtain⟨rb1,rc1,rfl,sl1⟩:=hp1
 refine an ?_
 have hs1:cX seq=(bT seq):=hs0
 exact nretH [.slice rb1 ((bT seq).length) rc1] (hs1▸⟨rb1,rc1,U,sl1⟩)
theorem uB(s:List Deputy):cX s=s:=by
 have:∀(s acc:List Deputy),bT.L1 bT.K1 s acc=acc++s:=by
  intro s
  induction s with
  |nil=>intro acc;exact(List.append_nil _).symm
  |cons y s ih=>intro acc;simp only[bT.L1,ih,vD,List.cons_append,kF]
 exact(this s []).trans (kF _)
theorem nN(h:HF)(q:bR)(x:Deputy)  : Ret prog 204 [.agg (bR.cells q).toArray,.agg (jG x).toArray] h (.bool (du q x)):=by
 refine sT func204 U ntmps204 U λX hM hX hF=>?_
 have hs0:=@rfl _ (du q x)
 refine sr (bS (λb1=>bS (λb2=>qL 10 [0,1] U (aU 6 [10,11,12,13,14,15,16] 10 16 (decide (x.Known<=q.known)) U (λc1 hk1=>?_) (λe=>?_)))))
 .exact qL 6 [0,1] U (hk1 _ U)
 exact an (nretP [.bool (decide (x.At<=q.at_)&&decide (x.Known<=q.known))] (cs hs0))
theorem sA(h:HF)(q:bR)(x:Deputy)  : Ret prog 206 [.agg (bR.cells q).toArray,.agg (jG x).toArray] h (.bool (er q x)):=by
 refine sT func206 U ntmps206 U λX hM hX hF=>?_
 have hs0:=@rfl _ (er q x)
 refine sr (bS (λb1=>bS (λb2=>qL 8 [0] U (aU 6 [8,9,10,11,12,13,14] 8 14 (decide (q.at_<x.Until)) U (λc1 hk1=>?_) (λe=>?_)))))
 .exact qL 6 [1,0] U (hk1 _ U)
 refine av (aU 6 [15,16,17,18,19,20,21] 15 21 (x.Office==q.office) U (λc2 hk2=>?_) (λe=>?_))
 .exact qL 6 [0,1] U (hk2 _ U)
 refine av (aU 11 [22,23,24,25,26,27,28,29,30,31,32,33] 22 33 ((x.Kind==(-1))||(x.Kind==q.kind)) U (λc3 hk3=>?_) (λe=>?_))
 .refine qL 4 [0] U (bL 6 [26,27,28,29,30,31,32] 26 32 (x.Kind==q.kind) U (λc4 hk4=>?_) (λe=>?_))
  .exact qL 6 [0,1] U (hk4 _ U)
  exact eE U (hk3 _ U)
 refine av (aU 6 [34,35,36,37,38,39,40] 34 40 (decide (q.value<=x.Most)) U (λc5 hk5=>?_) (λe=>?_))
 .exact qL 6 [1,0] U (hk5 _ U)
 exact an (nretP [.bool (((((!x.Gone)&&decide (q.at_<x.Until))&&(x.Office==q.office))&&((x.Kind==(-1))||(x.Kind==q.kind)))&&decide (q.value<=x.Most))] (cs hs0))
theorem pQ(h:HF)(v0:List Deputy)(uv:Option Addr)(uu:Nat)(v0_q:Addr)(v1:List (dL×Deputy))(N4:Nat)(v1_q:Addr)(v2:(Deputy->Bool))(v2_v:Value)(v2_q:Addr)(v3:bR)(v3_q:Addr)(hv0:SlC xN h uv uu v0)(av0:At h v0_q [.slice uv v0.length uu])(hv1:tQ dL.enc (iZ xN) h N4 v1)(av1:At h v1_q [.map (some N4)])(hv2:∀(h':HF)(dE:Deputy),xM h h'->uL prog v2_v [.agg (jG dE).toArray] h' [] (.bool (v2 dE)))(av2:At h v2_q [v2_v])(av3:At h v3_q (bR.cells v3)):Itr prog (.func (.func 205) #[] (vB [.pointer (some v0_q),.pointer (some v1_q),.pointer (some v2_q),.pointer (some v3_q)])) tl (aB v0 v1 v2 v3) h:=by
 refine tq call205 ?_
 intro yf ya yb C Sp Pn h1 A hle m1 m2 m3 hC hy
 refine jz En U ntmps205 U λX hXM hX=>?_
 have hs0:aB v0 v1 v2 v3=[]++aB v0 v1 v2 v3:=rfl
 refine sr (dD ty23 (av0.mono hle) U (qL 3 [] U ?_))
 refine lp2 v0 (λi w=>[(0,.func yf ya yb),(2,.pointer (some v1_q)),(3,.pointer (some v2_q)),(4,.pointer (some v3_q)),(8,.slice uv v0.length uu),(9,I (v0.length:Int)),(10,I (i:Int))]) (λw=>w.2.2) (λw=>w.2.1) (λi w=>C w.1 w.2.2 w.2.1/\xM h1 w.2.2) (λs1 i w=>w.1++(aB.L1 v1 v2 v3 (aB.K1)) s1) ([],A,h1) ((hv0.mono zM hle).1.1) hs0 ⟨hC,lf⟩ ?_ ?_
 .rintro i1 ⟨dn1,A1_,hh1⟩ ft hs1 ⟨hC1_,hl1⟩ e
  refine ej ?_
  have hs2:aB v0 v1 v2 v3=dn1:=hs1.trans (List.append_nil _)
  exact tr [] (A:=A1_) En U (List.Sublist.refl _) (.inl (hs2▸hC1_))
 rintro i1 ⟨dn1,A1_,hh1⟩ y1 rz1 hd1 cY aJ dY gy hs3 ⟨hC1_,hl1⟩ hx1 ag1 e
 refine sr (tO cY U (qO 8 U (aA (iF jG nr ty93 (hv0.mono zM (hle.t hl1)).1 aJ U U U (λq2 A2=>dv ty93 A2 U U (aS zc93 (λb2=>aR 0 ty93 U U U U U U (iO (L':=[(b2,O (jG y1) 93)]++(A1_)) U (qO 2 U ?_)))))))))
 let z1:Nat×Obj:=(b2,O (jG y1) 93)
 refine eh ([z1]) mixed kr jn (λdt _=>?_)
 refine tf 0 U U (rh ty277 (av1.mono (hle.t hl1)) U) (qB [1] U (tf 2 U U (rj 0 ty3 U U U) (qB [3] U (tf 4 U U (rj 0 ty3 U U U) (qB [5] U (tf 6 U U (rj 0 ty3 U U U) (qB [7] U (tf 8 U U (rj 0 ty3 U U U) (tf 11 U U (λ_ _ hj=>i7 ty93 U (hj.nth (i:=0) U) U) (tn 9 U (e9 (cells:=[I y1.From,I y1.To,I y1.Office,I y1.Kind]) (places:=[(0,1),(1,1),(2,1),(3,1)]) Mk zc279 kr kr (⟨jn,tn 10 U ?_⟩))))))))))))
 obtain⟨o2,hb2,hm2⟩:=(hv1.mono (iZ.mono zM) (hle.t hl1))
 refine od (k:=(dL.mk y1.From y1.To y1.Office y1.Kind)) underlying277 uH hb2 hm2 (fp zv93) (show(iZ xN) _ (.agg (vB [I 0,I 0,I 0,I 0,I 0,I 0,I 0,I 0,I 0,.bool false])) (Tt 0 0 0 0 0 0 0 0 0 false)from⟨_,U,U⟩) U U (λv2 hv2=>?_)
 obtain⟨_,rfl,rfl⟩:=hv2
 refine⟨jn,(tf 12 U U (λ_ _ _=>MA (LJ (mgetD v1 (dL.mk y1.From y1.To y1.Office y1.Kind) (Tt 0 0 0 0 0 0 0 0 0 false)) y1) eqg93 U U) (tm 13 U ?_))⟩
 refine cB 27 U (λc1=>?_) (λc1=>?_)
 .refine tf 14 U U (rh ty223 (av2.mono (hle.t hl1)) U) (tf 15 U U (λ_ _ hj=>i7 ty93 U (hj.nth (i:=0) U) U) (tn 16 U (mG (v:=.bool (v2 y1)) [] (List.nil_sublist _) (hv2 hh1 y1 (hle.t hl1)) U U (⟨jn,qA [17,18] U ?_⟩))))
  refine cB 32 U (λc2=>?_) (λc2=>?_)
  .refine tf 19 U U (λ_ _ hj=>iP ty184 ((av3.mono (hle.t hl1)).mono hj.1) U U) (tf 20 U U (λ_ _ hj=>i7 ty93 U (hj.nth (i:=0) U) U) (tn 21 U (et call206 (sA hh1 v3 y1) U (⟨jn,tf 22 U U (λ_ _ _=>oh U (cb (show(er v3 y1)=(((decide ((mgetD v1 (dL.mk y1.From y1.To y1.Office y1.Kind) (Tt 0 0 0 0 0 0 0 0 0 false))=y1))&&(v2 y1))&&(er v3 y1))from by first|(rw[c1];rw[c2];rfl)|(rw[c2];rfl)|simp[c1,c2]))) (tm 23 U ?_)⟩))))
   refine cB 37 U (λc3=>?_) (λc3=>?_)
   .have ct1:=c3
    have hs4:=hs3.trans (congrArg (dn1++·) (bt ct1))
    refine tm 24 U (tf 25 U U (λ_ _ hj=>i7 ty93 U (hj.nth (i:=0) U) U) ?_)
    have hx1:aB v0 v1 v2 v3=dn1++(y1::(aB.L1 v1 v2 v3 (aB.K1) rz1)):=hs4
    refine tn 26 U (lv ([z1]) A1_ ap (hy dn1 y1 _ _ _ _ hx1 hl1 hC1_ U) U U (λh2 A3 hle1 hC1=>?_) (λh3 A4 hle2 hS1=>?_) (λch1 h4 A5 hle3 hP1 e=>gK (nC [] (A:=A5) En (List.sublist_append_right _ _) hP1)))
    .have hs5:aB v0 v1 v2 v3=(dn1++[y1])++((aB.L1 v1 v2 v3 (aB.K1) rz1)):=hx1.trans ap
     exact⟨⟨hle1,λ_ hp=>List.Sublist.subset js hp⟩,lk (K2:=[z1]) hle1 (λ_ hp=>hp) (qA [27,28] U (aG kr (qT 4 U (oi i1 U (qO 2 U (ba (L':=A3) js (ag1 ((dn1++[y1]),A3,h2) hs5 ⟨hC1,(hl1.t hle1)⟩)))))))⟩
    exact⟨⟨hle2,λ_ hp=>List.Sublist.subset js hp⟩,lk (K2:=[z1]) hle2 (λ_ hp=>hp) (qA [27,28] U (aG kr (lX U (ej (nn [] (A:=A4) En U js (.inr hS1))))))⟩
   have ct2:=c3
   have hs6:=hs3.trans (congrArg (dn1++·) (bf ct2))
   exact tk 24 U U (qR 25 4 U (aG kr (qT 4 U (oi i1 U (qO 2 U (ba (L':=A1_) js (ag1 (dn1,A1_,hh1) hs6 ⟨hC1_,hl1⟩)))))))
  refine qR 19 3 U (tf 22 U U (λ_ _ _=>oh U (cb (show false=(((decide ((mgetD v1 (dL.mk y1.From y1.To y1.Office y1.Kind) (Tt 0 0 0 0 0 0 0 0 0 false))=y1))&&(v2 y1))&&(er v3 y1))from by first|(rw[c1];rw[c2];rfl)|(rw[c2];rfl)|simp[c1,c2]))) (tm 23 U ?_))
  refine cB 37 U (λc4=>?_) (λc4=>?_)
  .have ct3:=c4
   have hs7:=hs3.trans (congrArg (dn1++·) (bt ct3))
   refine tm 24 U (tf 25 U U (λ_ _ hj=>i7 ty93 U (hj.nth (i:=0) U) U) ?_)
   have hx2:aB v0 v1 v2 v3=dn1++(y1::(aB.L1 v1 v2 v3 (aB.K1) rz1)):=hs7
   refine tn 26 U (lv ([z1]) A1_ ap (hy dn1 y1 _ _ _ _ hx2 hl1 hC1_ U) U U (λh5 A6 hle4 hC2=>?_) (λh6 A7 hle5 hS2=>?_) (λch2 h7 A8 hle6 hP2 e=>gK (nC [] (A:=A8) En (List.sublist_append_right _ _) hP2)))
   .have hs8:aB v0 v1 v2 v3=(dn1++[y1])++((aB.L1 v1 v2 v3 (aB.K1) rz1)):=hx2.trans ap
    exact⟨⟨hle4,λ_ hp=>List.Sublist.subset js hp⟩,lk (K2:=[z1]) hle4 (λ_ hp=>hp) (qA [27,28] U (aG kr (qT 4 U (oi i1 U (qO 2 U (ba (L':=A6) js (ag1 ((dn1++[y1]),A6,h5) hs8 ⟨hC2,(hl1.t hle4)⟩)))))))⟩
   exact⟨⟨hle5,λ_ hp=>List.Sublist.subset js hp⟩,lk (K2:=[z1]) hle5 (λ_ hp=>hp) (qA [27,28] U (aG kr (lX U (ej (nn [] (A:=A7) En U js (.inr hS2))))))⟩
  have ct4:=c4
  have hs9:=hs3.trans (congrArg (dn1++·) (bf ct4))
  exact tk 24 U U (qR 25 4 U (aG kr (qT 4 U (oi i1 U (qO 2 U (ba (L':=A1_) js (ag1 (dn1,A1_,hh1) hs9 ⟨hC1_,hl1⟩)))))))
 refine qR 14 8 U (tf 22 U U (λ_ _ _=>oh U (cb (show false=(((decide ((mgetD v1 (dL.mk y1.From y1.To y1.Office y1.Kind) (Tt 0 0 0 0 0 0 0 0 0 false))=y1))&&(v2 y1))&&(er v3 y1))from by first|(rw[c1];rfl)|(rw[c1];rfl)|simp[c1]))) (tm 23 U ?_))
 refine cB 37 U (λc5=>?_) (λc5=>?_)
 .have ct5:=c5
  have hs10:=hs3.trans (congrArg (dn1++·) (bt ct5))
  refine tm 24 U (tf 25 U U (λ_ _ hj=>i7 ty93 U (hj.nth (i:=0) U) U) ?_)
  have hx3:aB v0 v1 v2 v3=dn1++(y1::(aB.L1 v1 v2 v3 (aB.K1) rz1)):=hs10
  refine tn 26 U (lv ([z1]) A1_ ap (hy dn1 y1 _ _ _ _ hx3 hl1 hC1_ U) U U (λh8 A9 hle7 hC3=>?_) (λh9 A10 hle8 hS3=>?_) (λch3 h10 A11 hle9 hP3 e=>gK (nC [] (A:=A11) En (List.sublist_append_right _ _) hP3)))
  .have hs11:aB v0 v1 v2 v3=(dn1++[y1])++((aB.L1 v1 v2 v3 (aB.K1) rz1)):=hx3.trans ap
   exact⟨⟨hle7,λ_ hp=>List.Sublist.subset js hp⟩,lk (K2:=[z1]) hle7 (λ_ hp=>hp) (qA [27,28] U (aG kr (qT 4 U (oi i1 U (qO 2 U (ba (L':=A9) js (ag1 ((dn1++[y1]),A9,h8) hs11 ⟨hC3,(hl1.t hle7)⟩)))))))⟩
  exact⟨⟨hle8,λ_ hp=>List.Sublist.subset js hp⟩,lk (K2:=[z1]) hle8 (λ_ hp=>hp) (qA [27,28] U (aG kr (lX U (ej (nn [] (A:=A10) En U js (.inr hS3))))))⟩
 have ct6:=c5
 have hs12:=hs3.trans (congrArg (dn1++·) (bf ct6))
 exact tk 24 U U (qR 25 4 U (aG kr (qT 4 U (oi i1 U (qO 2 U (ba (L':=A1_) js (ag1 (dn1,A1_,hh1) hs12 ⟨hC1_,hl1⟩)))))))
theorem rI(h:HF)(q:bR)(l:List Deputy)(dU:Option Addr)(dT:Nat)(hl:SlC xN h dU dT l):i9 prog 110 [.agg (bR.cells q).toArray,.slice dU l.length dT] h (λv h'=>∃(rv0:Value),v=rv0/\Itr prog rv0 tl (aF q l) h'):=by
 refine sT func110 U ntmps110 U λX hM hX hF=>?_
 have hs0:=@rfl _ (aF q l)
 refine sr (bS (λb1=>bS (λb2=>qO 4 U (cN 1 ty184 U U U (aA (eI U U (aS zc223 (λb3=>cK 0 ty223 U U U U U U (qO 3 U (aA (oK (λb4=>aS zc277 (λb5=>cK 0 ty277 U U U U U U (qL 8 [3] U ?_))))))))))))))
 let z1:Nat×Obj:=(b3,O [.func (.func 204) #[.agg (bR.cells q).toArray] #[]] 223)
 let z2:Nat×Obj:=(b2,O [.slice dU l.length dT] 23)
 let z3:Nat×Obj:=(b1,O (bR.cells q) 184)
 let z4:Nat×Obj:=(b5,O [.map (some b4)] 277)
 refine lp2 l (λi w=>[(2,Q b1),(3,Q b2),(5,Q b3),(6,Q b5),(15,.slice dU l.length dT),(16,I (l.length:Int)),(17,I (i:Int))]) (λ_=>h) (λw=>[z4,(b4,w.2),z1,z2,z3]) (λi w=>jY dL.enc (iZ xN) h w.2 w.1/\w.1.length<=0+i) (λs1 i w=>(aF.L1 q (aF.K1 q l)) s1 w.1) ([],.map #[] 0) hl.1.1 hs0 ⟨(jY.nil (enc:=dL.enc) (V:=(iZ xN)) (h:=h)),lc⟩ ?_ ?_
 .rintro i1 ⟨eM,FI⟩ ft hs1 ⟨yt,Pw⟩ e
  refine sr (aO 3 U hM (λh1 hle1 hb1=>aO 0 U hM (λh2 hle2 hb2=>aO 1 U hM (λh3 hle3 hb3=>aO 1 U hM (λh4 hle4 hb4=>aA (eI U U (an (eC 0 U hM (λh5 hle5 hb5=>?_)))))))))
  have mc1:tQ dL.enc (iZ xN) h5 b4 eM:=⟨_,hb5,(yt.mono (iZ.mono zM) (((hle1.t hle2).t hle3).t hle4)).mono (iZ.mono zM) hle5⟩
  have hs2:aF q l=(aB l eM (du q) q):=hs1
  exact nretH [.func (.func 205) #[] #[Q b2,Q b5,Q b3,Q b1]] (hs2▸⟨(.func (.func 205) #[] #[Q b2,Q b5,Q b3,Q b1]),U,(pQ h5 l dU dT ⟨b2,0,none⟩ eM b4 ⟨b5,0,none⟩ (du q) (.func (.func 204) #[.agg (bR.cells q).toArray] #[]) ⟨b3,0,none⟩ q ⟨b1,0,none⟩ (hl.mono zM ((((hle1.t hle2).t hle3).t hle4).t hle5)) ((cz hb1).mono (((hle2.t hle3).t hle4).t hle5)) mc1 ((cz hb2).mono ((hle3.t hle4).t hle5)) (λh' dE hle=>JM (fl:=[.agg (bR.cells q).toArray]) (cap:=[]) call204 (nN h' q dE)) ((cz hb3).mono (hle4.t hle5)) ((cz hb4).mono hle5))⟩)
 rintro i1 ⟨eM,FI⟩ y1 rz1 hd1 cY aJ dY gy hs3 ⟨yt,Pw⟩ hx1 ag1 e
 refine sr (tO cY U (qO 8 U (aA (iF jG nr ty93 hl.1 aJ U U U (λq2 A2=>dv ty93 A2 U U (aS zc93 (λb9=>aR 0 ty93 U U U U U U (qL 11 [0,0,0,0] U (aA (e9 (cells:=[I y1.From,I y1.To,I y1.Office,I y1.Kind]) (places:=[(0,1),(1,1),(2,1),(3,1)]) Mk zc279 kr kr (aS zc279 (λb10=>aR 0 ty279 U U U U U U (qL 4 [2] U (cN 0 ty279 U U U (aA (lZ 3 (k:=(dL.mk y1.From y1.To y1.Office y1.Kind)) underlying277 uH U yt (fp zv93) (show(iZ xN) _ (.agg (vB [I 0,I 0,I 0,I 0,I 0,I 0,I 0,I 0,I 0,.bool false])) (Tt 0 0 0 0 0 0 0 0 0 false)from⟨_,U,U⟩) U U (λv2 hv2=>?_)))))))))))))))))
 obtain⟨_,rfl,rfl⟩:=hv2
 refine qO 3 U (aS zc93 (λb11=>aR 0 ty93 U U U U U U (qL 5 [5] U (cN 2 ty93 U U U (aA (mG (v:=.bool (du q y1)) [] (List.nil_sublist _) (JM (fl:=[.agg (bR.cells q).toArray]) (args:=[.agg (jG y1).toArray]) (cap:=[]) call204 (nN h q y1)) U U (av (aU 10 [39,40,41,42,43,44,45,46,47,48,49] 39 49 ((!(mhas eM (dL.mk y1.From y1.To y1.Office y1.Kind)))||decide ((mgetD eM (dL.mk y1.From y1.To y1.Office y1.Kind) (Tt 0 0 0 0 0 0 0 0 0 false)).At<=y1.At)) U (λc1 hk1=>?_) (λe=>?_)))))))))
 .refine qO 3 U (bL 6 [42,43,44,45,46,47,48] 42 48 (decide ((mgetD eM (dL.mk y1.From y1.To y1.Office y1.Kind) (Tt 0 0 0 0 0 0 0 0 0 false)).At<=y1.At)) U (λc2 hk2=>?_) (λe=>?_))
  .exact qL 6 [2,0] U (hk2 _ U)
  exact eE U (hk1 _ U)
 refine aI (ae hs3 U (λc3 hs4=>?_) (λc3 hs5=>?_))
 .exact qK 2 [3] U (cN 1 ty279 U U U (cN 2 ty93 U U U (aA (ll 4 (k:=(dL.mk y1.From y1.To y1.Office y1.Kind)) (x:=y1) underlying277 uH U yt U U ⟨_,U,U⟩ (λmo1 hm1=>qO 3 U (oi i1 U (qO 2 U (ba (L':=[z4,(b4,mo1),z1,z2,z3]) js (ag1 ((mput eM (dL.mk y1.From y1.To y1.Office y1.Kind) y1),mo1) hs4 ⟨hm1,(by have:=nu eM (dL.mk y1.From y1.To y1.Office y1.Kind) y1;first|omega|(simp only[jC,xA]at *;omega))⟩)))))))))
 exact aH (qT 2 U (oi i1 U (qO 2 U (ba (L':=[z4,(b4,FI),z1,z2,z3]) js (ag1 (eM,FI) hs5 ⟨yt,lc⟩)))))
theorem pY(q:bR)(l:List Deputy):(aF q l).length<=l.length:=by
 have h1:∀(v:List (dL×Deputy))(s:List Deputy),(aB.L1 v (du q) q aB.K1 s).length<=s.length:=by
  intro v s
  induction s with
  |nil=>exact vG _
  |cons y s ih=>simp only[aB.L1,Bool.cond_eq_ite];split<;>simp only[xA]<;>omega
 have h2:∀(s:List Deputy)(g:List (dL×Deputy)),(aF.L1 q (aF.K1 q l) s g).length<=l.length:=by
  intro s
  induction s with
  |nil=>intro g;exact h1 g l
  |cons y s ih=>intro g;simp only[aF.L1,Bool.cond_eq_ite];split<;>exact ih _
 exact h2 _ _
theorem BS(h:HF)(l:List Deputy)(dU:Option Addr)(dT:Nat)(cu:Int)(to:Int)(office:Int)(kind:Int)(value:Int)(gP:Int)(known:Int)(hl:SlC xN h dU dT l)(hsz:l.length<=2000000):i9 prog 30 [.slice dU l.length dT,I cu,I to,I office,I kind,I value,I gP,I known] h (λv h'=>∃(rb0:Option Addr)(rc0:Nat),v=.tuple #[.slice rb0 ((aC l cu to office kind value gP known).1).length rc0,.bool ((aC l cu to office kind value gP known).2.1),I ((aC l cu to office kind value gP known).2.2)]/\SlC kB h' rb0 rc0 ((aC l cu to office kind value gP known).1)):=by
 refine sT func30 U ntmps30 U λX hM hX hF=>?_
 have hs0:=@rfl _ (aC l cu to office kind value gP known)
 have hcv:(cX (aF (bR.mk office kind value gP known) l)).length<=2000000:=by rw[uB];exact xS (pY _ _) hsz
 refine qT 13 U (aA (e9 (cells:=[I office,I kind,I value,I gP,I known]) (places:=[(0,1),(1,1),(2,1),(3,1),(4,1)]) underlying184 zc184 kr kr (aS zc184 (λb1=>aR 0 ty184 U U U U U U (qO 7 U (cN 0 ty184 U U U (ai call108 (DY _ _ _ _ cu to (bR.mk office kind value gP known) hl) U (qO 7 U (ae hs0 U (λc1 hs1=>?_) (λc1 hs2=>?_))))))))))
 .refine qT 7 U ?_
  have hs3:aC l cu to office kind value gP known=([],false,(jt l cu to (bR.mk office kind value gP known))):=hs1
  exact nretH [.slice none 0 0,.bool false,I (jt l cu to (bR.mk office kind value gP known))] (hs3▸⟨none,0,U,vE⟩)
 refine qT 3 U (cN 0 ty184 U U U (av (aA (cC call110 (rI _ (bR.mk office kind value gP known) _ _ _ hl) U (λv1 h1 hle1 hp1=>?_)))))
 obtain⟨_,rfl,mo1⟩:=hp1
 refine aA (cC call109 (uA h1 (aF (bR.mk office kind value gP known) l) v1 mo1 (xS (pY _ _) hsz)) U (λv2 h2 hle2 hp2=>?_))
 obtain⟨rb1,rc1,rfl,sl1⟩:=hp2
 refine qO 4 U (aA (oK (λb2=>av (aA (xn 0 (k:=to) (x:=0) AS (fU ox) U (jY.nil (enc:=(zD .i64)) (V:=wm) (h:=h2)) U U U (λmo2 hm1=>qO 8 U ?_))))))
 let z1:Nat×Obj:=(b1,O [I office,I kind,I value,I gP,I known] 184)
 refine iT (ι:=Nat×(List (Int×Int))×Obj) (λi=>[(1,I cu),(16,.slice none 0 0),(20,.slice rb1 ((cX (aF (bR.mk office kind value gP known) l)).length) rc1),(21,.map (some b2))]) (λi=>h2) (λi=>[(b2,i.2.2),z1]) (λi=>i.1<=(zK 8).length/\aC l cu to office kind value gP known=((aC.K1 l cu office kind value gP known) i.2.1)/\jY (zD .i64) wm h2 i.2.2 i.2.1/\(∀p∈i.2.1,0<=p.2/\p.2<=8)) ?_ (λhx1=>?_)
 .rintro⟨i1,bN,dS⟩ ⟨ft,hs4,gG,u1_0⟩ e
  try dsimp only at ft gG u1_0
  have hf8:=(yR (P:=λx:Int=>0<=x/\x<=8) cu u1_0 (show(0:Int)<=0/\(0:Int)<=8 from⟨Int.le_refl _,by omega⟩))
  have hrg:=List.length_range (n:=(mgetD bN cu 0).toNat)
  refine qT 4 U (aA (lZ 0 (k:=cu) AS (fU ox) U gG (fp zv3) (show wm _ (I 0) 0 from U) U U (λv5 hv3=>?_)))
  obtain rfl:=hv3
  refine qO 12 U (ae hs4 U (λc3 hs5=>?_) (λc3 hs6=>?_))
  .refine qT 6 U ?_
   have hs7:aC l cu to office kind value gP known=([],false,0):=hs5
   exact nretH [.slice none 0 0,.bool false,I 0] (hs7▸⟨none,0,U,vE⟩)
  refine qT 7 U ?_
  refine iT (ι:=Nat×List Int×Option Addr×Nat×LH×Int) (λi=>[(16,.slice i.2.2.1 i.2.1.length i.2.2.2.1)]) (λi=>h2) (λi=>[(b2,dS),z1]++(i.2.2.2.2.1)) (λi=>i.1<=(zK (((mgetD bN cu 0)).toNat)).length/\aC l cu to office kind value gP known=((aC.K4) i.2.1 i.2.2.2.2.2)/\cZ kB 3 h2 i.2.1 i.2.2.1 i.2.2.2.1 i.2.2.2.2.1/\i.2.1.length<=i.1) ?_ (λhx4=>?_)
  .rintro⟨i4,yp,FD,FC,IE,Dt⟩ ⟨CG,hs8,CJ,LF⟩ e
   try dsimp only at CG CJ LF
   refine qT 7 U (eY xH ([(b2,dS),z1]) IE ([]) ap hM CJ (λh3 hle3 sl2=>?_))
   have hs9:aC l cu to office kind value gP known=(yp,true,0):=hs8
   exact nretH [.slice FD yp.length FC,.bool true,I 0] (hs9▸⟨FD,FC,U,sl2⟩)
  refine ls (ι:=Nat×List Int×Option Addr×Nat×LH×Int×List Nat) (λi=>[(16,.slice i.2.2.1 i.2.1.length i.2.2.2.1),(20,.slice rb1 ((cX (aF (bR.mk office kind value gP known) l)).length) rc1),(21,.map (some b2)),(29,I ((((((mgetD bN cu 0)).toNat)-i.1):Nat):Int)),(31,I i.2.2.2.2.2.1)]) (λi=>h2) (λi=>[(b2,dS),z1]++(i.2.2.2.2.1)) (λi=>(zK (((mgetD bN cu 0)).toNat)).drop i.1=i.2.2.2.2.2.2/\i.1<=(zK (((mgetD bN cu 0)).toNat)).length/\aC l cu to office kind value gP known=((aC.L4 l cu office kind value gP known bN (aC.K4)) i.2.2.2.2.2.2 i.1 i.2.1 i.2.2.2.2.2.1)/\cZ kB 3 h2 i.2.1 i.2.2.1 i.2.2.2.1 i.2.2.2.2.1/\i.2.1.length<=i.1) (λi=>i.2.2.2.2.2.2.length) (0,[],none,0,[],cu,(zK (((mgetD bN cu 0)).toNat))) ⟨U,U,U,(congrArg (zD .i64) (show(mgetD bN cu 0)=((((((mgetD bN cu 0)).toNat)-0):Nat):Int)from(by have hq:=(yR (P:=λx:Int=>0<=x/\x<=8) cu u1_0 (show(0:Int)<=0/\(0:Int)<=8 from⟨Int.le_refl _,by omega⟩));omega))),U,trivial⟩ sw ⟨U,qM _,hs6,cZ.nil,lo⟩ ?_
  rintro⟨i4,yp,FD,FC,IE,Dt,s4⟩ ⟨hd4,Rs,hs10,CJ,LF⟩ ag1 e
  try dsimp only at hd4 Rs CJ LF
  rcases s4 with _|⟨y4,rz4⟩
  .have R7:decide (0<((((((mgetD bN cu 0)).toNat)-i4):Nat):Int))=false:=decide_eq_false (by have q_:=of_decide_eq_false (oC hd4);rw[List.length_range]at q_;omega)
   exact ew (qT 3 U (fO R7 U (qO 3 U (hx4 (i4,yp,FD,FC,IE,Dt) _ ⟨Rs,hs10,CJ,lo⟩ rd))))
  have R5:decide (0<((((((mgetD bN cu 0)).toNat)-i4):Nat):Int))=true:=decide_eq_true (by have q_:=iX hd4;rw[List.length_range]at q_;omega)
  have Q0:i4<(((mgetD bN cu 0)).toNat):=by simpa using iX hd4
  refine qT 4 U (tO R5 U (qL 11 [] U ?_))
  refine lp3 (cX (aF (bR.mk office kind value gP known) l)) (λi w=>[(16,.slice w.2.1 w.1.length w.2.2.1),(20,.slice rb1 ((cX (aF (bR.mk office kind value gP known) l)).length) rc1),(21,.map (some b2)),(29,I ((((((mgetD bN cu 0)).toNat)-i4):Nat):Int)),(31,I w.2.2.2.2),(110,.slice rb1 ((cX (aF (bR.mk office kind value gP known) l)).length) rc1),(111,I (((cX (aF (bR.mk office kind value gP known) l)).length:Nat):Int)),(112,I (i:Int))]) (λ_=>h2) (λw=>[(b2,dS),z1]++(w.2.2.2.1)) (λi w=>cZ kB 3 h2 w.1 w.2.1 w.2.2.1 w.2.2.2.1/\w.1.length<=i4) (λi w=>cZ kB 3 h2 w.1 w.2.1 w.2.2.1 w.2.2.2.1/\w.1.length<=i4+1) (λ_ _ h=>⟨h.1,Nat.le_succ_of_le h.2⟩) (λs6 i w=>(aC.L6 cu bN i4 (λzg6_16 zg6_31=>(aC.L4 l cu office kind value gP known bN (aC.K4) rz4 (i4+1) zg6_16 zg6_31))) s6 w.1 w.2.2.2.2) (yp,FD,FC,IE,Dt) sl1.1.1 hs10 ⟨CJ,lo⟩ ?_ ?_
  .rintro i6 ⟨BB,LE,LD,FB,Ds⟩ R6 hs12 ⟨CI,LC⟩ e
   try dsimp only at CI LC
   exact eX (qT 2 U (j9 (v':=I ((((((mgetD bN cu 0)).toNat)-(i4+1)):Nat):Int)) U (PR Q0 ob) (an (ag1 ((i4+1),BB,LE,LD,FB,Ds,rz4) _ (Nat.lt_succ_self _) ⟨mK hd4,iX hd4,hs12,CI,lo⟩ rd))))
  rintro i6 ⟨BB,LE,LD,FB,Ds⟩ y6 rz6 hd6 R4 RM Si Sm hs13 ⟨CI,LC⟩ hx6 ag2 e
  try dsimp only at CI LC
  refine sr (tO R4 U (qO 8 U (aA (iF jG nr ty93 sl1.1 RM U U U (λq4 A4=>dv ty93 A4 U U (aS zc93 (λb6=>aR 0 ty93 U U U U U U (iO (L':=[(b6,O (jG y6) 93),(b2,dS),z1]++(FB)) U (qL 6 [0] U (aA (lZ 1 (k:=y6.To) AS (fU ox) U gG (fp zv3) (show wm _ (I 0) 0 from U) U U (λv8 hv6=>?_))))))))))))
  obtain rfl:=hv6
  refine qL 13 [0] U (aU 2 [127,128,129] 127 129 (mhas bN y6.To) U (λc5 hk1=>?_) (λe=>?_))
  .exact av (eE U (hk1 _ U))
  refine av (aU 5 [130,131,132,133,134,135] 130 135 ((mgetD bN y6.To 0)==((((((mgetD bN cu 0)).toNat)-(i4+1)):Nat):Int)) U (λc6 hk2=>?_) (λe=>?_))
  .exact av (av (j9 (v':=I ((((((mgetD bN cu 0)).toNat)-(i4+1)):Nat):Int)) U (PR Q0 ob) (qO 2 U (hk2 _ U))))
  refine aI (ae hs13 U (λc7 hs14=>?_) (λc7 hs15=>?_))
  .refine ew ?_
   let z2:Nat×Obj:=(b6,O (jG y6) 93)
   refine eh ([z2,(b2,dS),z1]) mixed kr jn (λdt _=>?_)
   exact tm 0 U (qB [1] U (tf 2 U U (rj 0 ty3 U U U) (qB [5] U (tf 6 U U (rj 0 ty3 U U U) (tn 3 U (aV (cells:=[I y6.No]) dy ty3 zc3 U U kr (λb7=>⟨jn,tn 4 U (cd SL ([(b7,O [I y6.No] 3),z2,(b2,dS),z1]) ([]) (λG=>[(b7,O [I y6.No] 3),z2,(b2,dS),z1]++G) ap (λ_=>ap) dy ty3 zc3 U bytes3 CI U U (dX 0 U (cE (y6.No) U U)) lo lo (λob1 oc1 G1 gr1=>⟨jn,qA [7,8] U (aG kr (lM U (ba (L':=[(b2,dS),z1]++G1) js (hx6 i6 ((BB++[y6.No]),ob1,oc1,G1,y6.To) hs14 ⟨gr1,lo⟩))))⟩))⟩)))))))
  exact aH (qT 2 U (oi i6 U (qO 2 U (ba (L':=[(b2,dS),z1]++(FB)) js (ag2 (BB,LE,LD,FB,Ds) hs15 ⟨CI,lo⟩)))))
 refine ls (ι:=Nat×(List (Int×Int))×Obj×List Nat) (λi=>[(1,I cu),(16,.slice none 0 0),(20,.slice rb1 ((cX (aF (bR.mk office kind value gP known) l)).length) rc1),(21,.map (some b2)),(57,I (i.1:Int))]) (λi=>h2) (λi=>[(b2,i.2.2.1),z1]) (λi=>(zK 8).drop i.1=i.2.2.2/\i.1<=(zK 8).length/\aC l cu to office kind value gP known=((aC.L1 l office kind value gP known (aC.K1 l cu office kind value gP known)) i.2.2.2 i.1 i.2.1)/\jY (zD .i64) wm h2 i.2.2.1 i.2.1/\(∀p∈i.2.1,0<=p.2/\p.2<=8)) (λi=>i.2.2.2.length) (0,(mput ([]) to 0),mo2,(zK 8)) rd sw ⟨U,qM _,hs2,hm1,(λp hp=>by rw[qC.1 hp];exact⟨Int.le_refl _,by omega⟩)⟩ ?_
 rintro⟨i1,bN,dS,s1⟩ ⟨hd1,ft,hs16,gG,u1_0⟩ ag3 e
 try dsimp only at hd1 ft gG u1_0
 rcases s1 with _|⟨y1,rz1⟩
 .have fL:decide ((i1:Int)<8)=false:=by simpa using oC hd1
  exact sr (fO fL U (qO 4 U (hx1 (i1,bN,dS) _ ⟨ft,hs16,gG,u1_0⟩ rd)))
 have cY:decide ((i1:Int)<8)=true:=by simpa using ul hd1
 have dY:i1<8:=by simpa using iX hd1
 have hr8:i1<8:=dY
 refine sr (tO cY U (qL 17 [] U ?_))
 refine lp2 (cX (aF (bR.mk office kind value gP known) l)) (λi w=>[(1,I cu),(16,.slice none 0 0),(20,.slice rb1 ((cX (aF (bR.mk office kind value gP known) l)).length) rc1),(21,.map (some b2)),(22,I (i1:Int)),(57,I (i1:Int)),(60,.slice rb1 ((cX (aF (bR.mk office kind value gP known) l)).length) rc1),(61,I (((cX (aF (bR.mk office kind value gP known) l)).length:Nat):Int)),(62,I (i:Int))]) (λ_=>h2) (λw=>[(b2,w.2),z1]) (λi w=>jY (zD .i64) wm h2 w.2 w.1/\(∀p∈w.1,0<=p.2/\p.2<=8)) (λs3 i w=>(aC.L3 i1 (λzg3_b2_0=>(aC.L1 l office kind value gP known (aC.K1 l cu office kind value gP known) rz1 (i1+1) zg3_b2_0))) s3 w.1) (bN,dS) sl1.1.1 hs16 ⟨gG,ob⟩ ?_ ?_
 .rintro i3 ⟨nI,BC⟩ Rs hs18 ⟨ry,u3_0⟩ e
  try dsimp only at ry u3_0
  exact eX (bC (oi i1 U (qO 2 U (ag3 ((i1+1),nI,BC,rz1) _ (Nat.lt_succ_self _) ⟨mK hd1,iX hd1,hs18,ry,ob⟩ rd))))
 rintro i3 ⟨nI,BC⟩ y3 rz3 hd3 Fy m6 Kr Pi hs19 ⟨ry,u3_0⟩ hx3 ag4 e
 try dsimp only at ry u3_0
 refine sr (tO Fy U (qO 8 U (aA (iF jG nr ty93 sl1.1 m6 U U U (λq6 A6=>dv ty93 A6 U U (aS zc93 (λb9=>aR 0 ty93 U U U U U U (qL 6 [0] U (aA (lZ 1 (k:=y3.From) AS (fU ox) U ry (fp zv3) (show wm _ (I 0) 0 from U) U U (λv11 hv9=>?_)))))))))))
 obtain rfl:=hv9
 refine qL 11 [0] U (aA (lZ 1 (k:=y3.To) AS (fU ox) U ry (fp zv3) (show wm _ (I 0) 0 from U) U U (λv12 hv10=>?_)))
 obtain rfl:=hv10
 refine qO 10 U (aU 4 [81,82,83,84,85] 81 85 ((mgetD nI y3.To 0)==(i1:Int)) U (λc8 hk3=>?_) (λe=>?_))
 .exact av (qO 3 U (hk3 _ U))
 refine av (aU 3 [86,87,88,89] 86 89 (!(mhas nI y3.From)) U (λc9 hk4=>?_) (λe=>?_))
 .exact av (qO 2 U (hk4 _ U))
 refine aI (ae hs19 U (λc10 hs20=>?_) (λc10 hs21=>?_))
 .exact qK 5 [0] U (oi i1 U (aA (ll 1 (k:=y3.From) (x:=(((i1+1):Nat):Int)) AS (fU ox) U ry U U U (λmo3 hm2=>qO 3 U (oi i3 U (qO 2 U (ba (L':=[(b2,mo3),z1]) js (ag4 ((mput nI y3.From (((i1+1):Nat):Int)),mo3) hs20 ⟨hm2,(by first|assumption|exact yd (P:=λx:Int=>0<=x/\x<=8) _ ob ob)⟩))))))))
 exact aH (qT 2 U (oi i3 U (qO 2 U (ba (L':=[(b2,BC),z1]) js (ag4 (nI,BC) hs21 ⟨ry,(by first|assumption|exact yd (P:=λx:Int=>0<=x/\x<=8) _ ob ob)⟩)))))
theorem yn(h:HF)(l:List Interest)(dU:Option Addr)(dT:Nat)(person:Int)(parties:List Int)(ij:Option Addr)(ii:Nat)(bw:Int)(known:Int)(hl:SlC xK h dU dT l)(hparties:SlC kB h ij ii parties):Ret prog 111 [.slice dU l.length dT,I person,.slice ij parties.length ii,I bw,I known] h (I (cf l person parties bw known)):=by
 refine sT func111 U ntmps111 U λX hM hX hF=>?_
 have hs0:=@rfl _ (cf l person parties bw known)
 refine qT 8 U (ai call67 (tv _ _ _ _ hl) U (qO 7 U (ae hs0 U (λc1 hs1=>?_) (λc1 hs2=>?_))))
 .exact sr (qO 3 U (nretP [I (cm l)] (ci hs1)))
 refine qK 12 [] U ?_
 refine lp1 parties (λi w=>[(1,I person),(2,.slice ij parties.length ii),(3,I bw),(4,I known),(12,I w),(20,.slice ij parties.length ii),(21,I (parties.length:Int)),(22,I (i:Int))]) ([]) (λs1 i w=>(cf.L1 (cf.K1 person parties bw known)) s1 w) (-1) hparties.1.1 hs2 ?_ ?_
 .rintro i1 HI ft hs4 e
  refine qT 4 U (ai C2 (hY h person 64) U (qO 2 U (bL 4 [38,39,40,41,42] 38 42 (decide (16<(parties.length:Int))) U (λc2 hk1=>?_) (λe=>?_))))
  .exact qL 4 [] U (hk1 _ U)
  refine av (bL 4 [43,44,45,46,47] 43 47 (!(aW bw 1099511627776)) U (λc3 hk2=>?_) (λe=>?_))
  .exact av (ai C2 (hY h bw 1099511627776) U (qO 2 U (hk2 _ U)))
  refine av (bL 4 [48,49,50,51,52] 48 52 (!(aW known 1099511627776)) U (λc4 hk3=>?_) (λe=>?_))
  .exact av (ai C2 (hY h known 1099511627776) U (qO 2 U (hk3 _ U)))
  refine aI (ae hs4 U (λc5 hs5=>?_) (λc5 hs6=>?_))
  .exact sr (an (nretP [I 1] (ci hs5)))
  exact aH (qT 4 U (nretP [I 0] (ci hs6)))
 rintro i1 HI y1 rz1 hd1 cY aJ dY gy hs9 hx1 ag1 e
 refine sr (tO cY U (qO 8 U (aA (iF (λy=>[I y]) dy ty3 hparties.1 aJ U U U (λq2 A2=>dD ty3 A2 U (qO 9 U (bL 3 [29,30,31,32] 29 32 (decide (1048576<y1)) U (λc6 hk4=>?_) (λe=>?_))))))))
 .exact av (qO 2 U (hk4 _ U))
 refine aI (ae hs9 U (λc7 hs10=>?_) (λc7 hs11=>?_))
 .exact sr (an (nretP [I 1] (ci hs10)))
 exact aH (qT 6 U (oi i1 U (qO 2 U (ag1 y1 hs11))))
theorem uY(h:HF)(v0:List Interest)(uv:Option Addr)(uu:Nat)(v0_q:Addr)(v1:List (cS×Interest))(N4:Nat)(v1_q:Addr)(hv0:SlC xK h uv uu v0)(av0:At h v0_q [.slice uv v0.length uu])(hv1:tQ cS.enc (iZ xK) h N4 v1)(av1:At h v1_q [.map (some N4)]):Itr prog (.func (.func 208) #[] (vB [.pointer (some v0_q),.pointer (some v1_q)])) we (bA v0 v1) h:=by
 refine tq call208 ?_
 intro yf ya yb C Sp Pn h1 A hle m1 m2 m3 hC hy
 refine jz Jb U ntmps208 U λX hXM hX=>?_
 have hs0:bA v0 v1=[]++bA v0 v1:=rfl
 refine sr (dD ty24 (av0.mono hle) U (qL 3 [] U ?_))
 refine lp2 v0 (λi w=>[(0,.func yf ya yb),(2,.pointer (some v1_q)),(6,.slice uv v0.length uu),(7,I (v0.length:Int)),(8,I (i:Int))]) (λw=>w.2.2) (λw=>w.2.1) (λi w=>C w.1 w.2.2 w.2.1/\xM h1 w.2.2) (λs1 i w=>w.1++(bA.L1 v1 (bA.K1)) s1) ([],A,h1) ((hv0.mono vQ hle).1.1) hs0 ⟨hC,lf⟩ ?_ ?_
 .rintro i1 ⟨dn1,A1_,hh1⟩ ft hs1 ⟨hC1_,hl1⟩ e
  refine ej ?_
  have hs2:bA v0 v1=dn1:=hs1.trans (List.append_nil _)
  exact tr [] (A:=A1_) Jb U (List.Sublist.refl _) (.inl (hs2▸hC1_))
 rintro i1 ⟨dn1,A1_,hh1⟩ y1 rz1 hd1 cY aJ dY gy hs3 ⟨hC1_,hl1⟩ hx1 ag1 e
 refine sr (tO cY U (qO 8 U (aA (iF xC pg ty97 (hv0.mono vQ (hle.t hl1)).1 aJ U U U (λq2 A2=>dv ty97 A2 U U (aS zc97 (λb2=>aR 0 ty97 U U U U U U (iO (L':=[(b2,O (xC y1) 97)]++(A1_)) U (qO 2 U ?_)))))))))
 let z1:Nat×Obj:=(b2,O (xC y1) 97)
 refine eh ([z1]) mixed kr jn (λdt _=>?_)
 refine qB [0] U (tf 1 U U (rj 0 ty4 U U U) (qA [2,3] U ?_))
 refine cB 15 U (λc1=>?_) (λc1=>?_)
 .refine tf 4 U U (rh ty282 (av1.mono (hle.t hl1)) U) (qB [5] U (tf 6 U U (rj 0 ty3 U U U) (qB [7] U (tf 8 U U (rj 0 ty3 U U U) (qB [9] U (tf 10 U U (rj 0 ty4 U U U) (tf 13 U U (λ_ _ hj=>i7 ty97 U (hj.nth (i:=0) U) U) (tn 11 U (e9 (cells:=[I y1.Person,I y1.Party,.bool y1.Of]) (places:=[(0,1),(1,1),(2,1)]) Mj zc284 kr kr (⟨jn,tn 12 U ?_⟩))))))))))
  obtain⟨o2,hb2,hm2⟩:=(hv1.mono (iZ.mono vQ) (hle.t hl1))
  refine od (k:=(cS.mk y1.Person y1.Party y1.Of)) underlying282 uG hb2 hm2 (fp zv97) (show(iZ xK) _ (.agg (vB [I 0,I 0,I 0,I 0,I 0,.bool false,.bool false])) (qW 0 0 0 0 0 false false)from⟨_,U,U⟩) U U (λv2 hv2=>?_)
  obtain⟨_,rfl,rfl⟩:=hv2
  refine⟨jn,(tf 14 U U (λ_ _ _=>MA (IP (mgetD v1 (cS.mk y1.Person y1.Party y1.Of) (qW 0 0 0 0 0 false false)) y1) eqg97 U U) (tf 15 U U (λ_ _ _=>oh U (cb (show(decide ((mgetD v1 (cS.mk y1.Person y1.Party y1.Of) (qW 0 0 0 0 0 false false))=y1))=((!y1.Gone)&&(decide ((mgetD v1 (cS.mk y1.Person y1.Party y1.Of) (qW 0 0 0 0 0 false false))=y1)))from by first|(rw[c1];rfl)|(rw[c1];rfl)|simp[c1]))) (tm 16 U ?_)))⟩
  refine cB 28 U (λc2=>?_) (λc2=>?_)
  .have ct1:=c2
   have hs4:=hs3.trans (congrArg (dn1++·) (bt ct1))
   refine tm 17 U (tf 18 U U (λ_ _ hj=>i7 ty97 U (hj.nth (i:=0) U) U) ?_)
   have hx1:bA v0 v1=dn1++(y1::(bA.L1 v1 (bA.K1) rz1)):=hs4
   refine tn 19 U (lv ([z1]) A1_ ap (hy dn1 y1 _ _ _ _ hx1 hl1 hC1_ U) U U (λh2 A3 hle1 hC1=>?_) (λh3 A4 hle2 hS1=>?_) (λch1 h4 A5 hle3 hP1 e=>gK (nC [] (A:=A5) Jb (List.sublist_append_right _ _) hP1)))
   .have hs5:bA v0 v1=(dn1++[y1])++((bA.L1 v1 (bA.K1) rz1)):=hx1.trans ap
    exact⟨⟨hle1,λ_ hp=>List.Sublist.subset js hp⟩,lk (K2:=[z1]) hle1 (λ_ hp=>hp) (qA [20,21] U (aG kr (qT 4 U (oi i1 U (qO 2 U (ba (L':=A3) js (ag1 ((dn1++[y1]),A3,h2) hs5 ⟨hC1,(hl1.t hle1)⟩)))))))⟩
   exact⟨⟨hle2,λ_ hp=>List.Sublist.subset js hp⟩,lk (K2:=[z1]) hle2 (λ_ hp=>hp) (qA [20,21] U (aG kr (lX U (ej (nn [] (A:=A4) Jb U js (.inr hS1))))))⟩
  have ct2:=c2
  have hs6:=hs3.trans (congrArg (dn1++·) (bf ct2))
  exact tk 17 U U (qR 18 4 U (aG kr (qT 4 U (oi i1 U (qO 2 U (ba (L':=A1_) js (ag1 (dn1,A1_,hh1) hs6 ⟨hC1_,hl1⟩)))))))
 refine qR 4 11 U (tf 15 U U (λ_ _ _=>oh U (cb (show false=((!y1.Gone)&&(decide ((mgetD v1 (cS.mk y1.Person y1.Party y1.Of) (qW 0 0 0 0 0 false false))=y1)))from by first|(rw[c1];rfl)|(rw[c1];rfl)|simp[c1]))) (tm 16 U ?_))
 refine cB 28 U (λc3=>?_) (λc3=>?_)
 .have ct3:=c3
  have hs7:=hs3.trans (congrArg (dn1++·) (bt ct3))
  refine tm 17 U (tf 18 U U (λ_ _ hj=>i7 ty97 U (hj.nth (i:=0) U) U) ?_)
  have hx2:bA v0 v1=dn1++(y1::(bA.L1 v1 (bA.K1) rz1)):=hs7
  refine tn 19 U (lv ([z1]) A1_ ap (hy dn1 y1 _ _ _ _ hx2 hl1 hC1_ U) U U (λh5 A6 hle4 hC2=>?_) (λh6 A7 hle5 hS2=>?_) (λch2 h7 A8 hle6 hP2 e=>gK (nC [] (A:=A8) Jb (List.sublist_append_right _ _) hP2)))
  .have hs8:bA v0 v1=(dn1++[y1])++((bA.L1 v1 (bA.K1) rz1)):=hx2.trans ap
   exact⟨⟨hle4,λ_ hp=>List.Sublist.subset js hp⟩,lk (K2:=[z1]) hle4 (λ_ hp=>hp) (qA [20,21] U (aG kr (qT 4 U (oi i1 U (qO 2 U (ba (L':=A6) js (ag1 ((dn1++[y1]),A6,h5) hs8 ⟨hC2,(hl1.t hle4)⟩)))))))⟩
  exact⟨⟨hle5,λ_ hp=>List.Sublist.subset js hp⟩,lk (K2:=[z1]) hle5 (λ_ hp=>hp) (qA [20,21] U (aG kr (lX U (ej (nn [] (A:=A7) Jb U js (.inr hS2))))))⟩
 have ct4:=c3
 have hs9:=hs3.trans (congrArg (dn1++·) (bf ct4))
 exact tk 17 U U (qR 18 4 U (aG kr (qT 4 U (oi i1 U (qO 2 U (ba (L':=A1_) js (ag1 (dn1,A1_,hh1) hs9 ⟨hC1_,hl1⟩)))))))
end
section
open Go.Proofs Go.Proofs.Tryz Go.RowKit
theorem GT{out:List Int}{x:Int}:(compStep out x).getLast? = some x:=by
 unfold compStep
 split
 .assumption
 .simp
theorem Gc(xs:List Int):∀k,k<=xs.length->Lib.compactUpTo xs.toArray k=compI (xs.take k)/\(0<k->(compI (xs.take k)).getLast? = xs[k-1]?)
 |0,_=>⟨by simp[Lib.compactUpTo,compI],λh=>absurd h (Nat.lt_irrefl _)⟩
 |k+1,hk=>by
  obtain⟨h1,h2⟩:=Gc xs k (by omega)
  have hx:xs[k]? = some xs[k]:=zG (by omega)
  have ht:xs.take (k+1)=xs.take k++[xs[k]]:=by rw[List.take_add_one,hx];rfl
  have hc:compI (xs.take (k+1))=compStep (compI (xs.take k)) xs[k]:=by unfold compI;rw[ht,List.foldl_append];rfl
  refine⟨?_,λ_=>by rw[hc,GT,Nat.add_sub_cancel,hx]⟩
  rw[Lib.compactUpTo_succ,h1,hc]
  have hd:xs.toArray[k]! = xs[k]:=by simp[getElem!_pos,show k<xs.length by omega]
  rcases Nat.eq_zero_or_pos k with rfl|hk0
  .simp[Lib.keeps,compI,compStep,hd]
  .have hl:=h2 hk0
   have hd1:xs.toArray[k-1]! = xs[k-1]:=by simp[getElem!_pos,show k-1<xs.length by omega]
   have hx1:xs[k-1]? = some xs[k-1]:=zG (by omega)
   unfold compStep
   rw[hl,hx1,hd]
   by_cases he:xs[k-1]=xs[k]
   .have:Lib.keeps xs.toArray k=false:=Lib.keeps_neg hk0 (by rw[hd,hd1,he])
    simp[this,he]
   .have:Lib.keeps xs.toArray k=true:=Lib.keeps_pos (by rw[hd,hd1];exact λe=>he e.symm)
    simp[this,he]
theorem LR(xs:List Int):Lib.compact xs=compI xs:=by
 have:=(Gc xs xs.length (vG _)).1
 rw[List.take_length]at this
 exact this
theorem PU(xs:List Int):(compI xs).length<=xs.length:=by
 have:∀(l acc:List Int),(l.foldl compStep acc).length<=acc.length+l.length:=by
  intro l
  induction l with
  |nil=>intro acc;exact vG _
  |cons y l ih=>
   intro acc
   have h1:=ih (compStep acc y)
   have h2:(compStep acc y).length<=acc.length+1:=by unfold compStep;split<;>simp
   simp only[List.foldl_cons,xA];omega
 have h3:=this xs []
 simpa[compI]using h3
theorem pS(h:HF)(xs:List Int)(b:Option Addr)(c:Nat)(G:LH)(hG:cZ kB 3 h xs b c G):
  oo prog 136 [.slice b xs.length c].toArray h G (λr h' G'=>h'=h/\r=.returned (.slice b (slices_Compact_int xs).length c)/\cZ kB 3 h (slices_Compact_int xs) b c G'):=by
 intro w hp
 rcases hG with⟨rfl,rfl,rfl,rfl⟩|⟨bk,cl,sp,rfl,hcl,hlen,hcap,hmax,rfl⟩
 .refine(lr (Tryz.slices_Compact_int_empty none 0 w) (λw' hw=>by cases hw.1)).mono ?_
  rintro e w' ⟨rfl,rfl⟩
  exact⟨h,[],St.start hp,rfl,rfl,cZ.nil⟩
 .have hb:=hp.own _ (qC.2 rfl)
  simp only at hb
  have hcl':cl=xs.map (zD .i64):=by
   clear hlen hb hp hcap hmax
   induction xs generalizing cl with
   |nil=>exact hcl
   |cons y l ih=>
    obtain⟨cs,r,rfl,_,hr,hl⟩:=hcl
    have:cs=[.int .i64 y]:=hr
    rw[this,ih r hl];rfl
  subst hcl'
  have hH:Sort.Holds (zD .i64) w bk 0 xs.toArray:=by
   refine holds_of_blockI (cur:=(xs.map (zD .i64)++sp).toArray) (e:=3) hb ?_
   simp
  refine(lr (Tryz.slices_Compact_int bk 0 c xs w hH hmax hcap) (λw' hw=>by cases hw.1)).mono ?_
  rw[LR]
  have hle:=PU xs
  rintro e w' ⟨rfl,n,rfl⟩
  let ys:List Int:=compI xs++List.replicate (xs.length-(compI xs).length) 0
  have hys:ys.length=xs.length:=by simp[ys];omega
  obtain⟨g1,g2,g3,g4,g5⟩:=grownBy_sortedI (w:=w) (g:=bk) (n:=n) (os:=#[]) ys.toArray
  have hnew:=heap_sortedI (w:=w) (g:=bk) (n:=n) (os:=#[]) ys.toArray hb
  have htake:=take_putCellsI (xs.map (zD .i64)++sp).toArray ys (by rw[hys];simp)
  have hgr:∀W:World,Go.Sort.grow W #[]=W:=λW=>by simp[Go.Sort.grow]
  rw[hgr]at g1 g2 g3 g4 g5 hnew
  refine⟨h,[(bk,.cells (Sort.putCells (zD .i64) 0 ys.toArray (xs.map (zD .i64)++sp).toArray) 3 (0,0))],⟨g1,g2,g3,g4,λk hk hM=>g5 k hk (λe=>hM (by cases e;simp)),λ_ _ e=>e,λ_ _=>rfl,λk o e=>?_,λq hq=>?_,?_,?_,?_⟩,rfl,rfl,?_⟩
  .have hne:k≠bk:=λe'=>by
    have:=hp.free _ (qC.2 rfl)
    simp only at this
    rw[e',this]at e;cases e
   exact(g5 k (ik (hp.imm k o e)) (λe'=>by cases e';exact hne rfl)).trans (hp.imm k o e)
  .rw[qC.1 hq];exact hnew
  .simp
  .intro q hq;rw[qC.1 hq];exact hp.free (bk,zJ (xs.map (zD .i64)++sp).toArray 3 (0,0)) (qC.2 rfl)
  .intro q hq;rw[qC.1 hq];exact .inr (by simp)
  .have hcells:∀l:List Int,aY kB h (l.map (zD .i64)) l:=by
    intro l
    induction l with
    |nil=>rfl
    |cons y l ih=>exact⟨[.int .i64 y],l.map (zD .i64),rfl,rfl,rfl,ih⟩
   have hg:cZ kB 3 h ys (some ⟨bk,0,none⟩) c [(bk,.cells (Sort.putCells (zD .i64) 0 ys.toArray (xs.map (zD .i64)++sp).toArray) 3 (0,0))]:=by
    refine .inr ⟨bk,ys.map (zD .i64),(Sort.putCells (zD .i64) 0 ys.toArray (xs.map (zD .i64)++sp).toArray).toList.drop ys.length,rfl,hcells _,?_,by rw[hys];exact hcap,by rw[hys];exact hmax,?_⟩
    .rw[←htake,List.take_append_drop]
     simpa[Sort.putCells]using hlen
    .rw[←htake,List.take_append_drop]
   have:=hg.take (compI xs).length
   rwa [show ys.take (compI xs).length=compI xs from by simp[ys]]at this
end
variable {κ:Type}
section
open Go.Proofs Go.Proofs.Tryz
theorem pN.length{κ α : Type}{enc:κ->Value}{V:HF->Value->α->Prop}{h:HF}:∀{es:List MapEntry}{m:List (κ×α)},pN enc V h es m->es.length=m.length
 |[],[],_=>rfl
 |_::_,(_,_)::_,⟨_,_,c⟩=>by simp[pN.length c]
 |[],_::_,x=>x.elim
 |_::_,[],x=>x.elim
theorem As[Inhabited κ](ks:List κ)(is:List Nat)(hn:is.Nodup)(hlt:∀i∈is,i<ks.length)(hall:∀i,i<ks.length->i∈is):(is.map λi=>(ks[i]?).getD default).Perm ks:=by
 have h1:is.Perm (zK ks.length):=(List.perm_ext_iff_of_nodup hn List.nodup_range).2 (λi=>by rw[List.mem_range];exact⟨hlt i,hall i⟩)
 refine(h1.map _).trans (List.Perm.of_eq ?_)
 apply List.ext_getElem (by simp)
 intro i h2 h3
 simp at h2
 simp[zG h2]
theorem Dg[Inhabited κ](ks:List κ)(is:List Nat)(hn:is.Nodup)(hlt:∀i∈is,i<ks.length):∃rest,((is.map λi=>(ks[i]?).getD default)++rest).Perm ks:=by
 let js:=(zK ks.length).filter λi=>!is.contains i
 have hd:(is++js).Nodup:=by
  rw[S6]
  refine⟨hn,List.nodup_range.filter _,λa ha b hb e=>?_⟩
  subst e
  simp[js]at hb
  exact hb.2 ha
 refine⟨js.map λi=>(ks[i]?).getD default,?_⟩
 rw[←SP]
 refine As ks (is++js) hd (λi hi=>?_) (λi hi=>?_)
 .rcases jE.1 hi with h|h
  .exact hlt i h
  .simp[js]at h;exact h.1
 .by_cases hm:i∈is
  .exact kP _ hm
  .exact qN _ (by simp[js,hi,hm])
theorem vY(h:HF)(m:List (Int×Version))(bk:Nat)(q:Addr)(hm:tQ (zD .i64) (iZ zQ) h bk m)(aq:At h q [.map (some bk)]):
  Gm prog (.func (.func 262) #[] #[.pointer (some q)]) (λk _ vs=>vs=[(zD .i64) k]) (λxs=>xs.Perm (m.map (·.1))) h:=by
 refine⟨262,[.pointer (some q)],rfl,call262,?_⟩
 intro yf ya yb C Sp Pn h1 A hle m1 m2 m3 hC hy
 obtain⟨o,hb,m0,hpm,hnd0,es,clock,rfl,hE,hP,hcl⟩:=hm.mono (iZ.mono jN) hle
 have hnod:(es.map (·.born)).Nodup:=hP.imp (λh=>Nat.ne_of_lt h)
 have hkeys:=hE.keys
 have hlen:es.length=(m0.map (·.1)).length:=by rw[hE.length];simp
 let ks:=m0.map (·.1)
 let kf:Nat->Int:=λi=>(ks[i]?).getD default
 let bf:Nat->Nat:=λi=>(es[i]?.map (·.born)).getD 0
 have hkey:∀(i:Nat)(en:MapEntry),es[i]? = some en->en.key=(zD .i64) (kf i):=by
  intro i en hi
  have h2:(es.map (·.key))[i]? = some en.key:=by simp[hi]
  rw[hkeys]at h2
  simp only[Sv]at h2
  simp only[kf,ks,Sv]
  cases hq:m0[i]? with
  |none=>rw[hq]at h2;simp at h2
  |some p=>rw[hq]at h2;simp at h2;simp[←h2]
 refine nO (args:=[.func yf ya yb]) (cap:=[.pointer (some q)]) call262 ?_
 refine jz Ok rfl ntmps262 rfl λX hXM hX=>?_
 refine ew (bC (dD ty240 (aq.mono hle) rfl (aA (Mv Oj hb rfl (λit=>aI ?_)))))
 refine iT (ι:=List Nat×LH×HF) (λi=>[]) (λi=>i.2.2) (λi=>[(it,Obj.mapIter (some bk) clock (vB (i.1.map bf)) clock)]++i.2.1) (λi=>(i.1.Nodup/\(∀j∈i.1,j<es.length)/\(∀j,j<es.length->j∈i.1))/\C (i.1.map kf) i.2.2 i.2.1) ?_ (λhx=>?_)
 .rintro⟨js,A1,h2⟩ ⟨⟨hn,hl,ha⟩,hC1⟩ e
  exact xi Ok (λa _ w _=>mP rfl a w) (λw hw=>hw.sub (List.sublist_append_right _ _)) (.inl ⟨rfl,.inl ⟨_,(As ks js hn (λi hi=>by rw[←hlen];exact hl i hi) (λi hi=>ha i (by rw[hlen];exact hi))).trans (hpm.map _),hC1⟩⟩)
 refine ls (ι:=List Nat×LH×HF) (λi=>[(0,.func yf ya yb),(5,.pointer (some ⟨it,0,none⟩))]) (λi=>i.2.2) (λi=>[(it,Obj.mapIter (some bk) clock (vB (i.1.map bf)) clock)]++i.2.1) (λi=>i.1.Nodup/\(∀j∈i.1,j<es.length)/\C (i.1.map kf) i.2.2 i.2.1/\xM h1 i.2.2) (λi=>es.length-i.1.length) ([],A,h1) ⟨rfl,rfl,trivial⟩ (λw hw=>hw) ⟨S7,λ_ hj=>(vA hj).elim,hC,qQ _⟩ ?_
 rintro⟨js,A1,h2⟩ ⟨hn,hl,hC1,hle2⟩ ag e
 dsimp only at hn hl hC1 hle2
 have hlp:=Dj hnod js hl
 show TT _ _ _ _ _ (upds e [(0,.func yf ya yb),(5,.pointer (some ⟨it,0,none⟩))]) _ _ h2 ([(it,Obj.mapIter (some bk) clock (vB (js.map bf)) clock)]++A1)
 refine ew (bC (aA (OT 0 rfl (hle2 _ _ hb) (λx hx=>hcl x (by simpa using hx)) (vG _) rfl (λh0=>?_) (λen hen=>?_))))
 .refine pd rfl rfl (aI (ew (pi rfl (lM rfl ?_))))
  exact hx (js,A1,h2) _ ⟨⟨hn,hl,hlp.1 h0⟩,hC1⟩ trivial
 .obtain⟨i,hi,hni⟩:=hlp.2 en hen
  have hil:i<es.length:=by
   rcases kM i es.length with h3|h3
   .exact h3
   .simp[kK h3]at hi
  have hmem:en∈es.toArray.toList:=by simpa using vF hi
  have hn':(js++[i]).Nodup:=by
   rw[S6];exact⟨hn,by simp,λa ha b hb' e'=>by simp at hb';subst hb';subst e';exact hni ha⟩
  have hl':∀j∈js++[i],j<es.length:=λj hj=>by
   rcases jE.1 hj with h3|h3
   .exact hl j h3
   .simp at h3;subst h3;exact hil
  obtain⟨rest,hrest⟩:=Dg ks (js++[i]) hn' (λj hj=>by rw[←hlen];exact hl' j hj)
  have wX:js.length+1<=es.length:=by
   have h9:=hrest.length_eq
   rw[xB,List.length_map,xB]at h9
   have h10:ks.length=es.length:=hlen.symm
   simp only[xA,jC]at h9
   omega
  have hrest':(js.map kf++kf i::rest).Perm (m.map (·.1)):=by
   rw[SP,vD]at hrest
   exact List.Perm.trans hrest (hpm.map _)
  obtain⟨ekey,evl,eborn⟩:=en
  have hk':ekey=(zD .i64) (kf i):=hkey i _ hi
  subst hk'
  refine pd rfl rfl (aI ?_)
  refine ew (lX rfl (aH (mM ?_)))
  refine ew (bC ?_)
  refine aA (fj (MB 0 rfl (hle2 _ _ hb) hmem (by simpa using hnod) rfl) ?_)
  refine pd rfl rfl (gu (aI ?_))
  refine ew (bC (av (av ?_)))
  refine aA (lv [(it,Obj.mapIter (some bk) clock ((vB (js.map bf)).push eborn) clock)] A1 rfl (hy (js.map kf) (kf i) [(zD .i64) (kf i)] h2 A1 ⟨rest,hrest'⟩ hle2 hC1 rfl) rfl rfl (λh3 B hle3 hC3=>?_) (λh3 B hle3 hS3=>?_) (λch h3 B hle3 hP3 e'=>?_))
  .refine nF rfl (aI (pi rfl (aH (eX ?_))))
   have hpush:((vB (js.map bf)).push eborn)=vB ((js++[i]).map bf):=by simp[bf,hi]
   rw[hpush]
   refine ag (js++[i],B,h3) _ (by show es.length-(js++[i]).length<es.length-js.length;rw[xB];simp only[xA,jC];omega) ⟨hn',hl',by simpa using hC3,xG hle2 hle3⟩ ⟨rfl,rfl,trivial⟩
  .refine nF rfl (aI (lX rfl ?_))
   exact oO Ok (λa _ w _=>mP rfl a w) (λw hw=>hw.sub (List.sublist_append_right _ _)) (.inl ⟨rfl,.inr hS3⟩)
  .exact OG Ok (λw hw=>hw.sub (List.sublist_append_right _ _)) (.inr ⟨ch,rfl,hP3⟩)
theorem vZ(h:HF)(m:List (OSeat×Appoint))(bk:Nat)(q:Addr)(hm:tQ SE (iZ vH) h bk m)(aq:At h q [.map (some bk)]):
  Gm prog (.func (.func 275) #[] #[.pointer (some q)]) (λk _ vs=>vs=[SE k]) (λxs=>xs.Perm (m.map (·.1))) h:=by
 refine⟨275,[.pointer (some q)],rfl,call275,?_⟩
 intro yf ya yb C Sp Pn h1 A hle m1 m2 m3 hC hy
 obtain⟨o,hb,m0,hpm,hnd0,es,clock,rfl,hE,hP,hcl⟩:=hm.mono (iZ.mono zR) hle
 have hnod:(es.map (·.born)).Nodup:=hP.imp (λh=>Nat.ne_of_lt h)
 have hkeys:=hE.keys
 have hlen:es.length=(m0.map (·.1)).length:=by rw[hE.length];simp
 let ks:=m0.map (·.1)
 let kf:Nat->OSeat:=λi=>(ks[i]?).getD default
 let bf:Nat->Nat:=λi=>(es[i]?.map (·.born)).getD 0
 have hkey:∀(i:Nat)(en:MapEntry),es[i]? = some en->en.key=SE (kf i):=by
  intro i en hi
  have h2:(es.map (·.key))[i]? = some en.key:=by simp[hi]
  rw[hkeys]at h2
  simp only[Sv]at h2
  simp only[kf,ks,Sv]
  cases hq:m0[i]? with
  |none=>rw[hq]at h2;simp at h2
  |some p=>rw[hq]at h2;simp at h2;simp[←h2]
 refine nO (args:=[.func yf ya yb]) (cap:=[.pointer (some q)]) call275 ?_
 refine jz Oi rfl ntmps275 rfl λX hXM hX=>?_
 refine ew (bC (dD ty162 (aq.mono hle) rfl (aA (Mv Me hb rfl (λit=>aI ?_)))))
 refine iT (ι:=List Nat×LH×HF) (λi=>[]) (λi=>i.2.2) (λi=>[(it,Obj.mapIter (some bk) clock (vB (i.1.map bf)) clock)]++i.2.1) (λi=>(i.1.Nodup/\(∀j∈i.1,j<es.length)/\(∀j,j<es.length->j∈i.1))/\C (i.1.map kf) i.2.2 i.2.1) ?_ (λhx=>?_)
 .rintro⟨js,A1,h2⟩ ⟨⟨hn,hl,ha⟩,hC1⟩ e
  exact xi Oi (λa _ w _=>mP rfl a w) (λw hw=>hw.sub (List.sublist_append_right _ _)) (.inl ⟨rfl,.inl ⟨_,(As ks js hn (λi hi=>by rw[←hlen];exact hl i hi) (λi hi=>ha i (by rw[hlen];exact hi))).trans (hpm.map _),hC1⟩⟩)
 refine ls (ι:=List Nat×LH×HF) (λi=>[(0,.func yf ya yb),(5,.pointer (some ⟨it,0,none⟩))]) (λi=>i.2.2) (λi=>[(it,Obj.mapIter (some bk) clock (vB (i.1.map bf)) clock)]++i.2.1) (λi=>i.1.Nodup/\(∀j∈i.1,j<es.length)/\C (i.1.map kf) i.2.2 i.2.1/\xM h1 i.2.2) (λi=>es.length-i.1.length) ([],A,h1) ⟨rfl,rfl,trivial⟩ (λw hw=>hw) ⟨S7,λ_ hj=>(vA hj).elim,hC,qQ _⟩ ?_
 rintro⟨js,A1,h2⟩ ⟨hn,hl,hC1,hle2⟩ ag e
 dsimp only at hn hl hC1 hle2
 have hlp:=Dj hnod js hl
 show TT _ _ _ _ _ (upds e [(0,.func yf ya yb),(5,.pointer (some ⟨it,0,none⟩))]) _ _ h2 ([(it,Obj.mapIter (some bk) clock (vB (js.map bf)) clock)]++A1)
 refine ew (bC (aA (OT 0 rfl (hle2 _ _ hb) (λx hx=>hcl x (by simpa using hx)) (vG _) rfl (λh0=>?_) (λen hen=>?_))))
 .refine pd rfl rfl (aI (ew (pi rfl (lM rfl ?_))))
  exact hx (js,A1,h2) _ ⟨⟨hn,hl,hlp.1 h0⟩,hC1⟩ trivial
 .obtain⟨i,hi,hni⟩:=hlp.2 en hen
  have hil:i<es.length:=by
   rcases kM i es.length with h3|h3
   .exact h3
   .simp[kK h3]at hi
  have hmem:en∈es.toArray.toList:=by simpa using vF hi
  have hn':(js++[i]).Nodup:=by
   rw[S6];exact⟨hn,by simp,λa ha b hb' e'=>by simp at hb';subst hb';subst e';exact hni ha⟩
  have hl':∀j∈js++[i],j<es.length:=λj hj=>by
   rcases jE.1 hj with h3|h3
   .exact hl j h3
   .simp at h3;subst h3;exact hil
  obtain⟨rest,hrest⟩:=Dg ks (js++[i]) hn' (λj hj=>by rw[←hlen];exact hl' j hj)
  have wX:js.length+1<=es.length:=by
   have h9:=hrest.length_eq
   rw[xB,List.length_map,xB]at h9
   have h10:ks.length=es.length:=hlen.symm
   simp only[xA,jC]at h9
   omega
  have hrest':(js.map kf++kf i::rest).Perm (m.map (·.1)):=by
   rw[SP,vD]at hrest
   exact List.Perm.trans hrest (hpm.map _)
  obtain⟨ekey,evl,eborn⟩:=en
  have hk':ekey=SE (kf i):=hkey i _ hi
  subst hk'
  refine pd rfl rfl (aI ?_)
  refine ew (lX rfl (aH (mM ?_)))
  refine ew (bC ?_)
  refine aA (fj (MB 0 rfl (hle2 _ _ hb) hmem (by simpa using hnod) rfl) ?_)
  refine pd rfl rfl (aS zc182 (λb3=>aR 0 ty182 rfl rfl rfl rfl rfl rfl (aI ?_)))
  refine ew (bC (av (cN 0 ty182 rfl rfl rfl ?_)))
  refine aA (lv [(b3,zJ (xF (kf i)).toArray 182 (0,0)),(it,Obj.mapIter (some bk) clock ((vB (js.map bf)).push eborn) clock)] A1 rfl (hy (js.map kf) (kf i) [SE (kf i)] h2 A1 ⟨rest,hrest'⟩ hle2 hC1 rfl) rfl rfl (λh3 B hle3 hC3=>?_) (λh3 B hle3 hS3=>?_) (λch h3 B hle3 hP3 e'=>?_))
  .refine nF rfl (aI (pi rfl (aH (eX ?_))))
   have hpush:((vB (js.map bf)).push eborn)=vB ((js++[i]).map bf):=by simp[bf,hi]
   rw[hpush]
   refine ba (L':=[(it,Obj.mapIter (some bk) clock (vB ((js++[i]).map bf)) clock)]++B) (.cons _ (List.Sublist.refl _)) ?_
   refine ag (js++[i],B,h3) _ (by show es.length-(js++[i]).length<es.length-js.length;rw[xB];simp only[xA,jC];omega) ⟨hn',hl',by simpa using hC3,xG hle2 hle3⟩ ⟨rfl,rfl,trivial⟩
  .refine nF rfl (aI (lX rfl ?_))
   exact oO Oi (λa _ w _=>mP rfl a w) (λw hw=>hw.sub (List.sublist_append_right _ _)) (.inl ⟨rfl,.inr hS3⟩)
  .exact OG Oi (λw hw=>hw.sub (List.sublist_append_right _ _)) (.inr ⟨ch,rfl,hP3⟩)
end
variable {ass:Array Operand}{ats:Array TypeId}{f:FuncId}{vs:List Go.Value}
section
open Go.Proofs Go.Proofs.Tryz
abbrev KU{α : Type}(P:Program)(f:FuncId)(args:List Value)(h:HF)(R:Rp α)(E:TypeId)(S:List α->Prop):Prop:=
 oo P f args.toArray h [] (λr h' G=>∃xs bb c,S xs/\r=.returned (.slice bb xs.length c)/\cZ R E h' xs bb c G)
section steps
variable {P:Program} {b:Frame} {n:Nat} {ops:Array Oper} {F:List Frame->(Machine->Prop)->Prop} {e:Env} {ds:List Deferred} {X:Cx} {h:HF} {L:LH} {K:Env->HF->LH->Prop}
variable {d:Option Nat} {ty:TypeId} {pos:String} {af:Array Edge} {g:Option (Nat×Bool)}
theorem Bh{α:Type}{R:Rp α}{E:TypeId}{S:List α->Prop}(hc:∀args w,(callFunc f args).run P w=.ok (.enter f args) w)(hs:KU P f vs h R E S)(hvs:ass.toList.map e.ev=vs)(t':∀h' xs bb c G,h.le h'->S xs->cZ R E h' xs bb c G->K (pute e d (.slice bb xs.length c)) h' (L++G))(hg:guardB ops e ⟨d,.call ⟨.value (.func f),ass,ats⟩,ty,pos,af,g⟩=true:=by rfl):
  Stp P b n ops F ds X ⟨d,.call ⟨.value (.func f),ass,ats⟩,ty,pos,af,g⟩ e h L K:=by
 unfold Stp
 rw[if_pos hg]
 intro w hw
 have harr:ass.map e.ev=vs.toArray:=SN (by simp[←hvs])
 have hr:(execOp e.ev ⟨d,.call ⟨.value (.func f),ass,ats⟩,ty,pos,af,g⟩).run P w=.ok (.enter f vs.toArray) w:=by
  simp[execOp,resolve,Env.ev,xJ,invoke,harr,hc]
 rw[hr]
 refine lW (by simp) (jX (rL.mono (hs w (hw.sub (List.nil_sublist _)).pre) ?_))
 rintro x w' ⟨h',B,hst,xs,bb,c,hS,rfl,hG⟩
 exact⟨h',_,(St.after (A:=[]) (F:=L) hw hst).perm kH,t' h' xs bb c B hst.le hS hG⟩
end steps
theorem D1(h:HF)(it:Value)(S:List Int->Prop)(hit:Gm prog it (λ(k:Int)(_:HF)(vs:List Value)=>vs=[zD .i64 k]) S h)(hS:∀xs,S xs->xs.length<=1000000000000):KU prog 315 [.slice none 0 0,it] h kB 3 S:=by
 refine cH func315 rfl ntmps315 rfl λX hM hX=>?_
 refine ew (bC (bS (λb1=>gu (aI (ew (ew (bC (av (aI (mM (?_)))))))))))
 refine Hh (it:=it) (S:=S) (ps:=[7])
  (λdone h' L'=>∃gb gc G,L'=[(b1,zJ (vB [.slice gb done.length gc]) 31 (0,0))]++G/\cZ kB 3 h' done gb gc G)
  (λ_ _ _=>False) (λ_ _ _=>False) rfl hit rfl (λx h' vs hv=>by rw[hv];rfl) ?_ (λ_ _ _ _ _ hf=>hf) (λ_ _ _ _ _ hf=>hf) ⟨none,0,[],rfl,cZ.nil⟩ ?_ ?_ (λ_ _ _ _ _ hf=>hf.elim) (λ_ _ _ _ _ hf=>hf.elim)
 .rintro done h1 h2 B hl ⟨gb,gc,G,rfl,hG⟩;exact⟨gb,gc,G,rfl,hG.mono xH hl⟩
 .rintro l1 r1 lp1 done y vs hr L' X' ⟨rest,hrest⟩ hle ⟨gb,gc,G,rfl,hG⟩ hv hlp hX' hXM
  obtain rfl:=hv
  have hlen:=hS _ hrest
  simp only[xB,xA]at hlen
  refine bC (gu (aI ?_))
  refine j2 0 rfl hlp (mM (bC ?_))
  refine oB 2 ty31 rfl rfl rfl (av ?_)
  refine aA (aV (cells:=[.int .i64 y]) dy ty3 zc3 rfl rfl (by kernel_rfl) (λb3=>?_))
  refine aA (cd SL ([(b3,zJ (vB [.int .i64 y]) 3 (0,0)),(l1,.loop { lp1 with state:=.busy }),(r1,.deferred (some [])),(b1,zJ (vB [.slice gb done.length gc]) 31 (0,0))]) [] (λG=>[(b3,zJ (vB [.int .i64 y]) 3 (0,0)),(l1,.loop { lp1 with state:=.busy }),(r1,.deferred (some [])),(b1,zJ (vB [.slice gb done.length gc]) 31 (0,0))]++G) (G:=G) (show _=[(b3,zJ (vB [.int .i64 y]) 3 (0,0)),(l1,.loop { lp1 with state:=.busy }),(r1,.deferred (some [])),(b1,zJ (vB [.slice gb done.length gc]) 31 (0,0))]++(G++[])from by rw[List.append_nil];rfl) (λ_=>by first|rfl|simp only[kF]) dy ty3 zc3 rfl bytes3 hG rfl rfl (dX (ys:=[y]) 0 rfl (show aY kB hr [.int .i64 y] [y]from⟨[.int .i64 y],[],rfl,rfl,rfl,rfl⟩)) (by simp only[xB,xA,jC];omega) (by simp only[xB,xA,jC];omega) (λob2 oc2 G2 gr2=>?_))
  refine cK 3 ty31 rfl rfl rfl rfl rfl rfl (aI (eX ?_))
  refine ba (L':=(l1,.loop { lp1 with state:=.busy })::(r1,.deferred (some []))::([(b1,zJ (vB [.slice ob2 (done++[y]).length oc2]) 31 (0,0))]++G2)) (.cons _ (List.Sublist.refl _)) ?_
  exact Im rfl ⟨ob2,oc2,G2,rfl,gr2⟩
 .rintro r1 xs h2 L' hxs hle ⟨gb,gc,G,rfl,hG⟩
  refine eX (ew (bC (oB 1 ty31 rfl rfl rfl (gu (aI ?_)))))
  refine lL (L':=([(b1,zJ (vB [.slice gb xs.length gc]) 31 (0,0))]++G)++markB [r1]) (List.perm_append_singleton _ _).symm ?_
  exact vr [r1] func315 (λa ha w hw=>res1 rfl a ha w) (λw hw=>hw.sub (L':=G) (List.sublist_append_right _ _)) ⟨xs,gb,gc,hxs,rfl,hG⟩
theorem G0(h:HF)(it:Value)(S:List Int->Prop)(hit:Gm prog it (λ(k:Int)(_:HF)(vs:List Value)=>vs=[zD .i64 k]) S h)(hS:∀xs,S xs->xs.length<=1000000000000):KU prog 261 [it] h kB 3 S:=by
 refine cH func261 rfl ntmps261 rfl λX hM hX=>?_
 refine ew (bC (gu (aI (ew (bC (av ?_))))))
 refine aA (Bh call315 (D1 h it S hit hS) rfl (λh' xs bb c G hle hxs hG=>?_))
 refine gu (aI ?_)
 exact oO func261 (λa ha w hw=>res1 rfl a ha w) (λw hw=>hw.sub (L':=G) (List.sublist_append_right _ _)) ⟨xs,bb,c,hxs,rfl,hG⟩
theorem CX(h:HF)(it:Value)(S:List OSeat->Prop)(hit:Gm prog it (λ(k:OSeat)(_:HF)(vs:List Value)=>vs=[SE k]) S h)(hS:∀xs,S xs->xs.length<=1000000000000):KU prog 321 [.slice none 0 0,it] h Uy 182 S:=by
 refine cH func321 rfl ntmps321 rfl λX hM hX=>?_
 refine ew (bC (bS (λb1=>gu (aI (ew (ew (bC (av (aI (mM (?_)))))))))))
 refine Hh (it:=it) (S:=S) (ps:=[7])
  (λdone h' L'=>∃gb gc G,L'=[(b1,zJ (vB [.slice gb done.length gc]) 249 (0,0))]++G/\cZ Uy 182 h' done gb gc G)
  (λ_ _ _=>False) (λ_ _ _=>False) rfl hit rfl (λx h' vs hv=>by rw[hv];rfl) ?_ (λ_ _ _ _ _ hf=>hf) (λ_ _ _ _ _ hf=>hf) ⟨none,0,[],rfl,cZ.nil⟩ ?_ ?_ (λ_ _ _ _ _ hf=>hf.elim) (λ_ _ _ _ _ hf=>hf.elim)
 .rintro done h1 h2 B hl ⟨gb,gc,G,rfl,hG⟩;exact⟨gb,gc,G,rfl,hG.mono OSeat.aj hl⟩
 .rintro l1 r1 lp1 done y vs hr L' X' ⟨rest,hrest⟩ hle ⟨gb,gc,G,rfl,hG⟩ hv hlp hX' hXM
  obtain rfl:=hv
  have hlen:=hS _ hrest
  simp only[xB,xA]at hlen
  refine bC (aS zc182 (λb2=>aR 0 ty182 rfl rfl rfl rfl rfl rfl (aI ?_)))
  refine j2 1 rfl hlp (mM (bC ?_))
  refine oB 3 ty249 rfl rfl rfl (cN 0 ty182 rfl rfl rfl ?_)
  refine aA (aV (cells:=[.int .i64 y.office,.int .i64 y.person]) QV ty182 zc182 rfl rfl (by kernel_rfl) (λb3=>?_))
  refine aA (cd OSeat.eo ([(b3,zJ (vB [.int .i64 y.office,.int .i64 y.person]) 182 (0,0)),(b2,zJ (xF y).toArray 182 (0,0)),(l1,.loop { lp1 with state:=.busy }),(r1,.deferred (some [])),(b1,zJ (vB [.slice gb done.length gc]) 249 (0,0))]) [] (λG=>[(b3,zJ (vB [.int .i64 y.office,.int .i64 y.person]) 182 (0,0)),(b2,zJ (xF y).toArray 182 (0,0)),(l1,.loop { lp1 with state:=.busy }),(r1,.deferred (some [])),(b1,zJ (vB [.slice gb done.length gc]) 249 (0,0))]++G) (G:=G) (show _=[(b3,zJ (vB [.int .i64 y.office,.int .i64 y.person]) 182 (0,0)),(b2,zJ (xF y).toArray 182 (0,0)),(l1,.loop { lp1 with state:=.busy }),(r1,.deferred (some [])),(b1,zJ (vB [.slice gb done.length gc]) 249 (0,0))]++(G++[])from by rw[List.append_nil];rfl) (λ_=>by first|rfl|simp only[kF]) QV ty182 zc182 rfl bytes182 hG rfl rfl (dX (ys:=[y]) 0 rfl (show aY Uy hr [.int .i64 y.office,.int .i64 y.person] [y]from⟨[.int .i64 y.office,.int .i64 y.person],[],rfl,rfl,rfl,rfl⟩)) (by simp only[xB,xA,jC];omega) (by simp only[xB,xA,jC];omega) (λob2 oc2 G2 gr2=>?_))
  refine cK 4 ty249 rfl rfl rfl rfl rfl rfl (aI (eX ?_))
  refine ba (L':=(l1,.loop { lp1 with state:=.busy })::(r1,.deferred (some []))::([(b1,zJ (vB [.slice ob2 (done++[y]).length oc2]) 249 (0,0))]++G2)) (.cons _ (.cons _ (List.Sublist.refl _))) ?_
  exact Im rfl ⟨ob2,oc2,G2,rfl,gr2⟩
 .rintro r1 xs h2 L' hxs hle ⟨gb,gc,G,rfl,hG⟩
  refine eX (ew (bC (oB 1 ty249 rfl rfl rfl (gu (aI ?_)))))
  refine lL (L':=([(b1,zJ (vB [.slice gb xs.length gc]) 249 (0,0))]++G)++markB [r1]) (List.perm_append_singleton _ _).symm ?_
  exact vr [r1] func321 (λa ha w hw=>res1 rfl a ha w) (λw hw=>hw.sub (L':=G) (List.sublist_append_right _ _)) ⟨xs,gb,gc,hxs,rfl,hG⟩
theorem Gp(h:HF)(it:Value)(S:List OSeat->Prop)(hit:Gm prog it (λ(k:OSeat)(_:HF)(vs:List Value)=>vs=[SE k]) S h)(hS:∀xs,S xs->xs.length<=1000000000000):KU prog 273 [it] h Uy 182 S:=by
 refine cH func273 rfl ntmps273 rfl λX hM hX=>?_
 refine ew (bC (gu (aI (ew (bC (av ?_))))))
 refine aA (Bh call321 (CX h it S hit hS) rfl (λh' xs bb c G hle hxs hG=>?_))
 refine gu (aI ?_)
 exact oO func273 (λa ha w hw=>res1 rfl a ha w) (λw hw=>hw.sub (L':=G) (List.sublist_append_right _ _)) ⟨xs,bb,c,hxs,rfl,hG⟩
end
section
open Go.Proofs Go.Proofs.Tryz
theorem ze(h:HF)(it:Value)(ks:List Int)(hit:Gm prog it (λ(k:Int)(_:HF)(vs:List Value)=>vs=[zD .i64 k]) (λxs=>xs.Perm ks) h)(hk:ks.length<=1000000000000):
  i9 prog 168 [it] h (λv h'=>∃(b:Option Addr)(c:Nat),v=.slice b (sortI ks).length c/\SlC kB h' b c (sortI ks)):=by
 refine cH func168 rfl ntmps168 rfl λX hM hX=>?_
 refine ew (bC (gu (aI (ew (bC (av ?_))))))
 refine aA (Bh call261 (G0 h it _ hit (λxs hx=>by rw[hx.length_eq];exact hk)) rfl (λh' xs bb c G hle hxs hG=>?_))
 refine gu (aI (ew (bC (av ?_))))
 refine aA (nQ [] G [] Oh (nf h' xs bb c G hG (by rw[hxs.length_eq];exact hk)) (by simp) rfl (λG' hG'=>?_))
 refine aI (ew (bC (av (gu (aI ?_)))))
 refine eY xH [] G' [] (by simp) hM hG' (λh2 hle2 sl=>?_)
 refine ld [.slice bb xs.length c] func168 rfl ⟨rfl,trivial⟩ ⟨bb,c,?_,?_⟩
 .rw[←Jr hxs,iV];rfl
 .rw[←Jr hxs];exact sl
theorem yi(h:HF)(m:List (Int×Version))(Lv:Nat)(hm:tQ (zD .i64) (iZ zQ) h Lv m):i9 prog 169 [.map (some Lv)] h (λv h'=>Gm prog v (λ(k:Int)(_:HF)(vs:List Value)=>vs=[(zD .i64) k]) (λxs=>xs.Perm (m.map (·.1))) h'):=by
 refine cH func169 rfl ntmps169 rfl λX hM hX=>?_
 refine ew (bC (bS (λb1=>gu (aI (ew (bC ?_))))))
 refine aO 0 rfl hM (λh2 hle2 hb2=>?_)
 refine aA (eI rfl rfl ?_)
 refine gu (aI ?_)
 refine ld [.func (.func 262) #[] #[.pointer (some ⟨b1,0,none⟩)]] func169 rfl ⟨rfl,trivial⟩ ?_
 exact vY h2 m Lv ⟨b1,0,none⟩ (hm.mono (iZ.mono jN) hle2) (cz hb2)
theorem yj(h:HF)(m:List (OSeat×Appoint))(Lv:Nat)(hm:tQ SE (iZ vH) h Lv m):i9 prog 180 [.map (some Lv)] h (λv h'=>Gm prog v (λ(k:OSeat)(_:HF)(vs:List Value)=>vs=[SE k]) (λxs=>xs.Perm (m.map (·.1))) h'):=by
 refine cH func180 rfl ntmps180 rfl λX hM hX=>?_
 refine ew (bC (bS (λb1=>gu (aI (ew (bC ?_))))))
 refine aO 0 rfl hM (λh2 hle2 hb2=>?_)
 refine aA (eI rfl rfl ?_)
 refine gu (aI ?_)
 refine ld [.func (.func 275) #[] #[.pointer (some ⟨b1,0,none⟩)]] func180 rfl ⟨rfl,trivial⟩ ?_
 exact vZ h2 m Lv ⟨b1,0,none⟩ (hm.mono (iZ.mono zR) hle2) (cz hb2)
end
variable {P:Program}{pe:Int->Go.Value}{v:Go.Value}{x:Operand}{ρ:Type}
section
open Go.Proofs Go.Proofs.Tryz
set_option maxHeartbeats 2000000
theorem wV(h:HF)(l:List Interest)(dU:Option Addr)(dT:Nat)(eU:Int)(known:Int)(hl:SlC xK h dU dT l):i9 prog 113 [.slice dU l.length dT,I eU,I known] h (λv h'=>∃(rv0:Value),v=rv0/\Itr prog rv0 we (ce l eU known) h'):=by
 refine sT func113 U ntmps113 U λX hM hX hF=>?_
 have hs0:=@rfl _ (ce l eU known)
 refine sr (bS (λb1=>qO 4 U (aA (oK (λb2=>aS zc282 (λb3=>cK 0 ty282 U U U U U U (qL 8 [2] U ?_)))))))
 let z1:Nat×Obj:=(b1,O [.slice dU l.length dT] 24)
 let z2:Nat×Obj:=(b3,O [.map (some b2)] 282)
 refine lp2 l (λi w=>[(1,I eU),(2,I known),(3,Q b1),(7,Q b3),(14,.slice dU l.length dT),(15,I (l.length:Int)),(16,I (i:Int))]) (λ_=>h) (λw=>[z2,(b2,w.2),z1]) (λi w=>jY cS.enc (iZ xK) h w.2 w.1/\w.1.length<=0+i) (λs1 i w=>(ce.L1 eU known (ce.K1 l)) s1 w.1) ([],.map #[] 0) hl.1.1 hs0 ⟨(jY.nil (enc:=cS.enc) (V:=(iZ xK)) (h:=h)),lc⟩ ?_ ?_
 .rintro i1 ⟨bN,dS⟩ ft hs1 ⟨gG,FM⟩ e
  refine sr (aO 2 U hM (λh1 hle1 hb1=>aO 0 U hM (λh2 hle2 hb2=>aA (eI U U (an (eC 0 U hM (λh3 hle3 hb3=>?_)))))))
  have mc1:tQ cS.enc (iZ xK) h3 b2 bN:=⟨_,hb3,(gG.mono (iZ.mono vQ) (hle1.t hle2)).mono (iZ.mono vQ) hle3⟩
  have hs2:ce l eU known=(bA l bN):=hs1
  exact nretH [.func (.func 208) #[] #[Q b1,Q b3]] (hs2▸⟨(.func (.func 208) #[] #[Q b1,Q b3]),U,(uY h3 l dU dT ⟨b1,0,none⟩ bN b2 ⟨b3,0,none⟩ (hl.mono vQ ((hle1.t hle2).t hle3)) ((cz hb1).mono (hle2.t hle3)) mc1 ((cz hb2).mono hle3))⟩)
 rintro i1 ⟨bN,dS⟩ y1 rz1 hd1 cY aJ dY gy hs3 ⟨gG,FM⟩ hx1 ag1 e
 refine sr (tO cY U (qO 8 U (aA (iF xC pg ty97 hl.1 aJ U U U (λq2 A2=>dv ty97 A2 U U (aS zc97 (λb5=>aR 0 ty97 U U U U U U (qL 9 [0] U (bL 5 [24,25,26,27,28,29] 24 29 (decide (known<y1.Known)) U (λc1 hk1=>?_) (λe=>?_))))))))))
 .exact qL 5 [0] U (hk1 _ U)
 refine aI (ae hs3 U (λc2 hs4=>?_) (λc2 hs5=>?_))
 .exact lM U (bC (oi i1 U (qO 2 U (ba (L':=[z2,(b2,dS),z1]) js (ag1 (bN,dS) hs4 ⟨gG,lc⟩)))))
 refine qK 9 [0,0,0] U (aA (e9 (cells:=[I y1.Person,I y1.Party,.bool y1.Of]) (places:=[(0,1),(1,1),(2,1)]) Mj zc284 kr kr (aS zc284 (λb6=>aR 0 ty284 U U U U U U (qL 4 [2] U (cN 0 ty284 U U U (aA (lZ 3 (k:=(cS.mk y1.Person y1.Party y1.Of)) underlying282 uG U gG (fp zv97) (show(iZ xK) _ (.agg (vB [I 0,I 0,I 0,I 0,I 0,.bool false,.bool false])) (qW 0 0 0 0 0 false false)from⟨_,U,U⟩) U U (λv1 hv1=>?_)))))))))
 obtain⟨_,rfl,rfl⟩:=hv1
 refine qO 3 U (aS zc97 (λb7=>aR 0 ty97 U U U U U U (qO 7 U (bL 6 [45,46,47,48,49,50,51] 45 51 (decide ((mgetD bN (cS.mk y1.Person y1.Party y1.Of) (qW 0 0 0 0 0 false false)).At<=y1.At)) U (λc3 hk2=>?_) (λe=>?_)))))
 .exact qL 6 [2,0] U (hk2 _ U)
 refine aI (ae hs5 U (λc4 hs6=>?_) (λc4 hs7=>?_))
 .exact qK 2 [3] U (cN 1 ty284 U U U (cN 2 ty97 U U U (aA (ll 4 (k:=(cS.mk y1.Person y1.Party y1.Of)) (x:=y1) underlying282 uG U gG U U ⟨_,U,U⟩ (λmo1 hm1=>qO 3 U (oi i1 U (qO 2 U (ba (L':=[z2,(b2,mo1),z1]) js (ag1 ((mput bN (cS.mk y1.Person y1.Party y1.Of) y1),mo1) hs6 ⟨hm1,(by have:=nu bN (cS.mk y1.Person y1.Party y1.Of) y1;first|omega|(simp only[jC,xA]at *;omega))⟩)))))))))
 exact aH (qT 2 U (oi i1 U (qO 2 U (ba (L':=[z2,(b2,dS),z1]) js (ag1 (bN,dS) hs7 ⟨gG,lc⟩)))))
theorem vm.mono{h h':HF}(hl:h.le h'):∀{vs:List Value}{ws:List gZ},vm h vs ws->vm h' vs ws
 |[],[],_=>trivial
 |_::_,_::_,⟨⟨r,e,o⟩,t⟩=>⟨⟨r,e,o.mono hl⟩,vm.mono hl t⟩
 |[],_::_,x=>x.elim
 |_::_,[],x=>x.elim
theorem vm.snoc{h:HF}{v:Value}{w:gZ}(hw:∃r,v=.agg (gZ.cells w r).toArray/\gZ.ok h w r):∀{vs:List Value}{ws:List gZ},vm h vs ws->vm h (vs++[v]) (ws++[w])
 |[],[],_=>⟨hw,trivial⟩
 |_::_,_::_,⟨a,t⟩=>⟨a,vm.snoc hw t⟩
 |[],_::_,x=>x.elim
 |_::_,[],x=>x.elim
theorem vm.len{h:HF}:∀{vs:List Value}{ws:List gZ},vm h vs ws->vs.length=ws.length
 |[],[],_=>rfl
 |_::_,_::_,⟨_,t⟩=>by simp[vm.len t]
 |[],_::_,x=>x.elim
 |_::_,[],x=>x.elim
theorem mV(h:HF)(w:gZ)(RE:M9)(q1 q2:Addr)(bm bc:Nat)(om:Obj)(m:List (Int×Bool))(cap s r:Nat)(vs:List Value)(q:List gZ)(hw:gZ.ok h w RE)(a1:At h q1 [.map (some bm)])(a2:At h q2 [.chan (some bc)])(hm:jY (zD .i64) qe h om m)(hq:vm h vs q)(hroom:mgetD m w.to false=false->vs.length<cap):
  m7 prog (.func (.func 112) #[] #[.pointer (some q1),.pointer (some q2)]) #[.agg (gZ.cells w RE).toArray] h [(bm,om),(bc,.chan cap vs.toArray false s r false)]
   (λx h' B=>x=.returned (.tuple #[])/\h'=h/\∃om' vs' s',jY (zD .i64) qe h om' (conPut w m q).1/\vm h vs' (conPut w m q).2/\B=[(bm,om'),(bc,.chan cap vs'.toArray false s' r false)]):=by
 refine nO (args:=[.agg (gZ.cells w RE).toArray]) (cap:=[.pointer (some q1),.pointer (some q2)]) call112 (cH func112 U ntmps112 U λX hM hX=>sr (bS (λb1=>qO 3 U (dD ty56 a1 U (qL 2 [0] U (aA (rg 1 (k:=w.to) Og (fU ox) U hm (fp zv4) (show qe _ (.bool false) false from U) U U (λv hv=>?_))))))))
 obtain rfl:=hv
 cases hc:mgetD m w.to false with
 |true=>
  refine qO 4 U ?_
  have e1:conPut w m q=(m,q):=by simp[conPut,hc]
  refine xi func112 (λa ha w hw=>mP U a w) (λw hw=>(hw.sub (L':=[(bm,om),(bc,.chan cap vs.toArray false s r false)]) js).lower) ⟨U,hX,om,vs,s,?_,?_,U⟩
  .rw[e1];exact hm
  rw[e1];exact hq
 |false=>
  refine qO 3 U ?_
  have e1:conPut w m q=(mput m w.to true,q++[w]):=by simp[conPut,hc]
  refine sr (dD ty56 a1 U (qL 2 [0] U (aA (ll 1 (k:=w.to) (x:=true) Og (fU ox) U hm U U U (λom' hm'=>qO 2 U (dD ty194 a2 U (cN 0 ty196 U U U (Ro 2 U U U (hroom hc) (aI ?_)))))))))
  refine xi func112 (λa ha w hw=>mP U a w) (λww hww=>(hww.sub (L':=[(bm,om'),(bc,.chan cap (vs++[Value.agg (gZ.cells w RE).toArray]).toArray false (s+1) r false)]) js).lower) ⟨U,hX,om',vs++[.agg (gZ.cells w RE).toArray],s+1,?_,?_,U⟩
  .rw[e1];exact hm'
  rw[e1];exact vm.snoc ⟨RE,rfl,hw⟩ hq
theorem V3.mono:Af V3:=λ_ _ _ _ _ e=>e
theorem FR.mono{h h':HF}(hl:h.le h'):∀{m:List (Int×Option Addr×Nat×Nat)}{f:List (Int×List Interest)}{G:LH},FR h m f G->FR h' m f G
 |[],[],_,e=>e
 |(_,_)::_,(_,_)::_,_,⟨a,b,G1,G2,c,d,t⟩=>⟨a,b,G1,G2,c,d.mono vQ hl,FR.mono hl t⟩
 |[],(_,_)::_,_,x=>x.elim
 |(_,_)::_,[],_,x=>x.elim
theorem FR.get{h:HF}(k:Int):∀{m:List (Int×Option Addr×Nat×Nat)}{f:List (Int×List Interest)}{G:LH},FR h m f G ->
  ∃b c G1 G2,mgetD m k (none,0,0)=(b,(mgetD f k []).length,c)/\cZ xK 97 h (mgetD f k []) b c G1/\G.Perm (G1++G2) /\
   ∀b' c' xs' G1',cZ xK 97 h xs' b' c' G1'->∃G',FR h (mput m k (b',xs'.length,c')) (mput f k xs') G'/\G'.Perm (G1'++G2)
 |[],[],G,e=>by
  subst e
  refine⟨none,0,[],[],U,cZ.nil,List.Perm.refl _,λb' c' xs' G1' hG=>⟨G1',⟨U,U,G1',[],by simp,hG,U⟩,by simp⟩⟩
 |(k0,x)::m,(k',xs)::f,G,⟨e,hn,G1,G2,hG,hg,t⟩=>by
  subst e hG
  by_cases hk:k=k0
  .subst hk
   refine⟨x.1,x.2.2,G1,G2,?_,?_,List.Perm.refl _,λb' c' xs' G1' hG'=>⟨G1'++G2,?_,List.Perm.refl _⟩⟩
   .simp[mgetD,mget?,←hn]
   .simpa[mgetD,mget?]using hg
   simp only[mput,if_true]
   exact⟨U,U,G1',G2,U,hG',t⟩
  obtain⟨b,c,H1,H2,h1,h2,h3,h4⟩:=FR.get k t
  refine⟨b,c,H1,G1++H2,?_,?_,?_,λb' c' xs' G1' hG'=>?_⟩
  .simpa[mgetD,mget?,hk]using h1
  .simpa[mgetD,mget?,hk]using h2
  .refine(List.Perm.append_left G1 h3).trans ?_
   rw[←vD,←vD];exact List.Perm.append_right H2 kH
  obtain⟨G',g1,g2⟩:=h4 b' c' xs' G1' hG'
  refine⟨G1++G',?_,?_⟩
  .simp only[mput,hk,if_false]
   exact⟨U,hn,G1,G',U,hg,g1⟩
  refine(List.Perm.append_left G1 g2).trans ?_
  rw[←vD,←vD];exact List.Perm.append_right H2 kH
 |[],(_,_)::_,_,x=>x.elim
 |(_,_)::_,[],_,x=>x.elim
theorem FR.keys{h:HF}:∀{m:List (Int×Option Addr×Nat×Nat)}{f:List (Int×List Interest)}{G:LH},FR h m f G->m.map (·.1)=f.map (·.1)
 |[],[],_,_=>rfl
 |(_,_)::_,(_,_)::_,_,⟨a,_,_,_,_,_,t⟩=>by simp[a,FR.keys t]
 |[],(_,_)::_,_,x=>x.elim
 |(_,_)::_,[],_,x=>x.elim
theorem FR.mem{h:HF}:∀{m:List (Int×Option Addr×Nat×Nat)}{f:List (Int×List Interest)}{G:LH},FR h m f G->(m.map (·.1)).Nodup->∀p∈m,p.2.2.1=(mgetD f p.1 []).length/\∃G1,(∀q∈G1,q∈G)/\cZ xK 97 h (mgetD f p.1 []) p.2.1 p.2.2.2 G1
 |[],[],_,_,_,_,hp=>(vA hp).elim
 |(k,x)::m,(k',xs)::f,G,⟨e,hn,G1,G2,hG,hg,t⟩,hnd,p,hp=>by
  subst e hG
  rw[jJ,xR]at hnd
  rcases jB.1 hp with rfl|hp
  .exact⟨by simp[mgetD,mget?,hn],G1,λq hq=>kP _ hq,by simpa[mgetD,mget?]using hg⟩
  have hne:¬p.1=k:=λe=>hnd.1 (by have h9:=vN (f:=(·.1)) hp;rw[e]at h9;exact h9)
  obtain⟨h1,H,h2,h3⟩:=FR.mem t hnd.2 p hp
  exact⟨by simpa[mgetD,mget?,hne]using h1,H,λq hq=>qN _ (h2 q hq),by simpa[mgetD,mget?,hne]using h3⟩
 |[],(_,_)::_,_,x,_,_,_=>x.elim
 |(_,_)::_,[],_,x,_,_,_=>x.elim
theorem Ka{α : Type}:∀{f:List (Int×α)}(z:α),(f.map (·.1)).Nodup->f=f.map λp=>(p.1,mgetD f p.1 z)
 |[],_,_=>rfl
 |(k,x)::f,z,hn=>by
  rw[jJ,xR]at hn
  rw[jJ]
  congr 1
  .simp[mgetD,mget?]
  have ih:=Ka z hn.2
  conv=>lhs;rw[ih]
  apply List.map_congr_left
  intro p hp
  have hne:¬p.1=k:=λe=>hn.1 (by have h9:=vN (f:=(·.1)) hp;rw[e]at h9;exact h9)
  simp[mgetD,mget?,hne]
theorem KY{h:HF}{h2:HF}(g:Int->List Interest):∀{es:List MapEntry}{m:List (Int×Option Addr×Nat×Nat)},pN (zD .i64) V3 h es m ->
  (∀p∈m,p.2.2.1=(g p.1).length/\SlC xK h2 p.2.1 p.2.2.2 (g p.1))->pN (zD .i64) (VSl xK) h2 es (m.map λp=>(p.1,g p.1))
 |[],[],_,_=>trivial
 |e::es,(k,x)::m,⟨a,b,c⟩,hg=>by
  obtain⟨h1,h3⟩:=hg (k,x) (zB ..)
  refine⟨a,⟨x.1,x.2.2,?_,h3⟩,KY g c λp hp=>hg p (kA _ hp)⟩
  rw[show e.val=.slice x.1 x.2.1 x.2.2 from b,h1]
 |[],_::_,x,_=>x.elim
 |_::_,[],x,_=>x.elim
theorem FR.frozen{h2:HF}{o:Obj}{m:List (Int×Option Addr×Nat×Nat)}{f:List (Int×List Interest)}{G:LH}(hm:jY (zD .i64) V3 h o m)(hf:FR h m f G)(hl:h.le h2)(hG:∀p∈G,h2 p.1=some p.2):
  jY (zD .i64) (VSl xK) h2 o f:=by
 have hnd:=hm.nodup
 have hk:=hf.keys
 obtain⟨m',hp,hn,es,c,rfl,hE,h1,h3⟩:=hm
 have hmem:=hf.mem hnd
 have hfe:=Ka (f:=f) [] (hk▸hnd)
 have hfm:f=m.map λp=>(p.1,mgetD f p.1 []):=by
  have e1:(f.map λp=>(p.1,mgetD f p.1 []))=(f.map (·.1)).map λk=>(k,mgetD f k []):=by rw[List.map_map];rfl
  have e2:(m.map λp=>(p.1,mgetD f p.1 []))=(m.map (·.1)).map λk=>(k,mgetD f k []):=by rw[List.map_map];rfl
  rw[e2,hk,←e1];exact hfe
 refine⟨m'.map λp=>(p.1,mgetD f p.1 []),?_,?_,es,c,U,KY (λk=>mgetD f k []) hE λp hp'=>?_,h1,h3⟩
 .have hpm:=hp.map λp=>(p.1,mgetD f p.1 ([]:List Interest))
  rw[←hfm]at hpm;exact hpm
 .rw[List.map_map];exact hn
 obtain⟨h5,G1,h6,h7⟩:=hmem p (hp.mem_iff.1 hp')
 exact⟨h5,h7.frozen vQ hl λq hq=>hG q (h6 q hq)⟩
theorem F2(k:Int->Int):∀(l:List Int)(g:Int),cf.L1 k l g=0->(∀x∈l,g<x/\x<=1048576)/\l.Pairwise (·<·)/\∃g',k g'=0
 |[],g,h=>⟨λ_ h=>(vA h).elim,List.Pairwise.nil,g,h⟩
 |y::l,g,h=>by
  simp only[cf.L1,Bool.cond_eq_ite,kC,decide_eq_true_eq]at h
  split at h
  .omega
  next hc=>
  obtain⟨h1,h2,h3⟩:=F2 k l y h
  refine⟨λx hx=>?_,List.pairwise_cons.2 ⟨λx hx=>(h1 x hx).1,h2⟩,h3⟩
  rcases jB.1 hx with rfl|hx
  .omega
  have:=h1 x hx;omega
theorem DX{l:List Interest}{person:Int}{parties:List Int}{a b:Int}(h:cf l person parties a b=0):parties.Pairwise (·<=·)/\parties.length<=16:=by
 unfold cf at h
 rw[Bool.cond_eq_ite]at h
 split at h
 .next hc=>simp at hc;exact absurd h hc
 obtain⟨_,h2,g',h3⟩:=F2 _ _ _ h
 refine⟨h2.imp (λh=>Int.le_of_lt h),?_⟩
 unfold cf.K1 at h3
 rw[Bool.cond_eq_ite]at h3
 split at h3
 .omega
 next hc=>
 simp only[kC,not_or,decide_eq_true_eq]at hc
 omega
theorem sS(h:HF)(b:Option Addr)(n c:Nat)(hc:n<=c):Ret prog 115 [.slice b n c] h (.slice b n n):=by
 exact cH func115 U ntmps115 U λX hM hX=>qK 11 [] U (aA (fj (Ri dy ty3 U U U hc) (an (tR [.slice b n n] func115 U hX rd U))))
theorem wW(h:HF)(l:List Interest)(dU:Option Addr)(dT:Nat)(person:Int)(parties:List Int)(ij:Option Addr)(ii:Nat)(bw known:Int)(hl:SlC xK h dU dT l)(hparties:SlC kB h ij ii parties)(hsz:l.length<=2000000):
  i9 prog 31 [.slice dU l.length dT,I person,.slice ij parties.length ii,I bw,I known] h
   (λv h'=>∃(rb0:Option Addr)(rc0:Nat),v=.tuple #[.slice rb0 ((eJ l person parties bw known).1.length) rc0,.bool ((eJ l person parties bw known).2.1),I ((eJ l person parties bw known).2.2)]/\SlC kB h' rb0 rc0 ((eJ l person parties bw known).1)):=by
 refine cH Md U ntmps31 U λX hM hX=>sr (bS (λb1=>qL 12 [0] U (ai (v:=I (cf l person parties bw known)) call111 (yn h l dU dT person parties ij ii bw known hl hparties) U (qO 7 U (j1 U (λc1=>?_) (λc1=>?_))))))
 .have e1:eJ l person parties bw known=([],false,cf l person parties bw known):=by unfold eJ;rw[c1];rfl
  exact sr (qO 5 U (ld [.slice none 0 0,.bool false,I (cf l person parties bw known)] Md U rd ⟨none,0,by rw[e1];rfl,by rw[e1];exact vE⟩))
 have hex:cf l person parties bw known=0:=by simpa using c1
 obtain⟨hps,hpl⟩:=DX hex
 have e1:eJ l person parties bw known=((conFind l person parties (ce l bw known)).1,(conFind l person parties (ce l bw known)).2,0):=by unfold eJ;rw[c1];rfl
 rw[e1]
 have hstl:=Jn l bw known
 generalize hst:ce l bw known=st at hstl
 refine qT 3 U (aA (oK (λbf=>aS zc193 (λb14=>cK 0 ty193 U U U U U U (qO 3 U (aA (oK (λbm=>aS zc56 (λb15=>cK 0 ty56 U U U U U U (qL 5 [] U (aA (OV underlying194 bytes196 U ob (by decide) (λbc=>aS zc194 (λb16=>cK 0 ty194 U U U U U U (qO 3 U (aA (eI U U (aS zc197 (λb17=>cK 0 ty197 U U U U U U (aI (eC 0 U hM (λh1 l1 f17=>eC 0 U hM (λh2 l2 f16=>eC 1 U hM (λh3 l3 f15=>eC 2 U hM (λh4 l4 f14=>eC 3 U hM (λh5 l5 f1=>?_))))))))))))))))))))))))))
 have a17:=(cz f17).mono (l2.t (l3.t (l4.t l5)))
 have a16:=(cz f16).mono (l3.t (l4.t l5))
 have a15:=(cz f15).mono (l4.t l5)
 have a14:=(cz f14).mono l5
 have a1:=cz f1
 have l05:h.le h5:=xG l1 (l2.t (l3.t (l4.t l5)))
 clear f17 f16 f15 f14 f1 l1 l2 l3 l4 l5
 refine qT 6 U (aA (cC call113 (wV h5 l dU dT bw known (hl.mono vQ l05)) U (λv1 h6 l6 hp1=>?_)))
 obtain⟨_,rfl,hit⟩:=hp1
 rw[hst]at hit
 refine qO 2 U (ej ?_)
 refine ke (it:=v1) (xs:=st) (ι:=List (Int×List Interest)×List (Int×Bool)×List gZ×List Value×Nat×Obj×List (Int×Option Addr×Nat×Nat)×Obj×LH×HF) [] (λi=>i.2.2.2.2.2.2.2.2.2)
  (λi=>[(bc,.chan l.length i.2.2.2.1.toArray false i.2.2.2.2.1 0 false),(bm,i.2.2.2.2.2.1),(bf,i.2.2.2.2.2.2.2.1)]++i.2.2.2.2.2.2.2.2.1)
  (λrest i=>(conFill person rest i.1 i.2.1 i.2.2.1=conFill person st [] [] []/\(∀x∈rest,x∈st))/\(vm i.2.2.2.2.2.2.2.2.2 i.2.2.2.1 i.2.2.1/\jY (zD .i64) qe i.2.2.2.2.2.2.2.2.2 i.2.2.2.2.2.1 i.2.1/\jY (zD .i64) V3 i.2.2.2.2.2.2.2.2.2 i.2.2.2.2.2.2.2.1 i.2.2.2.2.2.2.1/\FR i.2.2.2.2.2.2.2.2.2 i.2.2.2.2.2.2.1 i.1 i.2.2.2.2.2.2.2.2.1)/\(vo st i.2.1 i.2.2.1/\Na st i.1)/\h6.le i.2.2.2.2.2.2.2.2.2/\(∀k,(mgetD i.1 k []).length+rest.length<=l.length))
  (λ_=>False) (λ_=>False) 0 (λ_ _ _=>False) ([],[],[],[],0,.map #[] 0,[],.map #[] 0,[],h6) Md rfl hit rfl CA (λ_ _ _ _ _ hq=>hq) rfl rfl
  ⟨⟨rfl,λ_ hx=>hx⟩,⟨trivial,jY.nil,jY.nil,rfl⟩,⟨⟨λ_ hp=>(vA hp).elim,vG _,λ_ hp=>(vA hp).elim⟩,λ_ _ hx=>(vA hx).elim⟩,qQ _,λk=>by simp[mgetD,mget?];exact hstl⟩ ?_ ?_ (λ_ _ _ hF=>hF.elim) (λ_ _ _ hF=>hF.elim) (λ_ _ _ _ hF=>hF.elim)
 .rintro l1 r1 lp1 x rest vs1 ⟨f,m,q,vs,s,om,m3,o3,Gf,hh⟩ h7 X' hFR ⟨⟨hfill,hin⟩,⟨hwy,hmm,hm3,hfr⟩,⟨hgq,hgf⟩,h6h,hlen⟩ h67 hh7 hv hX' hXM hlp nx rt ex pn
  dsimp only at hfill hin hwy hmm hm3 hfr hgq hgf h6h hh7 hlen
  obtain rfl:=hv
  have hxst:x∈st:=hin x (zB ..)
  have hin':∀y∈rest,y∈st:=λy hy=>hin y (kA _ hy)
  have h57:h5.le h7:=xG l6 h67
  replace hwy:=hwy.mono hh7
  replace hmm:=hmm.mono qe.mono hh7
  replace hm3:=hm3.mono V3.mono hh7
  replace hfr:=hfr.mono hh7
  have h67':h6.le h7:=h67
  clear hh7 h6h
  refine bC (aS zc97 (λb18=>aR 0 ty97 U U U U U U (aI (j2 1 U hlp (qT 2 U (bW (L':=[(b18,.cells (xC x).toArray 97 (0,0)),(l1,.loop { lp1 with state:=.busy }),(r1,.deferred (some [])),(bc,.chan l.length vs.toArray false s 0 false),(bm,om),(bf,o3)]++Gf) (by simp[markB,setNth]) (qK 6 [0] U (j1 U (λcO=>?_) (λcO=>?_)))))))))
  .obtain⟨gb,gc,G1,G2,hget,hgrow,hperm,hput⟩:=hfr.get x.Person
   have hlx:=hlen x.Person
   simp only[xA]at hlx
   have hnext:conFill person rest (mput f x.Person (mgetD f x.Person []++[x])) m q=conFill person st [] [] []:=by
    rw[←hfill];simp[conFill,cO]
   have hlen':∀k,(mgetD (mput f x.Person (mgetD f x.Person []++[x])) k []).length+rest.length<=l.length:=λk=>by
    rw[tg]
    split
    .simp only[xB,xA,jC];omega
    have:=hlen k;simp only[xA]at this;omega
   have fin:∀(e':Env)(b8:Nat)(o8:Obj)(o3':Obj)(gb':Option Addr)(gc':Nat)(G1':LH),cZ xK 97 h7 (mgetD f x.Person []++[x]) gb' gc' G1'->jY (zD .i64) V3 h7 o3' (mput m3 x.Person (gb',(mgetD f x.Person []++[x]).length,gc')) ->
     TT prog (roundFrame l1 31) 111 [.inBlock 2,.inBlock 1] hFR e' [] X' h7 ([(b8,o8),(b18,.cells (xC x).toArray 97 (0,0)),(l1,.loop { lp1 with state:=.busy }),(r1,.deferred (some [])),(bc,.chan l.length vs.toArray false s 0 false),(bm,om),(bf,o3')]++(G2++G1')):=by
    intro e' b8 o8 o3' gb' gc' G1' hG' hm'
    obtain⟨G',hfr',hp'⟩:=hput gb' gc' _ G1' hG'
    exact eX (eX (ba (L':=[(l1,.loop { lp1 with state:=.busy }),(r1,.deferred (some [])),(bc,.chan l.length vs.toArray false s 0 false),(bm,om),(bf,o3')]++(G2++G1')) js (lL (L':=[(l1,.loop { lp1 with state:=.busy }),(r1,.deferred (some [])),(bc,.chan l.length vs.toArray false s 0 false),(bm,om),(bf,o3')]++G') (List.Perm.append_left _ (List.perm_append_comm.trans hp'.symm)) (bW (L':=rdH l1 r1 lp1 (([(bc,.chan l.length vs.toArray false s 0 false),(bm,om),(bf,o3')]++G')++markB [])) (by simp[markB]) (nx (mput f x.Person (mgetD f x.Person []++[x]),m,q,vs,s,om,mput m3 x.Person (gb',(mgetD f x.Person []++[x]).length,gc'),o3',G',h7) _ _ ⟨⟨hnext,hin'⟩,⟨hwy,hmm,hm',hfr'⟩,⟨hgq,hgf.put hxst⟩,h67',hlen'⟩ lf)))))
   have hJ:∀{L:LH},Jst h7 [(b18,.cells (xC x).toArray 97 (0,0))] h7 ((b18,.cells (xC x).toArray 97 (0,0))::L):=BA js
   have hJ2:∀{L:LH}{p:Nat×Obj},Jst h7 [(b18,.cells (xC x).toArray 97 (0,0))] h7 (p::(b18,.cells (xC x).toArray 97 (0,0))::L):=BA js
   refine eh [(b18,.cells (xC x).toArray 97 (0,0))] mixed kr hJ (λhsep _=>?_)
   refine iJ 0 hsep hJ U U kr U (rh ty193 (a14.mono h57) U) (iJ 1 hsep hJ U U kr U (λ_ _ _=>tc MT U) (iJ 2 hsep hJ U U kr U (rj 0 ty3 U U U) (iJ 3 hsep hJ U U kr U (rh ty193 (a14.mono h57) U) (iJ 4 hsep hJ U U kr U (λ_ _ _=>tc MT U) (iJ 5 hsep hJ U U kr U (rj 0 ty3 U U U) (iJ 7 hsep hJ U U kr U (λ_ _ hj=>i7 ty97 U (hj.nth (i:=0) U) U) ?_))))))
   refine lY 6 8 kr U U ?_ ?_
   .refine rg 5 (k:=x.Person) Mc (fU ox) U hm3 (fp zv24) (show V3 _ (.slice none 0 0) (none,0,0)from U) U U (λv hv=>?_)
    rw[hget]at hv
    obtain rfl:=hv
    exact⟨hJ,tn 8 U (aV (cells:=xC x) pg ty97 zc97 U U kr (λb8=>⟨hJ2,tn 9 U (EI (List.Perm.append_left ([(b8,.cells (xC x).toArray 97 (0,0)),(b18,.cells (xC x).toArray 97 (0,0)),(l1,.loop { lp1 with state:=.busy }),(r1,.deferred (some [])),(bc,.chan l.length vs.toArray false s 0 false),(bm,om),(bf,o3)]:LH) hperm) (cd Interest.eo [(b8,.cells (xC x).toArray 97 (0,0)),(b18,.cells (xC x).toArray 97 (0,0)),(l1,.loop { lp1 with state:=.busy }),(r1,.deferred (some [])),(bc,.chan l.length vs.toArray false s 0 false),(bm,om),(bf,o3)] G2 (λG=>[(b8,.cells (xC x).toArray 97 (0,0)),(b18,.cells (xC x).toArray 97 (0,0)),(l1,.loop { lp1 with state:=.busy }),(r1,.deferred (some [])),(bc,.chan l.length vs.toArray false s 0 false),(bm,om),(bf,o3)]++(G2++G)) U (λ_=>U) pg ty97 zc97 U bytes97 hgrow U U (dX 0 U (show aY xK h7 (xC x) [x]from⟨xC x,[],by simp,U,U,U⟩)) lo lo (λgb' gc' G1' hG'=>⟨hJ2,tn 10 U (ll 6 (k:=x.Person) (x:=(gb',(mgetD f x.Person []++[x]).length,gc')) Mc (fU ox) U hm3 U U U (λo3' hm'=>⟨hJ2,aG kr (fin _ b8 _ o3' gb' gc' G1' hG' hm')⟩))⟩)))⟩))⟩
   refine aV (cells:=xC x) pg ty97 zc97 U U kr (λb8=>⟨hJ2,tn 6 U (rg 6 (k:=x.Person) Mc (fU ox) U hm3 (fp zv24) (show V3 _ (.slice none 0 0) (none,0,0)from U) U U (λv hv=>?_))⟩)
   rw[hget]at hv
   obtain rfl:=hv
   exact⟨hJ2,tn 9 U (EI (List.Perm.append_left ([(b8,.cells (xC x).toArray 97 (0,0)),(b18,.cells (xC x).toArray 97 (0,0)),(l1,.loop { lp1 with state:=.busy }),(r1,.deferred (some [])),(bc,.chan l.length vs.toArray false s 0 false),(bm,om),(bf,o3)]:LH) hperm) (cd Interest.eo [(b8,.cells (xC x).toArray 97 (0,0)),(b18,.cells (xC x).toArray 97 (0,0)),(l1,.loop { lp1 with state:=.busy }),(r1,.deferred (some [])),(bc,.chan l.length vs.toArray false s 0 false),(bm,om),(bf,o3)] G2 (λG=>[(b8,.cells (xC x).toArray 97 (0,0)),(b18,.cells (xC x).toArray 97 (0,0)),(l1,.loop { lp1 with state:=.busy }),(r1,.deferred (some [])),(bc,.chan l.length vs.toArray false s 0 false),(bm,om),(bf,o3)]++(G2++G)) U (λ_=>U) pg ty97 zc97 U bytes97 hgrow U U (dX 0 U (show aY xK h7 (xC x) [x]from⟨xC x,[],by simp,U,U,U⟩)) lo lo (λgb' gc' G1' hG'=>⟨hJ2,tn 10 U (ll 6 (k:=x.Person) (x:=(gb',(mgetD f x.Person []++[x]).length,gc')) Mc (fU ox) U hm3 U U U (λo3' hm'=>⟨hJ2,aG kr (fin _ b8 _ o3' gb' gc' G1' hG' hm')⟩))⟩)))⟩
  refine qK 4 [0] U (dD ty3 (a1.mono h57) U (qO 3 U ?_))
  have hlen':∀k,(mgetD f k []).length+rest.length<=l.length:=λk=>by have:=hlen k;simp only[xA]at this;omega
  refine j1 U (λcP=>?_) (λcP=>?_)
  .have hnext:conFill person rest f (conPut ⟨[x.No],x.Party⟩ m q).1 (conPut ⟨[x.No],x.Party⟩ m q).2=conFill person st [] [] []:=by
    rw[←hfill];simp only[conFill,cO,cond_false,cP,cond_true]
   have hpty:(gZ.mk [x.No] x.Party).to∈st.map (·.Party):=vN hxst
   refine bC (dD ty197 (a17.mono h57) U (qL 2 [0] U (aA (Nt (cells:=[I x.No]) hXM dy ty3 zc3 U U kr (λb65 hb65=>Ew 0 U hb65 (λh8 l8 f8=>?_))))))
   have sl8:SlC kB h8 (some ⟨b65,0,none⟩) 1 [x.No]:=aY.slB0 (T:=3) (fz:=(0,0)) (show aY kB h8 [I x.No] [x.No]from⟨[I x.No],[],rfl,rfl,rfl,rfl⟩) f8
   refine qL 2 [0] U (aA (e9 (cells:=gZ.cells ⟨[x.No],x.Party⟩ ⟨some ⟨b65,0,none⟩,1⟩) (places:=[(0,1),(1,1)]) underlying196 zc196 kr kr ?_))
   refine aA (Ig (vs:=[.agg (gZ.cells ⟨[x.No],x.Party⟩ ⟨some ⟨b65,0,none⟩,1⟩).toArray]) [(bm,om),(bc,.chan l.length vs.toArray false s 0 false)] ([(b18,.cells (xC x).toArray 97 (0,0)),(l1,.loop { lp1 with state:=.busy }),(r1,.deferred (some [])),(bf,o3)]++Gf) ?_
    (mV h8 ⟨[x.No],x.Party⟩ ⟨some ⟨b65,0,none⟩,1⟩ ⟨b15,0,none⟩ ⟨b16,0,none⟩ bm bc om m l.length s 0 vs q ⟨sl8⟩ (a15.mono (h57.t l8)) (a16.mono (h57.t l8)) (hmm.mono qe.mono l8) (hwy.mono l8) (λhno=>by rw[hwy.len];exact yC hgq hmm.nodup hpty hstl hno)) rfl rfl (λB hB=>?_))
   .exact yO [(b18,.cells (xC x).toArray 97 (0,0)),(l1,.loop { lp1 with state:=.busy }),(r1,.deferred (some []))] ((bf,o3)::Gf) (bc,.chan l.length vs.toArray false s 0 false) (bm,om)
   obtain⟨om',vs',s',hm',hw',rfl⟩:=hB
   refine qO 3 U (ba (L':=[(bm,om'),(bc,.chan l.length vs'.toArray false s' 0 false)]++([(l1,.loop { lp1 with state:=.busy }),(r1,.deferred (some [])),(bf,o3)]++Gf)) js ?_)
   refine lL (L':=rdH l1 r1 lp1 (([(bc,.chan l.length vs'.toArray false s' 0 false),(bm,om'),(bf,o3)]++Gf)++markB [])) ?_ ?_
   .rw[show markB []=([]:LH)from rfl,List.append_nil]
    exact(yO [(l1,Obj.loop { lp1 with state:=.busy }),(r1,.deferred (some []))] ((bf,o3)::Gf) (bc,.chan l.length vs'.toArray false s' 0 false) (bm,om')).symm
   exact nx (f,(conPut ⟨[x.No],x.Party⟩ m q).1,(conPut ⟨[x.No],x.Party⟩ m q).2,vs',s',om',m3,o3,Gf,h8) _ _ ⟨⟨hnext,hin'⟩,⟨hw',hm',hm3.mono V3.mono l8,hfr.mono l8⟩,⟨un hgq hpty (by simp),hgf⟩,xG h67' l8,hlen'⟩ lf
  have hnext:conFill person rest f m q=conFill person st [] [] []:=by
   rw[←hfill];simp only[conFill,cO,cond_false,cP]
  exact aH (qT 2 U (ba (L':=[(l1,.loop { lp1 with state:=.busy }),(r1,.deferred (some [])),(bc,.chan l.length vs.toArray false s 0 false),(bm,om),(bf,o3)]++Gf) js (bW (L':=rdH l1 r1 lp1 (([(bc,.chan l.length vs.toArray false s 0 false),(bm,om),(bf,o3)]++Gf)++markB [])) (by simp[markB]) (nx (f,m,q,vs,s,om,m3,o3,Gf,h7) _ _ ⟨⟨hnext,hin'⟩,⟨hwy,hmm,hm3,hfr⟩,⟨hgq,hgf⟩,h67',hlen'⟩ lf))))
 rintro dm ⟨f,m0,q0,vs0,s0,om0,m3,o3,Gf,hh⟩ h7 ⟨⟨hfill,_⟩,⟨hwy,hmm,hm3,hfr⟩,⟨hgq,hgf⟩,h6h,hlen⟩ hh7 h67
 dsimp only at hfill hwy hmm hm3 hfr hgq hgf h6h hh7 hlen
 refine eX (eC 2 U hM (λh8 l8 f8=>Et [(bc,.chan l.length vs0.toArray false s0 0 false),(bm,om0)] Gf (markB [dm]) U hM (λh9 l9 hG9=>?_)))
 have h89:hh.le h9:=xG hh7 (l8.t l9)
 have hmF:jY (zD .i64) (VSl xK) h9 o3 f:=FR.frozen hm3 hfr h89 hG9
 have hbf:h9 bf=some o3:=l9 _ _ f8
 have h59:h5.le h9:=xG l6 (h67.t (l8.t l9))
 replace a14:=a14.mono h59
 replace a15:=a15.mono h59
 replace a16:=a16.mono h59
 replace a17:=a17.mono h59
 have hpar:=(hparties.mono xH l05).mono xH h59
 have hcf:conFind l person parties st=conLoop parties f (l.length+1) m0 q0:=by
  unfold conFind;rw[←hfill];rfl
 have hwy0:=hwy.mono h89
 have hmm0:=hmm.mono qe.mono h89
 clear hwy hmm hm3 hfr hG9 l8 f8 h6h hh7 h67 hfill a1
 generalize hCF:conFind l person parties st=CF at hcf
 refine ew ?_
 refine iT (ι:=List Value×Nat×Nat×Obj×HF) (λi=>[]) (λi=>i.2.2.2.2) (λi=>[(bc,.chan l.length i.1.toArray false i.2.1 i.2.2.1 false),(bm,i.2.2.2.1)]++markB [dm]) (λi=>CF=([],false)) ?_ (λhx=>?_)
 .rintro⟨vs,s,r,om,hh⟩ hc e
  exact sr (qO 4 U (re [dm] [.slice none 0 0,.bool false,I 0] Md U rd ⟨none,0,by rw[hc];rfl,by rw[hc];exact vE⟩))
 refine ls (ι:=Nat×List (Int×Bool)×List gZ×List Value×Nat×Nat×Obj×HF) (λi=>[(2,.slice ij parties.length ii),(14,Q b14),(16,Q b16),(17,Q b17)]) (λi=>i.2.2.2.2.2.2.2)
  (λi=>[(bc,.chan l.length i.2.2.2.1.toArray false i.2.2.2.2.1 i.2.2.2.2.2.1 false),(bm,i.2.2.2.2.2.2.1)]++markB [dm])
  (λi=>CF=conLoop parties f i.1 i.2.1 i.2.2.1/\i.2.2.1.length+(l.length-i.2.1.length)<i.1/\vm i.2.2.2.2.2.2.2 i.2.2.2.1 i.2.2.1/\jY (zD .i64) qe i.2.2.2.2.2.2.2 i.2.2.2.2.2.2.1 i.2.1/\vo st i.2.1 i.2.2.1/\h9.le i.2.2.2.2.2.2.2)
  (λi=>i.1) (l.length+1,m0,q0,vs0,s0,0,om0,h9) rd (λw hw=>hw) ⟨hcf,?_,hwy0,hmm0,hgq,qQ _⟩ ?_
 .show q0.length+(l.length-m0.length)<l.length+1
  have:=hgq.2.1;have:=Pa hgq hmm0.nodup;omega
 clear hcf hwy0 hmm0 hgq
 rintro⟨n,m,q,vs,s,r,om,hh⟩ ⟨hcf,hn,hwy,hmm,hgq,h9h⟩ ag e
 dsimp only at hcf hn hwy hmm hgq h9h
 obtain⟨n,rfl⟩:∃n',n=n'+1:=⟨n-1,by omega⟩
 refine qT 3 U (dD ty194 (a16.mono h9h) U (aA (fj (Rg underlying194 (zB ..) U) ?_)))
 rcases q with _|⟨w,q⟩
 .have hv0:vs=[]:=List.eq_nil_of_length_eq_zero hwy.len
  subst hv0
  exact j9 (v':=.bool false) U U (qO 3 U (hx ([],s,r,om,hh) _ hcf trivial))
 rcases vs with _|⟨v,vs⟩
 .exact hwy.elim
 obtain⟨⟨wr,rfl,hok⟩,hwy⟩:=hwy
 refine tO (decide_eq_true (by simp)) U (qO 6 U (dD ty194 (a16.mono h9h) U (Rq 0 underlying194 zv196 U U (aS zc196 (λb19=>aR 0 ty196 U U U U U U (qL 7 [0] U (ai (v:=.tuple #[I (slices_BinarySearch_int parties w.to).1,.bool (slices_BinarySearch_int parties w.to).2]) call114 (nP hh parties ij ii w.to (hpar.mono xH h9h) hps ob) U (qO 10 U ?_))))))))
 have hgq':vo st m q:=⟨hgq.1,by have:=hgq.2.1;simp only[xA]at this;omega,λw' hw'=>hgq.2.2 w' (kA _ hw')⟩
 have hw8:=hgq.2.2 w (zB ..)
 simp only[xA]at hn
 refine j1 U (λcF=>?_) (λcF=>?_)
 .have hc2:CF=(w.path,true):=by
   rw[hcf];simp only[conLoop];rw[show parties.contains w.to=true from cF];rfl
  exact qK 8 [0] U (ba (L':=[(bc,.chan l.length vs.toArray false s (r+1) false),(bm,om)]++markB [dm]) js (re [dm] [.slice wr.xY w.path.length wr.Au,.bool true,I 0] Md U rd ⟨wr.xY,wr.Au,by rw[hc2];rfl,by rw[hc2];exact hok.path⟩))
 have hc2:CF=(bif(w.path.length:Int)==8 then conLoop parties f n m q else conLoop parties f n (conStep w.path (mgetD f w.to []) m q).1 (conStep w.path (mgetD f w.to []) m q).2):=by
  rw[hcf];simp only[conLoop];rw[show parties.contains w.to=false from cF];rfl
 refine qK 9 [0] U (j1 U (λc8=>?_) (λc8=>?_))
 .rw[show((w.path.length:Int)==8)=true from c8]at hc2
  exact lM U (ba (L':=[(bc,.chan l.length vs.toArray false s (r+1) false),(bm,om)]++markB [dm]) js (ag (n,m,q,vs,s,r+1,om,hh) _ (Nat.lt_succ_self _) ⟨hc2,by show q.length+(l.length-m.length)<n;omega,hwy,hmm,hgq',h9h⟩ rd))
 rw[show((w.path.length:Int)==8)=false from c8]at hc2
 refine qT 3 U (dD ty193 (a14.mono h9h) U (qL 2 [0] U (aA (od (k:=w.to) Mc (fU ox) (h9h _ _ hbf) (hmF.mono (VSl.mono vQ) h9h) (fp zv24) (show VSl xK _ (.slice none 0 0) []from⟨none,0,U,vE⟩) U U (λv hv=>?_)))))
 obtain⟨xb,xc,rfl,slx⟩:=hv
 have hxs:∀y∈mgetD f w.to [],y∈st:=hgf w.to
 generalize mgetD f w.to []=xs at slx hc2 hxs
 refine qL 3 [] U ?_
 have hw7:w.path.length+1<=8:=by simp at c8;omega
 have hsum:=BV (path:=w.path) hstl hw7 hxs hgq' hmm.nodup
 generalize hcs:conStep w.path xs m q=CS at hc2 hsum
 refine iT (ι:=List Value×Nat×Obj×HF) (λi=>[(2,.slice ij parties.length ii),(14,Q b14),(16,Q b16),(17,Q b17)]) (λi=>i.2.2.2) (λi=>[(b19,.cells (gZ.cells w wr).toArray 196 (0,0)),(bc,.chan l.length i.1.toArray false i.2.1 (r+1) false),(bm,i.2.2.1)]++markB [dm])
  (λi=>vm i.2.2.2 i.1 CS.2/\jY (zD .i64) qe i.2.2.2 i.2.2.1 CS.1/\vo st CS.1 CS.2/\hh.le i.2.2.2) ?_ (λhx2=>?_)
 .rintro⟨vs2,s2,om2,h10⟩ ⟨hw2,hm2,hg2,hle2⟩ e2
  exact eX (ba (L':=[(bc,.chan l.length vs2.toArray false s2 (r+1) false),(bm,om2)]++markB [dm]) js (ag (n,CS.1,CS.2,vs2,s2,r+1,om2,h10) _ (Nat.lt_succ_self _) ⟨hc2,by show CS.2.length+(l.length-CS.1.length)<n;omega,hw2,hm2,hg2,xG h9h hle2⟩ rd))
 refine ls (ι:=Nat×List (Int×Bool)×List gZ×List Value×Nat×Obj×HF×List Interest) (λi=>[(2,.slice ij parties.length ii),(14,Q b14),(16,Q b16),(17,Q b17),(19,Q b19),(92,.slice xb xs.length xc),(93,I (xs.length:Int)),(94,I (i.1:Int))]) (λi=>i.2.2.2.2.2.2.1)
  (λi=>[(b19,.cells (gZ.cells w wr).toArray 196 (0,0)),(bc,.chan l.length i.2.2.2.1.toArray false i.2.2.2.2.1 (r+1) false),(bm,i.2.2.2.2.2.1)]++markB [dm])
  (λi=>xs.drop i.1=i.2.2.2.2.2.2.2/\conStep w.path i.2.2.2.2.2.2.2 i.2.1 i.2.2.1=CS/\vm i.2.2.2.2.2.2.1 i.2.2.2.1 i.2.2.1/\jY (zD .i64) qe i.2.2.2.2.2.2.1 i.2.2.2.2.2.1 i.2.1/\vo st i.2.1 i.2.2.1/\hh.le i.2.2.2.2.2.2.1)
  (λi=>i.2.2.2.2.2.2.2.length) (0,m,q,vs,s,om,hh,xs) rd (λw hw=>hw) ⟨rfl,hcs,hwy,hmm,hgq',qQ _⟩ ?_
 rintro⟨i1,m2,q2,vs2,s2,om2,h10,rest⟩ ⟨hd1,hcs2,hw2,hm2,hg2,hle2⟩ ag2 e2
 dsimp only at hd1 hcs2 hw2 hm2 hg2 hle2
 rcases rest with _|⟨x,rest⟩
 .have hge:=oC hd1
  refine sr (fO hge U (qO 4 U ?_))
  obtain rfl:(m2,q2)=CS:=hcs2
  exact hx2 (vs2,s2,om2,h10) _ ⟨hw2,hm2,hg2,hle2⟩ rd
 have hlt:=ul hd1
 have hget:=tG hd1
 have hxst:x∈st:=hxs x (gj hd1)
 have hpty:(gZ.mk (w.path++[x.No]) x.Party).to∈st.map (·.Party):=vN hxst
 have slx2:=slx.mono vQ hle2
 have hokp:=hok.path.mono xH hle2
 have gy:=slx.1.1
 have dY:=iX hd1
 have h910:h9.le h10:=xG h9h hle2
 refine sr (tO hlt U (qO 8 U (aA (iF xC pg ty97 slx2.1 hget U U U (λqx Ax=>dv ty97 Ax U U (aS zc97 (λb23=>aR 0 ty97 U U U U U U (aI ?_))))))))
 refine Qb (ι:=List Value×Nat×Obj×HF) (λi=>[(2,.slice ij parties.length ii),(14,Q b14),(16,Q b16),(17,Q b17),(19,Q b19),(92,.slice xb xs.length xc),(93,I (xs.length:Int)),(94,I (i1:Int))]) (λi=>i.2.2.2) (λi=>[(b19,.cells (gZ.cells w wr).toArray 196 (0,0)),(bc,.chan l.length i.1.toArray false i.2.1 (r+1) false),(bm,i.2.2.1)]++markB [dm])
  (λi=>h10.le i.2.2.2/\vm i.2.2.2 i.1 (conPut ⟨w.path++[x.No],x.Party⟩ m2 q2).2/\jY (zD .i64) qe i.2.2.2 i.2.2.1 (conPut ⟨w.path++[x.No],x.Party⟩ m2 q2).1) ?_ (λfin=>?_)
 .rintro⟨vs3,s3,om3,h11⟩ ⟨l11,hw3,hm3⟩ e3
  dsimp only at l11 hw3 hm3
  exact eX (bC (oi i1 U (qO 2 U (ag2 (i1+1,(conPut ⟨w.path++[x.No],x.Party⟩ m2 q2).1,(conPut ⟨w.path++[x.No],x.Party⟩ m2 q2).2,vs3,s3,om3,h11,rest) _ (Nat.lt_succ_self _) ⟨mK hd1,hcs2,hw3,hm3,un hg2 hpty (by simpa using hw7),xG hle2 l11⟩ rd))))
 have hKs:∀p∈([(b23,.cells (xC x).toArray 97 (0,0)),(b19,.cells (gZ.cells w wr).toArray 196 (0,0))]:LH),p∈([(b23,.cells (xC x).toArray 97 (0,0)),(b19,.cells (gZ.cells w wr).toArray 196 (0,0)),(bc,.chan l.length vs2.toArray false s2 (r+1) false),(bm,om2)]++markB [dm]:LH):=λp hp=>by
  rcases jB.1 hp with rfl|hp
  .simp
  rw[qC.1 hp];simp
 have hJ:Jst h10 [(b23,.cells (xC x).toArray 97 (0,0)),(b19,.cells (gZ.cells w wr).toArray 196 (0,0))] h10 ([(b23,.cells (xC x).toArray 97 (0,0)),(b19,.cells (gZ.cells w wr).toArray 196 (0,0)),(bc,.chan l.length vs2.toArray false s2 (r+1) false),(bm,om2)]++markB [dm]):=⟨qQ _,hKs⟩
 refine eh [(b23,.cells (xC x).toArray 97 (0,0)),(b19,.cells (gZ.cells w wr).toArray 196 (0,0))] mixed kr hJ (λhsep _=>?_)
 refine iJ 0 hsep hJ U U kr U (rh ty197 (a17.mono h910) U) (iJ 1 hsep hJ U U kr U (λ_ _ _=>tc PI U) (iJ 2 hsep hJ U U kr U (rj 1 ty31 U U U) (iJ 4 hsep hJ U U kr U (λ_ _ _=>tc QF U) (iJ 5 hsep hJ U U kr U (rj 0 ty3 U U U) (iJ 8 hsep hJ U U kr U (λ_ _ _=>tc QE U) (iJ 9 hsep hJ U U kr U (rj 0 ty3 U U U) ?_))))))
 have hpl8:w.path.length<=wr.Au:=hokp.2
 have hpn:=hokp.1.1
 refine lY 3 6 kr U U ?_ ?_
 .refine et (v:=.slice wr.xY w.path.length w.path.length) call115 (sS h10 wr.xY w.path.length wr.Au hpl8) U ⟨hJ,tn 6 U (aV (cells:=[I x.No]) dy ty3 zc3 U U kr (λb6=>⟨⟨qQ _,λp hp=>kA _ (hKs p hp)⟩,tn 7 U (Ho (R:=kB) (xs:=w.path) (ys:=[x.No]) dy ty3 zc3 U bytes3 (gl hokp.1) U U (dX 0 U (show aY kB h10 [I x.No] [x.No]from⟨[I x.No],[],U,U,U,U⟩)) (by simp) lo lo (λnb nc NG hNG=>⟨⟨qQ _,λp hp=>qN NG (kA _ (hKs p hp))⟩,tn 10 U (e9 (cells:=gZ.cells ⟨w.path++[x.No],x.Party⟩ ⟨nb,nc⟩) (places:=[(0,1),(1,1)]) underlying196 zc196 kr kr ⟨⟨qQ _,λp hp=>qN NG (kA _ (hKs p hp))⟩,tn 11 U (lV xH [] NG ((b6,.cells [zD .i64 x.No].toArray 3 (0,0))::[(b23,.cells (xC x).toArray 97 (0,0)),(b19,.cells (gZ.cells w wr).toArray 196 (0,0)),(bc,.chan l.length vs2.toArray false s2 (r+1) false),(bm,om2)]++markB [dm]) U hM hNG (λh11 l11 slN=>?_))⟩)⟩))⟩))⟩
  refine Ig (vs:=[.agg (gZ.cells ⟨w.path++[x.No],x.Party⟩ ⟨nb,nc⟩).toArray]) [(bm,om2),(bc,.chan l.length vs2.toArray false s2 (r+1) false)] ([(b6,.cells [zD .i64 x.No].toArray 3 (0,0)),(b23,.cells (xC x).toArray 97 (0,0)),(b19,.cells (gZ.cells w wr).toArray 196 (0,0))]++markB [dm]) ?_
   (mV h11 ⟨w.path++[x.No],x.Party⟩ ⟨nb,nc⟩ ⟨b15,0,none⟩ ⟨b16,0,none⟩ bm bc om2 m2 l.length s2 (r+1) vs2 q2 ⟨slN⟩ (a15.mono (h910.t l11)) (a16.mono (h910.t l11)) (hm2.mono qe.mono l11) (hw2.mono l11) (λhno=>by rw[hw2.len];exact yC hg2 hm2.nodup hpty hstl hno)) rfl rfl (λB hB=>?_)
  .exact yO [(b6,.cells [zD .i64 x.No].toArray 3 (0,0)),(b23,.cells (xC x).toArray 97 (0,0)),(b19,.cells (gZ.cells w wr).toArray 196 (0,0))] (markB [dm]) (bc,.chan l.length vs2.toArray false s2 (r+1) false) (bm,om2)
  obtain⟨om3,vs3,s3,hm3,hw3,rfl⟩:=hB
  exact⟨⟨l11,λp hp=>by rcases hp with _|⟨_,_|⟨_,h⟩⟩;simp;simp;cases h⟩,lk (K2:=[(b23,.cells (xC x).toArray 97 (0,0)),(b19,.cells (gZ.cells w wr).toArray 196 (0,0))]) l11 (λ_ hp=>hp) (aG kr (lL (yO [(b6,.cells [zD .i64 x.No].toArray 3 (0,0)),(b23,.cells (xC x).toArray 97 (0,0)),(b19,.cells (gZ.cells w wr).toArray 196 (0,0))] (markB [dm]) (bc,.chan l.length vs3.toArray false s3 (r+1) false) (bm,om3)).symm (ba (L':=[(b19,.cells (gZ.cells w wr).toArray 196 (0,0)),(bc,.chan l.length vs3.toArray false s3 (r+1) false),(bm,om3)]++markB [dm]) js (fin (vs3,s3,om3,h11) _ ⟨l11,hw3,hm3⟩ rd))))⟩
 refine aV (cells:=[I x.No]) dy ty3 zc3 U U kr (λb6=>⟨⟨qQ _,λp hp=>kA _ (hKs p hp)⟩,tn 3 U (et (v:=.slice wr.xY w.path.length w.path.length) call115 (sS h10 wr.xY w.path.length wr.Au hpl8) U ⟨⟨qQ _,λp hp=>kA _ (hKs p hp)⟩,tn 7 U (Ho (R:=kB) (xs:=w.path) (ys:=[x.No]) dy ty3 zc3 U bytes3 (gl hokp.1) U U (dX 0 U (show aY kB h10 [I x.No] [x.No]from⟨[I x.No],[],U,U,U,U⟩)) (by simp) lo lo (λnb nc NG hNG=>⟨⟨qQ _,λp hp=>qN NG (kA _ (hKs p hp))⟩,tn 10 U (e9 (cells:=gZ.cells ⟨w.path++[x.No],x.Party⟩ ⟨nb,nc⟩) (places:=[(0,1),(1,1)]) underlying196 zc196 kr kr ⟨⟨qQ _,λp hp=>qN NG (kA _ (hKs p hp))⟩,tn 11 U (lV xH [] NG ((b6,.cells [zD .i64 x.No].toArray 3 (0,0))::[(b23,.cells (xC x).toArray 97 (0,0)),(b19,.cells (gZ.cells w wr).toArray 196 (0,0)),(bc,.chan l.length vs2.toArray false s2 (r+1) false),(bm,om2)]++markB [dm]) U hM hNG (λh11 l11 slN=>?_))⟩)⟩))⟩)⟩)
 refine Ig (vs:=[.agg (gZ.cells ⟨w.path++[x.No],x.Party⟩ ⟨nb,nc⟩).toArray]) [(bm,om2),(bc,.chan l.length vs2.toArray false s2 (r+1) false)] ([(b6,.cells [zD .i64 x.No].toArray 3 (0,0)),(b23,.cells (xC x).toArray 97 (0,0)),(b19,.cells (gZ.cells w wr).toArray 196 (0,0))]++markB [dm]) ?_
  (mV h11 ⟨w.path++[x.No],x.Party⟩ ⟨nb,nc⟩ ⟨b15,0,none⟩ ⟨b16,0,none⟩ bm bc om2 m2 l.length s2 (r+1) vs2 q2 ⟨slN⟩ (a15.mono (h910.t l11)) (a16.mono (h910.t l11)) (hm2.mono qe.mono l11) (hw2.mono l11) (λhno=>by rw[hw2.len];exact yC hg2 hm2.nodup hpty hstl hno)) rfl rfl (λB hB=>?_)
 .exact yO [(b6,.cells [zD .i64 x.No].toArray 3 (0,0)),(b23,.cells (xC x).toArray 97 (0,0)),(b19,.cells (gZ.cells w wr).toArray 196 (0,0))] (markB [dm]) (bc,.chan l.length vs2.toArray false s2 (r+1) false) (bm,om2)
 obtain⟨om3,vs3,s3,hm3,hw3,rfl⟩:=hB
 exact⟨⟨l11,λp hp=>by rcases hp with _|⟨_,_|⟨_,h⟩⟩;simp;simp;cases h⟩,lk (K2:=[(b23,.cells (xC x).toArray 97 (0,0)),(b19,.cells (gZ.cells w wr).toArray 196 (0,0))]) l11 (λ_ hp=>hp) (aG kr (lL (yO [(b6,.cells [zD .i64 x.No].toArray 3 (0,0)),(b23,.cells (xC x).toArray 97 (0,0)),(b19,.cells (gZ.cells w wr).toArray 196 (0,0))] (markB [dm]) (bc,.chan l.length vs3.toArray false s3 (r+1) false) (bm,om3)).symm (ba (L':=[(b19,.cells (gZ.cells w wr).toArray 196 (0,0)),(bc,.chan l.length vs3.toArray false s3 (r+1) false),(bm,om3)]++markB [dm]) js (fin (vs3,s3,om3,h11) _ ⟨l11,hw3,hm3⟩ rd))))⟩
theorem pV(h:HF)(c:bK)(oJ:kc)(person:Int)(hc:bK.ok h c oJ)(hsm:smR c.Register)(hco:i5 c)(hpp:0<=person/\person<64):Ret prog 256 [.agg (bK.cells c oJ).toArray,I person] h (.bool (iA c person)):=by
 refine sT func256 U ntmps256 U λX hM hX hF=>?_
 have hs0:=@rfl _ (iA c person)
 refine sr (bS (λb1=>qL 15 [0,0,0,0] U (aA (cC call31 (wW _ _ _ _ person _ _ _ c.at_ c.known hc.Register.Interests hc.doc.Parties hsm.2.2.2.1) U (λv1 h1 hle1 hp1=>?_)))))
 obtain⟨rb1,rc1,rfl,sl1⟩:=hp1
 exact av (qO 10 U (aA (oF uM (io h1 ((eJ c.Register.Interests person c.doc.Parties c.at_ c.known).2.2)) (mI (LQ hco hpp)) U (qO 6 U (nretP [.bool ((eJ c.Register.Interests person c.doc.Parties c.at_ c.known).2.1)] (cs hs0))))))
theorem wT(h:HF)(c:bK)(oJ:kc)(c_q:Addr)(p:Policy)(gQ:eQ)(p_q:Addr)(hc:bK.ok h c oJ)(ac:At h c_q (bK.cells c oJ))(hp:kN h p gQ)(ap_z:At h p_q (xE p gQ))(hsm:smR c.Register)(hco:i5 c)(hpr:p.Rules.length=p.Kinds.length/\∀y∈p.Rules,0<=y.Think/\y.Think<=1099511627775):Itr prog (.func (.func 255) #[] (vB [.pointer (some c_q),.pointer (some p_q)])) pA (cD c p) h:=by
 refine tq call255 ?_
 intro yf ya yb C Sp Pn h1 A hle m1 m2 m3 hC hy
 refine jz Mb U ntmps255 U λX hXM hX=>?_
 have hs0:cD c p=[]++cD c p:=rfl
 have hkd:=hco.kind
 refine qK 5 [] U (jk (j:=9) ty3 (ac.mono hle) U U (qL 1 [] U (jk (j:=1) ty58 (ap_z.mono hle) U U (qL 3 [] U (j1 U (λc1=>?_) (λc1=>?_))))))
 .have c1p:=of_decide_eq_true c1
  have hs1:=hs0.trans (congrArg ([]++·) (bt c1))
  refine ej ?_
  have hs2:cD c p=[]:=hs1.trans (List.append_nil _)
  exact nn [] (A:=A) Mb U (List.Sublist.refl _) (.inl (hs2▸hC))
 have c1p:=of_decide_eq_false c1
 have hs3:=hs0.trans (congrArg ([]++·) (bf c1))
 refine qT 2 U (eh ([]) mixed kr jn (λdt _=>qB [0,1] U (tf 2 U U (rH 6 ty28 (ac.mono hle) U U) (qB [3,4] U (tf 5 U U (rH 7 ty3 (ac.mono hle) U U) (qB [6,7] U (tf 8 U U (rH 8 ty3 (ac.mono hle) U U) (qB [9] U (tf 10 U U (rH 3 ty59 (ap_z.mono hle) U U) (qB [11,12] U (tf 13 U U (rH 9 ty3 (ac.mono hle) U U) ?_)))))))))))
 have ho1:0<=(c.doc.Kind:Int)/\(c.doc.Kind:Int)<((p.Rules).length:Int):=ob
 refine j3 14 dt jn vq ty79 (hp.Rules.mono Rule.aj hle).1 ho1 (de ho1) U U U U kr (λq1 cs1 A1 ln1 rr1=>?_)
 obtain⟨r1,rfl,ok1⟩:=rr1
 refine qB [15] U (tf 16 U U (rH 2 ty3 A1 U U) (qB [17] U (tf 18 U U (rH 48 ty3 (ac.mono hle) U U) (qB [19] U (tf 20 U U (rH 49 ty3 (ac.mono hle) U U) (tn 21 U (cC call28 (w4 _ _ _ _ c.doc.No c.doc.At ((nthI p.Rules c.doc.Kind).Think) c.at_ c.known (hc.Register.Approvals.mono zH hle) hsm.2.2.2.2.2.2) U (λv1 h2 hle1 hp1=>?_))))))))
 obtain⟨rb1,rc1,rfl,sl1⟩:=hp1
 refine⟨⟨hle1,λ_ hp=>List.Sublist.subset (List.nil_sublist _) hp⟩,lk (K2:=[]) hle1 (λ_ hp=>hp) (qR 22 5 U (aG kr (qT 3 U (aA (oF uM (io h2 ((cj c.Register.Approvals c.doc.No c.doc.At ((nthI p.Rules c.doc.Kind).Think) c.at_ c.known).2)) (by first|exact mI (yA hco hpr ob)|exact mI (yz hco (gj hd1))|exact mI (yB hco (gj hd1))) U (qL 7 [] U ?_))))))⟩
 refine lp2 ((cj c.Register.Approvals c.doc.No c.doc.At ((nthI p.Rules c.doc.Kind).Think) c.at_ c.known).1) (λi w=>[(0,.func yf ya yb),(1,.pointer (some c_q)),(48,.slice rb1 (((cj c.Register.Approvals c.doc.No c.doc.At ((nthI p.Rules c.doc.Kind).Think) c.at_ c.known).1).length) rc1),(49,I ((((cj c.Register.Approvals c.doc.No c.doc.At ((nthI p.Rules c.doc.Kind).Think) c.at_ c.known).1).length:Nat):Int)),(50,I (i:Int))]) (λw=>w.2.2) (λw=>w.2.1) (λi w=>C w.1 w.2.2 w.2.1/\xM h2 w.2.2) (λs1 i w=>w.1++(cD.L1 c (cD.K1)) s1) ([],A,h2) sl1.1.1 hs3 ⟨(m1 _ _ _ _ hle1 hC),lf⟩ ?_ ?_
 .rintro i1 ⟨dn1,A1_,hh1⟩ ft hs4 ⟨hC1_,hl1⟩ e
  refine ej ?_
  have hs5:cD c p=dn1:=hs4.trans (List.append_nil _)
  exact tr [] (A:=A1_) Mb U (List.Sublist.refl _) (.inl (hs5▸hC1_))
 rintro i1 ⟨dn1,A1_,hh1⟩ y1 rz1 hd1 cY aJ dY gy hs6 ⟨hC1_,hl1⟩ hx1 ag1 e
 refine sr (tO cY U (qO 8 U (aA (iF zC oD ty81 (sl1.mono zH hl1).1 aJ U U U (λq3 A3=>dv ty81 A3 U U (aS zc81 (λb2=>aR 0 ty81 U U U U U U (iO (L':=[(b2,O (zC y1) 81)]++(A1_)) U (qL 5 [] U (dD ty22 (ac.mono ((hle.t hle1).t hl1)) U (qL 5 [0,0] U (jk (j:=48) ty3 (ac.mono ((hle.t hle1).t hl1)) U U (qL 1 [] U (jk (j:=49) ty3 (ac.mono ((hle.t hle1).t hl1)) U U (ai call29 (Cr _ _ _ _ y1.Office y1.For c.at_ c.known (hc.Register.Appoints.mono zR ((hle.t hle1).t hl1))) U (qO 13 U (aA (oF uM (io hh1 ((gF c.Register.Appoints y1.Office y1.For c.at_ c.known).2.2.2)) (by first|exact mI (yA hco hpr ob)|exact mI (yz hco (gj hd1))|exact mI (yB hco (gj hd1))) U (qL 5 [] U (jk (j:=1) ty23 (ac.mono ((hle.t hle1).t hl1)) U U (qL 8 [0,0,0] U (jk (j:=9) ty3 (ac.mono ((hle.t hle1).t hl1)) U U (qL 2 [] U (jk (j:=10) ty3 (ac.mono ((hle.t hle1).t hl1)) U U (qL 1 [] U (jk (j:=48) ty3 (ac.mono ((hle.t hle1).t hl1)) U U (qL 1 [] U (jk (j:=49) ty3 (ac.mono ((hle.t hle1).t hl1)) U U (aA (cC call30 (BS _ _ _ _ y1.For y1.By y1.Office c.doc.Kind c.doc.Value c.at_ c.known (hc.Register.Deputies.mono zM ((hle.t hle1).t hl1)) hsm.2.2.1) U (λv3 h4 hle3 hp3=>?_)))))))))))))))))))))))))))))))
 obtain⟨rb3,rc3,rfl,sl3⟩:=hp3
 refine qO 11 U (aA (oF uM (io h4 ((aC c.Register.Deputies y1.For y1.By y1.Office c.doc.Kind c.doc.Value c.at_ c.known).2.2)) (by first|exact mI (yA hco hpr ob)|exact mI (yz hco (gj hd1))|exact mI (yB hco (gj hd1))) U (qO 5 U (aU 2 [100,101,102] 100 102 ((aC c.Register.Deputies y1.For y1.By y1.Office c.doc.Kind c.doc.Value c.at_ c.known).2.1) U (λc2 hk1=>?_) (λe=>?_)))))
 .exact av (eE U (hk1 _ U))
 refine av (aU 6 [103,104,105,106,107,108,109] 103 109 (!(iA c y1.For)) U (λc3 hk2=>?_) (λe=>?_))
 .exact dv ty123 (ac.mono (((hle.t hle1).t hl1).t hle3)) U U (qL 2 [0] U (ai call256 (pV _ _ _ y1.For (hc.mono (((hle.t hle1).t hl1).t hle3)) hsm ob (by first|exact HT hco (gj hd1)|exact KG hco (gj hd1))) U (qO 2 U (hk2 _ U))))
 refine av (aU 6 [110,111,112,113,114,115,116] 110 116 (!(iA c y1.By)) U (λc4 hk3=>?_) (λe=>?_))
 .exact dv ty123 (ac.mono (((hle.t hle1).t hl1).t hle3)) U U (qL 2 [0] U (ai call256 (pV _ _ _ y1.By (hc.mono (((hle.t hle1).t hl1).t hle3)) hsm ob (by first|exact HT hco (gj hd1)|exact KG hco (gj hd1))) U (qO 2 U (hk3 _ U))))
 refine av (uN 117 U (λc5=>?_) (λc5=>?_))
 .have hs7:=hs6.trans (congrArg (dn1++·) (bt c5))
  refine av (cN 0 ty81 U U U ?_)
  have hx1:cD c p=dn1++(y1::(cD.L1 c (cD.K1) rz1)):=hs7
  refine aA (lv ([(b2,O (zC y1) 81)]) A1_ ap (hy dn1 y1 _ _ _ _ hx1 ((hle1.t hl1).t hle3) (m1 _ _ _ _ hle3 hC1_) U) U U (λh5 A4 hle4 hC1=>?_) (λh6 A5 hle5 hS1=>?_) (λch1 h7 A6 hle6 hP1 e=>gK (nC [] (A:=A6) Mb (List.sublist_append_right _ _) hP1)))
  .have hs8:cD c p=(dn1++[y1])++((cD.L1 c (cD.K1) rz1)):=hx1.trans ap
   exact nF U (qO 6 U (oi i1 U (qO 2 U (ba (L':=A4) js (ag1 ((dn1++[y1]),A4,h5) hs8 ⟨hC1,((hl1.t hle3).t hle4)⟩)))))
  exact nF U (qO 3 U (ej (nn [] (A:=A5) Mb U js (.inr hS1))))
 have hs9:=hs6.trans (congrArg (dn1++·) (bf c5))
 exact kq (qO 8 U (oi i1 U (qO 2 U (ba (L':=A1_) js (ag1 (dn1,A1_,h4) hs9 ⟨(m1 _ _ _ _ hle3 hC1_),(hl1.t hle3)⟩)))))
theorem zt(h:HF)(c:bK)(oJ:kc)(p:Policy)(gQ:eQ)(hc:bK.ok h c oJ)(hp:kN h p gQ)(hsm:smR c.Register)(hco:i5 c)(hpr:p.Rules.length=p.Kinds.length/\∀y∈p.Rules,0<=y.Think/\y.Think<=1099511627775):i9 prog 162 [.agg (bK.cells c oJ).toArray,.agg (xE p gQ).toArray] h (λv h'=>∃(rv0:Value),v=rv0/\Itr prog rv0 pA (il c p) h'):=by
 refine sT func162 U ntmps162 U λX hM hX hF=>?_
 have hs0:=@rfl _ (il c p)
 refine sr (bS (λb1=>bS (λb2=>qO 4 U (aO 1 U hM (λh1 hle1 hb1=>aO 0 U hM (λh2 hle2 hb2=>aA (eI U U (an ?_))))))))
 have hs1:il c p=(cD c p):=hs0
 exact nretH [.func (.func 255) #[] #[Q b1,Q b2]] (hs1▸⟨(.func (.func 255) #[] #[Q b1,Q b2]),U,(wT h2 c oJ ⟨b1,0,none⟩ p gQ ⟨b2,0,none⟩ (hc.mono (hle1.t hle2)) ((cz hb1).mono hle2) (hp.mono (hle1.t hle2)) (cz hb2) ob ob ob)⟩)
theorem pU(h:HF)(c:bK)(oJ:kc)(p:Policy)(gQ:eQ)(hc:bK.ok h c oJ)(hp:kN h p gQ)(hsm:smR c.Register)(hco:i5 c)(hpr:p.Rules.length=p.Kinds.length/\∀y∈p.Rules,0<=y.Think/\y.Think<=1099511627775):i9 prog 79 [.agg (bK.cells c oJ).toArray,.agg (xE p gQ).toArray] h (λv h'=>∃(rb0:Option Addr)(rc0:Nat),v=.slice rb0 (dj c p).length rc0/\SlC kB h' rb0 rc0 (dj c p)):=by
 refine cH func79 U ntmps79 U λX hM hX=>?_
 have hs0:=@rfl _ (dj c p)
 refine sr (bS (λb1=>bS (λb2=>aS zc31 (λb3=>qO 4 U (cN 2 ty123 U U U (cN 1 ty64 U U U (aA (cC call162 (zt _ _ _ _ _ hc hp ob ob ob) U (λv1 h1 hle1 hp1=>?_)))))))))
 obtain⟨_,rfl,mo1⟩:=hp1
 refine qO 2 U (ej ?_)
 let z1:Nat×Obj:=(b1,O (bK.cells c oJ) 123)
 let z2:Nat×Obj:=(b2,O (xE p gQ) 64)
 refine bW (L':=([(b3,O [.slice none 0 0] 31),z2,z1])++markB []) ap ?_
 refine ke (it:=v1) (xs:=(il c p)) (ι:=(List Int)×Option Addr×Nat×LH×HF) [] (λi=>i.2.2.2.2) (λi=>[(b3,O [.slice i.2.1 i.1.length i.2.2.1] 31),z2,z1]++(i.2.2.2.1)) (λs i=>dj c p=((dj.L1 (dj.K1)) s i.1)/\cZ kB 3 i.2.2.2.2 i.1 i.2.1 i.2.2.1 i.2.2.2.1/\xM h1 i.2.2.2.2/\i.1.length+s.length<=2000000) (λ_=>False) (λ_=>False) 0 (λ_ _ _=>False) ([],none,0,[],h1) func79 U mo1 U qj (λ_ _ _ _ _ hq=>hq) U (show[(b3,O [.slice none 0 0] 31),z2,z1]=_ from U) ⟨hs0,cZ.nil,lf,(by have hc:=Pk hsm p;simpa using hc)⟩ ?_ ?_ ?_ ?_ ?_
 .rintro l1 dm1 lp1 y1 rz1 vs1 ⟨bZ,lJ,lI,lK,hh1⟩ hr1 X hFR1 ⟨hs1,nv,hl1,u1_0⟩ hl01 hlr1 hv1 hX hXM hlp1 nx1 rt1 ex1 pn1
  try dsimp only at nv hl1 u1_0 hlr1
  obtain rfl:=hv1
  simp only[xA]at u1_0
  let z3:Nat×Obj:=(b3,O [.slice lJ bZ.length lI] 31)
  let z6:Nat×Obj:=(dm1,.deferred (some []))
  refine bW (L':=[(l1,.loop lp1),z6,z3,z2,z1]++(lK++(markB []))) ap (bC (aS zc81 (λb6=>aR 0 ty81 U U U U U U (iO (L':=[(b6,O (zC y1) 81),(l1,.loop lp1),z6,z3,z2,z1]++(lK++(markB []))) U ?_))))
  let z7:Nat×Obj:=(l1,.loop { lp1 with state:=.busy })
  let z8:Nat×Obj:=(b6,O (zC y1) 81)
  refine aI (j2 1 U hlp1 (qK 5 [3,0] U (aA (aV (cells:=[I y1.For]) dy ty3 zc3 U U kr (λb7=>aA (cd SL ([(b7,O [I y1.For] 3),z8,z7,z6,z3,z2,z1]) (markB []) (λG=>[(b7,O [I y1.For] 3),z8,z7,z6,z3,z2,z1]++(markB []++G)) ap (λ_=>ap) dy ty3 zc3 U bytes3 (nv.mono xH hlr1) U U (dX 0 U (cE (y1.For) U U)) lo lo (λob2 oc2 G4 gr4=>yH (sH ([(b7,O [I y1.For] 3),z8,z7,z6,z3,z2,z1]) G4 (markB [])) (cK 4 ty31 U U U U U U (qO 2 U ?_)))))))))
  let z9:Nat×Obj:=(b3,O [.slice ob2 ((bZ++[y1.For]).length) oc2] 31)
  exact ba (L':=[z7,z6,z9,z2,z1]++(G4++(markB []))) js (bW (L':=rdH l1 dm1 lp1 (([z9,z2,z1]++G4)++markB [])) ap (nx1 ((bZ++[y1.For]),ob2,oc2,G4,hr1) _ _ ⟨hs1,gr4,(hl1.t hlr1),(by first|omega|(simp only[xB,xA,jC]at *;omega))⟩ lf))
 .rintro dm1 ⟨bZ,lJ,lI,lK,hh1⟩ hn1 ⟨hs2,nv,hl1,u1_0⟩ hln1 hl01
  try dsimp only at nv hl1 u1_0 hln1
  let z4:Nat×Obj:=(b3,O [.slice lJ bZ.length lI] 31)
  refine bW (L':=[z4,z2,z1]++(lK++(markB (dm1::[])))) ap (qK 4 [0] U (aA (nQ ([z4,z2,z1]) lK (markB (dm1::[])) Oh (nf hn1 bZ lJ lI lK (nv.mono xH hln1) (by first|assumption|omega|(simp only[xB,xA,jC] ;omega))) ap U (λG5 gr5=>qL 4 [0] U (aA (nQ (v:=.slice lJ (slices_Compact_int (sortI bZ)).length lI) ([z4,z2,z1]) G5 (markB (dm1::[])) call136 (pS hn1 (sortI bZ) lJ lI G5 gr5) ap (by first|rfl|(simp only[iV];rfl)) (λG6 gr6=>iO (L':=[z4,z2,z1]++(G6++(markB (dm1::[])))) ap (cK 0 ty31 U U U U U U (aI ?_)))))))))
  let z5:Nat×Obj:=(b3,O [.slice lJ ((slices_Compact_int (sortI bZ)).length) lI] 31)
  refine eY xH ([z5,z2,z1]) G6 (markB (dm1::[])) ap hM gr6 (λh3 hle3 sl2=>?_)
  have hs3:dj c p=(slices_Compact_int (sortI bZ)):=hs2
  exact bW (L':=([z5,z2,z1])++markB (dm1::[])) ap (re (dm1::[]) [.slice lJ ((slices_Compact_int (sortI bZ)).length) lI] func79 U ⟨⟨0,_,_,_,_,U,U,.inr ⟨_,ty31,U⟩⟩,trivial⟩ ⟨lJ,lI,congrArg (λr:List Int=>(.slice lJ r.length lI:Value)) hs3.symm,(by rw[hs3];exact sl2)⟩)
 .exact xf
 .exact xf
 exact xf
theorem sj(h:HF)(s:List Version)(sY:Option Addr)(sX:Nat)(f:(Version->Bool))(f_v:Value)(hs:SlC zQ h sY sX s)(hf:∀(h':HF)(dE:Version)(zy:pM),xM h h'->Ur h' dE zy->uL prog f_v [.agg (SU dE zy).toArray] h' [] (.bool (f dE))):Ret prog 163 [.slice sY s.length sX,f_v] h (I (bj s f)):=by
 refine sT func163 U ntmps163 U λX hM hX hF=>?_
 have hs0:=@rfl _ (bj s f)
 refine qK 11 [] U ?_
 refine lp0 s (λi=>[(0,.slice sY s.length sX),(1,f_v),(7,I (s.length:Int)),(8,I (i:Int))]) ([]) (λs1 i=>(bj.L1 f (bj.K1)) s1 i) hs.1.1 hs0 ?_ ?_
 .rintro i1 ft hs1 e
  exact sr (an (nretP [I (-1)] (ci hs1)))
 rintro i1 y1 rz1 hd1 cY aJ dY gy hs3 hx1 ag1 e
 refine sr (tO cY U (qO 16 U (aA (iR xg ty105 hs.1 aJ U U U (λ_ _ _ e=>e) (λq2 r2 A2 ok2=>dv ty105 A2 U U (aA (mG (v:=.bool (f y1)) [] (List.nil_sublist _) (hf h y1 r2 lf ok2) U U (aI (ae hs3 U (λc2 hs4=>?_) (λc2 hs5=>?_))))))))))
 .exact sr (qO 3 U (nretP [I (i1:Int)] (ci hs4)))
 exact aH (qT 2 U (oi i1 U (qO 2 U (ag1 hs5))))
theorem DW(s:List Version)(f:Version->Bool):bj s f<(s.length:Int):=by
 have key:∀(l:List Version)(i:Nat),bj.L1 f bj.K1 l i<((i+l.length:Nat):Int):=by
  intro l
  induction l with
  |nil=>intro i;simp only[bj.L1,bj.K1];omega
  |cons y l ih=>
   intro i
   simp only[bj.L1,Bool.cond_eq_ite,xA]
   split
   .omega
   have:=ih (i+1);omega
 have:=key s 0
 simpa[bj]using this
theorem uV(h:HF)(v:Version)(R9:pM)(v0:Int)(v0_q:Addr)(hv:Ur h v R9)(av0:At h v0_q [I v0]):Ret prog 164 [.agg (SU v R9).toArray,.pointer (some v0_q)] h (.bool (eK v v0)):=by
 refine sT func164 U ntmps164 U λX hM hX hF=>?_
 have hs0:=@rfl _ (eK v v0)
 exact sr (bS (λb1=>qL 6 [0] U (dD ty3 av0 U (qO 3 U (nretP [.bool (v.No==v0)] (cs hs0))))))
theorem pT(h:HF)(c:bK)(oJ:kc)(no:Int)(hc:bK.ok h c oJ):H0 prog 80 [.agg (bK.cells c oJ).toArray,I no] h errV (fx c no) (λ(r:Policy)v h'=>∃(rr0:eQ),v=.agg (xE r rr0).toArray/\kN h' r rr0):=by
 refine cH func80 U ntmps80 U λX hM hX=>?_
 have hs0:=@rfl _ (fx c no)
 refine sr (bS (λb1=>bS (λb2=>aS zc64 (λb3=>qL 6 [2] U (aO 1 U hM (λh1 hle1 hb1=>aA (eI U U (ai call163 (sj _ _ _ _ (λdE=>eK dE no) (.func (.func 164) #[] #[Q b2]) (hc.Register.Versions.mono jN hle1) (λh' dE zy hle a0_o=>iK call164 (uV h' dE zy no ⟨b2,0,none⟩ a0_o ((cz hb1).mono hle)))) U (qO 8 U (ae hs0 U (λc1 hs1=>?_) (λc1 hs2=>?_)))))))))))
 .have c1p:=of_decide_eq_true c1
  exact bC (aA (fj (D9 On U U) (aA (D5 U yK (λe=>gK (Jj [] func80 hs1))))))
 have c1p:=of_decide_eq_false c1
 refine qK 7 [1] U ?_
 have ho1:0<=((bj c.Register.Versions (λdE=>eK dE no)):Int)/\((bj c.Register.Versions (λdE=>eK dE no)):Int)<((c.Register.Versions).length:Int):=(by have hq:=DW c.Register.Versions (λdE=>eK dE no);simp only[decide_eq_true_eq,decide_eq_false_iff_not,Bool.and_eq_true,kC,Bool.not_eq_true',Bool.not_eq_false',Bool.and_eq_false_iff,Bool.or_eq_false_iff,beq_iff_eq,beq_eq_false_iff_ne,bne_iff_ne,bne_eq_false_iff_eq,xB,xA,jC,List.length_drop]at *;omega)
 refine aA (Ci xg ty105 (hc.Register.Versions.mono jN hle1).1 ho1 (de ho1) U U U (λ_ _ _ e=>e) (λq1 r1 A1 ok1=>qL 1 [] U (Ay (j:=3) ty64 A1 U U (aR 0 ty64 U U U U U U (aI ?_)))))
 have hs3:fx c no=(Except.ok ((nthI c.Register.Versions (bj c.Register.Versions (λdE=>eK dE no))).Policy)):=hs2
 exact ej (Jg [] [.agg (xE ((nthI c.Register.Versions (bj c.Register.Versions (λdE=>eK dE no))).Policy) r1.Policy).toArray] func80 U ⟨⟨0,_,_,_,_,U,U,.inl ⟨ty64,U⟩⟩,trivial⟩ hs3 ⟨r1.Policy,U,ok1.Policy⟩)
section
variable {P:Program} {e:Env} {X:Cx} {h:HF} {L:LH} {d:Option Nat} {ty:TypeId} {pos:String} {af:Array Edge} {g:Option (Nat×Bool)}
theorem Qo{t u:TypeId}(hT:∃ms,P.underlying t=some (.interface ms))(hx:e.ev x=.nilIface):∀w,St X h L w->(execOp e.ev ⟨d,.binOp .eql t x (.const .nilIface) u,ty,pos,af,g⟩).run P w=.ok (.value (.bool true)) w:=
 λw _=>by
  obtain⟨ms,hT⟩:=hT
  have hc:e.ev (.const .nilIface)=.nilIface:=rfl
  have he:(Op.equal t .nilIface .nilIface).run P w=.ok true w:=by
   rw[Op.equal,Op.maxDepth,show(10000:Nat)=9999+1 from rfl,Op.equalIn];simp[run_underlying hT]
  simp[execOp,hx,hc,eqGuard,binOp,he]
theorem Qn{t u:TypeId}{T:TypeId}(hT:∃ms,P.underlying t=some (.interface ms))(hx:e.ev x=.iface T v):∀w,St X h L w->(execOp e.ev ⟨d,.binOp .eql t x (.const .nilIface) u,ty,pos,af,g⟩).run P w=.ok (.value (.bool false)) w:=
 λw _=>by
  obtain⟨ms,hT⟩:=hT
  have hc:e.ev (.const .nilIface)=.nilIface:=rfl
  have he:(Op.equal t (.iface T v) .nilIface).run P w=.ok false w:=by
   rw[Op.equal,Op.maxDepth,show(10000:Nat)=9999+1 from rfl,Op.equalIn];simp[run_underlying hT]
  simp[execOp,hx,hc,eqGuard,binOp,he]
theorem Ln{xt T:TypeId}{k:IntKind}(hT:P.underlying T=some (.int k))(hx:e.ev x=.iface T v):∀w,St X h L w->(execOp e.ev ⟨d,.typeAssert x xt T true,ty,pos,af,g⟩).run P w=.ok (.value (.tuple #[v,.bool true])) w:=
 λw _=>by simp[execOp,hx,Instr.typeAssert,run_underlying hT]
end
theorem Gh(h:HF)(b1:Nat)(e0:Int)(X':Cx):TT prog (deferFrame 50) 14 [.code (bodyOf Tryz.f50)] (Gn prog X' .returning (λh' B=>h'=h/\B=[(b1,O [I e0] 37)])) (envArgs [Q b1]) [] X' h [(b1,O [I e0] 37)]:=by
 exact sr (C4 (λcs_z Φ⟨c,rest,hcs,hm,_⟩=>by subst hcs;simp[recoverD,hm]) (qO 4 U (aA (fj (Qo ⟨_,Ou⟩ U) (qO 6 U (Ib Em U ⟨U,U⟩))))))
theorem wk(h:HF)(b1:Nat)(e0 ee:Int)(X':Cx):TT prog (deferFrame 50) 14 [.code (bodyOf Tryz.f50)]
  (λcs_z Φ=>∃c rest,cs_z=c::rest/\c.mode=.panicking [{ v:=errV ee,recovered:=false }]/\Gn prog X' (.panicking [{ v:=errV ee,recovered:=true }]) (λh' B=>h'=h/\B=[(b1,O [I ee] 37)]) ({ c with mode:=(.panicking [{ v:=errV ee,recovered:=true }]) }::rest) Φ)
  (envArgs [Q b1]) [] X' h [(b1,O [I e0] 37)]:=by
 exact sr (Ev (F':=Gn prog X' (.panicking [{ v:=errV ee,recovered:=true }]) (λh' B=>h'=h/\B=[(b1,O [I ee] 37)])) (errV ee) (λcs_z Φ⟨c,rest,hcs,hm,hF⟩=>⟨_,by subst hcs;simp[recoverD,hm],hF⟩) (qO 4 U (aA (fj (Qn ⟨_,Ou⟩ U) (qO 4 U (aA (fj (Ln On U) (qO 11 U (aA (fj (fW U) (cK 0 ty37 U U U U U U (qO 2 U (Ib Em U ⟨U,U⟩)))))))))))))
theorem sC{b:Frame}{n:Nat}{ops:Array Oper}{l:List Oper}{k:List Item}{F:List Frame->(Machine->Prop)->Prop}{e:Env}{ds:List Deferred}{X:Cx}{L:LH}{d:Nat}{ty:TypeId}{pos:String}{af:Array Edge}{g:Option (Nat×Bool)}{x:Except Int ρ}{φ:ρ->Value->HF->Prop}(hc:∀args w,(callFunc f args).run P w=.ok (.enter f args) w)(hs:H0 P f vs h pe x φ)(hvs:ass.toList.map e.ev=vs)(t':∀u v h',x=.ok u->h.le h'->φ u v h'->TO P b n ops l k F (upd e d v) ds X h' L)(tp:∀p h',x=.error p->h.le h'->TP P b n [{ v:=pe p,recovered:=false }] F e ds X h' L)(hdn:Nat.blt d n=true:=by rfl)(hg:guardB ops e ⟨some d,.call ⟨.value (.func f),ass,ats⟩,ty,pos,af,g⟩=true:=by rfl):
  TO P b n ops (⟨some d,.call ⟨.value (.func f),ass,ats⟩,ty,pos,af,g⟩::l) k F e ds X h L:=by
 refine Ia U (oY hdn) U hg (λw hw=>?_)
 have harr:ass.map e.ev=vs.toArray:=SN (by simp[←hvs])
 refine⟨.enter f vs.toArray,w,?_,?_⟩
 .simp[execOp,resolve,Env.ev,xJ,invoke,harr,hc]
 refine jX (rL.mono (hs w (hw.sub (List.nil_sublist _)).pre) ?_)
 rintro y w' ⟨h',B,hst,rfl,hv⟩
 have hw2:=St.after (A:=[]) (B:=[]) (F:=L) hw hst
 cases y with
 |outgrown=>trivial
 |returned v=>
  cases x with
  |ok u=>obtain⟨v',hv,hφ⟩:=hv;cases hv;exact⟨h',_,hw2,t' _ _ _ rfl hst.le hφ⟩
  |error p=>cases hv
 |panicked ch=>
  cases x with
  |ok u=>obtain⟨v',hv,_⟩:=hv;cases hv
  |error p=>cases hv;exact⟨h',_,hw2,tp _ _ rfl hst.le⟩
theorem GZ.toXH{enc:ρ->Value}{x:Except Int ρ}(hs:GZ P f vs h (exW pe enc x)):H0 P f vs h pe x (λu v h'=>v=enc u/\h'=h):=
 oo.mono hs (λr h' B hl hR=>by
  obtain⟨rfl,rfl,hv⟩:=hR
  refine⟨U,?_⟩
  cases x with
  |ok u=>simp only[exW]at hv;exact⟨_,hv,rfl,rfl⟩
  |error p=>simp only[exW]at hv;exact hv)
theorem rP(h:HF)(cv:Register)(fF:fq)(doc:Int)(version:Int)(bw:Int)(known:Int)(jw:Register.ok h cv fF)(hsm:smR cv)(hk:Kinds h):
  i9 prog 16 [.agg (vK cv fF).toArray,I doc,I version,I bw,I known] h (λv h'=>∃(rb0:Option Addr)(rc0:Nat),v=.tuple #[.slice rb0 ((fh cv doc version bw known).1).length rc0,I ((fh cv doc version bw known).2)]/\SlC kB h' rb0 rc0 ((fh cv doc version bw known).1)):=by
 refine cH Ma U ntmps16 U λX hM hX=>sr (bS (λb5=>gu (aS zc37 (λb11=>qO 3 U (Hi U U (aI ?_))))))
 have fin:∀(hh:HF)(xs:List Int)(rb:Option Addr)(rc:Nat)(ee:Int)(B:LH)(e:Env),fh cv doc version bw known=(xs,ee)->SlC kB hh rb rc xs->e 10=.slice rb xs.length rc->e 11=Q b11->∀a:Act,envOf a=e->∀w,St X hh ([(b11,O [I ee] 37)]++B) w ->
   ∃v h2 B2,(results Tryz.f16 a.tmps).run prog w=.ok v w/\St X h2 B2 w/\(B2=[]/\∃v',Ending.returned v=.returned v'/\∃(rb0:Option Addr)(rc0:Nat),v'=.tuple #[.slice rb0 ((fh cv doc version bw known).1).length rc0,I ((fh cv doc version bw known).2)]/\SlC kB h2 rb0 rc0 ((fh cv doc version bw known).1)):=by
  intro hh xs rb rc ee B e he hs h10 h11 a ha w hw
  rw[he]
  exact⟨_,hh,[],ni (rs:=[.tmp 10,.cell 11 37]) (vs:=[.slice rb xs.length rc,I ee]) U ⟨h10,⟨0,b11,[I ee],37,(0,0),U,h11,.inr ⟨_,ty37,U⟩⟩,trivial⟩ a ha w hw,hw.sub (List.nil_sublist _),U,_,U,rb,rc,U,hs⟩
 refine sr (cN 1 ty30 U U U (ai (v:=I (dC cv)) Oe (pz h cv fF jw hsm hk) U ?_))
 refine sC uM (io h (dC cv)).toXH U (λu v h1 hx1 hle1 hp1=>?_) (λee h1 hx1 hle1=>?_)
 rotate_left
 .have e1:fh cv doc version bw known=([],ee):=by
   unfold mB at hx1;unfold fh
   cases hc:dC cv != 0 with
   |true=>rw[hc]at hx1;cases hx1;rfl
   |false=>rw[hc]at hx1;cases hx1
  refine AW (c:=bodyOf Tryz.f50) (cap:=[Q b11]) (A:=[(b11,O [I 0] 37)]) (R':=λh'' B=>h''=h1/\B=[(b11,O [I ee] 37)]) Ma Em U Ja U I9 (λX' _=>wk h1 b11 0 ee X') U ?_
  rintro h'' B _ ⟨rfl,rfl⟩ a ha w hw
  exact fin _ [] none 0 ee _ _ e1 vE U U a ha w hw
 obtain⟨rfl,rfl⟩:=hp1
 have hc0:dC cv=0:=by
  unfold mB at hx1
  cases hc:dC cv != 0 with
  |true=>rw[hc]at hx1;cases hx1
  |false=>simpa using hc
 refine qO 3 U (cN 1 ty30 U U U (qO 3 U ?_))
 refine sC call53 (zY h1 cv fF doc bw known jw) U (λc v h2 hx2 hle2 hp2=>?_) (λee h2 hx2 hle2=>?_)
 rotate_left
 .have e1:fh cv doc version bw known=([],ee):=by unfold fh;rw[hc0,hx2];rfl
  refine AW (c:=bodyOf Tryz.f50) (cap:=[Q b11]) (A:=[(b11,O [I 0] 37)]) (R':=λh'' B=>h''=h2/\B=[(b11,O [I ee] 37)]) Ma Em U Ja U I9 (λX' _=>wk h2 b11 0 ee X') U ?_
  rintro h'' B _ ⟨rfl,rfl⟩ a ha w hw
  exact fin _ [] none 0 ee _ _ e1 vE U U a ha w hw
 obtain⟨cr,rfl,okc⟩:=hp2
 obtain⟨hce,hco,_,_⟩:=Ea hc0 hx2
 have hreg:c.Register=cv:=by rw[hce]
 have hsc:smR c.Register:=by rw[hreg];exact hsm
 refine aS zc123 (λb12=>aR 0 ty123 U U U U U U (aI ?_))
 let z1:Nat×Obj:=(b12,O (bK.cells c cr) 123)
 obtain⟨K,hK⟩:∃K:LH,K=[z1]:=⟨_,rfl⟩
 have J:∀{h':HF}{A:LH},h2.le h'->Jst h2 [z1] h' (z1::A):=λhl=>⟨hl,λq hq=>by rw[qC.1 hq];exact zB ..⟩
 refine ew (eh [z1] mixed kr (J lf) (λhsep _=>iJ 0 hsep (J lf) U U kr U (λ_ _ hj=>i7 ty123 U (hj.nth (i:=0) U) U) (iJ 1 hsep (J lf) U U kr U (λ_ _ hj=>i7 ty123 U (hj.nth (i:=0) U) U) (iJ 2 hsep (J lf) U U kr U (λ_ _ _=>mz) ?_))))
 refine tn 3 U (JD call80 (pT h2 c cr version okc) U (λp v h3 hpp hle3 hp3=>⟨J hle3,?_⟩) (λee h3 hpp hle3 e' hA=>?_))
 rotate_left
 .have e1:fh cv doc version bw known=([],ee):=by unfold fh;rw[hc0,hx2];simp only[bne_self_eq_false,cond_false,hpp]
  refine H8 (L':=[(b11,O [I 0] 37)]++[z1,(b5,O (vK cv fF) 30)]) (List.Perm.swap _ _ _) (AW (c:=bodyOf Tryz.f50) (cap:=[Q b11]) (A:=[(b11,O [I 0] 37)]) (R':=λh'' B=>h''=h3/\B=[(b11,O [I ee] 37)]) Ma Em U Ja U I9 (λX' _=>wk h3 b11 0 ee X') U ?_)
  rintro h'' B _ ⟨rfl,rfl⟩ a ha w hw
  exact fin _ [] none 0 ee _ _ e1 vE ((hA.at_ 10).trans U) ((hA.at_ 11).trans U) a ha w hw
 have hpk:=sB hco hsc hpp
 have e1:fh cv doc version bw known=(dj c p,0):=by unfold fh;rw[hc0,hx2];simp only[bne_self_eq_false,cond_false,hpp]
 obtain⟨pr,rfl,okp⟩:=hp3
 refine tn 4 U (cC call79 (pU h3 c cr p pr (okc.mono hle3) okp hsc hco hpk.rules) U (λv h4 hle4 hp4=>⟨J (hle3.t hle4),?_⟩))
 obtain⟨rb,rc,rfl,sl⟩:=hp4
 refine iJ 5 hsep (J (hle3.t hle4)) U U kr U (λ_ _ _=>O3) (tn 6 U (lx 1 (off:=0) (vs:=[I 0]) ty37 U U U U (by rfl) U ⟨J (hle3.t hle4),aG kr (lL (L':=[(b11,O [I 0] 37)]++[z1,(b5,O (vK cv fF) 30)]) (List.Perm.swap _ _ _) (Jh (c:=bodyOf Tryz.f50) (cap:=[Q b11]) (A:=[(b11,O [I 0] 37)]) (R':=λh'' B=>h''=h4/\B=[(b11,O [I 0] 37)]) Ma Em U Ja U I9 (λX' _=>Gh h4 b11 0 X') U ?_))⟩))
 rintro h'' B _ ⟨rfl,rfl⟩ a ha w hw
 exact fin _ _ rb rc 0 _ _ e1 sl U U a ha w hw
theorem oN(h:HF)(eW:Int)  : Ret prog 85 [I eW] h (.bool (hZ eW)):=by
 refine sT func85 U ntmps85 U λX hM hX hF=>?_
 have hs0:=@rfl _ (hZ eW)
 refine qT 9 U (aU 3 [5,6,7,8] 5 8 (decide (eW<1099511627776)) U (λc1 hk1=>?_) (λe=>?_))
 .exact av (qO 2 U (hk1 _ U))
 exact an (nretP [.bool (decide (0<=eW)&&decide (eW<1099511627776))] (cs hs0))
theorem wO(h:HF)(l:List Version)(dU:Option Addr)(dT:Nat)(l_q:Addr)(known:Int)(known_q:Addr)(fa:Int)(from__q:Addr)(hl:SlC zQ h dU dT l)(al:At h l_q [.slice dU l.length dT])(aknown:At h known_q [I known])(afrom_:At h from__q [I fa])(hsz:l.length<=2000000):Itr prog (.func (.func 167) #[] (vB [.pointer (some l_q),.pointer (some known_q),.pointer (some from__q)])) rQ (bH l known fa) h:=by
 refine tq call167 ?_
 intro yf ya yb C Sp Pn h1 A hle m1 m2 m3 hC hy
 refine jz Od U ntmps167 U λX hXM hX=>?_
 have hs0:bH l known fa=[]++bH l known fa:=rfl
 refine sr (aA (OU hXM (λb1 b1M=>qO 9 U (dD ty26 (al.mono hle) U (qL 3 [] U ?_)))))
 refine lp2 l (λi w=>[(0,.func yf ya yb),(2,.pointer (some known_q)),(3,.pointer (some from__q)),(5,.map (some b1)),(6,I w.1),(13,.slice dU l.length dT),(14,I (l.length:Int)),(15,I (i:Int))]) (λ_=>h1) (λw=>[(b1,w.2.2)]++(A)) (λi w=>jY (zD .i64) (iZ zQ) h1 w.2.2 w.2.1/\w.2.1.length<=0+i) (λs1 i w=>[]++(bH.L1 known fa (bH.K1)) s1 w.1 w.2.1) ((-1),[],.map #[] 0) ((hl.mono jN hle).1.1) hs0 ⟨(jY.nil (enc:=(zD .i64)) (V:=(iZ zQ)) (h:=h1)),lc⟩ ?_ ?_
 .rintro i1 ⟨rT,bx,im⟩ ft hs1 ⟨fP,n8⟩ e
  try dsimp only at fP n8
  refine qT 3 U (Ew 0 U b1M (λh8 hle7 hb3=>?_))
  have mc2:tQ (zD .i64) (iZ zQ) h8 b1 bx:=⟨_,hb3,fP.mono (iZ.mono jN) hle7⟩
  refine aA (cC call169 (yi h8 bx b1 mc2) U (λv4 h9 hle8 hp3=>aA (cC call168 (ze h9 v4 (bx.map Prod.fst) hp3 (by rw[List.length_map];omega)) U (λv5 h10 hle9 hp4=>?_))))
  obtain⟨rb2,rc2,rfl,sl2⟩:=hp4
  refine qL 3 [] U ?_
  refine lp2 (sortI (bx.map Prod.fst)) (λi w=>[(0,.func yf ya yb),(5,.map (some b1)),(39,.slice rb2 ((sortI (bx.map Prod.fst)).length) rc2),(40,I ((sortI (bx.map Prod.fst)).length:Int)),(41,I (i:Int))]) (λw=>w.2.2) (λw=>w.2.1) (λi w=>C w.1 w.2.2 w.2.1/\xM h10 w.2.2) (λs2 i w=>w.1++(bH.L2 bx (bH.K2)) s2) ([],A,h10) sl2.1.1 hs1 ⟨(m1 _ _ _ _ ((hle7.t hle8).t hle9) hC),lf⟩ ?_ ?_
  .rintro i2 ⟨dn2,A2_,hh2⟩ CG hs2 ⟨hC2_,hl2⟩ e
   try dsimp only at hC2_ hl2
   refine ej ?_
   have hs3:bH l known fa=dn2:=hs2.trans (List.append_nil _)
   exact tr [] (A:=A2_) Od U (List.Sublist.refl _) (.inl (hs3▸hC2_))
  rintro i2 ⟨dn2,A2_,hh2⟩ y2 rz2 hd2 wX uZ Fz NJ hs4 ⟨hC2_,hl2⟩ hx2 ag1 e
  try dsimp only at hC2_ hl2
  refine sr (tO wX U (qO 8 U (aA (iF (λy=>[I y]) dy ty3 (sl2.mono xH hl2).1 uZ U U U (λq4 A10=>dD ty3 A10 U (qO 8 U ?_))))))
  obtain⟨o3,hb5,hm5⟩:=(mc2.mono (iZ.mono jN) ((hle8.t hle9).t hl2))
  refine aA (od (k:=y2) Oj (fU ox) hb5 hm5 (fp zv105) (show(iZ zQ) _ (.agg (vB [I 0,I 0,I 0,.string (⟨#[]⟩:ByteArray),.slice none 0 0,.slice none 0 0,.slice none 0 0,I 0,I 0,I 0,.string (⟨#[]⟩:ByteArray),.slice none 0 0,I 0])) (Tk 0 0 0 (zP (⟨#[]⟩:ByteArray) [] [] [] (qH 0 0 0 (⟨#[]⟩:ByteArray) []) 0))from⟨_,U,(pM.mk (eQ.mk none 0 none 0 none 0 (cR.mk none 0))),U,⟨⟨vE,vE,vE,(Expr.ok.of vE)⟩⟩⟩) U U (λv7 hv3=>?_))
  obtain⟨_,rfl,rr4,rfl,ok4⟩:=hv3
  have hx3:bH l known fa=dn2++((y2,(mgetD bx y2 (Tk 0 0 0 (zP (⟨#[]⟩:ByteArray) [] [] [] (qH 0 0 0 (⟨#[]⟩:ByteArray) []) 0))))::(bH.L2 bx (bH.K2) rz2)):=hs4
  refine aA (lv ([]) A2_ ap (hy dn2 (y2,(mgetD bx y2 (Tk 0 0 0 (zP (⟨#[]⟩:ByteArray) [] [] [] (qH 0 0 0 (⟨#[]⟩:ByteArray) []) 0)))) _ _ _ _ hx3 (((hle7.t hle8).t hle9).t hl2) hC2_ ⟨rr4,U,ok4⟩) U U (λh14 A11 hle13 hC3=>?_) (λh15 A12 hle14 hS3=>?_) (λch3 h16 A13 hle15 hP3 e=>gK (nC [] (A:=A13) Od (List.sublist_append_right _ _) hP3)))
  .have hs5:bH l known fa=(dn2++[(y2,(mgetD bx y2 (Tk 0 0 0 (zP (⟨#[]⟩:ByteArray) [] [] [] (qH 0 0 0 (⟨#[]⟩:ByteArray) []) 0))))])++((bH.L2 bx (bH.K2) rz2)):=hx3.trans ap
   exact nF U (qO 5 U (oi i2 U (qO 2 U (ag1 ((dn2++[(y2,(mgetD bx y2 (Tk 0 0 0 (zP (⟨#[]⟩:ByteArray) [] [] [] (qH 0 0 0 (⟨#[]⟩:ByteArray) []) 0))))]),A11,h14) hs5 ⟨hC3,(hl2.t hle13)⟩))))
  exact nF U (qO 2 U (ej (nn [] (A:=A12) Od U (List.Sublist.refl _) (.inr hS3))))
 rintro i1 ⟨rT,bx,im⟩ y1 rz1 hd1 cY aJ dY gy hs6 ⟨fP,n8⟩ hx1 ag2 e
 try dsimp only at fP n8
 refine sr (tO cY U (qO 8 U (aA (iR xg ty105 (hl.mono jN hle).1 aJ U U U (λ_ _ _ e=>e) (λq5 r2 A14 ok5=>dv ty105 A14 U U (aS zc105 (λb3=>aR 0 ty105 U U U U U U (iO (L':=[(b3,O (SU y1 r2) 105),(b1,im)]++(A)) U (qL 6 [0] U (dD ty3 (aknown.mono hle) U (qO 2 U (j1 U (λc5=>?_) (λc5=>?_)))))))))))))
 .have c5p:=of_decide_eq_true c5
  have hs7:=hs6.trans (congrArg ([]++·) (bt c5))
  exact lM U (bC (oi i1 U (qO 2 U (ba (L':=[(b1,im)]++(A)) js (ag2 (rT,bx,im) hs7 ⟨fP,lc⟩)))))
 have c5p:=of_decide_eq_false c5
 have hs8:=hs6.trans (congrArg ([]++·) (bf c5))
 refine qK 11 [0] U (dD ty3 (afrom_.mono hle) U (qO 2 U (j1 U (λc6=>?_) (λc6=>?_))))
 .have c6p:=of_decide_eq_true c6
  have hs9:=hs8.trans (congrArg ([]++·) (bt c6))
  refine qT 7 U (j1 U (λc7=>?_) (λc7=>?_))
  .have c7p:=of_decide_eq_true c7
   have hs10:=hs9.trans (congrArg ([]++·) (bt c7))
   exact lM U (bC (oi i1 U (qO 2 U (ba (L':=[(b1,im)]++(A)) js (ag2 (rT,bx,im) hs10 ⟨fP,lc⟩)))))
  have c7p:=of_decide_eq_false c7
  have hs11:=hs9.trans (congrArg ([]++·) (bf c7))
  exact aH (eh ([(b3,O (SU y1 r2) 105),(b1,im)]) mixed kr jn (λdt _=>tm 0 U (tf 1 U U (rh ty3 (afrom_.mono hle) U) (qA [2,3] U (aG kr (qT 3 U (cN 0 ty105 U U U (aA (ll 1 (k:=fa) (x:=y1) Oj (fU ox) U fP U U ⟨_,U,r2,U,ok5⟩ (λmo3 hm6=>qO 3 U (oi i1 U (qO 2 U (ba (L':=[(b1,mo3)]++(A)) js (ag2 (y1.At,(mput bx fa y1),mo3) hs11 ⟨hm6,(by have:=nu bx fa y1;first|omega|(simp only[jC,xA]at *;omega))⟩))))))))))))))
 have c6p:=of_decide_eq_false c6
 have hs12:=hs8.trans (congrArg ([]++·) (bf c6))
 exact aH (qT 3 U (cN 0 ty105 U U U (aA (ll 1 (k:=y1.At) (x:=y1) Oj (fU ox) U fP U U ⟨_,U,r2,U,ok5⟩ (λmo4 hm7=>qO 3 U (oi i1 U (qO 2 U (ba (L':=[(b1,mo4)]++(A)) js (ag2 (rT,(mput bx y1.At y1),mo4) hs12 ⟨hm7,(by have:=nu bx y1.At y1;first|omega|(simp only[jC,xA]at *;omega))⟩)))))))))
theorem zc(h:HF)(l:List Version)(dU:Option Addr)(dT:Nat)(cu:Int)(known:Int)(hl:SlC zQ h dU dT l)(hsz:l.length<=2000000):i9 prog 86 [.slice dU l.length dT,I cu,I known] h (λv h'=>∃(rv0:Value),v=rv0/\Itr prog rv0 rQ (gi l cu known) h'):=by
 refine sT func86 U ntmps86 U λX hM hX hF=>?_
 have hs0:=@rfl _ (gi l cu known)
 refine sr (bS (λb1=>bS (λb2=>bS (λb3=>qO 4 U (aO 2 U hM (λh1 hle1 hb1=>aO 0 U hM (λh2 hle2 hb2=>aO 0 U hM (λh3 hle3 hb3=>aA (eI U U (qO 2 U ?_))))))))))
 have hs1:gi l cu known=(bH l known cu):=hs0
 exact nretH [.func (.func 167) #[] #[Q b1,Q b3,Q b2]] (hs1▸⟨(.func (.func 167) #[] #[Q b1,Q b3,Q b2]),U,(wO h3 l dU dT ⟨b1,0,none⟩ known ⟨b3,0,none⟩ cu ⟨b2,0,none⟩ (hl.mono jN ((hle1.t hle2).t hle3)) ((cz hb1).mono (hle2.t hle3)) ((cz hb2).mono hle3) (cz hb3) ob)⟩)
theorem ra(h:HF)(l:List Version)(dU:Option Addr)(dT:Nat)(old:Bool)(hl:SlC zQ h dU dT l):i9 prog 170 [.slice dU l.length dT,.bool old] h (λv h'=>∃(rb0:Option Addr)(rc0:Nat),v=.slice rb0 (jd l old).length rc0/\SlC zQ h' rb0 rc0 (jd l old)):=by
 refine sT func170 U ntmps170 U λX hM hX hF=>?_
 have hs0:=@rfl _ (jd l old)
 refine qT 9 U ?_
 have hs1:jd l old=l:=hs0
 exact nretH [.slice dU l.length dT] (hs1▸⟨dU,dT,U,hl⟩)
theorem xa(h:HF)(l:List Version)(dU:Option Addr)(dT:Nat)(old:Bool)(hl:SlC zQ h dU dT l)(hne:0<l.length):i9 prog 171 [.slice dU l.length dT,.bool old] h (λv h'=>∃(rb0:Option Addr)(rc0:Nat),v=.slice rb0 (iI l old).length rc0/\SlC zQ h' rb0 rc0 (iI l old)):=by
 refine sT func171 U ntmps171 U λX hM hX hF=>?_
 have hs0:=@rfl _ (iI l old)
 refine qT 10 U (ae hs0 U (λc1 hs1=>?_) (λc1 hs2=>?_))
 .refine qT 4 U ?_
  have hs3:iI l old=[]:=hs1
  exact nretH [.slice none 0 0] ⟨none,0,congrArg (λr:List Version=>(.slice none r.length 0:Value)) hs3.symm,(by rw[hs3];exact vE)⟩
 refine qT 4 U (aA (OQ xg ty105 hl.1 hl.2 ob U U U (λsb1 sc1 sl1=>an ?_)))
 have hs4:iI l old=(l.take ((1:Int)).toNat):=hs2
 exact nretH [.slice sb1 ((l.take ((1:Int)).toNat).length) sc1] ⟨sb1,sc1,congrArg (λr:List Version=>(.slice sb1 r.length sc1:Value)) hs4.symm,(by rw[hs4];exact sl1)⟩
theorem w9(h:HF)(l:List Version)(dU:Option Addr)(dT:Nat)(old:Bool)(hl:SlC zQ h dU dT l)(hne:0<l.length):i9 prog 172 [.slice dU l.length dT,.bool old] h (λv h'=>∃(rb0:Option Addr)(rc0:Nat),v=.slice rb0 (jc l old).length rc0/\SlC zQ h' rb0 rc0 (jc l old)):=by
 refine sT func172 U ntmps172 U λX hM hX hF=>?_
 have hs0:=@rfl _ (jc l old)
 have hbl:=hl.1.1
 refine qK 9 [] U (j9 (v':=I ((l.length:Int)-1)) U (j0 ob) (aA (OS xg ty105 hl.1 hl.2 ob U U U (λsb1 sc1 sl1=>an ?_))))
 have hs1:jc l old=(l.drop ((((l.length:Int)-1):Int)).toNat):=hs0
 exact nretH [.slice sb1 ((l.drop ((((l.length:Int)-1):Int)).toNat).length) sc1] (hs1▸⟨sb1,sc1,U,sl1⟩)
theorem sM(h:HF)   : i9 prog 87 [] h (λv h'=>∃(rk0:Nat),v=.map (some rk0)/\tQ (zD .i64) VFn h' rk0 (ml)):=by
 refine sT func87 U ntmps87 U λX hM hX hF=>?_
 have hs0:=@rfl _ (ml)
 refine qT 10 U (aA (oK (λb1=>aA (xn 0 (k:=1) (x:=(Value.func (.func 171) #[] #[])) I8 (fU ox) U (jY.nil (enc:=(zD .i64)) (V:=VFn) (h:=h)) U U U (λmo1 hm1=>aA (xn 0 (k:=2) (x:=(Value.func (.func 172) #[] #[])) I8 (fU ox) U hm1 U U U (λmo2 hm2=>av (aA (xn 0 (k:=3) (x:=(Value.func (.func 170) #[] #[])) I8 (fU ox) U hm2 U U U (λmo3 hm3=>av (aA (xn 0 (k:=4) (x:=(Value.func (.func 170) #[] #[])) I8 (fU ox) U hm3 U U U (λmo4 hm4=>qO 3 U (eC 0 U hM (λh1 hle1 hb1=>?_)))))))))))))))
 have mc1:tQ (zD .i64) VFn h1 b1 (mput (mput (mput (mput ([]) 1 (Value.func (.func 171) #[] #[])) 2 (Value.func (.func 172) #[] #[])) 3 (Value.func (.func 170) #[] #[])) 4 (Value.func (.func 170) #[] #[])):=⟨_,hb1,hm4.mono VFn.mono hle1⟩
 have hs1:ml=(mput (mput (mput (mput ([]) 1 (Value.func (.func 171) #[] #[])) 2 (Value.func (.func 172) #[] #[])) 3 (Value.func (.func 170) #[] #[])) 4 (Value.func (.func 170) #[] #[])):=hs0
 exact nretH [.map (some b1)] (hs1▸⟨b1,U,mc1⟩)
theorem Km(mode:Int)(l:List Version)(old:Bool):(judgesP mode l old).length<=l.length:=by
 unfold judgesP jd iI jc
 cases mode==1<;>cases mode==2<;>cases old<;>simp<;>omega
theorem Kk(h:HF)(mode:Int)(hm:1<=mode/\mode<=4)(l:List Version)(dU:Option Addr)(dT:Nat)(old:Bool)(hl:SlC zQ h dU dT l)(hne:0<l.length):
  Q5 prog (mgetD ml mode Value.nilFunc) [.slice dU l.length dT,.bool old] h (λv h'=>∃(rb0:Option Addr)(rc0:Nat),v=.slice rb0 (judgesP mode l old).length rc0/\SlC zQ h' rb0 rc0 (judgesP mode l old)):=by
 have:mode=1\/mode=2\/mode=3\/mode=4:=by omega
 rcases this with rfl|rfl|rfl|rfl
 .exact nO (cap:=[]) (args:=[.slice dU l.length dT,.bool old]) call171 (xa h l dU dT old hl hne)
 .exact nO (cap:=[]) (args:=[.slice dU l.length dT,.bool old]) call172 (w9 h l dU dT old hl hne)
 .exact nO (cap:=[]) (args:=[.slice dU l.length dT,.bool old]) call170 (ra h l dU dT old hl)
 exact nO (cap:=[]) (args:=[.slice dU l.length dT,.bool old]) call170 (ra h l dU dT old hl)
theorem Ah(h:HF)(l:List Version)(dU:Option Addr)(dT:Nat)(begun:Int)(bI:Int)(known:Int)(hl:SlC zQ h dU dT l)(hsm:smV l)(hk:Kinds h):i9 prog 22 [.slice dU l.length dT,I begun,I bI,I known] h (λv h'=>∃(rb0:Option Addr)(rc0:Nat),v=.tuple #[.slice rb0 ((bz l begun bI known).1).length rc0,I ((bz l begun bI known).2.1),I ((bz l begun bI known).2.2)]/\SlC kB h' rb0 rc0 ((bz l begun bI known).1)):=by
 refine cH I7 U ntmps22 U λX hM hX=>?_
 have hs0:=@rfl _ (bz l begun bI known)
 have hsl:=hsm.len
 refine sr (bS (λb1=>bS (λb2=>qO 8 U (ai call69 (ru _ _ _ _ hl ob hk) U (qO 7 U (ae hs0 U (λc1 hs1=>?_) (λc1 hs2=>?_)))))))
 .refine qT 7 U ?_
  have hs3:bz l begun bI known=([],0,(bG l)):=hs1
  exact ld [.slice none 0 0,I 0,I (bG l)] I7 U rd ⟨none,0,congrArg (λr:(List Int×Int×Int)=>(.tuple #[.slice none r.1.length 0,I r.2.1,I r.2.2]:Value)) hs3.symm,(by rw[hs3];exact vE)⟩
 refine qK 5 [1] U (ai call85 (oN h begun) U (qO 2 U (bL 4 [25,26,27,28,29] 25 29 (!(hZ bI)) U (λc2 hk1=>?_) (λe=>?_))))
 .exact qL 1 [0] U (ai call85 (oN h bI) U (qO 2 U (hk1 _ U)))
 refine av (bL 4 [30,31,32,33,34] 30 34 (!(hZ known)) U (λc3 hk2=>?_) (λe=>?_))
 .exact av (ai call85 (oN h known) U (qO 2 U (hk2 _ U)))
 refine av (bL 4 [35,36,37,38,39] 35 39 (decide (bI<begun)) U (λc4 hk3=>?_) (λe=>?_))
 .exact qL 4 [1,0] U (hk3 _ U)
 refine aI (ae hs2 U (λc5 hs4=>?_) (λc5 hs5=>?_))
 .refine qT 6 U ?_
  have hs6:bz l begun bI known=([],0,1):=hs4
  exact ld [.slice none 0 0,I 0,I 1] I7 U rd ⟨none,0,congrArg (λr:(List Int×Int×Int)=>(.tuple #[.slice none r.1.length 0,I r.2.1,I r.2.2]:Value)) hs6.symm,(by rw[hs6];exact vE)⟩
 refine qT 3 U (aS zc26 (λb3=>qO 3 U (aS zc4 (λb4=>cK 0 ty4 U U U U U U (qL 7 [3] U (aA (cC call86 (zc _ _ _ _ begun known hl ob) U (λv1 h1 hle1 hp1=>?_))))))))
 obtain⟨_,rfl,mo1⟩:=hp1
 refine qO 2 U (ej (bW (L':=([(b4,O [.bool false] 4),(b3,O [.slice none 0 0] 26),(b2,O [I bI] 3),(b1,O [I begun] 3)])++markB []) ap ?_))
 refine Nh (it:=v1) (xs:=(gi l begun known)) (ι:=Bool×List Version×Option Addr×Nat×LH×HF) [] (λi=>i.2.2.2.2.2) (λi=>[(b4,O [.bool i.1] 4),(b3,O [.slice i.2.2.1 i.2.1.length i.2.2.2.1] 26),(b2,O [I bI] 3),(b1,O [I begun] 3)]++(i.2.2.2.2.1)) (λs i=>bz l begun bI known=((bz.L1 begun bI (bz.K1)) s i.1 i.2.1)/\cZ zQ 105 i.2.2.2.2.2 i.2.1 i.2.2.1 i.2.2.2.1 i.2.2.2.2.1/\xM h1 i.2.2.2.2.2/\(∀x∈i.2.1,x∈l)/\(∀q∈s,q.2∈l)/\i.2.1.length+s.length<=l.length) (λ_=>False) 0 (λ_ _ _=>False) (false,[],none,0,[],h1) I7 U mo1 U zu (λ_ _ _ _ _ hq=>hq) U (show[(b4,O [.bool false] 4),(b3,O [.slice none 0 0] 26),(b2,O [I bI] 3),(b1,O [I begun] 3)]=_ from U) ⟨hs5,cZ.nil,lf,(λx hx=>(vA hx).elim),yo,(by have:=Do l begun known;simpa using this)⟩ ?_ ?_ ?_ ?_
 .rintro l1 dm1 lp1 y1 rz1 vs1 ⟨eM,bZ,lJ,lI,lK,hh1⟩ hr1 X hFR1 ⟨hs7,nv,hl1,u1_0,u1_1,u1_2⟩ hl01 hlr1 hv1 hX hXM hlp1 nx1 rt1 ex1 pn1
  try dsimp only at nv hl1 u1_0 u1_1 u1_2 hlr1
  obtain⟨rr1_0,rfl,ok1_0⟩:=hv1
  simp only[xA]at u1_2
  let z2:Nat×Obj:=(b3,O [.slice lJ bZ.length lI] 26)
  let z6:Nat×Obj:=(dm1,.deferred (some []))
  refine bW (L':=[(l1,.loop lp1),z6,(b4,O [.bool eM] 4),z2,(b2,O [I bI] 3),(b1,O [I begun] 3)]++(lK++(markB []))) ap (qT 5 U (aS zc105 (λb6=>aR 0 ty105 U U U U U U (iO (L':=[(b6,O (SU y1.2 rr1_0) 105),(l1,.loop lp1),z6,(b4,O [.bool eM] 4),z2,(b2,O [I bI] 3),(b1,O [I begun] 3)]++(lK++(markB []))) U (aI (j2 1 U hlp1 (qK 8 [5] U (ae hs7 U (λc7 hs8=>?_) (λc7 hs9=>?_)))))))))
  .have c7p:=of_decide_eq_true c7
   exact ba (L':=[(l1,.loop { lp1 with state:=.busy }),z6,(b4,O [.bool eM] 4),z2,(b2,O [I bI] 3),(b1,O [I begun] 3)]++(lK++(markB []))) js (bW (L':=rdH l1 dm1 lp1 (([(b4,O [.bool eM] 4),z2,(b2,O [I bI] 3),(b1,O [I begun] 3)]++(lK))++markB [])) ap (ex1 (eM,bZ,lJ,lI,lK,hr1) _ _ _ ⟨hs8,(nv.mono jN hlr1),(hl1.t hlr1),u1_0,(λq hq=>(vA hq).elim),(by simp only[jC,xA]at *;omega)⟩ lf U))
  have c7p:=of_decide_eq_false c7
  refine qK 5 [3] U (bL 4 [50,51,52,53,54] 50 54 (y1.1==begun) U (λc8 hk4=>?_) (λe=>?_))
  .exact qL 4 [6] U (hk4 _ U)
  refine cK 3 ty4 U U U U U U (qL 3 [4] U (cN 0 ty105 U U U (aA (aV (cells:=[I y1.2.No,I y1.2.At,I y1.2.Known,.string y1.2.Policy.Name,.slice rr1_0.Policy.jj y1.2.Policy.Kinds.length rr1_0.Policy.ji,.slice rr1_0.Policy.gE y1.2.Policy.Offices.length rr1_0.Policy.gD,.slice rr1_0.Policy.ot y1.2.Policy.Rules.length rr1_0.Policy.oq,I y1.2.Policy.Change.Kind,I y1.2.Policy.Change.N,I y1.2.Policy.Change.No,.string y1.2.Policy.Change.Name,.slice rr1_0.Policy.Change.mL y1.2.Policy.Change.L.length rr1_0.Policy.Change.m4,I y1.2.Policy.Mode]) xg ty105 zc105 U U kr (λb7=>?_)))))
  let z1:Nat×Obj:=(b7,O [I y1.2.No,I y1.2.At,I y1.2.Known,.string y1.2.Policy.Name,.slice rr1_0.Policy.jj y1.2.Policy.Kinds.length rr1_0.Policy.ji,.slice rr1_0.Policy.gE y1.2.Policy.Offices.length rr1_0.Policy.gD,.slice rr1_0.Policy.ot y1.2.Policy.Rules.length rr1_0.Policy.oq,I y1.2.Policy.Change.Kind,I y1.2.Policy.Change.N,I y1.2.Policy.Change.No,.string y1.2.Policy.Change.Name,.slice rr1_0.Policy.Change.mL y1.2.Policy.Change.L.length rr1_0.Policy.Change.m4,I y1.2.Policy.Mode] 105)
  let z4:Nat×Obj:=(b4,O [.bool (eM||(y1.1==begun))] 4)
  let z5:Nat×Obj:=(l1,.loop { lp1 with state:=.busy })
  let z7:Nat×Obj:=(b6,O (SU y1.2 rr1_0) 105)
  refine aA (cd Version.eo ([z1,z7,z5,z6,z4,z2,(b2,O [I bI] 3),(b1,O [I begun] 3)]) (markB []) (λG=>[z1,z7,z5,z6,z4,z2,(b2,O [I bI] 3),(b1,O [I begun] 3)]++(markB []++G)) ap (λ_=>ap) xg ty105 zc105 U bytes105 (nv.mono jN hlr1) U U (dX 0 U (cE (R:=zQ) (y1.2) U ⟨rr1_0,U,ok1_0⟩)) lo lo (λob1 oc1 G1 gr1=>yH (sH ([z1,z7,z5,z6,z4,z2,(b2,O [I bI] 3),(b1,O [I begun] 3)]) G1 (markB [])) (cK 5 ty26 U U U U U U (qO 2 U ?_))))
  let z9:Nat×Obj:=(b3,O [.slice ob1 ((bZ++[y1.2]).length) oc1] 26)
  exact ba (L':=[z5,z6,z4,z9,(b2,O [I bI] 3),(b1,O [I begun] 3)]++(G1++(markB []))) js (bW (L':=rdH l1 dm1 lp1 (([z4,z9,(b2,O [I bI] 3),(b1,O [I begun] 3)]++G1)++markB [])) ap (nx1 ((eM||(y1.1==begun)),(bZ++[y1.2]),ob1,oc1,G1,hr1) _ _ ⟨hs9,gr1,(hl1.t hlr1),(λx hx=>(jE.1 hx).elim (u1_0 x) (λhx=>by rw[qC.1 hx];exact u1_1 y1 (zB ..))),(λq hq=>u1_1 q (kA _ hq)),(by simp only[xB,xA,jC]at *;omega)⟩ lf))
 .rintro dm1 ⟨eM,bZ,lJ,lI,lK,hh1⟩ hn1 ⟨hs10,nv,hl1,u1_0,u1_1,u1_2⟩ hln1 hl01
  try dsimp only at nv hl1 u1_0 u1_1 u1_2 hln1
  let z3:Nat×Obj:=(b3,O [.slice lJ bZ.length lI] 26)
  refine bW (L':=[(b4,O [.bool eM] 4),z3,(b2,O [I bI] 3),(b1,O [I begun] 3)]++(lK++(markB (dm1::[])))) ap (qK 7 [1] U (ae hs10 U (λc9 hs11=>?_) (λc9 hs12=>?_)))
  .refine qT 6 U ?_
   have hs13:bz l begun bI known=([],0,0):=hs11
   exact bW (L':=([(b4,O [.bool eM] 4),z3,(b2,O [I bI] 3),(b1,O [I begun] 3)]++(lK))++markB (dm1::[])) ap (re (dm1::[]) [.slice none 0 0,I 0,I 0] I7 U rd ⟨none,0,congrArg (λr:(List Int×Int×Int)=>(.tuple #[.slice none r.1.length 0,I r.2.1,I r.2.2]:Value)) hs13.symm,(by rw[hs13];exact vE)⟩)
  refine qK 6 [1,1] U (j9 (v':=I ((bZ.length:Int)-1)) U (j0 ob) (sR jN ([(b4,O [.bool eM] 4),z3,(b2,O [I bI] 3),(b1,O [I begun] 3)]) lK (markB (dm1::[])) ap hM (nv.mono jN hln1) (λh2 hle2 sl1=>?_)))
  have ho1:0<=(((bZ.length:Int)-1):Int)/\(((bZ.length:Int)-1):Int)<((bZ).length:Int):=ob
  refine aA (Ci xg ty105 sl1.1 ho1 (de ho1) U U U (λ_ _ _ e=>e) (λq1 r1 A1 ok1=>qL 2 [] U (jk (j:=12) ty3 A1 U U (qO 4 U (eh ([(b4,O [.bool eM] 4),z3,(b2,O [I bI] 3),(b1,O [I begun] 3)]) mixed kr jn (λdt _=>tm 1 U (tf 3 U U (rj 1 ty26 U U U) (tf 4 U U (rj 0 ty4 U U U) (tm 7 U (tn 0 U (cC call87 (sM h2) U (λv2 h3 hle3 hp2=>?_))))))))))))
  obtain⟨rk2,rfl,mo2⟩:=hp2
  refine⟨jl hle3,tu hle3 (tn 2 U ?_)⟩
  obtain⟨o1,hb1,hm1⟩:=mo2
  refine od (k:=(nthI bZ ((bZ.length:Int)-1)).Policy.Mode) I8 (fU ox) hb1 hm1 (fp zv152) (show VFn _ (.nilFunc) Value.nilFunc from U) U U (λv3 hv1=>?_)
  obtain rfl:=hv1
  refine⟨jn,tn 5 U (OX (Kk h3 ((nthI bZ ((bZ.length:Int)-1)).Policy.Mode) (((rJ l).1 (by simpa using c1)).mode (u1_0 _ (nt ho1))) bZ lJ lI eM (sl1.mono jN hle3) ob) U U (λv4 h4 hle4 hp3=>?_))⟩
  obtain⟨rb1,rc1,rfl,sl2⟩:=hp3
  have hjl:=Km ((nthI bZ ((bZ.length:Int)-1)).Policy.Mode) bZ eM
  refine⟨jl hle4,tu hle4 (tf 6 U U (λ_ _ _=>JQ xg U) (aG kr ?_))⟩
  refine lp2 (judgesP ((nthI bZ ((bZ.length:Int)-1)).Policy.Mode) bZ eM) (λi w=>[(8,.slice w.2.1 w.1.length w.2.2.1),(9,I ((nthI bZ ((bZ.length:Int)-1)).Policy.Mode)),(75,.slice rb1 ((judgesP ((nthI bZ ((bZ.length:Int)-1)).Policy.Mode) bZ eM).length) rc1),(76,I (((judgesP ((nthI bZ ((bZ.length:Int)-1)).Policy.Mode) bZ eM).length:Nat):Int)),(77,I (i:Int))]) (λ_=>h4) (λw=>[(b4,O [.bool eM] 4),z3,(b2,O [I bI] 3),(b1,O [I begun] 3)]++(w.2.2.2++(markB (dm1::[])))) (λi w=>cZ kB 3 h4 w.1 w.2.1 w.2.2.1 w.2.2.2/\w.1.length<=0+i) (λs2 i w=>(bz.L2 (bz.K2 bZ)) s2 w.1) ([],none,0,[]) sl2.1.1 hs12 ⟨cZ.nil,lo⟩ ?_ ?_
  .rintro i2 ⟨rR,yr,yq,Ac⟩ ft hs14 ⟨wJ,FH⟩ e
   try dsimp only at wJ FH
   refine qT 3 U (aA (nQ ([(b4,O [.bool eM] 4),z3,(b2,O [I bI] 3),(b1,O [I begun] 3)]) Ac (markB (dm1::[])) Oh (nf h4 rR yr yq Ac wJ (by first|assumption|omega|(simp only[xB,xA,jC] ;omega))) ap U (λG4 gr4=>qO 9 U (eY xH ([(b4,O [.bool eM] 4),z3,(b2,O [I bI] 3),(b1,O [I begun] 3)]) G4 (markB (dm1::[])) ap hM gr4 (λh6 hle6 sl4=>?_)))))
   have hs15:bz l begun bI known=((sortI rR),(nthI bZ ((bZ.length:Int)-1)).Policy.Mode,0):=hs14
   exact bW (L':=([(b4,O [.bool eM] 4),z3,(b2,O [I bI] 3),(b1,O [I begun] 3)])++markB (dm1::[])) ap (re (dm1::[]) [.slice yr rR.length yq,I ((nthI bZ ((bZ.length:Int)-1)).Policy.Mode),I 0] I7 U rd ⟨yr,yq,(by rw[hs15];simp[retVal,iV]),(by rw[hs15];exact sl4)⟩)
  rintro i2 ⟨rR,yr,yq,Ac⟩ y2 rz2 hd2 wX uZ Fz NJ hs16 ⟨wJ,FH⟩ hx2 ag1 e
  try dsimp only at wJ FH
  refine sr (tO wX U (qO 8 U (aA (iR xg ty105 sl2.1 uZ U U U (λ_ _ _ e=>e) (λq3 r3 A3 ok3=>dv ty105 A3 U U (aS zc105 (λb10=>aR 0 ty105 U U U U U U (iO (L':=[(b10,O (SU y2 r3) 105),(b4,O [.bool eM] 4),z3,(b2,O [I bI] 3),(b1,O [I begun] 3)]++(Ac++(markB (dm1::[])))) U ?_))))))))
  let z8:Nat×Obj:=(b10,O (SU y2 r3) 105)
  exact qL 5 [0] U (aA (aV (cells:=[I y2.No]) dy ty3 zc3 U U kr (λb11=>aA (cd SL ([(b11,O [I y2.No] 3),z8,(b4,O [.bool eM] 4),z3,(b2,O [I bI] 3),(b1,O [I begun] 3)]) (markB (dm1::[])) (λG=>[(b11,O [I y2.No] 3),z8,(b4,O [.bool eM] 4),z3,(b2,O [I bI] 3),(b1,O [I begun] 3)]++(markB (dm1::[])++G)) ap (λ_=>ap) dy ty3 zc3 U bytes3 wJ U U (dX 0 U (cE (y2.No) U U)) lo lo (λob3 oc3 G5 gr5=>yH (sH ([(b11,O [I y2.No] 3),z8,(b4,O [.bool eM] 4),z3,(b2,O [I bI] 3),(b1,O [I begun] 3)]) G5 (markB (dm1::[]))) (qO 4 U (oi i2 U (qO 2 U (ba (L':=[(b4,O [.bool eM] 4),z3,(b2,O [I bI] 3),(b1,O [I begun] 3)]++(G5++(markB (dm1::[])))) js (ag1 ((rR++[y2.No]),ob3,oc3,G5) hs16 ⟨gr5,lo⟩))))))))))
 .exact xf
 exact xf
theorem AQ(h:HF)(mode:Int)(permits:List Bool)(pc:Option Addr)(pb:Nat)(hpermits:SlC UP h pc pb permits):Ret prog 190 [I mode,.slice pc permits.length pb] h (I (lj mode permits)):=by
 refine sT func190 U ntmps190 U λX hM hX hF=>?_
 have hs0:=@rfl _ (lj mode permits)
 refine qT 7 U (aA (cC call87 (sM h) U (λv1 h1 hle1 hp1=>?_)))
 obtain⟨rk1,rfl,mo1⟩:=hp1
 refine av ?_
 obtain⟨o1,hb1,hm1⟩:=mo1
 refine aA (tT (k:=mode) I8 (fU ox) hb1 hm1 (fp zv152) (show VFn _ (.nilFunc) Value.nilFunc from U) U U (λv2 hv1=>?_))
 obtain rfl:=hv1
 refine qO 11 U (ae hs0 U (λc1 hs1=>?_) (λc1 hs2=>?_))
 .exact sr (an (nretP [I 270] (ci hs1)))
 refine qK 8 [] U (ae hs2 U (λc2 hs4=>?_) (λc2 hs5=>?_))
 .have c2p:=of_decide_eq_true c2
  exact sr (an (nretP [I 1] (ci hs4)))
 have c2p:=of_decide_eq_false c2
 exact aH (qT 4 U (nretP [I 0] (ci hs5)))
theorem uy(h:HF)(s:List Bool)(sY:Option Addr)(sX:Nat)(f:(Bool->Bool))(f_v:Value)(hs:SlC UP h sY sX s)(hf:∀(h':HF)(dE:Bool),xM h h'->uL prog f_v [.bool dE] h' [] (.bool (f dE))):Ret prog 287 [.slice sY s.length sX,f_v] h (I (fC s f)):=by
 refine sT func287 U ntmps287 U λX hM hX hF=>?_
 have hs0:=@rfl _ (fC s f)
 refine qK 11 [] U ?_
 refine lp0 s (λi=>[(0,.slice sY s.length sX),(1,f_v),(7,I (s.length:Int)),(8,I (i:Int))]) ([]) (λs1 i=>(fC.L1 f (fC.K1)) s1 i) hs.1.1 hs0 ?_ ?_
 .rintro i1 ft hs1 e
  exact sr (an (nretP [I (-1)] (ci hs1)))
 rintro i1 y1 rz1 hd1 cY aJ dY gy hs3 hx1 ag1 e
 refine sr (tO cY U (qO 16 U (aA (iF (λy=>[.bool y]) Hb ty4 hs.1 aJ U U U (λq2 A2=>dD ty4 A2 U (aA (mG (v:=.bool (f y1)) [] (List.nil_sublist _) (hf h y1 lf) U U (aI (ae hs3 U (λc2 hs4=>?_) (λc2 hs5=>?_))))))))))
 .exact sr (qO 3 U (nretP [I (i1:Int)] (ci hs4)))
 exact aH (qT 2 U (oi i1 U (qO 2 U (ag1 hs5))))
theorem pR(h:HF)(l:List Bool)(dU:Option Addr)(dT:Nat)(ok:(Bool->Bool))(ok_v:Value)(hl:SlC UP h dU dT l)(hok:∀(h':HF)(dE:Bool),xM h h'->uL prog ok_v [.bool dE] h' [] (.bool (ok dE))):Ret prog 191 [.slice dU l.length dT,ok_v] h (I (cV l ok)):=by
 refine sT func191 U ntmps191 U λX hM hX hF=>?_
 have hs0:=@rfl _ (cV l ok)
 exact sr (qO 6 U (ai call287 (uy _ _ _ _ ok ok_v hl hok) U (an (nretP [I (fC l ok)] (ci hs0)))))
end
end Go.Sg
