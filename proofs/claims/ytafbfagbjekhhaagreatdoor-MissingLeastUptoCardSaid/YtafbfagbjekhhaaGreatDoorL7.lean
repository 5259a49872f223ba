import Derived.Shelf.SlSortCmp.NoneTotal
import Derived.WalkKit
import Derived.Lib.Overlaps
import Derived.Test.YtafbfagbjekhhaaGreatDoorL6
/- A part of the proof of MissingLeast. -/
set_option linter.unusedVariables false
set_option linter.unusedSimpArgs false
set_option maxRecDepth 100000
open List renaming length_cons→zA,length_append→jA,not_mem_nil→kA,length_nil→zB,toArray→xB,mem_cons_self→vB,mem_cons_of_mem→xC,mem_singleton→jC,range→vD,mem_cons→kD,append_assoc→jE,nil_append→vF,cons_append→xL,mem_append_right→jP,mem_map_of_mem→WK,ext_getElem?→Xj
open Go.Sg.HF renaming le_trans→vA,le_refl→kH,le→xJ
open Go.Sg.Rp renaming int→jB,bw→vH
open Go.IntKind renaming wrap→kB,bits→Yz
open Go.Value renaming int→zC
open Bool renaming or_eq_true→zE
open Nat renaming le_refl→kE,zero_le→zH,le_trans→kL,lt_or_ge→kM
open Go.Sg.OSeat renaming cells→qF,enc→qV,mk→xV,rp→Xn
open Go.Sg.SlC renaming nil→zG
open Go.Obj renaming cells→jG
open Array renaming ext'→xS
open Go.Sg.St renaming start→W8
open Go.World renaming cell?→Xf

namespace Go.Sg
variable {p:Prop}{q:ay->Bool}
section
open Go.Proofs Go.Proofs.Tryz
set_option maxHeartbeats 2000000
theorem xx(h l fo fm aT bT dA ah)(hl:SlC aK.rp h fo fm l):Ret prog 125 [.slice fo l.length fm,I aT,I bT,I dA,I ah] h (.tuple #[I ((eQ l aT bT dA ah).1),I ((eQ l aT bT dA ah).2.1),.bool ((eQ l aT bT dA ah).2.2.1),I ((eQ l aT bT dA ah).2.2.2)]):=by
 refine sT func125 U ntmps125 U λX hM hX hF=>?_
 have hs0:=@rfl _ (eQ l aT bT dA ah)
 refine qT 11 U (aS call72 (se _ _ _ _ hl) U (qO 7 U (aH hs0 U (λc1 hs1=>?_) (λc1 hs2=>?_))))
 .refine qT 8 U ?_
  have hs3:eQ l aT bT dA ah=(0,0,false,(dD l)):=hs1
  exact nretP [I 0,I 0,.bool false,I (dD l)] (hs3▸U)
 refine qT 5 U (aS call186 (pH h aT) U (qO 2 U (gy 4 [24,25,26,27,28] 24 28 (!(kd bT)) U (λc2 hk1=>?_) (λe=>?_))))
 .exact bp (aS call187 (tP h bT) U (qO 2 U (hk1 _ U)))
 refine bp (gy 4 [29,30,31,32,33] 29 33 (!(fJ dA)) U (λc3 hk2=>?_) (λe=>?_))
 .exact bp (aS Pt (nf h dA) U (qO 2 U (hk2 _ U)))
 refine bp (gy 4 [34,35,36,37,38] 34 38 (!(fJ ah)) U (λc4 hk3=>?_) (λe=>?_))
 .exact bp (aS Pt (nf h ah) U (qO 2 U (hk3 _ U)))
 refine bo (aH hs2 U (λc5 hs4=>?_) (λc5 hs5=>?_))
 .refine qT 7 U ?_
  have hs6:eQ l aT bT dA ah=(0,0,false,1):=hs4
  exact nretP [I 0,I 0,.bool false,I 1] (hs6▸U)
 refine qT 6 U (aI (cx call189 (tN _ _ _ _ dA ah hl) U (λv1 h1 hle1 hp1=>?_)))
 obtain⟨rk1,rfl,mo1⟩:=hp1
 refine qO 2 U (aI (ie (cells:=[I aT,I bT]) (places:=[(0,1),(1,1)]) Mo zc252 kr kr ?_))
 obtain⟨o1,hb1,hm1⟩:=mo1
 refine aI (we (k:=(xV aT bT)) Pp yA hb1 hm1 (ft zv120) (show(ku aK.rp) _ (.agg (xB [I 0,I 0,I 0,I 0,I 0,I 0,.bool false])) (aK.mk 0 0 0 0 0 0 false)from⟨_,U,U⟩) U U (λv2 hv1=>?_))
 obtain⟨_,rfl,rfl⟩:=hv1
 refine qO 3 U (bH zc120 (λb1=>bE 0 ty120 U U U U U U (qO 8 U (gy 3 [52,53,54,55] 52 55 ((mgetD (dK l dA ah) (xV aT bT) (aK.mk 0 0 0 0 0 0 false)).nj) U (λc6 hk4=>?_) (λe=>?_)))))
 .exact qL 3 [0] U (hk4 _ U)
 refine bo (aH hs5 U (λc7 hs7=>?_) (λc7 hs8=>?_))
 .refine qT 7 U ?_
  have hs9:eQ l aT bT dA ah=(0,0,false,0):=hs7
  exact nretP [I 0,I 0,.bool false,I 0] (hs9▸U)
 refine qT 2 U (eY ([(b1,O (aK.cells (mgetD (dK l dA ah) (xV aT bT) (aK.mk 0 0 0 0 0 0 false))) 120)]) mixed kr jn (λgK _=>qB [0] U (tf 1 U U (rj 0 ty3 U U U) (qB [2] U (tf 3 U U (rj 0 ty3 U U U) (qR 4 4 U (bO kr ?_)))))))
 have hs10:eQ l aT bT dA ah=((mgetD (dK l dA ah) (xV aT bT) (aK.mk 0 0 0 0 0 0 false)).No,(mgetD (dK l dA ah) (xV aT bT) (aK.mk 0 0 0 0 0 0 false)).gj,true,0):=hs8
 exact nretP [I ((mgetD (dK l dA ah) (xV aT bT) (aK.mk 0 0 0 0 0 0 false)).No),I ((mgetD (dK l dA ah) (xV aT bT) (aK.mk 0 0 0 0 0 0 false)).gj),.bool true,I 0] (hs10▸U)
theorem tw(h s pS pK)(f:(ay->Bool))(f_v)(hs:SlC ay.rp h pS pK s)(hf:∀(h':HF)(el:ay),xJ h h'->qX prog f_v [.agg (ay.cells el).toArray] h' [] (.bool (f el))):Ret prog 317 [.slice pS s.length pK,f_v] h (I (cY s f)):=by
 refine sT func317 U ntmps317 U λX hM hX hF=>?_
 generalize hz:(cY s f)=z;have hs:=hz.symm
 have HA:=h0 [0,1,7] 8 (λs1 i=>(cY.L1 f (cY.K1)) s1 i)
 exact W
theorem sF(x:ay):(ay.cells x).length=8:=rfl
theorem Cg(f:ay->Bool):∀(l:List ay)(i:Nat),(cY.L1 f cY.K1 l i=-1/\∀x∈l,f x=false) \/
  ∃a y b,l=a++y::b/\cY.L1 f cY.K1 l i=((i+a.length:Nat):Int)/\f y=true/\∀x∈a,f x=false
 |[],i=>.inl ⟨rfl,λ_ h=>(kA h).elim⟩
 |y::l,i=>by
  simp only[cY.L1]
  cases hy:f y with
  |true=>exact .inr ⟨[],y,l,rfl,by simp,hy,λ_ h=>(kA h).elim⟩
  |false=>
   rcases Cg f l (i+1)with⟨h1,h2⟩|⟨a,z,b,rfl,h2,h3,h4⟩
   .exact .inl ⟨h1,λx hx=>by rcases kD.1 hx with rfl|hx;exact hy;exact h2 x hx⟩
   refine .inr ⟨y::a,z,b,rfl,?_,h3,λx hx=>by rcases kD.1 hx with rfl|hx;exact hy;exact h4 x hx⟩
   rw[cond_false,h2];simp only[zA];congr 1;omega
theorem Ej{l:List ay}(h:∀x∈l,q x=false):(l.filter λx=>!(q x))=l:=by
 rw[List.filter_eq_self];intro x hx;simp[h x hx]
theorem Rb{s zs:List ay}{i j:Nat}{y:ay}(hij:i<j)(hz:zs.length=s.length)(hj:s[j]? = some y)(ht:zs.take i=(s.take j).filter λx=>!(q x))(hd:zs.drop j=s.drop j)(hy:q y=false):
  (zs.set i y).take (i+1)=((s.take (j+1)).filter λx=>!(q x))/\(zs.set i y).drop (j+1)=s.drop (j+1):=by
 have hjl:j<s.length:=by
  rcases kM j s.length with h|h
  .exact h
  simp[List.getElem?_eq_none h]at hj
 constructor
 .rw[List.take_add_one,List.take_set_of_le (kE _),ht,List.take_add_one,hj,List.filter_append]
  simp[hy,show i<zs.length from by omega]
 rw[List.drop_set_of_lt ob,←List.drop_drop,hd,List.drop_drop]
theorem Ra{s zs:List ay}{i j:Nat}{y:ay}(hj:s[j]? = some y)(ht:zs.take i=(s.take j).filter λx=>!(q x))(hd:zs.drop j=s.drop j)(hy:q y=true):
  zs.take i=((s.take (j+1)).filter λx=>!(q x))/\zs.drop (j+1)=s.drop (j+1):=by
 constructor
 .rw[List.take_add_one,hj,List.filter_append,ht];simp[hy]
 rw[←List.drop_drop,hd,List.drop_drop]
theorem Ek{h:HF}{xs:List ay}{bk c:Nat}{sp:List Value}(h3:(xs.flatMap ay.cells++sp).length=c*8)(h4:xs.length<=c)(h5:xs.length<=9223372036854775807):cN ay.rp 67 h xs (zAD bk) c [(bk,.cells (xs.flatMap ay.cells++sp).toArray 67 (0,0))]:=
 .inr ⟨bk,_,sp,rfl,ID (λ_ _=>rfl) sF h xs,h3,h4,h5,rfl⟩
theorem sI(h)(s:List ay)(b c G)(del:ay->Bool)(del_v)(hG:cN ay.rp 67 h s b c G)(hdel:∀(h':HF)(el:ay),xJ h h'->qX prog del_v [.agg (ay.cells el).toArray] h' [] (.bool (del el)))(hsz:s.length<=2000000):
  pJ prog 288 [.slice b s.length c,del_v].toArray h G (λr h' G'=>h'=h/\r=.returned (.slice b (gm s del).length c)/\cN ay.rp 67 h (gm s del) b c G'):=by
 refine cX func288 U ntmps288 U λX hM hX=>qT 8 U (aI (Dp [] G [] call317 ay.aD hG (by simp) (λh1 de hsl=>tw h1 s b c del del_v hsl (λh' a hl=>hdel h' a (de.t hl))) U (qO 6 U ?_)))
 have hcase:=Cg del s 0
 rw[show cY.L1 del cY.K1 s 0=cY s del from rfl]at hcase
 rcases hcase with⟨h1,h2⟩|⟨a,y,r,hs,h1,hy,ha⟩
 .rw[h1]
  refine i8 (v':=.bool true) U U (qO 7 U ?_)
  have hf:gm s del=s:=Ej h2
  refine nu func288 (λa ha w hw=>res1 U a ha w) (λw hw=>hw.lower) ⟨hX,?_,?_⟩
  .rw[hf];rfl
  rw[hf];exact hG
 rw[h1,Nat.zero_add]
 have hne:((a.length:Int)==-1)=false:=by simp
 have hsl:s.length=a.length+(r.length+1):=by rw[hs];simp
 refine fO hne U (qO 7 U (i8 (v':=I ((a.length+1:Nat):Int)) U (nH ob) (an ?_)))
 refine gB (ι:=Nat×List ay×LH) (λi=>[(0,.slice b s.length c),(1,del_v),(5,I (i.1:Int))]) (λi=>h) (λi=>i.2.2)
  (λi=>i.1<s.length/\i.2.1.length=s.length/\i.2.1.take i.1=gm s del/\cN ay.rp 67 h i.2.1 b c i.2.2) ?_ (λhx=>?_)
 .rintro⟨i,zs,G'⟩ ⟨hi,hz,hf,hG'⟩ e
  dsimp only at hi hz hf hG'
  rcases hG' with⟨rfl,_⟩|⟨bk,cl,sp,rfl,hcl,h3,h4,h5,rfl⟩
  .simp at hz;omega
  have hcl':=C1 (C:=ay.cells) (λ_ _ _ e=>e) hcl
  subst hcl'
  have hcz:zs.length<=c:=h4
  have hzl:=vu sF zs
  have h3':zs.length*8+sp.length=c*8:=by rw[←hzl,←jA];exact h3
  have hzn:(i:Int).toNat=i:=by omega
  have hgf:cN ay.rp 67 h zs (zAD bk) c [(bk,.cells (zs.flatMap ay.cells++sp).toArray 67 (0,0))]:=Ek h3 h4 h5
  obtain⟨m,hm⟩:∃m,s.length-i=m+1:=⟨s.length-i-1,by omega⟩
  refine qT 4 U (aI (eG (v:=.slice (some ⟨bk,i*8,none⟩) (m+1) (c-i)) (Ov Ac ty67 U U ob ob hm) (aI (QC (P:=prog) 0 (sz:=8) (zs:=[I 0,I 0,I 0,I 0,I 0,I 0,I 0,.bool false]) (bk:=bk) (cl:=zs.flatMap ay.cells++sp) (cc:=c-i) Ac (ft zv67) U U (by decide) (by decide) U U (off:=i*8) (m:=m) (by rw[jA,hzl];omega) (λvs hvl=>?_)))))
  have hsp:∃sp',splice (zs.flatMap ay.cells++sp) (i*8) vs=(zs.take i).flatMap ay.cells++sp':=by
   have e1:zs.flatMap ay.cells++sp=(zs.take i).flatMap ay.cells++((zs.drop i).flatMap ay.cells++sp):=by
    rw[←jE,←List.flatMap_append,List.take_append_drop]
   rw[e1]
   have e2:i*8=((zs.take i).flatMap ay.cells).length:=by rw[vu sF,List.length_take];congr 1;omega
   have:=ux vs ((zs.take i).flatMap ay.cells) ((zs.drop i).flatMap ay.cells++sp) (by rw[jA,vu sF,List.length_drop,hvl];omega)
   rw[←e2]at this
   exact⟨_,this⟩
  obtain⟨sp',hsp⟩:=hsp
  have hlen:((zs.take i).flatMap ay.cells++sp').length=c*8:=by
   rw[←hsp,Cb];exact h3
  show TO _ _ _ _ _ _ _ _ _ _ h [(bk,.cells (splice (zs.flatMap ay.cells++sp) (i*8) vs).toArray 67 (0,0))]
  rw[hsp]
  have hg2:cN ay.rp 67 h (zs.take i) (zAD bk) c [(bk,.cells ((zs.take i).flatMap ay.cells++sp').toArray 67 (0,0))]:=
   Ek hlen (by rw[List.length_take];omega) (by rw[List.length_take];omega)
  refine qO 5 U (aI (MI (z:=(i:Int)) Ac ty67 hgf ob (by show _=Value.slice _ _ _;rw[hz];rfl) U U (an ?_)))
  refine nu func288 (λa ha w hw=>res1 U a ha w) (λw hw=>hw.lower) ⟨hX,?_,?_⟩
  .rw[←hf,hzn];rfl
  rw[←hf];exact hg2
 refine ju (ι:=Nat×Nat×List ay×LH) (λi=>[(0,.slice b s.length c),(1,del_v),(5,I (i.1:Int)),(6,I (i.2.1:Int))]) (λi=>h) (λi=>i.2.2.2)
  (λi=>i.1<i.2.1/\i.2.1<=s.length/\i.2.2.1.length=s.length/\i.2.2.1.take i.1=((s.take i.2.1).filter λx=>!(del x))/\i.2.2.1.drop i.2.1=s.drop i.2.1/\cN ay.rp 67 h i.2.2.1 b c i.2.2.2)
  (λi=>s.length-i.2.1) (a.length,a.length+1,s,G) rd (λw hw=>hw) ⟨Nat.lt_succ_self _,by show a.length+1<=s.length;omega,rfl,?_,rfl,hG⟩ ?_
 .show s.take a.length=((s.take (a.length+1)).filter λx=>!(del x))
  rw[hs,List.take_left' rfl,List.take_add_one,List.take_left' rfl,List.filter_append,Ej ha];simp[hy]
 rintro⟨i,j,zs,G'⟩ ⟨hij,hjl,hz,ht,hd,hG'⟩ ag e
 dsimp only at hij hjl hz ht hd hG'
 rcases kM j s.length with hj|hj
 .have hjs:s[j]? = some s[j]:=List.getElem?_eq_getElem hj
  have hjz:zs[j]? = some s[j]:=by
   have e1:(zs.drop j)[0]? = (s.drop j)[0]?:=by rw[hd]
   simpa[hjs]using e1
  have hiz:zs[i]? = some zs[i]:=List.getElem?_eq_getElem ob
  rcases hG' with⟨rfl,_⟩|⟨bk,cl,sp,rfl,hcl,h3,h4,h5,rfl⟩
  .simp at hz;omega
  have hcl':=C1 (C:=ay.cells) (λ_ _ _ e=>e) hcl
  subst hcl'
  refine qK 6 [] U (tO (decide_eq_true ob) U (qO 9 U (aI (eG (nY (R:=ay.rp) (xs:=zs) (z:=(j:Int)) Ac ty67 U ob U hz.symm U) (aI (eG (lO (off:=j*8) (cs:=ay.cells s[j]) ty67 U (jC.2 U) (Tc sF hjz)) (bH zc67 (λb7=>bE 0 ty67 U U U U U U (qO 4 U (dy 0 ty67 U U U (aI (ka (v:=.bool (del s[j])) [] (List.nil_sublist _) (hdel h s[j] lf) U U ?_))))))))))))
  cases hy:del s[j]with
  |true=>
   obtain⟨k1,k2⟩:=Ra hjs ht hd hy
   exact nB U (qO 6 U (oi j U (an (cu (L':=[(bk,.cells (zs.flatMap ay.cells++sp).toArray 67 (0,0))]) js (ag (i,j+1,zs,[(bk,.cells (zs.flatMap ay.cells++sp).toArray 67 (0,0))]) _ (by show s.length-(j+1)<s.length-j;omega) ⟨by show i<j+1;omega,hj,hz,k1,k2,Ek h3 h4 h5⟩ rd)))))
  |false=>
   obtain⟨k1,k2⟩:=Rb hij hz hjs ht hd hy
   refine qO 7 U (dy 0 ty67 U U U (aI (eG (nY (R:=ay.rp) (xs:=zs) (z:=(i:Int)) Ac ty67 U ob U hz.symm U) (aI (lM 1 (off:=i*8) (vs:=ay.cells s[j]) ty67 U U U U (by rw[jA,vu sF,sF];exact Nat.ble_eq_true_of_le ob) U ?_)))))
   have hsl2:setNth [(b7,O (ay.cells s[j]) 67),(bk,.cells (zs.flatMap ay.cells++sp).toArray 67 (0,0))] 1 (bk,.cells (splice (zs.flatMap ay.cells++sp) (i*8) (ay.cells s[j])).toArray 67 (0,0))=[(b7,O (ay.cells s[j]) 67),(bk,.cells ((zs.set i s[j]).flatMap ay.cells++sp).toArray 67 (0,0))]:=by
    rw[Mx sF hiz];rfl
   refine jm hsl2 (qO 3 U (oi i U (qO 5 U (oi j U (an (cu (L':=[(bk,.cells ((zs.set i s[j]).flatMap ay.cells++sp).toArray 67 (0,0))]) js ?_))))))
   have hzl2:(zs.set i s[j]).length=s.length:=by rw[List.length_set];exact hz
   exact ag (i+1,j+1,zs.set i s[j],[(bk,.cells ((zs.set i s[j]).flatMap ay.cells++sp).toArray 67 (0,0))]) _ (by show s.length-(j+1)<s.length-j;omega) ⟨by show i+1<j+1;omega,hj,hzl2,k1,k2,Ek (by rw[jA,vu sF,List.length_set,←vu sF,←jA];exact h3) (by rw[List.length_set];exact h4) (by rw[List.length_set];exact h5)⟩ rd
 have hje:j=s.length:=by omega
 subst hje
 exact qK 6 [] U (fO (decide_eq_false ob) U (qO 3 U (hx (i,zs,G') _ ⟨hij,hz,by show zs.take i=_;rw[ht,List.take_length];rfl,hG'⟩ rd)))
theorem yh(h v0 tW tV v0_q v1 v1_q v2 v2_q v3 v3_q)(hv0:SlC ay.rp h tW tV v0)(av0:At h v0_q [.slice tW v0.length tV])(av1:At h v1_q [I v1])(av2:At h v2_q [I v2])(av3:At h v3_q [I v3]):Itr prog (.func (.func 331) #[] (xB [.pointer (some v0_q),.pointer (some v1_q),.pointer (some v2_q),.pointer (some v3_q)])) rm (cf v0 v1 v2 v3) h:=by
 refine sj call331 ?_
 intro yf ya yb C Sp Pn h1 A de m1 m2 m3 hC hy
 refine j1 RA U ntmps331 U λX hXM hX=>?_
 have hs0:cf v0 v1 v2 v3=[]++cf v0 v1 v2 v3:=rfl
 refine sr (eJ ty28 (av0.mono de) U (qL 3 [] U ?_))
 refine lp2 v0 (λi w=>[(0,.func yf ya yb),(2,.pointer (some v1_q)),(3,.pointer (some v2_q)),(4,.pointer (some v3_q)),(8,.slice tW v0.length tV),(9,I (v0.length:Int)),(10,I (i:Int))]) (λw=>w.2.2) (λw=>w.2.1) (λi w=>C w.1 w.2.2 w.2.1/\xJ h1 w.2.2) (λs1 i w=>w.1++(cf.L1 v1 v2 v3 (cf.K1)) s1) ([],A,h1) ((hv0.mono ay.aD de).1.1) hs0 ⟨hC,lf⟩ ?_ ?_
 .rintro i1 ⟨dn1,A1_,hh1⟩ iP hs1 ⟨hC1_,hl1⟩ e
  refine dR ?_
  have hs2:cf v0 v1 v2 v3=dn1:=hs1.trans (List.append_nil _)
  exact sk [] (A:=A1_) RA U (List.Sublist.refl _) (.inl (hs2▸hC1_))
 rintro i1 ⟨dn1,A1_,hh1⟩ y1 rz1 hd1 fY dz iT mF hs3 ⟨hC1_,hl1⟩ hx1 ag1 e
 refine sr (tO fY U (qO 8 U (aI (iF ay.cells Ac ty67 (hv0.mono ay.aD (de.t hl1)).1 dz U U U (λq2 A2=>eU ty67 A2 U U (bH zc67 (λb2=>bE 0 ty67 U U U U U U (jm (L':=[(b2,O (ay.cells y1) 67)]++(A1_)) U (qL 5 [0] U (eJ ty3 (av1.mono (de.t hl1)) U (qO 2 U (kI 5 [18,19,20,21,22,23] 18 23 (decide (y1.At<=v2)) U (λc1 hk1=>?_) (λe=>?_)))))))))))))
 .exact qL 2 [0] U (eJ ty3 (av2.mono (de.t hl1)) U (qO 2 U (hk1 _ U)))
 refine bp (kI 5 [24,25,26,27,28,29] 24 29 (decide (y1.dY<=v3)) U (λc2 hk2=>?_) (λe=>?_))
 .exact qL 2 [0] U (eJ ty3 (av3.mono (de.t hl1)) U (qO 2 U (hk2 _ U)))
 refine bp (uO 30 U (λc3=>?_) (λc3=>?_))
 .have hs4:=hs3.trans (congrArg (dn1++·) (bt c3))
  refine bp (dy 0 ty67 U U U ?_)
  have hx1:cf v0 v1 v2 v3=dn1++(y1::(cf.L1 v1 v2 v3 (cf.K1) rz1)):=hs4
  refine aI (mq ([(b2,O (ay.cells y1) 67)]) A1_ ap (hy dn1 y1 _ _ _ _ hx1 hl1 hC1_ U) U U (λh2 A3 hle1 hC1=>?_) (λh3 A4 hle2 hS1=>?_) (λch1 h4 A5 hle3 hP1 e=>iY (oJ [] (A:=A5) RA (List.sublist_append_right _ _) hP1)))
  .have hs5:cf v0 v1 v2 v3=(dn1++[y1])++((cf.L1 v1 v2 v3 (cf.K1) rz1)):=hx1.trans ap
   exact nB U (qO 6 U (oi i1 U (qO 2 U (cu (L':=A3) js (ag1 ((dn1++[y1]),A3,h2) hs5 ⟨hC1,(hl1.t hle1)⟩)))))
  exact nB U (qO 3 U (dR (n8 [] (A:=A4) RA U js (.inr hS1))))
 have hs6:=hs3.trans (congrArg (dn1++·) (bf c3))
 exact kq (qO 8 U (oi i1 U (qO 2 U (cu (L':=A1_) js (ag1 (dn1,A1_,hh1) hs6 ⟨hC1_,hl1⟩)))))
instance kI331:CtI 331:=⟨_,@yh⟩
theorem rY(h l fo fm aV bq ah)(hl:SlC ay.rp h fo fm l):j6 prog 318 [.slice fo l.length fm,I aV,I bq,I ah] h (λv h'=>∃(rv0:Value),v=rv0/\Itr prog rv0 rm (fZ l aV bq ah) h'):=by
 refine sT func318 U ntmps318 U λX hM hX hF=>?_
 generalize hz:(fZ l aV bq ah)=z;have hs:=hz.symm
 exact W
theorem rK(l:List ay)(aV bq ah):(fZ l aV bq ah).length<=l.length:=by
 show(cf.L1 aV bq ah cf.K1 l).length<=l.length
 induction l with
 |nil=>exact kE _
 |cons y l ih=>simp only[cf.L1,Bool.cond_eq_ite];split<;>simp only[zA]<;>omega
theorem lJ(h)(x:ay)  : Ret prog 319 [.agg (ay.cells x).toArray] h (.agg (fL.cells (cT x)).toArray):=by
 refine sT func319 U ntmps319 U λX hM hX hF=>?_
 generalize hz:(cT x)=z;have hs:=hz.symm
 exact W
theorem PQ(h:p:=by
  refine bo (aH hs1 U (λc2 hs2=>?_) (λc2 hs3=>?_))
  .let z11:Nat×Obj:=(b7,O (ay.cells (mgetD ck (cT y1) (ay.mk 0 0 0 0 0 0 0 false))) 67)
   refine eY ([z11,z7,z3,z6,z1,z2]) mixed kr jn (λlZ _=>?_)
   exact tf 0 U U (rj 4 ty358 U U U) (tf 1 U U (λ_ _ hj=>lO ty67 U (hj.nth (i:=1) U) U) (tf 3 U U (λ_ _ hj=>lO ty67 U (hj.nth (i:=1) U) U) (tn 2 U (gi Pj (lJ hr1 y1) U (⟨jn,tn 4 U (mS 5 (k:=(cT y1)) (x:=y1) Mj oD U (iO.mono (ku.mono ay.aD) hlr1) U U ⟨_,U,U⟩ (λmo2 hm1=>⟨jn,bO kr (fW (cu (L':=[z3,z6,z1,(b2,mo2),z2]++(markB [])) js (bZ (L':=rdH l1 dm1 lp1 (([z1,(b2,mo2),z2])++markB [])) ap (nx1 ((mput ck (cT y1) y1),mo2,hr1) _ _ ⟨hs2,hm1,(hl1.t hlr1)⟩ lf))))⟩))⟩)))))
  exact bL (fW (cu (L':=[z3,z6,z1,(b2,eI),z2]++(markB [])) js (bZ (L':=rdH l1 dm1 lp1 (([z1,(b2,eI),z2])++markB [])) ap (nx1 (ck,eI,hr1) _ _ ⟨hs3,(iO.mono (ku.mono ay.aD) hlr1),(hl1.t hlr1)⟩ lf))))):p:=h
theorem zI(h l fo fm aV bq ah)(hl:SlC ay.rp h fo fm l)(hsz:l.length<=2000000):VQ prog 289 [.slice fo l.length fm,I aV,I bq,I ah] h ay.rp 67 (aN l aV bq ah):=by
 refine cX Rz U ntmps289 U λX hM hX=>?_
 have hs0:=@rfl _ (aN l aV bq ah)
 refine sr (bH zc28 (λb1=>qO 3 U (aI (pq (λb2=>bH zc358 (λb3=>cW 0 ty358 U U U U U U (qO 8 U (aI (cx call318 (rY _ _ _ _ aV bq ah hl) U (λv1 h1 hle1 hp1=>?_))))))))))
 obtain⟨_,rfl,mo1⟩:=hp1
 refine qO 2 U (dR ?_)
 let z1:Nat×Obj:=(b3,O [.map (some b2)] 358)
 let z2:Nat×Obj:=(b1,O [zSN] 28)
 refine bZ (L':=([z1,(b2,.map #[] 0),z2])++markB []) ap ?_
 refine j9 (it:=v1) (xs:=(fZ l aV bq ah)) (ι:=(List (fL×ay))×Obj×HF) [] (λi=>i.2.2) (λi=>[z1,(b2,i.2.1),z2]) (λs i=>aN l aV bq ah=((aN.L1 (aN.K1 l aV bq ah)) s i.1)/\lr fL.enc (ku ay.rp) i.2.2 i.2.1 i.1/\xJ h1 i.2.2) (λ_=>False) (λ_=>False) 0 (λ_ _ _=>False) ([],.map #[] 0,h1) Rz U mo1 U si (λ_ _ _ _ _ hq=>hq) U (show[z1,(b2,.map #[] 0),z2]=_ from U) ⟨hs0,((lr.nil (enc:=fL.enc) (V:=(ku ay.rp)) (h:=h)).mono (ku.mono ay.aD) hle1),lf⟩ ?_ ?_ ?_ ?_ ?_
 .rintro l1 dm1 lp1 y1 rz1 vs1 ⟨ck,eI,hh1⟩ hr1 X hFR1 ⟨hs1,iO,hl1⟩ hl01 hlr1 hv1 hX hXM hlp1 nx1 rt1 ex1 pn1
  obtain rfl:=hv1
  let z6:Nat×Obj:=(dm1,.deferred (some []))
  refine bZ (L':=[(l1,.loop lp1),z6,z1,(b2,eI),z2]++(markB [])) ap (bJ (bH zc67 (λb6=>bE 0 ty67 U U U U U U (bo (kh 1 U hlp1 (qT 2 U ?_))))))
  let z3:Nat×Obj:=(l1,.loop { lp1 with state:=.busy })
  let z7:Nat×Obj:=(b6,O (ay.cells y1) 67)
  refine eY ([z7,z3,z6,z1,(b2,eI),z2]) mixed kr jn (λgK _=>?_)
  refine tf 0 U U (rj 3 ty358 U U U) (tf 1 U U (λ_ _ hj=>lO ty67 U (hj.nth (i:=0) U) U) ?_)
  refine nk 2 7 kr U U ?_ ?_ 
  .refine gi Pj (lJ hr1 y1) U (⟨jn,?_⟩)
   refine nk 3 7 kr U U ?_ ?_ 
   .refine mT 4 (k:=(cT y1)) Mj oD U (iO.mono (ku.mono ay.aD) hlr1) (ft zv67) (show(ku ay.rp) _ (.agg (xB [I 0,I 0,I 0,I 0,I 0,I 0,I 0,.bool false])) (ay.mk 0 0 0 0 0 0 0 false)from⟨_,U,U⟩) U U (λv3 hv2=>?_)
    obtain⟨_,rfl,rfl⟩:=hv2
    refine⟨jn,qR 4 3 U (tn 7 U (Bp zc67 (λb7=>⟨jn,tn 8 U (uS 0 ty67 U U U U U U (⟨jn,qA [9] U (bO kr (qT 5 U (gy 6 [30,31,32,33,34,35,36] 30 36 (decide ((mgetD ck (cT y1) (ay.mk 0 0 0 0 0 0 0 false)).At<=y1.At)) U (λc1 hk1=>?_) (λe=>?_))))⟩))⟩)))⟩
    .exact qL 6 [1,0] U (hk1 _ U)
    exact PQ
   refine Bp zc67 (λb8=>⟨jn,tn 3 U (mT 5 (k:=(cT y1)) Mj oD U (iO.mono (ku.mono ay.aD) hlr1) (ft zv67) (show(ku ay.rp) _ (.agg (xB [I 0,I 0,I 0,I 0,I 0,I 0,I 0,.bool false])) (ay.mk 0 0 0 0 0 0 0 false)from⟨_,U,U⟩) U U (λv4 hv3=>?_))⟩)
   obtain⟨_,rfl,rfl⟩:=hv3
   refine⟨jn,qR 4 3 U (tn 8 U (uS 0 ty67 U U U U U U (⟨jn,qA [9] U (bO kr (qT 5 U (gy 6 [30,31,32,33,34,35,36] 30 36 (decide ((mgetD ck (cT y1) (ay.mk 0 0 0 0 0 0 0 false)).At<=y1.At)) U (λc3 hk2=>?_) (λe=>?_))))⟩)))⟩
   .exact qL 6 [1,0] U (hk2 _ U)
   refine bo (aH hs1 U (λc4 hs4=>?_) (λc4 hs5=>?_))
   .let z12:Nat×Obj:=(b8,O (ay.cells (mgetD ck (cT y1) (ay.mk 0 0 0 0 0 0 0 false))) 67)
    refine eY ([z12,z7,z3,z6,z1,z2]) mixed kr jn (λNA _=>?_)
    exact tf 0 U U (rj 4 ty358 U U U) (tf 1 U U (λ_ _ hj=>lO ty67 U (hj.nth (i:=1) U) U) (tf 3 U U (λ_ _ hj=>lO ty67 U (hj.nth (i:=1) U) U) (tn 2 U (gi Pj (lJ hr1 y1) U (⟨jn,tn 4 U (mS 5 (k:=(cT y1)) (x:=y1) Mj oD U (iO.mono (ku.mono ay.aD) hlr1) U U ⟨_,U,U⟩ (λmo3 hm2=>⟨jn,bO kr (fW (cu (L':=[z3,z6,z1,(b2,mo3),z2]++(markB [])) js (bZ (L':=rdH l1 dm1 lp1 (([z1,(b2,mo3),z2])++markB [])) ap (nx1 ((mput ck (cT y1) y1),mo3,hr1) _ _ ⟨hs4,hm2,(hl1.t hlr1)⟩ lf))))⟩))⟩)))))
   exact bL (fW (cu (L':=[z3,z6,z1,(b2,eI),z2]++(markB [])) js (bZ (L':=rdH l1 dm1 lp1 (([z1,(b2,eI),z2])++markB [])) ap (nx1 (ck,eI,hr1) _ _ ⟨hs5,(iO.mono (ku.mono ay.aD) hlr1),(hl1.t hlr1)⟩ lf))))
  refine Bp zc67 (λb7=>⟨jn,tn 2 U (gi Pj (lJ hr1 y1) U (⟨jn,tn 3 U (mT 5 (k:=(cT y1)) Mj oD U (iO.mono (ku.mono ay.aD) hlr1) (ft zv67) (show(ku ay.rp) _ (.agg (xB [I 0,I 0,I 0,I 0,I 0,I 0,I 0,.bool false])) (ay.mk 0 0 0 0 0 0 0 false)from⟨_,U,U⟩) U U (λv5 hv3=>?_))⟩))⟩)
  obtain⟨_,rfl,rfl⟩:=hv3
  refine⟨jn,qR 4 3 U (tn 8 U (uS 0 ty67 U U U U U U (⟨jn,qA [9] U (bO kr (qT 5 U (gy 6 [30,31,32,33,34,35,36] 30 36 (decide ((mgetD ck (cT y1) (ay.mk 0 0 0 0 0 0 0 false)).At<=y1.At)) U (λc3 hk2=>?_) (λe=>?_))))⟩)))⟩
  .exact qL 6 [1,0] U (hk2 _ U)
  exact PQ
 .rintro dm1 ⟨ck,eI,hh1⟩ hn1 ⟨hs8,iO,hl1⟩ hln1 hl01
  refine bZ (L':=[z1,(b2,eI),z2]++(markB (dm1::[]))) ap (qT 8 U (aI (cx call318 (rY _ _ _ _ aV bq ah (hl.mono ay.aD ((hle1.t hl1).t hln1))) U (λv6 h2 hle2 hp2=>?_))))
  obtain⟨_,rfl,mo5⟩:=hp2
  refine qO 2 U (bZ (L':=([z1,(b2,eI),z2])++markB (dm1::[])) ap ?_)
  refine j9 (it:=v6) (xs:=(fZ l aV bq ah)) (ι:=(List ay)×Option Addr×Nat×LH×HF) (dm1::[]) (λi=>i.2.2.2.2) (λi=>[z1,(b2,eI),(b1,O [.slice i.2.1 i.1.length i.2.2.1] 28)]++(i.2.2.2.1)) (λs i=>aN l aV bq ah=((aN.L2 ck (aN.K2)) s i.1)/\cN ay.rp 67 i.2.2.2.2 i.1 i.2.1 i.2.2.1 i.2.2.2.1/\xJ h2 i.2.2.2.2/\i.1.length+s.length<=l.length) (λ_=>False) (λ_=>False) 0 (λ_ _ _=>False) ([],none,0,[],h2) Rz U mo5 U si (λ_ _ _ _ _ hq=>hq) U (show[z1,(b2,eI),z2]=_ from U) ⟨hs8,cN.nil,lf,(by have hc:=rK l aV bq ah;simpa using hc)⟩ ?_ ?_ ?_ ?_ ?_
  .rintro l2 dm2 lp2 y2 rz2 vs2 ⟨oS,DZ,DY,rA,hh2⟩ hr2 X hFR2 ⟨hs9,DX,hl2,u2_0⟩ hl02 hlr2 hv2 hX hXM hlp2 nx2 rt2 ex2 pn2
   obtain rfl:=hv2
   simp only[zA]at u2_0
   let z4:Nat×Obj:=(b1,O [.slice DZ oS.length DY] 28)
   let z10:Nat×Obj:=(dm2,.deferred (some []))
   refine bZ (L':=[(l2,.loop lp2),z10,z1,(b2,eI),z4]++(rA++(markB (dm1::[])))) ap (bJ (bH zc67 (λb11=>bE 0 ty67 U U U U U U (jm (L':=[(b11,O (ay.cells y2) 67),(l2,.loop lp2),z10,z1,(b2,eI),z4]++(rA++(markB (dm1::[])))) U (bo (kh 1 U hlp2 (qT 2 U ?_)))))))
   refine Cs [(8,Q b1),(13,Q b11),(57,.bool ((!y2.nj)&&(decide ((mgetD ck (cT y2) (ay.mk 0 0 0 0 0 0 0 false))=y2))))] (λe=>?_) (λhk4=>?_)
   rotate_left
   .refine eY ([(b11,O (ay.cells y2) 67),(l2,.loop { lp2 with state:=.busy }),z10,z1,(b2,eI),z4]) mixed kr jn (λWo _=>?_)
    refine qB [0] U (tf 1 U U (rj 0 ty4 U U U) (qA [2,3] U ?_))
    refine fE 50 U (λc7=>?_) (λc7=>?_)
    .refine tf 4 U U (rj 3 ty358 U U U) (tf 5 U U (λ_ _ hj=>lO ty67 U (hj.nth (i:=0) U) U) (tf 8 U U (λ_ _ hj=>lO ty67 U (hj.nth (i:=0) U) U) (tn 6 U (gi Pj (lJ hr2 y2) U (⟨jn,tn 7 U (sJ 4 (k:=(cT y2)) Mj oD U (iO.mono (ku.mono ay.aD) (((hln1.t hle2).t hl2).t hlr2)) (ft zv67) (show(ku ay.rp) _ (.agg (xB [I 0,I 0,I 0,I 0,I 0,I 0,I 0,.bool false])) (ay.mk 0 0 0 0 0 0 0 false)from⟨_,U,U⟩) U U (λv8 hv6=>?_))⟩)))))
     obtain⟨_,rfl,rfl⟩:=hv6
     exact⟨jn,tf 9 U U (λ_ _ _=>MU (LO (mgetD ck (cT y2) (ay.mk 0 0 0 0 0 0 0 false)) y2) eqg67 U U) (qA [10] U (bO kr (hk4 _ ⟨U,U,(cb (show(decide ((mgetD ck (cT y2) (ay.mk 0 0 0 0 0 0 0 false))=y2))=((!y2.nj)&&(decide ((mgetD ck (cT y2) (ay.mk 0 0 0 0 0 0 0 false))=y2)))from by rw[c7]<;>rfl)),trivial⟩)))⟩
    exact tk 4 U U (qR 5 6 U (bO kr (hk4 _ ⟨U,U,(cb (show false=((!y2.nj)&&(decide ((mgetD ck (cT y2) (ay.mk 0 0 0 0 0 0 0 false))=y2)))from by rw[c7]<;>rfl)),trivial⟩)))
   refine aH hs9 U (λc8 hs10=>?_) (λc8 hs11=>?_)
   .refine qK 2 [5] U (dy 0 ty67 U U U (aI (bN (cells:=[I y2.No,I y2.At,I y2.dY,I y2.Doc,I y2.By,I y2.For,I y2.eD,.bool y2.nj]) Ac ty67 zc67 U U kr (λb12=>?_))))
    let z8:Nat×Obj:=(b12,O [I y2.No,I y2.At,I y2.dY,I y2.Doc,I y2.By,I y2.For,I y2.eD,.bool y2.nj] 67)
    let z9:Nat×Obj:=(l2,.loop { lp2 with state:=.busy })
    let z14:Nat×Obj:=(b11,O (ay.cells y2) 67)
    refine aI (eB ay.dg ([z8,z14,z9,z10,z1,(b2,eI),z4]) (markB (dm1::[])) (λG=>[z8,z14,z9,z10,z1,(b2,eI),z4]++(markB (dm1::[])++G)) ap (λ_=>ap) Ac ty67 zc67 U bytes67 (DX.mono ay.aD hlr2) U U (ic 0 U (cE y2 U U)) lo lo (λob1 oc1 G1 gr1=>qZ (qs ([z8,z14,z9,z10,z1,(b2,eI),z4]) G1 (markB (dm1::[]))) (cW 6 ty28 U U U U U U (qO 2 U ?_))))
    let z15:Nat×Obj:=(b1,O [.slice ob1 ((oS++[y2]).length) oc1] 28)
    exact cu (L':=[z9,z10,z1,(b2,eI),z15]++(G1++(markB (dm1::[])))) js (bZ (L':=rdH l2 dm2 lp2 (([z1,(b2,eI),z15]++G1)++markB (dm1::[]))) ap (nx2 ((oS++[y2]),ob1,oc1,G1,hr2) _ _ ⟨hs10,gr1,(hl2.t hlr2),(by first|omega|(simp only[jA,zA,zB]at *;omega))⟩ lf))
   exact bL (fW (cu (L':=[(l2,.loop { lp2 with state:=.busy }),z10,z1,(b2,eI),z4]++(rA++(markB (dm1::[])))) js (bZ (L':=rdH l2 dm2 lp2 (([z1,(b2,eI),z4]++(rA))++markB (dm1::[]))) ap (nx2 (oS,DZ,DY,rA,hr2) _ _ ⟨hs11,(DX.mono ay.aD hlr2),(hl2.t hlr2),(by first|omega|(simp only[jA,zA,zB]at *;omega))⟩ lf))))
  .rintro dm2 ⟨oS,DZ,DY,rA,hh2⟩ hn2 ⟨hs12,DX,hl2,u2_0⟩ hln2 hl02
   let z5:Nat×Obj:=(b1,O [.slice DZ oS.length DY] 28)
   refine bZ (L':=[z1,(b2,eI),z5]++(rA++(markB (dm2::(dm1::[]))))) ap (qK 4 [2] U (cW 2 ty28 U U U U U U (bo ?_)))
   have hs13:aN l aV bq ah=oS:=hs12
   exact bZ (L':=([z1,(b2,eI),z5]++(rA))++markB (dm2::(dm1::[]))) ap (TC (dm2::(dm1::[])) (A:=[z1,(b2,eI),z5]) (G:=rA) (Q:=[]) Rz U hX ap (λh1=>cN.flat (λ_ _ _ _ e=>e) (DX.mono ay.aD hln2)) ⟨⟨2,_,_,_,_,U,U,.inr ⟨_,ty28,U⟩⟩,trivial⟩ hs13)
  .exact xf
  .exact xf
  exact xf
 .exact xf
 .exact xf
 exact xf
theorem yO(l:List ay)(aV bq ah):(aN l aV bq ah).length<=l.length:=by
 have h2:∀(g:List (fL×ay))(s acc:List ay),(aN.L2 g aN.K2 s acc).length<=acc.length+s.length:=by
  intro g s
  induction s with
  |nil=>intro acc;exact kE _
  |cons y s ih=>
   intro acc
   simp only[aN.L2,Bool.cond_eq_ite]
   split
   .have:=ih (acc++[y]);simp only[jA,zA,zB]at *;omega
   have:=ih acc;simp only[zA];omega
 have h1:∀(s:List ay)(g:List (fL×ay)),(aN.L1 (aN.K1 l aV bq ah) s g).length<=l.length:=by
  intro s
  induction s with
  |nil=>
   intro g
   have h3:=h2 g (fZ l aV bq ah) []
   have h4:=rK l aV bq ah
   show(aN.L2 g aN.K2 (fZ l aV bq ah) []).length<=l.length
   simp only[zB]at h3;omega
  |cons y s ih=>intro g;simp only[aN.L1,Bool.cond_eq_ite];split<;>exact ih _
 exact h1 _ _
theorem yi(h)(y:ay)(dU begun_q at_ at__q think think_q)(abegun:At h begun_q [I dU])(aat_:At h at__q [I at_])(athink:At h think_q [I think]):Ret prog 290 [.agg (ay.cells y).toArray,.pointer (some begun_q),.pointer (some at__q),.pointer (some think_q)] h (.bool (j5 y dU at_ think)):=by
 refine sT func290 U ntmps290 U λX hM hX hF=>?_
 generalize hz:(j5 y dU at_ think)=z;have hs:=hz.symm
 exact W
theorem zO(h l fo fm aV dU think cy ah)(hl:SlC ay.rp h fo fm l)(hsz:l.length<=2000000):j6 prog 225 [.slice fo l.length fm,I aV,I dU,I think,I cy,I ah] h (λv h'=>∃(rb0:Option Addr)(rc0:Nat),v=.tuple #[.slice rb0 ((db l aV dU think cy ah).1).length rc0,I ((db l aV dU think cy ah).2)]/\SlC ay.rp h' rb0 rc0 ((db l aV dU think cy ah).1)):=by
 refine sT func225 U ntmps225 U λX hM hX hF=>?_
 have hs0:=@rfl _ (db l aV dU think cy ah)
 have hst:=yO l aV cy ah
 refine sr (eO (λb1=>eO (λb2=>eO (λb3=>qO 7 U (aS call45 (vz _ _ _ _ hl) U (qO 7 U (aH hs0 U (λc1 hs1=>?_) (λc1 hs2=>?_))))))))
 .refine qT 6 U ?_
  have hs3:db l aV dU think cy ah=([],(cj l)):=hs1
  exact nretH [zSN,I (cj l)] (hs3▸⟨none,0,U,zG⟩)
 refine qT 5 U (aI (bN (cells:=[I aV]) eP ty3 zc3 U U kr (λb4=>cz 0 U hM (λh1 hle1 hb1=>?_))))
 have sl1:SlC jB h1 (zAD b4) 1 ([aV]):=cS.slB0 (T:=3) (fz:=(0,0)) ((show cS jB h [I aV] ([aV])from⟨[I aV],[],rfl,rfl,rfl,rfl⟩).mono vH hle1) hb1
 refine aS call99 (pI _ 4095 _ _ _ sl1) U (qO 2 U (gy 8 [23,24,25,26,27,28,29,30,31] 23 31 (!(fM 1099511627775 ([dU,think,cy,ah]))) U (λc2 hk1=>?_) (λe=>?_)))
 .refine qL 4 [2,1,0] U (aI (bN (cells:=[I dU,I think,I cy,I ah]) eP ty3 zc3 U U kr (λb5=>cz 0 U hM (λh2 hle2 hb2=>?_))))
  have sl2:SlC jB h2 (zAD b5) 4 ([dU,think,cy,ah]):=cS.slB0 (T:=3) (fz:=(0,0)) ((show cS jB h1 [I dU,I think,I cy,I ah] ([dU,think,cy,ah])from⟨[I dU],[I think,I cy,I ah],rfl,rfl,rfl,⟨[I think],[I cy,I ah],rfl,rfl,rfl,⟨[I cy],[I ah],rfl,rfl,rfl,⟨[I ah],[],rfl,rfl,rfl,rfl⟩⟩⟩⟩).mono vH hle2) hb2
  exact aS call99 (pI _ 1099511627775 _ _ _ sl2) U (qO 2 U (tZ (h:=h1) hle2 hX hle1 (hk1 _ U)))
 refine bo (aH hs2 U (λc3 hs4=>?_) (λc3 hs5=>?_))
 .refine qT 5 U ?_
  have hs6:db l aV dU think cy ah=([],1):=hs4
  exact nretH [zSN,I 1] (hs6▸⟨none,0,U,zG⟩)
 refine qK 7 [0] U (aI (TU call289 (zI _ _ _ _ aV cy ah (hl.mono ay.aD hle1) ob) U (λob1 oc1 G1 gr1=>cz 2 U hM (λh3 hle3 hb3=>cz 0 U hM (λh4 hle4 hb4=>cz 0 U hM (λh5 hle5 hb5=>aI (gM U U (aI (m9 (v:=.slice ob1 (gm (aN l aV cy ah) (λel=>j5 el dU cy think)).length oc1) ([]) G1 ([]) call288 (sI h5 (aN l aV cy ah) ob1 oc1 G1 (λel=>j5 el dU cy think) (.func (.func 290) #[] #[Q b1,Q b3,Q b2]) (gr1.mono ay.aD ((hle3.t hle4).t hle5)) (λh' el de=>iA call290 (yi h' el dU ⟨b1,0,none⟩ cy ⟨b3,0,none⟩ think ⟨b2,0,none⟩  (((dO hb3).mono (hle4.t hle5)).mono de) (((dO hb4).mono hle5).mono de) ((dO hb5).mono de))) ob) ap U (λG2 gr2=>jm (L':=G2) ap (oW ay.aD ([]) G2 ([]) ap hM gr2 (λh6 hle6 sl3=>qO 3 U ?_))))))))))))
 have hs7:db l aV dU think cy ah=((gm (aN l aV cy ah) (λel=>j5 el dU cy think)),0):=hs5
 exact nretH [.slice ob1 ((gm (aN l aV cy ah) (λel=>j5 el dU cy think)).length) oc1,I 0] (hs7▸⟨ob1,oc1,U,sl3⟩)
theorem Ge(h l fo fm eK to)(q:cL)(hl:SlC bA.rp h fo fm l):Ret prog 291 [.slice fo l.length fm,I eK,I to,.agg (cL.cells q).toArray] h (I (nh l eK to q)):=by
 refine sT func291 U ntmps291 U λX hM hX hF=>?_
 generalize hz:(nh l eK to q)=z;have hs:=hz.symm
 exact W
theorem uR(h)(seq:List bA)(seq_v)(hseq:Itr prog seq_v vo seq h)(hsz:seq.length<=2000000):j6 prog 320 [zSN,seq_v] h (λv h'=>∃(rb0:Option Addr)(rc0:Nat),v=.slice rb0 (dG seq).length rc0/\SlC bA.rp h' rb0 rc0 (dG seq)):=by
 refine cX func320 U ntmps320 U λX hM hX=>?_
 have hs0:=@rfl _ (dG seq)
 refine sr (eO (λb1=>qO 8 U (dR (bZ (L':=([(b1,O [zSN] 23)])++markB []) ap ?_))))
 refine j9 (it:=seq_v) (xs:=seq) (ι:=(List bA)×Option Addr×Nat×LH×HF) [] (λi=>i.2.2.2.2) (λi=>[(b1,O [.slice i.2.1 i.1.length i.2.2.1] 23)]++(i.2.2.2.1)) (λs i=>dG seq=((dG.L1 (dG.K1)) s i.1)/\cN bA.rp 204 i.2.2.2.2 i.1 i.2.1 i.2.2.1 i.2.2.2.1/\xJ h i.2.2.2.2/\i.1.length+s.length<=seq.length) (λ_=>False) (λ_=>False) 0 (λ_ _ _=>False) ([],none,0,[],h) func320 U hseq U HZ (λ_ _ _ _ _ hq=>hq) U (show[(b1,O [zSN] 23)]=_ from U) ⟨hs0,cN.nil,lf,(by simp)⟩ ?_ ?_ ?_ ?_ ?_
 .rintro l1 dm1 lp1 y1 rz1 vs1 ⟨aX,jd,ja,kj,hh1⟩ hr1 X hFR1 ⟨hs1,ff,hl1,u1_0⟩ hl01 hlr1 hv1 hX hXM hlp1 nx1 rt1 ex1 pn1
  obtain rfl:=hv1
  simp only[zA]at u1_0
  let z1:Nat×Obj:=(b1,O [.slice jd aX.length ja] 23)
  let z4:Nat×Obj:=(dm1,.deferred (some []))
  refine bZ (L':=[(l1,.loop lp1),z4,z1]++(kj++(markB []))) ap (bJ (bH zc204 (λb4=>bE 0 ty204 U U U U U U (jm (L':=[(b4,O (bA.cells y1) 204),(l1,.loop lp1),z4,z1]++(kj++(markB []))) U (bo (kh 1 U hlp1 (qK 3 [3] U (dy 0 ty204 U U U (aI (bN (cells:=[I y1.No,I y1.At,I y1.dY,I y1.mX,I y1.From,I y1.To,I y1.eD,I y1.Kind,I y1.Ob,.bool y1.nj]) JS ty204 zc204 U U kr (λb5=>?_)))))))))))
  let z3:Nat×Obj:=(b5,O [I y1.No,I y1.At,I y1.dY,I y1.mX,I y1.From,I y1.To,I y1.eD,I y1.Kind,I y1.Ob,.bool y1.nj] 204)
  let z5:Nat×Obj:=(l1,.loop { lp1 with state:=.busy })
  let z6:Nat×Obj:=(b4,O (bA.cells y1) 204)
  refine aI (eB bA.dg ([z3,z6,z5,z4,z1]) (markB []) (λG=>[z3,z6,z5,z4,z1]++(markB []++G)) ap (λ_=>ap) JS ty204 zc204 U bytes204 (ff.mono bA.aD hlr1) U U (ic 0 U (cE y1 U U)) lo lo (λob2 oc2 G2 gr2=>qZ (qs ([z3,z6,z5,z4,z1]) G2 (markB [])) (cW 4 ty23 U U U U U U (qO 2 U ?_))))
  let z7:Nat×Obj:=(b1,O [.slice ob2 ((aX++[y1]).length) oc2] 23)
  exact cu (L':=[z5,z4,z7]++(G2++(markB []))) js (bZ (L':=rdH l1 dm1 lp1 (([z7]++G2)++markB [])) ap (nx1 ((aX++[y1]),ob2,oc2,G2,hr1) _ _ ⟨hs1,gr2,(hl1.t hlr1),(by simp only[jA,zA,zB]at *;omega)⟩ lf))
 .rintro dm1 ⟨aX,jd,ja,kj,hh1⟩ hn1 ⟨hs2,ff,hl1,u1_0⟩ hln1 hl01
  let z2:Nat×Obj:=(b1,O [.slice jd aX.length ja] 23)
  refine bZ (L':=[z2]++(kj++(markB (dm1::[])))) ap (qK 6 [0] U (fQ bA.aD ([z2]) kj (markB (dm1::[])) ap hM (ff.mono bA.aD hln1) (λh2 hle2 sl2=>?_)))
  have hs3:dG seq=aX:=hs2
  exact bZ (L':=([z2])++markB (dm1::[])) ap (oq (dm1::[]) [.slice jd aX.length ja] func320 U rd ⟨jd,ja,congrArg (λr:List bA=>(.slice jd r.length ja:Value)) hs3.symm,(by rw[hs3];exact sl2)⟩)
 .exact xf
 .exact xf
 exact xf
instance kC320:Ct 320:=⟨_,call320,@uR⟩
theorem wU(h)(seq:List bA)(seq_v)(hseq:Itr prog seq_v vo seq h)(hsz:seq.length<=2000000):j6 prog 292 [seq_v] h (λv h'=>∃(rb0:Option Addr)(rc0:Nat),v=.slice rb0 (dE seq).length rc0/\SlC bA.rp h' rb0 rc0 (dE seq)):=by
 refine sT func292 U ntmps292 U λX hM hX hF=>?_
 generalize hz:(dE seq)=z;have hs:=hz.symm
 exact W
theorem wV(s:List bA):dE s=s:=by
 have:∀(s acc:List bA),dG.L1 dG.K1 s acc=acc++s:=by
  intro s
  induction s with
  |nil=>intro acc;exact(List.append_nil _).symm
  |cons y s ih=>intro acc;simp only[dG.L1,ih,jE,xL,vF]
 exact(this s []).trans (vF _)
theorem oU(h)(q:cL)(x:bA)  : Ret prog 321 [.agg (cL.cells q).toArray,.agg (bA.cells x).toArray] h (.bool (hO q x)):=by
 refine sT func321 U ntmps321 U λX hM hX hF=>?_
 generalize hz:(hO q x)=z;have hs:=hz.symm
 exact W
theorem ur(h)(q:cL)(x:bA)  : Ret prog 323 [.agg (cL.cells q).toArray,.agg (bA.cells x).toArray] h (.bool (iK q x)):=by
 refine sT func323 U ntmps323 U λX hM hX hF=>?_
 generalize hz:(iK q x)=z;have hs:=hz.symm
 exact W
theorem PP(h:p:=by
  exact⟨⟨hle1,λ_ hp=>List.Sublist.subset js hp⟩,qm (K2:=[z1]) hle1 (λ_ hp=>hp) (qA [27,28] U (bO kr (qT 4 U (oi i1 U (qO 2 U (cu (L':=A3) js (ag1 ((dn1++[y1]),A3,h2) hs5 ⟨hC1,(hl1.t hle1)⟩)))))))⟩):p:=h
theorem rO(h v0 tW tV v0_q)(v1:List (ek×bA))(Rj v1_q)(v2:(bA->Bool))(v2_v v2_q)(v3:cL)(v3_q)(hv0:SlC bA.rp h tW tV v0)(av0:At h v0_q [.slice tW v0.length tV])(hv1:wa ek.enc (ku bA.rp) h Rj v1)(av1:At h v1_q [.map (some Rj)])(hv2:∀(h':HF)(el:bA),xJ h h'->qX prog v2_v [.agg (bA.cells el).toArray] h' [] (.bool (v2 el)))(av2:At h v2_q [v2_v])(av3:At h v3_q (cL.cells v3)):Itr prog (.func (.func 322) #[] (xB [.pointer (some v0_q),.pointer (some v1_q),.pointer (some v2_q),.pointer (some v3_q)])) vo (aL v0 v1 v2 v3) h:=by
 refine sj call322 ?_
 intro yf ya yb C Sp Pn h1 A de m1 m2 m3 hC hy
 refine j1 GD U ntmps322 U λX hXM hX=>?_
 have hs0:aL v0 v1 v2 v3=[]++aL v0 v1 v2 v3:=rfl
 refine sr (eJ ty23 (av0.mono de) U (qL 3 [] U ?_))
 refine lp2 v0 (λi w=>[(0,.func yf ya yb),(2,.pointer (some v1_q)),(3,.pointer (some v2_q)),(4,.pointer (some v3_q)),(8,.slice tW v0.length tV),(9,I (v0.length:Int)),(10,I (i:Int))]) (λw=>w.2.2) (λw=>w.2.1) (λi w=>C w.1 w.2.2 w.2.1/\xJ h1 w.2.2) (λs1 i w=>w.1++(aL.L1 v1 v2 v3 (aL.K1)) s1) ([],A,h1) ((hv0.mono bA.aD de).1.1) hs0 ⟨hC,lf⟩ ?_ ?_
 .rintro i1 ⟨dn1,A1_,hh1⟩ iP hs1 ⟨hC1_,hl1⟩ e
  refine dR ?_
  have hs2:aL v0 v1 v2 v3=dn1:=hs1.trans (List.append_nil _)
  exact sk [] (A:=A1_) GD U (List.Sublist.refl _) (.inl (hs2▸hC1_))
 rintro i1 ⟨dn1,A1_,hh1⟩ y1 rz1 hd1 fY dz iT mF hs3 ⟨hC1_,hl1⟩ hx1 ag1 e
 refine sr (tO fY U (qO 8 U (aI (iF bA.cells JS ty204 (hv0.mono bA.aD (de.t hl1)).1 dz U U U (λq2 A2=>eU ty204 A2 U U (bH zc204 (λb2=>bE 0 ty204 U U U U U U (jm (L':=[(b2,O (bA.cells y1) 204)]++(A1_)) U (qO 2 U ?_)))))))))
 let z1:Nat×Obj:=(b2,O (bA.cells y1) 204)
 refine eY ([z1]) mixed kr jn (λgK _=>?_)
 refine tf 0 U U (rh ty365 (av1.mono (de.t hl1)) U) (qB [1] U (tf 2 U U (rj 0 ty3 U U U) (qB [3] U (tf 4 U U (rj 0 ty3 U U U) (qB [5] U (tf 6 U U (rj 0 ty3 U U U) (qB [7] U (tf 8 U U (rj 0 ty3 U U U) (tf 11 U U (λ_ _ hj=>lO ty204 U (hj.nth (i:=0) U) U) (tn 9 U (ie (cells:=[I y1.From,I y1.To,I y1.eD,I y1.Kind]) (places:=[(0,1),(1,1),(2,1),(3,1)]) Pu zc367 kr kr (⟨jn,tn 10 U ?_⟩))))))))))))
 obtain⟨o2,hb2,hm2⟩:=(hv1.mono (ku.mono bA.aD) (de.t hl1))
 refine pt (k:=(ek.mk y1.From y1.To y1.eD y1.Kind)) underlying365 w5 hb2 hm2 (ft zv204) (show(ku bA.rp) _ (.agg (xB [I 0,I 0,I 0,I 0,I 0,I 0,I 0,I 0,I 0,.bool false])) (bA.mk 0 0 0 0 0 0 0 0 0 false)from⟨_,U,U⟩) U U (λv2 hv2=>?_)
 obtain⟨_,rfl,rfl⟩:=hv2
 refine⟨jn,(tf 12 U U (λ_ _ _=>MU (OY (mgetD v1 (ek.mk y1.From y1.To y1.eD y1.Kind) (bA.mk 0 0 0 0 0 0 0 0 0 false)) y1) eqg204 U U) (tm 13 U ?_))⟩
 refine fE 27 U (λc1=>?_) (λc1=>?_)
 .refine tf 14 U U (rh ty205 (av2.mono (de.t hl1)) U) (tf 15 U U (λ_ _ hj=>lO ty204 U (hj.nth (i:=0) U) U) (tn 16 U (ka (v:=.bool (v2 y1)) [] (List.nil_sublist _) (hv2 hh1 y1 (de.t hl1)) U U (⟨jn,qA [17,18] U ?_⟩))))
  refine fE 32 U (λc2=>?_) (λc2=>?_)
  .refine tf 19 U U (λ_ _ hj=>mW ty325 ((av3.mono (de.t hl1)).mono hj.1) U U) (tf 20 U U (λ_ _ hj=>lO ty204 U (hj.nth (i:=0) U) U) (tn 21 U (gi call323 (ur hh1 v3 y1) U (⟨jn,tf 22 U U (λ_ _ _=>px U (cb (show(iK v3 y1)=(((decide ((mgetD v1 (ek.mk y1.From y1.To y1.eD y1.Kind) (bA.mk 0 0 0 0 0 0 0 0 0 false))=y1))&&(v2 y1))&&(iK v3 y1))from by first|(rw[c1];rw[c2];rfl)|(rw[c2];rfl)|simp[c1,c2]))) (tm 23 U ?_)⟩))))
   refine fE 37 U (λc3=>?_) (λc3=>?_)
   .have ct1:=c3
    have hs4:=hs3.trans (congrArg (dn1++·) (bt ct1))
    refine tm 24 U (tf 25 U U (λ_ _ hj=>lO ty204 U (hj.nth (i:=0) U) U) ?_)
    have hx1:aL v0 v1 v2 v3=dn1++(y1::(aL.L1 v1 v2 v3 (aL.K1) rz1)):=hs4
    refine tn 26 U (mq ([z1]) A1_ ap (hy dn1 y1 _ _ _ _ hx1 hl1 hC1_ U) U U (λh2 A3 hle1 hC1=>?_) (λh3 A4 hle2 hS1=>?_) (λch1 h4 A5 hle3 hP1 e=>iY (oJ [] (A:=A5) GD (List.sublist_append_right _ _) hP1)))
    .have hs5:aL v0 v1 v2 v3=(dn1++[y1])++((aL.L1 v1 v2 v3 (aL.K1) rz1)):=hx1.trans ap
     exact PP
    exact⟨⟨hle2,λ_ hp=>List.Sublist.subset js hp⟩,qm (K2:=[z1]) hle2 (λ_ hp=>hp) (qA [27,28] U (bO kr (mC U (dR (n8 [] (A:=A4) GD U js (.inr hS1))))))⟩
   have ct2:=c3
   have hs6:=hs3.trans (congrArg (dn1++·) (bf ct2))
   exact tk 24 U U (qR 25 4 U (bO kr (qT 4 U (oi i1 U (qO 2 U (cu (L':=A1_) js (ag1 (dn1,A1_,hh1) hs6 ⟨hC1_,hl1⟩)))))))
  refine qR 19 3 U (tf 22 U U (λ_ _ _=>px U (cb (show false=(((decide ((mgetD v1 (ek.mk y1.From y1.To y1.eD y1.Kind) (bA.mk 0 0 0 0 0 0 0 0 0 false))=y1))&&(v2 y1))&&(iK v3 y1))from by first|(rw[c1];rw[c2];rfl)|(rw[c2];rfl)|simp[c1,c2]))) (tm 23 U ?_))
  refine fE 37 U (λc4=>?_) (λc4=>?_)
  .have ct3:=c4
   have hs7:=hs3.trans (congrArg (dn1++·) (bt ct3))
   refine tm 24 U (tf 25 U U (λ_ _ hj=>lO ty204 U (hj.nth (i:=0) U) U) ?_)
   have hx2:aL v0 v1 v2 v3=dn1++(y1::(aL.L1 v1 v2 v3 (aL.K1) rz1)):=hs7
   refine tn 26 U (mq ([z1]) A1_ ap (hy dn1 y1 _ _ _ _ hx2 hl1 hC1_ U) U U (λh5 A6 hle4 hC2=>?_) (λh6 A7 hle5 hS2=>?_) (λch2 h7 A8 hle6 hP2 e=>iY (oJ [] (A:=A8) GD (List.sublist_append_right _ _) hP2)))
   .have hs8:aL v0 v1 v2 v3=(dn1++[y1])++((aL.L1 v1 v2 v3 (aL.K1) rz1)):=hx2.trans ap
    exact⟨⟨hle4,λ_ hp=>List.Sublist.subset js hp⟩,qm (K2:=[z1]) hle4 (λ_ hp=>hp) (qA [27,28] U (bO kr (qT 4 U (oi i1 U (qO 2 U (cu (L':=A6) js (ag1 ((dn1++[y1]),A6,h5) hs8 ⟨hC2,(hl1.t hle4)⟩)))))))⟩
   exact⟨⟨hle5,λ_ hp=>List.Sublist.subset js hp⟩,qm (K2:=[z1]) hle5 (λ_ hp=>hp) (qA [27,28] U (bO kr (mC U (dR (n8 [] (A:=A7) GD U js (.inr hS2))))))⟩
  have ct4:=c4
  have hs9:=hs3.trans (congrArg (dn1++·) (bf ct4))
  exact tk 24 U U (qR 25 4 U (bO kr (qT 4 U (oi i1 U (qO 2 U (cu (L':=A1_) js (ag1 (dn1,A1_,hh1) hs9 ⟨hC1_,hl1⟩)))))))
 refine qR 14 8 U (tf 22 U U (λ_ _ _=>px U (cb (show false=(((decide ((mgetD v1 (ek.mk y1.From y1.To y1.eD y1.Kind) (bA.mk 0 0 0 0 0 0 0 0 0 false))=y1))&&(v2 y1))&&(iK v3 y1))from by first|(rw[c1];rfl)|(rw[c1];rfl)|simp[c1]))) (tm 23 U ?_))
 refine fE 37 U (λc5=>?_) (λc5=>?_)
 .have ct3:=c5
  have hs7:=hs3.trans (congrArg (dn1++·) (bt ct3))
  refine tm 24 U (tf 25 U U (λ_ _ hj=>lO ty204 U (hj.nth (i:=0) U) U) ?_)
  have hx2:aL v0 v1 v2 v3=dn1++(y1::(aL.L1 v1 v2 v3 (aL.K1) rz1)):=hs7
  refine tn 26 U (mq ([z1]) A1_ ap (hy dn1 y1 _ _ _ _ hx2 hl1 hC1_ U) U U (λh2 A3 hle1 hC1=>?_) (λh6 A7 hle5 hS2=>?_) (λch2 h7 A8 hle6 hP2 e=>iY (oJ [] (A:=A8) GD (List.sublist_append_right _ _) hP2)))
  .have hs5:aL v0 v1 v2 v3=(dn1++[y1])++((aL.L1 v1 v2 v3 (aL.K1) rz1)):=hx2.trans ap
   exact PP
  exact⟨⟨hle5,λ_ hp=>List.Sublist.subset js hp⟩,qm (K2:=[z1]) hle5 (λ_ hp=>hp) (qA [27,28] U (bO kr (mC U (dR (n8 [] (A:=A7) GD U js (.inr hS2))))))⟩
 have ct6:=c5
 have hs12:=hs3.trans (congrArg (dn1++·) (bf ct6))
 exact tk 24 U U (qR 25 4 U (bO kr (qT 4 U (oi i1 U (qO 2 U (cu (L':=A1_) js (ag1 (dn1,A1_,hh1) hs12 ⟨hC1_,hl1⟩)))))))
theorem td(h)(q:cL)(l fo fm)(hl:SlC bA.rp h fo fm l):j6 prog 293 [.agg (cL.cells q).toArray,.slice fo l.length fm] h (λv h'=>∃(rv0:Value),v=rv0/\Itr prog rv0 vo (aW q l) h'):=by
 refine sT func293 U ntmps293 U λX hM hX hF=>?_
 have hs0:=@rfl _ (aW q l)
 refine sr (eO (λb1=>eO (λb2=>qO 4 U (dy 1 ty325 U U U (aI (gM U U (bH zc205 (λb3=>cW 0 ty205 U U U U U U (qO 3 U (aI (pq (λb4=>bH zc365 (λb5=>cW 0 ty365 U U U U U U (qL 8 [3] U ?_))))))))))))))
 let z1:Nat×Obj:=(b3,O [.func (.func 321) #[.agg (cL.cells q).toArray] #[]] 205)
 let z2:Nat×Obj:=(b2,O [.slice fo l.length fm] 23)
 let z3:Nat×Obj:=(b1,O (cL.cells q) 325)
 let z4:Nat×Obj:=(b5,O [.map (some b4)] 365)
 refine lp2 l (λi w=>[(2,Q b1),(3,Q b2),(5,Q b3),(6,Q b5),(15,.slice fo l.length fm),(16,I (l.length:Int)),(17,I (i:Int))]) (λ_=>h) (λw=>[z4,(b4,w.2),z1,z2,z3]) (λi w=>lr ek.enc (ku bA.rp) h w.2 w.1/\w.1.length<=0+i) (λs1 i w=>(aW.L1 q (aW.K1 q l)) s1 w.1) ([],.map #[] 0) hl.1.1 hs0 ⟨(lr.nil (enc:=ek.enc) (V:=(ku bA.rp)) (h:=h)),lc⟩ ?_ ?_
 .rintro i1 ⟨eX,Iq⟩ iP hs1 ⟨AX,SQ⟩ e
  refine sr (cz 3 U hM (λh1 hle1 hb1=>cz 0 U hM (λh2 hle2 hb2=>cz 1 U hM (λh3 hle3 hb3=>cz 1 U hM (λh4 hle4 hb4=>aI (gM U U (an (gE 0 U hM (λh5 hle5 hb5=>?_)))))))))
  have mc1:wa ek.enc (ku bA.rp) h5 b4 eX:=⟨_,hb5,(AX.mono (ku.mono bA.aD) (((hle1.t hle2).t hle3).t hle4)).mono (ku.mono bA.aD) hle5⟩
  have hs2:aW q l=(aL l eX (hO q) q):=hs1
  exact nretH [.func (.func 322) #[] #[Q b2,Q b5,Q b3,Q b1]] (hs2▸⟨(.func (.func 322) #[] #[Q b2,Q b5,Q b3,Q b1]),U,(rO h5 l fo fm ⟨b2,0,none⟩ eX b4 ⟨b5,0,none⟩ (hO q) (.func (.func 321) #[.agg (cL.cells q).toArray] #[]) ⟨b3,0,none⟩ q ⟨b1,0,none⟩ (hl.mono bA.aD ((((hle1.t hle2).t hle3).t hle4).t hle5)) ((dO hb1).mono (((hle2.t hle3).t hle4).t hle5)) mc1 ((dO hb2).mono ((hle3.t hle4).t hle5)) (λh' el de=>MR (fl:=[.agg (cL.cells q).toArray]) (cap:=[]) call321 (oU h' q el)) ((dO hb3).mono (hle4.t hle5)) ((dO hb4).mono hle5))⟩)
 rintro i1 ⟨eX,Iq⟩ y1 rz1 hd1 fY dz iT mF hs3 ⟨AX,SQ⟩ hx1 ag1 e
 refine sr (tO fY U (qO 8 U (aI (iF bA.cells JS ty204 hl.1 dz U U U (λq2 A2=>eU ty204 A2 U U (bH zc204 (λb9=>bE 0 ty204 U U U U U U (qL 11 [0,0,0,0] U (aI (ie (cells:=[I y1.From,I y1.To,I y1.eD,I y1.Kind]) (places:=[(0,1),(1,1),(2,1),(3,1)]) Pu zc367 kr kr (bH zc367 (λb10=>bE 0 ty367 U U U U U U (qL 4 [2] U (dy 0 ty367 U U U (aI (mT 3 (k:=(ek.mk y1.From y1.To y1.eD y1.Kind)) underlying365 w5 U AX (ft zv204) (show(ku bA.rp) _ (.agg (xB [I 0,I 0,I 0,I 0,I 0,I 0,I 0,I 0,I 0,.bool false])) (bA.mk 0 0 0 0 0 0 0 0 0 false)from⟨_,U,U⟩) U U (λv2 hv2=>?_)))))))))))))))))
 obtain⟨_,rfl,rfl⟩:=hv2
 refine qO 3 U (bH zc204 (λb11=>bE 0 ty204 U U U U U U (qL 5 [5] U (dy 2 ty204 U U U (aI (ka (v:=.bool (hO q y1)) [] (List.nil_sublist _) (MR (fl:=[.agg (cL.cells q).toArray]) (args:=[.agg (bA.cells y1).toArray]) (cap:=[]) call321 (oU h q y1)) U U (bp (kI 10 [39,40,41,42,43,44,45,46,47,48,49] 39 49 ((!(mhas eX (ek.mk y1.From y1.To y1.eD y1.Kind)))||decide ((mgetD eX (ek.mk y1.From y1.To y1.eD y1.Kind) (bA.mk 0 0 0 0 0 0 0 0 0 false)).At<=y1.At)) U (λc1 hk1=>?_) (λe=>?_)))))))))
 .refine qO 3 U (gy 6 [42,43,44,45,46,47,48] 42 48 (decide ((mgetD eX (ek.mk y1.From y1.To y1.eD y1.Kind) (bA.mk 0 0 0 0 0 0 0 0 0 false)).At<=y1.At)) U (λc2 hk2=>?_) (λe=>?_))
  .exact qL 6 [2,0] U (hk2 _ U)
  exact mY U (hk1 _ U)
 refine bo (aH hs3 U (λc3 hs4=>?_) (λc3 hs5=>?_))
 .exact qK 2 [3] U (dy 1 ty367 U U U (dy 2 ty204 U U U (aI (mS 4 (k:=(ek.mk y1.From y1.To y1.eD y1.Kind)) (x:=y1) underlying365 w5 U AX U U ⟨_,U,U⟩ (λmo1 hm1=>qO 3 U (oi i1 U (qO 2 U (cu (L':=[z4,(b4,mo1),z1,z2,z3]) js (ag1 ((mput eX (ek.mk y1.From y1.To y1.eD y1.Kind) y1),mo1) hs4 ⟨hm1,(by have:=ox eX (ek.mk y1.From y1.To y1.eD y1.Kind) y1;first|omega|(simp only[zB,zA]at *;omega))⟩)))))))))
 exact bL (qT 2 U (oi i1 U (qO 2 U (cu (L':=[z4,(b4,Iq),z1,z2,z3]) js (ag1 (eX,Iq) hs5 ⟨AX,lc⟩)))))
theorem rX(q:cL)(l:List bA):(aW q l).length<=l.length:=by
 have h1:∀(v:List (ek×bA))(s:List bA),(aL.L1 v (hO q) q aL.K1 s).length<=s.length:=by
  intro v s
  induction s with
  |nil=>exact kE _
  |cons y s ih=>simp only[aL.L1,Bool.cond_eq_ite];split<;>simp only[zA]<;>omega
 have h2:∀(s:List bA)(g:List (ek×bA)),(aW.L1 q (aW.K1 q l) s g).length<=l.length:=by
  intro s
  induction s with
  |nil=>intro g;exact h1 g l
  |cons y s ih=>intro g;simp only[aW.L1,Bool.cond_eq_ite];split<;>exact ih _
 exact h2 _ _
theorem Ed(h l fo fm eK to aT kind value mn ah)(hl:SlC bA.rp h fo fm l)(hsz:l.length<=2000000):j6 prog 226 [.slice fo l.length fm,I eK,I to,I aT,I kind,I value,I mn,I ah] h (λv h'=>∃(rb0:Option Addr)(rc0:Nat),v=.tuple #[.slice rb0 ((aP l eK to aT kind value mn ah).1).length rc0,.bool ((aP l eK to aT kind value mn ah).2.1),I ((aP l eK to aT kind value mn ah).2.2)]/\SlC jB h' rb0 rc0 ((aP l eK to aT kind value mn ah).1)):=by
 refine sT func226 U ntmps226 U λX hM hX hF=>?_
 have hs0:=@rfl _ (aP l eK to aT kind value mn ah)
 have hcv:(dE (aW (cL.mk aT kind value mn ah) l)).length<=2000000:=by rw[wV];exact kL (rX _ _) hsz
 refine qT 13 U (aI (ie (cells:=[I aT,I kind,I value,I mn,I ah]) (places:=[(0,1),(1,1),(2,1),(3,1),(4,1)]) underlying325 zc325 kr kr (bH zc325 (λb1=>bE 0 ty325 U U U U U U (qO 7 U (dy 0 ty325 U U U (aS call291 (Ge _ _ _ _ eK to (cL.mk aT kind value mn ah) hl) U (qO 7 U (aH hs0 U (λc1 hs1=>?_) (λc1 hs2=>?_))))))))))
 .refine qT 7 U ?_
  have hs3:aP l eK to aT kind value mn ah=([],false,(nh l eK to (cL.mk aT kind value mn ah))):=hs1
  exact nretH [zSN,.bool false,I (nh l eK to (cL.mk aT kind value mn ah))] (hs3▸⟨none,0,U,zG⟩)
 refine qT 3 U (dy 0 ty325 U U U (bp (aI (cx call293 (td _ (cL.mk aT kind value mn ah) _ _ _ hl) U (λv1 h1 hle1 hp1=>?_)))))
 obtain⟨_,rfl,mo1⟩:=hp1
 refine aI (cx call292 (wU h1 (aW (cL.mk aT kind value mn ah) l) v1 mo1 (kL (rX _ _) hsz)) U (λv2 h2 hle2 hp2=>?_))
 obtain⟨rb1,rc1,rfl,sl1⟩:=hp2
 refine qO 4 U (aI (pq (λb2=>bp (aI (uU 0 (k:=to) (x:=0) Db (gx nI) U (lr.nil (enc:=(zC .i64)) (V:=yP) (h:=h2)) U U U (λmo2 hm1=>qO 8 U ?_))))))
 let z1:Nat×Obj:=(b1,O [I aT,I kind,I value,I mn,I ah] 325)
 refine gB (ι:=Nat×(List (Int×Int))×Obj) (λi=>[(1,I eK),(16,zSN),(20,.slice rb1 ((dE (aW (cL.mk aT kind value mn ah) l)).length) rc1),(21,.map (some b2))]) (λi=>h2) (λi=>[(b2,i.2.2),z1]) (λi=>i.1<=(vD 8).length/\aP l eK to aT kind value mn ah=((aP.K1 l eK aT kind value mn ah) i.2.1)/\lr (zC .i64) yP h2 i.2.2 i.2.1/\(∀p∈i.2.1,0<=p.2/\p.2<=8)) ?_ (λhx1=>?_)
 .rintro⟨i1,ck,eI⟩ ⟨iP,hs4,iO,u1_0⟩ e
  try dsimp only at iP iO u1_0
  have hf8:=(Bw (P:=λx:Int=>0<=x/\x<=8) eK u1_0 (show(0:Int)<=0/\(0:Int)<=8 from⟨Int.le_refl _,by omega⟩))
  have hrg:=List.length_range (n:=(mgetD ck eK 0).toNat)
  refine qT 4 U (aI (mT 0 (k:=eK) Db (gx nI) U iO (ft zv3) (show yP _ (I 0) 0 from U) U U (λv5 hv3=>?_)))
  obtain rfl:=hv3
  refine qO 12 U (aH hs4 U (λc3 hs5=>?_) (λc3 hs6=>?_))
  .refine qT 6 U ?_
   have hs7:aP l eK to aT kind value mn ah=([],false,0):=hs5
   exact nretH [zSN,.bool false,I 0] (hs7▸⟨none,0,U,zG⟩)
  refine qT 7 U ?_
  refine gB (ι:=Nat×List Int×Option Addr×Nat×LH×Int) (λi=>[(16,.slice i.2.2.1 i.2.1.length i.2.2.2.1)]) (λi=>h2) (λi=>[(b2,eI),z1]++(i.2.2.2.2.1)) (λi=>i.1<=(vD (((mgetD ck eK 0)).toNat)).length/\aP l eK to aT kind value mn ah=((aP.K4) i.2.1 i.2.2.2.2.2)/\cN jB 3 h2 i.2.1 i.2.2.1 i.2.2.2.1 i.2.2.2.2.1/\i.2.1.length<=i.1) ?_ (λhx4=>?_)
  .rintro⟨i4,AT,Ij,Ii,LE,Fx⟩ ⟨DP,hs8,EW,OT⟩ e
   try dsimp only at DP EW OT
   refine qT 7 U (fQ vH ([(b2,eI),z1]) LE ([]) ap hM EW (λh3 hle3 sl2=>?_))
   have hs9:aP l eK to aT kind value mn ah=(AT,true,0):=hs8
   exact nretH [.slice Ij AT.length Ii,.bool true,I 0] (hs9▸⟨Ij,Ii,U,sl2⟩)
  refine ju (ι:=Nat×List Int×Option Addr×Nat×LH×Int×List Nat) (λi=>[(16,.slice i.2.2.1 i.2.1.length i.2.2.2.1),(20,.slice rb1 ((dE (aW (cL.mk aT kind value mn ah) l)).length) rc1),(21,.map (some b2)),(29,I ((((((mgetD ck eK 0)).toNat)-i.1):Nat):Int)),(31,I i.2.2.2.2.2.1)]) (λi=>h2) (λi=>[(b2,eI),z1]++(i.2.2.2.2.1)) (λi=>(vD (((mgetD ck eK 0)).toNat)).drop i.1=i.2.2.2.2.2.2/\i.1<=(vD (((mgetD ck eK 0)).toNat)).length/\aP l eK to aT kind value mn ah=((aP.L4 l eK aT kind value mn ah ck (aP.K4)) i.2.2.2.2.2.2 i.1 i.2.1 i.2.2.2.2.2.1)/\cN jB 3 h2 i.2.1 i.2.2.1 i.2.2.2.1 i.2.2.2.2.1/\i.2.1.length<=i.1) (λi=>i.2.2.2.2.2.2.length) (0,[],none,0,[],eK,(vD (((mgetD ck eK 0)).toNat))) ⟨U,U,U,(congrArg (zC .i64) (show(mgetD ck eK 0)=((((((mgetD ck eK 0)).toNat)-0):Nat):Int)from(by have hq:=(Bw (P:=λx:Int=>0<=x/\x<=8) eK u1_0 (show(0:Int)<=0/\(0:Int)<=8 from⟨Int.le_refl _,by omega⟩));omega))),U,trivial⟩ sw ⟨U,zH _,hs6,cN.nil,lo⟩ ?_
  rintro⟨i4,AT,Ij,Ii,LE,Fx,s4⟩ ⟨hd4,QY,hs10,EW,OT⟩ ag1 e
  try dsimp only at hd4 QY EW OT
  rcases s4 with _|⟨y4,rz4⟩
  .have Vj:decide (0<((((((mgetD ck eK 0)).toNat)-i4):Nat):Int))=false:=decide_eq_false (by have q_:=of_decide_eq_false (nF hd4);rw[List.length_range]at q_;omega)
   exact ea (qT 3 U (fO Vj U (qO 3 U (hx4 (i4,AT,Ij,Ii,LE,Fx) _ ⟨QY,hs10,EW,lo⟩ rd))))
  have Vi:decide (0<((((((mgetD ck eK 0)).toNat)-i4):Nat):Int))=true:=decide_eq_true (by have q_:=ip hd4;rw[List.length_range]at q_;omega)
  have NB:i4<(((mgetD ck eK 0)).toNat):=by simpa using ip hd4
  refine qT 4 U (tO Vi U (qL 11 [] U ?_))
  refine lp3 (dE (aW (cL.mk aT kind value mn ah) l)) (λi w=>[(16,.slice w.2.1 w.1.length w.2.2.1),(20,.slice rb1 ((dE (aW (cL.mk aT kind value mn ah) l)).length) rc1),(21,.map (some b2)),(29,I ((((((mgetD ck eK 0)).toNat)-i4):Nat):Int)),(31,I w.2.2.2.2),(110,.slice rb1 ((dE (aW (cL.mk aT kind value mn ah) l)).length) rc1),(111,I (((dE (aW (cL.mk aT kind value mn ah) l)).length:Nat):Int)),(112,I (i:Int))]) (λ_=>h2) (λw=>[(b2,eI),z1]++(w.2.2.2.1)) (λi w=>cN jB 3 h2 w.1 w.2.1 w.2.2.1 w.2.2.2.1/\w.1.length<=i4) (λi w=>cN jB 3 h2 w.1 w.2.1 w.2.2.1 w.2.2.2.1/\w.1.length<=i4+1) (λ_ _ h=>⟨h.1,Nat.le_succ_of_le h.2⟩) (λs6 i w=>(aP.L6 eK ck i4 (λzg6_16 zg6_31=>(aP.L4 l eK aT kind value mn ah ck (aP.K4) rz4 (i4+1) zg6_16 zg6_31))) s6 w.1 w.2.2.2.2) (AT,Ij,Ii,LE,Fx) sl1.1.1 hs10 ⟨EW,lo⟩ ?_ ?_
  .rintro i6 ⟨DQ,OS,OR,If,Fw⟩ ND hs12 ⟨EV,OQ⟩ e
   try dsimp only at EV OQ
   exact fW (qT 2 U (i8 (v':=I ((((((mgetD ck eK 0)).toNat)-(i4+1)):Nat):Int)) U (LQ NB ob) (an (ag1 ((i4+1),DQ,OS,OR,If,Fw,rz4) _ (Nat.lt_succ_self _) ⟨kx hd4,ip hd4,hs12,EV,lo⟩ rd))))
  rintro i6 ⟨DQ,OS,OR,If,Fw⟩ y6 rz6 hd6 Wa VK Wq Wu hs13 ⟨EV,OQ⟩ hx6 ag2 e
  try dsimp only at EV OQ
  refine sr (tO Wa U (qO 8 U (aI (iF bA.cells JS ty204 sl1.1 VK U U U (λq4 A4=>eU ty204 A4 U U (bH zc204 (λb6=>bE 0 ty204 U U U U U U (jm (L':=[(b6,O (bA.cells y6) 204),(b2,eI),z1]++(If)) U (qL 6 [0] U (aI (mT 1 (k:=y6.To) Db (gx nI) U iO (ft zv3) (show yP _ (I 0) 0 from U) U U (λv8 hv6=>?_))))))))))))
  obtain rfl:=hv6
  refine qL 13 [0] U (kI 2 [127,128,129] 127 129 (mhas ck y6.To) U (λc5 hk1=>?_) (λe=>?_))
  .exact bp (mY U (hk1 _ U))
  refine bp (kI 5 [130,131,132,133,134,135] 130 135 ((mgetD ck y6.To 0)==((((((mgetD ck eK 0)).toNat)-(i4+1)):Nat):Int)) U (λc6 hk2=>?_) (λe=>?_))
  .exact bp (bp (i8 (v':=I ((((((mgetD ck eK 0)).toNat)-(i4+1)):Nat):Int)) U (LQ NB ob) (qO 2 U (hk2 _ U))))
  refine bo (aH hs13 U (λc7 hs14=>?_) (λc7 hs15=>?_))
  .refine ea ?_
   let z2:Nat×Obj:=(b6,O (bA.cells y6) 204)
   refine eY ([z2,(b2,eI),z1]) mixed kr jn (λgK _=>?_)
   exact tm 0 U (qB [1] U (tf 2 U U (rj 0 ty3 U U U) (qB [5] U (tf 6 U U (rj 0 ty3 U U U) (tn 3 U (bN (cells:=[I y6.No]) eP ty3 zc3 U U kr (λb7=>⟨jn,tn 4 U (eB Rp.jZ ([(b7,O [I y6.No] 3),z2,(b2,eI),z1]) ([]) (λG=>[(b7,O [I y6.No] 3),z2,(b2,eI),z1]++G) ap (λ_=>ap) eP ty3 zc3 U bytes3 EV U U (ic 0 U (cE (y6.No) U U)) lo lo (λob1 oc1 G1 gr1=>⟨jn,qA [7,8] U (bO kr (kW U (cu (L':=[(b2,eI),z1]++G1) js (hx6 i6 ((DQ++[y6.No]),ob1,oc1,G1,y6.To) hs14 ⟨gr1,lo⟩))))⟩))⟩)))))))
  exact bL (qT 2 U (oi i6 U (qO 2 U (cu (L':=[(b2,eI),z1]++(If)) js (ag2 (DQ,OS,OR,If,Fw) hs15 ⟨EV,lo⟩)))))
 refine ju (ι:=Nat×(List (Int×Int))×Obj×List Nat) (λi=>[(1,I eK),(16,zSN),(20,.slice rb1 ((dE (aW (cL.mk aT kind value mn ah) l)).length) rc1),(21,.map (some b2)),(57,I (i.1:Int))]) (λi=>h2) (λi=>[(b2,i.2.2.1),z1]) (λi=>(vD 8).drop i.1=i.2.2.2/\i.1<=(vD 8).length/\aP l eK to aT kind value mn ah=((aP.L1 l aT kind value mn ah (aP.K1 l eK aT kind value mn ah)) i.2.2.2 i.1 i.2.1)/\lr (zC .i64) yP h2 i.2.2.1 i.2.1/\(∀p∈i.2.1,0<=p.2/\p.2<=8)) (λi=>i.2.2.2.length) (0,(mput ([]) to 0),mo2,(vD 8)) rd sw ⟨U,zH _,hs2,hm1,(λp hp=>by rw[jC.1 hp];exact⟨Int.le_refl _,by omega⟩)⟩ ?_
 rintro⟨i1,ck,eI,s1⟩ ⟨hd1,iP,hs16,iO,u1_0⟩ ag3 e
 try dsimp only at hd1 iP iO u1_0
 rcases s1 with _|⟨y1,rz1⟩
 .have ml:decide ((i1:Int)<8)=false:=by simpa using nF hd1
  exact sr (fO ml U (qO 4 U (hx1 (i1,ck,eI) _ ⟨iP,hs16,iO,u1_0⟩ rd)))
 have fY:decide ((i1:Int)<8)=true:=by simpa using tc hd1
 have iT:i1<8:=by simpa using ip hd1
 have hr8:i1<8:=iT
 refine sr (tO fY U (qL 17 [] U ?_))
 refine lp2 (dE (aW (cL.mk aT kind value mn ah) l)) (λi w=>[(1,I eK),(16,zSN),(20,.slice rb1 ((dE (aW (cL.mk aT kind value mn ah) l)).length) rc1),(21,.map (some b2)),(22,I (i1:Int)),(57,I (i1:Int)),(60,.slice rb1 ((dE (aW (cL.mk aT kind value mn ah) l)).length) rc1),(61,I (((dE (aW (cL.mk aT kind value mn ah) l)).length:Nat):Int)),(62,I (i:Int))]) (λ_=>h2) (λw=>[(b2,w.2),z1]) (λi w=>lr (zC .i64) yP h2 w.2 w.1/\(∀p∈w.1,0<=p.2/\p.2<=8)) (λs3 i w=>(aP.L3 i1 (λzg3_b2_0=>(aP.L1 l aT kind value mn ah (aP.K1 l eK aT kind value mn ah) rz1 (i1+1) zg3_b2_0))) s3 w.1) (ck,eI) sl1.1.1 hs16 ⟨iO,ob⟩ ?_ ?_
 .rintro i3 ⟨oP,DS⟩ QY hs18 ⟨sW,u3_0⟩ e
  try dsimp only at sW u3_0
  exact fW (bJ (oi i1 U (qO 2 U (ag3 ((i1+1),oP,DS,rz1) _ (Nat.lt_succ_self _) ⟨kx hd1,ip hd1,hs18,sW,ob⟩ rd))))
 rintro i3 ⟨oP,DS⟩ y3 rz3 hd3 OO SH NC Wb hs19 ⟨sW,u3_0⟩ hx3 ag4 e
 try dsimp only at sW u3_0
 refine sr (tO OO U (qO 8 U (aI (iF bA.cells JS ty204 sl1.1 SH U U U (λq6 A6=>eU ty204 A6 U U (bH zc204 (λb9=>bE 0 ty204 U U U U U U (qL 6 [0] U (aI (mT 1 (k:=y3.From) Db (gx nI) U sW (ft zv3) (show yP _ (I 0) 0 from U) U U (λv11 hv9=>?_)))))))))))
 obtain rfl:=hv9
 refine qL 11 [0] U (aI (mT 1 (k:=y3.To) Db (gx nI) U sW (ft zv3) (show yP _ (I 0) 0 from U) U U (λv12 hv10=>?_)))
 obtain rfl:=hv10
 refine qO 10 U (kI 4 [81,82,83,84,85] 81 85 ((mgetD oP y3.To 0)==(i1:Int)) U (λc8 hk3=>?_) (λe=>?_))
 .exact bp (qO 3 U (hk3 _ U))
 refine bp (kI 3 [86,87,88,89] 86 89 (!(mhas oP y3.From)) U (λc9 hk4=>?_) (λe=>?_))
 .exact bp (qO 2 U (hk4 _ U))
 refine bo (aH hs19 U (λc10 hs20=>?_) (λc10 hs21=>?_))
 .exact qK 5 [0] U (oi i1 U (aI (mS 1 (k:=y3.From) (x:=(((i1+1):Nat):Int)) Db (gx nI) U sW U U U (λmo3 hm2=>qO 3 U (oi i3 U (qO 2 U (cu (L':=[(b2,mo3),z1]) js (ag4 ((mput oP y3.From (((i1+1):Nat):Int)),mo3) hs20 ⟨hm2,(by first|assumption|exact AD (P:=λx:Int=>0<=x/\x<=8) _ ob ob)⟩))))))))
 exact bL (qT 2 U (oi i3 U (qO 2 U (cu (L':=[(b2,DS),z1]) js (ag4 (oP,DS) hs21 ⟨sW,(by first|assumption|exact AD (P:=λx:Int=>0<=x/\x<=8) _ ob ob)⟩)))))
theorem AQ(h l fo fm bT eE nA nz dA ah)(hl:SlC aG.rp h fo fm l)(Ia:SlC jB h nA nz eE):Ret prog 190 [.slice fo l.length fm,I bT,.slice nA eE.length nz,I dA,I ah] h (I (dw l bT eE dA ah)):=by
 refine sT func190 U ntmps190 U λX hM hX hF=>?_
 generalize hz:(dw l bT eE dA ah)=z;have hs:=hz.symm
 have HA:=h1 [1,2,3,4,20,21] 22 (λw=>[(12,I w)]) (λs1 i w=>(dw.L1 (dw.K1 bT eE dA ah)) s1 w)
 exact W
theorem PT(h:p:=by
  exact⟨⟨hle1,λ_ hp=>List.Sublist.subset js hp⟩,qm (K2:=[z1]) hle1 (λ_ hp=>hp) (qA [20,21] U (bO kr (qT 4 U (oi i1 U (qO 2 U (cu (L':=A3) js (ag1 ((dn1++[y1]),A3,h2) hs5 ⟨hC1,(hl1.t hle1)⟩)))))))⟩):p:=h
theorem xX(h v0 tW tV v0_q)(v1:List (dZ×aG))(Rj v1_q)(hv0:SlC aG.rp h tW tV v0)(av0:At h v0_q [.slice tW v0.length tV])(hv1:wa dZ.enc (ku aG.rp) h Rj v1)(av1:At h v1_q [.map (some Rj)]):Itr prog (.func (.func 264) #[] (xB [.pointer (some v0_q),.pointer (some v1_q)])) yG (ce v0 v1) h:=by
 refine sj call264 ?_
 intro yf ya yb C Sp Pn h1 A de m1 m2 m3 hC hy
 refine j1 Mi U ntmps264 U λX hXM hX=>?_
 have hs0:ce v0 v1=[]++ce v0 v1:=rfl
 refine sr (eJ ty24 (av0.mono de) U (qL 3 [] U ?_))
 refine lp2 v0 (λi w=>[(0,.func yf ya yb),(2,.pointer (some v1_q)),(6,.slice tW v0.length tV),(7,I (v0.length:Int)),(8,I (i:Int))]) (λw=>w.2.2) (λw=>w.2.1) (λi w=>C w.1 w.2.2 w.2.1/\xJ h1 w.2.2) (λs1 i w=>w.1++(ce.L1 v1 (ce.K1)) s1) ([],A,h1) ((hv0.mono aG.aD de).1.1) hs0 ⟨hC,lf⟩ ?_ ?_
 .rintro i1 ⟨dn1,A1_,hh1⟩ iP hs1 ⟨hC1_,hl1⟩ e
  refine dR ?_
  have hs2:ce v0 v1=dn1:=hs1.trans (List.append_nil _)
  exact sk [] (A:=A1_) Mi U (List.Sublist.refl _) (.inl (hs2▸hC1_))
 rintro i1 ⟨dn1,A1_,hh1⟩ y1 rz1 hd1 fY dz iT mF hs3 ⟨hC1_,hl1⟩ hx1 ag1 e
 refine sr (tO fY U (qO 8 U (aI (iF aG.cells GG ty207 (hv0.mono aG.aD (de.t hl1)).1 dz U U U (λq2 A2=>eU ty207 A2 U U (bH zc207 (λb2=>bE 0 ty207 U U U U U U (jm (L':=[(b2,O (aG.cells y1) 207)]++(A1_)) U (qO 2 U ?_)))))))))
 let z1:Nat×Obj:=(b2,O (aG.cells y1) 207)
 refine eY ([z1]) mixed kr jn (λgK _=>?_)
 refine qB [0] U (tf 1 U U (rj 0 ty4 U U U) (qA [2,3] U ?_))
 refine fE 15 U (λc1=>?_) (λc1=>?_)
 .refine tf 4 U U (rh ty299 (av1.mono (de.t hl1)) U) (qB [5] U (tf 6 U U (rj 0 ty3 U U U) (qB [7] U (tf 8 U U (rj 0 ty3 U U U) (qB [9] U (tf 10 U U (rj 0 ty4 U U U) (tf 13 U U (λ_ _ hj=>lO ty207 U (hj.nth (i:=0) U) U) (tn 11 U (ie (cells:=[I y1.cM,I y1.iH,.bool y1.Of]) (places:=[(0,1),(1,1),(2,1)]) Pv zc301 kr kr (⟨jn,tn 12 U ?_⟩))))))))))
  obtain⟨o2,hb2,hm2⟩:=(hv1.mono (ku.mono aG.aD) (de.t hl1))
  refine pt (k:=(dZ.mk y1.cM y1.iH y1.Of)) underlying299 w4 hb2 hm2 (ft zv207) (show(ku aG.rp) _ (.agg (xB [I 0,I 0,I 0,I 0,I 0,.bool false,.bool false])) (aG.mk 0 0 0 0 0 false false)from⟨_,U,U⟩) U U (λv2 hv2=>?_)
  obtain⟨_,rfl,rfl⟩:=hv2
  refine⟨jn,(tf 14 U U (λ_ _ _=>MU (LK (mgetD v1 (dZ.mk y1.cM y1.iH y1.Of) (aG.mk 0 0 0 0 0 false false)) y1) eqg207 U U) (tf 15 U U (λ_ _ _=>px U (cb (show(decide ((mgetD v1 (dZ.mk y1.cM y1.iH y1.Of) (aG.mk 0 0 0 0 0 false false))=y1))=((!y1.nj)&&(decide ((mgetD v1 (dZ.mk y1.cM y1.iH y1.Of) (aG.mk 0 0 0 0 0 false false))=y1)))from by first|(rw[c1];rfl)|(rw[c1];rfl)|simp[c1]))) (tm 16 U ?_)))⟩
  refine fE 28 U (λc2=>?_) (λc2=>?_)
  .have ct1:=c2
   have hs4:=hs3.trans (congrArg (dn1++·) (bt ct1))
   refine tm 17 U (tf 18 U U (λ_ _ hj=>lO ty207 U (hj.nth (i:=0) U) U) ?_)
   have hx1:ce v0 v1=dn1++(y1::(ce.L1 v1 (ce.K1) rz1)):=hs4
   refine tn 19 U (mq ([z1]) A1_ ap (hy dn1 y1 _ _ _ _ hx1 hl1 hC1_ U) U U (λh2 A3 hle1 hC1=>?_) (λh3 A4 hle2 hS1=>?_) (λch1 h4 A5 hle3 hP1 e=>iY (oJ [] (A:=A5) Mi (List.sublist_append_right _ _) hP1)))
   .have hs5:ce v0 v1=(dn1++[y1])++((ce.L1 v1 (ce.K1) rz1)):=hx1.trans ap
    exact PT
   exact⟨⟨hle2,λ_ hp=>List.Sublist.subset js hp⟩,qm (K2:=[z1]) hle2 (λ_ hp=>hp) (qA [20,21] U (bO kr (mC U (dR (n8 [] (A:=A4) Mi U js (.inr hS1))))))⟩
  have ct2:=c2
  have hs6:=hs3.trans (congrArg (dn1++·) (bf ct2))
  exact tk 17 U U (qR 18 4 U (bO kr (qT 4 U (oi i1 U (qO 2 U (cu (L':=A1_) js (ag1 (dn1,A1_,hh1) hs6 ⟨hC1_,hl1⟩)))))))
 refine qR 4 11 U (tf 15 U U (λ_ _ _=>px U (cb (show false=((!y1.nj)&&(decide ((mgetD v1 (dZ.mk y1.cM y1.iH y1.Of) (aG.mk 0 0 0 0 0 false false))=y1)))from by first|(rw[c1];rfl)|(rw[c1];rfl)|simp[c1]))) (tm 16 U ?_))
 refine fE 28 U (λc3=>?_) (λc3=>?_)
 .have ct3:=c3
  have hs7:=hs3.trans (congrArg (dn1++·) (bt ct3))
  refine tm 17 U (tf 18 U U (λ_ _ hj=>lO ty207 U (hj.nth (i:=0) U) U) ?_)
  have hx2:ce v0 v1=dn1++(y1::(ce.L1 v1 (ce.K1) rz1)):=hs7
  refine tn 19 U (mq ([z1]) A1_ ap (hy dn1 y1 _ _ _ _ hx2 hl1 hC1_ U) U U (λh2 A3 hle1 hC1=>?_) (λh6 A7 hle5 hS2=>?_) (λch2 h7 A8 hle6 hP2 e=>iY (oJ [] (A:=A8) Mi (List.sublist_append_right _ _) hP2)))
  .have hs5:ce v0 v1=(dn1++[y1])++((ce.L1 v1 (ce.K1) rz1)):=hx2.trans ap
   exact PT
  exact⟨⟨hle5,λ_ hp=>List.Sublist.subset js hp⟩,qm (K2:=[z1]) hle5 (λ_ hp=>hp) (qA [20,21] U (bO kr (mC U (dR (n8 [] (A:=A7) Mi U js (.inr hS2))))))⟩
 have ct4:=c3
 have hs9:=hs3.trans (congrArg (dn1++·) (bf ct4))
 exact tk 17 U U (qR 18 4 U (bO kr (qT 4 U (oi i1 U (qO 2 U (cu (L':=A1_) js (ag1 (dn1,A1_,hh1) hs9 ⟨hC1_,hl1⟩)))))))
theorem zx(h l fo fm lu ah)(hl:SlC aG.rp h fo fm l):j6 prog 192 [.slice fo l.length fm,I lu,I ah] h (λv h'=>∃(rv0:Value),v=rv0/\Itr prog rv0 yG (dl l lu ah) h'):=by
 refine sT func192 U ntmps192 U λX hM hX hF=>?_
 have hs0:=@rfl _ (dl l lu ah)
 refine sr (eO (λb1=>qO 4 U (aI (pq (λb2=>bH zc299 (λb3=>cW 0 ty299 U U U U U U (qL 8 [2] U ?_)))))))
 let z1:Nat×Obj:=(b1,O [.slice fo l.length fm] 24)
 let z2:Nat×Obj:=(b3,O [.map (some b2)] 299)
 refine lp2 l (λi w=>[(1,I lu),(2,I ah),(3,Q b1),(7,Q b3),(14,.slice fo l.length fm),(15,I (l.length:Int)),(16,I (i:Int))]) (λ_=>h) (λw=>[z2,(b2,w.2),z1]) (λi w=>lr dZ.enc (ku aG.rp) h w.2 w.1/\w.1.length<=0+i) (λs1 i w=>(dl.L1 lu ah (dl.K1 l)) s1 w.1) ([],.map #[] 0) hl.1.1 hs0 ⟨(lr.nil (enc:=dZ.enc) (V:=(ku aG.rp)) (h:=h)),lc⟩ ?_ ?_
 .rintro i1 ⟨ck,eI⟩ iP hs1 ⟨iO,Iu⟩ e
  refine sr (cz 2 U hM (λh1 hle1 hb1=>cz 0 U hM (λh2 hle2 hb2=>aI (gM U U (an (gE 0 U hM (λh3 hle3 hb3=>?_)))))))
  have mc1:wa dZ.enc (ku aG.rp) h3 b2 ck:=⟨_,hb3,(iO.mono (ku.mono aG.aD) (hle1.t hle2)).mono (ku.mono aG.aD) hle3⟩
  have hs2:dl l lu ah=(ce l ck):=hs1
  exact nretH [.func (.func 264) #[] #[Q b1,Q b3]] (hs2▸⟨(.func (.func 264) #[] #[Q b1,Q b3]),U,(xX h3 l fo fm ⟨b1,0,none⟩ ck b2 ⟨b3,0,none⟩ (hl.mono aG.aD ((hle1.t hle2).t hle3)) ((dO hb1).mono (hle2.t hle3)) mc1 ((dO hb2).mono hle3))⟩)
 rintro i1 ⟨ck,eI⟩ y1 rz1 hd1 fY dz iT mF hs3 ⟨iO,Iu⟩ hx1 ag1 e
 refine sr (tO fY U (qO 8 U (aI (iF aG.cells GG ty207 hl.1 dz U U U (λq2 A2=>eU ty207 A2 U U (bH zc207 (λb5=>bE 0 ty207 U U U U U U (qL 9 [0] U (gy 5 [24,25,26,27,28,29] 24 29 (decide (ah<y1.dY)) U (λc1 hk1=>?_) (λe=>?_))))))))))
 .exact qL 5 [0] U (hk1 _ U)
 refine bo (aH hs3 U (λc2 hs4=>?_) (λc2 hs5=>?_))
 .exact kW U (bJ (oi i1 U (qO 2 U (cu (L':=[z2,(b2,eI),z1]) js (ag1 (ck,eI) hs4 ⟨iO,lc⟩)))))
 refine qK 9 [0,0,0] U (aI (ie (cells:=[I y1.cM,I y1.iH,.bool y1.Of]) (places:=[(0,1),(1,1),(2,1)]) Pv zc301 kr kr (bH zc301 (λb6=>bE 0 ty301 U U U U U U (qL 4 [2] U (dy 0 ty301 U U U (aI (mT 3 (k:=(dZ.mk y1.cM y1.iH y1.Of)) underlying299 w4 U iO (ft zv207) (show(ku aG.rp) _ (.agg (xB [I 0,I 0,I 0,I 0,I 0,.bool false,.bool false])) (aG.mk 0 0 0 0 0 false false)from⟨_,U,U⟩) U U (λv1 hv1=>?_)))))))))
 obtain⟨_,rfl,rfl⟩:=hv1
 refine qO 3 U (bH zc207 (λb7=>bE 0 ty207 U U U U U U (qO 7 U (gy 6 [45,46,47,48,49,50,51] 45 51 (decide ((mgetD ck (dZ.mk y1.cM y1.iH y1.Of) (aG.mk 0 0 0 0 0 false false)).At<=y1.At)) U (λc3 hk2=>?_) (λe=>?_)))))
 .exact qL 6 [2,0] U (hk2 _ U)
 refine bo (aH hs5 U (λc4 hs6=>?_) (λc4 hs7=>?_))
 .exact qK 2 [3] U (dy 1 ty301 U U U (dy 2 ty207 U U U (aI (mS 4 (k:=(dZ.mk y1.cM y1.iH y1.Of)) (x:=y1) underlying299 w4 U iO U U ⟨_,U,U⟩ (λmo1 hm1=>qO 3 U (oi i1 U (qO 2 U (cu (L':=[z2,(b2,mo1),z1]) js (ag1 ((mput ck (dZ.mk y1.cM y1.iH y1.Of) y1),mo1) hs6 ⟨hm1,(by have:=ox ck (dZ.mk y1.cM y1.iH y1.Of) y1;first|omega|(simp only[zB,zA]at *;omega))⟩)))))))))
 exact bL (qT 2 U (oi i1 U (qO 2 U (cu (L':=[z2,(b2,eI),z1]) js (ag1 (ck,eI) hs7 ⟨iO,lc⟩)))))
theorem yj.mono{h h':HF}(hl:h.le h'):∀{vs:List Value}{ws:List iE},yj h vs ws->yj h' vs ws
 |[],[],_=>trivial
 |_::_,_::_,⟨⟨r,e,o⟩,t⟩=>⟨⟨r,e,o.mono hl⟩,yj.mono hl t⟩
 |[],_::_,x=>x.elim
 |_::_,[],x=>x.elim
theorem yj.snoc{h:HF}{v:Value}{w:iE}(hw:∃r,v=.agg (iE.cells w r).toArray/\iE.ok h w r):∀{vs:List Value}{ws:List iE},yj h vs ws->yj h (vs++[v]) (ws++[w])
 |[],[],_=>⟨hw,trivial⟩
 |_::_,_::_,⟨a,t⟩=>⟨a,yj.snoc hw t⟩
 |[],_::_,x=>x.elim
 |_::_,[],x=>x.elim
theorem yj.len{h:HF}:∀{vs:List Value}{ws:List iE},yj h vs ws->vs.length=ws.length
 |[],[],_=>rfl
 |_::_,_::_,⟨_,t⟩=>by simp[yj.len t]
 |[],_::_,x=>x.elim
 |_::_,[],x=>x.elim
theorem nD(h w Vv q1 q2 bm bc om)(m:List (Int×Bool))(cap s r:Nat)(vs:List Value)(q:List iE)(hw:iE.ok h w Vv)(a1:At h q1 [.map (some bm)])(a2:At h q2 [.chan (some bc)])(hm:lr (zC .i64) rZ h om m)(hq:yj h vs q)(hroom:mgetD m w.to false=false->vs.length<cap):
  nQ prog (.func (.func 191) #[] #[.pointer (some q1),.pointer (some q2)]) #[.agg (iE.cells w Vv).toArray] h [(bm,om),(bc,.chan cap vs.toArray false s r false)]
   (λx h' B=>x=.returned (.tuple #[])/\h'=h/\∃om' vs' s',lr (zC .i64) rZ h om' (conPut w m q).1/\yj h vs' (conPut w m q).2/\B=[(bm,om'),(bc,.chan cap vs'.toArray false s' r false)]):=by
 refine nv (args:=[.agg (iE.cells w Vv).toArray]) (cap:=[.pointer (some q1),.pointer (some q2)]) call191 (cX func191 U ntmps191 U λX hM hX=>sr (eO (λb1=>qO 3 U (eJ ty221 a1 U (qL 2 [0] U (aI (sJ 1 (k:=w.to) RF (gx nI) U hm (ft zv4) (show rZ _ (.bool false) false from U) U U (λv hv=>?_))))))))
 obtain rfl:=hv
 cases hc:mgetD m w.to false with
 |true=>
  refine qO 4 U ?_
  have e1:conPut w m q=(m,q):=by simp[conPut,hc]
  refine Ae func191 (λa ha w hw=>nw U a w) (λw hw=>(hw.sub (L':=[(bm,om),(bc,.chan cap vs.toArray false s r false)]) js).lower) ⟨U,hX,om,vs,s,?_,?_,U⟩
  .rw[e1];exact hm
  rw[e1];exact hq
 |false=>
  refine qO 3 U ?_
  have e1:conPut w m q=(mput m w.to true,q++[w]):=by simp[conPut,hc]
  refine sr (eJ ty221 a1 U (qL 2 [0] U (aI (mS 1 (k:=w.to) (x:=true) RF (gx nI) U hm U U U (λom' hm'=>qO 2 U (eJ ty255 a2 U (dy 0 ty257 U U U (Vc 2 U U U (hroom hc) (bo ?_)))))))))
  refine Ae func191 (λa ha w hw=>nw U a w) (λww hww=>(hww.sub (L':=[(bm,om'),(bc,.chan cap (vs++[Value.agg (iE.cells w Vv).toArray]).toArray false (s+1) r false)]) js).lower) ⟨U,hX,om',vs++[.agg (iE.cells w Vv).toArray],s+1,?_,?_,U⟩
  .rw[e1];exact hm'
  rw[e1];exact yj.snoc ⟨Vv,rfl,hw⟩ hq
theorem FR.mono{h h':HF}(hl:h.le h'){m:List (Int×Option Addr×Nat×Nat)}{f:List (Int×List aG)}{G:LH}(x:FR h m f G):FR h' m f G:=FRg.mono aG.aD hl x
theorem IF(k:Int->Int):∀(l:List Int)(g:Int),dw.L1 k l g=0->(∀x∈l,g<x/\x<=1048576)/\l.Pairwise (·<·)/\∃g',k g'=0
 |[],g,h=>⟨λ_ h=>(kA h).elim,List.Pairwise.nil,g,h⟩
 |y::l,g,h=>by
  simp only[dw.L1,Bool.cond_eq_ite,zE,decide_eq_true_eq]at h
  split at h
  .omega
  next hc=>
  obtain⟨h1,h2,h3⟩:=IF k l y h
  refine⟨λx hx=>?_,List.pairwise_cons.2 ⟨λx hx=>(h1 x hx).1,h2⟩,h3⟩
  rcases kD.1 hx with rfl|hx
  .omega
  have:=h1 x hx;omega
theorem Gd{l:List aG}{bT:Int}{eE:List Int}{a b:Int}(h:dw l bT eE a b=0):eE.Pairwise (·<=·)/\eE.length<=16:=by
 unfold dw at h
 rw[Bool.cond_eq_ite]at h
 split at h
 .next hc=>simp at hc;exact absurd h hc
 obtain⟨_,h2,g',h3⟩:=IF _ _ _ h
 refine⟨h2.imp (λh=>Int.le_of_lt h),?_⟩
 unfold dw.K1 at h3
 rw[Bool.cond_eq_ite]at h3
 split at h3
 .omega
 next hc=>
 simp only[zE,not_or,decide_eq_true_eq]at hc
 omega
theorem uP(h b)(n c:Nat)(hc:n<=c):Ret prog 194 [.slice b n c] h (.slice b n n):=by
 exact cX func194 U ntmps194 U λX hM hX=>qK 11 [] U (aI (eG (U3 eP ty3 U U U hc) (an (wd [.slice b n n] func194 U hX rd U))))
theorem rU(h l fo fm bT eE nA nz dA ah)(hl:SlC aG.rp h fo fm l)(Ia:SlC jB h nA nz eE)(hsz:l.length<=2000000):
  j6 prog 126 [.slice fo l.length fm,I bT,.slice nA eE.length nz,I dA,I ah] h
   (λv h'=>∃(rb0:Option Addr)(rc0:Nat),v=.tuple #[.slice rb0 ((dV l bT eE dA ah).1.length) rc0,.bool ((dV l bT eE dA ah).2.1),I ((dV l bT eE dA ah).2.2)]/\SlC jB h' rb0 rc0 ((dV l bT eE dA ah).1)):=by
 refine cX Pi U ntmps126 U λX hM hX=>sr (eO (λb1=>qL 12 [0] U (aS (v:=I (dw l bT eE dA ah)) call190 (AQ h l fo fm bT eE nA nz dA ah hl Ia) U (qO 7 U (ly U (λc1=>?_) (λc1=>?_))))))
 .have e1:dV l bT eE dA ah=([],false,dw l bT eE dA ah):=by unfold dV;rw[c1];rfl
  exact sr (qO 5 U (lL [zSN,.bool false,I (dw l bT eE dA ah)] Pi U rd ⟨none,0,by rw[e1];rfl,by rw[e1];exact zG⟩))
 have hex:dw l bT eE dA ah=0:=by simpa using c1
 obtain⟨hps,hpl⟩:=Gd hex
 have e1:dV l bT eE dA ah=((conFind l bT eE (dl l dA ah)).1,(conFind l bT eE (dl l dA ah)).2,0):=by unfold dV;rw[c1];rfl
 rw[e1]
 have hstl:=Mw l dA ah
 generalize hst:dl l dA ah=st at hstl
 refine qT 3 U (aI (pq (λbf=>bH zc254 (λb14=>cW 0 ty254 U U U U U U (qO 3 U (aI (pq (λbm=>bH zc221 (λb15=>cW 0 ty221 U U U U U U (qL 5 [] U (aI (R7 underlying255 bytes257 U ob (by decide) (λbc=>bH zc255 (λb16=>cW 0 ty255 U U U U U U (qO 3 U (aI (gM U U (bH zc258 (λb17=>cW 0 ty258 U U U U U U (bo (gE 0 U hM (λh1 l1 f17=>gE 0 U hM (λh2 l2 f16=>gE 1 U hM (λh3 l3 f15=>gE 2 U hM (λh4 l4 f14=>gE 3 U hM (λh5 l5 f1=>?_))))))))))))))))))))))))))
 have a17:=(dO f17).mono (l2.t (l3.t (l4.t l5)))
 have a16:=(dO f16).mono (l3.t (l4.t l5))
 have a15:=(dO f15).mono (l4.t l5)
 have a14:=(dO f14).mono l5
 have a1:=dO f1
 have l05:h.le h5:=vA l1 (l2.t (l3.t (l4.t l5)))
 clear f17 f16 f15 f14 f1 l1 l2 l3 l4 l5
 refine qT 6 U (aI (cx call192 (zx h5 l fo fm dA ah (hl.mono aG.aD l05)) U (λv1 h6 l6 hp1=>?_)))
 obtain⟨_,rfl,hit⟩:=hp1
 rw[hst]at hit
 refine qO 2 U (dR ?_)
 refine j9 (it:=v1) (xs:=st) (ι:=List (Int×List aG)×List (Int×Bool)×List iE×List Value×Nat×Obj×List (Int×Option Addr×Nat×Nat)×Obj×LH×HF) [] (λi=>i.2.2.2.2.2.2.2.2.2)
  (λi=>[(bc,.chan l.length i.2.2.2.1.toArray false i.2.2.2.2.1 0 false),(bm,i.2.2.2.2.2.1),(bf,i.2.2.2.2.2.2.2.1)]++i.2.2.2.2.2.2.2.2.1)
  (λrest i=>(conFill bT rest i.1 i.2.1 i.2.2.1=conFill bT st [] [] []/\(∀x∈rest,x∈st))/\(yj i.2.2.2.2.2.2.2.2.2 i.2.2.2.1 i.2.2.1/\lr (zC .i64) rZ i.2.2.2.2.2.2.2.2.2 i.2.2.2.2.2.1 i.2.1/\lr (zC .i64) V3 i.2.2.2.2.2.2.2.2.2 i.2.2.2.2.2.2.2.1 i.2.2.2.2.2.2.1/\FR i.2.2.2.2.2.2.2.2.2 i.2.2.2.2.2.2.1 i.1 i.2.2.2.2.2.2.2.2.1)/\(yl st i.2.1 i.2.2.1/\Qw st i.1)/\h6.le i.2.2.2.2.2.2.2.2.2/\(∀k,(mgetD i.1 k []).length+rest.length<=l.length))
  (λ_=>False) (λ_=>False) 0 (λ_ _ _=>False) ([],[],[],[],0,.map #[] 0,[],.map #[] 0,[],h6) Pi rfl hit rfl EP (λ_ _ _ _ _ hq=>hq) rfl rfl
  ⟨⟨rfl,λ_ hx=>hx⟩,⟨trivial,lr.nil,lr.nil,rfl⟩,⟨⟨λ_ hp=>(kA hp).elim,kE _,λ_ hp=>(kA hp).elim⟩,λ_ _ hx=>(kA hx).elim⟩,kH _,λk=>by simp[mgetD,mget?];exact hstl⟩ ?_ ?_ (λ_ _ _ hF=>hF.elim) (λ_ _ _ hF=>hF.elim) (λ_ _ _ _ hF=>hF.elim)
 .rintro l1 r1 lp1 x rest vs1 ⟨f,m,q,vs,s,om,m3,o3,Gf,hh⟩ h7 X' hFR ⟨⟨hfill,hin⟩,⟨hwy,hmm,hm3,hfr⟩,⟨hgq,hgf⟩,h6h,hlen⟩ h67 hh7 hv hX' hXM hlp nx rt ex pn
  dsimp only at hfill hin hwy hmm hm3 hfr hgq hgf h6h hh7 hlen
  obtain rfl:=hv
  have hxst:x∈st:=hin x (vB ..)
  have hin':∀y∈rest,y∈st:=λy hy=>hin y (xC _ hy)
  have h57:h5.le h7:=vA l6 h67
  replace hwy:=hwy.mono hh7
  replace hmm:=hmm.mono rZ.mono hh7
  replace hm3:=hm3.mono V3.mono hh7
  replace hfr:=hfr.mono hh7
  have h67':h6.le h7:=h67
  clear hh7 h6h
  refine bJ (bH zc207 (λb18=>bE 0 ty207 U U U U U U (bo (kh 1 U hlp (qT 2 U (bZ (L':=[(b18,.cells (aG.cells x).toArray 207 (0,0)),(l1,.loop { lp1 with state:=.busy }),(r1,.deferred (some [])),(bc,.chan l.length vs.toArray false s 0 false),(bm,om),(bf,o3)]++Gf) (by simp[markB,setNth]) (qK 6 [0] U (ly U (λcO=>?_) (λcO=>?_)))))))))
  .obtain⟨gb,gc,G1,G2,hget,hgrow,hperm,hput⟩:=hfr.get x.cM
   have hlx:=hlen x.cM
   simp only[zA]at hlx
   have hnext:conFill bT rest (mput f x.cM (mgetD f x.cM []++[x])) m q=conFill bT st [] [] []:=by
    rw[←hfill];simp[conFill,cO]
   have hlen':∀k,(mgetD (mput f x.cM (mgetD f x.cM []++[x])) k []).length+rest.length<=l.length:=λk=>by
    rw[CN]
    split
    .simp only[jA,zA,zB];omega
    have:=hlen k;simp only[zA]at this;omega
   have fin:∀(e':Env)(b8:Nat)(o8:Obj)(o3':Obj)(gb':Option Addr)(gc':Nat)(G1':LH),cN aG.rp 207 h7 (mgetD f x.cM []++[x]) gb' gc' G1'->lr (zC .i64) V3 h7 o3' (mput m3 x.cM (gb',(mgetD f x.cM []++[x]).length,gc')) ->
     TT prog (roundFrame l1 126) 111 [.inBlock 2,.inBlock 1] hFR e' [] X' h7 ([(b8,o8),(b18,.cells (aG.cells x).toArray 207 (0,0)),(l1,.loop { lp1 with state:=.busy }),(r1,.deferred (some [])),(bc,.chan l.length vs.toArray false s 0 false),(bm,om),(bf,o3')]++(G2++G1')):=by
    intro e' b8 o8 o3' gb' gc' G1' hG' hm'
    obtain⟨G',hfr',hp'⟩:=hput gb' gc' _ G1' hG'
    exact fW (fW (cu (L':=[(l1,.loop { lp1 with state:=.busy }),(r1,.deferred (some [])),(bc,.chan l.length vs.toArray false s 0 false),(bm,om),(bf,o3')]++(G2++G1')) js (m6 (L':=[(l1,.loop { lp1 with state:=.busy }),(r1,.deferred (some [])),(bc,.chan l.length vs.toArray false s 0 false),(bm,om),(bf,o3')]++G') (List.Perm.append_left _ (List.perm_append_comm.trans hp'.symm)) (bZ (L':=rdH l1 r1 lp1 (([(bc,.chan l.length vs.toArray false s 0 false),(bm,om),(bf,o3')]++G')++markB [])) (by simp[markB]) (nx (mput f x.cM (mgetD f x.cM []++[x]),m,q,vs,s,om,mput m3 x.cM (gb',(mgetD f x.cM []++[x]).length,gc'),o3',G',h7) _ _ ⟨⟨hnext,hin'⟩,⟨hwy,hmm,hm',hfr'⟩,⟨hgq,hgf.put hxst⟩,h67',hlen'⟩ lf)))))
   have hJ:∀{L:LH},Jst h7 [(b18,.cells (aG.cells x).toArray 207 (0,0))] h7 ((b18,.cells (aG.cells x).toArray 207 (0,0))::L):=DN js
   have hJ2:∀{L:LH}{p:Nat×Obj},Jst h7 [(b18,.cells (aG.cells x).toArray 207 (0,0))] h7 (p::(b18,.cells (aG.cells x).toArray 207 (0,0))::L):=DN js
   refine eY [(b18,.cells (aG.cells x).toArray 207 (0,0))] mixed kr hJ (λhsep _=>?_)
   refine ki 0 hsep hJ U U kr U (rh ty254 (a14.mono h57) U) (ki 1 hsep hJ U U kr U (λ_ _ _=>yZ NL U) (ki 2 hsep hJ U U kr U (rj 0 ty3 U U U) (ki 3 hsep hJ U U kr U (rh ty254 (a14.mono h57) U) (ki 4 hsep hJ U U kr U (λ_ _ _=>yZ NL U) (ki 5 hsep hJ U U kr U (rj 0 ty3 U U U) (ki 7 hsep hJ U U kr U (λ_ _ hj=>lO ty207 U (hj.nth (i:=0) U) U) ?_))))))
   refine nk 6 8 kr U U ?_ ?_
   .refine sJ 5 (k:=x.cM) Ph (gx nI) U hm3 (ft zv24) (show V3 _ (zSN) (none,0,0)from U) U U (λv hv=>?_)
    rw[hget]at hv
    obtain rfl:=hv
    exact⟨hJ,tn 8 U (bN (cells:=aG.cells x) GG ty207 zc207 U U kr (λb8=>⟨hJ2,tn 9 U (GV (List.Perm.append_left ([(b8,.cells (aG.cells x).toArray 207 (0,0)),(b18,.cells (aG.cells x).toArray 207 (0,0)),(l1,.loop { lp1 with state:=.busy }),(r1,.deferred (some [])),(bc,.chan l.length vs.toArray false s 0 false),(bm,om),(bf,o3)]:LH) hperm) (eB aG.dg [(b8,.cells (aG.cells x).toArray 207 (0,0)),(b18,.cells (aG.cells x).toArray 207 (0,0)),(l1,.loop { lp1 with state:=.busy }),(r1,.deferred (some [])),(bc,.chan l.length vs.toArray false s 0 false),(bm,om),(bf,o3)] G2 (λG=>[(b8,.cells (aG.cells x).toArray 207 (0,0)),(b18,.cells (aG.cells x).toArray 207 (0,0)),(l1,.loop { lp1 with state:=.busy }),(r1,.deferred (some [])),(bc,.chan l.length vs.toArray false s 0 false),(bm,om),(bf,o3)]++(G2++G)) U (λ_=>U) GG ty207 zc207 U bytes207 hgrow U U (ic 0 U (show cS aG.rp h7 (aG.cells x) [x]from⟨aG.cells x,[],by simp,U,U,U⟩)) lo lo (λgb' gc' G1' hG'=>⟨hJ2,tn 10 U (mS 6 (k:=x.cM) (x:=(gb',(mgetD f x.cM []++[x]).length,gc')) Ph (gx nI) U hm3 U U U (λo3' hm'=>⟨hJ2,bO kr (fin _ b8 _ o3' gb' gc' G1' hG' hm')⟩))⟩)))⟩))⟩
   refine bN (cells:=aG.cells x) GG ty207 zc207 U U kr (λb8=>⟨hJ2,tn 6 U (sJ 6 (k:=x.cM) Ph (gx nI) U hm3 (ft zv24) (show V3 _ (zSN) (none,0,0)from U) U U (λv hv=>?_))⟩)
   rw[hget]at hv
   obtain rfl:=hv
   exact⟨hJ2,tn 9 U (GV (List.Perm.append_left ([(b8,.cells (aG.cells x).toArray 207 (0,0)),(b18,.cells (aG.cells x).toArray 207 (0,0)),(l1,.loop { lp1 with state:=.busy }),(r1,.deferred (some [])),(bc,.chan l.length vs.toArray false s 0 false),(bm,om),(bf,o3)]:LH) hperm) (eB aG.dg [(b8,.cells (aG.cells x).toArray 207 (0,0)),(b18,.cells (aG.cells x).toArray 207 (0,0)),(l1,.loop { lp1 with state:=.busy }),(r1,.deferred (some [])),(bc,.chan l.length vs.toArray false s 0 false),(bm,om),(bf,o3)] G2 (λG=>[(b8,.cells (aG.cells x).toArray 207 (0,0)),(b18,.cells (aG.cells x).toArray 207 (0,0)),(l1,.loop { lp1 with state:=.busy }),(r1,.deferred (some [])),(bc,.chan l.length vs.toArray false s 0 false),(bm,om),(bf,o3)]++(G2++G)) U (λ_=>U) GG ty207 zc207 U bytes207 hgrow U U (ic 0 U (show cS aG.rp h7 (aG.cells x) [x]from⟨aG.cells x,[],by simp,U,U,U⟩)) lo lo (λgb' gc' G1' hG'=>⟨hJ2,tn 10 U (mS 6 (k:=x.cM) (x:=(gb',(mgetD f x.cM []++[x]).length,gc')) Ph (gx nI) U hm3 U U U (λo3' hm'=>⟨hJ2,bO kr (fin _ b8 _ o3' gb' gc' G1' hG' hm')⟩))⟩)))⟩
  refine qK 4 [0] U (eJ ty3 (a1.mono h57) U (qO 3 U ?_))
  have hlen':∀k,(mgetD f k []).length+rest.length<=l.length:=λk=>by have:=hlen k;simp only[zA]at this;omega
  refine ly U (λcP=>?_) (λcP=>?_)
  .have hnext:conFill bT rest f (conPut ⟨[x.No],x.iH⟩ m q).1 (conPut ⟨[x.No],x.iH⟩ m q).2=conFill bT st [] [] []:=by
    rw[←hfill];simp only[conFill,cO,cond_false,cP,cond_true]
   have hpty:(iE.mk [x.No] x.iH).to∈st.map (·.iH):=WK hxst
   refine bJ (eJ ty258 (a17.mono h57) U (qL 2 [0] U (aI (Ey (cells:=[I x.No]) hXM eP ty3 zc3 U U kr (λb65 hb65=>Cv 0 U hb65 (λh8 l8 f8=>?_))))))
   have sl8:SlC jB h8 (zAD b65) 1 [x.No]:=cS.slB0 (T:=3) (fz:=(0,0)) (show cS jB h8 [I x.No] [x.No]from⟨[I x.No],[],rfl,rfl,rfl,rfl⟩) f8
   refine qL 2 [0] U (aI (ie (cells:=iE.cells ⟨[x.No],x.iH⟩ ⟨zAD b65,1⟩) (places:=[(0,1),(1,1)]) underlying257 zc257 kr kr ?_))
   refine aI (K0 (vs:=[.agg (iE.cells ⟨[x.No],x.iH⟩ ⟨zAD b65,1⟩).toArray]) [(bm,om),(bc,.chan l.length vs.toArray false s 0 false)] ([(b18,.cells (aG.cells x).toArray 207 (0,0)),(l1,.loop { lp1 with state:=.busy }),(r1,.deferred (some [])),(bf,o3)]++Gf) ?_
    (nD h8 ⟨[x.No],x.iH⟩ ⟨zAD b65,1⟩ ⟨b15,0,none⟩ ⟨b16,0,none⟩ bm bc om m l.length s 0 vs q ⟨sl8⟩ (a15.mono (h57.t l8)) (a16.mono (h57.t l8)) (hmm.mono rZ.mono l8) (hwy.mono l8) (λhno=>by rw[hwy.len];exact Bi hgq hmm.nodup hpty hstl hno)) rfl rfl (λB hB=>?_))
   .exact Bu [(b18,.cells (aG.cells x).toArray 207 (0,0)),(l1,.loop { lp1 with state:=.busy }),(r1,.deferred (some []))] ((bf,o3)::Gf) (bc,.chan l.length vs.toArray false s 0 false) (bm,om)
   obtain⟨om',vs',s',hm',hw',rfl⟩:=hB
   refine qO 3 U (cu (L':=[(bm,om'),(bc,.chan l.length vs'.toArray false s' 0 false)]++([(l1,.loop { lp1 with state:=.busy }),(r1,.deferred (some [])),(bf,o3)]++Gf)) js ?_)
   refine m6 (L':=rdH l1 r1 lp1 (([(bc,.chan l.length vs'.toArray false s' 0 false),(bm,om'),(bf,o3)]++Gf)++markB [])) ?_ ?_
   .rw[show markB []=([]:LH)from rfl,List.append_nil]
    exact(Bu [(l1,Obj.loop { lp1 with state:=.busy }),(r1,.deferred (some []))] ((bf,o3)::Gf) (bc,.chan l.length vs'.toArray false s' 0 false) (bm,om')).symm
   exact nx (f,(conPut ⟨[x.No],x.iH⟩ m q).1,(conPut ⟨[x.No],x.iH⟩ m q).2,vs',s',om',m3,o3,Gf,h8) _ _ ⟨⟨hnext,hin'⟩,⟨hw',hm',hm3.mono V3.mono l8,hfr.mono l8⟩,⟨wD hgq hpty (by simp),hgf⟩,vA h67' l8,hlen'⟩ lf
  have hnext:conFill bT rest f m q=conFill bT st [] [] []:=by
   rw[←hfill];simp only[conFill,cO,cond_false,cP]
  exact bL (qT 2 U (cu (L':=[(l1,.loop { lp1 with state:=.busy }),(r1,.deferred (some [])),(bc,.chan l.length vs.toArray false s 0 false),(bm,om),(bf,o3)]++Gf) js (bZ (L':=rdH l1 r1 lp1 (([(bc,.chan l.length vs.toArray false s 0 false),(bm,om),(bf,o3)]++Gf)++markB [])) (by simp[markB]) (nx (f,m,q,vs,s,om,m3,o3,Gf,h7) _ _ ⟨⟨hnext,hin'⟩,⟨hwy,hmm,hm3,hfr⟩,⟨hgq,hgf⟩,h67',hlen'⟩ lf))))
 rintro dm ⟨f,m0,q0,vs0,s0,om0,m3,o3,Gf,hh⟩ h7 ⟨⟨hfill,_⟩,⟨hwy,hmm,hm3,hfr⟩,⟨hgq,hgf⟩,h6h,hlen⟩ hh7 h67
 dsimp only at hfill hwy hmm hm3 hfr hgq hgf h6h hh7 hlen
 refine fW (gE 2 U hM (λh8 l8 f8=>GK [(bc,.chan l.length vs0.toArray false s0 0 false),(bm,om0)] Gf (markB [dm]) U hM (λh9 l9 hG9=>?_)))
 have h89:hh.le h9:=vA hh7 (l8.t l9)
 have hmF:lr (zC .i64) (VSl aG.rp) h9 o3 f:=FRg.frozen aG.aD hm3 hfr h89 hG9
 have hbf:h9 bf=some o3:=l9 _ _ f8
 have h59:h5.le h9:=vA l6 (h67.t (l8.t l9))
 replace a14:=a14.mono h59
 replace a15:=a15.mono h59
 replace a16:=a16.mono h59
 replace a17:=a17.mono h59
 have hpar:=(Ia.mono vH l05).mono vH h59
 have hcf:conFind l bT eE st=conLoop eE f (l.length+1) m0 q0:=by
  unfold conFind;rw[←hfill];rfl
 have hwy0:=hwy.mono h89
 have hmm0:=hmm.mono rZ.mono h89
 clear hwy hmm hm3 hfr hG9 l8 f8 h6h hh7 h67 hfill a1
 generalize hCF:conFind l bT eE st=CF at hcf
 refine ea ?_
 refine gB (ι:=List Value×Nat×Nat×Obj×HF) (λi=>[]) (λi=>i.2.2.2.2) (λi=>[(bc,.chan l.length i.1.toArray false i.2.1 i.2.2.1 false),(bm,i.2.2.2.1)]++markB [dm]) (λi=>CF=([],false)) ?_ (λhx=>?_)
 .rintro⟨vs,s,r,om,hh⟩ hc e
  exact sr (qO 4 U (oq [dm] [zSN,.bool false,I 0] Pi U rd ⟨none,0,by rw[hc];rfl,by rw[hc];exact zG⟩))
 refine ju (ι:=Nat×List (Int×Bool)×List iE×List Value×Nat×Nat×Obj×HF) (λi=>[(2,.slice nA eE.length nz),(14,Q b14),(16,Q b16),(17,Q b17)]) (λi=>i.2.2.2.2.2.2.2)
  (λi=>[(bc,.chan l.length i.2.2.2.1.toArray false i.2.2.2.2.1 i.2.2.2.2.2.1 false),(bm,i.2.2.2.2.2.2.1)]++markB [dm])
  (λi=>CF=conLoop eE f i.1 i.2.1 i.2.2.1/\i.2.2.1.length+(l.length-i.2.1.length)<i.1/\yj i.2.2.2.2.2.2.2 i.2.2.2.1 i.2.2.1/\lr (zC .i64) rZ i.2.2.2.2.2.2.2 i.2.2.2.2.2.2.1 i.2.1/\yl st i.2.1 i.2.2.1/\h9.le i.2.2.2.2.2.2.2)
  (λi=>i.1) (l.length+1,m0,q0,vs0,s0,0,om0,h9) rd (λw hw=>hw) ⟨hcf,?_,hwy0,hmm0,hgq,kH _⟩ ?_
 .show q0.length+(l.length-m0.length)<l.length+1
  have:=hgq.2.1;have:=SB hgq hmm0.nodup;omega
 clear hcf hwy0 hmm0 hgq
 rintro⟨n,m,q,vs,s,r,om,hh⟩ ⟨hcf,hn,hwy,hmm,hgq,h9h⟩ ag e
 dsimp only at hcf hn hwy hmm hgq h9h
 obtain⟨n,rfl⟩:∃n',n=n'+1:=⟨n-1,by omega⟩
 refine qT 3 U (eJ ty255 (a16.mono h9h) U (aI (eG (U2 underlying255 (vB ..) U) ?_)))
 rcases q with _|⟨w,q⟩
 .have hv0:vs=[]:=List.eq_nil_of_length_eq_zero hwy.len
  subst hv0
  exact i8 (v':=.bool false) U U (qO 3 U (hx ([],s,r,om,hh) _ hcf trivial))
 rcases vs with _|⟨v,vs⟩
 .exact hwy.elim
 obtain⟨⟨wr,rfl,hok⟩,hwy⟩:=hwy
 refine tO (decide_eq_true (by simp)) U (qO 6 U (eJ ty255 (a16.mono h9h) U (Vd 0 underlying255 zv257 U U (bH zc257 (λb19=>bE 0 ty257 U U U U U U (qL 7 [0] U (aS (v:=.tuple #[I (slices_BinarySearch_int eE w.to).1,.bool (slices_BinarySearch_int eE w.to).2]) call193 (oX hh eE nA nz w.to (hpar.mono vH h9h) hps ob) U (qO 10 U ?_))))))))
 have hgq':yl st m q:=⟨hgq.1,by have:=hgq.2.1;simp only[zA]at this;omega,λw' hw'=>hgq.2.2 w' (xC _ hw')⟩
 have hw8:=hgq.2.2 w (vB ..)
 simp only[zA]at hn
 refine ly U (λcF=>?_) (λcF=>?_)
 .have hc2:CF=(w.path,true):=by
   rw[hcf];simp only[conLoop];rw[show eE.contains w.to=true from cF];rfl
  exact qK 8 [0] U (cu (L':=[(bc,.chan l.length vs.toArray false s (r+1) false),(bm,om)]++markB [dm]) js (oq [dm] [.slice wr.AB w.path.length wr.CH,.bool true,I 0] Pi U rd ⟨wr.AB,wr.CH,by rw[hc2];rfl,by rw[hc2];exact hok.path⟩))
 have hc2:CF=(bif(w.path.length:Int)==8 then conLoop eE f n m q else conLoop eE f n (conStep w.path (mgetD f w.to []) m q).1 (conStep w.path (mgetD f w.to []) m q).2):=by
  rw[hcf];simp only[conLoop];rw[show eE.contains w.to=false from cF];rfl
 refine qK 9 [0] U (ly U (λc8=>?_) (λc8=>?_))
 .rw[show((w.path.length:Int)==8)=true from c8]at hc2
  exact kW U (cu (L':=[(bc,.chan l.length vs.toArray false s (r+1) false),(bm,om)]++markB [dm]) js (ag (n,m,q,vs,s,r+1,om,hh) _ (Nat.lt_succ_self _) ⟨hc2,by show q.length+(l.length-m.length)<n;omega,hwy,hmm,hgq',h9h⟩ rd))
 rw[show((w.path.length:Int)==8)=false from c8]at hc2
 refine qT 3 U (eJ ty254 (a14.mono h9h) U (qL 2 [0] U (aI (pt (k:=w.to) Ph (gx nI) (h9h _ _ hbf) (hmF.mono (VSl.mono aG.aD) h9h) (ft zv24) (show VSl aG.rp _ (zSN) []from⟨none,0,U,zG⟩) U U (λv hv=>?_)))))
 obtain⟨xb,xc,rfl,slx⟩:=hv
 have hxs:∀y∈mgetD f w.to [],y∈st:=hgf w.to
 generalize mgetD f w.to []=xs at slx hc2 hxs
 refine qL 3 [] U ?_
 have hw7:w.path.length+1<=8:=by simp at c8;omega
 have hsum:=Ef (path:=w.path) hstl hw7 hxs hgq' hmm.nodup
 generalize hcs:conStep w.path xs m q=CS at hc2 hsum
 refine gB (ι:=List Value×Nat×Obj×HF) (λi=>[(2,.slice nA eE.length nz),(14,Q b14),(16,Q b16),(17,Q b17)]) (λi=>i.2.2.2) (λi=>[(b19,.cells (iE.cells w wr).toArray 257 (0,0)),(bc,.chan l.length i.1.toArray false i.2.1 (r+1) false),(bm,i.2.2.1)]++markB [dm])
  (λi=>yj i.2.2.2 i.1 CS.2/\lr (zC .i64) rZ i.2.2.2 i.2.2.1 CS.1/\yl st CS.1 CS.2/\hh.le i.2.2.2) ?_ (λhx2=>?_)
 .rintro⟨vs2,s2,om2,h10⟩ ⟨hw2,hm2,hg2,hle2⟩ e2
  exact fW (cu (L':=[(bc,.chan l.length vs2.toArray false s2 (r+1) false),(bm,om2)]++markB [dm]) js (ag (n,CS.1,CS.2,vs2,s2,r+1,om2,h10) _ (Nat.lt_succ_self _) ⟨hc2,by show CS.2.length+(l.length-CS.1.length)<n;omega,hw2,hm2,hg2,vA h9h hle2⟩ rd))
 refine ju (ι:=Nat×List (Int×Bool)×List iE×List Value×Nat×Obj×HF×List aG) (λi=>[(2,.slice nA eE.length nz),(14,Q b14),(16,Q b16),(17,Q b17),(19,Q b19),(92,.slice xb xs.length xc),(93,I (xs.length:Int)),(94,I (i.1:Int))]) (λi=>i.2.2.2.2.2.2.1)
  (λi=>[(b19,.cells (iE.cells w wr).toArray 257 (0,0)),(bc,.chan l.length i.2.2.2.1.toArray false i.2.2.2.2.1 (r+1) false),(bm,i.2.2.2.2.2.1)]++markB [dm])
  (λi=>xs.drop i.1=i.2.2.2.2.2.2.2/\conStep w.path i.2.2.2.2.2.2.2 i.2.1 i.2.2.1=CS/\yj i.2.2.2.2.2.2.1 i.2.2.2.1 i.2.2.1/\lr (zC .i64) rZ i.2.2.2.2.2.2.1 i.2.2.2.2.2.1 i.2.1/\yl st i.2.1 i.2.2.1/\hh.le i.2.2.2.2.2.2.1)
  (λi=>i.2.2.2.2.2.2.2.length) (0,m,q,vs,s,om,hh,xs) rd (λw hw=>hw) ⟨rfl,hcs,hwy,hmm,hgq',kH _⟩ ?_
 rintro⟨i1,m2,q2,vs2,s2,om2,h10,rest⟩ ⟨hd1,hcs2,hw2,hm2,hg2,hle2⟩ ag2 e2
 dsimp only at hd1 hcs2 hw2 hm2 hg2 hle2
 rcases rest with _|⟨x,rest⟩
 .have hge:=nF hd1
  refine sr (fO hge U (qO 4 U ?_))
  obtain rfl:(m2,q2)=CS:=hcs2
  exact hx2 (vs2,s2,om2,h10) _ ⟨hw2,hm2,hg2,hle2⟩ rd
 have hlt:=tc hd1
 have hget:=rJ hd1
 have hxst:x∈st:=hxs x (hZ hd1)
 have hpty:(iE.mk (w.path++[x.No]) x.iH).to∈st.map (·.iH):=WK hxst
 have slx2:=slx.mono aG.aD hle2
 have hokp:=hok.path.mono vH hle2
 have mF:=slx.1.1
 have iT:=ip hd1
 have h910:h9.le h10:=vA h9h hle2
 refine sr (tO hlt U (qO 8 U (aI (iF aG.cells GG ty207 slx2.1 hget U U U (λqx Ax=>eU ty207 Ax U U (bH zc207 (λb23=>bE 0 ty207 U U U U U U (bo ?_))))))))
 refine TH (ι:=List Value×Nat×Obj×HF) (λi=>[(2,.slice nA eE.length nz),(14,Q b14),(16,Q b16),(17,Q b17),(19,Q b19),(92,.slice xb xs.length xc),(93,I (xs.length:Int)),(94,I (i1:Int))]) (λi=>i.2.2.2) (λi=>[(b19,.cells (iE.cells w wr).toArray 257 (0,0)),(bc,.chan l.length i.1.toArray false i.2.1 (r+1) false),(bm,i.2.2.1)]++markB [dm])
  (λi=>h10.le i.2.2.2/\yj i.2.2.2 i.1 (conPut ⟨w.path++[x.No],x.iH⟩ m2 q2).2/\lr (zC .i64) rZ i.2.2.2 i.2.2.1 (conPut ⟨w.path++[x.No],x.iH⟩ m2 q2).1) ?_ (λfin=>?_)
 .rintro⟨vs3,s3,om3,h11⟩ ⟨l11,hw3,hm3⟩ e3
  dsimp only at l11 hw3 hm3
  exact fW (bJ (oi i1 U (qO 2 U (ag2 (i1+1,(conPut ⟨w.path++[x.No],x.iH⟩ m2 q2).1,(conPut ⟨w.path++[x.No],x.iH⟩ m2 q2).2,vs3,s3,om3,h11,rest) _ (Nat.lt_succ_self _) ⟨kx hd1,hcs2,hw3,hm3,wD hg2 hpty (by simpa using hw7),vA hle2 l11⟩ rd))))
 have hKs:∀p∈([(b23,.cells (aG.cells x).toArray 207 (0,0)),(b19,.cells (iE.cells w wr).toArray 257 (0,0))]:LH),p∈([(b23,.cells (aG.cells x).toArray 207 (0,0)),(b19,.cells (iE.cells w wr).toArray 257 (0,0)),(bc,.chan l.length vs2.toArray false s2 (r+1) false),(bm,om2)]++markB [dm]:LH):=λp hp=>by
  rcases kD.1 hp with rfl|hp
  .simp
  rw[jC.1 hp];simp
 have hJ:Jst h10 [(b23,.cells (aG.cells x).toArray 207 (0,0)),(b19,.cells (iE.cells w wr).toArray 257 (0,0))] h10 ([(b23,.cells (aG.cells x).toArray 207 (0,0)),(b19,.cells (iE.cells w wr).toArray 257 (0,0)),(bc,.chan l.length vs2.toArray false s2 (r+1) false),(bm,om2)]++markB [dm]):=⟨kH _,hKs⟩
 refine eY [(b23,.cells (aG.cells x).toArray 207 (0,0)),(b19,.cells (iE.cells w wr).toArray 257 (0,0))] mixed kr hJ (λhsep _=>?_)
 refine ki 0 hsep hJ U U kr U (rh ty258 (a17.mono h910) U) (ki 1 hsep hJ U U kr U (λ_ _ _=>yZ S0 U) (ki 2 hsep hJ U U kr U (rj 1 ty31 U U U) (ki 4 hsep hJ U U kr U (λ_ _ _=>yZ S3 U) (ki 5 hsep hJ U U kr U (rj 0 ty3 U U U) (ki 8 hsep hJ U U kr U (λ_ _ _=>yZ S2 U) (ki 9 hsep hJ U U kr U (rj 0 ty3 U U U) ?_))))))
 have hpl8:w.path.length<=wr.CH:=hokp.2
 have hpn:=hokp.1.1
 refine nk 3 6 kr U U ?_ ?_
 .refine gi (v:=.slice wr.AB w.path.length w.path.length) call194 (uP h10 wr.AB w.path.length wr.CH hpl8) U ⟨hJ,tn 6 U (bN (cells:=[I x.No]) eP ty3 zc3 U U kr (λb6=>⟨⟨kH _,λp hp=>xC _ (hKs p hp)⟩,tn 7 U (J9 (R:=jB) (xs:=w.path) (ys:=[x.No]) eP ty3 zc3 U bytes3 (km hokp.1) U U (ic 0 U (show cS jB h10 [I x.No] [x.No]from⟨[I x.No],[],U,U,U,U⟩)) (by simp) lo lo (λnb nc NG hNG=>⟨⟨kH _,λp hp=>jP NG (xC _ (hKs p hp))⟩,tn 10 U (ie (cells:=iE.cells ⟨w.path++[x.No],x.iH⟩ ⟨nb,nc⟩) (places:=[(0,1),(1,1)]) underlying257 zc257 kr kr ⟨⟨kH _,λp hp=>jP NG (xC _ (hKs p hp))⟩,tn 11 U (xm vH [] NG ((b6,.cells [zC .i64 x.No].toArray 3 (0,0))::[(b23,.cells (aG.cells x).toArray 207 (0,0)),(b19,.cells (iE.cells w wr).toArray 257 (0,0)),(bc,.chan l.length vs2.toArray false s2 (r+1) false),(bm,om2)]++markB [dm]) U hM hNG (λh11 l11 slN=>?_))⟩)⟩))⟩))⟩
  refine K0 (vs:=[.agg (iE.cells ⟨w.path++[x.No],x.iH⟩ ⟨nb,nc⟩).toArray]) [(bm,om2),(bc,.chan l.length vs2.toArray false s2 (r+1) false)] ([(b6,.cells [zC .i64 x.No].toArray 3 (0,0)),(b23,.cells (aG.cells x).toArray 207 (0,0)),(b19,.cells (iE.cells w wr).toArray 257 (0,0))]++markB [dm]) ?_
   (nD h11 ⟨w.path++[x.No],x.iH⟩ ⟨nb,nc⟩ ⟨b15,0,none⟩ ⟨b16,0,none⟩ bm bc om2 m2 l.length s2 (r+1) vs2 q2 ⟨slN⟩ (a15.mono (h910.t l11)) (a16.mono (h910.t l11)) (hm2.mono rZ.mono l11) (hw2.mono l11) (λhno=>by rw[hw2.len];exact Bi hg2 hm2.nodup hpty hstl hno)) rfl rfl (λB hB=>?_)
  .exact Bu [(b6,.cells [zC .i64 x.No].toArray 3 (0,0)),(b23,.cells (aG.cells x).toArray 207 (0,0)),(b19,.cells (iE.cells w wr).toArray 257 (0,0))] (markB [dm]) (bc,.chan l.length vs2.toArray false s2 (r+1) false) (bm,om2)
  obtain⟨om3,vs3,s3,hm3,hw3,rfl⟩:=hB
  exact⟨⟨l11,λp hp=>by rcases hp with _|⟨_,_|⟨_,h⟩⟩;simp;simp;cases h⟩,qm (K2:=[(b23,.cells (aG.cells x).toArray 207 (0,0)),(b19,.cells (iE.cells w wr).toArray 257 (0,0))]) l11 (λ_ hp=>hp) (bO kr (m6 (Bu [(b6,.cells [zC .i64 x.No].toArray 3 (0,0)),(b23,.cells (aG.cells x).toArray 207 (0,0)),(b19,.cells (iE.cells w wr).toArray 257 (0,0))] (markB [dm]) (bc,.chan l.length vs3.toArray false s3 (r+1) false) (bm,om3)).symm (cu (L':=[(b19,.cells (iE.cells w wr).toArray 257 (0,0)),(bc,.chan l.length vs3.toArray false s3 (r+1) false),(bm,om3)]++markB [dm]) js (fin (vs3,s3,om3,h11) _ ⟨l11,hw3,hm3⟩ rd))))⟩
 refine bN (cells:=[I x.No]) eP ty3 zc3 U U kr (λb6=>⟨⟨kH _,λp hp=>xC _ (hKs p hp)⟩,tn 3 U (gi (v:=.slice wr.AB w.path.length w.path.length) call194 (uP h10 wr.AB w.path.length wr.CH hpl8) U ⟨⟨kH _,λp hp=>xC _ (hKs p hp)⟩,tn 7 U (J9 (R:=jB) (xs:=w.path) (ys:=[x.No]) eP ty3 zc3 U bytes3 (km hokp.1) U U (ic 0 U (show cS jB h10 [I x.No] [x.No]from⟨[I x.No],[],U,U,U,U⟩)) (by simp) lo lo (λnb nc NG hNG=>⟨⟨kH _,λp hp=>jP NG (xC _ (hKs p hp))⟩,tn 10 U (ie (cells:=iE.cells ⟨w.path++[x.No],x.iH⟩ ⟨nb,nc⟩) (places:=[(0,1),(1,1)]) underlying257 zc257 kr kr ⟨⟨kH _,λp hp=>jP NG (xC _ (hKs p hp))⟩,tn 11 U (xm vH [] NG ((b6,.cells [zC .i64 x.No].toArray 3 (0,0))::[(b23,.cells (aG.cells x).toArray 207 (0,0)),(b19,.cells (iE.cells w wr).toArray 257 (0,0)),(bc,.chan l.length vs2.toArray false s2 (r+1) false),(bm,om2)]++markB [dm]) U hM hNG (λh11 l11 slN=>?_))⟩)⟩))⟩)⟩)
 refine K0 (vs:=[.agg (iE.cells ⟨w.path++[x.No],x.iH⟩ ⟨nb,nc⟩).toArray]) [(bm,om2),(bc,.chan l.length vs2.toArray false s2 (r+1) false)] ([(b6,.cells [zC .i64 x.No].toArray 3 (0,0)),(b23,.cells (aG.cells x).toArray 207 (0,0)),(b19,.cells (iE.cells w wr).toArray 257 (0,0))]++markB [dm]) ?_
  (nD h11 ⟨w.path++[x.No],x.iH⟩ ⟨nb,nc⟩ ⟨b15,0,none⟩ ⟨b16,0,none⟩ bm bc om2 m2 l.length s2 (r+1) vs2 q2 ⟨slN⟩ (a15.mono (h910.t l11)) (a16.mono (h910.t l11)) (hm2.mono rZ.mono l11) (hw2.mono l11) (λhno=>by rw[hw2.len];exact Bi hg2 hm2.nodup hpty hstl hno)) rfl rfl (λB hB=>?_)
 .exact Bu [(b6,.cells [zC .i64 x.No].toArray 3 (0,0)),(b23,.cells (aG.cells x).toArray 207 (0,0)),(b19,.cells (iE.cells w wr).toArray 257 (0,0))] (markB [dm]) (bc,.chan l.length vs2.toArray false s2 (r+1) false) (bm,om2)
 obtain⟨om3,vs3,s3,hm3,hw3,rfl⟩:=hB
 exact⟨⟨l11,λp hp=>by rcases hp with _|⟨_,_|⟨_,h⟩⟩;simp;simp;cases h⟩,qm (K2:=[(b23,.cells (aG.cells x).toArray 207 (0,0)),(b19,.cells (iE.cells w wr).toArray 257 (0,0))]) l11 (λ_ hp=>hp) (bO kr (m6 (Bu [(b6,.cells [zC .i64 x.No].toArray 3 (0,0)),(b23,.cells (aG.cells x).toArray 207 (0,0)),(b19,.cells (iE.cells w wr).toArray 257 (0,0))] (markB [dm]) (bc,.chan l.length vs3.toArray false s3 (r+1) false) (bm,om3)).symm (cu (L':=[(b19,.cells (iE.cells w wr).toArray 257 (0,0)),(bc,.chan l.length vs3.toArray false s3 (r+1) false),(bm,om3)]++markB [dm]) js (fin (vs3,s3,om3,h11) _ ⟨l11,hw3,hm3⟩ rd))))⟩
theorem rT(h c pQ)(bT:Int)(hc:bU.ok h c pQ)(hsm:smR c.Register)(hco:jw c)(hpp:0<=bT/\bT<64):Ret prog 227 [.agg (bU.cells c pQ).toArray,I bT] h (.bool (j4 c bT)):=by
 refine sT func227 U ntmps227 U λX hM hX hF=>?_
 have hs0:=@rfl _ (j4 c bT)
 refine sr (eO (λb1=>qL 15 [0,0,0,0] U (aI (cx call126 (rU _ _ _ _ bT _ _ _ c.at_ c.ah hc.Register.er hc.aV.lh hsm.2.2.2.1) U (λv1 h1 hle1 hp1=>?_)))))
 obtain⟨rb1,rc1,rfl,sl1⟩:=hp1
 exact bp (qO 10 U (aI (pN Es (jf h1 ((dV c.Register.er bT c.aV.lh c.at_ c.ah).2.2)) (nq (O4 hco hpp)) U (qO 6 U (nretP [.bool ((dV c.Register.er bT c.aV.lh c.at_ c.ah).2.1)] (cs hs0))))))
theorem zu(h c pQ c_q p jg p_q)(hc:bU.ok h c pQ)(ac:At h c_q (bU.cells c pQ))(hp:aw.ok h p jg)(ap_z:At h p_q (aw.cells p jg))(hsm:smR c.Register)(hco:jw c)(hpr:p.dp.length=p.dN.length/\∀y∈p.dp,0<=y.iV/\y.iV<=1099511627775):Itr prog (.func (.func 224) #[] (xB [.pointer (some c_q),.pointer (some p_q)])) rm (cR c p) h:=by
 refine sj call224 ?_
 intro yf ya yb C Sp Pn h1 A de m1 m2 m3 hC hy
 refine j1 Pg U ntmps224 U λX hXM hX=>?_
 have hs0:cR c p=[]++cR c p:=rfl
 have hkd:=hco.kind
 refine qK 5 [] U (lQ (j:=9) ty3 (ac.mono de) U U (qL 1 [] U (lQ (j:=1) ty55 (ap_z.mono de) U U (qL 3 [] U (ly U (λc1=>?_) (λc1=>?_))))))
 .have c1p:=of_decide_eq_true c1
  have hs1:=hs0.trans (congrArg ([]++·) (bt c1))
  refine dR ?_
  have hs2:cR c p=[]:=hs1.trans (List.append_nil _)
  exact n8 [] (A:=A) Pg U (List.Sublist.refl _) (.inl (hs2▸hC))
 have c1p:=of_decide_eq_false c1
 have hs3:=hs0.trans (congrArg ([]++·) (bf c1))
 refine qT 2 U (eY ([]) mixed kr jn (λgK _=>qB [0,1] U (tf 2 U U (rH 6 ty28 (ac.mono de) U U) (qB [3,4] U (tf 5 U U (rH 7 ty3 (ac.mono de) U U) (qB [6,7] U (tf 8 U U (rH 8 ty3 (ac.mono de) U U) (qB [9] U (tf 10 U U (rH 3 ty56 (ap_z.mono de) U U) (qB [11,12] U (tf 13 U U (rH 9 ty3 (ac.mono de) U U) ?_)))))))))))
 have ho1:0<=(c.aV.Kind:Int)/\(c.aV.Kind:Int)<((p.dp).length:Int):=ob
 refine oK 14 gK jn GB ty65 (hp.dp.mono fC.aD de).1 ho1 (di ho1) U U U U kr (λq1 cs1 A1 ln1 rr1=>?_)
 obtain⟨r1,rfl,ok1⟩:=rr1
 refine qB [15] U (tf 16 U U (rH 2 ty3 A1 U U) (qB [17] U (tf 18 U U (rH 48 ty3 (ac.mono de) U U) (qB [19] U (tf 20 U U (rH 49 ty3 (ac.mono de) U U) (tn 21 U (cx call225 (zO _ _ _ _ c.aV.No c.aV.At ((nthI p.dp c.aV.Kind).iV) c.at_ c.ah (hc.Register.dC.mono ay.aD de) hsm.2.2.2.2.2.2) U (λv1 h2 hle1 hp1=>?_))))))))
 obtain⟨rb1,rc1,rfl,sl1⟩:=hp1
 refine⟨⟨hle1,λ_ hp=>List.Sublist.subset (List.nil_sublist _) hp⟩,qm (K2:=[]) hle1 (λ_ hp=>hp) (qR 22 5 U (bO kr (qT 3 U (aI (pN Es (jf h2 ((db c.Register.dC c.aV.No c.aV.At ((nthI p.dp c.aV.Kind).iV) c.at_ c.ah).2)) (by first|exact nq (Bg hco hpr ob)|exact nq (Bf hco (hZ hd1))|exact nq (Bh hco (hZ hd1))) U (qL 7 [] U ?_))))))⟩
 refine lp2 ((db c.Register.dC c.aV.No c.aV.At ((nthI p.dp c.aV.Kind).iV) c.at_ c.ah).1) (λi w=>[(0,.func yf ya yb),(1,.pointer (some c_q)),(48,.slice rb1 (((db c.Register.dC c.aV.No c.aV.At ((nthI p.dp c.aV.Kind).iV) c.at_ c.ah).1).length) rc1),(49,I ((((db c.Register.dC c.aV.No c.aV.At ((nthI p.dp c.aV.Kind).iV) c.at_ c.ah).1).length:Nat):Int)),(50,I (i:Int))]) (λw=>w.2.2) (λw=>w.2.1) (λi w=>C w.1 w.2.2 w.2.1/\xJ h2 w.2.2) (λs1 i w=>w.1++(cR.L1 c (cR.K1)) s1) ([],A,h2) sl1.1.1 hs3 ⟨(m1 _ _ _ _ hle1 hC),lf⟩ ?_ ?_
 .rintro i1 ⟨dn1,A1_,hh1⟩ iP hs4 ⟨hC1_,hl1⟩ e
  refine dR ?_
  have hs5:cR c p=dn1:=hs4.trans (List.append_nil _)
  exact sk [] (A:=A1_) Pg U (List.Sublist.refl _) (.inl (hs5▸hC1_))
 rintro i1 ⟨dn1,A1_,hh1⟩ y1 rz1 hd1 fY dz iT mF hs6 ⟨hC1_,hl1⟩ hx1 ag1 e
 refine sr (tO fY U (qO 8 U (aI (iF ay.cells Ac ty67 (sl1.mono ay.aD hl1).1 dz U U U (λq3 A3=>eU ty67 A3 U U (bH zc67 (λb2=>bE 0 ty67 U U U U U U (jm (L':=[(b2,O (ay.cells y1) 67)]++(A1_)) U (qL 5 [] U (eJ ty22 (ac.mono ((de.t hle1).t hl1)) U (qL 5 [0,0] U (lQ (j:=48) ty3 (ac.mono ((de.t hle1).t hl1)) U U (qL 1 [] U (lQ (j:=49) ty3 (ac.mono ((de.t hle1).t hl1)) U U (aS call125 (xx _ _ _ _ y1.eD y1.For c.at_ c.ah (hc.Register.dF.mono aK.aD ((de.t hle1).t hl1))) U (qO 13 U (aI (pN Es (jf hh1 ((eQ c.Register.dF y1.eD y1.For c.at_ c.ah).2.2.2)) (by first|exact nq (Bg hco hpr ob)|exact nq (Bf hco (hZ hd1))|exact nq (Bh hco (hZ hd1))) U (qL 5 [] U (lQ (j:=1) ty23 (ac.mono ((de.t hle1).t hl1)) U U (qL 8 [0,0,0] U (lQ (j:=9) ty3 (ac.mono ((de.t hle1).t hl1)) U U (qL 2 [] U (lQ (j:=10) ty3 (ac.mono ((de.t hle1).t hl1)) U U (qL 1 [] U (lQ (j:=48) ty3 (ac.mono ((de.t hle1).t hl1)) U U (qL 1 [] U (lQ (j:=49) ty3 (ac.mono ((de.t hle1).t hl1)) U U (aI (cx call226 (Ed _ _ _ _ y1.For y1.By y1.eD c.aV.Kind c.aV.Value c.at_ c.ah (hc.Register.ga.mono bA.aD ((de.t hle1).t hl1)) hsm.2.2.1) U (λv3 h4 hle3 hp3=>?_)))))))))))))))))))))))))))))))
 obtain⟨rb3,rc3,rfl,sl3⟩:=hp3
 refine qO 11 U (aI (pN Es (jf h4 ((aP c.Register.ga y1.For y1.By y1.eD c.aV.Kind c.aV.Value c.at_ c.ah).2.2)) (by first|exact nq (Bg hco hpr ob)|exact nq (Bf hco (hZ hd1))|exact nq (Bh hco (hZ hd1))) U (qO 5 U (kI 2 [100,101,102] 100 102 ((aP c.Register.ga y1.For y1.By y1.eD c.aV.Kind c.aV.Value c.at_ c.ah).2.1) U (λc2 hk1=>?_) (λe=>?_)))))
 .exact bp (mY U (hk1 _ U))
 refine bp (kI 6 [103,104,105,106,107,108,109] 103 109 (!(j4 c y1.For)) U (λc3 hk2=>?_) (λe=>?_))
 .exact eU ty96 (ac.mono (((de.t hle1).t hl1).t hle3)) U U (qL 2 [0] U (aS call227 (rT _ _ _ y1.For (hc.mono (((de.t hle1).t hl1).t hle3)) hsm ob (by first|exact KD hco (hZ hd1)|exact NU hco (hZ hd1))) U (qO 2 U (hk2 _ U))))
 refine bp (kI 6 [110,111,112,113,114,115,116] 110 116 (!(j4 c y1.By)) U (λc4 hk3=>?_) (λe=>?_))
 .exact eU ty96 (ac.mono (((de.t hle1).t hl1).t hle3)) U U (qL 2 [0] U (aS call227 (rT _ _ _ y1.By (hc.mono (((de.t hle1).t hl1).t hle3)) hsm ob (by first|exact KD hco (hZ hd1)|exact NU hco (hZ hd1))) U (qO 2 U (hk3 _ U))))
 refine bp (uO 117 U (λc5=>?_) (λc5=>?_))
 .have hs7:=hs6.trans (congrArg (dn1++·) (bt c5))
  refine bp (dy 0 ty67 U U U ?_)
  have hx1:cR c p=dn1++(y1::(cR.L1 c (cR.K1) rz1)):=hs7
  refine aI (mq ([(b2,O (ay.cells y1) 67)]) A1_ ap (hy dn1 y1 _ _ _ _ hx1 ((hle1.t hl1).t hle3) (m1 _ _ _ _ hle3 hC1_) U) U U (λh5 A4 hle4 hC1=>?_) (λh6 A5 hle5 hS1=>?_) (λch1 h7 A6 hle6 hP1 e=>iY (oJ [] (A:=A6) Pg (List.sublist_append_right _ _) hP1)))
  .have hs8:cR c p=(dn1++[y1])++((cR.L1 c (cR.K1) rz1)):=hx1.trans ap
   exact nB U (qO 6 U (oi i1 U (qO 2 U (cu (L':=A4) js (ag1 ((dn1++[y1]),A4,h5) hs8 ⟨hC1,((hl1.t hle3).t hle4)⟩)))))
  exact nB U (qO 3 U (dR (n8 [] (A:=A5) Pg U js (.inr hS1))))
 have hs9:=hs6.trans (congrArg (dn1++·) (bf c5))
 exact kq (qO 8 U (oi i1 U (qO 2 U (cu (L':=A1_) js (ag1 (dn1,A1_,h4) hs9 ⟨(m1 _ _ _ _ hle3 hC1_),(hl1.t hle3)⟩)))))
end
section
open Go.Proofs Go.Proofs.Tryz Go.RowKit
theorem JC{out:List Int}{x:Int}:(compStep out x).getLast? = some x:=by
 unfold compStep
 split
 .assumption
 .simp
theorem IP(xs:List Int):∀k,k<=xs.length->Lib.compactUpTo xs.toArray k=compI (xs.take k)/\(0<k->(compI (xs.take k)).getLast? = xs[k-1]?)
 |0,_=>⟨by simp[Lib.compactUpTo,compI],λh=>absurd h (Nat.lt_irrefl _)⟩
 |k+1,hk=>by
  obtain⟨h1,h2⟩:=IP xs k (by omega)
  have hx:xs[k]? = some xs[k]:=List.getElem?_eq_getElem (by omega)
  have ht:xs.take (k+1)=xs.take k++[xs[k]]:=by rw[List.take_add_one,hx];rfl
  have hc:compI (xs.take (k+1))=compStep (compI (xs.take k)) xs[k]:=by unfold compI;rw[ht,List.foldl_append];rfl
  refine⟨?_,λ_=>by rw[hc,JC,Nat.add_sub_cancel,hx]⟩
  rw[Lib.compactUpTo_succ,h1,hc]
  have hd:xs.toArray[k]! = xs[k]:=by simp[getElem!_pos,show k<xs.length by omega]
  rcases Nat.eq_zero_or_pos k with rfl|hk0
  .simp[Lib.keeps,compI,compStep,hd]
  .have hl:=h2 hk0
   have hd1:xs.toArray[k-1]! = xs[k-1]:=by simp[getElem!_pos,show k-1<xs.length by omega]
   have hx1:xs[k-1]? = some xs[k-1]:=List.getElem?_eq_getElem (by omega)
   unfold compStep
   rw[hl,hx1,hd]
   by_cases he:xs[k-1]=xs[k]
   .have:Lib.keeps xs.toArray k=false:=Lib.keeps_neg hk0 (by rw[hd,hd1,he])
    simp[this,he]
   .have:Lib.keeps xs.toArray k=true:=Lib.keeps_pos (by rw[hd,hd1];exact λe=>he e.symm)
    simp[this,he]
theorem O5(xs:List Int):Lib.compact xs=compI xs:=by
 have:=(IP xs xs.length (kE _)).1
 rw[List.take_length]at this
 exact this
theorem NW(xs:List Int):(compI xs).length<=xs.length:=by
 have:∀(l acc:List Int),(l.foldl compStep acc).length<=acc.length+l.length:=by
  intro l
  induction l with
  |nil=>intro acc;exact kE _
  |cons y l ih=>
   grind [compStep,zA]
 have h3:=this xs []
 simpa[compI]using h3
theorem oI(h:HF)(xs:List Int)(b:Option Addr)(c:Nat)(G:LH)(hG:cN jB 3 h xs b c G):
  pJ prog 95 [.slice b xs.length c].toArray h G (λr h' G'=>h'=h/\r=.returned (.slice b (slices_Compact_int xs).length c)/\cN jB 3 h (slices_Compact_int xs) b c G'):=by
 intro w hp
 rcases hG with⟨rfl,rfl,rfl,rfl⟩|⟨bk,cl,sp,rfl,hcl,hlen,hcap,hmax,rfl⟩
 .refine(j7 (Tryz.slices_Compact_int_empty none 0 w) (λw' hw=>by cases hw.1)).mono ?_
  rintro e w' ⟨rfl,rfl⟩
  exact⟨h,[],W8 hp,rfl,rfl,cN.nil⟩
 .have hb:=hp.own _ (jC.2 rfl)
  simp only at hb
  have hcl':cl=xs.map (zC .i64):=by
   clear hlen hb hp hcap hmax
   induction xs generalizing cl with
   |nil=>exact hcl
   |cons y l ih=>
    obtain⟨cs,r,rfl,_,hr,hl⟩:=hcl
    have:cs=[.int .i64 y]:=hr
    rw[this,ih r hl];rfl
  subst hcl'
  have hH:Sort.Holds (zC .i64) w bk 0 xs.toArray:=by
   refine holds_of_blockI (cur:=(xs.map (zC .i64)++sp).toArray) (e:=3) hb ?_
   simp
  refine(j7 (Tryz.slices_Compact_int bk 0 c xs w hH hmax hcap) (λw' hw=>by cases hw.1)).mono ?_
  rw[O5]
  have de:=NW xs
  rintro e w' ⟨rfl,n,rfl⟩
  let ys:List Int:=compI xs++List.replicate (xs.length-(compI xs).length) 0
  have hys:ys.length=xs.length:=by simp[ys];omega
  obtain⟨g1,g2,g3,g4,g5⟩:=grownBy_sortedI (w:=w) (g:=bk) (n:=n) (os:=#[]) ys.toArray
  have hnew:=heap_sortedI (w:=w) (g:=bk) (n:=n) (os:=#[]) ys.toArray hb
  have htake:=take_putCellsI (xs.map (zC .i64)++sp).toArray ys (by rw[hys];simp)
  have hgr:∀W:World,Go.Sort.grow W #[]=W:=λW=>by simp[Go.Sort.grow]
  rw[hgr]at g1 g2 g3 g4 g5 hnew
  refine⟨h,[(bk,.cells (Sort.putCells (zC .i64) 0 ys.toArray (xs.map (zC .i64)++sp).toArray) 3 (0,0))],⟨g1,g2,g3,g4,λk hk hM=>g5 k hk (λe=>hM (by cases e;simp)),λ_ _ e=>e,λ_ _=>rfl,λk o e=>?_,λq hq=>?_,?_,?_,?_⟩,rfl,rfl,?_⟩
  .have hne:k≠bk:=λe'=>by
    have:=hp.free _ (jC.2 rfl)
    simp only at this
    rw[e',this]at e;cases e
   exact(g5 k (iw (hp.imm k o e)) (λe'=>by cases e';exact hne rfl)).trans (hp.imm k o e)
  .rw[jC.1 hq];exact hnew
  .simp
  .intro q hq;rw[jC.1 hq];exact hp.free (bk,jG (xs.map (zC .i64)++sp).toArray 3 (0,0)) (jC.2 rfl)
  .intro q hq;rw[jC.1 hq];exact .inr (by simp)
  .have hcells:∀l:List Int,cS jB h (l.map (zC .i64)) l:=by
    intro l
    induction l with
    |nil=>rfl
    |cons y l ih=>exact⟨[.int .i64 y],l.map (zC .i64),rfl,rfl,rfl,ih⟩
   have hg:cN jB 3 h ys (some ⟨bk,0,none⟩) c [(bk,.cells (Sort.putCells (zC .i64) 0 ys.toArray (xs.map (zC .i64)++sp).toArray) 3 (0,0))]:=by
    refine .inr ⟨bk,ys.map (zC .i64),(Sort.putCells (zC .i64) 0 ys.toArray (xs.map (zC .i64)++sp).toArray).toList.drop ys.length,rfl,hcells _,?_,by rw[hys];exact hcap,by rw[hys];exact hmax,?_⟩
    .rw[←htake,List.take_append_drop]
     simpa[Sort.putCells]using hlen
    .rw[←htake,List.take_append_drop]
   have:=hg.take (compI xs).length
   rwa [show ys.take (compI xs).length=compI xs from by simp[ys]]at this
end
end Go.Sg

namespace Go.Proofs
open Go.Shelf Go.RowKit Go.Lib Go.Sort
set_option maxHeartbeats 1000000 in
theorem Tryz.closure178(x y:Go.Sg.OSeat)(W:World):Calls Tryz.prog 269 #[.agg (Go.Sg.OSeat.cells x).toArray,.agg (Go.Sg.OSeat.cells y).toArray] W λe w'=>e=.returned (.int .i64 (Lib.compareInt x.bT y.bT))/\∃q os',w'=grow (W.drewN q) os':=by
 have hcon:=λW'=>Tryz.cmp_Compare_int x.bT y.bT W'
 generalize Lib.compareInt x.bT y.bT=r at hcon ⊢
 unfold Go.Sg.OSeat.cells
 go_enter Tryz.func269,Tryz.ntmps269
 go_wp2_with (go_at_call 48;refine(hcon _).mono ?_;rintro e w' ⟨rfl,rfl⟩)
 go_ret
 exact⟨rfl,0,_,by rw[alloc_eq_grow,alloc_eq_grow,grow_grow];rfl⟩
theorem Tryz.ltSeat(x y:Go.Sg.OSeat):ltOf (λx y:Go.Sg.OSeat=>Lib.compareInt x.bT y.bT) x y=decide (x.bT<y.bT):=by grind [ltOf,Lib.compareInt]
theorem Tryz.swoSeat:SWO (ltOf λx y:Go.Sg.OSeat=>Lib.compareInt x.bT y.bT) where
 irrefl x:=by rw[Tryz.ltSeat];simp
 trans x y z h1 h2:=by rw[Tryz.ltSeat]at *;simp at *;omega
 ntrans x y z h1 h2:=by rw[Tryz.ltSeat]at *;simp at *;omega
end Go.Proofs
namespace Go.Sg
variable {os:Array Obj}{w:World}
section
open Go.Proofs Go.Proofs.Tryz Go.RowKit Go.Sort
theorem E8{h:HF}:∀{cl:List Value}{xs:List OSeat},cS Xn h cl xs->cl=xs.flatMap qF
 |_,[],hc=>hc
 |_,x::xs,⟨cs,rest,e,_,hr,hc⟩=>by
  have:cs=qF x:=hr
  rw[e,this,E8 hc];rfl
theorem FJ(h:HF):∀xs:List OSeat,cS Xn h (xs.flatMap qF) xs
 |[]=>rfl
 |x::xs=>⟨qF x,xs.flatMap qF,rfl,rfl,rfl,FJ h xs⟩
theorem J6:∀(xs:List OSeat)(j:Nat),j<xs.length*2->(xs.flatMap qF)[j]? = some ((qF (xs.getD (j/2) default)).getD (j%2) undef)
 |[],j,hj=>by simp at hj
 |x::xs,0,_=>by simp[qF]
 |x::xs,1,_=>by simp[qF]
 |x::xs,j+2,hj=>by
  have ih:=J6 xs j (by simp at hj;omega)
  grind [qF,zA,zB]
theorem uy(xs:List OSeat):(xs.flatMap qF).length=xs.length*2:=by
 induction xs with
 |nil=>rfl
 |cons x xs ih=>rw[List.flatMap_cons,jA,ih];simp[qF];omega
theorem IC(xs:List OSeat):(flatK qF 2 xs.toArray).toList=xs.flatMap qF:=by
 apply Xj
 intro j
 rcases kM j (xs.length*2)with hj|hj
 .rw[J6 xs j hj]
  have h1:=get_flatK qF 2 xs.toArray j (by simpa using hj)
  have h2:j<(flatK qF 2 xs.toArray).size:=by rw[size_flatK];simpa using hj
  grind [List.getD,qF]
 .rw[List.getElem?_eq_none (by rw[Array.length_toList,size_flatK];simpa using hj),List.getElem?_eq_none (by rw[uy];exact hj)]
theorem MW(F cur:Array Value)(h:F.size<=cur.size):(putCells id 0 F cur).toList=F.toList++cur.toList.drop F.size:=by
 apply Xj
 grind [putCells]
theorem SJ{g n:Nat}{cur:Array Value}{e:TypeId}{fr:Nat×Nat}(d:Array Value)(hb:w.heap[g]? = some (.cells cur e fr)):
  (grow (putRow id (Sort.ahead w n) g 0 d) os).heap[g]? = some (.cells (putCells id 0 d cur) e fr):=by
 have hg:g<w.heap.size:=(Array.getElem?_eq_some_iff.1 hb).1
 rw[heap_grow_old _ _ (by simpa using hg)]
 grind [putRow,mapBlock,Sort.ahead,onCells]
theorem QZ{g n:Nat}(d:Array Value):(grow (putRow id (Sort.ahead w n) g 0 d) os).os=w.os/\(grow (putRow id (Sort.ahead w n) g 0 d) os).tape=w.tape/\(grow (putRow id (Sort.ahead w n) g 0 d) os).output=w.output /\
  w.heap.size<=(grow (putRow id (Sort.ahead w n) g 0 d) os).heap.size/\∀k,k<w.heap.size->k≠g->(grow (putRow id (Sort.ahead w n) g 0 d) os).heap[k]? = w.heap[k]?:=by
 refine⟨rfl,rfl,rfl,by simp[putRow,mapBlock,Sort.ahead],λk hk hne=>?_⟩
 rw[heap_grow_old _ _ (by simpa using hk)]
 grind [putRow,mapBlock,Sort.ahead]
theorem xi(h:HF)(xs:List OSeat)(b:Option Addr)(c:Nat)(G:LH)(hG:cN Xn 252 h xs b c G)(hsz:xs.length<=1000000000000):
  pJ prog 304 [.slice b xs.length c,.func (.func 269) #[] #[]].toArray h G (λr h' G'=>h'=h/\r=.returned (.tuple #[])/\∃ys,ys.Perm xs/\ys.Pairwise (λx y=>x.bT<=y.bT)/\cN Xn 252 h ys b c G'):=by
 intro w hp
 rcases hG with⟨rfl,rfl,rfl,rfl⟩|⟨bk,cl,sp,rfl,hcl,hlen,hcap,hmax,rfl⟩
 .refine(j7 (AnyF.slices_SortFunc_none Tryz.sortSeat none 0 (.func (.func 269) #[] #[]) w) (λw' hw=>by cases hw.1)).mono ?_
  rintro e w' ⟨rfl,rfl⟩
  exact⟨h,[],W8 hp,rfl,rfl,[],List.Perm.refl _,List.Pairwise.nil,cN.nil⟩
 .have hb:=hp.own _ (jC.2 rfl)
  simp only at hb
  have hcl':=E8 hcl
  subst hcl'
  have hfl:=IC xs
  have hH:HoldsK qF 2 w bk 0 xs.toArray:=by
   intro j hj
   rw[size_flatK]at hj
   have hj':j<xs.length*2:=by simpa using hj
   refine⟨?_,by simp[World.frozen?,hb]⟩
   have h2:j<(flatK qF 2 xs.toArray).size:=by rw[size_flatK];exact hj
   have h3:(flatK qF 2 xs.toArray).toList[j]? = some (flatK qF 2 xs.toArray)[j]!:=by
    rw[Array.getElem?_toList,Array.getElem?_eq_getElem h2,getElem!_pos _ j h2]
   rw[hfl]at h3
   have h4:(xs.flatMap qF++sp)[j]? = some (flatK qF 2 xs.toArray)[j]!:=by
    rw[List.getElem?_append_left (by rw[uy];exact hj')];exact h3
   simp only[Xf,hb,Nat.zero_add]
   simpa using h4
  have eg:∀args w,(callFunc 269 args).run prog w=.ok (.enter 269 args) w:=call269
  have hcall:=AnyQ.slices_SortFunc Tryz.sortSeat 2 Tryz.isAgg252 Tryz.sizeOf252 qF (λ_=>rfl) (λx v hv=>by simp[qF]at hv;rcases hv with rfl|rfl<;>rfl)
   (λx y=>Lib.compareInt x.bT y.bT) Tryz.swoSeat 269 #[] bk 0 c xs.toArray w eg (λ_ _ _ _ x y=>Tryz.closure178 x y _) hH (iw hb) (by simp;omega)
  change Calls prog 304 _ _ _ at hcall
  rw[List.size_toArray]at hcall
  refine(j7 hcall (λw' hw=>by cases hw.1)).mono ?_
  rintro e w' ⟨rfl,d',n,os,⟨hds,_,hperm⟩,hsorted,rfl⟩
  have hds':d'.size=xs.length:=by simpa using hds
  have hF:(flatK qF 2 d').toList=d'.toList.flatMap qF:=by have:=IC d'.toList;simpa using this
  have hFs:(flatK qF 2 d').size=xs.length*2:=by rw[size_flatK,hds']
  obtain⟨g1,g2,g3,g4,g5⟩:=QZ (w:=w) (g:=bk) (n:=n) (os:=os) (flatK qF 2 d')
  have hnew:=SJ (w:=w) (g:=bk) (n:=n) (os:=os) (flatK qF 2 d') hb
  have hcur:(putCells id 0 (flatK qF 2 d') (xs.flatMap qF++sp).toArray).toList=d'.toList.flatMap qF++sp:=by
   rw[MW _ _ (by rw[hFs,←uy];simp),hF,hFs]
   congr 1
   rw[←uy]
   exact List.drop_left' rfl
  have hcur':putCells id 0 (flatK qF 2 d') (xs.flatMap qF++sp).toArray=(d'.toList.flatMap qF++sp).toArray:=by rw[←hcur]
  rw[hcur']at hnew
  have hperm':d'.toList.Perm xs:=by
   have e1:d'.extract 0 xs.length=d':=by rw[←hds'];simp
   have e2:xs.toArray.extract 0 xs.length=xs.toArray:=by simp
   rw[e1,e2]at hperm;exact hperm
  refine⟨h,[(bk,.cells (d'.toList.flatMap qF++sp).toArray 252 (0,0))],⟨g1,g2,g3,g4,λk hk hM=>g5 k hk (λe=>hM (by subst e;simp)),λ_ _ e=>e,λ_ _=>rfl,λk o e=>?_,λq hq=>?_,?_,?_,?_⟩,rfl,rfl,d'.toList,hperm',?_,?_⟩
  .have hne:k≠bk:=λe'=>by
    have:=hp.free _ (jC.2 rfl)
    simp only at this
    rw[e',this]at e;cases e
   exact(g5 k (iw (hp.imm k o e)) hne).trans (hp.imm k o e)
  .rw[jC.1 hq];exact hnew
  .simp
  .intro q hq;rw[jC.1 hq];exact hp.free (bk,jG (xs.flatMap qF++sp).toArray 252 (0,0)) (jC.2 rfl)
  .intro q hq;rw[jC.1 hq];exact .inr (by simp)
  .rw[List.pairwise_iff_getElem]
   intro i j hi hj hij
   have hj':j<d'.size:=by simpa using hj
   have hi':i<d'.size:=by simpa using hi
   have:=hsorted i j (zH _) hij (by omega)
   rw[Tryz.ltSeat,getElem!_pos _ j hj',getElem!_pos _ i hi']at this
   simp only[Array.getElem_toList]
   simpa using this
  .refine .inr ⟨bk,d'.toList.flatMap qF,sp,rfl,FJ h _,?_,?_,?_,rfl⟩
   .rw[jA,uy,hperm'.length_eq,←uy,←jA];exact hlen
   .rw[hperm'.length_eq];exact hcap
   .rw[hperm'.length_eq];exact hmax
theorem wN(h:HF)(it:Value)(ks:List OSeat)(hit:I2 prog it (λ(k:OSeat)(_:HF)(vs:List Value)=>vs=[qV k]) (λxs=>xs.Perm ks) h)(hk:ks.length<=1000000000000):
  j6 prog 270 [it,.func (.func 269) #[] #[]] h (λv h'=>∃(b:Option Addr)(c:Nat)(ys:List OSeat),ys.Perm ks/\ys.Pairwise (λx y=>x.bT<=y.bT)/\v=.slice b ys.length c/\SlC Xn h' b c ys):=by
 refine cX func270 rfl ntmps270 rfl λX hM hX=>?_
 refine ea (bJ (iu (bo (ea (bJ (bp ?_))))))
 refine aI (Dq call303 (I5 h it _ hit (λxs hx=>by rw[hx.length_eq];exact hk)) rfl (λh' xs bb c G de hxs hG=>?_))
 refine iu (bo (ea (bJ (bp (bp ?_)))))
 refine aI (m9 [] G [] call304 (xi h' xs bb c G hG (by rw[hxs.length_eq];exact hk)) (by simp) rfl (λG' hG'=>?_))
 obtain⟨ys,hp,hs,hG'⟩:=hG'
 refine bo (ea (bJ (bp (iu (bo ?_)))))
 refine fQ OSeat.aD [] G' [] (by simp) hM hG' (λh2 hle2 sl=>?_)
 exact lL [.slice bb xs.length c] func270 rfl ⟨rfl,trivial⟩ ⟨bb,c,ys,hp.trans hxs,hs,by rw[hp.length_eq];rfl,sl⟩
end
section
open Go.Proofs Go.Proofs.Tryz
set_option maxHeartbeats 2000000
theorem BQ(h c pQ p jg)(hc:bU.ok h c pQ)(hp:aw.ok h p jg)(hsm:smR c.Register)(hco:jw c)(hpr:p.dp.length=p.dN.length/\∀y∈p.dp,0<=y.iV/\y.iV<=1099511627775):j6 prog 161 [.agg (bU.cells c pQ).toArray,.agg (aw.cells p jg).toArray] h (λv h'=>∃(rv0:Value),v=rv0/\Itr prog rv0 rm (hY c p) h'):=by
 refine sT func161 U ntmps161 U λX hM hX hF=>?_
 have hs0:=@rfl _ (hY c p)
 refine sr (eO (λb1=>eO (λb2=>qO 4 U (cz 1 U hM (λh1 hle1 hb1=>cz 0 U hM (λh2 hle2 hb2=>aI (gM U U (an ?_))))))))
 have hs1:hY c p=(cR c p):=hs0
 exact nretH [.func (.func 224) #[] #[Q b1,Q b2]] (hs1▸⟨(.func (.func 224) #[] #[Q b1,Q b2]),U,(zu h2 c pQ ⟨b1,0,none⟩ p jg ⟨b2,0,none⟩ (hc.mono (hle1.t hle2)) ((dO hb1).mono hle2) (hp.mono (hle1.t hle2)) (dO hb2) ob ob ob)⟩)
theorem rS(h c pQ p jg)(hc:bU.ok h c pQ)(hp:aw.ok h p jg)(hsm:smR c.Register)(hco:jw c)(hpr:p.dp.length=p.dN.length/\∀y∈p.dp,0<=y.iV/\y.iV<=1099511627775):j6 prog 92 [.agg (bU.cells c pQ).toArray,.agg (aw.cells p jg).toArray] h (λv h'=>∃(rb0:Option Addr)(rc0:Nat),v=.slice rb0 (dj c p).length rc0/\SlC jB h' rb0 rc0 (dj c p)):=by
 refine cX func92 U ntmps92 U λX hM hX=>?_
 have hs0:=@rfl _ (dj c p)
 refine sr (eO (λb1=>eO (λb2=>bH zc31 (λb3=>qO 4 U (dy 2 ty96 U U U (dy 1 ty61 U U U (aI (cx call161 (BQ _ _ _ _ _ hc hp ob ob ob) U (λv1 h1 hle1 hp1=>?_)))))))))
 obtain⟨_,rfl,mo1⟩:=hp1
 refine qO 2 U (dR ?_)
 let z1:Nat×Obj:=(b2,O (aw.cells p jg) 61)
 let z2:Nat×Obj:=(b1,O (bU.cells c pQ) 96)
 refine bZ (L':=([(b3,O [zSN] 31),z1,z2])++markB []) ap ?_
 refine j9 (it:=v1) (xs:=(hY c p)) (ι:=(List Int)×Option Addr×Nat×LH×HF) [] (λi=>i.2.2.2.2) (λi=>[(b3,O [.slice i.2.1 i.1.length i.2.2.1] 31),z1,z2]++(i.2.2.2.1)) (λs i=>dj c p=((dj.L1 (dj.K1)) s i.1)/\cN jB 3 i.2.2.2.2 i.1 i.2.1 i.2.2.1 i.2.2.2.1/\xJ h1 i.2.2.2.2/\i.1.length+s.length<=2000000) (λ_=>False) (λ_=>False) 0 (λ_ _ _=>False) ([],none,0,[],h1) func92 U mo1 U si (λ_ _ _ _ _ hq=>hq) U (show[(b3,O [zSN] 31),z1,z2]=_ from U) ⟨hs0,cN.nil,lf,(by have hc:=SL hsm p;simpa using hc)⟩ ?_ ?_ ?_ ?_ ?_
 .rintro l1 dm1 lp1 y1 rz1 vs1 ⟨cB,mI,mH,mJ,hh1⟩ hr1 X hFR1 ⟨hs1,oB,hl1,u1_0⟩ hl01 hlr1 hv1 hX hXM hlp1 nx1 rt1 ex1 pn1
  try dsimp only at oB hl1 u1_0 hlr1
  obtain rfl:=hv1
  simp only[zA]at u1_0
  let z3:Nat×Obj:=(b3,O [.slice mI cB.length mH] 31)
  let z6:Nat×Obj:=(dm1,.deferred (some []))
  refine bZ (L':=[(l1,.loop lp1),z6,z3,z1,z2]++(mJ++(markB []))) ap (bJ (bH zc67 (λb6=>bE 0 ty67 U U U U U U (jm (L':=[(b6,O (ay.cells y1) 67),(l1,.loop lp1),z6,z3,z1,z2]++(mJ++(markB []))) U ?_))))
  let z7:Nat×Obj:=(l1,.loop { lp1 with state:=.busy })
  let z8:Nat×Obj:=(b6,O (ay.cells y1) 67)
  refine bo (kh 1 U hlp1 (qK 5 [3,0] U (aI (bN (cells:=[I y1.For]) eP ty3 zc3 U U kr (λb7=>aI (eB Rp.jZ ([(b7,O [I y1.For] 3),z8,z7,z6,z3,z1,z2]) (markB []) (λG=>[(b7,O [I y1.For] 3),z8,z7,z6,z3,z1,z2]++(markB []++G)) ap (λ_=>ap) eP ty3 zc3 U bytes3 (oB.mono vH hlr1) U U (ic 0 U (cE (y1.For) U U)) lo lo (λob2 oc2 G4 gr4=>qZ (qs ([(b7,O [I y1.For] 3),z8,z7,z6,z3,z1,z2]) G4 (markB [])) (cW 4 ty31 U U U U U U (qO 2 U ?_)))))))))
  let z9:Nat×Obj:=(b3,O [.slice ob2 ((cB++[y1.For]).length) oc2] 31)
  exact cu (L':=[z7,z6,z9,z1,z2]++(G4++(markB []))) js (bZ (L':=rdH l1 dm1 lp1 (([z9,z1,z2]++G4)++markB [])) ap (nx1 ((cB++[y1.For]),ob2,oc2,G4,hr1) _ _ ⟨hs1,gr4,(hl1.t hlr1),(by first|omega|(simp only[jA,zA,zB]at *;omega))⟩ lf))
 .rintro dm1 ⟨cB,mI,mH,mJ,hh1⟩ hn1 ⟨hs2,oB,hl1,u1_0⟩ hln1 hl01
  try dsimp only at oB hl1 u1_0 hln1
  let z4:Nat×Obj:=(b3,O [.slice mI cB.length mH] 31)
  refine bZ (L':=[z4,z1,z2]++(mJ++(markB (dm1::[])))) ap (qK 4 [0] U (aI (m9 ([z4,z1,z2]) mJ (markB (dm1::[])) Pk (mP hn1 cB mI mH mJ (oB.mono vH hln1) (by first|assumption|omega|(simp only[jA,zA,zB] ;omega))) ap U (λG5 gr5=>qL 4 [0] U (aI (m9 (v:=.slice mI (slices_Compact_int (sortI cB)).length mH) ([z4,z1,z2]) G5 (markB (dm1::[])) call95 (oI hn1 (sortI cB) mI mH G5 gr5) ap (by first|rfl|(simp only[iW];rfl)) (λG6 gr6=>jm (L':=[z4,z1,z2]++(G6++(markB (dm1::[])))) ap (cW 0 ty31 U U U U U U (bo ?_)))))))))
  let z5:Nat×Obj:=(b3,O [.slice mI ((slices_Compact_int (sortI cB)).length) mH] 31)
  refine fQ vH ([z5,z1,z2]) G6 (markB (dm1::[])) ap hM gr6 (λh3 hle3 sl2=>?_)
  have hs3:dj c p=(slices_Compact_int (sortI cB)):=hs2
  exact bZ (L':=([z5,z1,z2])++markB (dm1::[])) ap (oq (dm1::[]) [.slice mI ((slices_Compact_int (sortI cB)).length) mH] func92 U ⟨⟨0,_,_,_,_,U,U,.inr ⟨_,ty31,U⟩⟩,trivial⟩ ⟨mI,mH,congrArg (λr:List Int=>(.slice mI r.length mH:Value)) hs3.symm,(by rw[hs3];exact sl2)⟩)
 .exact xf
 .exact xf
 exact xf
theorem uQ(h)(seq:List bW)(seq_v)(hseq:Itr prog seq_v qb seq h)(hsz:seq.length<=2000000):j6 prog 267 [zSN,seq_v] h (λv h'=>∃(rb0:Option Addr)(rc0:Nat),v=.slice rb0 (cU seq).length rc0/\SlC bW.rp h' rb0 rc0 (cU seq)):=by
 refine cX func267 U ntmps267 U λX hM hX=>?_
 have hs0:=@rfl _ (cU seq)
 refine sr (eO (λb1=>qO 8 U (dR (bZ (L':=([(b1,O [zSN] 191)])++markB []) ap ?_))))
 refine j9 (it:=seq_v) (xs:=seq) (ι:=(List bW)×Option Addr×Nat×LH×HF) [] (λi=>i.2.2.2.2) (λi=>[(b1,O [.slice i.2.1 i.1.length i.2.2.1] 191)]++(i.2.2.2.1)) (λs i=>cU seq=((cU.L1 (cU.K1)) s i.1)/\cN bW.rp 268 i.2.2.2.2 i.1 i.2.1 i.2.2.1 i.2.2.2.1/\xJ h i.2.2.2.2/\i.1.length+s.length<=seq.length) (λ_=>False) (λ_=>False) 0 (λ_ _ _=>False) ([],none,0,[],h) func267 U hseq U vm (λ_ _ _ _ _ hq=>hq) U (show[(b1,O [zSN] 191)]=_ from U) ⟨hs0,cN.nil,lf,(by simp)⟩ ?_ ?_ ?_ ?_ ?_
 .rintro l1 dm1 lp1 y1 rz1 vs1 ⟨aX,jd,ja,kj,hh1⟩ hr1 X hFR1 ⟨hs1,ff,hl1,u1_0⟩ hl01 hlr1 hv1 hX hXM hlp1 nx1 rt1 ex1 pn1
  obtain rfl:=hv1
  simp only[zA]at u1_0
  let z1:Nat×Obj:=(b1,O [.slice jd aX.length ja] 191)
  let z3:Nat×Obj:=(dm1,.deferred (some []))
  refine bZ (L':=[(l1,.loop lp1),z3,z1]++(kj++(markB []))) ap (bJ (bH zc268 (λb4=>bE 0 ty268 U U U U U U (jm (L':=[(b4,O (bW.cells y1) 268),(l1,.loop lp1),z3,z1]++(kj++(markB []))) U ?_))))
  let z4:Nat×Obj:=(l1,.loop { lp1 with state:=.busy })
  let z5:Nat×Obj:=(b4,O (bW.cells y1) 268)
  refine bo (kh 1 U hlp1 (qK 3 [3] U (dy 0 ty268 U U U (aI (bN (cells:=[I y1.cM,I y1.gj]) Ry ty268 zc268 U U kr (λb5=>aI (eB bW.dg ([(b5,O [I y1.cM,I y1.gj] 268),z5,z4,z3,z1]) (markB []) (λG=>[(b5,O [I y1.cM,I y1.gj] 268),z5,z4,z3,z1]++(markB []++G)) ap (λ_=>ap) Ry ty268 zc268 U bytes268 (ff.mono bW.aD hlr1) U U (ic 0 U (cE y1 U U)) lo lo (λob2 oc2 G2 gr2=>qZ (qs ([(b5,O [I y1.cM,I y1.gj] 268),z5,z4,z3,z1]) G2 (markB [])) (cW 4 ty191 U U U U U U (qO 2 U ?_))))))))))
  let z6:Nat×Obj:=(b1,O [.slice ob2 ((aX++[y1]).length) oc2] 191)
  exact cu (L':=[z4,z3,z6]++(G2++(markB []))) js (bZ (L':=rdH l1 dm1 lp1 (([z6]++G2)++markB [])) ap (nx1 ((aX++[y1]),ob2,oc2,G2,hr1) _ _ ⟨hs1,gr2,(hl1.t hlr1),(by simp only[jA,zA,zB]at *;omega)⟩ lf))
 .rintro dm1 ⟨aX,jd,ja,kj,hh1⟩ hn1 ⟨hs2,ff,hl1,u1_0⟩ hln1 hl01
  let z2:Nat×Obj:=(b1,O [.slice jd aX.length ja] 191)
  refine bZ (L':=[z2]++(kj++(markB (dm1::[])))) ap (qK 6 [0] U (fQ bW.aD ([z2]) kj (markB (dm1::[])) ap hM (ff.mono bW.aD hln1) (λh2 hle2 sl2=>?_)))
  have hs3:cU seq=aX:=hs2
  exact bZ (L':=([z2])++markB (dm1::[])) ap (oq (dm1::[]) [.slice jd aX.length ja] func267 U rd ⟨jd,ja,congrArg (λr:List bW=>(.slice jd r.length ja:Value)) hs3.symm,(by rw[hs3];exact sl2)⟩)
 .exact xf
 .exact xf
 exact xf
instance kC267:Ct 267:=⟨_,call267,@uQ⟩
theorem wR(h)(seq:List bW)(seq_v)(hseq:Itr prog seq_v qb seq h)(hsz:seq.length<=2000000):j6 prog 201 [seq_v] h (λv h'=>∃(rb0:Option Addr)(rc0:Nat),v=.slice rb0 (iQ seq).length rc0/\SlC bW.rp h' rb0 rc0 (iQ seq)):=by
 refine sT func201 U ntmps201 U λX hM hX hF=>?_
 generalize hz:(iQ seq)=z;have hs:=hz.symm
 exact W
theorem wX(h)(seq:List OSeat)(seq_v)(hseq:Itr prog seq_v Ks seq h)(hsz:seq.length<=2000000):j6 prog 326 [zSN,seq_v] h (λv h'=>∃(rb0:Option Addr)(rc0:Nat),v=.slice rb0 (fA seq).length rc0/\SlC Xn h' rb0 rc0 (fA seq)):=by
 refine cX Pl U ntmps326 U λX hM hX=>?_
 have hs0:=@rfl _ (fA seq)
 refine sr (eO (λb1=>qO 8 U (dR (bZ (L':=([(b1,O [zSN] 306)])++markB []) ap ?_))))
 refine j9 (it:=seq_v) (xs:=seq) (ι:=(List OSeat)×Option Addr×Nat×LH×HF) [] (λi=>i.2.2.2.2) (λi=>[(b1,O [.slice i.2.1 i.1.length i.2.2.1] 306)]++(i.2.2.2.1)) (λs i=>fA seq=((fA.L1 (fA.K1)) s i.1)/\cN Xn 252 i.2.2.2.2 i.1 i.2.1 i.2.2.1 i.2.2.2.1/\xJ h i.2.2.2.2/\i.1.length+s.length<=seq.length) (λ_=>False) (λ_=>False) 0 (λ_ _ _=>False) ([],none,0,[],h) Pl U hseq U Jx (λ_ _ _ _ _ hq=>hq) U (show[(b1,O [zSN] 306)]=_ from U) ⟨hs0,cN.nil,lf,(by simp)⟩ ?_ ?_ ?_ ?_ ?_
 .rintro l1 dm1 lp1 y1 rz1 vs1 ⟨aX,jd,ja,kj,hh1⟩ hr1 X hFR1 ⟨hs1,ff,hl1,u1_0⟩ hl01 hlr1 hv1 hX hXM hlp1 nx1 rt1 ex1 pn1
  obtain rfl:=hv1
  simp only[zA]at u1_0
  let z1:Nat×Obj:=(b1,O [.slice jd aX.length ja] 306)
  let z3:Nat×Obj:=(dm1,.deferred (some []))
  refine bZ (L':=[(l1,.loop lp1),z3,z1]++(kj++(markB []))) ap (bJ (bH zc252 (λb4=>bE 0 ty252 U U U U U U (jm (L':=[(b4,O (qF y1) 252),(l1,.loop lp1),z3,z1]++(kj++(markB []))) U ?_))))
  let z4:Nat×Obj:=(l1,.loop { lp1 with state:=.busy })
  let z5:Nat×Obj:=(b4,O (qF y1) 252)
  refine bo (kh 1 U hlp1 (qK 3 [3] U (dy 0 ty252 U U U (aI (bN (cells:=[I y1.aT,I y1.bT]) Pz ty252 zc252 U U kr (λb5=>aI (eB OSeat.dg ([(b5,O [I y1.aT,I y1.bT] 252),z5,z4,z3,z1]) (markB []) (λG=>[(b5,O [I y1.aT,I y1.bT] 252),z5,z4,z3,z1]++(markB []++G)) ap (λ_=>ap) Pz ty252 zc252 U bytes252 (ff.mono OSeat.aD hlr1) U U (ic 0 U (cE y1 U U)) lo lo (λob2 oc2 G2 gr2=>qZ (qs ([(b5,O [I y1.aT,I y1.bT] 252),z5,z4,z3,z1]) G2 (markB [])) (cW 4 ty306 U U U U U U (qO 2 U ?_))))))))))
  let z6:Nat×Obj:=(b1,O [.slice ob2 ((aX++[y1]).length) oc2] 306)
  exact cu (L':=[z4,z3,z6]++(G2++(markB []))) js (bZ (L':=rdH l1 dm1 lp1 (([z6]++G2)++markB [])) ap (nx1 ((aX++[y1]),ob2,oc2,G2,hr1) _ _ ⟨hs1,gr2,(hl1.t hlr1),(by simp only[jA,zA,zB]at *;omega)⟩ lf))
 .rintro dm1 ⟨aX,jd,ja,kj,hh1⟩ hn1 ⟨hs2,ff,hl1,u1_0⟩ hln1 hl01
  let z2:Nat×Obj:=(b1,O [.slice jd aX.length ja] 306)
  refine bZ (L':=[z2]++(kj++(markB (dm1::[])))) ap (qK 6 [0] U (fQ OSeat.aD ([z2]) kj (markB (dm1::[])) ap hM (ff.mono OSeat.aD hln1) (λh2 hle2 sl2=>?_)))
  have hs3:fA seq=aX:=hs2
  exact bZ (L':=([z2])++markB (dm1::[])) ap (oq (dm1::[]) [.slice jd aX.length ja] Pl U rd ⟨jd,ja,congrArg (λr:List OSeat=>(.slice jd r.length ja:Value)) hs3.symm,(by rw[hs3];exact sl2)⟩)
 .exact xf
 .exact xf
 exact xf
instance kC326:Ct 326:=⟨_,call326,@wX⟩
theorem AC(h)(m:List (OSeat×aK))(OF m_q aT office_q)(hm:wa qV (ku aK.rp) h OF m)(am:At h m_q [.map (some OF)])(aoffice:At h office_q [I aT])(hsz:m.length<=1000000000):Itr prog (.func (.func 268) #[] (xB [.pointer (some m_q),.pointer (some office_q)])) qb (cw m aT) h:=by
 refine sj call268 ?_
 intro yf ya yb C Sp Pn h1 A de m1 m2 m3 hC hy
 refine j1 Rx U ntmps268 U λX hXM hX=>?_
 have hs0:cw m aT=[]++cw m aT:=rfl
 refine qT 6 U (eJ ty249 (am.mono de) U (aI (cx call271 (AJ h1 m OF (hm.mono (ku.mono aK.aD) de)) U (λv1 h2 hle1 hp1=>bp (aI (cx call270 (wN h2 v1 (m.map Prod.fst) hp1 (by rw[List.length_map];omega)) U (λv2 h3 hle2 hp2=>?_)))))))
 obtain⟨rb1,rc1,ys_,hper_,hsrt_,rfl,sl1⟩:=hp2
 have V8:cw m aT=[]++((cw.L1 m aT (cw.K1)) ys_):=Jy (by obtain⟨_,_,q⟩:=hm;exact q.nodup) hper_ hsrt_
 refine qL 3 [] U ?_
 refine lp2 ys_ (λi w=>[(0,.func yf ya yb),(1,.pointer (some m_q)),(2,.pointer (some office_q)),(11,.slice rb1 ys_.length rc1),(12,I (ys_.length:Int)),(13,I (i:Int))]) (λw=>w.2.2) (λw=>w.2.1) (λi w=>C w.1 w.2.2 w.2.1/\xJ h3 w.2.2) (λs1 i w=>w.1++(cw.L1 m aT (cw.K1)) s1) ([],A,h3) sl1.1.1 V8 ⟨(m1 _ _ _ _ (hle1.t hle2) hC),lf⟩ ?_ ?_
 .rintro i1 ⟨dn1,A1_,hh1⟩ iP hs1 ⟨hC1_,hl1⟩ e
  refine dR ?_
  have hs2:cw m aT=dn1:=hs1.trans (List.append_nil _)
  exact sk [] (A:=A1_) Rx U (List.Sublist.refl _) (.inl (hs2▸hC1_))
 rintro i1 ⟨dn1,A1_,hh1⟩ y1 rz1 hd1 fY dz iT mF hs3 ⟨hC1_,hl1⟩ hx1 ag1 e
 refine sr (tO fY U (qO 8 U (aI (iF qF Pz ty252 (sl1.mono OSeat.aD hl1).1 dz U U U (λq2 A2=>eU ty252 A2 U U (bH zc252 (λb3=>bE 0 ty252 U U U U U U (jm (L':=[(b3,O (qF y1) 252)]++(A1_)) U (qO 3 U (eJ ty249 (am.mono (((de.t hle1).t hle2).t hl1)) U (dy 0 ty252 U U U ?_)))))))))))
 obtain⟨o2,hb2,hm2⟩:=(hm.mono (ku.mono aK.aD) (((de.t hle1).t hle2).t hl1))
 refine aI (pt (k:=y1) Pp yA hb2 hm2 (ft zv120) (show(ku aK.rp) _ (.agg (xB [I 0,I 0,I 0,I 0,I 0,I 0,.bool false])) (aK.mk 0 0 0 0 0 0 false)from⟨_,U,U⟩) U U (λv4 hv2=>?_))
 obtain⟨_,rfl,rfl⟩:=hv2
 refine bH zc120 (λb4=>bE 0 ty120 U U U U U U (jm (L':=[(b4,O (aK.cells (mgetD m y1 (aK.mk 0 0 0 0 0 0 false))) 120),(b3,O (qF y1) 252)]++(A1_)) U (qL 5 [1] U (eJ ty3 (aoffice.mono (((de.t hle1).t hle2).t hl1)) U (qO 2 U (kI 4 [24,25,26,27,28] 24 28 (!((mgetD m y1 (aK.mk 0 0 0 0 0 0 false)).nj)) U (λc1 hk1=>?_) (λe=>?_)))))))
 .exact qL 4 [0] U (hk1 _ U)
 refine bp (uO 29 U (λc2=>?_) (λc2=>?_))
 .have hs4:=hs3.trans (congrArg (dn1++·) (bt c2))
  refine qL 5 [0,0] U (aI (ie (cells:=[I ((mgetD m y1 (aK.mk 0 0 0 0 0 0 false)).cM),I ((mgetD m y1 (aK.mk 0 0 0 0 0 0 false)).gj)]) (places:=[(0,1),(1,1)]) underlying268 zc268 kr kr ?_))
  have hx1:cw m aT=dn1++((bW.mk ((mgetD m y1 (aK.mk 0 0 0 0 0 0 false)).cM) ((mgetD m y1 (aK.mk 0 0 0 0 0 0 false)).gj))::(cw.L1 m aT (cw.K1) rz1)):=hs4
  refine aI (mq ([(b4,O (aK.cells (mgetD m y1 (aK.mk 0 0 0 0 0 0 false))) 120),(b3,O (qF y1) 252)]) A1_ ap (hy dn1 (bW.mk ((mgetD m y1 (aK.mk 0 0 0 0 0 0 false)).cM) ((mgetD m y1 (aK.mk 0 0 0 0 0 0 false)).gj)) _ _ _ _ hx1 ((hle1.t hle2).t hl1) hC1_ U) U U (λh4 A3 hle3 hC1=>?_) (λh5 A4 hle4 hS1=>?_) (λch1 h6 A5 hle5 hP1 e=>iY (oJ [] (A:=A5) Rx (List.sublist_append_right _ _) hP1)))
  .have hs5:cw m aT=(dn1++[(bW.mk ((mgetD m y1 (aK.mk 0 0 0 0 0 0 false)).cM) ((mgetD m y1 (aK.mk 0 0 0 0 0 0 false)).gj))])++((cw.L1 m aT (cw.K1) rz1)):=hx1.trans ap
   exact nB U (qO 6 U (oi i1 U (qO 2 U (cu (L':=A3) js (ag1 ((dn1++[(bW.mk ((mgetD m y1 (aK.mk 0 0 0 0 0 0 false)).cM) ((mgetD m y1 (aK.mk 0 0 0 0 0 0 false)).gj))]),A3,h4) hs5 ⟨hC1,(hl1.t hle3)⟩)))))
  exact nB U (qO 3 U (dR (n8 [] (A:=A4) Rx U js (.inr hS1))))
 have hs6:=hs3.trans (congrArg (dn1++·) (bf c2))
 exact kq (qO 12 U (oi i1 U (qO 2 U (cu (L':=A1_) js (ag1 (dn1,A1_,hh1) hs6 ⟨hC1_,hl1⟩)))))
end
section
open Go.Proofs Go.Proofs.Tryz
theorem Mb(h:HF)(x:bW)(s:Int)(bk:Nat):pJ prog 307 [.agg (bW.cells x).toArray,.pointer (some ⟨bk,0,none⟩)].toArray h [(bk,jG (xB [.int .i64 s]) 3 (0,0))]
  (λr h' B=>r=.returned (.tuple #[])/\h'=h/\B=[(bk,jG (xB [.int .i64 (kB .i64 (s+x.gj))]) 3 (0,0))]):=by
 refine cX func307 rfl ntmps307 rfl λX hM hX=>?_
 refine ea (bJ (eO (λb2=>bo (bJ (py 1 ty3 rfl rfl rfl (lD SZ rfl (py 0 ty3 rfl rfl rfl (PN rfl (cW 1 ty3 rfl rfl rfl rfl rfl rfl (bo ?_))))))))))
 exact Ae func307 (λa _ w _=>nw rfl a w) (λw hw=>hw.sub (List.sublist_cons_self _ _)) ⟨rfl,rfl,rfl⟩
end
section
open Go.Proofs Go.Proofs.Tryz
set_option maxHeartbeats 2000000
theorem CI(h)(m:List (OSeat×aK))(OF aT)(hm:wa qV (ku aK.rp) h OF m)(hsz:m.length<=1000000000):j6 prog 202 [.map (some OF),I aT] h (λv h'=>∃(rv0:Value),v=rv0/\Itr prog rv0 qb (kZ m aT) h'):=by
 refine sT func202 U ntmps202 U λX hM hX hF=>?_
 have hs0:=@rfl _ (kZ m aT)
 refine sr (eO (λb1=>eO (λb2=>qO 4 U (cz 1 U hM (λh1 hle1 hb1=>cz 0 U hM (λh2 hle2 hb2=>aI (gM U U (an ?_))))))))
 have hs1:kZ m aT=(cw m aT):=hs0
 exact nretH [.func (.func 268) #[] #[Q b1,Q b2]] (hs1▸⟨(.func (.func 268) #[] #[Q b1,Q b2]),U,(AC h2 m OF ⟨b1,0,none⟩ aT ⟨b2,0,none⟩ (hm.mono (ku.mono aK.aD) (hle1.t hle2)) ((dO hb1).mono hle2) (dO hb2) ob)⟩)
theorem vk(h l fo fm aT bq ah)(hl:SlC aK.rp h fo fm l)(hsz:l.length<=2000000):j6 prog 133 [.slice fo l.length fm,I aT,I bq,I ah] h (λv h'=>∃(rb0:Option Addr)(rc0:Nat),v=.tuple #[.slice rb0 ((fd l aT bq ah).1).length rc0,I ((fd l aT bq ah).2)]/\SlC bW.rp h' rb0 rc0 ((fd l aT bq ah).1)):=by
 refine sT func133 U ntmps133 U λX hM hX hF=>?_
 have hs0:=@rfl _ (fd l aT bq ah)
 refine qT 9 U (aS call72 (se _ _ _ _ hl) U (qO 7 U (aH hs0 U (λc1 hs1=>?_) (λc1 hs2=>?_))))
 .refine qT 6 U ?_
  have hs3:fd l aT bq ah=([],(dD l)):=hs1
  exact nretH [zSN,I (dD l)] (hs3▸⟨none,0,U,zG⟩)
 refine qT 5 U (aS call186 (pH h aT) U (qO 2 U (gy 4 [18,19,20,21,22] 18 22 (!(fJ bq)) U (λc2 hk1=>?_) (λe=>?_))))
 .exact bp (aS Pt (nf h bq) U (qO 2 U (hk1 _ U)))
 refine bp (gy 4 [23,24,25,26,27] 23 27 (!(fJ ah)) U (λc3 hk2=>?_) (λe=>?_))
 .exact bp (aS Pt (nf h ah) U (qO 2 U (hk2 _ U)))
 refine bo (aH hs2 U (λc4 hs4=>?_) (λc4 hs5=>?_))
 .refine qT 5 U ?_
  have hs6:fd l aT bq ah=([],1):=hs4
  exact nretH [zSN,I 1] (hs6▸⟨none,0,U,zG⟩)
 refine qT 6 U (aI (cx call189 (tN _ _ _ _ bq ah hl) U (λv1 h1 hle1 hp1=>?_)))
 obtain⟨rk1,rfl,mo1⟩:=hp1
 refine bp (aI (cx call202 (CI h1 (dK l bq ah) rk1 aT mo1 (by have:=yq l bq ah;omega)) U (λv2 h2 hle2 hp2=>?_)))
 obtain⟨_,rfl,mo2⟩:=hp2
 refine aI (cx call201 (wR h2 (kZ (dK l bq ah) aT) v2 mo2 (by have h1:=yq l bq ah;have h2:=Fv (dK l bq ah) aT;omega)) U (λv3 h3 hle3 hp3=>?_))
 obtain⟨rb1,rc1,rfl,sl1⟩:=hp3
 refine qO 3 U ?_
 have hs7:fd l aT bq ah=((iQ (kZ (dK l bq ah) aT)),0):=hs5
 exact nretH [.slice rb1 ((iQ (kZ (dK l bq ah) aT)).length) rc1,I 0] (hs7▸⟨rb1,rc1,U,sl1⟩)
theorem wq(h kU oo oh)(hwho:SlC jB h oo oh kU):Ret prog 205 [.slice oo kU.length oh] h (.bool (ef kU)):=by
 refine sT func205 U ntmps205 U λX hM hX hF=>?_
 generalize hz:(ef kU)=z;have hs:=hz.symm
 have HA:=h1 [6,7] 8 (λw=>[(3,I w)]) (λs1 i w=>(ef.L1 (ef.K1)) s1 w)
 exact W
theorem EC(h)(da:List (List bW))(mv mu aC)(AS:SlC (Rp.sl bW.rp) h mv mu da)(hsz0:∀y∈da,y.length<=2000000):Ret prog 204 [.slice mv da.length mu,I aC] h (.bool (dW da aC)):=by
 refine sT func204 U ntmps204 U λX hM hX hF=>?_
 have hs0:=@rfl _ (dW da aC)
 refine qK 11 [] U ?_
 refine lp2 da (λi w=>[(0,.slice mv da.length mu),(1,I aC),(10,.slice mv da.length mu),(11,I (da.length:Int)),(12,I (i:Int))]) (λw=>w) (λw=>[]) (λi w=>xJ h w) (λs1 i w=>(dW.L1 (dW.K1 da aC)) s1) h AS.1.1 hs0 lf ?_ ?_
 .rintro i1 hh1 iP hs1 hl1 e
  try dsimp only at hl1
  exact qK 8 [] U (nretP [.bool ((da.length:Int)==aC)] (cs hs1))
 rintro i1 hh1 y1 rz1 hd1 fY dz iT mF hs3 hl1 hx1 ag1 e
 try dsimp only at hl1
 have hszy:=hsz0 y1 (hZ hd1)
 refine sr (tO fY U (qO 8 U (aI (iG Mh ty191 (AS.mono (Rp.Bo bW.aD) hl1).1 dz U U U (λq3 cs2 A3 ln2 rr2=>?_)))))
 obtain⟨rb2,rc2,rfl,sl2⟩:=rr2
 refine eJ ty191 A3 U (qL 13 [] U ?_)
 refine lp2 y1 (λi w=>[(0,.slice mv da.length mu),(1,I aC),(7,.slice w.2.1 w.1.length w.2.2.1),(10,.slice mv da.length mu),(11,I (da.length:Int)),(12,I (i1:Int)),(16,.slice rb2 y1.length rc2),(17,I (y1.length:Int)),(18,I (i:Int))]) (λ_=>hh1) (λw=>w.2.2.2) (λi w=>cN jB 3 hh1 w.1 w.2.1 w.2.2.1 w.2.2.2/\w.1.length<=0+i) (λs3 i w=>(dW.L3 (λzg3_7=>(bif(!(ef zg3_7))then false else(dW.L1 (dW.K1 da aC) rz1)))) s3 w.1) ([],none,0,[]) sl2.1.1 hs3 ⟨cN.nil,lo⟩ ?_ ?_
 .rintro i3 ⟨DT,VM,VL,SN⟩ DP hs4 ⟨NE,SM⟩ e
  try dsimp only at NE SM
  refine qT 3 U (oW vH ([]) SN ([]) ap hM NE (λh1 hle1 sl3=>aS call205 (wq _ _ _ _ sl3) U (qO 2 U (aH hs4 U (λc2 hs5=>?_) (λc2 hs6=>?_)))))
  .exact sr (an (nretP [.bool false] (cs hs5)))
  exact bL (qT 2 U (oi i1 U (qO 2 U (ag1 h1 hs6 (hl1.t hle1)))))
 rintro i3 ⟨DT,VM,VL,SN⟩ y3 rz3 hd3 OO SH NC Wb hs8 ⟨NE,SM⟩ hx3 ag2 e
 try dsimp only at NE SM
 refine sr (tO OO U (qO 8 U (aI (iF bW.cells Ry ty268 sl2.1 SH U U U (λq5 A5=>eU ty268 A5 U U (bH zc268 (λb3=>bE 0 ty268 U U U U U U (jm (L':=[(b3,O (bW.cells y3) 268)]++(SN)) U (qL 8 [0] U (gy 4 [25,26,27,28,29] 25 29 (decide (64<y3.gj)) U (λc3 hk1=>?_) (λe=>?_)))))))))))
 .exact qL 4 [0] U (hk1 _ U)
 refine bo (aH hs8 U (λc4 hs9=>?_) (λc4 hs10=>?_))
 .exact sr (an (nretP [.bool false] (cs hs9)))
 exact qK 5 [0] U (aI (bN (cells:=[I y3.cM]) eP ty3 zc3 U U kr (λb4=>aI (eB Rp.jZ ([(b4,O [I y3.cM] 3),(b3,O (bW.cells y3) 268)]) ([]) (λG=>[(b4,O [I y3.cM] 3),(b3,O (bW.cells y3) 268)]++G) ap (λ_=>ap) eP ty3 zc3 U bytes3 NE U U (ic 0 U (cE (y3.cM) U U)) lo lo (λob1 oc1 G1 gr1=>qO 4 U (oi i3 U (qO 2 U (cu (L':=G1) js (ag2 ((DT++[y3.cM]),ob1,oc1,G1) hs10 ⟨gr1,lo⟩)))))))))
theorem um(h q wm q_q)(aT:Int)(office_q)(hq:bj.ok h q wm)(aq:At h q_q (bj.cells q wm))(aoffice:At h office_q [I aT])(hno:0<=aT/\aT<(q.da.length:Int))(hso:q.kU.Pairwise (·<=·))(hsw:q.kU.length<=2000000):Itr prog (.func (.func 328) #[] (xB [.pointer (some q_q),.pointer (some office_q)])) qb (cC q aT) h:=by
 refine sj call328 ?_
 intro yf ya yb C Sp Pn h1 A de m1 m2 m3 hC hy
 refine j1 Rw U ntmps328 U λX hXM hX=>?_
 have hs0:cC q aT=[]++cC q aT:=rfl
 refine qK 3 [] U (lQ (j:=1) ty190 (aq.mono de) U U (eJ ty3 (aoffice.mono de) U ?_))
 have ho1:0<=(aT:Int)/\(aT:Int)<((q.da).length:Int):=ob
 refine aI (MJ Mh ty191 (hq.da.mono (Rp.Bo bW.aD) de).1 ho1 (di ho1) U U U (λq1 cs1 A1 ln1 rr1=>?_))
 obtain⟨rb1,rc1,rfl,sl1⟩:=rr1
 refine eJ ty191 A1 U (qL 3 [] U ?_)
 refine lp2 (nthI q.da aT) (λi w=>[(0,.func yf ya yb),(1,.pointer (some q_q)),(12,.slice rb1 ((nthI q.da aT).length) rc1),(13,I ((nthI q.da aT).length:Int)),(14,I (i:Int))]) (λw=>w.2.2) (λw=>w.2.1) (λi w=>C w.1 w.2.2 w.2.1/\xJ h1 w.2.2) (λs1 i w=>w.1++(cC.L1 q (cC.K1)) s1) ([],A,h1) sl1.1.1 hs0 ⟨hC,lf⟩ ?_ ?_
 .rintro i1 ⟨dn1,A1_,hh1⟩ iP hs1 ⟨hC1_,hl1⟩ e
  refine dR ?_
  have hs2:cC q aT=dn1:=hs1.trans (List.append_nil _)
  exact sk [] (A:=A1_) Rw U (List.Sublist.refl _) (.inl (hs2▸hC1_))
 rintro i1 ⟨dn1,A1_,hh1⟩ y1 rz1 hd1 fY dz iT mF hs3 ⟨hC1_,hl1⟩ hx1 ag1 e
 refine sr (tO fY U (qO 8 U (aI (iF bW.cells Ry ty268 (sl1.mono bW.aD hl1).1 dz U U U (λq3 A6=>eU ty268 A6 U U (bH zc268 (λb2=>bE 0 ty268 U U U U U U (jm (L':=[(b2,O (bW.cells y1) 268)]++(A1_)) U (qL 4 [] U (lQ (j:=2) ty31 (aq.mono (de.t hl1)) U U (qL 2 [0] U (aS call193 (oX _ _ _ _ y1.cM (hq.kU.mono vH (de.t hl1)) ob ob) U (qO 10 U (uO 27 U (λc2=>?_) (λc2=>?_)))))))))))))))
 .have hs4:=hs3.trans (congrArg (dn1++·) (bt c2))
  refine bp (dy 0 ty268 U U U ?_)
  have hx2:cC q aT=dn1++(y1::(cC.L1 q (cC.K1) rz1)):=hs4
  refine aI (mq ([(b2,O (bW.cells y1) 268)]) A1_ ap (hy dn1 y1 _ _ _ _ hx2 hl1 hC1_ U) U U (λh5 A7 hle4 hC2=>?_) (λh6 A8 hle5 hS2=>?_) (λch2 h7 A9 hle6 hP2 e=>iY (oJ [] (A:=A9) Rw (List.sublist_append_right _ _) hP2)))
  .have hs5:cC q aT=(dn1++[y1])++((cC.L1 q (cC.K1) rz1)):=hx2.trans ap
   exact nB U (qO 6 U (oi i1 U (qO 2 U (cu (L':=A7) js (ag1 ((dn1++[y1]),A7,h5) hs5 ⟨hC2,(hl1.t hle4)⟩)))))
  exact nB U (qO 3 U (dR (n8 [] (A:=A8) Rw U js (.inr hS2))))
 have hs6:=hs3.trans (congrArg (dn1++·) (bf c2))
 exact kq (qO 8 U (oi i1 U (qO 2 U (cu (L':=A1_) js (ag1 (dn1,A1_,hh1) hs6 ⟨hC1_,hl1⟩)))))
instance kI328:CtI 328:=⟨_,@um⟩
theorem pE(h q wm)(aT:Int)(hq:bj.ok h q wm)(hno:0<=aT/\aT<(q.da.length:Int))(hso:q.kU.Pairwise (·<=·))(hsw:q.kU.length<=2000000):j6 prog 306 [.agg (bj.cells q wm).toArray,I aT] h (λv h'=>∃(rv0:Value),v=rv0/\Itr prog rv0 qb (eM q aT) h'):=by
 refine sT func306 U ntmps306 U λX hM hX hF=>?_
 generalize hz:(eM q aT)=z;have hs:=hz.symm
 exact W
theorem wY(h q wm x gR)(hq:bj.ok h q wm)(hx:aj.ok h x gR)(hno:0<=x.No/\x.No<(q.da.length:Int))(hso:q.kU.Pairwise (·<=·))(hsw:q.kU.length<=2000000):Ret prog 272 [.agg (bj.cells q wm).toArray,.agg (aj.cells x gR).toArray] h (.bool (ey q x)):=by
 refine cX Rv U ntmps272 U λX hM hX=>?_
 have hs0:=@rfl _ (ey q x)
 refine sr (eO (λb1=>eO (λb2=>bH zc4 (λb3=>qO 4 U (dy 2 ty275 U U U (qL 2 [1] U (aI (cx call306 (pE _ _ _ x.No hq ob ob ob) U (λv1 h1 hle1 hp1=>?_)))))))))
 obtain⟨_,rfl,mo1⟩:=hp1
 refine qO 2 U (dR ?_)
 let z1:Nat×Obj:=(b1,O (bj.cells q wm) 275)
 let z2:Nat×Obj:=(b2,O (aj.cells x gR) 59)
 refine bZ (L':=([(b3,O [.bool false] 4),z2,z1])++markB []) ap ?_
 refine j9 (it:=v1) (xs:=(eM q x.No)) (ι:=Bool×HF) [] (λi=>i.2) (λi=>[(b3,O [.bool i.1] 4),z2,z1]) (λs i=>ey q x=((ey.L1 (ey.K1)) s i.1)/\xJ h1 i.2) (λi=>ey q x=i.1/\xJ h1 i.2) (λ_=>False) 0 (λ_ _ _=>False) (false,h1) Rv U mo1 U vm (λ_ _ _ _ _ hq=>hq) U (show[(b3,O [.bool false] 4),z2,z1]=_ from U) ⟨hs0,lf⟩ ?_ ?_ ?_ ?_ ?_
 .rintro l1 dm1 lp1 y1 rz1 vs1 ⟨cB,hh1⟩ hr1 X hFR1 ⟨hs1,hl1⟩ hl01 hlr1 hv1 hX hXM hlp1 nx1 rt1 ex1 pn1
  obtain rfl:=hv1
  exact bZ (L':=[(l1,.loop lp1),(dm1,.deferred (some [])),(b3,O [.bool cB] 4),z2,z1]++(markB [])) ap (bL (kh 0 U hlp1 (qT 3 U (cW 2 ty4 U U U U U U (bo (bZ (L':=rdH l1 dm1 lp1 (([(b3,O [.bool true] 4),z2,z1])++markB [])) ap (rt1 (true,hr1) _ _ _ ⟨hs1,(hl1.t hlr1)⟩ lf)))))))
 .rintro dm1 ⟨cB,hh1⟩ hn1 ⟨hs2,hl1⟩ hln1 hl01
  refine bZ (L':=[(b3,O [.bool cB] 4),z2,z1]++(markB (dm1::[]))) ap (qT 3 U (cW 0 ty4 U U U U U U (bo ?_)))
  have hs3:ey q x=false:=hs2
  exact bZ (L':=([(b3,O [.bool false] 4),z2,z1])++markB (dm1::[])) ap (uL (dm1::[]) [.bool false] Rv U hX ⟨⟨0,_,_,_,_,U,U,.inr ⟨_,ty4,U⟩⟩,trivial⟩ (cs hs3))
 .rintro dm1 ⟨cB,hh1⟩ hn1 ⟨hs4,hl1⟩ hln1 hl01
  refine bZ (L':=[(b3,O [.bool cB] 4),z2,z1]++(markB (dm1::[]))) ap ?_
  have hs5:ey q x=cB:=hs4
  exact bZ (L':=([(b3,O [.bool cB] 4),z2,z1])++markB (dm1::[])) ap (uL (dm1::[]) [.bool cB] Rv U hX ⟨⟨0,_,_,_,_,U,U,.inr ⟨_,ty4,U⟩⟩,trivial⟩ (cs hs5))
 .exact xf
 exact xf
theorem vh(h q wm x gR)(hq:bj.ok h q wm)(hx:aj.ok h x gR)(hno:0<=x.No/\x.No<(q.da.length:Int))(hso:q.kU.Pairwise (·<=·))(hsw:q.kU.length<=2000000):Ret prog 273 [.agg (bj.cells q wm).toArray,.agg (aj.cells x gR).toArray] h (.bool (dc q x)):=by
 refine cX func273 U ntmps273 U λX hM hX=>?_
 have hs0:=@rfl _ (dc q x)
 refine sr (eO (λb1=>eO (λb2=>qO 4 U (bH zc3 (λb3=>cW 0 ty3 U U U U U U (qO 3 U (aI (gM U U (bH zc345 (λb4=>cW 0 ty345 U U U U U U (qO 4 U (dy 3 ty275 U U U (qL 2 [2] U (aI (cx call306 (pE _ _ _ x.No hq ob ob ob) U (λv1 h1 hle1 hp1=>?_))))))))))))))))
 obtain⟨_,rfl,mo1⟩:=hp1
 refine qO 2 U (dR ?_)
 let z1:Nat×Obj:=(b4,O [.func (.func 307) #[] #[Q b3]] 345)
 let z2:Nat×Obj:=(b1,O (bj.cells q wm) 275)
 let z3:Nat×Obj:=(b2,O (aj.cells x gR) 59)
 refine bZ (L':=([z1,(b3,O [I 0] 3),z3,z2])++markB []) ap ?_
 refine j9 (it:=v1) (xs:=(eM q x.No)) (ι:=Int×HF) [] (λi=>i.2) (λi=>[z1,(b3,O [I i.1] 3),z3,z2]) (λs i=>dc q x=((dc.L1 (dc.K1 x)) s i.1)/\xJ h1 i.2) (λ_=>False) (λ_=>False) 0 (λ_ _ _=>False) (0,h1) func273 U mo1 U vm (λ_ _ _ _ _ hq=>hq) U (show[z1,(b3,O [I 0] 3),z3,z2]=_ from U) ⟨hs0,lf⟩ ?_ ?_ ?_ ?_ ?_
 .rintro l1 dm1 lp1 y1 rz1 vs1 ⟨cB,hh1⟩ hr1 X hFR1 ⟨hs1,hl1⟩ hl01 hlr1 hv1 hX hXM hlp1 nx1 rt1 ex1 pn1
  obtain rfl:=hv1
  refine bZ (L':=[(l1,.loop lp1),(dm1,.deferred (some [])),z1,(b3,O [I cB] 3),z3,z2]++(markB [])) ap (bJ (bH zc268 (λb6=>bE 0 ty268 U U U U U U (bo (kh 1 U hlp1 (qK 3 [3] U (dy 0 ty268 U U U (aI (R9 4 (o':=O [I (kB .i64 (cB+y1.gj))] 3) U (nv (args:=[.agg (bW.cells y1).toArray]) (cap:=[Q b3]) call307 (Mb hr1 y1 cB b3)) U U (qO 2 U ?_))))))))))
  let z4:Nat×Obj:=(b3,O [I (kB .i64 (cB+y1.gj))] 3)
  exact cu (L':=[(l1,.loop { lp1 with state:=.busy }),(dm1,.deferred (some [])),z1,z4,z3,z2]++(markB [])) js (bZ (L':=rdH l1 dm1 lp1 (([z1,z4,z3,z2])++markB [])) ap (nx1 ((kB .i64 (cB+y1.gj)),hr1) _ _ ⟨hs1,(hl1.t hlr1)⟩ lf))
 .rintro dm1 ⟨cB,hh1⟩ hn1 ⟨hs2,hl1⟩ hln1 hl01
  refine bZ (L':=[z1,(b3,O [I cB] 3),z3,z2]++(markB (dm1::[]))) ap (qK 9 [1,2] U ?_)
  have hs3:dc q x=decide (x.N<=cB):=hs2
  exact bZ (L':=([z1,(b3,O [I cB] 3),z3,z2])++markB (dm1::[])) ap (uL (dm1::[]) [.bool (decide (x.N<=cB))] func273 U hX rd (cs hs3))
 .exact xf
 .exact xf
 exact xf
end
variable {E ty:TypeId}{G:LH}{P:Program}{X:Cx}{a:Bool}{base:Option Addr}{cap m sz vx:Nat}{h:HF}{kn:IntKind}{x y:Operand}{zs:List Go.Value}{α:Type}{R:Rp α}{xs:List α}
section
section
variable {P:Program} {b:Frame} {n:Nat} {ops:Array Oper} {F:List Frame->(Machine->Prop)->Prop} {e:Env} {ds:List Deferred} {X:Cx} {h:HF} {L:LH} {K:Env->HF->LH->Prop}
variable {d:Option Nat} {ty:TypeId} {pos:String} {af:Array Edge} {g:Option (Nat×Bool)}
theorem Kd{t:TypeId}{hi:Operand}{bk n:Nat}(hT:P.underlying t=some (.slice E))(hS:tySz P E=some (sz,a))(hx:e.ev x=.slice (some ⟨bk,0,none⟩) n cap)(hhi:e.ev hi=.int .i64 (m:Nat))(hm:m<=cap):
  ∀w,St X h L w->(execOp e.ev ⟨d,.slice t x none (some hi) none,ty,pos,af,g⟩).run P w=.ok (.value (.slice (some ⟨bk,0,none⟩) m cap)) w:=λw hw=>by
 simp[execOp,Instr.sliceAt,Instr.slice,Instr.sliceBounds,Instr.sliceBound,hx,hhi,asIntOf,run_underlying hT,fV hS,hm,Addr.add]
theorem PK{t:TypeId}{c:Nat}(hT:P.underlying t=some (.slice E))(hx:e.ev x=.slice base m c):
  ∀w,St X h L w->(execOp e.ev ⟨d,.call ⟨.builtin .cap,#[x],#[t]⟩,ty,pos,af,g⟩).run P w=.ok (.value (.int .i64 (c:Nat))) w:=
 λw _=>by simp[execOp,resolve,invoke,builtin,Builtin.cap_,hx,run_underlying hT,goInt]
theorem Le{s t:TypeId}{S:TypeDesc}{kk k2:IntKind}{m m':Int}(hS:P.underlying s=some S)(hT:P.underlying t=some (.int k2))(hx:e.ev x=.int kk m)(hm:kB k2 m=m'):
  ∀w,St X h L w->(execOp e.ev ⟨d,.convert s t x,ty,pos,af,g⟩).run P w=.ok (.value (.int k2 m')) w:=λw hw=>by
 simp[execOp,convert,run_underlying hS,run_underlying hT,hx,Conv.intToInt,hm]
theorem Sh{t u:TypeId}(hx:e.ev x=.int .u64 (m:Nat))(hy:e.ev y=.int .u64 1):
  ∀w,St X h L w->(execOp e.ev ⟨d,.binOp .shr t x y u,ty,pos,af,g⟩).run P w=.ok (.value (.int .u64 ((m/2:Nat):Int))) w:=λw hw=>by
 have:min 1 64=1:=rfl
 simp[execOp,hx,hy,eqGuard,binOp,Op.shift,Yz,this,Int.fdiv_eq_ediv_of_nonneg]
end
theorem MM(A Q:LH){t tn:TypeId}{k:Nat}(hw:St X h (A++(G++Q)) w)(hT:P.underlying t=some (.slice E))(hN:P.underlying tn=some (.int kn))(hS:tySz P E=some (R.sz,a))(hz:zeroC P E=some zs)(hzl:zs.length=R.sz)(hpos:0<R.sz)(hby:bytesOf P E=some vx)(hG:cN R E h xs base cap G)(hk:0<k)(hno:cap<xs.length+k)(hb:(xs.length+k)*vx<=140737488355328)(hb2:xs.length+k<=9223372036854775807):
  ∃bk cl sp cap' w',(Builtin.append_ #[t,tn] ty #[.slice base xs.length cap,.int kn k]).run P w=.ok (.slice (some ⟨bk,0,none⟩) (xs.length+k) cap') w'/\cS R h cl xs/\(cl++sp).length=cap'*R.sz/\xs.length+k<=cap' /\
   St X h ((bk,.cells (cl++sp).toArray E (0,0))::(A++(G++Q))) w':=by
 obtain⟨i,hi,hby'⟩:∃i,P.info? E=some i/\i.bytes=vx:=by
  unfold bytesOf at hby
  cases hi:P.info? E with
  |none=>simp[hi]at hby
  |some i=>exact⟨i,rfl,by simpa[hi]using hby⟩
 have hsz:i.size=R.sz:=by
  have:=fV hS w
  simpa[sizeOf,typeInfo,hi]using this
 obtain⟨z,hzz,hzc⟩:∃z,i.zero=some z/\z.cells=zs.toArray:=by
  unfold zeroC at hz
  cases hzz:i.zero with
  |none=>simp[hi,hzz]at hz
  |some z=>exact⟨z,rfl,by simp[hi,hzz]at hz;rw[mM,hz]⟩
 have hwd:St X h (A++(G++Q)) w.drew:=hw.drew _
 obtain⟨cl0,hc0,hf0⟩:∃cl0,cS R h cl0 xs/\(Builtin.firstCells R.sz xs.length (.slice base xs.length cap)).run P w.drew=.ok cl0.toArray w.drew:=by
  rcases hG with⟨rfl,rfl,rfl,rfl⟩|⟨bk,cl0,sp,rfl,hc0,hlen,de,_,rfl⟩
  .exact⟨[],rfl,by simp[Builtin.firstCells]⟩
  .refine⟨cl0,hc0,run_firstCells_some _ _ _ _ _ _ _ hc0.len λj v hj=>?_⟩
   have hown:w.drew.heap[bk]? = some (.cells (cl0++sp).toArray E (0,0)):=hwd.own (bk,_) (by simp)
   have hlt:=(List.getElem?_eq_some_iff.1 hj).1
   rw[oC]
   simp only[Xf,hown]
   simp[List.getElem?_append_left hlt,hj]
 have hfit:Builtin.nextslicecap (xs.length+k) cap*i.bytes<=281474976710656:=growslice_fits hno (by rw[hby'];exact hb)
 have h48':¬(281474976710656<Builtin.nextslicecap (xs.length+k) cap*i.bytes):=by omega
 have h63':¬(9223372036854775807<((xs.length:Int)+(k:Int))):=by omega
 have hroom:¬(xs.length+k<=cap):=by omega
 have hge:=grownCap_ge w (xs.length+k) cap E
 have hn:k≠0:=by omega
 have hwr:IntKind.i64.wrap (k:Int)=k:=by rw[IntKind.wrap_i64];omega
 have h48i:¬(281474976710656<(k:Int)*(i.bytes:Int)):=by
  rw[←Int.natCast_mul,hby']
  have:k*vx<=(xs.length+k)*vx:=Nat.mul_le_mul_right _ (by omega)
  omega
 have hneg:¬((k:Int)<0):=by omega
 have hns:¬(k*i.size=0):=Nat.mul_ne_zero hn (by omega)
 let nc:=grownCap w (xs.length+k) cap E
 let rest:=(Builtin.zeroCells z.cells k++Builtin.zeroCells z.cells (nc-(xs.length+k))).toList
 refine⟨w.heap.size,cl0,rest,nc,w.drew.alloc (.cells (cl0++rest).toArray E),?_,hc0,?_,hge,hwd.alloc (.cells (cl0++rest).toArray E (0,0))⟩
 .rw[←hsz]at hf0
  simp[Builtin.append_,run_underlying hT,run_underlying hN,asInt,asIntOf,hwr,hneg,h48i,hns,sizeOf,typeInfo,zeroValue,hi,hzz,hroom,h63',h48',Question.forced,hf0,newRow,grownCap,nc,rest]
  congr 2
  apply xS
  simp
 .have h1:rest.length=k*R.sz+(nc-(xs.length+k))*R.sz:=by
   simp[rest,Builtin.zeroCells,hzc,hzl]
  simp only[jA,h1,hc0.len,←Nat.add_mul]
  congr 1
  omega
section
variable {P:Program} {b:Frame} {n:Nat} {ops:Array Oper} {F:List Frame->(Machine->Prop)->Prop} {e:Env} {ds:List Deferred} {X:Cx} {h:HF} {L:LH} {K:Env->HF->LH->Prop}
variable {d:Option Nat} {ty:TypeId} {pos:String} {af:Array Edge} {g:Option (Nat×Bool)}
theorem J8(A G Q:LH){t tn:TypeId}{s:Operand}{k:Nat}(hL:L=A++(G++Q))(hT:P.underlying t=some (.slice E))(hN:P.underlying tn=some (.int kn))(hS:tySz P E=some (R.sz,a))(hz:zeroC P E=some zs)(hzl:zs.length=R.sz)(hpos:0<R.sz)(hby:bytesOf P E=some vx)(hG:cN R E h xs base cap G)(hx:e.ev s=.slice base m cap)(hm:m=xs.length)(hy:e.ev y=.int kn (k:Nat))(hk:0<k)(hno:cap<xs.length+k)(hb:(xs.length+k)*vx<=140737488355328)(hb2:xs.length+k<=9223372036854775807)(t':∀bk cl sp cap',cS R h cl xs->(cl++sp).length=cap'*R.sz->xs.length+k<=cap'->K (pute e d (.slice (some ⟨bk,0,none⟩) (xs.length+k) cap')) h ((bk,.cells (cl++sp).toArray E (0,0))::L))(hgd:guardB ops e ⟨d,.call ⟨.builtin .append,#[s,y],#[t,tn]⟩,ty,pos,af,g⟩=true:=by rfl):Stp P b n ops F ds X ⟨d,.call ⟨.builtin .append,#[s,y],#[t,tn]⟩,ty,pos,af,g⟩ e h L K:=
 iM hgd λw hw=>by
  subst hL hm
  obtain⟨bk,cl,sp,cap',w',hr,h1,h2,h3,hst⟩:=MM (P:=P) (ty:=ty) A Q hw hT hN hS hz hzl hpos hby hG hk hno hb hb2
  refine⟨_,w',h,_,?_,hst,t' _ _ _ _ h1 h2 h3⟩
  simp[execOp,resolve,invoke,builtin,hx,hy,hr]
end
end
variable {K:Env->HF->LH->Prop}{af:Array Edge}{d:Option Nat}{g:Option (Nat×Bool)}{l:List Oper}{ops:Array Oper}{pos:String}
section
theorem MN(hg:R.Good)(A Q:LH){t:TypeId}{ys:List α}{x:Value}(hw:St X h (A++(G++Q)) w)(hT:P.underlying t=some (.slice E))(hS:tySz P E=some (R.sz,a))(hz:zeroC P E=some zs)(hzl:zs.length=R.sz)(hby:bytesOf P E=some vx)(hG:cN R E h xs base cap G)(hsrc:Src R h (A++(G++Q)) x ys)(hb:(xs.length+ys.length)*vx<=140737488355328)(hb2:xs.length+ys.length<=9223372036854775807):
  ∃base' cap' G' w',(Builtin.append_ #[t,t] ty #[.slice base xs.length cap,x]).run P w=.ok (.slice base' (xs++ys).length cap') w'/\cN R E h (xs++ys) base' cap' G'/\St X h (A++(G'++Q)) w'/\∀p∈G',(∃q∈G,q.1=p.1)\/w.heap.size<=p.1:=by
 obtain⟨i,hi,hby'⟩:∃i,P.info? E=some i/\i.bytes=vx:=by
  unfold bytesOf at hby
  cases hi:P.info? E with
  |none=>simp[hi]at hby
  |some i=>exact⟨i,rfl,by simpa[hi]using hby⟩
 have hsz:i.size=R.sz:=by
  have:=fV hS w
  simpa[sizeOf,typeInfo,hi]using this
 obtain⟨z,hzz,hzc⟩:∃z,i.zero=some z/\z.cells=zs.toArray:=by
  unfold zeroC at hz
  cases hzz:i.zero with
  |none=>simp[hi,hzz]at hz
  |some z=>exact⟨z,rfl,by simp[hi,hzz]at hz;rw[mM,hz]⟩
 have hnewlen:(xs++ys).length=xs.length+ys.length:=by simp
 obtain⟨cl,bs,c,hx,hc,hf⟩:=uB (P:=P) hsrc hw
 by_cases hroom:xs.length+ys.length<=cap
 ·
  rcases hG with⟨rfl,rfl,rfl,rfl⟩|⟨bk,cl0,sp,rfl,hc0,hlen,de,_,rfl⟩
  .have hy:ys=[]:=List.eq_nil_of_length_eq_zero (by simpa using hroom)
   subst hy
   cases hc
   refine⟨none,0,[],w,?_,cN.nil,by simpa using hw,λ_ hp=>(kA hp).elim⟩
   subst hx
   rw[←hsz]at hf
   simp[Builtin.append_,run_underlying hT,sizeOf,typeInfo,hi,Builtin.lenOf,hf]at hf ⊢
  .have hlcl:=hc.len
   have hl0:=hc0.len
   have hfit:cl.length<=sp.length:=by
    simp only[jA]at hlen
    have:(xs.length+ys.length)*R.sz<=cap*R.sz:=Nat.mul_le_mul_right _ hroom
    rw[Nat.add_mul]at this
    omega
   have hown:w.heap[bk]? = some (.cells (cl0++sp).toArray E (0,0)):=hw.own (bk,_) (by simp)
   have hst:=lS (P:=P) (T:=E) (xs.length*R.sz) cl 0 (cl0++sp) w hown (by simp;omega) (by simpa using hc.LV hg)
   simp only[Nat.add_zero]at hst
   have hwr:=hw.write (i:=A.length) (b:=bk) (o:=.cells (cl0++sp).toArray E (0,0)) (by simpa using Lr A _ Q) (.cells (splice (cl0++sp) (xs.length*R.sz) cl).toArray E (0,0))
   refine⟨some ⟨bk,0,none⟩,cap,[(bk,.cells (splice (cl0++sp) (xs.length*R.sz) cl).toArray E (0,0))],{ w with heap:=w.heap.setIfInBounds bk (.cells (splice (cl0++sp) (xs.length*R.sz) cl).toArray E (0,0)) },?_,?_,?_,λp hp=>.inl ⟨_,jC.2 rfl,by rw[jC.1 hp]⟩⟩
   .subst hx
    rw[←hsz]at hf hst ⊢
    simp[Builtin.append_,run_underlying hT,sizeOf,typeInfo,hi,Builtin.lenOf,hf,hroom,oC,hst]
   .have hsp:=ux cl cl0 sp hfit
    rw[hl0]at hsp
    refine .inr ⟨bk,cl0++cl,sp.drop cl.length,rfl,cS.app hc hc0,?_,by simpa using hroom,by simpa using hb2,?_⟩
    .simp only[jA,List.length_drop]at hlen ⊢;omega
    .rw[hsp];simp
   .have:=Cz A (bk,jG (cl0++sp).toArray E (0,0)) (bk,.cells (splice (cl0++sp) (xs.length*R.sz) cl).toArray E (0,0)) Q
    simp only[xL,vF]at hwr ⊢
    rw[this]at hwr
    exact hwr
 ·
  have hcap:cap<xs.length+ys.length:=by omega
  have hwd:St X h (A++(G++Q)) w.drew:=hw.drew _
  obtain⟨cl0,hc0,hf0⟩:∃cl0,cS R h cl0 xs/\(Builtin.firstCells R.sz xs.length (.slice base xs.length cap)).run P w.drew=.ok cl0.toArray w.drew:=by
   rcases hG with⟨rfl,rfl,rfl,rfl⟩|⟨bk,cl0,sp,rfl,hc0,hlen,de,_,rfl⟩
   .exact⟨[],rfl,by simp[Builtin.firstCells]⟩
   .refine⟨cl0,hc0,run_firstCells_some _ _ _ _ _ _ _ hc0.len λj v hj=>?_⟩
    have hown:w.drew.heap[bk]? = some (.cells (cl0++sp).toArray E (0,0)):=hwd.own (bk,_) (by simp)
    have hlt:=(List.getElem?_eq_some_iff.1 hj).1
    rw[oC]
    simp only[Xf,hown]
    simp[List.getElem?_append_left hlt,hj]
  obtain⟨cl',_,_,hx',hc',hf'⟩:=uB (P:=P) hsrc hwd
  have hfit:Builtin.nextslicecap (xs.length+ys.length) cap*i.bytes<=281474976710656:=growslice_fits hcap (by rw[hby'];exact hb)
  have h48':¬(281474976710656<Builtin.nextslicecap (xs.length+ys.length) cap*i.bytes):=by omega
  have h63':¬(9223372036854775807<((xs.length:Int)+(ys.length:Int))):=by omega
  have hge:=grownCap_ge w (xs.length+ys.length) cap E
  let nc:=grownCap w (xs.length+ys.length) cap E
  let rest:=(Builtin.zeroCells z.cells (nc-(xs.length+ys.length))).toList
  refine⟨some ⟨w.heap.size,0,none⟩,nc,[(w.heap.size,.cells ((cl0++cl')++rest).toArray E (0,0))],w.drew.alloc (.cells ((cl0++cl')++rest).toArray E),?_,?_,?_,λp hp=>.inr (by rw[jC.1 hp];exact kE _)⟩
  .subst hx
   rw[←hsz]at hf0 hf'
   simp[Builtin.append_,run_underlying hT,sizeOf,typeInfo,zeroValue,hi,hzz,Builtin.lenOf,hroom,h63',h48',Question.forced,hf0,hf',newRow,grownCap,nc,rest]
   congr 2
   apply xS
   simp
  .refine .inr ⟨w.heap.size,cl0++cl',rest,rfl,cS.app hc' hc0,?_,by rw[hnewlen];exact hge,by rw[hnewlen];exact hb2,rfl⟩
   have:rest.length=(nc-(xs.length+ys.length))*R.sz:=by
    simp[rest,Builtin.zeroCells,hzc,hzl]
   simp only[jA,this,hc0.len,hc'.len,←Nat.add_mul]
   congr 1
   omega
  .have h1:=hwd.alloc (.cells ((cl0++cl')++rest).toArray E (0,0))
   have hsub:((w.heap.size,jG ((cl0++cl')++rest).toArray E (0,0))::(A++Q)).Sublist ((w.heap.size,jG ((cl0++cl')++rest).toArray E (0,0))::(A++(G++Q))):=
    .cons_cons _ ((List.Sublist.refl A).append (List.sublist_append_right G Q))
   have h2:=h1.sub hsub
   exact h2.perm (List.perm_middle.symm)
section
variable {P:Program} {b:Frame} {n:Nat} {k:List Item} {F:List Frame->(Machine->Prop)->Prop} {e:Env} {ds:List Deferred} {X:Cx} {h:HF} {L:LH}
def Nw(X:Cx)(G:LH):Prop:=∀p∈G,p.1∉X.M
theorem Og(hg:R.Good){t:TypeId}{s:Operand}{ys:List α}{Q:LH}{d:Nat}(hXM:∀b∈X.M,b<X.w0.heap.size)(hN:Nw X G)(hp:L.Perm (G++Q))(hT:P.underlying t=some (.slice E))(hS:tySz P E=some (R.sz,a))(hz:zeroC P E=some zs)(hzl:zs.length=R.sz)(hby:bytesOf P E=some vx)(hG:cN R E h xs base cap G)(hx:e.ev s=.slice base m cap)(hm:m=xs.length)(hsrc:Src R h (G++Q) (e.ev y) ys)(hb:(xs.length+ys.length)*vx<=140737488355328)(hb2:xs.length+ys.length<=9223372036854775807)(t':∀base' cap' G',cN R E h (xs++ys) base' cap' G'->Nw X G'->TO P b n ops l k F (upd e d (.slice base' (xs++ys).length cap')) ds X h (G'++Q))(hd:Nat.blt d n=true:=by rfl)(hgd:guardB ops e ⟨some d,.call ⟨.builtin .append,#[s,y],#[t,t]⟩,ty,pos,af,g⟩=true:=by rfl):TO P b n ops (⟨some d,.call ⟨.builtin .append,#[s,y],#[t,t]⟩,ty,pos,af,g⟩::l) k F e ds X h L:=
 qZ hp (aI (iM hgd λw hw=>by
  subst hm
  obtain⟨base',cap',G',w',hr,hG',hst,hnew⟩:=MN (P:=P) (ty:=ty) hg [] Q hw hT hS hz hzl hby hG hsrc hb hb2
  refine⟨_,w',h,_,?_,hst,t' _ _ _ hG' (λp hp hM=>?_)⟩
  .simp[execOp,resolve,invoke,builtin,hx,hr]
  .rcases hnew p hp with⟨q,hq,e1⟩|h1
   .exact hN q hq (e1▸hM)
   .have:=hXM _ hM;have:=hw.size;omega) rfl hd)
theorem Ol{t:TypeId}(hXM:∀b∈X.M,b<X.w0.heap.size)(hT:P.underlying t=some (.slice E))(hS:tySz P E=some (sz,a))(t':∀bk,bk∉X.M->K (pute e d (.slice (some ⟨bk,0,none⟩) 0 0)) h ((bk,.cells [].toArray E (0,0))::L))(hg:guardB ops e ⟨d,.buildSlice t 0 #[],ty,pos,af,g⟩=true:=by rfl):Stp P b n ops F ds X ⟨d,.buildSlice t 0 #[],ty,pos,af,g⟩ e h L K:=
 iM hg λw hw=>by
  refine⟨_,_,h,_,?_,hw.alloc _,t' _ (λhm=>by have:=hXM _ hm;have:=hw.size;omega)⟩
  have h0:(Array.range 0).map (λ_:Nat=>(default:Value))=#[]:=by apply Array.eq_empty_of_size_eq_zero;simp
  simp[execOp,Instr.buildSlice,run_underlying hT,fV hS,Instr.fill,newRow,h0]
theorem QI{o:Oper}(i:Nat){bk:Nat}{ob:Obj}(hi:nth L i=some (bk,ob))(hM:bk∉X.M)(t:∀h2,h.le h2->h2 bk=some ob->Stp P b n ops F ds X o e h2 (dropNth L i) K)(hg:guardB ops e o=true:=by rfl):Stp P b n ops F ds X o e h L K:=by
 unfold Stp
 rw[if_pos hg]
 intro w hw
 have h1:=hw.perm (oe L i _ hi)
 have:=t _ (HF.yE (h1.free (bk,ob) (by simp))) (HF.tj _ _ _)
 unfold Stp at this
 rw[if_pos hg]at this
 exact this w (h1.freeze hM)
theorem St.freezeNw{w:World}:∀{G Q:LH}{h:HF},Nw X G->St X h (G++Q) w->St X (h.addAll G) Q w/\h.le (h.addAll G)/\∀p∈G,(h.addAll G) p.1=some p.2
 |[],_,h,_,s=>⟨s,kH _,λ_ hp=>(kA hp).elim⟩
 |(b,o)::G,Q,h,hN,s=>by
  have h1:=s.freeze (hN _ (vB ..))
  obtain⟨a,c,d⟩:=St.freezeNw (λp hp=>hN p (xC _ hp)) h1
  have de:h.le (h.add b o):=HF.yE (s.free (b,o) (by simp))
  refine⟨a,vA de c,λp hp=>?_⟩
  rcases kD.1 hp with rfl|hp
  .exact c _ _ (HF.tj _ _ _)
  .exact d p hp
theorem Mt{Q:LH}(hm:R.Mono)(hp:L.Perm (G++Q))(hN:Nw X G)(hG:cN R E h xs base cap G)(t:∀h2,h.le h2->SlC R h2 base cap xs->TO P b n ops l k F e ds X h2 Q):TO P b n ops l k F e ds X h L:=λw hw=>by
 obtain⟨a,c,d⟩:=St.freezeNw hN (hw.perm hp)
 exact t _ c (hG.frozen hm c d) w a
end
end
variable {i:Nat}{v:Go.Value}
section
open Go.Proofs Go.Proofs.Tryz
theorem HJ{e:Env}{L:LH}{t:TypeId}{hi:Operand}(hT:P.underlying t=some (.slice E))(hS:tySz P E=some (sz,a))(hx:e.ev x=.slice none 0 0)(hhi:e.ev hi=.int .i64 ((0:Nat):Int)):
  ∀w,St X h L w->(execOp e.ev ⟨d,.slice t x none (some hi) none,ty,pos,af,g⟩).run P w=.ok (.value (.slice none 0 0)) w:=λw hw=>by
 simp[execOp,Instr.sliceAt,Instr.slice,Instr.sliceBounds,Instr.sliceBound,hx,hhi,asIntOf,run_underlying hT,fV hS]
def sumL{α : Type}:List (List α)->Nat->Nat
 |[],g=>g
 |y::r,g=>sumL r (g+y.length)
theorem KS{α : Type}:∀(ls:List (List α))(g m:Nat),(∀y∈ls,y.length<=m)->sumL ls g<=g+ls.length*m
 |[],g,m,_=>by simp[sumL]
 |y::r,g,m,h=>by
  have h1:=KS r (g+y.length) m (λz hz=>h z (xC _ hz))
  have h2:=h y (vB ..)
  simp only[sumL,zA,Nat.add_mul,Nat.one_mul];omega
theorem Ew{α : Type}:∀(ls:List (List α))(g:Nat),sumL ls g=g+ls.flatten.length
 |[],g=>by simp[sumL]
 |y::r,g=>by rw[sumL,Ew r];simp;omega
theorem II{l r:List α}{y:α}(h:l.drop i=y::r):y∈l:=List.mem_of_mem_drop (h▸vB .. : y∈l.drop i)
theorem JZ{ls r:List (List α)}{y:List α}(h:ls.drop i=y::r):(ls.take i).flatten.length+y.length<=ls.flatten.length:=by
 have:=congrArg (λl=>(List.flatten l).length) (List.take_append_drop i ls)
 grind
theorem u64w(h:m<=9223372036854775807):kB .u64 (m:Int)=m:=by grind [kB,IntKind.signed,Yz]
theorem i64w(h:m<=9223372036854775807):kB .i64 (m:Int)=m:=by
 have:=lv (z:=(m:Int)) ob
 injection this
def Nu(x:List Int)(h:HF)(vs:List Value):Prop:=∃b c,vs=[.slice b x.length c]/\SlC jB h b c x
theorem wrapU(h:m<=9223372036854775807):kB .u64 (m:Int)=m:=by grind [kB,IntKind.signed,Yz]
def FnC(h:HF)(v:Value)(f:List Int->Bool):Prop:=(∃fn fi ca,v=.func fn fi ca)/\∀(h':HF)(w:List Int)(wb:Option Addr)(wc:Nat),h.le h'->SlC jB h' wb wc w->w.length<=1000000->qX prog v [.slice wb w.length wc] h' [] (.bool (f w))
theorem FnC.mono{h':HF}{f:List Int->Bool}(a:FnC h v f)(hl:h.le h'):FnC h' v f:=⟨a.1,λh2 w wb wc l=>a.2 h2 w wb wc (vA hl l)⟩
def rpFn:Rp (List Int->Bool):=⟨1,λh cs f=>∃v,cs=[v]/\FnC h v f⟩
theorem Ka:rpFn.Good:=⟨λ_ _ _ _ hl⟨v,a,b⟩=>⟨v,a,b.mono hl⟩,λ_ _ _⟨v,a,b⟩=>by obtain⟨_,_,_,rfl⟩:=b.1;subst a;rfl,Nat.one_pos⟩
instance:RpG rpFn:=⟨Ka⟩
def QOk(h:HF)(v:Value)(q:QP)(e:Int):Prop:=∃(fb:Option Addr)(fc:Nat)(nb:Option Addr)(nc:Nat)(ob:Option Addr)(oc:Nat)(dv:Value),v=.tuple #[.agg #[.bool q.closed,.slice fb q.free.length fc,.slice nb q.needs.length nc,.slice ob q.over.length oc,dv],I e]/\one dv=true /\
 SlC jB h fb fc q.free/\SlC jB h nb nc q.needs/\SlC jB h ob oc q.over/\(e=0->FnC h dv q.decides)
theorem nthMem{L:LH}{p:Nat×Obj}(h:nth L i=some p):p∈L:=by rw[i9]at h;exact List.mem_of_getElem? h
def MOk(h:HF)(v:Value)(M:List Lack×Bool×Int):Prop:=∃(lb:Option Addr)(lc:Nat),v=.tuple #[.slice lb M.1.length lc,.bool M.2.1,I M.2.2]/\SlC Lack.rp h lb lc M.1
def FnI(h:HF)(v:Value)(f:Int->Bool):Prop:=(∃fn fi ca,v=.func fn fi ca)/\∀(h':HF)(n:Int),h.le h'->qX prog v [I n] h' [] (.bool (f n))
theorem FnI.mono{h':HF}{f:Int->Bool}(a:FnI h v f)(hl:h.le h'):FnI h' v f:=⟨a.1,λh2 n l=>a.2 h2 n (vA hl l)⟩
theorem NP{κ α : Type}{enc:κ->Value}{V:HF->Value->α->Prop}{h:HF}:∀{es:List MapEntry}{m:List (κ×α)}{i:Nat}{en:MapEntry},rP enc V h es m->es[i]? = some en->∃p,m[i]? = some p/\en.key=enc p.1/\V h en.val p.2
 |e::es,(k,v)::m,0,en,hE,hi=>by simp at hi;subst hi;exact⟨(k,v),rfl,hE.1,hE.2.1⟩
 |e::es,(k,v)::m,i+1,en,hE,hi=>NP (m:=m) hE.2.2 (by simpa using hi)
 |[],[],i,en,_,hi=>by simp at hi
 |_::_,[],i,en,hE,_=>hE.elim
 |[],_::_,i,en,hE,_=>hE.elim
theorem BK(h:HF)(s:List Int)(pS:Option Addr)(pK:Nat)(hs:SlC jB h pS pK s)(hsz:s.length<=2000000):Rd prog 43 [.slice pS s.length pK] h jB 3 s:=by
 intro w hp
 by_cases hne:s=[]
 .subst hne
  cases pS with
  |none=>
   refine(j7 (Tryz.slices_Clone_int_nil 0 pK w) (λw' hw=>by cases hw.1)).mono ?_
   rintro e w' ⟨rfl,rfl⟩
   exact⟨h,[],W8 hp,rfl,none,0,rfl,cN.nil⟩
  |some a=>
   refine(j7 (Tryz.slices_Clone_int_zero a pK w) (λw' hw=>by obtain⟨_,e,_⟩:=hw;cases e)).mono ?_
   rintro e w' ⟨v,rfl,ho,_,hb⟩
   exact Kl (xs:=[]) hp hb ho
 .obtain⟨g,off,rfl,hc⟩:=P0 hs.1 hne
  refine(j7 (Tryz.slices_Clone_int g off s.length pK s w (kE _) (by omega) (hc w hp)) (λw' hw=>by obtain⟨_,e,_⟩:=hw;cases e)).mono ?_
  grind [Kl]
end
end Go.Sg
