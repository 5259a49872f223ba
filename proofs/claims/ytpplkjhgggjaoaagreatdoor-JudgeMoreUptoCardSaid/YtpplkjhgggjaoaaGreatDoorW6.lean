import Derived.Test.YtpplkjhgggjaoaaGreatDoorW5
/- A part of the proof of JudgeMore. -/
set_option linter.unusedVariables false
set_option linter.unusedSimpArgs false
set_option maxRecDepth 100000
open List renaming length_cons→xA,length_append→jA,not_mem_nil→kA,mem_cons_of_mem→xB,mem_cons_self→jB,length_nil→vB,toArray→kB,mem_cons→qC,mem_singleton→xC,append_assoc→kC,mem_of_getElem?→zE,getElem?_eq_getElem→qF,mem_append→kF,nil_append→xG,range→qH,map_cons→kH,perm_append_comm→kJ,getElem?_eq_none→vL,mem_append_right→qN,mem_map_of_mem→qQ,nodup_cons→xR,mem_append_left→qV,getElem?_map→R9,map_append→Su,nodup_append→SJ,nodup_nil→SK
open Go.Sg.Approval renaming cells→vA,rp→kG,aj→zH,mk→qW
open Go.Sg.Rp renaming int→zC,aM→xH,bool→S2,iD→TN
open Go.IntKind renaming wrap→jC
open Go.Value renaming int→zD
open Bool renaming or_eq_true→xD
open Go.Sg.Interest renaming cells→vD,rp→jN,aj→Ss,mk→SD
open Go.Sg.Appoint renaming mk→kD,rp→vH,aj→xQ,cells→jR
open Go.Sg.Policy renaming cells→xE,mk→kN,ok→vP
open Go.Sg.OSeat renaming cells→vE,enc→Sk,mk→Tj,rp→Uj
open Go.Sg.SlC renaming nil→kE
open Go.Sg.HF renaming le_trans→vF,le_refl→xM,le→xN
open Nat renaming le_refl→jG,lt_or_ge→jL,zero_le→qM,le_trans→vT
open Go.Sg.Expr renaming mk→vG
open Go.Deferred renaming ofValue→xJ
open Go.Obj renaming cells→jJ
open Go.Sg.Version renaming aj→zN,rp→jQ,cells→Sz,mk→S0,ok→Uc
open Go.Sg.Register renaming cells→vN
open Go.Sg.Deputy renaming cells→zP,aj→xT,rp→Sq,mk→Td
open Array renaming ext'→Sd

namespace Go.Sg
variable {h:HF}{q:Approval->Bool}{y:Approval}
section
open Go.Proofs Go.Proofs.Tryz
set_option maxHeartbeats 2000000
theorem rA(h:HF)(s:List Approval)(sI:Option Addr)(sH:Nat)(f:(Approval->Bool))(f_v:Value)(hs:SlC kG h sI sH s)(hf:∀(h':HF)(dC:Approval),xN h h'->tv prog f_v [.agg (vA dC).toArray] h' [] (.bool (f dC))):Ret prog 197 [.slice sI s.length sH,f_v] h (I (cK s f)):=by
 refine sT func197 U ntmps197 U λX hM hX hF=>?_
 have hs0:=@rfl _ (cK s f)
 refine qK 11 [] U ?_
 refine lp0 s (λi=>[(0,.slice sI s.length sH),(1,f_v),(7,I (s.length:Int)),(8,I (i:Int))]) ([]) (λs1 i=>(cK.L1 f (cK.K1)) s1 i) hs.1.1 hs0 ?_ ?_
 .rintro i1 fm hs1 e
  exact sr (an (nretP [I (-1)] (ci hs1)))
 rintro i1 y1 rz1 hd1 df aS ek gu hs3 hx1 ag1 e
 refine sr (tO df U (qO 16 U (aA (iF vA md ty81 hs.1 aS U U U (λq2 A2=>dt ty81 A2 U U (aA (lA (v:=.bool (f y1)) [] (List.nil_sublist _) (hf h y1 lf) U U (aF (ae hs3 U (λc2 hs4=>?_) (λc2 hs5=>?_))))))))))
 .exact sr (qO 3 U (nretP [I (i1:Int)] (ci hs4)))
 exact aI (qT 2 U (oi i1 U (qO 2 U (ag1 hs5))))
theorem ql(x:Approval):(vA x).length=8:=rfl
theorem zh(f:Approval->Bool):∀(l:List Approval)(i:Nat),(cK.L1 f cK.K1 l i=-1/\∀x∈l,f x=false) \/
  ∃a y b,l=a++y::b/\cK.L1 f cK.K1 l i=((i+a.length:Nat):Int)/\f y=true/\∀x∈a,f x=false
 |[],i=>.inl ⟨rfl,λ_ h=>(kA h).elim⟩
 |y::l,i=>by
  simp only[cK.L1]
  cases hy:f y with
  |true=>exact .inr ⟨[],y,l,rfl,by simp,hy,λ_ h=>(kA h).elim⟩
  |false=>
   rcases zh f l (i+1)with⟨h1,h2⟩|⟨a,z,b,rfl,h2,h3,h4⟩
   .exact .inl ⟨h1,λx hx=>by rcases qC.1 hx with rfl|hx;exact hy;exact h2 x hx⟩
   refine .inr ⟨y::a,z,b,rfl,?_,h3,λx hx=>by rcases qC.1 hx with rfl|hx;exact hy;exact h4 x hx⟩
   rw[cond_false,h2];simp only[xA];congr 1;omega
theorem BN{l:List Approval}(h:∀x∈l,q x=false):(l.filter λx=>!(q x))=l:=by
 rw[List.filter_eq_self];intro x hx;simp[h x hx]
theorem Nl{s zs:List Approval}{i j:Nat}(hij:i<j)(hz:zs.length=s.length)(hj:s[j]? = some y)(ht:zs.take i=(s.take j).filter λx=>!(q x))(hd:zs.drop j=s.drop j)(hy:q y=false):
  (zs.set i y).take (i+1)=((s.take (j+1)).filter λx=>!(q x))/\(zs.set i y).drop (j+1)=s.drop (j+1):=by
 have hjl:j<s.length:=by
  rcases jL j s.length with h|h
  .exact h
  simp[vL h]at hj
 constructor
 .rw[List.take_add_one,List.take_set_of_le (jG _),ht,List.take_add_one,hj,List.filter_append]
  simp[hy,show i<zs.length from by omega]
 rw[List.drop_set_of_lt ob,←List.drop_drop,hd,List.drop_drop]
theorem Nk{s zs:List Approval}{i j:Nat}(hj:s[j]? = some y)(ht:zs.take i=(s.take j).filter λx=>!(q x))(hd:zs.drop j=s.drop j)(hy:q y=true):
  zs.take i=((s.take (j+1)).filter λx=>!(q x))/\zs.drop (j+1)=s.drop (j+1):=by
 constructor
 .rw[List.take_add_one,hj,List.filter_append,ht];simp[hy]
 rw[←List.drop_drop,hd,List.drop_drop]
theorem BO{xs:List Approval}{bk c:Nat}{sp:List Value}(h3:(xs.flatMap vA++sp).length=c*8)(h4:xs.length<=c)(h5:xs.length<=9223372036854775807):du kG 81 h xs (some ⟨bk,0,none⟩) c [(bk,.cells (xs.flatMap vA++sp).toArray 81 (0,0))]:=
 .inr ⟨bk,_,sp,rfl,An (λ_ _=>rfl) ql h xs,h3,h4,h5,rfl⟩
theorem qo(h:HF)(s:List Approval)(b:Option Addr)(c:Nat)(G:LH)(del:Approval->Bool)(del_v:Value)(hG:du kG 81 h s b c G)(hdel:∀(h':HF)(dC:Approval),xN h h'->tv prog del_v [.agg (vA dC).toArray] h' [] (.bool (del dC)))(hsz:s.length<=2000000):
  nu prog 104 [.slice b s.length c,del_v].toArray h G (λr h' G'=>h'=h/\r=.returned (.slice b (e9 s del).length c)/\du kG 81 h (e9 s del) b c G'):=by
 refine cB func104 U ntmps104 U λX hM hX=>qT 8 U (aA (Et [] G [] call197 zH hG (by simp) (λh1 hle hsl=>rA h1 s b c del del_v hsl (λh' a hl=>hdel h' a (hle.t hl))) U (qO 6 U ?_)))
 have hcase:=zh del s 0
 rw[show cK.L1 del cK.K1 s 0=cK s del from rfl]at hcase
 rcases hcase with⟨h1,h2⟩|⟨a,y,r,hs,h1,hy,ha⟩
 .rw[h1]
  refine io (v':=.bool true) U U (qO 7 U ?_)
  have hf:e9 s del=s:=BN h2
  refine mN func104 (λa ha w hw=>res1 U a ha w) (λw hw=>hw.lower) ⟨hX,?_,?_⟩
  .rw[hf];rfl
  rw[hf];exact hG
 rw[h1,Nat.zero_add]
 have hne:((a.length:Int)==-1)=false:=by simp
 have hsl:s.length=a.length+(r.length+1):=by rw[hs];simp
 refine fO hne U (qO 7 U (io (v':=I ((a.length+1:Nat):Int)) U (xZ ob) (an ?_)))
 refine ir (ι:=Nat×List Approval×LH) (λi=>[(0,.slice b s.length c),(1,del_v),(5,I (i.1:Int))]) (λi=>h) (λi=>i.2.2)
  (λi=>i.1<s.length/\i.2.1.length=s.length/\i.2.1.take i.1=e9 s del/\du kG 81 h i.2.1 b c i.2.2) ?_ (λhx=>?_)
 .rintro⟨i,zs,G'⟩ ⟨hi,hz,hf,hG'⟩ e
  dsimp only at hi hz hf hG'
  rcases hG' with⟨rfl,_⟩|⟨bk,cl,sp,rfl,hcl,h3,h4,h5,rfl⟩
  .simp at hz;omega
  have hcl':=tb (C:=vA) (λ_ _ _ e=>e) hcl
  subst hcl'
  have hcz:zs.length<=c:=h4
  have hzl:=ns ql zs
  have h3':zs.length*8+sp.length=c*8:=by rw[←hzl,←jA];exact h3
  have hzn:(i:Int).toNat=i:=by omega
  have hgf:du kG 81 h zs (some ⟨bk,0,none⟩) c [(bk,.cells (zs.flatMap vA++sp).toArray 81 (0,0))]:=BO h3 h4 h5
  obtain⟨m,hm⟩:∃m,s.length-i=m+1:=⟨s.length-i-1,by omega⟩
  refine qT 4 U (aA (eT (v:=.slice (some ⟨bk,i*8,none⟩) (m+1) (c-i)) (nf md ty81 U U ob ob hm) (aA (MM (P:=prog) 0 (sz:=8) (zs:=[I 0,I 0,I 0,I 0,I 0,I 0,I 0,.bool false]) (bk:=bk) (cl:=zs.flatMap vA++sp) (cc:=c-i) md (eX zv81) U U (by decide) (by decide) U U (off:=i*8) (m:=m) (by rw[jA,hzl];omega) (λvs hvl=>?_)))))
  have hsp:∃sp',splice (zs.flatMap vA++sp) (i*8) vs=(zs.take i).flatMap vA++sp':=by
   have e1:zs.flatMap vA++sp=(zs.take i).flatMap vA++((zs.drop i).flatMap vA++sp):=by
    rw[←kC,←List.flatMap_append,List.take_append_drop]
   rw[e1]
   have e2:i*8=((zs.take i).flatMap vA).length:=by rw[ns ql,List.length_take];congr 1;omega
   have:=oB vs ((zs.take i).flatMap vA) ((zs.drop i).flatMap vA++sp) (by rw[jA,ns ql,List.length_drop,hvl];omega)
   rw[←e2]at this
   exact⟨_,this⟩
  obtain⟨sp',hsp⟩:=hsp
  have hlen:((zs.take i).flatMap vA++sp').length=c*8:=by
   rw[←hsp,nV];exact h3
  show TO _ _ _ _ _ _ _ _ _ _ h [(bk,.cells (splice (zs.flatMap vA++sp) (i*8) vs).toArray 81 (0,0))]
  rw[hsp]
  have hg2:du kG 81 h (zs.take i) (some ⟨bk,0,none⟩) c [(bk,.cells ((zs.take i).flatMap vA++sp').toArray 81 (0,0))]:=
   BO hlen (by rw[List.length_take];omega) (by rw[List.length_take];omega)
  refine qO 5 U (aA (Jc (z:=(i:Int)) md ty81 hgf ob (by show _=Value.slice _ _ _;rw[hz];rfl) U U (an ?_)))
  refine mN func104 (λa ha w hw=>res1 U a ha w) (λw hw=>hw.lower) ⟨hX,?_,?_⟩
  .rw[←hf,hzn];rfl
  rw[←hf];exact hg2
 refine jZ (ι:=Nat×Nat×List Approval×LH) (λi=>[(0,.slice b s.length c),(1,del_v),(5,I (i.1:Int)),(6,I (i.2.1:Int))]) (λi=>h) (λi=>i.2.2.2)
  (λi=>i.1<i.2.1/\i.2.1<=s.length/\i.2.2.1.length=s.length/\i.2.2.1.take i.1=((s.take i.2.1).filter λx=>!(del x))/\i.2.2.1.drop i.2.1=s.drop i.2.1/\du kG 81 h i.2.2.1 b c i.2.2.2)
  (λi=>s.length-i.2.1) (a.length,a.length+1,s,G) rd (λw hw=>hw) ⟨Nat.lt_succ_self _,by show a.length+1<=s.length;omega,rfl,?_,rfl,hG⟩ ?_
 .show s.take a.length=((s.take (a.length+1)).filter λx=>!(del x))
  rw[hs,List.take_left' rfl,List.take_add_one,List.take_left' rfl,List.filter_append,BN ha];simp[hy]
 rintro⟨i,j,zs,G'⟩ ⟨hij,hjl,hz,ht,hd,hG'⟩ ag e
 dsimp only at hij hjl hz ht hd hG'
 rcases jL j s.length with hj|hj
 .have hjs:s[j]? = some s[j]:=qF hj
  have hjz:zs[j]? = some s[j]:=by
   have e1:(zs.drop j)[0]? = (s.drop j)[0]?:=by rw[hd]
   simpa[hjs]using e1
  have hiz:zs[i]? = some zs[i]:=qF ob
  rcases hG' with⟨rfl,_⟩|⟨bk,cl,sp,rfl,hcl,h3,h4,h5,rfl⟩
  .simp at hz;omega
  have hcl':=tb (C:=vA) (λ_ _ _ e=>e) hcl
  subst hcl'
  refine qK 6 [] U (tO (decide_eq_true ob) U (qO 9 U (aA (eT (oq (R:=kG) (xs:=zs) (z:=(j:Int)) md ty81 U ob U hz.symm U) (aA (eT (jg (off:=j*8) (cs:=vA s[j]) ty81 U (xC.2 U) (Pe ql hjz)) (aT zc81 (λb7=>aO 0 ty81 U U U U U U (qO 4 U (cM 0 ty81 U U U (aA (lA (v:=.bool (del s[j])) [] (List.nil_sublist _) (hdel h s[j] lf) U U ?_))))))))))))
  cases hy:del s[j]with
  |true=>
   obtain⟨k1,k2⟩:=Nk hjs ht hd hy
   exact mU U (qO 6 U (oi j U (an (bo (L':=[(bk,.cells (zs.flatMap vA++sp).toArray 81 (0,0))]) js (ag (i,j+1,zs,[(bk,.cells (zs.flatMap vA++sp).toArray 81 (0,0))]) _ (by show s.length-(j+1)<s.length-j;omega) ⟨by show i<j+1;omega,hj,hz,k1,k2,BO h3 h4 h5⟩ rd)))))
  |false=>
   obtain⟨k1,k2⟩:=Nl hij hz hjs ht hd hy
   refine qO 7 U (cM 0 ty81 U U U (aA (eT (oq (R:=kG) (xs:=zs) (z:=(i:Int)) md ty81 U ob U hz.symm U) (aA (kt 1 (off:=i*8) (vs:=vA s[j]) ty81 U U U U (by rw[jA,ns ql,ql];exact Nat.ble_eq_true_of_le ob) U ?_)))))
   have hsl2:setNth [(b7,O (vA s[j]) 81),(bk,.cells (zs.flatMap vA++sp).toArray 81 (0,0))] 1 (bk,.cells (splice (zs.flatMap vA++sp) (i*8) (vA s[j])).toArray 81 (0,0))=[(b7,O (vA s[j]) 81),(bk,.cells ((zs.set i s[j]).flatMap vA++sp).toArray 81 (0,0))]:=by
    rw[I1 ql hiz];rfl
   refine im hsl2 (qO 3 U (oi i U (qO 5 U (oi j U (an (bo (L':=[(bk,.cells ((zs.set i s[j]).flatMap vA++sp).toArray 81 (0,0))]) js ?_))))))
   have hzl2:(zs.set i s[j]).length=s.length:=by rw[List.length_set];exact hz
   exact ag (i+1,j+1,zs.set i s[j],[(bk,.cells ((zs.set i s[j]).flatMap vA++sp).toArray 81 (0,0))]) _ (by show s.length-(j+1)<s.length-j;omega) ⟨by show i+1<j+1;omega,hj,hzl2,k1,k2,BO (by rw[jA,ns ql,List.length_set,←ns ql,←jA];exact h3) (by rw[List.length_set];exact h4) (by rw[List.length_set];exact h5)⟩ rd
 have hje:j=s.length:=by omega
 subst hje
 exact qK 6 [] U (fO (decide_eq_false ob) U (qO 3 U (hx (i,zs,G') _ ⟨hij,hz,by show zs.take i=_;rw[ht,List.take_length];rfl,hG'⟩ rd)))
theorem uQ(h:HF)(v0:List Approval)(ud:Option Addr)(ua:Nat)(v0_q:Addr)(v1:Int)(v1_q:Addr)(v2:Int)(v2_q:Addr)(v3:Int)(v3_q:Addr)(hv0:SlC kG h ud ua v0)(av0:At h v0_q [.slice ud v0.length ua])(av1:At h v1_q [I v1])(av2:At h v2_q [I v2])(av3:At h v3_q [I v3]):Itr prog (.func (.func 288) #[] (kB [.pointer (some v0_q),.pointer (some v1_q),.pointer (some v2_q),.pointer (some v3_q)])) pf (bx v0 v1 v2 v3) h:=by
 refine sR call288 ?_
 intro yf ya yb C Sp Pn h1 A hle m1 m2 m3 hC hy
 refine jb NI U ntmps288 U λX hXM hX=>?_
 have hs0:bx v0 v1 v2 v3=[]++bx v0 v1 v2 v3:=rfl
 refine sr (dj ty28 (av0.mono hle) U (qL 3 [] U ?_))
 refine lp2 v0 (λi w=>[(0,.func yf ya yb),(2,.pointer (some v1_q)),(3,.pointer (some v2_q)),(4,.pointer (some v3_q)),(8,.slice ud v0.length ua),(9,I (v0.length:Int)),(10,I (i:Int))]) (λw=>w.2.2) (λw=>w.2.1) (λi w=>C w.1 w.2.2 w.2.1/\xN h1 w.2.2) (λs1 i w=>w.1++(bx.L1 v1 v2 v3 (bx.K1)) s1) ([],A,h1) ((hv0.mono zH hle).1.1) hs0 ⟨hC,lf⟩ ?_ ?_
 .rintro i1 ⟨dn1,A1_,hh1⟩ fm hs1 ⟨hC1_,hl1⟩ e
  refine ef ?_
  have hs2:bx v0 v1 v2 v3=dn1:=hs1.trans (List.append_nil _)
  exact sS [] (A:=A1_) NI U (List.Sublist.refl _) (.inl (hs2▸hC1_))
 rintro i1 ⟨dn1,A1_,hh1⟩ y1 rz1 hd1 df aS ek gu hs3 ⟨hC1_,hl1⟩ hx1 ag1 e
 refine sr (tO df U (qO 8 U (aA (iF vA md ty81 (hv0.mono zH (hle.t hl1)).1 aS U U U (λq2 A2=>dt ty81 A2 U U (aT zc81 (λb2=>aO 0 ty81 U U U U U U (im (L':=[(b2,O (vA y1) 81)]++(A1_)) U (qL 5 [0] U (dj ty3 (av1.mono (hle.t hl1)) U (qO 2 U (bp 5 [18,19,20,21,22,23] 18 23 (decide (y1.At<=v2)) U (λc1 hk1=>?_) (λe=>?_)))))))))))))
 .exact qL 2 [0] U (dj ty3 (av2.mono (hle.t hl1)) U (qO 2 U (hk1 _ U)))
 refine av (bp 5 [24,25,26,27,28,29] 24 29 (decide (y1.Known<=v3)) U (λc2 hk2=>?_) (λe=>?_))
 .exact qL 2 [0] U (dj ty3 (av3.mono (hle.t hl1)) U (qO 2 U (hk2 _ U)))
 refine av (uz 30 U (λc3=>?_) (λc3=>?_))
 .have hs4:=hs3.trans (congrArg (dn1++·) (bt c3))
  refine av (cM 0 ty81 U U U ?_)
  have hx1:bx v0 v1 v2 v3=dn1++(y1::(bx.L1 v1 v2 v3 (bx.K1) rz1)):=hs4
  refine aA (kp ([(b2,O (vA y1) 81)]) A1_ ap (hy dn1 y1 _ _ _ _ hx1 hl1 hC1_ U) U U (λh2 A3 hle1 hC1=>?_) (λh3 A4 hle2 hS1=>?_) (λch1 h4 A5 hle3 hP1 e=>gy (mP [] (A:=A5) NI (List.sublist_append_right _ _) hP1)))
  .have hs5:bx v0 v1 v2 v3=(dn1++[y1])++((bx.L1 v1 v2 v3 (bx.K1) rz1)):=hx1.trans ap
   exact mU U (qO 6 U (oi i1 U (qO 2 U (bo (L':=A3) js (ag1 ((dn1++[y1]),A3,h2) hs5 ⟨hC1,(hl1.t hle1)⟩)))))
  exact mU U (qO 3 U (ef (mE [] (A:=A4) NI U js (.inr hS1))))
 have hs6:=hs3.trans (congrArg (dn1++·) (bf c3))
 exact kq (qO 8 U (oi i1 U (qO 2 U (bo (L':=A1_) js (ag1 (dn1,A1_,hh1) hs6 ⟨hC1_,hl1⟩)))))
theorem pO(h:HF)(l:List Approval)(ep:Option Addr)(eo:Nat)(doc:Int)(ba:Int)(known:Int)(hl:SlC kG h ep eo l):ju prog 198 [.slice ep l.length eo,I doc,I ba,I known] h (λv h'=>∃(rv0:Value),v=rv0/\Itr prog rv0 pf (eC l doc ba known) h'):=by
 refine sT func198 U ntmps198 U λX hM hX hF=>?_
 have hs0:=@rfl _ (eC l doc ba known)
 refine sr (cv (λb1=>cv (λb2=>cv (λb3=>cv (λb4=>qO 4 U (aQ 3 U hM (λh1 hle1 hb1=>aQ 2 U hM (λh2 hle2 hb2=>aQ 1 U hM (λh3 hle3 hb3=>aQ 0 U hM (λh4 hle4 hb4=>aA (eA U U (an ?_))))))))))))
 have hs1:eC l doc ba known=(bx l doc ba known):=hs0
 exact nretH [.func (.func 288) #[] #[Q b1,Q b2,Q b3,Q b4]] (hs1▸⟨(.func (.func 288) #[] #[Q b1,Q b2,Q b3,Q b4]),U,(uQ h4 l ep eo ⟨b1,0,none⟩ doc ⟨b2,0,none⟩ ba ⟨b3,0,none⟩ known ⟨b4,0,none⟩ (hl.mono zH (((hle1.t hle2).t hle3).t hle4)) ((cx hb1).mono ((hle2.t hle3).t hle4)) ((cx hb2).mono (hle3.t hle4)) ((cx hb3).mono hle4) (cx hb4))⟩)
theorem py(l:List Approval)(doc ba known:Int):(eC l doc ba known).length<=l.length:=by
 show(bx.L1 doc ba known bx.K1 l).length<=l.length
 induction l with
 |nil=>exact jG _
 |cons y l ih=>simp only[bx.L1,Bool.cond_eq_ite];split<;>simp only[xA]<;>omega
theorem iO(h:HF)(x:Approval)  : Ret prog 199 [.agg (vA x).toArray] h (.agg (eu.cells (aE x)).toArray):=by
 refine cB func199 U ntmps199 U λX hM hX=>?_
 have hs0:=@rfl _ (aE x)
 refine sr (cv (λb1=>aT zc274 (λb2=>qL 11 [1,1,1,1] U (aA (fI (cells:=[I x.Doc,I x.By,I x.For,I x.Office]) (places:=[(0,1),(1,1),(2,1),(3,1)]) NS zc274 kr kr (aO 0 ty274 U U U U U U (aF ?_)))))))
 have hs1:aE x=(eu.mk x.Doc x.By x.For x.Office):=hs0
 exact tx [.agg (kB [I x.Doc,I x.By,I x.For,I x.Office])] func199 U hX ⟨⟨0,_,_,_,_,U,U,.inl ⟨ty274,U⟩⟩,trivial⟩ (congrArg (λr:eu=>(.agg (eu.cells r).toArray:Value)) hs1.symm)
theorem wE(h:HF)(l:List Approval)(ep:Option Addr)(eo:Nat)(doc:Int)(ba:Int)(known:Int)(hl:SlC kG h ep eo l)(hsz:l.length<=2000000):Rx prog 105 [.slice ep l.length eo,I doc,I ba,I known] h kG 81 (aB l doc ba known):=by
 refine cB NH U ntmps105 U λX hM hX=>?_
 have hs0:=@rfl _ (aB l doc ba known)
 refine sr (aT zc28 (λb1=>qO 3 U (aA (nw (λb2=>aT zc270 (λb3=>cJ 0 ty270 U U U U U U (qO 8 U (aA (cR call198 (pO _ _ _ _ doc ba known hl) U (λv1 h1 hle1 hp1=>?_))))))))))
 obtain⟨_,rfl,mo1⟩:=hp1
 refine qO 2 U (ef ?_)
 let z1:Nat×Obj:=(b3,O [.map (some b2)] 270)
 let z2:Nat×Obj:=(b1,O [.slice none 0 0] 28)
 refine cg (L':=([z1,(b2,.map #[] 0),z2])++markB []) ap ?_
 refine jw (it:=v1) (xs:=(eC l doc ba known)) (ι:=(List (eu×Approval))×Obj×HF) [] (λi=>i.2.2) (λi=>[z1,(b2,i.2.1),z2]) (λs i=>aB l doc ba known=((aB.L1 (aB.K1 l doc ba known)) s i.1)/\i9 eu.enc (iP kG) i.2.2 i.2.1 i.1/\xN h1 i.2.2) (λ_=>False) (λ_=>False) 0 (λ_ _ _=>False) ([],.map #[] 0,h1) NH U mo1 U pV (λ_ _ _ _ _ hq=>hq) U (show[z1,(b2,.map #[] 0),z2]=_ from U) ⟨hs0,((i9.nil (enc:=eu.enc) (V:=(iP kG)) (h:=h)).mono (iP.mono zH) hle1),lf⟩ ?_ ?_ ?_ ?_ ?_
 .rintro l1 dm1 lp1 y1 rz1 vs1 ⟨bL,dO,hh1⟩ hr1 X hFR1 ⟨hs1,gp,hl1⟩ hl01 hlr1 hv1 hX hXM hlp1 nx1 rt1 ex1 pn1
  obtain rfl:=hv1
  let z6:Nat×Obj:=(dm1,.deferred (some []))
  refine cg (L':=[(l1,.loop lp1),z6,z1,(b2,dO),z2]++(markB [])) ap (bC (aT zc81 (λb6=>aO 0 ty81 U U U U U U (aF (ji 1 U hlp1 (qT 2 U ?_))))))
  let z3:Nat×Obj:=(l1,.loop { lp1 with state:=.busy })
  let z7:Nat×Obj:=(b6,O (vA y1) 81)
  refine er ([z7,z3,z6,z1,(b2,dO),z2]) mixed kr jn (λdY _=>?_)
  refine tf 0 U U (rj 3 ty270 U U U) (tf 1 U U (λ_ _ hj=>jg ty81 U (hj.nth (i:=0) U) U) ?_)
  refine m6 2 7 kr U U ?_ ?_ 
  .refine eZ IR (iO hr1 y1) U (⟨jn,?_⟩)
   refine m6 3 7 kr U U ?_ ?_ 
   .refine lu 4 (k:=(aE y1)) GP lU U (gp.mono (iP.mono zH) hlr1) (eX zv81) (show(iP kG) _ (.agg (kB [I 0,I 0,I 0,I 0,I 0,I 0,I 0,.bool false])) (qW 0 0 0 0 0 0 0 false)from⟨_,U,U⟩) U U (λv3 hv2=>?_)
    obtain⟨_,rfl,rfl⟩:=hv2
    refine⟨jn,qR 4 3 U (tn 7 U (AS zc81 (λb7=>⟨jn,tn 8 U (sG 0 ty81 U U U U U U (⟨jn,qA [9] U (aJ kr (qT 5 U (bT 6 [30,31,32,33,34,35,36] 30 36 (decide ((mgetD bL (aE y1) (qW 0 0 0 0 0 0 0 false)).At<=y1.At)) U (λc1 hk1=>?_) (λe=>?_))))⟩))⟩)))⟩
    .exact qL 6 [1,0] U (hk1 _ U)
    refine aF (ae hs1 U (λc2 hs2=>?_) (λc2 hs3=>?_))
    .let z11:Nat×Obj:=(b7,O (vA (mgetD bL (aE y1) (qW 0 0 0 0 0 0 0 false))) 81)
     refine er ([z11,z7,z3,z6,z1,z2]) mixed kr jn (λmt _=>?_)
     exact tf 0 U U (rj 4 ty270 U U U) (tf 1 U U (λ_ _ hj=>jg ty81 U (hj.nth (i:=1) U) U) (tf 3 U U (λ_ _ hj=>jg ty81 U (hj.nth (i:=1) U) U) (tn 2 U (eZ IR (iO hr1 y1) U (⟨jn,tn 4 U (j3 5 (k:=(aE y1)) (x:=y1) GP lU U (gp.mono (iP.mono zH) hlr1) U U ⟨_,U,U⟩ (λmo2 hm1=>⟨jn,aJ kr (eS (bo (L':=[z3,z6,z1,(b2,mo2),z2]++(markB [])) js (cg (L':=rdH l1 dm1 lp1 (([z1,(b2,mo2),z2])++markB [])) ap (nx1 ((mput bL (aE y1) y1),mo2,hr1) _ _ ⟨hs2,hm1,(hl1.t hlr1)⟩ lf))))⟩))⟩)))))
    exact aI (eS (bo (L':=[z3,z6,z1,(b2,dO),z2]++(markB [])) js (cg (L':=rdH l1 dm1 lp1 (([z1,(b2,dO),z2])++markB [])) ap (nx1 (bL,dO,hr1) _ _ ⟨hs3,(gp.mono (iP.mono zH) hlr1),(hl1.t hlr1)⟩ lf))))
   refine AS zc81 (λb8=>⟨jn,tn 3 U (lu 5 (k:=(aE y1)) GP lU U (gp.mono (iP.mono zH) hlr1) (eX zv81) (show(iP kG) _ (.agg (kB [I 0,I 0,I 0,I 0,I 0,I 0,I 0,.bool false])) (qW 0 0 0 0 0 0 0 false)from⟨_,U,U⟩) U U (λv4 hv3=>?_))⟩)
   obtain⟨_,rfl,rfl⟩:=hv3
   refine⟨jn,qR 4 3 U (tn 8 U (sG 0 ty81 U U U U U U (⟨jn,qA [9] U (aJ kr (qT 5 U (bT 6 [30,31,32,33,34,35,36] 30 36 (decide ((mgetD bL (aE y1) (qW 0 0 0 0 0 0 0 false)).At<=y1.At)) U (λc3 hk2=>?_) (λe=>?_))))⟩)))⟩
   .exact qL 6 [1,0] U (hk2 _ U)
   refine aF (ae hs1 U (λc4 hs4=>?_) (λc4 hs5=>?_))
   .let z12:Nat×Obj:=(b8,O (vA (mgetD bL (aE y1) (qW 0 0 0 0 0 0 0 false))) 81)
    refine er ([z12,z7,z3,z6,z1,z2]) mixed kr jn (λJZ _=>?_)
    exact tf 0 U U (rj 4 ty270 U U U) (tf 1 U U (λ_ _ hj=>jg ty81 U (hj.nth (i:=1) U) U) (tf 3 U U (λ_ _ hj=>jg ty81 U (hj.nth (i:=1) U) U) (tn 2 U (eZ IR (iO hr1 y1) U (⟨jn,tn 4 U (j3 5 (k:=(aE y1)) (x:=y1) GP lU U (gp.mono (iP.mono zH) hlr1) U U ⟨_,U,U⟩ (λmo3 hm2=>⟨jn,aJ kr (eS (bo (L':=[z3,z6,z1,(b2,mo3),z2]++(markB [])) js (cg (L':=rdH l1 dm1 lp1 (([z1,(b2,mo3),z2])++markB [])) ap (nx1 ((mput bL (aE y1) y1),mo3,hr1) _ _ ⟨hs4,hm2,(hl1.t hlr1)⟩ lf))))⟩))⟩)))))
   exact aI (eS (bo (L':=[z3,z6,z1,(b2,dO),z2]++(markB [])) js (cg (L':=rdH l1 dm1 lp1 (([z1,(b2,dO),z2])++markB [])) ap (nx1 (bL,dO,hr1) _ _ ⟨hs5,(gp.mono (iP.mono zH) hlr1),(hl1.t hlr1)⟩ lf))))
  refine AS zc81 (λb9=>⟨jn,tn 2 U (eZ IR (iO hr1 y1) U (⟨jn,tn 3 U (lu 5 (k:=(aE y1)) GP lU U (gp.mono (iP.mono zH) hlr1) (eX zv81) (show(iP kG) _ (.agg (kB [I 0,I 0,I 0,I 0,I 0,I 0,I 0,.bool false])) (qW 0 0 0 0 0 0 0 false)from⟨_,U,U⟩) U U (λv5 hv4=>?_))⟩))⟩)
  obtain⟨_,rfl,rfl⟩:=hv4
  refine⟨jn,qR 4 3 U (tn 8 U (sG 0 ty81 U U U U U U (⟨jn,qA [9] U (aJ kr (qT 5 U (bT 6 [30,31,32,33,34,35,36] 30 36 (decide ((mgetD bL (aE y1) (qW 0 0 0 0 0 0 0 false)).At<=y1.At)) U (λc5 hk3=>?_) (λe=>?_))))⟩)))⟩
  .exact qL 6 [1,0] U (hk3 _ U)
  refine aF (ae hs1 U (λc6 hs6=>?_) (λc6 hs7=>?_))
  .let z13:Nat×Obj:=(b9,O (vA (mgetD bL (aE y1) (qW 0 0 0 0 0 0 0 false))) 81)
   refine er ([z13,z7,z3,z6,z1,z2]) mixed kr jn (λRQ _=>?_)
   exact tf 0 U U (rj 4 ty270 U U U) (tf 1 U U (λ_ _ hj=>jg ty81 U (hj.nth (i:=1) U) U) (tf 3 U U (λ_ _ hj=>jg ty81 U (hj.nth (i:=1) U) U) (tn 2 U (eZ IR (iO hr1 y1) U (⟨jn,tn 4 U (j3 5 (k:=(aE y1)) (x:=y1) GP lU U (gp.mono (iP.mono zH) hlr1) U U ⟨_,U,U⟩ (λmo4 hm3=>⟨jn,aJ kr (eS (bo (L':=[z3,z6,z1,(b2,mo4),z2]++(markB [])) js (cg (L':=rdH l1 dm1 lp1 (([z1,(b2,mo4),z2])++markB [])) ap (nx1 ((mput bL (aE y1) y1),mo4,hr1) _ _ ⟨hs6,hm3,(hl1.t hlr1)⟩ lf))))⟩))⟩)))))
  exact aI (eS (bo (L':=[z3,z6,z1,(b2,dO),z2]++(markB [])) js (cg (L':=rdH l1 dm1 lp1 (([z1,(b2,dO),z2])++markB [])) ap (nx1 (bL,dO,hr1) _ _ ⟨hs7,(gp.mono (iP.mono zH) hlr1),(hl1.t hlr1)⟩ lf))))
 .rintro dm1 ⟨bL,dO,hh1⟩ hn1 ⟨hs8,gp,hl1⟩ hln1 hl01
  refine cg (L':=[z1,(b2,dO),z2]++(markB (dm1::[]))) ap (qT 8 U (aA (cR call198 (pO _ _ _ _ doc ba known (hl.mono zH ((hle1.t hl1).t hln1))) U (λv6 h2 hle2 hp2=>?_))))
  obtain⟨_,rfl,mo5⟩:=hp2
  refine qO 2 U (cg (L':=([z1,(b2,dO),z2])++markB (dm1::[])) ap ?_)
  refine jw (it:=v6) (xs:=(eC l doc ba known)) (ι:=(List Approval)×Option Addr×Nat×LH×HF) (dm1::[]) (λi=>i.2.2.2.2) (λi=>[z1,(b2,dO),(b1,O [.slice i.2.1 i.1.length i.2.2.1] 28)]++(i.2.2.2.1)) (λs i=>aB l doc ba known=((aB.L2 bL (aB.K2)) s i.1)/\du kG 81 i.2.2.2.2 i.1 i.2.1 i.2.2.1 i.2.2.2.1/\xN h2 i.2.2.2.2/\i.1.length+s.length<=l.length) (λ_=>False) (λ_=>False) 0 (λ_ _ _=>False) ([],none,0,[],h2) NH U mo5 U pV (λ_ _ _ _ _ hq=>hq) U (show[z1,(b2,dO),z2]=_ from U) ⟨hs8,du.nil,lf,(by have hc:=py l doc ba known;simpa using hc)⟩ ?_ ?_ ?_ ?_ ?_
  .rintro l2 dm2 lp2 y2 rz2 vs2 ⟨mX,Bq,Bp,pi,hh2⟩ hr2 X hFR2 ⟨hs9,Bo,hl2,u2_0⟩ hl02 hlr2 hv2 hX hXM hlp2 nx2 rt2 ex2 pn2
   obtain rfl:=hv2
   simp only[xA]at u2_0
   let z4:Nat×Obj:=(b1,O [.slice Bq mX.length Bp] 28)
   let z10:Nat×Obj:=(dm2,.deferred (some []))
   refine cg (L':=[(l2,.loop lp2),z10,z1,(b2,dO),z4]++(pi++(markB (dm1::[])))) ap (bC (aT zc81 (λb11=>aO 0 ty81 U U U U U U (im (L':=[(b11,O (vA y2) 81),(l2,.loop lp2),z10,z1,(b2,dO),z4]++(pi++(markB (dm1::[])))) U (aF (ji 1 U hlp2 (qT 2 U ?_)))))))
   refine oa [(8,Q b1),(13,Q b11),(57,.bool ((!y2.Gone)&&(decide ((mgetD bL (aE y2) (qW 0 0 0 0 0 0 0 false))=y2))))] (λe=>?_) (λhk4=>?_)
   rotate_left
   .refine er ([(b11,O (vA y2) 81),(l2,.loop { lp2 with state:=.busy }),z10,z1,(b2,dO),z4]) mixed kr jn (λRP _=>?_)
    refine qB [0] U (tf 1 U U (rj 0 ty4 U U U) (qA [2,3] U ?_))
    refine dh 50 U (λc7=>?_) (λc7=>?_)
    .refine tf 4 U U (rj 3 ty270 U U U) (tf 5 U U (λ_ _ hj=>jg ty81 U (hj.nth (i:=0) U) U) (tf 8 U U (λ_ _ hj=>jg ty81 U (hj.nth (i:=0) U) U) (tn 6 U (eZ IR (iO hr2 y2) U (⟨jn,tn 7 U (oO 4 (k:=(aE y2)) GP lU U (gp.mono (iP.mono zH) (((hln1.t hle2).t hl2).t hlr2)) (eX zv81) (show(iP kG) _ (.agg (kB [I 0,I 0,I 0,I 0,I 0,I 0,I 0,.bool false])) (qW 0 0 0 0 0 0 0 false)from⟨_,U,U⟩) U U (λv8 hv6=>?_))⟩)))))
     obtain⟨_,rfl,rfl⟩:=hv6
     exact⟨jn,tf 9 U U (λ_ _ _=>L5 (It (mgetD bL (aE y2) (qW 0 0 0 0 0 0 0 false)) y2) eqg81 U U) (qA [10] U (aJ kr (hk4 _ ⟨U,U,(cb (show(decide ((mgetD bL (aE y2) (qW 0 0 0 0 0 0 0 false))=y2))=((!y2.Gone)&&(decide ((mgetD bL (aE y2) (qW 0 0 0 0 0 0 0 false))=y2)))from by rw[c7]<;>rfl)),trivial⟩)))⟩
    exact tk 4 U U (qR 5 6 U (aJ kr (hk4 _ ⟨U,U,(cb (show false=((!y2.Gone)&&(decide ((mgetD bL (aE y2) (qW 0 0 0 0 0 0 0 false))=y2)))from by rw[c7]<;>rfl)),trivial⟩)))
   refine ae hs9 U (λc8 hs10=>?_) (λc8 hs11=>?_)
   .refine qK 2 [5] U (cM 0 ty81 U U U (aA (bE (cells:=[I y2.No,I y2.At,I y2.Known,I y2.Doc,I y2.By,I y2.For,I y2.Office,.bool y2.Gone]) md ty81 zc81 U U kr (λb12=>?_))))
    let z8:Nat×Obj:=(b12,O [I y2.No,I y2.At,I y2.Known,I y2.Doc,I y2.By,I y2.For,I y2.Office,.bool y2.Gone] 81)
    let z9:Nat×Obj:=(l2,.loop { lp2 with state:=.busy })
    let z14:Nat×Obj:=(b11,O (vA y2) 81)
    refine aA (dE Approval.ew ([z8,z14,z9,z10,z1,(b2,dO),z4]) (markB (dm1::[])) (λG=>[z8,z14,z9,z10,z1,(b2,dO),z4]++(markB (dm1::[])++G)) ap (λ_=>ap) md ty81 zc81 U bytes81 (Bo.mono zH hlr2) U U (e8 0 U (cE y2 U U)) lo lo (λob1 oc1 G1 gr1=>ym (si ([z8,z14,z9,z10,z1,(b2,dO),z4]) G1 (markB (dm1::[]))) (cJ 6 ty28 U U U U U U (qO 2 U ?_))))
    let z15:Nat×Obj:=(b1,O [.slice ob1 ((mX++[y2]).length) oc1] 28)
    exact bo (L':=[z9,z10,z1,(b2,dO),z15]++(G1++(markB (dm1::[])))) js (cg (L':=rdH l2 dm2 lp2 (([z1,(b2,dO),z15]++G1)++markB (dm1::[]))) ap (nx2 ((mX++[y2]),ob1,oc1,G1,hr2) _ _ ⟨hs10,gr1,(hl2.t hlr2),(by first|omega|(simp only[jA,xA,vB]at *;omega))⟩ lf))
   exact aI (eS (bo (L':=[(l2,.loop { lp2 with state:=.busy }),z10,z1,(b2,dO),z4]++(pi++(markB (dm1::[])))) js (cg (L':=rdH l2 dm2 lp2 (([z1,(b2,dO),z4]++(pi))++markB (dm1::[]))) ap (nx2 (mX,Bq,Bp,pi,hr2) _ _ ⟨hs11,(Bo.mono zH hlr2),(hl2.t hlr2),(by first|omega|(simp only[jA,xA,vB]at *;omega))⟩ lf))))
  .rintro dm2 ⟨mX,Bq,Bp,pi,hh2⟩ hn2 ⟨hs12,Bo,hl2,u2_0⟩ hln2 hl02
   let z5:Nat×Obj:=(b1,O [.slice Bq mX.length Bp] 28)
   refine cg (L':=[z1,(b2,dO),z5]++(pi++(markB (dm2::(dm1::[]))))) ap (qK 4 [2] U (cJ 2 ty28 U U U U U U (aF ?_)))
   have hs13:aB l doc ba known=mX:=hs12
   exact cg (L':=([z1,(b2,dO),z5]++(pi))++markB (dm2::(dm1::[]))) ap (PB (dm2::(dm1::[])) (A:=[z1,(b2,dO),z5]) (G:=pi) (Q:=[]) NH U hX ap (λh1=>du.flat (λ_ _ _ _ e=>e) (Bo.mono zH hln2)) ⟨⟨2,_,_,_,_,U,U,.inr ⟨_,ty28,U⟩⟩,trivial⟩ hs13)
  .exact xf
  .exact xf
  exact xf
 .exact xf
 .exact xf
 exact xf
theorem vy(l:List Approval)(doc ba known:Int):(aB l doc ba known).length<=l.length:=by
 have h2:∀(g:List (eu×Approval))(s acc:List Approval),(aB.L2 g aB.K2 s acc).length<=acc.length+s.length:=by
  intro g s
  induction s with
  |nil=>intro acc;exact jG _
  |cons y s ih=>
   intro acc
   simp only[aB.L2,Bool.cond_eq_ite]
   split
   .have:=ih (acc++[y]);simp only[jA,xA,vB]at *;omega
   have:=ih acc;simp only[xA];omega
 have h1:∀(s:List Approval)(g:List (eu×Approval)),(aB.L1 (aB.K1 l doc ba known) s g).length<=l.length:=by
  intro s
  induction s with
  |nil=>
   intro g
   have h3:=h2 g (eC l doc ba known) []
   have h4:=py l doc ba known
   show(aB.L2 g aB.K2 (eC l doc ba known) []).length<=l.length
   simp only[vB]at h3;omega
  |cons y s ih=>intro g;simp only[aB.L1,Bool.cond_eq_ite];split<;>exact ih _
 exact h1 _ _
theorem uR(h:HF)(y:Approval)(begun:Int)(begun_q:Addr)(at_:Int)(at__q:Addr)(think:Int)(think_q:Addr)(abegun:At h begun_q [I begun])(aat_:At h at__q [I at_])(athink:At h think_q [I think]):Ret prog 106 [.agg (vA y).toArray,.pointer (some begun_q),.pointer (some at__q),.pointer (some think_q)] h (.bool (iK y begun at_ think)):=by
 refine sT func106 U ntmps106 U λX hM hX hF=>?_
 have hs0:=@rfl _ (iK y begun at_ think)
 refine sr (cv (λb1=>qL 6 [0] U (dj ty3 abegun U (qO 2 U (bT 7 [10,11,12,13,14,15,16,17] 10 17 (decide ((jC .i64 (at_-y.At))<think)) U (λc1 hk1=>?_) (λe=>?_))))))
 .exact dj ty3 aat_ U (qL 3 [0] U (dj ty3 athink U (qO 2 U (hk1 _ U))))
 exact an (nretP [.bool (decide (y.At<begun)||decide ((jC .i64 (at_-y.At))<think))] (cs hs0))
theorem wF(h:HF)(l:List Approval)(ep:Option Addr)(eo:Nat)(doc:Int)(begun:Int)(think:Int)(cD:Int)(known:Int)(hl:SlC kG h ep eo l)(hsz:l.length<=2000000):ju prog 28 [.slice ep l.length eo,I doc,I begun,I think,I cD,I known] h (λv h'=>∃(rb0:Option Addr)(rc0:Nat),v=.tuple #[.slice rb0 ((cm l doc begun think cD known).1).length rc0,I ((cm l doc begun think cD known).2)]/\SlC kG h' rb0 rc0 ((cm l doc begun think cD known).1)):=by
 refine sT func28 U ntmps28 U λX hM hX hF=>?_
 have hs0:=@rfl _ (cm l doc begun think cD known)
 have hst:=vy l doc cD known
 refine sr (cv (λb1=>cv (λb2=>cv (λb3=>qO 7 U (ai call71 (oz _ _ _ _ hl) U (qO 7 U (ae hs0 U (λc1 hs1=>?_) (λc1 hs2=>?_))))))))
 .refine qT 6 U ?_
  have hs3:cm l doc begun think cD known=([],(aX l)):=hs1
  exact nretH [.slice none 0 0,I (aX l)] (hs3▸⟨none,0,U,kE⟩)
 refine qT 5 U (aA (bE (cells:=[I doc]) ec ty3 zc3 U U kr (λb4=>aQ 0 U hM (λh1 hle1 hb1=>?_))))
 have sl1:SlC zC h1 (some ⟨b4,0,none⟩) 1 ([doc]):=bz.slB0 (T:=3) (fz:=(0,0)) ((show bz zC h [I doc] ([doc])from⟨[I doc],[],rfl,rfl,rfl,rfl⟩).mono xH hle1) hb1
 refine ai GR (iT _ 4095 _ _ _ sl1) U (qO 2 U (bT 8 [23,24,25,26,27,28,29,30,31] 23 31 (!(cy 1099511627775 ([begun,think,cD,known]))) U (λc2 hk1=>?_) (λe=>?_)))
 .refine qL 4 [2,1,0] U (aA (bE (cells:=[I begun,I think,I cD,I known]) ec ty3 zc3 U U kr (λb5=>aQ 0 U hM (λh2 hle2 hb2=>?_))))
  have sl2:SlC zC h2 (some ⟨b5,0,none⟩) 4 ([begun,think,cD,known]):=bz.slB0 (T:=3) (fz:=(0,0)) ((show bz zC h1 [I begun,I think,I cD,I known] ([begun,think,cD,known])from⟨[I begun],[I think,I cD,I known],rfl,rfl,rfl,⟨[I think],[I cD,I known],rfl,rfl,rfl,⟨[I cD],[I known],rfl,rfl,rfl,⟨[I known],[],rfl,rfl,rfl,rfl⟩⟩⟩⟩).mono xH hle2) hb2
  exact ai GR (iT _ 1099511627775 _ _ _ sl2) U (qO 2 U (kg (h:=h1) hle2 hX hle1 (hk1 _ U)))
 refine aF (ae hs2 U (λc3 hs4=>?_) (λc3 hs5=>?_))
 .refine qT 5 U ?_
  have hs6:cm l doc begun think cD known=([],1):=hs4
  exact nretH [.slice none 0 0,I 1] (hs6▸⟨none,0,U,kE⟩)
 refine qK 7 [0] U (aA (PN call105 (wE _ _ _ _ doc cD known (hl.mono zH hle1) ob) U (λob1 oc1 G1 gr1=>aQ 2 U hM (λh3 hle3 hb3=>aQ 0 U hM (λh4 hle4 hb4=>aQ 0 U hM (λh5 hle5 hb5=>aA (eA U U (aA (m9 (v:=.slice ob1 (e9 (aB l doc cD known) (λdC=>iK dC begun cD think)).length oc1) ([]) G1 ([]) call104 (qo h5 (aB l doc cD known) ob1 oc1 G1 (λdC=>iK dC begun cD think) (.func (.func 106) #[] #[Q b1,Q b3,Q b2]) (gr1.mono zH ((hle3.t hle4).t hle5)) (λh' dC hle=>iq call106 (uR h' dC begun ⟨b1,0,none⟩ cD ⟨b3,0,none⟩ think ⟨b2,0,none⟩  (((cx hb3).mono (hle4.t hle5)).mono hle) (((cx hb4).mono hle5).mono hle) ((cx hb5).mono hle))) ob) ap U (λG2 gr2=>im (L':=G2) ap (pP zH ([]) G2 ([]) ap hM gr2 (λh6 hle6 sl3=>qO 3 U ?_))))))))))))
 have hs7:cm l doc begun think cD known=((e9 (aB l doc cD known) (λdC=>iK dC begun cD think)),0):=hs5
 exact nretH [.slice ob1 ((e9 (aB l doc cD known) (λdC=>iK dC begun cD think)).length) oc1,I 0] (hs7▸⟨ob1,oc1,U,sl3⟩)
theorem wy(h:HF)(x:Appoint)(v0:Int)(v0_q:Addr)(v1:Int)(v1_q:Addr)(av0:At h v0_q [I v0])(av1:At h v1_q [I v1]):Ret prog 181 [.agg (jR x).toArray,.pointer (some v0_q),.pointer (some v1_q)] h (.tuple #[.agg (vE ((iI x v0 v1).1)).toArray,.bool ((iI x v0 v1).2)]):=by
 refine cB func181 U ntmps181 U λX hM hX=>?_
 have hs0:=@rfl _ (iI x v0 v1)
 refine sr (cv (λb1=>aT zc182 (λb2=>qO 3 U ?_)))
 let z1:Nat×Obj:=(b1,O (jR x) 89)
 refine PD ([(b2,O [I x.Office,I x.Person] 182),z1]) [(4,Q b2),(5,.bool (decide (x.At<=v0)&&decide (x.Known<=v1)))] (λe=>?_) (λhk1=>?_)
 rotate_left
 .refine er ([z1]) mixed kr jn (λdY _=>?_)
  refine qB [0] U (tf 1 U U (rj 0 ty3 U U U) (qB [2] U (tf 3 U U (rj 0 ty3 U U U) (qB [5] U (tf 6 U U (rj 0 ty3 U U U) (tf 7 U U (rh ty3 av0 U) (qA [8,9] U ?_)))))))
  refine dh 15 U (λc1=>?_) (λc1=>?_)
  .have c1p:=of_decide_eq_true c1
   exact tf 10 U U (λ_ _ _=>tL Qb U) (tf 11 U U (rj 0 ty3 U U U) (tf 12 U U (rh ty3 av1 U) (qA [13,14] U (tn 4 U (fI (cells:=[I x.Office,I x.Person]) (places:=[(0,1),(1,1)]) IU zc182 kr kr (⟨jn,(tn 15 U (sG 0 ty182 U U U U U U (⟨jn,(qA [16] U (aJ kr (hk1 _ ⟨U,(cb (show decide (x.Known<=v1)=(decide (x.At<=v0)&&decide (x.Known<=v1))from by rw[c1]<;>rfl)),trivial⟩)))⟩)))⟩))))))
  have c1p:=of_decide_eq_false c1
  exact tk 10 U U (qR 11 4 U (tn 4 U (fI (cells:=[I x.Office,I x.Person]) (places:=[(0,1),(1,1)]) IU zc182 kr kr (⟨jn,(tn 15 U (sG 0 ty182 U U U U U U (⟨jn,(qA [16] U (aJ kr (hk1 _ ⟨U,(cb (show false=(decide (x.At<=v0)&&decide (x.Known<=v1))from by rw[c1]<;>rfl)),trivial⟩)))⟩)))⟩))))
 have hs1:iI x v0 v1=((Tj x.Office x.Person),(decide (x.At<=v0)&&decide (x.Known<=v1))):=hs0
 exact tx [.agg (kB [I x.Office,I x.Person]),.bool (decide (x.At<=v0)&&decide (x.Known<=v1))] func181 U hX ⟨⟨0,_,_,_,_,U,U,.inl ⟨ty182,U⟩⟩,U,trivial⟩ (congrArg (λr:(OSeat×Bool)=>(.tuple #[.agg (vE r.1).toArray,.bool r.2]:Value)) hs1.symm)
theorem uF(h:HF)(l:List Appoint)(ep:Option Addr)(eo:Nat)(key:(Appoint->OSeat×Bool))(key_v:Value)(later:(Appoint->Appoint->Bool))(later_v:Value)(hl:SlC vH h ep eo l)(hkey:∀(h':HF)(dC:Appoint),xN h h'->tv prog key_v [.agg (jR dC).toArray] h' [] (.tuple #[.agg (vE ((key dC).1)).toArray,.bool ((key dC).2)]))(hlater:∀(h':HF)(dC:Appoint)(BP:Appoint),xN h h'->tv prog later_v [.agg (jR dC).toArray,.agg (jR BP).toArray] h' [] (.bool (later dC BP))):ju prog 182 [.slice ep l.length eo,key_v,later_v] h (λv h'=>∃(rk0:Nat),v=.map (some rk0)/\tw Sk (iP vH) h' rk0 (dp l key later)):=by
 refine sT func182 U ntmps182 U λX hM hX hF=>?_
 have hs0:=@rfl _ (dp l key later)
 refine qT 6 U (aA (nw (λb1=>qL 9 [] U ?_)))
 refine lp2 l (λi w=>[(1,key_v),(2,later_v),(7,.map (some b1)),(15,.slice ep l.length eo),(16,I (l.length:Int)),(17,I (i:Int))]) (λ_=>h) (λw=>[(b1,w.2)]) (λi w=>i9 Sk (iP vH) h w.2 w.1/\w.1.length<=0+i) (λs1 i w=>(dp.L1 key later (dp.K1)) s1 w.1) ([],.map #[] 0) hl.1.1 hs0 ⟨(i9.nil (enc:=Sk) (V:=(iP vH)) (h:=h)),lc⟩ ?_ ?_
 .rintro i1 ⟨bu,gZ⟩ fm hs1 ⟨fF,nq⟩ e
  refine qT 5 U (eI 0 U hM (λh1 hle1 hb1=>?_))
  have mc1:tw Sk (iP vH) h1 b1 bu:=⟨_,hb1,fF.mono (iP.mono xQ) hle1⟩
  have hs2:dp l key later=bu:=hs1
  exact nretH [.map (some b1)] (hs2▸⟨b1,U,mc1⟩)
 rintro i1 ⟨bu,gZ⟩ y1 rz1 hd1 df aS ek gu hs3 ⟨fF,nq⟩ hx1 ag1 e
 refine sr (tO df U (qO 8 U (aA (iF jR Eb ty89 hl.1 aS U U U (λq2 A2=>dt ty89 A2 U U (aT zc89 (λb5=>aO 0 ty89 U U U U U U (qO 4 U (cM 0 ty89 U U U (aA (lA (v:=.tuple #[.agg (vE ((key y1).1)).toArray,.bool ((key y1).2)]) [] (List.nil_sublist _) (hkey h y1 lf) U U (qO 3 U (aT zc182 (λb6=>aO 0 ty182 U U U U U U (qO 5 U (cM 0 ty182 U U U (aA (lu 2 (k:=(key y1).1) LG vh U fF (eX zv89) (show(iP vH) _ (.agg (kB [I 0,I 0,I 0,I 0,I 0,I 0,.bool false])) (kD 0 0 0 0 0 0 false)from⟨_,U,U⟩) U U (λv2 hv2=>?_)))))))))))))))))))
 obtain⟨_,rfl,rfl⟩:=hv2
 refine qO 3 U (aT zc89 (λb7=>aO 0 ty89 U U U U U U (qO 6 U (bp 10 [34,35,36,37,38,39,40,41,42,43,44] 34 44 ((!(mhas bu ((key y1).1)))||(!(later (mgetD bu ((key y1).1) (kD 0 0 0 0 0 0 false)) y1))) U (λc1 hk1=>?_) (λe=>?_)))))
 .refine qO 3 U (bT 6 [37,38,39,40,41,42,43] 37 43 (!(later (mgetD bu ((key y1).1) (kD 0 0 0 0 0 0 false)) y1)) U (λc2 hk2=>?_) (λe=>?_))
  .exact av (cM 0 ty89 U U U (cM 2 ty89 U U U (aA (lA (v:=.bool (later (mgetD bu ((key y1).1) (kD 0 0 0 0 0 0 false)) y1)) [] (List.nil_sublist _) (hlater h (mgetD bu ((key y1).1) (kD 0 0 0 0 0 0 false)) y1 lf) U U (qO 2 U (hk2 _ U))))))
  exact eB U (hk1 _ U)
 refine aF (ae hs3 U (λc3 hs4=>?_) (λc3 hs5=>?_))
 .exact bC (av (cM 1 ty182 U U U (cM 2 ty89 U U U (aA (j3 3 (k:=(key y1).1) (x:=y1) LG vh U fF U U ⟨_,U,U⟩ (λmo1 hm1=>qO 3 U (oi i1 U (qO 2 U (bo (L':=[(b1,mo1)]) js (ag1 ((mput bu ((key y1).1) y1),mo1) hs4 ⟨hm1,(by have:=mj bu ((key y1).1) y1;first|omega|(simp only[vB,xA]at *;omega))⟩))))))))))
 exact aI (qT 2 U (oi i1 U (qO 2 U (bo (L':=[(b1,gZ)]) js (ag1 (bu,gZ) hs5 ⟨fF,lc⟩)))))
theorem wx(h:HF)(a:Appoint)(j6:Appoint)  : Ret prog 183 [.agg (jR a).toArray,.agg (jR j6).toArray] h (.bool (kb a j6)):=by
 refine sT func183 U ntmps183 U λX hM hX hF=>?_
 have hs0:=@rfl _ (kb a j6)
 exact sr (cv (λb1=>cv (λb2=>qL 11 [1,0] U (nretP [.bool (decide (j6.At<a.At))] (cs hs0)))))
theorem rI(h:HF)(l:List Appoint)(ep:Option Addr)(eo:Nat)(il:Int)(known:Int)(hl:SlC vH h ep eo l):ju prog 93 [.slice ep l.length eo,I il,I known] h (λv h'=>∃(rk0:Nat),v=.map (some rk0)/\tw Sk (iP vH) h' rk0 (dw l il known)):=by
 refine sT func93 U ntmps93 U λX hM hX hF=>?_
 have hs0:=@rfl _ (dw l il known)
 refine sr (cv (λb1=>cv (λb2=>qO 4 U (aQ 1 U hM (λh1 hle1 hb1=>aQ 0 U hM (λh2 hle2 hb2=>aA (eA U U (qO 6 U (aA (cR call182 (uF _ _ _ _ (λdC=>iI dC il known) (.func (.func 181) #[] #[Q b1,Q b2]) kb (.func (.func 183) #[] #[]) (hl.mono xQ (hle1.t hle2)) (λh' dC hle=>iq call181 (wy h' dC il ⟨b1,0,none⟩ known ⟨b2,0,none⟩  (((cx hb1).mono hle2).mono hle) ((cx hb2).mono hle))) (λh' dC BP hle=>iq call183 (wx h' dC BP))) U (λv1 h3 hle3 hp1=>?_)))))))))))
 obtain⟨rk1,rfl,mo1⟩:=hp1
 refine an ?_
 have hs1:dw l il known=(dp l (λdC=>iI dC il known) kb):=hs0
 exact nretH [.map (some rk1)] (hs1▸⟨rk1,U,mo1⟩)
theorem Ce(h:HF)(l:List Appoint)(ep:Option Addr)(eo:Nat)(office:Int)(person:Int)(di:Int)(known:Int)(hl:SlC vH h ep eo l):Ret prog 29 [.slice ep l.length eo,I office,I person,I di,I known] h (.tuple #[I ((hO l office person di known).1),I ((hO l office person di known).2.1),.bool ((hO l office person di known).2.2.1),I ((hO l office person di known).2.2.2)]):=by
 refine sT func29 U ntmps29 U λX hM hX hF=>?_
 have hs0:=@rfl _ (hO l office person di known)
 refine qT 11 U (ai call65 (pT _ _ _ _ hl) U (qO 7 U (ae hs0 U (λc1 hs1=>?_) (λc1 hs2=>?_))))
 .refine qT 8 U ?_
  have hs3:hO l office person di known=(0,0,false,(dg l)):=hs1
  exact nretP [I 0,I 0,.bool false,I (dg l)] (hs3▸U)
 refine qT 5 U (ai NR (lY h office) U (qO 2 U (bT 4 [24,25,26,27,28] 24 28 (!(fY person)) U (λc2 hk1=>?_) (λe=>?_))))
 .exact av (ai call107 (nM h person) U (qO 2 U (hk1 _ U)))
 refine av (bT 4 [29,30,31,32,33] 29 33 (!(dq di)) U (λc3 hk2=>?_) (λe=>?_))
 .exact av (ai Ea (iW h di) U (qO 2 U (hk2 _ U)))
 refine av (bT 4 [34,35,36,37,38] 34 38 (!(dq known)) U (λc4 hk3=>?_) (λe=>?_))
 .exact av (ai Ea (iW h known) U (qO 2 U (hk3 _ U)))
 refine aF (ae hs2 U (λc5 hs4=>?_) (λc5 hs5=>?_))
 .refine qT 7 U ?_
  have hs6:hO l office person di known=(0,0,false,1):=hs4
  exact nretP [I 0,I 0,.bool false,I 1] (hs6▸U)
 refine qT 6 U (aA (cR call93 (rI _ _ _ _ di known hl) U (λv1 h1 hle1 hp1=>?_)))
 obtain⟨rk1,rfl,mo1⟩:=hp1
 refine qO 2 U (aA (fI (cells:=[I office,I person]) (places:=[(0,1),(1,1)]) IU zc182 kr kr ?_))
 obtain⟨o1,hb1,hm1⟩:=mo1
 refine aA (tz (k:=(Tj office person)) LG vh hb1 hm1 (eX zv89) (show(iP vH) _ (.agg (kB [I 0,I 0,I 0,I 0,I 0,I 0,.bool false])) (kD 0 0 0 0 0 0 false)from⟨_,U,U⟩) U U (λv2 hv1=>?_))
 obtain⟨_,rfl,rfl⟩:=hv1
 refine qO 3 U (aT zc89 (λb1=>aO 0 ty89 U U U U U U (qO 8 U (bT 3 [52,53,54,55] 52 55 ((mgetD (dw l di known) (Tj office person) (kD 0 0 0 0 0 0 false)).Gone) U (λc6 hk4=>?_) (λe=>?_)))))
 .exact qL 3 [0] U (hk4 _ U)
 refine aF (ae hs5 U (λc7 hs7=>?_) (λc7 hs8=>?_))
 .refine qT 7 U ?_
  have hs9:hO l office person di known=(0,0,false,0):=hs7
  exact nretP [I 0,I 0,.bool false,I 0] (hs9▸U)
 refine qT 2 U (er ([(b1,O (jR (mgetD (dw l di known) (Tj office person) (kD 0 0 0 0 0 0 false))) 89)]) mixed kr jn (λdY _=>qB [0] U (tf 1 U U (rj 0 ty3 U U U) (qB [2] U (tf 3 U U (rj 0 ty3 U U U) (qR 4 4 U (aJ kr ?_)))))))
 have hs10:hO l office person di known=((mgetD (dw l di known) (Tj office person) (kD 0 0 0 0 0 0 false)).No,(mgetD (dw l di known) (Tj office person) (kD 0 0 0 0 0 0 false)).Weight,true,0):=hs8
 exact nretP [I ((mgetD (dw l di known) (Tj office person) (kD 0 0 0 0 0 0 false)).No),I ((mgetD (dw l di known) (Tj office person) (kD 0 0 0 0 0 0 false)).Weight),.bool true,I 0] (hs10▸U)
theorem DL(h:HF)(l:List Deputy)(ep:Option Addr)(eo:Nat)(dU:Int)(to:Int)(q:cG)(hl:SlC Sq h ep eo l):Ret prog 108 [.slice ep l.length eo,I dU,I to,.agg (cG.cells q).toArray] h (I (lO l dU to q)):=by
 refine sT func108 U ntmps108 U λX hM hX hF=>?_
 have hs0:=@rfl _ (lO l dU to q)
 refine sr (cv (λb1=>qO 6 U (ai call66 (tW _ _ _ _ hl) U (qO 7 U (ae hs0 U (λc1 hs1=>?_) (λc1 hs2=>?_))))))
 .exact sr (qO 3 U (nretP [I (dB l)] (ci hs1)))
 refine qT 5 U (ai NP (lN h dU) U (qO 2 U (bT 4 [18,19,20,21,22] 18 22 (!(fZ to)) U (λc2 hk1=>?_) (λe=>?_))))
 .exact av (ai NP (lN h to) U (qO 2 U (hk1 _ U)))
 refine av (bT 5 [23,24,25,26,27,28] 23 28 (!(cY q.office 0 31)) U (λc3 hk2=>?_) (λe=>?_))
 .exact qL 2 [0] U (ai CH (ik h q.office 0 31) U (qO 2 U (hk2 _ U)))
 refine av (bT 5 [29,30,31,32,33,34] 29 34 (!(cY q.kind 0 15)) U (λc4 hk3=>?_) (λe=>?_))
 .exact qL 2 [0] U (ai CH (ik h q.kind 0 15) U (qO 2 U (hk3 _ U)))
 refine av (bT 5 [35,36,37,38,39,40] 35 40 (!(cY q.value 0 1099511627776)) U (λc5 hk4=>?_) (λe=>?_))
 .exact qL 2 [0] U (ai CH (ik h q.value 0 1099511627776) U (qO 2 U (hk4 _ U)))
 refine av (bT 5 [41,42,43,44,45,46] 41 46 (!(gx q.at_)) U (λc6 hk5=>?_) (λe=>?_))
 .exact qL 2 [0] U (ai NQ (mG h q.at_) U (qO 2 U (hk5 _ U)))
 refine av (bT 5 [47,48,49,50,51,52] 47 52 (!(gx q.known)) U (λc7 hk6=>?_) (λe=>?_))
 .exact qL 2 [0] U (ai NQ (mG h q.known) U (qO 2 U (hk6 _ U)))
 refine aF (ae hs2 U (λc8 hs4=>?_) (λc8 hs5=>?_))
 .exact sr (an (nretP [I 1] (ci hs4)))
 exact aI (qT 4 U (nretP [I 0] (ci hs5)))
theorem sF(h:HF)(seq:List Deputy)(seq_v:Value)(hseq:Itr prog seq_v sQ seq h)(hsz:seq.length<=2000000):ju prog 203 [.slice none 0 0,seq_v] h (λv h'=>∃(rb0:Option Addr)(rc0:Nat),v=.slice rb0 (cS seq).length rc0/\SlC Sq h' rb0 rc0 (cS seq)):=by
 refine cB func203 U ntmps203 U λX hM hX=>?_
 have hs0:=@rfl _ (cS seq)
 refine sr (cv (λb1=>qO 8 U (ef (cg (L':=([(b1,O [.slice none 0 0] 23)])++markB []) ap ?_))))
 refine jw (it:=seq_v) (xs:=seq) (ι:=(List Deputy)×Option Addr×Nat×LH×HF) [] (λi=>i.2.2.2.2) (λi=>[(b1,O [.slice i.2.1 i.1.length i.2.2.1] 23)]++(i.2.2.2.1)) (λs i=>cS seq=((cS.L1 (cS.K1)) s i.1)/\du Sq 93 i.2.2.2.2 i.1 i.2.1 i.2.2.1 i.2.2.2.1/\xN h i.2.2.2.2/\i.1.length+s.length<=seq.length) (λ_=>False) (λ_=>False) 0 (λ_ _ _=>False) ([],none,0,[],h) func203 U hseq U Fb (λ_ _ _ _ _ hq=>hq) U (show[(b1,O [.slice none 0 0] 23)]=_ from U) ⟨hs0,du.nil,lf,(by simp)⟩ ?_ ?_ ?_ ?_ ?_
 .rintro l1 dm1 lp1 y1 rz1 vs1 ⟨bu,mn,mm,nr,hh1⟩ hr1 X hFR1 ⟨hs1,fF,hl1,u1_0⟩ hl01 hlr1 hv1 hX hXM hlp1 nx1 rt1 ex1 pn1
  obtain rfl:=hv1
  simp only[xA]at u1_0
  let z1:Nat×Obj:=(b1,O [.slice mn bu.length mm] 23)
  let z4:Nat×Obj:=(dm1,.deferred (some []))
  refine cg (L':=[(l1,.loop lp1),z4,z1]++(nr++(markB []))) ap (bC (aT zc93 (λb4=>aO 0 ty93 U U U U U U (im (L':=[(b4,O (zP y1) 93),(l1,.loop lp1),z4,z1]++(nr++(markB []))) U (aF (ji 1 U hlp1 (qK 3 [3] U (cM 0 ty93 U U U (aA (bE (cells:=[I y1.No,I y1.At,I y1.Known,I y1.Until,I y1.From,I y1.To,I y1.Office,I y1.Kind,I y1.Most,.bool y1.Gone]) wM ty93 zc93 U U kr (λb5=>?_)))))))))))
  let z3:Nat×Obj:=(b5,O [I y1.No,I y1.At,I y1.Known,I y1.Until,I y1.From,I y1.To,I y1.Office,I y1.Kind,I y1.Most,.bool y1.Gone] 93)
  let z5:Nat×Obj:=(l1,.loop { lp1 with state:=.busy })
  let z6:Nat×Obj:=(b4,O (zP y1) 93)
  refine aA (dE Deputy.ew ([z3,z6,z5,z4,z1]) (markB []) (λG=>[z3,z6,z5,z4,z1]++(markB []++G)) ap (λ_=>ap) wM ty93 zc93 U bytes93 (fF.mono xT hlr1) U U (e8 0 U (cE y1 U U)) lo lo (λob2 oc2 G2 gr2=>ym (si ([z3,z6,z5,z4,z1]) G2 (markB [])) (cJ 4 ty23 U U U U U U (qO 2 U ?_))))
  let z7:Nat×Obj:=(b1,O [.slice ob2 ((bu++[y1]).length) oc2] 23)
  exact bo (L':=[z5,z4,z7]++(G2++(markB []))) js (cg (L':=rdH l1 dm1 lp1 (([z7]++G2)++markB [])) ap (nx1 ((bu++[y1]),ob2,oc2,G2,hr1) _ _ ⟨hs1,gr2,(hl1.t hlr1),(by simp only[jA,xA,vB]at *;omega)⟩ lf))
 .rintro dm1 ⟨bu,mn,mm,nr,hh1⟩ hn1 ⟨hs2,fF,hl1,u1_0⟩ hln1 hl01
  let z2:Nat×Obj:=(b1,O [.slice mn bu.length mm] 23)
  refine cg (L':=[z2]++(nr++(markB (dm1::[])))) ap (qK 6 [0] U (fx xT ([z2]) nr (markB (dm1::[])) ap hM (fF.mono xT hln1) (λh2 hle2 sl2=>?_)))
  have hs3:cS seq=bu:=hs2
  exact cg (L':=([z2])++markB (dm1::[])) ap (qn (dm1::[]) [.slice mn bu.length mm] func203 U rd ⟨mn,mm,congrArg (λr:List Deputy=>(.slice mn r.length mm:Value)) hs3.symm,(by rw[hs3];exact sl2)⟩)
 .exact xf
 .exact xf
 exact xf
theorem uh(h:HF)(seq:List Deputy)(seq_v:Value)(hseq:Itr prog seq_v sQ seq h)(hsz:seq.length<=2000000):ju prog 109 [seq_v] h (λv h'=>∃(rb0:Option Addr)(rc0:Nat),v=.slice rb0 (de seq).length rc0/\SlC Sq h' rb0 rc0 (de seq)):=by
 refine sT func109 U ntmps109 U λX hM hX hF=>?_
 have hs0:=@rfl _ (de seq)
 refine qT 7 U (aA (cR call203 (sF h seq seq_v hseq ob) U (λv1 h1 hle1 hp1=>?_)))
 obtain⟨rb1,rc1,rfl,sl1⟩:=hp1
 refine an ?_
 have hs1:de seq=(cS seq):=hs0
 exact nretH [.slice rb1 ((cS seq).length) rc1] (hs1▸⟨rb1,rc1,U,sl1⟩)
theorem ui(s:List Deputy):de s=s:=by
 have:∀(s acc:List Deputy),cS.L1 cS.K1 s acc=acc++s:=by
  intro s
  induction s with
  |nil=>intro acc;exact(List.append_nil _).symm
  |cons y s ih=>intro acc;simp only[cS.L1,ih,kC,List.cons_append,xG]
 exact(this s []).trans (xG _)
theorem m5(h:HF)(q:cG)(x:Deputy)  : Ret prog 204 [.agg (cG.cells q).toArray,.agg (zP x).toArray] h (.bool (fW q x)):=by
 refine sT func204 U ntmps204 U λX hM hX hF=>?_
 have hs0:=@rfl _ (fW q x)
 refine sr (cv (λb1=>cv (λb2=>qL 10 [0,1] U (bp 6 [10,11,12,13,14,15,16] 10 16 (decide (x.Known<=q.known)) U (λc1 hk1=>?_) (λe=>?_)))))
 .exact qL 6 [0,1] U (hk1 _ U)
 exact an (nretP [.bool (decide (x.At<=q.at_)&&decide (x.Known<=q.known))] (cs hs0))
theorem rZ(h:HF)(q:cG)(x:Deputy)  : Ret prog 206 [.agg (cG.cells q).toArray,.agg (zP x).toArray] h (.bool (gL q x)):=by
 refine sT func206 U ntmps206 U λX hM hX hF=>?_
 have hs0:=@rfl _ (gL q x)
 refine sr (cv (λb1=>cv (λb2=>qL 8 [0] U (bp 6 [8,9,10,11,12,13,14] 8 14 (decide (q.at_<x.Until)) U (λc1 hk1=>?_) (λe=>?_)))))
 .exact qL 6 [1,0] U (hk1 _ U)
 refine av (bp 6 [15,16,17,18,19,20,21] 15 21 (x.Office==q.office) U (λc2 hk2=>?_) (λe=>?_))
 .exact qL 6 [0,1] U (hk2 _ U)
 refine av (bp 11 [22,23,24,25,26,27,28,29,30,31,32,33] 22 33 ((x.Kind==(-1))||(x.Kind==q.kind)) U (λc3 hk3=>?_) (λe=>?_))
 .refine qL 4 [0] U (bT 6 [26,27,28,29,30,31,32] 26 32 (x.Kind==q.kind) U (λc4 hk4=>?_) (λe=>?_))
  .exact qL 6 [0,1] U (hk4 _ U)
  exact eB U (hk3 _ U)
 refine av (bp 6 [34,35,36,37,38,39,40] 34 40 (decide (q.value<=x.Most)) U (λc5 hk5=>?_) (λe=>?_))
 .exact qL 6 [1,0] U (hk5 _ U)
 exact an (nretP [.bool (((((!x.Gone)&&decide (q.at_<x.Until))&&(x.Office==q.office))&&((x.Kind==(-1))||(x.Kind==q.kind)))&&decide (q.value<=x.Most))] (cs hs0))
theorem pE(h:HF)(v0:List Deputy)(ud:Option Addr)(ua:Nat)(v0_q:Addr)(v1:List (dZ×Deputy))(Nq:Nat)(v1_q:Addr)(v2:(Deputy->Bool))(v2_v:Value)(v2_q:Addr)(v3:cG)(v3_q:Addr)(hv0:SlC Sq h ud ua v0)(av0:At h v0_q [.slice ud v0.length ua])(hv1:tw dZ.enc (iP Sq) h Nq v1)(av1:At h v1_q [.map (some Nq)])(hv2:∀(h':HF)(dC:Deputy),xN h h'->tv prog v2_v [.agg (zP dC).toArray] h' [] (.bool (v2 dC)))(av2:At h v2_q [v2_v])(av3:At h v3_q (cG.cells v3)):Itr prog (.func (.func 205) #[] (kB [.pointer (some v0_q),.pointer (some v1_q),.pointer (some v2_q),.pointer (some v3_q)])) sQ (aD v0 v1 v2 v3) h:=by
 refine sR call205 ?_
 intro yf ya yb C Sp Pn h1 A hle m1 m2 m3 hC hy
 refine jb D9 U ntmps205 U λX hXM hX=>?_
 have hs0:aD v0 v1 v2 v3=[]++aD v0 v1 v2 v3:=rfl
 refine sr (dj ty23 (av0.mono hle) U (qL 3 [] U ?_))
 refine lp2 v0 (λi w=>[(0,.func yf ya yb),(2,.pointer (some v1_q)),(3,.pointer (some v2_q)),(4,.pointer (some v3_q)),(8,.slice ud v0.length ua),(9,I (v0.length:Int)),(10,I (i:Int))]) (λw=>w.2.2) (λw=>w.2.1) (λi w=>C w.1 w.2.2 w.2.1/\xN h1 w.2.2) (λs1 i w=>w.1++(aD.L1 v1 v2 v3 (aD.K1)) s1) ([],A,h1) ((hv0.mono xT hle).1.1) hs0 ⟨hC,lf⟩ ?_ ?_
 .rintro i1 ⟨dn1,A1_,hh1⟩ fm hs1 ⟨hC1_,hl1⟩ e
  refine ef ?_
  have hs2:aD v0 v1 v2 v3=dn1:=hs1.trans (List.append_nil _)
  exact sS [] (A:=A1_) D9 U (List.Sublist.refl _) (.inl (hs2▸hC1_))
 rintro i1 ⟨dn1,A1_,hh1⟩ y1 rz1 hd1 df aS ek gu hs3 ⟨hC1_,hl1⟩ hx1 ag1 e
 refine sr (tO df U (qO 8 U (aA (iF zP wM ty93 (hv0.mono xT (hle.t hl1)).1 aS U U U (λq2 A2=>dt ty93 A2 U U (aT zc93 (λb2=>aO 0 ty93 U U U U U U (im (L':=[(b2,O (zP y1) 93)]++(A1_)) U (qO 2 U ?_)))))))))
 let z1:Nat×Obj:=(b2,O (zP y1) 93)
 refine er ([z1]) mixed kr jn (λdY _=>?_)
 refine tf 0 U U (rh ty277 (av1.mono (hle.t hl1)) U) (qB [1] U (tf 2 U U (rj 0 ty3 U U U) (qB [3] U (tf 4 U U (rj 0 ty3 U U U) (qB [5] U (tf 6 U U (rj 0 ty3 U U U) (qB [7] U (tf 8 U U (rj 0 ty3 U U U) (tf 11 U U (λ_ _ hj=>jg ty93 U (hj.nth (i:=0) U) U) (tn 9 U (fI (cells:=[I y1.From,I y1.To,I y1.Office,I y1.Kind]) (places:=[(0,1),(1,1),(2,1),(3,1)]) LO zc279 kr kr (⟨jn,tn 10 U ?_⟩))))))))))))
 obtain⟨o2,hb2,hm2⟩:=(hv1.mono (iP.mono xT) (hle.t hl1))
 refine ny (k:=(dZ.mk y1.From y1.To y1.Office y1.Kind)) underlying277 ur hb2 hm2 (eX zv93) (show(iP Sq) _ (.agg (kB [I 0,I 0,I 0,I 0,I 0,I 0,I 0,I 0,I 0,.bool false])) (Td 0 0 0 0 0 0 0 0 0 false)from⟨_,U,U⟩) U U (λv2 hv2=>?_)
 obtain⟨_,rfl,rfl⟩:=hv2
 refine⟨jn,(tf 12 U U (λ_ _ _=>L5 (Lp (mgetD v1 (dZ.mk y1.From y1.To y1.Office y1.Kind) (Td 0 0 0 0 0 0 0 0 0 false)) y1) eqg93 U U) (tm 13 U ?_))⟩
 refine dh 27 U (λc1=>?_) (λc1=>?_)
 .refine tf 14 U U (rh ty223 (av2.mono (hle.t hl1)) U) (tf 15 U U (λ_ _ hj=>jg ty93 U (hj.nth (i:=0) U) U) (tn 16 U (lA (v:=.bool (v2 y1)) [] (List.nil_sublist _) (hv2 hh1 y1 (hle.t hl1)) U U (⟨jn,qA [17,18] U ?_⟩))))
  refine dh 32 U (λc2=>?_) (λc2=>?_)
  .refine tf 19 U U (λ_ _ hj=>lL ty184 ((av3.mono (hle.t hl1)).mono hj.1) U U) (tf 20 U U (λ_ _ hj=>jg ty93 U (hj.nth (i:=0) U) U) (tn 21 U (eZ call206 (rZ hh1 v3 y1) U (⟨jn,tf 22 U U (λ_ _ _=>nC U (cb (show(gL v3 y1)=(((decide ((mgetD v1 (dZ.mk y1.From y1.To y1.Office y1.Kind) (Td 0 0 0 0 0 0 0 0 0 false))=y1))&&(v2 y1))&&(gL v3 y1))from by first|(rw[c1];rw[c2];rfl)|(rw[c2];rfl)|simp[c1,c2]))) (tm 23 U ?_)⟩))))
   refine dh 37 U (λc3=>?_) (λc3=>?_)
   .have ct1:=c3
    have hs4:=hs3.trans (congrArg (dn1++·) (bt ct1))
    refine tm 24 U (tf 25 U U (λ_ _ hj=>jg ty93 U (hj.nth (i:=0) U) U) ?_)
    have hx1:aD v0 v1 v2 v3=dn1++(y1::(aD.L1 v1 v2 v3 (aD.K1) rz1)):=hs4
    refine tn 26 U (kp ([z1]) A1_ ap (hy dn1 y1 _ _ _ _ hx1 hl1 hC1_ U) U U (λh2 A3 hle1 hC1=>?_) (λh3 A4 hle2 hS1=>?_) (λch1 h4 A5 hle3 hP1 e=>gy (mP [] (A:=A5) D9 (List.sublist_append_right _ _) hP1)))
    .have hs5:aD v0 v1 v2 v3=(dn1++[y1])++((aD.L1 v1 v2 v3 (aD.K1) rz1)):=hx1.trans ap
     exact⟨⟨hle1,λ_ hp=>List.Sublist.subset js hp⟩,nH (K2:=[z1]) hle1 (λ_ hp=>hp) (qA [27,28] U (aJ kr (qT 4 U (oi i1 U (qO 2 U (bo (L':=A3) js (ag1 ((dn1++[y1]),A3,h2) hs5 ⟨hC1,(hl1.t hle1)⟩)))))))⟩
    exact⟨⟨hle2,λ_ hp=>List.Sublist.subset js hp⟩,nH (K2:=[z1]) hle2 (λ_ hp=>hp) (qA [27,28] U (aJ kr (ls U (ef (mE [] (A:=A4) D9 U js (.inr hS1))))))⟩
   have ct2:=c3
   have hs6:=hs3.trans (congrArg (dn1++·) (bf ct2))
   exact tk 24 U U (qR 25 4 U (aJ kr (qT 4 U (oi i1 U (qO 2 U (bo (L':=A1_) js (ag1 (dn1,A1_,hh1) hs6 ⟨hC1_,hl1⟩)))))))
  refine qR 19 3 U (tf 22 U U (λ_ _ _=>nC U (cb (show false=(((decide ((mgetD v1 (dZ.mk y1.From y1.To y1.Office y1.Kind) (Td 0 0 0 0 0 0 0 0 0 false))=y1))&&(v2 y1))&&(gL v3 y1))from by first|(rw[c1];rw[c2];rfl)|(rw[c2];rfl)|simp[c1,c2]))) (tm 23 U ?_))
  refine dh 37 U (λc4=>?_) (λc4=>?_)
  .have ct3:=c4
   have hs7:=hs3.trans (congrArg (dn1++·) (bt ct3))
   refine tm 24 U (tf 25 U U (λ_ _ hj=>jg ty93 U (hj.nth (i:=0) U) U) ?_)
   have hx2:aD v0 v1 v2 v3=dn1++(y1::(aD.L1 v1 v2 v3 (aD.K1) rz1)):=hs7
   refine tn 26 U (kp ([z1]) A1_ ap (hy dn1 y1 _ _ _ _ hx2 hl1 hC1_ U) U U (λh5 A6 hle4 hC2=>?_) (λh6 A7 hle5 hS2=>?_) (λch2 h7 A8 hle6 hP2 e=>gy (mP [] (A:=A8) D9 (List.sublist_append_right _ _) hP2)))
   .have hs8:aD v0 v1 v2 v3=(dn1++[y1])++((aD.L1 v1 v2 v3 (aD.K1) rz1)):=hx2.trans ap
    exact⟨⟨hle4,λ_ hp=>List.Sublist.subset js hp⟩,nH (K2:=[z1]) hle4 (λ_ hp=>hp) (qA [27,28] U (aJ kr (qT 4 U (oi i1 U (qO 2 U (bo (L':=A6) js (ag1 ((dn1++[y1]),A6,h5) hs8 ⟨hC2,(hl1.t hle4)⟩)))))))⟩
   exact⟨⟨hle5,λ_ hp=>List.Sublist.subset js hp⟩,nH (K2:=[z1]) hle5 (λ_ hp=>hp) (qA [27,28] U (aJ kr (ls U (ef (mE [] (A:=A7) D9 U js (.inr hS2))))))⟩
  have ct4:=c4
  have hs9:=hs3.trans (congrArg (dn1++·) (bf ct4))
  exact tk 24 U U (qR 25 4 U (aJ kr (qT 4 U (oi i1 U (qO 2 U (bo (L':=A1_) js (ag1 (dn1,A1_,hh1) hs9 ⟨hC1_,hl1⟩)))))))
 refine qR 14 8 U (tf 22 U U (λ_ _ _=>nC U (cb (show false=(((decide ((mgetD v1 (dZ.mk y1.From y1.To y1.Office y1.Kind) (Td 0 0 0 0 0 0 0 0 0 false))=y1))&&(v2 y1))&&(gL v3 y1))from by first|(rw[c1];rfl)|(rw[c1];rfl)|simp[c1]))) (tm 23 U ?_))
 refine dh 37 U (λc5=>?_) (λc5=>?_)
 .have ct5:=c5
  have hs10:=hs3.trans (congrArg (dn1++·) (bt ct5))
  refine tm 24 U (tf 25 U U (λ_ _ hj=>jg ty93 U (hj.nth (i:=0) U) U) ?_)
  have hx3:aD v0 v1 v2 v3=dn1++(y1::(aD.L1 v1 v2 v3 (aD.K1) rz1)):=hs10
  refine tn 26 U (kp ([z1]) A1_ ap (hy dn1 y1 _ _ _ _ hx3 hl1 hC1_ U) U U (λh8 A9 hle7 hC3=>?_) (λh9 A10 hle8 hS3=>?_) (λch3 h10 A11 hle9 hP3 e=>gy (mP [] (A:=A11) D9 (List.sublist_append_right _ _) hP3)))
  .have hs11:aD v0 v1 v2 v3=(dn1++[y1])++((aD.L1 v1 v2 v3 (aD.K1) rz1)):=hx3.trans ap
   exact⟨⟨hle7,λ_ hp=>List.Sublist.subset js hp⟩,nH (K2:=[z1]) hle7 (λ_ hp=>hp) (qA [27,28] U (aJ kr (qT 4 U (oi i1 U (qO 2 U (bo (L':=A9) js (ag1 ((dn1++[y1]),A9,h8) hs11 ⟨hC3,(hl1.t hle7)⟩)))))))⟩
  exact⟨⟨hle8,λ_ hp=>List.Sublist.subset js hp⟩,nH (K2:=[z1]) hle8 (λ_ hp=>hp) (qA [27,28] U (aJ kr (ls U (ef (mE [] (A:=A10) D9 U js (.inr hS3))))))⟩
 have ct6:=c5
 have hs12:=hs3.trans (congrArg (dn1++·) (bf ct6))
 exact tk 24 U U (qR 25 4 U (aJ kr (qT 4 U (oi i1 U (qO 2 U (bo (L':=A1_) js (ag1 (dn1,A1_,hh1) hs12 ⟨hC1_,hl1⟩)))))))
theorem rk(h:HF)(q:cG)(l:List Deputy)(ep:Option Addr)(eo:Nat)(hl:SlC Sq h ep eo l):ju prog 110 [.agg (cG.cells q).toArray,.slice ep l.length eo] h (λv h'=>∃(rv0:Value),v=rv0/\Itr prog rv0 sQ (aR q l) h'):=by
 refine sT func110 U ntmps110 U λX hM hX hF=>?_
 have hs0:=@rfl _ (aR q l)
 refine sr (cv (λb1=>cv (λb2=>qO 4 U (cM 1 ty184 U U U (aA (eA U U (aT zc223 (λb3=>cJ 0 ty223 U U U U U U (qO 3 U (aA (nw (λb4=>aT zc277 (λb5=>cJ 0 ty277 U U U U U U (qL 8 [3] U ?_))))))))))))))
 let z1:Nat×Obj:=(b3,O [.func (.func 204) #[.agg (cG.cells q).toArray] #[]] 223)
 let z2:Nat×Obj:=(b2,O [.slice ep l.length eo] 23)
 let z3:Nat×Obj:=(b1,O (cG.cells q) 184)
 let z4:Nat×Obj:=(b5,O [.map (some b4)] 277)
 refine lp2 l (λi w=>[(2,Q b1),(3,Q b2),(5,Q b3),(6,Q b5),(15,.slice ep l.length eo),(16,I (l.length:Int)),(17,I (i:Int))]) (λ_=>h) (λw=>[z4,(b4,w.2),z1,z2,z3]) (λi w=>i9 dZ.enc (iP Sq) h w.2 w.1/\w.1.length<=0+i) (λs1 i w=>(aR.L1 q (aR.K1 q l)) s1 w.1) ([],.map #[] 0) hl.1.1 hs0 ⟨(i9.nil (enc:=dZ.enc) (V:=(iP Sq)) (h:=h)),lc⟩ ?_ ?_
 .rintro i1 ⟨eG,Fv⟩ fm hs1 ⟨xI,OV⟩ e
  refine sr (aQ 3 U hM (λh1 hle1 hb1=>aQ 0 U hM (λh2 hle2 hb2=>aQ 1 U hM (λh3 hle3 hb3=>aQ 1 U hM (λh4 hle4 hb4=>aA (eA U U (an (eI 0 U hM (λh5 hle5 hb5=>?_)))))))))
  have mc1:tw dZ.enc (iP Sq) h5 b4 eG:=⟨_,hb5,(xI.mono (iP.mono xT) (((hle1.t hle2).t hle3).t hle4)).mono (iP.mono xT) hle5⟩
  have hs2:aR q l=(aD l eG (fW q) q):=hs1
  exact nretH [.func (.func 205) #[] #[Q b2,Q b5,Q b3,Q b1]] (hs2▸⟨(.func (.func 205) #[] #[Q b2,Q b5,Q b3,Q b1]),U,(pE h5 l ep eo ⟨b2,0,none⟩ eG b4 ⟨b5,0,none⟩ (fW q) (.func (.func 204) #[.agg (cG.cells q).toArray] #[]) ⟨b3,0,none⟩ q ⟨b1,0,none⟩ (hl.mono xT ((((hle1.t hle2).t hle3).t hle4).t hle5)) ((cx hb1).mono (((hle2.t hle3).t hle4).t hle5)) mc1 ((cx hb2).mono ((hle3.t hle4).t hle5)) (λh' dC hle=>Jk (fl:=[.agg (cG.cells q).toArray]) (cap:=[]) call204 (m5 h' q dC)) ((cx hb3).mono (hle4.t hle5)) ((cx hb4).mono hle5))⟩)
 rintro i1 ⟨eG,Fv⟩ y1 rz1 hd1 df aS ek gu hs3 ⟨xI,OV⟩ hx1 ag1 e
 refine sr (tO df U (qO 8 U (aA (iF zP wM ty93 hl.1 aS U U U (λq2 A2=>dt ty93 A2 U U (aT zc93 (λb9=>aO 0 ty93 U U U U U U (qL 11 [0,0,0,0] U (aA (fI (cells:=[I y1.From,I y1.To,I y1.Office,I y1.Kind]) (places:=[(0,1),(1,1),(2,1),(3,1)]) LO zc279 kr kr (aT zc279 (λb10=>aO 0 ty279 U U U U U U (qL 4 [2] U (cM 0 ty279 U U U (aA (lu 3 (k:=(dZ.mk y1.From y1.To y1.Office y1.Kind)) underlying277 ur U xI (eX zv93) (show(iP Sq) _ (.agg (kB [I 0,I 0,I 0,I 0,I 0,I 0,I 0,I 0,I 0,.bool false])) (Td 0 0 0 0 0 0 0 0 0 false)from⟨_,U,U⟩) U U (λv2 hv2=>?_)))))))))))))))))
 obtain⟨_,rfl,rfl⟩:=hv2
 refine qO 3 U (aT zc93 (λb11=>aO 0 ty93 U U U U U U (qL 5 [5] U (cM 2 ty93 U U U (aA (lA (v:=.bool (fW q y1)) [] (List.nil_sublist _) (Jk (fl:=[.agg (cG.cells q).toArray]) (args:=[.agg (zP y1).toArray]) (cap:=[]) call204 (m5 h q y1)) U U (av (bp 10 [39,40,41,42,43,44,45,46,47,48,49] 39 49 ((!(mhas eG (dZ.mk y1.From y1.To y1.Office y1.Kind)))||decide ((mgetD eG (dZ.mk y1.From y1.To y1.Office y1.Kind) (Td 0 0 0 0 0 0 0 0 0 false)).At<=y1.At)) U (λc1 hk1=>?_) (λe=>?_)))))))))
 .refine qO 3 U (bT 6 [42,43,44,45,46,47,48] 42 48 (decide ((mgetD eG (dZ.mk y1.From y1.To y1.Office y1.Kind) (Td 0 0 0 0 0 0 0 0 0 false)).At<=y1.At)) U (λc2 hk2=>?_) (λe=>?_))
  .exact qL 6 [2,0] U (hk2 _ U)
  exact eB U (hk1 _ U)
 refine aF (ae hs3 U (λc3 hs4=>?_) (λc3 hs5=>?_))
 .exact qK 2 [3] U (cM 1 ty279 U U U (cM 2 ty93 U U U (aA (j3 4 (k:=(dZ.mk y1.From y1.To y1.Office y1.Kind)) (x:=y1) underlying277 ur U xI U U ⟨_,U,U⟩ (λmo1 hm1=>qO 3 U (oi i1 U (qO 2 U (bo (L':=[z4,(b4,mo1),z1,z2,z3]) js (ag1 ((mput eG (dZ.mk y1.From y1.To y1.Office y1.Kind) y1),mo1) hs4 ⟨hm1,(by have:=mj eG (dZ.mk y1.From y1.To y1.Office y1.Kind) y1;first|omega|(simp only[vB,xA]at *;omega))⟩)))))))))
 exact aI (qT 2 U (oi i1 U (qO 2 U (bo (L':=[z4,(b4,Fv),z1,z2,z3]) js (ag1 (eG,Fv) hs5 ⟨xI,lc⟩)))))
theorem pM(q:cG)(l:List Deputy):(aR q l).length<=l.length:=by
 have h1:∀(v:List (dZ×Deputy))(s:List Deputy),(aD.L1 v (fW q) q aD.K1 s).length<=s.length:=by
  intro v s
  induction s with
  |nil=>exact jG _
  |cons y s ih=>simp only[aD.L1,Bool.cond_eq_ite];split<;>simp only[xA]<;>omega
 have h2:∀(s:List Deputy)(g:List (dZ×Deputy)),(aR.L1 q (aR.K1 q l) s g).length<=l.length:=by
  intro s
  induction s with
  |nil=>intro g;exact h1 g l
  |cons y s ih=>intro g;simp only[aR.L1,Bool.cond_eq_ite];split<;>exact ih _
 exact h2 _ _
theorem BD(h:HF)(l:List Deputy)(ep:Option Addr)(eo:Nat)(dU:Int)(to:Int)(office:Int)(kind:Int)(value:Int)(kl:Int)(known:Int)(hl:SlC Sq h ep eo l)(hsz:l.length<=2000000):ju prog 30 [.slice ep l.length eo,I dU,I to,I office,I kind,I value,I kl,I known] h (λv h'=>∃(rb0:Option Addr)(rc0:Nat),v=.tuple #[.slice rb0 ((aG l dU to office kind value kl known).1).length rc0,.bool ((aG l dU to office kind value kl known).2.1),I ((aG l dU to office kind value kl known).2.2)]/\SlC zC h' rb0 rc0 ((aG l dU to office kind value kl known).1)):=by
 refine sT func30 U ntmps30 U λX hM hX hF=>?_
 have hs0:=@rfl _ (aG l dU to office kind value kl known)
 have hcv:(de (aR (cG.mk office kind value kl known) l)).length<=2000000:=by rw[ui];exact vT (pM _ _) hsz
 refine qT 13 U (aA (fI (cells:=[I office,I kind,I value,I kl,I known]) (places:=[(0,1),(1,1),(2,1),(3,1),(4,1)]) underlying184 zc184 kr kr (aT zc184 (λb1=>aO 0 ty184 U U U U U U (qO 7 U (cM 0 ty184 U U U (ai call108 (DL _ _ _ _ dU to (cG.mk office kind value kl known) hl) U (qO 7 U (ae hs0 U (λc1 hs1=>?_) (λc1 hs2=>?_))))))))))
 .refine qT 7 U ?_
  have hs3:aG l dU to office kind value kl known=([],false,(lO l dU to (cG.mk office kind value kl known))):=hs1
  exact nretH [.slice none 0 0,.bool false,I (lO l dU to (cG.mk office kind value kl known))] (hs3▸⟨none,0,U,kE⟩)
 refine qT 3 U (cM 0 ty184 U U U (av (aA (cR call110 (rk _ (cG.mk office kind value kl known) _ _ _ hl) U (λv1 h1 hle1 hp1=>?_)))))
 obtain⟨_,rfl,mo1⟩:=hp1
 refine aA (cR call109 (uh h1 (aR (cG.mk office kind value kl known) l) v1 mo1 (vT (pM _ _) hsz)) U (λv2 h2 hle2 hp2=>?_))
 obtain⟨rb1,rc1,rfl,sl1⟩:=hp2
 refine qO 4 U (aA (nw (λb2=>av (aA (wU 0 (k:=to) (x:=0) AB (fA mH) U (i9.nil (enc:=(zD .i64)) (V:=vI) (h:=h2)) U U U (λmo2 hm1=>qO 8 U ?_))))))
 let z1:Nat×Obj:=(b1,O [I office,I kind,I value,I kl,I known] 184)
 refine ir (ι:=Nat×(List (Int×Int))×Obj) (λi=>[(1,I dU),(16,.slice none 0 0),(20,.slice rb1 ((de (aR (cG.mk office kind value kl known) l)).length) rc1),(21,.map (some b2))]) (λi=>h2) (λi=>[(b2,i.2.2),z1]) (λi=>i.1<=(qH 8).length/\aG l dU to office kind value kl known=((aG.K1 l dU office kind value kl known) i.2.1)/\i9 (zD .i64) vI h2 i.2.2 i.2.1/\(∀p∈i.2.1,0<=p.2/\p.2<=8)) ?_ (λhx1=>?_)
 .rintro⟨i1,bL,dO⟩ ⟨fm,hs4,gp,u1_0⟩ e
  try dsimp only at fm gp u1_0
  have hf8:=(yu (P:=λx:Int=>0<=x/\x<=8) dU u1_0 (show(0:Int)<=0/\(0:Int)<=8 from⟨Int.le_refl _,by omega⟩))
  have hrg:=List.length_range (n:=(mgetD bL dU 0).toNat)
  refine qT 4 U (aA (lu 0 (k:=dU) AB (fA mH) U gp (eX zv3) (show vI _ (I 0) 0 from U) U U (λv5 hv3=>?_)))
  obtain rfl:=hv3
  refine qO 12 U (ae hs4 U (λc3 hs5=>?_) (λc3 hs6=>?_))
  .refine qT 6 U ?_
   have hs7:aG l dU to office kind value kl known=([],false,0):=hs5
   exact nretH [.slice none 0 0,.bool false,I 0] (hs7▸⟨none,0,U,kE⟩)
  refine qT 7 U ?_
  refine ir (ι:=Nat×List Int×Option Addr×Nat×LH×Int) (λi=>[(16,.slice i.2.2.1 i.2.1.length i.2.2.2.1)]) (λi=>h2) (λi=>[(b2,dO),z1]++(i.2.2.2.2.1)) (λi=>i.1<=(qH (((mgetD bL dU 0)).toNat)).length/\aG l dU to office kind value kl known=((aG.K4) i.2.1 i.2.2.2.2.2)/\du zC 3 h2 i.2.1 i.2.2.1 i.2.2.2.1 i.2.2.2.2.1/\i.2.1.length<=i.1) ?_ (λhx4=>?_)
  .rintro⟨i4,xz,Fo,Fm,Il,Df⟩ ⟨yP,hs8,Cu,Lm⟩ e
   try dsimp only at yP Cu Lm
   refine qT 7 U (fx xH ([(b2,dO),z1]) Il ([]) ap hM Cu (λh3 hle3 sl2=>?_))
   have hs9:aG l dU to office kind value kl known=(xz,true,0):=hs8
   exact nretH [.slice Fo xz.length Fm,.bool true,I 0] (hs9▸⟨Fo,Fm,U,sl2⟩)
  refine jZ (ι:=Nat×List Int×Option Addr×Nat×LH×Int×List Nat) (λi=>[(16,.slice i.2.2.1 i.2.1.length i.2.2.2.1),(20,.slice rb1 ((de (aR (cG.mk office kind value kl known) l)).length) rc1),(21,.map (some b2)),(29,I ((((((mgetD bL dU 0)).toNat)-i.1):Nat):Int)),(31,I i.2.2.2.2.2.1)]) (λi=>h2) (λi=>[(b2,dO),z1]++(i.2.2.2.2.1)) (λi=>(qH (((mgetD bL dU 0)).toNat)).drop i.1=i.2.2.2.2.2.2/\i.1<=(qH (((mgetD bL dU 0)).toNat)).length/\aG l dU to office kind value kl known=((aG.L4 l dU office kind value kl known bL (aG.K4)) i.2.2.2.2.2.2 i.1 i.2.1 i.2.2.2.2.2.1)/\du zC 3 h2 i.2.1 i.2.2.1 i.2.2.2.1 i.2.2.2.2.1/\i.2.1.length<=i.1) (λi=>i.2.2.2.2.2.2.length) (0,[],none,0,[],dU,(qH (((mgetD bL dU 0)).toNat))) ⟨U,U,U,(congrArg (zD .i64) (show(mgetD bL dU 0)=((((((mgetD bL dU 0)).toNat)-0):Nat):Int)from(by have hq:=(yu (P:=λx:Int=>0<=x/\x<=8) dU u1_0 (show(0:Int)<=0/\(0:Int)<=8 from⟨Int.le_refl _,by omega⟩));omega))),U,trivial⟩ sw ⟨U,qM _,hs6,du.nil,lo⟩ ?_
  rintro⟨i4,xz,Fo,Fm,Il,Df,s4⟩ ⟨hd4,M6,hs10,Cu,Lm⟩ ag1 e
  try dsimp only at hd4 M6 Cu Lm
  rcases s4 with _|⟨y4,rz4⟩
  .have Q2:decide (0<((((((mgetD bL dU 0)).toNat)-i4):Nat):Int))=false:=decide_eq_false (by have q_:=of_decide_eq_false (mR hd4);rw[List.length_range]at q_;omega)
   exact dK (qT 3 U (fO Q2 U (qO 3 U (hx4 (i4,xz,Fo,Fm,Il,Df) _ ⟨M6,hs10,Cu,lo⟩ rd))))
  have Q1:decide (0<((((((mgetD bL dU 0)).toNat)-i4):Nat):Int))=true:=decide_eq_true (by have q_:=hY hd4;rw[List.length_range]at q_;omega)
  have J1:i4<(((mgetD bL dU 0)).toNat):=by simpa using hY hd4
  refine qT 4 U (tO Q1 U (qL 11 [] U ?_))
  refine lp3 (de (aR (cG.mk office kind value kl known) l)) (λi w=>[(16,.slice w.2.1 w.1.length w.2.2.1),(20,.slice rb1 ((de (aR (cG.mk office kind value kl known) l)).length) rc1),(21,.map (some b2)),(29,I ((((((mgetD bL dU 0)).toNat)-i4):Nat):Int)),(31,I w.2.2.2.2),(110,.slice rb1 ((de (aR (cG.mk office kind value kl known) l)).length) rc1),(111,I (((de (aR (cG.mk office kind value kl known) l)).length:Nat):Int)),(112,I (i:Int))]) (λ_=>h2) (λw=>[(b2,dO),z1]++(w.2.2.2.1)) (λi w=>du zC 3 h2 w.1 w.2.1 w.2.2.1 w.2.2.2.1/\w.1.length<=i4) (λi w=>du zC 3 h2 w.1 w.2.1 w.2.2.1 w.2.2.2.1/\w.1.length<=i4+1) (λ_ _ h=>⟨h.1,Nat.le_succ_of_le h.2⟩) (λs6 i w=>(aG.L6 dU bL i4 (λzg6_16 zg6_31=>(aG.L4 l dU office kind value kl known bL (aG.K4) rz4 (i4+1) zg6_16 zg6_31))) s6 w.1 w.2.2.2.2) (xz,Fo,Fm,Il,Df) sl1.1.1 hs10 ⟨Cu,lo⟩ ?_ ?_
  .rintro i6 ⟨Bj,Ll,Lk,Fj,De⟩ Gx hs12 ⟨Ct,Lj⟩ e
   try dsimp only at Ct Lj
   exact eS (qT 2 U (io (v':=I ((((((mgetD bL dU 0)).toNat)-(i4+1)):Nat):Int)) U (Iv J1 ob) (an (ag1 ((i4+1),Bj,Ll,Lk,Fj,De,rz4) _ (Nat.lt_succ_self _) ⟨kw hd4,hY hd4,hs12,Ct,lo⟩ rd))))
  rintro i6 ⟨Bj,Ll,Lk,Fj,De⟩ y6 rz6 hd6 RJ Ro RS RX hs13 ⟨Ct,Lj⟩ hx6 ag2 e
  try dsimp only at Ct Lj
  refine sr (tO RJ U (qO 8 U (aA (iF zP wM ty93 sl1.1 Ro U U U (λq4 A4=>dt ty93 A4 U U (aT zc93 (λb6=>aO 0 ty93 U U U U U U (im (L':=[(b6,O (zP y6) 93),(b2,dO),z1]++(Fj)) U (qL 6 [0] U (aA (lu 1 (k:=y6.To) AB (fA mH) U gp (eX zv3) (show vI _ (I 0) 0 from U) U U (λv8 hv6=>?_))))))))))))
  obtain rfl:=hv6
  refine qL 13 [0] U (bp 2 [127,128,129] 127 129 (mhas bL y6.To) U (λc5 hk1=>?_) (λe=>?_))
  .exact av (eB U (hk1 _ U))
  refine av (bp 5 [130,131,132,133,134,135] 130 135 ((mgetD bL y6.To 0)==((((((mgetD bL dU 0)).toNat)-(i4+1)):Nat):Int)) U (λc6 hk2=>?_) (λe=>?_))
  .exact av (av (io (v':=I ((((((mgetD bL dU 0)).toNat)-(i4+1)):Nat):Int)) U (Iv J1 ob) (qO 2 U (hk2 _ U))))
  refine aF (ae hs13 U (λc7 hs14=>?_) (λc7 hs15=>?_))
  .refine dK ?_
   let z2:Nat×Obj:=(b6,O (zP y6) 93)
   refine er ([z2,(b2,dO),z1]) mixed kr jn (λdY _=>?_)
   exact tm 0 U (qB [1] U (tf 2 U U (rj 0 ty3 U U U) (qB [5] U (tf 6 U U (rj 0 ty3 U U U) (tn 3 U (bE (cells:=[I y6.No]) ec ty3 zc3 U U kr (λb7=>⟨jn,tn 4 U (dE TN ([(b7,O [I y6.No] 3),z2,(b2,dO),z1]) ([]) (λG=>[(b7,O [I y6.No] 3),z2,(b2,dO),z1]++G) ap (λ_=>ap) ec ty3 zc3 U bytes3 Ct U U (e8 0 U (cE (y6.No) U U)) lo lo (λob1 oc1 G1 gr1=>⟨jn,qA [7,8] U (aJ kr (lK U (bo (L':=[(b2,dO),z1]++G1) js (hx6 i6 ((Bj++[y6.No]),ob1,oc1,G1,y6.To) hs14 ⟨gr1,lo⟩))))⟩))⟩)))))))
  exact aI (qT 2 U (oi i6 U (qO 2 U (bo (L':=[(b2,dO),z1]++(Fj)) js (ag2 (Bj,Ll,Lk,Fj,De) hs15 ⟨Ct,lo⟩)))))
 refine jZ (ι:=Nat×(List (Int×Int))×Obj×List Nat) (λi=>[(1,I dU),(16,.slice none 0 0),(20,.slice rb1 ((de (aR (cG.mk office kind value kl known) l)).length) rc1),(21,.map (some b2)),(57,I (i.1:Int))]) (λi=>h2) (λi=>[(b2,i.2.2.1),z1]) (λi=>(qH 8).drop i.1=i.2.2.2/\i.1<=(qH 8).length/\aG l dU to office kind value kl known=((aG.L1 l office kind value kl known (aG.K1 l dU office kind value kl known)) i.2.2.2 i.1 i.2.1)/\i9 (zD .i64) vI h2 i.2.2.1 i.2.1/\(∀p∈i.2.1,0<=p.2/\p.2<=8)) (λi=>i.2.2.2.length) (0,(mput ([]) to 0),mo2,(qH 8)) rd sw ⟨U,qM _,hs2,hm1,(λp hp=>by rw[xC.1 hp];exact⟨Int.le_refl _,by omega⟩)⟩ ?_
 rintro⟨i1,bL,dO,s1⟩ ⟨hd1,fm,hs16,gp,u1_0⟩ ag3 e
 try dsimp only at hd1 fm gp u1_0
 rcases s1 with _|⟨y1,rz1⟩
 .have fS:decide ((i1:Int)<8)=false:=by simpa using mR hd1
  exact sr (fO fS U (qO 4 U (hx1 (i1,bL,dO) _ ⟨fm,hs16,gp,u1_0⟩ rd)))
 have df:decide ((i1:Int)<8)=true:=by simpa using s8 hd1
 have ek:i1<8:=by simpa using hY hd1
 have hr8:i1<8:=ek
 refine sr (tO df U (qL 17 [] U ?_))
 refine lp2 (de (aR (cG.mk office kind value kl known) l)) (λi w=>[(1,I dU),(16,.slice none 0 0),(20,.slice rb1 ((de (aR (cG.mk office kind value kl known) l)).length) rc1),(21,.map (some b2)),(22,I (i1:Int)),(57,I (i1:Int)),(60,.slice rb1 ((de (aR (cG.mk office kind value kl known) l)).length) rc1),(61,I (((de (aR (cG.mk office kind value kl known) l)).length:Nat):Int)),(62,I (i:Int))]) (λ_=>h2) (λw=>[(b2,w.2),z1]) (λi w=>i9 (zD .i64) vI h2 w.2 w.1/\(∀p∈w.1,0<=p.2/\p.2<=8)) (λs3 i w=>(aG.L3 i1 (λzg3_b2_0=>(aG.L1 l office kind value kl known (aG.K1 l dU office kind value kl known) rz1 (i1+1) zg3_b2_0))) s3 w.1) (bL,dO) sl1.1.1 hs16 ⟨gp,ob⟩ ?_ ?_
 .rintro i3 ⟨mW,Bl⟩ M6 hs18 ⟨qY,u3_0⟩ e
  try dsimp only at qY u3_0
  exact eS (bC (oi i1 U (qO 2 U (ag3 ((i1+1),mW,Bl,rz1) _ (Nat.lt_succ_self _) ⟨kw hd1,hY hd1,hs18,qY,ob⟩ rd))))
 rintro i3 ⟨mW,Bl⟩ y3 rz3 hd3 Cr Dd Db P4 hs19 ⟨qY,u3_0⟩ hx3 ag4 e
 try dsimp only at qY u3_0
 refine sr (tO Cr U (qO 8 U (aA (iF zP wM ty93 sl1.1 Dd U U U (λq6 A6=>dt ty93 A6 U U (aT zc93 (λb9=>aO 0 ty93 U U U U U U (qL 6 [0] U (aA (lu 1 (k:=y3.From) AB (fA mH) U qY (eX zv3) (show vI _ (I 0) 0 from U) U U (λv11 hv9=>?_)))))))))))
 obtain rfl:=hv9
 refine qL 11 [0] U (aA (lu 1 (k:=y3.To) AB (fA mH) U qY (eX zv3) (show vI _ (I 0) 0 from U) U U (λv12 hv10=>?_)))
 obtain rfl:=hv10
 refine qO 10 U (bp 4 [81,82,83,84,85] 81 85 ((mgetD mW y3.To 0)==(i1:Int)) U (λc8 hk3=>?_) (λe=>?_))
 .exact av (qO 3 U (hk3 _ U))
 refine av (bp 3 [86,87,88,89] 86 89 (!(mhas mW y3.From)) U (λc9 hk4=>?_) (λe=>?_))
 .exact av (qO 2 U (hk4 _ U))
 refine aF (ae hs19 U (λc10 hs20=>?_) (λc10 hs21=>?_))
 .exact qK 5 [0] U (oi i1 U (aA (j3 1 (k:=y3.From) (x:=(((i1+1):Nat):Int)) AB (fA mH) U qY U U U (λmo3 hm2=>qO 3 U (oi i3 U (qO 2 U (bo (L':=[(b2,mo3),z1]) js (ag4 ((mput mW y3.From (((i1+1):Nat):Int)),mo3) hs20 ⟨hm2,(by first|assumption|exact xj (P:=λx:Int=>0<=x/\x<=8) _ ob ob)⟩))))))))
 exact aI (qT 2 U (oi i3 U (qO 2 U (bo (L':=[(b2,Bl),z1]) js (ag4 (mW,Bl) hs21 ⟨qY,(by first|assumption|exact xj (P:=λx:Int=>0<=x/\x<=8) _ ob ob)⟩)))))
theorem xw(h:HF)(l:List Interest)(ep:Option Addr)(eo:Nat)(person:Int)(parties:List Int)(lq:Option Addr)(lm:Nat)(di:Int)(known:Int)(hl:SlC jN h ep eo l)(hparties:SlC zC h lq lm parties):Ret prog 111 [.slice ep l.length eo,I person,.slice lq parties.length lm,I di,I known] h (I (cW l person parties di known)):=by
 refine sT func111 U ntmps111 U λX hM hX hF=>?_
 have hs0:=@rfl _ (cW l person parties di known)
 refine qT 8 U (ai call67 (sU _ _ _ _ hl) U (qO 7 U (ae hs0 U (λc1 hs1=>?_) (λc1 hs2=>?_))))
 .exact sr (qO 3 U (nretP [I (cX l)] (ci hs1)))
 refine qK 12 [] U ?_
 refine lp1 parties (λi w=>[(1,I person),(2,.slice lq parties.length lm),(3,I di),(4,I known),(12,I w),(20,.slice lq parties.length lm),(21,I (parties.length:Int)),(22,I (i:Int))]) ([]) (λs1 i w=>(cW.L1 (cW.K1 person parties di known)) s1 w) (-1) hparties.1.1 hs2 ?_ ?_
 .rintro i1 nX fm hs4 e
  refine qT 4 U (ai CG (gQ h person 64) U (qO 2 U (bT 4 [38,39,40,41,42] 38 42 (decide (16<(parties.length:Int))) U (λc2 hk1=>?_) (λe=>?_))))
  .exact qL 4 [] U (hk1 _ U)
  refine av (bT 4 [43,44,45,46,47] 43 47 (!(bH di 1099511627776)) U (λc3 hk2=>?_) (λe=>?_))
  .exact av (ai CG (gQ h di 1099511627776) U (qO 2 U (hk2 _ U)))
  refine av (bT 4 [48,49,50,51,52] 48 52 (!(bH known 1099511627776)) U (λc4 hk3=>?_) (λe=>?_))
  .exact av (ai CG (gQ h known 1099511627776) U (qO 2 U (hk3 _ U)))
  refine aF (ae hs4 U (λc5 hs5=>?_) (λc5 hs6=>?_))
  .exact sr (an (nretP [I 1] (ci hs5)))
  exact aI (qT 4 U (nretP [I 0] (ci hs6)))
 rintro i1 nX y1 rz1 hd1 df aS ek gu hs9 hx1 ag1 e
 refine sr (tO df U (qO 8 U (aA (iF (λy=>[I y]) ec ty3 hparties.1 aS U U U (λq2 A2=>dj ty3 A2 U (qO 9 U (bT 3 [29,30,31,32] 29 32 (decide (1048576<y1)) U (λc6 hk4=>?_) (λe=>?_))))))))
 .exact av (qO 2 U (hk4 _ U))
 refine aF (ae hs9 U (λc7 hs10=>?_) (λc7 hs11=>?_))
 .exact sr (an (nretP [I 1] (ci hs10)))
 exact aI (qT 6 U (oi i1 U (qO 2 U (ag1 y1 hs11))))
theorem uK(h:HF)(v0:List Interest)(ud:Option Addr)(ua:Nat)(v0_q:Addr)(v1:List (dP×Interest))(Nq:Nat)(v1_q:Addr)(hv0:SlC jN h ud ua v0)(av0:At h v0_q [.slice ud v0.length ua])(hv1:tw dP.enc (iP jN) h Nq v1)(av1:At h v1_q [.map (some Nq)]):Itr prog (.func (.func 208) #[] (kB [.pointer (some v0_q),.pointer (some v1_q)])) vo (bR v0 v1) h:=by
 refine sR call208 ?_
 intro yf ya yb C Sp Pn h1 A hle m1 m2 m3 hC hy
 refine jb IQ U ntmps208 U λX hXM hX=>?_
 have hs0:bR v0 v1=[]++bR v0 v1:=rfl
 refine sr (dj ty24 (av0.mono hle) U (qL 3 [] U ?_))
 refine lp2 v0 (λi w=>[(0,.func yf ya yb),(2,.pointer (some v1_q)),(6,.slice ud v0.length ua),(7,I (v0.length:Int)),(8,I (i:Int))]) (λw=>w.2.2) (λw=>w.2.1) (λi w=>C w.1 w.2.2 w.2.1/\xN h1 w.2.2) (λs1 i w=>w.1++(bR.L1 v1 (bR.K1)) s1) ([],A,h1) ((hv0.mono Ss hle).1.1) hs0 ⟨hC,lf⟩ ?_ ?_
 .rintro i1 ⟨dn1,A1_,hh1⟩ fm hs1 ⟨hC1_,hl1⟩ e
  refine ef ?_
  have hs2:bR v0 v1=dn1:=hs1.trans (List.append_nil _)
  exact sS [] (A:=A1_) IQ U (List.Sublist.refl _) (.inl (hs2▸hC1_))
 rintro i1 ⟨dn1,A1_,hh1⟩ y1 rz1 hd1 df aS ek gu hs3 ⟨hC1_,hl1⟩ hx1 ag1 e
 refine sr (tO df U (qO 8 U (aA (iF vD vX ty97 (hv0.mono Ss (hle.t hl1)).1 aS U U U (λq2 A2=>dt ty97 A2 U U (aT zc97 (λb2=>aO 0 ty97 U U U U U U (im (L':=[(b2,O (vD y1) 97)]++(A1_)) U (qO 2 U ?_)))))))))
 let z1:Nat×Obj:=(b2,O (vD y1) 97)
 refine er ([z1]) mixed kr jn (λdY _=>?_)
 refine qB [0] U (tf 1 U U (rj 0 ty4 U U U) (qA [2,3] U ?_))
 refine dh 15 U (λc1=>?_) (λc1=>?_)
 .refine tf 4 U U (rh ty282 (av1.mono (hle.t hl1)) U) (qB [5] U (tf 6 U U (rj 0 ty3 U U U) (qB [7] U (tf 8 U U (rj 0 ty3 U U U) (qB [9] U (tf 10 U U (rj 0 ty4 U U U) (tf 13 U U (λ_ _ hj=>jg ty97 U (hj.nth (i:=0) U) U) (tn 11 U (fI (cells:=[I y1.Person,I y1.Party,.bool y1.Of]) (places:=[(0,1),(1,1),(2,1)]) LN zc284 kr kr (⟨jn,tn 12 U ?_⟩))))))))))
  obtain⟨o2,hb2,hm2⟩:=(hv1.mono (iP.mono Ss) (hle.t hl1))
  refine ny (k:=(dP.mk y1.Person y1.Party y1.Of)) underlying282 uq hb2 hm2 (eX zv97) (show(iP jN) _ (.agg (kB [I 0,I 0,I 0,I 0,I 0,.bool false,.bool false])) (SD 0 0 0 0 0 false false)from⟨_,U,U⟩) U U (λv2 hv2=>?_)
  obtain⟨_,rfl,rfl⟩:=hv2
  refine⟨jn,(tf 14 U U (λ_ _ _=>L5 (Iq (mgetD v1 (dP.mk y1.Person y1.Party y1.Of) (SD 0 0 0 0 0 false false)) y1) eqg97 U U) (tf 15 U U (λ_ _ _=>nC U (cb (show(decide ((mgetD v1 (dP.mk y1.Person y1.Party y1.Of) (SD 0 0 0 0 0 false false))=y1))=((!y1.Gone)&&(decide ((mgetD v1 (dP.mk y1.Person y1.Party y1.Of) (SD 0 0 0 0 0 false false))=y1)))from by first|(rw[c1];rfl)|(rw[c1];rfl)|simp[c1]))) (tm 16 U ?_)))⟩
  refine dh 28 U (λc2=>?_) (λc2=>?_)
  .have ct1:=c2
   have hs4:=hs3.trans (congrArg (dn1++·) (bt ct1))
   refine tm 17 U (tf 18 U U (λ_ _ hj=>jg ty97 U (hj.nth (i:=0) U) U) ?_)
   have hx1:bR v0 v1=dn1++(y1::(bR.L1 v1 (bR.K1) rz1)):=hs4
   refine tn 19 U (kp ([z1]) A1_ ap (hy dn1 y1 _ _ _ _ hx1 hl1 hC1_ U) U U (λh2 A3 hle1 hC1=>?_) (λh3 A4 hle2 hS1=>?_) (λch1 h4 A5 hle3 hP1 e=>gy (mP [] (A:=A5) IQ (List.sublist_append_right _ _) hP1)))
   .have hs5:bR v0 v1=(dn1++[y1])++((bR.L1 v1 (bR.K1) rz1)):=hx1.trans ap
    exact⟨⟨hle1,λ_ hp=>List.Sublist.subset js hp⟩,nH (K2:=[z1]) hle1 (λ_ hp=>hp) (qA [20,21] U (aJ kr (qT 4 U (oi i1 U (qO 2 U (bo (L':=A3) js (ag1 ((dn1++[y1]),A3,h2) hs5 ⟨hC1,(hl1.t hle1)⟩)))))))⟩
   exact⟨⟨hle2,λ_ hp=>List.Sublist.subset js hp⟩,nH (K2:=[z1]) hle2 (λ_ hp=>hp) (qA [20,21] U (aJ kr (ls U (ef (mE [] (A:=A4) IQ U js (.inr hS1))))))⟩
  have ct2:=c2
  have hs6:=hs3.trans (congrArg (dn1++·) (bf ct2))
  exact tk 17 U U (qR 18 4 U (aJ kr (qT 4 U (oi i1 U (qO 2 U (bo (L':=A1_) js (ag1 (dn1,A1_,hh1) hs6 ⟨hC1_,hl1⟩)))))))
 refine qR 4 11 U (tf 15 U U (λ_ _ _=>nC U (cb (show false=((!y1.Gone)&&(decide ((mgetD v1 (dP.mk y1.Person y1.Party y1.Of) (SD 0 0 0 0 0 false false))=y1)))from by first|(rw[c1];rfl)|(rw[c1];rfl)|simp[c1]))) (tm 16 U ?_))
 refine dh 28 U (λc3=>?_) (λc3=>?_)
 .have ct3:=c3
  have hs7:=hs3.trans (congrArg (dn1++·) (bt ct3))
  refine tm 17 U (tf 18 U U (λ_ _ hj=>jg ty97 U (hj.nth (i:=0) U) U) ?_)
  have hx2:bR v0 v1=dn1++(y1::(bR.L1 v1 (bR.K1) rz1)):=hs7
  refine tn 19 U (kp ([z1]) A1_ ap (hy dn1 y1 _ _ _ _ hx2 hl1 hC1_ U) U U (λh5 A6 hle4 hC2=>?_) (λh6 A7 hle5 hS2=>?_) (λch2 h7 A8 hle6 hP2 e=>gy (mP [] (A:=A8) IQ (List.sublist_append_right _ _) hP2)))
  .have hs8:bR v0 v1=(dn1++[y1])++((bR.L1 v1 (bR.K1) rz1)):=hx2.trans ap
   exact⟨⟨hle4,λ_ hp=>List.Sublist.subset js hp⟩,nH (K2:=[z1]) hle4 (λ_ hp=>hp) (qA [20,21] U (aJ kr (qT 4 U (oi i1 U (qO 2 U (bo (L':=A6) js (ag1 ((dn1++[y1]),A6,h5) hs8 ⟨hC2,(hl1.t hle4)⟩)))))))⟩
  exact⟨⟨hle5,λ_ hp=>List.Sublist.subset js hp⟩,nH (K2:=[z1]) hle5 (λ_ hp=>hp) (qA [20,21] U (aJ kr (ls U (ef (mE [] (A:=A7) IQ U js (.inr hS2))))))⟩
 have ct4:=c3
 have hs9:=hs3.trans (congrArg (dn1++·) (bf ct4))
 exact tk 17 U U (qR 18 4 U (aJ kr (qT 4 U (oi i1 U (qO 2 U (bo (L':=A1_) js (ag1 (dn1,A1_,hh1) hs9 ⟨hC1_,hl1⟩)))))))
end
section
open Go.Proofs Go.Proofs.Tryz Go.RowKit
theorem GE{out:List Int}{x:Int}:(compStep out x).getLast? = some x:=by
 unfold compStep
 split
 .assumption
 .simp
theorem FS(xs:List Int):∀k,k<=xs.length->Lib.compactUpTo xs.toArray k=compI (xs.take k)/\(0<k->(compI (xs.take k)).getLast? = xs[k-1]?)
 |0,_=>⟨by simp[Lib.compactUpTo,compI],λh=>absurd h (Nat.lt_irrefl _)⟩
 |k+1,hk=>by
  obtain⟨h1,h2⟩:=FS xs k (by omega)
  have hx:xs[k]? = some xs[k]:=qF (by omega)
  have ht:xs.take (k+1)=xs.take k++[xs[k]]:=by rw[List.take_add_one,hx];rfl
  have hc:compI (xs.take (k+1))=compStep (compI (xs.take k)) xs[k]:=by unfold compI;rw[ht,List.foldl_append];rfl
  refine⟨?_,λ_=>by rw[hc,GE,Nat.add_sub_cancel,hx]⟩
  rw[Lib.compactUpTo_succ,h1,hc]
  have hd:xs.toArray[k]! = xs[k]:=by simp[getElem!_pos,show k<xs.length by omega]
  rcases Nat.eq_zero_or_pos k with rfl|hk0
  .simp[Lib.keeps,compI,compStep,hd]
  .have hl:=h2 hk0
   have hd1:xs.toArray[k-1]! = xs[k-1]:=by simp[getElem!_pos,show k-1<xs.length by omega]
   have hx1:xs[k-1]? = some xs[k-1]:=qF (by omega)
   unfold compStep
   rw[hl,hx1,hd]
   by_cases he:xs[k-1]=xs[k]
   .have:Lib.keeps xs.toArray k=false:=Lib.keeps_neg hk0 (by rw[hd,hd1,he])
    simp[this,he]
   .have:Lib.keeps xs.toArray k=true:=Lib.keeps_pos (by rw[hd,hd1];exact λe=>he e.symm)
    simp[this,he]
theorem Lt(xs:List Int):Lib.compact xs=compI xs:=by
 have:=(FS xs xs.length (jG _)).1
 rw[List.take_length]at this
 exact this
theorem Pf(xs:List Int):(compI xs).length<=xs.length:=by
 have:∀(l acc:List Int),(l.foldl compStep acc).length<=acc.length+l.length:=by
  intro l
  induction l with
  |nil=>intro acc;exact jG _
  |cons y l ih=>
   intro acc
   have h1:=ih (compStep acc y)
   have h2:(compStep acc y).length<=acc.length+1:=by unfold compStep;split<;>simp
   simp only[List.foldl_cons,xA];omega
 have h3:=this xs []
 simpa[compI]using h3
theorem pG(h:HF)(xs:List Int)(b:Option Addr)(c:Nat)(G:LH)(hG:du zC 3 h xs b c G):
  nu prog 136 [.slice b xs.length c].toArray h G (λr h' G'=>h'=h/\r=.returned (.slice b (slices_Compact_int xs).length c)/\du zC 3 h (slices_Compact_int xs) b c G'):=by
 intro w hp
 rcases hG with⟨rfl,rfl,rfl,rfl⟩|⟨bk,cl,sp,rfl,hcl,hlen,hcap,hmax,rfl⟩
 .refine(kj (Tryz.slices_Compact_int_empty none 0 w) (λw' hw=>by cases hw.1)).mono ?_
  rintro e w' ⟨rfl,rfl⟩
  exact⟨h,[],St.start hp,rfl,rfl,du.nil⟩
 .have hb:=hp.own _ (xC.2 rfl)
  simp only at hb
  have hcl':cl=xs.map (zD .i64):=by
   clear hlen hb hp hcap hmax
   induction xs generalizing cl with
   |nil=>exact hcl
   |cons y l ih=>
    obtain⟨cs,r,rfl,_,hr,hl⟩:=hcl
    have:cs=[.int .i64 y]:=hr
    rw[this,ih r hl];rfl
  subst hcl'
  have hH:Sort.Holds (zD .i64) w bk 0 xs.toArray:=by
   refine holds_of_blockI (cur:=(xs.map (zD .i64)++sp).toArray) (e:=3) hb ?_
   simp
  refine(kj (Tryz.slices_Compact_int bk 0 c xs w hH hmax hcap) (λw' hw=>by cases hw.1)).mono ?_
  rw[Lt]
  have hle:=Pf xs
  rintro e w' ⟨rfl,n,rfl⟩
  let ys:List Int:=compI xs++List.replicate (xs.length-(compI xs).length) 0
  have hys:ys.length=xs.length:=by simp[ys];omega
  obtain⟨g1,g2,g3,g4,g5⟩:=grownBy_sortedI (w:=w) (g:=bk) (n:=n) (os:=#[]) ys.toArray
  have hnew:=heap_sortedI (w:=w) (g:=bk) (n:=n) (os:=#[]) ys.toArray hb
  have htake:=take_putCellsI (xs.map (zD .i64)++sp).toArray ys (by rw[hys];simp)
  have hgr:∀W:World,Go.Sort.grow W #[]=W:=λW=>by simp[Go.Sort.grow]
  rw[hgr]at g1 g2 g3 g4 g5 hnew
  refine⟨h,[(bk,.cells (Sort.putCells (zD .i64) 0 ys.toArray (xs.map (zD .i64)++sp).toArray) 3 (0,0))],⟨g1,g2,g3,g4,λk hk hM=>g5 k hk (λe=>hM (by cases e;simp)),λ_ _ e=>e,λ_ _=>rfl,λk o e=>?_,λq hq=>?_,?_,?_,?_⟩,rfl,rfl,?_⟩
  .have hne:k≠bk:=λe'=>by
    have:=hp.free _ (xC.2 rfl)
    simp only at this
    rw[e',this]at e;cases e
   exact(g5 k (gY (hp.imm k o e)) (λe'=>by cases e';exact hne rfl)).trans (hp.imm k o e)
  .rw[xC.1 hq];exact hnew
  .simp
  .intro q hq;rw[xC.1 hq];exact hp.free (bk,jJ (xs.map (zD .i64)++sp).toArray 3 (0,0)) (xC.2 rfl)
  .intro q hq;rw[xC.1 hq];exact .inr (by simp)
  .have hcells:∀l:List Int,bz zC h (l.map (zD .i64)) l:=by
    intro l
    induction l with
    |nil=>rfl
    |cons y l ih=>exact⟨[.int .i64 y],l.map (zD .i64),rfl,rfl,rfl,ih⟩
   have hg:du zC 3 h ys (some ⟨bk,0,none⟩) c [(bk,.cells (Sort.putCells (zD .i64) 0 ys.toArray (xs.map (zD .i64)++sp).toArray) 3 (0,0))]:=by
    refine .inr ⟨bk,ys.map (zD .i64),(Sort.putCells (zD .i64) 0 ys.toArray (xs.map (zD .i64)++sp).toArray).toList.drop ys.length,rfl,hcells _,?_,by rw[hys];exact hcap,by rw[hys];exact hmax,?_⟩
    .rw[←htake,List.take_append_drop]
     simpa[Sort.putCells]using hlen
    .rw[←htake,List.take_append_drop]
   have:=hg.take (compI xs).length
   rwa [show ys.take (compI xs).length=compI xs from by simp[ys]]at this
end
variable {κ:Type}
section
open Go.Proofs Go.Proofs.Tryz
theorem pB.length{κ α : Type}{enc:κ->Value}{V:HF->Value->α->Prop}{h:HF}:∀{es:List MapEntry}{m:List (κ×α)},pB enc V h es m->es.length=m.length
 |[],[],_=>rfl
 |_::_,(_,_)::_,⟨_,_,c⟩=>by simp[pB.length c]
 |[],_::_,x=>x.elim
 |_::_,[],x=>x.elim
theorem Ab[Inhabited κ](ks:List κ)(is:List Nat)(hn:is.Nodup)(hlt:∀i∈is,i<ks.length)(hall:∀i,i<ks.length->i∈is):(is.map λi=>(ks[i]?).getD default).Perm ks:=by
 have h1:is.Perm (qH ks.length):=(List.perm_ext_iff_of_nodup hn List.nodup_range).2 (λi=>by rw[List.mem_range];exact⟨hlt i,hall i⟩)
 refine(h1.map _).trans (List.Perm.of_eq ?_)
 apply List.ext_getElem (by simp)
 intro i h2 h3
 simp at h2
 simp[qF h2]
theorem CX[Inhabited κ](ks:List κ)(is:List Nat)(hn:is.Nodup)(hlt:∀i∈is,i<ks.length):∃rest,((is.map λi=>(ks[i]?).getD default)++rest).Perm ks:=by
 let js:=(qH ks.length).filter λi=>!is.contains i
 have hd:(is++js).Nodup:=by
  rw[SJ]
  refine⟨hn,List.nodup_range.filter _,λa ha b hb e=>?_⟩
  subst e
  simp[js]at hb
  exact hb.2 ha
 refine⟨js.map λi=>(ks[i]?).getD default,?_⟩
 rw[←Su]
 refine Ab ks (is++js) hd (λi hi=>?_) (λi hi=>?_)
 .rcases kF.1 hi with h|h
  .exact hlt i h
  .simp[js]at h;exact h.1
 .by_cases hm:i∈is
  .exact qV _ hm
  .exact qN _ (by simp[js,hi,hm])
theorem vj(h:HF)(m:List (Int×Version))(bk:Nat)(q:Addr)(hm:tw (zD .i64) (iP jQ) h bk m)(aq:At h q [.map (some bk)]):
  F8 prog (.func (.func 262) #[] #[.pointer (some q)]) (λk _ vs=>vs=[(zD .i64) k]) (λxs=>xs.Perm (m.map (·.1))) h:=by
 refine⟨262,[.pointer (some q)],rfl,call262,?_⟩
 intro yf ya yb C Sp Pn h1 A hle m1 m2 m3 hC hy
 obtain⟨o,hb,m0,hpm,hnd0,es,clock,rfl,hE,hP,hcl⟩:=hm.mono (iP.mono zN) hle
 have hnod:(es.map (·.born)).Nodup:=hP.imp (λh=>Nat.ne_of_lt h)
 have hkeys:=hE.keys
 have hlen:es.length=(m0.map (·.1)).length:=by rw[hE.length];simp
 let ks:=m0.map (·.1)
 let kf:Nat->Int:=λi=>(ks[i]?).getD default
 let bf:Nat->Nat:=λi=>(es[i]?.map (·.born)).getD 0
 have hkey:∀(i:Nat)(en:MapEntry),es[i]? = some en->en.key=(zD .i64) (kf i):=by
  intro i en hi
  have h2:(es.map (·.key))[i]? = some en.key:=by simp[hi]
  rw[hkeys]at h2
  simp only[R9]at h2
  simp only[kf,ks,R9]
  cases hq:m0[i]? with
  |none=>rw[hq]at h2;simp at h2
  |some p=>rw[hq]at h2;simp at h2;simp[←h2]
 refine m7 (args:=[.func yf ya yb]) (cap:=[.pointer (some q)]) call262 ?_
 refine jb NF rfl ntmps262 rfl λX hXM hX=>?_
 refine dK (bC (dj ty240 (aq.mono hle) rfl (aA (LX NE hb rfl (λit=>aF ?_)))))
 refine ir (ι:=List Nat×LH×HF) (λi=>[]) (λi=>i.2.2) (λi=>[(it,Obj.mapIter (some bk) clock (kB (i.1.map bf)) clock)]++i.2.1) (λi=>(i.1.Nodup/\(∀j∈i.1,j<es.length)/\(∀j,j<es.length->j∈i.1))/\C (i.1.map kf) i.2.2 i.2.1) ?_ (λhx=>?_)
 .rintro⟨js,A1,h2⟩ ⟨⟨hn,hl,ha⟩,hC1⟩ e
  exact wP NF (λa _ w _=>mg rfl a w) (λw hw=>hw.sub (List.sublist_append_right _ _)) (.inl ⟨rfl,.inl ⟨_,(Ab ks js hn (λi hi=>by rw[←hlen];exact hl i hi) (λi hi=>ha i (by rw[hlen];exact hi))).trans (hpm.map _),hC1⟩⟩)
 refine jZ (ι:=List Nat×LH×HF) (λi=>[(0,.func yf ya yb),(5,.pointer (some ⟨it,0,none⟩))]) (λi=>i.2.2) (λi=>[(it,Obj.mapIter (some bk) clock (kB (i.1.map bf)) clock)]++i.2.1) (λi=>i.1.Nodup/\(∀j∈i.1,j<es.length)/\C (i.1.map kf) i.2.2 i.2.1/\xN h1 i.2.2) (λi=>es.length-i.1.length) ([],A,h1) ⟨rfl,rfl,trivial⟩ (λw hw=>hw) ⟨SK,λ_ hj=>(kA hj).elim,hC,xM _⟩ ?_
 rintro⟨js,A1,h2⟩ ⟨hn,hl,hC1,hle2⟩ ag e
 dsimp only at hn hl hC1 hle2
 have hlp:=C2 hnod js hl
 show TT _ _ _ _ _ (upds e [(0,.func yf ya yb),(5,.pointer (some ⟨it,0,none⟩))]) _ _ h2 ([(it,Obj.mapIter (some bk) clock (kB (js.map bf)) clock)]++A1)
 refine dK (bC (aA (N9 0 rfl (hle2 _ _ hb) (λx hx=>hcl x (by simpa using hx)) (jG _) rfl (λh0=>?_) (λen hen=>?_))))
 .refine mL rfl rfl (aF (dK (oM rfl (lK rfl ?_))))
  exact hx (js,A1,h2) _ ⟨⟨hn,hl,hlp.1 h0⟩,hC1⟩ trivial
 .obtain⟨i,hi,hni⟩:=hlp.2 en hen
  have hil:i<es.length:=by
   rcases jL i es.length with h3|h3
   .exact h3
   .simp[vL h3]at hi
  have hmem:en∈es.toArray.toList:=by simpa using zE hi
  have hn':(js++[i]).Nodup:=by
   rw[SJ];exact⟨hn,by simp,λa ha b hb' e'=>by simp at hb';subst hb';subst e';exact hni ha⟩
  have hl':∀j∈js++[i],j<es.length:=λj hj=>by
   rcases kF.1 hj with h3|h3
   .exact hl j h3
   .simp at h3;subst h3;exact hil
  obtain⟨rest,hrest⟩:=CX ks (js++[i]) hn' (λj hj=>by rw[←hlen];exact hl' j hj)
  have vq:js.length+1<=es.length:=by
   have h9:=hrest.length_eq
   rw[jA,List.length_map,jA]at h9
   have h10:ks.length=es.length:=hlen.symm
   simp only[xA,vB]at h9
   omega
  have hrest':(js.map kf++kf i::rest).Perm (m.map (·.1)):=by
   rw[Su,kC]at hrest
   exact List.Perm.trans hrest (hpm.map _)
  obtain⟨ekey,evl,eborn⟩:=en
  have hk':ekey=(zD .i64) (kf i):=hkey i _ hi
  subst hk'
  refine mL rfl rfl (aF ?_)
  refine dK (ls rfl (aI (me ?_)))
  refine dK (bC ?_)
  refine aA (eT (L7 0 rfl (hle2 _ _ hb) hmem (by simpa using hnod) rfl) ?_)
  refine mL rfl rfl (gg (aF ?_))
  refine dK (bC (av (av ?_)))
  refine aA (kp [(it,Obj.mapIter (some bk) clock ((kB (js.map bf)).push eborn) clock)] A1 rfl (hy (js.map kf) (kf i) [(zD .i64) (kf i)] h2 A1 ⟨rest,hrest'⟩ hle2 hC1 rfl) rfl rfl (λh3 B hle3 hC3=>?_) (λh3 B hle3 hS3=>?_) (λch h3 B hle3 hP3 e'=>?_))
  .refine mU rfl (aF (oM rfl (aI (eS ?_))))
   have hpush:((kB (js.map bf)).push eborn)=kB ((js++[i]).map bf):=by simp[bf,hi]
   rw[hpush]
   refine ag (js++[i],B,h3) _ (by show es.length-(js++[i]).length<es.length-js.length;rw[jA];simp only[xA,vB];omega) ⟨hn',hl',by simpa using hC3,vF hle2 hle3⟩ ⟨rfl,rfl,trivial⟩
  .refine mU rfl (aF (ls rfl ?_))
   exact mN NF (λa _ w _=>mg rfl a w) (λw hw=>hw.sub (List.sublist_append_right _ _)) (.inl ⟨rfl,.inr hS3⟩)
  .exact NY NF (λw hw=>hw.sub (List.sublist_append_right _ _)) (.inr ⟨ch,rfl,hP3⟩)
theorem vk(h:HF)(m:List (OSeat×Appoint))(bk:Nat)(q:Addr)(hm:tw Sk (iP vH) h bk m)(aq:At h q [.map (some bk)]):
  F8 prog (.func (.func 275) #[] #[.pointer (some q)]) (λk _ vs=>vs=[Sk k]) (λxs=>xs.Perm (m.map (·.1))) h:=by
 refine⟨275,[.pointer (some q)],rfl,call275,?_⟩
 intro yf ya yb C Sp Pn h1 A hle m1 m2 m3 hC hy
 obtain⟨o,hb,m0,hpm,hnd0,es,clock,rfl,hE,hP,hcl⟩:=hm.mono (iP.mono xQ) hle
 have hnod:(es.map (·.born)).Nodup:=hP.imp (λh=>Nat.ne_of_lt h)
 have hkeys:=hE.keys
 have hlen:es.length=(m0.map (·.1)).length:=by rw[hE.length];simp
 let ks:=m0.map (·.1)
 let kf:Nat->OSeat:=λi=>(ks[i]?).getD default
 let bf:Nat->Nat:=λi=>(es[i]?.map (·.born)).getD 0
 have hkey:∀(i:Nat)(en:MapEntry),es[i]? = some en->en.key=Sk (kf i):=by
  intro i en hi
  have h2:(es.map (·.key))[i]? = some en.key:=by simp[hi]
  rw[hkeys]at h2
  simp only[R9]at h2
  simp only[kf,ks,R9]
  cases hq:m0[i]? with
  |none=>rw[hq]at h2;simp at h2
  |some p=>rw[hq]at h2;simp at h2;simp[←h2]
 refine m7 (args:=[.func yf ya yb]) (cap:=[.pointer (some q)]) call275 ?_
 refine jb ND rfl ntmps275 rfl λX hXM hX=>?_
 refine dK (bC (dj ty162 (aq.mono hle) rfl (aA (LX LG hb rfl (λit=>aF ?_)))))
 refine ir (ι:=List Nat×LH×HF) (λi=>[]) (λi=>i.2.2) (λi=>[(it,Obj.mapIter (some bk) clock (kB (i.1.map bf)) clock)]++i.2.1) (λi=>(i.1.Nodup/\(∀j∈i.1,j<es.length)/\(∀j,j<es.length->j∈i.1))/\C (i.1.map kf) i.2.2 i.2.1) ?_ (λhx=>?_)
 .rintro⟨js,A1,h2⟩ ⟨⟨hn,hl,ha⟩,hC1⟩ e
  exact wP ND (λa _ w _=>mg rfl a w) (λw hw=>hw.sub (List.sublist_append_right _ _)) (.inl ⟨rfl,.inl ⟨_,(Ab ks js hn (λi hi=>by rw[←hlen];exact hl i hi) (λi hi=>ha i (by rw[hlen];exact hi))).trans (hpm.map _),hC1⟩⟩)
 refine jZ (ι:=List Nat×LH×HF) (λi=>[(0,.func yf ya yb),(5,.pointer (some ⟨it,0,none⟩))]) (λi=>i.2.2) (λi=>[(it,Obj.mapIter (some bk) clock (kB (i.1.map bf)) clock)]++i.2.1) (λi=>i.1.Nodup/\(∀j∈i.1,j<es.length)/\C (i.1.map kf) i.2.2 i.2.1/\xN h1 i.2.2) (λi=>es.length-i.1.length) ([],A,h1) ⟨rfl,rfl,trivial⟩ (λw hw=>hw) ⟨SK,λ_ hj=>(kA hj).elim,hC,xM _⟩ ?_
 rintro⟨js,A1,h2⟩ ⟨hn,hl,hC1,hle2⟩ ag e
 dsimp only at hn hl hC1 hle2
 have hlp:=C2 hnod js hl
 show TT _ _ _ _ _ (upds e [(0,.func yf ya yb),(5,.pointer (some ⟨it,0,none⟩))]) _ _ h2 ([(it,Obj.mapIter (some bk) clock (kB (js.map bf)) clock)]++A1)
 refine dK (bC (aA (N9 0 rfl (hle2 _ _ hb) (λx hx=>hcl x (by simpa using hx)) (jG _) rfl (λh0=>?_) (λen hen=>?_))))
 .refine mL rfl rfl (aF (dK (oM rfl (lK rfl ?_))))
  exact hx (js,A1,h2) _ ⟨⟨hn,hl,hlp.1 h0⟩,hC1⟩ trivial
 .obtain⟨i,hi,hni⟩:=hlp.2 en hen
  have hil:i<es.length:=by
   rcases jL i es.length with h3|h3
   .exact h3
   .simp[vL h3]at hi
  have hmem:en∈es.toArray.toList:=by simpa using zE hi
  have hn':(js++[i]).Nodup:=by
   rw[SJ];exact⟨hn,by simp,λa ha b hb' e'=>by simp at hb';subst hb';subst e';exact hni ha⟩
  have hl':∀j∈js++[i],j<es.length:=λj hj=>by
   rcases kF.1 hj with h3|h3
   .exact hl j h3
   .simp at h3;subst h3;exact hil
  obtain⟨rest,hrest⟩:=CX ks (js++[i]) hn' (λj hj=>by rw[←hlen];exact hl' j hj)
  have vq:js.length+1<=es.length:=by
   have h9:=hrest.length_eq
   rw[jA,List.length_map,jA]at h9
   have h10:ks.length=es.length:=hlen.symm
   simp only[xA,vB]at h9
   omega
  have hrest':(js.map kf++kf i::rest).Perm (m.map (·.1)):=by
   rw[Su,kC]at hrest
   exact List.Perm.trans hrest (hpm.map _)
  obtain⟨ekey,evl,eborn⟩:=en
  have hk':ekey=Sk (kf i):=hkey i _ hi
  subst hk'
  refine mL rfl rfl (aF ?_)
  refine dK (ls rfl (aI (me ?_)))
  refine dK (bC ?_)
  refine aA (eT (L7 0 rfl (hle2 _ _ hb) hmem (by simpa using hnod) rfl) ?_)
  refine mL rfl rfl (aT zc182 (λb3=>aO 0 ty182 rfl rfl rfl rfl rfl rfl (aF ?_)))
  refine dK (bC (av (cM 0 ty182 rfl rfl rfl ?_)))
  refine aA (kp [(b3,jJ (vE (kf i)).toArray 182 (0,0)),(it,Obj.mapIter (some bk) clock ((kB (js.map bf)).push eborn) clock)] A1 rfl (hy (js.map kf) (kf i) [Sk (kf i)] h2 A1 ⟨rest,hrest'⟩ hle2 hC1 rfl) rfl rfl (λh3 B hle3 hC3=>?_) (λh3 B hle3 hS3=>?_) (λch h3 B hle3 hP3 e'=>?_))
  .refine mU rfl (aF (oM rfl (aI (eS ?_))))
   have hpush:((kB (js.map bf)).push eborn)=kB ((js++[i]).map bf):=by simp[bf,hi]
   rw[hpush]
   refine bo (L':=[(it,Obj.mapIter (some bk) clock (kB ((js++[i]).map bf)) clock)]++B) (.cons _ (List.Sublist.refl _)) ?_
   refine ag (js++[i],B,h3) _ (by show es.length-(js++[i]).length<es.length-js.length;rw[jA];simp only[xA,vB];omega) ⟨hn',hl',by simpa using hC3,vF hle2 hle3⟩ ⟨rfl,rfl,trivial⟩
  .refine mU rfl (aF (ls rfl ?_))
   exact mN ND (λa _ w _=>mg rfl a w) (λw hw=>hw.sub (List.sublist_append_right _ _)) (.inl ⟨rfl,.inr hS3⟩)
  .exact NY ND (λw hw=>hw.sub (List.sublist_append_right _ _)) (.inr ⟨ch,rfl,hP3⟩)
end
variable {ass:Array Operand}{ats:Array TypeId}{f:FuncId}{vs:List Go.Value}
section
open Go.Proofs Go.Proofs.Tryz
abbrev KG{α : Type}(P:Program)(f:FuncId)(args:List Value)(h:HF)(R:Rp α)(E:TypeId)(S:List α->Prop):Prop:=
 nu P f args.toArray h [] (λr h' G=>∃xs bb c,S xs/\r=.returned (.slice bb xs.length c)/\du R E h' xs bb c G)
section steps
variable {P:Program} {b:Frame} {n:Nat} {ops:Array Oper} {F:List Frame->(Machine->Prop)->Prop} {e:Env} {ds:List Deferred} {X:Cx} {h:HF} {L:LH} {K:Env->HF->LH->Prop}
variable {d:Option Nat} {ty:TypeId} {pos:String} {af:Array Edge} {g:Option (Nat×Bool)}
theorem AQ{α:Type}{R:Rp α}{E:TypeId}{S:List α->Prop}(hc:∀args w,(callFunc f args).run P w=.ok (.enter f args) w)(hs:KG P f vs h R E S)(hvs:ass.toList.map e.ev=vs)(t':∀h' xs bb c G,h.le h'->S xs->du R E h' xs bb c G->K (pute e d (.slice bb xs.length c)) h' (L++G))(hg:guardB ops e ⟨d,.call ⟨.value (.func f),ass,ats⟩,ty,pos,af,g⟩=true:=by rfl):
  Stp P b n ops F ds X ⟨d,.call ⟨.value (.func f),ass,ats⟩,ty,pos,af,g⟩ e h L K:=by
 unfold Stp
 rw[if_pos hg]
 intro w hw
 have harr:ass.map e.ev=vs.toArray:=Sd (by simp[←hvs])
 have hr:(execOp e.ev ⟨d,.call ⟨.value (.func f),ass,ats⟩,ty,pos,af,g⟩).run P w=.ok (.enter f vs.toArray) w:=by
  simp[execOp,resolve,Env.ev,xJ,invoke,harr,hc]
 rw[hr]
 refine lr (by simp) (je (rq.mono (hs w (hw.sub (List.nil_sublist _)).pre) ?_))
 rintro x w' ⟨h',B,hst,xs,bb,c,hS,rfl,hG⟩
 exact⟨h',_,(St.after (A:=[]) (F:=L) hw hst).perm kJ,t' h' xs bb c B hst.le hS hG⟩
end steps
theorem DO(h:HF)(it:Value)(S:List Int->Prop)(hit:F8 prog it (λ(k:Int)(_:HF)(vs:List Value)=>vs=[zD .i64 k]) S h)(hS:∀xs,S xs->xs.length<=1000000000000):KG prog 315 [.slice none 0 0,it] h zC 3 S:=by
 refine cB func315 rfl ntmps315 rfl λX hM hX=>?_
 refine dK (bC (cv (λb1=>gg (aF (dK (dK (bC (av (aF (me (?_)))))))))))
 refine GV (it:=it) (S:=S) (ps:=[7])
  (λdone h' L'=>∃gb gc G,L'=[(b1,jJ (kB [.slice gb done.length gc]) 31 (0,0))]++G/\du zC 3 h' done gb gc G)
  (λ_ _ _=>False) (λ_ _ _=>False) rfl hit rfl (λx h' vs hv=>by rw[hv];rfl) ?_ (λ_ _ _ _ _ hf=>hf) (λ_ _ _ _ _ hf=>hf) ⟨none,0,[],rfl,du.nil⟩ ?_ ?_ (λ_ _ _ _ _ hf=>hf.elim) (λ_ _ _ _ _ hf=>hf.elim)
 .rintro done h1 h2 B hl ⟨gb,gc,G,rfl,hG⟩;exact⟨gb,gc,G,rfl,hG.mono xH hl⟩
 .rintro l1 r1 lp1 done y vs hr L' X' ⟨rest,hrest⟩ hle ⟨gb,gc,G,rfl,hG⟩ hv hlp hX' hXM
  obtain rfl:=hv
  have hlen:=hS _ hrest
  simp only[jA,xA]at hlen
  refine bC (gg (aF ?_))
  refine ji 0 rfl hlp (me (bC ?_))
  refine nN 2 ty31 rfl rfl rfl (av ?_)
  refine aA (bE (cells:=[.int .i64 y]) ec ty3 zc3 rfl rfl (by kernel_rfl) (λb3=>?_))
  refine aA (dE TN ([(b3,jJ (kB [.int .i64 y]) 3 (0,0)),(l1,.loop { lp1 with state:=.busy }),(r1,.deferred (some [])),(b1,jJ (kB [.slice gb done.length gc]) 31 (0,0))]) [] (λG=>[(b3,jJ (kB [.int .i64 y]) 3 (0,0)),(l1,.loop { lp1 with state:=.busy }),(r1,.deferred (some [])),(b1,jJ (kB [.slice gb done.length gc]) 31 (0,0))]++G) (G:=G) (show _=[(b3,jJ (kB [.int .i64 y]) 3 (0,0)),(l1,.loop { lp1 with state:=.busy }),(r1,.deferred (some [])),(b1,jJ (kB [.slice gb done.length gc]) 31 (0,0))]++(G++[])from by rw[List.append_nil];rfl) (λ_=>by first|rfl|simp only[xG]) ec ty3 zc3 rfl bytes3 hG rfl rfl (e8 (ys:=[y]) 0 rfl (show bz zC hr [.int .i64 y] [y]from⟨[.int .i64 y],[],rfl,rfl,rfl,rfl⟩)) (by simp only[jA,xA,vB];omega) (by simp only[jA,xA,vB];omega) (λob2 oc2 G2 gr2=>?_))
  refine cJ 3 ty31 rfl rfl rfl rfl rfl rfl (aF (eS ?_))
  refine bo (L':=(l1,.loop { lp1 with state:=.busy })::(r1,.deferred (some []))::([(b1,jJ (kB [.slice ob2 (done++[y]).length oc2]) 31 (0,0))]++G2)) (.cons _ (List.Sublist.refl _)) ?_
  exact H5 rfl ⟨ob2,oc2,G2,rfl,gr2⟩
 .rintro r1 xs h2 L' hxs hle ⟨gb,gc,G,rfl,hG⟩
  refine eS (dK (bC (nN 1 ty31 rfl rfl rfl (gg (aF ?_)))))
  refine lJ (L':=([(b1,jJ (kB [.slice gb xs.length gc]) 31 (0,0))]++G)++markB [r1]) (List.perm_append_singleton _ _).symm ?_
  exact uW [r1] func315 (λa ha w hw=>res1 rfl a ha w) (λw hw=>hw.sub (L':=G) (List.sublist_append_right _ _)) ⟨xs,gb,gc,hxs,rfl,hG⟩
theorem GM(h:HF)(it:Value)(S:List Int->Prop)(hit:F8 prog it (λ(k:Int)(_:HF)(vs:List Value)=>vs=[zD .i64 k]) S h)(hS:∀xs,S xs->xs.length<=1000000000000):KG prog 261 [it] h zC 3 S:=by
 refine cB func261 rfl ntmps261 rfl λX hM hX=>?_
 refine dK (bC (gg (aF (dK (bC (av ?_))))))
 refine aA (AQ call315 (DO h it S hit hS) rfl (λh' xs bb c G hle hxs hG=>?_))
 refine gg (aF ?_)
 exact mN func261 (λa ha w hw=>res1 rfl a ha w) (λw hw=>hw.sub (L':=G) (List.sublist_append_right _ _)) ⟨xs,bb,c,hxs,rfl,hG⟩
theorem CE(h:HF)(it:Value)(S:List OSeat->Prop)(hit:F8 prog it (λ(k:OSeat)(_:HF)(vs:List Value)=>vs=[Sk k]) S h)(hS:∀xs,S xs->xs.length<=1000000000000):KG prog 321 [.slice none 0 0,it] h Uj 182 S:=by
 refine cB func321 rfl ntmps321 rfl λX hM hX=>?_
 refine dK (bC (cv (λb1=>gg (aF (dK (dK (bC (av (aF (me (?_)))))))))))
 refine GV (it:=it) (S:=S) (ps:=[7])
  (λdone h' L'=>∃gb gc G,L'=[(b1,jJ (kB [.slice gb done.length gc]) 249 (0,0))]++G/\du Uj 182 h' done gb gc G)
  (λ_ _ _=>False) (λ_ _ _=>False) rfl hit rfl (λx h' vs hv=>by rw[hv];rfl) ?_ (λ_ _ _ _ _ hf=>hf) (λ_ _ _ _ _ hf=>hf) ⟨none,0,[],rfl,du.nil⟩ ?_ ?_ (λ_ _ _ _ _ hf=>hf.elim) (λ_ _ _ _ _ hf=>hf.elim)
 .rintro done h1 h2 B hl ⟨gb,gc,G,rfl,hG⟩;exact⟨gb,gc,G,rfl,hG.mono OSeat.aj hl⟩
 .rintro l1 r1 lp1 done y vs hr L' X' ⟨rest,hrest⟩ hle ⟨gb,gc,G,rfl,hG⟩ hv hlp hX' hXM
  obtain rfl:=hv
  have hlen:=hS _ hrest
  simp only[jA,xA]at hlen
  refine bC (aT zc182 (λb2=>aO 0 ty182 rfl rfl rfl rfl rfl rfl (aF ?_)))
  refine ji 1 rfl hlp (me (bC ?_))
  refine nN 3 ty249 rfl rfl rfl (cM 0 ty182 rfl rfl rfl ?_)
  refine aA (bE (cells:=[.int .i64 y.office,.int .i64 y.person]) Qq ty182 zc182 rfl rfl (by kernel_rfl) (λb3=>?_))
  refine aA (dE OSeat.ew ([(b3,jJ (kB [.int .i64 y.office,.int .i64 y.person]) 182 (0,0)),(b2,jJ (vE y).toArray 182 (0,0)),(l1,.loop { lp1 with state:=.busy }),(r1,.deferred (some [])),(b1,jJ (kB [.slice gb done.length gc]) 249 (0,0))]) [] (λG=>[(b3,jJ (kB [.int .i64 y.office,.int .i64 y.person]) 182 (0,0)),(b2,jJ (vE y).toArray 182 (0,0)),(l1,.loop { lp1 with state:=.busy }),(r1,.deferred (some [])),(b1,jJ (kB [.slice gb done.length gc]) 249 (0,0))]++G) (G:=G) (show _=[(b3,jJ (kB [.int .i64 y.office,.int .i64 y.person]) 182 (0,0)),(b2,jJ (vE y).toArray 182 (0,0)),(l1,.loop { lp1 with state:=.busy }),(r1,.deferred (some [])),(b1,jJ (kB [.slice gb done.length gc]) 249 (0,0))]++(G++[])from by rw[List.append_nil];rfl) (λ_=>by first|rfl|simp only[xG]) Qq ty182 zc182 rfl bytes182 hG rfl rfl (e8 (ys:=[y]) 0 rfl (show bz Uj hr [.int .i64 y.office,.int .i64 y.person] [y]from⟨[.int .i64 y.office,.int .i64 y.person],[],rfl,rfl,rfl,rfl⟩)) (by simp only[jA,xA,vB];omega) (by simp only[jA,xA,vB];omega) (λob2 oc2 G2 gr2=>?_))
  refine cJ 4 ty249 rfl rfl rfl rfl rfl rfl (aF (eS ?_))
  refine bo (L':=(l1,.loop { lp1 with state:=.busy })::(r1,.deferred (some []))::([(b1,jJ (kB [.slice ob2 (done++[y]).length oc2]) 249 (0,0))]++G2)) (.cons _ (.cons _ (List.Sublist.refl _))) ?_
  exact H5 rfl ⟨ob2,oc2,G2,rfl,gr2⟩
 .rintro r1 xs h2 L' hxs hle ⟨gb,gc,G,rfl,hG⟩
  refine eS (dK (bC (nN 1 ty249 rfl rfl rfl (gg (aF ?_)))))
  refine lJ (L':=([(b1,jJ (kB [.slice gb xs.length gc]) 249 (0,0))]++G)++markB [r1]) (List.perm_append_singleton _ _).symm ?_
  exact uW [r1] func321 (λa ha w hw=>res1 rfl a ha w) (λw hw=>hw.sub (L':=G) (List.sublist_append_right _ _)) ⟨xs,gb,gc,hxs,rfl,hG⟩
theorem Gb(h:HF)(it:Value)(S:List OSeat->Prop)(hit:F8 prog it (λ(k:OSeat)(_:HF)(vs:List Value)=>vs=[Sk k]) S h)(hS:∀xs,S xs->xs.length<=1000000000000):KG prog 273 [it] h Uj 182 S:=by
 refine cB func273 rfl ntmps273 rfl λX hM hX=>?_
 refine dK (bC (gg (aF (dK (bC (av ?_))))))
 refine aA (AQ call321 (CE h it S hit hS) rfl (λh' xs bb c G hle hxs hG=>?_))
 refine gg (aF ?_)
 exact mN func273 (λa ha w hw=>res1 rfl a ha w) (λw hw=>hw.sub (L':=G) (List.sublist_append_right _ _)) ⟨xs,bb,c,hxs,rfl,hG⟩
end
section
open Go.Proofs Go.Proofs.Tryz
theorem yE(h:HF)(it:Value)(ks:List Int)(hit:F8 prog it (λ(k:Int)(_:HF)(vs:List Value)=>vs=[zD .i64 k]) (λxs=>xs.Perm ks) h)(hk:ks.length<=1000000000000):
  ju prog 168 [it] h (λv h'=>∃(b:Option Addr)(c:Nat),v=.slice b (sortI ks).length c/\SlC zC h' b c (sortI ks)):=by
 refine cB func168 rfl ntmps168 rfl λX hM hX=>?_
 refine dK (bC (gg (aF (dK (bC (av ?_))))))
 refine aA (AQ call261 (GM h it _ hit (λxs hx=>by rw[hx.length_eq];exact hk)) rfl (λh' xs bb c G hle hxs hG=>?_))
 refine gg (aF (dK (bC (av ?_))))
 refine aA (m9 [] G [] NC (mz h' xs bb c G hG (by rw[hxs.length_eq];exact hk)) (by simp) rfl (λG' hG'=>?_))
 refine aF (dK (bC (av (gg (aF ?_)))))
 refine fx xH [] G' [] (by simp) hM hG' (λh2 hle2 sl=>?_)
 refine jY [.slice bb xs.length c] func168 rfl ⟨rfl,trivial⟩ ⟨bb,c,?_,?_⟩
 .rw[←I2 hxs,iM];rfl
 .rw[←I2 hxs];exact sl
theorem xn(h:HF)(m:List (Int×Version))(Lb:Nat)(hm:tw (zD .i64) (iP jQ) h Lb m):ju prog 169 [.map (some Lb)] h (λv h'=>F8 prog v (λ(k:Int)(_:HF)(vs:List Value)=>vs=[(zD .i64) k]) (λxs=>xs.Perm (m.map (·.1))) h'):=by
 refine cB func169 rfl ntmps169 rfl λX hM hX=>?_
 refine dK (bC (cv (λb1=>gg (aF (dK (bC ?_))))))
 refine aQ 0 rfl hM (λh2 hle2 hb2=>?_)
 refine aA (eA rfl rfl ?_)
 refine gg (aF ?_)
 refine jY [.func (.func 262) #[] #[.pointer (some ⟨b1,0,none⟩)]] func169 rfl ⟨rfl,trivial⟩ ?_
 exact vj h2 m Lb ⟨b1,0,none⟩ (hm.mono (iP.mono zN) hle2) (cx hb2)
theorem xp(h:HF)(m:List (OSeat×Appoint))(Lb:Nat)(hm:tw Sk (iP vH) h Lb m):ju prog 180 [.map (some Lb)] h (λv h'=>F8 prog v (λ(k:OSeat)(_:HF)(vs:List Value)=>vs=[Sk k]) (λxs=>xs.Perm (m.map (·.1))) h'):=by
 refine cB func180 rfl ntmps180 rfl λX hM hX=>?_
 refine dK (bC (cv (λb1=>gg (aF (dK (bC ?_))))))
 refine aQ 0 rfl hM (λh2 hle2 hb2=>?_)
 refine aA (eA rfl rfl ?_)
 refine gg (aF ?_)
 refine jY [.func (.func 275) #[] #[.pointer (some ⟨b1,0,none⟩)]] func180 rfl ⟨rfl,trivial⟩ ?_
 exact vk h2 m Lb ⟨b1,0,none⟩ (hm.mono (iP.mono xQ) hle2) (cx hb2)
end
variable {P:Program}{pe:Int->Go.Value}{v:Go.Value}{x:Operand}{ρ:Type}
section
open Go.Proofs Go.Proofs.Tryz
set_option maxHeartbeats 2000000
theorem wB(h:HF)(l:List Interest)(ep:Option Addr)(eo:Nat)(il:Int)(known:Int)(hl:SlC jN h ep eo l):ju prog 113 [.slice ep l.length eo,I il,I known] h (λv h'=>∃(rv0:Value),v=rv0/\Itr prog rv0 vo (cZ l il known) h'):=by
 refine sT func113 U ntmps113 U λX hM hX hF=>?_
 have hs0:=@rfl _ (cZ l il known)
 refine sr (cv (λb1=>qO 4 U (aA (nw (λb2=>aT zc282 (λb3=>cJ 0 ty282 U U U U U U (qL 8 [2] U ?_)))))))
 let z1:Nat×Obj:=(b1,O [.slice ep l.length eo] 24)
 let z2:Nat×Obj:=(b3,O [.map (some b2)] 282)
 refine lp2 l (λi w=>[(1,I il),(2,I known),(3,Q b1),(7,Q b3),(14,.slice ep l.length eo),(15,I (l.length:Int)),(16,I (i:Int))]) (λ_=>h) (λw=>[z2,(b2,w.2),z1]) (λi w=>i9 dP.enc (iP jN) h w.2 w.1/\w.1.length<=0+i) (λs1 i w=>(cZ.L1 il known (cZ.K1 l)) s1 w.1) ([],.map #[] 0) hl.1.1 hs0 ⟨(i9.nil (enc:=dP.enc) (V:=(iP jN)) (h:=h)),lc⟩ ?_ ?_
 .rintro i1 ⟨bL,dO⟩ fm hs1 ⟨gp,Fz⟩ e
  refine sr (aQ 2 U hM (λh1 hle1 hb1=>aQ 0 U hM (λh2 hle2 hb2=>aA (eA U U (an (eI 0 U hM (λh3 hle3 hb3=>?_)))))))
  have mc1:tw dP.enc (iP jN) h3 b2 bL:=⟨_,hb3,(gp.mono (iP.mono Ss) (hle1.t hle2)).mono (iP.mono Ss) hle3⟩
  have hs2:cZ l il known=(bR l bL):=hs1
  exact nretH [.func (.func 208) #[] #[Q b1,Q b3]] (hs2▸⟨(.func (.func 208) #[] #[Q b1,Q b3]),U,(uK h3 l ep eo ⟨b1,0,none⟩ bL b2 ⟨b3,0,none⟩ (hl.mono Ss ((hle1.t hle2).t hle3)) ((cx hb1).mono (hle2.t hle3)) mc1 ((cx hb2).mono hle3))⟩)
 rintro i1 ⟨bL,dO⟩ y1 rz1 hd1 df aS ek gu hs3 ⟨gp,Fz⟩ hx1 ag1 e
 refine sr (tO df U (qO 8 U (aA (iF vD vX ty97 hl.1 aS U U U (λq2 A2=>dt ty97 A2 U U (aT zc97 (λb5=>aO 0 ty97 U U U U U U (qL 9 [0] U (bT 5 [24,25,26,27,28,29] 24 29 (decide (known<y1.Known)) U (λc1 hk1=>?_) (λe=>?_))))))))))
 .exact qL 5 [0] U (hk1 _ U)
 refine aF (ae hs3 U (λc2 hs4=>?_) (λc2 hs5=>?_))
 .exact lK U (bC (oi i1 U (qO 2 U (bo (L':=[z2,(b2,dO),z1]) js (ag1 (bL,dO) hs4 ⟨gp,lc⟩)))))
 refine qK 9 [0,0,0] U (aA (fI (cells:=[I y1.Person,I y1.Party,.bool y1.Of]) (places:=[(0,1),(1,1),(2,1)]) LN zc284 kr kr (aT zc284 (λb6=>aO 0 ty284 U U U U U U (qL 4 [2] U (cM 0 ty284 U U U (aA (lu 3 (k:=(dP.mk y1.Person y1.Party y1.Of)) underlying282 uq U gp (eX zv97) (show(iP jN) _ (.agg (kB [I 0,I 0,I 0,I 0,I 0,.bool false,.bool false])) (SD 0 0 0 0 0 false false)from⟨_,U,U⟩) U U (λv1 hv1=>?_)))))))))
 obtain⟨_,rfl,rfl⟩:=hv1
 refine qO 3 U (aT zc97 (λb7=>aO 0 ty97 U U U U U U (qO 7 U (bT 6 [45,46,47,48,49,50,51] 45 51 (decide ((mgetD bL (dP.mk y1.Person y1.Party y1.Of) (SD 0 0 0 0 0 false false)).At<=y1.At)) U (λc3 hk2=>?_) (λe=>?_)))))
 .exact qL 6 [2,0] U (hk2 _ U)
 refine aF (ae hs5 U (λc4 hs6=>?_) (λc4 hs7=>?_))
 .exact qK 2 [3] U (cM 1 ty284 U U U (cM 2 ty97 U U U (aA (j3 4 (k:=(dP.mk y1.Person y1.Party y1.Of)) (x:=y1) underlying282 uq U gp U U ⟨_,U,U⟩ (λmo1 hm1=>qO 3 U (oi i1 U (qO 2 U (bo (L':=[z2,(b2,mo1),z1]) js (ag1 ((mput bL (dP.mk y1.Person y1.Party y1.Of) y1),mo1) hs6 ⟨hm1,(by have:=mj bL (dP.mk y1.Person y1.Party y1.Of) y1;first|omega|(simp only[vB,xA]at *;omega))⟩)))))))))
 exact aI (qT 2 U (oi i1 U (qO 2 U (bo (L':=[z2,(b2,dO),z1]) js (ag1 (bL,dO) hs7 ⟨gp,lc⟩)))))
theorem uS.mono{h h':HF}(hl:h.le h'):∀{vs:List Value}{ws:List gN},uS h vs ws->uS h' vs ws
 |[],[],_=>trivial
 |_::_,_::_,⟨⟨r,e,o⟩,t⟩=>⟨⟨r,e,o.mono hl⟩,uS.mono hl t⟩
 |[],_::_,x=>x.elim
 |_::_,[],x=>x.elim
theorem uS.snoc{h:HF}{v:Value}{w:gN}(hw:∃r,v=.agg (gN.cells w r).toArray/\gN.ok h w r):∀{vs:List Value}{ws:List gN},uS h vs ws->uS h (vs++[v]) (ws++[w])
 |[],[],_=>⟨hw,trivial⟩
 |_::_,_::_,⟨a,t⟩=>⟨a,uS.snoc hw t⟩
 |[],_::_,x=>x.elim
 |_::_,[],x=>x.elim
theorem uS.len{h:HF}:∀{vs:List Value}{ws:List gN},uS h vs ws->vs.length=ws.length
 |[],[],_=>rfl
 |_::_,_::_,⟨_,t⟩=>by simp[uS.len t]
 |[],_::_,x=>x.elim
 |_::_,[],x=>x.elim
theorem ml(h:HF)(w:gN)(Rf:MD)(q1 q2:Addr)(bm bc:Nat)(om:Obj)(m:List (Int×Bool))(cap s r:Nat)(vs:List Value)(q:List gN)(hw:gN.ok h w Rf)(a1:At h q1 [.map (some bm)])(a2:At h q2 [.chan (some bc)])(hm:i9 (zD .i64) n0 h om m)(hq:uS h vs q)(hroom:mgetD m w.to false=false->vs.length<cap):
  mu prog (.func (.func 112) #[] #[.pointer (some q1),.pointer (some q2)]) #[.agg (gN.cells w Rf).toArray] h [(bm,om),(bc,.chan cap vs.toArray false s r false)]
   (λx h' B=>x=.returned (.tuple #[])/\h'=h/\∃om' vs' s',i9 (zD .i64) n0 h om' (conPut w m q).1/\uS h vs' (conPut w m q).2/\B=[(bm,om'),(bc,.chan cap vs'.toArray false s' r false)]):=by
 refine m7 (args:=[.agg (gN.cells w Rf).toArray]) (cap:=[.pointer (some q1),.pointer (some q2)]) call112 (cB func112 U ntmps112 U λX hM hX=>sr (cv (λb1=>qO 3 U (dj ty56 a1 U (qL 2 [0] U (aA (oO 1 (k:=w.to) IP (fA mH) U hm (eX zv4) (show n0 _ (.bool false) false from U) U U (λv hv=>?_))))))))
 obtain rfl:=hv
 cases hc:mgetD m w.to false with
 |true=>
  refine qO 4 U ?_
  have e1:conPut w m q=(m,q):=by simp[conPut,hc]
  refine wP func112 (λa ha w hw=>mg U a w) (λw hw=>(hw.sub (L':=[(bm,om),(bc,.chan cap vs.toArray false s r false)]) js).lower) ⟨U,hX,om,vs,s,?_,?_,U⟩
  .rw[e1];exact hm
  rw[e1];exact hq
 |false=>
  refine qO 3 U ?_
  have e1:conPut w m q=(mput m w.to true,q++[w]):=by simp[conPut,hc]
  refine sr (dj ty56 a1 U (qL 2 [0] U (aA (j3 1 (k:=w.to) (x:=true) IP (fA mH) U hm U U U (λom' hm'=>qO 2 U (dj ty194 a2 U (cM 0 ty196 U U U (QY 2 U U U (hroom hc) (aF ?_)))))))))
  refine wP func112 (λa ha w hw=>mg U a w) (λww hww=>(hww.sub (L':=[(bm,om'),(bc,.chan cap (vs++[Value.agg (gN.cells w Rf).toArray]).toArray false (s+1) r false)]) js).lower) ⟨U,hX,om',vs++[.agg (gN.cells w Rf).toArray],s+1,?_,?_,U⟩
  .rw[e1];exact hm'
  rw[e1];exact uS.snoc ⟨Rf,rfl,hw⟩ hq
theorem V3.mono:zp V3:=λ_ _ _ _ _ e=>e
theorem FR.mono{h h':HF}(hl:h.le h'):∀{m:List (Int×Option Addr×Nat×Nat)}{f:List (Int×List Interest)}{G:LH},FR h m f G->FR h' m f G
 |[],[],_,e=>e
 |(_,_)::_,(_,_)::_,_,⟨a,b,G1,G2,c,d,t⟩=>⟨a,b,G1,G2,c,d.mono Ss hl,FR.mono hl t⟩
 |[],(_,_)::_,_,x=>x.elim
 |(_,_)::_,[],_,x=>x.elim
theorem FR.get{h:HF}(k:Int):∀{m:List (Int×Option Addr×Nat×Nat)}{f:List (Int×List Interest)}{G:LH},FR h m f G ->
  ∃b c G1 G2,mgetD m k (none,0,0)=(b,(mgetD f k []).length,c)/\du jN 97 h (mgetD f k []) b c G1/\G.Perm (G1++G2) /\
   ∀b' c' xs' G1',du jN 97 h xs' b' c' G1'->∃G',FR h (mput m k (b',xs'.length,c')) (mput f k xs') G'/\G'.Perm (G1'++G2)
 |[],[],G,e=>by
  subst e
  refine⟨none,0,[],[],U,du.nil,List.Perm.refl _,λb' c' xs' G1' hG=>⟨G1',⟨U,U,G1',[],by simp,hG,U⟩,by simp⟩⟩
 |(k0,x)::m,(k',xs)::f,G,⟨e,hn,G1,G2,hG,hg,t⟩=>by
  subst e hG
  by_cases hk:k=k0
  .subst hk
   refine⟨x.1,x.2.2,G1,G2,?_,?_,List.Perm.refl _,λb' c' xs' G1' hG'=>⟨G1'++G2,?_,List.Perm.refl _⟩⟩
   .simp[mgetD,mget?,←hn]
   .simpa[mgetD,mget?]using hg
   simp only[mput,if_true]
   exact⟨U,U,G1',G2,U,hG',t⟩
  obtain⟨b,c,H1,H2,h1,h2,h3,h4⟩:=FR.get k t
  refine⟨b,c,H1,G1++H2,?_,?_,?_,λb' c' xs' G1' hG'=>?_⟩
  .simpa[mgetD,mget?,hk]using h1
  .simpa[mgetD,mget?,hk]using h2
  .refine(List.Perm.append_left G1 h3).trans ?_
   rw[←kC,←kC];exact List.Perm.append_right H2 kJ
  obtain⟨G',g1,g2⟩:=h4 b' c' xs' G1' hG'
  refine⟨G1++G',?_,?_⟩
  .simp only[mput,hk,if_false]
   exact⟨U,hn,G1,G',U,hg,g1⟩
  refine(List.Perm.append_left G1 g2).trans ?_
  rw[←kC,←kC];exact List.Perm.append_right H2 kJ
 |[],(_,_)::_,_,x=>x.elim
 |(_,_)::_,[],_,x=>x.elim
theorem FR.keys{h:HF}:∀{m:List (Int×Option Addr×Nat×Nat)}{f:List (Int×List Interest)}{G:LH},FR h m f G->m.map (·.1)=f.map (·.1)
 |[],[],_,_=>rfl
 |(_,_)::_,(_,_)::_,_,⟨a,_,_,_,_,_,t⟩=>by simp[a,FR.keys t]
 |[],(_,_)::_,_,x=>x.elim
 |(_,_)::_,[],_,x=>x.elim
theorem FR.mem{h:HF}:∀{m:List (Int×Option Addr×Nat×Nat)}{f:List (Int×List Interest)}{G:LH},FR h m f G->(m.map (·.1)).Nodup->∀p∈m,p.2.2.1=(mgetD f p.1 []).length/\∃G1,(∀q∈G1,q∈G)/\du jN 97 h (mgetD f p.1 []) p.2.1 p.2.2.2 G1
 |[],[],_,_,_,_,hp=>(kA hp).elim
 |(k,x)::m,(k',xs)::f,G,⟨e,hn,G1,G2,hG,hg,t⟩,hnd,p,hp=>by
  subst e hG
  rw[kH,xR]at hnd
  rcases qC.1 hp with rfl|hp
  .exact⟨by simp[mgetD,mget?,hn],G1,λq hq=>qV _ hq,by simpa[mgetD,mget?]using hg⟩
  have hne:¬p.1=k:=λe=>hnd.1 (by have h9:=qQ (f:=(·.1)) hp;rw[e]at h9;exact h9)
  obtain⟨h1,H,h2,h3⟩:=FR.mem t hnd.2 p hp
  exact⟨by simpa[mgetD,mget?,hne]using h1,H,λq hq=>qN _ (h2 q hq),by simpa[mgetD,mget?,hne]using h3⟩
 |[],(_,_)::_,_,x,_,_,_=>x.elim
 |(_,_)::_,[],_,x,_,_,_=>x.elim
theorem JI{α : Type}:∀{f:List (Int×α)}(z:α),(f.map (·.1)).Nodup->f=f.map λp=>(p.1,mgetD f p.1 z)
 |[],_,_=>rfl
 |(k,x)::f,z,hn=>by
  rw[kH,xR]at hn
  rw[kH]
  congr 1
  .simp[mgetD,mget?]
  have ih:=JI z hn.2
  conv=>lhs;rw[ih]
  apply List.map_congr_left
  intro p hp
  have hne:¬p.1=k:=λe=>hn.1 (by have h9:=qQ (f:=(·.1)) hp;rw[e]at h9;exact h9)
  simp[mgetD,mget?,hne]
theorem KJ{h:HF}{h2:HF}(g:Int->List Interest):∀{es:List MapEntry}{m:List (Int×Option Addr×Nat×Nat)},pB (zD .i64) V3 h es m ->
  (∀p∈m,p.2.2.1=(g p.1).length/\SlC jN h2 p.2.1 p.2.2.2 (g p.1))->pB (zD .i64) (VSl jN) h2 es (m.map λp=>(p.1,g p.1))
 |[],[],_,_=>trivial
 |e::es,(k,x)::m,⟨a,b,c⟩,hg=>by
  obtain⟨h1,h3⟩:=hg (k,x) (jB ..)
  refine⟨a,⟨x.1,x.2.2,?_,h3⟩,KJ g c λp hp=>hg p (xB _ hp)⟩
  rw[show e.val=.slice x.1 x.2.1 x.2.2 from b,h1]
 |[],_::_,x,_=>x.elim
 |_::_,[],x,_=>x.elim
theorem FR.frozen{h2:HF}{o:Obj}{m:List (Int×Option Addr×Nat×Nat)}{f:List (Int×List Interest)}{G:LH}(hm:i9 (zD .i64) V3 h o m)(hf:FR h m f G)(hl:h.le h2)(hG:∀p∈G,h2 p.1=some p.2):
  i9 (zD .i64) (VSl jN) h2 o f:=by
 have hnd:=hm.nodup
 have hk:=hf.keys
 obtain⟨m',hp,hn,es,c,rfl,hE,h1,h3⟩:=hm
 have hmem:=hf.mem hnd
 have hfe:=JI (f:=f) [] (hk▸hnd)
 have hfm:f=m.map λp=>(p.1,mgetD f p.1 []):=by
  have e1:(f.map λp=>(p.1,mgetD f p.1 []))=(f.map (·.1)).map λk=>(k,mgetD f k []):=by rw[List.map_map];rfl
  have e2:(m.map λp=>(p.1,mgetD f p.1 []))=(m.map (·.1)).map λk=>(k,mgetD f k []):=by rw[List.map_map];rfl
  rw[e2,hk,←e1];exact hfe
 refine⟨m'.map λp=>(p.1,mgetD f p.1 []),?_,?_,es,c,U,KJ (λk=>mgetD f k []) hE λp hp'=>?_,h1,h3⟩
 .have hpm:=hp.map λp=>(p.1,mgetD f p.1 ([]:List Interest))
  rw[←hfm]at hpm;exact hpm
 .rw[List.map_map];exact hn
 obtain⟨h5,G1,h6,h7⟩:=hmem p (hp.mem_iff.1 hp')
 exact⟨h5,h7.frozen Ss hl λq hq=>hG q (h6 q hq)⟩
theorem FJ(k:Int->Int):∀(l:List Int)(g:Int),cW.L1 k l g=0->(∀x∈l,g<x/\x<=1048576)/\l.Pairwise (·<·)/\∃g',k g'=0
 |[],g,h=>⟨λ_ h=>(kA h).elim,List.Pairwise.nil,g,h⟩
 |y::l,g,h=>by
  simp only[cW.L1,Bool.cond_eq_ite,xD,decide_eq_true_eq]at h
  split at h
  .omega
  next hc=>
  obtain⟨h1,h2,h3⟩:=FJ k l y h
  refine⟨λx hx=>?_,List.pairwise_cons.2 ⟨λx hx=>(h1 x hx).1,h2⟩,h3⟩
  rcases qC.1 hx with rfl|hx
  .omega
  have:=h1 x hx;omega
theorem DK{l:List Interest}{person:Int}{parties:List Int}{a b:Int}(h:cW l person parties a b=0):parties.Pairwise (·<=·)/\parties.length<=16:=by
 unfold cW at h
 rw[Bool.cond_eq_ite]at h
 split at h
 .next hc=>simp at hc;exact absurd h hc
 obtain⟨_,h2,g',h3⟩:=FJ _ _ _ h
 refine⟨h2.imp (λh=>Int.le_of_lt h),?_⟩
 unfold cW.K1 at h3
 rw[Bool.cond_eq_ite]at h3
 split at h3
 .omega
 next hc=>
 simp only[xD,not_or,decide_eq_true_eq]at hc
 omega
theorem sD(h:HF)(b:Option Addr)(n c:Nat)(hc:n<=c):Ret prog 115 [.slice b n c] h (.slice b n n):=by
 exact cB func115 U ntmps115 U λX hM hX=>qK 11 [] U (aA (eT (QS ec ty3 U U U hc) (an (tx [.slice b n n] func115 U hX rd U))))
theorem wC(h:HF)(l:List Interest)(ep:Option Addr)(eo:Nat)(person:Int)(parties:List Int)(lq:Option Addr)(lm:Nat)(di known:Int)(hl:SlC jN h ep eo l)(hparties:SlC zC h lq lm parties)(hsz:l.length<=2000000):
  ju prog 31 [.slice ep l.length eo,I person,.slice lq parties.length lm,I di,I known] h
   (λv h'=>∃(rb0:Option Addr)(rc0:Nat),v=.tuple #[.slice rb0 ((ff l person parties di known).1.length) rc0,.bool ((ff l person parties di known).2.1),I ((ff l person parties di known).2.2)]/\SlC zC h' rb0 rc0 ((ff l person parties di known).1)):=by
 refine cB LF U ntmps31 U λX hM hX=>sr (cv (λb1=>qL 12 [0] U (ai (v:=I (cW l person parties di known)) call111 (xw h l ep eo person parties lq lm di known hl hparties) U (qO 7 U (j0 U (λc1=>?_) (λc1=>?_))))))
 .have e1:ff l person parties di known=([],false,cW l person parties di known):=by unfold ff;rw[c1];rfl
  exact sr (qO 5 U (jY [.slice none 0 0,.bool false,I (cW l person parties di known)] LF U rd ⟨none,0,by rw[e1];rfl,by rw[e1];exact kE⟩))
 have hex:cW l person parties di known=0:=by simpa using c1
 obtain⟨hps,hpl⟩:=DK hex
 have e1:ff l person parties di known=((conFind l person parties (cZ l di known)).1,(conFind l person parties (cZ l di known)).2,0):=by unfold ff;rw[c1];rfl
 rw[e1]
 have hstl:=I0 l di known
 generalize hst:cZ l di known=st at hstl
 refine qT 3 U (aA (nw (λbf=>aT zc193 (λb14=>cJ 0 ty193 U U U U U U (qO 3 U (aA (nw (λbm=>aT zc56 (λb15=>cJ 0 ty56 U U U U U U (qL 5 [] U (aA (Oc underlying194 bytes196 U ob (by decide) (λbc=>aT zc194 (λb16=>cJ 0 ty194 U U U U U U (qO 3 U (aA (eA U U (aT zc197 (λb17=>cJ 0 ty197 U U U U U U (aF (eI 0 U hM (λh1 l1 f17=>eI 0 U hM (λh2 l2 f16=>eI 1 U hM (λh3 l3 f15=>eI 2 U hM (λh4 l4 f14=>eI 3 U hM (λh5 l5 f1=>?_))))))))))))))))))))))))))
 have a17:=(cx f17).mono (l2.t (l3.t (l4.t l5)))
 have a16:=(cx f16).mono (l3.t (l4.t l5))
 have a15:=(cx f15).mono (l4.t l5)
 have a14:=(cx f14).mono l5
 have a1:=cx f1
 have l05:h.le h5:=vF l1 (l2.t (l3.t (l4.t l5)))
 clear f17 f16 f15 f14 f1 l1 l2 l3 l4 l5
 refine qT 6 U (aA (cR call113 (wB h5 l ep eo di known (hl.mono Ss l05)) U (λv1 h6 l6 hp1=>?_)))
 obtain⟨_,rfl,hit⟩:=hp1
 rw[hst]at hit
 refine qO 2 U (ef ?_)
 refine jw (it:=v1) (xs:=st) (ι:=List (Int×List Interest)×List (Int×Bool)×List gN×List Value×Nat×Obj×List (Int×Option Addr×Nat×Nat)×Obj×LH×HF) [] (λi=>i.2.2.2.2.2.2.2.2.2)
  (λi=>[(bc,.chan l.length i.2.2.2.1.toArray false i.2.2.2.2.1 0 false),(bm,i.2.2.2.2.2.1),(bf,i.2.2.2.2.2.2.2.1)]++i.2.2.2.2.2.2.2.2.1)
  (λrest i=>(conFill person rest i.1 i.2.1 i.2.2.1=conFill person st [] [] []/\(∀x∈rest,x∈st))/\(uS i.2.2.2.2.2.2.2.2.2 i.2.2.2.1 i.2.2.1/\i9 (zD .i64) n0 i.2.2.2.2.2.2.2.2.2 i.2.2.2.2.2.1 i.2.1/\i9 (zD .i64) V3 i.2.2.2.2.2.2.2.2.2 i.2.2.2.2.2.2.2.1 i.2.2.2.2.2.2.1/\FR i.2.2.2.2.2.2.2.2.2 i.2.2.2.2.2.2.1 i.1 i.2.2.2.2.2.2.2.2.1)/\(uT st i.2.1 i.2.2.1/\ME st i.1)/\h6.le i.2.2.2.2.2.2.2.2.2/\(∀k,(mgetD i.1 k []).length+rest.length<=l.length))
  (λ_=>False) (λ_=>False) 0 (λ_ _ _=>False) ([],[],[],[],0,.map #[] 0,[],.map #[] 0,[],h6) LF rfl hit rfl Cl (λ_ _ _ _ _ hq=>hq) rfl rfl
  ⟨⟨rfl,λ_ hx=>hx⟩,⟨trivial,i9.nil,i9.nil,rfl⟩,⟨⟨λ_ hp=>(kA hp).elim,jG _,λ_ hp=>(kA hp).elim⟩,λ_ _ hx=>(kA hx).elim⟩,xM _,λk=>by simp[mgetD,mget?];exact hstl⟩ ?_ ?_ (λ_ _ _ hF=>hF.elim) (λ_ _ _ hF=>hF.elim) (λ_ _ _ _ hF=>hF.elim)
 .rintro l1 r1 lp1 x rest vs1 ⟨f,m,q,vs,s,om,m3,o3,Gf,hh⟩ h7 X' hFR ⟨⟨hfill,hin⟩,⟨hwy,hmm,hm3,hfr⟩,⟨hgq,hgf⟩,h6h,hlen⟩ h67 hh7 hv hX' hXM hlp nx rt ex pn
  dsimp only at hfill hin hwy hmm hm3 hfr hgq hgf h6h hh7 hlen
  obtain rfl:=hv
  have hxst:x∈st:=hin x (jB ..)
  have hin':∀y∈rest,y∈st:=λy hy=>hin y (xB _ hy)
  have h57:h5.le h7:=vF l6 h67
  replace hwy:=hwy.mono hh7
  replace hmm:=hmm.mono n0.mono hh7
  replace hm3:=hm3.mono V3.mono hh7
  replace hfr:=hfr.mono hh7
  have h67':h6.le h7:=h67
  clear hh7 h6h
  refine bC (aT zc97 (λb18=>aO 0 ty97 U U U U U U (aF (ji 1 U hlp (qT 2 U (cg (L':=[(b18,.cells (vD x).toArray 97 (0,0)),(l1,.loop { lp1 with state:=.busy }),(r1,.deferred (some [])),(bc,.chan l.length vs.toArray false s 0 false),(bm,om),(bf,o3)]++Gf) (by simp[markB,setNth]) (qK 6 [0] U (j0 U (λcO=>?_) (λcO=>?_)))))))))
  .obtain⟨gb,gc,G1,G2,hget,hgrow,hperm,hput⟩:=hfr.get x.Person
   have hlx:=hlen x.Person
   simp only[xA]at hlx
   have hnext:conFill person rest (mput f x.Person (mgetD f x.Person []++[x])) m q=conFill person st [] [] []:=by
    rw[←hfill];simp[conFill,cO]
   have hlen':∀k,(mgetD (mput f x.Person (mgetD f x.Person []++[x])) k []).length+rest.length<=l.length:=λk=>by
    rw[vi]
    split
    .simp only[jA,xA,vB];omega
    have:=hlen k;simp only[xA]at this;omega
   have fin:∀(e':Env)(b8:Nat)(o8:Obj)(o3':Obj)(gb':Option Addr)(gc':Nat)(G1':LH),du jN 97 h7 (mgetD f x.Person []++[x]) gb' gc' G1'->i9 (zD .i64) V3 h7 o3' (mput m3 x.Person (gb',(mgetD f x.Person []++[x]).length,gc')) ->
     TT prog (roundFrame l1 31) 111 [.inBlock 2,.inBlock 1] hFR e' [] X' h7 ([(b8,o8),(b18,.cells (vD x).toArray 97 (0,0)),(l1,.loop { lp1 with state:=.busy }),(r1,.deferred (some [])),(bc,.chan l.length vs.toArray false s 0 false),(bm,om),(bf,o3')]++(G2++G1')):=by
    intro e' b8 o8 o3' gb' gc' G1' hG' hm'
    obtain⟨G',hfr',hp'⟩:=hput gb' gc' _ G1' hG'
    exact eS (eS (bo (L':=[(l1,.loop { lp1 with state:=.busy }),(r1,.deferred (some [])),(bc,.chan l.length vs.toArray false s 0 false),(bm,om),(bf,o3')]++(G2++G1')) js (lJ (L':=[(l1,.loop { lp1 with state:=.busy }),(r1,.deferred (some [])),(bc,.chan l.length vs.toArray false s 0 false),(bm,om),(bf,o3')]++G') (List.Perm.append_left _ (List.perm_append_comm.trans hp'.symm)) (cg (L':=rdH l1 r1 lp1 (([(bc,.chan l.length vs.toArray false s 0 false),(bm,om),(bf,o3')]++G')++markB [])) (by simp[markB]) (nx (mput f x.Person (mgetD f x.Person []++[x]),m,q,vs,s,om,mput m3 x.Person (gb',(mgetD f x.Person []++[x]).length,gc'),o3',G',h7) _ _ ⟨⟨hnext,hin'⟩,⟨hwy,hmm,hm',hfr'⟩,⟨hgq,hgf.put hxst⟩,h67',hlen'⟩ lf)))))
   have hJ:∀{L:LH},Jst h7 [(b18,.cells (vD x).toArray 97 (0,0))] h7 ((b18,.cells (vD x).toArray 97 (0,0))::L):=Bh js
   have hJ2:∀{L:LH}{p:Nat×Obj},Jst h7 [(b18,.cells (vD x).toArray 97 (0,0))] h7 (p::(b18,.cells (vD x).toArray 97 (0,0))::L):=Bh js
   refine er [(b18,.cells (vD x).toArray 97 (0,0))] mixed kr hJ (λhsep _=>?_)
   refine gz 0 hsep hJ U U kr U (rh ty193 (a14.mono h57) U) (gz 1 hsep hJ U U kr U (λ_ _ _=>tL Mp U) (gz 2 hsep hJ U U kr U (rj 0 ty3 U U U) (gz 3 hsep hJ U U kr U (rh ty193 (a14.mono h57) U) (gz 4 hsep hJ U U kr U (λ_ _ _=>tL Mp U) (gz 5 hsep hJ U U kr U (rj 0 ty3 U U U) (gz 7 hsep hJ U U kr U (λ_ _ hj=>jg ty97 U (hj.nth (i:=0) U) U) ?_))))))
   refine m6 6 8 kr U U ?_ ?_
   .refine oO 5 (k:=x.Person) LE (fA mH) U hm3 (eX zv24) (show V3 _ (.slice none 0 0) (none,0,0)from U) U U (λv hv=>?_)
    rw[hget]at hv
    obtain rfl:=hv
    exact⟨hJ,tn 8 U (bE (cells:=vD x) vX ty97 zc97 U U kr (λb8=>⟨hJ2,tn 9 U (BV (List.Perm.append_left ([(b8,.cells (vD x).toArray 97 (0,0)),(b18,.cells (vD x).toArray 97 (0,0)),(l1,.loop { lp1 with state:=.busy }),(r1,.deferred (some [])),(bc,.chan l.length vs.toArray false s 0 false),(bm,om),(bf,o3)]:LH) hperm) (dE Interest.ew [(b8,.cells (vD x).toArray 97 (0,0)),(b18,.cells (vD x).toArray 97 (0,0)),(l1,.loop { lp1 with state:=.busy }),(r1,.deferred (some [])),(bc,.chan l.length vs.toArray false s 0 false),(bm,om),(bf,o3)] G2 (λG=>[(b8,.cells (vD x).toArray 97 (0,0)),(b18,.cells (vD x).toArray 97 (0,0)),(l1,.loop { lp1 with state:=.busy }),(r1,.deferred (some [])),(bc,.chan l.length vs.toArray false s 0 false),(bm,om),(bf,o3)]++(G2++G)) U (λ_=>U) vX ty97 zc97 U bytes97 hgrow U U (e8 0 U (show bz jN h7 (vD x) [x]from⟨vD x,[],by simp,U,U,U⟩)) lo lo (λgb' gc' G1' hG'=>⟨hJ2,tn 10 U (j3 6 (k:=x.Person) (x:=(gb',(mgetD f x.Person []++[x]).length,gc')) LE (fA mH) U hm3 U U U (λo3' hm'=>⟨hJ2,aJ kr (fin _ b8 _ o3' gb' gc' G1' hG' hm')⟩))⟩)))⟩))⟩
   refine bE (cells:=vD x) vX ty97 zc97 U U kr (λb8=>⟨hJ2,tn 6 U (oO 6 (k:=x.Person) LE (fA mH) U hm3 (eX zv24) (show V3 _ (.slice none 0 0) (none,0,0)from U) U U (λv hv=>?_))⟩)
   rw[hget]at hv
   obtain rfl:=hv
   exact⟨hJ2,tn 9 U (BV (List.Perm.append_left ([(b8,.cells (vD x).toArray 97 (0,0)),(b18,.cells (vD x).toArray 97 (0,0)),(l1,.loop { lp1 with state:=.busy }),(r1,.deferred (some [])),(bc,.chan l.length vs.toArray false s 0 false),(bm,om),(bf,o3)]:LH) hperm) (dE Interest.ew [(b8,.cells (vD x).toArray 97 (0,0)),(b18,.cells (vD x).toArray 97 (0,0)),(l1,.loop { lp1 with state:=.busy }),(r1,.deferred (some [])),(bc,.chan l.length vs.toArray false s 0 false),(bm,om),(bf,o3)] G2 (λG=>[(b8,.cells (vD x).toArray 97 (0,0)),(b18,.cells (vD x).toArray 97 (0,0)),(l1,.loop { lp1 with state:=.busy }),(r1,.deferred (some [])),(bc,.chan l.length vs.toArray false s 0 false),(bm,om),(bf,o3)]++(G2++G)) U (λ_=>U) vX ty97 zc97 U bytes97 hgrow U U (e8 0 U (show bz jN h7 (vD x) [x]from⟨vD x,[],by simp,U,U,U⟩)) lo lo (λgb' gc' G1' hG'=>⟨hJ2,tn 10 U (j3 6 (k:=x.Person) (x:=(gb',(mgetD f x.Person []++[x]).length,gc')) LE (fA mH) U hm3 U U U (λo3' hm'=>⟨hJ2,aJ kr (fin _ b8 _ o3' gb' gc' G1' hG' hm')⟩))⟩)))⟩
  refine qK 4 [0] U (dj ty3 (a1.mono h57) U (qO 3 U ?_))
  have hlen':∀k,(mgetD f k []).length+rest.length<=l.length:=λk=>by have:=hlen k;simp only[xA]at this;omega
  refine j0 U (λcP=>?_) (λcP=>?_)
  .have hnext:conFill person rest f (conPut ⟨[x.No],x.Party⟩ m q).1 (conPut ⟨[x.No],x.Party⟩ m q).2=conFill person st [] [] []:=by
    rw[←hfill];simp only[conFill,cO,cond_false,cP,cond_true]
   have hpty:(gN.mk [x.No] x.Party).to∈st.map (·.Party):=qQ hxst
   refine bC (dj ty197 (a17.mono h57) U (qL 2 [0] U (aA (MS (cells:=[I x.No]) hXM ec ty3 zc3 U U kr (λb65 hb65=>Ei 0 U hb65 (λh8 l8 f8=>?_))))))
   have sl8:SlC zC h8 (some ⟨b65,0,none⟩) 1 [x.No]:=bz.slB0 (T:=3) (fz:=(0,0)) (show bz zC h8 [I x.No] [x.No]from⟨[I x.No],[],rfl,rfl,rfl,rfl⟩) f8
   refine qL 2 [0] U (aA (fI (cells:=gN.cells ⟨[x.No],x.Party⟩ ⟨some ⟨b65,0,none⟩,1⟩) (places:=[(0,1),(1,1)]) underlying196 zc196 kr kr ?_))
   refine aA (HX (vs:=[.agg (gN.cells ⟨[x.No],x.Party⟩ ⟨some ⟨b65,0,none⟩,1⟩).toArray]) [(bm,om),(bc,.chan l.length vs.toArray false s 0 false)] ([(b18,.cells (vD x).toArray 97 (0,0)),(l1,.loop { lp1 with state:=.busy }),(r1,.deferred (some [])),(bf,o3)]++Gf) ?_
    (ml h8 ⟨[x.No],x.Party⟩ ⟨some ⟨b65,0,none⟩,1⟩ ⟨b15,0,none⟩ ⟨b16,0,none⟩ bm bc om m l.length s 0 vs q ⟨sl8⟩ (a15.mono (h57.t l8)) (a16.mono (h57.t l8)) (hmm.mono n0.mono l8) (hwy.mono l8) (λhno=>by rw[hwy.len];exact yg hgq hmm.nodup hpty hstl hno)) rfl rfl (λB hB=>?_))
   .exact yq [(b18,.cells (vD x).toArray 97 (0,0)),(l1,.loop { lp1 with state:=.busy }),(r1,.deferred (some []))] ((bf,o3)::Gf) (bc,.chan l.length vs.toArray false s 0 false) (bm,om)
   obtain⟨om',vs',s',hm',hw',rfl⟩:=hB
   refine qO 3 U (bo (L':=[(bm,om'),(bc,.chan l.length vs'.toArray false s' 0 false)]++([(l1,.loop { lp1 with state:=.busy }),(r1,.deferred (some [])),(bf,o3)]++Gf)) js ?_)
   refine lJ (L':=rdH l1 r1 lp1 (([(bc,.chan l.length vs'.toArray false s' 0 false),(bm,om'),(bf,o3)]++Gf)++markB [])) ?_ ?_
   .rw[show markB []=([]:LH)from rfl,List.append_nil]
    exact(yq [(l1,Obj.loop { lp1 with state:=.busy }),(r1,.deferred (some []))] ((bf,o3)::Gf) (bc,.chan l.length vs'.toArray false s' 0 false) (bm,om')).symm
   exact nx (f,(conPut ⟨[x.No],x.Party⟩ m q).1,(conPut ⟨[x.No],x.Party⟩ m q).2,vs',s',om',m3,o3,Gf,h8) _ _ ⟨⟨hnext,hin'⟩,⟨hw',hm',hm3.mono V3.mono l8,hfr.mono l8⟩,⟨tX hgq hpty (by simp),hgf⟩,vF h67' l8,hlen'⟩ lf
  have hnext:conFill person rest f m q=conFill person st [] [] []:=by
   rw[←hfill];simp only[conFill,cO,cond_false,cP]
  exact aI (qT 2 U (bo (L':=[(l1,.loop { lp1 with state:=.busy }),(r1,.deferred (some [])),(bc,.chan l.length vs.toArray false s 0 false),(bm,om),(bf,o3)]++Gf) js (cg (L':=rdH l1 r1 lp1 (([(bc,.chan l.length vs.toArray false s 0 false),(bm,om),(bf,o3)]++Gf)++markB [])) (by simp[markB]) (nx (f,m,q,vs,s,om,m3,o3,Gf,h7) _ _ ⟨⟨hnext,hin'⟩,⟨hwy,hmm,hm3,hfr⟩,⟨hgq,hgf⟩,h67',hlen'⟩ lf))))
 rintro dm ⟨f,m0,q0,vs0,s0,om0,m3,o3,Gf,hh⟩ h7 ⟨⟨hfill,_⟩,⟨hwy,hmm,hm3,hfr⟩,⟨hgq,hgf⟩,h6h,hlen⟩ hh7 h67
 dsimp only at hfill hwy hmm hm3 hfr hgq hgf h6h hh7 hlen
 refine eS (eI 2 U hM (λh8 l8 f8=>Ef [(bc,.chan l.length vs0.toArray false s0 0 false),(bm,om0)] Gf (markB [dm]) U hM (λh9 l9 hG9=>?_)))
 have h89:hh.le h9:=vF hh7 (l8.t l9)
 have hmF:i9 (zD .i64) (VSl jN) h9 o3 f:=FR.frozen hm3 hfr h89 hG9
 have hbf:h9 bf=some o3:=l9 _ _ f8
 have h59:h5.le h9:=vF l6 (h67.t (l8.t l9))
 replace a14:=a14.mono h59
 replace a15:=a15.mono h59
 replace a16:=a16.mono h59
 replace a17:=a17.mono h59
 have hpar:=(hparties.mono xH l05).mono xH h59
 have hcf:conFind l person parties st=conLoop parties f (l.length+1) m0 q0:=by
  unfold conFind;rw[←hfill];rfl
 have hwy0:=hwy.mono h89
 have hmm0:=hmm.mono n0.mono h89
 clear hwy hmm hm3 hfr hG9 l8 f8 h6h hh7 h67 hfill a1
 generalize hCF:conFind l person parties st=CF at hcf
 refine dK ?_
 refine ir (ι:=List Value×Nat×Nat×Obj×HF) (λi=>[]) (λi=>i.2.2.2.2) (λi=>[(bc,.chan l.length i.1.toArray false i.2.1 i.2.2.1 false),(bm,i.2.2.2.1)]++markB [dm]) (λi=>CF=([],false)) ?_ (λhx=>?_)
 .rintro⟨vs,s,r,om,hh⟩ hc e
  exact sr (qO 4 U (qn [dm] [.slice none 0 0,.bool false,I 0] LF U rd ⟨none,0,by rw[hc];rfl,by rw[hc];exact kE⟩))
 refine jZ (ι:=Nat×List (Int×Bool)×List gN×List Value×Nat×Nat×Obj×HF) (λi=>[(2,.slice lq parties.length lm),(14,Q b14),(16,Q b16),(17,Q b17)]) (λi=>i.2.2.2.2.2.2.2)
  (λi=>[(bc,.chan l.length i.2.2.2.1.toArray false i.2.2.2.2.1 i.2.2.2.2.2.1 false),(bm,i.2.2.2.2.2.2.1)]++markB [dm])
  (λi=>CF=conLoop parties f i.1 i.2.1 i.2.2.1/\i.2.2.1.length+(l.length-i.2.1.length)<i.1/\uS i.2.2.2.2.2.2.2 i.2.2.2.1 i.2.2.1/\i9 (zD .i64) n0 i.2.2.2.2.2.2.2 i.2.2.2.2.2.2.1 i.2.1/\uT st i.2.1 i.2.2.1/\h9.le i.2.2.2.2.2.2.2)
  (λi=>i.1) (l.length+1,m0,q0,vs0,s0,0,om0,h9) rd (λw hw=>hw) ⟨hcf,?_,hwy0,hmm0,hgq,xM _⟩ ?_
 .show q0.length+(l.length-m0.length)<l.length+1
  have:=hgq.2.1;have:=Oz hgq hmm0.nodup;omega
 clear hcf hwy0 hmm0 hgq
 rintro⟨n,m,q,vs,s,r,om,hh⟩ ⟨hcf,hn,hwy,hmm,hgq,h9h⟩ ag e
 dsimp only at hcf hn hwy hmm hgq h9h
 obtain⟨n,rfl⟩:∃n',n=n'+1:=⟨n-1,by omega⟩
 refine qT 3 U (dj ty194 (a16.mono h9h) U (aA (eT (QP underlying194 (jB ..) U) ?_)))
 rcases q with _|⟨w,q⟩
 .have hv0:vs=[]:=List.eq_nil_of_length_eq_zero hwy.len
  subst hv0
  exact io (v':=.bool false) U U (qO 3 U (hx ([],s,r,om,hh) _ hcf trivial))
 rcases vs with _|⟨v,vs⟩
 .exact hwy.elim
 obtain⟨⟨wr,rfl,hok⟩,hwy⟩:=hwy
 refine tO (decide_eq_true (by simp)) U (qO 6 U (dj ty194 (a16.mono h9h) U (QZ 0 underlying194 zv196 U U (aT zc196 (λb19=>aO 0 ty196 U U U U U U (qL 7 [0] U (ai (v:=.tuple #[I (slices_BinarySearch_int parties w.to).1,.bool (slices_BinarySearch_int parties w.to).2]) call114 (m8 hh parties lq lm w.to (hpar.mono xH h9h) hps ob) U (qO 10 U ?_))))))))
 have hgq':uT st m q:=⟨hgq.1,by have:=hgq.2.1;simp only[xA]at this;omega,λw' hw'=>hgq.2.2 w' (xB _ hw')⟩
 have hw8:=hgq.2.2 w (jB ..)
 simp only[xA]at hn
 refine j0 U (λcF=>?_) (λcF=>?_)
 .have hc2:CF=(w.path,true):=by
   rw[hcf];simp only[conLoop];rw[show parties.contains w.to=true from cF];rfl
  exact qK 8 [0] U (bo (L':=[(bc,.chan l.length vs.toArray false s (r+1) false),(bm,om)]++markB [dm]) js (qn [dm] [.slice wr.xh w.path.length wr.Ac,.bool true,I 0] LF U rd ⟨wr.xh,wr.Ac,by rw[hc2];rfl,by rw[hc2];exact hok.path⟩))
 have hc2:CF=(bif(w.path.length:Int)==8 then conLoop parties f n m q else conLoop parties f n (conStep w.path (mgetD f w.to []) m q).1 (conStep w.path (mgetD f w.to []) m q).2):=by
  rw[hcf];simp only[conLoop];rw[show parties.contains w.to=false from cF];rfl
 refine qK 9 [0] U (j0 U (λc8=>?_) (λc8=>?_))
 .rw[show((w.path.length:Int)==8)=true from c8]at hc2
  exact lK U (bo (L':=[(bc,.chan l.length vs.toArray false s (r+1) false),(bm,om)]++markB [dm]) js (ag (n,m,q,vs,s,r+1,om,hh) _ (Nat.lt_succ_self _) ⟨hc2,by show q.length+(l.length-m.length)<n;omega,hwy,hmm,hgq',h9h⟩ rd))
 rw[show((w.path.length:Int)==8)=false from c8]at hc2
 refine qT 3 U (dj ty193 (a14.mono h9h) U (qL 2 [0] U (aA (ny (k:=w.to) LE (fA mH) (h9h _ _ hbf) (hmF.mono (VSl.mono Ss) h9h) (eX zv24) (show VSl jN _ (.slice none 0 0) []from⟨none,0,U,kE⟩) U U (λv hv=>?_)))))
 obtain⟨xb,xc,rfl,slx⟩:=hv
 have hxs:∀y∈mgetD f w.to [],y∈st:=hgf w.to
 generalize mgetD f w.to []=xs at slx hc2 hxs
 refine qL 3 [] U ?_
 have hw7:w.path.length+1<=8:=by simp at c8;omega
 have hsum:=BG (path:=w.path) hstl hw7 hxs hgq' hmm.nodup
 generalize hcs:conStep w.path xs m q=CS at hc2 hsum
 refine ir (ι:=List Value×Nat×Obj×HF) (λi=>[(2,.slice lq parties.length lm),(14,Q b14),(16,Q b16),(17,Q b17)]) (λi=>i.2.2.2) (λi=>[(b19,.cells (gN.cells w wr).toArray 196 (0,0)),(bc,.chan l.length i.1.toArray false i.2.1 (r+1) false),(bm,i.2.2.1)]++markB [dm])
  (λi=>uS i.2.2.2 i.1 CS.2/\i9 (zD .i64) n0 i.2.2.2 i.2.2.1 CS.1/\uT st CS.1 CS.2/\hh.le i.2.2.2) ?_ (λhx2=>?_)
 .rintro⟨vs2,s2,om2,h10⟩ ⟨hw2,hm2,hg2,hle2⟩ e2
  exact eS (bo (L':=[(bc,.chan l.length vs2.toArray false s2 (r+1) false),(bm,om2)]++markB [dm]) js (ag (n,CS.1,CS.2,vs2,s2,r+1,om2,h10) _ (Nat.lt_succ_self _) ⟨hc2,by show CS.2.length+(l.length-CS.1.length)<n;omega,hw2,hm2,hg2,vF h9h hle2⟩ rd))
 refine jZ (ι:=Nat×List (Int×Bool)×List gN×List Value×Nat×Obj×HF×List Interest) (λi=>[(2,.slice lq parties.length lm),(14,Q b14),(16,Q b16),(17,Q b17),(19,Q b19),(92,.slice xb xs.length xc),(93,I (xs.length:Int)),(94,I (i.1:Int))]) (λi=>i.2.2.2.2.2.2.1)
  (λi=>[(b19,.cells (gN.cells w wr).toArray 196 (0,0)),(bc,.chan l.length i.2.2.2.1.toArray false i.2.2.2.2.1 (r+1) false),(bm,i.2.2.2.2.2.1)]++markB [dm])
  (λi=>xs.drop i.1=i.2.2.2.2.2.2.2/\conStep w.path i.2.2.2.2.2.2.2 i.2.1 i.2.2.1=CS/\uS i.2.2.2.2.2.2.1 i.2.2.2.1 i.2.2.1/\i9 (zD .i64) n0 i.2.2.2.2.2.2.1 i.2.2.2.2.2.1 i.2.1/\uT st i.2.1 i.2.2.1/\hh.le i.2.2.2.2.2.2.1)
  (λi=>i.2.2.2.2.2.2.2.length) (0,m,q,vs,s,om,hh,xs) rd (λw hw=>hw) ⟨rfl,hcs,hwy,hmm,hgq',xM _⟩ ?_
 rintro⟨i1,m2,q2,vs2,s2,om2,h10,rest⟩ ⟨hd1,hcs2,hw2,hm2,hg2,hle2⟩ ag2 e2
 dsimp only at hd1 hcs2 hw2 hm2 hg2 hle2
 rcases rest with _|⟨x,rest⟩
 .have hge:=mR hd1
  refine sr (fO hge U (qO 4 U ?_))
  obtain rfl:(m2,q2)=CS:=hcs2
  exact hx2 (vs2,s2,om2,h10) _ ⟨hw2,hm2,hg2,hle2⟩ rd
 have hlt:=s8 hd1
 have hget:=rE hd1
 have hxst:x∈st:=hxs x (fN hd1)
 have hpty:(gN.mk (w.path++[x.No]) x.Party).to∈st.map (·.Party):=qQ hxst
 have slx2:=slx.mono Ss hle2
 have hokp:=hok.path.mono xH hle2
 have gu:=slx.1.1
 have ek:=hY hd1
 have h910:h9.le h10:=vF h9h hle2
 refine sr (tO hlt U (qO 8 U (aA (iF vD vX ty97 slx2.1 hget U U U (λqx Ax=>dt ty97 Ax U U (aT zc97 (λb23=>aO 0 ty97 U U U U U U (aF ?_))))))))
 refine PE (ι:=List Value×Nat×Obj×HF) (λi=>[(2,.slice lq parties.length lm),(14,Q b14),(16,Q b16),(17,Q b17),(19,Q b19),(92,.slice xb xs.length xc),(93,I (xs.length:Int)),(94,I (i1:Int))]) (λi=>i.2.2.2) (λi=>[(b19,.cells (gN.cells w wr).toArray 196 (0,0)),(bc,.chan l.length i.1.toArray false i.2.1 (r+1) false),(bm,i.2.2.1)]++markB [dm])
  (λi=>h10.le i.2.2.2/\uS i.2.2.2 i.1 (conPut ⟨w.path++[x.No],x.Party⟩ m2 q2).2/\i9 (zD .i64) n0 i.2.2.2 i.2.2.1 (conPut ⟨w.path++[x.No],x.Party⟩ m2 q2).1) ?_ (λfin=>?_)
 .rintro⟨vs3,s3,om3,h11⟩ ⟨l11,hw3,hm3⟩ e3
  dsimp only at l11 hw3 hm3
  exact eS (bC (oi i1 U (qO 2 U (ag2 (i1+1,(conPut ⟨w.path++[x.No],x.Party⟩ m2 q2).1,(conPut ⟨w.path++[x.No],x.Party⟩ m2 q2).2,vs3,s3,om3,h11,rest) _ (Nat.lt_succ_self _) ⟨kw hd1,hcs2,hw3,hm3,tX hg2 hpty (by simpa using hw7),vF hle2 l11⟩ rd))))
 have hKs:∀p∈([(b23,.cells (vD x).toArray 97 (0,0)),(b19,.cells (gN.cells w wr).toArray 196 (0,0))]:LH),p∈([(b23,.cells (vD x).toArray 97 (0,0)),(b19,.cells (gN.cells w wr).toArray 196 (0,0)),(bc,.chan l.length vs2.toArray false s2 (r+1) false),(bm,om2)]++markB [dm]:LH):=λp hp=>by
  rcases qC.1 hp with rfl|hp
  .simp
  rw[xC.1 hp];simp
 have hJ:Jst h10 [(b23,.cells (vD x).toArray 97 (0,0)),(b19,.cells (gN.cells w wr).toArray 196 (0,0))] h10 ([(b23,.cells (vD x).toArray 97 (0,0)),(b19,.cells (gN.cells w wr).toArray 196 (0,0)),(bc,.chan l.length vs2.toArray false s2 (r+1) false),(bm,om2)]++markB [dm]):=⟨xM _,hKs⟩
 refine er [(b23,.cells (vD x).toArray 97 (0,0)),(b19,.cells (gN.cells w wr).toArray 196 (0,0))] mixed kr hJ (λhsep _=>?_)
 refine gz 0 hsep hJ U U kr U (rh ty197 (a17.mono h910) U) (gz 1 hsep hJ U U kr U (λ_ _ _=>tL O7 U) (gz 2 hsep hJ U U kr U (rj 1 ty31 U U U) (gz 4 hsep hJ U U kr U (λ_ _ _=>tL Qa U) (gz 5 hsep hJ U U kr U (rj 0 ty3 U U U) (gz 8 hsep hJ U U kr U (λ_ _ _=>tL P9 U) (gz 9 hsep hJ U U kr U (rj 0 ty3 U U U) ?_))))))
 have hpl8:w.path.length<=wr.Ac:=hokp.2
 have hpn:=hokp.1.1
 refine m6 3 6 kr U U ?_ ?_
 .refine eZ (v:=.slice wr.xh w.path.length w.path.length) call115 (sD h10 wr.xh w.path.length wr.Ac hpl8) U ⟨hJ,tn 6 U (bE (cells:=[I x.No]) ec ty3 zc3 U U kr (λb6=>⟨⟨xM _,λp hp=>xB _ (hKs p hp)⟩,tn 7 U (Hc (R:=zC) (xs:=w.path) (ys:=[x.No]) ec ty3 zc3 U bytes3 (lR hokp.1) U U (e8 0 U (show bz zC h10 [I x.No] [x.No]from⟨[I x.No],[],U,U,U,U⟩)) (by simp) lo lo (λnb nc NG hNG=>⟨⟨xM _,λp hp=>qN NG (xB _ (hKs p hp))⟩,tn 10 U (fI (cells:=gN.cells ⟨w.path++[x.No],x.Party⟩ ⟨nb,nc⟩) (places:=[(0,1),(1,1)]) underlying196 zc196 kr kr ⟨⟨xM _,λp hp=>qN NG (xB _ (hKs p hp))⟩,tn 11 U (Hb xH [] NG ((b6,.cells [zD .i64 x.No].toArray 3 (0,0))::[(b23,.cells (vD x).toArray 97 (0,0)),(b19,.cells (gN.cells w wr).toArray 196 (0,0)),(bc,.chan l.length vs2.toArray false s2 (r+1) false),(bm,om2)]++markB [dm]) U hM hNG (λh11 l11 slN=>?_))⟩)⟩))⟩))⟩
  refine HX (vs:=[.agg (gN.cells ⟨w.path++[x.No],x.Party⟩ ⟨nb,nc⟩).toArray]) [(bm,om2),(bc,.chan l.length vs2.toArray false s2 (r+1) false)] ([(b6,.cells [zD .i64 x.No].toArray 3 (0,0)),(b23,.cells (vD x).toArray 97 (0,0)),(b19,.cells (gN.cells w wr).toArray 196 (0,0))]++markB [dm]) ?_
   (ml h11 ⟨w.path++[x.No],x.Party⟩ ⟨nb,nc⟩ ⟨b15,0,none⟩ ⟨b16,0,none⟩ bm bc om2 m2 l.length s2 (r+1) vs2 q2 ⟨slN⟩ (a15.mono (h910.t l11)) (a16.mono (h910.t l11)) (hm2.mono n0.mono l11) (hw2.mono l11) (λhno=>by rw[hw2.len];exact yg hg2 hm2.nodup hpty hstl hno)) rfl rfl (λB hB=>?_)
  .exact yq [(b6,.cells [zD .i64 x.No].toArray 3 (0,0)),(b23,.cells (vD x).toArray 97 (0,0)),(b19,.cells (gN.cells w wr).toArray 196 (0,0))] (markB [dm]) (bc,.chan l.length vs2.toArray false s2 (r+1) false) (bm,om2)
  obtain⟨om3,vs3,s3,hm3,hw3,rfl⟩:=hB
  exact⟨⟨l11,λp hp=>by rcases hp with _|⟨_,_|⟨_,h⟩⟩;simp;simp;cases h⟩,nH (K2:=[(b23,.cells (vD x).toArray 97 (0,0)),(b19,.cells (gN.cells w wr).toArray 196 (0,0))]) l11 (λ_ hp=>hp) (aJ kr (lJ (yq [(b6,.cells [zD .i64 x.No].toArray 3 (0,0)),(b23,.cells (vD x).toArray 97 (0,0)),(b19,.cells (gN.cells w wr).toArray 196 (0,0))] (markB [dm]) (bc,.chan l.length vs3.toArray false s3 (r+1) false) (bm,om3)).symm (bo (L':=[(b19,.cells (gN.cells w wr).toArray 196 (0,0)),(bc,.chan l.length vs3.toArray false s3 (r+1) false),(bm,om3)]++markB [dm]) js (fin (vs3,s3,om3,h11) _ ⟨l11,hw3,hm3⟩ rd))))⟩
 refine bE (cells:=[I x.No]) ec ty3 zc3 U U kr (λb6=>⟨⟨xM _,λp hp=>xB _ (hKs p hp)⟩,tn 3 U (eZ (v:=.slice wr.xh w.path.length w.path.length) call115 (sD h10 wr.xh w.path.length wr.Ac hpl8) U ⟨⟨xM _,λp hp=>xB _ (hKs p hp)⟩,tn 7 U (Hc (R:=zC) (xs:=w.path) (ys:=[x.No]) ec ty3 zc3 U bytes3 (lR hokp.1) U U (e8 0 U (show bz zC h10 [I x.No] [x.No]from⟨[I x.No],[],U,U,U,U⟩)) (by simp) lo lo (λnb nc NG hNG=>⟨⟨xM _,λp hp=>qN NG (xB _ (hKs p hp))⟩,tn 10 U (fI (cells:=gN.cells ⟨w.path++[x.No],x.Party⟩ ⟨nb,nc⟩) (places:=[(0,1),(1,1)]) underlying196 zc196 kr kr ⟨⟨xM _,λp hp=>qN NG (xB _ (hKs p hp))⟩,tn 11 U (Hb xH [] NG ((b6,.cells [zD .i64 x.No].toArray 3 (0,0))::[(b23,.cells (vD x).toArray 97 (0,0)),(b19,.cells (gN.cells w wr).toArray 196 (0,0)),(bc,.chan l.length vs2.toArray false s2 (r+1) false),(bm,om2)]++markB [dm]) U hM hNG (λh11 l11 slN=>?_))⟩)⟩))⟩)⟩)
 refine HX (vs:=[.agg (gN.cells ⟨w.path++[x.No],x.Party⟩ ⟨nb,nc⟩).toArray]) [(bm,om2),(bc,.chan l.length vs2.toArray false s2 (r+1) false)] ([(b6,.cells [zD .i64 x.No].toArray 3 (0,0)),(b23,.cells (vD x).toArray 97 (0,0)),(b19,.cells (gN.cells w wr).toArray 196 (0,0))]++markB [dm]) ?_
  (ml h11 ⟨w.path++[x.No],x.Party⟩ ⟨nb,nc⟩ ⟨b15,0,none⟩ ⟨b16,0,none⟩ bm bc om2 m2 l.length s2 (r+1) vs2 q2 ⟨slN⟩ (a15.mono (h910.t l11)) (a16.mono (h910.t l11)) (hm2.mono n0.mono l11) (hw2.mono l11) (λhno=>by rw[hw2.len];exact yg hg2 hm2.nodup hpty hstl hno)) rfl rfl (λB hB=>?_)
 .exact yq [(b6,.cells [zD .i64 x.No].toArray 3 (0,0)),(b23,.cells (vD x).toArray 97 (0,0)),(b19,.cells (gN.cells w wr).toArray 196 (0,0))] (markB [dm]) (bc,.chan l.length vs2.toArray false s2 (r+1) false) (bm,om2)
 obtain⟨om3,vs3,s3,hm3,hw3,rfl⟩:=hB
 exact⟨⟨l11,λp hp=>by rcases hp with _|⟨_,_|⟨_,h⟩⟩;simp;simp;cases h⟩,nH (K2:=[(b23,.cells (vD x).toArray 97 (0,0)),(b19,.cells (gN.cells w wr).toArray 196 (0,0))]) l11 (λ_ hp=>hp) (aJ kr (lJ (yq [(b6,.cells [zD .i64 x.No].toArray 3 (0,0)),(b23,.cells (vD x).toArray 97 (0,0)),(b19,.cells (gN.cells w wr).toArray 196 (0,0))] (markB [dm]) (bc,.chan l.length vs3.toArray false s3 (r+1) false) (bm,om3)).symm (bo (L':=[(b19,.cells (gN.cells w wr).toArray 196 (0,0)),(bc,.chan l.length vs3.toArray false s3 (r+1) false),(bm,om3)]++markB [dm]) js (fin (vs3,s3,om3,h11) _ ⟨l11,hw3,hm3⟩ rd))))⟩
theorem pJ(h:HF)(c:bI)(nZ:jv)(person:Int)(hc:bI.ok h c nZ)(hsm:smR c.Register)(hco:iH c)(hpp:0<=person/\person<64):Ret prog 256 [.agg (bI.cells c nZ).toArray,I person] h (.bool (iJ c person)):=by
 refine sT func256 U ntmps256 U λX hM hX hF=>?_
 have hs0:=@rfl _ (iJ c person)
 refine sr (cv (λb1=>qL 15 [0,0,0,0] U (aA (cR call31 (wC _ _ _ _ person _ _ _ c.at_ c.known hc.Register.Interests hc.doc.Parties hsm.2.2.2.1) U (λv1 h1 hle1 hp1=>?_)))))
 obtain⟨rb1,rc1,rfl,sl1⟩:=hp1
 exact av (qO 10 U (aA (nT ux (hU h1 ((ff c.Register.Interests person c.doc.Parties c.at_ c.known).2.2)) (lZ (Ls hco hpp)) U (qO 6 U (nretP [.bool ((ff c.Register.Interests person c.doc.Parties c.at_ c.known).2.1)] (cs hs0))))))
theorem wz(h:HF)(c:bI)(nZ:jv)(c_q:Addr)(p:Policy)(gM:eR)(p_q:Addr)(hc:bI.ok h c nZ)(ac:At h c_q (bI.cells c nZ))(hp:vP h p gM)(ap_z:At h p_q (xE p gM))(hsm:smR c.Register)(hco:iH c)(hpr:p.Rules.length=p.Kinds.length/\∀y∈p.Rules,0<=y.Think/\y.Think<=1099511627775):Itr prog (.func (.func 255) #[] (kB [.pointer (some c_q),.pointer (some p_q)])) pf (cC c p) h:=by
 refine sR call255 ?_
 intro yf ya yb C Sp Pn h1 A hle m1 m2 m3 hC hy
 refine jb LD U ntmps255 U λX hXM hX=>?_
 have hs0:cC c p=[]++cC c p:=rfl
 have hkd:=hco.kind
 refine qK 5 [] U (iZ (j:=9) ty3 (ac.mono hle) U U (qL 1 [] U (iZ (j:=1) ty58 (ap_z.mono hle) U U (qL 3 [] U (j0 U (λc1=>?_) (λc1=>?_))))))
 .have c1p:=of_decide_eq_true c1
  have hs1:=hs0.trans (congrArg ([]++·) (bt c1))
  refine ef ?_
  have hs2:cC c p=[]:=hs1.trans (List.append_nil _)
  exact mE [] (A:=A) LD U (List.Sublist.refl _) (.inl (hs2▸hC))
 have c1p:=of_decide_eq_false c1
 have hs3:=hs0.trans (congrArg ([]++·) (bf c1))
 refine qT 2 U (er ([]) mixed kr jn (λdY _=>qB [0,1] U (tf 2 U U (rH 6 ty28 (ac.mono hle) U U) (qB [3,4] U (tf 5 U U (rH 7 ty3 (ac.mono hle) U U) (qB [6,7] U (tf 8 U U (rH 8 ty3 (ac.mono hle) U U) (qB [9] U (tf 10 U U (rH 3 ty59 (ap_z.mono hle) U U) (qB [11,12] U (tf 13 U U (rH 9 ty3 (ac.mono hle) U U) ?_)))))))))))
 have ho1:0<=(c.doc.Kind:Int)/\(c.doc.Kind:Int)<((p.Rules).length:Int):=ob
 refine jf 14 dY jn wu ty79 (hp.Rules.mono Rule.aj hle).1 ho1 (cV ho1) U U U U kr (λq1 cs1 A1 ln1 rr1=>?_)
 obtain⟨r1,rfl,ok1⟩:=rr1
 refine qB [15] U (tf 16 U U (rH 2 ty3 A1 U U) (qB [17] U (tf 18 U U (rH 48 ty3 (ac.mono hle) U U) (qB [19] U (tf 20 U U (rH 49 ty3 (ac.mono hle) U U) (tn 21 U (cR call28 (wF _ _ _ _ c.doc.No c.doc.At ((nthI p.Rules c.doc.Kind).Think) c.at_ c.known (hc.Register.Approvals.mono zH hle) hsm.2.2.2.2.2.2) U (λv1 h2 hle1 hp1=>?_))))))))
 obtain⟨rb1,rc1,rfl,sl1⟩:=hp1
 refine⟨⟨hle1,λ_ hp=>List.Sublist.subset (List.nil_sublist _) hp⟩,nH (K2:=[]) hle1 (λ_ hp=>hp) (qR 22 5 U (aJ kr (qT 3 U (aA (nT ux (hU h2 ((cm c.Register.Approvals c.doc.No c.doc.At ((nthI p.Rules c.doc.Kind).Think) c.at_ c.known).2)) (by first|exact lZ (yd hco hpr ob)|exact lZ (yc hco (fN hd1))|exact lZ (ye hco (fN hd1))) U (qL 7 [] U ?_))))))⟩
 refine lp2 ((cm c.Register.Approvals c.doc.No c.doc.At ((nthI p.Rules c.doc.Kind).Think) c.at_ c.known).1) (λi w=>[(0,.func yf ya yb),(1,.pointer (some c_q)),(48,.slice rb1 (((cm c.Register.Approvals c.doc.No c.doc.At ((nthI p.Rules c.doc.Kind).Think) c.at_ c.known).1).length) rc1),(49,I ((((cm c.Register.Approvals c.doc.No c.doc.At ((nthI p.Rules c.doc.Kind).Think) c.at_ c.known).1).length:Nat):Int)),(50,I (i:Int))]) (λw=>w.2.2) (λw=>w.2.1) (λi w=>C w.1 w.2.2 w.2.1/\xN h2 w.2.2) (λs1 i w=>w.1++(cC.L1 c (cC.K1)) s1) ([],A,h2) sl1.1.1 hs3 ⟨(m1 _ _ _ _ hle1 hC),lf⟩ ?_ ?_
 .rintro i1 ⟨dn1,A1_,hh1⟩ fm hs4 ⟨hC1_,hl1⟩ e
  refine ef ?_
  have hs5:cC c p=dn1:=hs4.trans (List.append_nil _)
  exact sS [] (A:=A1_) LD U (List.Sublist.refl _) (.inl (hs5▸hC1_))
 rintro i1 ⟨dn1,A1_,hh1⟩ y1 rz1 hd1 df aS ek gu hs6 ⟨hC1_,hl1⟩ hx1 ag1 e
 refine sr (tO df U (qO 8 U (aA (iF vA md ty81 (sl1.mono zH hl1).1 aS U U U (λq3 A3=>dt ty81 A3 U U (aT zc81 (λb2=>aO 0 ty81 U U U U U U (im (L':=[(b2,O (vA y1) 81)]++(A1_)) U (qL 5 [] U (dj ty22 (ac.mono ((hle.t hle1).t hl1)) U (qL 5 [0,0] U (iZ (j:=48) ty3 (ac.mono ((hle.t hle1).t hl1)) U U (qL 1 [] U (iZ (j:=49) ty3 (ac.mono ((hle.t hle1).t hl1)) U U (ai call29 (Ce _ _ _ _ y1.Office y1.For c.at_ c.known (hc.Register.Appoints.mono xQ ((hle.t hle1).t hl1))) U (qO 13 U (aA (nT ux (hU hh1 ((hO c.Register.Appoints y1.Office y1.For c.at_ c.known).2.2.2)) (by first|exact lZ (yd hco hpr ob)|exact lZ (yc hco (fN hd1))|exact lZ (ye hco (fN hd1))) U (qL 5 [] U (iZ (j:=1) ty23 (ac.mono ((hle.t hle1).t hl1)) U U (qL 8 [0,0,0] U (iZ (j:=9) ty3 (ac.mono ((hle.t hle1).t hl1)) U U (qL 2 [] U (iZ (j:=10) ty3 (ac.mono ((hle.t hle1).t hl1)) U U (qL 1 [] U (iZ (j:=48) ty3 (ac.mono ((hle.t hle1).t hl1)) U U (qL 1 [] U (iZ (j:=49) ty3 (ac.mono ((hle.t hle1).t hl1)) U U (aA (cR call30 (BD _ _ _ _ y1.For y1.By y1.Office c.doc.Kind c.doc.Value c.at_ c.known (hc.Register.Deputies.mono xT ((hle.t hle1).t hl1)) hsm.2.2.1) U (λv3 h4 hle3 hp3=>?_)))))))))))))))))))))))))))))))
 obtain⟨rb3,rc3,rfl,sl3⟩:=hp3
 refine qO 11 U (aA (nT ux (hU h4 ((aG c.Register.Deputies y1.For y1.By y1.Office c.doc.Kind c.doc.Value c.at_ c.known).2.2)) (by first|exact lZ (yd hco hpr ob)|exact lZ (yc hco (fN hd1))|exact lZ (ye hco (fN hd1))) U (qO 5 U (bp 2 [100,101,102] 100 102 ((aG c.Register.Deputies y1.For y1.By y1.Office c.doc.Kind c.doc.Value c.at_ c.known).2.1) U (λc2 hk1=>?_) (λe=>?_)))))
 .exact av (eB U (hk1 _ U))
 refine av (bp 6 [103,104,105,106,107,108,109] 103 109 (!(iJ c y1.For)) U (λc3 hk2=>?_) (λe=>?_))
 .exact dt ty123 (ac.mono (((hle.t hle1).t hl1).t hle3)) U U (qL 2 [0] U (ai call256 (pJ _ _ _ y1.For (hc.mono (((hle.t hle1).t hl1).t hle3)) hsm ob (by first|exact HA hco (fN hd1)|exact Kl hco (fN hd1))) U (qO 2 U (hk2 _ U))))
 refine av (bp 6 [110,111,112,113,114,115,116] 110 116 (!(iJ c y1.By)) U (λc4 hk3=>?_) (λe=>?_))
 .exact dt ty123 (ac.mono (((hle.t hle1).t hl1).t hle3)) U U (qL 2 [0] U (ai call256 (pJ _ _ _ y1.By (hc.mono (((hle.t hle1).t hl1).t hle3)) hsm ob (by first|exact HA hco (fN hd1)|exact Kl hco (fN hd1))) U (qO 2 U (hk3 _ U))))
 refine av (uz 117 U (λc5=>?_) (λc5=>?_))
 .have hs7:=hs6.trans (congrArg (dn1++·) (bt c5))
  refine av (cM 0 ty81 U U U ?_)
  have hx1:cC c p=dn1++(y1::(cC.L1 c (cC.K1) rz1)):=hs7
  refine aA (kp ([(b2,O (vA y1) 81)]) A1_ ap (hy dn1 y1 _ _ _ _ hx1 ((hle1.t hl1).t hle3) (m1 _ _ _ _ hle3 hC1_) U) U U (λh5 A4 hle4 hC1=>?_) (λh6 A5 hle5 hS1=>?_) (λch1 h7 A6 hle6 hP1 e=>gy (mP [] (A:=A6) LD (List.sublist_append_right _ _) hP1)))
  .have hs8:cC c p=(dn1++[y1])++((cC.L1 c (cC.K1) rz1)):=hx1.trans ap
   exact mU U (qO 6 U (oi i1 U (qO 2 U (bo (L':=A4) js (ag1 ((dn1++[y1]),A4,h5) hs8 ⟨hC1,((hl1.t hle3).t hle4)⟩)))))
  exact mU U (qO 3 U (ef (mE [] (A:=A5) LD U js (.inr hS1))))
 have hs9:=hs6.trans (congrArg (dn1++·) (bf c5))
 exact kq (qO 8 U (oi i1 U (qO 2 U (bo (L':=A1_) js (ag1 (dn1,A1_,h4) hs9 ⟨(m1 _ _ _ _ hle3 hC1_),(hl1.t hle3)⟩)))))
theorem yN(h:HF)(c:bI)(nZ:jv)(p:Policy)(gM:eR)(hc:bI.ok h c nZ)(hp:vP h p gM)(hsm:smR c.Register)(hco:iH c)(hpr:p.Rules.length=p.Kinds.length/\∀y∈p.Rules,0<=y.Think/\y.Think<=1099511627775):ju prog 162 [.agg (bI.cells c nZ).toArray,.agg (xE p gM).toArray] h (λv h'=>∃(rv0:Value),v=rv0/\Itr prog rv0 pf (fK c p) h'):=by
 refine sT func162 U ntmps162 U λX hM hX hF=>?_
 have hs0:=@rfl _ (fK c p)
 refine sr (cv (λb1=>cv (λb2=>qO 4 U (aQ 1 U hM (λh1 hle1 hb1=>aQ 0 U hM (λh2 hle2 hb2=>aA (eA U U (an ?_))))))))
 have hs1:fK c p=(cC c p):=hs0
 exact nretH [.func (.func 255) #[] #[Q b1,Q b2]] (hs1▸⟨(.func (.func 255) #[] #[Q b1,Q b2]),U,(wz h2 c nZ ⟨b1,0,none⟩ p gM ⟨b2,0,none⟩ (hc.mono (hle1.t hle2)) ((cx hb1).mono hle2) (hp.mono (hle1.t hle2)) (cx hb2) ob ob ob)⟩)
theorem pI(h:HF)(c:bI)(nZ:jv)(p:Policy)(gM:eR)(hc:bI.ok h c nZ)(hp:vP h p gM)(hsm:smR c.Register)(hco:iH c)(hpr:p.Rules.length=p.Kinds.length/\∀y∈p.Rules,0<=y.Think/\y.Think<=1099511627775):ju prog 79 [.agg (bI.cells c nZ).toArray,.agg (xE p gM).toArray] h (λv h'=>∃(rb0:Option Addr)(rc0:Nat),v=.slice rb0 (bB c p).length rc0/\SlC zC h' rb0 rc0 (bB c p)):=by
 refine cB func79 U ntmps79 U λX hM hX=>?_
 have hs0:=@rfl _ (bB c p)
 refine sr (cv (λb1=>cv (λb2=>aT zc31 (λb3=>qO 4 U (cM 2 ty123 U U U (cM 1 ty64 U U U (aA (cR call162 (yN _ _ _ _ _ hc hp ob ob ob) U (λv1 h1 hle1 hp1=>?_)))))))))
 obtain⟨_,rfl,mo1⟩:=hp1
 refine qO 2 U (ef ?_)
 let z1:Nat×Obj:=(b1,O (bI.cells c nZ) 123)
 let z2:Nat×Obj:=(b2,O (xE p gM) 64)
 refine cg (L':=([(b3,O [.slice none 0 0] 31),z2,z1])++markB []) ap ?_
 refine jw (it:=v1) (xs:=(fK c p)) (ι:=(List Int)×Option Addr×Nat×LH×HF) [] (λi=>i.2.2.2.2) (λi=>[(b3,O [.slice i.2.1 i.1.length i.2.2.1] 31),z2,z1]++(i.2.2.2.1)) (λs i=>bB c p=((bB.L1 (bB.K1)) s i.1)/\du zC 3 i.2.2.2.2 i.1 i.2.1 i.2.2.1 i.2.2.2.1/\xN h1 i.2.2.2.2/\i.1.length+s.length<=2000000) (λ_=>False) (λ_=>False) 0 (λ_ _ _=>False) ([],none,0,[],h1) func79 U mo1 U pV (λ_ _ _ _ _ hq=>hq) U (show[(b3,O [.slice none 0 0] 31),z2,z1]=_ from U) ⟨hs0,du.nil,lf,(by have hc:=OK hsm p;simpa using hc)⟩ ?_ ?_ ?_ ?_ ?_
 .rintro l1 dm1 lp1 y1 rz1 vs1 ⟨cf,kY,kX,kZ,hh1⟩ hr1 X hFR1 ⟨hs1,mJ,hl1,u1_0⟩ hl01 hlr1 hv1 hX hXM hlp1 nx1 rt1 ex1 pn1
  try dsimp only at mJ hl1 u1_0 hlr1
  obtain rfl:=hv1
  simp only[xA]at u1_0
  let z3:Nat×Obj:=(b3,O [.slice kY cf.length kX] 31)
  let z6:Nat×Obj:=(dm1,.deferred (some []))
  refine cg (L':=[(l1,.loop lp1),z6,z3,z2,z1]++(kZ++(markB []))) ap (bC (aT zc81 (λb6=>aO 0 ty81 U U U U U U (im (L':=[(b6,O (vA y1) 81),(l1,.loop lp1),z6,z3,z2,z1]++(kZ++(markB []))) U ?_))))
  let z7:Nat×Obj:=(l1,.loop { lp1 with state:=.busy })
  let z8:Nat×Obj:=(b6,O (vA y1) 81)
  refine aF (ji 1 U hlp1 (qK 5 [3,0] U (aA (bE (cells:=[I y1.For]) ec ty3 zc3 U U kr (λb7=>aA (dE TN ([(b7,O [I y1.For] 3),z8,z7,z6,z3,z2,z1]) (markB []) (λG=>[(b7,O [I y1.For] 3),z8,z7,z6,z3,z2,z1]++(markB []++G)) ap (λ_=>ap) ec ty3 zc3 U bytes3 (mJ.mono xH hlr1) U U (e8 0 U (cE (y1.For) U U)) lo lo (λob2 oc2 G4 gr4=>ym (si ([(b7,O [I y1.For] 3),z8,z7,z6,z3,z2,z1]) G4 (markB [])) (cJ 4 ty31 U U U U U U (qO 2 U ?_)))))))))
  let z9:Nat×Obj:=(b3,O [.slice ob2 ((cf++[y1.For]).length) oc2] 31)
  exact bo (L':=[z7,z6,z9,z2,z1]++(G4++(markB []))) js (cg (L':=rdH l1 dm1 lp1 (([z9,z2,z1]++G4)++markB [])) ap (nx1 ((cf++[y1.For]),ob2,oc2,G4,hr1) _ _ ⟨hs1,gr4,(hl1.t hlr1),(by first|omega|(simp only[jA,xA,vB]at *;omega))⟩ lf))
 .rintro dm1 ⟨cf,kY,kX,kZ,hh1⟩ hn1 ⟨hs2,mJ,hl1,u1_0⟩ hln1 hl01
  try dsimp only at mJ hl1 u1_0 hln1
  let z4:Nat×Obj:=(b3,O [.slice kY cf.length kX] 31)
  refine cg (L':=[z4,z2,z1]++(kZ++(markB (dm1::[])))) ap (qK 4 [0] U (aA (m9 ([z4,z2,z1]) kZ (markB (dm1::[])) NC (mz hn1 cf kY kX kZ (mJ.mono xH hln1) (by first|assumption|omega|(simp only[jA,xA,vB] ;omega))) ap U (λG5 gr5=>qL 4 [0] U (aA (m9 (v:=.slice kY (slices_Compact_int (sortI cf)).length kX) ([z4,z2,z1]) G5 (markB (dm1::[])) call136 (pG hn1 (sortI cf) kY kX G5 gr5) ap (by first|rfl|(simp only[iM];rfl)) (λG6 gr6=>im (L':=[z4,z2,z1]++(G6++(markB (dm1::[])))) ap (cJ 0 ty31 U U U U U U (aF ?_)))))))))
  let z5:Nat×Obj:=(b3,O [.slice kY ((slices_Compact_int (sortI cf)).length) kX] 31)
  refine fx xH ([z5,z2,z1]) G6 (markB (dm1::[])) ap hM gr6 (λh3 hle3 sl2=>?_)
  have hs3:bB c p=(slices_Compact_int (sortI cf)):=hs2
  exact cg (L':=([z5,z2,z1])++markB (dm1::[])) ap (qn (dm1::[]) [.slice kY ((slices_Compact_int (sortI cf)).length) kX] func79 U ⟨⟨0,_,_,_,_,U,U,.inr ⟨_,ty31,U⟩⟩,trivial⟩ ⟨kY,kX,congrArg (λr:List Int=>(.slice kY r.length kX:Value)) hs3.symm,(by rw[hs3];exact sl2)⟩)
 .exact xf
 .exact xf
 exact xf
theorem rR(h:HF)(s:List Version)(sI:Option Addr)(sH:Nat)(f:(Version->Bool))(f_v:Value)(hs:SlC jQ h sI sH s)(hf:∀(h':HF)(dC:Version)(yS:pA),xN h h'->Uc h' dC yS->tv prog f_v [.agg (Sz dC yS).toArray] h' [] (.bool (f dC))):Ret prog 163 [.slice sI s.length sH,f_v] h (I (aZ s f)):=by
 refine sT func163 U ntmps163 U λX hM hX hF=>?_
 have hs0:=@rfl _ (aZ s f)
 refine qK 11 [] U ?_
 refine lp0 s (λi=>[(0,.slice sI s.length sH),(1,f_v),(7,I (s.length:Int)),(8,I (i:Int))]) ([]) (λs1 i=>(aZ.L1 f (aZ.K1)) s1 i) hs.1.1 hs0 ?_ ?_
 .rintro i1 fm hs1 e
  exact sr (an (nretP [I (-1)] (ci hs1)))
 rintro i1 y1 rz1 hd1 df aS ek gu hs3 hx1 ag1 e
 refine sr (tO df U (qO 16 U (aA (iR zx ty105 hs.1 aS U U U (λ_ _ _ e=>e) (λq2 r2 A2 ok2=>dt ty105 A2 U U (aA (lA (v:=.bool (f y1)) [] (List.nil_sublist _) (hf h y1 r2 lf ok2) U U (aF (ae hs3 U (λc2 hs4=>?_) (λc2 hs5=>?_))))))))))
 .exact sr (qO 3 U (nretP [I (i1:Int)] (ci hs4)))
 exact aI (qT 2 U (oi i1 U (qO 2 U (ag1 hs5))))
theorem DI(s:List Version)(f:Version->Bool):aZ s f<(s.length:Int):=by
 have key:∀(l:List Version)(i:Nat),aZ.L1 f aZ.K1 l i<((i+l.length:Nat):Int):=by
  intro l
  induction l with
  |nil=>intro i;simp only[aZ.L1,aZ.K1];omega
  |cons y l ih=>
   intro i
   simp only[aZ.L1,Bool.cond_eq_ite,xA]
   split
   .omega
   have:=ih (i+1);omega
 have:=key s 0
 simpa[aZ]using this
theorem uH(h:HF)(v:Version)(RL:pA)(v0:Int)(v0_q:Addr)(hv:Uc h v RL)(av0:At h v0_q [I v0]):Ret prog 164 [.agg (Sz v RL).toArray,.pointer (some v0_q)] h (.bool (eF v v0)):=by
 refine sT func164 U ntmps164 U λX hM hX hF=>?_
 have hs0:=@rfl _ (eF v v0)
 exact sr (cv (λb1=>qL 6 [0] U (dj ty3 av0 U (qO 3 U (nretP [.bool (v.No==v0)] (cs hs0))))))
theorem pH(h:HF)(c:bI)(nZ:jv)(no:Int)(hc:bI.ok h c nZ):HG prog 80 [.agg (bI.cells c nZ).toArray,I no] h errV (fe c no) (λ(r:Policy)v h'=>∃(rr0:eR),v=.agg (xE r rr0).toArray/\vP h' r rr0):=by
 refine cB func80 U ntmps80 U λX hM hX=>?_
 have hs0:=@rfl _ (fe c no)
 refine sr (cv (λb1=>cv (λb2=>aT zc64 (λb3=>qL 6 [2] U (aQ 1 U hM (λh1 hle1 hb1=>aA (eA U U (ai call163 (rR _ _ _ _ (λdC=>eF dC no) (.func (.func 164) #[] #[Q b2]) (hc.Register.Versions.mono zN hle1) (λh' dC yS hle a0_o=>iq call164 (uH h' dC yS no ⟨b2,0,none⟩ a0_o ((cx hb1).mono hle)))) U (qO 8 U (ae hs0 U (λc1 hs1=>?_) (λc1 hs2=>?_)))))))))))
 .have c1p:=of_decide_eq_true c1
  exact bC (aA (eT (DV NJ U U) (aA (DR U yo (λe=>gy (IY [] func80 hs1))))))
 have c1p:=of_decide_eq_false c1
 refine qK 7 [1] U ?_
 have ho1:0<=((aZ c.Register.Versions (λdC=>eF dC no)):Int)/\((aZ c.Register.Versions (λdC=>eF dC no)):Int)<((c.Register.Versions).length:Int):=(by have hq:=DI c.Register.Versions (λdC=>eF dC no);simp only[decide_eq_true_eq,decide_eq_false_iff_not,Bool.and_eq_true,xD,Bool.not_eq_true',Bool.not_eq_false',Bool.and_eq_false_iff,Bool.or_eq_false_iff,beq_iff_eq,beq_eq_false_iff_ne,bne_iff_ne,bne_eq_false_iff_eq,jA,xA,vB,List.length_drop]at *;omega)
 refine aA (uk zx ty105 (hc.Register.Versions.mono zN hle1).1 ho1 (cV ho1) U U U (λ_ _ _ e=>e) (λq1 r1 A1 ok1=>qL 1 [] U (Af (j:=3) ty64 A1 U U (aO 0 ty64 U U U U U U (aF ?_)))))
 have hs3:fe c no=(Except.ok ((nthI c.Register.Versions (aZ c.Register.Versions (λdC=>eF dC no))).Policy)):=hs2
 exact ef (IV [] [.agg (xE ((nthI c.Register.Versions (aZ c.Register.Versions (λdC=>eF dC no))).Policy) r1.Policy).toArray] func80 U ⟨⟨0,_,_,_,_,U,U,.inl ⟨ty64,U⟩⟩,trivial⟩ hs3 ⟨r1.Policy,U,ok1.Policy⟩)
section
variable {P:Program} {e:Env} {X:Cx} {h:HF} {L:LH} {d:Option Nat} {ty:TypeId} {pos:String} {af:Array Edge} {g:Option (Nat×Bool)}
theorem PT{t u:TypeId}(hT:∃ms,P.underlying t=some (.interface ms))(hx:e.ev x=.nilIface):∀w,St X h L w->(execOp e.ev ⟨d,.binOp .eql t x (.const .nilIface) u,ty,pos,af,g⟩).run P w=.ok (.value (.bool true)) w:=
 λw _=>by
  obtain⟨ms,hT⟩:=hT
  have hc:e.ev (.const .nilIface)=.nilIface:=rfl
  have he:(Op.equal t .nilIface .nilIface).run P w=.ok true w:=by
   rw[Op.equal,Op.maxDepth,show(10000:Nat)=9999+1 from rfl,Op.equalIn];simp[run_underlying hT]
  simp[execOp,hx,hc,eqGuard,binOp,he]
theorem PS{t u:TypeId}{T:TypeId}(hT:∃ms,P.underlying t=some (.interface ms))(hx:e.ev x=.iface T v):∀w,St X h L w->(execOp e.ev ⟨d,.binOp .eql t x (.const .nilIface) u,ty,pos,af,g⟩).run P w=.ok (.value (.bool false)) w:=
 λw _=>by
  obtain⟨ms,hT⟩:=hT
  have hc:e.ev (.const .nilIface)=.nilIface:=rfl
  have he:(Op.equal t (.iface T v) .nilIface).run P w=.ok false w:=by
   rw[Op.equal,Op.maxDepth,show(10000:Nat)=9999+1 from rfl,Op.equalIn];simp[run_underlying hT]
  simp[execOp,hx,hc,eqGuard,binOp,he]
theorem K5{xt T:TypeId}{k:IntKind}(hT:P.underlying T=some (.int k))(hx:e.ev x=.iface T v):∀w,St X h L w->(execOp e.ev ⟨d,.typeAssert x xt T true,ty,pos,af,g⟩).run P w=.ok (.value (.tuple #[v,.bool true])) w:=
 λw _=>by simp[execOp,hx,Instr.typeAssert,run_underlying hT]
end
theorem FW(h:HF)(b1:Nat)(e0:Int)(X':Cx):TT prog (deferFrame 50) 14 [.code (bodyOf Tryz.f50)] (F9 prog X' .returning (λh' B=>h'=h/\B=[(b1,O [I e0] 37)])) (envArgs [Q b1]) [] X' h [(b1,O [I e0] 37)]:=by
 exact sr (CI (λcs_z Φ⟨c,rest,hcs,hm,_⟩=>by subst hcs;simp[recoverD,hm]) (qO 4 U (aA (eT (PT ⟨_,NN⟩ U) (qO 6 U (HR D8 U ⟨U,U⟩))))))
theorem vw(h:HF)(b1:Nat)(e0 ee:Int)(X':Cx):TT prog (deferFrame 50) 14 [.code (bodyOf Tryz.f50)]
  (λcs_z Φ=>∃c rest,cs_z=c::rest/\c.mode=.panicking [{ v:=errV ee,recovered:=false }]/\F9 prog X' (.panicking [{ v:=errV ee,recovered:=true }]) (λh' B=>h'=h/\B=[(b1,O [I ee] 37)]) ({ c with mode:=(.panicking [{ v:=errV ee,recovered:=true }]) }::rest) Φ)
  (envArgs [Q b1]) [] X' h [(b1,O [I e0] 37)]:=by
 exact sr (Eh (F':=F9 prog X' (.panicking [{ v:=errV ee,recovered:=true }]) (λh' B=>h'=h/\B=[(b1,O [I ee] 37)])) (errV ee) (λcs_z Φ⟨c,rest,hcs,hm,hF⟩=>⟨_,by subst hcs;simp[recoverD,hm],hF⟩) (qO 4 U (aA (eT (PS ⟨_,NN⟩ U) (qO 4 U (aA (eT (K5 NJ U) (qO 11 U (aA (eT (fL U) (cJ 0 ty37 U U U U U U (qO 2 U (HR D8 U ⟨U,U⟩)))))))))))))
theorem sa{b:Frame}{n:Nat}{ops:Array Oper}{l:List Oper}{k:List Item}{F:List Frame->(Machine->Prop)->Prop}{e:Env}{ds:List Deferred}{X:Cx}{L:LH}{d:Nat}{ty:TypeId}{pos:String}{af:Array Edge}{g:Option (Nat×Bool)}{x:Except Int ρ}{φ:ρ->Value->HF->Prop}(hc:∀args w,(callFunc f args).run P w=.ok (.enter f args) w)(hs:HG P f vs h pe x φ)(hvs:ass.toList.map e.ev=vs)(t':∀u v h',x=.ok u->h.le h'->φ u v h'->TO P b n ops l k F (upd e d v) ds X h' L)(tp:∀p h',x=.error p->h.le h'->TP P b n [{ v:=pe p,recovered:=false }] F e ds X h' L)(hdn:Nat.blt d n=true:=by rfl)(hg:guardB ops e ⟨some d,.call ⟨.value (.func f),ass,ats⟩,ty,pos,af,g⟩=true:=by rfl):
  TO P b n ops (⟨some d,.call ⟨.value (.func f),ass,ats⟩,ty,pos,af,g⟩::l) k F e ds X h L:=by
 refine HQ U (oy hdn) U hg (λw hw=>?_)
 have harr:ass.map e.ev=vs.toArray:=Sd (by simp[←hvs])
 refine⟨.enter f vs.toArray,w,?_,?_⟩
 .simp[execOp,resolve,Env.ev,xJ,invoke,harr,hc]
 refine je (rq.mono (hs w (hw.sub (List.nil_sublist _)).pre) ?_)
 rintro y w' ⟨h',B,hst,rfl,hv⟩
 have hw2:=St.after (A:=[]) (B:=[]) (F:=L) hw hst
 cases y with
 |outgrown=>trivial
 |returned v=>
  cases x with
  |ok u=>obtain⟨v',hv,hφ⟩:=hv;cases hv;exact⟨h',_,hw2,t' _ _ _ rfl hst.le hφ⟩
  |error p=>cases hv
 |panicked ch=>
  cases x with
  |ok u=>obtain⟨v',hv,_⟩:=hv;cases hv
  |error p=>cases hv;exact⟨h',_,hw2,tp _ _ rfl hst.le⟩
theorem GK.toXH{enc:ρ->Value}{x:Except Int ρ}(hs:GK P f vs h (exW pe enc x)):HG P f vs h pe x (λu v h'=>v=enc u/\h'=h):=
 nu.mono hs (λr h' B hl hR=>by
  obtain⟨rfl,rfl,hv⟩:=hR
  refine⟨U,?_⟩
  cases x with
  |ok u=>simp only[exW]at hv;exact⟨_,hv,rfl,rfl⟩
  |error p=>simp only[exW]at hv;exact hv)
theorem wh(h:HF)(bN:Register)(eN:fq)(doc:Int)(version:Int)(di:Int)(known:Int)(jr:Register.ok h bN eN)(hsm:smR bN)(hk:Kinds h):
  ju prog 16 [.agg (vN bN eN).toArray,I doc,I version,I di,I known] h (λv h'=>∃(rb0:Option Addr)(rc0:Nat),v=.tuple #[.slice rb0 ((gE bN doc version di known).1).length rc0,I ((gE bN doc version di known).2)]/\SlC zC h' rb0 rc0 ((gE bN doc version di known).1)):=by
 refine cB LC U ntmps16 U λX hM hX=>sr (cv (λb5=>gg (aT zc37 (λb11=>qO 3 U (GW U U (aF ?_))))))
 have fin:∀(hh:HF)(xs:List Int)(rb:Option Addr)(rc:Nat)(ee:Int)(B:LH)(e:Env),gE bN doc version di known=(xs,ee)->SlC zC hh rb rc xs->e 10=.slice rb xs.length rc->e 11=Q b11->∀a:Act,envOf a=e->∀w,St X hh ([(b11,O [I ee] 37)]++B) w ->
   ∃v h2 B2,(results Tryz.f16 a.tmps).run prog w=.ok v w/\St X h2 B2 w/\(B2=[]/\∃v',Ending.returned v=.returned v'/\∃(rb0:Option Addr)(rc0:Nat),v'=.tuple #[.slice rb0 ((gE bN doc version di known).1).length rc0,I ((gE bN doc version di known).2)]/\SlC zC h2 rb0 rc0 ((gE bN doc version di known).1)):=by
  intro hh xs rb rc ee B e he hs h10 h11 a ha w hw
  rw[he]
  exact⟨_,hh,[],mB (rs:=[.tmp 10,.cell 11 37]) (vs:=[.slice rb xs.length rc,I ee]) U ⟨h10,⟨0,b11,[I ee],37,(0,0),U,h11,.inr ⟨_,ty37,U⟩⟩,trivial⟩ a ha w hw,hw.sub (List.nil_sublist _),U,_,U,rb,rc,U,hs⟩
 refine sr (cM 1 ty30 U U U (ai (v:=I (dD bN)) NB (pd h bN eN jr hsm hk) U ?_))
 refine sa ux (hU h (dD bN)).toXH U (λu v h1 hx1 hle1 hp1=>?_) (λee h1 hx1 hle1=>?_)
 rotate_left
 .have e1:gE bN doc version di known=([],ee):=by
   unfold lW at hx1;unfold gE
   cases hc:dD bN != 0 with
   |true=>rw[hc]at hx1;cases hx1;rfl
   |false=>rw[hc]at hx1;cases hx1
  refine AF (c:=bodyOf Tryz.f50) (cap:=[Q b11]) (A:=[(b11,O [I 0] 37)]) (R':=λh'' B=>h''=h1/\B=[(b11,O [I ee] 37)]) LC D8 U Iq_ U IN (λX' _=>vw h1 b11 0 ee X') U ?_
  rintro h'' B _ ⟨rfl,rfl⟩ a ha w hw
  exact fin _ [] none 0 ee _ _ e1 kE U U a ha w hw
 obtain⟨rfl,rfl⟩:=hp1
 have hc0:dD bN=0:=by
  unfold lW at hx1
  cases hc:dD bN != 0 with
  |true=>rw[hc]at hx1;cases hx1
  |false=>simpa using hc
 refine qO 3 U (cM 1 ty30 U U U (qO 3 U ?_))
 refine sa call53 (zc h1 bN eN doc di known jr) U (λc v h2 hx2 hle2 hp2=>?_) (λee h2 hx2 hle2=>?_)
 rotate_left
 .have e1:gE bN doc version di known=([],ee):=by unfold gE;rw[hc0,hx2];rfl
  refine AF (c:=bodyOf Tryz.f50) (cap:=[Q b11]) (A:=[(b11,O [I 0] 37)]) (R':=λh'' B=>h''=h2/\B=[(b11,O [I ee] 37)]) LC D8 U Iq_ U IN (λX' _=>vw h2 b11 0 ee X') U ?_
  rintro h'' B _ ⟨rfl,rfl⟩ a ha w hw
  exact fin _ [] none 0 ee _ _ e1 kE U U a ha w hw
 obtain⟨cr,rfl,okc⟩:=hp2
 obtain⟨hce,hco,_,_⟩:=Ic hc0 hx2
 have hreg:c.Register=bN:=by rw[hce]
 have hsc:smR c.Register:=by rw[hreg];exact hsm
 refine aT zc123 (λb12=>aO 0 ty123 U U U U U U (aF ?_))
 let z1:Nat×Obj:=(b12,O (bI.cells c cr) 123)
 obtain⟨K,hK⟩:∃K:LH,K=[z1]:=⟨_,rfl⟩
 have J:∀{h':HF}{A:LH},h2.le h'->Jst h2 [z1] h' (z1::A):=λhl=>⟨hl,λq hq=>by rw[xC.1 hq];exact jB ..⟩
 refine dK (er [z1] mixed kr (J lf) (λhsep _=>gz 0 hsep (J lf) U U kr U (λ_ _ hj=>jg ty123 U (hj.nth (i:=0) U) U) (gz 1 hsep (J lf) U U kr U (λ_ _ hj=>jg ty123 U (hj.nth (i:=0) U) U) (gz 2 hsep (J lf) U U kr U (λ_ _ _=>ja) ?_))))
 refine tn 3 U (Jd call80 (pH h2 c cr version okc) U (λp v h3 hpp hle3 hp3=>⟨J hle3,?_⟩) (λee h3 hpp hle3 e' hA=>?_))
 rotate_left
 .have e1:gE bN doc version di known=([],ee):=by unfold gE;rw[hc0,hx2];simp only[bne_self_eq_false,cond_false,hpp]
  refine HO (L':=[(b11,O [I 0] 37)]++[z1,(b5,O (vN bN eN) 30)]) (List.Perm.swap _ _ _) (AF (c:=bodyOf Tryz.f50) (cap:=[Q b11]) (A:=[(b11,O [I 0] 37)]) (R':=λh'' B=>h''=h3/\B=[(b11,O [I ee] 37)]) LC D8 U Iq_ U IN (λX' _=>vw h3 b11 0 ee X') U ?_)
  rintro h'' B _ ⟨rfl,rfl⟩ a ha w hw
  exact fin _ [] none 0 ee _ _ e1 kE ((hA.at_ 10).trans U) ((hA.at_ 11).trans U) a ha w hw
 have hpk:=vu hco hsc hpp
 have e1:gE bN doc version di known=(bB c p,0):=by unfold gE;rw[hc0,hx2];simp only[bne_self_eq_false,cond_false,hpp]
 obtain⟨pr,rfl,okp⟩:=hp3
 refine tn 4 U (cR call79 (pI h3 c cr p pr (okc.mono hle3) okp hsc hco hpk.rules) U (λv h4 hle4 hp4=>⟨J (hle3.t hle4),?_⟩))
 obtain⟨rb,rc,rfl,sl⟩:=hp4
 refine gz 5 hsep (J (hle3.t hle4)) U U kr U (λ_ _ _=>xa) (tn 6 U (kt 1 (off:=0) (vs:=[I 0]) ty37 U U U U (by rfl) U ⟨J (hle3.t hle4),aJ kr (lJ (L':=[(b11,O [I 0] 37)]++[z1,(b5,O (vN bN eN) 30)]) (List.Perm.swap _ _ _) (IW (c:=bodyOf Tryz.f50) (cap:=[Q b11]) (A:=[(b11,O [I 0] 37)]) (R':=λh'' B=>h''=h4/\B=[(b11,O [I 0] 37)]) LC D8 U Iq_ U IN (λX' _=>FW h4 b11 0 X') U ?_))⟩))
 rintro h'' B _ ⟨rfl,rfl⟩ a ha w hw
 exact fin _ _ rb rc 0 _ _ e1 sl U U a ha w hw
theorem n9(h:HF)(eE:Int)  : Ret prog 85 [I eE] h (.bool (gR eE)):=by
 refine sT func85 U ntmps85 U λX hM hX hF=>?_
 have hs0:=@rfl _ (gR eE)
 refine qT 9 U (bp 3 [5,6,7,8] 5 8 (decide (eE<1099511627776)) U (λc1 hk1=>?_) (λe=>?_))
 .exact av (qO 2 U (hk1 _ U))
 exact an (nretP [.bool (decide (0<=eE)&&decide (eE<1099511627776))] (cs hs0))
theorem wp(h:HF)(l:List Version)(ep:Option Addr)(eo:Nat)(l_q:Addr)(known:Int)(known_q:Addr)(eU:Int)(from__q:Addr)(hl:SlC jQ h ep eo l)(al:At h l_q [.slice ep l.length eo])(aknown:At h known_q [I known])(afrom_:At h from__q [I eU])(hsz:l.length<=2000000):Itr prog (.func (.func 167) #[] (kB [.pointer (some l_q),.pointer (some known_q),.pointer (some from__q)])) rB (bG l known eU) h:=by
 refine sR call167 ?_
 intro yf ya yb C Sp Pn h1 A hle m1 m2 m3 hC hy
 refine jb NA U ntmps167 U λX hXM hX=>?_
 have hs0:bG l known eU=[]++bG l known eU:=rfl
 refine sr (aA (Oa hXM (λb1 b1M=>qO 9 U (dj ty26 (al.mono hle) U (qL 3 [] U ?_)))))
 refine lp2 l (λi w=>[(0,.func yf ya yb),(2,.pointer (some known_q)),(3,.pointer (some from__q)),(5,.map (some b1)),(6,I w.1),(13,.slice ep l.length eo),(14,I (l.length:Int)),(15,I (i:Int))]) (λ_=>h1) (λw=>[(b1,w.2.2)]++(A)) (λi w=>i9 (zD .i64) (iP jQ) h1 w.2.2 w.2.1/\w.2.1.length<=0+i) (λs1 i w=>[]++(bG.L1 known eU (bG.K1)) s1 w.1 w.2.1) ((-1),[],.map #[] 0) ((hl.mono zN hle).1.1) hs0 ⟨(i9.nil (enc:=(zD .i64)) (V:=(iP jQ)) (h:=h1)),lc⟩ ?_ ?_
 .rintro i1 ⟨rC,bu,gZ⟩ fm hs1 ⟨fF,nq⟩ e
  try dsimp only at fF nq
  refine qT 3 U (Ei 0 U b1M (λh8 hle7 hb3=>?_))
  have mc2:tw (zD .i64) (iP jQ) h8 b1 bu:=⟨_,hb3,fF.mono (iP.mono zN) hle7⟩
  refine aA (cR call169 (xn h8 bu b1 mc2) U (λv4 h9 hle8 hp3=>aA (cR call168 (yE h9 v4 (bu.map Prod.fst) hp3 (by rw[List.length_map];omega)) U (λv5 h10 hle9 hp4=>?_))))
  obtain⟨rb2,rc2,rfl,sl2⟩:=hp4
  refine qL 3 [] U ?_
  refine lp2 (sortI (bu.map Prod.fst)) (λi w=>[(0,.func yf ya yb),(5,.map (some b1)),(39,.slice rb2 ((sortI (bu.map Prod.fst)).length) rc2),(40,I ((sortI (bu.map Prod.fst)).length:Int)),(41,I (i:Int))]) (λw=>w.2.2) (λw=>w.2.1) (λi w=>C w.1 w.2.2 w.2.1/\xN h10 w.2.2) (λs2 i w=>w.1++(bG.L2 bu (bG.K2)) s2) ([],A,h10) sl2.1.1 hs1 ⟨(m1 _ _ _ _ ((hle7.t hle8).t hle9) hC),lf⟩ ?_ ?_
  .rintro i2 ⟨dn2,A2_,hh2⟩ yP hs2 ⟨hC2_,hl2⟩ e
   try dsimp only at hC2_ hl2
   refine ef ?_
   have hs3:bG l known eU=dn2:=hs2.trans (List.append_nil _)
   exact sS [] (A:=A2_) NA U (List.Sublist.refl _) (.inl (hs3▸hC2_))
  rintro i2 ⟨dn2,A2_,hh2⟩ y2 rz2 hd2 vq qU Dc J3 hs4 ⟨hC2_,hl2⟩ hx2 ag1 e
  try dsimp only at hC2_ hl2
  refine sr (tO vq U (qO 8 U (aA (iF (λy=>[I y]) ec ty3 (sl2.mono xH hl2).1 qU U U U (λq4 A10=>dj ty3 A10 U (qO 8 U ?_))))))
  obtain⟨o3,hb5,hm5⟩:=(mc2.mono (iP.mono zN) ((hle8.t hle9).t hl2))
  refine aA (ny (k:=y2) NE (fA mH) hb5 hm5 (eX zv105) (show(iP jQ) _ (.agg (kB [I 0,I 0,I 0,.string (⟨#[]⟩:ByteArray),.slice none 0 0,.slice none 0 0,.slice none 0 0,I 0,I 0,I 0,.string (⟨#[]⟩:ByteArray),.slice none 0 0,I 0])) (S0 0 0 0 (kN (⟨#[]⟩:ByteArray) [] [] [] (vG 0 0 0 (⟨#[]⟩:ByteArray) []) 0))from⟨_,U,(pA.mk (eR.mk none 0 none 0 none 0 (cN.mk none 0))),U,⟨⟨kE,kE,kE,(Expr.ok.of kE)⟩⟩⟩) U U (λv7 hv3=>?_))
  obtain⟨_,rfl,rr4,rfl,ok4⟩:=hv3
  have hx3:bG l known eU=dn2++((y2,(mgetD bu y2 (S0 0 0 0 (kN (⟨#[]⟩:ByteArray) [] [] [] (vG 0 0 0 (⟨#[]⟩:ByteArray) []) 0))))::(bG.L2 bu (bG.K2) rz2)):=hs4
  refine aA (kp ([]) A2_ ap (hy dn2 (y2,(mgetD bu y2 (S0 0 0 0 (kN (⟨#[]⟩:ByteArray) [] [] [] (vG 0 0 0 (⟨#[]⟩:ByteArray) []) 0)))) _ _ _ _ hx3 (((hle7.t hle8).t hle9).t hl2) hC2_ ⟨rr4,U,ok4⟩) U U (λh14 A11 hle13 hC3=>?_) (λh15 A12 hle14 hS3=>?_) (λch3 h16 A13 hle15 hP3 e=>gy (mP [] (A:=A13) NA (List.sublist_append_right _ _) hP3)))
  .have hs5:bG l known eU=(dn2++[(y2,(mgetD bu y2 (S0 0 0 0 (kN (⟨#[]⟩:ByteArray) [] [] [] (vG 0 0 0 (⟨#[]⟩:ByteArray) []) 0))))])++((bG.L2 bu (bG.K2) rz2)):=hx3.trans ap
   exact mU U (qO 5 U (oi i2 U (qO 2 U (ag1 ((dn2++[(y2,(mgetD bu y2 (S0 0 0 0 (kN (⟨#[]⟩:ByteArray) [] [] [] (vG 0 0 0 (⟨#[]⟩:ByteArray) []) 0))))]),A11,h14) hs5 ⟨hC3,(hl2.t hle13)⟩))))
  exact mU U (qO 2 U (ef (mE [] (A:=A12) NA U (List.Sublist.refl _) (.inr hS3))))
 rintro i1 ⟨rC,bu,gZ⟩ y1 rz1 hd1 df aS ek gu hs6 ⟨fF,nq⟩ hx1 ag2 e
 try dsimp only at fF nq
 refine sr (tO df U (qO 8 U (aA (iR zx ty105 (hl.mono zN hle).1 aS U U U (λ_ _ _ e=>e) (λq5 r2 A14 ok5=>dt ty105 A14 U U (aT zc105 (λb3=>aO 0 ty105 U U U U U U (im (L':=[(b3,O (Sz y1 r2) 105),(b1,gZ)]++(A)) U (qL 6 [0] U (dj ty3 (aknown.mono hle) U (qO 2 U (j0 U (λc5=>?_) (λc5=>?_)))))))))))))
 .have c5p:=of_decide_eq_true c5
  have hs7:=hs6.trans (congrArg ([]++·) (bt c5))
  exact lK U (bC (oi i1 U (qO 2 U (bo (L':=[(b1,gZ)]++(A)) js (ag2 (rC,bu,gZ) hs7 ⟨fF,lc⟩)))))
 have c5p:=of_decide_eq_false c5
 have hs8:=hs6.trans (congrArg ([]++·) (bf c5))
 refine qK 11 [0] U (dj ty3 (afrom_.mono hle) U (qO 2 U (j0 U (λc6=>?_) (λc6=>?_))))
 .have c6p:=of_decide_eq_true c6
  have hs9:=hs8.trans (congrArg ([]++·) (bt c6))
  refine qT 7 U (j0 U (λc7=>?_) (λc7=>?_))
  .have c7p:=of_decide_eq_true c7
   have hs10:=hs9.trans (congrArg ([]++·) (bt c7))
   exact lK U (bC (oi i1 U (qO 2 U (bo (L':=[(b1,gZ)]++(A)) js (ag2 (rC,bu,gZ) hs10 ⟨fF,lc⟩)))))
  have c7p:=of_decide_eq_false c7
  have hs11:=hs9.trans (congrArg ([]++·) (bf c7))
  exact aI (er ([(b3,O (Sz y1 r2) 105),(b1,gZ)]) mixed kr jn (λdY _=>tm 0 U (tf 1 U U (rh ty3 (afrom_.mono hle) U) (qA [2,3] U (aJ kr (qT 3 U (cM 0 ty105 U U U (aA (j3 1 (k:=eU) (x:=y1) NE (fA mH) U fF U U ⟨_,U,r2,U,ok5⟩ (λmo3 hm6=>qO 3 U (oi i1 U (qO 2 U (bo (L':=[(b1,mo3)]++(A)) js (ag2 (y1.At,(mput bu eU y1),mo3) hs11 ⟨hm6,(by have:=mj bu eU y1;first|omega|(simp only[vB,xA]at *;omega))⟩))))))))))))))
 have c6p:=of_decide_eq_false c6
 have hs12:=hs8.trans (congrArg ([]++·) (bf c6))
 exact aI (qT 3 U (cM 0 ty105 U U U (aA (j3 1 (k:=y1.At) (x:=y1) NE (fA mH) U fF U U ⟨_,U,r2,U,ok5⟩ (λmo4 hm7=>qO 3 U (oi i1 U (qO 2 U (bo (L':=[(b1,mo4)]++(A)) js (ag2 (rC,(mput bu y1.At y1),mo4) hs12 ⟨hm7,(by have:=mj bu y1.At y1;first|omega|(simp only[vB,xA]at *;omega))⟩)))))))))
theorem yD(h:HF)(l:List Version)(ep:Option Addr)(eo:Nat)(dU:Int)(known:Int)(hl:SlC jQ h ep eo l)(hsz:l.length<=2000000):ju prog 86 [.slice ep l.length eo,I dU,I known] h (λv h'=>∃(rv0:Value),v=rv0/\Itr prog rv0 rB (fX l dU known) h'):=by
 refine sT func86 U ntmps86 U λX hM hX hF=>?_
 have hs0:=@rfl _ (fX l dU known)
 refine sr (cv (λb1=>cv (λb2=>cv (λb3=>qO 4 U (aQ 2 U hM (λh1 hle1 hb1=>aQ 0 U hM (λh2 hle2 hb2=>aQ 0 U hM (λh3 hle3 hb3=>aA (eA U U (qO 2 U ?_))))))))))
 have hs1:fX l dU known=(bG l known dU):=hs0
 exact nretH [.func (.func 167) #[] #[Q b1,Q b3,Q b2]] (hs1▸⟨(.func (.func 167) #[] #[Q b1,Q b3,Q b2]),U,(wp h3 l ep eo ⟨b1,0,none⟩ known ⟨b3,0,none⟩ dU ⟨b2,0,none⟩ (hl.mono zN ((hle1.t hle2).t hle3)) ((cx hb1).mono (hle2.t hle3)) ((cx hb2).mono hle3) (cx hb3) ob)⟩)
theorem qm(h:HF)(l:List Version)(ep:Option Addr)(eo:Nat)(old:Bool)(hl:SlC jQ h ep eo l):ju prog 170 [.slice ep l.length eo,.bool old] h (λv h'=>∃(rb0:Option Addr)(rc0:Nat),v=.slice rb0 (iV l old).length rc0/\SlC jQ h' rb0 rc0 (iV l old)):=by
 refine sT func170 U ntmps170 U λX hM hX hF=>?_
 have hs0:=@rfl _ (iV l old)
 refine qT 9 U ?_
 have hs1:iV l old=l:=hs0
 exact nretH [.slice ep l.length eo] (hs1▸⟨ep,eo,U,hl⟩)
theorem wJ(h:HF)(l:List Version)(ep:Option Addr)(eo:Nat)(old:Bool)(hl:SlC jQ h ep eo l)(hne:0<l.length):ju prog 171 [.slice ep l.length eo,.bool old] h (λv h'=>∃(rb0:Option Addr)(rc0:Nat),v=.slice rb0 (iB l old).length rc0/\SlC jQ h' rb0 rc0 (iB l old)):=by
 refine sT func171 U ntmps171 U λX hM hX hF=>?_
 have hs0:=@rfl _ (iB l old)
 refine qT 10 U (ae hs0 U (λc1 hs1=>?_) (λc1 hs2=>?_))
 .refine qT 4 U ?_
  have hs3:iB l old=[]:=hs1
  exact nretH [.slice none 0 0] ⟨none,0,congrArg (λr:List Version=>(.slice none r.length 0:Value)) hs3.symm,(by rw[hs3];exact kE)⟩
 refine qT 4 U (aA (N7 zx ty105 hl.1 hl.2 ob U U U (λsb1 sc1 sl1=>an ?_)))
 have hs4:iB l old=(l.take ((1:Int)).toNat):=hs2
 exact nretH [.slice sb1 ((l.take ((1:Int)).toNat).length) sc1] ⟨sb1,sc1,congrArg (λr:List Version=>(.slice sb1 r.length sc1:Value)) hs4.symm,(by rw[hs4];exact sl1)⟩
theorem wI(h:HF)(l:List Version)(ep:Option Addr)(eo:Nat)(old:Bool)(hl:SlC jQ h ep eo l)(hne:0<l.length):ju prog 172 [.slice ep l.length eo,.bool old] h (λv h'=>∃(rb0:Option Addr)(rc0:Nat),v=.slice rb0 (iU l old).length rc0/\SlC jQ h' rb0 rc0 (iU l old)):=by
 refine sT func172 U ntmps172 U λX hM hX hF=>?_
 have hs0:=@rfl _ (iU l old)
 have hbl:=hl.1.1
 refine qK 9 [] U (io (v':=I ((l.length:Int)-1)) U (jh ob) (aA (N8 zx ty105 hl.1 hl.2 ob U U U (λsb1 sc1 sl1=>an ?_))))
 have hs1:iU l old=(l.drop ((((l.length:Int)-1):Int)).toNat):=hs0
 exact nretH [.slice sb1 ((l.drop ((((l.length:Int)-1):Int)).toNat).length) sc1] (hs1▸⟨sb1,sc1,U,sl1⟩)
theorem sy(h:HF)   : ju prog 87 [] h (λv h'=>∃(rk0:Nat),v=.map (some rk0)/\tw (zD .i64) VFn h' rk0 (lD)):=by
 refine sT func87 U ntmps87 U λX hM hX hF=>?_
 have hs0:=@rfl _ (lD)
 refine qT 10 U (aA (nw (λb1=>aA (wU 0 (k:=1) (x:=(Value.func (.func 171) #[] #[])) IM (fA mH) U (i9.nil (enc:=(zD .i64)) (V:=VFn) (h:=h)) U U U (λmo1 hm1=>aA (wU 0 (k:=2) (x:=(Value.func (.func 172) #[] #[])) IM (fA mH) U hm1 U U U (λmo2 hm2=>av (aA (wU 0 (k:=3) (x:=(Value.func (.func 170) #[] #[])) IM (fA mH) U hm2 U U U (λmo3 hm3=>av (aA (wU 0 (k:=4) (x:=(Value.func (.func 170) #[] #[])) IM (fA mH) U hm3 U U U (λmo4 hm4=>qO 3 U (eI 0 U hM (λh1 hle1 hb1=>?_)))))))))))))))
 have mc1:tw (zD .i64) VFn h1 b1 (mput (mput (mput (mput ([]) 1 (Value.func (.func 171) #[] #[])) 2 (Value.func (.func 172) #[] #[])) 3 (Value.func (.func 170) #[] #[])) 4 (Value.func (.func 170) #[] #[])):=⟨_,hb1,hm4.mono VFn.mono hle1⟩
 have hs1:lD=(mput (mput (mput (mput ([]) 1 (Value.func (.func 171) #[] #[])) 2 (Value.func (.func 172) #[] #[])) 3 (Value.func (.func 170) #[] #[])) 4 (Value.func (.func 170) #[] #[])):=hs0
 exact nretH [.map (some b1)] (hs1▸⟨b1,U,mc1⟩)
theorem JU(mode:Int)(l:List Version)(old:Bool):(judgesP mode l old).length<=l.length:=by
 unfold judgesP iV iB iU
 cases mode==1<;>cases mode==2<;>cases old<;>simp<;>omega
theorem JS(h:HF)(mode:Int)(hm:1<=mode/\mode<=4)(l:List Version)(ep:Option Addr)(eo:Nat)(old:Bool)(hl:SlC jQ h ep eo l)(hne:0<l.length):
  QC prog (mgetD lD mode Value.nilFunc) [.slice ep l.length eo,.bool old] h (λv h'=>∃(rb0:Option Addr)(rc0:Nat),v=.slice rb0 (judgesP mode l old).length rc0/\SlC jQ h' rb0 rc0 (judgesP mode l old)):=by
 have:mode=1\/mode=2\/mode=3\/mode=4:=by omega
 rcases this with rfl|rfl|rfl|rfl
 .exact m7 (cap:=[]) (args:=[.slice ep l.length eo,.bool old]) call171 (wJ h l ep eo old hl hne)
 .exact m7 (cap:=[]) (args:=[.slice ep l.length eo,.bool old]) call172 (wI h l ep eo old hl hne)
 .exact m7 (cap:=[]) (args:=[.slice ep l.length eo,.bool old]) call170 (qm h l ep eo old hl)
 exact m7 (cap:=[]) (args:=[.slice ep l.length eo,.bool old]) call170 (qm h l ep eo old hl)
theorem zt(h:HF)(l:List Version)(ep:Option Addr)(eo:Nat)(begun:Int)(ba:Int)(known:Int)(hl:SlC jQ h ep eo l)(hsm:smV l)(hk:Kinds h):ju prog 22 [.slice ep l.length eo,I begun,I ba,I known] h (λv h'=>∃(rb0:Option Addr)(rc0:Nat),v=.tuple #[.slice rb0 ((bw l begun ba known).1).length rc0,I ((bw l begun ba known).2.1),I ((bw l begun ba known).2.2)]/\SlC zC h' rb0 rc0 ((bw l begun ba known).1)):=by
 refine cB IL U ntmps22 U λX hM hX=>?_
 have hs0:=@rfl _ (bw l begun ba known)
 have hsl:=hsm.len
 refine sr (cv (λb1=>cv (λb2=>qO 8 U (ai call69 (qI _ _ _ _ hl ob hk) U (qO 7 U (ae hs0 U (λc1 hs1=>?_) (λc1 hs2=>?_)))))))
 .refine qT 7 U ?_
  have hs3:bw l begun ba known=([],0,(bF l)):=hs1
  exact jY [.slice none 0 0,I 0,I (bF l)] IL U rd ⟨none,0,congrArg (λr:(List Int×Int×Int)=>(.tuple #[.slice none r.1.length 0,I r.2.1,I r.2.2]:Value)) hs3.symm,(by rw[hs3];exact kE)⟩
 refine qK 5 [1] U (ai call85 (n9 h begun) U (qO 2 U (bT 4 [25,26,27,28,29] 25 29 (!(gR ba)) U (λc2 hk1=>?_) (λe=>?_))))
 .exact qL 1 [0] U (ai call85 (n9 h ba) U (qO 2 U (hk1 _ U)))
 refine av (bT 4 [30,31,32,33,34] 30 34 (!(gR known)) U (λc3 hk2=>?_) (λe=>?_))
 .exact av (ai call85 (n9 h known) U (qO 2 U (hk2 _ U)))
 refine av (bT 4 [35,36,37,38,39] 35 39 (decide (ba<begun)) U (λc4 hk3=>?_) (λe=>?_))
 .exact qL 4 [1,0] U (hk3 _ U)
 refine aF (ae hs2 U (λc5 hs4=>?_) (λc5 hs5=>?_))
 .refine qT 6 U ?_
  have hs6:bw l begun ba known=([],0,1):=hs4
  exact jY [.slice none 0 0,I 0,I 1] IL U rd ⟨none,0,congrArg (λr:(List Int×Int×Int)=>(.tuple #[.slice none r.1.length 0,I r.2.1,I r.2.2]:Value)) hs6.symm,(by rw[hs6];exact kE)⟩
 refine qT 3 U (aT zc26 (λb3=>qO 3 U (aT zc4 (λb4=>cJ 0 ty4 U U U U U U (qL 7 [3] U (aA (cR call86 (yD _ _ _ _ begun known hl ob) U (λv1 h1 hle1 hp1=>?_))))))))
 obtain⟨_,rfl,mo1⟩:=hp1
 refine qO 2 U (ef (cg (L':=([(b4,O [.bool false] 4),(b3,O [.slice none 0 0] 26),(b2,O [I ba] 3),(b1,O [I begun] 3)])++markB []) ap ?_))
 refine MK (it:=v1) (xs:=(fX l begun known)) (ι:=Bool×List Version×Option Addr×Nat×LH×HF) [] (λi=>i.2.2.2.2.2) (λi=>[(b4,O [.bool i.1] 4),(b3,O [.slice i.2.2.1 i.2.1.length i.2.2.2.1] 26),(b2,O [I ba] 3),(b1,O [I begun] 3)]++(i.2.2.2.2.1)) (λs i=>bw l begun ba known=((bw.L1 begun ba (bw.K1)) s i.1 i.2.1)/\du jQ 105 i.2.2.2.2.2 i.2.1 i.2.2.1 i.2.2.2.1 i.2.2.2.2.1/\xN h1 i.2.2.2.2.2/\(∀x∈i.2.1,x∈l)/\(∀q∈s,q.2∈l)/\i.2.1.length+s.length<=l.length) (λ_=>False) 0 (λ_ _ _=>False) (false,[],none,0,[],h1) IL U mo1 U yO (λ_ _ _ _ _ hq=>hq) U (show[(b4,O [.bool false] 4),(b3,O [.slice none 0 0] 26),(b2,O [I ba] 3),(b1,O [I begun] 3)]=_ from U) ⟨hs5,du.nil,lf,(λx hx=>(kA hx).elim),xy,(by have:=C7 l begun known;simpa using this)⟩ ?_ ?_ ?_ ?_
 .rintro l1 dm1 lp1 y1 rz1 vs1 ⟨eG,cf,kY,kX,kZ,hh1⟩ hr1 X hFR1 ⟨hs7,mJ,hl1,u1_0,u1_1,u1_2⟩ hl01 hlr1 hv1 hX hXM hlp1 nx1 rt1 ex1 pn1
  try dsimp only at mJ hl1 u1_0 u1_1 u1_2 hlr1
  obtain⟨rr1_0,rfl,ok1_0⟩:=hv1
  simp only[xA]at u1_2
  let z2:Nat×Obj:=(b3,O [.slice kY cf.length kX] 26)
  let z6:Nat×Obj:=(dm1,.deferred (some []))
  refine cg (L':=[(l1,.loop lp1),z6,(b4,O [.bool eG] 4),z2,(b2,O [I ba] 3),(b1,O [I begun] 3)]++(kZ++(markB []))) ap (qT 5 U (aT zc105 (λb6=>aO 0 ty105 U U U U U U (im (L':=[(b6,O (Sz y1.2 rr1_0) 105),(l1,.loop lp1),z6,(b4,O [.bool eG] 4),z2,(b2,O [I ba] 3),(b1,O [I begun] 3)]++(kZ++(markB []))) U (aF (ji 1 U hlp1 (qK 8 [5] U (ae hs7 U (λc7 hs8=>?_) (λc7 hs9=>?_)))))))))
  .have c7p:=of_decide_eq_true c7
   exact bo (L':=[(l1,.loop { lp1 with state:=.busy }),z6,(b4,O [.bool eG] 4),z2,(b2,O [I ba] 3),(b1,O [I begun] 3)]++(kZ++(markB []))) js (cg (L':=rdH l1 dm1 lp1 (([(b4,O [.bool eG] 4),z2,(b2,O [I ba] 3),(b1,O [I begun] 3)]++(kZ))++markB [])) ap (ex1 (eG,cf,kY,kX,kZ,hr1) _ _ _ ⟨hs8,(mJ.mono zN hlr1),(hl1.t hlr1),u1_0,(λq hq=>(kA hq).elim),(by simp only[vB,xA]at *;omega)⟩ lf U))
  have c7p:=of_decide_eq_false c7
  refine qK 5 [3] U (bT 4 [50,51,52,53,54] 50 54 (y1.1==begun) U (λc8 hk4=>?_) (λe=>?_))
  .exact qL 4 [6] U (hk4 _ U)
  refine cJ 3 ty4 U U U U U U (qL 3 [4] U (cM 0 ty105 U U U (aA (bE (cells:=[I y1.2.No,I y1.2.At,I y1.2.Known,.string y1.2.Policy.Name,.slice rr1_0.Policy.iY y1.2.Policy.Kinds.length rr1_0.Policy.iX,.slice rr1_0.Policy.gm y1.2.Policy.Offices.length rr1_0.Policy.gl,.slice rr1_0.Policy.nF y1.2.Policy.Rules.length rr1_0.Policy.nE,I y1.2.Policy.Change.Kind,I y1.2.Policy.Change.N,I y1.2.Policy.Change.No,.string y1.2.Policy.Change.Name,.slice rr1_0.Policy.Change.mb y1.2.Policy.Change.L.length rr1_0.Policy.Change.mq,I y1.2.Policy.Mode]) zx ty105 zc105 U U kr (λb7=>?_)))))
  let z1:Nat×Obj:=(b7,O [I y1.2.No,I y1.2.At,I y1.2.Known,.string y1.2.Policy.Name,.slice rr1_0.Policy.iY y1.2.Policy.Kinds.length rr1_0.Policy.iX,.slice rr1_0.Policy.gm y1.2.Policy.Offices.length rr1_0.Policy.gl,.slice rr1_0.Policy.nF y1.2.Policy.Rules.length rr1_0.Policy.nE,I y1.2.Policy.Change.Kind,I y1.2.Policy.Change.N,I y1.2.Policy.Change.No,.string y1.2.Policy.Change.Name,.slice rr1_0.Policy.Change.mb y1.2.Policy.Change.L.length rr1_0.Policy.Change.mq,I y1.2.Policy.Mode] 105)
  let z4:Nat×Obj:=(b4,O [.bool (eG||(y1.1==begun))] 4)
  let z5:Nat×Obj:=(l1,.loop { lp1 with state:=.busy })
  let z7:Nat×Obj:=(b6,O (Sz y1.2 rr1_0) 105)
  refine aA (dE Version.ew ([z1,z7,z5,z6,z4,z2,(b2,O [I ba] 3),(b1,O [I begun] 3)]) (markB []) (λG=>[z1,z7,z5,z6,z4,z2,(b2,O [I ba] 3),(b1,O [I begun] 3)]++(markB []++G)) ap (λ_=>ap) zx ty105 zc105 U bytes105 (mJ.mono zN hlr1) U U (e8 0 U (cE (R:=jQ) (y1.2) U ⟨rr1_0,U,ok1_0⟩)) lo lo (λob1 oc1 G1 gr1=>ym (si ([z1,z7,z5,z6,z4,z2,(b2,O [I ba] 3),(b1,O [I begun] 3)]) G1 (markB [])) (cJ 5 ty26 U U U U U U (qO 2 U ?_))))
  let z9:Nat×Obj:=(b3,O [.slice ob1 ((cf++[y1.2]).length) oc1] 26)
  exact bo (L':=[z5,z6,z4,z9,(b2,O [I ba] 3),(b1,O [I begun] 3)]++(G1++(markB []))) js (cg (L':=rdH l1 dm1 lp1 (([z4,z9,(b2,O [I ba] 3),(b1,O [I begun] 3)]++G1)++markB [])) ap (nx1 ((eG||(y1.1==begun)),(cf++[y1.2]),ob1,oc1,G1,hr1) _ _ ⟨hs9,gr1,(hl1.t hlr1),(λx hx=>(kF.1 hx).elim (u1_0 x) (λhx=>by rw[xC.1 hx];exact u1_1 y1 (jB ..))),(λq hq=>u1_1 q (xB _ hq)),(by simp only[jA,xA,vB]at *;omega)⟩ lf))
 .rintro dm1 ⟨eG,cf,kY,kX,kZ,hh1⟩ hn1 ⟨hs10,mJ,hl1,u1_0,u1_1,u1_2⟩ hln1 hl01
  try dsimp only at mJ hl1 u1_0 u1_1 u1_2 hln1
  let z3:Nat×Obj:=(b3,O [.slice kY cf.length kX] 26)
  refine cg (L':=[(b4,O [.bool eG] 4),z3,(b2,O [I ba] 3),(b1,O [I begun] 3)]++(kZ++(markB (dm1::[])))) ap (qK 7 [1] U (ae hs10 U (λc9 hs11=>?_) (λc9 hs12=>?_)))
  .refine qT 6 U ?_
   have hs13:bw l begun ba known=([],0,0):=hs11
   exact cg (L':=([(b4,O [.bool eG] 4),z3,(b2,O [I ba] 3),(b1,O [I begun] 3)]++(kZ))++markB (dm1::[])) ap (qn (dm1::[]) [.slice none 0 0,I 0,I 0] IL U rd ⟨none,0,congrArg (λr:(List Int×Int×Int)=>(.tuple #[.slice none r.1.length 0,I r.2.1,I r.2.2]:Value)) hs13.symm,(by rw[hs13];exact kE)⟩)
  refine qK 6 [1,1] U (io (v':=I ((cf.length:Int)-1)) U (jh ob) (pP zN ([(b4,O [.bool eG] 4),z3,(b2,O [I ba] 3),(b1,O [I begun] 3)]) kZ (markB (dm1::[])) ap hM (mJ.mono zN hln1) (λh2 hle2 sl1=>?_)))
  have ho1:0<=(((cf.length:Int)-1):Int)/\(((cf.length:Int)-1):Int)<((cf).length:Int):=ob
  refine aA (uk zx ty105 sl1.1 ho1 (cV ho1) U U U (λ_ _ _ e=>e) (λq1 r1 A1 ok1=>qL 2 [] U (iZ (j:=12) ty3 A1 U U (qO 4 U (er ([(b4,O [.bool eG] 4),z3,(b2,O [I ba] 3),(b1,O [I begun] 3)]) mixed kr jn (λdY _=>tm 1 U (tf 3 U U (rj 1 ty26 U U U) (tf 4 U U (rj 0 ty4 U U U) (tm 7 U (tn 0 U (cR call87 (sy h2) U (λv2 h3 hle3 hp2=>?_))))))))))))
  obtain⟨rk2,rfl,mo2⟩:=hp2
  refine⟨jl hle3,tu hle3 (tn 2 U ?_)⟩
  obtain⟨o1,hb1,hm1⟩:=mo2
  refine ny (k:=(nthI cf ((cf.length:Int)-1)).Policy.Mode) IM (fA mH) hb1 hm1 (eX zv152) (show VFn _ (.nilFunc) Value.nilFunc from U) U U (λv3 hv1=>?_)
  obtain rfl:=hv1
  refine⟨jn,tn 5 U (Oe (JS h3 ((nthI cf ((cf.length:Int)-1)).Policy.Mode) (((rl l).1 (by simpa using c1)).mode (u1_0 _ (ni ho1))) cf kY kX eG (sl1.mono zN hle3) ob) U U (λv4 h4 hle4 hp3=>?_))⟩
  obtain⟨rb1,rc1,rfl,sl2⟩:=hp3
  have hjl:=JU ((nthI cf ((cf.length:Int)-1)).Policy.Mode) cf eG
  refine⟨jl hle4,tu hle4 (tf 6 U U (λ_ _ _=>Jn zx U) (aJ kr ?_))⟩
  refine lp2 (judgesP ((nthI cf ((cf.length:Int)-1)).Policy.Mode) cf eG) (λi w=>[(8,.slice w.2.1 w.1.length w.2.2.1),(9,I ((nthI cf ((cf.length:Int)-1)).Policy.Mode)),(75,.slice rb1 ((judgesP ((nthI cf ((cf.length:Int)-1)).Policy.Mode) cf eG).length) rc1),(76,I (((judgesP ((nthI cf ((cf.length:Int)-1)).Policy.Mode) cf eG).length:Nat):Int)),(77,I (i:Int))]) (λ_=>h4) (λw=>[(b4,O [.bool eG] 4),z3,(b2,O [I ba] 3),(b1,O [I begun] 3)]++(w.2.2.2++(markB (dm1::[])))) (λi w=>du zC 3 h4 w.1 w.2.1 w.2.2.1 w.2.2.2/\w.1.length<=0+i) (λs2 i w=>(bw.L2 (bw.K2 cf)) s2 w.1) ([],none,0,[]) sl2.1.1 hs12 ⟨du.nil,lo⟩ ?_ ?_
  .rintro i2 ⟨kW,oH,oG,nK⟩ fm hs14 ⟨pj,Fu⟩ e
   try dsimp only at pj Fu
   refine qT 3 U (aA (m9 ([(b4,O [.bool eG] 4),z3,(b2,O [I ba] 3),(b1,O [I begun] 3)]) nK (markB (dm1::[])) NC (mz h4 kW oH oG nK pj (by first|assumption|omega|(simp only[jA,xA,vB] ;omega))) ap U (λG4 gr4=>qO 9 U (fx xH ([(b4,O [.bool eG] 4),z3,(b2,O [I ba] 3),(b1,O [I begun] 3)]) G4 (markB (dm1::[])) ap hM gr4 (λh6 hle6 sl4=>?_)))))
   have hs15:bw l begun ba known=((sortI kW),(nthI cf ((cf.length:Int)-1)).Policy.Mode,0):=hs14
   exact cg (L':=([(b4,O [.bool eG] 4),z3,(b2,O [I ba] 3),(b1,O [I begun] 3)])++markB (dm1::[])) ap (qn (dm1::[]) [.slice oH kW.length oG,I ((nthI cf ((cf.length:Int)-1)).Policy.Mode),I 0] IL U rd ⟨oH,oG,(by rw[hs15];simp[retVal,iM]),(by rw[hs15];exact sl4)⟩)
  rintro i2 ⟨kW,oH,oG,nK⟩ y2 rz2 hd2 vq qU Dc J3 hs16 ⟨pj,Fu⟩ hx2 ag1 e
  try dsimp only at pj Fu
  refine sr (tO vq U (qO 8 U (aA (iR zx ty105 sl2.1 qU U U U (λ_ _ _ e=>e) (λq3 r3 A3 ok3=>dt ty105 A3 U U (aT zc105 (λb10=>aO 0 ty105 U U U U U U (im (L':=[(b10,O (Sz y2 r3) 105),(b4,O [.bool eG] 4),z3,(b2,O [I ba] 3),(b1,O [I begun] 3)]++(nK++(markB (dm1::[])))) U ?_))))))))
  let z8:Nat×Obj:=(b10,O (Sz y2 r3) 105)
  exact qL 5 [0] U (aA (bE (cells:=[I y2.No]) ec ty3 zc3 U U kr (λb11=>aA (dE TN ([(b11,O [I y2.No] 3),z8,(b4,O [.bool eG] 4),z3,(b2,O [I ba] 3),(b1,O [I begun] 3)]) (markB (dm1::[])) (λG=>[(b11,O [I y2.No] 3),z8,(b4,O [.bool eG] 4),z3,(b2,O [I ba] 3),(b1,O [I begun] 3)]++(markB (dm1::[])++G)) ap (λ_=>ap) ec ty3 zc3 U bytes3 pj U U (e8 0 U (cE (y2.No) U U)) lo lo (λob3 oc3 G5 gr5=>ym (si ([(b11,O [I y2.No] 3),z8,(b4,O [.bool eG] 4),z3,(b2,O [I ba] 3),(b1,O [I begun] 3)]) G5 (markB (dm1::[]))) (qO 4 U (oi i2 U (qO 2 U (bo (L':=[(b4,O [.bool eG] 4),z3,(b2,O [I ba] 3),(b1,O [I begun] 3)]++(G5++(markB (dm1::[])))) js (ag1 ((kW++[y2.No]),ob3,oc3,G5) hs16 ⟨gr5,lo⟩))))))))))
 .exact xf
 exact xf
theorem Az(h:HF)(mode:Int)(permits:List Bool)(oF:Option Addr)(oE:Nat)(hpermits:SlC S2 h oF oE permits):Ret prog 190 [I mode,.slice oF permits.length oE] h (I (ga mode permits)):=by
 refine sT func190 U ntmps190 U λX hM hX hF=>?_
 have hs0:=@rfl _ (ga mode permits)
 refine qT 7 U (aA (cR call87 (sy h) U (λv1 h1 hle1 hp1=>?_)))
 obtain⟨rk1,rfl,mo1⟩:=hp1
 refine av ?_
 obtain⟨o1,hb1,hm1⟩:=mo1
 refine aA (tz (k:=mode) IM (fA mH) hb1 hm1 (eX zv152) (show VFn _ (.nilFunc) Value.nilFunc from U) U U (λv2 hv1=>?_))
 obtain rfl:=hv1
 refine qO 11 U (ae hs0 U (λc1 hs1=>?_) (λc1 hs2=>?_))
 .exact sr (an (nretP [I 270] (ci hs1)))
 refine qK 8 [] U (ae hs2 U (λc2 hs4=>?_) (λc2 hs5=>?_))
 .have c2p:=of_decide_eq_true c2
  exact sr (an (nretP [I 1] (ci hs4)))
 have c2p:=of_decide_eq_false c2
 exact aI (qT 4 U (nretP [I 0] (ci hs5)))
theorem uf(h:HF)(s:List Bool)(sI:Option Addr)(sH:Nat)(f:(Bool->Bool))(f_v:Value)(hs:SlC S2 h sI sH s)(hf:∀(h':HF)(dC:Bool),xN h h'->tv prog f_v [.bool dC] h' [] (.bool (f dC))):Ret prog 287 [.slice sI s.length sH,f_v] h (I (em s f)):=by
 refine sT func287 U ntmps287 U λX hM hX hF=>?_
 have hs0:=@rfl _ (em s f)
 refine qK 11 [] U ?_
 refine lp0 s (λi=>[(0,.slice sI s.length sH),(1,f_v),(7,I (s.length:Int)),(8,I (i:Int))]) ([]) (λs1 i=>(em.L1 f (em.K1)) s1 i) hs.1.1 hs0 ?_ ?_
 .rintro i1 fm hs1 e
  exact sr (an (nretP [I (-1)] (ci hs1)))
 rintro i1 y1 rz1 hd1 df aS ek gu hs3 hx1 ag1 e
 refine sr (tO df U (qO 16 U (aA (iF (λy=>[.bool y]) uw ty4 hs.1 aS U U U (λq2 A2=>dj ty4 A2 U (aA (lA (v:=.bool (f y1)) [] (List.nil_sublist _) (hf h y1 lf) U U (aF (ae hs3 U (λc2 hs4=>?_) (λc2 hs5=>?_))))))))))
 .exact sr (qO 3 U (nretP [I (i1:Int)] (ci hs4)))
 exact aI (qT 2 U (oi i1 U (qO 2 U (ag1 hs5))))
theorem pF(h:HF)(l:List Bool)(ep:Option Addr)(eo:Nat)(ok:(Bool->Bool))(ok_v:Value)(hl:SlC S2 h ep eo l)(hok:∀(h':HF)(dC:Bool),xN h h'->tv prog ok_v [.bool dC] h' [] (.bool (ok dC))):Ret prog 191 [.slice ep l.length eo,ok_v] h (I (cA l ok)):=by
 refine sT func191 U ntmps191 U λX hM hX hF=>?_
 have hs0:=@rfl _ (cA l ok)
 exact sr (qO 6 U (ai call287 (uf _ _ _ _ ok ok_v hl hok) U (an (nretP [I (em l ok)] (ci hs0)))))
end
end Go.Sg
