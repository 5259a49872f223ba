import Derived.Test.YtknehchipcogdaaGreatDoorW10
/- A part of the proof of MissingCame. -/
set_option linter.unusedVariables false
set_option linter.unusedSimpArgs false
set_option maxRecDepth 100000
open List renaming length_cons→xA,not_mem_nil→jA,length_append→vA,mem_cons_self→xB,length_nil→jB,toArray→kB,mem_cons_of_mem→qC,mem_singleton→xC,mem_cons→kC,range→zD,mem_of_getElem?→xD,mem_append→kF,map_cons→kG,mem_map→xJ,mem_append_left→jP,map_nil→xW
open Go.Sg.HF renaming le_trans→kA,le_refl→qF,le→jL
open Go.Sg.Rp renaming int→vB,bU→kM,bool→Yy,str→YL,sl→Zk,jx→ZF
open Go.Value renaming int→jC
open Go.IntKind renaming wrap→vC,bits→Z8
open Go.Sg.Register renaming cells→qD,ok→vL,mk→Y3
open Nat renaming le_refl→xE,zero_le→jH,lt_or_ge→zK,le_trans→kK,le_succ_of_le→ZE
open Go.Sg.SlC renaming nil→qH
open Go.Sg.Budget renaming rp→xS,cells→vS
open Go.Sg.Use renaming rp→Zz

namespace Go.Sg
variable {p:Prop}{q:Int->Bool}{signed:List Int}{u:List Use}
open Go.Proofs Go.Proofs.Tryz
set_option maxHeartbeats 2000000
theorem CW(h)(n:Nat)(hn:n<=1000000000):SO prog 323 [zSN,I (n:Int)] h vB 3 ([]:List Int):=by
 refine sT func323 U ntmps323 U λX hM hX hF=>?_
 refine wtt U (wcF U (decide_eq_false (by omega)) ?_)
 refine wto U (aM (em (Od fa U) ?_))
 refine cN (F0 fa U ?_)
 refine gE (v':=I 0) U U ?_
 have e1:IntKind.i64.wrap ((n:Int)-0)=n:=by have:=kW (z:=(n:Int)) (by omega);simp only[Int.sub_zero];injection this
 refine gE (v':=I (n:Int)) U (congrArg I e1) ?_
 refine wot U ?_
 rcases Nat.eq_zero_or_pos n with h0|h0
 . subst h0
   refine wcF U U ?_
   refine wtt U ?_
   exact mp hF (λa ha w hw=>res1 U a ha w) (λw hw=>hw.lower) ⟨hX,none,0,U,cI.nil⟩
 . refine wcT rfl (decide_eq_true (by omega)) ?_
   refine wto U (aM (em (Od fa U) ?_))
   refine aM (em (v:=zSN) (IC fa ty3 U U) ?_)
   refine cN (aM (E3 (R:=vB) (xs:=[]) (base:=none) (cap:=0) (G:=[]) (k:=n) (kn:=.i64) [] [] U fa nz ty3 zc3 U (by decide) bytes3 cI.nil U U U h0 (by simp;omega) (by simp;omega) (by simp;omega) (λbk cl sp cap hc hl hcap=>?_)))
   refine cN (F0 fa U (aM (em (E7 (m:=0) fa ty3 U U (jH _)) ?_)))
   refine wot U ?_
   exact mp hF (λa ha w hw=>res1 U a ha w) (λw hw=>hw.lower) ⟨hX,zAD bk,cap,U,.inr ⟨bk,cl,sp,U,hc,hl,jH _,jH _,U⟩⟩
theorem Cp(h)(n:Nat)(hn:n<=1000000000):SO prog 152 [zSN,I (n:Int)] h eQ.rp 69 ([]:List eQ):=by
 refine sT func152 U ntmps152 U λX hM hX hF=>?_
 refine wtt U (wcF U (decide_eq_false (by omega)) ?_)
 refine wto U (aM (em (Od Dt U) ?_))
 refine cN (F0 Dt U ?_)
 refine gE (v':=I 0) U U ?_
 have e1:IntKind.i64.wrap ((n:Int)-0)=n:=by have:=kW (z:=(n:Int)) (by omega);simp only[Int.sub_zero];injection this
 refine gE (v':=I (n:Int)) U (congrArg I e1) ?_
 refine wot U ?_
 rcases Nat.eq_zero_or_pos n with h0|h0
 . subst h0
   refine wcF U U ?_
   refine wtt U ?_
   exact mp hF (λa ha w hw=>res1 U a ha w) (λw hw=>hw.lower) ⟨hX,none,0,U,cI.nil⟩
 . refine wcT rfl (decide_eq_true (by omega)) ?_
   refine wto U (aM (em (Od Dt U) ?_))
   refine aM (em (v:=zSN) (IC Dt ty69 U U) ?_)
   refine cN (aM (E3 (R:=eQ.rp) (xs:=[]) (base:=none) (cap:=0) (G:=[]) (k:=n) (kn:=.i64) [] [] U Dt nz ty69 zc69 U (by decide) bytes69 cI.nil U U U h0 (by simp;omega) (by simp;omega) (by simp;omega) (λbk cl sp cap hc hl hcap=>?_)))
   refine cN (F0 Dt U (aM (em (E7 (m:=0) Dt ty69 U U (jH _)) ?_)))
   refine wot U ?_
   exact mp hF (λa ha w hw=>res1 U a ha w) (λw hw=>hw.lower) ⟨hX,zAD bk,cap,U,.inr ⟨bk,cl,sp,U,hc,hl,jH _,jH _,U⟩⟩
theorem AL(h)(ls:List (List Int))(b c)(hl:SlC (Zk vB) h b c ls)(hsz:ls.length<=100)(hsy:∀y∈ls,y.length<=2000000):SO prog 241 [.slice b ls.length c] h vB 3 ls.flatten:=by
 refine sT func241 U ntmps241 U λX hM hX hF=>?_
 have hbd:=Mi ls 0 2000000 hsy
 have hfl:=EX ls 0
 have htk:=λ(i:Nat)(y:List Int)(r:List (List Int))(hd:ls.drop i=y::r)=>K8 hd
 generalize hz:ls.flatten=z at *
 refine wtt U ?_
 refine lp2 ls (λi(g:Nat)=>[(0,.slice b ls.length c),(3,I (g:Int)),(9,.slice b ls.length c),(10,I (ls.length:Int)),(11,I (i:Int))]) (λ_=>h) (λ_=>[]) (λi g=>g<=i*2000000) (λs i g=>sumL s g) 0 (by omega) U (by omega) (λi g hi hs hg e=>?_) (λi g y r hd hlt hget hltp hbd' hs hg hx ag e=>?_)
 . have hn:z.length=g:=by have:sumL ls 0=g:=hs;omega
   refine wto U (aM (DQ call323 (CW h g (by omega)) U (λb1 c1 G1 hG1=>?_)))
   refine wot U ?_
   refine lp2 ls (λi(w:List Int×Option Addr×Nat×LH)=>[(6,.slice w.2.1 w.1.length w.2.2.1),(25,.slice b ls.length c),(26,I (ls.length:Int)),(27,I (i:Int))]) (λ_=>h) (λw=>w.2.2.2) (λi w=>cI vB 3 h w.1 w.2.1 w.2.2.1 w.2.2.2/\w.1=(ls.take i).flatten) (λs i w=>w.1++s.flatten) ([],b1,c1,G1) (by omega) hz.symm ⟨hG1,U⟩ (λi w hi hs hw e=>?_) (λi w y r hd hlt hget hltp hbd' hs hw hx ag e=>?_)
   . obtain⟨w1,wb,wc,wG⟩:=w
     refine wtt U ?_
     have hs':z=w1:=hs.trans (List.append_nil _)
     subst hs'
     exact mp hF (λa ha w hw=>res1 U a ha w) (λw hw=>hw.lower) ⟨hX,wb,wc,U,hw.1⟩
   . obtain⟨w1,wb,wc,wG⟩:=w
     obtain⟨hw,hwt⟩:=hw
     dsimp only at hw hwt hs
     have htf:=htk i y r hd
     rw[←hwt]at htf
     refine wtt U (wcT U hlt ?_)
     refine wto U (wix U U U U hl U (nthZ hget) (kz hget) (λq cs hA hl' hr=>?_))
     obtain⟨yb,yc,rfl,hy⟩:=hr
     refine wlh0 U U hA (woo U ?_)
     refine wap U U hw U pmg U hy U U U U (by omega) (by omega) (λbs cp G hG=>?_)
     refine wot U ?_
     exact ag (w1++y,bs,cp,G) (hs.trans (by simp)) ⟨hG,by rw[hwt,List.take_add_one,hget];simp⟩ ⟨U,U,U,mO ob,trivial⟩
 . have hy:=hsy y (Jz hd)
   refine wtt U (wcT U hlt ?_)
   refine wto U (wix U U U U hl U (nthZ hget) (kz hget) (λq cs hA hl' hr=>?_))
   obtain⟨yb,yc,rfl,hyl⟩:=hr
   refine wlh0 U U hA ?_
   have hw:IntKind.i64.wrap ((g:Int)+(y.length:Int))=((g+y.length:Nat):Int):=by have:=kW (z:=((g+y.length:Nat):Int)) (by omega);injection this
   refine wot U (wcF U (decide_eq_false (by rw[hw];omega)) ?_)
   refine wtt U ?_
   exact ag (g+y.length) hs (by omega) ⟨U,congrArg I hw,U,U,mO ob,trivial⟩
theorem Ai(h)(ls:List (List eQ))(b c)(hl:SlC (Zk eQ.rp) h b c ls)(hsz:ls.length<=100)(hsy:∀y∈ls,y.length<=2000000):SO prog 65 [.slice b ls.length c] h eQ.rp 69 ls.flatten:=by
 refine sT func65 U ntmps65 U λX hM hX hF=>?_
 have hbd:=Mi ls 0 2000000 hsy
 have hfl:=EX ls 0
 have htk:=λ(i:Nat)(y:List eQ)(r:List (List eQ))(hd:ls.drop i=y::r)=>K8 hd
 generalize hz:ls.flatten=z at *
 refine wtt U ?_
 refine lp2 ls (λi(g:Nat)=>[(0,.slice b ls.length c),(3,I (g:Int)),(9,.slice b ls.length c),(10,I (ls.length:Int)),(11,I (i:Int))]) (λ_=>h) (λ_=>[]) (λi g=>g<=i*2000000) (λs i g=>sumL s g) 0 (by omega) U (by omega) (λi g hi hs hg e=>?_) (λi g y r hd hlt hget hltp hbd' hs hg hx ag e=>?_)
 . have hn:z.length=g:=by have:sumL ls 0=g:=hs;omega
   refine wto U (aM (DQ call152 (Cp h g (by omega)) U (λb1 c1 G1 hG1=>?_)))
   refine wot U ?_
   refine lp2 ls (λi(w:List eQ×Option Addr×Nat×LH)=>[(6,.slice w.2.1 w.1.length w.2.2.1),(25,.slice b ls.length c),(26,I (ls.length:Int)),(27,I (i:Int))]) (λ_=>h) (λw=>w.2.2.2) (λi w=>cI eQ.rp 69 h w.1 w.2.1 w.2.2.1 w.2.2.2/\w.1=(ls.take i).flatten) (λs i w=>w.1++s.flatten) ([],b1,c1,G1) (by omega) hz.symm ⟨hG1,U⟩ (λi w hi hs hw e=>?_) (λi w y r hd hlt hget hltp hbd' hs hw hx ag e=>?_)
   . obtain⟨w1,wb,wc,wG⟩:=w
     refine wtt U ?_
     have hs':z=w1:=hs.trans (List.append_nil _)
     subst hs'
     exact mp hF (λa ha w hw=>res1 U a ha w) (λw hw=>hw.lower) ⟨hX,wb,wc,U,hw.1⟩
   . obtain⟨w1,wb,wc,wG⟩:=w
     obtain⟨hw,hwt⟩:=hw
     dsimp only at hw hwt hs
     have htf:=htk i y r hd
     rw[←hwt]at htf
     refine wtt U (wcT U hlt ?_)
     refine wto U (wix U U U U hl U (nthZ hget) (kz hget) (λq cs hA hl' hr=>?_))
     obtain⟨yb,yc,rfl,hy⟩:=hr
     refine wlh0 U U hA (woo U ?_)
     refine wap U U hw U pmg U hy U U U U (by omega) (by omega) (λbs cp G hG=>?_)
     refine wot U ?_
     exact ag (w1++y,bs,cp,G) (hs.trans (by simp)) ⟨hG,by rw[hwt,List.take_add_one,hget];simp⟩ ⟨U,U,U,mO ob,trivial⟩
 . have hy:=hsy y (Jz hd)
   refine wtt U (wcT U hlt ?_)
   refine wto U (wix U U U U hl U (nthZ hget) (kz hget) (λq cs hA hl' hr=>?_))
   obtain⟨yb,yc,rfl,hyl⟩:=hr
   refine wlh0 U U hA ?_
   have hw:IntKind.i64.wrap ((g:Int)+(y.length:Int))=((g+y.length:Nat):Int):=by have:=kW (z:=((g+y.length:Nat):Int)) (by omega);injection this
   refine wot U (wcF U (decide_eq_false (by rw[hw];omega)) ?_)
   refine wtt U ?_
   exact ag (g+y.length) hs (by omega) ⟨U,congrArg I hw,U,U,mO ob,trivial⟩
theorem C9(h w Vb Va j9 oZ oY who_q p je p_q)(d:av)(BH:lv)(d_q)(hs_:List (List cm))(Xq Xp hs_q)(hw:SlC vB h Vb Va w)(hwho:SlC vB h oZ oY j9)(awho:At h who_q [.slice oZ j9.length oY])(hp:ay.ok h p je)(ap_:At h p_q (ay.cells p je))(ad_:At h d_q (av.cells d BH))(hhs:SlC (Zk cm.rp) h Xq Xp hs_)(ahs:At h hs_q [.slice Xq hs_.length Xp])(hsm:smP p)(hsz:∀y∈hs_,y.length<=2000000)(hl1:j9.length<=1000000)(hl2:w.length<=1000000)(hk:dM h):
  Ret prog 240 [.slice Vb w.length Va,.pointer (some who_q),.pointer (some p_q),.pointer (some d_q),.pointer (some hs_q)] h (.bool (qs w j9 p d hs_)):=by
 refine sT func240 U ntmps240 U λX hM hX hF=>?_
 generalize hz:qs w j9 p d hs_=z;have hs:=hz.symm
 refine wto U (wlh0 U U awho ?_)
 refine woo U ?_
 refine aM (bW (cells:=[.slice oZ j9.length oY,.slice Vb w.length Va]) underlying125 ty31 zc31 U U kr (λb1=>dF 0 U hM (λh1 hle1 hb1=>?_)))
 have hcat:SlC (Zk vB) h1 (zAD b1) 2 [j9,w]:=slL hb1 lf (cCo (R:=Zk vB) (cs:=[.slice oZ j9.length oY]) (show(Zk vB).rep h1 _ j9 from⟨_,_,rfl,slm hwho hle1⟩) rfl (cCo (R:=Zk vB) (cs:=[.slice Vb w.length Va]) (show(Zk vB).rep h1 _ w from⟨_,_,rfl,slm hw hle1⟩) rfl cNi)) (by simp) (by simp)
 refine aM (DQ call241 (AL h1 [j9,w] _ 2 hcat (by simp) (by simp;omega)) U (λb2 c2 G hG=>?_))
 have hfl:[j9,w].flatten=j9++w:=by simp
 rw[hfl]at hG ⊢
 refine woo U ?_
 refine aM (ni [] G [] QQ (mW h1 _ _ _ G hG (by simp;omega)) ap U (λG2 hG2=>?_))
 refine wot U ?_
 refine fQ ([]) mixed kr jn (λlA _=>?_)
 refine tf 0 U U (λ_ _ hj=>uL ty61 ((ap_.mono hle1).mono hj.1) U U) ?_
 refine qB [1] U (tf 2 U U (rH 2 ty3 (ad_.mono hle1) U U) ?_)
 refine qB [3] U (tf 4 U U (rH 3 ty3 (ad_.mono hle1) U U) ?_)
 refine tf 5 U U (rh ty240 (ahs.mono hle1) U) ?_
 refine qA [6] U ?_
 refine tn 7 U ?_
 refine ni (v:=.slice b2 (slices_Compact_int (sortI (j9++w))).length c2) [] G2 [] call111 (oU h1 _ _ _ _ hG2) U (by simp only[iE];rfl) (λG3 hG3=>⟨jn,?_⟩)
 refine tn 8 U ?_
 refine BS kM [] G3 [] U hM hG3 (λh2 hle2 sl2=>?_)
 have dN:=kA hle1 hle2
 have hcl:(slices_Compact_int (sortI (j9++w))).length<=2000000:=kK (Pf _) (by rw[iE];simp;omega)
 refine jq call182 (wd h2 p je d.Kind d.Value hs_ _ _ _ _ _ (hp.mono dN) (slm hhs dN) sl2 hsm hsz hcl (hk.mono dN)) U ⟨jl hle2,tu hle2 ?_⟩
 refine qR 9 5 U (dO kr ?_)
 exact W
theorem Nj(a b):cmp_Compare_int a b<0↔a<b:=by
 have h1:∀x,cmp_isNaN_int x=false:=λx=>by simp[cmp_isNaN_int]
 simp only[cmp_Compare_int,h1,cond_false]
 by_cases h:a<b
 .simp[h]
 simp only[h,decide_false,cond_false,iff_false]
 by_cases h':b<a<;>simp[h']
theorem yw(h r tB d BH)(no at_ ah:Int)(hr:vL h r tB)(hd:av.ok h d BH)(hsm:smR r)(hk:dM h)(hso:r.Versions.Pairwise λa b=>a.No<b.No)(hin:bsPos aD.No r.Versions no<r.Versions.length)(hof:(nthI r.Versions (bsPos aD.No r.Versions no)).ay.aB.length<=1000)(hpl:(fC r d.No no at_ ah).1.length<=1000000):
   jv prog 148 [.agg (qD r tB).toArray,.agg (av.cells d BH).toArray,I no,I at_,I ah] h (λv h'=>FnC h' v (jX r d no at_ ah)):=by
 refine sT func148 U ntmps148 U λX hM hX hF=>?_
 obtain⟨k,hkk⟩:∃k,bsPos aD.No r.Versions no=k:=⟨_,rfl⟩
 have hsp:=Do aD.No no r.Versions hso
 rw[hkk]at hin hof hsp
 generalize hpe:nthI r.Versions (k:Int)=ver at *
 have hvm:ver∈r.Versions:=by rw[←hpe];exact nm (by omega)
 have hsp_:smP ver.ay:=hsm.vers.2 _ hvm
 have hfun:jX r d no at_ ah=λw=>qs w (fC r d.No no at_ ah).1 ver.ay d ((zD ver.ay.aB.length).map (gK r at_ ah)):=by
  funext w;unfold jX;rw[hkk,hpe]
 rw[hfun]
 refine wto U (iA (λb5=>iA (λb6=>?_)))
 refine woo U (wld U U nthA U ?_)
 refine woo U ?_
 refine dP call238 (qw h r.Versions _ _ no uf (.func (.func 239) #[] #[]) k hr.Versions (λh' a0 r0 a1 hl hok=>jd call239 (Da h' a0 r0 a1 hok)) (by omega) (λi y hi hy=>(Nj _ _).2 (hsp.1 i y hi hy)) (λi y hi hy hc=>hsp.2 i y hi hy ((Nj _ _).1 hc)) hsm.vers.len) U ?_
 refine woo U (wld U U nthA U ?_)
 refine woo U (wix U U U U hr.Versions U (z:=(k:Int)) (y:=ver) (by omega) (by rw[←hpe];exact eH (by omega)) (λq cs hA hl hr0=>?_))
 obtain⟨vr,rfl,hv⟩:=hr0
 have hp:=hv.ay
 refine woo U (wlhS U U hA ?_)
 refine aM (wal U (λb13=>?_))
 refine wsW U U U nthA U U U ?_
 refine rn ?_
 refine wld U U nthA U ?_
 refine rn ?_
 refine aM (HX (R:=Zk cm.rp) (x0:=[]) (m:=ver.ay.aB.length) (λG=>[(b13,_),(b6,_),(b5,_)]++G) U ⟨none,0,U,qH⟩ (λ_=>U) underlying240 zc241 ty241 bytes241 U U (by omega) (by omega) (λbk G hG=>?_))
 refine aM (wal U (λb14=>?_))
 refine wst U U nthA U U U U ?_
 refine rn ?_
 refine wld U U nthA U ?_
 refine rn ?_
 have hlr:(zD ver.ay.aB.length).length=ver.ay.aB.length:=List.length_range
 have hrep:(List.replicate ver.ay.aB.length ([]:List cm)).length=ver.ay.aB.length:=List.length_replicate
 refine lp2 (zD ver.ay.aB.length) (λi(g:List (List cm)×LH×HF)=>[(2,I no),(3,I at_),(4,I ah),(5,Q b5),(6,Q b6),(13,Q b13),(14,Q b14),(36,I ((zD ver.ay.aB.length).length:Int)),(37,I (i:Int))]) (λg=>g.2.2) (λg=>[(b14,O [.slice (zAD bk) (List.replicate ver.ay.aB.length ([]:List cm)).length ver.ay.aB.length] 240),(b13,O (ay.cells ver.ay vr.ay) 61),(b6,O (av.cells d BH) 54),(b5,O (qD r tB) 30)]++g.2.1) (λi g=>cI (Zk cm.rp) 241 g.2.2 g.1 (zAD bk) ver.ay.aB.length g.2.1/\g.1.length=ver.ay.aB.length/\h.le g.2.2) (λs i g=>g.1.take i++s.map (gK r at_ ah)) (List.replicate ver.ay.aB.length [],G,h) (by omega) (U:((zD ver.ay.aB.length).map (gK r at_ ah))=_) ⟨hG,hrep,qF _⟩ (λi g hi hs2 hg e=>?_) (λi g y rr hd hlt hget hltp hbd hs2 hg hx ag e=>?_) (h0:=⟨U,U,U,U,U,U,U,congrArg (λm:Nat=>I (m:Int)) (hrep.trans hlr.symm),U,trivial⟩)
 . obtain⟨g1,G1,hh⟩:=g
   obtain⟨hG1,hg2,hl⟩:=hg
   dsimp only at hG1 hg2 hl hs2
   have hg3:(zD ver.ay.aB.length).map (gK r at_ ah)=g1:=by
     have h1:=congrArg List.length hs2
     simp only[List.length_map,xW,List.append_nil,List.length_take,List.length_range]at h1
     rw[hs2,xW,List.append_nil,List.take_of_length_le (by omega)]
   rw[hg3]
   refine rn ?_
   refine eS 3 ty30 U U U ?_
   refine rn ?_
   refine wld U U nthA U ?_
   refine rn ?_
   refine aM (cW call23 (GS hh r tB d.No no at_ ah (hr.mono hl) hsm (hk.mono hl)) U (λv h2 hle2 hp2=>?_))
   obtain⟨rb,rc,rfl,sl⟩:=hp2
   refine rn ?_
   refine aM (wal U (λb16=>?_))
   refine wst U U nthA U U U U ?_
   refine rn ?_
   refine wfgo (Q:=[(b16,O [.slice rb (fC r d.No no at_ ah).1.length rc] 31),(b14,O [.slice (zAD bk) (List.replicate ver.ay.aB.length ([]:List cm)).length ver.ay.aB.length] 240),(b13,O (ay.cells ver.ay vr.ay) 61),(b6,O (av.cells d BH) 54),(b5,O (qD r tB) 30)]) (grm hG1 hle2) (List.Perm.refl _) hM (λh3 hle3 slh=>?_)
   refine wmz 0 U U nthA hM (λh4 hle4 a16=>?_)
   refine wmz 1 U U nthA hM (λh5 hle5 a13=>?_)
   refine wmz 2 U U nthA hM (λh6 hle6 a6=>?_)
   refine wmz 3 U U nthA hM (λh7 hle7 a14=>?_)
   refine aM (wmf ?_)
   refine rn ?_
   refine wrH [.func (.func 240) #[] #[Q b16,Q b13,Q b6,Q b14]] hF U rdd ?_
   have l6:=hle7
   have l5:=kA hle6 l6
   have l4:=kA hle5 l5
   have l3:=kA hle4 l4
   have l2:=kA hle3 l3
   have l1:=kA hle2 l2
   have l0:=kA hl l1
   have a14:At h7 ⟨b14,0,none⟩ [.slice (zAD bk) g1.length ver.ay.aB.length]:=by rw[hg2,←hrep];simpa using a14
   refine⟨⟨_,_,_,U⟩,λh' w wb wc hle' hw hlw=>jd call240 (C9 h' w wb wc _ rb rc ⟨b16,0,none⟩ ver.ay vr.ay ⟨b13,0,none⟩ d BH ⟨b6,0,none⟩ g1 (zAD bk) _ ⟨b14,0,none⟩ hw ((slm sl l2).mono kM hle') ((a16.mono l4).mono hle') ((hp.mono l0).mono hle') ((a13.mono l5).mono hle') ((a6.mono l6).mono hle') ((slm slh l3).mono (Rp.Q1 cm.eF.mono).mono hle') (a14.mono hle') hsp_ ?_ hpl hlw (hk.mono (kA l0 hle')))⟩
   rw[←hg3]
   intro y hy
   obtain⟨j,_,rfl⟩:=xJ.1 hy
   exact kK (xg _ _ _ _) hsm.2.1
 . obtain⟨g1,G1,hh⟩:=g
   obtain⟨hG1,hg2,hl⟩:=hg
   dsimp only at hG1 hg2 hl hs2
   have hyi:y=i:=by rw[List.getElem?_range (by omega)]at hget;exact(Option.some.inj hget).symm
   subst hyi
   refine wtt U (wcT U hlt ?_)
   refine rn ?_
   refine fQ ([(b14,O [.slice (zAD bk) (List.replicate ver.ay.aB.length ([]:List cm)).length ver.ay.aB.length] 240),(b5,O (qD r tB) 30)]) mixed kr jn (λlA _=>?_)
   refine tf 0 U U (rj 0 ty240 U U U) ?_
   refine qB [1,2] U (tf 3 U U (rj 1 ty22 U U U) ?_)
   refine qA [4,5,6] U ?_
   refine tn 7 U (cW call181 (we hh r.da _ _ (y:Int) at_ ah (slm hr.da hl) hsm.2.1) U (λv h2 hle2 hp2=>?_))
   obtain⟨rb,rc,rfl,sl⟩:=hp2
   refine⟨jl hle2,tu hle2 ?_⟩
   refine qA [8,9,10] U ?_
   have hyl:y<ver.ay.aB.length:=by omega
   have hi2:g1[y]? = some g1[y]:=List.getElem?_eq_getElem (by omega)
   refine tf 11 U U (λ_ _ _=>oa (R:=Zk cm.rp) (xs:=g1) (z:=(y:Int)) underlying240 ty241 U (by omega) U (hrep.trans hg2.symm) U) ?_
   refine tn 12 rfl (vv (R:=Zk cm.rp) (xs:=g1) (u:=g1[y]) (u':=gK r at_ ah y) (v:=.slice rb (gK r at_ ah y).length rc) (off:=0) [(b14,O [.slice (zAD bk) (List.replicate ver.ay.aB.length ([]:List cm)).length ver.ay.aB.length] 240),(b13,O (ay.cells ver.ay vr.ay) 61),(b6,O (av.cells d BH) 54),(b5,O (qD r tB) 30)] G1 [] ty241 rfl (grm hG1 hle2) (by simp) rfl hi2 (by decide) (λcs hc=>by obtain⟨_,_,rfl,_⟩:=hc;exact⟨rb,rc,rfl,sl⟩) rfl rfl rfl (λG2 hG2=>⟨jn,dO kr ?_⟩))
   refine rn ?_
   have hs3:((zD ver.ay.aB.length).map (gK r at_ ah))=(g1.set y (gK r at_ ah y)).take (y+1)++rr.map (gK r at_ ah):=by
     rw[hs2,kG,List.take_add_one,List.take_set,List.getElem?_set_self (by omega)]
     have hset:(List.take y g1).set y (gK r at_ ah y)=List.take y g1:=List.set_eq_of_length_le (by rw[List.length_take];omega)
     simp[hset]
   exact wsb (ag (g1.set y (gK r at_ ah y),G2,h2) hs3 ⟨hG2,by simpa using hg2,kA hl hle2⟩ ⟨U,U,U,U,U,U,U,U,mO (by omega),trivial⟩) jsA lf hX (kA hl hle2)
theorem Fh(h w Vb Va e_ e_q)(vs:List (List Int->Bool))(Wt Ws vs_q mode mode_q)(hw:SlC vB h Vb Va w)(ae:At h e_q [I e_])(hvs:SlC rpFn h Wt Ws vs)(avs:At h vs_q [.slice Wt vs.length Ws])(am:At h mode_q [I mode])(hl:vs.length<=1000000)(hlw:w.length<=1000000):
  Ret prog 149 [.slice Vb w.length Va,.pointer (some e_q),.pointer (some vs_q),.pointer (some mode_q)] h (.bool (oO w e_ vs mode)):=by
 refine sT func149 U ntmps149 U λX hM hX hF=>?_
 generalize hz:oO w e_ vs mode=z;have hs:=hz.symm
 refine wto U (wlh0 U U ae ?_)
 refine wot U (wcond U hs (λc hs=>?_) (λc hs=>?_))
 . exact W
 refine wto U (wlh0 U U avs ?_)
 refine woo U ?_
 refine aM (HX (R:=Yy) (x0:=false) (m:=vs.length) (λG=>[]++G) U U (λ_=>U) Hs zc4 ty4 bytes4 U U (by omega) (by omega) (λbk G hG=>?_))
 refine woo U (wlh0 U U avs ?_)
 refine wot U ?_
 refine lp2 vs (λi(g:List Bool×LH)=>[(0,.slice Vb w.length Va),(3,.pointer (some mode_q)),(6,.slice (zAD bk) vs.length vs.length),(16,.slice Wt vs.length Ws),(17,I (vs.length:Int)),(18,I (i:Int))]) (λ_=>h) (λg=>g.2) (λi g=>cI Yy 4 h g.1 (zAD bk) vs.length g.2/\g.1.length=vs.length) (λs i g=>g.1.take i++s.map λf=>f w) (List.replicate vs.length false,G) (by omega) (U:(vs.map λf=>f w)=_) ⟨hG,by simp⟩ (λi g hi hs2 hg e=>?_) (λi g y r hd hlt hget hltp hbd hs2 hg hx ag e=>?_) (h0:=⟨U,U,congrArg (λm=>Value.slice (zAD bk) m vs.length) List.length_replicate,U,U,U,trivial⟩)
 . obtain⟨g1,G1⟩:=g
   obtain⟨hG1,hg2⟩:=hg
   dsimp only at hG1 hg2 hs2
   have hg3:(vs.map λf=>f w)=g1:=by
     have h1:=congrArg List.length hs2
     simp only[List.length_map,xW,List.append_nil,List.length_take]at h1
     rw[hs2,xW,List.append_nil,List.take_of_length_le (by omega)]
   refine wto U (wlh0 U U am ?_)
   refine woo U (wfgo hG1 pmg hM (λh2 hle2 sl2=>?_))
   have hvv:Value.slice (zAD bk) vs.length vs.length=.slice (zAD bk) g1.length vs.length:=by rw[hg2]
   refine dP call112 (vm h2 mode g1 _ _ sl2 (by omega)) (congrArg (λv=>[I mode,v]) hvv) ?_
   rw[hg3]at hs
   exact W
 . obtain⟨g1,G1⟩:=g
   obtain⟨hG1,hg2⟩:=hg
   dsimp only at hG1 hg2 hs2
   refine wtt U (wcT U hlt ?_)
   refine wto U (wix U U U U hvs U (nthZ hget) (kz hget) (λq1 cs hA hl' hr=>?_))
   obtain⟨v,rfl,h1v,hv⟩:=hr
   refine wlh0 U U hA ?_
   refine woo U ?_
   refine aM (kj (v:=.bool (y w)) [] (List.nil_sublist _) (hv h w Vb Va lf hw hlw) U U ?_)
   have hi2:g1[i]? = some g1[i]:=List.getElem?_eq_getElem (by omega)
   refine aM (em (oa (R:=Yy) (xs:=g1) (z:=(i:Int)) Hs ty4 U (by omega) U hg2.symm U) ?_)
   refine aM (vv (R:=Yy) (xs:=g1) (u:=g1[i]) (u':=y w) (v:=.bool (y w)) (off:=0) [] G1 [] ty4 U hG1 (by simp) U hi2 (by decide) (λcs hc=>by rw[show cs=[.bool g1[i]]from hc];rfl) U U U (λG2 hG2=>?_))
   refine wot U ?_
   have hs3:(vs.map λf=>f w)=(g1.set i (y w)).take (i+1)++r.map λf=>f w:=by
     rw[hs2,kG,List.take_add_one,List.take_set,List.getElem?_set_self (by omega)]
     have hset:(List.take i g1).set i (y w)=List.take i g1:=List.set_eq_of_length_le (by rw[List.length_take];omega)
     simp[hset]
   have hG3:cI Yy 4 h (g1.set i (y w)) (zAD bk) vs.length ([]++(G2++[])):=by simpa using hG2
   exact ag (g1.set i (y w),[]++(G2++[])) hs3 ⟨hG3,by simpa using hg2⟩ ⟨U,U,U,U,U,mO (by omega),trivial⟩
theorem Ub(h:p:=by
  refine tn 8 U (ri 0 U hM (λh9 hle9 f9=>?_))
  have hys:SlC rpFn h9 (zAD b3) 1 [jX r d y at_ ah]:=slL f9 lf (cCo (R:=rpFn) (cs:=[.func fn0 fi0 ca0]) ⟨_,rfl,hfn.mono hle9⟩ rfl cNi) (by simp) (by simp)
  refine fd Lg [(b32,O [.slice vb vs1.length vc] 195),(b31,O [I (aN r.Versions d.At at_ ah).2.2] 37),(b30,O [I (aN r.Versions d.At at_ ah).2.1] 3),(b17,O (av.cells d dr) 54),(b14,O (fw.cells (aZ r signed u aP at_ ah).1 vr) 36),(b12,O [.bool ((aZ r signed u aP at_ ah).1.State==1),.slice fb (eA (gy r d at_ ah)).length fc,.slice nb n1.length nc,.slice ob o1.length oc,.nilFunc] 115),(b6,O (Register.cells r tB) 30)] [] (λG=>[(b32,O [.slice vb vs1.length vc] 195),(b31,O [I (aN r.Versions d.At at_ ah).2.2] 37),(b30,O [I (aN r.Versions d.At at_ ah).2.1] 3),(b17,O (av.cells d dr) 54),(b14,O (fw.cells (aZ r signed u aP at_ ah).1 vr) 36),(b12,O [.bool ((aZ r signed u aP at_ ah).1.State==1),.slice fb (eA (gy r d at_ ah)).length fc,.slice nb n1.length nc,.slice ob o1.length oc,.nilFunc] 115),(b6,O (Register.cells r tB) 30)]++G) (by simp[dropNth]) (λ_=>U) underlying195 ty93 zc93 U bytes93 (grm hvG (HF.le_trans hle8 hle9)) U U (lH hys.1) (by simp only[List.length_cons,List.length_nil];omega) (by simp only[List.length_cons,List.length_nil];omega) (λbs cp G2 hG2=>?_)
  refine⟨jl hle9,tu hle9 ?_⟩
  refine tn 9 U (lE 0 ty195 U U U U U U ?_)
  refine⟨jn,dO kr ?_⟩
  refine rn ?_
  exact ag (vs1++[jX r d y at_ ah],bs,cp,G2,h9) (by rw[hs2,List.map_cons];simp) ⟨hG2,by simp;omega,HF.le_trans lhh (HF.le_trans hle8 hle9)⟩ ⟨U,U,U,U,U,U,U,U,U,U,U,U,U,U,mO (by omega),trivial⟩):p:=h
theorem Ua(h:p:=by
  refine tn 7 U (bW (cells:=[.func fn0 fi0 ca0]) underlying195 ty93 zc93 U U kr (λb3=>?_))
  refine⟨jn,?_⟩
  exact Ub):p:=h
theorem Bd(h r tB signed qy pZ u qm ql)(aP at_ ah:Int)(hr:vL h r tB)(hsi:SlC vB h qy pZ signed)(hu:SlC Zz h qm ql u)(hsm:smR r)(hln:r.bV.length<20)(hk:dM h)(hok:(aZ r signed u aP at_ ah).2=0->wE r aP at_ ah):
   jv prog 62 [.agg (qD r tB).toArray,.slice qy signed.length pZ,.slice qm u.length ql,I aP,I at_,I ah] h (λv h'=>QOk h' v (im r signed u aP at_ ah).1 (im r signed u aP at_ ah).2):=by
 refine sT func62 U ntmps62 U λX hM hX hF=>?_
 refine wto U (iA (λb6=>?_))
 refine aM (wal U (λb12=>?_))
 refine rn ?_
 refine eS 1 ty30 U U U ?_
 refine rn ?_
 refine aM (cW call9 (Bj h r tB signed _ _ u _ _ aP at_ ah hr hsi hu hsm hln hk) U (λv h1 hle1 hp1=>?_))
 obtain⟨vr,rfl,okv⟩:=hp1
 refine rn ?_
 refine aM (wal U (λb14=>?_))
 refine wsW U U U nthA U U U ?_
 refine rn ?_
 cases hj:((aZ r signed u aP at_ ah).2 != 0)with
 |true=>
  refine wcT U U ?_
  refine rn ?_
  refine eS 1 ty115 U U U ?_
  refine rn ?_
  refine wsW U U U nthA U U U ?_
  refine rn ?_
  refine wrH [.agg #[.bool false,zSN,zSN,zSN,.nilFunc],I (aZ r signed u aP at_ ah).2] hF U rdR ?_
  have hq:im r signed u aP at_ ah=(⟨false,[],[],[],λ_=>false⟩,(aZ r signed u aP at_ ah).2):=by unfold im;rw[hj];rfl
  rw[hq]
  refine⟨none,0,none,0,none,0,.nilFunc,U,U,qH,qH,qH,λh0=>?_⟩
  rw[show(aZ r signed u aP at_ ah).2=0 from h0]at hj;cases hj
 |false=>
  have hj0:(aZ r signed u aP at_ ah).2=0:=by simpa using hj
  have ok:=hok hj0
  have hq:im r signed u aP at_ ah=(iT r signed u aP at_ ah (gB r aP),0):=by unfold im;rw[hj];rfl
  rw[hq]
  obtain⟨odocs,odin,overs,ovin,ovlen,oflen,onlen,oslen⟩:=ok
  have hdk:nthI r.bV ((bsPos av.No r.bV aP:Nat):Int)=gB r aP:=rfl
  generalize gB r aP=d at *
  have hsp:=Do av.No aP r.bV odocs
  generalize bsPos av.No r.bV aP=k at *
  refine wcF U U ?_
  refine rn ?_
  refine wld U U nthA U ?_
  refine rn ?_
  refine dP call143 (pW h1 r.bV _ _ aP xu (.func (.func 144) #[] #[]) k (slm hr.bV hle1) (λh' a0 r0 a1 hl hok=>jd call144 (Fi h' a0 r0 a1 hok)) (by omega) (λi y hi hy=>(Nj _ _).2 (hsp.1 i y hi hy)) (λi y hi hy hc=>hsp.2 i y hi hy ((Nj _ _).1 hc)) hsm.2.2.2.2.2.1) U ?_
  refine rn ?_
  refine wld U U nthA U ?_
  refine rn ?_
  refine wix U U U U (slm hr.bV hle1) U (z:=(k:Int)) (y:=d) (by omega) (by rw[←hdk];exact eH (by omega)) (λq cs hA hl hr0=>?_)
  obtain⟨dr,rfl,hd⟩:=hr0
  refine wlhs U U hA U ?_
  refine aM (wal U (λb17=>?_))
  refine wsW U U U nthA U U U ?_
  refine rn ?_
  refine wld U U nthA U ?_
  refine rn ?_
  refine wst U U nthA U U U U ?_
  refine rn ?_
  refine eS 3 ty30 U U U ?_
  refine eS 0 ty54 U U U ?_
  refine rn ?_
  refine aM (cW call146 (GP h1 r tB d dr at_ ah (hr.mono hle1) hd hsm) U (λv h2 hle2 hp2=>?_))
  obtain⟨_,rfl,hit⟩:=hp2
  refine aM (cW call145 (Aj h2 _ _ hit (by omega)) U (λv h3 hle3 hp3=>?_))
  obtain⟨fb,fc,rfl,slf⟩:=hp3
  refine rn ?_
  refine wst U U nthA U U U U ?_
  refine rn ?_
  refine wld U U nthA U ?_
  refine rn ?_
  have l13:=kA hle2 hle3
  have l03:=kA hle1 l13
  refine aM (cW call30 (pC h3 r.bV _ _ signed _ _ at_ (slm hr.bV l03) (slm hsi l03) hln) U (λv h4 hle4 hp4=>?_))
  obtain⟨gb,gc,rfl,slg⟩:=hp4
  have l04:=kA l03 hle4
  refine rn ?_
  refine wld U U nthA U ?_
  refine rn ?_
  have l14:=kA l13 hle4
  refine lp2 d.e9 (λi(w:List Int×Option Addr×Nat×LH)=>[(1,.slice qy signed.length pZ),(2,.slice qm u.length ql),(3,I aP),(4,I at_),(5,I ah),(6,Q b6),(12,Q b12),(14,Q b14),(17,Q b17),(18,.slice gb (bp r.bV signed at_).1.length gc),(81,.slice dr.EP d.e9.length dr.EO),(82,I (d.e9.length:Int)),(83,I (i:Int))]) (λ_=>h4) (λw=>[(b17,O (av.cells d dr) 54),(b14,O (fw.cells (aZ r signed u aP at_ ah).1 vr) 36),(b12,O [.bool ((aZ r signed u aP at_ ah).1.State==1),.slice fb (eA (gy r d at_ ah)).length fc,.slice w.2.1 w.1.length w.2.2.1,zSN,.nilFunc] 115),(b6,O (qD r tB) 30)]++w.2.2.2) (λi w=>cI vB 3 h4 w.1 w.2.1 w.2.2.1 w.2.2.2/\w.1.length<=i) (λs i w=>jh (bp r.bV signed at_).1 s w.1) ([],none,0,[]) (by omega) (U:jh (bp r.bV signed at_).1 d.e9 []=_) ⟨cI.nil,xE _⟩ (λi w hi hs2 hw e=>?_) (λi w y rr hd1 hlt hget hltp hbd hs2 hw hx ag e=>?_)
  . obtain⟨n1,nb,nc,nG⟩:=w
    obtain⟨hnG,hn2⟩:=hw
    dsimp only at hnG hn2 hs2
    have hn3:jh (bp r.bV signed at_).1 d.e9 []=n1:=hs2
    refine wfg (Q:=[(b17,O (av.cells d dr) 54),(b14,O (fw.cells (aZ r signed u aP at_ ah).1 vr) 36),(b12,O [.bool ((aZ r signed u aP at_ ah).1.State==1),.slice fb (eA (gy r d at_ ah)).length fc,.slice nb n1.length nc,zSN,.nilFunc] 115),(b6,O (qD r tB) 30)]) hnG (List.Perm.refl _) hM (λh5 hle5 sln=>?_)
    have l05:=kA l04 hle5
    refine rn ?_
    refine wld U U nthA U ?_
    refine rn ?_
    refine wld U U nthA U ?_
    refine rn ?_
    refine aM (cW call147 (CD h5 r.df _ _ d.Kind at_ ah (slm hr.df l05) hsm.2.2.2.2.1) U (λv h6 hle6 hp6=>?_))
    obtain⟨sb,sc,rfl,sls⟩:=hp6
    have l06:=kA l05 hle6
    have l16:=kA (kA l14 hle5) hle6
    refine rn ?_
    refine lp2 (ek r.df d.Kind at_ ah).1 (λi(w:List Int×Option Addr×Nat×LH)=>[(1,.slice qy signed.length pZ),(2,.slice qm u.length ql),(3,I aP),(4,I at_),(5,I ah),(6,Q b6),(12,Q b12),(14,Q b14),(17,Q b17),(108,.slice sb (ek r.df d.Kind at_ ah).1.length sc),(109,I (((ek r.df d.Kind at_ ah).1.length:Nat):Int)),(110,I (i:Int))]) (λ_=>h6) (λw=>[(b17,O (av.cells d dr) 54),(b14,O (fw.cells (aZ r signed u aP at_ ah).1 vr) 36),(b12,O [.bool ((aZ r signed u aP at_ ah).1.State==1),.slice fb (eA (gy r d at_ ah)).length fc,.slice nb n1.length nc,.slice w.2.1 w.1.length w.2.2.1,.nilFunc] 115),(b6,O (qD r tB) 30)]++w.2.2.2) (λi w=>cI vB 3 h6 w.1 w.2.1 w.2.2.1 w.2.2.2/\w.1.length<=i) (λs i w=>iH u d at_ ah s w.1) ([],none,0,[]) (by omega) (U:iH u d at_ ah (ek r.df d.Kind at_ ah).1 []=_) ⟨cI.nil,xE _⟩ (λi w hi hs2 hw e=>?_) (λi w y rr hd1 hlt hget hltp hbd hs2 hw hx ag e=>?_)
    . obtain⟨o1,ob,oc,oG⟩:=w
      obtain⟨hoG,ho2⟩:=hw
      dsimp only at hoG ho2 hs2
      have ho3:iH u d at_ ah (ek r.df d.Kind at_ ah).1 []=o1:=hs2
      refine wfg (Q:=[(b17,O (av.cells d dr) 54),(b14,O (fw.cells (aZ r signed u aP at_ ah).1 vr) 36),(b12,O [.bool ((aZ r signed u aP at_ ah).1.State==1),.slice fb (eA (gy r d at_ ah)).length fc,.slice nb n1.length nc,.slice ob o1.length oc,.nilFunc] 115),(b6,O (qD r tB) 30)]) hoG (List.Perm.refl _) hM (λh7 hle7 slo=>?_)
      have l07:=kA l06 hle7
      refine rn ?_
      refine wld U U nthA U ?_
      refine rn ?_
      refine wld U U nthA U ?_
      refine rn ?_
      refine aM (cW call108 (vl h7 r.Versions _ _ d.At at_ ah (slm hr.Versions l07) hsm.vers (hk.mono l07)) U (λv h8 hle8 hp8=>?_))
      obtain⟨jb,jc,rfl,slj⟩:=hp8
      have l08:=kA l07 hle8
      have l18:=kA (kA l16 hle7) hle8
      refine rn ?_
      refine aM (wal U (λb30=>?_))
      refine aM (wal U (λb31=>?_))
      refine rn ?_
      refine wst U U nthA U U U U ?_
      refine wst U U nthA U U U U ?_
      refine rn ?_
      refine aM (wal U (λb32=>?_))
      refine rn ?_
      refine lp2 (aN r.Versions d.At at_ ah).1 (λi(w:List (List Int->Bool)×Option Addr×Nat×LH×HF)=>[(1,.slice qy signed.length pZ),(2,.slice qm u.length ql),(3,I aP),(4,I at_),(5,I ah),(6,Q b6),(12,Q b12),(14,Q b14),(17,Q b17),(30,Q b30),(31,Q b31),(32,Q b32),(149,.slice jb (aN r.Versions d.At at_ ah).1.length jc),(150,I (((aN r.Versions d.At at_ ah).1.length:Nat):Int)),(151,I (i:Int))]) (λw=>w.2.2.2.2) (λw=>[(b32,O [.slice w.2.1 w.1.length w.2.2.1] 195),(b31,O [I (aN r.Versions d.At at_ ah).2.2] 37),(b30,O [I (aN r.Versions d.At at_ ah).2.1] 3),(b17,O (av.cells d dr) 54),(b14,O (fw.cells (aZ r signed u aP at_ ah).1 vr) 36),(b12,O [.bool ((aZ r signed u aP at_ ah).1.State==1),.slice fb (eA (gy r d at_ ah)).length fc,.slice nb n1.length nc,.slice ob o1.length oc,.nilFunc] 115),(b6,O (qD r tB) 30)]++w.2.2.2.1) (λi w=>cI rpFn 93 w.2.2.2.2 w.1 w.2.1 w.2.2.1 w.2.2.2.1/\w.1.length<=i/\h8.le w.2.2.2.2) (λs i w=>w.1++s.map (λno=>jX r d no at_ ah)) ([],none,0,[],h8) (by omega) (U:(aN r.Versions d.At at_ ah).1.map (λno=>jX r d no at_ ah)=_) ⟨cI.nil,xE _,qF _⟩ (λi w hi hs2 hw e=>?_) (λi w y rr hd1 hlt hget hltp hbd hs2 hw hx ag e=>?_)
      . obtain⟨vs1,vb,vc,vG,hh⟩:=w
        obtain⟨hvG,hv2,lhh⟩:=hw
        dsimp only at hvG hv2 lhh hs2
        have hv3:(aN r.Versions d.At at_ ah).1.map (λno=>jX r d no at_ ah)=vs1:=by rw[hs2];simp
        refine wfg (Q:=[(b32,O [.slice vb vs1.length vc] 195),(b31,O [I (aN r.Versions d.At at_ ah).2.2] 37),(b30,O [I (aN r.Versions d.At at_ ah).2.1] 3),(b17,O (av.cells d dr) 54),(b14,O (fw.cells (aZ r signed u aP at_ ah).1 vr) 36),(b12,O [.bool ((aZ r signed u aP at_ ah).1.State==1),.slice fb (eA (gy r d at_ ah)).length fc,.slice nb n1.length nc,.slice ob o1.length oc,.nilFunc] 115),(b6,O (qD r tB) 30)]) hvG (List.Perm.refl _) hM (λh9 hle9 slv=>?_)
        refine rn ?_
        refine wmz 0 U U nthA hM (λh10 hle10 a31=>?_)
        refine wmz 1 U U nthA hM (λh11 hle11 a32=>?_)
        refine wmz 2 U U nthA hM (λh12 hle12 a30=>?_)
        refine aM (wmf ?_)
        refine rn ?_
        refine wst U U nthA U U U U ?_
        refine rn ?_
        refine eS 2 ty115 U U U ?_
        refine wsW U U U nthA U U U ?_
        refine rn ?_
        have hqq:iT r signed u aP at_ ah d=⟨(aZ r signed u aP at_ ah).1.State==1,eA (gy r d at_ ah),n1,o1,λw=>oO w (aN r.Versions d.At at_ ah).2.2 vs1 (aN r.Versions d.At at_ ah).2.1⟩:=by
          unfold iT;rw[hn3,ho3,hv3]
        rw[hqq]
        refine wrH [.agg #[.bool ((aZ r signed u aP at_ ah).1.State==1),.slice fb (eA (gy r d at_ ah)).length fc,.slice nb n1.length nc,.slice ob o1.length oc,.func (.func 149) #[] #[Q b31,Q b32,Q b30]],I 0] hF U rdR ?_
        have k11:=hle12
        have k10:=kA hle11 k11
        have k9:=kA hle10 k10
        have k8:=kA (kA lhh hle9) k9
        have k7:=kA hle8 k8
        have k5:=kA (kA hle6 hle7) k7
        have k3:=kA (kA hle4 hle5) k5
        refine⟨fb,fc,nb,nc,ob,oc,_,U,U,slm slf k3,slm sln k5,slm slo k7,λ_=>⟨⟨_,_,_,U⟩,λh' w wb wc hle' hw hlw=>?_⟩⟩
        exact jd call149 (Fh h' w wb wc (aN r.Versions d.At at_ ah).2.2 ⟨b31,0,none⟩ vs1 vb vc ⟨b32,0,none⟩ (aN r.Versions d.At at_ ah).2.1 ⟨b30,0,none⟩ hw ((a31.mono k10).mono hle') (slm slv (kA k9 hle')) ((a32.mono k11).mono hle') (a30.mono hle') (by omega) hlw)
      . obtain⟨vs1,vb,vc,vG,hh⟩:=w
        obtain⟨hvG,hv2,lhh⟩:=hw
        dsimp only at hvG hv2 lhh hs2
        have hym:=ovin y (Jz hd1)
        have l0h:=kA l08 lhh
        refine wtt U (wcT U hlt ?_)
        refine rn ?_
        refine wix U U U U (slm slj lhh) U (nthZ hget) (kz hget) (λq cs hA hl hr0=>?_)
        have hr0:=(hr0:cs=_)
        subst hr0
        refine wlh0 U U hA ?_
        refine rn ?_
        refine fQ ([(b17,O (av.cells d dr) 54),(b6,O (qD r tB) 30)]) mixed kr jn (λlA _=>?_)
        refine tf 1 U U (λ_ _ hj=>oA ty30 U (hj.nth (i:=1) U) U) ?_
        refine tf 2 U U (λ_ _ hj=>oA ty54 U (hj.nth (i:=0) U) U) ?_
        refine qA [3,4,5] U ?_
        refine nq 0 6 kr U U ?_ ?_
        . refine em (wM (off:=0) ty195 rfl (jP _ (xB ..)) rfl) ⟨jn,?_⟩
          refine tn 6 U (cW call148 (yw hh r tB d dr y at_ ah (hr.mono l0h) (hd.mono (kA l18 lhh)) hsm (hk.mono l0h) overs hym.1 hym.2.1 hym.2.2) U (λv h8' hle8 hfn=>?_))
          obtain⟨fn0,fi0,ca0,rfl⟩:=hfn.1
          refine⟨jl hle8,tu hle8 ?_⟩
          exact Ua
        . refine cW call148 (yw hh r tB d dr y at_ ah (hr.mono l0h) (hd.mono (kA l18 lhh)) hsm (hk.mono l0h) overs hym.1 hym.2.1 hym.2.2) rfl (λv h8' hle8 hfn=>?_)
          obtain⟨fn0,fi0,ca0,rfl⟩:=hfn.1
          refine⟨jl hle8,tu hle8 ?_⟩
          refine nq 0 7 kr U U ?_ ?_
          . refine em (wM (off:=0) ty195 rfl (jP _ (xB ..)) rfl) ⟨jn,?_⟩
            exact Ua
          . refine bW (cells:=[.func fn0 fi0 ca0]) underlying195 ty93 zc93 rfl rfl kr (λb3=>?_)
            refine⟨jn,?_⟩
            refine tn 0 U (em (wM (off:=0) ty195 U (qC _ (jP _ (xB ..))) U) ⟨jn,?_⟩)
            exact Ub
    . obtain⟨o1,ob,oc,oG⟩:=w
      obtain⟨hoG,ho2⟩:=hw
      dsimp only at hoG ho2 hs2
      refine wtt U (wcT U hlt ?_)
      refine rn ?_
      refine wix U U U U sls U (nthZ hget) (kz hget) (λq cs hA hl hr0=>?_)
      have hr0:=(hr0:cs=_)
      subst hr0
      refine wlhs U U hA U ?_
      refine aM (wal U (λb25=>?_))
      refine wsW U U U nthA U U U ?_
      refine rn ?_
      refine eS 0 ty81 U U U ?_
      refine aM (bW (cells:=vS y) Tj ty81 zc81 U U kr (λb3=>dF 0 U hM (λh7 hle7 f3=>?_)))
      have hys:SlC xS h7 (zAD b3) 1 [y]:=slL f3 lf (cE y rfl rfl) (by simp) (by simp)
      have l07:=kA l06 hle7
      refine rn ?_
      refine wld U U nthA U ?_
      refine rn ?_
      refine wld U U nthA U ?_
      refine rn ?_
      refine dP call31 (uj h7 [y] _ _ u _ _ d.Kind d.Value at_ ah hys (slm hu l07) (by simp)) U ?_
      refine rn ?_
      cases hc:(aL [y] u d.Kind d.Value at_ ah).2.1 with
      |true=>
        refine wcF U U ?_
        refine rn ?_
        exact wsb (ag (o1,ob,oc,oG) (by rw[hs2,iH,hc];rfl) ⟨hoG,ZE ho2⟩ ⟨U,U,U,U,U,U,U,U,U,U,U,mO (by omega),trivial⟩) (List.Sublist.cons _ (List.Sublist.refl _)) hle7 hX l06
      |false=>
        refine wcT U U ?_
        refine rn ?_
        refine wld U U nthA U ?_
        refine rn ?_
        refine wld U U nthA U ?_
        refine aM (bW (cells:=[I y.No]) fa ty3 zc3 U U kr (λb4=>dF 0 U hM (λh8 hle8 f4=>?_)))
        have hyn:SlC vB h8 (zAD b4) 1 [y.No]:=slL f4 lf (cE y.No rfl rfl) (by simp) (by simp)
        refine wap (Q:=[(b25,O (vS y) 81),(b17,O (av.cells d dr) 54),(b14,O (fw.cells (aZ r signed u aP at_ ah).1 vr) 36),(b12,O [.bool ((aZ r signed u aP at_ ah).1.State==1),.slice fb (eA (gy r d at_ ah)).length fc,.slice nb n1.length nc,.slice ob o1.length oc,.nilFunc] 115),(b6,O (qD r tB) 30)]) U U (grm (grm hoG hle7) hle8) U (List.Perm.refl _) U hyn U U U U (by simp only[xA,jB];omega) (by simp only[xA,jB];omega) (λbs cp G2 hG2=>?_)
        refine rn ?_
        refine wst U U nthA U U U U ?_
        refine rn ?_
        exact wsb (ag (o1++[y.No],bs,cp,G2) (by rw[hs2,iH,hc];rfl) ⟨hG2.flat (λ_ _ _ _ a=>a),by simp;omega⟩ ⟨U,U,U,U,U,U,U,U,U,U,U,mO (by omega),trivial⟩) (List.Sublist.cons _ (List.Sublist.refl _)) (kA hle7 hle8) hX l06
  . obtain⟨n1,nb,nc,nG⟩:=w
    obtain⟨hnG,hn2⟩:=hw
    dsimp only at hnG hn2 hs2
    refine wtt U (wcT U hlt ?_)
    refine rn ?_
    refine wix U U U U (slm hd.e9 l14) U (nthZ hget) (kz hget) (λq cs hA hl hr0=>?_)
    have hr0:=(hr0:cs=_)
    subst hr0
    refine wlh0 U U hA ?_
    refine rn ?_
    refine dP call107 (rF h4 (bp r.bV signed at_).1 _ _ y slg) U ?_
    refine rn ?_
    cases hc:fu (bp r.bV signed at_).1 y with
    |true=>
      refine wcF U U ?_
      refine rn ?_
      exact ag (n1,nb,nc,nG) (by rw[hs2,jh,hc];rfl) ⟨hnG,ZE hn2⟩ ⟨U,U,U,U,U,U,U,U,U,U,U,U,mO (by omega),trivial⟩
    |false=>
      refine wcT U U ?_
      refine rn ?_
      refine wld U U nthA U ?_
      refine rn ?_
      refine aM (bW (cells:=[I y]) fa ty3 zc3 U U kr (λb3=>dF 0 U hM (λh5 hle5 f3=>?_)))
      have hys:SlC vB h5 (zAD b3) 1 [y]:=slL f3 lf (cE y rfl rfl) (by simp) (by simp)
      refine wap (Q:=[(b17,O (av.cells d dr) 54),(b14,O (fw.cells (aZ r signed u aP at_ ah).1 vr) 36),(b12,O [.bool ((aZ r signed u aP at_ ah).1.State==1),.slice fb (eA (gy r d at_ ah)).length fc,.slice nb n1.length nc,zSN,.nilFunc] 115),(b6,O (qD r tB) 30)]) U U (grm hnG hle5) U (List.Perm.refl _) U hys U U U U (by simp only[xA,jB];omega) (by simp only[xA,jB];omega) (λbs cp G2 hG2=>?_)
      refine rn ?_
      refine wst U U nthA U U U U ?_
      refine rn ?_
      exact wsb (ag (n1++[y],bs,cp,G2) (by rw[hs2,jh,hc];rfl) ⟨hG2.flat (λ_ _ _ _ a=>a),by simp;omega⟩ ⟨U,U,U,U,U,U,U,U,U,U,U,U,mO (by omega),trivial⟩) (List.Sublist.refl _) hle5 hX l04
theorem nn(h kind l fm fj)(hl:SlC vB h fm fj l)(hsz0:l.length<=2000000):jv prog 63 [I kind,.slice fm l.length fj] h (λv h'=>∃(rb0:Option Addr)(rc0:Nat),v=.slice rb0 (bo kind l).length rc0/\SlC eQ.rp h' rb0 rc0 (bo kind l)):=by
 refine sVv func63 ntmps63 ?_
 generalize hz:(bo kind l)=z
 have HA:=hG [0,7,8] 9 4 eQ.rp 69 (λs1 i w=>(bo.L1 kind (bo.K1)) s1 w)
 exact W
theorem xw(h m):Ret prog 243 [.int .u64 m] h (I (pop64 m)):=by
 refine sVv func243 ntmps243 ?_
 generalize hz:pop64 m=z
 exact W
instance kC243:Ct 243:=⟨_,call243,@xw⟩
theorem zc(h m):Ret prog 151 [.int .u64 m] h (I (pop64 m)):=by
 refine sVv func151 ntmps151 ?_
 generalize hz:pop64 m=z
 exact W
theorem D7(h p WM WL n_q p_q)(hp:SlC vB h WM WL p)(an_:At h n_q [I (p.length:Int)])(ap_:At h p_q [.slice WM p.length WL])(hsz:p.length<=12):
   Itr prog (.func (.func 150) #[] (kB [.pointer (some n_q),.pointer (some p_q)])) OS (iX p) h:=by
 refine sR call150 ?_
 intro yf ya yb C Sp Pn h1 A dN m1 m2 m3 hC hy
 refine mP S4 U ntmps150 U λX hXM hX=>?_
 have h12:=TY hsz
 have hs0:iX p=[]++upF (λsize=>downF (setsM p size) (2 ^ p.length)) 0 (p.length+1):=rfl
 generalize iX p=z at *
 have hNN:((2:Int) ^ p.length)=((2 ^ p.length:Nat):Int):=by simp
 generalize 2 ^ p.length=N at *
 refine wto U (wlh0 U U (atm an_ dN) ?_)
 refine wot U ?_
 have hn1:IntKind.i64.wrap ((p.length:Int)+1)=((p.length+1:Nat):Int):=wrap64 (by omega)
 refine fZ (ι:=Nat×List (List Int)×LH×HF) (λi=>[]) (λi=>i.2.2.2) (λi=>i.2.2.1) (λi=>i.1<=p.length+1/\z=i.2.1++[]/\C i.2.1 i.2.2.2 i.2.2.1/\jL h1 i.2.2.2) ?_ (λhx1=>?_)
 . rintro⟨i1,dn1,A1_,hh1⟩ ⟨m4,hs1,hC1_,hl1⟩ e
   refine ij ?_
   have hs2:z=dn1:=hs1.trans (List.append_nil _)
   exact Bo [] (A:=A1_) S4 U (List.Sublist.refl _) (.inl (hs2▸hC1_))
 refine i9 (ι:=Nat×List (List Int)×LH×HF) (λi=>[(0,.func yf ya yb),(1,.pointer (some n_q)),(2,.pointer (some p_q)),(10,I ((p.length+1:Nat):Int)),(11,I (i.1:Int))]) (λi=>i.2.2.2) (λi=>i.2.2.1) (λi=>i.1<=p.length+1/\z=i.2.1++upF (λsize=>downF (setsM p size) N) i.1 (p.length+1-i.1)/\C i.2.1 i.2.2.2 i.2.2.1/\jL h1 i.2.2.2) (λi=>p.length+1-i.1) (0,[],A,h1) ⟨U,U,U,congrArg I hn1,U,trivial⟩ sws ⟨jH _,hs0,hC,qF h1⟩ ?_
 rintro⟨i1,dn1,A1_,hh1⟩ ⟨m4,hs1,hC1_,hl1⟩ ag1 e
 dsimp only at m4 hs1 hC1_ hl1
 rcases zK i1 (p.length+1)with mN|uQ
 case inr=>
  have:p.length+1-i1=0:=by omega
  rw[this]at hs1
  refine wtt U (wcF U (decide_eq_false (by omega)) ?_)
  exact jZ U (hx1 (i1,dn1,A1_,hh1) _ ⟨m4,hs1,hC1_,hl1⟩ trivial)
 obtain⟨c1,hc1⟩:∃c,p.length+1-i1=c+1:=⟨p.length-i1,by omega⟩
 rw[hc1]at hs1
 have hc1':p.length+1-(i1+1)=c1:=by omega
 refine wtt U (wcT U (decide_eq_true (by omega)) ?_)
 refine wto U (wlh0 U U (atm an_ (kA dN hl1)) ?_)
 refine wshl U U (by omega) ?_
 have hp2:IntKind.i64.wrap (1*2 ^ min ((p.length:Int)).toNat IntKind.i64.bits)=(N:Int):=by
  have h64:min ((p.length:Int)).toNat IntKind.i64.bits=p.length:=by simp[Z8];omega
  rw[h64,Int.one_mul,hNN];exact wrap64 (by omega)
 have hm0:IntKind.i64.wrap (IntKind.i64.wrap (1*2 ^ min ((p.length:Int)).toNat IntKind.i64.bits)-1)=(N:Int)-1:=by rw[hp2];exact wrap64 (by omega)
 refine wot U ?_
 refine fZ (ι:=List (List Int)×LH×HF) (λi=>[(0,.func yf ya yb),(1,.pointer (some n_q)),(2,.pointer (some p_q)),(10,I ((p.length+1:Nat):Int)),(11,I (i1:Int))]) (λi=>i.2.2) (λi=>i.2.1) (λi=>z=i.1++upF (λsize=>downF (setsM p size) N) (i1+1) c1/\C i.1 i.2.2 i.2.1/\jL h1 i.2.2) ?_ (λhx2=>?_)
 . rintro⟨dn2,A2_,hh2⟩ ⟨hs2,hC2_,hl2⟩ e
   dsimp only at hs2 hC2_ hl2
   refine wtt U ?_
   exact ag1 (i1+1,dn2,A2_,hh2) _ (by show p.length+1-(i1+1)<p.length+1-i1;omega) ⟨mN,by show z=dn2++upF _ (i1+1) (p.length+1-(i1+1));rw[hc1'];exact hs2,hC2_,hl2⟩ ⟨U,U,U,U,mO (by omega),trivial⟩
 refine i9 (ι:=Nat×List (List Int)×LH×HF) (λi=>[(0,.func yf ya yb),(1,.pointer (some n_q)),(2,.pointer (some p_q)),(4,I (i1:Int)),(5,I ((i.1:Int)-1)),(10,I ((p.length+1:Nat):Int)),(11,I (i1:Int))]) (λi=>i.2.2.2) (λi=>i.2.2.1) (λi=>i.1<=N/\z=i.2.1++(downF (setsM p i1) i.1++upF (λsize=>downF (setsM p size) N) (i1+1) c1)/\C i.2.1 i.2.2.2 i.2.2.1/\jL h1 i.2.2.2) (λi=>i.1) (N,dn1,A1_,hh1) ⟨U,U,U,U,congrArg I hm0,U,U,trivial⟩ sws ⟨xE _,hs1,hC1_,hl1⟩ ?_
 rintro⟨j2,dn2,A2_,hh2⟩ ⟨hj2,hs2,hC2_,hl2⟩ ag2 e
 dsimp only at hj2 hs2 hC2_ hl2
 rcases j2 with _|m
 . refine wtt rfl (wcF rfl (decide_eq_false (by show ¬(0:Int)<=((0:Nat):Int)-1;omega)) ?_)
   exact jZ U (hx2 (dn2,A2_,hh2) _ ⟨hs2,hC2_,hl2⟩ ⟨U,U,U,U,U,trivial⟩)
 dsimp only
 have e5:((m+1:Nat):Int)-1=(m:Int):=by omega
 rw[e5]
 have hnx:∀dn A' hh e',z=dn++(downF (setsM p i1) m++upF (λsize=>downF (setsM p size) N) (i1+1) c1)->C dn hh A'->jL h1 hh->fy e' [(0,.func yf ya yb),(1,.pointer (some n_q)),(2,.pointer (some p_q)),(4,I (i1:Int)),(5,I (IntKind.i64.wrap ((m:Int)-1))),(10,I ((p.length+1:Nat):Int)),(11,I (i1:Int))]->_:=
   λdn A' hh e' a1 a2 a3 a4=>ag2 (m,dn,A',hh) e' (Nat.lt_succ_self m) ⟨by omega,a1,a2,a3⟩ (by rw[wrap64 (z:=(m:Int)-1) (by omega)]at a4;exact a4)
 refine wtt U (wcT U (decide_eq_true (by omega)) ?_)
 refine wto U (wcv U U U ?_)
 have hU:vC .u64 (m:Int)=m:=wrapU (by omega)
 rw[hU]
 refine dP call151 (zc hh2 (m:Int)) U ?_
 refine wot U ?_
 cases hb:(pop64 (m:Int)==(i1:Int))with
 |false=>
  refine wcT U (by rw[bne,hb];rfl) ?_
  refine wtt U ?_
  exact hnx dn2 A2_ hh2 _ (by simpa[downF,setsM,hb]using hs2) hC2_ hl2 ⟨U,U,U,U,U,U,U,trivial⟩
 |true=>
  have hs3:z=dn2++(setOf p (m:Int)::(downF (setsM p i1) m++upF (λsize=>downF (setsM p size) N) (i1+1) c1)):=by simpa[downF,setsM,hb]using hs2
  refine wcF U (by rw[bne,hb];rfl) ?_
  refine wto U (aM (PN hXM fa ty3 (λbk hbk=>?_)))
  refine woo U (wlh0 U U (atm ap_ (kA dN hl2)) ?_)
  refine wot U ?_
  have hps:SlC vB hh2 WM WL p:=slm hp (kA dN hl2)
  refine lp2 p (λq(w:List Int×Option Addr×Nat×LH)=>[(0,.func yf ya yb),(1,.pointer (some n_q)),(2,.pointer (some p_q)),(4,I (i1:Int)),(5,I (m:Int)),(6,.slice w.2.1 w.1.length w.2.2.1),(10,I ((p.length+1:Nat):Int)),(11,I (i1:Int)),(27,.slice WM p.length WL),(28,I (p.length:Int)),(29,I (q:Int))]) (λ_=>hh2) (λw=>w.2.2.2++A2_) (λq w=>cI vB 3 hh2 w.1 w.2.1 w.2.2.1 w.2.2.2/\Nw X w.2.2.2/\w.1.length<=q) (λs q w=>setOf.L p.length (m:Int) s q w.1) ([],zAD bk,0,[(bk,.cells [].toArray 3 (0,0))]) (by omega) (U:setOf p (m:Int)=_) ⟨cI.lit cNi U,λp hp=>by rw[xC.1 hp];exact hbk,xE _⟩ (λq w hi hs hw e=>?_) (λq w y r hd hlt hget hltp hbd hs hw hx ag e=>?_)
  . obtain⟨w1,wb,wc,wG⟩:=w
    obtain⟨hG,hN,hw3⟩:=hw
    dsimp only at hG hN hw3 hs
    have hs4:setOf p (m:Int)=w1:=hs
    rw[hs4]at hs3
    refine wto U ?_
    refine NM kM (List.Perm.refl _) hN hG (λh3 hle3 hsl=>?_)
    refine aM (qn ([]) A2_ ap (hy dn2 w1 _ _ _ _ hs3 (kA hl2 hle3) (m1 _ _ _ _ hle3 hC2_) ⟨_,_,U,hsl⟩) U U (λh4 A1 hle4 hC4=>?_) (λh4 A2 hle4 hS4=>?_) (λch1 h5 A3 hle5 hP1 e=>mz (xO [] (A:=A3) S4 (List.sublist_append_right _ _) hP1)))
    . refine wot rfl (wcF rfl rfl ?_)
      refine wtt U ?_
      exact hnx (dn2++[w1]) A1 h4 _ (hs3.trans (by simp)) hC4 (kA (kA hl2 hle3) hle4) ⟨U,U,U,U,U,U,U,trivial⟩
    . refine wot rfl (wcT rfl rfl ?_)
      exact ij (xI [] (A:=A2) S4 U (List.Sublist.refl _) (.inr hS4))
  . obtain⟨w1,wb,wc,wG⟩:=w
    obtain⟨hG,hN,hw3⟩:=hw
    dsimp only at hG hN hw3 hs
    refine wtt U (wcT U hlt ?_)
    refine wto U (wix U U U U hps U (nthZ hget) (kz hget) (λq1 cs hA hl' hr=>?_))
    have hr:=(hr:cs=_)
    subst hr
    refine wlh0 U U hA ?_
    refine woo U (wlh0 U U (atm an_ (kA dN hl2)) ?_)
    refine woo U ?_
    have hk:IntKind.i64.wrap (IntKind.i64.wrap ((p.length:Int)-1)-(q:Int))=(p.length:Int)-1-(q:Int):=by rw[wrap64 (z:=(p.length:Int)-1) (by omega)];exact wrap64 (by omega)
    refine wshr U U (by rw[hk];omega) (wband U U ?_)
    refine wot U ?_
    have hst:setOf p (m:Int)=setOf.L p.length (m:Int) r (q+1) (bif bitAt (m:Int) ((p.length:Int)-1-(q:Int))then w1++[y]else w1):=hs
    rw[←hk]at hst
    cases hbit:bitAt (m:Int) (IntKind.i64.wrap (IntKind.i64.wrap ((p.length:Int)-1)-(q:Int)))with
    |false=>
      rw[hbit]at hst
      refine wcF U hbit ?_
      refine wtt U ?_
      exact ag (w1,wb,wc,wG) hst ⟨hG,hN,ZE hw3⟩ ⟨U,U,U,U,U,U,U,U,U,U,mO (by omega),trivial⟩
    |true=>
      rw[hbit]at hst
      refine wcT U hbit ?_
      refine wto U (aM (E1 (cells:=[I y]) hXM fa ty3 zc3 U U kr (λb3 hb3=>CU 0 U hb3 (λh3 hle3 f3=>?_))))
      have hys:SlC vB h3 (zAD b3) 1 [y]:=slL f3 lf (cE y rfl rfl) (by simp) (by simp)
      refine PH Rp.j4 hXM hN (List.Perm.refl _) fa ty3 zc3 U bytes3 (hG.mono kM hle3) U U (lH hys.1) (by simp only[xA,jB];omega) (by simp only[xA,jB];omega) (λbs cp G hG2 hN2=>?_)
      refine wot U ?_
      exact wsb (ag (w1++[y],bs,cp,G) hst ⟨hG2.flat (λ_ _ _ _ a=>a),hN2,by simp;omega⟩ ⟨U,U,U,U,U,U,U,U,U,U,mO (by omega),trivial⟩) (List.Sublist.refl _) hle3 hX hl2
instance kI150:CtI 150:=⟨_,@D7⟩
theorem GO(h p WM WL)(hp:SlC vB h WM WL p)(hsz:p.length<=12):jv prog 64 [.slice WM p.length WL] h (λv h'=>∃(rv0:Value),v=rv0/\Itr prog rv0 OS (iX p) h'):=by
 refine sVv func64 ntmps64 ?_
 generalize hz:iX p=z
 exact W
theorem xa(f:List Int):∀(l g:List Int),(jh f l g).length<=g.length+l.length
  |[],g=>by simp[jh]
  |y::s,g=>by
    have h1:=xa f s (bif !(fu f y)then g++[y]else g)
    simp only[jh]
    cases hc:(!fu f y)<;>rw[hc]at h1<;>simp at h1 ⊢<;>omega
theorem yv(u:List Use)(d:av)(a b):∀(l:List Budget)(g:List Int),(iH u d a b l g).length<=g.length+l.length
  |[],g=>by simp[iH]
  |y::s,g=>by
    have h1:=yv u d a b s (bif !((aL [y] u d.Kind d.Value a b).2.1)then g++[y.No]else g)
    simp only[iH]
    cases hc:(!((aL [y] u d.Kind d.Value a b).2.1))<;>rw[hc]at h1<;>simp at h1 ⊢<;>omega
theorem V6{r:Register}{aP at_ ah:Int}(hok:(aZ r signed u aP at_ ah).2=0->wE r aP at_ ah):(im r signed u aP at_ ah).1.needs.length<=1000000/\(im r signed u aP at_ ah).1.over.length<=1000000:=by
  unfold im
  cases hj:((aZ r signed u aP at_ ah).2 != 0)with
  |true=>simp
  |false=>
    have ok:=hok (by simpa using hj)
    have h1:=xa (bp r.bV signed at_).1 (gB r aP).e9 []
    have h2:=yv u (gB r aP) at_ ah (ek r.df (gB r aP).Kind at_ ah).1 []
    have h3:=ok.nlen;have h4:=ok.slen
    simp only[cond_false,iT,jB]at h1 h2 ⊢
    omega
theorem Fj(k)(l:List Int):(bo k l).length=l.length:=by
  have h:∀(l:List Int)(g:List eQ),(bo.L1 k bo.K1 l g).length=g.length+l.length:=by
    intro l
    induction l with
    |nil=>intro g;simp[bo.L1,bo.K1]
    |cons y s ih=>intro g;simp only[bo.L1];rw[ih];simp;omega
  have:=h l []
  simpa[bo]using this
theorem P3(h:p:=by
  refine tn 3 U (lE 1 ty37 U U U U U U ⟨jn,dO kr ?_⟩)
  exact wrH [zSN,.bool false,I e] hF U rdR ⟨none,0,U,SlC.nil⟩):p:=h
theorem oe(h r tB signed qy pZ u qm ql)(aP at_ ah:Int)(hr:vL h r tB)(hsi:SlC vB h qy pZ signed)(hu:SlC Zz h qm ql u)(hsm:smR r)(hln:r.bV.length<20)(hk:dM h)(hok:(aZ r signed u aP at_ ah).2=0->wE r aP at_ ah):
   jv prog 16 [.agg (qD r tB).toArray,.slice qy signed.length pZ,.slice qm u.length ql,I aP,I at_,I ah] h (λv h'=>∃(lb:Option Addr)(lc:Nat),v=.tuple #[.slice lb ((bN r signed u aP at_ ah).1).length lc,.bool ((bN r signed u aP at_ ah).2.1),I ((bN r signed u aP at_ ah).2.2)]/\SlC eQ.rp h' lb lc ((bN r signed u aP at_ ah).1)):=by
 change jv prog 16 _ h (λv h'=>MOk h' v (bN r signed u aP at_ ah))
 refine sT func16 U ntmps16 U λX hM hX hF=>?_
 obtain⟨hl1,hl2⟩:=V6 hok
 have hcall:=Bd h r tB signed qy pZ u qm ql aP at_ ah hr hsi hu hsm hln hk hok
 unfold bN
 generalize im r signed u aP at_ ah=qe at *
 obtain⟨q,e⟩:=qe
 dsimp only at hl1 hl2 hcall ⊢
 refine wto U (iA (λb6=>?_))
 refine aM (wal U (λb12=>?_))
 refine aM (wal U (λb13=>?_))
 refine aM (wal U (λb14=>?_))
 refine rn ?_
 refine eS 3 ty30 U U U ?_
 refine rn ?_
 refine aM (cW call62 hcall U (λv h1 hle1 hp1=>?_))
 obtain⟨fb,fc,nb,nc,ob,oc,dv,rfl,h1dv,slf,sln,slo,hdec⟩:=hp1
 refine rn ?_
 refine aM (wal U (λb15=>?_))
 refine wsW U U U nthA U U (by simp only[List.all_cons,List.all_nil,h1dv];rfl) ?_
 refine wst U U nthA U U U U ?_
 refine rn ?_
 refine wld U U nthA U ?_
 refine rn ?_
 cases he:(e != 0)with
 |true=>
  have hM_:mT aP q e=([],false,e):=by unfold mT;rw[he];rfl
  rw[hM_]
  refine wcT U U ?_
  refine rn ?_
  refine fQ ([]) mixed kr jn (λlA _=>?_)
  refine nq 0 1 kr U U ?_ ?_
  . refine em (wM (off:=0) (cl:=[I e]) ty37 rfl (nthMem (i:=1) rfl) rfl) ⟨jn,?_⟩
    refine tn 1 U (lE 3 ty44 U U U U U U ⟨jn,?_⟩)
    refine tn 2 U (lE 2 ty4 U U U U U U ⟨jn,?_⟩)
    exact P3
  . refine lE 3 ty44 rfl rfl rfl rfl rfl rfl ⟨jn,?_⟩
    refine nq 0 2 kr U U ?_ ?_
    . refine em (wM (off:=0) (cl:=[I e]) ty37 rfl (nthMem (i:=1) rfl) rfl) ⟨jn,?_⟩
      refine tn 2 U (lE 2 ty4 U U U U U U ⟨jn,?_⟩)
      exact P3
    . refine lE 2 ty4 rfl rfl rfl rfl rfl rfl ⟨jn,?_⟩
      refine tn 0 U (em (wM (off:=0) (cl:=[I e]) ty37 U (nthMem (i:=1) U) U) ⟨jn,?_⟩)
      exact P3
 |false=>
  have e0:e=0:=by simpa using he
  refine wcF U U ?_
  refine rn ?_
  refine wld U U nthA U ?_
  refine rn ?_
  cases hf:decide (12<(q.free.length:Int))with
  |true=>
   have hM_:mT aP q e=([],false,2):=by unfold mT;rw[he,hf];rfl
   rw[hM_]
   refine wcT U U ?_
   refine rn ?_
   refine wst U U nthA U U U U ?_
   refine wst U U nthA U U U U ?_
   refine wst U U nthA U U U U ?_
   refine rn ?_
   exact wrH [zSN,.bool false,I 2] hF U rdR ⟨none,0,U,qH⟩
  |false=>
   have hfl:q.free.length<=12:=by have:=of_decide_eq_false hf;omega
   refine wcF U U ?_
   refine rn ?_
   refine wld U U nthA U ?_
   refine rn ?_
   cases hcl:q.closed with
   |true=>
    have hM_:mT aP q e=(bo 4 [aP],false,0):=by unfold mT;rw[he,hf,hcl];rfl
    rw[hM_]
    refine wcT U U ?_
    refine rn ?_
    refine aM (bW (cells:=[I aP]) fa ty3 zc3 U U kr (λb3=>dF 0 U hM (λh2 hle2 f3=>?_)))
    have hys:SlC vB h2 (zAD b3) 1 [aP]:=slL f3 lf (cE aP rfl rfl) (by simp) (by simp)
    refine aM (cW S3 (nn h2 4 [aP] _ _ hys (by simp)) U (λv h3 hle3 hp3=>?_))
    obtain⟨lb,lc,rfl,sll⟩:=hp3
    refine wst U U nthA U U U U ?_
    refine wst U U nthA U U U U ?_
    refine wst U U nthA U U U U ?_
    refine rn ?_
    exact wrH [.slice lb (bo 4 [aP]).length lc,.bool false,I 0] hF U rdR ⟨lb,lc,U,sll⟩
   |false=>
    refine wcF U U ?_
    refine rn ?_
    refine wld U U nthA U ?_
    refine aM (cW call64 (GO h1 q.free _ _ slf hfl) U (λv h2 hle2 hp2=>?_))
    obtain⟨_,rfl,hit⟩:=hp2
    refine rn ?_
    have hlen:∀w∈(iX q.free),w.length<=12:=λw hw=>kK (TB hw) hfl
    refine ij (dV (L':=[(b15,O [.bool false,.slice fb q.free.length fc,.slice nb q.needs.length nc,.slice ob q.over.length oc,dv] 115),(b14,O [I e] 37),(b13,O [.bool false] 4),(b12,O [zSN] 44),(b6,O (qD r tB) 30)]++markB []) ap ?_)
    refine nF (it:=_) (xs:=(iX q.free)) (ι:=Option (List Int×Option Addr×Nat×LH)×HF) [] (λi=>i.2) (λi=>match i.1 with|none=>[(b15,O [.bool false,.slice fb q.free.length fc,.slice nb q.needs.length nc,.slice ob q.over.length oc,dv] 115),(b14,O [I e] 37),(b13,O [.bool false] 4),(b12,O [zSN] 44),(b6,O (qD r tB) 30)]|some (w,lb,lc,G)=>[(b15,O [.bool false,.slice fb q.free.length fc,.slice nb q.needs.length nc,.slice ob q.over.length oc,dv] 115),(b14,O [I 0] 37),(b13,O [.bool true] 4),(b12,O [.slice lb (kI q w).length lc] 44),(b6,O (qD r tB) 30)]++G) (λs i=>i.1=none/\(iX q.free).find? q.decides=s.find? q.decides/\(∀w∈s,w.length<=12)/\h2.le i.2) (λi=>∃w lb lc G,i.1=some (w,lb,lc,G)/\(iX q.free).find? q.decides=some w/\cI eQ.rp 69 i.2 (kI q w) lb lc G/\h2.le i.2) (λ_=>False) 1 (λ_ _ _=>False) (none,h2) hF rfl hit rfl (λx h vs hv=>by obtain⟨_,_,rfl,_⟩:=hv;rfl) (λ_ _ _ _ _ hq=>hq) rfl rfl ⟨rfl,rfl,hlen,qF _⟩ ?_ ?_ ?_ ?_ ?_
    . rintro l1 dm1 lp1 y rz1 vs1 ⟨_,hh1⟩ hr1 X1 hFR1 ⟨hi0,hs1,hle_,hl1⟩ hl01 hlr1 hv1 hX1 hXM1 hlp1 nx1 rt1 ex1 pn1
      dsimp only at hi0 hs1 hle_ hl1
      subst hi0
      obtain⟨yb,yc,rfl,sly⟩:=hv1
      have hyl:=hle_ y (xB ..)
      have h1r:h1.le hr1:=kA hle2 (kA hl1 hlr1)
      refine dV (L':=[(l1,.loop lp1),(dm1,.deferred (some []))]++([(b15,O [.bool false,.slice fb q.free.length fc,.slice nb q.needs.length nc,.slice ob q.over.length oc,dv] 115),(b14,O [I e] 37),(b13,O [.bool false] 4),(b12,O [zSN] 44),(b6,O (qD r tB) 30)]++(markB []))) ap ?_
      refine rn ?_
      refine mU 0 U hlp1 ?_
      refine rn ?_
      refine wld U U nthA U ?_
      refine rn ?_
      refine aM (kj (v:=.bool (q.decides y)) [] (List.nil_sublist _) ((hdec e0).2 hr1 y yb yc h1r sly (by omega)) U U ?_)
      refine rn ?_
      cases hD:q.decides y with
      |false=>
        refine wcF U U ?_
        refine rn ?_
        exact nx1 (none,hr1) _ _ ⟨U,by rw[hs1,List.find?_cons,hD],λw hw=>hle_ w (qC _ hw),kA hl1 hlr1⟩ lf
      |true=>
        refine wcT U U ?_
        refine rn ?_
        refine fQ ([(b15,O [.bool false,.slice fb q.free.length fc,.slice nb q.needs.length nc,.slice ob q.over.length oc,dv] 115)]) mixed kr jn (λlA _=>?_)
        refine qA [0] U (qB [2] U (tf 3 U U (rj 0 ty31 U U U) ?_))
        refine qB [5] U (tf 6 U U (rj 0 ty31 U U U) ?_)
        refine tn 1 U (cW S3 (nn hr1 1 y _ _ sly (by omega)) U (λv g1 k1 p1=>?_))
        obtain⟨ab,ac,rfl,sa⟩:=p1
        refine⟨jl k1,tu k1 ?_⟩
        refine tn 4 U (cW S3 (nn g1 2 q.needs _ _ (slm sln (kA h1r k1)) (by omega)) U (λv g2 k2 p2=>?_))
        obtain⟨bb,bc,rfl,sb⟩:=p2
        refine⟨jl k2,tu k2 ?_⟩
        refine tn 7 U (cW S3 (nn g2 3 q.over _ _ (slm slo (kA (kA h1r k1) k2)) (by omega)) U (λv g3 k3 p3=>?_))
        obtain⟨cb,cc,rfl,sc⟩:=p3
        refine⟨jl k3,tu k3 ?_⟩
        refine tn 8 U (E1 (cells:=[.slice ab (bo 1 y).length ac,.slice bb (bo 2 q.needs).length bc,.slice cb (bo 3 q.over).length cc]) hXM1 underlying199 ty44 zc44 U U kr (λb3 hb3=>?_))
        refine⟨jn,?_⟩
        refine tn 9 U (Sb 0 U hb3 (λg4 k4 f4=>?_))
        have hcat:SlC (Zk eQ.rp) g4 (zAD b3) 3 [bo 1 y,bo 2 q.needs,bo 3 q.over]:=slL f4 lf
          (cCo (R:=Zk eQ.rp) (cs:=[.slice ab (bo 1 y).length ac]) (show(Zk eQ.rp).rep g4 _ _ from⟨_,_,rfl,slm sa (kA (kA k2 k3) k4)⟩) rfl
          (cCo (R:=Zk eQ.rp) (cs:=[.slice bb (bo 2 q.needs).length bc]) (show(Zk eQ.rp).rep g4 _ _ from⟨_,_,rfl,slm sb (kA k3 k4)⟩) rfl
          (cCo (R:=Zk eQ.rp) (cs:=[.slice cb (bo 3 q.over).length cc]) (show(Zk eQ.rp).rep g4 _ _ from⟨_,_,rfl,slm sc k4⟩) rfl cNi))) (by simp) (by simp)
        refine DQ call65 (Ai g4 _ _ 3 hcat (by simp) ?_) U (λb2 c2 G hG=>?_)
        . intro z hz
          simp only[kC,jA,or_false]at hz
          have hk1:=Fj 1 y;have hk2:=Fj 2 q.needs;have hk3:=Fj 3 q.over
          rcases hz with rfl|rfl|rfl<;>omega
        have hfl_:[bo 1 y,bo 2 q.needs,bo 3 q.over].flatten=kI q y:=by simp[kI]
        rw[hfl_]at hG ⊢
        refine⟨jl k4,tu k4 ?_⟩
        refine tn 10 U (lE 5 ty44 U U U U U U ⟨jn,?_⟩)
        refine tn 11 U (lE 4 ty4 U U U U U U ⟨jn,?_⟩)
        refine tn 12 U (lE 3 ty37 U U U U U U ⟨jn,dO kr ?_⟩)
        have kk:=kA (kA (kA k1 k2) k3) k4
        have hfd:(iX q.free).find? q.decides=some y:=by rw[hs1,List.find?_cons,hD]
        refine dV (L':=rdH l1 dm1 lp1 (([(b15,O [.bool false,.slice fb q.free.length fc,.slice nb q.needs.length nc,.slice ob q.over.length oc,dv] 115),(b14,O [I 0] 37),(b13,O [.bool true] 4),(b12,O [.slice b2 (kI q y).length c2] 44),(b6,O (qD r tB) 30)]++G)++markB [])) (by simp[markB];rfl) ?_
        exact rt1 (some (y,b2,c2,G),g4) _ _ _ ⟨y,b2,c2,G,U,hfd,hG,kA (kA hl1 hlr1) kk⟩ lf
    . rintro dm1 ⟨_,hh1⟩ hn1 ⟨hi0,hs1,hle_,hl1⟩ hln1 hl01
      dsimp only at hi0 hs1 hl1
      subst hi0
      have hM_:mT aP q e=([],false,0):=by unfold mT;rw[he,hf,hcl,hs1];rfl
      rw[hM_]
      refine dV (L':=[(b15,O [.bool false,.slice fb q.free.length fc,.slice nb q.needs.length nc,.slice ob q.over.length oc,dv] 115),(b14,O [I e] 37),(b13,O [.bool false] 4),(b12,O [zSN] 44),(b6,O (qD r tB) 30)]++markB (dm1::[])) ap ?_
      refine rn ?_
      refine wst U U nthA U U U U ?_
      refine wst U U nthA U U U U ?_
      refine wst U U nthA U U U U ?_
      refine rn ?_
      refine dV (L':=[(b15,O [.bool false,.slice fb q.free.length fc,.slice nb q.needs.length nc,.slice ob q.over.length oc,dv] 115),(b14,O [I 0] 37),(b13,O [.bool false] 4),(b12,O [zSN] 44),(b6,O (qD r tB) 30)]++markB (dm1::[])) U ?_
      exact rC (dm1::[]) [zSN,.bool false,I 0] hF U rdR ⟨none,0,U,qH⟩
    . rintro dm1 ⟨_,hh1⟩ hn1 ⟨w,lb,lc,G,hi0,hs1,hG,hl1⟩ hln1 hl01
      dsimp only at hi0 hs1 hG hl1
      subst hi0
      have hM_:mT aP q e=(kI q w,true,0):=by unfold mT;rw[he,hf,hcl,hs1];rfl
      rw[hM_]
      refine ib mnG [(b15,O [.bool false,.slice fb q.free.length fc,.slice nb q.needs.length nc,.slice ob q.over.length oc,dv] 115),(b14,O [I 0] 37),(b13,O [.bool true] 4),(b12,O [.slice lb (kI q w).length lc] 44),(b6,O (qD r tB) 30)] G (markB (dm1::[])) ap hM (grm hG hln1) (λh3 hle3 sl=>?_)
      refine dV (L':=[(b15,O [.bool false,.slice fb q.free.length fc,.slice nb q.needs.length nc,.slice ob q.over.length oc,dv] 115),(b14,O [I 0] 37),(b13,O [.bool true] 4),(b12,O [.slice lb (kI q w).length lc] 44),(b6,O (qD r tB) 30)]++markB (dm1::[])) ap ?_
      exact rC (dm1::[]) [.slice lb (kI q w).length lc,.bool true,I 0] hF U rdR ⟨lb,lc,U,sl⟩
    . exact xf
    . exact xf
theorem AK(h s qy pZ)(v:eQ)(hs:SlC eQ.rp h qy pZ s):Ret prog 159 [.slice qy s.length pZ,.agg (eQ.cells v).toArray] h (I (iN s v)):=by
 refine sT func159 U ntmps159 U λX hM hX hF=>?_
 have hs0:=@rfl _ (iN s v)
 refine sr (iA (λb1=>qL 9 [] U ?_))
 refine lp0 s (λi=>[(0,.slice qy s.length pZ),(3,Q b1),(7,I (s.length:Int)),(8,I (i:Int))]) ([(b1,O (eQ.cells v) 69)]) (λs1 i=>(iN.L1 v (iN.K1)) s1 i) hs.1.1 hs0 ?_ ?_
 .rintro i1 m4 hs1 e
  exact sr (an (nretP [I (-1)] (ci hs1)))
 rintro i1 y1 rz1 hd1 mN kl oD yD hs3 hx1 ag1 e
 refine sr (tO mN U (qO 12 U (fQ ([(b1,O (eQ.cells v) 69)]) mixed kr jn (λlA _=>tf 0 U U (λ_ _ hj=>oA ty69 U (hj.nth (i:=0) U) U) (qA [1,2] U (pk 3 (enc:=eQ.cells) lA jn ei Dt ty69 hs.1 (nthZ kl) (kz kl) U U U U kr (λq2 A2=>tf 4 U U (λ_ _ hj=>uL ty69 (A2.mono hj.1) U U) (tf 5 U U (λ_ _ _=>TV (O8 v y1) eqg69 U U) (dO kr (cQ hs3 U (λc2 hs4=>?_) (λc2 hs5=>?_)))))))))))
 .exact sr (qO 3 U (nretP [I (i1:Int)] (ci hs4)))
 exact iL (qT 2 U (oi i1 U (qO 2 U (ag1 hs5))))
instance kC159:Ct 159:=⟨_,call159,@AK⟩
theorem yi(h s qy pZ)(v:eQ)(hs:SlC eQ.rp h qy pZ s):Ret prog 75 [.slice qy s.length pZ,.agg (eQ.cells v).toArray] h (.bool (nh s v)):=by
 refine sVv func75 ntmps75 ?_
 generalize hz:(nh s v)=z
 exact W
theorem An(h gj v0 ye yd v0_q v1 v1_q)(hv0:SlC eQ.rp h ye yd v0)(av0:At h v0_q [.slice ye v0.length yd])(av1:At h v1_q [I v1]):Ret prog 74 [I gj,.pointer (some v0_q),.pointer (some v1_q)] h (.bool (fH gj v0 v1)):=by
 refine sT func74 U ntmps74 U λX hM hX hF=>?_
 have hs0:=@rfl _ (fH gj v0 v1)
 exact sr (qO 4 U (fV ty44 av0 U (fV ty3 av1 U (cN (aM (ja (cells:=[I v1,I gj]) (places:=[(0,1),(1,1)]) underlying69 zc69 kr kr (dP call75 (yi _ _ _ _ (eQ.mk v1 gj) hv0) U (an (nretP [.bool (nh v0 (eQ.mk v1 gj))] (cs hs0))))))))))
theorem CA(h gj)(v0:(Int->Bool))(v0_v v0_q)(hv0:∀(h':HF)(fh:Int),jL h h'->ra prog v0_v [I fh] h' [] (.bool (v0 fh)))(av0:At h v0_q [v0_v]):Ret prog 77 [I gj,.pointer (some v0_q)] h (.bool (pK gj v0)):=by
 refine sVv func77 ntmps77 ?_
 generalize hz:(pK gj v0)=z
 exact W
theorem IV{h:HF}:∀{cl:List Value}{xs:List Int},dC vB h cl xs->cl=xs.map (jC .i64)
 |_,[],hc=>hc
 |_,x::xs,⟨cs_z,rest,e,_,hr,hc⟩=>by
  have:cs_z=[I x]:=hr
  rw[e,this,IV hc];rfl
theorem JQ(h):∀xs:List Int,dC vB h (xs.map (jC .i64)) xs
 |[]=>rfl
 |x::xs=>⟨[I x],xs.map (jC .i64),rfl,rfl,rfl,JQ h xs⟩
theorem OW(f:Int->Bool):∀(l:List Int)(i:Nat),(cK.L1 f cK.K1 l i=-1/\∀x∈l,f x=false) \/
  ∃a y b,l=a++y::b/\cK.L1 f cK.K1 l i=((i+a.length:Nat):Int)/\f y=true/\∀x∈a,f x=false
 |[],i=>.inl ⟨rfl,λ_ h=>(jA h).elim⟩
 |y::l,i=>by
  simp only[cK.L1]
  cases hy:f y with
  |true=>exact .inr ⟨[],y,l,rfl,by simp,hy,λ_ h=>(jA h).elim⟩
  |false=>
   rcases OW f l (i+1)with⟨h1,h2⟩|⟨a,z,b,rfl,h2,h3,h4⟩
   .exact .inl ⟨h1,λx hx=>by rcases kC.1 hx with rfl|hx;exact hy;exact h2 x hx⟩
   refine .inr ⟨y::a,z,b,rfl,?_,h3,λx hx=>by rcases kC.1 hx with rfl|hx;exact hy;exact h4 x hx⟩
   rw[cond_false,h2];simp only[xA];congr 1;omega
theorem Gh{l:List Int}(h:∀x∈l,q x=false):(l.filter λx=>!(q x))=l:=by
 rw[List.filter_eq_self];intro x hx;simp[h x hx]
theorem UQ{s zs:List Int}{i j:Nat}{y:Int}(hij:i<j)(hz:zs.length=s.length)(hj:s[j]? = some y)(ht:zs.take i=(s.take j).filter λx=>!(q x))(hd:zs.drop j=s.drop j)(hy:q y=false):
  (zs.set i y).take (i+1)=((s.take (j+1)).filter λx=>!(q x))/\(zs.set i y).drop (j+1)=s.drop (j+1):=by
 have hjl:j<s.length:=by
  rcases zK j s.length with h|h
  .exact h
  simp[List.getElem?_eq_none h]at hj
 constructor
 .rw[List.take_add_one,List.take_set_of_le (xE _),ht,List.take_add_one,hj,List.filter_append]
  simp[hy,show i<zs.length from by omega]
 rw[List.drop_set_of_lt ob,←List.drop_drop,hd,List.drop_drop]
theorem UP{s zs:List Int}{i j:Nat}{y:Int}(hj:s[j]? = some y)(ht:zs.take i=(s.take j).filter λx=>!(q x))(hd:zs.drop j=s.drop j)(hy:q y=true):
  zs.take i=((s.take (j+1)).filter λx=>!(q x))/\zs.drop (j+1)=s.drop (j+1):=by
 constructor
 .rw[List.take_add_one,hj,List.filter_append,ht];simp[hy]
 rw[←List.drop_drop,hd,List.drop_drop]
theorem H4{w:World}{bk i n cc:Nat}{cl:List Value}(hb:w.heap[bk]? = some (.cells cl.toArray 3 (0,0)))(dN:i+(n+1)<=cl.length)(ty:TypeId):
  (Builtin.clear_ #[31] ty #[.slice (some ⟨bk,i,none⟩) (n+1) cc]).run prog w=.ok (.tuple #[]) { w with heap:=w.heap.setIfInBounds bk (.cells (splice cl i (List.replicate (n+1) (I 0))).toArray 3 (0,0)) }:=by
 have hz:(zeroValue 3).run prog w=.ok (I 0) w:=fG kr w
 have h9:=km (P:=prog) i (List.replicate (n+1) (I 0)) 0 cl w hb (by simpa using dN) (λv hv=>by rw[(List.mem_replicate.1 hv).2];rfl)
 rw[Nat.add_zero]at h9
 have hzc:(Builtin.zeroCells (jC .i64 0).cells (n+1)).toList=List.replicate (n+1) (jC .i64 0):=by
  simp[Builtin.zeroCells,Value.cells]
  rw[List.eq_replicate_iff]
  refine⟨by simp,λx hx=>?_⟩
  obtain⟨j,_,rfl⟩:=xJ.1 hx
  simp[Nat.mod_one]
 simp only[Builtin.clear_,Sem.run_bind]
 simp[run_underlying fa,hz,hzc,h9]
theorem xj(h)(s:List Int)(b c G)(del:Int->Bool)(del_v)(hG:cI vB 3 h s b c G)(hdel:∀(h':HF)(fh:Int),jL h h'->ra prog del_v [I fh] h' [] (.bool (del fh)))(hsz:s.length<=2000000):
  oX prog 78 [.slice b s.length c,del_v].toArray h G (λr h' G'=>h'=h/\r=.returned (.slice b (gg s del).length c)/\cI vB 3 h (gg s del) b c G'):=by
 refine dL func78 U ntmps78 U λX hM hX=>qT 8 U (aM (DN [] G [] call160 kM hG (by simp) (λh1 dN hsl=>re h1 s b c del del_v hsl (λh' a hl=>hdel h' a (dN.t hl))) U (qO 6 U ?_)))
 have hcase:=OW del s 0
 rw[show cK.L1 del cK.K1 s 0=cK s del from rfl]at hcase
 rcases hcase with⟨h1,h2⟩|⟨a,y,r,hs,h1,hy,ha⟩
 .rw[h1]
  refine gE (v':=.bool true) U U (qO 7 U ?_)
  have hf:gg s del=s:=Gh h2
  refine mp func78 (λa ha w hw=>res1 U a ha w) (λw hw=>hw.lower) ⟨hX,?_,?_⟩
  .rw[hf];rfl
  rw[hf];exact hG
 rw[h1,Nat.zero_add]
 have hne:((a.length:Int)==-1)=false:=by simp
 have hsl:s.length=a.length+(r.length+1):=by rw[hs];simp
 refine fO hne U (qO 7 U (gE (v':=I ((a.length+1:Nat):Int)) U (mO ob) (an ?_)))
 refine fZ (ι:=Nat×List Int×LH) (λi=>[(0,.slice b s.length c),(1,del_v),(5,I (i.1:Int))]) (λi=>h) (λi=>i.2.2)
  (λi=>i.1<s.length/\i.2.1.length=s.length/\i.2.1.take i.1=gg s del/\cI vB 3 h i.2.1 b c i.2.2) ?_ (λhx=>?_)
 .rintro⟨i,zs,G'⟩ ⟨hi,hz,hf,hG'⟩ e
  dsimp only at hi hz hf hG'
  rcases hG' with⟨rfl,_⟩|⟨bk,cl,sp,rfl,hcl,h3,h4,h5,rfl⟩
  .simp at hz;omega
  have hcl':=IV hcl
  subst hcl'
  have hcz:zs.length<=c:=h4
  have h3':zs.length+sp.length=c:=by simpa[vB]using h3
  have hz2:0<=(i:Int)/\(i:Int)<=(s.length:Int):=by omega
  have hzn:(i:Int).toNat=i:=by omega
  have hgf:cI vB 3 h zs (zAD bk) c [(bk,.cells (zs.map (jC .i64)++sp).toArray 3 (0,0))]:=.inr ⟨bk,_,sp,rfl,hcl,h3,h4,h5,rfl⟩
  obtain⟨m,hm⟩:∃m,s.length-i=m+1:=⟨s.length-i-1,by omega⟩
  refine qT 4 U (aM (em (v:=.slice (some ⟨bk,i,none⟩) (m+1) (c-i)) (Sl fa ty3 U U ob ob hm) ?_))
  refine aM (gZ U λw hw=>⟨.tuple #[],_,h,_,?_,hw.write (i:=0) U (.cells (splice (zs.map (jC .i64)++sp) i (List.replicate (m+1) (I 0))).toArray 3 (0,0)),?_⟩)
  .have:=H4 (w:=w) (i:=i) (n:=m) (cc:=c-i) (hw.own _ (xC.2 rfl)) (by simp;omega)
   simp only[execOp,resolve,invoke,builtin]
   simp[Env.ev,upd,upds,pute,this]
  have hsp:∃sp',splice (zs.map (jC .i64)++sp) i (List.replicate (m+1) (I 0))=(zs.take i).map (jC .i64)++sp':=by
   have e1:zs.map (jC .i64)++sp=(zs.take i).map (jC .i64)++((zs.drop i).map (jC .i64)++sp):=by
    rw[←List.append_assoc,←List.map_append,List.take_append_drop]
   rw[e1]
   have e2:i=((zs.take i).map (jC .i64)).length:=by simp;omega
   have:=oK (List.replicate (m+1) (I 0)) ((zs.take i).map (jC .i64)) ((zs.drop i).map (jC .i64)++sp) (by simp;omega)
   rw[←e2]at this
   exact⟨_,this⟩
  obtain⟨sp',hsp⟩:=hsp
  have hlen:((zs.take i).map (jC .i64)++sp').length=c*Rp.int.sz:=by
   rw[←hsp,oP];exact h3
  rw[hsp]
  have hg2:cI vB 3 h (zs.take i) (zAD bk) c [(bk,.cells ((zs.take i).map (jC .i64)++sp').toArray 3 (0,0))]:=
   .inr ⟨bk,_,sp',rfl,JQ h _,hlen,by rw[List.length_take];omega,by rw[List.length_take];omega,rfl⟩
  refine qO 5 U (aM (HW (z:=(i:Int)) fa ty3 hgf ob (by show _=Value.slice _ _ _;rw[hz];rfl) U U (an ?_)))
  refine mp func78 (λa ha w hw=>res1 U a ha w) (λw hw=>hw.lower) ⟨hX,?_,?_⟩
  .rw[←hf,hzn];rfl
  rw[←hf];exact hg2
 refine i9 (ι:=Nat×Nat×List Int×LH) (λi=>[(0,.slice b s.length c),(1,del_v),(5,I (i.1:Int)),(6,I (i.2.1:Int))]) (λi=>h) (λi=>i.2.2.2)
  (λi=>i.1<i.2.1/\i.2.1<=s.length/\i.2.2.1.length=s.length/\i.2.2.1.take i.1=((s.take i.2.1).filter λx=>!(del x))/\i.2.2.1.drop i.2.1=s.drop i.2.1/\cI vB 3 h i.2.2.1 b c i.2.2.2)
  (λi=>s.length-i.2.1) (a.length,a.length+1,s,G) rd (λw hw=>hw) ⟨Nat.lt_succ_self _,by show a.length+1<=s.length;omega,rfl,?_,rfl,hG⟩ ?_
 .show s.take a.length=((s.take (a.length+1)).filter λx=>!(del x))
  rw[hs,List.take_left' rfl,List.take_add_one,List.take_left' rfl,List.filter_append,Gh ha];simp[hy]
 rintro⟨i,j,zs,G'⟩ ⟨hij,hjl,hz,ht,hd,hG'⟩ ag e
 dsimp only at hij hjl hz ht hd hG'
 rcases zK j s.length with hj|hj
 .have hjs:s[j]? = some s[j]:=List.getElem?_eq_getElem hj
  have hjz:zs[j]? = some s[j]:=by
   have e1:(zs.drop j)[0]? = (s.drop j)[0]?:=by rw[hd]
   simpa[hjs]using e1
  obtain⟨bk,hbk⟩:=hG'.yJ ob
  have hiz:zs[i]? = some zs[i]:=List.getElem?_eq_getElem ob
  refine qK 6 [] U (tO (decide_eq_true ob) U (qO 9 U (aM (em (oa (R:=vB) (xs:=zs) (z:=(j:Int)) fa ty3 hbk ob U hz.symm U) (aM (em (FW (R:=vB) (off:=0) (i:=j) ty3 hG' hbk hjz (λcs_z hcs=>by rw[show cs_z=[I s[j]]from hcs];rfl) (by rfl) (λp hp=>hp)) (qO 6 U (aM (kj (v:=.bool (del s[j])) [] (List.nil_sublist _) (hdel h s[j] lf) U U ?_)))))))))
  cases hy:del s[j]with
  |true=>
   obtain⟨k1,k2⟩:=UP hjs ht hd hy
   exact qf U (qO 6 U (oi j U (an (ag (i,j+1,zs,G') _ (by show s.length-(j+1)<s.length-j;omega) ⟨by show i<j+1;omega,hj,hz,k1,k2,hG'⟩ rd))))
  |false=>
   obtain⟨k1,k2⟩:=UQ hij hz hjs ht hd hy
   refine qO 8 U (aM (em (oa (R:=vB) (xs:=zs) (z:=(i:Int)) fa ty3 hbk ob U hz.symm U) (aM (vv (R:=vB) (i:=i) (off:=0) (u:=zs[i]) (u':=s[j]) (v:=I s[j]) [] G' [] ty3 U hG' (by simp) hbk hiz (by decide) (λcs_z hcs=>by rw[show cs_z=[I zs[i]]from hcs];rfl) (by rfl) U U (λG2 hG2=>?_)))))
   rw[List.nil_append,List.append_nil]
   exact bM (qT 2 U (oi i U (qO 5 U (oi j U (an (ag (i+1,j+1,zs.set i s[j],G2) _ (by show s.length-(j+1)<s.length-j;omega) ⟨by show i+1<j+1;omega,hj,by show(zs.set i s[j]).length=s.length;simpa using hz,k1,k2,hG2⟩ rd))))))
 have hje:j=s.length:=by omega
 subst hje
 exact qK 6 [] U (fO (decide_eq_false ob) U (qO 3 U (hx (i,zs,G') _ ⟨hij,hz,by show zs.take i=_;rw[ht,List.take_length];rfl,hG'⟩ rd)))
theorem Cz(h p)(v0:(Int->Bool))(v0_v v0_q)(hv0:∀(h':HF)(fh:Int),jL h h'->ra prog v0_v [I fh] h' [] (.bool (v0 fh)))(av0:At h v0_q [v0_v]):Ret prog 80 [I p,.pointer (some v0_q)] h (.bool (kO p v0)):=by
 refine sVv func80 ntmps80 ?_
 generalize hz:(kO p v0)=z
 exact W
theorem ut(h kind l fm fj l_q)(hl:SlC eQ.rp h fm fj l)(al:At h l_q [.slice fm l.length fj]):jv prog 73 [I kind,.pointer (some l_q)] h (λv h'=>FnI h' v (λn=>fH n l kind)):=by
 refine sT func73 U ntmps73 U λX hM hX hF=>?_
 refine wto U (iA (λb2=>?_))
 refine rn ?_
 refine wmz 1 U U nthA hM (λh1 hle1 a2=>?_)
 refine aM (wmf ?_)
 refine rn ?_
 refine wrH [.func (.func 74) #[] #[.pointer (some l_q),Q b2]] hF U rdR ?_
 exact⟨⟨_,_,_,U⟩,λh' n hle'=>jd call74 (An h' n l fm fj l_q kind ⟨b2,0,none⟩ (slm hl (kA hle1 hle')) (al.mono (kA hle1 hle')) (a2.mono hle'))⟩
theorem Qt(s:List Int)(f:Int->Bool):(gg s f).length<=s.length:=List.length_filter_le _ _
theorem U0{r:Register}{aP at_ ah:Int}(hok:(aZ r signed u aP at_ ah).2=0->wE r aP at_ ah):(im r signed u aP at_ ah).1.free.length<=1000000:=by
  unfold im
  cases hj:((aZ r signed u aP at_ ah).2 != 0)with
  |true=>simp
  |false=>
    have ok:=hok (by simpa using hj)
    have h1:=ok.flen
    simp only[cond_false,iT,BM]
    exact h1
theorem rQ(h r tB signed qy pZ u qm ql)(aP at_ ah:Int)(l fm fj)(hr:vL h r tB)(hsi:SlC vB h qy pZ signed)(hu:SlC Zz h qm ql u)(hl:SlC eQ.rp h fm fj l)(hsm:smR r)(hln:r.bV.length<20)(hk:dM h)(hok:(aZ r signed u aP at_ ah).2=0->wE r aP at_ ah):
   Ret prog 19 [.agg (qD r tB).toArray,.slice qy signed.length pZ,.slice qm u.length ql,I aP,I at_,I ah,.slice fm l.length fj] h (.tuple #[.bool (ma r signed u aP at_ ah l).1,I (ma r signed u aP at_ ah l).2]):=by
 refine sT func19 U ntmps19 U λX hM hX hF=>?_
 have hfl:=U0 hok
 have hcall:=Bd h r tB signed qy pZ u qm ql aP at_ ah hr hsi hu hsm hln hk hok
 unfold ma
 generalize im r signed u aP at_ ah=qe at *
 obtain⟨q,e⟩:=qe
 dsimp only at hfl hcall ⊢
 refine wto U (iA (λb7=>iA (λb13=>?_)))
 refine rn ?_
 refine eS 1 ty30 U U U ?_
 refine rn ?_
 refine aM (cW call62 hcall U (λv h1 hle1 hp1=>?_))
 obtain⟨fb,fc,nb,nc,ob,oc,dv,rfl,h1dv,slf,sln,slo,hdec⟩:=hp1
 refine rn ?_
 refine aM (wal U (λb16=>?_))
 refine wsW U U U nthA U U (by simp only[List.all_cons,List.all_nil,h1dv];rfl) ?_
 refine rn ?_
 cases he:(e != 0)with
 |true=>
  have hE_:nM q e l=(false,e):=by unfold nM;rw[he];rfl
  rw[hE_]
  refine wgo U (wgo U (wgo U ?_))
  refine rn ?_
  refine wcT U U ?_
  refine rn ?_
  exact wrP [.bool false,I e] hF U rdR hX U
 |false=>
  have e0:e=0:=by simpa using he
  subst e0
  refine wgo U ?_
  refine wld U U nthA U ?_
  refine wgo U ?_
  refine rn ?_
  cases hcl:q.closed with
  |true=>
   have hE_:nM q 0 l=(false,0):=by unfold nM;rw[hcl];rfl
   rw[hE_]
   refine wcT U U ?_
   refine rn ?_
   exact wrP [.bool false,I 0] hF U rdR hX U
  |false=>
   refine wcF U U ?_
   refine rn ?_
   refine wmz 0 U U nthA hM (λh2 hle2 a13=>?_)
   refine aM (wmf ?_)
   refine rn ?_
   refine aM (s7 (λbm=>?_))
   refine rn ?_
   refine wld U U nthA U ?_
   refine aM (vw 0 (k:=2) (x:=q.needs) Hw (ga nz) U (ki.nil (enc:=(jC .i64)) (V:=VSl vB) (h:=h2)) U U ⟨nb,nc,U,slm sln hle2⟩ (λmo1 hm1=>?_))
   refine rn ?_
   refine wld U U nthA U ?_
   refine aM (vw 0 (k:=3) (x:=q.over) Hw (ga nz) U hm1 U U ⟨ob,oc,U,slm slo hle2⟩ (λmo2 hm2=>?_))
   have hmem0:∀p:Int×List Int,p∈mput (mput ([]:List (Int×List Int)) 2 q.needs) 3 q.over↔p=(2,q.needs)\/p=(3,q.over):=λp=>by simp[mput]
   obtain⟨m0,hpm,hnd0,es,clock,rfl,hEr,hP,hcl_⟩:=hm2
   refine dF 0 U hM (λh3 hle3 hbm=>?_)
   have hm0:∀(i:Nat)(p:Int×List Int),m0[i]? = some p->p=(2,q.needs)\/p=(3,q.over):=λi p hi=>(hmem0 p).1 (hpm.mem_iff.1 (xD hi))
   have hnod:(es.map (·.born)).Nodup:=hP.imp (λh=>Nat.ne_of_lt h)
   have hlen:es.length=m0.length:=by
     clear hbm hP hcl_ hnod hpm hnd0 hm0
     induction es generalizing m0 with
     |nil=>cases m0 with
       |nil=>rfl
       |cons _ _=>exact hEr.elim
     |cons a es ih=>cases m0 with
       |nil=>exact hEr.elim
       |cons b m0=>simpa using ih m0 hEr.2.2
   have hgd:ly l 2 q.needs=false->ly l 3 q.over=false->nM q 0 l=(q.decides (gg q.free (λp=>kO p (λn=>fH n l 1))),0):=λa b=>by unfold nM;rw[hcl,a,b];rfl
   have hbd:∀p:Int×List Int,(p=(2,q.needs)\/p=(3,q.over))->ly l p.1 p.2=true->nM q 0 l=(false,0):=by
     rintro p (rfl|rfl) hb
     . unfold nM;rw[hcl,show ly l 2 q.needs=true from hb];rfl
     . unfold nM;rw[hcl,show ly l 3 q.over=true from hb];cases ly l 2 q.needs<;>rfl
   refine rn ?_
   refine aM (Mq Hw hbm U (λit=>?_))
   refine rn ?_
   let bf:Nat->Nat:=λi=>(es[i]?.map (·.born)).getD 0
   have hle13:h1.le h3:=kA hle2 hle3
   have hle03:h.le h3:=kA hle1 hle13
   have aq3:=a13.mono hle3
   have hq16:(b16,O [.bool q.closed,.slice fb q.free.length fc,.slice nb q.needs.length nc,.slice ob q.over.length oc,dv] 115)=(b16,O [.bool false,.slice fb q.free.length fc,.slice nb q.needs.length nc,.slice ob q.over.length oc,dv] 115):=by rw[hcl]
   refine fZ (ι:=List Nat×HF) (λi=>[(16,Q b16),(17,.func (.func 73) #[] #[Q b13])]) (λi=>i.2) (λi=>[(it,Obj.mapIter (some bm) clock (kB (i.1.map bf)) clock),(b16,O [.bool false,.slice fb q.free.length fc,.slice nb q.needs.length nc,.slice ob q.over.length oc,dv] 115),(b7,O (qD r tB) 30)]) (λi=>(∀j,j<es.length->∀p,m0[j]? = some p->ly l p.1 p.2=false)/\h3.le i.2) ?_ (λhx=>?_)
   . rintro⟨js,hh⟩ ⟨hall,lhh⟩ e
     dsimp only at hall lhh
     have hget:∀p,(p=(2,q.needs)\/p=(3,q.over))->ly l p.1 p.2=false:=λp hp=>by
       obtain⟨j,hj⟩:=List.getElem?_of_mem (hpm.mem_iff.2 ((hmem0 p).2 hp))
       exact hall j (by rw[hlen];exact(List.getElem?_eq_some_iff.1 hj).1) p hj
     rw[hgd (hget _ (.inl rfl)) (hget _ (.inr rfl))]
     refine rn ?_
     have l2h:=kA hle3 lhh
     have l0h:=kA hle03 lhh
     refine aM (HY (nI (args:=[I 1]) (cap:=[Q b13]) call73 (ut hh 1 l fm fj ⟨b13,0,none⟩ (slm hl l0h) (a13.mono l2h))) U U (λv h4 hle4 hfn=>?_))
     obtain⟨⟨f0,fi0,ca0,rfl⟩,hfn⟩:=hfn
     refine cD (show zeroC prog 130=some [.nilFunc] by kernel_rfl) (λb21=>?_)
     refine dD 0 (show tySz prog 130=some (1,false) by kernel_rfl) U U U U U U ?_
     refine dF 0 U hM (λh5 hle5 f5=>?_)
     have a21:At h5 ⟨b21,0,none⟩ [.func f0 fi0 ca0]:=fJ f5
     have l15:=kA (kA (kA hle13 lhh) hle4) hle5
     refine rn ?_
     refine fQ ([(b16,O [.bool false,.slice fb q.free.length fc,.slice nb q.needs.length nc,.slice ob q.over.length oc,dv] 115)]) mixed kr jn (λlA _=>?_)
     refine qB [0] U (tf 1 U U (rj 0 ty93 U U U) ?_)
     refine qB [2] U (tf 3 U U (rj 0 ty31 U U U) ?_)
     refine tf 5 U U (v:=.func (.func 80) #[] #[Q b21]) (λ_ _ _ w hw=>by simp[execOp,Instr.makeFunc];rfl) ?_
     refine tn 4 U (DQ call79 (Cq h5 q.free fb fc (slm slf l15) (by omega)) U (λb2 c2 G hG=>?_))
     refine⟨jn,?_⟩
     refine tn 6 U (ni (v:=.slice b2 (gg q.free (λp=>kO p (λn=>fH n l 1))).length c2) [(it,Obj.mapIter (some bm) clock (kB (js.map bf)) clock),(b16,O [.bool false,.slice fb q.free.length fc,.slice nb q.needs.length nc,.slice ob q.over.length oc,dv] 115),(b7,O (qD r tB) 30)] G [] call78 (xj h5 q.free b2 c2 G (λp=>kO p (λn=>fH n l 1)) (.func (.func 80) #[] #[Q b21]) hG (λh' a hle'=>jd call80 (Cz h' a (λn=>fH n l 1) (.func f0 fi0 ca0) ⟨b21,0,none⟩ (λh'' a' hle''=>hfn h'' a' (kA (kA hle5 hle') hle'')) (a21.mono hle'))) (by omega)) (by rw[List.append_nil];rfl) U (λG2 hG2=>?_))
     refine⟨jn,?_⟩
     refine tn 7 U (BS kM [(it,Obj.mapIter (some bm) clock (kB (js.map bf)) clock),(b16,O [.bool false,.slice fb q.free.length fc,.slice nb q.needs.length nc,.slice ob q.over.length oc,dv] 115),(b7,O (qD r tB) 30)] G2 [] U hM hG2 (λh6 hle6 sl2=>?_))
     refine kj (v:=.bool (q.decides (gg q.free (λp=>kO p (λn=>fH n l 1))))) [] (List.nil_sublist _) ((hdec U).2 h6 _ b2 c2 (kA l15 hle6) sl2 (kK (Qt _ _) hfl)) U U ?_
     refine⟨jl hle6,tu hle6 (qA [8,9] U (dO kr ?_))⟩
     exact wrP [.bool (q.decides (gg q.free (λp=>kO p (λn=>fH n l 1)))),I 0] hF U rdR hX U
   refine i9 (ι:=List Nat×HF) (λi=>[(16,Q b16),(17,.func (.func 73) #[] #[Q b13]),(46,Q it)]) (λi=>i.2) (λi=>[(it,Obj.mapIter (some bm) clock (kB (i.1.map bf)) clock),(b16,O [.bool false,.slice fb q.free.length fc,.slice nb q.needs.length nc,.slice ob q.over.length oc,dv] 115),(b7,O (qD r tB) 30)]) (λi=>i.1.Nodup/\(∀j∈i.1,j<es.length)/\(∀j∈i.1,∀p,m0[j]? = some p->ly l p.1 p.2=false)/\h3.le i.2) (λi=>es.length-i.1.length) ([],h3) ⟨U,U,U,trivial⟩ sws ⟨List.nodup_nil,λ_ h=>absurd h (jA),λ_ h=>absurd h (jA),qF _⟩ ?_
   rintro⟨js,hh⟩ ⟨hn,hlt,hok_,lhh⟩ ag e
   dsimp only at hn hlt hok_ lhh
   have hlp:=Bg hnod js hlt
   refine rn ?_
   refine aM (PM 0 U (lhh _ _ hbm) (λx hx=>hcl_ x (by simpa using hx)) (xE _) U (λh0=>?_) (λen hen=>?_))
   . refine rn ?_
     refine wcF U U ?_
     exact jZ U (hx (js,hh) _ ⟨λj hj p hp=>hok_ j (hlp.1 h0 j hj) p hp,lhh⟩ ⟨U,U,trivial⟩)
   . obtain⟨i,hi,hni⟩:=hlp.2 en hen
     obtain⟨p,hp,hkey,hval⟩:=O9 hEr hi
     have hil:i<es.length:=(List.getElem?_eq_some_iff.1 hi).1
     have hmem:en∈es.toArray.toList:=by simpa using xD hi
     have hn':(js++[i]).Nodup:=by
       rw[List.nodup_append];exact⟨hn,by simp,λa ha b hb' e'=>by simp at hb';subst hb';subst e';exact hni ha⟩
     have hl':∀j∈js++[i],j<es.length:=λj hj=>by
       rcases kF.1 hj with h3|h3
       . exact hlt j h3
       . simp at h3;subst h3;exact hil
     have Ar:js.length+1<=es.length:=by
       obtain⟨rest,hrest⟩:=AX (m0.map (·.1)) (js++[i]) hn' (λj hj=>by rw[List.length_map,←hlen];exact hl' j hj)
       have h9:=hrest.length_eq
       simp only[vA,List.length_map,xA,jB]at h9
       omega
     have hpp:=hm0 i p hp
     obtain⟨kb,kc,hv_,hsl⟩:=hval
     obtain⟨ekey,evl,eborn⟩:=en
     dsimp only at hkey hv_
     subst hkey hv_
     refine rn ?_
     refine wcT U U ?_
     refine rn ?_
     refine aM (em (ME 0 U (lhh _ _ hbm) hmem (by simpa using hnod) U) ?_)
     refine rn ?_
     have l2h:=kA hle3 lhh
     have l0h:=kA hle03 lhh
     refine aM (HY (nI (args:=[I p.1]) (cap:=[Q b13]) call73 (ut hh p.1 l fm fj ⟨b13,0,none⟩ (slm hl l0h) (a13.mono l2h))) U U (λv h4 hle4 hfn=>?_))
     obtain⟨⟨f0,fi0,ca0,rfl⟩,hfn⟩:=hfn
     refine cD (show zeroC prog 130=some [.nilFunc] by kernel_rfl) (λb20=>?_)
     refine dD 0 (show tySz prog 130=some (1,false) by kernel_rfl) U U U U U U ?_
     refine rn ?_
     refine wmz 0 U U nthA hM (λh5 hle5 a20=>?_)
     refine aM (wmf ?_)
     have l25:=kA (kA l2h hle4) hle5
     refine dP call76 (pm h5 p.2 kb kc (λn=>pK n (λn=>fH n l p.1)) (.func (.func 77) #[] #[Q b20]) (slm hsl l25) (λh' a hle'=>jd call77 (CA h' a (λn=>fH n l p.1) (.func f0 fi0 ca0) ⟨b20,0,none⟩ (λh'' a' hle''=>hfn h'' a' (kA (kA hle5 hle') hle'')) (a20.mono hle')))) U ?_
     refine rn ?_
     cases hb:ly l p.1 p.2 with
     |true=>
       rw[hbd p hpp hb]
       refine wcT U hb ?_
       refine rn ?_
       exact wrP [.bool false,I 0] hF U rdR hX U
     |false=>
       refine wcF U hb ?_
       refine rn ?_
       have hpush:((kB (js.map bf)).push eborn)=kB ((js++[i]).map bf):=by simp[bf,hi]
       refine dV (L':=[(it,Obj.mapIter (some bm) clock (kB ((js++[i]).map bf)) clock),(b16,O [.bool false,.slice fb q.free.length fc,.slice nb q.needs.length nc,.slice ob q.over.length oc,dv] 115),(b7,O (qD r tB) 30)]) (by rw[←hpush];rfl) ?_
       exact ag (js++[i],h5) _ (by show es.length-(js++[i]).length<es.length-js.length;rw[vA];simp only[xA,jB];omega) ⟨hn',hl',λj hj p' hp'=>by
         rcases kF.1 hj with h3|h3
         . exact hok_ j h3 p' hp'
         . simp at h3;subst h3;rw[hp]at hp';cases hp';exact hb,kA (kA lhh hle4) hle5⟩ ⟨rfl,rfl,rfl,trivial⟩
theorem mu(h kind Ff)  : Ret prog 59 [I kind,I Ff] h (.agg (eQ.cells (Ea kind Ff)).toArray):=by
 refine sVv func59 ntmps59 ?_
 generalize hz:(Ea kind Ff)=z
 exact W
theorem kg(h j9 oZ oY)(hwho:SlC vB h oZ oY j9)(hsz0:j9.length<=2000000):jv prog 60 [.slice oZ j9.length oY] h (λv h'=>∃(rr0:lu),v=.agg (qD (cA j9) rr0).toArray/\vL h' (cA j9) rr0):=by
 refine dL func60 U ntmps60 U λX hM hX=>?_
 have hs0:=@rfl _ (cA j9)
 refine sr (cD zc30 (λb1=>qO 3 U (aM (ja (cells:=[I 2,I 2,I 0,.string lsz2,zSN]) (places:=[(0,1),(1,1),(2,1),(3,1),(4,1)]) underlying59 zc59 kr kr (cD zc59 (λb2=>ct 0 ty59 U U U U U U (qO 3 U (aM (bW (cells:=[.string lsz2]) QT ty9 zc9 U U kr (λb3=>aM (bW (cells:=[.string lsz1]) QT ty9 zc9 U U kr (λb4=>eS 2 ty59 U U U (aM (ja (cells:=[.string lsz1,I 0,I 0,I 2,I 2,I 0,.string lsz2,zSN]) (places:=[(0,1),(1,1),(2,1),(3,5)]) underlying65 zc65 kr kr (aM (bW (cells:=[.string lsz1,I 0,I 0,I 2,I 2,I 0,.string lsz2,zSN]) Hu ty65 zc65 U U kr (λb5=>eS 3 ty59 U U U (aM (ja (cells:=[.string lsz0,.slice (zAD b4) 1 1,.slice (zAD b3) 1 1,.slice (zAD b5) 1 1,I 2,I 2,I 0,.string lsz2,zSN,I 2]) (places:=[(0,1),(1,1),(2,1),(3,1),(4,5),(9,1)]) QU zc61 kr kr (dF 1 U hM (λh1 hle1 hb1=>?_)))))))))))))))))))))
 have sl1:SlC YL h1 (zAD b4) 1 ([lsz1]):=dC.slB0 (T:=9) (fz:=(0,0)) ((show dC YL h [.string lsz1] ([lsz1])from⟨[.string lsz1],[],rfl,rfl,rfl,rfl⟩).mono ZF hle1) hb1
 refine dF 1 U hM (λh2 hle2 hb2=>?_)
 have sl2:SlC YL h2 (zAD b3) 1 ([lsz2]):=dC.slB0 (T:=9) (fz:=(0,0)) ((show dC YL h1 [.string lsz2] ([lsz2])from⟨[.string lsz2],[],rfl,rfl,rfl,rfl⟩).mono ZF hle2) hb2
 refine dF 0 U hM (λh3 hle3 hb3=>?_)
 have sl3:SlC fg.rp h3 (zAD b5) 1 ([(fg.mk lsz1 0 0 lszx)]):=dC.slB0 (T:=65) (fz:=(0,0)) ((show dC fg.rp h2 [.string lsz1,I 0,I 0,I 2,I 2,I 0,.string lsz2,zSN] ([(fg.mk lsz1 0 0 lszx)])from⟨[.string lsz1,I 0,I 0,I 2,I 2,I 0,.string lsz2,zSN],[],rfl,rfl,⟨(yN.mk (dJ.mk none 0)),rfl,((show fg.ok h (fg.mk lsz1 0 0 lszx) (yN.mk (dJ.mk none 0))from⟨(show ao.ok h lszx (dJ.mk none 0)from ao.ok.of qH)⟩).mono (hle1.t hle2))⟩,rfl⟩).mono fg.aK hle3) hb3
 refine aM (cW call142 (yn _ _ _ (show ay.ok h3 lszp (ir.mk (zAD b4) 1 (zAD b3) 1 (zAD b5) 1 (dJ.mk none 0))from⟨(sl1.mono ZF (hle2.t hle3)),(sl2.mono ZF hle3),sl3,(show ao.ok h3 lszx (dJ.mk none 0)from ao.ok.of qH)⟩) XL) U (λv1 h4 hle4 hp1=>?_))
 obtain⟨rr1,rfl,ok1⟩:=hp1
 refine qO 3 U (cD zc61 (λb6=>ct 0 ty61 U U U U U U (qO 4 U (eS 0 ty61 U U U (aM (ja (cells:=[I 0,I 0,I 0,.string (lszq.Name),.slice rr1.j3 (lszq.dM.length) rr1.j1,.slice rr1.gI (lszq.aB.length) rr1.gH,.slice rr1.pN (lszq.cZ.length) rr1.pM,I (lszq.aS.Kind),I (lszq.aS.N),I (lszq.aS.No),.string (lszq.aS.Name),.slice rr1.aS.pE (lszq.aS.L.length) rr1.aS.pF,I (lszq.Mode)]) (places:=[(0,1),(1,1),(2,1),(3,10)]) underlying63 zc63 kr kr (aM (bW (cells:=[I 0,I 0,I 0,.string (lszq.Name),.slice rr1.j3 (lszq.dM.length) rr1.j1,.slice rr1.gI (lszq.aB.length) rr1.gH,.slice rr1.pN (lszq.cZ.length) rr1.pM,I (lszq.aS.Kind),I (lszq.aS.N),I (lszq.aS.No),.string (lszq.aS.Name),.slice rr1.aS.pE (lszq.aS.L.length) rr1.aS.pF,I (lszq.Mode)]) Ht ty63 zc63 U U kr (λb7=>aM (ja (cells:=[I 5,I 0,I 0,I 0,I 0,I 1099511627776,zSN,zSN,zSN,Y 0,Y 0,Y 0,Y 0,Y 0,Y 0,Y 0,Y 0,Y 0,Y 0,Y 0,Y 0,Y 0,Y 0,Y 0,Y 0,Y 0,Y 0,Y 0,Y 0,Y 0,Y 0,Y 0,Y 0,Y 0,Y 0,Y 0,Y 0,Y 0,Y 0,Y 0,Y 0]) (places:=[(0,1),(1,1),(2,1),(3,1),(4,1),(5,1),(6,1),(7,1),(8,1),(9,32)]) underlying54 zc54 kr kr (aM (bW (cells:=[I 5,I 0,I 0,I 0,I 0,I 1099511627776,zSN,zSN,zSN,Y 0,Y 0,Y 0,Y 0,Y 0,Y 0,Y 0,Y 0,Y 0,Y 0,Y 0,Y 0,Y 0,Y 0,Y 0,Y 0,Y 0,Y 0,Y 0,Y 0,Y 0,Y 0,Y 0,Y 0,Y 0,Y 0,Y 0,Y 0,Y 0,Y 0,Y 0,Y 0]) EU ty54 zc54 U U kr (λb8=>aM (ja (cells:=[zSN,zSN,zSN,zSN,.slice (zAD b7) 1 1,.slice (zAD b8) 1 1,zSN]) (places:=[(0,1),(1,1),(2,1),(3,1),(4,1),(5,1),(6,1)]) underlying30 zc30 kr kr (cD zc30 (λb9=>ct 0 ty30 U U U U U U (qO 6 U ?_)))))))))))))))))
 let z1:Nat×Obj:=(b8,Obj.cells (kB (I 5::I 0::I 0::I 0::I 0::I 1099511627776::zSN::zSN::zSN::Y 0::Y 0::Y 0::Y 0::Y 0::Y 0::Y 0::Y 0::Y 0::Y 0::Y 0::Y 0::Y 0::Y 0::Y 0::Y 0::Y 0::Y 0::Y 0::Y 0::Y 0::Y 0::Y 0::Y 0::Y 0::Y 0::Y 0::Y 0::Y 0::Y 0::Y 0::Y 0::[])) 54 (0,0))
 let z2:Nat×Obj:=(b7,O [I 0,I 0,I 0,.string (lszq.Name),.slice rr1.j3 (lszq.dM.length) rr1.j1,.slice rr1.gI (lszq.aB.length) rr1.gH,.slice rr1.pN (lszq.cZ.length) rr1.pM,I (lszq.aS.Kind),I (lszq.aS.N),I (lszq.aS.No),.string (lszq.aS.Name),.slice rr1.aS.pE (lszq.aS.L.length) rr1.aS.pF,I (lszq.Mode)] 63)
 let z3:Nat×Obj:=(b1,O [zSN,zSN,zSN,zSN,zSN,zSN,zSN] 30)
 let z6:Nat×Obj:=(b2,O [I 2,I 2,I 0,.string lsz2,zSN] 59)
 let z8:Nat×Obj:=(b6,O (ay.cells lszq rr1) 61)
 refine fZ (ι:=Nat×List aQ×Option Addr×Nat×LH) (λi=>[(0,.slice oZ j9.length oY),(2,Q b1),(6,Q b9)]) (λi=>h4) (λi=>[(b9,O [.slice i.2.2.1 i.2.1.length i.2.2.2.1,zSN,zSN,zSN,.slice (zAD b7) 1 1,.slice (zAD b8) 1 1,zSN] 30),z1,z2,z8,z6,z3]++(i.2.2.2.2)) (λi=>i.1<=(zD 3).length/\cA j9=((cA.K1 j9) i.2.1)/\cI aQ.rp 76 h4 i.2.1 i.2.2.1 i.2.2.2.1 i.2.2.2.2/\i.2.1.length<=0+i.1) ?_ (λhx1=>?_)
 .rintro⟨i1,lF,oF,oE,tM⟩ ⟨m4,hs1,yH,Jh⟩ e
  try dsimp only at m4 yH Jh
  refine qK 7 [] U ?_
  refine lp2 j9 (λi w=>[(2,Q b1),(6,Q b9),(41,.slice oZ j9.length oY),(42,I (j9.length:Int)),(43,I (i:Int))]) (λ_=>h4) (λw=>[(b9,O [.slice oF lF.length oE,zSN,zSN,zSN,.slice (zAD b7) 1 1,.slice (zAD b8) 1 1,.slice w.2.1 w.1.length w.2.2.1] 30),z1,z2,z8,z6,z3]++(tM++(w.2.2.2))) (λi w=>cI ai.rp 67 h4 w.1 w.2.1 w.2.2.1 w.2.2.2/\w.1.length<=0+i) (λs2 i w=>(cA.L2 (cA.K2 lF)) s2 i w.1) ([],none,0,[]) ((hwho.mono kM (((hle1.t hle2).t hle3).t hle4)).1.1) hs1 ⟨cI.nil,lo⟩ ?_ ?_
  .rintro i2 ⟨oo,tJ,tI,Ej⟩ Ed hs2 ⟨Bu,Jd⟩ e
   try dsimp only at Bu Jd
   let z4:Nat×Obj:=(b9,O [.slice oF lF.length oE,zSN,zSN,zSN,.slice (zAD b7) 1 1,.slice (zAD b8) 1 1,.slice tJ oo.length tI] 30)
   let z7:Nat×Obj:=(b1,O [.slice oF lF.length oE,zSN,zSN,zSN,.slice (zAD b7) 1 1,.slice (zAD b8) 1 1,.slice tJ oo.length tI] 30)
   refine sr (eS 0 ty30 U U U (ct 5 ty30 U U U U U U (kX (L':=[z4,z1,z2,z8,z6,z7]++(tM++(Ej))) U (bM (ib aQ.aK ([z4,z1,z2,z8,z6,z7]) tM (Ej) ap hM yH (λh9 hle9 sl8=>gM 2 U hM (λh10 hle10 hb6=>?_)))))))
   have sl9:SlC aD.rp h10 (zAD b7) 1 ([(aD.mk 0 0 0 lszq)]):=dC.slB0 (T:=63) (fz:=(0,0)) ((show dC aD.rp h9 [I 0,I 0,I 0,.string (lszq.Name),.slice rr1.j3 (lszq.dM.length) rr1.j1,.slice rr1.gI (lszq.aB.length) rr1.gH,.slice rr1.pN (lszq.cZ.length) rr1.pM,I (lszq.aS.Kind),I (lszq.aS.N),I (lszq.aS.No),.string (lszq.aS.Name),.slice rr1.aS.pE (lszq.aS.L.length) rr1.aS.pF,I (lszq.Mode)] ([(aD.mk 0 0 0 lszq)])from⟨[I 0,I 0,I 0,.string (lszq.Name),.slice rr1.j3 (lszq.dM.length) rr1.j1,.slice rr1.gI (lszq.aB.length) rr1.gH,.slice rr1.pN (lszq.cZ.length) rr1.pM,I (lszq.aS.Kind),I (lszq.aS.N),I (lszq.aS.No),.string (lszq.aS.Name),.slice rr1.aS.pE (lszq.aS.L.length) rr1.aS.pF,I (lszq.Mode)],[],rfl,rfl,⟨(nP.mk rr1),rfl,((show aD.ok h4 (aD.mk 0 0 0 lszq) (nP.mk rr1)from⟨ok1⟩).mono hle9)⟩,rfl⟩).mono aD.aK hle10) hb6
   refine gM 1 U hM (λh11 hle11 hb7=>?_)
   have sl10:SlC av.rp h11 (zAD b8) 1 ([(av.mk 5 0 0 0 0 1099511627776 ([]) ([]) ([]) (λ_=>0))]):=dC.slB0 (T:=54) (fz:=(0,0)) ((show dC av.rp h10 [I 5,I 0,I 0,I 0,I 0,I 1099511627776,zSN,zSN,zSN,Y 0,Y 0,Y 0,Y 0,Y 0,Y 0,Y 0,Y 0,Y 0,Y 0,Y 0,Y 0,Y 0,Y 0,Y 0,Y 0,Y 0,Y 0,Y 0,Y 0,Y 0,Y 0,Y 0,Y 0,Y 0,Y 0,Y 0,Y 0,Y 0,Y 0,Y 0,Y 0] ([(av.mk 5 0 0 0 0 1099511627776 ([]) ([]) ([]) (λ_=>0))])from⟨[I 5,I 0,I 0,I 0,I 0,I 1099511627776,zSN,zSN,zSN,Y 0,Y 0,Y 0,Y 0,Y 0,Y 0,Y 0,Y 0,Y 0,Y 0,Y 0,Y 0,Y 0,Y 0,Y 0,Y 0,Y 0,Y 0,Y 0,Y 0,Y 0,Y 0,Y 0,Y 0,Y 0,Y 0,Y 0,Y 0,Y 0,Y 0,Y 0,Y 0],[],rfl,rfl,⟨(lv.mk none 0 none 0 none 0),rfl,((show av.ok h4 (av.mk 5 0 0 0 0 1099511627776 ([]) ([]) ([]) (λ_=>0)) (lv.mk none 0 none 0 none 0)from⟨qH,qH,qH⟩).mono (hle9.t hle10))⟩,rfl⟩).mono av.aK hle11) hb7
   refine ib ai.aK ([z4,z8,z6,z7]) Ej ([]) ap hM (Bu.mono ai.aK ((hle9.t hle10).t hle11)) (λh12 hle12 sl11=>?_)
   have hs3:cA j9=(Y3 lF ([]) ([]) ([]) ([(aD.mk 0 0 0 lszq)]) ([(av.mk 5 0 0 0 0 1099511627776 ([]) ([]) ([]) (λ_=>0))]) oo):=hs2
   exact lD [.agg (kB [.slice oF lF.length oE,zSN,zSN,zSN,.slice (zAD b7) 1 1,.slice (zAD b8) 1 1,.slice tJ oo.length tI])] func60 U ⟨⟨3,_,_,_,_,U,U,.inl ⟨ty30,U⟩⟩,trivial⟩ ⟨(lu.mk oF oE none 0 none 0 none 0 (zAD b7) 1 (zAD b8) 1 tJ tI),congrArg (λr:Register=>(.agg (qD r (lu.mk oF oE none 0 none 0 none 0 (zAD b7) 1 (zAD b8) 1 tJ tI)).toArray:Value)) hs3.symm,(by rw[hs3];exact(show vL h12 (Y3 lF ([]) ([]) ([]) ([(aD.mk 0 0 0 lszq)]) ([(av.mk 5 0 0 0 0 1099511627776 ([]) ([]) ([]) (λ_=>0))]) oo) (lu.mk oF oE none 0 none 0 none 0 (zAD b7) 1 (zAD b8) 1 tJ tI)from⟨(sl8.mono aQ.aK ((hle10.t hle11).t hle12)),qH,qH,qH,(sl9.mono aD.aK (hle11.t hle12)),(sl10.mono av.aK hle12),sl11⟩))⟩
  rintro i2 ⟨oo,tJ,tI,Ej⟩ y2 rz2 hd2 Ar uv I2 Qc hs4 ⟨Bu,Jd⟩ hx2 ag1 e
  try dsimp only at Bu Jd
  refine sr (tO Ar U (qO 9 U (aM (iF (λy=>[I y]) fa ty3 (hwho.mono kM (((hle1.t hle2).t hle3).t hle4)).1 uv U U U (λq5 A5=>fV ty3 A5 U (qL 9 [0] U (aM (ja (cells:=[I (i2:Int),I 0,I 0,I 5,I y2,I y2,I 0,.bool false]) (places:=[(0,1),(1,1),(2,1),(3,1),(4,1),(5,1),(6,1),(7,1)]) Tl zc67 kr kr ?_))))))))
  let z5:Nat×Obj:=(b9,O [.slice oF lF.length oE,zSN,zSN,zSN,.slice (zAD b7) 1 1,.slice (zAD b8) 1 1,.slice tJ oo.length tI] 30)
  exact aM (bW (cells:=[I (i2:Int),I 0,I 0,I 5,I y2,I y2,I 0,.bool false]) oT ty67 zc67 U U kr (λb15=>aM (fd ai.eF ([(b15,O [I (i2:Int),I 0,I 0,I 5,I y2,I y2,I 0,.bool false] 67),z5,z1,z2,z8,z6,z3]++(tM)) ([]) (λG=>[(b15,O [I (i2:Int),I 0,I 0,I 5,I y2,I y2,I 0,.bool false] 67),z5,z1,z2,z8,z6,z3]++(tM++G)) ap (λ_=>ap) oT ty67 zc67 U bytes67 Bu U U (iM 0 U (cE (ai.mk (i2:Int) 0 0 5 y2 y2 0 false) U U)) lo lo (λob6 oc6 G6 gr6=>qL 1 [] U (dD 1 ty28 U U U U U U (qO 3 U (oi i2 U (qO 2 U (dE (L':=[(b9,O [.slice oF lF.length oE,zSN,zSN,zSN,.slice (zAD b7) 1 1,.slice (zAD b8) 1 1,.slice ob6 ((oo++[(ai.mk (i2:Int) 0 0 5 y2 y2 0 false)]).length) oc6] 30),z1,z2,z8,z6,z3]++(tM++G6)) js (ag1 ((oo++[(ai.mk (i2:Int) 0 0 5 y2 y2 0 false)]),ob6,oc6,G6) hs4 ⟨gr6,lo⟩))))))))))
 refine i9 (ι:=Nat×List aQ×Option Addr×Nat×LH×List Nat) (λi=>[(0,.slice oZ j9.length oY),(2,Q b1),(6,Q b9),(28,I (i.1:Int))]) (λi=>h4) (λi=>[(b9,O [.slice i.2.2.1 i.2.1.length i.2.2.2.1,zSN,zSN,zSN,.slice (zAD b7) 1 1,.slice (zAD b8) 1 1,zSN] 30),z1,z2,z8,z6,z3]++(i.2.2.2.2.1)) (λi=>(zD 3).drop i.1=i.2.2.2.2.2/\i.1<=(zD 3).length/\cA j9=((cA.L1 (cA.K1 j9)) i.2.2.2.2.2 i.1 i.2.1)/\cI aQ.rp 76 h4 i.2.1 i.2.2.1 i.2.2.2.1 i.2.2.2.2.1/\i.2.1.length<=0+i.1) (λi=>i.2.2.2.2.2.length) (0,[],none,0,[],(zD 3)) rd sw ⟨U,jH _,hs0,cI.nil,lo⟩ ?_
 rintro⟨i1,lF,oF,oE,tM,s1⟩ ⟨hd1,m4,hs5,yH,Jh⟩ ag2 e
 try dsimp only at hd1 m4 yH Jh
 rcases s1 with _|⟨y1,rz1⟩
 .have uQ:decide ((i1:Int)<3)=false:=by simpa using oW hd1
  exact sr (fO uQ U (qO 4 U (hx1 (i1,lF,oF,oE,tM) _ ⟨m4,hs5,yH,lo⟩ rd)))
 have mN:decide ((i1:Int)<3)=true:=by simpa using wp hd1
 have oD:i1<3:=by simpa using iy hd1
 refine sr (tO mN U (qL 16 [0] U (oi i1 U (aM (ja (cells:=[I (i1:Int),I 0,I 0,I 0,I (((i1+1):Nat):Int),I 1,.bool false]) (places:=[(0,1),(1,1),(2,1),(3,1),(4,1),(5,1),(6,1)]) underlying76 zc76 kr kr ?_)))))
 let z9:Nat×Obj:=(b9,O [.slice oF lF.length oE,zSN,zSN,zSN,.slice (zAD b7) 1 1,.slice (zAD b8) 1 1,zSN] 30)
 exact aM (bW (cells:=[I (i1:Int),I 0,I 0,I 0,I (((i1+1):Nat):Int),I 1,.bool false]) underlying22 ty76 zc76 U U kr (λb16=>aM (fd aQ.eF ([(b16,O [I (i1:Int),I 0,I 0,I 0,I (((i1+1):Nat):Int),I 1,.bool false] 76),z9,z1,z2,z8,z6,z3]) ([]) (λG=>[(b16,O [I (i1:Int),I 0,I 0,I 0,I (((i1+1):Nat):Int),I 1,.bool false] 76),z9,z1,z2,z8,z6,z3]++G) ap (λ_=>ap) underlying22 ty76 zc76 U bytes76 yH U U (iM 0 U (cE (aQ.mk (i1:Int) 0 0 0 (((i1+1):Nat):Int) 1 false) U U)) lo lo (λob7 oc7 G7 gr7=>qL 1 [] U (dD 1 ty22 U U U U U U (qO 3 U (oi i1 U (qO 2 U (dE (L':=[(b9,O [.slice ob7 ((lF++[(aQ.mk (i1:Int) 0 0 0 (((i1+1):Nat):Int) 1 false)]).length) oc7,zSN,zSN,zSN,.slice (zAD b7) 1 1,.slice (zAD b8) 1 1,zSN] 30),z1,z2,z8,z6,z3]++G7) js (ag2 ((i1+1),(lF++[(aQ.mk (i1:Int) 0 0 0 (((i1+1):Nat):Int) 1 false)]),ob7,oc7,G7,rz1) _ (Nat.lt_succ_self _) ⟨ll hd1,iy hd1,hs5,gr7,lo⟩ rd))))))))))
theorem Kd(h a XE XD m6 Px Pw)(ha:SlC eQ.rp h XE XD a)(M2:SlC eQ.rp h Px Pw m6):Ret prog 18 [.slice XE a.length XD,.slice Px m6.length Pw] h (.bool (mr a m6)):=by
 refine sVv func18 ntmps18 ?_
 generalize hz:(mr a m6)=z
 have HA:=h0 [0,1] 5 (λs1 i=>(mr.L1 m6 (mr.K1)) s1 i)
 exact W
theorem tE(h co eP)(signed:Int)(want SV SU)(m5:vL h co eP)(hwant:SlC eQ.rp h SV SU want)(hsm:smR co)(hln:co.bV.length<20)(hok:(aZ co [signed] [] 5 9 9).2=0->wE co 5 9 9)(hk:dM h):Ret prog 61 [.agg (qD co eP).toArray,I signed,.slice SV want.length SU] h (.bool (wg co signed want)):=by
 refine sT func61 U ntmps61 U λX hM hX hF=>?_
 have hs0:=@rfl _ (wg co signed want)
 refine sr (iA (λb1=>qO 4 U (eS 0 ty30 U U U (cN (aM (bW (cells:=[I signed]) fa ty3 zc3 U U kr (λb2=>dF 0 U hM (λh1 hle1 hb1=>?_))))))))
 have sl1:SlC vB h1 (zAD b2) 1 ([signed]):=dC.slB0 (T:=3) (fz:=(0,0)) ((show dC vB h [I signed] ([signed])from⟨[I signed],[],rfl,rfl,rfl,rfl⟩).mono kM hle1) hb1
 refine aM (cW S2 (oe _ _ _ _ _ _ ([]) none 0 5 9 9 (m5.mono hle1) sl1 qH ob ob (hk.mono hle1) ob) U (λv1 h2 hle2 hp1=>?_))
 obtain⟨rb1,rc1,rfl,sl2⟩:=hp1
 refine qO 13 U (nY 5 [20,21,22,23,24,25] 20 25 ((bN co ([signed]) ([]) 5 9 9).2.1==decide (signed<0)) U (λc1 hk1=>?_) (λe=>?_))
 .exact cN (qO 2 U (aM (em (Xj Yg U U) (sP U (hk1 _ U)))))
 refine cN (nY 4 [26,27,28,29,30] 26 30 (mr ((bN co ([signed]) ([]) 5 9 9).1) want) U (λc2 hk2=>?_) (λe=>?_))
 .exact cN (cN (dP call18 (Kd _ _ _ _ _ _ _ sl2 (hwant.mono eQ.aK (hle1.t hle2))) U (sP U (hk2 _ U))))
 exact an (nretP [.bool ((((bN co ([signed]) ([]) 5 9 9).2.2==0)&&((bN co ([signed]) ([]) 5 9 9).2.1==decide (signed<0)))&&(mr ((bN co ([signed]) ([]) 5 9 9).1) want))] (cs hs0))
theorem cIs2{h:HF}{a b:Int}:dC vB h [I a,I b] [a,b]:=cCo (R:=vB) (cs:=[I a]) (x:=a) rfl rfl (cE b rfl rfl)
theorem KF(h)(hk:dM h):Ret prog 14 [] h (.bool Dd):=by
 refine sT func14 U ntmps14 U λX hM hX hF=>?_
 refine rn ?_
 refine aM (bW (cells:=[I 1,I 2]) fa ty3 zc3 U U kr (λc1=>dF 0 U hM (λh1 k1 fc1=>?_)))
 have sc1:SlC vB h1 (zAD c1) 2 [1,2]:=slL fc1 lf cIs2 (by simp) (by simp)
 refine aM (cW Du (kg h1 [1,2] _ _ sc1 dk) U (λv h2 k2 hp=>?_))
 obtain⟨r2,rfl,o2⟩:=hp
 refine aM (wal U (λb2=>?_))
 refine wsW U U U nthA U U U ?_
 refine rn ?_
 refine wst U U nthA U U U U ?_
 refine rn ?_
 refine eS 0 ty30 U U U ?_
 refine aM (bW (cells:=[I (-1)]) fa ty3 zc3 U U kr (λc2=>dF 0 U hM (λh3 k3 fc2=>?_)))
 have sc2:SlC vB h3 (zAD c2) 1 [-1]:=slL fc2 lf (cE (R:=vB) (-1) rfl rfl) (by simp) (by simp)
 have on:vL h3 saneN { r2 with mZ:=none,mY:=0 }:=⟨(o2.mono k3).da,(o2.mono k3).eI,(o2.mono k3).dt,(o2.mono k3).df,qH,(o2.mono k3).bV,(o2.mono k3).bO⟩
 refine aM (cW S2 (oe h3 saneN _ [-1] _ _ [] none 0 5 9 9 on sc2 qH XM dk (hk.mono leA) (λ_=>XT)) U (λv h4 k4 hp=>?_))
 obtain⟨lb1,lc1,hv,sl1⟩:=hp
 rw[sane1]at hv sl1
 subst hv
 refine rn ?_
 refine aM (bW (cells:=[I 2]) fa ty3 zc3 U U kr (λc3=>dF 0 U hM (λh5 k5 fc3=>?_)))
 have sc3:SlC vB h5 (zAD c3) 1 [2]:=slL fc3 lf (cE (R:=vB) (2) rfl rfl) (by simp) (by simp)
 refine aM (cW Du (kg h5 [2] _ _ sc3 dk) U (λv h6 k6 hp=>?_))
 obtain⟨r6,rfl,o6⟩:=hp
 refine aM (bW (cells:=[I (-1)]) fa ty3 zc3 U U kr (λc4=>dF 0 U hM (λh7 k7 fc4=>?_)))
 have sc4:SlC vB h7 (zAD c4) 1 [-1]:=slL fc4 lf (cE (R:=vB) (-1) rfl rfl) (by simp) (by simp)
 refine rn ?_
 refine aM (kj (v:=.agg #[I 1,I 3]) [] (List.nil_sublist _) (jd (cap:=[]) (args:=[I 1,I 3]) KV (mu h7 1 3)) U U ?_)
 refine aM (bW (cells:=[I 1,I 3]) Dt ty69 zc69 U U kr (λc5=>dF 0 U hM (λh8 k8 fc5=>?_)))
 have sc5:SlC eQ.rp h8 (zAD c5) 1 [⟨1,3⟩]:=slL fc5 lf (cE (R:=eQ.rp) ⟨1,3⟩ rfl rfl) (by simp) (by simp)
 have hc:=rQ h8 (cA [2]) _ [-1] _ _ [] none 0 5 9 9 [⟨1,3⟩] _ _ (o6.mono leA) (slm sc4 k8) qH sc5 WA dk (hk.mono leA) (λ_=>WR)
 rw[sane2]at hc
 refine dP call19 hc U ?_
 clear hc
 refine rn ?_
 refine aM (bW (cells:=[I 2]) fa ty3 zc3 U U kr (λc6=>dF 0 U hM (λh9 k9 fc6=>?_)))
 have sc6:SlC vB h9 (zAD c6) 1 [2]:=slL fc6 lf (cE (R:=vB) (2) rfl rfl) (by simp) (by simp)
 refine aM (cW Du (kg h9 [2] _ _ sc6 dk) U (λv h10 k10 hp=>?_))
 obtain⟨r10,rfl,o10⟩:=hp
 refine aM (bW (cells:=[I (-1)]) fa ty3 zc3 U U kr (λc7=>dF 0 U hM (λh11 k11 fc7=>?_)))
 have sc7:SlC vB h11 (zAD c7) 1 [-1]:=slL fc7 lf (cE (R:=vB) (-1) rfl rfl) (by simp) (by simp)
 refine rn ?_
 refine aM (kj (v:=.agg #[I 1,I 4]) [] (List.nil_sublist _) (jd (cap:=[]) (args:=[I 1,I 4]) KV (mu h11 1 4)) U U ?_)
 refine aM (bW (cells:=[I 1,I 4]) Dt ty69 zc69 U U kr (λc8=>dF 0 U hM (λh12 k12 fc8=>?_)))
 have sc8:SlC eQ.rp h12 (zAD c8) 1 [⟨1,4⟩]:=slL fc8 lf (cE (R:=eQ.rp) ⟨1,4⟩ rfl rfl) (by simp) (by simp)
 have hc:=rQ h12 (cA [2]) _ [-1] _ _ [] none 0 5 9 9 [⟨1,4⟩] _ _ (o10.mono leA) (slm sc7 k12) qH sc8 WA dk (hk.mono leA) (λ_=>WR)
 rw[sane3]at hc
 refine dP call19 hc U ?_
 clear hc
 refine rn ?_
 refine aM (cW Du (kg h12 [] _ _ qH dk) U (λv h13 k13 hp=>?_))
 obtain⟨r13,rfl,o13⟩:=hp
 refine aM (cW S2 (oe h13 (cA []) _ [] none 0 [] none 0 5 9 9 o13 qH qH WB dk (hk.mono leA) XV) U (λv h14 k14 hp=>?_))
 obtain⟨lb2,lc2,hv,sl2⟩:=hp
 rw[sane4]at hv sl2
 subst hv
 refine rn ?_
 refine aM (cW Du (kg h14 [] _ _ qH dk) U (λv h15 k15 hp=>?_))
 obtain⟨r15,rfl,o15⟩:=hp
 refine aM (bW (cells:=[I (-1)]) fa ty3 zc3 U U kr (λc9=>dF 0 U hM (λh16 k16 fc9=>?_)))
 have sc9:SlC vB h16 (zAD c9) 1 [-1]:=slL fc9 lf (cE (R:=vB) (-1) rfl rfl) (by simp) (by simp)
 have hc:=rQ h16 (cA []) _ [-1] _ _ [] none 0 6 9 9 [] none 0 (o15.mono k16) sc9 qH qH WB dk (hk.mono leA) XW
 rw[sane5]at hc
 refine dP call19 hc U ?_
 clear hc
 refine rn ?_
 refine aM (bW (cells:=[I 1,I 2]) fa ty3 zc3 U U kr (λc10=>dF 0 U hM (λh17 k17 fc10=>?_)))
 have sc10:SlC vB h17 (zAD c10) 2 [1,2]:=slL fc10 lf cIs2 (by simp) (by simp)
 refine aM (cW Du (kg h17 [1,2] _ _ sc10 dk) U (λv h18 k18 hp=>?_))
 obtain⟨r18,rfl,o18⟩:=hp
 refine aM (wal U (λb15=>?_))
 refine wsW U U U nthA U U U ?_
 refine rn ?_
 refine aM (wbd U U U ?_)
 refine aM (bW (cells:=[I 7,I 0,I 0,I (-1),I 100,I 0,I 0,.bool false]) Tj ty81 zc81 U U kr (λc11=>dF 0 U hM (λh19 k19 fc11=>?_)))
 have sc11:SlC xS h19 (zAD c11) 1 [⟨7,0,0,-1,100,0,0,false⟩]:=slL fc11 lf (cE (R:=xS) ⟨7,0,0,-1,100,0,0,false⟩ rfl rfl) (by simp) (by simp)
 have of_:vL h19 saneF { r18 with sY:=zAD c11,sX:=1 }:=⟨(o18.mono k19).da,(o18.mono k19).eI,(o18.mono k19).dt,sc11,(o18.mono k19).Versions,(o18.mono k19).bV,(o18.mono k19).bO⟩
 refine rn ?_
 refine wst U U nthA U U U U ?_
 repeat (first|refine rn ?_|refine wgo rfl ?_)
 refine wcF U U ?_
 refine rn ?_
 refine fQ ([(b15,O (qD saneF { r18 with sY:=zAD c11,sX:=1 }) 30)]) mixed kr jn (λlA _=>?_)
 refine tn 0 U (bW (cells:=[I 1,I 2]) fa ty3 zc3 U U kr (λc12=>?_))
 refine⟨jn,?_⟩
 refine tn 1 U (ri 0 U hM (λh20 k20 fc12=>?_))
 have sc12:SlC vB h20 (zAD c12) 2 [1,2]:=slL fc12 lf cIs2 (by simp) (by simp)
 refine cW Du (kg h20 [1,2] _ _ sc12 dk) U (λv h21 k21 hp=>?_)
 obtain⟨r21,rfl,o21⟩:=hp
 refine⟨jl (kA k20 k21),tu (kA k20 k21) ?_⟩
 have hc:=tE h21 (cA [1,2]) _ (-1) [] none 0 o21 qH Wf dk (λ_=>Wi) (hk.mono leA)
 rw[sane6]at hc
 refine tn 2 U (jq QI hc U ⟨jn,?_⟩)
 clear hc
 refine qA [3,6] U ?_
 refine tn 4 U (bW (cells:=[I 1,I 2]) fa ty3 zc3 U U kr (λc13=>?_))
 refine⟨jn,?_⟩
 refine tn 5 U (ri 0 U hM (λh22 k22 fc13=>?_))
 have sc13:SlC vB h22 (zAD c13) 2 [1,2]:=slL fc13 lf cIs2 (by simp) (by simp)
 refine cW Du (kg h22 [1,2] _ _ sc13 dk) U (λv h23 k23 hp=>?_)
 obtain⟨r23,rfl,o23⟩:=hp
 refine⟨jl (kA k22 k23),tu (kA k22 k23) ?_⟩
 refine tn 7 U (kj (v:=.agg #[I 4,I 5]) [] (List.nil_sublist _) (jd (cap:=[]) (args:=[I 4,I 5]) KV (mu h23 4 5)) U U ⟨jn,?_⟩)
 refine tn 8 U (bW (cells:=[I 4,I 5]) Dt ty69 zc69 U U kr (λc14=>⟨jn,?_⟩))
 refine tn 9 U (ri 0 U hM (λh24 k24 fc14=>?_))
 have sc14:SlC eQ.rp h24 (zAD c14) 1 [⟨4,5⟩]:=slL fc14 lf (cE (R:=eQ.rp) ⟨4,5⟩ rfl rfl) (by simp) (by simp)
 have hc:=tE h24 (cA [1,2]) _ 3 [⟨4,5⟩] _ _ (o23.mono k24) sc14 Wf dk (λ_=>Wi) (hk.mono leA)
 rw[sane7]at hc
 refine jq QI hc U ⟨jl k24,tu k24 ?_⟩
 clear hc
 refine qA [10,11,14] U ?_
 refine tn 12 U (bW (cells:=[I 2]) fa ty3 zc3 U U kr (λc15=>?_))
 refine⟨jn,?_⟩
 refine tn 13 U (ri 0 U hM (λh25 k25 fc15=>?_))
 have sc15:SlC vB h25 (zAD c15) 1 [2]:=slL fc15 lf (cE (R:=vB) (2) rfl rfl) (by simp) (by simp)
 refine cW Du (kg h25 [2] _ _ sc15 dk) U (λv h26 k26 hp=>?_)
 obtain⟨r26,rfl,o26⟩:=hp
 refine⟨jl (kA k25 k26),tu (kA k25 k26) ?_⟩
 refine tn 15 U (kj (v:=.agg #[I 1,I 1]) [] (List.nil_sublist _) (jd (cap:=[]) (args:=[I 1,I 1]) KV (mu h26 1 1)) U U ⟨jn,?_⟩)
 refine tn 16 U (bW (cells:=[I 1,I 1]) Dt ty69 zc69 U U kr (λc16=>⟨jn,?_⟩))
 refine tn 17 U (ri 0 U hM (λh27 k27 fc16=>?_))
 have sc16:SlC eQ.rp h27 (zAD c16) 1 [⟨1,1⟩]:=slL fc16 lf (cE (R:=eQ.rp) ⟨1,1⟩ rfl rfl) (by simp) (by simp)
 have hc:=tE h27 (cA [2]) _ (-1) [⟨1,1⟩] _ _ (o26.mono k27) sc16 WA dk (λ_=>WR) (hk.mono leA)
 rw[sane8]at hc
 refine jq QI hc U ⟨jl k27,tu k27 ?_⟩
 clear hc
 refine qA [18,19,21,23] U ?_
 refine tn 20 U (cW Du (kg h27 [] _ _ qH dk) U (λv h28 k28 hp=>?_))
 obtain⟨r28,rfl,o28⟩:=hp
 refine⟨jl k28,tu k28 ?_⟩
 refine tn 22 U (kj (v:=.agg #[I 1,I 1]) [] (List.nil_sublist _) (jd (cap:=[]) (args:=[I 1,I 1]) KV (mu h28 1 1)) U U ⟨jn,?_⟩)
 refine tn 24 U (kj (v:=.agg #[I 1,I 2]) [] (List.nil_sublist _) (jd (cap:=[]) (args:=[I 1,I 2]) KV (mu h28 1 2)) U U ⟨jn,?_⟩)
 refine tn 25 U (bW (cells:=[I 1,I 1,I 1,I 2]) Dt ty69 zc69 U U kr (λc17=>⟨jn,?_⟩))
 refine tn 26 U (ri 0 U hM (λh29 k29 fc17=>?_))
 have sc17:SlC eQ.rp h29 (zAD c17) 2 [⟨1,1⟩,⟨1,2⟩]:=slL fc17 lf (cCo (R:=eQ.rp) (cs:=[I 1,I 1]) (x:=⟨1,1⟩) rfl rfl (cE (R:=eQ.rp) ⟨1,2⟩ rfl rfl)) (by simp) (by simp)
 have hc:=tE h29 (cA []) _ (-1) [⟨1,1⟩,⟨1,2⟩] _ _ (o28.mono k29) sc17 WB dk (λ_=>Xo) (hk.mono leA)
 rw[sane9]at hc
 refine jq QI hc U ⟨jl k29,tu k29 ?_⟩
 clear hc
 refine qA [27,28,30] U ?_
 refine tf 29 U U (λ_ _ hj=>oA ty30 U (hj.nth (i:=0) U) U) ?_
 refine tn 31 U (kj (v:=.agg #[I 3,I 7]) [] (List.nil_sublist _) (jd (cap:=[]) (args:=[I 3,I 7]) KV (mu h29 3 7)) U U ⟨jn,?_⟩)
 refine tn 32 U (bW (cells:=[I 3,I 7]) Dt ty69 zc69 U U kr (λc18=>⟨jn,?_⟩))
 refine tn 33 U (ri 0 U hM (λh30 k30 fc18=>?_))
 have sc18:SlC eQ.rp h30 (zAD c18) 1 [⟨3,7⟩]:=slL fc18 lf (cE (R:=eQ.rp) ⟨3,7⟩ rfl rfl) (by simp) (by simp)
 have hc:=tE h30 saneF _ (-1) [⟨3,7⟩] _ _ (of_.mono leA) sc18 XN dk (λ_=>XU) (hk.mono leA)
 rw[saneA]at hc
 refine jq QI hc U ⟨jl k30,tu k30 ?_⟩
 clear hc
 refine qA [34,35] U (dO kr ?_)
 exact wrP [.bool true] hF U rdR hX U
theorem Mx(h co eP signed bK bJ u qm ql)(m5:vL h co eP)(gL:SlC vB h bK bJ signed)(hu:SlC Zz h qm ql u):Ret prog 15 [.agg (qD co eP).toArray,.slice bK signed.length bJ,.slice qm u.length ql] h (.bool (lI co signed u)):=by
 refine sVv func15 ntmps15 ?_
 generalize hz:(lI co signed u)=z
 have HA:=h0 [3] 7 (λs1 i=>(lI.L1 (lI.K1)) s1)
 exact W
instance kC15:Ct 15:=⟨_,call15,@Mx⟩
theorem IT(h co eP signed bK bJ u qm ql aP cL ah)(m5:vL h co eP)(gL:SlC vB h bK bJ signed)(hu:SlC Zz h qm ql u)(hsm:smR co):Ret prog 21 [.agg (qD co eP).toArray,.slice bK signed.length bJ,.slice qm u.length ql,I aP,I cL,I ah] h (.bool (jp co signed u aP cL ah)):=by
 refine sVv func21 ntmps21 ?_
 generalize hz:(jp co signed u aP cL ah)=z
 have hsq:=hsm;unfold smR at hsq
 exact W
theorem S0{m:Nat}(h:m<=9223372036854775807):vC .u64 (m:Int)=m:=by
 simp only[vC,IntKind.signed,Z8]
 simp
 omega
theorem Uj{m:Nat}(h:m<=9223372036854775807):vC .i64 (m:Int)=m:=by
 have:=kW (z:=(m:Int)) ob
 injection this
theorem pX(h l fm fj)(t:Int)(cmp:ai->Int->Int)(cmp_v)(k:Nat)(hl:SlC ai.rp h fm fj l)(hcmp:∀(h':HF)(fh:ai)(CE:Int),jL h h'->ra prog cmp_v [.agg (ai.cells fh).toArray,I CE] h' [] (I (cmp fh CE)))(hk:k<=l.length)(hlo:∀i y,i<k->l[i]? = some y->cmp y t<0)(hhi:∀i y,k<=i->l[i]? = some y->¬cmp y t<0)(hsz:l.length<=2000000):
  Ret prog 84 [.slice fm l.length fj,I t,cmp_v] h (retVal [I (k:Nat),.bool ((l[k]?).any λy=>cmp y t==0)]):=by
 refine sT func84 U ntmps84 U λX hM hX hF=>qK 18 [] U ?_
 refine fZ (ι:=Unit) (λ_=>[(0,.slice fm l.length fj),(1,I t),(2,cmp_v),(8,I (l.length:Int)),(9,I (k:Int))]) (λ_=>h) (λ_=>[]) (λ_=>True) ?_ (λhx=>?_)
 .rintro⟨⟩ _ e
  refine qT 5 U ?_
  rcases zK k l.length with hlt|hge
  .have hget:l[k]? = some l[k]:=List.getElem?_eq_getElem hlt
   refine tO (decide_eq_true ob) U (qO 4 U (aM (iF ai.cells oT ty67 hl.1 hget U U U (λq A=>gV ty67 A U U (cN (aM (kj (v:=I (cmp l[k] t)) [] (List.nil_sublist _) (hcmp h l[k] t lf) U U (gE (v':=.bool (cmp l[k] t==0)) U U (sP (s:=true) U (qO 3 U (nretP [I (k:Int),.bool (cmp l[k] t==0)] ?_)))))))))))
   rw[hget];rfl
  have hget:l[k]? = none:=List.getElem?_eq_none hge
  refine fO (decide_eq_false ob) U (qO 9 U (sP (s:=false) U (qO 3 U (nretP [I (k:Int),.bool false] ?_))))
  rw[hget];rfl
 refine i9 (ι:=Nat×Nat) (λi=>[(0,.slice fm l.length fj),(1,I t),(2,cmp_v),(8,I (l.length:Int)),(9,I (i.1:Int)),(10,I (i.2:Int))]) (λi=>h) (λi=>[]) (λi=>i.1<=k/\k<=i.2/\i.2<=l.length) (λi=>i.2-i.1) (0,l.length) rd (λw hw=>hw) ⟨jH _,hk,xE _⟩ ?_
 rintro⟨i,j⟩ ⟨hik,hkj,hjl⟩ ag e
 dsimp only at hik hkj hjl
 rcases zK i j with hij|hij
 .refine qT 5 U (tO (decide_eq_true ob) U (qO 8 U (gE (v':=I ((i+j:Nat):Int)) U (by rw[kW ob];rfl) (aM (em (E8 (m':=((i+j:Nat):Int)) nz NH U (S0 ob)) (aM (em (PX (m:=i+j) U U) (aM (em (E8 (m':=(((i+j)/2:Nat):Int)) NH nz U (Uj ob)) ?_)))))))))
  obtain⟨q,hq⟩:∃q,(i+j)/2=q:=⟨_,rfl⟩
  rw[hq]
  have hqj:q<j:=by omega
  have hget:l[q]? = some l[q]:=List.getElem?_eq_getElem ob
  refine qO 7 U (aM (iF ai.cells oT ty67 hl.1 hget U U U (λq' A=>gV ty67 A U U (cN (aM (kj (v:=I (cmp l[q] t)) [] (List.nil_sublist _) (hcmp h l[q] t lf) U U ?_))))))
  by_cases hc:cmp l[q] t<0
  .have hqk:q<k:=by
    rcases zK q k with h1|h1
    .exact h1
    exact(hhi q _ h1 hget hc).elim
   exact tO (decide_eq_true hc) U (qO 4 U (oi q U (qO 3 U (ag (q+1,j) _ (by show j-(q+1)<j-i;omega) ⟨hqk,hkj,hjl⟩ rd))))
  have hqk:k<=q:=by
   rcases zK q k with h1|h1
   .exact(hc (hlo q _ h1 hget)).elim
   exact h1
  exact fO (decide_eq_false hc) U (qO 7 U (ag (i,q) _ (by show q-i<j-i;omega) ⟨hik,hqk,by show q<=l.length;omega⟩ rd))
 have hki:i=k:=by omega
 subst hki
 exact dZ (qT 4 U (fO (decide_eq_false ob) U (qO 3 U (hx () _ trivial rd))))
end Go.Sg
