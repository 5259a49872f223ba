import Derived.Test.YtafbfagbjekhhaaGreatDoorW7
/- A part of the proof of MissingNothing. -/
set_option linter.unusedVariables false
set_option linter.unusedSimpArgs false
set_option maxRecDepth 100000
open List renaming length_cons→zA,length_append→vA,not_mem_nil→kA,length_nil→zB,toArray→xB,mem_cons_self→kB,mem_singleton→xC,mem_cons_of_mem→jC,range→qE,mem_cons→zE,mem_of_getElem?→xE,mem_append→zG,map_cons→vH,mem_map→zM,mem_append_left→qP,map_nil→Wr
open Go.Sg.HF renaming le_trans→jA,le_refl→kH,le→xJ
open Go.Sg.Rp renaming int→jB,bH→qJ,bool→vV,str→Wc,sl→Wx,iO→WK
open Go.IntKind renaming wrap→vB
open Go.Value renaming int→qC
open Go.Sg.Register renaming cells→kC,ok→vK
open Nat renaming le_refl→vE,zero_le→xH,le_trans→qM,lt_or_ge→xM,le_succ_of_le→W6
open Go.Sg.SlC renaming nil→qG
open Go.Sg.Budget renaming cells→vL,rp→vQ
open Go.Sg.Use renaming rp→W0

namespace Go.Sg
variable {p:Prop}{q:Int->Bool}{signed:List Int}{u:List Use}
open Go.Proofs Go.Proofs.Tryz
set_option maxHeartbeats 2000000
theorem Ez(h d AW no)(hd:ao.ok h d AW):Ret prog 60 [.agg (ao.cells d AW).toArray,I no] h (I (wR d no)):=by
 refine sT func60 U ntmps60 U λX hM hX hF=>?_
 generalize hz:(wR d no)=z;have hs:=hz.symm
 exact W
theorem Dx(h r sR r_q at_ at__q ah known_q d AW d_q)(hr:vK h r sR)(ar:At h r_q (kC r sR))(aat_:At h at__q [I at_])(aknown:At h known_q [I ah])(hd:ao.ok h d AW)(ad:At h d_q (ao.cells d AW))(hsm:smR r):Itr prog (.func (.func 124) #[] (xB [.pointer (some r_q),.pointer (some at__q),.pointer (some known_q),.pointer (some d_q)])) sE (aW r at_ ah d) h:=by
 refine si call124 ?_
 intro yf ya yb C Sp Pn h1 A db m1 m2 m3 hC hy
 refine jX Q4 U ntmps124 U λX hXM hX=>?_
 have hs0:aW r at_ ah d=[]++aW r at_ ah d:=rfl
 refine qT 4 U ?_
 refine gx (ι:=Nat×List Int×LH×HF) (λi=>[]) (λi=>i.2.2.2) (λi=>i.2.2.1) (λi=>i.1<=(qE 64).length/\aW r at_ ah d=i.2.1++((aW.K1))/\C i.2.1 i.2.2.2 i.2.2.1/\xJ h1 i.2.2.2) ?_ (λhx1=>?_)
 .rintro⟨i1,dn1,A1_,hh1⟩ ⟨i7,hs1,hC1_,hl1⟩ e
  refine dR ?_
  have hs2:aW r at_ ah d=dn1:=hs1.trans (List.append_nil _)
  exact sj [] (A:=A1_) Q4 U (List.Sublist.refl _) (.inl (hs2▸hC1_))
 refine jw (ι:=Nat×List Int×LH×HF×List Nat) (λi=>[(0,.func yf ya yb),(1,.pointer (some r_q)),(2,.pointer (some at__q)),(3,.pointer (some known_q)),(4,.pointer (some d_q)),(16,I (i.1:Int))]) (λi=>i.2.2.2.1) (λi=>i.2.2.1) (λi=>(qE 64).drop i.1=i.2.2.2.2/\i.1<=(qE 64).length/\aW r at_ ah d=i.2.1++((aW.L1 r at_ ah d (aW.K1)) i.2.2.2.2 i.1)/\C i.2.1 i.2.2.2.1 i.2.2.1/\xJ h1 i.2.2.2.1) (λi=>i.2.2.2.2.length) (0,[],A,h1,(qE 64)) rd sw ⟨U,xH _,hs0,hC,lf⟩ ?_
 rintro⟨i1,dn1,A1_,hh1,s1⟩ ⟨hd1,i7,hs3,hC1_,hl1⟩ ag1 e
 rcases s1 with _|⟨y1,rz1⟩
 .have mE:decide ((i1:Int)<64)=false:=by simpa using nZ hd1
  exact sr (fO mE U (qO 4 U (hx1 (i1,dn1,A1_,hh1) _ ⟨i7,hs3,hC1_,hl1⟩ trivial)))
 have gg:decide ((i1:Int)<64)=true:=by simpa using tU hd1
 have i5:i1<64:=by simpa using il hd1
 refine sr (tO gg U (qO 20 U ?_))
 refine gx (ι:=Nat×Bool) (λi=>[(0,.func yf ya yb),(1,.pointer (some r_q)),(2,.pointer (some at__q)),(3,.pointer (some known_q)),(4,.pointer (some d_q)),(6,I (i1:Int)),(7,.bool i.2),(16,I (i1:Int))]) (λi=>hh1) (λi=>A1_) (λi=>i.1<=(qE 32).length/\aW r at_ ah d=dn1++((λzg3_7=>(bif(!zg3_7)then(aW.L1 r at_ ah d (aW.K1) rz1 (i1+1))else(bif(!((dV r.ej (i1:Int) d.kU at_ ah).2.1))then((i1:Int)::(aW.L1 r at_ ah d (aW.K1) rz1 (i1+1)))else(aW.L1 r at_ ah d (aW.K1) rz1 (i1+1))))) i.2)) ?_ (λhx3=>?_)
 .rintro⟨i3,DH⟩ ⟨CI,hs5⟩ e
  refine qT 6 U (lu U (λc3=>?_) (λc3=>?_))
  .have hs6:=hs5.trans (congrArg (dn1++·) (bt c3))
   exact kw U (bM (oi i1 U (qO 2 U (ag1 ((i1+1),dn1,A1_,hh1,rz1) _ (Nat.lt_succ_self _) ⟨ll hd1,il hd1,hs6,hC1_,hl1⟩ rd))))
  have hs7:=hs5.trans (congrArg (dn1++·) (bf c3))
  refine qK 4 [] U (lM (j:=2) ty24 (ar.mono (db.t hl1)) U U (qL 2 [] U (lM (j:=6) ty31 (ad.mono (db.t hl1)) U U (eE ty3 (aat_.mono (db.t hl1)) U (eE ty3 (aknown.mono (db.t hl1)) U (aH (cw call126 (rR _ _ _ _ (i1:Int) _ _ _ at_ ah (hr.ej.mono aF.aG (db.t hl1)) (hd.kU.mono qJ (db.t hl1)) hsm.2.2.2.1) U (λv1 h2 hle1 hp1=>?_))))))))
  obtain⟨rb1,rc1,rfl,sl1⟩:=hp1
  refine qO 13 U (uJ 55 U (λc4=>?_) (λc4=>?_))
  .have hs8:=hs7.trans (congrArg (dn1++·) (bt c4))
   refine qO 2 U ?_
   have hx1:aW r at_ ah d=dn1++((i1:Int)::(aW.L1 r at_ ah d (aW.K1) rz1 (i1+1))):=hs8
   refine aH (me ([]) A1_ ap (hy dn1 (i1:Int) _ _ _ _ hx1 (hl1.t hle1) (m1 _ _ _ _ hle1 hC1_) U) U U (λh3 A1 hle2 hC1=>?_) (λh4 A2 hle3 hS1=>?_) (λch1 h5 A3 hle4 hP1 e=>iN (oz [] (A:=A3) Q4 (List.sublist_append_right _ _) hP1)))
   .have hs9:aW r at_ ah d=(dn1++[(i1:Int)])++((aW.L1 r at_ ah d (aW.K1) rz1 (i1+1))):=hx1.trans ap
    exact nv U (qO 6 U (oi i1 U (qO 2 U (ag1 ((i1+1),(dn1++[(i1:Int)]),A1,h3,rz1) _ (Nat.lt_succ_self _) ⟨ll hd1,il hd1,hs9,hC1,((hl1.t hle1).t hle2)⟩ rd))))
   exact nv U (qO 3 U (dR (nU [] (A:=A2) Q4 U (List.Sublist.refl _) (.inr hS1))))
  have hs10:=hs7.trans (congrArg (dn1++·) (bf c4))
  exact kq (qO 8 U (oi i1 U (qO 2 U (ag1 ((i1+1),dn1,A1_,h2,rz1) _ (Nat.lt_succ_self _) ⟨ll hd1,il hd1,hs10,(m1 _ _ _ _ hle1 hC1_),(hl1.t hle1)⟩ rd))))
 refine jw (ι:=Nat×Bool×List Nat) (λi=>[(0,.func yf ya yb),(1,.pointer (some r_q)),(2,.pointer (some at__q)),(3,.pointer (some known_q)),(4,.pointer (some d_q)),(6,I (i1:Int)),(7,.bool i.2.1),(16,I (i1:Int)),(19,I (i.1:Int))]) (λi=>hh1) (λi=>A1_) (λi=>(qE 32).drop i.1=i.2.2/\i.1<=(qE 32).length/\aW r at_ ah d=dn1++((aW.L3 r at_ ah i1 (λzg3_7=>(bif(!zg3_7)then(aW.L1 r at_ ah d (aW.K1) rz1 (i1+1))else(bif(!((dV r.ej (i1:Int) d.kU at_ ah).2.1))then((i1:Int)::(aW.L1 r at_ ah d (aW.K1) rz1 (i1+1)))else(aW.L1 r at_ ah d (aW.K1) rz1 (i1+1)))))) i.2.2 i.1 i.2.1)) (λi=>i.2.2.length) (0,false,(qE 32)) rd sw ⟨U,xH _,hs3⟩ ?_
 rintro⟨i3,DH,s3⟩ ⟨hd3,Nd,hs11⟩ ag2 e
 rcases s3 with _|⟨y3,rz3⟩
 .have UM:decide ((i3:Int)<32)=false:=by simpa using nZ hd3
  exact sr (fO UM U (qO 4 U (hx3 (i3,DH) _ ⟨Nd,hs11⟩ rd)))
 have Om:decide ((i3:Int)<32)=true:=by simpa using tU hd3
 have Nc:i3<32:=by simpa using il hd3
 refine sr (tO Om U (qL 14 [] U (eE ty22 (ar.mono (db.t hl1)) U (qO 2 U (eE ty3 (aat_.mono (db.t hl1)) U (eE ty3 (aknown.mono (db.t hl1)) U (aX call125 (xk _ _ _ _ (i3:Int) (i1:Int) at_ ah (hr.dD.mono aK.aG (db.t hl1))) U (qO 13 U (gz 2 [35,36,37] 35 37 ((eO r.dD (i3:Int) (i1:Int) at_ ah).2.2.1) U (λc5 hk1=>?_) (λe=>?_))))))))))
 .exact bD (mU U (hk1 _ U))
 exact an (qT 2 U (oi i3 U (qO 2 U (ag2 ((i3+1),(DH||(eO r.dD (i3:Int) (i1:Int) at_ ah).2.2.1),rz3) _ (Nat.lt_succ_self _) ⟨ll hd3,il hd3,hs11⟩ rd))))
instance kI124:CtI 124:=⟨_,@Dx⟩
theorem FQ(h cK gH d AW bq ah)(mS:vK h cK gH)(hd:ao.ok h d AW)(hsm:smR cK):j4 prog 62 [.agg (kC cK gH).toArray,.agg (ao.cells d AW).toArray,I bq,I ah] h (λv h'=>∃(rv0:Value),v=rv0/\Itr prog rv0 sE (hZ cK d bq ah) h'):=by
 refine sT func62 U ntmps62 U λX hM hX hF=>?_
 generalize hz:(hZ cK d bq ah)=z;have hs:=hz.symm
 exact W
theorem BM(h l fg ff kind bq ah)(hl:SlC vQ h fg ff l)(hsz0:l.length<=2000000):j4 prog 64 [.slice fg l.length ff,I kind,I bq,I ah] h (λv h'=>∃(rb0:Option Addr)(rc0:Nat),v=.tuple #[.slice rb0 ((dK l kind bq ah).1).length rc0,I ((dK l kind bq ah).2)]/\SlC vQ h' rb0 rc0 ((dK l kind bq ah).1)):=by
 refine sT func64 U ntmps64 U λX hM hX hF=>?_
 have hs0:=@rfl _ (dK l kind bq ah)
 refine qT 9 U (aX call75 (ss _ _ _ _ hl) U (qO 7 U (aI hs0 U (λc1 hs1=>?_) (λc1 hs2=>?_))))
 .refine qT 6 U ?_
  have hs3:dK l kind bq ah=([],(bI l)):=hs1
  exact nretH [zSN,I (bI l)] (hs3▸⟨none,0,U,qG⟩)
 refine qT 5 U (aH (bT (cells:=[I kind]) eM ty3 zc3 U U kr (λb1=>cv 0 U hM (λh1 hle1 hb1=>?_))))
 have sl1:SlC jB h1 (zAD b1) 1 ([kind]):=cY.slB0 (T:=3) (fz:=(0,0)) ((show cY jB h [I kind] ([kind])from⟨[I kind],[],rfl,rfl,rfl,rfl⟩).mono qJ hle1) hb1
 refine aX C0 (iA _ 0 15 _ _ _ sl1) U (qO 2 U (gz 6 [20,21,22,23,24,25,26] 20 26 (!(ce 0 1099511627775 ([bq,ah]))) U (λc2 hk1=>?_) (λe=>?_)))
 .refine qO 2 U (aH (bT (cells:=[I bq,I ah]) eM ty3 zc3 U U kr (λb2=>cv 0 U hM (λh2 hle2 hb2=>?_))))
  have sl2:SlC jB h2 (zAD b2) 2 ([bq,ah]):=cY.slB0 (T:=3) (fz:=(0,0)) ((show cY jB h1 [I bq,I ah] ([bq,ah])from⟨[I bq],[I ah],rfl,rfl,rfl,⟨[I ah],[],rfl,rfl,rfl,rfl⟩⟩).mono qJ hle2) hb2
  exact aX C0 (iA _ 0 1099511627775 _ _ _ sl2) U (qO 2 U (sx (h:=h1) hle2 hX hle1 (hk1 _ U)))
 refine bp (aI hs2 U (λc3 hs4=>?_) (λc3 hs5=>?_))
 .refine qT 5 U ?_
  have hs6:dK l kind bq ah=([],1):=hs4
  exact nretH [zSN,I 1] (hs6▸⟨none,0,U,qG⟩)
 refine qT 7 U (aH (cw call84 (tV _ _ _ _ kind bq ah (hl.mono Budget.aG hle1) ob) U (λv1 h3 hle3 hp1=>?_)))
 obtain⟨rb1,rc1,rfl,sl3⟩:=hp1
 refine qO 3 U ?_
 have hs7:dK l kind bq ah=((aO l kind bq ah),0):=hs5
 exact nretH [.slice rb1 ((aO l kind bq ah).length) rc1,I 0] (hs7▸⟨rb1,rc1,U,sl3⟩)
theorem CB(h x gG no)(hx:aD.ok h x gG):Ret prog 132 [.agg (aD.cells x gG).toArray,I no] h (I (tC x no)):=by
 refine sT func132 U ntmps132 U λX hM hX hF=>?_
 generalize hz:(tC x no)=z;have hs:=hz.symm
 exact W
theorem Cm(h)(n:Nat)(hn:n<=1000000000):QQ prog 203 [zSN,I (n:Int)] h jB 3 ([]:List Int):=by
 refine sT func203 U ntmps203 U λX hM hX hF=>?_
 refine wtt U (wcF U (decide_eq_false (by omega)) ?_)
 refine wto U (aH (eu (Pi eM U) ?_))
 refine bD (E6 eM U ?_)
 refine iS (v':=I 0) U U ?_
 have e1:IntKind.i64.wrap ((n:Int)-0)=n:=by have:=lI (z:=(n:Int)) (by omega);simp only[Int.sub_zero];injection this
 refine iS (v':=I (n:Int)) U (congrArg I e1) ?_
 refine wot U ?_
 rcases Nat.eq_zero_or_pos n with h0|h0
 . subst h0
   refine wcF U U ?_
   refine wtt U ?_
   exact nm hF (λa ha w hw=>res1 U a ha w) (λw hw=>hw.lower) ⟨hX,none,0,U,cN.nil⟩
 . refine wcT rfl (decide_eq_true (by omega)) ?_
   refine wto U (aH (eu (Pi eM U) ?_))
   refine aH (eu (v:=zSN) (Hp eM ty3 U U) ?_)
   refine bD (aH (JM (R:=jB) (xs:=[]) (base:=none) (cap:=0) (G:=[]) (k:=n) (kn:=.i64) [] [] U eM mR ty3 zc3 U (by decide) bytes3 cN.nil U U U h0 (by simp;omega) (by simp;omega) (by simp;omega) (λbk cl sp cap hc hl hcap=>?_)))
   refine bD (E6 eM U (aH (eu (JV (m:=0) eM ty3 U U (xH _)) ?_)))
   refine wot U ?_
   exact nm hF (λa ha w hw=>res1 U a ha w) (λw hw=>hw.lower) ⟨hX,zAD bk,cap,U,.inr ⟨bk,cl,sp,U,hc,hl,xH _,xH _,U⟩⟩
theorem BB(h)(n:Nat)(hn:n<=1000000000):QQ prog 71 [zSN,I (n:Int)] h eC.rp 45 ([]:List eC):=by
 refine sT func71 U ntmps71 U λX hM hX hF=>?_
 refine wtt U (wcF U (decide_eq_false (by omega)) ?_)
 refine wto U (aH (eu (Pi w6 U) ?_))
 refine bD (E6 w6 U ?_)
 refine iS (v':=I 0) U U ?_
 have e1:IntKind.i64.wrap ((n:Int)-0)=n:=by have:=lI (z:=(n:Int)) (by omega);simp only[Int.sub_zero];injection this
 refine iS (v':=I (n:Int)) U (congrArg I e1) ?_
 refine wot U ?_
 rcases Nat.eq_zero_or_pos n with h0|h0
 . subst h0
   refine wcF U U ?_
   refine wtt U ?_
   exact nm hF (λa ha w hw=>res1 U a ha w) (λw hw=>hw.lower) ⟨hX,none,0,U,cN.nil⟩
 . refine wcT rfl (decide_eq_true (by omega)) ?_
   refine wto U (aH (eu (Pi w6 U) ?_))
   refine aH (eu (v:=zSN) (Hp w6 ty45 U U) ?_)
   refine bD (aH (JM (R:=eC.rp) (xs:=[]) (base:=none) (cap:=0) (G:=[]) (k:=n) (kn:=.i64) [] [] U w6 mR ty45 zc45 U (by decide) bytes45 cN.nil U U U h0 (by simp;omega) (by simp;omega) (by simp;omega) (λbk cl sp cap hc hl hcap=>?_)))
   refine bD (E6 w6 U (aH (eu (JV (m:=0) w6 ty45 U U (xH _)) ?_)))
   refine wot U ?_
   exact nm hF (λa ha w hw=>res1 U a ha w) (λw hw=>hw.lower) ⟨hX,zAD bk,cap,U,.inr ⟨bk,cl,sp,U,hc,hl,xH _,xH _,U⟩⟩
theorem Ac(h)(ls:List (List Int))(b c)(hl:SlC (Wx jB) h b c ls)(hsz:ls.length<=100)(hsy:∀y∈ls,y.length<=2000000):QQ prog 136 [.slice b ls.length c] h jB 3 ls.flatten:=by
 refine sT func136 U ntmps136 U λX hM hX hF=>?_
 have hbd:=KD ls 0 2000000 hsy
 have hfl:=Ei ls 0
 have htk:=λ(i:Nat)(y:List Int)(r:List (List Int))(hd:ls.drop i=y::r)=>JF hd
 generalize hz:ls.flatten=z at *
 refine wtt U ?_
 refine lp2 ls (λi(g:Nat)=>[(0,.slice b ls.length c),(3,I (g:Int)),(9,.slice b ls.length c),(10,I (ls.length:Int)),(11,I (i:Int))]) (λ_=>h) (λ_=>[]) (λi g=>g<=i*2000000) (λs i g=>sumL s g) 0 (by omega) U (by omega) (λi g hi hs hg e=>?_) (λi g y r hd hlt hget hltp hbd' hs hg hx ag e=>?_)
 . have hn:z.length=g:=by have:sumL ls 0=g:=hs;omega
   refine wto U (aH (Dh call203 (Cm h g (by omega)) U (λb1 c1 G1 hG1=>?_)))
   refine wot U ?_
   refine lp2 ls (λi(w:List Int×Option Addr×Nat×LH)=>[(6,.slice w.2.1 w.1.length w.2.2.1),(25,.slice b ls.length c),(26,I (ls.length:Int)),(27,I (i:Int))]) (λ_=>h) (λw=>w.2.2.2) (λi w=>cN jB 3 h w.1 w.2.1 w.2.2.1 w.2.2.2/\w.1=(ls.take i).flatten) (λs i w=>w.1++s.flatten) ([],b1,c1,G1) (by omega) hz.symm ⟨hG1,U⟩ (λi w hi hs hw e=>?_) (λi w y r hd hlt hget hltp hbd' hs hw hx ag e=>?_)
   . obtain⟨w1,wb,wc,wG⟩:=w
     refine wtt U ?_
     have hs':z=w1:=hs.trans (List.append_nil _)
     subst hs'
     exact nm hF (λa ha w hw=>res1 U a ha w) (λw hw=>hw.lower) ⟨hX,wb,wc,U,hw.1⟩
   . obtain⟨w1,wb,wc,wG⟩:=w
     obtain⟨hw,hwt⟩:=hw
     dsimp only at hw hwt hs
     have htf:=htk i y r hd
     rw[←hwt]at htf
     refine wtt U (wcT U hlt ?_)
     refine wto U (wix U U U U hl U (nthZ hget) (iC hget) (λq cs hA hl' hr=>?_))
     obtain⟨yb,yc,rfl,hy⟩:=hr
     refine wlh0 U U hA (woo U ?_)
     refine wap U U hw U pmg U hy U U U U (by omega) (by omega) (λbs cp G hG=>?_)
     refine wot U ?_
     exact ag (w1++y,bs,cp,G) (hs.trans (by simp)) ⟨hG,by rw[hwt,List.take_add_one,hget];simp⟩ ⟨U,U,U,n0 ob,trivial⟩
 . have hy:=hsy y (Iv hd)
   refine wtt U (wcT U hlt ?_)
   refine wto U (wix U U U U hl U (nthZ hget) (iC hget) (λq cs hA hl' hr=>?_))
   obtain⟨yb,yc,rfl,hyl⟩:=hr
   refine wlh0 U U hA ?_
   have hw:IntKind.i64.wrap ((g:Int)+(y.length:Int))=((g+y.length:Nat):Int):=by have:=lI (z:=((g+y.length:Nat):Int)) (by omega);injection this
   refine wot U (wcF U (decide_eq_false (by rw[hw];omega)) ?_)
   refine wtt U ?_
   exact ag (g+y.length) hs (by omega) ⟨U,congrArg I hw,U,U,n0 ob,trivial⟩
theorem za(h)(ls:List (List eC))(b c)(hl:SlC (Wx eC.rp) h b c ls)(hsz:ls.length<=100)(hsy:∀y∈ls,y.length<=2000000):QQ prog 23 [.slice b ls.length c] h eC.rp 45 ls.flatten:=by
 refine sT func23 U ntmps23 U λX hM hX hF=>?_
 have hbd:=KD ls 0 2000000 hsy
 have hfl:=Ei ls 0
 have htk:=λ(i:Nat)(y:List eC)(r:List (List eC))(hd:ls.drop i=y::r)=>JF hd
 generalize hz:ls.flatten=z at *
 refine wtt U ?_
 refine lp2 ls (λi(g:Nat)=>[(0,.slice b ls.length c),(3,I (g:Int)),(9,.slice b ls.length c),(10,I (ls.length:Int)),(11,I (i:Int))]) (λ_=>h) (λ_=>[]) (λi g=>g<=i*2000000) (λs i g=>sumL s g) 0 (by omega) U (by omega) (λi g hi hs hg e=>?_) (λi g y r hd hlt hget hltp hbd' hs hg hx ag e=>?_)
 . have hn:z.length=g:=by have:sumL ls 0=g:=hs;omega
   refine wto U (aH (Dh call71 (BB h g (by omega)) U (λb1 c1 G1 hG1=>?_)))
   refine wot U ?_
   refine lp2 ls (λi(w:List eC×Option Addr×Nat×LH)=>[(6,.slice w.2.1 w.1.length w.2.2.1),(25,.slice b ls.length c),(26,I (ls.length:Int)),(27,I (i:Int))]) (λ_=>h) (λw=>w.2.2.2) (λi w=>cN eC.rp 45 h w.1 w.2.1 w.2.2.1 w.2.2.2/\w.1=(ls.take i).flatten) (λs i w=>w.1++s.flatten) ([],b1,c1,G1) (by omega) hz.symm ⟨hG1,U⟩ (λi w hi hs hw e=>?_) (λi w y r hd hlt hget hltp hbd' hs hw hx ag e=>?_)
   . obtain⟨w1,wb,wc,wG⟩:=w
     refine wtt U ?_
     have hs':z=w1:=hs.trans (List.append_nil _)
     subst hs'
     exact nm hF (λa ha w hw=>res1 U a ha w) (λw hw=>hw.lower) ⟨hX,wb,wc,U,hw.1⟩
   . obtain⟨w1,wb,wc,wG⟩:=w
     obtain⟨hw,hwt⟩:=hw
     dsimp only at hw hwt hs
     have htf:=htk i y r hd
     rw[←hwt]at htf
     refine wtt U (wcT U hlt ?_)
     refine wto U (wix U U U U hl U (nthZ hget) (iC hget) (λq cs hA hl' hr=>?_))
     obtain⟨yb,yc,rfl,hy⟩:=hr
     refine wlh0 U U hA (woo U ?_)
     refine wap U U hw U pmg U hy U U U U (by omega) (by omega) (λbs cp G hG=>?_)
     refine wot U ?_
     exact ag (w1++y,bs,cp,G) (hs.trans (by simp)) ⟨hG,by rw[hwt,List.take_add_one,hget];simp⟩ ⟨U,U,U,n0 ob,trivial⟩
 . have hy:=hsy y (Iv hd)
   refine wtt U (wcT U hlt ?_)
   refine wto U (wix U U U U hl U (nthZ hget) (iC hget) (λq cs hA hl' hr=>?_))
   obtain⟨yb,yc,rfl,hyl⟩:=hr
   refine wlh0 U U hA ?_
   have hw:IntKind.i64.wrap ((g:Int)+(y.length:Int))=((g+y.length:Nat):Int):=by have:=lI (z:=((g+y.length:Nat):Int)) (by omega);injection this
   refine wot U (wcF U (decide_eq_false (by rw[hw];omega)) ?_)
   refine wtt U ?_
   exact ag (g+y.length) hs (by omega) ⟨U,congrArg I hw,U,U,n0 ob,trivial⟩
theorem CA(h w S4 S3 lm oa n9 who_q p i8 p_q)(d:ao)(AW:ox)(d_q)(hs_:List (List cq))(Ve Vd hs_q)(hw:SlC jB h S4 S3 w)(hwho:SlC jB h oa n9 lm)(awho:At h who_q [.slice oa lm.length n9])(hp:aw.ok h p i8)(ap_:At h p_q (aw.cells p i8))(ad_:At h d_q (ao.cells d AW))(hhs:SlC (Wx cq.rp) h Ve Vd hs_)(ahs:At h hs_q [.slice Ve hs_.length Vd])(hsm:smP p)(hsz:∀y∈hs_,y.length<=2000000)(hl1:lm.length<=1000000)(hl2:w.length<=1000000)(hk:dQ h):
  Ret prog 135 [.slice S4 w.length S3,.pointer (some who_q),.pointer (some p_q),.pointer (some d_q),.pointer (some hs_q)] h (.bool (pO w lm p d hs_)):=by
 refine sT func135 U ntmps135 U λX hM hX hF=>?_
 generalize hz:pO w lm p d hs_=z;have hs:=hz.symm
 refine wto U (wlh0 U U awho ?_)
 refine woo U ?_
 refine aH (bT (cells:=[.slice oa lm.length n9,.slice S4 w.length S3]) underlying272 ty31 zc31 U U kr (λb1=>cv 0 U hM (λh1 hle1 hb1=>?_)))
 have hcat:SlC (Wx jB) h1 (zAD b1) 2 [lm,w]:=slL hb1 lf (cCo (R:=Wx jB) (cs:=[.slice oa lm.length n9]) (show(Wx jB).rep h1 _ lm from⟨_,_,rfl,slm hwho hle1⟩) rfl (cCo (R:=Wx jB) (cs:=[.slice S4 w.length S3]) (show(Wx jB).rep h1 _ w from⟨_,_,rfl,slm hw hle1⟩) rfl cNi)) (by simp) (by simp)
 refine aH (Dh call136 (Ac h1 [lm,w] _ 2 hcat (by simp) (by simp;omega)) U (λb2 c2 G hG=>?_))
 have hfl:[lm,w].flatten=lm++w:=by simp
 rw[hfl]at hG ⊢
 refine woo U ?_
 refine aH (m6 [] G [] OT (mJ h1 _ _ _ G hG (by simp;omega)) ap U (λG2 hG2=>?_))
 refine wot U ?_
 refine fo ([]) mixed kr jn (λim _=>?_)
 refine tf 0 U U (λ_ _ hj=>oE ty61 ((ap_.mono hle1).mono hj.1) U U) ?_
 refine qB [1] U (tf 2 U U (rH 2 ty3 (ad_.mono hle1) U U) ?_)
 refine qB [3] U (tf 4 U U (rH 3 ty3 (ad_.mono hle1) U U) ?_)
 refine tf 5 U U (rh ty190 (ahs.mono hle1) U) ?_
 refine qA [6] U ?_
 refine tn 7 U ?_
 refine m6 (v:=.slice b2 (slices_Compact_int (sortI (lm++w))).length c2) [] G2 [] call95 (oy h1 _ _ _ _ hG2) U (by simp only[iL];rfl) (λG3 hG3=>⟨jn,?_⟩)
 refine tn 8 U ?_
 refine Bi qJ [] G3 [] U hM hG3 (λh2 hle2 sl2=>?_)
 have db:=jA hle1 hle2
 have hcl:(slices_Compact_int (sortI (lm++w))).length<=2000000:=qM (Ny _) (by rw[iL];simp;omega)
 refine gu call137 (u0 h2 p i8 d.Kind d.Value hs_ _ _ _ _ _ (hp.mono db) (slm hhs db) sl2 hsm hsz hcl (hk.mono db)) U ⟨jl hle2,tu hle2 ?_⟩
 refine qR 9 5 U (bW kr ?_)
 exact W
theorem Ly(a b):cmp_Compare_int a b<0↔a<b:=by
 have h1:∀x,cmp_isNaN_int x=false:=λx=>by simp[cmp_isNaN_int]
 simp only[cmp_Compare_int,h1,cond_false]
 by_cases h:a<b
 .simp[h]
 simp only[h,decide_false,cond_false,iff_false]
 by_cases h':b<a<;>simp[h']
theorem xm(h r sR d AW)(no at_ ah:Int)(hr:vK h r sR)(hd:ao.ok h d AW)(hsm:smR r)(hk:dQ h)(hso:r.Versions.Pairwise λa b=>a.No<b.No)(hin:bsPos aD.No r.Versions no<r.Versions.length)(hof:(nthI r.Versions (bsPos aD.No r.Versions no)).aw.aB.length<=1000)(hpl:(fI r d.No no at_ ah).1.length<=1000000):
   j4 prog 66 [.agg (kC r sR).toArray,.agg (ao.cells d AW).toArray,I no,I at_,I ah] h (λv h'=>FnC h' v (j6 r d no at_ ah)):=by
 refine sT func66 U ntmps66 U λX hM hX hF=>?_
 obtain⟨k,hkk⟩:∃k,bsPos aD.No r.Versions no=k:=⟨_,rfl⟩
 have hsp:=CR aD.No no r.Versions hso
 rw[hkk]at hin hof hsp
 generalize hpe:nthI r.Versions (k:Int)=ver at *
 have hvm:ver∈r.Versions:=by rw[←hpe];exact pI (by omega)
 have hsp_:smP ver.aw:=hsm.vers.2 _ hvm
 have hfun:j6 r d no at_ ah=λw=>pO w (fI r d.No no at_ ah).1 ver.aw d ((qE ver.aw.aB.length).map (gY r at_ ah)):=by
  funext w;unfold j6;rw[hkk,hpe]
 rw[hfun]
 refine wto U (eL (λb5=>eL (λb6=>?_)))
 refine woo U (wld U U nthA U ?_)
 refine woo U ?_
 refine aX call131 (pT h r.Versions _ _ no tC (.func (.func 132) #[] #[]) k hr.Versions (λh' a0 r0 a1 hl hok=>ip call132 (CB h' a0 r0 a1 hok)) (by omega) (λi y hi hy=>(Ly _ _).2 (hsp.1 i y hi hy)) (λi y hi hy hc=>hsp.2 i y hi hy ((Ly _ _).1 hc)) hsm.vers.len) U ?_
 refine woo U (wld U U nthA U ?_)
 refine woo U (wix U U U U hr.Versions U (z:=(k:Int)) (y:=ver) (by omega) (by rw[←hpe];exact dC (by omega)) (λq cs hA hl hr0=>?_))
 obtain⟨vr,rfl,hv⟩:=hr0
 have hp:=hv.aw
 refine woo U (wlhS U U hA ?_)
 refine aH (wal U (λb13=>?_))
 refine wsW U U U nthA U U U ?_
 refine rn ?_
 refine wld U U nthA U ?_
 refine rn ?_
 refine aH (GE (R:=Wx cq.rp) (x0:=[]) (m:=ver.aw.aB.length) (λG=>[(b13,_),(b6,_),(b5,_)]++G) U ⟨none,0,U,qG⟩ (λ_=>U) LQ zc191 ty191 bytes191 U U (by omega) (by omega) (λbk G hG=>?_))
 refine aH (wal U (λb14=>?_))
 refine wst U U nthA U U U U ?_
 refine rn ?_
 refine wld U U nthA U ?_
 refine rn ?_
 have hlr:(qE ver.aw.aB.length).length=ver.aw.aB.length:=List.length_range
 have hrep:(List.replicate ver.aw.aB.length ([]:List cq)).length=ver.aw.aB.length:=List.length_replicate
 refine lp2 (qE ver.aw.aB.length) (λi(g:List (List cq)×LH×HF)=>[(2,I no),(3,I at_),(4,I ah),(5,Q b5),(6,Q b6),(13,Q b13),(14,Q b14),(36,I ((qE ver.aw.aB.length).length:Int)),(37,I (i:Int))]) (λg=>g.2.2) (λg=>[(b14,O [.slice (zAD bk) (List.replicate ver.aw.aB.length ([]:List cq)).length ver.aw.aB.length] 190),(b13,O (aw.cells ver.aw vr.aw) 61),(b6,O (ao.cells d AW) 54),(b5,O (kC r sR) 30)]++g.2.1) (λi g=>cN (Wx cq.rp) 191 g.2.2 g.1 (zAD bk) ver.aw.aB.length g.2.1/\g.1.length=ver.aw.aB.length/\h.le g.2.2) (λs i g=>g.1.take i++s.map (gY r at_ ah)) (List.replicate ver.aw.aB.length [],G,h) (by omega) (U:((qE ver.aw.aB.length).map (gY r at_ ah))=_) ⟨hG,hrep,kH _⟩ (λi g hi hs2 hg e=>?_) (λi g y rr hd hlt hget hltp hbd hs2 hg hx ag e=>?_) (h0:=⟨U,U,U,U,U,U,U,congrArg (λm:Nat=>I (m:Int)) (hrep.trans hlr.symm),U,trivial⟩)
 . obtain⟨g1,G1,hh⟩:=g
   obtain⟨hG1,hg2,hl⟩:=hg
   dsimp only at hG1 hg2 hl hs2
   have hg3:(qE ver.aw.aB.length).map (gY r at_ ah)=g1:=by
     have h1:=congrArg List.length hs2
     simp only[List.length_map,Wr,List.append_nil,List.length_take,List.length_range]at h1
     rw[hs2,Wr,List.append_nil,List.take_of_length_le (by omega)]
   rw[hg3]
   refine rn ?_
   refine du 3 ty30 U U U ?_
   refine rn ?_
   refine wld U U nthA U ?_
   refine rn ?_
   refine aH (cw call134 (FT hh r sR d.No no at_ ah (hr.mono hl) hsm (hk.mono hl)) U (λv h2 hle2 hp2=>?_))
   obtain⟨rb,rc,rfl,sl⟩:=hp2
   refine rn ?_
   refine aH (wal U (λb16=>?_))
   refine wst U U nthA U U U U ?_
   refine rn ?_
   refine wfgo (Q:=[(b16,O [.slice rb (fI r d.No no at_ ah).1.length rc] 31),(b14,O [.slice (zAD bk) (List.replicate ver.aw.aB.length ([]:List cq)).length ver.aw.aB.length] 190),(b13,O (aw.cells ver.aw vr.aw) 61),(b6,O (ao.cells d AW) 54),(b5,O (kC r sR) 30)]) (grm hG1 hle2) (List.Perm.refl _) hM (λh3 hle3 slh=>?_)
   refine wmz 0 U U nthA hM (λh4 hle4 a16=>?_)
   refine wmz 1 U U nthA hM (λh5 hle5 a13=>?_)
   refine wmz 2 U U nthA hM (λh6 hle6 a6=>?_)
   refine wmz 3 U U nthA hM (λh7 hle7 a14=>?_)
   refine aH (wmf ?_)
   refine rn ?_
   refine wrH [.func (.func 135) #[] #[Q b16,Q b13,Q b6,Q b14]] hF U rdd ?_
   have l6:=hle7
   have l5:=jA hle6 l6
   have l4:=jA hle5 l5
   have l3:=jA hle4 l4
   have l2:=jA hle3 l3
   have l1:=jA hle2 l2
   have l0:=jA hl l1
   have a14:At h7 ⟨b14,0,none⟩ [.slice (zAD bk) g1.length ver.aw.aB.length]:=by rw[hg2,←hrep];simpa using a14
   refine⟨⟨_,_,_,U⟩,λh' w wb wc hle' hw hlw=>ip call135 (CA h' w wb wc _ rb rc ⟨b16,0,none⟩ ver.aw vr.aw ⟨b13,0,none⟩ d AW ⟨b6,0,none⟩ g1 (zAD bk) _ ⟨b14,0,none⟩ hw ((slm sl l2).mono qJ hle') ((a16.mono l4).mono hle') ((hp.mono l0).mono hle') ((a13.mono l5).mono hle') ((a6.mono l6).mono hle') ((slm slh l3).mono (Rp.KH cq.dl.mono).mono hle') (a14.mono hle') hsp_ ?_ hpl hlw (hk.mono (jA l0 hle')))⟩
   rw[←hg3]
   intro y hy
   obtain⟨j,_,rfl⟩:=zM.1 hy
   exact qM (Fx _ _ _ _) hsm.2.1
 . obtain⟨g1,G1,hh⟩:=g
   obtain⟨hG1,hg2,hl⟩:=hg
   dsimp only at hG1 hg2 hl hs2
   have hyi:y=i:=by rw[List.getElem?_range (by omega)]at hget;exact(Option.some.inj hget).symm
   subst hyi
   refine wtt U (wcT U hlt ?_)
   refine rn ?_
   refine fo ([(b14,O [.slice (zAD bk) (List.replicate ver.aw.aB.length ([]:List cq)).length ver.aw.aB.length] 190),(b5,O (kC r sR) 30)]) mixed kr jn (λim _=>?_)
   refine tf 0 U U (rj 0 ty190 U U U) ?_
   refine qB [1,2] U (tf 3 U U (rj 1 ty22 U U U) ?_)
   refine qA [4,5,6] U ?_
   refine tn 7 U (cw call133 (u9 hh r.dD _ _ (y:Int) at_ ah (slm hr.dD hl) hsm.2.1) U (λv h2 hle2 hp2=>?_))
   obtain⟨rb,rc,rfl,sl⟩:=hp2
   refine⟨jl hle2,tu hle2 ?_⟩
   refine qA [8,9,10] U ?_
   have hyl:y<ver.aw.aB.length:=by omega
   have hi2:g1[y]? = some g1[y]:=List.getElem?_eq_getElem (by omega)
   refine tf 11 U U (λ_ _ _=>nR (R:=Wx cq.rp) (xs:=g1) (z:=(y:Int)) LQ ty191 U (by omega) U (hrep.trans hg2.symm) U) ?_
   refine tn 12 rfl (uO (R:=Wx cq.rp) (xs:=g1) (u:=g1[y]) (u':=gY r at_ ah y) (v:=.slice rb (gY r at_ ah y).length rc) (off:=0) [(b14,O [.slice (zAD bk) (List.replicate ver.aw.aB.length ([]:List cq)).length ver.aw.aB.length] 190),(b13,O (aw.cells ver.aw vr.aw) 61),(b6,O (ao.cells d AW) 54),(b5,O (kC r sR) 30)] G1 [] ty191 rfl (grm hG1 hle2) (by simp) rfl hi2 (by decide) (λcs hc=>by obtain⟨_,_,rfl,_⟩:=hc;exact⟨rb,rc,rfl,sl⟩) rfl rfl rfl (λG2 hG2=>⟨jn,bW kr ?_⟩))
   refine rn ?_
   have hs3:((qE ver.aw.aB.length).map (gY r at_ ah))=(g1.set y (gY r at_ ah y)).take (y+1)++rr.map (gY r at_ ah):=by
     rw[hs2,vH,List.take_add_one,List.take_set,List.getElem?_set_self (by omega)]
     have hset:(List.take y g1).set y (gY r at_ ah y)=List.take y g1:=List.set_eq_of_length_le (by rw[List.length_take];omega)
     simp[hset]
   exact wsb (ag (g1.set y (gY r at_ ah y),G2,h2) hs3 ⟨hG2,by simpa using hg2,jA hl hle2⟩ ⟨U,U,U,U,U,U,U,U,n0 (by omega),trivial⟩) jsA lf hX (jA hl hle2)
theorem Ey(h w S4 S3 e_ e_q)(vs:List (List Int->Bool))(Uk Uj vs_q mode mode_q)(hw:SlC jB h S4 S3 w)(ae:At h e_q [I e_])(hvs:SlC rpFn h Uk Uj vs)(avs:At h vs_q [.slice Uk vs.length Uj])(am:At h mode_q [I mode])(hl:vs.length<=1000000)(hlw:w.length<=1000000):
  Ret prog 67 [.slice S4 w.length S3,.pointer (some e_q),.pointer (some vs_q),.pointer (some mode_q)] h (.bool (ot w e_ vs mode)):=by
 refine sT func67 U ntmps67 U λX hM hX hF=>?_
 generalize hz:ot w e_ vs mode=z;have hs:=hz.symm
 refine wto U (wlh0 U U ae ?_)
 refine wot U (wcond U hs (λc hs=>?_) (λc hs=>?_))
 . exact W
 refine wto U (wlh0 U U avs ?_)
 refine woo U ?_
 refine aH (GE (R:=vV) (x0:=false) (m:=vs.length) (λG=>[]++G) U U (λ_=>U) Ef zc4 ty4 bytes4 U U (by omega) (by omega) (λbk G hG=>?_))
 refine woo U (wlh0 U U avs ?_)
 refine wot U ?_
 refine lp2 vs (λi(g:List Bool×LH)=>[(0,.slice S4 w.length S3),(3,.pointer (some mode_q)),(6,.slice (zAD bk) vs.length vs.length),(16,.slice Uk vs.length Uj),(17,I (vs.length:Int)),(18,I (i:Int))]) (λ_=>h) (λg=>g.2) (λi g=>cN vV 4 h g.1 (zAD bk) vs.length g.2/\g.1.length=vs.length) (λs i g=>g.1.take i++s.map λf=>f w) (List.replicate vs.length false,G) (by omega) (U:(vs.map λf=>f w)=_) ⟨hG,by simp⟩ (λi g hi hs2 hg e=>?_) (λi g y r hd hlt hget hltp hbd hs2 hg hx ag e=>?_) (h0:=⟨U,U,congrArg (λm=>Value.slice (zAD bk) m vs.length) List.length_replicate,U,U,U,trivial⟩)
 . obtain⟨g1,G1⟩:=g
   obtain⟨hG1,hg2⟩:=hg
   dsimp only at hG1 hg2 hs2
   have hg3:(vs.map λf=>f w)=g1:=by
     have h1:=congrArg List.length hs2
     simp only[List.length_map,Wr,List.append_nil,List.length_take]at h1
     rw[hs2,Wr,List.append_nil,List.take_of_length_le (by omega)]
   refine wto U (wlh0 U U am ?_)
   refine woo U (wfgo hG1 pmg hM (λh2 hle2 sl2=>?_))
   have hvv:Value.slice (zAD bk) vs.length vs.length=.slice (zAD bk) g1.length vs.length:=by rw[hg2]
   refine aX call68 (uG h2 mode g1 _ _ sl2 (by omega)) (congrArg (λv=>[I mode,v]) hvv) ?_
   rw[hg3]at hs
   exact W
 . obtain⟨g1,G1⟩:=g
   obtain⟨hG1,hg2⟩:=hg
   dsimp only at hG1 hg2 hs2
   refine wtt U (wcT U hlt ?_)
   refine wto U (wix U U U U hvs U (nthZ hget) (iC hget) (λq1 cs hA hl' hr=>?_))
   obtain⟨v,rfl,h1v,hv⟩:=hr
   refine wlh0 U U hA ?_
   refine woo U ?_
   refine aH (j8 (v:=.bool (y w)) [] (List.nil_sublist _) (hv h w S4 S3 lf hw hlw) U U ?_)
   have hi2:g1[i]? = some g1[i]:=List.getElem?_eq_getElem (by omega)
   refine aH (eu (nR (R:=vV) (xs:=g1) (z:=(i:Int)) Ef ty4 U (by omega) U hg2.symm U) ?_)
   refine aH (uO (R:=vV) (xs:=g1) (u:=g1[i]) (u':=y w) (v:=.bool (y w)) (off:=0) [] G1 [] ty4 U hG1 (by simp) U hi2 (by decide) (λcs hc=>by rw[show cs=[.bool g1[i]]from hc];rfl) U U U (λG2 hG2=>?_))
   refine wot U ?_
   have hs3:(vs.map λf=>f w)=(g1.set i (y w)).take (i+1)++r.map λf=>f w:=by
     rw[hs2,vH,List.take_add_one,List.take_set,List.getElem?_set_self (by omega)]
     have hset:(List.take i g1).set i (y w)=List.take i g1:=List.set_eq_of_length_le (by rw[List.length_take];omega)
     simp[hset]
   have hG3:cN vV 4 h (g1.set i (y w)) (zAD bk) vs.length ([]++(G2++[])):=by simpa using hG2
   exact ag (g1.set i (y w),[]++(G2++[])) hs3 ⟨hG3,by simpa using hg2⟩ ⟨U,U,U,U,U,n0 (by omega),trivial⟩
theorem R8(h:p:=by
  refine tn 8 U (qf 0 U hM (λh9 hle9 f9=>?_))
  have hys:SlC rpFn h9 (zAD b3) 1 [j6 r d y at_ ah]:=slL f9 lf (cCo (R:=rpFn) (cs:=[.func fn0 fi0 ca0]) ⟨_,rfl,hfn.mono hle9⟩ rfl cNi) (by simp) (by simp)
  refine eN JO [(b32,O [.slice vb vs1.length vc] 134),(b31,O [I (aM r.Versions d.At at_ ah).2.2] 36),(b30,O [I (aM r.Versions d.At at_ ah).2.1] 3),(b17,O (ao.cells d dr) 54),(b14,O (fA.cells (bj r signed u ba at_ ah).1 vr) 40),(b12,O [.bool ((bj r signed u ba at_ ah).1.State==1),.slice fb (eD (hZ r d at_ ah)).length fc,.slice nb n1.length nc,.slice ob o1.length oc,.nilFunc] 79),(b6,O (Register.cells r sR) 30)] [] (λG=>[(b32,O [.slice vb vs1.length vc] 134),(b31,O [I (aM r.Versions d.At at_ ah).2.2] 36),(b30,O [I (aM r.Versions d.At at_ ah).2.1] 3),(b17,O (ao.cells d dr) 54),(b14,O (fA.cells (bj r signed u ba at_ ah).1 vr) 40),(b12,O [.bool ((bj r signed u ba at_ ah).1.State==1),.slice fb (eD (hZ r d at_ ah)).length fc,.slice nb n1.length nc,.slice ob o1.length oc,.nilFunc] 79),(b6,O (Register.cells r sR) 30)]++G) (by simp[dropNth]) (λ_=>U) underlying134 ty77 zc77 U bytes77 (grm hvG (HF.le_trans hle8 hle9)) U U (mi hys.1) (by simp only[List.length_cons,List.length_nil];omega) (by simp only[List.length_cons,List.length_nil];omega) (λbs cp G2 hG2=>?_)
  refine⟨jl hle9,tu hle9 ?_⟩
  refine tn 9 U (lK 0 ty134 U U U U U U ?_)
  refine⟨jn,bW kr ?_⟩
  refine rn ?_
  exact ag (vs1++[j6 r d y at_ ah],bs,cp,G2,h9) (by rw[hs2,List.map_cons];simp) ⟨hG2,by simp;omega,HF.le_trans lhh (HF.le_trans hle8 hle9)⟩ ⟨U,U,U,U,U,U,U,U,U,U,U,U,U,U,n0 (by omega),trivial⟩):p:=h
theorem R7(h:p:=by
  refine tn 7 U (bT (cells:=[.func fn0 fi0 ca0]) underlying134 ty77 zc77 U U kr (λb3=>?_))
  refine⟨jn,?_⟩
  exact R8):p:=h
theorem Ay(h r sR signed pM pD u qs qp)(ba at_ ah:Int)(hr:vK h r sR)(hsi:SlC jB h pM pD signed)(hu:SlC W0 h qs qp u)(hsm:smR r)(hln:r.cj.length<20)(hk:dQ h)(hok:(bj r signed u ba at_ ah).2=0->vw r ba at_ ah):
   j4 prog 20 [.agg (kC r sR).toArray,.slice pM signed.length pD,.slice qs u.length qp,I ba,I at_,I ah] h (λv h'=>QOk h' v (iI r signed u ba at_ ah).1 (iI r signed u ba at_ ah).2):=by
 refine sT func20 U ntmps20 U λX hM hX hF=>?_
 refine wto U (eL (λb6=>?_))
 refine aH (wal U (λb12=>?_))
 refine rn ?_
 refine du 1 ty30 U U U ?_
 refine rn ?_
 refine aH (cw call9 (AE h r sR signed _ _ u _ _ ba at_ ah hr hsi hu hsm hln hk) U (λv h1 hle1 hp1=>?_))
 obtain⟨vr,rfl,okv⟩:=hp1
 refine rn ?_
 refine aH (wal U (λb14=>?_))
 refine wsW U U U nthA U U U ?_
 refine rn ?_
 cases hj:((bj r signed u ba at_ ah).2 != 0)with
 |true=>
  refine wcT U U ?_
  refine rn ?_
  refine du 1 ty79 U U U ?_
  refine rn ?_
  refine wsW U U U nthA U U U ?_
  refine rn ?_
  refine wrH [.agg #[.bool false,zSN,zSN,zSN,.nilFunc],I (bj r signed u ba at_ ah).2] hF U rdR ?_
  have hq:iI r signed u ba at_ ah=(⟨false,[],[],[],λ_=>false⟩,(bj r signed u ba at_ ah).2):=by unfold iI;rw[hj];rfl
  rw[hq]
  refine⟨none,0,none,0,none,0,.nilFunc,U,U,qG,qG,qG,λh0=>?_⟩
  rw[show(bj r signed u ba at_ ah).2=0 from h0]at hj;cases hj
 |false=>
  have hj0:(bj r signed u ba at_ ah).2=0:=by simpa using hj
  have ok:=hok hj0
  have hq:iI r signed u ba at_ ah=(jq r signed u ba at_ ah (gI r ba),0):=by unfold iI;rw[hj];rfl
  rw[hq]
  obtain⟨odocs,odin,overs,ovin,ovlen,oflen,onlen,oslen⟩:=ok
  have hdk:nthI r.cj ((bsPos ao.No r.cj ba:Nat):Int)=gI r ba:=rfl
  generalize gI r ba=d at *
  have hsp:=CR ao.No ba r.cj odocs
  generalize bsPos ao.No r.cj ba=k at *
  refine wcF U U ?_
  refine rn ?_
  refine wld U U nthA U ?_
  refine rn ?_
  refine aX call59 (pE h1 r.cj _ _ ba wR (.func (.func 60) #[] #[]) k (slm hr.cj hle1) (λh' a0 r0 a1 hl hok=>ip call60 (Ez h' a0 r0 a1 hok)) (by omega) (λi y hi hy=>(Ly _ _).2 (hsp.1 i y hi hy)) (λi y hi hy hc=>hsp.2 i y hi hy ((Ly _ _).1 hc)) hsm.2.2.2.2.2.1) U ?_
  refine rn ?_
  refine wld U U nthA U ?_
  refine rn ?_
  refine wix U U U U (slm hr.cj hle1) U (z:=(k:Int)) (y:=d) (by omega) (by rw[←hdk];exact dC (by omega)) (λq cs hA hl hr0=>?_)
  obtain⟨dr,rfl,hd⟩:=hr0
  refine wlhs U U hA U ?_
  refine aH (wal U (λb17=>?_))
  refine wsW U U U nthA U U U ?_
  refine rn ?_
  refine wld U U nthA U ?_
  refine rn ?_
  refine wst U U nthA U U U U ?_
  refine rn ?_
  refine du 3 ty30 U U U ?_
  refine du 0 ty54 U U U ?_
  refine rn ?_
  refine aH (cw call62 (FQ h1 r sR d dr at_ ah (hr.mono hle1) hd hsm) U (λv h2 hle2 hp2=>?_))
  obtain⟨_,rfl,hit⟩:=hp2
  refine aH (cw call61 (zb h2 _ _ hit (by omega)) U (λv h3 hle3 hp3=>?_))
  obtain⟨fb,fc,rfl,slf⟩:=hp3
  refine rn ?_
  refine wst U U nthA U U U U ?_
  refine rn ?_
  refine wld U U nthA U ?_
  refine rn ?_
  have l13:=jA hle2 hle3
  have l03:=jA hle1 l13
  refine aH (cw call27 (oY h3 r.cj _ _ signed _ _ at_ (slm hr.cj l03) (slm hsi l03) hln) U (λv h4 hle4 hp4=>?_))
  obtain⟨gb,gc,rfl,slg⟩:=hp4
  have l04:=jA l03 hle4
  refine rn ?_
  refine wld U U nthA U ?_
  refine rn ?_
  have l14:=jA l13 hle4
  refine lp2 d.fm (λi(w:List Int×Option Addr×Nat×LH)=>[(1,.slice pM signed.length pD),(2,.slice qs u.length qp),(3,I ba),(4,I at_),(5,I ah),(6,Q b6),(12,Q b12),(14,Q b14),(17,Q b17),(18,.slice gb (bA r.cj signed at_).1.length gc),(81,.slice dr.Eb d.fm.length dr.Ea),(82,I (d.fm.length:Int)),(83,I (i:Int))]) (λ_=>h4) (λw=>[(b17,O (ao.cells d dr) 54),(b14,O (fA.cells (bj r signed u ba at_ ah).1 vr) 40),(b12,O [.bool ((bj r signed u ba at_ ah).1.State==1),.slice fb (eD (hZ r d at_ ah)).length fc,.slice w.2.1 w.1.length w.2.2.1,zSN,.nilFunc] 79),(b6,O (kC r sR) 30)]++w.2.2.2) (λi w=>cN jB 3 h4 w.1 w.2.1 w.2.2.1 w.2.2.2/\w.1.length<=i) (λs i w=>iX (bA r.cj signed at_).1 s w.1) ([],none,0,[]) (by omega) (U:iX (bA r.cj signed at_).1 d.fm []=_) ⟨cN.nil,vE _⟩ (λi w hi hs2 hw e=>?_) (λi w y rr hd1 hlt hget hltp hbd hs2 hw hx ag e=>?_)
  . obtain⟨n1,nb,nc,nG⟩:=w
    obtain⟨hnG,hn2⟩:=hw
    dsimp only at hnG hn2 hs2
    have hn3:iX (bA r.cj signed at_).1 d.fm []=n1:=hs2
    refine wfg (Q:=[(b17,O (ao.cells d dr) 54),(b14,O (fA.cells (bj r signed u ba at_ ah).1 vr) 40),(b12,O [.bool ((bj r signed u ba at_ ah).1.State==1),.slice fb (eD (hZ r d at_ ah)).length fc,.slice nb n1.length nc,zSN,.nilFunc] 79),(b6,O (kC r sR) 30)]) hnG (List.Perm.refl _) hM (λh5 hle5 sln=>?_)
    have l05:=jA l04 hle5
    refine rn ?_
    refine wld U U nthA U ?_
    refine rn ?_
    refine wld U U nthA U ?_
    refine rn ?_
    refine aH (cw call64 (BM h5 r.dN _ _ d.Kind at_ ah (slm hr.dN l05) hsm.2.2.2.2.1) U (λv h6 hle6 hp6=>?_))
    obtain⟨sb,sc,rfl,sls⟩:=hp6
    have l06:=jA l05 hle6
    have l16:=jA (jA l14 hle5) hle6
    refine rn ?_
    refine lp2 (dK r.dN d.Kind at_ ah).1 (λi(w:List Int×Option Addr×Nat×LH)=>[(1,.slice pM signed.length pD),(2,.slice qs u.length qp),(3,I ba),(4,I at_),(5,I ah),(6,Q b6),(12,Q b12),(14,Q b14),(17,Q b17),(108,.slice sb (dK r.dN d.Kind at_ ah).1.length sc),(109,I (((dK r.dN d.Kind at_ ah).1.length:Nat):Int)),(110,I (i:Int))]) (λ_=>h6) (λw=>[(b17,O (ao.cells d dr) 54),(b14,O (fA.cells (bj r signed u ba at_ ah).1 vr) 40),(b12,O [.bool ((bj r signed u ba at_ ah).1.State==1),.slice fb (eD (hZ r d at_ ah)).length fc,.slice nb n1.length nc,.slice w.2.1 w.1.length w.2.2.1,.nilFunc] 79),(b6,O (kC r sR) 30)]++w.2.2.2) (λi w=>cN jB 3 h6 w.1 w.2.1 w.2.2.1 w.2.2.2/\w.1.length<=i) (λs i w=>ir u d at_ ah s w.1) ([],none,0,[]) (by omega) (U:ir u d at_ ah (dK r.dN d.Kind at_ ah).1 []=_) ⟨cN.nil,vE _⟩ (λi w hi hs2 hw e=>?_) (λi w y rr hd1 hlt hget hltp hbd hs2 hw hx ag e=>?_)
    . obtain⟨o1,ob,oc,oG⟩:=w
      obtain⟨hoG,ho2⟩:=hw
      dsimp only at hoG ho2 hs2
      have ho3:ir u d at_ ah (dK r.dN d.Kind at_ ah).1 []=o1:=hs2
      refine wfg (Q:=[(b17,O (ao.cells d dr) 54),(b14,O (fA.cells (bj r signed u ba at_ ah).1 vr) 40),(b12,O [.bool ((bj r signed u ba at_ ah).1.State==1),.slice fb (eD (hZ r d at_ ah)).length fc,.slice nb n1.length nc,.slice ob o1.length oc,.nilFunc] 79),(b6,O (kC r sR) 30)]) hoG (List.Perm.refl _) hM (λh7 hle7 slo=>?_)
      have l07:=jA l06 hle7
      refine rn ?_
      refine wld U U nthA U ?_
      refine rn ?_
      refine wld U U nthA U ?_
      refine rn ?_
      refine aH (cw call65 (uF h7 r.Versions _ _ d.At at_ ah (slm hr.Versions l07) hsm.vers (hk.mono l07)) U (λv h8 hle8 hp8=>?_))
      obtain⟨jb,jc,rfl,slj⟩:=hp8
      have l08:=jA l07 hle8
      have l18:=jA (jA l16 hle7) hle8
      refine rn ?_
      refine aH (wal U (λb30=>?_))
      refine aH (wal U (λb31=>?_))
      refine rn ?_
      refine wst U U nthA U U U U ?_
      refine wst U U nthA U U U U ?_
      refine rn ?_
      refine aH (wal U (λb32=>?_))
      refine rn ?_
      refine lp2 (aM r.Versions d.At at_ ah).1 (λi(w:List (List Int->Bool)×Option Addr×Nat×LH×HF)=>[(1,.slice pM signed.length pD),(2,.slice qs u.length qp),(3,I ba),(4,I at_),(5,I ah),(6,Q b6),(12,Q b12),(14,Q b14),(17,Q b17),(30,Q b30),(31,Q b31),(32,Q b32),(149,.slice jb (aM r.Versions d.At at_ ah).1.length jc),(150,I (((aM r.Versions d.At at_ ah).1.length:Nat):Int)),(151,I (i:Int))]) (λw=>w.2.2.2.2) (λw=>[(b32,O [.slice w.2.1 w.1.length w.2.2.1] 134),(b31,O [I (aM r.Versions d.At at_ ah).2.2] 36),(b30,O [I (aM r.Versions d.At at_ ah).2.1] 3),(b17,O (ao.cells d dr) 54),(b14,O (fA.cells (bj r signed u ba at_ ah).1 vr) 40),(b12,O [.bool ((bj r signed u ba at_ ah).1.State==1),.slice fb (eD (hZ r d at_ ah)).length fc,.slice nb n1.length nc,.slice ob o1.length oc,.nilFunc] 79),(b6,O (kC r sR) 30)]++w.2.2.2.1) (λi w=>cN rpFn 77 w.2.2.2.2 w.1 w.2.1 w.2.2.1 w.2.2.2.1/\w.1.length<=i/\h8.le w.2.2.2.2) (λs i w=>w.1++s.map (λno=>j6 r d no at_ ah)) ([],none,0,[],h8) (by omega) (U:(aM r.Versions d.At at_ ah).1.map (λno=>j6 r d no at_ ah)=_) ⟨cN.nil,vE _,kH _⟩ (λi w hi hs2 hw e=>?_) (λi w y rr hd1 hlt hget hltp hbd hs2 hw hx ag e=>?_)
      . obtain⟨vs1,vb,vc,vG,hh⟩:=w
        obtain⟨hvG,hv2,lhh⟩:=hw
        dsimp only at hvG hv2 lhh hs2
        have hv3:(aM r.Versions d.At at_ ah).1.map (λno=>j6 r d no at_ ah)=vs1:=by rw[hs2];simp
        refine wfg (Q:=[(b32,O [.slice vb vs1.length vc] 134),(b31,O [I (aM r.Versions d.At at_ ah).2.2] 36),(b30,O [I (aM r.Versions d.At at_ ah).2.1] 3),(b17,O (ao.cells d dr) 54),(b14,O (fA.cells (bj r signed u ba at_ ah).1 vr) 40),(b12,O [.bool ((bj r signed u ba at_ ah).1.State==1),.slice fb (eD (hZ r d at_ ah)).length fc,.slice nb n1.length nc,.slice ob o1.length oc,.nilFunc] 79),(b6,O (kC r sR) 30)]) hvG (List.Perm.refl _) hM (λh9 hle9 slv=>?_)
        refine rn ?_
        refine wmz 0 U U nthA hM (λh10 hle10 a31=>?_)
        refine wmz 1 U U nthA hM (λh11 hle11 a32=>?_)
        refine wmz 2 U U nthA hM (λh12 hle12 a30=>?_)
        refine aH (wmf ?_)
        refine rn ?_
        refine wst U U nthA U U U U ?_
        refine rn ?_
        refine du 2 ty79 U U U ?_
        refine wsW U U U nthA U U U ?_
        refine rn ?_
        have hqq:jq r signed u ba at_ ah d=⟨(bj r signed u ba at_ ah).1.State==1,eD (hZ r d at_ ah),n1,o1,λw=>ot w (aM r.Versions d.At at_ ah).2.2 vs1 (aM r.Versions d.At at_ ah).2.1⟩:=by
          unfold jq;rw[hn3,ho3,hv3]
        rw[hqq]
        refine wrH [.agg #[.bool ((bj r signed u ba at_ ah).1.State==1),.slice fb (eD (hZ r d at_ ah)).length fc,.slice nb n1.length nc,.slice ob o1.length oc,.func (.func 67) #[] #[Q b31,Q b32,Q b30]],I 0] hF U rdR ?_
        have k11:=hle12
        have k10:=jA hle11 k11
        have k9:=jA hle10 k10
        have k8:=jA (jA lhh hle9) k9
        have k7:=jA hle8 k8
        have k5:=jA (jA hle6 hle7) k7
        have k3:=jA (jA hle4 hle5) k5
        refine⟨fb,fc,nb,nc,ob,oc,_,U,U,slm slf k3,slm sln k5,slm slo k7,λ_=>⟨⟨_,_,_,U⟩,λh' w wb wc hle' hw hlw=>?_⟩⟩
        exact ip call67 (Ey h' w wb wc (aM r.Versions d.At at_ ah).2.2 ⟨b31,0,none⟩ vs1 vb vc ⟨b32,0,none⟩ (aM r.Versions d.At at_ ah).2.1 ⟨b30,0,none⟩ hw ((a31.mono k10).mono hle') (slm slv (jA k9 hle')) ((a32.mono k11).mono hle') (a30.mono hle') (by omega) hlw)
      . obtain⟨vs1,vb,vc,vG,hh⟩:=w
        obtain⟨hvG,hv2,lhh⟩:=hw
        dsimp only at hvG hv2 lhh hs2
        have hym:=ovin y (Iv hd1)
        have l0h:=jA l08 lhh
        refine wtt U (wcT U hlt ?_)
        refine rn ?_
        refine wix U U U U (slm slj lhh) U (nthZ hget) (iC hget) (λq cs hA hl hr0=>?_)
        have hr0:=(hr0:cs=_)
        subst hr0
        refine wlh0 U U hA ?_
        refine rn ?_
        refine fo ([(b17,O (ao.cells d dr) 54),(b6,O (kC r sR) 30)]) mixed kr jn (λim _=>?_)
        refine tf 1 U U (λ_ _ hj=>lV ty30 U (hj.nth (i:=1) U) U) ?_
        refine tf 2 U U (λ_ _ hj=>lV ty54 U (hj.nth (i:=0) U) U) ?_
        refine qA [3,4,5] U ?_
        refine nn 0 6 kr U U ?_ ?_
        . refine eu (vy (off:=0) ty134 rfl (qP _ (kB ..)) rfl) ⟨jn,?_⟩
          refine tn 6 U (cw call66 (xm hh r sR d dr y at_ ah (hr.mono l0h) (hd.mono (jA l18 lhh)) hsm (hk.mono l0h) overs hym.1 hym.2.1 hym.2.2) U (λv h8' hle8 hfn=>?_))
          obtain⟨fn0,fi0,ca0,rfl⟩:=hfn.1
          refine⟨jl hle8,tu hle8 ?_⟩
          exact R7
        . refine cw call66 (xm hh r sR d dr y at_ ah (hr.mono l0h) (hd.mono (jA l18 lhh)) hsm (hk.mono l0h) overs hym.1 hym.2.1 hym.2.2) rfl (λv h8' hle8 hfn=>?_)
          obtain⟨fn0,fi0,ca0,rfl⟩:=hfn.1
          refine⟨jl hle8,tu hle8 ?_⟩
          refine nn 0 7 kr U U ?_ ?_
          . refine eu (vy (off:=0) ty134 rfl (qP _ (kB ..)) rfl) ⟨jn,?_⟩
            exact R7
          . refine bT (cells:=[.func fn0 fi0 ca0]) underlying134 ty77 zc77 rfl rfl kr (λb3=>?_)
            refine⟨jn,?_⟩
            refine tn 0 U (eu (vy (off:=0) ty134 U (jC _ (qP _ (kB ..))) U) ⟨jn,?_⟩)
            exact R8
    . obtain⟨o1,ob,oc,oG⟩:=w
      obtain⟨hoG,ho2⟩:=hw
      dsimp only at hoG ho2 hs2
      refine wtt U (wcT U hlt ?_)
      refine rn ?_
      refine wix U U U U sls U (nthZ hget) (iC hget) (λq cs hA hl hr0=>?_)
      have hr0:=(hr0:cs=_)
      subst hr0
      refine wlhs U U hA U ?_
      refine aH (wal U (λb25=>?_))
      refine wsW U U U nthA U U U ?_
      refine rn ?_
      refine du 0 ty73 U U U ?_
      refine aH (bT (cells:=vL y) C1 ty73 zc73 U U kr (λb3=>cv 0 U hM (λh7 hle7 f3=>?_)))
      have hys:SlC vQ h7 (zAD b3) 1 [y]:=slL f3 lf (cE y rfl rfl) (by simp) (by simp)
      have l07:=jA l06 hle7
      refine rn ?_
      refine wld U U nthA U ?_
      refine rn ?_
      refine wld U U nthA U ?_
      refine rn ?_
      refine aX call28 (tG h7 [y] _ _ u _ _ d.Kind d.Value at_ ah hys (slm hu l07) (by simp)) U ?_
      refine rn ?_
      cases hc:(aN [y] u d.Kind d.Value at_ ah).2.1 with
      |true=>
        refine wcF U U ?_
        refine rn ?_
        exact wsb (ag (o1,ob,oc,oG) (by rw[hs2,ir,hc];rfl) ⟨hoG,W6 ho2⟩ ⟨U,U,U,U,U,U,U,U,U,U,U,n0 (by omega),trivial⟩) (List.Sublist.cons _ (List.Sublist.refl _)) hle7 hX l06
      |false=>
        refine wcT U U ?_
        refine rn ?_
        refine wld U U nthA U ?_
        refine rn ?_
        refine wld U U nthA U ?_
        refine aH (bT (cells:=[I y.No]) eM ty3 zc3 U U kr (λb4=>cv 0 U hM (λh8 hle8 f4=>?_)))
        have hyn:SlC jB h8 (zAD b4) 1 [y.No]:=slL f4 lf (cE y.No rfl rfl) (by simp) (by simp)
        refine wap (Q:=[(b25,O (vL y) 73),(b17,O (ao.cells d dr) 54),(b14,O (fA.cells (bj r signed u ba at_ ah).1 vr) 40),(b12,O [.bool ((bj r signed u ba at_ ah).1.State==1),.slice fb (eD (hZ r d at_ ah)).length fc,.slice nb n1.length nc,.slice ob o1.length oc,.nilFunc] 79),(b6,O (kC r sR) 30)]) U U (grm (grm hoG hle7) hle8) U (List.Perm.refl _) U hyn U U U U (by simp only[zA,zB];omega) (by simp only[zA,zB];omega) (λbs cp G2 hG2=>?_)
        refine rn ?_
        refine wst U U nthA U U U U ?_
        refine rn ?_
        exact wsb (ag (o1++[y.No],bs,cp,G2) (by rw[hs2,ir,hc];rfl) ⟨hG2.flat (λ_ _ _ _ a=>a),by simp;omega⟩ ⟨U,U,U,U,U,U,U,U,U,U,U,n0 (by omega),trivial⟩) (List.Sublist.cons _ (List.Sublist.refl _)) (jA hle7 hle8) hX l06
  . obtain⟨n1,nb,nc,nG⟩:=w
    obtain⟨hnG,hn2⟩:=hw
    dsimp only at hnG hn2 hs2
    refine wtt U (wcT U hlt ?_)
    refine rn ?_
    refine wix U U U U (slm hd.fm l14) U (nthZ hget) (iC hget) (λq cs hA hl hr0=>?_)
    have hr0:=(hr0:cs=_)
    subst hr0
    refine wlh0 U U hA ?_
    refine rn ?_
    refine aX call63 (nN h4 (bA r.cj signed at_).1 _ _ y slg) U ?_
    refine rn ?_
    cases hc:fS (bA r.cj signed at_).1 y with
    |true=>
      refine wcF U U ?_
      refine rn ?_
      exact ag (n1,nb,nc,nG) (by rw[hs2,iX,hc];rfl) ⟨hnG,W6 hn2⟩ ⟨U,U,U,U,U,U,U,U,U,U,U,U,n0 (by omega),trivial⟩
    |false=>
      refine wcT U U ?_
      refine rn ?_
      refine wld U U nthA U ?_
      refine rn ?_
      refine aH (bT (cells:=[I y]) eM ty3 zc3 U U kr (λb3=>cv 0 U hM (λh5 hle5 f3=>?_)))
      have hys:SlC jB h5 (zAD b3) 1 [y]:=slL f3 lf (cE y rfl rfl) (by simp) (by simp)
      refine wap (Q:=[(b17,O (ao.cells d dr) 54),(b14,O (fA.cells (bj r signed u ba at_ ah).1 vr) 40),(b12,O [.bool ((bj r signed u ba at_ ah).1.State==1),.slice fb (eD (hZ r d at_ ah)).length fc,.slice nb n1.length nc,zSN,.nilFunc] 79),(b6,O (kC r sR) 30)]) U U (grm hnG hle5) U (List.Perm.refl _) U hys U U U U (by simp only[zA,zB];omega) (by simp only[zA,zB];omega) (λbs cp G2 hG2=>?_)
      refine rn ?_
      refine wst U U nthA U U U U ?_
      refine rn ?_
      exact wsb (ag (n1++[y],bs,cp,G2) (by rw[hs2,iX,hc];rfl) ⟨hG2.flat (λ_ _ _ _ a=>a),by simp;omega⟩ ⟨U,U,U,U,U,U,U,U,U,U,U,U,n0 (by omega),trivial⟩) (List.Sublist.refl _) hle5 hX l04
theorem m9(h kind l fg ff)(hl:SlC jB h fg ff l)(hsz0:l.length<=2000000):j4 prog 21 [I kind,.slice fg l.length ff] h (λv h'=>∃(rb0:Option Addr)(rc0:Nat),v=.slice rb0 (bu kind l).length rc0/\SlC eC.rp h' rb0 rc0 (bu kind l)):=by
 refine sT func21 U ntmps21 U λX hM hX hF=>?_
 have hs0:=@rfl _ (bu kind l)
 refine qK 11 [] U ?_
 refine lp2 l (λi w=>[(0,I kind),(4,.slice w.2.1 w.1.length w.2.2.1),(7,.slice fg l.length ff),(8,I (l.length:Int)),(9,I (i:Int))]) (λ_=>h) (λw=>w.2.2.2) (λi w=>cN eC.rp 45 h w.1 w.2.1 w.2.2.1 w.2.2.2/\w.1.length<=0+i) (λs1 i w=>(bu.L1 kind (bu.K1)) s1 w.1) ([],none,0,[]) hl.1.1 hs0 ⟨cN.nil,lo⟩ ?_ ?_
 .rintro i1 ⟨BL,PK,PJ,Ub⟩ i7 hs1 ⟨Nk,Sx⟩ e
  try dsimp only at Nk Sx
  refine qT 5 U (fF eC.aG ([]) Ub ([]) ap hM Nk (λh2 hle2 sl2=>?_))
  have hs2:bu kind l=BL:=hs1
  exact nretH [.slice PK BL.length PJ] ⟨PK,PJ,congrArg (λr:List eC=>(.slice PK r.length PJ:Value)) hs2.symm,(by rw[hs2];exact sl2)⟩
 rintro i1 ⟨BL,PK,PJ,Ub⟩ y1 rz1 hd1 gg dL i5 mF hs3 ⟨Nk,Sx⟩ hx1 ag1 e
 try dsimp only at Nk Sx
 exact sr (tO gg U (qO 8 U (aH (iF (λy=>[I y]) eM ty3 hl.1 dL U U U (λq2 A2=>eE ty3 A2 U (qO 6 U (aH (gv (cells:=[I kind,I y1]) (places:=[(0,1),(1,1)]) O4 zc45 kr kr (aH (bT (cells:=[I kind,I y1]) w6 ty45 zc45 U U kr (λb2=>aH (eN eC.dl ([(b2,O [I kind,I y1] 45)]) ([]) (λG=>[(b2,O [I kind,I y1] 45)]++G) ap (λ_=>ap) w6 ty45 zc45 U bytes45 Nk U U (gV 0 U (cE (eC.mk kind y1) U U)) lo lo (λob2 oc2 G2 gr2=>qO 4 U (oi i1 U (qO 2 U (cm (L':=G2) js (ag1 ((BL++[(eC.mk kind y1)]),ob2,oc2,G2) hs3 ⟨gr2,lo⟩)))))))))))))))))
theorem math_bits_OnesCount64_ok (h : HF) (m : Int) : Ret prog 140 [.int .u64 m] h (I (pop64 m)) := by
 refine sT func140 rfl ntmps140 rfl fun X hM hX hF => ?_
 generalize hz : pop64 m = z; have hs := hz.symm
 exact W
instance kC140 : Ct 140 := ⟨_, call140, @math_bits_OnesCount64_ok⟩
theorem yt(h m):Ret prog 70 [.int .u64 m] h (I (pop64 m)):=by
 refine sT func70 U ntmps70 U λX hM hX hF=>?_
 generalize hz:pop64 m=z;have hs:=hz.symm
 exact W
theorem Dw(h p Uz Uy n_q p_q)(hp:SlC jB h Uz Uy p)(an_:At h n_q [I (p.length:Int)])(ap_:At h p_q [.slice Uz p.length Uy])(hsz:p.length<=12):
   Itr prog (.func (.func 69) #[] (xB [.pointer (some n_q),.pointer (some p_q)])) M5 (iM p) h:=by
 refine si call69 ?_
 intro yf ya yb C Sp Pn h1 A db m1 m2 m3 hC hy
 refine jX Q3 U ntmps69 U λX hXM hX=>?_
 have h12:=RW hsz
 have hs0:iM p=[]++upF (λsize=>downF (setsM p size) (2 ^ p.length)) 0 (p.length+1):=rfl
 generalize iM p=z at *
 have hNN:((2:Int) ^ p.length)=((2 ^ p.length:Nat):Int):=by simp
 generalize 2 ^ p.length=N at *
 refine wto U (wlh0 U U (atm an_ db) ?_)
 refine wot U ?_
 have hn1:IntKind.i64.wrap ((p.length:Int)+1)=((p.length+1:Nat):Int):=wrap64 (by omega)
 refine gx (ι:=Nat×List (List Int)×LH×HF) (λi=>[]) (λi=>i.2.2.2) (λi=>i.2.2.1) (λi=>i.1<=p.length+1/\z=i.2.1++[]/\C i.2.1 i.2.2.2 i.2.2.1/\xJ h1 i.2.2.2) ?_ (λhx1=>?_)
 . rintro⟨i1,dn1,A1_,hh1⟩ ⟨i7,hs1,hC1_,hl1⟩ e
   refine dR ?_
   have hs2:z=dn1:=hs1.trans (List.append_nil _)
   exact sj [] (A:=A1_) Q3 U (List.Sublist.refl _) (.inl (hs2▸hC1_))
 refine jw (ι:=Nat×List (List Int)×LH×HF) (λi=>[(0,.func yf ya yb),(1,.pointer (some n_q)),(2,.pointer (some p_q)),(10,I ((p.length+1:Nat):Int)),(11,I (i.1:Int))]) (λi=>i.2.2.2) (λi=>i.2.2.1) (λi=>i.1<=p.length+1/\z=i.2.1++upF (λsize=>downF (setsM p size) N) i.1 (p.length+1-i.1)/\C i.2.1 i.2.2.2 i.2.2.1/\xJ h1 i.2.2.2) (λi=>p.length+1-i.1) (0,[],A,h1) ⟨U,U,U,congrArg I hn1,U,trivial⟩ sws ⟨xH _,hs0,hC,kH h1⟩ ?_
 rintro⟨i1,dn1,A1_,hh1⟩ ⟨i7,hs1,hC1_,hl1⟩ ag1 e
 dsimp only at i7 hs1 hC1_ hl1
 rcases xM i1 (p.length+1)with gg|mE
 case inr=>
  have:p.length+1-i1=0:=by omega
  rw[this]at hs1
  refine wtt U (wcF U (decide_eq_false (by omega)) ?_)
  exact kw U (hx1 (i1,dn1,A1_,hh1) _ ⟨i7,hs1,hC1_,hl1⟩ trivial)
 obtain⟨c1,hc1⟩:∃c,p.length+1-i1=c+1:=⟨p.length-i1,by omega⟩
 rw[hc1]at hs1
 have hc1':p.length+1-(i1+1)=c1:=by omega
 refine wtt U (wcT U (decide_eq_true (by omega)) ?_)
 refine wto U (wlh0 U U (atm an_ (jA db hl1)) ?_)
 refine wshl U U (by omega) ?_
 have hp2:IntKind.i64.wrap (1*2 ^ min ((p.length:Int)).toNat IntKind.i64.bits)=(N:Int):=by
  have h64:min ((p.length:Int)).toNat IntKind.i64.bits=p.length:=by simp[IntKind.bits];omega
  rw[h64,Int.one_mul,hNN];exact wrap64 (by omega)
 have hm0:IntKind.i64.wrap (IntKind.i64.wrap (1*2 ^ min ((p.length:Int)).toNat IntKind.i64.bits)-1)=(N:Int)-1:=by rw[hp2];exact wrap64 (by omega)
 refine wot U ?_
 refine gx (ι:=List (List Int)×LH×HF) (λi=>[(0,.func yf ya yb),(1,.pointer (some n_q)),(2,.pointer (some p_q)),(10,I ((p.length+1:Nat):Int)),(11,I (i1:Int))]) (λi=>i.2.2) (λi=>i.2.1) (λi=>z=i.1++upF (λsize=>downF (setsM p size) N) (i1+1) c1/\C i.1 i.2.2 i.2.1/\xJ h1 i.2.2) ?_ (λhx2=>?_)
 . rintro⟨dn2,A2_,hh2⟩ ⟨hs2,hC2_,hl2⟩ e
   dsimp only at hs2 hC2_ hl2
   refine wtt U ?_
   exact ag1 (i1+1,dn2,A2_,hh2) _ (by show p.length+1-(i1+1)<p.length+1-i1;omega) ⟨gg,by show z=dn2++upF _ (i1+1) (p.length+1-(i1+1));rw[hc1'];exact hs2,hC2_,hl2⟩ ⟨U,U,U,U,n0 (by omega),trivial⟩
 refine jw (ι:=Nat×List (List Int)×LH×HF) (λi=>[(0,.func yf ya yb),(1,.pointer (some n_q)),(2,.pointer (some p_q)),(4,I (i1:Int)),(5,I ((i.1:Int)-1)),(10,I ((p.length+1:Nat):Int)),(11,I (i1:Int))]) (λi=>i.2.2.2) (λi=>i.2.2.1) (λi=>i.1<=N/\z=i.2.1++(downF (setsM p i1) i.1++upF (λsize=>downF (setsM p size) N) (i1+1) c1)/\C i.2.1 i.2.2.2 i.2.2.1/\xJ h1 i.2.2.2) (λi=>i.1) (N,dn1,A1_,hh1) ⟨U,U,U,U,congrArg I hm0,U,U,trivial⟩ sws ⟨vE _,hs1,hC1_,hl1⟩ ?_
 rintro⟨j2,dn2,A2_,hh2⟩ ⟨hj2,hs2,hC2_,hl2⟩ ag2 e
 dsimp only at hj2 hs2 hC2_ hl2
 rcases j2 with _|m
 . refine wtt rfl (wcF rfl (decide_eq_false (by show ¬(0:Int)<=((0:Nat):Int)-1;omega)) ?_)
   exact kw U (hx2 (dn2,A2_,hh2) _ ⟨hs2,hC2_,hl2⟩ ⟨U,U,U,U,U,trivial⟩)
 dsimp only
 have e5:((m+1:Nat):Int)-1=(m:Int):=by omega
 rw[e5]
 have hnx:∀dn A' hh e',z=dn++(downF (setsM p i1) m++upF (λsize=>downF (setsM p size) N) (i1+1) c1)->C dn hh A'->xJ h1 hh->iu e' [(0,.func yf ya yb),(1,.pointer (some n_q)),(2,.pointer (some p_q)),(4,I (i1:Int)),(5,I (IntKind.i64.wrap ((m:Int)-1))),(10,I ((p.length+1:Nat):Int)),(11,I (i1:Int))]->_:=
   λdn A' hh e' a1 a2 a3 a4=>ag2 (m,dn,A',hh) e' (Nat.lt_succ_self m) ⟨by omega,a1,a2,a3⟩ (by rw[wrap64 (z:=(m:Int)-1) (by omega)]at a4;exact a4)
 refine wtt U (wcT U (decide_eq_true (by omega)) ?_)
 refine wto U (wcv U U U ?_)
 have hU:vB .u64 (m:Int)=m:=wrapU (by omega)
 rw[hU]
 refine aX call70 (yt hh2 (m:Int)) U ?_
 refine wot U ?_
 cases hb:(pop64 (m:Int)==(i1:Int))with
 |false=>
  refine wcT U (by rw[bne,hb];rfl) ?_
  refine wtt U ?_
  exact hnx dn2 A2_ hh2 _ (by simpa[downF,setsM,hb]using hs2) hC2_ hl2 ⟨U,U,U,U,U,U,U,trivial⟩
 |true=>
  have hs3:z=dn2++(setOf p (m:Int)::(downF (setsM p i1) m++upF (λsize=>downF (setsM p size) N) (i1+1) c1)):=by simpa[downF,setsM,hb]using hs2
  refine wcF U (by rw[bne,hb];rfl) ?_
  refine wto U (aH (NX hXM eM ty3 (λbk hbk=>?_)))
  refine woo U (wlh0 U U (atm ap_ (jA db hl2)) ?_)
  refine wot U ?_
  have hps:SlC jB hh2 Uz Uy p:=slm hp (jA db hl2)
  refine lp2 p (λq(w:List Int×Option Addr×Nat×LH)=>[(0,.func yf ya yb),(1,.pointer (some n_q)),(2,.pointer (some p_q)),(4,I (i1:Int)),(5,I (m:Int)),(6,.slice w.2.1 w.1.length w.2.2.1),(10,I ((p.length+1:Nat):Int)),(11,I (i1:Int)),(27,.slice Uz p.length Uy),(28,I (p.length:Int)),(29,I (q:Int))]) (λ_=>hh2) (λw=>w.2.2.2++A2_) (λq w=>cN jB 3 hh2 w.1 w.2.1 w.2.2.1 w.2.2.2/\Nw X w.2.2.2/\w.1.length<=q) (λs q w=>setOf.L p.length (m:Int) s q w.1) ([],zAD bk,0,[(bk,.cells [].toArray 3 (0,0))]) (by omega) (U:setOf p (m:Int)=_) ⟨cN.lit cNi U,λp hp=>by rw[xC.1 hp];exact hbk,vE _⟩ (λq w hi hs hw e=>?_) (λq w y r hd hlt hget hltp hbd hs hw hx ag e=>?_)
  . obtain⟨w1,wb,wc,wG⟩:=w
    obtain⟨hG,hN,hw3⟩:=hw
    dsimp only at hG hN hw3 hs
    have hs4:setOf p (m:Int)=w1:=hs
    rw[hs4]at hs3
    refine wto U ?_
    refine L8 qJ (List.Perm.refl _) hN hG (λh3 hle3 hsl=>?_)
    refine aH (me ([]) A2_ ap (hy dn2 w1 _ _ _ _ hs3 (jA hl2 hle3) (m1 _ _ _ _ hle3 hC2_) ⟨_,_,U,hsl⟩) U U (λh4 A1 hle4 hC4=>?_) (λh4 A2 hle4 hS4=>?_) (λch1 h5 A3 hle5 hP1 e=>iN (oz [] (A:=A3) Q3 (List.sublist_append_right _ _) hP1)))
    . refine wot rfl (wcF rfl rfl ?_)
      refine wtt U ?_
      exact hnx (dn2++[w1]) A1 h4 _ (hs3.trans (by simp)) hC4 (jA (jA hl2 hle3) hle4) ⟨U,U,U,U,U,U,U,trivial⟩
    . refine wot rfl (wcT rfl rfl ?_)
      exact dR (nU [] (A:=A2) Q3 U (List.Sublist.refl _) (.inr hS4))
  . obtain⟨w1,wb,wc,wG⟩:=w
    obtain⟨hG,hN,hw3⟩:=hw
    dsimp only at hG hN hw3 hs
    refine wtt U (wcT U hlt ?_)
    refine wto U (wix U U U U hps U (nthZ hget) (iC hget) (λq1 cs hA hl' hr=>?_))
    have hr:=(hr:cs=_)
    subst hr
    refine wlh0 U U hA ?_
    refine woo U (wlh0 U U (atm an_ (jA db hl2)) ?_)
    refine woo U ?_
    have hk:IntKind.i64.wrap (IntKind.i64.wrap ((p.length:Int)-1)-(q:Int))=(p.length:Int)-1-(q:Int):=by rw[wrap64 (z:=(p.length:Int)-1) (by omega)];exact wrap64 (by omega)
    refine wshr U U (by rw[hk];omega) (wband U U ?_)
    refine wot U ?_
    have hst:setOf p (m:Int)=setOf.L p.length (m:Int) r (q+1) (bif bitAt (m:Int) ((p.length:Int)-1-(q:Int))then w1++[y]else w1):=hs
    rw[←hk]at hst
    cases hbit:bitAt (m:Int) (IntKind.i64.wrap (IntKind.i64.wrap ((p.length:Int)-1)-(q:Int)))with
    |false=>
      rw[hbit]at hst
      refine wcF U hbit ?_
      refine wtt U ?_
      exact ag (w1,wb,wc,wG) hst ⟨hG,hN,W6 hw3⟩ ⟨U,U,U,U,U,U,U,U,U,U,n0 (by omega),trivial⟩
    |true=>
      rw[hbit]at hst
      refine wcT U hbit ?_
      refine wto U (aH (Ek (cells:=[I y]) hXM eM ty3 zc3 U U kr (λb3 hb3=>Cj 0 U hb3 (λh3 hle3 f3=>?_))))
      have hys:SlC jB h3 (zAD b3) 1 [y]:=slL f3 lf (cE y rfl rfl) (by simp) (by simp)
      refine NR Rp.jz hXM hN (List.Perm.refl _) eM ty3 zc3 U bytes3 (hG.mono qJ hle3) U U (mi hys.1) (by simp only[zA,zB];omega) (by simp only[zA,zB];omega) (λbs cp G hG2 hN2=>?_)
      refine wot U ?_
      exact wsb (ag (w1++[y],bs,cp,G) hst ⟨hG2.flat (λ_ _ _ _ a=>a),hN2,by simp;omega⟩ ⟨U,U,U,U,U,U,U,U,U,U,n0 (by omega),trivial⟩) (List.Sublist.refl _) hle3 hX hl2
instance kI69:CtI 69:=⟨_,@Dw⟩
theorem FP(h p Uz Uy)(hp:SlC jB h Uz Uy p)(hsz:p.length<=12):j4 prog 22 [.slice Uz p.length Uy] h (λv h'=>∃(rv0:Value),v=rv0/\Itr prog rv0 M5 (iM p) h'):=by
 refine sT func22 U ntmps22 U λX hM hX hF=>?_
 generalize hz:iM p=z;have hs:=hz.symm
 exact W
theorem wl(f:List Int):∀(l g:List Int),(iX f l g).length<=g.length+l.length
  |[],g=>by simp[iX]
  |y::s,g=>by
    have h1:=wl f s (bif !(fS f y)then g++[y]else g)
    simp only[iX]
    cases hc:(!fS f y)<;>rw[hc]at h1<;>simp at h1 ⊢<;>omega
theorem xl(u:List Use)(d:ao)(a b):∀(l:List Budget)(g:List Int),(ir u d a b l g).length<=g.length+l.length
  |[],g=>by simp[ir]
  |y::s,g=>by
    have h1:=xl u d a b s (bif !((aN [y] u d.Kind d.Value a b).2.1)then g++[y.No]else g)
    simp only[ir]
    cases hc:(!((aN [y] u d.Kind d.Value a b).2.1))<;>rw[hc]at h1<;>simp at h1 ⊢<;>omega
theorem TW{r:Register}{ba at_ ah:Int}(hok:(bj r signed u ba at_ ah).2=0->vw r ba at_ ah):(iI r signed u ba at_ ah).1.needs.length<=1000000/\(iI r signed u ba at_ ah).1.over.length<=1000000:=by
  unfold iI
  cases hj:((bj r signed u ba at_ ah).2 != 0)with
  |true=>simp
  |false=>
    have ok:=hok (by simpa using hj)
    have h1:=wl (bA r.cj signed at_).1 (gI r ba).fm []
    have h2:=xl u (gI r ba) at_ ah (dK r.dN (gI r ba).Kind at_ ah).1 []
    have h3:=ok.nlen;have h4:=ok.slen
    simp only[cond_false,jq,zB]at h1 h2 ⊢
    omega
theorem EA(k)(l:List Int):(bu k l).length=l.length:=by
  have h:∀(l:List Int)(g:List eC),(bu.L1 k bu.K1 l g).length=g.length+l.length:=by
    intro l
    induction l with
    |nil=>intro g;simp[bu.L1,bu.K1]
    |cons y s ih=>intro g;simp only[bu.L1];rw[ih];simp;omega
  have:=h l []
  simpa[bu]using this
theorem R5(h:p:=by
  refine tn 3 U (lK 1 ty36 U U U U U U ⟨jn,bW kr ?_⟩)
  exact wrH [zSN,.bool false,I e] hF U rdR ⟨none,0,U,SlC.nil⟩):p:=h
theorem nS(h r sR signed pM pD u qs qp)(ba at_ ah:Int)(hr:vK h r sR)(hsi:SlC jB h pM pD signed)(hu:SlC W0 h qs qp u)(hsm:smR r)(hln:r.cj.length<20)(hk:dQ h)(hok:(bj r signed u ba at_ ah).2=0->vw r ba at_ ah):
   j4 prog 8 [.agg (kC r sR).toArray,.slice pM signed.length pD,.slice qs u.length qp,I ba,I at_,I ah] h (λv h'=>∃(lb:Option Addr)(lc:Nat),v=.tuple #[.slice lb ((aR r signed u ba at_ ah).1).length lc,.bool ((aR r signed u ba at_ ah).2.1),I ((aR r signed u ba at_ ah).2.2)]/\SlC eC.rp h' lb lc ((aR r signed u ba at_ ah).1)):=by
 change j4 prog 8 _ h (λv h'=>MOk h' v (aR r signed u ba at_ ah))
 refine sT func8 U ntmps8 U λX hM hX hF=>?_
 obtain⟨hl1,hl2⟩:=TW hok
 have hcall:=Ay h r sR signed pM pD u qs qp ba at_ ah hr hsi hu hsm hln hk hok
 unfold aR
 generalize iI r signed u ba at_ ah=qe at *
 obtain⟨q,e⟩:=qe
 dsimp only at hl1 hl2 hcall ⊢
 refine wto U (eL (λb6=>?_))
 refine aH (wal U (λb12=>?_))
 refine aH (wal U (λb13=>?_))
 refine aH (wal U (λb14=>?_))
 refine rn ?_
 refine du 3 ty30 U U U ?_
 refine rn ?_
 refine aH (cw call20 hcall U (λv h1 hle1 hp1=>?_))
 obtain⟨fb,fc,nb,nc,ob,oc,dv,rfl,h1dv,slf,sln,slo,hdec⟩:=hp1
 refine rn ?_
 refine aH (wal U (λb15=>?_))
 refine wsW U U U nthA U U (by simp only[List.all_cons,List.all_nil,h1dv];rfl) ?_
 refine wst U U nthA U U U U ?_
 refine rn ?_
 refine wld U U nthA U ?_
 refine rn ?_
 cases he:(e != 0)with
 |true=>
  have hM_:mD ba q e=([],false,e):=by unfold mD;rw[he];rfl
  rw[hM_]
  refine wcT U U ?_
  refine rn ?_
  refine fo ([]) mixed kr jn (λim _=>?_)
  refine nn 0 1 kr U U ?_ ?_
  . refine eu (vy (off:=0) (cl:=[I e]) ty36 rfl (nthMem (i:=1) rfl) rfl) ⟨jn,?_⟩
    refine tn 1 U (lK 3 ty35 U U U U U U ⟨jn,?_⟩)
    refine tn 2 U (lK 2 ty4 U U U U U U ⟨jn,?_⟩)
    exact R5
  . refine lK 3 ty35 rfl rfl rfl rfl rfl rfl ⟨jn,?_⟩
    refine nn 0 2 kr U U ?_ ?_
    . refine eu (vy (off:=0) (cl:=[I e]) ty36 rfl (nthMem (i:=1) rfl) rfl) ⟨jn,?_⟩
      refine tn 2 U (lK 2 ty4 U U U U U U ⟨jn,?_⟩)
      exact R5
    . refine lK 2 ty4 rfl rfl rfl rfl rfl rfl ⟨jn,?_⟩
      refine tn 0 U (eu (vy (off:=0) (cl:=[I e]) ty36 U (nthMem (i:=1) U) U) ⟨jn,?_⟩)
      exact R5
 |false=>
  have e0:e=0:=by simpa using he
  refine wcF U U ?_
  refine rn ?_
  refine wld U U nthA U ?_
  refine rn ?_
  cases hf:decide (12<(q.free.length:Int))with
  |true=>
   have hM_:mD ba q e=([],false,2):=by unfold mD;rw[he,hf];rfl
   rw[hM_]
   refine wcT U U ?_
   refine rn ?_
   refine wst U U nthA U U U U ?_
   refine wst U U nthA U U U U ?_
   refine wst U U nthA U U U U ?_
   refine rn ?_
   exact wrH [zSN,.bool false,I 2] hF U rdR ⟨none,0,U,qG⟩
  |false=>
   have hfl:q.free.length<=12:=by have:=of_decide_eq_false hf;omega
   refine wcF U U ?_
   refine rn ?_
   refine wld U U nthA U ?_
   refine rn ?_
   cases hcl:q.closed with
   |true=>
    have hM_:mD ba q e=(bu 4 [ba],false,0):=by unfold mD;rw[he,hf,hcl];rfl
    rw[hM_]
    refine wcT U U ?_
    refine rn ?_
    refine aH (bT (cells:=[I ba]) eM ty3 zc3 U U kr (λb3=>cv 0 U hM (λh2 hle2 f3=>?_)))
    have hys:SlC jB h2 (zAD b3) 1 [ba]:=slL f3 lf (cE ba rfl rfl) (by simp) (by simp)
    refine aH (cw Q2 (m9 h2 4 [ba] _ _ hys (by simp)) U (λv h3 hle3 hp3=>?_))
    obtain⟨lb,lc,rfl,sll⟩:=hp3
    refine wst U U nthA U U U U ?_
    refine wst U U nthA U U U U ?_
    refine wst U U nthA U U U U ?_
    refine rn ?_
    exact wrH [.slice lb (bu 4 [ba]).length lc,.bool false,I 0] hF U rdR ⟨lb,lc,U,sll⟩
   |false=>
    refine wcF U U ?_
    refine rn ?_
    refine wld U U nthA U ?_
    refine aH (cw call22 (FP h1 q.free _ _ slf hfl) U (λv h2 hle2 hp2=>?_))
    obtain⟨_,rfl,hit⟩:=hp2
    refine rn ?_
    have hlen:∀w∈(iM q.free),w.length<=12:=λw hw=>qM (Ml hw) hfl
    refine dR (bY (L':=[(b15,O [.bool false,.slice fb q.free.length fc,.slice nb q.needs.length nc,.slice ob q.over.length oc,dv] 79),(b14,O [I e] 36),(b13,O [.bool false] 4),(b12,O [zSN] 35),(b6,O (kC r sR) 30)]++markB []) ap ?_)
    refine j7 (it:=_) (xs:=(iM q.free)) (ι:=Option (List Int×Option Addr×Nat×LH)×HF) [] (λi=>i.2) (λi=>match i.1 with|none=>[(b15,O [.bool false,.slice fb q.free.length fc,.slice nb q.needs.length nc,.slice ob q.over.length oc,dv] 79),(b14,O [I e] 36),(b13,O [.bool false] 4),(b12,O [zSN] 35),(b6,O (kC r sR) 30)]|some (w,lb,lc,G)=>[(b15,O [.bool false,.slice fb q.free.length fc,.slice nb q.needs.length nc,.slice ob q.over.length oc,dv] 79),(b14,O [I 0] 36),(b13,O [.bool true] 4),(b12,O [.slice lb (jZ q w).length lc] 35),(b6,O (kC r sR) 30)]++G) (λs i=>i.1=none/\(iM q.free).find? q.decides=s.find? q.decides/\(∀w∈s,w.length<=12)/\h2.le i.2) (λi=>∃w lb lc G,i.1=some (w,lb,lc,G)/\(iM q.free).find? q.decides=some w/\cN eC.rp 45 i.2 (jZ q w) lb lc G/\h2.le i.2) (λ_=>False) 1 (λ_ _ _=>False) (none,h2) hF rfl hit rfl (λx h vs hv=>by obtain⟨_,_,rfl,_⟩:=hv;rfl) (λ_ _ _ _ _ hq=>hq) rfl rfl ⟨rfl,rfl,hlen,kH _⟩ ?_ ?_ ?_ ?_ ?_
    . rintro l1 dm1 lp1 y rz1 vs1 ⟨_,hh1⟩ hr1 X1 hFR1 ⟨hi0,hs1,hle_,hl1⟩ hl01 hlr1 hv1 hX1 hXM1 hlp1 nx1 rt1 ex1 pn1
      dsimp only at hi0 hs1 hle_ hl1
      subst hi0
      obtain⟨yb,yc,rfl,sly⟩:=hv1
      have hyl:=hle_ y (kB ..)
      have h1r:h1.le hr1:=jA hle2 (jA hl1 hlr1)
      refine bY (L':=[(l1,.loop lp1),(dm1,.deferred (some []))]++([(b15,O [.bool false,.slice fb q.free.length fc,.slice nb q.needs.length nc,.slice ob q.over.length oc,dv] 79),(b14,O [I e] 36),(b13,O [.bool false] 4),(b12,O [zSN] 35),(b6,O (kC r sR) 30)]++(markB []))) ap ?_
      refine rn ?_
      refine kg 0 U hlp1 ?_
      refine rn ?_
      refine wld U U nthA U ?_
      refine rn ?_
      refine aH (j8 (v:=.bool (q.decides y)) [] (List.nil_sublist _) ((hdec e0).2 hr1 y yb yc h1r sly (by omega)) U U ?_)
      refine rn ?_
      cases hD:q.decides y with
      |false=>
        refine wcF U U ?_
        refine rn ?_
        exact nx1 (none,hr1) _ _ ⟨U,by rw[hs1,List.find?_cons,hD],λw hw=>hle_ w (jC _ hw),jA hl1 hlr1⟩ lf
      |true=>
        refine wcT U U ?_
        refine rn ?_
        refine fo ([(b15,O [.bool false,.slice fb q.free.length fc,.slice nb q.needs.length nc,.slice ob q.over.length oc,dv] 79)]) mixed kr jn (λim _=>?_)
        refine qA [0] U (qB [2] U (tf 3 U U (rj 0 ty31 U U U) ?_))
        refine qB [5] U (tf 6 U U (rj 0 ty31 U U U) ?_)
        refine tn 1 U (cw Q2 (m9 hr1 1 y _ _ sly (by omega)) U (λv g1 k1 p1=>?_))
        obtain⟨ab,ac,rfl,sa⟩:=p1
        refine⟨jl k1,tu k1 ?_⟩
        refine tn 4 U (cw Q2 (m9 g1 2 q.needs _ _ (slm sln (jA h1r k1)) (by omega)) U (λv g2 k2 p2=>?_))
        obtain⟨bb,bc,rfl,sb⟩:=p2
        refine⟨jl k2,tu k2 ?_⟩
        refine tn 7 U (cw Q2 (m9 g2 3 q.over _ _ (slm slo (jA (jA h1r k1) k2)) (by omega)) U (λv g3 k3 p3=>?_))
        obtain⟨cb,cc,rfl,sc⟩:=p3
        refine⟨jl k3,tu k3 ?_⟩
        refine tn 8 U (Ek (cells:=[.slice ab (bu 1 y).length ac,.slice bb (bu 2 q.needs).length bc,.slice cb (bu 3 q.over).length cc]) hXM1 underlying140 ty35 zc35 U U kr (λb3 hb3=>?_))
        refine⟨jn,?_⟩
        refine tn 9 U (Qf 0 U hb3 (λg4 k4 f4=>?_))
        have hcat:SlC (Wx eC.rp) g4 (zAD b3) 3 [bu 1 y,bu 2 q.needs,bu 3 q.over]:=slL f4 lf
          (cCo (R:=Wx eC.rp) (cs:=[.slice ab (bu 1 y).length ac]) (show(Wx eC.rp).rep g4 _ _ from⟨_,_,rfl,slm sa (jA (jA k2 k3) k4)⟩) rfl
          (cCo (R:=Wx eC.rp) (cs:=[.slice bb (bu 2 q.needs).length bc]) (show(Wx eC.rp).rep g4 _ _ from⟨_,_,rfl,slm sb (jA k3 k4)⟩) rfl
          (cCo (R:=Wx eC.rp) (cs:=[.slice cb (bu 3 q.over).length cc]) (show(Wx eC.rp).rep g4 _ _ from⟨_,_,rfl,slm sc k4⟩) rfl cNi))) (by simp) (by simp)
        refine Dh call23 (za g4 _ _ 3 hcat (by simp) ?_) U (λb2 c2 G hG=>?_)
        . intro z hz
          simp only[zE,kA,or_false]at hz
          have hk1:=EA 1 y;have hk2:=EA 2 q.needs;have hk3:=EA 3 q.over
          rcases hz with rfl|rfl|rfl<;>omega
        have hfl_:[bu 1 y,bu 2 q.needs,bu 3 q.over].flatten=jZ q y:=by simp[jZ]
        rw[hfl_]at hG ⊢
        refine⟨jl k4,tu k4 ?_⟩
        refine tn 10 U (lK 5 ty35 U U U U U U ⟨jn,?_⟩)
        refine tn 11 U (lK 4 ty4 U U U U U U ⟨jn,?_⟩)
        refine tn 12 U (lK 3 ty36 U U U U U U ⟨jn,bW kr ?_⟩)
        have kk:=jA (jA (jA k1 k2) k3) k4
        have hfd:(iM q.free).find? q.decides=some y:=by rw[hs1,List.find?_cons,hD]
        refine bY (L':=rdH l1 dm1 lp1 (([(b15,O [.bool false,.slice fb q.free.length fc,.slice nb q.needs.length nc,.slice ob q.over.length oc,dv] 79),(b14,O [I 0] 36),(b13,O [.bool true] 4),(b12,O [.slice b2 (jZ q y).length c2] 35),(b6,O (kC r sR) 30)]++G)++markB [])) (by simp[markB];rfl) ?_
        exact rt1 (some (y,b2,c2,G),g4) _ _ _ ⟨y,b2,c2,G,U,hfd,hG,jA (jA hl1 hlr1) kk⟩ lf
    . rintro dm1 ⟨_,hh1⟩ hn1 ⟨hi0,hs1,hle_,hl1⟩ hln1 hl01
      dsimp only at hi0 hs1 hl1
      subst hi0
      have hM_:mD ba q e=([],false,0):=by unfold mD;rw[he,hf,hcl,hs1];rfl
      rw[hM_]
      refine bY (L':=[(b15,O [.bool false,.slice fb q.free.length fc,.slice nb q.needs.length nc,.slice ob q.over.length oc,dv] 79),(b14,O [I e] 36),(b13,O [.bool false] 4),(b12,O [zSN] 35),(b6,O (kC r sR) 30)]++markB (dm1::[])) ap ?_
      refine rn ?_
      refine wst U U nthA U U U U ?_
      refine wst U U nthA U U U U ?_
      refine wst U U nthA U U U U ?_
      refine rn ?_
      refine bY (L':=[(b15,O [.bool false,.slice fb q.free.length fc,.slice nb q.needs.length nc,.slice ob q.over.length oc,dv] 79),(b14,O [I 0] 36),(b13,O [.bool false] 4),(b12,O [zSN] 35),(b6,O (kC r sR) 30)]++markB (dm1::[])) U ?_
      exact od (dm1::[]) [zSN,.bool false,I 0] hF U rdR ⟨none,0,U,qG⟩
    . rintro dm1 ⟨_,hh1⟩ hn1 ⟨w,lb,lc,G,hi0,hs1,hG,hl1⟩ hln1 hl01
      dsimp only at hi0 hs1 hG hl1
      subst hi0
      have hM_:mD ba q e=(jZ q w,true,0):=by unfold mD;rw[he,hf,hcl,hs1];rfl
      rw[hM_]
      refine fF mnG [(b15,O [.bool false,.slice fb q.free.length fc,.slice nb q.needs.length nc,.slice ob q.over.length oc,dv] 79),(b14,O [I 0] 36),(b13,O [.bool true] 4),(b12,O [.slice lb (jZ q w).length lc] 35),(b6,O (kC r sR) 30)] G (markB (dm1::[])) ap hM (grm hG hln1) (λh3 hle3 sl=>?_)
      refine bY (L':=[(b15,O [.bool false,.slice fb q.free.length fc,.slice nb q.needs.length nc,.slice ob q.over.length oc,dv] 79),(b14,O [I 0] 36),(b13,O [.bool true] 4),(b12,O [.slice lb (jZ q w).length lc] 35),(b6,O (kC r sR) 30)]++markB (dm1::[])) ap ?_
      exact od (dm1::[]) [.slice lb (jZ q w).length lc,.bool true,I 0] hF U rdR ⟨lb,lc,U,sl⟩
    . exact xf
    . exact xf
theorem Ab(h s pM pD)(v:eC)(hs:SlC eC.rp h pM pD s):Ret prog 96 [.slice pM s.length pD,.agg (eC.cells v).toArray] h (I (iW s v)):=by
 refine sT func96 U ntmps96 U λX hM hX hF=>?_
 have hs0:=@rfl _ (iW s v)
 refine sr (eL (λb1=>qL 9 [] U ?_))
 refine lp0 s (λi=>[(0,.slice pM s.length pD),(3,Q b1),(7,I (s.length:Int)),(8,I (i:Int))]) ([(b1,O (eC.cells v) 45)]) (λs1 i=>(iW.L1 v (iW.K1)) s1 i) hs.1.1 hs0 ?_ ?_
 .rintro i1 i7 hs1 e
  exact sr (an (nretP [I (-1)] (ci hs1)))
 rintro i1 y1 rz1 hd1 gg dL i5 mF hs3 hx1 ag1 e
 refine sr (tO gg U (qO 12 U (fo ([(b1,O (eC.cells v) 45)]) mixed kr jn (λim _=>tf 0 U U (λ_ _ hj=>lV ty45 U (hj.nth (i:=0) U) U) (qA [1,2] U (kZ 3 (enc:=eC.cells) im jn ei w6 ty45 hs.1 (nthZ dL) (iC dL) U U U U kr (λq2 A2=>tf 4 U U (λ_ _ hj=>oE ty45 (A2.mono hj.1) U U) (tf 5 U U (λ_ _ _=>JY (It v y1) eqg45 U U) (bW kr (aI hs3 U (λc2 hs4=>?_) (λc2 hs5=>?_)))))))))))
 .exact sr (qO 3 U (nretP [I (i1:Int)] (ci hs4)))
 exact bO (qT 2 U (oi i1 U (qO 2 U (ag1 hs5))))
instance kC96:Ct 96:=⟨_,call96,@Ab⟩
theorem w9(h s pM pD)(v:eC)(hs:SlC eC.rp h pM pD s):Ret prog 39 [.slice pM s.length pD,.agg (eC.cells v).toArray] h (.bool (m5 s v)):=by
 refine sT func39 U ntmps39 U λX hM hX hF=>?_
 generalize hz:(m5 s v)=z;have hs:=hz.symm
 exact W
theorem zg(h gp v0 tX tW v0_q v1 v1_q)(hv0:SlC eC.rp h tX tW v0)(av0:At h v0_q [.slice tX v0.length tW])(av1:At h v1_q [I v1]):Ret prog 38 [I gp,.pointer (some v0_q),.pointer (some v1_q)] h (.bool (fN gp v0 v1)):=by
 refine sT func38 U ntmps38 U λX hM hX hF=>?_
 have hs0:=@rfl _ (fN gp v0 v1)
 exact sr (qO 4 U (eE ty35 av0 U (eE ty3 av1 U (bD (aH (gv (cells:=[I v1,I gp]) (places:=[(0,1),(1,1)]) O4 zc45 kr kr (aX call39 (w9 _ _ _ _ (eC.mk v1 gp) hv0) U (an (nretP [.bool (m5 v0 (eC.mk v1 gp))] (cs hs0))))))))))
theorem BH(h gp)(v0:(Int->Bool))(v0_v v0_q)(hv0:∀(h':HF)(ef:Int),xJ h h'->qw prog v0_v [I ef] h' [] (.bool (v0 ef)))(av0:At h v0_q [v0_v]):Ret prog 41 [I gp,.pointer (some v0_q)] h (.bool (pm gp v0)):=by
 refine sT func41 U ntmps41 U λX hM hX hF=>?_
 generalize hz:(pm gp v0)=z;have hs:=hz.symm
 exact W
theorem HN{h:HF}:∀{cl:List Value}{xs:List Int},cY jB h cl xs->cl=xs.map (qC .i64)
 |_,[],hc=>hc
 |_,x::xs,⟨cs_z,rest,e,_,hr,hc⟩=>by
  have:cs_z=[I x]:=hr
  rw[e,this,HN hc];rfl
theorem IG(h):∀xs:List Int,cY jB h (xs.map (qC .i64)) xs
 |[]=>rfl
 |x::xs=>⟨[I x],xs.map (qC .i64),rfl,rfl,rfl,IG h xs⟩
theorem M9(f:Int->Bool):∀(l:List Int)(i:Nat),(cQ.L1 f cQ.K1 l i=-1/\∀x∈l,f x=false) \/
  ∃a y b,l=a++y::b/\cQ.L1 f cQ.K1 l i=((i+a.length:Nat):Int)/\f y=true/\∀x∈a,f x=false
 |[],i=>.inl ⟨rfl,λ_ h=>(kA h).elim⟩
 |y::l,i=>by
  simp only[cQ.L1]
  cases hy:f y with
  |true=>exact .inr ⟨[],y,l,rfl,by simp,hy,λ_ h=>(kA h).elim⟩
  |false=>
   rcases M9 f l (i+1)with⟨h1,h2⟩|⟨a,z,b,rfl,h2,h3,h4⟩
   .exact .inl ⟨h1,λx hx=>by rcases zE.1 hx with rfl|hx;exact hy;exact h2 x hx⟩
   refine .inr ⟨y::a,z,b,rfl,?_,h3,λx hx=>by rcases zE.1 hx with rfl|hx;exact hy;exact h4 x hx⟩
   rw[cond_false,h2];simp only[zA];congr 1;omega
theorem Fo{l:List Int}(h:∀x∈l,q x=false):(l.filter λx=>!(q x))=l:=by
 rw[List.filter_eq_self];intro x hx;simp[h x hx]
theorem SO{s zs:List Int}{i j:Nat}{y:Int}(hij:i<j)(hz:zs.length=s.length)(hj:s[j]? = some y)(ht:zs.take i=(s.take j).filter λx=>!(q x))(hd:zs.drop j=s.drop j)(hy:q y=false):
  (zs.set i y).take (i+1)=((s.take (j+1)).filter λx=>!(q x))/\(zs.set i y).drop (j+1)=s.drop (j+1):=by
 have hjl:j<s.length:=by
  rcases xM j s.length with h|h
  .exact h
  simp[List.getElem?_eq_none h]at hj
 constructor
 .rw[List.take_add_one,List.take_set_of_le (vE _),ht,List.take_add_one,hj,List.filter_append]
  simp[hy,show i<zs.length from by omega]
 rw[List.drop_set_of_lt ob,←List.drop_drop,hd,List.drop_drop]
theorem SN{s zs:List Int}{i j:Nat}{y:Int}(hj:s[j]? = some y)(ht:zs.take i=(s.take j).filter λx=>!(q x))(hd:zs.drop j=s.drop j)(hy:q y=true):
  zs.take i=((s.take (j+1)).filter λx=>!(q x))/\zs.drop (j+1)=s.drop (j+1):=by
 constructor
 .rw[List.take_add_one,hj,List.filter_append,ht];simp[hy]
 rw[←List.drop_drop,hd,List.drop_drop]
theorem GI{w:World}{bk i n cc:Nat}{cl:List Value}(hb:w.heap[bk]? = some (.cells cl.toArray 3 (0,0)))(db:i+(n+1)<=cl.length)(ty:TypeId):
  (Builtin.clear_ #[31] ty #[.slice (some ⟨bk,i,none⟩) (n+1) cc]).run prog w=.ok (.tuple #[]) { w with heap:=w.heap.setIfInBounds bk (.cells (splice cl i (List.replicate (n+1) (I 0))).toArray 3 (0,0)) }:=by
 have hz:(zeroValue 3).run prog w=.ok (I 0) w:=eG kr w
 have h9:=lP (P:=prog) i (List.replicate (n+1) (I 0)) 0 cl w hb (by simpa using db) (λv hv=>by rw[(List.mem_replicate.1 hv).2];rfl)
 rw[Nat.add_zero]at h9
 have hzc:(Builtin.zeroCells (qC .i64 0).cells (n+1)).toList=List.replicate (n+1) (qC .i64 0):=by
  simp[Builtin.zeroCells,Value.cells]
  rw[List.eq_replicate_iff]
  refine⟨by simp,λx hx=>?_⟩
  obtain⟨j,_,rfl⟩:=zM.1 hx
  simp[Nat.mod_one]
 simp only[Builtin.clear_,Sem.run_bind]
 simp[run_underlying eM,hz,hzc,h9]
theorem wD(h)(s:List Int)(b c G)(del:Int->Bool)(del_v)(hG:cN jB 3 h s b c G)(hdel:∀(h':HF)(ef:Int),xJ h h'->qw prog del_v [I ef] h' [] (.bool (del ef)))(hsz:s.length<=2000000):
  pC prog 42 [.slice b s.length c,del_v].toArray h G (λr h' G'=>h'=h/\r=.returned (.slice b (gj s del).length c)/\cN jB 3 h (gj s del) b c G'):=by
 refine cV func42 U ntmps42 U λX hM hX=>qT 8 U (aH (Df [] G [] call97 qJ hG (by simp) (λh1 db hsl=>qb h1 s b c del del_v hsl (λh' a hl=>hdel h' a (db.t hl))) U (qO 6 U ?_)))
 have hcase:=M9 del s 0
 rw[show cQ.L1 del cQ.K1 s 0=cQ s del from rfl]at hcase
 rcases hcase with⟨h1,h2⟩|⟨a,y,r,hs,h1,hy,ha⟩
 .rw[h1]
  refine iS (v':=.bool true) U U (qO 7 U ?_)
  have hf:gj s del=s:=Fo h2
  refine nm func42 (λa ha w hw=>res1 U a ha w) (λw hw=>hw.lower) ⟨hX,?_,?_⟩
  .rw[hf];rfl
  rw[hf];exact hG
 rw[h1,Nat.zero_add]
 have hne:((a.length:Int)==-1)=false:=by simp
 have hsl:s.length=a.length+(r.length+1):=by rw[hs];simp
 refine fO hne U (qO 7 U (iS (v':=I ((a.length+1:Nat):Int)) U (n0 ob) (an ?_)))
 refine gx (ι:=Nat×List Int×LH) (λi=>[(0,.slice b s.length c),(1,del_v),(5,I (i.1:Int))]) (λi=>h) (λi=>i.2.2)
  (λi=>i.1<s.length/\i.2.1.length=s.length/\i.2.1.take i.1=gj s del/\cN jB 3 h i.2.1 b c i.2.2) ?_ (λhx=>?_)
 .rintro⟨i,zs,G'⟩ ⟨hi,hz,hf,hG'⟩ e
  dsimp only at hi hz hf hG'
  rcases hG' with⟨rfl,_⟩|⟨bk,cl,sp,rfl,hcl,h3,h4,h5,rfl⟩
  .simp at hz;omega
  have hcl':=HN hcl
  subst hcl'
  have hcz:zs.length<=c:=h4
  have h3':zs.length+sp.length=c:=by simpa[jB]using h3
  have hz2:0<=(i:Int)/\(i:Int)<=(s.length:Int):=by omega
  have hzn:(i:Int).toNat=i:=by omega
  have hgf:cN jB 3 h zs (zAD bk) c [(bk,.cells (zs.map (qC .i64)++sp).toArray 3 (0,0))]:=.inr ⟨bk,_,sp,rfl,hcl,h3,h4,h5,rfl⟩
  obtain⟨m,hm⟩:∃m,s.length-i=m+1:=⟨s.length-i-1,by omega⟩
  refine qT 4 U (aH (eu (v:=.slice (some ⟨bk,i,none⟩) (m+1) (c-i)) (Qo eM ty3 U U ob ob hm) ?_))
  refine aH (iB U λw hw=>⟨.tuple #[],_,h,_,?_,hw.write (i:=0) U (.cells (splice (zs.map (qC .i64)++sp) i (List.replicate (m+1) (I 0))).toArray 3 (0,0)),?_⟩)
  .have:=GI (w:=w) (i:=i) (n:=m) (cc:=c-i) (hw.own _ (xC.2 rfl)) (by simp;omega)
   simp only[execOp,resolve,invoke,builtin]
   simp[Env.ev,upd,upds,pute,this]
  have hsp:∃sp',splice (zs.map (qC .i64)++sp) i (List.replicate (m+1) (I 0))=(zs.take i).map (qC .i64)++sp':=by
   have e1:zs.map (qC .i64)++sp=(zs.take i).map (qC .i64)++((zs.drop i).map (qC .i64)++sp):=by
    rw[←List.append_assoc,←List.map_append,List.take_append_drop]
   rw[e1]
   have e2:i=((zs.take i).map (qC .i64)).length:=by simp;omega
   have:=uu (List.replicate (m+1) (I 0)) ((zs.take i).map (qC .i64)) ((zs.drop i).map (qC .i64)++sp) (by simp;omega)
   rw[←e2]at this
   exact⟨_,this⟩
  obtain⟨sp',hsp⟩:=hsp
  have hlen:((zs.take i).map (qC .i64)++sp').length=c*Rp.int.sz:=by
   rw[←hsp,BU];exact h3
  rw[hsp]
  have hg2:cN jB 3 h (zs.take i) (zAD bk) c [(bk,.cells ((zs.take i).map (qC .i64)++sp').toArray 3 (0,0))]:=
   .inr ⟨bk,_,sp',rfl,IG h _,hlen,by rw[List.length_take];omega,by rw[List.length_take];omega,rfl⟩
  refine qO 5 U (aH (Mo (z:=(i:Int)) eM ty3 hgf ob (by show _=Value.slice _ _ _;rw[hz];rfl) U U (an ?_)))
  refine nm func42 (λa ha w hw=>res1 U a ha w) (λw hw=>hw.lower) ⟨hX,?_,?_⟩
  .rw[←hf,hzn];rfl
  rw[←hf];exact hg2
 refine jw (ι:=Nat×Nat×List Int×LH) (λi=>[(0,.slice b s.length c),(1,del_v),(5,I (i.1:Int)),(6,I (i.2.1:Int))]) (λi=>h) (λi=>i.2.2.2)
  (λi=>i.1<i.2.1/\i.2.1<=s.length/\i.2.2.1.length=s.length/\i.2.2.1.take i.1=((s.take i.2.1).filter λx=>!(del x))/\i.2.2.1.drop i.2.1=s.drop i.2.1/\cN jB 3 h i.2.2.1 b c i.2.2.2)
  (λi=>s.length-i.2.1) (a.length,a.length+1,s,G) rd (λw hw=>hw) ⟨Nat.lt_succ_self _,by show a.length+1<=s.length;omega,rfl,?_,rfl,hG⟩ ?_
 .show s.take a.length=((s.take (a.length+1)).filter λx=>!(del x))
  rw[hs,List.take_left' rfl,List.take_add_one,List.take_left' rfl,List.filter_append,Fo ha];simp[hy]
 rintro⟨i,j,zs,G'⟩ ⟨hij,hjl,hz,ht,hd,hG'⟩ ag e
 dsimp only at hij hjl hz ht hd hG'
 rcases xM j s.length with hj|hj
 .have hjs:s[j]? = some s[j]:=List.getElem?_eq_getElem hj
  have hjz:zs[j]? = some s[j]:=by
   have e1:(zs.drop j)[0]? = (s.drop j)[0]?:=by rw[hd]
   simpa[hjs]using e1
  obtain⟨bk,hbk⟩:=hG'.xz ob
  have hiz:zs[i]? = some zs[i]:=List.getElem?_eq_getElem ob
  refine qK 6 [] U (tO (decide_eq_true ob) U (qO 9 U (aH (eu (nR (R:=jB) (xs:=zs) (z:=(j:Int)) eM ty3 hbk ob U hz.symm U) (aH (eu (E2 (R:=jB) (off:=0) (i:=j) ty3 hG' hbk hjz (λcs_z hcs=>by rw[show cs_z=[I s[j]]from hcs];rfl) (by rfl) (λp hp=>hp)) (qO 6 U (aH (j8 (v:=.bool (del s[j])) [] (List.nil_sublist _) (hdel h s[j] lf) U U ?_)))))))))
  cases hy:del s[j]with
  |true=>
   obtain⟨k1,k2⟩:=SN hjs ht hd hy
   exact nv U (qO 6 U (oi j U (an (ag (i,j+1,zs,G') _ (by show s.length-(j+1)<s.length-j;omega) ⟨by show i<j+1;omega,hj,hz,k1,k2,hG'⟩ rd))))
  |false=>
   obtain⟨k1,k2⟩:=SO hij hz hjs ht hd hy
   refine qO 8 U (aH (eu (nR (R:=jB) (xs:=zs) (z:=(i:Int)) eM ty3 hbk ob U hz.symm U) (aH (uO (R:=jB) (i:=i) (off:=0) (u:=zs[i]) (u':=s[j]) (v:=I s[j]) [] G' [] ty3 U hG' (by simp) hbk hiz (by decide) (λcs_z hcs=>by rw[show cs_z=[I zs[i]]from hcs];rfl) (by rfl) U U (λG2 hG2=>?_)))))
   rw[List.nil_append,List.append_nil]
   exact bp (qT 2 U (oi i U (qO 5 U (oi j U (an (ag (i+1,j+1,zs.set i s[j],G2) _ (by show s.length-(j+1)<s.length-j;omega) ⟨by show i+1<j+1;omega,hj,by show(zs.set i s[j]).length=s.length;simpa using hz,k1,k2,hG2⟩ rd))))))
 have hje:j=s.length:=by omega
 subst hje
 exact qK 6 [] U (fO (decide_eq_false ob) U (qO 3 U (hx (i,zs,G') _ ⟨hij,hz,by show zs.take i=_;rw[ht,List.take_length];rfl,hG'⟩ rd)))
theorem BG(h p)(v0:(Int->Bool))(v0_v v0_q)(hv0:∀(h':HF)(ef:Int),xJ h h'->qw prog v0_v [I ef] h' [] (.bool (v0 ef)))(av0:At h v0_q [v0_v]):Ret prog 44 [I p,.pointer (some v0_q)] h (.bool (lh p v0)):=by
 refine sT func44 U ntmps44 U λX hM hX hF=>?_
 generalize hz:(lh p v0)=z;have hs:=hz.symm
 exact W
theorem tR(h kind l fg ff l_q)(hl:SlC eC.rp h fg ff l)(al:At h l_q [.slice fg l.length ff]):j4 prog 37 [I kind,.pointer (some l_q)] h (λv h'=>FnI h' v (λn=>fN n l kind)):=by
 refine sT func37 U ntmps37 U λX hM hX hF=>?_
 refine wto U (eL (λb2=>?_))
 refine rn ?_
 refine wmz 1 U U nthA hM (λh1 hle1 a2=>?_)
 refine aH (wmf ?_)
 refine rn ?_
 refine wrH [.func (.func 38) #[] #[.pointer (some l_q),Q b2]] hF U rdR ?_
 exact⟨⟨_,_,_,U⟩,λh' n hle'=>ip call38 (zg h' n l fg ff l_q kind ⟨b2,0,none⟩ (slm hl (jA hle1 hle')) (al.mono (jA hle1 hle')) (a2.mono hle'))⟩
theorem OB(s:List Int)(f:Int->Bool):(gj s f).length<=s.length:=List.length_filter_le _ _
theorem SX{r:Register}{ba at_ ah:Int}(hok:(bj r signed u ba at_ ah).2=0->vw r ba at_ ah):(iI r signed u ba at_ ah).1.free.length<=1000000:=by
  unfold iI
  cases hj:((bj r signed u ba at_ ah).2 != 0)with
  |true=>simp
  |false=>
    have ok:=hok (by simpa using hj)
    have h1:=ok.flen
    simp only[cond_false,jq,Ft]
    exact h1
theorem rf(h r sR signed pM pD u qs qp)(ba at_ ah:Int)(l fg ff)(hr:vK h r sR)(hsi:SlC jB h pM pD signed)(hu:SlC W0 h qs qp u)(hl:SlC eC.rp h fg ff l)(hsm:smR r)(hln:r.cj.length<20)(hk:dQ h)(hok:(bj r signed u ba at_ ah).2=0->vw r ba at_ ah):
   Ret prog 11 [.agg (kC r sR).toArray,.slice pM signed.length pD,.slice qs u.length qp,I ba,I at_,I ah,.slice fg l.length ff] h (.tuple #[.bool (ny r signed u ba at_ ah l).1,I (ny r signed u ba at_ ah l).2]):=by
 refine sT func11 U ntmps11 U λX hM hX hF=>?_
 have hfl:=SX hok
 have hcall:=Ay h r sR signed pM pD u qs qp ba at_ ah hr hsi hu hsm hln hk hok
 unfold ny
 generalize iI r signed u ba at_ ah=qe at *
 obtain⟨q,e⟩:=qe
 dsimp only at hfl hcall ⊢
 refine wto U (eL (λb7=>eL (λb13=>?_)))
 refine rn ?_
 refine du 1 ty30 U U U ?_
 refine rn ?_
 refine aH (cw call20 hcall U (λv h1 hle1 hp1=>?_))
 obtain⟨fb,fc,nb,nc,ob,oc,dv,rfl,h1dv,slf,sln,slo,hdec⟩:=hp1
 refine rn ?_
 refine aH (wal U (λb16=>?_))
 refine wsW U U U nthA U U (by simp only[List.all_cons,List.all_nil,h1dv];rfl) ?_
 refine rn ?_
 cases he:(e != 0)with
 |true=>
  have hE_:ou q e l=(false,e):=by unfold ou;rw[he];rfl
  rw[hE_]
  refine wgo U (wgo U (wgo U ?_))
  refine rn ?_
  refine wcT U U ?_
  refine rn ?_
  exact wrP [.bool false,I e] hF U rdR hX U
 |false=>
  have e0:e=0:=by simpa using he
  subst e0
  refine wgo U ?_
  refine wld U U nthA U ?_
  refine wgo U ?_
  refine rn ?_
  cases hcl:q.closed with
  |true=>
   have hE_:ou q 0 l=(false,0):=by unfold ou;rw[hcl];rfl
   rw[hE_]
   refine wcT U U ?_
   refine rn ?_
   exact wrP [.bool false,I 0] hF U rdR hX U
  |false=>
   refine wcF U U ?_
   refine rn ?_
   refine wmz 0 U U nthA hM (λh2 hle2 a13=>?_)
   refine aH (wmf ?_)
   refine rn ?_
   refine aH (oC (λbm=>?_))
   refine rn ?_
   refine wld U U nthA U ?_
   refine aH (uP 0 (k:=2) (x:=q.needs) Gm (fe mR) U (kY.nil (enc:=(qC .i64)) (V:=VSl jB) (h:=h2)) U U ⟨nb,nc,U,slm sln hle2⟩ (λmo1 hm1=>?_))
   refine rn ?_
   refine wld U U nthA U ?_
   refine aH (uP 0 (k:=3) (x:=q.over) Gm (fe mR) U hm1 U U ⟨ob,oc,U,slm slo hle2⟩ (λmo2 hm2=>?_))
   have hmem0:∀p:Int×List Int,p∈mput (mput ([]:List (Int×List Int)) 2 q.needs) 3 q.over↔p=(2,q.needs)\/p=(3,q.over):=λp=>by simp[mput]
   obtain⟨m0,hpm,hnd0,es,clock,rfl,hEr,hP,hcl_⟩:=hm2
   refine cv 0 U hM (λh3 hle3 hbm=>?_)
   have hm0:∀(i:Nat)(p:Int×List Int),m0[i]? = some p->p=(2,q.needs)\/p=(3,q.over):=λi p hi=>(hmem0 p).1 (hpm.mem_iff.1 (xE hi))
   have hnod:(es.map (·.born)).Nodup:=hP.imp (λh=>Nat.ne_of_lt h)
   have hlen:es.length=m0.length:=by
     clear hbm hP hcl_ hnod hpm hnd0 hm0
     induction es generalizing m0 with
     |nil=>cases m0 with
       |nil=>rfl
       |cons _ _=>exact hEr.elim
     |cons a es ih=>cases m0 with
       |nil=>exact hEr.elim
       |cons b m0=>simpa using ih m0 hEr.2.2
   have hgd:lH l 2 q.needs=false->lH l 3 q.over=false->ou q 0 l=(q.decides (gj q.free (λp=>lh p (λn=>fN n l 1))),0):=λa b=>by unfold ou;rw[hcl,a,b];rfl
   have hbd:∀p:Int×List Int,(p=(2,q.needs)\/p=(3,q.over))->lH l p.1 p.2=true->ou q 0 l=(false,0):=by
     rintro p (rfl|rfl) hb
     . unfold ou;rw[hcl,show lH l 2 q.needs=true from hb];rfl
     . unfold ou;rw[hcl,show lH l 3 q.over=true from hb];cases lH l 2 q.needs<;>rfl
   refine rn ?_
   refine aH (KI Gm hbm U (λit=>?_))
   refine rn ?_
   let bf:Nat->Nat:=λi=>(es[i]?.map (·.born)).getD 0
   have hle13:h1.le h3:=jA hle2 hle3
   have hle03:h.le h3:=jA hle1 hle13
   have aq3:=a13.mono hle3
   have hq16:(b16,O [.bool q.closed,.slice fb q.free.length fc,.slice nb q.needs.length nc,.slice ob q.over.length oc,dv] 79)=(b16,O [.bool false,.slice fb q.free.length fc,.slice nb q.needs.length nc,.slice ob q.over.length oc,dv] 79):=by rw[hcl]
   refine gx (ι:=List Nat×HF) (λi=>[(16,Q b16),(17,.func (.func 37) #[] #[Q b13])]) (λi=>i.2) (λi=>[(it,Obj.mapIter (some bm) clock (xB (i.1.map bf)) clock),(b16,O [.bool false,.slice fb q.free.length fc,.slice nb q.needs.length nc,.slice ob q.over.length oc,dv] 79),(b7,O (kC r sR) 30)]) (λi=>(∀j,j<es.length->∀p,m0[j]? = some p->lH l p.1 p.2=false)/\h3.le i.2) ?_ (λhx=>?_)
   . rintro⟨js,hh⟩ ⟨hall,lhh⟩ e
     dsimp only at hall lhh
     have hget:∀p,(p=(2,q.needs)\/p=(3,q.over))->lH l p.1 p.2=false:=λp hp=>by
       obtain⟨j,hj⟩:=List.getElem?_of_mem (hpm.mem_iff.2 ((hmem0 p).2 hp))
       exact hall j (by rw[hlen];exact(List.getElem?_eq_some_iff.1 hj).1) p hj
     rw[hgd (hget _ (.inl rfl)) (hget _ (.inr rfl))]
     refine rn ?_
     have l2h:=jA hle3 lhh
     have l0h:=jA hle03 lhh
     refine aH (GF (np (args:=[I 1]) (cap:=[Q b13]) call37 (tR hh 1 l fg ff ⟨b13,0,none⟩ (slm hl l0h) (a13.mono l2h))) U U (λv h4 hle4 hfn=>?_))
     obtain⟨⟨f0,fi0,ca0,rfl⟩,hfn⟩:=hfn
     refine bJ (show zeroC prog 102=some [.nilFunc] by kernel_rfl) (λb21=>?_)
     refine cU 0 (show tySz prog 102=some (1,false) by kernel_rfl) U U U U U U ?_
     refine cv 0 U hM (λh5 hle5 f5=>?_)
     have a21:At h5 ⟨b21,0,none⟩ [.func f0 fi0 ca0]:=dM f5
     have l15:=jA (jA (jA hle13 lhh) hle4) hle5
     refine rn ?_
     refine fo ([(b16,O [.bool false,.slice fb q.free.length fc,.slice nb q.needs.length nc,.slice ob q.over.length oc,dv] 79)]) mixed kr jn (λim _=>?_)
     refine qB [0] U (tf 1 U U (rj 0 ty77 U U U) ?_)
     refine qB [2] U (tf 3 U U (rj 0 ty31 U U U) ?_)
     refine tf 5 U U (v:=.func (.func 44) #[] #[Q b21]) (λ_ _ _ w hw=>by simp[execOp,Instr.makeFunc];rfl) ?_
     refine tn 4 U (Dh call43 (BC h5 q.free fb fc (slm slf l15) (by omega)) U (λb2 c2 G hG=>?_))
     refine⟨jn,?_⟩
     refine tn 6 U (m6 (v:=.slice b2 (gj q.free (λp=>lh p (λn=>fN n l 1))).length c2) [(it,Obj.mapIter (some bm) clock (xB (js.map bf)) clock),(b16,O [.bool false,.slice fb q.free.length fc,.slice nb q.needs.length nc,.slice ob q.over.length oc,dv] 79),(b7,O (kC r sR) 30)] G [] call42 (wD h5 q.free b2 c2 G (λp=>lh p (λn=>fN n l 1)) (.func (.func 44) #[] #[Q b21]) hG (λh' a hle'=>ip call44 (BG h' a (λn=>fN n l 1) (.func f0 fi0 ca0) ⟨b21,0,none⟩ (λh'' a' hle''=>hfn h'' a' (jA (jA hle5 hle') hle'')) (a21.mono hle'))) (by omega)) (by rw[List.append_nil];rfl) U (λG2 hG2=>?_))
     refine⟨jn,?_⟩
     refine tn 7 U (Bi qJ [(it,Obj.mapIter (some bm) clock (xB (js.map bf)) clock),(b16,O [.bool false,.slice fb q.free.length fc,.slice nb q.needs.length nc,.slice ob q.over.length oc,dv] 79),(b7,O (kC r sR) 30)] G2 [] U hM hG2 (λh6 hle6 sl2=>?_))
     refine j8 (v:=.bool (q.decides (gj q.free (λp=>lh p (λn=>fN n l 1))))) [] (List.nil_sublist _) ((hdec U).2 h6 _ b2 c2 (jA l15 hle6) sl2 (qM (OB _ _) hfl)) U U ?_
     refine⟨jl hle6,tu hle6 (qA [8,9] U (bW kr ?_))⟩
     exact wrP [.bool (q.decides (gj q.free (λp=>lh p (λn=>fN n l 1)))),I 0] hF U rdR hX U
   refine jw (ι:=List Nat×HF) (λi=>[(16,Q b16),(17,.func (.func 37) #[] #[Q b13]),(46,Q it)]) (λi=>i.2) (λi=>[(it,Obj.mapIter (some bm) clock (xB (i.1.map bf)) clock),(b16,O [.bool false,.slice fb q.free.length fc,.slice nb q.needs.length nc,.slice ob q.over.length oc,dv] 79),(b7,O (kC r sR) 30)]) (λi=>i.1.Nodup/\(∀j∈i.1,j<es.length)/\(∀j∈i.1,∀p,m0[j]? = some p->lH l p.1 p.2=false)/\h3.le i.2) (λi=>es.length-i.1.length) ([],h3) ⟨U,U,U,trivial⟩ sws ⟨List.nodup_nil,λ_ h=>absurd h (kA),λ_ h=>absurd h (kA),kH _⟩ ?_
   rintro⟨js,hh⟩ ⟨hn,hlt,hok_,lhh⟩ ag e
   dsimp only at hn hlt hok_ lhh
   have hlp:=AB hnod js hlt
   refine rn ?_
   refine aH (NW 0 U (lhh _ _ hbm) (λx hx=>hcl_ x (by simpa using hx)) (vE _) U (λh0=>?_) (λen hen=>?_))
   . refine rn ?_
     refine wcF U U ?_
     exact kw U (hx (js,hh) _ ⟨λj hj p hp=>hok_ j (hlp.1 h0 j hj) p hp,lhh⟩ ⟨U,U,trivial⟩)
   . obtain⟨i,hi,hni⟩:=hlp.2 en hen
     obtain⟨p,hp,hkey,hval⟩:=Np hEr hi
     have hil:i<es.length:=(List.getElem?_eq_some_iff.1 hi).1
     have hmem:en∈es.toArray.toList:=by simpa using xE hi
     have hn':(js++[i]).Nodup:=by
       rw[List.nodup_append];exact⟨hn,by simp,λa ha b hb' e'=>by simp at hb';subst hb';subst e';exact hni ha⟩
     have hl':∀j∈js++[i],j<es.length:=λj hj=>by
       rcases zG.1 hj with h3|h3
       . exact hlt j h3
       . simp at h3;subst h3;exact hil
     have xw:js.length+1<=es.length:=by
       obtain⟨rest,hrest⟩:=Ap (m0.map (·.1)) (js++[i]) hn' (λj hj=>by rw[List.length_map,←hlen];exact hl' j hj)
       have h9:=hrest.length_eq
       simp only[vA,List.length_map,zA,zB]at h9
       omega
     have hpp:=hm0 i p hp
     obtain⟨kb,kc,hv_,hsl⟩:=hval
     obtain⟨ekey,evl,eborn⟩:=en
     dsimp only at hkey hv_
     subst hkey hv_
     refine rn ?_
     refine wcT U U ?_
     refine rn ?_
     refine aH (eu (KS 0 U (lhh _ _ hbm) hmem (by simpa using hnod) U) ?_)
     refine rn ?_
     have l2h:=jA hle3 lhh
     have l0h:=jA hle03 lhh
     refine aH (GF (np (args:=[I p.1]) (cap:=[Q b13]) call37 (tR hh p.1 l fg ff ⟨b13,0,none⟩ (slm hl l0h) (a13.mono l2h))) U U (λv h4 hle4 hfn=>?_))
     obtain⟨⟨f0,fi0,ca0,rfl⟩,hfn⟩:=hfn
     refine bJ (show zeroC prog 102=some [.nilFunc] by kernel_rfl) (λb20=>?_)
     refine cU 0 (show tySz prog 102=some (1,false) by kernel_rfl) U U U U U U ?_
     refine rn ?_
     refine wmz 0 U U nthA hM (λh5 hle5 a20=>?_)
     refine aH (wmf ?_)
     have l25:=jA (jA l2h hle4) hle5
     refine aX call40 (mK h5 p.2 kb kc (λn=>pm n (λn=>fN n l p.1)) (.func (.func 41) #[] #[Q b20]) (slm hsl l25) (λh' a hle'=>ip call41 (BH h' a (λn=>fN n l p.1) (.func f0 fi0 ca0) ⟨b20,0,none⟩ (λh'' a' hle''=>hfn h'' a' (jA (jA hle5 hle') hle'')) (a20.mono hle')))) U ?_
     refine rn ?_
     cases hb:lH l p.1 p.2 with
     |true=>
       rw[hbd p hpp hb]
       refine wcT U hb ?_
       refine rn ?_
       exact wrP [.bool false,I 0] hF U rdR hX U
     |false=>
       refine wcF U hb ?_
       refine rn ?_
       have hpush:((xB (js.map bf)).push eborn)=xB ((js++[i]).map bf):=by simp[bf,hi]
       refine bY (L':=[(it,Obj.mapIter (some bm) clock (xB ((js++[i]).map bf)) clock),(b16,O [.bool false,.slice fb q.free.length fc,.slice nb q.needs.length nc,.slice ob q.over.length oc,dv] 79),(b7,O (kC r sR) 30)]) (by rw[←hpush];rfl) ?_
       exact ag (js++[i],h5) _ (by show es.length-(js++[i]).length<es.length-js.length;rw[vA];simp only[zA,zB];omega) ⟨hn',hl',λj hj p' hp'=>by
         rcases zG.1 hj with h3|h3
         . exact hok_ j h3 p' hp'
         . simp at h3;subst h3;rw[hp]at hp';cases hp';exact hb,jA (jA lhh hle4) hle5⟩ ⟨rfl,rfl,rfl,trivial⟩
theorem mn(h kind Ew)  : Ret prog 15 [I kind,I Ew] h (.agg (eC.cells (DB kind Ew)).toArray):=by
 refine sT func15 U ntmps15 U λX hM hX hF=>?_
 generalize hz:(DB kind Ew)=z;have hs:=hz.symm
 exact W
theorem FE(rec:aj->Int->Int)(h)(x:aj)(gG dJ)(hrec:∀(h:HF)(qx:aj)(ml:eo)(qlimit:Int)(hqx:aj.ok h qx ml)(_:qx.dep<x.dep),Ret prog 240 [.agg (aj.cells qx ml).toArray,I qlimit] h (I (rec qx qlimit)))(hx:aj.ok h x gG):Ret prog 240 [.agg (aj.cells x gG).toArray,I dJ] h (I (dF.F rec x dJ)):=by
 refine sT func240 U ntmps240 U λX hM hX hF=>?_
 have hs0:=@rfl _ (dF.F rec x dJ)
 refine sr (eL (λb1=>qO 11 U ?_))
 refine lp1 x.L (λi w=>[(1,I dJ),(2,Q b1),(5,I w),(6,I (i:Int))]) ([(b1,O (aj.cells x gG) 59)]) (λs1 i w=>(dF.L1 rec dJ (dF.K1)) s1 w) 1 hx.list.1.1 hs0 ?_ ?_ ?_
 .rintro i1 eZ i7 hs1 e
  exact sr (qO 3 U (nretP [I eZ] (ci hs1)))
 .rintro i1 eZ y1 rz1 hd1 gg dL i5 mF hs3 hx1 ag1 e
  refine qK 7 [0] U (tO gg U (qO 6 U (aI hs3 U (λc2 hs4=>?_) (λc2 hs5=>?_))))
  .have c2p:=of_decide_eq_true c2
   exact qK 8 [0] U (aH (iR qt ty59 hx.list.1 dL U U U (λ_ _ _ e=>e) (λq2 r2 A2 ok2=>eJ ty59 A2 U U (qO 3 U (aX call240 (hrec _ _ _ (vB .i64 (dJ-eZ)) ok2 (aj.lD (gP hd1))) U (qO 6 U (oi i1 U (qO 2 U (ag1 (vB .i64 (eZ+(rec y1 (vB .i64 (dJ-eZ))))) hs4)))))))))
  have c2p:=of_decide_eq_false c2
  exact kw U (hx1 i1 eZ hs5)
 rintro i1 eZ hd1 mE hx e
 exact qK 7 [0] U (fO mE U (qO 8 U (hx _ rd)))
theorem wd:∀(m:Nat)(h:HF)(x:aj)(gG:eo)(dJ:Int)(_:x.dep<=m)(hx:aj.ok h x gG),Ret prog 240 [.agg (aj.cells x gG).toArray,I dJ] h (I (dF.go m x dJ))
 |0,h,x,gG,dJ,hd,hx=>absurd hd (Nat.not_le.2 (aj.nd _))
 |m+1,h,x,gG,dJ,hd,hx=>FE (dF.go m) h x gG dJ (λqh_ qx ml qlimit qhx qd=>wd m qh_ qx ml qlimit ob qhx) hx
theorem He(h x gG dJ)(hx:aj.ok h x gG):Ret prog 240 [.agg (aj.cells x gG).toArray,I dJ] h (I (dF x dJ)):=wd _ h x gG dJ (vE _) hx
instance kC240:Ct 240:=⟨_,call240,@He⟩
theorem FF(rec:aj->Int)(h)(x:aj)(gG)(hrec:∀(h:HF)(qx:aj)(ml:eo)(hqx:aj.ok h qx ml)(_:qx.dep<x.dep),Ret prog 241 [.agg (aj.cells qx ml).toArray] h (I (rec qx)))(hx:aj.ok h x gG):Ret prog 241 [.agg (aj.cells x gG).toArray] h (I (bR.F rec x)):=by
 refine sT func241 U ntmps241 U λX hM hX hF=>?_
 have hs0:=@rfl _ (bR.F rec x)
 refine sr (eL (λb1=>qO 11 U ?_))
 refine lp1 x.L (λi w=>[(1,Q b1),(3,I w),(4,I (i:Int))]) ([(b1,O (aj.cells x gG) 59)]) (λs1 i w=>(bR.L1 rec (bR.K1)) s1 w) 0 hx.list.1.1 hs0 ?_ ?_ ?_
 .rintro i1 lB i7 hs1 e
  exact sr (qO 4 U (nretP [I (vB .i64 (lB+1))] (ci hs1)))
 .rintro i1 lB y1 rz1 hd1 gg dL i5 mF hs3 hx1 ag1 e
  exact qK 7 [0] U (tO gg U (qL 10 [0] U (aH (iR qt ty59 hx.list.1 dL U U U (λ_ _ _ e=>e) (λq2 r2 A2 ok2=>eJ ty59 A2 U U (aX call241 (hrec _ _ _ ok2 (aj.lD (gP hd1))) U (aH (eu (T6 U U) (qO 5 U (oi i1 U (an (ag1 (max lB (rec y1)) hs3))))))))))))
 rintro i1 lB hd1 mE hx e
 exact qK 7 [0] U (fO mE U (qO 3 U (hx _ rd)))
theorem we:∀(m:Nat)(h:HF)(x:aj)(gG:eo)(_:x.dep<=m)(hx:aj.ok h x gG),Ret prog 241 [.agg (aj.cells x gG).toArray] h (I (bR.go m x))
 |0,h,x,gG,hd,hx=>absurd hd (Nat.not_le.2 (aj.nd _))
 |m+1,h,x,gG,hd,hx=>FF (bR.go m) h x gG (λqh_ qx ml qhx qd=>we m qh_ qx ml ob qhx) hx
theorem Hf(h x gG)(hx:aj.ok h x gG):Ret prog 241 [.agg (aj.cells x gG).toArray] h (I (bR x)):=we _ h x gG (vE _) hx
instance kC241:Ct 241:=⟨_,call241,@Hf⟩
theorem Hd(h x gG)(hx:aj.ok h x gG):Ret prog 166 [.agg (aj.cells x gG).toArray] h (.bool (lZ x)):=by
 refine sT func166 U ntmps166 U λX hM hX hF=>?_
 generalize hz:(lZ x)=z;have hs:=hz.symm
 exact W
instance kC166:Ct 166:=⟨_,call166,@Hd⟩
theorem Dk(h p i8)(hp:aw.ok h p i8):Ret prog 102 [.agg (aw.cells p i8).toArray] h (.bool (fw p)):=by
 refine sT func102 U ntmps102 U λX hM hX hF=>?_
 generalize hz:(fw p)=z;have hs:=hz.symm
 have HA:=h0 [1] 3 (λs1 i=>(fw.L1 (fw.K1)) s1)
 exact W
theorem FM(h c)  : Ret prog 299 [Y c] h (.bool (nP c)):=by
 refine sT func299 U ntmps299 U λX hM hX hF=>?_
 generalize hz:(nP c)=z;have hs:=hz.symm
 exact W
instance kC299:Ct 299:=⟨_,call299,@FM⟩
theorem FN(h c)  : Ret prog 325 [Y c] h (.bool (uj c)):=by
 refine sT func325 U ntmps325 U λX hM hX hF=>?_
 generalize hz:(uj c)=z;have hs:=hz.symm
 exact W
instance kC325:Ct 325:=⟨_,call325,@FN⟩
theorem I2(h c)  : Ret prog 300 [Y c] h (.bool (uX c)):=by
 refine sT func300 U ntmps300 U λX hM hX hF=>?_
 generalize hz:(uX c)=z;have hs:=hz.symm
 exact W
instance kC300:Ct 300:=⟨_,call300,@I2⟩
theorem I3(h s)  : Ret prog 242 [.string s] h (.bool (jY s)):=by
 refine sT func242 U ntmps242 U λX hM hX hF=>?_
 generalize hz:(jY s)=z;have hs:=hz.symm
 have HA:=h0 [0] 3 (λs1 i=>((jY.L1 s (jY.K1)) s1 i))
 exact W
instance kC242:Ct 242:=⟨_,call242,@I3⟩
theorem IS(h s)  : Ret prog 243 [.string s] h (.bool (uT s)):=by
 refine sT func243 U ntmps243 U λX hM hX hF=>?_
 have hs0:=@rfl _ (uT s)
 refine qT 16 U (aI hs0 U (λc1 hs1=>?_) (λc1 hs2=>?_))
 .refine bO (aI hs1 U (λc2 hs3=>?_) (λc2 hs4=>?_))
  .exact sr (an (nretP [.bool true] (cs hs3)))
  exact bO (qT 5 U (nretP [.bool false] (cs hs4)))
 refine qT 5 U (aI hs2 U (λc3 hs7=>?_) (λc3 hs8=>?_))
 .refine bO (aI hs7 U (λc4 hs9=>?_) (λc4 hs10=>?_))
  .exact sr (an (nretP [.bool true] (cs hs9)))
  exact bO (qT 5 U (nretP [.bool false] (cs hs10)))
 refine qT 5 U (aI hs8 U (λc5 hs13=>?_) (λc5 hs14=>?_))
 .refine bO (aI hs13 U (λc6 hs15=>?_) (λc6 hs16=>?_))
  .exact sr (an (nretP [.bool true] (cs hs15)))
  exact bO (qT 5 U (nretP [.bool false] (cs hs16)))
 refine qT 5 U (aI hs14 U (λc7 hs19=>?_) (λc7 hs20=>?_))
 .refine bO (aI hs19 U (λc8 hs21=>?_) (λc8 hs22=>?_))
  .exact sr (an (nretP [.bool true] (cs hs21)))
  exact bO (qT 5 U (nretP [.bool false] (cs hs22)))
 refine qT 5 U (aI hs20 U (λc9 hs25=>?_) (λc9 hs26=>?_))
 .refine bO (aI hs25 U (λc10 hs27=>?_) (λc10 hs28=>?_))
  .exact sr (an (nretP [.bool true] (cs hs27)))
  exact bO (qT 5 U (nretP [.bool false] (cs hs28)))
 refine qT 5 U (aI hs26 U (λc11 hs31=>?_) (λc11 hs32=>?_))
 .refine bO (aI hs31 U (λc12 hs33=>?_) (λc12 hs34=>?_))
  .exact sr (an (nretP [.bool true] (cs hs33)))
  exact bO (qT 5 U (nretP [.bool false] (cs hs34)))
 refine qT 5 U (aI hs32 U (λc13 hs37=>?_) (λc13 hs38=>?_))
 .refine bO (aI hs37 U (λc14 hs39=>?_) (λc14 hs40=>?_))
  .exact sr (an (nretP [.bool true] (cs hs39)))
  exact bO (qT 5 U (nretP [.bool false] (cs hs40)))
 refine qT 5 U (aI hs38 U (λc15 hs43=>?_) (λc15 hs44=>?_))
 .refine bO (aI hs43 U (λc16 hs45=>?_) (λc16 hs46=>?_))
  .exact sr (an (nretP [.bool true] (cs hs45)))
  exact bO (qT 5 U (nretP [.bool false] (cs hs46)))
 refine qT 5 U (aI hs44 U (λc17 hs49=>?_) (λc17 hs50=>?_))
 .refine bO (aI hs49 U (λc18 hs51=>?_) (λc18 hs52=>?_))
  .exact sr (an (nretP [.bool true] (cs hs51)))
  exact bO (qT 5 U (nretP [.bool false] (cs hs52)))
 refine qT 5 U (aI hs50 U (λc19 hs55=>?_) (λc19 hs56=>?_))
 .refine bO (aI hs55 U (λc20 hs57=>?_) (λc20 hs58=>?_))
  .exact sr (an (nretP [.bool true] (cs hs57)))
  exact bO (qT 5 U (nretP [.bool false] (cs hs58)))
 refine qT 5 U (aI hs56 U (λc21 hs61=>?_) (λc21 hs62=>?_))
 .refine bO (aI hs61 U (λc22 hs63=>?_) (λc22 hs64=>?_))
  .exact sr (an (nretP [.bool true] (cs hs63)))
  exact bO (qT 5 U (nretP [.bool false] (cs hs64)))
 refine qT 5 U (aI hs62 U (λc23 hs67=>?_) (λc23 hs68=>?_))
 .refine bO (aI hs67 U (λc24 hs69=>?_) (λc24 hs70=>?_))
  .exact sr (an (nretP [.bool true] (cs hs69)))
  exact bO (qT 5 U (nretP [.bool false] (cs hs70)))
 refine qT 5 U (aI hs68 U (λc25 hs73=>?_) (λc25 hs74=>?_))
 .refine bO (aI hs73 U (λc26 hs75=>?_) (λc26 hs76=>?_))
  .exact sr (an (nretP [.bool true] (cs hs75)))
  exact bO (qT 5 U (nretP [.bool false] (cs hs76)))
 refine qT 5 U (aI hs74 U (λc27 hs79=>?_) (λc27 hs80=>?_))
 .refine bO (aI hs79 U (λc28 hs81=>?_) (λc28 hs82=>?_))
  .exact sr (an (nretP [.bool true] (cs hs81)))
  exact bO (qT 5 U (nretP [.bool false] (cs hs82)))
 refine qT 5 U (aI hs80 U (λc29 hs85=>?_) (λc29 hs86=>?_))
 .refine bO (aI hs85 U (λc30 hs87=>?_) (λc30 hs88=>?_))
  .exact sr (an (nretP [.bool true] (cs hs87)))
  exact bO (qT 5 U (nretP [.bool false] (cs hs88)))
 refine qT 4 U (aI hs86 U (λc31 hs91=>?_) (λc31 hs92=>?_))
 .exact sr (an (nretP [.bool true] (cs hs91)))
 exact bO (qT 5 U (nretP [.bool false] (cs hs92)))
instance kC243:Ct 243:=⟨_,call243,@IS⟩
theorem IU(h s)  : Ret prog 167 [.string s] h (.bool (oS s)):=by
 refine sT func167 U ntmps167 U λX hM hX hF=>?_
 generalize hz:(oS s)=z;have hs:=hz.symm
 exact W
instance kC167:Ct 167:=⟨_,call167,@IU⟩
theorem Af(h l fg ff s)(hl:SlC Wc h fg ff l):Ret prog 171 [.slice fg l.length ff,.string s] h (I (fK l s)):=by
 refine sT func171 U ntmps171 U λX hM hX hF=>?_
 generalize hz:(fK l s)=z;have hs:=hz.symm
 have HA:=h0 [0,1] 5 (λs1 i=>(fK.L1 s (fK.K1)) s1 i)
 exact W
instance kC171:Ct 171:=⟨_,call171,@Af⟩
theorem Dl(h l fg ff)(hl:SlC Wc h fg ff l):Ret prog 168 [.slice fg l.length ff] h (.bool (fx l)):=by
 refine sT func168 U ntmps168 U λX hM hX hF=>?_
 generalize hz:(fx l)=z;have hs:=hz.symm
 have HA:=h0 [0] 3 (λs1 i=>(fx.L1 l (fx.K1)) s1 i)
 exact W
instance kC168:Ct 168:=⟨_,call168,@Dl⟩
instance kR169:Cl 169:=⟨call169⟩
theorem FC(rec:List ByteArray->aj->Bool)(h aC dP dO)(x:aj)(gG)(hrec:∀(h:HF)(qoffices:List ByteArray)(ly:Option Addr)(lx:Nat)(qx:aj)(ml:eo)(hqoffices:SlC Wc h ly lx qoffices)(hqx:aj.ok h qx ml)(_:qx.dep<x.dep),Ret prog 169 [.slice ly qoffices.length lx,.agg (aj.cells qx ml).toArray] h (.bool (rec qoffices qx)))(gK:SlC Wc h dP dO aC)(hx:aj.ok h x gG):Ret prog 169 [.slice dP aC.length dO,.agg (aj.cells x gG).toArray] h (.bool (cx.F rec aC x)):=by
 refine sT func169 U ntmps169 U λX hM hX hF=>?_
 generalize hz:(cx.F rec aC x)=z;have hs:=hz.symm
 have HA:=h0 [0,3] 5 (λs1 i=>(cx.L1 rec aC (cx.K1)) s1)
 exact W
theorem wa:∀(m:Nat)(h:HF)(aC:List ByteArray)(dP:Option Addr)(dO:Nat)(x:aj)(gG:eo)(_:x.dep<=m)(gK:SlC Wc h dP dO aC)(hx:aj.ok h x gG),Ret prog 169 [.slice dP aC.length dO,.agg (aj.cells x gG).toArray] h (.bool (cx.go m aC x))
 |0,h,aC,dP,dO,x,gG,hd,gK,hx=>absurd hd (Nat.not_le.2 (aj.nd _))
 |m+1,h,aC,dP,dO,x,gG,hd,gK,hx=>FC (cx.go m) h aC dP dO x gG (λqh_ qoffices ly lx qx ml qhoffices qhx qd=>wa m qh_ qoffices ly lx qx ml ob qhoffices qhx) gK hx
theorem Hc(h aC dP dO x gG)(gK:SlC Wc h dP dO aC)(hx:aj.ok h x gG):Ret prog 169 [.slice dP aC.length dO,.agg (aj.cells x gG).toArray] h (.bool (cx aC x)):=wa _ h aC dP dO x gG (vE _) gK hx
instance kC169:Ct 169:=⟨_,call169,@Hc⟩
theorem Hb(h p i8)(hp:aw.ok h p i8):Ret prog 103 [.agg (aw.cells p i8).toArray] h (.bool (iH p)):=by
 refine sT func103 U ntmps103 U λX hM hX hF=>?_
 generalize hz:(iH p)=z;have hs:=hz.symm
 have HA:=h0 [1] 3 (λs1 i=>(iH.L1 p (iH.K1 p)) s1)
 exact W
instance kR170:Cl 170:=⟨call170⟩
theorem Ae(rec:aj->Bool->Bool)(h)(x:aj)(gG upto)(hrec:∀(h:HF)(qx:aj)(ml:eo)(qupto:Bool)(hqx:aj.ok h qx ml)(_:qx.dep<x.dep),Ret prog 170 [.agg (aj.cells qx ml).toArray,.bool qupto] h (.bool (rec qx qupto)))(hx:aj.ok h x gG):Ret prog 170 [.agg (aj.cells x gG).toArray,.bool upto] h (.bool (aU.F rec x upto)):=by
 refine sT func170 U ntmps170 U λX hM hX hF=>?_
 generalize hz:(aU.F rec x upto)=z;have hs:=hz.symm
 have HA:=h0 [1,2] 5 (λs1 i=>(aU.L1 rec upto (aU.K1 x upto)) s1)
 exact W
theorem qY:∀(m:Nat)(h:HF)(x:aj)(gG:eo)(upto:Bool)(_:x.dep<=m)(hx:aj.ok h x gG),Ret prog 170 [.agg (aj.cells x gG).toArray,.bool upto] h (.bool (aU.go m x upto))
 |0,h,x,gG,upto,hd,hx=>absurd hd (Nat.not_le.2 (aj.nd _))
 |m+1,h,x,gG,upto,hd,hx=>Ae (aU.go m) h x gG upto (λqh_ qx ml qupto qhx qd=>qY m qh_ qx ml qupto ob qhx) hx
theorem BD(h x gG upto)(hx:aj.ok h x gG):Ret prog 170 [.agg (aj.cells x gG).toArray,.bool upto] h (.bool (aU x upto)):=qY _ h x gG upto (vE _) hx
instance kC170:Ct 170:=⟨_,call170,@BD⟩
theorem FD(h p i8)(hp:aw.ok h p i8):Ret prog 104 [.agg (aw.cells p i8).toArray] h (.bool (gC p)):=by
 refine sT func104 U ntmps104 U λX hM hX hF=>?_
 generalize hz:(gC p)=z;have hs:=hz.symm
 have HA:=h0 [1] 3 (λs1 i=>(gC.L1 p (gC.K1 p)) s1 i)
 exact W
theorem Lc(h:p:=by
  let z6:Nat×Obj:=(b3,O [I x.Kind,I x.N,I (fK aC x.Name),.string x.Name,.slice rA nk.length ry] 59)
  let z15:Nat×Obj:=(b5,O [I ((rec aC y1).Kind),I ((rec aC y1).N),I ((rec aC y1).No),.string ((rec aC y1).Name),.slice rr4.oN ((rec aC y1).L.length) rr4.pc] 59)
  exact tn 10 U (eN aj.dl ([z15,z6,z1,z3]) ([]) (λG=>[z15,z6,z1,z3]++G) ap (λ_=>ap) qt ty59 zc59 U bytes59 (AQ.mono aj.aG hle4) U U (gV 0 U (cE (R:=aj.rp) (rec aC y1) U ⟨rr4,U,ok4⟩)) lo lo (λob2 oc2 G2 gr2=>⟨jn,qB [11] U (tn 12 U (lK 1 ty57 U U U U U U (⟨jn,bW kr (qT 3 U (oi i1 U (an (cm (L':=[(b3,O [I x.Kind,I x.N,I (fK aC x.Name),.string x.Name,.slice ob2 ((nk++[(rec aC y1)]).length) oc2] 59),z1,z3]++G2) js (ag1 ((nk++[(rec aC y1)]),ob2,oc2,G2,h4) hs5 ⟨gr2,lo,(hl1.t hle4)⟩)))))⟩)))⟩))):p:=h
theorem Lb(h:p:=by
  let z10:Nat×Obj:=(b3,O [I x.Kind,I x.N,I 0,.string x.Name,.slice rq nj.length rm] 59)
  let z18:Nat×Obj:=(b9,O [I ((rec aC y2).Kind),I ((rec aC y2).N),I ((rec aC y2).No),.string ((rec aC y2).Name),.slice rr9.oN ((rec aC y2).L.length) rr9.pc] 59)
  exact tn 10 U (eN aj.dl ([z18,z10,z2,z4]) ([]) (λG=>[z18,z10,z2,z4]++G) ap (λ_=>ap) qt ty59 zc59 U bytes59 (AN.mono aj.aG hle9) U U (gV 0 U (cE (R:=aj.rp) (rec aC y2) U ⟨rr9,U,ok9⟩)) lo lo (λob6 oc6 G6 gr6=>⟨jn,qB [11] U (tn 12 U (lK 1 ty57 U U U U U U (⟨jn,bW kr (qT 3 U (oi i2 U (an (cm (L':=[(b3,O [I x.Kind,I x.N,I 0,.string x.Name,.slice ob6 ((nj++[(rec aC y2)]).length) oc6] 59),z2,z4]++G6) js (ag2 ((nj++[(rec aC y2)]),ob6,oc6,G6,h9) hs8 ⟨gr6,lo,(hl2.t hle9)⟩)))))⟩)))⟩))):p:=h
theorem Cp(rec:List ByteArray->aj->aj)(h aC dP dO)(x:aj)(gG)(hrec:∀(h:HF)(qoffices:List ByteArray)(ly:Option Addr)(lx:Nat)(qx:aj)(ml:eo)(hqoffices:SlC Wc h ly lx qoffices)(hqx:aj.ok h qx ml)(hsz:qx.dep<=2000000)(_:qx.dep<x.dep),j4 prog 105 [.slice ly qoffices.length lx,.agg (aj.cells qx ml).toArray] h (λv h'=>∃(rr0:eo),v=.agg (aj.cells (rec qoffices qx) rr0).toArray/\aj.ok h' (rec qoffices qx) rr0))(gK:SlC Wc h dP dO aC)(hx:aj.ok h x gG)(hsz:x.dep<=2000000):j4 prog 105 [.slice dP aC.length dO,.agg (aj.cells x gG).toArray] h (λv h'=>∃(rr0:eo),v=.agg (aj.cells (av.F rec aC x) rr0).toArray/\aj.ok h' (av.F rec aC x) rr0):=by
 refine cV func105 U ntmps105 U λX hM hX=>?_
 have hs0:=@rfl _ (av.F rec aC x)
 have hln:=aj.Sb x
 refine sr (eL (λb1=>bJ zc59 (λb2=>qO 3 U (du 1 ty59 U U U (bJ zc59 (λb3=>bG 0 ty59 U U U U U U (qL 4 [] U (cU 0 ty3 U U U U U U (qL 8 [2] U (gz 4 [12,13,14,15,16] 12 16 (x.Kind==2) U (λc1 hk1=>?_) (λe=>?_)))))))))))
 .exact qL 4 [2] U (hk1 _ U)
 refine bp (aI hs0 U (λc2 hs1=>?_) (λc2 hs2=>?_))
 .refine qK 4 [2] U (aX call171 (Af _ _ _ _ x.Name gK) U (qL 1 [] U (cU 0 ty3 U U U U U U (qL 4 [] U (cU 0 ty57 U U U U U U (qO 6 U ?_))))))
  let z1:Nat×Obj:=(b2,O [I 0,I 0,I 0,.string (⟨#[]⟩:ByteArray),zSN] 59)
  let z3:Nat×Obj:=(b1,O (aj.cells x gG) 59)
  refine lp2 x.L (λi w=>[(0,.slice dP aC.length dO),(3,Q b1),(4,Q b2),(5,Q b3),(6,I (i:Int))]) (λw=>w.2.2.2.2) (λw=>[(b3,O [I x.Kind,I x.N,I (fK aC x.Name),.string x.Name,.slice w.2.1 w.1.length w.2.2.1] 59),z1,z3]++(w.2.2.2.1)) (λi w=>cN aj.rp 59 w.2.2.2.2 w.1 w.2.1 w.2.2.1 w.2.2.2.1/\w.1.length<=0+i/\xJ h w.2.2.2.2) (λs1 i w=>(av.L1 rec aC (av.K1 aC x)) s1 w.1) ([],none,0,[],h) hx.list.1.1 hs1 ⟨cN.nil,lo,lf⟩ ?_ ?_ ?_
  .rintro i1 ⟨nk,rA,ry,DO,hh1⟩ i7 hs3 ⟨AQ,Id,hl1⟩ e
   try dsimp only at AQ Id hl1
   let z5:Nat×Obj:=(b3,O [I x.Kind,I x.N,I (fK aC x.Name),.string x.Name,.slice rA nk.length ry] 59)
   let z19:Nat×Obj:=(b2,O [I x.Kind,I x.N,I (fK aC x.Name),.string x.Name,.slice rA nk.length ry] 59)
   refine sr (du 0 ty59 U U U (bG 1 ty59 U U U U U U (jf (L':=[z5,z19,z3]++(DO)) U (bp (fF aj.aG ([z5,z19,z3]) DO ([]) ap hM AQ (λh3 hle3 sl2=>?_))))))
   have hs4:av.F rec aC x=(aj.mk x.Kind x.N (fK aC x.Name) x.Name nk):=hs3
   exact lJ [.agg (xB [I x.Kind,I x.N,I (fK aC x.Name),.string x.Name,.slice rA nk.length ry])] func105 U ⟨⟨1,_,_,_,_,U,U,.inl ⟨ty59,U⟩⟩,trivial⟩ ⟨(eo.mk rA ry),congrArg (λr:aj=>(.agg (aj.cells r (eo.mk rA ry)).toArray:Value)) hs4.symm,(by rw[hs4];exact(show aj.ok h3 (aj.mk x.Kind x.N (fK aC x.Name) x.Name nk) (eo.mk rA ry)from aj.ok.of sl2))⟩
  .rintro i1 ⟨nk,rA,ry,DO,hh1⟩ y1 rz1 hd1 gg dL i5 mF hs5 ⟨AQ,Id,hl1⟩ hx1 ag1 e
   try dsimp only at AQ Id hl1
   have hdy:=aj.lD (gP hd1)
   refine qK 7 [2] U (tO gg U (qO 5 U (fo ([z1,z3]) mixed kr jn (λim _=>qB [0,2,3] U (tf 4 U U (rj 1 ty57 U U U) (tm 5 U (oB 6 im jn qt ty59 (hx.list.mono aj.aG hl1).1 (nthZ dL) (iC dL) U U U U kr (λq2 cs2 A2 ln2 rr3=>?_))))))))
   obtain⟨r2,rfl,ok3⟩:=rr3
   refine tf 7 U U (λ_ _ hj=>oE ty59 (A2.mono hj.1) U U) ?_
   refine nn 1 8 kr U U ?_ ?_ 
   .refine eu (vy ty57 U (pN (i:=0) U) U) (⟨jn,tn 8 U (cw LM (hrec _ _ _ _ _ _ (gK.mono WK hl1) ok3 ob (aj.lD (gP hd1))) U (λv2 h4 hle4 hp2=>?_))⟩)
    obtain⟨rr4,rfl,ok4⟩:=hp2
    refine⟨jl hle4,tu hle4 (tn 9 U (bT (cells:=[I ((rec aC y1).Kind),I ((rec aC y1).N),I ((rec aC y1).No),.string ((rec aC y1).Name),.slice rr4.oN ((rec aC y1).L.length) rr4.pc]) qt ty59 zc59 U U kr (λb5=>⟨jn,?_⟩)))⟩
    exact Lc
   refine cw LM (hrec _ _ _ _ _ _ (gK.mono WK hl1) ok3 ob (aj.lD (gP hd1))) U (λv3 h4 hle4 hp3=>?_)
   obtain⟨rr4,rfl,ok4⟩:=hp3
   refine⟨jl hle4,tu hle4 ?_⟩
   refine nn 1 9 kr U U ?_ ?_ 
   .refine eu (vy ty57 U (pN (i:=0) U) U) (⟨jn,tn 9 U (bT (cells:=[I ((rec aC y1).Kind),I ((rec aC y1).N),I ((rec aC y1).No),.string ((rec aC y1).Name),.slice rr4.oN ((rec aC y1).L.length) rr4.pc]) qt ty59 zc59 U U kr (λb5=>⟨jn,?_⟩))⟩)
    exact Lc
   refine bT (cells:=[I ((rec aC y1).Kind),I ((rec aC y1).N),I ((rec aC y1).No),.string ((rec aC y1).Name),.slice rr4.oN ((rec aC y1).L.length) rr4.pc]) qt ty59 zc59 U U kr (λb5=>⟨jn,tn 1 U (eu (vy ty57 U (pN (i:=1) U) U) (⟨jn,?_⟩))⟩)
   exact Lc
  rintro i1 ⟨nk,rA,ry,DO,hh1⟩ hd1 mE hx e
  exact qK 7 [2] U (fO mE U (qO 3 U (hx _ rd)))
 refine qK 4 [] U (cU 0 ty57 U U U U U U (qO 6 U ?_))
 let z2:Nat×Obj:=(b2,O [I 0,I 0,I 0,.string (⟨#[]⟩:ByteArray),zSN] 59)
 let z4:Nat×Obj:=(b1,O (aj.cells x gG) 59)
 refine lp2 x.L (λi w=>[(0,.slice dP aC.length dO),(3,Q b1),(4,Q b2),(5,Q b3),(6,I (i:Int))]) (λw=>w.2.2.2.2) (λw=>[(b3,O [I x.Kind,I x.N,I 0,.string x.Name,.slice w.2.1 w.1.length w.2.2.1] 59),z2,z4]++(w.2.2.2.1)) (λi w=>cN aj.rp 59 w.2.2.2.2 w.1 w.2.1 w.2.2.1 w.2.2.2.1/\w.1.length<=0+i/\xJ h w.2.2.2.2) (λs2 i w=>(av.L2 rec aC (av.K2 x)) s2 w.1) ([],none,0,[],h) hx.list.1.1 hs2 ⟨cN.nil,lo,lf⟩ ?_ ?_ ?_
 .rintro i2 ⟨nj,rq,rm,DJ,hh2⟩ CI hs6 ⟨AN,H7,hl2⟩ e
  try dsimp only at AN H7 hl2
  let z9:Nat×Obj:=(b3,O [I x.Kind,I x.N,I 0,.string x.Name,.slice rq nj.length rm] 59)
  let z20:Nat×Obj:=(b2,O [I x.Kind,I x.N,I 0,.string x.Name,.slice rq nj.length rm] 59)
  refine sr (du 0 ty59 U U U (bG 1 ty59 U U U U U U (jf (L':=[z9,z20,z4]++(DJ)) U (bp (fF aj.aG ([z9,z20,z4]) DJ ([]) ap hM AN (λh8 hle8 sl4=>?_))))))
  have hs7:av.F rec aC x=(aj.mk x.Kind x.N 0 x.Name nj):=hs6
  exact lJ [.agg (xB [I x.Kind,I x.N,I 0,.string x.Name,.slice rq nj.length rm])] func105 U ⟨⟨1,_,_,_,_,U,U,.inl ⟨ty59,U⟩⟩,trivial⟩ ⟨(eo.mk rq rm),congrArg (λr:aj=>(.agg (aj.cells r (eo.mk rq rm)).toArray:Value)) hs7.symm,(by rw[hs7];exact(show aj.ok h8 (aj.mk x.Kind x.N 0 x.Name nj) (eo.mk rq rm)from aj.ok.of sl4))⟩
 .rintro i2 ⟨nj,rq,rm,DJ,hh2⟩ y2 rz2 hd2 xw rS Fg Nf hs8 ⟨AN,H7,hl2⟩ hx2 ag2 e
  try dsimp only at AN H7 hl2
  have hdy:=aj.lD (gP hd2)
  refine qK 7 [2] U (tO xw U (qO 5 U (fo ([z2,z4]) mixed kr jn (λnJ _=>qB [0,2,3] U (tf 4 U U (rj 1 ty57 U U U) (tm 5 U (oB 6 nJ jn qt ty59 (hx.list.mono aj.aG hl2).1 (nthZ rS) (iC rS) U U U U kr (λq4 cs4 A4 ln4 rr8=>?_))))))))
  obtain⟨r4,rfl,ok8⟩:=rr8
  refine tf 7 U U (λ_ _ hj=>oE ty59 (A4.mono hj.1) U U) ?_
  refine nn 1 8 kr U U ?_ ?_ 
  .refine eu (vy ty57 U (pN (i:=0) U) U) (⟨jn,tn 8 U (cw LM (hrec _ _ _ _ _ _ (gK.mono WK hl2) ok8 ob (aj.lD (gP hd2))) U (λv5 h9 hle9 hp5=>?_))⟩)
   obtain⟨rr9,rfl,ok9⟩:=hp5
   refine⟨jl hle9,tu hle9 (tn 9 U (bT (cells:=[I ((rec aC y2).Kind),I ((rec aC y2).N),I ((rec aC y2).No),.string ((rec aC y2).Name),.slice rr9.oN ((rec aC y2).L.length) rr9.pc]) qt ty59 zc59 U U kr (λb9=>⟨jn,?_⟩)))⟩
   exact Lb
  refine cw LM (hrec _ _ _ _ _ _ (gK.mono WK hl2) ok8 ob (aj.lD (gP hd2))) U (λv6 h9 hle9 hp6=>?_)
  obtain⟨rr9,rfl,ok9⟩:=hp6
  refine⟨jl hle9,tu hle9 ?_⟩
  refine nn 1 9 kr U U ?_ ?_ 
  .refine eu (vy ty57 U (pN (i:=0) U) U) (⟨jn,tn 9 U (bT (cells:=[I ((rec aC y2).Kind),I ((rec aC y2).N),I ((rec aC y2).No),.string ((rec aC y2).Name),.slice rr9.oN ((rec aC y2).L.length) rr9.pc]) qt ty59 zc59 U U kr (λb9=>⟨jn,?_⟩))⟩)
   exact Lb
  refine bT (cells:=[I ((rec aC y2).Kind),I ((rec aC y2).N),I ((rec aC y2).No),.string ((rec aC y2).Name),.slice rr9.oN ((rec aC y2).L.length) rr9.pc]) qt ty59 zc59 U U kr (λb9=>⟨jn,tn 1 U (eu (vy ty57 U (pN (i:=1) U) U) (⟨jn,?_⟩))⟩)
  exact Lb
 rintro i2 ⟨nj,rq,rm,DJ,hh2⟩ hd2 Si hx e
 exact qK 7 [2] U (fO Si U (qO 3 U (hx _ rd)))
theorem sP:∀(m:Nat)(h:HF)(aC:List ByteArray)(dP:Option Addr)(dO:Nat)(x:aj)(gG:eo)(_:x.dep<=m)(gK:SlC Wc h dP dO aC)(hx:aj.ok h x gG)(hsz:x.dep<=2000000),j4 prog 105 [.slice dP aC.length dO,.agg (aj.cells x gG).toArray] h (λv h'=>∃(rr0:eo),v=.agg (aj.cells (av.go m aC x) rr0).toArray/\aj.ok h' (av.go m aC x) rr0)
 |0,h,aC,dP,dO,x,gG,hd,gK,hx,hsz=>absurd hd (Nat.not_le.2 (aj.nd _))
 |m+1,h,aC,dP,dO,x,gG,hd,gK,hx,hsz=>Cp (av.go m) h aC dP dO x gG (λqh_ qoffices ly lx qx ml qhoffices qhx qhsz qd=>sP m qh_ qoffices ly lx qx ml ob qhoffices qhx qhsz) gK hx hsz
theorem vZ(h aC dP dO x gG)(gK:SlC Wc h dP dO aC)(hx:aj.ok h x gG)(hsz:x.dep<=2000000):j4 prog 105 [.slice dP aC.length dO,.agg (aj.cells x gG).toArray] h (λv h'=>∃(rr0:eo),v=.agg (aj.cells (av aC x) rr0).toArray/\aj.ok h' (av aC x) rr0):=sP _ h aC dP dO x gG (vE _) gK hx hsz
theorem xe(h p i8)(hp:aw.ok h p i8)(hsm:smP p):j4 prog 52 [.agg (aw.cells p i8).toArray] h (λv h'=>∃(rr0:jm),v=.tuple #[.agg (aw.cells ((eh p).1) rr0).toArray,I ((eh p).2)]/\aw.ok h' ((eh p).1) rr0):=by
 refine cV ON U ntmps52 U λX hM hX=>?_
 have hs0:=@rfl _ (eh p)
 have hsc:=hsm.change
 have hsr:=hsm.rules
 refine sr (eL (λb1=>bJ zc61 (λb2=>qO 5 U (du 1 ty61 U U U (aX call102 (Dk _ _ _ hp) U (bp (aI hs0 U (λc1 hs1=>?_) (λc1 hs2=>?_))))))))
 .refine sr (aH (gv (cells:=[.string (⟨#[]⟩:ByteArray),zSN,zSN,zSN,I 0,I 0,I 0,.string (⟨#[]⟩:ByteArray),zSN,I 0]) (places:=[(0,1),(1,1),(2,1),(3,1),(4,5),(9,1)]) O6 zc61 kr kr (bG 0 ty61 U U U U U U (an ?_))))
  have hs3:eh p=((aw.mk (⟨#[]⟩:ByteArray) ([]) ([]) ([]) (aj.mk 0 0 0 (⟨#[]⟩:ByteArray) ([])) 0),2):=hs1
  exact lJ [.agg (xB [.string (⟨#[]⟩:ByteArray),zSN,zSN,zSN,I 0,I 0,I 0,.string (⟨#[]⟩:ByteArray),zSN,I 0]),I 2] ON U ⟨⟨0,_,_,_,_,U,U,.inl ⟨ty61,U⟩⟩,U,trivial⟩ ⟨(jm.mk none 0 none 0 none 0 (eo.mk none 0)),congrArg (λr:(aw×Int)=>(.tuple #[.agg (aw.cells r.1 (jm.mk none 0 none 0 none 0 (eo.mk none 0))).toArray,I r.2]:Value)) hs3.symm,(by rw[hs3];exact(show aw.ok h (aw.mk (⟨#[]⟩:ByteArray) ([]) ([]) ([]) (aj.mk 0 0 0 (⟨#[]⟩:ByteArray) ([])) 0) (jm.mk none 0 none 0 none 0 (eo.mk none 0))from⟨qG,qG,qG,(show aj.ok h (aj.mk 0 0 0 (⟨#[]⟩:ByteArray) ([])) (eo.mk none 0)from aj.ok.of qG)⟩))⟩
 refine qT 4 U (du 1 ty61 U U U (aX call103 (Hb _ _ _ hp) U (qO 2 U (aI hs2 U (λc2 hs4=>?_) (λc2 hs5=>?_)))))
 .refine sr (aH (gv (cells:=[.string (⟨#[]⟩:ByteArray),zSN,zSN,zSN,I 0,I 0,I 0,.string (⟨#[]⟩:ByteArray),zSN,I 0]) (places:=[(0,1),(1,1),(2,1),(3,1),(4,5),(9,1)]) O6 zc61 kr kr (bG 0 ty61 U U U U U U (an ?_))))
  have hs6:eh p=((aw.mk (⟨#[]⟩:ByteArray) ([]) ([]) ([]) (aj.mk 0 0 0 (⟨#[]⟩:ByteArray) ([])) 0),201):=hs4
  exact lJ [.agg (xB [.string (⟨#[]⟩:ByteArray),zSN,zSN,zSN,I 0,I 0,I 0,.string (⟨#[]⟩:ByteArray),zSN,I 0]),I 201] ON U ⟨⟨0,_,_,_,_,U,U,.inl ⟨ty61,U⟩⟩,U,trivial⟩ ⟨(jm.mk none 0 none 0 none 0 (eo.mk none 0)),congrArg (λr:(aw×Int)=>(.tuple #[.agg (aw.cells r.1 (jm.mk none 0 none 0 none 0 (eo.mk none 0))).toArray,I r.2]:Value)) hs6.symm,(by rw[hs6];exact(show aw.ok h (aw.mk (⟨#[]⟩:ByteArray) ([]) ([]) ([]) (aj.mk 0 0 0 (⟨#[]⟩:ByteArray) ([])) 0) (jm.mk none 0 none 0 none 0 (eo.mk none 0))from⟨qG,qG,qG,(show aj.ok h (aj.mk 0 0 0 (⟨#[]⟩:ByteArray) ([])) (eo.mk none 0)from aj.ok.of qG)⟩))⟩
 refine qT 4 U (du 1 ty61 U U U (aX call104 (FD _ _ _ hp) U (qO 2 U (aI hs5 U (λc3 hs7=>?_) (λc3 hs8=>?_)))))
 .refine sr (aH (gv (cells:=[.string (⟨#[]⟩:ByteArray),zSN,zSN,zSN,I 0,I 0,I 0,.string (⟨#[]⟩:ByteArray),zSN,I 0]) (places:=[(0,1),(1,1),(2,1),(3,1),(4,5),(9,1)]) O6 zc61 kr kr (bG 0 ty61 U U U U U U (an ?_))))
  have hs9:eh p=((aw.mk (⟨#[]⟩:ByteArray) ([]) ([]) ([]) (aj.mk 0 0 0 (⟨#[]⟩:ByteArray) ([])) 0),200):=hs7
  exact lJ [.agg (xB [.string (⟨#[]⟩:ByteArray),zSN,zSN,zSN,I 0,I 0,I 0,.string (⟨#[]⟩:ByteArray),zSN,I 0]),I 200] ON U ⟨⟨0,_,_,_,_,U,U,.inl ⟨ty61,U⟩⟩,U,trivial⟩ ⟨(jm.mk none 0 none 0 none 0 (eo.mk none 0)),congrArg (λr:(aw×Int)=>(.tuple #[.agg (aw.cells r.1 (jm.mk none 0 none 0 none 0 (eo.mk none 0))).toArray,I r.2]:Value)) hs9.symm,(by rw[hs9];exact(show aw.ok h (aw.mk (⟨#[]⟩:ByteArray) ([]) ([]) ([]) (aj.mk 0 0 0 (⟨#[]⟩:ByteArray) ([])) 0) (jm.mk none 0 none 0 none 0 (eo.mk none 0))from⟨qG,qG,qG,(show aj.ok h (aj.mk 0 0 0 (⟨#[]⟩:ByteArray) ([])) (eo.mk none 0)from aj.ok.of qG)⟩))⟩
 refine qT 3 U (du 1 ty61 U U U (bJ zc61 (λb3=>bG 0 ty61 U U U U U U (qL 4 [] U (cU 0 ty56 U U U U U U (qO 6 U ?_))))))
 let z4:Nat×Obj:=(b2,O [.string (⟨#[]⟩:ByteArray),zSN,zSN,zSN,I 0,I 0,I 0,.string (⟨#[]⟩:ByteArray),zSN,I 0] 61)
 let z7:Nat×Obj:=(b1,O (aw.cells p i8) 61)
 refine lp2 p.di (λi w=>[(1,Q b1),(2,Q b2),(4,Q b3),(5,I (i:Int))]) (λw=>w.2.2.2.2) (λw=>[(b3,O [.string p.Name,.slice i8.ke p.dQ.length i8.kd,.slice i8.gR p.aB.length i8.gQ,.slice w.2.1 w.1.length w.2.2.1,I p.aQ.Kind,I p.aQ.N,I p.aQ.No,.string p.aQ.Name,.slice i8.aQ.oN p.aQ.L.length i8.aQ.pc,I p.Mode] 61),z4,z7]++(w.2.2.2.1)) (λi w=>cN ft.rp 65 w.2.2.2.2 w.1 w.2.1 w.2.2.1 w.2.2.2.1/\w.1.length<=0+i/\xJ h w.2.2.2.2) (λs1 i w=>(eh.L1 p (eh.K1 p)) s1 i w.1) ([],none,0,[],h) hp.di.1.1 hs8 ⟨cN.nil,lo,lf⟩ ?_ ?_ ?_
 .rintro i1 ⟨nl,rC,rB,AS,hh1⟩ i7 hs10 ⟨AR,Ie,hl1⟩ e
  try dsimp only at AR Ie hl1
  refine qK 5 [2] U (du 2 ty59 U U U (aH (cw LM (vZ _ _ _ _ _ _ (hp.aB.mono WK hl1) (hp.aQ.mono hl1) ob) U (λv3 h4 hle4 hp3=>?_))))
  obtain⟨rr4,rfl,ok4⟩:=hp3
  let z2:Nat×Obj:=(b3,O [.string p.Name,.slice i8.ke p.dQ.length i8.kd,.slice i8.gR p.aB.length i8.gQ,.slice rC nl.length rB,I ((av p.aB p.aQ).Kind),I ((av p.aB p.aQ).N),I ((av p.aB p.aQ).No),.string ((av p.aB p.aQ).Name),.slice rr4.oN ((av p.aB p.aQ).L.length) rr4.pc,I p.Mode] 61)
  let z3:Nat×Obj:=(b2,O [.string p.Name,.slice i8.ke p.dQ.length i8.kd,.slice i8.gR p.aB.length i8.gQ,.slice rC nl.length rB,I ((av p.aB p.aQ).Kind),I ((av p.aB p.aQ).N),I ((av p.aB p.aQ).No),.string ((av p.aB p.aQ).Name),.slice rr4.oN ((av p.aB p.aQ).L.length) rr4.pc,I p.Mode] 61)
  refine qL 1 [] U (cU 0 ty59 U U U U U U (qO 3 U (du 0 ty61 U U U (bG 1 ty61 U U U U U U (jf (L':=[z2,z3,z7]++(AS)) U (an (fF ft.aG ([z2,z3,z7]) AS ([]) ap hM (AR.mono ft.aG hle4) (λh5 hle5 sl2=>?_))))))))
  have hs11:eh p=((aw.mk p.Name p.dQ p.aB nl (aj.mk ((av p.aB p.aQ).Kind) ((av p.aB p.aQ).N) ((av p.aB p.aQ).No) ((av p.aB p.aQ).Name) ((av p.aB p.aQ).L)) p.Mode),0):=hs10
  exact lJ [.agg (aw.cells (aw.mk p.Name p.dQ p.aB nl (aj.mk ((av p.aB p.aQ).Kind) ((av p.aB p.aQ).N) ((av p.aB p.aQ).No) ((av p.aB p.aQ).Name) ((av p.aB p.aQ).L)) p.Mode) (jm.mk i8.ke i8.kd i8.gR i8.gQ rC rB (eo.mk rr4.oN rr4.pc))).toArray,I 0] ON U ⟨⟨1,_,_,_,_,U,U,.inl ⟨ty61,U⟩⟩,U,trivial⟩ ⟨(jm.mk i8.ke i8.kd i8.gR i8.gQ rC rB (eo.mk rr4.oN rr4.pc)),congrArg (λr:(aw×Int)=>(.tuple #[.agg (aw.cells r.1 (jm.mk i8.ke i8.kd i8.gR i8.gQ rC rB (eo.mk rr4.oN rr4.pc))).toArray,I r.2]:Value)) hs11.symm,(by rw[hs11];exact(show aw.ok h5 (aw.mk p.Name p.dQ p.aB nl (aj.mk ((av p.aB p.aQ).Kind) ((av p.aB p.aQ).N) ((av p.aB p.aQ).No) ((av p.aB p.aQ).Name) ((av p.aB p.aQ).L)) p.Mode) (jm.mk i8.ke i8.kd i8.gR i8.gQ rC rB (eo.mk rr4.oN rr4.pc))from⟨(hp.dQ.mono WK ((hl1.t hle4).t hle5)),(hp.aB.mono WK ((hl1.t hle4).t hle5)),sl2,(show aj.ok h5 (aj.mk ((av p.aB p.aQ).Kind) ((av p.aB p.aQ).N) ((av p.aB p.aQ).No) ((av p.aB p.aQ).Name) ((av p.aB p.aQ).L)) (eo.mk rr4.oN rr4.pc)from aj.ok.of (ok4.list.mono aj.aG hle5))⟩))⟩
 .rintro i1 ⟨nl,rC,rB,AS,hh1⟩ y1 rz1 hd1 gg dL i5 mF hs12 ⟨AR,Ie,hl1⟩ hx1 ag1 e
  try dsimp only at AR Ie hl1
  have hsy:=hsm.2.1 y1 (gP hd1)
  refine qK 7 [2] U (tO gg U (qL 9 [2] U ?_))
  let z1:Nat×Obj:=(b3,O [.string p.Name,.slice i8.ke p.dQ.length i8.kd,.slice i8.gR p.aB.length i8.gQ,.slice rC nl.length rB,I p.aQ.Kind,I p.aQ.N,I p.aQ.No,.string p.aQ.Name,.slice i8.aQ.oN p.aQ.L.length i8.aQ.pc,I p.Mode] 61)
  refine bD (aH (iR zI ty65 (hp.di.mono ft.aG hl1).1 dL U U U (λ_ _ _ e=>e) (λq2 r2 A2 ok5=>eJ ty65 A2 U U (bJ zc65 (λb6=>bG 0 ty65 U U U U U U (jf (L':=[(b6,O (ft.cells y1 r2) 65),z1,z4,z7]++(AS)) U (qL 5 [] U (cU 0 ty3 U U U U U U (qL 6 [3] U (du 0 ty59 U U U (aH (cw LM (vZ _ _ _ _ _ _ (hp.aB.mono WK hl1) ok5.aj ob) U (λv4 h6 hle6 hp4=>?_)))))))))))))
  obtain⟨rr6,rfl,ok6⟩:=hp4
  refine qL 1 [] U (cU 0 ty59 U U U U U U (qL 4 [1] U (du 0 ty65 U U U (aH (bT (cells:=[.string y1.Kind,I (i1:Int),I y1.iK,I ((av p.aB y1.aj).Kind),I ((av p.aB y1.aj).N),I ((av p.aB y1.aj).No),.string ((av p.aB y1.aj).Name),.slice rr6.oN ((av p.aB y1.aj).L.length) rr6.pc]) zI ty65 zc65 U U kr (λb7=>?_))))))
  let z5:Nat×Obj:=(b7,O [.string y1.Kind,I (i1:Int),I y1.iK,I ((av p.aB y1.aj).Kind),I ((av p.aB y1.aj).N),I ((av p.aB y1.aj).No),.string ((av p.aB y1.aj).Name),.slice rr6.oN ((av p.aB y1.aj).L.length) rr6.pc] 65)
  let z6:Nat×Obj:=(b6,O [.string y1.Kind,I (i1:Int),I y1.iK,I ((av p.aB y1.aj).Kind),I ((av p.aB y1.aj).N),I ((av p.aB y1.aj).No),.string ((av p.aB y1.aj).Name),.slice rr6.oN ((av p.aB y1.aj).L.length) rr6.pc] 65)
  refine aH (eN ft.dl ([z5,z6,z1,z4,z7]) ([]) (λG=>[z5,z6,z1,z4,z7]++G) ap (λ_=>ap) zI ty65 zc65 U bytes65 (AR.mono ft.aG hle6) U U (gV 0 U (cE (R:=ft.rp) (ft.mk y1.Kind (i1:Int) y1.iK (aj.mk ((av p.aB y1.aj).Kind) ((av p.aB y1.aj).N) ((av p.aB y1.aj).No) ((av p.aB y1.aj).Name) ((av p.aB y1.aj).L))) U ⟨(Cd.mk (eo.mk rr6.oN rr6.pc)),U,(show ft.ok h6 (ft.mk y1.Kind (i1:Int) y1.iK (aj.mk ((av p.aB y1.aj).Kind) ((av p.aB y1.aj).N) ((av p.aB y1.aj).No) ((av p.aB y1.aj).Name) ((av p.aB y1.aj).L))) (Cd.mk (eo.mk rr6.oN rr6.pc))from⟨(show aj.ok h6 (aj.mk ((av p.aB y1.aj).Kind) ((av p.aB y1.aj).N) ((av p.aB y1.aj).No) ((av p.aB y1.aj).Name) ((av p.aB y1.aj).L)) (eo.mk rr6.oN rr6.pc)from aj.ok.of ok6.list)⟩)⟩)) lo lo (λob2 oc2 G2 gr2=>qL 1 [] U (cU 2 ty56 U U U U U U (qO 4 U (oi i1 U (an (cm (L':=[(b3,O [.string p.Name,.slice i8.ke p.dQ.length i8.kd,.slice i8.gR p.aB.length i8.gQ,.slice ob2 ((nl++[(ft.mk y1.Kind (i1:Int) y1.iK (aj.mk ((av p.aB y1.aj).Kind) ((av p.aB y1.aj).N) ((av p.aB y1.aj).No) ((av p.aB y1.aj).Name) ((av p.aB y1.aj).L)))]).length) oc2,I p.aQ.Kind,I p.aQ.N,I p.aQ.No,.string p.aQ.Name,.slice i8.aQ.oN p.aQ.L.length i8.aQ.pc,I p.Mode] 61),z4,z7]++G2) js ?_)))))))
  exact ag1 ((nl++[(ft.mk y1.Kind (i1:Int) y1.iK (aj.mk ((av p.aB y1.aj).Kind) ((av p.aB y1.aj).N) ((av p.aB y1.aj).No) ((av p.aB y1.aj).Name) ((av p.aB y1.aj).L)))]),ob2,oc2,G2,h6) hs12 ⟨gr2,lo,(hl1.t hle6)⟩
 rintro i1 ⟨nl,rC,rB,AS,hh1⟩ hd1 mE hx e
 exact qK 7 [2] U (fO mE U (qO 3 U (hx _ rd)))
instance kC52:Ct 52:=⟨_,call52,@xe⟩
theorem kv(h lm oa n9)(hwho:SlC jB h oa n9 lm)(hsz0:lm.length<=2000000):j4 prog 16 [.slice oa lm.length n9] h (λv h'=>∃(rr0:pu),v=.agg (kC (cG lm) rr0).toArray/\vK h' (cG lm) rr0):=by
 refine cV func16 U ntmps16 U λX hM hX=>?_
 have hs0:=@rfl _ (cG lm)
 refine sr (bJ zc30 (λb1=>qO 3 U (aH (gv (cells:=[I 2,I 2,I 0,.string lsz2,zSN]) (places:=[(0,1),(1,1),(2,1),(3,1),(4,1)]) underlying59 zc59 kr kr (bJ zc59 (λb2=>bG 0 ty59 U U U U U U (qO 3 U (aH (bT (cells:=[.string lsz2]) O5 ty9 zc9 U U kr (λb3=>aH (bT (cells:=[.string lsz1]) O5 ty9 zc9 U U kr (λb4=>du 2 ty59 U U U (aH (gv (cells:=[.string lsz1,I 0,I 0,I 2,I 2,I 0,.string lsz2,zSN]) (places:=[(0,1),(1,1),(2,1),(3,5)]) underlying65 zc65 kr kr (aH (bT (cells:=[.string lsz1,I 0,I 0,I 2,I 2,I 0,.string lsz2,zSN]) zI ty65 zc65 U U kr (λb5=>du 3 ty59 U U U (aH (gv (cells:=[.string lsz0,.slice (zAD b4) 1 1,.slice (zAD b3) 1 1,.slice (zAD b5) 1 1,I 2,I 2,I 0,.string lsz2,zSN,I 2]) (places:=[(0,1),(1,1),(2,1),(3,1),(4,5),(9,1)]) O6 zc61 kr kr (cv 1 U hM (λh1 hle1 hb1=>?_)))))))))))))))))))))
 have sl1:SlC Wc h1 (zAD b4) 1 ([lsz1]):=cY.slB0 (T:=9) (fz:=(0,0)) ((show cY Wc h [.string lsz1] ([lsz1])from⟨[.string lsz1],[],rfl,rfl,rfl,rfl⟩).mono WK hle1) hb1
 refine cv 1 U hM (λh2 hle2 hb2=>?_)
 have sl2:SlC Wc h2 (zAD b3) 1 ([lsz2]):=cY.slB0 (T:=9) (fz:=(0,0)) ((show cY Wc h1 [.string lsz2] ([lsz2])from⟨[.string lsz2],[],rfl,rfl,rfl,rfl⟩).mono WK hle2) hb2
 refine cv 0 U hM (λh3 hle3 hb3=>?_)
 have sl3:SlC ft.rp h3 (zAD b5) 1 ([(ft.mk lsz1 0 0 lszx)]):=cY.slB0 (T:=65) (fz:=(0,0)) ((show cY ft.rp h2 [.string lsz1,I 0,I 0,I 2,I 2,I 0,.string lsz2,zSN] ([(ft.mk lsz1 0 0 lszx)])from⟨[.string lsz1,I 0,I 0,I 2,I 2,I 0,.string lsz2,zSN],[],rfl,rfl,⟨(Cd.mk (eo.mk none 0)),rfl,((show ft.ok h (ft.mk lsz1 0 0 lszx) (Cd.mk (eo.mk none 0))from⟨(show aj.ok h lszx (eo.mk none 0)from aj.ok.of qG)⟩).mono (hle1.t hle2))⟩,rfl⟩).mono ft.aG hle3) hb3
 refine aH (cw call52 (xe _ _ _ (show aw.ok h3 lszp (jm.mk (zAD b4) 1 (zAD b3) 1 (zAD b5) 1 (eo.mk none 0))from⟨(sl1.mono WK (hle2.t hle3)),(sl2.mono WK hle3),sl3,(show aj.ok h3 lszx (eo.mk none 0)from aj.ok.of qG)⟩) Vr) U (λv1 h4 hle4 hp1=>?_))
 obtain⟨rr1,rfl,ok1⟩:=hp1
 refine qO 3 U (bJ zc61 (λb6=>bG 0 ty61 U U U U U U (qO 4 U (du 0 ty61 U U U (aH (gv (cells:=[I 0,I 0,I 0,.string (lszq.Name),.slice rr1.ke (lszq.dQ.length) rr1.kd,.slice rr1.gR (lszq.aB.length) rr1.gQ,.slice rr1.pt (lszq.di.length) rr1.pq,I (lszq.aQ.Kind),I (lszq.aQ.N),I (lszq.aQ.No),.string (lszq.aQ.Name),.slice rr1.aQ.oN (lszq.aQ.L.length) rr1.aQ.pc,I (lszq.Mode)]) (places:=[(0,1),(1,1),(2,1),(3,10)]) underlying63 zc63 kr kr (aH (bT (cells:=[I 0,I 0,I 0,.string (lszq.Name),.slice rr1.ke (lszq.dQ.length) rr1.kd,.slice rr1.gR (lszq.aB.length) rr1.gQ,.slice rr1.pt (lszq.di.length) rr1.pq,I (lszq.aQ.Kind),I (lszq.aQ.N),I (lszq.aQ.No),.string (lszq.aQ.Name),.slice rr1.aQ.oN (lszq.aQ.L.length) rr1.aQ.pc,I (lszq.Mode)]) Ch ty63 zc63 U U kr (λb7=>aH (gv (cells:=[I 5,I 0,I 0,I 0,I 0,I 1099511627776,zSN,zSN,zSN,Y 0,Y 0,Y 0,Y 0,Y 0,Y 0,Y 0,Y 0,Y 0,Y 0,Y 0,Y 0,Y 0,Y 0,Y 0,Y 0,Y 0,Y 0,Y 0,Y 0,Y 0,Y 0,Y 0,Y 0,Y 0,Y 0,Y 0,Y 0,Y 0,Y 0,Y 0,Y 0]) (places:=[(0,1),(1,1),(2,1),(3,1),(4,1),(5,1),(6,1),(7,1),(8,1),(9,32)]) underlying54 zc54 kr kr (aH (bT (cells:=[I 5,I 0,I 0,I 0,I 0,I 1099511627776,zSN,zSN,zSN,Y 0,Y 0,Y 0,Y 0,Y 0,Y 0,Y 0,Y 0,Y 0,Y 0,Y 0,Y 0,Y 0,Y 0,Y 0,Y 0,Y 0,Y 0,Y 0,Y 0,Y 0,Y 0,Y 0,Y 0,Y 0,Y 0,Y 0,Y 0,Y 0,Y 0,Y 0,Y 0]) w7 ty54 zc54 U U kr (λb8=>aH (gv (cells:=[zSN,zSN,zSN,zSN,.slice (zAD b7) 1 1,.slice (zAD b8) 1 1,zSN]) (places:=[(0,1),(1,1),(2,1),(3,1),(4,1),(5,1),(6,1)]) underlying30 zc30 kr kr (bJ zc30 (λb9=>bG 0 ty30 U U U U U U (qO 6 U ?_)))))))))))))))))
 let z1:Nat×Obj:=(b8,Obj.cells (xB (I 5::I 0::I 0::I 0::I 0::I 1099511627776::zSN::zSN::zSN::Y 0::Y 0::Y 0::Y 0::Y 0::Y 0::Y 0::Y 0::Y 0::Y 0::Y 0::Y 0::Y 0::Y 0::Y 0::Y 0::Y 0::Y 0::Y 0::Y 0::Y 0::Y 0::Y 0::Y 0::Y 0::Y 0::Y 0::Y 0::Y 0::Y 0::Y 0::Y 0::[])) 54 (0,0))
 let z2:Nat×Obj:=(b7,O [I 0,I 0,I 0,.string (lszq.Name),.slice rr1.ke (lszq.dQ.length) rr1.kd,.slice rr1.gR (lszq.aB.length) rr1.gQ,.slice rr1.pt (lszq.di.length) rr1.pq,I (lszq.aQ.Kind),I (lszq.aQ.N),I (lszq.aQ.No),.string (lszq.aQ.Name),.slice rr1.aQ.oN (lszq.aQ.L.length) rr1.aQ.pc,I (lszq.Mode)] 63)
 let z3:Nat×Obj:=(b1,O [zSN,zSN,zSN,zSN,zSN,zSN,zSN] 30)
 let z6:Nat×Obj:=(b2,O [I 2,I 2,I 0,.string lsz2,zSN] 59)
 let z8:Nat×Obj:=(b6,O (aw.cells lszq rr1) 61)
 refine gx (ι:=Nat×List aK×Option Addr×Nat×LH) (λi=>[(0,.slice oa lm.length n9),(2,Q b1),(6,Q b9)]) (λi=>h4) (λi=>[(b9,O [.slice i.2.2.1 i.2.1.length i.2.2.2.1,zSN,zSN,zSN,.slice (zAD b7) 1 1,.slice (zAD b8) 1 1,zSN] 30),z1,z2,z8,z6,z3]++(i.2.2.2.2)) (λi=>i.1<=(qE 3).length/\cG lm=((cG.K1 lm) i.2.1)/\cN aK.rp 120 h4 i.2.1 i.2.2.1 i.2.2.2.1 i.2.2.2.2/\i.2.1.length<=0+i.1) ?_ (λhx1=>?_)
 .rintro⟨i1,lL,ol,oh,tb⟩ ⟨i7,hs1,xx,Ib⟩ e
  try dsimp only at i7 xx Ib
  refine qK 7 [] U ?_
  refine lp2 lm (λi w=>[(2,Q b1),(6,Q b9),(41,.slice oa lm.length n9),(42,I (lm.length:Int)),(43,I (i:Int))]) (λ_=>h4) (λw=>[(b9,O [.slice ol lL.length oh,zSN,zSN,zSN,.slice (zAD b7) 1 1,.slice (zAD b8) 1 1,.slice w.2.1 w.1.length w.2.2.1] 30),z1,z2,z8,z6,z3]++(tb++(w.2.2.2))) (λi w=>cN ay.rp 67 h4 w.1 w.2.1 w.2.2.1 w.2.2.2/\w.1.length<=0+i) (λs2 i w=>(cG.L2 (cG.K2 lL)) s2 i w.1) ([],none,0,[]) ((hwho.mono qJ (((hle1.t hle2).t hle3).t hle4)).1.1) hs1 ⟨cN.nil,lo⟩ ?_ ?_
  .rintro i2 ⟨nV,s7,s5,DI⟩ CI hs2 ⟨AM,H6⟩ e
   try dsimp only at AM H6
   let z4:Nat×Obj:=(b9,O [.slice ol lL.length oh,zSN,zSN,zSN,.slice (zAD b7) 1 1,.slice (zAD b8) 1 1,.slice s7 nV.length s5] 30)
   let z7:Nat×Obj:=(b1,O [.slice ol lL.length oh,zSN,zSN,zSN,.slice (zAD b7) 1 1,.slice (zAD b8) 1 1,.slice s7 nV.length s5] 30)
   refine sr (du 0 ty30 U U U (bG 5 ty30 U U U U U U (jf (L':=[z4,z1,z2,z8,z6,z7]++(tb++(DI))) U (bp (fF aK.aG ([z4,z1,z2,z8,z6,z7]) tb (DI) ap hM xx (λh9 hle9 sl8=>gl 2 U hM (λh10 hle10 hb6=>?_)))))))
   have sl9:SlC aD.rp h10 (zAD b7) 1 ([(aD.mk 0 0 0 lszq)]):=cY.slB0 (T:=63) (fz:=(0,0)) ((show cY aD.rp h9 [I 0,I 0,I 0,.string (lszq.Name),.slice rr1.ke (lszq.dQ.length) rr1.kd,.slice rr1.gR (lszq.aB.length) rr1.gQ,.slice rr1.pt (lszq.di.length) rr1.pq,I (lszq.aQ.Kind),I (lszq.aQ.N),I (lszq.aQ.No),.string (lszq.aQ.Name),.slice rr1.aQ.oN (lszq.aQ.L.length) rr1.aQ.pc,I (lszq.Mode)] ([(aD.mk 0 0 0 lszq)])from⟨[I 0,I 0,I 0,.string (lszq.Name),.slice rr1.ke (lszq.dQ.length) rr1.kd,.slice rr1.gR (lszq.aB.length) rr1.gQ,.slice rr1.pt (lszq.di.length) rr1.pq,I (lszq.aQ.Kind),I (lszq.aQ.N),I (lszq.aQ.No),.string (lszq.aQ.Name),.slice rr1.aQ.oN (lszq.aQ.L.length) rr1.aQ.pc,I (lszq.Mode)],[],rfl,rfl,⟨(pL.mk rr1),rfl,((show aD.ok h4 (aD.mk 0 0 0 lszq) (pL.mk rr1)from⟨ok1⟩).mono hle9)⟩,rfl⟩).mono aD.aG hle10) hb6
   refine gl 1 U hM (λh11 hle11 hb7=>?_)
   have sl10:SlC ao.rp h11 (zAD b8) 1 ([(ao.mk 5 0 0 0 0 1099511627776 ([]) ([]) ([]) (λ_=>0))]):=cY.slB0 (T:=54) (fz:=(0,0)) ((show cY ao.rp h10 [I 5,I 0,I 0,I 0,I 0,I 1099511627776,zSN,zSN,zSN,Y 0,Y 0,Y 0,Y 0,Y 0,Y 0,Y 0,Y 0,Y 0,Y 0,Y 0,Y 0,Y 0,Y 0,Y 0,Y 0,Y 0,Y 0,Y 0,Y 0,Y 0,Y 0,Y 0,Y 0,Y 0,Y 0,Y 0,Y 0,Y 0,Y 0,Y 0,Y 0] ([(ao.mk 5 0 0 0 0 1099511627776 ([]) ([]) ([]) (λ_=>0))])from⟨[I 5,I 0,I 0,I 0,I 0,I 1099511627776,zSN,zSN,zSN,Y 0,Y 0,Y 0,Y 0,Y 0,Y 0,Y 0,Y 0,Y 0,Y 0,Y 0,Y 0,Y 0,Y 0,Y 0,Y 0,Y 0,Y 0,Y 0,Y 0,Y 0,Y 0,Y 0,Y 0,Y 0,Y 0,Y 0,Y 0,Y 0,Y 0,Y 0,Y 0],[],rfl,rfl,⟨(ox.mk none 0 none 0 none 0),rfl,((show ao.ok h4 (ao.mk 5 0 0 0 0 1099511627776 ([]) ([]) ([]) (λ_=>0)) (ox.mk none 0 none 0 none 0)from⟨qG,qG,qG⟩).mono (hle9.t hle10))⟩,rfl⟩).mono ao.aG hle11) hb7
   refine fF ay.aG ([z4,z8,z6,z7]) DI ([]) ap hM (AM.mono ay.aG ((hle9.t hle10).t hle11)) (λh12 hle12 sl11=>?_)
   have hs3:cG lm=(Register.mk lL ([]) ([]) ([]) ([(aD.mk 0 0 0 lszq)]) ([(ao.mk 5 0 0 0 0 1099511627776 ([]) ([]) ([]) (λ_=>0))]) nV):=hs2
   exact lJ [.agg (xB [.slice ol lL.length oh,zSN,zSN,zSN,.slice (zAD b7) 1 1,.slice (zAD b8) 1 1,.slice s7 nV.length s5])] func16 U ⟨⟨3,_,_,_,_,U,U,.inl ⟨ty30,U⟩⟩,trivial⟩ ⟨(pu.mk ol oh none 0 none 0 none 0 (zAD b7) 1 (zAD b8) 1 s7 s5),congrArg (λr:Register=>(.agg (kC r (pu.mk ol oh none 0 none 0 none 0 (zAD b7) 1 (zAD b8) 1 s7 s5)).toArray:Value)) hs3.symm,(by rw[hs3];exact(show vK h12 (Register.mk lL ([]) ([]) ([]) ([(aD.mk 0 0 0 lszq)]) ([(ao.mk 5 0 0 0 0 1099511627776 ([]) ([]) ([]) (λ_=>0))]) nV) (pu.mk ol oh none 0 none 0 none 0 (zAD b7) 1 (zAD b8) 1 s7 s5)from⟨(sl8.mono aK.aG ((hle10.t hle11).t hle12)),qG,qG,qG,(sl9.mono aD.aG (hle11.t hle12)),(sl10.mono ao.aG hle12),sl11⟩))⟩
  rintro i2 ⟨nV,s7,s5,DI⟩ y2 rz2 hd2 xw rS Fg Nf hs4 ⟨AM,H6⟩ hx2 ag1 e
  try dsimp only at AM H6
  refine sr (tO xw U (qO 9 U (aH (iF (λy=>[I y]) eM ty3 (hwho.mono qJ (((hle1.t hle2).t hle3).t hle4)).1 rS U U U (λq5 A5=>eE ty3 A5 U (qL 9 [0] U (aH (gv (cells:=[I (i2:Int),I 0,I 0,I 5,I y2,I y2,I 0,.bool false]) (places:=[(0,1),(1,1),(2,1),(3,1),(4,1),(5,1),(6,1),(7,1)]) underlying67 zc67 kr kr ?_))))))))
  let z5:Nat×Obj:=(b9,O [.slice ol lL.length oh,zSN,zSN,zSN,.slice (zAD b7) 1 1,.slice (zAD b8) 1 1,.slice s7 nV.length s5] 30)
  exact aH (bT (cells:=[I (i2:Int),I 0,I 0,I 5,I y2,I y2,I 0,.bool false]) zz ty67 zc67 U U kr (λb15=>aH (eN ay.dl ([(b15,O [I (i2:Int),I 0,I 0,I 5,I y2,I y2,I 0,.bool false] 67),z5,z1,z2,z8,z6,z3]++(tb)) ([]) (λG=>[(b15,O [I (i2:Int),I 0,I 0,I 5,I y2,I y2,I 0,.bool false] 67),z5,z1,z2,z8,z6,z3]++(tb++G)) ap (λ_=>ap) zz ty67 zc67 U bytes67 AM U U (gV 0 U (cE (ay.mk (i2:Int) 0 0 5 y2 y2 0 false) U U)) lo lo (λob6 oc6 G6 gr6=>qL 1 [] U (cU 1 ty28 U U U U U U (qO 3 U (oi i2 U (qO 2 U (cm (L':=[(b9,O [.slice ol lL.length oh,zSN,zSN,zSN,.slice (zAD b7) 1 1,.slice (zAD b8) 1 1,.slice ob6 ((nV++[(ay.mk (i2:Int) 0 0 5 y2 y2 0 false)]).length) oc6] 30),z1,z2,z8,z6,z3]++(tb++G6)) js (ag1 ((nV++[(ay.mk (i2:Int) 0 0 5 y2 y2 0 false)]),ob6,oc6,G6) hs4 ⟨gr6,lo⟩))))))))))
 refine jw (ι:=Nat×List aK×Option Addr×Nat×LH×List Nat) (λi=>[(0,.slice oa lm.length n9),(2,Q b1),(6,Q b9),(28,I (i.1:Int))]) (λi=>h4) (λi=>[(b9,O [.slice i.2.2.1 i.2.1.length i.2.2.2.1,zSN,zSN,zSN,.slice (zAD b7) 1 1,.slice (zAD b8) 1 1,zSN] 30),z1,z2,z8,z6,z3]++(i.2.2.2.2.1)) (λi=>(qE 3).drop i.1=i.2.2.2.2.2/\i.1<=(qE 3).length/\cG lm=((cG.L1 (cG.K1 lm)) i.2.2.2.2.2 i.1 i.2.1)/\cN aK.rp 120 h4 i.2.1 i.2.2.1 i.2.2.2.1 i.2.2.2.2.1/\i.2.1.length<=0+i.1) (λi=>i.2.2.2.2.2.length) (0,[],none,0,[],(qE 3)) rd sw ⟨U,xH _,hs0,cN.nil,lo⟩ ?_
 rintro⟨i1,lL,ol,oh,tb,s1⟩ ⟨hd1,i7,hs5,xx,Ib⟩ ag2 e
 try dsimp only at hd1 i7 xx Ib
 rcases s1 with _|⟨y1,rz1⟩
 .have mE:decide ((i1:Int)<3)=false:=by simpa using nZ hd1
  exact sr (fO mE U (qO 4 U (hx1 (i1,lL,ol,oh,tb) _ ⟨i7,hs5,xx,lo⟩ rd)))
 have gg:decide ((i1:Int)<3)=true:=by simpa using tU hd1
 have i5:i1<3:=by simpa using il hd1
 refine sr (tO gg U (qL 16 [0] U (oi i1 U (aH (gv (cells:=[I (i1:Int),I 0,I 0,I 0,I (((i1+1):Nat):Int),I 1,.bool false]) (places:=[(0,1),(1,1),(2,1),(3,1),(4,1),(5,1),(6,1)]) underlying120 zc120 kr kr ?_)))))
 let z9:Nat×Obj:=(b9,O [.slice ol lL.length oh,zSN,zSN,zSN,.slice (zAD b7) 1 1,.slice (zAD b8) 1 1,zSN] 30)
 exact aH (bT (cells:=[I (i1:Int),I 0,I 0,I 0,I (((i1+1):Nat):Int),I 1,.bool false]) Ro ty120 zc120 U U kr (λb16=>aH (eN aK.dl ([(b16,O [I (i1:Int),I 0,I 0,I 0,I (((i1+1):Nat):Int),I 1,.bool false] 120),z9,z1,z2,z8,z6,z3]) ([]) (λG=>[(b16,O [I (i1:Int),I 0,I 0,I 0,I (((i1+1):Nat):Int),I 1,.bool false] 120),z9,z1,z2,z8,z6,z3]++G) ap (λ_=>ap) Ro ty120 zc120 U bytes120 xx U U (gV 0 U (cE (aK.mk (i1:Int) 0 0 0 (((i1+1):Nat):Int) 1 false) U U)) lo lo (λob7 oc7 G7 gr7=>qL 1 [] U (cU 1 ty22 U U U U U U (qO 3 U (oi i1 U (qO 2 U (cm (L':=[(b9,O [.slice ob7 ((lL++[(aK.mk (i1:Int) 0 0 0 (((i1+1):Nat):Int) 1 false)]).length) oc7,zSN,zSN,zSN,.slice (zAD b7) 1 1,.slice (zAD b8) 1 1,zSN] 30),z1,z2,z8,z6,z3]++G7) js (ag2 ((i1+1),(lL++[(aK.mk (i1:Int) 0 0 0 (((i1+1):Nat):Int) 1 false)]),ob7,oc7,G7,rz1) _ (Nat.lt_succ_self _) ⟨ll hd1,il hd1,hs5,gr7,lo⟩ rd))))))))))
theorem BQ(h a U0 UZ mP Ks Kr)(ha:SlC eC.rp h U0 UZ a)(Ji:SlC eC.rp h Ks Kr mP):Ret prog 10 [.slice U0 a.length UZ,.slice Ks mP.length Kr] h (.bool (ju a mP)):=by
 refine sT func10 U ntmps10 U λX hM hX hF=>?_
 have hs0:=@rfl _ (ju a mP)
 refine qK 13 [] U (aI hs0 U (λc1 hs1=>?_) (λc1 hs2=>?_))
 .exact sr (an (nretP [.bool false] (cs hs1)))
 refine qT 6 U ?_
 refine lp0 a (λi=>[(0,.slice U0 a.length UZ),(1,.slice Ks mP.length Kr),(5,I (i:Int))]) ([]) (λs1 i=>(ju.L1 mP (ju.K1)) s1 i) ha.1.1 hs2 ?_ ?_ ?_
 .rintro i1 i7 hs4 e
  exact sr (an (nretP [.bool true] (cs hs4)))
 .rintro i1 y1 rz1 hd1 gg dL i5 mF hs6 hx1 ag1 e
  refine qK 6 [] U (tO gg U (qO 6 U (fo ([]) mixed kr jn (λim _=>qA [0,1] U (kZ 2 (enc:=eC.cells) im jn ei w6 ty45 ha.1 (nthZ dL) (iC dL) U U U U kr (λq3 A3=>tf 3 U U (λ_ _ hj=>oE ty45 (A3.mono hj.1) U U) (qA [4,5] U ?_)))))))
  have ho2:0<=((i1:Int):Int)/\((i1:Int):Int)<((mP).length:Int):=ob
  refine kZ 6 (enc:=eC.cells) im jn ei w6 ty45 Ji.1 ho2 (dC ho2) U U U U kr (λq4 A4=>tf 7 U U (λ_ _ hj=>oE ty45 (A4.mono hj.1) U U) (tf 8 U U (λ_ _ _=>U5 (It y1 (nthI mP (i1:Int))) eqg45 U U) (bW kr (aI hs6 U (λc3 hs7=>?_) (λc3 hs8=>?_)))))
  .exact sr (an (nretP [.bool false] (cs hs7)))
  exact bO (qT 3 U (oi i1 U (an (ag1 hs8))))
 rintro i1 hd1 mE hx e
 exact qK 6 [] U (fO mE U (qO 3 U (hx _ rd)))
theorem sW(h cK gH)(signed:Int)(want QV QU)(mS:vK h cK gH)(hwant:SlC eC.rp h QV QU want)(hsm:smR cK)(hln:cK.cj.length<20)(hok:(bj cK [signed] [] 5 9 9).2=0->vw cK 5 9 9)(hk:dQ h):Ret prog 17 [.agg (kC cK gH).toArray,I signed,.slice QV want.length QU] h (.bool (ve cK signed want)):=by
 refine sT func17 U ntmps17 U λX hM hX hF=>?_
 have hs0:=@rfl _ (ve cK signed want)
 refine sr (eL (λb1=>qO 4 U (du 0 ty30 U U U (bD (aH (bT (cells:=[I signed]) eM ty3 zc3 U U kr (λb2=>cv 0 U hM (λh1 hle1 hb1=>?_))))))))
 have sl1:SlC jB h1 (zAD b2) 1 ([signed]):=cY.slB0 (T:=3) (fz:=(0,0)) ((show cY jB h [I signed] ([signed])from⟨[I signed],[],rfl,rfl,rfl,rfl⟩).mono qJ hle1) hb1
 refine aH (cw Q1 (nS _ _ _ _ _ _ ([]) none 0 5 9 9 (mS.mono hle1) sl1 qG ob ob (hk.mono hle1) ob) U (λv1 h2 hle2 hp1=>?_))
 obtain⟨rb1,rc1,rfl,sl2⟩:=hp1
 refine qO 13 U (jO 5 [20,21,22,23,24,25] 20 25 ((aR cK ([signed]) ([]) 5 9 9).2.1==decide (signed<0)) U (λc1 hk1=>?_) (λe=>?_))
 .exact bD (qO 2 U (aH (eu (U6 VP U U) (mU U (hk1 _ U)))))
 refine bD (jO 4 [26,27,28,29,30] 26 30 (ju ((aR cK ([signed]) ([]) 5 9 9).1) want) U (λc2 hk2=>?_) (λe=>?_))
 .exact bD (bD (aX call10 (BQ _ _ _ _ _ _ _ sl2 (hwant.mono eC.aG (hle1.t hle2))) U (mU U (hk2 _ U))))
 exact an (nretP [.bool ((((aR cK ([signed]) ([]) 5 9 9).2.2==0)&&((aR cK ([signed]) ([]) 5 9 9).2.1==decide (signed<0)))&&(ju ((aR cK ([signed]) ([]) 5 9 9).1) want))] (cs hs0))
theorem cIs2{h:HF}{a b:Int}:cY jB h [I a,I b] [a,b]:=cCo (R:=jB) (cs:=[I a]) (x:=a) rfl rfl (cE b rfl rfl)
theorem Jf(h)(hk:dQ h):Ret prog 6 [] h (.bool CD):=by
 refine sT func6 U ntmps6 U λX hM hX hF=>?_
 refine rn ?_
 refine aH (bT (cells:=[I 1,I 2]) eM ty3 zc3 U U kr (λc1=>cv 0 U hM (λh1 k1 fc1=>?_)))
 have sc1:SlC jB h1 (zAD c1) 2 [1,2]:=slL fc1 lf cIs2 (by simp) (by simp)
 refine aH (cw CZ (kv h1 [1,2] _ _ sc1 dk) U (λv h2 k2 hp=>?_))
 obtain⟨r2,rfl,o2⟩:=hp
 refine aH (wal U (λb2=>?_))
 refine wsW U U U nthA U U U ?_
 refine rn ?_
 refine wst U U nthA U U U U ?_
 refine rn ?_
 refine du 0 ty30 U U U ?_
 refine aH (bT (cells:=[I (-1)]) eM ty3 zc3 U U kr (λc2=>cv 0 U hM (λh3 k3 fc2=>?_)))
 have sc2:SlC jB h3 (zAD c2) 1 [-1]:=slL fc2 lf (cE (R:=jB) (-1) rfl rfl) (by simp) (by simp)
 have on:vK h3 saneN { r2 with pb:=none,o9:=0 }:=⟨(o2.mono k3).dD,(o2.mono k3).fR,(o2.mono k3).ej,(o2.mono k3).dN,qG,(o2.mono k3).cj,(o2.mono k3).dy⟩
 refine aH (cw Q1 (nS h3 saneN _ [-1] _ _ [] none 0 5 9 9 on sc2 qG Vs dk (hk.mono leA) (λ_=>Vy)) U (λv h4 k4 hp=>?_))
 obtain⟨lb1,lc1,hv,sl1⟩:=hp
 rw[sane1]at hv sl1
 subst hv
 refine rn ?_
 refine aH (bT (cells:=[I 2]) eM ty3 zc3 U U kr (λc3=>cv 0 U hM (λh5 k5 fc3=>?_)))
 have sc3:SlC jB h5 (zAD c3) 1 [2]:=slL fc3 lf (cE (R:=jB) (2) rfl rfl) (by simp) (by simp)
 refine aH (cw CZ (kv h5 [2] _ _ sc3 dk) U (λv h6 k6 hp=>?_))
 obtain⟨r6,rfl,o6⟩:=hp
 refine aH (bT (cells:=[I (-1)]) eM ty3 zc3 U U kr (λc4=>cv 0 U hM (λh7 k7 fc4=>?_)))
 have sc4:SlC jB h7 (zAD c4) 1 [-1]:=slL fc4 lf (cE (R:=jB) (-1) rfl rfl) (by simp) (by simp)
 refine rn ?_
 refine aH (j8 (v:=.agg #[I 1,I 3]) [] (List.nil_sublist _) (ip (cap:=[]) (args:=[I 1,I 3]) Jv (mn h7 1 3)) U U ?_)
 refine aH (bT (cells:=[I 1,I 3]) w6 ty45 zc45 U U kr (λc5=>cv 0 U hM (λh8 k8 fc5=>?_)))
 have sc5:SlC eC.rp h8 (zAD c5) 1 [⟨1,3⟩]:=slL fc5 lf (cE (R:=eC.rp) ⟨1,3⟩ rfl rfl) (by simp) (by simp)
 have hc:=rf h8 (cG [2]) _ [-1] _ _ [] none 0 5 9 9 [⟨1,3⟩] _ _ (o6.mono leA) (slm sc4 k8) qG sc5 Uq dk (hk.mono leA) (λ_=>UE)
 rw[sane2]at hc
 refine aX call11 hc U ?_
 clear hc
 refine rn ?_
 refine aH (bT (cells:=[I 2]) eM ty3 zc3 U U kr (λc6=>cv 0 U hM (λh9 k9 fc6=>?_)))
 have sc6:SlC jB h9 (zAD c6) 1 [2]:=slL fc6 lf (cE (R:=jB) (2) rfl rfl) (by simp) (by simp)
 refine aH (cw CZ (kv h9 [2] _ _ sc6 dk) U (λv h10 k10 hp=>?_))
 obtain⟨r10,rfl,o10⟩:=hp
 refine aH (bT (cells:=[I (-1)]) eM ty3 zc3 U U kr (λc7=>cv 0 U hM (λh11 k11 fc7=>?_)))
 have sc7:SlC jB h11 (zAD c7) 1 [-1]:=slL fc7 lf (cE (R:=jB) (-1) rfl rfl) (by simp) (by simp)
 refine rn ?_
 refine aH (j8 (v:=.agg #[I 1,I 4]) [] (List.nil_sublist _) (ip (cap:=[]) (args:=[I 1,I 4]) Jv (mn h11 1 4)) U U ?_)
 refine aH (bT (cells:=[I 1,I 4]) w6 ty45 zc45 U U kr (λc8=>cv 0 U hM (λh12 k12 fc8=>?_)))
 have sc8:SlC eC.rp h12 (zAD c8) 1 [⟨1,4⟩]:=slL fc8 lf (cE (R:=eC.rp) ⟨1,4⟩ rfl rfl) (by simp) (by simp)
 have hc:=rf h12 (cG [2]) _ [-1] _ _ [] none 0 5 9 9 [⟨1,4⟩] _ _ (o10.mono leA) (slm sc7 k12) qG sc8 Uq dk (hk.mono leA) (λ_=>UE)
 rw[sane3]at hc
 refine aX call11 hc U ?_
 clear hc
 refine rn ?_
 refine aH (cw CZ (kv h12 [] _ _ qG dk) U (λv h13 k13 hp=>?_))
 obtain⟨r13,rfl,o13⟩:=hp
 refine aH (cw Q1 (nS h13 (cG []) _ [] none 0 [] none 0 5 9 9 o13 qG qG Ur dk (hk.mono leA) VA) U (λv h14 k14 hp=>?_))
 obtain⟨lb2,lc2,hv,sl2⟩:=hp
 rw[sane4]at hv sl2
 subst hv
 refine rn ?_
 refine aH (cw CZ (kv h14 [] _ _ qG dk) U (λv h15 k15 hp=>?_))
 obtain⟨r15,rfl,o15⟩:=hp
 refine aH (bT (cells:=[I (-1)]) eM ty3 zc3 U U kr (λc9=>cv 0 U hM (λh16 k16 fc9=>?_)))
 have sc9:SlC jB h16 (zAD c9) 1 [-1]:=slL fc9 lf (cE (R:=jB) (-1) rfl rfl) (by simp) (by simp)
 have hc:=rf h16 (cG []) _ [-1] _ _ [] none 0 6 9 9 [] none 0 (o15.mono k16) sc9 qG qG Ur dk (hk.mono leA) VB
 rw[sane5]at hc
 refine aX call11 hc U ?_
 clear hc
 refine rn ?_
 refine aH (bT (cells:=[I 1,I 2]) eM ty3 zc3 U U kr (λc10=>cv 0 U hM (λh17 k17 fc10=>?_)))
 have sc10:SlC jB h17 (zAD c10) 2 [1,2]:=slL fc10 lf cIs2 (by simp) (by simp)
 refine aH (cw CZ (kv h17 [1,2] _ _ sc10 dk) U (λv h18 k18 hp=>?_))
 obtain⟨r18,rfl,o18⟩:=hp
 refine aH (wal U (λb15=>?_))
 refine wsW U U U nthA U U U ?_
 refine rn ?_
 refine aH (wbd U U U ?_)
 refine aH (bT (cells:=[I 7,I 0,I 0,I (-1),I 100,I 0,I 0,.bool false]) C1 ty73 zc73 U U kr (λc11=>cv 0 U hM (λh19 k19 fc11=>?_)))
 have sc11:SlC vQ h19 (zAD c11) 1 [⟨7,0,0,-1,100,0,0,false⟩]:=slL fc11 lf (cE (R:=vQ) ⟨7,0,0,-1,100,0,0,false⟩ rfl rfl) (by simp) (by simp)
 have of_:vK h19 saneF { r18 with uD:=zAD c11,uC:=1 }:=⟨(o18.mono k19).dD,(o18.mono k19).fR,(o18.mono k19).ej,sc11,(o18.mono k19).Versions,(o18.mono k19).cj,(o18.mono k19).dy⟩
 refine rn ?_
 refine wst U U nthA U U U U ?_
 repeat (first|refine rn ?_|refine wgo rfl ?_)
 refine wcF U U ?_
 refine rn ?_
 refine fo ([(b15,O (kC saneF { r18 with uD:=zAD c11,uC:=1 }) 30)]) mixed kr jn (λim _=>?_)
 refine tn 0 U (bT (cells:=[I 1,I 2]) eM ty3 zc3 U U kr (λc12=>?_))
 refine⟨jn,?_⟩
 refine tn 1 U (qf 0 U hM (λh20 k20 fc12=>?_))
 have sc12:SlC jB h20 (zAD c12) 2 [1,2]:=slL fc12 lf cIs2 (by simp) (by simp)
 refine cw CZ (kv h20 [1,2] _ _ sc12 dk) U (λv h21 k21 hp=>?_)
 obtain⟨r21,rfl,o21⟩:=hp
 refine⟨jl (jA k20 k21),tu (jA k20 k21) ?_⟩
 have hc:=sW h21 (cG [1,2]) _ (-1) [] none 0 o21 qG T4 dk (λ_=>T7) (hk.mono leA)
 rw[sane6]at hc
 refine tn 2 U (gu OM hc U ⟨jn,?_⟩)
 clear hc
 refine qA [3,6] U ?_
 refine tn 4 U (bT (cells:=[I 1,I 2]) eM ty3 zc3 U U kr (λc13=>?_))
 refine⟨jn,?_⟩
 refine tn 5 U (qf 0 U hM (λh22 k22 fc13=>?_))
 have sc13:SlC jB h22 (zAD c13) 2 [1,2]:=slL fc13 lf cIs2 (by simp) (by simp)
 refine cw CZ (kv h22 [1,2] _ _ sc13 dk) U (λv h23 k23 hp=>?_)
 obtain⟨r23,rfl,o23⟩:=hp
 refine⟨jl (jA k22 k23),tu (jA k22 k23) ?_⟩
 refine tn 7 U (j8 (v:=.agg #[I 4,I 5]) [] (List.nil_sublist _) (ip (cap:=[]) (args:=[I 4,I 5]) Jv (mn h23 4 5)) U U ⟨jn,?_⟩)
 refine tn 8 U (bT (cells:=[I 4,I 5]) w6 ty45 zc45 U U kr (λc14=>⟨jn,?_⟩))
 refine tn 9 U (qf 0 U hM (λh24 k24 fc14=>?_))
 have sc14:SlC eC.rp h24 (zAD c14) 1 [⟨4,5⟩]:=slL fc14 lf (cE (R:=eC.rp) ⟨4,5⟩ rfl rfl) (by simp) (by simp)
 have hc:=sW h24 (cG [1,2]) _ 3 [⟨4,5⟩] _ _ (o23.mono k24) sc14 T4 dk (λ_=>T7) (hk.mono leA)
 rw[sane7]at hc
 refine gu OM hc U ⟨jl k24,tu k24 ?_⟩
 clear hc
 refine qA [10,11,14] U ?_
 refine tn 12 U (bT (cells:=[I 2]) eM ty3 zc3 U U kr (λc15=>?_))
 refine⟨jn,?_⟩
 refine tn 13 U (qf 0 U hM (λh25 k25 fc15=>?_))
 have sc15:SlC jB h25 (zAD c15) 1 [2]:=slL fc15 lf (cE (R:=jB) (2) rfl rfl) (by simp) (by simp)
 refine cw CZ (kv h25 [2] _ _ sc15 dk) U (λv h26 k26 hp=>?_)
 obtain⟨r26,rfl,o26⟩:=hp
 refine⟨jl (jA k25 k26),tu (jA k25 k26) ?_⟩
 refine tn 15 U (j8 (v:=.agg #[I 1,I 1]) [] (List.nil_sublist _) (ip (cap:=[]) (args:=[I 1,I 1]) Jv (mn h26 1 1)) U U ⟨jn,?_⟩)
 refine tn 16 U (bT (cells:=[I 1,I 1]) w6 ty45 zc45 U U kr (λc16=>⟨jn,?_⟩))
 refine tn 17 U (qf 0 U hM (λh27 k27 fc16=>?_))
 have sc16:SlC eC.rp h27 (zAD c16) 1 [⟨1,1⟩]:=slL fc16 lf (cE (R:=eC.rp) ⟨1,1⟩ rfl rfl) (by simp) (by simp)
 have hc:=sW h27 (cG [2]) _ (-1) [⟨1,1⟩] _ _ (o26.mono k27) sc16 Uq dk (λ_=>UE) (hk.mono leA)
 rw[sane8]at hc
 refine gu OM hc U ⟨jl k27,tu k27 ?_⟩
 clear hc
 refine qA [18,19,21,23] U ?_
 refine tn 20 U (cw CZ (kv h27 [] _ _ qG dk) U (λv h28 k28 hp=>?_))
 obtain⟨r28,rfl,o28⟩:=hp
 refine⟨jl k28,tu k28 ?_⟩
 refine tn 22 U (j8 (v:=.agg #[I 1,I 1]) [] (List.nil_sublist _) (ip (cap:=[]) (args:=[I 1,I 1]) Jv (mn h28 1 1)) U U ⟨jn,?_⟩)
 refine tn 24 U (j8 (v:=.agg #[I 1,I 2]) [] (List.nil_sublist _) (ip (cap:=[]) (args:=[I 1,I 2]) Jv (mn h28 1 2)) U U ⟨jn,?_⟩)
 refine tn 25 U (bT (cells:=[I 1,I 1,I 1,I 2]) w6 ty45 zc45 U U kr (λc17=>⟨jn,?_⟩))
 refine tn 26 U (qf 0 U hM (λh29 k29 fc17=>?_))
 have sc17:SlC eC.rp h29 (zAD c17) 2 [⟨1,1⟩,⟨1,2⟩]:=slL fc17 lf (cCo (R:=eC.rp) (cs:=[I 1,I 1]) (x:=⟨1,1⟩) rfl rfl (cE (R:=eC.rp) ⟨1,2⟩ rfl rfl)) (by simp) (by simp)
 have hc:=sW h29 (cG []) _ (-1) [⟨1,1⟩,⟨1,2⟩] _ _ (o28.mono k29) sc17 Ur dk (λ_=>Vc) (hk.mono leA)
 rw[sane9]at hc
 refine gu OM hc U ⟨jl k29,tu k29 ?_⟩
 clear hc
 refine qA [27,28,30] U ?_
 refine tf 29 U U (λ_ _ hj=>lV ty30 U (hj.nth (i:=0) U) U) ?_
 refine tn 31 U (j8 (v:=.agg #[I 3,I 7]) [] (List.nil_sublist _) (ip (cap:=[]) (args:=[I 3,I 7]) Jv (mn h29 3 7)) U U ⟨jn,?_⟩)
 refine tn 32 U (bT (cells:=[I 3,I 7]) w6 ty45 zc45 U U kr (λc18=>⟨jn,?_⟩))
 refine tn 33 U (qf 0 U hM (λh30 k30 fc18=>?_))
 have sc18:SlC eC.rp h30 (zAD c18) 1 [⟨3,7⟩]:=slL fc18 lf (cE (R:=eC.rp) ⟨3,7⟩ rfl rfl) (by simp) (by simp)
 have hc:=sW h30 saneF _ (-1) [⟨3,7⟩] _ _ (of_.mono leA) sc18 Vt dk (λ_=>Vz) (hk.mono leA)
 rw[saneA]at hc
 refine gu OM hc U ⟨jl k30,tu k30 ?_⟩
 clear hc
 refine qA [34,35] U (bW kr ?_)
 exact wrP [.bool true] hF U rdR hX U
theorem Fz(rec:aj->Int->Int)(h)(x:aj)(gG dJ)(hrec:∀(h:HF)(qx:aj)(ml:eo)(qlimit:Int)(hqx:aj.ok h qx ml)(_:qx.dep<x.dep),Ret prog 172 [.agg (aj.cells qx ml).toArray,I qlimit] h (I (rec qx qlimit)))(hx:aj.ok h x gG):Ret prog 172 [.agg (aj.cells x gG).toArray,I dJ] h (I (ib.F rec x dJ)):=by
 refine sT func172 U ntmps172 U λX hM hX hF=>?_
 have hs0:=@rfl _ (ib.F rec x dJ)
 refine sr (eL (λb1=>qO 11 U ?_))
 refine lp1 x.L (λi w=>[(1,I dJ),(2,Q b1),(5,I w),(6,I (i:Int))]) ([(b1,O (aj.cells x gG) 59)]) (λs1 i w=>(ib.L1 rec dJ (ib.K1)) s1 w) 1 hx.list.1.1 hs0 ?_ ?_ ?_
 .rintro i1 eZ i7 hs1 e
  exact sr (qO 3 U (nretP [I eZ] (ci hs1)))
 .rintro i1 eZ y1 rz1 hd1 gg dL i5 mF hs3 hx1 ag1 e
  refine qK 7 [0] U (tO gg U (qO 6 U (aI hs3 U (λc2 hs4=>?_) (λc2 hs5=>?_))))
  .have c2p:=of_decide_eq_true c2
   exact qK 8 [0] U (aH (iR qt ty59 hx.list.1 dL U U U (λ_ _ _ e=>e) (λq2 r2 A2 ok2=>eJ ty59 A2 U U (qO 3 U (aX call172 (hrec _ _ _ (vB .i64 (dJ-eZ)) ok2 (aj.lD (gP hd1))) U (qO 6 U (oi i1 U (qO 2 U (ag1 (vB .i64 (eZ+(rec y1 (vB .i64 (dJ-eZ))))) hs4)))))))))
  have c2p:=of_decide_eq_false c2
  exact kw U (hx1 i1 eZ hs5)
 rintro i1 eZ hd1 mE hx e
 exact qK 7 [0] U (fO mE U (qO 8 U (hx _ rd)))
theorem vY:∀(m:Nat)(h:HF)(x:aj)(gG:eo)(dJ:Int)(_:x.dep<=m)(hx:aj.ok h x gG),Ret prog 172 [.agg (aj.cells x gG).toArray,I dJ] h (I (ib.go m x dJ))
 |0,h,x,gG,dJ,hd,hx=>absurd hd (Nat.not_le.2 (aj.nd _))
 |m+1,h,x,gG,dJ,hd,hx=>Fz (ib.go m) h x gG dJ (λqh_ qx ml qlimit qhx qd=>vY m qh_ qx ml qlimit ob qhx) hx
theorem GT(h x gG dJ)(hx:aj.ok h x gG):Ret prog 172 [.agg (aj.cells x gG).toArray,I dJ] h (I (ib x dJ)):=vY _ h x gG dJ (vE _) hx
instance kC172:Ct 172:=⟨_,call172,@GT⟩
theorem Ad(h l fg ff)(hl:SlC aD.rp h fg ff l):Ret prog 106 [.slice fg l.length ff] h (.bool (eH l)):=by
 refine sT func106 U ntmps106 U λX hM hX hF=>?_
 generalize hz:(eH l)=z;have hs:=hz.symm
 have HA:=h0 [0] 3 (λs1 i=>(eH.L1 (eH.K1)) s1)
 have HB:=λrz1=>h0 [0,3,4] 5 (λs3 i=>(eH.L3 ((eH.L1 (eH.K1) rz1))) s3)
 exact W
instance kC106:Ct 106:=⟨_,call106,@Ad⟩
theorem KN(h cK gH)(mS:vK h cK gH):Ret prog 53 [.agg (kC cK gH).toArray] h (.bool (mC cK)):=by
 refine sT func53 U ntmps53 U λX hM hX hF=>?_
 generalize hz:(mC cK)=z;have hs:=hz.symm
 have HA:=h0 [1] 3 (λs1 i=>(mC.L1 (mC.K1)) s1)
 exact W
instance kC53:Ct 53:=⟨_,call53,@KN⟩
theorem KM(h cK gH signed cu ct u qs qp)(mS:vK h cK gH)(eT:SlC jB h cu ct signed)(hu:SlC W0 h qs qp u):Ret prog 18 [.agg (kC cK gH).toArray,.slice cu signed.length ct,.slice qs u.length qp] h (.bool (lG cK signed u)):=by
 refine sT func18 U ntmps18 U λX hM hX hF=>?_
 generalize hz:(lG cK signed u)=z;have hs:=hz.symm
 have HA:=h0 [3] 7 (λs1 i=>(lG.L1 (lG.K1)) s1)
 exact W
theorem I1(h gp)  : Ret prog 244 [I gp] h (.bool (uW gp)):=by
 refine sT func244 U ntmps244 U λX hM hX hF=>?_
 generalize hz:(uW gp)=z;have hs:=hz.symm
 exact W
instance kC244:Ct 244:=⟨_,call244,@I1⟩
theorem FL(h gp)  : Ret prog 245 [I gp] h (.bool (ui gp)):=by
 refine sT func245 U ntmps245 U λX hM hX hF=>?_
 generalize hz:(ui gp)=z;have hs:=hz.symm
 exact W
instance kC245:Ct 245:=⟨_,call245,@FL⟩
theorem FK(h gp)  : Ret prog 246 [I gp] h (.bool (uh gp)):=by
 refine sT func246 U ntmps246 U λX hM hX hF=>?_
 generalize hz:(uh gp)=z;have hs:=hz.symm
 exact W
instance kC246:Ct 246:=⟨_,call246,@FK⟩
theorem Hn(h)(x:aK)  : Ret prog 173 [.agg (aK.cells x).toArray] h (.bool (nH x)):=by
 refine sT func173 U ntmps173 U λX hM hX hF=>?_
 generalize hz:(nH x)=z;have hs:=hz.symm
 exact W
instance kC173:Ct 173:=⟨_,call173,@Hn⟩
theorem Ho(h l fg ff)(hl:SlC aK.rp h fg ff l):Ret prog 107 [.slice fg l.length ff] h (I (jr l)):=by
 refine sT func107 U ntmps107 U λX hM hX hF=>?_
 generalize hz:(jr l)=z;have hs:=hz.symm
 have HA:=h0 [0] 3 (λs1 i=>(jr.L1 l (jr.K1)) s1 i)
 exact W
theorem FI(h gp low high)  : Ret prog 247 [I gp,I low,I high] h (.bool (lX gp low high)):=by
 refine sT func247 U ntmps247 U λX hM hX hF=>?_
 generalize hz:(lX gp low high)=z;have hs:=hz.symm
 exact W
instance kC247:Ct 247:=⟨_,call247,@FI⟩
theorem I0(h gp)  : Ret prog 248 [I gp] h (.bool (uV gp)):=by
 refine sT func248 U ntmps248 U λX hM hX hF=>?_
 generalize hz:(uV gp)=z;have hs:=hz.symm
 exact W
instance kC248:Ct 248:=⟨_,call248,@I0⟩
theorem FJ(h gp)  : Ret prog 249 [I gp] h (.bool (qZ gp)):=by
 refine sT func249 U ntmps249 U λX hM hX hF=>?_
 generalize hz:(qZ gp)=z;have hs:=hz.symm
 exact W
instance kC249:Ct 249:=⟨_,call249,@FJ⟩
theorem Hl(h)(x:bz)  : Ret prog 174 [.agg (bz.cells x).toArray] h (.bool (nF x)):=by
 refine sT func174 U ntmps174 U λX hM hX hF=>?_
 generalize hz:(nF x)=z;have hs:=hz.symm
 exact W
instance kC174:Ct 174:=⟨_,call174,@Hl⟩
theorem Hm(h l fg ff)(hl:SlC bz.rp h fg ff l):Ret prog 108 [.slice fg l.length ff] h (I (je l)):=by
 refine sT func108 U ntmps108 U λX hM hX hF=>?_
 generalize hz:(je l)=z;have hs:=hz.symm
 have HA:=h0 [0] 3 (λs1 i=>(je.L1 l (je.K1)) s1 i)
 exact W
theorem IQ(h t)  : Ret prog 250 [I t] h (.bool (uR t)):=by
 refine sT func250 U ntmps250 U λX hM hX hF=>?_
 generalize hz:(uR t)=z;have hs:=hz.symm
 exact W
instance kC250:Ct 250:=⟨_,call250,@IQ⟩
theorem GW(h gp)  : Ret prog 251 [I gp] h (.bool (sO gp)):=by
 refine sT func251 U ntmps251 U λX hM hX hF=>?_
 generalize hz:(sO gp)=z;have hs:=hz.symm
 exact W
instance kC251:Ct 251:=⟨_,call251,@GW⟩
theorem FA(h gp)  : Ret prog 252 [I gp] h (.bool (ug gp)):=by
 refine sT func252 U ntmps252 U λX hM hX hF=>?_
 generalize hz:(ug gp)=z;have hs:=hz.symm
 exact W
instance kC252:Ct 252:=⟨_,call252,@FA⟩
theorem GX(h)(x:aF)  : Ret prog 175 [.agg (aF.cells x).toArray] h (.bool (nC x)):=by
 refine sT func175 U ntmps175 U λX hM hX hF=>?_
 generalize hz:(nC x)=z;have hs:=hz.symm
 exact W
instance kC175:Ct 175:=⟨_,call175,@GX⟩
theorem GY(h l fg ff)(hl:SlC aF.rp h fg ff l):Ret prog 109 [.slice fg l.length ff] h (I (ja l)):=by
 refine sT func109 U ntmps109 U λX hM hX hF=>?_
 generalize hz:(ja l)=z;have hs:=hz.symm
 have HA:=h0 [0] 3 (λs1 i=>(ja.L1 l (ja.K1)) s1 i)
 exact W
theorem yQ(h gp least most)  : Ret prog 119 [I gp,I least,I most] h (.bool (jx gp least most)):=by
 refine sT func119 U ntmps119 U λX hM hX hF=>?_
 generalize hz:(jx gp least most)=z;have hs:=hz.symm
 exact W
instance kC119:Ct 119:=⟨_,call119,@yQ⟩
theorem tB(h gp)  : Ret prog 120 [I gp] h (.bool (ky gp)):=by
 refine sT func120 U ntmps120 U λX hM hX hF=>?_
 generalize hz:(ky gp)=z;have hs:=hz.symm
 exact W
instance kC120:Ct 120:=⟨_,call120,@tB⟩
theorem Hg(h)(x:Budget)  : Ret prog 176 [.agg (vL x).toArray] h (.bool (nE x)):=by
 refine sT func176 U ntmps176 U λX hM hX hF=>?_
 generalize hz:(nE x)=z;have hs:=hz.symm
 exact W
instance kC176:Ct 176:=⟨_,call176,@Hg⟩
theorem Ah(h l fg ff)(hl:SlC vQ h fg ff l):Ret prog 110 [.slice fg l.length ff] h (I (fY l)):=by
 refine sT func110 U ntmps110 U λX hM hX hF=>?_
 generalize hz:(fY l)=z;have hs:=hz.symm
 have HA:=h0 [0] 3 (λs1 i=>(fY.L1 l (fY.K1)) s1 i)
 exact W
theorem sA(h gp)  : Ret prog 177 [I gp] h (.bool (fX gp)):=by
 refine sT func177 U ntmps177 U λX hM hX hF=>?_
 generalize hz:(fX gp)=z;have hs:=hz.symm
 exact W
theorem Cq(h a U0 UZ mP Ks Kr)(ha:SlC Wc h U0 UZ a)(Ji:SlC Wc h Ks Kr mP):Ret prog 301 [.slice U0 a.length UZ,.slice Ks mP.length Kr] h (.bool (fT a mP)):=by
 refine sT func301 U ntmps301 U λX hM hX hF=>?_
 generalize hz:(fT a mP)=z;have hs:=hz.symm
 have HA:=h0 [0,1] 5 (λs1 i=>(fT.L1 mP (fT.K1)) s1 i)
 exact W
instance kC301:Ct 301:=⟨_,call301,@Cq⟩
instance kR302:Cl 302:=⟨call302⟩
theorem Cr(rec:aj->aj->Bool)(h)(a:aj)(OI mP vq)(hrec:∀(h:HF)(qa:aj)(Ts:eo)(RV:aj)(KU:eo)(hqa:aj.ok h qa Ts)(VS:aj.ok h RV KU)(_:qa.dep<a.dep),Ret prog 302 [.agg (aj.cells qa Ts).toArray,.agg (aj.cells RV KU).toArray] h (.bool (rec qa RV)))(ha:aj.ok h a OI)(Ji:aj.ok h mP vq):Ret prog 302 [.agg (aj.cells a OI).toArray,.agg (aj.cells mP vq).toArray] h (.bool (bK.F rec a mP)):=by
 refine sT func302 U ntmps302 U λX hM hX hF=>?_
 generalize hz:(bK.F rec a mP)=z;have hs:=hz.symm
 have HA:=h0 [2,3] 5 (λs1 i=>(bK.L1 rec mP (bK.K1)) s1 i)
 exact W
theorem sQ:∀(m:Nat)(h:HF)(a:aj)(OI:eo)(mP:aj)(vq:eo)(_:a.dep<=m)(ha:aj.ok h a OI)(Ji:aj.ok h mP vq),Ret prog 302 [.agg (aj.cells a OI).toArray,.agg (aj.cells mP vq).toArray] h (.bool (bK.go m a mP))
 |0,h,a,OI,mP,vq,hd,ha,Ji=>absurd hd (Nat.not_le.2 (aj.nd _))
 |m+1,h,a,OI,mP,vq,hd,ha,Ji=>Cr (bK.go m) h a OI mP vq (λqh_ qa Ts RV KU qha U7 qd=>sQ m qh_ qa Ts RV KU ob qha U7) ha Ji
theorem Dm(h a OI mP vq)(ha:aj.ok h a OI)(Ji:aj.ok h mP vq):Ret prog 302 [.agg (aj.cells a OI).toArray,.agg (aj.cells mP vq).toArray] h (.bool (bK a mP)):=sQ _ h a OI mP vq (vE _) ha Ji
instance kC302:Ct 302:=⟨_,call302,@Dm⟩
theorem IT(h a OI mP vq)(ha:aw.ok h a OI)(Ji:aw.ok h mP vq):Ret prog 253 [.agg (aw.cells a OI).toArray,.agg (aw.cells mP vq).toArray] h (.bool (jg a mP)):=by
 refine sT func253 U ntmps253 U λX hM hX hF=>?_
 generalize hz:(jg a mP)=z;have hs:=hz.symm
 have HA:=h0 [2,3] 5 (λs1 i=>(jg.L1 mP (jg.K1)) s1 i)
 exact W
instance kC253:Ct 253:=⟨_,call253,@IT⟩
theorem Ag(h p i8)(hp:aw.ok h p i8)(hsm:smP p):Ret prog 178 [.agg (aw.cells p i8).toArray] h (I (ic p)):=by
 refine sT func178 U ntmps178 U λX hM hX hF=>?_
 generalize hz:(ic p)=z;have hs:=hz.symm
 exact W
theorem Dn(h l fg ff)(hl:SlC aD.rp h fg ff l)(hsm:smV l):Ret prog 111 [.slice fg l.length ff] h (I (dZ l)):=by
 refine sT func111 U ntmps111 U λX hM hX hF=>?_
 have hs0:=@rfl _ (dZ l)
 refine qK 11 [] U (aI hs0 U (λc1 hs1=>?_) (λc1 hs2=>?_))
 .have c1p:=of_decide_eq_true c1
  exact sr (an (nretP [I 2] (ci hs1)))
 have c1p:=of_decide_eq_false c1
 refine qT 6 U ?_
 refine lp0 l (λi=>[(0,.slice fg l.length ff),(3,I (i:Int))]) ([]) (λs1 i=>(dZ.L1 l (dZ.K1)) s1 i) hl.1.1 hs2 ?_ ?_ ?_
 .rintro i1 i7 hs4 e
  exact sr (an (nretP [I 0] (ci hs4)))
 .rintro i1 y1 rz1 hd1 gg dL i5 mF hs6 hx1 ag1 e
  have hsy:=hsm.2 y1 (gP hd1)
  refine qK 6 [] U (tO gg U (qO 9 U (aH (iR Ch ty63 hl.1 dL U U U (λ_ _ _ e=>e) (λq2 r2 A2 ok2=>eJ ty63 A2 U U (bJ zc63 (λb2=>bG 0 ty63 U U U U U U (qO 2 U ?_))))))))
  refine Eg [(0,.slice fg l.length ff),(3,I (i1:Int)),(58,.bool (((((decide (y1.No<0)||decide (1048576<y1.No))||(decide (0<(i1:Int))&&decide (y1.No<=(nthI l ((i1:Int)-1)).No)))||(!(fX y1.At)))||(!(fX y1.dU)))||((ic y1.aw) != 0)))] (λe=>?_) (λhk1=>?_)
  rotate_left
  .let z1:Nat×Obj:=(b2,O (aD.cells y1 r2) 63)
   refine fo ([z1]) mixed kr jn (λim _=>?_)
   refine qB [0] U (tf 1 U U (rj 0 ty3 U U U) (qA [2,3] U ?_))
   refine fJ 21 U (λc2=>?_) (λc2=>?_)
   .have c2p:=of_decide_eq_true c2
    exact tk 4 U U (qR 5 36 U (bW kr (hk1 _ ⟨U,U,(cb (show true=(((((decide (y1.No<0)||decide (1048576<y1.No))||(decide (0<(i1:Int))&&decide (y1.No<=(nthI l ((i1:Int)-1)).No)))||(!(fX y1.At)))||(!(fX y1.dU)))||((ic y1.aw) != 0))from by rw[c2]<;>rfl)),trivial⟩)))
   have c2p:=of_decide_eq_false c2
   refine qB [4] U (tf 5 U U (rj 0 ty3 U U U) (qR 6 3 U ?_))
   refine fJ 26 U (λc3=>?_) (λc3=>?_)
   .have c3p:=of_decide_eq_true c3
    exact tk 9 U U (qR 10 31 U (bW kr (hk1 _ ⟨U,U,(cb (show true=(((((decide (y1.No<0)||decide (1048576<y1.No))||(decide (0<(i1:Int))&&decide (y1.No<=(nthI l ((i1:Int)-1)).No)))||(!(fX y1.At)))||(!(fX y1.dU)))||((ic y1.aw) != 0))from by rw[c2,c3]<;>rfl)),trivial⟩)))
   have c3p:=of_decide_eq_false c3
   refine qR 9 3 U ?_
   refine fJ 29 U (λc4=>?_) (λc4=>?_)
   .have c4p:=of_decide_eq_true c4
    refine qA [12,13] U (tf 14 U U (λ_ _ _=>yo (v':=I ((i1:Int)-1)) U (lI ob)) ?_)
    have ho1:0<=(((i1:Int)-1):Int)/\(((i1:Int)-1):Int)<((l).length:Int):=ob
    refine oB 15 im jn Ch ty63 hl.1 ho1 (dC ho1) U U U U kr (λq3 cs3 A3 ln3 rr3=>?_)
    obtain⟨r3,rfl,ok3⟩:=rr3
    refine qB [16] U (tf 17 U U (rh ty3 A3 U) (qB [18] U (tf 19 U U (rj 0 ty3 U U U) (qR 20 4 U ?_))))
    refine fJ 41 U (λc5=>?_) (λc5=>?_)
    .have c5p:=of_decide_eq_true c5
     exact tk 24 U U (qR 25 16 U (bW kr (hk1 _ ⟨U,U,(cb (show true=(((((decide (y1.No<0)||decide (1048576<y1.No))||(decide (0<(i1:Int))&&decide (y1.No<=(nthI l ((i1:Int)-1)).No)))||(!(fX y1.At)))||(!(fX y1.dU)))||((ic y1.aw) != 0))from by rw[c2,c3,c4,c5]<;>rfl)),trivial⟩)))
    have c5p:=of_decide_eq_false c5
    refine qB [24] U (tf 25 U U (rj 0 ty3 U U U) (tn 26 U (gu Q0 (sA h y1.At) U (⟨jn,(qR 27 3 U ?_)⟩))))
    refine fJ 47 U (λc6=>?_) (λc6=>?_)
    .exact tk 30 U U (qR 31 10 U (bW kr (hk1 _ ⟨U,U,(cb (show true=(((((decide (y1.No<0)||decide (1048576<y1.No))||(decide (0<(i1:Int))&&decide (y1.No<=(nthI l ((i1:Int)-1)).No)))||(!(fX y1.At)))||(!(fX y1.dU)))||((ic y1.aw) != 0))from by rw[c2,c3,c4,c5,c6]<;>rfl)),trivial⟩)))
    refine qB [30] U (tf 31 U U (rj 0 ty3 U U U) (tn 32 U (gu Q0 (sA h y1.dU) U (⟨jn,(qR 33 3 U ?_)⟩))))
    refine fJ 53 U (λc7=>?_) (λc7=>?_)
    .exact tk 36 U U (qR 37 4 U (bW kr (hk1 _ ⟨U,U,(cb (show true=(((((decide (y1.No<0)||decide (1048576<y1.No))||(decide (0<(i1:Int))&&decide (y1.No<=(nthI l ((i1:Int)-1)).No)))||(!(fX y1.At)))||(!(fX y1.dU)))||((ic y1.aw) != 0))from by rw[c2,c3,c4,c5,c6,c7]<;>rfl)),trivial⟩)))
    exact tf 36 U U (λ_ _ _=>yR PQ U) (tf 37 U U (λ_ _ hj=>lV ty61 U (hj.nth (i:=0) U) U) (tn 38 U (gu call178 (Ag _ _ _ ok2.aw ob) U (⟨jn,(qA [39,40] U (bW kr (hk1 _ ⟨U,U,(cb (show((ic y1.aw) != 0)=(((((decide (y1.No<0)||decide (1048576<y1.No))||(decide (0<(i1:Int))&&decide (y1.No<=(nthI l ((i1:Int)-1)).No)))||(!(fX y1.At)))||(!(fX y1.dU)))||((ic y1.aw) != 0))from by rw[c2,c3,c4,c5,c6,c7]<;>rfl)),trivial⟩)))⟩))))
   have c4p:=of_decide_eq_false c4
   refine qD 12 13 U (tf 25 U U (rj 0 ty3 U U U) (tn 26 U (gu Q0 (sA h y1.At) U (⟨jn,qR 27 3 U ?_⟩))))
   refine fJ 47 U (λc8=>?_) (λc8=>?_)
   .exact tk 30 U U (qR 31 10 U (bW kr (hk1 _ ⟨U,U,(cb (show true=(((((decide (y1.No<0)||decide (1048576<y1.No))||(decide (0<(i1:Int))&&decide (y1.No<=(nthI l ((i1:Int)-1)).No)))||(!(fX y1.At)))||(!(fX y1.dU)))||((ic y1.aw) != 0))from by rw[c2,c3,c4,c8]<;>rfl)),trivial⟩)))
   refine qB [30] U (tf 31 U U (rj 0 ty3 U U U) (tn 32 U (gu Q0 (sA h y1.dU) U (⟨jn,(qR 33 3 U ?_)⟩))))
   refine fJ 53 U (λc9=>?_) (λc9=>?_)
   .exact tk 36 U U (qR 37 4 U (bW kr (hk1 _ ⟨U,U,(cb (show true=(((((decide (y1.No<0)||decide (1048576<y1.No))||(decide (0<(i1:Int))&&decide (y1.No<=(nthI l ((i1:Int)-1)).No)))||(!(fX y1.At)))||(!(fX y1.dU)))||((ic y1.aw) != 0))from by rw[c2,c3,c4,c8,c9]<;>rfl)),trivial⟩)))
   exact tf 36 U U (λ_ _ _=>yR PQ U) (tf 37 U U (λ_ _ hj=>lV ty61 U (hj.nth (i:=0) U) U) (tn 38 U (gu call178 (Ag _ _ _ ok2.aw ob) U (⟨jn,(qA [39,40] U (bW kr (hk1 _ ⟨U,U,(cb (show((ic y1.aw) != 0)=(((((decide (y1.No<0)||decide (1048576<y1.No))||(decide (0<(i1:Int))&&decide (y1.No<=(nthI l ((i1:Int)-1)).No)))||(!(fX y1.At)))||(!(fX y1.dU)))||((ic y1.aw) != 0))from by rw[c2,c3,c4,c8,c9]<;>rfl)),trivial⟩)))⟩))))
  refine aI hs6 U (λc10 hs7=>?_) (λc10 hs8=>?_)
  .exact sr (an (nretP [I 200] (ci hs7)))
  exact bO (qT 3 U (oi i1 U (an (cm (L':=[]) js (ag1 hs8)))))
 rintro i1 hd1 mE hx e
 exact qK 6 [] U (fO mE U (qO 3 U (hx _ rd)))
theorem BS(h t)  : Ret prog 115 [I t] h (.bool (oT t)):=by
 refine sT func115 U ntmps115 U λX hM hX hF=>?_
 generalize hz:(oT t)=z;have hs:=hz.symm
 exact W
instance kC115:Ct 115:=⟨_,call115,@BS⟩
theorem IY(h l fg ff dJ)(hl:SlC jB h fg ff l):Ret prog 254 [.slice fg l.length ff,I dJ] h (.bool (ga l dJ)):=by
 refine sT func254 U ntmps254 U λX hM hX hF=>?_
 generalize hz:(ga l dJ)=z;have hs:=hz.symm
 have HA:=h0 [0,1] 5 (λs1 i=>(ga.L1 l dJ (ga.K1 l)) s1 i)
 exact W
instance kC254:Ct 254:=⟨_,call254,@IY⟩
theorem Hj(h d AW)(hd:ao.ok h d AW):Ret prog 179 [.agg (ao.cells d AW).toArray] h (.bool (m7 d)):=by
 refine sT func179 U ntmps179 U λX hM hX hF=>?_
 generalize hz:(m7 d)=z;have hs:=hz.symm
 exact W
instance kC179:Ct 179:=⟨_,call179,@Hj⟩
theorem BT(h l fg ff no)(hl:SlC ao.rp h fg ff l):Ret prog 255 [.slice fg l.length ff,I no] h (I (gF l no)):=by
 refine sT func255 U ntmps255 U λX hM hX hF=>?_
 generalize hz:(gF l no)=z;have hs:=hz.symm
 have HA:=h0 [0,1] 5 (λs1 i=>(gF.L1 no (gF.K1)) s1 i)
 exact W
instance kC255:Ct 255:=⟨_,call255,@BT⟩
theorem Hh(h l fg ff nos T9 T8)(hl:SlC ao.rp h fg ff l)(hnos:SlC jB h T9 T8 nos):Ret prog 180 [.slice fg l.length ff,.slice T9 nos.length T8] h (.bool (fZ l nos)):=by
 refine sT func180 U ntmps180 U λX hM hX hF=>?_
 generalize hz:(fZ l nos)=z;have hs:=hz.symm
 have HA:=h0 [0,1] 5 (λs1 i=>(fZ.L1 l (fZ.K1)) s1)
 exact W
instance kC180:Ct 180:=⟨_,call180,@Hh⟩
theorem Ak(h l fg ff)(hl:SlC ao.rp h fg ff l):Ret prog 112 [.slice fg l.length ff] h (I (ek l)):=by
 refine sT func112 U ntmps112 U λX hM hX hF=>?_
 generalize hz:(ek l)=z;have hs:=hz.symm
 have HA:=h0 [0] 3 (λs1 i=>(ek.L1 l (ek.K1)) s1 i)
 exact W
theorem FB(h gp most)  : Ret prog 256 [I gp,I most] h (.bool (lW gp most)):=by
 refine sT func256 U ntmps256 U λX hM hX hF=>?_
 generalize hz:(lW gp most)=z;have hs:=hz.symm
 exact W
instance kC256:Ct 256:=⟨_,call256,@FB⟩
theorem IR(h gp)  : Ret prog 257 [I gp] h (.bool (uS gp)):=by
 refine sT func257 U ntmps257 U λX hM hX hF=>?_
 generalize hz:(uS gp)=z;have hs:=hz.symm
 exact W
instance kC257:Ct 257:=⟨_,call257,@IR⟩
theorem KP(h gp)  : Ret prog 258 [I gp] h (.bool (Bl gp)):=by
 refine sT func258 U ntmps258 U λX hM hX hF=>?_
 generalize hz:(Bl gp)=z;have hs:=hz.symm
 exact W
instance kC258:Ct 258:=⟨_,call258,@KP⟩
theorem GZ(h)(x:ay)  : Ret prog 181 [.agg (ay.cells x).toArray] h (.bool (nD x)):=by
 refine sT func181 U ntmps181 U λX hM hX hF=>?_
 generalize hz:(nD x)=z;have hs:=hz.symm
 exact W
instance kC181:Ct 181:=⟨_,call181,@GZ⟩
theorem Ha(h l fg ff)(hl:SlC ay.rp h fg ff l):Ret prog 113 [.slice fg l.length ff] h (I (jd l)):=by
 refine sT func113 U ntmps113 U λX hM hX hF=>?_
 generalize hz:(jd l)=z;have hs:=hz.symm
 have HA:=h0 [0] 3 (λs1 i=>(jd.L1 l (jd.K1)) s1 i)
 exact W
theorem GV(h cK gH)(mS:vK h cK gH)(hsm:smR cK):Ret prog 54 [.agg (kC cK gH).toArray] h (I (nB cK)):=by
 refine sT func54 U ntmps54 U λX hM hX hF=>?_
 have hs0:=@rfl _ (nB cK)
 have hsv:=hsm.vers
 refine sr (eL (λb1=>qL 7 [0] U (aX call107 (Ho _ _ _ _ mS.dD) U (qO 2 U (gz 5 [7,8,9,10,11,12] 7 12 ((je cK.fR) != 0) U (λc1 hk1=>?_) (λe=>?_))))))
 .exact qL 2 [0] U (aX call108 (Hm _ _ _ _ mS.fR) U (qO 2 U (hk1 _ U)))
 refine bD (gz 5 [13,14,15,16,17,18] 13 18 ((ja cK.ej) != 0) U (λc2 hk2=>?_) (λe=>?_))
 .exact qL 2 [0] U (aX call109 (GY _ _ _ _ mS.ej) U (qO 2 U (hk2 _ U)))
 refine bD (gz 5 [19,20,21,22,23,24] 19 24 ((fY cK.dN) != 0) U (λc3 hk3=>?_) (λe=>?_))
 .exact qL 2 [0] U (aX call110 (Ah _ _ _ _ mS.dN) U (qO 2 U (hk3 _ U)))
 refine bp (aI hs0 U (λc4 hs1=>?_) (λc4 hs2=>?_))
 .exact sr (an (nretP [I 300] (ci hs1)))
 refine qK 6 [0] U (aX call111 (Dn _ _ _ _ mS.Versions ob) U (qO 2 U (gz 5 [29,30,31,32,33,34] 29 34 ((ek cK.cj) != 0) U (λc5 hk4=>?_) (λe=>?_))))
 .exact qL 2 [0] U (aX call112 (Ak _ _ _ _ mS.cj) U (qO 2 U (hk4 _ U)))
 refine bD (gz 5 [35,36,37,38,39,40] 35 40 ((jd cK.dy) != 0) U (λc6 hk5=>?_) (λe=>?_))
 .exact qL 2 [0] U (aX call113 (Ha _ _ _ _ mS.dy) U (qO 2 U (hk5 _ U)))
 refine bp (aI hs2 U (λc7 hs4=>?_) (λc7 hs5=>?_))
 .exact sr (an (nretP [I 300] (ci hs4)))
 exact bO (qT 4 U (nretP [I 0] (ci hs5)))
theorem Dp(h l fg ff signed cu ct)(hl:SlC ao.rp h fg ff l)(eT:SlC jB h cu ct signed):Ret prog 114 [.slice fg l.length ff,.slice cu signed.length ct] h (.bool (fa l signed)):=by
 refine sT func114 U ntmps114 U λX hM hX hF=>?_
 generalize hz:(fa l signed)=z;have hs:=hz.symm
 have HA:=h0 [0,1] 5 (λs1 i=>(fa.L1 (fa.K1 l signed)) s1)
 exact W
theorem yn(h l fg ff Ew)(hl:SlC jB h fg ff l):Ret prog 259 [.slice fg l.length ff,I Ew] h (.bool (gy l Ew)):=by
 refine sT func259 U ntmps259 U λX hM hX hF=>?_
 generalize hz:(gy l Ew)=z;have hs:=hz.symm
 have HA:=h0 [0,1] 5 (λs1 i=>(gy.L1 Ew (gy.K1)) s1)
 exact W
theorem Ai(h l fg ff done CM CL effective wo wm xZ cB)(hl:SlC ao.rp h fg ff l)(hdone:SlC jB h CM CL done)(heffective:SlC vV h wo wm effective)(hdn:∀x∈done,0<=x/\x<(l.length:Int))(hef:effective.length=l.length):Ret prog 183 [.slice fg l.length ff,.slice CM done.length CL,.slice wo effective.length wm,I xZ,I cB] h (.tuple #[I ((eV l done effective xZ cB).1),I ((eV l done effective xZ cB).2)]):=by
 refine sT func183 U ntmps183 U λX hM hX hF=>?_
 have hs0:=@rfl _ (eV l done effective xZ cB)
 refine qT 10 U (aX call259 (yn _ _ _ _ xZ hdone) U (qO 2 U (aI hs0 U (λc1 hs1=>?_) (λc1 hs2=>?_))))
 .refine qT 5 U ?_
  have hs3:eV l done effective xZ cB=(1,(-1)):=hs1
  exact nretP [I 1,I (-1)] (hs3▸U)
 refine qT 6 U ?_
 have ho1:0<=(xZ:Int)/\(xZ:Int)<((effective).length:Int):=(by first|omega|exact HU hdn hef ob)
 refine aH (tA (enc:=λy=>[.bool y]) ei Ef ty4 heffective.1 ho1 (dC ho1) U U U (λq1 A1=>eE ty4 A1 U (qO 2 U (aI hs2 U (λc2 hs4=>?_) (λc2 hs5=>?_)))))
 .refine qT 5 U ?_
  have hs6:eV l done effective xZ cB=(4,(-1)):=hs4
  exact nretP [I 4,I (-1)] (hs6▸U)
 refine qT 6 U ?_
 refine lp0 l (λi=>[(0,.slice fg l.length ff),(1,.slice CM done.length CL),(2,.slice wo effective.length wm),(3,I xZ),(4,I cB),(12,I (i:Int))]) ([]) (λs1 i=>(eV.L1 l done effective xZ (eV.K1 l xZ cB)) s1 i) hl.1.1 hs5 ?_ ?_ ?_
 .rintro i1 i7 hs7 e
  refine qT 6 U ?_
  have ho3:0<=(xZ:Int)/\(xZ:Int)<((l).length:Int):=(by first|omega|exact HU hdn rfl ob)
  refine aH (yl w7 ty54 hl.1 ho3 (dC ho3) U U U (λ_ _ _ e=>e) (λq3 r1 A3 ok1=>qL 1 [] U (lM (j:=4) ty3 A3 U U (qO 2 U (aI hs7 U (λc3 hs8=>?_) (λc3 hs9=>?_))))))
  .have c3p:=of_decide_eq_true c3
   refine qT 5 U ?_
   have hs10:eV l done effective xZ cB=(2,(-1)):=hs8
   exact nretP [I 2,I (-1)] (hs10▸U)
  have c3p:=of_decide_eq_false c3
  refine qT 7 U ?_
  have ho4:0<=(xZ:Int)/\(xZ:Int)<((l).length:Int):=(by first|omega|exact HU hdn rfl ob)
  refine aH (yl w7 ty54 hl.1 ho4 (dC ho4) U U U (λ_ _ _ e=>e) (λq4 r2 A4 ok2=>qL 1 [] U (lM (j:=5) ty3 A4 U U (qO 2 U (aI hs9 U (λc4 hs11=>?_) (λc4 hs12=>?_))))))
  .have c4p:=of_decide_eq_true c4
   refine qT 5 U ?_
   have hs13:eV l done effective xZ cB=(3,(-1)):=hs11
   exact nretP [I 3,I (-1)] (hs13▸U)
  have c4p:=of_decide_eq_false c4
  refine qT 6 U ?_
  have hs14:eV l done effective xZ cB=(0,(-1)):=hs12
  exact nretP [I 0,I (-1)] (hs14▸U)
 .rintro i1 y1 rz1 hd1 gg dL i5 mF hs15 hx1 ag1 e
  refine qK 6 [] U (tO gg U (qO 6 U ?_))
  refine Eg [(0,.slice fg l.length ff),(1,.slice CM done.length CL),(2,.slice wo effective.length wm),(3,I xZ),(4,I cB),(12,I (i1:Int)),(49,.bool (((gy done (i1:Int))&&(nthI effective (i1:Int)))&&(gy y1.eX ((nthI l xZ).No))))] (λe=>?_) (λhk1=>?_)
  rotate_left
  .refine fo ([]) mixed kr jn (λim _=>?_)
   refine qA [0,1] U (tn 2 U (gu call259 (yn _ _ _ _ (i1:Int) hdone) U (⟨jn,(tm 3 U ?_)⟩)))
   refine fJ 31 U (λc5=>?_) (λc5=>?_)
   .refine qA [4,5] U ?_
    have ho5:0<=((i1:Int):Int)/\((i1:Int):Int)<((effective).length:Int):=(by first|omega|exact HU hdn hef ob)
    refine kZ 6 (enc:=λy=>[.bool y]) im jn ei Ef ty4 heffective.1 ho5 (dC ho5) U U U U kr (λq5 A5=>tf 7 U U (rh ty4 A5 U) (qA [8,9] U ?_))
    refine fJ 37 U (λc6=>?_) (λc6=>?_)
    .refine qA [10,11] U (oB 12 im jn w7 ty54 hl.1 (nthZ dL) (iC dL) U U U U kr (λq6 cs3 A6 ln3 rr3=>?_))
     obtain⟨r3,rfl,ok3⟩:=rr3
     refine qB [13] U (tf 14 U U (rH 7 ty31 A6 U U) (qA [15,16] U ?_))
     have ho6:0<=(xZ:Int)/\(xZ:Int)<((l).length:Int):=(by first|omega|exact HU hdn rfl ob)
     refine oB 17 im jn w7 ty54 hl.1 ho6 (dC ho6) U U U U kr (λq7 cs4 A7 ln4 rr4=>?_)
     obtain⟨r4,rfl,ok4⟩:=rr4
     exact tf 18 U U (λ_ _ _=>yR TN U) (tf 19 U U (rh ty3 A7 U) (tn 20 U (gu call259 (yn _ _ _ _ ((nthI l xZ).No) ok3.eX) U (⟨jn,(qA [21] U (bW kr (hk1 _ ⟨U,U,U,U,U,U,(cb (show(gy y1.eX ((nthI l xZ).No))=(((gy done (i1:Int))&&(nthI effective (i1:Int)))&&(gy y1.eX ((nthI l xZ).No)))from by rw[c5,c6]<;>rfl)),trivial⟩)))⟩))))
    exact tk 10 U U (qR 11 11 U (bW kr (hk1 _ ⟨U,U,U,U,U,U,(cb (show false=(((gy done (i1:Int))&&(nthI effective (i1:Int)))&&(gy y1.eX ((nthI l xZ).No)))from by rw[c5,c6]<;>rfl)),trivial⟩)))
   exact tk 4 U U (qR 5 17 U (bW kr (hk1 _ ⟨U,U,U,U,U,U,(cb (show false=(((gy done (i1:Int))&&(nthI effective (i1:Int)))&&(gy y1.eX ((nthI l xZ).No)))from by rw[c5]<;>rfl)),trivial⟩)))
  refine aI hs15 U (λc7 hs16=>?_) (λc7 hs17=>?_)
  .refine el (fo ([]) mixed kr jn (λnJ _=>qA [0,1] U (oB 2 nJ jn w7 ty54 hl.1 (nthZ dL) (iC dL) U U U U kr (λq8 cs5 A8 ln5 rr5=>?_))))
   obtain⟨r5,rfl,ok5⟩:=rr5
   refine qB [3] U (tf 4 U U (rh ty3 A8 U) (qA [5,6] U (bW kr ?_)))
   have hs18:eV l done effective xZ cB=(5,y1.No):=hs16
   exact nretP [I 5,I y1.No] (hs18▸U)
  exact bO (qT 3 U (oi i1 U (an (ag1 hs17))))
 rintro i1 hd1 mE hx e
 exact qK 6 [] U (fO mE U (qO 3 U (hx _ rd)))
end Go.Sg
