import Derived.Test.YtpplkjhgggjaoaaGreatDoorW8
/- A part of the proof of JudgeKnown. -/
set_option linter.unusedVariables false
set_option linter.unusedSimpArgs false
set_option maxRecDepth 100000
open List renaming length_cons→xA,length_append→jA,mem_cons_of_mem→vA,not_mem_nil→kA,mem_cons_self→zB,toArray→jB,length_nil→vB,mem_cons→qC,mem_singleton→jD,append_assoc→kD,mem_of_getElem?→vE,nil_append→zG,mem_append→kH,perm_append_comm→vJ,map_cons→xK,mem_map_of_mem→kM,nodup_cons→kR,foldl_cons→aAy
open Go.Sg.Rp renaming int→kB,aP→jH,bool→aA4,iI→aBw
open Go.IntKind renaming wrap→vC
open Go.Value renaming int→kC,bool→aAG
open Go.Sg.Policy renaming cells→xE,mk→kN
open Go.Sg.SlC renaming nil→qF
open Go.Sg.HF renaming le_trans→zF,le→vM,le_refl→vQ
open Nat renaming le_refl→kF,zero_le→zN,lt_or_ge→xQ
open Go.Sg.Expr renaming mk→xG
open Go.Sg.Budget renaming cells→xH,rp→aAd,mk→aAz,ai→aBd
open Go.Sg.Document renaming ai→vH,rp→xS,cells→jT
open Go.Sg.Version renaming ai→jM,rp→jN,cells→xV,mk→aA1
open Go.Sg.Register renaming cells→qQ
open Option.some renaming inj→qW
open Go.Sg.Use renaming cells→aAc,rp→aBY,ai→aCa
open Go.Sg.Stp renaming mono→aB9

namespace Go.Sg
open Go.Proofs Go.Proofs.Tryz
set_option maxHeartbeats 2000000
theorem uQ(h:HF)(v:Version)(Sf:nO)(v0:Int)(v0_q:Addr)(hv:Version.ok h v Sf)(av0:At h v0_q [I v0]):Ret prog 164 [.agg (xV v Sf).toArray,.pointer (some v0_q)] h (.bool (eB v v0)):=by
 refine sT func164 U ntmps164 U λX hM hX hF=>?_
 have hs0:eB v v0=eB v v0:=rfl
 exact sr (cz (λb1=>qL 6 [0] U (dB ty3 av0 U (qO 3 U (nretP [.bool (v.No==v0)] (cs hs0))))))
theorem pT(h:HF)(c:bU)(oy:kn)(no:Int)(hc:bU.ok h c oy):Io prog 80 [.agg (bU.cells c oy).toArray,I no] h errV (eN c no) (λ(r:Policy)v h'=>∃(rr0:fd),v=.agg (xE r rr0).toArray/\Policy.ok h' r rr0):=by
 refine cZ func80 U ntmps80 U λX hM hX=>?_
 have hs0:eN c no=eN c no:=rfl
 refine sr (cz (λb1=>cz (λb2=>aT zc64 (λb3=>qL 6 [2] U (aU 1 U hM (λh1 hle1 hb1=>aB (eL U U (aj call163 (rQ _ _ _ _ (λdl=>eB dl no) (.func (.func 164) #[] #[Q b2]) (hc.Register.Versions.mono jM hle1) (λh' dl uC hle a0_o=>gM call164 (uQ h' dl uC no ⟨b2,0,none⟩ a0_o ((cL hb1).mono hle)))) U (qO 8 U (ae hs0 U (λc1 hs1=>?_) (λc1 hs2=>?_)))))))))))
 .have c1p:=of_decide_eq_true c1
  exact bE (aB (fK (Ex Ow U U) (aB (Et U yU (λe=>gV (JE [] func80 hs1))))))
 have c1p:=of_decide_eq_false c1
 refine qK 7 [1] U ?_
 have ho1:0<=((aY c.Register.Versions (λdl=>eB dl no)):Int)/\((aY c.Register.Versions (λdl=>eB dl no)):Int)<((c.Register.Versions).length:Int):=(by have hq:=Ei c.Register.Versions (λdl=>eB dl no);simp only[decide_eq_true_eq,decide_eq_false_iff_not,Bool.and_eq_true,Bool.or_eq_true,Bool.not_eq_true',Bool.not_eq_false',Bool.and_eq_false_iff,Bool.or_eq_false_iff,beq_iff_eq,beq_eq_false_iff_ne,bne_iff_ne,bne_eq_false_iff_eq,jA,xA,vB,List.length_drop]at *;omega)
 refine aB (ur wK ty105 (hc.Register.Versions.mono jM hle1).1 ho1 (dh ho1) U U U (λ_ _ _ e=>e) (λq1 r1 A1 ok1=>qL 1 [] U (AO (j:=3) ty64 A1 U U (aL 0 ty64 U U U U U U (aJ ?_)))))
 have hs3:eN c no=(Except.ok ((nthI c.Register.Versions (aY c.Register.Versions (λdl=>eB dl no))).Policy)):=hs2
 exact ew (JA [] [.agg (xE ((nthI c.Register.Versions (aY c.Register.Versions (λdl=>eB dl no))).Policy) r1.Policy).toArray] func80 U ⟨⟨0,_,_,_,_,U,U,.inl ⟨ty64,U⟩⟩,trivial⟩ hs3 ⟨r1.Policy,U,ok1.Policy⟩)
section
variable {P:Program} {e:Env} {X:Cx} {h:HF} {L:LH} {d:Option Nat} {ty:TypeId} {pos:String} {af:Array Edge} {g:Option (Nat×Bool)}
theorem Qo{t u:TypeId}{x:Operand}(hT:∃ms,P.underlying t=some (.interface ms))(hx:e.ev x=.nilIface):∀w,St X h L w->(execOp e.ev ⟨d,.binOp .eql t x (.const .nilIface) u,ty,pos,af,g⟩).run P w=.ok (.value (.bool true)) w:=
 λw _=>by
  obtain⟨ms,hT⟩:=hT
  have hc:e.ev (.const .nilIface)=.nilIface:=rfl
  have he:(Op.equal t .nilIface .nilIface).run P w=.ok true w:=by
   rw[Op.equal,Op.maxDepth,show(10000:Nat)=9999+1 from rfl,Op.equalIn];simp[run_underlying hT]
  simp[execOp,hx,hc,eqGuard,binOp,he]
theorem Qn{t u:TypeId}{x:Operand}{T:TypeId}{v:Value}(hT:∃ms,P.underlying t=some (.interface ms))(hx:e.ev x=.iface T v):∀w,St X h L w->(execOp e.ev ⟨d,.binOp .eql t x (.const .nilIface) u,ty,pos,af,g⟩).run P w=.ok (.value (.bool false)) w:=
 λw _=>by
  obtain⟨ms,hT⟩:=hT
  have hc:e.ev (.const .nilIface)=.nilIface:=rfl
  have he:(Op.equal t (.iface T v) .nilIface).run P w=.ok false w:=by
   rw[Op.equal,Op.maxDepth,show(10000:Nat)=9999+1 from rfl,Op.equalIn];simp[run_underlying hT]
  simp[execOp,hx,hc,eqGuard,binOp,he]
theorem LC{x:Operand}{xt T:TypeId}{k:IntKind}{v:Value}(hT:P.underlying T=some (.int k))(hx:e.ev x=.iface T v):∀w,St X h L w->(execOp e.ev ⟨d,.typeAssert x xt T true,ty,pos,af,g⟩).run P w=.ok (.value (.tuple #[v,.bool true])) w:=
 λw _=>by simp[execOp,hx,Instr.typeAssert,run_underlying hT]
end
theorem GD(h:HF)(b1:Nat)(e0:Int)(X':Cx):TT prog (deferFrame 50) 14 [.code (bodyOf Tryz.f50)] (GL prog X' .returning (λh' B=>h'=h/\B=[(b1,O [I e0] 37)])) (envArgs [Q b1]) [] X' h [(b1,O [I e0] 37)]:=by
 exact sr (Dp (λcs_z Φ⟨c,rest,hcs,hm,_⟩=>by subst hcs;simp[recoverD,hm]) (qO 4 U (aB (fK (Qo ⟨_,OA⟩ U) (qO 6 U (Iw HC U ⟨U,U⟩))))))
theorem Bi(h:HF)(b1:Nat)(e0 ee:Int)(X':Cx):TT prog (deferFrame 50) 14 [.code (bodyOf Tryz.f50)]
  (λcs_z Φ=>∃c rest,cs_z=c::rest/\c.mode=.panicking [{ v:=errV ee,recovered:=false }]/\GL prog X' (.panicking [{ v:=errV ee,recovered:=true }]) (λh' B=>h'=h/\B=[(b1,O [I ee] 37)]) ({ c with mode:=(.panicking [{ v:=errV ee,recovered:=true }]) }::rest) Φ)
  (envArgs [Q b1]) [] X' h [(b1,O [I e0] 37)]:=by
 exact sr (EQ (F':=GL prog X' (.panicking [{ v:=errV ee,recovered:=true }]) (λh' B=>h'=h/\B=[(b1,O [I ee] 37)])) (errV ee) (λcs_z Φ⟨c,rest,hcs,hm,hF⟩=>⟨_,by subst hcs;simp[recoverD,hm],hF⟩) (qO 4 U (aB (fK (Qn ⟨_,OA⟩ U) (qO 4 U (aB (fK (LC Ow U) (qO 11 U (aB (fK (gh U) (cM 0 ty37 U U U U U U (qO 2 U (Iw HC U ⟨U,U⟩)))))))))))))
theorem sa{P:Program}{b:Frame}{n:Nat}{ops:Array Oper}{l:List Oper}{k:List Item}{F:List Frame->(Machine->Prop)->Prop}{e:Env}{ds:List Deferred}{X:Cx}{h:HF}{L:LH}{d:Nat}{ty:TypeId}{pos:String}{af:Array Edge}{g:Option (Nat×Bool)}{f:FuncId}{ass:Array Operand}{ats:Array TypeId}{vs:List Value}{ρ : Type}{pe:Int->Value}{x:Except Int ρ}{φ : ρ->Value->HF->Prop}(hc:∀args w,(callFunc f args).run P w=.ok (.enter f args) w)(hs:Io P f vs h pe x φ)(hvs:ass.toList.map e.ev=vs)(t':∀u v h',x=.ok u->h.le h'->φ u v h'->TO P b n ops l k F (upd e d v) ds X h' L)(tp:∀p h',x=.error p->h.le h'->TP P b n [{ v:=pe p,recovered:=false }] F e ds X h' L)(hdn:Nat.blt d n=true:=by rfl)(hg:guardB ops e ⟨some d,.call ⟨.value (.func f),ass,ats⟩,ty,pos,af,g⟩=true:=by rfl):
  TO P b n ops (⟨some d,.call ⟨.value (.func f),ass,ats⟩,ty,pos,af,g⟩::l) k F e ds X h L:=by
 refine Iv U (oP hdn) U hg (λw hw=>?_)
 have harr:ass.map e.ev=vs.toArray:=Array.ext' (by simp[←hvs])
 refine⟨.enter f vs.toArray,w,?_,?_⟩
 .simp[execOp,resolve,Env.ev,Deferred.ofValue,invoke,harr,hc]
 refine kw (rL.mono (hs w (hw.sub (List.nil_sublist _)).pre) ?_)
 rintro y w' ⟨h',B,hst,rfl,hv⟩
 have hw2:=St.after (A:=[]) (B:=[]) (F:=L) hw hst
 cases y with
 |outgrown=>trivial
 |returned v=>
  cases x with
  |ok u=>obtain⟨v',hv,hφ⟩:=hv;cases hv;exact⟨h',_,hw2,t' _ _ _ rfl hst.le hφ⟩
  |error p=>cases hv
 |panicked ch=>
  cases x with
  |ok u=>obtain⟨v',hv,_⟩:=hv;cases hv
  |error p=>cases hv;exact⟨h',_,hw2,tp _ _ rfl hst.le⟩
theorem Hw.toXH{P:Program}{f:FuncId}{vs:List Value}{h:HF}{ρ : Type}{pe:Int->Value}{enc:ρ->Value}{x:Except Int ρ}(hs:Hw P f vs h (exW pe enc x)):Io P f vs h pe x (λu v h'=>v=enc u/\h'=h):=
 oA.mono hs (λr h' B hl hR=>by
  obtain⟨rfl,rfl,hv⟩:=hR
  refine⟨U,?_⟩
  cases x with
  |ok u=>simp only[exW]at hv;exact⟨_,hv,rfl,rfl⟩
  |error p=>simp only[exW]at hv;exact hv)
theorem wz(h:HF)(cH:Register)(gB:dK)(doc:Int)(version:Int)(dt:Int)(known:Int)(kx:Register.ok h cH gB)(hsm:smR cH)(hpo:∃v∈cH.Versions,v.No=version)(hk:Kinds h):
  jv prog 16 [.agg (qQ cH gB).toArray,I doc,I version,I dt,I known] h (λv h'=>∃(rb0:Option Addr)(rc0:Nat),v=.tuple #[.slice rb0 ((iN cH doc version dt known).1).length rc0,I ((iN cH doc version dt known).2)]/\SlC kB h' rb0 rc0 ((iN cH doc version dt known).1)):=by
 refine cZ Ol U ntmps16 U λX hM hX=>sr (cz (λb5=>gG (aT zc37 (λb11=>qO 3 U (HK U U (aJ ?_))))))
 have fin:∀(hh:HF)(xs:List Int)(rb:Option Addr)(rc:Nat)(ee:Int)(B:LH)(e:Env),iN cH doc version dt known=(xs,ee)->SlC kB hh rb rc xs->e 10=.slice rb xs.length rc->e 11=Q b11->∀a:Act,envOf a=e->∀w,St X hh ([(b11,O [I ee] 37)]++B) w ->
   ∃v h2 B2,(results Tryz.f16 a.tmps).run prog w=.ok v w/\St X h2 B2 w/\(B2=[]/\∃v',Ending.returned v=.returned v'/\∃(rb0:Option Addr)(rc0:Nat),v'=.tuple #[.slice rb0 ((iN cH doc version dt known).1).length rc0,I ((iN cH doc version dt known).2)]/\SlC kB h2 rb0 rc0 ((iN cH doc version dt known).1)):=by
  intro hh xs rb rc ee B e he hs h10 h11 a ha w hw
  rw[he]
  exact⟨_,hh,[],mV (rs:=[.tmp 10,.cell 11 37]) (vs:=[.slice rb xs.length rc,I ee]) U ⟨h10,⟨0,b11,[I ee],37,(0,0),U,h11,.inr ⟨_,ty37,U⟩⟩,trivial⟩ a ha w hw,hw.sub (List.nil_sublist _),U,_,U,rb,rc,U,hs⟩
 refine sr (cI 1 ty30 U U U (aj (v:=I (dX cH)) Ok (pu h cH gB kx hsm hk) U ?_))
 refine sa uF (iz h (dX cH)).toXH U (λu v h1 hx1 hle1 hp1=>?_) (λee h1 hx1 hle1=>?_)
 rotate_left
 .have e1:iN cH doc version dt known=([],ee):=by
   unfold lQ at hx1;unfold iN
   cases hc:dX cH != 0 with
   |true=>rw[hc]at hx1;cases hx1;rfl
   |false=>rw[hc]at hx1;cases hx1
  refine EO (c:=bodyOf Tryz.f50) (cap:=[Q b11]) (A:=[(b11,O [I 0] 37)]) (R':=λh'' B=>h''=h1/\B=[(b11,O [I ee] 37)]) Ol HC U Ml U Mk (λX' _=>Bi h1 b11 0 ee X') U ?_
  rintro h'' B _ ⟨rfl,rfl⟩ a ha w hw
  exact fin _ [] none 0 ee _ _ e1 qF U U a ha w hw
 obtain⟨rfl,rfl⟩:=hp1
 have hc0:dX cH=0:=by
  unfold lQ at hx1
  cases hc:dX cH != 0 with
  |true=>rw[hc]at hx1;cases hx1
  |false=>simpa using hc
 refine qO 3 U (cI 1 ty30 U U U (qO 3 U ?_))
 refine sa call53 (Al h1 cH gB doc dt known kx) U (λc v h2 hx2 hle2 hp2=>?_) (λee h2 hx2 hle2=>?_)
 rotate_left
 .have e1:iN cH doc version dt known=([],ee):=by unfold iN;rw[hc0,hx2];rfl
  refine EO (c:=bodyOf Tryz.f50) (cap:=[Q b11]) (A:=[(b11,O [I 0] 37)]) (R':=λh'' B=>h''=h2/\B=[(b11,O [I ee] 37)]) Ol HC U Ml U Mk (λX' _=>Bi h2 b11 0 ee X') U ?_
  rintro h'' B _ ⟨rfl,rfl⟩ a ha w hw
  exact fin _ [] none 0 ee _ _ e1 qF U U a ha w hw
 obtain⟨cr,rfl,okc⟩:=hp2
 obtain⟨hce,hco,_,_⟩:=IS hc0 hx2
 have hreg:c.Register=cH:=by rw[hce]
 have hsc:smR c.Register:=by rw[hreg];exact hsm
 obtain⟨p,hpp⟩:∃p,eN c version=.ok p:=by
  have hq:=BQ (c:=c) (no:=version) (by rw[hreg];exact hpo)
  cases hcp:eN c version with
  |ok p=>exact⟨p,rfl⟩
  |error e=>rw[hcp]at hq;exact hq.elim
 have hpk:=Cy hco hsc hpp
 have hpx:exOk (eN c version):=by rw[hpp];trivial
 have e1:iN cH doc version dt known=(da c p,0):=by unfold iN;rw[hc0,hx2];simp only[bne_self_eq_false,cond_false,hpp]
 refine aT zc123 (λb12=>aL 0 ty123 U U U U U U (aJ ?_))
 let z1:Nat×Obj:=(b12,O (bU.cells c cr) 123)
 obtain⟨K,hK⟩:∃K:LH,K=[z1]:=⟨_,rfl⟩
 have J:∀{h':HF}{A:LH},h2.le h'->Jst h2 [z1] h' (z1::A):=λhl=>⟨hl,λq hq=>by rw[jD.1 hq];exact zB ..⟩
 refine el (eT [z1] mixed kr (J lf) (λhsep _=>jt 0 hsep (J lf) U U kr U (λ_ _ hj=>kg ty123 U (hj.nth (i:=0) U) U) (jt 1 hsep (J lf) U U kr U (λ_ _ hj=>kg ty123 U (hj.nth (i:=0) U) U) (jt 2 hsep (J lf) U U kr U (λ_ _ _=>mZ) (tn 3 U (HS call80 (pT h2 c cr version okc) hpx U (λv h3 hle3 hp3=>⟨J hle3,?_⟩)))))))
 rw[RD hpp]at hp3
 obtain⟨pr,rfl,okp⟩:=hp3
 refine tn 4 U (cT call79 (pU h3 c cr p pr (okc.mono hle3) okp hsc hco hpk.rules) U (λv h4 hle4 hp4=>⟨J (hle3.t hle4),?_⟩))
 obtain⟨rb,rc,rfl,sl⟩:=hp4
 refine jt 5 hsep (J (hle3.t hle4)) U U kr U (λ_ _ _=>Pb) (tn 6 U (lm 1 (off:=0) (vs:=[I 0]) ty37 U U U U (by rfl) U ⟨J (hle3.t hle4),aQ kr (mb (L':=[(b11,O [I 0] 37)]++[z1,(b5,O (qQ cH gB) 30)]) (List.Perm.swap _ _ _) (JC (c:=bodyOf Tryz.f50) (cap:=[Q b11]) (A:=[(b11,O [I 0] 37)]) (R':=λh'' B=>h''=h4/\B=[(b11,O [I 0] 37)]) Ol HC U Ml U Mk (λX' _=>GD h4 b11 0 X') U ?_))⟩))
 rintro h'' B _ ⟨rfl,rfl⟩ a ha w hw
 exact fin _ _ rb rc 0 _ _ e1 sl U U a ha w hw
theorem oD(h:HF)(er:Int)  : Ret prog 85 [I er] h (.bool (gO er)):=by
 refine sT func85 U ntmps85 U λX hM hX hF=>?_
 have hs0:gO er=gO er:=rfl
 refine qT 9 U (bA 3 [5,6,7,8] 5 8 (decide (er<1099511627776)) U (λc1 hk1=>?_) (λe=>?_))
 .exact av (qO 2 U (hk1 _ U))
 exact an (nretP [.bool (decide (0<=er)&&decide (er<1099511627776))] (cs hs0))
theorem wH(h:HF)(l:List Version)(eu:Option Addr)(et:Nat)(l_q:Addr)(known:Int)(known_q:Addr)(eV:Int)(from__q:Addr)(hl:SlC jN h eu et l)(al:At h l_q [.slice eu l.length et])(aknown:At h known_q [I known])(afrom_:At h from__q [I eV])(hsz:l.length<=2000000):Itr prog (.func (.func 167) #[] (jB [.pointer (some l_q),.pointer (some known_q),.pointer (some from__q)])) rE (bL l known eV) h:=by
 refine sV call167 ?_
 intro yf ya yb C Sp Pn h1 A hle m1 m2 m3 hC hy
 refine jW Oj U ntmps167 U λX hXM hX=>?_
 have hs0:bL l known eV=[]++bL l known eV:=rfl
 refine sr (aB (OY hXM (λb1 b1M=>qO 9 U (dB ty26 (al.mono hle) U (qL 3 [] U ?_)))))
 refine lp2 l (λi w=>[(0,.func yf ya yb),(2,.pointer (some known_q)),(3,.pointer (some from__q)),(5,.map (some b1)),(6,I w.1),(13,.slice eu l.length et),(14,I (l.length:Int)),(15,I (i:Int))]) (λ_=>h1) (λw=>[(b1,w.2.2)]++(A)) (λi w=>j8 (kC .i64) (jf jN) h1 w.2.2 w.2.1/\w.2.1.length<=0+i) (λs1 i w=>[]++(bL.L1 known eV (bL.K1)) s1 w.1 w.2.1) ((-1),[],.map #[] 0) ((hl.mono jM hle).1.1) hs0 ⟨(j8.nil (enc:=(kC .i64)) (V:=(jf jN)) (h:=h1)),lc⟩ ?_ ?_
 .rintro i1 ⟨fI,bD,iu⟩ ft hs1 ⟨fR,nM⟩ e
  try dsimp only at fR nM
  refine qT 3 U (ER 0 U b1M (λh8 hle7 hb3=>?_))
  have mc2:tA (kC .i64) (jf jN) h8 b1 bD:=⟨_,hb3,fR.mono (jf.mono jM) hle7⟩
  refine aB (cT call169 (yn h8 bD b1 mc2) U (λv4 h9 hle8 hp3=>aB (cT call168 (zu h9 v4 (bD.map Prod.fst) hp3 (by rw[List.length_map];omega)) U (λv5 h10 hle9 hp4=>?_))))
  obtain⟨rb2,rc2,rfl,sl2⟩:=hp4
  refine qL 3 [] U ?_
  refine lp2 (sortI (bD.map Prod.fst)) (λi w=>[(0,.func yf ya yb),(5,.map (some b1)),(39,.slice rb2 ((sortI (bD.map Prod.fst)).length) rc2),(40,I ((sortI (bD.map Prod.fst)).length:Int)),(41,I (i:Int))]) (λw=>w.2.2) (λw=>w.2.1) (λi w=>C w.1 w.2.2 w.2.1/\vM h10 w.2.2) (λs2 i w=>w.1++(bL.L2 bD (bL.K2)) s2) ([],A,h10) sl2.1.1 hs1 ⟨(m1 _ _ _ _ ((hle7.t hle8).t hle9) hC),lf⟩ ?_ ?_
  .rintro i2 ⟨dn2,A2_,hh2⟩ AZ hs2 ⟨hC2_,hl2⟩ e
   try dsimp only at hC2_ hl2
   refine ew ?_
   have hs3:bL l known eV=dn2:=hs2.trans (List.append_nil _)
   exact sW [] (A:=A2_) Oj U (List.Sublist.refl _) (.inl (hs3▸hC2_))
  rintro i2 ⟨dn2,A2_,hh2⟩ y2 rz2 hd2 yx sZ FZ LQ hs4 ⟨hC2_,hl2⟩ hx2 ag1 e
  try dsimp only at hC2_ hl2
  refine sr (tO yx U (qO 8 U (aB (iF (λy=>[I y]) ej ty3 (sl2.mono jH hl2).1 sZ U U U (λq4 A10=>dB ty3 A10 U (qO 8 U ?_))))))
  obtain⟨o3,hb5,hm5⟩:=(mc2.mono (jf.mono jM) ((hle8.t hle9).t hl2))
  refine aB (nS (k:=y2) Oq (fZ oe) hb5 hm5 (fw zv105) (show(jf jN) _ (.agg (jB [I 0,I 0,I 0,.string (⟨#[]⟩:ByteArray),.slice none 0 0,.slice none 0 0,.slice none 0 0,I 0,I 0,I 0,.string (⟨#[]⟩:ByteArray),.slice none 0 0,I 0])) (aA1 0 0 0 (kN (⟨#[]⟩:ByteArray) [] [] [] (xG 0 0 0 (⟨#[]⟩:ByteArray) []) 0))from⟨_,U,(nO.mk (fd.mk none 0 none 0 none 0 (de.mk none 0))),U,⟨⟨qF,qF,qF,(Expr.ok.of qF)⟩⟩⟩) U U (λv7 hv3=>?_))
  obtain⟨_,rfl,rr4,rfl,ok4⟩:=hv3
  have hx3:bL l known eV=dn2++((y2,(mgetD bD y2 (aA1 0 0 0 (kN (⟨#[]⟩:ByteArray) [] [] [] (xG 0 0 0 (⟨#[]⟩:ByteArray) []) 0))))::(bL.L2 bD (bL.K2) rz2)):=hs4
  refine aB (ll ([]) A2_ ap (hy dn2 (y2,(mgetD bD y2 (aA1 0 0 0 (kN (⟨#[]⟩:ByteArray) [] [] [] (xG 0 0 0 (⟨#[]⟩:ByteArray) []) 0)))) _ _ _ _ hx3 (((hle7.t hle8).t hle9).t hl2) hC2_ ⟨rr4,U,ok4⟩) U U (λh14 A11 hle13 hC3=>?_) (λh15 A12 hle14 hS3=>?_) (λch3 h16 A13 hle15 hP3 e=>gV (nh [] (A:=A13) Oj (List.sublist_append_right _ _) hP3)))
  .have hs5:bL l known eV=(dn2++[(y2,(mgetD bD y2 (aA1 0 0 0 (kN (⟨#[]⟩:ByteArray) [] [] [] (xG 0 0 0 (⟨#[]⟩:ByteArray) []) 0))))])++((bL.L2 bD (bL.K2) rz2)):=hx3.trans ap
   exact nl U (qO 5 U (oi i2 U (qO 2 U (ag1 ((dn2++[(y2,(mgetD bD y2 (aA1 0 0 0 (kN (⟨#[]⟩:ByteArray) [] [] [] (xG 0 0 0 (⟨#[]⟩:ByteArray) []) 0))))]),A11,h14) hs5 ⟨hC3,(hl2.t hle13)⟩))))
  exact nl U (qO 2 U (ew (m4 [] (A:=A12) Oj U (List.Sublist.refl _) (.inr hS3))))
 rintro i1 ⟨fI,bD,iu⟩ y1 rz1 hd1 df aS dZ gy hs6 ⟨fR,nM⟩ hx1 ag2 e
 try dsimp only at fR nM
 refine sr (tO df U (qO 8 U (aB (iR wK ty105 (hl.mono jM hle).1 aS U U U (λ_ _ _ e=>e) (λq5 r2 A14 ok5=>dq ty105 A14 U U (aT zc105 (λb3=>aL 0 ty105 U U U U U U (gJ (L':=[(b3,O (xV y1 r2) 105),(b1,iu)]++(A)) U (qL 6 [0] U (dB ty3 (aknown.mono hle) U (qO 2 U (ky U (λc5=>?_) (λc5=>?_)))))))))))))
 .have c5p:=of_decide_eq_true c5
  have hs7:=hs6.trans (congrArg ([]++·) (bt c5))
  exact md U (bE (oi i1 U (qO 2 U (aX (L':=[(b1,iu)]++(A)) js (ag2 (fI,bD,iu) hs7 ⟨fR,lc⟩)))))
 have c5p:=of_decide_eq_false c5
 have hs8:=hs6.trans (congrArg ([]++·) (bf c5))
 refine qK 11 [0] U (dB ty3 (afrom_.mono hle) U (qO 2 U (ky U (λc6=>?_) (λc6=>?_))))
 .have c6p:=of_decide_eq_true c6
  have hs9:=hs8.trans (congrArg ([]++·) (bt c6))
  refine qT 7 U (ky U (λc7=>?_) (λc7=>?_))
  .have c7p:=of_decide_eq_true c7
   have hs10:=hs9.trans (congrArg ([]++·) (bt c7))
   exact md U (bE (oi i1 U (qO 2 U (aX (L':=[(b1,iu)]++(A)) js (ag2 (fI,bD,iu) hs10 ⟨fR,lc⟩)))))
  have c7p:=of_decide_eq_false c7
  have hs11:=hs9.trans (congrArg ([]++·) (bf c7))
  exact aI (eT ([(b3,O (xV y1 r2) 105),(b1,iu)]) mixed kr jn (λeo _=>tm 0 U (tf 1 U U (rh ty3 (afrom_.mono hle) U) (qA [2,3] U (aQ kr (qT 3 U (cI 0 ty105 U U U (aB (lg 1 (k:=eV) (x:=y1) Oq (fZ oe) U fR U U ⟨_,U,r2,U,ok5⟩ (λmo3 hm6=>qO 3 U (oi i1 U (qO 2 U (aX (L':=[(b1,mo3)]++(A)) js (ag2 (y1.At,(mput bD eV y1),mo3) hs11 ⟨hm6,(by have:=m9 bD eV y1;first|omega|(simp only[vB,xA]at *;omega))⟩))))))))))))))
 have c6p:=of_decide_eq_false c6
 have hs12:=hs8.trans (congrArg ([]++·) (bf c6))
 exact aI (qT 3 U (cI 0 ty105 U U U (aB (lg 1 (k:=y1.At) (x:=y1) Oq (fZ oe) U fR U U ⟨_,U,r2,U,ok5⟩ (λmo4 hm7=>qO 3 U (oi i1 U (qO 2 U (aX (L':=[(b1,mo4)]++(A)) js (ag2 (fI,(mput bD y1.At y1),mo4) hs12 ⟨hm7,(by have:=m9 bD y1.At y1;first|omega|(simp only[vB,xA]at *;omega))⟩)))))))))
theorem zq(h:HF)(l:List Version)(eu:Option Addr)(et:Nat)(dT:Int)(known:Int)(hl:SlC jN h eu et l)(hsz:l.length<=2000000):jv prog 86 [.slice eu l.length et,I dT,I known] h (λv h'=>∃(rv0:Value),v=rv0/\Itr prog rv0 rE (fF l dT known) h'):=by
 refine sT func86 U ntmps86 U λX hM hX hF=>?_
 have hs0:fF l dT known=fF l dT known:=rfl
 refine sr (cz (λb1=>cz (λb2=>cz (λb3=>qO 4 U (aU 2 U hM (λh1 hle1 hb1=>aU 0 U hM (λh2 hle2 hb2=>aU 0 U hM (λh3 hle3 hb3=>aB (eL U U (qO 2 U ?_))))))))))
 have hs1:fF l dT known=(bL l known dT):=hs0
 exact nretH [.func (.func 167) #[] #[Q b1,Q b3,Q b2]] ⟨(.func (.func 167) #[] #[Q b1,Q b3,Q b2]),congrArg (λr:(List (Int×Version))=>((.func (.func 167) #[] #[Q b1,Q b3,Q b2]):Value)) hs1.symm,(by rw[hs1];exact(wH h3 l eu et ⟨b1,0,none⟩ known ⟨b3,0,none⟩ dT ⟨b2,0,none⟩ (hl.mono jM ((hle1.t hle2).t hle3)) ((cL hb1).mono (hle2.t hle3)) ((cL hb2).mono hle3) (cL hb3) ob))⟩
theorem qv(h:HF)(l:List Version)(eu:Option Addr)(et:Nat)(old:Bool)(hl:SlC jN h eu et l):jv prog 170 [.slice eu l.length et,.bool old] h (λv h'=>∃(rb0:Option Addr)(rc0:Nat),v=.slice rb0 (iW l old).length rc0/\SlC jN h' rb0 rc0 (iW l old)):=by
 refine sT func170 U ntmps170 U λX hM hX hF=>?_
 have hs0:iW l old=iW l old:=rfl
 refine qT 9 U ?_
 have hs1:iW l old=l:=hs0
 exact nretH [.slice eu l.length et] ⟨eu,et,congrArg (λr:List Version=>(.slice eu r.length et:Value)) hs1.symm,(by rw[hs1];exact hl)⟩
theorem xg(h:HF)(l:List Version)(eu:Option Addr)(et:Nat)(old:Bool)(hl:SlC jN h eu et l)(hne:0<l.length):jv prog 171 [.slice eu l.length et,.bool old] h (λv h'=>∃(rb0:Option Addr)(rc0:Nat),v=.slice rb0 (iy l old).length rc0/\SlC jN h' rb0 rc0 (iy l old)):=by
 refine sT func171 U ntmps171 U λX hM hX hF=>?_
 have hs0:iy l old=iy l old:=rfl
 refine qT 10 U (ae hs0 U (λc1 hs1=>?_) (λc1 hs2=>?_))
 .refine qT 4 U ?_
  have hs3:iy l old=[]:=hs1
  exact nretH [.slice none 0 0] ⟨none,0,congrArg (λr:List Version=>(.slice none r.length 0:Value)) hs3.symm,(by rw[hs3];exact qF)⟩
 refine qT 4 U (aB (OU wK ty105 hl.1 hl.2 ob U U U (λsb1 sc1 sl1=>an ?_)))
 have hs4:iy l old=(l.take ((1:Int)).toNat):=hs2
 exact nretH [.slice sb1 ((l.take ((1:Int)).toNat).length) sc1] ⟨sb1,sc1,congrArg (λr:List Version=>(.slice sb1 r.length sc1:Value)) hs4.symm,(by rw[hs4];exact sl1)⟩
theorem xe(h:HF)(l:List Version)(eu:Option Addr)(et:Nat)(old:Bool)(hl:SlC jN h eu et l)(hne:0<l.length):jv prog 172 [.slice eu l.length et,.bool old] h (λv h'=>∃(rb0:Option Addr)(rc0:Nat),v=.slice rb0 (iV l old).length rc0/\SlC jN h' rb0 rc0 (iV l old)):=by
 refine sT func172 U ntmps172 U λX hM hX hF=>?_
 have hs0:iV l old=iV l old:=rfl
 have hbl:=hl.1.1
 refine qK 9 [] U (jO (v':=I ((l.length:Int)-1)) U (lk ob) (aB (OW wK ty105 hl.1 hl.2 ob U U U (λsb1 sc1 sl1=>an ?_))))
 have hs1:iV l old=(l.drop ((((l.length:Int)-1):Int)).toNat):=hs0
 exact nretH [.slice sb1 ((l.drop ((((l.length:Int)-1):Int)).toNat).length) sc1] ⟨sb1,sc1,congrArg (λr:List Version=>(.slice sb1 r.length sc1:Value)) hs1.symm,(by rw[hs1];exact sl1)⟩
theorem sy(h:HF)   : jv prog 87 [] h (λv h'=>∃(rk0:Nat),v=.map (some rk0)/\tA (kC .i64) VFn h' rk0 (lu)):=by
 refine sT func87 U ntmps87 U λX hM hX hF=>?_
 have hs0:lu=lu:=rfl
 refine qT 10 U (aB (oB (λb1=>aB (xq 0 (k:=1) (x:=(Value.func (.func 171) #[] #[])) Ju (fZ oe) U (j8.nil (enc:=(kC .i64)) (V:=VFn) (h:=h)) U U U (λmo1 hm1=>aB (xq 0 (k:=2) (x:=(Value.func (.func 172) #[] #[])) Ju (fZ oe) U hm1 U U U (λmo2 hm2=>av (aB (xq 0 (k:=3) (x:=(Value.func (.func 170) #[] #[])) Ju (fZ oe) U hm2 U U U (λmo3 hm3=>av (aB (xq 0 (k:=4) (x:=(Value.func (.func 170) #[] #[])) Ju (fZ oe) U hm3 U U U (λmo4 hm4=>qO 3 U (eW 0 U hM (λh1 hle1 hb1=>?_)))))))))))))))
 have mc1:tA (kC .i64) VFn h1 b1 (mput (mput (mput (mput ([]) 1 (Value.func (.func 171) #[] #[])) 2 (Value.func (.func 172) #[] #[])) 3 (Value.func (.func 170) #[] #[])) 4 (Value.func (.func 170) #[] #[])):=⟨_,hb1,hm4.mono VFn.mono hle1⟩
 have hs1:lu=(mput (mput (mput (mput ([]) 1 (Value.func (.func 171) #[] #[])) 2 (Value.func (.func 172) #[] #[])) 3 (Value.func (.func 170) #[] #[])) 4 (Value.func (.func 170) #[] #[])):=hs0
 exact nretH [.map (some b1)] ⟨b1,congrArg (λr:(List (Int×Value))=>(.map (some b1):Value)) hs1.symm,(by rw[hs1];exact mc1)⟩
theorem KC(mode:Int)(l:List Version)(old:Bool):(judgesP mode l old).length<=l.length:=by
 unfold judgesP iW iy iV
 cases mode==1<;>cases mode==2<;>cases old<;>simp<;>omega
theorem KA(h:HF)(mode:Int)(hm:1<=mode/\mode<=4)(l:List Version)(eu:Option Addr)(et:Nat)(old:Bool)(hl:SlC jN h eu et l)(hne:0<l.length):
  Q7 prog (mgetD lu mode Value.nilFunc) [.slice eu l.length et,.bool old] h (λv h'=>∃(rb0:Option Addr)(rc0:Nat),v=.slice rb0 (judgesP mode l old).length rc0/\SlC jN h' rb0 rc0 (judgesP mode l old)):=by
 have:mode=1\/mode=2\/mode=3\/mode=4:=by omega
 rcases this with rfl|rfl|rfl|rfl
 .exact nu (cap:=[]) (args:=[.slice eu l.length et,.bool old]) call171 (xg h l eu et old hl hne)
 .exact nu (cap:=[]) (args:=[.slice eu l.length et,.bool old]) call172 (xe h l eu et old hl hne)
 .exact nu (cap:=[]) (args:=[.slice eu l.length et,.bool old]) call170 (qv h l eu et old hl)
 exact nu (cap:=[]) (args:=[.slice eu l.length et,.bool old]) call170 (qv h l eu et old hl)
theorem AA(h:HF)(l:List Version)(eu:Option Addr)(et:Nat)(begun:Int)(aH:Int)(known:Int)(hl:SlC jN h eu et l)(hsm:smV l)(hk:Kinds h):jv prog 22 [.slice eu l.length et,I begun,I aH,I known] h (λv h'=>∃(rb0:Option Addr)(rc0:Nat),v=.tuple #[.slice rb0 ((ba l begun aH known).1).length rc0,I ((ba l begun aH known).2.1),I ((ba l begun aH known).2.2)]/\SlC kB h' rb0 rc0 ((ba l begun aH known).1)):=by
 refine cZ Jt U ntmps22 U λX hM hX=>?_
 have hs0:ba l begun aH known=ba l begun aH known:=rfl
 have hsl:=hsm.len
 refine sr (cz (λb1=>cz (λb2=>qO 8 U (aj call69 (re _ _ _ _ hl ob hk) U (qO 7 U (ae hs0 U (λc1 hs1=>?_) (λc1 hs2=>?_)))))))
 .refine qT 7 U ?_
  have hs3:ba l begun aH known=([],0,(bw l)):=hs1
  exact kX [.slice none 0 0,I 0,I (bw l)] Jt U rd ⟨none,0,congrArg (λr:(List Int×Int×Int)=>(.tuple #[.slice none r.1.length 0,I r.2.1,I r.2.2]:Value)) hs3.symm,(by rw[hs3];exact qF)⟩
 refine qK 5 [1] U (aj call85 (oD h begun) U (qO 2 U (ce 4 [25,26,27,28,29] 25 29 (!(gO aH)) U (λc2 hk1=>?_) (λe=>?_))))
 .exact qL 1 [0] U (aj call85 (oD h aH) U (qO 2 U (hk1 _ U)))
 refine av (ce 4 [30,31,32,33,34] 30 34 (!(gO known)) U (λc3 hk2=>?_) (λe=>?_))
 .exact av (aj call85 (oD h known) U (qO 2 U (hk2 _ U)))
 refine av (ce 4 [35,36,37,38,39] 35 39 (decide (aH<begun)) U (λc4 hk3=>?_) (λe=>?_))
 .exact qL 4 [1,0] U (hk3 _ U)
 refine aJ (ae hs2 U (λc5 hs4=>?_) (λc5 hs5=>?_))
 .refine qT 6 U ?_
  have hs6:ba l begun aH known=([],0,1):=hs4
  exact kX [.slice none 0 0,I 0,I 1] Jt U rd ⟨none,0,congrArg (λr:(List Int×Int×Int)=>(.tuple #[.slice none r.1.length 0,I r.2.1,I r.2.2]:Value)) hs6.symm,(by rw[hs6];exact qF)⟩
 refine qT 3 U (aT zc26 (λb3=>qO 3 U (aT zc4 (λb4=>cM 0 ty4 U U U U U U (qL 7 [3] U (aB (cT call86 (zq _ _ _ _ begun known hl ob) U (λv1 h1 hle1 hp1=>?_))))))))
 obtain⟨_,rfl,mo1⟩:=hp1
 refine qO 2 U (ew (cv (L':=([(b4,O [.bool false] 4),(b3,O [.slice none 0 0] 26),(b2,O [I aH] 3),(b1,O [I begun] 3)])++markB []) ap ?_))
 refine Nt (it:=v1) (xs:=(fF l begun known)) (ι:=Bool×List Version×Option Addr×Nat×LH×HF) [] (λi=>i.2.2.2.2.2) (λi=>[(b4,O [.bool i.1] 4),(b3,O [.slice i.2.2.1 i.2.1.length i.2.2.2.1] 26),(b2,O [I aH] 3),(b1,O [I begun] 3)]++(i.2.2.2.2.1)) (λs i=>ba l begun aH known=((ba.L1 begun aH (ba.K1)) s i.1 i.2.1)/\dC jN 105 i.2.2.2.2.2 i.2.1 i.2.2.1 i.2.2.2.1 i.2.2.2.2.1/\vM h1 i.2.2.2.2.2/\(∀x∈i.2.1,x∈l)/\(∀q∈s,q.2∈l)/\i.2.1.length+s.length<=l.length) (λ_=>False) 0 (λ_ _ _=>False) (false,[],none,0,[],h1) Jt U mo1 U zZ (λ_ _ _ _ _ hq=>hq) U (show[(b4,O [.bool false] 4),(b3,O [.slice none 0 0] 26),(b2,O [I aH] 3),(b1,O [I begun] 3)]=_ from U) ⟨hs5,dC.nil,lf,(λx hx=>(kA hx).elim),yv,(by have:=DN l begun known;simpa using this)⟩ ?_ ?_ ?_ ?_
 .rintro l1 dm1 lp1 y1 rz1 vs1 ⟨eR,ct,lD,lC,lE,hh1⟩ hr1 X hFR1 ⟨hs7,na,hl1,u1_0,u1_1,u1_2⟩ hl01 hlr1 hv1 hX hXM hlp1 nx1 rt1 ex1 pn1
  try dsimp only at na hl1 u1_0 u1_1 u1_2 hlr1
  obtain⟨rr1_0,rfl,ok1_0⟩:=hv1
  simp only[xA]at u1_2
  let z2:Nat×Obj:=(b3,O [.slice lD ct.length lC] 26)
  let z6:Nat×Obj:=(dm1,.deferred (some []))
  refine cv (L':=[(l1,.loop lp1),z6,(b4,O [.bool eR] 4),z2,(b2,O [I aH] 3),(b1,O [I begun] 3)]++(lE++(markB []))) ap (qT 5 U (aT zc105 (λb6=>aL 0 ty105 U U U U U U (gJ (L':=[(b6,O (xV y1.2 rr1_0) 105),(l1,.loop lp1),z6,(b4,O [.bool eR] 4),z2,(b2,O [I aH] 3),(b1,O [I begun] 3)]++(lE++(markB []))) U (aJ (kc 1 U hlp1 (qK 8 [5] U (ae hs7 U (λc7 hs8=>?_) (λc7 hs9=>?_)))))))))
  .have c7p:=of_decide_eq_true c7
   exact aX (L':=[(l1,.loop { lp1 with state:=.busy }),z6,(b4,O [.bool eR] 4),z2,(b2,O [I aH] 3),(b1,O [I begun] 3)]++(lE++(markB []))) js (cv (L':=rdH l1 dm1 lp1 (([(b4,O [.bool eR] 4),z2,(b2,O [I aH] 3),(b1,O [I begun] 3)]++(lE))++markB [])) ap (ex1 (eR,ct,lD,lC,lE,hr1) _ _ _ ⟨hs8,(na.mono jM hlr1),(hl1.t hlr1),u1_0,(λq hq=>(kA hq).elim),(by simp only[vB,xA]at *;omega)⟩ lf U))
  have c7p:=of_decide_eq_false c7
  refine qK 5 [3] U (ce 4 [50,51,52,53,54] 50 54 (y1.1==begun) U (λc8 hk4=>?_) (λe=>?_))
  .exact qL 4 [6] U (hk4 _ U)
  refine cM 3 ty4 U U U U U U (qL 3 [4] U (cI 0 ty105 U U U (aB (bB (cells:=[I y1.2.No,I y1.2.At,I y1.2.Known,.string y1.2.Policy.Name,.slice rr1_0.Policy.i5 y1.2.Policy.Kinds.length rr1_0.Policy.iZ,.slice rr1_0.Policy.gr y1.2.Policy.Offices.length rr1_0.Policy.gq,.slice rr1_0.Policy.m8 y1.2.Policy.Rules.length rr1_0.Policy.m7,I y1.2.Policy.Change.Kind,I y1.2.Policy.Change.N,I y1.2.Policy.Change.No,.string y1.2.Policy.Change.Name,.slice rr1_0.Policy.Change.mt y1.2.Policy.Change.L.length rr1_0.Policy.Change.mu,I y1.2.Policy.Mode]) wK ty105 zc105 U U kr (λb7=>?_)))))
  let z1:Nat×Obj:=(b7,O [I y1.2.No,I y1.2.At,I y1.2.Known,.string y1.2.Policy.Name,.slice rr1_0.Policy.i5 y1.2.Policy.Kinds.length rr1_0.Policy.iZ,.slice rr1_0.Policy.gr y1.2.Policy.Offices.length rr1_0.Policy.gq,.slice rr1_0.Policy.m8 y1.2.Policy.Rules.length rr1_0.Policy.m7,I y1.2.Policy.Change.Kind,I y1.2.Policy.Change.N,I y1.2.Policy.Change.No,.string y1.2.Policy.Change.Name,.slice rr1_0.Policy.Change.mt y1.2.Policy.Change.L.length rr1_0.Policy.Change.mu,I y1.2.Policy.Mode] 105)
  let z4:Nat×Obj:=(b4,O [.bool (eR||(y1.1==begun))] 4)
  let z5:Nat×Obj:=(l1,.loop { lp1 with state:=.busy })
  let z7:Nat×Obj:=(b6,O (xV y1.2 rr1_0) 105)
  refine aB (dy Version.em ([z1,z7,z5,z6,z4,z2,(b2,O [I aH] 3),(b1,O [I begun] 3)]) (markB []) (λG=>[z1,z7,z5,z6,z4,z2,(b2,O [I aH] 3),(b1,O [I begun] 3)]++(markB []++G)) ap (λ_=>ap) wK ty105 zc105 U bytes105 (na.mono jM hlr1) U U (eF 0 U (cE (R:=jN) (y1.2) U ⟨rr1_0,U,ok1_0⟩)) lo lo (λob1 oc1 G1 gr1=>yR (sj ([z1,z7,z5,z6,z4,z2,(b2,O [I aH] 3),(b1,O [I begun] 3)]) G1 (markB [])) (cM 5 ty26 U U U U U U (qO 2 U ?_))))
  let z9:Nat×Obj:=(b3,O [.slice ob1 ((ct++[y1.2]).length) oc1] 26)
  exact aX (L':=[z5,z6,z4,z9,(b2,O [I aH] 3),(b1,O [I begun] 3)]++(G1++(markB []))) js (cv (L':=rdH l1 dm1 lp1 (([z4,z9,(b2,O [I aH] 3),(b1,O [I begun] 3)]++G1)++markB [])) ap (nx1 ((eR||(y1.1==begun)),(ct++[y1.2]),ob1,oc1,G1,hr1) _ _ ⟨hs9,gr1,(hl1.t hlr1),(λx hx=>(kH.1 hx).elim (u1_0 x) (λhx=>by rw[jD.1 hx];exact u1_1 y1 (zB ..))),(λq hq=>u1_1 q (vA _ hq)),(by simp only[jA,xA,vB]at *;omega)⟩ lf))
 .rintro dm1 ⟨eR,ct,lD,lC,lE,hh1⟩ hn1 ⟨hs10,na,hl1,u1_0,u1_1,u1_2⟩ hln1 hl01
  try dsimp only at na hl1 u1_0 u1_1 u1_2 hln1
  let z3:Nat×Obj:=(b3,O [.slice lD ct.length lC] 26)
  refine cv (L':=[(b4,O [.bool eR] 4),z3,(b2,O [I aH] 3),(b1,O [I begun] 3)]++(lE++(markB (dm1::[])))) ap (qK 7 [1] U (ae hs10 U (λc9 hs11=>?_) (λc9 hs12=>?_)))
  .refine qT 6 U ?_
   have hs13:ba l begun aH known=([],0,0):=hs11
   exact cv (L':=([(b4,O [.bool eR] 4),z3,(b2,O [I aH] 3),(b1,O [I begun] 3)]++(lE))++markB (dm1::[])) ap (qw (dm1::[]) [.slice none 0 0,I 0,I 0] Jt U rd ⟨none,0,congrArg (λr:(List Int×Int×Int)=>(.tuple #[.slice none r.1.length 0,I r.2.1,I r.2.2]:Value)) hs13.symm,(by rw[hs13];exact qF)⟩)
  refine qK 6 [1,1] U (jO (v':=I ((ct.length:Int)-1)) U (lk ob) (oF jM ([(b4,O [.bool eR] 4),z3,(b2,O [I aH] 3),(b1,O [I begun] 3)]) lE (markB (dm1::[])) ap hM (na.mono jM hln1) (λh2 hle2 sl1=>?_)))
  have ho1:0<=(((ct.length:Int)-1):Int)/\(((ct.length:Int)-1):Int)<((ct).length:Int):=ob
  refine aB (ur wK ty105 sl1.1 ho1 (dh ho1) U U U (λ_ _ _ e=>e) (λq1 r1 A1 ok1=>qL 2 [] U (ju (j:=12) ty3 A1 U U (qO 4 U (eT ([(b4,O [.bool eR] 4),z3,(b2,O [I aH] 3),(b1,O [I begun] 3)]) mixed kr jn (λeo _=>tm 1 U (tf 3 U U (rj 1 ty26 U U U) (tf 4 U U (rj 0 ty4 U U U) (tm 7 U (tn 0 U (cT call87 (sy h2) U (λv2 h3 hle3 hp2=>?_))))))))))))
  obtain⟨rk2,rfl,mo2⟩:=hp2
  refine⟨jl hle3,tu hle3 (tn 2 U ?_)⟩
  obtain⟨o1,hb1,hm1⟩:=mo2
  refine nS (k:=(nthI ct ((ct.length:Int)-1)).Policy.Mode) Ju (fZ oe) hb1 hm1 (fw zv152) (show VFn _ (.nilFunc) Value.nilFunc from U) U U (λv3 hv1=>?_)
  obtain rfl:=hv1
  refine⟨jn,tn 5 U (O3 (KA h3 ((nthI ct ((ct.length:Int)-1)).Policy.Mode) (((mL l).1 (by simpa using c1)).mode (u1_0 _ (pq ho1))) ct lD lC eR (sl1.mono jM hle3) ob) U U (λv4 h4 hle4 hp3=>?_))⟩
  obtain⟨rb1,rc1,rfl,sl2⟩:=hp3
  have hjl:=KC ((nthI ct ((ct.length:Int)-1)).Policy.Mode) ct eR
  refine⟨jl hle4,tu hle4 (tf 6 U U (λ_ _ _=>Ka wK U) (aQ kr ?_))⟩
  refine lp2 (judgesP ((nthI ct ((ct.length:Int)-1)).Policy.Mode) ct eR) (λi w=>[(8,.slice w.2.1 w.1.length w.2.2.1),(9,I ((nthI ct ((ct.length:Int)-1)).Policy.Mode)),(75,.slice rb1 ((judgesP ((nthI ct ((ct.length:Int)-1)).Policy.Mode) ct eR).length) rc1),(76,I (((judgesP ((nthI ct ((ct.length:Int)-1)).Policy.Mode) ct eR).length:Nat):Int)),(77,I (i:Int))]) (λ_=>h4) (λw=>[(b4,O [.bool eR] 4),z3,(b2,O [I aH] 3),(b1,O [I begun] 3)]++(w.2.2.2++(markB (dm1::[])))) (λi w=>dC kB 3 h4 w.1 w.2.1 w.2.2.1 w.2.2.2/\w.1.length<=0+i) (λs2 i w=>(ba.L2 (ba.K2 ct)) s2 w.1) ([],none,0,[]) sl2.1.1 hs12 ⟨dC.nil,lo⟩ ?_ ?_
  .rintro i2 ⟨lB,oX,oW,od⟩ ft hs14 ⟨pA,F8⟩ e
   try dsimp only at pA F8
   refine qT 3 U (aB (nw ([(b4,O [.bool eR] 4),z3,(b2,O [I aH] 3),(b1,O [I begun] 3)]) od (markB (dm1::[])) On (mS h4 lB oX oW od pA (by first|assumption|omega|(simp only[jA,xA,vB] ;omega))) ap U (λG4 gr4=>qO 9 U (eK jH ([(b4,O [.bool eR] 4),z3,(b2,O [I aH] 3),(b1,O [I begun] 3)]) G4 (markB (dm1::[])) ap hM gr4 (λh6 hle6 sl4=>?_)))))
   have hs15:ba l begun aH known=((sortI lB),(nthI ct ((ct.length:Int)-1)).Policy.Mode,0):=hs14
   exact cv (L':=([(b4,O [.bool eR] 4),z3,(b2,O [I aH] 3),(b1,O [I begun] 3)])++markB (dm1::[])) ap (qw (dm1::[]) [.slice oX lB.length oW,I ((nthI ct ((ct.length:Int)-1)).Policy.Mode),I 0] Jt U rd ⟨oX,oW,(by rw[hs15];simp[retVal,jc]),(by rw[hs15];exact sl4)⟩)
  rintro i2 ⟨lB,oX,oW,od⟩ y2 rz2 hd2 yx sZ FZ LQ hs16 ⟨pA,F8⟩ hx2 ag1 e
  try dsimp only at pA F8
  refine sr (tO yx U (qO 8 U (aB (iR wK ty105 sl2.1 sZ U U U (λ_ _ _ e=>e) (λq3 r3 A3 ok3=>dq ty105 A3 U U (aT zc105 (λb10=>aL 0 ty105 U U U U U U (gJ (L':=[(b10,O (xV y2 r3) 105),(b4,O [.bool eR] 4),z3,(b2,O [I aH] 3),(b1,O [I begun] 3)]++(od++(markB (dm1::[])))) U ?_))))))))
  let z8:Nat×Obj:=(b10,O (xV y2 r3) 105)
  exact qL 5 [0] U (aB (bB (cells:=[I y2.No]) ej ty3 zc3 U U kr (λb11=>aB (dy aBw ([(b11,O [I y2.No] 3),z8,(b4,O [.bool eR] 4),z3,(b2,O [I aH] 3),(b1,O [I begun] 3)]) (markB (dm1::[])) (λG=>[(b11,O [I y2.No] 3),z8,(b4,O [.bool eR] 4),z3,(b2,O [I aH] 3),(b1,O [I begun] 3)]++(markB (dm1::[])++G)) ap (λ_=>ap) ej ty3 zc3 U bytes3 pA U U (eF 0 U (cE (y2.No) U U)) lo lo (λob3 oc3 G5 gr5=>yR (sj ([(b11,O [I y2.No] 3),z8,(b4,O [.bool eR] 4),z3,(b2,O [I aH] 3),(b1,O [I begun] 3)]) G5 (markB (dm1::[]))) (qO 4 U (oi i2 U (qO 2 U (aX (L':=[(b4,O [.bool eR] 4),z3,(b2,O [I aH] 3),(b1,O [I begun] 3)]++(G5++(markB (dm1::[])))) js (ag1 ((lB++[y2.No]),ob3,oc3,G5) hs16 ⟨gr5,lo⟩))))))))))
 .exact xf
 exact xf
theorem Bp(h:HF)(mode:Int)(permits:List Bool)(oU:Option Addr)(oT:Nat)(hpermits:SlC aA4 h oU oT permits):Ret prog 190 [I mode,.slice oU permits.length oT] h (I (kb mode permits)):=by
 refine sT func190 U ntmps190 U λX hM hX hF=>?_
 have hs0:kb mode permits=kb mode permits:=rfl
 refine qT 7 U (aB (cT call87 (sy h) U (λv1 h1 hle1 hp1=>?_)))
 obtain⟨rk1,rfl,mo1⟩:=hp1
 refine av ?_
 obtain⟨o1,hb1,hm1⟩:=mo1
 refine aB (tE (k:=mode) Ju (fZ oe) hb1 hm1 (fw zv152) (show VFn _ (.nilFunc) Value.nilFunc from U) U U (λv2 hv1=>?_))
 obtain rfl:=hv1
 refine qO 11 U (ae hs0 U (λc1 hs1=>?_) (λc1 hs2=>?_))
 .exact sr (an (nretP [I 270] (ci hs1)))
 refine qK 8 [] U (ae hs2 U (λc2 hs4=>?_) (λc2 hs5=>?_))
 .have c2p:=of_decide_eq_true c2
  exact sr (an (nretP [I 1] (ci hs4)))
 have c2p:=of_decide_eq_false c2
 exact aI (qT 4 U (nretP [I 0] (ci hs5)))
theorem ul(h:HF)(s:List Bool)(sK:Option Addr)(sJ:Nat)(f:(Bool->Bool))(f_v:Value)(hs:SlC aA4 h sK sJ s)(hf:∀(h':HF)(dl:Bool),vM h h'->pQ prog f_v [.bool dl] h' [] (.bool (f dl))):Ret prog 287 [.slice sK s.length sJ,f_v] h (I (fq s f)):=by
 refine sT func287 U ntmps287 U λX hM hX hF=>?_
 have hs0:fq s f=fq s f:=rfl
 refine qK 11 [] U ?_
 refine lp0 s (λi=>[(0,.slice sK s.length sJ),(1,f_v),(7,I (s.length:Int)),(8,I (i:Int))]) ([]) (λs1 i=>(fq.L1 f (fq.K1)) s1 i) hs.1.1 hs0 ?_ ?_
 .rintro i1 ft hs1 e
  exact sr (an (nretP [I (-1)] (ci hs1)))
 rintro i1 y1 rz1 hd1 df aS dZ gy hs3 hx1 ag1 e
 refine sr (tO df U (qO 16 U (aB (iF (λy=>[.bool y]) uE ty4 hs.1 aS U U U (λq2 A2=>dB ty4 A2 U (aB (ke (v:=.bool (f y1)) [] (List.nil_sublist _) (hf h y1 lf) U U (aJ (ae hs3 U (λc2 hs4=>?_) (λc2 hs5=>?_))))))))))
 .exact sr (qO 3 U (nretP [I (i1:Int)] (ci hs4)))
 exact aI (qT 2 U (oi i1 U (qO 2 U (ag1 hs5))))
theorem pR(h:HF)(l:List Bool)(eu:Option Addr)(et:Nat)(ok:(Bool->Bool))(ok_v:Value)(hl:SlC aA4 h eu et l)(hok:∀(h':HF)(dl:Bool),vM h h'->pQ prog ok_v [.bool dl] h' [] (.bool (ok dl))):Ret prog 191 [.slice eu l.length et,ok_v] h (I (cY l ok)):=by
 refine sT func191 U ntmps191 U λX hM hX hF=>?_
 have hs0:cY l ok=cY l ok:=rfl
 exact sr (qO 6 U (aj call287 (ul _ _ _ _ ok ok_v hl hok) U (an (nretP [I (fq l ok)] (ci hs0)))))
theorem xi(h:HF)(D3:Bool)  : Ret prog 192 [.bool D3] h (.bool (eP D3)):=by
 refine sT func192 U ntmps192 U λX hM hX hF=>?_
 have hs0:eP D3=eP D3:=rfl
 exact sr (qO 7 U (nretP [.bool D3] (cs hs0)))
theorem xh(h:HF)(D3:Bool)  : Ret prog 193 [.bool D3] h (.bool (fU D3)):=by
 refine sT func193 U ntmps193 U λX hM hX hF=>?_
 have hs0:fU D3=fU D3:=rfl
 exact sr (qO 8 U (nretP [.bool (!D3)] (cs hs0)))
theorem Az(h:HF)(mode:Int)(permits:List Bool)(oU:Option Addr)(oT:Nat)(hpermits:SlC aA4 h oU oT permits)(hsz0:permits.length<=2000000):jv prog 98 [I mode,.slice oU permits.length oT] h (λv h'=>∃(rb0:Option Addr)(rc0:Nat),v=.tuple #[.slice rb0 ((bH mode permits).1).length rc0,.bool ((bH mode permits).2.1),I ((bH mode permits).2.2)]/\SlC kB h' rb0 rc0 ((bH mode permits).1)):=by
 refine sT func98 U ntmps98 U λX hM hX hF=>?_
 have hs0:bH mode permits=bH mode permits:=rfl
 refine qT 11 U (aj call190 (Bp _ mode _ _ _ hpermits) U (qO 7 U (ae hs0 U (λc1 hs1=>?_) (λc1 hs2=>?_))))
 .refine qT 7 U ?_
  have hs3:bH mode permits=([],false,(kb mode permits)):=hs1
  exact nretH [.slice none 0 0,.bool false,I (kb mode permits)] ⟨none,0,congrArg (λr:(List Int×Bool×Int)=>(.tuple #[.slice none r.1.length 0,.bool r.2.1,I r.2.2]:Value)) hs3.symm,(by rw[hs3];exact qF)⟩
 refine qT 4 U (aj call191 (pR _ _ _ _ eP (.func (.func 192) #[] #[]) hpermits (λh' dl hle=>gM call192 (xi h' dl))) U (qO 5 U (aj call191 (pR _ _ _ _ fU (.func (.func 193) #[] #[]) hpermits (λh' dl hle=>gM call193 (xh h' dl))) U (qO 9 U (bA 3 [23,24,25,26] 23 26 (decide (0<=(cY permits eP))) U (λc2 hk1=>?_) (λe=>?_))))))
 .exact av (qO 2 U (hk1 _ U))
 refine an (ae hs2 U (λc3 hs4=>?_) (λc3 hs5=>?_))
 .refine qT 3 U (aB (bB (cells:=[I (cY permits eP)]) ej ty3 zc3 U U kr (λb1=>qO 4 U (eW 0 U hM (λh1 hle1 hb1=>?_)))))
  have sl1:SlC kB h1 (some ⟨b1,0,none⟩) 1 ([(cY permits eP)]):=bI.slB0 (T:=3) (fz:=(0,0)) ((show bI kB h [I (cY permits eP)] ([(cY permits eP)])from⟨[I (cY permits eP)],[],rfl,rfl,rfl,rfl⟩).mono jH hle1) hb1
  have hs6:bH mode permits=([(cY permits eP)],true,0):=hs4
  exact nretH [.slice (some ⟨b1,0,none⟩) 1 1,.bool true,I 0] ⟨(some ⟨b1,0,none⟩),1,congrArg (λr:(List Int×Bool×Int)=>(.tuple #[.slice (some ⟨b1,0,none⟩) r.1.length 1,.bool r.2.1,I r.2.2]:Value)) hs6.symm,(by rw[hs6];exact sl1)⟩
 refine qT 5 U (bA 3 [32,33,34,35] 32 35 (decide (0<=(cY permits fU))) U (λc4 hk2=>?_) (λe=>?_))
 .exact av (qO 2 U (hk2 _ U))
 refine an (ae hs5 U (λc5 hs7=>?_) (λc5 hs8=>?_))
 .refine qT 3 U (aB (bB (cells:=[I (cY permits fU)]) ej ty3 zc3 U U kr (λb2=>qO 4 U (eW 0 U hM (λh2 hle2 hb2=>?_)))))
  have sl2:SlC kB h2 (some ⟨b2,0,none⟩) 1 ([(cY permits fU)]):=bI.slB0 (T:=3) (fz:=(0,0)) ((show bI kB h [I (cY permits fU)] ([(cY permits fU)])from⟨[I (cY permits fU)],[],rfl,rfl,rfl,rfl⟩).mono jH hle2) hb2
  have hs9:bH mode permits=([(cY permits fU)],false,0):=hs7
  exact nretH [.slice (some ⟨b2,0,none⟩) 1 1,.bool false,I 0] ⟨(some ⟨b2,0,none⟩),1,congrArg (λr:(List Int×Bool×Int)=>(.tuple #[.slice (some ⟨b2,0,none⟩) r.1.length 1,.bool r.2.1,I r.2.2]:Value)) hs9.symm,(by rw[hs9];exact sl2)⟩
 refine qT 6 U (ae hs8 U (λc6 hs10=>?_) (λc6 hs11=>?_))
 .refine qK 13 [] U ?_
  refine lp2 permits (λi w=>[(4,.slice w.2.1 w.1.length w.2.2.1),(5,.bool (decide (0<=(cY permits eP)))),(55,I (permits.length:Int)),(56,I (i:Int))]) (λ_=>h) (λw=>w.2.2.2) (λi w=>dC kB 3 h w.1 w.2.1 w.2.2.1 w.2.2.2/\w.1.length<=0+i) (λs1 i w=>(bH.L1 (bH.K1 permits)) s1 i w.1) ([],none,0,[]) hpermits.1.1 hs10 ⟨dC.nil,lo⟩ ?_ ?_
  .rintro i1 ⟨Hl,M3,M2,Q3⟩ ft hs12 ⟨KO,PD⟩ e
   try dsimp only at KO PD
   refine qT 8 U (eK jH ([]) Q3 ([]) ap hM KO (λh4 hle4 sl4=>?_))
   have hs13:bH mode permits=(Hl,decide (0<=(cY permits eP)),0):=hs12
   exact nretH [.slice M3 Hl.length M2,.bool (decide (0<=(cY permits eP))),I 0] ⟨M3,M2,congrArg (λr:(List Int×Bool×Int)=>(.tuple #[.slice M3 r.1.length M2,.bool r.2.1,I r.2.2]:Value)) hs13.symm,(by rw[hs13];exact sl4)⟩
  rintro i1 ⟨Hl,M3,M2,Q3⟩ y1 rz1 hd1 df aS dZ gy hs14 ⟨KO,PD⟩ hx1 ag1 e
  try dsimp only at KO PD
  exact sr (tO df U (qO 14 U (aB (bB (cells:=[I (i1:Int)]) ej ty3 zc3 U U kr (λb4=>aB (dy aBw ([(b4,O [I (i1:Int)] 3)]) ([]) (λG=>[(b4,O [I (i1:Int)] 3)]++G) ap (λ_=>ap) ej ty3 zc3 U bytes3 KO U U (eF 0 U (cE (i1:Int) U U)) lo lo (λob2 oc2 G2 gr2=>qO 4 U (oi i1 U (qO 2 U (aX (L':=G2) js (ag1 ((Hl++[(i1:Int)]),ob2,oc2,G2) hs14 ⟨gr2,lo⟩)))))))))))
 refine qT 6 U (ae hs11 U (λc7 hs15=>?_) (λc7 hs16=>?_))
 .refine qK 5 [] U (bA 4 [49,50,51,52,53] 49 53 (nthI permits 0) U (λc8 hk3=>?_) (λe=>?_))
  .refine av ?_
   have ho1:0<=(0:Int)/\(0:Int)<((permits).length:Int):=ob
   exact aB (pd (enc:=λy=>[.bool y]) ei uE ty4 hpermits.1 ho1 (dh ho1) U U U (λq1 A1=>dB ty4 A1 U (eU U (hk3 _ U))))
  refine qL 10 [] U ?_
  refine lp2 permits (λi w=>[(4,.slice w.2.1 w.1.length w.2.2.1),(5,.bool (((permits.length:Int)==1)&&(nthI permits 0))),(55,I (permits.length:Int)),(56,I (i:Int))]) (λ_=>h) (λw=>w.2.2.2) (λi w=>dC kB 3 h w.1 w.2.1 w.2.2.1 w.2.2.2/\w.1.length<=0+i) (λs2 i w=>(bH.L2 (bH.K2 permits)) s2 i w.1) ([],none,0,[]) hpermits.1.1 hs15 ⟨dC.nil,lo⟩ ?_ ?_
  .rintro i2 ⟨Hk,M0,MZ,Q1⟩ AZ hs17 ⟨KM,PA⟩ e
   try dsimp only at KM PA
   refine qT 8 U (eK jH ([]) Q1 ([]) ap hM KM (λh6 hle6 sl6=>?_))
   have hs18:bH mode permits=(Hk,(((permits.length:Int)==1)&&(nthI permits 0)),0):=hs17
   exact nretH [.slice M0 Hk.length MZ,.bool (((permits.length:Int)==1)&&(nthI permits 0)),I 0] ⟨M0,MZ,congrArg (λr:(List Int×Bool×Int)=>(.tuple #[.slice M0 r.1.length MZ,.bool r.2.1,I r.2.2]:Value)) hs18.symm,(by rw[hs18];exact sl6)⟩
  rintro i2 ⟨Hk,M0,MZ,Q1⟩ y2 rz2 hd2 yx sZ FZ LQ hs19 ⟨KM,PA⟩ hx2 ag2 e
  try dsimp only at KM PA
  exact sr (tO yx U (qO 14 U (aB (bB (cells:=[I (i2:Int)]) ej ty3 zc3 U U kr (λb6=>aB (dy aBw ([(b6,O [I (i2:Int)] 3)]) ([]) (λG=>[(b6,O [I (i2:Int)] 3)]++G) ap (λ_=>ap) ej ty3 zc3 U bytes3 KM U U (eF 0 U (cE (i2:Int) U U)) lo lo (λob4 oc4 G4 gr4=>qO 4 U (oi i2 U (qO 2 U (aX (L':=G4) js (ag2 ((Hk++[(i2:Int)]),ob4,oc4,G4) hs19 ⟨gr4,lo⟩)))))))))))
 refine qK 9 [] U ?_
 refine lp2 permits (λi w=>[(4,.slice w.2.1 w.1.length w.2.2.1),(5,.bool false),(55,I (permits.length:Int)),(56,I (i:Int))]) (λ_=>h) (λw=>w.2.2.2) (λi w=>dC kB 3 h w.1 w.2.1 w.2.2.1 w.2.2.2/\w.1.length<=0+i) (λs3 i w=>(bH.L3 (bH.K3)) s3 i w.1) ([],none,0,[]) hpermits.1.1 hs16 ⟨dC.nil,lo⟩ ?_ ?_
 .rintro i3 ⟨Hj,MX,MW,Q0⟩ I2 hs20 ⟨KK,Pz⟩ e
  try dsimp only at KK Pz
  refine qT 8 U (eK jH ([]) Q0 ([]) ap hM KK (λh8 hle8 sl8=>?_))
  have hs21:bH mode permits=(Hj,false,0):=hs20
  exact nretH [.slice MX Hj.length MW,.bool false,I 0] ⟨MX,MW,congrArg (λr:(List Int×Bool×Int)=>(.tuple #[.slice MX r.1.length MW,.bool r.2.1,I r.2.2]:Value)) hs21.symm,(by rw[hs21];exact sl8)⟩
 rintro i3 ⟨Hj,MX,MW,Q0⟩ y3 rz3 hd3 FY H8 FX Rx hs22 ⟨KK,Pz⟩ hx3 ag3 e
 try dsimp only at KK Pz
 exact sr (tO FY U (qO 14 U (aB (bB (cells:=[I (i3:Int)]) ej ty3 zc3 U U kr (λb8=>aB (dy aBw ([(b8,O [I (i3:Int)] 3)]) ([]) (λG=>[(b8,O [I (i3:Int)] 3)]++G) ap (λ_=>ap) ej ty3 zc3 U bytes3 KK U U (eF 0 U (cE (i3:Int) U U)) lo lo (λob6 oc6 G6 gr6=>qO 4 U (oi i3 U (qO 2 U (aX (L':=G6) js (ag3 ((Hj++[(i3:Int)]),ob6,oc6,G6) hs22 ⟨gr6,lo⟩)))))))))))
theorem AB(h:HF)(mode:Int)(permits:List Bool)(oU:Option Addr)(oT:Nat)(hpermits:SlC aA4 h oU oT permits)(hsz0:permits.length<=2000000):Ret prog 26 [I mode,.slice oU permits.length oT] h (.tuple #[.bool ((jw mode permits).1),I ((jw mode permits).2)]):=by
 refine sT func26 U ntmps26 U λX hM hX hF=>?_
 have hs0:jw mode permits=jw mode permits:=rfl
 refine qT 9 U (aB (cT call98 (Az _ mode _ _ _ hpermits ob) U (λv1 h1 hle1 hp1=>?_)))
 obtain⟨rb1,rc1,rfl,sl1⟩:=hp1
 refine qO 14 U ?_
 have hs1:jw mode permits=((bH mode permits).2.1,(bH mode permits).2.2):=hs0
 exact nretP [.bool ((bH mode permits).2.1),I ((bH mode permits).2.2)] (congrArg (λr:(Bool×Int)=>(.tuple #[.bool r.1,I r.2]:Value)) hs1.symm)
theorem Em(h:HF)(u:List Use)(rO:Option Addr)(rN:Nat)(hu:SlC aBY h rO rN u):Ret prog 99 [.slice rO u.length rN] h (.bool (ed u)):=by
 refine sT func99 U ntmps99 U λX hM hX hF=>?_
 have hs0:ed u=ed u:=rfl
 refine qT 6 U (aB (oB (λb1=>qL 9 [] U ?_)))
 refine lp2 u (λi w=>[(3,.map (some b1)),(7,.slice rO u.length rN),(8,I (u.length:Int)),(9,I (i:Int))]) (λ_=>h) (λw=>[(b1,w.2)]) (λi w=>j8 (kC .i64) qb h w.2 w.1/\w.1.length<=0+i) (λs1 i w=>(ed.L1 (ed.K1)) s1 w.1) ([],.map #[] 0) hu.1.1 hs0 ⟨(j8.nil (enc:=(kC .i64)) (V:=qb) (h:=h)),lc⟩ ?_ ?_
 .rintro i1 ⟨bD,iu⟩ ft hs1 ⟨fR,nM⟩ e
  exact sr (an (nretP [.bool true] (cs hs1)))
 rintro i1 ⟨bD,iu⟩ y1 rz1 hd1 df aS dZ gy hs3 ⟨fR,nM⟩ hx1 ag1 e
 refine sr (tO df U (qO 8 U (aB (iF aAc zt ty111 hu.1 aS U U U (λq2 A2=>dq ty111 A2 U U (aT zc111 (λb4=>aL 0 ty111 U U U U U U (qL 7 [0] U (aB (qz 1 (k:=y1.Doc) Om (fZ oe) U fR (fw zv4) (show qb _ (.bool false) false from U) U U (λv2 hv2=>?_)))))))))))
 obtain rfl:=hv2
 refine av (ce 6 [17,18,19,20,21,22,23] 17 23 (!(aO 0 4095 ([y1.Doc]))) U (λc1 hk1=>?_) (λe=>?_))
 .refine qL 2 [0] U (aB (bB (cells:=[I y1.Doc]) ej ty3 zc3 U U kr (λb5=>aU 0 U hM (λh2 hle2 hb2=>?_))))
  have sl2:SlC kB h2 (some ⟨b5,0,none⟩) 1 ([y1.Doc]):=bI.slB0 (T:=3) (fz:=(0,0)) ((show bI kB h [I y1.Doc] ([y1.Doc])from⟨[I y1.Doc],[],rfl,rfl,rfl,rfl⟩).mono jH hle2) hb2
  exact aj wI (dQ _ 0 4095 _ _ _ sl2) U (qO 2 U (kZ (h:=h) hle2 hX lf (hk1 _ U)))
 refine av (ce 6 [24,25,26,27,28,29,30] 24 30 (!(aO 0 15 ([y1.Kind]))) U (λc2 hk2=>?_) (λe=>?_))
 .refine qL 2 [0] U (aB (bB (cells:=[I y1.Kind]) ej ty3 zc3 U U kr (λb6=>aU 0 U hM (λh3 hle3 hb3=>?_))))
  have sl3:SlC kB h3 (some ⟨b6,0,none⟩) 1 ([y1.Kind]):=bI.slB0 (T:=3) (fz:=(0,0)) ((show bI kB h [I y1.Kind] ([y1.Kind])from⟨[I y1.Kind],[],rfl,rfl,rfl,rfl⟩).mono jH hle3) hb3
  exact aj wI (dQ _ 0 15 _ _ _ sl3) U (qO 2 U (kZ (h:=h) hle3 hX lf (hk2 _ U)))
 refine av (ce 6 [31,32,33,34,35,36,37] 31 37 (!(aO 0 1099511627776 ([y1.Value]))) U (λc3 hk3=>?_) (λe=>?_))
 .refine qL 2 [0] U (aB (bB (cells:=[I y1.Value]) ej ty3 zc3 U U kr (λb7=>aU 0 U hM (λh4 hle4 hb4=>?_))))
  have sl4:SlC kB h4 (some ⟨b7,0,none⟩) 1 ([y1.Value]):=bI.slB0 (T:=3) (fz:=(0,0)) ((show bI kB h [I y1.Value] ([y1.Value])from⟨[I y1.Value],[],rfl,rfl,rfl,rfl⟩).mono jH hle4) hb4
  exact aj wI (dQ _ 0 1099511627776 _ _ _ sl4) U (qO 2 U (kZ (h:=h) hle4 hX lf (hk3 _ U)))
 refine av (ce 8 [38,39,40,41,42,43,44,45,46] 38 46 (!(aO 0 1099511627775 ([y1.At,y1.Known]))) U (λc4 hk4=>?_) (λe=>?_))
 .refine qL 4 [0,0] U (aB (bB (cells:=[I y1.At,I y1.Known]) ej ty3 zc3 U U kr (λb8=>aU 0 U hM (λh5 hle5 hb5=>?_))))
  have sl5:SlC kB h5 (some ⟨b8,0,none⟩) 2 ([y1.At,y1.Known]):=bI.slB0 (T:=3) (fz:=(0,0)) ((show bI kB h [I y1.At,I y1.Known] ([y1.At,y1.Known])from⟨[I y1.At],[I y1.Known],rfl,rfl,rfl,⟨[I y1.Known],[],rfl,rfl,rfl,rfl⟩⟩).mono jH hle5) hb5
  exact aj wI (dQ _ 0 1099511627775 _ _ _ sl5) U (qO 2 U (kZ (h:=h) hle5 hX lf (hk4 _ U)))
 refine aJ (ae hs3 U (λc5 hs4=>?_) (λc5 hs5=>?_))
 .exact sr (an (nretP [.bool false] (cs hs4)))
 exact qK 5 [0] U (aB (lg 1 (k:=y1.Doc) (x:=true) Om (fZ oe) U fR U U U (λmo1 hm1=>qO 3 U (oi i1 U (qO 2 U (aX (L':=[(b1,mo1)]) js (ag1 ((mput bD y1.Doc true),mo1) hs5 ⟨hm1,(by have:=m9 bD y1.Doc true;first|omega|(simp only[vB,xA]at *;omega))⟩)))))))
theorem Aa(h:HF)(l:List Budget)(eu:Option Addr)(et:Nat)(kind:Int)(aH:Int)(known:Int)(hl:SlC aAd h eu et l)(hsz0:l.length<=2000000):jv prog 101 [.slice eu l.length et,I kind,I aH,I known] h (λv h'=>∃(rb0:Option Addr)(rc0:Nat),v=.slice rb0 (aW l kind aH known).length rc0/\SlC aAd h' rb0 rc0 (aW l kind aH known)):=by
 refine sT func101 U ntmps101 U λX hM hX hF=>?_
 have hs0:aW l kind aH known=aW l kind aH known:=rfl
 refine qT 6 U (aB (oB (λb1=>qL 9 [] U ?_)))
 refine lp2 l (λi w=>[(0,.slice eu l.length et),(1,I kind),(2,I aH),(3,I known),(8,.slice none 0 0),(9,.map (some b1)),(18,.slice eu l.length et),(19,I (l.length:Int)),(20,I (i:Int))]) (λ_=>h) (λw=>[(b1,w.2)]) (λi w=>j8 fN.enc (jf aAd) h w.2 w.1/\w.1.length<=0+i) (λs1 i w=>(aW.L1 kind aH known (aW.K1 l)) s1 w.1) ([],.map #[] 0) hl.1.1 hs0 ⟨(j8.nil (enc:=fN.enc) (V:=(jf aAd)) (h:=h)),lc⟩ ?_ ?_
 .rintro i1 ⟨bD,iu⟩ ft hs1 ⟨fR,nM⟩ e
  try dsimp only at fR nM
  refine qK 7 [] U ?_
  refine lp2 l (λi w=>[(8,.slice w.2.1 w.1.length w.2.2.1),(9,.map (some b1)),(69,.slice eu l.length et),(70,I (l.length:Int)),(71,I (i:Int))]) (λ_=>h) (λw=>[(b1,iu)]++(w.2.2.2)) (λi w=>dC aAd 101 h w.1 w.2.1 w.2.2.1 w.2.2.2/\w.1.length<=0+i) (λs2 i w=>(aW.L2 bD (aW.K2)) s2 w.1) ([],none,0,[]) hl.1.1 hs1 ⟨dC.nil,lo⟩ ?_ ?_
  .rintro i2 ⟨lB,oX,oW,od⟩ AZ hs2 ⟨pA,F8⟩ e
   try dsimp only at pA F8
   refine qT 5 U (eK aBd ([(b1,iu)]) od ([]) ap hM pA (λh1 hle1 sl1=>?_))
   have hs3:aW l kind aH known=lB:=hs2
   exact nretH [.slice oX lB.length oW] ⟨oX,oW,congrArg (λr:List Budget=>(.slice oX r.length oW:Value)) hs3.symm,(by rw[hs3];exact sl1)⟩
  rintro i2 ⟨lB,oX,oW,od⟩ y2 rz2 hd2 yx sZ FZ LQ hs4 ⟨pA,F8⟩ hx2 ag1 e
  try dsimp only at pA F8
  refine sr (tO yx U (qO 8 U (aB (iF xH sA ty101 hl.1 sZ U U U (λq3 A3=>dq ty101 A3 U U (aT zc101 (λb4=>aL 0 ty101 U U U U U U (gJ (L':=[(b4,O (xH y2) 101),(b1,iu)]++(od)) U (qO 2 U ?_)))))))))
  refine oE [(8,.slice oX lB.length oW),(9,.map (some b1)),(16,Q b4),(69,.slice eu l.length et),(70,I (l.length:Int)),(71,I (i2:Int)),(88,.bool ((!y2.Gone)&&(decide ((mgetD bD (fN.mk y2.Kind y2.Period) (aAz 0 0 0 0 0 0 0 false))=y2))))] (λe=>?_) (λhk1=>?_)
  rotate_left
  .let z2:Nat×Obj:=(b4,O (xH y2) 101)
   refine eT ([z2,(b1,iu)]) mixed kr jn (λeo _=>?_)
   refine qB [0] U (tf 1 U U (rj 0 ty4 U U U) (qA [2,3] U ?_))
   refine dx 78 U (λc1=>?_) (λc1=>?_)
   .refine qB [4,5] U (tf 6 U U (rj 0 ty3 U U U) (qB [7] U (tf 8 U U (rj 0 ty3 U U U) (tf 11 U U (λ_ _ hj=>kg ty101 U (hj.nth (i:=0) U) U) (tn 9 U (fV (cells:=[I y2.Kind,I y2.Period]) (places:=[(0,1),(1,1)]) Mw zc267 kr kr (⟨jn,tn 10 U (qz 1 (k:=(fN.mk y2.Kind y2.Period)) underlying265 ym U fR (fw zv101) (show(jf aAd) _ (.agg (jB [I 0,I 0,I 0,I 0,I 0,I 0,I 0,.bool false])) (aAz 0 0 0 0 0 0 0 false)from⟨_,U,U⟩) U U (λv2 hv2=>?_))⟩)))))))
    obtain⟨_,rfl,rfl⟩:=hv2
    exact⟨jn,(tf 12 U U (λ_ _ _=>MI (LZ (mgetD bD (fN.mk y2.Kind y2.Period) (aAz 0 0 0 0 0 0 0 false)) y2) eqg101 U U) (qA [13] U (aQ kr (hk1 _ ⟨U,U,U,U,U,U,(cb (show(decide ((mgetD bD (fN.mk y2.Kind y2.Period) (aAz 0 0 0 0 0 0 0 false))=y2))=((!y2.Gone)&&(decide ((mgetD bD (fN.mk y2.Kind y2.Period) (aAz 0 0 0 0 0 0 0 false))=y2)))from by rw[c1]<;>rfl)),trivial⟩))))⟩
   exact tk 4 U U (qR 5 9 U (aQ kr (hk1 _ ⟨U,U,U,U,U,U,(cb (show false=((!y2.Gone)&&(decide ((mgetD bD (fN.mk y2.Kind y2.Period) (aAz 0 0 0 0 0 0 0 false))=y2)))from by rw[c1]<;>rfl)),trivial⟩)))
  refine ae hs4 U (λc2 hs5=>?_) (λc2 hs6=>?_)
  .refine qT 2 U (cI 0 ty101 U U U (aB (bB (cells:=[I y2.No,I y2.At,I y2.Known,I y2.Kind,I y2.Period,I y2.Count,I y2.Value,.bool y2.Gone]) sA ty101 zc101 U U kr (λb5=>?_))))
   let z1:Nat×Obj:=(b5,O [I y2.No,I y2.At,I y2.Known,I y2.Kind,I y2.Period,I y2.Count,I y2.Value,.bool y2.Gone] 101)
   exact aB (dy Budget.em ([z1,(b4,O (xH y2) 101),(b1,iu)]) ([]) (λG=>[z1,(b4,O (xH y2) 101),(b1,iu)]++G) ap (λ_=>ap) sA ty101 zc101 U bytes101 pA U U (eF 0 U (cE y2 U U)) lo lo (λob1 oc1 G1 gr1=>qO 4 U (oi i2 U (qO 2 U (aX (L':=[(b1,iu)]++G1) js (ag1 ((lB++[y2]),ob1,oc1,G1) hs5 ⟨gr1,lo⟩))))))
  exact aI (qT 2 U (oi i2 U (qO 2 U (aX (L':=[(b1,iu)]++(od)) js (ag1 (lB,oX,oW,od) hs6 ⟨pA,lo⟩)))))
 rintro i1 ⟨bD,iu⟩ y1 rz1 hd1 df aS dZ gy hs7 ⟨fR,nM⟩ hx1 ag2 e
 try dsimp only at fR nM
 refine sr (tO df U (qO 8 U (aB (iF xH sA ty101 hl.1 aS U U U (λq4 A4=>dq ty101 A4 U U (aT zc101 (λb6=>aL 0 ty101 U U U U U U (qL 9 [0] U (ce 5 [28,29,30,31,32,33] 28 33 (decide (known<y1.Known)) U (λc3 hk2=>?_) (λe=>?_))))))))))
 .exact qL 5 [0] U (hk2 _ U)
 refine av (ce 10 [34,35,36,37,38,39,40,41,42,43,44] 34 44 ((y1.Kind != (-1))&&(y1.Kind != kind)) U (λc4 hk3=>?_) (λe=>?_))
 .refine qL 4 [0] U (bA 5 [38,39,40,41,42,43] 38 43 (y1.Kind != kind) U (λc5 hk4=>?_) (λe=>?_))
  .exact qL 5 [0] U (hk4 _ U)
  exact eU U (hk3 _ U)
 refine aJ (ae hs7 U (λc6 hs8=>?_) (λc6 hs9=>?_))
 .exact md U (bE (oi i1 U (qO 2 U (aX (L':=[(b1,iu)]) js (ag2 (bD,iu) hs8 ⟨fR,lc⟩)))))
 refine qK 7 [0,0] U (aB (fV (cells:=[I y1.Kind,I y1.Period]) (places:=[(0,1),(1,1)]) Mw zc267 kr kr (aT zc267 (λb7=>aL 0 ty267 U U U U U U (qO 4 U (cI 0 ty267 U U U (aB (lN 2 (k:=(fN.mk y1.Kind y1.Period)) underlying265 ym U fR (fw zv101) (show(jf aAd) _ (.agg (jB [I 0,I 0,I 0,I 0,I 0,I 0,I 0,.bool false])) (aAz 0 0 0 0 0 0 0 false)from⟨_,U,U⟩) U U (λv3 hv3=>?_)))))))))
 obtain⟨_,rfl,rfl⟩:=hv3
 refine qO 3 U (aT zc101 (λb8=>aL 0 ty101 U U U U U U (qO 7 U (ce 6 [58,59,60,61,62,63,64] 58 64 (decide ((mgetD bD (fN.mk y1.Kind y1.Period) (aAz 0 0 0 0 0 0 0 false)).At<=y1.At)) U (λc7 hk5=>?_) (λe=>?_)))))
 .exact qL 6 [0,2] U (hk5 _ U)
 refine aJ (ae hs9 U (λc8 hs10=>?_) (λc8 hs11=>?_))
 .exact bE (av (cI 1 ty267 U U U (cI 2 ty101 U U U (aB (lg 3 (k:=(fN.mk y1.Kind y1.Period)) (x:=y1) underlying265 ym U fR U U ⟨_,U,U⟩ (λmo1 hm1=>qO 3 U (oi i1 U (qO 2 U (aX (L':=[(b1,mo1)]) js (ag2 ((mput bD (fN.mk y1.Kind y1.Period) y1),mo1) hs10 ⟨hm1,(by have:=m9 bD (fN.mk y1.Kind y1.Period) y1;first|omega|(simp only[vB,xA]at *;omega))⟩))))))))))
 exact aI (qT 2 U (oi i1 U (qO 2 U (aX (L':=[(b1,iu)]) js (ag2 (bD,iu) hs11 ⟨fR,lc⟩)))))
theorem CC(h:HF)(u:List Use)(rO:Option Addr)(rN:Nat)(u_q:Addr)(known:Int)(known_q:Addr)(bg:Budget)(bg_q:Addr)(at_:Int)(at__q:Addr)(hu:SlC aBY h rO rN u)(au:At h u_q [.slice rO u.length rN])(aknown:At h known_q [I known])(abg:At h bg_q (xH bg))(aat_:At h at__q [I at_])(hbp:bg.Period≠0):Itr prog (.func (.func 195) #[] (jB [.pointer (some u_q),.pointer (some known_q),.pointer (some bg_q),.pointer (some at__q)])) zb (bS u known bg at_) h:=by
 refine sV call195 ?_
 intro yf ya yb C Sp Pn h1 A hle m1 m2 m3 hC hy
 refine jW Bq U ntmps195 U λX hXM hX=>?_
 have hs0:bS u known bg at_=[]++bS u known bg at_:=rfl
 refine sr (dB ty32 (au.mono hle) U (qL 3 [] U ?_))
 refine lp2 u (λi w=>[(0,.func yf ya yb),(2,.pointer (some known_q)),(3,.pointer (some bg_q)),(4,.pointer (some at__q)),(8,.slice rO u.length rN),(9,I (u.length:Int)),(10,I (i:Int))]) (λw=>w.2.2) (λw=>w.2.1) (λi w=>C w.1 w.2.2 w.2.1/\vM h1 w.2.2) (λs1 i w=>w.1++(bS.L1 known bg at_ (bS.K1)) s1) ([],A,h1) ((hu.mono aCa hle).1.1) hs0 ⟨hC,lf⟩ ?_ ?_
 .rintro i1 ⟨dn1,A1_,hh1⟩ ft hs1 ⟨hC1_,hl1⟩ e
  refine ew ?_
  have hs2:bS u known bg at_=dn1:=hs1.trans (List.append_nil _)
  exact sW [] (A:=A1_) Bq U (List.Sublist.refl _) (.inl (hs2▸hC1_))
 rintro i1 ⟨dn1,A1_,hh1⟩ y1 rz1 hd1 df aS dZ gy hs3 ⟨hC1_,hl1⟩ hx1 ag1 e
 refine sr (tO df U (qO 8 U (aB (iF aAc zt ty111 (hu.mono aCa (hle.t hl1)).1 aS U U U (λq2 A2=>dq ty111 A2 U U (aT zc111 (λb2=>aL 0 ty111 U U U U U U (gJ (L':=[(b2,O (aAc y1) 111)]++(A1_)) U (qO 2 U ?_)))))))))
 let z1:Nat×Obj:=(b2,O (aAc y1) 111)
 refine eT ([z1]) mixed kr jn (λeo _=>?_)
 refine qB [0] U (tf 1 U U (rj 0 ty3 U U U) (tf 2 U U (rh ty3 (aknown.mono (hle.t hl1)) U) (qA [3,4] U ?_)))
 refine dx 18 U (λc1=>?_) (λc1=>?_)
 .have c1p:=of_decide_eq_true c1
  refine qB [5] U (tf 6 U U (rH 3 ty3 (abg.mono (hle.t hl1)) U U) (qA [7,8] U ?_))
  refine dx 22 U (λc2=>?_) (λc2=>?_)
  .refine qD 9 9 U (tf 18 U U (rj 0 ty3 U U U) (qB [19] U (tf 20 U U (rH 4 ty3 (abg.mono (hle.t hl1)) U U) (tf 21 U U (λ_ _ _=>Dz U U ob) (tf 22 U U (rh ty3 (aat_.mono (hle.t hl1)) U) (qB [23] U (tf 24 U U (rH 4 ty3 (abg.mono (hle.t hl1)) U U) (tf 25 U U (λ_ _ _=>Dz U U ob) (qA [26] U (tf 27 U U (λ_ _ _=>nX U (cb (show((vC .i64 (y1.At.tdiv bg.Period))==(vC .i64 (at_.tdiv bg.Period)))=((decide (y1.Known<=known)&&((bg.Kind==(-1))||(bg.Kind==y1.Kind)))&&((vC .i64 (y1.At.tdiv bg.Period))==(vC .i64 (at_.tdiv bg.Period))))from by first|(rw[c1];rw[c2];rfl)|(rw[c2];rfl)|simp[c1,c2]))) (tm 28 U ?_)))))))))))
   refine dx 42 U (λc3=>?_) (λc3=>?_)
   .have ct1:=c3
    have hs4:=hs3.trans (congrArg (dn1++·) (bt ct1))
    refine qB [29,30] U (tf 31 U U (rj 0 ty3 U U U) ?_)
    have hx1:bS u known bg at_=dn1++(y1.Value::(bS.L1 known bg at_ (bS.K1) rz1)):=hs4
    refine tn 32 U (ll ([z1]) A1_ ap (hy dn1 y1.Value _ _ _ _ hx1 hl1 hC1_ U) U U (λh2 A3 hle1 hC1=>?_) (λh3 A4 hle2 hS1=>?_) (λch1 h4 A5 hle3 hP1 e=>gV (nh [] (A:=A5) Bq (List.sublist_append_right _ _) hP1)))
    .have hs5:bS u known bg at_=(dn1++[y1.Value])++((bS.L1 known bg at_ (bS.K1) rz1)):=hx1.trans ap
     exact⟨⟨hle1,λ_ hp=>List.Sublist.subset js hp⟩,n9 (K2:=[z1]) hle1 (λ_ hp=>hp) (qA [33,34] U (aQ kr (qT 4 U (oi i1 U (qO 2 U (aX (L':=A3) js (ag1 ((dn1++[y1.Value]),A3,h2) hs5 ⟨hC1,(hl1.t hle1)⟩)))))))⟩
    exact⟨⟨hle2,λ_ hp=>List.Sublist.subset js hp⟩,n9 (K2:=[z1]) hle2 (λ_ hp=>hp) (qA [33,34] U (aQ kr (lM U (ew (m4 [] (A:=A4) Bq U js (.inr hS1))))))⟩
   have ct2:=c3
   have hs6:=hs3.trans (congrArg (dn1++·) (bf ct2))
   exact tk 29 U U (qR 30 5 U (aQ kr (qT 4 U (oi i1 U (qO 2 U (aX (L':=A1_) js (ag1 (dn1,A1_,hh1) hs6 ⟨hC1_,hl1⟩)))))))
  refine qB [9] U (tf 10 U U (rH 3 ty3 (abg.mono (hle.t hl1)) U U) (qB [11] U (tf 12 U U (rj 0 ty3 U U U) (qR 13 4 U ?_))))
  refine dx 30 U (λc4=>?_) (λc4=>?_)
  .refine qB [17] U (tf 18 U U (rj 0 ty3 U U U) (qB [19] U (tf 20 U U (rH 4 ty3 (abg.mono (hle.t hl1)) U U) (tf 21 U U (λ_ _ _=>Dz U U ob) (tf 22 U U (rh ty3 (aat_.mono (hle.t hl1)) U) (qB [23] U (tf 24 U U (rH 4 ty3 (abg.mono (hle.t hl1)) U U) (tf 25 U U (λ_ _ _=>Dz U U ob) (qA [26] U (tf 27 U U (λ_ _ _=>nX U (cb (show((vC .i64 (y1.At.tdiv bg.Period))==(vC .i64 (at_.tdiv bg.Period)))=((decide (y1.Known<=known)&&((bg.Kind==(-1))||(bg.Kind==y1.Kind)))&&((vC .i64 (y1.At.tdiv bg.Period))==(vC .i64 (at_.tdiv bg.Period))))from by first|(rw[c1];rw[c2];rw[c4];rfl)|(rw[c4];rfl)|simp[c1,c2,c4]))) (tm 28 U ?_)))))))))))
   refine dx 42 U (λc5=>?_) (λc5=>?_)
   .have ct3:=c5
    have hs7:=hs3.trans (congrArg (dn1++·) (bt ct3))
    refine qB [29,30] U (tf 31 U U (rj 0 ty3 U U U) ?_)
    have hx2:bS u known bg at_=dn1++(y1.Value::(bS.L1 known bg at_ (bS.K1) rz1)):=hs7
    refine tn 32 U (ll ([z1]) A1_ ap (hy dn1 y1.Value _ _ _ _ hx2 hl1 hC1_ U) U U (λh5 A6 hle4 hC2=>?_) (λh6 A7 hle5 hS2=>?_) (λch2 h7 A8 hle6 hP2 e=>gV (nh [] (A:=A8) Bq (List.sublist_append_right _ _) hP2)))
    .have hs8:bS u known bg at_=(dn1++[y1.Value])++((bS.L1 known bg at_ (bS.K1) rz1)):=hx2.trans ap
     exact⟨⟨hle4,λ_ hp=>List.Sublist.subset js hp⟩,n9 (K2:=[z1]) hle4 (λ_ hp=>hp) (qA [33,34] U (aQ kr (qT 4 U (oi i1 U (qO 2 U (aX (L':=A6) js (ag1 ((dn1++[y1.Value]),A6,h5) hs8 ⟨hC2,(hl1.t hle4)⟩)))))))⟩
    exact⟨⟨hle5,λ_ hp=>List.Sublist.subset js hp⟩,n9 (K2:=[z1]) hle5 (λ_ hp=>hp) (qA [33,34] U (aQ kr (lM U (ew (m4 [] (A:=A7) Bq U js (.inr hS2))))))⟩
   have ct4:=c5
   have hs9:=hs3.trans (congrArg (dn1++·) (bf ct4))
   exact tk 29 U U (qR 30 5 U (aQ kr (qT 4 U (oi i1 U (qO 2 U (aX (L':=A1_) js (ag1 (dn1,A1_,hh1) hs9 ⟨hC1_,hl1⟩)))))))
  refine qR 17 10 U (tf 27 U U (λ_ _ _=>nX U (cb (show false=((decide (y1.Known<=known)&&((bg.Kind==(-1))||(bg.Kind==y1.Kind)))&&((vC .i64 (y1.At.tdiv bg.Period))==(vC .i64 (at_.tdiv bg.Period))))from by first|(rw[c1];rw[c2];rw[c4];rfl)|(rw[c4];rfl)|simp[c1,c2,c4]))) (tm 28 U ?_))
  refine dx 42 U (λc6=>?_) (λc6=>?_)
  .have ct5:=c6
   have hs10:=hs3.trans (congrArg (dn1++·) (bt ct5))
   refine qB [29,30] U (tf 31 U U (rj 0 ty3 U U U) ?_)
   have hx3:bS u known bg at_=dn1++(y1.Value::(bS.L1 known bg at_ (bS.K1) rz1)):=hs10
   refine tn 32 U (ll ([z1]) A1_ ap (hy dn1 y1.Value _ _ _ _ hx3 hl1 hC1_ U) U U (λh8 A9 hle7 hC3=>?_) (λh9 A10 hle8 hS3=>?_) (λch3 h10 A11 hle9 hP3 e=>gV (nh [] (A:=A11) Bq (List.sublist_append_right _ _) hP3)))
   .have hs11:bS u known bg at_=(dn1++[y1.Value])++((bS.L1 known bg at_ (bS.K1) rz1)):=hx3.trans ap
    exact⟨⟨hle7,λ_ hp=>List.Sublist.subset js hp⟩,n9 (K2:=[z1]) hle7 (λ_ hp=>hp) (qA [33,34] U (aQ kr (qT 4 U (oi i1 U (qO 2 U (aX (L':=A9) js (ag1 ((dn1++[y1.Value]),A9,h8) hs11 ⟨hC3,(hl1.t hle7)⟩)))))))⟩
   exact⟨⟨hle8,λ_ hp=>List.Sublist.subset js hp⟩,n9 (K2:=[z1]) hle8 (λ_ hp=>hp) (qA [33,34] U (aQ kr (lM U (ew (m4 [] (A:=A10) Bq U js (.inr hS3))))))⟩
  have ct6:=c6
  have hs12:=hs3.trans (congrArg (dn1++·) (bf ct6))
  exact tk 29 U U (qR 30 5 U (aQ kr (qT 4 U (oi i1 U (qO 2 U (aX (L':=A1_) js (ag1 (dn1,A1_,hh1) hs12 ⟨hC1_,hl1⟩)))))))
 have c1p:=of_decide_eq_false c1
 refine qR 5 22 U (tf 27 U U (λ_ _ _=>nX U (cb (show false=((decide (y1.Known<=known)&&((bg.Kind==(-1))||(bg.Kind==y1.Kind)))&&((vC .i64 (y1.At.tdiv bg.Period))==(vC .i64 (at_.tdiv bg.Period))))from by first|(rw[c1];rfl)|(rw[c1];rfl)|simp[c1]))) (tm 28 U ?_))
 refine dx 42 U (λc7=>?_) (λc7=>?_)
 .have ct7:=c7
  have hs13:=hs3.trans (congrArg (dn1++·) (bt ct7))
  refine qB [29,30] U (tf 31 U U (rj 0 ty3 U U U) ?_)
  have hx4:bS u known bg at_=dn1++(y1.Value::(bS.L1 known bg at_ (bS.K1) rz1)):=hs13
  refine tn 32 U (ll ([z1]) A1_ ap (hy dn1 y1.Value _ _ _ _ hx4 hl1 hC1_ U) U U (λh11 A12 hle10 hC4=>?_) (λh12 A13 hle11 hS4=>?_) (λch4 h13 A14 hle12 hP4 e=>gV (nh [] (A:=A14) Bq (List.sublist_append_right _ _) hP4)))
  .have hs14:bS u known bg at_=(dn1++[y1.Value])++((bS.L1 known bg at_ (bS.K1) rz1)):=hx4.trans ap
   exact⟨⟨hle10,λ_ hp=>List.Sublist.subset js hp⟩,n9 (K2:=[z1]) hle10 (λ_ hp=>hp) (qA [33,34] U (aQ kr (qT 4 U (oi i1 U (qO 2 U (aX (L':=A12) js (ag1 ((dn1++[y1.Value]),A12,h11) hs14 ⟨hC4,(hl1.t hle10)⟩)))))))⟩
  exact⟨⟨hle11,λ_ hp=>List.Sublist.subset js hp⟩,n9 (K2:=[z1]) hle11 (λ_ hp=>hp) (qA [33,34] U (aQ kr (lM U (ew (m4 [] (A:=A13) Bq U js (.inr hS4))))))⟩
 have ct8:=c7
 have hs15:=hs3.trans (congrArg (dn1++·) (bf ct8))
 exact tk 29 U U (qR 30 5 U (aQ kr (qT 4 U (oi i1 U (qO 2 U (aX (L':=A1_) js (ag1 (dn1,A1_,hh1) hs15 ⟨hC1_,hl1⟩)))))))
theorem En(h:HF)(D3:Budget)(u:List Use)(rO:Option Addr)(rN:Nat)(aH:Int)(known:Int)(hu:SlC aBY h rO rN u)(hbp:D3.Period≠0):jv prog 102 [.agg (xH D3).toArray,.slice rO u.length rN,I aH,I known] h (λv h'=>∃(rv0:Value),v=rv0/\Itr prog rv0 zb (ml D3 u aH known) h'):=by
 refine sT func102 U ntmps102 U λX hM hX hF=>?_
 have hs0:ml D3 u aH known=ml D3 u aH known:=rfl
 refine sr (cz (λb1=>cz (λb2=>cz (λb3=>cz (λb4=>qO 4 U (aU 2 U hM (λh1 hle1 hb1=>aU 0 U hM (λh2 hle2 hb2=>aU 1 U hM (λh3 hle3 hb3=>aU 0 U hM (λh4 hle4 hb4=>aB (eL U U (an ?_))))))))))))
 have hs1:ml D3 u aH known=(bS u known D3 aH):=hs0
 exact nretH [.func (.func 195) #[] #[Q b2,Q b4,Q b1,Q b3]] ⟨(.func (.func 195) #[] #[Q b2,Q b4,Q b1,Q b3]),congrArg (λr:List Int=>((.func (.func 195) #[] #[Q b2,Q b4,Q b1,Q b3]):Value)) hs1.symm,(by rw[hs1];exact(CC h4 u rO rN ⟨b2,0,none⟩ known ⟨b4,0,none⟩ D3 ⟨b1,0,none⟩ aH ⟨b3,0,none⟩ (hu.mono aCa (((hle1.t hle2).t hle3).t hle4)) ((cL hb1).mono ((hle2.t hle3).t hle4)) ((cL hb2).mono (hle3.t hle4)) ((cL hb3).mono hle4) (cL hb4) ob))⟩
theorem wD(h:HF)(l:List Budget)(eu:Option Addr)(et:Nat)(u:List Use)(rO:Option Addr)(rN:Nat)(kind:Int)(value:Int)(cX:Int)(known:Int)(hl:SlC aAd h eu et l)(hu:SlC aBY h rO rN u)(hsz:l.length<=2000000):Ret prog 27 [.slice eu l.length et,.slice rO u.length rN,I kind,I value,I cX,I known] h (.tuple #[I ((bp l u kind value cX known).1),.bool ((bp l u kind value cX known).2.1),I ((bp l u kind value cX known).2.2)]):=by
 refine cZ EH U ntmps27 U λX hM hX=>?_
 have hs0:bp l u kind value cX known=bp l u kind value cX known:=rfl
 refine qT 10 U (aj call68 (uZ _ _ _ _ hl) U (qO 7 U (ae hs0 U (λc1 hs1=>?_) (λc1 hs2=>?_))))
 .refine qT 7 U ?_
  have hs3:bp l u kind value cX known=(0,false,(bT l)):=hs1
  exact tC [I 0,.bool false,I (bT l)] EH U hX rd (congrArg (λr:(Int×Bool×Int)=>(.tuple #[I r.1,.bool r.2.1,I r.2.2]:Value)) hs3.symm)
 refine qK 8 [] U (ae hs2 U (λc2 hs4=>?_) (λc2 hs5=>?_))
 .have c2p:=of_decide_eq_true c2
  refine qT 6 U ?_
  have hs6:bp l u kind value cX known=(0,false,2):=hs4
  exact tC [I 0,.bool false,I 2] EH U hX rd (congrArg (λr:(Int×Bool×Int)=>(.tuple #[I r.1,.bool r.2.1,I r.2.2]:Value)) hs6.symm)
 have c2p:=of_decide_eq_false c2
 refine qT 5 U (aj call99 (Em _ _ _ _ hu) U (qO 2 U (ae hs5 U (λc3 hs7=>?_) (λc3 hs8=>?_))))
 .refine qT 6 U ?_
  have hs9:bp l u kind value cX known=(0,false,180):=hs7
  exact tC [I 0,.bool false,I 180] EH U hX rd (congrArg (λr:(Int×Bool×Int)=>(.tuple #[I r.1,.bool r.2.1,I r.2.2]:Value)) hs9.symm)
 refine qT 5 U (aB (bB (cells:=[I kind]) ej ty3 zc3 U U kr (λb1=>aU 0 U hM (λh1 hle1 hb1=>?_))))
 have sl1:SlC kB h1 (some ⟨b1,0,none⟩) 1 ([kind]):=bI.slB0 (T:=3) (fz:=(0,0)) ((show bI kB h [I kind] ([kind])from⟨[I kind],[],rfl,rfl,rfl,rfl⟩).mono jH hle1) hb1
 refine aj wI (dQ _ 0 15 _ _ _ sl1) U (qO 2 U (ce 5 [36,37,38,39,40,41] 36 41 (!(aO 0 1099511627776 ([value]))) U (λc4 hk1=>?_) (λe=>?_)))
 .refine av (aB (bB (cells:=[I value]) ej ty3 zc3 U U kr (λb2=>aU 0 U hM (λh2 hle2 hb2=>?_))))
  have sl2:SlC kB h2 (some ⟨b2,0,none⟩) 1 ([value]):=bI.slB0 (T:=3) (fz:=(0,0)) ((show bI kB h1 [I value] ([value])from⟨[I value],[],rfl,rfl,rfl,rfl⟩).mono jH hle2) hb2
  exact aj wI (dQ _ 0 1099511627776 _ _ _ sl2) U (qO 2 U (kZ (h:=h1) hle2 hX hle1 (hk1 _ U)))
 refine av (ce 6 [42,43,44,45,46,47,48] 42 48 (!(aO 0 1099511627775 ([cX,known]))) U (λc5 hk2=>?_) (λe=>?_))
 .refine qO 2 U (aB (bB (cells:=[I cX,I known]) ej ty3 zc3 U U kr (λb3=>aU 0 U hM (λh3 hle3 hb3=>?_))))
  have sl3:SlC kB h3 (some ⟨b3,0,none⟩) 2 ([cX,known]):=bI.slB0 (T:=3) (fz:=(0,0)) ((show bI kB h1 [I cX,I known] ([cX,known])from⟨[I cX],[I known],rfl,rfl,rfl,⟨[I known],[],rfl,rfl,rfl,rfl⟩⟩).mono jH hle3) hb3
  exact aj wI (dQ _ 0 1099511627775 _ _ _ sl3) U (qO 2 U (kZ (h:=h1) hle3 hX hle1 (hk2 _ U)))
 refine aJ (ae hs8 U (λc6 hs10=>?_) (λc6 hs11=>?_))
 .refine qT 6 U ?_
  have hs12:bp l u kind value cX known=(0,false,1):=hs10
  exact tC [I 0,.bool false,I 1] EH U hX rd (congrArg (λr:(Int×Bool×Int)=>(.tuple #[I r.1,.bool r.2.1,I r.2.2]:Value)) hs12.symm)
 refine qT 8 U (aB (cT call101 (Aa _ _ _ _ kind cX known (hl.mono aBd hle1) ob) U (λv1 h4 hle4 hp1=>?_)))
 obtain⟨rb1,rc1,rfl,sl4⟩:=hp1
 refine qL 3 [] U (ew (cv (L':=markB []) ap ?_))
 refine sE (ι:=Nat×List Nat×HF) (λi=>[]) (λi=>marks i.2.1) (λi=>i.2.2) (λi=>markB i.2.1) (λi=>i.1<=(aW l kind cX known).length/\bp l u kind value cX known=((bp.K1))/\vM h4 i.2.2) ?_ (λhx1=>?_)
 .rintro⟨i1,rs1,hh1⟩ ⟨ft,hs13,hl1⟩ e
  refine qT 6 U ?_
  have hs14:bp l u kind value cX known=((-1),true,0):=hs13
  exact cv (L':=([])++markB rs1) ap (sD rs1 [I (-1),.bool true,I 0] EH U hX rd (congrArg (λr:(Int×Bool×Int)=>(.tuple #[I r.1,.bool r.2.1,I r.2.2]:Value)) hs14.symm))
 refine xj (ι:=Nat×List Nat×HF×List Budget) (λi=>[(1,.slice rO u.length rN),(3,I value),(4,I cX),(5,I known),(53,.slice rb1 ((aW l kind cX known).length) rc1),(54,I ((aW l kind cX known).length:Int)),(55,I (i.1:Int))]) (λi=>marks i.2.1) (λi=>i.2.2.1) (λi=>markB i.2.1) (λi=>(aW l kind cX known).drop i.1=i.2.2.2/\i.1<=(aW l kind cX known).length/\bp l u kind value cX known=((bp.L1 u value cX known (bp.K1)) i.2.2.2)/\vM h4 i.2.2.1) (λi=>i.2.2.2.length) (0,[],h4,(aW l kind cX known)) U rd sw ⟨U,zN _,hs11,lf⟩ ?_
 rintro⟨i1,rs1,hh1,s1⟩ ⟨hd1,ft,hs15,hl1⟩ ag1 e
 rcases s1 with _|⟨y1,rz1⟩
 .have gu:=ni hd1
  exact sr (fO gu U (qO 4 U (hx1 (i1,rs1,hh1) _ ⟨ft,hs15,hl1⟩ trivial)))
 have df:=tj hd1
 have aS:=pI hd1
 have dZ:=iB hd1
 have gy:=sl4.1.1
 refine sr (tO df U (qO 8 U (aB (iF xH sA ty101 (sl4.mono aBd hl1).1 aS U U U (λq2 A2=>dq ty101 A2 U U (aT zc101 (λb7=>aL 0 ty101 U U U U U U (qO 4 U (aT zc3 (λb8=>aT zc3 (λb9=>cM 1 ty3 U U U U U U (cM 0 ty3 U U U U U U (qO 4 U (cI 2 ty101 U U U (qO 3 U (aB (cT call102 (En _ y1 _ _ _ cX known (hu.mono aCa ((hle1.t hle4).t hl1)) (J3 (by simpa using c1) (gp hd1))) U (λv3 h6 hle6 hp3=>?_))))))))))))))))))
 obtain⟨_,rfl,mo2⟩:=hp3
 refine qO 2 U ?_
 let z1:Nat×Obj:=(b7,O (xH y1) 101)
 refine cv (L':=([(b9,O [I value] 3),(b8,O [I 1] 3),z1])++markB rs1) ap ?_
 refine kp (it:=v3) (xs:=(ml y1 u cX known)) (ι:=Int×Int×HF) rs1 (λi=>i.2.2) (λi=>[(b9,O [I i.1] 3),(b8,O [I i.2.1] 3),z1]) (λs i=>bp l u kind value cX known=((bp.L3 (λzg3_b9_0 zg3_b8_0=>(bif(decide (y1.Count<zg3_b8_0)||decide (y1.Value<zg3_b9_0))then(y1.No,false,0)else(bp.L1 u value cX known (bp.K1) rz1)))) s i.1 i.2.1)/\vM h6 i.2.2) (λ_=>False) (λ_=>False) 0 (λ_ _ _=>False) (value,1,h6) EH U mo2 U DH (λ_ _ _ _ _ hq=>hq) U (show[(b9,O [I value] 3),(b8,O [I 1] 3),z1]=_ from U) ⟨hs15,lf⟩ ?_ ?_ ?_ ?_ ?_
 .rintro l3 dm3 lp3 y3 rz3 vs3 ⟨vU,ze,hh3⟩ hr3 X hFR3 ⟨hs17,hl3⟩ hl03 hlr3 hv3 hX hXM hlp3 nx3 rt3 ex3 pn3
  obtain rfl:=hv3
  exact cv (L':=[(l3,.loop lp3),(dm3,.deferred (some [])),(b9,O [I vU] 3),(b8,O [I ze] 3),z1]++(markB rs1)) ap (qT 3 U (kc 0 U hlp3 (qK 5 [3] U (cM 3 ty3 U U U U U U (qL 5 [2] U (cM 2 ty3 U U U U U U (qO 2 U (cv (L':=rdH l3 dm3 lp3 (([(b9,O [I (vC .i64 (vU+y3))] 3),(b8,O [I (vC .i64 (ze+1))] 3),z1])++markB rs1)) ap (nx3 ((vC .i64 (vU+y3)),(vC .i64 (ze+1)),hr3) _ _ ⟨hs17,(hl3.t hlr3)⟩ lf)))))))))
 .rintro dm3 ⟨vU,ze,hh3⟩ hn3 ⟨hs18,hl3⟩ hln3 hl03
  refine cv (L':=[(b9,O [I vU] 3),(b8,O [I ze] 3),z1]++(markB (dm3::rs1))) ap (qK 8 [1,2] U (ce 5 [75,76,77,78,79,80] 75 80 (decide (y1.Value<vU)) U (λc7 hk3=>?_) (λe=>?_)))
  .exact qL 5 [0,2] U (hk3 _ U)
  refine aJ (ae hs18 U (λc8 hs19=>?_) (λc8 hs20=>?_))
  .refine qK 8 [2] U ?_
   have hs21:bp l u kind value cX known=(y1.No,false,0):=hs19
   exact cv (L':=([(b9,O [I vU] 3),(b8,O [I ze] 3),z1])++markB (dm3::rs1)) ap (sD (dm3::rs1) [I y1.No,.bool false,I 0] EH U hX rd (congrArg (λr:(Int×Bool×Int)=>(.tuple #[I r.1,.bool r.2.1,I r.2.2]:Value)) hs21.symm))
  exact aI (qT 2 U (oi i1 U (qO 2 U (aX (L':=markB (dm3::rs1)) js (ag1 ((i1+1),(dm3::rs1),hn3,rz1) _ (Nat.lt_succ_self _) ⟨kO hd1,iB hd1,hs20,(((hl1.t hle6).t hl3).t hln3)⟩ rd)))))
 .exact xf
 .exact xf
 exact xf
theorem uW(h:HF)(t:Int)  : Ret prog 214 [I t] h (.bool (hO t)):=by
 refine sT func214 U ntmps214 U λX hM hX hF=>?_
 have hs0:hO t=hO t:=rfl
 refine qT 9 U (bA 4 [5,6,7,8,9] 5 9 (!(fS t)) U (λc1 hk1=>?_) (λe=>?_))
 .exact av (aj Ox (ns h t) U (qO 2 U (hk1 _ U)))
 exact an (nretP [.bool ((t != (-1))&&(!(fS t)))] (cs hs0))
theorem pW(h:HF)(l:List Document)(eu:Option Addr)(et:Nat)(signed:List Int)(ck:Option Addr)(cj:Nat)(hl:SlC xS h eu et l)(hsigned:SlC kB h ck cj signed):Ret prog 124 [.slice eu l.length et,.slice ck signed.length cj] h (.bool (bM l signed)):=by
 refine sT func124 U ntmps124 U λX hM hX hF=>?_
 have hs0:bM l signed=bM l signed:=rfl
 refine qK 16 [] U (bA 5 [11,12,13,14,15,16] 11 16 (!(cB signed hO)) U (λc1 hk1=>?_) (λe=>?_))
 .exact av (av (aj Jy (im _ _ _ _ hO (.func (.func 214) #[] #[]) hsigned (λh' dl hle=>gM call214 (uW h' dl))) U (qO 2 U (hk1 _ U))))
 exact an (nretP [.bool (((signed.length:Int)==(l.length:Int))&&(!(cB signed hO)))] (cs hs0))
theorem Bx(h:HF)(x:List Int)(Ra:Option Addr)(QU:Nat)(hx:SlC kB h Ra QU x)(hne:0<x.length):Ret prog 217 [.slice Ra x.length QU] h (I (gm x)):=by
 refine sT func217 U ntmps217 U λX hM hX hF=>?_
 have hs0:gm x=gm x:=rfl
 refine qK 11 [] U (ky U (λc1=>?_) (λc1=>?_))
 .exact absurd c1 (by simp only[decide_eq_true_eq,Bool.not_eq_true,decide_eq_false_iff_not];omega)
 have c1p:=of_decide_eq_false c1
 refine qT 4 U ?_
 have ho1:0<=(0:Int)/\(0:Int)<((x).length:Int):=ob
 refine aB (pd (enc:=λy=>[I y]) ei ej ty3 hx.1 ho1 (dh ho1) U U U (λq1 A1=>dB ty3 A1 U (qO 7 U ?_)))
 refine iX (ι:=Nat×Int) (λi=>[(3,I i.2)]) (λi=>h) (λi=>[]) (λi=>i.1<=x.length/\gm x=((gm.K1) i.2)) ?_ (λhx1=>?_)
 .rintro⟨i1,iQ⟩ ⟨ft,hs1⟩ e
  exact sr (qO 3 U (nretP [I iQ] (ci hs1)))
 refine kY (ι:=Nat×Int×List Int) (λi=>[(0,.slice Ra x.length QU),(3,I i.2.1),(4,I (i.1:Int))]) (λi=>h) (λi=>[]) (λi=>x.drop i.1=i.2.2/\i.1<=x.length/\gm x=((gm.L1 (gm.K1)) i.2.2 i.2.1)) (λi=>i.2.2.length) (1,(nthI x 0),(x.drop 1)) rd sw ⟨U,ob,hs0⟩ ?_
 rintro⟨i1,iQ,s1⟩ ⟨hd1,ft,hs3⟩ ag1 e
 rcases s1 with _|⟨y1,rz1⟩
 .have gu:=ni hd1
  exact qK 6 [] U (fO gu U (qO 3 U (hx1 (i1,iQ) _ ⟨ft,hs3⟩ rd)))
 have df:=tj hd1
 have aS:=pI hd1
 have dZ:=iB hd1
 have gy:=hx.1.1
 exact qK 6 [] U (tO df U (qO 9 U (aB (iF (λy=>[I y]) ej ty3 hx.1 aS U U U (λq3 A3=>dB ty3 A3 U (aB (fK (QX U U) (qO 5 U (oi i1 U (an (ag1 ((i1+1),(min iQ y1),rz1) _ (Nat.lt_succ_self _) ⟨kO hd1,iB hd1,hs3⟩ rd)))))))))))
theorem mH(h:HF)(p:eS)(ie:tr)(p_q:Addr)(n0:Int)(aH:Int)(hp:eS.ok h p ie)(ap_z:At h p_q (eS.cells p ie))(hi:0<=n0/\n0<(p.shelf.docs.length:Int))(hlen:p.done.length=p.shelf.docs.length/\p.lacks.length=p.shelf.docs.length):Ret prog 127 [.pointer (some p_q),I n0,I aH] h (.tuple #[I ((cg p n0 aH).1),I ((cg p n0 aH).2)]):=by
 refine sT func127 U ntmps127 U λX hM hX hF=>?_
 have hs0:cg p n0 aH=cg p n0 aH:=rfl
 refine qT 8 U (aB (fK (gh U) (qL 2 [] U (dB ty27 ap_z U (av ?_)))))
 have ho1:0<=(n0:Int)/\(n0:Int)<((p.shelf.docs).length:Int):=ob
 refine aB (ur oq ty51 hp.shelf.docs.1 ho1 (dh ho1) U U U (λ_ _ _ e=>e) (λq1 r1 A1 ok1=>dq ty51 A1 U U (aT zc51 (λb1=>aL 0 ty51 U U U U U U (qO 6 U (aB (fK (gh U) (qL 1 [] U (ju (j:=3) ty57 ap_z U U (av ?_))))))))))
 have ho2:0<=(n0:Int)/\(n0:Int)<((p.done).length:Int):=ob
 refine aB (pd (enc:=λy=>[.bool y]) ei uE ty4 hp.done.1 ho2 (dh ho2) U U U (λq2 A2=>dB ty4 A2 U (qO 3 U (ae hs0 U (λc1 hs1=>?_) (λc1 hs2=>?_)))))
 .refine qT 5 U ?_
  have hs3:cg p n0 aH=(1,(-1)):=hs1
  exact nretP [I 1,I (-1)] (congrArg (λr:(Int×Int)=>(.tuple #[I r.1,I r.2]:Value)) hs3.symm)
 refine qT 3 U (aB (fK (gh U) (qL 1 [] U (ju (j:=4) ty31 ap_z U U (av ?_)))))
 have ho3:0<=(n0:Int)/\(n0:Int)<((p.lacks).length:Int):=ob
 refine aB (pd (enc:=λy=>[I y]) ei ej ty3 hp.lacks.1 ho3 (dh ho3) U U U (λq3 A3=>dB ty3 A3 U (qO 3 U (ae hs2 U (λc2 hs4=>?_) (λc2 hs5=>?_)))))
 .have c2p:=of_decide_eq_true c2
  refine el (eT ([(b1,O (jT (nthI p.shelf.docs n0) r1) 51)]) mixed kr jn (λeo _=>tm 0 U (tf 1 U U (λ_ _ _=>gh U) (qB [2] U (tf 3 U U (rH 4 ty31 ap_z U U) (tm 4 U ?_))))))
  have ho4:0<=(n0:Int)/\(n0:Int)<((p.lacks).length:Int):=ob
  refine eX 5 (enc:=λy=>[I y]) eo jn ei ej ty3 hp.lacks.1 ho4 (dh ho4) U U U U kr (λq4 A4=>tf 6 U U (rh ty3 A4 U) (qA [7,8] U (aQ kr ?_)))
  have hs6:cg p n0 aH=(4,(nthI p.lacks n0)):=hs4
  exact nretP [I 4,I (nthI p.lacks n0)] (congrArg (λr:(Int×Int)=>(.tuple #[I r.1,I r.2]:Value)) hs6.symm)
 have c2p:=of_decide_eq_false c2
 refine el ?_
 let z1:Nat×Obj:=(b1,O (jT (nthI p.shelf.docs n0) r1) 51)
 refine eT ([z1]) mixed kr jn (λmK _=>?_)
 refine tm 0 U (tf 1 U U (λ_ _ _=>gh U) (qB [2] U (tf 3 U U (rH 5 ty236 ap_z U U) (qB [4] U (tf 5 U U (rj 0 ty3 U U U) (tn 6 U ?_))))))
 obtain⟨o1,hb1,hm1⟩:=hp.revoked
 refine nS (k:=(nthI p.shelf.docs n0).No) Js (fZ oe) hb1 hm1 (fw zv31) (show(VSl kB) _ (.slice none 0 0) []from⟨none,0,U,qF⟩) U U (λv1 hv1=>?_)
 obtain⟨rb1,rc1,rfl,sl1⟩:=hv1
 refine⟨jn,(tf 7 U U (λ_ _ _=>Ka ej U) (qA [8,9] U (aQ kr (ae hs5 U (λc3 hs7=>?_) (λc3 hs8=>?_)))))⟩
 .have c3p:=of_decide_eq_true c3
  refine el (eT ([z1]) mixed kr jn (λKG _=>tm 0 U (tf 1 U U (λ_ _ _=>gh U) (qB [2] U (tf 3 U U (rH 5 ty236 ap_z U U) (qB [4] U (tf 5 U U (rj 0 ty3 U U U) (tn 6 U ?_))))))))
  obtain⟨o2,hb2,hm2⟩:=hp.revoked
  refine nS (k:=(nthI p.shelf.docs n0).No) Js (fZ oe) hb2 hm2 (fw zv31) (show(VSl kB) _ (.slice none 0 0) []from⟨none,0,U,qF⟩) U U (λv2 hv2=>?_)
  obtain⟨rb2,rc2,rfl,sl2⟩:=hv2
  refine⟨jn,(tn 7 U (fo call217 (Bx _ _ _ _ sl2 ob) U (⟨jn,(qA [8,9] U (aQ kr ?_))⟩)))⟩
  have hs9:cg p n0 aH=(5,(gm (mgetD p.revoked ((nthI p.shelf.docs n0).No) []))):=hs7
  exact nretP [I 5,I (gm (mgetD p.revoked ((nthI p.shelf.docs n0).No) []))] (congrArg (λr:(Int×Int)=>(.tuple #[I r.1,I r.2]:Value)) hs9.symm)
 have c3p:=of_decide_eq_false c3
 refine qK 8 [0] U (ae hs8 U (λc4 hs10=>?_) (λc4 hs11=>?_))
 .have c4p:=of_decide_eq_true c4
  refine qT 5 U ?_
  have hs12:cg p n0 aH=(2,(-1)):=hs10
  exact nretP [I 2,I (-1)] (congrArg (λr:(Int×Int)=>(.tuple #[I r.1,I r.2]:Value)) hs12.symm)
 have c4p:=of_decide_eq_false c4
 refine qK 8 [0] U (ae hs11 U (λc5 hs13=>?_) (λc5 hs14=>?_))
 .have c5p:=of_decide_eq_true c5
  refine qT 5 U ?_
  have hs15:cg p n0 aH=(3,(-1)):=hs13
  exact nretP [I 3,I (-1)] (congrArg (λr:(Int×Int)=>(.tuple #[I r.1,I r.2]:Value)) hs15.symm)
 have c5p:=of_decide_eq_false c5
 refine qT 7 U ?_
 have hs16:cg p n0 aH=(0,(-1)):=hs14
 exact nretP [I 0,I (-1)] (congrArg (λr:(Int×Int)=>(.tuple #[I r.1,I r.2]:Value)) hs16.symm)
theorem zc(cmp:Int->Int->Int):∀(j:Nat)(xs:List Int),(insIn cmp j xs).length=xs.length
 |0,xs=>rfl
 |j+1,xs=>by
  simp only[insIn,Bool.cond_eq_ite]
  split
  .rw[zc cmp j];simp
  rfl
theorem C7(cmp:Int->Int->Int):∀(j:Nat)(xs:List Int),j<xs.length->∀x∈insIn cmp j xs,x∈xs
 |0,xs,_,x,hx=>hx
 |j+1,xs,hj,x,hx=>by
  simp only[insIn,Bool.cond_eq_ite]at hx
  split at hx
  .have h1:=C7 cmp j _ (by simp;omega) x hx
   rcases List.mem_or_eq_of_mem_set h1 with h1|rfl
   .rcases List.mem_or_eq_of_mem_set h1 with h1|rfl
    .exact h1
    simp[List.getD_eq_getElem?_getD,show j<xs.length by omega]
   simp[List.getD_eq_getElem?_getD,show j+1<xs.length by omega]
  exact hx
theorem FS(cmp:Int->Int->Int):∀(m i:Nat)(xs:List Int),(insOut cmp m i xs).length=xs.length
 |0,_,_=>rfl
 |m+1,i,xs=>by simp only[insOut];rw[FS cmp m,zc]
theorem EX(xs:List Int)(cmp:Int->Int->Int):(dF xs cmp).length=xs.length:=FS _ _ _ _
theorem Bv(j:Nat)(hj:j<9223372036854775807):kC .i64 (IntKind.i64.wrap (((j+1:Nat):Int)-1))=I (j:Int):=by
 rw[lk ob];congr 1;omega
theorem oG(h:HF)(xs:List Int)(b:Option Addr)(c:Nat)(G:LH)(cmp:Int->Int->Int)(cmp_v:Value)(hG:dC kB 3 h xs b c G)(hcmp:∀(h':HF)(dl ED:Int),vM h h'->dl∈xs->ED∈xs->pQ prog cmp_v [I dl,I ED] h' [] (I (cmp dl ED)))(hsz:xs.length<=2000000):
  oA prog 364 [.slice b xs.length c,I 0,I (xs.length:Int),cmp_v].toArray h G (λr h' G'=>h'=h/\r=.returned (.tuple #[])/\dC kB 3 h (dF xs cmp) b c G'):=by
 refine cZ func364 U ntmps364 U λX hM hX=>qT 3 U (jO (v':=I ((1:Nat):Int)) U U (an ?_))
 refine iX (ι:=List Int×LH) (λi=>[]) (λi=>h) (λi=>i.2) (λi=>i.1=dF xs cmp/\dC kB 3 h i.1 b c i.2) ?_ (λhx=>?_)
 .rintro⟨ys,G'⟩ ⟨hs,hG'⟩ e
  dsimp only at hs hG'
  exact xk func364 (λa _ w _=>mC U a w) (λw hw=>hw.lower) ⟨hX,U,hs▸hG'⟩
 refine kY (ι:=Nat×List Int×LH) (λi=>[(0,.slice b xs.length c),(1,I 0),(2,I (xs.length:Int)),(3,cmp_v),(8,I (i.1:Int))]) (λi=>h) (λi=>i.2.2)
  (λi=>insOut cmp (xs.length-i.1) i.1 i.2.1=dF xs cmp/\1<=i.1/\i.2.1.length=xs.length/\(∀x∈i.2.1,x∈xs)/\dC kB 3 h i.2.1 b c i.2.2) (λi=>xs.length-i.1) (1,xs,G) rd (λw hw=>hw) ⟨rfl,kF _,rfl,λ_ hx=>hx,hG⟩ ?_
 rintro⟨i,ys,G1⟩ ⟨hs,hi1,hyl,hym,hG1⟩ ag e
 dsimp only at hs hi1 hyl hym hG1
 rcases xQ i xs.length with hi|hi
 .refine qT 5 U (tO (decide_eq_true ob) U (qO 10 U ?_))
  refine iX (ι:=List Int×LH) (λq=>[(0,.slice b xs.length c),(1,I 0),(2,I (xs.length:Int)),(3,cmp_v),(8,I (i:Int))]) (λq=>h) (λq=>q.2) (λq=>q.1=insIn cmp i ys/\dC kB 3 h q.1 b c q.2) ?_ (λhy=>?_)
  .rintro⟨zs,G2⟩ ⟨hz,hG2⟩ e2
   dsimp only at hz hG2
   subst hz
   refine qT 3 U (oi i U (an (ag (i+1,insIn cmp i ys,G2) _ (by show xs.length-(i+1)<xs.length-i;omega) ⟨?_,by show 1<=i+1;omega,by show(insIn cmp i ys).length=xs.length;rw[zc];exact hyl,λx hx=>hym x (C7 cmp i ys ob x hx),hG2⟩ rd)))
   show insOut cmp (xs.length-(i+1)) (i+1) (insIn cmp i ys)=_
   rw[←hs,show xs.length-i=(xs.length-(i+1))+1 from by omega];rfl
  refine kY (ι:=Nat×List Int×LH) (λq=>[(0,.slice b xs.length c),(1,I 0),(2,I (xs.length:Int)),(3,cmp_v),(8,I (i:Int)),(9,I (q.1:Int))]) (λq=>h) (λq=>q.2.2)
   (λq=>insIn cmp q.1 q.2.1=insIn cmp i ys/\q.1<=i/\q.2.1.length=xs.length/\(∀x∈q.2.1,x∈xs)/\dC kB 3 h q.2.1 b c q.2.2) (λq=>q.1) (i,ys,G1) rd (λw hw=>hw) ⟨rfl,kF _,hyl,hym,hG1⟩ ?_
  rintro⟨j,zs,G2⟩ ⟨hz,hji,hzl,hzm,hG2⟩ ag2 e2
  dsimp only at hz hji hzl hzm hG2
  have J0:∀{L:LH},Jst h [] h L:=BX (List.nil_sublist _)
  obtain⟨bk,hbk⟩:=hG2.zj ob
  have JG:Jst h G2 h G2:=BX (List.Sublist.refl _)
  refine qT 2 U (eT G2 mixed kr JG (λhsep _=>jt 0 hsep JG U U kr U (λ_ _ _=>mZ) (jt 1 hsep JG U U kr U (λ_ _ _=>mZ) ?_)))
  rcases j with _|j
  .exact jt 2 hsep JG U U kr U (λ_ _ _=>nE (v':=.bool false) U (cb (decide_eq_false ob))) (jt 3 hsep JG U U kr U (λ_ _ _=>mZ) (mN 4 hsep JG U U kr U (mN 5 hsep JG U U kr U (mN 6 hsep JG U U kr U (mN 7 hsep JG U U kr U (mN 8 hsep JG U U kr U (mN 9 hsep JG U U kr U (mN 10 hsep JG U U kr U (mN 11 hsep JG U U kr U (mN 12 hsep JG U U kr U (mN 13 hsep JG U U kr U (mN 14 hsep JG U U kr U (mN 15 hsep JG U U kr U (jt 16 hsep JG U U kr U (λ_ _ _=>LE U) (aQ kr (qT 2 U (hy (zs,G2) _ ⟨hz,hG2⟩ rd)))))))))))))))))
  have hj1:zs[j+1]? = some (zs.getD (j+1) 0):=by simp[List.getD_eq_getElem?_getD,show j+1<zs.length by omega]
  have hj0:zs[j]? = some (zs.getD j 0):=by simp[List.getD_eq_getElem?_getD,show j<zs.length by omega]
  have hjn:(((j+1:Nat):Int)).toNat=j+1:=by omega
  have hjn0:((j:Int)).toNat=j:=by omega
  refine jt 2 hsep JG U U kr U (λ_ _ _=>nE (v':=.bool true) U (cb (decide_eq_true ob))) (jt 3 hsep JG U U kr U (λ_ _ _=>mZ) (jt 4 hsep JG U U kr U (λ_ _ _=>mZ) (jt 5 hsep JG U U kr U (λ_ _ _=>mZ) (jt 6 hsep JG U U kr U (λ_ _ _=>mZ) (jt 7 hsep JG U U kr U (λ_ _ _=>oJ (R:=kB) (xs:=zs) (z:=((j+1:Nat):Int)) ej ty3 hbk ob U hzl.symm U) (jt 8 hsep JG U U kr U (λ_ _ hj=>Fw (R:=kB) (off:=0) (i:=j+1) ty3 hG2 hbk hj1 (λcs_z hcs=>by rw[show cs_z=[I (zs.getD (j+1) 0)]from hcs];rfl) (by rfl) (λp hp=>hj.2 p hp)) (jt 9 hsep JG U U kr U (λ_ _ _=>mZ) (jt 10 hsep JG U U kr U (λ_ _ _=>mZ) (jt 11 hsep JG U U kr U (λ_ _ _=>nE (v':=I (j:Int)) U (Bv j ob)) (jt 12 hsep JG U U kr U (λ_ _ _=>oJ (R:=kB) (xs:=zs) (z:=(j:Int)) ej ty3 hbk ob U hzl.symm U) (jt 13 hsep JG U U kr U (λ_ _ hj=>Fw (R:=kB) (off:=0) (i:=j) ty3 hG2 hbk hj0 (λcs_z hcs=>by rw[show cs_z=[I (zs.getD j 0)]from hcs];rfl) (by rfl) (λp hp=>hj.2 p hp)) (tn 14 U (ke (v:=I (cmp (zs.getD (j+1) 0) (zs.getD j 0))) [] (List.nil_sublist _) (hcmp h (zs.getD (j+1) 0) (zs.getD j 0) lf (hzm _ (vE hj1)) (hzm _ (vE hj0))) U U ⟨JG,jt 15 hsep JG U U kr U (λ_ _ _=>Pa U) (jt 16 hsep JG U U kr U (λ_ _ _=>LE U) (aQ kr (ky U (λhc=>aI ?_) (λhc=>?_))))⟩)))))))))))))
  .refine qT 2 U (eT [] mixed kr J0 (λmK _=>jt 0 mK J0 U U kr U (λ_ _ _=>mZ) (jt 1 mK J0 U U kr U (λ_ _ _=>mZ) (jt 5 mK J0 U U kr U (λ_ _ _=>mZ) (jt 6 mK J0 U U kr U (λ_ _ _=>mZ) (jt 2 mK J0 U U kr U (λ_ _ _=>mZ) (jt 3 mK J0 U U kr U (λ_ _ _=>mZ) (jt 4 mK J0 U U kr U (λ_ _ _=>nE (v':=I (j:Int)) U (Bv j ob)) (jt 7 mK J0 U U kr U (λ_ _ _=>nE (v':=I (j:Int)) U (Bv j ob)) (jt 8 mK J0 U U kr U (λ_ _ _=>oJ (R:=kB) (xs:=zs) (z:=(j:Int)) ej ty3 hbk ob U hzl.symm U) (jt 10 mK J0 U U kr U (λ_ _ _=>mZ) (jt 11 mK J0 U U kr U (λ_ _ _=>mZ) (jt 12 mK J0 U U kr U (λ_ _ _=>oJ (R:=kB) (xs:=zs) (z:=((j+1:Nat):Int)) ej ty3 hbk ob U hzl.symm U) ?_)))))))))))))
   refine og 9 13 kr U U
    (fK (Fw (R:=kB) (off:=0) (i:=j) ty3 hG2 hbk hj0 (λcs_z hcs=>by rw[show cs_z=[I (zs.getD j 0)]from hcs];rfl) (by rfl) (λp hp=>hp)) ⟨J0,tn 13 rfl (fK (Fw (R:=kB) (off:=0) (i:=j+1) ty3 hG2 hbk hj1 (λcs_z hcs=>by rw[show cs_z=[I (zs.getD (j+1) 0)]from hcs];rfl) (by rfl) (λp hp=>hp)) ⟨J0,?_⟩)⟩)
    (fK (Fw (R:=kB) (off:=0) (i:=j+1) ty3 hG2 hbk hj1 (λcs_z hcs=>by rw[show cs_z=[I (zs.getD (j+1) 0)]from hcs];rfl) (by rfl) (λp hp=>hp)) ⟨J0,tn 9 rfl (fK (Fw (R:=kB) (off:=0) (i:=j) ty3 hG2 hbk hj0 (λcs_z hcs=>by rw[show cs_z=[I (zs.getD j 0)]from hcs];rfl) (by rfl) (λp hp=>hp)) ⟨J0,?_⟩)⟩)
   all_goals
    refine jt 14 mK J0 U U kr U (λ_ _ _=>oJ (R:=kB) (xs:=zs) (z:=((j+1:Nat):Int)) ej ty3 hbk ob U hzl.symm U) (tn 15 U (BF (R:=kB) (i:=j+1) (off:=0) (u:=zs.getD (j+1) 0) (u':=zs.getD j 0) (v:=I (zs.getD j 0)) [] G2 [] ty3 U hG2 (by simp) hbk hj1 (by decide) (λcs_z hcs=>by rw[show cs_z=[I (zs.getD (j+1) 0)]from hcs];rfl) (by rfl) U U (λG3 hG3=>⟨J0,?_⟩)))
    rw[zG,List.append_nil]
    refine jt 16 mK J0 U U kr U (λ_ _ _=>oJ (R:=kB) (xs:=zs) (z:=(j:Int)) ej ty3 hbk ob U hzl.symm U) ?_
    have hj0':(zs.set (j+1) (zs.getD j 0))[j]? = some (zs.getD j 0):=by rw[List.getElem?_set_ne ob];exact hj0
    refine tn 17 U (BF (R:=kB) (i:=j) (off:=0) (u:=zs.getD j 0) (u':=zs.getD (j+1) 0) (v:=I (zs.getD (j+1) 0)) [] G3 [] ty3 U hG3 (by simp) hbk hj0' (by decide) (λcs_z hcs=>by rw[show cs_z=[I (zs.getD j 0)]from hcs];rfl) (by rfl) U U (λG4 hG4=>⟨J0,?_⟩))
    rw[zG,List.append_nil]
    refine aQ kr (qT 3 U (jO (v':=I (j:Int)) U (Bv j ob) (an (ag2 (j,(zs.set (j+1) (zs.getD j 0)).set j (zs.getD (j+1) 0),G4) _ (Nat.lt_succ_self _) ⟨?_,by show j<=i;omega,by show((zs.set (j+1) (zs.getD j 0)).set j (zs.getD (j+1) 0)).length=xs.length;simpa using hzl,λx hx=>(List.mem_or_eq_of_mem_set hx).elim (λhx=>(List.mem_or_eq_of_mem_set hx).elim (hzm x) (λhx=>hx▸hzm _ (vE hj0))) (λhx=>hx▸hzm _ (vE hj1)),hG4⟩ rd))))
    show insIn cmp j ((zs.set (j+1) (zs.getD j 0)).set j (zs.getD (j+1) 0))=insIn cmp i ys
    rw[←hz];simp only[insIn,hc,cond_true]
  refine md U (hy (zs,G2) _ ⟨?_,hG2⟩ rd)
  show zs=insIn cmp i ys
  rw[←hz];simp only[insIn,hc,cond_false]
 refine qT 5 U (fO (decide_eq_false ob) U (qO 3 U (hx (ys,G1) _ ⟨?_,hG1⟩ trivial)))
 show ys=_
 rw[←hs,show xs.length-i=0 from by omega];rfl
theorem rP(h:HF)(xs:List Int)(b:Option Addr)(c:Nat)(G:LH)(cmp:Int->Int->Int)(cmp_v:Value)(hG:dC kB 3 h xs b c G)(hcmp:∀(h':HF)(dl ED:Int),vM h h'->dl∈xs->ED∈xs->pQ prog cmp_v [I dl,I ED] h' [] (I (cmp dl ED)))(hsz:xs.length<20):
  oA prog 332 [.slice b xs.length c,I (xs.length:Int),cmp_v].toArray h G (λr h' G'=>h'=h/\r=.returned (.tuple #[])/\dC kB 3 h (dF xs cmp) b c G'):=by
 refine cZ func332 U ntmps332 U λX hM hX=>qT 12 U (EM (qT 5 U (fO (decide_eq_false ob) U (qO 9 U (aB (nw [] G [] call364 (oG h xs b c G cmp cmp_v hG hcmp ob) (by simp) U (λG2 hG2=>?_)))))))
 rw[zG,List.append_nil]
 exact aJ (mA (EM (qT 5 U (fO (decide_eq_false ob) U (qO 3 U (xk func332 (λa _ w _=>mC U a w) (λw hw=>hw.lower) ⟨hX,U,hG2⟩))))))
theorem rC(h:HF)(xs:List Int)(b:Option Addr)(c:Nat)(G:LH)(cmp:Int->Int->Int)(cmp_v:Value)(hG:dC kB 3 h xs b c G)(hcmp:∀(h':HF)(dl ED:Int),vM h h'->dl∈xs->ED∈xs->pQ prog cmp_v [I dl,I ED] h' [] (I (cmp dl ED)))(hsz:xs.length<20):
  oA prog 290 [.slice b xs.length c,cmp_v].toArray h G (λr h' G'=>h'=h/\r=.returned (.tuple #[])/\dC kB 3 h (dF xs cmp) b c G'):=by
 refine cZ func290 U ntmps290 U λX hM hX=>qK 5 [] U (aB (nw [] G [] call332 (rP h xs b c G cmp cmp_v hG hcmp hsz) (by simp) U (λG2 hG2=>?_)))
 rw[zG,List.append_nil]
 exact aJ (xk func290 (λa _ w _=>mC U a w) (λw hw=>hw.lower) ⟨hX,U,hG2⟩)
theorem Bg(h:HF)(x:Int)(y:Int)  : Ret prog 118 [I x,I y] h (I (cmp_Compare_int x y)):=by
 refine sT func118 U ntmps118 U λX hM hX hF=>?_
 have hs0:cmp_Compare_int x y=cmp_Compare_int x y:=rfl
 refine qT 7 U (aj call211 (uX h x) U (qO 5 U (aj call211 (uX h y) U (qO 7 U (ae hs0 U (λc1 hs1=>?_) (λc1 hs2=>?_))))))
 .refine qT 5 U (ae hs1 U (λc2 hs3=>?_) (λc2 hs4=>?_))
  .exact sr (an (nretP [I 0] (ci hs3)))
  exact aI (qT 4 U (nretP [I (-1)] (ci hs4)))
 refine qT 6 U (ae hs2 U (λc3 hs7=>?_) (λc3 hs8=>?_))
 .exact sr (an (nretP [I 1] (ci hs7)))
 refine qT 8 U (ae hs8 U (λc4 hs10=>?_) (λc4 hs11=>?_))
 .have c4p:=of_decide_eq_true c4
  exact sr (an (nretP [I (-1)] (ci hs10)))
 have c4p:=of_decide_eq_false c4
 refine qT 8 U (ae hs11 U (λc5 hs13=>?_) (λc5 hs14=>?_))
 .have c5p:=of_decide_eq_true c5
  exact sr (an (nretP [I 1] (ci hs13)))
 have c5p:=of_decide_eq_false c5
 exact aI (qT 4 U (nretP [I 0] (ci hs14)))
theorem rF(h:HF)(a:Int)(jh:Int)(p:pN)(ie:Nn)(p_p:Addr)(p_q:Addr)(hp:pN.ok h p ie)(pp:At h p_p (pN.cells p ie))(ap_z:At h p_q [.pointer (some p_p)])(ha:0<=a/\a<(p.signed.length:Int))(hb:0<=jh/\jh<(p.signed.length:Int)):Ret prog 291 [I a,I jh,.pointer (some p_q)] h (I (iL a jh p)):=by
 refine sT func291 U ntmps291 U λX hM hX hF=>?_
 have hs0:iL a jh p=iL a jh p:=rfl
 refine qT 5 U (eT ([]) mixed kr jn (λeo _=>tf 0 U U (rh ty211 ap_z U) (tf 1 U U (λ_ _ _=>gh U) (qB [2] U (tf 3 U U (rH 2 ty31 pp U U) (tm 4 U ?_))))))
 have ho1:0<=(a:Int)/\(a:Int)<((p.signed).length:Int):=ob
 refine eX 5 (enc:=λy=>[I y]) eo jn ei ej ty3 hp.signed.1 ho1 (dh ho1) U U U U kr (λq1 A1=>tf 6 U U (rh ty3 A1 U) (tf 7 U U (rh ty211 ap_z U) (tf 8 U U (λ_ _ _=>gh U) (qB [9] U (tf 10 U U (rH 2 ty31 pp U U) (tm 11 U ?_))))))
 have ho2:0<=(jh:Int)/\(jh:Int)<((p.signed).length:Int):=ob
 exact eX 12 (enc:=λy=>[I y]) eo jn ei ej ty3 hp.signed.1 ho2 (dh ho2) U U U U kr (λq2 A2=>tf 13 U U (rh ty3 A2 U) (tn 14 U (fo call118 (Bg h (nthI p.signed a) (nthI p.signed jh)) U (⟨jn,(qA [15] U (aQ kr (nretP [I (cmp_Compare_int (nthI p.signed a) (nthI p.signed jh))] (ci hs0))))⟩))))
theorem vl(h:HF)(v0:List Int)(uj:Option Addr)(ui:Nat)(v0_q:Addr)(hv0:SlC kB h uj ui v0)(av0:At h v0_q [.slice uj v0.length ui]):Itr prog (.func (.func 333) #[] (jB [.pointer (some v0_q)])) zb (cN v0) h:=by
 refine sV call333 ?_
 intro yf ya yb C Sp Pn h1 A hle m1 m2 m3 hC hy
 refine jW Oi U ntmps333 U λX hXM hX=>?_
 have hs0:cN v0=[]++cN v0:=rfl
 refine sr (dB ty31 (av0.mono hle) U (qL 3 [] U ?_))
 refine lp2 v0 (λi w=>[(0,.func yf ya yb),(5,.slice uj v0.length ui),(6,I (v0.length:Int)),(7,I (i:Int))]) (λw=>w.2.2) (λw=>w.2.1) (λi w=>C w.1 w.2.2 w.2.1/\vM h1 w.2.2) (λs1 i w=>w.1++(cN.L1 (cN.K1)) s1) ([],A,h1) ((hv0.mono jH hle).1.1) hs0 ⟨hC,lf⟩ ?_ ?_
 .rintro i1 ⟨dn1,A1_,hh1⟩ ft hs1 ⟨hC1_,hl1⟩ e
  refine ew ?_
  have hs2:cN v0=dn1:=hs1.trans (List.append_nil _)
  exact sW [] (A:=A1_) Oi U (List.Sublist.refl _) (.inl (hs2▸hC1_))
 rintro i1 ⟨dn1,A1_,hh1⟩ y1 rz1 hd1 df aS dZ gy hs3 ⟨hC1_,hl1⟩ hx1 ag1 e
 refine sr (tO df U (qO 8 U (aB (iF (λy=>[I y]) ej ty3 (hv0.mono jH (hle.t hl1)).1 aS U U U (λq2 A5=>dB ty3 A5 U (qO 6 U ?_))))))
 have hx2:cN v0=dn1++(y1::(cN.L1 (cN.K1) rz1)):=hs3
 refine aB (ll ([]) A1_ ap (hy dn1 y1 _ _ _ _ hx2 hl1 hC1_ U) U U (λh5 A6 hle4 hC2=>?_) (λh6 A7 hle5 hS2=>?_) (λch2 h7 A8 hle6 hP2 e=>gV (nh [] (A:=A8) Oi (List.sublist_append_right _ _) hP2)))
 .have hs4:cN v0=(dn1++[y1])++((cN.L1 (cN.K1) rz1)):=hx2.trans ap
  exact nl U (qO 5 U (oi i1 U (qO 2 U (ag1 ((dn1++[y1]),A6,h5) hs4 ⟨hC2,(hl1.t hle4)⟩))))
 exact nl U (qO 2 U (ew (m4 [] (A:=A7) Oi U (List.Sublist.refl _) (.inr hS2))))
theorem xp(h:HF)(s:List Int)(sK:Option Addr)(sJ:Nat)(hs:SlC kB h sK sJ s):jv prog 292 [.slice sK s.length sJ] h (λv h'=>∃(rv0:Value),v=rv0/\Itr prog rv0 zb (jo s) h'):=by
 refine sT func292 U ntmps292 U λX hM hX hF=>?_
 have hs0:jo s=jo s:=rfl
 refine sr (cz (λb1=>qO 4 U (aU 0 U hM (λh1 hle1 hb1=>aB (eL U U (an ?_))))))
 have hs1:jo s=(cN s):=hs0
 exact nretH [.func (.func 333) #[] #[Q b1]] ⟨(.func (.func 333) #[] #[Q b1]),congrArg (λr:List Int=>((.func (.func 333) #[] #[Q b1]):Value)) hs1.symm,(by rw[hs1];exact(vl h1 s sK sJ ⟨b1,0,none⟩ (hs.mono jH hle1) (cL hb1)))⟩
theorem tg(h:HF)(p:pN)(ie:Nn)(p_q:Addr)(iw:Int)(hp:pN.ok h p ie)(ap_z:At h p_q (pN.cells p ie))(hsg:p.signed.length<20):jv prog 215 [.pointer (some p_q),I iw] h (λv h'=>∃(rv0:Value),v=rv0/\Itr prog rv0 zb (aM p iw) h'):=by
 refine sT func215 U ntmps215 U λX hM hX hF=>?_
 have hs0:aM p iw=aM p iw:=rfl
 refine sr (cz (λb1=>qL 10 [0] U (aB (fK (gh U) (qL 1 [] U (ju (j:=2) ty31 ap_z U U (qL 3 [] U ?_)))))))
 let z1:Nat×Obj:=(b1,O [.pointer (some p_q)] 211)
 refine lp2 p.signed (λi w=>[(1,I iw),(2,Q b1),(5,.slice w.2.1 w.1.length w.2.2.1),(11,.slice ie.ck p.signed.length ie.cj),(12,I (p.signed.length:Int)),(13,I (i:Int))]) (λ_=>h) (λw=>[z1]++(w.2.2.2)) (λi w=>dC kB 3 h w.1 w.2.1 w.2.2.1 w.2.2.2/\w.1.length<=0+i/\(∀x∈w.1,0<=x/\x<(p.signed.length:Int))) (λs1 i w=>(aM.L1 iw (aM.K1 p)) s1 i w.1) ([],none,0,[]) hp.signed.1.1 hs0 ⟨dC.nil,lo,(λx hx=>(kA hx).elim)⟩ ?_ ?_
 .rintro i1 ⟨fa,wB,wA,M1⟩ ft hs1 ⟨ru,Gh,u1_0⟩ e
  try dsimp only at ru Gh u1_0
  refine qT 3 U (aU 0 U hM (λh1 hle1 hb1=>aB (eL U U (aB (nw ([]) M1 ([]) call290 (rC h1 fa wB wA M1 (λdl ED=>iL dl ED p) (.func (.func 291) #[] #[Q b1]) (ru.mono jH hle1) (λh' dl ED hle Pr Sc=>gM call291 (rF h' dl ED p ie p_q ⟨b1,0,none⟩  ((hp.mono hle1).mono hle) ((ap_z.mono hle1).mono hle) ((cL hb1).mono hle) (u1_0 _ Pr) (u1_0 _ Sc))) (by first|assumption|omega)) ap U (λG1 gr1=>gJ (L':=G1) ap (qO 4 U (oF jH ([]) G1 ([]) ap hM gr1 (λh2 hle2 sl1=>aB (cT call292 (xp _ _ _ _ sl1) (by first|rfl|(simp only[EX,jc];rfl)) (λv1 h3 hle3 hp1=>?_)))))))))))
  obtain⟨_,rfl,mo1⟩:=hp1
  refine an ?_
  have hs2:aM p iw=(jo (dF fa (λdl ED=>iL dl ED p))):=hs1
  exact nretH [v1] ⟨v1,congrArg (λr:List Int=>(v1:Value)) hs2.symm,(by rw[hs2];exact mo1)⟩
 rintro i1 ⟨fa,wB,wA,M1⟩ y1 rz1 hd1 df aS dZ gy hs3 ⟨ru,Gh,u1_0⟩ hx1 ag1 e
 try dsimp only at ru Gh u1_0
 refine sr (tO df U (qO 9 U (aB (iF (λy=>[I y]) ej ty3 hp.signed.1 aS U U U (λq2 A2=>dB ty3 A2 U (qO 8 U (bA 4 [20,21,22,23,24] 20 24 (decide (y1<=iw)) U (λc1 hk1=>?_) (λe=>?_))))))))
 .exact av (qO 3 U (hk1 _ U))
 refine aJ (ae hs3 U (λc2 hs4=>?_) (λc2 hs5=>?_))
 .exact bE (qO 2 U (aB (bB (cells:=[I (i1:Int)]) ej ty3 zc3 U U kr (λb2=>aB (dy aBw ([(b2,O [I (i1:Int)] 3),z1]) ([]) (λG=>[(b2,O [I (i1:Int)] 3),z1]++G) ap (λ_=>ap) ej ty3 zc3 U bytes3 ru U U (eF 0 U (cE (i1:Int) U U)) lo lo (λob1 oc1 G2 gr2=>qO 4 U (oi i1 U (qO 2 U (aX (L':=[z1]++G2) js (ag1 ((fa++[(i1:Int)]),ob1,oc1,G2) hs4 ⟨gr2,lo,(by first|assumption|exact λx hx=>(kH.1 hx).elim (u1_0 x) (λhx=>by rw[jD.1 hx];omega))⟩))))))))))
 exact aI (qT 2 U (oi i1 U (qO 2 U (ag1 (fa,wB,wA,M1) hs5 ⟨ru,lo,(by first|assumption|exact λx hx=>(kH.1 hx).elim (u1_0 x) (λhx=>by rw[jD.1 hx];omega))⟩))))
theorem uq(h:HF)(v0:List Int)(uj:Option Addr)(ui:Nat)(v0_q:Addr)(hv0:SlC kB h uj ui v0)(av0:At h v0_q [.slice uj v0.length ui]):Itr prog (.func (.func 293) #[] (jB [.pointer (some v0_q)])) yr (iT v0) h:=by
 refine sV call293 ?_
 intro yf ya yb C Sp Pn h1 A hle m1 m2 m3 hC hy
 refine jW Oh U ntmps293 U λX hXM hX=>?_
 have hbd:=hv0.1.1
 refine sr (dB ty31 (av0.mono hle) U (qL 1 [] U (jO (v':=I ((v0.length:Int)-1)) U (lk ob) (qO 3 U ?_))))
 refine kY (ι:=Nat×List (Int×Int)×LH×HF) (λi=>[(0,.func yf ya yb),(1,.pointer (some v0_q)),(3,I ((i.1:Int)-1))]) (λi=>i.2.2.2) (λi=>i.2.2.1)
  (λi=>iT v0=i.2.1++backL v0 i.1/\i.1<=v0.length/\C i.2.1 i.2.2.2 i.2.2.1/\vM h1 i.2.2.2) (λi=>i.1) (v0.length,[],A,h1) rd (λw hw=>hw) ⟨rfl,kF _,hC,vQ _⟩ ?_
 rintro⟨m,dn,A1,hh⟩ ⟨hs,hm,hC1,hl1⟩ ag e
 dsimp only at hs hm hC1 hl1
 rcases m with _|m
 .exact el (qT 3 U (fO (decide_eq_false ob) U (qO 3 U (ew (sW [] (A:=A1) Oh U (List.Sublist.refl _) (.inl ((show iT v0=dn from hs.trans (List.append_nil _))▸hC1)))))))
 have e1:(((m+1:Nat):Int)-1)=(m:Int):=by omega
 rw[e1]
 have ho:0<=(m:Int)/\(m:Int)<(v0.length:Int):=by omega
 refine qT 4 U (tO (decide_eq_true ob) U (qO 9 U (dB ty31 (av0.mono (hle.t hl1)) U (av (aB (pd (enc:=λy=>[I y]) ei ej ty3 (hv0.mono jH (hle.t hl1)).1 ho (dh ho) U U U (λq2 A5=>dB ty3 A5 U ?_)))))))
 have hx:iT v0=dn++(((m:Int),nthI v0 (m:Int))::backL v0 m):=hs
 refine aB (ll ([]) A1 U (hy dn ((m:Int),nthI v0 (m:Int)) _ _ _ _ hx hl1 hC1 U) U U (λh5 A6 hle4 hC2=>?_) (λh6 A7 hle5 hS2=>?_) (λch2 h7 A8 hle6 hP2 e=>gV (nh [] (A:=A8) Oh (List.sublist_append_right _ _) hP2)))
 .have hs4:iT v0=(dn++[((m:Int),nthI v0 (m:Int))])++backL v0 m:=hx.trans ap
  exact nl U (qO 6 U (jO (v':=I ((m:Int)-1)) U (lk ob) (an (ag (m,dn++[((m:Int),nthI v0 (m:Int))],A6,h5) _ (Nat.lt_succ_self _) ⟨hs4,by show m<=v0.length;omega,hC2,zF hl1 hle4⟩ rd))))
 exact nl U (qO 2 U (ew (m4 [] (A:=A7) Oh U (List.Sublist.refl _) (.inr hS2))))
theorem vm(h:HF)(s:List Int)(sK:Option Addr)(sJ:Nat)(hs:SlC kB h sK sJ s):jv prog 216 [.slice sK s.length sJ] h (λv h'=>∃(rv0:Value),v=rv0/\Itr prog rv0 yr (jj s) h'):=by
 refine sT func216 U ntmps216 U λX hM hX hF=>?_
 have hs0:jj s=jj s:=rfl
 refine sr (cz (λb1=>qO 4 U (aU 0 U hM (λh1 hle1 hb1=>aB (eL U U (an ?_))))))
 have hs1:jj s=(iT s):=hs0
 exact nretH [.func (.func 293) #[] #[Q b1]] ⟨(.func (.func 293) #[] #[Q b1]),congrArg (λr:(List (Int×Int))=>((.func (.func 293) #[] #[Q b1]):Value)) hs1.symm,(by rw[hs1];exact(uq h1 s sK sJ ⟨b1,0,none⟩ (hs.mono jH hle1) (cL hb1)))⟩
theorem Lo(s:List Int):jo s=s:=by
  show cN.L1 cN.K1 s=s
  induction s with
  |nil=>rfl
  |cons y s ih=>simp only[cN.L1,ih]
theorem FQ(cmp:Int->Int->Int):∀(m i:Nat)(xs:List Int),m=0\/i+m<=xs.length->∀x∈insOut cmp m i xs,x∈xs
  |0,_,_,_,x,hx=>hx
  |m+1,i,xs,h,x,hx=>by
    simp only[insOut]at hx
    exact C7 cmp i xs ob x (FQ cmp m (i+1) _ (by rw[zc];omega) x hx)
theorem Lt(xs:List Int)(cmp:Int->Int->Int):∀x∈dF xs cmp,x∈xs:=FQ _ _ _ _ ob
theorem EZ(p:eS)(aH:Int):∀(s:List Int)(i:Nat)(g:List Int),(∀x∈g,0<=x/\x<(i:Int))->g.length<=i ->
  (∀x∈aM.L1 aH (aM.K1 p) s i g,0<=x/\x<((i+s.length:Nat):Int))/\(aM.L1 aH (aM.K1 p) s i g).length<=i+s.length:=by
 intro s
 induction s with
 |nil=>
  intro i g hg hl
  simp only[aM.L1,aM.K1,Lo,vB,Nat.add_zero,EX]
  exact⟨λx hx=>hg x (Lt _ _ x hx),hl⟩
 |cons y s ih=>
  intro i g hg hl
  have e1:i+(y::s).length=(i+1)+s.length:=by simp only[xA];omega
  rw[e1]
  simp only[aM.L1,Bool.cond_eq_ite]
  split
  .refine ih (i+1) _ (λx hx=>?_) lo
   rcases kH.1 hx with hx|hx
   .have:=hg x hx;omega
   rw[jD.1 hx];omega
  exact ih (i+1) g (λx hx=>by have:=hg x hx;omega) ob
theorem JU(p:eS)(aH:Int):∀x∈aM p aH,0<=x/\x<(p.signed.length:Int):=by
  have:=(EZ p aH p.signed 0 [] (λ_ h=>(kA h).elim) (kF _)).1
  simpa[aM]using this
theorem JT(p:eS)(aH:Int):(aM p aH).length<=p.signed.length:=by
  have:=(EZ p aH p.signed 0 [] (λ_ h=>(kA h).elim) (kF _)).2
  simpa[aM]using this
theorem V3i.mono:Ay V3i:=λ_ _ _ _ _ e=>e
theorem FRi.mono{h h':HF}(hl:h.le h'):∀{m:List (Int×Option Addr×Nat×Nat)}{f:List (Int×List Int)}{G:LH},FRi h m f G->FRi h' m f G
  |[],[],_,e=>e
  |(_,_)::_,(_,_)::_,_,⟨a,b,G1,G2,c,d,t⟩=>⟨a,b,G1,G2,c,d.mono jH hl,FRi.mono hl t⟩
  |[],(_,_)::_,_,x=>x.elim
  |(_,_)::_,[],_,x=>x.elim
theorem FRi.get{h:HF}(k:Int):∀{m:List (Int×Option Addr×Nat×Nat)}{f:List (Int×List Int)}{G:LH},FRi h m f G ->
  ∃b c G1 G2,mgetD m k (none,0,0)=(b,(mgetD f k []).length,c)/\dC kB 3 h (mgetD f k []) b c G1/\G.Perm (G1++G2) /\
   ∀b' c' xs' G1',dC kB 3 h xs' b' c' G1'->∃G',FRi h (mput m k (b',xs'.length,c')) (mput f k xs') G'/\G'.Perm (G1'++G2)
 |[],[],G,e=>by
  subst e
  refine⟨none,0,[],[],U,dC.nil,List.Perm.refl _,λb' c' xs' G1' hG=>⟨G1',⟨U,U,G1',[],by simp,hG,U⟩,by simp⟩⟩
 |(k0,x)::m,(k',xs)::f,G,⟨e,hn,G1,G2,hG,hg,t⟩=>by
  subst e hG
  by_cases hk:k=k0
  .subst hk
   refine⟨x.1,x.2.2,G1,G2,?_,?_,List.Perm.refl _,λb' c' xs' G1' hG'=>⟨G1'++G2,?_,List.Perm.refl _⟩⟩
   .simp[mgetD,mget?,←hn]
   .simpa[mgetD,mget?]using hg
   simp only[mput,if_true]
   exact⟨U,U,G1',G2,U,hG',t⟩
  obtain⟨b,c,H1,H2,h1,h2,h3,h4⟩:=FRi.get k t
  refine⟨b,c,H1,G1++H2,?_,?_,?_,λb' c' xs' G1' hG'=>?_⟩
  .simpa[mgetD,mget?,hk]using h1
  .simpa[mgetD,mget?,hk]using h2
  .refine(List.Perm.append_left G1 h3).trans ?_
   rw[←kD,←kD];exact List.Perm.append_right H2 vJ
  obtain⟨G',g1,g2⟩:=h4 b' c' xs' G1' hG'
  refine⟨G1++G',?_,?_⟩
  .simp only[mput,hk,if_false]
   exact⟨U,hn,G1,G',U,hg,g1⟩
  refine(List.Perm.append_left G1 g2).trans ?_
  rw[←kD,←kD];exact List.Perm.append_right H2 vJ
 |[],(_,_)::_,_,x=>x.elim
 |(_,_)::_,[],_,x=>x.elim
theorem FRi.keys{h:HF}:∀{m:List (Int×Option Addr×Nat×Nat)}{f:List (Int×List Int)}{G:LH},FRi h m f G->m.map (·.1)=f.map (·.1)
  |[],[],_,_=>rfl
  |(_,_)::_,(_,_)::_,_,⟨a,_,_,_,_,_,t⟩=>by simp[a,FRi.keys t]
  |[],(_,_)::_,_,x=>x.elim
  |(_,_)::_,[],_,x=>x.elim
theorem FRi.mem{h:HF}:∀{m:List (Int×Option Addr×Nat×Nat)}{f:List (Int×List Int)}{G:LH},FRi h m f G->(m.map (·.1)).Nodup->∀p∈m,p.2.2.1=(mgetD f p.1 []).length/\∃G1,(∀q∈G1,q∈G)/\dC kB 3 h (mgetD f p.1 []) p.2.1 p.2.2.2 G1
 |[],[],_,_,_,_,hp=>(kA hp).elim
 |(k,x)::m,(k',xs)::f,G,⟨e,hn,G1,G2,hG,hg,t⟩,hnd,p,hp=>by
  subst e hG
  rw[xK,kR]at hnd
  rcases qC.1 hp with rfl|hp
  .exact⟨by simp[mgetD,mget?,hn],G1,λq hq=>List.mem_append_left _ hq,by simpa[mgetD,mget?]using hg⟩
  have hne:¬p.1=k:=λe=>hnd.1 (by have h9:=kM (f:=(·.1)) hp;rw[e]at h9;exact h9)
  obtain⟨h1,H,h2,h3⟩:=FRi.mem t hnd.2 p hp
  exact⟨by simpa[mgetD,mget?,hne]using h1,H,λq hq=>List.mem_append_right _ (h2 q hq),by simpa[mgetD,mget?,hne]using h3⟩
 |[],(_,_)::_,_,x,_,_,_=>x.elim
 |(_,_)::_,[],_,x,_,_,_=>x.elim
theorem H7{α : Type}:∀{f:List (Int×α)}(z:α),(f.map (·.1)).Nodup->f=f.map λp=>(p.1,mgetD f p.1 z)
 |[],_,_=>rfl
 |(k,x)::f,z,hn=>by
  rw[xK,kR]at hn
  rw[xK]
  congr 1
  .simp[mgetD,mget?]
  have ih:=H7 z hn.2
  conv=>lhs;rw[ih]
  apply List.map_congr_left
  intro p hp
  have hne:¬p.1=k:=λe=>hn.1 (by have h9:=kM (f:=(·.1)) hp;rw[e]at h9;exact h9)
  simp[mgetD,mget?,hne]
theorem It{h:HF}{h2:HF}(g:Int->List Int):∀{es:List MapEntry}{m:List (Int×Option Addr×Nat×Nat)},pM (kC .i64) V3i h es m ->
    (∀p∈m,p.2.2.1=(g p.1).length/\SlC kB h2 p.2.1 p.2.2.2 (g p.1))->pM (kC .i64) (VSl kB) h2 es (m.map λp=>(p.1,g p.1))
  |[],[],_,_=>trivial
  |e::es,(k,x)::m,⟨a,b,c⟩,hg=>by
    obtain⟨h1,h3⟩:=hg (k,x) (zB ..)
    refine⟨a,⟨x.1,x.2.2,?_,h3⟩,It g c λp hp=>hg p (vA _ hp)⟩
    rw[show e.val=.slice x.1 x.2.1 x.2.2 from b,h1]
  |[],_::_,x,_=>x.elim
  |_::_,[],x,_=>x.elim
theorem FRi.frozen{h h2:HF}{o:Obj}{m:List (Int×Option Addr×Nat×Nat)}{f:List (Int×List Int)}{G:LH}(hm:j8 (kC .i64) V3i h o m)(hf:FRi h m f G)(hl:h.le h2)(hG:∀p∈G,h2 p.1=some p.2):
  j8 (kC .i64) (VSl kB) h2 o f:=by
 have hnd:=hm.nodup
 have hk:=hf.keys
 obtain⟨m',hp,hn,es,c,rfl,hE,h1,h3⟩:=hm
 have hmem:=hf.mem hnd
 have hfe:=H7 (f:=f) [] (hk▸hnd)
 have hfm:f=m.map λp=>(p.1,mgetD f p.1 []):=by
  have e1:(f.map λp=>(p.1,mgetD f p.1 []))=(f.map (·.1)).map λk=>(k,mgetD f k []):=by rw[List.map_map];rfl
  have e2:(m.map λp=>(p.1,mgetD f p.1 []))=(m.map (·.1)).map λk=>(k,mgetD f k []):=by rw[List.map_map];rfl
  rw[e2,hk,←e1];exact hfe
 refine⟨m'.map λp=>(p.1,mgetD f p.1 []),?_,?_,es,c,U,It (λk=>mgetD f k []) hE λp hp'=>?_,h1,h3⟩
 .have hpm:=hp.map λp=>(p.1,mgetD f p.1 ([]:List Int))
  rw[←hfm]at hpm;exact hpm
 .rw[List.map_map];exact hn
 obtain⟨h5,G1,h6,h7⟩:=hmem p (hp.mem_iff.1 hp')
 exact⟨h5,h7.frozen jH hl λq hq=>hG q (h6 q hq)⟩
section
variable {b0:Frame} {n:Nat} {ops:Array Oper} {F:List Frame->(Machine->Prop)->Prop} {ds:List Deferred} {X:Cx} {e:Env} {h h':HF} {L:LH} {l:List Document} {lb:Option Addr} {lc_z:Nat} {sg:List Int} {sb:Option Addr} {sc:Nat} {at_:Int} {q4:Addr} {a b c d f g t:Bool} {ty:TypeId} {pos:String} {af:Array Edge}
theorem Sa(hl:SlC xS h lb lc_z l)(hI:PlI h l lb lc_z sg sb sc at_ q4 false b c d f g t e h' L):
    Stp prog b0 n ops F ds X ⟨some 17,.call ⟨.value (.func 150),#[.tmp 16],#[27]⟩,ty,pos,af,none⟩ e h' L (λe2 h2 L2=>Jst h [] h2 L2/\PlI h l lb lc_z sg sb sc at_ q4 true b c d f g t e2 h2 L2):=by
  obtain⟨hv,hle,⟨k2,k4,k16,k18,k20,k23⟩,sq,b5,b8,b9,b12,b11,x1,x5,x8,x9,x12,x10,x11,hL⟩:=hI
  cases g<;>cases t<;>simp at hv
  refine cT call150 (pX h' l lb lc_z (hl.mono vH hle)) (congrArg (λx=>[x]) k16) (λv h2 hl2 hp=>?_)
  obtain⟨r2,rfl,ok2⟩:=hp
  exact⟨⟨zF hle hl2,λ_ hp=>(kA hp).elim⟩,U,zF hle hl2,⟨k2,k4,k16,k18,k20,k23⟩,r2,b5,b8,b9,b12,b11,λ_=>⟨U,ok2⟩,x5,x8,x9,x12,λh=>(by cases h),λh=>(by cases h),hL⟩
theorem R9(hn:l.length<20)(hI:PlI h l lb lc_z sg sb sc at_ q4 a false c d f g t e h' L):
    Stp prog b0 n ops F ds X ⟨some 21,.makeSlice 57 (.tmp 20) (.tmp 20),ty,pos,af,none⟩ e h' L (λe2 h2 L2=>Jst h [] h2 L2/\PlI h l lb lc_z sg sb sc at_ q4 a true c d f g t e2 h2 L2):=by
  obtain⟨hv,hle,⟨k2,k4,k16,k18,k20,k23⟩,sq,b5,b8,b9,b12,b11,x1,x5,x8,x9,x12,x10,x11,hL⟩:=hI
  cases g<;>cases t<;>simp at hv
  refine HQ uE zc4 ty4 bytes4 k20 k20 ob ob (λbk=>?_)
  exact⟨⟨hle,λ_ hp=>(kA hp).elim⟩,U,hle,⟨k2,k4,k16,k18,k20,k23⟩,sq,bk,b8,b9,b12,b11,x1,λ_=>U,x8,x9,x12,λh=>(by cases h),λh=>(by cases h),
    (List.Perm.cons _ hL).trans (pmid (pmid (pmid (pmid (List.Perm.refl _)))))⟩
theorem R8(hn:l.length<20)(hI:PlI h l lb lc_z sg sb sc at_ q4 a b false d f g t e h' L):
    Stp prog b0 n ops F ds X ⟨some 24,.makeSlice 31 (.tmp 23) (.tmp 23),ty,pos,af,none⟩ e h' L (λe2 h2 L2=>Jst h [] h2 L2/\PlI h l lb lc_z sg sb sc at_ q4 a b true d f g t e2 h2 L2):=by
  obtain⟨hv,hle,⟨k2,k4,k16,k18,k20,k23⟩,sq,b5,b8,b9,b12,b11,x1,x5,x8,x9,x12,x10,x11,hL⟩:=hI
  cases g<;>cases t<;>simp at hv
  refine HQ ej zc3 ty3 bytes3 k23 k23 ob ob (λbk=>?_)
  exact⟨⟨hle,λ_ hp=>(kA hp).elim⟩,U,hle,⟨k2,k4,k16,k18,k20,k23⟩,sq,b5,bk,b9,b12,b11,x1,x5,λ_=>U,x9,x12,λh=>(by cases h),λh=>(by cases h),
    (List.Perm.cons _ hL).trans (pmid (pmid (pmid (List.Perm.refl _))))⟩
theorem R7(hI:PlI h l lb lc_z sg sb sc at_ q4 a b c false f g t e h' L):
    Stp prog b0 n ops F ds X ⟨some 25,.makeMap 236 none,ty,pos,af,none⟩ e h' L (λe2 h2 L2=>Jst h [] h2 L2/\PlI h l lb lc_z sg sb sc at_ q4 a b c true f g t e2 h2 L2):=by
  obtain⟨hv,hle,⟨k2,k4,k16,k18,k20,k23⟩,sq,b5,b8,b9,b12,b11,x1,x5,x8,x9,x12,x10,x11,hL⟩:=hI
  cases g<;>cases t<;>simp at hv
  refine oB (λbk=>?_)
  exact⟨⟨hle,λ_ hp=>(kA hp).elim⟩,U,hle,⟨k2,k4,k16,k18,k20,k23⟩,sq,b5,b8,bk,b12,b11,x1,x5,x8,λ_=>U,x12,λh=>(by cases h),λh=>(by cases h),
    (List.Perm.cons _ hL).trans (pmid (pmid (List.Perm.refl _)))⟩
theorem RP(hI:PlI h l lb lc_z sg sb sc at_ q4 a b c d false g t e h' L):
    Stp prog b0 n ops F ds X ⟨some 7,.alloc 211,ty,pos,af,none⟩ e h' L (λe2 h2 L2=>Jst h [] h2 L2/\PlI h l lb lc_z sg sb sc at_ q4 a b c d true g t e2 h2 L2):=by
  obtain⟨hv,hle,⟨k2,k4,k16,k18,k20,k23⟩,sq,b5,b8,b9,b12,b11,x1,x5,x8,x9,x12,x10,x11,hL⟩:=hI
  refine BI zc211 (λbk=>?_)
  exact⟨⟨hle,λ_ hp=>(kA hp).elim⟩,hv,hle,⟨k2,k4,k16,k18,k20,k23⟩,sq,b5,b8,b9,bk,b11,x1,x5,x8,x9,λ_=>U,x10,x11,
    (List.Perm.cons _ hL).trans (pmid (List.Perm.refl _))⟩
theorem RR(ha:(a&&b&&c&&d)=true)(hI:PlI h l lb lc_z sg sb sc at_ q4 a b c d f false t e h' L):
    Stp prog b0 n ops F ds X ⟨some 26,.build 238 #[(0,.tmp 17),(1,.tmp 18),(2,.tmp 21),(3,.tmp 24),(4,.tmp 25)],ty,pos,af,none⟩ e h' L (λe2 h2 L2=>Jst h [] h2 L2/\PlI h l lb lc_z sg sb sc at_ q4 a b c d f true t e2 h2 L2):=by
  obtain⟨hv,hle,⟨k2,k4,k16,k18,k20,k23⟩,sq,b5,b8,b9,b12,b11,x1,x5,x8,x9,x12,x10,x11,hL⟩:=hI
  cases a<;>cases b<;>cases c<;>cases d<;>simp at ha
  cases t<;>simp at hv
  obtain⟨x1,o1⟩:=x1 rfl
  replace x5:=x5 rfl
  replace x8:=x8 rfl
  replace x9:=x9 rfl
  refine Iy [(17,_),(18,_),(21,_),(24,_),(25,_)] ⟨x1,k18,x5,x8,x9,trivial⟩ ?_
  have hc:eS.cells (playP l sg) (playR l.length sq sb sc b5 b8 b9)=[.slice sq.Gx (aA l).docs.length sq.Gv,.map (some sq.Ld),.slice sb sg.length sc,.slice (some ⟨b5,0,none⟩) l.length l.length,.slice (some ⟨b8,0,none⟩) l.length l.length,.map (some b9)]:=by simp[eS.cells,playP,playR]
  exact fV (cells:=[.slice sq.Gx (aA l).docs.length sq.Gv,.map (some sq.Ld),.slice sb sg.length sc,.slice (some ⟨b5,0,none⟩) l.length l.length,.slice (some ⟨b8,0,none⟩) l.length l.length,.map (some b9)]) (places:=[(0,2),(2,1),(3,1),(4,1),(5,1)]) underlying238 zc238 kr kr (⟨⟨hle,λ_ hp=>(kA hp).elim⟩,U,hle,⟨k2,k4,k16,U,k20,k23⟩,sq,b5,b8,b9,b12,b11,λ_=>⟨U,o1⟩,λ_=>U,λ_=>U,λ_=>U,x12,λ_=>(congrArg (λz:List Value=>Value.agg z.toArray) hc).symm,λh=>(by cases h),hL⟩)
theorem RQ(hI:PlI h l lb lc_z sg sb sc at_ q4 a b c d f true false e h' L):
    Stp prog b0 n ops F ds X ⟨some 27,.box 238 (.tmp 26),ty,pos,af,none⟩ e h' L (λe2 h2 L2=>Jst h [] h2 L2/\PlI h l lb lc_z sg sb sc at_ q4 a b c d f true true e2 h2 L2):=by
  obtain⟨hv,hle,⟨k2,k4,k16,k18,k20,k23⟩,sq,b5,b8,b9,b12,b11,x1,x5,x8,x9,x12,x10,x11,hL⟩:=hI
  replace x10:=x10 rfl
  refine Iy [(26,_)] ⟨x10,trivial⟩ (RN (λbk=>?_))
  exact⟨⟨hle,λ_ hp=>(kA hp).elim⟩,hv,hle,⟨k2,k4,k16,k18,k20,k23⟩,sq,b5,b8,b9,b12,bk,x1,x5,x8,x9,x12,λ_=>U,λ_=>U,List.Perm.cons _ hL⟩
end
theorem Qq{i:Nat}{a b c d f g t:Bool}(h:i∈plN a b c d f g t):(i=1/\a=false)\/(i=5/\b=false)\/(i=8/\c=false)\/(i=9/\d=false)\/(i=10/\(a&&b&&c&&d)=true/\g=false)\/(i=11/\g=true/\t=false)\/(i=12/\f=false)\/(a=true/\b=true/\c=true/\d=true/\f=true/\g=true/\t=true):=by
 simp only[plN,kH]at h
 rcases h with h|h|h|h|h|h|h|h
 .cases a with
  |true=>simp at h
  |false=>simp at h;exact .inl ⟨h,rfl⟩
 .cases b with
  |true=>simp at h
  |false=>simp at h;exact .inr (.inl ⟨h,rfl⟩)
 .cases c with
  |true=>simp at h
  |false=>simp at h;exact .inr (.inr (.inl ⟨h,rfl⟩))
 .cases d with
  |true=>simp at h
  |false=>simp at h;exact .inr (.inr (.inr (.inl ⟨h,rfl⟩)))
 .cases g with
  |true=>simp at h
  |false=>
   cases hh:(a&&b&&c&&d)with
   |false=>rw[hh]at h;simp at h
   |true=>rw[hh]at h;simp at h;exact .inr (.inr (.inr (.inr (.inl ⟨h,rfl,rfl⟩))))
 .cases g with
  |false=>simp at h
  |true=>
   cases t with
   |true=>simp at h
   |false=>simp at h;exact .inr (.inr (.inr (.inr (.inr (.inl ⟨h,rfl,rfl⟩)))))
 .cases f with
  |true=>simp at h
  |false=>simp at h;exact .inr (.inr (.inr (.inr (.inr (.inr (.inl ⟨h,rfl⟩))))))
 cases a<;>cases b<;>cases c<;>cases d<;>cases f<;>cases g<;>cases t<;>simp at h
 exact .inr (.inr (.inr (.inr (.inr (.inr (.inr ⟨U,U,U,U,U,U,U⟩))))))
theorem Pd{a b c d f g t:Bool}(h:plM a b c d f g t=0):a=true/\b=true/\c=true/\d=true/\f=true/\g=true/\t=true:=by
  cases a<;>cases b<;>cases c<;>cases d<;>cases f<;>cases g<;>cases t<;>simp[plM]at h<;>simp
structure wG(h:HF)(n b5 b8 br:Nat)(P:eS)(om:Obj)(m3:List (Int×Option Addr×Nat×Nat))(Gf:LH):Prop where
  done:P.done.length=n
  lacks:P.lacks.length=n
  map:j8 (kC .i64) V3i h om m3
  rev:FRi h m3 P.revoked Gf
theorem wG.mono{h h':HF}{n b5 b8 br:Nat}{P:eS}{om:Obj}{m3:List (Int×Option Addr×Nat×Nat)}{Gf:LH}(o:wG h n b5 b8 br P om m3 Gf)(hl:h.le h'):wG h' n b5 b8 br P om m3 Gf:=
  ⟨o.done,o.lacks,o.map.mono V3i.mono hl,o.rev.mono hl⟩
theorem D1(h:HF):∀xs:List Bool,bI aA4 h (xs.map aAG) xs
  |[]=>rfl
  |x::xs=>⟨[.bool x],xs.map aAG,rfl,rfl,rfl,D1 h xs⟩
theorem DI(h:HF):∀xs:List Int,bI kB h (xs.map (kC .i64)) xs
  |[]=>rfl
  |x::xs=>⟨[I x],xs.map (kC .i64),rfl,rfl,rfl,DI h xs⟩
theorem wG.lent{h h1:HF}{n b5 b8 br:Nat}{P:eS}{om:Obj}{m3:List (Int×Option Addr×Nat×Nat)}{Gf:LH}{sq:n8}{sb:Option Addr}{sc:Nat}(o:wG h n b5 b8 br P om m3 Gf)(hn:n<20)(hs:hY.ok h P.shelf sq)(hg:SlC kB h sb sc P.signed)(hl:h.le h1)(hL:∀p∈plB b5 b8 br P om Gf,h1 p.1=some p.2):eS.ok h1 P (playR n sq sb sc b5 b8 br):=by
  have h5:=hL (b5,.cells (P.done.map aAG).toArray 4 (0,0)) (by simp[plB])
  have h8:=hL (b8,.cells (P.lacks.map (kC .i64)).toArray 3 (0,0)) (by simp[plB])
  have hr:=hL (br,om) (by simp[plB])
  have hd:=o.done
  have hk:=o.lacks
  exact⟨hs.mono hl,hg.mono jH hl,bI.slB0 (D1 h1 _) h5 ob (by rw[hd];exact kF _),bI.slB0 (DI h1 _) h8 ob (by rw[hk];exact kF _),
    ⟨om,hr,FRi.frozen o.map o.rev hl (λp hp=>hL p (by simp[plB,hp]))⟩⟩
theorem Hd(l:List Document):(aA l).docs=l:=by
  have:∀(s:List Document)(i:Nat)(g:List (Int×Int)),(aA.L1 (aA.K1 l) s i g).docs=l:=by
    intro s
    induction s with
    |nil=>intro i g;rfl
    |cons y s ih=>intro i g;exact ih _ _
  exact this _ _ _
theorem Ki(l:List Document)(hl:0<l.length)(k:Int):0<=mgetD (aA l).at_ k 0/\mgetD (aA l).at_ k 0<(l.length:Int):=by
  have key:∀(s:List Document)(i:Nat)(g:List (Int×Int)),i+s.length=l.length->(∀p∈g,0<=p.2/\p.2<(l.length:Int))->∀p∈(aA.L1 (aA.K1 l) s i g).at_,0<=p.2/\p.2<(l.length:Int):=by
    intro s
    induction s with
    |nil=>intro i g _ hg;exact hg
    |cons y s ih=>
      intro i g hi hg
      simp only[xA]at hi
      exact ih (i+1) _ ob (yj (P:=λx:Int=>0<=x/\x<(l.length:Int)) _ hg ob)
  exact yZ (P:=λx:Int=>0<=x/\x<(l.length:Int)) k (key l 0 [] (by simp) (λ_ h=>(kA h).elim)) ob
theorem AD{α : Type}(f:α->Value)(xs:List α)(k:Nat)(y:α):splice (xs.map f) (k*1) [f y]=(xs.set k y).map f:=by
  simp[splice,mB,List.map_set]
theorem Fy{l:List Document}{sg:List Int}{P:eS}{r:tr}(h1:P.shelf=aA l)(h2:P.signed=sg)(h3:P.done.length=l.length)(h4:P.lacks.length=l.length):eS.cells P r=eS.cells (playP l sg) r:=by
  simp[eS.cells,playP,h1,h2,h3,h4]
theorem ye(sg:List Int)(i:Int)(no:Int)(P:eS):(playLack sg i P no).shelf=P.shelf/\(playLack sg i P no).signed=P.signed/\(playLack sg i P no).done=P.done/\(playLack sg i P no).lacks.length=P.lacks.length/\(playLack sg i P no).revoked=P.revoked:=by
  unfold playLack
  cases(cg P (mgetD P.shelf.at_ no 0) (nthI sg i)).1 != 0<;>simp
theorem BL{d:Document}{Q_z:eS}{y:Int}{P:List (Int×List Int)}{i:Nat}(h:∀k,(mgetD Q_z.revoked k []).length<=(mgetD P k []).length+i):∀k,(mgetD (playRevoke d Q_z y).revoked k []).length<=(mgetD P k []).length+(i+1):=λk=>by
 show(mgetD (mput Q_z.revoked y (mgetD Q_z.revoked y []++[d.No])) k []).length<=_
 rw[AR]
 split
 .next hk=>subst hk;have:=h k;simp only[jA,xA,vB];omega
 have:=h k;omega
theorem rK(h:HF)(l:List Document)(eu:Option Addr)(et:Nat)(signed:List Int)(ck:Option Addr)(cj:Nat)(aH:Int)(hl:SlC xS h eu et l)(hsigned:SlC kB h ck cj signed)(hck:aV l=0)(hsg:signed.length=l.length)(hln:l.length<20):
  jv prog 126 [.slice eu l.length et,.slice ck signed.length cj,I aH] h (λv h'=>∃(rq0:Addr)(rr0:tr),v=.pointer (some rq0)/\eS.ok h' (cf l signed aH) rr0/\At h' rq0 (eS.cells (cf l signed aH) rr0)):=by
 refine cZ func126 U ntmps126 U λX hM hX=>?_
 refine sr (cz (λb4=>an ?_))
 refine eW 0 U hM (λh1 l1 f4=>?_)
 have a4:=cL f4
 show TT _ _ _ _ _ _ _ _ h1 []
 refine el (eT [] mixed kr jn (λhsep _=>?_))
 refine tm 0 U (tf 2 U U (rh ty31 a4 U) (tm 3 U (tf 4 U U (λ_ _ _=>Ka oq U) (tm 6 U (tf 7 U U (λ_ _ _=>Ka oq U) ?_)))))
 refine Rd (σ:=Bool×Bool×Bool×Bool×Bool×Bool×Bool) 1 (λs e2 h2 L2=>PlI h1 l eu et signed ck cj aH ⟨b4,0,none⟩ s.1 s.2.1 s.2.2.1 s.2.2.2.1 s.2.2.2.2.1 s.2.2.2.2.2.1 s.2.2.2.2.2.2 e2 h2 L2)
  (λs=>plM s.1 s.2.1 s.2.2.1 s.2.2.2.1 s.2.2.2.2.1 s.2.2.2.2.2.1 s.2.2.2.2.2.2) (λs=>plD s.1 s.2.1 s.2.2.1 s.2.2.2.1 s.2.2.2.2.1 s.2.2.2.2.2.1 s.2.2.2.2.2.2) ?_ ?_ 7 (false,false,false,false,false,false,false) _ _ _ rfl
  ⟨rfl,vQ _,⟨rfl,rfl,rfl,rfl,rfl,rfl⟩,⟨none,0,0⟩,0,0,0,0,0,λh=>(by cases h),λh=>(by cases h),λh=>(by cases h),λh=>(by cases h),λh=>(by cases h),λh=>(by cases h),λh=>(by cases h),List.Perm.refl _⟩
 .rintro⟨a,b,c,d,f,g,t⟩ e2 h2 L2 hI hμ
  obtain⟨e1,e2',e3,e4,e5,e6,e7⟩:=Pd hμ
  dsimp only at e1 e2' e3 e4 e5 e6 e7
  subst e1 e2' e3 e4 e5 e6 e7
  obtain⟨_,hle,⟨k2,k4,_,_,_,_⟩,sr0,b5,b8,br,b12,b11,x1,_,_,_,x12,_,x11,hL⟩:=hI
  obtain⟨_,oks⟩:=x1 rfl
  have k7:=x12 rfl
  have k27:=x11 rfl
  clear x1 x12 x11
  dsimp only at k7 k27 oks hL k2 k4
  have J2:∀{L:LH},Jst h1 [] h2 L:=⟨hle,λ_ hp=>(kA hp).elim⟩
  refine tn 13 U (E3 hL (Iy [(7,Q b12),(27,Q b11)] ⟨k7,k27,trivial⟩ (lm 1 (off:=0) (vs:=[Q b11]) ty211 U U U U (by rfl) U ⟨J2,aQ kr (Rb [(2,I aH),(4,Q b4),(7,Q b12)] ⟨k2,k4,U,trivial⟩ (eW 1 U hM (λh3 l3 f12=>eW 0 U hM (λh4 l4 f11=>?_))))⟩)))
  have A7:=(cL f12).mono l4
  have A11:=cL f11
  have l24:h2.le h4:=zF l3 l4
  have l04:h.le h4:=zF l1 (zF hle l24)
  replace oks:=oks.mono l24
  replace a4:=a4.mono (zF hle l24)
  clear f12 f11 l3 l4 J2 hL k2 k4 k7 k27
  refine mb (L':=plB b5 b8 br (playP l signed) (.map #[] 0) []) (by
   have h9:plB b5 b8 br (playP l signed) (.map #[] 0) []=[(b5,.cells (List.replicate l.length (.bool false)).toArray 4 (0,0)),(b8,.cells (List.replicate l.length (I 0)).toArray 3 (0,0)),(br,.map #[] 0)]:=by simp[plB,playP,List.map_replicate]
   rw[h9]
   exact List.reverse_perm [(b5,O (List.replicate l.length (.bool false)) 4),(b8,.cells (List.replicate l.length (I 0)).toArray 3 (0,0)),(br,.map #[] 0)]) ?_
  have hl4:=hl.mono vH l04
  have hs4:=hsigned.mono jH l04
  refine qT 3 U (dB ty211 A7 U (av (aB (cT call215 (tg h4 (playP l signed) (playR l.length sr0 ck cj b5 b8 br) ⟨b11,0,none⟩ aH ⟨hs4⟩ A11 (by show signed.length<20;omega)) U (λv5 h5 l5 hp=>?_)))))
  obtain⟨rv,rfl,hit⟩:=hp
  refine qO 2 U (ew ?_)
  have hord:=JU (playP l signed) aH
  have hordl:=JT (playP l signed) aH
  have hsl:(playP l signed).signed.length=l.length:=hsg
  replace a4:=a4.mono l5
  replace A7:=A7.mono l5
  replace A11:=A11.mono l5
  replace hl4:=hl4.mono vH l5
  replace hs4:=hs4.mono jH l5
  replace oks:=oks.mono l5
  have hdr:=Ig hck
  refine kp (it:=v5) (xs:=aM (playP l signed) aH) (ι:=eS×Obj×List (Int×Option Addr×Nat×Nat)×LH×HF) [] (λi=>i.2.2.2.2) (λi=>plB b5 b8 br i.1 i.2.1 i.2.2.2.1)
   (λrest i=>rest.foldl playStep i.1=cf l signed aH/\i.1.shelf=aA l/\i.1.signed=signed/\wG i.2.2.2.2 l.length b5 b8 br i.1 i.2.1 i.2.2.1 i.2.2.2.1/\h5.le i.2.2.2.2/\(∀x∈rest,0<=x/\x<(l.length:Int))/\(∀k,(mgetD i.1.revoked k []).length+16*rest.length<=320))
   (λ_=>False) (λ_=>False) 0 (λ_ _ _=>False) (playP l signed,.map #[] 0,[],[],h5) func126 rfl hit rfl DH (λ_ _ _ _ _ hq=>hq) rfl rfl
   ⟨rfl,rfl,rfl,⟨by simp[playP],by simp[playP],j8.nil,rfl⟩,vQ _,λx hx=>hsl▸hord x hx,λk=>by show 0+16*_<=320;omega⟩ ?_ ?_ (λ_ _ _ hF=>hF.elim) (λ_ _ _ hF=>hF.elim) (λ_ _ _ _ hF=>hF.elim)
  .rintro R5 r1 lp1 x rest vs1 ⟨P,om,m3,Gf,hh⟩ h7 X' FR ⟨hfold,hsh,hsgd,hown,h5h,hin,hcnt⟩ h57 hh7 hv hX' hXM hlp nx rt ex pn
   dsimp only at hfold hsh hsgd hown h5h hin hcnt hh7
   obtain rfl:=hv
   have hPl:P.signed.length=l.length:=by rw[hsgd];exact hsg
   have hD:=Hd l
   have hx0:=hin x (zB ..)
   have hx:0<=x/\x<((aA l).docs.length:Int):=by rw[hD];exact hx0
   have hxn:x.toNat<l.length:=by omega
   replace hown:=hown.mono hh7
   have oks7:=oks.mono h57
   have A7':=A7.mono h57
   have A11':=A11.mono h57
   have a4':=a4.mono h57
   have hs7:=hs4.mono jH h57
   have hpd:=hown.done
   have hpl:=hown.lacks
   clear hh7
   refine bE (aT zc3 (λbi=>cM 0 ty3 U U U U U U (aJ ?_)))
   let zi:Nat×Obj:=(bi,O [I x] 3)
   let zl:Nat×Obj:=(R5,.loop { lp1 with state:=.busy })
   let zr:Nat×Obj:=(r1,.deferred (some []))
   refine kc 1 U hlp (mA (cv (L':=[zi,zl,zr]++plB b5 b8 br P om Gf) (show[zi,zl,zr]++(plB b5 b8 br P om Gf++markB [])=_ from by simp[markB]) (el (eT [zi] mixed kr jn (λhs4 _=>?_)))))
   refine tf 0 U U (rh ty211 A7' U) (tf 1 U U (λ_ _ _=>gh U) (qB [2,3] U (tf 4 U U (rh ty27 A11' U) (tf 5 U U (rj 0 ty3 U U U) (j9 6 hs4 jn oq ty51 oks7.docs.1 hx (dh hx) U U U U kr (λq1 cs1 B1 ln1 rr1=>?_))))))
   obtain⟨dr,rfl,okd⟩:=rr1
   refine tf 7 U U (λ_ _ hj=>mg ty51 (B1.mono hj.1) U U) (tn 8 U (BI zc51 (λbd=>⟨jn,(tn 9 U (sI 0 ty51 U U U U U U ⟨jn,aQ kr ?_⟩))⟩)))
   generalize hdd:nthI (aA l).docs x=d at okd B1
   let zd:Nat×Obj:=(bd,O (jT d dr) 51)
   have hdP:nthI P.shelf.docs x=d:=by rw[hsh];exact hdd
   have hdl:d∈l:=by have h9:=pq hx;rw[hdd,hD]at h9;exact h9
   have hgd:=hdr d hdl
   show TT _ _ _ _ _ _ _ _ h7 ([zd,zi,zl,zr]++plB b5 b8 br P om Gf)
   refine el (eT [zd,zi] mixed kr jn (λhs5 _=>?_))
   refine tf 0 U U (rh ty211 A7' U) (tf 1 U U (λ_ _ _=>gh U) (qB [2] U (tf 3 U U (rH 4 ty31 A11' U U) (tf 4 U U (rj 1 ty3 U U U) (tf 5 U U (λ_ _ _=>oJ (R:=kB) (xs:=P.lacks) (bk:=b8) (z:=x) ej ty3 U ob U (by simp[playP,hpl]) U) (tn 6 U (lm 5 (off:=x.toNat*1) (vs:=[I (-1)]) ty3 U U U U (Nat.ble_eq_true_of_le (by simp only[List.length_map,xA,vB];omega)) U ⟨jn,aQ kr (cv (L':=[zd,zi,zl,zr]++plB b5 b8 br { P with lacks:=P.lacks.set x.toNat (-1) } om Gf) (by rw[AD (kC .i64)];rfl) ?_)⟩)))))))
   have own1:wG h7 l.length b5 b8 br { P with lacks:=P.lacks.set x.toNat (-1) } om m3 Gf:=⟨hpd,by simpa using hpl,hown.map,hown.rev⟩
   refine qT 3 U (kl I8 U (oo 0 ty31 U U U (aB (cT call216 (vm h7 d.Needs _ _ okd.Needs) U (λv8 h8 l8 hp8=>?_)))))
   obtain⟨rv8,rfl,hit8⟩:=hp8
   refine qO 2 U ?_
   refine Ns (it:=v8) (xs:=jj d.Needs) 2 U (λdone h' L'=>h8.le h'/\wG h' l.length b5 b8 br (done.foldl (λq(z:Int×Int)=>playLack P.signed x q z.2) { P with lacks:=P.lacks.set x.toNat (-1) }) om m3 Gf/\L'=[zd,zi,zl,zr]++plB b5 b8 br (done.foldl (λq(z:Int×Int)=>playLack P.signed x q z.2) { P with lacks:=P.lacks.set x.toNat (-1) }) om Gf)
    rfl hit8 rfl Eh (λ_ _ _ _ hl⟨a,b,c⟩=>⟨zF a hl,b.mono hl,c⟩) ⟨vQ _,own1.mono l8,rfl⟩ ?_ ?_
   .rintro l2 lp2 done z rest2 vs2 h9 L9 X9 hxs h89 ⟨h89',own2,rfl⟩ hv2 hlp2 hX9 hXM9
    obtain rfl:=hv2
    obtain⟨Pm,hPm⟩:∃Pm,Pm=done.foldl (λq(z:Int×Int)=>playLack P.signed x q z.2) { P with lacks:=P.lacks.set x.toNat (-1) }:=⟨_,rfl⟩
    have hPs:Pm.shelf=aA l/\Pm.signed=signed:=by
     rw[hPm]
     have:∀(s:List (Int×Int))(QD:eS),QD.shelf=aA l/\QD.signed=signed->(s.foldl (λq(z:Int×Int)=>playLack P.signed x q z.2) QD).shelf=aA l/\(s.foldl (λq(z:Int×Int)=>playLack P.signed x q z.2) QD).signed=signed:=by
      intro s
      induction s with
      |nil=>intro QD h;exact h
      |cons y s ih=>intro QD h;obtain⟨a1,a2,_⟩:=ye P.signed x y.2 QD;exact ih _ ⟨a1.trans h.1,a2.trans h.2⟩
     exact this _ _ ⟨hsh,hsgd⟩
    rw[←hPm]at own2
    have l79:h7.le h9:=zF l8 h89
    have A79:=A7'.mono l79
    have B79:=A11'.mono l79
    refine qT 3 U (kc 0 U hlp2 (mA ?_))
    rw[←hPm]
    refine cv (L':=[(l2,.loop { lp2 with state:=.busy }),zd,zi,zl,zr]++plB b5 b8 br Pm om Gf) U (el (eT [zi] mixed kr jn (λhs8 _=>?_)))
    refine tf 0 U U (rh ty211 A79 U) (tf 1 U U (rh ty211 A79 U) (tf 2 U U (λ_ _ _=>gh U) (qB [3,4] U (tf 5 U U (rH 1 ty190 B79 U U) (tm 6 U (tf 8 U U (rh ty31 (a4'.mono l79) U) (tf 9 U U (rj 0 ty3 U U U) ?_)))))))
    have hxs:0<=x/\x<(signed.length:Int):=by omega
    refine eX 10 (enc:=λy=>[I y]) hs8 jn (λ_ _ _ e=>e) ej ty3 (hs7.mono jH l79).1 hxs (dh hxs) U U U U kr (λq3 B3=>?_)
    refine tf 11 U U (rh ty3 B3 U) ?_
    obtain⟨mo,hmb,hmm⟩:=(oks7.mono l79).at_
    refine tn 7 U (nS (k:=z.2) Br (fZ oe) hmb hmm (fw zv3) (show wg _ (I 0) 0 from U) U U (λv hv=>?_))
    obtain rfl:=hv
    refine⟨jn,?_⟩
    have hat:=Ki l ob z.2
    refine tn 12 U (O2 (v:=.tuple #[I (cg Pm (mgetD (aA l).at_ z.2 0) (nthI signed x)).1,I (cg Pm (mgetD (aA l).at_ z.2 0) (nthI signed x)).2]) call127 (λhz lz hall=>mH hz Pm (playR l.length sr0 ck cj b5 b8 br) ⟨b11,0,none⟩ (mgetD (aA l).at_ z.2 0) (nthI signed x)
     (own2.lent hln (hPs.1▸oks7.mono l79) (hPs.2▸hs7.mono jH l79) lz (λp hp=>hall p (by simp only[kH,qC];exact .inr hp))) (by rw[Fy hPs.1 hPs.2 own2.done own2.lacks];exact(A11'.mono l79).mono lz) (by rw[hPs.1,hD];exact hat) (by rw[hPs.1,hD];exact⟨own2.done,own2.lacks⟩)) rfl ⟨jn,?_⟩)
    refine qR 13 5 U (aQ kr (qT 5 U ?_))
    have hlk:playLack P.signed x Pm z.2=bif(cg Pm (mgetD (aA l).at_ z.2 0) (nthI signed x)).1 != 0 then { Pm with lacks:=Pm.lacks.set x.toNat z.2 }else Pm:=by
     unfold playLack;rw[hPs.1,hsgd]
    have hnx:(done++[z]).foldl (λq(z:Int×Int)=>playLack P.signed x q z.2) { P with lacks:=P.lacks.set x.toNat (-1) }=playLack P.signed x Pm z.2:=by rw[List.foldl_append,hPm];rfl
    refine ky U (λc1=>?_) (λc1=>qT 2 U ?_)
    .refine eT [zi] mixed kr jn (λhs9 _=>?_)
     refine tf 0 U U (rh ty211 A79 U) (tf 1 U U (λ_ _ _=>gh U) (qB [2] U (tf 3 U U (rH 4 ty31 B79 U U) (tf 4 U U (rj 0 ty3 U U U) (tm 5 U ?_)))))
     have hml:=own2.lacks
     refine tf 6 U U (λ_ _ _=>oJ (R:=kB) (xs:=Pm.lacks) (bk:=b8) (z:=x) ej ty3 U ob U (by simp[playP,hml]) U) (tn 7 U (lm 6 (off:=x.toNat*1) (vs:=[I z.2]) ty3 U U U U (Nat.ble_eq_true_of_le (by simp only[List.length_map,xA,vB];omega)) U ⟨jn,aQ kr (fe ?_)⟩))
     rw[c1,cond_true]at hlk
     refine cv (L':=(l2,.loop { lp2 with state:=.busy })::([zd,zi,zl,zr]++plB b5 b8 br { Pm with lacks:=Pm.lacks.set x.toNat z.2 } om Gf)) (by rw[AD (kC .i64)];rfl) ?_
     refine MH U ⟨h89',?_,?_⟩
     .rw[hnx,hlk];exact⟨own2.done,by simpa using hml,own2.map,own2.rev⟩
     rw[hnx,hlk]
    rw[c1,cond_false]at hlk
    refine MH U ⟨h89',?_,?_⟩
    .rw[hnx,hlk];exact own2
    rw[hnx,hlk];rfl
   rintro h9 L9 h89 ⟨h89',own2,rfl⟩
   obtain⟨Pm,hPm⟩:∃Pm,Pm=(jj d.Needs).foldl (λq(z:Int×Int)=>playLack P.signed x q z.2) { P with lacks:=P.lacks.set x.toNat (-1) }:=⟨_,rfl⟩
   rw[←hPm]at own2
   rw[←hPm]
   have hPs:Pm.shelf=aA l/\Pm.signed=signed/\Pm.revoked=P.revoked:=by
    rw[hPm]
    have:∀(s:List (Int×Int))(QD:eS),QD.shelf=aA l/\QD.signed=signed/\QD.revoked=P.revoked->(s.foldl (λq(z:Int×Int)=>playLack P.signed x q z.2) QD).shelf=aA l/\(s.foldl (λq(z:Int×Int)=>playLack P.signed x q z.2) QD).signed=signed/\(s.foldl (λq(z:Int×Int)=>playLack P.signed x q z.2) QD).revoked=P.revoked:=by
     intro s
     induction s with
     |nil=>intro QD h;exact h
     |cons y s ih=>intro QD h;obtain⟨a1,a2,_,_,a5⟩:=ye P.signed x y.2 QD;exact ih _ ⟨a1.trans h.1,a2.trans h.2.1,a5.trans h.2.2⟩
    exact this _ _ ⟨hsh,hsgd,U⟩
   have hmid:playMid P x=Pm:=by unfold playMid;rw[hdP];exact hPm.symm
   have hstep:playStep P x=bif decide (nthI Pm.lacks x<0)then d.Revokes.foldl (playRevoke d) (playDone Pm x)else playDone Pm x:=by
    unfold playStep;rw[hmid,hdP]
   have l79:h7.le h9:=zF l8 h89
   have A79:=A7'.mono l79
   have B79:=A11'.mono l79
   have hmd:=own2.done
   have hml:=own2.lacks
   refine qT 2 U (eT [zd,zi] mixed kr jn (λhs11 _=>?_))
   refine tf 0 U U (rh ty211 A79 U) (tf 1 U U (λ_ _ _=>gh U) (qB [2] U (tf 3 U U (rH 3 ty57 B79 U U) (tf 4 U U (rj 1 ty3 U U U) (tf 5 U U (λ_ _ _=>oJ (R:=aA4) (xs:=Pm.done) (bk:=b5) (z:=x) uE ty4 U ob U (by simp[playP,hmd]) U) (tn 6 U (lm 4 (off:=x.toNat*1) (vs:=[.bool true]) ty4 U U U U (Nat.ble_eq_true_of_le (by simp only[List.length_map,xA,vB];omega)) U ⟨jn,aQ kr (cv (L':=[zd,zi,zl,zr]++plB b5 b8 br (playDone Pm x) om Gf) (by rw[AD aAG];rfl) ?_)⟩)))))))
   have own3:wG h9 l.length b5 b8 br (playDone Pm x) om m3 Gf:=⟨by simpa[playDone]using hmd,hml,own2.map,own2.rev⟩
   have JB:∀{A:LH},Jst h9 [zi,(b8,.cells (Pm.lacks.map (kC .i64)).toArray 3 (0,0))] h9 ([zd,zi,zl,zr]++plB b5 b8 br (playDone Pm x) om A):=⟨vQ _,λp hp=>by
    simp only[qC,kA,or_false]at hp
    rcases hp with rfl|rfl<;>simp[plB,playDone]⟩
   refine el (eT [zi,(b8,.cells (Pm.lacks.map (kC .i64)).toArray 3 (0,0))] mixed kr JB (λhs12 _=>?_))
   refine jt 0 hs12 JB U U kr U (rh ty211 A79 U) (jt 1 hs12 JB U U kr U (λ_ _ _=>gh U) (jt 2 hs12 JB U U kr U (λ_ _ _=>tQ PJ U) (jt 3 hs12 JB U U kr U (rH 4 ty31 B79 U U) (jt 4 hs12 JB U U kr U (rj 0 ty3 U U U) (jt 5 hs12 JB U U kr U (λ_ _ _=>oJ (R:=kB) (xs:=Pm.lacks) (bk:=b8) (z:=x) ej ty3 U ob U (by simp[playP,hml]) U) ?_)))))
   have hlx:(Pm.lacks.map (kC .i64))[x.toNat*1]? = some (I (nthI Pm.lacks x)):=by
    rw[Nat.mul_one,List.getElem?_map,dh ob];rfl
   refine jt 6 hs12 JB U U kr U (λ_ _ hj=>AI ty3 U (hj.nth (i:=1) U) (by rw[iM];exact hlx)) (jt 7 hs12 JB U U kr U (λ_ _ _=>Pa U) (aQ kr ?_))
   have hin':∀y∈rest,0<=y/\y<(l.length:Int):=λy hy=>hin y (vA _ hy)
   have h59:h5.le h9:=zF h57 l79
   refine ky U (λc1=>?_) (λc1=>qT 2 U ?_)
   .rw[c1,cond_true]at hstep
    have hrl:=hgd.revokes.2
    refine sr (kl QG U (oo 0 ty31 U U U (ML ej U (qO 2 U ?_))))
    have hfin:∀(QD:eS)(oQ:Obj)(mQ:List (Int×Option Addr×Nat×Nat))(GQ:LH)(e':Env),QD=d.Revokes.foldl (playRevoke d) (playDone Pm x)->wG h9 l.length b5 b8 br QD oQ mQ GQ->QD.shelf=aA l->QD.signed=signed->(∀k,(mgetD QD.revoked k []).length<=(mgetD P.revoked k []).length+d.Revokes.length) ->
      TT prog (roundFrame R5 126) 114 [.inBlock 1] FR e' [] X' h9 ([zd,zi,zl,zr]++plB b5 b8 br QD oQ GQ):=by
     intro QD oQ mQ GQ e' hQ ownQ hQs hQg hQc
     refine fe (aX (L':=[zl,zr]++plB b5 b8 br QD oQ GQ) js (cv (L':=rdH R5 r1 lp1 (plB b5 b8 br QD oQ GQ++markB [])) (by simp[markB,rdH,zl,zr]) ?_))
     refine nx (QD,oQ,mQ,GQ,h9) _ _ ⟨?_,hQs,hQg,ownQ,h59,hin',λk=>?_⟩ lf
     .rw[←hfold,aAy,hstep,hQ]
     have h1':=hcnt k
     have h2':=hQc k
     simp only[xA]at h1'
     show(mgetD QD.revoked k []).length+16*rest.length<=320
     omega
    refine iX (ι:=eS×Obj×List (Int×Option Addr×Nat×Nat)×LH) (λi=>[]) (λi=>h9) (λi=>[zd,zi,zl,zr]++plB b5 b8 br i.1 i.2.1 i.2.2.2)
     (λi=>i.1=d.Revokes.foldl (playRevoke d) (playDone Pm x)/\wG h9 l.length b5 b8 br i.1 i.2.1 i.2.2.1 i.2.2.2/\i.1.shelf=aA l/\i.1.signed=signed/\∀k,(mgetD i.1.revoked k []).length<=(mgetD P.revoked k []).length+d.Revokes.length) ?_ (λhx4=>?_)
    .rintro⟨QD,oQ,mQ,GQ⟩ ⟨q1,q2,q3,q4,q5⟩ e4
     exact hfin QD oQ mQ GQ _ q1 q2 q3 q4 q5
    refine kY (ι:=Nat×eS×Obj×List (Int×Option Addr×Nat×Nat)×LH) (λi=>[(7,Q b12),(9,Q bd),(91,.slice dr.so d.Revokes.length dr.sn),(92,I (d.Revokes.length:Int)),(93,I (i.1:Int))]) (λi=>h9)
     (λi=>[zd,zi,zl,zr]++plB b5 b8 br i.2.1 i.2.2.1 i.2.2.2.2)
     (λi=>(d.Revokes.drop i.1).foldl (playRevoke d) i.2.1=d.Revokes.foldl (playRevoke d) (playDone Pm x)/\i.1<=d.Revokes.length/\wG h9 l.length b5 b8 br i.2.1 i.2.2.1 i.2.2.2.1 i.2.2.2.2/\i.2.1.shelf=aA l/\i.2.1.signed=signed/\∀k,(mgetD i.2.1.revoked k []).length<=(mgetD P.revoked k []).length+i.1)
     (λi=>d.Revokes.length-i.1) (0,playDone Pm x,om,m3,Gf) rd (λw hw=>hw) ⟨rfl,zN _,own3,hPs.1,hPs.2.1,λk=>by show(mgetD Pm.revoked k []).length<=_;rw[hPs.2.2];omega⟩ ?_
    rintro⟨i,QD,oQ,mQ,GQ⟩ ⟨hfQ,hiQ,ownQ,hQs,hQg,hQc⟩ ag e5
    dsimp only at hfQ hiQ ownQ hQs hQg hQc
    show TT _ _ _ _ _ (upds e5 [(7,Q b12),(9,Q bd),(91,.slice dr.so d.Revokes.length dr.sn),(92,I (d.Revokes.length:Int)),(93,I (i:Int))]) _ _ h9 ([zd,zi,zl,zr]++plB b5 b8 br QD oQ GQ)
    rcases xQ i d.Revokes.length with hi|hi
    .have hgi:d.Revokes[i]? = some d.Revokes[i]:=List.getElem?_eq_getElem hi
     obtain⟨y,hy⟩:∃y,d.Revokes[i]=y:=⟨_,rfl⟩
     rw[hy]at hgi
     have hdrop:d.Revokes.drop i=y::d.Revokes.drop (i+1):=by rw[List.drop_eq_getElem_cons hi,hy]
     rw[hdrop,aAy]at hfQ
     obtain⟨gb,gc,G1,G2,hget,hgrow,hperm,hput⟩:=ownQ.rev.get y
     have hcy:=hQc y
     have hcP:=hcnt y
     refine sr (tO (decide_eq_true ob) U (qO 8 U (aB (pd (enc:=λy=>[I y]) (λ_ _ _ e=>e) ej ty3 (okd.Revokes.mono jH l79).1 (nthZ hgi) (fH hgi) U U U (λq6 B6=>?_)))))
     refine dB ty3 B6 U (an (eT [zd] mixed kr jn (λhs16 _=>?_)))
     refine tf 0 U U (rh ty211 A79 U) (tf 1 U U (λ_ _ _=>gh U) (qB [2] U (tf 3 U U (rH 5 ty236 B79 U U) (tm 4 U (tf 5 U U (rh ty211 A79 U) (tf 6 U U (λ_ _ _=>gh U) (qB [7] U (tf 8 U U (rH 5 ty236 B79 U U) (qB [9,11] U (tf 12 U U (rj 0 ty3 U U U) ?_))))))))))
     refine og 10 13 kr U U ?_ ?_
     .refine qz 6 (k:=y) Js (fZ oe) U ownQ.map (fw zv31) (show V3i _ (.slice none 0 0) (none,0,0)from U) U U (λv hv=>?_)
      rw[hget]at hv
      obtain rfl:=hv
      refine⟨jn,(tn 13 U (bB (cells:=[I d.No]) ej ty3 zc3 U U kr (λbn=>⟨jn,?_⟩)))⟩
      let zn:Nat×Obj:=(bn,O [I d.No] 3)
      let z5:Nat×Obj:=(b5,O (QD.done.map aAG) 4)
      refine tn 14 U (E3 (List.Perm.append_left ([zn,zd,zi,zl,zr,z5,(b8,.cells (QD.lacks.map (kC .i64)).toArray 3 (0,0)),(br,oQ)]:LH) hperm) (dy aBw [zn,zd,zi,zl,zr,z5,(b8,.cells (QD.lacks.map (kC .i64)).toArray 3 (0,0)),(br,oQ)] G2 (λG=>[zn,zd,zi,zl,zr,z5,(b8,.cells (QD.lacks.map (kC .i64)).toArray 3 (0,0)),(br,oQ)]++(G2++G)) U (λ_=>U) ej ty3 zc3 U bytes3 hgrow U U (eF 0 U (show bI kB h9 [I d.No] [d.No]from⟨[I d.No],[],U,U,U,U⟩)) (by simp only[xA,vB]at *;omega) (by simp only[xA,vB]at *;omega) (λgb' gc' G1' hG'=>⟨jn,?_⟩)))
      refine tn 15 U (lg 7 (k:=y) (x:=(gb',(mgetD QD.revoked y []++[d.No]).length,gc')) Js (fZ oe) U ownQ.map U U U (λoR hmR=>⟨jn,aQ kr ?_⟩))
      obtain⟨G',hfr',hp'⟩:=hput gb' gc' _ G1' hG'
      refine qT 2 U (oi i U (qO 2 U (cv (L':=[zn,zd,zi,zl,zr,z5,(b8,.cells (QD.lacks.map (λv=>kC .i64 v)).toArray 3 (0,0)),(br,oR)]++(G2++G1')) U ?_)))
      exact mb (L':=zn::([zd,zi,zl,zr]++plB b5 b8 br (playRevoke d QD y) oR G')) (List.Perm.append_left [_,_,_,_,_,_,_,_] (List.perm_append_comm.trans hp'.symm)) (aX (L':=[zd,zi,zl,zr]++plB b5 b8 br (playRevoke d QD y) oR G') js (ag (i+1,playRevoke d QD y,oR,mput mQ y (gb',(mgetD QD.revoked y []++[d.No]).length,gc'),G') _ (by show d.Revokes.length-(i+1)<d.Revokes.length-i;omega) ⟨hfQ,hi,⟨ownQ.done,ownQ.lacks,hmR,hfr'⟩,hQs,hQg,BL hQc⟩ rd))
     refine bB (cells:=[I d.No]) ej ty3 zc3 U U kr (λbn=>⟨jn,?_⟩)
     let zn:Nat×Obj:=(bn,O [I d.No] 3)
     let z5:Nat×Obj:=(b5,O (QD.done.map aAG) 4)
     refine tn 10 U (qz 7 (k:=y) Js (fZ oe) U ownQ.map (fw zv31) (show V3i _ (.slice none 0 0) (none,0,0)from U) U U (λv hv=>?_))
     rw[hget]at hv
     obtain rfl:=hv
     refine⟨jn,(tn 14 U (E3 (List.Perm.append_left ([zn,zd,zi,zl,zr,z5,(b8,.cells (QD.lacks.map (kC .i64)).toArray 3 (0,0)),(br,oQ)]:LH) hperm) (dy aBw [zn,zd,zi,zl,zr,z5,(b8,.cells (QD.lacks.map (kC .i64)).toArray 3 (0,0)),(br,oQ)] G2 (λG=>[zn,zd,zi,zl,zr,z5,(b8,.cells (QD.lacks.map (kC .i64)).toArray 3 (0,0)),(br,oQ)]++(G2++G)) U (λ_=>U) ej ty3 zc3 U bytes3 hgrow U U (eF 0 U (show bI kB h9 [I d.No] [d.No]from⟨[I d.No],[],U,U,U,U⟩)) (by simp only[xA,vB]at *;omega) (by simp only[xA,vB]at *;omega) (λgb' gc' G1' hG'=>⟨jn,?_⟩))))⟩
     refine tn 15 U (lg 7 (k:=y) (x:=(gb',(mgetD QD.revoked y []++[d.No]).length,gc')) Js (fZ oe) U ownQ.map U U U (λoR hmR=>⟨jn,aQ kr ?_⟩))
     obtain⟨G',hfr',hp'⟩:=hput gb' gc' _ G1' hG'
     refine qT 2 U (oi i U (qO 2 U (cv (L':=[zn,zd,zi,zl,zr,z5,(b8,.cells (QD.lacks.map (λv=>kC .i64 v)).toArray 3 (0,0)),(br,oR)]++(G2++G1')) U ?_)))
     exact mb (L':=zn::([zd,zi,zl,zr]++plB b5 b8 br (playRevoke d QD y) oR G')) (List.Perm.append_left [_,_,_,_,_,_,_,_] (List.perm_append_comm.trans hp'.symm)) (aX (L':=[zd,zi,zl,zr]++plB b5 b8 br (playRevoke d QD y) oR G') js (ag (i+1,playRevoke d QD y,oR,mput mQ y (gb',(mgetD QD.revoked y []++[d.No]).length,gc'),G') _ (by show d.Revokes.length-(i+1)<d.Revokes.length-i;omega) ⟨hfQ,hi,⟨ownQ.done,ownQ.lacks,hmR,hfr'⟩,hQs,hQg,BL hQc⟩ rd))
    refine sr (fO (decide_eq_false ob) U (qO 4 U ?_))
    have hie:i=d.Revokes.length:=by omega
    refine hx4 (QD,oQ,mQ,GQ) _ ⟨?_,ownQ,hQs,hQg,λk=>?_⟩ trivial
    .rw[hie,List.drop_length]at hfQ;exact hfQ
    have:=hQc k;show(mgetD QD.revoked k []).length<=_;omega
   rw[c1,cond_false]at hstep
   refine aX (L':=[zl,zr]++plB b5 b8 br (playDone Pm x) om Gf) js (cv (L':=rdH R5 r1 lp1 (plB b5 b8 br (playDone Pm x) om Gf++markB [])) (by simp[markB,rdH,zl,zr]) ?_)
   refine nx (playDone Pm x,om,m3,Gf,h9) _ _ ⟨?_,hPs.1,hPs.2.1,own3,h59,hin',λk=>?_⟩ lf
   .rw[←hfold,aAy,hstep]
   have:=hcnt k
   simp only[xA]at this
   show(mgetD Pm.revoked k []).length+16*rest.length<=320
   rw[hPs.2.2];omega
  rintro r1 ⟨P,om,m3,Gf,hh⟩ h7 ⟨hfold,hsh,hsgd,hown,h5h,hin,hcnt⟩ hh7 h57
  dsimp only at hfold hsh hsgd hown h5h hin hcnt hh7
  replace hown:=hown.mono hh7
  have hPl:P.signed.length=l.length:=by rw[hsgd];exact hsg
  refine qT 3 U (dB ty211 (A7.mono h57) U (an (EN [] (plB b5 b8 br P om Gf) (markB [r1]) U hM (λh8 l8 hG=>?_))))
  have hP:P=cf l signed aH:=hfold
  have okP:=hown.lent (sq:=sr0) (sb:=ck) (sc:=cj) hln (hsh▸oks.mono h57) (hsgd▸hs4.mono jH h57) l8 hG
  exact qw [r1] [Q b11] func126 U rd ⟨⟨b11,0,none⟩,playR l.length sr0 ck cj b5 b8 br,U,hP▸okP,by
   rw[←hP,Fy hsh hsgd hown.done hown.lacks];exact A11.mono (zF h57 l8)⟩
 rintro⟨a,b,c,d,f,g,t⟩ e2 h2 L2 hI hμ
 dsimp only at hI hμ ⊢
 have hv:=hI.1
 refine Qg (plN a b c d f g t) ?_ ?_ (λi hi o ho=>?_)
 .clear hI hμ
  revert hv
  cases a<;>cases b<;>cases c<;>cases d<;>cases f<;>cases g<;>cases t<;>intro hv<;>first|exact absurd hv (by decide)|kernel_rfl
 .clear hI
  revert hv hμ
  cases a<;>cases b<;>cases c<;>cases d<;>cases f<;>cases g<;>cases t<;>intro hμ hv<;>first|exact absurd hv (by decide)|exact absurd rfl hμ|decide
 rcases Qq hi with⟨rfl,rfl⟩|⟨rfl,rfl⟩|⟨rfl,rfl⟩|⟨rfl,rfl⟩|⟨rfl,ha,rfl⟩|⟨rfl,rfl,rfl⟩|⟨rfl,rfl⟩|⟨rfl,rfl,rfl,rfl,rfl,rfl,rfl⟩
 .obtain rfl:=qW (show some _=some o from ho)
  exact aB9 (λ_ _ _ q=>⟨q.1,(true,b,c,d,f,g,t),by simp only[plM,cond_true,cond_false];omega,pmid (pmid (pmid (pmid (pmid (pmid (List.Perm.refl _)))))),q.2⟩) (Sa (hl.mono vH l1) hI)
 .obtain rfl:=qW (show some _=some o from ho)
  exact aB9 (λ_ _ _ q=>⟨q.1,(a,true,c,d,f,g,t),by simp only[plM,cond_true,cond_false];omega,pmid (pmid (pmid (pmid (pmid (List.Perm.refl _))))),q.2⟩) (R9 hln hI)
 .obtain rfl:=qW (show some _=some o from ho)
  exact aB9 (λ_ _ _ q=>⟨q.1,(a,b,true,d,f,g,t),by simp only[plM,cond_true,cond_false];omega,pmid (pmid (pmid (pmid (List.Perm.refl _)))),q.2⟩) (R8 hln hI)
 .obtain rfl:=qW (show some _=some o from ho)
  exact aB9 (λ_ _ _ q=>⟨q.1,(a,b,c,true,f,g,t),by simp only[plM,cond_true,cond_false];omega,pmid (pmid (pmid (List.Perm.refl _))),q.2⟩) (R7 hI)
 .obtain rfl:=qW (show some _=some o from ho)
  exact aB9 (λ_ _ _ q=>⟨q.1,(a,b,c,d,f,true,t),by simp only[plM,cond_true,cond_false];omega,pmid (List.Perm.refl _),q.2⟩) (RR ha hI)
 .obtain rfl:=qW (show some _=some o from ho)
  exact aB9 (λ_ _ _ q=>⟨q.1,(a,b,c,d,f,true,true),by simp only[plM,cond_true,cond_false],List.Perm.refl _,q.2⟩) (RQ hI)
 .obtain rfl:=qW (show some _=some o from ho)
  exact aB9 (λ_ _ _ q=>⟨q.1,(a,b,c,d,true,g,t),by simp only[plM,cond_true,cond_false];omega,pmid (pmid (List.Perm.refl _)),q.2⟩) (RP hI)
 exact absurd U hμ
theorem rx(h:HF)(l:List Document)(eu:Option Addr)(et:Nat)(signed:List Int)(ck:Option Addr)(cj:Nat)(aH:Int)(hl:SlC xS h eu et l)(hsigned:SlC kB h ck cj signed)(hln:l.length<20):jv prog 52 [.slice eu l.length et,.slice ck signed.length cj,I aH] h (λv h'=>∃(rb0:Option Addr)(rc0:Nat),v=.tuple #[.slice rb0 ((bz l signed aH).1).length rc0,I ((bz l signed aH).2)]/\SlC kB h' rb0 rc0 ((bz l signed aH).1)):=by
 refine sT func52 U ntmps52 U λX hM hX hF=>?_
 have hs0:bz l signed aH=bz l signed aH:=rfl
 refine qT 9 U (aj call70 (oO _ _ _ _ hl) U (qO 7 U (ae hs0 U (λc1 hs1=>?_) (λc1 hs2=>?_))))
 .refine qT 6 U ?_
  have hs3:bz l signed aH=([],(aV l)):=hs1
  exact nretH [.slice none 0 0,I (aV l)] ⟨none,0,congrArg (λr:(List Int×Int)=>(.tuple #[.slice none r.1.length 0,I r.2]:Value)) hs3.symm,(by rw[hs3];exact qF)⟩
 refine qT 6 U (aj call124 (pW _ _ _ _ _ _ _ hl hsigned) U (qO 2 U (ce 4 [23,24,25,26,27] 23 27 (!(fS aH)) U (λc2 hk1=>?_) (λe=>?_))))
 .exact av (aj Ox (ns h aH) U (qO 2 U (hk1 _ U)))
 refine aJ (ae hs2 U (λc3 hs4=>?_) (λc3 hs5=>?_))
 .refine qT 5 U ?_
  have hs6:bz l signed aH=([],1):=hs4
  exact nretH [.slice none 0 0,I 1] ⟨none,0,congrArg (λr:(List Int×Int)=>(.tuple #[.slice none r.1.length 0,I r.2]:Value)) hs6.symm,(by rw[hs6];exact qF)⟩
 refine qT 6 U (aB (cT call126 (rK _ _ _ _ _ _ _ aH hl hsigned (by simpa using c1) (BA ob) hln) U (λv1 h1 hle1 hp1=>?_)))
 obtain⟨q1,rr1,rfl,ok1,A1⟩:=hp1
 refine qL 9 [] U ?_
 refine lp2 l (λi w=>[(2,I aH),(6,.slice w.2.1 w.1.length w.2.2.1),(9,.pointer (some q1)),(32,.slice eu l.length et),(33,I (l.length:Int)),(34,I (i:Int))]) (λ_=>h1) (λw=>w.2.2.2) (λi w=>dC kB 3 h1 w.1 w.2.1 w.2.2.1 w.2.2.2/\w.1.length<=0+i) (λs1 i w=>(bz.L1 l signed aH (bz.K1)) s1 i w.1) ([],none,0,[]) ((hl.mono vH hle1).1.1) hs5 ⟨dC.nil,lo⟩ ?_ ?_
 .rintro i1 ⟨fI,i8,i7,i9⟩ ft hs7 ⟨iv,lS⟩ e
  try dsimp only at iv lS
  refine qT 6 U (eK jH ([]) i9 ([]) ap hM iv (λh3 hle3 sl2=>?_))
  have hs8:bz l signed aH=(fI,0):=hs7
  exact nretH [.slice i8 fI.length i7,I 0] ⟨i8,i7,congrArg (λr:(List Int×Int)=>(.tuple #[.slice i8 r.1.length i7,I r.2]:Value)) hs8.symm,(by rw[hs8];exact sl2)⟩
 rintro i1 ⟨fI,i8,i7,i9⟩ y1 rz1 hd1 df aS dZ gy hs9 ⟨iv,lS⟩ hx1 ag1 e
 try dsimp only at iv lS
 refine sr (tO df U (qO 9 U (aB (iR oq ty51 (hl.mono vH hle1).1 aS U U U (λ_ _ _ e=>e) (λq3 r2 A3 ok3=>dq ty51 A3 U U (aT zc51 (λb3=>gG (aL 0 ty51 U U U U U U (gJ (L':=[(b3,O (jT y1 r2) 51)]++(i9)) U (qO 6 U (aj call127 (mH h1 (cf l signed aH) rr1 q1 (i1:Int) aH ok1 A1 (by first|exact HY ob|(rw[tT];omega)) (DC _ _ _)) U (qO 11 U (ae hs9 U (λc5 hs10=>?_) (λc5 hs11=>?_))))))))))))))
 .exact qK 4 [0] U (aB (bB (cells:=[I y1.No]) ej ty3 zc3 U U kr (λb4=>aB (dy aBw ([(b4,O [I y1.No] 3),(b3,O (jT y1 r2) 51)]) ([]) (λG=>[(b4,O [I y1.No] 3),(b3,O (jT y1 r2) 51)]++G) ap (λ_=>ap) ej ty3 zc3 U bytes3 iv U U (eF 0 U (cE (y1.No) U U)) lo lo (λob2 oc2 G2 gr2=>qO 4 U (oi i1 U (qO 2 U (aX (L':=G2) js (ag1 ((fI++[y1.No]),ob2,oc2,G2) hs10 ⟨gr2,lo⟩)))))))))
 exact aI (qT 2 U (oi i1 U (qO 2 U (aX (L':=i9) js (ag1 (fI,i8,i7,i9) hs11 ⟨iv,lo⟩)))))
theorem uR(h:HF)(d:Document)(KX:ls)(v0:bU)(N8:kn)(v0_q:Addr)(hd:Document.ok h d KX)(hv0:bU.ok h v0 N8)(av0:At h v0_q (bU.cells v0 N8)):Ret prog 130 [.agg (jT d KX).toArray,.pointer (some v0_q)] h (.bool (bx d v0)):=by
 refine sT func130 U ntmps130 U λX hM hX hF=>?_
 have hs0:bx d v0=bx d v0:=rfl
 exact sr (cz (λb1=>qL 8 [0] U (ju (j:=7) ty3 av0 U U (qO 3 U (nretP [.bool (d.No==v0.doc.No)] (cs hs0))))))
end Go.Sg
