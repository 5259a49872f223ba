import Derived.WalkKit
import Derived.Test.YtknehchipcogdaaGreatDoorW7
/- A part of the proof of MissingCame. -/
set_option linter.unusedVariables false
set_option linter.unusedSimpArgs false
set_option maxRecDepth 100000
open List renaming length_cons→xA,not_mem_nil→jA,length_append→vA,mem_cons_self→xB,length_nil→jB,toArray→kB,mem_cons_of_mem→qC,mem_singleton→xC,mem_cons→kC,mem_of_getElem?→xD,nil_append→vD,mem_append→kF,foldl_cons→zV,ext_getElem?→Zg
open Go.Sg.HF renaming le_trans→kA,le_refl→qF,le→jL
open Go.Sg.Rp renaming int→vB,bU→kM,j4→ZO
open Go.Value renaming int→jC,bool→jV
open Go.IntKind renaming wrap→vC
open Go.Sg.Register renaming cells→qD
open Nat renaming le_refl→xE,zero_le→jH,lt_or_ge→zK
open Go.Sg.OSeat renaming cells→xF,rp→ZI
open Go.Sg.SlC renaming nil→qH
open Go.Sg.Budget renaming rp→xS,cells→vS
open Go.Sg.Use renaming rp→Zz
open Go.Sg.Stp renaming mono→ZT

namespace Go.Sg
variable {h:HF}{m3:List (Int×Option Addr×Nat×Nat)}{om:Obj}{p:Prop}{pe:Int->Go.Value}{v:Go.Value}{vs:List Go.Value}{x:Operand}{ρ:Type}
open Go.Proofs Go.Proofs.Tryz
set_option maxHeartbeats 2000000
theorem yy(h v Yd v0 v0_q)(hv:aD.ok h v Yd)(av0:At h v0_q [I v0]):Ret prog 167 [.agg (aD.cells v Yd).toArray,.pointer (some v0_q)] h (.bool (iS v v0)):=by
 refine sVv func167 ntmps167 ?_
 generalize hz:(iS v v0)=z
 exact W
instance kC167:Ct 167:=⟨_,call167,@yy⟩
theorem sB(h c rB no)(hc:bI.ok h c rB):LW prog 91 [.agg (bI.cells c rB).toArray,I no] h errV (fI c no) (λ(r:ay)v h'=>∃(rr0:ir),v=.agg (ay.cells r rr0).toArray/\ay.ok h' r rr0):=by
 refine sVv func91 ntmps91 ?_
 generalize hz:(fI c no)=z
 have q0:=@GT
 exact W
section
variable {P:Program} {e:Env} {X:Cx} {h:HF} {L:LH} {d:Option Nat} {ty:TypeId} {pos:String} {af:Array Edge} {g:Option (Nat×Bool)}
theorem Vw{t u:TypeId}(hT:∃ms,P.underlying t=some (.interface ms))(hx:e.ev x=.nilIface):∀w,St X h L w->(execOp e.ev ⟨d,.binOp .eql t x (.const .nilIface) u,ty,pos,af,g⟩).run P w=.ok (.value (.bool true)) w:=
 λw _=>by
  obtain⟨ms,hT⟩:=hT
  have hc:e.ev (.const .nilIface)=.nilIface:=rfl
  have he:(Op.equal t .nilIface .nilIface).run P w=.ok true w:=by
   rw[Op.equal,Op.maxDepth,show(10000:Nat)=9999+1 from rfl,Op.equalIn];simp[run_underlying hT]
  simp[execOp,hx,hc,eqGuard,binOp,he]
theorem Vv{t u:TypeId}{T:TypeId}(hT:∃ms,P.underlying t=some (.interface ms))(hx:e.ev x=.iface T v):∀w,St X h L w->(execOp e.ev ⟨d,.binOp .eql t x (.const .nilIface) u,ty,pos,af,g⟩).run P w=.ok (.value (.bool false)) w:=
 λw _=>by
  obtain⟨ms,hT⟩:=hT
  have hc:e.ev (.const .nilIface)=.nilIface:=rfl
  have he:(Op.equal t (.iface T v) .nilIface).run P w=.ok false w:=by
   rw[Op.equal,Op.maxDepth,show(10000:Nat)=9999+1 from rfl,Op.equalIn];simp[run_underlying hT]
  simp[execOp,hx,hc,eqGuard,binOp,he]
theorem PT{xt T:TypeId}{k:IntKind}(hT:P.underlying T=some (.int k))(hx:e.ev x=.iface T v):∀w,St X h L w->(execOp e.ev ⟨d,.typeAssert x xt T true,ty,pos,af,g⟩).run P w=.ok (.value (.tuple #[v,.bool true])) w:=
 λw _=>by simp[execOp,hx,Instr.typeAssert,run_underlying hT]
end
theorem JS(h b1 e0)(X':Cx):TT prog (deferFrame 28) 14 [.code (bodyOf Tryz.f28)] (J8 prog X' .returning (λh' B=>h'=h/\B=[(b1,O [I e0] 37)])) (envArgs [Q b1]) [] X' h [(b1,O [I e0] 37)]:=by
 exact sr (FK (λcs_z Φ⟨c,rest,hcs,hm,_⟩=>by subst hcs;simp[recoverD,hm]) (qO 4 U (aM (em (Vw ⟨_,Tf⟩ U) (qO 6 U (Mg Hx U ⟨U,U⟩))))))
theorem zw(h:HF)(b1:Nat)(e0 ee:Int)(X':Cx):TT prog (deferFrame 28) 14 [.code (bodyOf Tryz.f28)]
  (λcs_z Φ=>∃c rest,cs_z=c::rest/\c.mode=.panicking [{ v:=errV ee,recovered:=false }]/\J8 prog X' (.panicking [{ v:=errV ee,recovered:=true }]) (λh' B=>h'=h/\B=[(b1,O [I ee] 37)]) ({ c with mode:=(.panicking [{ v:=errV ee,recovered:=true }]) }::rest) Φ)
  (envArgs [Q b1]) [] X' h [(b1,O [I e0] 37)]:=by
 exact sr (HN (F':=J8 prog X' (.panicking [{ v:=errV ee,recovered:=true }]) (λh' B=>h'=h/\B=[(b1,O [I ee] 37)])) (errV ee) (λcs_z Φ⟨c,rest,hcs,hm,hF⟩=>⟨_,by subst hcs;simp[recoverD,hm],hF⟩) (qO 4 U (aM (em (Vv ⟨_,Tf⟩ U) (qO 4 U (aM (em (PT underlying37 U) (qO 11 U (aM (em (fU U) (dD 0 ty37 U U U U U U (qO 2 U (Mg Hx U ⟨U,U⟩)))))))))))))
theorem uZ{P:Program}{b:Frame}{n:Nat}{ops:Array Oper}{l:List Oper}{k:List Item}{F:List Frame->(Machine->Prop)->Prop}{e:Env}{ds:List Deferred}{X:Cx}{L:LH}{d:Nat}{ty:TypeId}{pos:String}{af:Array Edge}{g:Option (Nat×Bool)}{f:FuncId}{ass:Array Operand}{ats:Array TypeId}{x:Except Int ρ}{φ:ρ->Value->HF->Prop}(hc:∀args w,(callFunc f args).run P w=.ok (.enter f args) w)(hs:LW P f vs h pe x φ)(hvs:ass.toList.map e.ev=vs)(t':∀u v h',x=.ok u->h.le h'->φ u v h'->TO P b n ops l k F (upd e d v) ds X h' L)(tp:∀p h',x=.error p->h.le h'->TP P b n [{ v:=pe p,recovered:=false }] F e ds X h' L)(hdn:Nat.blt d n=true:=by rfl)(hg:guardB ops e ⟨some d,.call ⟨.value (.func f),ass,ats⟩,ty,pos,af,g⟩=true:=by rfl):
  TO P b n ops (⟨some d,.call ⟨.value (.func f),ass,ats⟩,ty,pos,af,g⟩::l) k F e ds X h L:=by
 refine Mf U (qY hdn) U hg (λw hw=>?_)
 have harr:ass.map e.ev=vs.toArray:=Array.ext' (by simp[←hvs])
 refine⟨.enter f vs.toArray,w,?_,?_⟩
 .simp[execOp,resolve,Env.ev,Deferred.ofValue,invoke,harr,hc]
 refine j8 (sK.mono (hs w (hw.sub (List.nil_sublist _)).pre) ?_)
 rintro y w' ⟨h',B,hst,rfl,hv⟩
 have hw2:=St.after (A:=[]) (B:=[]) (F:=L) hw hst
 cases y with
 |outgrown=>trivial
 |returned v=>
  cases x with
  |ok u=>obtain⟨v',hv,hφ⟩:=hv;cases hv;exact⟨h',_,hw2,t' _ _ _ rfl hst.le hφ⟩
  |error p=>cases hv
 |panicked ch=>
  cases x with
  |ok u=>obtain⟨v',hv,_⟩:=hv;cases hv
  |error p=>cases hv;exact⟨h',_,hw2,tp _ _ rfl hst.le⟩
theorem FD.toXH{P:Program}{f:FuncId}{enc:ρ->Value}{x:Except Int ρ}(hs:FD P f vs h (exW pe enc x)):LW P f vs h pe x (λu v h'=>v=enc u/\h'=h):=
 oX.mono hs (λr h' B hl hR=>by
  obtain⟨rfl,rfl,hv⟩:=hR
  refine⟨U,?_⟩
  cases x with
  |ok u=>simp only[exW]at hv;exact⟨_,hv,rfl,rfl⟩
  |error p=>simp only[exW]at hv;exact hv)
theorem GS(h co eP aP version dU ah)(m5:Register.ok h co eP)(hsm:smR co)(hk:dM h):
  jv prog 23 [.agg (qD co eP).toArray,I aP,I version,I dU,I ah] h (λv h'=>∃(rb0:Option Addr)(rc0:Nat),v=.tuple #[.slice rb0 ((fC co aP version dU ah).1).length rc0,I ((fC co aP version dU ah).2)]/\SlC vB h' rb0 rc0 ((fC co aP version dU ah).1)):=by
 refine dL QL U ntmps23 U λX hM hX=>sr (iA (λb5=>iB (cD zc37 (λb11=>qO 3 U (K0 U U (bM ?_))))))
 have fin:∀(hh:HF)(xs:List Int)(rb:Option Addr)(rc:Nat)(ee:Int)(B:LH)(e:Env),fC co aP version dU ah=(xs,ee)->SlC vB hh rb rc xs->e 10=.slice rb xs.length rc->e 11=Q b11->∀a:Act,envOf a=e->∀w,St X hh ([(b11,O [I ee] 37)]++B) w ->
   ∃v h2 B2,(results Tryz.f23 a.tmps).run prog w=.ok v w/\St X h2 B2 w/\(B2=[]/\∃v',Ending.returned v=.returned v'/\∃(rb0:Option Addr)(rc0:Nat),v'=.tuple #[.slice rb0 ((fC co aP version dU ah).1).length rc0,I ((fC co aP version dU ah).2)]/\SlC vB h2 rb0 rc0 ((fC co aP version dU ah).1)):=by
  intro hh xs rb rc ee B e he hs h10 h11 a ha w hw
  rw[he]
  exact⟨_,hh,[],o9 (rs:=[.tmp 10,.cell 11 37]) (vs:=[.slice rb xs.length rc,I ee]) U ⟨h10,⟨0,b11,[I ee],37,(0,0),U,h11,.inr ⟨_,ty37,U⟩⟩,trivial⟩ a ha w hw,hw.sub (List.nil_sublist _),U,_,U,rb,rc,U,hs⟩
 refine sr (eS 1 ty30 U U U (dP (v:=I (dq co)) call11 (Bk h co eP m5 hsm hk) U ?_))
 refine uZ CG (kh h (dq co)).toXH U (λu v h1 hx1 hle1 hp1=>?_) (λee h1 hx1 hle1=>?_)
 rotate_left
 .have e1:fC co aP version dU ah=([],ee):=by
   unfold lP at hx1;unfold fC
   cases hc:dq co != 0 with
   |true=>rw[hc]at hx1;cases hx1;rfl
   |false=>rw[hc]at hx1;cases hx1
  refine DA (c:=bodyOf Tryz.f28) (cap:=[Q b11]) (A:=[(b11,O [I 0] 37)]) (R':=λh'' B=>h''=h1/\B=[(b11,O [I ee] 37)]) QL Hx U NC U NB (λX' _=>zw h1 b11 0 ee X') U ?_
  rintro h'' B _ ⟨rfl,rfl⟩ a ha w hw
  exact fin _ [] none 0 ee _ _ e1 qH U U a ha w hw
 obtain⟨rfl,rfl⟩:=hp1
 have hc0:dq co=0:=by
  unfold lP at hx1
  cases hc:dq co != 0 with
  |true=>rw[hc]at hx1;cases hx1
  |false=>simpa using hc
 refine qO 3 U (eS 1 ty30 U U U (qO 3 U ?_))
 refine uZ call32 (CK h1 co eP aP dU ah m5) U (λc v h2 hx2 hle2 hp2=>?_) (λee h2 hx2 hle2=>?_)
 rotate_left
 .have e1:fC co aP version dU ah=([],ee):=by unfold fC;rw[hc0,hx2];rfl
  refine DA (c:=bodyOf Tryz.f28) (cap:=[Q b11]) (A:=[(b11,O [I 0] 37)]) (R':=λh'' B=>h''=h2/\B=[(b11,O [I ee] 37)]) QL Hx U NC U NB (λX' _=>zw h2 b11 0 ee X') U ?_
  rintro h'' B _ ⟨rfl,rfl⟩ a ha w hw
  exact fin _ [] none 0 ee _ _ e1 qH U U a ha w hw
 obtain⟨cr,rfl,okc⟩:=hp2
 obtain⟨hce,hco,_,_⟩:=Hg hc0 hx2
 have hreg:c.Register=co:=by rw[hce]
 have hsc:smR c.Register:=by rw[hreg];exact hsm
 refine cD zc91 (λb12=>ct 0 ty91 U U U U U U (bM ?_))
 let z1:Nat×Obj:=(b12,O (bI.cells c cr) 91)
 obtain⟨K,hK⟩:∃K:LH,K=[z1]:=⟨_,rfl⟩
 have J:∀{h':HF}{A:LH},h2.le h'->Jst h2 [z1] h' (z1::A):=λhl=>⟨hl,λq hq=>by rw[xC.1 hq];exact xB ..⟩
 refine dZ (fQ [z1] mixed kr (J lf) (λhsep _=>ic 0 hsep (J lf) U U kr U (λ_ _ hj=>oA ty91 U (hj.nth (i:=0) U) U) (ic 1 hsep (J lf) U U kr U (λ_ _ hj=>oA ty91 U (hj.nth (i:=0) U) U) (ic 2 hsep (J lf) U U kr U (λ_ _ _=>ku) ?_))))
 refine tn 3 U (N2 call91 (sB h2 c cr version okc) U (λp v h3 hpp hle3 hp3=>⟨J hle3,?_⟩) (λee h3 hpp hle3 e' hA=>?_))
 rotate_left
 .have e1:fC co aP version dU ah=([],ee):=by unfold fC;rw[hc0,hx2];simp only[bne_self_eq_false,cond_false,hpp]
  refine GZ (L':=[(b11,O [I 0] 37)]++[z1,(b5,O (qD co eP) 30)]) (List.Perm.swap _ _ _) (DA (c:=bodyOf Tryz.f28) (cap:=[Q b11]) (A:=[(b11,O [I 0] 37)]) (R':=λh'' B=>h''=h3/\B=[(b11,O [I ee] 37)]) QL Hx U NC U NB (λX' _=>zw h3 b11 0 ee X') U ?_)
  rintro h'' B _ ⟨rfl,rfl⟩ a ha w hw
  exact fin _ [] none 0 ee _ _ e1 qH ((hA.at_ 10).trans U) ((hA.at_ 11).trans U) a ha w hw
 have hpk:=si hco hsc hpp
 have e1:fC co aP version dU ah=(cq c p,0):=by unfold fC;rw[hc0,hx2];simp only[bne_self_eq_false,cond_false,hpp]
 obtain⟨pr,rfl,okp⟩:=hp3
 refine tn 4 U (cW call90 (sC h3 c cr p pr (okc.mono hle3) okp hsc hco hpk.rules) U (λv h4 hle4 hp4=>⟨J (hle3.t hle4),?_⟩))
 obtain⟨rb,rc,rfl,sl⟩:=hp4
 refine ic 5 hsep (J (hle3.t hle4)) U U kr U (λ_ _ _=>AS) (tn 6 U (lE 1 (off:=0) (vs:=[I 0]) ty37 U U U U (by rfl) U ⟨J (hle3.t hle4),dO kr (jw (L':=[(b11,O [I 0] 37)]++[z1,(b5,O (qD co eP) 30)]) (List.Perm.swap _ _ _) (NJ (c:=bodyOf Tryz.f28) (cap:=[Q b11]) (A:=[(b11,O [I 0] 37)]) (R':=λh'' B=>h''=h4/\B=[(b11,O [I 0] 37)]) QL Hx U NC U NB (λX' _=>JS h4 b11 0 X') U ?_))⟩))
 rintro h'' B _ ⟨rfl,rfl⟩ a ha w hw
 exact fin _ _ rb rc 0 _ _ e1 sl U U a ha w hw
theorem yI(h t)  : Ret prog 168 [I t] h (.bool (me t)):=by
 refine sVv func168 ntmps168 ?_
 generalize hz:(me t)=z
 exact W
instance kC168:Ct 168:=⟨_,call168,@yI⟩
theorem sF(h l fm fj signed bK bJ)(hl:SlC av.rp h fm fj l)(gL:SlC vB h bK bJ signed):Ret prog 94 [.slice fm l.length fj,.slice bK signed.length bJ] h (.bool (cj l signed)):=by
 refine sVv func94 ntmps94 ?_
 generalize hz:(cj l signed)=z
 exact W
theorem DF(h x Wr Wa)(hx:SlC vB h Wr Wa x)(hne:0<x.length):Ret prog 171 [.slice Wr x.length Wa] h (I (gN x)):=by
 refine sT func171 U ntmps171 U λX hM hX hF=>?_
 have hs0:=@rfl _ (gN x)
 refine qK 11 [] U (ld U (λc1=>?_) (λc1=>?_))
 .exact absurd c1 (by simp only[decide_eq_true_eq,Bool.not_eq_true,decide_eq_false_iff_not];omega)
 have c1p:=of_decide_eq_false c1
 refine qT 4 U ?_
 have ho1:0<=(0:Int)/\(0:Int)<((x).length:Int):=ob
 refine aM (vy (enc:=λy=>[I y]) ei fa ty3 hx.1 ho1 (eH ho1) U U U (λq1 A1=>fV ty3 A1 U (qO 7 U ?_)))
 refine fZ (ι:=Nat×Int) (λi=>[(3,I i.2)]) (λi=>h) (λi=>[]) (λi=>i.1<=x.length/\gN x=((gN.K1) i.2)) ?_ (λhx1=>?_)
 .rintro⟨i1,mv⟩ ⟨m4,hs1⟩ e
  exact sr (qO 3 U (nretP [I mv] (ci hs1)))
 refine i9 (ι:=Nat×Int×List Int) (λi=>[(0,.slice Wr x.length Wa),(3,I i.2.1),(4,I (i.1:Int))]) (λi=>h) (λi=>[]) (λi=>x.drop i.1=i.2.2/\i.1<=x.length/\gN x=((gN.L1 (gN.K1)) i.2.2 i.2.1)) (λi=>i.2.2.length) (1,(nthI x 0),(x.drop 1)) rd sw ⟨U,ob,hs0⟩ ?_
 rintro⟨i1,mv,s1⟩ ⟨hd1,m4,hs3⟩ ag1 e
 rcases s1 with _|⟨y1,rz1⟩
 .have uQ:=oW hd1
  exact qK 6 [] U (fO uQ U (qO 3 U (hx1 (i1,mv) _ ⟨m4,hs3⟩ rd)))
 have mN:=wp hd1
 have kl:=ui hd1
 have oD:=iy hd1
 have yD:=hx.1.1
 exact qK 6 [] U (tO mN U (qO 9 U (aM (iF (λy=>[I y]) fa ty3 hx.1 kl U U U (λq3 A3=>fV ty3 A3 U (aM (em (Wg U U) (qO 5 U (oi i1 U (an (ag1 ((i1+1),(min mv y1),rz1) _ (Nat.lt_succ_self _) ⟨ll hd1,iy hd1,hs3⟩ rd)))))))))))
theorem nO(h p je p_q)(tg:Int)(bD)(hp:e8.ok h p je)(ap_z:At h p_q (e8.cells p je))(hi:0<=tg/\tg<(p.shelf.docs.length:Int))(hlen:p.done.length=p.shelf.docs.length/\p.lacks.length=p.shelf.docs.length):Ret prog 97 [.pointer (some p_q),I tg,I bD] h (.tuple #[I ((cY p tg bD).1),I ((cY p tg bD).2)]):=by
 refine sT func97 U ntmps97 U λX hM hX hF=>?_
 have hs0:=@rfl _ (cY p tg bD)
 refine qT 8 U (aM (em (fU U) (qL 2 [] U (fV ty27 ap_z U (cN ?_)))))
 have ho1:0<=(tg:Int)/\(tg:Int)<((p.shelf.docs).length:Int):=ob
 refine aM (E0 EU ty54 hp.shelf.docs.1 ho1 (eH ho1) U U U (λ_ _ _ e=>e) (λq1 r1 A1 ok1=>gV ty54 A1 U U (cD zc54 (λb1=>ct 0 ty54 U U U U U U (qO 6 U (aM (em (fU U) (qL 1 [] U (nv (j:=3) ty168 ap_z U U (cN ?_))))))))))
 have ho2:0<=(tg:Int)/\(tg:Int)<((p.done).length:Int):=ob
 refine aM (vy (enc:=λy=>[.bool y]) ei Hs ty4 hp.done.1 ho2 (eH ho2) U U U (λq2 A2=>fV ty4 A2 U (qO 3 U (cQ hs0 U (λc1 hs1=>?_) (λc1 hs2=>?_)))))
 .refine qT 5 U ?_
  have hs3:cY p tg bD=(1,(-1)):=hs1
  exact nretP [I 1,I (-1)] (hs3▸U)
 refine qT 3 U (aM (em (fU U) (qL 1 [] U (nv (j:=4) ty31 ap_z U U (cN ?_)))))
 have ho3:0<=(tg:Int)/\(tg:Int)<((p.lacks).length:Int):=ob
 refine aM (vy (enc:=λy=>[I y]) ei fa ty3 hp.lacks.1 ho3 (eH ho3) U U U (λq3 A3=>fV ty3 A3 U (qO 3 U (cQ hs2 U (λc2 hs4=>?_) (λc2 hs5=>?_)))))
 .have c2p:=of_decide_eq_true c2
  refine dZ (fQ ([(b1,O (av.cells (nthI p.shelf.docs tg) r1) 54)]) mixed kr jn (λlA _=>tm 0 U (tf 1 U U (λ_ _ _=>fU U) (qB [2] U (tf 3 U U (rH 4 ty31 ap_z U U) (tm 4 U ?_))))))
  have ho4:0<=(tg:Int)/\(tg:Int)<((p.lacks).length:Int):=ob
  refine pk 5 (enc:=λy=>[I y]) lA jn ei fa ty3 hp.lacks.1 ho4 (eH ho4) U U U U kr (λq4 A4=>tf 6 U U (rh ty3 A4 U) (qA [7,8] U (dO kr ?_)))
  have hs6:cY p tg bD=(4,(nthI p.lacks tg)):=hs4
  exact nretP [I 4,I (nthI p.lacks tg)] (hs6▸U)
 have c2p:=of_decide_eq_false c2
 refine dZ ?_
 let z1:Nat×Obj:=(b1,O (av.cells (nthI p.shelf.docs tg) r1) 54)
 refine fQ ([z1]) mixed kr jn (λpc _=>?_)
 refine tm 0 U (tf 1 U U (λ_ _ _=>fU U) (qB [2] U (tf 3 U U (rH 5 ty133 ap_z U U) (qB [4] U (tf 5 U U (rj 0 ty3 U U U) (tn 6 U ?_))))))
 obtain⟨o1,hb1,hm1⟩:=hp.revoked
 refine rg (k:=(nthI p.shelf.docs tg).No) Hw (ga nz) hb1 hm1 (fG zv31) (show(VSl vB) _ (zSN) []from⟨none,0,U,qH⟩) U U (λv1 hv1=>?_)
 obtain⟨rb1,rc1,rfl,sl1⟩:=hv1
 refine⟨jn,(tf 7 U U (λ_ _ _=>Ll fa U) (qA [8,9] U (dO kr (cQ hs5 U (λc3 hs7=>?_) (λc3 hs8=>?_)))))⟩
 .have c3p:=of_decide_eq_true c3
  refine dZ (fQ ([z1]) mixed kr jn (λOX _=>tm 0 U (tf 1 U U (λ_ _ _=>fU U) (qB [2] U (tf 3 U U (rH 5 ty133 ap_z U U) (qB [4] U (tf 5 U U (rj 0 ty3 U U U) (tn 6 U ?_))))))))
  obtain⟨o2,hb2,hm2⟩:=hp.revoked
  refine rg (k:=(nthI p.shelf.docs tg).No) Hw (ga nz) hb2 hm2 (fG zv31) (show(VSl vB) _ (zSN) []from⟨none,0,U,qH⟩) U U (λv2 hv2=>?_)
  obtain⟨rb2,rc2,rfl,sl2⟩:=hv2
  refine⟨jn,(tn 7 U (jq call171 (DF _ _ _ _ sl2 ob) U (⟨jn,(qA [8,9] U (dO kr ?_))⟩)))⟩
  have hs9:cY p tg bD=(5,(gN (mgetD p.revoked ((nthI p.shelf.docs tg).No) []))):=hs7
  exact nretP [I 5,I (gN (mgetD p.revoked ((nthI p.shelf.docs tg).No) []))] (hs9▸U)
 have c3p:=of_decide_eq_false c3
 refine qK 8 [0] U (cQ hs8 U (λc4 hs10=>?_) (λc4 hs11=>?_))
 .have c4p:=of_decide_eq_true c4
  refine qT 5 U ?_
  have hs12:cY p tg bD=(2,(-1)):=hs10
  exact nretP [I 2,I (-1)] (hs12▸U)
 have c4p:=of_decide_eq_false c4
 refine qK 8 [0] U (cQ hs11 U (λc5 hs13=>?_) (λc5 hs14=>?_))
 .have c5p:=of_decide_eq_true c5
  refine qT 5 U ?_
  have hs15:cY p tg bD=(3,(-1)):=hs13
  exact nretP [I 3,I (-1)] (hs15▸U)
 have c5p:=of_decide_eq_false c5
 refine qT 7 U ?_
 have hs16:cY p tg bD=(0,(-1)):=hs14
 exact nretP [I 0,I (-1)] (hs16▸U)
theorem Cd(cmp:Int->Int->Int):∀(j:Nat)(xs:List Int),(insIn cmp j xs).length=xs.length
 |0,xs=>rfl
 |j+1,xs=>by
  simp only[insIn,Bool.cond_eq_ite]
  split
  .rw[Cd cmp j];simp
  rfl
theorem Fo(cmp:Int->Int->Int):∀(j:Nat)(xs:List Int),j<xs.length->∀x∈insIn cmp j xs,x∈xs
 |0,xs,_,x,hx=>hx
 |j+1,xs,hj,x,hx=>by
  simp only[insIn,Bool.cond_eq_ite]at hx
  split at hx
  .have h1:=Fo cmp j _ (by simp;omega) x hx
   rcases List.mem_or_eq_of_mem_set h1 with h1|rfl
   .rcases List.mem_or_eq_of_mem_set h1 with h1|rfl
    .exact h1
    simp[List.getD_eq_getElem?_getD,show j<xs.length by omega]
   simp[List.getD_eq_getElem?_getD,show j+1<xs.length by omega]
  exact hx
theorem IX(cmp:Int->Int->Int):∀(m i:Nat)(xs:List Int),(insOut cmp m i xs).length=xs.length
 |0,_,_=>rfl
 |m+1,i,xs=>by simp only[insOut];rw[IX cmp m,Cd]
theorem HS(xs:List Int)(cmp:Int->Int->Int):(fB xs cmp).length=xs.length:=IX _ _ _ _
theorem DB(j:Nat)(hj:j<9223372036854775807):jC .i64 (IntKind.i64.wrap (((j+1:Nat):Int)-1))=I (j:Int):=by
 rw[kW ob];congr 1;omega
theorem qv(h)(xs:List Int)(b c G)(cmp:Int->Int->Int)(cmp_v)(hG:cI vB 3 h xs b c G)(hcmp:∀(h':HF)(fh CE:Int),jL h h'->fh∈xs->CE∈xs->ra prog cmp_v [I fh,I CE] h' [] (I (cmp fh CE)))(hsz:xs.length<=2000000):
  oX prog 384 [.slice b xs.length c,I 0,I (xs.length:Int),cmp_v].toArray h G (λr h' G'=>h'=h/\r=.returned (.tuple #[])/\cI vB 3 h (fB xs cmp) b c G'):=by
 refine dL func384 U ntmps384 U λX hM hX=>qT 3 U (gE (v':=I ((1:Nat):Int)) U U (an ?_))
 refine fZ (ι:=List Int×LH) (λi=>[]) (λi=>h) (λi=>i.2) (λi=>i.1=fB xs cmp/\cI vB 3 h i.1 b c i.2) ?_ (λhx=>?_)
 .rintro⟨ys,G'⟩ ⟨hs,hG'⟩ e
  dsimp only at hs hG'
  exact AE func384 (λa _ w _=>nJ U a w) (λw hw=>hw.lower) ⟨hX,U,hs▸hG'⟩
 refine i9 (ι:=Nat×List Int×LH) (λi=>[(0,.slice b xs.length c),(1,I 0),(2,I (xs.length:Int)),(3,cmp_v),(8,I (i.1:Int))]) (λi=>h) (λi=>i.2.2)
  (λi=>insOut cmp (xs.length-i.1) i.1 i.2.1=fB xs cmp/\1<=i.1/\i.2.1.length=xs.length/\(∀x∈i.2.1,x∈xs)/\cI vB 3 h i.2.1 b c i.2.2) (λi=>xs.length-i.1) (1,xs,G) rd (λw hw=>hw) ⟨rfl,xE _,rfl,λ_ hx=>hx,hG⟩ ?_
 rintro⟨i,ys,G1⟩ ⟨hs,hi1,hyl,hym,hG1⟩ ag e
 dsimp only at hs hi1 hyl hym hG1
 rcases zK i xs.length with hi|hi
 .refine qT 5 U (tO (decide_eq_true ob) U (qO 10 U ?_))
  refine fZ (ι:=List Int×LH) (λq=>[(0,.slice b xs.length c),(1,I 0),(2,I (xs.length:Int)),(3,cmp_v),(8,I (i:Int))]) (λq=>h) (λq=>q.2) (λq=>q.1=insIn cmp i ys/\cI vB 3 h q.1 b c q.2) ?_ (λhy=>?_)
  .rintro⟨zs,G2⟩ ⟨hz,hG2⟩ e2
   dsimp only at hz hG2
   subst hz
   refine qT 3 U (oi i U (an (ag (i+1,insIn cmp i ys,G2) _ (by show xs.length-(i+1)<xs.length-i;omega) ⟨?_,by show 1<=i+1;omega,by show(insIn cmp i ys).length=xs.length;rw[Cd];exact hyl,λx hx=>hym x (Fo cmp i ys ob x hx),hG2⟩ rd)))
   show insOut cmp (xs.length-(i+1)) (i+1) (insIn cmp i ys)=_
   rw[←hs,show xs.length-i=(xs.length-(i+1))+1 from by omega];rfl
  refine i9 (ι:=Nat×List Int×LH) (λq=>[(0,.slice b xs.length c),(1,I 0),(2,I (xs.length:Int)),(3,cmp_v),(8,I (i:Int)),(9,I (q.1:Int))]) (λq=>h) (λq=>q.2.2)
   (λq=>insIn cmp q.1 q.2.1=insIn cmp i ys/\q.1<=i/\q.2.1.length=xs.length/\(∀x∈q.2.1,x∈xs)/\cI vB 3 h q.2.1 b c q.2.2) (λq=>q.1) (i,ys,G1) rd (λw hw=>hw) ⟨rfl,xE _,hyl,hym,hG1⟩ ?_
  rintro⟨j,zs,G2⟩ ⟨hz,hji,hzl,hzm,hG2⟩ ag2 e2
  dsimp only at hz hji hzl hzm hG2
  have J0:∀{L:LH},Jst h [] h L:=Eb (List.nil_sublist _)
  obtain⟨bk,hbk⟩:=hG2.yJ ob
  have JG:Jst h G2 h G2:=Eb (List.Sublist.refl _)
  refine qT 2 U (fQ G2 mixed kr JG (λhsep _=>ic 0 hsep JG U U kr U (λ_ _ _=>ku) (ic 1 hsep JG U U kr U (λ_ _ _=>ku) ?_)))
  rcases j with _|j
  .exact ic 2 hsep JG U U kr U (λ_ _ _=>AR (v':=.bool false) U (cb (decide_eq_false ob))) (ic 3 hsep JG U U kr U (λ_ _ _=>ku) (nB 4 hsep JG U U kr U (nB 5 hsep JG U U kr U (nB 6 hsep JG U U kr U (nB 7 hsep JG U U kr U (nB 8 hsep JG U U kr U (nB 9 hsep JG U U kr U (nB 10 hsep JG U U kr U (nB 11 hsep JG U U kr U (nB 12 hsep JG U U kr U (nB 13 hsep JG U U kr U (nB 14 hsep JG U U kr U (nB 15 hsep JG U U kr U (ic 16 hsep JG U U kr U (λ_ _ _=>PV U) (dO kr (qT 2 U (hy (zs,G2) _ ⟨hz,hG2⟩ rd)))))))))))))))))
  have hj1:zs[j+1]? = some (zs.getD (j+1) 0):=by simp[List.getD_eq_getElem?_getD,show j+1<zs.length by omega]
  have hj0:zs[j]? = some (zs.getD j 0):=by simp[List.getD_eq_getElem?_getD,show j<zs.length by omega]
  have hjn:(((j+1:Nat):Int)).toNat=j+1:=by omega
  have hjn0:((j:Int)).toNat=j:=by omega
  refine ic 2 hsep JG U U kr U (λ_ _ _=>AR (v':=.bool true) U (cb (decide_eq_true ob))) (ic 3 hsep JG U U kr U (λ_ _ _=>ku) (ic 4 hsep JG U U kr U (λ_ _ _=>ku) (ic 5 hsep JG U U kr U (λ_ _ _=>ku) (ic 6 hsep JG U U kr U (λ_ _ _=>ku) (ic 7 hsep JG U U kr U (λ_ _ _=>oa (R:=vB) (xs:=zs) (z:=((j+1:Nat):Int)) fa ty3 hbk ob U hzl.symm U) (ic 8 hsep JG U U kr U (λ_ _ hj=>FW (R:=vB) (off:=0) (i:=j+1) ty3 hG2 hbk hj1 (λcs_z hcs=>by rw[show cs_z=[I (zs.getD (j+1) 0)]from hcs];rfl) (by rfl) (λp hp=>hj.2 p hp)) (ic 9 hsep JG U U kr U (λ_ _ _=>ku) (ic 10 hsep JG U U kr U (λ_ _ _=>ku) (ic 11 hsep JG U U kr U (λ_ _ _=>AR (v':=I (j:Int)) U (DB j ob)) (ic 12 hsep JG U U kr U (λ_ _ _=>oa (R:=vB) (xs:=zs) (z:=(j:Int)) fa ty3 hbk ob U hzl.symm U) (ic 13 hsep JG U U kr U (λ_ _ hj=>FW (R:=vB) (off:=0) (i:=j) ty3 hG2 hbk hj0 (λcs_z hcs=>by rw[show cs_z=[I (zs.getD j 0)]from hcs];rfl) (by rfl) (λp hp=>hj.2 p hp)) (tn 14 U (kj (v:=I (cmp (zs.getD (j+1) 0) (zs.getD j 0))) [] (List.nil_sublist _) (hcmp h (zs.getD (j+1) 0) (zs.getD j 0) lf (hzm _ (xD hj1)) (hzm _ (xD hj0))) U U ⟨JG,ic 15 hsep JG U U kr U (λ_ _ _=>Oe U) (ic 16 hsep JG U U kr U (λ_ _ _=>PV U) (dO kr (ld U (λhc=>iL ?_) (λhc=>?_))))⟩)))))))))))))
  .refine qT 2 U (fQ [] mixed kr J0 (λpc _=>ic 0 pc J0 U U kr U (λ_ _ _=>ku) (ic 1 pc J0 U U kr U (λ_ _ _=>ku) (ic 5 pc J0 U U kr U (λ_ _ _=>ku) (ic 6 pc J0 U U kr U (λ_ _ _=>ku) (ic 2 pc J0 U U kr U (λ_ _ _=>ku) (ic 3 pc J0 U U kr U (λ_ _ _=>ku) (ic 4 pc J0 U U kr U (λ_ _ _=>AR (v':=I (j:Int)) U (DB j ob)) (ic 7 pc J0 U U kr U (λ_ _ _=>AR (v':=I (j:Int)) U (DB j ob)) (ic 8 pc J0 U U kr U (λ_ _ _=>oa (R:=vB) (xs:=zs) (z:=(j:Int)) fa ty3 hbk ob U hzl.symm U) (ic 10 pc J0 U U kr U (λ_ _ _=>ku) (ic 11 pc J0 U U kr U (λ_ _ _=>ku) (ic 12 pc J0 U U kr U (λ_ _ _=>oa (R:=vB) (xs:=zs) (z:=((j+1:Nat):Int)) fa ty3 hbk ob U hzl.symm U) ?_)))))))))))))
   refine nq 9 13 kr U U
    (em (FW (R:=vB) (off:=0) (i:=j) ty3 hG2 hbk hj0 (λcs_z hcs=>by rw[show cs_z=[I (zs.getD j 0)]from hcs];rfl) (by rfl) (λp hp=>hp)) ⟨J0,tn 13 rfl (em (FW (R:=vB) (off:=0) (i:=j+1) ty3 hG2 hbk hj1 (λcs_z hcs=>by rw[show cs_z=[I (zs.getD (j+1) 0)]from hcs];rfl) (by rfl) (λp hp=>hp)) ⟨J0,?_⟩)⟩)
    (em (FW (R:=vB) (off:=0) (i:=j+1) ty3 hG2 hbk hj1 (λcs_z hcs=>by rw[show cs_z=[I (zs.getD (j+1) 0)]from hcs];rfl) (by rfl) (λp hp=>hp)) ⟨J0,tn 9 rfl (em (FW (R:=vB) (off:=0) (i:=j) ty3 hG2 hbk hj0 (λcs_z hcs=>by rw[show cs_z=[I (zs.getD j 0)]from hcs];rfl) (by rfl) (λp hp=>hp)) ⟨J0,?_⟩)⟩)
   all_goals
    refine ic 14 pc J0 U U kr U (λ_ _ _=>oa (R:=vB) (xs:=zs) (z:=((j+1:Nat):Int)) fa ty3 hbk ob U hzl.symm U) (tn 15 U (vv (R:=vB) (i:=j+1) (off:=0) (u:=zs.getD (j+1) 0) (u':=zs.getD j 0) (v:=I (zs.getD j 0)) [] G2 [] ty3 U hG2 (by simp) hbk hj1 (by decide) (λcs_z hcs=>by rw[show cs_z=[I (zs.getD (j+1) 0)]from hcs];rfl) (by rfl) U U (λG3 hG3=>⟨J0,?_⟩)))
    rw[vD,List.append_nil]
    refine ic 16 pc J0 U U kr U (λ_ _ _=>oa (R:=vB) (xs:=zs) (z:=(j:Int)) fa ty3 hbk ob U hzl.symm U) ?_
    have hj0':(zs.set (j+1) (zs.getD j 0))[j]? = some (zs.getD j 0):=by rw[List.getElem?_set_ne ob];exact hj0
    refine tn 17 U (vv (R:=vB) (i:=j) (off:=0) (u:=zs.getD j 0) (u':=zs.getD (j+1) 0) (v:=I (zs.getD (j+1) 0)) [] G3 [] ty3 U hG3 (by simp) hbk hj0' (by decide) (λcs_z hcs=>by rw[show cs_z=[I (zs.getD j 0)]from hcs];rfl) (by rfl) U U (λG4 hG4=>⟨J0,?_⟩))
    rw[vD,List.append_nil]
    refine dO kr (qT 3 U (gE (v':=I (j:Int)) U (DB j ob) (an (ag2 (j,(zs.set (j+1) (zs.getD j 0)).set j (zs.getD (j+1) 0),G4) _ (Nat.lt_succ_self _) ⟨?_,by show j<=i;omega,by show((zs.set (j+1) (zs.getD j 0)).set j (zs.getD (j+1) 0)).length=xs.length;simpa using hzl,λx hx=>(List.mem_or_eq_of_mem_set hx).elim (λhx=>(List.mem_or_eq_of_mem_set hx).elim (hzm x) (λhx=>hx▸hzm _ (xD hj0))) (λhx=>hx▸hzm _ (xD hj1)),hG4⟩ rd))))
    show insIn cmp j ((zs.set (j+1) (zs.getD j 0)).set j (zs.getD (j+1) 0))=insIn cmp i ys
    rw[←hz];simp only[insIn,hc,cond_true]
  refine jZ U (hy (zs,G2) _ ⟨?_,hG2⟩ rd)
  show zs=insIn cmp i ys
  rw[←hz];simp only[insIn,hc,cond_false]
 refine qT 5 U (fO (decide_eq_false ob) U (qO 3 U (hx (ys,G1) _ ⟨?_,hG1⟩ trivial)))
 show ys=_
 rw[←hs,show xs.length-i=0 from by omega];rfl
theorem uD(h)(xs:List Int)(b c G)(cmp:Int->Int->Int)(cmp_v)(hG:cI vB 3 h xs b c G)(hcmp:∀(h':HF)(fh CE:Int),jL h h'->fh∈xs->CE∈xs->ra prog cmp_v [I fh,I CE] h' [] (I (cmp fh CE)))(hsz:xs.length<20):
  oX prog 334 [.slice b xs.length c,I (xs.length:Int),cmp_v].toArray h G (λr h' G'=>h'=h/\r=.returned (.tuple #[])/\cI vB 3 h (fB xs cmp) b c G'):=by
 refine dL func334 U ntmps334 U λX hM hX=>qT 12 U (HH (qT 5 U (fO (decide_eq_false ob) U (qO 9 U (aM (ni [] G [] call384 (qv h xs b c G cmp cmp_v hG hcmp ob) (by simp) U (λG2 hG2=>?_)))))))
 rw[vD,List.append_nil]
 exact bM (nf (HH (qT 5 U (fO (decide_eq_false ob) U (qO 3 U (AE func334 (λa _ w _=>nJ U a w) (λw hw=>hw.lower) ⟨hX,U,hG2⟩))))))
theorem ud(h)(xs:List Int)(b c G)(cmp:Int->Int->Int)(cmp_v)(hG:cI vB 3 h xs b c G)(hcmp:∀(h':HF)(fh CE:Int),jL h h'->fh∈xs->CE∈xs->ra prog cmp_v [I fh,I CE] h' [] (I (cmp fh CE)))(hsz:xs.length<20):
  oX prog 258 [.slice b xs.length c,cmp_v].toArray h G (λr h' G'=>h'=h/\r=.returned (.tuple #[])/\cI vB 3 h (fB xs cmp) b c G'):=by
 refine dL func258 U ntmps258 U λX hM hX=>qK 5 [] U (aM (ni [] G [] call334 (uD h xs b c G cmp cmp_v hG hcmp hsz) (by simp) U (λG2 hG2=>?_)))
 rw[vD,List.append_nil]
 exact bM (AE func258 (λa _ w _=>nJ U a w) (λw hw=>hw.lower) ⟨hX,U,hG2⟩)
theorem wu(h x y)  : Ret prog 86 [I x,I y] h (I (cmp_Compare_int x y)):=by
 refine sVv func86 ntmps86 ?_
 generalize hz:(cmp_Compare_int x y)=z
 exact W
instance kC86:Ct 86:=⟨_,call86,@wu⟩
theorem uh(h)(a:Int)(m6:Int)(p je p_p p_q)(hp:uk.ok h p je)(pp:At h p_p (uk.cells p je))(ap_z:At h p_q [.pointer (some p_p)])(ha:0<=a/\a<(p.signed.length:Int))(hb:0<=m6/\m6<(p.signed.length:Int)):Ret prog 259 [I a,I m6,.pointer (some p_q)] h (I (j5 a m6 p)):=by
 refine sT func259 U ntmps259 U λX hM hX hF=>?_
 have hs0:=@rfl _ (j5 a m6 p)
 refine qT 5 U (fQ ([]) mixed kr jn (λlA _=>tf 0 U U (rh ty153 ap_z U) (tf 1 U U (λ_ _ _=>fU U) (qB [2] U (tf 3 U U (rH 2 ty31 pp U U) (tm 4 U ?_))))))
 have ho1:0<=(a:Int)/\(a:Int)<((p.signed).length:Int):=ob
 refine pk 5 (enc:=λy=>[I y]) lA jn ei fa ty3 hp.signed.1 ho1 (eH ho1) U U U U kr (λq1 A1=>tf 6 U U (rh ty3 A1 U) (tf 7 U U (rh ty153 ap_z U) (tf 8 U U (λ_ _ _=>fU U) (qB [9] U (tf 10 U U (rH 2 ty31 pp U U) (tm 11 U ?_))))))
 have ho2:0<=(m6:Int)/\(m6:Int)<((p.signed).length:Int):=ob
 exact pk 12 (enc:=λy=>[I y]) lA jn ei fa ty3 hp.signed.1 ho2 (eH ho2) U U U U kr (λq2 A2=>tf 13 U U (rh ty3 A2 U) (tn 14 U (jq call86 (wu h (nthI p.signed a) (nthI p.signed m6)) U (⟨jn,(qA [15] U (dO kr (nretP [I (cmp_Compare_int (nthI p.signed a) (nthI p.signed m6))] (ci hs0))))⟩))))
theorem yW(h v0 ye yd v0_q)(hv0:SlC vB h ye yd v0)(av0:At h v0_q [.slice ye v0.length yd]):Itr prog (.func (.func 335) #[] (kB [.pointer (some v0_q)])) te (ft v0) h:=by
 refine sR call335 ?_
 generalize hz:ft v0=z;have hs:=hz.symm
 intro yf ya yb C Sp Pn h1 A dN m1 m2 m3 hC hy
 refine sTY func335 U ntmps335 U λX hXM hX hF=>?_
 have hv:z=[]++z:=rfl
 have HA:=h0 [0,5,6] 7 (λs1 i=>(ft.L1 (ft.K1)) s1)
 exact W
instance kI335:CtI 335:=⟨_,@yW⟩
theorem AJ(h s qy pZ)(hs:SlC vB h qy pZ s):jv prog 260 [.slice qy s.length pZ] h (λv h'=>∃(rv0:Value),v=rv0/\Itr prog rv0 te (ng s) h'):=by
 refine sVv func260 ntmps260 ?_
 generalize hz:(ng s)=z
 exact W
theorem wo(h p je p_q lx)(hp:uk.ok h p je)(ap_z:At h p_q (uk.cells p je))(hsg:p.signed.length<20):jv prog 169 [.pointer (some p_q),I lx] h (λv h'=>∃(rv0:Value),v=rv0/\Itr prog rv0 te (bL p lx) h'):=by
 refine sT func169 U ntmps169 U λX hM hX hF=>?_
 have hs0:=@rfl _ (bL p lx)
 refine sr (iA (λb1=>qL 10 [0] U (aM (em (fU U) (qL 1 [] U (nv (j:=2) ty31 ap_z U U (qL 3 [] U ?_)))))))
 let z1:Nat×Obj:=(b1,O [.pointer (some p_q)] 153)
 refine lp2 p.signed (λi w=>[(1,I lx),(2,Q b1),(5,.slice w.2.1 w.1.length w.2.2.1),(11,.slice je.bK p.signed.length je.bJ),(12,I (p.signed.length:Int)),(13,I (i:Int))]) (λ_=>h) (λw=>[z1]++(w.2.2.2)) (λi w=>cI vB 3 h w.1 w.2.1 w.2.2.1 w.2.2.2/\w.1.length<=0+i/\(∀x∈w.1,0<=x/\x<(p.signed.length:Int))) (λs1 i w=>(bL.L1 lx (bL.K1 p)) s1 i w.1) ([],none,0,[]) hp.signed.1.1 hs0 ⟨cI.nil,lo,(λx hx=>(jA hx).elim)⟩ ?_ ?_
 .rintro i1 ⟨fW,Aa,zZ,Rx⟩ m4 hs1 ⟨tQ,Jo,u1_0⟩ e
  try dsimp only at tQ Jo u1_0
  refine qT 3 U (dF 0 U hM (λh1 hle1 hb1=>aM (jy U U (aM (ni ([]) Rx ([]) call258 (ud h1 fW Aa zZ Rx (λfh CE=>j5 fh CE p) (.func (.func 259) #[] #[Q b1]) (tQ.mono kM hle1) (λh' fh CE dN Xr XY=>jd call259 (uh h' fh CE p je p_q ⟨b1,0,none⟩  ((hp.mono hle1).mono dN) ((ap_z.mono hle1).mono dN) ((fJ hb1).mono dN) (u1_0 _ Xr) (u1_0 _ XY))) (by first|assumption|omega)) ap U (λG1 gr1=>kX (L':=G1) ap (qO 4 U (sL kM ([]) G1 ([]) ap hM gr1 (λh2 hle2 sl1=>aM (cW call260 (AJ _ _ _ _ sl1) (by first|rfl|(simp only[HS,iE];rfl)) (λv1 h3 hle3 hp1=>?_)))))))))))
  obtain⟨_,rfl,mo1⟩:=hp1
  refine an ?_
  have hs2:bL p lx=(ng (fB fW (λfh CE=>j5 fh CE p))):=hs1
  exact nretH [v1] (hs2▸⟨v1,U,mo1⟩)
 rintro i1 ⟨fW,Aa,zZ,Rx⟩ y1 rz1 hd1 mN kl oD yD hs3 ⟨tQ,Jo,u1_0⟩ hx1 ag1 e
 try dsimp only at tQ Jo u1_0
 refine sr (tO mN U (qO 9 U (aM (iF (λy=>[I y]) fa ty3 hp.signed.1 kl U U U (λq2 A2=>fV ty3 A2 U (qO 8 U (nY 4 [20,21,22,23,24] 20 24 (decide (y1<=lx)) U (λc1 hk1=>?_) (λe=>?_))))))))
 .exact cN (qO 3 U (hk1 _ U))
 refine bM (cQ hs3 U (λc2 hs4=>?_) (λc2 hs5=>?_))
 .exact bS (qO 2 U (aM (bW (cells:=[I (i1:Int)]) fa ty3 zc3 U U kr (λb2=>aM (fd ZO ([(b2,O [I (i1:Int)] 3),z1]) ([]) (λG=>[(b2,O [I (i1:Int)] 3),z1]++G) ap (λ_=>ap) fa ty3 zc3 U bytes3 tQ U U (iM 0 U (cE (i1:Int) U U)) lo lo (λob1 oc1 G2 gr2=>qO 4 U (oi i1 U (qO 2 U (dE (L':=[z1]++G2) js (ag1 ((fW++[(i1:Int)]),ob1,oc1,G2) hs4 ⟨gr2,lo,(by first|assumption|exact λx hx=>(kF.1 hx).elim (u1_0 x) (λhx=>by rw[xC.1 hx];omega))⟩))))))))))
 exact iL (qT 2 U (oi i1 U (qO 2 U (ag1 (fW,Aa,zZ,Rx) hs5 ⟨tQ,lo,(by first|assumption|exact λx hx=>(kF.1 hx).elim (u1_0 x) (λhx=>by rw[xC.1 hx];omega))⟩))))
theorem xn(h v0 ye yd v0_q)(hv0:SlC vB h ye yd v0)(av0:At h v0_q [.slice ye v0.length yd]):Itr prog (.func (.func 261) #[] (kB [.pointer (some v0_q)])) Bm (ke v0) h:=by
 refine sR call261 ?_
 intro yf ya yb C Sp Pn h1 A dN m1 m2 m3 hC hy
 refine mP S9 U ntmps261 U λX hXM hX=>?_
 have hbd:=hv0.1.1
 refine sr (fV ty31 (av0.mono dN) U (qL 1 [] U (gE (v':=I ((v0.length:Int)-1)) U (kW ob) (qO 3 U ?_))))
 refine i9 (ι:=Nat×List (Int×Int)×LH×HF) (λi=>[(0,.func yf ya yb),(1,.pointer (some v0_q)),(3,I ((i.1:Int)-1))]) (λi=>i.2.2.2) (λi=>i.2.2.1)
  (λi=>ke v0=i.2.1++backL v0 i.1/\i.1<=v0.length/\C i.2.1 i.2.2.2 i.2.2.1/\jL h1 i.2.2.2) (λi=>i.1) (v0.length,[],A,h1) rd (λw hw=>hw) ⟨rfl,xE _,hC,qF _⟩ ?_
 rintro⟨m,dn,A1,hh⟩ ⟨hs,hm,hC1,hl1⟩ ag e
 dsimp only at hs hm hC1 hl1
 rcases m with _|m
 .exact dZ (qT 3 U (fO (decide_eq_false ob) U (qO 3 U (ij (Bo [] (A:=A1) S9 U (List.Sublist.refl _) (.inl ((show ke v0=dn from hs.trans (List.append_nil _))▸hC1)))))))
 have e1:(((m+1:Nat):Int)-1)=(m:Int):=by omega
 rw[e1]
 have ho:0<=(m:Int)/\(m:Int)<(v0.length:Int):=by omega
 refine qT 4 U (tO (decide_eq_true ob) U (qO 9 U (fV ty31 (av0.mono (dN.t hl1)) U (cN (aM (vy (enc:=λy=>[I y]) ei fa ty3 (hv0.mono kM (dN.t hl1)).1 ho (eH ho) U U U (λq2 A5=>fV ty3 A5 U ?_)))))))
 have hx:ke v0=dn++(((m:Int),nthI v0 (m:Int))::backL v0 m):=hs
 refine aM (qn ([]) A1 U (hy dn ((m:Int),nthI v0 (m:Int)) _ _ _ _ hx hl1 hC1 U) U U (λh5 A6 hle4 hC2=>?_) (λh6 A7 hle5 hS2=>?_) (λch2 h7 A8 hle6 hP2 e=>mz (xO [] (A:=A8) S9 (List.sublist_append_right _ _) hP2)))
 .have hs4:ke v0=(dn++[((m:Int),nthI v0 (m:Int))])++backL v0 m:=hx.trans ap
  exact qf U (qO 6 U (gE (v':=I ((m:Int)-1)) U (kW ob) (an (ag (m,dn++[((m:Int),nthI v0 (m:Int))],A6,h5) _ (Nat.lt_succ_self _) ⟨hs4,by show m<=v0.length;omega,hC2,kA hl1 hle4⟩ rd))))
 exact qf U (qO 2 U (ij (xI [] (A:=A7) S9 U (List.Sublist.refl _) (.inr hS2))))
instance kI261:CtI 261:=⟨_,@xn⟩
theorem yX(h s qy pZ)(hs:SlC vB h qy pZ s):jv prog 170 [.slice qy s.length pZ] h (λv h'=>∃(rv0:Value),v=rv0/\Itr prog rv0 Bm (mH s) h'):=by
 refine sVv func170 ntmps170 ?_
 generalize hz:(mH s)=z
 exact W
theorem PG(s:List Int):ng s=s:=by
  show ft.L1 ft.K1 s=s
  induction s with
  |nil=>rfl
  |cons y s ih=>simp only[ft.L1,ih]
theorem IW(cmp:Int->Int->Int):∀(m i:Nat)(xs:List Int),m=0\/i+m<=xs.length->∀x∈insOut cmp m i xs,x∈xs
  |0,_,_,_,x,hx=>hx
  |m+1,i,xs,h,x,hx=>by
    simp only[insOut]at hx
    exact Fo cmp i xs ob x (IW cmp m (i+1) _ (by rw[Cd];omega) x hx)
theorem PI(xs:List Int)(cmp:Int->Int->Int):∀x∈fB xs cmp,x∈xs:=IW _ _ _ _ ob
theorem HU(p:e8)(bD):∀(s:List Int)(i:Nat)(g:List Int),(∀x∈g,0<=x/\x<(i:Int))->g.length<=i ->
  (∀x∈bL.L1 bD (bL.K1 p) s i g,0<=x/\x<((i+s.length:Nat):Int))/\(bL.L1 bD (bL.K1 p) s i g).length<=i+s.length:=by
 intro s
 induction s with
 |nil=>
  intro i g hg hl
  simp only[bL.L1,bL.K1,PG,jB,Nat.add_zero,HS]
  exact⟨λx hx=>hg x (PI _ _ x hx),hl⟩
 |cons y s ih=>
  intro i g hg hl
  have e1:i+(y::s).length=(i+1)+s.length:=by simp only[xA];omega
  rw[e1]
  simp only[bL.L1,Bool.cond_eq_ite]
  split
  .refine ih (i+1) _ (λx hx=>?_) lo
   rcases kF.1 hx with hx|hx
   .have:=hg x hx;omega
   rw[xC.1 hx];omega
  exact ih (i+1) g (λx hx=>by have:=hg x hx;omega) ob
theorem NY(p:e8)(bD):∀x∈bL p bD,0<=x/\x<(p.signed.length:Int):=by
  have:=(HU p bD p.signed 0 [] (λ_ h=>(jA h).elim) (xE _)).1
  simpa[bL]using this
theorem NX(p:e8)(bD):(bL p bD).length<=p.signed.length:=by
  have:=(HU p bD p.signed 0 [] (λ_ h=>(jA h).elim) (xE _)).2
  simpa[bL]using this
theorem FRi.mono{h':HF}(hl:h.le h'){m:List (Int×Option Addr×Nat×Nat)}{f:List (Int×List Int)}{G:LH}(x:FRi h m f G):FRi h' m f G:=FRg.mono kM hl x
section
variable {b0:Frame} {n:Nat} {ops:Array Oper} {F:List Frame->(Machine->Prop)->Prop} {ds:List Deferred} {X:Cx} {e:Env} {h h':HF} {L:LH} {l:List av} {lb:Option Addr} {lc_z:Nat} {sg:List Int} {sb:Option Addr} {sc:Nat} {at_:Int} {q4:Addr} {a b c d f g t:Bool} {ty:TypeId} {pos:String} {af:Array Edge}
theorem XS(hl:SlC av.rp h lb lc_z l)(hI:PlI h l lb lc_z sg sb sc at_ q4 false b c d f g t e h' L):
    Stp prog b0 n ops F ds X ⟨some 17,.call ⟨.value (.func 130),#[.tmp 16],#[27]⟩,ty,pos,af,none⟩ e h' L (λe2 h2 L2=>Jst h [] h2 L2/\PlI h l lb lc_z sg sb sc at_ q4 true b c d f g t e2 h2 L2):=by
  obtain⟨hv,dN,⟨k2,k4,k16,k18,k20,k23⟩,sq,b5,b8,b9,b12,b11,x1,x5,x8,x9,x12,x10,x11,hL⟩:=hI
  cases g<;>cases t<;>simp at hv
  refine cW call130 (sG h' l lb lc_z (hl.mono av.aK dN)) (congrArg (λx=>[x]) k16) (λv h2 hl2 hp=>?_)
  obtain⟨r2,rfl,ok2⟩:=hp
  exact⟨⟨kA dN hl2,λ_ hp=>(jA hp).elim⟩,U,kA dN hl2,⟨k2,k4,k16,k18,k20,k23⟩,r2,b5,b8,b9,b12,b11,λ_=>⟨U,ok2⟩,x5,x8,x9,x12,λh=>(by cases h),λh=>(by cases h),hL⟩
theorem XQ(hn:l.length<20)(hI:PlI h l lb lc_z sg sb sc at_ q4 a false c d f g t e h' L):
    Stp prog b0 n ops F ds X ⟨some 21,.makeSlice 168 (.tmp 20) (.tmp 20),ty,pos,af,none⟩ e h' L (λe2 h2 L2=>Jst h [] h2 L2/\PlI h l lb lc_z sg sb sc at_ q4 a true c d f g t e2 h2 L2):=by
  obtain⟨hv,dN,⟨k2,k4,k16,k18,k20,k23⟩,sq,b5,b8,b9,b12,b11,x1,x5,x8,x9,x12,x10,x11,hL⟩:=hI
  cases g<;>cases t<;>simp at hv
  refine Ld Hs zc4 ty4 bytes4 k20 k20 ob ob (λbk=>?_)
  exact⟨⟨dN,λ_ hp=>(jA hp).elim⟩,U,dN,⟨k2,k4,k16,k18,k20,k23⟩,sq,bk,b8,b9,b12,b11,x1,λ_=>U,x8,x9,x12,λh=>(by cases h),λh=>(by cases h),
    (List.Perm.cons _ hL).trans (pmid (pmid (pmid (pmid (List.Perm.refl _)))))⟩
theorem XP(hn:l.length<20)(hI:PlI h l lb lc_z sg sb sc at_ q4 a b false d f g t e h' L):
    Stp prog b0 n ops F ds X ⟨some 24,.makeSlice 31 (.tmp 23) (.tmp 23),ty,pos,af,none⟩ e h' L (λe2 h2 L2=>Jst h [] h2 L2/\PlI h l lb lc_z sg sb sc at_ q4 a b true d f g t e2 h2 L2):=by
  obtain⟨hv,dN,⟨k2,k4,k16,k18,k20,k23⟩,sq,b5,b8,b9,b12,b11,x1,x5,x8,x9,x12,x10,x11,hL⟩:=hI
  cases g<;>cases t<;>simp at hv
  refine Ld fa zc3 ty3 bytes3 k23 k23 ob ob (λbk=>?_)
  exact⟨⟨dN,λ_ hp=>(jA hp).elim⟩,U,dN,⟨k2,k4,k16,k18,k20,k23⟩,sq,b5,bk,b9,b12,b11,x1,x5,λ_=>U,x9,x12,λh=>(by cases h),λh=>(by cases h),
    (List.Perm.cons _ hL).trans (pmid (pmid (pmid (List.Perm.refl _))))⟩
theorem XO(hI:PlI h l lb lc_z sg sb sc at_ q4 a b c false f g t e h' L):
    Stp prog b0 n ops F ds X ⟨some 25,.makeMap 133 none,ty,pos,af,none⟩ e h' L (λe2 h2 L2=>Jst h [] h2 L2/\PlI h l lb lc_z sg sb sc at_ q4 a b c true f g t e2 h2 L2):=by
  obtain⟨hv,dN,⟨k2,k4,k16,k18,k20,k23⟩,sq,b5,b8,b9,b12,b11,x1,x5,x8,x9,x12,x10,x11,hL⟩:=hI
  cases g<;>cases t<;>simp at hv
  refine s7 (λbk=>?_)
  exact⟨⟨dN,λ_ hp=>(jA hp).elim⟩,U,dN,⟨k2,k4,k16,k18,k20,k23⟩,sq,b5,b8,bk,b12,b11,x1,x5,x8,λ_=>U,x12,λh=>(by cases h),λh=>(by cases h),
    (List.Perm.cons _ hL).trans (pmid (pmid (List.Perm.refl _)))⟩
theorem Xl(hI:PlI h l lb lc_z sg sb sc at_ q4 a b c d false g t e h' L):
    Stp prog b0 n ops F ds X ⟨some 7,.alloc 153,ty,pos,af,none⟩ e h' L (λe2 h2 L2=>Jst h [] h2 L2/\PlI h l lb lc_z sg sb sc at_ q4 a b c d true g t e2 h2 L2):=by
  obtain⟨hv,dN,⟨k2,k4,k16,k18,k20,k23⟩,sq,b5,b8,b9,b12,b11,x1,x5,x8,x9,x12,x10,x11,hL⟩:=hI
  refine BT zc153 (λbk=>?_)
  exact⟨⟨dN,λ_ hp=>(jA hp).elim⟩,hv,dN,⟨k2,k4,k16,k18,k20,k23⟩,sq,b5,b8,b9,bk,b11,x1,x5,x8,x9,λ_=>U,x10,x11,
    (List.Perm.cons _ hL).trans (pmid (List.Perm.refl _))⟩
theorem Xn(ha:(a&&b&&c&&d)=true)(hI:PlI h l lb lc_z sg sb sc at_ q4 a b c d f false t e h' L):
    Stp prog b0 n ops F ds X ⟨some 26,.build 218 #[(0,.tmp 17),(1,.tmp 18),(2,.tmp 21),(3,.tmp 24),(4,.tmp 25)],ty,pos,af,none⟩ e h' L (λe2 h2 L2=>Jst h [] h2 L2/\PlI h l lb lc_z sg sb sc at_ q4 a b c d f true t e2 h2 L2):=by
  obtain⟨hv,dN,⟨k2,k4,k16,k18,k20,k23⟩,sq,b5,b8,b9,b12,b11,x1,x5,x8,x9,x12,x10,x11,hL⟩:=hI
  cases a<;>cases b<;>cases c<;>cases d<;>simp at ha
  cases t<;>simp at hv
  obtain⟨x1,o1⟩:=x1 rfl
  replace x5:=x5 rfl
  replace x8:=x8 rfl
  replace x9:=x9 rfl
  refine Mj [(17,_),(18,_),(21,_),(24,_),(25,_)] ⟨x1,k18,x5,x8,x9,trivial⟩ ?_
  have hc:e8.cells (playP l sg) (playR l.length sq sb sc b5 b8 b9)=[.slice sq.JI (aI l).docs.length sq.JH,.map (some sq.Py),.slice sb sg.length sc,.slice (zAD b5) l.length l.length,.slice (zAD b8) l.length l.length,.map (some b9)]:=by simp[e8.cells,playP,playR]
  exact ja (cells:=[.slice sq.JI (aI l).docs.length sq.JH,.map (some sq.Py),.slice sb sg.length sc,.slice (zAD b5) l.length l.length,.slice (zAD b8) l.length l.length,.map (some b9)]) (places:=[(0,2),(2,1),(3,1),(4,1),(5,1)]) underlying218 zc218 kr kr (⟨⟨dN,λ_ hp=>(jA hp).elim⟩,U,dN,⟨k2,k4,k16,U,k20,k23⟩,sq,b5,b8,b9,b12,b11,λ_=>⟨U,o1⟩,λ_=>U,λ_=>U,λ_=>U,x12,λ_=>(congrArg (λz:List Value=>Value.agg z.toArray) hc).symm,λh=>(by cases h),hL⟩)
theorem Xm(hI:PlI h l lb lc_z sg sb sc at_ q4 a b c d f true false e h' L):
    Stp prog b0 n ops F ds X ⟨some 27,.box 218 (.tmp 26),ty,pos,af,none⟩ e h' L (λe2 h2 L2=>Jst h [] h2 L2/\PlI h l lb lc_z sg sb sc at_ q4 a b c d f true true e2 h2 L2):=by
  obtain⟨hv,dN,⟨k2,k4,k16,k18,k20,k23⟩,sq,b5,b8,b9,b12,b11,x1,x5,x8,x9,x12,x10,x11,hL⟩:=hI
  replace x10:=x10 rfl
  refine Mj [(26,_)] ⟨x10,trivial⟩ (Xg (λbk=>?_))
  exact⟨⟨dN,λ_ hp=>(jA hp).elim⟩,hv,dN,⟨k2,k4,k16,k18,k20,k23⟩,sq,b5,b8,b9,b12,bk,x1,x5,x8,x9,x12,λ_=>U,λ_=>U,List.Perm.cons _ hL⟩
end
theorem VC{i:Nat}{a b c d f g t:Bool}(h:i∈plN a b c d f g t):(i=1/\a=false)\/(i=5/\b=false)\/(i=8/\c=false)\/(i=9/\d=false)\/(i=10/\(a&&b&&c&&d)=true/\g=false)\/(i=11/\g=true/\t=false)\/(i=12/\f=false)\/(a=true/\b=true/\c=true/\d=true/\f=true/\g=true/\t=true):=by
 simp only[plN,kF]at h
 rcases h with h|h|h|h|h|h|h|h
 .cases a with
  |true=>simp at h
  |false=>simp at h;exact .inl ⟨h,rfl⟩
 .cases b with
  |true=>simp at h
  |false=>simp at h;exact .inr (.inl ⟨h,rfl⟩)
 .cases c with
  |true=>simp at h
  |false=>simp at h;exact .inr (.inr (.inl ⟨h,rfl⟩))
 .cases d with
  |true=>simp at h
  |false=>simp at h;exact .inr (.inr (.inr (.inl ⟨h,rfl⟩)))
 .cases g with
  |true=>simp at h
  |false=>
   cases hh:(a&&b&&c&&d)with
   |false=>rw[hh]at h;simp at h
   |true=>rw[hh]at h;simp at h;exact .inr (.inr (.inr (.inr (.inl ⟨h,rfl,rfl⟩))))
 .cases g with
  |false=>simp at h
  |true=>
   cases t with
   |true=>simp at h
   |false=>simp at h;exact .inr (.inr (.inr (.inr (.inr (.inl ⟨h,rfl,rfl⟩)))))
 .cases f with
  |true=>simp at h
  |false=>simp at h;exact .inr (.inr (.inr (.inr (.inr (.inr (.inl ⟨h,rfl⟩))))))
 cases a<;>cases b<;>cases c<;>cases d<;>cases f<;>cases g<;>cases t<;>simp at h
 exact .inr (.inr (.inr (.inr (.inr (.inr (.inr ⟨U,U,U,U,U,U,U⟩))))))
theorem TZ{a b c d f g t:Bool}(h:plM a b c d f g t=0):a=true/\b=true/\c=true/\d=true/\f=true/\g=true/\t=true:=by
  cases a<;>cases b<;>cases c<;>cases d<;>cases f<;>cases g<;>cases t<;>simp[plM]at h<;>simp
theorem Ae.mono{h':HF}{n b5 b8 br:Nat}{P:e8}{Gf:LH}(o:Ae h n b5 b8 br P om m3 Gf)(hl:h.le h'):Ae h' n b5 b8 br P om m3 Gf:=
  ⟨o.done,o.lacks,o.map.mono V3.mono hl,o.rev.mono hl⟩
theorem Gr(h):∀xs:List Bool,dC Rp.bool h (xs.map jV) xs
  |[]=>rfl
  |x::xs=>⟨[.bool x],xs.map jV,rfl,rfl,rfl,Gr h xs⟩
theorem F2(h):∀xs:List Int,dC vB h (xs.map (jC .i64)) xs
  |[]=>rfl
  |x::xs=>⟨[I x],xs.map (jC .i64),rfl,rfl,rfl,F2 h xs⟩
theorem Ae.lent{h1:HF}{n b5 b8 br:Nat}{P:e8}{Gf:LH}{sq:pj}{sb:Option Addr}{sc:Nat}(o:Ae h n b5 b8 br P om m3 Gf)(hn:n<20)(hs:iK.ok h P.shelf sq)(hg:SlC vB h sb sc P.signed)(hl:h.le h1)(hL:∀p∈plB b5 b8 br P om Gf,h1 p.1=some p.2):e8.ok h1 P (playR n sq sb sc b5 b8 br):=by
  have h5:=hL (b5,.cells (P.done.map jV).toArray 4 (0,0)) (by simp[plB])
  have h8:=hL (b8,.cells (P.lacks.map (jC .i64)).toArray 3 (0,0)) (by simp[plB])
  have hr:=hL (br,om) (by simp[plB])
  have hd:=o.done
  have hk:=o.lacks
  exact⟨hs.mono hl,hg.mono kM hl,dC.slB0 (Gr h1 _) h5 ob (by rw[hd];exact xE _),dC.slB0 (F2 h1 _) h8 ob (by rw[hk];exact xE _),
    ⟨om,hr,FRg.frozen kM o.map o.rev hl (λp hp=>hL p (by simp[plB,hp]))⟩⟩
theorem Kz(l:List av):(aI l).docs=l:=by
  have:∀(s:List av)(i:Nat)(g:List (Int×Int)),(aI.L1 (aI.K1 l) s i g).docs=l:=by
    intro s
    induction s with
    |nil=>intro i g;rfl
    |cons y s ih=>intro i g;exact ih _ _
  exact this _ _ _
theorem Ov(l:List av)(hl:0<l.length)(k):0<=mgetD (aI l).at_ k 0/\mgetD (aI l).at_ k 0<(l.length:Int):=by
  have key:∀(s:List av)(i:Nat)(g:List (Int×Int)),i+s.length=l.length->(∀p∈g,0<=p.2/\p.2<(l.length:Int))->∀p∈(aI.L1 (aI.K1 l) s i g).at_,0<=p.2/\p.2<(l.length:Int):=by
    intro s
    induction s with
    |nil=>intro i g _ hg;exact hg
    |cons y s ih=>
      intro i g hi hg
      simp only[xA]at hi
      exact ih (i+1) _ ob (Ba (P:=λx:Int=>0<=x/\x<(l.length:Int)) _ hg ob)
  exact B4 (P:=λx:Int=>0<=x/\x<(l.length:Int)) k (key l 0 [] (by simp) (λ_ h=>(jA h).elim)) ob
theorem CV{α : Type}(f:α->Value)(xs:List α)(k)(y:α):splice (xs.map f) (k*1) [f y]=(xs.set k y).map f:=by
  simp[splice,pH,List.map_set]
theorem IE{l:List av}{sg:List Int}{P:e8}{r:sW}(h1:P.shelf=aI l)(h2:P.signed=sg)(h3:P.done.length=l.length)(h4:P.lacks.length=l.length):e8.cells P r=e8.cells (playP l sg) r:=by
  simp[e8.cells,playP,h1,h2,h3,h4]
theorem AW(sg:List Int)(i no)(P:e8):(playLack sg i P no).shelf=P.shelf/\(playLack sg i P no).signed=P.signed/\(playLack sg i P no).done=P.done/\(playLack sg i P no).lacks.length=P.lacks.length/\(playLack sg i P no).revoked=P.revoked:=by
  unfold playLack
  cases(cY P (mgetD P.shelf.at_ no 0) (nthI sg i)).1 != 0<;>simp
theorem Mw{d:av}{Q_z:e8}{y:Int}{P:List (Int×List Int)}{i:Nat}(h:∀k,(mgetD Q_z.revoked k []).length<=(mgetD P k []).length+i):∀k,(mgetD (playRevoke d Q_z y).revoked k []).length<=(mgetD P k []).length+(i+1):=λk=>by
 show(mgetD (mput Q_z.revoked y (mgetD Q_z.revoked y []++[d.No])) k []).length<=_
 rw[Db]
 split
 .next hk=>subst hk;have:=h k;simp only[vA,xA,jB];omega
 have:=h k;omega
theorem T9(h:p:=by
  refine tn 15 U (pq 7 (k:=y) (x:=(gb',(mgetD QD.revoked y []++[d.No]).length,gc')) Hw (ga nz) U ownQ.map U U U (λoR hmR=>⟨jn,dO kr ?_⟩))
  obtain⟨G',hfr',hp'⟩:=hput gb' gc' _ G1' hG'
  refine qT 2 U (oi i U (qO 2 U (dV (L':=[zn,zd,zi,zl,zr,z5,(b8,.cells (QD.lacks.map (λv=>Value.int .i64 v)).toArray 3 (0,0)),(br,oR)]++(G2++G1')) U ?_)))
  exact jw (L':=zn::([zd,zi,zl,zr]++plB b5 b8 br (playRevoke d QD y) oR G')) (List.Perm.append_left [_,_,_,_,_,_,_,_] (List.perm_append_comm.trans hp'.symm)) (dE (L':=[zd,zi,zl,zr]++plB b5 b8 br (playRevoke d QD y) oR G') js (ag (i+1,playRevoke d QD y,oR,mput mQ y (gb',(mgetD QD.revoked y []++[d.No]).length,gc'),G') _ (by show d.fF.length-(i+1)<d.fF.length-i;omega) ⟨hfQ,hi,⟨ownQ.done,ownQ.lacks,hmR,hfr'⟩,hQs,hQg,Mw hQc⟩ rd))):p:=h
theorem ux(h l fm fj signed bK bJ bD)(hl:SlC av.rp h fm fj l)(gL:SlC vB h bK bJ signed)(hck:aY l=0)(hsg:signed.length=l.length)(hln:l.length<20):
  jv prog 96 [.slice fm l.length fj,.slice bK signed.length bJ,I bD] h (λv h'=>∃(rq0:Addr)(rr0:sW),v=.pointer (some rq0)/\e8.ok h' (cu l signed bD) rr0/\At h' rq0 (e8.cells (cu l signed bD) rr0)):=by
 refine dL func96 U ntmps96 U λX hM hX=>?_
 refine sr (iA (λb4=>an ?_))
 refine gM 0 U hM (λh1 l1 f4=>?_)
 have a4:=fJ f4
 show TT _ _ _ _ _ _ _ _ h1 []
 refine dZ (fQ [] mixed kr jn (λhsep _=>?_))
 refine tm 0 U (tf 2 U U (rh ty31 a4 U) (tm 3 U (tf 4 U U (λ_ _ _=>Ll EU U) (tm 6 U (tf 7 U U (λ_ _ _=>Ll EU U) ?_)))))
 refine Wx (σ:=Bool×Bool×Bool×Bool×Bool×Bool×Bool) 1 (λs e2 h2 L2=>PlI h1 l fm fj signed bK bJ bD ⟨b4,0,none⟩ s.1 s.2.1 s.2.2.1 s.2.2.2.1 s.2.2.2.2.1 s.2.2.2.2.2.1 s.2.2.2.2.2.2 e2 h2 L2)
  (λs=>plM s.1 s.2.1 s.2.2.1 s.2.2.2.1 s.2.2.2.2.1 s.2.2.2.2.2.1 s.2.2.2.2.2.2) (λs=>plD s.1 s.2.1 s.2.2.1 s.2.2.2.1 s.2.2.2.2.1 s.2.2.2.2.2.1 s.2.2.2.2.2.2) ?_ ?_ 7 (false,false,false,false,false,false,false) _ _ _ rfl
  ⟨rfl,qF _,⟨rfl,rfl,rfl,rfl,rfl,rfl⟩,⟨none,0,0⟩,0,0,0,0,0,λh=>(by cases h),λh=>(by cases h),λh=>(by cases h),λh=>(by cases h),λh=>(by cases h),λh=>(by cases h),λh=>(by cases h),List.Perm.refl _⟩
 .rintro⟨a,b,c,d,f,g,t⟩ e2 h2 L2 hI hμ
  obtain⟨e1,e2',e3,e4,e5,e6,e7⟩:=TZ hμ
  dsimp only at e1 e2' e3 e4 e5 e6 e7
  subst e1 e2' e3 e4 e5 e6 e7
  obtain⟨_,dN,⟨k2,k4,_,_,_,_⟩,sr0,b5,b8,br,b12,b11,x1,_,_,_,x12,_,x11,hL⟩:=hI
  obtain⟨_,oks⟩:=x1 rfl
  have k7:=x12 rfl
  have k27:=x11 rfl
  clear x1 x12 x11
  dsimp only at k7 k27 oks hL k2 k4
  have J2:∀{L:LH},Jst h1 [] h2 L:=⟨dN,λ_ hp=>(jA hp).elim⟩
  refine tn 13 U (EZ hL (Mj [(7,Q b12),(27,Q b11)] ⟨k7,k27,trivial⟩ (lE 1 (off:=0) (vs:=[Q b11]) ty153 U U U U (by rfl) U ⟨J2,dO kr (Wu [(2,I bD),(4,Q b4),(7,Q b12)] ⟨k2,k4,U,trivial⟩ (gM 1 U hM (λh3 l3 f12=>gM 0 U hM (λh4 l4 f11=>?_))))⟩)))
  have A7:=(fJ f12).mono l4
  have A11:=fJ f11
  have l24:h2.le h4:=kA l3 l4
  have l04:h.le h4:=kA l1 (kA dN l24)
  replace oks:=oks.mono l24
  replace a4:=a4.mono (kA dN l24)
  clear f12 f11 l3 l4 J2 hL k2 k4 k7 k27
  refine jw (L':=plB b5 b8 br (playP l signed) (.map #[] 0) []) (by
   have h9:plB b5 b8 br (playP l signed) (.map #[] 0) []=[(b5,.cells (List.replicate l.length (.bool false)).toArray 4 (0,0)),(b8,.cells (List.replicate l.length (I 0)).toArray 3 (0,0)),(br,.map #[] 0)]:=by simp[plB,playP,List.map_replicate]
   rw[h9]
   exact List.reverse_perm [(b5,O (List.replicate l.length (.bool false)) 4),(b8,.cells (List.replicate l.length (I 0)).toArray 3 (0,0)),(br,.map #[] 0)]) ?_
  have hl4:=hl.mono av.aK l04
  have hs4:=gL.mono kM l04
  refine qT 3 U (fV ty153 A7 U (cN (aM (cW call169 (wo h4 (playP l signed) (playR l.length sr0 bK bJ b5 b8 br) ⟨b11,0,none⟩ bD ⟨hs4⟩ A11 (by show signed.length<20;omega)) U (λv5 h5 l5 hp=>?_)))))
  obtain⟨rv,rfl,hit⟩:=hp
  refine qO 2 U (ij ?_)
  have hord:=NY (playP l signed) bD
  have hordl:=NX (playP l signed) bD
  have hsl:(playP l signed).signed.length=l.length:=hsg
  replace a4:=a4.mono l5
  replace A7:=A7.mono l5
  replace A11:=A11.mono l5
  replace hl4:=hl4.mono av.aK l5
  replace hs4:=hs4.mono kM l5
  replace oks:=oks.mono l5
  have hdr:=LP hck
  refine nF (it:=v5) (xs:=bL (playP l signed) bD) (ι:=e8×Obj×List (Int×Option Addr×Nat×Nat)×LH×HF) [] (λi=>i.2.2.2.2) (λi=>plB b5 b8 br i.1 i.2.1 i.2.2.2.1)
   (λrest i=>rest.foldl playStep i.1=cu l signed bD/\i.1.shelf=aI l/\i.1.signed=signed/\Ae i.2.2.2.2 l.length b5 b8 br i.1 i.2.1 i.2.2.1 i.2.2.2.1/\h5.le i.2.2.2.2/\(∀x∈rest,0<=x/\x<(l.length:Int))/\(∀k,(mgetD i.1.revoked k []).length+16*rest.length<=320))
   (λ_=>False) (λ_=>False) 0 (λ_ _ _=>False) (playP l signed,.map #[] 0,[],[],h5) func96 rfl hit rfl Bl (λ_ _ _ _ _ hq=>hq) rfl rfl
   ⟨rfl,rfl,rfl,⟨by simp[playP],by simp[playP],ki.nil,rfl⟩,qF _,λx hx=>hsl▸hord x hx,λk=>by show 0+16*_<=320;omega⟩ ?_ ?_ (λ_ _ _ hF=>hF.elim) (λ_ _ _ hF=>hF.elim) (λ_ _ _ _ hF=>hF.elim)
  .rintro XI r1 lp1 x rest vs1 ⟨P,om,m3,Gf,hh⟩ h7 X' FR ⟨hfold,hsh,hsgd,hown,h5h,hin,hcnt⟩ h57 hh7 hv hX' hXM hlp nx rt ex pn
   dsimp only at hfold hsh hsgd hown h5h hin hcnt hh7
   obtain rfl:=hv
   have hPl:P.signed.length=l.length:=by rw[hsgd];exact hsg
   have hD:=Kz l
   have hx0:=hin x (xB ..)
   have hx:0<=x/\x<((aI l).docs.length:Int):=by rw[hD];exact hx0
   have hxn:x.toNat<l.length:=by omega
   replace hown:=hown.mono hh7
   have oks7:=oks.mono h57
   have A7':=A7.mono h57
   have A11':=A11.mono h57
   have a4':=a4.mono h57
   have hs7:=hs4.mono kM h57
   have hpd:=hown.done
   have hpl:=hown.lacks
   clear hh7
   refine bS (cD zc3 (λbi=>dD 0 ty3 U U U U U U (bM ?_)))
   let zi:Nat×Obj:=(bi,O [I x] 3)
   let zl:Nat×Obj:=(XI,.loop { lp1 with state:=.busy })
   let zr:Nat×Obj:=(r1,.deferred (some []))
   refine mU 1 U hlp (nf (dV (L':=[zi,zl,zr]++plB b5 b8 br P om Gf) (show[zi,zl,zr]++(plB b5 b8 br P om Gf++markB [])=_ from by simp[markB]) (dZ (fQ [zi] mixed kr jn (λhs4 _=>?_)))))
   refine tf 0 U U (rh ty153 A7' U) (tf 1 U U (λ_ _ _=>fU U) (qB [2,3] U (tf 4 U U (rh ty27 A11' U) (tf 5 U U (rj 0 ty3 U U U) (sZ 6 hs4 jn EU ty54 oks7.docs.1 hx (eH hx) U U U U kr (λq1 cs1 B1 ln1 rr1=>?_))))))
   obtain⟨dr,rfl,okd⟩:=rr1
   refine tf 7 U U (λ_ _ hj=>uL ty54 (B1.mono hj.1) U U) (tn 8 U (BT zc54 (λbd=>⟨jn,(tn 9 U (vu 0 ty54 U U U U U U ⟨jn,dO kr ?_⟩))⟩)))
   generalize hdd:nthI (aI l).docs x=d at okd B1
   let zd:Nat×Obj:=(bd,O (av.cells d dr) 54)
   have hdP:nthI P.shelf.docs x=d:=by rw[hsh];exact hdd
   have hdl:d∈l:=by have h9:=nm hx;rw[hdd,hD]at h9;exact h9
   have hgd:=hdr d hdl
   show TT _ _ _ _ _ _ _ _ h7 ([zd,zi,zl,zr]++plB b5 b8 br P om Gf)
   refine dZ (fQ [zd,zi] mixed kr jn (λhs5 _=>?_))
   refine tf 0 U U (rh ty153 A7' U) (tf 1 U U (λ_ _ _=>fU U) (qB [2] U (tf 3 U U (rH 4 ty31 A11' U U) (tf 4 U U (rj 1 ty3 U U U) (tf 5 U U (λ_ _ _=>oa (R:=vB) (xs:=P.lacks) (bk:=b8) (z:=x) fa ty3 U ob U (by simp[playP,hpl]) U) (tn 6 U (lE 5 (off:=x.toNat*1) (vs:=[I (-1)]) ty3 U U U U (Nat.ble_eq_true_of_le (by simp only[List.length_map,xA,jB];omega)) U ⟨jn,dO kr (dV (L':=[zd,zi,zl,zr]++plB b5 b8 br { P with lacks:=P.lacks.set x.toNat (-1) } om Gf) (by rw[CV (jC .i64)];rfl) ?_)⟩)))))))
   have own1:Ae h7 l.length b5 b8 br { P with lacks:=P.lacks.set x.toNat (-1) } om m3 Gf:=⟨hpd,by simpa using hpl,hown.map,hown.rev⟩
   refine qT 3 U (lj VU U (pJ 0 ty31 U U U (aM (cW call170 (yX h7 d.e9 _ _ okd.e9) U (λv8 h8 l8 hp8=>?_)))))
   obtain⟨rv8,rfl,hit8⟩:=hp8
   refine qO 2 U ?_
   refine R3 (it:=v8) (xs:=mH d.e9) 2 U (λdone h' L'=>h8.le h'/\Ae h' l.length b5 b8 br (done.foldl (λq(z:Int×Int)=>playLack P.signed x q z.2) { P with lacks:=P.lacks.set x.toNat (-1) }) om m3 Gf/\L'=[zd,zi,zl,zr]++plB b5 b8 br (done.foldl (λq(z:Int×Int)=>playLack P.signed x q z.2) { P with lacks:=P.lacks.set x.toNat (-1) }) om Gf)
    rfl hit8 rfl zX (λ_ _ _ _ hl⟨a,b,c⟩=>⟨kA a hl,b.mono hl,c⟩) ⟨qF _,own1.mono l8,rfl⟩ ?_ ?_
   .rintro l2 lp2 done z rest2 vs2 h9 L9 X9 hxs h89 ⟨h89',own2,rfl⟩ hv2 hlp2 hX9 hXM9
    obtain rfl:=hv2
    obtain⟨Pm,hPm⟩:∃Pm,Pm=done.foldl (λq(z:Int×Int)=>playLack P.signed x q z.2) { P with lacks:=P.lacks.set x.toNat (-1) }:=⟨_,rfl⟩
    have hPs:Pm.shelf=aI l/\Pm.signed=signed:=by
     rw[hPm]
     have:∀(s:List (Int×Int))(QD:e8),QD.shelf=aI l/\QD.signed=signed->(s.foldl (λq(z:Int×Int)=>playLack P.signed x q z.2) QD).shelf=aI l/\(s.foldl (λq(z:Int×Int)=>playLack P.signed x q z.2) QD).signed=signed:=by
      intro s
      induction s with
      |nil=>intro QD h;exact h
      |cons y s ih=>intro QD h;obtain⟨a1,a2,_⟩:=AW P.signed x y.2 QD;exact ih _ ⟨a1.trans h.1,a2.trans h.2⟩
     exact this _ _ ⟨hsh,hsgd⟩
    rw[←hPm]at own2
    have l79:h7.le h9:=kA l8 h89
    have A79:=A7'.mono l79
    have B79:=A11'.mono l79
    refine qT 3 U (mU 0 U hlp2 (nf ?_))
    rw[←hPm]
    refine dV (L':=[(l2,.loop { lp2 with state:=.busy }),zd,zi,zl,zr]++plB b5 b8 br Pm om Gf) U (dZ (fQ [zi] mixed kr jn (λhs8 _=>?_)))
    refine tf 0 U U (rh ty153 A79 U) (tf 1 U U (rh ty153 A79 U) (tf 2 U U (λ_ _ _=>fU U) (qB [3,4] U (tf 5 U U (rH 1 ty183 B79 U U) (tm 6 U (tf 8 U U (rh ty31 (a4'.mono l79) U) (tf 9 U U (rj 0 ty3 U U U) ?_)))))))
    have hxs:0<=x/\x<(signed.length:Int):=by omega
    refine pk 10 (enc:=λy=>[I y]) hs8 jn (λ_ _ _ e=>e) fa ty3 (hs7.mono kM l79).1 hxs (eH hxs) U U U U kr (λq3 B3=>?_)
    refine tf 11 U U (rh ty3 B3 U) ?_
    obtain⟨mo,hmb,hmm⟩:=(oks7.mono l79).at_
    refine tn 7 U (rg (k:=z.2) Dv (ga nz) hmb hmm (fG zv3) (show Aw _ (I 0) 0 from U) U U (λv hv=>?_))
    obtain rfl:=hv
    refine⟨jn,?_⟩
    have hat:=Ov l ob z.2
    refine tn 12 U (TJ (v:=.tuple #[I (cY Pm (mgetD (aI l).at_ z.2 0) (nthI signed x)).1,I (cY Pm (mgetD (aI l).at_ z.2 0) (nthI signed x)).2]) call97 (λhz lz hall=>nO hz Pm (playR l.length sr0 bK bJ b5 b8 br) ⟨b11,0,none⟩ (mgetD (aI l).at_ z.2 0) (nthI signed x)
     (own2.lent hln (hPs.1▸oks7.mono l79) (hPs.2▸hs7.mono kM l79) lz (λp hp=>hall p (by simp only[kF,kC];exact .inr hp))) (by rw[IE hPs.1 hPs.2 own2.done own2.lacks];exact(A11'.mono l79).mono lz) (by rw[hPs.1,hD];exact hat) (by rw[hPs.1,hD];exact⟨own2.done,own2.lacks⟩)) rfl ⟨jn,?_⟩)
    refine qR 13 5 U (dO kr (qT 5 U ?_))
    have hlk:playLack P.signed x Pm z.2=bif(cY Pm (mgetD (aI l).at_ z.2 0) (nthI signed x)).1 != 0 then { Pm with lacks:=Pm.lacks.set x.toNat z.2 }else Pm:=by
     unfold playLack;rw[hPs.1,hsgd]
    have hnx:(done++[z]).foldl (λq(z:Int×Int)=>playLack P.signed x q z.2) { P with lacks:=P.lacks.set x.toNat (-1) }=playLack P.signed x Pm z.2:=by rw[List.foldl_append,hPm];rfl
    refine ld U (λc1=>?_) (λc1=>qT 2 U ?_)
    .refine fQ [zi] mixed kr jn (λhs9 _=>?_)
     refine tf 0 U U (rh ty153 A79 U) (tf 1 U U (λ_ _ _=>fU U) (qB [2] U (tf 3 U U (rH 4 ty31 B79 U U) (tf 4 U U (rj 0 ty3 U U U) (tm 5 U ?_)))))
     have hml:=own2.lacks
     refine tf 6 U U (λ_ _ _=>oa (R:=vB) (xs:=Pm.lacks) (bk:=b8) (z:=x) fa ty3 U ob U (by simp[playP,hml]) U) (tn 7 U (lE 6 (off:=x.toNat*1) (vs:=[I z.2]) ty3 U U U U (Nat.ble_eq_true_of_le (by simp only[List.length_map,xA,jB];omega)) U ⟨jn,dO kr (fP ?_)⟩))
     rw[c1,cond_true]at hlk
     refine dV (L':=(l2,.loop { lp2 with state:=.busy })::([zd,zi,zl,zr]++plB b5 b8 br { Pm with lacks:=Pm.lacks.set x.toNat z.2 } om Gf)) (by rw[CV (jC .i64)];rfl) ?_
     refine Q6 U ⟨h89',?_,?_⟩
     .rw[hnx,hlk];exact⟨own2.done,by simpa using hml,own2.map,own2.rev⟩
     rw[hnx,hlk]
    rw[c1,cond_false]at hlk
    refine Q6 U ⟨h89',?_,?_⟩
    .rw[hnx,hlk];exact own2
    rw[hnx,hlk];rfl
   rintro h9 L9 h89 ⟨h89',own2,rfl⟩
   obtain⟨Pm,hPm⟩:∃Pm,Pm=(mH d.e9).foldl (λq(z:Int×Int)=>playLack P.signed x q z.2) { P with lacks:=P.lacks.set x.toNat (-1) }:=⟨_,rfl⟩
   rw[←hPm]at own2
   rw[←hPm]
   have hPs:Pm.shelf=aI l/\Pm.signed=signed/\Pm.revoked=P.revoked:=by
    rw[hPm]
    have:∀(s:List (Int×Int))(QD:e8),QD.shelf=aI l/\QD.signed=signed/\QD.revoked=P.revoked->(s.foldl (λq(z:Int×Int)=>playLack P.signed x q z.2) QD).shelf=aI l/\(s.foldl (λq(z:Int×Int)=>playLack P.signed x q z.2) QD).signed=signed/\(s.foldl (λq(z:Int×Int)=>playLack P.signed x q z.2) QD).revoked=P.revoked:=by
     intro s
     induction s with
     |nil=>intro QD h;exact h
     |cons y s ih=>intro QD h;obtain⟨a1,a2,_,_,a5⟩:=AW P.signed x y.2 QD;exact ih _ ⟨a1.trans h.1,a2.trans h.2.1,a5.trans h.2.2⟩
    exact this _ _ ⟨hsh,hsgd,U⟩
   have hmid:playMid P x=Pm:=by unfold playMid;rw[hdP];exact hPm.symm
   have hstep:playStep P x=bif decide (nthI Pm.lacks x<0)then d.fF.foldl (playRevoke d) (playDone Pm x)else playDone Pm x:=by
    unfold playStep;rw[hmid,hdP]
   have l79:h7.le h9:=kA l8 h89
   have A79:=A7'.mono l79
   have B79:=A11'.mono l79
   have hmd:=own2.done
   have hml:=own2.lacks
   refine qT 2 U (fQ [zd,zi] mixed kr jn (λhs11 _=>?_))
   refine tf 0 U U (rh ty153 A79 U) (tf 1 U U (λ_ _ _=>fU U) (qB [2] U (tf 3 U U (rH 3 ty168 B79 U U) (tf 4 U U (rj 1 ty3 U U U) (tf 5 U U (λ_ _ _=>oa (R:=Rp.bool) (xs:=Pm.done) (bk:=b5) (z:=x) Hs ty4 U ob U (by simp[playP,hmd]) U) (tn 6 U (lE 4 (off:=x.toNat*1) (vs:=[.bool true]) ty4 U U U U (Nat.ble_eq_true_of_le (by simp only[List.length_map,xA,jB];omega)) U ⟨jn,dO kr (dV (L':=[zd,zi,zl,zr]++plB b5 b8 br (playDone Pm x) om Gf) (by rw[CV jV];rfl) ?_)⟩)))))))
   have own3:Ae h9 l.length b5 b8 br (playDone Pm x) om m3 Gf:=⟨by simpa[playDone]using hmd,hml,own2.map,own2.rev⟩
   have JB:∀{A:LH},Jst h9 [zi,(b8,.cells (Pm.lacks.map (jC .i64)).toArray 3 (0,0))] h9 ([zd,zi,zl,zr]++plB b5 b8 br (playDone Pm x) om A):=⟨qF _,λp hp=>by
    simp only[kC,jA,or_false]at hp
    rcases hp with rfl|rfl<;>simp[plB,playDone]⟩
   refine dZ (fQ [zi,(b8,.cells (Pm.lacks.map (jC .i64)).toArray 3 (0,0))] mixed kr JB (λhs12 _=>?_))
   refine ic 0 hs12 JB U U kr U (rh ty153 A79 U) (ic 1 hs12 JB U U kr U (λ_ _ _=>fU U) (ic 2 hs12 JB U U kr U (λ_ _ _=>DZ UL U) (ic 3 hs12 JB U U kr U (rH 4 ty31 B79 U U) (ic 4 hs12 JB U U kr U (rj 0 ty3 U U U) (ic 5 hs12 JB U U kr U (λ_ _ _=>oa (R:=vB) (xs:=Pm.lacks) (bk:=b8) (z:=x) fa ty3 U ob U (by simp[playP,hml]) U) ?_)))))
   have hlx:(Pm.lacks.map (jC .i64))[x.toNat*1]? = some (I (nthI Pm.lacks x)):=by
    rw[Nat.mul_one,List.getElem?_map,eH ob];rfl
   refine ic 6 hs12 JB U U kr U (λ_ _ hj=>wM ty3 U (hj.nth (i:=1) U) (by rw[hZ];exact hlx)) (ic 7 hs12 JB U U kr U (λ_ _ _=>Oe U) (dO kr ?_))
   have hin':∀y∈rest,0<=y/\y<(l.length:Int):=λy hy=>hin y (qC _ hy)
   have h59:h5.le h9:=kA h57 l79
   refine ld U (λc1=>?_) (λc1=>qT 2 U ?_)
   .rw[c1,cond_true]at hstep
    have hrl:=hgd.revokes.2
    refine sr (lj VV U (pJ 0 ty31 U U U (F0 fa U (qO 2 U ?_))))
    have hfin:∀(QD:e8)(oQ:Obj)(mQ:List (Int×Option Addr×Nat×Nat))(GQ:LH)(e':Env),QD=d.fF.foldl (playRevoke d) (playDone Pm x)->Ae h9 l.length b5 b8 br QD oQ mQ GQ->QD.shelf=aI l->QD.signed=signed->(∀k,(mgetD QD.revoked k []).length<=(mgetD P.revoked k []).length+d.fF.length) ->
      TT prog (roundFrame XI 96) 114 [.inBlock 1] FR e' [] X' h9 ([zd,zi,zl,zr]++plB b5 b8 br QD oQ GQ):=by
     intro QD oQ mQ GQ e' hQ ownQ hQs hQg hQc
     refine fP (dE (L':=[zl,zr]++plB b5 b8 br QD oQ GQ) js (dV (L':=rdH XI r1 lp1 (plB b5 b8 br QD oQ GQ++markB [])) (by simp[markB,rdH,zl,zr]) ?_))
     refine nx (QD,oQ,mQ,GQ,h9) _ _ ⟨?_,hQs,hQg,ownQ,h59,hin',λk=>?_⟩ lf
     .rw[←hfold,zV,hstep,hQ]
     have h1':=hcnt k
     have h2':=hQc k
     simp only[xA]at h1'
     show(mgetD QD.revoked k []).length+16*rest.length<=320
     omega
    refine fZ (ι:=e8×Obj×List (Int×Option Addr×Nat×Nat)×LH) (λi=>[]) (λi=>h9) (λi=>[zd,zi,zl,zr]++plB b5 b8 br i.1 i.2.1 i.2.2.2)
     (λi=>i.1=d.fF.foldl (playRevoke d) (playDone Pm x)/\Ae h9 l.length b5 b8 br i.1 i.2.1 i.2.2.1 i.2.2.2/\i.1.shelf=aI l/\i.1.signed=signed/\∀k,(mgetD i.1.revoked k []).length<=(mgetD P.revoked k []).length+d.fF.length) ?_ (λhx4=>?_)
    .rintro⟨QD,oQ,mQ,GQ⟩ ⟨q1,q2,q3,q4,q5⟩ e4
     exact hfin QD oQ mQ GQ _ q1 q2 q3 q4 q5
    refine i9 (ι:=Nat×e8×Obj×List (Int×Option Addr×Nat×Nat)×LH) (λi=>[(7,Q b12),(9,Q bd),(91,.slice dr.vh d.fF.length dr.vg),(92,I (d.fF.length:Int)),(93,I (i.1:Int))]) (λi=>h9)
     (λi=>[zd,zi,zl,zr]++plB b5 b8 br i.2.1 i.2.2.1 i.2.2.2.2)
     (λi=>(d.fF.drop i.1).foldl (playRevoke d) i.2.1=d.fF.foldl (playRevoke d) (playDone Pm x)/\i.1<=d.fF.length/\Ae h9 l.length b5 b8 br i.2.1 i.2.2.1 i.2.2.2.1 i.2.2.2.2/\i.2.1.shelf=aI l/\i.2.1.signed=signed/\∀k,(mgetD i.2.1.revoked k []).length<=(mgetD P.revoked k []).length+i.1)
     (λi=>d.fF.length-i.1) (0,playDone Pm x,om,m3,Gf) rd (λw hw=>hw) ⟨rfl,jH _,own3,hPs.1,hPs.2.1,λk=>by show(mgetD Pm.revoked k []).length<=_;rw[hPs.2.2];omega⟩ ?_
    rintro⟨i,QD,oQ,mQ,GQ⟩ ⟨hfQ,hiQ,ownQ,hQs,hQg,hQc⟩ ag e5
    dsimp only at hfQ hiQ ownQ hQs hQg hQc
    show TT _ _ _ _ _ (upds e5 [(7,Q b12),(9,Q bd),(91,.slice dr.vh d.fF.length dr.vg),(92,I (d.fF.length:Int)),(93,I (i:Int))]) _ _ h9 ([zd,zi,zl,zr]++plB b5 b8 br QD oQ GQ)
    rcases zK i d.fF.length with hi|hi
    .have hgi:d.fF[i]? = some d.fF[i]:=List.getElem?_eq_getElem hi
     obtain⟨y,hy⟩:∃y,d.fF[i]=y:=⟨_,rfl⟩
     rw[hy]at hgi
     have hdrop:d.fF.drop i=y::d.fF.drop (i+1):=by rw[List.drop_eq_getElem_cons hi,hy]
     rw[hdrop,zV]at hfQ
     obtain⟨gb,gc,G1,G2,hget,hgrow,hperm,hput⟩:=ownQ.rev.get y
     have hcy:=hQc y
     have hcP:=hcnt y
     refine sr (tO (decide_eq_true ob) U (qO 8 U (aM (vy (enc:=λy=>[I y]) (λ_ _ _ e=>e) fa ty3 (okd.fF.mono kM l79).1 (nthZ hgi) (kz hgi) U U U (λq6 B6=>?_)))))
     refine fV ty3 B6 U (an (fQ [zd] mixed kr jn (λhs16 _=>?_)))
     refine tf 0 U U (rh ty153 A79 U) (tf 1 U U (λ_ _ _=>fU U) (qB [2] U (tf 3 U U (rH 5 ty133 B79 U U) (tm 4 U (tf 5 U U (rh ty153 A79 U) (tf 6 U U (λ_ _ _=>fU U) (qB [7] U (tf 8 U U (rH 5 ty133 B79 U U) (qB [9,11] U (tf 12 U U (rj 0 ty3 U U U) ?_))))))))))
     refine nq 10 13 kr U U ?_ ?_
     .refine vx 6 (k:=y) Hw (ga nz) U ownQ.map (fG zv31) (show V3 _ (zSN) (none,0,0)from U) U U (λv hv=>?_)
      rw[hget]at hv
      obtain rfl:=hv
      refine⟨jn,(tn 13 U (bW (cells:=[I d.No]) fa ty3 zc3 U U kr (λbn=>⟨jn,?_⟩)))⟩
      let zn:Nat×Obj:=(bn,O [I d.No] 3)
      let z5:Nat×Obj:=(b5,O (QD.done.map jV) 4)
      refine tn 14 U (EZ (List.Perm.append_left ([zn,zd,zi,zl,zr,z5,(b8,.cells (QD.lacks.map (jC .i64)).toArray 3 (0,0)),(br,oQ)]:LH) hperm) (fd ZO [zn,zd,zi,zl,zr,z5,(b8,.cells (QD.lacks.map (jC .i64)).toArray 3 (0,0)),(br,oQ)] G2 (λG=>[zn,zd,zi,zl,zr,z5,(b8,.cells (QD.lacks.map (jC .i64)).toArray 3 (0,0)),(br,oQ)]++(G2++G)) U (λ_=>U) fa ty3 zc3 U bytes3 hgrow U U (iM 0 U (show dC vB h9 [I d.No] [d.No]from⟨[I d.No],[],U,U,U,U⟩)) (by simp only[xA,jB]at *;omega) (by simp only[xA,jB]at *;omega) (λgb' gc' G1' hG'=>⟨jn,?_⟩)))
      exact T9
     refine bW (cells:=[I d.No]) fa ty3 zc3 U U kr (λbn=>⟨jn,?_⟩)
     let zn:Nat×Obj:=(bn,O [I d.No] 3)
     let z5:Nat×Obj:=(b5,O (QD.done.map jV) 4)
     refine tn 10 U (vx 7 (k:=y) Hw (ga nz) U ownQ.map (fG zv31) (show V3 _ (zSN) (none,0,0)from U) U U (λv hv=>?_))
     rw[hget]at hv
     obtain rfl:=hv
     refine⟨jn,(tn 14 U (EZ (List.Perm.append_left ([zn,zd,zi,zl,zr,z5,(b8,.cells (QD.lacks.map (jC .i64)).toArray 3 (0,0)),(br,oQ)]:LH) hperm) (fd ZO [zn,zd,zi,zl,zr,z5,(b8,.cells (QD.lacks.map (jC .i64)).toArray 3 (0,0)),(br,oQ)] G2 (λG=>[zn,zd,zi,zl,zr,z5,(b8,.cells (QD.lacks.map (jC .i64)).toArray 3 (0,0)),(br,oQ)]++(G2++G)) U (λ_=>U) fa ty3 zc3 U bytes3 hgrow U U (iM 0 U (show dC vB h9 [I d.No] [d.No]from⟨[I d.No],[],U,U,U,U⟩)) (by simp only[xA,jB]at *;omega) (by simp only[xA,jB]at *;omega) (λgb' gc' G1' hG'=>⟨jn,?_⟩))))⟩
     exact T9
    refine sr (fO (decide_eq_false ob) U (qO 4 U ?_))
    have hie:i=d.fF.length:=by omega
    refine hx4 (QD,oQ,mQ,GQ) _ ⟨?_,ownQ,hQs,hQg,λk=>?_⟩ trivial
    .rw[hie,List.drop_length]at hfQ;exact hfQ
    have:=hQc k;show(mgetD QD.revoked k []).length<=_;omega
   rw[c1,cond_false]at hstep
   refine dE (L':=[zl,zr]++plB b5 b8 br (playDone Pm x) om Gf) js (dV (L':=rdH XI r1 lp1 (plB b5 b8 br (playDone Pm x) om Gf++markB [])) (by simp[markB,rdH,zl,zr]) ?_)
   refine nx (playDone Pm x,om,m3,Gf,h9) _ _ ⟨?_,hPs.1,hPs.2.1,own3,h59,hin',λk=>?_⟩ lf
   .rw[←hfold,zV,hstep]
   have:=hcnt k
   simp only[xA]at this
   show(mgetD Pm.revoked k []).length+16*rest.length<=320
   rw[hPs.2.2];omega
  rintro r1 ⟨P,om,m3,Gf,hh⟩ h7 ⟨hfold,hsh,hsgd,hown,h5h,hin,hcnt⟩ hh7 h57
  dsimp only at hfold hsh hsgd hown h5h hin hcnt hh7
  replace hown:=hown.mono hh7
  have hPl:P.signed.length=l.length:=by rw[hsgd];exact hsg
  refine qT 3 U (fV ty153 (A7.mono h57) U (an (HJ [] (plB b5 b8 br P om Gf) (markB [r1]) U hM (λh8 l8 hG=>?_))))
  have hP:P=cu l signed bD:=hfold
  have okP:=hown.lent (sq:=sr0) (sb:=bK) (sc:=bJ) hln (hsh▸oks.mono h57) (hsgd▸hs4.mono kM h57) l8 hG
  exact rC [r1] [Q b11] func96 U rd ⟨⟨b11,0,none⟩,playR l.length sr0 bK bJ b5 b8 br,U,hP▸okP,by
   rw[←hP,IE hsh hsgd hown.done hown.lacks];exact A11.mono (kA h57 l8)⟩
 rintro⟨a,b,c,d,f,g,t⟩ e2 h2 L2 hI hμ
 dsimp only at hI hμ ⊢
 have hv:=hI.1
 refine Vn (plN a b c d f g t) ?_ ?_ (λi hi o ho=>?_)
 .clear hI hμ
  revert hv
  cases a<;>cases b<;>cases c<;>cases d<;>cases f<;>cases g<;>cases t<;>intro hv<;>first|exact absurd hv (by decide)|kernel_rfl
 .clear hI
  revert hv hμ
  cases a<;>cases b<;>cases c<;>cases d<;>cases f<;>cases g<;>cases t<;>intro hμ hv<;>first|exact absurd hv (by decide)|exact absurd rfl hμ|decide
 rcases VC hi with⟨rfl,rfl⟩|⟨rfl,rfl⟩|⟨rfl,rfl⟩|⟨rfl,rfl⟩|⟨rfl,ha,rfl⟩|⟨rfl,rfl,rfl⟩|⟨rfl,rfl⟩|⟨rfl,rfl,rfl,rfl,rfl,rfl,rfl⟩
 .obtain rfl:=Option.some.inj (show some _=some o from ho)
  exact ZT (λ_ _ _ q=>⟨q.1,(true,b,c,d,f,g,t),by simp only[plM,cond_true,cond_false];omega,pmid (pmid (pmid (pmid (pmid (pmid (List.Perm.refl _)))))),q.2⟩) (XS (hl.mono av.aK l1) hI)
 .obtain rfl:=Option.some.inj (show some _=some o from ho)
  exact ZT (λ_ _ _ q=>⟨q.1,(a,true,c,d,f,g,t),by simp only[plM,cond_true,cond_false];omega,pmid (pmid (pmid (pmid (pmid (List.Perm.refl _))))),q.2⟩) (XQ hln hI)
 .obtain rfl:=Option.some.inj (show some _=some o from ho)
  exact ZT (λ_ _ _ q=>⟨q.1,(a,b,true,d,f,g,t),by simp only[plM,cond_true,cond_false];omega,pmid (pmid (pmid (pmid (List.Perm.refl _)))),q.2⟩) (XP hln hI)
 .obtain rfl:=Option.some.inj (show some _=some o from ho)
  exact ZT (λ_ _ _ q=>⟨q.1,(a,b,c,true,f,g,t),by simp only[plM,cond_true,cond_false];omega,pmid (pmid (pmid (List.Perm.refl _))),q.2⟩) (XO hI)
 .obtain rfl:=Option.some.inj (show some _=some o from ho)
  exact ZT (λ_ _ _ q=>⟨q.1,(a,b,c,d,f,true,t),by simp only[plM,cond_true,cond_false];omega,pmid (List.Perm.refl _),q.2⟩) (Xn ha hI)
 .obtain rfl:=Option.some.inj (show some _=some o from ho)
  exact ZT (λ_ _ _ q=>⟨q.1,(a,b,c,d,f,true,true),by simp only[plM,cond_true,cond_false],List.Perm.refl _,q.2⟩) (Xm hI)
 .obtain rfl:=Option.some.inj (show some _=some o from ho)
  exact ZT (λ_ _ _ q=>⟨q.1,(a,b,c,d,true,g,t),by simp only[plM,cond_true,cond_false];omega,pmid (pmid (List.Perm.refl _)),q.2⟩) (Xl hI)
 exact absurd U hμ
theorem pC(h l fm fj signed bK bJ bD)(hl:SlC av.rp h fm fj l)(gL:SlC vB h bK bJ signed)(hln:l.length<20):jv prog 30 [.slice fm l.length fj,.slice bK signed.length bJ,I bD] h (λv h'=>∃(rb0:Option Addr)(rc0:Nat),v=.tuple #[.slice rb0 ((bp l signed bD).1).length rc0,I ((bp l signed bD).2)]/\SlC vB h' rb0 rc0 ((bp l signed bD).1)):=by
 refine sT func30 U ntmps30 U λX hM hX hF=>?_
 have hs0:=@rfl _ (bp l signed bD)
 refine qT 9 U (dP call50 (qX _ _ _ _ hl) U (qO 7 U (cQ hs0 U (λc1 hs1=>?_) (λc1 hs2=>?_))))
 .refine qT 6 U ?_
  have hs3:bp l signed bD=([],(aY l)):=hs1
  exact nretH [zSN,I (aY l)] (hs3▸⟨none,0,U,qH⟩)
 refine qT 6 U (dP call94 (sF _ _ _ _ _ _ _ hl gL) U (qO 2 U (nH 4 [23,24,25,26,27] 23 27 (!(iZ bD)) U (λc2 hk1=>?_) (λe=>?_))))
 .exact cN (dP call95 (sf h bD) U (qO 2 U (hk1 _ U)))
 refine bM (cQ hs2 U (λc3 hs4=>?_) (λc3 hs5=>?_))
 .refine qT 5 U ?_
  have hs6:bp l signed bD=([],1):=hs4
  exact nretH [zSN,I 1] (hs6▸⟨none,0,U,qH⟩)
 refine qT 6 U (aM (cW call96 (ux _ _ _ _ _ _ _ bD hl gL (by simpa using c1) (DH ob) hln) U (λv1 h1 hle1 hp1=>?_)))
 obtain⟨q1,rr1,rfl,ok1,A1⟩:=hp1
 refine qL 9 [] U ?_
 refine lp2 l (λi w=>[(2,I bD),(6,.slice w.2.1 w.1.length w.2.2.1),(9,.pointer (some q1)),(32,.slice fm l.length fj),(33,I (l.length:Int)),(34,I (i:Int))]) (λ_=>h1) (λw=>w.2.2.2) (λi w=>cI vB 3 h1 w.1 w.2.1 w.2.2.1 w.2.2.2/\w.1.length<=0+i) (λs1 i w=>(bp.L1 l signed bD (bp.K1)) s1 i w.1) ([],none,0,[]) ((hl.mono av.aK hle1).1.1) hs5 ⟨cI.nil,lo⟩ ?_ ?_
 .rintro i1 ⟨uS,Rw,Rv,O2⟩ m4 hs7 ⟨LD,UD⟩ e
  try dsimp only at LD UD
  refine qT 6 U (ib kM ([]) O2 ([]) ap hM LD (λh3 hle3 sl2=>?_))
  have hs8:bp l signed bD=(uS,0):=hs7
  exact nretH [.slice Rw uS.length Rv,I 0] (hs8▸⟨Rw,Rv,U,sl2⟩)
 rintro i1 ⟨uS,Rw,Rv,O2⟩ y1 rz1 hd1 mN kl oD yD hs9 ⟨LD,UD⟩ hx1 ag1 e
 try dsimp only at LD UD
 refine sr (tO mN U (qO 9 U (aM (iR EU ty54 (hl.mono av.aK hle1).1 kl U U U (λ_ _ _ e=>e) (λq3 r2 A3 ok3=>gV ty54 A3 U U (cD zc54 (λb3=>iB (ct 0 ty54 U U U U U U (kX (L':=[(b3,O (av.cells y1 r2) 54)]++(O2)) U (qO 6 U (dP call97 (nO h1 (cu l signed bD) rr1 q1 (i1:Int) bD ok1 A1 (by first|exact Lo ob|(rw[w7];omega)) (FY _ _ _)) U (qO 11 U (cQ hs9 U (λc5 hs10=>?_) (λc5 hs11=>?_))))))))))))))
 .exact qK 4 [0] U (aM (bW (cells:=[I y1.No]) fa ty3 zc3 U U kr (λb4=>aM (fd ZO ([(b4,O [I y1.No] 3),(b3,O (av.cells y1 r2) 54)]) ([]) (λG=>[(b4,O [I y1.No] 3),(b3,O (av.cells y1 r2) 54)]++G) ap (λ_=>ap) fa ty3 zc3 U bytes3 LD U U (iM 0 U (cE (y1.No) U U)) lo lo (λob2 oc2 G2 gr2=>qO 4 U (oi i1 U (qO 2 U (dE (L':=G2) js (ag1 ((uS++[y1.No]),ob2,oc2,G2) hs10 ⟨gr2,lo⟩)))))))))
 exact iL (qT 2 U (oi i1 U (qO 2 U (dE (L':=O2) js (ag1 (uS,Rw,Rv,O2) hs11 ⟨LD,lo⟩)))))
instance kC30:Ct 30:=⟨_,call30,@pC⟩
theorem GW(h u qm ql)(hu:SlC Zz h qm ql u):Ret prog 98 [.slice qm u.length ql] h (.bool (gY u)):=by
 refine sVv func98 ntmps98 ?_
 generalize hz:(gY u)=z
 have HA:=λ{b1}=>lM [3,7,8] 9 (.mM b1 (jC .i64) sJ .mE) (λs1 i w=>(gY.L1 (gY.K1)) s1 w.1)
 exact W
theorem uz(h l fm fj kind bD ah)(hl:SlC xS h fm fj l)(hsz0:l.length<=2000000):jv prog 100 [.slice fm l.length fj,I kind,I bD,I ah] h (λv h'=>∃(rb0:Option Addr)(rc0:Nat),v=.slice rb0 (aU l kind bD ah).length rc0/\SlC xS h' rb0 rc0 (aU l kind bD ah)):=by
 refine sVv func100 ntmps100 ?_
 generalize hz:(aU l kind bD ah)=z
 have HA:=λ{b1}=>lM [0,1,2,3,8,9,18,19] 20 (.mM b1 gq.enc (lY xS) .mE) (λs1 i w=>(aU.L1 kind bD ah (aU.K1 l)) s1 w.1)
 have HB:=λ{cH}=>hG [9,69,70] 71 8 xS 81 (λs2 i w=>(aU.L2 cH (aU.K2)) s2 w)
 exact W
instance kC100:Ct 100:=⟨_,call100,@uz⟩
theorem EI(h u qm ql u_q ah known_q)(bg:Budget)(bg_q at_ at__q)(hu:SlC Zz h qm ql u)(au:At h u_q [.slice qm u.length ql])(aknown:At h known_q [I ah])(abg:At h bg_q (vS bg))(aat_:At h at__q [I at_])(hbp:bg.lC≠0):Itr prog (.func (.func 173) #[] (kB [.pointer (some u_q),.pointer (some known_q),.pointer (some bg_q),.pointer (some at__q)])) te (jU u ah bg at_) h:=by
 refine sR call173 ?_
 generalize hz:jU u ah bg at_=z;have hs:=hz.symm
 intro yf ya yb C Sp Pn h1 A dN m1 m2 m3 hC hy
 refine sTY func173 U ntmps173 U λX hXM hX hF=>?_
 have hv:z=[]++z:=rfl
 have HA:=h0 [0,2,3,4,8,9] 10 (λs1 i=>(jU.L1 ah bg at_ (jU.K1)) s1)
 exact W
instance kI173:CtI 173:=⟨_,@EI⟩
theorem GX(h)(Nt:Budget)(u qm ql bD ah)(hu:SlC Zz h qm ql u)(hbp:Nt.lC≠0):jv prog 101 [.agg (vS Nt).toArray,.slice qm u.length ql,I bD,I ah] h (λv h'=>∃(rv0:Value),v=rv0/\Itr prog rv0 te (sj Nt u bD ah) h'):=by
 refine sVv func101 ntmps101 ?_
 generalize hz:(sj Nt u bD ah)=z
 exact W
theorem uj(h l fm fj u qm ql kind value cL ah)(hl:SlC xS h fm fj l)(hu:SlC Zz h qm ql u)(hsz:l.length<=2000000):Ret prog 31 [.slice fm l.length fj,.slice qm u.length ql,I kind,I value,I cL,I ah] h (.tuple #[I ((aL l u kind value cL ah).1),.bool ((aL l u kind value cL ah).2.1),I ((aL l u kind value cL ah).2.2)]):=by
 refine dL Hv U ntmps31 U λX hM hX=>?_
 have hs0:=@rfl _ (aL l u kind value cL ah)
 refine qT 10 U (dP call48 (sU _ _ _ _ hl) U (qO 7 U (cQ hs0 U (λc1 hs1=>?_) (λc1 hs2=>?_))))
 .refine qT 7 U ?_
  have hs3:aL l u kind value cL ah=(0,false,(bC l)):=hs1
  exact wQ [I 0,.bool false,I (bC l)] Hv U hX rd (congrArg (λr:(Int×Bool×Int)=>(.tuple #[I r.1,.bool r.2.1,I r.2.2]:Value)) hs3.symm)
 refine qK 8 [] U (cQ hs2 U (λc2 hs4=>?_) (λc2 hs5=>?_))
 .have c2p:=of_decide_eq_true c2
  refine qT 6 U ?_
  have hs6:aL l u kind value cL ah=(0,false,2):=hs4
  exact wQ [I 0,.bool false,I 2] Hv U hX rd (congrArg (λr:(Int×Bool×Int)=>(.tuple #[I r.1,.bool r.2.1,I r.2.2]:Value)) hs6.symm)
 have c2p:=of_decide_eq_false c2
 refine qT 5 U (dP call98 (GW _ _ _ _ hu) U (qO 2 U (cQ hs5 U (λc3 hs7=>?_) (λc3 hs8=>?_))))
 .refine qT 6 U ?_
  have hs9:aL l u kind value cL ah=(0,false,180):=hs7
  exact wQ [I 0,.bool false,I 180] Hv U hX rd (congrArg (λr:(Int×Bool×Int)=>(.tuple #[I r.1,.bool r.2.1,I r.2.2]:Value)) hs9.symm)
 refine qT 5 U (aM (bW (cells:=[I kind]) fa ty3 zc3 U U kr (λb1=>dF 0 U hM (λh1 hle1 hb1=>?_))))
 have sl1:SlC vB h1 (zAD b1) 1 ([kind]):=dC.slB0 (T:=3) (fz:=(0,0)) ((show dC vB h [I kind] ([kind])from⟨[I kind],[],rfl,rfl,rfl,rfl⟩).mono kM hle1) hb1
 refine dP Th (ow _ 0 15 _ _ _ sl1) U (qO 2 U (nH 5 [36,37,38,39,40,41] 36 41 (!(cC 0 1099511627776 ([value]))) U (λc4 hk1=>?_) (λe=>?_)))
 .refine cN (aM (bW (cells:=[I value]) fa ty3 zc3 U U kr (λb2=>dF 0 U hM (λh2 hle2 hb2=>?_))))
  have sl2:SlC vB h2 (zAD b2) 1 ([value]):=dC.slB0 (T:=3) (fz:=(0,0)) ((show dC vB h1 [I value] ([value])from⟨[I value],[],rfl,rfl,rfl,rfl⟩).mono kM hle2) hb2
  exact dP Th (ow _ 0 1099511627776 _ _ _ sl2) U (qO 2 U (Ha (h:=h1) hle2 hX hle1 (hk1 _ U)))
 refine cN (nH 6 [42,43,44,45,46,47,48] 42 48 (!(cC 0 1099511627775 ([cL,ah]))) U (λc5 hk2=>?_) (λe=>?_))
 .refine qO 2 U (aM (bW (cells:=[I cL,I ah]) fa ty3 zc3 U U kr (λb3=>dF 0 U hM (λh3 hle3 hb3=>?_))))
  have sl3:SlC vB h3 (zAD b3) 2 ([cL,ah]):=dC.slB0 (T:=3) (fz:=(0,0)) ((show dC vB h1 [I cL,I ah] ([cL,ah])from⟨[I cL],[I ah],rfl,rfl,rfl,⟨[I ah],[],rfl,rfl,rfl,rfl⟩⟩).mono kM hle3) hb3
  exact dP Th (ow _ 0 1099511627775 _ _ _ sl3) U (qO 2 U (Ha (h:=h1) hle3 hX hle1 (hk2 _ U)))
 refine bM (cQ hs8 U (λc6 hs10=>?_) (λc6 hs11=>?_))
 .refine qT 6 U ?_
  have hs12:aL l u kind value cL ah=(0,false,1):=hs10
  exact wQ [I 0,.bool false,I 1] Hv U hX rd (congrArg (λr:(Int×Bool×Int)=>(.tuple #[I r.1,.bool r.2.1,I r.2.2]:Value)) hs12.symm)
 refine qT 8 U (aM (cW call100 (uz _ _ _ _ kind cL ah (hl.mono Budget.aK hle1) ob) U (λv1 h4 hle4 hp1=>?_)))
 obtain⟨rb1,rc1,rfl,sl4⟩:=hp1
 refine qL 3 [] U (ij (dV (L':=markB []) ap ?_))
 refine yS (ι:=Nat×List Nat×HF) (λi=>[]) (λi=>marks i.2.1) (λi=>i.2.2) (λi=>markB i.2.1) (λi=>i.1<=(aU l kind cL ah).length/\aL l u kind value cL ah=((aL.K1))/\jL h4 i.2.2) ?_ (λhx1=>?_)
 .rintro⟨i1,rs1,hh1⟩ ⟨m4,hs13,hl1⟩ e
  refine qT 6 U ?_
  have hs14:aL l u kind value cL ah=((-1),true,0):=hs13
  exact dV (L':=([])++markB rs1) ap (Dx rs1 [I (-1),.bool true,I 0] Hv U hX rd (congrArg (λr:(Int×Bool×Int)=>(.tuple #[I r.1,.bool r.2.1,I r.2.2]:Value)) hs14.symm))
 refine Dy (ι:=Nat×List Nat×HF×List Budget) (λi=>[(1,.slice qm u.length ql),(3,I value),(4,I cL),(5,I ah),(53,.slice rb1 ((aU l kind cL ah).length) rc1),(54,I ((aU l kind cL ah).length:Int)),(55,I (i.1:Int))]) (λi=>marks i.2.1) (λi=>i.2.2.1) (λi=>markB i.2.1) (λi=>(aU l kind cL ah).drop i.1=i.2.2.2/\i.1<=(aU l kind cL ah).length/\aL l u kind value cL ah=((aL.L1 u value cL ah (aL.K1)) i.2.2.2)/\jL h4 i.2.2.1) (λi=>i.2.2.2.length) (0,[],h4,(aU l kind cL ah)) U rd sw ⟨U,jH _,hs11,lf⟩ ?_
 rintro⟨i1,rs1,hh1,s1⟩ ⟨hd1,m4,hs15,hl1⟩ ag1 e
 rcases s1 with _|⟨y1,rz1⟩
 .have uQ:=oW hd1
  exact sr (fO uQ U (qO 4 U (hx1 (i1,rs1,hh1) _ ⟨m4,hs15,hl1⟩ trivial)))
 have mN:=wp hd1
 have kl:=ui hd1
 have oD:=iy hd1
 have yD:=sl4.1.1
 refine sr (tO mN U (qO 8 U (aM (iF vS Tj ty81 (sl4.mono Budget.aK hl1).1 kl U U U (λq2 A2=>gV ty81 A2 U U (cD zc81 (λb7=>ct 0 ty81 U U U U U U (qO 4 U (cD zc3 (λb8=>cD zc3 (λb9=>dD 1 ty3 U U U U U U (dD 0 ty3 U U U U U U (qO 4 U (eS 2 ty81 U U U (qO 3 U (aM (cW call101 (GX _ y1 _ _ _ cL ah (hu.mono Use.aK ((hle1.t hle4).t hl1)) (N7 (by simpa using c1) (eM hd1))) U (λv3 h6 hle6 hp3=>?_))))))))))))))))))
 obtain⟨_,rfl,mo2⟩:=hp3
 refine qO 2 U ?_
 let z1:Nat×Obj:=(b7,O (vS y1) 81)
 refine dV (L':=([(b9,O [I value] 3),(b8,O [I 1] 3),z1])++markB rs1) ap ?_
 refine nF (it:=v3) (xs:=(sj y1 u cL ah)) (ι:=Int×Int×HF) rs1 (λi=>i.2.2) (λi=>[(b9,O [I i.1] 3),(b8,O [I i.2.1] 3),z1]) (λs i=>aL l u kind value cL ah=((aL.L3 (λzg3_b9_0 zg3_b8_0=>(bif(decide (y1.Count<zg3_b8_0)||decide (y1.Value<zg3_b9_0))then(y1.No,false,0)else(aL.L1 u value cL ah (aL.K1) rz1)))) s i.1 i.2.1)/\jL h6 i.2.2) (λ_=>False) (λ_=>False) 0 (λ_ _ _=>False) (value,1,h6) Hv U mo2 U Bl (λ_ _ _ _ _ hq=>hq) U (show[(b9,O [I value] 3),(b8,O [I 1] 3),z1]=_ from U) ⟨hs15,lf⟩ ?_ ?_ ?_ ?_ ?_
 .rintro l3 dm3 lp3 y3 rz3 vs3 ⟨zo,Cf,hh3⟩ hr3 X hFR3 ⟨hs17,hl3⟩ hl03 hlr3 hv3 hX hXM hlp3 nx3 rt3 ex3 pn3
  obtain rfl:=hv3
  exact dV (L':=[(l3,.loop lp3),(dm3,.deferred (some [])),(b9,O [I zo] 3),(b8,O [I Cf] 3),z1]++(markB rs1)) ap (qT 3 U (mU 0 U hlp3 (qK 5 [3] U (dD 3 ty3 U U U U U U (qL 5 [2] U (dD 2 ty3 U U U U U U (qO 2 U (dV (L':=rdH l3 dm3 lp3 (([(b9,O [I (vC .i64 (zo+y3))] 3),(b8,O [I (vC .i64 (Cf+1))] 3),z1])++markB rs1)) ap (nx3 ((vC .i64 (zo+y3)),(vC .i64 (Cf+1)),hr3) _ _ ⟨hs17,(hl3.t hlr3)⟩ lf)))))))))
 .rintro dm3 ⟨zo,Cf,hh3⟩ hn3 ⟨hs18,hl3⟩ hln3 hl03
  refine dV (L':=[(b9,O [I zo] 3),(b8,O [I Cf] 3),z1]++(markB (dm3::rs1))) ap (qK 8 [1,2] U (nH 5 [75,76,77,78,79,80] 75 80 (decide (y1.Value<zo)) U (λc7 hk3=>?_) (λe=>?_)))
  .exact qL 5 [0,2] U (hk3 _ U)
  refine bM (cQ hs18 U (λc8 hs19=>?_) (λc8 hs20=>?_))
  .refine qK 8 [2] U ?_
   have hs21:aL l u kind value cL ah=(y1.No,false,0):=hs19
   exact dV (L':=([(b9,O [I zo] 3),(b8,O [I Cf] 3),z1])++markB (dm3::rs1)) ap (Dx (dm3::rs1) [I y1.No,.bool false,I 0] Hv U hX rd (congrArg (λr:(Int×Bool×Int)=>(.tuple #[I r.1,.bool r.2.1,I r.2.2]:Value)) hs21.symm))
  exact iL (qT 2 U (oi i1 U (qO 2 U (dE (L':=markB (dm3::rs1)) js (ag1 ((i1+1),(dm3::rs1),hn3,rz1) _ (Nat.lt_succ_self _) ⟨ll hd1,iy hd1,hs20,(((hl1.t hle6).t hl3).t hln3)⟩ rd)))))
 .exact xf
 .exact xf
 exact xf
theorem yz(h d BH v0 SX v0_q)(hd:av.ok h d BH)(hv0:bI.ok h v0 SX)(av0:At h v0_q (bI.cells v0 SX)):Ret prog 104 [.agg (av.cells d BH).toArray,.pointer (some v0_q)] h (.bool (jI d v0)):=by
 refine sVv func104 ntmps104 ?_
 generalize hz:(jI d v0)=z
 exact W
instance kC104:Ct 104:=⟨_,call104,@yz⟩
theorem su(h s qy pZ)(f:(av->Bool))(f_v)(hs:SlC av.rp h qy pZ s)(hf:∀(h':HF)(fh:av)(KR:lv),jL h h'->fh∈s->av.ok h' fh KR->ra prog f_v [.agg (av.cells fh KR).toArray] h' [] (.bool (f fh))):Ret prog 174 [.slice qy s.length pZ,f_v] h (.bool (mq s f)):=by
 refine sVv func174 ntmps174 ?_
 generalize hz:(mq s f)=z
 exact W
instance kC174:Ct 174:=⟨_,call174,@su⟩
theorem Co(h s qy pZ v)(hs:SlC vB h qy pZ s):Ret prog 177 [.slice qy s.length pZ,I v] h (I (jf s v)):=by
 refine sVv func177 ntmps177 ?_
 generalize hz:(jf s v)=z
 have HA:=h0 [0,1,7] 8 (λs1 i=>(jf.L1 v (jf.K1)) s1 i)
 exact W
instance kC177:Ct 177:=⟨_,call177,@Co⟩
theorem rF(h s qy pZ v)(hs:SlC vB h qy pZ s):Ret prog 107 [.slice qy s.length pZ,I v] h (.bool (fu s v)):=by
 refine sVv func107 ntmps107 ?_
 generalize hz:(fu s v)=z
 exact W
instance kC107:Ct 107:=⟨_,call107,@rF⟩
theorem Fx(h l fm fj signed bK bJ no dU)(hl:SlC av.rp h fm fj l)(gL:SlC vB h bK bJ signed)(hln:l.length<20):Ret prog 176 [.slice fm l.length fj,.slice bK signed.length bJ,I no,I dU] h (.tuple #[I ((ji l signed no dU).1),I ((ji l signed no dU).2.1),I ((ji l signed no dU).2.2)]):=by
 refine sT func176 U ntmps176 U λX hM hX hF=>?_
 have hs0:=@rfl _ (ji l signed no dU)
 refine qT 10 U (dP call50 (qX _ _ _ _ hl) U (qO 7 U (cQ hs0 U (λc1 hs1=>?_) (λc1 hs2=>?_))))
 .refine qT 7 U ?_
  have hs3:ji l signed no dU=(0,0,(aY l)):=hs1
  exact nretP [I 0,I 0,I (aY l)] (hs3▸U)
 refine qT 6 U (dP call94 (sF _ _ _ _ _ _ _ hl gL) U (qO 2 U (nH 4 [24,25,26,27,28] 24 28 (!(iZ dU)) U (λc2 hk1=>?_) (λe=>?_))))
 .exact cN (dP call95 (sf h dU) U (qO 2 U (hk1 _ U)))
 refine bM (cQ hs2 U (λc3 hs4=>?_) (λc3 hs5=>?_))
 .refine qT 6 U ?_
  have hs6:ji l signed no dU=(0,0,1):=hs4
  exact nretP [I 0,I 0,I 1] (hs6▸U)
 refine qT 6 U (aM (cW call96 (ux _ _ _ _ _ _ _ dU hl gL (by simpa using c1) (DH ob) hln) U (λv1 h1 hle1 hp1=>?_)))
 obtain⟨q1,rr1,rfl,ok1,A1⟩:=hp1
 refine qO 5 U (aM (em (fU U) (qL 2 [] U (nv (j:=1) ty183 A1 U U (cN ?_)))))
 obtain⟨o1,hb1,hm1⟩:=ok1.shelf.at_
 refine aM (wR (k:=no) Dv (ga nz) hb1 hm1 (fG zv3) (show Aw _ (I 0) 0 from U) U U (λv2 hv1=>?_))
 obtain rfl:=hv1
 refine qO 12 U (cQ hs5 U (λc4 hs7=>?_) (λc4 hs8=>?_))
 .refine qT 6 U ?_
  have hs9:ji l signed no dU=(0,0,1):=hs7
  exact nretP [I 0,I 0,I 1] (hs9▸U)
 refine qT 6 U (dP call97 (nO h1 (cu l signed dU) rr1 q1 (mgetD ((cu l signed dU).shelf.at_) no 0) dU ok1 A1 (by first|exact Lo ob|(rw[w7];omega)) (FY _ _ _)) U (qO 14 U ?_))
 have hs10:ji l signed no dU=((cY (cu l signed dU) (mgetD ((cu l signed dU).shelf.at_) no 0) dU).1,(cY (cu l signed dU) (mgetD ((cu l signed dU).shelf.at_) no 0) dU).2,0):=hs8
 exact nretP [I ((cY (cu l signed dU) (mgetD ((cu l signed dU).shelf.at_) no 0) dU).1),I ((cY (cu l signed dU) (mgetD ((cu l signed dU).shelf.at_) no 0) dU).2),I 0] (hs10▸U)
instance kC176:Ct 176:=⟨_,call176,@Fx⟩
theorem xx(h d BH c rB c_q signed bK bJ signed_q)(hd:av.ok h d BH)(hc:bI.ok h c rB)(ac:At h c_q (bI.cells c rB))(gL:SlC vB h bK bJ signed)(asigned:At h signed_q [.slice bK signed.length bJ])(hsm:smR c.Register)(hco:iI c)(hln:c.Register.bV.length<20)(hsg:cj c.Register.bV signed=true)(hdm:d∈c.Register.bV):Ret prog 175 [.agg (av.cells d BH).toArray,.pointer (some c_q),.pointer (some signed_q)] h (.bool (oV d c signed)):=by
 refine sVv func175 ntmps175 ?_
 generalize hz:(oV d c signed)=z
 have hsq:=hsm;unfold smR at hsq
 have q1:=λ{e:Int}(a:e=0)=>(show lP e=.ok ()from by subst a;rfl)
 have hcq:=hco;cases hcq
 have q0:=@SF
 exact W
instance kC175:Ct 175:=⟨_,call175,@xx⟩
theorem zh(h c rB signed bK bJ)(hc:bI.ok h c rB)(gL:SlC vB h bK bJ signed)(hsm:smR c.Register)(hco:iI c)(hln:c.Register.bV.length<20)(hsg:cj c.Register.bV signed=true):Ret prog 105 [.agg (bI.cells c rB).toArray,.slice bK signed.length bJ] h (.bool (pQ c signed)):=by
 refine sVv func105 ntmps105 ?_
 generalize hz:(pQ c signed)=z
 have hsq:=hsm;unfold smR at hsq
 have hcq:=hco;cases hcq
 exact W
instance kC105:Ct 105:=⟨_,call105,@zh⟩
theorem Ap(h c rB signed bK bJ)(hc:bI.ok h c rB)(gL:SlC vB h bK bJ signed)(hsm:smR c.Register)(hco:iI c)(hln:c.Register.bV.length<20)(hsg:cj c.Register.bV signed=true):Ret prog 34 [.agg (bI.cells c rB).toArray,.slice bK signed.length bJ] h (.bool (fq c signed)):=by
 refine sVv func34 ntmps34 ?_
 generalize hz:(fq c signed)=z
 have hsq:=hsm;unfold smR at hsq
 have hcq:=hco;cases hcq
 have q0:=@SG
 exact W
instance kC34:Ct 34:=⟨_,call34,@Ap⟩
theorem Fl(h c rB c_q signed bK bJ signed_q)(hc:bI.ok h c rB)(ac:At h c_q (bI.cells c rB))(gL:SlC vB h bK bJ signed)(asigned:At h signed_q [.slice bK signed.length bJ])(hsm:smR c.Register)(hco:iI c)(hln:c.Register.bV.length<20)(hsg:cj c.Register.bV signed=true):Ret prog 33 [.pointer (some c_q),.pointer (some signed_q)] h (.bool (CM c signed)):=by
 refine sVv func33 ntmps33 ?_
 generalize hz:(CM c signed)=z
 have hsq:=hsm;unfold smR at hsq
 have hcq:=hco;cases hcq
 exact W
theorem zj(h gj v0 ye yd v0_q)(hv0:SlC vB h ye yd v0)(av0:At h v0_q [.slice ye v0.length yd]):Ret prog 106 [I gj,.pointer (some v0_q)] h (.bool (pR gj v0)):=by
 refine sVv func106 ntmps106 ?_
 generalize hz:(pR gj v0)=z
 exact W
instance kC106:Ct 106:=⟨_,call106,@zj⟩
theorem Bi(h c rB signed bK bJ)(hc:bI.ok h c rB)(gL:SlC vB h bK bJ signed)(hsm:smR c.Register)(hco:iI c)(hln:c.Register.bV.length<20)(hsg:cj c.Register.bV signed=true):Ret prog 36 [.agg (bI.cells c rB).toArray,.slice bK signed.length bJ] h (.bool (io c signed)):=by
 refine sVv func36 ntmps36 ?_
 generalize hz:(io c signed)=z
 have hsq:=hsm;unfold smR at hsq
 have q1:=λ{e:Int}(a:e=0)=>(show lP e=.ok ()from by subst a;rfl)
 have hcq:=hco;cases hcq
 have q0:=@KI
 exact W
instance kC36:Ct 36:=⟨_,call36,@Bi⟩
theorem Fk(h c rB c_q signed bK bJ signed_q)(hc:bI.ok h c rB)(ac:At h c_q (bI.cells c rB))(gL:SlC vB h bK bJ signed)(asigned:At h signed_q [.slice bK signed.length bJ])(hsm:smR c.Register)(hco:iI c)(hln:c.Register.bV.length<20)(hsg:cj c.Register.bV signed=true):Ret prog 35 [.pointer (some c_q),.pointer (some signed_q)] h (.bool (CL c signed)):=by
 refine sVv func35 ntmps35 ?_
 generalize hz:(CL c signed)=z
 have hsq:=hsm;unfold smR at hsq
 have hcq:=hco;cases hcq
 exact W
theorem qt(h gj)  : Ret prog 178 [I gj] h (.bool (fx gj)):=by
 refine sVv func178 ntmps178 ?_
 generalize hz:(fx gj)=z
 exact W
theorem yj(h)(seq:List Int)(seq_v)(hseq:Itr prog seq_v te seq h)(hsz:seq.length<=2000000):jv prog 234 [zSN,seq_v] h (λv h'=>∃(rb0:Option Addr)(rc0:Nat),v=.slice rb0 (el seq).length rc0/\SlC vB h' rb0 rc0 (el seq)):=by
 refine sVv func234 ntmps234 ?_
 generalize hz:(el seq)=z
 have HA:=λ{b1}=>lR (.mF b1 (λl b c=>[.slice b l.length c]) 31 vB 3 .mE) (λs w=>((el.L1 (el.K1)) s w.1))
 exact W
instance kC234:Ct 234:=⟨_,call234,@yj⟩
theorem Aj(h)(seq:List Int)(seq_v)(hseq:Itr prog seq_v te seq h)(hsz:seq.length<=2000000):jv prog 145 [seq_v] h (λv h'=>∃(rb0:Option Addr)(rc0:Nat),v=.slice rb0 (eA seq).length rc0/\SlC vB h' rb0 rc0 (eA seq)):=by
 refine sVv func145 ntmps145 ?_
 generalize hz:(eA seq)=z
 exact W
theorem Rf(h:p:=by
  exact jZ U (bS (oi i1 U (qO 2 U (dE (L':=[(b1,BE)]++(A)) js (ag2 (uS,cH,BE) hs7 ⟨wl,lc⟩)))))):p:=h
theorem Ag(h l fm fj l_q ah known_q ff from__q)(hl:SlC aD.rp h fm fj l)(al:At h l_q [.slice fm l.length fj])(aknown:At h known_q [I ah])(afrom_:At h from__q [I ff])(hsz:l.length<=2000000):Itr prog (.func (.func 262) #[] (kB [.pointer (some l_q),.pointer (some known_q),.pointer (some from__q)])) ug (bH l ah ff) h:=by
 refine sR call262 ?_
 intro yf ya yb C Sp Pn h1 A dN m1 m2 m3 hC hy
 refine mP S8 U ntmps262 U λX hXM hX=>?_
 have hs0:bH l ah ff=[]++bH l ah ff:=rfl
 refine sr (aM (TH hXM (λb1 b1M=>qO 9 U (fV ty26 (al.mono dN) U (qL 3 [] U ?_)))))
 refine lp2 l (λi w=>[(0,.func yf ya yb),(2,.pointer (some known_q)),(3,.pointer (some from__q)),(5,.map (some b1)),(6,I w.1),(13,.slice fm l.length fj),(14,I (l.length:Int)),(15,I (i:Int))]) (λ_=>h1) (λw=>[(b1,w.2.2)]++(A)) (λi w=>ki (jC .i64) (lY aD.rp) h1 w.2.2 w.2.1/\w.2.1.length<=0+i) (λs1 i w=>[]++(bH.L1 ah ff (bH.K1)) s1 w.1 w.2.1) ((-1),[],.map #[] 0) ((hl.mono aD.aK dN).1.1) hs0 ⟨(ki.nil (enc:=(jC .i64)) (V:=(lY aD.rp)) (h:=h1)),lc⟩ ?_ ?_
 .rintro i1 ⟨uS,cH,BE⟩ m4 hs1 ⟨wl,Jn⟩ e
  try dsimp only at wl Jn
  refine qT 3 U (CU 0 U b1M (λh8 hle7 hb3=>?_))
  have mc2:uY (jC .i64) (lY aD.rp) h8 b1 cH:=⟨_,hb3,wl.mono (lY.mono aD.aK) hle7⟩
  refine aM (cW call264 (Be h8 cH b1 mc2) U (λv4 h9 hle8 hp3=>aM (cW call263 (Cm h9 v4 (cH.map Prod.fst) hp3 (by rw[List.length_map];omega)) U (λv5 h10 hle9 hp4=>?_))))
  obtain⟨rb2,rc2,rfl,sl2⟩:=hp4
  refine qL 3 [] U ?_
  refine lp2 (sortI (cH.map Prod.fst)) (λi w=>[(0,.func yf ya yb),(5,.map (some b1)),(39,.slice rb2 ((sortI (cH.map Prod.fst)).length) rc2),(40,I ((sortI (cH.map Prod.fst)).length:Int)),(41,I (i:Int))]) (λw=>w.2.2) (λw=>w.2.1) (λi w=>C w.1 w.2.2 w.2.1/\jL h10 w.2.2) (λs2 i w=>w.1++(bH.L2 cH (bH.K2)) s2) ([],A,h10) sl2.1.1 hs1 ⟨(m1 _ _ _ _ ((hle7.t hle8).t hle9) hC),lf⟩ ?_ ?_
  .rintro i2 ⟨dn2,A2_,hh2⟩ Ed hs2 ⟨hC2_,hl2⟩ e
   try dsimp only at hC2_ hl2
   refine ij ?_
   have hs3:bH l ah ff=dn2:=hs2.trans (List.append_nil _)
   exact Bo [] (A:=A2_) S8 U (List.Sublist.refl _) (.inl (hs3▸hC2_))
  rintro i2 ⟨dn2,A2_,hh2⟩ y2 rz2 hd2 Ar uv I2 Qc hs4 ⟨hC2_,hl2⟩ hx2 ag1 e
  try dsimp only at hC2_ hl2
  refine sr (tO Ar U (qO 8 U (aM (iF (λy=>[I y]) fa ty3 (sl2.mono kM hl2).1 uv U U U (λq4 A10=>fV ty3 A10 U (qO 8 U ?_))))))
  obtain⟨o3,hb5,hm5⟩:=(mc2.mono (lY.mono aD.aK) ((hle8.t hle9).t hl2))
  refine aM (rg (k:=y2) Tb (ga nz) hb5 hm5 (fG zv63) (show(lY aD.rp) _ (.agg (kB [I 0,I 0,I 0,.string (⟨#[]⟩:ByteArray),zSN,zSN,zSN,I 0,I 0,I 0,.string (⟨#[]⟩:ByteArray),zSN,I 0])) (aD.mk 0 0 0 (ay.mk (⟨#[]⟩:ByteArray) [] [] [] (ao.mk 0 0 0 (⟨#[]⟩:ByteArray) []) 0))from⟨_,U,(nP.mk (ir.mk none 0 none 0 none 0 (dJ.mk none 0))),U,⟨⟨qH,qH,qH,(ao.ok.of qH)⟩⟩⟩) U U (λv7 hv3=>?_))
  obtain⟨_,rfl,rr4,rfl,ok4⟩:=hv3
  have hx3:bH l ah ff=dn2++((y2,(mgetD cH y2 (aD.mk 0 0 0 (ay.mk (⟨#[]⟩:ByteArray) [] [] [] (ao.mk 0 0 0 (⟨#[]⟩:ByteArray) []) 0))))::(bH.L2 cH (bH.K2) rz2)):=hs4
  refine aM (qn ([]) A2_ ap (hy dn2 (y2,(mgetD cH y2 (aD.mk 0 0 0 (ay.mk (⟨#[]⟩:ByteArray) [] [] [] (ao.mk 0 0 0 (⟨#[]⟩:ByteArray) []) 0)))) _ _ _ _ hx3 (((hle7.t hle8).t hle9).t hl2) hC2_ ⟨rr4,U,ok4⟩) U U (λh14 A11 hle13 hC3=>?_) (λh15 A12 hle14 hS3=>?_) (λch3 h16 A13 hle15 hP3 e=>mz (xO [] (A:=A13) S8 (List.sublist_append_right _ _) hP3)))
  .have hs5:bH l ah ff=(dn2++[(y2,(mgetD cH y2 (aD.mk 0 0 0 (ay.mk (⟨#[]⟩:ByteArray) [] [] [] (ao.mk 0 0 0 (⟨#[]⟩:ByteArray) []) 0))))])++((bH.L2 cH (bH.K2) rz2)):=hx3.trans ap
   exact qf U (qO 5 U (oi i2 U (qO 2 U (ag1 ((dn2++[(y2,(mgetD cH y2 (aD.mk 0 0 0 (ay.mk (⟨#[]⟩:ByteArray) [] [] [] (ao.mk 0 0 0 (⟨#[]⟩:ByteArray) []) 0))))]),A11,h14) hs5 ⟨hC3,(hl2.t hle13)⟩))))
  exact qf U (qO 2 U (ij (xI [] (A:=A12) S8 U (List.Sublist.refl _) (.inr hS3))))
 rintro i1 ⟨uS,cH,BE⟩ y1 rz1 hd1 mN kl oD yD hs6 ⟨wl,Jn⟩ hx1 ag2 e
 try dsimp only at wl Jn
 refine sr (tO mN U (qO 8 U (aM (iR Ht ty63 (hl.mono aD.aK dN).1 kl U U U (λ_ _ _ e=>e) (λq5 r2 A14 ok5=>gV ty63 A14 U U (cD zc63 (λb3=>ct 0 ty63 U U U U U U (kX (L':=[(b3,O (aD.cells y1 r2) 63),(b1,BE)]++(A)) U (qL 6 [0] U (fV ty3 (aknown.mono dN) U (qO 2 U (ld U (λc5=>?_) (λc5=>?_)))))))))))))
 .have c5p:=of_decide_eq_true c5
  have hs7:=hs6.trans (congrArg ([]++·) (bt c5))
  exact Rf
 have c5p:=of_decide_eq_false c5
 have hs8:=hs6.trans (congrArg ([]++·) (bf c5))
 refine qK 11 [0] U (fV ty3 (afrom_.mono dN) U (qO 2 U (ld U (λc6=>?_) (λc6=>?_))))
 .have c6p:=of_decide_eq_true c6
  have hs9:=hs8.trans (congrArg ([]++·) (bt c6))
  refine qT 7 U (ld U (λc7=>?_) (λc7=>?_))
  .have c7p:=of_decide_eq_true c7
   have hs7:=hs9.trans (congrArg ([]++·) (bt c7))
   exact Rf
  have c7p:=of_decide_eq_false c7
  have hs11:=hs9.trans (congrArg ([]++·) (bf c7))
  exact iL (fQ ([(b3,O (aD.cells y1 r2) 63),(b1,BE)]) mixed kr jn (λlA _=>tm 0 U (tf 1 U U (rh ty3 (afrom_.mono dN) U) (qA [2,3] U (dO kr (qT 3 U (eS 0 ty63 U U U (aM (pq 1 (k:=ff) (x:=y1) Tb (ga nz) U wl U U ⟨_,U,r2,U,ok5⟩ (λmo3 hm6=>qO 3 U (oi i1 U (qO 2 U (dE (L':=[(b1,mo3)]++(A)) js (ag2 (y1.At,(mput cH ff y1),mo3) hs11 ⟨hm6,(by have:=rP cH ff y1;first|omega|(simp only[jB,xA]at *;omega))⟩))))))))))))))
 have c6p:=of_decide_eq_false c6
 have hs12:=hs8.trans (congrArg ([]++·) (bf c6))
 exact iL (qT 3 U (eS 0 ty63 U U U (aM (pq 1 (k:=y1.At) (x:=y1) Tb (ga nz) U wl U U ⟨_,U,r2,U,ok5⟩ (λmo4 hm7=>qO 3 U (oi i1 U (qO 2 U (dE (L':=[(b1,mo4)]++(A)) js (ag2 (uS,(mput cH y1.At y1),mo4) hs12 ⟨hm7,(by have:=rP cH y1.At y1;first|omega|(simp only[jB,xA]at *;omega))⟩)))))))))
instance kI262:CtI 262:=⟨_,@Ag⟩
theorem Ck(h l fm fj ep ah)(hl:SlC aD.rp h fm fj l)(hsz:l.length<=2000000):jv prog 179 [.slice fm l.length fj,I ep,I ah] h (λv h'=>∃(rv0:Value),v=rv0/\Itr prog rv0 ug (ig l ep ah) h'):=by
 refine sVv func179 ntmps179 ?_
 generalize hz:(ig l ep ah)=z
 exact W
theorem tl(h l fm fj old)(hl:SlC aD.rp h fm fj l):jv prog 265 [.slice fm l.length fj,.bool old] h (λv h'=>∃(rb0:Option Addr)(rc0:Nat),v=.slice rb0 (kZ l old).length rc0/\SlC aD.rp h' rb0 rc0 (kZ l old)):=by
 refine sVv func265 ntmps265 ?_
 generalize hz:(kZ l old)=z
 exact W
theorem AA(h l fm fj old)(hl:SlC aD.rp h fm fj l)(hne:0<l.length):jv prog 266 [.slice fm l.length fj,.bool old] h (λv h'=>∃(rb0:Option Addr)(rc0:Nat),v=.slice rb0 (kY l old).length rc0/\SlC aD.rp h' rb0 rc0 (kY l old)):=by
 refine sVv func266 ntmps266 ?_
 generalize hz:(kY l old)=z
 exact W
theorem Az(h l fm fj old)(hl:SlC aD.rp h fm fj l)(hne:0<l.length):jv prog 267 [.slice fm l.length fj,.bool old] h (λv h'=>∃(rb0:Option Addr)(rc0:Nat),v=.slice rb0 (j7 l old).length rc0/\SlC aD.rp h' rb0 rc0 (j7 l old)):=by
 refine sT func267 U ntmps267 U λX hM hX hF=>?_
 have hs0:=@rfl _ (j7 l old)
 have hbl:=hl.1.1
 refine qK 9 [] U (gE (v':=I ((l.length:Int)-1)) U (kW ob) (aM (TG Ht ty63 hl.1 hl.2 ob U U U (λsb1 sc1 sl1=>an ?_))))
 have hs1:j7 l old=(l.drop ((((l.length:Int)-1):Int)).toNat):=hs0
 exact nretH [.slice sb1 ((l.drop ((((l.length:Int)-1):Int)).toNat).length) sc1] (hs1▸⟨sb1,sc1,U,sl1⟩)
theorem vk(h)   : jv prog 180 [] h (λv h'=>∃(rk0:Nat),v=.map (some rk0)/\uY (jC .i64) VFn h' rk0 (m7)):=by
 refine sT func180 U ntmps180 U λX hM hX hF=>?_
 have hs0:=@rfl _ (m7)
 refine qT 10 U (aM (s7 (λb1=>aM (vw 0 (k:=1) (x:=(Value.func (.func 266) #[] #[])) NA (ga nz) U (ki.nil (enc:=(jC .i64)) (V:=VFn) (h:=h)) U U U (λmo1 hm1=>aM (vw 0 (k:=2) (x:=(Value.func (.func 267) #[] #[])) NA (ga nz) U hm1 U U U (λmo2 hm2=>cN (aM (vw 0 (k:=3) (x:=(Value.func (.func 265) #[] #[])) NA (ga nz) U hm2 U U U (λmo3 hm3=>cN (aM (vw 0 (k:=4) (x:=(Value.func (.func 265) #[] #[])) NA (ga nz) U hm3 U U U (λmo4 hm4=>qO 3 U (gM 0 U hM (λh1 hle1 hb1=>?_)))))))))))))))
 have mc1:uY (jC .i64) VFn h1 b1 (mput (mput (mput (mput ([]) 1 (Value.func (.func 266) #[] #[])) 2 (Value.func (.func 267) #[] #[])) 3 (Value.func (.func 265) #[] #[])) 4 (Value.func (.func 265) #[] #[])):=⟨_,hb1,hm4.mono VFn.mono hle1⟩
 have hs1:m7=(mput (mput (mput (mput ([]) 1 (Value.func (.func 266) #[] #[])) 2 (Value.func (.func 267) #[] #[])) 3 (Value.func (.func 265) #[] #[])) 4 (Value.func (.func 265) #[] #[])):=hs0
 exact nretH [.map (some b1)] (hs1▸⟨b1,U,mc1⟩)
theorem OR(mode)(l:List aD)(old):(judgesP mode l old).length<=l.length:=by
 unfold judgesP kZ kY j7
 cases mode==1<;>cases mode==2<;>cases old<;>simp<;>omega
theorem OP(h)(mode:Int)(hm:1<=mode/\mode<=4)(l fm fj old)(hl:SlC aD.rp h fm fj l)(hne:0<l.length):
  Wp prog (mgetD m7 mode Value.nilFunc) [.slice fm l.length fj,.bool old] h (λv h'=>∃(rb0:Option Addr)(rc0:Nat),v=.slice rb0 (judgesP mode l old).length rc0/\SlC aD.rp h' rb0 rc0 (judgesP mode l old)):=by
 have:mode=1\/mode=2\/mode=3\/mode=4:=by omega
 rcases this with rfl|rfl|rfl|rfl
 .exact nI (cap:=[]) (args:=[.slice fm l.length fj,.bool old]) call266 (AA h l fm fj old hl hne)
 .exact nI (cap:=[]) (args:=[.slice fm l.length fj,.bool old]) call267 (Az h l fm fj old hl hne)
 .exact nI (cap:=[]) (args:=[.slice fm l.length fj,.bool old]) call265 (tl h l fm fj old hl)
 exact nI (cap:=[]) (args:=[.slice fm l.length fj,.bool old]) call265 (tl h l fm fj old hl)
theorem vl(h l fm fj db bD ah)(hl:SlC aD.rp h fm fj l)(hsm:smV l)(hk:dM h):jv prog 108 [.slice fm l.length fj,I db,I bD,I ah] h (λv h'=>∃(rb0:Option Addr)(rc0:Nat),v=.tuple #[.slice rb0 ((aN l db bD ah).1).length rc0,I ((aN l db bD ah).2.1),I ((aN l db bD ah).2.2)]/\SlC vB h' rb0 rc0 ((aN l db bD ah).1)):=by
 refine dL Nz U ntmps108 U λX hM hX=>?_
 have hs0:=@rfl _ (aN l db bD ah)
 have hsl:=hsm.len
 refine sr (iA (λb1=>iA (λb2=>qO 8 U (dP call49 (tD _ _ _ _ hl ob hk) U (qO 7 U (cQ hs0 U (λc1 hs1=>?_) (λc1 hs2=>?_)))))))
 .refine qT 7 U ?_
  have hs3:aN l db bD ah=([],0,(bE l)):=hs1
  exact lD [zSN,I 0,I (bE l)] Nz U rd ⟨none,0,congrArg (λr:(List Int×Int×Int)=>(.tuple #[.slice none r.1.length 0,I r.2.1,I r.2.2]:Value)) hs3.symm,(by rw[hs3];exact qH)⟩
 refine qK 5 [1] U (dP call178 (qt h db) U (qO 2 U (nH 4 [25,26,27,28,29] 25 29 (!(fx bD)) U (λc2 hk1=>?_) (λe=>?_))))
 .exact qL 1 [0] U (dP call178 (qt h bD) U (qO 2 U (hk1 _ U)))
 refine cN (nH 4 [30,31,32,33,34] 30 34 (!(fx ah)) U (λc3 hk2=>?_) (λe=>?_))
 .exact cN (dP call178 (qt h ah) U (qO 2 U (hk2 _ U)))
 refine cN (nH 4 [35,36,37,38,39] 35 39 (decide (bD<db)) U (λc4 hk3=>?_) (λe=>?_))
 .exact qL 4 [1,0] U (hk3 _ U)
 refine bM (cQ hs2 U (λc5 hs4=>?_) (λc5 hs5=>?_))
 .refine qT 6 U ?_
  have hs6:aN l db bD ah=([],0,1):=hs4
  exact lD [zSN,I 0,I 1] Nz U rd ⟨none,0,congrArg (λr:(List Int×Int×Int)=>(.tuple #[.slice none r.1.length 0,I r.2.1,I r.2.2]:Value)) hs6.symm,(by rw[hs6];exact qH)⟩
 refine qT 3 U (cD zc26 (λb3=>qO 3 U (cD zc4 (λb4=>dD 0 ty4 U U U U U U (qL 7 [3] U (aM (cW call179 (Ck _ _ _ _ db ah hl ob) U (λv1 h1 hle1 hp1=>?_))))))))
 obtain⟨_,rfl,mo1⟩:=hp1
 refine qO 2 U (ij (dV (L':=([(b4,O [.bool false] 4),(b3,O [zSN] 26),(b2,O [I bD] 3),(b1,O [I db] 3)])++markB []) ap ?_))
 refine KZ (it:=v1) (xs:=(ig l db ah)) (ι:=Bool×List aD×Option Addr×Nat×LH×HF) [] (λi=>i.2.2.2.2.2) (λi=>[(b4,O [.bool i.1] 4),(b3,O [.slice i.2.2.1 i.2.1.length i.2.2.2.1] 26),(b2,O [I bD] 3),(b1,O [I db] 3)]++(i.2.2.2.2.1)) (λs i=>aN l db bD ah=((aN.L1 db bD (aN.K1)) s i.1 i.2.1)/\cI aD.rp 63 i.2.2.2.2.2 i.2.1 i.2.2.1 i.2.2.2.1 i.2.2.2.2.1/\jL h1 i.2.2.2.2.2/\(∀x∈i.2.1,x∈l)/\(∀q∈s,q.2∈l)/\i.2.1.length+s.length<=l.length) (λ_=>False) 0 (λ_ _ _=>False) (false,[],none,0,[],h1) Nz U mo1 U uu (λ_ _ _ _ _ hq=>hq) U (show[(b4,O [.bool false] 4),(b3,O [zSN] 26),(b2,O [I bD] 3),(b1,O [I db] 3)]=_ from U) ⟨hs5,cI.nil,lf,(λx hx=>(jA hx).elim),Br,(by have:=F5 l db ah;simpa using this)⟩ ?_ ?_ ?_ ?_
 .rintro l1 dm1 lp1 y1 rz1 vs1 ⟨eL,cG,mK,mI,mL,hh1⟩ hr1 X hFR1 ⟨hs7,oH,hl1,u1_0,u1_1,u1_2⟩ hl01 hlr1 hv1 hX hXM hlp1 nx1 rt1 ex1 pn1
  try dsimp only at oH hl1 u1_0 u1_1 u1_2 hlr1
  obtain⟨rr1_0,rfl,ok1_0⟩:=hv1
  simp only[xA]at u1_2
  let z2:Nat×Obj:=(b3,O [.slice mK cG.length mI] 26)
  let z6:Nat×Obj:=(dm1,.deferred (some []))
  refine dV (L':=[(l1,.loop lp1),z6,(b4,O [.bool eL] 4),z2,(b2,O [I bD] 3),(b1,O [I db] 3)]++(mL++(markB []))) ap (qT 5 U (cD zc63 (λb6=>ct 0 ty63 U U U U U U (kX (L':=[(b6,O (aD.cells y1.2 rr1_0) 63),(l1,.loop lp1),z6,(b4,O [.bool eL] 4),z2,(b2,O [I bD] 3),(b1,O [I db] 3)]++(mL++(markB []))) U (bM (mU 1 U hlp1 (qK 8 [5] U (cQ hs7 U (λc7 hs8=>?_) (λc7 hs9=>?_)))))))))
  .have c7p:=of_decide_eq_true c7
   exact dE (L':=[(l1,.loop { lp1 with state:=.busy }),z6,(b4,O [.bool eL] 4),z2,(b2,O [I bD] 3),(b1,O [I db] 3)]++(mL++(markB []))) js (dV (L':=rdH l1 dm1 lp1 (([(b4,O [.bool eL] 4),z2,(b2,O [I bD] 3),(b1,O [I db] 3)]++(mL))++markB [])) ap (ex1 (eL,cG,mK,mI,mL,hr1) _ _ _ ⟨hs8,(oH.mono aD.aK hlr1),(hl1.t hlr1),u1_0,(λq hq=>(jA hq).elim),(by simp only[jB,xA]at *;omega)⟩ lf U))
  have c7p:=of_decide_eq_false c7
  refine qK 5 [3] U (nH 4 [50,51,52,53,54] 50 54 (y1.1==db) U (λc8 hk4=>?_) (λe=>?_))
  .exact qL 4 [6] U (hk4 _ U)
  refine dD 3 ty4 U U U U U U (qL 3 [4] U (eS 0 ty63 U U U (aM (bW (cells:=[I y1.2.No,I y1.2.At,I y1.2.fX,.string y1.2.ay.Name,.slice rr1_0.ay.j3 y1.2.ay.dM.length rr1_0.ay.j1,.slice rr1_0.ay.gI y1.2.ay.aB.length rr1_0.ay.gH,.slice rr1_0.ay.pN y1.2.ay.cZ.length rr1_0.ay.pM,I y1.2.ay.aS.Kind,I y1.2.ay.aS.N,I y1.2.ay.aS.No,.string y1.2.ay.aS.Name,.slice rr1_0.ay.aS.pE y1.2.ay.aS.L.length rr1_0.ay.aS.pF,I y1.2.ay.Mode]) Ht ty63 zc63 U U kr (λb7=>?_)))))
  let z1:Nat×Obj:=(b7,O [I y1.2.No,I y1.2.At,I y1.2.fX,.string y1.2.ay.Name,.slice rr1_0.ay.j3 y1.2.ay.dM.length rr1_0.ay.j1,.slice rr1_0.ay.gI y1.2.ay.aB.length rr1_0.ay.gH,.slice rr1_0.ay.pN y1.2.ay.cZ.length rr1_0.ay.pM,I y1.2.ay.aS.Kind,I y1.2.ay.aS.N,I y1.2.ay.aS.No,.string y1.2.ay.aS.Name,.slice rr1_0.ay.aS.pE y1.2.ay.aS.L.length rr1_0.ay.aS.pF,I y1.2.ay.Mode] 63)
  let z4:Nat×Obj:=(b4,O [.bool (eL||(y1.1==db))] 4)
  let z5:Nat×Obj:=(l1,.loop { lp1 with state:=.busy })
  let z7:Nat×Obj:=(b6,O (aD.cells y1.2 rr1_0) 63)
  refine aM (fd aD.eF ([z1,z7,z5,z6,z4,z2,(b2,O [I bD] 3),(b1,O [I db] 3)]) (markB []) (λG=>[z1,z7,z5,z6,z4,z2,(b2,O [I bD] 3),(b1,O [I db] 3)]++(markB []++G)) ap (λ_=>ap) Ht ty63 zc63 U bytes63 (oH.mono aD.aK hlr1) U U (iM 0 U (cE (R:=aD.rp) (y1.2) U ⟨rr1_0,U,ok1_0⟩)) lo lo (λob1 oc1 G1 gr1=>uC (BY ([z1,z7,z5,z6,z4,z2,(b2,O [I bD] 3),(b1,O [I db] 3)]) G1 (markB [])) (dD 5 ty26 U U U U U U (qO 2 U ?_))))
  let z9:Nat×Obj:=(b3,O [.slice ob1 ((cG++[y1.2]).length) oc1] 26)
  exact dE (L':=[z5,z6,z4,z9,(b2,O [I bD] 3),(b1,O [I db] 3)]++(G1++(markB []))) js (dV (L':=rdH l1 dm1 lp1 (([z4,z9,(b2,O [I bD] 3),(b1,O [I db] 3)]++G1)++markB [])) ap (nx1 ((eL||(y1.1==db)),(cG++[y1.2]),ob1,oc1,G1,hr1) _ _ ⟨hs9,gr1,(hl1.t hlr1),(λx hx=>(kF.1 hx).elim (u1_0 x) (λhx=>by rw[xC.1 hx];exact u1_1 y1 (xB ..))),(λq hq=>u1_1 q (qC _ hq)),(by simp only[vA,xA,jB]at *;omega)⟩ lf))
 .rintro dm1 ⟨eL,cG,mK,mI,mL,hh1⟩ hn1 ⟨hs10,oH,hl1,u1_0,u1_1,u1_2⟩ hln1 hl01
  try dsimp only at oH hl1 u1_0 u1_1 u1_2 hln1
  let z3:Nat×Obj:=(b3,O [.slice mK cG.length mI] 26)
  refine dV (L':=[(b4,O [.bool eL] 4),z3,(b2,O [I bD] 3),(b1,O [I db] 3)]++(mL++(markB (dm1::[])))) ap (qK 7 [1] U (cQ hs10 U (λc9 hs11=>?_) (λc9 hs12=>?_)))
  .refine qT 6 U ?_
   have hs13:aN l db bD ah=([],0,0):=hs11
   exact dV (L':=([(b4,O [.bool eL] 4),z3,(b2,O [I bD] 3),(b1,O [I db] 3)]++(mL))++markB (dm1::[])) ap (rC (dm1::[]) [zSN,I 0,I 0] Nz U rd ⟨none,0,congrArg (λr:(List Int×Int×Int)=>(.tuple #[.slice none r.1.length 0,I r.2.1,I r.2.2]:Value)) hs13.symm,(by rw[hs13];exact qH)⟩)
  refine qK 6 [1,1] U (gE (v':=I ((cG.length:Int)-1)) U (kW ob) (sL aD.aK ([(b4,O [.bool eL] 4),z3,(b2,O [I bD] 3),(b1,O [I db] 3)]) mL (markB (dm1::[])) ap hM (oH.mono aD.aK hln1) (λh2 hle2 sl1=>?_)))
  have ho1:0<=(((cG.length:Int)-1):Int)/\(((cG.length:Int)-1):Int)<((cG).length:Int):=ob
  refine aM (E0 Ht ty63 sl1.1 ho1 (eH ho1) U U U (λ_ _ _ e=>e) (λq1 r1 A1 ok1=>qL 2 [] U (nv (j:=12) ty3 A1 U U (qO 4 U (fQ ([(b4,O [.bool eL] 4),z3,(b2,O [I bD] 3),(b1,O [I db] 3)]) mixed kr jn (λlA _=>tm 1 U (tf 3 U U (rj 1 ty26 U U U) (tf 4 U U (rj 0 ty4 U U U) (tm 7 U (tn 0 U (cW call180 (vk h2) U (λv2 h3 hle3 hp2=>?_))))))))))))
  obtain⟨rk2,rfl,mo2⟩:=hp2
  refine⟨jl hle3,tu hle3 (tn 2 U ?_)⟩
  obtain⟨o1,hb1,hm1⟩:=mo2
  refine rg (k:=(nthI cG ((cG.length:Int)-1)).ay.Mode) NA (ga nz) hb1 hm1 (fG zv237) (show VFn _ (.nilFunc) Value.nilFunc from U) U U (λv3 hv1=>?_)
  obtain rfl:=hv1
  refine⟨jn,tn 5 U (HY (OP h3 ((nthI cG ((cG.length:Int)-1)).ay.Mode) (((tV l).1 (by simpa using c1)).mode (u1_0 _ (nm ho1))) cG mK mI eL (sl1.mono aD.aK hle3) ob) U U (λv4 h4 hle4 hp3=>?_))⟩
  obtain⟨rb1,rc1,rfl,sl2⟩:=hp3
  have hjl:=OR ((nthI cG ((cG.length:Int)-1)).ay.Mode) cG eL
  refine⟨jl hle4,tu hle4 (tf 6 U U (λ_ _ _=>Ll Ht U) (dO kr ?_))⟩
  refine lp2 (judgesP ((nthI cG ((cG.length:Int)-1)).ay.Mode) cG eL) (λi w=>[(8,.slice w.2.1 w.1.length w.2.2.1),(9,I ((nthI cG ((cG.length:Int)-1)).ay.Mode)),(75,.slice rb1 ((judgesP ((nthI cG ((cG.length:Int)-1)).ay.Mode) cG eL).length) rc1),(76,I (((judgesP ((nthI cG ((cG.length:Int)-1)).ay.Mode) cG eL).length:Nat):Int)),(77,I (i:Int))]) (λ_=>h4) (λw=>[(b4,O [.bool eL] 4),z3,(b2,O [I bD] 3),(b1,O [I db] 3)]++(w.2.2.2++(markB (dm1::[])))) (λi w=>cI vB 3 h4 w.1 w.2.1 w.2.2.1 w.2.2.2/\w.1.length<=0+i) (λs2 i w=>(aN.L2 (aN.K2 cG)) s2 w.1) ([],none,0,[]) sl2.1.1 hs12 ⟨cI.nil,lo⟩ ?_ ?_
  .rintro i2 ⟨nr,yG,yF,uw⟩ m4 hs14 ⟨zY,Uw⟩ e
   try dsimp only at zY Uw
   refine qT 3 U (aM (ni ([(b4,O [.bool eL] 4),z3,(b2,O [I bD] 3),(b1,O [I db] 3)]) uw (markB (dm1::[])) QQ (mW h4 nr yG yF uw zY (by first|assumption|omega|(simp only[vA,xA,jB] ;omega))) ap U (λG4 gr4=>qO 9 U (ib kM ([(b4,O [.bool eL] 4),z3,(b2,O [I bD] 3),(b1,O [I db] 3)]) G4 (markB (dm1::[])) ap hM gr4 (λh6 hle6 sl4=>?_)))))
   have hs15:aN l db bD ah=((sortI nr),(nthI cG ((cG.length:Int)-1)).ay.Mode,0):=hs14
   exact dV (L':=([(b4,O [.bool eL] 4),z3,(b2,O [I bD] 3),(b1,O [I db] 3)])++markB (dm1::[])) ap (rC (dm1::[]) [.slice yG nr.length yF,I ((nthI cG ((cG.length:Int)-1)).ay.Mode),I 0] Nz U rd ⟨yG,yF,(by rw[hs15];simp[retVal,iE]),(by rw[hs15];exact sl4)⟩)
  rintro i2 ⟨nr,yG,yF,uw⟩ y2 rz2 hd2 Ar uv I2 Qc hs16 ⟨zY,Uw⟩ hx2 ag1 e
  try dsimp only at zY Uw
  refine sr (tO Ar U (qO 8 U (aM (iR Ht ty63 sl2.1 uv U U U (λ_ _ _ e=>e) (λq3 r3 A3 ok3=>gV ty63 A3 U U (cD zc63 (λb10=>ct 0 ty63 U U U U U U (kX (L':=[(b10,O (aD.cells y2 r3) 63),(b4,O [.bool eL] 4),z3,(b2,O [I bD] 3),(b1,O [I db] 3)]++(uw++(markB (dm1::[])))) U ?_))))))))
  let z8:Nat×Obj:=(b10,O (aD.cells y2 r3) 63)
  exact qL 5 [0] U (aM (bW (cells:=[I y2.No]) fa ty3 zc3 U U kr (λb11=>aM (fd ZO ([(b11,O [I y2.No] 3),z8,(b4,O [.bool eL] 4),z3,(b2,O [I bD] 3),(b1,O [I db] 3)]) (markB (dm1::[])) (λG=>[(b11,O [I y2.No] 3),z8,(b4,O [.bool eL] 4),z3,(b2,O [I bD] 3),(b1,O [I db] 3)]++(markB (dm1::[])++G)) ap (λ_=>ap) fa ty3 zc3 U bytes3 zY U U (iM 0 U (cE (y2.No) U U)) lo lo (λob3 oc3 G5 gr5=>uC (BY ([(b11,O [I y2.No] 3),z8,(b4,O [.bool eL] 4),z3,(b2,O [I bD] 3),(b1,O [I db] 3)]) G5 (markB (dm1::[]))) (qO 4 U (oi i2 U (qO 2 U (dE (L':=[(b4,O [.bool eL] 4),z3,(b2,O [I bD] 3),(b1,O [I db] 3)]++(G5++(markB (dm1::[])))) js (ag1 ((nr++[y2.No]),ob3,oc3,G5) hs16 ⟨gr5,lo⟩))))))))))
 .exact xf
 exact xf
theorem vq(h)(seq:List cm)(seq_v)(hseq:Itr prog seq_v qI seq h)(hsz:seq.length<=2000000):jv prog 337 [zSN,seq_v] h (λv h'=>∃(rb0:Option Addr)(rc0:Nat),v=.slice rb0 (dl seq).length rc0/\SlC cm.rp h' rb0 rc0 (dl seq)):=by
 refine sVv func337 ntmps337 ?_
 generalize hz:(dl seq)=z
 have HA:=λ{b1}=>lR (.mF b1 (λl b c=>[.slice b l.length c]) 241 cm.rp 284 .mE) (λs w=>((dl.L1 (dl.K1)) s w.1))
 exact W
instance kC337:Ct 337:=⟨_,call337,@vq⟩
theorem xk(h)(seq:List cm)(seq_v)(hseq:Itr prog seq_v qI seq h)(hsz:seq.length<=2000000):jv prog 268 [seq_v] h (λv h'=>∃(rb0:Option Addr)(rc0:Nat),v=.slice rb0 (ka seq).length rc0/\SlC cm.rp h' rb0 rc0 (ka seq)):=by
 refine sVv func268 ntmps268 ?_
 generalize hz:(ka seq)=z
 exact W
instance kC268:Ct 268:=⟨_,call268,@xk⟩
end Go.Sg

namespace Go.Proofs
open Go.Shelf Go.RowKit Go.Lib Go.Sort
set_option maxHeartbeats 1000000 in
theorem Tryz.closure178(x y:Go.Sg.OSeat)(W:World):Calls Tryz.prog 339 #[.agg (Go.Sg.OSeat.cells x).toArray,.agg (Go.Sg.OSeat.cells y).toArray] W λe w'=>e=.returned (.int .i64 (Lib.compareInt x.bY y.bY))/\∃q os',w'=grow (W.drewN q) os':=by
 have hcon:=λW'=>Tryz.cmp_Compare_int x.bY y.bY W'
 generalize Lib.compareInt x.bY y.bY=r at hcon ⊢
 unfold Go.Sg.OSeat.cells
 go_enter Tryz.func339,Tryz.ntmps339
 go_wp2_with (go_at_call 86;refine(hcon _).mono ?_;rintro e w' ⟨rfl,rfl⟩)
 go_ret
 exact⟨rfl,0,_,by rw[alloc_eq_grow,alloc_eq_grow,grow_grow];rfl⟩
theorem Tryz.ltSeat(x y:Go.Sg.OSeat):ltOf (λx y:Go.Sg.OSeat=>Lib.compareInt x.bY y.bY) x y=decide (x.bY<y.bY):=by grind [ltOf,Lib.compareInt]
theorem Tryz.swoSeat:SWO (ltOf λx y:Go.Sg.OSeat=>Lib.compareInt x.bY y.bY) where
 irrefl x:=by rw[Tryz.ltSeat];simp
 trans x y z h1 h2:=by rw[Tryz.ltSeat]at *;simp at *;omega
 ntrans x y z h1 h2:=by rw[Tryz.ltSeat]at *;simp at *;omega
end Go.Proofs
namespace Go.Sg
variable {os:Array Obj}{w:World}
open Go.Proofs Go.Proofs.Tryz Go.RowKit Go.Sort
theorem FN{h:HF}:∀{cl:List Value}{xs:List OSeat},dC ZI h cl xs->cl=xs.flatMap xF
 |_,[],hc=>hc
 |_,x::xs,⟨cs,rest,e,_,hr,hc⟩=>by
  have:cs=xF x:=hr
  rw[e,this,FN hc];rfl
theorem Gq(h:HF):∀xs:List OSeat,dC ZI h (xs.flatMap xF) xs
 |[]=>rfl
 |x::xs=>⟨xF x,xs.flatMap xF,rfl,rfl,rfl,Gq h xs⟩
theorem Lc:∀(xs:List OSeat)(j:Nat),j<xs.length*2->(xs.flatMap xF)[j]? = some ((xF (xs.getD (j/2) default)).getD (j%2) undef)
 |[],j,hj=>by simp at hj
 |x::xs,0,_=>by simp[xF]
 |x::xs,1,_=>by simp[xF]
 |x::xs,j+2,hj=>by
  have ih:=Lc xs j (by simp at hj;omega)
  grind [xF,xA,jB]
theorem u0(xs:List OSeat):(xs.flatMap xF).length=xs.length*2:=by
 induction xs with
 |nil=>rfl
 |cons x xs ih=>rw[List.flatMap_cons,vA,ih];simp[xF];omega
theorem Jv(xs:List OSeat):(flatK xF 2 xs.toArray).toList=xs.flatMap xF:=by
 apply Zg
 intro j
 rcases zK j (xs.length*2)with hj|hj
 .rw[Lc xs j hj]
  have h1:=get_flatK xF 2 xs.toArray j (by simpa using hj)
  have h2:j<(flatK xF 2 xs.toArray).size:=by rw[size_flatK];simpa using hj
  grind [List.getD,xF]
 .rw[List.getElem?_eq_none (by rw[Array.length_toList,size_flatK];simpa using hj),List.getElem?_eq_none (by rw[u0];exact hj)]
theorem Oh(F cur:Array Value)(h:F.size<=cur.size):(putCells id 0 F cur).toList=F.toList++cur.toList.drop F.size:=by
 apply Zg
 grind [putCells]
theorem Uo{g n:Nat}{cur:Array Value}{e:TypeId}{fr:Nat×Nat}(d:Array Value)(hb:w.heap[g]? = some (.cells cur e fr)):
  (grow (putRow id (Sort.ahead w n) g 0 d) os).heap[g]? = some (.cells (putCells id 0 d cur) e fr):=by
 have hg:g<w.heap.size:=(Array.getElem?_eq_some_iff.1 hb).1
 rw[heap_grow_old _ _ (by simpa using hg)]
 grind [putRow,mapBlock,Sort.ahead,onCells]
theorem Sw{g n:Nat}(d:Array Value):(grow (putRow id (Sort.ahead w n) g 0 d) os).os=w.os/\(grow (putRow id (Sort.ahead w n) g 0 d) os).tape=w.tape/\(grow (putRow id (Sort.ahead w n) g 0 d) os).output=w.output /\
  w.heap.size<=(grow (putRow id (Sort.ahead w n) g 0 d) os).heap.size/\∀k,k<w.heap.size->k≠g->(grow (putRow id (Sort.ahead w n) g 0 d) os).heap[k]? = w.heap[k]?:=by
 refine⟨rfl,rfl,rfl,by simp[putRow,mapBlock,Sort.ahead],λk hk hne=>?_⟩
 rw[heap_grow_old _ _ (by simpa using hk)]
 grind [putRow,mapBlock,Sort.ahead]
theorem yh(h:HF)(xs:List OSeat)(b:Option Addr)(c:Nat)(G:LH)(hG:cI ZI 325 h xs b c G)(hsz:xs.length<=1000000000000):
  oX prog 387 [.slice b xs.length c,.func (.func 339) #[] #[]].toArray h G (λr h' G'=>h'=h/\r=.returned (.tuple #[])/\∃ys,ys.Perm xs/\ys.Pairwise (λx y=>x.bY<=y.bY)/\cI ZI 325 h ys b c G'):=by
 intro w hp
 rcases hG with⟨rfl,rfl,rfl,rfl⟩|⟨bk,cl,sp,rfl,hcl,hlen,hcap,hmax,rfl⟩
 .refine(jW (AnyF.slices_SortFunc_none Tryz.sortSeat none 0 (.func (.func 339) #[] #[]) w) (λw' hw=>by cases hw.1)).mono ?_
  rintro e w' ⟨rfl,rfl⟩
  exact⟨h,[],St.start hp,rfl,rfl,[],List.Perm.refl _,List.Pairwise.nil,cI.nil⟩
 .have hb:=hp.own _ (xC.2 rfl)
  simp only at hb
  have hcl':=FN hcl
  subst hcl'
  have hfl:=Jv xs
  have hH:HoldsK xF 2 w bk 0 xs.toArray:=by
   intro j hj
   rw[size_flatK]at hj
   have hj':j<xs.length*2:=by simpa using hj
   refine⟨?_,by simp[World.frozen?,hb]⟩
   have h2:j<(flatK xF 2 xs.toArray).size:=by rw[size_flatK];exact hj
   have h3:(flatK xF 2 xs.toArray).toList[j]? = some (flatK xF 2 xs.toArray)[j]!:=by
    rw[Array.getElem?_toList,Array.getElem?_eq_getElem h2,getElem!_pos _ j h2]
   rw[hfl]at h3
   have h4:(xs.flatMap xF++sp)[j]? = some (flatK xF 2 xs.toArray)[j]!:=by
    rw[List.getElem?_append_left (by rw[u0];exact hj')];exact h3
   simp only[World.cell?,hb,Nat.zero_add]
   simpa using h4
  have eg:∀args w,(callFunc 339 args).run prog w=.ok (.enter 339 args) w:=call339
  have hcall:=AnyQ.slices_SortFunc Tryz.sortSeat 2 Tryz.isAgg325 Tryz.sizeOf325 xF (λ_=>rfl) (λx v hv=>by simp[xF]at hv;rcases hv with rfl|rfl<;>rfl)
   (λx y=>Lib.compareInt x.bY y.bY) Tryz.swoSeat 339 #[] bk 0 c xs.toArray w eg (λ_ _ _ _ x y=>Tryz.closure178 x y _) hH (ie hb) (by simp;omega)
  change Calls prog 387 _ _ _ at hcall
  rw[List.size_toArray]at hcall
  refine(jW hcall (λw' hw=>by cases hw.1)).mono ?_
  rintro e w' ⟨rfl,d',n,os,⟨hds,_,hperm⟩,hsorted,rfl⟩
  have hds':d'.size=xs.length:=by simpa using hds
  have hF:(flatK xF 2 d').toList=d'.toList.flatMap xF:=by have:=Jv d'.toList;simpa using this
  have hFs:(flatK xF 2 d').size=xs.length*2:=by rw[size_flatK,hds']
  obtain⟨g1,g2,g3,g4,g5⟩:=Sw (w:=w) (g:=bk) (n:=n) (os:=os) (flatK xF 2 d')
  have hnew:=Uo (w:=w) (g:=bk) (n:=n) (os:=os) (flatK xF 2 d') hb
  have hcur:(putCells id 0 (flatK xF 2 d') (xs.flatMap xF++sp).toArray).toList=d'.toList.flatMap xF++sp:=by
   rw[Oh _ _ (by rw[hFs,←u0];simp),hF,hFs]
   congr 1
   rw[←u0]
   exact List.drop_left' rfl
  have hcur':putCells id 0 (flatK xF 2 d') (xs.flatMap xF++sp).toArray=(d'.toList.flatMap xF++sp).toArray:=by rw[←hcur]
  rw[hcur']at hnew
  have hperm':d'.toList.Perm xs:=by
   have e1:d'.extract 0 xs.length=d':=by rw[←hds'];simp
   have e2:xs.toArray.extract 0 xs.length=xs.toArray:=by simp
   rw[e1,e2]at hperm;exact hperm
  refine⟨h,[(bk,.cells (d'.toList.flatMap xF++sp).toArray 325 (0,0))],⟨g1,g2,g3,g4,λk hk hM=>g5 k hk (λe=>hM (by subst e;simp)),λ_ _ e=>e,λ_ _=>rfl,λk o e=>?_,λq hq=>?_,?_,?_,?_⟩,rfl,rfl,d'.toList,hperm',?_,?_⟩
  .have hne:k≠bk:=λe'=>by
    have:=hp.free _ (xC.2 rfl)
    simp only at this
    rw[e',this]at e;cases e
   exact(g5 k (ie (hp.imm k o e)) hne).trans (hp.imm k o e)
  .rw[xC.1 hq];exact hnew
  .simp
  .intro q hq;rw[xC.1 hq];exact hp.free (bk,Obj.cells (xs.flatMap xF++sp).toArray 325 (0,0)) (xC.2 rfl)
  .intro q hq;rw[xC.1 hq];exact .inr (by simp)
  .rw[List.pairwise_iff_getElem]
   intro i j hi hj hij
   have hj':j<d'.size:=by simpa using hj
   have hi':i<d'.size:=by simpa using hi
   have:=hsorted i j (jH _) hij (by omega)
   rw[Tryz.ltSeat,getElem!_pos _ j hj',getElem!_pos _ i hi']at this
   simp only[Array.getElem_toList]
   simpa using this
  .refine .inr ⟨bk,d'.toList.flatMap xF,sp,rfl,Gq h _,?_,?_,?_,rfl⟩
   .rw[vA,u0,hperm'.length_eq,←u0,←vA];exact hlen
   .rw[hperm'.length_eq];exact hcap
   .rw[hperm'.length_eq];exact hmax
theorem xh(h:HF)(it:Value)(ks:List OSeat)(hit:J7 prog it (λ(k:OSeat)(_:HF)(vs:List Value)=>vs=[OSeat.enc k]) (λxs=>xs.Perm ks) h)(hk:ks.length<=1000000000000):
  jv prog 340 [it,.func (.func 339) #[] #[]] h (λv h'=>∃(b:Option Addr)(c:Nat)(ys:List OSeat),ys.Perm ks/\ys.Pairwise (λx y=>x.bY<=y.bY)/\v=.slice b ys.length c/\SlC ZI h' b c ys):=by
 refine dL func340 rfl ntmps340 rfl λX hM hX=>?_
 refine dZ (bS (iB (bM (dZ (bS (cN ?_))))))
 refine aM (DO call386 (Kb h it _ hit (λxs hx=>by rw[hx.length_eq];exact hk)) rfl (λh' xs bb c G dN hxs hG=>?_))
 refine iB (bM (dZ (bS (cN (cN ?_)))))
 refine aM (ni [] G [] call387 (yh h' xs bb c G hG (by rw[hxs.length_eq];exact hk)) (by simp) rfl (λG' hG'=>?_))
 obtain⟨ys,hp,hs,hG'⟩:=hG'
 refine bM (dZ (bS (cN (iB (bM ?_)))))
 refine ib OSeat.aK [] G' [] (by simp) hM hG' (λh2 hle2 sl=>?_)
 exact lD [.slice bb xs.length c] func340 rfl ⟨rfl,trivial⟩ ⟨bb,c,ys,hp.trans hxs,hs,by rw[hp.length_eq];rfl,sl⟩
end Go.Sg
