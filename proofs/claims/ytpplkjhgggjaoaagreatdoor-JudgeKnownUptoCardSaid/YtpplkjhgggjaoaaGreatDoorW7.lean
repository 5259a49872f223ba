import Derived.Shelf.SlSortCmp.WholeK
import Derived.Ground.SlsfProg
import Derived.Shelf.Small.Bits
import Derived.Shelf.Small.Strs
import Derived.Shelf.Strconv.Itoa0
import Derived.Shelf.Strings.Search1
import Derived.Shelf.Sort.Plain
import Derived.Ground.Names2Prog
import Derived.Shelf.Slices.CompactI
import Derived.Shelf.Slices.SearchI
import Derived.Shelf.Slices.In.SortNone
import Derived.Shelf.Slices.Empties
import Derived.Ground.SlgcProg
import Derived.Shelf.SlicesG.Cmp
import Derived.Sort.OwnSortedInts
import Derived.Test.YtpplkjhgggjaoaaGreatDoorW6
/- A part of the proof of JudgeKnown. -/
set_option linter.unusedVariables false
set_option linter.unusedSimpArgs false
set_option maxRecDepth 100000
open List renaming length_cons→xA,length_append→jA,not_mem_nil→kA,toArray→jB,length_nil→vB,mem_cons→qC,mem_singleton→jD,append_assoc→kD,getElem?_eq_getElem→vF,range→qH
open Bool renaming and_eq_true→xB,or_eq_true→xD,not_eq_true'→qE
open Go.Sg.Rp renaming int→kB,aP→jH,str→aAQ,iC→aBv
open Go.Sg.Expr renaming cells→zC,ok→jF,mk→xG,jU→aAn,ai→aAq,rp→aAL,em→aBM
open Go.Sg.Approval renaming cells→xC,ai→zH,rp→xL,mk→xW
open Go.IntKind renaming wrap→vC
open Go.Value renaming int→kC
open Go.Sg.Policy renaming cells→xE,mk→kN,ok→vP
open Go.Sg.SlC renaming nil→qF
open Nat renaming le_refl→kF,zero_le→zN,lt_or_ge→xQ
open Go.Sg.Document renaming ai→vH,rp→xS,cells→jT,ok→aAI
open Go.Obj renaming cells→zJ
open Go.Deferred renaming ofValue→zK
open Go.Sg.Register renaming ok→vL,cells→qQ
open Go.Sg.HF renaming le→vM
open Go.Addr renaming add→qV
open Go.Sg.Expr.ok renaming of→aAu
open Go.Sg.St renaming start→aBg
open Go.Sg.Rule renaming mk→aBi,ai→aBz

namespace Go.Sg
open Go.Proofs Go.Proofs.Tryz
set_option maxHeartbeats 2000000
theorem tv(h:HF)(s:List ByteArray)(sK:Option Addr)(sJ:Nat)(v:ByteArray)(hs:SlC aAQ h sK sJ s):Ret prog 328 [.slice sK s.length sJ,.string v] h (.bool (di s v)):=by
 refine sT func328 U ntmps328 U λX hM hX hF=>?_
 have hs0:di s v=di s v:=rfl
 exact sr (qO 6 U (aj OB (lF _ _ _ _ v hs) U (qO 3 U (nretP [.bool (decide (0<=(aR s v)))] (cs hs0)))))
theorem BS(h:HF)(p:Policy)(ie:fd)(hp:vP h p ie)(hsm:smP p):Hw prog 279 [.agg (xE p ie).toArray] h (exW stopV (λr:Unit=>(.tuple #[]:Value)) (cy p)):=by
 refine cZ Mr U ntmps279 U λX hM hX=>?_
 have hs0:cy p=cy p:=rfl
 have hsr:=hsm.rules
 refine sr (cz (λb1=>qL 5 [0] U (aj call326 (oK h p.Name) U (av (bA 4 [8,9,10,11,12] 8 12 (bF p.Offices dL) U (λc1 hk1=>?_) (λe=>?_))))))
 .exact qL 2 [0] U (aj call327 (nk _ _ _ _ dL (.func (.func 326) #[] #[]) hp.Offices (λh' dl hle=>gM call326 (oK h' dl))) U (eU U (hk1 _ U)))
 refine av (bA 4 [13,14,15,16,17] 13 17 (bF p.Kinds dL) U (λc2 hk2=>?_) (λe=>?_))
 .exact qL 2 [0] U (aj call327 (nk _ _ _ _ dL (.func (.func 326) #[] #[]) hp.Kinds (λh' dl hle=>gM call326 (oK h' dl))) U (eU U (hk2 _ U)))
 refine aB (mT Ab (ip h (((dL p.Name)&&(bF p.Offices dL))&&(bF p.Kinds dL)) 201) U (λu1 hu1=>?_) (λpv1 hpv1 e=>?_))
 .obtain⟨rx1,hrx1,rfl⟩:=oM hu1
  have hs1:=hs0.trans (pE hrx1)
  cases rx1
  refine qO 3 U (cI 0 ty64 U U U (aB (cT call325 (mD _ _ _ hp ob) U (λv1 h1 hle1 hp1=>?_))))
  obtain⟨rb1,rc1,rfl,sl1⟩:=hp1
  refine qL 3 [] U (ew ?_)
  let z1:Nat×Obj:=(b1,O (xE p ie) 64)
  refine cv (L':=[z1]++(markB [])) ap ?_
  refine sE (ι:=Nat×List Nat×HF) (λi=>[]) (λi=>marks i.2.1) (λi=>i.2.2) (λi=>[z1]++(markB i.2.1)) (λi=>i.1<=(ay p).length/\cy p=((cy.K1))/\vM h1 i.2.2) ?_ (λhx1=>?_)
  .rintro⟨i1,rs1,hh1⟩ ⟨ft,hs2,hl1⟩ e
   have hs3:cy p=(Except.ok ()):=hs2
   exact cv (L':=([z1])++markB rs1) ap (yQ rs1 [] Mr U hX trivial (congrArg (exW stopV (λr:Unit=>(.tuple #[]:Value))) hs3))
  refine xj (ι:=Nat×List Nat×HF×List Expr) (λi=>[(1,Q b1),(20,.slice rb1 ((ay p).length) rc1),(21,I ((ay p).length:Int)),(22,I (i.1:Int))]) (λi=>marks i.2.1) (λi=>i.2.2.1) (λi=>[z1]++(markB i.2.1)) (λi=>(ay p).drop i.1=i.2.2.2/\i.1<=(ay p).length/\cy p=((cy.L1 p (cy.K1)) i.2.2.2)/\vM h1 i.2.2.1) (λi=>i.2.2.2.length) (0,[],h1,(ay p)) U rd sw ⟨U,zN _,hs1,lf⟩ ?_
  rintro⟨i1,rs1,hh1,s1⟩ ⟨hd1,ft,hs4,hl1⟩ ag1 e
  rcases s1 with _|⟨y1,rz1⟩
  .have gu:=ni hd1
   exact sr (fO gu U (qO 4 U (hx1 (i1,rs1,hh1) _ ⟨ft,hs4,hl1⟩ trivial)))
  have df:=tj hd1
  have aS:=pI hd1
  have dZ:=iB hd1
  have gy:=sl1.1.1
  try have hsy:=Cp hsm (gp hd1)
  refine sr (tO df U (qO 8 U (aB (iR lW ty62 (sl1.mono aAq hl1).1 aS U U U (λ_ _ _ e=>e) (λq2 r2 A2 ok2=>dq ty62 A2 U U (aT zc62 (λb4=>aL 0 ty62 U U U U U U (qO 3 U (cI 0 ty62 U U U (aB (cT Mt (nj _ _ _ 1 ok2 ob) U (λv3 h3 hle3 hp3=>?_))))))))))))
  obtain⟨_,rfl,mo2⟩:=hp3
  refine qO 2 U ?_
  let z2:Nat×Obj:=(b4,O (zC y1 r2) 62)
  refine cv (L':=([z2,z1])++markB rs1) ap ?_
  refine kp (it:=v3) (xs:=(bu y1 1)) (ι:=HF) rs1 (λi=>i) (λi=>[z2,z1]) (λs i=>cy p=((cy.L3 p ((cy.L1 p (cy.K1) rz1))) s)/\vM h3 i) (λ_=>False) (λ_=>False) 0 (λch _ _=>∃pv_,ch=[{ v:=stopV pv_,recovered:=false }]/\cy p=.error pv_) h3 Mr U mo2 U ov (λ_ _ _ _ _ hq=>hq) U (show[z2,z1]=_ from U) ⟨hs4,lf⟩ ?_ ?_ ?_ ?_ ?_
  .rintro l3 dm3 lp3 y3 rz3 vs3 hh3 hr3 X hFR3 ⟨hs6,hl3⟩ hl03 hlr3 hv3 hX hXM hlp3 nx3 rt3 ex3 pn3
   obtain⟨rr3_0,rfl,ok3_0⟩:=hv3
   let z3:Nat×Obj:=(dm3,.deferred (some []))
   refine cv (L':=[(l3,.loop lp3),z3,z2,z1]++(markB rs1)) ap (bE (aT zc327 (λb6=>aL 0 ty327 U U U U U U (aJ (kc 1 U hlp3 (qK 3 [] U (cI 0 ty62 U U U (aj call283 (oh _ _ _ ok3_0.x) U (qO 2 U (ce 7 [33,34,35,36,37,38,39,40] 33 40 (di p.Offices y3.x.Name) U (λc3 hk3=>?_) (λe=>?_)))))))))))
   .exact qL 5 [4,0] U (aj call328 (tv _ _ _ _ y3.x.Name (hp.Offices.mono aBv ((((hle1.t hl1).t hle3).t hl3).t hlr3))) U (eU U (hk3 _ U)))
   refine aB (mT Ab (ip hr3 ((!(du y3.x))||(di p.Offices y3.x.Name)) 201) U (λu2 hu2=>?_) (λpv2 hpv2 e=>?_))
   .obtain⟨rx2,hrx2,rfl⟩:=oM hu2
    have hs7:=hs6.trans (pE hrx2)
    cases rx2
    exact aJ (fe (aX (L':=[(l3,.loop { lp3 with state:=.busy }),z3,z2,z1]++(markB rs1)) js (cv (L':=rdH l3 dm3 lp3 (([z2,z1])++markB rs1)) ap (nx3 hr3 _ _ ⟨hs7,(hl3.t hlr3)⟩ lf))))
   obtain⟨pv2e,hpv2e,rfl⟩:=m5 hpv2
   have hs8:=hs6.trans (nr hpv2e)
   exact AC (L':=[(l3,.loop { lp3 with state:=.busy }),z3]++(markB rs1)) js (pn3 _ _ _ [] ⟨_,U,hs8⟩)
  .rintro dm3 hh3 hn3 ⟨hs9,hl3⟩ hln3 hl03
   exact cv (L':=[z2,z1]++(markB (dm3::rs1))) ap (qT 3 U (oi i1 U (qO 2 U (aX (L':=[z1]++(markB (dm3::rs1))) js (ag1 ((i1+1),(dm3::rs1),hn3,rz1) _ (Nat.lt_succ_self _) ⟨kO hd1,iB hd1,hs9,(((hl1.t hle3).t hl3).t hln3)⟩ rd)))))
  .exact xf
  .exact xf
  rintro dm3 ch hn3 L0 ⟨pv_,rfl,hpv_⟩ hl03
  exact nP (dm3::rs1) Mr hX (congrArg (exW stopV (λr:Unit=>(.tuple #[]:Value))) hpv_)
 obtain⟨pv1e,hpv1e,rfl⟩:=m5 hpv1
 have hs10:=hs0.trans (nr hpv1e)
 exact gV (nP [] Mr hX (congrArg (exW stopV (λr:Unit=>(.tuple #[]:Value))) hs10))
theorem hZ(h:HF)(er:Int)(low:Int)(high:Int)  : Ret prog 149 [I er,I low,I high] h (.bool (aN er low high)):=by
 refine sT func149 U ntmps149 U λX hM hX hF=>?_
 have hs0:aN er low high=aN er low high:=rfl
 refine qT 10 U (bA 4 [10,11,12,13,14] 10 14 (decide (er<=high)) U (λc1 hk1=>?_) (λe=>?_))
 .exact av (qO 3 U (hk1 _ U))
 exact an (nretP [.bool (decide (low<=er)&&decide (er<=high))] (cs hs0))
theorem Nq{n a b:Int}(h:aN n a b=true):a<=n/\n<=b:=by simpa[aN]using h
theorem zO(h:HF)(x0:Expr)(RM:de)(hx0:jF h x0 RM):Ret prog 405 [.agg (zC x0 RM).toArray] h (.bool (nY x0)):=by
 refine sT func405 U ntmps405 U λX hM hX hF=>?_
 have hs0:nY x0=nY x0:=rfl
 exact sr (cz (λb1=>qO 6 U (nretP [.bool false] (cs hs0))))
theorem zI(h:HF)(x:Expr)(gv:de)(hx:jF h x gv):Ret prog 406 [.agg (zC x gv).toArray] h (.bool (j7 x)):=by
 refine sT func406 U ntmps406 U λX hM hX hF=>?_
 have hs0:j7 x=j7 x:=rfl
 refine sr (cz (λb1=>qL 8 [0] U (bA 5 [6,7,8,9,10,11] 6 11 ((x.L.length:Int)==0) U (λc1 hk1=>?_) (λe=>?_))))
 .exact qL 5 [0] U (hk1 _ U)
 exact an (nretP [.bool ((x.N==0)&&((x.L.length:Int)==0))] (cs hs0))
theorem zz(h:HF)(x:Expr)(gv:de)(hx:jF h x gv):Ret prog 407 [.agg (zC x gv).toArray] h (.bool (j6 x)):=by
 refine sT func407 U ntmps407 U λX hM hX hF=>?_
 have hs0:j6 x=j6 x:=rfl
 refine sr (cz (λb1=>qL 6 [0] U (aj Bs (hZ h x.N 1 4096) U (av (bA 5 [6,7,8,9,10,11] 6 11 ((x.L.length:Int)==0) U (λc1 hk1=>?_) (λe=>?_))))))
 .exact qL 5 [0] U (hk1 _ U)
 exact an (nretP [.bool ((aN x.N 1 4096)&&((x.L.length:Int)==0))] (cs hs0))
theorem zy(h:HF)(x:Expr)(gv:de)(hx:jF h x gv):Ret prog 408 [.agg (zC x gv).toArray] h (.bool (j5 x)):=by
 refine sT func408 U ntmps408 U λX hM hX hF=>?_
 have hs0:j5 x=j5 x:=rfl
 refine sr (cz (λb1=>qL 8 [0] U (bA 5 [6,7,8,9,10,11] 6 11 (aN (x.L.length:Int) 1 16) U (λc1 hk1=>?_) (λe=>?_))))
 .exact qL 3 [0] U (aj Bs (hZ h (x.L.length:Int) 1 16) U (eU U (hk1 _ U)))
 refine av (bA 7 [12,13,14,15,16,17,18,19] 12 19 (aN x.N 1 (x.L.length:Int)) U (λc2 hk2=>?_) (λe=>?_))
 .exact qL 5 [0,0] U (aj Bs (hZ h x.N 1 (x.L.length:Int)) U (eU U (hk2 _ U)))
 exact an (nretP [.bool (((x.Name.toList==(⟨#[]⟩:ByteArray).toList)&&(aN (x.L.length:Int) 1 16))&&(aN x.N 1 (x.L.length:Int)))] (cs hs0))
theorem zx(h:HF)(x:Expr)(gv:de)(hx:jF h x gv):Ret prog 409 [.agg (zC x gv).toArray] h (.bool (jd x)):=by
 refine sT func409 U ntmps409 U λX hM hX hF=>?_
 have hs0:jd x=jd x:=rfl
 refine sr (cz (λb1=>qL 8 [0] U (bA 5 [6,7,8,9,10,11] 6 11 ((x.L.length:Int)==2) U (λc1 hk1=>?_) (λe=>?_))))
 .exact qL 5 [0] U (hk1 _ U)
 refine av (bA 4 [12,13,14,15,16] 12 16 (aN x.N 0 1099511627776) U (λc2 hk2=>?_) (λe=>?_))
 .exact qL 2 [0] U (aj Bs (hZ h x.N 0 1099511627776) U (eU U (hk2 _ U)))
 exact an (nretP [.bool (((x.Name.toList==(⟨#[]⟩:ByteArray).toList)&&((x.L.length:Int)==2))&&(aN x.N 0 1099511627776))] (cs hs0))
theorem LM(h:HF)(i:Int)(hi:0<=i/\i<5)(x:Expr)(gv:de)(hx:jF h x gv):pQ prog (kfun i) [.agg (zC x gv).toArray] h [] (.bool (kindsP i x)):=by
 have:i=0\/i=1\/i=2\/i=3\/i=4:=by omega
 rcases this with rfl|rfl|rfl|rfl|rfl
 .exact gM (cap:=[]) call405 (zO h x gv hx)
 .exact gM (cap:=[]) call406 (zI h x gv hx)
 .exact gM (cap:=[]) call407 (zz h x gv hx)
 .exact gM (cap:=[]) call408 (zy h x gv hx)
 exact gM (cap:=[]) call409 (zx h x gv hx)
end Go.Sg

namespace Go.Sg
open Go.Proofs Go.Proofs.Tryz
section runs
variable {P:Program} {e:Env} {X:Cx} {h:HF} {L:LH} {d:Option Nat} {ty:TypeId} {pos:String} {af:Array Edge} {g:Option (Nat×Bool)}
theorem Qm{t u:TypeId}{x:Operand}(hT:∃ms,P.underlying t=some (.interface ms))(hx:e.ev x=.nilIface):∀w,St X h L w->(execOp e.ev ⟨d,.binOp .neq t x (.const .nilIface) u,ty,pos,af,g⟩).run P w=.ok (.value (.bool false)) w:=
 λw _=>by
  obtain⟨ms,hT⟩:=hT
  have hc:e.ev (.const .nilIface)=.nilIface:=rfl
  have he:(Op.equal t .nilIface .nilIface).run P w=.ok true w:=by
   rw[Op.equal,Op.maxDepth,show(10000:Nat)=9999+1 from rfl,Op.equalIn];simp[run_underlying hT]
  simp[execOp,hx,hc,eqGuard,binOp,he]
theorem Ql{t u:TypeId}{x:Operand}{T:TypeId}{v:Value}(hT:∃ms,P.underlying t=some (.interface ms))(hx:e.ev x=.iface T v):∀w,St X h L w->(execOp e.ev ⟨d,.binOp .neq t x (.const .nilIface) u,ty,pos,af,g⟩).run P w=.ok (.value (.bool true)) w:=
 λw _=>by
  obtain⟨ms,hT⟩:=hT
  have hc:e.ev (.const .nilIface)=.nilIface:=rfl
  have he:(Op.equal t (.iface T v) .nilIface).run P w=.ok false w:=by
   rw[Op.equal,Op.maxDepth,show(10000:Nat)=9999+1 from rfl,Op.equalIn];simp[run_underlying hT]
  simp[execOp,hx,hc,eqGuard,binOp,he]
theorem NC{x:Operand}{xt T:TypeId}{fs:Array Field}{v:Value}(hT:P.underlying T=some (.struct fs))(hx:e.ev x=.iface T v):∀w,St X h L w->(execOp e.ev ⟨d,.typeAssert x xt T true,ty,pos,af,g⟩).run P w=.ok (.value (.tuple #[v,.bool true])) w:=
 λw _=>by simp[execOp,hx,Instr.typeAssert,run_underlying hT]
end runs
def bodyOf(f:Func):Code:=f.body.getD .skip
theorem Ly{P:Program}{e:Env}{d:Option Nat}{ty:TypeId}{pos:String}{af:Array Edge}{g:Option (Nat×Bool)}{t:Nat}{fv:Value}{ats:Array TypeId}(hf:e t=fv)(w:World):
  (execOp e.ev ⟨d,.call ⟨.value (.tmp t),#[],ats⟩,ty,pos,af,g⟩).run P w=(do let d ←zK fv #[];invoke d.target d.args:Sem Next).run P w:=by
 subst hf;simp[execOp,resolve,Env.ev]
theorem Hs(h:HF)(b1:Nat)(X':Cx):TT prog (deferFrame 323) 17 [.code (bodyOf Tryz.f323)] (GL prog X' .returning (λh' B=>h'=h/\B=[(b1,zJ (jB [.int .i64 0]) 37 (0,0))])) (envArgs [.pointer (some ⟨b1,0,none⟩)]) [] X' h [(b1,zJ (jB [.int .i64 0]) 37 (0,0))]:=by
 refine el (bE (?_))
 refine Dp (λcs Φ⟨c,rest,hcs,hm,_⟩=>by subst hcs;simp[recoverD,hm]) ?_
 refine gG (aJ (el (bE (av (aB (fK (Qm ⟨_,OA⟩ rfl) (aJ (?_))))))))
 exact pb rfl (aI (Iw Oz rfl ⟨rfl,rfl⟩))
theorem Ht(h:HF)(b1:Nat)(ee:Int)(X':Cx):TT prog (deferFrame 323) 17 [.code (bodyOf Tryz.f323)]
  (λcs Φ=>∃c rest,cs=c::rest/\c.mode=.panicking [{ v:=stopV ee,recovered:=false }]/\GL prog X' (.panicking [{ v:=stopV ee,recovered:=true }]) (λh' B=>h'=h/\∃B0,B=B0++[(b1,zJ (jB [.int .i64 ee]) 37 (0,0))]) ({ c with mode:=(.panicking [{ v:=stopV ee,recovered:=true }]) }::rest) Φ)
  (envArgs [.pointer (some ⟨b1,0,none⟩)]) [] X' h [(b1,zJ (jB [.int .i64 0]) 37 (0,0))]:=by
 refine el (bE (?_))
 refine EQ (F':=GL prog X' (.panicking [{ v:=stopV ee,recovered:=true }]) (λh' B=>h'=h/\∃B0,B=B0++[(b1,zJ (jB [.int .i64 ee]) 37 (0,0))])) (stopV ee) (λcs Φ⟨c,rest,hcs,hm,hF⟩=>⟨_,by subst hcs;simp[recoverD,hm],hF⟩) ?_
 refine gG (aJ (el (bE (av (aB (fK (Ql ⟨_,OA⟩ rfl) (aJ (?_))))))))
 refine lM rfl (el (bE (av (aB (fK (NC underlying358 rfl) (av (oV rfl rfl (oV rfl rfl (aT zc358 (λb2=>?_))))))))))
 refine aL 0 ty358 rfl rfl rfl rfl rfl rfl (gG (aJ (?_)))
 refine el (el (bE (av (nl rfl (aJ (?_))))))
 refine pb rfl (aI (?_))
 refine bE (kl PI rfl (?_))
 refine oo 0 ty37 rfl rfl rfl (?_)
 refine cM 1 ty37 rfl rfl rfl rfl rfl rfl (aJ (?_))
 exact Iw Oz rfl ⟨rfl,[(b2,_)],rfl⟩
theorem zU(h:HF)(fv:Value)(x:Except Int Unit)(hf:mM prog fv #[] h [] (XR (exW stopV (λ_:Unit=>.tuple #[]) x) h)):Ret prog 276 [fv] h (.int .i64 (attR x)):=by
 refine cZ func276 rfl ntmps276 rfl λX hM hX=>?_
 refine el (bE (aT zc37 (λb1=>aJ (el (bE (aB (eL rfl rfl (ON rfl rfl (aJ (el (bE (av (?_)))))))))))))
 have fin:∀(r:Int)(B:LH),attR x=r->(∃B0,B=B0++[(b1,zJ (jB [.int .i64 r]) 37 (0,0))])->∀(e:Env),e 2=.pointer (some ⟨b1,0,none⟩)->∀a:Act,envOf a=e->∀w,St X h (B++[]) w ->
   ∃v h2 B2,(results Tryz.f276 a.tmps).run prog w=.ok v w/\St X h2 B2 w/\v=.int .i64 (attR x)/\h2=h/\B2=[]:=by
  rintro r B hr ⟨B0,rfl⟩ e he a ha w hw
  have hw':=hw.sub (L':=[(b1,zJ (jB [.int .i64 r]) 37 (0,0))]) (by simp)
  exact⟨_,h,[],mV (rs:=[.cell 2 37]) (vs:=[.int .i64 r]) rfl ⟨⟨0,b1,[.int .i64 r],37,(0,0),rfl,he,.inr ⟨_,ty37,rfl⟩⟩,trivial⟩ a ha w hw',hw'.sub (List.nil_sublist _),by rw[hr];rfl,rfl,rfl⟩
 refine Iv rfl (by decide) rfl rfl (λw hw=>?_)
 have hpre:Pre h [] w:=(hw.sub (List.nil_sublist _)).pre
 obtain⟨nx,hrun,hcall⟩:=hf w hpre
 refine⟨nx,w,?_,hcall.mono ?_⟩
 .rw[←hrun];exact Ly rfl w
 rintro y w' ⟨h',B,hst,rfl,rfl,hv⟩
 have hw2:=St.after (A:=[]) (B:=[]) (F:=[(b1,zJ (jB [.int .i64 0]) 37 (0,0))]) hw hst
 cases y with
 |outgrown=>trivial
 |returned v=>
  refine⟨h',_,hw2,?_⟩
  have hx:∃u,x=.ok u:=by cases x with
   |ok u=>exact⟨u,rfl⟩
   |error p=>simp[exW]at hv
  obtain⟨u,rfl⟩:=hx
  refine aJ (el (bE (cM 0 ty37 rfl rfl rfl rfl rfl rfl (aJ (?_)))))
  refine P8 (c:=bodyOf Tryz.f323) (cap:=[.pointer (some ⟨b1,0,none⟩)]) (A:=[(b1,zJ (jB [.int .i64 0]) 37 (0,0))]) (R':=λh'' B=>h''=h'/\B=[(b1,zJ (jB [.int .i64 0]) 37 (0,0))]) func276 Oz rfl ntmps323 rfl call323 (λX' _=>Hs h' b1 X') (Fr:=[]) rfl ?_
  rintro h'' B _ ⟨rfl,rfl⟩ a ha w hw
  obtain⟨v,h2,B2,h3,h4,rfl,rfl,rfl⟩:=fin 0 _ rfl ⟨[],rfl⟩ _ rfl a ha w hw
  exact⟨_,_,_,h3,h4,rfl,rfl,rfl⟩
 |panicked ch=>
  refine⟨h',_,hw2,?_⟩
  have hx:∃ee,x=.error ee:=by cases x with
   |ok u=>simp[exW]at hv
   |error p=>exact⟨p,rfl⟩
  obtain⟨ee,rfl⟩:=hx
  simp only[exW]at hv
  cases hv
  refine Qb (c:=bodyOf Tryz.f323) (cap:=[.pointer (some ⟨b1,0,none⟩)]) (A:=[(b1,zJ (jB [.int .i64 0]) 37 (0,0))]) (R':=λh'' B=>h''=h'/\∃B0,B=B0++[(b1,zJ (jB [.int .i64 ee]) 37 (0,0))]) func276 Oz rfl ntmps323 rfl call323 (λX' _=>Ht h' b1 ee X') (Fr:=[]) rfl ?_
  rintro h'' B _ ⟨rfl,hB⟩ a ha w hw
  obtain⟨v,h2,B2,h3,h4,rfl,rfl,rfl⟩:=fin ee _ rfl hB _ rfl a ha w hw
  exact⟨_,_,_,h3,h4,rfl,rfl,rfl⟩
end Go.Sg

namespace Go.Sg
open Go.Proofs Go.Proofs.Tryz
set_option maxHeartbeats 2000000
theorem CT(h:HF)(p:Policy)(ie:fd)(hp:vP h p ie)(hsm:smP p)(hk:Kinds h):Hw prog 280 [.agg (xE p ie).toArray] h (exW stopV (λr:Unit=>(.tuple #[]:Value)) (bq p)):=by
 refine cZ HG U ntmps280 U λX hM hX=>?_
 have hs0:bq p=bq p:=rfl
 have hsr:=hsm.rules
 refine sr (cz (λb1=>qL 8 [0] U (bA 8 [12,13,14,15,16,17,18,19,20] 12 20 ((p.Rules.length:Int)==(p.Kinds.length:Int)) U (λc1 hk1=>?_) (λe=>?_))))
 .exact qL 8 [0,0] U (hk1 _ U)
 refine av (bA 4 [21,22,23,24,25] 21 25 (aN p.Mode 1 4) U (λc2 hk2=>?_) (λe=>?_))
 .exact qL 2 [0] U (aj Bs (hZ h p.Mode 1 4) U (eU U (hk2 _ U)))
 refine aB (mT Ab (ip h ((decide (0<(p.Kinds.length:Int))&&((p.Rules.length:Int)==(p.Kinds.length:Int)))&&(aN p.Mode 1 4)) 200) U (λu1 hu1=>?_) (λpv1 hpv1 e=>?_))
 .obtain⟨rx1,hrx1,rfl⟩:=oM hu1
  have hs1:=hs0.trans (pE hrx1)
  cases rx1
  refine qL 9 [0] U ?_
  let z2:Nat×Obj:=(b1,O (xE p ie) 64)
  refine lp0 p.Rules (λi=>[(1,Q b1),(28,.slice ie.m8 p.Rules.length ie.m7),(29,I (p.Rules.length:Int)),(30,I (i:Int))]) ([z2]) (λs1 i=>(bq.L1 p (bq.K1 p)) s1 i) hp.Rules.1.1 hs1 ?_ ?_
  .rintro i1 ft hs2 e
   refine sr (cI 0 ty64 U U U (aB (cT call325 (mD _ _ _ hp ob) U (λv1 h1 hle1 hp1=>?_))))
   obtain⟨rb1,rc1,rfl,sl1⟩:=hp1
   refine aT zc60 (λb3=>cM 0 ty60 U U U U U U (qL 7 [0] U (ew ?_)))
   let z1:Nat×Obj:=(b3,O [.slice rb1 ((ay p).length) rc1] 60)
   refine cv (L':=[z1,z2]++(markB [])) ap ?_
   refine sE (ι:=Nat×List Nat×HF) (λi=>[]) (λi=>marks i.2.1) (λi=>i.2.2) (λi=>[z1,z2]++(markB i.2.1)) (λi=>i.1<=(ay p).length/\bq p=((bq.K2))/\vM h1 i.2.2) ?_ (λhx2=>?_)
   .rintro⟨i2,rs2,hh2⟩ ⟨AZ,hs3,hl2⟩ e
    have hs4:bq p=(Except.ok ()):=hs3
    exact cv (L':=([z1,z2])++markB rs2) ap (yQ rs2 [] HG U hX trivial (congrArg (exW stopV (λr:Unit=>(.tuple #[]:Value))) hs4))
   refine xj (ι:=Nat×List Nat×HF×List Expr) (λi=>[(4,Q b3),(52,.slice rb1 ((ay p).length) rc1),(53,I ((ay p).length:Int)),(54,I (i.1:Int))]) (λi=>marks i.2.1) (λi=>i.2.2.1) (λi=>[z1,z2]++(markB i.2.1)) (λi=>(ay p).drop i.1=i.2.2.2/\i.1<=(ay p).length/\bq p=((bq.L2 p (bq.K2)) i.2.2.2 i.1)/\vM h1 i.2.2.1) (λi=>i.2.2.2.length) (0,[],h1,(ay p)) U rd sw ⟨U,zN _,hs2,lf⟩ ?_
   rintro⟨i2,rs2,hh2,s2⟩ ⟨hd2,AZ,hs5,hl2⟩ ag1 e
   rcases s2 with _|⟨y2,rz2⟩
   .have Pt:=ni hd2
    exact sr (fO Pt U (qO 4 U (hx2 (i2,rs2,hh2) _ ⟨AZ,hs5,hl2⟩ trivial)))
   have yx:=tj hd2
   have sZ:=pI hd2
   have FZ:=iB hd2
   have LQ:=sl1.1.1
   try have hsy:=Cp hsm (gp hd2)
   refine sr (tO yx U (qO 9 U (aB (iR lW ty62 (sl1.mono aAq hl2).1 sZ U U U (λ_ _ _ e=>e) (λq4 r3 A5 ok3=>dq ty62 A5 U U (aT zc3 (λb7=>aT zc62 (λb8=>cM 1 ty3 U U U U U U (aL 0 ty62 U U U U U U (qO 3 U (cI 0 ty62 U U U (aB (cT Mt (nj _ _ _ 1 ok3 ob) U (λv3 h3 hle3 hp3=>?_))))))))))))))
   obtain⟨_,rfl,mo2⟩:=hp3
   refine qO 2 U ?_
   let z3:Nat×Obj:=(b7,O [I (i2:Int)] 3)
   let z5:Nat×Obj:=(b8,O (zC y2 r3) 62)
   refine cv (L':=([z5,z3,z1,z2])++markB rs2) ap ?_
   refine kp (it:=v3) (xs:=(bu y2 1)) (ι:=HF) rs2 (λi=>i) (λi=>[z5,z3,z1,z2]) (λs i=>bq p=((bq.L4 p i2 ((bq.L2 p (bq.K2) rz2 (i2+1)))) s)/\vM h3 i) (λ_=>False) (λ_=>False) 0 (λch _ _=>∃pv_,ch=[{ v:=stopV pv_,recovered:=false }]/\bq p=.error pv_) h3 HG U mo2 U ov (λ_ _ _ _ _ hq=>hq) U (show[z5,z3,z1,z2]=_ from U) ⟨hs5,lf⟩ ?_ ?_ ?_ ?_ ?_
   .rintro l4 dm4 lp4 y4 rz4 vs4 hh4 hr4 X hFR4 ⟨hs7,hl4⟩ hl04 hlr4 hv4 hX hXM hlp4 nx4 rt4 ex4 pn4
    obtain⟨rr4_0,rfl,ok4_0⟩:=hv4
    let z6:Nat×Obj:=(dm4,.deferred (some []))
    refine cv (L':=[(l4,.loop lp4),z6,z5,z3,z1,z2]++(markB rs2)) ap (bE (aT zc327 (λb10=>aL 0 ty327 U U U U U U (aJ (kc 1 U hlp4 (qT 2 U ?_))))))
    let z4:Nat×Obj:=(l4,.loop { lp4 with state:=.busy })
    let z8:Nat×Obj:=(b10,O (gL.cells y4 rr4_0) 327)
    refine eT ([z8,z4,z6,z5,z3,z1,z2]) mixed kr jn (λeo _=>?_)
    refine qB [0,1] U (tf 2 U U (rj 0 ty3 U U U) (tn 3 U (fo Bs (hZ hr4 y4.x.Kind 1 4) U (⟨jn,tm 4 U ?_⟩))))
    refine dx 66 U (λc3=>?_) (λc3=>?_)
    .refine qB [5,6] U (tf 7 U U (rj 0 ty3 U U U) ?_)
     have ho4:0<=(y4.x.Kind:Int)/\(y4.x.Kind:Int)<5:=(by have:=Nq ob;omega)
     have A7:=(hk.mono ((((hle1.t hl2).t hle3).t hl4).t hlr4)).at ho4
     refine tf 8 U U (λ_ _ _=>O8 underlying365 ty168 U U ho4) (tf 9 U U (rh ty168 A7 U) (qB [10] U (tf 11 U U (λ_ _ hj=>kg ty62 U (hj.nth (i:=0) U) U) (tn 12 U (ke (v:=.bool (kindsP y4.x.Kind y4.x)) [] (List.nil_sublist _) (LM hr4 y4.x.Kind ho4 y4.x rr4_0.x ok4_0.x) U U (⟨jn,tf 13 U U (λ_ _ _=>nX U (cb (show(kindsP y4.x.Kind y4.x)=((aN y4.x.Kind 1 4)&&(kindsP y4.x.Kind y4.x))from by first|(rw[c3];rfl)|(rw[c3];rfl)|simp[c3]))) ?_⟩))))))
     refine tn 14 U (mT Ab (ip hr4 ((aN y4.x.Kind 1 4)&&(kindsP y4.x.Kind y4.x)) 200) U (λu2 hu2=>?_) (λpv2 hpv2 e=>?_))
     .obtain⟨rx2,hrx2,rfl⟩:=oM hu2
      have hs8:=hs7.trans (pE hrx2)
      cases rx2
      refine⟨jn,aQ kr (qK 7 [4,5] U (ce 5 [82,83,84,85,86,87] 82 87 (y4.x.Kind != 4) U (λc4 hk3=>?_) (λe=>?_)))⟩
      .exact qL 5 [0] U (hk3 _ U)
      refine aB (mT Ab (ip hr4 (decide ((i2:Int)<(vC .i64 (((ay p).length:Int)-1)))||(y4.x.Kind != 4)) 200) U (λu3 hu3=>?_) (λpv3 hpv3 e=>?_))
      .obtain⟨rx3,hrx3,rfl⟩:=oM hu3
       have hs9:=hs8.trans (pE hrx3)
       cases rx3
       exact aJ (fe (aX (L':=[z4,z6,z5,z3,z1,z2]++(markB rs2)) js (cv (L':=rdH l4 dm4 lp4 (([z5,z3,z1,z2])++markB rs2)) ap (nx4 hr4 _ _ ⟨hs9,(hl4.t hlr4)⟩ lf))))
      obtain⟨pv3e,hpv3e,rfl⟩:=m5 hpv3
      have hs10:=hs8.trans (nr hpv3e)
      exact AC (L':=[z4,z6]++(markB rs2)) js (pn4 _ _ _ [] ⟨_,U,hs10⟩)
     obtain⟨pv2e,hpv2e,rfl⟩:=m5 hpv2
     have hs11:=hs7.trans (nr hpv2e)
     exact AC (L':=[z4,z6]++(markB rs2)) js (pn4 _ _ _ [] ⟨_,U,hs11⟩)
    refine qR 5 8 U (tf 13 U U (λ_ _ _=>nX U (cb (show false=((aN y4.x.Kind 1 4)&&(kindsP y4.x.Kind y4.x))from by first|(rw[c3];rfl)|(rw[c3];rfl)|simp[c3]))) ?_)
    refine tn 14 U (mT Ab (ip hr4 ((aN y4.x.Kind 1 4)&&(kindsP y4.x.Kind y4.x)) 200) U (λu4 hu4=>?_) (λpv4 hpv4 e=>?_))
    .obtain⟨rx4,hrx4,rfl⟩:=oM hu4
     have hs12:=hs7.trans (pE hrx4)
     cases rx4
     refine⟨jn,aQ kr (qK 7 [4,5] U (ce 5 [82,83,84,85,86,87] 82 87 (y4.x.Kind != 4) U (λc5 hk4=>?_) (λe=>?_)))⟩
     .exact qL 5 [0] U (hk4 _ U)
     refine aB (mT Ab (ip hr4 (decide ((i2:Int)<(vC .i64 (((ay p).length:Int)-1)))||(y4.x.Kind != 4)) 200) U (λu5 hu5=>?_) (λpv5 hpv5 e=>?_))
     .obtain⟨rx5,hrx5,rfl⟩:=oM hu5
      have hs13:=hs12.trans (pE hrx5)
      cases rx5
      exact aJ (fe (aX (L':=[z4,z6,z5,z3,z1,z2]++(markB rs2)) js (cv (L':=rdH l4 dm4 lp4 (([z5,z3,z1,z2])++markB rs2)) ap (nx4 hr4 _ _ ⟨hs13,(hl4.t hlr4)⟩ lf))))
     obtain⟨pv5e,hpv5e,rfl⟩:=m5 hpv5
     have hs14:=hs12.trans (nr hpv5e)
     exact AC (L':=[z4,z6]++(markB rs2)) js (pn4 _ _ _ [] ⟨_,U,hs14⟩)
    obtain⟨pv4e,hpv4e,rfl⟩:=m5 hpv4
    have hs15:=hs7.trans (nr hpv4e)
    exact AC (L':=[z4,z6]++(markB rs2)) js (pn4 _ _ _ [] ⟨_,U,hs15⟩)
   .rintro dm4 hh4 hn4 ⟨hs16,hl4⟩ hln4 hl04
    exact cv (L':=[z5,z3,z1,z2]++(markB (dm4::rs2))) ap (qT 3 U (oi i2 U (qO 2 U (aX (L':=[z1,z2]++(markB (dm4::rs2))) js (ag1 ((i2+1),(dm4::rs2),hn4,rz2) _ (Nat.lt_succ_self _) ⟨kO hd2,iB hd2,hs16,(((hl2.t hle3).t hl4).t hln4)⟩ rd)))))
   .exact xf
   .exact xf
   rintro dm4 ch hn4 L0 ⟨pv_,rfl,hpv_⟩ hl04
   exact nP (dm4::rs2) HG hX (congrArg (exW stopV (λr:Unit=>(.tuple #[]:Value))) hpv_)
  rintro i1 y1 rz1 hd1 df aS dZ gy hs17 hx1 ag2 e
  try have hsy:=Cp hsm (gp hd1)
  refine sr (tO df U (qO 9 U (aB (iR wL ty79 hp.Rules.1 aS U U U (λ_ _ _ e=>e) (λq5 r4 A8 ok4=>dq ty79 A8 U U (aT zc79 (λb11=>gG (aL 0 ty79 U U U U U U (aJ ?_)))))))))
  let z7:Nat×Obj:=(b11,O (Rule.cells y1 r4) 79)
  refine eT ([z7,z2]) mixed kr jn (λmK _=>?_)
  refine qB [0] U (tf 1 U U (rj 0 ty9 U U U) (qB [2] U (tf 3 U U (rj 1 ty58 U U U) (tm 4 U ?_))))
  have ho5:0<=((i1:Int):Int)/\((i1:Int):Int)<((p.Kinds).length:Int):=(by have hm:=NI hrx1;simp only[decide_eq_true_eq,decide_eq_false_iff_not,xB,xD,qE,Bool.not_eq_false',Bool.and_eq_false_iff,Bool.or_eq_false_iff,beq_iff_eq,beq_eq_false_iff_ne,bne_iff_ne,bne_eq_false_iff_eq,jA,xA,vB,List.length_drop]at hm;omega)
  refine eX 5 (enc:=λy=>[.string y]) mK jn ei wp ty9 hp.Kinds.1 ho5 (dh ho5) U U U U kr (λq6 A9=>tf 6 U U (rh ty9 A9 U) (qA [7,8] U ?_))
  refine dx 43 U (λc6=>?_) (λc6=>?_)
  .refine qB [9] U (tf 10 U U (rj 0 ty3 U U U) (tn 11 U (fo Bs (hZ h y1.Think 0 1099511627775) U (⟨jn,tf 12 U U (λ_ _ _=>nX U (cb (show(aN y1.Think 0 1099511627775)=((y1.Kind.toList==(nthI p.Kinds (i1:Int)).toList)&&(aN y1.Think 0 1099511627775))from by first|(rw[c6];rfl)|(rw[c6];rfl)|simp[c6]))) ?_⟩))))
   refine tn 13 U (mT Ab (ip h ((y1.Kind.toList==(nthI p.Kinds (i1:Int)).toList)&&(aN y1.Think 0 1099511627775)) 200) U (λu6 hu6=>?_) (λpv6 hpv6 e=>?_))
   .obtain⟨rx6,hrx6,rfl⟩:=oM hu6
    have hs18:=hs17.trans (pE hrx6)
    cases rx6
    exact⟨jn,(aQ kr (qT 2 U (oi i1 U (qO 2 U (aX (L':=[z2]) js (ag2 hs18))))))⟩
   obtain⟨pv6e,hpv6e,rfl⟩:=m5 hpv6
   have hs19:=hs17.trans (nr hpv6e)
   exact gV (nP [] HG hX (congrArg (exW stopV (λr:Unit=>(.tuple #[]:Value))) hs19))
  refine qR 9 3 U (tf 12 U U (λ_ _ _=>nX U (cb (show false=((y1.Kind.toList==(nthI p.Kinds (i1:Int)).toList)&&(aN y1.Think 0 1099511627775))from by first|(rw[c6];rfl)|(rw[c6];rfl)|simp[c6]))) ?_)
  refine tn 13 U (mT Ab (ip h ((y1.Kind.toList==(nthI p.Kinds (i1:Int)).toList)&&(aN y1.Think 0 1099511627775)) 200) U (λu7 hu7=>?_) (λpv7 hpv7 e=>?_))
  .obtain⟨rx7,hrx7,rfl⟩:=oM hu7
   have hs20:=hs17.trans (pE hrx7)
   cases rx7
   exact⟨jn,(aQ kr (qT 2 U (oi i1 U (qO 2 U (aX (L':=[z2]) js (ag2 hs20))))))⟩
  obtain⟨pv7e,hpv7e,rfl⟩:=m5 hpv7
  have hs21:=hs17.trans (nr hpv7e)
  exact gV (nP [] HG hX (congrArg (exW stopV (λr:Unit=>(.tuple #[]:Value))) hs21))
 obtain⟨pv1e,hpv1e,rfl⟩:=m5 hpv1
 have hs22:=hs0.trans (nr hpv1e)
 exact gV (nP [] HG hX (congrArg (exW stopV (λr:Unit=>(.tuple #[]:Value))) hs22))
theorem wM(h:HF)(p:Policy)(ie:fd)(p_q:Addr)(hp:vP h p ie)(ap_z:At h p_q (xE p ie))(hsm:smP p)(hk:Kinds h):Hw prog 277 [.pointer (some p_q)] h (exW stopV (λr:Unit=>(.tuple #[]:Value)) (dE p)):=by
 refine cZ Mq U ntmps277 U λX hM hX=>?_
 have hs0:dE p=dE p:=rfl
 refine sr (dq ty64 ap_z U U ?_)
 refine aB (mT call278 (BR h p ie hp ob) U (λu1 hu1=>?_) (λpv1 hpv1 e=>?_))
 .obtain⟨rx1,hrx1,rfl⟩:=oM hu1
  have hs1:=hs0.trans (pE hrx1)
  cases rx1
  refine qO 3 U (dq ty64 ap_z U U ?_)
  refine aB (mT call279 (BS h p ie hp ob) U (λu2 hu2=>?_) (λpv2 hpv2 e=>?_))
  .obtain⟨rx2,hrx2,rfl⟩:=oM hu2
   have hs2:=hs1.trans (pE hrx2)
   cases rx2
   refine qO 2 U (dq ty64 ap_z U U ?_)
   refine aB (mT call280 (CT h p ie hp ob hk) U (λu3 hu3=>?_) (λpv3 hpv3 e=>?_))
   .obtain⟨rx3,hrx3,rfl⟩:=oM hu3
    have hs3:=hs2.trans (pE hrx3)
    cases rx3
    refine aJ ?_
    have hs4:dE p=(Except.ok ()):=hs3
    exact ew (yQ [] [] Mq U hX trivial (congrArg (exW stopV (λr:Unit=>(.tuple #[]:Value))) hs4))
   obtain⟨pv3e,hpv3e,rfl⟩:=m5 hpv3
   have hs5:=hs2.trans (nr hpv3e)
   exact gV (nP [] Mq hX (congrArg (exW stopV (λr:Unit=>(.tuple #[]:Value))) hs5))
  obtain⟨pv2e,hpv2e,rfl⟩:=m5 hpv2
  have hs6:=hs1.trans (nr hpv2e)
  exact gV (nP [] Mq hX (congrArg (exW stopV (λr:Unit=>(.tuple #[]:Value))) hs6))
 obtain⟨pv1e,hpv1e,rfl⟩:=m5 hpv1
 have hs7:=hs0.trans (nr hpv1e)
 exact gV (nP [] Mq hX (congrArg (exW stopV (λr:Unit=>(.tuple #[]:Value))) hs7))
theorem yc(rec:List ByteArray->Expr->Expr)(h:HF)(offices:List ByteArray)(dI:Option Addr)(dH:Nat)(x:Expr)(gv:de)(hrec:∀(h:HF)(qoffices:List ByteArray)(ki:Option Addr)(kh:Nat)(qx:Expr)(ly:de)(hqoffices:SlC aAQ h ki kh qoffices)(hqx:jF h qx ly)(hsz:qx.dep<=2000000)(_:qx.dep<x.dep),jv prog 281 [.slice ki qoffices.length kh,.agg (zC qx ly).toArray] h (λv h'=>∃(rr0:de),v=.agg (zC (rec qoffices qx) rr0).toArray/\jF h' (rec qoffices qx) rr0))(hoffices:SlC aAQ h dI dH offices)(hx:jF h x gv)(hsz:x.dep<=2000000):jv prog 281 [.slice dI offices.length dH,.agg (zC x gv).toArray] h (λv h'=>∃(rr0:de),v=.agg (zC (ao.F rec offices x) rr0).toArray/\jF h' (ao.F rec offices x) rr0):=by
 refine cZ func281 U ntmps281 U λX hM hX=>?_
 have hs0:ao.F rec offices x=ao.F rec offices x:=rfl
 have hln:=Expr.Po x
 refine sr (cz (λb1=>aT zc62 (λb2=>qL 4 [] U (cM 1 ty3 U U U U U U (qO 4 U (cI 1 ty62 U U U (aj call283 (oh _ _ _ (show jF h (xG x.Kind x.N 0 x.Name x.L) (de.mk gv.mt gv.mu)from aAu hx.list)) U (aJ (ae hs0 U (λc1 hs1=>?_) (λc1 hs2=>?_))))))))))
 .refine qK 4 [1] U (aj OB (lF _ _ _ _ x.Name hoffices) U (qL 1 [] U (cM 1 ty3 U U U U U U (qL 10 [1] U (cM 1 ty60 U U U U U U (qL 8 [] U ?_))))))
  let z1:Nat×Obj:=(b2,O [I 0,I 0,I 0,.string (⟨#[]⟩:ByteArray),.slice none 0 0] 62)
  refine lp2 x.L (λi w=>[(0,.slice dI offices.length dH),(3,Q b1),(4,Q b2),(19,.slice gv.mt x.L.length gv.mu),(20,I (x.L.length:Int)),(21,I (i:Int))]) (λw=>w.2.2.2.2) (λw=>[z1,(b1,O [I x.Kind,I x.N,I (aR offices x.Name),.string x.Name,.slice w.2.1 w.1.length w.2.2.1] 62)]++(w.2.2.2.1)) (λi w=>dC aAL 62 w.2.2.2.2 w.1 w.2.1 w.2.2.1 w.2.2.2.1/\w.1.length<=0+i/\vM h w.2.2.2.2) (λs1 i w=>(ao.L1 rec offices (ao.K1 offices x)) s1 w.1) ([],none,0,[],h) hx.list.1.1 hs1 ⟨dC.nil,lo,lf⟩ ?_ ?_
  .rintro i1 ⟨lH,rm,rl,Cj,hh1⟩ ft hs3 ⟨tc,Gg,hl1⟩ e
   try dsimp only at tc Gg hl1
   let z3:Nat×Obj:=(b1,O [I x.Kind,I x.N,I (aR offices x.Name),.string x.Name,.slice rm lH.length rl] 62)
   let z15:Nat×Obj:=(b2,O [I x.Kind,I x.N,I (aR offices x.Name),.string x.Name,.slice rm lH.length rl] 62)
   refine sr (cI 1 ty62 U U U (aL 0 ty62 U U U U U U (gJ (L':=[z15,z3]++(Cj)) U (aJ (eK aAq ([z15,z3]) Cj ([]) ap hM tc (λh3 hle3 sl2=>?_))))))
   have hs4:ao.F rec offices x=(xG x.Kind x.N (aR offices x.Name) x.Name lH):=hs3
   exact kX [.agg (jB [I x.Kind,I x.N,I (aR offices x.Name),.string x.Name,.slice rm lH.length rl])] func281 U ⟨⟨0,_,_,_,_,U,U,.inl ⟨ty62,U⟩⟩,trivial⟩ ⟨(de.mk rm rl),congrArg (λr:Expr=>(.agg (zC r (de.mk rm rl)).toArray:Value)) hs4.symm,(by rw[hs4];exact(show jF h3 (xG x.Kind x.N (aR offices x.Name) x.Name lH) (de.mk rm rl)from aAu sl2))⟩
  rintro i1 ⟨lH,rm,rl,Cj,hh1⟩ y1 rz1 hd1 df aS dZ gy hs5 ⟨tc,Gg,hl1⟩ hx1 ag1 e
  try dsimp only at tc Gg hl1
  have hdy:=aAn (gp hd1)
  refine sr (tO df U (qO 8 U (aB (iR lW ty62 (hx.list.mono aAq hl1).1 aS U U U (λ_ _ _ e=>e) (λq2 r2 A2 ok3=>?_)))))
  let z4:Nat×Obj:=(b1,O [I x.Kind,I x.N,I (aR offices x.Name),.string x.Name,.slice rm lH.length rl] 62)
  refine dq ty62 A2 U U (aT zc62 (λb5=>aL 0 ty62 U U U U U U (gJ (L':=[(b5,O (zC y1 r2) 62),z1,z4]++(Cj)) U (aJ ?_))))
  let z8:Nat×Obj:=(b5,O (zC y1 r2) 62)
  refine eT ([z8,z1]) mixed kr jn (λeo _=>?_)
  refine qB [0,2] U (tf 3 U U (λ_ _ hj=>kg ty62 U (hj.nth (i:=0) U) U) ?_)
  refine og 1 4 kr U U ?_ ?_ 
  .refine fK (AI ty60 U (oC (i:=2) U) U) (⟨jn,tn 4 U (cT Jx (hrec _ _ _ _ _ _ (hoffices.mono aBv hl1) ok3 ob (aAn (gp hd1))) U (λv2 h4 hle4 hp2=>?_))⟩)
   obtain⟨rr4,rfl,ok4⟩:=hp2
   refine⟨jl hle4,tu hle4 (tn 5 U (bB (cells:=[I ((rec offices y1).Kind),I ((rec offices y1).N),I ((rec offices y1).No),.string ((rec offices y1).Name),.slice rr4.mt ((rec offices y1).L.length) rr4.mu]) lW ty62 zc62 U U kr (λb6=>⟨jn,?_⟩)))⟩
   let z12:Nat×Obj:=(b6,O [I ((rec offices y1).Kind),I ((rec offices y1).N),I ((rec offices y1).No),.string ((rec offices y1).Name),.slice rr4.mt ((rec offices y1).L.length) rr4.mu] 62)
   exact tn 6 U (dy aBM ([z12,z8,z1,z4]) ([]) (λG=>[z12,z8,z1,z4]++G) ap (λ_=>ap) lW ty62 zc62 U bytes62 (tc.mono aAq hle4) U U (eF 0 U (cE (R:=aAL) (rec offices y1) U ⟨rr4,U,ok4⟩)) lo lo (λob2 oc2 G2 gr2=>⟨jn,qB [7] U (tn 8 U (lm 3 ty60 U U U U U U (⟨jn,aQ kr (qT 2 U (oi i1 U (qO 2 U (aX (L':=[z1,(b1,O [I x.Kind,I x.N,I (aR offices x.Name),.string x.Name,.slice ob2 ((lH++[(rec offices y1)]).length) oc2] 62)]++G2) js (ag1 ((lH++[(rec offices y1)]),ob2,oc2,G2,h4) hs5 ⟨gr2,lo,(hl1.t hle4)⟩)))))⟩)))⟩))
  refine cT Jx (hrec _ _ _ _ _ _ (hoffices.mono aBv hl1) ok3 ob (aAn (gp hd1))) U (λv3 h5 hle5 hp3=>?_)
  obtain⟨rr5,rfl,ok5⟩:=hp3
  refine⟨jl hle5,tu hle5 ?_⟩
  refine og 1 5 kr U U ?_ ?_ 
  .refine fK (AI ty60 U (oC (i:=2) U) U) (⟨jn,tn 5 U (bB (cells:=[I ((rec offices y1).Kind),I ((rec offices y1).N),I ((rec offices y1).No),.string ((rec offices y1).Name),.slice rr5.mt ((rec offices y1).L.length) rr5.mu]) lW ty62 zc62 U U kr (λb7=>⟨jn,?_⟩))⟩)
   let z13:Nat×Obj:=(b7,O [I ((rec offices y1).Kind),I ((rec offices y1).N),I ((rec offices y1).No),.string ((rec offices y1).Name),.slice rr5.mt ((rec offices y1).L.length) rr5.mu] 62)
   exact tn 6 U (dy aBM ([z13,z8,z1,z4]) ([]) (λG=>[z13,z8,z1,z4]++G) ap (λ_=>ap) lW ty62 zc62 U bytes62 (tc.mono aAq hle5) U U (eF 0 U (cE (R:=aAL) (rec offices y1) U ⟨rr5,U,ok5⟩)) lo lo (λob3 oc3 G3 gr3=>⟨jn,qB [7] U (tn 8 U (lm 3 ty60 U U U U U U (⟨jn,aQ kr (qT 2 U (oi i1 U (qO 2 U (aX (L':=[z1,(b1,O [I x.Kind,I x.N,I (aR offices x.Name),.string x.Name,.slice ob3 ((lH++[(rec offices y1)]).length) oc3] 62)]++G3) js (ag1 ((lH++[(rec offices y1)]),ob3,oc3,G3,h5) hs5 ⟨gr3,lo,(hl1.t hle5)⟩)))))⟩)))⟩))
  refine bB (cells:=[I ((rec offices y1).Kind),I ((rec offices y1).N),I ((rec offices y1).No),.string ((rec offices y1).Name),.slice rr5.mt ((rec offices y1).L.length) rr5.mu]) lW ty62 zc62 U U kr (λb8=>⟨jn,tn 1 U (fK (AI ty60 U (oC (i:=3) U) U) (⟨jn,?_⟩))⟩)
  let z14:Nat×Obj:=(b8,O [I ((rec offices y1).Kind),I ((rec offices y1).N),I ((rec offices y1).No),.string ((rec offices y1).Name),.slice rr5.mt ((rec offices y1).L.length) rr5.mu] 62)
  exact tn 6 U (dy aBM ([z14,z8,z1,z4]) ([]) (λG=>[z14,z8,z1,z4]++G) ap (λ_=>ap) lW ty62 zc62 U bytes62 (tc.mono aAq hle5) U U (eF 0 U (cE (R:=aAL) (rec offices y1) U ⟨rr5,U,ok5⟩)) lo lo (λob4 oc4 G4 gr4=>⟨jn,qB [7] U (tn 8 U (lm 3 ty60 U U U U U U (⟨jn,aQ kr (qT 2 U (oi i1 U (qO 2 U (aX (L':=[z1,(b1,O [I x.Kind,I x.N,I (aR offices x.Name),.string x.Name,.slice ob4 ((lH++[(rec offices y1)]).length) oc4] 62)]++G4) js (ag1 ((lH++[(rec offices y1)]),ob4,oc4,G4,h5) hs5 ⟨gr4,lo,(hl1.t hle5)⟩)))))⟩)))⟩))
 refine qK 10 [1] U (cM 1 ty60 U U U U U U (qL 8 [] U ?_))
 let z2:Nat×Obj:=(b2,O [I 0,I 0,I 0,.string (⟨#[]⟩:ByteArray),.slice none 0 0] 62)
 refine lp2 x.L (λi w=>[(0,.slice dI offices.length dH),(3,Q b1),(4,Q b2),(19,.slice gv.mt x.L.length gv.mu),(20,I (x.L.length:Int)),(21,I (i:Int))]) (λw=>w.2.2.2.2) (λw=>[z2,(b1,O [I x.Kind,I x.N,I 0,.string x.Name,.slice w.2.1 w.1.length w.2.2.1] 62)]++(w.2.2.2.1)) (λi w=>dC aAL 62 w.2.2.2.2 w.1 w.2.1 w.2.2.1 w.2.2.2.1/\w.1.length<=0+i/\vM h w.2.2.2.2) (λs2 i w=>(ao.L2 rec offices (ao.K2 x)) s2 w.1) ([],none,0,[],h) hx.list.1.1 hs2 ⟨dC.nil,lo,lf⟩ ?_ ?_
 .rintro i2 ⟨lG,rk,ri,Cd,hh2⟩ AZ hs6 ⟨s7,F6,hl2⟩ e
  try dsimp only at s7 F6 hl2
  let z5:Nat×Obj:=(b1,O [I x.Kind,I x.N,I 0,.string x.Name,.slice rk lG.length ri] 62)
  let z16:Nat×Obj:=(b2,O [I x.Kind,I x.N,I 0,.string x.Name,.slice rk lG.length ri] 62)
  refine sr (cI 1 ty62 U U U (aL 0 ty62 U U U U U U (gJ (L':=[z16,z5]++(Cd)) U (aJ (eK aAq ([z16,z5]) Cd ([]) ap hM s7 (λh8 hle8 sl4=>?_))))))
  have hs7:ao.F rec offices x=(xG x.Kind x.N 0 x.Name lG):=hs6
  exact kX [.agg (jB [I x.Kind,I x.N,I 0,.string x.Name,.slice rk lG.length ri])] func281 U ⟨⟨0,_,_,_,_,U,U,.inl ⟨ty62,U⟩⟩,trivial⟩ ⟨(de.mk rk ri),congrArg (λr:Expr=>(.agg (zC r (de.mk rk ri)).toArray:Value)) hs7.symm,(by rw[hs7];exact(show jF h8 (xG x.Kind x.N 0 x.Name lG) (de.mk rk ri)from aAu sl4))⟩
 rintro i2 ⟨lG,rk,ri,Cd,hh2⟩ y2 rz2 hd2 yx sZ FZ LQ hs8 ⟨s7,F6,hl2⟩ hx2 ag2 e
 try dsimp only at s7 F6 hl2
 have hdy:=aAn (gp hd2)
 refine sr (tO yx U (qO 8 U (aB (iR lW ty62 (hx.list.mono aAq hl2).1 sZ U U U (λ_ _ _ e=>e) (λq4 r4 A4 ok8=>?_)))))
 let z6:Nat×Obj:=(b1,O [I x.Kind,I x.N,I 0,.string x.Name,.slice rk lG.length ri] 62)
 refine dq ty62 A4 U U (aT zc62 (λb11=>aL 0 ty62 U U U U U U (gJ (L':=[(b11,O (zC y2 r4) 62),z2,z6]++(Cd)) U (aJ ?_))))
 let z7:Nat×Obj:=(b11,O (zC y2 r4) 62)
 refine eT ([z7,z2]) mixed kr jn (λmK _=>?_)
 refine qB [0,2] U (tf 3 U U (λ_ _ hj=>kg ty62 U (hj.nth (i:=0) U) U) ?_)
 refine og 1 4 kr U U ?_ ?_ 
 .refine fK (AI ty60 U (oC (i:=2) U) U) (⟨jn,tn 4 U (cT Jx (hrec _ _ _ _ _ _ (hoffices.mono aBv hl2) ok8 ob (aAn (gp hd2))) U (λv5 h9 hle9 hp5=>?_))⟩)
  obtain⟨rr9,rfl,ok9⟩:=hp5
  refine⟨jl hle9,tu hle9 (tn 5 U (bB (cells:=[I ((rec offices y2).Kind),I ((rec offices y2).N),I ((rec offices y2).No),.string ((rec offices y2).Name),.slice rr9.mt ((rec offices y2).L.length) rr9.mu]) lW ty62 zc62 U U kr (λb12=>⟨jn,?_⟩)))⟩
  let z11:Nat×Obj:=(b12,O [I ((rec offices y2).Kind),I ((rec offices y2).N),I ((rec offices y2).No),.string ((rec offices y2).Name),.slice rr9.mt ((rec offices y2).L.length) rr9.mu] 62)
  exact tn 6 U (dy aBM ([z11,z7,z2,z6]) ([]) (λG=>[z11,z7,z2,z6]++G) ap (λ_=>ap) lW ty62 zc62 U bytes62 (s7.mono aAq hle9) U U (eF 0 U (cE (R:=aAL) (rec offices y2) U ⟨rr9,U,ok9⟩)) lo lo (λob6 oc6 G6 gr6=>⟨jn,qB [7] U (tn 8 U (lm 3 ty60 U U U U U U (⟨jn,aQ kr (qT 2 U (oi i2 U (qO 2 U (aX (L':=[z2,(b1,O [I x.Kind,I x.N,I 0,.string x.Name,.slice ob6 ((lG++[(rec offices y2)]).length) oc6] 62)]++G6) js (ag2 ((lG++[(rec offices y2)]),ob6,oc6,G6,h9) hs8 ⟨gr6,lo,(hl2.t hle9)⟩)))))⟩)))⟩))
 refine cT Jx (hrec _ _ _ _ _ _ (hoffices.mono aBv hl2) ok8 ob (aAn (gp hd2))) U (λv6 h10 hle10 hp6=>?_)
 obtain⟨rr10,rfl,ok10⟩:=hp6
 refine⟨jl hle10,tu hle10 ?_⟩
 refine og 1 5 kr U U ?_ ?_ 
 .refine fK (AI ty60 U (oC (i:=2) U) U) (⟨jn,tn 5 U (bB (cells:=[I ((rec offices y2).Kind),I ((rec offices y2).N),I ((rec offices y2).No),.string ((rec offices y2).Name),.slice rr10.mt ((rec offices y2).L.length) rr10.mu]) lW ty62 zc62 U U kr (λb13=>⟨jn,?_⟩))⟩)
  let z9:Nat×Obj:=(b13,O [I ((rec offices y2).Kind),I ((rec offices y2).N),I ((rec offices y2).No),.string ((rec offices y2).Name),.slice rr10.mt ((rec offices y2).L.length) rr10.mu] 62)
  exact tn 6 U (dy aBM ([z9,z7,z2,z6]) ([]) (λG=>[z9,z7,z2,z6]++G) ap (λ_=>ap) lW ty62 zc62 U bytes62 (s7.mono aAq hle10) U U (eF 0 U (cE (R:=aAL) (rec offices y2) U ⟨rr10,U,ok10⟩)) lo lo (λob7 oc7 G7 gr7=>⟨jn,qB [7] U (tn 8 U (lm 3 ty60 U U U U U U (⟨jn,aQ kr (qT 2 U (oi i2 U (qO 2 U (aX (L':=[z2,(b1,O [I x.Kind,I x.N,I 0,.string x.Name,.slice ob7 ((lG++[(rec offices y2)]).length) oc7] 62)]++G7) js (ag2 ((lG++[(rec offices y2)]),ob7,oc7,G7,h10) hs8 ⟨gr7,lo,(hl2.t hle10)⟩)))))⟩)))⟩))
 refine bB (cells:=[I ((rec offices y2).Kind),I ((rec offices y2).N),I ((rec offices y2).No),.string ((rec offices y2).Name),.slice rr10.mt ((rec offices y2).L.length) rr10.mu]) lW ty62 zc62 U U kr (λb14=>⟨jn,tn 1 U (fK (AI ty60 U (oC (i:=3) U) U) (⟨jn,?_⟩))⟩)
 let z10:Nat×Obj:=(b14,O [I ((rec offices y2).Kind),I ((rec offices y2).N),I ((rec offices y2).No),.string ((rec offices y2).Name),.slice rr10.mt ((rec offices y2).L.length) rr10.mu] 62)
 exact tn 6 U (dy aBM ([z10,z7,z2,z6]) ([]) (λG=>[z10,z7,z2,z6]++G) ap (λ_=>ap) lW ty62 zc62 U bytes62 (s7.mono aAq hle10) U U (eF 0 U (cE (R:=aAL) (rec offices y2) U ⟨rr10,U,ok10⟩)) lo lo (λob8 oc8 G8 gr8=>⟨jn,qB [7] U (tn 8 U (lm 3 ty60 U U U U U U (⟨jn,aQ kr (qT 2 U (oi i2 U (qO 2 U (aX (L':=[z2,(b1,O [I x.Kind,I x.N,I 0,.string x.Name,.slice ob8 ((lG++[(rec offices y2)]).length) oc8] 62)]++G8) js (ag2 ((lG++[(rec offices y2)]),ob8,oc8,G8,h10) hs8 ⟨gr8,lo,(hl2.t hle10)⟩)))))⟩)))⟩))
theorem pk:∀(m:Nat)(h:HF)(offices:List ByteArray)(dI:Option Addr)(dH:Nat)(x:Expr)(gv:de)(_:x.dep<=m)(hoffices:SlC aAQ h dI dH offices)(hx:jF h x gv)(hsz:x.dep<=2000000),jv prog 281 [.slice dI offices.length dH,.agg (zC x gv).toArray] h (λv h'=>∃(rr0:de),v=.agg (zC (ao.go m offices x) rr0).toArray/\jF h' (ao.go m offices x) rr0)
 |0,h,offices,dI,dH,x,gv,hd,hoffices,hx,hsz=>absurd hd (Nat.not_le.2 (Expr.mj _))
 |m+1,h,offices,dI,dH,x,gv,hd,hoffices,hx,hsz=>yc (ao.go m) h offices dI dH x gv (λqh_ qoffices ki kh qx ly qhoffices qhx qhsz qd=>pk m qh_ qoffices ki kh qx ly ob qhoffices qhx qhsz) hoffices hx hsz
theorem rI(h:HF)(offices:List ByteArray)(dI:Option Addr)(dH:Nat)(x:Expr)(gv:de)(hoffices:SlC aAQ h dI dH offices)(hx:jF h x gv)(hsz:x.dep<=2000000):jv prog 281 [.slice dI offices.length dH,.agg (zC x gv).toArray] h (λv h'=>∃(rr0:de),v=.agg (zC (ao offices x) rr0).toArray/\jF h' (ao offices x) rr0):=pk _ h offices dI dH x gv (kF _) hoffices hx hsz
theorem zX(h:HF)(p:Policy)(ie:fd)(hp:vP h p ie)(hsm:smP p)(hk:Kinds h):jv prog 184 [.agg (xE p ie).toArray] h (λv h'=>∃(rr0:fd),v=.tuple #[.agg (xE ((ef p).1) rr0).toArray,I ((ef p).2)]/\vP h' ((ef p).1) rr0):=by
 refine cZ func184 U ntmps184 U λX hM hX=>?_
 have hs0:ef p=ef p:=rfl
 have hsc:=hsm.change
 have hsr:=hsm.rules
 refine sr (cz (λb1=>aT zc64 (λb2=>qO 4 U (aU 1 U hM (λh1 hle1 hb1=>aB (eL U U (aj (v:=I (attR (dE p))) call276 (zU h1 (.func (.func 277) #[] #[Q b1]) (dE p) (nu (args:=[]) (cap:=[Q b1]) call277 (wM h1 p ie ⟨b1,0,none⟩ (hp.mono hle1) (cL hb1) (by first|assumption|omega) (hk.mono hle1)))) U (qO 8 U (ae hs0 U (λc1 hs1=>?_) (λc1 hs2=>?_))))))))))
 .refine sr (cI 0 ty64 U U U (av (aL 0 ty64 U U U U U U (an ?_))))
  have hs3:ef p=((kN (⟨#[]⟩:ByteArray) ([]) ([]) ([]) (xG 0 0 0 (⟨#[]⟩:ByteArray) ([])) 0),(attR (dE p))):=hs1
  exact kX [.agg (jB [.string (⟨#[]⟩:ByteArray),.slice none 0 0,.slice none 0 0,.slice none 0 0,I 0,I 0,I 0,.string (⟨#[]⟩:ByteArray),.slice none 0 0,I 0]),I (attR (dE p))] func184 U ⟨⟨0,_,_,_,_,U,U,.inl ⟨ty64,U⟩⟩,U,trivial⟩ ⟨(fd.mk none 0 none 0 none 0 (de.mk none 0)),congrArg (λr:(Policy×Int)=>(.tuple #[.agg (xE r.1 (fd.mk none 0 none 0 none 0 (de.mk none 0))).toArray,I r.2]:Value)) hs3.symm,(by rw[hs3];exact(show vP h1 (kN (⟨#[]⟩:ByteArray) ([]) ([]) ([]) (xG 0 0 0 (⟨#[]⟩:ByteArray) ([])) 0) (fd.mk none 0 none 0 none 0 (de.mk none 0))from⟨qF,qF,qF,(show jF h1 (xG 0 0 0 (⟨#[]⟩:ByteArray) ([])) (de.mk none 0)from aAu qF)⟩))⟩
 refine qT 3 U (dq ty64 (cL hb1) U U (aL 0 ty64 U U U U U U (qL 4 [] U (cM 0 ty59 U U U U U U (qL 5 [] U (ju (j:=3) ty59 (cL hb1) U U (qL 3 [] U ?_)))))))
 refine lp2 p.Rules (λi w=>[(1,Q b1),(2,Q b2),(15,.slice ie.m8 p.Rules.length ie.m7),(16,I (p.Rules.length:Int)),(17,I (i:Int))]) (λw=>w.2.2.2.2) (λw=>[(b2,O [.string p.Name,.slice ie.i5 p.Kinds.length ie.iZ,.slice ie.gr p.Offices.length ie.gq,.slice w.2.1 w.1.length w.2.2.1,I p.Change.Kind,I p.Change.N,I p.Change.No,.string p.Change.Name,.slice ie.Change.mt p.Change.L.length ie.Change.mu,I p.Mode] 64)]++(w.2.2.2.1)) (λi w=>dC Rule.rp 79 w.2.2.2.2 w.1 w.2.1 w.2.2.1 w.2.2.2.1/\w.1.length<=0+i/\vM h1 w.2.2.2.2) (λs1 i w=>(ef.L1 p (ef.K1 p)) s1 i w.1) ([],none,0,[],h1) ((hp.Rules.mono aBz hle1).1.1) hs2 ⟨dC.nil,lo,lf⟩ ?_ ?_
 .rintro i1 ⟨nq,tb,s9,Ci,hh1⟩ ft hs4 ⟨yC,Gd,hl1⟩ e
  try dsimp only at yC Gd hl1
  refine qK 3 [] U (ju (j:=2) ty58 ((cL hb1).mono hl1) U U (qL 1 [] U (AO (j:=4) ty62 ((cL hb1).mono hl1) U U (aB (cT Jx (rI _ _ _ _ _ _ (hp.Offices.mono aBv (hle1.t hl1)) (hp.Change.mono (hle1.t hl1)) ob) U (λv3 h5 hle5 hp3=>?_))))))
  obtain⟨rr4,rfl,ok4⟩:=hp3
  let z2:Nat×Obj:=(b2,O [.string p.Name,.slice ie.i5 p.Kinds.length ie.iZ,.slice ie.gr p.Offices.length ie.gq,.slice tb nq.length s9,I ((ao p.Offices p.Change).Kind),I ((ao p.Offices p.Change).N),I ((ao p.Offices p.Change).No),.string ((ao p.Offices p.Change).Name),.slice rr4.mt ((ao p.Offices p.Change).L.length) rr4.mu,I p.Mode] 64)
  refine qL 1 [] U (cM 0 ty62 U U U U U U (qO 3 U (cI 0 ty64 U U U (aL 0 ty64 U U U U U U (gJ (L':=[z2]++(Ci)) U (an (eK aBz ([z2]) Ci ([]) ap hM (yC.mono aBz hle5) (λh6 hle6 sl2=>?_))))))))
  have hs5:ef p=((kN p.Name p.Kinds p.Offices nq (xG ((ao p.Offices p.Change).Kind) ((ao p.Offices p.Change).N) ((ao p.Offices p.Change).No) ((ao p.Offices p.Change).Name) ((ao p.Offices p.Change).L)) p.Mode),0):=hs4
  exact kX [.agg (xE (kN p.Name p.Kinds p.Offices nq (xG ((ao p.Offices p.Change).Kind) ((ao p.Offices p.Change).N) ((ao p.Offices p.Change).No) ((ao p.Offices p.Change).Name) ((ao p.Offices p.Change).L)) p.Mode) (fd.mk ie.i5 ie.iZ ie.gr ie.gq tb s9 (de.mk rr4.mt rr4.mu))).toArray,I 0] func184 U ⟨⟨0,_,_,_,_,U,U,.inl ⟨ty64,U⟩⟩,U,trivial⟩ ⟨(fd.mk ie.i5 ie.iZ ie.gr ie.gq tb s9 (de.mk rr4.mt rr4.mu)),congrArg (λr:(Policy×Int)=>(.tuple #[.agg (xE r.1 (fd.mk ie.i5 ie.iZ ie.gr ie.gq tb s9 (de.mk rr4.mt rr4.mu))).toArray,I r.2]:Value)) hs5.symm,(by rw[hs5];exact(show vP h6 (kN p.Name p.Kinds p.Offices nq (xG ((ao p.Offices p.Change).Kind) ((ao p.Offices p.Change).N) ((ao p.Offices p.Change).No) ((ao p.Offices p.Change).Name) ((ao p.Offices p.Change).L)) p.Mode) (fd.mk ie.i5 ie.iZ ie.gr ie.gq tb s9 (de.mk rr4.mt rr4.mu))from⟨(hp.Kinds.mono aBv (((hle1.t hl1).t hle5).t hle6)),(hp.Offices.mono aBv (((hle1.t hl1).t hle5).t hle6)),sl2,(show jF h6 (xG ((ao p.Offices p.Change).Kind) ((ao p.Offices p.Change).N) ((ao p.Offices p.Change).No) ((ao p.Offices p.Change).Name) ((ao p.Offices p.Change).L)) (de.mk rr4.mt rr4.mu)from aAu (ok4.list.mono aAq hle6))⟩))⟩
 rintro i1 ⟨nq,tb,s9,Ci,hh1⟩ y1 rz1 hd1 df aS dZ gy hs6 ⟨yC,Gd,hl1⟩ hx1 ag1 e
 try dsimp only at yC Gd hl1
 have hsy:=hsm.2.1 y1 (gp hd1)
 refine sr (tO df U (qO 9 U (aB (iR wL ty79 (hp.Rules.mono aBz (hle1.t hl1)).1 aS U U U (λ_ _ _ e=>e) (λq2 r2 A2 ok5=>?_)))))
 let z1:Nat×Obj:=(b2,O [.string p.Name,.slice ie.i5 p.Kinds.length ie.iZ,.slice ie.gr p.Offices.length ie.gq,.slice tb nq.length s9,I p.Change.Kind,I p.Change.N,I p.Change.No,.string p.Change.Name,.slice ie.Change.mt p.Change.L.length ie.Change.mu,I p.Mode] 64)
 refine dq ty79 A2 U U (aT zc79 (λb5=>gG (aL 0 ty79 U U U U U U (gJ (L':=[(b5,O (Rule.cells y1 r2) 79),z1]++(Ci)) U (qL 5 [] U (ju (j:=2) ty58 ((cL hb1).mono hl1) U U (qL 1 [] U (cI 0 ty62 U U U (aB (cT Jx (rI _ _ _ _ _ _ (hp.Offices.mono aBv (hle1.t hl1)) ok5.Expr ob) U (λv4 h7 hle7 hp4=>?_)))))))))))
 obtain⟨rr6,rfl,ok6⟩:=hp4
 refine qL 1 [] U (cM 0 ty3 U U U U U U (qL 1 [] U (cM 0 ty62 U U U U U U (qL 4 [1] U (cI 0 ty79 U U U (aB (bB (cells:=[.string y1.Kind,I (i1:Int),I y1.Think,I ((ao p.Offices y1.Expr).Kind),I ((ao p.Offices y1.Expr).N),I ((ao p.Offices y1.Expr).No),.string ((ao p.Offices y1.Expr).Name),.slice rr6.mt ((ao p.Offices y1.Expr).L.length) rr6.mu]) wL ty79 zc79 U U kr (λb6=>?_))))))))
 let z3:Nat×Obj:=(b6,O [.string y1.Kind,I (i1:Int),I y1.Think,I ((ao p.Offices y1.Expr).Kind),I ((ao p.Offices y1.Expr).N),I ((ao p.Offices y1.Expr).No),.string ((ao p.Offices y1.Expr).Name),.slice rr6.mt ((ao p.Offices y1.Expr).L.length) rr6.mu] 79)
 let z4:Nat×Obj:=(b5,O [.string y1.Kind,I (i1:Int),I y1.Think,I ((ao p.Offices y1.Expr).Kind),I ((ao p.Offices y1.Expr).N),I ((ao p.Offices y1.Expr).No),.string ((ao p.Offices y1.Expr).Name),.slice rr6.mt ((ao p.Offices y1.Expr).L.length) rr6.mu] 79)
 refine aB (dy Rule.em ([z3,z4,z1]) ([]) (λG=>[z3,z4,z1]++G) ap (λ_=>ap) wL ty79 zc79 U bytes79 (yC.mono aBz hle7) U U (eF 0 U (cE (R:=Rule.rp) (aBi y1.Kind (i1:Int) y1.Think (xG ((ao p.Offices y1.Expr).Kind) ((ao p.Offices y1.Expr).N) ((ao p.Offices y1.Expr).No) ((ao p.Offices y1.Expr).Name) ((ao p.Offices y1.Expr).L))) U ⟨(CJ.mk (de.mk rr6.mt rr6.mu)),U,(show Rule.ok h7 (aBi y1.Kind (i1:Int) y1.Think (xG ((ao p.Offices y1.Expr).Kind) ((ao p.Offices y1.Expr).N) ((ao p.Offices y1.Expr).No) ((ao p.Offices y1.Expr).Name) ((ao p.Offices y1.Expr).L))) (CJ.mk (de.mk rr6.mt rr6.mu))from⟨(show jF h7 (xG ((ao p.Offices y1.Expr).Kind) ((ao p.Offices y1.Expr).N) ((ao p.Offices y1.Expr).No) ((ao p.Offices y1.Expr).Name) ((ao p.Offices y1.Expr).L)) (de.mk rr6.mt rr6.mu)from aAu ok6.list)⟩)⟩)) lo lo (λob2 oc2 G2 gr2=>qL 1 [] U (cM 2 ty59 U U U U U U (qO 3 U (oi i1 U (qO 2 U (aX (L':=[(b2,O [.string p.Name,.slice ie.i5 p.Kinds.length ie.iZ,.slice ie.gr p.Offices.length ie.gq,.slice ob2 ((nq++[(aBi y1.Kind (i1:Int) y1.Think (xG ((ao p.Offices y1.Expr).Kind) ((ao p.Offices y1.Expr).N) ((ao p.Offices y1.Expr).No) ((ao p.Offices y1.Expr).Name) ((ao p.Offices y1.Expr).L)))]).length) oc2,I p.Change.Kind,I p.Change.N,I p.Change.No,.string p.Change.Name,.slice ie.Change.mt p.Change.L.length ie.Change.mu,I p.Mode] 64)]++G2) js ?_)))))))
 exact ag1 ((nq++[(aBi y1.Kind (i1:Int) y1.Think (xG ((ao p.Offices y1.Expr).Kind) ((ao p.Offices y1.Expr).N) ((ao p.Offices y1.Expr).No) ((ao p.Offices y1.Expr).Name) ((ao p.Offices y1.Expr).L)))]),ob2,oc2,G2,h7) hs6 ⟨gr2,lo,(hl1.t hle7)⟩
theorem qZ(h:HF)(offices:List ByteArray)(dI:Option Addr)(dH:Nat)(x:Expr)(gv:de)(hoffices:SlC aAQ h dI dH offices)(hx:jF h x gv)(hsz:x.dep<=1500000):Ret prog 185 [.slice dI offices.length dH,.agg (zC x gv).toArray] h (.bool (bR offices x)):=by
 refine cZ Oy U ntmps185 U λX hM hX=>?_
 have hs0:bR offices x=bR offices x:=rfl
 refine sr (cz (λb1=>cz (λb2=>aT zc4 (λb3=>qO 4 U (cI 1 ty62 U U U (aB (cT Mt (nj _ _ _ 1 hx ob) U (λv1 h1 hle1 hp1=>?_))))))))
 obtain⟨_,rfl,mo1⟩:=hp1
 refine qO 2 U (ew ?_)
 let z1:Nat×Obj:=(b1,O [.slice dI offices.length dH] 58)
 let z2:Nat×Obj:=(b2,O (zC x gv) 62)
 refine cv (L':=([(b3,O [.bool false] 4),z2,z1])++markB []) ap ?_
 refine kp (it:=v1) (xs:=(bu x 1)) (ι:=HF) [] (λi=>i) (λi=>[(b3,O [.bool false] 4),z2,z1]) (λs i=>bR offices x=((bR.L1 offices (bR.K1)) s)/\vM h1 i) (λi=>bR offices x=false/\vM h1 i) (λ_=>False) 0 (λ_ _ _=>False) h1 Oy U mo1 U ov (λ_ _ _ _ _ hq=>hq) U (show[(b3,O [.bool false] 4),z2,z1]=_ from U) ⟨hs0,lf⟩ ?_ ?_ ?_ ?_ ?_
 .rintro l1 dm1 lp1 y1 rz1 vs1 hh1 hr1 X hFR1 ⟨hs1,hl1⟩ hl01 hlr1 hv1 hX hXM hlp1 nx1 rt1 ex1 pn1
  try dsimp only at hl1 hlr1
  obtain⟨rr1_0,rfl,ok1_0⟩:=hv1
  let z3:Nat×Obj:=(dm1,.deferred (some []))
  refine cv (L':=[(l1,.loop lp1),z3,(b3,O [.bool false] 4),z2,z1]++(markB [])) ap (bE (aT zc327 (λb5=>aL 0 ty327 U U U U U U (aJ (kc 1 U hlp1 (qK 9 [] U (cI 0 ty62 U U U (aj call283 (oh _ _ _ ok1_0.x) U (aJ (ae hs1 U (λc4 hs2=>?_) (λc4 hs3=>?_)))))))))))
  .refine qK 5 [5,0] U (aj OB (lF _ _ _ _ y1.x.Name (hoffices.mono aBv ((hle1.t hl1).t hlr1))) U (qL 10 [0] U (ae hs2 U (λc5 hs4=>?_) (λc5 hs5=>?_))))
   .exact sr (cM 3 ty4 U U U U U U (aJ (aX (L':=[(l1,.loop { lp1 with state:=.busy }),z3,(b3,O [.bool false] 4),z2,z1]++(markB [])) js (cv (L':=rdH l1 dm1 lp1 (([(b3,O [.bool false] 4),z2,z1])++markB [])) ap (rt1 hr1 _ _ _ ⟨hs4,(hl1.t hlr1)⟩ lf)))))
   exact aI (fe (aX (L':=[(l1,.loop { lp1 with state:=.busy }),z3,(b3,O [.bool false] 4),z2,z1]++(markB [])) js (cv (L':=rdH l1 dm1 lp1 (([(b3,O [.bool false] 4),z2,z1])++markB [])) ap (nx1 hr1 _ _ ⟨hs5,(hl1.t hlr1)⟩ lf))))
  refine qK 9 [0] U (ae hs3 U (λc6 hs6=>?_) (λc6 hs7=>?_))
  .exact sr (cM 3 ty4 U U U U U U (aJ (aX (L':=[(l1,.loop { lp1 with state:=.busy }),z3,(b3,O [.bool false] 4),z2,z1]++(markB [])) js (cv (L':=rdH l1 dm1 lp1 (([(b3,O [.bool false] 4),z2,z1])++markB [])) ap (rt1 hr1 _ _ _ ⟨hs6,(hl1.t hlr1)⟩ lf)))))
  exact aI (fe (aX (L':=[(l1,.loop { lp1 with state:=.busy }),z3,(b3,O [.bool false] 4),z2,z1]++(markB [])) js (cv (L':=rdH l1 dm1 lp1 (([(b3,O [.bool false] 4),z2,z1])++markB [])) ap (nx1 hr1 _ _ ⟨hs7,(hl1.t hlr1)⟩ lf))))
 .rintro dm1 hh1 hn1 ⟨hs8,hl1⟩ hln1 hl01
  try dsimp only at hl1 hln1
  refine cv (L':=[(b3,O [.bool false] 4),z2,z1]++(markB (dm1::[]))) ap (qT 3 U (cM 0 ty4 U U U U U U (aJ ?_)))
  have hs9:bR offices x=true:=hs8
  exact cv (L':=([(b3,O [.bool true] 4),z2,z1])++markB (dm1::[])) ap (sD (dm1::[]) [.bool true] Oy U hX ⟨⟨0,_,_,_,_,U,U,.inr ⟨_,ty4,U⟩⟩,trivial⟩ (cs hs9))
 .rintro dm1 hh1 hn1 ⟨hs10,hl1⟩ hln1 hl01
  try dsimp only at hl1 hln1
  refine cv (L':=[(b3,O [.bool false] 4),z2,z1]++(markB (dm1::[]))) ap ?_
  have hs11:bR offices x=false:=hs10
  exact cv (L':=([(b3,O [.bool false] 4),z2,z1])++markB (dm1::[])) ap (sD (dm1::[]) [.bool false] Oy U hX ⟨⟨0,_,_,_,_,U,U,.inr ⟨_,ty4,U⟩⟩,trivial⟩ (cs hs11))
 .exact xf
 exact xf
theorem tR(h:HF)(p:Policy)(ie:fd)(hp:vP h p ie)(hsm:smP p)(hk:Kinds h):Ret prog 94 [.agg (xE p ie).toArray] h (I (dk p)):=by
 refine sT func94 U ntmps94 U λX hM hX hF=>?_
 have hs0:dk p=dk p:=rfl
 have hsc:=hsm.change
 refine sr (cz (λb1=>qO 5 U (cI 0 ty64 U U U (aB (cT call184 (zX _ _ _ hp ob hk) U (λv1 h1 hle1 hp1=>?_))))))
 obtain⟨rr1,rfl,ok1⟩:=hp1
 refine qO 10 U (ae hs0 U (λc1 hs1=>?_) (λc1 hs2=>?_))
 .exact sr (qO 3 U (nretP [I ((ef p).2)] (ci hs1)))
 refine qK 9 [0] U ?_
 refine lp0 p.Rules (λi=>[(1,Q b1),(14,.slice ie.m8 p.Rules.length ie.m7),(15,I (p.Rules.length:Int)),(16,I (i:Int))]) ([(b1,O (xE p ie) 64)]) (λs1 i=>(dk.L1 p (dk.K1 p)) s1 i) ((hp.Rules.mono aBz hle1).1.1) hs2 ?_ ?_
 .rintro i1 ft hs4 e
  refine qK 6 [0] U (cI 0 ty62 U U U (aj call185 (qZ _ _ _ _ _ _ (hp.Offices.mono aBv hle1) (hp.Change.mono hle1) ob) U (qO 2 U (ae hs4 U (λc2 hs5=>?_) (λc2 hs6=>?_)))))
  .exact sr (an (nretP [I 200] (ci hs5)))
  exact aI (qT 4 U (nretP [I 0] (ci hs6)))
 rintro i1 y1 rz1 hd1 df aS dZ gy hs9 hx1 ag1 e
 have hsy:=hsm.2.1 y1 (gp hd1)
 refine sr (tO df U (qO 9 U (aB (iR wL ty79 (hp.Rules.mono aBz hle1).1 aS U U U (λ_ _ _ e=>e) (λq2 r2 A2 ok3=>dq ty79 A2 U U (aT zc79 (λb3=>gG (aL 0 ty79 U U U U U U (qL 8 [0] U (ce 7 [25,26,27,28,29,30,31,32] 25 32 (!(bR p.Offices y1.Expr)) U (λc3 hk1=>?_) (λe=>?_)))))))))))
 .exact qL 3 [1] U (cI 0 ty62 U U U (aj call185 (qZ _ _ _ _ _ _ (hp.Offices.mono aBv hle1) ok3.Expr ob) U (qO 2 U (hk1 _ U))))
 refine aJ (ae hs9 U (λc4 hs10=>?_) (λc4 hs11=>?_))
 .exact sr (an (nretP [I 200] (ci hs10)))
 exact aI (qT 2 U (oi i1 U (qO 2 U (aX (L':=[(b1,O (xE p ie) 64)]) js (ag1 hs11)))))
theorem re(h:HF)(l:List Version)(eu:Option Addr)(et:Nat)(hl:SlC Version.rp h eu et l)(hsm:smV l)(hk:Kinds h):Ret prog 69 [.slice eu l.length et] h (I (bw l)):=by
 refine sT func69 U ntmps69 U λX hM hX hF=>?_
 have hs0:bw l=bw l:=rfl
 have hsl:=hsm.len
 refine qK 11 [] U (ae hs0 U (λc1 hs1=>?_) (λc1 hs2=>?_))
 .have c1p:=of_decide_eq_true c1
  exact sr (an (nretP [I 2] (ci hs1)))
 have c1p:=of_decide_eq_false c1
 refine qK 12 [] U ?_
 refine lp1 l (λi w=>[(3,I w),(9,.slice eu l.length et),(10,I (l.length:Int)),(11,I (i:Int))]) ([]) (λs1 i w=>(bw.L1 (bw.K1)) s1 w) (-1) hl.1.1 hs2 ?_ ?_
 .rintro i1 iQ ft hs4 e
  exact sr (an (nretP [I 0] (ci hs4)))
 rintro i1 iQ y1 rz1 hd1 df aS dZ gy hs6 hx1 ag1 e
 have hsy:=hsm.2 y1 (gp hd1)
 refine sr (tO df U (qO 8 U (aB (iR wK ty105 hl.1 aS U U U (λ_ _ _ e=>e) (λq2 r2 A2 ok2=>dq ty105 A2 U U (aT zc105 (λb2=>aL 0 ty105 U U U U U U (qL 8 [0] U (aj Bs (hZ h y1.No (vC .i64 (iQ+1)) 1048576) U (qO 2 U (ce 5 [21,22,23,24,25,26] 21 26 (!(aN y1.At 0 1099511627775)) U (λc2 hk1=>?_) (λe=>?_))))))))))))
 .exact qL 2 [0] U (aj Bs (hZ h y1.At 0 1099511627775) U (qO 2 U (hk1 _ U)))
 refine av (ce 5 [27,28,29,30,31,32] 27 32 (!(aN y1.Known 0 1099511627775)) U (λc3 hk2=>?_) (λe=>?_))
 .exact qL 2 [0] U (aj Bs (hZ h y1.Known 0 1099511627775) U (qO 2 U (hk2 _ U)))
 refine av (ce 5 [33,34,35,36,37,38] 33 38 ((dk y1.Policy) != 0) U (λc4 hk3=>?_) (λe=>?_))
 .exact qL 1 [] U (cI 0 ty64 U U U (aj call94 (tR _ _ _ ok2.Policy ob hk) U (qO 2 U (hk3 _ U))))
 refine aJ (ae hs6 U (λc5 hs7=>?_) (λc5 hs8=>?_))
 .exact sr (an (nretP [I 200] (ci hs7)))
 exact qK 8 [0] U (oi i1 U (qO 2 U (aX (L':=[]) js (ag1 y1.No hs8))))
theorem pX(h:HF)(l:List Document)(eu:Option Addr)(et:Nat)(hl:SlC xS h eu et l):jv prog 150 [.slice eu l.length et] h (λv h'=>∃(rr0:n8),v=.agg (hY.cells (aA l) rr0).toArray/\hY.ok h' (aA l) rr0):=by
 refine cZ func150 U ntmps150 U λX hM hX=>?_
 have hs0:aA l=aA l:=rfl
 refine sr (aT zc228 (λb1=>qO 4 U (aB (oB (λb2=>aB (fV (cells:=[.slice eu l.length et,.map (some b2)]) (places:=[(0,1),(1,1)]) underlying228 zc228 kr kr (aT zc228 (λb3=>aL 0 ty228 U U U U U U (qL 8 [] U ?_)))))))))
 let z1:Nat×Obj:=(b3,O [.slice eu l.length et,.map (some b2)] 228)
 refine lp2 l (λi w=>[(2,Q b1),(3,Q b3),(9,.slice eu l.length et),(10,I (l.length:Int)),(11,I (i:Int))]) (λ_=>h) (λw=>[z1,(b2,w.2),(b1,O [.slice none 0 0,.map none] 228)]) (λi w=>j8 (kC .i64) wg h w.2 w.1/\w.1.length<=0+i) (λs1 i w=>(aA.L1 (aA.K1 l)) s1 i w.1) ([],.map #[] 0) hl.1.1 hs0 ⟨(j8.nil (enc:=(kC .i64)) (V:=wg) (h:=h)),lc⟩ ?_ ?_
 .rintro i1 ⟨bV,ec⟩ ft hs1 ⟨gK,Ge⟩ e
  refine sr (cI 0 ty228 U U U (aL 2 ty228 U U U U U U (aJ (eW 1 U hM (λh2 hle2 hb2=>?_)))))
  have mc2:tA (kC .i64) wg h2 b2 bV:=⟨_,hb2,gK.mono wg.mono hle2⟩
  have hs2:aA l=(hY.mk l bV):=hs1
  exact kX [.agg (jB [.slice eu l.length et,.map (some b2)])] func150 U ⟨⟨1,_,_,_,_,U,U,.inl ⟨ty228,U⟩⟩,trivial⟩ ⟨(n8.mk eu et b2),congrArg (λr:hY=>(.agg (hY.cells r (n8.mk eu et b2)).toArray:Value)) hs2.symm,(by rw[hs2];exact(show hY.ok h2 (hY.mk l bV) (n8.mk eu et b2)from⟨(hl.mono vH hle2),mc2⟩))⟩
 rintro i1 ⟨bV,ec⟩ y1 rz1 hd1 df aS dZ gy hs3 ⟨gK,Ge⟩ hx1 ag1 e
 exact sr (tO df U (qO 9 U (aB (iR oq ty51 hl.1 aS U U U (λ_ _ _ e=>e) (λq2 r2 A2 ok2=>dq ty51 A2 U U (aT zc51 (λb5=>gG (aL 0 ty51 U U U U U U (qL 7 [1,0] U (aB (lg 2 (k:=y1.No) (x:=(i1:Int)) Br (fZ oe) U gK U U U (λmo2 hm2=>qO 3 U (oi i1 U (qO 2 U (aX (L':=[z1,(b2,mo2),(b1,O [.slice none 0 0,.map none] 228)]) js (ag1 ((mput bV y1.No (i1:Int)),mo2) hs3 ⟨hm2,(by have:=m9 bV y1.No (i1:Int);first|omega|(simp only[vB,xA]at *;omega))⟩))))))))))))))))
theorem ns(h:HF)(t:Int)  : Ret prog 125 [I t] h (.bool (fS t)):=by
 refine sT func125 U ntmps125 U λX hM hX hF=>?_
 have hs0:fS t=fS t:=rfl
 refine qT 9 U (bA 3 [5,6,7,8] 5 8 (decide (t<1099511627776)) U (λc1 hk1=>?_) (λe=>?_))
 .exact av (qO 2 U (hk1 _ U))
 exact an (nretP [.bool (decide (0<=t)&&decide (t<1099511627776))] (cs hs0))
theorem pH(h:HF)(l:List Int)(eu:Option Addr)(et:Nat)(limit:Int)(hl:SlC kB h eu et l):Ret prog 238 [.slice eu l.length et,I limit] h (.bool (dJ l limit)):=by
 refine sT func238 U ntmps238 U λX hM hX hF=>?_
 have hs0:dJ l limit=dJ l limit:=rfl
 refine qK 15 [] U ?_
 refine lp1 l (λi w=>[(0,.slice eu l.length et),(1,I limit),(5,I w),(8,.slice eu l.length et),(9,I (l.length:Int)),(10,I (i:Int))]) ([]) (λs1 i w=>(dJ.L1 limit (dJ.K1 l)) s1 w) (-1) hl.1.1 hs0 ?_ ?_
 .rintro i1 fa ft hs1 e
  exact qK 7 [] U (nretP [.bool (decide ((l.length:Int)<=16))] (cs hs1))
 rintro i1 fa y1 rz1 hd1 df aS dZ gy hs3 hx1 ag1 e
 refine sr (tO df U (qO 8 U (aB (iF (λy=>[I y]) ej ty3 hl.1 aS U U U (λq2 A2=>dB ty3 A2 U (qO 9 U (ce 4 [17,18,19,20,21] 17 21 (decide (limit<=y1)) U (λc1 hk1=>?_) (λe=>?_))))))))
 .exact av (qO 3 U (hk1 _ U))
 refine aJ (ae hs3 U (λc2 hs4=>?_) (λc2 hs5=>?_))
 .exact sr (an (nretP [.bool false] (cs hs4)))
 exact aI (qT 6 U (oi i1 U (qO 2 U (ag1 y1 hs5))))
theorem Bf(h:HF)(d:Document)(KX:ls)(hd:aAI h d KX):Ret prog 151 [.agg (jT d KX).toArray] h (.bool (gT d)):=by
 refine sT func151 U ntmps151 U λX hM hX hF=>?_
 have hs0:gT d=gT d:=rfl
 refine sr (cz (λb1=>qL 8 [0] U (bA 4 [7,8,9,10,11] 7 11 (decide (d.No<4096)) U (λc1 hk1=>?_) (λe=>?_))))
 .exact qL 4 [0] U (hk1 _ U)
 refine av (bA 4 [12,13,14,15,16] 12 16 (fS d.At) U (λc2 hk2=>?_) (λe=>?_))
 .exact qL 2 [0] U (aj Ox (ns h d.At) U (eU U (hk2 _ U)))
 refine av (bA 4 [17,18,19,20,21] 17 21 (decide (0<=d.Kind)) U (λc3 hk3=>?_) (λe=>?_))
 .exact qL 4 [0] U (hk3 _ U)
 refine av (bA 4 [22,23,24,25,26] 22 26 (decide (d.Kind<16)) U (λc4 hk4=>?_) (λe=>?_))
 .exact qL 4 [0] U (hk4 _ U)
 refine av (bA 4 [27,28,29,30,31] 27 31 (decide (0<=d.Value)) U (λc5 hk5=>?_) (λe=>?_))
 .exact qL 4 [0] U (hk5 _ U)
 refine av (bA 4 [32,33,34,35,36] 32 36 (decide (d.Value<=1099511627776)) U (λc6 hk6=>?_) (λe=>?_))
 .exact qL 4 [0] U (hk6 _ U)
 refine qO 6 U (bA 4 [38,39,40,41,42] 38 42 (decide (0<=d.From)) U (λc7 hk7=>?_) (λe=>?_))
 .exact qL 4 [0] U (hk7 _ U)
 refine av (bA 6 [43,44,45,46,47,48,49] 43 49 (decide (d.From<d.Until)) U (λc8 hk8=>?_) (λe=>?_))
 .exact qL 6 [0,0] U (hk8 _ U)
 refine av (bA 4 [50,51,52,53,54] 50 54 (decide (d.Until<=1099511627776)) U (λc9 hk9=>?_) (λe=>?_))
 .exact qL 4 [0] U (hk9 _ U)
 refine av (bA 4 [55,56,57,58,59] 55 59 (dJ d.Parties 1048577) U (λc10 hk10=>?_) (λe=>?_))
 .exact qL 2 [0] U (aj call238 (pH _ _ _ _ 1048577 hd.Parties) U (eU U (hk10 _ U)))
 refine av (bA 6 [60,61,62,63,64,65,66] 60 66 (dJ d.Revokes d.No) U (λc11 hk11=>?_) (λe=>?_))
 .exact qL 4 [0,0] U (aj call238 (pH _ _ _ _ d.No hd.Revokes) U (eU U (hk11 _ U)))
 refine av (bA 6 [67,68,69,70,71,72,73] 67 73 (dJ d.Needs d.No) U (λc12 hk12=>?_) (λe=>?_))
 .exact qL 4 [0,0] U (aj call238 (pH _ _ _ _ d.No hd.Needs) U (eU U (hk12 _ U)))
 exact an (nretP [.bool ((((((((((((decide (0<=d.No)&&decide (d.No<4096))&&(fS d.At))&&decide (0<=d.Kind))&&decide (d.Kind<16))&&decide (0<=d.Value))&&decide (d.Value<=1099511627776))&&decide (0<=d.From))&&decide (d.From<d.Until))&&decide (d.Until<=1099511627776))&&(dJ d.Parties 1048577))&&(dJ d.Revokes d.No))&&(dJ d.Needs d.No))] (cs hs0))
theorem ox(h:HF)(no:Int)(v0:hY)(N8:n8)(v0_q:Addr)(hv0:hY.ok h v0 N8)(av0:At h v0_q (hY.cells v0 N8)):Ret prog 239 [I no,.pointer (some v0_q)] h (.bool (eG no v0)):=by
 refine sT func239 U ntmps239 U λX hM hX hF=>?_
 have hs0:eG no v0=eG no v0:=rfl
 refine qK 7 [] U (ju (j:=1) ty190 av0 U U (av ?_))
 obtain⟨o1,hb1,hm1⟩:=hv0.at_
 refine aB (tE (k:=no) Br (fZ oe) hb1 hm1 (fw zv3) (show wg _ (I 0) 0 from U) U U (λv1 hv1=>?_))
 obtain rfl:=hv1
 exact av (qO 11 U (nretP [.bool (!(mhas v0.at_ no))] (cs hs0)))
theorem pG(h:HF)(s:hY)(R4:n8)(d:Document)(KX:ls)(hs:hY.ok h s R4)(hd:aAI h d KX):Ret prog 152 [.agg (hY.cells s R4).toArray,.agg (jT d KX).toArray] h (.bool (eO s d)):=by
 refine sT func152 U ntmps152 U λX hM hX hF=>?_
 have hs0:eO s d=eO s d:=rfl
 refine sr (cz (λb1=>cz (λb2=>qO 4 U (aU 1 U hM (λh1 hle1 hb1=>aB (eL U U (qL 7 [0] U (aj Jy (im _ _ _ _ (λdl=>eG dl s) (.func (.func 239) #[] #[Q b1]) (hd.Revokes.mono jH hle1) (λh' dl hle=>gM call239 (ox h' dl s R4 ⟨b1,0,none⟩  ((hs.mono hle1).mono hle) ((cL hb1).mono hle)))) U (qO 2 U (bA 6 [12,13,14,15,16,17,18] 12 18 (!(cB d.Needs (λdl=>eG dl s))) U (λc1 hk1=>?_) (λe=>?_)))))))))))
 .exact qL 3 [0] U (aj Jy (im _ _ _ _ (λdl=>eG dl s) (.func (.func 239) #[] #[Q b1]) (hd.Needs.mono jH hle1) (λh' dl hle=>gM call239 (ox h' dl s R4 ⟨b1,0,none⟩  ((hs.mono hle1).mono hle) ((cL hb1).mono hle)))) U (qO 2 U (hk1 _ U)))
 exact an (nretP [.bool ((!(cB d.Revokes (λdl=>eG dl s)))&&(!(cB d.Needs (λdl=>eG dl s))))] (cs hs0))
theorem oO(h:HF)(l:List Document)(eu:Option Addr)(et:Nat)(hl:SlC xS h eu et l):Ret prog 70 [.slice eu l.length et] h (I (aV l)):=by
 refine sT func70 U ntmps70 U λX hM hX hF=>?_
 have hs0:aV l=aV l:=rfl
 refine qK 11 [] U (ae hs0 U (λc1 hs1=>?_) (λc1 hs2=>?_))
 .have c1p:=of_decide_eq_true c1
  exact sr (an (nretP [I 2] (ci hs1)))
 have c1p:=of_decide_eq_false c1
 refine qT 4 U (aB (cT call150 (pX _ _ _ _ hl) U (λv1 h1 hle1 hp1=>?_)))
 obtain⟨rr1,rfl,ok1⟩:=hp1
 refine aT zc228 (λb1=>aL 0 ty228 U U U U U U (qL 8 [] U ?_))
 let z1:Nat×Obj:=(b1,O (hY.cells (aA l) rr1) 228)
 refine lp0 l (λi=>[(0,.slice eu l.length et),(3,Q b1),(11,.slice eu l.length et),(12,I (l.length:Int)),(13,I (i:Int))]) ([z1]) (λs1 i=>(aV.L1 l (aV.K1)) s1 i) ((hl.mono vH hle1).1.1) hs2 ?_ ?_
 .rintro i1 ft hs4 e
  exact sr (an (nretP [I 0] (ci hs4)))
 rintro i1 y1 rz1 hd1 df aS dZ gy hs6 hx1 ag1 e
 refine sr (tO df U (qO 9 U (aB (iR oq ty51 (hl.mono vH hle1).1 aS U U U (λ_ _ _ e=>e) (λq3 r3 A3 ok4=>dq ty51 A3 U U (aT zc51 (λb3=>gG (aL 0 ty51 U U U U U U (qO 2 U ?_)))))))))
 refine oE [(0,.slice eu l.length et),(3,Q b1),(11,.slice eu l.length et),(12,I (l.length:Int)),(13,I (i1:Int)),(41,.bool (((!(gT y1))||(decide (0<(i1:Int))&&decide (y1.No<=(nthI l ((i1:Int)-1)).No)))||(!(eO (aA l) y1))))] (λe=>?_) (λhk1=>?_)
 rotate_left
 .let z2:Nat×Obj:=(b3,O (jT y1 r3) 51)
  refine eT ([z2,z1]) mixed kr jn (λeo _=>?_)
  refine tf 0 U U (λ_ _ hj=>kg ty51 U (hj.nth (i:=0) U) U) (tn 1 U (fo call151 (Bf _ _ _ ok4) U (⟨jn,qA [2,3] U ?_⟩)))
  refine dx 21 U (λc2=>?_) (λc2=>?_)
  .exact tk 4 U U (qR 5 19 U (aQ kr (hk1 _ ⟨U,U,U,U,U,(cb (show true=(((!(gT y1))||(decide (0<(i1:Int))&&decide (y1.No<=(nthI l ((i1:Int)-1)).No)))||(!(eO (aA l) y1)))from by rw[c2]<;>rfl)),trivial⟩)))
  refine qR 4 3 U ?_
  refine dx 24 U (λc3=>?_) (λc3=>?_)
  .have c3p:=of_decide_eq_true c3
   refine qB [7] U (tf 8 U U (rj 0 ty3 U U U) (qA [9,10] U (tf 11 U U (λ_ _ _=>nE (v':=I ((i1:Int)-1)) U (lk ob)) ?_)))
   have ho2:0<=(((i1:Int)-1):Int)/\(((i1:Int)-1):Int)<((l).length:Int):=ob
   refine j9 12 eo jn oq ty51 (hl.mono vH hle1).1 ho2 (dh ho2) U U U U kr (λq4 cs4 A4 ln4 rr5=>?_)
   obtain⟨r4,rfl,ok5⟩:=rr5
   refine qB [13] U (tf 14 U U (rh ty3 A4 U) (qR 15 4 U ?_))
   refine dx 36 U (λc4=>?_) (λc4=>?_)
   .have c4p:=of_decide_eq_true c4
    exact tk 19 U U (qR 20 4 U (aQ kr (hk1 _ ⟨U,U,U,U,U,(cb (show true=(((!(gT y1))||(decide (0<(i1:Int))&&decide (y1.No<=(nthI l ((i1:Int)-1)).No)))||(!(eO (aA l) y1)))from by rw[c2,c3,c4]<;>rfl)),trivial⟩)))
   have c4p:=of_decide_eq_false c4
   exact tf 19 U U (λ_ _ hj=>kg ty228 U (hj.nth (i:=1) U) U) (tf 20 U U (λ_ _ hj=>kg ty51 U (hj.nth (i:=0) U) U) (tn 21 U (fo call152 (pG _ _ _ _ _ ok1 ok4) U (⟨jn,qA [22,23] U (aQ kr (hk1 _ ⟨U,U,U,U,U,(cb (show(!(eO (aA l) y1))=(((!(gT y1))||(decide (0<(i1:Int))&&decide (y1.No<=(nthI l ((i1:Int)-1)).No)))||(!(eO (aA l) y1)))from by rw[c2,c3,c4]<;>rfl)),trivial⟩))⟩))))
  have c3p:=of_decide_eq_false c3
  exact tk 7 U U (qR 8 11 U (tf 19 U U (λ_ _ hj=>kg ty228 U (hj.nth (i:=1) U) U) (tf 20 U U (λ_ _ hj=>kg ty51 U (hj.nth (i:=0) U) U) (tn 21 U (fo call152 (pG _ _ _ _ _ ok1 ok4) U (⟨jn,qA [22,23] U (aQ kr (hk1 _ ⟨U,U,U,U,U,(cb (show(!(eO (aA l) y1))=(((!(gT y1))||(decide (0<(i1:Int))&&decide (y1.No<=(nthI l ((i1:Int)-1)).No)))||(!(eO (aA l) y1)))from by rw[c2,c3]<;>rfl)),trivial⟩))⟩))))))
 refine ae hs6 U (λc5 hs7=>?_) (λc5 hs8=>?_)
 .exact sr (an (nretP [I 170] (ci hs7)))
 exact aI (qT 2 U (oi i1 U (qO 2 U (aX (L':=[z1]) js (ag1 hs8)))))
theorem w6(h:HF)(er:Int)(v0:Int)(v0_q:Addr)(av0:At h v0_q [I v0]):Ret prog 196 [I er,.pointer (some v0_q)] h (.bool (ic er v0)):=by
 refine sT func196 U ntmps196 U λX hM hX hF=>?_
 have hs0:ic er v0=ic er v0:=rfl
 refine qT 9 U (ce 4 [6,7,8,9,10] 6 10 (decide (v0<er)) U (λc1 hk1=>?_) (λe=>?_))
 .exact av (dB ty3 av0 U (qO 2 U (hk1 _ U)))
 exact an (nretP [.bool (decide (er<0)||decide (v0<er))] (cs hs0))
theorem jm(h:HF)(most:Int)(l:List Int)(eu:Option Addr)(et:Nat)(hl:SlC kB h eu et l):Ret prog 103 [I most,.slice eu l.length et] h (.bool (dv most l)):=by
 refine sT func103 U ntmps103 U λX hM hX hF=>?_
 have hs0:dv most l=dv most l:=rfl
 exact sr (cz (λb1=>qO 5 U (aU 0 U hM (λh1 hle1 hb1=>aB (eL U U (aj Jy (im _ _ _ _ (λdl=>ic dl most) (.func (.func 196) #[] #[Q b1]) (hl.mono jH hle1) (λh' dl hle=>gM call196 (w6 h' dl most ⟨b1,0,none⟩  ((cL hb1).mono hle)))) U (qO 3 U (nretP [.bool (!(cB l (λdl=>ic dl most)))] (cs hs0)))))))))
theorem Bj(h:HF)(x:Approval)  : Ret prog 119 [.agg (xC x).toArray] h (.bool (jb x)):=by
 refine sT func119 U ntmps119 U λX hM hX hF=>?_
 have hs0:jb x=jb x:=rfl
 refine sr (cz (λb1=>qL 6 [0] U (aB (bB (cells:=[I x.No]) ej ty3 zc3 U U kr (λb2=>aU 0 U hM (λh1 hle1 hb1=>?_))))))
 have sl1:SlC kB h1 (some ⟨b2,0,none⟩) 1 ([x.No]):=bI.slB0 (T:=3) (fz:=(0,0)) ((show bI kB h [I x.No] ([x.No])from⟨[I x.No],[],rfl,rfl,rfl,rfl⟩).mono jH hle1) hb1
 refine aj HE (jm _ 1048576 _ _ _ sl1) U (av (bA 7 [7,8,9,10,11,12,13,14] 7 14 (dv 1099511627775 ([x.At,x.Known])) U (λc1 hk1=>?_) (λe=>?_)))
 .refine qL 4 [0,0] U (aB (bB (cells:=[I x.At,I x.Known]) ej ty3 zc3 U U kr (λb3=>aU 0 U hM (λh2 hle2 hb2=>?_))))
  have sl2:SlC kB h2 (some ⟨b3,0,none⟩) 2 ([x.At,x.Known]):=bI.slB0 (T:=3) (fz:=(0,0)) ((show bI kB h1 [I x.At,I x.Known] ([x.At,x.Known])from⟨[I x.At],[I x.Known],rfl,rfl,rfl,⟨[I x.Known],[],rfl,rfl,rfl,rfl⟩⟩).mono jH hle2) hb2
  exact aj HE (jm _ 1099511627775 _ _ _ sl2) U (eU U (kZ (h:=h1) hle2 hX hle1 (hk1 _ U)))
 refine av (bA 5 [15,16,17,18,19,20] 15 20 (dv 4095 ([x.Doc])) U (λc2 hk2=>?_) (λe=>?_))
 .refine qL 2 [0] U (aB (bB (cells:=[I x.Doc]) ej ty3 zc3 U U kr (λb4=>aU 0 U hM (λh3 hle3 hb3=>?_))))
  have sl3:SlC kB h3 (some ⟨b4,0,none⟩) 1 ([x.Doc]):=bI.slB0 (T:=3) (fz:=(0,0)) ((show bI kB h1 [I x.Doc] ([x.Doc])from⟨[I x.Doc],[],rfl,rfl,rfl,rfl⟩).mono jH hle3) hb3
  exact aj HE (jm _ 4095 _ _ _ sl3) U (eU U (kZ (h:=h1) hle3 hX hle1 (hk2 _ U)))
 refine av (bA 7 [21,22,23,24,25,26,27,28] 21 28 (dv 63 ([x.By,x.For])) U (λc3 hk3=>?_) (λe=>?_))
 .refine qL 4 [0,0] U (aB (bB (cells:=[I x.By,I x.For]) ej ty3 zc3 U U kr (λb5=>aU 0 U hM (λh4 hle4 hb4=>?_))))
  have sl4:SlC kB h4 (some ⟨b5,0,none⟩) 2 ([x.By,x.For]):=bI.slB0 (T:=3) (fz:=(0,0)) ((show bI kB h1 [I x.By,I x.For] ([x.By,x.For])from⟨[I x.By],[I x.For],rfl,rfl,rfl,⟨[I x.For],[],rfl,rfl,rfl,rfl⟩⟩).mono jH hle4) hb4
  exact aj HE (jm _ 63 _ _ _ sl4) U (eU U (kZ (h:=h1) hle4 hX hle1 (hk3 _ U)))
 refine av (bA 5 [29,30,31,32,33,34] 29 34 (dv 31 ([x.Office])) U (λc4 hk4=>?_) (λe=>?_))
 .refine qL 2 [0] U (aB (bB (cells:=[I x.Office]) ej ty3 zc3 U U kr (λb6=>aU 0 U hM (λh5 hle5 hb5=>?_))))
  have sl5:SlC kB h5 (some ⟨b6,0,none⟩) 1 ([x.Office]):=bI.slB0 (T:=3) (fz:=(0,0)) ((show bI kB h1 [I x.Office] ([x.Office])from⟨[I x.Office],[],rfl,rfl,rfl,rfl⟩).mono jH hle5) hb5
  exact aj HE (jm _ 31 _ _ _ sl5) U (eU U (kZ (h:=h1) hle5 hX hle1 (hk4 _ U)))
 exact an (nretP [.bool (((((dv 1048576 ([x.No]))&&(dv 1099511627775 ([x.At,x.Known])))&&(dv 4095 ([x.Doc])))&&(dv 63 ([x.By,x.For])))&&(dv 31 ([x.Office])))] (cs hs0))
theorem tl(h:HF)(l:List Approval)(eu:Option Addr)(et:Nat)(hl:SlC xL h eu et l):Ret prog 71 [.slice eu l.length et] h (I (bK l)):=by
 refine sT func71 U ntmps71 U λX hM hX hF=>?_
 have hs0:bK l=bK l:=rfl
 refine qK 11 [] U (ae hs0 U (λc1 hs1=>?_) (λc1 hs2=>?_))
 .have c1p:=of_decide_eq_true c1
  exact sr (an (nretP [I 2] (ci hs1)))
 have c1p:=of_decide_eq_false c1
 refine qK 12 [] U ?_
 refine lp1 l (λi w=>[(3,I w),(9,.slice eu l.length et),(10,I (l.length:Int)),(11,I (i:Int))]) ([]) (λs1 i w=>(bK.L1 (bK.K1)) s1 w) (-1) hl.1.1 hs2 ?_ ?_
 .rintro i1 iQ ft hs4 e
  exact sr (an (nretP [I 0] (ci hs4)))
 rintro i1 iQ y1 rz1 hd1 df aS dZ gy hs6 hx1 ag1 e
 refine sr (tO df U (qO 8 U (aB (iF xC wJ ty81 hl.1 aS U U U (λq2 A2=>dq ty81 A2 U U (aT zc81 (λb2=>aL 0 ty81 U U U U U U (qO 4 U (cI 0 ty81 U U U (aj call119 (Bj h y1) U (qO 2 U (ce 5 [18,19,20,21,22,23] 18 23 (decide (y1.No<=iQ)) U (λc2 hk1=>?_) (λe=>?_)))))))))))))
 .exact qL 5 [0] U (hk1 _ U)
 refine aJ (ae hs6 U (λc3 hs7=>?_) (λc3 hs8=>?_))
 .exact sr (an (nretP [I 280] (ci hs7)))
 exact qK 8 [0] U (oi i1 U (qO 2 U (aX (L':=[]) js (ag1 y1.No hs8))))
theorem pu(h:HF)(cH:Register)(gB:dK)(kx:vL h cH gB)(hsm:smR cH)(hk:Kinds h):Ret prog 13 [.agg (qQ cH gB).toArray] h (I (dX cH)):=by
 refine sT func13 U ntmps13 U λX hM hX hF=>?_
 have hs0:dX cH=dX cH:=rfl
 have hsv:=hsm.vers
 refine sr (cz (λb1=>qO 4 U ?_))
 let z1:Nat×Obj:=(b1,O (qQ cH gB) 30)
 refine eT ([z1]) mixed kr jn (λeo _=>?_)
 refine qB [0] U (tf 1 U U (rj 0 ty22 U U U) (qB [3] U (tf 4 U U (rj 0 ty23 U U U) (qB [6] U (tf 7 U U (rj 0 ty24 U U U) (qB [9] U (tf 10 U U (rj 0 ty25 U U U) (qB [12] U (tf 13 U U (rj 0 ty26 U U U) (qB [15] U (tf 16 U U (rj 0 ty27 U U U) (qB [18] U (tf 19 U U (rj 0 ty28 U U U) (tm 23 U (tn 2 U (fo call65 (qh _ _ _ _ kx.Appoints) U (⟨jn,tn 5 U (fo call66 (ua _ _ _ _ kx.Deputies) U (⟨jn,tn 8 U (fo call67 (sX _ _ _ _ kx.Interests) U (⟨jn,tn 11 U (fo call68 (uZ _ _ _ _ kx.Budgets) U (⟨jn,tn 14 U (fo call69 (re _ _ _ _ kx.Versions ob hk) U (⟨jn,(tn 17 U (fo call70 (oO _ _ _ _ kx.Docs) U (⟨jn,(tn 20 U (fo call71 (tl _ _ _ _ kx.Approvals) U (⟨jn,(tn 21 U (bB (cells:=[I (cw cH.Appoints),I (cS cH.Deputies),I (cq cH.Interests),I (bT cH.Budgets),I (bw cH.Versions),I (aV cH.Docs),I (bK cH.Approvals)]) underlying141 ty37 zc37 U U kr (λb2=>⟨jn,(tf 22 U U (λ_ _ _=>Ka underlying141 U) (aQ kr (eW 0 U hM (λh1 hle1 hb1=>?_))))⟩)))⟩)))⟩)))⟩))⟩))⟩))⟩))⟩)))))))))))))))))
 have sl1:SlC kB h1 (some ⟨b2,0,none⟩) 7 ([(cw cH.Appoints),(cS cH.Deputies),(cq cH.Interests),(bT cH.Budgets),(bw cH.Versions),(aV cH.Docs),(bK cH.Approvals)]):=bI.slB0 (T:=37) (fz:=(0,0)) ((show bI kB h [I (cw cH.Appoints),I (cS cH.Deputies),I (cq cH.Interests),I (bT cH.Budgets),I (bw cH.Versions),I (aV cH.Docs),I (bK cH.Approvals)] ([(cw cH.Appoints),(cS cH.Deputies),(cq cH.Interests),(bT cH.Budgets),(bw cH.Versions),(aV cH.Docs),(bK cH.Approvals)])from⟨[I (cw cH.Appoints)],[I (cS cH.Deputies),I (cq cH.Interests),I (bT cH.Budgets),I (bw cH.Versions),I (aV cH.Docs),I (bK cH.Approvals)],rfl,rfl,rfl,⟨[I (cS cH.Deputies)],[I (cq cH.Interests),I (bT cH.Budgets),I (bw cH.Versions),I (aV cH.Docs),I (bK cH.Approvals)],rfl,rfl,rfl,⟨[I (cq cH.Interests)],[I (bT cH.Budgets),I (bw cH.Versions),I (aV cH.Docs),I (bK cH.Approvals)],rfl,rfl,rfl,⟨[I (bT cH.Budgets)],[I (bw cH.Versions),I (aV cH.Docs),I (bK cH.Approvals)],rfl,rfl,rfl,⟨[I (bw cH.Versions)],[I (aV cH.Docs),I (bK cH.Approvals)],rfl,rfl,rfl,⟨[I (aV cH.Docs)],[I (bK cH.Approvals)],rfl,rfl,rfl,⟨[I (bK cH.Approvals)],[],rfl,rfl,rfl,rfl⟩⟩⟩⟩⟩⟩⟩).mono jH hle1) hb1
 refine iX (ι:=Nat) (λi=>[]) (λi=>h1) (λi=>[z1]) (λi=>i<=(qH 7).length/\dX cH=((dX.K1))) ?_ (λhx1=>?_)
 .rintro i1 ⟨ft,hs1⟩ e
  exact sr (an (nretP [I 0] (ci hs1)))
 refine kY (ι:=Nat×List Nat) (λi=>[(26,.slice (some ⟨b2,0,none⟩) 7 7),(27,I 7),(28,I (i.1:Int))]) (λi=>h1) (λi=>[z1]) (λi=>(qH 7).drop i.1=i.2/\i.1<=(qH 7).length/\dX cH=((dX.L1 cH (dX.K1)) i.2 i.1)) (λi=>i.2.length) (0,(qH 7)) rd sw ⟨U,zN _,hs0⟩ ?_
 rintro⟨i1,s1⟩ ⟨hd1,ft,hs3⟩ ag1 e
 rcases s1 with _|⟨y1,rz1⟩
 .have gu:decide ((i1:Int)<7)=false:=by simpa using ni hd1
  exact sr (fO gu U (qO 4 U (hx1 i1 _ ⟨ft,hs3⟩ trivial)))
 have df:decide ((i1:Int)<7)=true:=by simpa using tj hd1
 have dZ:i1<7:=by simpa using iB hd1
 refine sr (tO df U (qO 8 U ?_))
 have ho2:0<=((i1:Int):Int)/\((i1:Int):Int)<(([(cw cH.Appoints),(cS cH.Deputies),(cq cH.Interests),(bT cH.Budgets),(bw cH.Versions),(aV cH.Docs),(bK cH.Approvals)]).length:Int):=ob
 refine aB (pd (enc:=λy=>[I y]) ei underlying141 ty37 sl1.1 ho2 (dh ho2) U U U (λq2 A2=>dB ty37 A2 U (qO 7 U (ae hs3 U (λc2 hs5=>?_) (λc2 hs6=>?_)))))
 .exact sr (an (nretP [I 300] (ci hs5)))
 exact aI (qT 2 U (oi i1 U (qO 2 U (ag1 ((i1+1),rz1) _ (Nat.lt_succ_self _) ⟨kO hd1,iB hd1,hs6⟩ rd))))
theorem iz(h:HF)(Q6:Int)  : Hw prog 51 [I Q6] h (exW errV (λr:Unit=>(.tuple #[]:Value)) (lQ Q6)):=by
 refine cZ func51 U ntmps51 U λX hM hX=>?_
 have hs0:lQ Q6=lQ Q6:=rfl
 refine qT 5 U (ae hs0 U (λc1 hs1=>?_) (λc1 hs2=>?_))
 .exact bE (av (aB (fK (Ex Ow U U) (aB (Et U yU (λe=>gV (nP [] func51 hX (congrArg (exW errV (λr:Unit=>(.tuple #[]:Value))) hs1))))))))
 refine aI ?_
 have hs3:lQ Q6=(Except.ok ()):=hs2
 exact ew (yQ [] [] func51 U hX trivial (congrArg (exW errV (λr:Unit=>(.tuple #[]:Value))) hs3))
theorem lv(h:HF)(s:List Document)(sK:Option Addr)(sJ:Nat)(f:(Document->Bool))(f_v:Value)(hs:SlC xS h sK sJ s)(hf:∀(h':HF)(dl:Document)(uC:ls),vM h h'->dl∈s->aAI h' dl uC->pQ prog f_v [.agg (jT dl uC).toArray] h' [] (.bool (f dl))):Ret prog 128 [.slice sK s.length sJ,f_v] h (I (ad s f)):=by
 refine sT func128 U ntmps128 U λX hM hX hF=>?_
 have hs0:ad s f=ad s f:=rfl
 refine qK 11 [] U ?_
 refine lp0 s (λi=>[(0,.slice sK s.length sJ),(1,f_v),(7,I (s.length:Int)),(8,I (i:Int))]) ([]) (λs1 i=>(ad.L1 f (ad.K1)) s1 i) hs.1.1 hs0 ?_ ?_
 .rintro i1 ft hs1 e
  exact sr (an (nretP [I (-1)] (ci hs1)))
 rintro i1 y1 rz1 hd1 df aS dZ gy hs3 hx1 ag1 e
 refine sr (tO df U (qO 16 U (aB (iR oq ty51 hs.1 aS U U U (λ_ _ _ e=>e) (λq2 r2 A2 ok2=>dq ty51 A2 U U (aB (ke (v:=.bool (f y1)) [] (List.nil_sublist _) (hf h y1 r2 lf (gp hd1) ok2) U U (aJ (ae hs3 U (λc2 hs4=>?_) (λc2 hs5=>?_))))))))))
 .exact sr (qO 3 U (nretP [I (i1:Int)] (ci hs4)))
 exact aI (qT 2 U (oi i1 U (qO 2 U (ag1 hs5))))
theorem C9(s:List Document)(f:Document->Bool):ad s f<(s.length:Int):=by
 have key:∀(l:List Document)(i:Nat),ad.L1 f ad.K1 l i<((i+l.length:Nat):Int):=by
  intro l
  induction l with
  |nil=>intro i;simp only[ad.L1,ad.K1];omega
  |cons y l ih=>
   intro i
   simp only[ad.L1,Bool.cond_eq_ite,xA]
   split
   .omega
   have:=ih (i+1);omega
 have:=key s 0
 simpa[ad]using this
theorem Eg(h:HF)(d:Document)(KX:ls)(v0:Int)(v0_q:Addr)(hd:aAI h d KX)(av0:At h v0_q [I v0]):Ret prog 129 [.agg (jT d KX).toArray,.pointer (some v0_q)] h (.bool (bC d v0)):=by
 refine sT func129 U ntmps129 U λX hM hX hF=>?_
 have hs0:bC d v0=bC d v0:=rfl
 exact sr (cz (λb1=>qL 6 [0] U (dB ty3 av0 U (qO 3 U (nretP [.bool (d.No==v0)] (cs hs0))))))
theorem Al(h:HF)(cH:Register)(gB:dK)(doc:Int)(aH:Int)(known:Int)(kx:vL h cH gB):Io prog 53 [.agg (qQ cH gB).toArray,I doc,I aH,I known] h errV (lP cH doc aH known) (λ(r:bU)v h'=>∃(rr0:kn),v=.agg (bU.cells r rr0).toArray/\bU.ok h' r rr0):=by
 refine cZ func53 U ntmps53 U λX hM hX=>?_
 have hs0:lP cH doc aH known=lP cH doc aH known:=rfl
 refine sr (cz (λb1=>cz (λb2=>aT zc123 (λb3=>qL 5 [2] U (aU 1 U hM (λh1 hle1 hb1=>aB (eL U U (aj call128 (lv _ _ _ _ (λdl=>bC dl doc) (.func (.func 129) #[] #[Q b2]) (kx.Docs.mono vH hle1) (λh' dl uC hle Pr a0_o=>gM call129 (Eg h' dl uC doc ⟨b2,0,none⟩ a0_o ((cL hb1).mono hle)))) U (qO 8 U (ce 5 [16,17,18,19,20,21] 16 21 (decide ((min aH known)<0)) U (λc1 hk1=>?_) (λe=>?_)))))))))))
 .exact av (av (aB (fK (QX U U) (qO 2 U (hk1 _ U)))))
 refine av (ce 5 [22,23,24,25,26,27] 22 27 (decide (1099511627776<=(max aH known))) U (λc2 hk2=>?_) (λe=>?_))
 .exact av (av (aB (fK (QY U U) (qO 2 U (hk2 _ U)))))
 refine aJ (ae hs0 U (λc3 hs1=>?_) (λc3 hs2=>?_))
 .exact bE (aB (fK (Ex Ow U U) (aB (Et U yU (λe=>gV (JE [] func53 hs1))))))
 refine qT 2 U ?_
 let z1:Nat×Obj:=(b1,O (qQ cH gB) 30)
 refine eT ([z1]) mixed kr jn (λeo _=>?_)
 refine tf 0 U U (λ_ _ hj=>kg ty30 U (hj.nth (i:=0) U) U) (qB [1] U (tf 2 U U (rj 0 ty27 U U U) (tm 3 U ?_)))
 have ho1:0<=((ad cH.Docs (λdl=>bC dl doc)):Int)/\((ad cH.Docs (λdl=>bC dl doc)):Int)<((cH.Docs).length:Int):=(by have hq:=C9 cH.Docs (λdl=>bC dl doc);simp only[decide_eq_true_eq,decide_eq_false_iff_not,xB,xD,qE,Bool.not_eq_false',Bool.and_eq_false_iff,Bool.or_eq_false_iff,beq_iff_eq,beq_eq_false_iff_ne,bne_iff_ne,bne_eq_false_iff_eq,jA,xA,vB,List.length_drop]at *;omega)
 refine j9 4 eo jn oq ty51 (kx.Docs.mono vH hle1).1 ho1 (dh ho1) U U U U kr (λq1 cs1 A1 ln1 rr1=>?_)
 obtain⟨r1,rfl,ok1⟩:=rr1
 refine tf 5 U U (λ_ _ hj=>mg ty51 (A1.mono hj.1) U U) (qA [6,7] U (tn 8 U (fV (cells:=[.slice gB.wl cH.Appoints.length gB.wk,.slice gB.wj cH.Deputies.length gB.wi,.slice gB.uf cH.Interests.length gB.ue,.slice gB.zp cH.Budgets.length gB.zo,.slice gB.lV cH.Versions.length gB.lU,.slice gB.Dl cH.Docs.length gB.Dk,.slice gB.uh cH.Approvals.length gB.ug,I ((nthI cH.Docs (ad cH.Docs (λdl=>bC dl doc))).No),I ((nthI cH.Docs (ad cH.Docs (λdl=>bC dl doc))).At),I ((nthI cH.Docs (ad cH.Docs (λdl=>bC dl doc))).Kind),I ((nthI cH.Docs (ad cH.Docs (λdl=>bC dl doc))).Value),I ((nthI cH.Docs (ad cH.Docs (λdl=>bC dl doc))).From),I ((nthI cH.Docs (ad cH.Docs (λdl=>bC dl doc))).Until),.slice r1.zm ((nthI cH.Docs (ad cH.Docs (λdl=>bC dl doc))).Parties.length) r1.zk,.slice r1.so ((nthI cH.Docs (ad cH.Docs (λdl=>bC dl doc))).Revokes.length) r1.sn,.slice r1.EF ((nthI cH.Docs (ad cH.Docs (λdl=>bC dl doc))).Needs.length) r1.EE,Y ((nthI cH.Docs (ad cH.Docs (λdl=>bC dl doc))).Text 0),Y ((nthI cH.Docs (ad cH.Docs (λdl=>bC dl doc))).Text 1),Y ((nthI cH.Docs (ad cH.Docs (λdl=>bC dl doc))).Text 2),Y ((nthI cH.Docs (ad cH.Docs (λdl=>bC dl doc))).Text 3),Y ((nthI cH.Docs (ad cH.Docs (λdl=>bC dl doc))).Text 4),Y ((nthI cH.Docs (ad cH.Docs (λdl=>bC dl doc))).Text 5),Y ((nthI cH.Docs (ad cH.Docs (λdl=>bC dl doc))).Text 6),Y ((nthI cH.Docs (ad cH.Docs (λdl=>bC dl doc))).Text 7),Y ((nthI cH.Docs (ad cH.Docs (λdl=>bC dl doc))).Text 8),Y ((nthI cH.Docs (ad cH.Docs (λdl=>bC dl doc))).Text 9),Y ((nthI cH.Docs (ad cH.Docs (λdl=>bC dl doc))).Text 10),Y ((nthI cH.Docs (ad cH.Docs (λdl=>bC dl doc))).Text 11),Y ((nthI cH.Docs (ad cH.Docs (λdl=>bC dl doc))).Text 12),Y ((nthI cH.Docs (ad cH.Docs (λdl=>bC dl doc))).Text 13),Y ((nthI cH.Docs (ad cH.Docs (λdl=>bC dl doc))).Text 14),Y ((nthI cH.Docs (ad cH.Docs (λdl=>bC dl doc))).Text 15),Y ((nthI cH.Docs (ad cH.Docs (λdl=>bC dl doc))).Text 16),Y ((nthI cH.Docs (ad cH.Docs (λdl=>bC dl doc))).Text 17),Y ((nthI cH.Docs (ad cH.Docs (λdl=>bC dl doc))).Text 18),Y ((nthI cH.Docs (ad cH.Docs (λdl=>bC dl doc))).Text 19),Y ((nthI cH.Docs (ad cH.Docs (λdl=>bC dl doc))).Text 20),Y ((nthI cH.Docs (ad cH.Docs (λdl=>bC dl doc))).Text 21),Y ((nthI cH.Docs (ad cH.Docs (λdl=>bC dl doc))).Text 22),Y ((nthI cH.Docs (ad cH.Docs (λdl=>bC dl doc))).Text 23),Y ((nthI cH.Docs (ad cH.Docs (λdl=>bC dl doc))).Text 24),Y ((nthI cH.Docs (ad cH.Docs (λdl=>bC dl doc))).Text 25),Y ((nthI cH.Docs (ad cH.Docs (λdl=>bC dl doc))).Text 26),Y ((nthI cH.Docs (ad cH.Docs (λdl=>bC dl doc))).Text 27),Y ((nthI cH.Docs (ad cH.Docs (λdl=>bC dl doc))).Text 28),Y ((nthI cH.Docs (ad cH.Docs (λdl=>bC dl doc))).Text 29),Y ((nthI cH.Docs (ad cH.Docs (λdl=>bC dl doc))).Text 30),Y ((nthI cH.Docs (ad cH.Docs (λdl=>bC dl doc))).Text 31),I aH,I known]) (places:=[(0,7),(7,41),(48,1),(49,1)]) underlying123 zc123 kr kr ?_)))
 refine⟨jn,(tn 9 U (sI 0 ty123 U U U U U U (⟨jn,(aQ kr ?_)⟩)))⟩
 have hs3:lP cH doc aH known=(Except.ok (bU.mk cH (nthI cH.Docs (ad cH.Docs (λdl=>bC dl doc))) aH known)):=hs2
 exact ew (JA [] [.agg (bU.cells (bU.mk cH (nthI cH.Docs (ad cH.Docs (λdl=>bC dl doc))) aH known) (kn.mk gB r1)).toArray] func53 U ⟨⟨0,_,_,_,_,U,U,.inl ⟨ty123,U⟩⟩,trivial⟩ hs3 ⟨(kn.mk gB r1),U,(show bU.ok h1 (bU.mk cH (nthI cH.Docs (ad cH.Docs (λdl=>bC dl doc))) aH known) (kn.mk gB r1)from⟨(kx.mono hle1),ok1⟩)⟩)
theorem uX(h:HF)(x:Int)  : Ret prog 211 [I x] h (.bool (cmp_isNaN_int x)):=by
 refine sT Si U ntmps211 U λX hM hX hF=>?_
 have hs0:cmp_isNaN_int x=cmp_isNaN_int x:=rfl
 exact sr (qO 9 U (nretP [.bool (x != x)] (cs hs0)))
end Go.Sg

namespace Go.Proofs
open Go.Shelf
def Tryz.Kv:Go.Shelf.Ren:=⟨λ| 137=>384|217=>387|266=>388|n=>n,λ| 9=>9|5=>5|3=>3|n=>n,λ| n=>n⟩
theorem Tryz.lays137:Go.Proofs.Lays.n137 Tryz.prog Tryz.Kv:={
 mixed:=by kernel_rfl
 f137:=Tryz.func384.trans (congrArg some (by kernel_rfl))
 f217:=Tryz.func387.trans (congrArg some (by kernel_rfl))
 f266:=Tryz.func388.trans (congrArg some (by kernel_rfl))
 t3:=Tryz.underlying3
 a3:=Tryz.isAgg3
 z3:=Tryz.sizeOf3
 v3:=Tryz.zeroValue3
 t5:=Tryz.underlying5
 a5:=Tryz.isAgg5
 z5:=Tryz.sizeOf5
 v5:=Tryz.zeroValue5
 t9:=Tryz.underlying9
 a9:=Tryz.isAgg9
 z9:=Tryz.sizeOf9
 v9:=Tryz.zeroValue9 }
open Go.RowKit in
theorem Tryz.strings_IndexByte(s:ByteArray)(c:Int)(w:World):
  Calls Tryz.prog 384 #[.string s,.int .u8 c] w λe w'=>e=.returned (.int .i64 (Lib.indexByte s.data.toList c.toNat.toUInt8))/\w'=w:=Any.strings_IndexByte Tryz.lays137 s c w
open Go.RowKit Go.Lib in
def Tryz.Ku:Go.Shelf.Ren:=⟨λ| 189=>88|125=>174|257=>173|128=>271|129=>272|294=>263|295=>264|296=>265|297=>266|298=>267|299=>268|216=>209|300=>269|301=>270|328=>316|329=>317|330=>318|331=>319|332=>320|215=>211|343=>354|n=>n,λ| 28=>31|3=>3|46=>245|0=>0|51=>313|53=>315|4=>4|183=>307|182=>306|131=>191|5=>5|9=>9|218=>349|222=>353|228=>382|229=>213|n=>n,λ| n=>n⟩
theorem Tryz.lays189:Go.Proofs.Lays.n189 Tryz.prog Tryz.Ku:={
 mixed:=by kernel_rfl
 f125:=Tryz.func174.trans (congrArg some (by kernel_rfl))
 f128:=Tryz.func271.trans (congrArg some (by kernel_rfl))
 f129:=Tryz.func272.trans (congrArg some (by kernel_rfl))
 f189:=Tryz.func88.trans (congrArg some (by kernel_rfl))
 f215:=Tryz.func211.trans (congrArg some (by kernel_rfl))
 f216:=Tryz.func209.trans (congrArg some (by kernel_rfl))
 f257:=Tryz.func173.trans (congrArg some (by kernel_rfl))
 f294:=Tryz.func263.trans (congrArg some (by kernel_rfl))
 f295:=Tryz.func264.trans (congrArg some (by kernel_rfl))
 f296:=Tryz.func265.trans (congrArg some (by kernel_rfl))
 f297:=Tryz.func266.trans (congrArg some (by kernel_rfl))
 f298:=Tryz.func267.trans (congrArg some (by kernel_rfl))
 f299:=Tryz.func268.trans (congrArg some (by kernel_rfl))
 f300:=Tryz.func269.trans (congrArg some (by kernel_rfl))
 f301:=Tryz.func270.trans (congrArg some (by kernel_rfl))
 f328:=Tryz.func316.trans (congrArg some (by kernel_rfl))
 f329:=Tryz.func317.trans (congrArg some (by kernel_rfl))
 f330:=Tryz.func318.trans (congrArg some (by kernel_rfl))
 f331:=Tryz.func319.trans (congrArg some (by kernel_rfl))
 f332:=Tryz.func320.trans (congrArg some (by kernel_rfl))
 f343:=Tryz.func354.trans (congrArg some (by kernel_rfl))
 t0:=Tryz.underlying0
 a0:=Tryz.isAgg0
 z0:=Tryz.sizeOf0
 v0:=Tryz.zeroValue0
 t3:=Tryz.underlying3
 a3:=Tryz.isAgg3
 z3:=Tryz.sizeOf3
 v3:=Tryz.zeroValue3
 t4:=Tryz.underlying4
 a4:=Tryz.isAgg4
 z4:=Tryz.sizeOf4
 v4:=Tryz.zeroValue4
 t5:=Tryz.underlying5
 a5:=Tryz.isAgg5
 z5:=Tryz.sizeOf5
 v5:=Tryz.zeroValue5
 t9:=Tryz.underlying9
 a9:=Tryz.isAgg9
 z9:=Tryz.sizeOf9
 v9:=Tryz.zeroValue9
 t28:=Tryz.underlying31
 a28:=Tryz.isAgg31
 z28:=Tryz.sizeOf31
 v28:=Tryz.zeroValue31
 t46:=Tryz.underlying245
 a46:=Tryz.isAgg245
 z46:=Tryz.sizeOf245
 v46:=Tryz.zeroValue245
 t51:=Tryz.underlying313
 a51:=Tryz.isAgg313
 z51:=Tryz.sizeOf313
 v51:=Tryz.zeroValue313
 t53:=Tryz.underlying315
 a53:=Tryz.isAgg315
 z53:=Tryz.sizeOf315
 v53:=Tryz.zeroValue315
 t131:=Tryz.underlying191
 a131:=Tryz.isAgg191
 z131:=Tryz.sizeOf191
 v131:=Tryz.zeroValue191
 t182:=Tryz.underlying306
 a182:=Tryz.isAgg306
 z182:=Tryz.sizeOf306
 v182:=Tryz.zeroValue306
 t183:=Tryz.underlying307
 a183:=Tryz.isAgg307
 z183:=Tryz.sizeOf307
 v183:=Tryz.zeroValue307
 t218:=Tryz.underlying349
 a218:=Tryz.isAgg349
 z218:=Tryz.sizeOf349
 v218:=Tryz.zeroValue349
 t222:=Tryz.underlying353
 a222:=Tryz.isAgg353
 z222:=Tryz.sizeOf353
 v222:=Tryz.zeroValue353
 t228:=Tryz.underlying382
 a228:=Tryz.isAgg382
 z228:=Tryz.sizeOf382
 v228:=Tryz.zeroValue382
 t229:=Tryz.underlying213
 a229:=Tryz.isAgg213
 z229:=Tryz.sizeOf213
 v229:=Tryz.zeroValue213 }
open Go.Sort Go.RowKit in
theorem Tryz.slices_Sort_int(blk off cap:Nat)(zs:List Int)(w:World)(hH:Holds (Value.int .i64) w blk off zs.toArray)(hblk:blk<w.heap.size)(hsz:zs.length<4611686018427387904):
  Calls Tryz.prog 88 #[.slice (some ⟨blk,off,none⟩) zs.length cap] w λe w'=>
   e=.returned (.tuple #[])/\∃n os,w'=grow (putRow (Value.int .i64) (Sort.ahead w n) blk off (zs.mergeSort λx y=>decide (x<=y)).toArray) os:=Any.slices_Sort_int Tryz.lays189 blk off cap zs w hH hblk hsz
def Tryz.Hg:Go.Shelf.Ren:=⟨λ| 20=>136|n=>n,λ| 22=>31|3=>3|4=>4|0=>0|n=>n,λ| n=>n⟩
theorem Tryz.laysNm220:Go.Proofs.Lays2.n20 Tryz.prog Tryz.Hg:={
 mixed:=by kernel_rfl
 f20:=Tryz.func136.trans (congrArg some (by kernel_rfl))
 t0:=Tryz.underlying0
 a0:=Tryz.isAgg0
 z0:=Tryz.sizeOf0
 v0:=Tryz.zeroValue0
 t3:=Tryz.underlying3
 a3:=Tryz.isAgg3
 z3:=Tryz.sizeOf3
 v3:=Tryz.zeroValue3
 t4:=Tryz.underlying4
 a4:=Tryz.isAgg4
 z4:=Tryz.sizeOf4
 v4:=Tryz.zeroValue4
 t22:=Tryz.underlying31
 a22:=Tryz.isAgg31
 z22:=Tryz.sizeOf31
 v22:=Tryz.zeroValue31
 i3:=by kernel_rfl }
open Go.RowKit Go.Lib Go.Sort in
open Go.RowKit Go.Lib Go.Sort in
theorem Tryz.slices_Compact_int(blk off cap:Nat)(zs:List Int)(w:World)(hH:Holds (Value.int .i64) w blk off zs.toArray)(hsz:zs.length<=9223372036854775807)(hcap:zs.length<=cap):
  Calls Tryz.prog 136 #[.slice (some ⟨blk,off,none⟩) zs.length cap] w λe w'=>e=.returned (.slice (some ⟨blk,off,none⟩) (Lib.compact zs).length cap)/\∃q,w'=putRow (Value.int .i64) (Sort.ahead w q) blk off (Lib.compact zs++List.replicate (zs.length-(Lib.compact zs).length) 0).toArray:=Any.slices_Compact_int Tryz.laysNm220 blk off cap zs w hH hsz hcap
open Go.RowKit Go.Lib Go.Sort in
theorem Tryz.slices_Compact_int_empty(a:Option Addr)(cap:Nat)(w:World):
  Calls Tryz.prog 136 #[.slice a 0 cap] w λe w'=>e=.returned (.slice a 0 cap)/\w'=w:=Any.slices_Compact_int_empty Tryz.laysNm220 a cap w
open Go.RowKit Go.Lib in
open Go.RowKit Go.Lib in
open Go.RowKit Go.Lib in
def Tryz.Hf:Go.Shelf.Ren:=⟨λ| 25=>114|31=>209|32=>210|37=>211|n=>n,λ| 22=>31|3=>3|4=>4|40=>245|0=>0|n=>n,λ| n=>n⟩
theorem Tryz.laysNm225:Go.Proofs.Lays2.n25 Tryz.prog Tryz.Hf:={
 mixed:=by kernel_rfl
 f25:=Tryz.func114.trans (congrArg some (by kernel_rfl))
 f31:=Tryz.func209.trans (congrArg some (by kernel_rfl))
 f32:=Tryz.func210.trans (congrArg some (by kernel_rfl))
 f37:=Tryz.func211.trans (congrArg some (by kernel_rfl))
 t0:=Tryz.underlying0
 a0:=Tryz.isAgg0
 z0:=Tryz.sizeOf0
 v0:=Tryz.zeroValue0
 t3:=Tryz.underlying3
 a3:=Tryz.isAgg3
 z3:=Tryz.sizeOf3
 v3:=Tryz.zeroValue3
 t4:=Tryz.underlying4
 a4:=Tryz.isAgg4
 z4:=Tryz.sizeOf4
 v4:=Tryz.zeroValue4
 t22:=Tryz.underlying31
 a22:=Tryz.isAgg31
 z22:=Tryz.sizeOf31
 v22:=Tryz.zeroValue31
 t40:=Tryz.underlying245
 a40:=Tryz.isAgg245
 z40:=Tryz.sizeOf245
 v40:=Tryz.zeroValue245 }
open Go.RowKit Go.Lib in
theorem Tryz.slices_BinarySearch_int(b off n c:Nat)(zs:List Int)(x:Int)(w:World)(hz:n<=zs.length)(hbig:n<4611686018427387904)(hc:∀j,j<zs.length->w.cell? ⟨b,off+j,none⟩=some (.int .i64 (zs.getD j 0)))(hs:(zs.take n).Pairwise (·<=·)):
  Calls Tryz.prog 114 #[.slice (some ⟨b,off,none⟩) n c,.int .i64 x] w λe w'=>e=.returned (.tuple #[.int .i64 ((zs.take n).countP (·<x):Nat),.bool ((zs.take n).contains x)])/\∃q,w'=w.drewN q:=Any.slices_BinarySearch_int Tryz.laysNm225 b off n c zs x w hz hbig hc hs
open Go.RowKit Go.Sort in
theorem Tryz.slices_Sort_int_none(p:Option Addr)(cap:Nat)(w:World):
  Calls Tryz.prog 88 #[.slice p 0 cap] w λe w'=>e=.returned (.tuple #[])/\w'=w:=Any.slices_Sort_int_none Tryz.lays189 p cap w
open Go.RowKit Go.Lib in
theorem Tryz.slices_BinarySearch_int_empty(a:Option Addr)(c:Nat)(x:Int)(w:World):
  Calls Tryz.prog 114 #[.slice a 0 c,.int .i64 x] w λe w'=>e=.returned (.tuple #[.int .i64 0,.bool false])/\w'=w:=Any.slices_BinarySearch_int_empty Tryz.laysNm225 a c x w
def Tryz.AS:Go.Shelf.Ren:=⟨λ| 7=>211|n=>n,λ| 22=>3|4=>4|n=>n,λ| n=>n⟩
theorem Tryz.FJ:Go.Proofs.SlLaysC2.n7 Tryz.prog Tryz.AS:={
 mixed:=by kernel_rfl
 f7:=⟨Tryz.f211.name,by decide,Tryz.func211.trans (congrArg some (by kernel_rfl))⟩
 t4:=Tryz.underlying4
 a4:=Tryz.isAgg4
 z4:=Tryz.sizeOf4
 v4:=Tryz.zeroValue4
 t22:=Tryz.underlying3
 a22:=Tryz.isAgg3
 z22:=Tryz.sizeOf3
 v22:=Tryz.zeroValue3 }
open Go.Lib in
theorem Tryz.cmp_isNaN_int(x:Int)(w:World):
  Calls Tryz.prog 211 #[.int .i64 x] w λe w'=>e=.returned (.bool false)/\w'=w:=AnyG.cmp_isNaN_int Tryz.FJ x w
def Tryz.AT:Go.Shelf.Ren:=⟨λ| 5=>118|7=>211|n=>n,λ| 22=>3|3=>3|4=>4|n=>n,λ| n=>n⟩
theorem Tryz.FK:Go.Proofs.SlLaysC2.n5 Tryz.prog Tryz.AT:={
 mixed:=by kernel_rfl
 f5:=⟨Tryz.f118.name,by decide,Tryz.func118.trans (congrArg some (by kernel_rfl))⟩
 f7:=⟨Tryz.f211.name,by decide,Tryz.func211.trans (congrArg some (by kernel_rfl))⟩
 t3:=Tryz.underlying3
 a3:=Tryz.isAgg3
 z3:=Tryz.sizeOf3
 v3:=Tryz.zeroValue3
 t4:=Tryz.underlying4
 a4:=Tryz.isAgg4
 z4:=Tryz.sizeOf4
 v4:=Tryz.zeroValue4
 t22:=Tryz.underlying3
 a22:=Tryz.isAgg3
 z22:=Tryz.sizeOf3
 v22:=Tryz.zeroValue3 }
open Go.Lib in
theorem Tryz.cmp_Compare_int(x y:Int)(w:World):
  Calls Tryz.prog 118 #[.int .i64 x,.int .i64 y] w λe w'=>e=.returned (.int .i64 (Lib.compareInt x y))/\w'=w:=AnyG.cmp_Compare_int Tryz.FK x y w
def Tryz.IB:Go.Shelf.Ren:=⟨λ| 6=>274|15=>174|14=>322|28=>271|29=>272|20=>355|21=>356|22=>357|23=>358|24=>359|25=>360|26=>361|27=>362|46=>374|47=>317|48=>318|49=>375|50=>376|57=>383|n=>n,λ| 22=>249|24=>182|25=>248|3=>3|39=>245|0=>0|53=>313|55=>315|4=>4|46=>307|45=>306|50=>191|5=>5|9=>9|66=>349|70=>353|76=>382|77=>213|n=>n,λ| n=>n⟩
theorem Tryz.sortSeat:Go.Proofs.SlLaysF0.n6 Tryz.prog Tryz.IB:={
 mixed:=by kernel_rfl
 f6:=⟨Tryz.f274.name,by decide,Tryz.func274.trans (congrArg some (by kernel_rfl))⟩
 f14:=⟨Tryz.f322.name,by decide,Tryz.func322.trans (congrArg some (by kernel_rfl))⟩
 f15:=Tryz.func174.trans (congrArg some (by kernel_rfl))
 f20:=⟨Tryz.f355.name,by decide,Tryz.func355.trans (congrArg some (by kernel_rfl))⟩
 f21:=⟨Tryz.f356.name,by decide,Tryz.func356.trans (congrArg some (by kernel_rfl))⟩
 f22:=⟨Tryz.f357.name,by decide,Tryz.func357.trans (congrArg some (by kernel_rfl))⟩
 f23:=⟨Tryz.f358.name,by decide,Tryz.func358.trans (congrArg some (by kernel_rfl))⟩
 f24:=⟨Tryz.f359.name,by decide,Tryz.func359.trans (congrArg some (by kernel_rfl))⟩
 f25:=⟨Tryz.f360.name,by decide,Tryz.func360.trans (congrArg some (by kernel_rfl))⟩
 f26:=⟨Tryz.f361.name,by decide,Tryz.func361.trans (congrArg some (by kernel_rfl))⟩
 f27:=⟨Tryz.f362.name,by decide,Tryz.func362.trans (congrArg some (by kernel_rfl))⟩
 f28:=Tryz.func271.trans (congrArg some (by kernel_rfl))
 f29:=Tryz.func272.trans (congrArg some (by kernel_rfl))
 f46:=⟨Tryz.f374.name,by decide,Tryz.func374.trans (congrArg some (by kernel_rfl))⟩
 f47:=Tryz.func317.trans (congrArg some (by kernel_rfl))
 f48:=Tryz.func318.trans (congrArg some (by kernel_rfl))
 f49:=⟨Tryz.f375.name,by decide,Tryz.func375.trans (congrArg some (by kernel_rfl))⟩
 f50:=⟨Tryz.f376.name,by decide,Tryz.func376.trans (congrArg some (by kernel_rfl))⟩
 f57:=⟨Tryz.f383.name,by decide,Tryz.func383.trans (congrArg some (by kernel_rfl))⟩
 t0:=Tryz.underlying0
 a0:=Tryz.isAgg0
 z0:=Tryz.sizeOf0
 v0:=Tryz.zeroValue0
 t3:=Tryz.underlying3
 a3:=Tryz.isAgg3
 z3:=Tryz.sizeOf3
 v3:=Tryz.zeroValue3
 t4:=Tryz.underlying4
 a4:=Tryz.isAgg4
 z4:=Tryz.sizeOf4
 v4:=Tryz.zeroValue4
 t5:=Tryz.underlying5
 a5:=Tryz.isAgg5
 z5:=Tryz.sizeOf5
 v5:=Tryz.zeroValue5
 t9:=Tryz.underlying9
 a9:=Tryz.isAgg9
 z9:=Tryz.sizeOf9
 v9:=Tryz.zeroValue9
 t22:=Tryz.underlying249
 a22:=Tryz.isAgg249
 z22:=Tryz.sizeOf249
 v22:=Tryz.zeroValue249
 t25:=Tryz.underlying248
 a25:=Tryz.isAgg248
 z25:=Tryz.sizeOf248
 v25:=Tryz.zeroValue248
 t39:=Tryz.underlying245
 a39:=Tryz.isAgg245
 z39:=Tryz.sizeOf245
 v39:=Tryz.zeroValue245
 t45:=Tryz.underlying306
 a45:=Tryz.isAgg306
 z45:=Tryz.sizeOf306
 v45:=Tryz.zeroValue306
 t46:=Tryz.underlying307
 a46:=Tryz.isAgg307
 z46:=Tryz.sizeOf307
 v46:=Tryz.zeroValue307
 t50:=Tryz.underlying191
 a50:=Tryz.isAgg191
 z50:=Tryz.sizeOf191
 v50:=Tryz.zeroValue191
 t53:=Tryz.underlying313
 a53:=Tryz.isAgg313
 z53:=Tryz.sizeOf313
 v53:=Tryz.zeroValue313
 t55:=Tryz.underlying315
 a55:=Tryz.isAgg315
 z55:=Tryz.sizeOf315
 v55:=Tryz.zeroValue315
 t66:=Tryz.underlying349
 a66:=Tryz.isAgg349
 z66:=Tryz.sizeOf349
 v66:=Tryz.zeroValue349
 t70:=Tryz.underlying353
 a70:=Tryz.isAgg353
 z70:=Tryz.sizeOf353
 v70:=Tryz.zeroValue353
 t76:=Tryz.underlying382
 a76:=Tryz.isAgg382
 z76:=Tryz.sizeOf382
 v76:=Tryz.zeroValue382
 t77:=Tryz.underlying213
 a77:=Tryz.isAgg213
 z77:=Tryz.sizeOf213
 v77:=Tryz.zeroValue213 }
end Go.Proofs
namespace Go.Sg
open Go.Proofs Go.Proofs.Tryz Go.RowKit
theorem Qw{h:HF}{b:Option Addr}{xs:List Int}(hs:SlB kB h b xs)(hne:xs≠[]):∃g off,b=some ⟨g,off,none⟩/\∀w,Pre h [] w->∀j,j<xs.length->w.cell? ⟨g,off+j,none⟩=some (.int .i64 (xs.getD j 0)):=by
 obtain⟨x0,r,rfl⟩:∃x r,xs=x::r:=by cases xs with
  |nil=>exact(hne rfl).elim
  |cons x r=>exact⟨x,r,rfl⟩
 obtain⟨p,cs,rfl,hA,_,_⟩:=hs.2 0 x0 rfl
 have hsp:p.spot=none:=by
  obtain⟨_,_,_,_,h2,_⟩:=hA
  simpa[qV]using h2
 obtain⟨g,off,sp⟩:=p
 simp only at hsp
 subst hsp
 refine⟨g,off,rfl,λw hp j hj=>?_⟩
 obtain⟨p',cs',e,hA',hl,hr⟩:=hs.2 j ((x0::r)[j]) (by rw[vF hj])
 cases e
 have hcs:cs'=[.int .i64 ((x0::r)[j])]:=hr
 subst hcs
 have hc:=hA'.cell (X:=⟨w,h,[]⟩) (L:=[]) (aBg hp) (j:=0) (v:=.int .i64 ((x0::r)[j])) rfl
 have ha:((⟨g,off,none⟩:Addr).add (j*Rp.int.sz)).add 0=⟨g,off+j,none⟩:=by
  have h1:j*Rp.int.sz=j:=Nat.mul_one j
  rw[h1]
  by_cases e0:j=0
  .subst e0;simp[qV]
  .simp[qV,e0]
 rw[ha]at hc
 rw[hc]
 simp[List.getD,vF hj]
theorem nv(h:HF)(x:List Int)(Ra:Option Addr)(QU:Nat)(target:Int)(hx:SlC kB h Ra QU x)(hs:x.Pairwise (·<=·))(hsz:x.length<=2000000):
  Ret prog 114 [.slice Ra x.length QU,.int .i64 target] h (.tuple #[.int .i64 (slices_BinarySearch_int x target).1,.bool (slices_BinarySearch_int x target).2]):=by
 intro w hp
 by_cases hne:x=[]
 .subst hne
  refine(lj (Tryz.slices_BinarySearch_int_empty Ra QU target w) (λw' hw=>by cases hw.1)).mono ?_
  rintro e w' ⟨rfl,rfl⟩
  exact⟨h,[],aBg hp,rfl,rfl,rfl⟩
 .obtain⟨g,off,rfl,hc⟩:=Qw hx.1 hne
  refine(lj (Tryz.slices_BinarySearch_int g off x.length QU x target w (kF _) (by omega) (hc w hp) (by simpa using hs)) (λw' hw=>by cases hw.1)).mono ?_
  rintro e w' ⟨rfl,q,rfl⟩
  refine⟨h,[],(aBg hp).drew _,?_,rfl,rfl⟩
  simp[bsI,slices_BinarySearch_int]
theorem mS(h:HF)(xs:List Int)(b:Option Addr)(c:Nat)(G:LH)(hG:dC kB 3 h xs b c G)(hsz:xs.length<=1000000000000):
  oA prog 88 [.slice b xs.length c].toArray h G (λr h' G'=>h'=h/\r=.returned (.tuple #[])/\dC kB 3 h (sortI xs) b c G'):=by
 intro w hp
 rcases hG with⟨rfl,rfl,rfl,rfl⟩|⟨bk,cl,sp,rfl,hcl,hlen,hcap,hmax,rfl⟩
 .refine(lj (Tryz.slices_Sort_int_none none 0 w) (λw' hw=>by cases hw.1)).mono ?_
  rintro e w' ⟨rfl,rfl⟩
  exact⟨h,[],aBg hp,rfl,rfl,by rw[show sortI []=[]from by simp[sortI]];exact dC.nil⟩
 .have hb:=hp.own _ (jD.2 rfl)
  simp only at hb
  have hcl':cl=xs.map (kC .i64):=by
   clear hlen hb hp hcap hmax hsz
   induction xs generalizing cl with
   |nil=>exact hcl
   |cons y l ih=>
    obtain⟨cs,r,rfl,_,hr,hl⟩:=hcl
    have:cs=[.int .i64 y]:=hr
    rw[this,ih r hl];rfl
  subst hcl'
  have hH:Sort.Holds (kC .i64) w bk 0 xs.toArray:=by
   refine holds_of_blockI (cur:=(xs.map (kC .i64)++sp).toArray) (e:=3) hb ?_
   simp
  refine(lj (Tryz.slices_Sort_int bk 0 c xs w hH (iq hb) (by omega)) (λw' hw=>by cases hw.1)).mono ?_
  rw[IY]
  rintro e w' ⟨rfl,n,os,rfl⟩
  obtain⟨g1,g2,g3,g4,g5⟩:=grownBy_sortedI (w:=w) (g:=bk) (n:=n) (os:=os) (sortI xs).toArray
  have hnew:=heap_sortedI (w:=w) (g:=bk) (n:=n) (os:=os) (sortI xs).toArray hb
  have htake:=take_putCellsI (xs.map (kC .i64)++sp).toArray (sortI xs) (by rw[jc];simp)
  refine⟨h,[(bk,.cells (Sort.putCells (kC .i64) 0 (sortI xs).toArray (xs.map (kC .i64)++sp).toArray) 3 (0,0))],⟨g1,g2,g3,g4,λk hk hM=>g5 k hk (λe=>hM (by cases e;simp)),λ_ _ e=>e,λ_ _=>rfl,λk o e=>?_,λq hq=>?_,?_,?_,?_⟩,rfl,rfl,?_⟩
  .have hne:k≠bk:=λe'=>by
    have:=hp.free _ (jD.2 rfl)
    simp only at this
    rw[e',this]at e;cases e
   exact(g5 k (iq (hp.imm k o e)) (λe'=>by cases e';exact hne rfl)).trans (hp.imm k o e)
  .rw[jD.1 hq];exact hnew
  .simp
  .intro q hq;rw[jD.1 hq];exact hp.free (bk,zJ (xs.map (kC .i64)++sp).toArray 3 (0,0)) (jD.2 rfl)
  .intro q hq;rw[jD.1 hq];exact .inr (by simp)
  .refine .inr ⟨bk,(sortI xs).map (kC .i64),(Sort.putCells (kC .i64) 0 (sortI xs).toArray (xs.map (kC .i64)++sp).toArray).toList.drop xs.length,rfl,?_,?_,by rw[jc];exact hcap,by rw[jc];exact hmax,?_⟩
   .have:∀l:List Int,bI kB h (l.map (kC .i64)) l:=by
     intro l
     induction l with
     |nil=>rfl
     |cons y l ih=>exact⟨[.int .i64 y],l.map (kC .i64),rfl,rfl,rfl,ih⟩
    exact this _
   .rw[←htake,jc,List.take_append_drop]
    simpa[Sort.putCells]using hlen
   .rw[←htake,jc,List.take_append_drop]
section steps
variable {P:Program} {b:Frame} {n:Nat} {ops:Array Oper} {F:List Frame->(Machine->Prop)->Prop} {e:Env} {ds:List Deferred} {X:Cx} {h:HF} {L:LH} {K:Env->HF->LH->Prop}
variable {d:Option Nat} {ty:TypeId} {pos:String} {af:Array Edge} {g:Option (Nat×Bool)}
theorem nw(A0 G Q:LH){v:Value}{Φ : LH->Prop}{f:FuncId}{ass:Array Operand}{ats:Array TypeId}{vs:List Value}(hc:∀args w,(callFunc f args).run P w=.ok (.enter f args) w)(hs:oA P f vs.toArray h G (λr h' G'=>h'=h/\r=.returned v/\Φ G'))(hL:L=A0++(G++Q))(hvs:ass.toList.map e.ev=vs)(t':∀G',Φ G'->K (pute e d v) h (A0++(G'++Q)))(hg:guardB ops e ⟨d,.call ⟨.value (.func f),ass,ats⟩,ty,pos,af,g⟩=true:=by rfl):
  Stp P b n ops F ds X ⟨d,.call ⟨.value (.func f),ass,ats⟩,ty,pos,af,g⟩ e h L K:=by
 unfold Stp
 rw[if_pos hg]
 intro w hw
 subst hL
 have hp:∀G:LH,(A0++(G++Q)).Perm (G++(A0++Q)):=λG=>by
  rw[←kD,←kD];exact List.Perm.append_right Q List.perm_append_comm
 have hw':=hw.perm (hp G)
 have harr:ass.map e.ev=vs.toArray:=Array.ext' (by simp[←hvs])
 have hr:(execOp e.ev ⟨d,.call ⟨.value (.func f),ass,ats⟩,ty,pos,af,g⟩).run P w=.ok (.enter f vs.toArray) w:=by
  simp[execOp,resolve,Env.ev,zK,invoke,harr,hc]
 rw[hr]
 refine mm (by simp) (kw (rL.mono (hs w hw'.pre.left) ?_))
 rintro x w' ⟨h',B,hst,rfl,rfl,hG⟩
 exact⟨h',_,(St.after (A:=G) (F:=A0++Q) hw' hst).perm (hp B).symm,t' B hG⟩
end steps
end Go.Sg

namespace Go.Sg
open Go.Proofs Go.Proofs.Tryz
set_option maxHeartbeats 2000000
theorem rD(h:HF)(s:List Approval)(sK:Option Addr)(sJ:Nat)(f:(Approval->Bool))(f_v:Value)(hs:SlC xL h sK sJ s)(hf:∀(h':HF)(dl:Approval),vM h h'->pQ prog f_v [.agg (xC dl).toArray] h' [] (.bool (f dl))):Ret prog 197 [.slice sK s.length sJ,f_v] h (I (cQ s f)):=by
 refine sT func197 U ntmps197 U λX hM hX hF=>?_
 have hs0:cQ s f=cQ s f:=rfl
 refine qK 11 [] U ?_
 refine lp0 s (λi=>[(0,.slice sK s.length sJ),(1,f_v),(7,I (s.length:Int)),(8,I (i:Int))]) ([]) (λs1 i=>(cQ.L1 f (cQ.K1)) s1 i) hs.1.1 hs0 ?_ ?_
 .rintro i1 ft hs1 e
  exact sr (an (nretP [I (-1)] (ci hs1)))
 rintro i1 y1 rz1 hd1 df aS dZ gy hs3 hx1 ag1 e
 refine sr (tO df U (qO 16 U (aB (iF xC wJ ty81 hs.1 aS U U U (λq2 A2=>dq ty81 A2 U U (aB (ke (v:=.bool (f y1)) [] (List.nil_sublist _) (hf h y1 lf) U U (aJ (ae hs3 U (λc2 hs4=>?_) (λc2 hs5=>?_))))))))))
 .exact sr (qO 3 U (nretP [I (i1:Int)] (ci hs4)))
 exact aI (qT 2 U (oi i1 U (qO 2 U (ag1 hs5))))
theorem qt(x:Approval):(xC x).length=8:=rfl
theorem Ao(f:Approval->Bool):∀(l:List Approval)(i:Nat),(cQ.L1 f cQ.K1 l i=-1/\∀x∈l,f x=false) \/
  ∃a y b,l=a++y::b/\cQ.L1 f cQ.K1 l i=((i+a.length:Nat):Int)/\f y=true/\∀x∈a,f x=false
 |[],i=>.inl ⟨rfl,λ_ h=>(kA h).elim⟩
 |y::l,i=>by
  simp only[cQ.L1]
  cases hy:f y with
  |true=>exact .inr ⟨[],y,l,rfl,by simp,hy,λ_ h=>(kA h).elim⟩
  |false=>
   rcases Ao f l (i+1)with⟨h1,h2⟩|⟨a,z,b,rfl,h2,h3,h4⟩
   .exact .inl ⟨h1,λx hx=>by rcases qC.1 hx with rfl|hx;exact hy;exact h2 x hx⟩
   refine .inr ⟨y::a,z,b,rfl,?_,h3,λx hx=>by rcases qC.1 hx with rfl|hx;exact hy;exact h4 x hx⟩
   rw[cond_false,h2];simp only[xA];congr 1;omega
theorem CH{q:Approval->Bool}{l:List Approval}(h:∀x∈l,q x=false):(l.filter λx=>!(q x))=l:=by
 rw[List.filter_eq_self];intro x hx;simp[h x hx]
theorem N3{q:Approval->Bool}{s zs:List Approval}{i j:Nat}{y:Approval}(hij:i<j)(hz:zs.length=s.length)(hj:s[j]? = some y)(ht:zs.take i=(s.take j).filter λx=>!(q x))(hd:zs.drop j=s.drop j)(hy:q y=false):
  (zs.set i y).take (i+1)=((s.take (j+1)).filter λx=>!(q x))/\(zs.set i y).drop (j+1)=s.drop (j+1):=by
 have hjl:j<s.length:=by
  rcases xQ j s.length with h|h
  .exact h
  simp[List.getElem?_eq_none h]at hj
 constructor
 .rw[List.take_add_one,List.take_set_of_le (kF _),ht,List.take_add_one,hj,List.filter_append]
  simp[hy,show i<zs.length from by omega]
 rw[List.drop_set_of_lt ob,←List.drop_drop,hd,List.drop_drop]
theorem N2{q:Approval->Bool}{s zs:List Approval}{i j:Nat}{y:Approval}(hj:s[j]? = some y)(ht:zs.take i=(s.take j).filter λx=>!(q x))(hd:zs.drop j=s.drop j)(hy:q y=true):
  zs.take i=((s.take (j+1)).filter λx=>!(q x))/\zs.drop (j+1)=s.drop (j+1):=by
 constructor
 .rw[List.take_add_one,hj,List.filter_append,ht];simp[hy]
 rw[←List.drop_drop,hd,List.drop_drop]
theorem CI{h:HF}{xs:List Approval}{bk c:Nat}{sp:List Value}(h3:(xs.flatMap xC++sp).length=c*8)(h4:xs.length<=c)(h5:xs.length<=9223372036854775807):dC xL 81 h xs (some ⟨bk,0,none⟩) c [(bk,.cells (xs.flatMap xC++sp).toArray 81 (0,0))]:=
 .inr ⟨bk,_,sp,rfl,Gp (λ_ _=>rfl) qt h xs,h3,h4,h5,rfl⟩
theorem qy(h:HF)(s:List Approval)(b:Option Addr)(c:Nat)(G:LH)(del:Approval->Bool)(del_v:Value)(hG:dC xL 81 h s b c G)(hdel:∀(h':HF)(dl:Approval),vM h h'->pQ prog del_v [.agg (xC dl).toArray] h' [] (.bool (del dl)))(hsz:s.length<=2000000):
  oA prog 104 [.slice b s.length c,del_v].toArray h G (λr h' G'=>h'=h/\r=.returned (.slice b (fQ s del).length c)/\dC xL 81 h (fQ s del) b c G'):=by
 refine cZ func104 U ntmps104 U λX hM hX=>qT 8 U (aB (E4 [] G [] call197 zH hG (by simp) (λh1 hle hsl=>rD h1 s b c del del_v hsl (λh' a hl=>hdel h' a (hle.t hl))) U (qO 6 U ?_)))
 have hcase:=Ao del s 0
 rw[show cQ.L1 del cQ.K1 s 0=cQ s del from rfl]at hcase
 rcases hcase with⟨h1,h2⟩|⟨a,y,r,hs,h1,hy,ha⟩
 .rw[h1]
  refine jO (v':=.bool true) U U (qO 7 U ?_)
  have hf:fQ s del=s:=CH h2
  refine qe func104 (λa ha w hw=>res1 U a ha w) (λw hw=>hw.lower) ⟨hX,?_,?_⟩
  .rw[hf];rfl
  rw[hf];exact hG
 rw[h1,Nat.zero_add]
 have hne:((a.length:Int)==-1)=false:=by simp
 have hsl:s.length=a.length+(r.length+1):=by rw[hs];simp
 refine fO hne U (qO 7 U (jO (v':=I ((a.length+1:Nat):Int)) U (L7 ob) (an ?_)))
 refine iX (ι:=Nat×List Approval×LH) (λi=>[(0,.slice b s.length c),(1,del_v),(5,I (i.1:Int))]) (λi=>h) (λi=>i.2.2)
  (λi=>i.1<s.length/\i.2.1.length=s.length/\i.2.1.take i.1=fQ s del/\dC xL 81 h i.2.1 b c i.2.2) ?_ (λhx=>?_)
 .rintro⟨i,zs,G'⟩ ⟨hi,hz,hf,hG'⟩ e
  dsimp only at hi hz hf hG'
  rcases hG' with⟨rfl,_⟩|⟨bk,cl,sp,rfl,hcl,h3,h4,h5,rfl⟩
  .simp at hz;omega
  have hcl':=Bh (C:=xC) (λ_ _ _ e=>e) hcl
  subst hcl'
  have hcz:zs.length<=c:=h4
  have hzl:=te qt zs
  have h3':zs.length*8+sp.length=c*8:=by rw[←hzl,←jA];exact h3
  have hzn:(i:Int).toNat=i:=by omega
  have hgf:dC xL 81 h zs (some ⟨bk,0,none⟩) c [(bk,.cells (zs.flatMap xC++sp).toArray 81 (0,0))]:=CI h3 h4 h5
  obtain⟨m,hm⟩:∃m,s.length-i=m+1:=⟨s.length-i-1,by omega⟩
  refine qT 4 U (aB (fK (v:=.slice (some ⟨bk,i*8,none⟩) (m+1) (c-i)) (LD wJ ty81 U U ob ob hm) (aB (Nv (P:=prog) 0 (sz:=8) (zs:=[I 0,I 0,I 0,I 0,I 0,I 0,I 0,.bool false]) (bk:=bk) (cl:=zs.flatMap xC++sp) (cc:=c-i) wJ (fw zv81) U U (by decide) (by decide) U U (off:=i*8) (m:=m) (by rw[jA,hzl];omega) (λvs hvl=>?_)))))
  have hsp:∃sp',splice (zs.flatMap xC++sp) (i*8) vs=(zs.take i).flatMap xC++sp':=by
   have e1:zs.flatMap xC++sp=(zs.take i).flatMap xC++((zs.drop i).flatMap xC++sp):=by
    rw[←kD,←List.flatMap_append,List.take_append_drop]
   rw[e1]
   have e2:i*8=((zs.take i).flatMap xC).length:=by rw[te qt,List.length_take];congr 1;omega
   have:=yS vs ((zs.take i).flatMap xC) ((zs.drop i).flatMap xC++sp) (by rw[jA,te qt,List.length_drop,hvl];omega)
   rw[←e2]at this
   exact⟨_,this⟩
  obtain⟨sp',hsp⟩:=hsp
  have hlen:((zs.take i).flatMap xC++sp').length=c*8:=by
   rw[←hsp,He];exact h3
  show TO _ _ _ _ _ _ _ _ _ _ h [(bk,.cells (splice (zs.flatMap xC++sp) (i*8) vs).toArray 81 (0,0))]
  rw[hsp]
  have hg2:dC xL 81 h (zs.take i) (some ⟨bk,0,none⟩) c [(bk,.cells ((zs.take i).flatMap xC++sp').toArray 81 (0,0))]:=
   CI hlen (by rw[List.length_take];omega) (by rw[List.length_take];omega)
  refine qO 5 U (aB (OV (z:=(i:Int)) wJ ty81 hgf ob (by show _=Value.slice _ _ _;rw[hz];rfl) U U (an ?_)))
  refine qe func104 (λa ha w hw=>res1 U a ha w) (λw hw=>hw.lower) ⟨hX,?_,?_⟩
  .rw[←hf,hzn];rfl
  rw[←hf];exact hg2
 refine kY (ι:=Nat×Nat×List Approval×LH) (λi=>[(0,.slice b s.length c),(1,del_v),(5,I (i.1:Int)),(6,I (i.2.1:Int))]) (λi=>h) (λi=>i.2.2.2)
  (λi=>i.1<i.2.1/\i.2.1<=s.length/\i.2.2.1.length=s.length/\i.2.2.1.take i.1=((s.take i.2.1).filter λx=>!(del x))/\i.2.2.1.drop i.2.1=s.drop i.2.1/\dC xL 81 h i.2.2.1 b c i.2.2.2)
  (λi=>s.length-i.2.1) (a.length,a.length+1,s,G) rd (λw hw=>hw) ⟨Nat.lt_succ_self _,by show a.length+1<=s.length;omega,rfl,?_,rfl,hG⟩ ?_
 .show s.take a.length=((s.take (a.length+1)).filter λx=>!(del x))
  rw[hs,List.take_left' rfl,List.take_add_one,List.take_left' rfl,List.filter_append,CH ha];simp[hy]
 rintro⟨i,j,zs,G'⟩ ⟨hij,hjl,hz,ht,hd,hG'⟩ ag e
 dsimp only at hij hjl hz ht hd hG'
 rcases xQ j s.length with hj|hj
 .have hjs:s[j]? = some s[j]:=vF hj
  have hjz:zs[j]? = some s[j]:=by
   have e1:(zs.drop j)[0]? = (s.drop j)[0]?:=by rw[hd]
   simpa[hjs]using e1
  have hiz:zs[i]? = some zs[i]:=vF ob
  rcases hG' with⟨rfl,_⟩|⟨bk,cl,sp,rfl,hcl,h3,h4,h5,rfl⟩
  .simp at hz;omega
  have hcl':=Bh (C:=xC) (λ_ _ _ e=>e) hcl
  subst hcl'
  refine qK 6 [] U (tO (decide_eq_true ob) U (qO 9 U (aB (fK (oJ (R:=xL) (xs:=zs) (z:=(j:Int)) wJ ty81 U ob U hz.symm U) (aB (fK (kg (off:=j*8) (cs:=xC s[j]) ty81 U (jD.2 U) (PR qt hjz)) (aT zc81 (λb7=>aL 0 ty81 U U U U U U (qO 4 U (cI 0 ty81 U U U (aB (ke (v:=.bool (del s[j])) [] (List.nil_sublist _) (hdel h s[j] lf) U U ?_))))))))))))
  cases hy:del s[j]with
  |true=>
   obtain⟨k1,k2⟩:=N2 hjs ht hd hy
   exact nl U (qO 6 U (oi j U (an (aX (L':=[(bk,.cells (zs.flatMap xC++sp).toArray 81 (0,0))]) js (ag (i,j+1,zs,[(bk,.cells (zs.flatMap xC++sp).toArray 81 (0,0))]) _ (by show s.length-(j+1)<s.length-j;omega) ⟨by show i<j+1;omega,hj,hz,k1,k2,CI h3 h4 h5⟩ rd)))))
  |false=>
   obtain⟨k1,k2⟩:=N3 hij hz hjs ht hd hy
   refine qO 7 U (cI 0 ty81 U U U (aB (fK (oJ (R:=xL) (xs:=zs) (z:=(i:Int)) wJ ty81 U ob U hz.symm U) (aB (lm 1 (off:=i*8) (vs:=xC s[j]) ty81 U U U U (by rw[jA,te qt,qt];exact Nat.ble_eq_true_of_le ob) U ?_)))))
   have hsl2:setNth [(b7,O (xC s[j]) 81),(bk,.cells (zs.flatMap xC++sp).toArray 81 (0,0))] 1 (bk,.cells (splice (zs.flatMap xC++sp) (i*8) (xC s[j])).toArray 81 (0,0))=[(b7,O (xC s[j]) 81),(bk,.cells ((zs.set i s[j]).flatMap xC++sp).toArray 81 (0,0))]:=by
    rw[JL qt hiz];rfl
   refine gJ hsl2 (qO 3 U (oi i U (qO 5 U (oi j U (an (aX (L':=[(bk,.cells ((zs.set i s[j]).flatMap xC++sp).toArray 81 (0,0))]) js ?_))))))
   have hzl2:(zs.set i s[j]).length=s.length:=by rw[List.length_set];exact hz
   exact ag (i+1,j+1,zs.set i s[j],[(bk,.cells ((zs.set i s[j]).flatMap xC++sp).toArray 81 (0,0))]) _ (by show s.length-(j+1)<s.length-j;omega) ⟨by show i+1<j+1;omega,hj,hzl2,k1,k2,CI (by rw[jA,te qt,List.length_set,←te qt,←jA];exact h3) (by rw[List.length_set];exact h4) (by rw[List.length_set];exact h5)⟩ rd
 have hje:j=s.length:=by omega
 subst hje
 exact qK 6 [] U (fO (decide_eq_false ob) U (qO 3 U (hx (i,zs,G') _ ⟨hij,hz,by show zs.take i=_;rw[ht,List.take_length];rfl,hG'⟩ rd)))
theorem u0(h:HF)(v0:List Approval)(uj:Option Addr)(ui:Nat)(v0_q:Addr)(v1:Int)(v1_q:Addr)(v2:Int)(v2_q:Addr)(v3:Int)(v3_q:Addr)(hv0:SlC xL h uj ui v0)(av0:At h v0_q [.slice uj v0.length ui])(av1:At h v1_q [I v1])(av2:At h v2_q [I v2])(av3:At h v3_q [I v3]):Itr prog (.func (.func 288) #[] (jB [.pointer (some v0_q),.pointer (some v1_q),.pointer (some v2_q),.pointer (some v3_q)])) pw (bo v0 v1 v2 v3) h:=by
 refine sV call288 ?_
 intro yf ya yb C Sp Pn h1 A hle m1 m2 m3 hC hy
 refine jW Ov U ntmps288 U λX hXM hX=>?_
 have hs0:bo v0 v1 v2 v3=[]++bo v0 v1 v2 v3:=rfl
 refine sr (dB ty28 (av0.mono hle) U (qL 3 [] U ?_))
 refine lp2 v0 (λi w=>[(0,.func yf ya yb),(2,.pointer (some v1_q)),(3,.pointer (some v2_q)),(4,.pointer (some v3_q)),(8,.slice uj v0.length ui),(9,I (v0.length:Int)),(10,I (i:Int))]) (λw=>w.2.2) (λw=>w.2.1) (λi w=>C w.1 w.2.2 w.2.1/\vM h1 w.2.2) (λs1 i w=>w.1++(bo.L1 v1 v2 v3 (bo.K1)) s1) ([],A,h1) ((hv0.mono zH hle).1.1) hs0 ⟨hC,lf⟩ ?_ ?_
 .rintro i1 ⟨dn1,A1_,hh1⟩ ft hs1 ⟨hC1_,hl1⟩ e
  refine ew ?_
  have hs2:bo v0 v1 v2 v3=dn1:=hs1.trans (List.append_nil _)
  exact sW [] (A:=A1_) Ov U (List.Sublist.refl _) (.inl (hs2▸hC1_))
 rintro i1 ⟨dn1,A1_,hh1⟩ y1 rz1 hd1 df aS dZ gy hs3 ⟨hC1_,hl1⟩ hx1 ag1 e
 refine sr (tO df U (qO 8 U (aB (iF xC wJ ty81 (hv0.mono zH (hle.t hl1)).1 aS U U U (λq2 A2=>dq ty81 A2 U U (aT zc81 (λb2=>aL 0 ty81 U U U U U U (gJ (L':=[(b2,O (xC y1) 81)]++(A1_)) U (qL 5 [0] U (dB ty3 (av1.mono (hle.t hl1)) U (qO 2 U (bA 5 [18,19,20,21,22,23] 18 23 (decide (y1.At<=v2)) U (λc1 hk1=>?_) (λe=>?_)))))))))))))
 .exact qL 2 [0] U (dB ty3 (av2.mono (hle.t hl1)) U (qO 2 U (hk1 _ U)))
 refine av (bA 5 [24,25,26,27,28,29] 24 29 (decide (y1.Known<=v3)) U (λc2 hk2=>?_) (λe=>?_))
 .exact qL 2 [0] U (dB ty3 (av3.mono (hle.t hl1)) U (qO 2 U (hk2 _ U)))
 refine av (uG 30 U (λc3=>?_) (λc3=>?_))
 .have hs4:=hs3.trans (congrArg (dn1++·) (bt c3))
  refine av (cI 0 ty81 U U U ?_)
  have hx1:bo v0 v1 v2 v3=dn1++(y1::(bo.L1 v1 v2 v3 (bo.K1) rz1)):=hs4
  refine aB (ll ([(b2,O (xC y1) 81)]) A1_ ap (hy dn1 y1 _ _ _ _ hx1 hl1 hC1_ U) U U (λh2 A3 hle1 hC1=>?_) (λh3 A4 hle2 hS1=>?_) (λch1 h4 A5 hle3 hP1 e=>gV (nh [] (A:=A5) Ov (List.sublist_append_right _ _) hP1)))
  .have hs5:bo v0 v1 v2 v3=(dn1++[y1])++((bo.L1 v1 v2 v3 (bo.K1) rz1)):=hx1.trans ap
   exact nl U (qO 6 U (oi i1 U (qO 2 U (aX (L':=A3) js (ag1 ((dn1++[y1]),A3,h2) hs5 ⟨hC1,(hl1.t hle1)⟩)))))
  exact nl U (qO 3 U (ew (m4 [] (A:=A4) Ov U js (.inr hS1))))
 have hs6:=hs3.trans (congrArg (dn1++·) (bf c3))
 exact kq (qO 8 U (oi i1 U (qO 2 U (aX (L':=A1_) js (ag1 (dn1,A1_,hh1) hs6 ⟨hC1_,hl1⟩)))))
theorem pZ(h:HF)(l:List Approval)(eu:Option Addr)(et:Nat)(doc:Int)(aH:Int)(known:Int)(hl:SlC xL h eu et l):jv prog 198 [.slice eu l.length et,I doc,I aH,I known] h (λv h'=>∃(rv0:Value),v=rv0/\Itr prog rv0 pw (eD l doc aH known) h'):=by
 refine sT func198 U ntmps198 U λX hM hX hF=>?_
 have hs0:eD l doc aH known=eD l doc aH known:=rfl
 refine sr (cz (λb1=>cz (λb2=>cz (λb3=>cz (λb4=>qO 4 U (aU 3 U hM (λh1 hle1 hb1=>aU 2 U hM (λh2 hle2 hb2=>aU 1 U hM (λh3 hle3 hb3=>aU 0 U hM (λh4 hle4 hb4=>aB (eL U U (an ?_))))))))))))
 have hs1:eD l doc aH known=(bo l doc aH known):=hs0
 exact nretH [.func (.func 288) #[] #[Q b1,Q b2,Q b3,Q b4]] ⟨(.func (.func 288) #[] #[Q b1,Q b2,Q b3,Q b4]),congrArg (λr:List Approval=>((.func (.func 288) #[] #[Q b1,Q b2,Q b3,Q b4]):Value)) hs1.symm,(by rw[hs1];exact(u0 h4 l eu et ⟨b1,0,none⟩ doc ⟨b2,0,none⟩ aH ⟨b3,0,none⟩ known ⟨b4,0,none⟩ (hl.mono zH (((hle1.t hle2).t hle3).t hle4)) ((cL hb1).mono ((hle2.t hle3).t hle4)) ((cL hb2).mono (hle3.t hle4)) ((cL hb3).mono hle4) (cL hb4)))⟩
theorem pJ(l:List Approval)(doc aH known:Int):(eD l doc aH known).length<=l.length:=by
 show(bo.L1 doc aH known bo.K1 l).length<=l.length
 induction l with
 |nil=>exact kF _
 |cons y l ih=>simp only[bo.L1,Bool.cond_eq_ite];split<;>simp only[xA]<;>omega
theorem je(h:HF)(x:Approval)  : Ret prog 199 [.agg (xC x).toArray] h (.agg (fu.cells (cd x)).toArray):=by
 refine cZ func199 U ntmps199 U λX hM hX=>?_
 have hs0:cd x=cd x:=rfl
 refine sr (cz (λb1=>aT zc274 (λb2=>qL 11 [1,1,1,1] U (aB (fV (cells:=[I x.Doc,I x.By,I x.For,I x.Office]) (places:=[(0,1),(1,1),(2,1),(3,1)]) OF zc274 kr kr (aL 0 ty274 U U U U U U (aJ ?_)))))))
 have hs1:cd x=(fu.mk x.Doc x.By x.For x.Office):=hs0
 exact tC [.agg (jB [I x.Doc,I x.By,I x.For,I x.Office])] func199 U hX ⟨⟨0,_,_,_,_,U,U,.inl ⟨ty274,U⟩⟩,trivial⟩ (congrArg (λr:fu=>(.agg (fu.cells r).toArray:Value)) hs1.symm)
theorem w7(h:HF)(l:List Approval)(eu:Option Addr)(et:Nat)(doc:Int)(aH:Int)(known:Int)(hl:SlC xL h eu et l)(hsz:l.length<=2000000):R0 prog 105 [.slice eu l.length et,I doc,I aH,I known] h xL 81 (aG l doc aH known):=by
 refine cZ Ou U ntmps105 U λX hM hX=>?_
 have hs0:aG l doc aH known=aG l doc aH known:=rfl
 refine sr (aT zc28 (λb1=>qO 3 U (aB (oB (λb2=>aT zc270 (λb3=>cM 0 ty270 U U U U U U (qO 8 U (aB (cT call198 (pZ _ _ _ _ doc aH known hl) U (λv1 h1 hle1 hp1=>?_))))))))))
 obtain⟨_,rfl,mo1⟩:=hp1
 refine qO 2 U (ew ?_)
 let z1:Nat×Obj:=(b3,O [.map (some b2)] 270)
 let z2:Nat×Obj:=(b1,O [.slice none 0 0] 28)
 refine cv (L':=([z1,(b2,.map #[] 0),z2])++markB []) ap ?_
 refine kp (it:=v1) (xs:=(eD l doc aH known)) (ι:=(List (fu×Approval))×Obj×HF) [] (λi=>i.2.2) (λi=>[z1,(b2,i.2.1),z2]) (λs i=>aG l doc aH known=((aG.L1 (aG.K1 l doc aH known)) s i.1)/\j8 fu.enc (jf xL) i.2.2 i.2.1 i.1/\vM h1 i.2.2) (λ_=>False) (λ_=>False) 0 (λ_ _ _=>False) ([],.map #[] 0,h1) Ou U mo1 U qj (λ_ _ _ _ _ hq=>hq) U (show[z1,(b2,.map #[] 0),z2]=_ from U) ⟨hs0,((j8.nil (enc:=fu.enc) (V:=(jf xL)) (h:=h)).mono (jf.mono zH) hle1),lf⟩ ?_ ?_ ?_ ?_ ?_
 .rintro l1 dm1 lp1 y1 rz1 vs1 ⟨bV,ec,hh1⟩ hr1 X hFR1 ⟨hs1,gK,hl1⟩ hl01 hlr1 hv1 hX hXM hlp1 nx1 rt1 ex1 pn1
  obtain rfl:=hv1
  let z6:Nat×Obj:=(dm1,.deferred (some []))
  refine cv (L':=[(l1,.loop lp1),z6,z1,(b2,ec),z2]++(markB [])) ap (bE (aT zc81 (λb6=>aL 0 ty81 U U U U U U (aJ (kc 1 U hlp1 (qT 2 U ?_))))))
  let z3:Nat×Obj:=(l1,.loop { lp1 with state:=.busy })
  let z7:Nat×Obj:=(b6,O (xC y1) 81)
  refine eT ([z7,z3,z6,z1,(b2,ec),z2]) mixed kr jn (λeo _=>?_)
  refine tf 0 U U (rj 3 ty270 U U U) (tf 1 U U (λ_ _ hj=>kg ty81 U (hj.nth (i:=0) U) U) ?_)
  refine og 2 7 kr U U ?_ ?_ 
  .refine fo Jw (je hr1 y1) U (⟨jn,?_⟩)
   refine og 3 7 kr U U ?_ ?_ 
   .refine lN 4 (k:=(cd y1)) HD mp U (gK.mono (jf.mono zH) hlr1) (fw zv81) (show(jf xL) _ (.agg (jB [I 0,I 0,I 0,I 0,I 0,I 0,I 0,.bool false])) (xW 0 0 0 0 0 0 0 false)from⟨_,U,U⟩) U U (λv3 hv2=>?_)
    obtain⟨_,rfl,rfl⟩:=hv2
    refine⟨jn,qR 4 3 U (tn 7 U (BI zc81 (λb7=>⟨jn,tn 8 U (sI 0 ty81 U U U U U U (⟨jn,qA [9] U (aQ kr (qT 5 U (ce 6 [30,31,32,33,34,35,36] 30 36 (decide ((mgetD bV (cd y1) (xW 0 0 0 0 0 0 0 false)).At<=y1.At)) U (λc1 hk1=>?_) (λe=>?_))))⟩))⟩)))⟩
    .exact qL 6 [1,0] U (hk1 _ U)
    refine aJ (ae hs1 U (λc2 hs2=>?_) (λc2 hs3=>?_))
    .let z11:Nat×Obj:=(b7,O (xC (mgetD bV (cd y1) (xW 0 0 0 0 0 0 0 false))) 81)
     refine eT ([z11,z7,z3,z6,z1,z2]) mixed kr jn (λmK _=>?_)
     exact tf 0 U U (rj 4 ty270 U U U) (tf 1 U U (λ_ _ hj=>kg ty81 U (hj.nth (i:=1) U) U) (tf 3 U U (λ_ _ hj=>kg ty81 U (hj.nth (i:=1) U) U) (tn 2 U (fo Jw (je hr1 y1) U (⟨jn,tn 4 U (lg 5 (k:=(cd y1)) (x:=y1) HD mp U (gK.mono (jf.mono zH) hlr1) U U ⟨_,U,U⟩ (λmo2 hm1=>⟨jn,aQ kr (fe (aX (L':=[z3,z6,z1,(b2,mo2),z2]++(markB [])) js (cv (L':=rdH l1 dm1 lp1 (([z1,(b2,mo2),z2])++markB [])) ap (nx1 ((mput bV (cd y1) y1),mo2,hr1) _ _ ⟨hs2,hm1,(hl1.t hlr1)⟩ lf))))⟩))⟩)))))
    exact aI (fe (aX (L':=[z3,z6,z1,(b2,ec),z2]++(markB [])) js (cv (L':=rdH l1 dm1 lp1 (([z1,(b2,ec),z2])++markB [])) ap (nx1 (bV,ec,hr1) _ _ ⟨hs3,(gK.mono (jf.mono zH) hlr1),(hl1.t hlr1)⟩ lf))))
   refine BI zc81 (λb8=>⟨jn,tn 3 U (lN 5 (k:=(cd y1)) HD mp U (gK.mono (jf.mono zH) hlr1) (fw zv81) (show(jf xL) _ (.agg (jB [I 0,I 0,I 0,I 0,I 0,I 0,I 0,.bool false])) (xW 0 0 0 0 0 0 0 false)from⟨_,U,U⟩) U U (λv4 hv3=>?_))⟩)
   obtain⟨_,rfl,rfl⟩:=hv3
   refine⟨jn,qR 4 3 U (tn 8 U (sI 0 ty81 U U U U U U (⟨jn,qA [9] U (aQ kr (qT 5 U (ce 6 [30,31,32,33,34,35,36] 30 36 (decide ((mgetD bV (cd y1) (xW 0 0 0 0 0 0 0 false)).At<=y1.At)) U (λc3 hk2=>?_) (λe=>?_))))⟩)))⟩
   .exact qL 6 [1,0] U (hk2 _ U)
   refine aJ (ae hs1 U (λc4 hs4=>?_) (λc4 hs5=>?_))
   .let z12:Nat×Obj:=(b8,O (xC (mgetD bV (cd y1) (xW 0 0 0 0 0 0 0 false))) 81)
    refine eT ([z12,z7,z3,z6,z1,z2]) mixed kr jn (λKG _=>?_)
    exact tf 0 U U (rj 4 ty270 U U U) (tf 1 U U (λ_ _ hj=>kg ty81 U (hj.nth (i:=1) U) U) (tf 3 U U (λ_ _ hj=>kg ty81 U (hj.nth (i:=1) U) U) (tn 2 U (fo Jw (je hr1 y1) U (⟨jn,tn 4 U (lg 5 (k:=(cd y1)) (x:=y1) HD mp U (gK.mono (jf.mono zH) hlr1) U U ⟨_,U,U⟩ (λmo3 hm2=>⟨jn,aQ kr (fe (aX (L':=[z3,z6,z1,(b2,mo3),z2]++(markB [])) js (cv (L':=rdH l1 dm1 lp1 (([z1,(b2,mo3),z2])++markB [])) ap (nx1 ((mput bV (cd y1) y1),mo3,hr1) _ _ ⟨hs4,hm2,(hl1.t hlr1)⟩ lf))))⟩))⟩)))))
   exact aI (fe (aX (L':=[z3,z6,z1,(b2,ec),z2]++(markB [])) js (cv (L':=rdH l1 dm1 lp1 (([z1,(b2,ec),z2])++markB [])) ap (nx1 (bV,ec,hr1) _ _ ⟨hs5,(gK.mono (jf.mono zH) hlr1),(hl1.t hlr1)⟩ lf))))
  refine BI zc81 (λb9=>⟨jn,tn 2 U (fo Jw (je hr1 y1) U (⟨jn,tn 3 U (lN 5 (k:=(cd y1)) HD mp U (gK.mono (jf.mono zH) hlr1) (fw zv81) (show(jf xL) _ (.agg (jB [I 0,I 0,I 0,I 0,I 0,I 0,I 0,.bool false])) (xW 0 0 0 0 0 0 0 false)from⟨_,U,U⟩) U U (λv5 hv4=>?_))⟩))⟩)
  obtain⟨_,rfl,rfl⟩:=hv4
  refine⟨jn,qR 4 3 U (tn 8 U (sI 0 ty81 U U U U U U (⟨jn,qA [9] U (aQ kr (qT 5 U (ce 6 [30,31,32,33,34,35,36] 30 36 (decide ((mgetD bV (cd y1) (xW 0 0 0 0 0 0 0 false)).At<=y1.At)) U (λc5 hk3=>?_) (λe=>?_))))⟩)))⟩
  .exact qL 6 [1,0] U (hk3 _ U)
  refine aJ (ae hs1 U (λc6 hs6=>?_) (λc6 hs7=>?_))
  .let z13:Nat×Obj:=(b9,O (xC (mgetD bV (cd y1) (xW 0 0 0 0 0 0 0 false))) 81)
   refine eT ([z13,z7,z3,z6,z1,z2]) mixed kr jn (λSl _=>?_)
   exact tf 0 U U (rj 4 ty270 U U U) (tf 1 U U (λ_ _ hj=>kg ty81 U (hj.nth (i:=1) U) U) (tf 3 U U (λ_ _ hj=>kg ty81 U (hj.nth (i:=1) U) U) (tn 2 U (fo Jw (je hr1 y1) U (⟨jn,tn 4 U (lg 5 (k:=(cd y1)) (x:=y1) HD mp U (gK.mono (jf.mono zH) hlr1) U U ⟨_,U,U⟩ (λmo4 hm3=>⟨jn,aQ kr (fe (aX (L':=[z3,z6,z1,(b2,mo4),z2]++(markB [])) js (cv (L':=rdH l1 dm1 lp1 (([z1,(b2,mo4),z2])++markB [])) ap (nx1 ((mput bV (cd y1) y1),mo4,hr1) _ _ ⟨hs6,hm3,(hl1.t hlr1)⟩ lf))))⟩))⟩)))))
  exact aI (fe (aX (L':=[z3,z6,z1,(b2,ec),z2]++(markB [])) js (cv (L':=rdH l1 dm1 lp1 (([z1,(b2,ec),z2])++markB [])) ap (nx1 (bV,ec,hr1) _ _ ⟨hs7,(gK.mono (jf.mono zH) hlr1),(hl1.t hlr1)⟩ lf))))
 .rintro dm1 ⟨bV,ec,hh1⟩ hn1 ⟨hs8,gK,hl1⟩ hln1 hl01
  refine cv (L':=[z1,(b2,ec),z2]++(markB (dm1::[]))) ap (qT 8 U (aB (cT call198 (pZ _ _ _ _ doc aH known (hl.mono zH ((hle1.t hl1).t hln1))) U (λv6 h2 hle2 hp2=>?_))))
  obtain⟨_,rfl,mo5⟩:=hp2
  refine qO 2 U (cv (L':=([z1,(b2,ec),z2])++markB (dm1::[])) ap ?_)
  refine kp (it:=v6) (xs:=(eD l doc aH known)) (ι:=(List Approval)×Option Addr×Nat×LH×HF) (dm1::[]) (λi=>i.2.2.2.2) (λi=>[z1,(b2,ec),(b1,O [.slice i.2.1 i.1.length i.2.2.1] 28)]++(i.2.2.2.1)) (λs i=>aG l doc aH known=((aG.L2 bV (aG.K2)) s i.1)/\dC xL 81 i.2.2.2.2 i.1 i.2.1 i.2.2.1 i.2.2.2.1/\vM h2 i.2.2.2.2/\i.1.length+s.length<=l.length) (λ_=>False) (λ_=>False) 0 (λ_ _ _=>False) ([],none,0,[],h2) Ou U mo5 U qj (λ_ _ _ _ _ hq=>hq) U (show[z1,(b2,ec),z2]=_ from U) ⟨hs8,dC.nil,lf,(by have hc:=pJ l doc aH known;simpa using hc)⟩ ?_ ?_ ?_ ?_ ?_
  .rintro l2 dm2 lp2 y2 rz2 vs2 ⟨np,Cg,Cf,pz,hh2⟩ hr2 X hFR2 ⟨hs9,Ce,hl2,u2_0⟩ hl02 hlr2 hv2 hX hXM hlp2 nx2 rt2 ex2 pn2
   obtain rfl:=hv2
   simp only[xA]at u2_0
   let z4:Nat×Obj:=(b1,O [.slice Cg np.length Cf] 28)
   let z10:Nat×Obj:=(dm2,.deferred (some []))
   refine cv (L':=[(l2,.loop lp2),z10,z1,(b2,ec),z4]++(pz++(markB (dm1::[])))) ap (bE (aT zc81 (λb11=>aL 0 ty81 U U U U U U (gJ (L':=[(b11,O (xC y2) 81),(l2,.loop lp2),z10,z1,(b2,ec),z4]++(pz++(markB (dm1::[])))) U (aJ (kc 1 U hlp2 (qT 2 U ?_)))))))
   refine oE [(8,Q b1),(13,Q b11),(57,.bool ((!y2.Gone)&&(decide ((mgetD bV (cd y2) (xW 0 0 0 0 0 0 0 false))=y2))))] (λe=>?_) (λhk4=>?_)
   rotate_left
   .refine eT ([(b11,O (xC y2) 81),(l2,.loop { lp2 with state:=.busy }),z10,z1,(b2,ec),z4]) mixed kr jn (λSk _=>?_)
    refine qB [0] U (tf 1 U U (rj 0 ty4 U U U) (qA [2,3] U ?_))
    refine dx 50 U (λc7=>?_) (λc7=>?_)
    .refine tf 4 U U (rj 3 ty270 U U U) (tf 5 U U (λ_ _ hj=>kg ty81 U (hj.nth (i:=0) U) U) (tf 8 U U (λ_ _ hj=>kg ty81 U (hj.nth (i:=0) U) U) (tn 6 U (fo Jw (je hr2 y2) U (⟨jn,tn 7 U (qz 4 (k:=(cd y2)) HD mp U (gK.mono (jf.mono zH) (((hln1.t hle2).t hl2).t hlr2)) (fw zv81) (show(jf xL) _ (.agg (jB [I 0,I 0,I 0,I 0,I 0,I 0,I 0,.bool false])) (xW 0 0 0 0 0 0 0 false)from⟨_,U,U⟩) U U (λv8 hv6=>?_))⟩)))))
     obtain⟨_,rfl,rfl⟩:=hv6
     exact⟨jn,tf 9 U U (λ_ _ _=>MI (Jc (mgetD bV (cd y2) (xW 0 0 0 0 0 0 0 false)) y2) eqg81 U U) (qA [10] U (aQ kr (hk4 _ ⟨U,U,(cb (show(decide ((mgetD bV (cd y2) (xW 0 0 0 0 0 0 0 false))=y2))=((!y2.Gone)&&(decide ((mgetD bV (cd y2) (xW 0 0 0 0 0 0 0 false))=y2)))from by rw[c7]<;>rfl)),trivial⟩)))⟩
    exact tk 4 U U (qR 5 6 U (aQ kr (hk4 _ ⟨U,U,(cb (show false=((!y2.Gone)&&(decide ((mgetD bV (cd y2) (xW 0 0 0 0 0 0 0 false))=y2)))from by rw[c7]<;>rfl)),trivial⟩)))
   refine ae hs9 U (λc8 hs10=>?_) (λc8 hs11=>?_)
   .refine qK 2 [5] U (cI 0 ty81 U U U (aB (bB (cells:=[I y2.No,I y2.At,I y2.Known,I y2.Doc,I y2.By,I y2.For,I y2.Office,.bool y2.Gone]) wJ ty81 zc81 U U kr (λb12=>?_))))
    let z8:Nat×Obj:=(b12,O [I y2.No,I y2.At,I y2.Known,I y2.Doc,I y2.By,I y2.For,I y2.Office,.bool y2.Gone] 81)
    let z9:Nat×Obj:=(l2,.loop { lp2 with state:=.busy })
    let z14:Nat×Obj:=(b11,O (xC y2) 81)
    refine aB (dy Approval.em ([z8,z14,z9,z10,z1,(b2,ec),z4]) (markB (dm1::[])) (λG=>[z8,z14,z9,z10,z1,(b2,ec),z4]++(markB (dm1::[])++G)) ap (λ_=>ap) wJ ty81 zc81 U bytes81 (Ce.mono zH hlr2) U U (eF 0 U (cE y2 U U)) lo lo (λob1 oc1 G1 gr1=>yR (sj ([z8,z14,z9,z10,z1,(b2,ec),z4]) G1 (markB (dm1::[]))) (cM 6 ty28 U U U U U U (qO 2 U ?_))))
    let z15:Nat×Obj:=(b1,O [.slice ob1 ((np++[y2]).length) oc1] 28)
    exact aX (L':=[z9,z10,z1,(b2,ec),z15]++(G1++(markB (dm1::[])))) js (cv (L':=rdH l2 dm2 lp2 (([z1,(b2,ec),z15]++G1)++markB (dm1::[]))) ap (nx2 ((np++[y2]),ob1,oc1,G1,hr2) _ _ ⟨hs10,gr1,(hl2.t hlr2),(by first|omega|(simp only[jA,xA,vB]at *;omega))⟩ lf))
   exact aI (fe (aX (L':=[(l2,.loop { lp2 with state:=.busy }),z10,z1,(b2,ec),z4]++(pz++(markB (dm1::[])))) js (cv (L':=rdH l2 dm2 lp2 (([z1,(b2,ec),z4]++(pz))++markB (dm1::[]))) ap (nx2 (np,Cg,Cf,pz,hr2) _ _ ⟨hs11,(Ce.mono zH hlr2),(hl2.t hlr2),(by first|omega|(simp only[jA,xA,vB]at *;omega))⟩ lf))))
  .rintro dm2 ⟨np,Cg,Cf,pz,hh2⟩ hn2 ⟨hs12,Ce,hl2,u2_0⟩ hln2 hl02
   let z5:Nat×Obj:=(b1,O [.slice Cg np.length Cf] 28)
   refine cv (L':=[z1,(b2,ec),z5]++(pz++(markB (dm2::(dm1::[]))))) ap (qK 4 [2] U (cM 2 ty28 U U U U U U (aJ ?_)))
   have hs13:aG l doc aH known=np:=hs12
   exact cv (L':=([z1,(b2,ec),z5]++(pz))++markB (dm2::(dm1::[]))) ap (P7 (dm2::(dm1::[])) (A:=[z1,(b2,ec),z5]) (G:=pz) (Q:=[]) Ou U hX ap (λh1=>dC.flat (λ_ _ _ _ e=>e) (Ce.mono zH hln2)) ⟨⟨2,_,_,_,_,U,U,.inr ⟨_,ty28,U⟩⟩,trivial⟩ hs13)
  .exact xf
  .exact xf
  exact xf
 .exact xf
 .exact xf
 exact xf
theorem we(l:List Approval)(doc aH known:Int):(aG l doc aH known).length<=l.length:=by
 have h2:∀(g:List (fu×Approval))(s acc:List Approval),(aG.L2 g aG.K2 s acc).length<=acc.length+s.length:=by
  intro g s
  induction s with
  |nil=>intro acc;exact kF _
  |cons y s ih=>
   intro acc
   simp only[aG.L2,Bool.cond_eq_ite]
   split
   .have:=ih (acc++[y]);simp only[jA,xA,vB]at *;omega
   have:=ih acc;simp only[xA];omega
 have h1:∀(s:List Approval)(g:List (fu×Approval)),(aG.L1 (aG.K1 l doc aH known) s g).length<=l.length:=by
  intro s
  induction s with
  |nil=>
   intro g
   have h3:=h2 g (eD l doc aH known) []
   have h4:=pJ l doc aH known
   show(aG.L2 g aG.K2 (eD l doc aH known) []).length<=l.length
   simp only[vB]at h3;omega
  |cons y s ih=>intro g;simp only[aG.L1,Bool.cond_eq_ite];split<;>exact ih _
 exact h1 _ _
theorem u9(h:HF)(y:Approval)(begun:Int)(begun_q:Addr)(at_:Int)(at__q:Addr)(think:Int)(think_q:Addr)(abegun:At h begun_q [I begun])(aat_:At h at__q [I at_])(athink:At h think_q [I think]):Ret prog 106 [.agg (xC y).toArray,.pointer (some begun_q),.pointer (some at__q),.pointer (some think_q)] h (.bool (iJ y begun at_ think)):=by
 refine sT func106 U ntmps106 U λX hM hX hF=>?_
 have hs0:iJ y begun at_ think=iJ y begun at_ think:=rfl
 refine sr (cz (λb1=>qL 6 [0] U (dB ty3 abegun U (qO 2 U (ce 7 [10,11,12,13,14,15,16,17] 10 17 (decide ((vC .i64 (at_-y.At))<think)) U (λc1 hk1=>?_) (λe=>?_))))))
 .exact dB ty3 aat_ U (qL 3 [0] U (dB ty3 athink U (qO 2 U (hk1 _ U))))
 exact an (nretP [.bool (decide (y.At<begun)||decide ((vC .i64 (at_-y.At))<think))] (cs hs0))
end Go.Sg
