import Derived.Test.YtknehchipcogdaaGreatDoorJ22
/- A part of the proof of JudgeSpec. -/
set_option linter.unusedVariables false
set_option linter.unusedSimpArgs false
set_option maxRecDepth 100000
open List renaming range→xF
open Go.Sg.Rp renaming int→jB,bool→vV,str→X5
open Go.Deferred renaming ofValue→jH
open Go.Sg.Register renaming cells→vH,ok→vM
open Go.Result renaming andThen_ok→xK
open Go.Sem renaming run_bind→kL
open Go.Sg.Budget renaming cells→zV

namespace Go.Sg
variable {κ:Type} {ats:Array TypeId}
section
open Go.Proofs Go.Proofs.Tryz
set_option maxHeartbeats 4000000
theorem rN(h s zo zm v)(hs:SlC X5 h zo zm s):Ret prog 309 [.slice zo s.length zm,.string v] h (I (bp s v)):=by
 refine sVv func309 ntmps309 ?_
 generalize hz:(bp s v)=z
 have HA:=h0 [0,1,7] 8 (λs1 i=>(bp.L1 v (bp.K1)) s1 i)
 exact W
instance kC309:Ct 309:=⟨_,call309,@rN⟩
theorem Av(h l eP eO old)(hl:SlC aC.rp h eP eO l)(hne:0<l.length):j0 prog 266 [.slice eP l.length eO,.bool old] h (λv h'=>∃(rb0:Option Addr)(rc0:Nat),v=.slice rb0 (kb l old).length rc0/\SlC aC.rp h' rb0 rc0 (kb l old)):=by
 refine sVv func266 ntmps266 ?_
 generalize hz:(kb l old)=z
 exact W
theorem wC(h gv nd na)(hwho:SlC jB h nd na gv):Ret prog 272 [.slice nd gv.length na] h (.bool (dL gv)):=by
 refine sVv func272 ntmps272 ?_
 generalize hz:(dL gv)=z
 have HA:=h1 [6,7] 8 (λw=>[(3,I w)]) (λs1 i w=>(dL.L1 (dL.K1)) s1 w)
 exact W
instance kC272:Ct 272:=⟨_,call272,@wC⟩
theorem AI(h l eP eO s)(hl:SlC X5 h eP eO l):Ret prog 317 [.slice eP l.length eO,.string s] h (I (gf l s)):=by
 refine sVv func317 ntmps317 ?_
 generalize hz:(gf l s)=z
 have HA:=h0 [0,1] 5 (λs1 i=>(gf.L1 s (gf.K1)) s1 i)
 exact W
instance kC317:Ct 317:=⟨_,call317,@AI⟩
theorem Cy(h l eP eO no)(hl:SlC aj.rp h eP eO l):Ret prog 195 [.slice eP l.length eO,I no] h (I (cD l no)):=by
 refine sVv func195 ntmps195 ?_
 generalize hz:(cD l no)=z
 have HA:=h0 [0,1] 5 (λs1 i=>(cD.L1 no (cD.K1)) s1 i)
 exact W
instance kC195:Ct 195:=⟨_,call195,@Cy⟩
theorem M1(h bK fA no)(nW:vM h bK fA):Ret prog 41 [.agg (vH bK fA).toArray,I no] h (I (cI bK no)):=by
 refine sVv func41 ntmps41 ?_
 generalize hz:(cI bK no)=z
 have HA:=h0 [1,2] 5 (λs1 i=>(cI.L1 no (cI.K1)) s1 i)
 exact W
instance kC41:Ct 41:=⟨_,call41,@M1⟩
theorem EM(h bK fA no)(nW:vM h bK fA):Ret prog 119 [.agg (vH bK fA).toArray,I no] h (I (cR bK no)):=by
 refine sVv func119 ntmps119 ?_
 generalize hz:(cR bK no)=z
 have HA:=h0 [1,2] 5 (λs1 i=>(cR.L1 no (cR.K1)) s1 i)
 exact W
instance kC119:Ct 119:=⟨_,call119,@EM⟩
theorem M5(h gv nd na nA)(hwho:SlC jB h nd na gv):Ret prog 357 [.slice nd gv.length na,I nA] h (.bool (lY gv nA)):=by
 refine sVv func357 ntmps357 ?_
 generalize hz:(lY gv nA)=z
 have HA:=h0 [0,1] 5 (λs1 i=>(lY.L1 nA (lY.K1)) s1)
 exact W
instance kC357:Ct 357:=⟨_,call357,@M5⟩
theorem lE(h ok Xf)  : Fw prog 363 [.bool ok,I Xf] h (exW stopV (λr:Unit=>(.tuple #[]:Value)) (fW ok Xf)):=by
 refine sVv func363 ntmps363 ?_
 generalize hz:(fW ok Xf)=z
 exact W
instance kC363:Ct 363:=⟨_,HO,@lE⟩
theorem SK{c:Bool}{e:Int}{u:Unit}(h:fW c e=.ok u):c=true:=by
 cases c with
 |true=>rfl
 |false=>simp[fW]at h
theorem Cf(h s zo zm v)(hs:SlC jB h zo zm s):Ret prog 177 [.slice zo s.length zm,I v] h (I (gi s v)):=by
 refine sVv func177 ntmps177 ?_
 generalize hz:(gi s v)=z
 have HA:=h0 [0,1,7] 8 (λs1 i=>(gi.L1 v (gi.K1)) s1 i)
 exact W
instance kC177:Ct 177:=⟨_,call177,@Cf⟩
theorem Au(h l eP eO old)(hl:SlC aC.rp h eP eO l)(hne:0<l.length):j0 prog 267 [.slice eP l.length eO,.bool old] h (λv h'=>∃(rb0:Option Addr)(rc0:Nat),v=.slice rb0 (jp l old).length rc0/\SlC aC.rp h' rb0 rc0 (jp l old)):=by
 refine sT func267 U ntmps267 U λX hM hX hF=>?_
 have hs0:=@rfl _ (jp l old)
 have hbl:=hl.1.1
 refine qK 9 [] U (ls (v':=I ((l.length:Int)-1)) U (nv ob) (aS (T2 FA ty63 hl.1 hl.2 ob U U U (λsb1 sc1 sl1=>an ?_))))
 have hs1:jp l old=(l.drop ((((l.length:Int)-1):Int)).toNat):=hs0
 exact nretH [.slice sb1 ((l.drop ((((l.length:Int)-1):Int)).toNat).length) sc1] (hs1▸⟨sb1,sc1,U,sl1⟩)
theorem M8(h l eP eO nA)(hl:SlC jB h eP eO l):Ret prog 355 [.slice eP l.length eO,I nA] h (.bool (eV l nA)):=by
 refine sVv func355 ntmps355 ?_
 generalize hz:(eV l nA)=z
 have HA:=h0 [0,1] 5 (λs1 i=>(eV.L1 nA (eV.K1)) s1)
 exact W
instance kC355:Ct 355:=⟨_,call355,@M8⟩
theorem MZ(h l eP eO nA)(hl:SlC jB h eP eO l):Ret prog 117 [.slice eP l.length eO,I nA] h (.bool (lD l nA)):=by
 refine sVv func117 ntmps117 ?_
 generalize hz:(lD l nA)=z
 have HA:=h0 [0,1] 5 (λs1 i=>(lD.L1 nA (lD.K1)) s1)
 exact W
instance kC117:Ct 117:=⟨_,call117,@MZ⟩
theorem IA(h)(x:ae)(y:ae)  : Ret prog 393 [.agg (ae.cells x).toArray,.agg (ae.cells y).toArray] h (.bool (ry x y)):=by
 refine sVv func393 ntmps393 ?_
 generalize hz:(ry x y)=z
 exact W
instance kC393:Ct 393:=⟨_,call393,@IA⟩
theorem M9(h l eP eO nA)(hl:SlC jB h eP eO l):Ret prog 397 [.slice eP l.length eO,I nA] h (.bool (lZ l nA)):=by
 refine sVv func397 ntmps397 ?_
 generalize hz:(lZ l nA)=z
 have HA:=h0 [0,1] 5 (λs1 i=>(lZ.L1 nA (lZ.K1)) s1)
 exact W
theorem M2(h l eP eO nA)(hl:SlC jB h eP eO l):Ret prog 248 [.slice eP l.length eO,I nA] h (.bool (m5 l nA)):=by
 refine sVv func248 ntmps248 ?_
 generalize hz:(m5 l nA)=z
 have HA:=h0 [0,1] 5 (λs1 i=>(m5.L1 nA (m5.K1)) s1)
 exact W
theorem pb(h ir low high)  : Ret prog 128 [I ir,I low,I high] h (.bool (aY ir low high)):=by
 refine sVv func128 ntmps128 ?_
 generalize hz:(aY ir low high)=z
 exact W
instance kC128:Ct 128:=⟨_,Tt,@pb⟩
theorem Su{n a b:Int}(h:aY n a b=true):a<=n/\n<=b:=by simpa[aY]using h
theorem xg(h no v0 Th v0_q)(hv0:jo.ok h v0 Th)(av0:At h v0_q (jo.cells v0 Th)):Ret prog 215 [I no,.pointer (some v0_q)] h (.bool (je no v0)):=by
 refine sT func215 U ntmps215 U λX hM hX hF=>?_
 have hs0:=@rfl _ (je no v0)
 refine qK 7 [] U (nm (j:=1) ty183 av0 U U (dU ?_))
 obtain⟨o1,hb1,hm1⟩:=hv0.at_
 refine aS (wm (k:=no) Dp (im qZ) hb1 hm1 (gF zv3) (show Ao _ (I 0) 0 from U) U U (λv1 hv1=>?_))
 obtain rfl:=hv1
 exact dU (qO 11 U (nretP [.bool (!(mhas v0.at_ no))] (cs hs0)))
instance kC215:Ct 215:=⟨_,call215,@xg⟩
theorem lW(h)(x:ae)  : Ret prog 379 [.agg (ae.cells x).toArray] h (.agg (eY.cells (bF x)).toArray):=by
 refine sVv func379 ntmps379 ?_
 generalize hz:(bF x)=z
 exact W
theorem Ha(h c)  : Ret prog 399 [Y c] h (.bool (o9 c)):=by
 refine sVv func399 ntmps399 ?_
 generalize hz:(o9 c)=z
 exact W
instance kC399:Ct 399:=⟨_,call399,@Ha⟩
theorem Iz(h)(x:ae)(y:ae)  : Ret prog 394 [.agg (ae.cells x).toArray,.agg (ae.cells y).toArray] h (.bool (rx x y)):=by
 refine sVv func394 ntmps394 ?_
 generalize hz:(rx x y)=z
 exact W
instance kC394:Ct 394:=⟨_,call394,@Iz⟩
theorem IS(h)(x:aE)(y:aE)  : Ret prog 407 [.agg (aE.cells x).toArray,.agg (aE.cells y).toArray] h (.bool (mb x y)):=by
 refine sVv func407 ntmps407 ?_
 generalize hz:(mb x y)=z
 exact W
theorem Iw(h)(a:av)(mR:av)  : Ret prog 376 [.agg (av.cells a).toArray,.agg (av.cells mR).toArray] h (.bool (tv a mR)):=by
 refine sVv func376 ntmps376 ?_
 generalize hz:(tv a mR)=z
 exact W
instance kC376:Ct 376:=⟨_,call376,@Iw⟩
theorem IC(h mode permits ku kt)(hpermits:SlC vV h ku kt permits):Ret prog 202 [I mode,.slice ku permits.length kt] h (I (rA mode permits)):=by
 refine sVv func202 ntmps202 ?_
 generalize hz:(rA mode permits)=z
 exact W
instance kC202:Ct 202:=⟨_,call202,@IC⟩
theorem pN(h)(q:bL)(x:aE)  : Ret prog 381 [.agg (bL.cells q).toArray,.agg (aE.cells x).toArray] h (.bool (dC q x)):=by
 refine sVv func381 ntmps381 ?_
 generalize hz:(dC q x)=z
 exact W
theorem xZ(h d Ap v0 Th v0_q)(hd:aj.ok h d Ap)(hv0:bZ.ok h v0 Th)(av0:At h v0_q (bZ.cells v0 Th)):Ret prog 104 [.agg (aj.cells d Ap).toArray,.pointer (some v0_q)] h (.bool (iV d v0)):=by
 refine sVv func104 ntmps104 ?_
 generalize hz:(iV d v0)=z
 exact W
instance kC104:Ct 104:=⟨_,call104,@xZ⟩
theorem tg(h l eP eO old)(hl:SlC aC.rp h eP eO l):j0 prog 265 [.slice eP l.length eO,.bool old] h (λv h'=>∃(rb0:Option Addr)(rc0:Nat),v=.slice rb0 (kc l old).length rc0/\SlC aC.rp h' rb0 rc0 (kc l old)):=by
 refine sVv func265 ntmps265 ?_
 generalize hz:(kc l old)=z
 exact W
theorem GT(h)(x:Budget)(eB ad)  : Ret prog 356 [.agg (zV x).toArray,I eB,I ad] h (.bool (kW x eB ad)):=by
 refine sVv func356 ntmps356 ?_
 generalize hz:(kW x eB ad)=z
 exact W
instance kC356:Ct 356:=⟨_,call356,@GT⟩
theorem GG(h)(x:ae)(eB ad)  : Ret prog 392 [.agg (ae.cells x).toArray,I eB,I ad] h (.bool (mN x eB ad)):=by
 refine sVv func392 ntmps392 ?_
 generalize hz:(mN x eB ad)=z
 exact W
instance kC392:Ct 392:=⟨_,call392,@GG⟩
theorem GZ(h)(x:aA)(eB ad)  : Ret prog 324 [.agg (aA.cells x).toArray,I eB,I ad] h (.bool (uz x eB ad)):=by
 refine sVv func324 ntmps324 ?_
 generalize hz:(uz x eB ad)=z
 exact W
instance kC324:Ct 324:=⟨_,call324,@GZ⟩
theorem zq(h)(x:aE)(eB ad)  : Ret prog 406 [.agg (aE.cells x).toArray,I eB,I ad] h (.bool (iU x eB ad)):=by
 refine sVv func406 ntmps406 ?_
 generalize hz:(iU x eB ad)=z
 exact W
theorem GD(h)(x:av)(eB ad)  : Ret prog 375 [.agg (av.cells x).toArray,I eB,I ad] h (.bool (nN x eB ad)):=by
 refine sVv func375 ntmps375 ?_
 generalize hz:(nN x eB ad)=z
 exact W
instance kC375:Ct 375:=⟨_,call375,@GD⟩
theorem D1(h ir low high)  : Ret prog 204 [I ir,I low,I high] h (.bool (fq ir low high)):=by
 refine sVv func204 ntmps204 ?_
 generalize hz:(fq ir low high)=z
 exact W
instance kC204:Ct 204:=⟨_,call204,@D1⟩
theorem Dh(h ir low high)  : Ret prog 208 [I ir,I low,I high] h (.bool (dB ir low high)):=by
 refine sVv func208 ntmps208 ?_
 generalize hz:(dB ir low high)=z
 exact W
instance kC208:Ct 208:=⟨_,call208,@Dh⟩
theorem Cq(h ir ew)  : Ret prog 211 [I ir,I ew] h (.bool (dS ir ew)):=by
 refine sVv func211 ntmps211 ?_
 generalize hz:(dS ir ew)=z
 exact W
instance kC211:Ct 211:=⟨_,call211,@Cq⟩
theorem uk(h x gN)(hx:ai.ok h x gN):Ret prog 308 [.agg (ai.cells x gN).toArray] h (.bool (dR x)):=by
 refine sVv func308 ntmps308 ?_
 generalize hz:(dR x)=z
 exact W
instance kC308:Ct 308:=⟨_,call308,@uk⟩
theorem Al(h ir v0 v0_q)(av0:At h v0_q [I v0]):Ret prog 252 [I ir,.pointer (some v0_q)] h (.bool (jZ ir v0)):=by
 refine sVv func252 ntmps252 ?_
 generalize hz:(jZ ir v0)=z
 exact W
instance kC252:Ct 252:=⟨_,call252,@Al⟩
theorem xY(h v XF v0 v0_q)(hv:aC.ok h v XF)(av0:At h v0_q [I v0]):Ret prog 167 [.agg (aC.cells v XF).toArray,.pointer (some v0_q)] h (.bool (ju v v0)):=by
 refine sVv func167 ntmps167 ?_
 generalize hz:(ju v v0)=z
 exact W
instance kC167:Ct 167:=⟨_,call167,@xY⟩
theorem GU(h ir low high)  : Ret prog 219 [I ir,I low,I high] h (.bool (gE ir low high)):=by
 refine sVv func219 ntmps219 ?_
 generalize hz:(gE ir low high)=z
 exact W
instance kC219:Ct 219:=⟨_,call219,@GU⟩
theorem GP(h ir least most)  : Ret prog 191 [I ir,I least,I most] h (.bool (ie ir least most)):=by
 refine sVv func191 ntmps191 ?_
 generalize hz:(ie ir least most)=z
 exact W
instance kC191:Ct 191:=⟨_,call191,@GP⟩
theorem wG(h t)  : Ret prog 95 [I t] h (.bool (j3 t)):=by
 refine sVv func95 ntmps95 ?_
 generalize hz:(j3 t)=z
 exact W
instance kC95:Ct 95:=⟨_,call95,@wG⟩
theorem Hd(h d Ap v0 v0_q)(hd:aj.ok h d Ap)(av0:At h v0_q [I v0]):Ret prog 103 [.agg (aj.cells d Ap).toArray,.pointer (some v0_q)] h (.bool (bz d v0)):=by
 refine sVv func103 ntmps103 ?_
 generalize hz:(bz d v0)=z
 exact W
theorem KL(h ir)  : Ret prog 216 [I ir] h (.bool (mt ir)):=by
 refine sVv func216 ntmps216 ?_
 generalize hz:(mt ir)=z
 exact W
instance kC216:Ct 216:=⟨_,call216,@KL⟩
theorem Is(h ir)  : Ret prog 223 [I ir] h (.bool (nM ir)):=by
 refine sVv func223 ntmps223 ?_
 generalize hz:(nM ir)=z
 exact W
instance kC223:Ct 223:=⟨_,call223,@Is⟩
theorem GS(h ir)  : Ret prog 192 [I ir] h (.bool (jg ir)):=by
 refine sVv func192 ntmps192 ?_
 generalize hz:(jg ir)=z
 exact W
instance kC192:Ct 192:=⟨_,call192,@GS⟩
theorem Kx(h ir)  : Ret prog 137 [I ir] h (.bool (nq ir)):=by
 refine sVv func137 ntmps137 ?_
 generalize hz:(nq ir)=z
 exact W
instance kC137:Ct 137:=⟨_,call137,@Kx⟩
theorem GE(h ir most)  : Ret prog 227 [I ir,I most] h (.bool (kU ir most)):=by
 refine sVv func227 ntmps227 ?_
 generalize hz:(kU ir most)=z
 exact W
instance kC227:Ct 227:=⟨_,call227,@GE⟩
theorem Gy(h ir)  : Ret prog 115 [I ir] h (.bool (nL ir)):=by
 refine sVv func115 ntmps115 ?_
 generalize hz:(nL ir)=z
 exact W
instance kC115:Ct 115:=⟨_,call115,@Gy⟩
theorem Ad(h)(a:aA)(mR:aA)  : Ret prog 344 [.agg (aA.cells a).toArray,.agg (aA.cells mR).toArray] h (.bool (jU a mR)):=by
 refine sVv func344 ntmps344 ?_
 generalize hz:(jU a mR)=z
 exact W
instance kC344:Ct 344:=⟨_,call344,@Ad⟩
theorem GY(h ir)  : Ret prog 217 [I ir] h (.bool (mO ir)):=by
 refine sVv func217 ntmps217 ?_
 generalize hz:(mO ir)=z
 exact W
instance kC217:Ct 217:=⟨_,call217,@GY⟩
theorem GX(h ir)  : Ret prog 218 [I ir] h (.bool (oZ ir)):=by
 refine sVv func218 ntmps218 ?_
 generalize hz:(oZ ir)=z
 exact W
instance kC218:Ct 218:=⟨_,call218,@GX⟩
theorem Ku(h t)  : Ret prog 222 [I t] h (.bool (oU t)):=by
 refine sVv func222 ntmps222 ?_
 generalize hz:(oU t)=z
 exact W
instance kC222:Ct 222:=⟨_,call222,@Ku⟩
theorem GB(h ir)  : Ret prog 224 [I ir] h (.bool (qj ir)):=by
 refine sVv func224 ntmps224 ?_
 generalize hz:(qj ir)=z
 exact W
instance kC224:Ct 224:=⟨_,call224,@GB⟩
theorem Hb(h c)  : Ret prog 409 [Y c] h (.bool (uA c)):=by
 refine sVv func409 ntmps409 ?_
 generalize hz:(uA c)=z
 exact W
instance kC409:Ct 409:=⟨_,call409,@Hb⟩
theorem KF(h t)  : Ret prog 187 [I t] h (.bool (mr t)):=by
 refine sVv func187 ntmps187 ?_
 generalize hz:(mr t)=z
 exact W
instance kC187:Ct 187:=⟨_,call187,@KF⟩
theorem KB(h ir)  : Ret prog 190 [I ir] h (.bool (oW ir)):=by
 refine sVv func190 ntmps190 ?_
 generalize hz:(oW ir)=z
 exact W
instance kC190:Ct 190:=⟨_,call190,@KB⟩
end
section
open Go.Proofs Go.Proofs.Tryz
theorem ext282:Extern.find Tryz.f425=some Extern.BytealgIndexByte.indexByte:=by kernel_rfl
theorem ext282n:Extern.findNext Tryz.f425=none:=by kernel_rfl
theorem run282(s:ByteArray)(c:Int)(w:World):(Extern.BytealgIndexByte.indexByte #[.string s,.int .u8 c]).run prog w=.ok (.int .i64 (idxByte s c)) w:=by
 show(do
  let b ←Extern.Bytes.bytesOf (.string s)
  let c ←Extern.Bytes.asByte (.int .u8 c)
  match(xF b.size).find? λi=>b[i]! == c with
  |some i=>pure (goInt i)
  |none=>pure (goInt (-1)):Sem Value).run prog w=_
 simp only[Extern.Bytes.bytesOf,Extern.Bytes.asByte,kL,Sem.run_pure,xK,idxByte,goInt]
 cases hf:(xF s.size).find? (λi=>s[i]! == UInt8.ofNat c.toNat)with
 |none=>simp only[show c.toNat.toUInt8=UInt8.ofNat c.toNat from rfl,hf];simp
 |some i=>simp only[show c.toNat.toUInt8=UInt8.ofNat c.toNat from rfl,hf];simp
theorem call282(s:ByteArray)(c:Int)(w:World):(callFunc 425 #[.string s,.int .u8 c]).run prog w=.ok (.value (.int .i64 (idxByte s c))) w:=by
 have hb:Tryz.f425.body.isNone=true:=by kernel_rfl
 have hn : (Tryz.f425.name == "runtime.NumGoroutine") = false := by kernel_rfl
 simp only[callFunc,kL,run_program,xK,func425,hn,hb,ext282,ext282n]
 simp[run282]
theorem Uf{e:Env}{X:Cx}{h:HF}{L:LH}{d:Option Nat}{ty:TypeId}{pos:String}{af:Array Edge}{g:Option (Nat×Bool)}{x y:Operand}{s:ByteArray}{c:Int}(hx:e.ev x=.string s)(hy:e.ev y=.int .u8 c):
  ∀w,St X h L w->(execOp e.ev ⟨d,.call ⟨.value (.func 425),#[x,y],ats⟩,ty,pos,af,g⟩).run prog w=.ok (.value (.int .i64 (idxByte s c))) w:=
 λw _=>by
  have hf:e.ev (.func 425)=.func (.func 425) #[] #[]:=rfl
  simp[execOp,resolve,hf,jH,invoke,hx,hy,call282]
end
end Go.Sg
