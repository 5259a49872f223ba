import Derived.Shelf.Small.Bits
import Derived.Shelf.Small.Strs
import Derived.Shelf.Strconv.Itoa0
import Derived.Shelf.Strings.Search1
import Derived.Shelf.Sort.Plain
import Derived.Ground.Names2Prog
import Derived.Shelf.Slices.Clone
import Derived.Shelf.Slices.SearchI
import Derived.Shelf.Slices.In.SortNone
import Derived.Shelf.Slices.Empties
import Derived.Ground.SlgcProg
import Derived.Shelf.SlicesG.Cmp
import Derived.Shelf.SlSortCmp.WholeK
import Derived.Ground.SlsfProg
import Derived.Test.YtngiefchigcphaaGreatDoorProg
import Derived.Sort.OwnSortedInts
import Derived.Test.YtngiefchigcphaaGreatDoorW1
import Derived.Test.YtngiefchigcphaaGreatDoorW2
import Derived.Test.YtngiefchigcphaaGreatDoorW3
import Derived.Test.YtngiefchigcphaaGreatDoorW4
import Derived.Test.YtngiefchigcphaaGreatDoorW5
import Derived.Test.YtngiefchigcphaaGreatDoorW6
/- A part of the proof of the law AsofEvery: where what it reads holds at most 1048576 values and letters, the call returns true and its arguments read as they did. Conditions: that bound, and that the listed table starts as the program lays it. -/
set_option linter.unusedVariables false
set_option linter.unusedSimpArgs false
namespace Go.Sg
open Go.Proofs
set_option maxHeartbeats 2000000
set_option maxRecDepth 100000
set_option linter.unusedVariables false
theorem n8 (h:HF) (s:(List ByteArray)) (pz:Option Addr) (oS:Nat) (v:ByteArray) (hs:SlC Rp.str h pz oS s):Ret Tryz.prog 246 [.slice pz s.length oS,.string v] h (.bool (dr s v)):=by
 refine ay Tryz.func246 U Tryz.ntmps246 U fun X hM hX=>?_
 have hs0:dr s v=dr s v:=rfl
 refine sr (an (sr (aa (aa (aG (v:=I (aQ s v)) E4 (jt h s pz oS v hs) U (aJ U (an ?_)))))))
 exact aw [.bool (decide (0≤(aQ s v)))] Tryz.func246 U hX rd (cs hs0)
theorem tJ (h:HF) (p:Policy) (fb:eO) (hp:Policy.ok h p fb) (hsm:smP p):EK Tryz.prog 216 [.agg (Policy.cells p fb).toArray] h (exW stopV (fun r:Unit=>(.tuple #[]:Value)) (cy p)):=by
 refine ay DH U Tryz.ntmps216 U fun X hM hX=>?_
 have hs0:cy p=cy p:=rfl
 have hsr:=hsm.rules
 refine sr (dy (fun b1=>ac (sr (az vV U (aO 0 ty9 U U U (aG (v:=.bool (dc p.Name)) Tryz.call244 (lJ h p.Name ) U (aa ?_)))))))
 refine tq 4 [(1,Q b1),(12,.bool ((dc p.Name)&&(bE p.Offices dc)))] (fun hk1=>?_) (fun e=>?_)
 ·refine ar 8 U (fun c1=>?_) (fun c1=>?_)
  ·refine az jv U (aO 0 ty62 U U U (aG (v:=.bool (bE p.Offices dc)) Tryz.call245 (kA h p.Offices fb.dP fb.dO dc (.func (.func 244) #[] #[]) hp.Offices (fun h' cG hle =>iZ Tryz.call244 (lJ h' cG    ))) U ?_))
   refine ah U ?_
   exact hk1 _ ⟨U,(cb (cW c1)),trivial⟩
  ·refine kq (bP (ah U ?_))
   exact hk1 _ ⟨U,(cb (cX c1)),trivial⟩
 refine aa ?_
 refine tq 4 [(1,Q b1),(17,.bool (((dc p.Name)&&(bE p.Offices dc))&&(bE p.Kinds dc)))] (fun hk2=>?_) (fun e=>?_)
 ·refine ar 13 U (fun c2=>?_) (fun c2=>?_)
  ·refine az kD U (aO 0 ty62 U U U (aG (v:=.bool (bE p.Kinds dc)) Tryz.call245 (kA h p.Kinds fb.fN fb.fM dc (.func (.func 244) #[] #[]) hp.Kinds (fun h' cG hle =>iZ Tryz.call244 (lJ h' cG    ))) U ?_))
   refine ah U ?_
   exact hk2 _ ⟨U,(cb (cW c2)),trivial⟩
  ·refine kq (bP (ah U ?_))
   exact hk2 _ ⟨U,(cb (cX c2)),trivial⟩
 refine a8 (kx sf (fW h (((dc p.Name)&&(bE p.Offices dc))&&(bE p.Kinds dc)) 201 ) U (fun u1 hu1=>?_) (fun pv1 hpv1 e=>?_))
 ·obtain ⟨rx1,hrx1,rfl⟩:=mn hu1
  have hs1:=hs0.trans (mm hrx1)
  cases rx1
  refine ac (sr (dq 0 ty68 U U U (a8 (dg Tryz.call243 (j6 h p fb hp ob) U (fun v1 h1 hle1 hp1=>?_)))))
  obtain ⟨rb1,rc1,rfl,sl1⟩:=hp1
  refine bC fT U (aa (ac ?_))
  refine gf ?_
  let z1:Nat×Obj:=(b1,O (Policy.cells p fb) 68)
  refine dX (L':=[z1]++(markB [])) ap ?_
  refine pA (ι:=Nat×List Nat×HF) (fun i=>[]) (fun i=>marks i.2.1) (fun i=>i.2.2) (fun i=>[z1]++(markB i.2.1)) (fun i=>i.1≤(aF p).length∧cy p=((cy.K1))∧HF.le h1 i.2.2) ?_ (fun hx1=>?_)
  ·rintro ⟨i1,rs1,hh1⟩ ⟨bd,hs2,hl1⟩ e
   try dsimp only at bd hl1
   try dsimp only
   have hs3:cy p=(Except.ok ()):=hs2
   refine dX (L':=([z1])++markB rs1) ap ?_
   exact tv rs1 [] DH U hX trivial (congrArg (exW stopV (fun r:Unit=>(.tuple #[]:Value))) hs3)
  ·refine tr (ι:=Nat×List Nat×HF×List Expr) (fun i=>[(1,Q b1),(20,.slice rb1 ((aF p).length) rc1),(21,I (((aF p).length:Nat):Int)),(22,I ((i.1:Nat):Int))]) (fun i=>marks i.2.1) (fun i=>i.2.2.1) (fun i=>[z1]++(markB i.2.1)) (fun i=>(aF p).drop i.1=i.2.2.2∧i.1≤(aF p).length∧cy p=((cy.L1 p (cy.K1)) i.2.2.2 )∧HF.le h1 i.2.2.1) (fun i=>i.2.2.2.length) (0,[],h1,(aF p)) U rd sw ⟨U,Nat.zero_le _,hs1,(HF.le_refl h1)⟩ ?_
   rintro ⟨i1,rs1,hh1,s1⟩ ⟨hd1,bd,hs4,hl1⟩ ag1 e
   try dsimp only at hd1 bd hl1
   rcases s1 with _ | ⟨y1,rz1⟩
   ·have dI:=cU hd1
    try dsimp only
    refine sr (aB (v':=.bool false) U (cb dI) (ac (ae (bg U (bO U ?_)))))
    exact hx1 (i1,rs1,hh1) _ ⟨bd,hs4,hl1⟩ trivial
   ·have dH:=dY hd1
    have bh:=cY hd1
    have eT:=aT hd1
    have gx:=sl1.1.1
    try have hsy:=uc hsm (gm hd1)
    try dsimp only
    refine sr (aB (v':=.bool true) U (cb dH) (ac (ae (bn U (ao (ae (aW (sr (a8 (gL fT ty66 (sl1.mono Expr.aN hl1).1 (nthZ bh) (bB bh) U U U (fun q2 cs2 A2 ln2 rr2=>?_)))))))))))
    obtain ⟨r2,rfl,ok2⟩:=rr2
    refine ed ty66 A2 U U (bX zc66 (fun b4=>bN 0 ty66 U U U U U U (ac (sr (dq 0 ty66 U U U (a8 (dg DJ (kz hh1 y1 r2 1 ok2 ob) U (fun v3 h3 hle3 hp3=>?_))))))))
    obtain ⟨_,rfl,mo2⟩:=hp3
    refine ac (aW ?_)
    let z2:Nat×Obj:=(b4,O (Expr.cells y1 r2) 66)
    refine dX (L':=([z2,z1])++markB rs1) ap ?_
    refine j2 (it:=v3) (xs:=(cg y1 1)) (ι:=HF) rs1 (fun i=>i) (fun i=>[z2,z1]) (fun s i=>cy p=((cy.L3 p ((cy.L1 p (cy.K1) rz1 ))) s )∧HF.le h3 i) (fun _=>False) (fun _=>False) 0 (fun ch _ _=>∃ pv_,ch=[{ v:=stopV pv_,recovered:=false }]∧cy p=.error pv_) h3 DH U mo2 U ls (fun _ _ _ _ _ hq=>hq) U (show [z2,z1]=_ from U) ⟨hs4,(HF.le_refl h3)⟩ ?_ ?_ ?_ ?_ ?_
    ·rintro l3 dm3 lp3 y3 rz3 vs3 hh3 hr3 X hFR3 ⟨hs6,hl3⟩ hl03 hlr3 hv3 hX hXM hlp3 nx3 rt3 ex3 pn3
     try dsimp only at hl3 hlr3
     obtain ⟨rr3_0,rfl,ok3_0⟩:=hv3
     let z3:Nat×Obj:=(dm3,.deferred (some []))
     refine dX (L':=[(l3,.loop lp3),z3,z2,z1]++(markB rs1)) ap ?_
     refine ai (bX zc258 (fun b6=>bN 0 ty258 U U U U U U (ac (j3 1 U hlp3 (aW (ai (az kV U (dq 0 ty66 U U U (aG (v:=.bool (da y3.x)) Tryz.call220 (lg hr3 y3.x rr3_0.x ok3_0.x) U ?_)))))))))
     refine cV U (aa ?_)
     refine tq 7 [(40,.bool ((!(da y3.x))||(dr p.Offices y3.x.Name)))] (fun hk3=>?_) (fun e=>?_)
     ·refine ar 33 U (fun c3=>?_) (fun c3=>?_)
      ·refine kq (kq (kq (ah U ?_)))
       exact hk3 _ ⟨(cb (dL c3)),trivial⟩
      ·refine az jv U (aO 4 ty62 U U U (az kV U (az mi U (aO 0 ty9 U U U (aG (v:=.bool (dr p.Offices y3.x.Name)) Tryz.call246 (n8 hr3 p.Offices fb.dP fb.dO y3.x.Name (hp.Offices.mono Rp.gg ((((hle1.t hl1).t hle3).t hl3).t hlr3))) U ?_)))))
       refine ah U ?_
       exact hk3 _ ⟨(cb (dM c3)),trivial⟩
     refine a8 (kx sf (fW hr3 ((!(da y3.x))||(dr p.Offices y3.x.Name)) 201 ) U (fun u2 hu2=>?_) (fun pv2 hpv2 e=>?_))
     ·obtain ⟨rx2,hrx2,rfl⟩:=mn hu2
      have hs7:=hs6.trans (mm hrx2)
      cases rx2
      refine ac (av ?_)
      refine cE (L':=[(l3,.loop { lp3 with state:=.busy }),z3,z2,z1]++(markB rs1)) js ?_
      refine dX (L':=rdH l3 dm3 lp3 (([z2,z1])++markB rs1)) ap ?_
      exact nx3 hr3 _ _ ⟨hs7,(hl3.t hlr3)⟩ (HF.le_refl _)
     ·obtain ⟨pv2e,hpv2e,rfl⟩:=kH hpv2
      have hs8:=hs6.trans (kG hpv2e)
      refine sF (L':=[(l3,.loop { lp3 with state:=.busy }),z3]++(markB rs1)) js ?_
      exact pn3 _ _ _ [] ⟨_,U,hs8⟩
    ·rintro dm3 hh3 hn3 ⟨hs9,hl3⟩ hln3 hl03
     try dsimp only at hl3 hln3
     refine dX (L':=[z2,z1]++(markB (dm3::rs1))) ap ?_
     refine av (av (ai (aB (v':=I (((i1+1):Nat):Int)) U (bW ob) (aa (ac ?_)))))
     refine cE (L':=[z1]++(markB (dm3::rs1))) js ?_
     exact ag1 ((i1+1),(dm3::rs1),hn3,rz1) _ (Nat.lt_succ_self _) ⟨bF hd1,aT hd1,hs9,(((hl1.t hle3).t hl3).t hln3)⟩ rd
    ·exact fun _ _ _ hF=>hF.elim
    ·exact fun _ _ _ hF=>hF.elim
    ·rintro dm3 ch hn3 L0 ⟨pv_,rfl,hpv_⟩ hl03
     exact lz (dm3::rs1) DH hX (congrArg (exW stopV (fun r:Unit=>(.tuple #[]:Value))) hpv_)
 ·obtain ⟨pv1e,hpv1e,rfl⟩:=kH hpv1
  have hs10:=hs0.trans (kG hpv1e)
  refine i6 ?_
  exact lz [] DH hX (congrArg (exW stopV (fun r:Unit=>(.tuple #[]:Value))) hs10)
theorem fJ (h:HF) (dQ:Int) (low:Int) (high:Int)  : Ret Tryz.prog 103 [I dQ,I low,I high] h (.bool (aR dQ low high)):=by
 refine ay Tryz.func103 U Tryz.ntmps103 U fun X hM hX=>?_
 have hs0:aR dQ low high=aR dQ low high:=rfl
 refine sr (an (sr (aa (aa (aJ U (aa ?_))))))
 refine tq 4 [(14,.bool (decide (low≤dQ)&&decide (dQ≤high)))] (fun hk1=>?_) (fun e=>?_)
 ·refine ar 10 U (fun c1=>?_) (fun c1=>?_)
  ·refine aa (aa (aJ U (ah U ?_)))
   exact hk1 _ ⟨(cb (cW c1)),trivial⟩
  ·refine kq (bP (ah U ?_))
   exact hk1 _ ⟨(cb (cX c1)),trivial⟩
 refine an ?_
 exact aw [.bool (decide (low≤dQ)&&decide (dQ≤high))] Tryz.func103 U hX rd (cs hs0)
theorem El {n a b:Int} (h:aR n a b=true):a≤n∧n≤b:=by simpa [aR] using h
theorem rW (h:HF) (x0:Expr) (Ij:cI) (hx0:Expr.ok h x0 Ij):Ret Tryz.prog 299 [.agg (Expr.cells x0 Ij).toArray] h (.bool (kY x0)):=by
 refine ay Tryz.func299 U Tryz.ntmps299 U fun X hM hX=>?_
 have hs0:kY x0=kY x0:=rfl
 refine sr (dy (fun b1=>an (sr (an ?_))))
 exact aw [.bool false] Tryz.func299 U hX rd (cs hs0)
theorem rV (h:HF) (x:Expr) (fe:cI) (hx:Expr.ok h x fe):Ret Tryz.prog 300 [.agg (Expr.cells x fe).toArray] h (.bool (jB x)):=by
 refine ay Tryz.func300 U Tryz.ntmps300 U fun X hM hX=>?_
 have hs0:jB x=jB x:=rfl
 refine sr (dy (fun b1=>an (sr (az j0 U (aO 0 ty3 U U U (aJ U (aa ?_)))))))
 refine tq 5 [(11,.bool ((x.N==0)&&(((x.L.length:Nat):Int)==0)))] (fun hk1=>?_) (fun e=>?_)
 ·refine ar 6 U (fun c1=>?_) (fun c1=>?_)
  ·refine az dE U (aO 0 ty64 U U U (bC fT U (aJ U (ah U ?_))))
   exact hk1 _ ⟨(cb (cW c1)),trivial⟩
  ·refine kq (kq (ah U ?_))
   exact hk1 _ ⟨(cb (cX c1)),trivial⟩
 refine an ?_
 exact aw [.bool ((x.N==0)&&(((x.L.length:Nat):Int)==0))] Tryz.func300 U hX rd (cs hs0)
theorem rU (h:HF) (x:Expr) (fe:cI) (hx:Expr.ok h x fe):Ret Tryz.prog 301 [.agg (Expr.cells x fe).toArray] h (.bool (jA x)):=by
 refine ay Tryz.func301 U Tryz.ntmps301 U fun X hM hX=>?_
 have hs0:jA x=jA x:=rfl
 refine sr (dy (fun b1=>an (sr (az j0 U (aO 0 ty3 U U U (aG (v:=.bool (aR x.N 1 4096)) tg (fJ h x.N 1 4096 ) U (aa ?_)))))))
 refine tq 5 [(11,.bool ((aR x.N 1 4096)&&(((x.L.length:Nat):Int)==0)))] (fun hk1=>?_) (fun e=>?_)
 ·refine ar 6 U (fun c1=>?_) (fun c1=>?_)
  ·refine az dE U (aO 0 ty64 U U U (bC fT U (aJ U (ah U ?_))))
   exact hk1 _ ⟨(cb (cW c1)),trivial⟩
  ·refine kq (kq (ah U ?_))
   exact hk1 _ ⟨(cb (cX c1)),trivial⟩
 refine an ?_
 exact aw [.bool ((aR x.N 1 4096)&&(((x.L.length:Nat):Int)==0))] Tryz.func301 U hX rd (cs hs0)
theorem rT (h:HF) (x:Expr) (fe:cI) (hx:Expr.ok h x fe):Ret Tryz.prog 302 [.agg (Expr.cells x fe).toArray] h (.bool (jz x)):=by
 refine ay Tryz.func302 U Tryz.ntmps302 U fun X hM hX=>?_
 have hs0:jz x=jz x:=rfl
 refine sr (dy (fun b1=>an (sr (az mi U (aO 0 ty9 U U U (aJ U (aa ?_)))))))
 refine tq 5 [(1,Q b1),(11,.bool ((x.Name.toList==(⟨#[]⟩:ByteArray).toList)&&(aR ((x.L.length:Nat):Int) 1 16)))] (fun hk1=>?_) (fun e=>?_)
 ·refine ar 6 U (fun c1=>?_) (fun c1=>?_)
  ·refine az dE U (aO 0 ty64 U U U (bC fT U (aG (v:=.bool (aR ((x.L.length:Nat):Int) 1 16)) tg (fJ h ((x.L.length:Nat):Int) 1 16 ) U (ah U ?_))))
   exact hk1 _ ⟨U,(cb (cW c1)),trivial⟩
  ·refine kq (kq (ah U ?_))
   exact hk1 _ ⟨U,(cb (cX c1)),trivial⟩
 refine aa ?_
 refine tq 7 [(19,.bool (((x.Name.toList==(⟨#[]⟩:ByteArray).toList)&&(aR ((x.L.length:Nat):Int) 1 16))&&(aR x.N 1 ((x.L.length:Nat):Int))))] (fun hk2=>?_) (fun e=>?_)
 ·refine ar 12 U (fun c2=>?_) (fun c2=>?_)
  ·refine az j0 U (aO 0 ty3 U U U (az dE U (aO 0 ty64 U U U (bC fT U (aG (v:=.bool (aR x.N 1 ((x.L.length:Nat):Int))) tg (fJ h x.N 1 ((x.L.length:Nat):Int)) U ?_)))))
   refine ah U ?_
   exact hk2 _ ⟨(cb (cW c2)),trivial⟩
  ·refine kq (kq (kq (ah U ?_)))
   exact hk2 _ ⟨(cb (cX c2)),trivial⟩
 refine an ?_
 exact aw [.bool (((x.Name.toList==(⟨#[]⟩:ByteArray).toList)&&(aR ((x.L.length:Nat):Int) 1 16))&&(aR x.N 1 ((x.L.length:Nat):Int)))] Tryz.func302 U hX rd (cs hs0)
theorem rS (h:HF) (x:Expr) (fe:cI) (hx:Expr.ok h x fe):Ret Tryz.prog 303 [.agg (Expr.cells x fe).toArray] h (.bool (iS x)):=by
 refine ay Tryz.func303 U Tryz.ntmps303 U fun X hM hX=>?_
 have hs0:iS x=iS x:=rfl
 refine sr (dy (fun b1=>an (sr (az mi U (aO 0 ty9 U U U (aJ U (aa ?_)))))))
 refine tq 5 [(1,Q b1),(11,.bool ((x.Name.toList==(⟨#[]⟩:ByteArray).toList)&&(((x.L.length:Nat):Int)==2)))] (fun hk1=>?_) (fun e=>?_)
 ·refine ar 6 U (fun c1=>?_) (fun c1=>?_)
  ·refine az dE U (aO 0 ty64 U U U (bC fT U (aJ U (ah U ?_))))
   exact hk1 _ ⟨U,(cb (cW c1)),trivial⟩
  ·refine kq (kq (ah U ?_))
   exact hk1 _ ⟨U,(cb (cX c1)),trivial⟩
 refine aa ?_
 refine tq 4 [(16,.bool (((x.Name.toList==(⟨#[]⟩:ByteArray).toList)&&(((x.L.length:Nat):Int)==2))&&(aR x.N 0 1099511627776)))] (fun hk2=>?_) (fun e=>?_)
 ·refine ar 12 U (fun c2=>?_) (fun c2=>?_)
  ·refine az j0 U (aO 0 ty3 U U U (aG (v:=.bool (aR x.N 0 1099511627776)) tg (fJ h x.N 0 1099511627776 ) U (ah U ?_)))
   exact hk2 _ ⟨(cb (cW c2)),trivial⟩
  ·refine kq (bP (ah U ?_))
   exact hk2 _ ⟨(cb (cX c2)),trivial⟩
 refine an ?_
 exact aw [.bool (((x.Name.toList==(⟨#[]⟩:ByteArray).toList)&&(((x.L.length:Nat):Int)==2))&&(aR x.N 0 1099511627776))] Tryz.func303 U hX rd (cs hs0)
theorem C7 (h:HF) (i:Int) (hi:0≤i∧i < 5) (x:Expr) (fe:cI) (hx:Expr.ok h x fe):uO Tryz.prog (kfun i) [.agg (Expr.cells x fe).toArray] h [] (.bool (kindsP i x)):=by
 have:i=0∨i=1∨i=2∨i=3∨i=4:=by omega
 rcases this with rfl | rfl | rfl | rfl | rfl
 ·exact iZ (cap:=[]) Tryz.call299 (rW h x fe hx)
 ·exact iZ (cap:=[]) Tryz.call300 (rV h x fe hx)
 ·exact iZ (cap:=[]) Tryz.call301 (rU h x fe hx)
 ·exact iZ (cap:=[]) Tryz.call302 (rT h x fe hx)
 ·exact iZ (cap:=[]) Tryz.call303 (rS h x fe hx)
end Go.Sg
namespace Go.Sg
open Go.Proofs
set_option maxHeartbeats 2000000
set_option maxRecDepth 100000
set_option linter.unusedVariables false
theorem uw (h:HF) (p:Policy) (fb:eO) (hp:Policy.ok h p fb) (hsm:smP p) (hk:Kinds h):EK Tryz.prog 217 [.agg (Policy.cells p fb).toArray] h (exW stopV (fun r:Unit=>(.tuple #[]:Value)) (bD p)):=by
 refine ay yC U Tryz.ntmps217 U fun X hM hX=>?_
 have hs0:bD p=bD p:=rfl
 have hsr:=hsm.rules
 refine sr (dy (fun b1=>ac (sr (az kD U (aO 0 ty62 U U U (bC kL U (aJ U (aa ?_))))))))
 refine tq 8 [(1,Q b1),(20,.bool (decide (0 < ((p.Kinds.length:Nat):Int))&&(((p.Rules.length:Nat):Int)==((p.Kinds.length:Nat):Int))))] (fun hk1=>?_) (fun e=>?_)
 ·refine ar 12 U (fun c1=>?_) (fun c1=>?_)
  ·refine az e9 U (aO 0 ty63 U U U (bC jJ U (az kD U (aO 0 ty62 U U U (bC kL U (aJ U (ah U ?_)))))))
   exact hk1 _ ⟨U,(cb (cW c1)),trivial⟩
  ·refine kq (kq (kq (bP (ah U ?_))))
   exact hk1 _ ⟨U,(cb (cX c1)),trivial⟩
 refine aa ?_
 refine tq 4 [(1,Q b1),(25,.bool ((decide (0 < ((p.Kinds.length:Nat):Int))&&(((p.Rules.length:Nat):Int)==((p.Kinds.length:Nat):Int)))&&(aR p.Mode 1 4)))] (fun hk2=>?_) (fun e=>?_)
 ·refine ar 21 U (fun c2=>?_) (fun c2=>?_)
  ·refine az rI U (aO 0 ty3 U U U (aG (v:=.bool (aR p.Mode 1 4)) tg (fJ h p.Mode 1 4 ) U (ah U ?_)))
   exact hk2 _ ⟨U,(cb (cW c2)),trivial⟩
  ·refine kq (bP (ah U ?_))
   exact hk2 _ ⟨U,(cb (cX c2)),trivial⟩
 refine a8 (kx sf (fW h ((decide (0 < ((p.Kinds.length:Nat):Int))&&(((p.Rules.length:Nat):Int)==((p.Kinds.length:Nat):Int)))&&(aR p.Mode 1 4)) 200 ) U (fun u1 hu1=>?_) (fun pv1 hpv1 e=>?_))
 ·obtain ⟨rx1,hrx1,rfl⟩:=mn hu1
  have hs1:=hs0.trans (mm hrx1)
  cases rx1
  refine ac (ae (sr (az e9 U (aO 0 ty63 U U U (bC jJ U (aa (ac ?_)))))))
  let z2:Nat×Obj:=(b1,O (Policy.cells p fb) 68)
  refine br (ι:=Nat) (fun i=>[(1,Q b1)]) (fun i=>h) (fun i=>[z2]) (fun i=>i≤p.Rules.length∧bD p=((bD.K1 p))) ?_ (fun hx1=>?_)
  ·rintro i1 ⟨bd,hs2⟩ e
   try dsimp only at bd
   try dsimp only
   refine sr (dq 0 ty68 U U U (a8 (dg Tryz.call243 (j6 h p fb hp ob) U (fun v1 h1 hle1 hp1=>?_))))
   obtain ⟨rb1,rc1,rfl,sl1⟩:=hp1
   refine bX zc64 (fun b3=>dW 0 ty64 U U U U U U (ac (sr (aO 0 ty64 U U U (bC fT U (aa (ac ?_)))))))
   refine gf ?_
   let z1:Nat×Obj:=(b3,O [.slice rb1 ((aF p).length) rc1] 64)
   refine dX (L':=[z1,z2]++(markB [])) ap ?_
   refine pA (ι:=Nat×List Nat×HF) (fun i=>[]) (fun i=>marks i.2.1) (fun i=>i.2.2) (fun i=>[z1,z2]++(markB i.2.1)) (fun i=>i.1≤(aF p).length∧bD p=((bD.K2))∧HF.le h1 i.2.2) ?_ (fun hx2=>?_)
   ·rintro ⟨i2,rs2,hh2⟩ ⟨jW,hs3,hl2⟩ e
    try dsimp only at jW hl2
    try dsimp only
    have hs4:bD p=(Except.ok ()):=hs3
    refine dX (L':=([z1,z2])++markB rs2) ap ?_
    exact tv rs2 [] yC U hX trivial (congrArg (exW stopV (fun r:Unit=>(.tuple #[]:Value))) hs4)
   ·refine tr (ι:=Nat×List Nat×HF×List Expr) (fun i=>[(4,Q b3),(52,.slice rb1 ((aF p).length) rc1),(53,I (((aF p).length:Nat):Int)),(54,I ((i.1:Nat):Int))]) (fun i=>marks i.2.1) (fun i=>i.2.2.1) (fun i=>[z1,z2]++(markB i.2.1)) (fun i=>(aF p).drop i.1=i.2.2.2∧i.1≤(aF p).length∧bD p=((bD.L2 p (bD.K2)) i.2.2.2 i.1)∧HF.le h1 i.2.2.1) (fun i=>i.2.2.2.length) (0,[],h1,(aF p)) U rd sw ⟨U,Nat.zero_le _,hs2,(HF.le_refl h1)⟩ ?_
    rintro ⟨i2,rs2,hh2,s2⟩ ⟨hd2,jW,hs5,hl2⟩ ag1 e
    try dsimp only at hd2 jW hl2
    rcases s2 with _ | ⟨y2,rz2⟩
    ·have sU:=cU hd2
     try dsimp only
     refine sr (aB (v':=.bool false) U (cb sU) (ac (ae (bg U (bO U ?_)))))
     exact hx2 (i2,rs2,hh2) _ ⟨jW,hs5,hl2⟩ trivial
    ·have qr:=dY hd2
     have lu:=cY hd2
     have w9:=aT hd2
     have Dc:=sl1.1.1
     try have hsy:=uc hsm (gm hd2)
     try dsimp only
     refine sr (aB (v':=.bool true) U (cb qr) (ac (ae (bn U (ao (ae (aW (sr (aa (a8 (gL fT ty66 (sl1.mono Expr.aN hl2).1 (nthZ lu) (bB lu) U U U (fun q4 cs3 A5 ln3 rr3=>?_))))))))))))
     obtain ⟨r3,rfl,ok3⟩:=rr3
     refine ed ty66 A5 U U (bX zc3 (fun b7=>bX zc66 (fun b8=>dW 1 ty3 U U U U U U (bN 0 ty66 U U U U U U (ac (sr (dq 0 ty66 U U U (a8 (dg DJ (kz hh2 y2 r3 1 ok3 ob) U (fun v3 h3 hle3 hp3=>?_))))))))))
     obtain ⟨_,rfl,mo2⟩:=hp3
     refine ac (aW ?_)
     let z3:Nat×Obj:=(b7,O [I ((i2:Nat):Int)] 3)
     let z5:Nat×Obj:=(b8,O (Expr.cells y2 r3) 66)
     refine dX (L':=([z5,z3,z1,z2])++markB rs2) ap ?_
     refine j2 (it:=v3) (xs:=(cg y2 1)) (ι:=HF) rs2 (fun i=>i) (fun i=>[z5,z3,z1,z2]) (fun s i=>bD p=((bD.L4 p i2 ((bD.L2 p (bD.K2) rz2 ((i2+1))))) s )∧HF.le h3 i) (fun _=>False) (fun _=>False) 0 (fun ch _ _=>∃ pv_,ch=[{ v:=stopV pv_,recovered:=false }]∧bD p=.error pv_) h3 yC U mo2 U ls (fun _ _ _ _ _ hq=>hq) U (show [z5,z3,z1,z2]=_ from U) ⟨hs5,(HF.le_refl h3)⟩ ?_ ?_ ?_ ?_ ?_
     ·rintro l4 dm4 lp4 y4 rz4 vs4 hh4 hr4 X hFR4 ⟨hs7,hl4⟩ hl04 hlr4 hv4 hX hXM hlp4 nx4 rt4 ex4 pn4
      try dsimp only at hl4 hlr4
      obtain ⟨rr4_0,rfl,ok4_0⟩:=hv4
      let z6:Nat×Obj:=(dm4,.deferred (some []))
      refine dX (L':=[(l4,.loop lp4),z6,z5,z3,z1,z2]++(markB rs2)) ap ?_
      refine ai (bX zc258 (fun b10=>bN 0 ty258 U U U U U U (ac (j3 1 U hlp4 (aW (ae ?_))))))
      let z4:Nat×Obj:=(l4,.loop { lp4 with state:=.busy })
      let z8:Nat×Obj:=(b10,O (fC.cells y4 rr4_0) 258)
      refine ga ([z8,z4,z6,z5,z3,z1,z2]) mixed kr jn (fun eX _=>?_)
      refine tf 0 U U (fun _ _ _=>dB kV U) (tf 1 U U (fun _ _ _=>dB kE U) ?_)
      refine tf 2 U U (fun _ _ hj=>gu ty3 U (hj.nth (i:=0) U) U) (tn 3 U ?_)
      refine fu (v:=.bool (aR y4.x.Kind 1 4)) tg (fJ hr4 y4.x.Kind 1 4 ) U (⟨jn,?_⟩)
      refine tm 4 U ?_
      refine eo 66 U (fun c3=>?_) (fun c3=>?_)
      ·refine tf 5 U U (fun _ _ _=>dB kV U) (tf 6 U U (fun _ _ _=>dB kE U) ?_)
       refine tf 7 U U (fun _ _ hj=>gu ty3 U (hj.nth (i:=0) U) U) ?_
       have ho4:0≤(y4.x.Kind:Int)∧(y4.x.Kind:Int) < 5:=(by have:=El ob;omega)
       have A7:=(hk.mono ((((hle1.t hl2).t hle3).t hl4).t hlr4)).at ho4
       refine tf 8 U U (fun _ _ _=>FH Tryz.underlying284 ty165 U U ho4) (tf 9 U U (fun _ _ hj=>gd ty165 (A7.mono hj.1) U) ?_)
       refine tf 10 U U (fun _ _ _=>dB kV U) (tf 11 U U (fun _ _ hj=>ky ty66 U (hj.nth (i:=0) U) U) ?_)
       refine tn 12 U (nl (v:=.bool (kindsP y4.x.Kind y4.x)) [] (List.nil_sublist _) (C7 hr4 y4.x.Kind ho4 y4.x rr4_0.x ok4_0.x) U U (⟨jn,?_⟩))
       refine tf 13 U U (fun _ _ _=>rB U (cb (show (kindsP y4.x.Kind y4.x)=((aR y4.x.Kind 1 4)&&(kindsP y4.x.Kind y4.x)) from by first | (rw [c3];rfl) | (rw [c3];rfl) | simp [c3]))) ?_
       refine tn 14 U (kx sf (fW hr4 ((aR y4.x.Kind 1 4)&&(kindsP y4.x.Kind y4.x)) 200 ) U (fun u2 hu2=>?_) (fun pv2 hpv2 e=>?_))
       ·obtain ⟨rx2,hrx2,rfl⟩:=mn hu2
        have hs8:=hs7.trans (mm hrx2)
        cases rx2
        refine ⟨jn,?_⟩
        refine bY kr ?_
        refine ai (aO 4 ty3 U U U (aO 5 ty64 U U U (bC fT U (aJ U (aJ U (aa ?_))))))
        refine tq 5 [(87,.bool (decide (((i2:Nat):Int) < (IntKind.wrap .i64 ((((aF p).length:Nat):Int) - 1)))||(y4.x.Kind != 4)))] (fun hk3=>?_) (fun e=>?_)
        ·refine ar 82 U (fun c4=>?_) (fun c4=>?_)
         ·refine kq (kq (ah U ?_))
          exact hk3 _ ⟨(cb (dL c4)),trivial⟩
         ·refine az kV U (az kE U (aO 0 ty3 U U U (aJ U (ah U ?_))))
          exact hk3 _ ⟨(cb (dM c4)),trivial⟩
        refine a8 (kx sf (fW hr4 (decide (((i2:Nat):Int) < (IntKind.wrap .i64 ((((aF p).length:Nat):Int) - 1)))||(y4.x.Kind != 4)) 200 ) U (fun u3 hu3=>?_) (fun pv3 hpv3 e=>?_))
        ·obtain ⟨rx3,hrx3,rfl⟩:=mn hu3
         have hs9:=hs8.trans (mm hrx3)
         cases rx3
         refine ac (av ?_)
         refine cE (L':=[z4,z6,z5,z3,z1,z2]++(markB rs2)) js ?_
         refine dX (L':=rdH l4 dm4 lp4 (([z5,z3,z1,z2])++markB rs2)) ap ?_
         exact nx4 hr4 _ _ ⟨hs9,(hl4.t hlr4)⟩ (HF.le_refl _)
        ·obtain ⟨pv3e,hpv3e,rfl⟩:=kH hpv3
         have hs10:=hs8.trans (kG hpv3e)
         refine sF (L':=[z4,z6]++(markB rs2)) js ?_
         exact pn4 _ _ _ [] ⟨_,U,hs10⟩
       ·obtain ⟨pv2e,hpv2e,rfl⟩:=kH hpv2
        have hs11:=hs7.trans (kG hpv2e)
        refine sF (L':=[z4,z6]++(markB rs2)) js ?_
        exact pn4 _ _ _ [] ⟨_,U,hs11⟩
      ·refine tk 5 U U (tk 6 U U ?_)
       refine tk 7 U U (tk 8 U U ?_)
       refine tk 9 U U (tk 10 U U ?_)
       refine tk 11 U U (tk 12 U U ?_)
       refine tf 13 U U (fun _ _ _=>rB U (cb (show false=((aR y4.x.Kind 1 4)&&(kindsP y4.x.Kind y4.x)) from by first | (rw [c3];rfl) | (rw [c3];rfl) | simp [c3]))) ?_
       refine tn 14 U (kx sf (fW hr4 ((aR y4.x.Kind 1 4)&&(kindsP y4.x.Kind y4.x)) 200 ) U (fun u4 hu4=>?_) (fun pv4 hpv4 e=>?_))
       ·obtain ⟨rx4,hrx4,rfl⟩:=mn hu4
        have hs12:=hs7.trans (mm hrx4)
        cases rx4
        refine ⟨jn,?_⟩
        refine bY kr ?_
        refine ai (aO 4 ty3 U U U (aO 5 ty64 U U U (bC fT U (aJ U (aJ U (aa ?_))))))
        refine tq 5 [(87,.bool (decide (((i2:Nat):Int) < (IntKind.wrap .i64 ((((aF p).length:Nat):Int) - 1)))||(y4.x.Kind != 4)))] (fun hk4=>?_) (fun e=>?_)
        ·refine ar 82 U (fun c5=>?_) (fun c5=>?_)
         ·refine kq (kq (ah U ?_))
          exact hk4 _ ⟨(cb (dL c5)),trivial⟩
         ·refine az kV U (az kE U (aO 0 ty3 U U U (aJ U (ah U ?_))))
          exact hk4 _ ⟨(cb (dM c5)),trivial⟩
        refine a8 (kx sf (fW hr4 (decide (((i2:Nat):Int) < (IntKind.wrap .i64 ((((aF p).length:Nat):Int) - 1)))||(y4.x.Kind != 4)) 200 ) U (fun u5 hu5=>?_) (fun pv5 hpv5 e=>?_))
        ·obtain ⟨rx5,hrx5,rfl⟩:=mn hu5
         have hs13:=hs12.trans (mm hrx5)
         cases rx5
         refine ac (av ?_)
         refine cE (L':=[z4,z6,z5,z3,z1,z2]++(markB rs2)) js ?_
         refine dX (L':=rdH l4 dm4 lp4 (([z5,z3,z1,z2])++markB rs2)) ap ?_
         exact nx4 hr4 _ _ ⟨hs13,(hl4.t hlr4)⟩ (HF.le_refl _)
        ·obtain ⟨pv5e,hpv5e,rfl⟩:=kH hpv5
         have hs14:=hs12.trans (kG hpv5e)
         refine sF (L':=[z4,z6]++(markB rs2)) js ?_
         exact pn4 _ _ _ [] ⟨_,U,hs14⟩
       ·obtain ⟨pv4e,hpv4e,rfl⟩:=kH hpv4
        have hs15:=hs7.trans (kG hpv4e)
        refine sF (L':=[z4,z6]++(markB rs2)) js ?_
        exact pn4 _ _ _ [] ⟨_,U,hs15⟩
     ·rintro dm4 hh4 hn4 ⟨hs16,hl4⟩ hln4 hl04
      try dsimp only at hl4 hln4
      refine dX (L':=[z5,z3,z1,z2]++(markB (dm4::rs2))) ap ?_
      refine av (av (ai (aB (v':=I (((i2+1):Nat):Int)) U (bW ob) ?_)))
      refine aa (ac ?_)
      refine cE (L':=[z1,z2]++(markB (dm4::rs2))) js ?_
      exact ag1 ((i2+1),(dm4::rs2),hn4,rz2) _ (Nat.lt_succ_self _) ⟨bF hd2,aT hd2,hs16,(((hl2.t hle3).t hl4).t hln4)⟩ rd
     ·exact fun _ _ _ hF=>hF.elim
     ·exact fun _ _ _ hF=>hF.elim
     ·rintro dm4 ch hn4 L0 ⟨pv_,rfl,hpv_⟩ hl04
      exact lz (dm4::rs2) yC hX (congrArg (exW stopV (fun r:Unit=>(.tuple #[]:Value))) hpv_)
  ·refine cp (ι:=Nat×List Rule) (fun i=>[(1,Q b1),(28,.slice fb.jT p.Rules.length fb.jS),(29,I ((p.Rules.length:Nat):Int)),(30,I ((i.1:Nat):Int))]) (fun i=>h) (fun i=>[z2]) (fun i=>p.Rules.drop i.1=i.2∧i.1≤p.Rules.length∧bD p=((bD.L1 p (bD.K1 p)) i.2 i.1)) (fun i=>i.2.length) (0,p.Rules) rd sw ⟨U,Nat.zero_le _,hs1⟩ ?_
   rintro ⟨i1,s1⟩ ⟨hd1,bd,hs17⟩ ag2 e
   try dsimp only at hd1 bd
   rcases s1 with _ | ⟨y1,rz1⟩
   ·have dI:=cU hd1
    try dsimp only
    refine sr (aB (v':=.bool false) U (cb dI) (ac (ae (bg U (bO U ?_)))))
    exact hx1 i1 _ ⟨bd,hs17⟩ rd
   ·have dH:=dY hd1
    have bh:=cY hd1
    have eT:=aT hd1
    have gx:=hp.Rules.1.1
    try have hsy:=uc hsm (gm hd1)
    try dsimp only
    refine sr (aB (v':=.bool true) U (cb dH) (ac (ae (bn U (ao (ae (aW (sr (aa (a8 (gL jJ ty107 hp.Rules.1 (nthZ bh) (bB bh) U U U (fun q5 cs4 A8 ln4 rr4=>?_))))))))))))
    obtain ⟨r4,rfl,ok4⟩:=rr4
    refine ed ty107 A8 U U (bX zc107 (fun b11=>ba (bN 0 ty107 U U U U U U (ac ?_))))
    let z7:Nat×Obj:=(b11,O (Rule.cells y1 r4) 107)
    refine ga ([z7,z2]) mixed kr jn (fun w8 _=>?_)
    refine tf 0 U U (fun _ _ _=>dB ub U) (tf 1 U U (fun _ _ hj=>gu ty9 U (hj.nth (i:=0) U) U) (tf 2 U U (fun _ _ _=>dB kD U) ?_))
    refine tf 3 U U (fun _ _ hj=>gu ty62 U (hj.nth (i:=1) U) U) (tm 4 U ?_)
    have ho5:0≤(((i1:Nat):Int):Int)∧(((i1:Nat):Int):Int) < ((p.Kinds).length:Int):=(by have hm:=EA hrx1;simp only [decide_eq_true_eq,decide_eq_false_iff_not,Bool.and_eq_true,Bool.or_eq_true,Bool.not_eq_true',Bool.not_eq_false',Bool.and_eq_false_iff,Bool.or_eq_false_iff,beq_iff_eq,beq_eq_false_iff_ne,bne_iff_ne,bne_eq_false_iff_eq,List.length_append,List.length_cons,List.length_nil,List.length_drop] at hm;omega)
    refine fA 5 (enc:=fun y=>[.string y]) w8 jn (fun _ _ _ e=>e) kL ty9 hp.Kinds.1 ho5 (eA ho5) U U U U kr (fun q6 A9=>tf 6 U U (fun _ _ hj=>gd ty9 (A9.mono hj.1) U) ?_)
    refine tf 7 U U (fun _ _ _=>ib U) (tm 8 U ?_)
    refine eo 43 U (fun c6=>?_) (fun c6=>?_)
    ·refine tf 9 U U (fun _ _ _=>dB mX U) (tf 10 U U (fun _ _ hj=>gu ty3 U (hj.nth (i:=0) U) U) (tn 11 U ?_))
     refine fu (v:=.bool (aR y1.Think 0 1099511627775)) tg (fJ h y1.Think 0 1099511627775 ) U (⟨jn,?_⟩)
     refine tf 12 U U (fun _ _ _=>rB U (cb (show (aR y1.Think 0 1099511627775)=((y1.Kind.toList==(nthI p.Kinds ((i1:Nat):Int)).toList)&&(aR y1.Think 0 1099511627775)) from by first | (rw [c6];rfl) | (rw [c6];rfl) | simp [c6]))) ?_
     refine tn 13 U (kx sf (fW h ((y1.Kind.toList==(nthI p.Kinds ((i1:Nat):Int)).toList)&&(aR y1.Think 0 1099511627775)) 200 ) U (fun u6 hu6=>?_) (fun pv6 hpv6 e=>?_))
     ·obtain ⟨rx6,hrx6,rfl⟩:=mn hu6
      have hs19:=hs17.trans (mm hrx6)
      cases rx6
      refine ⟨jn,(bY kr ?_)⟩
      refine av (ai (aB (v':=I (((i1+1):Nat):Int)) U (bW ob) ?_))
      refine aa (ac ?_)
      refine cE (L':=[z2]) js ?_
      exact ag2 ((i1+1),rz1) _ (Nat.lt_succ_self _) ⟨bF hd1,aT hd1,hs19⟩ rd
     ·obtain ⟨pv6e,hpv6e,rfl⟩:=kH hpv6
      have hs20:=hs17.trans (kG hpv6e)
      refine i6 ?_
      exact lz [] yC hX (congrArg (exW stopV (fun r:Unit=>(.tuple #[]:Value))) hs20)
    ·refine tk 9 U U (tk 10 U U (tk 11 U U (tf 12 U U (fun _ _ _=>rB U (cb (show false=((y1.Kind.toList==(nthI p.Kinds ((i1:Nat):Int)).toList)&&(aR y1.Think 0 1099511627775)) from by first | (rw [c6];rfl) | (rw [c6];rfl) | simp [c6]))) ?_)))
     refine tn 13 U (kx sf (fW h ((y1.Kind.toList==(nthI p.Kinds ((i1:Nat):Int)).toList)&&(aR y1.Think 0 1099511627775)) 200 ) U (fun u7 hu7=>?_) (fun pv7 hpv7 e=>?_))
     ·obtain ⟨rx7,hrx7,rfl⟩:=mn hu7
      have hs21:=hs17.trans (mm hrx7)
      cases rx7
      refine ⟨jn,(bY kr ?_)⟩
      refine av (ai (aB (v':=I (((i1+1):Nat):Int)) U (bW ob) ?_))
      refine aa (ac ?_)
      refine cE (L':=[z2]) js ?_
      exact ag2 ((i1+1),rz1) _ (Nat.lt_succ_self _) ⟨bF hd1,aT hd1,hs21⟩ rd
     ·obtain ⟨pv7e,hpv7e,rfl⟩:=kH hpv7
      have hs22:=hs17.trans (kG hpv7e)
      refine i6 ?_
      exact lz [] yC hX (congrArg (exW stopV (fun r:Unit=>(.tuple #[]:Value))) hs22)
 ·obtain ⟨pv1e,hpv1e,rfl⟩:=kH hpv1
  have hs23:=hs0.trans (kG hpv1e)
  refine i6 ?_
  exact lz [] yC hX (congrArg (exW stopV (fun r:Unit=>(.tuple #[]:Value))) hs23)
theorem qm (h:HF) (p:Policy) (fb:eO) (p_q:Addr) (hp:Policy.ok h p fb) (ap:At h p_q (Policy.cells p fb)) (hsm:smP p) (hk:Kinds h):EK Tryz.prog 214 [.pointer (some p_q)] h (exW stopV (fun r:Unit=>(.tuple #[]:Value)) (di p)):=by
 refine ay DG U Tryz.ntmps214 U fun X hM hX=>?_
 have hs0:di p=di p:=rfl
 refine sr (ed ty68 ap U U ?_)
 refine a8 (kx Tryz.call215 (tI h p fb hp ob) U (fun u1 hu1=>?_) (fun pv1 hpv1 e=>?_))
 ·obtain ⟨rx1,hrx1,rfl⟩:=mn hu1
  have hs1:=hs0.trans (mm hrx1)
  cases rx1
  refine ac (sr (ed ty68 ap U U ?_))
  refine a8 (kx Tryz.call216 (tJ h p fb hp ob) U (fun u2 hu2=>?_) (fun pv2 hpv2 e=>?_))
  ·obtain ⟨rx2,hrx2,rfl⟩:=mn hu2
   have hs2:=hs1.trans (mm hrx2)
   cases rx2
   refine ac (ai (ed ty68 ap U U ?_))
   refine a8 (kx Tryz.call217 (uw h p fb hp ob hk) U (fun u3 hu3=>?_) (fun pv3 hpv3 e=>?_))
   ·obtain ⟨rx3,hrx3,rfl⟩:=mn hu3
    have hs3:=hs2.trans (mm hrx3)
    cases rx3
    refine ac ?_
    have hs4:di p=(Except.ok ()):=hs3
    refine gf ?_
    exact tv [] [] DG U hX trivial (congrArg (exW stopV (fun r:Unit=>(.tuple #[]:Value))) hs4)
   ·obtain ⟨pv3e,hpv3e,rfl⟩:=kH hpv3
    have hs5:=hs2.trans (kG hpv3e)
    refine i6 ?_
    exact lz [] DG hX (congrArg (exW stopV (fun r:Unit=>(.tuple #[]:Value))) hs5)
  ·obtain ⟨pv2e,hpv2e,rfl⟩:=kH hpv2
   have hs6:=hs1.trans (kG hpv2e)
   refine i6 ?_
   exact lz [] DG hX (congrArg (exW stopV (fun r:Unit=>(.tuple #[]:Value))) hs6)
 ·obtain ⟨pv1e,hpv1e,rfl⟩:=kH hpv1
  have hs7:=hs0.trans (kG hpv1e)
  refine i6 ?_
  exact lz [] DG hX (congrArg (exW stopV (fun r:Unit=>(.tuple #[]:Value))) hs7)
theorem qR (rec:(List ByteArray)→Expr→Expr) (h:HF) (offices:(List ByteArray)) (cB:Option Addr) (cA:Nat) (x:Expr) (fe:cI) (hrec:∀ (h:HF) (qoffices:(List ByteArray)) (iC:Option Addr) (iB:Nat) (qx:Expr) (jq:cI) (hqoffices:SlC Rp.str h iC iB qoffices) (hqx:Expr.ok h qx jq) (hsz:qx.dep≤2000000) (_:qx.dep < x.dep),jK Tryz.prog 218 [.slice iC qoffices.length iB,.agg (Expr.cells qx jq).toArray] h (fun v h'=>∃ (rr0:cI),v=.agg (Expr.cells (rec qoffices qx) rr0).toArray∧Expr.ok h' (rec qoffices qx) rr0)) (hoffices:SlC Rp.str h cB cA offices) (hx:Expr.ok h x fe) (hsz:x.dep≤2000000):jK Tryz.prog 218 [.slice cB offices.length cA,.agg (Expr.cells x fe).toArray] h (fun v h'=>∃ (rr0:cI),v=.agg (Expr.cells (au.F rec offices x) rr0).toArray∧Expr.ok h' (au.F rec offices x) rr0):=by
 refine ay Tryz.func218 U Tryz.ntmps218 U fun X hM hX=>?_
 have hs0:au.F rec offices x=au.F rec offices x:=rfl
 have hln:=Expr.FW x
 refine sr (dy (fun b1=>bX zc66 (fun b2=>ac (sr (az mI U (dW 1 ty3 U U U U U U (ac (ae (sr (dq 1 ty66 U U U (aG (v:=.bool (da (Expr.mk x.Kind x.N 0 x.Name x.L))) Tryz.call220 (lg h (Expr.mk x.Kind x.N 0 x.Name x.L) (cI.mk fe.ir fe.iE) (show Expr.ok h (Expr.mk x.Kind x.N 0 x.Name x.L) (cI.mk fe.ir fe.iE) from Expr.ok.of hx.list)) U ?_)))))))))))
 refine ac ?_
 refine aE U (fun c1=>?_) (fun c1=>?_)
 ·have hs1:=hs0.trans (bt c1)
  refine ai (aa (az mi U (aO 1 ty9 U U U (aG (v:=I (aQ offices x.Name)) E4 (jt h offices cB cA x.Name hoffices) U (az mI U (dW 1 ty3 U U U U U U ?_))))))
  refine ac (sr (az dE U (aO 1 ty64 U U U (an (sr (az dE U (dW 1 ty64 U U U U U U (ac (ae (sr (aa (bC fT U (aa (ac ?_))))))))))))))
  let z1:Nat×Obj:=(b2,O [I 0,I 0,I 0,.string (⟨#[]⟩:ByteArray),.slice none 0 0] 66)
  refine br (ι:=Nat×(List Expr)×Option Addr×Nat×LH×HF) (fun i=>[(3,Q b1),(4,Q b2)]) (fun i=>i.2.2.2.2.2) (fun i=>[z1,(b1,O [I x.Kind,I x.N,I (aQ offices x.Name),.string x.Name,.slice i.2.2.1 i.2.1.length i.2.2.2.1] 66)]++(i.2.2.2.2.1)) (fun i=>i.1≤x.L.length∧au.F rec offices x=((au.K1 offices x) i.2.1)∧ep Expr.rp 66 i.2.2.2.2.2 i.2.1 i.2.2.1 i.2.2.2.1 i.2.2.2.2.1∧i.2.1.length≤0+i.1∧HF.le h i.2.2.2.2.2) ?_ (fun hx1=>?_)
  ·rintro ⟨i1,ji,mg,mf,rm,hh1⟩ ⟨bd,hs2,mW,xu,hl1⟩ e
   try dsimp only at bd mW xu hl1
   try dsimp only
   let z3:Nat×Obj:=(b1,O [I x.Kind,I x.N,I (aQ offices x.Name),.string x.Name,.slice mg ji.length mf] 66)
   let z15:Nat×Obj:=(b2,O [I x.Kind,I x.N,I (aQ offices x.Name),.string x.Name,.slice mg ji.length mf] 66)
   refine sr (dq 1 ty66 U U U (bN 0 ty66 U U U U U U (iv (L':=[z15,z3]++(rm)) U ?_)))
   refine ac ?_
   refine gj Expr.aN ([z15,z3]) rm ([]) ap hM mW (fun h3 hle3 sl2=>?_)
   have hs3:au.F rec offices x=(Expr.mk x.Kind x.N (aQ offices x.Name) x.Name ji):=hs2
   exact dS [.agg (List.toArray [I x.Kind,I x.N,I (aQ offices x.Name),.string x.Name,.slice mg ji.length mf])] Tryz.func218 U ⟨⟨0,_,_,_,_,U,U,.inl ⟨ty66,U⟩⟩,trivial⟩ ⟨(cI.mk mg mf),congrArg (fun r:Expr=>(.agg (Expr.cells r (cI.mk mg mf)).toArray:Value)) hs3.symm,(by rw [hs3];exact (show Expr.ok h3 (Expr.mk x.Kind x.N (aQ offices x.Name) x.Name ji) (cI.mk mg mf) from Expr.ok.of sl2))⟩
  ·refine cp (ι:=Nat×(List Expr)×Option Addr×Nat×LH×HF×List Expr) (fun i=>[(0,.slice cB offices.length cA),(3,Q b1),(4,Q b2),(19,.slice fe.ir x.L.length fe.iE),(20,I ((x.L.length:Nat):Int)),(21,I ((i.1:Nat):Int))]) (fun i=>i.2.2.2.2.2.1) (fun i=>[z1,(b1,O [I x.Kind,I x.N,I (aQ offices x.Name),.string x.Name,.slice i.2.2.1 i.2.1.length i.2.2.2.1] 66)]++(i.2.2.2.2.1)) (fun i=>x.L.drop i.1=i.2.2.2.2.2.2∧i.1≤x.L.length∧au.F rec offices x=((au.L1 rec offices (au.K1 offices x)) i.2.2.2.2.2.2 i.2.1)∧ep Expr.rp 66 i.2.2.2.2.2.1 i.2.1 i.2.2.1 i.2.2.2.1 i.2.2.2.2.1∧i.2.1.length≤0+i.1∧HF.le h i.2.2.2.2.2.1) (fun i=>i.2.2.2.2.2.2.length) (0,[],none,0,[],h,x.L) rd sw ⟨U,Nat.zero_le _,hs1,ep.nil,lo,(HF.le_refl h)⟩ ?_
   rintro ⟨i1,ji,mg,mf,rm,hh1,s1⟩ ⟨hd1,bd,hs4,mW,xu,hl1⟩ ag1 e
   try dsimp only at hd1 bd mW xu hl1
   rcases s1 with _ | ⟨y1,rz1⟩
   ·have dI:=cU hd1
    try dsimp only
    refine sr (aB (v':=.bool false) U (cb dI) (ac (ae (bg U (bO U ?_)))))
    exact hx1 (i1,ji,mg,mf,rm,hh1) _ ⟨bd,hs4,mW,lo,hl1⟩ rd
   ·have dH:=dY hd1
    have bh:=cY hd1
    have eT:=aT hd1
    have gx:=hx.list.1.1
    have hdy:=Expr.iq (gm hd1)
    try dsimp only
    refine sr (aB (v':=.bool true) U (cb dH) (ac (ae (bn U (ao (ae (aW (sr (a8 (gL fT ty66 (hx.list.mono Expr.aN hl1).1 (nthZ bh) (bB bh) U U U (fun q2 cs2 A2 ln2 rr3=>?_)))))))))))
    obtain ⟨r2,rfl,ok3⟩:=rr3
    let z4:Nat×Obj:=(b1,O [I x.Kind,I x.N,I (aQ offices x.Name),.string x.Name,.slice mg ji.length mf] 66)
    refine ed ty66 A2 U U (bX zc66 (fun b5=>bN 0 ty66 U U U U U U (iv (L':=[(b5,O (Expr.cells y1 r2) 66),z1,z4]++(rm)) U ?_)))
    refine ac ?_
    let z8:Nat×Obj:=(b5,O (Expr.cells y1 r2) 66)
    refine ga ([z8,z1]) mixed kr jn (fun eX _=>?_)
    refine tf 0 U U (fun _ _ _=>dB dE U) (tm 2 U ?_)
    refine tf 3 U U (fun _ _ hj=>ky ty66 U (hj.nth (i:=0) U) U) ?_
    refine lF 1 4 kr U U ?_ ?_ 
    ·refine gH (gu ty64 U (lB (i:=2) U) U) (⟨jn,?_⟩)
     refine tn 4 U (dg Ar (hrec hh1 offices cB cA y1 r2 (hoffices.mono Rp.gg hl1) ok3 ob (Expr.iq (gm hd1))) U (fun v2 h4 hle4 hp2=>?_))
     obtain ⟨rr4,rfl,ok4⟩:=hp2
     refine ⟨jl hle4,tu hle4 ?_⟩
     refine tn 5 U (ck (cells:=[I ((rec offices y1).Kind),I ((rec offices y1).N),I ((rec offices y1).No),.string ((rec offices y1).Name),.slice rr4.ir ((rec offices y1).L.length) rr4.iE]) fT ty66 zc66 U U kr (fun b6=>?_))
     refine ⟨jn,?_⟩
     let z12:Nat×Obj:=(b6,O [I ((rec offices y1).Kind),I ((rec offices y1).N),I ((rec offices y1).No),.string ((rec offices y1).Name),.slice rr4.ir ((rec offices y1).L.length) rr4.iE] 66)
     refine tn 6 U (eK Expr.e5 ([z12,z8,z1,z4]) ([]) (fun G=>[z12,z8,z1,z4]++(G)) ap (fun _=>ap) fT ty66 zc66 U bytes66 (mW.mono Expr.aN hle4) U U (eZ 0 U (show bV Expr.rp h4 [I ((rec offices y1).Kind),I ((rec offices y1).N),I ((rec offices y1).No),.string ((rec offices y1).Name),.slice rr4.ir ((rec offices y1).L.length) rr4.iE] ([(rec offices y1)]) from ⟨[I ((rec offices y1).Kind),I ((rec offices y1).N),I ((rec offices y1).No),.string ((rec offices y1).Name),.slice rr4.ir ((rec offices y1).L.length) rr4.iE],[],U,U,⟨rr4,U,ok4⟩,U⟩)) lo lo (fun ob2 oc2 G2 gr2=>?_))
     refine ⟨jn,?_⟩
     refine tf 7 U U (fun _ _ _=>dB dE U) (tn 8 U (jY 3 ty64 U U U U U U (⟨jn,?_⟩)))
     refine bY kr ?_
     refine av (ai (aB (v':=I (((i1+1):Nat):Int)) U (bW ob) (aa (ac ?_))))
     refine cE (L':=[z1,(b1,O [I x.Kind,I x.N,I (aQ offices x.Name),.string x.Name,.slice ob2 ((ji++[(rec offices y1)]).length) oc2] 66)]++(G2)) js ?_
     exact ag1 ((i1+1),(ji++[(rec offices y1)]),ob2,oc2,G2,h4,rz1) _ (Nat.lt_succ_self _) ⟨bF hd1,aT hd1,hs4,gr2,lo,(hl1.t hle4)⟩ rd
    ·refine dg Ar (hrec hh1 offices cB cA y1 r2 (hoffices.mono Rp.gg hl1) ok3 ob (Expr.iq (gm hd1))) U (fun v3 h5 hle5 hp3=>?_)
     obtain ⟨rr5,rfl,ok5⟩:=hp3
     refine ⟨jl hle5,tu hle5 ?_⟩
     refine lF 1 5 kr U U ?_ ?_ 
     ·refine gH (gu ty64 U (lB (i:=2) U) U) (⟨jn,?_⟩)
      refine tn 5 U (ck (cells:=[I ((rec offices y1).Kind),I ((rec offices y1).N),I ((rec offices y1).No),.string ((rec offices y1).Name),.slice rr5.ir ((rec offices y1).L.length) rr5.iE]) fT ty66 zc66 U U kr (fun b7=>?_))
      refine ⟨jn,?_⟩
      let z13:Nat×Obj:=(b7,O [I ((rec offices y1).Kind),I ((rec offices y1).N),I ((rec offices y1).No),.string ((rec offices y1).Name),.slice rr5.ir ((rec offices y1).L.length) rr5.iE] 66)
      refine tn 6 U (eK Expr.e5 ([z13,z8,z1,z4]) ([]) (fun G=>[z13,z8,z1,z4]++(G)) ap (fun _=>ap) fT ty66 zc66 U bytes66 (mW.mono Expr.aN hle5) U U (eZ 0 U (show bV Expr.rp h5 [I ((rec offices y1).Kind),I ((rec offices y1).N),I ((rec offices y1).No),.string ((rec offices y1).Name),.slice rr5.ir ((rec offices y1).L.length) rr5.iE] ([(rec offices y1)]) from ⟨[I ((rec offices y1).Kind),I ((rec offices y1).N),I ((rec offices y1).No),.string ((rec offices y1).Name),.slice rr5.ir ((rec offices y1).L.length) rr5.iE],[],U,U,⟨rr5,U,ok5⟩,U⟩)) lo lo (fun ob3 oc3 G3 gr3=>?_))
      refine ⟨jn,?_⟩
      refine tf 7 U U (fun _ _ _=>dB dE U) (tn 8 U (jY 3 ty64 U U U U U U (⟨jn,?_⟩)))
      refine bY kr ?_
      refine av (ai (aB (v':=I (((i1+1):Nat):Int)) U (bW ob) (aa (ac ?_))))
      refine cE (L':=[z1,(b1,O [I x.Kind,I x.N,I (aQ offices x.Name),.string x.Name,.slice ob3 ((ji++[(rec offices y1)]).length) oc3] 66)]++(G3)) js ?_
      exact ag1 ((i1+1),(ji++[(rec offices y1)]),ob3,oc3,G3,h5,rz1) _ (Nat.lt_succ_self _) ⟨bF hd1,aT hd1,hs4,gr3,lo,(hl1.t hle5)⟩ rd
     ·refine ck (cells:=[I ((rec offices y1).Kind),I ((rec offices y1).N),I ((rec offices y1).No),.string ((rec offices y1).Name),.slice rr5.ir ((rec offices y1).L.length) rr5.iE]) fT ty66 zc66 U U kr (fun b8=>?_)
      refine ⟨jn,?_⟩
      refine tn 1 U (gH (gu ty64 U (lB (i:=3) U) U) (⟨jn,?_⟩))
      let z14:Nat×Obj:=(b8,O [I ((rec offices y1).Kind),I ((rec offices y1).N),I ((rec offices y1).No),.string ((rec offices y1).Name),.slice rr5.ir ((rec offices y1).L.length) rr5.iE] 66)
      refine tn 6 U (eK Expr.e5 ([z14,z8,z1,z4]) ([]) (fun G=>[z14,z8,z1,z4]++(G)) ap (fun _=>ap) fT ty66 zc66 U bytes66 (mW.mono Expr.aN hle5) U U (eZ 0 U (show bV Expr.rp h5 [I ((rec offices y1).Kind),I ((rec offices y1).N),I ((rec offices y1).No),.string ((rec offices y1).Name),.slice rr5.ir ((rec offices y1).L.length) rr5.iE] ([(rec offices y1)]) from ⟨[I ((rec offices y1).Kind),I ((rec offices y1).N),I ((rec offices y1).No),.string ((rec offices y1).Name),.slice rr5.ir ((rec offices y1).L.length) rr5.iE],[],U,U,⟨rr5,U,ok5⟩,U⟩)) lo lo (fun ob4 oc4 G4 gr4=>?_))
      refine ⟨jn,?_⟩
      refine tf 7 U U (fun _ _ _=>dB dE U) (tn 8 U (jY 3 ty64 U U U U U U (⟨jn,?_⟩)))
      refine bY kr ?_
      refine av (ai (aB (v':=I (((i1+1):Nat):Int)) U (bW ob) (aa (ac ?_))))
      refine cE (L':=[z1,(b1,O [I x.Kind,I x.N,I (aQ offices x.Name),.string x.Name,.slice ob4 ((ji++[(rec offices y1)]).length) oc4] 66)]++(G4)) js ?_
      exact ag1 ((i1+1),(ji++[(rec offices y1)]),ob4,oc4,G4,h5,rz1) _ (Nat.lt_succ_self _) ⟨bF hd1,aT hd1,hs4,gr4,lo,(hl1.t hle5)⟩ rd
 ·have hs6:=hs0.trans (bf c1)
  refine ao (sr (az dE U (aO 1 ty64 U U U (an (sr (az dE U (dW 1 ty64 U U U U U U (ac (ae (sr (aa (bC fT U (aa (ac ?_))))))))))))))
  let z2:Nat×Obj:=(b2,O [I 0,I 0,I 0,.string (⟨#[]⟩:ByteArray),.slice none 0 0] 66)
  refine br (ι:=Nat×(List Expr)×Option Addr×Nat×LH×HF) (fun i=>[(3,Q b1),(4,Q b2)]) (fun i=>i.2.2.2.2.2) (fun i=>[z2,(b1,O [I x.Kind,I x.N,I 0,.string x.Name,.slice i.2.2.1 i.2.1.length i.2.2.2.1] 66)]++(i.2.2.2.2.1)) (fun i=>i.1≤x.L.length∧au.F rec offices x=((au.K2 x) i.2.1)∧ep Expr.rp 66 i.2.2.2.2.2 i.2.1 i.2.2.1 i.2.2.2.1 i.2.2.2.2.1∧i.2.1.length≤0+i.1∧HF.le h i.2.2.2.2.2) ?_ (fun hx2=>?_)
  ·rintro ⟨i2,jh,mb,ma,rj,hh2⟩ ⟨jW,hs7,mS,xk,hl2⟩ e
   try dsimp only at jW mS xk hl2
   try dsimp only
   let z5:Nat×Obj:=(b1,O [I x.Kind,I x.N,I 0,.string x.Name,.slice mb jh.length ma] 66)
   let z16:Nat×Obj:=(b2,O [I x.Kind,I x.N,I 0,.string x.Name,.slice mb jh.length ma] 66)
   refine sr (dq 1 ty66 U U U (bN 0 ty66 U U U U U U (iv (L':=[z16,z5]++(rj)) U ?_)))
   refine ac ?_
   refine gj Expr.aN ([z16,z5]) rj ([]) ap hM mS (fun h8 hle8 sl4=>?_)
   have hs8:au.F rec offices x=(Expr.mk x.Kind x.N 0 x.Name jh):=hs7
   exact dS [.agg (List.toArray [I x.Kind,I x.N,I 0,.string x.Name,.slice mb jh.length ma])] Tryz.func218 U ⟨⟨0,_,_,_,_,U,U,.inl ⟨ty66,U⟩⟩,trivial⟩ ⟨(cI.mk mb ma),congrArg (fun r:Expr=>(.agg (Expr.cells r (cI.mk mb ma)).toArray:Value)) hs8.symm,(by rw [hs8];exact (show Expr.ok h8 (Expr.mk x.Kind x.N 0 x.Name jh) (cI.mk mb ma) from Expr.ok.of sl4))⟩
  ·refine cp (ι:=Nat×(List Expr)×Option Addr×Nat×LH×HF×List Expr) (fun i=>[(0,.slice cB offices.length cA),(3,Q b1),(4,Q b2),(19,.slice fe.ir x.L.length fe.iE),(20,I ((x.L.length:Nat):Int)),(21,I ((i.1:Nat):Int))]) (fun i=>i.2.2.2.2.2.1) (fun i=>[z2,(b1,O [I x.Kind,I x.N,I 0,.string x.Name,.slice i.2.2.1 i.2.1.length i.2.2.2.1] 66)]++(i.2.2.2.2.1)) (fun i=>x.L.drop i.1=i.2.2.2.2.2.2∧i.1≤x.L.length∧au.F rec offices x=((au.L2 rec offices (au.K2 x)) i.2.2.2.2.2.2 i.2.1)∧ep Expr.rp 66 i.2.2.2.2.2.1 i.2.1 i.2.2.1 i.2.2.2.1 i.2.2.2.2.1∧i.2.1.length≤0+i.1∧HF.le h i.2.2.2.2.2.1) (fun i=>i.2.2.2.2.2.2.length) (0,[],none,0,[],h,x.L) rd sw ⟨U,Nat.zero_le _,hs6,ep.nil,lo,(HF.le_refl h)⟩ ?_
   rintro ⟨i2,jh,mb,ma,rj,hh2,s2⟩ ⟨hd2,jW,hs9,mS,xk,hl2⟩ ag2 e
   try dsimp only at hd2 jW mS xk hl2
   rcases s2 with _ | ⟨y2,rz2⟩
   ·have sU:=cU hd2
    try dsimp only
    refine sr (aB (v':=.bool false) U (cb sU) (ac (ae (bg U (bO U ?_)))))
    exact hx2 (i2,jh,mb,ma,rj,hh2) _ ⟨jW,hs9,mS,lo,hl2⟩ rd
   ·have qr:=dY hd2
    have lu:=cY hd2
    have w9:=aT hd2
    have Dc:=hx.list.1.1
    have hdy:=Expr.iq (gm hd2)
    try dsimp only
    refine sr (aB (v':=.bool true) U (cb qr) (ac (ae (bn U (ao (ae (aW (sr (a8 (gL fT ty66 (hx.list.mono Expr.aN hl2).1 (nthZ lu) (bB lu) U U U (fun q4 cs4 A4 ln4 rr8=>?_)))))))))))
    obtain ⟨r4,rfl,ok8⟩:=rr8
    let z6:Nat×Obj:=(b1,O [I x.Kind,I x.N,I 0,.string x.Name,.slice mb jh.length ma] 66)
    refine ed ty66 A4 U U (bX zc66 (fun b11=>bN 0 ty66 U U U U U U (iv (L':=[(b11,O (Expr.cells y2 r4) 66),z2,z6]++(rj)) U ?_)))
    refine ac ?_
    let z7:Nat×Obj:=(b11,O (Expr.cells y2 r4) 66)
    refine ga ([z7,z2]) mixed kr jn (fun w8 _=>?_)
    refine tf 0 U U (fun _ _ _=>dB dE U) (tm 2 U ?_)
    refine tf 3 U U (fun _ _ hj=>ky ty66 U (hj.nth (i:=0) U) U) ?_
    refine lF 1 4 kr U U ?_ ?_ 
    ·refine gH (gu ty64 U (lB (i:=2) U) U) (⟨jn,?_⟩)
     refine tn 4 U (dg Ar (hrec hh2 offices cB cA y2 r4 (hoffices.mono Rp.gg hl2) ok8 ob (Expr.iq (gm hd2))) U (fun v5 h9 hle9 hp5=>?_))
     obtain ⟨rr9,rfl,ok9⟩:=hp5
     refine ⟨jl hle9,tu hle9 ?_⟩
     refine tn 5 U (ck (cells:=[I ((rec offices y2).Kind),I ((rec offices y2).N),I ((rec offices y2).No),.string ((rec offices y2).Name),.slice rr9.ir ((rec offices y2).L.length) rr9.iE]) fT ty66 zc66 U U kr (fun b12=>?_))
     refine ⟨jn,?_⟩
     let z11:Nat×Obj:=(b12,O [I ((rec offices y2).Kind),I ((rec offices y2).N),I ((rec offices y2).No),.string ((rec offices y2).Name),.slice rr9.ir ((rec offices y2).L.length) rr9.iE] 66)
     refine tn 6 U (eK Expr.e5 ([z11,z7,z2,z6]) ([]) (fun G=>[z11,z7,z2,z6]++(G)) ap (fun _=>ap) fT ty66 zc66 U bytes66 (mS.mono Expr.aN hle9) U U (eZ 0 U (show bV Expr.rp h9 [I ((rec offices y2).Kind),I ((rec offices y2).N),I ((rec offices y2).No),.string ((rec offices y2).Name),.slice rr9.ir ((rec offices y2).L.length) rr9.iE] ([(rec offices y2)]) from ⟨[I ((rec offices y2).Kind),I ((rec offices y2).N),I ((rec offices y2).No),.string ((rec offices y2).Name),.slice rr9.ir ((rec offices y2).L.length) rr9.iE],[],U,U,⟨rr9,U,ok9⟩,U⟩)) lo lo (fun ob6 oc6 G6 gr6=>?_))
     refine ⟨jn,?_⟩
     refine tf 7 U U (fun _ _ _=>dB dE U) (tn 8 U (jY 3 ty64 U U U U U U (⟨jn,?_⟩)))
     refine bY kr ?_
     refine av (ai (aB (v':=I (((i2+1):Nat):Int)) U (bW ob) (aa (ac ?_))))
     refine cE (L':=[z2,(b1,O [I x.Kind,I x.N,I 0,.string x.Name,.slice ob6 ((jh++[(rec offices y2)]).length) oc6] 66)]++(G6)) js ?_
     exact ag2 ((i2+1),(jh++[(rec offices y2)]),ob6,oc6,G6,h9,rz2) _ (Nat.lt_succ_self _) ⟨bF hd2,aT hd2,hs9,gr6,lo,(hl2.t hle9)⟩ rd
    ·refine dg Ar (hrec hh2 offices cB cA y2 r4 (hoffices.mono Rp.gg hl2) ok8 ob (Expr.iq (gm hd2))) U (fun v6 h10 hle10 hp6=>?_)
     obtain ⟨rr10,rfl,ok10⟩:=hp6
     refine ⟨jl hle10,tu hle10 ?_⟩
     refine lF 1 5 kr U U ?_ ?_ 
     ·refine gH (gu ty64 U (lB (i:=2) U) U) (⟨jn,?_⟩)
      refine tn 5 U (ck (cells:=[I ((rec offices y2).Kind),I ((rec offices y2).N),I ((rec offices y2).No),.string ((rec offices y2).Name),.slice rr10.ir ((rec offices y2).L.length) rr10.iE]) fT ty66 zc66 U U kr (fun b13=>?_))
      refine ⟨jn,?_⟩
      let z9:Nat×Obj:=(b13,O [I ((rec offices y2).Kind),I ((rec offices y2).N),I ((rec offices y2).No),.string ((rec offices y2).Name),.slice rr10.ir ((rec offices y2).L.length) rr10.iE] 66)
      refine tn 6 U (eK Expr.e5 ([z9,z7,z2,z6]) ([]) (fun G=>[z9,z7,z2,z6]++(G)) ap (fun _=>ap) fT ty66 zc66 U bytes66 (mS.mono Expr.aN hle10) U U (eZ 0 U (show bV Expr.rp h10 [I ((rec offices y2).Kind),I ((rec offices y2).N),I ((rec offices y2).No),.string ((rec offices y2).Name),.slice rr10.ir ((rec offices y2).L.length) rr10.iE] ([(rec offices y2)]) from ⟨[I ((rec offices y2).Kind),I ((rec offices y2).N),I ((rec offices y2).No),.string ((rec offices y2).Name),.slice rr10.ir ((rec offices y2).L.length) rr10.iE],[],U,U,⟨rr10,U,ok10⟩,U⟩)) lo lo (fun ob7 oc7 G7 gr7=>?_))
      refine ⟨jn,?_⟩
      refine tf 7 U U (fun _ _ _=>dB dE U) (tn 8 U (jY 3 ty64 U U U U U U (⟨jn,?_⟩)))
      refine bY kr ?_
      refine av (ai (aB (v':=I (((i2+1):Nat):Int)) U (bW ob) (aa (ac ?_))))
      refine cE (L':=[z2,(b1,O [I x.Kind,I x.N,I 0,.string x.Name,.slice ob7 ((jh++[(rec offices y2)]).length) oc7] 66)]++(G7)) js ?_
      exact ag2 ((i2+1),(jh++[(rec offices y2)]),ob7,oc7,G7,h10,rz2) _ (Nat.lt_succ_self _) ⟨bF hd2,aT hd2,hs9,gr7,lo,(hl2.t hle10)⟩ rd
     ·refine ck (cells:=[I ((rec offices y2).Kind),I ((rec offices y2).N),I ((rec offices y2).No),.string ((rec offices y2).Name),.slice rr10.ir ((rec offices y2).L.length) rr10.iE]) fT ty66 zc66 U U kr (fun b14=>?_)
      refine ⟨jn,?_⟩
      refine tn 1 U (gH (gu ty64 U (lB (i:=3) U) U) (⟨jn,?_⟩))
      let z10:Nat×Obj:=(b14,O [I ((rec offices y2).Kind),I ((rec offices y2).N),I ((rec offices y2).No),.string ((rec offices y2).Name),.slice rr10.ir ((rec offices y2).L.length) rr10.iE] 66)
      refine tn 6 U (eK Expr.e5 ([z10,z7,z2,z6]) ([]) (fun G=>[z10,z7,z2,z6]++(G)) ap (fun _=>ap) fT ty66 zc66 U bytes66 (mS.mono Expr.aN hle10) U U (eZ 0 U (show bV Expr.rp h10 [I ((rec offices y2).Kind),I ((rec offices y2).N),I ((rec offices y2).No),.string ((rec offices y2).Name),.slice rr10.ir ((rec offices y2).L.length) rr10.iE] ([(rec offices y2)]) from ⟨[I ((rec offices y2).Kind),I ((rec offices y2).N),I ((rec offices y2).No),.string ((rec offices y2).Name),.slice rr10.ir ((rec offices y2).L.length) rr10.iE],[],U,U,⟨rr10,U,ok10⟩,U⟩)) lo lo (fun ob8 oc8 G8 gr8=>?_))
      refine ⟨jn,?_⟩
      refine tf 7 U U (fun _ _ _=>dB dE U) (tn 8 U (jY 3 ty64 U U U U U U (⟨jn,?_⟩)))
      refine bY kr ?_
      refine av (ai (aB (v':=I (((i2+1):Nat):Int)) U (bW ob) (aa (ac ?_))))
      refine cE (L':=[z2,(b1,O [I x.Kind,I x.N,I 0,.string x.Name,.slice ob8 ((jh++[(rec offices y2)]).length) oc8] 66)]++(G8)) js ?_
      exact ag2 ((i2+1),(jh++[(rec offices y2)]),ob8,oc8,G8,h10,rz2) _ (Nat.lt_succ_self _) ⟨bF hd2,aT hd2,hs9,gr8,lo,(hl2.t hle10)⟩ rd
theorem lY:∀ (m:Nat) (h:HF) (offices:(List ByteArray)) (cB:Option Addr) (cA:Nat) (x:Expr) (fe:cI) (_:x.dep≤m) (hoffices:SlC Rp.str h cB cA offices) (hx:Expr.ok h x fe) (hsz:x.dep≤2000000),jK Tryz.prog 218 [.slice cB offices.length cA,.agg (Expr.cells x fe).toArray] h (fun v h'=>∃ (rr0:cI),v=.agg (Expr.cells (au.go m offices x) rr0).toArray∧Expr.ok h' (au.go m offices x) rr0)
 | 0,h,offices,cB,cA,x,fe,hd,hoffices,hx,hsz=>absurd hd (Nat.not_le.2 (Expr.jR _))
 | m+1,h,offices,cB,cA,x,fe,hd,hoffices,hx,hsz=>qR (au.go m) h offices cB cA x fe (fun qh_ qoffices iC iB qx jq qhoffices qhx qhsz qd=>lY m qh_ qoffices iC iB qx jq ob qhoffices qhx qhsz) hoffices hx hsz
theorem nf (h:HF) (offices:(List ByteArray)) (cB:Option Addr) (cA:Nat) (x:Expr) (fe:cI) (hoffices:SlC Rp.str h cB cA offices) (hx:Expr.ok h x fe) (hsz:x.dep≤2000000):jK Tryz.prog 218 [.slice cB offices.length cA,.agg (Expr.cells x fe).toArray] h (fun v h'=>∃ (rr0:cI),v=.agg (Expr.cells (au offices x) rr0).toArray∧Expr.ok h' (au offices x) rr0):=lY _ h offices cB cA x fe (Nat.le_refl _) hoffices hx hsz
theorem rY (h:HF) (p:Policy) (fb:eO) (hp:Policy.ok h p fb) (hsm:smP p) (hk:Kinds h):jK Tryz.prog 158 [.agg (Policy.cells p fb).toArray] h (fun v h'=>∃ (rr0:eO),v=.tuple #[.agg (Policy.cells ((dl p).1) rr0).toArray,I ((dl p).2)]∧Policy.ok h' ((dl p).1) rr0):=by
 refine ay Tryz.func158 U Tryz.ntmps158 U fun X hM hX=>?_
 have hs0:dl p=dl p:=rfl
 have hsc:=hsm.change
 have hsr:=hsm.rules
 refine sr (dy (fun b1=>bX zc68 (fun b2=>an (sr (cq 1 U hM (fun h1 hle1 hb1=>a8 (fV U U (aG (v:=I (attR (di p))) Tryz.call213 (rX h1 (.func (.func 214) #[] #[Q b1]) (di p) (km (args:=[]) (cap:=[Q b1]) Tryz.call214 (qm h1 p fb ⟨b1,0,none⟩ (hp.mono hle1) (dR hb1) (by first | assumption | omega) (hk.mono hle1)))) U ?_))))))))
 refine an (ae (sr (aa (aJ U (ac ?_)))))
 refine aE U (fun c1=>?_) (fun c1=>?_)
 ·have hs1:=hs0.trans (bt c1)
  refine sr (dq 0 ty68 U U U (aa (bN 0 ty68 U U U U U U (an ?_))))
  have hs2:dl p=((Policy.mk (⟨#[]⟩:ByteArray) ([]) ([]) ([]) (Expr.mk 0 0 0 (⟨#[]⟩:ByteArray) ([])) 0),(attR (di p))):=hs1
  exact dS [.agg (List.toArray [.string (⟨#[]⟩:ByteArray),.slice none 0 0,.slice none 0 0,.slice none 0 0,I 0,I 0,I 0,.string (⟨#[]⟩:ByteArray),.slice none 0 0,I 0]),I (attR (di p))] Tryz.func158 U ⟨⟨0,_,_,_,_,U,U,.inl ⟨ty68,U⟩⟩,U,trivial⟩ ⟨(eO.mk none 0 none 0 none 0 (cI.mk none 0)),congrArg (fun r:(Policy×Int)=>(.tuple #[.agg (Policy.cells r.1 (eO.mk none 0 none 0 none 0 (cI.mk none 0))).toArray,I r.2]:Value)) hs2.symm,(by rw [hs2];exact (show Policy.ok h1 (Policy.mk (⟨#[]⟩:ByteArray) ([]) ([]) ([]) (Expr.mk 0 0 0 (⟨#[]⟩:ByteArray) ([])) 0) (eO.mk none 0 none 0 none 0 (cI.mk none 0)) from ⟨SlC.nil,SlC.nil,SlC.nil,(show Expr.ok h1 (Expr.mk 0 0 0 (⟨#[]⟩:ByteArray) ([])) (cI.mk none 0) from Expr.ok.of SlC.nil)⟩))⟩
 ·have hs3:=hs0.trans (bf c1)
  refine ao (sr (ed ty68 (dR hb1) U U (bN 0 ty68 U U U U U U (ac (sr (az e9 U (dW 0 ty63 U U U U U U (ac (ae (sr (az e9 U (nh (j:=3) ty63 (dR hb1) U U ?_))))))))))))
  refine bC jJ U (aa (ac ?_))
  refine br (ι:=Nat×(List Rule)×Option Addr×Nat×LH×HF) (fun i=>[(1,Q b1),(2,Q b2)]) (fun i=>i.2.2.2.2.2) (fun i=>[(b2,O [.string p.Name,.slice fb.fN p.Kinds.length fb.fM,.slice fb.dP p.Offices.length fb.dO,.slice i.2.2.1 i.2.1.length i.2.2.2.1,I p.Change.Kind,I p.Change.N,I p.Change.No,.string p.Change.Name,.slice fb.Change.ir p.Change.L.length fb.Change.iE,I p.Mode] 68)]++(i.2.2.2.2.1)) (fun i=>i.1≤p.Rules.length∧dl p=((dl.K1 p) i.2.1)∧ep Rule.rp 107 i.2.2.2.2.2 i.2.1 i.2.2.1 i.2.2.2.1 i.2.2.2.2.1∧i.2.1.length≤0+i.1∧HF.le h1 i.2.2.2.2.2) ?_ (fun hx1=>?_)
  ·rintro ⟨i1,kj,mV,mU,rl,hh1⟩ ⟨bd,hs4,pi,xr,hl1⟩ e
   try dsimp only at bd pi xr hl1
   try dsimp only
   refine sr (az jv U (nh (j:=2) ty62 ((dR hb1).mono hl1) U U (az lC U (uz (j:=4) ty66 ((dR hb1).mono hl1) U U (a8 (dg Ar (nf hh1 p.Offices fb.dP fb.dO p.Change fb.Change (hp.Offices.mono Rp.gg (hle1.t hl1)) (hp.Change.mono (hle1.t hl1)) ob) U (fun v3 h5 hle5 hp3=>?_)))))))
   obtain ⟨rr4,rfl,ok4⟩:=hp3
   let z2:Nat×Obj:=(b2,O [.string p.Name,.slice fb.fN p.Kinds.length fb.fM,.slice fb.dP p.Offices.length fb.dO,.slice mV kj.length mU,I ((au p.Offices p.Change).Kind),I ((au p.Offices p.Change).N),I ((au p.Offices p.Change).No),.string ((au p.Offices p.Change).Name),.slice rr4.ir ((au p.Offices p.Change).L.length) rr4.iE,I p.Mode] 68)
   refine az lC U (dW 0 ty66 U U U U U U (ac (sr (dq 0 ty68 U U U (bN 0 ty68 U U U U U U (iv (L':=[z2]++(rl)) U ?_))))))
   refine an ?_
   refine gj Rule.aN ([z2]) rl ([]) ap hM (pi.mono Rule.aN hle5) (fun h6 hle6 sl2=>?_)
   have hs5:dl p=((Policy.mk p.Name p.Kinds p.Offices kj (Expr.mk ((au p.Offices p.Change).Kind) ((au p.Offices p.Change).N) ((au p.Offices p.Change).No) ((au p.Offices p.Change).Name) ((au p.Offices p.Change).L)) p.Mode),0):=hs4
   exact dS [.agg (List.toArray [.string p.Name,.slice fb.fN p.Kinds.length fb.fM,.slice fb.dP p.Offices.length fb.dO,.slice mV kj.length mU,I ((au p.Offices p.Change).Kind),I ((au p.Offices p.Change).N),I ((au p.Offices p.Change).No),.string ((au p.Offices p.Change).Name),.slice rr4.ir ((au p.Offices p.Change).L.length) rr4.iE,I p.Mode]),I 0] Tryz.func158 U ⟨⟨0,_,_,_,_,U,U,.inl ⟨ty68,U⟩⟩,U,trivial⟩ ⟨(eO.mk fb.fN fb.fM fb.dP fb.dO mV mU (cI.mk rr4.ir rr4.iE)),congrArg (fun r:(Policy×Int)=>(.tuple #[.agg (Policy.cells r.1 (eO.mk fb.fN fb.fM fb.dP fb.dO mV mU (cI.mk rr4.ir rr4.iE))).toArray,I r.2]:Value)) hs5.symm,(by rw [hs5];exact (show Policy.ok h6 (Policy.mk p.Name p.Kinds p.Offices kj (Expr.mk ((au p.Offices p.Change).Kind) ((au p.Offices p.Change).N) ((au p.Offices p.Change).No) ((au p.Offices p.Change).Name) ((au p.Offices p.Change).L)) p.Mode) (eO.mk fb.fN fb.fM fb.dP fb.dO mV mU (cI.mk rr4.ir rr4.iE)) from ⟨(hp.Kinds.mono Rp.gg (((hle1.t hl1).t hle5).t hle6)),(hp.Offices.mono Rp.gg (((hle1.t hl1).t hle5).t hle6)),sl2,(show Expr.ok h6 (Expr.mk ((au p.Offices p.Change).Kind) ((au p.Offices p.Change).N) ((au p.Offices p.Change).No) ((au p.Offices p.Change).Name) ((au p.Offices p.Change).L)) (cI.mk rr4.ir rr4.iE) from Expr.ok.of (ok4.list.mono Expr.aN hle6))⟩))⟩
  ·refine cp (ι:=Nat×(List Rule)×Option Addr×Nat×LH×HF×List Rule) (fun i=>[(1,Q b1),(2,Q b2),(15,.slice fb.jT p.Rules.length fb.jS),(16,I ((p.Rules.length:Nat):Int)),(17,I ((i.1:Nat):Int))]) (fun i=>i.2.2.2.2.2.1) (fun i=>[(b2,O [.string p.Name,.slice fb.fN p.Kinds.length fb.fM,.slice fb.dP p.Offices.length fb.dO,.slice i.2.2.1 i.2.1.length i.2.2.2.1,I p.Change.Kind,I p.Change.N,I p.Change.No,.string p.Change.Name,.slice fb.Change.ir p.Change.L.length fb.Change.iE,I p.Mode] 68)]++(i.2.2.2.2.1)) (fun i=>p.Rules.drop i.1=i.2.2.2.2.2.2∧i.1≤p.Rules.length∧dl p=((dl.L1 p (dl.K1 p)) i.2.2.2.2.2.2 i.1 i.2.1)∧ep Rule.rp 107 i.2.2.2.2.2.1 i.2.1 i.2.2.1 i.2.2.2.1 i.2.2.2.2.1∧i.2.1.length≤0+i.1∧HF.le h1 i.2.2.2.2.2.1) (fun i=>i.2.2.2.2.2.2.length) (0,[],none,0,[],h1,p.Rules) rd sw ⟨U,Nat.zero_le _,hs3,ep.nil,lo,(HF.le_refl h1)⟩ ?_
   rintro ⟨i1,kj,mV,mU,rl,hh1,s1⟩ ⟨hd1,bd,hs6,pi,xr,hl1⟩ ag1 e
   try dsimp only at hd1 bd pi xr hl1
   rcases s1 with _ | ⟨y1,rz1⟩
   ·have dI:=cU hd1
    try dsimp only
    refine sr (aB (v':=.bool false) U (cb dI) (ac (ae (bg U (bO U ?_)))))
    exact hx1 (i1,kj,mV,mU,rl,hh1) _ ⟨bd,hs6,pi,lo,hl1⟩ rd
   ·have dH:=dY hd1
    have bh:=cY hd1
    have eT:=aT hd1
    have gx:=(hp.Rules.mono Rule.aN hle1).1.1
    have hsy:=hsm.2.1 y1 (gm hd1)
    try dsimp only
    refine sr (aB (v':=.bool true) U (cb dH) (ac (ae (bn U (ao (ae (aW (sr (aa (a8 (gL jJ ty107 (hp.Rules.mono Rule.aN (hle1.t hl1)).1 (nthZ bh) (bB bh) U U U (fun q2 cs2 A2 ln2 rr5=>?_))))))))))))
    obtain ⟨r2,rfl,ok5⟩:=rr5
    let z1:Nat×Obj:=(b2,O [.string p.Name,.slice fb.fN p.Kinds.length fb.fM,.slice fb.dP p.Offices.length fb.dO,.slice mV kj.length mU,I p.Change.Kind,I p.Change.N,I p.Change.No,.string p.Change.Name,.slice fb.Change.ir p.Change.L.length fb.Change.iE,I p.Mode] 68)
    refine ed ty107 A2 U U (bX zc107 (fun b5=>ba (bN 0 ty107 U U U U U U (iv (L':=[(b5,O (Rule.cells y1 r2) 107),z1]++(rl)) U ?_))))
    refine ac (sr (aa (az jv U (nh (j:=2) ty62 ((dR hb1).mono hl1) U U (az ka U (dq 0 ty66 U U U (a8 (dg Ar (nf hh1 p.Offices fb.dP fb.dO y1.Expr r2.Expr (hp.Offices.mono Rp.gg (hle1.t hl1)) ok5.Expr ob) U (fun v4 h7 hle7 hp4=>?_)))))))))
    obtain ⟨rr6,rfl,ok6⟩:=hp4
    refine az rv U (dW 0 ty3 U U U U U U (az ka U (dW 0 ty66 U U U U U U (ac (ai (az e9 U (aO 1 ty63 U U U (dq 0 ty107 U U U (a8 (ck (cells:=[.string y1.Kind,I ((i1:Nat):Int),I y1.Think,I ((au p.Offices y1.Expr).Kind),I ((au p.Offices y1.Expr).N),I ((au p.Offices y1.Expr).No),.string ((au p.Offices y1.Expr).Name),.slice rr6.ir ((au p.Offices y1.Expr).L.length) rr6.iE]) jJ ty107 zc107 U U kr (fun b6=>?_)))))))))))
    let z3:Nat×Obj:=(b6,O [.string y1.Kind,I ((i1:Nat):Int),I y1.Think,I ((au p.Offices y1.Expr).Kind),I ((au p.Offices y1.Expr).N),I ((au p.Offices y1.Expr).No),.string ((au p.Offices y1.Expr).Name),.slice rr6.ir ((au p.Offices y1.Expr).L.length) rr6.iE] 107)
    let z4:Nat×Obj:=(b5,O [.string y1.Kind,I ((i1:Nat):Int),I y1.Think,I ((au p.Offices y1.Expr).Kind),I ((au p.Offices y1.Expr).N),I ((au p.Offices y1.Expr).No),.string ((au p.Offices y1.Expr).Name),.slice rr6.ir ((au p.Offices y1.Expr).L.length) rr6.iE] 107)
    refine a8 (eK Rule.e5 ([z3,z4,z1]) ([]) (fun G=>[z3,z4,z1]++(G)) ap (fun _=>ap) jJ ty107 zc107 U bytes107 (pi.mono Rule.aN hle7) U U (eZ 0 U (show bV Rule.rp h7 [.string y1.Kind,I ((i1:Nat):Int),I y1.Think,I ((au p.Offices y1.Expr).Kind),I ((au p.Offices y1.Expr).N),I ((au p.Offices y1.Expr).No),.string ((au p.Offices y1.Expr).Name),.slice rr6.ir ((au p.Offices y1.Expr).L.length) rr6.iE] ([(Rule.mk y1.Kind ((i1:Nat):Int) y1.Think (Expr.mk ((au p.Offices y1.Expr).Kind) ((au p.Offices y1.Expr).N) ((au p.Offices y1.Expr).No) ((au p.Offices y1.Expr).Name) ((au p.Offices y1.Expr).L)))]) from ⟨[.string y1.Kind,I ((i1:Nat):Int),I y1.Think,I ((au p.Offices y1.Expr).Kind),I ((au p.Offices y1.Expr).N),I ((au p.Offices y1.Expr).No),.string ((au p.Offices y1.Expr).Name),.slice rr6.ir ((au p.Offices y1.Expr).L.length) rr6.iE],[],U,U,⟨(ul.mk (cI.mk rr6.ir rr6.iE)),U,(show Rule.ok h7 (Rule.mk y1.Kind ((i1:Nat):Int) y1.Think (Expr.mk ((au p.Offices y1.Expr).Kind) ((au p.Offices y1.Expr).N) ((au p.Offices y1.Expr).No) ((au p.Offices y1.Expr).Name) ((au p.Offices y1.Expr).L))) (ul.mk (cI.mk rr6.ir rr6.iE)) from ⟨(show Expr.ok h7 (Expr.mk ((au p.Offices y1.Expr).Kind) ((au p.Offices y1.Expr).N) ((au p.Offices y1.Expr).No) ((au p.Offices y1.Expr).Name) ((au p.Offices y1.Expr).L)) (cI.mk rr6.ir rr6.iE) from Expr.ok.of ok6.list)⟩)⟩,U⟩)) lo lo (fun ob2 oc2 G2 gr2=>?_))
    refine az e9 U (dW 2 ty63 U U U U U U (ac (av (ai (aB (v':=I (((i1+1):Nat):Int)) U (bW ob) (aa (ac ?_)))))))
    refine cE (L':=[(b2,O [.string p.Name,.slice fb.fN p.Kinds.length fb.fM,.slice fb.dP p.Offices.length fb.dO,.slice ob2 ((kj++[(Rule.mk y1.Kind ((i1:Nat):Int) y1.Think (Expr.mk ((au p.Offices y1.Expr).Kind) ((au p.Offices y1.Expr).N) ((au p.Offices y1.Expr).No) ((au p.Offices y1.Expr).Name) ((au p.Offices y1.Expr).L)))]).length) oc2,I p.Change.Kind,I p.Change.N,I p.Change.No,.string p.Change.Name,.slice fb.Change.ir p.Change.L.length fb.Change.iE,I p.Mode] 68)]++(G2)) js ?_
    exact ag1 ((i1+1),(kj++[(Rule.mk y1.Kind ((i1:Nat):Int) y1.Think (Expr.mk ((au p.Offices y1.Expr).Kind) ((au p.Offices y1.Expr).N) ((au p.Offices y1.Expr).No) ((au p.Offices y1.Expr).Name) ((au p.Offices y1.Expr).L)))]),ob2,oc2,G2,h7,rz1) _ (Nat.lt_succ_self _) ⟨bF hd1,aT hd1,hs6,gr2,lo,(hl1.t hle7)⟩ rd
theorem mO (h:HF) (offices:(List ByteArray)) (cB:Option Addr) (cA:Nat) (x:Expr) (fe:cI) (hoffices:SlC Rp.str h cB cA offices) (hx:Expr.ok h x fe) (hsz:x.dep≤1500000):Ret Tryz.prog 159 [.slice cB offices.length cA,.agg (Expr.cells x fe).toArray] h (.bool (cf offices x)):=by
 refine ay E3 U Tryz.ntmps159 U fun X hM hX=>?_
 have hs0:cf offices x=cf offices x:=rfl
 refine sr (dy (fun b1=>dy (fun b2=>bX zc4 (fun b3=>ac (ae (sr (dq 1 ty66 U U U (a8 (dg DJ (kz h x fe 1 hx ob) U (fun v1 h1 hle1 hp1=>?_))))))))))
 obtain ⟨_,rfl,mo1⟩:=hp1
 refine ac (aW ?_)
 refine gf ?_
 let z1:Nat×Obj:=(b1,O [.slice cB offices.length cA] 62)
 let z2:Nat×Obj:=(b2,O (Expr.cells x fe) 66)
 refine dX (L':=([(b3,O [.bool false] 4),z2,z1])++markB []) ap ?_
 refine j2 (it:=v1) (xs:=(cg x 1)) (ι:=HF) [] (fun i=>i) (fun i=>[(b3,O [.bool false] 4),z2,z1]) (fun s i=>cf offices x=((cf.L1 offices (cf.K1)) s )∧HF.le h1 i) (fun i=>cf offices x=false∧HF.le h1 i) (fun _=>False) 0 (fun _ _ _=>False) h1 E3 U mo1 U ls (fun _ _ _ _ _ hq=>hq) U (show [(b3,O [.bool false] 4),z2,z1]=_ from U) ⟨hs0,(HF.le_refl h1)⟩ ?_ ?_ ?_ ?_ ?_
 ·rintro l1 dm1 lp1 y1 rz1 vs1 hh1 hr1 X hFR1 ⟨hs1,hl1⟩ hl01 hlr1 hv1 hX hXM hlp1 nx1 rt1 ex1 pn1
  try dsimp only at hl1 hlr1
  obtain ⟨rr1_0,rfl,ok1_0⟩:=hv1
  let z3:Nat×Obj:=(dm1,.deferred (some []))
  refine dX (L':=[(l1,.loop lp1),z3,(b3,O [.bool false] 4),z2,z1]++(markB [])) ap ?_
  refine ai (bX zc258 (fun b5=>bN 0 ty258 U U U U U U (ac (j3 1 U hlp1 (aW (sr (an (ae (sr (az kV U (dq 0 ty66 U U U (aG (v:=.bool (da y1.x)) Tryz.call220 (lg hr1 y1.x rr1_0.x ok1_0.x) U ?_))))))))))))
  refine ac ?_
  refine aE U (fun c4=>?_) (fun c4=>?_)
  ·have hs2:=hs1.trans (bt c4)
   refine ai (aO 5 ty62 U U U (az kV U (az mi U (aO 0 ty9 U U U (aG (v:=I (aQ offices y1.x.Name)) E4 (jt hr1 offices cB cA y1.x.Name (hoffices.mono Rp.gg ((hle1.t hl1).t hlr1))) U ?_)))))
   refine an (sr (az kV U (az mI U (aO 0 ty3 U U U (aa (aJ U (ac ?_)))))))
   refine aE U (fun c5=>?_) (fun c5=>?_)
   ·have hs3:=hs2.trans (bt c5)
    refine sr (dW 3 ty4 U U U U U U (ac ?_))
    refine cE (L':=[(l1,.loop { lp1 with state:=.busy }),z3,(b3,O [.bool false] 4),z2,z1]++(markB [])) js ?_
    refine dX (L':=rdH l1 dm1 lp1 (([(b3,O [.bool false] 4),z2,z1])++markB [])) ap ?_
    exact rt1 hr1 _ _ _ ⟨hs3,(hl1.t hlr1)⟩ (HF.le_refl _)
   ·have hs4:=hs2.trans (bf c5)
    refine ao (av ?_)
    refine cE (L':=[(l1,.loop { lp1 with state:=.busy }),z3,(b3,O [.bool false] 4),z2,z1]++(markB [])) js ?_
    refine dX (L':=rdH l1 dm1 lp1 (([(b3,O [.bool false] 4),z2,z1])++markB [])) ap ?_
    exact nx1 hr1 _ _ ⟨hs4,(hl1.t hlr1)⟩ (HF.le_refl _)
  ·have hs5:=hs1.trans (bf c4)
   refine ao (sr (az kV U (az mI U (aO 0 ty3 U U U (aa (aJ U (ac ?_)))))))
   refine aE U (fun c6=>?_) (fun c6=>?_)
   ·have hs6:=hs5.trans (bt c6)
    refine sr (dW 3 ty4 U U U U U U (ac ?_))
    refine cE (L':=[(l1,.loop { lp1 with state:=.busy }),z3,(b3,O [.bool false] 4),z2,z1]++(markB [])) js ?_
    refine dX (L':=rdH l1 dm1 lp1 (([(b3,O [.bool false] 4),z2,z1])++markB [])) ap ?_
    exact rt1 hr1 _ _ _ ⟨hs6,(hl1.t hlr1)⟩ (HF.le_refl _)
   ·have hs7:=hs5.trans (bf c6)
    refine ao (av ?_)
    refine cE (L':=[(l1,.loop { lp1 with state:=.busy }),z3,(b3,O [.bool false] 4),z2,z1]++(markB [])) js ?_
    refine dX (L':=rdH l1 dm1 lp1 (([(b3,O [.bool false] 4),z2,z1])++markB [])) ap ?_
    exact nx1 hr1 _ _ ⟨hs7,(hl1.t hlr1)⟩ (HF.le_refl _)
 ·rintro dm1 hh1 hn1 ⟨hs8,hl1⟩ hln1 hl01
  try dsimp only at hl1 hln1
  refine dX (L':=[(b3,O [.bool false] 4),z2,z1]++(markB (dm1::[]))) ap ?_
  refine av (sr (dW 0 ty4 U U U U U U (ac ?_)))
  have hs9:cf offices x=true:=hs8
  refine dX (L':=([(b3,O [.bool true] 4),z2,z1])++markB (dm1::[])) ap ?_
  exact qE (dm1::[]) [.bool true] E3 U hX ⟨⟨0,_,_,_,_,U,U,.inr ⟨_,ty4,U⟩⟩,trivial⟩ (cs hs9)
 ·rintro dm1 hh1 hn1 ⟨hs10,hl1⟩ hln1 hl01
  try dsimp only at hl1 hln1
  refine dX (L':=[(b3,O [.bool false] 4),z2,z1]++(markB (dm1::[]))) ap ?_
  have hs11:cf offices x=false:=hs10
  refine dX (L':=([(b3,O [.bool false] 4),z2,z1])++markB (dm1::[])) ap ?_
  exact qE (dm1::[]) [.bool false] E3 U hX ⟨⟨0,_,_,_,_,U,U,.inr ⟨_,ty4,U⟩⟩,trivial⟩ (cs hs11)
 ·exact fun _ _ _ hF=>hF.elim
 ·exact fun _ _ _ _ hF=>hF.elim
theorem oz (h:HF) (p:Policy) (fb:eO) (hp:Policy.ok h p fb) (hsm:smP p) (hk:Kinds h):Ret Tryz.prog 94 [.agg (Policy.cells p fb).toArray] h (I (cC p)):=by
 refine ay DF U Tryz.ntmps94 U fun X hM hX=>?_
 have hs0:cC p=cC p:=rfl
 have hsc:=hsm.change
 refine sr (dy (fun b1=>an (ae (sr (dq 0 ty68 U U U (a8 (dg Tryz.call158 (rY h p fb hp ob hk) U (fun v1 h1 hle1 hp1=>?_))))))))
 obtain ⟨rr1,rfl,ok1⟩:=hp1
 refine aa (bG U U (bG U U (an (sr (aa (aJ U (ac ?_)))))))
 refine aE U (fun c1=>?_) (fun c1=>?_)
 ·have hs1:=hs0.trans (bt c1)
  refine sr (aa (an ?_))
  exact aw [I ((dl p).2)] DF U hX rd (ci hs1)
 ·have hs3:=hs0.trans (bf c1)
  refine ao (ae (sr (az e9 U (aO 0 ty63 U U U (bC jJ U (aa (ac ?_)))))))
  let z1:Nat×Obj:=(b1,O (Policy.cells p fb) 68)
  refine br (ι:=Nat) (fun i=>[(1,Q b1)]) (fun i=>h1) (fun i=>[z1]) (fun i=>i≤p.Rules.length∧cC p=((cC.K1 p))) ?_ (fun hx1=>?_)
  ·rintro i1 ⟨bd,hs4⟩ e
   try dsimp only at bd
   try dsimp only
   refine ae (sr (az jv U (aO 0 ty62 U U U (az lC U (dq 0 ty66 U U U (aG (v:=.bool (cf p.Offices p.Change)) Tryz.call159 (mO h1 p.Offices fb.dP fb.dO p.Change fb.Change (hp.Offices.mono Rp.gg hle1) (hp.Change.mono hle1) ob) U ?_))))))
   refine cV U (ac ?_)
   refine aE U (fun c2=>?_) (fun c2=>?_)
   ·have hs5:=hs4.trans (bt c2)
    refine sr (an ?_)
    exact aw [I 200] DF U hX rd (ci hs5)
   ·have hs7:=hs4.trans (bf c2)
    refine ao (sr (an ?_))
    exact aw [I 0] DF U hX rd (ci hs7)
  ·refine cp (ι:=Nat×List Rule) (fun i=>[(1,Q b1),(14,.slice fb.jT p.Rules.length fb.jS),(15,I ((p.Rules.length:Nat):Int)),(16,I ((i.1:Nat):Int))]) (fun i=>h1) (fun i=>[z1]) (fun i=>p.Rules.drop i.1=i.2∧i.1≤p.Rules.length∧cC p=((cC.L1 p (cC.K1 p)) i.2 i.1)) (fun i=>i.2.length) (0,p.Rules) rd sw ⟨U,Nat.zero_le _,hs3⟩ ?_
   rintro ⟨i1,s1⟩ ⟨hd1,bd,hs9⟩ ag1 e
   try dsimp only at hd1 bd
   rcases s1 with _ | ⟨y1,rz1⟩
   ·have dI:=cU hd1
    try dsimp only
    refine sr (aB (v':=.bool false) U (cb dI) (ac (ae (bg U (bO U ?_)))))
    exact hx1 i1 _ ⟨bd,hs9⟩ rd
   ·have dH:=dY hd1
    have bh:=cY hd1
    have eT:=aT hd1
    have gx:=(hp.Rules.mono Rule.aN hle1).1.1
    have hsy:=hsm.2.1 y1 (gm hd1)
    try dsimp only
    refine sr (aB (v':=.bool true) U (cb dH) (ac (ae (bn U (ao (ae (aW (sr (aa (a8 (gL jJ ty107 (hp.Rules.mono Rule.aN hle1).1 (nthZ bh) (bB bh) U U U (fun q2 cs2 A2 ln2 rr3=>?_))))))))))))
    obtain ⟨r2,rfl,ok3⟩:=rr3
    refine ed ty107 A2 U U (bX zc107 (fun b3=>ba (bN 0 ty107 U U U U U U (ac (sr (az rv U (aO 0 ty3 U U U (aa (aJ U (aa ?_))))))))))
    refine tq 7 [(1,Q b1),(14,.slice fb.jT p.Rules.length fb.jS),(15,I ((p.Rules.length:Nat):Int)),(16,I ((i1:Nat):Int)),(32,.bool ((y1.KindNo != ((i1:Nat):Int))||(!(cf p.Offices y1.Expr))))] (fun hk1=>?_) (fun e=>?_)
    ·refine ar 25 U (fun c3=>?_) (fun c3=>?_)
     ·refine kq (kq (kq (ah U ?_)))
      exact hk1 _ ⟨U,U,U,U,(cb (dL c3)),trivial⟩
     ·refine az jv U (aO 1 ty62 U U U (az ka U (dq 0 ty66 U U U (aG (v:=.bool (cf p.Offices y1.Expr)) Tryz.call159 (mO h1 p.Offices fb.dP fb.dO y1.Expr r2.Expr (hp.Offices.mono Rp.gg hle1) ok3.Expr ob) U ?_))))
      refine cV U (ah U ?_)
      exact hk1 _ ⟨U,U,U,U,(cb (dM c3)),trivial⟩
    refine ac ?_
    refine aE U (fun c4=>?_) (fun c4=>?_)
    ·have hs11:=hs9.trans (bt c4)
     refine sr (an ?_)
     exact aw [I 200] DF U hX rd (ci hs11)
    ·have hs13:=hs9.trans (bf c4)
     refine ao (av (ai (aB (v':=I (((i1+1):Nat):Int)) U (bW ob) (aa (ac ?_)))))
     refine cE (L':=[z1]) js ?_
     exact ag1 ((i1+1),rz1) _ (Nat.lt_succ_self _) ⟨bF hd1,aT hd1,hs13⟩ rd
theorem mQ (h:HF) (l:(List Version)) (eW:Option Addr) (eV:Nat) (hl:SlC Version.rp h eW eV l) (hsm:smV l) (hk:Kinds h):Ret Tryz.prog 55 [.slice eW l.length eV] h (I (bz l)):=by
 refine ay E2 U Tryz.ntmps55 U fun X hM hX=>?_
 have hs0:bz l=bz l:=rfl
 have hsl:=hsm.len
 refine sr (an (ae (sr (aa (bC lb U (aJ U (ac ?_)))))))
 refine aE U (fun c1=>?_) (fun c1=>?_)
 ·have c1p:=of_decide_eq_true c1
  have hs1:=hs0.trans (bt c1)
  refine sr (an ?_)
  exact aw [I 2] E2 U hX rd (ci hs1)
 ·have c1p:=of_decide_eq_false c1
  have hs3:=hs0.trans (bf c1)
  refine ao (sr (an (ae (sr (aa (bC lb U (aa (ac ?_))))))))
  refine br (ι:=Nat×Int) (fun i=>[]) (fun i=>h) (fun i=>[]) (fun i=>i.1≤l.length∧bz l=((bz.K1) i.2)) ?_ (fun hx1=>?_)
  ·rintro ⟨i1,fP⟩ ⟨bd,hs4⟩ e
   try dsimp only at bd
   try dsimp only
   refine sr (an ?_)
   exact aw [I 0] E2 U hX rd (ci hs4)
  ·refine cp (ι:=Nat×Int×List Version) (fun i=>[(3,I i.2.1),(9,.slice eW l.length eV),(10,I ((l.length:Nat):Int)),(11,I ((i.1:Nat):Int))]) (fun i=>h) (fun i=>[]) (fun i=>l.drop i.1=i.2.2∧i.1≤l.length∧bz l=((bz.L1 (bz.K1)) i.2.2 i.2.1)) (fun i=>i.2.2.length) (0,(-1),l) rd sw ⟨U,Nat.zero_le _,hs3⟩ ?_
   rintro ⟨i1,fP,s1⟩ ⟨hd1,bd,hs6⟩ ag1 e
   try dsimp only at hd1 bd
   rcases s1 with _ | ⟨y1,rz1⟩
   ·have dI:=cU hd1
    try dsimp only
    refine sr (aB (v':=.bool false) U (cb dI) (ac (ae (bg U (bO U ?_)))))
    exact hx1 (i1,fP) _ ⟨bd,hs6⟩ trivial
   ·have dH:=dY hd1
    have bh:=cY hd1
    have eT:=aT hd1
    have gx:=hl.1.1
    have hsy:=hsm.2 y1 (gm hd1)
    try dsimp only
    refine sr (aB (v':=.bool true) U (cb dH) (ac (ae (bn U (ao (ae (aW (sr (a8 (gL lb ty70 hl.1 (nthZ bh) (bB bh) U U U (fun q2 cs2 A2 ln2 rr2=>?_)))))))))))
    obtain ⟨r2,rfl,ok2⟩:=rr2
    refine ed ty70 A2 U U (bX zc70 (fun b2=>bN 0 ty70 U U U U U U (ac (ae (sr (az nt U (aO 0 ty3 U U U (aa (aJ U (aG (v:=.bool (aR y1.No (IntKind.wrap .i64 (fP+1)) 1048576)) tg (fJ h y1.No (IntKind.wrap .i64 (fP+1)) 1048576 ) U ?_))))))))))
    refine cV U (aa ?_)
    refine tq 5 [(5,Q b2),(9,.slice eW l.length eV),(10,I ((l.length:Nat):Int)),(11,I ((i1:Nat):Int)),(26,.bool ((!(aR y1.No (IntKind.wrap .i64 (fP+1)) 1048576))||(!(aR y1.At 0 1099511627775))))] (fun hk1=>?_) (fun e=>?_)
    ·refine ar 21 U (fun c2=>?_) (fun c2=>?_)
     ·refine kq (kq (ah U ?_))
      exact hk1 _ ⟨U,U,U,U,(cb (dL c2)),trivial⟩
     ·refine az tS U (aO 0 ty3 U U U (aG (v:=.bool (aR y1.At 0 1099511627775)) tg (fJ h y1.At 0 1099511627775 ) U (cV U (ah U ?_))))
      exact hk1 _ ⟨U,U,U,U,(cb (dM c2)),trivial⟩
    refine aa ?_
    refine tq 5 [(5,Q b2),(9,.slice eW l.length eV),(10,I ((l.length:Nat):Int)),(11,I ((i1:Nat):Int)),(32,.bool (((!(aR y1.No (IntKind.wrap .i64 (fP+1)) 1048576))||(!(aR y1.At 0 1099511627775)))||(!(aR y1.Known 0 1099511627775))))] (fun hk2=>?_) (fun e=>?_)
    ·refine ar 27 U (fun c3=>?_) (fun c3=>?_)
     ·refine kq (kq (ah U ?_))
      exact hk2 _ ⟨U,U,U,U,(cb (dL c3)),trivial⟩
     ·refine az vU U (aO 0 ty3 U U U (aG (v:=.bool (aR y1.Known 0 1099511627775)) tg (fJ h y1.Known 0 1099511627775 ) U (cV U (ah U ?_))))
      exact hk2 _ ⟨U,U,U,U,(cb (dM c3)),trivial⟩
    refine aa ?_
    refine tq 5 [(5,Q b2),(9,.slice eW l.length eV),(10,I ((l.length:Nat):Int)),(11,I ((i1:Nat):Int)),(38,.bool ((((!(aR y1.No (IntKind.wrap .i64 (fP+1)) 1048576))||(!(aR y1.At 0 1099511627775)))||(!(aR y1.Known 0 1099511627775)))||((cC y1.Policy) != 0)))] (fun hk3=>?_) (fun e=>?_)
    ·refine ar 33 U (fun c4=>?_) (fun c4=>?_)
     ·refine kq (kq (ah U ?_))
      exact hk3 _ ⟨U,U,U,U,(cb (dL c4)),trivial⟩
     ·refine az pV U (dq 0 ty68 U U U (aG (v:=I (cC y1.Policy)) Tryz.call94 (oz h y1.Policy r2.Policy ok2.Policy ob hk) U ?_))
      refine aJ U (ah U ?_)
      exact hk3 _ ⟨U,U,U,U,(cb (dM c4)),trivial⟩
    refine ac ?_
    refine aE U (fun c5=>?_) (fun c5=>?_)
    ·have hs8:=hs6.trans (bt c5)
     refine sr (an ?_)
     exact aw [I 200] E2 U hX rd (ci hs8)
    ·have hs10:=hs6.trans (bf c5)
     refine ao (ai (az nt U (aO 0 ty3 U U U (an (av (ai (aB (v':=I (((i1+1):Nat):Int)) U (bW ob) (aa (ac ?_)))))))))
     refine cE (L':=[]) js ?_
     exact ag1 ((i1+1),y1.No,rz1) _ (Nat.lt_succ_self _) ⟨bF hd1,aT hd1,hs10⟩ rd
theorem qs (h:HF) (l:(List Document)) (eW:Option Addr) (eV:Nat) (hl:SlC Document.rp h eW eV l):jK Tryz.prog 104 [.slice eW l.length eV] h (fun v h'=>∃ (rr0:nv),v=.agg (gq.cells (bv l) rr0).toArray∧gq.ok h' (bv l) rr0):=by
 refine ay Tryz.func104 U Tryz.ntmps104 U fun X hM hX=>?_
 have hs0:bv l=bv l:=rfl
 refine sr (bX zc178 (fun b1=>ac (sr (aa (a8 (og (fun b2=>a8 (fw (cells:=[.slice eW l.length eV,.map (some b2)]) (places:=[(0,1),(1,1)]) Tryz.underlying178 zc178 kr kr (bX zc178 (fun b3=>?_))))))))))
 refine bN 0 ty178 U U U U U U (ac (ae (sr (aa (bC la U (aa (ac ?_)))))))
 let z1:Nat×Obj:=(b3,O [.slice eW l.length eV,.map (some b2)] 178)
 let z2:Nat×Obj:=(b1,O [.slice none 0 0,.map none] 178)
 refine br (ι:=Nat×(List (Int×Int))×Obj) (fun i=>[(2,Q b1),(3,Q b3)]) (fun i=>h) (fun i=>[z1,(b2,i.2.2),z2]) (fun i=>i.1≤l.length∧bv l=((bv.K1 l) i.2.1)∧gy (Value.int .i64) yx h i.2.2 i.2.1∧i.2.1.length≤0+i.1) ?_ (fun hx1=>?_)
 ·rintro ⟨i1,dt,jc⟩ ⟨bd,hs1,fB,jH⟩ e
  try dsimp only at bd fB jH
  try dsimp only
  refine sr (dq 0 ty178 U U U (bN 2 ty178 U U U U U U (ac ?_)))
  refine fD 1 U hM (fun h2 hle2 hb2=>?_)
  have mc2:nZ (Value.int .i64) yx h2 b2 dt:=⟨_,hb2,fB.mono yx.mono hle2⟩
  have hs2:bv l=(gq.mk l dt):=hs1
  exact dS [.agg (List.toArray [.slice eW l.length eV,.map (some b2)])] Tryz.func104 U ⟨⟨1,_,_,_,_,U,U,.inl ⟨ty178,U⟩⟩,trivial⟩ ⟨(nv.mk eW eV b2),congrArg (fun r:gq=>(.agg (gq.cells r (nv.mk eW eV b2)).toArray:Value)) hs2.symm,(by rw [hs2];exact (show gq.ok h2 (gq.mk l dt) (nv.mk eW eV b2) from ⟨(hl.mono Document.aN hle2),mc2⟩))⟩
 ·refine cp (ι:=Nat×(List (Int×Int))×Obj×List Document) (fun i=>[(2,Q b1),(3,Q b3),(9,.slice eW l.length eV),(10,I ((l.length:Nat):Int)),(11,I ((i.1:Nat):Int))]) (fun i=>h) (fun i=>[z1,(b2,i.2.2.1),z2]) (fun i=>l.drop i.1=i.2.2.2∧i.1≤l.length∧bv l=((bv.L1 (bv.K1 l)) i.2.2.2 i.1 i.2.1)∧gy (Value.int .i64) yx h i.2.2.1 i.2.1∧i.2.1.length≤0+i.1) (fun i=>i.2.2.2.length) (0,[],.map #[] 0,l) rd sw ⟨U,Nat.zero_le _,hs0,(gy.nil (enc:=(Value.int .i64)) (V:=yx) (h:=h)),lc⟩ ?_
  rintro ⟨i1,dt,jc,s1⟩ ⟨hd1,bd,hs3,fB,jH⟩ ag1 e
  try dsimp only at hd1 bd fB jH
  rcases s1 with _ | ⟨y1,rz1⟩
  ·have dI:=cU hd1
   try dsimp only
   refine sr (aB (v':=.bool false) U (cb dI) (ac (ae (bg U (bO U ?_)))))
   exact hx1 (i1,dt,jc) _ ⟨bd,hs3,fB,lc⟩ rd
  ·have dH:=dY hd1
   have bh:=cY hd1
   have eT:=aT hd1
   have gx:=hl.1.1
   try dsimp only
   refine sr (aB (v':=.bool true) U (cb dH) (ac (ae (bn U (ao (ae (aW (sr (aa (a8 (gL la ty52 hl.1 (nthZ bh) (bB bh) U U U (fun q2 cs2 A2 ln2 rr2=>?_))))))))))))
   obtain ⟨r2,rfl,ok2⟩:=rr2
   refine ed ty52 A2 U U (bX zc52 (fun b5=>ba (bN 0 ty52 U U U U U U (ac (ai (az BV U (aO 1 ty176 U U U (az j1 U (aO 0 ty3 U U U (aa (a8 (j5 2 (k:=y1.No) (x:=((i1:Nat):Int)) Tryz.underlying176 (eS kl) U fB U U U (fun mo2 hm2=>?_)))))))))))))
   refine ac (av (ai (aB (v':=I (((i1+1):Nat):Int)) U (bW ob) (aa (ac ?_)))))
   refine cE (L':=[z1,(b2,mo2),z2]) js ?_
   exact ag1 ((i1+1),(mput dt y1.No ((i1:Nat):Int)),mo2,rz1) _ (Nat.lt_succ_self _) ⟨bF hd1,aT hd1,hs3,hm2,(by have:=gh dt y1.No ((i1:Nat):Int);first | omega | (simp only [List.length_nil,List.length_cons] at *;omega))⟩ rd
end Go.Sg
namespace Go.Sg
open Go.Proofs
set_option maxRecDepth 100000
theorem mF.length {κ α : Type} {enc:κ→Value} {V:HF→Value→α→Prop} {h:HF}:∀ {es:List MapEntry} {m:List (κ×α)},mF enc V h es m→es.length=m.length
 | [],[],_=>rfl
 | _::_,(_,_)::_,⟨_,_,c⟩=>by simp [mF.length c]
 | [],_::_,x=>x.elim
 | _::_,[],x=>x.elim
theorem pH {κ : Type} [Inhabited κ] (ks:List κ) (is:List Nat) (hn:is.Nodup) (hlt:∀ i∈is,i < ks.length) (hall:∀ i,i < ks.length→i∈is):(is.map fun i=>(ks[i]?).getD default).Perm ks:=by
 have h1:is.Perm (List.range ks.length):=(List.perm_ext_iff_of_nodup hn List.nodup_range).2 (fun i=>by rw [List.mem_range];exact ⟨hlt i,hall i⟩)
 refine (h1.map _).trans (List.Perm.of_eq ?_)
 apply List.ext_getElem (by simp)
 intro i h2 h3
 simp at h2
 simp [List.getElem?_eq_getElem h2]
theorem qT {κ : Type} [Inhabited κ] (ks:List κ) (is:List Nat) (hn:is.Nodup) (hlt:∀ i∈is,i < ks.length):∃ rest,((is.map fun i=>(ks[i]?).getD default)++rest).Perm ks:=by
 let js:=(List.range ks.length).filter fun i=>!is.contains i
 have hd:(is++js).Nodup:=by
  rw [List.nodup_append]
  refine ⟨hn,List.nodup_range.filter _,fun a ha b hb e=>?_⟩
  subst e
  simp [js] at hb
  exact hb.2 ha
 refine ⟨js.map fun i=>(ks[i]?).getD default,?_⟩
 rw [← List.map_append]
 refine pH ks (is++js) hd (fun i hi=>?_) (fun i hi=>?_)
 ·rcases List.mem_append.1 hi with h | h
  ·exact hlt i h
  ·simp [js] at h;exact h.1
 ·by_cases hm:i∈is
  ·exact List.mem_append_left _ hm
  ·exact List.mem_append_right _ (by simp [js,hi,hm])
theorem sa (h:HF) (m:List (Int×Bool)) (bk:Nat) (q:Addr) (hm:nZ (Value.int .i64) ia h bk m) (aq:At h q [.map (some bk)]):
  uR Tryz.prog (.func (.func 109) #[] #[.pointer (some q)]) (fun k _ vs=>vs=[(Value.int .i64) k]) (fun xs=>xs.Perm (m.map (·.1))) h:=by
 refine ⟨109,[.pointer (some q)],rfl,Tryz.call109,?_⟩
 intro yf ya yb C Sp Pn h1 A hle m1 m2 m3 hC hy
 obtain ⟨o,hb,m0,hpm,hnd0,es,clock,rfl,hE,hP,hcl⟩:=hm.mono ia.mono hle
 have hnod:(es.map (·.born)).Nodup:=hP.imp (fun h=>Nat.ne_of_lt h)
 have hkeys:=hE.keys
 have hlen:es.length=(m0.map (·.1)).length:=by rw [hE.length];simp
 let ks:=m0.map (·.1)
 let kf:Nat→Int:=fun i=>(ks[i]?).getD default
 let bf:Nat→Nat:=fun i=>(es[i]?.map (·.born)).getD 0
 have hkey:∀ (i:Nat) (en:MapEntry),es[i]? = some en→en.key=(Value.int .i64) (kf i):=by
  intro i en hi
  have h2:(es.map (·.key))[i]? = some en.key:=by simp [hi]
  rw [hkeys] at h2
  simp only [List.getElem?_map] at h2
  simp only [kf,ks,List.getElem?_map]
  cases hq:m0[i]? with
  | none=>rw [hq] at h2;simp at h2
  | some p=>rw [hq] at h2;simp at h2;simp [← h2]
 refine km (args:=[.func yf ya yb]) (cap:=[.pointer (some q)]) Tryz.call109 ?_
 refine jN E1 rfl Tryz.ntmps109 rfl fun X hXM hX=>?_
 refine ae (ai (eC ty120 (aq.mono hle) rfl (a8 (zq kM hb rfl (fun it=>ac ?_)))))
 refine br (ι:=List Nat×LH×HF) (fun i=>[]) (fun i=>i.2.2) (fun i=>[(it,Obj.mapIter (some bk) clock (List.toArray (i.1.map bf)) clock)]++i.2.1) (fun i=>(i.1.Nodup∧(∀ j∈i.1,j < es.length)∧(∀ j,j < es.length→j∈i.1))∧C (i.1.map kf) i.2.2 i.2.1) ?_ (fun hx=>?_)
 ·rintro ⟨js,A1,h2⟩ ⟨⟨hn,hl,ha⟩,hC1⟩ e
  exact um E1 (fun a _ w _=>kn rfl a w) (fun w hw=>hw.sub (List.sublist_append_right _ _)) (.inl ⟨rfl,.inl ⟨_,(pH ks js hn (fun i hi=>by rw [← hlen];exact hl i hi) (fun i hi=>ha i (by rw [hlen];exact hi))).trans (hpm.map _),hC1⟩⟩)
 refine cp (ι:=List Nat×LH×HF) (fun i=>[(0,.func yf ya yb),(5,.pointer (some ⟨it,0,none⟩))]) (fun i=>i.2.2) (fun i=>[(it,Obj.mapIter (some bk) clock (List.toArray (i.1.map bf)) clock)]++i.2.1) (fun i=>i.1.Nodup∧(∀ j∈i.1,j < es.length)∧C (i.1.map kf) i.2.2 i.2.1∧HF.le h1 i.2.2) (fun i=>es.length - i.1.length) ([],A,h1) ⟨rfl,rfl,trivial⟩ (fun w hw=>hw) ⟨List.nodup_nil,fun _ hj=>(List.not_mem_nil hj).elim,hC,HF.le_refl _⟩ ?_
 rintro ⟨js,A1,h2⟩ ⟨hn,hl,hC1,hle2⟩ ag e
 dsimp only at hn hl hC1 hle2
 have hlp:=qZ hnod js hl
 show TT _ _ _ _ _ (upds e [(0,.func yf ya yb),(5,.pointer (some ⟨it,0,none⟩))]) _ _ h2 ([(it,Obj.mapIter (some bk) clock (List.toArray (js.map bf)) clock)]++A1)
 refine ae (ai (a8 (CW 0 rfl (hle2 _ _ hb) (fun x hx=>hcl x (by simpa using hx)) (Nat.le_refl _) rfl (fun h0=>?_) (fun en hen=>?_))))
 ·refine bG rfl rfl (ac (ae (bg rfl (bO rfl ?_))))
  exact hx (js,A1,h2) _ ⟨⟨hn,hl,hlp.1 h0⟩,hC1⟩ trivial
 ·obtain ⟨i,hi,hni⟩:=hlp.2 en hen
  have hil:i < es.length:=by
   rcases Nat.lt_or_ge i es.length with h3 | h3
   ·exact h3
   ·simp [List.getElem?_eq_none h3] at hi
  have hmem:en∈es.toArray.toList:=by simpa using List.mem_of_getElem? hi
  have hn':(js++[i]).Nodup:=by
   rw [List.nodup_append];exact ⟨hn,by simp,fun a ha b hb' e'=>by simp at hb';subst hb';subst e';exact hni ha⟩
  have hl':∀ j∈js++[i],j < es.length:=fun j hj=>by
   rcases List.mem_append.1 hj with h3 | h3
   ·exact hl j h3
   ·simp at h3;subst h3;exact hil
  obtain ⟨rest,hrest⟩:=qT ks (js++[i]) hn' (fun j hj=>by rw [← hlen];exact hl' j hj)
  have qr:js.length+1≤es.length:=by
   have h9:=hrest.length_eq
   rw [List.length_append,List.length_map,List.length_append] at h9
   have h10:ks.length=es.length:=hlen.symm
   simp only [List.length_cons,List.length_nil] at h9
   omega
  have hrest':(js.map kf++kf i::rest).Perm (m.map (·.1)):=by
   rw [List.map_append,List.append_assoc] at hrest
   exact List.Perm.trans hrest (hpm.map _)
  obtain ⟨ekey,evl,eborn⟩:=en
  have hk':ekey=(Value.int .i64) (kf i):=hkey i _ hi
  subst hk'
  refine bG rfl rfl (ac ?_)
  refine ae (bn rfl (ao (aW ?_)))
  refine ae (ai ?_)
  refine a8 (gH (zA 0 rfl (hle2 _ _ hb) hmem (by simpa using hnod) rfl) ?_)
  refine bG rfl rfl (ba (ac ?_))
  refine ae (ai (aa (aa ?_)))
  refine a8 (lA [(it,Obj.mapIter (some bk) clock ((List.toArray (js.map bf)).push eborn) clock)] A1 rfl (hy (js.map kf) (kf i) [(Value.int .i64) (kf i)] h2 A1 ⟨rest,hrest'⟩ hle2 hC1 rfl) rfl rfl (fun h3 B hle3 hC3=>?_) (fun h3 B hle3 hS3=>?_) (fun ch h3 B hle3 hP3 e'=>?_))
  ·refine cV rfl (ac (bg rfl (ao (av ?_))))
   have hpush:((List.toArray (js.map bf)).push eborn)=List.toArray ((js++[i]).map bf):=by simp [bf,hi]
   rw [hpush]
   refine ag (js++[i],B,h3) _ (by show es.length - (js++[i]).length < es.length - js.length;rw [List.length_append];simp only [List.length_cons,List.length_nil];omega) ⟨hn',hl',by simpa using hC3,HF.le_trans hle2 hle3⟩ ⟨rfl,rfl,trivial⟩
  ·refine cV rfl (ac (bn rfl ?_))
   exact m5 E1 (fun a _ w _=>kn rfl a w) (fun w hw=>hw.sub (List.sublist_append_right _ _)) (.inl ⟨rfl,.inr hS3⟩)
  ·exact CT E1 (fun w hw=>hw.sub (List.sublist_append_right _ _)) (.inr ⟨ch,rfl,hP3⟩)
theorem pI (h:HF) (m:List (Int×Version)) (bk:Nat) (q:Addr) (hm:nZ (Value.int .i64) (kb Version.rp) h bk m) (aq:At h q [.map (some bk)]):
  uR Tryz.prog (.func (.func 209) #[] #[.pointer (some q)]) (fun k _ vs=>vs=[(Value.int .i64) k]) (fun xs=>xs.Perm (m.map (·.1))) h:=by
 refine ⟨209,[.pointer (some q)],rfl,Tryz.call209,?_⟩
 intro yf ya yb C Sp Pn h1 A hle m1 m2 m3 hC hy
 obtain ⟨o,hb,m0,hpm,hnd0,es,clock,rfl,hE,hP,hcl⟩:=hm.mono (kb.mono Version.aN) hle
 have hnod:(es.map (·.born)).Nodup:=hP.imp (fun h=>Nat.ne_of_lt h)
 have hkeys:=hE.keys
 have hlen:es.length=(m0.map (·.1)).length:=by rw [hE.length];simp
 let ks:=m0.map (·.1)
 let kf:Nat→Int:=fun i=>(ks[i]?).getD default
 let bf:Nat→Nat:=fun i=>(es[i]?.map (·.born)).getD 0
 have hkey:∀ (i:Nat) (en:MapEntry),es[i]? = some en→en.key=(Value.int .i64) (kf i):=by
  intro i en hi
  have h2:(es.map (·.key))[i]? = some en.key:=by simp [hi]
  rw [hkeys] at h2
  simp only [List.getElem?_map] at h2
  simp only [kf,ks,List.getElem?_map]
  cases hq:m0[i]? with
  | none=>rw [hq] at h2;simp at h2
  | some p=>rw [hq] at h2;simp at h2;simp [← h2]
 refine km (args:=[.func yf ya yb]) (cap:=[.pointer (some q)]) Tryz.call209 ?_
 refine jN E0 rfl Tryz.ntmps209 rfl fun X hXM hX=>?_
 refine ae (ai (eC ty203 (aq.mono hle) rfl (a8 (zq EZ hb rfl (fun it=>ac ?_)))))
 refine br (ι:=List Nat×LH×HF) (fun i=>[]) (fun i=>i.2.2) (fun i=>[(it,Obj.mapIter (some bk) clock (List.toArray (i.1.map bf)) clock)]++i.2.1) (fun i=>(i.1.Nodup∧(∀ j∈i.1,j < es.length)∧(∀ j,j < es.length→j∈i.1))∧C (i.1.map kf) i.2.2 i.2.1) ?_ (fun hx=>?_)
 ·rintro ⟨js,A1,h2⟩ ⟨⟨hn,hl,ha⟩,hC1⟩ e
  exact um E0 (fun a _ w _=>kn rfl a w) (fun w hw=>hw.sub (List.sublist_append_right _ _)) (.inl ⟨rfl,.inl ⟨_,(pH ks js hn (fun i hi=>by rw [← hlen];exact hl i hi) (fun i hi=>ha i (by rw [hlen];exact hi))).trans (hpm.map _),hC1⟩⟩)
 refine cp (ι:=List Nat×LH×HF) (fun i=>[(0,.func yf ya yb),(5,.pointer (some ⟨it,0,none⟩))]) (fun i=>i.2.2) (fun i=>[(it,Obj.mapIter (some bk) clock (List.toArray (i.1.map bf)) clock)]++i.2.1) (fun i=>i.1.Nodup∧(∀ j∈i.1,j < es.length)∧C (i.1.map kf) i.2.2 i.2.1∧HF.le h1 i.2.2) (fun i=>es.length - i.1.length) ([],A,h1) ⟨rfl,rfl,trivial⟩ (fun w hw=>hw) ⟨List.nodup_nil,fun _ hj=>(List.not_mem_nil hj).elim,hC,HF.le_refl _⟩ ?_
 rintro ⟨js,A1,h2⟩ ⟨hn,hl,hC1,hle2⟩ ag e
 dsimp only at hn hl hC1 hle2
 have hlp:=qZ hnod js hl
 show TT _ _ _ _ _ (upds e [(0,.func yf ya yb),(5,.pointer (some ⟨it,0,none⟩))]) _ _ h2 ([(it,Obj.mapIter (some bk) clock (List.toArray (js.map bf)) clock)]++A1)
 refine ae (ai (a8 (CW 0 rfl (hle2 _ _ hb) (fun x hx=>hcl x (by simpa using hx)) (Nat.le_refl _) rfl (fun h0=>?_) (fun en hen=>?_))))
 ·refine bG rfl rfl (ac (ae (bg rfl (bO rfl ?_))))
  exact hx (js,A1,h2) _ ⟨⟨hn,hl,hlp.1 h0⟩,hC1⟩ trivial
 ·obtain ⟨i,hi,hni⟩:=hlp.2 en hen
  have hil:i < es.length:=by
   rcases Nat.lt_or_ge i es.length with h3 | h3
   ·exact h3
   ·simp [List.getElem?_eq_none h3] at hi
  have hmem:en∈es.toArray.toList:=by simpa using List.mem_of_getElem? hi
  have hn':(js++[i]).Nodup:=by
   rw [List.nodup_append];exact ⟨hn,by simp,fun a ha b hb' e'=>by simp at hb';subst hb';subst e';exact hni ha⟩
  have hl':∀ j∈js++[i],j < es.length:=fun j hj=>by
   rcases List.mem_append.1 hj with h3 | h3
   ·exact hl j h3
   ·simp at h3;subst h3;exact hil
  obtain ⟨rest,hrest⟩:=qT ks (js++[i]) hn' (fun j hj=>by rw [← hlen];exact hl' j hj)
  have qr:js.length+1≤es.length:=by
   have h9:=hrest.length_eq
   rw [List.length_append,List.length_map,List.length_append] at h9
   have h10:ks.length=es.length:=hlen.symm
   simp only [List.length_cons,List.length_nil] at h9
   omega
  have hrest':(js.map kf++kf i::rest).Perm (m.map (·.1)):=by
   rw [List.map_append,List.append_assoc] at hrest
   exact List.Perm.trans hrest (hpm.map _)
  obtain ⟨ekey,evl,eborn⟩:=en
  have hk':ekey=(Value.int .i64) (kf i):=hkey i _ hi
  subst hk'
  refine bG rfl rfl (ac ?_)
  refine ae (bn rfl (ao (aW ?_)))
  refine ae (ai ?_)
  refine a8 (gH (zA 0 rfl (hle2 _ _ hb) hmem (by simpa using hnod) rfl) ?_)
  refine bG rfl rfl (ba (ac ?_))
  refine ae (ai (aa (aa ?_)))
  refine a8 (lA [(it,Obj.mapIter (some bk) clock ((List.toArray (js.map bf)).push eborn) clock)] A1 rfl (hy (js.map kf) (kf i) [(Value.int .i64) (kf i)] h2 A1 ⟨rest,hrest'⟩ hle2 hC1 rfl) rfl rfl (fun h3 B hle3 hC3=>?_) (fun h3 B hle3 hS3=>?_) (fun ch h3 B hle3 hP3 e'=>?_))
  ·refine cV rfl (ac (bg rfl (ao (av ?_))))
   have hpush:((List.toArray (js.map bf)).push eborn)=List.toArray ((js++[i]).map bf):=by simp [bf,hi]
   rw [hpush]
   refine ag (js++[i],B,h3) _ (by show es.length - (js++[i]).length < es.length - js.length;rw [List.length_append];simp only [List.length_cons,List.length_nil];omega) ⟨hn',hl',by simpa using hC3,HF.le_trans hle2 hle3⟩ ⟨rfl,rfl,trivial⟩
  ·refine cV rfl (ac (bn rfl ?_))
   exact m5 E0 (fun a _ w _=>kn rfl a w) (fun w hw=>hw.sub (List.sublist_append_right _ _)) (.inl ⟨rfl,.inr hS3⟩)
  ·exact CT E0 (fun w hw=>hw.sub (List.sublist_append_right _ _)) (.inr ⟨ch,rfl,hP3⟩)
theorem pJ (h:HF) (m:List (OSeat×Appoint)) (bk:Nat) (q:Addr) (hm:nZ OSeat.enc (kb Appoint.rp) h bk m) (aq:At h q [.map (some bk)]):
  uR Tryz.prog (.func (.func 212) #[] #[.pointer (some q)]) (fun k _ vs=>vs=[OSeat.enc k]) (fun xs=>xs.Perm (m.map (·.1))) h:=by
 refine ⟨212,[.pointer (some q)],rfl,Tryz.call212,?_⟩
 intro yf ya yb C Sp Pn h1 A hle m1 m2 m3 hC hy
 obtain ⟨o,hb,m0,hpm,hnd0,es,clock,rfl,hE,hP,hcl⟩:=hm.mono (kb.mono Appoint.aN) hle
 have hnod:(es.map (·.born)).Nodup:=hP.imp (fun h=>Nat.ne_of_lt h)
 have hkeys:=hE.keys
 have hlen:es.length=(m0.map (·.1)).length:=by rw [hE.length];simp
 let ks:=m0.map (·.1)
 let kf:Nat→OSeat:=fun i=>(ks[i]?).getD default
 let bf:Nat→Nat:=fun i=>(es[i]?.map (·.born)).getD 0
 have hkey:∀ (i:Nat) (en:MapEntry),es[i]? = some en→en.key=OSeat.enc (kf i):=by
  intro i en hi
  have h2:(es.map (·.key))[i]? = some en.key:=by simp [hi]
  rw [hkeys] at h2
  simp only [List.getElem?_map] at h2
  simp only [kf,ks,List.getElem?_map]
  cases hq:m0[i]? with
  | none=>rw [hq] at h2;simp at h2
  | some p=>rw [hq] at h2;simp at h2;simp [← h2]
 refine km (args:=[.func yf ya yb]) (cap:=[.pointer (some q)]) Tryz.call212 ?_
 refine jN EY rfl Tryz.ntmps212 rfl fun X hXM hX=>?_
 refine ae (ai (eC ty159 (aq.mono hle) rfl (a8 (zq EX hb rfl (fun it=>ac ?_)))))
 refine br (ι:=List Nat×LH×HF) (fun i=>[]) (fun i=>i.2.2) (fun i=>[(it,Obj.mapIter (some bk) clock (List.toArray (i.1.map bf)) clock)]++i.2.1) (fun i=>(i.1.Nodup∧(∀ j∈i.1,j < es.length)∧(∀ j,j < es.length→j∈i.1))∧C (i.1.map kf) i.2.2 i.2.1) ?_ (fun hx=>?_)
 ·rintro ⟨js,A1,h2⟩ ⟨⟨hn,hl,ha⟩,hC1⟩ e
  exact um EY (fun a _ w _=>kn rfl a w) (fun w hw=>hw.sub (List.sublist_append_right _ _)) (.inl ⟨rfl,.inl ⟨_,(pH ks js hn (fun i hi=>by rw [← hlen];exact hl i hi) (fun i hi=>ha i (by rw [hlen];exact hi))).trans (hpm.map _),hC1⟩⟩)
 refine cp (ι:=List Nat×LH×HF) (fun i=>[(0,.func yf ya yb),(5,.pointer (some ⟨it,0,none⟩))]) (fun i=>i.2.2) (fun i=>[(it,Obj.mapIter (some bk) clock (List.toArray (i.1.map bf)) clock)]++i.2.1) (fun i=>i.1.Nodup∧(∀ j∈i.1,j < es.length)∧C (i.1.map kf) i.2.2 i.2.1∧HF.le h1 i.2.2) (fun i=>es.length - i.1.length) ([],A,h1) ⟨rfl,rfl,trivial⟩ (fun w hw=>hw) ⟨List.nodup_nil,fun _ hj=>(List.not_mem_nil hj).elim,hC,HF.le_refl _⟩ ?_
 rintro ⟨js,A1,h2⟩ ⟨hn,hl,hC1,hle2⟩ ag e
 dsimp only at hn hl hC1 hle2
 have hlp:=qZ hnod js hl
 show TT _ _ _ _ _ (upds e [(0,.func yf ya yb),(5,.pointer (some ⟨it,0,none⟩))]) _ _ h2 ([(it,Obj.mapIter (some bk) clock (List.toArray (js.map bf)) clock)]++A1)
 refine ae (ai (a8 (CW 0 rfl (hle2 _ _ hb) (fun x hx=>hcl x (by simpa using hx)) (Nat.le_refl _) rfl (fun h0=>?_) (fun en hen=>?_))))
 ·refine bG rfl rfl (ac (ae (bg rfl (bO rfl ?_))))
  exact hx (js,A1,h2) _ ⟨⟨hn,hl,hlp.1 h0⟩,hC1⟩ trivial
 ·obtain ⟨i,hi,hni⟩:=hlp.2 en hen
  have hil:i < es.length:=by
   rcases Nat.lt_or_ge i es.length with h3 | h3
   ·exact h3
   ·simp [List.getElem?_eq_none h3] at hi
  have hmem:en∈es.toArray.toList:=by simpa using List.mem_of_getElem? hi
  have hn':(js++[i]).Nodup:=by
   rw [List.nodup_append];exact ⟨hn,by simp,fun a ha b hb' e'=>by simp at hb';subst hb';subst e';exact hni ha⟩
  have hl':∀ j∈js++[i],j < es.length:=fun j hj=>by
   rcases List.mem_append.1 hj with h3 | h3
   ·exact hl j h3
   ·simp at h3;subst h3;exact hil
  obtain ⟨rest,hrest⟩:=qT ks (js++[i]) hn' (fun j hj=>by rw [← hlen];exact hl' j hj)
  have qr:js.length+1≤es.length:=by
   have h9:=hrest.length_eq
   rw [List.length_append,List.length_map,List.length_append] at h9
   have h10:ks.length=es.length:=hlen.symm
   simp only [List.length_cons,List.length_nil] at h9
   omega
  have hrest':(js.map kf++kf i::rest).Perm (m.map (·.1)):=by
   rw [List.map_append,List.append_assoc] at hrest
   exact List.Perm.trans hrest (hpm.map _)
  obtain ⟨ekey,evl,eborn⟩:=en
  have hk':ekey=OSeat.enc (kf i):=hkey i _ hi
  subst hk'
  refine bG rfl rfl (ac ?_)
  refine ae (bn rfl (ao (aW ?_)))
  refine ae (ai ?_)
  refine a8 (gH (zA 0 rfl (hle2 _ _ hb) hmem (by simpa using hnod) rfl) ?_)
  refine bG rfl rfl (bX zc212 (fun b3=>bN 0 ty212 rfl rfl rfl rfl rfl rfl (ac ?_)))
  refine ae (ai (aa (dq 0 ty212 rfl rfl rfl ?_)))
  refine a8 (lA [(b3,Obj.cells (OSeat.cells (kf i)).toArray 212 (0,0)),(it,Obj.mapIter (some bk) clock ((List.toArray (js.map bf)).push eborn) clock)] A1 rfl (hy (js.map kf) (kf i) [OSeat.enc (kf i)] h2 A1 ⟨rest,hrest'⟩ hle2 hC1 rfl) rfl rfl (fun h3 B hle3 hC3=>?_) (fun h3 B hle3 hS3=>?_) (fun ch h3 B hle3 hP3 e'=>?_))
  ·refine cV rfl (ac (bg rfl (ao (av ?_))))
   have hpush:((List.toArray (js.map bf)).push eborn)=List.toArray ((js++[i]).map bf):=by simp [bf,hi]
   rw [hpush]
   refine cE (L':=[(it,Obj.mapIter (some bk) clock (List.toArray ((js++[i]).map bf)) clock)]++B) (.cons _ (List.Sublist.refl _)) ?_
   refine ag (js++[i],B,h3) _ (by show es.length - (js++[i]).length < es.length - js.length;rw [List.length_append];simp only [List.length_cons,List.length_nil];omega) ⟨hn',hl',by simpa using hC3,HF.le_trans hle2 hle3⟩ ⟨rfl,rfl,trivial⟩
  ·refine cV rfl (ac (bn rfl ?_))
   exact m5 EY (fun a _ w _=>kn rfl a w) (fun w hw=>hw.sub (List.sublist_append_right _ _)) (.inl ⟨rfl,.inr hS3⟩)
  ·exact CT EY (fun w hw=>hw.sub (List.sublist_append_right _ _)) (.inr ⟨ch,rfl,hP3⟩)
end Go.Sg
namespace Go.Proofs
open Go.Shelf
def Tryz.Bn:Go.Shelf.Ren:=⟨fun | 137=>279 | 217=>281 | 266=>282 | n=>n,fun | 9=>9 | 5=>5 | 3=>3 | n=>n,fun | n=>n⟩
theorem Tryz.lays137:Go.Proofs.Lays.n137 Tryz.prog Tryz.Bn:={
 mixed:=by kernel_rfl
 f137:=Tryz.func279.trans (congrArg some (by kernel_rfl))
 f217:=Tryz.func281.trans (congrArg some (by kernel_rfl))
 f266:=Tryz.func282.trans (congrArg some (by kernel_rfl))
 t3:=Tryz.underlying3
 a3:=Tryz.isAgg3
 z3:=Tryz.sizeOf3
 v3:=Tryz.zeroValue3
 t5:=Tryz.underlying5
 a5:=Tryz.isAgg5
 z5:=Tryz.sizeOf5
 v5:=Tryz.zeroValue5
 t9:=Tryz.underlying9
 a9:=Tryz.isAgg9
 z9:=Tryz.sizeOf9
 v9:=Tryz.zeroValue9 }
open Go.RowKit in
theorem Tryz.strings_IndexByte (s:ByteArray) (c:Int) (w:World):
  Calls Tryz.prog 279 #[.string s,.int .u8 c] w fun e w'=>e=.returned (.int .i64 (Lib.indexByte s.data.toList c.toNat.toUInt8))∧w'=w:=Any.strings_IndexByte Tryz.lays137 s c w
open Go.RowKit Go.Lib in
def Tryz.Bm:Go.Shelf.Ren:=⟨fun | 189=>41 | 125=>80 | 257=>79 | 128=>138 | 129=>139 | 294=>129 | 295=>130 | 296=>131 | 297=>132 | 298=>133 | 299=>134 | 216=>135 | 300=>136 | 301=>137 | 328=>203 | 329=>204 | 330=>205 | 331=>206 | 332=>207 | 215=>208 | 343=>238 | n=>n,fun | 28=>31 | 3=>3 | 46=>136 | 0=>0 | 51=>199 | 53=>201 | 4=>4 | 183=>193 | 182=>192 | 131=>153 | 5=>5 | 9=>9 | 218=>240 | 222=>244 | 228=>271 | 229=>272 | n=>n,fun | n=>n⟩
theorem Tryz.lays189:Go.Proofs.Lays.n189 Tryz.prog Tryz.Bm:={
 mixed:=by kernel_rfl
 f125:=Tryz.func80.trans (congrArg some (by kernel_rfl))
 f128:=Tryz.func138.trans (congrArg some (by kernel_rfl))
 f129:=Tryz.func139.trans (congrArg some (by kernel_rfl))
 f189:=Tryz.func41.trans (congrArg some (by kernel_rfl))
 f215:=Tryz.func208.trans (congrArg some (by kernel_rfl))
 f216:=Tryz.func135.trans (congrArg some (by kernel_rfl))
 f257:=Tryz.func79.trans (congrArg some (by kernel_rfl))
 f294:=Tryz.func129.trans (congrArg some (by kernel_rfl))
 f295:=Tryz.func130.trans (congrArg some (by kernel_rfl))
 f296:=Tryz.func131.trans (congrArg some (by kernel_rfl))
 f297:=Tryz.func132.trans (congrArg some (by kernel_rfl))
 f298:=Tryz.func133.trans (congrArg some (by kernel_rfl))
 f299:=Tryz.func134.trans (congrArg some (by kernel_rfl))
 f300:=Tryz.func136.trans (congrArg some (by kernel_rfl))
 f301:=Tryz.func137.trans (congrArg some (by kernel_rfl))
 f328:=Tryz.func203.trans (congrArg some (by kernel_rfl))
 f329:=Tryz.func204.trans (congrArg some (by kernel_rfl))
 f330:=Tryz.func205.trans (congrArg some (by kernel_rfl))
 f331:=Tryz.func206.trans (congrArg some (by kernel_rfl))
 f332:=Tryz.func207.trans (congrArg some (by kernel_rfl))
 f343:=Tryz.func238.trans (congrArg some (by kernel_rfl))
 t0:=Tryz.underlying0
 a0:=Tryz.isAgg0
 z0:=Tryz.sizeOf0
 v0:=Tryz.zeroValue0
 t3:=Tryz.underlying3
 a3:=Tryz.isAgg3
 z3:=Tryz.sizeOf3
 v3:=Tryz.zeroValue3
 t4:=Tryz.underlying4
 a4:=Tryz.isAgg4
 z4:=Tryz.sizeOf4
 v4:=Tryz.zeroValue4
 t5:=Tryz.underlying5
 a5:=Tryz.isAgg5
 z5:=Tryz.sizeOf5
 v5:=Tryz.zeroValue5
 t9:=Tryz.underlying9
 a9:=Tryz.isAgg9
 z9:=Tryz.sizeOf9
 v9:=Tryz.zeroValue9
 t28:=Tryz.underlying31
 a28:=Tryz.isAgg31
 z28:=Tryz.sizeOf31
 v28:=Tryz.zeroValue31
 t46:=Tryz.underlying136
 a46:=Tryz.isAgg136
 z46:=Tryz.sizeOf136
 v46:=Tryz.zeroValue136
 t51:=Tryz.underlying199
 a51:=Tryz.isAgg199
 z51:=Tryz.sizeOf199
 v51:=Tryz.zeroValue199
 t53:=Tryz.underlying201
 a53:=Tryz.isAgg201
 z53:=Tryz.sizeOf201
 v53:=Tryz.zeroValue201
 t131:=Tryz.underlying153
 a131:=Tryz.isAgg153
 z131:=Tryz.sizeOf153
 v131:=Tryz.zeroValue153
 t182:=Tryz.underlying192
 a182:=Tryz.isAgg192
 z182:=Tryz.sizeOf192
 v182:=Tryz.zeroValue192
 t183:=Tryz.underlying193
 a183:=Tryz.isAgg193
 z183:=Tryz.sizeOf193
 v183:=Tryz.zeroValue193
 t218:=Tryz.underlying240
 a218:=Tryz.isAgg240
 z218:=Tryz.sizeOf240
 v218:=Tryz.zeroValue240
 t222:=Tryz.underlying244
 a222:=Tryz.isAgg244
 z222:=Tryz.sizeOf244
 v222:=Tryz.zeroValue244
 t228:=Tryz.underlying271
 a228:=Tryz.isAgg271
 z228:=Tryz.sizeOf271
 v228:=Tryz.zeroValue271
 t229:=Tryz.underlying272
 a229:=Tryz.isAgg272
 z229:=Tryz.sizeOf272
 v229:=Tryz.zeroValue272 }
open Go.Sort Go.RowKit in
theorem Tryz.slices_Sort_int (blk off cap:Nat) (zs:List Int) (w:World) (hH:Holds (Value.int .i64) w blk off zs.toArray) (hblk:blk < w.heap.size) (hsz:zs.length < 4611686018427387904):
  Calls Tryz.prog 41 #[.slice (some ⟨blk,off,none⟩) zs.length cap] w fun e w'=>
   e=.returned (.tuple #[])∧∃ n os,w'=grow (putRow (Value.int .i64) (Sort.ahead w n) blk off (zs.mergeSort fun x y=>decide (x≤y)).toArray) os:=Any.slices_Sort_int Tryz.lays189 blk off cap zs w hH hblk hsz
def Tryz.yl:Go.Shelf.Ren:=⟨fun | 15=>40 | n=>n,fun | 22=>31 | 3=>3 | 4=>4 | n=>n,fun | n=>n⟩
theorem Tryz.laysNm215:Go.Proofs.Lays2.n15 Tryz.prog Tryz.yl:={
 mixed:=by kernel_rfl
 f15:=Tryz.func40.trans (congrArg some (by kernel_rfl))
 t3:=Tryz.underlying3
 a3:=Tryz.isAgg3
 z3:=Tryz.sizeOf3
 v3:=Tryz.zeroValue3
 t4:=Tryz.underlying4
 a4:=Tryz.isAgg4
 z4:=Tryz.sizeOf4
 v4:=Tryz.zeroValue4
 t22:=Tryz.underlying31
 a22:=Tryz.isAgg31
 z22:=Tryz.sizeOf31
 v22:=Tryz.zeroValue31
 i3:=by kernel_rfl }
open Go.RowKit Go.Lib in
theorem Tryz.slices_Clone_int (b off n c:Nat) (zs:List Int) (w:World) (hz:n≤zs.length) (hbig:n * 8≤140737488355328) (hc:∀ j,j < zs.length→w.cell? ⟨b,off+j,none⟩=some (.int .i64 (zs.getD j 0))):
  Calls Tryz.prog 40 #[.slice (some ⟨b,off,none⟩) n c] w fun e w'=>∃ v',e=.returned v'∧w'.ownsRow w.heap.size 3 1 v' n ((zs.take n).map (Value.int .i64))∧v'≠.slice none 0 0∧Below w.heap.size w w':=Any.slices_Clone_int Tryz.laysNm215 b off n c zs w hz hbig hc
open Go.RowKit Go.Lib in
theorem Tryz.slices_Clone_int_nil (n c:Nat) (w:World):
  Calls Tryz.prog 40 #[.slice none n c] w fun e w'=>e=.returned (.slice none 0 0)∧w'=w:=Any.slices_Clone_int_nil Tryz.laysNm215 n c w
open Go.RowKit Go.Lib in
theorem Tryz.slices_Clone_int_zero (a:Addr) (c:Nat) (w:World):
  Calls Tryz.prog 40 #[.slice (some a) 0 c] w fun e w'=>∃ v',e=.returned v'∧w'.ownsRow w.heap.size 3 1 v' 0 []∧v'≠.slice none 0 0∧Below w.heap.size w w':=Any.slices_Clone_int_zero Tryz.laysNm215 a c w
open Go.RowKit Go.Lib in
open Go.RowKit Go.Lib in
open Go.RowKit Go.Lib in
def Tryz.yk:Go.Shelf.Ren:=⟨fun | 25=>87 | 31=>135 | 32=>147 | 37=>208 | n=>n,fun | 22=>31 | 3=>3 | 4=>4 | 40=>136 | 0=>0 | n=>n,fun | n=>n⟩
theorem Tryz.laysNm225:Go.Proofs.Lays2.n25 Tryz.prog Tryz.yk:={
 mixed:=by kernel_rfl
 f25:=Tryz.func87.trans (congrArg some (by kernel_rfl))
 f31:=Tryz.func135.trans (congrArg some (by kernel_rfl))
 f32:=Tryz.func147.trans (congrArg some (by kernel_rfl))
 f37:=Tryz.func208.trans (congrArg some (by kernel_rfl))
 t0:=Tryz.underlying0
 a0:=Tryz.isAgg0
 z0:=Tryz.sizeOf0
 v0:=Tryz.zeroValue0
 t3:=Tryz.underlying3
 a3:=Tryz.isAgg3
 z3:=Tryz.sizeOf3
 v3:=Tryz.zeroValue3
 t4:=Tryz.underlying4
 a4:=Tryz.isAgg4
 z4:=Tryz.sizeOf4
 v4:=Tryz.zeroValue4
 t22:=Tryz.underlying31
 a22:=Tryz.isAgg31
 z22:=Tryz.sizeOf31
 v22:=Tryz.zeroValue31
 t40:=Tryz.underlying136
 a40:=Tryz.isAgg136
 z40:=Tryz.sizeOf136
 v40:=Tryz.zeroValue136 }
open Go.RowKit Go.Lib in
theorem Tryz.slices_BinarySearch_int (b off n c:Nat) (zs:List Int) (x:Int) (w:World) (hz:n≤zs.length) (hbig:n < 4611686018427387904) (hc:∀ j,j < zs.length→w.cell? ⟨b,off+j,none⟩=some (.int .i64 (zs.getD j 0))) (hs:(zs.take n).Pairwise (·≤·)):
  Calls Tryz.prog 87 #[.slice (some ⟨b,off,none⟩) n c,.int .i64 x] w fun e w'=>e=.returned (.tuple #[.int .i64 ((zs.take n).countP (· < x):Nat),.bool ((zs.take n).contains x)])∧∃ q,w'=w.drewN q:=Any.slices_BinarySearch_int Tryz.laysNm225 b off n c zs x w hz hbig hc hs
open Go.RowKit Go.Sort in
theorem Tryz.slices_Sort_int_none (p:Option Addr) (cap:Nat) (w:World):
  Calls Tryz.prog 41 #[.slice p 0 cap] w fun e w'=>e=.returned (.tuple #[])∧w'=w:=Any.slices_Sort_int_none Tryz.lays189 p cap w
open Go.RowKit Go.Lib in
theorem Tryz.slices_BinarySearch_int_empty (a:Option Addr) (c:Nat) (x:Int) (w:World):
  Calls Tryz.prog 87 #[.slice a 0 c,.int .i64 x] w fun e w'=>e=.returned (.tuple #[.int .i64 0,.bool false])∧w'=w:=Any.slices_BinarySearch_int_empty Tryz.laysNm225 a c x w
def Tryz.sO:Go.Shelf.Ren:=⟨fun | 7=>208 | n=>n,fun | 22=>3 | 4=>4 | n=>n,fun | n=>n⟩
theorem Tryz.wV:Go.Proofs.SlLaysC2.n7 Tryz.prog Tryz.sO:={
 mixed:=by kernel_rfl
 f7:=⟨Tryz.f208.name,by decide,Tryz.func208.trans (congrArg some (by kernel_rfl))⟩
 t4:=Tryz.underlying4
 a4:=Tryz.isAgg4
 z4:=Tryz.sizeOf4
 v4:=Tryz.zeroValue4
 t22:=Tryz.underlying3
 a22:=Tryz.isAgg3
 z22:=Tryz.sizeOf3
 v22:=Tryz.zeroValue3 }
open Go.Lib in
theorem Tryz.cmp_isNaN_int (x:Int) (w:World):
  Calls Tryz.prog 208 #[.int .i64 x] w fun e w'=>e=.returned (.bool false)∧w'=w:=AnyG.cmp_isNaN_int Tryz.wV x w
def Tryz.sP:Go.Shelf.Ren:=⟨fun | 5=>152 | 7=>208 | n=>n,fun | 22=>3 | 3=>3 | 4=>4 | n=>n,fun | n=>n⟩
theorem Tryz.wW:Go.Proofs.SlLaysC2.n5 Tryz.prog Tryz.sP:={
 mixed:=by kernel_rfl
 f5:=⟨Tryz.f152.name,by decide,Tryz.func152.trans (congrArg some (by kernel_rfl))⟩
 f7:=⟨Tryz.f208.name,by decide,Tryz.func208.trans (congrArg some (by kernel_rfl))⟩
 t3:=Tryz.underlying3
 a3:=Tryz.isAgg3
 z3:=Tryz.sizeOf3
 v3:=Tryz.zeroValue3
 t4:=Tryz.underlying4
 a4:=Tryz.isAgg4
 z4:=Tryz.sizeOf4
 v4:=Tryz.zeroValue4
 t22:=Tryz.underlying3
 a22:=Tryz.isAgg3
 z22:=Tryz.sizeOf3
 v22:=Tryz.zeroValue3 }
open Go.Lib in
theorem Tryz.cmp_Compare_int (x y:Int) (w:World):
  Calls Tryz.prog 152 #[.int .i64 x,.int .i64 y] w fun e w'=>e=.returned (.int .i64 (Lib.compareInt x y))∧w'=w:=AnyG.cmp_Compare_int Tryz.wW x y w
def Tryz.zp:Go.Shelf.Ren:=⟨fun | 6=>211 | 15=>80 | 14=>240 | 28=>138 | 29=>139 | 20=>257 | 21=>258 | 22=>259 | 23=>260 | 24=>261 | 25=>262 | 26=>263 | 27=>264 | 46=>272 | 47=>204 | 48=>205 | 49=>273 | 50=>274 | 57=>278 | n=>n,fun | 22=>215 | 24=>212 | 25=>214 | 3=>3 | 39=>136 | 0=>0 | 53=>199 | 55=>201 | 4=>4 | 46=>193 | 45=>192 | 50=>153 | 5=>5 | 9=>9 | 66=>240 | 70=>244 | 76=>271 | 77=>272 | n=>n,fun | n=>n⟩
theorem Tryz.sortSeat:Go.Proofs.SlLaysF0.n6 Tryz.prog Tryz.zp:={
 mixed:=by kernel_rfl
 f6:=⟨Tryz.f211.name,by decide,Tryz.func211.trans (congrArg some (by kernel_rfl))⟩
 f14:=⟨Tryz.f240.name,by decide,Tryz.func240.trans (congrArg some (by kernel_rfl))⟩
 f15:=Tryz.func80.trans (congrArg some (by kernel_rfl))
 f20:=⟨Tryz.f257.name,by decide,Tryz.func257.trans (congrArg some (by kernel_rfl))⟩
 f21:=⟨Tryz.f258.name,by decide,Tryz.func258.trans (congrArg some (by kernel_rfl))⟩
 f22:=⟨Tryz.f259.name,by decide,Tryz.func259.trans (congrArg some (by kernel_rfl))⟩
 f23:=⟨Tryz.f260.name,by decide,Tryz.func260.trans (congrArg some (by kernel_rfl))⟩
 f24:=⟨Tryz.f261.name,by decide,Tryz.func261.trans (congrArg some (by kernel_rfl))⟩
 f25:=⟨Tryz.f262.name,by decide,Tryz.func262.trans (congrArg some (by kernel_rfl))⟩
 f26:=⟨Tryz.f263.name,by decide,Tryz.func263.trans (congrArg some (by kernel_rfl))⟩
 f27:=⟨Tryz.f264.name,by decide,Tryz.func264.trans (congrArg some (by kernel_rfl))⟩
 f28:=Tryz.func138.trans (congrArg some (by kernel_rfl))
 f29:=Tryz.func139.trans (congrArg some (by kernel_rfl))
 f46:=⟨Tryz.f272.name,by decide,Tryz.func272.trans (congrArg some (by kernel_rfl))⟩
 f47:=Tryz.func204.trans (congrArg some (by kernel_rfl))
 f48:=Tryz.func205.trans (congrArg some (by kernel_rfl))
 f49:=⟨Tryz.f273.name,by decide,Tryz.func273.trans (congrArg some (by kernel_rfl))⟩
 f50:=⟨Tryz.f274.name,by decide,Tryz.func274.trans (congrArg some (by kernel_rfl))⟩
 f57:=⟨Tryz.f278.name,by decide,Tryz.func278.trans (congrArg some (by kernel_rfl))⟩
 t0:=Tryz.underlying0
 a0:=Tryz.isAgg0
 z0:=Tryz.sizeOf0
 v0:=Tryz.zeroValue0
 t3:=Tryz.underlying3
 a3:=Tryz.isAgg3
 z3:=Tryz.sizeOf3
 v3:=Tryz.zeroValue3
 t4:=Tryz.underlying4
 a4:=Tryz.isAgg4
 z4:=Tryz.sizeOf4
 v4:=Tryz.zeroValue4
 t5:=Tryz.underlying5
 a5:=Tryz.isAgg5
 z5:=Tryz.sizeOf5
 v5:=Tryz.zeroValue5
 t9:=Tryz.underlying9
 a9:=Tryz.isAgg9
 z9:=Tryz.sizeOf9
 v9:=Tryz.zeroValue9
 t22:=Tryz.underlying215
 a22:=Tryz.isAgg215
 z22:=Tryz.sizeOf215
 v22:=Tryz.zeroValue215
 t25:=Tryz.underlying214
 a25:=Tryz.isAgg214
 z25:=Tryz.sizeOf214
 v25:=Tryz.zeroValue214
 t39:=Tryz.underlying136
 a39:=Tryz.isAgg136
 z39:=Tryz.sizeOf136
 v39:=Tryz.zeroValue136
 t45:=Tryz.underlying192
 a45:=Tryz.isAgg192
 z45:=Tryz.sizeOf192
 v45:=Tryz.zeroValue192
 t46:=Tryz.underlying193
 a46:=Tryz.isAgg193
 z46:=Tryz.sizeOf193
 v46:=Tryz.zeroValue193
 t50:=Tryz.underlying153
 a50:=Tryz.isAgg153
 z50:=Tryz.sizeOf153
 v50:=Tryz.zeroValue153
 t53:=Tryz.underlying199
 a53:=Tryz.isAgg199
 z53:=Tryz.sizeOf199
 v53:=Tryz.zeroValue199
 t55:=Tryz.underlying201
 a55:=Tryz.isAgg201
 z55:=Tryz.sizeOf201
 v55:=Tryz.zeroValue201
 t66:=Tryz.underlying240
 a66:=Tryz.isAgg240
 z66:=Tryz.sizeOf240
 v66:=Tryz.zeroValue240
 t70:=Tryz.underlying244
 a70:=Tryz.isAgg244
 z70:=Tryz.sizeOf244
 v70:=Tryz.zeroValue244
 t76:=Tryz.underlying271
 a76:=Tryz.isAgg271
 z76:=Tryz.sizeOf271
 v76:=Tryz.zeroValue271
 t77:=Tryz.underlying272
 a77:=Tryz.isAgg272
 z77:=Tryz.sizeOf272
 v77:=Tryz.zeroValue272 }
end Go.Proofs
namespace Go.Sg
open Go.Proofs Go.RowKit
theorem St.FO {h:HF} {w w':World} (hp:Pre h [] w) (hb:Below w.heap.size w w'):St ⟨w,h,[]⟩ h [] w':=
  ⟨hb.os,hb.tape,hb.output,hb.size,fun b hlt _=>hb.block b hlt,fun _ _ e=>e,fun _ _=>rfl,fun b o e=>by rw [hb.block b (fm (hp.imm b o e))];exact hp.imm b o e,
   fun _ hq=>(List.not_mem_nil hq).elim,List.nodup_nil,fun _ hq=>(List.not_mem_nil hq).elim,fun _ hq=>(List.not_mem_nil hq).elim⟩
theorem St.Ez {h:HF} {w w':World} {g:Nat} {o:Obj} (hp:Pre h [] w) (hb:Below w.heap.size w w') (hg:w.heap.size≤g) (ho:w'.heap[g]? = some o):St ⟨w,h,[]⟩ h [(g,o)] w':=
  ⟨hb.os,hb.tape,hb.output,hb.size,fun b hlt _=>hb.block b hlt,fun _ _ e=>e,fun _ _=>rfl,fun b o e=>by rw [hb.block b (fm (hp.imm b o e))];exact hp.imm b o e,
   fun q hq=>by rw [List.mem_singleton.1 hq];exact ho,by simp,fun q hq=>by
     rw [List.mem_singleton.1 hq]
     show h g=none
     cases hh:h g with
     | none=>rfl
     | some o'=>have:=fm (hp.imm g o' hh);omega,fun q hq=>by rw [List.mem_singleton.1 hq];exact .inl hg⟩
theorem D3 {h:HF} {b:Option Addr} {xs:List Int} (hs:SlB Rp.int h b xs) (hne:xs≠[]):∃ g off,b=some ⟨g,off,none⟩∧∀ w,Pre h [] w→∀ j,j < xs.length→w.cell? ⟨g,off+j,none⟩=some (.int .i64 (xs.getD j 0)):=by
 obtain ⟨x0,r,rfl⟩:∃ x r,xs=x::r:=by cases xs with
  | nil=>exact (hne rfl).elim
  | cons x r=>exact ⟨x,r,rfl⟩
 obtain ⟨p,cs,rfl,hA,_,_⟩:=hs.2 0 x0 rfl
 have hsp:p.spot=none:=by
  obtain ⟨_,_,_,_,h2,_⟩:=hA
  simpa [Addr.add] using h2
 obtain ⟨g,off,sp⟩:=p
 simp only at hsp
 subst hsp
 refine ⟨g,off,rfl,fun w hp j hj=>?_⟩
 obtain ⟨p',cs',e,hA',hl,hr⟩:=hs.2 j ((x0::r)[j]) (by rw [List.getElem?_eq_getElem hj])
 cases e
 have hcs:cs'=[.int .i64 ((x0::r)[j])]:=hr
 subst hcs
 have hc:=hA'.cell (X:=⟨w,h,[]⟩) (L:=[]) (St.start hp) (j:=0) (v:=.int .i64 ((x0::r)[j])) rfl
 have ha:((⟨g,off,none⟩:Addr).add (j * Rp.int.sz)).add 0=⟨g,off+j,none⟩:=by
  have h1:j * Rp.int.sz=j:=Nat.mul_one j
  rw [h1]
  by_cases e0:j=0
  ·subst e0;simp [Addr.add]
  ·simp [Addr.add,e0]
 rw [ha] at hc
 rw [hc]
 simp [List.getD,List.getElem?_eq_getElem hj]
theorem kN (h:HF) (x:List Int) (IA:Option Addr) (Ix:Nat) (target:Int) (hx:SlC Rp.int h IA Ix x) (hs:x.Pairwise (·≤·)) (hsz:x.length≤2000000):
  Ret Tryz.prog 87 [.slice IA x.length Ix,.int .i64 target] h (.tuple #[.int .i64 (slices_BinarySearch_int x target).1,.bool (slices_BinarySearch_int x target).2]):=by
 intro w hp
 by_cases hne:x=[]
 ·subst hne
  refine (iF (Tryz.slices_BinarySearch_int_empty IA Ix target w) (fun w' hw=>by cases hw.1)).mono ?_
  rintro e w' ⟨rfl,rfl⟩
  exact ⟨h,[],St.start hp,rfl,rfl,rfl⟩
 ·obtain ⟨g,off,rfl,hc⟩:=D3 hx.1 hne
  refine (iF (Tryz.slices_BinarySearch_int g off x.length Ix x target w (Nat.le_refl _) (by omega) (hc w hp) (by simpa using hs)) (fun w' hw=>by cases hw.1)).mono ?_
  rintro e w' ⟨rfl,q,rfl⟩
  refine ⟨h,[],(St.start hp).drew _,?_,rfl,rfl⟩
  simp [bsI,slices_BinarySearch_int]
abbrev Ih {α : Type} (P:Program) (f:FuncId) (args:List Value) (h:HF) (R:Rp α) (E:TypeId) (xs:List α):Prop:=
 nX P f args.toArray h [] (fun r h' G=>h'=h∧∃ b c,r=.returned (.slice b xs.length c)∧ep R E h xs b c G)
theorem yU {h:HF} {w w':World} {v:Value} {xs:List Int} (hp:Pre h [] w) (hb:Below w.heap.size w w') (ho:w'.ownsRow w.heap.size 3 1 v xs.length (xs.map (Value.int .i64))):
  ∃ h' G,St ⟨w,h,[]⟩ h' G w'∧h'=h∧∃ b c,Ending.returned v=.returned (.slice b xs.length c)∧ep Rp.int 3 h xs b c G:=by
 obtain ⟨_,⟨rfl,hn⟩ | ⟨g,cap,cur,rfl,hg,hh,h1,h2,h3,h4⟩⟩:=ho
 ·have:xs=[]:=List.length_eq_zero_iff.1 hn
  subst this
  exact ⟨h,[],St.FO hp hb,rfl,none,0,rfl,ep.nil⟩
 ·refine ⟨h,_,St.Ez hp hb hg hh,rfl,some ⟨g,0,none⟩,cap,rfl,.inr ⟨g,xs.map (Value.int .i64),cur.toList.drop xs.length,rfl,?_,?_,h1,?_,?_⟩⟩
  ·have:∀ l:List Int,bV Rp.int h (l.map (Value.int .i64)) l:=by
    intro l
    induction l with
    | nil=>rfl
    | cons y l ih=>exact ⟨[.int .i64 y],l.map (Value.int .i64),rfl,rfl,rfl,ih⟩
   exact this xs
  ·have h5:xs.map (Value.int .i64)++cur.toList.drop xs.length=cur.toList:=by
    rw [← h4,Nat.mul_one];exact List.take_append_drop _ _
   rw [h5];show _=cap * 1;simpa using h3
  ·have:maxLen=9223372036854775807:=by rfl
   omega
  ·have h5:xs.map (Value.int .i64)++cur.toList.drop xs.length=cur.toList:=by
    rw [← h4,Nat.mul_one];exact List.take_append_drop _ _
   rw [h5]
theorem lf (h:HF) (s:List Int) (pz:Option Addr) (oS:Nat) (hs:SlC Rp.int h pz oS s) (hsz:s.length≤2000000):Ih Tryz.prog 40 [.slice pz s.length oS] h Rp.int 3 s:=by
 intro w hp
 by_cases hne:s=[]
 ·subst hne
  cases pz with
  | none=>
   refine (iF (Tryz.slices_Clone_int_nil 0 oS w) (fun w' hw=>by cases hw.1)).mono ?_
   rintro e w' ⟨rfl,rfl⟩
   exact ⟨h,[],St.start hp,rfl,none,0,rfl,ep.nil⟩
  | some a=>
   refine (iF (Tryz.slices_Clone_int_zero a oS w) (fun w' hw=>by obtain ⟨_,e,_⟩:=hw;cases e)).mono ?_
   rintro e w' ⟨v,rfl,ho,_,hb⟩
   exact yU (xs:=[]) hp hb ho
 ·obtain ⟨g,off,rfl,hc⟩:=D3 hs.1 hne
  refine (iF (Tryz.slices_Clone_int g off s.length oS s w (Nat.le_refl _) (by omega) (hc w hp)) (fun w' hw=>by obtain ⟨_,e,_⟩:=hw;cases e)).mono ?_
  rintro e w' ⟨v,rfl,ho,_,hb⟩
  rw [List.take_length] at ho
  exact yU hp hb ho
theorem lH (h:HF) (xs:List Int) (b:Option Addr) (c:Nat) (G:LH) (hG:ep Rp.int 3 h xs b c G) (hsz:xs.length≤1000000000000):
  nX Tryz.prog 41 [.slice b xs.length c].toArray h G (fun r h' G'=>h'=h∧r=.returned (.tuple #[])∧ep Rp.int 3 h (sortI xs) b c G'):=by
 intro w hp
 rcases hG with ⟨rfl,rfl,rfl,rfl⟩ | ⟨bk,cl,sp,rfl,hcl,hlen,hcap,hmax,rfl⟩
 ·refine (iF (Tryz.slices_Sort_int_none none 0 w) (fun w' hw=>by cases hw.1)).mono ?_
  rintro e w' ⟨rfl,rfl⟩
  exact ⟨h,[],St.start hp,rfl,rfl,by rw [show sortI []=[] from by simp [sortI]];exact ep.nil⟩
 ·have hb:=hp.own _ (List.mem_singleton.2 rfl)
  simp only at hb
  have hcl':cl=xs.map (Value.int .i64):=by
   clear hlen hb hp hcap hmax hsz
   induction xs generalizing cl with
   | nil=>exact hcl
   | cons y l ih=>
    obtain ⟨cs,r,rfl,_,hr,hl⟩:=hcl
    have:cs=[.int .i64 y]:=hr
    rw [this,ih r hl];rfl
  subst hcl'
  have hH:Sort.Holds (Value.int .i64) w bk 0 xs.toArray:=by
   refine holds_of_blockI (cur:=(xs.map (Value.int .i64)++sp).toArray) (e:=3) hb ?_
   simp
  refine (iF (Tryz.slices_Sort_int bk 0 c xs w hH (fm hb) (by omega)) (fun w' hw=>by cases hw.1)).mono ?_
  rw [zI]
  rintro e w' ⟨rfl,n,os,rfl⟩
  obtain ⟨g1,g2,g3,g4,g5⟩:=grownBy_sortedI (w:=w) (g:=bk) (n:=n) (os:=os) (sortI xs).toArray
  have hnew:=heap_sortedI (w:=w) (g:=bk) (n:=n) (os:=os) (sortI xs).toArray hb
  have htake:=take_putCellsI (xs.map (Value.int .i64)++sp).toArray (sortI xs) (by rw [ie];simp)
  refine ⟨h,[(bk,.cells (Sort.putCells (Value.int .i64) 0 (sortI xs).toArray (xs.map (Value.int .i64)++sp).toArray) 3 (0,0))],⟨g1,g2,g3,g4,fun k hk hM=>g5 k hk (fun e=>hM (by cases e;simp)),fun _ _ e=>e,fun _ _=>rfl,fun k o e=>?_,fun q hq=>?_,?_,?_,?_⟩,rfl,rfl,?_⟩
  ·have hne:k≠bk:=fun e'=>by
    have:=hp.free _ (List.mem_singleton.2 rfl)
    simp only at this
    rw [e',this] at e;cases e
   exact (g5 k (fm (hp.imm k o e)) (fun e'=>by cases e';exact hne rfl)).trans (hp.imm k o e)
  ·rw [List.mem_singleton.1 hq];exact hnew
  ·simp
  ·intro q hq;rw [List.mem_singleton.1 hq];exact hp.free (bk,Obj.cells (xs.map (Value.int .i64)++sp).toArray 3 (0,0)) (List.mem_singleton.2 rfl)
  ·intro q hq;rw [List.mem_singleton.1 hq];exact .inr (by simp)
  ·refine .inr ⟨bk,(sortI xs).map (Value.int .i64),(Sort.putCells (Value.int .i64) 0 (sortI xs).toArray (xs.map (Value.int .i64)++sp).toArray).toList.drop xs.length,rfl,?_,?_,by rw [ie];exact hcap,by rw [ie];exact hmax,?_⟩
   ·have:∀ l:List Int,bV Rp.int h (l.map (Value.int .i64)) l:=by
     intro l
     induction l with
     | nil=>rfl
     | cons y l ih=>exact ⟨[.int .i64 y],l.map (Value.int .i64),rfl,rfl,rfl,ih⟩
    exact this _
   ·rw [← htake,ie,List.take_append_drop]
    simpa [Sort.putCells] using hlen
   ·rw [← htake,ie,List.take_append_drop]
section steps
variable {P:Program} {b:Frame} {n:Nat} {ops:Array Oper} {F:List Frame→(Machine→Prop)→Prop} {e:Env} {ds:List Deferred} {X:Cx} {h:HF} {L:LH} {K:Env→HF→LH→Prop}
variable {d:Option Nat} {ty:TypeId} {pos:String} {af:Array Edge} {g:Option (Nat×Bool)}
theorem GZ {α : Type} {R:Rp α} {E:TypeId} {xs:List α} {f:FuncId} {ass:Array Operand} {ats:Array TypeId} {vs:List Value}
  (hc:∀ args w,(callFunc f args).run P w=.ok (.enter f args) w) (hs:Ih P f vs h R E xs) (hvs:ass.toList.map e.ev=vs)
  (t':∀ bb c G,ep R E h xs bb c G→K (pute e d (.slice bb xs.length c)) h (L++G))
  (hg:guardB ops e ⟨d,.call ⟨.value (.func f),ass,ats⟩,ty,pos,af,g⟩=true:=by rfl):
  Stp P b n ops F ds X ⟨d,.call ⟨.value (.func f),ass,ats⟩,ty,pos,af,g⟩ e h L K:=by
 unfold Stp
 rw [if_pos hg]
 intro w hw
 have harr:ass.map e.ev=vs.toArray:=Array.ext' (by simp [← hvs])
 have hr:(execOp e.ev ⟨d,.call ⟨.value (.func f),ass,ats⟩,ty,pos,af,g⟩).run P w=.ok (.enter f vs.toArray) w:=by
  simp [execOp,resolve,Env.ev,Deferred.ofValue,invoke,harr,hc]
 rw [hr]
 refine jU (by simp) (jx (n0.mono (hs w (hw.sub (List.nil_sublist _)).pre) ?_))
 rintro x w' ⟨h',B,hst,rfl,bb,c,rfl,hG⟩
 exact ⟨h',_,(St.after (A:=[]) (F:=L) hw hst).perm List.perm_append_comm,t' bb c B hG⟩
theorem qH (A0 G Q:LH) {v:Value} {Φ : LH→Prop} {f:FuncId} {ass:Array Operand} {ats:Array TypeId} {vs:List Value}
  (hc:∀ args w,(callFunc f args).run P w=.ok (.enter f args) w) (hs:nX P f vs.toArray h G (fun r h' G'=>h'=h∧r=.returned v∧Φ G')) (hL:L=A0++(G++Q)) (hvs:ass.toList.map e.ev=vs)
  (t':∀ G',Φ G'→K (pute e d v) h (A0++(G'++Q)))
  (hg:guardB ops e ⟨d,.call ⟨.value (.func f),ass,ats⟩,ty,pos,af,g⟩=true:=by rfl):
  Stp P b n ops F ds X ⟨d,.call ⟨.value (.func f),ass,ats⟩,ty,pos,af,g⟩ e h L K:=by
 unfold Stp
 rw [if_pos hg]
 intro w hw
 subst hL
 have hp:∀ G:LH,(A0++(G++Q)).Perm (G++(A0++Q)):=fun G=>by
  rw [← List.append_assoc,← List.append_assoc];exact List.Perm.append_right Q List.perm_append_comm
 have hw':=hw.perm (hp G)
 have harr:ass.map e.ev=vs.toArray:=Array.ext' (by simp [← hvs])
 have hr:(execOp e.ev ⟨d,.call ⟨.value (.func f),ass,ats⟩,ty,pos,af,g⟩).run P w=.ok (.enter f vs.toArray) w:=by
  simp [execOp,resolve,Env.ev,Deferred.ofValue,invoke,harr,hc]
 rw [hr]
 refine jU (by simp) (jx (n0.mono (hs w hw'.pre.left) ?_))
 rintro x w' ⟨h',B,hst,rfl,rfl,hG⟩
 exact ⟨h',_,(St.after (A:=G) (F:=A0++Q) hw' hst).perm (hp B).symm,t' B hG⟩
end steps
end Go.Sg
