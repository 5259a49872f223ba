import Derived.Shelf.SlSortCmp.WholeK
import Derived.Ground.SlsfProg
import Derived.Shelf.Small.Bits
import Derived.Shelf.Small.Strs
import Derived.Shelf.Strconv.Itoa0
import Derived.Shelf.Strings.Search1
import Derived.Shelf.Sort.Plain
import Derived.Ground.Names2Prog
import Derived.Shelf.Slices.Clone
import Derived.Shelf.Slices.SearchI
import Derived.Shelf.Slices.In.SortNone
import Derived.Shelf.Slices.Empties
import Derived.Ground.SlgcProg
import Derived.Shelf.SlicesG.Cmp
import Derived.Test.YtngiefchigcphaaGreatDoorProg
import Derived.Sort.OwnSortedInts
import Derived.Test.YtngiefchigcphaaGreatDoorW1
import Derived.Test.YtngiefchigcphaaGreatDoorW2
import Derived.Test.YtngiefchigcphaaGreatDoorW3
import Derived.Test.YtngiefchigcphaaGreatDoorW4
import Derived.Test.YtngiefchigcphaaGreatDoorW5
import Derived.Test.YtngiefchigcphaaGreatDoorW6
import Derived.Test.YtngiefchigcphaaGreatDoorW7
/- A part of the proof of the law AsofMore: where what it reads holds at most 1048576 values and letters, the call returns true and its arguments read as they did. Conditions: that bound, and that the listed table starts as the program lays it. -/
set_option linter.unusedVariables false
set_option linter.unusedSimpArgs false
namespace Go.Sg
open Go.Proofs
set_option maxHeartbeats 2000000
set_option maxRecDepth 100000
set_option linter.unusedVariables false
theorem uv (h:HF) (t:Int)  : Ret Tryz.prog 173 [I t] h (.bool (fe t)):=by
 refine aw Tryz.func173 U Tryz.ntmps173 U fun X hM hX=>?_
 have hs0:fe t=fe t:=rfl
 refine sr (an (sr (aa (aF U (aa ?_)))))
 refine tq 3 [(8,.bool (decide (0≤t)&&decide (t < 1099511627776)))] (fun hk1=>?_) (fun e=>?_)
 ·refine au 5 U (fun c1=>?_) (fun c1=>?_)
  ·refine aa (aF U (ae U ?_))
   exact hk1 _ ⟨(cb (cY c1)),trivial⟩
  ·refine kq (ae U ?_)
   exact hk1 _ ⟨(cb (cZ c1)),trivial⟩
 refine an ?_
 exact ar [.bool (decide (0≤t)&&decide (t < 1099511627776))] Tryz.func173 U hX rd (cs hs0)
theorem mF (h:HF) (l:(List Int)) (fc:Option Addr) (fb:Nat) (limit:Int) (hl:SlC Rp.int h fc fb l):Ret Tryz.prog 174 [.slice fc l.length fb,I limit] h (.bool (cC l limit)):=by
 refine aw Tryz.func174 U Tryz.ntmps174 U fun X hM hX=>?_
 have hs0:cC l limit=cC l limit:=rfl
 refine sr (an (sr (an (ad (sr (aa (bE eG U (aa (ac ?_)))))))))
 refine bq (ι:=Nat×Int) (fun i=>[(0,.slice fc l.length fb)]) (fun i=>h) (fun i=>[]) (fun i=>i.1≤l.length∧cC l limit=((cC.K1 l) i.2)) ?_ (fun hx1=>?_)
 ·rintro ⟨i1,iY⟩ ⟨bd,hs1⟩ e
  try dsimp only at bd
  try dsimp only
  refine sr (aa (bE eG U (aF U (an ?_))))
  exact ar [.bool (decide (((l.length:Nat):Int)≤16))] Tryz.func174 U hX rd (cs hs1)
 ·refine ck (ι:=Nat×Int×List Int) (fun i=>[(0,.slice fc l.length fb),(1,I limit),(5,I i.2.1),(8,.slice fc l.length fb),(9,I ((l.length:Nat):Int)),(10,I ((i.1:Nat):Int))]) (fun i=>h) (fun i=>[]) (fun i=>l.drop i.1=i.2.2∧i.1≤l.length∧cC l limit=((cC.L1 limit (cC.K1 l)) i.2.2 i.2.1)) (fun i=>i.2.2.length) (0,(-1),l) rd sw ⟨U,Nat.zero_le _,hs0⟩ ?_
  rintro ⟨i1,iY,s1⟩ ⟨hd1,bd,hs3⟩ ag1 e
  try dsimp only at hd1 bd
  rcases s1 with _ | ⟨y1,rz1⟩
  ·have dJ:=cS hd1
   try dsimp only
   refine sr (az (v':=.bool false) U (cb dJ) (ac (ad (ba U (bM U ?_)))))
   exact hx1 (i1,iY) _ ⟨bd,hs3⟩ rd
  ·have dI:=dV hd1
   have bh:=cU hd1
   have e9:=aP hd1
   have gO:=hl.1.1
   try dsimp only
   refine sr (az (v':=.bool true) U (cb dI) (ac (ad (bj U (ai (ad (aU (sr (a8 (fZ (enc:=fun y=>[I y]) (fun _ _ _ e=>e) eG ty3 hl.1 (nthZ bh) (bA bh) U U U (fun q2 A2=>?_)))))))))))
   refine eM ty3 A2 U (an (ad (sr (aa (aa (aF U (aa ?_)))))))
   refine tq 4 [(0,.slice fc l.length fb),(1,I limit),(7,I y1),(8,.slice fc l.length fb),(9,I ((l.length:Nat):Int)),(10,I ((i1:Nat):Int)),(21,.bool (decide (y1≤iY)||decide (limit≤y1)))] (fun hk1=>?_) (fun e=>?_)
   ·refine au 17 U (fun c1=>?_) (fun c1=>?_)
    ·refine kq (bY (ae U ?_))
     exact hk1 _ ⟨U,U,U,U,U,U,(cb (eB c1)),trivial⟩
    ·refine aa (aa (aF U (ae U ?_)))
     exact hk1 _ ⟨U,U,U,U,U,U,(cb (eE c1)),trivial⟩
   refine ac ?_
   refine aB U (fun c2=>?_) (fun c2=>?_)
   ·have hs5:=hs3.trans (bt c2)
    refine sr (an ?_)
    exact ar [.bool false] Tryz.func174 U hX rd (cs hs5)
   ·have hs7:=hs3.trans (bf c2)
    refine ai (ah (aa (an (ao (ah (az (v':=I (((i1+1):Nat):Int)) U (bP ob) (aa (ac ?_))))))))
    exact ag1 ((i1+1),y1,rz1) _ (Nat.lt_succ_self _) ⟨bF hd1,aP hd1,hs7⟩ rd
theorem tC (h:HF) (d:Document) (uY:ii) (hd:Document.ok h d uY):Ret Tryz.prog 105 [.agg (Document.cells d uY).toArray] h (.bool (fX d)):=by
 refine aw Tryz.func105 U Tryz.ntmps105 U fun X hM hX=>?_
 have hs0:fX d=fX d:=rfl
 refine sr (dC (fun b1=>an (sr (ay kb U (aL 0 ty3 U U U (aF U (aa ?_)))))))
 refine tq 4 [(1,Q b1),(11,.bool (decide (0≤d.No)&&decide (d.No < 4096)))] (fun hk1=>?_) (fun e=>?_)
 ·refine au 7 U (fun c1=>?_) (fun c1=>?_)
  ·refine ay kb U (aL 0 ty3 U U U (aF U (ae U ?_)))
   exact hk1 _ ⟨U,(cb (cY c1)),trivial⟩
  ·refine kq (bY (ae U ?_))
   exact hk1 _ ⟨U,(cb (cZ c1)),trivial⟩
 refine aa ?_
 refine tq 4 [(1,Q b1),(16,.bool ((decide (0≤d.No)&&decide (d.No < 4096))&&(fe d.At)))] (fun hk2=>?_) (fun e=>?_)
 ·refine au 12 U (fun c2=>?_) (fun c2=>?_)
  ·refine ay oW U (aL 0 ty3 U U U (aA (v:=.bool (fe d.At)) Tryz.call173 (uv h d.At ) U (ae U ?_)))
   exact hk2 _ ⟨U,(cb (cY c2)),trivial⟩
  ·refine kq (bY (ae U ?_))
   exact hk2 _ ⟨U,(cb (cZ c2)),trivial⟩
 refine aa ?_
 refine tq 4 [(1,Q b1),(21,.bool (((decide (0≤d.No)&&decide (d.No < 4096))&&(fe d.At))&&decide (0≤d.Kind)))] (fun hk3=>?_) (fun e=>?_)
 ·refine au 17 U (fun c3=>?_) (fun c3=>?_)
  ·refine ay uj U (aL 0 ty3 U U U (aF U (ae U ?_)))
   exact hk3 _ ⟨U,(cb (cY c3)),trivial⟩
  ·refine kq (bY (ae U ?_))
   exact hk3 _ ⟨U,(cb (cZ c3)),trivial⟩
 refine aa ?_
 refine tq 4 [(1,Q b1),(26,.bool ((((decide (0≤d.No)&&decide (d.No < 4096))&&(fe d.At))&&decide (0≤d.Kind))&&decide (d.Kind < 16)))] (fun hk4=>?_) (fun e=>?_)
 ·refine au 22 U (fun c4=>?_) (fun c4=>?_)
  ·refine ay uj U (aL 0 ty3 U U U (aF U (ae U ?_)))
   exact hk4 _ ⟨U,(cb (cY c4)),trivial⟩
  ·refine kq (bY (ae U ?_))
   exact hk4 _ ⟨U,(cb (cZ c4)),trivial⟩
 refine aa ?_
 refine tq 4 [(1,Q b1),(31,.bool (((((decide (0≤d.No)&&decide (d.No < 4096))&&(fe d.At))&&decide (0≤d.Kind))&&decide (d.Kind < 16))&&decide (0≤d.Value)))] (fun hk5=>?_) (fun e=>?_)
 ·refine au 27 U (fun c5=>?_) (fun c5=>?_)
  ·refine ay ui U (aL 0 ty3 U U U (aF U (ae U ?_)))
   exact hk5 _ ⟨U,(cb (cY c5)),trivial⟩
  ·refine kq (bY (ae U ?_))
   exact hk5 _ ⟨U,(cb (cZ c5)),trivial⟩
 refine aa ?_
 refine tq 4 [(1,Q b1),(36,.bool ((((((decide (0≤d.No)&&decide (d.No < 4096))&&(fe d.At))&&decide (0≤d.Kind))&&decide (d.Kind < 16))&&decide (0≤d.Value))&&decide (d.Value≤1099511627776)))] (fun hk6=>?_) (fun e=>?_)
 ·refine au 32 U (fun c6=>?_) (fun c6=>?_)
  ·refine ay ui U (aL 0 ty3 U U U (aF U (ae U ?_)))
   exact hk6 _ ⟨U,(cb (cY c6)),trivial⟩
  ·refine kq (bY (ae U ?_))
   exact hk6 _ ⟨U,(cb (cZ c6)),trivial⟩
 refine an (sr (aa (aa ?_)))
 refine tq 4 [(1,Q b1),(42,.bool (((((((decide (0≤d.No)&&decide (d.No < 4096))&&(fe d.At))&&decide (0≤d.Kind))&&decide (d.Kind < 16))&&decide (0≤d.Value))&&decide (d.Value≤1099511627776))&&decide (0≤d.From)))] (fun hk7=>?_) (fun e=>?_)
 ·refine au 38 U (fun c7=>?_) (fun c7=>?_)
  ·refine ay wx U (aL 0 ty3 U U U (aF U (ae U ?_)))
   exact hk7 _ ⟨U,(cb (cY c7)),trivial⟩
  ·refine kq (bY (ae U ?_))
   exact hk7 _ ⟨U,(cb (cZ c7)),trivial⟩
 refine aa ?_
 refine tq 6 [(1,Q b1),(49,.bool ((((((((decide (0≤d.No)&&decide (d.No < 4096))&&(fe d.At))&&decide (0≤d.Kind))&&decide (d.Kind < 16))&&decide (0≤d.Value))&&decide (d.Value≤1099511627776))&&decide (0≤d.From))&&decide (d.From < d.Until)))] (fun hk8=>?_) (fun e=>?_)
 ·refine au 43 U (fun c8=>?_) (fun c8=>?_)
  ·refine ay wx U (aL 0 ty3 U U U (ay sj U (aL 0 ty3 U U U (aF U (ae U ?_)))))
   exact hk8 _ ⟨U,(cb (cY c8)),trivial⟩
  ·refine kq (kq (bY (ae U ?_)))
   exact hk8 _ ⟨U,(cb (cZ c8)),trivial⟩
 refine aa ?_
 refine tq 4 [(1,Q b1),(54,.bool (((((((((decide (0≤d.No)&&decide (d.No < 4096))&&(fe d.At))&&decide (0≤d.Kind))&&decide (d.Kind < 16))&&decide (0≤d.Value))&&decide (d.Value≤1099511627776))&&decide (0≤d.From))&&decide (d.From < d.Until))&&decide (d.Until≤1099511627776)))] (fun hk9=>?_) (fun e=>?_)
 ·refine au 50 U (fun c9=>?_) (fun c9=>?_)
  ·refine ay sj U (aL 0 ty3 U U U (aF U (ae U ?_)))
   exact hk9 _ ⟨U,(cb (cY c9)),trivial⟩
  ·refine kq (bY (ae U ?_))
   exact hk9 _ ⟨U,(cb (cZ c9)),trivial⟩
 refine aa ?_
 refine tq 4 [(1,Q b1),(59,.bool ((((((((((decide (0≤d.No)&&decide (d.No < 4096))&&(fe d.At))&&decide (0≤d.Kind))&&decide (d.Kind < 16))&&decide (0≤d.Value))&&decide (d.Value≤1099511627776))&&decide (0≤d.From))&&decide (d.From < d.Until))&&decide (d.Until≤1099511627776))&&(cC d.Parties 1048577)))] (fun hk10=>?_) (fun e=>?_)
 ·refine au 55 U (fun c10=>?_) (fun c10=>?_)
  ·refine ay wv U (aL 0 ty31 U U U (aA (v:=.bool (cC d.Parties 1048577)) Tryz.call174 (mF h d.Parties uY.jU uY.jT 1048577 hd.Parties) U (ae U ?_)))
   exact hk10 _ ⟨U,(cb (cY c10)),trivial⟩
  ·refine kq (bY (ae U ?_))
   exact hk10 _ ⟨U,(cb (cZ c10)),trivial⟩
 refine aa ?_
 refine tq 6 [(1,Q b1),(66,.bool (((((((((((decide (0≤d.No)&&decide (d.No < 4096))&&(fe d.At))&&decide (0≤d.Kind))&&decide (d.Kind < 16))&&decide (0≤d.Value))&&decide (d.Value≤1099511627776))&&decide (0≤d.From))&&decide (d.From < d.Until))&&decide (d.Until≤1099511627776))&&(cC d.Parties 1048577))&&(cC d.Revokes d.No)))] (fun hk11=>?_) (fun e=>?_)
 ·refine au 60 U (fun c11=>?_) (fun c11=>?_)
  ·refine ay si U (aL 0 ty31 U U U (ay kb U (aL 0 ty3 U U U (aA (v:=.bool (cC d.Revokes d.No)) Tryz.call174 (mF h d.Revokes uY.jy uY.jx d.No hd.Revokes) U (ae U ?_)))))
   exact hk11 _ ⟨U,(cb (cY c11)),trivial⟩
  ·refine kq (kq (bY (ae U ?_)))
   exact hk11 _ ⟨U,(cb (cZ c11)),trivial⟩
 refine aa ?_
 refine tq 6 [(73,.bool ((((((((((((decide (0≤d.No)&&decide (d.No < 4096))&&(fe d.At))&&decide (0≤d.Kind))&&decide (d.Kind < 16))&&decide (0≤d.Value))&&decide (d.Value≤1099511627776))&&decide (0≤d.From))&&decide (d.From < d.Until))&&decide (d.Until≤1099511627776))&&(cC d.Parties 1048577))&&(cC d.Revokes d.No))&&(cC d.Needs d.No)))] (fun hk12=>?_) (fun e=>?_)
 ·refine au 67 U (fun c12=>?_) (fun c12=>?_)
  ·refine ay sg U (aL 0 ty31 U U U (ay kb U (aL 0 ty3 U U U (aA (v:=.bool (cC d.Needs d.No)) Tryz.call174 (mF h d.Needs uY.kU uY.kT d.No hd.Needs) U (ae U ?_)))))
   exact hk12 _ ⟨(cb (cY c12)),trivial⟩
  ·refine kq (kq (bY (ae U ?_)))
   exact hk12 _ ⟨(cb (cZ c12)),trivial⟩
 refine an ?_
 exact ar [.bool ((((((((((((decide (0≤d.No)&&decide (d.No < 4096))&&(fe d.At))&&decide (0≤d.Kind))&&decide (d.Kind < 16))&&decide (0≤d.Value))&&decide (d.Value≤1099511627776))&&decide (0≤d.From))&&decide (d.From < d.Until))&&decide (d.Until≤1099511627776))&&(cC d.Parties 1048577))&&(cC d.Revokes d.No))&&(cC d.Needs d.No))] Tryz.func105 U hX rd (cs hs0)
theorem lI (h:HF) (no:Int) (v0:gE) (IX:nF) (v0_q:Addr) (hv0:gE.ok h v0 IX) (av0:At h v0_q (gE.cells v0 IX)):Ret Tryz.prog 175 [I no,.pointer (some v0_q)] h (.bool (dR no v0)):=by
 refine aw Tryz.func175 U Tryz.ntmps175 U fun X hM hX=>?_
 have hs0:dR no v0=dR no v0:=rfl
 refine sr (an (sr (ay CJ U (ns (j:=1) ty176 av0 U U (aa ?_)))))
 obtain ⟨o1,hb1,hm1⟩:=hv0.at_
 refine a8 (vq (k:=no) Tryz.underlying176 (e7 kx) hb1 hm1 (jr zv3) (show zi _ (I 0) 0 from U) U U (fun v1 hv1=>?_))
 obtain rfl:=hv1
 refine aa (bR U U (bR U U (bi (an (sr (aa (cR U (an ?_))))))))
 exact ar [.bool (!(mhas v0.at_ no))] Tryz.func175 U hX rd (cs hs0)
theorem mE (h:HF) (s:gE) (Jb:nF) (d:Document) (uY:ii) (hs:gE.ok h s Jb) (hd:Document.ok h d uY):Ret Tryz.prog 106 [.agg (gE.cells s Jb).toArray,.agg (Document.cells d uY).toArray] h (.bool (er s d)):=by
 refine aw Tryz.func106 U Tryz.ntmps106 U fun X hM hX=>?_
 have hs0:er s d=er s d:=rfl
 refine sr (dC (fun b1=>dC (fun b2=>an (sr (cn 1 U hM (fun h1 hle1 hb1=>a8 (gj U U (an (sr (ay si U (aL 0 ty31 U U U (aa (aA (v:=.bool (cH d.Revokes (fun cD=>dR cD s))) FS (iJ h1 d.Revokes uY.jy uY.jx (fun cD=>dR cD s) (.func (.func 175) #[] #[Q b1]) (hd.Revokes.mono Rp.cm hle1) (fun h' cD hle =>je Tryz.call175 (lI h' cD s Jb ⟨b1,0,none⟩  ((hs.mono hle1).mono hle) ((dP hb1).mono hle)))) U ?_)))))))))))))
 refine cR U (aa ?_)
 refine tq 6 [(18,.bool ((!(cH d.Revokes (fun cD=>dR cD s)))&&(!(cH d.Needs (fun cD=>dR cD s)))))] (fun hk1=>?_) (fun e=>?_)
 ·refine au 12 U (fun c1=>?_) (fun c1=>?_)
  ·refine ay sg U (aL 0 ty31 U U U (aa (aA (v:=.bool (cH d.Needs (fun cD=>dR cD s))) FS (iJ h1 d.Needs uY.kU uY.kT (fun cD=>dR cD s) (.func (.func 175) #[] #[Q b1]) (hd.Needs.mono Rp.cm hle1) (fun h' cD hle =>je Tryz.call175 (lI h' cD s Jb ⟨b1,0,none⟩  ((hs.mono hle1).mono hle) ((dP hb1).mono hle)))) U ?_)))
   refine cR U (ae U ?_)
   exact hk1 _ ⟨(cb (cY c1)),trivial⟩
  ·refine kq (kq (bY (ae U ?_)))
   exact hk1 _ ⟨(cb (cZ c1)),trivial⟩
 refine an ?_
 exact ar [.bool ((!(cH d.Revokes (fun cD=>dR cD s)))&&(!(cH d.Needs (fun cD=>dR cD s))))] Tryz.func106 U hX rd (cs hs0)
theorem tD (h:HF) (l:(List Document)) (fc:Option Addr) (fb:Nat) (hl:SlC Document.rp h fc fb l):Ret Tryz.prog 56 [.slice fc l.length fb] h (I (cj l)):=by
 refine aw FK U Tryz.ntmps56 U fun X hM hX=>?_
 have hs0:cj l=cj l:=rfl
 refine sr (an (ad (sr (aa (bE lB U (aF U (ac ?_)))))))
 refine aB U (fun c1=>?_) (fun c1=>?_)
 ·have c1p:=of_decide_eq_true c1
  have hs1:=hs0.trans (bt c1)
  refine sr (an ?_)
  exact ar [I 2] FK U hX rd (ci hs1)
 ·have c1p:=of_decide_eq_false c1
  have hs3:=hs0.trans (bf c1)
  refine ai (sr (aa (a8 (dp Tryz.call104 (qI h l fc fb hl) U (fun v1 h1 hle1 hp1=>?_)))))
  obtain ⟨rr1,rfl,ok1⟩:=hp1
  refine bT zc178 (fun b1=>bJ 0 ty178 U U U U U U (ac (ad (sr (aa (bE lB U (aa (ac ?_))))))))
  let z1:Nat×Obj:=(b1,O (gE.cells (bv l) rr1) 178)
  refine bq (ι:=Nat) (fun i=>[]) (fun i=>h1) (fun i=>[z1]) (fun i=>i≤l.length∧cj l=((cj.K1))) ?_ (fun hx1=>?_)
  ·rintro i1 ⟨bd,hs4⟩ e
   try dsimp only at bd
   try dsimp only
   refine sr (an ?_)
   exact ar [I 0] FK U hX rd (ci hs4)
  ·refine ck (ι:=Nat×List Document) (fun i=>[(0,.slice fc l.length fb),(3,Q b1),(11,.slice fc l.length fb),(12,I ((l.length:Nat):Int)),(13,I ((i.1:Nat):Int))]) (fun i=>h1) (fun i=>[z1]) (fun i=>l.drop i.1=i.2∧i.1≤l.length∧cj l=((cj.L1 l (cj.K1)) i.2 i.1)) (fun i=>i.2.length) (0,l) rd sw ⟨U,Nat.zero_le _,hs3⟩ ?_
   rintro ⟨i1,s1⟩ ⟨hd1,bd,hs6⟩ ag1 e
   try dsimp only at hd1 bd
   rcases s1 with _ | ⟨y1,rz1⟩
   ·have dJ:=cS hd1
    try dsimp only
    refine sr (az (v':=.bool false) U (cb dJ) (ac (ad (ba U (bM U ?_)))))
    exact hx1 i1 _ ⟨bd,hs6⟩ trivial
   ·have dI:=dV hd1
    have bh:=cU hd1
    have e9:=aP hd1
    have gO:=(hl.mono Document.aJ hle1).1.1
    try dsimp only
    refine sr (az (v':=.bool true) U (cb dI) (ac (ad (bj U (ai (ad (aU (sr (aa (a8 (gX lB ty52 (hl.mono Document.aJ hle1).1 (nthZ bh) (bA bh) U U U (fun q3 cs3 A3 ln3 rr4=>?_))))))))))))
    obtain ⟨r3,rfl,ok4⟩:=rr4
    refine dT ty52 A3 U U (bT zc52 (fun b3=>bi (bJ 0 ty52 U U U U U U (ac (ad ?_)))))
    refine mL [(0,.slice fc l.length fb),(3,Q b1),(11,.slice fc l.length fb),(12,I ((l.length:Nat):Int)),(13,I ((i1:Nat):Int)),(41,.bool (((!(fX y1))||(decide (0 < ((i1:Nat):Int))&&decide (y1.No≤(nthI l (((i1:Nat):Int) - 1)).No)))||(!(er (bv l) y1))))] (fun e=>?_) (fun hk1=>?_)
    rotate_left
    ·let z2:Nat×Obj:=(b3,O (Document.cells y1 r3) 52)
     refine gr ([z2,z1]) mixed kr jn (fun fd _=>?_)
     refine tf 0 U U (fun _ _ hj=>kZ ty52 U (hj.nth (i:=0) U) U) (tn 1 U (fU (v:=.bool (fX y1)) Tryz.call105 (tC h1 y1 r3 ok4) U (⟨jn,?_⟩)))
     refine tf 2 U U (fun _ _ _=>kH U) (tm 3 U ?_)
     refine eI 21 U (fun c2=>?_) (fun c2=>?_)
     ·refine tk 4 U U (tk 5 U U (tk 6 U U (tk 7 U U ?_)))
      refine tk 8 U U (tk 9 U U (tk 10 U U (tk 11 U U ?_)))
      refine tk 12 U U (tk 13 U U (tk 14 U U (tk 15 U U ?_)))
      refine tk 16 U U (tf 17 U U (fun _ _ _=>cr U) (tm 18 U ?_))
      refine tk 19 U U (tk 20 U U (tk 21 U U (tk 22 U U ?_)))
      refine tf 23 U U (fun _ _ _=>cr U) (cd kr ?_)
      exact hk1 _ ⟨U,U,U,U,U,(cb (show true=(((!(fX y1))||(decide (0 < ((i1:Nat):Int))&&decide (y1.No≤(nthI l (((i1:Nat):Int) - 1)).No)))||(!(er (bv l) y1))) from by rw [c2] <;> rfl)),trivial⟩
     ·refine tm 4 U (tf 5 U U (fun _ _ _=>iH U) (tm 6 U ?_))
      refine eI 24 U (fun c3=>?_) (fun c3=>?_)
      ·have c3p:=of_decide_eq_true c3
       refine tf 7 U U (fun _ _ _=>dO kb U) (tf 8 U U (fun _ _ hj=>hY ty3 U (hj.nth (i:=0) U) U) (tm 9 U ?_))
       refine tm 10 U (tf 11 U U (fun _ _ _=>nl (v':=I (((i1:Nat):Int) - 1)) U (iZ ob)) ?_)
       have ho2:0≤((((i1:Nat):Int) - 1):Int)∧((((i1:Nat):Int) - 1):Int) < ((l).length:Int):=ob
       refine jC 12 fd jn lB ty52 (hl.mono Document.aJ hle1).1 ho2 (eN ho2) U U U U kr (fun q4 cs4 A4 ln4 rr5=>?_)
       obtain ⟨r4,rfl,ok5⟩:=rr5
       refine tf 13 U U (fun _ _ _=>dO kb U) (tf 14 U U (fun _ _ hj=>gu ty3 (A4.mono hj.1) U) (tf 15 U U (fun _ _ _=>iH U) ?_))
       refine tf 16 U U (fun _ _ _=>cr U) (tf 17 U U (fun _ _ _=>cr U) (tm 18 U ?_))
       refine eI 36 U (fun c4=>?_) (fun c4=>?_)
       ·have c4p:=of_decide_eq_true c4
        refine tk 19 U U (tk 20 U U (tk 21 U U (tk 22 U U ?_)))
        refine tf 23 U U (fun _ _ _=>cr U) (cd kr ?_)
        exact hk1 _ ⟨U,U,U,U,U,(cb (show true=(((!(fX y1))||(decide (0 < ((i1:Nat):Int))&&decide (y1.No≤(nthI l (((i1:Nat):Int) - 1)).No)))||(!(er (bv l) y1))) from by rw [c2,c3,c4] <;> rfl)),trivial⟩
       ·have c4p:=of_decide_eq_false c4
        refine tf 19 U U (fun _ _ hj=>kZ ty178 U (hj.nth (i:=1) U) U) (tf 20 U U (fun _ _ hj=>kZ ty52 U (hj.nth (i:=0) U) U) ?_)
        refine tn 21 U (fU (v:=.bool (er (bv l) y1)) Tryz.call106 (mE h1 (bv l) rr1 y1 r3 ok1 ok4) U (⟨jn,?_⟩))
        refine tf 22 U U (fun _ _ _=>kH U) (tf 23 U U (fun _ _ _=>cr U) (cd kr ?_))
        exact hk1 _ ⟨U,U,U,U,U,(cb (show (!(er (bv l) y1))=(((!(fX y1))||(decide (0 < ((i1:Nat):Int))&&decide (y1.No≤(nthI l (((i1:Nat):Int) - 1)).No)))||(!(er (bv l) y1))) from by rw [c2,c3,c4] <;> rfl)),trivial⟩
      ·have c3p:=of_decide_eq_false c3
       refine tk 7 U U (tk 8 U U (tk 9 U U (tk 10 U U ?_)))
       refine tk 11 U U (tk 12 U U (tk 13 U U (tk 14 U U ?_)))
       refine tk 15 U U (tf 16 U U (fun _ _ _=>cr U) (tf 17 U U (fun _ _ _=>cr U) ?_))
       refine tm 18 U (tf 19 U U (fun _ _ hj=>kZ ty178 U (hj.nth (i:=1) U) U) (tf 20 U U (fun _ _ hj=>kZ ty52 U (hj.nth (i:=0) U) U) ?_))
       refine tn 21 U (fU (v:=.bool (er (bv l) y1)) Tryz.call106 (mE h1 (bv l) rr1 y1 r3 ok1 ok4) U (⟨jn,?_⟩))
       refine tf 22 U U (fun _ _ _=>kH U) (tf 23 U U (fun _ _ _=>cr U) (cd kr ?_))
       exact hk1 _ ⟨U,U,U,U,U,(cb (show (!(er (bv l) y1))=(((!(fX y1))||(decide (0 < ((i1:Nat):Int))&&decide (y1.No≤(nthI l (((i1:Nat):Int) - 1)).No)))||(!(er (bv l) y1))) from by rw [c2,c3] <;> rfl)),trivial⟩
    refine aB U (fun c5=>?_) (fun c5=>?_)
    ·have hs8:=hs6.trans (bt c5)
     refine sr (an ?_)
     exact ar [I 170] FK U hX rd (ci hs8)
    ·have hs10:=hs6.trans (bf c5)
     refine ai (ao (ah (az (v':=I (((i1+1):Nat):Int)) U (bP ob) (aa (ac ?_)))))
     refine cE (L':=[z1]) js ?_
     exact ag1 ((i1+1),rz1) _ (Nat.lt_succ_self _) ⟨bF hd1,aP hd1,hs10⟩ rd
theorem qK (h:HF) (dN:Int) (v0:Int) (v0_q:Addr) (av0:At h v0_q [I v0]):Ret Tryz.prog 226 [I dN,.pointer (some v0_q)] h (.bool (ib dN v0)):=by
 refine aw Tryz.func226 U Tryz.ntmps226 U fun X hM hX=>?_
 have hs0:ib dN v0=ib dN v0:=rfl
 refine sr (an (sr (aa (aF U (aa ?_)))))
 refine tq 4 [(10,.bool (decide (dN < 0)||decide (v0 < dN)))] (fun hk1=>?_) (fun e=>?_)
 ·refine au 6 U (fun c1=>?_) (fun c1=>?_)
  ·refine kq (bY (ae U ?_))
   exact hk1 _ ⟨(cb (eB c1)),trivial⟩
  ·refine aa (eM ty3 av0 U (aF U (ae U ?_)))
   exact hk1 _ ⟨(cb (eE c1)),trivial⟩
 refine an ?_
 exact ar [.bool (decide (dN < 0)||decide (v0 < dN))] Tryz.func226 U hX rd (cs hs0)
theorem jB (h:HF) (most:Int) (l:(List Int)) (fc:Option Addr) (fb:Nat) (hl:SlC Rp.int h fc fb l):Ret Tryz.prog 177 [I most,.slice fc l.length fb] h (.bool (cq most l)):=by
 refine aw Tryz.func177 U Tryz.ntmps177 U fun X hM hX=>?_
 have hs0:cq most l=cq most l:=rfl
 refine sr (dC (fun b1=>an (sr (aa (cn 0 U hM (fun h1 hle1 hb1=>a8 (gj U U (aA (v:=.bool (cH l (fun cD=>ib cD most))) FS (iJ h1 l fc fb (fun cD=>ib cD most) (.func (.func 226) #[] #[Q b1]) (hl.mono Rp.cm hle1) (fun h' cD hle =>je Tryz.call226 (qK h' cD most ⟨b1,0,none⟩  ((dP hb1).mono hle)))) U ?_))))))))
 refine cR U (an ?_)
 exact ar [.bool (!(cH l (fun cD=>ib cD most)))] Tryz.func177 U hX rd (cs hs0)
end Go.Sg
namespace Go.Sg
open Go.Proofs
set_option maxHeartbeats 2000000
set_option maxRecDepth 100000
set_option linter.unusedVariables false
theorem tG (h:HF) (x:Approval)  : Ret Tryz.prog 107 [.agg (Approval.cells x).toArray] h (.bool (iW x)):=by
 refine aw Tryz.func107 U Tryz.ntmps107 U fun X hM hX=>?_
 have hs0:iW x=iW x:=rfl
 refine sr (dC (fun b1=>an (sr (ay pG U (aL 0 ty3 U U U (a8 (cf (cells:=[I x.No]) eG ty3 zc3 U U kr (fun b2=>cn 0 U hM (fun h1 hle1 hb1=>?_)))))))))
 have sl1:SlC Rp.int h1 (some ⟨b2,0,none⟩) 1 ([x.No]):=bW.slB0 (T:=3) (fz:=(0,0)) ((show bW Rp.int h [I x.No] ([x.No]) from ⟨[I x.No],[],rfl,rfl,rfl,rfl⟩).mono Rp.cm hle1) hb1
 refine aA (v:=.bool (cq 1048576 ([x.No]))) D8 (jB h1 1048576 ([x.No]) (some ⟨b2,0,none⟩) 1 sl1) U (aa ?_)
 refine tq 7 [(1,Q b1),(14,.bool ((cq 1048576 ([x.No]))&&(cq 1099511627775 ([x.At,x.Known]))))] (fun hk1=>?_) (fun e=>?_)
 ·refine au 7 U (fun c1=>?_) (fun c1=>?_)
  ·refine ay CI U (aL 0 ty3 U U U (ay CH U (aL 0 ty3 U U U (a8 (cf (cells:=[I x.At,I x.Known]) eG ty3 zc3 U U kr (fun b3=>cn 0 U hM (fun h2 hle2 hb2=>?_)))))))
   have sl2:SlC Rp.int h2 (some ⟨b3,0,none⟩) 2 ([x.At,x.Known]):=bW.slB0 (T:=3) (fz:=(0,0)) ((show bW Rp.int h1 [I x.At,I x.Known] ([x.At,x.Known]) from ⟨[I x.At],[I x.Known],rfl,rfl,rfl,⟨[I x.Known],[],rfl,rfl,rfl,rfl⟩⟩).mono Rp.cm hle2) hb2
   refine aA (v:=.bool (cq 1099511627775 ([x.At,x.Known]))) D8 (jB h2 1099511627775 ([x.At,x.Known]) (some ⟨b3,0,none⟩) 2 sl2) U (ae U (kJ (h:=h1) hle2 hX hle1 ?_))
   exact hk1 _ ⟨U,(cb (cY c1)),trivial⟩
  ·refine kq (kq (kq (ae U ?_)))
   exact hk1 _ ⟨U,(cb (cZ c1)),trivial⟩
 refine aa ?_
 refine tq 5 [(1,Q b1),(20,.bool (((cq 1048576 ([x.No]))&&(cq 1099511627775 ([x.At,x.Known])))&&(cq 4095 ([x.Doc]))))] (fun hk2=>?_) (fun e=>?_)
 ·refine au 15 U (fun c2=>?_) (fun c2=>?_)
  ·refine ay CG U (aL 0 ty3 U U U (a8 (cf (cells:=[I x.Doc]) eG ty3 zc3 U U kr (fun b4=>cn 0 U hM (fun h3 hle3 hb3=>?_)))))
   have sl3:SlC Rp.int h3 (some ⟨b4,0,none⟩) 1 ([x.Doc]):=bW.slB0 (T:=3) (fz:=(0,0)) ((show bW Rp.int h1 [I x.Doc] ([x.Doc]) from ⟨[I x.Doc],[],rfl,rfl,rfl,rfl⟩).mono Rp.cm hle3) hb3
   refine aA (v:=.bool (cq 4095 ([x.Doc]))) D8 (jB h3 4095 ([x.Doc]) (some ⟨b4,0,none⟩) 1 sl3) U (ae U (kJ (h:=h1) hle3 hX hle1 ?_))
   exact hk2 _ ⟨U,(cb (cY c2)),trivial⟩
  ·refine kq (kq (ae U ?_))
   exact hk2 _ ⟨U,(cb (cZ c2)),trivial⟩
 refine aa ?_
 refine tq 7 [(1,Q b1),(28,.bool ((((cq 1048576 ([x.No]))&&(cq 1099511627775 ([x.At,x.Known])))&&(cq 4095 ([x.Doc])))&&(cq 63 ([x.By,x.For]))))] (fun hk3=>?_) (fun e=>?_)
 ·refine au 21 U (fun c3=>?_) (fun c3=>?_)
  ·refine ay CE U (aL 0 ty3 U U U (ay CD U (aL 0 ty3 U U U (a8 (cf (cells:=[I x.By,I x.For]) eG ty3 zc3 U U kr (fun b5=>cn 0 U hM (fun h4 hle4 hb4=>?_)))))))
   have sl4:SlC Rp.int h4 (some ⟨b5,0,none⟩) 2 ([x.By,x.For]):=bW.slB0 (T:=3) (fz:=(0,0)) ((show bW Rp.int h1 [I x.By,I x.For] ([x.By,x.For]) from ⟨[I x.By],[I x.For],rfl,rfl,rfl,⟨[I x.For],[],rfl,rfl,rfl,rfl⟩⟩).mono Rp.cm hle4) hb4
   refine aA (v:=.bool (cq 63 ([x.By,x.For]))) D8 (jB h4 63 ([x.By,x.For]) (some ⟨b5,0,none⟩) 2 sl4) U (ae U (kJ (h:=h1) hle4 hX hle1 ?_))
   exact hk3 _ ⟨U,(cb (cY c3)),trivial⟩
  ·refine kq (kq (kq (ae U ?_)))
   exact hk3 _ ⟨U,(cb (cZ c3)),trivial⟩
 refine aa ?_
 refine tq 5 [(34,.bool (((((cq 1048576 ([x.No]))&&(cq 1099511627775 ([x.At,x.Known])))&&(cq 4095 ([x.Doc])))&&(cq 63 ([x.By,x.For])))&&(cq 31 ([x.Office]))))] (fun hk4=>?_) (fun e=>?_)
 ·refine au 29 U (fun c4=>?_) (fun c4=>?_)
  ·refine ay CC U (aL 0 ty3 U U U (a8 (cf (cells:=[I x.Office]) eG ty3 zc3 U U kr (fun b6=>cn 0 U hM (fun h5 hle5 hb5=>?_)))))
   have sl5:SlC Rp.int h5 (some ⟨b6,0,none⟩) 1 ([x.Office]):=bW.slB0 (T:=3) (fz:=(0,0)) ((show bW Rp.int h1 [I x.Office] ([x.Office]) from ⟨[I x.Office],[],rfl,rfl,rfl,rfl⟩).mono Rp.cm hle5) hb5
   refine aA (v:=.bool (cq 31 ([x.Office]))) D8 (jB h5 31 ([x.Office]) (some ⟨b6,0,none⟩) 1 sl5) U (ae U (kJ (h:=h1) hle5 hX hle1 ?_))
   exact hk4 _ ⟨(cb (cY c4)),trivial⟩
  ·refine kq (kq (ae U ?_))
   exact hk4 _ ⟨(cb (cZ c4)),trivial⟩
 refine an ?_
 exact ar [.bool (((((cq 1048576 ([x.No]))&&(cq 1099511627775 ([x.At,x.Known])))&&(cq 4095 ([x.Doc])))&&(cq 63 ([x.By,x.For])))&&(cq 31 ([x.Office])))] Tryz.func107 U hX rd (cs hs0)
theorem tH (h:HF) (l:(List Approval)) (fc:Option Addr) (fb:Nat) (hl:SlC Approval.rp h fc fb l):Ret Tryz.prog 57 [.slice fc l.length fb] h (I (cz l)):=by
 refine aw FJ U Tryz.ntmps57 U fun X hM hX=>?_
 have hs0:cz l=cz l:=rfl
 refine sr (an (ad (sr (aa (bE sH U (aF U (ac ?_)))))))
 refine aB U (fun c1=>?_) (fun c1=>?_)
 ·have c1p:=of_decide_eq_true c1
  have hs1:=hs0.trans (bt c1)
  refine sr (an ?_)
  exact ar [I 2] FJ U hX rd (ci hs1)
 ·have c1p:=of_decide_eq_false c1
  have hs3:=hs0.trans (bf c1)
  refine ai (sr (an (ad (sr (aa (bE sH U (aa (ac ?_))))))))
  refine bq (ι:=Nat×Int) (fun i=>[]) (fun i=>h) (fun i=>[]) (fun i=>i.1≤l.length∧cz l=((cz.K1) i.2)) ?_ (fun hx1=>?_)
  ·rintro ⟨i1,gf⟩ ⟨bd,hs4⟩ e
   try dsimp only at bd
   try dsimp only
   refine sr (an ?_)
   exact ar [I 0] FJ U hX rd (ci hs4)
  ·refine ck (ι:=Nat×Int×List Approval) (fun i=>[(3,I i.2.1),(9,.slice fc l.length fb),(10,I ((l.length:Nat):Int)),(11,I ((i.1:Nat):Int))]) (fun i=>h) (fun i=>[]) (fun i=>l.drop i.1=i.2.2∧i.1≤l.length∧cz l=((cz.L1 (cz.K1)) i.2.2 i.2.1)) (fun i=>i.2.2.length) (0,(-1),l) rd sw ⟨U,Nat.zero_le _,hs3⟩ ?_
   rintro ⟨i1,gf,s1⟩ ⟨hd1,bd,hs6⟩ ag1 e
   try dsimp only at hd1 bd
   rcases s1 with _ | ⟨y1,rz1⟩
   ·have dJ:=cS hd1
    try dsimp only
    refine sr (az (v':=.bool false) U (cb dJ) (ac (ad (ba U (bM U ?_)))))
    exact hx1 (i1,gf) _ ⟨bd,hs6⟩ trivial
   ·have dI:=dV hd1
    have bh:=cU hd1
    have e9:=aP hd1
    have gO:=hl.1.1
    try dsimp only
    refine sr (az (v':=.bool true) U (cb dI) (ac (ad (bj U (ai (ad (aU (sr (a8 (fZ (enc:=Approval.cells) (fun _ _ _ e=>e) sH ty181 hl.1 (nthZ bh) (bA bh) U U U (fun q2 A2=>?_)))))))))))
    refine dT ty181 A2 U U (bT zc181 (fun b2=>bJ 0 ty181 U U U U U U (ac (ad (sr (dh 0 ty181 U U U (aA (v:=.bool (iW y1)) Tryz.call107 (tG h y1 ) U (cR U (aa ?_)))))))))
    refine tq 5 [(5,Q b2),(9,.slice fc l.length fb),(10,I ((l.length:Nat):Int)),(11,I ((i1:Nat):Int)),(23,.bool ((!(iW y1))||decide (y1.No≤gf)))] (fun hk1=>?_) (fun e=>?_)
    ·refine au 18 U (fun c2=>?_) (fun c2=>?_)
     ·refine kq (kq (ae U ?_))
      exact hk1 _ ⟨U,U,U,U,(cb (eB c2)),trivial⟩
     ·refine ay pG U (aL 0 ty3 U U U (aa (aF U (ae U ?_))))
      exact hk1 _ ⟨U,U,U,U,(cb (eE c2)),trivial⟩
    refine ac ?_
    refine aB U (fun c3=>?_) (fun c3=>?_)
    ·have hs8:=hs6.trans (bt c3)
     refine sr (an ?_)
     exact ar [I 280] FJ U hX rd (ci hs8)
    ·have hs10:=hs6.trans (bf c3)
     refine ai (ah (ay pG U (aL 0 ty3 U U U (an (ao (ah (az (v':=I (((i1+1):Nat):Int)) U (bP ob) (aa (ac ?_)))))))))
     refine cE (L':=[]) js ?_
     exact ag1 ((i1+1),y1.No,rz1) _ (Nat.lt_succ_self _) ⟨bF hd1,aP hd1,hs10⟩ rd
theorem rE (h:HF) (aT:Register) (aR:ep) (iX:Register.ok h aT aR) (hsm:smR aT) (hk:Kinds h):Ret Tryz.prog 26 [.agg (Register.cells aT aR).toArray] h (I (fa aT)):=by
 refine aw Tryz.func26 U Tryz.ntmps26 U fun X hM hX=>?_
 have hs0:fa aT=fa aT:=rfl
 have hsv:=hsm.vers
 refine sr (dC (fun b1=>an (ad (ad ?_))))
 let z1:Nat×Obj:=(b1,O (Register.cells aT aR) 30)
 refine gr ([z1]) mixed kr jn (fun fd _=>?_)
 refine tf 0 U U (fun _ _ _=>dO nE U) (tf 1 U U (fun _ _ hj=>hY ty22 U (hj.nth (i:=0) U) U) (tf 3 U U (fun _ _ _=>dO wB U) ?_))
 refine tf 4 U U (fun _ _ hj=>hY ty23 U (hj.nth (i:=0) U) U) (tf 6 U U (fun _ _ _=>dO mV U) (tf 7 U U (fun _ _ hj=>hY ty24 U (hj.nth (i:=0) U) U) ?_))
 refine tf 9 U U (fun _ _ _=>dO wA U) (tf 10 U U (fun _ _ hj=>hY ty25 U (hj.nth (i:=0) U) U) (tf 12 U U (fun _ _ _=>dO mA U) ?_))
 refine tf 13 U U (fun _ _ hj=>hY ty26 U (hj.nth (i:=0) U) U) (tf 15 U U (fun _ _ _=>dO lm U) (tf 16 U U (fun _ _ hj=>hY ty27 U (hj.nth (i:=0) U) U) ?_))
 refine tf 18 U U (fun _ _ _=>dO wz U) (tf 19 U U (fun _ _ hj=>hY ty28 U (hj.nth (i:=0) U) U) (tm 23 U ?_))
 refine tn 2 U (fU (v:=I (cx aT.Appoints)) Tryz.call51 (pt h aT.Appoints aR.gQ aR.gP iX.Appoints) U (⟨jn,?_⟩))
 refine tn 5 U (fU (v:=I (dg aT.Deputies)) Tryz.call52 (ux h aT.Deputies aR.fm aR.fj iX.Deputies) U (⟨jn,?_⟩))
 refine tn 8 U (fU (v:=I (bS aT.Interests)) Tryz.call53 (nW h aT.Interests aR.gN aR.gM iX.Interests) U (⟨jn,?_⟩))
 refine tn 11 U (fU (v:=I (dk aT.Budgets)) Tryz.call54 (u9 h aT.Budgets aR.fJ aR.fI iX.Budgets) U (⟨jn,?_⟩))
 refine tn 14 U (fU (v:=I (br aT.Versions)) Tryz.call55 (m6 h aT.Versions aR.gq aR.gp iX.Versions ob hk) U ?_)
 refine ⟨jn,(tn 17 U (fU (v:=I (cj aT.Docs)) Tryz.call56 (tD h aT.Docs aR.iB aR.iA iX.Docs) U ?_))⟩
 refine ⟨jn,(tn 20 U (fU (v:=I (cz aT.Approvals)) Tryz.call57 (tH h aT.Approvals aR.eY aR.eX iX.Approvals) U ?_))⟩
 refine ⟨jn,(tn 21 U (cf (cells:=[I (cx aT.Appoints),I (dg aT.Deputies),I (bS aT.Interests),I (dk aT.Budgets),I (br aT.Versions),I (cj aT.Docs),I (cz aT.Approvals)]) Tryz.underlying117 ty35 zc35 U U kr (fun b2=>?_)))⟩
 refine ⟨jn,(tf 22 U U (fun _ _ _=>Gp Tryz.underlying117 U) ?_)⟩
 refine cd kr ?_
 refine fV 0 U hM (fun h1 hle1 hb1=>?_)
 have sl1:SlC Rp.int h1 (some ⟨b2,0,none⟩) 7 ([(cx aT.Appoints),(dg aT.Deputies),(bS aT.Interests),(dk aT.Budgets),(br aT.Versions),(cj aT.Docs),(cz aT.Approvals)]):=bW.slB0 (T:=35) (fz:=(0,0)) ((show bW Rp.int h [I (cx aT.Appoints),I (dg aT.Deputies),I (bS aT.Interests),I (dk aT.Budgets),I (br aT.Versions),I (cj aT.Docs),I (cz aT.Approvals)] ([(cx aT.Appoints),(dg aT.Deputies),(bS aT.Interests),(dk aT.Budgets),(br aT.Versions),(cj aT.Docs),(cz aT.Approvals)]) from ⟨[I (cx aT.Appoints)],[I (dg aT.Deputies),I (bS aT.Interests),I (dk aT.Budgets),I (br aT.Versions),I (cj aT.Docs),I (cz aT.Approvals)],rfl,rfl,rfl,⟨[I (dg aT.Deputies)],[I (bS aT.Interests),I (dk aT.Budgets),I (br aT.Versions),I (cj aT.Docs),I (cz aT.Approvals)],rfl,rfl,rfl,⟨[I (bS aT.Interests)],[I (dk aT.Budgets),I (br aT.Versions),I (cj aT.Docs),I (cz aT.Approvals)],rfl,rfl,rfl,⟨[I (dk aT.Budgets)],[I (br aT.Versions),I (cj aT.Docs),I (cz aT.Approvals)],rfl,rfl,rfl,⟨[I (br aT.Versions)],[I (cj aT.Docs),I (cz aT.Approvals)],rfl,rfl,rfl,⟨[I (cj aT.Docs)],[I (cz aT.Approvals)],rfl,rfl,rfl,⟨[I (cz aT.Approvals)],[],rfl,rfl,rfl,rfl⟩⟩⟩⟩⟩⟩⟩).mono Rp.cm hle1) hb1
 refine bq (ι:=Nat) (fun i=>[]) (fun i=>h1) (fun i=>[z1]) (fun i=>i≤(List.range 7).length∧fa aT=((fa.K1))) ?_ (fun hx1=>?_)
 ·rintro i1 ⟨bd,hs1⟩ e
  try dsimp only at bd
  try dsimp only
  refine sr (an ?_)
  exact ar [I 0] Tryz.func26 U hX rd (ci hs1)
 ·refine ck (ι:=Nat×List Nat) (fun i=>[(26,.slice (some ⟨b2,0,none⟩) 7 7),(27,I 7),(28,I ((i.1:Nat):Int))]) (fun i=>h1) (fun i=>[z1]) (fun i=>(List.range 7).drop i.1=i.2∧i.1≤(List.range 7).length∧fa aT=((fa.L1 aT (fa.K1)) i.2 i.1)) (fun i=>i.2.length) (0,(List.range 7)) rd sw ⟨U,Nat.zero_le _,hs0⟩ ?_
  rintro ⟨i1,s1⟩ ⟨hd1,bd,hs3⟩ ag1 e
  try dsimp only at hd1 bd
  rcases s1 with _ | ⟨y1,rz1⟩
  ·have dJ:decide (((i1:Nat):Int) < 7)=false:=by simpa using cS hd1
   try dsimp only
   refine sr (az (v':=.bool false) U (cb dJ) (ac (ad (ba U (bM U ?_)))))
   exact hx1 i1 _ ⟨bd,hs3⟩ trivial
  ·have dI:decide (((i1:Nat):Int) < 7)=true:=by simpa using dV hd1
   have e9:i1 < 7:=by simpa using aP hd1
   try dsimp only
   refine sr (az (v':=.bool true) U (cb dI) (ac (ad (bj U (ai (ad (aU (sr ?_))))))))
   have ho2:0≤(((i1:Nat):Int):Int)∧(((i1:Nat):Int):Int) < (([(cx aT.Appoints),(dg aT.Deputies),(bS aT.Interests),(dk aT.Budgets),(br aT.Versions),(cj aT.Docs),(cz aT.Approvals)]).length:Int):=ob
   refine a8 (fZ (enc:=fun y=>[I y]) (fun _ _ _ e=>e) Tryz.underlying117 ty35 sl1.1 ho2 (eN ho2) U U U (fun q2 A2=>eM ty35 A2 U (an (sr (aa (aF U (ac ?_)))))))
   refine aB U (fun c2=>?_) (fun c2=>?_)
   ·have hs5:=hs3.trans (bt c2)
    refine sr (an ?_)
    exact ar [I 300] Tryz.func26 U hX rd (ci hs5)
   ·have hs7:=hs3.trans (bf c2)
    refine ai (ao (ah (az (v':=I (((i1+1):Nat):Int)) U (bP ob) ?_)))
    refine aa (ac ?_)
    exact ag1 ((i1+1),rz1) _ (Nat.lt_succ_self _) ⟨bF hd1,aP hd1,hs7⟩ rd
theorem uA (h:HF) (t:Int)  : Ret Tryz.prog 37 [I t] h (.bool (jK t)):=by
 refine aw Tryz.func37 U Tryz.ntmps37 U fun X hM hX=>?_
 have hs0:jK t=jK t:=rfl
 refine sr (an (sr (aa (aF U (aa ?_)))))
 refine tq 3 [(8,.bool (decide (0≤t)&&decide (t < 1099511627776)))] (fun hk1=>?_) (fun e=>?_)
 ·refine au 5 U (fun c1=>?_) (fun c1=>?_)
  ·refine aa (aF U (ae U ?_))
   exact hk1 _ ⟨(cb (cY c1)),trivial⟩
  ·refine kq (ae U ?_)
   exact hk1 _ ⟨(cb (cZ c1)),trivial⟩
 refine an ?_
 exact ar [.bool (decide (0≤t)&&decide (t < 1099511627776))] Tryz.func37 U hX rd (cs hs0)
theorem nk (h:HF) (s:(List Document)) (pP:Option Addr) (pi:Nat) (f:(Document→Bool)) (f_v:Value) (hs:SlC Document.rp h pP pi s) (hf:∀ (h':HF) (cD:Document) (H7:ii),HF.le h h'→Document.ok h' cD H7→vf Tryz.prog f_v [.agg (Document.cells cD H7).toArray] h' [] (.bool (f cD))):Ret Tryz.prog 58 [.slice pP s.length pi,f_v] h (I (ab s f)):=by
 refine aw Tryz.func58 U Tryz.ntmps58 U fun X hM hX=>?_
 have hs0:ab s f=ab s f:=rfl
 refine sr (an (ad (sr (aa (bE lB U (aa (ac ?_)))))))
 refine bq (ι:=Nat) (fun i=>[]) (fun i=>h) (fun i=>[]) (fun i=>i≤s.length∧ab s f=((ab.K1))) ?_ (fun hx1=>?_)
 ·rintro i1 ⟨bd,hs1⟩ e
  try dsimp only at bd
  try dsimp only
  refine sr (an ?_)
  exact ar [I (-1)] Tryz.func58 U hX rd (ci hs1)
 ·refine ck (ι:=Nat×List Document) (fun i=>[(0,.slice pP s.length pi),(1,f_v),(7,I ((s.length:Nat):Int)),(8,I ((i.1:Nat):Int))]) (fun i=>h) (fun i=>[]) (fun i=>s.drop i.1=i.2∧i.1≤s.length∧ab s f=((ab.L1 f (ab.K1)) i.2 i.1)) (fun i=>i.2.length) (0,s) rd sw ⟨U,Nat.zero_le _,hs0⟩ ?_
  rintro ⟨i1,s1⟩ ⟨hd1,bd,hs3⟩ ag1 e
  try dsimp only at hd1 bd
  rcases s1 with _ | ⟨y1,rz1⟩
  ·have dJ:=cS hd1
   try dsimp only
   refine sr (az (v':=.bool false) U (cb dJ) (ac (ad (ba U (bM U ?_)))))
   exact hx1 i1 _ ⟨bd,hs3⟩ trivial
  ·have dI:=dV hd1
   have bh:=cU hd1
   have e9:=aP hd1
   have gO:=hs.1.1
   try dsimp only
   refine sr (az (v':=.bool true) U (cb dI) (ac (ad (bj U (ai (ad (aU (sr (aa (an (sr (aa (aa (aa (a8 (gX lB ty52 hs.1 (nthZ bh) (bA bh) U U U (fun q2 cs2 A2 ln2 rr2=>?_)))))))))))))))))
   obtain ⟨r2,rfl,ok2⟩:=rr2
   refine dT ty52 A2 U U (a8 (nv (v:=.bool (f y1)) [] (List.nil_sublist _) (hf h y1 r2 (HF.le_refl _) ok2) U U (ac ?_)))
   refine aB U (fun c2=>?_) (fun c2=>?_)
   ·have hs5:=hs3.trans (bt c2)
    refine sr (aa (an ?_))
    exact ar [I ((i1:Nat):Int)] Tryz.func58 U hX rd (ci hs5)
   ·have hs7:=hs3.trans (bf c2)
    refine ai (ao (ah (az (v':=I (((i1+1):Nat):Int)) U (bP ob) (aa (ac ?_)))))
    exact ag1 ((i1+1),rz1) _ (Nat.lt_succ_self _) ⟨bF hd1,aP hd1,hs7⟩ rd
theorem uV (s:List Document) (f:Document→Bool):ab s f < (s.length:Int):=by
 have key:∀ (l:List Document) (i:Nat),ab.L1 f ab.K1 l i < ((i+l.length:Nat):Int):=by
  intro l
  induction l with
  | nil=>intro i;simp only [ab.L1,ab.K1];omega
  | cons y l ih=>
   intro i
   simp only [ab.L1,Bool.cond_eq_ite,List.length_cons]
   split
   ·omega
   ·have:=ih (i+1);omega
 have:=key s 0
 simpa [ab] using this
theorem zg (h:HF) (d:Document) (uY:ii) (v0:Int) (v0_q:Addr) (hd:Document.ok h d uY) (av0:At h v0_q [I v0]):Ret Tryz.prog 59 [.agg (Document.cells d uY).toArray,.pointer (some v0_q)] h (.bool (aG d v0)):=by
 refine aw Tryz.func59 U Tryz.ntmps59 U fun X hM hX=>?_
 have hs0:aG d v0=aG d v0:=rfl
 refine sr (dC (fun b1=>an (sr (ay kb U (aL 0 ty3 U U U (eM ty3 av0 U (aF U (an ?_))))))))
 exact ar [.bool (d.No==v0)] Tryz.func59 U hX rd (cs hs0)
theorem vS (h:HF) (aT:Register) (aR:ep) (doc:Int) (known:Int) (iX:Register.ok h aT aR):jP Tryz.prog 27 [.agg (Register.cells aT aR).toArray,I doc,I known] h (fun v h'=>∃ (rr0:gF),v=.tuple #[.agg (aS.cells ((cT aT doc known).1) rr0).toArray,.bool ((cT aT doc known).2)]∧aS.ok h' ((cT aT doc known).1) rr0):=by
 refine aw Tryz.func27 U Tryz.ntmps27 U fun X hM hX=>?_
 have hs0:cT aT doc known=cT aT doc known:=rfl
 refine sr (dC (fun b1=>dC (fun b2=>bT zc77 (fun b3=>an (sr (ay lm U (aL 2 ty27 U U U (cn 1 U hM (fun h1 hle1 hb1=>a8 (gj U U (aA (v:=I (ab aT.Docs (fun cD=>aG cD doc))) Tryz.call58 (nk h1 aT.Docs aR.iB aR.iA (fun cD=>aG cD doc) (.func (.func 59) #[] #[Q b2]) (iX.Docs.mono Document.aJ hle1) (fun h' cD H7 hle a0_o=>je Tryz.call59 (zg h' cD H7 doc ⟨b2,0,none⟩ a0_o ((dP hb1).mono hle)))) U ?_)))))))))))
 refine an (ad (sr (aa (aF U (aa ?_)))))
 refine tq 4 [(2,I known),(3,Q b1),(6,Q b3),(8,I (ab aT.Docs (fun cD=>aG cD doc))),(19,.bool (decide ((ab aT.Docs (fun cD=>aG cD doc)) < 0)||(!(jK known))))] (fun hk1=>?_) (fun e=>?_)
 ·refine au 15 U (fun c1=>?_) (fun c1=>?_)
  ·refine kq (bY (ae U ?_))
   exact hk1 _ ⟨U,U,U,U,(cb (eB c1)),trivial⟩
  ·refine aa (aA (v:=.bool (jK known)) Tryz.call37 (uA h1 known ) U (cR U (ae U ?_)))
   exact hk1 _ ⟨U,U,U,U,(cb (eE c1)),trivial⟩
 refine ac ?_
 refine aB U (fun c2=>?_) (fun c2=>?_)
 ·have hs1:=hs0.trans (bt c2)
  refine sr (dh 0 ty77 U U U (bJ 0 ty77 U U U U U U (an ?_)))
  have hs2:cT aT doc known=((aS.mk (Register.mk ([]) ([]) ([]) ([]) ([]) ([]) ([])) (Document.mk 0 0 0 0 0 0 ([]) ([]) ([]) (fun _=>0)) 0),false):=hs1
  exact dQ [.agg (List.toArray (.slice none 0 0::.slice none 0 0::.slice none 0 0::.slice none 0 0::.slice none 0 0::.slice none 0 0::.slice none 0 0::I 0::I 0::I 0::I 0::I 0::I 0::.slice none 0 0::.slice none 0 0::.slice none 0 0::Y 0::Y 0::Y 0::Y 0::Y 0::Y 0::Y 0::Y 0::Y 0::Y 0::Y 0::Y 0::Y 0::Y 0::Y 0::Y 0::Y 0::Y 0::Y 0::Y 0::Y 0::Y 0::Y 0::Y 0::Y 0::Y 0::Y 0::Y 0::Y 0::Y 0::Y 0::Y 0::I 0::[])),.bool false] Tryz.func27 U ⟨⟨0,_,_,_,_,U,U,.inl ⟨ty77,U⟩⟩,U,trivial⟩ ⟨(gF.mk (ep.mk none 0 none 0 none 0 none 0 none 0 none 0 none 0) (ii.mk none 0 none 0 none 0)),congrArg (fun r:(aS×Bool)=>(.tuple #[.agg (aS.cells r.1 (gF.mk (ep.mk none 0 none 0 none 0 none 0 none 0 none 0 none 0) (ii.mk none 0 none 0 none 0))).toArray,.bool r.2]:Value)) hs2.symm,(by rw [hs2];exact (show aS.ok h1 (aS.mk (Register.mk ([]) ([]) ([]) ([]) ([]) ([]) ([])) (Document.mk 0 0 0 0 0 0 ([]) ([]) ([]) (fun _=>0)) 0) (gF.mk (ep.mk none 0 none 0 none 0 none 0 none 0 none 0 none 0) (ii.mk none 0 none 0 none 0)) from ⟨(show Register.ok h1 (Register.mk ([]) ([]) ([]) ([]) ([]) ([]) ([])) (ep.mk none 0 none 0 none 0 none 0 none 0 none 0 none 0) from ⟨SlC.nil,SlC.nil,SlC.nil,SlC.nil,SlC.nil,SlC.nil,SlC.nil⟩),(show Document.ok h1 (Document.mk 0 0 0 0 0 0 ([]) ([]) ([]) (fun _=>0)) (ii.mk none 0 none 0 none 0) from ⟨SlC.nil,SlC.nil,SlC.nil⟩)⟩))⟩
 ·have hs3:=hs0.trans (bf c2)
  refine ai (ad ?_)
  let z1:Nat×Obj:=(b1,O (Register.cells aT aR) 30)
  refine gr ([z1]) mixed kr jn (fun fd _=>?_)
  refine tf 0 U U (fun _ _ hj=>kZ ty30 U (hj.nth (i:=0) U) U) (tf 1 U U (fun _ _ _=>dO lm U) ?_)
  refine tf 2 U U (fun _ _ hj=>hY ty27 U (hj.nth (i:=0) U) U) (tm 3 U ?_)
  have ho1:0≤((ab aT.Docs (fun cD=>aG cD doc)):Int)∧((ab aT.Docs (fun cD=>aG cD doc)):Int) < ((aT.Docs).length:Int):=(by have:=uV aT.Docs (fun cD=>aG cD doc);simp only [decide_eq_true_eq,decide_eq_false_iff_not,Bool.and_eq_true,Bool.or_eq_true,Bool.not_eq_true',Bool.not_eq_false',Bool.and_eq_false_iff,Bool.or_eq_false_iff,beq_iff_eq,beq_eq_false_iff_ne,bne_iff_ne,bne_eq_false_iff_eq,List.length_append,List.length_cons,List.length_nil,List.length_drop] at *;omega)
  refine jC 4 fd jn lB ty52 (iX.Docs.mono Document.aJ hle1).1 ho1 (eN ho1) U U U U kr (fun q1 cs1 A1 ln1 rr1=>?_)
  obtain ⟨r1,rfl,ok1⟩:=rr1
  refine tf 5 U U (fun _ _ hj=>j8 ty52 (A1.mono hj.1) U U) (tm 6 U ?_)
  refine tn 7 U (fO (cells:=[.slice aR.gQ aT.Appoints.length aR.gP,.slice aR.fm aT.Deputies.length aR.fj,.slice aR.gN aT.Interests.length aR.gM,.slice aR.fJ aT.Budgets.length aR.fI,.slice aR.gq aT.Versions.length aR.gp,.slice aR.iB aT.Docs.length aR.iA,.slice aR.eY aT.Approvals.length aR.eX,I ((nthI aT.Docs (ab aT.Docs (fun cD=>aG cD doc))).No),I ((nthI aT.Docs (ab aT.Docs (fun cD=>aG cD doc))).At),I ((nthI aT.Docs (ab aT.Docs (fun cD=>aG cD doc))).Kind),I ((nthI aT.Docs (ab aT.Docs (fun cD=>aG cD doc))).Value),I ((nthI aT.Docs (ab aT.Docs (fun cD=>aG cD doc))).From),I ((nthI aT.Docs (ab aT.Docs (fun cD=>aG cD doc))).Until),.slice r1.jU ((nthI aT.Docs (ab aT.Docs (fun cD=>aG cD doc))).Parties.length) r1.jT,.slice r1.jy ((nthI aT.Docs (ab aT.Docs (fun cD=>aG cD doc))).Revokes.length) r1.jx,.slice r1.kU ((nthI aT.Docs (ab aT.Docs (fun cD=>aG cD doc))).Needs.length) r1.kT,Y ((nthI aT.Docs (ab aT.Docs (fun cD=>aG cD doc))).Text 0),Y ((nthI aT.Docs (ab aT.Docs (fun cD=>aG cD doc))).Text 1),Y ((nthI aT.Docs (ab aT.Docs (fun cD=>aG cD doc))).Text 2),Y ((nthI aT.Docs (ab aT.Docs (fun cD=>aG cD doc))).Text 3),Y ((nthI aT.Docs (ab aT.Docs (fun cD=>aG cD doc))).Text 4),Y ((nthI aT.Docs (ab aT.Docs (fun cD=>aG cD doc))).Text 5),Y ((nthI aT.Docs (ab aT.Docs (fun cD=>aG cD doc))).Text 6),Y ((nthI aT.Docs (ab aT.Docs (fun cD=>aG cD doc))).Text 7),Y ((nthI aT.Docs (ab aT.Docs (fun cD=>aG cD doc))).Text 8),Y ((nthI aT.Docs (ab aT.Docs (fun cD=>aG cD doc))).Text 9),Y ((nthI aT.Docs (ab aT.Docs (fun cD=>aG cD doc))).Text 10),Y ((nthI aT.Docs (ab aT.Docs (fun cD=>aG cD doc))).Text 11),Y ((nthI aT.Docs (ab aT.Docs (fun cD=>aG cD doc))).Text 12),Y ((nthI aT.Docs (ab aT.Docs (fun cD=>aG cD doc))).Text 13),Y ((nthI aT.Docs (ab aT.Docs (fun cD=>aG cD doc))).Text 14),Y ((nthI aT.Docs (ab aT.Docs (fun cD=>aG cD doc))).Text 15),Y ((nthI aT.Docs (ab aT.Docs (fun cD=>aG cD doc))).Text 16),Y ((nthI aT.Docs (ab aT.Docs (fun cD=>aG cD doc))).Text 17),Y ((nthI aT.Docs (ab aT.Docs (fun cD=>aG cD doc))).Text 18),Y ((nthI aT.Docs (ab aT.Docs (fun cD=>aG cD doc))).Text 19),Y ((nthI aT.Docs (ab aT.Docs (fun cD=>aG cD doc))).Text 20),Y ((nthI aT.Docs (ab aT.Docs (fun cD=>aG cD doc))).Text 21),Y ((nthI aT.Docs (ab aT.Docs (fun cD=>aG cD doc))).Text 22),Y ((nthI aT.Docs (ab aT.Docs (fun cD=>aG cD doc))).Text 23),Y ((nthI aT.Docs (ab aT.Docs (fun cD=>aG cD doc))).Text 24),Y ((nthI aT.Docs (ab aT.Docs (fun cD=>aG cD doc))).Text 25),Y ((nthI aT.Docs (ab aT.Docs (fun cD=>aG cD doc))).Text 26),Y ((nthI aT.Docs (ab aT.Docs (fun cD=>aG cD doc))).Text 27),Y ((nthI aT.Docs (ab aT.Docs (fun cD=>aG cD doc))).Text 28),Y ((nthI aT.Docs (ab aT.Docs (fun cD=>aG cD doc))).Text 29),Y ((nthI aT.Docs (ab aT.Docs (fun cD=>aG cD doc))).Text 30),Y ((nthI aT.Docs (ab aT.Docs (fun cD=>aG cD doc))).Text 31),I known]) (places:=[(0,7),(7,41),(48,1)]) Tryz.underlying77 zc77 kr kr ?_)
  refine ⟨jn,(tn 8 U (wS 0 ty77 U U U U U U ?_))⟩
  refine ⟨jn,(tf 9 U U (fun _ _ _=>gG) ?_)⟩
  refine cd kr ?_
  have hs4:cT aT doc known=((aS.mk (Register.mk aT.Appoints aT.Deputies aT.Interests aT.Budgets aT.Versions aT.Docs aT.Approvals) (Document.mk ((nthI aT.Docs (ab aT.Docs (fun cD=>aG cD doc))).No) ((nthI aT.Docs (ab aT.Docs (fun cD=>aG cD doc))).At) ((nthI aT.Docs (ab aT.Docs (fun cD=>aG cD doc))).Kind) ((nthI aT.Docs (ab aT.Docs (fun cD=>aG cD doc))).Value) ((nthI aT.Docs (ab aT.Docs (fun cD=>aG cD doc))).From) ((nthI aT.Docs (ab aT.Docs (fun cD=>aG cD doc))).Until) ((nthI aT.Docs (ab aT.Docs (fun cD=>aG cD doc))).Parties) ((nthI aT.Docs (ab aT.Docs (fun cD=>aG cD doc))).Revokes) ((nthI aT.Docs (ab aT.Docs (fun cD=>aG cD doc))).Needs) ((nthI aT.Docs (ab aT.Docs (fun cD=>aG cD doc))).Text)) known),true):=hs3
  exact dQ [.agg (List.toArray (.slice aR.gQ aT.Appoints.length aR.gP::.slice aR.fm aT.Deputies.length aR.fj::.slice aR.gN aT.Interests.length aR.gM::.slice aR.fJ aT.Budgets.length aR.fI::.slice aR.gq aT.Versions.length aR.gp::.slice aR.iB aT.Docs.length aR.iA::.slice aR.eY aT.Approvals.length aR.eX::I ((nthI aT.Docs (ab aT.Docs (fun cD=>aG cD doc))).No)::I ((nthI aT.Docs (ab aT.Docs (fun cD=>aG cD doc))).At)::I ((nthI aT.Docs (ab aT.Docs (fun cD=>aG cD doc))).Kind)::I ((nthI aT.Docs (ab aT.Docs (fun cD=>aG cD doc))).Value)::I ((nthI aT.Docs (ab aT.Docs (fun cD=>aG cD doc))).From)::I ((nthI aT.Docs (ab aT.Docs (fun cD=>aG cD doc))).Until)::.slice r1.jU ((nthI aT.Docs (ab aT.Docs (fun cD=>aG cD doc))).Parties.length) r1.jT::.slice r1.jy ((nthI aT.Docs (ab aT.Docs (fun cD=>aG cD doc))).Revokes.length) r1.jx::.slice r1.kU ((nthI aT.Docs (ab aT.Docs (fun cD=>aG cD doc))).Needs.length) r1.kT::Y ((nthI aT.Docs (ab aT.Docs (fun cD=>aG cD doc))).Text 0)::Y ((nthI aT.Docs (ab aT.Docs (fun cD=>aG cD doc))).Text 1)::Y ((nthI aT.Docs (ab aT.Docs (fun cD=>aG cD doc))).Text 2)::Y ((nthI aT.Docs (ab aT.Docs (fun cD=>aG cD doc))).Text 3)::Y ((nthI aT.Docs (ab aT.Docs (fun cD=>aG cD doc))).Text 4)::Y ((nthI aT.Docs (ab aT.Docs (fun cD=>aG cD doc))).Text 5)::Y ((nthI aT.Docs (ab aT.Docs (fun cD=>aG cD doc))).Text 6)::Y ((nthI aT.Docs (ab aT.Docs (fun cD=>aG cD doc))).Text 7)::Y ((nthI aT.Docs (ab aT.Docs (fun cD=>aG cD doc))).Text 8)::Y ((nthI aT.Docs (ab aT.Docs (fun cD=>aG cD doc))).Text 9)::Y ((nthI aT.Docs (ab aT.Docs (fun cD=>aG cD doc))).Text 10)::Y ((nthI aT.Docs (ab aT.Docs (fun cD=>aG cD doc))).Text 11)::Y ((nthI aT.Docs (ab aT.Docs (fun cD=>aG cD doc))).Text 12)::Y ((nthI aT.Docs (ab aT.Docs (fun cD=>aG cD doc))).Text 13)::Y ((nthI aT.Docs (ab aT.Docs (fun cD=>aG cD doc))).Text 14)::Y ((nthI aT.Docs (ab aT.Docs (fun cD=>aG cD doc))).Text 15)::Y ((nthI aT.Docs (ab aT.Docs (fun cD=>aG cD doc))).Text 16)::Y ((nthI aT.Docs (ab aT.Docs (fun cD=>aG cD doc))).Text 17)::Y ((nthI aT.Docs (ab aT.Docs (fun cD=>aG cD doc))).Text 18)::Y ((nthI aT.Docs (ab aT.Docs (fun cD=>aG cD doc))).Text 19)::Y ((nthI aT.Docs (ab aT.Docs (fun cD=>aG cD doc))).Text 20)::Y ((nthI aT.Docs (ab aT.Docs (fun cD=>aG cD doc))).Text 21)::Y ((nthI aT.Docs (ab aT.Docs (fun cD=>aG cD doc))).Text 22)::Y ((nthI aT.Docs (ab aT.Docs (fun cD=>aG cD doc))).Text 23)::Y ((nthI aT.Docs (ab aT.Docs (fun cD=>aG cD doc))).Text 24)::Y ((nthI aT.Docs (ab aT.Docs (fun cD=>aG cD doc))).Text 25)::Y ((nthI aT.Docs (ab aT.Docs (fun cD=>aG cD doc))).Text 26)::Y ((nthI aT.Docs (ab aT.Docs (fun cD=>aG cD doc))).Text 27)::Y ((nthI aT.Docs (ab aT.Docs (fun cD=>aG cD doc))).Text 28)::Y ((nthI aT.Docs (ab aT.Docs (fun cD=>aG cD doc))).Text 29)::Y ((nthI aT.Docs (ab aT.Docs (fun cD=>aG cD doc))).Text 30)::Y ((nthI aT.Docs (ab aT.Docs (fun cD=>aG cD doc))).Text 31)::I known::[])),.bool true] Tryz.func27 U ⟨⟨0,_,_,_,_,U,U,.inl ⟨ty77,U⟩⟩,U,trivial⟩ ⟨(gF.mk (ep.mk aR.gQ aR.gP aR.fm aR.fj aR.gN aR.gM aR.fJ aR.fI aR.gq aR.gp aR.iB aR.iA aR.eY aR.eX) (ii.mk r1.jU r1.jT r1.jy r1.jx r1.kU r1.kT)),congrArg (fun r:(aS×Bool)=>(.tuple #[.agg (aS.cells r.1 (gF.mk (ep.mk aR.gQ aR.gP aR.fm aR.fj aR.gN aR.gM aR.fJ aR.fI aR.gq aR.gp aR.iB aR.iA aR.eY aR.eX) (ii.mk r1.jU r1.jT r1.jy r1.jx r1.kU r1.kT))).toArray,.bool r.2]:Value)) hs4.symm,(by rw [hs4];exact (show aS.ok h1 (aS.mk (Register.mk aT.Appoints aT.Deputies aT.Interests aT.Budgets aT.Versions aT.Docs aT.Approvals) (Document.mk ((nthI aT.Docs (ab aT.Docs (fun cD=>aG cD doc))).No) ((nthI aT.Docs (ab aT.Docs (fun cD=>aG cD doc))).At) ((nthI aT.Docs (ab aT.Docs (fun cD=>aG cD doc))).Kind) ((nthI aT.Docs (ab aT.Docs (fun cD=>aG cD doc))).Value) ((nthI aT.Docs (ab aT.Docs (fun cD=>aG cD doc))).From) ((nthI aT.Docs (ab aT.Docs (fun cD=>aG cD doc))).Until) ((nthI aT.Docs (ab aT.Docs (fun cD=>aG cD doc))).Parties) ((nthI aT.Docs (ab aT.Docs (fun cD=>aG cD doc))).Revokes) ((nthI aT.Docs (ab aT.Docs (fun cD=>aG cD doc))).Needs) ((nthI aT.Docs (ab aT.Docs (fun cD=>aG cD doc))).Text)) known) (gF.mk (ep.mk aR.gQ aR.gP aR.fm aR.fj aR.gN aR.gM aR.fJ aR.fI aR.gq aR.gp aR.iB aR.iA aR.eY aR.eX) (ii.mk r1.jU r1.jT r1.jy r1.jx r1.kU r1.kT)) from ⟨(show Register.ok h1 (Register.mk aT.Appoints aT.Deputies aT.Interests aT.Budgets aT.Versions aT.Docs aT.Approvals) (ep.mk aR.gQ aR.gP aR.fm aR.fj aR.gN aR.gM aR.fJ aR.fI aR.gq aR.gp aR.iB aR.iA aR.eY aR.eX) from ⟨(iX.Appoints.mono Appoint.aJ hle1),(iX.Deputies.mono Deputy.aJ hle1),(iX.Interests.mono Interest.aJ hle1),(iX.Budgets.mono Budget.aJ hle1),(iX.Versions.mono Version.aJ hle1),(iX.Docs.mono Document.aJ hle1),(iX.Approvals.mono Approval.aJ hle1)⟩),(show Document.ok h1 (Document.mk ((nthI aT.Docs (ab aT.Docs (fun cD=>aG cD doc))).No) ((nthI aT.Docs (ab aT.Docs (fun cD=>aG cD doc))).At) ((nthI aT.Docs (ab aT.Docs (fun cD=>aG cD doc))).Kind) ((nthI aT.Docs (ab aT.Docs (fun cD=>aG cD doc))).Value) ((nthI aT.Docs (ab aT.Docs (fun cD=>aG cD doc))).From) ((nthI aT.Docs (ab aT.Docs (fun cD=>aG cD doc))).Until) ((nthI aT.Docs (ab aT.Docs (fun cD=>aG cD doc))).Parties) ((nthI aT.Docs (ab aT.Docs (fun cD=>aG cD doc))).Revokes) ((nthI aT.Docs (ab aT.Docs (fun cD=>aG cD doc))).Needs) ((nthI aT.Docs (ab aT.Docs (fun cD=>aG cD doc))).Text)) (ii.mk r1.jU r1.jT r1.jy r1.jx r1.kU r1.kT) from ⟨ok1.Parties,ok1.Revokes,ok1.Needs⟩)⟩))⟩
theorem yA (h:HF) (who:(List Int)) (em:Option Addr) (el:Nat) (hwho:SlC Rp.int h em el who):Ret Tryz.prog 28 [.slice em who.length el] h (.bool (fP who)):=by
 refine aw Tryz.func28 U Tryz.ntmps28 U fun X hM hX=>?_
 have hs0:fP who=fP who:=rfl
 refine sr (an (sr (an (ad (sr (aa (bE eG U (aa (ac ?_)))))))))
 refine bq (ι:=Nat×Int) (fun i=>[]) (fun i=>h) (fun i=>[]) (fun i=>i.1≤who.length∧fP who=((fP.K1) i.2)) ?_ (fun hx1=>?_)
 ·rintro ⟨i1,gf⟩ ⟨bd,hs1⟩ e
  try dsimp only at bd
  try dsimp only
  refine sr (an ?_)
  exact ar [.bool true] Tryz.func28 U hX rd (cs hs1)
 ·refine ck (ι:=Nat×Int×List Int) (fun i=>[(3,I i.2.1),(6,.slice em who.length el),(7,I ((who.length:Nat):Int)),(8,I ((i.1:Nat):Int))]) (fun i=>h) (fun i=>[]) (fun i=>who.drop i.1=i.2.2∧i.1≤who.length∧fP who=((fP.L1 (fP.K1)) i.2.2 i.2.1)) (fun i=>i.2.2.length) (0,(-1),who) rd sw ⟨U,Nat.zero_le _,hs0⟩ ?_
  rintro ⟨i1,gf,s1⟩ ⟨hd1,bd,hs3⟩ ag1 e
  try dsimp only at hd1 bd
  rcases s1 with _ | ⟨y1,rz1⟩
  ·have dJ:=cS hd1
   try dsimp only
   refine sr (az (v':=.bool false) U (cb dJ) (ac (ad (ba U (bM U ?_)))))
   exact hx1 (i1,gf) _ ⟨bd,hs3⟩ trivial
  ·have dI:=dV hd1
   have bh:=cU hd1
   have e9:=aP hd1
   have gO:=hwho.1.1
   try dsimp only
   refine sr (az (v':=.bool true) U (cb dI) (ac (ad (bj U (ai (ad (aU (sr (a8 (fZ (enc:=fun y=>[I y]) (fun _ _ _ e=>e) eG ty3 hwho.1 (nthZ bh) (bA bh) U U U (fun q2 A2=>?_)))))))))))
   refine eM ty3 A2 U (an (ad (sr (aa (aa (aF U (aa ?_)))))))
   refine tq 3 [(5,I y1),(6,.slice em who.length el),(7,I ((who.length:Nat):Int)),(8,I ((i1:Nat):Int)),(18,.bool (decide (y1≤gf)||decide (64≤y1)))] (fun hk1=>?_) (fun e=>?_)
   ·refine au 15 U (fun c1=>?_) (fun c1=>?_)
    ·refine kq (ae U ?_)
     exact hk1 _ ⟨U,U,U,U,(cb (eB c1)),trivial⟩
    ·refine aa (aF U (ae U ?_))
     exact hk1 _ ⟨U,U,U,U,(cb (eE c1)),trivial⟩
   refine ac ?_
   refine aB U (fun c2=>?_) (fun c2=>?_)
   ·have hs5:=hs3.trans (bt c2)
    refine sr (an ?_)
    exact ar [.bool false] Tryz.func28 U hX rd (cs hs5)
   ·have hs7:=hs3.trans (bf c2)
    refine ai (ah (aa (an (ao (ah (az (v':=I (((i1+1):Nat):Int)) U (bP ob) (aa (ac ?_))))))))
    exact ag1 ((i1+1),y1,rz1) _ (Nat.lt_succ_self _) ⟨bF hd1,aP hd1,hs7⟩ rd
end Go.Sg
namespace Go.Sg
open Go.Proofs
set_option maxRecDepth 100000
theorem mR.length {κ α : Type} {enc:κ→Value} {V:HF→Value→α→Prop} {h:HF}:∀ {es:List MapEntry} {m:List (κ×α)},mR enc V h es m→es.length=m.length
 | [],[],_=>rfl
 | _::_,(_,_)::_,⟨_,_,c⟩=>by simp [mR.length c]
 | [],_::_,x=>x.elim
 | _::_,[],x=>x.elim
theorem pZ {κ : Type} [Inhabited κ] (ks:List κ) (is:List Nat) (hn:is.Nodup) (hlt:∀ i∈is,i < ks.length) (hall:∀ i,i < ks.length→i∈is):(is.map fun i=>(ks[i]?).getD default).Perm ks:=by
 have h1:is.Perm (List.range ks.length):=(List.perm_ext_iff_of_nodup hn List.nodup_range).2 (fun i=>by rw [List.mem_range];exact ⟨hlt i,hall i⟩)
 refine (h1.map _).trans (List.Perm.of_eq ?_)
 apply List.ext_getElem (by simp)
 intro i h2 h3
 simp at h2
 simp [List.getElem?_eq_getElem h2]
theorem rm {κ : Type} [Inhabited κ] (ks:List κ) (is:List Nat) (hn:is.Nodup) (hlt:∀ i∈is,i < ks.length):∃ rest,((is.map fun i=>(ks[i]?).getD default)++rest).Perm ks:=by
 let js:=(List.range ks.length).filter fun i=>!is.contains i
 have hd:(is++js).Nodup:=by
  rw [List.nodup_append]
  refine ⟨hn,List.nodup_range.filter _,fun a ha b hb e=>?_⟩
  subst e
  simp [js] at hb
  exact hb.2 ha
 refine ⟨js.map fun i=>(ks[i]?).getD default,?_⟩
 rw [← List.map_append]
 refine pZ ks (is++js) hd (fun i hi=>?_) (fun i hi=>?_)
 ·rcases List.mem_append.1 hi with h | h
  ·exact hlt i h
  ·simp [js] at h;exact h.1
 ·by_cases hm:i∈is
  ·exact List.mem_append_left _ hm
  ·exact List.mem_append_right _ (by simp [js,hi,hm])
theorem sC (h:HF) (m:List (Int×Bool)) (bk:Nat) (q:Addr) (hm:ou (Value.int .i64) ir h bk m) (aq:At h q [.map (some bk)]):
  vh Tryz.prog (.func (.func 109) #[] #[.pointer (some q)]) (fun k _ vs=>vs=[(Value.int .i64) k]) (fun xs=>xs.Perm (m.map (·.1))) h:=by
 refine ⟨109,[.pointer (some q)],rfl,Tryz.call109,?_⟩
 intro yf ya yb C Sp Pn h1 A hle m1 m2 m3 hC hy
 obtain ⟨o,hb,m0,hpm,hnd0,es,clock,rfl,hE,hP,hcl⟩:=hm.mono ir.mono hle
 have hnod:(es.map (·.born)).Nodup:=hP.imp (fun h=>Nat.ne_of_lt h)
 have hkeys:=hE.keys
 have hlen:es.length=(m0.map (·.1)).length:=by rw [hE.length];simp
 let ks:=m0.map (·.1)
 let kf:Nat→Int:=fun i=>(ks[i]?).getD default
 let bf:Nat→Nat:=fun i=>(es[i]?.map (·.born)).getD 0
 have hkey:∀ (i:Nat) (en:MapEntry),es[i]? = some en→en.key=(Value.int .i64) (kf i):=by
  intro i en hi
  have h2:(es.map (·.key))[i]? = some en.key:=by simp [hi]
  rw [hkeys] at h2
  simp only [List.getElem?_map] at h2
  simp only [kf,ks,List.getElem?_map]
  cases hq:m0[i]? with
  | none=>rw [hq] at h2;simp at h2
  | some p=>rw [hq] at h2;simp at h2;simp [← h2]
 refine kE (args:=[.func yf ya yb]) (cap:=[.pointer (some q)]) Tryz.call109 ?_
 refine jW FI rfl Tryz.ntmps109 rfl fun X hXM hX=>?_
 refine ad (ah (eM ty120 (aq.mono hle) rfl (a8 (Am kW hb rfl (fun it=>ac ?_)))))
 refine bq (ι:=List Nat×LH×HF) (fun i=>[]) (fun i=>i.2.2) (fun i=>[(it,Obj.mapIter (some bk) clock (List.toArray (i.1.map bf)) clock)]++i.2.1) (fun i=>(i.1.Nodup∧(∀ j∈i.1,j < es.length)∧(∀ j,j < es.length→j∈i.1))∧C (i.1.map kf) i.2.2 i.2.1) ?_ (fun hx=>?_)
 ·rintro ⟨js,A1,h2⟩ ⟨⟨hn,hl,ha⟩,hC1⟩ e
  exact uE FI (fun a _ w _=>kF rfl a w) (fun w hw=>hw.sub (List.sublist_append_right _ _)) (.inl ⟨rfl,.inl ⟨_,(pZ ks js hn (fun i hi=>by rw [← hlen];exact hl i hi) (fun i hi=>ha i (by rw [hlen];exact hi))).trans (hpm.map _),hC1⟩⟩)
 refine ck (ι:=List Nat×LH×HF) (fun i=>[(0,.func yf ya yb),(5,.pointer (some ⟨it,0,none⟩))]) (fun i=>i.2.2) (fun i=>[(it,Obj.mapIter (some bk) clock (List.toArray (i.1.map bf)) clock)]++i.2.1) (fun i=>i.1.Nodup∧(∀ j∈i.1,j < es.length)∧C (i.1.map kf) i.2.2 i.2.1∧HF.le h1 i.2.2) (fun i=>es.length - i.1.length) ([],A,h1) ⟨rfl,rfl,trivial⟩ (fun w hw=>hw) ⟨List.nodup_nil,fun _ hj=>(List.not_mem_nil hj).elim,hC,HF.le_refl _⟩ ?_
 rintro ⟨js,A1,h2⟩ ⟨hn,hl,hC1,hle2⟩ ag e
 dsimp only at hn hl hC1 hle2
 have hlp:=ry hnod js hl
 show TT _ _ _ _ _ (upds e [(0,.func yf ya yb),(5,.pointer (some ⟨it,0,none⟩))]) _ _ h2 ([(it,Obj.mapIter (some bk) clock (List.toArray (js.map bf)) clock)]++A1)
 refine ad (ah (a8 (DD 0 rfl (hle2 _ _ hb) (fun x hx=>hcl x (by simpa using hx)) (Nat.le_refl _) rfl (fun h0=>?_) (fun en hen=>?_))))
 ·refine bR rfl rfl (ac (ad (ba rfl (bM rfl ?_))))
  exact hx (js,A1,h2) _ ⟨⟨hn,hl,hlp.1 h0⟩,hC1⟩ trivial
 ·obtain ⟨i,hi,hni⟩:=hlp.2 en hen
  have hil:i < es.length:=by
   rcases Nat.lt_or_ge i es.length with h3 | h3
   ·exact h3
   ·simp [List.getElem?_eq_none h3] at hi
  have hmem:en∈es.toArray.toList:=by simpa using List.mem_of_getElem? hi
  have hn':(js++[i]).Nodup:=by
   rw [List.nodup_append];exact ⟨hn,by simp,fun a ha b hb' e'=>by simp at hb';subst hb';subst e';exact hni ha⟩
  have hl':∀ j∈js++[i],j < es.length:=fun j hj=>by
   rcases List.mem_append.1 hj with h3 | h3
   ·exact hl j h3
   ·simp at h3;subst h3;exact hil
  obtain ⟨rest,hrest⟩:=rm ks (js++[i]) hn' (fun j hj=>by rw [← hlen];exact hl' j hj)
  have qH:js.length+1≤es.length:=by
   have h9:=hrest.length_eq
   rw [List.length_append,List.length_map,List.length_append] at h9
   have h10:ks.length=es.length:=hlen.symm
   simp only [List.length_cons,List.length_nil] at h9
   omega
  have hrest':(js.map kf++kf i::rest).Perm (m.map (·.1)):=by
   rw [List.map_append,List.append_assoc] at hrest
   exact List.Perm.trans hrest (hpm.map _)
  obtain ⟨ekey,evl,eborn⟩:=en
  have hk':ekey=(Value.int .i64) (kf i):=hkey i _ hi
  subst hk'
  refine bR rfl rfl (ac ?_)
  refine ad (bj rfl (ai (aU ?_)))
  refine ad (ah ?_)
  refine a8 (gW (Av 0 rfl (hle2 _ _ hb) hmem (by simpa using hnod) rfl) ?_)
  refine bR rfl rfl (bi (ac ?_))
  refine ad (ah (aa (aa ?_)))
  refine a8 (lL [(it,Obj.mapIter (some bk) clock ((List.toArray (js.map bf)).push eborn) clock)] A1 rfl (hy (js.map kf) (kf i) [(Value.int .i64) (kf i)] h2 A1 ⟨rest,hrest'⟩ hle2 hC1 rfl) rfl rfl (fun h3 B hle3 hC3=>?_) (fun h3 B hle3 hS3=>?_) (fun ch h3 B hle3 hP3 e'=>?_))
  ·refine cR rfl (ac (ba rfl (ai (ao ?_))))
   have hpush:((List.toArray (js.map bf)).push eborn)=List.toArray ((js++[i]).map bf):=by simp [bf,hi]
   rw [hpush]
   refine ag (js++[i],B,h3) _ (by show es.length - (js++[i]).length < es.length - js.length;rw [List.length_append];simp only [List.length_cons,List.length_nil];omega) ⟨hn',hl',by simpa using hC3,HF.le_trans hle2 hle3⟩ ⟨rfl,rfl,trivial⟩
  ·refine cR rfl (ac (bj rfl ?_))
   exact nj FI (fun a _ w _=>kF rfl a w) (fun w hw=>hw.sub (List.sublist_append_right _ _)) (.inl ⟨rfl,.inr hS3⟩)
  ·exact DA FI (fun w hw=>hw.sub (List.sublist_append_right _ _)) (.inr ⟨ch,rfl,hP3⟩)
theorem qb (h:HF) (m:List (Int×Version)) (bk:Nat) (q:Addr) (hm:ou (Value.int .i64) (kp Version.rp) h bk m) (aq:At h q [.map (some bk)]):
  vh Tryz.prog (.func (.func 209) #[] #[.pointer (some q)]) (fun k _ vs=>vs=[(Value.int .i64) k]) (fun xs=>xs.Perm (m.map (·.1))) h:=by
 refine ⟨209,[.pointer (some q)],rfl,Tryz.call209,?_⟩
 intro yf ya yb C Sp Pn h1 A hle m1 m2 m3 hC hy
 obtain ⟨o,hb,m0,hpm,hnd0,es,clock,rfl,hE,hP,hcl⟩:=hm.mono (kp.mono Version.aJ) hle
 have hnod:(es.map (·.born)).Nodup:=hP.imp (fun h=>Nat.ne_of_lt h)
 have hkeys:=hE.keys
 have hlen:es.length=(m0.map (·.1)).length:=by rw [hE.length];simp
 let ks:=m0.map (·.1)
 let kf:Nat→Int:=fun i=>(ks[i]?).getD default
 let bf:Nat→Nat:=fun i=>(es[i]?.map (·.born)).getD 0
 have hkey:∀ (i:Nat) (en:MapEntry),es[i]? = some en→en.key=(Value.int .i64) (kf i):=by
  intro i en hi
  have h2:(es.map (·.key))[i]? = some en.key:=by simp [hi]
  rw [hkeys] at h2
  simp only [List.getElem?_map] at h2
  simp only [kf,ks,List.getElem?_map]
  cases hq:m0[i]? with
  | none=>rw [hq] at h2;simp at h2
  | some p=>rw [hq] at h2;simp at h2;simp [← h2]
 refine kE (args:=[.func yf ya yb]) (cap:=[.pointer (some q)]) Tryz.call209 ?_
 refine jW FH rfl Tryz.ntmps209 rfl fun X hXM hX=>?_
 refine ad (ah (eM ty203 (aq.mono hle) rfl (a8 (Am FG hb rfl (fun it=>ac ?_)))))
 refine bq (ι:=List Nat×LH×HF) (fun i=>[]) (fun i=>i.2.2) (fun i=>[(it,Obj.mapIter (some bk) clock (List.toArray (i.1.map bf)) clock)]++i.2.1) (fun i=>(i.1.Nodup∧(∀ j∈i.1,j < es.length)∧(∀ j,j < es.length→j∈i.1))∧C (i.1.map kf) i.2.2 i.2.1) ?_ (fun hx=>?_)
 ·rintro ⟨js,A1,h2⟩ ⟨⟨hn,hl,ha⟩,hC1⟩ e
  exact uE FH (fun a _ w _=>kF rfl a w) (fun w hw=>hw.sub (List.sublist_append_right _ _)) (.inl ⟨rfl,.inl ⟨_,(pZ ks js hn (fun i hi=>by rw [← hlen];exact hl i hi) (fun i hi=>ha i (by rw [hlen];exact hi))).trans (hpm.map _),hC1⟩⟩)
 refine ck (ι:=List Nat×LH×HF) (fun i=>[(0,.func yf ya yb),(5,.pointer (some ⟨it,0,none⟩))]) (fun i=>i.2.2) (fun i=>[(it,Obj.mapIter (some bk) clock (List.toArray (i.1.map bf)) clock)]++i.2.1) (fun i=>i.1.Nodup∧(∀ j∈i.1,j < es.length)∧C (i.1.map kf) i.2.2 i.2.1∧HF.le h1 i.2.2) (fun i=>es.length - i.1.length) ([],A,h1) ⟨rfl,rfl,trivial⟩ (fun w hw=>hw) ⟨List.nodup_nil,fun _ hj=>(List.not_mem_nil hj).elim,hC,HF.le_refl _⟩ ?_
 rintro ⟨js,A1,h2⟩ ⟨hn,hl,hC1,hle2⟩ ag e
 dsimp only at hn hl hC1 hle2
 have hlp:=ry hnod js hl
 show TT _ _ _ _ _ (upds e [(0,.func yf ya yb),(5,.pointer (some ⟨it,0,none⟩))]) _ _ h2 ([(it,Obj.mapIter (some bk) clock (List.toArray (js.map bf)) clock)]++A1)
 refine ad (ah (a8 (DD 0 rfl (hle2 _ _ hb) (fun x hx=>hcl x (by simpa using hx)) (Nat.le_refl _) rfl (fun h0=>?_) (fun en hen=>?_))))
 ·refine bR rfl rfl (ac (ad (ba rfl (bM rfl ?_))))
  exact hx (js,A1,h2) _ ⟨⟨hn,hl,hlp.1 h0⟩,hC1⟩ trivial
 ·obtain ⟨i,hi,hni⟩:=hlp.2 en hen
  have hil:i < es.length:=by
   rcases Nat.lt_or_ge i es.length with h3 | h3
   ·exact h3
   ·simp [List.getElem?_eq_none h3] at hi
  have hmem:en∈es.toArray.toList:=by simpa using List.mem_of_getElem? hi
  have hn':(js++[i]).Nodup:=by
   rw [List.nodup_append];exact ⟨hn,by simp,fun a ha b hb' e'=>by simp at hb';subst hb';subst e';exact hni ha⟩
  have hl':∀ j∈js++[i],j < es.length:=fun j hj=>by
   rcases List.mem_append.1 hj with h3 | h3
   ·exact hl j h3
   ·simp at h3;subst h3;exact hil
  obtain ⟨rest,hrest⟩:=rm ks (js++[i]) hn' (fun j hj=>by rw [← hlen];exact hl' j hj)
  have qH:js.length+1≤es.length:=by
   have h9:=hrest.length_eq
   rw [List.length_append,List.length_map,List.length_append] at h9
   have h10:ks.length=es.length:=hlen.symm
   simp only [List.length_cons,List.length_nil] at h9
   omega
  have hrest':(js.map kf++kf i::rest).Perm (m.map (·.1)):=by
   rw [List.map_append,List.append_assoc] at hrest
   exact List.Perm.trans hrest (hpm.map _)
  obtain ⟨ekey,evl,eborn⟩:=en
  have hk':ekey=(Value.int .i64) (kf i):=hkey i _ hi
  subst hk'
  refine bR rfl rfl (ac ?_)
  refine ad (bj rfl (ai (aU ?_)))
  refine ad (ah ?_)
  refine a8 (gW (Av 0 rfl (hle2 _ _ hb) hmem (by simpa using hnod) rfl) ?_)
  refine bR rfl rfl (bi (ac ?_))
  refine ad (ah (aa (aa ?_)))
  refine a8 (lL [(it,Obj.mapIter (some bk) clock ((List.toArray (js.map bf)).push eborn) clock)] A1 rfl (hy (js.map kf) (kf i) [(Value.int .i64) (kf i)] h2 A1 ⟨rest,hrest'⟩ hle2 hC1 rfl) rfl rfl (fun h3 B hle3 hC3=>?_) (fun h3 B hle3 hS3=>?_) (fun ch h3 B hle3 hP3 e'=>?_))
  ·refine cR rfl (ac (ba rfl (ai (ao ?_))))
   have hpush:((List.toArray (js.map bf)).push eborn)=List.toArray ((js++[i]).map bf):=by simp [bf,hi]
   rw [hpush]
   refine ag (js++[i],B,h3) _ (by show es.length - (js++[i]).length < es.length - js.length;rw [List.length_append];simp only [List.length_cons,List.length_nil];omega) ⟨hn',hl',by simpa using hC3,HF.le_trans hle2 hle3⟩ ⟨rfl,rfl,trivial⟩
  ·refine cR rfl (ac (bj rfl ?_))
   exact nj FH (fun a _ w _=>kF rfl a w) (fun w hw=>hw.sub (List.sublist_append_right _ _)) (.inl ⟨rfl,.inr hS3⟩)
  ·exact DA FH (fun w hw=>hw.sub (List.sublist_append_right _ _)) (.inr ⟨ch,rfl,hP3⟩)
theorem qc (h:HF) (m:List (OSeat×Appoint)) (bk:Nat) (q:Addr) (hm:ou OSeat.enc (kp Appoint.rp) h bk m) (aq:At h q [.map (some bk)]):
  vh Tryz.prog (.func (.func 212) #[] #[.pointer (some q)]) (fun k _ vs=>vs=[OSeat.enc k]) (fun xs=>xs.Perm (m.map (·.1))) h:=by
 refine ⟨212,[.pointer (some q)],rfl,Tryz.call212,?_⟩
 intro yf ya yb C Sp Pn h1 A hle m1 m2 m3 hC hy
 obtain ⟨o,hb,m0,hpm,hnd0,es,clock,rfl,hE,hP,hcl⟩:=hm.mono (kp.mono Appoint.aJ) hle
 have hnod:(es.map (·.born)).Nodup:=hP.imp (fun h=>Nat.ne_of_lt h)
 have hkeys:=hE.keys
 have hlen:es.length=(m0.map (·.1)).length:=by rw [hE.length];simp
 let ks:=m0.map (·.1)
 let kf:Nat→OSeat:=fun i=>(ks[i]?).getD default
 let bf:Nat→Nat:=fun i=>(es[i]?.map (·.born)).getD 0
 have hkey:∀ (i:Nat) (en:MapEntry),es[i]? = some en→en.key=OSeat.enc (kf i):=by
  intro i en hi
  have h2:(es.map (·.key))[i]? = some en.key:=by simp [hi]
  rw [hkeys] at h2
  simp only [List.getElem?_map] at h2
  simp only [kf,ks,List.getElem?_map]
  cases hq:m0[i]? with
  | none=>rw [hq] at h2;simp at h2
  | some p=>rw [hq] at h2;simp at h2;simp [← h2]
 refine kE (args:=[.func yf ya yb]) (cap:=[.pointer (some q)]) Tryz.call212 ?_
 refine jW FF rfl Tryz.ntmps212 rfl fun X hXM hX=>?_
 refine ad (ah (eM ty159 (aq.mono hle) rfl (a8 (Am FE hb rfl (fun it=>ac ?_)))))
 refine bq (ι:=List Nat×LH×HF) (fun i=>[]) (fun i=>i.2.2) (fun i=>[(it,Obj.mapIter (some bk) clock (List.toArray (i.1.map bf)) clock)]++i.2.1) (fun i=>(i.1.Nodup∧(∀ j∈i.1,j < es.length)∧(∀ j,j < es.length→j∈i.1))∧C (i.1.map kf) i.2.2 i.2.1) ?_ (fun hx=>?_)
 ·rintro ⟨js,A1,h2⟩ ⟨⟨hn,hl,ha⟩,hC1⟩ e
  exact uE FF (fun a _ w _=>kF rfl a w) (fun w hw=>hw.sub (List.sublist_append_right _ _)) (.inl ⟨rfl,.inl ⟨_,(pZ ks js hn (fun i hi=>by rw [← hlen];exact hl i hi) (fun i hi=>ha i (by rw [hlen];exact hi))).trans (hpm.map _),hC1⟩⟩)
 refine ck (ι:=List Nat×LH×HF) (fun i=>[(0,.func yf ya yb),(5,.pointer (some ⟨it,0,none⟩))]) (fun i=>i.2.2) (fun i=>[(it,Obj.mapIter (some bk) clock (List.toArray (i.1.map bf)) clock)]++i.2.1) (fun i=>i.1.Nodup∧(∀ j∈i.1,j < es.length)∧C (i.1.map kf) i.2.2 i.2.1∧HF.le h1 i.2.2) (fun i=>es.length - i.1.length) ([],A,h1) ⟨rfl,rfl,trivial⟩ (fun w hw=>hw) ⟨List.nodup_nil,fun _ hj=>(List.not_mem_nil hj).elim,hC,HF.le_refl _⟩ ?_
 rintro ⟨js,A1,h2⟩ ⟨hn,hl,hC1,hle2⟩ ag e
 dsimp only at hn hl hC1 hle2
 have hlp:=ry hnod js hl
 show TT _ _ _ _ _ (upds e [(0,.func yf ya yb),(5,.pointer (some ⟨it,0,none⟩))]) _ _ h2 ([(it,Obj.mapIter (some bk) clock (List.toArray (js.map bf)) clock)]++A1)
 refine ad (ah (a8 (DD 0 rfl (hle2 _ _ hb) (fun x hx=>hcl x (by simpa using hx)) (Nat.le_refl _) rfl (fun h0=>?_) (fun en hen=>?_))))
 ·refine bR rfl rfl (ac (ad (ba rfl (bM rfl ?_))))
  exact hx (js,A1,h2) _ ⟨⟨hn,hl,hlp.1 h0⟩,hC1⟩ trivial
 ·obtain ⟨i,hi,hni⟩:=hlp.2 en hen
  have hil:i < es.length:=by
   rcases Nat.lt_or_ge i es.length with h3 | h3
   ·exact h3
   ·simp [List.getElem?_eq_none h3] at hi
  have hmem:en∈es.toArray.toList:=by simpa using List.mem_of_getElem? hi
  have hn':(js++[i]).Nodup:=by
   rw [List.nodup_append];exact ⟨hn,by simp,fun a ha b hb' e'=>by simp at hb';subst hb';subst e';exact hni ha⟩
  have hl':∀ j∈js++[i],j < es.length:=fun j hj=>by
   rcases List.mem_append.1 hj with h3 | h3
   ·exact hl j h3
   ·simp at h3;subst h3;exact hil
  obtain ⟨rest,hrest⟩:=rm ks (js++[i]) hn' (fun j hj=>by rw [← hlen];exact hl' j hj)
  have qH:js.length+1≤es.length:=by
   have h9:=hrest.length_eq
   rw [List.length_append,List.length_map,List.length_append] at h9
   have h10:ks.length=es.length:=hlen.symm
   simp only [List.length_cons,List.length_nil] at h9
   omega
  have hrest':(js.map kf++kf i::rest).Perm (m.map (·.1)):=by
   rw [List.map_append,List.append_assoc] at hrest
   exact List.Perm.trans hrest (hpm.map _)
  obtain ⟨ekey,evl,eborn⟩:=en
  have hk':ekey=OSeat.enc (kf i):=hkey i _ hi
  subst hk'
  refine bR rfl rfl (ac ?_)
  refine ad (bj rfl (ai (aU ?_)))
  refine ad (ah ?_)
  refine a8 (gW (Av 0 rfl (hle2 _ _ hb) hmem (by simpa using hnod) rfl) ?_)
  refine bR rfl rfl (bT zc212 (fun b3=>bJ 0 ty212 rfl rfl rfl rfl rfl rfl (ac ?_)))
  refine ad (ah (aa (dh 0 ty212 rfl rfl rfl ?_)))
  refine a8 (lL [(b3,Obj.cells (OSeat.cells (kf i)).toArray 212 (0,0)),(it,Obj.mapIter (some bk) clock ((List.toArray (js.map bf)).push eborn) clock)] A1 rfl (hy (js.map kf) (kf i) [OSeat.enc (kf i)] h2 A1 ⟨rest,hrest'⟩ hle2 hC1 rfl) rfl rfl (fun h3 B hle3 hC3=>?_) (fun h3 B hle3 hS3=>?_) (fun ch h3 B hle3 hP3 e'=>?_))
  ·refine cR rfl (ac (ba rfl (ai (ao ?_))))
   have hpush:((List.toArray (js.map bf)).push eborn)=List.toArray ((js++[i]).map bf):=by simp [bf,hi]
   rw [hpush]
   refine cE (L':=[(it,Obj.mapIter (some bk) clock (List.toArray ((js++[i]).map bf)) clock)]++B) (.cons _ (List.Sublist.refl _)) ?_
   refine ag (js++[i],B,h3) _ (by show es.length - (js++[i]).length < es.length - js.length;rw [List.length_append];simp only [List.length_cons,List.length_nil];omega) ⟨hn',hl',by simpa using hC3,HF.le_trans hle2 hle3⟩ ⟨rfl,rfl,trivial⟩
  ·refine cR rfl (ac (bj rfl ?_))
   exact nj FF (fun a _ w _=>kF rfl a w) (fun w hw=>hw.sub (List.sublist_append_right _ _)) (.inl ⟨rfl,.inr hS3⟩)
  ·exact DA FF (fun w hw=>hw.sub (List.sublist_append_right _ _)) (.inr ⟨ch,rfl,hP3⟩)
end Go.Sg
namespace Go.Proofs
open Go.Shelf
def Tryz.Cc:Go.Shelf.Ren:=⟨fun | 137=>279 | 217=>281 | 266=>282 | n=>n,fun | 9=>9 | 5=>5 | 3=>3 | n=>n,fun | n=>n⟩
theorem Tryz.lays137:Go.Proofs.Lays.n137 Tryz.prog Tryz.Cc:={
 mixed:=by kernel_rfl
 f137:=Tryz.func279.trans (congrArg some (by kernel_rfl))
 f217:=Tryz.func281.trans (congrArg some (by kernel_rfl))
 f266:=Tryz.func282.trans (congrArg some (by kernel_rfl))
 t3:=Tryz.underlying3
 a3:=Tryz.isAgg3
 z3:=Tryz.sizeOf3
 v3:=Tryz.zeroValue3
 t5:=Tryz.underlying5
 a5:=Tryz.isAgg5
 z5:=Tryz.sizeOf5
 v5:=Tryz.zeroValue5
 t9:=Tryz.underlying9
 a9:=Tryz.isAgg9
 z9:=Tryz.sizeOf9
 v9:=Tryz.zeroValue9 }
open Go.RowKit in
theorem Tryz.strings_IndexByte (s:ByteArray) (c:Int) (w:World):
  Calls Tryz.prog 279 #[.string s,.int .u8 c] w fun e w'=>e=.returned (.int .i64 (Lib.indexByte s.data.toList c.toNat.toUInt8))∧w'=w:=Any.strings_IndexByte Tryz.lays137 s c w
open Go.RowKit Go.Lib in
def Tryz.Cb:Go.Shelf.Ren:=⟨fun | 189=>41 | 125=>80 | 257=>79 | 128=>138 | 129=>139 | 294=>129 | 295=>130 | 296=>131 | 297=>132 | 298=>133 | 299=>134 | 216=>135 | 300=>136 | 301=>137 | 328=>203 | 329=>204 | 330=>205 | 331=>206 | 332=>207 | 215=>208 | 343=>238 | n=>n,fun | 28=>31 | 3=>3 | 46=>136 | 0=>0 | 51=>199 | 53=>201 | 4=>4 | 183=>193 | 182=>192 | 131=>153 | 5=>5 | 9=>9 | 218=>240 | 222=>244 | 228=>271 | 229=>272 | n=>n,fun | n=>n⟩
theorem Tryz.lays189:Go.Proofs.Lays.n189 Tryz.prog Tryz.Cb:={
 mixed:=by kernel_rfl
 f125:=Tryz.func80.trans (congrArg some (by kernel_rfl))
 f128:=Tryz.func138.trans (congrArg some (by kernel_rfl))
 f129:=Tryz.func139.trans (congrArg some (by kernel_rfl))
 f189:=Tryz.func41.trans (congrArg some (by kernel_rfl))
 f215:=Tryz.func208.trans (congrArg some (by kernel_rfl))
 f216:=Tryz.func135.trans (congrArg some (by kernel_rfl))
 f257:=Tryz.func79.trans (congrArg some (by kernel_rfl))
 f294:=Tryz.func129.trans (congrArg some (by kernel_rfl))
 f295:=Tryz.func130.trans (congrArg some (by kernel_rfl))
 f296:=Tryz.func131.trans (congrArg some (by kernel_rfl))
 f297:=Tryz.func132.trans (congrArg some (by kernel_rfl))
 f298:=Tryz.func133.trans (congrArg some (by kernel_rfl))
 f299:=Tryz.func134.trans (congrArg some (by kernel_rfl))
 f300:=Tryz.func136.trans (congrArg some (by kernel_rfl))
 f301:=Tryz.func137.trans (congrArg some (by kernel_rfl))
 f328:=Tryz.func203.trans (congrArg some (by kernel_rfl))
 f329:=Tryz.func204.trans (congrArg some (by kernel_rfl))
 f330:=Tryz.func205.trans (congrArg some (by kernel_rfl))
 f331:=Tryz.func206.trans (congrArg some (by kernel_rfl))
 f332:=Tryz.func207.trans (congrArg some (by kernel_rfl))
 f343:=Tryz.func238.trans (congrArg some (by kernel_rfl))
 t0:=Tryz.underlying0
 a0:=Tryz.isAgg0
 z0:=Tryz.sizeOf0
 v0:=Tryz.zeroValue0
 t3:=Tryz.underlying3
 a3:=Tryz.isAgg3
 z3:=Tryz.sizeOf3
 v3:=Tryz.zeroValue3
 t4:=Tryz.underlying4
 a4:=Tryz.isAgg4
 z4:=Tryz.sizeOf4
 v4:=Tryz.zeroValue4
 t5:=Tryz.underlying5
 a5:=Tryz.isAgg5
 z5:=Tryz.sizeOf5
 v5:=Tryz.zeroValue5
 t9:=Tryz.underlying9
 a9:=Tryz.isAgg9
 z9:=Tryz.sizeOf9
 v9:=Tryz.zeroValue9
 t28:=Tryz.underlying31
 a28:=Tryz.isAgg31
 z28:=Tryz.sizeOf31
 v28:=Tryz.zeroValue31
 t46:=Tryz.underlying136
 a46:=Tryz.isAgg136
 z46:=Tryz.sizeOf136
 v46:=Tryz.zeroValue136
 t51:=Tryz.underlying199
 a51:=Tryz.isAgg199
 z51:=Tryz.sizeOf199
 v51:=Tryz.zeroValue199
 t53:=Tryz.underlying201
 a53:=Tryz.isAgg201
 z53:=Tryz.sizeOf201
 v53:=Tryz.zeroValue201
 t131:=Tryz.underlying153
 a131:=Tryz.isAgg153
 z131:=Tryz.sizeOf153
 v131:=Tryz.zeroValue153
 t182:=Tryz.underlying192
 a182:=Tryz.isAgg192
 z182:=Tryz.sizeOf192
 v182:=Tryz.zeroValue192
 t183:=Tryz.underlying193
 a183:=Tryz.isAgg193
 z183:=Tryz.sizeOf193
 v183:=Tryz.zeroValue193
 t218:=Tryz.underlying240
 a218:=Tryz.isAgg240
 z218:=Tryz.sizeOf240
 v218:=Tryz.zeroValue240
 t222:=Tryz.underlying244
 a222:=Tryz.isAgg244
 z222:=Tryz.sizeOf244
 v222:=Tryz.zeroValue244
 t228:=Tryz.underlying271
 a228:=Tryz.isAgg271
 z228:=Tryz.sizeOf271
 v228:=Tryz.zeroValue271
 t229:=Tryz.underlying272
 a229:=Tryz.isAgg272
 z229:=Tryz.sizeOf272
 v229:=Tryz.zeroValue272 }
open Go.Sort Go.RowKit in
theorem Tryz.slices_Sort_int (blk off cap:Nat) (zs:List Int) (w:World) (hH:Holds (Value.int .i64) w blk off zs.toArray) (hblk:blk < w.heap.size) (hsz:zs.length < 4611686018427387904):
  Calls Tryz.prog 41 #[.slice (some ⟨blk,off,none⟩) zs.length cap] w fun e w'=>
   e=.returned (.tuple #[])∧∃ n os,w'=grow (putRow (Value.int .i64) (Sort.ahead w n) blk off (zs.mergeSort fun x y=>decide (x≤y)).toArray) os:=Any.slices_Sort_int Tryz.lays189 blk off cap zs w hH hblk hsz
def Tryz.yX:Go.Shelf.Ren:=⟨fun | 15=>40 | n=>n,fun | 22=>31 | 3=>3 | 4=>4 | n=>n,fun | n=>n⟩
theorem Tryz.laysNm215:Go.Proofs.Lays2.n15 Tryz.prog Tryz.yX:={
 mixed:=by kernel_rfl
 f15:=Tryz.func40.trans (congrArg some (by kernel_rfl))
 t3:=Tryz.underlying3
 a3:=Tryz.isAgg3
 z3:=Tryz.sizeOf3
 v3:=Tryz.zeroValue3
 t4:=Tryz.underlying4
 a4:=Tryz.isAgg4
 z4:=Tryz.sizeOf4
 v4:=Tryz.zeroValue4
 t22:=Tryz.underlying31
 a22:=Tryz.isAgg31
 z22:=Tryz.sizeOf31
 v22:=Tryz.zeroValue31
 i3:=by kernel_rfl }
open Go.RowKit Go.Lib in
theorem Tryz.slices_Clone_int (b off n c:Nat) (zs:List Int) (w:World) (hz:n≤zs.length) (hbig:n * 8≤140737488355328) (hc:∀ j,j < zs.length→w.cell? ⟨b,off+j,none⟩=some (.int .i64 (zs.getD j 0))):
  Calls Tryz.prog 40 #[.slice (some ⟨b,off,none⟩) n c] w fun e w'=>∃ v',e=.returned v'∧w'.ownsRow w.heap.size 3 1 v' n ((zs.take n).map (Value.int .i64))∧v'≠.slice none 0 0∧Below w.heap.size w w':=Any.slices_Clone_int Tryz.laysNm215 b off n c zs w hz hbig hc
open Go.RowKit Go.Lib in
theorem Tryz.slices_Clone_int_nil (n c:Nat) (w:World):
  Calls Tryz.prog 40 #[.slice none n c] w fun e w'=>e=.returned (.slice none 0 0)∧w'=w:=Any.slices_Clone_int_nil Tryz.laysNm215 n c w
open Go.RowKit Go.Lib in
theorem Tryz.slices_Clone_int_zero (a:Addr) (c:Nat) (w:World):
  Calls Tryz.prog 40 #[.slice (some a) 0 c] w fun e w'=>∃ v',e=.returned v'∧w'.ownsRow w.heap.size 3 1 v' 0 []∧v'≠.slice none 0 0∧Below w.heap.size w w':=Any.slices_Clone_int_zero Tryz.laysNm215 a c w
open Go.RowKit Go.Lib in
open Go.RowKit Go.Lib in
open Go.RowKit Go.Lib in
def Tryz.yW:Go.Shelf.Ren:=⟨fun | 25=>87 | 31=>135 | 32=>147 | 37=>208 | n=>n,fun | 22=>31 | 3=>3 | 4=>4 | 40=>136 | 0=>0 | n=>n,fun | n=>n⟩
theorem Tryz.laysNm225:Go.Proofs.Lays2.n25 Tryz.prog Tryz.yW:={
 mixed:=by kernel_rfl
 f25:=Tryz.func87.trans (congrArg some (by kernel_rfl))
 f31:=Tryz.func135.trans (congrArg some (by kernel_rfl))
 f32:=Tryz.func147.trans (congrArg some (by kernel_rfl))
 f37:=Tryz.func208.trans (congrArg some (by kernel_rfl))
 t0:=Tryz.underlying0
 a0:=Tryz.isAgg0
 z0:=Tryz.sizeOf0
 v0:=Tryz.zeroValue0
 t3:=Tryz.underlying3
 a3:=Tryz.isAgg3
 z3:=Tryz.sizeOf3
 v3:=Tryz.zeroValue3
 t4:=Tryz.underlying4
 a4:=Tryz.isAgg4
 z4:=Tryz.sizeOf4
 v4:=Tryz.zeroValue4
 t22:=Tryz.underlying31
 a22:=Tryz.isAgg31
 z22:=Tryz.sizeOf31
 v22:=Tryz.zeroValue31
 t40:=Tryz.underlying136
 a40:=Tryz.isAgg136
 z40:=Tryz.sizeOf136
 v40:=Tryz.zeroValue136 }
open Go.RowKit Go.Lib in
theorem Tryz.slices_BinarySearch_int (b off n c:Nat) (zs:List Int) (x:Int) (w:World) (hz:n≤zs.length) (hbig:n < 4611686018427387904) (hc:∀ j,j < zs.length→w.cell? ⟨b,off+j,none⟩=some (.int .i64 (zs.getD j 0))) (hs:(zs.take n).Pairwise (·≤·)):
  Calls Tryz.prog 87 #[.slice (some ⟨b,off,none⟩) n c,.int .i64 x] w fun e w'=>e=.returned (.tuple #[.int .i64 ((zs.take n).countP (· < x):Nat),.bool ((zs.take n).contains x)])∧∃ q,w'=w.drewN q:=Any.slices_BinarySearch_int Tryz.laysNm225 b off n c zs x w hz hbig hc hs
open Go.RowKit Go.Sort in
theorem Tryz.slices_Sort_int_none (p:Option Addr) (cap:Nat) (w:World):
  Calls Tryz.prog 41 #[.slice p 0 cap] w fun e w'=>e=.returned (.tuple #[])∧w'=w:=Any.slices_Sort_int_none Tryz.lays189 p cap w
open Go.RowKit Go.Lib in
theorem Tryz.slices_BinarySearch_int_empty (a:Option Addr) (c:Nat) (x:Int) (w:World):
  Calls Tryz.prog 87 #[.slice a 0 c,.int .i64 x] w fun e w'=>e=.returned (.tuple #[.int .i64 0,.bool false])∧w'=w:=Any.slices_BinarySearch_int_empty Tryz.laysNm225 a c x w
def Tryz.tr:Go.Shelf.Ren:=⟨fun | 7=>208 | n=>n,fun | 22=>3 | 4=>4 | n=>n,fun | n=>n⟩
theorem Tryz.xB:Go.Proofs.SlLaysC2.n7 Tryz.prog Tryz.tr:={
 mixed:=by kernel_rfl
 f7:=⟨Tryz.f208.name,by decide,Tryz.func208.trans (congrArg some (by kernel_rfl))⟩
 t4:=Tryz.underlying4
 a4:=Tryz.isAgg4
 z4:=Tryz.sizeOf4
 v4:=Tryz.zeroValue4
 t22:=Tryz.underlying3
 a22:=Tryz.isAgg3
 z22:=Tryz.sizeOf3
 v22:=Tryz.zeroValue3 }
open Go.Lib in
theorem Tryz.cmp_isNaN_int (x:Int) (w:World):
  Calls Tryz.prog 208 #[.int .i64 x] w fun e w'=>e=.returned (.bool false)∧w'=w:=AnyG.cmp_isNaN_int Tryz.xB x w
def Tryz.tv:Go.Shelf.Ren:=⟨fun | 5=>152 | 7=>208 | n=>n,fun | 22=>3 | 3=>3 | 4=>4 | n=>n,fun | n=>n⟩
theorem Tryz.xC:Go.Proofs.SlLaysC2.n5 Tryz.prog Tryz.tv:={
 mixed:=by kernel_rfl
 f5:=⟨Tryz.f152.name,by decide,Tryz.func152.trans (congrArg some (by kernel_rfl))⟩
 f7:=⟨Tryz.f208.name,by decide,Tryz.func208.trans (congrArg some (by kernel_rfl))⟩
 t3:=Tryz.underlying3
 a3:=Tryz.isAgg3
 z3:=Tryz.sizeOf3
 v3:=Tryz.zeroValue3
 t4:=Tryz.underlying4
 a4:=Tryz.isAgg4
 z4:=Tryz.sizeOf4
 v4:=Tryz.zeroValue4
 t22:=Tryz.underlying3
 a22:=Tryz.isAgg3
 z22:=Tryz.sizeOf3
 v22:=Tryz.zeroValue3 }
open Go.Lib in
theorem Tryz.cmp_Compare_int (x y:Int) (w:World):
  Calls Tryz.prog 152 #[.int .i64 x,.int .i64 y] w fun e w'=>e=.returned (.int .i64 (Lib.compareInt x y))∧w'=w:=AnyG.cmp_Compare_int Tryz.xC x y w
def Tryz.Al:Go.Shelf.Ren:=⟨fun | 6=>211 | 15=>80 | 14=>240 | 28=>138 | 29=>139 | 20=>257 | 21=>258 | 22=>259 | 23=>260 | 24=>261 | 25=>262 | 26=>263 | 27=>264 | 46=>272 | 47=>204 | 48=>205 | 49=>273 | 50=>274 | 57=>278 | n=>n,fun | 22=>215 | 24=>212 | 25=>214 | 3=>3 | 39=>136 | 0=>0 | 53=>199 | 55=>201 | 4=>4 | 46=>193 | 45=>192 | 50=>153 | 5=>5 | 9=>9 | 66=>240 | 70=>244 | 76=>271 | 77=>272 | n=>n,fun | n=>n⟩
theorem Tryz.sortSeat:Go.Proofs.SlLaysF0.n6 Tryz.prog Tryz.Al:={
 mixed:=by kernel_rfl
 f6:=⟨Tryz.f211.name,by decide,Tryz.func211.trans (congrArg some (by kernel_rfl))⟩
 f14:=⟨Tryz.f240.name,by decide,Tryz.func240.trans (congrArg some (by kernel_rfl))⟩
 f15:=Tryz.func80.trans (congrArg some (by kernel_rfl))
 f20:=⟨Tryz.f257.name,by decide,Tryz.func257.trans (congrArg some (by kernel_rfl))⟩
 f21:=⟨Tryz.f258.name,by decide,Tryz.func258.trans (congrArg some (by kernel_rfl))⟩
 f22:=⟨Tryz.f259.name,by decide,Tryz.func259.trans (congrArg some (by kernel_rfl))⟩
 f23:=⟨Tryz.f260.name,by decide,Tryz.func260.trans (congrArg some (by kernel_rfl))⟩
 f24:=⟨Tryz.f261.name,by decide,Tryz.func261.trans (congrArg some (by kernel_rfl))⟩
 f25:=⟨Tryz.f262.name,by decide,Tryz.func262.trans (congrArg some (by kernel_rfl))⟩
 f26:=⟨Tryz.f263.name,by decide,Tryz.func263.trans (congrArg some (by kernel_rfl))⟩
 f27:=⟨Tryz.f264.name,by decide,Tryz.func264.trans (congrArg some (by kernel_rfl))⟩
 f28:=Tryz.func138.trans (congrArg some (by kernel_rfl))
 f29:=Tryz.func139.trans (congrArg some (by kernel_rfl))
 f46:=⟨Tryz.f272.name,by decide,Tryz.func272.trans (congrArg some (by kernel_rfl))⟩
 f47:=Tryz.func204.trans (congrArg some (by kernel_rfl))
 f48:=Tryz.func205.trans (congrArg some (by kernel_rfl))
 f49:=⟨Tryz.f273.name,by decide,Tryz.func273.trans (congrArg some (by kernel_rfl))⟩
 f50:=⟨Tryz.f274.name,by decide,Tryz.func274.trans (congrArg some (by kernel_rfl))⟩
 f57:=⟨Tryz.f278.name,by decide,Tryz.func278.trans (congrArg some (by kernel_rfl))⟩
 t0:=Tryz.underlying0
 a0:=Tryz.isAgg0
 z0:=Tryz.sizeOf0
 v0:=Tryz.zeroValue0
 t3:=Tryz.underlying3
 a3:=Tryz.isAgg3
 z3:=Tryz.sizeOf3
 v3:=Tryz.zeroValue3
 t4:=Tryz.underlying4
 a4:=Tryz.isAgg4
 z4:=Tryz.sizeOf4
 v4:=Tryz.zeroValue4
 t5:=Tryz.underlying5
 a5:=Tryz.isAgg5
 z5:=Tryz.sizeOf5
 v5:=Tryz.zeroValue5
 t9:=Tryz.underlying9
 a9:=Tryz.isAgg9
 z9:=Tryz.sizeOf9
 v9:=Tryz.zeroValue9
 t22:=Tryz.underlying215
 a22:=Tryz.isAgg215
 z22:=Tryz.sizeOf215
 v22:=Tryz.zeroValue215
 t25:=Tryz.underlying214
 a25:=Tryz.isAgg214
 z25:=Tryz.sizeOf214
 v25:=Tryz.zeroValue214
 t39:=Tryz.underlying136
 a39:=Tryz.isAgg136
 z39:=Tryz.sizeOf136
 v39:=Tryz.zeroValue136
 t45:=Tryz.underlying192
 a45:=Tryz.isAgg192
 z45:=Tryz.sizeOf192
 v45:=Tryz.zeroValue192
 t46:=Tryz.underlying193
 a46:=Tryz.isAgg193
 z46:=Tryz.sizeOf193
 v46:=Tryz.zeroValue193
 t50:=Tryz.underlying153
 a50:=Tryz.isAgg153
 z50:=Tryz.sizeOf153
 v50:=Tryz.zeroValue153
 t53:=Tryz.underlying199
 a53:=Tryz.isAgg199
 z53:=Tryz.sizeOf199
 v53:=Tryz.zeroValue199
 t55:=Tryz.underlying201
 a55:=Tryz.isAgg201
 z55:=Tryz.sizeOf201
 v55:=Tryz.zeroValue201
 t66:=Tryz.underlying240
 a66:=Tryz.isAgg240
 z66:=Tryz.sizeOf240
 v66:=Tryz.zeroValue240
 t70:=Tryz.underlying244
 a70:=Tryz.isAgg244
 z70:=Tryz.sizeOf244
 v70:=Tryz.zeroValue244
 t76:=Tryz.underlying271
 a76:=Tryz.isAgg271
 z76:=Tryz.sizeOf271
 v76:=Tryz.zeroValue271
 t77:=Tryz.underlying272
 a77:=Tryz.isAgg272
 z77:=Tryz.sizeOf272
 v77:=Tryz.zeroValue272 }
end Go.Proofs
namespace Go.Sg
open Go.Proofs Go.RowKit
theorem St.Gx {h:HF} {w w':World} (hp:Pre h [] w) (hb:Below w.heap.size w w'):St ⟨w,h,[]⟩ h [] w':=
  ⟨hb.os,hb.tape,hb.output,hb.size,fun b hlt _=>hb.block b hlt,fun _ _ e=>e,fun _ _=>rfl,fun b o e=>by rw [hb.block b (fE (hp.imm b o e))];exact hp.imm b o e,
   fun _ hq=>(List.not_mem_nil hq).elim,List.nodup_nil,fun _ hq=>(List.not_mem_nil hq).elim,fun _ hq=>(List.not_mem_nil hq).elim⟩
theorem St.Fc {h:HF} {w w':World} {g:Nat} {o:Obj} (hp:Pre h [] w) (hb:Below w.heap.size w w') (hg:w.heap.size≤g) (ho:w'.heap[g]? = some o):St ⟨w,h,[]⟩ h [(g,o)] w':=
  ⟨hb.os,hb.tape,hb.output,hb.size,fun b hlt _=>hb.block b hlt,fun _ _ e=>e,fun _ _=>rfl,fun b o e=>by rw [hb.block b (fE (hp.imm b o e))];exact hp.imm b o e,
   fun q hq=>by rw [List.mem_singleton.1 hq];exact ho,by simp,fun q hq=>by
     rw [List.mem_singleton.1 hq]
     show h g=none
     cases hh:h g with
     | none=>rfl
     | some o'=>have:=fE (hp.imm g o' hh);omega,fun q hq=>by rw [List.mem_singleton.1 hq];exact .inl hg⟩
theorem ED {h:HF} {b:Option Addr} {xs:List Int} (hs:SlB Rp.int h b xs) (hne:xs≠[]):∃ g off,b=some ⟨g,off,none⟩∧∀ w,Pre h [] w→∀ j,j < xs.length→w.cell? ⟨g,off+j,none⟩=some (.int .i64 (xs.getD j 0)):=by
 obtain ⟨x0,r,rfl⟩:∃ x r,xs=x::r:=by cases xs with
  | nil=>exact (hne rfl).elim
  | cons x r=>exact ⟨x,r,rfl⟩
 obtain ⟨p,cs,rfl,hA,_,_⟩:=hs.2 0 x0 rfl
 have hsp:p.spot=none:=by
  obtain ⟨_,_,_,_,h2,_⟩:=hA
  simpa [Addr.add] using h2
 obtain ⟨g,off,sp⟩:=p
 simp only at hsp
 subst hsp
 refine ⟨g,off,rfl,fun w hp j hj=>?_⟩
 obtain ⟨p',cs',e,hA',hl,hr⟩:=hs.2 j ((x0::r)[j]) (by rw [List.getElem?_eq_getElem hj])
 cases e
 have hcs:cs'=[.int .i64 ((x0::r)[j])]:=hr
 subst hcs
 have hc:=hA'.cell (X:=⟨w,h,[]⟩) (L:=[]) (St.start hp) (j:=0) (v:=.int .i64 ((x0::r)[j])) rfl
 have ha:((⟨g,off,none⟩:Addr).add (j * Rp.int.sz)).add 0=⟨g,off+j,none⟩:=by
  have h1:j * Rp.int.sz=j:=Nat.mul_one j
  rw [h1]
  by_cases e0:j=0
  ·subst e0;simp [Addr.add]
  ·simp [Addr.add,e0]
 rw [ha] at hc
 rw [hc]
 simp [List.getD,List.getElem?_eq_getElem hj]
theorem kX (h:HF) (x:List Int) (Jd:Option Addr) (Ja:Nat) (target:Int) (hx:SlC Rp.int h Jd Ja x) (hs:x.Pairwise (·≤·)) (hsz:x.length≤2000000):
  Ret Tryz.prog 87 [.slice Jd x.length Ja,.int .i64 target] h (.tuple #[.int .i64 (slices_BinarySearch_int x target).1,.bool (slices_BinarySearch_int x target).2]):=by
 intro w hp
 by_cases hne:x=[]
 ·subst hne
  refine (iR (Tryz.slices_BinarySearch_int_empty Jd Ja target w) (fun w' hw=>by cases hw.1)).mono ?_
  rintro e w' ⟨rfl,rfl⟩
  exact ⟨h,[],St.start hp,rfl,rfl,rfl⟩
 ·obtain ⟨g,off,rfl,hc⟩:=ED hx.1 hne
  refine (iR (Tryz.slices_BinarySearch_int g off x.length Ja x target w (Nat.le_refl _) (by omega) (hc w hp) (by simpa using hs)) (fun w' hw=>by cases hw.1)).mono ?_
  rintro e w' ⟨rfl,q,rfl⟩
  refine ⟨h,[],(St.start hp).drew _,?_,rfl,rfl⟩
  simp [bsI,slices_BinarySearch_int]
abbrev IT {α : Type} (P:Program) (f:FuncId) (args:List Value) (h:HF) (R:Rp α) (E:TypeId) (xs:List α):Prop:=
 oq P f args.toArray h [] (fun r h' G=>h'=h∧∃ b c,r=.returned (.slice b xs.length c)∧ei R E h xs b c G)
theorem zL {h:HF} {w w':World} {v:Value} {xs:List Int} (hp:Pre h [] w) (hb:Below w.heap.size w w') (ho:w'.ownsRow w.heap.size 3 1 v xs.length (xs.map (Value.int .i64))):
  ∃ h' G,St ⟨w,h,[]⟩ h' G w'∧h'=h∧∃ b c,Ending.returned v=.returned (.slice b xs.length c)∧ei Rp.int 3 h xs b c G:=by
 obtain ⟨_,⟨rfl,hn⟩ | ⟨g,cap,cur,rfl,hg,hh,h1,h2,h3,h4⟩⟩:=ho
 ·have:xs=[]:=List.length_eq_zero_iff.1 hn
  subst this
  exact ⟨h,[],St.Gx hp hb,rfl,none,0,rfl,ei.nil⟩
 ·refine ⟨h,_,St.Fc hp hb hg hh,rfl,some ⟨g,0,none⟩,cap,rfl,.inr ⟨g,xs.map (Value.int .i64),cur.toList.drop xs.length,rfl,?_,?_,h1,?_,?_⟩⟩
  ·have:∀ l:List Int,bW Rp.int h (l.map (Value.int .i64)) l:=by
    intro l
    induction l with
    | nil=>rfl
    | cons y l ih=>exact ⟨[.int .i64 y],l.map (Value.int .i64),rfl,rfl,rfl,ih⟩
   exact this xs
  ·have h5:xs.map (Value.int .i64)++cur.toList.drop xs.length=cur.toList:=by
    rw [← h4,Nat.mul_one];exact List.take_append_drop _ _
   rw [h5];show _=cap * 1;simpa using h3
  ·have:maxLen=9223372036854775807:=by rfl
   omega
  ·have h5:xs.map (Value.int .i64)++cur.toList.drop xs.length=cur.toList:=by
    rw [← h4,Nat.mul_one];exact List.take_append_drop _ _
   rw [h5]
theorem lw (h:HF) (s:List Int) (pP:Option Addr) (pi:Nat) (hs:SlC Rp.int h pP pi s) (hsz:s.length≤2000000):IT Tryz.prog 40 [.slice pP s.length pi] h Rp.int 3 s:=by
 intro w hp
 by_cases hne:s=[]
 ·subst hne
  cases pP with
  | none=>
   refine (iR (Tryz.slices_Clone_int_nil 0 pi w) (fun w' hw=>by cases hw.1)).mono ?_
   rintro e w' ⟨rfl,rfl⟩
   exact ⟨h,[],St.start hp,rfl,none,0,rfl,ei.nil⟩
  | some a=>
   refine (iR (Tryz.slices_Clone_int_zero a pi w) (fun w' hw=>by obtain ⟨_,e,_⟩:=hw;cases e)).mono ?_
   rintro e w' ⟨v,rfl,ho,_,hb⟩
   exact zL (xs:=[]) hp hb ho
 ·obtain ⟨g,off,rfl,hc⟩:=ED hs.1 hne
  refine (iR (Tryz.slices_Clone_int g off s.length pi s w (Nat.le_refl _) (by omega) (hc w hp)) (fun w' hw=>by obtain ⟨_,e,_⟩:=hw;cases e)).mono ?_
  rintro e w' ⟨v,rfl,ho,_,hb⟩
  rw [List.take_length] at ho
  exact zL hp hb ho
theorem lS (h:HF) (xs:List Int) (b:Option Addr) (c:Nat) (G:LH) (hG:ei Rp.int 3 h xs b c G) (hsz:xs.length≤1000000000000):
  oq Tryz.prog 41 [.slice b xs.length c].toArray h G (fun r h' G'=>h'=h∧r=.returned (.tuple #[])∧ei Rp.int 3 h (sortI xs) b c G'):=by
 intro w hp
 rcases hG with ⟨rfl,rfl,rfl,rfl⟩ | ⟨bk,cl,sp,rfl,hcl,hlen,hcap,hmax,rfl⟩
 ·refine (iR (Tryz.slices_Sort_int_none none 0 w) (fun w' hw=>by cases hw.1)).mono ?_
  rintro e w' ⟨rfl,rfl⟩
  exact ⟨h,[],St.start hp,rfl,rfl,by rw [show sortI []=[] from by simp [sortI]];exact ei.nil⟩
 ·have hb:=hp.own _ (List.mem_singleton.2 rfl)
  simp only at hb
  have hcl':cl=xs.map (Value.int .i64):=by
   clear hlen hb hp hcap hmax hsz
   induction xs generalizing cl with
   | nil=>exact hcl
   | cons y l ih=>
    obtain ⟨cs,r,rfl,_,hr,hl⟩:=hcl
    have:cs=[.int .i64 y]:=hr
    rw [this,ih r hl];rfl
  subst hcl'
  have hH:Sort.Holds (Value.int .i64) w bk 0 xs.toArray:=by
   refine holds_of_blockI (cur:=(xs.map (Value.int .i64)++sp).toArray) (e:=3) hb ?_
   simp
  refine (iR (Tryz.slices_Sort_int bk 0 c xs w hH (fE hb) (by omega)) (fun w' hw=>by cases hw.1)).mono ?_
  rw [AF]
  rintro e w' ⟨rfl,n,os,rfl⟩
  obtain ⟨g1,g2,g3,g4,g5⟩:=grownBy_sortedI (w:=w) (g:=bk) (n:=n) (os:=os) (sortI xs).toArray
  have hnew:=heap_sortedI (w:=w) (g:=bk) (n:=n) (os:=os) (sortI xs).toArray hb
  have htake:=take_putCellsI (xs.map (Value.int .i64)++sp).toArray (sortI xs) (by rw [iI];simp)
  refine ⟨h,[(bk,.cells (Sort.putCells (Value.int .i64) 0 (sortI xs).toArray (xs.map (Value.int .i64)++sp).toArray) 3 (0,0))],⟨g1,g2,g3,g4,fun k hk hM=>g5 k hk (fun e=>hM (by cases e;simp)),fun _ _ e=>e,fun _ _=>rfl,fun k o e=>?_,fun q hq=>?_,?_,?_,?_⟩,rfl,rfl,?_⟩
  ·have hne:k≠bk:=fun e'=>by
    have:=hp.free _ (List.mem_singleton.2 rfl)
    simp only at this
    rw [e',this] at e;cases e
   exact (g5 k (fE (hp.imm k o e)) (fun e'=>by cases e';exact hne rfl)).trans (hp.imm k o e)
  ·rw [List.mem_singleton.1 hq];exact hnew
  ·simp
  ·intro q hq;rw [List.mem_singleton.1 hq];exact hp.free (bk,Obj.cells (xs.map (Value.int .i64)++sp).toArray 3 (0,0)) (List.mem_singleton.2 rfl)
  ·intro q hq;rw [List.mem_singleton.1 hq];exact .inr (by simp)
  ·refine .inr ⟨bk,(sortI xs).map (Value.int .i64),(Sort.putCells (Value.int .i64) 0 (sortI xs).toArray (xs.map (Value.int .i64)++sp).toArray).toList.drop xs.length,rfl,?_,?_,by rw [iI];exact hcap,by rw [iI];exact hmax,?_⟩
   ·have:∀ l:List Int,bW Rp.int h (l.map (Value.int .i64)) l:=by
     intro l
     induction l with
     | nil=>rfl
     | cons y l ih=>exact ⟨[.int .i64 y],l.map (Value.int .i64),rfl,rfl,rfl,ih⟩
    exact this _
   ·rw [← htake,iI,List.take_append_drop]
    simpa [Sort.putCells] using hlen
   ·rw [← htake,iI,List.take_append_drop]
section steps
variable {P:Program} {b:Frame} {n:Nat} {ops:Array Oper} {F:List Frame→(Machine→Prop)→Prop} {e:Env} {ds:List Deferred} {X:Cx} {h:HF} {L:LH} {K:Env→HF→LH→Prop}
variable {d:Option Nat} {ty:TypeId} {pos:String} {af:Array Edge} {g:Option (Nat×Bool)}
theorem HQ {α : Type} {R:Rp α} {E:TypeId} {xs:List α} {f:FuncId} {ass:Array Operand} {ats:Array TypeId} {vs:List Value}
  (hc:∀ args w,(callFunc f args).run P w=.ok (.enter f args) w) (hs:IT P f vs h R E xs) (hvs:ass.toList.map e.ev=vs)
  (t':∀ bb c G,ei R E h xs bb c G→K (pute e d (.slice bb xs.length c)) h (L++G))
  (hg:guardB ops e ⟨d,.call ⟨.value (.func f),ass,ats⟩,ty,pos,af,g⟩=true:=by rfl):
  Stp P b n ops F ds X ⟨d,.call ⟨.value (.func f),ass,ats⟩,ty,pos,af,g⟩ e h L K:=by
 unfold Stp
 rw [if_pos hg]
 intro w hw
 have harr:ass.map e.ev=vs.toArray:=Array.ext' (by simp [← hvs])
 have hr:(execOp e.ev ⟨d,.call ⟨.value (.func f),ass,ats⟩,ty,pos,af,g⟩).run P w=.ok (.enter f vs.toArray) w:=by
  simp [execOp,resolve,Env.ev,Deferred.ofValue,invoke,harr,hc]
 rw [hr]
 refine j2 (by simp) (jF (ow.mono (hs w (hw.sub (List.nil_sublist _)).pre) ?_))
 rintro x w' ⟨h',B,hst,rfl,bb,c,rfl,hG⟩
 exact ⟨h',_,(St.after (A:=[]) (F:=L) hw hst).perm List.perm_append_comm,t' bb c B hG⟩
theorem qX (A0 G Q:LH) {v:Value} {Φ : LH→Prop} {f:FuncId} {ass:Array Operand} {ats:Array TypeId} {vs:List Value}
  (hc:∀ args w,(callFunc f args).run P w=.ok (.enter f args) w) (hs:oq P f vs.toArray h G (fun r h' G'=>h'=h∧r=.returned v∧Φ G')) (hL:L=A0++(G++Q)) (hvs:ass.toList.map e.ev=vs)
  (t':∀ G',Φ G'→K (pute e d v) h (A0++(G'++Q)))
  (hg:guardB ops e ⟨d,.call ⟨.value (.func f),ass,ats⟩,ty,pos,af,g⟩=true:=by rfl):
  Stp P b n ops F ds X ⟨d,.call ⟨.value (.func f),ass,ats⟩,ty,pos,af,g⟩ e h L K:=by
 unfold Stp
 rw [if_pos hg]
 intro w hw
 subst hL
 have hp:∀ G:LH,(A0++(G++Q)).Perm (G++(A0++Q)):=fun G=>by
  rw [← List.append_assoc,← List.append_assoc];exact List.Perm.append_right Q List.perm_append_comm
 have hw':=hw.perm (hp G)
 have harr:ass.map e.ev=vs.toArray:=Array.ext' (by simp [← hvs])
 have hr:(execOp e.ev ⟨d,.call ⟨.value (.func f),ass,ats⟩,ty,pos,af,g⟩).run P w=.ok (.enter f vs.toArray) w:=by
  simp [execOp,resolve,Env.ev,Deferred.ofValue,invoke,harr,hc]
 rw [hr]
 refine j2 (by simp) (jF (ow.mono (hs w hw'.pre.left) ?_))
 rintro x w' ⟨h',B,hst,rfl,rfl,hG⟩
 exact ⟨h',_,(St.after (A:=G) (F:=A0++Q) hw' hst).perm (hp B).symm,t' B hG⟩
end steps
end Go.Sg
namespace Go.Sg
open Go.Proofs
set_option maxRecDepth 100000
abbrev C3 {α : Type} (P:Program) (f:FuncId) (args:List Value) (h:HF) (R:Rp α) (E:TypeId) (S:List α→Prop):Prop:=
 oq P f args.toArray h [] (fun r h' G=>∃ xs bb c,S xs∧r=.returned (.slice bb xs.length c)∧ei R E h' xs bb c G)
section steps
variable {P:Program} {b:Frame} {n:Nat} {ops:Array Oper} {F:List Frame→(Machine→Prop)→Prop} {e:Env} {ds:List Deferred} {X:Cx} {h:HF} {L:LH} {K:Env→HF→LH→Prop}
variable {d:Option Nat} {ty:TypeId} {pos:String} {af:Array Edge} {g:Option (Nat×Bool)}
theorem tU {α : Type} {R:Rp α} {E:TypeId} {S:List α→Prop} {f:FuncId} {ass:Array Operand} {ats:Array TypeId} {vs:List Value}
  (hc:∀ args w,(callFunc f args).run P w=.ok (.enter f args) w) (hs:C3 P f vs h R E S) (hvs:ass.toList.map e.ev=vs)
  (t':∀ h' xs bb c G,h.le h'→S xs→ei R E h' xs bb c G→K (pute e d (.slice bb xs.length c)) h' (L++G))
  (hg:guardB ops e ⟨d,.call ⟨.value (.func f),ass,ats⟩,ty,pos,af,g⟩=true:=by rfl):
  Stp P b n ops F ds X ⟨d,.call ⟨.value (.func f),ass,ats⟩,ty,pos,af,g⟩ e h L K:=by
 unfold Stp
 rw [if_pos hg]
 intro w hw
 have harr:ass.map e.ev=vs.toArray:=Array.ext' (by simp [← hvs])
 have hr:(execOp e.ev ⟨d,.call ⟨.value (.func f),ass,ats⟩,ty,pos,af,g⟩).run P w=.ok (.enter f vs.toArray) w:=by
  simp [execOp,resolve,Env.ev,Deferred.ofValue,invoke,harr,hc]
 rw [hr]
 refine j2 (by simp) (jF (ow.mono (hs w (hw.sub (List.nil_sublist _)).pre) ?_))
 rintro x w' ⟨h',B,hst,xs,bb,c,hS,rfl,hG⟩
 exact ⟨h',_,(St.after (A:=[]) (F:=L) hw hst).perm List.perm_append_comm,t' h' xs bb c B hst.le hS hG⟩
end steps
theorem wi (h:HF) (it:Value) (S:List Int→Prop) (hit:vh Tryz.prog it (fun (k:Int) (_:HF) (vs:List Value)=>vs=[Value.int .i64 k]) S h) (hS:∀ xs,S xs→xs.length≤1000000000000):C3 Tryz.prog 178 [.slice none 0 0,it] h Rp.int 3 S:=by
 refine aw Tryz.func178 rfl Tryz.ntmps178 rfl fun X hM hX=>?_
 refine ad (ah (dC (fun b1=>bi (ac (ad (ad (ah (aa (ac (aU (?_)))))))))))
 refine zw (it:=it) (S:=S) (ps:=[7])
  (fun done h' L'=>∃ gb gc G,L'=[(b1,Obj.cells (List.toArray [.slice gb done.length gc]) 31 (0,0))]++G∧ei Rp.int 3 h' done gb gc G)
  (fun _ _ _=>False) (fun _ _ _=>False) rfl hit rfl (fun x h' vs hv=>by rw [hv];rfl) ?_ (fun _ _ _ _ _ hf=>hf) (fun _ _ _ _ _ hf=>hf) ⟨none,0,[],rfl,ei.nil⟩ ?_ ?_ (fun _ _ _ _ _ hf=>hf.elim) (fun _ _ _ _ _ hf=>hf.elim)
 ·rintro done h1 h2 B hl ⟨gb,gc,G,rfl,hG⟩;exact ⟨gb,gc,G,rfl,hG.mono Rp.cm hl⟩
 ·rintro l1 r1 lp1 done y vs hr L' X' ⟨rest,hrest⟩ hle ⟨gb,gc,G,rfl,hG⟩ hv hlp hX' hXM
  obtain rfl:=hv
  have hlen:=hS _ hrest
  simp only [List.length_append,List.length_cons] at hlen
  refine ah (bi (ac ?_))
  refine kd 0 rfl hlp (aU (ah ?_))
  refine aL 2 ty31 rfl rfl rfl (aa ?_)
  refine a8 (cf (cells:=[.int .i64 y]) eG ty3 zc3 rfl rfl (by kernel_rfl) (fun b3=>?_))
  refine a8 (eK Rp.jY ([(b3,Obj.cells (List.toArray [.int .i64 y]) 3 (0,0)),(l1,.loop { lp1 with state:=.busy }),(r1,.deferred (some [])),(b1,Obj.cells (List.toArray [.slice gb done.length gc]) 31 (0,0))]) [] (fun G=>[(b3,Obj.cells (List.toArray [.int .i64 y]) 3 (0,0)),(l1,.loop { lp1 with state:=.busy }),(r1,.deferred (some [])),(b1,Obj.cells (List.toArray [.slice gb done.length gc]) 31 (0,0))]++G) (G:=G) (show _=[(b3,Obj.cells (List.toArray [.int .i64 y]) 3 (0,0)),(l1,.loop { lp1 with state:=.busy }),(r1,.deferred (some [])),(b1,Obj.cells (List.toArray [.slice gb done.length gc]) 31 (0,0))]++(G++[]) from by rw [List.append_nil];rfl) (fun _=>by first | rfl | simp only [List.nil_append]) eG ty3 zc3 rfl bytes3 hG rfl rfl (ff (ys:=[y]) 0 rfl (show bW Rp.int hr [.int .i64 y] [y] from ⟨[.int .i64 y],[],rfl,rfl,rfl,rfl⟩)) (by simp only [List.length_append,List.length_cons,List.length_nil];omega) (by simp only [List.length_append,List.length_cons,List.length_nil];omega) (fun ob2 oc2 G2 gr2=>?_))
  refine du 3 ty31 rfl rfl rfl rfl rfl rfl (ac (ao ?_))
  refine cE (L':=(l1,.loop { lp1 with state:=.busy })::(r1,.deferred (some []))::([(b1,Obj.cells (List.toArray [.slice ob2 (done++[y]).length oc2]) 31 (0,0))]++G2)) (.cons _ (List.Sublist.refl _)) ?_
  exact Ar rfl ⟨ob2,oc2,G2,rfl,gr2⟩
 ·rintro r1 xs h2 L' hxs hle ⟨gb,gc,G,rfl,hG⟩
  refine ao (ad (ah (aL 1 ty31 rfl rfl rfl (bi (ac ?_)))))
  refine nu (L':=([(b1,Obj.cells (List.toArray [.slice gb xs.length gc]) 31 (0,0))]++G)++markB [r1]) (List.perm_append_singleton _ _).symm ?_
  exact tM [r1] Tryz.func178 (fun a ha w hw=>res1 rfl a ha w) (fun w hw=>hw.sub (L':=G) (List.sublist_append_right _ _)) ⟨xs,gb,gc,hxs,rfl,hG⟩
theorem zk (h:HF) (it:Value) (S:List Int→Prop) (hit:vh Tryz.prog it (fun (k:Int) (_:HF) (vs:List Value)=>vs=[Value.int .i64 k]) S h) (hS:∀ xs,S xs→xs.length≤1000000000000):C3 Tryz.prog 108 [it] h Rp.int 3 S:=by
 refine aw Tryz.func108 rfl Tryz.ntmps108 rfl fun X hM hX=>?_
 refine ad (ah (bi (ac (ad (ah (aa ?_))))))
 refine a8 (tU Tryz.call178 (wi h it S hit hS) rfl (fun h' xs bb c G hle hxs hG=>?_))
 refine bi (ac ?_)
 exact nj Tryz.func108 (fun a ha w hw=>res1 rfl a ha w) (fun w hw=>hw.sub (L':=G) (List.sublist_append_right _ _)) ⟨xs,bb,c,hxs,rfl,hG⟩
theorem vi (h:HF) (it:Value) (S:List OSeat→Prop) (hit:vh Tryz.prog it (fun (k:OSeat) (_:HF) (vs:List Value)=>vs=[OSeat.enc k]) S h) (hS:∀ xs,S xs→xs.length≤1000000000000):C3 Tryz.prog 239 [.slice none 0 0,it] h OSeat.rp 212 S:=by
 refine aw Tryz.func239 rfl Tryz.ntmps239 rfl fun X hM hX=>?_
 refine ad (ah (dC (fun b1=>bi (ac (ad (ad (ah (aa (ac (aU (?_)))))))))))
 refine zw (it:=it) (S:=S) (ps:=[7])
  (fun done h' L'=>∃ gb gc G,L'=[(b1,Obj.cells (List.toArray [.slice gb done.length gc]) 215 (0,0))]++G∧ei OSeat.rp 212 h' done gb gc G)
  (fun _ _ _=>False) (fun _ _ _=>False) rfl hit rfl (fun x h' vs hv=>by rw [hv];rfl) ?_ (fun _ _ _ _ _ hf=>hf) (fun _ _ _ _ _ hf=>hf) ⟨none,0,[],rfl,ei.nil⟩ ?_ ?_ (fun _ _ _ _ _ hf=>hf.elim) (fun _ _ _ _ _ hf=>hf.elim)
 ·rintro done h1 h2 B hl ⟨gb,gc,G,rfl,hG⟩;exact ⟨gb,gc,G,rfl,hG.mono OSeat.aJ hl⟩
 ·rintro l1 r1 lp1 done y vs hr L' X' ⟨rest,hrest⟩ hle ⟨gb,gc,G,rfl,hG⟩ hv hlp hX' hXM
  obtain rfl:=hv
  have hlen:=hS _ hrest
  simp only [List.length_append,List.length_cons] at hlen
  refine ah (bT zc212 (fun b2=>bJ 0 ty212 rfl rfl rfl rfl rfl rfl (ac ?_)))
  refine kd 1 rfl hlp (aU (ah ?_))
  refine aL 3 ty215 rfl rfl rfl (dh 0 ty212 rfl rfl rfl ?_)
  refine a8 (cf (cells:=[.int .i64 y.office,.int .i64 y.person]) FY ty212 zc212 rfl rfl (by kernel_rfl) (fun b3=>?_))
  refine a8 (eK OSeat.eZ ([(b3,Obj.cells (List.toArray [.int .i64 y.office,.int .i64 y.person]) 212 (0,0)),(b2,Obj.cells (OSeat.cells y).toArray 212 (0,0)),(l1,.loop { lp1 with state:=.busy }),(r1,.deferred (some [])),(b1,Obj.cells (List.toArray [.slice gb done.length gc]) 215 (0,0))]) [] (fun G=>[(b3,Obj.cells (List.toArray [.int .i64 y.office,.int .i64 y.person]) 212 (0,0)),(b2,Obj.cells (OSeat.cells y).toArray 212 (0,0)),(l1,.loop { lp1 with state:=.busy }),(r1,.deferred (some [])),(b1,Obj.cells (List.toArray [.slice gb done.length gc]) 215 (0,0))]++G) (G:=G) (show _=[(b3,Obj.cells (List.toArray [.int .i64 y.office,.int .i64 y.person]) 212 (0,0)),(b2,Obj.cells (OSeat.cells y).toArray 212 (0,0)),(l1,.loop { lp1 with state:=.busy }),(r1,.deferred (some [])),(b1,Obj.cells (List.toArray [.slice gb done.length gc]) 215 (0,0))]++(G++[]) from by rw [List.append_nil];rfl) (fun _=>by first | rfl | simp only [List.nil_append]) FY ty212 zc212 rfl bytes212 hG rfl rfl (ff (ys:=[y]) 0 rfl (show bW OSeat.rp hr [.int .i64 y.office,.int .i64 y.person] [y] from ⟨[.int .i64 y.office,.int .i64 y.person],[],rfl,rfl,rfl,rfl⟩)) (by simp only [List.length_append,List.length_cons,List.length_nil];omega) (by simp only [List.length_append,List.length_cons,List.length_nil];omega) (fun ob2 oc2 G2 gr2=>?_))
  refine du 4 ty215 rfl rfl rfl rfl rfl rfl (ac (ao ?_))
  refine cE (L':=(l1,.loop { lp1 with state:=.busy })::(r1,.deferred (some []))::([(b1,Obj.cells (List.toArray [.slice ob2 (done++[y]).length oc2]) 215 (0,0))]++G2)) (.cons _ (.cons _ (List.Sublist.refl _))) ?_
  exact Ar rfl ⟨ob2,oc2,G2,rfl,gr2⟩
 ·rintro r1 xs h2 L' hxs hle ⟨gb,gc,G,rfl,hG⟩
  refine ao (ad (ah (aL 1 ty215 rfl rfl rfl (bi (ac ?_)))))
  refine nu (L':=([(b1,Obj.cells (List.toArray [.slice gb xs.length gc]) 215 (0,0))]++G)++markB [r1]) (List.perm_append_singleton _ _).symm ?_
  exact tM [r1] Tryz.func239 (fun a ha w hw=>res1 rfl a ha w) (fun w hw=>hw.sub (L':=G) (List.sublist_append_right _ _)) ⟨xs,gb,gc,hxs,rfl,hG⟩
theorem yK (h:HF) (it:Value) (S:List OSeat→Prop) (hit:vh Tryz.prog it (fun (k:OSeat) (_:HF) (vs:List Value)=>vs=[OSeat.enc k]) S h) (hS:∀ xs,S xs→xs.length≤1000000000000):C3 Tryz.prog 210 [it] h OSeat.rp 212 S:=by
 refine aw Tryz.func210 rfl Tryz.ntmps210 rfl fun X hM hX=>?_
 refine ad (ah (bi (ac (ad (ah (aa ?_))))))
 refine a8 (tU Tryz.call239 (vi h it S hit hS) rfl (fun h' xs bb c G hle hxs hG=>?_))
 refine bi (ac ?_)
 exact nj Tryz.func210 (fun a ha w hw=>res1 rfl a ha w) (fun w hw=>hw.sub (L':=G) (List.sublist_append_right _ _)) ⟨xs,bb,c,hxs,rfl,hG⟩
end Go.Sg
namespace Go.Sg
open Go.Proofs
set_option maxRecDepth 100000
theorem lv (h:HF) (it:Value) (ks:List Int) (hit:vh Tryz.prog it (fun (k:Int) (_:HF) (vs:List Value)=>vs=[Value.int .i64 k]) (fun xs=>xs.Perm ks) h) (hk:ks.length≤1000000000000):
  jP Tryz.prog 60 [it] h (fun v h'=>∃ (b:Option Addr) (c:Nat),v=.slice b (sortI ks).length c∧SlC Rp.int h' b c (sortI ks)):=by
 refine aw Tryz.func60 rfl Tryz.ntmps60 rfl fun X hM hX=>?_
 refine ad (ah (bi (ac (ad (ah (aa ?_))))))
 refine a8 (tU Tryz.call108 (zk h it _ hit (fun xs hx=>by rw [hx.length_eq];exact hk)) rfl (fun h' xs bb c G hle hxs hG=>?_))
 refine bi (ac (ad (ah (aa ?_))))
 refine a8 (qX [] G [] Tryz.call41 (lS h' xs bb c G hG (by rw [hxs.length_eq];exact hk)) (by simp) rfl (fun G' hG'=>?_))
 refine ac (ad (ah (aa (bi (ac ?_)))))
 refine gi Rp.cm [] G' [] (by simp) hM hG' (fun h2 hle2 sl=>?_)
 refine dQ [.slice bb xs.length c] Tryz.func60 rfl ⟨rfl,trivial⟩ ⟨bb,c,?_,?_⟩
 ·rw [← Bw hxs,iI];rfl
 ·rw [← Bw hxs];exact sl
theorem oQ (h:HF) (m:List (Int×Bool)) (AG:Nat) (hm:ou (Value.int .i64) ir h AG m):jP Tryz.prog 61 [.map (some AG)] h (fun v h'=>vh Tryz.prog v (fun (k:Int) (_:HF) (vs:List Value)=>vs=[(Value.int .i64) k]) (fun xs=>xs.Perm (m.map (·.1))) h'):=by
 refine aw Tryz.func61 rfl Tryz.ntmps61 rfl fun X hM hX=>?_
 refine ad (ah (dC (fun b1=>bi (ac (ad (ah ?_))))))
 refine cn 0 rfl hM (fun h2 hle2 hb2=>?_)
 refine a8 (gj rfl rfl ?_)
 refine bi (ac ?_)
 refine dQ [.func (.func 109) #[] #[.pointer (some ⟨b1,0,none⟩)]] Tryz.func61 rfl ⟨rfl,trivial⟩ ?_
 exact sC h2 m AG ⟨b1,0,none⟩ (hm.mono ir.mono hle2) (dP hb2)
theorem rv (h:HF) (m:List (Int×Version)) (AG:Nat) (hm:ou (Value.int .i64) (kp Version.rp) h AG m):jP Tryz.prog 141 [.map (some AG)] h (fun v h'=>vh Tryz.prog v (fun (k:Int) (_:HF) (vs:List Value)=>vs=[(Value.int .i64) k]) (fun xs=>xs.Perm (m.map (·.1))) h'):=by
 refine aw Tryz.func141 rfl Tryz.ntmps141 rfl fun X hM hX=>?_
 refine ad (ah (dC (fun b1=>bi (ac (ad (ah ?_))))))
 refine cn 0 rfl hM (fun h2 hle2 hb2=>?_)
 refine a8 (gj rfl rfl ?_)
 refine bi (ac ?_)
 refine dQ [.func (.func 209) #[] #[.pointer (some ⟨b1,0,none⟩)]] Tryz.func141 rfl ⟨rfl,trivial⟩ ?_
 exact qb h2 m AG ⟨b1,0,none⟩ (hm.mono (kp.mono Version.aJ) hle2) (dP hb2)
theorem rx (h:HF) (m:List (OSeat×Appoint)) (AG:Nat) (hm:ou OSeat.enc (kp Appoint.rp) h AG m):jP Tryz.prog 154 [.map (some AG)] h (fun v h'=>vh Tryz.prog v (fun (k:OSeat) (_:HF) (vs:List Value)=>vs=[OSeat.enc k]) (fun xs=>xs.Perm (m.map (·.1))) h'):=by
 refine aw Tryz.func154 rfl Tryz.ntmps154 rfl fun X hM hX=>?_
 refine ad (ah (dC (fun b1=>bi (ac (ad (ah ?_))))))
 refine cn 0 rfl hM (fun h2 hle2 hb2=>?_)
 refine a8 (gj rfl rfl ?_)
 refine bi (ac ?_)
 refine dQ [.func (.func 212) #[] #[.pointer (some ⟨b1,0,none⟩)]] Tryz.func154 rfl ⟨rfl,trivial⟩ ?_
 exact qc h2 m AG ⟨b1,0,none⟩ (hm.mono (kp.mono Appoint.aJ) hle2) (dP hb2)
end Go.Sg
