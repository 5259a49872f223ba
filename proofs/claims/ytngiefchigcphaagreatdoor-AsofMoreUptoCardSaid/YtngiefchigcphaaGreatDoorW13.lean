import Derived.Test.YtngiefchigcphaaGreatDoorW1
import Derived.Test.YtngiefchigcphaaGreatDoorW2
import Derived.Test.YtngiefchigcphaaGreatDoorW3
import Derived.Test.YtngiefchigcphaaGreatDoorW4
import Derived.Test.YtngiefchigcphaaGreatDoorW5
import Derived.Test.YtngiefchigcphaaGreatDoorW6
/- A part of the proof of the law AsofMore: where what it reads holds at most 1048576 values and letters, the call returns true and its arguments read as they did. Conditions: that bound, and that the listed table starts as the program lays it. -/
set_option linter.unusedVariables false
set_option linter.unusedSimpArgs false
namespace Go.Sg
open Go.Proofs
set_option maxHeartbeats 2000000
set_option maxRecDepth 100000
set_option linter.unusedVariables false
theorem jS (h:HF) (dN:Int) (low:Int) (high:Int)  : Ret Tryz.prog 181 [I dN,I low,I high] h (.bool (dX dN low high)):=by
 refine aw Tryz.func181 U Tryz.ntmps181 U fun X hM hX=>?_
 have hs0:dX dN low high=dX dN low high:=rfl
 refine sr (an (sr (aa (aa (aF U (aa ?_))))))
 refine tq 4 [(14,.bool (decide (low≤dN)&&decide (dN≤high)))] (fun hk1=>?_) (fun e=>?_)
 ·refine au 10 U (fun c1=>?_) (fun c1=>?_)
  ·refine aa (aa (aF U (ae U ?_)))
   exact hk1 _ ⟨(cb (cY c1)),trivial⟩
  ·refine kq (bY (ae U ?_))
   exact hk1 _ ⟨(cb (cZ c1)),trivial⟩
 refine an ?_
 exact ar [.bool (decide (low≤dN)&&decide (dN≤high))] Tryz.func181 U hX rd (cs hs0)
theorem sP (h:HF) (dN:Int)  : Ret Tryz.prog 182 [I dN] h (.bool (gZ dN)):=by
 refine aw Tryz.func182 U Tryz.ntmps182 U fun X hM hX=>?_
 have hs0:gZ dN=gZ dN:=rfl
 refine sr (an (sr (aa (aA (v:=.bool (dX dN 0 1099511627775)) Bg (jS h dN 0 1099511627775 ) U (an ?_)))))
 exact ar [.bool (dX dN 0 1099511627775)] Tryz.func182 U hX rd (cs hs0)
theorem qy (h:HF) (dN:Int)  : Ret Tryz.prog 183 [I dN] h (.bool (ig dN)):=by
 refine aw Tryz.func183 U Tryz.ntmps183 U fun X hM hX=>?_
 have hs0:ig dN=ig dN:=rfl
 refine sr (an (sr (aa (aA (v:=.bool (dX dN 0 63)) Bg (jS h dN 0 63 ) U (an ?_)))))
 exact ar [.bool (dX dN 0 63)] Tryz.func183 U hX rd (cs hs0)
theorem xj (h:HF) (x:Deputy)  : Ret Tryz.prog 113 [.agg (Deputy.cells x).toArray] h (.bool (ip x)):=by
 refine aw D0 U Tryz.ntmps113 U fun X hM hX=>?_
 have hs0:ip x=ip x:=rfl
 refine sr (dC (fun b1=>an (ad (sr (ay pI U (aL 0 ty3 U U U (aA (v:=.bool (dX x.No 0 1048576)) Bg (jS h x.No 0 1048576 ) U (cR U (aa ?_)))))))))
 refine tq 5 [(1,Q b1),(12,.bool ((!(dX x.No 0 1048576))||(!(gZ x.At))))] (fun hk1=>?_) (fun e=>?_)
 ·refine au 7 U (fun c1=>?_) (fun c1=>?_)
  ·refine kq (kq (ae U ?_))
   exact hk1 _ ⟨U,(cb (eB c1)),trivial⟩
  ·refine ay ur U (aL 0 ty3 U U U (aA (v:=.bool (gZ x.At)) Tryz.call182 (sP h x.At ) U (cR U (ae U ?_))))
   exact hk1 _ ⟨U,(cb (eE c1)),trivial⟩
 refine aa ?_
 refine tq 5 [(1,Q b1),(18,.bool (((!(dX x.No 0 1048576))||(!(gZ x.At)))||(!(gZ x.Known))))] (fun hk2=>?_) (fun e=>?_)
 ·refine au 13 U (fun c2=>?_) (fun c2=>?_)
  ·refine kq (kq (ae U ?_))
   exact hk2 _ ⟨U,(cb (eB c2)),trivial⟩
  ·refine ay CO U (aL 0 ty3 U U U (aA (v:=.bool (gZ x.Known)) Tryz.call182 (sP h x.Known ) U (cR U (ae U ?_))))
   exact hk2 _ ⟨U,(cb (eE c2)),trivial⟩
 refine aa ?_
 refine tq 5 [(1,Q b1),(24,.bool ((((!(dX x.No 0 1048576))||(!(gZ x.At)))||(!(gZ x.Known)))||(!(ig x.From))))] (fun hk3=>?_) (fun e=>?_)
 ·refine au 19 U (fun c3=>?_) (fun c3=>?_)
  ·refine kq (kq (ae U ?_))
   exact hk3 _ ⟨U,(cb (eB c3)),trivial⟩
  ·refine ay uq U (aL 0 ty3 U U U (aA (v:=.bool (ig x.From)) Tryz.call183 (qy h x.From ) U (cR U (ae U ?_))))
   exact hk3 _ ⟨U,(cb (eE c3)),trivial⟩
 refine aa ?_
 refine tq 5 [(1,Q b1),(30,.bool (((((!(dX x.No 0 1048576))||(!(gZ x.At)))||(!(gZ x.Known)))||(!(ig x.From)))||(!(ig x.To))))] (fun hk4=>?_) (fun e=>?_)
 ·refine au 25 U (fun c4=>?_) (fun c4=>?_)
  ·refine kq (kq (ae U ?_))
   exact hk4 _ ⟨U,(cb (eB c4)),trivial⟩
  ·refine ay uo U (aL 0 ty3 U U U (aA (v:=.bool (ig x.To)) Tryz.call183 (qy h x.To ) U (cR U (ae U ?_))))
   exact hk4 _ ⟨U,(cb (eE c4)),trivial⟩
 refine aa ?_
 refine tq 6 [(1,Q b1),(37,.bool ((((((!(dX x.No 0 1048576))||(!(gZ x.At)))||(!(gZ x.Known)))||(!(ig x.From)))||(!(ig x.To)))||(x.From==x.To)))] (fun hk5=>?_) (fun e=>?_)
 ·refine au 31 U (fun c5=>?_) (fun c5=>?_)
  ·refine kq (kq (bY (ae U ?_)))
   exact hk5 _ ⟨U,(cb (eB c5)),trivial⟩
  ·refine ay uq U (aL 0 ty3 U U U (ay uo U (aL 0 ty3 U U U (aF U (ae U ?_)))))
   exact hk5 _ ⟨U,(cb (eE c5)),trivial⟩
 refine ac ?_
 refine aB U (fun c6=>?_) (fun c6=>?_)
 ·have hs1:=hs0.trans (bt c6)
  refine sr (an ?_)
  exact ar [.bool false] D0 U hX rd (cs hs1)
 ·have hs3:=hs0.trans (bf c6)
  refine ai (ad (sr (ay CN U (aL 0 ty3 U U U (aA (v:=.bool (dX x.Office 0 31)) Bg (jS h x.Office 0 31 ) U (cR U (aa ?_)))))))
  refine tq 5 [(1,Q b1),(47,.bool ((!(dX x.Office 0 31))||(!(dX x.Kind (-1) 15))))] (fun hk6=>?_) (fun e=>?_)
  ·refine au 42 U (fun c7=>?_) (fun c7=>?_)
   ·refine kq (kq (ae U ?_))
    exact hk6 _ ⟨U,(cb (eB c7)),trivial⟩
   ·refine ay CM U (aL 0 ty3 U U U (aA (v:=.bool (dX x.Kind (-1) 15)) Bg (jS h x.Kind (-1) 15 ) U (cR U (ae U ?_))))
    exact hk6 _ ⟨U,(cb (eE c7)),trivial⟩
  refine ac ?_
  refine aB U (fun c8=>?_) (fun c8=>?_)
  ·have hs4:=hs3.trans (bt c8)
   refine sr (an ?_)
   exact ar [.bool false] D0 U hX rd (cs hs4)
  ·have hs6:=hs3.trans (bf c8)
   refine ai (ad (sr (ay CL U (aL 0 ty4 U U U (ac ?_)))))
   refine aB U (fun c9=>?_) (fun c9=>?_)
   ·have hs7:=hs6.trans (bt c9)
    refine sr (ay pH U (aL 0 ty3 U U U (aF U (aa ?_))))
    refine tq 4 [(57,.bool ((x.Until==0)&&(x.Most==0)))] (fun hk7=>?_) (fun e=>?_)
    ·refine au 53 U (fun c10=>?_) (fun c10=>?_)
     ·refine ay un U (aL 0 ty3 U U U (aF U (ae U ?_)))
      exact hk7 _ ⟨(cb (cY c10)),trivial⟩
     ·refine kq (bY (ae U ?_))
      exact hk7 _ ⟨(cb (cZ c10)),trivial⟩
    refine an ?_
    exact ar [.bool ((x.Until==0)&&(x.Most==0))] D0 U hX rd (cs hs7)
   ·have hs9:=hs6.trans (bf c9)
    refine ai (sr (ay ur U (aL 0 ty3 U U U (ay pH U (aL 0 ty3 U U U (aF U (aa ?_)))))))
    refine tq 4 [(1,Q b1),(67,.bool (decide (x.At < x.Until)&&decide (x.Until≤1099511627776)))] (fun hk8=>?_) (fun e=>?_)
    ·refine au 63 U (fun c11=>?_) (fun c11=>?_)
     ·refine ay pH U (aL 0 ty3 U U U (aF U (ae U ?_)))
      exact hk8 _ ⟨U,(cb (cY c11)),trivial⟩
     ·refine kq (bY (ae U ?_))
      exact hk8 _ ⟨U,(cb (cZ c11)),trivial⟩
    refine aa ?_
    refine tq 4 [(72,.bool ((decide (x.At < x.Until)&&decide (x.Until≤1099511627776))&&(dX x.Most 0 1099511627776)))] (fun hk9=>?_) (fun e=>?_)
    ·refine au 68 U (fun c12=>?_) (fun c12=>?_)
     ·refine ay un U (aL 0 ty3 U U U (aA (v:=.bool (dX x.Most 0 1099511627776)) Bg (jS h x.Most 0 1099511627776 ) U (ae U ?_)))
      exact hk9 _ ⟨(cb (cY c12)),trivial⟩
     ·refine kq (bY (ae U ?_))
      exact hk9 _ ⟨(cb (cZ c12)),trivial⟩
    refine an ?_
    exact ar [.bool ((decide (x.At < x.Until)&&decide (x.Until≤1099511627776))&&(dX x.Most 0 1099511627776))] D0 U hX rd (cs hs9)
theorem xk (h:HF) (l:(List Deputy)) (fc:Option Addr) (fb:Nat) (hl:SlC Deputy.rp h fc fb l):Ret Tryz.prog 68 [.slice fc l.length fb] h (I (fg l)):=by
 refine aw Dt U Tryz.ntmps68 U fun X hM hX=>?_
 have hs0:fg l=fg l:=rfl
 refine sr (an (ad (sr (aa (bE sJ U (aF U (ac ?_)))))))
 refine aB U (fun c1=>?_) (fun c1=>?_)
 ·have c1p:=of_decide_eq_true c1
  have hs1:=hs0.trans (bt c1)
  refine sr (an ?_)
  exact ar [I 2] Dt U hX rd (ci hs1)
 ·have c1p:=of_decide_eq_false c1
  have hs3:=hs0.trans (bf c1)
  refine ai (ad (sr (an ?_)))
  refine bq (ι:=Nat) (fun i=>[]) (fun i=>h) (fun i=>[]) (fun i=>i≤l.length∧fg l=((fg.K1))) ?_ (fun hx1=>?_)
  ·rintro i1 ⟨bd,hs4⟩ e
   try dsimp only at bd
   try dsimp only
   refine sr (an ?_)
   exact ar [I 0] Dt U hX rd (ci hs4)
  ·refine ck (ι:=Nat×List Deputy) (fun i=>[(0,.slice fc l.length fb),(3,I ((i.1:Nat):Int))]) (fun i=>h) (fun i=>[]) (fun i=>l.drop i.1=i.2∧i.1≤l.length∧fg l=((fg.L1 l (fg.K1)) i.2 i.1)) (fun i=>i.2.length) (0,l) rd sw ⟨U,Nat.zero_le _,hs3⟩ ?_
   rintro ⟨i1,s1⟩ ⟨hd1,bd,hs6⟩ ag1 e
   try dsimp only at hd1 bd
   rcases s1 with _ | ⟨y1,rz1⟩
   ·have dJ:=cS hd1
    try dsimp only
    refine ad (sr (aa (aa (bE sJ U (az (v':=.bool false) U (cb dJ) (ac (ba U (bM U ?_))))))))
    exact hx1 i1 _ ⟨bd,hs6⟩ trivial
   ·have dI:=dV hd1
    have bh:=cU hd1
    have e9:=aP hd1
    have gO:=hl.1.1
    try dsimp only
    refine ad (sr (aa (aa (bE sJ U (az (v':=.bool true) U (cb dI) (ac (bj U (ai (ad (aU (ad ?_)))))))))))
    refine mL [(0,.slice fc l.length fb),(3,I ((i1:Nat):Int)),(36,.bool ((!(ip y1))||(decide (0 < ((i1:Nat):Int))&&decide (y1.No≤(nthI l (((i1:Nat):Int) - 1)).No))))] (fun e=>?_) (fun hk1=>?_)
    rotate_left
    ·refine gr ([]) mixed kr jn (fun fd _=>?_)
     refine tm 0 U (tm 1 U (fR 2 (enc:=Deputy.cells) fd jn (fun _ _ _ e=>e) sJ ty169 hl.1 (nthZ bh) (bA bh) U U U U kr (fun q4 A4=>?_)))
     refine tf 3 U U (fun _ _ hj=>j8 ty169 (A4.mono hj.1) U U) (tn 4 U (fU (v:=.bool (ip y1)) Tryz.call113 (xj h y1 ) U (⟨jn,?_⟩)))
     refine tf 5 U U (fun _ _ _=>kH U) (tm 6 U ?_)
     refine eI 19 U (fun c2=>?_) (fun c2=>?_)
     ·refine tk 7 U U (tk 8 U U (tk 9 U U (tk 10 U U ?_)))
      refine tk 11 U U (tk 12 U U (tk 13 U U (tk 14 U U ?_)))
      refine tk 15 U U (tk 16 U U (tk 17 U U (tk 18 U U ?_)))
      refine tk 19 U U (tk 20 U U (tk 21 U U (tk 22 U U ?_)))
      refine tf 23 U U (fun _ _ _=>cr U) (cd kr ?_)
      exact hk1 _ ⟨U,U,(cb (show true=((!(ip y1))||(decide (0 < ((i1:Nat):Int))&&decide (y1.No≤(nthI l (((i1:Nat):Int) - 1)).No))) from by rw [c2] <;> rfl)),trivial⟩
     ·refine tm 7 U (tf 8 U U (fun _ _ _=>iH U) (tm 9 U ?_))
      refine eI 22 U (fun c3=>?_) (fun c3=>?_)
      ·have c3p:=of_decide_eq_true c3
       refine tm 10 U (tm 11 U (tf 12 U U (fun _ _ _=>nl (v':=I (((i1:Nat):Int) - 1)) U (iZ ob)) ?_))
       have ho2:0≤((((i1:Nat):Int) - 1):Int)∧((((i1:Nat):Int) - 1):Int) < ((l).length:Int):=ob
       refine fR 13 (enc:=Deputy.cells) fd jn (fun _ _ _ e=>e) sJ ty169 hl.1 ho2 (eN ho2) U U U U kr (fun q5 A5=>tf 14 U U (fun _ _ _=>dO pI U) ?_)
       refine tf 15 U U (fun _ _ hj=>gu ty3 (A5.mono hj.1) U) (tm 16 U (tm 17 U ?_))
       refine fR 18 (enc:=Deputy.cells) fd jn (fun _ _ _ e=>e) sJ ty169 hl.1 (nthZ bh) (bA bh) U U U U kr (fun q6 A6=>tf 19 U U (fun _ _ _=>dO pI U) ?_)
       refine tf 20 U U (fun _ _ hj=>gu ty3 (A6.mono hj.1) U) (tf 21 U U (fun _ _ _=>iH U) (tf 22 U U (fun _ _ _=>cr U) ?_))
       refine tf 23 U U (fun _ _ _=>cr U) (cd kr ?_)
       exact hk1 _ ⟨U,U,(cb (show decide (y1.No≤(nthI l (((i1:Nat):Int) - 1)).No)=((!(ip y1))||(decide (0 < ((i1:Nat):Int))&&decide (y1.No≤(nthI l (((i1:Nat):Int) - 1)).No))) from by rw [c2,c3] <;> rfl)),trivial⟩
      ·have c3p:=of_decide_eq_false c3
       refine tk 10 U U (tk 11 U U (tk 12 U U (tk 13 U U ?_)))
       refine tk 14 U U (tk 15 U U (tk 16 U U (tk 17 U U ?_)))
       refine tk 18 U U (tk 19 U U (tk 20 U U (tk 21 U U ?_)))
       refine tf 22 U U (fun _ _ _=>cr U) (tf 23 U U (fun _ _ _=>cr U) (cd kr ?_))
       exact hk1 _ ⟨U,U,(cb (show false=((!(ip y1))||(decide (0 < ((i1:Nat):Int))&&decide (y1.No≤(nthI l (((i1:Nat):Int) - 1)).No))) from by rw [c2,c3] <;> rfl)),trivial⟩
    refine aB U (fun c4=>?_) (fun c4=>?_)
    ·have hs8:=hs6.trans (bt c4)
     refine sr (an ?_)
     exact ar [I 160] Dt U hX rd (ci hs8)
    ·have hs10:=hs6.trans (bf c4)
     refine ai (ao (ah (aa (az (v':=I (((i1+1):Nat):Int)) U (bP ob) (an ?_)))))
     exact ag1 ((i1+1),rz1) _ (Nat.lt_succ_self _) ⟨bF hd1,aP hd1,hs10⟩ rd
theorem sM (h:HF) (t:Int)  : Ret Tryz.prog 184 [I t] h (.bool (iM t)):=by
 refine aw Tryz.func184 U Tryz.ntmps184 U fun X hM hX=>?_
 have hs0:iM t=iM t:=rfl
 refine sr (an (sr (aa (aF U (aa ?_)))))
 refine tq 3 [(8,.bool (decide (0≤t)&&decide (t < 1099511627776)))] (fun hk1=>?_) (fun e=>?_)
 ·refine au 5 U (fun c1=>?_) (fun c1=>?_)
  ·refine aa (aF U (ae U ?_))
   exact hk1 _ ⟨(cb (cY c1)),trivial⟩
  ·refine kq (ae U ?_)
   exact hk1 _ ⟨(cb (cZ c1)),trivial⟩
 refine an ?_
 exact ar [.bool (decide (0≤t)&&decide (t < 1099511627776))] Tryz.func184 U hX rd (cs hs0)
theorem re (h:HF) (dN:Int)  : Ret Tryz.prog 185 [I dN] h (.bool (jk dN)):=by
 refine aw Tryz.func185 U Tryz.ntmps185 U fun X hM hX=>?_
 have hs0:jk dN=jk dN:=rfl
 refine sr (an (sr (aa (aF U (aa ?_)))))
 refine tq 3 [(8,.bool (decide (0≤dN)&&decide (dN≤1048576)))] (fun hk1=>?_) (fun e=>?_)
 ·refine au 5 U (fun c1=>?_) (fun c1=>?_)
  ·refine aa (aF U (ae U ?_))
   exact hk1 _ ⟨(cb (cY c1)),trivial⟩
  ·refine kq (ae U ?_)
   exact hk1 _ ⟨(cb (cZ c1)),trivial⟩
 refine an ?_
 exact ar [.bool (decide (0≤dN)&&decide (dN≤1048576))] Tryz.func185 U hX rd (cs hs0)
theorem vV (h:HF) (dN:Int)  : Ret Tryz.prog 186 [I dN] h (.bool (kA dN)):=by
 refine aw Tryz.func186 U Tryz.ntmps186 U fun X hM hX=>?_
 have hs0:kA dN=kA dN:=rfl
 refine sr (an (sr (aa (aF U (aa ?_)))))
 refine tq 3 [(8,.bool (decide (0≤dN)&&decide (dN < 64)))] (fun hk1=>?_) (fun e=>?_)
 ·refine au 5 U (fun c1=>?_) (fun c1=>?_)
  ·refine aa (aF U (ae U ?_))
   exact hk1 _ ⟨(cb (cY c1)),trivial⟩
  ·refine kq (ae U ?_)
   exact hk1 _ ⟨(cb (cZ c1)),trivial⟩
 refine an ?_
 exact ar [.bool (decide (0≤dN)&&decide (dN < 64))] Tryz.func186 U hX rd (cs hs0)
end Go.Sg
namespace Go.Sg
open Go.Proofs
set_option maxHeartbeats 2000000
set_option maxRecDepth 100000
set_option linter.unusedVariables false
theorem w6 (h:HF) (x:Interest)  : Ret Tryz.prog 114 [.agg (Interest.cells x).toArray] h (.bool (gY x)):=by
 refine aw Ds U Tryz.ntmps114 U fun X hM hX=>?_
 have hs0:gY x=gY x:=rfl
 refine sr (dC (fun b1=>an (ad (sr (ay nD U (aL 0 ty3 U U U (aF U (aa ?_))))))))
 refine tq 4 [(1,Q b1),(10,.bool (decide (x.No < 0)||decide (1048576 < x.No)))] (fun hk1=>?_) (fun e=>?_)
 ·refine au 6 U (fun c1=>?_) (fun c1=>?_)
  ·refine kq (bY (ae U ?_))
   exact hk1 _ ⟨U,(cb (eB c1)),trivial⟩
  ·refine ay nD U (aL 0 ty3 U U U (aF U (ae U ?_)))
   exact hk1 _ ⟨U,(cb (eE c1)),trivial⟩
 refine aa ?_
 refine tq 5 [(1,Q b1),(16,.bool ((decide (x.No < 0)||decide (1048576 < x.No))||(!(iM x.At))))] (fun hk2=>?_) (fun e=>?_)
 ·refine au 11 U (fun c2=>?_) (fun c2=>?_)
  ·refine kq (kq (ae U ?_))
   exact hk2 _ ⟨U,(cb (eB c2)),trivial⟩
  ·refine ay se U (aL 0 ty3 U U U (aA (v:=.bool (iM x.At)) Tryz.call184 (sM h x.At ) U (cR U (ae U ?_))))
   exact hk2 _ ⟨U,(cb (eE c2)),trivial⟩
 refine aa ?_
 refine tq 5 [(1,Q b1),(22,.bool (((decide (x.No < 0)||decide (1048576 < x.No))||(!(iM x.At)))||(!(iM x.Known))))] (fun hk3=>?_) (fun e=>?_)
 ·refine au 17 U (fun c3=>?_) (fun c3=>?_)
  ·refine kq (kq (ae U ?_))
   exact hk3 _ ⟨U,(cb (eB c3)),trivial⟩
  ·refine ay wq U (aL 0 ty3 U U U (aA (v:=.bool (iM x.Known)) Tryz.call184 (sM h x.Known ) U (cR U (ae U ?_))))
   exact hk3 _ ⟨U,(cb (eE c3)),trivial⟩
 refine aa ?_
 refine tq 5 [(1,Q b1),(28,.bool ((((decide (x.No < 0)||decide (1048576 < x.No))||(!(iM x.At)))||(!(iM x.Known)))||(!(jk x.Party))))] (fun hk4=>?_) (fun e=>?_)
 ·refine au 23 U (fun c4=>?_) (fun c4=>?_)
  ·refine kq (kq (ae U ?_))
   exact hk4 _ ⟨U,(cb (eB c4)),trivial⟩
  ·refine ay oU U (aL 0 ty3 U U U (aA (v:=.bool (jk x.Party)) Tryz.call185 (re h x.Party ) U (cR U (ae U ?_))))
   exact hk4 _ ⟨U,(cb (eE c4)),trivial⟩
 refine ac ?_
 refine aB U (fun c5=>?_) (fun c5=>?_)
 ·have hs1:=hs0.trans (bt c5)
  refine sr (an ?_)
  exact ar [.bool false] Ds U hX rd (cs hs1)
 ·have hs3:=hs0.trans (bf c5)
  refine ai (ad (sr (ay uf U (aL 0 ty4 U U U (ac ?_)))))
  refine aB U (fun c6=>?_) (fun c6=>?_)
  ·have hs4:=hs3.trans (bt c6)
   refine sr (ay mz U (aL 0 ty3 U U U (aA (v:=.bool (jk x.Person)) Tryz.call185 (re h x.Person ) U (aa ?_))))
   refine tq 6 [(40,.bool ((jk x.Person)&&(x.Person != x.Party)))] (fun hk5=>?_) (fun e=>?_)
   ·refine au 34 U (fun c7=>?_) (fun c7=>?_)
    ·refine ay mz U (aL 0 ty3 U U U (ay oU U (aL 0 ty3 U U U (aF U (ae U ?_)))))
     exact hk5 _ ⟨(cb (cY c7)),trivial⟩
    ·refine kq (kq (bY (ae U ?_)))
     exact hk5 _ ⟨(cb (cZ c7)),trivial⟩
   refine an ?_
   exact ar [.bool ((jk x.Person)&&(x.Person != x.Party))] Ds U hX rd (cs hs4)
  ·have hs6:=hs3.trans (bf c6)
   refine ai (sr (ay mz U (aL 0 ty3 U U U (aA (v:=.bool (kA x.Person)) Tryz.call186 (vV h x.Person ) U (an ?_)))))
   exact ar [.bool (kA x.Person)] Ds U hX rd (cs hs6)
theorem w7 (h:HF) (l:(List Interest)) (fc:Option Addr) (fb:Nat) (hl:SlC Interest.rp h fc fb l):Ret Tryz.prog 69 [.slice fc l.length fb] h (I (eQ l)):=by
 refine aw Dr U Tryz.ntmps69 U fun X hM hX=>?_
 have hs0:eQ l=eQ l:=rfl
 refine sr (an (ad (sr (aa (bE mJ U (aF U (ac ?_)))))))
 refine aB U (fun c1=>?_) (fun c1=>?_)
 ·have c1p:=of_decide_eq_true c1
  have hs1:=hs0.trans (bt c1)
  refine sr (an ?_)
  exact ar [I 2] Dr U hX rd (ci hs1)
 ·have c1p:=of_decide_eq_false c1
  have hs3:=hs0.trans (bf c1)
  refine ai (ad (sr (an ?_)))
  refine bq (ι:=Nat) (fun i=>[]) (fun i=>h) (fun i=>[]) (fun i=>i≤l.length∧eQ l=((eQ.K1))) ?_ (fun hx1=>?_)
  ·rintro i1 ⟨bd,hs4⟩ e
   try dsimp only at bd
   try dsimp only
   refine sr (an ?_)
   exact ar [I 0] Dr U hX rd (ci hs4)
  ·refine ck (ι:=Nat×List Interest) (fun i=>[(0,.slice fc l.length fb),(3,I ((i.1:Nat):Int))]) (fun i=>h) (fun i=>[]) (fun i=>l.drop i.1=i.2∧i.1≤l.length∧eQ l=((eQ.L1 l (eQ.K1)) i.2 i.1)) (fun i=>i.2.length) (0,l) rd sw ⟨U,Nat.zero_le _,hs3⟩ ?_
   rintro ⟨i1,s1⟩ ⟨hd1,bd,hs6⟩ ag1 e
   try dsimp only at hd1 bd
   rcases s1 with _ | ⟨y1,rz1⟩
   ·have dJ:=cS hd1
    try dsimp only
    refine ad (sr (aa (aa (bE mJ U (az (v':=.bool false) U (cb dJ) (ac (ba U (bM U ?_))))))))
    exact hx1 i1 _ ⟨bd,hs6⟩ trivial
   ·have dI:=dV hd1
    have bh:=cU hd1
    have e9:=aP hd1
    have gO:=hl.1.1
    try dsimp only
    refine ad (sr (aa (aa (bE mJ U (az (v':=.bool true) U (cb dI) (ac (bj U (ai (ad (aU (ad ?_)))))))))))
    refine mL [(0,.slice fc l.length fb),(3,I ((i1:Nat):Int)),(36,.bool ((!(gY y1))||(decide (0 < ((i1:Nat):Int))&&decide (y1.No≤(nthI l (((i1:Nat):Int) - 1)).No))))] (fun e=>?_) (fun hk1=>?_)
    rotate_left
    ·refine gr ([]) mixed kr jn (fun fd _=>?_)
     refine tm 0 U (tm 1 U (fR 2 (enc:=Interest.cells) fd jn (fun _ _ _ e=>e) mJ ty61 hl.1 (nthZ bh) (bA bh) U U U U kr (fun q4 A4=>?_)))
     refine tf 3 U U (fun _ _ hj=>j8 ty61 (A4.mono hj.1) U U) (tn 4 U (fU (v:=.bool (gY y1)) Tryz.call114 (w6 h y1 ) U (⟨jn,?_⟩)))
     refine tf 5 U U (fun _ _ _=>kH U) (tm 6 U ?_)
     refine eI 19 U (fun c2=>?_) (fun c2=>?_)
     ·refine tk 7 U U (tk 8 U U (tk 9 U U (tk 10 U U ?_)))
      refine tk 11 U U (tk 12 U U (tk 13 U U (tk 14 U U ?_)))
      refine tk 15 U U (tk 16 U U (tk 17 U U (tk 18 U U ?_)))
      refine tk 19 U U (tk 20 U U (tk 21 U U (tk 22 U U ?_)))
      refine tf 23 U U (fun _ _ _=>cr U) (cd kr ?_)
      exact hk1 _ ⟨U,U,(cb (show true=((!(gY y1))||(decide (0 < ((i1:Nat):Int))&&decide (y1.No≤(nthI l (((i1:Nat):Int) - 1)).No))) from by rw [c2] <;> rfl)),trivial⟩
     ·refine tm 7 U (tf 8 U U (fun _ _ _=>iH U) (tm 9 U ?_))
      refine eI 22 U (fun c3=>?_) (fun c3=>?_)
      ·have c3p:=of_decide_eq_true c3
       refine tm 10 U (tm 11 U (fR 12 (enc:=Interest.cells) fd jn (fun _ _ _ e=>e) mJ ty61 hl.1 (nthZ bh) (bA bh) U U U U kr (fun q5 A5=>?_)))
       refine tf 13 U U (fun _ _ _=>dO nD U) (tf 14 U U (fun _ _ hj=>gu ty3 (A5.mono hj.1) U) (tm 15 U ?_))
       refine tm 16 U (tf 17 U U (fun _ _ _=>nl (v':=I (((i1:Nat):Int) - 1)) U (iZ ob)) ?_)
       have ho2:0≤((((i1:Nat):Int) - 1):Int)∧((((i1:Nat):Int) - 1):Int) < ((l).length:Int):=ob
       refine fR 18 (enc:=Interest.cells) fd jn (fun _ _ _ e=>e) mJ ty61 hl.1 ho2 (eN ho2) U U U U kr (fun q6 A6=>tf 19 U U (fun _ _ _=>dO nD U) ?_)
       refine tf 20 U U (fun _ _ hj=>gu ty3 (A6.mono hj.1) U) (tf 21 U U (fun _ _ _=>iH U) (tf 22 U U (fun _ _ _=>cr U) ?_))
       refine tf 23 U U (fun _ _ _=>cr U) (cd kr ?_)
       exact hk1 _ ⟨U,U,(cb (show decide (y1.No≤(nthI l (((i1:Nat):Int) - 1)).No)=((!(gY y1))||(decide (0 < ((i1:Nat):Int))&&decide (y1.No≤(nthI l (((i1:Nat):Int) - 1)).No))) from by rw [c2,c3] <;> rfl)),trivial⟩
      ·have c3p:=of_decide_eq_false c3
       refine tk 10 U U (tk 11 U U (tk 12 U U (tk 13 U U ?_)))
       refine tk 14 U U (tk 15 U U (tk 16 U U (tk 17 U U ?_)))
       refine tk 18 U U (tk 19 U U (tk 20 U U (tk 21 U U ?_)))
       refine tf 22 U U (fun _ _ _=>cr U) (tf 23 U U (fun _ _ _=>cr U) (cd kr ?_))
       exact hk1 _ ⟨U,U,(cb (show false=((!(gY y1))||(decide (0 < ((i1:Nat):Int))&&decide (y1.No≤(nthI l (((i1:Nat):Int) - 1)).No))) from by rw [c2,c3] <;> rfl)),trivial⟩
    refine aB U (fun c4=>?_) (fun c4=>?_)
    ·have hs8:=hs6.trans (bt c4)
     refine sr (an ?_)
     exact ar [I 290] Dr U hX rd (ci hs8)
    ·have hs10:=hs6.trans (bf c4)
     refine ai (ao (ah (aa (az (v':=I (((i1+1):Nat):Int)) U (bP ob) (an ?_)))))
     exact ag1 ((i1+1),rz1) _ (Nat.lt_succ_self _) ⟨bF hd1,aP hd1,hs10⟩ rd
theorem kG (h:HF) (dN:Int) (least:Int) (most:Int)  : Ret Tryz.prog 187 [I dN,I least,I most] h (.bool (eu dN least most)):=by
 refine aw Tryz.func187 U Tryz.ntmps187 U fun X hM hX=>?_
 have hs0:eu dN least most=eu dN least most:=rfl
 refine sr (an (sr (aa (aa (aF U (aa ?_))))))
 refine tq 4 [(14,.bool (decide (least≤dN)&&decide (dN≤most)))] (fun hk1=>?_) (fun e=>?_)
 ·refine au 10 U (fun c1=>?_) (fun c1=>?_)
  ·refine aa (aa (aF U (ae U ?_)))
   exact hk1 _ ⟨(cb (cY c1)),trivial⟩
  ·refine kq (bY (ae U ?_))
   exact hk1 _ ⟨(cb (cZ c1)),trivial⟩
 refine an ?_
 exact ar [.bool (decide (least≤dN)&&decide (dN≤most))] Tryz.func187 U hX rd (cs hs0)
theorem qw (h:HF) (dN:Int)  : Ret Tryz.prog 188 [I dN] h (.bool (gB dN)):=by
 refine aw Tryz.func188 U Tryz.ntmps188 U fun X hM hX=>?_
 have hs0:gB dN=gB dN:=rfl
 refine sr (an (sr (aa (aF U (aa ?_)))))
 refine tq 3 [(8,.bool (decide (0≤dN)&&decide (dN < 1099511627776)))] (fun hk1=>?_) (fun e=>?_)
 ·refine au 5 U (fun c1=>?_) (fun c1=>?_)
  ·refine aa (aF U (ae U ?_))
   exact hk1 _ ⟨(cb (cY c1)),trivial⟩
  ·refine kq (ae U ?_)
   exact hk1 _ ⟨(cb (cZ c1)),trivial⟩
 refine an ?_
 exact ar [.bool (decide (0≤dN)&&decide (dN < 1099511627776))] Tryz.func188 U hX rd (cs hs0)
theorem xf (h:HF) (x:Budget)  : Ret Tryz.prog 115 [.agg (Budget.cells x).toArray] h (.bool (io x)):=by
 refine aw Dq U Tryz.ntmps115 U fun X hM hX=>?_
 have hs0:io x=io x:=rfl
 refine sr (dC (fun b1=>an (ad (sr (ay oe U (aL 0 ty3 U U U (aA (v:=.bool (eu x.No 0 1048576)) DZ (kG h x.No 0 1048576 ) U (cR U (aa ?_)))))))))
 refine tq 5 [(1,Q b1),(12,.bool ((!(eu x.No 0 1048576))||(!(gB x.At))))] (fun hk1=>?_) (fun e=>?_)
 ·refine au 7 U (fun c1=>?_) (fun c1=>?_)
  ·refine kq (kq (ae U ?_))
   exact hk1 _ ⟨U,(cb (eB c1)),trivial⟩
  ·refine ay yn U (aL 0 ty3 U U U (aA (v:=.bool (gB x.At)) Tryz.call188 (qw h x.At ) U (cR U (ae U ?_))))
   exact hk1 _ ⟨U,(cb (eE c1)),trivial⟩
 refine aa ?_
 refine tq 5 [(1,Q b1),(18,.bool (((!(eu x.No 0 1048576))||(!(gB x.At)))||(!(gB x.Known))))] (fun hk2=>?_) (fun e=>?_)
 ·refine au 13 U (fun c2=>?_) (fun c2=>?_)
  ·refine kq (kq (ae U ?_))
   exact hk2 _ ⟨U,(cb (eB c2)),trivial⟩
  ·refine ay ym U (aL 0 ty3 U U U (aA (v:=.bool (gB x.Known)) Tryz.call188 (qw h x.Known ) U (cR U (ae U ?_))))
   exact hk2 _ ⟨U,(cb (eE c2)),trivial⟩
 refine aa ?_
 refine tq 5 [(1,Q b1),(24,.bool ((((!(eu x.No 0 1048576))||(!(gB x.At)))||(!(gB x.Known)))||(!(eu x.Kind (-1) 15))))] (fun hk3=>?_) (fun e=>?_)
 ·refine au 19 U (fun c3=>?_) (fun c3=>?_)
  ·refine kq (kq (ae U ?_))
   exact hk3 _ ⟨U,(cb (eB c3)),trivial⟩
  ·refine ay yl U (aL 0 ty3 U U U (aA (v:=.bool (eu x.Kind (-1) 15)) DZ (kG h x.Kind (-1) 15 ) U (cR U (ae U ?_))))
   exact hk3 _ ⟨U,(cb (eE c3)),trivial⟩
 refine aa ?_
 refine tq 5 [(1,Q b1),(30,.bool (((((!(eu x.No 0 1048576))||(!(gB x.At)))||(!(gB x.Known)))||(!(eu x.Kind (-1) 15)))||(!(eu x.Period 1 1099511627776))))] (fun hk4=>?_) (fun e=>?_)
 ·refine au 25 U (fun c4=>?_) (fun c4=>?_)
  ·refine kq (kq (ae U ?_))
   exact hk4 _ ⟨U,(cb (eB c4)),trivial⟩
  ·refine ay yk U (aL 0 ty3 U U U (aA (v:=.bool (eu x.Period 1 1099511627776)) DZ (kG h x.Period 1 1099511627776 ) U (cR U (ae U ?_))))
   exact hk4 _ ⟨U,(cb (eE c4)),trivial⟩
 refine ac ?_
 refine aB U (fun c5=>?_) (fun c5=>?_)
 ·have hs1:=hs0.trans (bt c5)
  refine sr (an ?_)
  exact ar [.bool false] Dq U hX rd (cs hs1)
 ·have hs3:=hs0.trans (bf c5)
  refine ai (ad (sr (ay CK U (aL 0 ty4 U U U (ac ?_)))))
  refine aB U (fun c6=>?_) (fun c6=>?_)
  ·have hs4:=hs3.trans (bt c6)
   refine sr (ay um U (aL 0 ty3 U U U (aF U (aa ?_))))
   refine tq 4 [(40,.bool ((x.Count==0)&&(x.Value==0)))] (fun hk5=>?_) (fun e=>?_)
   ·refine au 36 U (fun c7=>?_) (fun c7=>?_)
    ·refine ay ul U (aL 0 ty3 U U U (aF U (ae U ?_)))
     exact hk5 _ ⟨(cb (cY c7)),trivial⟩
    ·refine kq (bY (ae U ?_))
     exact hk5 _ ⟨(cb (cZ c7)),trivial⟩
   refine an ?_
   exact ar [.bool ((x.Count==0)&&(x.Value==0))] Dq U hX rd (cs hs4)
  ·have hs6:=hs3.trans (bf c6)
   refine ai (sr (ay um U (aL 0 ty3 U U U (aA (v:=.bool (eu x.Count 0 1048576)) DZ (kG h x.Count 0 1048576 ) U (aa ?_)))))
   refine tq 4 [(48,.bool ((eu x.Count 0 1048576)&&(eu x.Value 0 1099511627776)))] (fun hk6=>?_) (fun e=>?_)
   ·refine au 44 U (fun c8=>?_) (fun c8=>?_)
    ·refine ay ul U (aL 0 ty3 U U U (aA (v:=.bool (eu x.Value 0 1099511627776)) DZ (kG h x.Value 0 1099511627776 ) U (ae U ?_)))
     exact hk6 _ ⟨(cb (cY c8)),trivial⟩
    ·refine kq (bY (ae U ?_))
     exact hk6 _ ⟨(cb (cZ c8)),trivial⟩
   refine an ?_
   exact ar [.bool ((eu x.Count 0 1048576)&&(eu x.Value 0 1099511627776))] Dq U hX rd (cs hs6)
theorem xg (h:HF) (l:(List Budget)) (fc:Option Addr) (fb:Nat) (hl:SlC Budget.rp h fc fb l):Ret Tryz.prog 70 [.slice fc l.length fb] h (I (fA l)):=by
 refine aw Dp U Tryz.ntmps70 U fun X hM hX=>?_
 have hs0:fA l=fA l:=rfl
 refine sr (an (ad (sr (aa (bE sI U (aF U (ac ?_)))))))
 refine aB U (fun c1=>?_) (fun c1=>?_)
 ·have c1p:=of_decide_eq_true c1
  have hs1:=hs0.trans (bt c1)
  refine sr (an ?_)
  exact ar [I 2] Dp U hX rd (ci hs1)
 ·have c1p:=of_decide_eq_false c1
  have hs3:=hs0.trans (bf c1)
  refine ai (ad (sr (an ?_)))
  refine bq (ι:=Nat) (fun i=>[]) (fun i=>h) (fun i=>[]) (fun i=>i≤l.length∧fA l=((fA.K1))) ?_ (fun hx1=>?_)
  ·rintro i1 ⟨bd,hs4⟩ e
   try dsimp only at bd
   try dsimp only
   refine sr (an ?_)
   exact ar [I 0] Dp U hX rd (ci hs4)
  ·refine ck (ι:=Nat×List Budget) (fun i=>[(0,.slice fc l.length fb),(3,I ((i.1:Nat):Int))]) (fun i=>h) (fun i=>[]) (fun i=>l.drop i.1=i.2∧i.1≤l.length∧fA l=((fA.L1 l (fA.K1)) i.2 i.1)) (fun i=>i.2.length) (0,l) rd sw ⟨U,Nat.zero_le _,hs3⟩ ?_
   rintro ⟨i1,s1⟩ ⟨hd1,bd,hs6⟩ ag1 e
   try dsimp only at hd1 bd
   rcases s1 with _ | ⟨y1,rz1⟩
   ·have dJ:=cS hd1
    try dsimp only
    refine ad (sr (aa (aa (bE sI U (az (v':=.bool false) U (cb dJ) (ac (ba U (bM U ?_))))))))
    exact hx1 i1 _ ⟨bd,hs6⟩ trivial
   ·have dI:=dV hd1
    have bh:=cU hd1
    have e9:=aP hd1
    have gO:=hl.1.1
    try dsimp only
    refine ad (sr (aa (aa (bE sI U (az (v':=.bool true) U (cb dI) (ac (bj U (ai (ad (aU (ad ?_)))))))))))
    refine mL [(0,.slice fc l.length fb),(3,I ((i1:Nat):Int)),(36,.bool ((!(io y1))||(decide (0 < ((i1:Nat):Int))&&decide (y1.No≤(nthI l (((i1:Nat):Int) - 1)).No))))] (fun e=>?_) (fun hk1=>?_)
    rotate_left
    ·refine gr ([]) mixed kr jn (fun fd _=>?_)
     refine tm 0 U (tm 1 U (fR 2 (enc:=Budget.cells) fd jn (fun _ _ _ e=>e) sI ty173 hl.1 (nthZ bh) (bA bh) U U U U kr (fun q4 A4=>?_)))
     refine tf 3 U U (fun _ _ hj=>j8 ty173 (A4.mono hj.1) U U) (tn 4 U (fU (v:=.bool (io y1)) Tryz.call115 (xf h y1 ) U (⟨jn,?_⟩)))
     refine tf 5 U U (fun _ _ _=>kH U) (tm 6 U ?_)
     refine eI 19 U (fun c2=>?_) (fun c2=>?_)
     ·refine tk 7 U U (tk 8 U U (tk 9 U U (tk 10 U U ?_)))
      refine tk 11 U U (tk 12 U U (tk 13 U U (tk 14 U U ?_)))
      refine tk 15 U U (tk 16 U U (tk 17 U U (tk 18 U U ?_)))
      refine tk 19 U U (tk 20 U U (tk 21 U U (tk 22 U U ?_)))
      refine tf 23 U U (fun _ _ _=>cr U) (cd kr ?_)
      exact hk1 _ ⟨U,U,(cb (show true=((!(io y1))||(decide (0 < ((i1:Nat):Int))&&decide (y1.No≤(nthI l (((i1:Nat):Int) - 1)).No))) from by rw [c2] <;> rfl)),trivial⟩
     ·refine tm 7 U (tf 8 U U (fun _ _ _=>iH U) (tm 9 U ?_))
      refine eI 22 U (fun c3=>?_) (fun c3=>?_)
      ·have c3p:=of_decide_eq_true c3
       refine tm 10 U (tm 11 U (tf 12 U U (fun _ _ _=>nl (v':=I (((i1:Nat):Int) - 1)) U (iZ ob)) ?_))
       have ho2:0≤((((i1:Nat):Int) - 1):Int)∧((((i1:Nat):Int) - 1):Int) < ((l).length:Int):=ob
       refine fR 13 (enc:=Budget.cells) fd jn (fun _ _ _ e=>e) sI ty173 hl.1 ho2 (eN ho2) U U U U kr (fun q5 A5=>tf 14 U U (fun _ _ _=>dO oe U) ?_)
       refine tf 15 U U (fun _ _ hj=>gu ty3 (A5.mono hj.1) U) (tm 16 U (tm 17 U ?_))
       refine fR 18 (enc:=Budget.cells) fd jn (fun _ _ _ e=>e) sI ty173 hl.1 (nthZ bh) (bA bh) U U U U kr (fun q6 A6=>tf 19 U U (fun _ _ _=>dO oe U) ?_)
       refine tf 20 U U (fun _ _ hj=>gu ty3 (A6.mono hj.1) U) (tf 21 U U (fun _ _ _=>iH U) (tf 22 U U (fun _ _ _=>cr U) ?_))
       refine tf 23 U U (fun _ _ _=>cr U) (cd kr ?_)
       exact hk1 _ ⟨U,U,(cb (show decide (y1.No≤(nthI l (((i1:Nat):Int) - 1)).No)=((!(io y1))||(decide (0 < ((i1:Nat):Int))&&decide (y1.No≤(nthI l (((i1:Nat):Int) - 1)).No))) from by rw [c2,c3] <;> rfl)),trivial⟩
      ·have c3p:=of_decide_eq_false c3
       refine tk 10 U U (tk 11 U U (tk 12 U U (tk 13 U U ?_)))
       refine tk 14 U U (tk 15 U U (tk 16 U U (tk 17 U U ?_)))
       refine tk 18 U U (tk 19 U U (tk 20 U U (tk 21 U U ?_)))
       refine tf 22 U U (fun _ _ _=>cr U) (tf 23 U U (fun _ _ _=>cr U) (cd kr ?_))
       exact hk1 _ ⟨U,U,(cb (show false=((!(io y1))||(decide (0 < ((i1:Nat):Int))&&decide (y1.No≤(nthI l (((i1:Nat):Int) - 1)).No))) from by rw [c2,c3] <;> rfl)),trivial⟩
    refine aB U (fun c4=>?_) (fun c4=>?_)
    ·have hs8:=hs6.trans (bt c4)
     refine sr (an ?_)
     exact ar [I 180] Dp U hX rd (ci hs8)
    ·have hs10:=hs6.trans (bf c4)
     refine ai (ao (ah (aa (az (v':=I (((i1+1):Nat):Int)) U (bP ob) (an ?_)))))
     exact ag1 ((i1+1),rz1) _ (Nat.lt_succ_self _) ⟨bF hd1,aP hd1,hs10⟩ rd
theorem lD (h:HF) (dN:Int)  : Ret Tryz.prog 33 [I dN] h (.bool (dY dN)):=by
 refine aw Tryz.func33 U Tryz.ntmps33 U fun X hM hX=>?_
 have hs0:dY dN=dY dN:=rfl
 refine sr (an (sr (aa (aF U (aa ?_)))))
 refine tq 3 [(8,.bool (decide (0≤dN)&&decide (dN < 1099511627776)))] (fun hk1=>?_) (fun e=>?_)
 ·refine au 5 U (fun c1=>?_) (fun c1=>?_)
  ·refine aa (aF U (ae U ?_))
   exact hk1 _ ⟨(cb (cY c1)),trivial⟩
  ·refine kq (ae U ?_)
   exact hk1 _ ⟨(cb (cZ c1)),trivial⟩
 refine an ?_
 exact ar [.bool (decide (0≤dN)&&decide (dN < 1099511627776))] Tryz.func33 U hX rd (cs hs0)
theorem vZ (rec:Expr→Int→Int) (h:HF) (x:Expr) (fu:cM) (limit:Int) (hrec:∀ (h:HF) (qx:Expr) (jA:cM) (qlimit:Int) (hqx:Expr.ok h qx jA) (_:qx.dep < x.dep),Ret Tryz.prog 266 [.agg (Expr.cells qx jA).toArray,I qlimit] h (I (rec qx qlimit))) (hx:Expr.ok h x fu):Ret Tryz.prog 266 [.agg (Expr.cells x fu).toArray,I limit] h (I (cN.F rec x limit)):=by
 refine aw Tryz.func266 U Tryz.ntmps266 U fun X hM hX=>?_
 have hs0:cN.F rec x limit=cN.F rec x limit:=rfl
 refine sr (dC (fun b1=>an (sr (an (ad (sr (an ?_)))))))
 refine bq (ι:=Nat×Int) (fun i=>[(5,I i.2)]) (fun i=>h) (fun i=>[(b1,O (Expr.cells x fu) 66)]) (fun i=>i.1≤x.L.length∧cN.F rec x limit=((cN.K1) i.2)) ?_ (fun hx1=>?_)
 ·rintro ⟨i1,iY⟩ ⟨bd,hs1⟩ e
  try dsimp only at bd
  try dsimp only
  refine sr (aa (an ?_))
  exact ar [I iY] Tryz.func266 U hX rd (ci hs1)
 ·refine ck (ι:=Nat×Int×List Expr) (fun i=>[(1,I limit),(2,Q b1),(5,I i.2.1),(6,I ((i.1:Nat):Int))]) (fun i=>h) (fun i=>[(b1,O (Expr.cells x fu) 66)]) (fun i=>x.L.drop i.1=i.2.2∧i.1≤x.L.length∧cN.F rec x limit=((cN.L1 rec limit (cN.K1)) i.2.2 i.2.1)) (fun i=>i.2.2.length) (0,1,x.L) rd sw ⟨U,Nat.zero_le _,hs0⟩ ?_
  rintro ⟨i1,iY,s1⟩ ⟨hd1,bd,hs3⟩ ag1 e
  try dsimp only at hd1 bd
  rcases s1 with _ | ⟨y1,rz1⟩
  ·have dJ:=cS hd1
   try dsimp only
   refine ad (sr (aa (ay dF U (aL 0 ty64 U U U (bE gg U (az (v':=.bool false) U (cb dJ) (aa (kq (bY (ae U (ac (ba U (bM U ?_)))))))))))))
   exact hx1 (i1,iY) _ ⟨bd,hs3⟩ rd
  ·have dI:=dV hd1
   have bh:=cU hd1
   have e9:=aP hd1
   have gO:=hx.list.1.1
   try dsimp only
   refine ad (sr (aa (ay dF U (aL 0 ty64 U U U (bE gg U (az (v':=.bool true) U (cb dI) (aa (aa (aa (aF U (ae U (ac ?_))))))))))))
   refine aB U (fun c2=>?_) (fun c2=>?_)
   ·have c2p:=of_decide_eq_true c2
    have hs5:=hs3.trans (bt c2)
    refine ai (ad (aU (ah (aa (ay dF U (aL 0 ty64 U U U (aa (a8 (gX gg ty66 hx.list.1 (nthZ bh) (bA bh) U U U (fun q2 cs2 A2 ln2 rr2=>?_))))))))))
    obtain ⟨r2,rfl,ok2⟩:=rr2
    refine dT ty66 A2 U U (aa (aa (aF U (aA (v:=I (rec y1 (IntKind.wrap .i64 (limit - iY)))) Tryz.call266 (hrec h y1 r2 (IntKind.wrap .i64 (limit - iY)) ok2 (Expr.iv (gm hd1))) U (aF U (an (ao ?_)))))))
    refine ah (aa (az (v':=I (((i1+1):Nat):Int)) U (bP ob) (an ?_)))
    exact ag1 ((i1+1),(IntKind.wrap .i64 (iY+(rec y1 (IntKind.wrap .i64 (limit - iY))))),rz1) _ (Nat.lt_succ_self _) ⟨bF hd1,aP hd1,hs5⟩ rd
   ·have c2p:=of_decide_eq_false c2
    have hs6:=hs3.trans (bf c2)
    refine bM U ?_
    exact hx1 (i1,iY) _ ⟨bd,hs6⟩ rd
theorem oK:∀ (m:Nat) (h:HF) (x:Expr) (fu:cM) (limit:Int) (_:x.dep≤m) (hx:Expr.ok h x fu),Ret Tryz.prog 266 [.agg (Expr.cells x fu).toArray,I limit] h (I (cN.go m x limit))
 | 0,h,x,fu,limit,hd,hx=>absurd hd (Nat.not_le.2 (Expr.j1 _))
 | m+1,h,x,fu,limit,hd,hx=>vZ (cN.go m) h x fu limit (fun qh_ qx jA qlimit qhx qd=>oK m qh_ qx jA qlimit ob qhx) hx
theorem xd (h:HF) (x:Expr) (fu:cM) (limit:Int) (hx:Expr.ok h x fu):Ret Tryz.prog 266 [.agg (Expr.cells x fu).toArray,I limit] h (I (cN x limit)):=oK _ h x fu limit (Nat.le_refl _) hx
end Go.Sg
namespace Go.Sg
open Go.Proofs
set_option maxHeartbeats 2000000
set_option maxRecDepth 100000
set_option linter.unusedVariables false
theorem wa (rec:Expr→Int) (h:HF) (x:Expr) (fu:cM) (hrec:∀ (h:HF) (qx:Expr) (jA:cM) (hqx:Expr.ok h qx jA) (_:qx.dep < x.dep),Ret Tryz.prog 267 [.agg (Expr.cells qx jA).toArray] h (I (rec qx))) (hx:Expr.ok h x fu):Ret Tryz.prog 267 [.agg (Expr.cells x fu).toArray] h (I (bG.F rec x)):=by
 refine aw Tryz.func267 U Tryz.ntmps267 U fun X hM hX=>?_
 have hs0:bG.F rec x=bG.F rec x:=rfl
 refine sr (dC (fun b1=>an (sr (an (ad (sr (an ?_)))))))
 refine bq (ι:=Nat×Int) (fun i=>[(3,I i.2)]) (fun i=>h) (fun i=>[(b1,O (Expr.cells x fu) 66)]) (fun i=>i.1≤x.L.length∧bG.F rec x=((bG.K1) i.2)) ?_ (fun hx1=>?_)
 ·rintro ⟨i1,gf⟩ ⟨bd,hs1⟩ e
  try dsimp only at bd
  try dsimp only
  refine sr (aa (aF U (an ?_)))
  exact ar [I (IntKind.wrap .i64 (gf+1))] Tryz.func267 U hX rd (ci hs1)
 ·refine ck (ι:=Nat×Int×List Expr) (fun i=>[(1,Q b1),(3,I i.2.1),(4,I ((i.1:Nat):Int))]) (fun i=>h) (fun i=>[(b1,O (Expr.cells x fu) 66)]) (fun i=>x.L.drop i.1=i.2.2∧i.1≤x.L.length∧bG.F rec x=((bG.L1 rec (bG.K1)) i.2.2 i.2.1)) (fun i=>i.2.2.length) (0,0,x.L) rd sw ⟨U,Nat.zero_le _,hs0⟩ ?_
  rintro ⟨i1,gf,s1⟩ ⟨hd1,bd,hs3⟩ ag1 e
  try dsimp only at hd1 bd
  rcases s1 with _ | ⟨y1,rz1⟩
  ·have dJ:=cS hd1
   try dsimp only
   refine ad (sr (aa (ay dF U (aL 0 ty64 U U U (bE gg U (az (v':=.bool false) U (cb dJ) (ac (ba U (bM U ?_)))))))))
   exact hx1 (i1,gf) _ ⟨bd,hs3⟩ rd
  ·have dI:=dV hd1
   have bh:=cU hd1
   have e9:=aP hd1
   have gO:=hx.list.1.1
   try dsimp only
   refine ad (sr (aa (ay dF U (aL 0 ty64 U U U (bE gg U (az (v':=.bool true) U (cb dI) (ac (bj U (ai (ad (aU (ah (aa (ay dF U (aL 0 ty64 U U U ?_)))))))))))))))
   refine aa (a8 (gX gg ty66 hx.list.1 (nthZ bh) (bA bh) U U U (fun q2 cs2 A2 ln2 rr2=>?_)))
   obtain ⟨r2,rfl,ok2⟩:=rr2
   refine dT ty66 A2 U U (aA (v:=I (rec y1)) Tryz.call267 (hrec h y1 r2 ok2 (Expr.iv (gm hd1))) U (a8 (gW (I1 U U) (an (ao (ah (aa (az (v':=I (((i1+1):Nat):Int)) U (bP ob) ?_))))))))
   refine an ?_
   exact ag1 ((i1+1),(max gf (rec y1)),rz1) _ (Nat.lt_succ_self _) ⟨bF hd1,aP hd1,hs3⟩ rd
theorem oL:∀ (m:Nat) (h:HF) (x:Expr) (fu:cM) (_:x.dep≤m) (hx:Expr.ok h x fu),Ret Tryz.prog 267 [.agg (Expr.cells x fu).toArray] h (I (bG.go m x))
 | 0,h,x,fu,hd,hx=>absurd hd (Nat.not_le.2 (Expr.j1 _))
 | m+1,h,x,fu,hd,hx=>wa (bG.go m) h x fu (fun qh_ qx jA qhx qd=>oL m qh_ qx jA ob qhx) hx
theorem xe (h:HF) (x:Expr) (fu:cM) (hx:Expr.ok h x fu):Ret Tryz.prog 267 [.agg (Expr.cells x fu).toArray] h (I (bG x)):=oL _ h x fu (Nat.le_refl _) hx
theorem rg (h:HF) (x:Expr) (fu:cM) (hx:Expr.ok h x fu):Ret Tryz.prog 249 [.agg (Expr.cells x fu).toArray] h (.bool (jm x)):=by
 refine aw Tryz.func249 U Tryz.ntmps249 U fun X hM hX=>?_
 have hs0:jm x=jm x:=rfl
 refine sr (dC (fun b1=>an (sr (dh 0 ty66 U U U (aA (v:=I (cN x 256)) Tryz.call266 (xd h x fu 256 hx) U (aF U (aa ?_)))))))
 refine tq 4 [(10,.bool (decide (256 < (cN x 256))||decide (16 < (bG x))))] (fun hk1=>?_) (fun e=>?_)
 ·refine au 6 U (fun c1=>?_) (fun c1=>?_)
  ·refine kq (bY (ae U ?_))
   exact hk1 _ ⟨(cb (eB c1)),trivial⟩
  ·refine dh 0 ty66 U U U (aA (v:=I (bG x)) Tryz.call267 (xe h x fu hx) U (aF U (ae U ?_)))
   exact hk1 _ ⟨(cb (eE c1)),trivial⟩
 refine an ?_
 exact ar [.bool (decide (256 < (cN x 256))||decide (16 < (bG x)))] Tryz.func249 U hX rd (cs hs0)
theorem tW (h:HF) (p:Policy) (fp:fh) (hp:Policy.ok h p fp):Ret Tryz.prog 227 [.agg (Policy.cells p fp).toArray] h (.bool (e6 p)):=by
 refine aw Do U Tryz.ntmps227 U fun X hM hX=>?_
 have hs0:e6 p=e6 p:=rfl
 refine sr (dC (fun b1=>an (ad (sr (ay jO U (aL 0 ty62 U U U (bE kV U (aF U (aa ?_)))))))))
 refine tq 5 [(1,Q b1),(13,.bool (decide (32 < ((p.Offices.length:Nat):Int))||decide (16 < ((p.Kinds.length:Nat):Int))))] (fun hk1=>?_) (fun e=>?_)
 ·refine au 8 U (fun c1=>?_) (fun c1=>?_)
  ·refine kq (kq (ae U ?_))
   exact hk1 _ ⟨U,(cb (eB c1)),trivial⟩
  ·refine ay kO U (aL 0 ty62 U U U (bE kV U (aF U (ae U ?_))))
   exact hk1 _ ⟨U,(cb (eE c1)),trivial⟩
 refine aa ?_
 refine tq 5 [(1,Q b1),(19,.bool ((decide (32 < ((p.Offices.length:Nat):Int))||decide (16 < ((p.Kinds.length:Nat):Int)))||decide (16 < ((p.Rules.length:Nat):Int))))] (fun hk2=>?_) (fun e=>?_)
 ·refine au 14 U (fun c2=>?_) (fun c2=>?_)
  ·refine kq (kq (ae U ?_))
   exact hk2 _ ⟨U,(cb (eB c2)),trivial⟩
  ·refine ay fC U (aL 0 ty63 U U U (bE jV U (aF U (ae U ?_))))
   exact hk2 _ ⟨U,(cb (eE c2)),trivial⟩
 refine aa ?_
 refine tq 4 [(1,Q b1),(24,.bool (((decide (32 < ((p.Offices.length:Nat):Int))||decide (16 < ((p.Kinds.length:Nat):Int)))||decide (16 < ((p.Rules.length:Nat):Int)))||(jm p.Change)))] (fun hk3=>?_) (fun e=>?_)
 ·refine au 20 U (fun c3=>?_) (fun c3=>?_)
  ·refine kq (bY (ae U ?_))
   exact hk3 _ ⟨U,(cb (eB c3)),trivial⟩
  ·refine ay lN U (dh 0 ty66 U U U (aA (v:=.bool (jm p.Change)) Tryz.call249 (rg h p.Change fp.Change hp.Change) U (ae U ?_)))
   exact hk3 _ ⟨U,(cb (eE c3)),trivial⟩
 refine ac ?_
 refine aB U (fun c4=>?_) (fun c4=>?_)
 ·have hs1:=hs0.trans (bt c4)
  refine sr (an ?_)
  exact ar [.bool true] Do U hX rd (cs hs1)
 ·have hs3:=hs0.trans (bf c4)
  refine ai (ad (sr (an ?_)))
  refine bq (ι:=Nat) (fun i=>[]) (fun i=>h) (fun i=>[(b1,O (Policy.cells p fp) 68)]) (fun i=>i≤p.Rules.length∧e6 p=((e6.K1))) ?_ (fun hx1=>?_)
  ·rintro i1 ⟨bd,hs4⟩ e
   try dsimp only at bd
   try dsimp only
   refine sr (an ?_)
   exact ar [.bool false] Do U hX rd (cs hs4)
  ·refine ck (ι:=Nat×List Rule) (fun i=>[(1,Q b1),(3,I ((i.1:Nat):Int))]) (fun i=>h) (fun i=>[(b1,O (Policy.cells p fp) 68)]) (fun i=>p.Rules.drop i.1=i.2∧i.1≤p.Rules.length∧e6 p=((e6.L1 (e6.K1)) i.2 )) (fun i=>i.2.length) (0,p.Rules) rd sw ⟨U,Nat.zero_le _,hs3⟩ ?_
   rintro ⟨i1,s1⟩ ⟨hd1,bd,hs6⟩ ag1 e
   try dsimp only at hd1 bd
   rcases s1 with _ | ⟨y1,rz1⟩
   ·have dJ:=cS hd1
    try dsimp only
    refine ad (sr (aa (ay fC U (aL 0 ty63 U U U (bE jV U (az (v':=.bool false) U (cb dJ) (ac (ba U (bM U ?_)))))))))
    exact hx1 i1 _ ⟨bd,hs6⟩ trivial
   ·have dI:=dV hd1
    have bh:=cU hd1
    have e9:=aP hd1
    have gO:=hp.Rules.1.1
    try dsimp only
    refine ad (sr (aa (ay fC U (aL 0 ty63 U U U (bE jV U (az (v':=.bool true) U (cb dI) (ac (bj U (ai (ad (aU (sr (ay fC U (aL 0 ty63 U U U ?_))))))))))))))
    refine aa (a8 (gX jV ty107 hp.Rules.1 (nthZ bh) (bA bh) U U U (fun q2 cs2 A2 ln2 rr2=>?_)))
    obtain ⟨r2,rfl,ok2⟩:=rr2
    refine ay kn U (uO (j:=3) ty66 A2 U U (aA (v:=.bool (jm y1.Expr)) Tryz.call249 (rg h y1.Expr r2.Expr ok2.Expr) U (ac ?_)))
    refine aB U (fun c6=>?_) (fun c6=>?_)
    ·have hs8:=hs6.trans (bt c6)
     refine sr (an ?_)
     exact ar [.bool true] Do U hX rd (cs hs8)
    ·have hs10:=hs6.trans (bf c6)
     refine ai (ao (ah (aa (az (v':=I (((i1+1):Nat):Int)) U (bP ob) (an ?_)))))
     exact ag1 ((i1+1),rz1) _ (Nat.lt_succ_self _) ⟨bF hd1,aP hd1,hs10⟩ rd
theorem qz (h:HF) (c:Int)  : Ret Tryz.prog 276 [Y c] h (.bool (gS c)):=by
 refine aw Tryz.func276 U Tryz.ntmps276 U fun X hM hX=>?_
 have hs0:gS c=gS c:=rfl
 refine sr (an (sr (aa (aF U (aa ?_)))))
 refine tq 3 [(0,Y c),(8,.bool (decide (97≤c)&&decide (c≤122)))] (fun hk1=>?_) (fun e=>?_)
 ·refine au 5 U (fun c1=>?_) (fun c1=>?_)
  ·refine aa (aF U (ae U ?_))
   exact hk1 _ ⟨U,(cb (cY c1)),trivial⟩
  ·refine kq (ae U ?_)
   exact hk1 _ ⟨U,(cb (cZ c1)),trivial⟩
 refine aa ?_
 refine tq 7 [(16,.bool ((decide (97≤c)&&decide (c≤122))||(decide (65≤c)&&decide (c≤90))))] (fun hk2=>?_) (fun e=>?_)
 ·refine au 9 U (fun c2=>?_) (fun c2=>?_)
  ·refine kq (kq (kq (ae U ?_)))
   exact hk2 _ ⟨(cb (eB c2)),trivial⟩
  ·refine aa (aF U (aa ?_))
   refine tq 3 [(9,.bool false),(15,.bool (decide (65≤c)&&decide (c≤90)))] (fun hk3=>?_) (fun e=>?_)
   ·refine au 12 U (fun c3=>?_) (fun c3=>?_)
    ·refine aa (aF U (ae U ?_))
     exact hk3 _ ⟨U,(cb (cY c3)),trivial⟩
    ·refine kq (ae U ?_)
     exact hk3 _ ⟨U,(cb (cZ c3)),trivial⟩
   refine ae U ?_
   exact hk2 _ ⟨(cb (eE c2)),trivial⟩
 refine an ?_
 exact ar [.bool ((decide (97≤c)&&decide (c≤122))||(decide (65≤c)&&decide (c≤90)))] Tryz.func276 U hX rd (cs hs0)
theorem wf (h:HF) (c:Int)  : Ret Tryz.prog 280 [Y c] h (.bool (jE c)):=by
 refine aw Tryz.func280 U Tryz.ntmps280 U fun X hM hX=>?_
 have hs0:jE c=jE c:=rfl
 refine sr (an (sr (aa (aF U (aa ?_)))))
 refine tq 3 [(8,.bool (decide (48≤c)&&decide (c≤57)))] (fun hk1=>?_) (fun e=>?_)
 ·refine au 5 U (fun c1=>?_) (fun c1=>?_)
  ·refine aa (aF U (ae U ?_))
   exact hk1 _ ⟨(cb (cY c1)),trivial⟩
  ·refine kq (ae U ?_)
   exact hk1 _ ⟨(cb (cZ c1)),trivial⟩
 refine an ?_
 exact ar [.bool (decide (48≤c)&&decide (c≤57))] Tryz.func280 U hX rd (cs hs0)
theorem yQ (h:HF) (c:Int)  : Ret Tryz.prog 277 [Y c] h (.bool (lT c)):=by
 refine aw Tryz.func277 U Tryz.ntmps277 U fun X hM hX=>?_
 have hs0:lT c=lT c:=rfl
 refine sr (an (sr (aa (aA (v:=.bool (gS c)) Tryz.call276 (qz h c ) U (aa ?_)))))
 refine tq 3 [(0,Y c),(8,.bool ((gS c)||(jE c)))] (fun hk1=>?_) (fun e=>?_)
 ·refine au 5 U (fun c1=>?_) (fun c1=>?_)
  ·refine kq (ae U ?_)
   exact hk1 _ ⟨U,(cb (eB c1)),trivial⟩
  ·refine aa (aA (v:=.bool (jE c)) Tryz.call280 (wf h c ) U (ae U ?_))
   exact hk1 _ ⟨U,(cb (eE c1)),trivial⟩
 refine aa ?_
 refine tq 3 [(12,.bool (((gS c)||(jE c))||(c==95)))] (fun hk2=>?_) (fun e=>?_)
 ·refine au 9 U (fun c2=>?_) (fun c2=>?_)
  ·refine kq (ae U ?_)
   exact hk2 _ ⟨(cb (eB c2)),trivial⟩
  ·refine aa (aF U (ae U ?_))
   exact hk2 _ ⟨(cb (eE c2)),trivial⟩
 refine an ?_
 exact ar [.bool (((gS c)||(jE c))||(c==95))] Tryz.func277 U hX rd (cs hs0)
theorem yR (h:HF) (s:ByteArray)  : Ret Tryz.prog 268 [.string s] h (.bool (fW s)):=by
 refine aw Dn U Tryz.ntmps268 U fun X hM hX=>?_
 have hs0:fW s=fW s:=rfl
 refine sr (an (ad (sr (aa (a8 (gW (uJ tL U) (aF U (aa ?_))))))))
 refine tq 4 [(0,.string s),(11,.bool (decide (((s.size:Nat):Int) < 1)||decide (32 < ((s.size:Nat):Int))))] (fun hk1=>?_) (fun e=>?_)
 ·refine au 7 U (fun c1=>?_) (fun c1=>?_)
  ·refine kq (bY (ae U ?_))
   exact hk1 _ ⟨U,(cb (eB c1)),trivial⟩
  ·refine aa (a8 (gW (uJ tL U) (aF U (ae U ?_))))
   exact hk1 _ ⟨U,(cb (eE c1)),trivial⟩
 refine aa ?_
 refine tq 5 [(0,.string s),(17,.bool ((decide (((s.size:Nat):Int) < 1)||decide (32 < ((s.size:Nat):Int)))||(!(gS ((s.data.getD (0:Int).toNat 0).toNat:Int)))))] (fun hk2=>?_) (fun e=>?_)
 ·refine au 12 U (fun c2=>?_) (fun c2=>?_)
  ·refine kq (kq (ae U ?_))
   exact hk2 _ ⟨U,(cb (eB c2)),trivial⟩
  ·refine aa ?_
   have ho1:0≤(0:Int)∧(0:Int) < (s.size:Int):=ob
   refine a8 (gW (As tL U U ho1) (aA (v:=.bool (gS ((s.data.getD (0:Int).toNat 0).toNat:Int))) Tryz.call276 (qz h ((s.data.getD (0:Int).toNat 0).toNat:Int)) U (cR U (ae U ?_))))
   exact hk2 _ ⟨U,(cb (eE c2)),trivial⟩
 refine ac ?_
 refine aB U (fun c3=>?_) (fun c3=>?_)
 ·have hs1:=hs0.trans (bt c3)
  refine sr (an ?_)
  exact ar [.bool false] Dn U hX rd (cs hs1)
 ·have hs3:=hs0.trans (bf c3)
  refine ai (ad (sr (an ?_)))
  refine bq (ι:=Nat) (fun i=>[]) (fun i=>h) (fun i=>[]) (fun i=>i≤(List.range s.size).length∧fW s=((fW.K1))) ?_ (fun hx1=>?_)
  ·rintro i1 ⟨bd,hs4⟩ e
   try dsimp only at bd
   try dsimp only
   refine sr (an ?_)
   exact ar [.bool true] Dn U hX rd (cs hs4)
  ·refine ck (ι:=Nat×List Nat) (fun i=>[(0,.string s),(3,I ((i.1:Nat):Int))]) (fun i=>h) (fun i=>[]) (fun i=>(List.range s.size).drop i.1=i.2∧i.1≤(List.range s.size).length∧fW s=((fW.L1 s (fW.K1)) i.2 i.1)) (fun i=>i.2.length) (0,(List.range s.size)) rd sw ⟨U,Nat.zero_le _,hs3⟩ ?_
   rintro ⟨i1,s1⟩ ⟨hd1,bd,hs6⟩ ag1 e
   try dsimp only at hd1 bd
   rcases s1 with _ | ⟨y1,rz1⟩
   ·have dJ:decide (((i1:Nat):Int) < ((s.size:Nat):Int))=false:=by simpa using cS hd1
    try dsimp only
    refine ad (sr (aa (aa (a8 (gW (uJ tL U) (az (v':=.bool false) U (cb dJ) (ac (ba U (bM U ?_)))))))))
    exact hx1 i1 _ ⟨bd,hs6⟩ trivial
   ·have dI:decide (((i1:Nat):Int) < ((s.size:Nat):Int))=true:=by simpa using dV hd1
    have e9:i1 < s.size:=by simpa using aP hd1
    try dsimp only
    refine ad (sr (aa (aa (a8 (gW (uJ tL U) (az (v':=.bool true) U (cb dI) (ac (bj U (ai (ad (aU (sr (aa (aa ?_))))))))))))))
    have ho3:0≤(((i1:Nat):Int):Int)∧(((i1:Nat):Int):Int) < (s.size:Int):=ob
    refine a8 (gW (As tL U U ho3) (aA (v:=.bool (lT ((s.data.getD (((i1:Nat):Int):Int).toNat 0).toNat:Int))) Tryz.call277 (yQ h ((s.data.getD (((i1:Nat):Int):Int).toNat 0).toNat:Int)) U (cR U (ac ?_))))
    refine aB U (fun c5=>?_) (fun c5=>?_)
    ·have hs8:=hs6.trans (bt c5)
     refine sr (an ?_)
     exact ar [.bool false] Dn U hX rd (cs hs8)
    ·have hs10:=hs6.trans (bf c5)
     refine ai (ao (ah (aa (az (v':=I (((i1+1):Nat):Int)) U (bP ob) ?_))))
     refine an ?_
     exact ag1 ((i1+1),rz1) _ (Nat.lt_succ_self _) ⟨bF hd1,aP hd1,hs10⟩ rd
theorem yM (h:HF) (s:ByteArray)  : Ret Tryz.prog 269 [.string s] h (.bool (kB s)):=by
 refine aw lz U Tryz.ntmps269 U fun X hM hX=>?_
 have hs0:kB s=kB s:=rfl
 refine sr (an (ad (sr (aa (ac (aU (ad (sr (aF U (an ?_))))))))))
 refine aB U (fun c1=>?_) (fun c1=>?_)
 ·have hs1:=hs0.trans (bt c1)
  refine ai ?_
  refine aB U (fun c2=>?_) (fun c2=>?_)
  ·have hs2:=hs1.trans (bt c2)
   refine sr (an ?_)
   exact ar [.bool true] lz U hX rd (cs hs2)
  ·have hs4:=hs1.trans (bf c2)
   refine ai (ao (sr (an ?_)))
   exact ar [.bool false] lz U hX rd (cs hs4)
 ·have hs6:=hs0.trans (bf c1)
  refine sr (aF U (an ?_))
  refine aB U (fun c3=>?_) (fun c3=>?_)
  ·have hs7:=hs6.trans (bt c3)
   refine ai ?_
   refine aB U (fun c4=>?_) (fun c4=>?_)
   ·have hs8:=hs7.trans (bt c4)
    refine sr (an ?_)
    exact ar [.bool true] lz U hX rd (cs hs8)
   ·have hs10:=hs7.trans (bf c4)
    refine ai (ao (sr (an ?_)))
    exact ar [.bool false] lz U hX rd (cs hs10)
  ·have hs12:=hs6.trans (bf c3)
   refine sr (aF U (an ?_))
   refine aB U (fun c5=>?_) (fun c5=>?_)
   ·have hs13:=hs12.trans (bt c5)
    refine ai ?_
    refine aB U (fun c6=>?_) (fun c6=>?_)
    ·have hs14:=hs13.trans (bt c6)
     refine sr (an ?_)
     exact ar [.bool true] lz U hX rd (cs hs14)
    ·have hs16:=hs13.trans (bf c6)
     refine ai (ao (sr (an ?_)))
     exact ar [.bool false] lz U hX rd (cs hs16)
   ·have hs18:=hs12.trans (bf c5)
    refine sr (aF U (an ?_))
    refine aB U (fun c7=>?_) (fun c7=>?_)
    ·have hs19:=hs18.trans (bt c7)
     refine ai ?_
     refine aB U (fun c8=>?_) (fun c8=>?_)
     ·have hs20:=hs19.trans (bt c8)
      refine sr (an ?_)
      exact ar [.bool true] lz U hX rd (cs hs20)
     ·have hs22:=hs19.trans (bf c8)
      refine ai (ao (sr (an ?_)))
      exact ar [.bool false] lz U hX rd (cs hs22)
    ·have hs24:=hs18.trans (bf c7)
     refine sr (aF U (an ?_))
     refine aB U (fun c9=>?_) (fun c9=>?_)
     ·have hs25:=hs24.trans (bt c9)
      refine ai ?_
      refine aB U (fun c10=>?_) (fun c10=>?_)
      ·have hs26:=hs25.trans (bt c10)
       refine sr (an ?_)
       exact ar [.bool true] lz U hX rd (cs hs26)
      ·have hs28:=hs25.trans (bf c10)
       refine ai (ao (sr (an ?_)))
       exact ar [.bool false] lz U hX rd (cs hs28)
     ·have hs30:=hs24.trans (bf c9)
      refine sr (aF U (an ?_))
      refine aB U (fun c11=>?_) (fun c11=>?_)
      ·have hs31:=hs30.trans (bt c11)
       refine ai ?_
       refine aB U (fun c12=>?_) (fun c12=>?_)
       ·have hs32:=hs31.trans (bt c12)
        refine sr (an ?_)
        exact ar [.bool true] lz U hX rd (cs hs32)
       ·have hs34:=hs31.trans (bf c12)
        refine ai (ao (sr (an ?_)))
        exact ar [.bool false] lz U hX rd (cs hs34)
      ·have hs36:=hs30.trans (bf c11)
       refine sr (aF U (an ?_))
       refine aB U (fun c13=>?_) (fun c13=>?_)
       ·have hs37:=hs36.trans (bt c13)
        refine ai ?_
        refine aB U (fun c14=>?_) (fun c14=>?_)
        ·have hs38:=hs37.trans (bt c14)
         refine sr (an ?_)
         exact ar [.bool true] lz U hX rd (cs hs38)
        ·have hs40:=hs37.trans (bf c14)
         refine ai (ao (sr (an ?_)))
         exact ar [.bool false] lz U hX rd (cs hs40)
       ·have hs42:=hs36.trans (bf c13)
        refine sr (aF U (an ?_))
        refine aB U (fun c15=>?_) (fun c15=>?_)
        ·have hs43:=hs42.trans (bt c15)
         refine ai ?_
         refine aB U (fun c16=>?_) (fun c16=>?_)
         ·have hs44:=hs43.trans (bt c16)
          refine sr (an ?_)
          exact ar [.bool true] lz U hX rd (cs hs44)
         ·have hs46:=hs43.trans (bf c16)
          refine ai (ao (sr (an ?_)))
          exact ar [.bool false] lz U hX rd (cs hs46)
        ·have hs48:=hs42.trans (bf c15)
         refine sr (aF U (an ?_))
         refine aB U (fun c17=>?_) (fun c17=>?_)
         ·have hs49:=hs48.trans (bt c17)
          refine ai ?_
          refine aB U (fun c18=>?_) (fun c18=>?_)
          ·have hs50:=hs49.trans (bt c18)
           refine sr (an ?_)
           exact ar [.bool true] lz U hX rd (cs hs50)
          ·have hs52:=hs49.trans (bf c18)
           refine ai (ao (sr (an ?_)))
           exact ar [.bool false] lz U hX rd (cs hs52)
         ·have hs54:=hs48.trans (bf c17)
          refine sr (aF U (an ?_))
          refine aB U (fun c19=>?_) (fun c19=>?_)
          ·have hs55:=hs54.trans (bt c19)
           refine ai ?_
           refine aB U (fun c20=>?_) (fun c20=>?_)
           ·have hs56:=hs55.trans (bt c20)
            refine sr (an ?_)
            exact ar [.bool true] lz U hX rd (cs hs56)
           ·have hs58:=hs55.trans (bf c20)
            refine ai (ao (sr (an ?_)))
            exact ar [.bool false] lz U hX rd (cs hs58)
          ·have hs60:=hs54.trans (bf c19)
           refine sr (aF U (an ?_))
           refine aB U (fun c21=>?_) (fun c21=>?_)
           ·have hs61:=hs60.trans (bt c21)
            refine ai ?_
            refine aB U (fun c22=>?_) (fun c22=>?_)
            ·have hs62:=hs61.trans (bt c22)
             refine sr (an ?_)
             exact ar [.bool true] lz U hX rd (cs hs62)
            ·have hs64:=hs61.trans (bf c22)
             refine ai (ao (sr (an ?_)))
             exact ar [.bool false] lz U hX rd (cs hs64)
           ·have hs66:=hs60.trans (bf c21)
            refine sr (aF U (an ?_))
            refine aB U (fun c23=>?_) (fun c23=>?_)
            ·have hs67:=hs66.trans (bt c23)
             refine ai ?_
             refine aB U (fun c24=>?_) (fun c24=>?_)
             ·have hs68:=hs67.trans (bt c24)
              refine sr (an ?_)
              exact ar [.bool true] lz U hX rd (cs hs68)
             ·have hs70:=hs67.trans (bf c24)
              refine ai (ao (sr (an ?_)))
              exact ar [.bool false] lz U hX rd (cs hs70)
            ·have hs72:=hs66.trans (bf c23)
             refine sr (aF U (an ?_))
             refine aB U (fun c25=>?_) (fun c25=>?_)
             ·have hs73:=hs72.trans (bt c25)
              refine ai ?_
              refine aB U (fun c26=>?_) (fun c26=>?_)
              ·have hs74:=hs73.trans (bt c26)
               refine sr (an ?_)
               exact ar [.bool true] lz U hX rd (cs hs74)
              ·have hs76:=hs73.trans (bf c26)
               refine ai (ao (sr (an ?_)))
               exact ar [.bool false] lz U hX rd (cs hs76)
             ·have hs78:=hs72.trans (bf c25)
              refine sr (aF U (an ?_))
              refine aB U (fun c27=>?_) (fun c27=>?_)
              ·have hs79:=hs78.trans (bt c27)
               refine ai ?_
               refine aB U (fun c28=>?_) (fun c28=>?_)
               ·have hs80:=hs79.trans (bt c28)
                refine sr (an ?_)
                exact ar [.bool true] lz U hX rd (cs hs80)
               ·have hs82:=hs79.trans (bf c28)
                refine ai (ao (sr (an ?_)))
                exact ar [.bool false] lz U hX rd (cs hs82)
              ·have hs84:=hs78.trans (bf c27)
               refine sr (aF U (an ?_))
               refine aB U (fun c29=>?_) (fun c29=>?_)
               ·have hs85:=hs84.trans (bt c29)
                refine ai ?_
                refine aB U (fun c30=>?_) (fun c30=>?_)
                ·have hs86:=hs85.trans (bt c30)
                 refine sr (an ?_)
                 exact ar [.bool true] lz U hX rd (cs hs86)
                ·have hs88:=hs85.trans (bf c30)
                 refine ai (ao (sr (an ?_)))
                 exact ar [.bool false] lz U hX rd (cs hs88)
               ·have hs90:=hs84.trans (bf c29)
                refine ah (aF U (an ?_))
                refine aB U (fun c31=>?_) (fun c31=>?_)
                ·have hs91:=hs90.trans (bt c31)
                 refine sr (an ?_)
                 exact ar [.bool true] lz U hX rd (cs hs91)
                ·have hs93:=hs90.trans (bf c31)
                 refine ai (ao (sr (an ?_)))
                 exact ar [.bool false] lz U hX rd (cs hs93)
end Go.Sg
namespace Go.Sg
open Go.Proofs
set_option maxHeartbeats 2000000
set_option maxRecDepth 100000
set_option linter.unusedVariables false
theorem sO (h:HF) (s:ByteArray)  : Ret Tryz.prog 250 [.string s] h (.bool (jz s)):=by
 refine aw Tryz.func250 U Tryz.ntmps250 U fun X hM hX=>?_
 have hs0:jz s=jz s:=rfl
 refine sr (an (sr (aa (aA (v:=.bool (fW s)) Tryz.call268 (yR h s ) U (aa ?_)))))
 refine tq 4 [(9,.bool ((fW s)&&(!(kB s))))] (fun hk1=>?_) (fun e=>?_)
 ·refine au 5 U (fun c1=>?_) (fun c1=>?_)
  ·refine aa (aA (v:=.bool (kB s)) Tryz.call269 (yM h s ) U (cR U (ae U ?_)))
   exact hk1 _ ⟨(cb (cY c1)),trivial⟩
  ·refine kq (bY (ae U ?_))
   exact hk1 _ ⟨(cb (cZ c1)),trivial⟩
 refine an ?_
 exact ar [.bool ((fW s)&&(!(kB s)))] Tryz.func250 U hX rd (cs hs0)
theorem nQ (h:HF) (l:(List ByteArray)) (fc:Option Addr) (fb:Nat) (s:ByteArray) (hl:SlC Rp.str h fc fb l):Ret Tryz.prog 254 [.slice fc l.length fb,.string s] h (I (dl l s)):=by
 refine aw Tryz.func254 U Tryz.ntmps254 U fun X hM hX=>?_
 have hs0:dl l s=dl l s:=rfl
 refine sr (an (ad (sr (an ?_))))
 refine bq (ι:=Nat) (fun i=>[]) (fun i=>h) (fun i=>[]) (fun i=>i≤l.length∧dl l s=((dl.K1))) ?_ (fun hx1=>?_)
 ·rintro i1 ⟨bd,hs1⟩ e
  try dsimp only at bd
  try dsimp only
  refine sr (an ?_)
  exact ar [I (-1)] Tryz.func254 U hX rd (ci hs1)
 ·refine ck (ι:=Nat×List ByteArray) (fun i=>[(0,.slice fc l.length fb),(1,.string s),(5,I ((i.1:Nat):Int))]) (fun i=>h) (fun i=>[]) (fun i=>l.drop i.1=i.2∧i.1≤l.length∧dl l s=((dl.L1 s (dl.K1)) i.2 i.1)) (fun i=>i.2.length) (0,l) rd sw ⟨U,Nat.zero_le _,hs0⟩ ?_
  rintro ⟨i1,s1⟩ ⟨hd1,bd,hs3⟩ ag1 e
  try dsimp only at hd1 bd
  rcases s1 with _ | ⟨y1,rz1⟩
  ·have dJ:=cS hd1
   try dsimp only
   refine ad (sr (aa (aa (bE kV U (az (v':=.bool false) U (cb dJ) (ac (ba U (bM U ?_))))))))
   exact hx1 i1 _ ⟨bd,hs3⟩ trivial
  ·have dI:=dV hd1
   have bh:=cU hd1
   have e9:=aP hd1
   have gO:=hl.1.1
   try dsimp only
   refine ad (sr (aa (aa (bE kV U (az (v':=.bool true) U (cb dI) (ac (bj U (ai (ad (aU (sr (aa (aa (a8 (fZ (enc:=fun y=>[.string y]) (fun _ _ _ e=>e) kV ty9 hl.1 (nthZ bh) (bA bh) U U U (fun q2 A2=>?_))))))))))))))))
   refine eM ty9 A2 U (aa (aF U (ac ?_)))
   refine aB U (fun c2=>?_) (fun c2=>?_)
   ·have hs5:=hs3.trans (bt c2)
    refine sr (aa (an ?_))
    exact ar [I ((i1:Nat):Int)] Tryz.func254 U hX rd (ci hs5)
   ·have hs7:=hs3.trans (bf c2)
    refine ai (ao (ah (aa (az (v':=I (((i1+1):Nat):Int)) U (bP ob) (an ?_)))))
    exact ag1 ((i1+1),rz1) _ (Nat.lt_succ_self _) ⟨bF hd1,aP hd1,hs7⟩ rd
theorem oI (h:HF) (l:(List ByteArray)) (fc:Option Addr) (fb:Nat) (hl:SlC Rp.str h fc fb l):Ret Tryz.prog 251 [.slice fc l.length fb] h (.bool (dS l)):=by
 refine aw Tryz.func251 U Tryz.ntmps251 U fun X hM hX=>?_
 have hs0:dS l=dS l:=rfl
 refine sr (an (ad (sr (an ?_))))
 refine bq (ι:=Nat) (fun i=>[]) (fun i=>h) (fun i=>[]) (fun i=>i≤l.length∧dS l=((dS.K1))) ?_ (fun hx1=>?_)
 ·rintro i1 ⟨bd,hs1⟩ e
  try dsimp only at bd
  try dsimp only
  refine sr (an ?_)
  exact ar [.bool true] Tryz.func251 U hX rd (cs hs1)
 ·refine ck (ι:=Nat×List ByteArray) (fun i=>[(0,.slice fc l.length fb),(3,I ((i.1:Nat):Int))]) (fun i=>h) (fun i=>[]) (fun i=>l.drop i.1=i.2∧i.1≤l.length∧dS l=((dS.L1 l (dS.K1)) i.2 i.1)) (fun i=>i.2.length) (0,l) rd sw ⟨U,Nat.zero_le _,hs0⟩ ?_
  rintro ⟨i1,s1⟩ ⟨hd1,bd,hs3⟩ ag1 e
  try dsimp only at hd1 bd
  rcases s1 with _ | ⟨y1,rz1⟩
  ·have dJ:=cS hd1
   try dsimp only
   refine ad (sr (aa (aa (bE kV U (az (v':=.bool false) U (cb dJ) (ac (ba U (bM U ?_))))))))
   exact hx1 i1 _ ⟨bd,hs3⟩ trivial
  ·have dI:=dV hd1
   have bh:=cU hd1
   have e9:=aP hd1
   have gO:=hl.1.1
   try dsimp only
   refine ad (sr (aa (aa (bE kV U (az (v':=.bool true) U (cb dI) (ac (bj U (ai (ad (aU (sr (aa (aa (a8 (fZ (enc:=fun y=>[.string y]) (fun _ _ _ e=>e) kV ty9 hl.1 (nthZ bh) (bA bh) U U U (fun q3 A3=>?_))))))))))))))))
   refine eM ty9 A3 U (aA (v:=.bool (jz y1)) Tryz.call250 (sO h y1 ) U (cR U (aa ?_)))
   refine tq 9 [(0,.slice fc l.length fb),(3,I ((i1:Nat):Int)),(25,.bool ((!(jz y1))||((dl l y1) != ((i1:Nat):Int))))] (fun hk1=>?_) (fun e=>?_)
   ·refine au 16 U (fun c1=>?_) (fun c1=>?_)
    ·refine kq (kq (kq (kq (ae U ?_))))
     exact hk1 _ ⟨U,U,(cb (eB c1)),trivial⟩
    ·refine aa (aa (aa (a8 (fZ (enc:=fun y=>[.string y]) (fun _ _ _ e=>e) kV ty9 hl.1 (nthZ bh) (bA bh) U U U (fun q4 A4=>eM ty9 A4 U (aA (v:=I (dl l y1)) Tryz.call254 (nQ h l fc fb y1 hl) U ?_))))))
     refine aa (aF U (ae U ?_))
     exact hk1 _ ⟨U,U,(cb (eE c1)),trivial⟩
   refine ac ?_
   refine aB U (fun c2=>?_) (fun c2=>?_)
   ·have hs5:=hs3.trans (bt c2)
    refine sr (an ?_)
    exact ar [.bool false] Tryz.func251 U hX rd (cs hs5)
   ·have hs7:=hs3.trans (bf c2)
    refine ai (ao (ah (aa (az (v':=I (((i1+1):Nat):Int)) U (bP ob) (an ?_)))))
    exact ag1 ((i1+1),rz1) _ (Nat.lt_succ_self _) ⟨bF hd1,aP hd1,hs7⟩ rd
theorem vX (rec:(List ByteArray)→Expr→Bool) (h:HF) (offices:(List ByteArray)) (cB:Option Addr) (cA:Nat) (x:Expr) (fu:cM) (hrec:∀ (h:HF) (qoffices:(List ByteArray)) (iO:Option Addr) (iN:Nat) (qx:Expr) (jA:cM) (hqoffices:SlC Rp.str h iO iN qoffices) (hqx:Expr.ok h qx jA) (_:qx.dep < x.dep),Ret Tryz.prog 252 [.slice iO qoffices.length iN,.agg (Expr.cells qx jA).toArray] h (.bool (rec qoffices qx))) (hoffices:SlC Rp.str h cB cA offices) (hx:Expr.ok h x fu):Ret Tryz.prog 252 [.slice cB offices.length cA,.agg (Expr.cells x fu).toArray] h (.bool (ce.F rec offices x)):=by
 refine aw Dm U Tryz.ntmps252 U fun X hM hX=>?_
 have hs0:ce.F rec offices x=ce.F rec offices x:=rfl
 refine sr (dC (fun b1=>an (ad (sr (ay kP U (aL 0 ty3 U U U (aF U (aa ?_))))))))
 refine tq 4 [(0,.slice cB offices.length cA),(3,Q b1),(13,.bool ((x.Kind==1)||(x.Kind==2)))] (fun hk1=>?_) (fun e=>?_)
 ·refine au 9 U (fun c1=>?_) (fun c1=>?_)
  ·refine kq (bY (ae U ?_))
   exact hk1 _ ⟨U,U,(cb (eB c1)),trivial⟩
  ·refine ay kP U (aL 0 ty3 U U U (aF U (ae U ?_)))
   exact hk1 _ ⟨U,U,(cb (eE c1)),trivial⟩
 refine aa ?_
 refine tq 6 [(0,.slice cB offices.length cA),(3,Q b1),(20,.bool (((x.Kind==1)||(x.Kind==2))&&decide ((dl offices x.Name) < 0)))] (fun hk2=>?_) (fun e=>?_)
 ·refine au 14 U (fun c2=>?_) (fun c2=>?_)
  ·refine aa (ay my U (aL 0 ty9 U U U (aA (v:=I (dl offices x.Name)) Tryz.call254 (nQ h offices cB cA x.Name hoffices) U (aF U (ae U ?_)))))
   exact hk2 _ ⟨U,U,(cb (cY c2)),trivial⟩
  ·refine kq (kq (bY (ae U ?_)))
   exact hk2 _ ⟨U,U,(cb (cZ c2)),trivial⟩
 refine ac ?_
 refine aB U (fun c3=>?_) (fun c3=>?_)
 ·have hs1:=hs0.trans (bt c3)
  refine sr (an ?_)
  exact ar [.bool false] Dm U hX rd (cs hs1)
 ·have hs3:=hs0.trans (bf c3)
  refine ai (ad (sr (an ?_)))
  refine bq (ι:=Nat) (fun i=>[]) (fun i=>h) (fun i=>[(b1,O (Expr.cells x fu) 66)]) (fun i=>i≤x.L.length∧ce.F rec offices x=((ce.K1))) ?_ (fun hx1=>?_)
  ·rintro i1 ⟨bd,hs4⟩ e
   try dsimp only at bd
   try dsimp only
   refine sr (an ?_)
   exact ar [.bool true] Dm U hX rd (cs hs4)
  ·refine ck (ι:=Nat×List Expr) (fun i=>[(0,.slice cB offices.length cA),(3,Q b1),(5,I ((i.1:Nat):Int))]) (fun i=>h) (fun i=>[(b1,O (Expr.cells x fu) 66)]) (fun i=>x.L.drop i.1=i.2∧i.1≤x.L.length∧ce.F rec offices x=((ce.L1 rec offices (ce.K1)) i.2 )) (fun i=>i.2.length) (0,x.L) rd sw ⟨U,Nat.zero_le _,hs3⟩ ?_
   rintro ⟨i1,s1⟩ ⟨hd1,bd,hs6⟩ ag1 e
   try dsimp only at hd1 bd
   rcases s1 with _ | ⟨y1,rz1⟩
   ·have dJ:=cS hd1
    try dsimp only
    refine ad (sr (aa (ay dF U (aL 0 ty64 U U U (bE gg U (az (v':=.bool false) U (cb dJ) (ac (ba U (bM U ?_)))))))))
    exact hx1 i1 _ ⟨bd,hs6⟩ trivial
   ·have dI:=dV hd1
    have bh:=cU hd1
    have e9:=aP hd1
    have gO:=hx.list.1.1
    try dsimp only
    refine ad (sr (aa (ay dF U (aL 0 ty64 U U U (bE gg U (az (v':=.bool true) U (cb dI) (ac (bj U (ai (ad (aU (sr (aa (ay dF U ?_))))))))))))))
    refine aL 0 ty64 U U U (aa (a8 (gX gg ty66 hx.list.1 (nthZ bh) (bA bh) U U U (fun q2 cs2 A2 ln2 rr2=>?_))))
    obtain ⟨r2,rfl,ok2⟩:=rr2
    refine dT ty66 A2 U U (aA (v:=.bool (rec offices y1)) Tryz.call252 (hrec h offices cB cA y1 r2 hoffices ok2 (Expr.iv (gm hd1))) U (cR U (ac ?_)))
    refine aB U (fun c5=>?_) (fun c5=>?_)
    ·have hs8:=hs6.trans (bt c5)
     refine sr (an ?_)
     exact ar [.bool false] Dm U hX rd (cs hs8)
    ·have hs10:=hs6.trans (bf c5)
     refine ai (ao (ah (aa (az (v':=I (((i1+1):Nat):Int)) U (bP ob) (an ?_)))))
     exact ag1 ((i1+1),rz1) _ (Nat.lt_succ_self _) ⟨bF hd1,aP hd1,hs10⟩ rd
theorem oH:∀ (m:Nat) (h:HF) (offices:(List ByteArray)) (cB:Option Addr) (cA:Nat) (x:Expr) (fu:cM) (_:x.dep≤m) (hoffices:SlC Rp.str h cB cA offices) (hx:Expr.ok h x fu),Ret Tryz.prog 252 [.slice cB offices.length cA,.agg (Expr.cells x fu).toArray] h (.bool (ce.go m offices x))
 | 0,h,offices,cB,cA,x,fu,hd,hoffices,hx=>absurd hd (Nat.not_le.2 (Expr.j1 _))
 | m+1,h,offices,cB,cA,x,fu,hd,hoffices,hx=>vX (ce.go m) h offices cB cA x fu (fun qh_ qoffices iO iN qx jA qhoffices qhx qd=>oH m qh_ qoffices iO iN qx jA ob qhoffices qhx) hoffices hx
theorem rf (h:HF) (offices:(List ByteArray)) (cB:Option Addr) (cA:Nat) (x:Expr) (fu:cM) (hoffices:SlC Rp.str h cB cA offices) (hx:Expr.ok h x fu):Ret Tryz.prog 252 [.slice cB offices.length cA,.agg (Expr.cells x fu).toArray] h (.bool (ce offices x)):=oH _ h offices cB cA x fu (Nat.le_refl _) hoffices hx
theorem xa (h:HF) (p:Policy) (fp:fh) (hp:Policy.ok h p fp):Ret Tryz.prog 228 [.agg (Policy.cells p fp).toArray] h (.bool (f3 p)):=by
 refine aw Dl U Tryz.ntmps228 U fun X hM hX=>?_
 have hs0:f3 p=f3 p:=rfl
 refine sr (dC (fun b1=>an (ad (sr (ay wp U (aL 0 ty9 U U U (aA (v:=.bool (jz p.Name)) Tryz.call250 (sO h p.Name ) U (cR U (aa ?_)))))))))
 refine tq 5 [(1,Q b1),(13,.bool ((!(jz p.Name))||(!(dS p.Offices))))] (fun hk1=>?_) (fun e=>?_)
 ·refine au 8 U (fun c1=>?_) (fun c1=>?_)
  ·refine kq (kq (ae U ?_))
   exact hk1 _ ⟨U,(cb (eB c1)),trivial⟩
  ·refine ay jO U (aL 0 ty62 U U U (aA (v:=.bool (dS p.Offices)) Tryz.call251 (oI h p.Offices fp.dB fp.dA hp.Offices) U (cR U (ae U ?_))))
   exact hk1 _ ⟨U,(cb (eE c1)),trivial⟩
 refine aa ?_
 refine tq 5 [(1,Q b1),(19,.bool (((!(jz p.Name))||(!(dS p.Offices)))||(!(dS p.Kinds))))] (fun hk2=>?_) (fun e=>?_)
 ·refine au 14 U (fun c2=>?_) (fun c2=>?_)
  ·refine kq (kq (ae U ?_))
   exact hk2 _ ⟨U,(cb (eB c2)),trivial⟩
  ·refine ay kO U (aL 0 ty62 U U U (aA (v:=.bool (dS p.Kinds)) Tryz.call251 (oI h p.Kinds fp.fM fp.fL hp.Kinds) U (cR U (ae U ?_))))
   exact hk2 _ ⟨U,(cb (eE c2)),trivial⟩
 refine ac ?_
 refine aB U (fun c3=>?_) (fun c3=>?_)
 ·have hs1:=hs0.trans (bt c3)
  refine sr (an ?_)
  exact ar [.bool false] Dl U hX rd (cs hs1)
 ·have hs3:=hs0.trans (bf c3)
  refine ai (ad (sr (an ?_)))
  let z1:Nat×Obj:=(b1,O (Policy.cells p fp) 68)
  refine bq (ι:=Nat) (fun i=>[(1,Q b1)]) (fun i=>h) (fun i=>[z1]) (fun i=>i≤p.Rules.length∧f3 p=((f3.K1 p))) ?_ (fun hx1=>?_)
  ·rintro i1 ⟨bd,hs4⟩ e
   try dsimp only at bd
   try dsimp only
   refine sr (ay jO U (aL 0 ty62 U U U (ay lN U (dh 0 ty66 U U U (aA (v:=.bool (ce p.Offices p.Change)) Tryz.call252 (rf h p.Offices fp.dB fp.dA p.Change fp.Change hp.Offices hp.Change) U ?_)))))
   refine an ?_
   exact ar [.bool (ce p.Offices p.Change)] Dl U hX rd (cs hs4)
  ·refine ck (ι:=Nat×List Rule) (fun i=>[(1,Q b1),(3,I ((i.1:Nat):Int))]) (fun i=>h) (fun i=>[z1]) (fun i=>p.Rules.drop i.1=i.2∧i.1≤p.Rules.length∧f3 p=((f3.L1 p (f3.K1 p)) i.2 )) (fun i=>i.2.length) (0,p.Rules) rd sw ⟨U,Nat.zero_le _,hs3⟩ ?_
   rintro ⟨i1,s1⟩ ⟨hd1,bd,hs6⟩ ag1 e
   try dsimp only at hd1 bd
   rcases s1 with _ | ⟨y1,rz1⟩
   ·have dJ:=cS hd1
    try dsimp only
    refine ad (sr (aa (ay fC U (aL 0 ty63 U U U (bE jV U (az (v':=.bool false) U (cb dJ) (ac (ba U (bM U ?_)))))))))
    exact hx1 i1 _ ⟨bd,hs6⟩ rd
   ·have dI:=dV hd1
    have bh:=cU hd1
    have e9:=aP hd1
    have gO:=hp.Rules.1.1
    try dsimp only
    refine ad (sr (aa (ay fC U (aL 0 ty63 U U U (bE jV U (az (v':=.bool true) U (cb dI) (ac (bj U (ai (ad (aU (ad ?_))))))))))))
    refine gr ([z1]) mixed kr jn (fun fd _=>?_)
    refine tf 0 U U (fun _ _ _=>dO jO U) (tf 1 U U (fun _ _ hj=>hY ty62 U (hj.nth (i:=0) U) U) (tf 2 U U (fun _ _ _=>dO fC U) ?_))
    refine tf 3 U U (fun _ _ hj=>hY ty63 U (hj.nth (i:=0) U) U) (tm 4 U (jC 5 fd jn jV ty107 hp.Rules.1 (nthZ bh) (bA bh) U U U U kr (fun q2 cs2 A2 ln2 rr2=>?_)))
    obtain ⟨r2,rfl,ok2⟩:=rr2
    refine tf 6 U U (fun _ _ _=>dO kn U) (tf 7 U U (fun _ _ hj=>Gq 3 ty66 (A2.mono hj.1) U U) (tn 8 U ?_))
    refine fU (v:=.bool (ce p.Offices y1.Expr)) Tryz.call252 (rf h p.Offices fp.dB fp.dA y1.Expr r2.Expr hp.Offices ok2.Expr) U (⟨jn,?_⟩)
    refine tf 9 U U (fun _ _ _=>kH U) (cd kr ?_)
    refine aB U (fun c5=>?_) (fun c5=>?_)
    ·have hs8:=hs6.trans (bt c5)
     refine sr (an ?_)
     exact ar [.bool false] Dl U hX rd (cs hs8)
    ·have hs10:=hs6.trans (bf c5)
     refine ai (ao (ah (aa (az (v':=I (((i1+1):Nat):Int)) U (bP ob) (an ?_)))))
     exact ag1 ((i1+1),rz1) _ (Nat.lt_succ_self _) ⟨bF hd1,aP hd1,hs10⟩ rd
theorem rh (rec:Expr→Bool→Bool) (h:HF) (x:Expr) (fu:cM) (upto:Bool) (hrec:∀ (h:HF) (qx:Expr) (jA:cM) (qupto:Bool) (hqx:Expr.ok h qx jA) (_:qx.dep < x.dep),Ret Tryz.prog 253 [.agg (Expr.cells qx jA).toArray,.bool qupto] h (.bool (rec qx qupto))) (hx:Expr.ok h x fu):Ret Tryz.prog 253 [.agg (Expr.cells x fu).toArray,.bool upto] h (.bool (aQ.F rec x upto)):=by
 refine aw zl U Tryz.ntmps253 U fun X hM hX=>?_
 have hs0:aQ.F rec x upto=aQ.F rec x upto:=rfl
 refine sr (dC (fun b1=>an (ad (sr (an ?_)))))
 refine bq (ι:=Nat) (fun i=>[(1,.bool upto),(2,Q b1)]) (fun i=>h) (fun i=>[(b1,O (Expr.cells x fu) 66)]) (fun i=>i≤x.L.length∧aQ.F rec x upto=((aQ.K1 x upto))) ?_ (fun hx1=>?_)
 ·rintro i1 ⟨bd,hs1⟩ e
  try dsimp only at bd
  try dsimp only
  refine ad (sr (ay kP U (aL 0 ty3 U U U (ac (aU (sr (aF U (an ?_))))))))
  refine aB U (fun c3=>?_) (fun c3=>?_)
  ·have hs2:=hs1.trans (bt c3)
   refine sr (ay ka U (aL 0 ty3 U U U (aF U (aa ?_))))
   refine tq 5 [(33,.bool ((x.N==0)&&(((x.L.length:Nat):Int)==0)))] (fun hk1=>?_) (fun e=>?_)
   ·refine au 28 U (fun c4=>?_) (fun c4=>?_)
    ·refine ay dF U (aL 0 ty64 U U U (bE gg U (aF U (ae U ?_))))
     exact hk1 _ ⟨(cb (cY c4)),trivial⟩
    ·refine kq (kq (ae U ?_))
     exact hk1 _ ⟨(cb (cZ c4)),trivial⟩
   refine an ?_
   exact ar [.bool ((x.N==0)&&(((x.L.length:Nat):Int)==0))] zl U hX rd (cs hs2)
  ·have hs4:=hs1.trans (bf c3)
   refine sr (aF U (an ?_))
   refine aB U (fun c5=>?_) (fun c5=>?_)
   ·have hs5:=hs4.trans (bt c5)
    refine sr (ay ka U (aL 0 ty3 U U U (aF U (aa ?_))))
    refine tq 4 [(2,Q b1),(43,.bool (decide (1≤x.N)&&decide (x.N≤4096)))] (fun hk2=>?_) (fun e=>?_)
    ·refine au 39 U (fun c6=>?_) (fun c6=>?_)
     ·refine ay ka U (aL 0 ty3 U U U (aF U (ae U ?_)))
      exact hk2 _ ⟨U,(cb (cY c6)),trivial⟩
     ·refine kq (bY (ae U ?_))
      exact hk2 _ ⟨U,(cb (cZ c6)),trivial⟩
    refine aa ?_
    refine tq 5 [(49,.bool ((decide (1≤x.N)&&decide (x.N≤4096))&&(((x.L.length:Nat):Int)==0)))] (fun hk3=>?_) (fun e=>?_)
    ·refine au 44 U (fun c7=>?_) (fun c7=>?_)
     ·refine ay dF U (aL 0 ty64 U U U (bE gg U (aF U (ae U ?_))))
      exact hk3 _ ⟨(cb (cY c7)),trivial⟩
     ·refine kq (kq (ae U ?_))
      exact hk3 _ ⟨(cb (cZ c7)),trivial⟩
    refine an ?_
    exact ar [.bool ((decide (1≤x.N)&&decide (x.N≤4096))&&(((x.L.length:Nat):Int)==0))] zl U hX rd (cs hs5)
   ·have hs7:=hs4.trans (bf c5)
    refine sr (aF U (an ?_))
    refine aB U (fun c8=>?_) (fun c8=>?_)
    ·have hs8:=hs7.trans (bt c8)
     refine sr (ay my U (aL 0 ty9 U U U (aF U (aa ?_))))
     refine tq 5 [(2,Q b1),(60,.bool ((x.Name.toList==(⟨#[]⟩:ByteArray).toList)&&decide (1≤((x.L.length:Nat):Int))))] (fun hk4=>?_) (fun e=>?_)
     ·refine au 55 U (fun c9=>?_) (fun c9=>?_)
      ·refine ay dF U (aL 0 ty64 U U U (bE gg U (aF U (ae U ?_))))
       exact hk4 _ ⟨U,(cb (cY c9)),trivial⟩
      ·refine kq (kq (ae U ?_))
       exact hk4 _ ⟨U,(cb (cZ c9)),trivial⟩
     refine aa ?_
     refine tq 5 [(2,Q b1),(66,.bool (((x.Name.toList==(⟨#[]⟩:ByteArray).toList)&&decide (1≤((x.L.length:Nat):Int)))&&decide (((x.L.length:Nat):Int)≤16)))] (fun hk5=>?_) (fun e=>?_)
     ·refine au 61 U (fun c10=>?_) (fun c10=>?_)
      ·refine ay dF U (aL 0 ty64 U U U (bE gg U (aF U (ae U ?_))))
       exact hk5 _ ⟨U,(cb (cY c10)),trivial⟩
      ·refine kq (kq (ae U ?_))
       exact hk5 _ ⟨U,(cb (cZ c10)),trivial⟩
     refine aa ?_
     refine tq 4 [(2,Q b1),(71,.bool ((((x.Name.toList==(⟨#[]⟩:ByteArray).toList)&&decide (1≤((x.L.length:Nat):Int)))&&decide (((x.L.length:Nat):Int)≤16))&&decide (1≤x.N)))] (fun hk6=>?_) (fun e=>?_)
     ·refine au 67 U (fun c11=>?_) (fun c11=>?_)
      ·refine ay ka U (aL 0 ty3 U U U (aF U (ae U ?_)))
       exact hk6 _ ⟨U,(cb (cY c11)),trivial⟩
      ·refine kq (bY (ae U ?_))
       exact hk6 _ ⟨U,(cb (cZ c11)),trivial⟩
     refine aa ?_
     refine tq 7 [(79,.bool (((((x.Name.toList==(⟨#[]⟩:ByteArray).toList)&&decide (1≤((x.L.length:Nat):Int)))&&decide (((x.L.length:Nat):Int)≤16))&&decide (1≤x.N))&&decide (x.N≤((x.L.length:Nat):Int))))] (fun hk7=>?_) (fun e=>?_)
     ·refine au 72 U (fun c12=>?_) (fun c12=>?_)
      ·refine ay ka U (aL 0 ty3 U U U (ay dF U (aL 0 ty64 U U U (bE gg U (aF U (ae U ?_))))))
       exact hk7 _ ⟨(cb (cY c12)),trivial⟩
      ·refine kq (kq (kq (ae U ?_)))
       exact hk7 _ ⟨(cb (cZ c12)),trivial⟩
     refine an ?_
     exact ar [.bool (((((x.Name.toList==(⟨#[]⟩:ByteArray).toList)&&decide (1≤((x.L.length:Nat):Int)))&&decide (((x.L.length:Nat):Int)≤16))&&decide (1≤x.N))&&decide (x.N≤((x.L.length:Nat):Int)))] zl U hX rd (cs hs8)
    ·have hs10:=hs7.trans (bf c8)
     refine sr (aF U (an ?_))
     refine aB U (fun c13=>?_) (fun c13=>?_)
     ·have hs11:=hs10.trans (bt c13)
      refine sr (aa (aa ?_))
      refine tq 4 [(2,Q b1),(87,.bool (upto&&(x.Name.toList==(⟨#[]⟩:ByteArray).toList)))] (fun hk8=>?_) (fun e=>?_)
      ·refine au 83 U (fun c14=>?_) (fun c14=>?_)
       ·refine ay my U (aL 0 ty9 U U U (aF U (ae U ?_)))
        exact hk8 _ ⟨U,(cb (cY c14)),trivial⟩
       ·refine kq (bY (ae U ?_))
        exact hk8 _ ⟨U,(cb (cZ c14)),trivial⟩
      refine aa ?_
      refine tq 5 [(2,Q b1),(93,.bool ((upto&&(x.Name.toList==(⟨#[]⟩:ByteArray).toList))&&(((x.L.length:Nat):Int)==2)))] (fun hk9=>?_) (fun e=>?_)
      ·refine au 88 U (fun c15=>?_) (fun c15=>?_)
       ·refine ay dF U (aL 0 ty64 U U U (bE gg U (aF U (ae U ?_))))
        exact hk9 _ ⟨U,(cb (cY c15)),trivial⟩
       ·refine kq (kq (ae U ?_))
        exact hk9 _ ⟨U,(cb (cZ c15)),trivial⟩
      refine aa ?_
      refine tq 4 [(2,Q b1),(98,.bool (((upto&&(x.Name.toList==(⟨#[]⟩:ByteArray).toList))&&(((x.L.length:Nat):Int)==2))&&decide (0≤x.N)))] (fun hk10=>?_) (fun e=>?_)
      ·refine au 94 U (fun c16=>?_) (fun c16=>?_)
       ·refine ay ka U (aL 0 ty3 U U U (aF U (ae U ?_)))
        exact hk10 _ ⟨U,(cb (cY c16)),trivial⟩
       ·refine kq (bY (ae U ?_))
        exact hk10 _ ⟨U,(cb (cZ c16)),trivial⟩
      refine aa ?_
      refine tq 4 [(103,.bool ((((upto&&(x.Name.toList==(⟨#[]⟩:ByteArray).toList))&&(((x.L.length:Nat):Int)==2))&&decide (0≤x.N))&&decide (x.N≤1099511627776)))] (fun hk11=>?_) (fun e=>?_)
      ·refine au 99 U (fun c17=>?_) (fun c17=>?_)
       ·refine ay ka U (aL 0 ty3 U U U (aF U (ae U ?_)))
        exact hk11 _ ⟨(cb (cY c17)),trivial⟩
       ·refine kq (bY (ae U ?_))
        exact hk11 _ ⟨(cb (cZ c17)),trivial⟩
      refine an ?_
      exact ar [.bool ((((upto&&(x.Name.toList==(⟨#[]⟩:ByteArray).toList))&&(((x.L.length:Nat):Int)==2))&&decide (0≤x.N))&&decide (x.N≤1099511627776))] zl U hX rd (cs hs11)
     ·have hs13:=hs10.trans (bf c13)
      refine ai (ao (sr (an ?_)))
      exact ar [.bool false] zl U hX rd (cs hs13)
 ·refine ck (ι:=Nat×List Expr) (fun i=>[(1,.bool upto),(2,Q b1),(5,I ((i.1:Nat):Int))]) (fun i=>h) (fun i=>[(b1,O (Expr.cells x fu) 66)]) (fun i=>x.L.drop i.1=i.2∧i.1≤x.L.length∧aQ.F rec x upto=((aQ.L1 rec upto (aQ.K1 x upto)) i.2 )) (fun i=>i.2.length) (0,x.L) rd sw ⟨U,Nat.zero_le _,hs0⟩ ?_
  rintro ⟨i1,s1⟩ ⟨hd1,bd,hs15⟩ ag1 e
  try dsimp only at hd1 bd
  rcases s1 with _ | ⟨y1,rz1⟩
  ·have dJ:=cS hd1
   try dsimp only
   refine ad (sr (aa (ay dF U (aL 0 ty64 U U U (bE gg U (az (v':=.bool false) U (cb dJ) (ac (ba U (bM U ?_)))))))))
   exact hx1 i1 _ ⟨bd,hs15⟩ rd
  ·have dI:=dV hd1
   have bh:=cU hd1
   have e9:=aP hd1
   have gO:=hx.list.1.1
   try dsimp only
   refine ad (sr (aa (ay dF U (aL 0 ty64 U U U (bE gg U (az (v':=.bool true) U (cb dI) (ac (bj U (ai (ad (aU (sr (ay dF U (aL 0 ty64 U U U ?_))))))))))))))
   refine aa (a8 (gX gg ty66 hx.list.1 (nthZ bh) (bA bh) U U U (fun q2 cs2 A2 ln2 rr2=>?_)))
   obtain ⟨r2,rfl,ok2⟩:=rr2
   refine dT ty66 A2 U U (aa (aA (v:=.bool (rec y1 upto)) Tryz.call253 (hrec h y1 r2 upto ok2 (Expr.iv (gm hd1))) U (cR U (ac ?_))))
   refine aB U (fun c18=>?_) (fun c18=>?_)
   ·have hs17:=hs15.trans (bt c18)
    refine sr (an ?_)
    exact ar [.bool false] zl U hX rd (cs hs17)
   ·have hs19:=hs15.trans (bf c18)
    refine ai (ao (ah (aa (az (v':=I (((i1+1):Nat):Int)) U (bP ob) (an ?_)))))
    exact ag1 ((i1+1),rz1) _ (Nat.lt_succ_self _) ⟨bF hd1,aP hd1,hs19⟩ rd
theorem mj:∀ (m:Nat) (h:HF) (x:Expr) (fu:cM) (upto:Bool) (_:x.dep≤m) (hx:Expr.ok h x fu),Ret Tryz.prog 253 [.agg (Expr.cells x fu).toArray,.bool upto] h (.bool (aQ.go m x upto))
 | 0,h,x,fu,upto,hd,hx=>absurd hd (Nat.not_le.2 (Expr.j1 _))
 | m+1,h,x,fu,upto,hd,hx=>rh (aQ.go m) h x fu upto (fun qh_ qx jA qupto qhx qd=>mj m qh_ qx jA qupto ob qhx) hx
theorem np (h:HF) (x:Expr) (fu:cM) (upto:Bool) (hx:Expr.ok h x fu):Ret Tryz.prog 253 [.agg (Expr.cells x fu).toArray,.bool upto] h (.bool (aQ x upto)):=mj _ h x fu upto (Nat.le_refl _) hx
theorem vY (h:HF) (p:Policy) (fp:fh) (hp:Policy.ok h p fp):Ret Tryz.prog 229 [.agg (Policy.cells p fp).toArray] h (.bool (fD p)):=by
 refine aw Dk U Tryz.ntmps229 U fun X hM hX=>?_
 have hs0:fD p=fD p:=rfl
 refine sr (dC (fun b1=>an (ad (sr (ay kO U (aL 0 ty62 U U U (bE kV U (aF U (aa ?_)))))))))
 refine tq 8 [(1,Q b1),(17,.bool (decide (((p.Kinds.length:Nat):Int) < 1)||(((p.Rules.length:Nat):Int) != ((p.Kinds.length:Nat):Int))))] (fun hk1=>?_) (fun e=>?_)
 ·refine au 9 U (fun c1=>?_) (fun c1=>?_)
  ·refine kq (kq (kq (bY (ae U ?_))))
   exact hk1 _ ⟨U,(cb (eB c1)),trivial⟩
  ·refine ay fC U (aL 0 ty63 U U U (bE jV U (ay kO U (aL 0 ty62 U U U (bE kV U (aF U (ae U ?_)))))))
   exact hk1 _ ⟨U,(cb (eE c1)),trivial⟩
 refine aa ?_
 refine tq 4 [(1,Q b1),(22,.bool ((decide (((p.Kinds.length:Nat):Int) < 1)||(((p.Rules.length:Nat):Int) != ((p.Kinds.length:Nat):Int)))||decide (p.Mode < 1)))] (fun hk2=>?_) (fun e=>?_)
 ·refine au 18 U (fun c2=>?_) (fun c2=>?_)
  ·refine kq (bY (ae U ?_))
   exact hk2 _ ⟨U,(cb (eB c2)),trivial⟩
  ·refine ay sd U (aL 0 ty3 U U U (aF U (ae U ?_)))
   exact hk2 _ ⟨U,(cb (eE c2)),trivial⟩
 refine aa ?_
 refine tq 4 [(1,Q b1),(27,.bool (((decide (((p.Kinds.length:Nat):Int) < 1)||(((p.Rules.length:Nat):Int) != ((p.Kinds.length:Nat):Int)))||decide (p.Mode < 1))||decide (4 < p.Mode)))] (fun hk3=>?_) (fun e=>?_)
 ·refine au 23 U (fun c3=>?_) (fun c3=>?_)
  ·refine kq (bY (ae U ?_))
   exact hk3 _ ⟨U,(cb (eB c3)),trivial⟩
  ·refine ay sd U (aL 0 ty3 U U U (aF U (ae U ?_)))
   exact hk3 _ ⟨U,(cb (eE c3)),trivial⟩
 refine ac ?_
 refine aB U (fun c4=>?_) (fun c4=>?_)
 ·have hs1:=hs0.trans (bt c4)
  refine sr (an ?_)
  exact ar [.bool false] Dk U hX rd (cs hs1)
 ·have hs3:=hs0.trans (bf c4)
  refine ai (ad (sr (an ?_)))
  let z1:Nat×Obj:=(b1,O (Policy.cells p fp) 68)
  refine bq (ι:=Nat) (fun i=>[(1,Q b1)]) (fun i=>h) (fun i=>[z1]) (fun i=>i≤p.Rules.length∧fD p=((fD.K1 p))) ?_ (fun hx1=>?_)
  ·rintro i1 ⟨bd,hs4⟩ e
   try dsimp only at bd
   try dsimp only
   refine sr (ay lN U (dh 0 ty66 U U U (aA (v:=.bool (aQ p.Change false)) Tryz.call253 (np h p.Change fp.Change false hp.Change) U (an ?_))))
   exact ar [.bool (aQ p.Change false)] Dk U hX rd (cs hs4)
  ·refine ck (ι:=Nat×List Rule) (fun i=>[(1,Q b1),(3,I ((i.1:Nat):Int))]) (fun i=>h) (fun i=>[z1]) (fun i=>p.Rules.drop i.1=i.2∧i.1≤p.Rules.length∧fD p=((fD.L1 p (fD.K1 p)) i.2 i.1)) (fun i=>i.2.length) (0,p.Rules) rd sw ⟨U,Nat.zero_le _,hs3⟩ ?_
   rintro ⟨i1,s1⟩ ⟨hd1,bd,hs6⟩ ag1 e
   try dsimp only at hd1 bd
   rcases s1 with _ | ⟨y1,rz1⟩
   ·have dJ:=cS hd1
    try dsimp only
    refine ad (sr (aa (ay fC U (aL 0 ty63 U U U (bE jV U (az (v':=.bool false) U (cb dJ) (ac (ba U (bM U ?_)))))))))
    exact hx1 i1 _ ⟨bd,hs6⟩ rd
   ·have dI:=dV hd1
    have bh:=cU hd1
    have e9:=aP hd1
    have gO:=hp.Rules.1.1
    try dsimp only
    refine ad (sr (aa (ay fC U (aL 0 ty63 U U U (bE jV U (az (v':=.bool true) U (cb dI) (ac (bj U (ai (ad (aU (sr (ay fC U (aL 0 ty63 U U U ?_))))))))))))))
    refine aa (a8 (gX jV ty107 hp.Rules.1 (nthZ bh) (bA bh) U U U (fun q3 cs2 A3 ln2 rr2=>?_)))
    obtain ⟨r2,rfl,ok2⟩:=rr2
    refine dT ty107 A3 U U (bT zc107 (fun b3=>bJ 0 ty107 U U U U U U (ac (ad ?_))))
    refine mL [(1,Q b1),(3,I ((i1:Nat):Int)),(63,.bool ((((!(y1.Kind.toList==(nthI p.Kinds ((i1:Nat):Int)).toList))||decide (y1.Think < 0))||decide (1099511627776≤y1.Think))||(!(aQ y1.Expr true))))] (fun e=>?_) (fun hk4=>?_)
    rotate_left
    ·refine gr ([(b3,O (Rule.cells y1 r2) 107),z1]) mixed kr jn (fun fd _=>?_)
     refine tf 0 U U (fun _ _ _=>dO ut U) (tf 1 U U (fun _ _ hj=>hY ty9 U (hj.nth (i:=0) U) U) (tf 2 U U (fun _ _ _=>dO kO U) ?_))
     refine tf 3 U U (fun _ _ hj=>hY ty62 U (hj.nth (i:=1) U) U) (tm 4 U ?_)
     have ho2:0≤(((i1:Nat):Int):Int)∧(((i1:Nat):Int):Int) < ((p.Kinds).length:Int):=ob
     refine fR 5 (enc:=fun y=>[.string y]) fd jn (fun _ _ _ e=>e) kV ty9 hp.Kinds.1 ho2 (eN ho2) U U U U kr (fun q4 A4=>tf 6 U U (fun _ _ hj=>gu ty9 (A4.mono hj.1) U) ?_)
     refine tf 7 U U (fun _ _ _=>iH U) (tm 8 U ?_)
     refine eI 48 U (fun c5=>?_) (fun c5=>?_)
     ·refine tk 9 U U (tk 10 U U (tk 11 U U (tf 12 U U (fun _ _ _=>cr U) ?_)))
      refine tm 13 U (tk 14 U U (tk 15 U U (tk 16 U U ?_)))
      refine tf 17 U U (fun _ _ _=>cr U) (tm 18 U (tk 19 U U ?_))
      refine tk 20 U U (tk 21 U U (tk 22 U U (tf 23 U U (fun _ _ _=>cr U) ?_)))
      refine cd kr ?_
      exact hk4 _ ⟨U,U,(cb (show true=((((!(y1.Kind.toList==(nthI p.Kinds ((i1:Nat):Int)).toList))||decide (y1.Think < 0))||decide (1099511627776≤y1.Think))||(!(aQ y1.Expr true))) from by rw [c5] <;> rfl)),trivial⟩
     ·refine tf 9 U U (fun _ _ _=>dO og U) (tf 10 U U (fun _ _ hj=>hY ty3 U (hj.nth (i:=0) U) U) (tf 11 U U (fun _ _ _=>iH U) ?_))
      refine tf 12 U U (fun _ _ _=>cr U) (tm 13 U ?_)
      refine eI 53 U (fun c6=>?_) (fun c6=>?_)
      ·have c6p:=of_decide_eq_true c6
       refine tk 14 U U (tk 15 U U (tk 16 U U (tf 17 U U (fun _ _ _=>cr U) ?_)))
       refine tm 18 U (tk 19 U U (tk 20 U U (tk 21 U U ?_)))
       refine tk 22 U U (tf 23 U U (fun _ _ _=>cr U) (cd kr ?_))
       exact hk4 _ ⟨U,U,(cb (show true=((((!(y1.Kind.toList==(nthI p.Kinds ((i1:Nat):Int)).toList))||decide (y1.Think < 0))||decide (1099511627776≤y1.Think))||(!(aQ y1.Expr true))) from by rw [c5,c6] <;> rfl)),trivial⟩
      ·have c6p:=of_decide_eq_false c6
       refine tf 14 U U (fun _ _ _=>dO og U) (tf 15 U U (fun _ _ hj=>hY ty3 U (hj.nth (i:=0) U) U) (tf 16 U U (fun _ _ _=>iH U) ?_))
       refine tf 17 U U (fun _ _ _=>cr U) (tm 18 U ?_)
       refine eI 58 U (fun c7=>?_) (fun c7=>?_)
       ·have c7p:=of_decide_eq_true c7
        refine tk 19 U U (tk 20 U U (tk 21 U U (tk 22 U U ?_)))
        refine tf 23 U U (fun _ _ _=>cr U) (cd kr ?_)
        exact hk4 _ ⟨U,U,(cb (show true=((((!(y1.Kind.toList==(nthI p.Kinds ((i1:Nat):Int)).toList))||decide (y1.Think < 0))||decide (1099511627776≤y1.Think))||(!(aQ y1.Expr true))) from by rw [c5,c6,c7] <;> rfl)),trivial⟩
       ·have c7p:=of_decide_eq_false c7
        refine tf 19 U U (fun _ _ _=>dO kn U) (tf 20 U U (fun _ _ hj=>kZ ty66 U (hj.nth (i:=0) U) U) (tn 21 U ?_))
        refine fU (v:=.bool (aQ y1.Expr true)) Tryz.call253 (np h y1.Expr r2.Expr true ok2.Expr) U (⟨jn,?_⟩)
        refine tf 22 U U (fun _ _ _=>kH U) (tf 23 U U (fun _ _ _=>cr U) (cd kr ?_))
        exact hk4 _ ⟨U,U,(cb (show (!(aQ y1.Expr true))=((((!(y1.Kind.toList==(nthI p.Kinds ((i1:Nat):Int)).toList))||decide (y1.Think < 0))||decide (1099511627776≤y1.Think))||(!(aQ y1.Expr true))) from by rw [c5,c6,c7] <;> rfl)),trivial⟩
    refine aB U (fun c8=>?_) (fun c8=>?_)
    ·have hs8:=hs6.trans (bt c8)
     refine sr (an ?_)
     exact ar [.bool false] Dk U hX rd (cs hs8)
    ·have hs10:=hs6.trans (bf c8)
     refine ai (ao (ah (aa (az (v':=I (((i1+1):Nat):Int)) U (bP ob) ?_))))
     refine an ?_
     refine cE (L':=[z1]) js ?_
     exact ag1 ((i1+1),rz1) _ (Nat.lt_succ_self _) ⟨bF hd1,aP hd1,hs10⟩ rd
theorem s9 (rec:(List ByteArray)→Expr→Expr) (h:HF) (offices:(List ByteArray)) (cB:Option Addr) (cA:Nat) (x:Expr) (fu:cM) (hrec:∀ (h:HF) (qoffices:(List ByteArray)) (iO:Option Addr) (iN:Nat) (qx:Expr) (jA:cM) (hqoffices:SlC Rp.str h iO iN qoffices) (hqx:Expr.ok h qx jA) (hsz:qx.dep≤2000000) (_:qx.dep < x.dep),jP Tryz.prog 230 [.slice iO qoffices.length iN,.agg (Expr.cells qx jA).toArray] h (fun v h'=>∃ (rr0:cM),v=.agg (Expr.cells (rec qoffices qx) rr0).toArray∧Expr.ok h' (rec qoffices qx) rr0)) (hoffices:SlC Rp.str h cB cA offices) (hx:Expr.ok h x fu) (hsz:x.dep≤2000000):jP Tryz.prog 230 [.slice cB offices.length cA,.agg (Expr.cells x fu).toArray] h (fun v h'=>∃ (rr0:cM),v=.agg (Expr.cells (aj.F rec offices x) rr0).toArray∧Expr.ok h' (aj.F rec offices x) rr0):=by
 refine aw Tryz.func230 U Tryz.ntmps230 U fun X hM hX=>?_
 have hs0:aj.F rec offices x=aj.F rec offices x:=rfl
 have hln:=Expr.DP x
 refine sr (dC (fun b1=>bT zc66 (fun b2=>ac (sr (dh 1 ty66 U U U (bT zc66 (fun b3=>bJ 0 ty66 U U U U U U (ac (sr (ay mU U (du 0 ty3 U U U U U U ?_)))))))))))
 refine ac (ad (sr (ay kP U (aL 2 ty3 U U U (aF U (aa ?_))))))
 refine tq 4 [(0,.slice cB offices.length cA),(3,Q b1),(4,Q b2),(5,Q b3),(16,.bool ((x.Kind==1)||(x.Kind==2)))] (fun hk1=>?_) (fun e=>?_)
 ·refine au 12 U (fun c1=>?_) (fun c1=>?_)
  ·refine kq (bY (ae U ?_))
   exact hk1 _ ⟨U,U,U,U,(cb (eB c1)),trivial⟩
  ·refine ay kP U (aL 2 ty3 U U U (aF U (ae U ?_)))
   exact hk1 _ ⟨U,U,U,U,(cb (eE c1)),trivial⟩
 refine ac ?_
 refine aB U (fun c2=>?_) (fun c2=>?_)
 ·have hs1:=hs0.trans (bt c2)
  refine ah (aa (ay my U (aL 2 ty9 U U U (aA (v:=I (dl offices x.Name)) Tryz.call254 (nQ h offices cB cA x.Name hoffices) U (ay mU U (du 0 ty3 U U U U U U (ac ?_)))))))
  refine sr (ay dF U (du 0 ty64 U U U U U U (ac (ad (sr (an ?_))))))
  let z1:Nat×Obj:=(b2,O [I 0,I 0,I 0,.string (⟨#[]⟩:ByteArray),.slice none 0 0] 66)
  let z3:Nat×Obj:=(b1,O (Expr.cells x fu) 66)
  refine bq (ι:=Nat×(List Expr)×Option Addr×Nat×LH×HF) (fun i=>[(4,Q b2),(5,Q b3)]) (fun i=>i.2.2.2.2.2) (fun i=>[(b3,O [I x.Kind,I x.N,I (dl offices x.Name),.string x.Name,.slice i.2.2.1 i.2.1.length i.2.2.2.1] 66),z1,z3]++(i.2.2.2.2.1)) (fun i=>i.1≤x.L.length∧aj.F rec offices x=((aj.K1 offices x) i.2.1)∧ei Expr.rp 66 i.2.2.2.2.2 i.2.1 i.2.2.1 i.2.2.2.1 i.2.2.2.2.1∧i.2.1.length≤0+i.1∧HF.le h i.2.2.2.2.2) ?_ (fun hx1=>?_)
  ·rintro ⟨i1,i8,lh,lg,ub,hh1⟩ ⟨bd,hs2,na,xY,hl1⟩ e
   try dsimp only at bd na xY hl1
   try dsimp only
   let z5:Nat×Obj:=(b3,O [I x.Kind,I x.N,I (dl offices x.Name),.string x.Name,.slice lh i8.length lg] 66)
   let z19:Nat×Obj:=(b2,O [I x.Kind,I x.N,I (dl offices x.Name),.string x.Name,.slice lh i8.length lg] 66)
   refine sr (dh 0 ty66 U U U (bJ 1 ty66 U U U U U U (iF (L':=[z5,z19,z3]++(ub)) U ?_)))
   refine ac ?_
   refine gi Expr.aJ ([z5,z19,z3]) ub ([]) ap hM na (fun h3 hle3 sl2=>?_)
   have hs3:aj.F rec offices x=(Expr.mk x.Kind x.N (dl offices x.Name) x.Name i8):=hs2
   exact dQ [.agg (List.toArray [I x.Kind,I x.N,I (dl offices x.Name),.string x.Name,.slice lh i8.length lg])] Tryz.func230 U ⟨⟨1,_,_,_,_,U,U,.inl ⟨ty66,U⟩⟩,trivial⟩ ⟨(cM.mk lh lg),congrArg (fun r:Expr=>(.agg (Expr.cells r (cM.mk lh lg)).toArray:Value)) hs3.symm,(by rw [hs3];exact (show Expr.ok h3 (Expr.mk x.Kind x.N (dl offices x.Name) x.Name i8) (cM.mk lh lg) from Expr.ok.of sl2))⟩
  ·refine ck (ι:=Nat×(List Expr)×Option Addr×Nat×LH×HF×List Expr) (fun i=>[(0,.slice cB offices.length cA),(3,Q b1),(4,Q b2),(5,Q b3),(6,I ((i.1:Nat):Int))]) (fun i=>i.2.2.2.2.2.1) (fun i=>[(b3,O [I x.Kind,I x.N,I (dl offices x.Name),.string x.Name,.slice i.2.2.1 i.2.1.length i.2.2.2.1] 66),z1,z3]++(i.2.2.2.2.1)) (fun i=>x.L.drop i.1=i.2.2.2.2.2.2∧i.1≤x.L.length∧aj.F rec offices x=((aj.L1 rec offices (aj.K1 offices x)) i.2.2.2.2.2.2 i.2.1)∧ei Expr.rp 66 i.2.2.2.2.2.1 i.2.1 i.2.2.1 i.2.2.2.1 i.2.2.2.2.1∧i.2.1.length≤0+i.1∧HF.le h i.2.2.2.2.2.1) (fun i=>i.2.2.2.2.2.2.length) (0,[],none,0,[],h,x.L) rd sw ⟨U,Nat.zero_le _,hs1,ei.nil,lo,(HF.le_refl h)⟩ ?_
   rintro ⟨i1,i8,lh,lg,ub,hh1,s1⟩ ⟨hd1,bd,hs4,na,xY,hl1⟩ ag1 e
   try dsimp only at hd1 bd na xY hl1
   rcases s1 with _ | ⟨y1,rz1⟩
   ·have dJ:=cS hd1
    try dsimp only
    refine ad (sr (aa (ay dF U (aL 2 ty64 U U U (bE gg U (az (v':=.bool false) U (cb dJ) (ac (ba U (bM U ?_)))))))))
    exact hx1 (i1,i8,lh,lg,ub,hh1) _ ⟨bd,hs4,na,lo,hl1⟩ rd
   ·have dI:=dV hd1
    have bh:=cU hd1
    have e9:=aP hd1
    have gO:=hx.list.1.1
    have hdy:=Expr.iv (gm hd1)
    try dsimp only
    refine ad (sr (aa (ay dF U (aL 2 ty64 U U U (bE gg U (az (v':=.bool true) U (cb dI) (ac (bj U (ai (ad (aU ?_)))))))))))
    refine gr ([z1,z3]) mixed kr jn (fun fd _=>?_)
    refine tf 0 U U (fun _ _ _=>dO dF U) (tm 2 U ?_)
    refine tf 3 U U (fun _ _ _=>dO dF U) (tf 4 U U (fun _ _ hj=>hY ty64 U (hj.nth (i:=1) U) U) ?_)
    refine tm 5 U (jC 6 fd jn gg ty66 (hx.list.mono Expr.aJ hl1).1 (nthZ bh) (bA bh) U U U U kr (fun q2 cs2 A2 ln2 rr3=>?_))
    obtain ⟨r2,rfl,ok3⟩:=rr3
    refine tf 7 U U (fun _ _ hj=>j8 ty66 (A2.mono hj.1) U U) ?_
    refine lQ 1 8 kr U U ?_ ?_ 
    ·refine gW (hY ty64 U (lM (i:=0) U) U) (⟨jn,?_⟩)
     refine tn 8 U (dp Bf (hrec hh1 offices cB cA y1 r2 (hoffices.mono Rp.gx hl1) ok3 ob (Expr.iv (gm hd1))) U (fun v2 h4 hle4 hp2=>?_))
     obtain ⟨rr4,rfl,ok4⟩:=hp2
     refine ⟨jl hle4,tu hle4 ?_⟩
     refine tn 9 U (cf (cells:=[I ((rec offices y1).Kind),I ((rec offices y1).N),I ((rec offices y1).No),.string ((rec offices y1).Name),.slice rr4.iE ((rec offices y1).L.length) rr4.iG]) gg ty66 zc66 U U kr (fun b5=>?_))
     refine ⟨jn,?_⟩
     let z6:Nat×Obj:=(b3,O [I x.Kind,I x.N,I (dl offices x.Name),.string x.Name,.slice lh i8.length lg] 66)
     let z15:Nat×Obj:=(b5,O [I ((rec offices y1).Kind),I ((rec offices y1).N),I ((rec offices y1).No),.string ((rec offices y1).Name),.slice rr4.iE ((rec offices y1).L.length) rr4.iG] 66)
     refine tn 10 U (eK Expr.eZ ([z15,z6,z1,z3]) ([]) (fun G=>[z15,z6,z1,z3]++(G)) ap (fun _=>ap) gg ty66 zc66 U bytes66 (na.mono Expr.aJ hle4) U U (ff 0 U (show bW Expr.rp h4 [I ((rec offices y1).Kind),I ((rec offices y1).N),I ((rec offices y1).No),.string ((rec offices y1).Name),.slice rr4.iE ((rec offices y1).L.length) rr4.iG] ([(rec offices y1)]) from ⟨[I ((rec offices y1).Kind),I ((rec offices y1).N),I ((rec offices y1).No),.string ((rec offices y1).Name),.slice rr4.iE ((rec offices y1).L.length) rr4.iG],[],U,U,⟨rr4,U,ok4⟩,U⟩)) lo lo (fun ob2 oc2 G2 gr2=>?_))
     refine ⟨jn,?_⟩
     refine tf 11 U U (fun _ _ _=>dO dF U) (tn 12 U (j7 1 ty64 U U U U U U (⟨jn,?_⟩)))
     refine cd kr ?_
     refine ao (ah (aa (az (v':=I (((i1+1):Nat):Int)) U (bP ob) (an ?_))))
     refine cE (L':=[(b3,O [I x.Kind,I x.N,I (dl offices x.Name),.string x.Name,.slice ob2 ((i8++[(rec offices y1)]).length) oc2] 66),z1,z3]++(G2)) js ?_
     exact ag1 ((i1+1),(i8++[(rec offices y1)]),ob2,oc2,G2,h4,rz1) _ (Nat.lt_succ_self _) ⟨bF hd1,aP hd1,hs4,gr2,lo,(hl1.t hle4)⟩ rd
    ·refine dp Bf (hrec hh1 offices cB cA y1 r2 (hoffices.mono Rp.gx hl1) ok3 ob (Expr.iv (gm hd1))) U (fun v3 h5 hle5 hp3=>?_)
     obtain ⟨rr5,rfl,ok5⟩:=hp3
     refine ⟨jl hle5,tu hle5 ?_⟩
     refine lQ 1 9 kr U U ?_ ?_ 
     ·refine gW (hY ty64 U (lM (i:=0) U) U) (⟨jn,?_⟩)
      refine tn 9 U (cf (cells:=[I ((rec offices y1).Kind),I ((rec offices y1).N),I ((rec offices y1).No),.string ((rec offices y1).Name),.slice rr5.iE ((rec offices y1).L.length) rr5.iG]) gg ty66 zc66 U U kr (fun b6=>?_))
      refine ⟨jn,?_⟩
      let z7:Nat×Obj:=(b3,O [I x.Kind,I x.N,I (dl offices x.Name),.string x.Name,.slice lh i8.length lg] 66)
      let z16:Nat×Obj:=(b6,O [I ((rec offices y1).Kind),I ((rec offices y1).N),I ((rec offices y1).No),.string ((rec offices y1).Name),.slice rr5.iE ((rec offices y1).L.length) rr5.iG] 66)
      refine tn 10 U (eK Expr.eZ ([z16,z7,z1,z3]) ([]) (fun G=>[z16,z7,z1,z3]++(G)) ap (fun _=>ap) gg ty66 zc66 U bytes66 (na.mono Expr.aJ hle5) U U (ff 0 U (show bW Expr.rp h5 [I ((rec offices y1).Kind),I ((rec offices y1).N),I ((rec offices y1).No),.string ((rec offices y1).Name),.slice rr5.iE ((rec offices y1).L.length) rr5.iG] ([(rec offices y1)]) from ⟨[I ((rec offices y1).Kind),I ((rec offices y1).N),I ((rec offices y1).No),.string ((rec offices y1).Name),.slice rr5.iE ((rec offices y1).L.length) rr5.iG],[],U,U,⟨rr5,U,ok5⟩,U⟩)) lo lo (fun ob3 oc3 G3 gr3=>?_))
      refine ⟨jn,?_⟩
      refine tf 11 U U (fun _ _ _=>dO dF U) (tn 12 U (j7 1 ty64 U U U U U U (⟨jn,?_⟩)))
      refine cd kr ?_
      refine ao (ah (aa (az (v':=I (((i1+1):Nat):Int)) U (bP ob) (an ?_))))
      refine cE (L':=[(b3,O [I x.Kind,I x.N,I (dl offices x.Name),.string x.Name,.slice ob3 ((i8++[(rec offices y1)]).length) oc3] 66),z1,z3]++(G3)) js ?_
      exact ag1 ((i1+1),(i8++[(rec offices y1)]),ob3,oc3,G3,h5,rz1) _ (Nat.lt_succ_self _) ⟨bF hd1,aP hd1,hs4,gr3,lo,(hl1.t hle5)⟩ rd
     ·refine cf (cells:=[I ((rec offices y1).Kind),I ((rec offices y1).N),I ((rec offices y1).No),.string ((rec offices y1).Name),.slice rr5.iE ((rec offices y1).L.length) rr5.iG]) gg ty66 zc66 U U kr (fun b7=>?_)
      refine ⟨jn,?_⟩
      refine tn 1 U (gW (hY ty64 U (lM (i:=1) U) U) (⟨jn,?_⟩))
      let z8:Nat×Obj:=(b3,O [I x.Kind,I x.N,I (dl offices x.Name),.string x.Name,.slice lh i8.length lg] 66)
      let z17:Nat×Obj:=(b7,O [I ((rec offices y1).Kind),I ((rec offices y1).N),I ((rec offices y1).No),.string ((rec offices y1).Name),.slice rr5.iE ((rec offices y1).L.length) rr5.iG] 66)
      refine tn 10 U (eK Expr.eZ ([z17,z8,z1,z3]) ([]) (fun G=>[z17,z8,z1,z3]++(G)) ap (fun _=>ap) gg ty66 zc66 U bytes66 (na.mono Expr.aJ hle5) U U (ff 0 U (show bW Expr.rp h5 [I ((rec offices y1).Kind),I ((rec offices y1).N),I ((rec offices y1).No),.string ((rec offices y1).Name),.slice rr5.iE ((rec offices y1).L.length) rr5.iG] ([(rec offices y1)]) from ⟨[I ((rec offices y1).Kind),I ((rec offices y1).N),I ((rec offices y1).No),.string ((rec offices y1).Name),.slice rr5.iE ((rec offices y1).L.length) rr5.iG],[],U,U,⟨rr5,U,ok5⟩,U⟩)) lo lo (fun ob4 oc4 G4 gr4=>?_))
      refine ⟨jn,?_⟩
      refine tf 11 U U (fun _ _ _=>dO dF U) (tn 12 U (j7 1 ty64 U U U U U U (⟨jn,?_⟩)))
      refine cd kr ?_
      refine ao (ah (aa (az (v':=I (((i1+1):Nat):Int)) U (bP ob) (an ?_))))
      refine cE (L':=[(b3,O [I x.Kind,I x.N,I (dl offices x.Name),.string x.Name,.slice ob4 ((i8++[(rec offices y1)]).length) oc4] 66),z1,z3]++(G4)) js ?_
      exact ag1 ((i1+1),(i8++[(rec offices y1)]),ob4,oc4,G4,h5,rz1) _ (Nat.lt_succ_self _) ⟨bF hd1,aP hd1,hs4,gr4,lo,(hl1.t hle5)⟩ rd
 ·have hs6:=hs0.trans (bf c2)
  refine ai (sr (ay dF U (du 0 ty64 U U U U U U (ac (ad (sr (an ?_)))))))
  let z2:Nat×Obj:=(b2,O [I 0,I 0,I 0,.string (⟨#[]⟩:ByteArray),.slice none 0 0] 66)
  let z4:Nat×Obj:=(b1,O (Expr.cells x fu) 66)
  refine bq (ι:=Nat×(List Expr)×Option Addr×Nat×LH×HF) (fun i=>[(4,Q b2),(5,Q b3)]) (fun i=>i.2.2.2.2.2) (fun i=>[(b3,O [I x.Kind,I x.N,I 0,.string x.Name,.slice i.2.2.1 i.2.1.length i.2.2.2.1] 66),z2,z4]++(i.2.2.2.2.1)) (fun i=>i.1≤x.L.length∧aj.F rec offices x=((aj.K2 x) i.2.1)∧ei Expr.rp 66 i.2.2.2.2.2 i.2.1 i.2.2.1 i.2.2.2.1 i.2.2.2.2.1∧i.2.1.length≤0+i.1∧HF.le h i.2.2.2.2.2) ?_ (fun hx2=>?_)
  ·rintro ⟨i2,i6,lb,la,ua,hh2⟩ ⟨j4,hs7,m8,xS,hl2⟩ e
   try dsimp only at j4 m8 xS hl2
   try dsimp only
   let z9:Nat×Obj:=(b3,O [I x.Kind,I x.N,I 0,.string x.Name,.slice lb i6.length la] 66)
   let z20:Nat×Obj:=(b2,O [I x.Kind,I x.N,I 0,.string x.Name,.slice lb i6.length la] 66)
   refine sr (dh 0 ty66 U U U (bJ 1 ty66 U U U U U U (iF (L':=[z9,z20,z4]++(ua)) U ?_)))
   refine ac ?_
   refine gi Expr.aJ ([z9,z20,z4]) ua ([]) ap hM m8 (fun h8 hle8 sl4=>?_)
   have hs8:aj.F rec offices x=(Expr.mk x.Kind x.N 0 x.Name i6):=hs7
   exact dQ [.agg (List.toArray [I x.Kind,I x.N,I 0,.string x.Name,.slice lb i6.length la])] Tryz.func230 U ⟨⟨1,_,_,_,_,U,U,.inl ⟨ty66,U⟩⟩,trivial⟩ ⟨(cM.mk lb la),congrArg (fun r:Expr=>(.agg (Expr.cells r (cM.mk lb la)).toArray:Value)) hs8.symm,(by rw [hs8];exact (show Expr.ok h8 (Expr.mk x.Kind x.N 0 x.Name i6) (cM.mk lb la) from Expr.ok.of sl4))⟩
  ·refine ck (ι:=Nat×(List Expr)×Option Addr×Nat×LH×HF×List Expr) (fun i=>[(0,.slice cB offices.length cA),(3,Q b1),(4,Q b2),(5,Q b3),(6,I ((i.1:Nat):Int))]) (fun i=>i.2.2.2.2.2.1) (fun i=>[(b3,O [I x.Kind,I x.N,I 0,.string x.Name,.slice i.2.2.1 i.2.1.length i.2.2.2.1] 66),z2,z4]++(i.2.2.2.2.1)) (fun i=>x.L.drop i.1=i.2.2.2.2.2.2∧i.1≤x.L.length∧aj.F rec offices x=((aj.L2 rec offices (aj.K2 x)) i.2.2.2.2.2.2 i.2.1)∧ei Expr.rp 66 i.2.2.2.2.2.1 i.2.1 i.2.2.1 i.2.2.2.1 i.2.2.2.2.1∧i.2.1.length≤0+i.1∧HF.le h i.2.2.2.2.2.1) (fun i=>i.2.2.2.2.2.2.length) (0,[],none,0,[],h,x.L) rd sw ⟨U,Nat.zero_le _,hs6,ei.nil,lo,(HF.le_refl h)⟩ ?_
   rintro ⟨i2,i6,lb,la,ua,hh2,s2⟩ ⟨hd2,j4,hs9,m8,xS,hl2⟩ ag2 e
   try dsimp only at hd2 j4 m8 xS hl2
   rcases s2 with _ | ⟨y2,rz2⟩
   ·have tz:=cS hd2
    try dsimp only
    refine ad (sr (aa (ay dF U (aL 2 ty64 U U U (bE gg U (az (v':=.bool false) U (cb tz) (ac (ba U (bM U ?_)))))))))
    exact hx2 (i2,i6,lb,la,ua,hh2) _ ⟨j4,hs9,m8,lo,hl2⟩ rd
   ·have qH:=dV hd2
    have lG:=cU hd2
    have xL:=aP hd2
    have DR:=hx.list.1.1
    have hdy:=Expr.iv (gm hd2)
    try dsimp only
    refine ad (sr (aa (ay dF U (aL 2 ty64 U U U (bE gg U (az (v':=.bool true) U (cb qH) (ac (bj U (ai (ad (aU ?_)))))))))))
    refine gr ([z2,z4]) mixed kr jn (fun xK _=>?_)
    refine tf 0 U U (fun _ _ _=>dO dF U) (tm 2 U ?_)
    refine tf 3 U U (fun _ _ _=>dO dF U) (tf 4 U U (fun _ _ hj=>hY ty64 U (hj.nth (i:=1) U) U) ?_)
    refine tm 5 U (jC 6 xK jn gg ty66 (hx.list.mono Expr.aJ hl2).1 (nthZ lG) (bA lG) U U U U kr (fun q4 cs4 A4 ln4 rr8=>?_))
    obtain ⟨r4,rfl,ok8⟩:=rr8
    refine tf 7 U U (fun _ _ hj=>j8 ty66 (A4.mono hj.1) U U) ?_
    refine lQ 1 8 kr U U ?_ ?_ 
    ·refine gW (hY ty64 U (lM (i:=0) U) U) (⟨jn,?_⟩)
     refine tn 8 U (dp Bf (hrec hh2 offices cB cA y2 r4 (hoffices.mono Rp.gx hl2) ok8 ob (Expr.iv (gm hd2))) U (fun v5 h9 hle9 hp5=>?_))
     obtain ⟨rr9,rfl,ok9⟩:=hp5
     refine ⟨jl hle9,tu hle9 ?_⟩
     refine tn 9 U (cf (cells:=[I ((rec offices y2).Kind),I ((rec offices y2).N),I ((rec offices y2).No),.string ((rec offices y2).Name),.slice rr9.iE ((rec offices y2).L.length) rr9.iG]) gg ty66 zc66 U U kr (fun b9=>?_))
     refine ⟨jn,?_⟩
     let z10:Nat×Obj:=(b3,O [I x.Kind,I x.N,I 0,.string x.Name,.slice lb i6.length la] 66)
     let z18:Nat×Obj:=(b9,O [I ((rec offices y2).Kind),I ((rec offices y2).N),I ((rec offices y2).No),.string ((rec offices y2).Name),.slice rr9.iE ((rec offices y2).L.length) rr9.iG] 66)
     refine tn 10 U (eK Expr.eZ ([z18,z10,z2,z4]) ([]) (fun G=>[z18,z10,z2,z4]++(G)) ap (fun _=>ap) gg ty66 zc66 U bytes66 (m8.mono Expr.aJ hle9) U U (ff 0 U (show bW Expr.rp h9 [I ((rec offices y2).Kind),I ((rec offices y2).N),I ((rec offices y2).No),.string ((rec offices y2).Name),.slice rr9.iE ((rec offices y2).L.length) rr9.iG] ([(rec offices y2)]) from ⟨[I ((rec offices y2).Kind),I ((rec offices y2).N),I ((rec offices y2).No),.string ((rec offices y2).Name),.slice rr9.iE ((rec offices y2).L.length) rr9.iG],[],U,U,⟨rr9,U,ok9⟩,U⟩)) lo lo (fun ob6 oc6 G6 gr6=>?_))
     refine ⟨jn,?_⟩
     refine tf 11 U U (fun _ _ _=>dO dF U) (tn 12 U (j7 1 ty64 U U U U U U (⟨jn,?_⟩)))
     refine cd kr ?_
     refine ao (ah (aa (az (v':=I (((i2+1):Nat):Int)) U (bP ob) (an ?_))))
     refine cE (L':=[(b3,O [I x.Kind,I x.N,I 0,.string x.Name,.slice ob6 ((i6++[(rec offices y2)]).length) oc6] 66),z2,z4]++(G6)) js ?_
     exact ag2 ((i2+1),(i6++[(rec offices y2)]),ob6,oc6,G6,h9,rz2) _ (Nat.lt_succ_self _) ⟨bF hd2,aP hd2,hs9,gr6,lo,(hl2.t hle9)⟩ rd
    ·refine dp Bf (hrec hh2 offices cB cA y2 r4 (hoffices.mono Rp.gx hl2) ok8 ob (Expr.iv (gm hd2))) U (fun v6 h10 hle10 hp6=>?_)
     obtain ⟨rr10,rfl,ok10⟩:=hp6
     refine ⟨jl hle10,tu hle10 ?_⟩
     refine lQ 1 9 kr U U ?_ ?_ 
     ·refine gW (hY ty64 U (lM (i:=0) U) U) (⟨jn,?_⟩)
      refine tn 9 U (cf (cells:=[I ((rec offices y2).Kind),I ((rec offices y2).N),I ((rec offices y2).No),.string ((rec offices y2).Name),.slice rr10.iE ((rec offices y2).L.length) rr10.iG]) gg ty66 zc66 U U kr (fun b10=>?_))
      refine ⟨jn,?_⟩
      let z11:Nat×Obj:=(b3,O [I x.Kind,I x.N,I 0,.string x.Name,.slice lb i6.length la] 66)
      let z13:Nat×Obj:=(b10,O [I ((rec offices y2).Kind),I ((rec offices y2).N),I ((rec offices y2).No),.string ((rec offices y2).Name),.slice rr10.iE ((rec offices y2).L.length) rr10.iG] 66)
      refine tn 10 U (eK Expr.eZ ([z13,z11,z2,z4]) ([]) (fun G=>[z13,z11,z2,z4]++(G)) ap (fun _=>ap) gg ty66 zc66 U bytes66 (m8.mono Expr.aJ hle10) U U (ff 0 U (show bW Expr.rp h10 [I ((rec offices y2).Kind),I ((rec offices y2).N),I ((rec offices y2).No),.string ((rec offices y2).Name),.slice rr10.iE ((rec offices y2).L.length) rr10.iG] ([(rec offices y2)]) from ⟨[I ((rec offices y2).Kind),I ((rec offices y2).N),I ((rec offices y2).No),.string ((rec offices y2).Name),.slice rr10.iE ((rec offices y2).L.length) rr10.iG],[],U,U,⟨rr10,U,ok10⟩,U⟩)) lo lo (fun ob7 oc7 G7 gr7=>?_))
      refine ⟨jn,?_⟩
      refine tf 11 U U (fun _ _ _=>dO dF U) (tn 12 U (j7 1 ty64 U U U U U U (⟨jn,?_⟩)))
      refine cd kr ?_
      refine ao (ah (aa (az (v':=I (((i2+1):Nat):Int)) U (bP ob) (an ?_))))
      refine cE (L':=[(b3,O [I x.Kind,I x.N,I 0,.string x.Name,.slice ob7 ((i6++[(rec offices y2)]).length) oc7] 66),z2,z4]++(G7)) js ?_
      exact ag2 ((i2+1),(i6++[(rec offices y2)]),ob7,oc7,G7,h10,rz2) _ (Nat.lt_succ_self _) ⟨bF hd2,aP hd2,hs9,gr7,lo,(hl2.t hle10)⟩ rd
     ·refine cf (cells:=[I ((rec offices y2).Kind),I ((rec offices y2).N),I ((rec offices y2).No),.string ((rec offices y2).Name),.slice rr10.iE ((rec offices y2).L.length) rr10.iG]) gg ty66 zc66 U U kr (fun b11=>?_)
      refine ⟨jn,?_⟩
      refine tn 1 U (gW (hY ty64 U (lM (i:=1) U) U) (⟨jn,?_⟩))
      let z12:Nat×Obj:=(b3,O [I x.Kind,I x.N,I 0,.string x.Name,.slice lb i6.length la] 66)
      let z14:Nat×Obj:=(b11,O [I ((rec offices y2).Kind),I ((rec offices y2).N),I ((rec offices y2).No),.string ((rec offices y2).Name),.slice rr10.iE ((rec offices y2).L.length) rr10.iG] 66)
      refine tn 10 U (eK Expr.eZ ([z14,z12,z2,z4]) ([]) (fun G=>[z14,z12,z2,z4]++(G)) ap (fun _=>ap) gg ty66 zc66 U bytes66 (m8.mono Expr.aJ hle10) U U (ff 0 U (show bW Expr.rp h10 [I ((rec offices y2).Kind),I ((rec offices y2).N),I ((rec offices y2).No),.string ((rec offices y2).Name),.slice rr10.iE ((rec offices y2).L.length) rr10.iG] ([(rec offices y2)]) from ⟨[I ((rec offices y2).Kind),I ((rec offices y2).N),I ((rec offices y2).No),.string ((rec offices y2).Name),.slice rr10.iE ((rec offices y2).L.length) rr10.iG],[],U,U,⟨rr10,U,ok10⟩,U⟩)) lo lo (fun ob8 oc8 G8 gr8=>?_))
      refine ⟨jn,?_⟩
      refine tf 11 U U (fun _ _ _=>dO dF U) (tn 12 U (j7 1 ty64 U U U U U U (⟨jn,?_⟩)))
      refine cd kr ?_
      refine ao (ah (aa (az (v':=I (((i2+1):Nat):Int)) U (bP ob) (an ?_))))
      refine cE (L':=[(b3,O [I x.Kind,I x.N,I 0,.string x.Name,.slice ob8 ((i6++[(rec offices y2)]).length) oc8] 66),z2,z4]++(G8)) js ?_
      exact ag2 ((i2+1),(i6++[(rec offices y2)]),ob8,oc8,G8,h10,rz2) _ (Nat.lt_succ_self _) ⟨bF hd2,aP hd2,hs9,gr8,lo,(hl2.t hle10)⟩ rd
theorem mY:∀ (m:Nat) (h:HF) (offices:(List ByteArray)) (cB:Option Addr) (cA:Nat) (x:Expr) (fu:cM) (_:x.dep≤m) (hoffices:SlC Rp.str h cB cA offices) (hx:Expr.ok h x fu) (hsz:x.dep≤2000000),jP Tryz.prog 230 [.slice cB offices.length cA,.agg (Expr.cells x fu).toArray] h (fun v h'=>∃ (rr0:cM),v=.agg (Expr.cells (aj.go m offices x) rr0).toArray∧Expr.ok h' (aj.go m offices x) rr0)
 | 0,h,offices,cB,cA,x,fu,hd,hoffices,hx,hsz=>absurd hd (Nat.not_le.2 (Expr.j1 _))
 | m+1,h,offices,cB,cA,x,fu,hd,hoffices,hx,hsz=>s9 (aj.go m) h offices cB cA x fu (fun qh_ qoffices iO iN qx jA qhoffices qhx qhsz qd=>mY m qh_ qoffices iO iN qx jA ob qhoffices qhx qhsz) hoffices hx hsz
theorem oG (h:HF) (offices:(List ByteArray)) (cB:Option Addr) (cA:Nat) (x:Expr) (fu:cM) (hoffices:SlC Rp.str h cB cA offices) (hx:Expr.ok h x fu) (hsz:x.dep≤2000000):jP Tryz.prog 230 [.slice cB offices.length cA,.agg (Expr.cells x fu).toArray] h (fun v h'=>∃ (rr0:cM),v=.agg (Expr.cells (aj offices x) rr0).toArray∧Expr.ok h' (aj offices x) rr0):=mY _ h offices cB cA x fu (Nat.le_refl _) hoffices hx hsz
end Go.Sg
