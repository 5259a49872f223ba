import Derived.Test.YtngiefchigcphaaGreatDoorW1
import Derived.Test.YtngiefchigcphaaGreatDoorW2
import Derived.Test.YtngiefchigcphaaGreatDoorW3
import Derived.Test.YtngiefchigcphaaGreatDoorW4
import Derived.Test.YtngiefchigcphaaGreatDoorW5
import Derived.Test.YtngiefchigcphaaGreatDoorW6
/- A part of the proof of the law AsofMore: where what it reads holds at most 1048576 values and letters, the call returns true and its arguments read as they did. Conditions: that bound, and that the listed table starts as the program lays it. -/
set_option linter.unusedVariables false
set_option linter.unusedSimpArgs false
namespace Go.Sg
open Go.Proofs
set_option maxHeartbeats 2000000
set_option maxRecDepth 100000
set_option linter.unusedVariables false
theorem lx (h:HF) (x:Expr) (fu:cM) (hx:Expr.ok h x fu):Ret Tryz.prog 220 [.agg (Expr.cells x fu).toArray] h (.bool (cX x)):=by
 refine aw Tryz.func220 U Tryz.ntmps220 U fun X hM hX=>?_
 have hs0:cX x=cX x:=rfl
 refine sr (dC (fun b1=>an (sr (ay kP U (aL 0 ty3 U U U (aF U (aa ?_)))))))
 refine tq 4 [(10,.bool ((x.Kind==1)||(x.Kind==2)))] (fun hk1=>?_) (fun e=>?_)
 ·refine au 6 U (fun c1=>?_) (fun c1=>?_)
  ·refine kq (bY (ae U ?_))
   exact hk1 _ ⟨(cb (eB c1)),trivial⟩
  ·refine ay kP U (aL 0 ty3 U U U (aF U (ae U ?_)))
   exact hk1 _ ⟨(cb (eE c1)),trivial⟩
 refine an ?_
 exact ar [.bool ((x.Kind==1)||(x.Kind==2))] Tryz.func220 U hX rd (cs hs0)
theorem mf (h:HF) (s:ByteArray) (c:Int)  : Ret Tryz.prog 281 [.string s,Y c] h (I (fH s c)):=by
 refine aw Tryz.func281 U Tryz.ntmps281 U fun X hM hX=>?_
 have hs0:fH s c=fH s c:=rfl
 refine sr (an (sr (aa (aa (a8 (gW (Gt U U) (an ?_)))))))
 exact ar [I (idxByte s c)] Tryz.func281 U hX rd (ci hs0)
theorem qV (h:HF) (s:ByteArray) (c:Int)  : Ret Tryz.prog 279 [.string s,Y c] h (I (strings_IndexByte s c)):=by
 refine aw Tryz.func279 U Tryz.ntmps279 U fun X hM hX=>?_
 have hs0:strings_IndexByte s c=strings_IndexByte s c:=rfl
 refine sr (an (sr (aa (aa (aA (v:=I (fH s c)) Tryz.call281 (mf h s c ) U (an ?_))))))
 exact ar [I (fH s c)] Tryz.func279 U hX rd (ci hs0)
theorem t8 (h:HF) (c:Int)  : Ret Tryz.prog 275 [Y c] h (I (gz c)):=by
 refine aw zq U Tryz.ntmps275 U fun X hM hX=>?_
 have hs0:gz c=gz c:=rfl
 refine sr (an (ad (aU (sr (aa (aF U (aa ?_)))))))
 refine tq 3 [(0,Y c),(9,.bool (decide (97≤c)&&decide (c≤122)))] (fun hk1=>?_) (fun e=>?_)
 ·refine au 6 U (fun c1=>?_) (fun c1=>?_)
  ·refine aa (aF U (ae U ?_))
   exact hk1 _ ⟨U,(cb (cY c1)),trivial⟩
  ·refine kq (ae U ?_)
   exact hk1 _ ⟨U,(cb (cZ c1)),trivial⟩
 refine aa ?_
 refine tq 7 [(0,Y c),(17,.bool ((decide (97≤c)&&decide (c≤122))||(decide (65≤c)&&decide (c≤90))))] (fun hk2=>?_) (fun e=>?_)
 ·refine au 10 U (fun c2=>?_) (fun c2=>?_)
  ·refine kq (kq (kq (ae U ?_)))
   exact hk2 _ ⟨U,(cb (eB c2)),trivial⟩
  ·refine aa (aF U (aa ?_))
   refine tq 3 [(0,Y c),(10,.bool false),(16,.bool (decide (65≤c)&&decide (c≤90)))] (fun hk3=>?_) (fun e=>?_)
   ·refine au 13 U (fun c3=>?_) (fun c3=>?_)
    ·refine aa (aF U (ae U ?_))
     exact hk3 _ ⟨U,U,(cb (cY c3)),trivial⟩
    ·refine kq (ae U ?_)
     exact hk3 _ ⟨U,U,(cb (cZ c3)),trivial⟩
   refine ae U ?_
   exact hk2 _ ⟨U,(cb (eE c2)),trivial⟩
 refine an ?_
 refine aB U (fun c4=>?_) (fun c4=>?_)
 ·have hs1:=hs0.trans (bt c4)
  refine sr (an ?_)
  exact ar [I 2] zq U hX rd (ci hs1)
 ·have hs3:=hs0.trans (bf c4)
  refine sr (aa (aF U (aa ?_)))
  refine tq 3 [(0,Y c),(24,.bool (decide (48≤c)&&decide (c≤57)))] (fun hk4=>?_) (fun e=>?_)
  ·refine au 21 U (fun c5=>?_) (fun c5=>?_)
   ·refine aa (aF U (ae U ?_))
    exact hk4 _ ⟨U,(cb (cY c5)),trivial⟩
   ·refine kq (ae U ?_)
    exact hk4 _ ⟨U,(cb (cZ c5)),trivial⟩
  refine an ?_
  refine aB U (fun c6=>?_) (fun c6=>?_)
  ·have hs4:=hs3.trans (bt c6)
   refine sr (an ?_)
   exact ar [I 3] zq U hX rd (ci hs4)
  ·have hs6:=hs3.trans (bf c6)
   refine sr (aa (aF U (an ?_)))
   refine aB U (fun c7=>?_) (fun c7=>?_)
   ·have hs7:=hs6.trans (bt c7)
    refine sr (an ?_)
    exact ar [I 5] zq U hX rd (ci hs7)
   ·have hs9:=hs6.trans (bf c7)
    refine sr (aa (aF U (aa ?_)))
    refine tq 3 [(0,Y c),(34,.bool ((c==32)||(c==9)))] (fun hk5=>?_) (fun e=>?_)
    ·refine au 31 U (fun c8=>?_) (fun c8=>?_)
     ·refine kq (ae U ?_)
      exact hk5 _ ⟨U,(cb (eB c8)),trivial⟩
     ·refine aa (aF U (ae U ?_))
      exact hk5 _ ⟨U,(cb (eE c8)),trivial⟩
    refine aa ?_
    refine tq 3 [(0,Y c),(38,.bool (((c==32)||(c==9))||(c==10)))] (fun hk6=>?_) (fun e=>?_)
    ·refine au 35 U (fun c9=>?_) (fun c9=>?_)
     ·refine kq (ae U ?_)
      exact hk6 _ ⟨U,(cb (eB c9)),trivial⟩
     ·refine aa (aF U (ae U ?_))
      exact hk6 _ ⟨U,(cb (eE c9)),trivial⟩
    refine aa ?_
    refine tq 3 [(0,Y c),(42,.bool ((((c==32)||(c==9))||(c==10))||(c==13)))] (fun hk7=>?_) (fun e=>?_)
    ·refine au 39 U (fun c10=>?_) (fun c10=>?_)
     ·refine kq (ae U ?_)
      exact hk7 _ ⟨U,(cb (eB c10)),trivial⟩
     ·refine aa (aF U (ae U ?_))
      exact hk7 _ ⟨U,(cb (eE c10)),trivial⟩
    refine an ?_
    refine aB U (fun c11=>?_) (fun c11=>?_)
    ·have hs10:=hs9.trans (bt c11)
     refine sr (an ?_)
     exact ar [I 1] zq U hX rd (ci hs10)
    ·have hs12:=hs9.trans (bf c11)
     refine sr (aa (aA (v:=I (strings_IndexByte (⟨#[123,125,40,41,59,44,61,58,46,60,62,33,43,45,42,47]⟩:ByteArray) c)) Tryz.call279 (qV h (⟨#[123,125,40,41,59,44,61,58,46,60,62,33,43,45,42,47]⟩:ByteArray) c ) U ?_))
     refine aF U (an ?_)
     refine aB U (fun c12=>?_) (fun c12=>?_)
     ·have c12p:=of_decide_eq_true c12
      have hs13:=hs12.trans (bt c12)
      refine sr (an ?_)
      exact ar [I 4] zq U hX rd (ci hs13)
     ·have c12p:=of_decide_eq_false c12
      have hs15:=hs12.trans (bf c12)
      refine ai (ao (sr (an ?_)))
      exact ar [I 0] zq U hX rd (ci hs15)
theorem gL (h:HF) (s:ByteArray)  : Ret Tryz.prog 265 [.string s] h (.bool (cK s)):=by
 refine aw FP U Tryz.ntmps265 U fun X hM hX=>?_
 have hs0:cK s=cK s:=rfl
 refine sr (an (ad (sr (aa (aF U (aa ?_))))))
 refine tq 4 [(0,.string s),(11,.bool ((s.toList==(⟨#[]⟩:ByteArray).toList)||decide (32 < ((s.size:Nat):Int))))] (fun hk1=>?_) (fun e=>?_)
 ·refine au 7 U (fun c1=>?_) (fun c1=>?_)
  ·refine kq (bY (ae U ?_))
   exact hk1 _ ⟨U,(cb (eB c1)),trivial⟩
  ·refine aa (a8 (gW (uJ tL U) (aF U (ae U ?_))))
   exact hk1 _ ⟨U,(cb (eE c1)),trivial⟩
 refine aa ?_
 refine tq 5 [(0,.string s),(17,.bool (((s.toList==(⟨#[]⟩:ByteArray).toList)||decide (32 < ((s.size:Nat):Int)))||((gz ((s.data.getD (0:Int).toNat 0).toNat:Int)) != 2)))] (fun hk2=>?_) (fun e=>?_)
 ·refine au 12 U (fun c2=>?_) (fun c2=>?_)
  ·refine kq (kq (ae U ?_))
   exact hk2 _ ⟨U,(cb (eB c2)),trivial⟩
  ·refine aa ?_
   have ho1:0≤(0:Int)∧(0:Int) < (s.size:Int):=(by have:=HI (Bool.or_eq_false_iff.1 ob).1;omega)
   refine a8 (gW (As tL U U ho1) (aA (v:=I (gz ((s.data.getD (0:Int).toNat 0).toNat:Int))) Tryz.call275 (t8 h ((s.data.getD (0:Int).toNat 0).toNat:Int)) U (aF U (ae U ?_))))
   exact hk2 _ ⟨U,(cb (eE c2)),trivial⟩
 refine ac ?_
 refine aB U (fun c3=>?_) (fun c3=>?_)
 ·have hs1:=hs0.trans (bt c3)
  refine sr (an ?_)
  exact ar [.bool false] FP U hX rd (cs hs1)
 ·have hs3:=hs0.trans (bf c3)
  refine ai (ad (sr (aa (a8 (gW (uJ tL U) (aa (ac ?_)))))))
  refine bq (ι:=Nat) (fun i=>[]) (fun i=>h) (fun i=>[]) (fun i=>i≤(List.range s.size).length∧cK s=((cK.K1))) ?_ (fun hx1=>?_)
  ·rintro i1 ⟨bd,hs4⟩ e
   try dsimp only at bd
   try dsimp only
   refine sr (an ?_)
   exact ar [.bool true] FP U hX rd (cs hs4)
  ·refine ck (ι:=Nat×List Nat) (fun i=>[(0,.string s),(19,I ((s.size:Nat):Int)),(20,I ((i.1:Nat):Int))]) (fun i=>h) (fun i=>[]) (fun i=>(List.range s.size).drop i.1=i.2∧i.1≤(List.range s.size).length∧cK s=((cK.L1 s (cK.K1)) i.2 i.1)) (fun i=>i.2.length) (0,(List.range s.size)) rd sw ⟨U,Nat.zero_le _,hs3⟩ ?_
   rintro ⟨i1,s1⟩ ⟨hd1,bd,hs6⟩ ag1 e
   try dsimp only at hd1 bd
   rcases s1 with _ | ⟨y1,rz1⟩
   ·have dJ:decide (((i1:Nat):Int) < ((s.size:Nat):Int))=false:=by simpa using cS hd1
    try dsimp only
    refine sr (az (v':=.bool false) U (cb dJ) (ac (ad (ba U (bM U ?_)))))
    exact hx1 i1 _ ⟨bd,hs6⟩ trivial
   ·have dI:decide (((i1:Nat):Int) < ((s.size:Nat):Int))=true:=by simpa using dV hd1
    have e9:i1 < s.size:=by simpa using aP hd1
    try dsimp only
    refine sr (az (v':=.bool true) U (cb dI) (ac (ad (bj U (ai (ad (aU (sr (aa (an (sr (aa (aa ?_)))))))))))))
    have ho3:0≤(((i1:Nat):Int):Int)∧(((i1:Nat):Int):Int) < (s.size:Int):=ob
    refine a8 (gW (As tL U U ho3) (aA (v:=I (gz ((s.data.getD (((i1:Nat):Int):Int).toNat 0).toNat:Int))) Tryz.call275 (t8 h ((s.data.getD (((i1:Nat):Int):Int).toNat 0).toNat:Int)) U (an ?_)))
    refine sr (aa (aF U (aa ?_)))
    refine tq 3 [(0,.string s),(4,I (gz ((s.data.getD (((i1:Nat):Int):Int).toNat 0).toNat:Int))),(19,I ((s.size:Nat):Int)),(20,I ((i1:Nat):Int)),(32,.bool (((gz ((s.data.getD (((i1:Nat):Int):Int).toNat 0).toNat:Int)) != 2)&&((gz ((s.data.getD (((i1:Nat):Int):Int).toNat 0).toNat:Int)) != 3)))] (fun hk3=>?_) (fun e=>?_)
    ·refine au 29 U (fun c4=>?_) (fun c4=>?_)
     ·refine aa (aF U (ae U ?_))
      exact hk3 _ ⟨U,U,U,U,(cb (cY c4)),trivial⟩
     ·refine kq (ae U ?_)
      exact hk3 _ ⟨U,U,U,U,(cb (cZ c4)),trivial⟩
    refine aa ?_
    refine tq 3 [(0,.string s),(19,I ((s.size:Nat):Int)),(20,I ((i1:Nat):Int)),(36,.bool ((((gz ((s.data.getD (((i1:Nat):Int):Int).toNat 0).toNat:Int)) != 2)&&((gz ((s.data.getD (((i1:Nat):Int):Int).toNat 0).toNat:Int)) != 3))&&((gz ((s.data.getD (((i1:Nat):Int):Int).toNat 0).toNat:Int)) != 5)))] (fun hk4=>?_) (fun e=>?_)
    ·refine au 33 U (fun c5=>?_) (fun c5=>?_)
     ·refine aa (aF U (ae U ?_))
      exact hk4 _ ⟨U,U,U,(cb (cY c5)),trivial⟩
     ·refine kq (ae U ?_)
      exact hk4 _ ⟨U,U,U,(cb (cZ c5)),trivial⟩
    refine ac ?_
    refine aB U (fun c6=>?_) (fun c6=>?_)
    ·have hs8:=hs6.trans (bt c6)
     refine sr (an ?_)
     exact ar [.bool false] FP U hX rd (cs hs8)
    ·have hs10:=hs6.trans (bf c6)
     refine ai (ao (ah (az (v':=I (((i1+1):Nat):Int)) U (bP ob) ?_)))
     refine aa (ac ?_)
     exact ag1 ((i1+1),rz1) _ (Nat.lt_succ_self _) ⟨bF hd1,aP hd1,hs10⟩ rd
theorem lU (h:HF) (s:ByteArray)  : Ret Tryz.prog 244 [.string s] h (.bool (de s)):=by
 refine aw lA U Tryz.ntmps244 U fun X hM hX=>?_
 have hs0:de s=de s:=rfl
 refine sr (an (ad (sr (aa (ac (aU (ad (sr (aF U (an ?_))))))))))
 refine aB U (fun c1=>?_) (fun c1=>?_)
 ·have hs1:=hs0.trans (bt c1)
  refine ai ?_
  refine aB U (fun c2=>?_) (fun c2=>?_)
  ·have hs2:=hs1.trans (bt c2)
   refine sr (an ?_)
   exact ar [.bool false] lA U hX rd (cs hs2)
  ·have hs4:=hs1.trans (bf c2)
   refine ai (ao (sr (aa (aA (v:=.bool (cK s)) nJ (gL h s ) U (an ?_)))))
   exact ar [.bool (cK s)] lA U hX rd (cs hs4)
 ·have hs6:=hs0.trans (bf c1)
  refine sr (aF U (an ?_))
  refine aB U (fun c3=>?_) (fun c3=>?_)
  ·have hs7:=hs6.trans (bt c3)
   refine ai ?_
   refine aB U (fun c4=>?_) (fun c4=>?_)
   ·have hs8:=hs7.trans (bt c4)
    refine sr (an ?_)
    exact ar [.bool false] lA U hX rd (cs hs8)
   ·have hs10:=hs7.trans (bf c4)
    refine ai (ao (sr (aa (aA (v:=.bool (cK s)) nJ (gL h s ) U (an ?_)))))
    exact ar [.bool (cK s)] lA U hX rd (cs hs10)
  ·have hs12:=hs6.trans (bf c3)
   refine sr (aF U (an ?_))
   refine aB U (fun c5=>?_) (fun c5=>?_)
   ·have hs13:=hs12.trans (bt c5)
    refine ai ?_
    refine aB U (fun c6=>?_) (fun c6=>?_)
    ·have hs14:=hs13.trans (bt c6)
     refine sr (an ?_)
     exact ar [.bool false] lA U hX rd (cs hs14)
    ·have hs16:=hs13.trans (bf c6)
     refine ai (ao (sr (aa (aA (v:=.bool (cK s)) nJ (gL h s ) U (an ?_)))))
     exact ar [.bool (cK s)] lA U hX rd (cs hs16)
   ·have hs18:=hs12.trans (bf c5)
    refine sr (aF U (an ?_))
    refine aB U (fun c7=>?_) (fun c7=>?_)
    ·have hs19:=hs18.trans (bt c7)
     refine ai ?_
     refine aB U (fun c8=>?_) (fun c8=>?_)
     ·have hs20:=hs19.trans (bt c8)
      refine sr (an ?_)
      exact ar [.bool false] lA U hX rd (cs hs20)
     ·have hs22:=hs19.trans (bf c8)
      refine ai (ao (sr (aa (aA (v:=.bool (cK s)) nJ (gL h s ) U (an ?_)))))
      exact ar [.bool (cK s)] lA U hX rd (cs hs22)
    ·have hs24:=hs18.trans (bf c7)
     refine sr (aF U (an ?_))
     refine aB U (fun c9=>?_) (fun c9=>?_)
     ·have hs25:=hs24.trans (bt c9)
      refine ai ?_
      refine aB U (fun c10=>?_) (fun c10=>?_)
      ·have hs26:=hs25.trans (bt c10)
       refine sr (an ?_)
       exact ar [.bool false] lA U hX rd (cs hs26)
      ·have hs28:=hs25.trans (bf c10)
       refine ai (ao (sr (aa (aA (v:=.bool (cK s)) nJ (gL h s ) U (an ?_)))))
       exact ar [.bool (cK s)] lA U hX rd (cs hs28)
     ·have hs30:=hs24.trans (bf c9)
      refine sr (aF U (an ?_))
      refine aB U (fun c11=>?_) (fun c11=>?_)
      ·have hs31:=hs30.trans (bt c11)
       refine ai ?_
       refine aB U (fun c12=>?_) (fun c12=>?_)
       ·have hs32:=hs31.trans (bt c12)
        refine sr (an ?_)
        exact ar [.bool false] lA U hX rd (cs hs32)
       ·have hs34:=hs31.trans (bf c12)
        refine ai (ao (sr (aa (aA (v:=.bool (cK s)) nJ (gL h s ) U (an ?_)))))
        exact ar [.bool (cK s)] lA U hX rd (cs hs34)
      ·have hs36:=hs30.trans (bf c11)
       refine sr (aF U (an ?_))
       refine aB U (fun c13=>?_) (fun c13=>?_)
       ·have hs37:=hs36.trans (bt c13)
        refine ai ?_
        refine aB U (fun c14=>?_) (fun c14=>?_)
        ·have hs38:=hs37.trans (bt c14)
         refine sr (an ?_)
         exact ar [.bool false] lA U hX rd (cs hs38)
        ·have hs40:=hs37.trans (bf c14)
         refine ai (ao (sr (aa (aA (v:=.bool (cK s)) nJ (gL h s ) U (an ?_)))))
         exact ar [.bool (cK s)] lA U hX rd (cs hs40)
       ·have hs42:=hs36.trans (bf c13)
        refine sr (aF U (an ?_))
        refine aB U (fun c15=>?_) (fun c15=>?_)
        ·have hs43:=hs42.trans (bt c15)
         refine ai ?_
         refine aB U (fun c16=>?_) (fun c16=>?_)
         ·have hs44:=hs43.trans (bt c16)
          refine sr (an ?_)
          exact ar [.bool false] lA U hX rd (cs hs44)
         ·have hs46:=hs43.trans (bf c16)
          refine ai (ao (sr (aa (aA (v:=.bool (cK s)) nJ (gL h s ) U (an ?_)))))
          exact ar [.bool (cK s)] lA U hX rd (cs hs46)
        ·have hs48:=hs42.trans (bf c15)
         refine sr (aF U (an ?_))
         refine aB U (fun c17=>?_) (fun c17=>?_)
         ·have hs49:=hs48.trans (bt c17)
          refine ai ?_
          refine aB U (fun c18=>?_) (fun c18=>?_)
          ·have hs50:=hs49.trans (bt c18)
           refine sr (an ?_)
           exact ar [.bool false] lA U hX rd (cs hs50)
          ·have hs52:=hs49.trans (bf c18)
           refine ai (ao (sr (aa (aA (v:=.bool (cK s)) nJ (gL h s ) U (an ?_)))))
           exact ar [.bool (cK s)] lA U hX rd (cs hs52)
         ·have hs54:=hs48.trans (bf c17)
          refine sr (aF U (an ?_))
          refine aB U (fun c19=>?_) (fun c19=>?_)
          ·have hs55:=hs54.trans (bt c19)
           refine ai ?_
           refine aB U (fun c20=>?_) (fun c20=>?_)
           ·have hs56:=hs55.trans (bt c20)
            refine sr (an ?_)
            exact ar [.bool false] lA U hX rd (cs hs56)
           ·have hs58:=hs55.trans (bf c20)
            refine ai (ao (sr (aa (aA (v:=.bool (cK s)) nJ (gL h s ) U (an ?_)))))
            exact ar [.bool (cK s)] lA U hX rd (cs hs58)
          ·have hs60:=hs54.trans (bf c19)
           refine sr (aF U (an ?_))
           refine aB U (fun c21=>?_) (fun c21=>?_)
           ·have hs61:=hs60.trans (bt c21)
            refine ai ?_
            refine aB U (fun c22=>?_) (fun c22=>?_)
            ·have hs62:=hs61.trans (bt c22)
             refine sr (an ?_)
             exact ar [.bool false] lA U hX rd (cs hs62)
            ·have hs64:=hs61.trans (bf c22)
             refine ai (ao (sr (aa (aA (v:=.bool (cK s)) nJ (gL h s ) U (an ?_)))))
             exact ar [.bool (cK s)] lA U hX rd (cs hs64)
           ·have hs66:=hs60.trans (bf c21)
            refine sr (aF U (an ?_))
            refine aB U (fun c23=>?_) (fun c23=>?_)
            ·have hs67:=hs66.trans (bt c23)
             refine ai ?_
             refine aB U (fun c24=>?_) (fun c24=>?_)
             ·have hs68:=hs67.trans (bt c24)
              refine sr (an ?_)
              exact ar [.bool false] lA U hX rd (cs hs68)
             ·have hs70:=hs67.trans (bf c24)
              refine ai (ao (sr (aa (aA (v:=.bool (cK s)) nJ (gL h s ) U (an ?_)))))
              exact ar [.bool (cK s)] lA U hX rd (cs hs70)
            ·have hs72:=hs66.trans (bf c23)
             refine sr (aF U (an ?_))
             refine aB U (fun c25=>?_) (fun c25=>?_)
             ·have hs73:=hs72.trans (bt c25)
              refine ai ?_
              refine aB U (fun c26=>?_) (fun c26=>?_)
              ·have hs74:=hs73.trans (bt c26)
               refine sr (an ?_)
               exact ar [.bool false] lA U hX rd (cs hs74)
              ·have hs76:=hs73.trans (bf c26)
               refine ai (ao (sr (aa (aA (v:=.bool (cK s)) nJ (gL h s ) U (an ?_)))))
               exact ar [.bool (cK s)] lA U hX rd (cs hs76)
             ·have hs78:=hs72.trans (bf c25)
              refine sr (aF U (an ?_))
              refine aB U (fun c27=>?_) (fun c27=>?_)
              ·have hs79:=hs78.trans (bt c27)
               refine ai ?_
               refine aB U (fun c28=>?_) (fun c28=>?_)
               ·have hs80:=hs79.trans (bt c28)
                refine sr (an ?_)
                exact ar [.bool false] lA U hX rd (cs hs80)
               ·have hs82:=hs79.trans (bf c28)
                refine ai (ao (sr (aa (aA (v:=.bool (cK s)) nJ (gL h s ) U (an ?_)))))
                exact ar [.bool (cK s)] lA U hX rd (cs hs82)
              ·have hs84:=hs78.trans (bf c27)
               refine sr (aF U (an ?_))
               refine aB U (fun c29=>?_) (fun c29=>?_)
               ·have hs85:=hs84.trans (bt c29)
                refine ai ?_
                refine aB U (fun c30=>?_) (fun c30=>?_)
                ·have hs86:=hs85.trans (bt c30)
                 refine sr (an ?_)
                 exact ar [.bool false] lA U hX rd (cs hs86)
                ·have hs88:=hs85.trans (bf c30)
                 refine ai (ao (sr (aa (aA (v:=.bool (cK s)) nJ (gL h s ) U (an ?_)))))
                 exact ar [.bool (cK s)] lA U hX rd (cs hs88)
               ·have hs90:=hs84.trans (bf c29)
                refine ah (aF U (an ?_))
                refine aB U (fun c31=>?_) (fun c31=>?_)
                ·have hs91:=hs90.trans (bt c31)
                 refine sr (an ?_)
                 exact ar [.bool false] lA U hX rd (cs hs91)
                ·have hs93:=hs90.trans (bf c31)
                 refine ai (ao (sr (aa (aA (v:=.bool (cK s)) nJ (gL h s ) U (an ?_)))))
                 exact ar [.bool (cK s)] lA U hX rd (cs hs93)
theorem jD (h:HF) (s:(List ByteArray)) (pP:Option Addr) (pi:Nat) (v:ByteArray) (hs:SlC Rp.str h pP pi s):Ret Tryz.prog 221 [.slice pP s.length pi,.string v] h (I (aN s v)):=by
 refine aw Tryz.func221 U Tryz.ntmps221 U fun X hM hX=>?_
 have hs0:aN s v=aN s v:=rfl
 refine sr (an (ad (sr (aa (bE kV U (aa (ac ?_)))))))
 refine bq (ι:=Nat) (fun i=>[]) (fun i=>h) (fun i=>[]) (fun i=>i≤s.length∧aN s v=((aN.K1))) ?_ (fun hx1=>?_)
 ·rintro i1 ⟨bd,hs1⟩ e
  try dsimp only at bd
  try dsimp only
  refine sr (an ?_)
  exact ar [I (-1)] Tryz.func221 U hX rd (ci hs1)
 ·refine ck (ι:=Nat×List ByteArray) (fun i=>[(0,.slice pP s.length pi),(1,.string v),(7,I ((s.length:Nat):Int)),(8,I ((i.1:Nat):Int))]) (fun i=>h) (fun i=>[]) (fun i=>s.drop i.1=i.2∧i.1≤s.length∧aN s v=((aN.L1 v (aN.K1)) i.2 i.1)) (fun i=>i.2.length) (0,s) rd sw ⟨U,Nat.zero_le _,hs0⟩ ?_
  rintro ⟨i1,s1⟩ ⟨hd1,bd,hs3⟩ ag1 e
  try dsimp only at hd1 bd
  rcases s1 with _ | ⟨y1,rz1⟩
  ·have dJ:=cS hd1
   try dsimp only
   refine sr (az (v':=.bool false) U (cb dJ) (ac (ad (ba U (bM U ?_)))))
   exact hx1 i1 _ ⟨bd,hs3⟩ trivial
  ·have dI:=dV hd1
   have bh:=cU hd1
   have e9:=aP hd1
   have gO:=hs.1.1
   try dsimp only
   refine sr (az (v':=.bool true) U (cb dI) (ac (ad (bj U (ai (ad (aU (sr (aa (an (sr (aa (aa (aa (a8 (fZ (enc:=fun y=>[.string y]) (fun _ _ _ e=>e) kV ty9 hs.1 (nthZ bh) (bA bh) U U U (fun q2 A2=>?_)))))))))))))))))
   refine eM ty9 A2 U (aF U (ac ?_))
   refine aB U (fun c2=>?_) (fun c2=>?_)
   ·have hs5:=hs3.trans (bt c2)
    refine sr (aa (an ?_))
    exact ar [I ((i1:Nat):Int)] Tryz.func221 U hX rd (ci hs5)
   ·have hs7:=hs3.trans (bf c2)
    refine ai (ao (ah (az (v':=I (((i1+1):Nat):Int)) U (bP ob) (aa (ac ?_)))))
    exact ag1 ((i1+1),rz1) _ (Nat.lt_succ_self _) ⟨bF hd1,aP hd1,hs7⟩ rd
theorem kM (h:HF) (l:(List ByteArray)) (fc:Option Addr) (fb:Nat) (ok:(ByteArray→Bool)) (ok_v:Value) (hl:SlC Rp.str h fc fb l) (hok:∀ (h':HF) (cD:ByteArray),HF.le h h'→vf Tryz.prog ok_v [.string cD] h' [] (.bool (ok cD))):Ret Tryz.prog 245 [.slice fc l.length fb,ok_v] h (.bool (bD l ok)):=by
 refine aw Tryz.func245 U Tryz.ntmps245 U fun X hM hX=>?_
 have hs0:bD l ok=bD l ok:=rfl
 refine sr (an (ad (sr (aa (bE kV U (aa (ac ?_)))))))
 refine bq (ι:=Nat) (fun i=>[]) (fun i=>h) (fun i=>[]) (fun i=>i≤l.length∧bD l ok=((bD.K1))) ?_ (fun hx1=>?_)
 ·rintro i1 ⟨bd,hs1⟩ e
  try dsimp only at bd
  try dsimp only
  refine sr (an ?_)
  exact ar [.bool true] Tryz.func245 U hX rd (cs hs1)
 ·refine ck (ι:=Nat×List ByteArray) (fun i=>[(0,.slice fc l.length fb),(1,ok_v),(7,.slice fc l.length fb),(8,I ((l.length:Nat):Int)),(9,I ((i.1:Nat):Int))]) (fun i=>h) (fun i=>[]) (fun i=>l.drop i.1=i.2∧i.1≤l.length∧bD l ok=((bD.L1 l ok (bD.K1)) i.2 i.1)) (fun i=>i.2.length) (0,l) rd sw ⟨U,Nat.zero_le _,hs0⟩ ?_
  rintro ⟨i1,s1⟩ ⟨hd1,bd,hs3⟩ ag1 e
  try dsimp only at hd1 bd
  rcases s1 with _ | ⟨y1,rz1⟩
  ·have dJ:=cS hd1
   try dsimp only
   refine sr (az (v':=.bool false) U (cb dJ) (ac (ad (ba U (bM U ?_)))))
   exact hx1 i1 _ ⟨bd,hs3⟩ trivial
  ·have dI:=dV hd1
   have bh:=cU hd1
   have e9:=aP hd1
   have gO:=hl.1.1
   try dsimp only
   refine sr (az (v':=.bool true) U (cb dI) (ac (ad (bj U (ai (ad (aU (sr (aa (a8 (fZ (enc:=fun y=>[.string y]) (fun _ _ _ e=>e) kV ty9 hl.1 (nthZ bh) (bA bh) U U U (fun q2 A2=>?_))))))))))))
   refine eM ty9 A2 U (bi (an (sr (aa (aa (a8 (nv (v:=.bool (ok y1)) [] (List.nil_sublist _) (hok h y1 (HF.le_refl _)) U U (cR U (aa ?_)))))))))
   refine tq 6 [(0,.slice fc l.length fb),(1,ok_v),(7,.slice fc l.length fb),(8,I ((l.length:Nat):Int)),(9,I ((i1:Nat):Int)),(24,.bool ((!(ok y1))||((aN l y1) != ((i1:Nat):Int))))] (fun hk1=>?_) (fun e=>?_)
   ·refine au 18 U (fun c1=>?_) (fun c1=>?_)
    ·refine kq (kq (bY (ae U ?_)))
     exact hk1 _ ⟨U,U,U,U,U,(cb (eB c1)),trivial⟩
    ·refine aa (aa (aA (v:=I (aN l y1)) FO (jD h l fc fb y1 hl) U (aa (aF U (ae U ?_)))))
     exact hk1 _ ⟨U,U,U,U,U,(cb (eE c1)),trivial⟩
   refine ac ?_
   refine aB U (fun c2=>?_) (fun c2=>?_)
   ·have hs5:=hs3.trans (bt c2)
    refine sr (an ?_)
    exact ar [.bool false] Tryz.func245 U hX rd (cs hs5)
   ·have hs7:=hs3.trans (bf c2)
    refine ai (ao (ah (az (v':=I (((i1+1):Nat):Int)) U (bP ob) (aa (ac ?_)))))
    exact ag1 ((i1+1),rz1) _ (Nat.lt_succ_self _) ⟨bF hd1,aP hd1,hs7⟩ rd
end Go.Sg
namespace Go.Sg
open Go.Proofs
set_option maxHeartbeats 2000000
set_option maxRecDepth 100000
set_option linter.unusedVariables false
theorem ox (h:HF) (s:(List ByteArray)) (pP:Option Addr) (pi:Nat) (v:ByteArray) (hs:SlC Rp.str h pP pi s):Ret Tryz.prog 246 [.slice pP s.length pi,.string v] h (.bool (dw s v)):=by
 refine aw Tryz.func246 U Tryz.ntmps246 U fun X hM hX=>?_
 have hs0:dw s v=dw s v:=rfl
 refine sr (an (sr (aa (aa (aA (v:=I (aN s v)) FO (jD h s pP pi v hs) U (aF U (an ?_)))))))
 exact ar [.bool (decide (0≤(aN s v)))] Tryz.func246 U hX rd (cs hs0)
theorem tZ (h:HF) (p:Policy) (fp:fh) (hp:Policy.ok h p fp) (hsm:smP p):Fp Tryz.prog 216 [.agg (Policy.cells p fp).toArray] h (exW stopV (fun r:Unit=>(.tuple #[]:Value)) (cu p)):=by
 refine aw Eb U Tryz.ntmps216 U fun X hM hX=>?_
 have hs0:cu p=cu p:=rfl
 have hsr:=hsm.rules
 refine sr (dC (fun b1=>ac (sr (ay wp U (aL 0 ty9 U U U (aA (v:=.bool (de p.Name)) Tryz.call244 (lU h p.Name ) U (aa ?_)))))))
 refine tq 4 [(1,Q b1),(12,.bool ((de p.Name)&&(bD p.Offices de)))] (fun hk1=>?_) (fun e=>?_)
 ·refine au 8 U (fun c1=>?_) (fun c1=>?_)
  ·refine ay jO U (aL 0 ty62 U U U (aA (v:=.bool (bD p.Offices de)) Tryz.call245 (kM h p.Offices fp.dB fp.dA de (.func (.func 244) #[] #[]) hp.Offices (fun h' cD hle =>je Tryz.call244 (lU h' cD    ))) U ?_))
   refine ae U ?_
   exact hk1 _ ⟨U,(cb (cY c1)),trivial⟩
  ·refine kq (bY (ae U ?_))
   exact hk1 _ ⟨U,(cb (cZ c1)),trivial⟩
 refine aa ?_
 refine tq 4 [(1,Q b1),(17,.bool (((de p.Name)&&(bD p.Offices de))&&(bD p.Kinds de)))] (fun hk2=>?_) (fun e=>?_)
 ·refine au 13 U (fun c2=>?_) (fun c2=>?_)
  ·refine ay kO U (aL 0 ty62 U U U (aA (v:=.bool (bD p.Kinds de)) Tryz.call245 (kM h p.Kinds fp.fM fp.fL de (.func (.func 244) #[] #[]) hp.Kinds (fun h' cD hle =>je Tryz.call244 (lU h' cD    ))) U ?_))
   refine ae U ?_
   exact hk2 _ ⟨U,(cb (cY c2)),trivial⟩
  ·refine kq (bY (ae U ?_))
   exact hk2 _ ⟨U,(cb (cZ c2)),trivial⟩
 refine a8 (kK sG (gk h (((de p.Name)&&(bD p.Offices de))&&(bD p.Kinds de)) 201 ) U (fun u1 hu1=>?_) (fun pv1 hpv1 e=>?_))
 ·obtain ⟨rx1,hrx1,rfl⟩:=mC hu1
  have hs1:=hs0.trans (mB hrx1)
  cases rx1
  refine ac (sr (dh 0 ty68 U U U (a8 (dp Tryz.call243 (kh h p fp hp ob) U (fun v1 h1 hle1 hp1=>?_)))))
  obtain ⟨rb1,rc1,rfl,sl1⟩:=hp1
  refine bE gg U (aa (ac ?_))
  refine gv ?_
  let z1:Nat×Obj:=(b1,O (Policy.cells p fp) 68)
  refine dW (L':=[z1]++(markB [])) ap ?_
  refine pR (ι:=Nat×List Nat×HF) (fun i=>[]) (fun i=>marks i.2.1) (fun i=>i.2.2) (fun i=>[z1]++(markB i.2.1)) (fun i=>i.1≤(aC p).length∧cu p=((cu.K1))∧HF.le h1 i.2.2) ?_ (fun hx1=>?_)
  ·rintro ⟨i1,rs1,hh1⟩ ⟨bd,hs2,hl1⟩ e
   try dsimp only at bd hl1
   try dsimp only
   have hs3:cu p=(Except.ok ()):=hs2
   refine dW (L':=([z1])++markB rs1) ap ?_
   exact tO rs1 [] Eb U hX trivial (congrArg (exW stopV (fun r:Unit=>(.tuple #[]:Value))) hs3)
  ·refine tN (ι:=Nat×List Nat×HF×List Expr) (fun i=>[(1,Q b1),(20,.slice rb1 ((aC p).length) rc1),(21,I (((aC p).length:Nat):Int)),(22,I ((i.1:Nat):Int))]) (fun i=>marks i.2.1) (fun i=>i.2.2.1) (fun i=>[z1]++(markB i.2.1)) (fun i=>(aC p).drop i.1=i.2.2.2∧i.1≤(aC p).length∧cu p=((cu.L1 p (cu.K1)) i.2.2.2 )∧HF.le h1 i.2.2.1) (fun i=>i.2.2.2.length) (0,[],h1,(aC p)) U rd sw ⟨U,Nat.zero_le _,hs1,(HF.le_refl h1)⟩ ?_
   rintro ⟨i1,rs1,hh1,s1⟩ ⟨hd1,bd,hs4,hl1⟩ ag1 e
   try dsimp only at hd1 bd hl1
   rcases s1 with _ | ⟨y1,rz1⟩
   ·have dJ:=cS hd1
    try dsimp only
    refine sr (az (v':=.bool false) U (cb dJ) (ac (ad (ba U (bM U ?_)))))
    exact hx1 (i1,rs1,hh1) _ ⟨bd,hs4,hl1⟩ trivial
   ·have dI:=dV hd1
    have bh:=cU hd1
    have e9:=aP hd1
    have gO:=sl1.1.1
    try have hsy:=uu hsm (gm hd1)
    try dsimp only
    refine sr (az (v':=.bool true) U (cb dI) (ac (ad (bj U (ai (ad (aU (sr (a8 (gX gg ty66 (sl1.mono Expr.aJ hl1).1 (nthZ bh) (bA bh) U U U (fun q2 cs2 A2 ln2 rr2=>?_)))))))))))
    obtain ⟨r2,rfl,ok2⟩:=rr2
    refine dT ty66 A2 U U (bT zc66 (fun b4=>bJ 0 ty66 U U U U U U (ac (sr (dh 0 ty66 U U U (a8 (dp Ed (kL hh1 y1 r2 1 ok2 ob) U (fun v3 h3 hle3 hp3=>?_))))))))
    obtain ⟨_,rfl,mo2⟩:=hp3
    refine ac (aU ?_)
    let z2:Nat×Obj:=(b4,O (Expr.cells y1 r2) 66)
    refine dW (L':=([z2,z1])++markB rs1) ap ?_
    refine kc (it:=v3) (xs:=(bZ y1 1)) (ι:=HF) rs1 (fun i=>i) (fun i=>[z2,z1]) (fun s i=>cu p=((cu.L3 p ((cu.L1 p (cu.K1) rz1 ))) s )∧HF.le h3 i) (fun _=>False) (fun _=>False) 0 (fun ch _ _=>∃ pv_,ch=[{ v:=stopV pv_,recovered:=false }]∧cu p=.error pv_) h3 Eb U mo2 U lF (fun _ _ _ _ _ hq=>hq) U (show [z2,z1]=_ from U) ⟨hs4,(HF.le_refl h3)⟩ ?_ ?_ ?_ ?_ ?_
    ·rintro l3 dm3 lp3 y3 rz3 vs3 hh3 hr3 X hFR3 ⟨hs6,hl3⟩ hl03 hlr3 hv3 hX hXM hlp3 nx3 rt3 ex3 pn3
     try dsimp only at hl3 hlr3
     obtain ⟨rr3_0,rfl,ok3_0⟩:=hv3
     let z3:Nat×Obj:=(dm3,.deferred (some []))
     refine dW (L':=[(l3,.loop lp3),z3,z2,z1]++(markB rs1)) ap ?_
     refine ah (bT zc258 (fun b6=>bJ 0 ty258 U U U U U U (ac (kd 1 U hlp3 (aU (ah (ay li U (dh 0 ty66 U U U (aA (v:=.bool (cX y3.x)) Tryz.call220 (lx hr3 y3.x rr3_0.x ok3_0.x) U ?_)))))))))
     refine cR U (aa ?_)
     refine tq 7 [(40,.bool ((!(cX y3.x))||(dw p.Offices y3.x.Name)))] (fun hk3=>?_) (fun e=>?_)
     ·refine au 33 U (fun c3=>?_) (fun c3=>?_)
      ·refine kq (kq (kq (ae U ?_)))
       exact hk3 _ ⟨(cb (eB c3)),trivial⟩
      ·refine ay jO U (aL 4 ty62 U U U (ay li U (ay my U (aL 0 ty9 U U U (aA (v:=.bool (dw p.Offices y3.x.Name)) Tryz.call246 (ox hr3 p.Offices fp.dB fp.dA y3.x.Name (hp.Offices.mono Rp.gx ((((hle1.t hl1).t hle3).t hl3).t hlr3))) U ?_)))))
       refine ae U ?_
       exact hk3 _ ⟨(cb (eE c3)),trivial⟩
     refine a8 (kK sG (gk hr3 ((!(cX y3.x))||(dw p.Offices y3.x.Name)) 201 ) U (fun u2 hu2=>?_) (fun pv2 hpv2 e=>?_))
     ·obtain ⟨rx2,hrx2,rfl⟩:=mC hu2
      have hs7:=hs6.trans (mB hrx2)
      cases rx2
      refine ac (ao ?_)
      refine cE (L':=[(l3,.loop { lp3 with state:=.busy }),z3,z2,z1]++(markB rs1)) js ?_
      refine dW (L':=rdH l3 dm3 lp3 (([z2,z1])++markB rs1)) ap ?_
      exact nx3 hr3 _ _ ⟨hs7,(hl3.t hlr3)⟩ (HF.le_refl _)
     ·obtain ⟨pv2e,hpv2e,rfl⟩:=kR hpv2
      have hs8:=hs6.trans (kQ hpv2e)
      refine sZ (L':=[(l3,.loop { lp3 with state:=.busy }),z3]++(markB rs1)) js ?_
      exact pn3 _ _ _ [] ⟨_,U,hs8⟩
    ·rintro dm3 hh3 hn3 ⟨hs9,hl3⟩ hln3 hl03
     try dsimp only at hl3 hln3
     refine dW (L':=[z2,z1]++(markB (dm3::rs1))) ap ?_
     refine ao (ao (ah (az (v':=I (((i1+1):Nat):Int)) U (bP ob) (aa (ac ?_)))))
     refine cE (L':=[z1]++(markB (dm3::rs1))) js ?_
     exact ag1 ((i1+1),(dm3::rs1),hn3,rz1) _ (Nat.lt_succ_self _) ⟨bF hd1,aP hd1,hs9,(((hl1.t hle3).t hl3).t hln3)⟩ rd
    ·exact fun _ _ _ hF=>hF.elim
    ·exact fun _ _ _ hF=>hF.elim
    ·rintro dm3 ch hn3 L0 ⟨pv_,rfl,hpv_⟩ hl03
     exact lK (dm3::rs1) Eb hX (congrArg (exW stopV (fun r:Unit=>(.tuple #[]:Value))) hpv_)
 ·obtain ⟨pv1e,hpv1e,rfl⟩:=kR hpv1
  have hs10:=hs0.trans (kQ hpv1e)
  refine jj ?_
  exact lK [] Eb hX (congrArg (exW stopV (fun r:Unit=>(.tuple #[]:Value))) hs10)
theorem f9 (h:HF) (dN:Int) (low:Int) (high:Int)  : Ret Tryz.prog 103 [I dN,I low,I high] h (.bool (aO dN low high)):=by
 refine aw Tryz.func103 U Tryz.ntmps103 U fun X hM hX=>?_
 have hs0:aO dN low high=aO dN low high:=rfl
 refine sr (an (sr (aa (aa (aF U (aa ?_))))))
 refine tq 4 [(14,.bool (decide (low≤dN)&&decide (dN≤high)))] (fun hk1=>?_) (fun e=>?_)
 ·refine au 10 U (fun c1=>?_) (fun c1=>?_)
  ·refine aa (aa (aF U (ae U ?_)))
   exact hk1 _ ⟨(cb (cY c1)),trivial⟩
  ·refine kq (bY (ae U ?_))
   exact hk1 _ ⟨(cb (cZ c1)),trivial⟩
 refine an ?_
 exact ar [.bool (decide (low≤dN)&&decide (dN≤high))] Tryz.func103 U hX rd (cs hs0)
theorem EY {n a b:Int} (h:aO n a b=true):a≤n∧n≤b:=by simpa [aO] using h
theorem sx (h:HF) (x0:Expr) (IV:cM) (hx0:Expr.ok h x0 IV):Ret Tryz.prog 299 [.agg (Expr.cells x0 IV).toArray] h (.bool (ll x0)):=by
 refine aw Tryz.func299 U Tryz.ntmps299 U fun X hM hX=>?_
 have hs0:ll x0=ll x0:=rfl
 refine sr (dC (fun b1=>an (sr (an ?_))))
 exact ar [.bool false] Tryz.func299 U hX rd (cs hs0)
theorem sv (h:HF) (x:Expr) (fu:cM) (hx:Expr.ok h x fu):Ret Tryz.prog 300 [.agg (Expr.cells x fu).toArray] h (.bool (jJ x)):=by
 refine aw Tryz.func300 U Tryz.ntmps300 U fun X hM hX=>?_
 have hs0:jJ x=jJ x:=rfl
 refine sr (dC (fun b1=>an (sr (ay ka U (aL 0 ty3 U U U (aF U (aa ?_)))))))
 refine tq 5 [(11,.bool ((x.N==0)&&(((x.L.length:Nat):Int)==0)))] (fun hk1=>?_) (fun e=>?_)
 ·refine au 6 U (fun c1=>?_) (fun c1=>?_)
  ·refine ay dF U (aL 0 ty64 U U U (bE gg U (aF U (ae U ?_))))
   exact hk1 _ ⟨(cb (cY c1)),trivial⟩
  ·refine kq (kq (ae U ?_))
   exact hk1 _ ⟨(cb (cZ c1)),trivial⟩
 refine an ?_
 exact ar [.bool ((x.N==0)&&(((x.L.length:Nat):Int)==0))] Tryz.func300 U hX rd (cs hs0)
theorem su (h:HF) (x:Expr) (fu:cM) (hx:Expr.ok h x fu):Ret Tryz.prog 301 [.agg (Expr.cells x fu).toArray] h (.bool (jI x)):=by
 refine aw Tryz.func301 U Tryz.ntmps301 U fun X hM hX=>?_
 have hs0:jI x=jI x:=rfl
 refine sr (dC (fun b1=>an (sr (ay ka U (aL 0 ty3 U U U (aA (v:=.bool (aO x.N 1 4096)) tK (f9 h x.N 1 4096 ) U (aa ?_)))))))
 refine tq 5 [(11,.bool ((aO x.N 1 4096)&&(((x.L.length:Nat):Int)==0)))] (fun hk1=>?_) (fun e=>?_)
 ·refine au 6 U (fun c1=>?_) (fun c1=>?_)
  ·refine ay dF U (aL 0 ty64 U U U (bE gg U (aF U (ae U ?_))))
   exact hk1 _ ⟨(cb (cY c1)),trivial⟩
  ·refine kq (kq (ae U ?_))
   exact hk1 _ ⟨(cb (cZ c1)),trivial⟩
 refine an ?_
 exact ar [.bool ((aO x.N 1 4096)&&(((x.L.length:Nat):Int)==0))] Tryz.func301 U hX rd (cs hs0)
theorem ss (h:HF) (x:Expr) (fu:cM) (hx:Expr.ok h x fu):Ret Tryz.prog 302 [.agg (Expr.cells x fu).toArray] h (.bool (jH x)):=by
 refine aw Tryz.func302 U Tryz.ntmps302 U fun X hM hX=>?_
 have hs0:jH x=jH x:=rfl
 refine sr (dC (fun b1=>an (sr (ay my U (aL 0 ty9 U U U (aF U (aa ?_)))))))
 refine tq 5 [(1,Q b1),(11,.bool ((x.Name.toList==(⟨#[]⟩:ByteArray).toList)&&(aO ((x.L.length:Nat):Int) 1 16)))] (fun hk1=>?_) (fun e=>?_)
 ·refine au 6 U (fun c1=>?_) (fun c1=>?_)
  ·refine ay dF U (aL 0 ty64 U U U (bE gg U (aA (v:=.bool (aO ((x.L.length:Nat):Int) 1 16)) tK (f9 h ((x.L.length:Nat):Int) 1 16 ) U (ae U ?_))))
   exact hk1 _ ⟨U,(cb (cY c1)),trivial⟩
  ·refine kq (kq (ae U ?_))
   exact hk1 _ ⟨U,(cb (cZ c1)),trivial⟩
 refine aa ?_
 refine tq 7 [(19,.bool (((x.Name.toList==(⟨#[]⟩:ByteArray).toList)&&(aO ((x.L.length:Nat):Int) 1 16))&&(aO x.N 1 ((x.L.length:Nat):Int))))] (fun hk2=>?_) (fun e=>?_)
 ·refine au 12 U (fun c2=>?_) (fun c2=>?_)
  ·refine ay ka U (aL 0 ty3 U U U (ay dF U (aL 0 ty64 U U U (bE gg U (aA (v:=.bool (aO x.N 1 ((x.L.length:Nat):Int))) tK (f9 h x.N 1 ((x.L.length:Nat):Int)) U ?_)))))
   refine ae U ?_
   exact hk2 _ ⟨(cb (cY c2)),trivial⟩
  ·refine kq (kq (kq (ae U ?_)))
   exact hk2 _ ⟨(cb (cZ c2)),trivial⟩
 refine an ?_
 exact ar [.bool (((x.Name.toList==(⟨#[]⟩:ByteArray).toList)&&(aO ((x.L.length:Nat):Int) 1 16))&&(aO x.N 1 ((x.L.length:Nat):Int)))] Tryz.func302 U hX rd (cs hs0)
theorem sq (h:HF) (x:Expr) (fu:cM) (hx:Expr.ok h x fu):Ret Tryz.prog 303 [.agg (Expr.cells x fu).toArray] h (.bool (ja x)):=by
 refine aw Tryz.func303 U Tryz.ntmps303 U fun X hM hX=>?_
 have hs0:ja x=ja x:=rfl
 refine sr (dC (fun b1=>an (sr (ay my U (aL 0 ty9 U U U (aF U (aa ?_)))))))
 refine tq 5 [(1,Q b1),(11,.bool ((x.Name.toList==(⟨#[]⟩:ByteArray).toList)&&(((x.L.length:Nat):Int)==2)))] (fun hk1=>?_) (fun e=>?_)
 ·refine au 6 U (fun c1=>?_) (fun c1=>?_)
  ·refine ay dF U (aL 0 ty64 U U U (bE gg U (aF U (ae U ?_))))
   exact hk1 _ ⟨U,(cb (cY c1)),trivial⟩
  ·refine kq (kq (ae U ?_))
   exact hk1 _ ⟨U,(cb (cZ c1)),trivial⟩
 refine aa ?_
 refine tq 4 [(16,.bool (((x.Name.toList==(⟨#[]⟩:ByteArray).toList)&&(((x.L.length:Nat):Int)==2))&&(aO x.N 0 1099511627776)))] (fun hk2=>?_) (fun e=>?_)
 ·refine au 12 U (fun c2=>?_) (fun c2=>?_)
  ·refine ay ka U (aL 0 ty3 U U U (aA (v:=.bool (aO x.N 0 1099511627776)) tK (f9 h x.N 0 1099511627776 ) U (ae U ?_)))
   exact hk2 _ ⟨(cb (cY c2)),trivial⟩
  ·refine kq (bY (ae U ?_))
   exact hk2 _ ⟨(cb (cZ c2)),trivial⟩
 refine an ?_
 exact ar [.bool (((x.Name.toList==(⟨#[]⟩:ByteArray).toList)&&(((x.L.length:Nat):Int)==2))&&(aO x.N 0 1099511627776))] Tryz.func303 U hX rd (cs hs0)
theorem DQ (h:HF) (i:Int) (hi:0≤i∧i < 5) (x:Expr) (fu:cM) (hx:Expr.ok h x fu):vf Tryz.prog (kfun i) [.agg (Expr.cells x fu).toArray] h [] (.bool (kindsP i x)):=by
 have:i=0∨i=1∨i=2∨i=3∨i=4:=by omega
 rcases this with rfl | rfl | rfl | rfl | rfl
 ·exact je (cap:=[]) Tryz.call299 (sx h x fu hx)
 ·exact je (cap:=[]) Tryz.call300 (sv h x fu hx)
 ·exact je (cap:=[]) Tryz.call301 (su h x fu hx)
 ·exact je (cap:=[]) Tryz.call302 (ss h x fu hx)
 ·exact je (cap:=[]) Tryz.call303 (sq h x fu hx)
end Go.Sg
namespace Go.Sg
open Go.Proofs
set_option maxRecDepth 100000
section runs
variable {P:Program} {e:Env} {X:Cx} {h:HF} {L:LH} {d:Option Nat} {ty:TypeId} {pos:String} {af:Array Edge} {g:Option (Nat×Bool)}
theorem HU {t u:TypeId} {x:Operand} (hT:∃ ms,P.underlying t=some (.interface ms)) (hx:e.ev x=.nilIface):∀ w,St X h L w→(execOp e.ev ⟨d,.binOp .neq t x (.const .nilIface) u,ty,pos,af,g⟩).run P w=.ok (.value (.bool false)) w:=
 fun w _=>by
  obtain ⟨ms,hT⟩:=hT
  have hc:e.ev (.const .nilIface)=.nilIface:=rfl
  have he:(Op.equal t .nilIface .nilIface).run P w=.ok true w:=by
   rw [Op.equal,Op.maxDepth,show (10000:Nat)=9999+1 from rfl,Op.equalIn];simp [run_underlying hT]
  simp [execOp,hx,hc,eqGuard,binOp,he]
theorem HT {t u:TypeId} {x:Operand} {T:TypeId} {v:Value} (hT:∃ ms,P.underlying t=some (.interface ms)) (hx:e.ev x=.iface T v):∀ w,St X h L w→(execOp e.ev ⟨d,.binOp .neq t x (.const .nilIface) u,ty,pos,af,g⟩).run P w=.ok (.value (.bool true)) w:=
 fun w _=>by
  obtain ⟨ms,hT⟩:=hT
  have hc:e.ev (.const .nilIface)=.nilIface:=rfl
  have he:(Op.equal t (.iface T v) .nilIface).run P w=.ok false w:=by
   rw [Op.equal,Op.maxDepth,show (10000:Nat)=9999+1 from rfl,Op.equalIn];simp [run_underlying hT]
  simp [execOp,hx,hc,eqGuard,binOp,he]
theorem E8 {x:Operand} {xt T:TypeId} {fs:Array Field} {v:Value} (hT:P.underlying T=some (.struct fs)) (hx:e.ev x=.iface T v):∀ w,St X h L w→(execOp e.ev ⟨d,.typeAssert x xt T true,ty,pos,af,g⟩).run P w=.ok (.value (.tuple #[v,.bool true])) w:=
 fun w _=>by simp [execOp,hx,Instr.typeAssert,run_underlying hT]
end runs
def bodyOf (f:Func):Code:=f.body.getD .skip
theorem DG {P:Program} {e:Env} {d:Option Nat} {ty:TypeId} {pos:String} {af:Array Edge} {g:Option (Nat×Bool)} {t:Nat} {fv:Value} {ats:Array TypeId} (hf:e t=fv) (w:World):
  (execOp e.ev ⟨d,.call ⟨.value (.tmp t),#[],ats⟩,ty,pos,af,g⟩).run P w=(do let d ← Deferred.ofValue fv #[];invoke d.target d.args:Sem Next).run P w:=by
 subst hf;simp [execOp,resolve,Env.ev]
theorem ze (h:HF) (b1:Nat) (X':Cx):TT Tryz.prog (deferFrame 241) 17 [.code (bodyOf Tryz.f241)] (Fu Tryz.prog X' .returning (fun h' B=>h'=h∧B=[(b1,Obj.cells (List.toArray [.int .i64 0]) 35 (0,0))])) (envArgs [.pointer (some ⟨b1,0,none⟩)]) [] X' h [(b1,Obj.cells (List.toArray [.int .i64 0]) 35 (0,0))]:=by
 refine ad (ah (?_))
 refine Bs (fun cs Φ ⟨c,rest,hcs,hm,_⟩=>by subst hcs;simp [recoverD,hm]) ?_
 refine bi (ac (ad (ah (aa (a8 (gW (HU ⟨_,Tryz.underlying20⟩ rfl) (ac (?_))))))))
 exact ba rfl (ai (F4 FN rfl ⟨rfl,rfl⟩))
theorem zf (h:HF) (b1:Nat) (ee:Int) (X':Cx):TT Tryz.prog (deferFrame 241) 17 [.code (bodyOf Tryz.f241)]
  (fun cs Φ=>∃ c rest,cs=c::rest∧c.mode=.panicking [{ v:=stopV ee,recovered:=false }]∧Fu Tryz.prog X' (.panicking [{ v:=stopV ee,recovered:=true }]) (fun h' B=>h'=h∧∃ B0,B=B0++[(b1,Obj.cells (List.toArray [.int .i64 ee]) 35 (0,0))]) ({ c with mode:=(.panicking [{ v:=stopV ee,recovered:=true }]) }::rest) Φ)
  (envArgs [.pointer (some ⟨b1,0,none⟩)]) [] X' h [(b1,Obj.cells (List.toArray [.int .i64 0]) 35 (0,0))]:=by
 refine ad (ah (?_))
 refine DB (F':=Fu Tryz.prog X' (.panicking [{ v:=stopV ee,recovered:=true }]) (fun h' B=>h'=h∧∃ B0,B=B0++[(b1,Obj.cells (List.toArray [.int .i64 ee]) 35 (0,0))])) (stopV ee) (fun cs Φ ⟨c,rest,hcs,hm,hF⟩=>⟨_,by subst hcs;simp [recoverD,hm],hF⟩) ?_
 refine bi (ac (ad (ah (aa (a8 (gW (HT ⟨_,Tryz.underlying20⟩ rfl) (ac (?_))))))))
 refine bj rfl (ad (ah (aa (a8 (gW (E8 Tryz.underlying277 rfl) (aa (bR rfl rfl (bR rfl rfl (bT zc277 (fun b2=>?_))))))))))
 refine bJ 0 ty277 rfl rfl rfl rfl rfl rfl (bi (ac (?_)))
 refine ad (ad (ah (aa (cR rfl (ac (?_))))))
 refine ba rfl (ai (?_))
 refine ah (ay GW rfl (?_))
 refine aL 0 ty35 rfl rfl rfl (?_)
 refine du 1 ty35 rfl rfl rfl rfl rfl rfl (ac (?_))
 exact F4 FN rfl ⟨rfl,[(b2,_)],rfl⟩
theorem sy (h:HF) (fv:Value) (x:Except Int Unit) (hf:kS Tryz.prog fv #[] h [] (XR (exW stopV (fun _:Unit=>.tuple #[]) x) h)):Ret Tryz.prog 213 [fv] h (.int .i64 (attR x)):=by
 refine aw Tryz.func213 rfl Tryz.ntmps213 rfl fun X hM hX=>?_
 refine ad (ah (bT zc35 (fun b1=>ac (ad (ah (a8 (gj rfl rfl (F3 rfl rfl (ac (ad (ah (aa (?_)))))))))))))
 have fin:∀ (r:Int) (B:LH),attR x=r→(∃ B0,B=B0++[(b1,Obj.cells (List.toArray [.int .i64 r]) 35 (0,0))])→∀ (e:Env),e 2=.pointer (some ⟨b1,0,none⟩)→∀ a:Act,envOf a=e→∀ w,St X h (B++[]) w →
   ∃ v h2 B2,(results Tryz.f213 a.tmps).run Tryz.prog w=.ok v w∧St X h2 B2 w∧v=.int .i64 (attR x)∧h2=h∧B2=[]:=by
  rintro r B hr ⟨B0,rfl⟩ e he a ha w hw
  have hw':=hw.sub (L':=[(b1,Obj.cells (List.toArray [.int .i64 r]) 35 (0,0))]) (by simp)
  exact ⟨_,h,[],pY (rs:=[.cell 2 35]) (vs:=[.int .i64 r]) rfl ⟨⟨0,b1,[.int .i64 r],35,(0,0),rfl,he,.inr ⟨_,ty35,rfl⟩⟩,trivial⟩ a ha w hw',hw'.sub (List.nil_sublist _),by rw [hr];rfl,rfl,rfl⟩
 refine Em rfl (by decide) rfl rfl (fun w hw=>?_)
 have hpre:Pre h [] w:=(hw.sub (List.nil_sublist _)).pre
 obtain ⟨nx,hrun,hcall⟩:=hf w hpre
 refine ⟨nx,w,?_,hcall.mono ?_⟩
 ·rw [← hrun];exact DG rfl w
 rintro y w' ⟨h',B,hst,rfl,rfl,hv⟩
 have hw2:=St.after (A:=[]) (B:=[]) (F:=[(b1,Obj.cells (List.toArray [.int .i64 0]) 35 (0,0))]) hw hst
 cases y with
 | outgrown=>trivial
 | returned v=>
  refine ⟨h',_,hw2,?_⟩
  have hx:∃ u,x=.ok u:=by cases x with
   | ok u=>exact ⟨u,rfl⟩
   | error p=>simp [exW] at hv
  obtain ⟨u,rfl⟩:=hx
  refine ac (ad (ah (du 0 ty35 rfl rfl rfl rfl rfl rfl (ac (?_)))))
  refine Hz (c:=bodyOf Tryz.f241) (cap:=[.pointer (some ⟨b1,0,none⟩)]) (A:=[(b1,Obj.cells (List.toArray [.int .i64 0]) 35 (0,0))]) (R':=fun h'' B=>h''=h'∧B=[(b1,Obj.cells (List.toArray [.int .i64 0]) 35 (0,0))]) Tryz.func213 FN rfl Tryz.ntmps241 rfl Tryz.call241 (fun X' _=>ze h' b1 X') (Fr:=[]) rfl ?_
  rintro h'' B _ ⟨rfl,rfl⟩ a ha w hw
  obtain ⟨v,h2,B2,h3,h4,rfl,rfl,rfl⟩:=fin 0 _ rfl ⟨[],rfl⟩ _ rfl a ha w hw
  exact ⟨_,_,_,h3,h4,rfl,rfl,rfl⟩
 | panicked ch=>
  refine ⟨h',_,hw2,?_⟩
  have hx:∃ ee,x=.error ee:=by cases x with
   | ok u=>simp [exW] at hv
   | error p=>exact ⟨p,rfl⟩
  obtain ⟨ee,rfl⟩:=hx
  simp only [exW] at hv
  cases hv
  refine HD (c:=bodyOf Tryz.f241) (cap:=[.pointer (some ⟨b1,0,none⟩)]) (A:=[(b1,Obj.cells (List.toArray [.int .i64 0]) 35 (0,0))]) (R':=fun h'' B=>h''=h'∧∃ B0,B=B0++[(b1,Obj.cells (List.toArray [.int .i64 ee]) 35 (0,0))]) Tryz.func213 FN rfl Tryz.ntmps241 rfl Tryz.call241 (fun X' _=>zf h' b1 ee X') (Fr:=[]) rfl ?_
  rintro h'' B _ ⟨rfl,hB⟩ a ha w hw
  obtain ⟨v,h2,B2,h3,h4,rfl,rfl,rfl⟩:=fin ee _ rfl hB _ rfl a ha w hw
  exact ⟨_,_,_,h3,h4,rfl,rfl,rfl⟩
end Go.Sg
namespace Go.Sg
open Go.Proofs
set_option maxHeartbeats 2000000
set_option maxRecDepth 100000
set_option linter.unusedVariables false
theorem uL (h:HF) (p:Policy) (fp:fh) (hp:Policy.ok h p fp) (hsm:smP p) (hk:Kinds h):Fp Tryz.prog 217 [.agg (Policy.cells p fp).toArray] h (exW stopV (fun r:Unit=>(.tuple #[]:Value)) (bC p)):=by
 refine aw zp U Tryz.ntmps217 U fun X hM hX=>?_
 have hs0:bC p=bC p:=rfl
 have hsr:=hsm.rules
 refine sr (dC (fun b1=>ac (sr (ay kO U (aL 0 ty62 U U U (bE kV U (aF U (aa ?_))))))))
 refine tq 8 [(1,Q b1),(20,.bool (decide (0 < ((p.Kinds.length:Nat):Int))&&(((p.Rules.length:Nat):Int)==((p.Kinds.length:Nat):Int))))] (fun hk1=>?_) (fun e=>?_)
 ·refine au 12 U (fun c1=>?_) (fun c1=>?_)
  ·refine ay fC U (aL 0 ty63 U U U (bE jV U (ay kO U (aL 0 ty62 U U U (bE kV U (aF U (ae U ?_)))))))
   exact hk1 _ ⟨U,(cb (cY c1)),trivial⟩
  ·refine kq (kq (kq (bY (ae U ?_))))
   exact hk1 _ ⟨U,(cb (cZ c1)),trivial⟩
 refine aa ?_
 refine tq 4 [(1,Q b1),(25,.bool ((decide (0 < ((p.Kinds.length:Nat):Int))&&(((p.Rules.length:Nat):Int)==((p.Kinds.length:Nat):Int)))&&(aO p.Mode 1 4)))] (fun hk2=>?_) (fun e=>?_)
 ·refine au 21 U (fun c2=>?_) (fun c2=>?_)
  ·refine ay sd U (aL 0 ty3 U U U (aA (v:=.bool (aO p.Mode 1 4)) tK (f9 h p.Mode 1 4 ) U (ae U ?_)))
   exact hk2 _ ⟨U,(cb (cY c2)),trivial⟩
  ·refine kq (bY (ae U ?_))
   exact hk2 _ ⟨U,(cb (cZ c2)),trivial⟩
 refine a8 (kK sG (gk h ((decide (0 < ((p.Kinds.length:Nat):Int))&&(((p.Rules.length:Nat):Int)==((p.Kinds.length:Nat):Int)))&&(aO p.Mode 1 4)) 200 ) U (fun u1 hu1=>?_) (fun pv1 hpv1 e=>?_))
 ·obtain ⟨rx1,hrx1,rfl⟩:=mC hu1
  have hs1:=hs0.trans (mB hrx1)
  cases rx1
  refine ac (ad (sr (ay fC U (aL 0 ty63 U U U (bE jV U (aa (ac ?_)))))))
  let z2:Nat×Obj:=(b1,O (Policy.cells p fp) 68)
  refine bq (ι:=Nat) (fun i=>[(1,Q b1)]) (fun i=>h) (fun i=>[z2]) (fun i=>i≤p.Rules.length∧bC p=((bC.K1 p))) ?_ (fun hx1=>?_)
  ·rintro i1 ⟨bd,hs2⟩ e
   try dsimp only at bd
   try dsimp only
   refine sr (dh 0 ty68 U U U (a8 (dp Tryz.call243 (kh h p fp hp ob) U (fun v1 h1 hle1 hp1=>?_))))
   obtain ⟨rb1,rc1,rfl,sl1⟩:=hp1
   refine bT zc64 (fun b3=>du 0 ty64 U U U U U U (ac (sr (aL 0 ty64 U U U (bE gg U (aa (ac ?_)))))))
   refine gv ?_
   let z1:Nat×Obj:=(b3,O [.slice rb1 ((aC p).length) rc1] 64)
   refine dW (L':=[z1,z2]++(markB [])) ap ?_
   refine pR (ι:=Nat×List Nat×HF) (fun i=>[]) (fun i=>marks i.2.1) (fun i=>i.2.2) (fun i=>[z1,z2]++(markB i.2.1)) (fun i=>i.1≤(aC p).length∧bC p=((bC.K2))∧HF.le h1 i.2.2) ?_ (fun hx2=>?_)
   ·rintro ⟨i2,rs2,hh2⟩ ⟨j4,hs3,hl2⟩ e
    try dsimp only at j4 hl2
    try dsimp only
    have hs4:bC p=(Except.ok ()):=hs3
    refine dW (L':=([z1,z2])++markB rs2) ap ?_
    exact tO rs2 [] zp U hX trivial (congrArg (exW stopV (fun r:Unit=>(.tuple #[]:Value))) hs4)
   ·refine tN (ι:=Nat×List Nat×HF×List Expr) (fun i=>[(4,Q b3),(52,.slice rb1 ((aC p).length) rc1),(53,I (((aC p).length:Nat):Int)),(54,I ((i.1:Nat):Int))]) (fun i=>marks i.2.1) (fun i=>i.2.2.1) (fun i=>[z1,z2]++(markB i.2.1)) (fun i=>(aC p).drop i.1=i.2.2.2∧i.1≤(aC p).length∧bC p=((bC.L2 p (bC.K2)) i.2.2.2 i.1)∧HF.le h1 i.2.2.1) (fun i=>i.2.2.2.length) (0,[],h1,(aC p)) U rd sw ⟨U,Nat.zero_le _,hs2,(HF.le_refl h1)⟩ ?_
    rintro ⟨i2,rs2,hh2,s2⟩ ⟨hd2,j4,hs5,hl2⟩ ag1 e
    try dsimp only at hd2 j4 hl2
    rcases s2 with _ | ⟨y2,rz2⟩
    ·have tz:=cS hd2
     try dsimp only
     refine sr (az (v':=.bool false) U (cb tz) (ac (ad (ba U (bM U ?_)))))
     exact hx2 (i2,rs2,hh2) _ ⟨j4,hs5,hl2⟩ trivial
    ·have qH:=dV hd2
     have lG:=cU hd2
     have xL:=aP hd2
     have DR:=sl1.1.1
     try have hsy:=uu hsm (gm hd2)
     try dsimp only
     refine sr (az (v':=.bool true) U (cb qH) (ac (ad (bj U (ai (ad (aU (sr (aa (a8 (gX gg ty66 (sl1.mono Expr.aJ hl2).1 (nthZ lG) (bA lG) U U U (fun q4 cs3 A5 ln3 rr3=>?_))))))))))))
     obtain ⟨r3,rfl,ok3⟩:=rr3
     refine dT ty66 A5 U U (bT zc3 (fun b7=>bT zc66 (fun b8=>du 1 ty3 U U U U U U (bJ 0 ty66 U U U U U U (ac (sr (dh 0 ty66 U U U (a8 (dp Ed (kL hh2 y2 r3 1 ok3 ob) U (fun v3 h3 hle3 hp3=>?_))))))))))
     obtain ⟨_,rfl,mo2⟩:=hp3
     refine ac (aU ?_)
     let z3:Nat×Obj:=(b7,O [I ((i2:Nat):Int)] 3)
     let z5:Nat×Obj:=(b8,O (Expr.cells y2 r3) 66)
     refine dW (L':=([z5,z3,z1,z2])++markB rs2) ap ?_
     refine kc (it:=v3) (xs:=(bZ y2 1)) (ι:=HF) rs2 (fun i=>i) (fun i=>[z5,z3,z1,z2]) (fun s i=>bC p=((bC.L4 p i2 ((bC.L2 p (bC.K2) rz2 ((i2+1))))) s )∧HF.le h3 i) (fun _=>False) (fun _=>False) 0 (fun ch _ _=>∃ pv_,ch=[{ v:=stopV pv_,recovered:=false }]∧bC p=.error pv_) h3 zp U mo2 U lF (fun _ _ _ _ _ hq=>hq) U (show [z5,z3,z1,z2]=_ from U) ⟨hs5,(HF.le_refl h3)⟩ ?_ ?_ ?_ ?_ ?_
     ·rintro l4 dm4 lp4 y4 rz4 vs4 hh4 hr4 X hFR4 ⟨hs7,hl4⟩ hl04 hlr4 hv4 hX hXM hlp4 nx4 rt4 ex4 pn4
      try dsimp only at hl4 hlr4
      obtain ⟨rr4_0,rfl,ok4_0⟩:=hv4
      let z6:Nat×Obj:=(dm4,.deferred (some []))
      refine dW (L':=[(l4,.loop lp4),z6,z5,z3,z1,z2]++(markB rs2)) ap ?_
      refine ah (bT zc258 (fun b10=>bJ 0 ty258 U U U U U U (ac (kd 1 U hlp4 (aU (ad ?_))))))
      let z4:Nat×Obj:=(l4,.loop { lp4 with state:=.busy })
      let z8:Nat×Obj:=(b10,O (fT.cells y4 rr4_0) 258)
      refine gr ([z8,z4,z6,z5,z3,z1,z2]) mixed kr jn (fun fd _=>?_)
      refine tf 0 U U (fun _ _ _=>dO li U) (tf 1 U U (fun _ _ _=>dO kP U) ?_)
      refine tf 2 U U (fun _ _ hj=>hY ty3 U (hj.nth (i:=0) U) U) (tn 3 U ?_)
      refine fU (v:=.bool (aO y4.x.Kind 1 4)) tK (f9 hr4 y4.x.Kind 1 4 ) U (⟨jn,?_⟩)
      refine tm 4 U ?_
      refine eI 66 U (fun c3=>?_) (fun c3=>?_)
      ·refine tf 5 U U (fun _ _ _=>dO li U) (tf 6 U U (fun _ _ _=>dO kP U) ?_)
       refine tf 7 U U (fun _ _ hj=>hY ty3 U (hj.nth (i:=0) U) U) ?_
       have ho4:0≤(y4.x.Kind:Int)∧(y4.x.Kind:Int) < 5:=(by have:=EY ob;omega)
       have A7:=(hk.mono ((((hle1.t hl2).t hle3).t hl4).t hlr4)).at ho4
       refine tf 8 U U (fun _ _ _=>Gr Tryz.underlying284 ty165 U U ho4) (tf 9 U U (fun _ _ hj=>gu ty165 (A7.mono hj.1) U) ?_)
       refine tf 10 U U (fun _ _ _=>dO li U) (tf 11 U U (fun _ _ hj=>kZ ty66 U (hj.nth (i:=0) U) U) ?_)
       refine tn 12 U (nv (v:=.bool (kindsP y4.x.Kind y4.x)) [] (List.nil_sublist _) (DQ hr4 y4.x.Kind ho4 y4.x rr4_0.x ok4_0.x) U U (⟨jn,?_⟩))
       refine tf 13 U U (fun _ _ _=>rV U (cb (show (kindsP y4.x.Kind y4.x)=((aO y4.x.Kind 1 4)&&(kindsP y4.x.Kind y4.x)) from by first | (rw [c3];rfl) | (rw [c3];rfl) | simp [c3]))) ?_
       refine tn 14 U (kK sG (gk hr4 ((aO y4.x.Kind 1 4)&&(kindsP y4.x.Kind y4.x)) 200 ) U (fun u2 hu2=>?_) (fun pv2 hpv2 e=>?_))
       ·obtain ⟨rx2,hrx2,rfl⟩:=mC hu2
        have hs8:=hs7.trans (mB hrx2)
        cases rx2
        refine ⟨jn,?_⟩
        refine cd kr ?_
        refine ah (aL 4 ty3 U U U (aL 5 ty64 U U U (bE gg U (aF U (aF U (aa ?_))))))
        refine tq 5 [(87,.bool (decide (((i2:Nat):Int) < (IntKind.wrap .i64 ((((aC p).length:Nat):Int) - 1)))||(y4.x.Kind != 4)))] (fun hk3=>?_) (fun e=>?_)
        ·refine au 82 U (fun c4=>?_) (fun c4=>?_)
         ·refine kq (kq (ae U ?_))
          exact hk3 _ ⟨(cb (eB c4)),trivial⟩
         ·refine ay li U (ay kP U (aL 0 ty3 U U U (aF U (ae U ?_))))
          exact hk3 _ ⟨(cb (eE c4)),trivial⟩
        refine a8 (kK sG (gk hr4 (decide (((i2:Nat):Int) < (IntKind.wrap .i64 ((((aC p).length:Nat):Int) - 1)))||(y4.x.Kind != 4)) 200 ) U (fun u3 hu3=>?_) (fun pv3 hpv3 e=>?_))
        ·obtain ⟨rx3,hrx3,rfl⟩:=mC hu3
         have hs9:=hs8.trans (mB hrx3)
         cases rx3
         refine ac (ao ?_)
         refine cE (L':=[z4,z6,z5,z3,z1,z2]++(markB rs2)) js ?_
         refine dW (L':=rdH l4 dm4 lp4 (([z5,z3,z1,z2])++markB rs2)) ap ?_
         exact nx4 hr4 _ _ ⟨hs9,(hl4.t hlr4)⟩ (HF.le_refl _)
        ·obtain ⟨pv3e,hpv3e,rfl⟩:=kR hpv3
         have hs10:=hs8.trans (kQ hpv3e)
         refine sZ (L':=[z4,z6]++(markB rs2)) js ?_
         exact pn4 _ _ _ [] ⟨_,U,hs10⟩
       ·obtain ⟨pv2e,hpv2e,rfl⟩:=kR hpv2
        have hs11:=hs7.trans (kQ hpv2e)
        refine sZ (L':=[z4,z6]++(markB rs2)) js ?_
        exact pn4 _ _ _ [] ⟨_,U,hs11⟩
      ·refine tk 5 U U (tk 6 U U ?_)
       refine tk 7 U U (tk 8 U U ?_)
       refine tk 9 U U (tk 10 U U ?_)
       refine tk 11 U U (tk 12 U U ?_)
       refine tf 13 U U (fun _ _ _=>rV U (cb (show false=((aO y4.x.Kind 1 4)&&(kindsP y4.x.Kind y4.x)) from by first | (rw [c3];rfl) | (rw [c3];rfl) | simp [c3]))) ?_
       refine tn 14 U (kK sG (gk hr4 ((aO y4.x.Kind 1 4)&&(kindsP y4.x.Kind y4.x)) 200 ) U (fun u4 hu4=>?_) (fun pv4 hpv4 e=>?_))
       ·obtain ⟨rx4,hrx4,rfl⟩:=mC hu4
        have hs12:=hs7.trans (mB hrx4)
        cases rx4
        refine ⟨jn,?_⟩
        refine cd kr ?_
        refine ah (aL 4 ty3 U U U (aL 5 ty64 U U U (bE gg U (aF U (aF U (aa ?_))))))
        refine tq 5 [(87,.bool (decide (((i2:Nat):Int) < (IntKind.wrap .i64 ((((aC p).length:Nat):Int) - 1)))||(y4.x.Kind != 4)))] (fun hk4=>?_) (fun e=>?_)
        ·refine au 82 U (fun c5=>?_) (fun c5=>?_)
         ·refine kq (kq (ae U ?_))
          exact hk4 _ ⟨(cb (eB c5)),trivial⟩
         ·refine ay li U (ay kP U (aL 0 ty3 U U U (aF U (ae U ?_))))
          exact hk4 _ ⟨(cb (eE c5)),trivial⟩
        refine a8 (kK sG (gk hr4 (decide (((i2:Nat):Int) < (IntKind.wrap .i64 ((((aC p).length:Nat):Int) - 1)))||(y4.x.Kind != 4)) 200 ) U (fun u5 hu5=>?_) (fun pv5 hpv5 e=>?_))
        ·obtain ⟨rx5,hrx5,rfl⟩:=mC hu5
         have hs13:=hs12.trans (mB hrx5)
         cases rx5
         refine ac (ao ?_)
         refine cE (L':=[z4,z6,z5,z3,z1,z2]++(markB rs2)) js ?_
         refine dW (L':=rdH l4 dm4 lp4 (([z5,z3,z1,z2])++markB rs2)) ap ?_
         exact nx4 hr4 _ _ ⟨hs13,(hl4.t hlr4)⟩ (HF.le_refl _)
        ·obtain ⟨pv5e,hpv5e,rfl⟩:=kR hpv5
         have hs14:=hs12.trans (kQ hpv5e)
         refine sZ (L':=[z4,z6]++(markB rs2)) js ?_
         exact pn4 _ _ _ [] ⟨_,U,hs14⟩
       ·obtain ⟨pv4e,hpv4e,rfl⟩:=kR hpv4
        have hs15:=hs7.trans (kQ hpv4e)
        refine sZ (L':=[z4,z6]++(markB rs2)) js ?_
        exact pn4 _ _ _ [] ⟨_,U,hs15⟩
     ·rintro dm4 hh4 hn4 ⟨hs16,hl4⟩ hln4 hl04
      try dsimp only at hl4 hln4
      refine dW (L':=[z5,z3,z1,z2]++(markB (dm4::rs2))) ap ?_
      refine ao (ao (ah (az (v':=I (((i2+1):Nat):Int)) U (bP ob) ?_)))
      refine aa (ac ?_)
      refine cE (L':=[z1,z2]++(markB (dm4::rs2))) js ?_
      exact ag1 ((i2+1),(dm4::rs2),hn4,rz2) _ (Nat.lt_succ_self _) ⟨bF hd2,aP hd2,hs16,(((hl2.t hle3).t hl4).t hln4)⟩ rd
     ·exact fun _ _ _ hF=>hF.elim
     ·exact fun _ _ _ hF=>hF.elim
     ·rintro dm4 ch hn4 L0 ⟨pv_,rfl,hpv_⟩ hl04
      exact lK (dm4::rs2) zp hX (congrArg (exW stopV (fun r:Unit=>(.tuple #[]:Value))) hpv_)
  ·refine ck (ι:=Nat×List Rule) (fun i=>[(1,Q b1),(28,.slice fp.ji p.Rules.length fp.jh),(29,I ((p.Rules.length:Nat):Int)),(30,I ((i.1:Nat):Int))]) (fun i=>h) (fun i=>[z2]) (fun i=>p.Rules.drop i.1=i.2∧i.1≤p.Rules.length∧bC p=((bC.L1 p (bC.K1 p)) i.2 i.1)) (fun i=>i.2.length) (0,p.Rules) rd sw ⟨U,Nat.zero_le _,hs1⟩ ?_
   rintro ⟨i1,s1⟩ ⟨hd1,bd,hs17⟩ ag2 e
   try dsimp only at hd1 bd
   rcases s1 with _ | ⟨y1,rz1⟩
   ·have dJ:=cS hd1
    try dsimp only
    refine sr (az (v':=.bool false) U (cb dJ) (ac (ad (ba U (bM U ?_)))))
    exact hx1 i1 _ ⟨bd,hs17⟩ rd
   ·have dI:=dV hd1
    have bh:=cU hd1
    have e9:=aP hd1
    have gO:=hp.Rules.1.1
    try have hsy:=uu hsm (gm hd1)
    try dsimp only
    refine sr (az (v':=.bool true) U (cb dI) (ac (ad (bj U (ai (ad (aU (sr (aa (a8 (gX jV ty107 hp.Rules.1 (nthZ bh) (bA bh) U U U (fun q5 cs4 A8 ln4 rr4=>?_))))))))))))
    obtain ⟨r4,rfl,ok4⟩:=rr4
    refine dT ty107 A8 U U (bT zc107 (fun b11=>bi (bJ 0 ty107 U U U U U U (ac ?_))))
    let z7:Nat×Obj:=(b11,O (Rule.cells y1 r4) 107)
    refine gr ([z7,z2]) mixed kr jn (fun xK _=>?_)
    refine tf 0 U U (fun _ _ _=>dO ut U) (tf 1 U U (fun _ _ hj=>hY ty9 U (hj.nth (i:=0) U) U) (tf 2 U U (fun _ _ _=>dO kO U) ?_))
    refine tf 3 U U (fun _ _ hj=>hY ty62 U (hj.nth (i:=1) U) U) (tm 4 U ?_)
    have ho5:0≤(((i1:Nat):Int):Int)∧(((i1:Nat):Int):Int) < ((p.Kinds).length:Int):=(by have hm:=Fd hrx1;simp only [decide_eq_true_eq,decide_eq_false_iff_not,Bool.and_eq_true,Bool.or_eq_true,Bool.not_eq_true',Bool.not_eq_false',Bool.and_eq_false_iff,Bool.or_eq_false_iff,beq_iff_eq,beq_eq_false_iff_ne,bne_iff_ne,bne_eq_false_iff_eq,List.length_append,List.length_cons,List.length_nil,List.length_drop] at hm;omega)
    refine fR 5 (enc:=fun y=>[.string y]) xK jn (fun _ _ _ e=>e) kV ty9 hp.Kinds.1 ho5 (eN ho5) U U U U kr (fun q6 A9=>tf 6 U U (fun _ _ hj=>gu ty9 (A9.mono hj.1) U) ?_)
    refine tf 7 U U (fun _ _ _=>iH U) (tm 8 U ?_)
    refine eI 43 U (fun c6=>?_) (fun c6=>?_)
    ·refine tf 9 U U (fun _ _ _=>dO og U) (tf 10 U U (fun _ _ hj=>hY ty3 U (hj.nth (i:=0) U) U) (tn 11 U ?_))
     refine fU (v:=.bool (aO y1.Think 0 1099511627775)) tK (f9 h y1.Think 0 1099511627775 ) U (⟨jn,?_⟩)
     refine tf 12 U U (fun _ _ _=>rV U (cb (show (aO y1.Think 0 1099511627775)=((y1.Kind.toList==(nthI p.Kinds ((i1:Nat):Int)).toList)&&(aO y1.Think 0 1099511627775)) from by first | (rw [c6];rfl) | (rw [c6];rfl) | simp [c6]))) ?_
     refine tn 13 U (kK sG (gk h ((y1.Kind.toList==(nthI p.Kinds ((i1:Nat):Int)).toList)&&(aO y1.Think 0 1099511627775)) 200 ) U (fun u6 hu6=>?_) (fun pv6 hpv6 e=>?_))
     ·obtain ⟨rx6,hrx6,rfl⟩:=mC hu6
      have hs19:=hs17.trans (mB hrx6)
      cases rx6
      refine ⟨jn,(cd kr ?_)⟩
      refine ao (ah (az (v':=I (((i1+1):Nat):Int)) U (bP ob) ?_))
      refine aa (ac ?_)
      refine cE (L':=[z2]) js ?_
      exact ag2 ((i1+1),rz1) _ (Nat.lt_succ_self _) ⟨bF hd1,aP hd1,hs19⟩ rd
     ·obtain ⟨pv6e,hpv6e,rfl⟩:=kR hpv6
      have hs20:=hs17.trans (kQ hpv6e)
      refine jj ?_
      exact lK [] zp hX (congrArg (exW stopV (fun r:Unit=>(.tuple #[]:Value))) hs20)
    ·refine tk 9 U U (tk 10 U U (tk 11 U U (tf 12 U U (fun _ _ _=>rV U (cb (show false=((y1.Kind.toList==(nthI p.Kinds ((i1:Nat):Int)).toList)&&(aO y1.Think 0 1099511627775)) from by first | (rw [c6];rfl) | (rw [c6];rfl) | simp [c6]))) ?_)))
     refine tn 13 U (kK sG (gk h ((y1.Kind.toList==(nthI p.Kinds ((i1:Nat):Int)).toList)&&(aO y1.Think 0 1099511627775)) 200 ) U (fun u7 hu7=>?_) (fun pv7 hpv7 e=>?_))
     ·obtain ⟨rx7,hrx7,rfl⟩:=mC hu7
      have hs21:=hs17.trans (mB hrx7)
      cases rx7
      refine ⟨jn,(cd kr ?_)⟩
      refine ao (ah (az (v':=I (((i1+1):Nat):Int)) U (bP ob) ?_))
      refine aa (ac ?_)
      refine cE (L':=[z2]) js ?_
      exact ag2 ((i1+1),rz1) _ (Nat.lt_succ_self _) ⟨bF hd1,aP hd1,hs21⟩ rd
     ·obtain ⟨pv7e,hpv7e,rfl⟩:=kR hpv7
      have hs22:=hs17.trans (kQ hpv7e)
      refine jj ?_
      exact lK [] zp hX (congrArg (exW stopV (fun r:Unit=>(.tuple #[]:Value))) hs22)
 ·obtain ⟨pv1e,hpv1e,rfl⟩:=kR hpv1
  have hs23:=hs0.trans (kQ hpv1e)
  refine jj ?_
  exact lK [] zp hX (congrArg (exW stopV (fun r:Unit=>(.tuple #[]:Value))) hs23)
theorem qC (h:HF) (p:Policy) (fp:fh) (p_q:Addr) (hp:Policy.ok h p fp) (ap:At h p_q (Policy.cells p fp)) (hsm:smP p) (hk:Kinds h):Fp Tryz.prog 214 [.pointer (some p_q)] h (exW stopV (fun r:Unit=>(.tuple #[]:Value)) (dj p)):=by
 refine aw Ea U Tryz.ntmps214 U fun X hM hX=>?_
 have hs0:dj p=dj p:=rfl
 refine sr (dT ty68 ap U U ?_)
 refine a8 (kK Tryz.call215 (tY h p fp hp ob) U (fun u1 hu1=>?_) (fun pv1 hpv1 e=>?_))
 ·obtain ⟨rx1,hrx1,rfl⟩:=mC hu1
  have hs1:=hs0.trans (mB hrx1)
  cases rx1
  refine ac (sr (dT ty68 ap U U ?_))
  refine a8 (kK Tryz.call216 (tZ h p fp hp ob) U (fun u2 hu2=>?_) (fun pv2 hpv2 e=>?_))
  ·obtain ⟨rx2,hrx2,rfl⟩:=mC hu2
   have hs2:=hs1.trans (mB hrx2)
   cases rx2
   refine ac (ah (dT ty68 ap U U ?_))
   refine a8 (kK Tryz.call217 (uL h p fp hp ob hk) U (fun u3 hu3=>?_) (fun pv3 hpv3 e=>?_))
   ·obtain ⟨rx3,hrx3,rfl⟩:=mC hu3
    have hs3:=hs2.trans (mB hrx3)
    cases rx3
    refine ac ?_
    have hs4:dj p=(Except.ok ()):=hs3
    refine gv ?_
    exact tO [] [] Ea U hX trivial (congrArg (exW stopV (fun r:Unit=>(.tuple #[]:Value))) hs4)
   ·obtain ⟨pv3e,hpv3e,rfl⟩:=kR hpv3
    have hs5:=hs2.trans (kQ hpv3e)
    refine jj ?_
    exact lK [] Ea hX (congrArg (exW stopV (fun r:Unit=>(.tuple #[]:Value))) hs5)
  ·obtain ⟨pv2e,hpv2e,rfl⟩:=kR hpv2
   have hs6:=hs1.trans (kQ hpv2e)
   refine jj ?_
   exact lK [] Ea hX (congrArg (exW stopV (fun r:Unit=>(.tuple #[]:Value))) hs6)
 ·obtain ⟨pv1e,hpv1e,rfl⟩:=kR hpv1
  have hs7:=hs0.trans (kQ hpv1e)
  refine jj ?_
  exact lK [] Ea hX (congrArg (exW stopV (fun r:Unit=>(.tuple #[]:Value))) hs7)
theorem rk (rec:(List ByteArray)→Expr→Expr) (h:HF) (offices:(List ByteArray)) (cB:Option Addr) (cA:Nat) (x:Expr) (fu:cM) (hrec:∀ (h:HF) (qoffices:(List ByteArray)) (iO:Option Addr) (iN:Nat) (qx:Expr) (jA:cM) (hqoffices:SlC Rp.str h iO iN qoffices) (hqx:Expr.ok h qx jA) (hsz:qx.dep≤2000000) (_:qx.dep < x.dep),jP Tryz.prog 218 [.slice iO qoffices.length iN,.agg (Expr.cells qx jA).toArray] h (fun v h'=>∃ (rr0:cM),v=.agg (Expr.cells (rec qoffices qx) rr0).toArray∧Expr.ok h' (rec qoffices qx) rr0)) (hoffices:SlC Rp.str h cB cA offices) (hx:Expr.ok h x fu) (hsz:x.dep≤2000000):jP Tryz.prog 218 [.slice cB offices.length cA,.agg (Expr.cells x fu).toArray] h (fun v h'=>∃ (rr0:cM),v=.agg (Expr.cells (ak.F rec offices x) rr0).toArray∧Expr.ok h' (ak.F rec offices x) rr0):=by
 refine aw Tryz.func218 U Tryz.ntmps218 U fun X hM hX=>?_
 have hs0:ak.F rec offices x=ak.F rec offices x:=rfl
 have hln:=Expr.DP x
 refine sr (dC (fun b1=>bT zc66 (fun b2=>ac (sr (ay mU U (du 1 ty3 U U U U U U (ac (ad (sr (dh 1 ty66 U U U (aA (v:=.bool (cX (Expr.mk x.Kind x.N 0 x.Name x.L))) Tryz.call220 (lx h (Expr.mk x.Kind x.N 0 x.Name x.L) (cM.mk fu.iE fu.iG) (show Expr.ok h (Expr.mk x.Kind x.N 0 x.Name x.L) (cM.mk fu.iE fu.iG) from Expr.ok.of hx.list)) U ?_)))))))))))
 refine ac ?_
 refine aB U (fun c1=>?_) (fun c1=>?_)
 ·have hs1:=hs0.trans (bt c1)
  refine ah (aa (ay my U (aL 1 ty9 U U U (aA (v:=I (aN offices x.Name)) FO (jD h offices cB cA x.Name hoffices) U (ay mU U (du 1 ty3 U U U U U U ?_))))))
  refine ac (sr (ay dF U (aL 1 ty64 U U U (an (sr (ay dF U (du 1 ty64 U U U U U U (ac (ad (sr (aa (bE gg U (aa (ac ?_))))))))))))))
  let z1:Nat×Obj:=(b2,O [I 0,I 0,I 0,.string (⟨#[]⟩:ByteArray),.slice none 0 0] 66)
  refine bq (ι:=Nat×(List Expr)×Option Addr×Nat×LH×HF) (fun i=>[(3,Q b1),(4,Q b2)]) (fun i=>i.2.2.2.2.2) (fun i=>[z1,(b1,O [I x.Kind,I x.N,I (aN offices x.Name),.string x.Name,.slice i.2.2.1 i.2.1.length i.2.2.2.1] 66)]++(i.2.2.2.2.1)) (fun i=>i.1≤x.L.length∧ak.F rec offices x=((ak.K1 offices x) i.2.1)∧ei Expr.rp 66 i.2.2.2.2.2 i.2.1 i.2.2.1 i.2.2.2.1 i.2.2.2.2.1∧i.2.1.length≤0+i.1∧HF.le h i.2.2.2.2.2) ?_ (fun hx1=>?_)
  ·rintro ⟨i1,jw,mv,mu,rN,hh1⟩ ⟨bd,hs2,ng,ye,hl1⟩ e
   try dsimp only at bd ng ye hl1
   try dsimp only
   let z3:Nat×Obj:=(b1,O [I x.Kind,I x.N,I (aN offices x.Name),.string x.Name,.slice mv jw.length mu] 66)
   let z15:Nat×Obj:=(b2,O [I x.Kind,I x.N,I (aN offices x.Name),.string x.Name,.slice mv jw.length mu] 66)
   refine sr (dh 1 ty66 U U U (bJ 0 ty66 U U U U U U (iF (L':=[z15,z3]++(rN)) U ?_)))
   refine ac ?_
   refine gi Expr.aJ ([z15,z3]) rN ([]) ap hM ng (fun h3 hle3 sl2=>?_)
   have hs3:ak.F rec offices x=(Expr.mk x.Kind x.N (aN offices x.Name) x.Name jw):=hs2
   exact dQ [.agg (List.toArray [I x.Kind,I x.N,I (aN offices x.Name),.string x.Name,.slice mv jw.length mu])] Tryz.func218 U ⟨⟨0,_,_,_,_,U,U,.inl ⟨ty66,U⟩⟩,trivial⟩ ⟨(cM.mk mv mu),congrArg (fun r:Expr=>(.agg (Expr.cells r (cM.mk mv mu)).toArray:Value)) hs3.symm,(by rw [hs3];exact (show Expr.ok h3 (Expr.mk x.Kind x.N (aN offices x.Name) x.Name jw) (cM.mk mv mu) from Expr.ok.of sl2))⟩
  ·refine ck (ι:=Nat×(List Expr)×Option Addr×Nat×LH×HF×List Expr) (fun i=>[(0,.slice cB offices.length cA),(3,Q b1),(4,Q b2),(19,.slice fu.iE x.L.length fu.iG),(20,I ((x.L.length:Nat):Int)),(21,I ((i.1:Nat):Int))]) (fun i=>i.2.2.2.2.2.1) (fun i=>[z1,(b1,O [I x.Kind,I x.N,I (aN offices x.Name),.string x.Name,.slice i.2.2.1 i.2.1.length i.2.2.2.1] 66)]++(i.2.2.2.2.1)) (fun i=>x.L.drop i.1=i.2.2.2.2.2.2∧i.1≤x.L.length∧ak.F rec offices x=((ak.L1 rec offices (ak.K1 offices x)) i.2.2.2.2.2.2 i.2.1)∧ei Expr.rp 66 i.2.2.2.2.2.1 i.2.1 i.2.2.1 i.2.2.2.1 i.2.2.2.2.1∧i.2.1.length≤0+i.1∧HF.le h i.2.2.2.2.2.1) (fun i=>i.2.2.2.2.2.2.length) (0,[],none,0,[],h,x.L) rd sw ⟨U,Nat.zero_le _,hs1,ei.nil,lo,(HF.le_refl h)⟩ ?_
   rintro ⟨i1,jw,mv,mu,rN,hh1,s1⟩ ⟨hd1,bd,hs4,ng,ye,hl1⟩ ag1 e
   try dsimp only at hd1 bd ng ye hl1
   rcases s1 with _ | ⟨y1,rz1⟩
   ·have dJ:=cS hd1
    try dsimp only
    refine sr (az (v':=.bool false) U (cb dJ) (ac (ad (ba U (bM U ?_)))))
    exact hx1 (i1,jw,mv,mu,rN,hh1) _ ⟨bd,hs4,ng,lo,hl1⟩ rd
   ·have dI:=dV hd1
    have bh:=cU hd1
    have e9:=aP hd1
    have gO:=hx.list.1.1
    have hdy:=Expr.iv (gm hd1)
    try dsimp only
    refine sr (az (v':=.bool true) U (cb dI) (ac (ad (bj U (ai (ad (aU (sr (a8 (gX gg ty66 (hx.list.mono Expr.aJ hl1).1 (nthZ bh) (bA bh) U U U (fun q2 cs2 A2 ln2 rr3=>?_)))))))))))
    obtain ⟨r2,rfl,ok3⟩:=rr3
    let z4:Nat×Obj:=(b1,O [I x.Kind,I x.N,I (aN offices x.Name),.string x.Name,.slice mv jw.length mu] 66)
    refine dT ty66 A2 U U (bT zc66 (fun b5=>bJ 0 ty66 U U U U U U (iF (L':=[(b5,O (Expr.cells y1 r2) 66),z1,z4]++(rN)) U ?_)))
    refine ac ?_
    let z8:Nat×Obj:=(b5,O (Expr.cells y1 r2) 66)
    refine gr ([z8,z1]) mixed kr jn (fun fd _=>?_)
    refine tf 0 U U (fun _ _ _=>dO dF U) (tm 2 U ?_)
    refine tf 3 U U (fun _ _ hj=>kZ ty66 U (hj.nth (i:=0) U) U) ?_
    refine lQ 1 4 kr U U ?_ ?_ 
    ·refine gW (hY ty64 U (lM (i:=2) U) U) (⟨jn,?_⟩)
     refine tn 4 U (dp Bo (hrec hh1 offices cB cA y1 r2 (hoffices.mono Rp.gx hl1) ok3 ob (Expr.iv (gm hd1))) U (fun v2 h4 hle4 hp2=>?_))
     obtain ⟨rr4,rfl,ok4⟩:=hp2
     refine ⟨jl hle4,tu hle4 ?_⟩
     refine tn 5 U (cf (cells:=[I ((rec offices y1).Kind),I ((rec offices y1).N),I ((rec offices y1).No),.string ((rec offices y1).Name),.slice rr4.iE ((rec offices y1).L.length) rr4.iG]) gg ty66 zc66 U U kr (fun b6=>?_))
     refine ⟨jn,?_⟩
     let z12:Nat×Obj:=(b6,O [I ((rec offices y1).Kind),I ((rec offices y1).N),I ((rec offices y1).No),.string ((rec offices y1).Name),.slice rr4.iE ((rec offices y1).L.length) rr4.iG] 66)
     refine tn 6 U (eK Expr.eZ ([z12,z8,z1,z4]) ([]) (fun G=>[z12,z8,z1,z4]++(G)) ap (fun _=>ap) gg ty66 zc66 U bytes66 (ng.mono Expr.aJ hle4) U U (ff 0 U (show bW Expr.rp h4 [I ((rec offices y1).Kind),I ((rec offices y1).N),I ((rec offices y1).No),.string ((rec offices y1).Name),.slice rr4.iE ((rec offices y1).L.length) rr4.iG] ([(rec offices y1)]) from ⟨[I ((rec offices y1).Kind),I ((rec offices y1).N),I ((rec offices y1).No),.string ((rec offices y1).Name),.slice rr4.iE ((rec offices y1).L.length) rr4.iG],[],U,U,⟨rr4,U,ok4⟩,U⟩)) lo lo (fun ob2 oc2 G2 gr2=>?_))
     refine ⟨jn,?_⟩
     refine tf 7 U U (fun _ _ _=>dO dF U) (tn 8 U (j7 3 ty64 U U U U U U (⟨jn,?_⟩)))
     refine cd kr ?_
     refine ao (ah (az (v':=I (((i1+1):Nat):Int)) U (bP ob) (aa (ac ?_))))
     refine cE (L':=[z1,(b1,O [I x.Kind,I x.N,I (aN offices x.Name),.string x.Name,.slice ob2 ((jw++[(rec offices y1)]).length) oc2] 66)]++(G2)) js ?_
     exact ag1 ((i1+1),(jw++[(rec offices y1)]),ob2,oc2,G2,h4,rz1) _ (Nat.lt_succ_self _) ⟨bF hd1,aP hd1,hs4,gr2,lo,(hl1.t hle4)⟩ rd
    ·refine dp Bo (hrec hh1 offices cB cA y1 r2 (hoffices.mono Rp.gx hl1) ok3 ob (Expr.iv (gm hd1))) U (fun v3 h5 hle5 hp3=>?_)
     obtain ⟨rr5,rfl,ok5⟩:=hp3
     refine ⟨jl hle5,tu hle5 ?_⟩
     refine lQ 1 5 kr U U ?_ ?_ 
     ·refine gW (hY ty64 U (lM (i:=2) U) U) (⟨jn,?_⟩)
      refine tn 5 U (cf (cells:=[I ((rec offices y1).Kind),I ((rec offices y1).N),I ((rec offices y1).No),.string ((rec offices y1).Name),.slice rr5.iE ((rec offices y1).L.length) rr5.iG]) gg ty66 zc66 U U kr (fun b7=>?_))
      refine ⟨jn,?_⟩
      let z13:Nat×Obj:=(b7,O [I ((rec offices y1).Kind),I ((rec offices y1).N),I ((rec offices y1).No),.string ((rec offices y1).Name),.slice rr5.iE ((rec offices y1).L.length) rr5.iG] 66)
      refine tn 6 U (eK Expr.eZ ([z13,z8,z1,z4]) ([]) (fun G=>[z13,z8,z1,z4]++(G)) ap (fun _=>ap) gg ty66 zc66 U bytes66 (ng.mono Expr.aJ hle5) U U (ff 0 U (show bW Expr.rp h5 [I ((rec offices y1).Kind),I ((rec offices y1).N),I ((rec offices y1).No),.string ((rec offices y1).Name),.slice rr5.iE ((rec offices y1).L.length) rr5.iG] ([(rec offices y1)]) from ⟨[I ((rec offices y1).Kind),I ((rec offices y1).N),I ((rec offices y1).No),.string ((rec offices y1).Name),.slice rr5.iE ((rec offices y1).L.length) rr5.iG],[],U,U,⟨rr5,U,ok5⟩,U⟩)) lo lo (fun ob3 oc3 G3 gr3=>?_))
      refine ⟨jn,?_⟩
      refine tf 7 U U (fun _ _ _=>dO dF U) (tn 8 U (j7 3 ty64 U U U U U U (⟨jn,?_⟩)))
      refine cd kr ?_
      refine ao (ah (az (v':=I (((i1+1):Nat):Int)) U (bP ob) (aa (ac ?_))))
      refine cE (L':=[z1,(b1,O [I x.Kind,I x.N,I (aN offices x.Name),.string x.Name,.slice ob3 ((jw++[(rec offices y1)]).length) oc3] 66)]++(G3)) js ?_
      exact ag1 ((i1+1),(jw++[(rec offices y1)]),ob3,oc3,G3,h5,rz1) _ (Nat.lt_succ_self _) ⟨bF hd1,aP hd1,hs4,gr3,lo,(hl1.t hle5)⟩ rd
     ·refine cf (cells:=[I ((rec offices y1).Kind),I ((rec offices y1).N),I ((rec offices y1).No),.string ((rec offices y1).Name),.slice rr5.iE ((rec offices y1).L.length) rr5.iG]) gg ty66 zc66 U U kr (fun b8=>?_)
      refine ⟨jn,?_⟩
      refine tn 1 U (gW (hY ty64 U (lM (i:=3) U) U) (⟨jn,?_⟩))
      let z14:Nat×Obj:=(b8,O [I ((rec offices y1).Kind),I ((rec offices y1).N),I ((rec offices y1).No),.string ((rec offices y1).Name),.slice rr5.iE ((rec offices y1).L.length) rr5.iG] 66)
      refine tn 6 U (eK Expr.eZ ([z14,z8,z1,z4]) ([]) (fun G=>[z14,z8,z1,z4]++(G)) ap (fun _=>ap) gg ty66 zc66 U bytes66 (ng.mono Expr.aJ hle5) U U (ff 0 U (show bW Expr.rp h5 [I ((rec offices y1).Kind),I ((rec offices y1).N),I ((rec offices y1).No),.string ((rec offices y1).Name),.slice rr5.iE ((rec offices y1).L.length) rr5.iG] ([(rec offices y1)]) from ⟨[I ((rec offices y1).Kind),I ((rec offices y1).N),I ((rec offices y1).No),.string ((rec offices y1).Name),.slice rr5.iE ((rec offices y1).L.length) rr5.iG],[],U,U,⟨rr5,U,ok5⟩,U⟩)) lo lo (fun ob4 oc4 G4 gr4=>?_))
      refine ⟨jn,?_⟩
      refine tf 7 U U (fun _ _ _=>dO dF U) (tn 8 U (j7 3 ty64 U U U U U U (⟨jn,?_⟩)))
      refine cd kr ?_
      refine ao (ah (az (v':=I (((i1+1):Nat):Int)) U (bP ob) (aa (ac ?_))))
      refine cE (L':=[z1,(b1,O [I x.Kind,I x.N,I (aN offices x.Name),.string x.Name,.slice ob4 ((jw++[(rec offices y1)]).length) oc4] 66)]++(G4)) js ?_
      exact ag1 ((i1+1),(jw++[(rec offices y1)]),ob4,oc4,G4,h5,rz1) _ (Nat.lt_succ_self _) ⟨bF hd1,aP hd1,hs4,gr4,lo,(hl1.t hle5)⟩ rd
 ·have hs6:=hs0.trans (bf c1)
  refine ai (sr (ay dF U (aL 1 ty64 U U U (an (sr (ay dF U (du 1 ty64 U U U U U U (ac (ad (sr (aa (bE gg U (aa (ac ?_))))))))))))))
  let z2:Nat×Obj:=(b2,O [I 0,I 0,I 0,.string (⟨#[]⟩:ByteArray),.slice none 0 0] 66)
  refine bq (ι:=Nat×(List Expr)×Option Addr×Nat×LH×HF) (fun i=>[(3,Q b1),(4,Q b2)]) (fun i=>i.2.2.2.2.2) (fun i=>[z2,(b1,O [I x.Kind,I x.N,I 0,.string x.Name,.slice i.2.2.1 i.2.1.length i.2.2.2.1] 66)]++(i.2.2.2.2.1)) (fun i=>i.1≤x.L.length∧ak.F rec offices x=((ak.K2 x) i.2.1)∧ei Expr.rp 66 i.2.2.2.2.2 i.2.1 i.2.2.1 i.2.2.2.1 i.2.2.2.2.1∧i.2.1.length≤0+i.1∧HF.le h i.2.2.2.2.2) ?_ (fun hx2=>?_)
  ·rintro ⟨i2,jv,mq,mp,rK,hh2⟩ ⟨j4,hs7,m9,xW,hl2⟩ e
   try dsimp only at j4 m9 xW hl2
   try dsimp only
   let z5:Nat×Obj:=(b1,O [I x.Kind,I x.N,I 0,.string x.Name,.slice mq jv.length mp] 66)
   let z16:Nat×Obj:=(b2,O [I x.Kind,I x.N,I 0,.string x.Name,.slice mq jv.length mp] 66)
   refine sr (dh 1 ty66 U U U (bJ 0 ty66 U U U U U U (iF (L':=[z16,z5]++(rK)) U ?_)))
   refine ac ?_
   refine gi Expr.aJ ([z16,z5]) rK ([]) ap hM m9 (fun h8 hle8 sl4=>?_)
   have hs8:ak.F rec offices x=(Expr.mk x.Kind x.N 0 x.Name jv):=hs7
   exact dQ [.agg (List.toArray [I x.Kind,I x.N,I 0,.string x.Name,.slice mq jv.length mp])] Tryz.func218 U ⟨⟨0,_,_,_,_,U,U,.inl ⟨ty66,U⟩⟩,trivial⟩ ⟨(cM.mk mq mp),congrArg (fun r:Expr=>(.agg (Expr.cells r (cM.mk mq mp)).toArray:Value)) hs8.symm,(by rw [hs8];exact (show Expr.ok h8 (Expr.mk x.Kind x.N 0 x.Name jv) (cM.mk mq mp) from Expr.ok.of sl4))⟩
  ·refine ck (ι:=Nat×(List Expr)×Option Addr×Nat×LH×HF×List Expr) (fun i=>[(0,.slice cB offices.length cA),(3,Q b1),(4,Q b2),(19,.slice fu.iE x.L.length fu.iG),(20,I ((x.L.length:Nat):Int)),(21,I ((i.1:Nat):Int))]) (fun i=>i.2.2.2.2.2.1) (fun i=>[z2,(b1,O [I x.Kind,I x.N,I 0,.string x.Name,.slice i.2.2.1 i.2.1.length i.2.2.2.1] 66)]++(i.2.2.2.2.1)) (fun i=>x.L.drop i.1=i.2.2.2.2.2.2∧i.1≤x.L.length∧ak.F rec offices x=((ak.L2 rec offices (ak.K2 x)) i.2.2.2.2.2.2 i.2.1)∧ei Expr.rp 66 i.2.2.2.2.2.1 i.2.1 i.2.2.1 i.2.2.2.1 i.2.2.2.2.1∧i.2.1.length≤0+i.1∧HF.le h i.2.2.2.2.2.1) (fun i=>i.2.2.2.2.2.2.length) (0,[],none,0,[],h,x.L) rd sw ⟨U,Nat.zero_le _,hs6,ei.nil,lo,(HF.le_refl h)⟩ ?_
   rintro ⟨i2,jv,mq,mp,rK,hh2,s2⟩ ⟨hd2,j4,hs9,m9,xW,hl2⟩ ag2 e
   try dsimp only at hd2 j4 m9 xW hl2
   rcases s2 with _ | ⟨y2,rz2⟩
   ·have tz:=cS hd2
    try dsimp only
    refine sr (az (v':=.bool false) U (cb tz) (ac (ad (ba U (bM U ?_)))))
    exact hx2 (i2,jv,mq,mp,rK,hh2) _ ⟨j4,hs9,m9,lo,hl2⟩ rd
   ·have qH:=dV hd2
    have lG:=cU hd2
    have xL:=aP hd2
    have DR:=hx.list.1.1
    have hdy:=Expr.iv (gm hd2)
    try dsimp only
    refine sr (az (v':=.bool true) U (cb qH) (ac (ad (bj U (ai (ad (aU (sr (a8 (gX gg ty66 (hx.list.mono Expr.aJ hl2).1 (nthZ lG) (bA lG) U U U (fun q4 cs4 A4 ln4 rr8=>?_)))))))))))
    obtain ⟨r4,rfl,ok8⟩:=rr8
    let z6:Nat×Obj:=(b1,O [I x.Kind,I x.N,I 0,.string x.Name,.slice mq jv.length mp] 66)
    refine dT ty66 A4 U U (bT zc66 (fun b11=>bJ 0 ty66 U U U U U U (iF (L':=[(b11,O (Expr.cells y2 r4) 66),z2,z6]++(rK)) U ?_)))
    refine ac ?_
    let z7:Nat×Obj:=(b11,O (Expr.cells y2 r4) 66)
    refine gr ([z7,z2]) mixed kr jn (fun xK _=>?_)
    refine tf 0 U U (fun _ _ _=>dO dF U) (tm 2 U ?_)
    refine tf 3 U U (fun _ _ hj=>kZ ty66 U (hj.nth (i:=0) U) U) ?_
    refine lQ 1 4 kr U U ?_ ?_ 
    ·refine gW (hY ty64 U (lM (i:=2) U) U) (⟨jn,?_⟩)
     refine tn 4 U (dp Bo (hrec hh2 offices cB cA y2 r4 (hoffices.mono Rp.gx hl2) ok8 ob (Expr.iv (gm hd2))) U (fun v5 h9 hle9 hp5=>?_))
     obtain ⟨rr9,rfl,ok9⟩:=hp5
     refine ⟨jl hle9,tu hle9 ?_⟩
     refine tn 5 U (cf (cells:=[I ((rec offices y2).Kind),I ((rec offices y2).N),I ((rec offices y2).No),.string ((rec offices y2).Name),.slice rr9.iE ((rec offices y2).L.length) rr9.iG]) gg ty66 zc66 U U kr (fun b12=>?_))
     refine ⟨jn,?_⟩
     let z11:Nat×Obj:=(b12,O [I ((rec offices y2).Kind),I ((rec offices y2).N),I ((rec offices y2).No),.string ((rec offices y2).Name),.slice rr9.iE ((rec offices y2).L.length) rr9.iG] 66)
     refine tn 6 U (eK Expr.eZ ([z11,z7,z2,z6]) ([]) (fun G=>[z11,z7,z2,z6]++(G)) ap (fun _=>ap) gg ty66 zc66 U bytes66 (m9.mono Expr.aJ hle9) U U (ff 0 U (show bW Expr.rp h9 [I ((rec offices y2).Kind),I ((rec offices y2).N),I ((rec offices y2).No),.string ((rec offices y2).Name),.slice rr9.iE ((rec offices y2).L.length) rr9.iG] ([(rec offices y2)]) from ⟨[I ((rec offices y2).Kind),I ((rec offices y2).N),I ((rec offices y2).No),.string ((rec offices y2).Name),.slice rr9.iE ((rec offices y2).L.length) rr9.iG],[],U,U,⟨rr9,U,ok9⟩,U⟩)) lo lo (fun ob6 oc6 G6 gr6=>?_))
     refine ⟨jn,?_⟩
     refine tf 7 U U (fun _ _ _=>dO dF U) (tn 8 U (j7 3 ty64 U U U U U U (⟨jn,?_⟩)))
     refine cd kr ?_
     refine ao (ah (az (v':=I (((i2+1):Nat):Int)) U (bP ob) (aa (ac ?_))))
     refine cE (L':=[z2,(b1,O [I x.Kind,I x.N,I 0,.string x.Name,.slice ob6 ((jv++[(rec offices y2)]).length) oc6] 66)]++(G6)) js ?_
     exact ag2 ((i2+1),(jv++[(rec offices y2)]),ob6,oc6,G6,h9,rz2) _ (Nat.lt_succ_self _) ⟨bF hd2,aP hd2,hs9,gr6,lo,(hl2.t hle9)⟩ rd
    ·refine dp Bo (hrec hh2 offices cB cA y2 r4 (hoffices.mono Rp.gx hl2) ok8 ob (Expr.iv (gm hd2))) U (fun v6 h10 hle10 hp6=>?_)
     obtain ⟨rr10,rfl,ok10⟩:=hp6
     refine ⟨jl hle10,tu hle10 ?_⟩
     refine lQ 1 5 kr U U ?_ ?_ 
     ·refine gW (hY ty64 U (lM (i:=2) U) U) (⟨jn,?_⟩)
      refine tn 5 U (cf (cells:=[I ((rec offices y2).Kind),I ((rec offices y2).N),I ((rec offices y2).No),.string ((rec offices y2).Name),.slice rr10.iE ((rec offices y2).L.length) rr10.iG]) gg ty66 zc66 U U kr (fun b13=>?_))
      refine ⟨jn,?_⟩
      let z9:Nat×Obj:=(b13,O [I ((rec offices y2).Kind),I ((rec offices y2).N),I ((rec offices y2).No),.string ((rec offices y2).Name),.slice rr10.iE ((rec offices y2).L.length) rr10.iG] 66)
      refine tn 6 U (eK Expr.eZ ([z9,z7,z2,z6]) ([]) (fun G=>[z9,z7,z2,z6]++(G)) ap (fun _=>ap) gg ty66 zc66 U bytes66 (m9.mono Expr.aJ hle10) U U (ff 0 U (show bW Expr.rp h10 [I ((rec offices y2).Kind),I ((rec offices y2).N),I ((rec offices y2).No),.string ((rec offices y2).Name),.slice rr10.iE ((rec offices y2).L.length) rr10.iG] ([(rec offices y2)]) from ⟨[I ((rec offices y2).Kind),I ((rec offices y2).N),I ((rec offices y2).No),.string ((rec offices y2).Name),.slice rr10.iE ((rec offices y2).L.length) rr10.iG],[],U,U,⟨rr10,U,ok10⟩,U⟩)) lo lo (fun ob7 oc7 G7 gr7=>?_))
      refine ⟨jn,?_⟩
      refine tf 7 U U (fun _ _ _=>dO dF U) (tn 8 U (j7 3 ty64 U U U U U U (⟨jn,?_⟩)))
      refine cd kr ?_
      refine ao (ah (az (v':=I (((i2+1):Nat):Int)) U (bP ob) (aa (ac ?_))))
      refine cE (L':=[z2,(b1,O [I x.Kind,I x.N,I 0,.string x.Name,.slice ob7 ((jv++[(rec offices y2)]).length) oc7] 66)]++(G7)) js ?_
      exact ag2 ((i2+1),(jv++[(rec offices y2)]),ob7,oc7,G7,h10,rz2) _ (Nat.lt_succ_self _) ⟨bF hd2,aP hd2,hs9,gr7,lo,(hl2.t hle10)⟩ rd
     ·refine cf (cells:=[I ((rec offices y2).Kind),I ((rec offices y2).N),I ((rec offices y2).No),.string ((rec offices y2).Name),.slice rr10.iE ((rec offices y2).L.length) rr10.iG]) gg ty66 zc66 U U kr (fun b14=>?_)
      refine ⟨jn,?_⟩
      refine tn 1 U (gW (hY ty64 U (lM (i:=3) U) U) (⟨jn,?_⟩))
      let z10:Nat×Obj:=(b14,O [I ((rec offices y2).Kind),I ((rec offices y2).N),I ((rec offices y2).No),.string ((rec offices y2).Name),.slice rr10.iE ((rec offices y2).L.length) rr10.iG] 66)
      refine tn 6 U (eK Expr.eZ ([z10,z7,z2,z6]) ([]) (fun G=>[z10,z7,z2,z6]++(G)) ap (fun _=>ap) gg ty66 zc66 U bytes66 (m9.mono Expr.aJ hle10) U U (ff 0 U (show bW Expr.rp h10 [I ((rec offices y2).Kind),I ((rec offices y2).N),I ((rec offices y2).No),.string ((rec offices y2).Name),.slice rr10.iE ((rec offices y2).L.length) rr10.iG] ([(rec offices y2)]) from ⟨[I ((rec offices y2).Kind),I ((rec offices y2).N),I ((rec offices y2).No),.string ((rec offices y2).Name),.slice rr10.iE ((rec offices y2).L.length) rr10.iG],[],U,U,⟨rr10,U,ok10⟩,U⟩)) lo lo (fun ob8 oc8 G8 gr8=>?_))
      refine ⟨jn,?_⟩
      refine tf 7 U U (fun _ _ _=>dO dF U) (tn 8 U (j7 3 ty64 U U U U U U (⟨jn,?_⟩)))
      refine cd kr ?_
      refine ao (ah (az (v':=I (((i2+1):Nat):Int)) U (bP ob) (aa (ac ?_))))
      refine cE (L':=[z2,(b1,O [I x.Kind,I x.N,I 0,.string x.Name,.slice ob8 ((jv++[(rec offices y2)]).length) oc8] 66)]++(G8)) js ?_
      exact ag2 ((i2+1),(jv++[(rec offices y2)]),ob8,oc8,G8,h10,rz2) _ (Nat.lt_succ_self _) ⟨bF hd2,aP hd2,hs9,gr8,lo,(hl2.t hle10)⟩ rd
theorem mm:∀ (m:Nat) (h:HF) (offices:(List ByteArray)) (cB:Option Addr) (cA:Nat) (x:Expr) (fu:cM) (_:x.dep≤m) (hoffices:SlC Rp.str h cB cA offices) (hx:Expr.ok h x fu) (hsz:x.dep≤2000000),jP Tryz.prog 218 [.slice cB offices.length cA,.agg (Expr.cells x fu).toArray] h (fun v h'=>∃ (rr0:cM),v=.agg (Expr.cells (ak.go m offices x) rr0).toArray∧Expr.ok h' (ak.go m offices x) rr0)
 | 0,h,offices,cB,cA,x,fu,hd,hoffices,hx,hsz=>absurd hd (Nat.not_le.2 (Expr.j1 _))
 | m+1,h,offices,cB,cA,x,fu,hd,hoffices,hx,hsz=>rk (ak.go m) h offices cB cA x fu (fun qh_ qoffices iO iN qx jA qhoffices qhx qhsz qd=>mm m qh_ qoffices iO iN qx jA ob qhoffices qhx qhsz) hoffices hx hsz
theorem nq (h:HF) (offices:(List ByteArray)) (cB:Option Addr) (cA:Nat) (x:Expr) (fu:cM) (hoffices:SlC Rp.str h cB cA offices) (hx:Expr.ok h x fu) (hsz:x.dep≤2000000):jP Tryz.prog 218 [.slice cB offices.length cA,.agg (Expr.cells x fu).toArray] h (fun v h'=>∃ (rr0:cM),v=.agg (Expr.cells (ak offices x) rr0).toArray∧Expr.ok h' (ak offices x) rr0):=mm _ h offices cB cA x fu (Nat.le_refl _) hoffices hx hsz
theorem sA (h:HF) (p:Policy) (fp:fh) (hp:Policy.ok h p fp) (hsm:smP p) (hk:Kinds h):jP Tryz.prog 158 [.agg (Policy.cells p fp).toArray] h (fun v h'=>∃ (rr0:fh),v=.tuple #[.agg (Policy.cells ((dq p).1) rr0).toArray,I ((dq p).2)]∧Policy.ok h' ((dq p).1) rr0):=by
 refine aw Tryz.func158 U Tryz.ntmps158 U fun X hM hX=>?_
 have hs0:dq p=dq p:=rfl
 have hsc:=hsm.change
 have hsr:=hsm.rules
 refine sr (dC (fun b1=>bT zc68 (fun b2=>an (sr (cn 1 U hM (fun h1 hle1 hb1=>a8 (gj U U (aA (v:=I (attR (dj p))) Tryz.call213 (sy h1 (.func (.func 214) #[] #[Q b1]) (dj p) (kE (args:=[]) (cap:=[Q b1]) Tryz.call214 (qC h1 p fp ⟨b1,0,none⟩ (hp.mono hle1) (dP hb1) (by first | assumption | omega) (hk.mono hle1)))) U ?_))))))))
 refine an (ad (sr (aa (aF U (ac ?_)))))
 refine aB U (fun c1=>?_) (fun c1=>?_)
 ·have hs1:=hs0.trans (bt c1)
  refine sr (dh 0 ty68 U U U (aa (bJ 0 ty68 U U U U U U (an ?_))))
  have hs2:dq p=((Policy.mk (⟨#[]⟩:ByteArray) ([]) ([]) ([]) (Expr.mk 0 0 0 (⟨#[]⟩:ByteArray) ([])) 0),(attR (dj p))):=hs1
  exact dQ [.agg (List.toArray [.string (⟨#[]⟩:ByteArray),.slice none 0 0,.slice none 0 0,.slice none 0 0,I 0,I 0,I 0,.string (⟨#[]⟩:ByteArray),.slice none 0 0,I 0]),I (attR (dj p))] Tryz.func158 U ⟨⟨0,_,_,_,_,U,U,.inl ⟨ty68,U⟩⟩,U,trivial⟩ ⟨(fh.mk none 0 none 0 none 0 (cM.mk none 0)),congrArg (fun r:(Policy×Int)=>(.tuple #[.agg (Policy.cells r.1 (fh.mk none 0 none 0 none 0 (cM.mk none 0))).toArray,I r.2]:Value)) hs2.symm,(by rw [hs2];exact (show Policy.ok h1 (Policy.mk (⟨#[]⟩:ByteArray) ([]) ([]) ([]) (Expr.mk 0 0 0 (⟨#[]⟩:ByteArray) ([])) 0) (fh.mk none 0 none 0 none 0 (cM.mk none 0)) from ⟨SlC.nil,SlC.nil,SlC.nil,(show Expr.ok h1 (Expr.mk 0 0 0 (⟨#[]⟩:ByteArray) ([])) (cM.mk none 0) from Expr.ok.of SlC.nil)⟩))⟩
 ·have hs3:=hs0.trans (bf c1)
  refine ai (sr (dT ty68 (dP hb1) U U (bJ 0 ty68 U U U U U U (ac (sr (ay fC U (du 0 ty63 U U U U U U (ac (ad (sr (ay fC U (ns (j:=3) ty63 (dP hb1) U U ?_))))))))))))
  refine bE jV U (aa (ac ?_))
  refine bq (ι:=Nat×(List Rule)×Option Addr×Nat×LH×HF) (fun i=>[(1,Q b1),(2,Q b2)]) (fun i=>i.2.2.2.2.2) (fun i=>[(b2,O [.string p.Name,.slice fp.fM p.Kinds.length fp.fL,.slice fp.dB p.Offices.length fp.dA,.slice i.2.2.1 i.2.1.length i.2.2.2.1,I p.Change.Kind,I p.Change.N,I p.Change.No,.string p.Change.Name,.slice fp.Change.iE p.Change.L.length fp.Change.iG,I p.Mode] 68)]++(i.2.2.2.2.1)) (fun i=>i.1≤p.Rules.length∧dq p=((dq.K1 p) i.2.1)∧ei Rule.rp 107 i.2.2.2.2.2 i.2.1 i.2.2.1 i.2.2.2.1 i.2.2.2.2.1∧i.2.1.length≤0+i.1∧HF.le h1 i.2.2.2.2.2) ?_ (fun hx1=>?_)
  ·rintro ⟨i1,kD,nf,nd,rM,hh1⟩ ⟨bd,hs4,pC,yd,hl1⟩ e
   try dsimp only at bd pC yd hl1
   try dsimp only
   refine sr (ay jO U (ns (j:=2) ty62 ((dP hb1).mono hl1) U U (ay lN U (uO (j:=4) ty66 ((dP hb1).mono hl1) U U (a8 (dp Bo (nq hh1 p.Offices fp.dB fp.dA p.Change fp.Change (hp.Offices.mono Rp.gx (hle1.t hl1)) (hp.Change.mono (hle1.t hl1)) ob) U (fun v3 h5 hle5 hp3=>?_)))))))
   obtain ⟨rr4,rfl,ok4⟩:=hp3
   let z2:Nat×Obj:=(b2,O [.string p.Name,.slice fp.fM p.Kinds.length fp.fL,.slice fp.dB p.Offices.length fp.dA,.slice nf kD.length nd,I ((ak p.Offices p.Change).Kind),I ((ak p.Offices p.Change).N),I ((ak p.Offices p.Change).No),.string ((ak p.Offices p.Change).Name),.slice rr4.iE ((ak p.Offices p.Change).L.length) rr4.iG,I p.Mode] 68)
   refine ay lN U (du 0 ty66 U U U U U U (ac (sr (dh 0 ty68 U U U (bJ 0 ty68 U U U U U U (iF (L':=[z2]++(rM)) U ?_))))))
   refine an ?_
   refine gi Rule.aJ ([z2]) rM ([]) ap hM (pC.mono Rule.aJ hle5) (fun h6 hle6 sl2=>?_)
   have hs5:dq p=((Policy.mk p.Name p.Kinds p.Offices kD (Expr.mk ((ak p.Offices p.Change).Kind) ((ak p.Offices p.Change).N) ((ak p.Offices p.Change).No) ((ak p.Offices p.Change).Name) ((ak p.Offices p.Change).L)) p.Mode),0):=hs4
   exact dQ [.agg (List.toArray [.string p.Name,.slice fp.fM p.Kinds.length fp.fL,.slice fp.dB p.Offices.length fp.dA,.slice nf kD.length nd,I ((ak p.Offices p.Change).Kind),I ((ak p.Offices p.Change).N),I ((ak p.Offices p.Change).No),.string ((ak p.Offices p.Change).Name),.slice rr4.iE ((ak p.Offices p.Change).L.length) rr4.iG,I p.Mode]),I 0] Tryz.func158 U ⟨⟨0,_,_,_,_,U,U,.inl ⟨ty68,U⟩⟩,U,trivial⟩ ⟨(fh.mk fp.fM fp.fL fp.dB fp.dA nf nd (cM.mk rr4.iE rr4.iG)),congrArg (fun r:(Policy×Int)=>(.tuple #[.agg (Policy.cells r.1 (fh.mk fp.fM fp.fL fp.dB fp.dA nf nd (cM.mk rr4.iE rr4.iG))).toArray,I r.2]:Value)) hs5.symm,(by rw [hs5];exact (show Policy.ok h6 (Policy.mk p.Name p.Kinds p.Offices kD (Expr.mk ((ak p.Offices p.Change).Kind) ((ak p.Offices p.Change).N) ((ak p.Offices p.Change).No) ((ak p.Offices p.Change).Name) ((ak p.Offices p.Change).L)) p.Mode) (fh.mk fp.fM fp.fL fp.dB fp.dA nf nd (cM.mk rr4.iE rr4.iG)) from ⟨(hp.Kinds.mono Rp.gx (((hle1.t hl1).t hle5).t hle6)),(hp.Offices.mono Rp.gx (((hle1.t hl1).t hle5).t hle6)),sl2,(show Expr.ok h6 (Expr.mk ((ak p.Offices p.Change).Kind) ((ak p.Offices p.Change).N) ((ak p.Offices p.Change).No) ((ak p.Offices p.Change).Name) ((ak p.Offices p.Change).L)) (cM.mk rr4.iE rr4.iG) from Expr.ok.of (ok4.list.mono Expr.aJ hle6))⟩))⟩
  ·refine ck (ι:=Nat×(List Rule)×Option Addr×Nat×LH×HF×List Rule) (fun i=>[(1,Q b1),(2,Q b2),(15,.slice fp.ji p.Rules.length fp.jh),(16,I ((p.Rules.length:Nat):Int)),(17,I ((i.1:Nat):Int))]) (fun i=>i.2.2.2.2.2.1) (fun i=>[(b2,O [.string p.Name,.slice fp.fM p.Kinds.length fp.fL,.slice fp.dB p.Offices.length fp.dA,.slice i.2.2.1 i.2.1.length i.2.2.2.1,I p.Change.Kind,I p.Change.N,I p.Change.No,.string p.Change.Name,.slice fp.Change.iE p.Change.L.length fp.Change.iG,I p.Mode] 68)]++(i.2.2.2.2.1)) (fun i=>p.Rules.drop i.1=i.2.2.2.2.2.2∧i.1≤p.Rules.length∧dq p=((dq.L1 p (dq.K1 p)) i.2.2.2.2.2.2 i.1 i.2.1)∧ei Rule.rp 107 i.2.2.2.2.2.1 i.2.1 i.2.2.1 i.2.2.2.1 i.2.2.2.2.1∧i.2.1.length≤0+i.1∧HF.le h1 i.2.2.2.2.2.1) (fun i=>i.2.2.2.2.2.2.length) (0,[],none,0,[],h1,p.Rules) rd sw ⟨U,Nat.zero_le _,hs3,ei.nil,lo,(HF.le_refl h1)⟩ ?_
   rintro ⟨i1,kD,nf,nd,rM,hh1,s1⟩ ⟨hd1,bd,hs6,pC,yd,hl1⟩ ag1 e
   try dsimp only at hd1 bd pC yd hl1
   rcases s1 with _ | ⟨y1,rz1⟩
   ·have dJ:=cS hd1
    try dsimp only
    refine sr (az (v':=.bool false) U (cb dJ) (ac (ad (ba U (bM U ?_)))))
    exact hx1 (i1,kD,nf,nd,rM,hh1) _ ⟨bd,hs6,pC,lo,hl1⟩ rd
   ·have dI:=dV hd1
    have bh:=cU hd1
    have e9:=aP hd1
    have gO:=(hp.Rules.mono Rule.aJ hle1).1.1
    have hsy:=hsm.2.1 y1 (gm hd1)
    try dsimp only
    refine sr (az (v':=.bool true) U (cb dI) (ac (ad (bj U (ai (ad (aU (sr (aa (a8 (gX jV ty107 (hp.Rules.mono Rule.aJ (hle1.t hl1)).1 (nthZ bh) (bA bh) U U U (fun q2 cs2 A2 ln2 rr5=>?_))))))))))))
    obtain ⟨r2,rfl,ok5⟩:=rr5
    let z1:Nat×Obj:=(b2,O [.string p.Name,.slice fp.fM p.Kinds.length fp.fL,.slice fp.dB p.Offices.length fp.dA,.slice nf kD.length nd,I p.Change.Kind,I p.Change.N,I p.Change.No,.string p.Change.Name,.slice fp.Change.iE p.Change.L.length fp.Change.iG,I p.Mode] 68)
    refine dT ty107 A2 U U (bT zc107 (fun b5=>bi (bJ 0 ty107 U U U U U U (iF (L':=[(b5,O (Rule.cells y1 r2) 107),z1]++(rM)) U ?_))))
    refine ac (sr (aa (ay jO U (ns (j:=2) ty62 ((dP hb1).mono hl1) U U (ay kn U (dh 0 ty66 U U U (a8 (dp Bo (nq hh1 p.Offices fp.dB fp.dA y1.Expr r2.Expr (hp.Offices.mono Rp.gx (hle1.t hl1)) ok5.Expr ob) U (fun v4 h7 hle7 hp4=>?_)))))))))
    obtain ⟨rr6,rfl,ok6⟩:=hp4
    refine ay rQ U (du 0 ty3 U U U U U U (ay kn U (du 0 ty66 U U U U U U (ac (ah (ay fC U (aL 1 ty63 U U U (dh 0 ty107 U U U (a8 (cf (cells:=[.string y1.Kind,I ((i1:Nat):Int),I y1.Think,I ((ak p.Offices y1.Expr).Kind),I ((ak p.Offices y1.Expr).N),I ((ak p.Offices y1.Expr).No),.string ((ak p.Offices y1.Expr).Name),.slice rr6.iE ((ak p.Offices y1.Expr).L.length) rr6.iG]) jV ty107 zc107 U U kr (fun b6=>?_)))))))))))
    let z3:Nat×Obj:=(b6,O [.string y1.Kind,I ((i1:Nat):Int),I y1.Think,I ((ak p.Offices y1.Expr).Kind),I ((ak p.Offices y1.Expr).N),I ((ak p.Offices y1.Expr).No),.string ((ak p.Offices y1.Expr).Name),.slice rr6.iE ((ak p.Offices y1.Expr).L.length) rr6.iG] 107)
    let z4:Nat×Obj:=(b5,O [.string y1.Kind,I ((i1:Nat):Int),I y1.Think,I ((ak p.Offices y1.Expr).Kind),I ((ak p.Offices y1.Expr).N),I ((ak p.Offices y1.Expr).No),.string ((ak p.Offices y1.Expr).Name),.slice rr6.iE ((ak p.Offices y1.Expr).L.length) rr6.iG] 107)
    refine a8 (eK Rule.eZ ([z3,z4,z1]) ([]) (fun G=>[z3,z4,z1]++(G)) ap (fun _=>ap) jV ty107 zc107 U bytes107 (pC.mono Rule.aJ hle7) U U (ff 0 U (show bW Rule.rp h7 [.string y1.Kind,I ((i1:Nat):Int),I y1.Think,I ((ak p.Offices y1.Expr).Kind),I ((ak p.Offices y1.Expr).N),I ((ak p.Offices y1.Expr).No),.string ((ak p.Offices y1.Expr).Name),.slice rr6.iE ((ak p.Offices y1.Expr).L.length) rr6.iG] ([(Rule.mk y1.Kind ((i1:Nat):Int) y1.Think (Expr.mk ((ak p.Offices y1.Expr).Kind) ((ak p.Offices y1.Expr).N) ((ak p.Offices y1.Expr).No) ((ak p.Offices y1.Expr).Name) ((ak p.Offices y1.Expr).L)))]) from ⟨[.string y1.Kind,I ((i1:Nat):Int),I y1.Think,I ((ak p.Offices y1.Expr).Kind),I ((ak p.Offices y1.Expr).N),I ((ak p.Offices y1.Expr).No),.string ((ak p.Offices y1.Expr).Name),.slice rr6.iE ((ak p.Offices y1.Expr).L.length) rr6.iG],[],U,U,⟨(uC.mk (cM.mk rr6.iE rr6.iG)),U,(show Rule.ok h7 (Rule.mk y1.Kind ((i1:Nat):Int) y1.Think (Expr.mk ((ak p.Offices y1.Expr).Kind) ((ak p.Offices y1.Expr).N) ((ak p.Offices y1.Expr).No) ((ak p.Offices y1.Expr).Name) ((ak p.Offices y1.Expr).L))) (uC.mk (cM.mk rr6.iE rr6.iG)) from ⟨(show Expr.ok h7 (Expr.mk ((ak p.Offices y1.Expr).Kind) ((ak p.Offices y1.Expr).N) ((ak p.Offices y1.Expr).No) ((ak p.Offices y1.Expr).Name) ((ak p.Offices y1.Expr).L)) (cM.mk rr6.iE rr6.iG) from Expr.ok.of ok6.list)⟩)⟩,U⟩)) lo lo (fun ob2 oc2 G2 gr2=>?_))
    refine ay fC U (du 2 ty63 U U U U U U (ac (ao (ah (az (v':=I (((i1+1):Nat):Int)) U (bP ob) (aa (ac ?_)))))))
    refine cE (L':=[(b2,O [.string p.Name,.slice fp.fM p.Kinds.length fp.fL,.slice fp.dB p.Offices.length fp.dA,.slice ob2 ((kD++[(Rule.mk y1.Kind ((i1:Nat):Int) y1.Think (Expr.mk ((ak p.Offices y1.Expr).Kind) ((ak p.Offices y1.Expr).N) ((ak p.Offices y1.Expr).No) ((ak p.Offices y1.Expr).Name) ((ak p.Offices y1.Expr).L)))]).length) oc2,I p.Change.Kind,I p.Change.N,I p.Change.No,.string p.Change.Name,.slice fp.Change.iE p.Change.L.length fp.Change.iG,I p.Mode] 68)]++(G2)) js ?_
    exact ag1 ((i1+1),(kD++[(Rule.mk y1.Kind ((i1:Nat):Int) y1.Think (Expr.mk ((ak p.Offices y1.Expr).Kind) ((ak p.Offices y1.Expr).N) ((ak p.Offices y1.Expr).No) ((ak p.Offices y1.Expr).Name) ((ak p.Offices y1.Expr).L)))]),ob2,oc2,G2,h7,rz1) _ (Nat.lt_succ_self _) ⟨bF hd1,aP hd1,hs6,gr2,lo,(hl1.t hle7)⟩ rd
theorem m4 (h:HF) (offices:(List ByteArray)) (cB:Option Addr) (cA:Nat) (x:Expr) (fu:cM) (hoffices:SlC Rp.str h cB cA offices) (hx:Expr.ok h x fu) (hsz:x.dep≤1500000):Ret Tryz.prog 159 [.slice cB offices.length cA,.agg (Expr.cells x fu).toArray] h (.bool (bX offices x)):=by
 refine aw FM U Tryz.ntmps159 U fun X hM hX=>?_
 have hs0:bX offices x=bX offices x:=rfl
 refine sr (dC (fun b1=>dC (fun b2=>bT zc4 (fun b3=>ac (ad (sr (dh 1 ty66 U U U (a8 (dp Ed (kL h x fu 1 hx ob) U (fun v1 h1 hle1 hp1=>?_))))))))))
 obtain ⟨_,rfl,mo1⟩:=hp1
 refine ac (aU ?_)
 refine gv ?_
 let z1:Nat×Obj:=(b1,O [.slice cB offices.length cA] 62)
 let z2:Nat×Obj:=(b2,O (Expr.cells x fu) 66)
 refine dW (L':=([(b3,O [.bool false] 4),z2,z1])++markB []) ap ?_
 refine kc (it:=v1) (xs:=(bZ x 1)) (ι:=HF) [] (fun i=>i) (fun i=>[(b3,O [.bool false] 4),z2,z1]) (fun s i=>bX offices x=((bX.L1 offices (bX.K1)) s )∧HF.le h1 i) (fun i=>bX offices x=false∧HF.le h1 i) (fun _=>False) 0 (fun _ _ _=>False) h1 FM U mo1 U lF (fun _ _ _ _ _ hq=>hq) U (show [(b3,O [.bool false] 4),z2,z1]=_ from U) ⟨hs0,(HF.le_refl h1)⟩ ?_ ?_ ?_ ?_ ?_
 ·rintro l1 dm1 lp1 y1 rz1 vs1 hh1 hr1 X hFR1 ⟨hs1,hl1⟩ hl01 hlr1 hv1 hX hXM hlp1 nx1 rt1 ex1 pn1
  try dsimp only at hl1 hlr1
  obtain ⟨rr1_0,rfl,ok1_0⟩:=hv1
  let z3:Nat×Obj:=(dm1,.deferred (some []))
  refine dW (L':=[(l1,.loop lp1),z3,(b3,O [.bool false] 4),z2,z1]++(markB [])) ap ?_
  refine ah (bT zc258 (fun b5=>bJ 0 ty258 U U U U U U (ac (kd 1 U hlp1 (aU (sr (an (ad (sr (ay li U (dh 0 ty66 U U U (aA (v:=.bool (cX y1.x)) Tryz.call220 (lx hr1 y1.x rr1_0.x ok1_0.x) U ?_))))))))))))
  refine ac ?_
  refine aB U (fun c4=>?_) (fun c4=>?_)
  ·have hs2:=hs1.trans (bt c4)
   refine ah (aL 5 ty62 U U U (ay li U (ay my U (aL 0 ty9 U U U (aA (v:=I (aN offices y1.x.Name)) FO (jD hr1 offices cB cA y1.x.Name (hoffices.mono Rp.gx ((hle1.t hl1).t hlr1))) U ?_)))))
   refine an (sr (ay li U (ay mU U (aL 0 ty3 U U U (aa (aF U (ac ?_)))))))
   refine aB U (fun c5=>?_) (fun c5=>?_)
   ·have hs3:=hs2.trans (bt c5)
    refine sr (du 3 ty4 U U U U U U (ac ?_))
    refine cE (L':=[(l1,.loop { lp1 with state:=.busy }),z3,(b3,O [.bool false] 4),z2,z1]++(markB [])) js ?_
    refine dW (L':=rdH l1 dm1 lp1 (([(b3,O [.bool false] 4),z2,z1])++markB [])) ap ?_
    exact rt1 hr1 _ _ _ ⟨hs3,(hl1.t hlr1)⟩ (HF.le_refl _)
   ·have hs4:=hs2.trans (bf c5)
    refine ai (ao ?_)
    refine cE (L':=[(l1,.loop { lp1 with state:=.busy }),z3,(b3,O [.bool false] 4),z2,z1]++(markB [])) js ?_
    refine dW (L':=rdH l1 dm1 lp1 (([(b3,O [.bool false] 4),z2,z1])++markB [])) ap ?_
    exact nx1 hr1 _ _ ⟨hs4,(hl1.t hlr1)⟩ (HF.le_refl _)
  ·have hs5:=hs1.trans (bf c4)
   refine ai (sr (ay li U (ay mU U (aL 0 ty3 U U U (aa (aF U (ac ?_)))))))
   refine aB U (fun c6=>?_) (fun c6=>?_)
   ·have hs6:=hs5.trans (bt c6)
    refine sr (du 3 ty4 U U U U U U (ac ?_))
    refine cE (L':=[(l1,.loop { lp1 with state:=.busy }),z3,(b3,O [.bool false] 4),z2,z1]++(markB [])) js ?_
    refine dW (L':=rdH l1 dm1 lp1 (([(b3,O [.bool false] 4),z2,z1])++markB [])) ap ?_
    exact rt1 hr1 _ _ _ ⟨hs6,(hl1.t hlr1)⟩ (HF.le_refl _)
   ·have hs7:=hs5.trans (bf c6)
    refine ai (ao ?_)
    refine cE (L':=[(l1,.loop { lp1 with state:=.busy }),z3,(b3,O [.bool false] 4),z2,z1]++(markB [])) js ?_
    refine dW (L':=rdH l1 dm1 lp1 (([(b3,O [.bool false] 4),z2,z1])++markB [])) ap ?_
    exact nx1 hr1 _ _ ⟨hs7,(hl1.t hlr1)⟩ (HF.le_refl _)
 ·rintro dm1 hh1 hn1 ⟨hs8,hl1⟩ hln1 hl01
  try dsimp only at hl1 hln1
  refine dW (L':=[(b3,O [.bool false] 4),z2,z1]++(markB (dm1::[]))) ap ?_
  refine ao (sr (du 0 ty4 U U U U U U (ac ?_)))
  have hs9:bX offices x=true:=hs8
  refine dW (L':=([(b3,O [.bool true] 4),z2,z1])++markB (dm1::[])) ap ?_
  exact qU (dm1::[]) [.bool true] FM U hX ⟨⟨0,_,_,_,_,U,U,.inr ⟨_,ty4,U⟩⟩,trivial⟩ (cs hs9)
 ·rintro dm1 hh1 hn1 ⟨hs10,hl1⟩ hln1 hl01
  try dsimp only at hl1 hln1
  refine dW (L':=[(b3,O [.bool false] 4),z2,z1]++(markB (dm1::[]))) ap ?_
  have hs11:bX offices x=false:=hs10
  refine dW (L':=([(b3,O [.bool false] 4),z2,z1])++markB (dm1::[])) ap ?_
  exact qU (dm1::[]) [.bool false] FM U hX ⟨⟨0,_,_,_,_,U,U,.inr ⟨_,ty4,U⟩⟩,trivial⟩ (cs hs11)
 ·exact fun _ _ _ hF=>hF.elim
 ·exact fun _ _ _ _ hF=>hF.elim
theorem oM (h:HF) (p:Policy) (fp:fh) (hp:Policy.ok h p fp) (hsm:smP p) (hk:Kinds h):Ret Tryz.prog 94 [.agg (Policy.cells p fp).toArray] h (I (cy p)):=by
 refine aw D9 U Tryz.ntmps94 U fun X hM hX=>?_
 have hs0:cy p=cy p:=rfl
 have hsc:=hsm.change
 refine sr (dC (fun b1=>an (ad (sr (dh 0 ty68 U U U (a8 (dp Tryz.call158 (sA h p fp hp ob hk) U (fun v1 h1 hle1 hp1=>?_))))))))
 obtain ⟨rr1,rfl,ok1⟩:=hp1
 refine aa (bR U U (bR U U (an (sr (aa (aF U (ac ?_)))))))
 refine aB U (fun c1=>?_) (fun c1=>?_)
 ·have hs1:=hs0.trans (bt c1)
  refine sr (aa (an ?_))
  exact ar [I ((dq p).2)] D9 U hX rd (ci hs1)
 ·have hs3:=hs0.trans (bf c1)
  refine ai (ad (sr (ay fC U (aL 0 ty63 U U U (bE jV U (aa (ac ?_)))))))
  let z1:Nat×Obj:=(b1,O (Policy.cells p fp) 68)
  refine bq (ι:=Nat) (fun i=>[(1,Q b1)]) (fun i=>h1) (fun i=>[z1]) (fun i=>i≤p.Rules.length∧cy p=((cy.K1 p))) ?_ (fun hx1=>?_)
  ·rintro i1 ⟨bd,hs4⟩ e
   try dsimp only at bd
   try dsimp only
   refine ad (sr (ay jO U (aL 0 ty62 U U U (ay lN U (dh 0 ty66 U U U (aA (v:=.bool (bX p.Offices p.Change)) Tryz.call159 (m4 h1 p.Offices fp.dB fp.dA p.Change fp.Change (hp.Offices.mono Rp.gx hle1) (hp.Change.mono hle1) ob) U ?_))))))
   refine cR U (ac ?_)
   refine aB U (fun c2=>?_) (fun c2=>?_)
   ·have hs5:=hs4.trans (bt c2)
    refine sr (an ?_)
    exact ar [I 200] D9 U hX rd (ci hs5)
   ·have hs7:=hs4.trans (bf c2)
    refine ai (sr (an ?_))
    exact ar [I 0] D9 U hX rd (ci hs7)
  ·refine ck (ι:=Nat×List Rule) (fun i=>[(1,Q b1),(14,.slice fp.ji p.Rules.length fp.jh),(15,I ((p.Rules.length:Nat):Int)),(16,I ((i.1:Nat):Int))]) (fun i=>h1) (fun i=>[z1]) (fun i=>p.Rules.drop i.1=i.2∧i.1≤p.Rules.length∧cy p=((cy.L1 p (cy.K1 p)) i.2 i.1)) (fun i=>i.2.length) (0,p.Rules) rd sw ⟨U,Nat.zero_le _,hs3⟩ ?_
   rintro ⟨i1,s1⟩ ⟨hd1,bd,hs9⟩ ag1 e
   try dsimp only at hd1 bd
   rcases s1 with _ | ⟨y1,rz1⟩
   ·have dJ:=cS hd1
    try dsimp only
    refine sr (az (v':=.bool false) U (cb dJ) (ac (ad (ba U (bM U ?_)))))
    exact hx1 i1 _ ⟨bd,hs9⟩ rd
   ·have dI:=dV hd1
    have bh:=cU hd1
    have e9:=aP hd1
    have gO:=(hp.Rules.mono Rule.aJ hle1).1.1
    have hsy:=hsm.2.1 y1 (gm hd1)
    try dsimp only
    refine sr (az (v':=.bool true) U (cb dI) (ac (ad (bj U (ai (ad (aU (sr (aa (a8 (gX jV ty107 (hp.Rules.mono Rule.aJ hle1).1 (nthZ bh) (bA bh) U U U (fun q2 cs2 A2 ln2 rr3=>?_))))))))))))
    obtain ⟨r2,rfl,ok3⟩:=rr3
    refine dT ty107 A2 U U (bT zc107 (fun b3=>bi (bJ 0 ty107 U U U U U U (ac (sr (ay rQ U (aL 0 ty3 U U U (aa (aF U (aa ?_))))))))))
    refine tq 7 [(1,Q b1),(14,.slice fp.ji p.Rules.length fp.jh),(15,I ((p.Rules.length:Nat):Int)),(16,I ((i1:Nat):Int)),(32,.bool ((y1.KindNo != ((i1:Nat):Int))||(!(bX p.Offices y1.Expr))))] (fun hk1=>?_) (fun e=>?_)
    ·refine au 25 U (fun c3=>?_) (fun c3=>?_)
     ·refine kq (kq (kq (ae U ?_)))
      exact hk1 _ ⟨U,U,U,U,(cb (eB c3)),trivial⟩
     ·refine ay jO U (aL 1 ty62 U U U (ay kn U (dh 0 ty66 U U U (aA (v:=.bool (bX p.Offices y1.Expr)) Tryz.call159 (m4 h1 p.Offices fp.dB fp.dA y1.Expr r2.Expr (hp.Offices.mono Rp.gx hle1) ok3.Expr ob) U ?_))))
      refine cR U (ae U ?_)
      exact hk1 _ ⟨U,U,U,U,(cb (eE c3)),trivial⟩
    refine ac ?_
    refine aB U (fun c4=>?_) (fun c4=>?_)
    ·have hs11:=hs9.trans (bt c4)
     refine sr (an ?_)
     exact ar [I 200] D9 U hX rd (ci hs11)
    ·have hs13:=hs9.trans (bf c4)
     refine ai (ao (ah (az (v':=I (((i1+1):Nat):Int)) U (bP ob) (aa (ac ?_)))))
     refine cE (L':=[z1]) js ?_
     exact ag1 ((i1+1),rz1) _ (Nat.lt_succ_self _) ⟨bF hd1,aP hd1,hs13⟩ rd
theorem m6 (h:HF) (l:(List Version)) (fc:Option Addr) (fb:Nat) (hl:SlC Version.rp h fc fb l) (hsm:smV l) (hk:Kinds h):Ret Tryz.prog 55 [.slice fc l.length fb] h (I (br l)):=by
 refine aw FL U Tryz.ntmps55 U fun X hM hX=>?_
 have hs0:br l=br l:=rfl
 have hsl:=hsm.len
 refine sr (an (ad (sr (aa (bE lu U (aF U (ac ?_)))))))
 refine aB U (fun c1=>?_) (fun c1=>?_)
 ·have c1p:=of_decide_eq_true c1
  have hs1:=hs0.trans (bt c1)
  refine sr (an ?_)
  exact ar [I 2] FL U hX rd (ci hs1)
 ·have c1p:=of_decide_eq_false c1
  have hs3:=hs0.trans (bf c1)
  refine ai (sr (an (ad (sr (aa (bE lu U (aa (ac ?_))))))))
  refine bq (ι:=Nat×Int) (fun i=>[]) (fun i=>h) (fun i=>[]) (fun i=>i.1≤l.length∧br l=((br.K1) i.2)) ?_ (fun hx1=>?_)
  ·rintro ⟨i1,gf⟩ ⟨bd,hs4⟩ e
   try dsimp only at bd
   try dsimp only
   refine sr (an ?_)
   exact ar [I 0] FL U hX rd (ci hs4)
  ·refine ck (ι:=Nat×Int×List Version) (fun i=>[(3,I i.2.1),(9,.slice fc l.length fb),(10,I ((l.length:Nat):Int)),(11,I ((i.1:Nat):Int))]) (fun i=>h) (fun i=>[]) (fun i=>l.drop i.1=i.2.2∧i.1≤l.length∧br l=((br.L1 (br.K1)) i.2.2 i.2.1)) (fun i=>i.2.2.length) (0,(-1),l) rd sw ⟨U,Nat.zero_le _,hs3⟩ ?_
   rintro ⟨i1,gf,s1⟩ ⟨hd1,bd,hs6⟩ ag1 e
   try dsimp only at hd1 bd
   rcases s1 with _ | ⟨y1,rz1⟩
   ·have dJ:=cS hd1
    try dsimp only
    refine sr (az (v':=.bool false) U (cb dJ) (ac (ad (ba U (bM U ?_)))))
    exact hx1 (i1,gf) _ ⟨bd,hs6⟩ trivial
   ·have dI:=dV hd1
    have bh:=cU hd1
    have e9:=aP hd1
    have gO:=hl.1.1
    have hsy:=hsm.2 y1 (gm hd1)
    try dsimp only
    refine sr (az (v':=.bool true) U (cb dI) (ac (ad (bj U (ai (ad (aU (sr (a8 (gX lu ty70 hl.1 (nthZ bh) (bA bh) U U U (fun q2 cs2 A2 ln2 rr2=>?_)))))))))))
    obtain ⟨r2,rfl,ok2⟩:=rr2
    refine dT ty70 A2 U U (bT zc70 (fun b2=>bJ 0 ty70 U U U U U U (ac (ad (sr (ay oT U (aL 0 ty3 U U U (aa (aF U (aA (v:=.bool (aO y1.No (IntKind.wrap .i64 (gf+1)) 1048576)) tK (f9 h y1.No (IntKind.wrap .i64 (gf+1)) 1048576 ) U ?_))))))))))
    refine cR U (aa ?_)
    refine tq 5 [(5,Q b2),(9,.slice fc l.length fb),(10,I ((l.length:Nat):Int)),(11,I ((i1:Nat):Int)),(26,.bool ((!(aO y1.No (IntKind.wrap .i64 (gf+1)) 1048576))||(!(aO y1.At 0 1099511627775))))] (fun hk1=>?_) (fun e=>?_)
    ·refine au 21 U (fun c2=>?_) (fun c2=>?_)
     ·refine kq (kq (ae U ?_))
      exact hk1 _ ⟨U,U,U,U,(cb (eB c2)),trivial⟩
     ·refine ay ue U (aL 0 ty3 U U U (aA (v:=.bool (aO y1.At 0 1099511627775)) tK (f9 h y1.At 0 1099511627775 ) U (cR U (ae U ?_))))
      exact hk1 _ ⟨U,U,U,U,(cb (eE c2)),trivial⟩
    refine aa ?_
    refine tq 5 [(5,Q b2),(9,.slice fc l.length fb),(10,I ((l.length:Nat):Int)),(11,I ((i1:Nat):Int)),(32,.bool (((!(aO y1.No (IntKind.wrap .i64 (gf+1)) 1048576))||(!(aO y1.At 0 1099511627775)))||(!(aO y1.Known 0 1099511627775))))] (fun hk2=>?_) (fun e=>?_)
    ·refine au 27 U (fun c3=>?_) (fun c3=>?_)
     ·refine kq (kq (ae U ?_))
      exact hk2 _ ⟨U,U,U,U,(cb (eB c3)),trivial⟩
     ·refine ay ud U (aL 0 ty3 U U U (aA (v:=.bool (aO y1.Known 0 1099511627775)) tK (f9 h y1.Known 0 1099511627775 ) U (cR U (ae U ?_))))
      exact hk2 _ ⟨U,U,U,U,(cb (eE c3)),trivial⟩
    refine aa ?_
    refine tq 5 [(5,Q b2),(9,.slice fc l.length fb),(10,I ((l.length:Nat):Int)),(11,I ((i1:Nat):Int)),(38,.bool ((((!(aO y1.No (IntKind.wrap .i64 (gf+1)) 1048576))||(!(aO y1.At 0 1099511627775)))||(!(aO y1.Known 0 1099511627775)))||((cy y1.Policy) != 0)))] (fun hk3=>?_) (fun e=>?_)
    ·refine au 33 U (fun c4=>?_) (fun c4=>?_)
     ·refine kq (kq (ae U ?_))
      exact hk3 _ ⟨U,U,U,U,(cb (eB c4)),trivial⟩
     ·refine ay qo U (dh 0 ty68 U U U (aA (v:=I (cy y1.Policy)) Tryz.call94 (oM h y1.Policy r2.Policy ok2.Policy ob hk) U ?_))
      refine aF U (ae U ?_)
      exact hk3 _ ⟨U,U,U,U,(cb (eE c4)),trivial⟩
    refine ac ?_
    refine aB U (fun c5=>?_) (fun c5=>?_)
    ·have hs8:=hs6.trans (bt c5)
     refine sr (an ?_)
     exact ar [I 200] FL U hX rd (ci hs8)
    ·have hs10:=hs6.trans (bf c5)
     refine ai (ah (ay oT U (aL 0 ty3 U U U (an (ao (ah (az (v':=I (((i1+1):Nat):Int)) U (bP ob) (aa (ac ?_)))))))))
     refine cE (L':=[]) js ?_
     exact ag1 ((i1+1),y1.No,rz1) _ (Nat.lt_succ_self _) ⟨bF hd1,aP hd1,hs10⟩ rd
theorem qI (h:HF) (l:(List Document)) (fc:Option Addr) (fb:Nat) (hl:SlC Document.rp h fc fb l):jP Tryz.prog 104 [.slice fc l.length fb] h (fun v h'=>∃ (rr0:nF),v=.agg (gE.cells (bv l) rr0).toArray∧gE.ok h' (bv l) rr0):=by
 refine aw Tryz.func104 U Tryz.ntmps104 U fun X hM hX=>?_
 have hs0:bv l=bv l:=rfl
 refine sr (bT zc178 (fun b1=>ac (sr (aa (a8 (oC (fun b2=>a8 (fO (cells:=[.slice fc l.length fb,.map (some b2)]) (places:=[(0,1),(1,1)]) Tryz.underlying178 zc178 kr kr (bT zc178 (fun b3=>?_))))))))))
 refine bJ 0 ty178 U U U U U U (ac (ad (sr (aa (bE lB U (aa (ac ?_)))))))
 let z1:Nat×Obj:=(b3,O [.slice fc l.length fb,.map (some b2)] 178)
 let z2:Nat×Obj:=(b1,O [.slice none 0 0,.map none] 178)
 refine bq (ι:=Nat×(List (Int×Int))×Obj) (fun i=>[(2,Q b1),(3,Q b3)]) (fun i=>h) (fun i=>[z1,(b2,i.2.2),z2]) (fun i=>i.1≤l.length∧bv l=((bv.K1 l) i.2.1)∧gJ (Value.int .i64) zi h i.2.2 i.2.1∧i.2.1.length≤0+i.1) ?_ (fun hx1=>?_)
 ·rintro ⟨i1,dx,jp⟩ ⟨bd,hs1,fS,jN⟩ e
  try dsimp only at bd fS jN
  try dsimp only
  refine sr (dh 0 ty178 U U U (bJ 2 ty178 U U U U U U (ac ?_)))
  refine fV 1 U hM (fun h2 hle2 hb2=>?_)
  have mc2:ou (Value.int .i64) zi h2 b2 dx:=⟨_,hb2,fS.mono zi.mono hle2⟩
  have hs2:bv l=(gE.mk l dx):=hs1
  exact dQ [.agg (List.toArray [.slice fc l.length fb,.map (some b2)])] Tryz.func104 U ⟨⟨1,_,_,_,_,U,U,.inl ⟨ty178,U⟩⟩,trivial⟩ ⟨(nF.mk fc fb b2),congrArg (fun r:gE=>(.agg (gE.cells r (nF.mk fc fb b2)).toArray:Value)) hs2.symm,(by rw [hs2];exact (show gE.ok h2 (gE.mk l dx) (nF.mk fc fb b2) from ⟨(hl.mono Document.aJ hle2),mc2⟩))⟩
 ·refine ck (ι:=Nat×(List (Int×Int))×Obj×List Document) (fun i=>[(2,Q b1),(3,Q b3),(9,.slice fc l.length fb),(10,I ((l.length:Nat):Int)),(11,I ((i.1:Nat):Int))]) (fun i=>h) (fun i=>[z1,(b2,i.2.2.1),z2]) (fun i=>l.drop i.1=i.2.2.2∧i.1≤l.length∧bv l=((bv.L1 (bv.K1 l)) i.2.2.2 i.1 i.2.1)∧gJ (Value.int .i64) zi h i.2.2.1 i.2.1∧i.2.1.length≤0+i.1) (fun i=>i.2.2.2.length) (0,[],.map #[] 0,l) rd sw ⟨U,Nat.zero_le _,hs0,(gJ.nil (enc:=(Value.int .i64)) (V:=zi) (h:=h)),lc⟩ ?_
  rintro ⟨i1,dx,jp,s1⟩ ⟨hd1,bd,hs3,fS,jN⟩ ag1 e
  try dsimp only at hd1 bd fS jN
  rcases s1 with _ | ⟨y1,rz1⟩
  ·have dJ:=cS hd1
   try dsimp only
   refine sr (az (v':=.bool false) U (cb dJ) (ac (ad (ba U (bM U ?_)))))
   exact hx1 (i1,dx,jp) _ ⟨bd,hs3,fS,lc⟩ rd
  ·have dI:=dV hd1
   have bh:=cU hd1
   have e9:=aP hd1
   have gO:=hl.1.1
   try dsimp only
   refine sr (az (v':=.bool true) U (cb dI) (ac (ad (bj U (ai (ad (aU (sr (aa (a8 (gX lB ty52 hl.1 (nthZ bh) (bA bh) U U U (fun q2 cs2 A2 ln2 rr2=>?_))))))))))))
   obtain ⟨r2,rfl,ok2⟩:=rr2
   refine dT ty52 A2 U U (bT zc52 (fun b5=>bi (bJ 0 ty52 U U U U U U (ac (ah (ay CJ U (aL 1 ty176 U U U (ay kb U (aL 0 ty3 U U U (aa (a8 (kg 2 (k:=y1.No) (x:=((i1:Nat):Int)) Tryz.underlying176 (e7 kx) U fS U U U (fun mo2 hm2=>?_)))))))))))))
   refine ac (ao (ah (az (v':=I (((i1+1):Nat):Int)) U (bP ob) (aa (ac ?_)))))
   refine cE (L':=[z1,(b2,mo2),z2]) js ?_
   exact ag1 ((i1+1),(mput dx y1.No ((i1:Nat):Int)),mo2,rz1) _ (Nat.lt_succ_self _) ⟨bF hd1,aP hd1,hs3,hm2,(by have:=gy dx y1.No ((i1:Nat):Int);first | omega | (simp only [List.length_nil,List.length_cons] at *;omega))⟩ rd
end Go.Sg
