import Derived.Test.YtngiefchigcphaaGreatDoorCards
import Derived.Test.YtngiefchigcphaaGreatDoorTie
import Derived.ProofKit
import Derived.OpenShut
import Derived.Deep.DeepHandedRow
import Derived.LaidHandle
import Derived.Carry
import Derived.Test.YtngiefchigcphaaGreatDoorW1
import Derived.Test.YtngiefchigcphaaGreatDoorW2
import Derived.Test.YtngiefchigcphaaGreatDoorW3
import Derived.Test.YtngiefchigcphaaGreatDoorW4
import Derived.Test.YtngiefchigcphaaGreatDoorW5
import Derived.Test.YtngiefchigcphaaGreatDoorW6
import Derived.Test.YtngiefchigcphaaGreatDoorW7
import Derived.Test.YtngiefchigcphaaGreatDoorW8
import Derived.Test.YtngiefchigcphaaGreatDoorW9
import Derived.Test.YtngiefchigcphaaGreatDoorW10
import Derived.Test.YtngiefchigcphaaGreatDoorW11
import Derived.Test.YtngiefchigcphaaGreatDoorW12
import Derived.Test.YtngiefchigcphaaGreatDoorW13
import Derived.Test.YtngiefchigcphaaGreatDoorW14
/- A part of the proof of the law AsofMore: where what it reads holds at most 1048576 values and letters, the call returns true and its arguments read as they did. Conditions: that bound, and that the listed table starts as the program lays it. -/
set_option linter.unusedVariables false
set_option linter.unusedSimpArgs false
namespace Go.Sg
open Go.Proofs
set_option maxHeartbeats 2000000
set_option maxRecDepth 100000
set_option linter.unusedVariables false
theorem law33_AsofMore_top {w:World} (h:HF) (hp:Pre h [] w) (aT:Register) (aR:ep) (doc:Int) (who:(List Int)) (em:Option Addr) (el:Nat) (person:Int) (t:Int) (known:Int) (iX:Register.ok h aT aR) (hwho:SlC Rp.int h em el who) (hsm:smR aT) (hsw:who.length≤1500000) (hk:Kinds h):Calls Tryz.prog 7 [.agg (Register.cells aT aR).toArray,I doc,.slice em who.length el,Y person,I t,I known].toArray w fun e w'=>e=.returned (.bool (aM aT doc who person t known))∧RowKit.Below w.heap.size w w':=by
 refine C0 hp wE U Tryz.ntmps7 U fun X hM hX=>?_
 have hs0:aM aT doc who person t known=aM aT doc who person t known:=rfl
 have hvl:=hsm.vers.len
 have hap:=hsm.2.1
 have hin:=hsm.2.2.2.1
 refine sr (dC (fun b1=>an (ad (sr (aA (v:=.bool mO) Tryz.call8 (yY h  hk) U (cR U (ac ?_)))))))
 refine aB U (fun c1=>?_) (fun c1=>?_)
 ·have hs1:=hs0.trans (bt c1)
  refine sr (an ?_)
  exact nK [.bool false] wE U hX rd (cs hs1)
 ·have hs3:=hs0.trans (bf c1)
  refine ai (ad (sr (dh 0 ty30 U U U (aa (aa (aa (aa (a8 (cf (cells:=[I t,I known]) eG ty3 zc3 U U kr (fun b2=>cn 0 U hM (fun h1 hle1 hb1=>?_)))))))))))
  have sl1:SlC Rp.int h1 (some ⟨b2,0,none⟩) 2 ([t,known]):=bW.slB0 (T:=3) (fz:=(0,0)) ((show bW Rp.int h [I t,I known] ([t,known]) from ⟨[I t],[I known],rfl,rfl,rfl,⟨[I known],[],rfl,rfl,rfl,rfl⟩⟩).mono Rp.cm hle1) hb1
  refine aA (v:=.bool (fB aT doc who ([t,known]))) Tryz.call17 (xD h1 aT aR doc who em el ([t,known]) (some ⟨b2,0,none⟩) 2 (iX.mono hle1) (hwho.mono Rp.cm hle1) sl1 ob) U ?_
  refine cR U (ac ?_)
  refine aB U (fun c2=>?_) (fun c2=>?_)
  ·have hs4:=hs3.trans (bt c2)
   refine sr (an ?_)
   exact nK [.bool true] wE U hX rd (cs hs4)
  ·have hs6:=hs3.trans (bf c2)
   refine ai (sr (dh 0 ty30 U U U (aa (aa (aa (a8 (dp zn (j6 h1 aT aR doc who em el known (iX.mono hle1) (hwho.mono Rp.cm hle1) (by first | assumption | exact wO hsm ob ob ob ob) (by first | omega | (rw [Az];omega)) (hk.mono hle1)) U (fun v1 h2 hle2 hp1=>?_))))))))
   obtain ⟨rb1,rc1,rfl,sl2⟩:=hp1
   refine aa (bR U U (bR U U (bi (an (sr (dh 0 ty30 U U U (bT zc30 (fun b3=>bJ 0 ty30 U U U U U U (ac (sr (ay nE U (du 0 ty22 U U U U U U ?_))))))))))))
   refine ay mV U (du 0 ty24 U U U U U U (ay mA U (du 0 ty26 U U U U U U (ac (ad (sr (ay nE U (aL 1 ty22 U U U (bE lY U (aa (ac ?_)))))))))))
   let z5:Nat×Obj:=(b1,O (Register.cells aT aR) 30)
   refine bq (ι:=Nat×(List Appoint)×Option Addr×Nat×LH) (fun i=>[(1,I doc),(2,.slice em who.length el),(3,Y person),(4,I t),(5,I known),(6,Q b1),(13,.slice rb1 (((aW aT doc who known).1).length) rc1),(14,I ((aW aT doc who known).2)),(15,Q b3)]) (fun i=>h2) (fun i=>[(b3,O [.slice i.2.2.1 i.2.1.length i.2.2.2.1,.slice aR.fm aT.Deputies.length aR.fj,.slice none 0 0,.slice aR.fJ aT.Budgets.length aR.fI,.slice none 0 0,.slice aR.iB aT.Docs.length aR.iA,.slice aR.eY aT.Approvals.length aR.eX] 30),z5]++(i.2.2.2.2)) (fun i=>i.1≤aT.Appoints.length∧aM aT doc who person t known=((aM.K1 aT doc who person t known) i.2.1)∧ei Appoint.rp 59 h2 i.2.1 i.2.2.1 i.2.2.2.1 i.2.2.2.2∧i.2.1.length≤0+i.1) ?_ (fun hx1=>?_)
   ·rintro ⟨i1,aH,eP,eO,eW⟩ ⟨bd,hs7,gH,yc⟩ e
    try dsimp only at bd gH yc
    try dsimp only
    refine ad (sr (ay mV U (aL 1 ty24 U U U (bE mJ U (aa (ac ?_))))))
    refine bq (ι:=Nat×(List Interest)×Option Addr×Nat×LH) (fun i=>[(1,I doc),(2,.slice em who.length el),(3,Y person),(4,I t),(5,I known),(6,Q b1),(13,.slice rb1 (((aW aT doc who known).1).length) rc1),(14,I ((aW aT doc who known).2)),(15,Q b3)]) (fun i=>h2) (fun i=>[(b3,O [.slice eP aH.length eO,.slice aR.fm aT.Deputies.length aR.fj,.slice i.2.2.1 i.2.1.length i.2.2.2.1,.slice aR.fJ aT.Budgets.length aR.fI,.slice none 0 0,.slice aR.iB aT.Docs.length aR.iA,.slice aR.eY aT.Approvals.length aR.eX] 30),z5]++(eW++(i.2.2.2.2))) (fun i=>i.1≤aT.Interests.length∧aM aT doc who person t known=((aM.K2 aT doc who person t known aH) i.2.1)∧ei Interest.rp 61 h2 i.2.1 i.2.2.1 i.2.2.2.1 i.2.2.2.2∧i.2.1.length≤0+i.1) ?_ (fun hx2=>?_)
    ·rintro ⟨i2,gC,lf,ld,jZ⟩ ⟨j4,hs8,n8,xT⟩ e
     try dsimp only at j4 n8 xT
     try dsimp only
     refine ad (sr (ay mA U (aL 1 ty26 U U U (bE lu U (aa (ac ?_))))))
     refine bq (ι:=Nat×(List Version)×Option Addr×Nat×LH) (fun i=>[(1,I doc),(2,.slice em who.length el),(3,Y person),(4,I t),(5,I known),(6,Q b1),(13,.slice rb1 (((aW aT doc who known).1).length) rc1),(14,I ((aW aT doc who known).2)),(15,Q b3)]) (fun i=>h2) (fun i=>[(b3,O [.slice eP aH.length eO,.slice aR.fm aT.Deputies.length aR.fj,.slice lf gC.length ld,.slice aR.fJ aT.Budgets.length aR.fI,.slice i.2.2.1 i.2.1.length i.2.2.2.1,.slice aR.iB aT.Docs.length aR.iA,.slice aR.eY aT.Approvals.length aR.eX] 30),z5]++(eW++(jZ++(i.2.2.2.2)))) (fun i=>i.1≤aT.Versions.length∧aM aT doc who person t known=((aM.K3 aT doc who person t known aH gC) i.2.1)∧ei Version.rp 70 h2 i.2.1 i.2.2.1 i.2.2.2.1 i.2.2.2.2∧i.2.1.length≤0+i.1∧(∀ v∈i.2.1,v∈aT.Versions)) ?_ (fun hx3=>?_)
     ·rintro ⟨i3,iQ,n2,n0,m7⟩ ⟨oz,hs9,nZ,xP,u3_0⟩ e
      try dsimp only at oz nZ xP u3_0
      try dsimp only
      refine sr (ay wB U (du 0 ty23 U U U U U U (ay wA U (du 0 ty25 U U U U U U (ay wz U (du 0 ty28 U U U U U U (ac (sr (dh 0 ty30 U U U (aa (aa ?_)))))))))))
      let z1:Nat×Obj:=(b3,O [.slice eP aH.length eO,.slice none 0 0,.slice lf gC.length ld,.slice none 0 0,.slice n2 iQ.length n0,.slice aR.iB aT.Docs.length aR.iA,.slice none 0 0] 30)
      refine aa (lP Appoint.aJ ([z1,z5]) eW (jZ++(m7)) ap hM gH (fun h7 hle7 sl7=>?_))
      refine lP Interest.aJ ([z1,z5]) jZ (m7) ap hM (n8.mono Interest.aJ hle7) (fun h8 hle8 sl8=>?_)
      refine lP Version.aJ ([z1,z5]) m7 ([]) ap hM (nZ.mono Version.aJ (hle7.t hle8)) (fun h9 hle9 sl9=>?_)
      refine a8 (dp zn (j6 h9 (Register.mk aH ([]) gC ([]) iQ aT.Docs ([])) (ep.mk eP eO none 0 lf ld none 0 n2 n0 aR.iB aR.iA none 0) doc who em el known (show Register.ok h9 (Register.mk aH ([]) gC ([]) iQ aT.Docs ([])) (ep.mk eP eO none 0 lf ld none 0 n2 n0 aR.iB aR.iA none 0) from ⟨(sl7.mono Appoint.aJ (hle8.t hle9)),SlC.nil,(sl8.mono Interest.aJ hle9),SlC.nil,sl9,(iX.Docs.mono Document.aJ ((((hle1.t hle2).t hle7).t hle8).t hle9)),SlC.nil⟩) (hwho.mono Rp.cm ((((hle1.t hle2).t hle7).t hle8).t hle9)) (by first | assumption | exact wO hsm ob ob ob ob) (by first | omega | (rw [Az];omega)) (hk.mono ((((hle1.t hle2).t hle7).t hle8).t hle9))) U (fun v3 h10 hle10 hp3=>?_))
      obtain ⟨rb3,rc3,rfl,sl10⟩:=hp3
      refine aa (bR U U (bR U U (bi (an (ad (sr (aa (aF U (aa ?_)))))))))
      refine tq 3 [(1,I doc),(2,.slice em who.length el),(3,Y person),(4,I t),(5,I known),(6,Q b1),(13,.slice rb1 (((aW aT doc who known).1).length) rc1),(22,.slice rb3 (((aW (Register.mk aH ([]) gC ([]) iQ aT.Docs ([])) doc who known).1).length) rc3),(123,.bool (((aW aT doc who known).2 != 0)||((aW (Register.mk aH ([]) gC ([]) iQ aT.Docs ([])) doc who known).2 != 0)))] (fun hk1=>?_) (fun e=>?_)
      ·refine au 120 U (fun c18=>?_) (fun c18=>?_)
       ·refine kq (ae U ?_)
        exact hk1 _ ⟨U,U,U,U,U,U,U,U,(cb (eB c18)),trivial⟩
       ·refine aa (aF U (ae U ?_))
        exact hk1 _ ⟨U,U,U,U,U,U,U,U,(cb (eE c18)),trivial⟩
      refine aa ?_
      refine tq 5 [(1,I doc),(2,.slice em who.length el),(3,Y person),(4,I t),(5,I known),(6,Q b1),(13,.slice rb1 (((aW aT doc who known).1).length) rc1),(129,.bool ((((aW aT doc who known).2 != 0)||((aW (Register.mk aH ([]) gC ([]) iQ aT.Docs ([])) doc who known).2 != 0))||(!(dD ((aW aT doc who known).1) ((aW (Register.mk aH ([]) gC ([]) iQ aT.Docs ([])) doc who known).1)))))] (fun hk2=>?_) (fun e=>?_)
      ·refine au 124 U (fun c19=>?_) (fun c19=>?_)
       ·refine kq (kq (ae U ?_))
        exact hk2 _ ⟨U,U,U,U,U,U,U,(cb (eB c19)),trivial⟩
       ·refine aa (aa (aA (v:=.bool (dD ((aW aT doc who known).1) ((aW (Register.mk aH ([]) gC ([]) iQ aT.Docs ([])) doc who known).1))) Tryz.call12 (nO h10 ((aW aT doc who known).1) rb1 rc1 ((aW (Register.mk aH ([]) gC ([]) iQ aT.Docs ([])) doc who known).1) rb3 rc3 (sl2.mono Span.aJ (((hle7.t hle8).t hle9).t hle10)) sl10) U ?_))
        refine cR U (ae U ?_)
        exact hk2 _ ⟨U,U,U,U,U,U,U,(cb (eE c19)),trivial⟩
      refine ac ?_
      refine aB U (fun c20=>?_) (fun c20=>?_)
      ·have hs10:=hs9.trans (bt c20)
       refine sr (an ?_)
       exact nK [.bool false] wE U hX rd (cs hs10)
      ·have hs12:=hs9.trans (bf c20)
       refine ai (sr (aa (ID IY kx U (I4 U U (by decide) (an (ad (sr (aa (bE eG U (aa (ac ?_)))))))))))
       refine bq (ι:=Nat) (fun i=>[(1,I doc),(2,.slice em who.length el),(4,I t),(5,I known),(6,Q b1),(13,.slice rb1 (((aW aT doc who known).1).length) rc1),(24,I ((IntKind.wrap .i64 person).tmod 64))]) (fun i=>h10) (fun i=>[z1,z5]) (fun i=>i≤who.length∧aM aT doc who person t known=((aM.K4 aT doc who person t known))) ?_ (fun hx4=>?_)
       ·rintro i4 ⟨Ff,hs13⟩ e
        try dsimp only at Ff
        try dsimp only
        refine ad ?_
        refine gr ([z1,z5]) mixed kr jn (fun fd _=>?_)
        refine tf 0 U U (fun _ _ hj=>kZ ty30 U (hj.nth (i:=1) U) U) (tm 1 U (tm 2 U ?_))
        refine tm 3 U (tm 5 U (tn 4 U (dp Tryz.call21 (AH h10 who em el ((IntKind.wrap .i64 person).tmod 64) (hwho.mono Rp.cm (((((hle1.t hle2).t hle7).t hle8).t hle9).t hle10)) ob) U (fun v6 h13 hle13 hp6=>?_))))
        obtain ⟨rb6,rc6,rfl,sl13⟩:=hp6
        refine ⟨jl hle13,tu hle13 ?_⟩
        refine tn 6 U (dp zn (j6 h13 aT aR doc (dr who ((IntKind.wrap .i64 person).tmod 64)) rb6 rc6 known (iX.mono ((((((hle1.t hle2).t hle7).t hle8).t hle9).t hle10).t hle13)) sl13 (by first | assumption | exact wO hsm ob ob ob ob) (by first | omega | (rw [Az];omega)) (hk.mono ((((((hle1.t hle2).t hle7).t hle8).t hle9).t hle10).t hle13))) U (fun v7 h14 hle14 hp7=>?_))
        obtain ⟨rb7,rc7,rfl,sl14⟩:=hp7
        refine ⟨jl hle14,tu hle14 ?_⟩
        refine tm 7 U (tf 8 U U (fun _ _ _=>rW U U) (tf 9 U U (fun _ _ _=>rW U U) ?_))
        refine tf 10 U U (fun _ _ _=>gG) (tf 11 U U (fun _ _ _=>gG) (cd kr ?_))
        refine ad (sr (aa (aF U (ac ?_))))
        refine aB U (fun c24=>?_) (fun c24=>?_)
        ·have hs14:=hs13.trans (bt c24)
         refine sr (an ?_)
         exact nK [.bool false] wE U hX rd (cs hs14)
        ·have hs16:=hs13.trans (bf c24)
         refine ai (ad (sr (aa (bE mX U (aa (ac ?_))))))
         refine bq (ι:=Nat) (fun i=>[(4,I t),(13,.slice rb1 (((aW aT doc who known).1).length) rc1),(27,.slice rb7 (((aW aT doc (dr who ((IntKind.wrap .i64 person).tmod 64)) known).1).length) rc7)]) (fun i=>h14) (fun i=>[z1,z5]) (fun i=>i≤((aW aT doc who known).1).length∧aM aT doc who person t known=((aM.K5 aT doc who person t known))) ?_ (fun hx5=>?_)
         ·rintro i5 ⟨za,hs17⟩ e
          try dsimp only at za
          try dsimp only
          refine sr (aa (aa (aA (v:=.bool (fo ((aW aT doc who known).1) t)) Da (oR h14 ((aW aT doc who known).1) rb1 rc1 t (sl2.mono Span.aJ (((((hle7.t hle8).t hle9).t hle10).t hle13).t hle14))) U ?_)))
          refine cR U (aa ?_)
          refine tq 4 [(183,.bool ((!(fo ((aW aT doc who known).1) t))||(fo ((aW aT doc (dr who ((IntKind.wrap .i64 person).tmod 64)) known).1) t)))] (fun hk3=>?_) (fun e=>?_)
          ·refine au 179 U (fun c25=>?_) (fun c25=>?_)
           ·refine kq (bY (ae U ?_))
            exact hk3 _ ⟨(cb (eB c25)),trivial⟩
           ·refine aa (aa (aA (v:=.bool (fo ((aW aT doc (dr who ((IntKind.wrap .i64 person).tmod 64)) known).1) t)) Da (oR h14 ((aW aT doc (dr who ((IntKind.wrap .i64 person).tmod 64)) known).1) rb7 rc7 t sl14) U ?_))
            refine ae U ?_
            exact hk3 _ ⟨(cb (eE c25)),trivial⟩
          refine an ?_
          exact nK [.bool ((!(fo ((aW aT doc who known).1) t))||(fo ((aW aT doc (dr who ((IntKind.wrap .i64 person).tmod 64)) known).1) t))] wE U hX rd (cs hs17)
         ·refine ck (ι:=Nat×List Span) (fun i=>[(4,I t),(13,.slice rb1 (((aW aT doc who known).1).length) rc1),(27,.slice rb7 (((aW aT doc (dr who ((IntKind.wrap .i64 person).tmod 64)) known).1).length) rc7),(155,.slice rb1 (((aW aT doc who known).1).length) rc1),(156,I ((((aW aT doc who known).1).length:Nat):Int)),(157,I ((i.1:Nat):Int))]) (fun i=>h14) (fun i=>[z1,z5]) (fun i=>((aW aT doc who known).1).drop i.1=i.2∧i.1≤((aW aT doc who known).1).length∧aM aT doc who person t known=((aM.L5 aT doc who person known (aM.K5 aT doc who person t known)) i.2 )) (fun i=>i.2.length) (0,(aW aT doc who known).1) rd sw ⟨U,Nat.zero_le _,hs16⟩ ?_
          rintro ⟨i5,s5⟩ ⟨hd5,za,hs19⟩ ag1 e
          try dsimp only at hd5 za
          rcases s5 with _ | ⟨y5,rz5⟩
          ·have GI:=cS hd5
           try dsimp only
           refine sr (az (v':=.bool false) U (cb GI) (ac (ad (ba U (bM U ?_)))))
           exact hx5 i5 _ ⟨za,hs19⟩ rd
          ·have GH:=dV hd5
           have vG:=cU hd5
           have Ia:=aP hd5
           have I6:=(sl2.mono Span.aJ (((((hle7.t hle8).t hle9).t hle10).t hle13).t hle14)).1.1
           try dsimp only
           refine sr (az (v':=.bool true) U (cb GH) (ac (ad (bj U (ai (ad (aU (sr (a8 (fZ (enc:=Span.cells) (fun _ _ _ e=>e) mX ty46 (sl2.mono Span.aJ (((((hle7.t hle8).t hle9).t hle10).t hle13).t hle14)).1 (nthZ vG) (bA vG) U U U (fun q13 A13=>?_)))))))))))
           refine dT ty46 A13 U U (bT zc46 (fun b24=>bJ 0 ty46 U U U U U U (ac (sr (aa (ay wy U (aL 0 ty3 U U U (aA (v:=.bool (fo ((aW aT doc (dr who ((IntKind.wrap .i64 person).tmod 64)) known).1) y5.From)) Da (oR h14 ((aW aT doc (dr who ((IntKind.wrap .i64 person).tmod 64)) known).1) rb7 rc7 y5.From sl14) U ?_))))))))
           refine cR U (aa ?_)
           refine tq 7 [(4,I t),(13,.slice rb1 (((aW aT doc who known).1).length) rc1),(27,.slice rb7 (((aW aT doc (dr who ((IntKind.wrap .i64 person).tmod 64)) known).1).length) rc7),(155,.slice rb1 (((aW aT doc who known).1).length) rc1),(156,I ((((aW aT doc who known).1).length:Nat):Int)),(157,I ((i5:Nat):Int)),(173,.bool ((!(fo ((aW aT doc (dr who ((IntKind.wrap .i64 person).tmod 64)) known).1) y5.From))||(!(fo ((aW aT doc (dr who ((IntKind.wrap .i64 person).tmod 64)) known).1) (IntKind.wrap .i64 (y5.Until - 1))))))] (fun hk4=>?_) (fun e=>?_)
           ·refine au 166 U (fun c26=>?_) (fun c26=>?_)
            ·refine kq (kq (kq (ae U ?_)))
             exact hk4 _ ⟨U,U,U,U,U,U,(cb (eB c26)),trivial⟩
            ·refine aa (ay uk U (aL 0 ty3 U U U (aF U (aA (v:=.bool (fo ((aW aT doc (dr who ((IntKind.wrap .i64 person).tmod 64)) known).1) (IntKind.wrap .i64 (y5.Until - 1)))) Da (oR h14 ((aW aT doc (dr who ((IntKind.wrap .i64 person).tmod 64)) known).1) rb7 rc7 (IntKind.wrap .i64 (y5.Until - 1)) sl14) U ?_))))
             refine cR U (ae U ?_)
             exact hk4 _ ⟨U,U,U,U,U,U,(cb (eE c26)),trivial⟩
           refine ac ?_
           refine aB U (fun c27=>?_) (fun c27=>?_)
           ·have hs21:=hs19.trans (bt c27)
            refine sr (an ?_)
            exact nK [.bool false] wE U hX rd (cs hs21)
           ·have hs23:=hs19.trans (bf c27)
            refine ai (ao (ah (az (v':=I (((i5+1):Nat):Int)) U (bP ob) (aa (ac ?_)))))
            refine cE (L':=[z1,z5]) js ?_
            exact ag1 ((i5+1),rz5) _ (Nat.lt_succ_self _) ⟨bF hd5,aP hd5,hs23⟩ rd
       ·refine ck (ι:=Nat×List Int) (fun i=>[(1,I doc),(2,.slice em who.length el),(4,I t),(5,I known),(6,Q b1),(13,.slice rb1 (((aW aT doc who known).1).length) rc1),(24,I ((IntKind.wrap .i64 person).tmod 64)),(133,.slice em who.length el),(134,I ((who.length:Nat):Int)),(135,I ((i.1:Nat):Int))]) (fun i=>h10) (fun i=>[z1,z5]) (fun i=>who.drop i.1=i.2∧i.1≤who.length∧aM aT doc who person t known=((aM.L4 person (aM.K4 aT doc who person t known)) i.2 )) (fun i=>i.2.length) (0,who) rd sw ⟨U,Nat.zero_le _,hs12⟩ ?_
        rintro ⟨i4,s4⟩ ⟨hd4,Ff,hs24⟩ ag2 e
        try dsimp only at hd4 Ff
        rcases s4 with _ | ⟨y4,rz4⟩
        ·have Ji:=cS hd4
         try dsimp only
         refine sr (az (v':=.bool false) U (cb Ji) (ac (ad (ba U (bM U ?_)))))
         exact hx4 i4 _ ⟨Ff,hs24⟩ rd
        ·have Jg:=dV hd4
         have Ic:=cU hd4
         have Jm:=aP hd4
         have Jp:=(hwho.mono Rp.cm (((((hle1.t hle2).t hle7).t hle8).t hle9).t hle10)).1.1
         try dsimp only
         refine sr (az (v':=.bool true) U (cb Jg) (ac (ad (bj U (ai (ad (aU (sr (a8 (fZ (enc:=fun y=>[I y]) (fun _ _ _ e=>e) eG ty3 (hwho.mono Rp.cm (((((hle1.t hle2).t hle7).t hle8).t hle9).t hle10)).1 (nthZ Ic) (bA Ic) U U U (fun q14 A14=>?_)))))))))))
         refine eM ty3 A14 U (an (sr (aa (aa (aF U (ac ?_))))))
         refine aB U (fun c28=>?_) (fun c28=>?_)
         ·have hs26:=hs24.trans (bt c28)
          refine sr (an ?_)
          exact nK [.bool true] wE U hX rd (cs hs26)
         ·have hs28:=hs24.trans (bf c28)
          refine ai (ao (ah (az (v':=I (((i4+1):Nat):Int)) U (bP ob) (aa (ac ?_)))))
          exact ag2 ((i4+1),rz4) _ (Nat.lt_succ_self _) ⟨bF hd4,aP hd4,hs28⟩ rd
     ·refine ck (ι:=Nat×(List Version)×Option Addr×Nat×LH×List Version) (fun i=>[(1,I doc),(2,.slice em who.length el),(3,Y person),(4,I t),(5,I known),(6,Q b1),(13,.slice rb1 (((aW aT doc who known).1).length) rc1),(14,I ((aW aT doc who known).2)),(15,Q b3),(90,.slice aR.gq aT.Versions.length aR.gp),(91,I ((aT.Versions.length:Nat):Int)),(92,I ((i.1:Nat):Int))]) (fun i=>h2) (fun i=>[(b3,O [.slice eP aH.length eO,.slice aR.fm aT.Deputies.length aR.fj,.slice lf gC.length ld,.slice aR.fJ aT.Budgets.length aR.fI,.slice i.2.2.1 i.2.1.length i.2.2.2.1,.slice aR.iB aT.Docs.length aR.iA,.slice aR.eY aT.Approvals.length aR.eX] 30),z5]++(eW++(jZ++(i.2.2.2.2.1)))) (fun i=>aT.Versions.drop i.1=i.2.2.2.2.2∧i.1≤aT.Versions.length∧aM aT doc who person t known=((aM.L3 known (aM.K3 aT doc who person t known aH gC)) i.2.2.2.2.2 i.2.1)∧ei Version.rp 70 h2 i.2.1 i.2.2.1 i.2.2.2.1 i.2.2.2.2.1∧i.2.1.length≤0+i.1∧(∀ v∈i.2.1,v∈aT.Versions)) (fun i=>i.2.2.2.2.2.length) (0,[],none,0,[],aT.Versions) rd sw ⟨U,Nat.zero_le _,hs8,ei.nil,lo,(fun v hv=>(List.not_mem_nil hv).elim)⟩ ?_
      rintro ⟨i3,iQ,n2,n0,m7,s3⟩ ⟨hd3,oz,hs29,nZ,xP,u3_0⟩ ag3 e
      try dsimp only at hd3 oz nZ xP u3_0
      rcases s3 with _ | ⟨y3,rz3⟩
      ·have AN:=cS hd3
       try dsimp only
       refine sr (az (v':=.bool false) U (cb AN) (ac (ad (ba U (bM U ?_)))))
       exact hx3 (i3,iQ,n2,n0,m7) _ ⟨oz,hs29,nZ,lo,u3_0⟩ rd
      ·have AM:=dV hd3
       have qA:=cU hd3
       have EF:=aP hd3
       have H0:=(iX.Versions.mono Version.aJ (hle1.t hle2)).1.1
       try dsimp only
       refine sr (az (v':=.bool true) U (cb AM) (ac (ad (bj U (ai (ad (aU (sr (a8 (gX lu ty70 (iX.Versions.mono Version.aJ (hle1.t hle2)).1 (nthZ qA) (bA qA) U U U (fun q15 cs5 A15 ln5 rr5=>?_)))))))))))
       obtain ⟨r5,rfl,ok5⟩:=rr5
       let z2:Nat×Obj:=(b3,O [.slice eP aH.length eO,.slice aR.fm aT.Deputies.length aR.fj,.slice lf gC.length ld,.slice aR.fJ aT.Budgets.length aR.fI,.slice n2 iQ.length n0,.slice aR.iB aT.Docs.length aR.iA,.slice aR.eY aT.Approvals.length aR.eX] 30)
       refine dT ty70 A15 U U (bT zc70 (fun b25=>bJ 0 ty70 U U U U U U (iF (L':=[(b25,O (Version.cells y3 r5) 70),z2,z5]++(eW++(jZ++(m7)))) U ?_)))
       refine ac (sr (ay ud U (aL 0 ty3 U U U (aa (aF U (ac ?_))))))
       refine aB U (fun c29=>?_) (fun c29=>?_)
       ·have c29p:=of_decide_eq_true c29
        have hs31:=hs29.trans (bt c29)
        refine ah (ay mA U (aL 1 ty26 U U U (dh 0 ty70 U U U (a8 (cf (cells:=[I y3.No,I y3.At,I y3.Known,.string y3.Policy.Name,.slice r5.Policy.fM y3.Policy.Kinds.length r5.Policy.fL,.slice r5.Policy.dB y3.Policy.Offices.length r5.Policy.dA,.slice r5.Policy.ji y3.Policy.Rules.length r5.Policy.jh,I y3.Policy.Change.Kind,I y3.Policy.Change.N,I y3.Policy.Change.No,.string y3.Policy.Change.Name,.slice r5.Policy.Change.iE y3.Policy.Change.L.length r5.Policy.Change.iG,I y3.Policy.Mode]) lu ty70 zc70 U U kr (fun b26=>?_))))))
        let z6:Nat×Obj:=(b26,O [I y3.No,I y3.At,I y3.Known,.string y3.Policy.Name,.slice r5.Policy.fM y3.Policy.Kinds.length r5.Policy.fL,.slice r5.Policy.dB y3.Policy.Offices.length r5.Policy.dA,.slice r5.Policy.ji y3.Policy.Rules.length r5.Policy.jh,I y3.Policy.Change.Kind,I y3.Policy.Change.N,I y3.Policy.Change.No,.string y3.Policy.Change.Name,.slice r5.Policy.Change.iE y3.Policy.Change.L.length r5.Policy.Change.iG,I y3.Policy.Mode] 70)
        refine a8 (eK Version.eZ ([z6,(b25,O (Version.cells y3 r5) 70),z2,z5]++(eW++(jZ))) ([]) (fun G=>[z6,(b25,O (Version.cells y3 r5) 70),z2,z5]++(eW++(jZ++(G)))) ap (fun _=>ap) lu ty70 zc70 U bytes70 nZ U U (ff 0 U (show bW Version.rp h2 [I y3.No,I y3.At,I y3.Known,.string y3.Policy.Name,.slice r5.Policy.fM y3.Policy.Kinds.length r5.Policy.fL,.slice r5.Policy.dB y3.Policy.Offices.length r5.Policy.dA,.slice r5.Policy.ji y3.Policy.Rules.length r5.Policy.jh,I y3.Policy.Change.Kind,I y3.Policy.Change.N,I y3.Policy.Change.No,.string y3.Policy.Change.Name,.slice r5.Policy.Change.iE y3.Policy.Change.L.length r5.Policy.Change.iG,I y3.Policy.Mode] ([y3]) from ⟨[I y3.No,I y3.At,I y3.Known,.string y3.Policy.Name,.slice r5.Policy.fM y3.Policy.Kinds.length r5.Policy.fL,.slice r5.Policy.dB y3.Policy.Offices.length r5.Policy.dA,.slice r5.Policy.ji y3.Policy.Rules.length r5.Policy.jh,I y3.Policy.Change.Kind,I y3.Policy.Change.N,I y3.Policy.Change.No,.string y3.Policy.Change.Name,.slice r5.Policy.Change.iE y3.Policy.Change.L.length r5.Policy.Change.iG,I y3.Policy.Mode],[],U,U,⟨r5,U,ok5⟩,U⟩)) lo lo (fun ob10 oc10 G10 gr10=>?_))
        refine ay mA U (du 2 ty26 U U U U U U (ac (ao (ah (az (v':=I (((i3+1):Nat):Int)) U (bP ob) (aa (ac ?_)))))))
        refine cE (L':=[(b3,O [.slice eP aH.length eO,.slice aR.fm aT.Deputies.length aR.fj,.slice lf gC.length ld,.slice aR.fJ aT.Budgets.length aR.fI,.slice ob10 ((iQ++[y3]).length) oc10,.slice aR.iB aT.Docs.length aR.iA,.slice aR.eY aT.Approvals.length aR.eX] 30),z5]++(eW++(jZ++(G10)))) js ?_
        exact ag3 ((i3+1),(iQ++[y3]),ob10,oc10,G10,rz3) _ (Nat.lt_succ_self _) ⟨bF hd3,aP hd3,hs31,gr10,lo,(by first | assumption | exact fun v hv=>(List.mem_append.1 hv).elim (u3_0 v) (fun hv=>by rw [List.mem_singleton.1 hv];exact gm hd3))⟩ rd
       ·have c29p:=of_decide_eq_false c29
        have hs32:=hs29.trans (bf c29)
        refine ai (ao (ah (az (v':=I (((i3+1):Nat):Int)) U (bP ob) (aa (ac ?_)))))
        refine cE (L':=[z2,z5]++(eW++(jZ++(m7)))) js ?_
        exact ag3 ((i3+1),iQ,n2,n0,m7,rz3) _ (Nat.lt_succ_self _) ⟨bF hd3,aP hd3,hs32,nZ,lo,(by first | assumption | exact fun v hv=>(List.mem_append.1 hv).elim (u3_0 v) (fun hv=>by rw [List.mem_singleton.1 hv];exact gm hd3))⟩ rd
    ·refine ck (ι:=Nat×(List Interest)×Option Addr×Nat×LH×List Interest) (fun i=>[(1,I doc),(2,.slice em who.length el),(3,Y person),(4,I t),(5,I known),(6,Q b1),(13,.slice rb1 (((aW aT doc who known).1).length) rc1),(14,I ((aW aT doc who known).2)),(15,Q b3),(72,.slice aR.gN aT.Interests.length aR.gM),(73,I ((aT.Interests.length:Nat):Int)),(74,I ((i.1:Nat):Int))]) (fun i=>h2) (fun i=>[(b3,O [.slice eP aH.length eO,.slice aR.fm aT.Deputies.length aR.fj,.slice i.2.2.1 i.2.1.length i.2.2.2.1,.slice aR.fJ aT.Budgets.length aR.fI,.slice none 0 0,.slice aR.iB aT.Docs.length aR.iA,.slice aR.eY aT.Approvals.length aR.eX] 30),z5]++(eW++(i.2.2.2.2.1))) (fun i=>aT.Interests.drop i.1=i.2.2.2.2.2∧i.1≤aT.Interests.length∧aM aT doc who person t known=((aM.L2 known (aM.K2 aT doc who person t known aH)) i.2.2.2.2.2 i.2.1)∧ei Interest.rp 61 h2 i.2.1 i.2.2.1 i.2.2.2.1 i.2.2.2.2.1∧i.2.1.length≤0+i.1) (fun i=>i.2.2.2.2.2.length) (0,[],none,0,[],aT.Interests) rd sw ⟨U,Nat.zero_le _,hs7,ei.nil,lo⟩ ?_
     rintro ⟨i2,gC,lf,ld,jZ,s2⟩ ⟨hd2,j4,hs33,n8,xT⟩ ag4 e
     try dsimp only at hd2 j4 n8 xT
     rcases s2 with _ | ⟨y2,rz2⟩
     ·have tz:=cS hd2
      try dsimp only
      refine sr (az (v':=.bool false) U (cb tz) (ac (ad (ba U (bM U ?_)))))
      exact hx2 (i2,gC,lf,ld,jZ) _ ⟨j4,hs33,n8,lo⟩ rd
     ·have qH:=dV hd2
      have lG:=cU hd2
      have xL:=aP hd2
      have DR:=(iX.Interests.mono Interest.aJ (hle1.t hle2)).1.1
      try dsimp only
      refine sr (az (v':=.bool true) U (cb qH) (ac (ad (bj U (ai (ad (aU (sr (a8 (fZ (enc:=Interest.cells) (fun _ _ _ e=>e) mJ ty61 (iX.Interests.mono Interest.aJ (hle1.t hle2)).1 (nthZ lG) (bA lG) U U U (fun q16 A16=>?_)))))))))))
      let z3:Nat×Obj:=(b3,O [.slice eP aH.length eO,.slice aR.fm aT.Deputies.length aR.fj,.slice lf gC.length ld,.slice aR.fJ aT.Budgets.length aR.fI,.slice none 0 0,.slice aR.iB aT.Docs.length aR.iA,.slice aR.eY aT.Approvals.length aR.eX] 30)
      refine dT ty61 A16 U U (bT zc61 (fun b27=>bJ 0 ty61 U U U U U U (iF (L':=[(b27,O (Interest.cells y2) 61),z3,z5]++(eW++(jZ))) U ?_)))
      refine ac (sr (ay wq U (aL 0 ty3 U U U (aa (aF U (ac ?_))))))
      refine aB U (fun c30=>?_) (fun c30=>?_)
      ·have c30p:=of_decide_eq_true c30
       have hs35:=hs33.trans (bt c30)
       refine ah (ay mV U (aL 1 ty24 U U U (dh 0 ty61 U U U (a8 (cf (cells:=[I y2.No,I y2.At,I y2.Known,I y2.Person,I y2.Party,.bool y2.Of,.bool y2.Gone]) mJ ty61 zc61 U U kr (fun b28=>?_))))))
       let z8:Nat×Obj:=(b28,O [I y2.No,I y2.At,I y2.Known,I y2.Person,I y2.Party,.bool y2.Of,.bool y2.Gone] 61)
       refine a8 (eK Interest.eZ ([z8,(b27,O (Interest.cells y2) 61),z3,z5]++(eW)) ([]) (fun G=>[z8,(b27,O (Interest.cells y2) 61),z3,z5]++(eW++(G))) ap (fun _=>ap) mJ ty61 zc61 U bytes61 n8 U U (ff 0 U (show bW Interest.rp h2 [I y2.No,I y2.At,I y2.Known,I y2.Person,I y2.Party,.bool y2.Of,.bool y2.Gone] ([y2]) from ⟨[I y2.No,I y2.At,I y2.Known,I y2.Person,I y2.Party,.bool y2.Of,.bool y2.Gone],[],U,U,U,U⟩)) lo lo (fun ob11 oc11 G11 gr11=>?_))
       refine ay mV U (du 2 ty24 U U U U U U (ac (ao (ah (az (v':=I (((i2+1):Nat):Int)) U (bP ob) (aa (ac ?_)))))))
       refine cE (L':=[(b3,O [.slice eP aH.length eO,.slice aR.fm aT.Deputies.length aR.fj,.slice ob11 ((gC++[y2]).length) oc11,.slice aR.fJ aT.Budgets.length aR.fI,.slice none 0 0,.slice aR.iB aT.Docs.length aR.iA,.slice aR.eY aT.Approvals.length aR.eX] 30),z5]++(eW++(G11))) js ?_
       exact ag4 ((i2+1),(gC++[y2]),ob11,oc11,G11,rz2) _ (Nat.lt_succ_self _) ⟨bF hd2,aP hd2,hs35,gr11,lo⟩ rd
      ·have c30p:=of_decide_eq_false c30
       have hs36:=hs33.trans (bf c30)
       refine ai (ao (ah (az (v':=I (((i2+1):Nat):Int)) U (bP ob) (aa (ac ?_)))))
       refine cE (L':=[z3,z5]++(eW++(jZ))) js ?_
       exact ag4 ((i2+1),gC,lf,ld,jZ,rz2) _ (Nat.lt_succ_self _) ⟨bF hd2,aP hd2,hs36,n8,lo⟩ rd
   ·refine ck (ι:=Nat×(List Appoint)×Option Addr×Nat×LH×List Appoint) (fun i=>[(1,I doc),(2,.slice em who.length el),(3,Y person),(4,I t),(5,I known),(6,Q b1),(13,.slice rb1 (((aW aT doc who known).1).length) rc1),(14,I ((aW aT doc who known).2)),(15,Q b3),(54,.slice aR.gQ aT.Appoints.length aR.gP),(55,I ((aT.Appoints.length:Nat):Int)),(56,I ((i.1:Nat):Int))]) (fun i=>h2) (fun i=>[(b3,O [.slice i.2.2.1 i.2.1.length i.2.2.2.1,.slice aR.fm aT.Deputies.length aR.fj,.slice none 0 0,.slice aR.fJ aT.Budgets.length aR.fI,.slice none 0 0,.slice aR.iB aT.Docs.length aR.iA,.slice aR.eY aT.Approvals.length aR.eX] 30),z5]++(i.2.2.2.2.1)) (fun i=>aT.Appoints.drop i.1=i.2.2.2.2.2∧i.1≤aT.Appoints.length∧aM aT doc who person t known=((aM.L1 known (aM.K1 aT doc who person t known)) i.2.2.2.2.2 i.2.1)∧ei Appoint.rp 59 h2 i.2.1 i.2.2.1 i.2.2.2.1 i.2.2.2.2.1∧i.2.1.length≤0+i.1) (fun i=>i.2.2.2.2.2.length) (0,[],none,0,[],aT.Appoints) rd sw ⟨U,Nat.zero_le _,hs6,ei.nil,lo⟩ ?_
    rintro ⟨i1,aH,eP,eO,eW,s1⟩ ⟨hd1,bd,hs37,gH,yc⟩ ag5 e
    try dsimp only at hd1 bd gH yc
    rcases s1 with _ | ⟨y1,rz1⟩
    ·have dJ:=cS hd1
     try dsimp only
     refine sr (az (v':=.bool false) U (cb dJ) (ac (ad (ba U (bM U ?_)))))
     exact hx1 (i1,aH,eP,eO,eW) _ ⟨bd,hs37,gH,lo⟩ rd
    ·have dI:=dV hd1
     have bh:=cU hd1
     have e9:=aP hd1
     have gO:=(iX.Appoints.mono Appoint.aJ (hle1.t hle2)).1.1
     try dsimp only
     refine sr (az (v':=.bool true) U (cb dI) (ac (ad (bj U (ai (ad (aU (sr (a8 (fZ (enc:=Appoint.cells) (fun _ _ _ e=>e) lY ty59 (iX.Appoints.mono Appoint.aJ (hle1.t hle2)).1 (nthZ bh) (bA bh) U U U (fun q17 A17=>?_)))))))))))
     let z4:Nat×Obj:=(b3,O [.slice eP aH.length eO,.slice aR.fm aT.Deputies.length aR.fj,.slice none 0 0,.slice aR.fJ aT.Budgets.length aR.fI,.slice none 0 0,.slice aR.iB aT.Docs.length aR.iA,.slice aR.eY aT.Approvals.length aR.eX] 30)
     refine dT ty59 A17 U U (bT zc59 (fun b29=>bJ 0 ty59 U U U U U U (iF (L':=[(b29,O (Appoint.cells y1) 59),z4,z5]++(eW)) U ?_)))
     refine ac (sr (ay uh U (aL 0 ty3 U U U (aa (aF U (ac ?_))))))
     refine aB U (fun c31=>?_) (fun c31=>?_)
     ·have c31p:=of_decide_eq_true c31
      have hs39:=hs37.trans (bt c31)
      refine ah (ay nE U (aL 1 ty22 U U U (dh 0 ty59 U U U (a8 (cf (cells:=[I y1.No,I y1.At,I y1.Known,I y1.Office,I y1.Person,I y1.Weight,.bool y1.Gone]) lY ty59 zc59 U U kr (fun b30=>?_))))))
      let z7:Nat×Obj:=(b30,O [I y1.No,I y1.At,I y1.Known,I y1.Office,I y1.Person,I y1.Weight,.bool y1.Gone] 59)
      refine a8 (eK Appoint.eZ ([z7,(b29,O (Appoint.cells y1) 59),z4,z5]) ([]) (fun G=>[z7,(b29,O (Appoint.cells y1) 59),z4,z5]++(G)) ap (fun _=>ap) lY ty59 zc59 U bytes59 gH U U (ff 0 U (show bW Appoint.rp h2 [I y1.No,I y1.At,I y1.Known,I y1.Office,I y1.Person,I y1.Weight,.bool y1.Gone] ([y1]) from ⟨[I y1.No,I y1.At,I y1.Known,I y1.Office,I y1.Person,I y1.Weight,.bool y1.Gone],[],U,U,U,U⟩)) lo lo (fun ob12 oc12 G12 gr12=>?_))
      refine ay nE U (du 2 ty22 U U U U U U (ac (ao (ah (az (v':=I (((i1+1):Nat):Int)) U (bP ob) (aa (ac ?_)))))))
      refine cE (L':=[(b3,O [.slice ob12 ((aH++[y1]).length) oc12,.slice aR.fm aT.Deputies.length aR.fj,.slice none 0 0,.slice aR.fJ aT.Budgets.length aR.fI,.slice none 0 0,.slice aR.iB aT.Docs.length aR.iA,.slice aR.eY aT.Approvals.length aR.eX] 30),z5]++(G12)) js ?_
      exact ag5 ((i1+1),(aH++[y1]),ob12,oc12,G12,rz1) _ (Nat.lt_succ_self _) ⟨bF hd1,aP hd1,hs39,gr12,lo⟩ rd
     ·have c31p:=of_decide_eq_false c31
      have hs40:=hs37.trans (bf c31)
      refine ai (ao (ah (az (v':=I (((i1+1):Nat):Int)) U (bP ob) (aa (ac ?_)))))
      refine cE (L':=[z4,z5]++(eW)) js ?_
      exact ag5 ((i1+1),aH,eP,eO,eW,rz1) _ (Nat.lt_succ_self _) ⟨bF hd1,aP hd1,hs40,gH,lo⟩ rd
end Go.Sg
namespace Go.Proofs.YtngiefchigcphaaGreatDoor.asofMore
open Go.ChangeShapes Go.WideShapes Go.ChangeAt Go.RowKit
set_option maxRecDepth 100000
set_option linter.unusedVariables false
theorem own:ownKnob Tryz.prog.godebug=none:=by kernel_rfl
theorem laidOut:laidOutB Tryz.prog=true:=by kernel_rfl
theorem contract (H:Type) (enc:TypeId×Value→H) (W:World) (base:Nat) (args:Array Value) (ds gs:List (DataW H)) (before:List MemPlace)
    (hval:∀ (j:Nat) t v,Tryz.f7.params[j]? = some t→args[j]? = some v→Value.okWide Tryz.prog W .any base t v)
    (hW:DataW.Whole enc Tryz.prog Tryz.f7.params.toList Rows.asofMoreSpec.vars false W args.toList ds gs before) (hcond:Rows.uptoSmall H (ds++gs)=true) (hL:laidMetH Tryz.prog Rows.asofMoreUptoRow.laid W):
    Calls Tryz.prog 7 args W fun e W'=>∃ v,e=.returned v∧Rows.asofMoreSpec.post enc Tryz.prog Tryz.f7 false true false false W args v W':=by
  have hW':=hW
  obtain ⟨p,q,hA0,hV,rfl,hfz,hnd⟩:=hW
  have hA:DataW.TrodAll enc Tryz.prog W 0 (fun _=>true) true Tryz.f7.params.toList args.toList ds p:=hA0
  rw [Tryz.params7] at hA hval
  obtain ⟨v0,vs0,d0,ds0,p0,z0,hargs,rfl,rfl,h0,t0⟩:=trodAll_cons hA
  obtain ⟨v1,vs1,d1,ds1,p1,z1,rfl,rfl,rfl,h1,t1⟩:=trodAll_cons t0
  obtain ⟨v2,vs2,d2,ds2,p2,z2,rfl,rfl,rfl,h2,t2⟩:=trodAll_cons t1
  obtain ⟨v3,vs3,d3,ds3,p3,z3,rfl,rfl,rfl,h3,t3⟩:=trodAll_cons t2
  obtain ⟨v4,vs4,d4,ds4,p4,z4,rfl,rfl,rfl,h4,t4⟩:=trodAll_cons t3
  obtain ⟨v5,vs5,d5,ds5,p5,z5,rfl,rfl,rfl,h5,t5⟩:=trodAll_cons t4
  obtain ⟨rfl,rfl,rfl⟩:=trodAll_nil t5
  obtain rfl:args=#[v0,v1,v2,v3,v4,v5]:=by cases args;simp_all
  obtain ⟨rfl,rfl⟩:=trodVars_none hV
  clear hA0 hA
  have h0k:=h0
  have h1k:=h1
  have h2k:=h2
  have h3k:=h3
  have h4k:=h4
  have h5k:=h5
  simp only [List.append_nil] at hW' hcond
  have hB:Rows.uptoBulkAll [d0,d1,d2,d3,d4,d5]≤1048576:=of_decide_eq_true hcond
  obtain ⟨a0,rfl,_⟩:=okWide_struct Tryz.underlying30 (hval 0 30 v0 rfl rfl)
  obtain ⟨f0,g0⟩:=h0
  obtain ⟨x0,⟨r0,e0,o0⟩,q0⟩:=Sg.opn_Register f0 _ _ _ g0
  obtain rfl:a0=(Sg.Register.cells x0 r0).toArray:=by
    apply Array.toList_inj.1;exact e0
  obtain ⟨n1,rfl⟩:=okWide_int Tryz.underlying3 (hval 1 3 v1 rfl rfl)
  obtain ⟨b2,l2,c2,rfl⟩:=okWide_slice Tryz.underlying31 (hval 2 31 v2 rfl rfl)
  obtain ⟨f2,g2⟩:=h2
  obtain ⟨b2',c2',x2,e2,o2,q2⟩:=Sg.opn_slice (R:=Sg.Rp.int) (sz:=fun _=>1) Tryz.underlying31 (by kernel_rfl) (by decide) (fun k _=>Sg.opn_int (by kernel_rfl) k) g2
  cases e2
  obtain ⟨n3,rfl,u3⟩:=Sg.okWide_intB Tryz.underlying5 (hval 3 5 v3 rfl rfl)
  obtain ⟨n4,rfl⟩:=okWide_int Tryz.underlying3 (hval 4 3 v4 rfl rfl)
  obtain ⟨n5,rfl⟩:=okWide_int Tryz.underlying3 (hval 5 3 v5 rfl rfl)
  simp only [Rows.uptoBulkAll] at hB
  have y2:=Sg.szL_len (f:=fun _:Int=>1) (fun _=>Nat.le_refl _) x2
  have z0b:=Sg.bulk_one d0
  have z1b:=Sg.bulk_one d1
  have z2b:=Sg.bulk_one d2
  have z3b:=Sg.bulk_one d3
  have z4b:=Sg.bulk_one d4
  have z5b:=Sg.bulk_one d5
  have walk:=Sg.law33_AsofMore_top (Sg.hOf W) (Sg.pre_hOf W) x0 r0 n1 x2 b2 c2 n3 n4 n5 o0 o2 (Sg.smR_of (by omega)) (by omega) (Sg.kinds_of hL)
  rw [Sg.more_true (Sg.smR_of (by omega)) _ _ _ (Sg.u8_has u3)] at walk
  refine walk.mono fun e W' ⟨he,hb⟩=>?_
  subst he
  exact ⟨_,rfl,Sg.post_below (pa:=p0++(p1++(p2++(p3++(p4++(p5++([]))))))) (pv:=[]) hW' (fun _ _ _=>trodAll_cons_mk (shut_bool Tryz.underlying4 _) trodAll_mk0) (fun sp hsp=>(trodAll_cons_mk (Sg.stays laidOut (by kernel_rfl) (by kernel_rfl) h0k hb hW'.lt (fun x hx=>by simp [hx]) hsp) (trodAll_cons_mk (Sg.stays laidOut (by kernel_rfl) (by kernel_rfl) h1k hb hW'.lt (fun x hx=>by simp [hx]) hsp) (trodAll_cons_mk (Sg.stays laidOut (by kernel_rfl) (by kernel_rfl) h2k hb hW'.lt (fun x hx=>by simp [hx]) hsp) (trodAll_cons_mk (Sg.stays laidOut (by kernel_rfl) (by kernel_rfl) h3k hb hW'.lt (fun x hx=>by simp [hx]) hsp) (trodAll_cons_mk (Sg.stays laidOut (by kernel_rfl) (by kernel_rfl) h4k hb hW'.lt (fun x hx=>by simp [hx]) hsp) (trodAll_cons_mk (Sg.stays laidOut (by kernel_rfl) (by kernel_rfl) h5k hb hW'.lt (fun x hx=>by simp [hx]) hsp) trodAll_mk0))))))) (fun _ _=>rfl) (by simp) hb (ok_one (by kernel_rfl) rfl (okWide_bool_mk Tryz.underlying4 _))⟩
end Go.Proofs.YtngiefchigcphaaGreatDoor.asofMore
