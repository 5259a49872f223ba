import Derived.Test.YtngiefchigcphaaGreatDoorW1
import Derived.Test.YtngiefchigcphaaGreatDoorW2
import Derived.Test.YtngiefchigcphaaGreatDoorW3
import Derived.Test.YtngiefchigcphaaGreatDoorW4
import Derived.Test.YtngiefchigcphaaGreatDoorW5
import Derived.Test.YtngiefchigcphaaGreatDoorW6
import Derived.Test.YtngiefchigcphaaGreatDoorW7
import Derived.Test.YtngiefchigcphaaGreatDoorW8
import Derived.Test.YtngiefchigcphaaGreatDoorW9
/- A part of the proof of the law AsofMore: where what it reads holds at most 1048576 values and letters, the call returns true and its arguments read as they did. Conditions: that bound, and that the listed table starts as the program lays it. -/
set_option linter.unusedVariables false
set_option linter.unusedSimpArgs false
namespace Go.Sg
open Go.Proofs
set_option maxHeartbeats 2000000
set_option maxRecDepth 100000
set_option linter.unusedVariables false
theorem qR (h:HF) (DV:Bool)  : Ret Tryz.prog 166 [.bool DV] h (.bool (dt DV)):=by
 refine aw Tryz.func166 U Tryz.ntmps166 U fun X hM hX=>?_
 have hs0:dt DV=dt DV:=rfl
 refine sr (an (sr (aa (an ?_))))
 exact ar [.bool DV] Tryz.func166 U hX rd (cs hs0)
theorem qQ (h:HF) (DV:Bool)  : Ret Tryz.prog 167 [.bool DV] h (.bool (et DV)):=by
 refine aw Tryz.func167 U Tryz.ntmps167 U fun X hM hX=>?_
 have hs0:et DV=et DV:=rfl
 refine sr (an (sr (aa (cR U (an ?_)))))
 exact ar [.bool (!DV)] Tryz.func167 U hX rd (cs hs0)
theorem sW (h:HF) (mode:Int) (permits:(List Bool)) (jc:Option Addr) (jb:Nat) (hpermits:SlC Rp.bool h jc jb permits) (hsz0:permits.length≤2000000):jP Tryz.prog 98 [I mode,.slice jc permits.length jb] h (fun v h'=>∃ (rb0:Option Addr) (rc0:Nat),v=.tuple #[.slice rb0 ((bg mode permits).1).length rc0,.bool ((bg mode permits).2.1),I ((bg mode permits).2.2)]∧SlC Rp.int h' rb0 rc0 ((bg mode permits).1)):=by
 refine aw zo U Tryz.ntmps98 U fun X hM hX=>?_
 have hs0:bg mode permits=bg mode permits:=rfl
 refine sr (bi (bi (an (ad (sr (aa (aa (aA (v:=I (fN mode permits)) Tryz.call164 (tJ h mode permits jc jb hpermits) U (an (ad ?_))))))))))
 refine ah (aa (aF U (ac ?_)))
 refine aB U (fun c1=>?_) (fun c1=>?_)
 ·have hs1:=hs0.trans (bt c1)
  refine sr (aa (bi (bi (an ?_))))
  have hs2:bg mode permits=([],false,(fN mode permits)):=hs1
  exact dQ [.slice none 0 0,.bool false,I (fN mode permits)] zo U rd ⟨none,0,congrArg (fun r:((List Int)×Bool×Int)=>(.tuple #[.slice none r.1.length 0,.bool r.2.1,I r.2.2]:Value)) hs2.symm,(by rw [hs2];exact SlC.nil)⟩
 ·have hs3:=hs0.trans (bf c1)
  refine ai (sr (aa (aA (v:=I (bL permits dt)) Tryz.call165 (mK h permits jc jb dt (.func (.func 166) #[] #[]) hpermits (fun h' cD hle =>je Tryz.call166 (qR h' cD    ))) U ?_)))
  refine an (sr (aa (aA (v:=I (bL permits et)) Tryz.call165 (mK h permits jc jb et (.func (.func 167) #[] #[]) hpermits (fun h' cD hle =>je Tryz.call167 (qQ h' cD    ))) U ?_)))
  refine an (ad (aU (sr (aa (aF U (aa ?_))))))
  refine tq 3 [(0,I mode),(1,.slice jc permits.length jb),(4,.slice none 0 0),(5,.bool false),(7,I (bL permits dt)),(8,I (bL permits et)),(26,.bool ((mode==4)&&decide (0≤(bL permits dt))))] (fun hk1=>?_) (fun e=>?_)
  ·refine au 23 U (fun c2=>?_) (fun c2=>?_)
   ·refine aa (aF U (ae U ?_))
    exact hk1 _ ⟨U,U,U,U,U,U,(cb (cY c2)),trivial⟩
   ·refine kq (ae U ?_)
    exact hk1 _ ⟨U,U,U,U,U,U,(cb (cZ c2)),trivial⟩
  refine an ?_
  refine aB U (fun c3=>?_) (fun c3=>?_)
  ·have hs4:=hs3.trans (bt c3)
   refine sr (aa (a8 (cf (cells:=[I (bL permits dt)]) eG ty3 zc3 U U kr (fun b1=>bi (bi (an ?_))))))
   refine fV 0 U hM (fun h1 hle1 hb1=>?_)
   have sl1:SlC Rp.int h1 (some ⟨b1,0,none⟩) 1 ([(bL permits dt)]):=bW.slB0 (T:=3) (fz:=(0,0)) ((show bW Rp.int h [I (bL permits dt)] ([(bL permits dt)]) from ⟨[I (bL permits dt)],[],rfl,rfl,rfl,rfl⟩).mono Rp.cm hle1) hb1
   have hs5:bg mode permits=([(bL permits dt)],true,0):=hs4
   exact dQ [.slice (some ⟨b1,0,none⟩) 1 1,.bool true,I 0] zo U rd ⟨(some ⟨b1,0,none⟩),1,congrArg (fun r:((List Int)×Bool×Int)=>(.tuple #[.slice (some ⟨b1,0,none⟩) r.1.length 1,.bool r.2.1,I r.2.2]:Value)) hs5.symm,(by rw [hs5];exact sl1)⟩
  ·have hs6:=hs3.trans (bf c3)
   refine sr (aa (aF U (aa ?_)))
   refine tq 3 [(0,I mode),(1,.slice jc permits.length jb),(4,.slice none 0 0),(5,.bool false),(7,I (bL permits dt)),(8,I (bL permits et)),(35,.bool ((mode==3)&&decide (0≤(bL permits et))))] (fun hk2=>?_) (fun e=>?_)
   ·refine au 32 U (fun c4=>?_) (fun c4=>?_)
    ·refine aa (aF U (ae U ?_))
     exact hk2 _ ⟨U,U,U,U,U,U,(cb (cY c4)),trivial⟩
    ·refine kq (ae U ?_)
     exact hk2 _ ⟨U,U,U,U,U,U,(cb (cZ c4)),trivial⟩
   refine an ?_
   refine aB U (fun c5=>?_) (fun c5=>?_)
   ·have hs7:=hs6.trans (bt c5)
    refine sr (aa (a8 (cf (cells:=[I (bL permits et)]) eG ty3 zc3 U U kr (fun b2=>bi (bi (an ?_))))))
    refine fV 0 U hM (fun h2 hle2 hb2=>?_)
    have sl2:SlC Rp.int h2 (some ⟨b2,0,none⟩) 1 ([(bL permits et)]):=bW.slB0 (T:=3) (fz:=(0,0)) ((show bW Rp.int h [I (bL permits et)] ([(bL permits et)]) from ⟨[I (bL permits et)],[],rfl,rfl,rfl,rfl⟩).mono Rp.cm hle2) hb2
    have hs8:bg mode permits=([(bL permits et)],false,0):=hs7
    exact dQ [.slice (some ⟨b2,0,none⟩) 1 1,.bool false,I 0] zo U rd ⟨(some ⟨b2,0,none⟩),1,congrArg (fun r:((List Int)×Bool×Int)=>(.tuple #[.slice (some ⟨b2,0,none⟩) r.1.length 1,.bool r.2.1,I r.2.2]:Value)) hs8.symm,(by rw [hs8];exact sl2)⟩
   ·have hs9:=hs6.trans (bf c5)
    refine sr (aa (aF U (an ?_)))
    refine aB U (fun c6=>?_) (fun c6=>?_)
    ·have hs10:=hs9.trans (bt c6)
     refine ah (aa (aF U (an (ao (ad (sr (aa (bE qS U (aa (ac ?_))))))))))
     refine bq (ι:=Nat×(List Int)×Option Addr×Nat×LH) (fun i=>[(4,.slice i.2.2.1 i.2.1.length i.2.2.2.1),(5,.bool (decide (0≤(bL permits dt))))]) (fun i=>h) (fun i=>i.2.2.2.2) (fun i=>i.1≤permits.length∧bg mode permits=((bg.K1 permits) i.2.1)∧ei Rp.int 3 h i.2.1 i.2.2.1 i.2.2.2.1 i.2.2.2.2∧i.2.1.length≤0+i.1) ?_ (fun hx1=>?_)
     ·rintro ⟨i1,ku,oc,oa,pF⟩ ⟨bd,hs11,lr,rP⟩ e
      try dsimp only at bd lr rP
      try dsimp only
      refine sr (aa (aa (bi (bi (an ?_)))))
      refine gi Rp.cm ([]) pF ([]) ap hM lr (fun h4 hle4 sl4=>?_)
      have hs12:bg mode permits=(ku,decide (0≤(bL permits dt)),0):=hs11
      exact dQ [.slice oc ku.length oa,.bool (decide (0≤(bL permits dt))),I 0] zo U rd ⟨oc,oa,congrArg (fun r:((List Int)×Bool×Int)=>(.tuple #[.slice oc r.1.length oa,.bool r.2.1,I r.2.2]:Value)) hs12.symm,(by rw [hs12];exact sl4)⟩
     ·refine ck (ι:=Nat×(List Int)×Option Addr×Nat×LH×List Bool) (fun i=>[(4,.slice i.2.2.1 i.2.1.length i.2.2.2.1),(5,.bool (decide (0≤(bL permits dt)))),(55,I ((permits.length:Nat):Int)),(56,I ((i.1:Nat):Int))]) (fun i=>h) (fun i=>i.2.2.2.2.1) (fun i=>permits.drop i.1=i.2.2.2.2.2∧i.1≤permits.length∧bg mode permits=((bg.L1 (bg.K1 permits)) i.2.2.2.2.2 i.1 i.2.1)∧ei Rp.int 3 h i.2.1 i.2.2.1 i.2.2.2.1 i.2.2.2.2.1∧i.2.1.length≤0+i.1) (fun i=>i.2.2.2.2.2.length) (0,[],none,0,[],permits) rd sw ⟨U,Nat.zero_le _,hs10,ei.nil,lo⟩ ?_
      rintro ⟨i1,ku,oc,oa,pF,s1⟩ ⟨hd1,bd,hs13,lr,rP⟩ ag1 e
      try dsimp only at hd1 bd lr rP
      rcases s1 with _ | ⟨y1,rz1⟩
      ·have dJ:=cS hd1
       try dsimp only
       refine sr (az (v':=.bool false) U (cb dJ) (ac (ad (ba U (bM U ?_)))))
       exact hx1 (i1,ku,oc,oa,pF) _ ⟨bd,hs13,lr,lo⟩ rd
      ·have dI:=dV hd1
       have bh:=cU hd1
       have e9:=aP hd1
       have gO:=hpermits.1.1
       try dsimp only
       refine sr (az (v':=.bool true) U (cb dI) (ac (ad (bj U (ai (ad (aU (sr (aa (an (ah (aa (aa (a8 (cf (cells:=[I ((i1:Nat):Int)]) eG ty3 zc3 U U kr (fun b4=>?_))))))))))))))))
       refine a8 (eK Rp.jY ([(b4,O [I ((i1:Nat):Int)] 3)]) ([]) (fun G=>[(b4,O [I ((i1:Nat):Int)] 3)]++(G)) ap (fun _=>ap) eG ty3 zc3 U bytes3 lr U U (ff 0 U (show bW Rp.int h [I ((i1:Nat):Int)] ([((i1:Nat):Int)]) from ⟨[I ((i1:Nat):Int)],[],U,U,U,U⟩)) lo lo (fun ob2 oc2 G2 gr2=>?_))
       refine an (ao (ah (az (v':=I (((i1+1):Nat):Int)) U (bP ob) ?_)))
       refine aa (ac ?_)
       refine cE (L':=G2) js ?_
       exact ag1 ((i1+1),(ku++[((i1:Nat):Int)]),ob2,oc2,G2,rz1) _ (Nat.lt_succ_self _) ⟨bF hd1,aP hd1,hs13,gr2,lo⟩ rd
    ·have hs15:=hs9.trans (bf c6)
     refine sr (aa (aF U (an ?_)))
     refine aB U (fun c7=>?_) (fun c7=>?_)
     ·have hs16:=hs15.trans (bt c7)
      refine ah (aa (bE qS U (aF U (aa ?_))))
      refine tq 4 [(1,.slice jc permits.length jb),(4,.slice none 0 0),(53,.bool ((((permits.length:Nat):Int)==1)&&(nthI permits 0)))] (fun hk3=>?_) (fun e=>?_)
      ·refine au 49 U (fun c8=>?_) (fun c8=>?_)
       ·refine aa ?_
        have ho1:0≤(0:Int)∧(0:Int) < ((permits).length:Int):=ob
        refine a8 (fZ (enc:=fun y=>[.bool y]) (fun _ _ _ e=>e) qS ty4 hpermits.1 ho1 (eN ho1) U U U (fun q1 A1=>eM ty4 A1 U (ae U ?_)))
        exact hk3 _ ⟨U,U,(cb (cY c8)),trivial⟩
       ·refine kq (bY (ae U ?_))
        exact hk3 _ ⟨U,U,(cb (cZ c8)),trivial⟩
      refine an (ao (ad (sr (aa (bE qS U (aa (ac ?_)))))))
      refine bq (ι:=Nat×(List Int)×Option Addr×Nat×LH) (fun i=>[(4,.slice i.2.2.1 i.2.1.length i.2.2.2.1),(5,.bool ((((permits.length:Nat):Int)==1)&&(nthI permits 0)))]) (fun i=>h) (fun i=>i.2.2.2.2) (fun i=>i.1≤permits.length∧bg mode permits=((bg.K2 permits) i.2.1)∧ei Rp.int 3 h i.2.1 i.2.2.1 i.2.2.2.1 i.2.2.2.2∧i.2.1.length≤0+i.1) ?_ (fun hx2=>?_)
      ·rintro ⟨i2,xX,Cw,Cv,GP⟩ ⟨j4,hs17,zY,GO⟩ e
       try dsimp only at j4 zY GO
       try dsimp only
       refine sr (aa (aa (bi (bi (an ?_)))))
       refine gi Rp.cm ([]) GP ([]) ap hM zY (fun h6 hle6 sl6=>?_)
       have hs18:bg mode permits=(xX,((((permits.length:Nat):Int)==1)&&(nthI permits 0)),0):=hs17
       exact dQ [.slice Cw xX.length Cv,.bool ((((permits.length:Nat):Int)==1)&&(nthI permits 0)),I 0] zo U rd ⟨Cw,Cv,congrArg (fun r:((List Int)×Bool×Int)=>(.tuple #[.slice Cw r.1.length Cv,.bool r.2.1,I r.2.2]:Value)) hs18.symm,(by rw [hs18];exact sl6)⟩
      ·refine ck (ι:=Nat×(List Int)×Option Addr×Nat×LH×List Bool) (fun i=>[(4,.slice i.2.2.1 i.2.1.length i.2.2.2.1),(5,.bool ((((permits.length:Nat):Int)==1)&&(nthI permits 0))),(55,I ((permits.length:Nat):Int)),(56,I ((i.1:Nat):Int))]) (fun i=>h) (fun i=>i.2.2.2.2.1) (fun i=>permits.drop i.1=i.2.2.2.2.2∧i.1≤permits.length∧bg mode permits=((bg.L2 (bg.K2 permits)) i.2.2.2.2.2 i.1 i.2.1)∧ei Rp.int 3 h i.2.1 i.2.2.1 i.2.2.2.1 i.2.2.2.2.1∧i.2.1.length≤0+i.1) (fun i=>i.2.2.2.2.2.length) (0,[],none,0,[],permits) rd sw ⟨U,Nat.zero_le _,hs16,ei.nil,lo⟩ ?_
       rintro ⟨i2,xX,Cw,Cv,GP,s2⟩ ⟨hd2,j4,hs19,zY,GO⟩ ag2 e
       try dsimp only at hd2 j4 zY GO
       rcases s2 with _ | ⟨y2,rz2⟩
       ·have tz:=cS hd2
        try dsimp only
        refine sr (az (v':=.bool false) U (cb tz) (ac (ad (ba U (bM U ?_)))))
        exact hx2 (i2,xX,Cw,Cv,GP) _ ⟨j4,hs19,zY,lo⟩ rd
       ·have qH:=dV hd2
        have lG:=cU hd2
        have xL:=aP hd2
        have DR:=hpermits.1.1
        try dsimp only
        refine sr (az (v':=.bool true) U (cb qH) (ac (ad (bj U (ai (ad (aU (sr (aa (an (ah (aa (aa (a8 (cf (cells:=[I ((i2:Nat):Int)]) eG ty3 zc3 U U kr (fun b6=>?_))))))))))))))))
        refine a8 (eK Rp.jY ([(b6,O [I ((i2:Nat):Int)] 3)]) ([]) (fun G=>[(b6,O [I ((i2:Nat):Int)] 3)]++(G)) ap (fun _=>ap) eG ty3 zc3 U bytes3 zY U U (ff 0 U (show bW Rp.int h [I ((i2:Nat):Int)] ([((i2:Nat):Int)]) from ⟨[I ((i2:Nat):Int)],[],U,U,U,U⟩)) lo lo (fun ob4 oc4 G4 gr4=>?_))
        refine an (ao (ah (az (v':=I (((i2+1):Nat):Int)) U (bP ob) ?_)))
        refine aa (ac ?_)
        refine cE (L':=G4) js ?_
        exact ag2 ((i2+1),(xX++[((i2:Nat):Int)]),ob4,oc4,G4,rz2) _ (Nat.lt_succ_self _) ⟨bF hd2,aP hd2,hs19,gr4,lo⟩ rd
     ·have hs21:=hs15.trans (bf c7)
      refine ai (ao (ad (sr (aa (bE qS U (aa (ac ?_)))))))
      refine bq (ι:=Nat×(List Int)×Option Addr×Nat×LH) (fun i=>[(4,.slice i.2.2.1 i.2.1.length i.2.2.2.1),(5,.bool false)]) (fun i=>h) (fun i=>i.2.2.2.2) (fun i=>i.1≤permits.length∧bg mode permits=((bg.K3) i.2.1)∧ei Rp.int 3 h i.2.1 i.2.2.1 i.2.2.2.1 i.2.2.2.2∧i.2.1.length≤0+i.1) ?_ (fun hx3=>?_)
      ·rintro ⟨i3,xR,Cr,Cq,GM⟩ ⟨oz,hs22,zW,GL⟩ e
       try dsimp only at oz zW GL
       try dsimp only
       refine sr (aa (aa (bi (bi (an ?_)))))
       refine gi Rp.cm ([]) GM ([]) ap hM zW (fun h8 hle8 sl8=>?_)
       have hs23:bg mode permits=(xR,false,0):=hs22
       exact dQ [.slice Cr xR.length Cq,.bool false,I 0] zo U rd ⟨Cr,Cq,congrArg (fun r:((List Int)×Bool×Int)=>(.tuple #[.slice Cr r.1.length Cq,.bool r.2.1,I r.2.2]:Value)) hs23.symm,(by rw [hs23];exact sl8)⟩
      ·refine ck (ι:=Nat×(List Int)×Option Addr×Nat×LH×List Bool) (fun i=>[(4,.slice i.2.2.1 i.2.1.length i.2.2.2.1),(5,.bool false),(55,I ((permits.length:Nat):Int)),(56,I ((i.1:Nat):Int))]) (fun i=>h) (fun i=>i.2.2.2.2.1) (fun i=>permits.drop i.1=i.2.2.2.2.2∧i.1≤permits.length∧bg mode permits=((bg.L3 (bg.K3)) i.2.2.2.2.2 i.1 i.2.1)∧ei Rp.int 3 h i.2.1 i.2.2.1 i.2.2.2.1 i.2.2.2.2.1∧i.2.1.length≤0+i.1) (fun i=>i.2.2.2.2.2.length) (0,[],none,0,[],permits) rd sw ⟨U,Nat.zero_le _,hs21,ei.nil,lo⟩ ?_
       rintro ⟨i3,xR,Cr,Cq,GM,s3⟩ ⟨hd3,oz,hs24,zW,GL⟩ ag3 e
       try dsimp only at hd3 oz zW GL
       rcases s3 with _ | ⟨y3,rz3⟩
       ·have AN:=cS hd3
        try dsimp only
        refine sr (az (v':=.bool false) U (cb AN) (ac (ad (ba U (bM U ?_)))))
        exact hx3 (i3,xR,Cr,Cq,GM) _ ⟨oz,hs24,zW,lo⟩ rd
       ·have AM:=dV hd3
        have qA:=cU hd3
        have EF:=aP hd3
        have H0:=hpermits.1.1
        try dsimp only
        refine sr (az (v':=.bool true) U (cb AM) (ac (ad (bj U (ai (ad (aU (sr (aa (an (ah (aa (aa (a8 (cf (cells:=[I ((i3:Nat):Int)]) eG ty3 zc3 U U kr (fun b8=>?_))))))))))))))))
        refine a8 (eK Rp.jY ([(b8,O [I ((i3:Nat):Int)] 3)]) ([]) (fun G=>[(b8,O [I ((i3:Nat):Int)] 3)]++(G)) ap (fun _=>ap) eG ty3 zc3 U bytes3 zW U U (ff 0 U (show bW Rp.int h [I ((i3:Nat):Int)] ([((i3:Nat):Int)]) from ⟨[I ((i3:Nat):Int)],[],U,U,U,U⟩)) lo lo (fun ob6 oc6 G6 gr6=>?_))
        refine an (ao (ah (az (v':=I (((i3+1):Nat):Int)) U (bP ob) ?_)))
        refine aa (ac ?_)
        refine cE (L':=G6) js ?_
        exact ag3 ((i3+1),(xR++[((i3:Nat):Int)]),ob6,oc6,G6,rz3) _ (Nat.lt_succ_self _) ⟨bF hd3,aP hd3,hs24,gr6,lo⟩ rd
theorem sY (h:HF) (mode:Int) (permits:(List Bool)) (jc:Option Addr) (jb:Nat) (hpermits:SlC Rp.bool h jc jb permits) (hsz0:permits.length≤2000000):Ret Tryz.prog 49 [I mode,.slice jc permits.length jb] h (.tuple #[.bool ((fw mode permits).1),I ((fw mode permits).2)]):=by
 refine aw Tryz.func49 U Tryz.ntmps49 U fun X hM hX=>?_
 have hs0:fw mode permits=fw mode permits:=rfl
 refine sr (bi (an (sr (aa (aa (a8 (dp Tryz.call98 (sW h mode permits jc jb hpermits ob) U (fun v1 h1 hle1 hp1=>?_))))))))
 obtain ⟨rb1,rc1,rfl,sl1⟩:=hp1
 refine aa (bR U U (bR U U (bR U U (bi (an (sr (aa (aa (bi (an ?_))))))))))
 have hs1:fw mode permits=((bg mode permits).2.1,(bg mode permits).2.2):=hs0
 exact ar [.bool ((bg mode permits).2.1),I ((bg mode permits).2.2)] Tryz.func49 U hX rd (congrArg (fun r:(Bool×Int)=>(.tuple #[.bool r.1,I r.2]:Value)) hs1.symm)
theorem rF (h:HF) (l:(List Interest)) (fc:Option Addr) (fb:Nat) (person:Int) (parties:(List Int)) (iU:Option Addr) (iT:Nat) (hZ:Int) (known:Int) (hl:SlC Interest.rp h fc fb l) (hparties:SlC Rp.int h iU iT parties):Ret Tryz.prog 84 [.slice fc l.length fb,I person,.slice iU parties.length iT,I hZ,I known] h (I (cg l person parties hZ known)):=by
 refine aw D7 U Tryz.ntmps84 U fun X hM hX=>?_
 have hs0:cg l person parties hZ known=cg l person parties hZ known:=rfl
 refine sr (an (ad (sr (aa (aA (v:=I (bS l)) Tryz.call53 (nW h l fc fb hl) U (an (sr (aa (aF U (ac ?_))))))))))
 refine aB U (fun c1=>?_) (fun c1=>?_)
 ·have hs1:=hs0.trans (bt c1)
  refine sr (aa (an ?_))
  exact ar [I (bS l)] D7 U hX rd (ci hs1)
 ·have hs3:=hs0.trans (bf c1)
  refine ai (sr (an (ad (sr (aa (bE eG U (aa (ac ?_))))))))
  refine bq (ι:=Nat×Int) (fun i=>[(1,I person),(2,.slice iU parties.length iT),(3,I hZ),(4,I known)]) (fun i=>h) (fun i=>[]) (fun i=>i.1≤parties.length∧cg l person parties hZ known=((cg.K1 person parties hZ known) i.2)) ?_ (fun hx1=>?_)
  ·rintro ⟨i1,vH⟩ ⟨bd,hs4⟩ e
   try dsimp only at bd
   try dsimp only
   refine ad (sr (aa (aA (v:=.bool (aK person 64)) vj (gh h person 64 ) U (cR U (aa ?_)))))
   refine tq 4 [(3,I hZ),(4,I known),(42,.bool ((!(aK person 64))||decide (16 < ((parties.length:Nat):Int))))] (fun hk1=>?_) (fun e=>?_)
   ·refine au 38 U (fun c2=>?_) (fun c2=>?_)
    ·refine kq (bY (ae U ?_))
     exact hk1 _ ⟨U,U,(cb (eB c2)),trivial⟩
    ·refine aa (bE eG U (aF U (ae U ?_)))
     exact hk1 _ ⟨U,U,(cb (eE c2)),trivial⟩
   refine aa ?_
   refine tq 4 [(4,I known),(47,.bool (((!(aK person 64))||decide (16 < ((parties.length:Nat):Int)))||(!(aK hZ 1099511627776))))] (fun hk2=>?_) (fun e=>?_)
   ·refine au 43 U (fun c3=>?_) (fun c3=>?_)
    ·refine kq (bY (ae U ?_))
     exact hk2 _ ⟨U,(cb (eB c3)),trivial⟩
    ·refine aa (aA (v:=.bool (aK hZ 1099511627776)) vj (gh h hZ 1099511627776 ) U (cR U (ae U ?_)))
     exact hk2 _ ⟨U,(cb (eE c3)),trivial⟩
   refine aa ?_
   refine tq 4 [(52,.bool ((((!(aK person 64))||decide (16 < ((parties.length:Nat):Int)))||(!(aK hZ 1099511627776)))||(!(aK known 1099511627776))))] (fun hk3=>?_) (fun e=>?_)
   ·refine au 48 U (fun c4=>?_) (fun c4=>?_)
    ·refine kq (bY (ae U ?_))
     exact hk3 _ ⟨(cb (eB c4)),trivial⟩
    ·refine aa (aA (v:=.bool (aK known 1099511627776)) vj (gh h known 1099511627776 ) U (cR U (ae U ?_)))
     exact hk3 _ ⟨(cb (eE c4)),trivial⟩
   refine ac ?_
   refine aB U (fun c5=>?_) (fun c5=>?_)
   ·have hs5:=hs4.trans (bt c5)
    refine sr (an ?_)
    exact ar [I 1] D7 U hX rd (ci hs5)
   ·have hs7:=hs4.trans (bf c5)
    refine ai (sr (an ?_))
    exact ar [I 0] D7 U hX rd (ci hs7)
  ·refine ck (ι:=Nat×Int×List Int) (fun i=>[(1,I person),(2,.slice iU parties.length iT),(3,I hZ),(4,I known),(12,I i.2.1),(20,.slice iU parties.length iT),(21,I ((parties.length:Nat):Int)),(22,I ((i.1:Nat):Int))]) (fun i=>h) (fun i=>[]) (fun i=>parties.drop i.1=i.2.2∧i.1≤parties.length∧cg l person parties hZ known=((cg.L1 (cg.K1 person parties hZ known)) i.2.2 i.2.1)) (fun i=>i.2.2.length) (0,(-1),parties) rd sw ⟨U,Nat.zero_le _,hs3⟩ ?_
   rintro ⟨i1,vH,s1⟩ ⟨hd1,bd,hs9⟩ ag1 e
   try dsimp only at hd1 bd
   rcases s1 with _ | ⟨y1,rz1⟩
   ·have dJ:=cS hd1
    try dsimp only
    refine sr (az (v':=.bool false) U (cb dJ) (ac (ad (ba U (bM U ?_)))))
    exact hx1 (i1,vH) _ ⟨bd,hs9⟩ rd
   ·have dI:=dV hd1
    have bh:=cU hd1
    have e9:=aP hd1
    have gO:=hparties.1.1
    try dsimp only
    refine sr (az (v':=.bool true) U (cb dI) (ac (ad (bj U (ai (ad (aU (sr (a8 (fZ (enc:=fun y=>[I y]) (fun _ _ _ e=>e) eG ty3 hparties.1 (nthZ bh) (bA bh) U U U (fun q2 A2=>?_)))))))))))
    refine eM ty3 A2 U (an (ad (sr (aa (aa (aF U (aa ?_)))))))
    refine tq 3 [(1,I person),(2,.slice iU parties.length iT),(3,I hZ),(4,I known),(14,I y1),(20,.slice iU parties.length iT),(21,I ((parties.length:Nat):Int)),(22,I ((i1:Nat):Int)),(32,.bool (decide (y1≤vH)||decide (1048576 < y1)))] (fun hk4=>?_) (fun e=>?_)
    ·refine au 29 U (fun c6=>?_) (fun c6=>?_)
     ·refine kq (ae U ?_)
      exact hk4 _ ⟨U,U,U,U,U,U,U,U,(cb (eB c6)),trivial⟩
     ·refine aa (aF U (ae U ?_))
      exact hk4 _ ⟨U,U,U,U,U,U,U,U,(cb (eE c6)),trivial⟩
    refine ac ?_
    refine aB U (fun c7=>?_) (fun c7=>?_)
    ·have hs11:=hs9.trans (bt c7)
     refine sr (an ?_)
     exact ar [I 1] D7 U hX rd (ci hs11)
    ·have hs13:=hs9.trans (bf c7)
     refine ai (ah (aa (an (ao (ah (az (v':=I (((i1+1):Nat):Int)) U (bP ob) (aa (ac ?_))))))))
     exact ag1 ((i1+1),y1,rz1) _ (Nat.lt_succ_self _) ⟨bF hd1,aP hd1,hs13⟩ rd
theorem pw (h:HF) (v0:(List Interest)) (Ik:Option Addr) (Ij:Nat) (v0_q:Addr) (v1:(List (cL×Interest))) (IW:Nat) (v1_q:Addr) (hv0:SlC Interest.rp h Ik Ij v0) (av0:At h v0_q [.slice Ik v0.length Ij]) (hv1:ou cL.enc (kp Interest.rp) h IW v1) (av1:At h v1_q [.map (some IW)]):Itr Tryz.prog (.func (.func 146) #[] (List.toArray [.pointer (some v0_q),.pointer (some v1_q)])) qf (bB v0 v1) h:=by
 refine uR Tryz.call146 ?_
 intro yf ya yb C Sp Pn h1 A hle m1 m2 m3 hC hy
 refine jW Bk U Tryz.ntmps146 U fun X hXM hX=>?_
 have hs0:bB v0 v1=[]++bB v0 v1:=rfl
 refine sr (eM ty24 (av0.mono hle) U (bE mJ U (aa (ac ?_))))
 refine bq (ι:=Nat×List Interest×LH×HF) (fun i=>[]) (fun i=>i.2.2.2) (fun i=>i.2.2.1) (fun i=>i.1≤v0.length∧bB v0 v1=i.2.1++((bB.K1))∧C i.2.1 i.2.2.2 i.2.2.1∧HF.le h1 i.2.2.2) ?_ (fun hx1=>?_)
 ·rintro ⟨i1,dn1,A1_,hh1⟩ ⟨bd,hs1,hC1_,hl1⟩ e
  try dsimp only at bd hC1_ hl1
  try dsimp only
  refine gv ?_
  have hs2:bB v0 v1=dn1:=hs1.trans (List.append_nil _)
  exact uS [] (A:=A1_) Bk U (List.Sublist.refl _) (.inl (hs2 ▸ hC1_))
 ·refine ck (ι:=Nat×List Interest×LH×HF×List Interest) (fun i=>[(0,.func yf ya yb),(2,.pointer (some v1_q)),(6,.slice Ik v0.length Ij),(7,I ((v0.length:Nat):Int)),(8,I ((i.1:Nat):Int))]) (fun i=>i.2.2.2.1) (fun i=>i.2.2.1) (fun i=>v0.drop i.1=i.2.2.2.2∧i.1≤v0.length∧bB v0 v1=i.2.1++((bB.L1 v1 (bB.K1)) i.2.2.2.2 )∧C i.2.1 i.2.2.2.1 i.2.2.1∧HF.le h1 i.2.2.2.1) (fun i=>i.2.2.2.2.length) (0,[],A,h1,v0) rd sw ⟨U,Nat.zero_le _,hs0,hC,(HF.le_refl h1)⟩ ?_
  rintro ⟨i1,dn1,A1_,hh1,s1⟩ ⟨hd1,bd,hs3,hC1_,hl1⟩ ag1 e
  try dsimp only at hd1 bd hC1_ hl1
  rcases s1 with _ | ⟨y1,rz1⟩
  ·have dJ:=cS hd1
   try dsimp only
   refine sr (az (v':=.bool false) U (cb dJ) (ac (ad (ba U (bM U ?_)))))
   exact hx1 (i1,dn1,A1_,hh1) _ ⟨bd,hs3,hC1_,hl1⟩ trivial
  ·have dI:=dV hd1
   have bh:=cU hd1
   have e9:=aP hd1
   have gO:=(hv0.mono Interest.aJ hle).1.1
   try dsimp only
   refine sr (az (v':=.bool true) U (cb dI) (ac (ad (bj U (ai (ad (aU (sr (a8 (fZ (enc:=Interest.cells) (fun _ _ _ e=>e) mJ ty61 (hv0.mono Interest.aJ (hle.t hl1)).1 (nthZ bh) (bA bh) U U U (fun q2 A2=>?_)))))))))))
   refine dT ty61 A2 U U (bT zc61 (fun b2=>bJ 0 ty61 U U U U U U (iF (L':=[(b2,O (Interest.cells y1) 61)]++(A1_)) U (ac (ad ?_)))))
   let z1:Nat×Obj:=(b2,O (Interest.cells y1) 61)
   refine gr ([z1]) mixed kr jn (fun fd _=>?_)
   refine tf 0 U U (fun _ _ _=>dO H5 U) (tf 1 U U (fun _ _ hj=>hY ty4 U (hj.nth (i:=0) U) U) ?_)
   refine tf 2 U U (fun _ _ _=>kH U) (tm 3 U ?_)
   refine eI 15 U (fun c1=>?_) (fun c1=>?_)
   ·refine tf 4 U U (fun _ _ hj=>gu ty205 ((av1.mono (hle.t hl1)).mono hj.1) U) (tf 5 U U (fun _ _ _=>dO mz U) ?_)
    refine tf 6 U U (fun _ _ hj=>hY ty3 U (hj.nth (i:=0) U) U) (tf 7 U U (fun _ _ _=>dO oU U) ?_)
    refine tf 8 U U (fun _ _ hj=>hY ty3 U (hj.nth (i:=0) U) U) (tf 9 U U (fun _ _ _=>dO uf U) ?_)
    refine tf 10 U U (fun _ _ hj=>hY ty4 U (hj.nth (i:=0) U) U) (tf 13 U U (fun _ _ hj=>kZ ty61 U (hj.nth (i:=0) U) U) ?_)
    refine tn 11 U (fO (cells:=[I y1.Person,I y1.Party,.bool y1.Of]) (places:=[(0,1),(1,1),(2,1)]) Ef zc207 kr kr (⟨jn,?_⟩))
    refine tn 12 U ?_
    obtain ⟨o2,hb2,hm2⟩:=(hv1.mono (kp.mono Interest.aJ) (hle.t hl1))
    refine pm (k:=(cL.mk y1.Person y1.Party y1.Of)) Tryz.underlying205 pf hb2 hm2 (jr zv61) (show (kp Interest.rp) _ (.agg (List.toArray [I 0,I 0,I 0,I 0,I 0,.bool false,.bool false])) (Interest.mk 0 0 0 0 0 false false) from ⟨_,U,U⟩) U U (fun v2 hv2=>?_)
    obtain ⟨_,rfl,rfl⟩:=hv2
    refine ⟨jn,(tf 14 U U (fun _ _ _=>I2 (AR (mgetD v1 (cL.mk y1.Person y1.Party y1.Of) (Interest.mk 0 0 0 0 0 false false)) y1) eqg61 U U) ?_)⟩
    refine tf 15 U U (fun _ _ _=>rV U (cb (show (decide ((mgetD v1 (cL.mk y1.Person y1.Party y1.Of) (Interest.mk 0 0 0 0 0 false false))=y1))=((!y1.Gone)&&(decide ((mgetD v1 (cL.mk y1.Person y1.Party y1.Of) (Interest.mk 0 0 0 0 0 false false))=y1))) from by first | (rw [c1];rfl) | (rw [c1];rfl) | simp [c1]))) ?_
    refine tm 16 U ?_
    refine eI 28 U (fun c2=>?_) (fun c2=>?_)
    ·have ct1:=c2
     have hs5:=hs3.trans (congrArg (dn1++·) (bt ct1))
     refine tm 17 U (tf 18 U U (fun _ _ hj=>kZ ty61 U (hj.nth (i:=0) U) U) ?_)
     have hx1:bB v0 v1=dn1++(y1::(bB.L1 v1 (bB.K1) rz1 )):=hs5
     refine tn 19 U (lL ([z1]) A1_ ap (hy dn1 y1 _ _ _ _ hx1 hl1 hC1_ U) U U (fun h2 A3 hle1 hC1=>?_) (fun h3 A4 hle2 hS1=>?_) (fun ch1 h4 A5 hle3 hP1 e=>jj (qh [] (A:=A5) Bk (List.sublist_append_right _ _) hP1)))
     ·have hs6:bB v0 v1=(dn1++[y1])++((bB.L1 v1 (bB.K1) rz1 )):=hx1.trans ap
      refine ⟨⟨hle1,fun _ hp=>List.Sublist.subset js hp⟩,vl (K2:=[z1]) hle1 (fun _ hp=>hp) (tf 20 U U (fun _ _ _=>kH U) ?_)⟩
      refine tf 21 U U (fun _ _ _=>cr U) (cd kr ?_)
      refine ba U (ai (ao (ah (az (v':=I (((i1+1):Nat):Int)) U (bP ob) (aa (ac ?_))))))
      refine cE (L':=A3) js ?_
      exact ag1 ((i1+1),(dn1++[y1]),A3,h2,rz1) _ (Nat.lt_succ_self _) ⟨bF hd1,aP hd1,hs6,hC1,(hl1.t hle1)⟩ rd
     ·refine ⟨⟨hle2,fun _ hp=>List.Sublist.subset js hp⟩,vl (K2:=[z1]) hle2 (fun _ hp=>hp) (tf 20 U U (fun _ _ _=>kH U) ?_)⟩
      refine tf 21 U U (fun _ _ _=>cr U) (cd kr ?_)
      refine bj U ?_
      refine gv ?_
      exact qg [] (A:=A4) Bk U js (.inr hS1)
    ·have ct2:=c2
     have hs7:=hs3.trans (congrArg (dn1++·) (bf ct2))
     refine tk 17 U U (tk 18 U U (tk 19 U U ?_))
     refine tk 20 U U (tf 21 U U (fun _ _ _=>cr U) (cd kr ?_))
     refine ba U (ai (ao (ah (az (v':=I (((i1+1):Nat):Int)) U (bP ob) (aa (ac ?_))))))
     refine cE (L':=A1_) js ?_
     exact ag1 ((i1+1),dn1,A1_,hh1,rz1) _ (Nat.lt_succ_self _) ⟨bF hd1,aP hd1,hs7,hC1_,hl1⟩ rd
   ·refine tk 4 U U (tk 5 U U (tk 6 U U ?_))
    refine tk 7 U U (tk 8 U U (tk 9 U U ?_))
    refine tk 10 U U (tk 11 U U (tk 12 U U ?_))
    refine tk 13 U U (tk 14 U U (tf 15 U U (fun _ _ _=>rV U (cb (show false=((!y1.Gone)&&(decide ((mgetD v1 (cL.mk y1.Person y1.Party y1.Of) (Interest.mk 0 0 0 0 0 false false))=y1))) from by first | (rw [c1];rfl) | (rw [c1];rfl) | simp [c1]))) ?_))
    refine tm 16 U ?_
    refine eI 28 U (fun c3=>?_) (fun c3=>?_)
    ·have ct3:=c3
     have hs8:=hs3.trans (congrArg (dn1++·) (bt ct3))
     refine tm 17 U (tf 18 U U (fun _ _ hj=>kZ ty61 U (hj.nth (i:=0) U) U) ?_)
     have hx2:bB v0 v1=dn1++(y1::(bB.L1 v1 (bB.K1) rz1 )):=hs8
     refine tn 19 U (lL ([z1]) A1_ ap (hy dn1 y1 _ _ _ _ hx2 hl1 hC1_ U) U U (fun h5 A6 hle4 hC2=>?_) (fun h6 A7 hle5 hS2=>?_) (fun ch2 h7 A8 hle6 hP2 e=>jj (qh [] (A:=A8) Bk (List.sublist_append_right _ _) hP2)))
     ·have hs9:bB v0 v1=(dn1++[y1])++((bB.L1 v1 (bB.K1) rz1 )):=hx2.trans ap
      refine ⟨⟨hle4,fun _ hp=>List.Sublist.subset js hp⟩,vl (K2:=[z1]) hle4 (fun _ hp=>hp) (tf 20 U U (fun _ _ _=>kH U) ?_)⟩
      refine tf 21 U U (fun _ _ _=>cr U) (cd kr ?_)
      refine ba U (ai (ao (ah (az (v':=I (((i1+1):Nat):Int)) U (bP ob) (aa (ac ?_))))))
      refine cE (L':=A6) js ?_
      exact ag1 ((i1+1),(dn1++[y1]),A6,h5,rz1) _ (Nat.lt_succ_self _) ⟨bF hd1,aP hd1,hs9,hC2,(hl1.t hle4)⟩ rd
     ·refine ⟨⟨hle5,fun _ hp=>List.Sublist.subset js hp⟩,vl (K2:=[z1]) hle5 (fun _ hp=>hp) (tf 20 U U (fun _ _ _=>kH U) ?_)⟩
      refine tf 21 U U (fun _ _ _=>cr U) (cd kr ?_)
      refine bj U ?_
      refine gv ?_
      exact qg [] (A:=A7) Bk U js (.inr hS2)
    ·have ct4:=c3
     have hs10:=hs3.trans (congrArg (dn1++·) (bf ct4))
     refine tk 17 U U (tk 18 U U (tk 19 U U ?_))
     refine tk 20 U U (tf 21 U U (fun _ _ _=>cr U) (cd kr ?_))
     refine ba U (ai (ao (ah (az (v':=I (((i1+1):Nat):Int)) U (bP ob) (aa (ac ?_))))))
     refine cE (L':=A1_) js ?_
     exact ag1 ((i1+1),dn1,A1_,hh1,rz1) _ (Nat.lt_succ_self _) ⟨bF hd1,aP hd1,hs10,hC1_,hl1⟩ rd
theorem qF (h:HF) (l:(List Interest)) (fc:Option Addr) (fb:Nat) (iD:Int) (known:Int) (hl:SlC Interest.rp h fc fb l):jP Tryz.prog 86 [.slice fc l.length fb,I iD,I known] h (fun v h'=>∃ (rv0:Value),v=rv0∧Itr Tryz.prog rv0 qf (bu l iD known) h'):=by
 refine aw Tryz.func86 U Tryz.ntmps86 U fun X hM hX=>?_
 have hs0:bu l iD known=bu l iD known:=rfl
 refine sr (dC (fun b1=>an (sr (a8 (oC (fun b2=>bT zc205 (fun b3=>du 0 ty205 U U U U U U (ac (ad (sr (aL 2 ty24 U U U (bE mJ U (aa ?_)))))))))))))
 refine ac ?_
 let z1:Nat×Obj:=(b1,O [.slice fc l.length fb] 24)
 let z2:Nat×Obj:=(b3,O [.map (some b2)] 205)
 refine bq (ι:=Nat×(List (cL×Interest))×Obj) (fun i=>[(3,Q b1),(7,Q b3)]) (fun i=>h) (fun i=>[z2,(b2,i.2.2),z1]) (fun i=>i.1≤l.length∧bu l iD known=((bu.K1 l) i.2.1)∧gJ cL.enc (kp Interest.rp) h i.2.2 i.2.1∧i.2.1.length≤0+i.1) ?_ (fun hx1=>?_)
 ·rintro ⟨i1,dx,jp⟩ ⟨bd,hs1,fS,jN⟩ e
  try dsimp only at bd fS jN
  try dsimp only
  refine sr (cn 2 U hM (fun h1 hle1 hb1=>cn 0 U hM (fun h2 hle2 hb2=>a8 (gj U U (an ?_)))))
  refine fV 0 U hM (fun h3 hle3 hb3=>?_)
  have mc1:ou cL.enc (kp Interest.rp) h3 b2 dx:=⟨_,hb3,(fS.mono (kp.mono Interest.aJ) (hle1.t hle2)).mono (kp.mono Interest.aJ) hle3⟩
  have hs2:bu l iD known=(bB l dx):=hs1
  exact dQ [.func (.func 146) #[] #[Q b1,Q b3]] Tryz.func86 U rd ⟨(.func (.func 146) #[] #[Q b1,Q b3]),congrArg (fun r:(List Interest)=>((.func (.func 146) #[] #[Q b1,Q b3]):Value)) hs2.symm,(by rw [hs2];exact (pw h3 l fc fb ⟨b1,0,none⟩ dx b2 ⟨b3,0,none⟩ (hl.mono Interest.aJ ((hle1.t hle2).t hle3)) ((dP hb1).mono (hle2.t hle3)) mc1 ((dP hb2).mono hle3)))⟩
 ·refine ck (ι:=Nat×(List (cL×Interest))×Obj×List Interest) (fun i=>[(1,I iD),(2,I known),(3,Q b1),(7,Q b3),(14,.slice fc l.length fb),(15,I ((l.length:Nat):Int)),(16,I ((i.1:Nat):Int))]) (fun i=>h) (fun i=>[z2,(b2,i.2.2.1),z1]) (fun i=>l.drop i.1=i.2.2.2∧i.1≤l.length∧bu l iD known=((bu.L1 iD known (bu.K1 l)) i.2.2.2 i.2.1)∧gJ cL.enc (kp Interest.rp) h i.2.2.1 i.2.1∧i.2.1.length≤0+i.1) (fun i=>i.2.2.2.length) (0,[],.map #[] 0,l) rd sw ⟨U,Nat.zero_le _,hs0,(gJ.nil (enc:=cL.enc) (V:=(kp Interest.rp)) (h:=h)),lc⟩ ?_
  rintro ⟨i1,dx,jp,s1⟩ ⟨hd1,bd,hs3,fS,jN⟩ ag1 e
  try dsimp only at hd1 bd fS jN
  rcases s1 with _ | ⟨y1,rz1⟩
  ·have dJ:=cS hd1
   try dsimp only
   refine sr (az (v':=.bool false) U (cb dJ) (ac (ad (ba U (bM U ?_)))))
   exact hx1 (i1,dx,jp) _ ⟨bd,hs3,fS,lc⟩ rd
  ·have dI:=dV hd1
   have bh:=cU hd1
   have e9:=aP hd1
   have gO:=hl.1.1
   try dsimp only
   refine sr (az (v':=.bool true) U (cb dI) (ac (ad (bj U (ai (ad (aU (sr (a8 (fZ (enc:=Interest.cells) (fun _ _ _ e=>e) mJ ty61 hl.1 (nthZ bh) (bA bh) U U U (fun q2 A2=>?_)))))))))))
   refine dT ty61 A2 U U (bT zc61 (fun b5=>bJ 0 ty61 U U U U U U (ac (ad (sr (ay se U (aL 0 ty3 U U U (aa (aF U (aa ?_))))))))))
   refine tq 5 [(1,I iD),(2,I known),(3,Q b1),(7,Q b3),(9,Q b5),(14,.slice fc l.length fb),(15,I ((l.length:Nat):Int)),(16,I ((i1:Nat):Int)),(29,.bool (decide (iD < y1.At)||decide (known < y1.Known)))] (fun hk1=>?_) (fun e=>?_)
   ·refine au 24 U (fun c1=>?_) (fun c1=>?_)
    ·refine kq (kq (ae U ?_))
     exact hk1 _ ⟨U,U,U,U,U,U,U,U,(cb (eB c1)),trivial⟩
    ·refine ay wq U (aL 0 ty3 U U U (aa (aF U (ae U ?_))))
     exact hk1 _ ⟨U,U,U,U,U,U,U,U,(cb (eE c1)),trivial⟩
   refine ac ?_
   refine aB U (fun c2=>?_) (fun c2=>?_)
   ·have hs5:=hs3.trans (bt c2)
    refine bM U (ah (az (v':=I (((i1+1):Nat):Int)) U (bP ob) (aa (ac ?_))))
    refine cE (L':=[z2,(b2,jp),z1]) js ?_
    exact ag1 ((i1+1),dx,jp,rz1) _ (Nat.lt_succ_self _) ⟨bF hd1,aP hd1,hs5,fS,lc⟩ rd
   ·have hs6:=hs3.trans (bf c2)
    refine ai (sr (ay mz U (aL 0 ty3 U U U (ay oU U (aL 0 ty3 U U U (ay uf U (aL 0 ty4 U U U (a8 (fO (cells:=[I y1.Person,I y1.Party,.bool y1.Of]) (places:=[(0,1),(1,1),(2,1)]) Ef zc207 kr kr ?_)))))))))
    refine bT zc207 (fun b6=>bJ 0 ty207 U U U U U U (ac (sr (aL 2 ty205 U U U (dh 0 ty207 U U U (a8 (wT 3 (k:=(cL.mk y1.Person y1.Party y1.Of)) Tryz.underlying205 pf U fS (jr zv61) (show (kp Interest.rp) _ (.agg (List.toArray [I 0,I 0,I 0,I 0,I 0,.bool false,.bool false])) (Interest.mk 0 0 0 0 0 false false) from ⟨_,U,U⟩) U U (fun v1 hv1=>?_))))))))
    obtain ⟨_,rfl,rfl⟩:=hv1
    refine aa (bR U U (bR U U (bT zc61 (fun b7=>bJ 0 ty61 U U U U U U (an (sr (aa (cR U (aa ?_)))))))))
    refine tq 6 [(1,I iD),(2,I known),(3,Q b1),(7,Q b3),(9,Q b5),(10,Q b6),(14,.slice fc l.length fb),(15,I ((l.length:Nat):Int)),(16,I ((i1:Nat):Int)),(51,.bool ((!(mhas dx (cL.mk y1.Person y1.Party y1.Of)))||decide ((mgetD dx (cL.mk y1.Person y1.Party y1.Of) (Interest.mk 0 0 0 0 0 false false)).At≤y1.At)))] (fun hk2=>?_) (fun e=>?_)
    ·refine au 45 U (fun c3=>?_) (fun c3=>?_)
     ·refine kq (kq (bY (ae U ?_)))
      exact hk2 _ ⟨U,U,U,U,U,U,U,U,U,(cb (eB c3)),trivial⟩
     ·refine ay se U (aL 2 ty3 U U U (ay se U (aL 0 ty3 U U U (aF U (ae U ?_)))))
      exact hk2 _ ⟨U,U,U,U,U,U,U,U,U,(cb (eE c3)),trivial⟩
    refine ac ?_
    refine aB U (fun c4=>?_) (fun c4=>?_)
    ·have hs7:=hs6.trans (bt c4)
     refine ah (aL 3 ty205 U U U (dh 1 ty207 U U U (dh 2 ty61 U U U (a8 (kg 4 (k:=(cL.mk y1.Person y1.Party y1.Of)) (x:=y1) Tryz.underlying205 pf U fS U U ⟨_,U,U⟩ (fun mo1 hm1=>ac (ao ?_)))))))
     refine ah (az (v':=I (((i1+1):Nat):Int)) U (bP ob) (aa (ac ?_)))
     refine cE (L':=[z2,(b2,mo1),z1]) js ?_
     exact ag1 ((i1+1),(mput dx (cL.mk y1.Person y1.Party y1.Of) y1),mo1,rz1) _ (Nat.lt_succ_self _) ⟨bF hd1,aP hd1,hs7,hm1,(by have:=gy dx (cL.mk y1.Person y1.Party y1.Of) y1;first | omega | (simp only [List.length_nil,List.length_cons] at *;omega))⟩ rd
    ·have hs8:=hs6.trans (bf c4)
     refine ai (ao (ah (az (v':=I (((i1+1):Nat):Int)) U (bP ob) (aa (ac ?_)))))
     refine cE (L':=[z2,(b2,jp),z1]) js ?_
     exact ag1 ((i1+1),dx,jp,rz1) _ (Nat.lt_succ_self _) ⟨bF hd1,aP hd1,hs8,fS,lc⟩ rd
theorem pM.mono {h h':HF} (hl:h.le h'):∀ {vs:List Value} {ws:List fY},pM h vs ws→pM h' vs ws
 | [],[],_=>trivial
 | _::_,_::_,⟨⟨r,e,o⟩,t⟩=>⟨⟨r,e,o.mono hl⟩,pM.mono hl t⟩
 | [],_::_,x=>x.elim
 | _::_,[],x=>x.elim
theorem pM.snoc {h:HF} {v:Value} {w:fY} (hw:∃ r,v=.agg (fY.cells w r).toArray∧fY.ok h w r):∀ {vs:List Value} {ws:List fY},pM h vs ws→pM h (vs++[v]) (ws++[w])
 | [],[],_=>⟨hw,trivial⟩
 | _::_,_::_,⟨a,t⟩=>⟨a,pM.snoc hw t⟩
 | [],_::_,x=>x.elim
 | _::_,[],x=>x.elim
theorem pM.len {h:HF}:∀ {vs:List Value} {ws:List fY},pM h vs ws→vs.length=ws.length
 | [],[],_=>rfl
 | _::_,_::_,⟨_,t⟩=>by simp [pM.len t]
 | [],_::_,x=>x.elim
 | _::_,[],x=>x.elim
theorem kj (h:HF) (w:fY) (IU:EV) (q1 q2:Addr) (bm bc:Nat) (om:Obj) (m:List (Int×Bool)) (cap s r:Nat) (vs:List Value) (q:List fY)
  (hw:fY.ok h w IU) (a1:At h q1 [.map (some bm)]) (a2:At h q2 [.chan (some bc)]) (hm:gJ (Value.int .i64) ir h om m) (hq:pM h vs q) (hroom:mgetD m w.to false=false→vs.length < cap):
  kS Tryz.prog (.func (.func 85) #[] #[.pointer (some q1),.pointer (some q2)]) #[.agg (fY.cells w IU).toArray] h [(bm,om),(bc,.chan cap vs.toArray false s r false)]
   (fun x h' B=>x=.returned (.tuple #[])∧h'=h∧∃ om' vs' s',gJ (Value.int .i64) ir h om' (conPut w m q).1∧pM h vs' (conPut w m q).2∧B=[(bm,om'),(bc,.chan cap vs'.toArray false s' r false)]):=by
 refine kE (args:=[.agg (fY.cells w IU).toArray]) (cap:=[.pointer (some q1),.pointer (some q2)]) Tryz.call85 ?_
 refine aw Tryz.func85 U Tryz.ntmps85 U fun X hM hX=>?_
 refine sr (dC (fun b1=>ac ?_))
 refine sr (eM ty120 a1 U (ay us U (aL 0 ty3 U U U ?_)))
 refine a8 (wU 1 (k:=w.to) kW (e7 kx) U hm (jr zv4) (show ir _ (.bool false) false from U) U U (fun v hv=>?_))
 obtain rfl:=hv
 cases hc:mgetD m w.to false with
 | true=>
  refine cR U (ac (ba U (ai ?_)))
  have e1:conPut w m q=(m,q):=by simp [conPut,hc]
  refine uE Tryz.func85 (fun a ha w hw=>kF U a w) (fun w hw=>(hw.sub (L':=[(bm,om),(bc,.chan cap vs.toArray false s r false)]) js).lower) ⟨U,hX,om,vs,s,?_,?_,U⟩
  ·rw [e1];exact hm
  ·rw [e1];exact hq
 | false=>
  refine cR U (ac (bj U ?_))
  have e1:conPut w m q=(mput m w.to true,q++[w]):=by simp [conPut,hc]
  refine sr (eM ty120 a1 U (ay us U (aL 0 ty3 U U U ?_)))
  refine a8 (kg 1 (k:=w.to) (x:=true) kW (e7 kx) U hm U U U (fun om' hm'=>ac ?_))
  refine ah (eM ty146 a2 U (dh 0 ty148 U U U ?_))
  refine IB 2 U U U (hroom hc) (ac ?_)
  refine uE Tryz.func85 (fun a ha w hw=>kF U a w) (fun ww hww=>(hww.sub (L':=[(bm,om'),(bc,.chan cap (vs++[Value.agg (fY.cells w IU).toArray]).toArray false (s+1) r false)]) js).lower) ⟨U,hX,om',vs++[.agg (fY.cells w IU).toArray],s+1,?_,?_,U⟩
  ·rw [e1];exact hm'
  ·rw [e1];exact pM.snoc ⟨IU,rfl,hw⟩ hq
theorem V3.mono:uB V3:=fun _ _ _ _ _ e=>e
theorem FR.mono {h h':HF} (hl:h.le h'):∀ {m:List (Int×Option Addr×Nat×Nat)} {f:List (Int×List Interest)} {G:LH},FR h m f G→FR h' m f G
 | [],[],_,e=>e
 | (_,_)::_,(_,_)::_,_,⟨a,b,G1,G2,c,d,t⟩=>⟨a,b,G1,G2,c,d.mono Interest.aJ hl,FR.mono hl t⟩
 | [],(_,_)::_,_,x=>x.elim
 | (_,_)::_,[],_,x=>x.elim
theorem FR.get {h:HF} (k:Int):∀ {m:List (Int×Option Addr×Nat×Nat)} {f:List (Int×List Interest)} {G:LH},FR h m f G →
  ∃ b c G1 G2,mgetD m k (none,0,0)=(b,(mgetD f k []).length,c)∧ei Interest.rp 61 h (mgetD f k []) b c G1∧G.Perm (G1++G2) ∧
   ∀ b' c' xs' G1',ei Interest.rp 61 h xs' b' c' G1'→∃ G',FR h (mput m k (b',xs'.length,c')) (mput f k xs') G'∧G'.Perm (G1'++G2)
 | [],[],G,e=>by
  subst e
  refine ⟨none,0,[],[],U,ei.nil,List.Perm.refl _,fun b' c' xs' G1' hG=>⟨G1',⟨U,U,G1',[],by simp,hG,U⟩,by simp⟩⟩
 | (k0,x)::m,(k',xs)::f,G,⟨e,hn,G1,G2,hG,hg,t⟩=>by
  subst e hG
  by_cases hk:k=k0
  ·subst hk
   refine ⟨x.1,x.2.2,G1,G2,?_,?_,List.Perm.refl _,fun b' c' xs' G1' hG'=>⟨G1'++G2,?_,List.Perm.refl _⟩⟩
   ·simp [mgetD,mget?,← hn]
   ·simpa [mgetD,mget?] using hg
   ·simp only [mput,if_true]
    exact ⟨U,U,G1',G2,U,hG',t⟩
  ·obtain ⟨b,c,H1,H2,h1,h2,h3,h4⟩:=FR.get k t
   refine ⟨b,c,H1,G1++H2,?_,?_,?_,fun b' c' xs' G1' hG'=>?_⟩
   ·simpa [mgetD,mget?,hk] using h1
   ·simpa [mgetD,mget?,hk] using h2
   ·refine (List.Perm.append_left G1 h3).trans ?_
    rw [← List.append_assoc,← List.append_assoc];exact List.Perm.append_right H2 List.perm_append_comm
   ·obtain ⟨G',g1,g2⟩:=h4 b' c' xs' G1' hG'
    refine ⟨G1++G',?_,?_⟩
    ·simp only [mput,hk,if_false]
     exact ⟨U,hn,G1,G',U,hg,g1⟩
    ·refine (List.Perm.append_left G1 g2).trans ?_
     rw [← List.append_assoc,← List.append_assoc];exact List.Perm.append_right H2 List.perm_append_comm
 | [],(_,_)::_,_,x=>x.elim
 | (_,_)::_,[],_,x=>x.elim
theorem FR.keys {h:HF}:∀ {m:List (Int×Option Addr×Nat×Nat)} {f:List (Int×List Interest)} {G:LH},FR h m f G→m.map (·.1)=f.map (·.1)
 | [],[],_,_=>rfl
 | (_,_)::_,(_,_)::_,_,⟨a,_,_,_,_,_,t⟩=>by simp [a,FR.keys t]
 | [],(_,_)::_,_,x=>x.elim
 | (_,_)::_,[],_,x=>x.elim
theorem FR.mem {h:HF}:∀ {m:List (Int×Option Addr×Nat×Nat)} {f:List (Int×List Interest)} {G:LH},FR h m f G→(m.map (·.1)).Nodup→∀ p∈m,p.2.2.1=(mgetD f p.1 []).length∧∃ G1,(∀ q∈G1,q∈G)∧ei Interest.rp 61 h (mgetD f p.1 []) p.2.1 p.2.2.2 G1
 | [],[],_,_,_,_,hp=>(List.not_mem_nil hp).elim
 | (k,x)::m,(k',xs)::f,G,⟨e,hn,G1,G2,hG,hg,t⟩,hnd,p,hp=>by
  subst e hG
  rw [List.map_cons,List.nodup_cons] at hnd
  rcases List.mem_cons.1 hp with rfl | hp
  ·exact ⟨by simp [mgetD,mget?,hn],G1,fun q hq=>List.mem_append_left _ hq,by simpa [mgetD,mget?] using hg⟩
  ·have hne:¬ p.1=k:=fun e=>hnd.1 (by have h9:=List.mem_map_of_mem (f:=(·.1)) hp;rw [e] at h9;exact h9)
   obtain ⟨h1,H,h2,h3⟩:=FR.mem t hnd.2 p hp
   exact ⟨by simpa [mgetD,mget?,hne] using h1,H,fun q hq=>List.mem_append_right _ (h2 q hq),by simpa [mgetD,mget?,hne] using h3⟩
 | [],(_,_)::_,_,x,_,_,_=>x.elim
 | (_,_)::_,[],_,x,_,_,_=>x.elim
theorem B8 {α : Type}:∀ {f:List (Int×α)} (z:α),(f.map (·.1)).Nodup→f=f.map fun p=>(p.1,mgetD f p.1 z)
 | [],_,_=>rfl
 | (k,x)::f,z,hn=>by
  rw [List.map_cons,List.nodup_cons] at hn
  rw [List.map_cons]
  congr 1
  ·simp [mgetD,mget?]
  ·have ih:=B8 z hn.2
   conv=>lhs;rw [ih]
   apply List.map_congr_left
   intro p hp
   have hne:¬ p.1=k:=fun e=>hn.1 (by have h9:=List.mem_map_of_mem (f:=(·.1)) hp;rw [e] at h9;exact h9)
   simp [mgetD,mget?,hne]
theorem C7 {h:HF} {h2:HF} (g:Int→List Interest):∀ {es:List MapEntry} {m:List (Int×Option Addr×Nat×Nat)},mR (Value.int .i64) V3 h es m →
  (∀ p∈m,p.2.2.1=(g p.1).length∧SlC Interest.rp h2 p.2.1 p.2.2.2 (g p.1))→mR (Value.int .i64) (VSl Interest.rp) h2 es (m.map fun p=>(p.1,g p.1))
 | [],[],_,_=>trivial
 | e::es,(k,x)::m,⟨a,b,c⟩,hg=>by
  obtain ⟨h1,h3⟩:=hg (k,x) (List.mem_cons_self ..)
  refine ⟨a,⟨x.1,x.2.2,?_,h3⟩,C7 g c fun p hp=>hg p (List.mem_cons_of_mem _ hp)⟩
  rw [show e.val=.slice x.1 x.2.1 x.2.2 from b,h1]
 | [],_::_,x,_=>x.elim
 | _::_,[],x,_=>x.elim
theorem FR.frozen {h h2:HF} {o:Obj} {m:List (Int×Option Addr×Nat×Nat)} {f:List (Int×List Interest)} {G:LH} (hm:gJ (Value.int .i64) V3 h o m) (hf:FR h m f G) (hl:h.le h2) (hG:∀ p∈G,h2 p.1=some p.2):
  gJ (Value.int .i64) (VSl Interest.rp) h2 o f:=by
 have hnd:=hm.nodup
 have hk:=hf.keys
 obtain ⟨m',hp,hn,es,c,rfl,hE,h1,h3⟩:=hm
 have hmem:=hf.mem hnd
 have hfe:=B8 (f:=f) [] (hk ▸ hnd)
 have hfm:f=m.map fun p=>(p.1,mgetD f p.1 []):=by
  have e1:(f.map fun p=>(p.1,mgetD f p.1 []))=(f.map (·.1)).map fun k=>(k,mgetD f k []):=by rw [List.map_map];rfl
  have e2:(m.map fun p=>(p.1,mgetD f p.1 []))=(m.map (·.1)).map fun k=>(k,mgetD f k []):=by rw [List.map_map];rfl
  rw [e2,hk,← e1];exact hfe
 refine ⟨m'.map fun p=>(p.1,mgetD f p.1 []),?_,?_,es,c,U,C7 (fun k=>mgetD f k []) hE fun p hp'=>?_,h1,h3⟩
 ·have hpm:=hp.map fun p=>(p.1,mgetD f p.1 ([]:List Interest))
  rw [← hfm] at hpm;exact hpm
 ·rw [List.map_map];exact hn
 ·obtain ⟨h5,G1,h6,h7⟩:=hmem p (hp.mem_iff.1 hp')
  exact ⟨h5,h7.frozen Interest.aJ hl fun q hq=>hG q (h6 q hq)⟩
theorem yt (k:Int→Int):∀ (l:List Int) (g:Int),cg.L1 k l g=0→(∀ x∈l,g < x∧x≤1048576)∧l.Pairwise (· < ·)∧∃ g',k g'=0
 | [],g,h=>⟨fun _ h=>(List.not_mem_nil h).elim,List.Pairwise.nil,g,h⟩
 | y::l,g,h=>by
  simp only [cg.L1,Bool.cond_eq_ite,Bool.or_eq_true,decide_eq_true_eq] at h
  split at h
  ·omega
  ·next hc=>
   obtain ⟨h1,h2,h3⟩:=yt k l y h
   refine ⟨fun x hx=>?_,List.pairwise_cons.2 ⟨fun x hx=>(h1 x hx).1,h2⟩,h3⟩
   rcases List.mem_cons.1 hx with rfl | hx
   ·omega
   ·have:=h1 x hx;omega
theorem wh {l:List Interest} {person:Int} {parties:List Int} {a b:Int} (h:cg l person parties a b=0):parties.Pairwise (·≤·)∧parties.length≤16:=by
 unfold cg at h
 rw [Bool.cond_eq_ite] at h
 split at h
 ·next hc=>simp at hc;exact absurd h hc
 ·obtain ⟨_,h2,g',h3⟩:=yt _ _ _ h
  refine ⟨h2.imp (fun h=>Int.le_of_lt h),?_⟩
  unfold cg.K1 at h3
  rw [Bool.cond_eq_ite] at h3
  split at h3
  ·omega
  ·next hc=>
   simp only [Bool.or_eq_true,not_or,decide_eq_true_eq] at hc
   omega
theorem nM (h:HF) (b:Option Addr) (n c:Nat) (hc:n≤c):Ret Tryz.prog 88 [.slice b n c] h (.slice b n n):=by
 refine aw Tryz.func88 U Tryz.ntmps88 U fun X hM hX=>?_
 refine sr (an (sr (aa (aa (bE eG U (aa (bE eG U ?_)))))))
 refine a8 (gW (Iu eG ty3 U U U hc) (an ?_))
 exact ar [.slice b n n] Tryz.func88 U hX rd U
theorem qG (h:HF) (l:List Interest) (fc:Option Addr) (fb:Nat) (person:Int) (parties:List Int) (iU:Option Addr) (iT:Nat) (hZ known:Int)
  (hl:SlC Interest.rp h fc fb l) (hparties:SlC Rp.int h iU iT parties) (hsz:l.length≤2000000):
  jP Tryz.prog 45 [.slice fc l.length fb,I person,.slice iU parties.length iT,I hZ,I known] h
   (fun v h'=>∃ (rb0:Option Addr) (rc0:Nat),v=.tuple #[.slice rb0 ((dc l person parties hZ known).1.length) rc0,.bool ((dc l person parties hZ known).2.1),I ((dc l person parties hZ known).2.2)]∧SlC Rp.int h' rb0 rc0 ((dc l person parties hZ known).1)):=by
 refine aw D6 U Tryz.ntmps45 U fun X hM hX=>?_
 refine sr (dC (fun b1=>bi (bi (an ?_))))
 refine ad (sr (aa (aL 0 ty3 U U U (aa (aa (aa (aA (v:=I (cg l person parties hZ known)) Tryz.call84 (rF h l fc fb person parties iU iT hZ known hl hparties) U (an ?_))))))))
 refine sr (aa (aF U (ac ?_)))
 refine aB U (fun c1=>?_) (fun c1=>?_)
 ·have e1:dc l person parties hZ known=([],false,cg l person parties hZ known):=by unfold dc;rw [c1];rfl
  refine sr (aa (bi (bi (an ?_))))
  exact dQ [.slice none 0 0,.bool false,I (cg l person parties hZ known)] D6 U rd ⟨none,0,by rw [e1];rfl,by rw [e1];exact SlC.nil⟩
 ·have hex:cg l person parties hZ known=0:=by simpa using c1
  obtain ⟨hps,hpl⟩:=wh hex
  have e1:dc l person parties hZ known=((conFind l person parties (bu l hZ known)).1,(conFind l person parties (bu l hZ known)).2,0):=by unfold dc;rw [c1];rfl
  rw [e1]
  have hstl:=Bu l hZ known
  generalize hst:bu l hZ known=st at hstl
  refine ai (sr (a8 (oC (fun bf=>bT zc145 (fun b14=>du 0 ty145 U U U U U U (ac ?_))))))
  refine sr (a8 (oC (fun bm=>bT zc120 (fun b15=>du 0 ty120 U U U U U U (ac ?_)))))
  refine sr (aa (bE mJ U ?_))
  refine a8 (Gi Tryz.underlying146 bytes148 U ob (by decide) (fun bc=>bT zc146 (fun b16=>du 0 ty146 U U U U U U (ac ?_))))
  refine sr (a8 (gj U U (bT zc149 (fun b17=>du 0 ty149 U U U U U U (ac ?_)))))
  refine fV 0 U hM (fun h1 l1 f17=>fV 0 U hM (fun h2 l2 f16=>fV 1 U hM (fun h3 l3 f15=>fV 2 U hM (fun h4 l4 f14=>fV 3 U hM (fun h5 l5 f1=>?_)))))
  have a17:=(dP f17).mono (l2.t (l3.t (l4.t l5)))
  have a16:=(dP f16).mono (l3.t (l4.t l5))
  have a15:=(dP f15).mono (l4.t l5)
  have a14:=(dP f14).mono l5
  have a1:=dP f1
  have l05:h.le h5:=HF.le_trans l1 (l2.t (l3.t (l4.t l5)))
  clear f17 f16 f15 f14 f1 l1 l2 l3 l4 l5
  try dsimp only
  refine ad (sr (aa (aa (aa ?_))))
  refine a8 (dp Tryz.call86 (qF h5 l fc fb hZ known (hl.mono Interest.aJ l05)) U (fun v1 h6 l6 hp1=>?_))
  obtain ⟨_,rfl,hit⟩:=hp1
  rw [hst] at hit
  refine ac (aU ?_)
  refine gv ?_
  refine kc (it:=v1) (xs:=st) (ι:=List (Int×List Interest)×List (Int×Bool)×List fY×List Value×Nat×Obj×List (Int×Option Addr×Nat×Nat)×Obj×LH×HF) [] (fun i=>i.2.2.2.2.2.2.2.2.2)
   (fun i=>[(bc,.chan l.length i.2.2.2.1.toArray false i.2.2.2.2.1 0 false),(bm,i.2.2.2.2.2.1),(bf,i.2.2.2.2.2.2.2.1)]++i.2.2.2.2.2.2.2.2.1)
   (fun rest i=>(conFill person rest i.1 i.2.1 i.2.2.1=conFill person st [] [] []∧(∀ x∈rest,x∈st))∧(pM i.2.2.2.2.2.2.2.2.2 i.2.2.2.1 i.2.2.1∧gJ (Value.int .i64) ir i.2.2.2.2.2.2.2.2.2 i.2.2.2.2.2.1 i.2.1∧gJ (Value.int .i64) V3 i.2.2.2.2.2.2.2.2.2 i.2.2.2.2.2.2.2.1 i.2.2.2.2.2.2.1∧FR i.2.2.2.2.2.2.2.2.2 i.2.2.2.2.2.2.1 i.1 i.2.2.2.2.2.2.2.2.1)∧(mI st i.2.1 i.2.2.1∧yH st i.1)∧h6.le i.2.2.2.2.2.2.2.2.2∧(∀ k,(mgetD i.1 k []).length+rest.length≤l.length))
   (fun _=>False) (fun _=>False) 0 (fun _ _ _=>False) ([],[],[],[],0,.map #[] 0,[],.map #[] 0,[],h6) D6 rfl hit rfl uQ (fun _ _ _ _ _ hq=>hq) rfl rfl
   ⟨⟨rfl,fun _ hx=>hx⟩,⟨trivial,gJ.nil,gJ.nil,rfl⟩,⟨⟨fun _ hp=>(List.not_mem_nil hp).elim,Nat.le_refl _,fun _ hp=>(List.not_mem_nil hp).elim⟩,fun _ _ hx=>(List.not_mem_nil hx).elim⟩,HF.le_refl _,fun k=>by simp [mgetD,mget?];exact hstl⟩ ?_ ?_ (fun _ _ _ hF=>hF.elim) (fun _ _ _ hF=>hF.elim) (fun _ _ _ _ hF=>hF.elim)
  ·rintro l1 r1 lp1 x rest vs1 ⟨f,m,q,vs,s,om,m3,o3,Gf,hh⟩ h7 X' hFR ⟨⟨hfill,hin⟩,⟨hwy,hmm,hm3,hfr⟩,⟨hgq,hgf⟩,h6h,hlen⟩ h67 hh7 hv hX' hXM hlp nx rt ex pn
   dsimp only at hfill hin hwy hmm hm3 hfr hgq hgf h6h hh7 hlen
   obtain rfl:=hv
   have hxst:x∈st:=hin x (List.mem_cons_self ..)
   have hin':∀ y∈rest,y∈st:=fun y hy=>hin y (List.mem_cons_of_mem _ hy)
   have h57:h5.le h7:=HF.le_trans l6 h67
   replace hwy:=hwy.mono hh7
   replace hmm:=hmm.mono ir.mono hh7
   replace hm3:=hm3.mono V3.mono hh7
   replace hfr:=hfr.mono hh7
   have h67':h6.le h7:=h67
   clear hh7 h6h
   refine ah (bT zc61 (fun b18=>bJ 0 ty61 U U U U U U (ac ?_)))
   refine kd 1 U hlp (aU (aU ?_))
   refine dW (L':=[(b18,.cells (Interest.cells x).toArray 61 (0,0)),(l1,.loop { lp1 with state:=.busy }),(r1,.deferred (some [])),(bc,.chan l.length vs.toArray false s 0 false),(bm,om),(bf,o3)]++Gf) (by simp [markB,setNth]) ?_
   refine sr (ay uf U (aL 0 ty4 U U U (an ?_)))
   refine aB U (fun cO=>?_) (fun cO=>?_)
   ·obtain ⟨gb,gc,G1,G2,hget,hgrow,hperm,hput⟩:=hfr.get x.Person
    have hlx:=hlen x.Person
    simp only [List.length_cons] at hlx
    have hnext:conFill person rest (mput f x.Person (mgetD f x.Person []++[x])) m q=conFill person st [] [] []:=by
     rw [← hfill];simp [conFill,cO]
    have hlen':∀ k,(mgetD (mput f x.Person (mgetD f x.Person []++[x])) k []).length+rest.length≤l.length:=fun k=>by
     rw [xz]
     split
     ·simp only [List.length_append,List.length_cons,List.length_nil];omega
     ·have:=hlen k;simp only [List.length_cons] at this;omega
    have fin:∀ (e':Env) (b8:Nat) (o8:Obj) (o3':Obj) (gb':Option Addr) (gc':Nat) (G1':LH),ei Interest.rp 61 h7 (mgetD f x.Person []++[x]) gb' gc' G1'→gJ (Value.int .i64) V3 h7 o3' (mput m3 x.Person (gb',(mgetD f x.Person []++[x]).length,gc')) →
      TT Tryz.prog (roundFrame l1 45) 111 [.inBlock 2,.inBlock 1] hFR e' [] X' h7 ([(b8,o8),(b18,.cells (Interest.cells x).toArray 61 (0,0)),(l1,.loop { lp1 with state:=.busy }),(r1,.deferred (some [])),(bc,.chan l.length vs.toArray false s 0 false),(bm,om),(bf,o3')]++(G2++G1')):=by
     intro e' b8 o8 o3' gb' gc' G1' hG' hm'
     obtain ⟨G',hfr',hp'⟩:=hput gb' gc' _ G1' hG'
     refine ao (ao ?_)
     refine cE (L':=[(l1,.loop { lp1 with state:=.busy }),(r1,.deferred (some [])),(bc,.chan l.length vs.toArray false s 0 false),(bm,om),(bf,o3')]++(G2++G1')) js ?_
     refine nu (L':=[(l1,.loop { lp1 with state:=.busy }),(r1,.deferred (some [])),(bc,.chan l.length vs.toArray false s 0 false),(bm,om),(bf,o3')]++G') (List.Perm.append_left _ (List.perm_append_comm.trans hp'.symm)) ?_
     refine dW (L':=rdH l1 r1 lp1 (([(bc,.chan l.length vs.toArray false s 0 false),(bm,om),(bf,o3')]++G')++markB [])) (by simp [markB]) ?_
     exact nx (mput f x.Person (mgetD f x.Person []++[x]),m,q,vs,s,om,mput m3 x.Person (gb',(mgetD f x.Person []++[x]).length,gc'),o3',G',h7) _ _ ⟨⟨hnext,hin'⟩,⟨hwy,hmm,hm',hfr'⟩,⟨hgq,hgf.put hxst⟩,h67',hlen'⟩ (HF.le_refl _)
    have hJ:∀ {L:LH},Jst h7 [(b18,.cells (Interest.cells x).toArray 61 (0,0))] h7 ((b18,.cells (Interest.cells x).toArray 61 (0,0))::L):=AJ js
    have hJ2:∀ {L:LH} {p:Nat×Obj},Jst h7 [(b18,.cells (Interest.cells x).toArray 61 (0,0))] h7 (p::(b18,.cells (Interest.cells x).toArray 61 (0,0))::L):=AJ js
    refine gr [(b18,.cells (Interest.cells x).toArray 61 (0,0))] mixed kr hJ (fun hsep _=>?_)
    refine nL 0 hsep hJ U U kr U (fun _ _ hj=>gu ty145 ((a14.mono h57).mono hj.1) U) ?_
    refine nL 1 hsep hJ U U kr U (fun _ _ _=>dO mz U) ?_
    refine nL 2 hsep hJ U U kr U (fun _ _ hj=>hY ty3 U (hj.nth (i:=0) U) U) ?_
    refine nL 3 hsep hJ U U kr U (fun _ _ hj=>gu ty145 ((a14.mono h57).mono hj.1) U) ?_
    refine nL 4 hsep hJ U U kr U (fun _ _ _=>dO mz U) ?_
    refine nL 5 hsep hJ U U kr U (fun _ _ hj=>hY ty3 U (hj.nth (i:=0) U) U) ?_
    refine nL 7 hsep hJ U U kr U (fun _ _ hj=>kZ ty61 U (hj.nth (i:=0) U) U) ?_
    refine lQ 6 8 kr U U ?_ ?_
    ·refine wU 5 (k:=x.Person) D5 (e7 kx) U hm3 (jr zv24) (show V3 _ (.slice none 0 0) (none,0,0) from U) U U (fun v hv=>?_)
     rw [hget] at hv
     obtain rfl:=hv
     refine ⟨hJ,?_⟩
     refine tn 8 U (cf (cells:=Interest.cells x) mJ ty61 zc61 U U kr (fun b8=>⟨hJ2,?_⟩))
     refine tn 9 U (Gg (List.Perm.append_left ([(b8,.cells (Interest.cells x).toArray 61 (0,0)),(b18,.cells (Interest.cells x).toArray 61 (0,0)),(l1,.loop { lp1 with state:=.busy }),(r1,.deferred (some [])),(bc,.chan l.length vs.toArray false s 0 false),(bm,om),(bf,o3)]:LH) hperm) ?_)
     refine eK Interest.eZ [(b8,.cells (Interest.cells x).toArray 61 (0,0)),(b18,.cells (Interest.cells x).toArray 61 (0,0)),(l1,.loop { lp1 with state:=.busy }),(r1,.deferred (some [])),(bc,.chan l.length vs.toArray false s 0 false),(bm,om),(bf,o3)] G2 (fun G=>[(b8,.cells (Interest.cells x).toArray 61 (0,0)),(b18,.cells (Interest.cells x).toArray 61 (0,0)),(l1,.loop { lp1 with state:=.busy }),(r1,.deferred (some [])),(bc,.chan l.length vs.toArray false s 0 false),(bm,om),(bf,o3)]++(G2++G)) U (fun _=>U) mJ ty61 zc61 U bytes61 hgrow U U (ff 0 U (show bW Interest.rp h7 (Interest.cells x) [x] from ⟨Interest.cells x,[],by simp,U,U,U⟩)) lo lo (fun gb' gc' G1' hG'=>⟨hJ2,?_⟩)
     refine tn 10 U (kg 6 (k:=x.Person) (x:=(gb',(mgetD f x.Person []++[x]).length,gc')) D5 (e7 kx) U hm3 U U U (fun o3' hm'=>⟨hJ2,?_⟩))
     exact cd kr (fin _ b8 _ o3' gb' gc' G1' hG' hm')
    ·refine cf (cells:=Interest.cells x) mJ ty61 zc61 U U kr (fun b8=>⟨hJ2,?_⟩)
     refine tn 6 U (wU 6 (k:=x.Person) D5 (e7 kx) U hm3 (jr zv24) (show V3 _ (.slice none 0 0) (none,0,0) from U) U U (fun v hv=>?_))
     rw [hget] at hv
     obtain rfl:=hv
     refine ⟨hJ2,?_⟩
     refine tn 9 U (Gg (List.Perm.append_left ([(b8,.cells (Interest.cells x).toArray 61 (0,0)),(b18,.cells (Interest.cells x).toArray 61 (0,0)),(l1,.loop { lp1 with state:=.busy }),(r1,.deferred (some [])),(bc,.chan l.length vs.toArray false s 0 false),(bm,om),(bf,o3)]:LH) hperm) ?_)
     refine eK Interest.eZ [(b8,.cells (Interest.cells x).toArray 61 (0,0)),(b18,.cells (Interest.cells x).toArray 61 (0,0)),(l1,.loop { lp1 with state:=.busy }),(r1,.deferred (some [])),(bc,.chan l.length vs.toArray false s 0 false),(bm,om),(bf,o3)] G2 (fun G=>[(b8,.cells (Interest.cells x).toArray 61 (0,0)),(b18,.cells (Interest.cells x).toArray 61 (0,0)),(l1,.loop { lp1 with state:=.busy }),(r1,.deferred (some [])),(bc,.chan l.length vs.toArray false s 0 false),(bm,om),(bf,o3)]++(G2++G)) U (fun _=>U) mJ ty61 zc61 U bytes61 hgrow U U (ff 0 U (show bW Interest.rp h7 (Interest.cells x) [x] from ⟨Interest.cells x,[],by simp,U,U,U⟩)) lo lo (fun gb' gc' G1' hG'=>⟨hJ2,?_⟩)
     refine tn 10 U (kg 6 (k:=x.Person) (x:=(gb',(mgetD f x.Person []++[x]).length,gc')) D5 (e7 kx) U hm3 U U U (fun o3' hm'=>⟨hJ2,?_⟩))
     exact cd kr (fin _ b8 _ o3' gb' gc' G1' hG' hm')
   ·refine sr (ay mz U (aL 0 ty3 U U U (eM ty3 (a1.mono h57) U (aF U (an ?_)))))
    have hlen':∀ k,(mgetD f k []).length+rest.length≤l.length:=fun k=>by have:=hlen k;simp only [List.length_cons] at this;omega
    refine aB U (fun cP=>?_) (fun cP=>?_)
    ·have hnext:conFill person rest f (conPut ⟨[x.No],x.Party⟩ m q).1 (conPut ⟨[x.No],x.Party⟩ m q).2=conFill person st [] [] []:=by
      rw [← hfill];simp only [conFill,cO,cond_false,cP,cond_true]
     have hpty:(fY.mk [x.No] x.Party).to∈st.map (·.Party):=List.mem_map_of_mem hxst
     refine ah (eM ty149 (a17.mono h57) U (ay nD U (aL 0 ty3 U U U ?_)))
     refine a8 (E5 (cells:=[I x.No]) hXM eG ty3 zc3 U U kr (fun b65 hb65=>?_))
     refine wH 0 U hb65 (fun h8 l8 f8=>?_)
     have sl8:SlC Rp.int h8 (some ⟨b65,0,none⟩) 1 [x.No]:=bW.slB0 (T:=3) (fz:=(0,0)) (show bW Rp.int h8 [I x.No] [x.No] from ⟨[I x.No],[],rfl,rfl,rfl,rfl⟩) f8
     refine ay oU U (aL 0 ty3 U U U ?_)
     refine a8 (fO (cells:=fY.cells ⟨[x.No],x.Party⟩ ⟨some ⟨b65,0,none⟩,1⟩) (places:=[(0,1),(1,1)]) Tryz.underlying148 zc148 kr kr ?_)
     refine a8 (An (vs:=[.agg (fY.cells ⟨[x.No],x.Party⟩ ⟨some ⟨b65,0,none⟩,1⟩).toArray]) [(bm,om),(bc,.chan l.length vs.toArray false s 0 false)] ([(b18,.cells (Interest.cells x).toArray 61 (0,0)),(l1,.loop { lp1 with state:=.busy }),(r1,.deferred (some [])),(bf,o3)]++Gf) ?_
      (kj h8 ⟨[x.No],x.Party⟩ ⟨some ⟨b65,0,none⟩,1⟩ ⟨b15,0,none⟩ ⟨b16,0,none⟩ bm bc om m l.length s 0 vs q ⟨sl8⟩ (a15.mono (h57.t l8)) (a16.mono (h57.t l8)) (hmm.mono ir.mono l8) (hwy.mono l8) (fun hno=>by rw [hwy.len];exact rR hgq hmm.nodup hpty hstl hno)) rfl rfl (fun B hB=>?_))
     ·exact rX [(b18,.cells (Interest.cells x).toArray 61 (0,0)),(l1,.loop { lp1 with state:=.busy }),(r1,.deferred (some []))] ((bf,o3)::Gf) (bc,.chan l.length vs.toArray false s 0 false) (bm,om)
     obtain ⟨om',vs',s',hm',hw',rfl⟩:=hB
     refine ac (ao (ao ?_))
     refine cE (L':=[(bm,om'),(bc,.chan l.length vs'.toArray false s' 0 false)]++([(l1,.loop { lp1 with state:=.busy }),(r1,.deferred (some [])),(bf,o3)]++Gf)) js ?_
     refine nu (L':=rdH l1 r1 lp1 (([(bc,.chan l.length vs'.toArray false s' 0 false),(bm,om'),(bf,o3)]++Gf)++markB [])) ?_ ?_
     ·rw [show markB []=([]:LH) from rfl,List.append_nil]
      exact (rX [(l1,Obj.loop { lp1 with state:=.busy }),(r1,.deferred (some []))] ((bf,o3)::Gf) (bc,.chan l.length vs'.toArray false s' 0 false) (bm,om')).symm
     exact nx (f,(conPut ⟨[x.No],x.Party⟩ m q).1,(conPut ⟨[x.No],x.Party⟩ m q).2,vs',s',om',m3,o3,Gf,h8) _ _ ⟨⟨hnext,hin'⟩,⟨hw',hm',hm3.mono V3.mono l8,hfr.mono l8⟩,⟨md hgq hpty (by simp),hgf⟩,HF.le_trans h67' l8,hlen'⟩ (HF.le_refl _)
    ·have hnext:conFill person rest f m q=conFill person st [] [] []:=by
      rw [← hfill];simp only [conFill,cO,cond_false,cP]
     refine ai (ao (ao ?_))
     refine cE (L':=[(l1,.loop { lp1 with state:=.busy }),(r1,.deferred (some [])),(bc,.chan l.length vs.toArray false s 0 false),(bm,om),(bf,o3)]++Gf) js ?_
     refine dW (L':=rdH l1 r1 lp1 (([(bc,.chan l.length vs.toArray false s 0 false),(bm,om),(bf,o3)]++Gf)++markB [])) (by simp [markB]) ?_
     exact nx (f,m,q,vs,s,om,m3,o3,Gf,h7) _ _ ⟨⟨hnext,hin'⟩,⟨hwy,hmm,hm3,hfr⟩,⟨hgq,hgf⟩,h67',hlen'⟩ (HF.le_refl _)
  ·rintro dm ⟨f,m0,q0,vs0,s0,om0,m3,o3,Gf,hh⟩ h7 ⟨⟨hfill,_⟩,⟨hwy,hmm,hm3,hfr⟩,⟨hgq,hgf⟩,h6h,hlen⟩ hh7 h67
   dsimp only at hfill hwy hmm hm3 hfr hgq hgf h6h hh7 hlen
   refine ao ?_
   refine fV 2 U hM (fun h8 l8 f8=>?_)
   refine Dz [(bc,.chan l.length vs0.toArray false s0 0 false),(bm,om0)] Gf (markB [dm]) U hM (fun h9 l9 hG9=>?_)
   have h89:hh.le h9:=HF.le_trans hh7 (l8.t l9)
   have hmF:gJ (Value.int .i64) (VSl Interest.rp) h9 o3 f:=FR.frozen hm3 hfr h89 hG9
   have hbf:h9 bf=some o3:=l9 _ _ f8
   have h59:h5.le h9:=HF.le_trans l6 (h67.t (l8.t l9))
   replace a14:=a14.mono h59
   replace a15:=a15.mono h59
   replace a16:=a16.mono h59
   replace a17:=a17.mono h59
   have hpar:=(hparties.mono Rp.cm l05).mono Rp.cm h59
   have hcf:conFind l person parties st=conLoop parties f (l.length+1) m0 q0:=by
    unfold conFind;rw [← hfill];rfl
   have hwy0:=hwy.mono h89
   have hmm0:=hmm.mono ir.mono h89
   clear hwy hmm hm3 hfr hG9 l8 f8 h6h hh7 h67 hfill a1
   generalize hCF:conFind l person parties st=CF at hcf
   refine ad ?_
   refine bq (ι:=List Value×Nat×Nat×Obj×HF) (fun i=>[]) (fun i=>i.2.2.2.2) (fun i=>[(bc,.chan l.length i.1.toArray false i.2.1 i.2.2.1 false),(bm,i.2.2.2.1)]++markB [dm]) (fun i=>CF=([],false)) ?_ (fun hx=>?_)
   ·rintro ⟨vs,s,r,om,hh⟩ hc e
    refine sr (bi (bi (an ?_)))
    exact pj [dm] [.slice none 0 0,.bool false,I 0] D6 U rd ⟨none,0,by rw [hc];rfl,by rw [hc];exact SlC.nil⟩
   ·refine ck (ι:=Nat×List (Int×Bool)×List fY×List Value×Nat×Nat×Obj×HF) (fun i=>[(2,.slice iU parties.length iT),(14,Q b14),(16,Q b16),(17,Q b17)]) (fun i=>i.2.2.2.2.2.2.2)
     (fun i=>[(bc,.chan l.length i.2.2.2.1.toArray false i.2.2.2.2.1 i.2.2.2.2.2.1 false),(bm,i.2.2.2.2.2.2.1)]++markB [dm])
     (fun i=>CF=conLoop parties f i.1 i.2.1 i.2.2.1∧i.2.2.1.length+(l.length - i.2.1.length) < i.1∧pM i.2.2.2.2.2.2.2 i.2.2.2.1 i.2.2.1∧gJ (Value.int .i64) ir i.2.2.2.2.2.2.2 i.2.2.2.2.2.2.1 i.2.1∧mI st i.2.1 i.2.2.1∧h9.le i.2.2.2.2.2.2.2)
     (fun i=>i.1) (l.length+1,m0,q0,vs0,s0,0,om0,h9) rd (fun w hw=>hw) ⟨hcf,?_,hwy0,hmm0,hgq,HF.le_refl _⟩ ?_
    ·show q0.length+(l.length - m0.length) < l.length+1
     have:=hgq.2.1;have:=GE hgq hmm0.nodup;omega
    clear hcf hwy0 hmm0 hgq
    rintro ⟨n,m,q,vs,s,r,om,hh⟩ ⟨hcf,hn,hwy,hmm,hgq,h9h⟩ ag e
    dsimp only at hcf hn hwy hmm hgq h9h
    try dsimp only
    obtain ⟨n,rfl⟩:∃ n',n=n'+1:=⟨n - 1,by omega⟩
    refine ad (sr (eM ty146 (a16.mono h9h) U ?_))
    refine a8 (gW (It Tryz.underlying146 (List.mem_cons_self ..) U) ?_)
    rcases q with _ | ⟨w,q⟩
    ·have hv0:vs=[]:=List.eq_nil_of_length_eq_zero hwy.len
     subst hv0
     refine az (v':=.bool false) U U (ac (ba U (bM U ?_)))
     exact hx ([],s,r,om,hh) _ hcf trivial
    ·rcases vs with _ | ⟨v,vs⟩
     ·exact hwy.elim
     obtain ⟨⟨wr,rfl,hok⟩,hwy⟩:=hwy
     refine az (v':=.bool true) U (cb (decide_eq_true (by simp))) (ac (bj U (ai (aU ?_))))
     refine sr (eM ty146 (a16.mono h9h) U (IC 0 Tryz.underlying146 zv148 U U (bT zc148 (fun b19=>bJ 0 ty148 U U U U U U (ac ?_)))))
     refine ad (sr (aa (ay us U (aL 0 ty3 U U U (aA (v:=.tuple #[I (slices_BinarySearch_int parties w.to).1,.bool (slices_BinarySearch_int parties w.to).2]) Tryz.call87 (kX hh parties iU iT w.to (hpar.mono Rp.cm h9h) hps ob) U (aa (bR U U (bR U U (bi (an ?_))))))))))
     refine sr (aa (ac ?_))
     have hgq':mI st m q:=⟨hgq.1,by have:=hgq.2.1;simp only [List.length_cons] at this;omega,fun w' hw'=>hgq.2.2 w' (List.mem_cons_of_mem _ hw')⟩
     have hw8:=hgq.2.2 w (List.mem_cons_self ..)
     simp only [List.length_cons] at hn
     refine aB U (fun cF=>?_) (fun cF=>?_)
     ·have hc2:CF=(w.path,true):=by
       rw [hcf];simp only [conLoop];rw [show parties.contains w.to=true from cF];rfl
      refine sr (ay yo U (aL 0 ty31 U U U (bi (bi (an ?_)))))
      refine cE (L':=[(bc,.chan l.length vs.toArray false s (r+1) false),(bm,om)]++markB [dm]) js ?_
      exact pj [dm] [.slice wr.rn w.path.length wr.td,.bool true,I 0] D6 U rd ⟨wr.rn,wr.td,by rw [hc2];rfl,by rw [hc2];exact hok.path⟩
     ·have hc2:CF=(bif ((w.path.length:Nat):Int)==8 then conLoop parties f n m q else conLoop parties f n (conStep w.path (mgetD f w.to []) m q).1 (conStep w.path (mgetD f w.to []) m q).2):=by
       rw [hcf];simp only [conLoop];rw [show parties.contains w.to=false from cF];rfl
      refine ai (ad (sr (ay yo U (aL 0 ty31 U U U (bE eG U (aF U (ac ?_)))))))
      refine aB U (fun c8=>?_) (fun c8=>?_)
      ·rw [show (((w.path.length:Nat):Int)==8)=true from c8] at hc2
       refine bM U ?_
       refine cE (L':=[(bc,.chan l.length vs.toArray false s (r+1) false),(bm,om)]++markB [dm]) js ?_
       exact ag (n,m,q,vs,s,r+1,om,hh) _ (Nat.lt_succ_self _) ⟨hc2,by show q.length+(l.length - m.length) < n;omega,hwy,hmm,hgq',h9h⟩ rd
      ·rw [show (((w.path.length:Nat):Int)==8)=false from c8] at hc2
       refine ai (sr (eM ty145 (a14.mono h9h) U (ay us U (aL 0 ty3 U U U ?_))))
       refine a8 (pm (k:=w.to) D5 (e7 kx) (h9h _ _ hbf) (hmF.mono (VSl.mono Interest.aJ) h9h) (jr zv24) (show VSl Interest.rp _ (.slice none 0 0) [] from ⟨none,0,U,SlC.nil⟩) U U (fun v hv=>?_))
       obtain ⟨xb,xc,rfl,slx⟩:=hv
       have hxs:∀ y∈mgetD f w.to [],y∈st:=hgf w.to
       generalize mgetD f w.to []=xs at slx hc2 hxs
       refine bE mJ U (aa (ac ?_))
       have hw7:w.path.length+1≤8:=by simp at c8;omega
       have hsum:=qr (path:=w.path) hstl hw7 hxs hgq' hmm.nodup
       generalize hcs:conStep w.path xs m q=CS at hc2 hsum
       refine bq (ι:=List Value×Nat×Obj×HF) (fun i=>[(2,.slice iU parties.length iT),(14,Q b14),(16,Q b16),(17,Q b17)]) (fun i=>i.2.2.2) (fun i=>[(b19,.cells (fY.cells w wr).toArray 148 (0,0)),(bc,.chan l.length i.1.toArray false i.2.1 (r+1) false),(bm,i.2.2.1)]++markB [dm])
        (fun i=>pM i.2.2.2 i.1 CS.2∧gJ (Value.int .i64) ir i.2.2.2 i.2.2.1 CS.1∧mI st CS.1 CS.2∧hh.le i.2.2.2) ?_ (fun hx2=>?_)
       ·rintro ⟨vs2,s2,om2,h10⟩ ⟨hw2,hm2,hg2,hle2⟩ e2
        refine ao ?_
        refine cE (L':=[(bc,.chan l.length vs2.toArray false s2 (r+1) false),(bm,om2)]++markB [dm]) js ?_
        exact ag (n,CS.1,CS.2,vs2,s2,r+1,om2,h10) _ (Nat.lt_succ_self _) ⟨hc2,by show CS.2.length+(l.length - CS.1.length) < n;omega,hw2,hm2,hg2,HF.le_trans h9h hle2⟩ rd
       ·refine ck (ι:=Nat×List (Int×Bool)×List fY×List Value×Nat×Obj×HF×List Interest) (fun i=>[(2,.slice iU parties.length iT),(14,Q b14),(16,Q b16),(17,Q b17),(19,Q b19),(92,.slice xb xs.length xc),(93,I ((xs.length:Nat):Int)),(94,I ((i.1:Nat):Int))]) (fun i=>i.2.2.2.2.2.2.1)
         (fun i=>[(b19,.cells (fY.cells w wr).toArray 148 (0,0)),(bc,.chan l.length i.2.2.2.1.toArray false i.2.2.2.2.1 (r+1) false),(bm,i.2.2.2.2.2.1)]++markB [dm])
         (fun i=>xs.drop i.1=i.2.2.2.2.2.2.2∧conStep w.path i.2.2.2.2.2.2.2 i.2.1 i.2.2.1=CS∧pM i.2.2.2.2.2.2.1 i.2.2.2.1 i.2.2.1∧gJ (Value.int .i64) ir i.2.2.2.2.2.2.1 i.2.2.2.2.2.1 i.2.1∧mI st i.2.1 i.2.2.1∧hh.le i.2.2.2.2.2.2.1)
         (fun i=>i.2.2.2.2.2.2.2.length) (0,m,q,vs,s,om,hh,xs) rd (fun w hw=>hw) ⟨rfl,hcs,hwy,hmm,hgq',HF.le_refl _⟩ ?_
        rintro ⟨i1,m2,q2,vs2,s2,om2,h10,rest⟩ ⟨hd1,hcs2,hw2,hm2,hg2,hle2⟩ ag2 e2
        dsimp only at hd1 hcs2 hw2 hm2 hg2 hle2
        try dsimp only
        rcases rest with _ | ⟨x,rest⟩
        ·have hge:=cS hd1
         refine sr (az (v':=.bool false) U (cb hge) (ac (ad (ba U (bM U ?_)))))
         obtain rfl:(m2,q2)=CS:=hcs2
         exact hx2 (vs2,s2,om2,h10) _ ⟨hw2,hm2,hg2,hle2⟩ rd
        ·have hlt:=dV hd1
         have hget:=cU hd1
         have hxst:x∈st:=hxs x (gm hd1)
         have hpty:(fY.mk (w.path++[x.No]) x.Party).to∈st.map (·.Party):=List.mem_map_of_mem hxst
         have slx2:=slx.mono Interest.aJ hle2
         have hokp:=hok.path.mono Rp.cm hle2
         have gO:=slx.1.1
         have e9:=aP hd1
         have h910:h9.le h10:=HF.le_trans h9h hle2
         refine sr (az (v':=.bool true) U (cb hlt) (ac (ad (bj U (ai ?_)))))
         refine ad (aU (sr (a8 (fZ (enc:=Interest.cells) (fun _ _ _ e=>e) mJ ty61 slx2.1 (nthZ hget) (bA hget) U U U (fun qx Ax=>?_)))))
         refine dT ty61 Ax U U (bT zc61 (fun b23=>bJ 0 ty61 U U U U U U (ac ?_)))
         refine HC (ι:=List Value×Nat×Obj×HF) (fun i=>[(2,.slice iU parties.length iT),(14,Q b14),(16,Q b16),(17,Q b17),(19,Q b19),(92,.slice xb xs.length xc),(93,I ((xs.length:Nat):Int)),(94,I ((i1:Nat):Int))]) (fun i=>i.2.2.2) (fun i=>[(b19,.cells (fY.cells w wr).toArray 148 (0,0)),(bc,.chan l.length i.1.toArray false i.2.1 (r+1) false),(bm,i.2.2.1)]++markB [dm])
          (fun i=>h10.le i.2.2.2∧pM i.2.2.2 i.1 (conPut ⟨w.path++[x.No],x.Party⟩ m2 q2).2∧gJ (Value.int .i64) ir i.2.2.2 i.2.2.1 (conPut ⟨w.path++[x.No],x.Party⟩ m2 q2).1) ?_ (fun fin=>?_)
         ·rintro ⟨vs3,s3,om3,h11⟩ ⟨l11,hw3,hm3⟩ e3
          dsimp only at l11 hw3 hm3
          refine ao (ah (az (v':=I ((i1+1:Nat):Int)) U (bP ob) (aa (ac ?_))))
          exact ag2 (i1+1,(conPut ⟨w.path++[x.No],x.Party⟩ m2 q2).1,(conPut ⟨w.path++[x.No],x.Party⟩ m2 q2).2,vs3,s3,om3,h11,rest) _ (Nat.lt_succ_self _) ⟨bF hd1,hcs2,hw3,hm3,md hg2 hpty (by simpa using hw7),HF.le_trans hle2 l11⟩ rd
         have hKs:∀ p∈([(b23,.cells (Interest.cells x).toArray 61 (0,0)),(b19,.cells (fY.cells w wr).toArray 148 (0,0))]:LH),p∈([(b23,.cells (Interest.cells x).toArray 61 (0,0)),(b19,.cells (fY.cells w wr).toArray 148 (0,0)),(bc,.chan l.length vs2.toArray false s2 (r+1) false),(bm,om2)]++markB [dm]:LH):=fun p hp=>by
          rcases List.mem_cons.1 hp with rfl | hp
          ·simp
          ·rw [List.mem_singleton.1 hp];simp
         have hJ:Jst h10 [(b23,.cells (Interest.cells x).toArray 61 (0,0)),(b19,.cells (fY.cells w wr).toArray 148 (0,0))] h10 ([(b23,.cells (Interest.cells x).toArray 61 (0,0)),(b19,.cells (fY.cells w wr).toArray 148 (0,0)),(bc,.chan l.length vs2.toArray false s2 (r+1) false),(bm,om2)]++markB [dm]):=⟨HF.le_refl _,hKs⟩
         refine gr [(b23,.cells (Interest.cells x).toArray 61 (0,0)),(b19,.cells (fY.cells w wr).toArray 148 (0,0))] mixed kr hJ (fun hsep _=>?_)
         refine nL 0 hsep hJ U U kr U (fun _ _ hj=>gu ty149 ((a17.mono h910).mono hj.1) U) ?_
         refine nL 1 hsep hJ U U kr U (fun _ _ _=>dO yo U) ?_
         refine nL 2 hsep hJ U U kr U (fun _ _ hj=>hY ty31 U (hj.nth (i:=1) U) U) ?_
         refine nL 4 hsep hJ U U kr U (fun _ _ _=>dO nD U) ?_
         refine nL 5 hsep hJ U U kr U (fun _ _ hj=>hY ty3 U (hj.nth (i:=0) U) U) ?_
         refine nL 8 hsep hJ U U kr U (fun _ _ _=>dO oU U) ?_
         refine nL 9 hsep hJ U U kr U (fun _ _ hj=>hY ty3 U (hj.nth (i:=0) U) U) ?_
         have hpl8:w.path.length≤wr.td:=hokp.2
         have hpn:=hokp.1.1
         refine lQ 3 6 kr U U ?_ ?_
         ·refine fU (v:=.slice wr.rn w.path.length w.path.length) Tryz.call88 (nM h10 wr.rn w.path.length wr.td hpl8) U ⟨hJ,?_⟩
          refine tn 6 U (cf (cells:=[I x.No]) eG ty3 zc3 U U kr (fun b6=>⟨⟨HF.le_refl _,fun p hp=>List.mem_cons_of_mem _ (hKs p hp)⟩,?_⟩))
          refine tn 7 U (zA (R:=Rp.int) (xs:=w.path) (ys:=[x.No]) eG ty3 zc3 U bytes3 (s6 hokp.1) U U (ff 0 U (show bW Rp.int h10 [I x.No] [x.No] from ⟨[I x.No],[],U,U,U,U⟩)) (by simp) lo lo (fun nb nc NG hNG=>⟨⟨HF.le_refl _,fun p hp=>List.mem_append_right NG (List.mem_cons_of_mem _ (hKs p hp))⟩,?_⟩))
          refine tn 10 U (fO (cells:=fY.cells ⟨w.path++[x.No],x.Party⟩ ⟨nb,nc⟩) (places:=[(0,1),(1,1)]) Tryz.underlying148 zc148 kr kr ⟨⟨HF.le_refl _,fun p hp=>List.mem_append_right NG (List.mem_cons_of_mem _ (hKs p hp))⟩,?_⟩)
          refine tn 11 U (zz Rp.cm [] NG ((b6,.cells [Value.int .i64 x.No].toArray 3 (0,0))::[(b23,.cells (Interest.cells x).toArray 61 (0,0)),(b19,.cells (fY.cells w wr).toArray 148 (0,0)),(bc,.chan l.length vs2.toArray false s2 (r+1) false),(bm,om2)]++markB [dm]) U hM hNG (fun h11 l11 slN=>?_))
          refine An (vs:=[.agg (fY.cells ⟨w.path++[x.No],x.Party⟩ ⟨nb,nc⟩).toArray]) [(bm,om2),(bc,.chan l.length vs2.toArray false s2 (r+1) false)] ([(b6,.cells [Value.int .i64 x.No].toArray 3 (0,0)),(b23,.cells (Interest.cells x).toArray 61 (0,0)),(b19,.cells (fY.cells w wr).toArray 148 (0,0))]++markB [dm]) ?_
           (kj h11 ⟨w.path++[x.No],x.Party⟩ ⟨nb,nc⟩ ⟨b15,0,none⟩ ⟨b16,0,none⟩ bm bc om2 m2 l.length s2 (r+1) vs2 q2 ⟨slN⟩ (a15.mono (h910.t l11)) (a16.mono (h910.t l11)) (hm2.mono ir.mono l11) (hw2.mono l11) (fun hno=>by rw [hw2.len];exact rR hg2 hm2.nodup hpty hstl hno)) rfl rfl (fun B hB=>?_)
          ·exact rX [(b6,.cells [Value.int .i64 x.No].toArray 3 (0,0)),(b23,.cells (Interest.cells x).toArray 61 (0,0)),(b19,.cells (fY.cells w wr).toArray 148 (0,0))] (markB [dm]) (bc,.chan l.length vs2.toArray false s2 (r+1) false) (bm,om2)
          obtain ⟨om3,vs3,s3,hm3,hw3,rfl⟩:=hB
          refine ⟨⟨l11,fun p hp=>by rcases hp with _ | ⟨_,_ | ⟨_,h⟩⟩;simp;simp;cases h⟩,vl (K2:=[(b23,.cells (Interest.cells x).toArray 61 (0,0)),(b19,.cells (fY.cells w wr).toArray 148 (0,0))]) l11 (fun _ hp=>hp) ?_⟩
          refine cd kr ?_
          refine nu (rX [(b6,.cells [Value.int .i64 x.No].toArray 3 (0,0)),(b23,.cells (Interest.cells x).toArray 61 (0,0)),(b19,.cells (fY.cells w wr).toArray 148 (0,0))] (markB [dm]) (bc,.chan l.length vs3.toArray false s3 (r+1) false) (bm,om3)).symm ?_
          refine cE (L':=[(b19,.cells (fY.cells w wr).toArray 148 (0,0)),(bc,.chan l.length vs3.toArray false s3 (r+1) false),(bm,om3)]++markB [dm]) js ?_
          exact fin (vs3,s3,om3,h11) _ ⟨l11,hw3,hm3⟩ rd
         ·refine cf (cells:=[I x.No]) eG ty3 zc3 U U kr (fun b6=>⟨⟨HF.le_refl _,fun p hp=>List.mem_cons_of_mem _ (hKs p hp)⟩,?_⟩)
          refine tn 3 U (fU (v:=.slice wr.rn w.path.length w.path.length) Tryz.call88 (nM h10 wr.rn w.path.length wr.td hpl8) U ⟨⟨HF.le_refl _,fun p hp=>List.mem_cons_of_mem _ (hKs p hp)⟩,?_⟩)
          refine tn 7 U (zA (R:=Rp.int) (xs:=w.path) (ys:=[x.No]) eG ty3 zc3 U bytes3 (s6 hokp.1) U U (ff 0 U (show bW Rp.int h10 [I x.No] [x.No] from ⟨[I x.No],[],U,U,U,U⟩)) (by simp) lo lo (fun nb nc NG hNG=>⟨⟨HF.le_refl _,fun p hp=>List.mem_append_right NG (List.mem_cons_of_mem _ (hKs p hp))⟩,?_⟩))
          refine tn 10 U (fO (cells:=fY.cells ⟨w.path++[x.No],x.Party⟩ ⟨nb,nc⟩) (places:=[(0,1),(1,1)]) Tryz.underlying148 zc148 kr kr ⟨⟨HF.le_refl _,fun p hp=>List.mem_append_right NG (List.mem_cons_of_mem _ (hKs p hp))⟩,?_⟩)
          refine tn 11 U (zz Rp.cm [] NG ((b6,.cells [Value.int .i64 x.No].toArray 3 (0,0))::[(b23,.cells (Interest.cells x).toArray 61 (0,0)),(b19,.cells (fY.cells w wr).toArray 148 (0,0)),(bc,.chan l.length vs2.toArray false s2 (r+1) false),(bm,om2)]++markB [dm]) U hM hNG (fun h11 l11 slN=>?_))
          refine An (vs:=[.agg (fY.cells ⟨w.path++[x.No],x.Party⟩ ⟨nb,nc⟩).toArray]) [(bm,om2),(bc,.chan l.length vs2.toArray false s2 (r+1) false)] ([(b6,.cells [Value.int .i64 x.No].toArray 3 (0,0)),(b23,.cells (Interest.cells x).toArray 61 (0,0)),(b19,.cells (fY.cells w wr).toArray 148 (0,0))]++markB [dm]) ?_
           (kj h11 ⟨w.path++[x.No],x.Party⟩ ⟨nb,nc⟩ ⟨b15,0,none⟩ ⟨b16,0,none⟩ bm bc om2 m2 l.length s2 (r+1) vs2 q2 ⟨slN⟩ (a15.mono (h910.t l11)) (a16.mono (h910.t l11)) (hm2.mono ir.mono l11) (hw2.mono l11) (fun hno=>by rw [hw2.len];exact rR hg2 hm2.nodup hpty hstl hno)) rfl rfl (fun B hB=>?_)
          ·exact rX [(b6,.cells [Value.int .i64 x.No].toArray 3 (0,0)),(b23,.cells (Interest.cells x).toArray 61 (0,0)),(b19,.cells (fY.cells w wr).toArray 148 (0,0))] (markB [dm]) (bc,.chan l.length vs2.toArray false s2 (r+1) false) (bm,om2)
          obtain ⟨om3,vs3,s3,hm3,hw3,rfl⟩:=hB
          refine ⟨⟨l11,fun p hp=>by rcases hp with _ | ⟨_,_ | ⟨_,h⟩⟩;simp;simp;cases h⟩,vl (K2:=[(b23,.cells (Interest.cells x).toArray 61 (0,0)),(b19,.cells (fY.cells w wr).toArray 148 (0,0))]) l11 (fun _ hp=>hp) ?_⟩
          refine cd kr ?_
          refine nu (rX [(b6,.cells [Value.int .i64 x.No].toArray 3 (0,0)),(b23,.cells (Interest.cells x).toArray 61 (0,0)),(b19,.cells (fY.cells w wr).toArray 148 (0,0))] (markB [dm]) (bc,.chan l.length vs3.toArray false s3 (r+1) false) (bm,om3)).symm ?_
          refine cE (L':=[(b19,.cells (fY.cells w wr).toArray 148 (0,0)),(bc,.chan l.length vs3.toArray false s3 (r+1) false),(bm,om3)]++markB [dm]) js ?_
          exact fin (vs3,s3,om3,h11) _ ⟨l11,hw3,hm3⟩ rd
end Go.Sg
namespace Go.Sg
open Go.Proofs
set_option maxHeartbeats 2000000
set_option maxRecDepth 100000
set_option linter.unusedVariables false
theorem ph (h:HF) (dN:Int) (q:aS) (jo:gF) (q_q:Addr) (at_:Int) (at__q:Addr) (hq:aS.ok h q jo) (aq:At h q_q (aS.cells q jo)) (aat_:At h at__q [I at_]) (hsm:smR q.Register):Ret Tryz.prog 63 [I dN,.pointer (some q_q),.pointer (some at__q)] h (.bool (bo dN q at_)):=by
 refine aw Tryz.func63 U Tryz.ntmps63 U fun X hM hX=>?_
 have hs0:bo dN q at_=bo dN q at_:=rfl
 refine sr (an (sr (ay qn U (ay mV U (ns (j:=2) ty24 aq U U (aa (ay mw U (ay wv U (ns (j:=13) ty31 aq U U (eM ty3 aat_ U (ay AP U (ns (j:=48) ty3 aq U U ?_))))))))))))
 refine a8 (dp Tryz.call45 (qG h q.Register.Interests jo.Register.gN jo.Register.gM dN q.doc.Parties jo.doc.jU jo.doc.jT at_ q.known hq.Register.Interests hq.doc.Parties hsm.2.2.2.1) U (fun v1 h1 hle1 hp1=>?_))
 obtain ⟨rb1,rc1,rfl,sl1⟩:=hp1
 refine aa (bR U U (bR U U (bR U U (bi (bi (an (sr (aa (aF U (aa ?_))))))))))
 refine tq 2 [(27,.bool (((dc q.Register.Interests dN q.doc.Parties at_ q.known).2.2 != 0)||(dc q.Register.Interests dN q.doc.Parties at_ q.known).2.1))] (fun hk1=>?_) (fun e=>?_)
 ·refine au 25 U (fun c1=>?_) (fun c1=>?_)
  ·refine bY (ae U ?_)
   exact hk1 _ ⟨(cb (eB c1)),trivial⟩
  ·refine aa (ae U ?_)
   exact hk1 _ ⟨(cb (eE c1)),trivial⟩
 refine an ?_
 exact ar [.bool (((dc q.Register.Interests dN q.doc.Parties at_ q.known).2.2 != 0)||(dc q.Register.Interests dN q.doc.Parties at_ q.known).2.1)] Tryz.func63 U hX rd (cs hs0)
theorem tw {h:HF}:∀ {cl:List Value} {xs:List Int},bW Rp.int h cl xs→cl=xs.map (Value.int .i64)
 | _,[],hc=>hc
 | _,x::xs,⟨cs,rest,e,_,hr,hc⟩=>by
  have:cs=[I x]:=hr
  rw [e,this,tw hc];rfl
theorem tF (h:HF):∀ xs:List Int,bW Rp.int h (xs.map (Value.int .i64)) xs
 | []=>rfl
 | x::xs=>⟨[I x],xs.map (Value.int .i64),rfl,rfl,rfl,tF h xs⟩
theorem Cl (f:Int→Bool):∀ (l:List Int) (i:Nat),(bU.L1 f bU.K1 l i=-1∧∀ x∈l,f x=false) ∨
  ∃ a y b,l=a++y::b∧bU.L1 f bU.K1 l i=((i+a.length:Nat):Int)∧f y=true∧∀ x∈a,f x=false
 | [],i=>.inl ⟨rfl,fun _ h=>(List.not_mem_nil h).elim⟩
 | y::l,i=>by
  simp only [bU.L1]
  cases hy:f y with
  | true=>exact .inr ⟨[],y,l,rfl,by simp,hy,fun _ h=>(List.not_mem_nil h).elim⟩
  | false=>
   rcases Cl f l (i+1) with ⟨h1,h2⟩ | ⟨a,z,b,rfl,h2,h3,h4⟩
   ·exact .inl ⟨h1,fun x hx=>by rcases List.mem_cons.1 hx with rfl | hx;exact hy;exact h2 x hx⟩
   ·refine .inr ⟨y::a,z,b,rfl,?_,h3,fun x hx=>by rcases List.mem_cons.1 hx with rfl | hx;exact hy;exact h4 x hx⟩
    rw [cond_false,h2];simp only [List.length_cons];congr 1;omega
theorem vL {q:Int→Bool} {l:List Int} (h:∀ x∈l,q x=false):(l.filter fun x=>!(q x))=l:=by
 rw [List.filter_eq_self];intro x hx;simp [h x hx]
theorem Hh {q:Int→Bool} {s zs:List Int} {i j:Nat} {y:Int} (hij:i < j) (hz:zs.length=s.length) (hj:s[j]? = some y) (ht:zs.take i=(s.take j).filter fun x=>!(q x)) (hd:zs.drop j=s.drop j) (hy:q y=false):
  (zs.set i y).take (i+1)=((s.take (j+1)).filter fun x=>!(q x))∧(zs.set i y).drop (j+1)=s.drop (j+1):=by
 have hjl:j < s.length:=by
  rcases Nat.lt_or_ge j s.length with h | h
  ·exact h
  ·simp [List.getElem?_eq_none h] at hj
 constructor
 ·rw [List.take_add_one,List.take_set_of_le (Nat.le_refl _),ht,List.take_add_one,hj,List.filter_append]
  simp [hy,show i < zs.length from by omega]
 ·rw [List.drop_set_of_lt ob,← List.drop_drop,hd,List.drop_drop]
theorem Hg {q:Int→Bool} {s zs:List Int} {i j:Nat} {y:Int} (hj:s[j]? = some y) (ht:zs.take i=(s.take j).filter fun x=>!(q x)) (hd:zs.drop j=s.drop j) (hy:q y=true):
  zs.take i=((s.take (j+1)).filter fun x=>!(q x))∧zs.drop (j+1)=s.drop (j+1):=by
 constructor
 ·rw [List.take_add_one,hj,List.filter_append,ht];simp [hy]
 ·rw [← List.drop_drop,hd,List.drop_drop]
theorem wW {w:World} {bk i n cc:Nat} {cl:List Value} (hb:w.heap[bk]? = some (.cells cl.toArray 3 (0,0))) (hle:i+(n+1)≤cl.length) (ty:TypeId):
  (Builtin.clear_ #[31] ty #[.slice (some ⟨bk,i,none⟩) (n+1) cc]).run Tryz.prog w=.ok (.tuple #[]) { w with heap:=w.heap.setIfInBounds bk (.cells (splice cl i (List.replicate (n+1) (I 0))).toArray 3 (0,0)) }:=by
 have hz:(zeroValue 3).run Tryz.prog w=.ok (I 0) w:=jr kr w
 have h9:=kz (P:=Tryz.prog) i (List.replicate (n+1) (I 0)) 0 cl w hb (by simpa using hle) (fun v hv=>by rw [(List.mem_replicate.1 hv).2];rfl)
 rw [Nat.add_zero] at h9
 have hzc:(Builtin.zeroCells (Value.int .i64 0).cells (n+1)).toList=List.replicate (n+1) (Value.int .i64 0):=by
  simp [Builtin.zeroCells,Value.cells]
  rw [List.eq_replicate_iff]
  refine ⟨by simp,fun x hx=>?_⟩
  obtain ⟨j,_,rfl⟩:=List.mem_map.1 hx
  simp [Nat.mod_one]
 simp only [Builtin.clear_,Sem.run_bind]
 simp [run_underlying eG,hz,hzc,h9]
theorem oZ (h:HF) (s:List Int) (b:Option Addr) (c:Nat) (G:LH) (del:Int→Bool) (del_v:Value) (hG:ei Rp.int 3 h s b c G)
  (hdel:∀ (h':HF) (cD:Int),HF.le h h'→vf Tryz.prog del_v [I cD] h' [] (.bool (del cD))) (hsz:s.length≤2000000):
  oq Tryz.prog 64 [.slice b s.length c,del_v].toArray h G (fun r h' G'=>h'=h∧r=.returned (.slice b (bx s del).length c)∧ei Rp.int 3 h (bx s del) b c G'):=by
 refine aw Tryz.func64 U Tryz.ntmps64 U fun X hM hX=>?_
 refine sr (an (sr (aa (aa ?_))))
 refine a8 (BG [] G [] Tryz.call110 Rp.cm hG (by simp) (fun h1 hle hsl=>lZ h1 s b c del del_v hsl (fun h' a hl=>hdel h' a (hle.t hl))) U ?_)
 refine an (ad (sr (aa ?_)))
 have hcase:=Cl del s 0
 rw [show bU.L1 del bU.K1 s 0=bU s del from rfl] at hcase
 rcases hcase with ⟨h1,h2⟩ | ⟨a,y,r,hs,h1,hy,ha⟩
 ·rw [h1]
  refine az (v':=.bool true) U U (ac (bj U ?_))
  refine sr (aa (an ?_))
  have hf:bx s del=s:=vL h2
  refine nj Tryz.func64 (fun a ha w hw=>res1 U a ha w) (fun w hw=>hw.lower) ⟨hX,?_,?_⟩
  ·rw [hf];rfl
  ·rw [hf];exact hG
 ·rw [h1,Nat.zero_add]
  have hne:(((a.length:Nat):Int)==-1)=false:=by simp
  have hsl:s.length=a.length+(r.length+1):=by rw [hs];simp
  refine az (v':=.bool false) U (cb hne) (ac (ba U (ai ?_)))
  refine ad (sr (aa (az (v':=I ((a.length+1:Nat):Int)) U (bP ob) (an ?_))))
  refine bq (ι:=Nat×List Int×LH) (fun i=>[(0,.slice b s.length c),(1,del_v),(5,I ((i.1:Nat):Int))]) (fun i=>h) (fun i=>i.2.2)
   (fun i=>i.1 < s.length∧i.2.1.length=s.length∧i.2.1.take i.1=bx s del∧ei Rp.int 3 h i.2.1 b c i.2.2) ?_ (fun hx=>?_)
  ·rintro ⟨i,zs,G'⟩ ⟨hi,hz,hf,hG'⟩ e
   dsimp only at hi hz hf hG'
   rcases hG' with ⟨rfl,_⟩ | ⟨bk,cl,sp,rfl,hcl,h3,h4,h5,rfl⟩
   ·simp at hz;omega
   have hcl':=tw hcl
   subst hcl'
   have hcz:zs.length≤c:=h4
   have h3':zs.length+sp.length=c:=by simpa [Rp.int] using h3
   have hz2:0≤((i:Nat):Int)∧((i:Nat):Int)≤((s.length:Nat):Int):=by omega
   try dsimp only
   have hzn:(i:Int).toNat=i:=by omega
   have hgf:ei Rp.int 3 h zs (some ⟨bk,0,none⟩) c [(bk,.cells (zs.map (Value.int .i64)++sp).toArray 3 (0,0))]:=.inr ⟨bk,_,sp,rfl,hcl,h3,h4,h5,rfl⟩
   obtain ⟨m,hm⟩:∃ m,s.length - i=m+1:=⟨s.length - i - 1,by omega⟩
   refine sr (aa (aa ?_))
   refine a8 (gW (v:=.slice (some ⟨bk,i,none⟩) (m+1) (c - i)) (E9 eG ty3 U U ob ob hm) ?_)
   refine a8 (iS U fun w hw=>⟨.tuple #[],_,h,_,?_,hw.write (i:=0) U (.cells (splice (zs.map (Value.int .i64)++sp) i (List.replicate (m+1) (I 0))).toArray 3 (0,0)),?_⟩)
   ·have:=wW (w:=w) (i:=i) (n:=m) (cc:=c - i) (hw.own _ (List.mem_singleton.2 rfl)) (by simp;omega)
    simp only [execOp,resolve,invoke,builtin]
    simp [Env.ev,upd,upds,pute,this]
   ·have hsp:∃ sp',splice (zs.map (Value.int .i64)++sp) i (List.replicate (m+1) (I 0))=(zs.take i).map (Value.int .i64)++sp':=by
     have e1:zs.map (Value.int .i64)++sp=(zs.take i).map (Value.int .i64)++((zs.drop i).map (Value.int .i64)++sp):=by
      rw [← List.append_assoc,← List.map_append,List.take_append_drop]
     rw [e1]
     have e2:i=((zs.take i).map (Value.int .i64)).length:=by simp;omega
     have:=uG (List.replicate (m+1) (I 0)) ((zs.take i).map (Value.int .i64)) ((zs.drop i).map (Value.int .i64)++sp) (by simp;omega)
     rw [← e2] at this
     exact ⟨_,this⟩
    obtain ⟨sp',hsp⟩:=hsp
    have hlen:((zs.take i).map (Value.int .i64)++sp').length=c * Rp.int.sz:=by
     rw [← hsp,yV];exact h3
    rw [hsp]
    have hg2:ei Rp.int 3 h (zs.take i) (some ⟨bk,0,none⟩) c [(bk,.cells ((zs.take i).map (Value.int .i64)++sp').toArray 3 (0,0))]:=
     .inr ⟨bk,_,sp',rfl,tF h _,hlen,by rw [List.length_take];omega,by rw [List.length_take];omega,rfl⟩
    refine ac (sr (aa (aa ?_)))
    refine a8 (BF (z:=(i:Int)) eG ty3 hgf ob (by show _=Value.slice _ _ _;rw [hz];rfl) U U ?_)
    refine an ?_
    refine nj Tryz.func64 (fun a ha w hw=>res1 U a ha w) (fun w hw=>hw.lower) ⟨hX,?_,?_⟩
    ·rw [← hf,hzn];rfl
    ·rw [← hf];exact hg2
  ·refine ck (ι:=Nat×Nat×List Int×LH) (fun i=>[(0,.slice b s.length c),(1,del_v),(5,I ((i.1:Nat):Int)),(6,I ((i.2.1:Nat):Int))]) (fun i=>h) (fun i=>i.2.2.2)
    (fun i=>i.1 < i.2.1∧i.2.1≤s.length∧i.2.2.1.length=s.length∧i.2.2.1.take i.1=((s.take i.2.1).filter fun x=>!(del x))∧i.2.2.1.drop i.2.1=s.drop i.2.1∧ei Rp.int 3 h i.2.2.1 b c i.2.2.2)
    (fun i=>s.length - i.2.1) (a.length,a.length+1,s,G) rd (fun w hw=>hw) ⟨Nat.lt_succ_self _,by show a.length+1≤s.length;omega,rfl,?_,rfl,hG⟩ ?_
   ·show s.take a.length=((s.take (a.length+1)).filter fun x=>!(del x))
    rw [hs,List.take_left' rfl,List.take_add_one,List.take_left' rfl,List.filter_append,vL ha];simp [hy]
   ·rintro ⟨i,j,zs,G'⟩ ⟨hij,hjl,hz,ht,hd,hG'⟩ ag e
    dsimp only at hij hjl hz ht hd hG'
    try dsimp only
    rcases Nat.lt_or_ge j s.length with hj | hj
    ·have hjs:s[j]? = some s[j]:=List.getElem?_eq_getElem hj
     have hjz:zs[j]? = some s[j]:=by
      have e1:(zs.drop j)[0]? = (s.drop j)[0]?:=by rw [hd]
      simpa [hjs] using e1
     obtain ⟨bk,hbk⟩:=hG'.ve ob
     have hiz:zs[i]? = some zs[i]:=List.getElem?_eq_getElem ob
     refine ad (sr (aa (aa (bE eG U (az (v':=.bool true) U (cb (decide_eq_true ob)) (ac (bj U (ai ?_))))))))
     refine ad (aU (sr (aa (aa ?_))))
     refine a8 (gW (Au (R:=Rp.int) (xs:=zs) (z:=(j:Int)) eG ty3 hbk ob U hz.symm U) ?_)
     refine a8 (gW (H9 (R:=Rp.int) (off:=0) (i:=j) ty3 hG' hbk hjz (fun cs hcs=>by rw [show cs=[I s[j]] from hcs];rfl) (by rfl) (fun p hp=>hp)) ?_)
     refine an (sr (aa (aa ?_)))
     refine a8 (nv (v:=.bool (del s[j])) [] (List.nil_sublist _) (hdel h s[j] (HF.le_refl _)) U U ?_)
     cases hy:del s[j] with
     | true=>
      obtain ⟨k1,k2⟩:=Hg hjs ht hd hy
      refine cR U (ac (ba U (ai (ao ?_))))
      refine ah (aa (az (v':=I ((j+1:Nat):Int)) U (bP ob) (an ?_)))
      exact ag (i,j+1,zs,G') _ (by show s.length - (j+1) < s.length - j;omega) ⟨by show i < j+1;omega,hj,hz,k1,k2,hG'⟩ rd
     | false=>
      obtain ⟨k1,k2⟩:=Hh hij hz hjs ht hd hy
      refine cR U (ac (bj U ?_))
      refine sr (aa (aa (aa ?_)))
      refine a8 (gW (Au (R:=Rp.int) (xs:=zs) (z:=(i:Int)) eG ty3 hbk ob U hz.symm U) ?_)
      refine a8 (BE (R:=Rp.int) (i:=i) (off:=0) (u:=zs[i]) (u':=s[j]) (v:=I s[j]) [] G' [] ty3 U hG' (by simp) hbk hiz (by decide) (fun cs hcs=>by rw [show cs=[I zs[i]] from hcs];rfl) (by rfl) U U (fun G2 hG2=>?_))
      rw [List.nil_append,List.append_nil]
      refine ac (ah (aa (az (v':=I ((i+1:Nat):Int)) U (bP ob) (an (ao ?_)))))
      refine ah (aa (az (v':=I ((j+1:Nat):Int)) U (bP ob) (an ?_)))
      exact ag (i+1,j+1,zs.set i s[j],G2) _ (by show s.length - (j+1) < s.length - j;omega) ⟨by show i+1 < j+1;omega,hj,by show (zs.set i s[j]).length=s.length;simpa using hz,k1,k2,hG2⟩ rd
    ·have hje:j=s.length:=by omega
     subst hje
     refine ad (sr (aa (aa (bE eG U (az (v':=.bool false) U (cb (decide_eq_false ob)) (ac (ba U (bM U ?_))))))))
     exact hx (i,zs,G') _ ⟨hij,hz,by show zs.take i=_;rw [ht,List.take_length];rfl,hG'⟩ rd
theorem lO (h:HF) (dN:Int)  : Ret Tryz.prog 81 [I dN] h (.bool (dU dN)):=by
 refine aw Tryz.func81 U Tryz.ntmps81 U fun X hM hX=>?_
 have hs0:dU dN=dU dN:=rfl
 refine sr (an (sr (aa (aF U (aa ?_)))))
 refine tq 3 [(8,.bool (decide (0≤dN)&&decide (dN < 1099511627776)))] (fun hk1=>?_) (fun e=>?_)
 ·refine au 5 U (fun c1=>?_) (fun c1=>?_)
  ·refine aa (aF U (ae U ?_))
   exact hk1 _ ⟨(cb (cY c1)),trivial⟩
  ·refine kq (ae U ?_)
   exact hk1 _ ⟨(cb (cZ c1)),trivial⟩
 refine an ?_
 exact ar [.bool (decide (0≤dN)&&decide (dN < 1099511627776))] Tryz.func81 U hX rd (cs hs0)
theorem qB (h:HF) (l:(List Version)) (fc:Option Addr) (fb:Nat) (l_q:Addr) (known:Int) (known_q:Addr) (eo:Int) (from__q:Addr) (hl:SlC Version.rp h fc fb l) (al:At h l_q [.slice fc l.length fb]) (aknown:At h known_q [I known]) (afrom_:At h from__q [I eo]) (hsz:l.length≤2000000):Itr Tryz.prog (.func (.func 140) #[] (List.toArray [.pointer (some l_q),.pointer (some known_q),.pointer (some from__q)])) nm (bz l known eo) h:=by
 refine uR Tryz.call140 ?_
 intro yf ya yb C Sp Pn h1 A hle m1 m2 m3 hC hy
 refine jW Fy U Tryz.ntmps140 U fun X hXM hX=>?_
 have hs0:bz l known eo=[]++bz l known eo:=rfl
 refine sr (a8 (Gh hXM (fun b1 b1M=>an (sr (an (ad (sr (eM ty26 (al.mono hle) U (bE lu U (aa (ac ?_)))))))))))
 refine bq (ι:=Nat×Int×(List (Int×Version))×Obj) (fun i=>[(0,.func yf ya yb),(5,.map (some b1))]) (fun i=>h1) (fun i=>[(b1,i.2.2.2)]++(A)) (fun i=>i.1≤l.length∧bz l known eo=[]++((bz.K1) i.2.1 i.2.2.1)∧gJ (Value.int .i64) (kp Version.rp) h1 i.2.2.2 i.2.2.1∧i.2.2.1.length≤0+i.1) ?_ (fun hx1=>?_)
 ·rintro ⟨i1,nn,da,km⟩ ⟨bd,hs1,gT,n9⟩ e
  try dsimp only at bd gT n9
  try dsimp only
  refine sr (aa (wH 0 U b1M (fun h8 hle7 hb3=>?_)))
  have mc2:ou (Value.int .i64) (kp Version.rp) h8 b1 da:=⟨_,hb3,gT.mono (kp.mono Version.aJ) hle7⟩
  refine a8 (dp Tryz.call141 (rv h8 da b1 mc2) U (fun v4 h9 hle8 hp3=>a8 (dp Tryz.call60 (lv h9 v4 (da.map Prod.fst) hp3 (by rw [List.length_map];omega)) U (fun v5 h10 hle9 hp4=>?_))))
  obtain ⟨rb2,rc2,rfl,sl2⟩:=hp4
  refine bE eG U (aa (ac ?_))
  refine bq (ι:=Nat×List (Int×Version)×LH×HF) (fun i=>[]) (fun i=>i.2.2.2) (fun i=>i.2.2.1) (fun i=>i.1≤(sortI (da.map Prod.fst)).length∧bz l known eo=i.2.1++((bz.K2))∧C i.2.1 i.2.2.2 i.2.2.1∧HF.le h10 i.2.2.2) ?_ (fun hx2=>?_)
  ·rintro ⟨i2,dn2,A2_,hh2⟩ ⟨j4,hs2,hC2_,hl2⟩ e
   try dsimp only at j4 hC2_ hl2
   try dsimp only
   refine gv ?_
   have hs3:bz l known eo=dn2:=hs2.trans (List.append_nil _)
   exact uS [] (A:=A2_) Fy U (List.Sublist.refl _) (.inl (hs3 ▸ hC2_))
  ·refine ck (ι:=Nat×List (Int×Version)×LH×HF×List Int) (fun i=>[(0,.func yf ya yb),(5,.map (some b1)),(39,.slice rb2 ((sortI (da.map Prod.fst)).length) rc2),(40,I (((sortI (da.map Prod.fst)).length:Nat):Int)),(41,I ((i.1:Nat):Int))]) (fun i=>i.2.2.2.1) (fun i=>i.2.2.1) (fun i=>(sortI (da.map Prod.fst)).drop i.1=i.2.2.2.2∧i.1≤(sortI (da.map Prod.fst)).length∧bz l known eo=i.2.1++((bz.L2 da (bz.K2)) i.2.2.2.2 )∧C i.2.1 i.2.2.2.1 i.2.2.1∧HF.le h10 i.2.2.2.1) (fun i=>i.2.2.2.2.length) (0,[],A,h10,(sortI (da.map Prod.fst))) rd sw ⟨U,Nat.zero_le _,hs1,(m1 _ _ _ _ ((hle7.t hle8).t hle9) hC),(HF.le_refl h10)⟩ ?_
   rintro ⟨i2,dn2,A2_,hh2,s2⟩ ⟨hd2,j4,hs4,hC2_,hl2⟩ ag1 e
   try dsimp only at hd2 j4 hC2_ hl2
   rcases s2 with _ | ⟨y2,rz2⟩
   ·have tz:=cS hd2
    try dsimp only
    refine sr (az (v':=.bool false) U (cb tz) (ac (ad (ba U (bM U ?_)))))
    exact hx2 (i2,dn2,A2_,hh2) _ ⟨j4,hs4,hC2_,hl2⟩ trivial
   ·have qH:=dV hd2
    have lG:=cU hd2
    have xL:=aP hd2
    have DR:=sl2.1.1
    try dsimp only
    refine sr (az (v':=.bool true) U (cb qH) (ac (ad (bj U (ai (ad (aU (sr (a8 (fZ (enc:=fun y=>[I y]) (fun _ _ _ e=>e) eG ty3 (sl2.mono Rp.cm hl2).1 (nthZ lG) (bA lG) U U U (fun q4 A10=>?_)))))))))))
    refine eM ty3 A10 U (an (sr (aa (aa (aa (aa ?_))))))
    obtain ⟨o3,hb5,hm5⟩:=(mc2.mono (kp.mono Version.aJ) ((hle8.t hle9).t hl2))
    refine a8 (pm (k:=y2) FG (e7 kx) hb5 hm5 (jr zv70) (show (kp Version.rp) _ (.agg (List.toArray [I 0,I 0,I 0,.string (⟨#[]⟩:ByteArray),.slice none 0 0,.slice none 0 0,.slice none 0 0,I 0,I 0,I 0,.string (⟨#[]⟩:ByteArray),.slice none 0 0,I 0])) (Version.mk 0 0 0 (Policy.mk (⟨#[]⟩:ByteArray) [] [] [] (Expr.mk 0 0 0 (⟨#[]⟩:ByteArray) []) 0)) from ⟨_,U,(oo.mk (fh.mk none 0 none 0 none 0 (cM.mk none 0))),U,⟨⟨SlC.nil,SlC.nil,SlC.nil,(Expr.ok.of SlC.nil)⟩⟩⟩) U U (fun v7 hv3=>?_))
    obtain ⟨_,rfl,rr4,rfl,ok4⟩:=hv3
    have hx3:bz l known eo=dn2++((y2,(mgetD da y2 (Version.mk 0 0 0 (Policy.mk (⟨#[]⟩:ByteArray) [] [] [] (Expr.mk 0 0 0 (⟨#[]⟩:ByteArray) []) 0))))::(bz.L2 da (bz.K2) rz2 )):=hs4
    refine a8 (lL ([]) A2_ ap (hy dn2 (y2,(mgetD da y2 (Version.mk 0 0 0 (Policy.mk (⟨#[]⟩:ByteArray) [] [] [] (Expr.mk 0 0 0 (⟨#[]⟩:ByteArray) []) 0)))) _ _ _ _ hx3 (((hle7.t hle8).t hle9).t hl2) hC2_ ⟨rr4,U,ok4⟩) U U (fun h14 A11 hle13 hC3=>?_) (fun h15 A12 hle14 hS3=>?_) (fun ch3 h16 A13 hle15 hP3 e=>jj (qh [] (A:=A13) Fy (List.sublist_append_right _ _) hP3)))
    ·have hs6:bz l known eo=(dn2++[(y2,(mgetD da y2 (Version.mk 0 0 0 (Policy.mk (⟨#[]⟩:ByteArray) [] [] [] (Expr.mk 0 0 0 (⟨#[]⟩:ByteArray) []) 0))))])++((bz.L2 da (bz.K2) rz2 )):=hx3.trans ap
     refine cR U (ac (ba U (ai (ao (ah (az (v':=I (((i2+1):Nat):Int)) U (bP ob) (aa (ac ?_))))))))
     exact ag1 ((i2+1),(dn2++[(y2,(mgetD da y2 (Version.mk 0 0 0 (Policy.mk (⟨#[]⟩:ByteArray) [] [] [] (Expr.mk 0 0 0 (⟨#[]⟩:ByteArray) []) 0))))]),A11,h14,rz2) _ (Nat.lt_succ_self _) ⟨bF hd2,aP hd2,hs6,hC3,(hl2.t hle13)⟩ rd
    ·refine cR U (ac (bj U ?_))
     refine gv ?_
     exact qg [] (A:=A12) Fy U (List.Sublist.refl _) (.inr hS3)
 ·refine ck (ι:=Nat×Int×(List (Int×Version))×Obj×List Version) (fun i=>[(0,.func yf ya yb),(2,.pointer (some known_q)),(3,.pointer (some from__q)),(5,.map (some b1)),(6,I i.2.1),(13,.slice fc l.length fb),(14,I ((l.length:Nat):Int)),(15,I ((i.1:Nat):Int))]) (fun i=>h1) (fun i=>[(b1,i.2.2.2.1)]++(A)) (fun i=>l.drop i.1=i.2.2.2.2∧i.1≤l.length∧bz l known eo=[]++((bz.L1 known eo (bz.K1)) i.2.2.2.2 i.2.1 i.2.2.1)∧gJ (Value.int .i64) (kp Version.rp) h1 i.2.2.2.1 i.2.2.1∧i.2.2.1.length≤0+i.1) (fun i=>i.2.2.2.2.length) (0,(-1),[],.map #[] 0,l) rd sw ⟨U,Nat.zero_le _,hs0,(gJ.nil (enc:=(Value.int .i64)) (V:=(kp Version.rp)) (h:=h1)),lc⟩ ?_
  rintro ⟨i1,nn,da,km,s1⟩ ⟨hd1,bd,hs7,gT,n9⟩ ag2 e
  try dsimp only at hd1 bd gT n9
  rcases s1 with _ | ⟨y1,rz1⟩
  ·have dJ:=cS hd1
   try dsimp only
   refine sr (az (v':=.bool false) U (cb dJ) (ac (ad (ba U (bM U ?_)))))
   exact hx1 (i1,nn,da,km) _ ⟨bd,hs7,gT,lc⟩ rd
  ·have dI:=dV hd1
   have bh:=cU hd1
   have e9:=aP hd1
   have gO:=(hl.mono Version.aJ hle).1.1
   try dsimp only
   refine sr (az (v':=.bool true) U (cb dI) (ac (ad (bj U (ai (ad (aU (sr (a8 (gX lu ty70 (hl.mono Version.aJ hle).1 (nthZ bh) (bA bh) U U U (fun q5 cs2 A14 ln2 rr5=>?_)))))))))))
   obtain ⟨r2,rfl,ok5⟩:=rr5
   refine dT ty70 A14 U U (bT zc70 (fun b3=>bJ 0 ty70 U U U U U U (iF (L':=[(b3,O (Version.cells y1 r2) 70),(b1,km)]++(A)) U (ac (ad (sr (ay ud U (aL 0 ty3 U U U ?_))))))))
   refine eM ty3 (aknown.mono hle) U (aF U (ac ?_))
   refine aB U (fun c5=>?_) (fun c5=>?_)
   ·have c5p:=of_decide_eq_true c5
    have hs9:=hs7.trans (congrArg ([]++·) (bt c5))
    refine bM U (ah (az (v':=I (((i1+1):Nat):Int)) U (bP ob) (aa (ac ?_))))
    refine cE (L':=[(b1,km)]++(A)) js ?_
    exact ag2 ((i1+1),nn,da,km,rz1) _ (Nat.lt_succ_self _) ⟨bF hd1,aP hd1,hs9,gT,lc⟩ rd
   ·have c5p:=of_decide_eq_false c5
    have hs10:=hs7.trans (congrArg ([]++·) (bf c5))
    refine ai (sr (ay ue U (aL 0 ty3 U U U (an (ad (sr (aa (eM ty3 (afrom_.mono hle) U (aF U (ac ?_))))))))))
    refine aB U (fun c6=>?_) (fun c6=>?_)
    ·have c6p:=of_decide_eq_true c6
     have hs11:=hs10.trans (congrArg ([]++·) (bt c6))
     refine ad (sr (aa (aa (aF U (ac ?_)))))
     refine aB U (fun c7=>?_) (fun c7=>?_)
     ·have c7p:=of_decide_eq_true c7
      have hs12:=hs11.trans (congrArg ([]++·) (bt c7))
      refine bM U (ah (az (v':=I (((i1+1):Nat):Int)) U (bP ob) (aa (ac ?_))))
      refine cE (L':=[(b1,km)]++(A)) js ?_
      exact ag2 ((i1+1),nn,da,km,rz1) _ (Nat.lt_succ_self _) ⟨bF hd1,aP hd1,hs12,gT,lc⟩ rd
     ·have c7p:=of_decide_eq_false c7
      have hs13:=hs11.trans (congrArg ([]++·) (bf c7))
      refine ai ?_
      refine gr ([(b3,O (Version.cells y1 r2) 70),(b1,km)]) mixed kr jn (fun fd _=>?_)
      refine tm 0 U (tf 1 U U (fun _ _ hj=>gu ty3 ((afrom_.mono hle).mono hj.1) U) ?_)
      refine tf 2 U U (fun _ _ _=>gG) (tf 3 U U (fun _ _ _=>gG) (cd kr ?_))
      refine ah (aa (aa (dh 0 ty70 U U U (a8 (kg 1 (k:=eo) (x:=y1) FG (e7 kx) U gT U U ⟨_,U,r2,U,ok5⟩ (fun mo3 hm6=>ac (ao (ah (az (v':=I (((i1+1):Nat):Int)) U (bP ob) ?_)))))))))
      refine aa (ac ?_)
      refine cE (L':=[(b1,mo3)]++(A)) js ?_
      exact ag2 ((i1+1),y1.At,(mput da eo y1),mo3,rz1) _ (Nat.lt_succ_self _) ⟨bF hd1,aP hd1,hs13,hm6,(by have:=gy da eo y1;first | omega | (simp only [List.length_nil,List.length_cons] at *;omega))⟩ rd
    ·have c6p:=of_decide_eq_false c6
     have hs14:=hs10.trans (congrArg ([]++·) (bf c6))
     refine ai (ah (aa (aa (dh 0 ty70 U U U (a8 (kg 1 (k:=y1.At) (x:=y1) FG (e7 kx) U gT U U ⟨_,U,r2,U,ok5⟩ (fun mo4 hm7=>ac (ao (ah (az (v':=I (((i1+1):Nat):Int)) U (bP ob) ?_))))))))))
     refine aa (ac ?_)
     refine cE (L':=[(b1,mo4)]++(A)) js ?_
     exact ag2 ((i1+1),nn,(mput da y1.At y1),mo4,rz1) _ (Nat.lt_succ_self _) ⟨bF hd1,aP hd1,hs14,hm7,(by have:=gy da y1.At y1;first | omega | (simp only [List.length_nil,List.length_cons] at *;omega))⟩ rd
theorem sn (h:HF) (l:(List Version)) (fc:Option Addr) (fb:Nat) (ql:Int) (known:Int) (hl:SlC Version.rp h fc fb l) (hsz:l.length≤2000000):jP Tryz.prog 82 [.slice fc l.length fb,I ql,I known] h (fun v h'=>∃ (rv0:Value),v=rv0∧Itr Tryz.prog rv0 nm (e8 l ql known) h'):=by
 refine aw Tryz.func82 U Tryz.ntmps82 U fun X hM hX=>?_
 have hs0:e8 l ql known=e8 l ql known:=rfl
 refine sr (dC (fun b1=>dC (fun b2=>dC (fun b3=>an (sr (cn 2 U hM (fun h1 hle1 hb1=>cn 0 U hM (fun h2 hle2 hb2=>cn 0 U hM (fun h3 hle3 hb3=>a8 (gj U U (bi ?_)))))))))))
 refine ac ?_
 have hs1:e8 l ql known=(bz l known ql):=hs0
 exact dQ [.func (.func 140) #[] #[Q b1,Q b3,Q b2]] Tryz.func82 U rd ⟨(.func (.func 140) #[] #[Q b1,Q b3,Q b2]),congrArg (fun r:(List (Int×Version))=>((.func (.func 140) #[] #[Q b1,Q b3,Q b2]):Value)) hs1.symm,(by rw [hs1];exact (qB h3 l fc fb ⟨b1,0,none⟩ known ⟨b3,0,none⟩ ql ⟨b2,0,none⟩ (hl.mono Version.aJ ((hle1.t hle2).t hle3)) ((dP hb1).mono (hle2.t hle3)) ((dP hb2).mono hle3) (dP hb3) ob))⟩
theorem sX (h:HF) (l:(List Version)) (fc:Option Addr) (fb:Nat) (begun:Int) (bQ:Int) (known:Int) (hl:SlC Version.rp h fc fb l) (hsm:smV l) (hk:Kinds h):jP Tryz.prog 44 [.slice fc l.length fb,I begun,I bQ,I known] h (fun v h'=>∃ (rb0:Option Addr) (rc0:Nat),v=.tuple #[.slice rb0 ((aV l begun bQ known).1).length rc0,I ((aV l begun bQ known).2.1),I ((aV l begun bQ known).2.2)]∧SlC Rp.int h' rb0 rc0 ((aV l begun bQ known).1)):=by
 refine aw Bj U Tryz.ntmps44 U fun X hM hX=>?_
 have hs0:aV l begun bQ known=aV l begun bQ known:=rfl
 have hsl:=hsm.len
 refine sr (dC (fun b1=>dC (fun b2=>bi (bi (an (ad (sr (aa (aA (v:=I (br l)) Tryz.call55 (m6 h l fc fb hl ob hk) U ?_)))))))))
 refine an (sr (aa (aF U (ac ?_))))
 refine aB U (fun c1=>?_) (fun c1=>?_)
 ·have hs1:=hs0.trans (bt c1)
  refine sr (aa (bi (bi (an ?_))))
  have hs2:aV l begun bQ known=([],0,(br l)):=hs1
  exact dQ [.slice none 0 0,I 0,I (br l)] Bj U rd ⟨none,0,congrArg (fun r:((List Int)×Int×Int)=>(.tuple #[.slice none r.1.length 0,I r.2.1,I r.2.2]:Value)) hs2.symm,(by rw [hs2];exact SlC.nil)⟩
 ·have hs3:=hs0.trans (bf c1)
  refine ai (ad (sr (aL 1 ty3 U U U (aA (v:=.bool (dU begun)) Tryz.call81 (lO h begun ) U (cR U (aa ?_))))))
  refine tq 4 [(0,.slice fc l.length fb),(3,I known),(5,Q b1),(6,Q b2),(8,.slice none 0 0),(29,.bool ((!(dU begun))||(!(dU bQ))))] (fun hk1=>?_) (fun e=>?_)
  ·refine au 25 U (fun c2=>?_) (fun c2=>?_)
   ·refine kq (bY (ae U ?_))
    exact hk1 _ ⟨U,U,U,U,U,(cb (eB c2)),trivial⟩
   ·refine aL 0 ty3 U U U (aA (v:=.bool (dU bQ)) Tryz.call81 (lO h bQ ) U (cR U (ae U ?_)))
    exact hk1 _ ⟨U,U,U,U,U,(cb (eE c2)),trivial⟩
  refine aa ?_
  refine tq 4 [(0,.slice fc l.length fb),(3,I known),(5,Q b1),(6,Q b2),(8,.slice none 0 0),(34,.bool (((!(dU begun))||(!(dU bQ)))||(!(dU known))))] (fun hk2=>?_) (fun e=>?_)
  ·refine au 30 U (fun c3=>?_) (fun c3=>?_)
   ·refine kq (bY (ae U ?_))
    exact hk2 _ ⟨U,U,U,U,U,(cb (eB c3)),trivial⟩
   ·refine aa (aA (v:=.bool (dU known)) Tryz.call81 (lO h known ) U (cR U (ae U ?_)))
    exact hk2 _ ⟨U,U,U,U,U,(cb (eE c3)),trivial⟩
  refine aa ?_
  refine tq 4 [(0,.slice fc l.length fb),(3,I known),(5,Q b1),(6,Q b2),(8,.slice none 0 0),(39,.bool ((((!(dU begun))||(!(dU bQ)))||(!(dU known)))||decide (bQ < begun)))] (fun hk3=>?_) (fun e=>?_)
  ·refine au 35 U (fun c4=>?_) (fun c4=>?_)
   ·refine kq (bY (ae U ?_))
    exact hk3 _ ⟨U,U,U,U,U,(cb (eB c4)),trivial⟩
   ·refine aL 1 ty3 U U U (aL 0 ty3 U U U (aF U (ae U ?_)))
    exact hk3 _ ⟨U,U,U,U,U,(cb (eE c4)),trivial⟩
  refine ac ?_
  refine aB U (fun c5=>?_) (fun c5=>?_)
  ·have hs4:=hs3.trans (bt c5)
   refine sr (bi (bi (an ?_)))
   have hs5:aV l begun bQ known=([],0,1):=hs4
   exact dQ [.slice none 0 0,I 0,I 1] Bj U rd ⟨none,0,congrArg (fun r:((List Int)×Int×Int)=>(.tuple #[.slice none r.1.length 0,I r.2.1,I r.2.2]:Value)) hs5.symm,(by rw [hs5];exact SlC.nil)⟩
  ·have hs6:=hs3.trans (bf c5)
   refine ai (sr (bT zc26 (fun b3=>ac (sr (bT zc4 (fun b4=>du 0 ty4 U U U U U U (ac (ad (sr (aa (aL 3 ty3 U U U (aa (a8 (dp Tryz.call82 (sn h l fc fb begun known hl ob) U (fun v1 h1 hle1 hp1=>?_)))))))))))))))
   obtain ⟨_,rfl,mo1⟩:=hp1
   refine ac (aU ?_)
   refine gv ?_
   refine dW (L':=([(b4,O [.bool false] 4),(b3,O [.slice none 0 0] 26),(b2,O [I bQ] 3),(b1,O [I begun] 3)])++markB []) ap ?_
   refine EZ (it:=v1) (xs:=(e8 l begun known)) (ι:=Bool×(List Version)×Option Addr×Nat×LH×HF) [] (fun i=>i.2.2.2.2.2) (fun i=>[(b4,O [.bool i.1] 4),(b3,O [.slice i.2.2.1 i.2.1.length i.2.2.2.1] 26),(b2,O [I bQ] 3),(b1,O [I begun] 3)]++(i.2.2.2.2.1)) (fun s i=>aV l begun bQ known=((aV.L1 begun bQ (aV.K1)) s i.1 i.2.1)∧ei Version.rp 70 i.2.2.2.2.2 i.2.1 i.2.2.1 i.2.2.2.1 i.2.2.2.2.1∧HF.le h1 i.2.2.2.2.2∧(∀ x∈i.2.1,x∈l)∧(∀ q∈s,q.2∈l)∧i.2.1.length+s.length≤l.length) (fun _=>False) 0 (fun _ _ _=>False) (false,[],none,0,[],h1) Bj U mo1 U sD (fun _ _ _ _ _ hq=>hq) U (show [(b4,O [.bool false] 4),(b3,O [.slice none 0 0] 26),(b2,O [I bQ] 3),(b1,O [I begun] 3)]=_ from U) ⟨hs6,ei.nil,(HF.le_refl h1),(fun x hx=>(List.not_mem_nil hx).elim),rH,(by have:=Ck l begun known;simpa using this)⟩ ?_ ?_ ?_ ?_
   ·rintro l1 dm1 lp1 y1 rz1 vs1 ⟨fK,aH,eP,eO,eW,hh1⟩ hr1 X hFR1 ⟨hs7,gH,hl1,u1_0,u1_1,u1_2⟩ hl01 hlr1 hv1 hX hXM hlp1 nx1 rt1 ex1 pn1
    try dsimp only at gH hl1 u1_0 u1_1 u1_2 hlr1
    obtain ⟨rr1_0,rfl,ok1_0⟩:=hv1
    simp only [List.length_cons] at u1_2
    let z2:Nat×Obj:=(b3,O [.slice eP aH.length eO] 26)
    let z6:Nat×Obj:=(dm1,.deferred (some []))
    refine dW (L':=[(l1,.loop lp1),z6,(b4,O [.bool fK] 4),z2,(b2,O [I bQ] 3),(b1,O [I begun] 3)]++(eW++(markB []))) ap ?_
    refine sr (an (ah (bT zc70 (fun b6=>bJ 0 ty70 U U U U U U (iF (L':=[(b6,O (Version.cells y1.2 rr1_0) 70),(l1,.loop lp1),z6,(b4,O [.bool fK] 4),z2,(b2,O [I bQ] 3),(b1,O [I begun] 3)]++(eW++(markB []))) U ?_)))))
    refine ac (kd 1 U hlp1 (aU (ad (sr (aa (aL 5 ty3 U U U (aF U (ac ?_))))))))
    refine aB U (fun c7=>?_) (fun c7=>?_)
    ·have c7p:=of_decide_eq_true c7
     have hs8:=hs7.trans (bt c7)
     refine cE (L':=[(l1,.loop { lp1 with state:=.busy }),z6,(b4,O [.bool fK] 4),z2,(b2,O [I bQ] 3),(b1,O [I begun] 3)]++(eW++(markB []))) js ?_
     refine dW (L':=rdH l1 dm1 lp1 (([(b4,O [.bool fK] 4),z2,(b2,O [I bQ] 3),(b1,O [I begun] 3)]++(eW))++markB [])) ap ?_
     exact ex1 (fK,aH,eP,eO,eW,hr1) _ _ _ ⟨hs8,(gH.mono Version.aJ hlr1),(hl1.t hlr1),u1_0,(fun q hq=>(List.not_mem_nil hq).elim),(by simp only [List.length_nil,List.length_cons] at *;omega)⟩ (HF.le_refl _) U
    ·have c7p:=of_decide_eq_false c7
     have hs9:=hs7.trans (bf c7)
     refine ai (sr (aL 3 ty4 U U U (aa ?_)))
     refine tq 4 [(8,.slice none 0 0),(11,Q b3),(12,Q b4),(14,Q b6),(54,.bool (fK||(y1.1==begun)))] (fun hk4=>?_) (fun e=>?_)
     ·refine au 50 U (fun c8=>?_) (fun c8=>?_)
      ·refine kq (bY (ae U ?_))
       exact hk4 _ ⟨U,U,U,U,(cb (eB c8)),trivial⟩
      ·refine aa (aL 6 ty3 U U U (aF U (ae U ?_)))
       exact hk4 _ ⟨U,U,U,U,(cb (eE c8)),trivial⟩
     refine du 3 ty4 U U U U U U (ac (ah (aL 4 ty26 U U U (dh 0 ty70 U U U (a8 (cf (cells:=[I y1.2.No,I y1.2.At,I y1.2.Known,.string y1.2.Policy.Name,.slice rr1_0.Policy.fM y1.2.Policy.Kinds.length rr1_0.Policy.fL,.slice rr1_0.Policy.dB y1.2.Policy.Offices.length rr1_0.Policy.dA,.slice rr1_0.Policy.ji y1.2.Policy.Rules.length rr1_0.Policy.jh,I y1.2.Policy.Change.Kind,I y1.2.Policy.Change.N,I y1.2.Policy.Change.No,.string y1.2.Policy.Change.Name,.slice rr1_0.Policy.Change.iE y1.2.Policy.Change.L.length rr1_0.Policy.Change.iG,I y1.2.Policy.Mode]) lu ty70 zc70 U U kr (fun b7=>?_)))))))
     let z1:Nat×Obj:=(b7,O [I y1.2.No,I y1.2.At,I y1.2.Known,.string y1.2.Policy.Name,.slice rr1_0.Policy.fM y1.2.Policy.Kinds.length rr1_0.Policy.fL,.slice rr1_0.Policy.dB y1.2.Policy.Offices.length rr1_0.Policy.dA,.slice rr1_0.Policy.ji y1.2.Policy.Rules.length rr1_0.Policy.jh,I y1.2.Policy.Change.Kind,I y1.2.Policy.Change.N,I y1.2.Policy.Change.No,.string y1.2.Policy.Change.Name,.slice rr1_0.Policy.Change.iE y1.2.Policy.Change.L.length rr1_0.Policy.Change.iG,I y1.2.Policy.Mode] 70)
     let z4:Nat×Obj:=(b4,O [.bool (fK||(y1.1==begun))] 4)
     let z5:Nat×Obj:=(l1,.loop { lp1 with state:=.busy })
     let z7:Nat×Obj:=(b6,O (Version.cells y1.2 rr1_0) 70)
     refine a8 (eK Version.eZ ([z1,z7,z5,z6,z4,z2,(b2,O [I bQ] 3),(b1,O [I begun] 3)]) (markB []) (fun G=>[z1,z7,z5,z6,z4,z2,(b2,O [I bQ] 3),(b1,O [I begun] 3)]++(markB []++(G))) ap (fun _=>ap) lu ty70 zc70 U bytes70 (gH.mono Version.aJ hlr1) U U (ff 0 U (show bW Version.rp hr1 [I y1.2.No,I y1.2.At,I y1.2.Known,.string y1.2.Policy.Name,.slice rr1_0.Policy.fM y1.2.Policy.Kinds.length rr1_0.Policy.fL,.slice rr1_0.Policy.dB y1.2.Policy.Offices.length rr1_0.Policy.dA,.slice rr1_0.Policy.ji y1.2.Policy.Rules.length rr1_0.Policy.jh,I y1.2.Policy.Change.Kind,I y1.2.Policy.Change.N,I y1.2.Policy.Change.No,.string y1.2.Policy.Change.Name,.slice rr1_0.Policy.Change.iE y1.2.Policy.Change.L.length rr1_0.Policy.Change.iG,I y1.2.Policy.Mode] ([y1.2]) from ⟨[I y1.2.No,I y1.2.At,I y1.2.Known,.string y1.2.Policy.Name,.slice rr1_0.Policy.fM y1.2.Policy.Kinds.length rr1_0.Policy.fL,.slice rr1_0.Policy.dB y1.2.Policy.Offices.length rr1_0.Policy.dA,.slice rr1_0.Policy.ji y1.2.Policy.Rules.length rr1_0.Policy.jh,I y1.2.Policy.Change.Kind,I y1.2.Policy.Change.N,I y1.2.Policy.Change.No,.string y1.2.Policy.Change.Name,.slice rr1_0.Policy.Change.iE y1.2.Policy.Change.L.length rr1_0.Policy.Change.iG,I y1.2.Policy.Mode],[],U,U,⟨rr1_0,U,ok1_0⟩,U⟩)) lo lo (fun ob1 oc1 G1 gr1=>?_))
     refine wj (rZ ([z1,z7,z5,z6,z4,z2,(b2,O [I bQ] 3),(b1,O [I begun] 3)]) G1 (markB [])) ?_
     refine du 5 ty26 U U U U U U (ac (ao ?_))
     let z9:Nat×Obj:=(b3,O [.slice ob1 ((aH++[y1.2]).length) oc1] 26)
     refine cE (L':=[z5,z6,z4,z9,(b2,O [I bQ] 3),(b1,O [I begun] 3)]++(G1++(markB []))) js ?_
     refine dW (L':=rdH l1 dm1 lp1 (([z4,z9,(b2,O [I bQ] 3),(b1,O [I begun] 3)]++(G1))++markB [])) ap ?_
     exact nx1 ((fK||(y1.1==begun)),(aH++[y1.2]),ob1,oc1,G1,hr1) _ _ ⟨hs9,gr1,(hl1.t hlr1),(fun x hx=>(List.mem_append.1 hx).elim (u1_0 x) (fun hx=>by rw [List.mem_singleton.1 hx];exact u1_1 y1 (List.mem_cons_self ..))),(fun q hq=>u1_1 q (List.mem_cons_of_mem _ hq)),(by simp only [List.length_append,List.length_cons,List.length_nil] at *;omega)⟩ (HF.le_refl _)
   ·rintro dm1 ⟨fK,aH,eP,eO,eW,hh1⟩ hn1 ⟨hs10,gH,hl1,u1_0,u1_1,u1_2⟩ hln1 hl01
    try dsimp only at gH hl1 u1_0 u1_1 u1_2 hln1
    let z3:Nat×Obj:=(b3,O [.slice eP aH.length eO] 26)
    refine dW (L':=[(b4,O [.bool fK] 4),z3,(b2,O [I bQ] 3),(b1,O [I begun] 3)]++(eW++(markB (dm1::[])))) ap ?_
    refine ad (sr (aL 1 ty26 U U U (bE lu U (aF U (ac ?_)))))
    refine aB U (fun c9=>?_) (fun c9=>?_)
    ·have hs11:=hs10.trans (bt c9)
     refine sr (bi (bi (an ?_)))
     have hs12:aV l begun bQ known=([],0,0):=hs11
     refine dW (L':=([(b4,O [.bool fK] 4),z3,(b2,O [I bQ] 3),(b1,O [I begun] 3)]++(eW))++markB (dm1::[])) ap ?_
     exact pj (dm1::[]) [.slice none 0 0,I 0,I 0] Bj U rd ⟨none,0,congrArg (fun r:((List Int)×Int×Int)=>(.tuple #[.slice none r.1.length 0,I r.2.1,I r.2.2]:Value)) hs12.symm,(by rw [hs12];exact SlC.nil)⟩
    ·have hs13:=hs10.trans (bf c9)
     refine ai (sr (aL 1 ty26 U U U (aL 1 ty26 U U U (bE lu U (az (v':=I (((aH.length:Nat):Int) - 1)) U (iZ ob) (lP Version.aJ ([(b4,O [.bool fK] 4),z3,(b2,O [I bQ] 3),(b1,O [I begun] 3)]) eW (markB (dm1::[])) ap hM (gH.mono Version.aJ hln1) (fun h2 hle2 sl1=>?_)))))))
     have ho1:0≤((((aH.length:Nat):Int) - 1):Int)∧((((aH.length:Nat):Int) - 1):Int) < ((aH).length:Int):=ob
     refine a8 (gX lu ty70 sl1.1 ho1 (eN ho1) U U U (fun q1 cs1 A1 ln1 rr1=>?_))
     obtain ⟨r1,rfl,ok1⟩:=rr1
     refine ay qo U (ay sd U (ns (j:=12) ty3 A1 U U (an (ad (ad ?_)))))
     refine gr ([(b4,O [.bool fK] 4),z3,(b2,O [I bQ] 3),(b1,O [I begun] 3)]) mixed kr jn (fun fd _=>?_)
     refine tm 1 U (tf 3 U U (fun _ _ hj=>hY ty26 U (hj.nth (i:=1) U) U) ?_)
     refine tf 4 U U (fun _ _ hj=>hY ty4 U (hj.nth (i:=0) U) U) (tm 7 U ?_)
     refine tn 0 U (dp Tryz.call83 (nI h2  ) U (fun v2 h3 hle3 hp2=>?_))
     obtain ⟨rk2,rfl,mo2⟩:=hp2
     refine ⟨jl hle3,tu hle3 ?_⟩
     refine tn 2 U ?_
     obtain ⟨o1,hb1,hm1⟩:=mo2
     refine pm (k:=(nthI aH (((aH.length:Nat):Int) - 1)).Policy.Mode) Bl (e7 kx) hb1 hm1 (jr zv141) (show VFn _ (.nilFunc) Value.nilFunc from U) U U (fun v3 hv1=>?_)
     obtain rfl:=hv1
     refine ⟨jn,?_⟩
     refine tn 5 U (Gk (Cf h3 ((nthI aH (((aH.length:Nat):Int) - 1)).Policy.Mode) (((kw l).1 (by simpa using c1)).mode (u1_0 _ (ki ho1))) aH eP eO fK (sl1.mono Version.aJ hle3) ob) U U (fun v4 h4 hle4 hp3=>?_))
     obtain ⟨rb1,rc1,rfl,sl2⟩:=hp3
     have hjl:=Ch ((nthI aH (((aH.length:Nat):Int) - 1)).Policy.Mode) aH fK
     refine ⟨jl hle4,tu hle4 ?_⟩
     refine tf 6 U U (fun _ _ _=>Gp lu U) (cd kr ?_)
     refine bq (ι:=Nat×(List Int)×Option Addr×Nat×LH) (fun i=>[(8,.slice i.2.2.1 i.2.1.length i.2.2.2.1),(9,I ((nthI aH (((aH.length:Nat):Int) - 1)).Policy.Mode))]) (fun i=>h4) (fun i=>[(b4,O [.bool fK] 4),z3,(b2,O [I bQ] 3),(b1,O [I begun] 3)]++(i.2.2.2.2++(markB (dm1::[])))) (fun i=>i.1≤(judgesP ((nthI aH (((aH.length:Nat):Int) - 1)).Policy.Mode) aH fK).length∧aV l begun bQ known=((aV.K2 aH) i.2.1)∧ei Rp.int 3 h4 i.2.1 i.2.2.1 i.2.2.2.1 i.2.2.2.2∧i.2.1.length≤0+i.1) ?_ (fun hx2=>?_)
     ·rintro ⟨i2,wg,Ct,Cs,Cu⟩ ⟨bd,hs14,zX,GN⟩ e
      try dsimp only at bd zX GN
      try dsimp only
      refine sr (aa (a8 (qX ([(b4,O [.bool fK] 4),z3,(b2,O [I bQ] 3),(b1,O [I begun] 3)]) Cu (markB (dm1::[])) Tryz.call41 (lS h4 wg Ct Cs Cu zX (by first | assumption | omega | (simp only [List.length_append,List.length_cons,List.length_nil] ;omega))) ap U (fun G4 gr4=>?_))))
      refine ac (sr (aa (aa (bi (bi (an ?_))))))
      refine gi Rp.cm ([(b4,O [.bool fK] 4),z3,(b2,O [I bQ] 3),(b1,O [I begun] 3)]) G4 (markB (dm1::[])) ap hM gr4 (fun h6 hle6 sl4=>?_)
      have hs15:aV l begun bQ known=((sortI wg),(nthI aH (((aH.length:Nat):Int) - 1)).Policy.Mode,0):=hs14
      refine dW (L':=([(b4,O [.bool fK] 4),z3,(b2,O [I bQ] 3),(b1,O [I begun] 3)])++markB (dm1::[])) ap ?_
      exact pj (dm1::[]) [.slice Ct wg.length Cs,I ((nthI aH (((aH.length:Nat):Int) - 1)).Policy.Mode),I 0] Bj U rd ⟨Ct,Cs,(by rw [hs15];simp [retVal,iI]),(by rw [hs15];exact sl4)⟩
     ·refine ck (ι:=Nat×(List Int)×Option Addr×Nat×LH×List Version) (fun i=>[(8,.slice i.2.2.1 i.2.1.length i.2.2.2.1),(9,I ((nthI aH (((aH.length:Nat):Int) - 1)).Policy.Mode)),(75,.slice rb1 ((judgesP ((nthI aH (((aH.length:Nat):Int) - 1)).Policy.Mode) aH fK).length) rc1),(76,I (((judgesP ((nthI aH (((aH.length:Nat):Int) - 1)).Policy.Mode) aH fK).length:Nat):Int)),(77,I ((i.1:Nat):Int))]) (fun i=>h4) (fun i=>[(b4,O [.bool fK] 4),z3,(b2,O [I bQ] 3),(b1,O [I begun] 3)]++(i.2.2.2.2.1++(markB (dm1::[])))) (fun i=>(judgesP ((nthI aH (((aH.length:Nat):Int) - 1)).Policy.Mode) aH fK).drop i.1=i.2.2.2.2.2∧i.1≤(judgesP ((nthI aH (((aH.length:Nat):Int) - 1)).Policy.Mode) aH fK).length∧aV l begun bQ known=((aV.L2 (aV.K2 aH)) i.2.2.2.2.2 i.2.1)∧ei Rp.int 3 h4 i.2.1 i.2.2.1 i.2.2.2.1 i.2.2.2.2.1∧i.2.1.length≤0+i.1) (fun i=>i.2.2.2.2.2.length) (0,[],none,0,[],(judgesP ((nthI aH (((aH.length:Nat):Int) - 1)).Policy.Mode) aH fK)) rd sw ⟨U,Nat.zero_le _,hs13,ei.nil,lo⟩ ?_
      rintro ⟨i2,wg,Ct,Cs,Cu,s2⟩ ⟨hd2,j4,hs16,zX,GN⟩ ag1 e
      try dsimp only at hd2 j4 zX GN
      rcases s2 with _ | ⟨y2,rz2⟩
      ·have tz:=cS hd2
       try dsimp only
       refine sr (az (v':=.bool false) U (cb tz) (ac (ad (ba U (bM U ?_)))))
       exact hx2 (i2,wg,Ct,Cs,Cu) _ ⟨j4,hs16,zX,lo⟩ rd
      ·have qH:=dV hd2
       have lG:=cU hd2
       have xL:=aP hd2
       have DR:=sl2.1.1
       try dsimp only
       refine sr (az (v':=.bool true) U (cb qH) (ac (ad (bj U (ai (ad (aU (sr (a8 (gX lu ty70 sl2.1 (nthZ lG) (bA lG) U U U (fun q3 cs3 A3 ln3 rr3=>?_)))))))))))
       obtain ⟨r3,rfl,ok3⟩:=rr3
       refine dT ty70 A3 U U (bT zc70 (fun b10=>bJ 0 ty70 U U U U U U (iF (L':=[(b10,O (Version.cells y2 r3) 70),(b4,O [.bool fK] 4),z3,(b2,O [I bQ] 3),(b1,O [I begun] 3)]++(Cu++(markB (dm1::[])))) U ?_)))
       let z8:Nat×Obj:=(b10,O (Version.cells y2 r3) 70)
       refine ac (ah (aa (ay oT U (aL 0 ty3 U U U (a8 (cf (cells:=[I y2.No]) eG ty3 zc3 U U kr (fun b11=>a8 (eK Rp.jY ([(b11,O [I y2.No] 3),z8,(b4,O [.bool fK] 4),z3,(b2,O [I bQ] 3),(b1,O [I begun] 3)]) (markB (dm1::[])) (fun G=>[(b11,O [I y2.No] 3),z8,(b4,O [.bool fK] 4),z3,(b2,O [I bQ] 3),(b1,O [I begun] 3)]++(markB (dm1::[])++(G))) ap (fun _=>ap) eG ty3 zc3 U bytes3 zX U U (ff 0 U (show bW Rp.int h4 [I y2.No] ([y2.No]) from ⟨[I y2.No],[],U,U,U,U⟩)) lo lo (fun ob3 oc3 G5 gr5=>?_)))))))))
       refine wj (rZ ([(b11,O [I y2.No] 3),z8,(b4,O [.bool fK] 4),z3,(b2,O [I bQ] 3),(b1,O [I begun] 3)]) G5 (markB (dm1::[]))) ?_
       refine an (ao (ah (az (v':=I (((i2+1):Nat):Int)) U (bP ob) (aa (ac ?_)))))
       refine cE (L':=[(b4,O [.bool fK] 4),z3,(b2,O [I bQ] 3),(b1,O [I begun] 3)]++(G5++(markB (dm1::[])))) js ?_
       exact ag1 ((i2+1),(wg++[y2.No]),ob3,oc3,G5,rz2) _ (Nat.lt_succ_self _) ⟨bF hd2,aP hd2,hs16,gr5,lo⟩ rd
   ·exact fun _ _ _ hF=>hF.elim
   ·exact fun _ _ _ _ hF=>hF.elim
theorem so (h:HF) (s:(List Int)) (pP:Option Addr) (pi:Nat) (v:Int) (hs:SlC Rp.int h pP pi s):Ret Tryz.prog 179 [.slice pP s.length pi,I v] h (I (dL s v)):=by
 refine aw Tryz.func179 U Tryz.ntmps179 U fun X hM hX=>?_
 have hs0:dL s v=dL s v:=rfl
 refine sr (an (ad (sr (aa (bE eG U (aa (ac ?_)))))))
 refine bq (ι:=Nat) (fun i=>[]) (fun i=>h) (fun i=>[]) (fun i=>i≤s.length∧dL s v=((dL.K1))) ?_ (fun hx1=>?_)
 ·rintro i1 ⟨bd,hs1⟩ e
  try dsimp only at bd
  try dsimp only
  refine sr (an ?_)
  exact ar [I (-1)] Tryz.func179 U hX rd (ci hs1)
 ·refine ck (ι:=Nat×List Int) (fun i=>[(0,.slice pP s.length pi),(1,I v),(7,I ((s.length:Nat):Int)),(8,I ((i.1:Nat):Int))]) (fun i=>h) (fun i=>[]) (fun i=>s.drop i.1=i.2∧i.1≤s.length∧dL s v=((dL.L1 v (dL.K1)) i.2 i.1)) (fun i=>i.2.length) (0,s) rd sw ⟨U,Nat.zero_le _,hs0⟩ ?_
  rintro ⟨i1,s1⟩ ⟨hd1,bd,hs3⟩ ag1 e
  try dsimp only at hd1 bd
  rcases s1 with _ | ⟨y1,rz1⟩
  ·have dJ:=cS hd1
   try dsimp only
   refine sr (az (v':=.bool false) U (cb dJ) (ac (ad (ba U (bM U ?_)))))
   exact hx1 i1 _ ⟨bd,hs3⟩ trivial
  ·have dI:=dV hd1
   have bh:=cU hd1
   have e9:=aP hd1
   have gO:=hs.1.1
   try dsimp only
   refine sr (az (v':=.bool true) U (cb dI) (ac (ad (bj U (ai (ad (aU (sr (aa (an (sr (aa (aa (aa (a8 (fZ (enc:=fun y=>[I y]) (fun _ _ _ e=>e) eG ty3 hs.1 (nthZ bh) (bA bh) U U U (fun q2 A2=>?_)))))))))))))))))
   refine eM ty3 A2 U (aF U (ac ?_))
   refine aB U (fun c2=>?_) (fun c2=>?_)
   ·have hs5:=hs3.trans (bt c2)
    refine sr (aa (an ?_))
    exact ar [I ((i1:Nat):Int)] Tryz.func179 U hX rd (ci hs5)
   ·have hs7:=hs3.trans (bf c2)
    refine ai (ao (ah (az (v':=I (((i1+1):Nat):Int)) U (bP ob) (aa (ac ?_)))))
    exact ag1 ((i1+1),rz1) _ (Nat.lt_succ_self _) ⟨bF hd1,aP hd1,hs7⟩ rd
theorem pU (h:HF) (s:(List Int)) (pP:Option Addr) (pi:Nat) (v:Int) (hs:SlC Rp.int h pP pi s):Ret Tryz.prog 111 [.slice pP s.length pi,I v] h (.bool (fQ s v)):=by
 refine aw Tryz.func111 U Tryz.ntmps111 U fun X hM hX=>?_
 have hs0:fQ s v=fQ s v:=rfl
 refine sr (an (sr (aa (aa (aA (v:=I (dL s v)) Tryz.call179 (so h s pP pi v hs) U (aF U (an ?_)))))))
 exact ar [.bool (decide (0≤(dL s v)))] Tryz.func111 U hX rd (cs hs0)
end Go.Sg
