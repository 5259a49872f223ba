import Derived.Test.YtngiefchigcphaaGreatDoorW1
import Derived.Test.YtngiefchigcphaaGreatDoorW2
import Derived.Test.YtngiefchigcphaaGreatDoorW3
import Derived.Test.YtngiefchigcphaaGreatDoorW4
import Derived.Test.YtngiefchigcphaaGreatDoorW5
import Derived.Test.YtngiefchigcphaaGreatDoorW6
import Derived.Test.YtngiefchigcphaaGreatDoorW7
import Derived.Test.YtngiefchigcphaaGreatDoorW8
/- A part of the proof of the law AsofEvery: where what it reads holds at most 1048576 values and letters, the call returns true and its arguments read as they did. Conditions: that bound, and that the listed table starts as the program lays it. -/
set_option linter.unusedVariables false
set_option linter.unusedSimpArgs false
namespace Go.Sg
open Go.Proofs
set_option maxHeartbeats 2000000
set_option maxRecDepth 100000
set_option linter.unusedVariables false
theorem qC (h:HF) (Dm:Bool)  : Ret Tryz.prog 166 [.bool Dm] h (.bool (dz Dm)):=by
 refine ay Tryz.func166 U Tryz.ntmps166 U fun X hM hX=>?_
 have hs0:dz Dm=dz Dm:=rfl
 refine sr (an (sr (aa (an ?_))))
 exact aw [.bool Dm] Tryz.func166 U hX rd (cs hs0)
theorem qB (h:HF) (Dm:Bool)  : Ret Tryz.prog 167 [.bool Dm] h (.bool (eM Dm)):=by
 refine ay Tryz.func167 U Tryz.ntmps167 U fun X hM hX=>?_
 have hs0:eM Dm=eM Dm:=rfl
 refine sr (an (sr (aa (cV U (an ?_)))))
 exact aw [.bool (!Dm)] Tryz.func167 U hX rd (cs hs0)
theorem sE (h:HF) (mode:Int) (permits:(List Bool)) (iU:Option Addr) (iT:Nat) (hpermits:SlC Rp.bool h iU iT permits) (hsz0:permits.length≤2000000):jK Tryz.prog 98 [I mode,.slice iU permits.length iT] h (fun v h'=>∃ (rb0:Option Addr) (rc0:Nat),v=.tuple #[.slice rb0 ((bo mode permits).1).length rc0,.bool ((bo mode permits).2.1),I ((bo mode permits).2.2)]∧SlC Rp.int h' rb0 rc0 ((bo mode permits).1)):=by
 refine ay yB U Tryz.ntmps98 U fun X hM hX=>?_
 have hs0:bo mode permits=bo mode permits:=rfl
 refine sr (ba (ba (an (ae (sr (aa (aa (aG (v:=I (gN mode permits)) Tryz.call164 (td h mode permits iU iT hpermits) U (an (ae ?_))))))))))
 refine ai (aa (aJ U (ac ?_)))
 refine aE U (fun c1=>?_) (fun c1=>?_)
 ·have hs1:=hs0.trans (bt c1)
  refine sr (aa (ba (ba (an ?_))))
  have hs2:bo mode permits=([],false,(gN mode permits)):=hs1
  exact dS [.slice none 0 0,.bool false,I (gN mode permits)] yB U rd ⟨none,0,congrArg (fun r:((List Int)×Bool×Int)=>(.tuple #[.slice none r.1.length 0,.bool r.2.1,I r.2.2]:Value)) hs2.symm,(by rw [hs2];exact SlC.nil)⟩
 ·have hs3:=hs0.trans (bf c1)
  refine ao (sr (aa (aG (v:=I (bR permits dz)) Tryz.call165 (mv h permits iU iT dz (.func (.func 166) #[] #[]) hpermits (fun h' cG hle =>iZ Tryz.call166 (qC h' cG    ))) U ?_)))
  refine an (sr (aa (aG (v:=I (bR permits eM)) Tryz.call165 (mv h permits iU iT eM (.func (.func 167) #[] #[]) hpermits (fun h' cG hle =>iZ Tryz.call167 (qB h' cG    ))) U ?_)))
  refine an (ae (aW (sr (aa (aJ U (aa ?_))))))
  refine tq 3 [(0,I mode),(1,.slice iU permits.length iT),(4,.slice none 0 0),(5,.bool false),(7,I (bR permits dz)),(8,I (bR permits eM)),(26,.bool ((mode==4)&&decide (0≤(bR permits dz))))] (fun hk1=>?_) (fun e=>?_)
  ·refine ar 23 U (fun c2=>?_) (fun c2=>?_)
   ·refine aa (aJ U (ah U ?_))
    exact hk1 _ ⟨U,U,U,U,U,U,(cb (cW c2)),trivial⟩
   ·refine kq (ah U ?_)
    exact hk1 _ ⟨U,U,U,U,U,U,(cb (cX c2)),trivial⟩
  refine an ?_
  refine aE U (fun c3=>?_) (fun c3=>?_)
  ·have hs4:=hs3.trans (bt c3)
   refine sr (aa (a8 (ck (cells:=[I (bR permits dz)]) eL ty3 zc3 U U kr (fun b1=>ba (ba (an ?_))))))
   refine fD 0 U hM (fun h1 hle1 hb1=>?_)
   have sl1:SlC Rp.int h1 (some ⟨b1,0,none⟩) 1 ([(bR permits dz)]):=bV.slB0 (T:=3) (fz:=(0,0)) ((show bV Rp.int h [I (bR permits dz)] ([(bR permits dz)]) from ⟨[I (bR permits dz)],[],rfl,rfl,rfl,rfl⟩).mono Rp.ce hle1) hb1
   have hs5:bo mode permits=([(bR permits dz)],true,0):=hs4
   exact dS [.slice (some ⟨b1,0,none⟩) 1 1,.bool true,I 0] yB U rd ⟨(some ⟨b1,0,none⟩),1,congrArg (fun r:((List Int)×Bool×Int)=>(.tuple #[.slice (some ⟨b1,0,none⟩) r.1.length 1,.bool r.2.1,I r.2.2]:Value)) hs5.symm,(by rw [hs5];exact sl1)⟩
  ·have hs6:=hs3.trans (bf c3)
   refine sr (aa (aJ U (aa ?_)))
   refine tq 3 [(0,I mode),(1,.slice iU permits.length iT),(4,.slice none 0 0),(5,.bool false),(7,I (bR permits dz)),(8,I (bR permits eM)),(35,.bool ((mode==3)&&decide (0≤(bR permits eM))))] (fun hk2=>?_) (fun e=>?_)
   ·refine ar 32 U (fun c4=>?_) (fun c4=>?_)
    ·refine aa (aJ U (ah U ?_))
     exact hk2 _ ⟨U,U,U,U,U,U,(cb (cW c4)),trivial⟩
    ·refine kq (ah U ?_)
     exact hk2 _ ⟨U,U,U,U,U,U,(cb (cX c4)),trivial⟩
   refine an ?_
   refine aE U (fun c5=>?_) (fun c5=>?_)
   ·have hs7:=hs6.trans (bt c5)
    refine sr (aa (a8 (ck (cells:=[I (bR permits eM)]) eL ty3 zc3 U U kr (fun b2=>ba (ba (an ?_))))))
    refine fD 0 U hM (fun h2 hle2 hb2=>?_)
    have sl2:SlC Rp.int h2 (some ⟨b2,0,none⟩) 1 ([(bR permits eM)]):=bV.slB0 (T:=3) (fz:=(0,0)) ((show bV Rp.int h [I (bR permits eM)] ([(bR permits eM)]) from ⟨[I (bR permits eM)],[],rfl,rfl,rfl,rfl⟩).mono Rp.ce hle2) hb2
    have hs8:bo mode permits=([(bR permits eM)],false,0):=hs7
    exact dS [.slice (some ⟨b2,0,none⟩) 1 1,.bool false,I 0] yB U rd ⟨(some ⟨b2,0,none⟩),1,congrArg (fun r:((List Int)×Bool×Int)=>(.tuple #[.slice (some ⟨b2,0,none⟩) r.1.length 1,.bool r.2.1,I r.2.2]:Value)) hs8.symm,(by rw [hs8];exact sl2)⟩
   ·have hs9:=hs6.trans (bf c5)
    refine sr (aa (aJ U (an ?_)))
    refine aE U (fun c6=>?_) (fun c6=>?_)
    ·have hs10:=hs9.trans (bt c6)
     refine ai (aa (aJ U (an (av (ae (sr (aa (bC lT U (aa (ac ?_))))))))))
     refine br (ι:=Nat×(List Int)×Option Addr×Nat×LH) (fun i=>[(4,.slice i.2.2.1 i.2.1.length i.2.2.2.1),(5,.bool (decide (0≤(bR permits dz))))]) (fun i=>h) (fun i=>i.2.2.2.2) (fun i=>i.1≤permits.length∧bo mode permits=((bo.K1 permits) i.2.1)∧ep Rp.int 3 h i.2.1 i.2.2.1 i.2.2.2.1 i.2.2.2.2∧i.2.1.length≤0+i.1) ?_ (fun hx1=>?_)
     ·rintro ⟨i1,m9,qj,qi,sy⟩ ⟨bd,hs11,oE,xx⟩ e
      try dsimp only at bd oE xx
      try dsimp only
      refine sr (aa (aa (ba (ba (an ?_)))))
      refine gj Rp.ce ([]) sy ([]) ap hM oE (fun h4 hle4 sl4=>?_)
      have hs12:bo mode permits=(m9,decide (0≤(bR permits dz)),0):=hs11
      exact dS [.slice qj m9.length qi,.bool (decide (0≤(bR permits dz))),I 0] yB U rd ⟨qj,qi,congrArg (fun r:((List Int)×Bool×Int)=>(.tuple #[.slice qj r.1.length qi,.bool r.2.1,I r.2.2]:Value)) hs12.symm,(by rw [hs12];exact sl4)⟩
     ·refine cp (ι:=Nat×(List Int)×Option Addr×Nat×LH×List Bool) (fun i=>[(4,.slice i.2.2.1 i.2.1.length i.2.2.2.1),(5,.bool (decide (0≤(bR permits dz)))),(55,I ((permits.length:Nat):Int)),(56,I ((i.1:Nat):Int))]) (fun i=>h) (fun i=>i.2.2.2.2.1) (fun i=>permits.drop i.1=i.2.2.2.2.2∧i.1≤permits.length∧bo mode permits=((bo.L1 (bo.K1 permits)) i.2.2.2.2.2 i.1 i.2.1)∧ep Rp.int 3 h i.2.1 i.2.2.1 i.2.2.2.1 i.2.2.2.2.1∧i.2.1.length≤0+i.1) (fun i=>i.2.2.2.2.2.length) (0,[],none,0,[],permits) rd sw ⟨U,Nat.zero_le _,hs10,ep.nil,lo⟩ ?_
      rintro ⟨i1,m9,qj,qi,sy,s1⟩ ⟨hd1,bd,hs13,oE,xx⟩ ag1 e
      try dsimp only at hd1 bd oE xx
      rcases s1 with _ | ⟨y1,rz1⟩
      ·have dI:=cU hd1
       try dsimp only
       refine sr (aB (v':=.bool false) U (cb dI) (ac (ae (bg U (bO U ?_)))))
       exact hx1 (i1,m9,qj,qi,sy) _ ⟨bd,hs13,oE,lo⟩ rd
      ·have dH:=dY hd1
       have bh:=cY hd1
       have eT:=aT hd1
       have gx:=hpermits.1.1
       try dsimp only
       refine sr (aB (v':=.bool true) U (cb dH) (ac (ae (bn U (ao (ae (aW (sr (aa (an (ai (aa (aa (a8 (ck (cells:=[I ((i1:Nat):Int)]) eL ty3 zc3 U U kr (fun b4=>?_))))))))))))))))
       refine a8 (eK Rp.kP ([(b4,O [I ((i1:Nat):Int)] 3)]) ([]) (fun G=>[(b4,O [I ((i1:Nat):Int)] 3)]++(G)) ap (fun _=>ap) eL ty3 zc3 U bytes3 oE U U (eZ 0 U (show bV Rp.int h [I ((i1:Nat):Int)] ([((i1:Nat):Int)]) from ⟨[I ((i1:Nat):Int)],[],U,U,U,U⟩)) lo lo (fun ob2 oc2 G2 gr2=>?_))
       refine an (av (ai (aB (v':=I (((i1+1):Nat):Int)) U (bW ob) ?_)))
       refine aa (ac ?_)
       refine cE (L':=G2) js ?_
       exact ag1 ((i1+1),(m9++[((i1:Nat):Int)]),ob2,oc2,G2,rz1) _ (Nat.lt_succ_self _) ⟨bF hd1,aT hd1,hs13,gr2,lo⟩ rd
    ·have hs15:=hs9.trans (bf c6)
     refine sr (aa (aJ U (an ?_)))
     refine aE U (fun c7=>?_) (fun c7=>?_)
     ·have hs16:=hs15.trans (bt c7)
      refine ai (aa (bC lT U (aJ U (aa ?_))))
      refine tq 4 [(1,.slice iU permits.length iT),(4,.slice none 0 0),(53,.bool ((((permits.length:Nat):Int)==1)&&(nthI permits 0)))] (fun hk3=>?_) (fun e=>?_)
      ·refine ar 49 U (fun c8=>?_) (fun c8=>?_)
       ·refine aa ?_
        have ho1:0≤(0:Int)∧(0:Int) < ((permits).length:Int):=ob
        refine a8 (fQ (enc:=fun y=>[.bool y]) (fun _ _ _ e=>e) lT ty4 hpermits.1 ho1 (eA ho1) U U U (fun q1 A1=>eC ty4 A1 U (ah U ?_)))
        exact hk3 _ ⟨U,U,(cb (cW c8)),trivial⟩
       ·refine kq (bP (ah U ?_))
        exact hk3 _ ⟨U,U,(cb (cX c8)),trivial⟩
      refine an (av (ae (sr (aa (bC lT U (aa (ac ?_)))))))
      refine br (ι:=Nat×(List Int)×Option Addr×Nat×LH) (fun i=>[(4,.slice i.2.2.1 i.2.1.length i.2.2.2.1),(5,.bool ((((permits.length:Nat):Int)==1)&&(nthI permits 0)))]) (fun i=>h) (fun i=>i.2.2.2.2) (fun i=>i.1≤permits.length∧bo mode permits=((bo.K2 permits) i.2.1)∧ep Rp.int 3 h i.2.1 i.2.2.1 i.2.2.2.1 i.2.2.2.2∧i.2.1.length≤0+i.1) ?_ (fun hx2=>?_)
      ·rintro ⟨i2,xl,BK,BJ,F7⟩ ⟨jW,hs17,zh,F6⟩ e
       try dsimp only at jW zh F6
       try dsimp only
       refine sr (aa (aa (ba (ba (an ?_)))))
       refine gj Rp.ce ([]) F7 ([]) ap hM zh (fun h6 hle6 sl6=>?_)
       have hs18:bo mode permits=(xl,((((permits.length:Nat):Int)==1)&&(nthI permits 0)),0):=hs17
       exact dS [.slice BK xl.length BJ,.bool ((((permits.length:Nat):Int)==1)&&(nthI permits 0)),I 0] yB U rd ⟨BK,BJ,congrArg (fun r:((List Int)×Bool×Int)=>(.tuple #[.slice BK r.1.length BJ,.bool r.2.1,I r.2.2]:Value)) hs18.symm,(by rw [hs18];exact sl6)⟩
      ·refine cp (ι:=Nat×(List Int)×Option Addr×Nat×LH×List Bool) (fun i=>[(4,.slice i.2.2.1 i.2.1.length i.2.2.2.1),(5,.bool ((((permits.length:Nat):Int)==1)&&(nthI permits 0))),(55,I ((permits.length:Nat):Int)),(56,I ((i.1:Nat):Int))]) (fun i=>h) (fun i=>i.2.2.2.2.1) (fun i=>permits.drop i.1=i.2.2.2.2.2∧i.1≤permits.length∧bo mode permits=((bo.L2 (bo.K2 permits)) i.2.2.2.2.2 i.1 i.2.1)∧ep Rp.int 3 h i.2.1 i.2.2.1 i.2.2.2.1 i.2.2.2.2.1∧i.2.1.length≤0+i.1) (fun i=>i.2.2.2.2.2.length) (0,[],none,0,[],permits) rd sw ⟨U,Nat.zero_le _,hs16,ep.nil,lo⟩ ?_
       rintro ⟨i2,xl,BK,BJ,F7,s2⟩ ⟨hd2,jW,hs19,zh,F6⟩ ag2 e
       try dsimp only at hd2 jW zh F6
       rcases s2 with _ | ⟨y2,rz2⟩
       ·have sU:=cU hd2
        try dsimp only
        refine sr (aB (v':=.bool false) U (cb sU) (ac (ae (bg U (bO U ?_)))))
        exact hx2 (i2,xl,BK,BJ,F7) _ ⟨jW,hs19,zh,lo⟩ rd
       ·have qr:=dY hd2
        have lu:=cY hd2
        have w9:=aT hd2
        have Dc:=hpermits.1.1
        try dsimp only
        refine sr (aB (v':=.bool true) U (cb qr) (ac (ae (bn U (ao (ae (aW (sr (aa (an (ai (aa (aa (a8 (ck (cells:=[I ((i2:Nat):Int)]) eL ty3 zc3 U U kr (fun b6=>?_))))))))))))))))
        refine a8 (eK Rp.kP ([(b6,O [I ((i2:Nat):Int)] 3)]) ([]) (fun G=>[(b6,O [I ((i2:Nat):Int)] 3)]++(G)) ap (fun _=>ap) eL ty3 zc3 U bytes3 zh U U (eZ 0 U (show bV Rp.int h [I ((i2:Nat):Int)] ([((i2:Nat):Int)]) from ⟨[I ((i2:Nat):Int)],[],U,U,U,U⟩)) lo lo (fun ob4 oc4 G4 gr4=>?_))
        refine an (av (ai (aB (v':=I (((i2+1):Nat):Int)) U (bW ob) ?_)))
        refine aa (ac ?_)
        refine cE (L':=G4) js ?_
        exact ag2 ((i2+1),(xl++[((i2:Nat):Int)]),ob4,oc4,G4,rz2) _ (Nat.lt_succ_self _) ⟨bF hd2,aT hd2,hs19,gr4,lo⟩ rd
     ·have hs21:=hs15.trans (bf c7)
      refine ao (av (ae (sr (aa (bC lT U (aa (ac ?_)))))))
      refine br (ι:=Nat×(List Int)×Option Addr×Nat×LH) (fun i=>[(4,.slice i.2.2.1 i.2.1.length i.2.2.2.1),(5,.bool false)]) (fun i=>h) (fun i=>i.2.2.2.2) (fun i=>i.1≤permits.length∧bo mode permits=((bo.K3) i.2.1)∧ep Rp.int 3 h i.2.1 i.2.2.1 i.2.2.2.1 i.2.2.2.2∧i.2.1.length≤0+i.1) ?_ (fun hx3=>?_)
      ·rintro ⟨i3,xg,BF,BE,F3⟩ ⟨pO,hs22,zf,F2⟩ e
       try dsimp only at pO zf F2
       try dsimp only
       refine sr (aa (aa (ba (ba (an ?_)))))
       refine gj Rp.ce ([]) F3 ([]) ap hM zf (fun h8 hle8 sl8=>?_)
       have hs23:bo mode permits=(xg,false,0):=hs22
       exact dS [.slice BF xg.length BE,.bool false,I 0] yB U rd ⟨BF,BE,congrArg (fun r:((List Int)×Bool×Int)=>(.tuple #[.slice BF r.1.length BE,.bool r.2.1,I r.2.2]:Value)) hs23.symm,(by rw [hs23];exact sl8)⟩
      ·refine cp (ι:=Nat×(List Int)×Option Addr×Nat×LH×List Bool) (fun i=>[(4,.slice i.2.2.1 i.2.1.length i.2.2.2.1),(5,.bool false),(55,I ((permits.length:Nat):Int)),(56,I ((i.1:Nat):Int))]) (fun i=>h) (fun i=>i.2.2.2.2.1) (fun i=>permits.drop i.1=i.2.2.2.2.2∧i.1≤permits.length∧bo mode permits=((bo.L3 (bo.K3)) i.2.2.2.2.2 i.1 i.2.1)∧ep Rp.int 3 h i.2.1 i.2.2.1 i.2.2.2.1 i.2.2.2.2.1∧i.2.1.length≤0+i.1) (fun i=>i.2.2.2.2.2.length) (0,[],none,0,[],permits) rd sw ⟨U,Nat.zero_le _,hs21,ep.nil,lo⟩ ?_
       rintro ⟨i3,xg,BF,BE,F3,s3⟩ ⟨hd3,pO,hs24,zf,F2⟩ ag3 e
       try dsimp only at hd3 pO zf F2
       rcases s3 with _ | ⟨y3,rz3⟩
       ·have Db:=cU hd3
        try dsimp only
        refine sr (aB (v':=.bool false) U (cb Db) (ac (ae (bg U (bO U ?_)))))
        exact hx3 (i3,xg,BF,BE,F3) _ ⟨pO,hs24,zf,lo⟩ rd
       ·have Da:=dY hd3
        have tN:=cY hd3
        have FY:=aT hd3
        have H0:=hpermits.1.1
        try dsimp only
        refine sr (aB (v':=.bool true) U (cb Da) (ac (ae (bn U (ao (ae (aW (sr (aa (an (ai (aa (aa (a8 (ck (cells:=[I ((i3:Nat):Int)]) eL ty3 zc3 U U kr (fun b8=>?_))))))))))))))))
        refine a8 (eK Rp.kP ([(b8,O [I ((i3:Nat):Int)] 3)]) ([]) (fun G=>[(b8,O [I ((i3:Nat):Int)] 3)]++(G)) ap (fun _=>ap) eL ty3 zc3 U bytes3 zf U U (eZ 0 U (show bV Rp.int h [I ((i3:Nat):Int)] ([((i3:Nat):Int)]) from ⟨[I ((i3:Nat):Int)],[],U,U,U,U⟩)) lo lo (fun ob6 oc6 G6 gr6=>?_))
        refine an (av (ai (aB (v':=I (((i3+1):Nat):Int)) U (bW ob) ?_)))
        refine aa (ac ?_)
        refine cE (L':=G6) js ?_
        exact ag3 ((i3+1),(xg++[((i3:Nat):Int)]),ob6,oc6,G6,rz3) _ (Nat.lt_succ_self _) ⟨bF hd3,aT hd3,hs24,gr6,lo⟩ rd
theorem nD (h:HF) (mode:Int) (permits:(List Bool)) (iU:Option Addr) (iT:Nat) (hpermits:SlC Rp.bool h iU iT permits) (hsz0:permits.length≤2000000):Ret Tryz.prog 49 [I mode,.slice iU permits.length iT] h (.tuple #[.bool ((dC mode permits).1),I ((dC mode permits).2)]):=by
 refine ay Tryz.func49 U Tryz.ntmps49 U fun X hM hX=>?_
 have hs0:dC mode permits=dC mode permits:=rfl
 refine sr (ba (an (sr (aa (aa (a8 (dg Tryz.call98 (sE h mode permits iU iT hpermits ob) U (fun v1 h1 hle1 hp1=>?_))))))))
 obtain ⟨rb1,rc1,rfl,sl1⟩:=hp1
 refine aa (bG U U (bG U U (bG U U (ba (an (sr (aa (aa (ba (an ?_))))))))))
 have hs1:dC mode permits=((bo mode permits).2.1,(bo mode permits).2.2):=hs0
 exact aw [.bool ((bo mode permits).2.1),I ((bo mode permits).2.2)] Tryz.func49 U hX rd (congrArg (fun r:(Bool×Int)=>(.tuple #[.bool r.1,I r.2]:Value)) hs1.symm)
theorem rg (h:HF) (l:(List Interest)) (eW:Option Addr) (eV:Nat) (person:Int) (parties:(List Int)) (iI:Option Addr) (iH:Nat) (cM:Int) (known:Int) (hl:SlC Interest.rp h eW eV l) (hparties:SlC Rp.int h iI iH parties):Ret Tryz.prog 84 [.slice eW l.length eV,I person,.slice iI parties.length iH,I cM,I known] h (I (bU l person parties cM known)):=by
 refine ay DE U Tryz.ntmps84 U fun X hM hX=>?_
 have hs0:bU l person parties cM known=bU l person parties cM known:=rfl
 refine sr (an (ae (sr (aa (aG (v:=I (cv l)) Tryz.call53 (nQ h l eW eV hl) U (an (sr (aa (aJ U (ac ?_))))))))))
 refine aE U (fun c1=>?_) (fun c1=>?_)
 ·have hs1:=hs0.trans (bt c1)
  refine sr (aa (an ?_))
  exact aw [I (cv l)] DE U hX rd (ci hs1)
 ·have hs3:=hs0.trans (bf c1)
  refine ao (sr (an (ae (sr (aa (bC eL U (aa (ac ?_))))))))
  refine br (ι:=Nat×Int) (fun i=>[(1,I person),(2,.slice iI parties.length iH),(3,I cM),(4,I known)]) (fun i=>h) (fun i=>[]) (fun i=>i.1≤parties.length∧bU l person parties cM known=((bU.K1 person parties cM known) i.2)) ?_ (fun hx1=>?_)
  ·rintro ⟨i1,vo⟩ ⟨bd,hs4⟩ e
   try dsimp only at bd
   try dsimp only
   refine ae (sr (aa (aG (v:=.bool (aL person 64)) uT (fU h person 64 ) U (cV U (aa ?_)))))
   refine tq 4 [(3,I cM),(4,I known),(42,.bool ((!(aL person 64))||decide (16 < ((parties.length:Nat):Int))))] (fun hk1=>?_) (fun e=>?_)
   ·refine ar 38 U (fun c2=>?_) (fun c2=>?_)
    ·refine kq (bP (ah U ?_))
     exact hk1 _ ⟨U,U,(cb (dL c2)),trivial⟩
    ·refine aa (bC eL U (aJ U (ah U ?_)))
     exact hk1 _ ⟨U,U,(cb (dM c2)),trivial⟩
   refine aa ?_
   refine tq 4 [(4,I known),(47,.bool (((!(aL person 64))||decide (16 < ((parties.length:Nat):Int)))||(!(aL cM 1099511627776))))] (fun hk2=>?_) (fun e=>?_)
   ·refine ar 43 U (fun c3=>?_) (fun c3=>?_)
    ·refine kq (bP (ah U ?_))
     exact hk2 _ ⟨U,(cb (dL c3)),trivial⟩
    ·refine aa (aG (v:=.bool (aL cM 1099511627776)) uT (fU h cM 1099511627776 ) U (cV U (ah U ?_)))
     exact hk2 _ ⟨U,(cb (dM c3)),trivial⟩
   refine aa ?_
   refine tq 4 [(52,.bool ((((!(aL person 64))||decide (16 < ((parties.length:Nat):Int)))||(!(aL cM 1099511627776)))||(!(aL known 1099511627776))))] (fun hk3=>?_) (fun e=>?_)
   ·refine ar 48 U (fun c4=>?_) (fun c4=>?_)
    ·refine kq (bP (ah U ?_))
     exact hk3 _ ⟨(cb (dL c4)),trivial⟩
    ·refine aa (aG (v:=.bool (aL known 1099511627776)) uT (fU h known 1099511627776 ) U (cV U (ah U ?_)))
     exact hk3 _ ⟨(cb (dM c4)),trivial⟩
   refine ac ?_
   refine aE U (fun c5=>?_) (fun c5=>?_)
   ·have hs5:=hs4.trans (bt c5)
    refine sr (an ?_)
    exact aw [I 1] DE U hX rd (ci hs5)
   ·have hs7:=hs4.trans (bf c5)
    refine ao (sr (an ?_))
    exact aw [I 0] DE U hX rd (ci hs7)
  ·refine cp (ι:=Nat×Int×List Int) (fun i=>[(1,I person),(2,.slice iI parties.length iH),(3,I cM),(4,I known),(12,I i.2.1),(20,.slice iI parties.length iH),(21,I ((parties.length:Nat):Int)),(22,I ((i.1:Nat):Int))]) (fun i=>h) (fun i=>[]) (fun i=>parties.drop i.1=i.2.2∧i.1≤parties.length∧bU l person parties cM known=((bU.L1 (bU.K1 person parties cM known)) i.2.2 i.2.1)) (fun i=>i.2.2.length) (0,(-1),parties) rd sw ⟨U,Nat.zero_le _,hs3⟩ ?_
   rintro ⟨i1,vo,s1⟩ ⟨hd1,bd,hs9⟩ ag1 e
   try dsimp only at hd1 bd
   rcases s1 with _ | ⟨y1,rz1⟩
   ·have dI:=cU hd1
    try dsimp only
    refine sr (aB (v':=.bool false) U (cb dI) (ac (ae (bg U (bO U ?_)))))
    exact hx1 (i1,vo) _ ⟨bd,hs9⟩ rd
   ·have dH:=dY hd1
    have bh:=cY hd1
    have eT:=aT hd1
    have gx:=hparties.1.1
    try dsimp only
    refine sr (aB (v':=.bool true) U (cb dH) (ac (ae (bn U (ao (ae (aW (sr (a8 (fQ (enc:=fun y=>[I y]) (fun _ _ _ e=>e) eL ty3 hparties.1 (nthZ bh) (bB bh) U U U (fun q2 A2=>?_)))))))))))
    refine eC ty3 A2 U (an (ae (sr (aa (aa (aJ U (aa ?_)))))))
    refine tq 3 [(1,I person),(2,.slice iI parties.length iH),(3,I cM),(4,I known),(14,I y1),(20,.slice iI parties.length iH),(21,I ((parties.length:Nat):Int)),(22,I ((i1:Nat):Int)),(32,.bool (decide (y1≤vo)||decide (1048576 < y1)))] (fun hk4=>?_) (fun e=>?_)
    ·refine ar 29 U (fun c6=>?_) (fun c6=>?_)
     ·refine kq (ah U ?_)
      exact hk4 _ ⟨U,U,U,U,U,U,U,U,(cb (dL c6)),trivial⟩
     ·refine aa (aJ U (ah U ?_))
      exact hk4 _ ⟨U,U,U,U,U,U,U,U,(cb (dM c6)),trivial⟩
    refine ac ?_
    refine aE U (fun c7=>?_) (fun c7=>?_)
    ·have hs11:=hs9.trans (bt c7)
     refine sr (an ?_)
     exact aw [I 1] DE U hX rd (ci hs11)
    ·have hs13:=hs9.trans (bf c7)
     refine ao (ai (aa (an (av (ai (aB (v':=I (((i1+1):Nat):Int)) U (bW ob) (aa (ac ?_))))))))
     exact ag1 ((i1+1),y1,rz1) _ (Nat.lt_succ_self _) ⟨bF hd1,aT hd1,hs13⟩ rd
theorem pc (h:HF) (v0:(List Interest)) (HE:Option Addr) (HD:Nat) (v0_q:Addr) (v1:(List (dA×Interest))) (Ik:Nat) (v1_q:Addr) (hv0:SlC Interest.rp h HE HD v0) (av0:At h v0_q [.slice HE v0.length HD]) (hv1:nZ dA.enc (kb Interest.rp) h Ik v1) (av1:At h v1_q [.map (some Ik)]):Itr Tryz.prog (.func (.func 146) #[] (List.toArray [.pointer (some v0_q),.pointer (some v1_q)])) pK (bL v0 v1) h:=by
 refine uD Tryz.call146 ?_
 intro yf ya yb C Sp Pn h1 A hle m1 m2 m3 hC hy
 refine jN An U Tryz.ntmps146 U fun X hXM hX=>?_
 have hs0:bL v0 v1=[]++bL v0 v1:=rfl
 refine sr (eC ty24 (av0.mono hle) U (bC nj U (aa (ac ?_))))
 refine br (ι:=Nat×List Interest×LH×HF) (fun i=>[]) (fun i=>i.2.2.2) (fun i=>i.2.2.1) (fun i=>i.1≤v0.length∧bL v0 v1=i.2.1++((bL.K1))∧C i.2.1 i.2.2.2 i.2.2.1∧HF.le h1 i.2.2.2) ?_ (fun hx1=>?_)
 ·rintro ⟨i1,dn1,A1_,hh1⟩ ⟨bd,hs1,hC1_,hl1⟩ e
  try dsimp only at bd hC1_ hl1
  try dsimp only
  refine gf ?_
  have hs2:bL v0 v1=dn1:=hs1.trans (List.append_nil _)
  exact uE [] (A:=A1_) An U (List.Sublist.refl _) (.inl (hs2 ▸ hC1_))
 ·refine cp (ι:=Nat×List Interest×LH×HF×List Interest) (fun i=>[(0,.func yf ya yb),(2,.pointer (some v1_q)),(6,.slice HE v0.length HD),(7,I ((v0.length:Nat):Int)),(8,I ((i.1:Nat):Int))]) (fun i=>i.2.2.2.1) (fun i=>i.2.2.1) (fun i=>v0.drop i.1=i.2.2.2.2∧i.1≤v0.length∧bL v0 v1=i.2.1++((bL.L1 v1 (bL.K1)) i.2.2.2.2 )∧C i.2.1 i.2.2.2.1 i.2.2.1∧HF.le h1 i.2.2.2.1) (fun i=>i.2.2.2.2.length) (0,[],A,h1,v0) rd sw ⟨U,Nat.zero_le _,hs0,hC,(HF.le_refl h1)⟩ ?_
  rintro ⟨i1,dn1,A1_,hh1,s1⟩ ⟨hd1,bd,hs3,hC1_,hl1⟩ ag1 e
  try dsimp only at hd1 bd hC1_ hl1
  rcases s1 with _ | ⟨y1,rz1⟩
  ·have dI:=cU hd1
   try dsimp only
   refine sr (aB (v':=.bool false) U (cb dI) (ac (ae (bg U (bO U ?_)))))
   exact hx1 (i1,dn1,A1_,hh1) _ ⟨bd,hs3,hC1_,hl1⟩ trivial
  ·have dH:=dY hd1
   have bh:=cY hd1
   have eT:=aT hd1
   have gx:=(hv0.mono Interest.aN hle).1.1
   try dsimp only
   refine sr (aB (v':=.bool true) U (cb dH) (ac (ae (bn U (ao (ae (aW (sr (a8 (fQ (enc:=Interest.cells) (fun _ _ _ e=>e) nj ty61 (hv0.mono Interest.aN (hle.t hl1)).1 (nthZ bh) (bB bh) U U U (fun q2 A2=>?_)))))))))))
   refine ed ty61 A2 U U (bX zc61 (fun b2=>bN 0 ty61 U U U U U U (iv (L':=[(b2,O (Interest.cells y1) 61)]++(A1_)) U (ac (ae ?_)))))
   let z1:Nat×Obj:=(b2,O (Interest.cells y1) 61)
   refine ga ([z1]) mixed kr jn (fun eX _=>?_)
   refine tf 0 U U (fun _ _ _=>dB Hl U) (tf 1 U U (fun _ _ hj=>gu ty4 U (hj.nth (i:=0) U) U) ?_)
   refine tf 2 U U (fun _ _ _=>ku U) (tm 3 U ?_)
   refine eo 15 U (fun c1=>?_) (fun c1=>?_)
   ·refine tf 4 U U (fun _ _ hj=>gd ty205 ((av1.mono (hle.t hl1)).mono hj.1) U) (tf 5 U U (fun _ _ _=>dB mj U) ?_)
    refine tf 6 U U (fun _ _ hj=>gu ty3 U (hj.nth (i:=0) U) U) (tf 7 U U (fun _ _ _=>dB oF U) ?_)
    refine tf 8 U U (fun _ _ hj=>gu ty3 U (hj.nth (i:=0) U) U) (tf 9 U U (fun _ _ _=>dB tT U) ?_)
    refine tf 10 U U (fun _ _ hj=>gu ty4 U (hj.nth (i:=0) U) U) (tf 13 U U (fun _ _ hj=>ky ty61 U (hj.nth (i:=0) U) U) ?_)
    refine tn 11 U (fw (cells:=[I y1.Person,I y1.Party,.bool y1.Of]) (places:=[(0,1),(1,1),(2,1)]) DL zc207 kr kr (⟨jn,?_⟩))
    refine tn 12 U ?_
    obtain ⟨o2,hb2,hm2⟩:=(hv1.mono (kb.mono Interest.aN) (hle.t hl1))
    refine oV (k:=(dA.mk y1.Person y1.Party y1.Of)) Tryz.underlying205 oP hb2 hm2 (je zv61) (show (kb Interest.rp) _ (.agg (List.toArray [I 0,I 0,I 0,I 0,I 0,.bool false,.bool false])) (Interest.mk 0 0 0 0 0 false false) from ⟨_,U,U⟩) U U (fun v2 hv2=>?_)
    obtain ⟨_,rfl,rfl⟩:=hv2
    refine ⟨jn,(tf 14 U U (fun _ _ _=>Ip (zV (mgetD v1 (dA.mk y1.Person y1.Party y1.Of) (Interest.mk 0 0 0 0 0 false false)) y1) eqg61 U U) ?_)⟩
    refine tf 15 U U (fun _ _ _=>rB U (cb (show (decide ((mgetD v1 (dA.mk y1.Person y1.Party y1.Of) (Interest.mk 0 0 0 0 0 false false))=y1))=((!y1.Gone)&&(decide ((mgetD v1 (dA.mk y1.Person y1.Party y1.Of) (Interest.mk 0 0 0 0 0 false false))=y1))) from by first | (rw [c1];rfl) | (rw [c1];rfl) | simp [c1]))) ?_
    refine tm 16 U ?_
    refine eo 28 U (fun c2=>?_) (fun c2=>?_)
    ·have ct1:=c2
     have hs5:=hs3.trans (congrArg (dn1++·) (bt ct1))
     refine tm 17 U (tf 18 U U (fun _ _ hj=>ky ty61 U (hj.nth (i:=0) U) U) ?_)
     have hx1:bL v0 v1=dn1++(y1::(bL.L1 v1 (bL.K1) rz1 )):=hs5
     refine tn 19 U (lA ([z1]) A1_ ap (hy dn1 y1 _ _ _ _ hx1 hl1 hC1_ U) U U (fun h2 A3 hle1 hC1=>?_) (fun h3 A4 hle2 hS1=>?_) (fun ch1 h4 A5 hle3 hP1 e=>i6 (pM [] (A:=A5) An (List.sublist_append_right _ _) hP1)))
     ·have hs6:bL v0 v1=(dn1++[y1])++((bL.L1 v1 (bL.K1) rz1 )):=hx1.trans ap
      refine ⟨⟨hle1,fun _ hp=>List.Sublist.subset js hp⟩,uV (K2:=[z1]) hle1 (fun _ hp=>hp) (tf 20 U U (fun _ _ _=>ku U) ?_)⟩
      refine tf 21 U U (fun _ _ _=>co U) (bY kr ?_)
      refine bg U (ao (av (ai (aB (v':=I (((i1+1):Nat):Int)) U (bW ob) (aa (ac ?_))))))
      refine cE (L':=A3) js ?_
      exact ag1 ((i1+1),(dn1++[y1]),A3,h2,rz1) _ (Nat.lt_succ_self _) ⟨bF hd1,aT hd1,hs6,hC1,(hl1.t hle1)⟩ rd
     ·refine ⟨⟨hle2,fun _ hp=>List.Sublist.subset js hp⟩,uV (K2:=[z1]) hle2 (fun _ hp=>hp) (tf 20 U U (fun _ _ _=>ku U) ?_)⟩
      refine tf 21 U U (fun _ _ _=>co U) (bY kr ?_)
      refine bn U ?_
      refine gf ?_
      exact pL [] (A:=A4) An U js (.inr hS1)
    ·have ct2:=c2
     have hs7:=hs3.trans (congrArg (dn1++·) (bf ct2))
     refine tk 17 U U (tk 18 U U (tk 19 U U ?_))
     refine tk 20 U U (tf 21 U U (fun _ _ _=>co U) (bY kr ?_))
     refine bg U (ao (av (ai (aB (v':=I (((i1+1):Nat):Int)) U (bW ob) (aa (ac ?_))))))
     refine cE (L':=A1_) js ?_
     exact ag1 ((i1+1),dn1,A1_,hh1,rz1) _ (Nat.lt_succ_self _) ⟨bF hd1,aT hd1,hs7,hC1_,hl1⟩ rd
   ·refine tk 4 U U (tk 5 U U (tk 6 U U ?_))
    refine tk 7 U U (tk 8 U U (tk 9 U U ?_))
    refine tk 10 U U (tk 11 U U (tk 12 U U ?_))
    refine tk 13 U U (tk 14 U U (tf 15 U U (fun _ _ _=>rB U (cb (show false=((!y1.Gone)&&(decide ((mgetD v1 (dA.mk y1.Person y1.Party y1.Of) (Interest.mk 0 0 0 0 0 false false))=y1))) from by first | (rw [c1];rfl) | (rw [c1];rfl) | simp [c1]))) ?_))
    refine tm 16 U ?_
    refine eo 28 U (fun c3=>?_) (fun c3=>?_)
    ·have ct3:=c3
     have hs8:=hs3.trans (congrArg (dn1++·) (bt ct3))
     refine tm 17 U (tf 18 U U (fun _ _ hj=>ky ty61 U (hj.nth (i:=0) U) U) ?_)
     have hx2:bL v0 v1=dn1++(y1::(bL.L1 v1 (bL.K1) rz1 )):=hs8
     refine tn 19 U (lA ([z1]) A1_ ap (hy dn1 y1 _ _ _ _ hx2 hl1 hC1_ U) U U (fun h5 A6 hle4 hC2=>?_) (fun h6 A7 hle5 hS2=>?_) (fun ch2 h7 A8 hle6 hP2 e=>i6 (pM [] (A:=A8) An (List.sublist_append_right _ _) hP2)))
     ·have hs9:bL v0 v1=(dn1++[y1])++((bL.L1 v1 (bL.K1) rz1 )):=hx2.trans ap
      refine ⟨⟨hle4,fun _ hp=>List.Sublist.subset js hp⟩,uV (K2:=[z1]) hle4 (fun _ hp=>hp) (tf 20 U U (fun _ _ _=>ku U) ?_)⟩
      refine tf 21 U U (fun _ _ _=>co U) (bY kr ?_)
      refine bg U (ao (av (ai (aB (v':=I (((i1+1):Nat):Int)) U (bW ob) (aa (ac ?_))))))
      refine cE (L':=A6) js ?_
      exact ag1 ((i1+1),(dn1++[y1]),A6,h5,rz1) _ (Nat.lt_succ_self _) ⟨bF hd1,aT hd1,hs9,hC2,(hl1.t hle4)⟩ rd
     ·refine ⟨⟨hle5,fun _ hp=>List.Sublist.subset js hp⟩,uV (K2:=[z1]) hle5 (fun _ hp=>hp) (tf 20 U U (fun _ _ _=>ku U) ?_)⟩
      refine tf 21 U U (fun _ _ _=>co U) (bY kr ?_)
      refine bn U ?_
      refine gf ?_
      exact pL [] (A:=A7) An U js (.inr hS2)
    ·have ct4:=c3
     have hs10:=hs3.trans (congrArg (dn1++·) (bf ct4))
     refine tk 17 U U (tk 18 U U (tk 19 U U ?_))
     refine tk 20 U U (tf 21 U U (fun _ _ _=>co U) (bY kr ?_))
     refine bg U (ao (av (ai (aB (v':=I (((i1+1):Nat):Int)) U (bW ob) (aa (ac ?_))))))
     refine cE (L':=A1_) js ?_
     exact ag1 ((i1+1),dn1,A1_,hh1,rz1) _ (Nat.lt_succ_self _) ⟨bF hd1,aT hd1,hs10,hC1_,hl1⟩ rd
theorem qp (h:HF) (l:(List Interest)) (eW:Option Addr) (eV:Nat) (io:Int) (known:Int) (hl:SlC Interest.rp h eW eV l):jK Tryz.prog 86 [.slice eW l.length eV,I io,I known] h (fun v h'=>∃ (rv0:Value),v=rv0∧Itr Tryz.prog rv0 pK (cd l io known) h'):=by
 refine ay Tryz.func86 U Tryz.ntmps86 U fun X hM hX=>?_
 have hs0:cd l io known=cd l io known:=rfl
 refine sr (dy (fun b1=>an (sr (a8 (og (fun b2=>bX zc205 (fun b3=>dW 0 ty205 U U U U U U (ac (ae (sr (aO 2 ty24 U U U (bC nj U (aa ?_)))))))))))))
 refine ac ?_
 let z1:Nat×Obj:=(b1,O [.slice eW l.length eV] 24)
 let z2:Nat×Obj:=(b3,O [.map (some b2)] 205)
 refine br (ι:=Nat×(List (dA×Interest))×Obj) (fun i=>[(3,Q b1),(7,Q b3)]) (fun i=>h) (fun i=>[z2,(b2,i.2.2),z1]) (fun i=>i.1≤l.length∧cd l io known=((cd.K1 l) i.2.1)∧gy dA.enc (kb Interest.rp) h i.2.2 i.2.1∧i.2.1.length≤0+i.1) ?_ (fun hx1=>?_)
 ·rintro ⟨i1,dt,jc⟩ ⟨bd,hs1,fB,jH⟩ e
  try dsimp only at bd fB jH
  try dsimp only
  refine sr (cq 2 U hM (fun h1 hle1 hb1=>cq 0 U hM (fun h2 hle2 hb2=>a8 (fV U U (an ?_)))))
  refine fD 0 U hM (fun h3 hle3 hb3=>?_)
  have mc1:nZ dA.enc (kb Interest.rp) h3 b2 dt:=⟨_,hb3,(fB.mono (kb.mono Interest.aN) (hle1.t hle2)).mono (kb.mono Interest.aN) hle3⟩
  have hs2:cd l io known=(bL l dt):=hs1
  exact dS [.func (.func 146) #[] #[Q b1,Q b3]] Tryz.func86 U rd ⟨(.func (.func 146) #[] #[Q b1,Q b3]),congrArg (fun r:(List Interest)=>((.func (.func 146) #[] #[Q b1,Q b3]):Value)) hs2.symm,(by rw [hs2];exact (pc h3 l eW eV ⟨b1,0,none⟩ dt b2 ⟨b3,0,none⟩ (hl.mono Interest.aN ((hle1.t hle2).t hle3)) ((dR hb1).mono (hle2.t hle3)) mc1 ((dR hb2).mono hle3)))⟩
 ·refine cp (ι:=Nat×(List (dA×Interest))×Obj×List Interest) (fun i=>[(1,I io),(2,I known),(3,Q b1),(7,Q b3),(14,.slice eW l.length eV),(15,I ((l.length:Nat):Int)),(16,I ((i.1:Nat):Int))]) (fun i=>h) (fun i=>[z2,(b2,i.2.2.1),z1]) (fun i=>l.drop i.1=i.2.2.2∧i.1≤l.length∧cd l io known=((cd.L1 io known (cd.K1 l)) i.2.2.2 i.2.1)∧gy dA.enc (kb Interest.rp) h i.2.2.1 i.2.1∧i.2.1.length≤0+i.1) (fun i=>i.2.2.2.length) (0,[],.map #[] 0,l) rd sw ⟨U,Nat.zero_le _,hs0,(gy.nil (enc:=dA.enc) (V:=(kb Interest.rp)) (h:=h)),lc⟩ ?_
  rintro ⟨i1,dt,jc,s1⟩ ⟨hd1,bd,hs3,fB,jH⟩ ag1 e
  try dsimp only at hd1 bd fB jH
  rcases s1 with _ | ⟨y1,rz1⟩
  ·have dI:=cU hd1
   try dsimp only
   refine sr (aB (v':=.bool false) U (cb dI) (ac (ae (bg U (bO U ?_)))))
   exact hx1 (i1,dt,jc) _ ⟨bd,hs3,fB,lc⟩ rd
  ·have dH:=dY hd1
   have bh:=cY hd1
   have eT:=aT hd1
   have gx:=hl.1.1
   try dsimp only
   refine sr (aB (v':=.bool true) U (cb dH) (ac (ae (bn U (ao (ae (aW (sr (a8 (fQ (enc:=Interest.cells) (fun _ _ _ e=>e) nj ty61 hl.1 (nthZ bh) (bB bh) U U U (fun q2 A2=>?_)))))))))))
   refine ed ty61 A2 U U (bX zc61 (fun b5=>bN 0 ty61 U U U U U U (ac (ae (sr (az rJ U (aO 0 ty3 U U U (aa (aJ U (aa ?_))))))))))
   refine tq 5 [(1,I io),(2,I known),(3,Q b1),(7,Q b3),(9,Q b5),(14,.slice eW l.length eV),(15,I ((l.length:Nat):Int)),(16,I ((i1:Nat):Int)),(29,.bool (decide (io < y1.At)||decide (known < y1.Known)))] (fun hk1=>?_) (fun e=>?_)
   ·refine ar 24 U (fun c1=>?_) (fun c1=>?_)
    ·refine kq (kq (ah U ?_))
     exact hk1 _ ⟨U,U,U,U,U,U,U,U,(cb (dL c1)),trivial⟩
    ·refine az zQ U (aO 0 ty3 U U U (aa (aJ U (ah U ?_))))
     exact hk1 _ ⟨U,U,U,U,U,U,U,U,(cb (dM c1)),trivial⟩
   refine ac ?_
   refine aE U (fun c2=>?_) (fun c2=>?_)
   ·have hs5:=hs3.trans (bt c2)
    refine bO U (ai (aB (v':=I (((i1+1):Nat):Int)) U (bW ob) (aa (ac ?_))))
    refine cE (L':=[z2,(b2,jc),z1]) js ?_
    exact ag1 ((i1+1),dt,jc,rz1) _ (Nat.lt_succ_self _) ⟨bF hd1,aT hd1,hs5,fB,lc⟩ rd
   ·have hs6:=hs3.trans (bf c2)
    refine ao (sr (az mj U (aO 0 ty3 U U U (az oF U (aO 0 ty3 U U U (az tT U (aO 0 ty4 U U U (a8 (fw (cells:=[I y1.Person,I y1.Party,.bool y1.Of]) (places:=[(0,1),(1,1),(2,1)]) DL zc207 kr kr ?_)))))))))
    refine bX zc207 (fun b6=>bN 0 ty207 U U U U U U (ac (sr (aO 2 ty205 U U U (dq 0 ty207 U U U (a8 (wn 3 (k:=(dA.mk y1.Person y1.Party y1.Of)) Tryz.underlying205 oP U fB (je zv61) (show (kb Interest.rp) _ (.agg (List.toArray [I 0,I 0,I 0,I 0,I 0,.bool false,.bool false])) (Interest.mk 0 0 0 0 0 false false) from ⟨_,U,U⟩) U U (fun v1 hv1=>?_))))))))
    obtain ⟨_,rfl,rfl⟩:=hv1
    refine aa (bG U U (bG U U (bX zc61 (fun b7=>bN 0 ty61 U U U U U U (an (sr (aa (cV U (aa ?_)))))))))
    refine tq 6 [(1,I io),(2,I known),(3,Q b1),(7,Q b3),(9,Q b5),(10,Q b6),(14,.slice eW l.length eV),(15,I ((l.length:Nat):Int)),(16,I ((i1:Nat):Int)),(51,.bool ((!(mhas dt (dA.mk y1.Person y1.Party y1.Of)))||decide ((mgetD dt (dA.mk y1.Person y1.Party y1.Of) (Interest.mk 0 0 0 0 0 false false)).At≤y1.At)))] (fun hk2=>?_) (fun e=>?_)
    ·refine ar 45 U (fun c3=>?_) (fun c3=>?_)
     ·refine kq (kq (bP (ah U ?_)))
      exact hk2 _ ⟨U,U,U,U,U,U,U,U,U,(cb (dL c3)),trivial⟩
     ·refine az rJ U (aO 2 ty3 U U U (az rJ U (aO 0 ty3 U U U (aJ U (ah U ?_)))))
      exact hk2 _ ⟨U,U,U,U,U,U,U,U,U,(cb (dM c3)),trivial⟩
    refine ac ?_
    refine aE U (fun c4=>?_) (fun c4=>?_)
    ·have hs7:=hs6.trans (bt c4)
     refine ai (aO 3 ty205 U U U (dq 1 ty207 U U U (dq 2 ty61 U U U (a8 (j5 4 (k:=(dA.mk y1.Person y1.Party y1.Of)) (x:=y1) Tryz.underlying205 oP U fB U U ⟨_,U,U⟩ (fun mo1 hm1=>ac (av ?_)))))))
     refine ai (aB (v':=I (((i1+1):Nat):Int)) U (bW ob) (aa (ac ?_)))
     refine cE (L':=[z2,(b2,mo1),z1]) js ?_
     exact ag1 ((i1+1),(mput dt (dA.mk y1.Person y1.Party y1.Of) y1),mo1,rz1) _ (Nat.lt_succ_self _) ⟨bF hd1,aT hd1,hs7,hm1,(by have:=gh dt (dA.mk y1.Person y1.Party y1.Of) y1;first | omega | (simp only [List.length_nil,List.length_cons] at *;omega))⟩ rd
    ·have hs8:=hs6.trans (bf c4)
     refine ao (av (ai (aB (v':=I (((i1+1):Nat):Int)) U (bW ob) (aa (ac ?_)))))
     refine cE (L':=[z2,(b2,jc),z1]) js ?_
     exact ag1 ((i1+1),dt,jc,rz1) _ (Nat.lt_succ_self _) ⟨bF hd1,aT hd1,hs8,fB,lc⟩ rd
theorem pu.mono {h h':HF} (hl:h.le h'):∀ {vs:List Value} {ws:List fR},pu h vs ws→pu h' vs ws
 | [],[],_=>trivial
 | _::_,_::_,⟨⟨r,e,o⟩,t⟩=>⟨⟨r,e,o.mono hl⟩,pu.mono hl t⟩
 | [],_::_,x=>x.elim
 | _::_,[],x=>x.elim
theorem pu.snoc {h:HF} {v:Value} {w:fR} (hw:∃ r,v=.agg (fR.cells w r).toArray∧fR.ok h w r):∀ {vs:List Value} {ws:List fR},pu h vs ws→pu h (vs++[v]) (ws++[w])
 | [],[],_=>⟨hw,trivial⟩
 | _::_,_::_,⟨a,t⟩=>⟨a,pu.snoc hw t⟩
 | [],_::_,x=>x.elim
 | _::_,[],x=>x.elim
theorem pu.len {h:HF}:∀ {vs:List Value} {ws:List fR},pu h vs ws→vs.length=ws.length
 | [],[],_=>rfl
 | _::_,_::_,⟨_,t⟩=>by simp [pu.len t]
 | [],_::_,x=>x.elim
 | _::_,[],x=>x.elim
theorem j7 (h:HF) (w:fR) (Ii:Ei) (q1 q2:Addr) (bm bc:Nat) (om:Obj) (m:List (Int×Bool)) (cap s r:Nat) (vs:List Value) (q:List fR)
  (hw:fR.ok h w Ii) (a1:At h q1 [.map (some bm)]) (a2:At h q2 [.chan (some bc)]) (hm:gy (Value.int .i64) ia h om m) (hq:pu h vs q) (hroom:mgetD m w.to false=false→vs.length < cap):
  kI Tryz.prog (.func (.func 85) #[] #[.pointer (some q1),.pointer (some q2)]) #[.agg (fR.cells w Ii).toArray] h [(bm,om),(bc,.chan cap vs.toArray false s r false)]
   (fun x h' B=>x=.returned (.tuple #[])∧h'=h∧∃ om' vs' s',gy (Value.int .i64) ia h om' (conPut w m q).1∧pu h vs' (conPut w m q).2∧B=[(bm,om'),(bc,.chan cap vs'.toArray false s' r false)]):=by
 refine km (args:=[.agg (fR.cells w Ii).toArray]) (cap:=[.pointer (some q1),.pointer (some q2)]) Tryz.call85 ?_
 refine ay Tryz.func85 U Tryz.ntmps85 U fun X hM hX=>?_
 refine sr (dy (fun b1=>ac ?_))
 refine sr (eC ty120 a1 U (az ua U (aO 0 ty3 U U U ?_)))
 refine a8 (wo 1 (k:=w.to) kM (eS kl) U hm (je zv4) (show ia _ (.bool false) false from U) U U (fun v hv=>?_))
 obtain rfl:=hv
 cases hc:mgetD m w.to false with
 | true=>
  refine cV U (ac (bg U (ao ?_)))
  have e1:conPut w m q=(m,q):=by simp [conPut,hc]
  refine um Tryz.func85 (fun a ha w hw=>kn U a w) (fun w hw=>(hw.sub (L':=[(bm,om),(bc,.chan cap vs.toArray false s r false)]) js).lower) ⟨U,hX,om,vs,s,?_,?_,U⟩
  ·rw [e1];exact hm
  ·rw [e1];exact hq
 | false=>
  refine cV U (ac (bn U ?_))
  have e1:conPut w m q=(mput m w.to true,q++[w]):=by simp [conPut,hc]
  refine sr (eC ty120 a1 U (az ua U (aO 0 ty3 U U U ?_)))
  refine a8 (j5 1 (k:=w.to) (x:=true) kM (eS kl) U hm U U U (fun om' hm'=>ac ?_))
  refine ai (eC ty146 a2 U (dq 0 ty148 U U U ?_))
  refine HV 2 U U U (hroom hc) (ac ?_)
  refine um Tryz.func85 (fun a ha w hw=>kn U a w) (fun ww hww=>(hww.sub (L':=[(bm,om'),(bc,.chan cap (vs++[Value.agg (fR.cells w Ii).toArray]).toArray false (s+1) r false)]) js).lower) ⟨U,hX,om',vs++[.agg (fR.cells w Ii).toArray],s+1,?_,?_,U⟩
  ·rw [e1];exact hm'
  ·rw [e1];exact pu.snoc ⟨Ii,rfl,hw⟩ hq
theorem V3.mono:uk V3:=fun _ _ _ _ _ e=>e
theorem FR.mono {h h':HF} (hl:h.le h'):∀ {m:List (Int×Option Addr×Nat×Nat)} {f:List (Int×List Interest)} {G:LH},FR h m f G→FR h' m f G
 | [],[],_,e=>e
 | (_,_)::_,(_,_)::_,_,⟨a,b,G1,G2,c,d,t⟩=>⟨a,b,G1,G2,c,d.mono Interest.aN hl,FR.mono hl t⟩
 | [],(_,_)::_,_,x=>x.elim
 | (_,_)::_,[],_,x=>x.elim
theorem FR.get {h:HF} (k:Int):∀ {m:List (Int×Option Addr×Nat×Nat)} {f:List (Int×List Interest)} {G:LH},FR h m f G →
  ∃ b c G1 G2,mgetD m k (none,0,0)=(b,(mgetD f k []).length,c)∧ep Interest.rp 61 h (mgetD f k []) b c G1∧G.Perm (G1++G2) ∧
   ∀ b' c' xs' G1',ep Interest.rp 61 h xs' b' c' G1'→∃ G',FR h (mput m k (b',xs'.length,c')) (mput f k xs') G'∧G'.Perm (G1'++G2)
 | [],[],G,e=>by
  subst e
  refine ⟨none,0,[],[],U,ep.nil,List.Perm.refl _,fun b' c' xs' G1' hG=>⟨G1',⟨U,U,G1',[],by simp,hG,U⟩,by simp⟩⟩
 | (k0,x)::m,(k',xs)::f,G,⟨e,hn,G1,G2,hG,hg,t⟩=>by
  subst e hG
  by_cases hk:k=k0
  ·subst hk
   refine ⟨x.1,x.2.2,G1,G2,?_,?_,List.Perm.refl _,fun b' c' xs' G1' hG'=>⟨G1'++G2,?_,List.Perm.refl _⟩⟩
   ·simp [mgetD,mget?,← hn]
   ·simpa [mgetD,mget?] using hg
   ·simp only [mput,if_true]
    exact ⟨U,U,G1',G2,U,hG',t⟩
  ·obtain ⟨b,c,H1,H2,h1,h2,h3,h4⟩:=FR.get k t
   refine ⟨b,c,H1,G1++H2,?_,?_,?_,fun b' c' xs' G1' hG'=>?_⟩
   ·simpa [mgetD,mget?,hk] using h1
   ·simpa [mgetD,mget?,hk] using h2
   ·refine (List.Perm.append_left G1 h3).trans ?_
    rw [← List.append_assoc,← List.append_assoc];exact List.Perm.append_right H2 List.perm_append_comm
   ·obtain ⟨G',g1,g2⟩:=h4 b' c' xs' G1' hG'
    refine ⟨G1++G',?_,?_⟩
    ·simp only [mput,hk,if_false]
     exact ⟨U,hn,G1,G',U,hg,g1⟩
    ·refine (List.Perm.append_left G1 g2).trans ?_
     rw [← List.append_assoc,← List.append_assoc];exact List.Perm.append_right H2 List.perm_append_comm
 | [],(_,_)::_,_,x=>x.elim
 | (_,_)::_,[],_,x=>x.elim
theorem FR.keys {h:HF}:∀ {m:List (Int×Option Addr×Nat×Nat)} {f:List (Int×List Interest)} {G:LH},FR h m f G→m.map (·.1)=f.map (·.1)
 | [],[],_,_=>rfl
 | (_,_)::_,(_,_)::_,_,⟨a,_,_,_,_,_,t⟩=>by simp [a,FR.keys t]
 | [],(_,_)::_,_,x=>x.elim
 | (_,_)::_,[],_,x=>x.elim
theorem FR.mem {h:HF}:∀ {m:List (Int×Option Addr×Nat×Nat)} {f:List (Int×List Interest)} {G:LH},FR h m f G→(m.map (·.1)).Nodup→∀ p∈m,p.2.2.1=(mgetD f p.1 []).length∧∃ G1,(∀ q∈G1,q∈G)∧ep Interest.rp 61 h (mgetD f p.1 []) p.2.1 p.2.2.2 G1
 | [],[],_,_,_,_,hp=>(List.not_mem_nil hp).elim
 | (k,x)::m,(k',xs)::f,G,⟨e,hn,G1,G2,hG,hg,t⟩,hnd,p,hp=>by
  subst e hG
  rw [List.map_cons,List.nodup_cons] at hnd
  rcases List.mem_cons.1 hp with rfl | hp
  ·exact ⟨by simp [mgetD,mget?,hn],G1,fun q hq=>List.mem_append_left _ hq,by simpa [mgetD,mget?] using hg⟩
  ·have hne:¬ p.1=k:=fun e=>hnd.1 (by have h9:=List.mem_map_of_mem (f:=(·.1)) hp;rw [e] at h9;exact h9)
   obtain ⟨h1,H,h2,h3⟩:=FR.mem t hnd.2 p hp
   exact ⟨by simpa [mgetD,mget?,hne] using h1,H,fun q hq=>List.mem_append_right _ (h2 q hq),by simpa [mgetD,mget?,hne] using h3⟩
 | [],(_,_)::_,_,x,_,_,_=>x.elim
 | (_,_)::_,[],_,x,_,_,_=>x.elim
theorem Bj {α : Type}:∀ {f:List (Int×α)} (z:α),(f.map (·.1)).Nodup→f=f.map fun p=>(p.1,mgetD f p.1 z)
 | [],_,_=>rfl
 | (k,x)::f,z,hn=>by
  rw [List.map_cons,List.nodup_cons] at hn
  rw [List.map_cons]
  congr 1
  ·simp [mgetD,mget?]
  ·have ih:=Bj z hn.2
   conv=>lhs;rw [ih]
   apply List.map_congr_left
   intro p hp
   have hne:¬ p.1=k:=fun e=>hn.1 (by have h9:=List.mem_map_of_mem (f:=(·.1)) hp;rw [e] at h9;exact h9)
   simp [mgetD,mget?,hne]
theorem Cm {h:HF} {h2:HF} (g:Int→List Interest):∀ {es:List MapEntry} {m:List (Int×Option Addr×Nat×Nat)},mF (Value.int .i64) V3 h es m →
  (∀ p∈m,p.2.2.1=(g p.1).length∧SlC Interest.rp h2 p.2.1 p.2.2.2 (g p.1))→mF (Value.int .i64) (VSl Interest.rp) h2 es (m.map fun p=>(p.1,g p.1))
 | [],[],_,_=>trivial
 | e::es,(k,x)::m,⟨a,b,c⟩,hg=>by
  obtain ⟨h1,h3⟩:=hg (k,x) (List.mem_cons_self ..)
  refine ⟨a,⟨x.1,x.2.2,?_,h3⟩,Cm g c fun p hp=>hg p (List.mem_cons_of_mem _ hp)⟩
  rw [show e.val=.slice x.1 x.2.1 x.2.2 from b,h1]
 | [],_::_,x,_=>x.elim
 | _::_,[],x,_=>x.elim
theorem FR.frozen {h h2:HF} {o:Obj} {m:List (Int×Option Addr×Nat×Nat)} {f:List (Int×List Interest)} {G:LH} (hm:gy (Value.int .i64) V3 h o m) (hf:FR h m f G) (hl:h.le h2) (hG:∀ p∈G,h2 p.1=some p.2):
  gy (Value.int .i64) (VSl Interest.rp) h2 o f:=by
 have hnd:=hm.nodup
 have hk:=hf.keys
 obtain ⟨m',hp,hn,es,c,rfl,hE,h1,h3⟩:=hm
 have hmem:=hf.mem hnd
 have hfe:=Bj (f:=f) [] (hk ▸ hnd)
 have hfm:f=m.map fun p=>(p.1,mgetD f p.1 []):=by
  have e1:(f.map fun p=>(p.1,mgetD f p.1 []))=(f.map (·.1)).map fun k=>(k,mgetD f k []):=by rw [List.map_map];rfl
  have e2:(m.map fun p=>(p.1,mgetD f p.1 []))=(m.map (·.1)).map fun k=>(k,mgetD f k []):=by rw [List.map_map];rfl
  rw [e2,hk,← e1];exact hfe
 refine ⟨m'.map fun p=>(p.1,mgetD f p.1 []),?_,?_,es,c,U,Cm (fun k=>mgetD f k []) hE fun p hp'=>?_,h1,h3⟩
 ·have hpm:=hp.map fun p=>(p.1,mgetD f p.1 ([]:List Interest))
  rw [← hfm] at hpm;exact hpm
 ·rw [List.map_map];exact hn
 ·obtain ⟨h5,G1,h6,h7⟩:=hmem p (hp.mem_iff.1 hp')
  exact ⟨h5,h7.frozen Interest.aN hl fun q hq=>hG q (h6 q hq)⟩
theorem zo (l:List Interest) (a b:Int):∃ p:Interest→Bool,cd l a b=l.filter p:=by
 have h1:∀ v (l:List Interest),bL.L1 v [] l=l.filter fun y=>(!y.Gone)&&decide (mgetD v (dA.mk y.Person y.Party y.Of) (Interest.mk 0 0 0 0 0 false false)=y):=by
  intro v l
  induction l with
  | nil=>rfl
  | cons y l ih=>
   simp only [bL.L1,List.filter_cons,ih]
   cases ((!y.Gone)&&decide (mgetD v (dA.mk y.Person y.Party y.Of) (Interest.mk 0 0 0 0 0 false false)=y)) <;> rfl
 have h2:∀ (k:List (dA×Interest)→List Interest) (l:List Interest) m,∃ m',cd.L1 a b k l m=k m':=by
  intro k l
  induction l with
  | nil=>exact fun m=>⟨m,rfl⟩
  | cons y l ih=>
   intro m
   simp only [cd.L1,Bool.cond_eq_ite]
   split
   ·exact ih _
   ·split
    ·exact ih _
    ·exact ih _
 obtain ⟨m',e⟩:=h2 (cd.K1 l) l []
 exact ⟨_,by unfold cd;rw [e];exact h1 m' l⟩
theorem AA (l:List Interest) (a b:Int):(cd l a b).length≤l.length:=by
 obtain ⟨p,e⟩:=zo l a b
 rw [e];exact List.length_filter_le _ _
theorem xJ (k:Int→Int):∀ (l:List Int) (g:Int),bU.L1 k l g=0→(∀ x∈l,g < x∧x≤1048576)∧l.Pairwise (· < ·)∧∃ g',k g'=0
 | [],g,h=>⟨fun _ h=>(List.not_mem_nil h).elim,List.Pairwise.nil,g,h⟩
 | y::l,g,h=>by
  simp only [bU.L1,Bool.cond_eq_ite,Bool.or_eq_true,decide_eq_true_eq] at h
  split at h
  ·omega
  ·next hc=>
   obtain ⟨h1,h2,h3⟩:=xJ k l y h
   refine ⟨fun x hx=>?_,List.pairwise_cons.2 ⟨fun x hx=>(h1 x hx).1,h2⟩,h3⟩
   rcases List.mem_cons.1 hx with rfl | hx
   ·omega
   ·have:=h1 x hx;omega
theorem vL {l:List Interest} {person:Int} {parties:List Int} {a b:Int} (h:bU l person parties a b=0):parties.Pairwise (·≤·)∧parties.length≤16:=by
 unfold bU at h
 rw [Bool.cond_eq_ite] at h
 split at h
 ·next hc=>simp at hc;exact absurd h hc
 ·obtain ⟨_,h2,g',h3⟩:=xJ _ _ _ h
  refine ⟨h2.imp (fun h=>Int.le_of_lt h),?_⟩
  unfold bU.K1 at h3
  rw [Bool.cond_eq_ite] at h3
  split at h3
  ·omega
  ·next hc=>
   simp only [Bool.or_eq_true,not_or,decide_eq_true_eq] at hc
   omega
theorem wR {α : Type} {k:Int} {v:α}:∀ {m:List (Int×α)},k∉m.map (·.1)→(mput m k v).length=m.length+1∧∀ p∈mput m k v,p=(k,v)∨p∈m
 | [],_=>by simp [mput]
 | (k',v')::m,hk=>by
  simp only [List.map_cons,List.mem_cons,not_or] at hk
  obtain ⟨h1,h2⟩:=wR (v:=v) hk.2
  simp only [mput,hk.1,if_false,List.length_cons,h1,List.mem_cons,true_and]
  rintro p (rfl | hp)
  ·exact .inr (.inl U)
  ·rcases h2 p hp with h | h
   ·exact .inl h
   ·exact .inr (.inr h)
theorem zH {st:List Interest} {m:List (Int×Bool)} {q:List fR} (hg:px st m q) {k:Int} (h:mgetD m k false=false):k∉m.map (·.1):=by
 intro hk
 obtain ⟨⟨k',v⟩,hp,rfl⟩:=List.mem_map.1 hk
 have:∀ {m:List (Int×Bool)},(∀ p∈m,p.2=true)→k'∈m.map (·.1)→mgetD m k' false=true:=by
  intro m
  induction m with
  | nil=>intro _ h;simp at h
  | cons p m ih=>
   intro ha hm
   obtain ⟨a,b⟩:=p
   by_cases e:k'=a
   ·have:=ha (a,b) (List.mem_cons_self ..)
    simp only at this
    simp [mgetD,mget?,e,this]
   ·simp only [List.map_cons,List.mem_cons,e,false_or] at hm
    have:=ih (fun p hp=>ha p (List.mem_cons_of_mem _ hp)) hm
    simpa [mgetD,mget?,e] using this
 rw [this (fun p hp=>(hg.1 p hp).1) hk] at h
 cases h
theorem oI {st:List Interest} {m:List (Int×Bool)} {q:List fR} {w:fR} (hg:px st m q) (hw:w.to∈st.map (·.Party)) (h8:w.path.length≤8):px st (conPut w m q).1 (conPut w m q).2:=by
 unfold conPut
 cases h:mgetD m w.to false with
 | true=>exact hg
 | false=>
  obtain ⟨h1,h2⟩:=wR (v:=true) (zH hg h)
  refine ⟨fun p hp=>?_,?_,fun w' hw'=>?_⟩
  ·rcases h2 p hp with rfl | hp
   ·exact ⟨U,hw⟩
   ·exact hg.1 p hp
  ·show (q++[w]).length≤(mput m w.to true).length
   rw [h1,List.length_append];have:=hg.2.1;simp;omega
  ·rcases List.mem_append.1 (show w'∈q++[w] from hw') with hw' | hw'
   ·exact hg.2.2 w' hw'
   ·rw [List.mem_singleton.1 hw'];exact h8
theorem rx {st:List Interest} {m:List (Int×Bool)} {q:List fR} {k:Int} {cap:Nat} (hg:px st m q) (hn:(m.map (·.1)).Nodup) (hk:k∈st.map (·.Party)) (hc:st.length≤cap) (h:mgetD m k false=false):q.length < cap:=by
 have h1:=zH hg h
 have h2:(k::m.map (·.1)).length≤(st.map (·.Party)).length:=uA (List.nodup_cons.2 ⟨h1,hn⟩) (fun x hx=>by
  rcases List.mem_cons.1 hx with rfl | hx
  ·exact hk
  ·obtain ⟨p,hp,rfl⟩:=List.mem_map.1 hx;exact (hg.1 p hp).2)
 simp only [List.length_cons,List.length_map] at h2
 have:=hg.2.1
 omega
theorem FV {st:List Interest} {m:List (Int×Bool)} {q:List fR} (hg:px st m q) (hn:(m.map (·.1)).Nodup):m.length≤st.length:=by
 have:=uA (b:=st.map (·.Party)) hn (fun x hx=>by obtain ⟨p,hp,rfl⟩:=List.mem_map.1 hx;exact (hg.1 p hp).2)
 simpa using this
theorem zZ {m:List (Int×Bool)} {q:List fR} {w:fR} (hn:(m.map (·.1)).Nodup):((conPut w m q).1.map (·.1)).Nodup:=by
 unfold conPut
 cases mgetD m w.to false with
 | true=>exact hn
 | false=>exact ii _ _ hn
theorem B7 {st:List Interest} {m:List (Int×Bool)} {q:List fR} {w:fR} {N:Nat} (hg:px st m q) (hn:(m.map (·.1)).Nodup) (hw:w.to∈st.map (·.Party)) (hN:st.length≤N):
  (conPut w m q).2.length+(N - (conPut w m q).1.length)≤q.length+(N - m.length):=by
 unfold conPut
 cases h:mgetD m w.to false with
 | true=>simp
 | false=>
  obtain ⟨h1,_⟩:=wR (v:=true) (zH hg h)
  have h2:px st (mput m w.to true) []:=by
   have:=oI (w:=⟨[],w.to⟩) (q:=[]) (st:=st) (m:=m) ⟨hg.1,Nat.zero_le _,fun _ h=>(List.not_mem_nil h).elim⟩ hw (by simp)
   simp only [conPut,h,cond_false] at this
   exact ⟨this.1,Nat.zero_le _,fun _ h=>(List.not_mem_nil h).elim⟩
  have h3:=FV h2 (ii w.to true hn)
  show (q++[w]).length+(N - (mput m w.to true).length)≤_
  rw [h1] at h3
  rw [h1,List.length_append]
  simp;omega
theorem wT {α : Type} (m:List (Int×α)) (k j:Int) (v z:α):mgetD (mput m k v) j z=if j=k then v else mgetD m j z:=by
 induction m with
 | nil=>by_cases h:j=k <;> simp [mput,mgetD,mget?,h]
 | cons p m ih=>
  obtain ⟨a,b⟩:=p
  by_cases h:k=a
  ·subst h
   by_cases h2:j=k <;> simp [mput,mgetD,mget?,h2]
  ·by_cases h2:j=a
   ·subst h2
    have:¬ j=k:=fun e=>h e.symm
    simp [mput,h,mgetD,mget?,this]
   ·simp only [mgetD] at ih ⊢
    simp only [mput,h,if_false,mget?,h2]
    exact ih
theorem Ej.put {st:List Interest} {f:List (Int×List Interest)} (hf:Ej st f) {k:Int} {x:Interest} (hx:x∈st):Ej st (mput f k (mgetD f k []++[x])):=by
 intro j y hy
 rw [wT] at hy
 split at hy
 ·rcases List.mem_append.1 hy with hy | hy
  ·exact hf k y hy
  ·rw [List.mem_singleton.1 hy];exact hx
 ·exact hf j y hy
theorem rD {α : Type} (A B:List α) (x y:α):(A++x::y::B).Perm (y::x::(A++B)):=
 List.perm_middle.trans ((List.Perm.cons x List.perm_middle).trans (List.Perm.swap y x _))
theorem uh {st:List Interest} {path:List Int} {N:Nat} (hN:st.length≤N) (h8:path.length+1≤8):∀ {xs:List Interest} {m:List (Int×Bool)} {q:List fR},(∀ x∈xs,x∈st)→px st m q→(m.map (·.1)).Nodup →
  (conStep path xs m q).2.length+(N - (conStep path xs m q).1.length)≤q.length+(N - m.length)
 | [],m,q,_,_,_=>Nat.le_refl _
 | x::xs,m,q,hx,hg,hn=>by
  have hp:(fR.mk (path++[x.No]) x.Party).to∈st.map (·.Party):=List.mem_map_of_mem (hx x (List.mem_cons_self ..))
  have h1:=B7 (w:=⟨path++[x.No],x.Party⟩) hg hn hp hN
  have h2:=uh (path:=path) hN h8 (xs:=xs) (fun y hy=>hx y (List.mem_cons_of_mem _ hy)) (oI hg hp (by simpa using h8)) (zZ hn)
  simp only [conStep]
  exact Nat.le_trans h2 h1
theorem nF (h:HF) (b:Option Addr) (n c:Nat) (hc:n≤c):Ret Tryz.prog 88 [.slice b n c] h (.slice b n n):=by
 refine ay Tryz.func88 U Tryz.ntmps88 U fun X hM hX=>?_
 refine sr (an (sr (aa (aa (bC eL U (aa (bC eL U ?_)))))))
 refine a8 (gH (HP eL ty3 U U U hc) (an ?_))
 exact aw [.slice b n n] Tryz.func88 U hX rd U
theorem mw (h:HF) (l:List Interest) (eW:Option Addr) (eV:Nat) (person:Int) (parties:List Int) (iI:Option Addr) (iH:Nat) (cM known:Int)
  (hl:SlC Interest.rp h eW eV l) (hparties:SlC Rp.int h iI iH parties) (hsz:l.length≤2000000):
  jK Tryz.prog 45 [.slice eW l.length eV,I person,.slice iI parties.length iH,I cM,I known] h
   (fun v h'=>∃ (rb0:Option Addr) (rc0:Nat),v=.tuple #[.slice rb0 ((cL l person parties cM known).1.length) rc0,.bool ((cL l person parties cM known).2.1),I ((cL l person parties cM known).2.2)]∧SlC Rp.int h' rb0 rc0 ((cL l person parties cM known).1)):=by
 refine ay DD U Tryz.ntmps45 U fun X hM hX=>?_
 refine sr (dy (fun b1=>ba (ba (an ?_))))
 refine ae (sr (aa (aO 0 ty3 U U U (aa (aa (aa (aG (v:=I (bU l person parties cM known)) Tryz.call84 (rg h l eW eV person parties iI iH cM known hl hparties) U (an ?_))))))))
 refine sr (aa (aJ U (ac ?_)))
 refine aE U (fun c1=>?_) (fun c1=>?_)
 ·have e1:cL l person parties cM known=([],false,bU l person parties cM known):=by unfold cL;rw [c1];rfl
  refine sr (aa (ba (ba (an ?_))))
  exact dS [.slice none 0 0,.bool false,I (bU l person parties cM known)] DD U rd ⟨none,0,by rw [e1];rfl,by rw [e1];exact SlC.nil⟩
 ·have hex:bU l person parties cM known=0:=by simpa using c1
  obtain ⟨hps,hpl⟩:=vL hex
  have e1:cL l person parties cM known=((conFind l person parties (cd l cM known)).1,(conFind l person parties (cd l cM known)).2,0):=by unfold cL;rw [c1];rfl
  rw [e1]
  have hstl:=AA l cM known
  generalize hst:cd l cM known=st at hstl
  refine ao (sr (a8 (og (fun bf=>bX zc145 (fun b14=>dW 0 ty145 U U U U U U (ac ?_))))))
  refine sr (a8 (og (fun bm=>bX zc120 (fun b15=>dW 0 ty120 U U U U U U (ac ?_)))))
  refine sr (aa (bC nj U ?_))
  refine a8 (FA Tryz.underlying146 bytes148 U ob (by decide) (fun bc=>bX zc146 (fun b16=>dW 0 ty146 U U U U U U (ac ?_))))
  refine sr (a8 (fV U U (bX zc149 (fun b17=>dW 0 ty149 U U U U U U (ac ?_)))))
  refine fD 0 U hM (fun h1 l1 f17=>fD 0 U hM (fun h2 l2 f16=>fD 1 U hM (fun h3 l3 f15=>fD 2 U hM (fun h4 l4 f14=>fD 3 U hM (fun h5 l5 f1=>?_)))))
  have a17:=(dR f17).mono (l2.t (l3.t (l4.t l5)))
  have a16:=(dR f16).mono (l3.t (l4.t l5))
  have a15:=(dR f15).mono (l4.t l5)
  have a14:=(dR f14).mono l5
  have a1:=dR f1
  have l05:h.le h5:=HF.le_trans l1 (l2.t (l3.t (l4.t l5)))
  clear f17 f16 f15 f14 f1 l1 l2 l3 l4 l5
  try dsimp only
  refine ae (sr (aa (aa (aa ?_))))
  refine a8 (dg Tryz.call86 (qp h5 l eW eV cM known (hl.mono Interest.aN l05)) U (fun v1 h6 l6 hp1=>?_))
  obtain ⟨_,rfl,hit⟩:=hp1
  rw [hst] at hit
  refine ac (aW ?_)
  refine gf ?_
  refine j2 (it:=v1) (xs:=st) (ι:=List (Int×List Interest)×List (Int×Bool)×List fR×List Value×Nat×Obj×List (Int×Option Addr×Nat×Nat)×Obj×LH×HF) [] (fun i=>i.2.2.2.2.2.2.2.2.2)
   (fun i=>[(bc,.chan l.length i.2.2.2.1.toArray false i.2.2.2.2.1 0 false),(bm,i.2.2.2.2.2.1),(bf,i.2.2.2.2.2.2.2.1)]++i.2.2.2.2.2.2.2.2.1)
   (fun rest i=>(conFill person rest i.1 i.2.1 i.2.2.1=conFill person st [] [] []∧(∀ x∈rest,x∈st))∧(pu i.2.2.2.2.2.2.2.2.2 i.2.2.2.1 i.2.2.1∧gy (Value.int .i64) ia i.2.2.2.2.2.2.2.2.2 i.2.2.2.2.2.1 i.2.1∧gy (Value.int .i64) V3 i.2.2.2.2.2.2.2.2.2 i.2.2.2.2.2.2.2.1 i.2.2.2.2.2.2.1∧FR i.2.2.2.2.2.2.2.2.2 i.2.2.2.2.2.2.1 i.1 i.2.2.2.2.2.2.2.2.1)∧(px st i.2.1 i.2.2.1∧Ej st i.1)∧h6.le i.2.2.2.2.2.2.2.2.2∧(∀ k,(mgetD i.1 k []).length+rest.length≤l.length))
   (fun _=>False) (fun _=>False) 0 (fun _ _ _=>False) ([],[],[],[],0,.map #[] 0,[],.map #[] 0,[],h6) DD rfl hit rfl uC (fun _ _ _ _ _ hq=>hq) rfl rfl
   ⟨⟨rfl,fun _ hx=>hx⟩,⟨trivial,gy.nil,gy.nil,rfl⟩,⟨⟨fun _ hp=>(List.not_mem_nil hp).elim,Nat.le_refl _,fun _ hp=>(List.not_mem_nil hp).elim⟩,fun _ _ hx=>(List.not_mem_nil hx).elim⟩,HF.le_refl _,fun k=>by simp [mgetD,mget?];exact hstl⟩ ?_ ?_ (fun _ _ _ hF=>hF.elim) (fun _ _ _ hF=>hF.elim) (fun _ _ _ _ hF=>hF.elim)
  ·rintro l1 r1 lp1 x rest vs1 ⟨f,m,q,vs,s,om,m3,o3,Gf,hh⟩ h7 X' hFR ⟨⟨hfill,hin⟩,⟨hwy,hmm,hm3,hfr⟩,⟨hgq,hgf⟩,h6h,hlen⟩ h67 hh7 hv hX' hXM hlp nx rt ex pn
   dsimp only at hfill hin hwy hmm hm3 hfr hgq hgf h6h hh7 hlen
   obtain rfl:=hv
   have hxst:x∈st:=hin x (List.mem_cons_self ..)
   have hin':∀ y∈rest,y∈st:=fun y hy=>hin y (List.mem_cons_of_mem _ hy)
   have h57:h5.le h7:=HF.le_trans l6 h67
   replace hwy:=hwy.mono hh7
   replace hmm:=hmm.mono ia.mono hh7
   replace hm3:=hm3.mono V3.mono hh7
   replace hfr:=hfr.mono hh7
   have h67':h6.le h7:=h67
   clear hh7 h6h
   refine ai (bX zc61 (fun b18=>bN 0 ty61 U U U U U U (ac ?_)))
   refine j3 1 U hlp (aW (aW ?_))
   refine dX (L':=[(b18,.cells (Interest.cells x).toArray 61 (0,0)),(l1,.loop { lp1 with state:=.busy }),(r1,.deferred (some [])),(bc,.chan l.length vs.toArray false s 0 false),(bm,om),(bf,o3)]++Gf) (by simp [markB,setNth]) ?_
   refine sr (az tT U (aO 0 ty4 U U U (an ?_)))
   refine aE U (fun cO=>?_) (fun cO=>?_)
   ·obtain ⟨gb,gc,G1,G2,hget,hgrow,hperm,hput⟩:=hfr.get x.Person
    have hlx:=hlen x.Person
    simp only [List.length_cons] at hlx
    have hnext:conFill person rest (mput f x.Person (mgetD f x.Person []++[x])) m q=conFill person st [] [] []:=by
     rw [← hfill];simp [conFill,cO]
    have hlen':∀ k,(mgetD (mput f x.Person (mgetD f x.Person []++[x])) k []).length+rest.length≤l.length:=fun k=>by
     rw [wT]
     split
     ·simp only [List.length_append,List.length_cons,List.length_nil];omega
     ·have:=hlen k;simp only [List.length_cons] at this;omega
    have fin:∀ (e':Env) (b8:Nat) (o8:Obj) (o3':Obj) (gb':Option Addr) (gc':Nat) (G1':LH),ep Interest.rp 61 h7 (mgetD f x.Person []++[x]) gb' gc' G1'→gy (Value.int .i64) V3 h7 o3' (mput m3 x.Person (gb',(mgetD f x.Person []++[x]).length,gc')) →
      TT Tryz.prog (roundFrame l1 45) 111 [.inBlock 2,.inBlock 1] hFR e' [] X' h7 ([(b8,o8),(b18,.cells (Interest.cells x).toArray 61 (0,0)),(l1,.loop { lp1 with state:=.busy }),(r1,.deferred (some [])),(bc,.chan l.length vs.toArray false s 0 false),(bm,om),(bf,o3')]++(G2++G1')):=by
     intro e' b8 o8 o3' gb' gc' G1' hG' hm'
     obtain ⟨G',hfr',hp'⟩:=hput gb' gc' _ G1' hG'
     refine av (av ?_)
     refine cE (L':=[(l1,.loop { lp1 with state:=.busy }),(r1,.deferred (some [])),(bc,.chan l.length vs.toArray false s 0 false),(bm,om),(bf,o3')]++(G2++G1')) js ?_
     refine nk (L':=[(l1,.loop { lp1 with state:=.busy }),(r1,.deferred (some [])),(bc,.chan l.length vs.toArray false s 0 false),(bm,om),(bf,o3')]++G') (List.Perm.append_left _ (List.perm_append_comm.trans hp'.symm)) ?_
     refine dX (L':=rdH l1 r1 lp1 (([(bc,.chan l.length vs.toArray false s 0 false),(bm,om),(bf,o3')]++G')++markB [])) (by simp [markB]) ?_
     exact nx (mput f x.Person (mgetD f x.Person []++[x]),m,q,vs,s,om,mput m3 x.Person (gb',(mgetD f x.Person []++[x]).length,gc'),o3',G',h7) _ _ ⟨⟨hnext,hin'⟩,⟨hwy,hmm,hm',hfr'⟩,⟨hgq,hgf.put hxst⟩,h67',hlen'⟩ (HF.le_refl _)
    have hJ:∀ {L:LH},Jst h7 [(b18,.cells (Interest.cells x).toArray 61 (0,0))] h7 ((b18,.cells (Interest.cells x).toArray 61 (0,0))::L):=zK js
    have hJ2:∀ {L:LH} {p:Nat×Obj},Jst h7 [(b18,.cells (Interest.cells x).toArray 61 (0,0))] h7 (p::(b18,.cells (Interest.cells x).toArray 61 (0,0))::L):=zK js
    refine ga [(b18,.cells (Interest.cells x).toArray 61 (0,0))] mixed kr hJ (fun hsep _=>?_)
    refine n2 0 hsep hJ U U kr U (fun _ _ hj=>gd ty145 ((a14.mono h57).mono hj.1) U) ?_
    refine n2 1 hsep hJ U U kr U (fun _ _ _=>dB mj U) ?_
    refine n2 2 hsep hJ U U kr U (fun _ _ hj=>gu ty3 U (hj.nth (i:=0) U) U) ?_
    refine n2 3 hsep hJ U U kr U (fun _ _ hj=>gd ty145 ((a14.mono h57).mono hj.1) U) ?_
    refine n2 4 hsep hJ U U kr U (fun _ _ _=>dB mj U) ?_
    refine n2 5 hsep hJ U U kr U (fun _ _ hj=>gu ty3 U (hj.nth (i:=0) U) U) ?_
    refine n2 7 hsep hJ U U kr U (fun _ _ hj=>ky ty61 U (hj.nth (i:=0) U) U) ?_
    refine lF 6 8 kr U U ?_ ?_
    ·refine wo 5 (k:=x.Person) DC (eS kl) U hm3 (je zv24) (show V3 _ (.slice none 0 0) (none,0,0) from U) U U (fun v hv=>?_)
     rw [hget] at hv
     obtain rfl:=hv
     refine ⟨hJ,?_⟩
     refine tn 8 U (ck (cells:=Interest.cells x) nj ty61 zc61 U U kr (fun b8=>⟨hJ2,?_⟩))
     refine tn 9 U (Fy (List.Perm.append_left ([(b8,.cells (Interest.cells x).toArray 61 (0,0)),(b18,.cells (Interest.cells x).toArray 61 (0,0)),(l1,.loop { lp1 with state:=.busy }),(r1,.deferred (some [])),(bc,.chan l.length vs.toArray false s 0 false),(bm,om),(bf,o3)]:LH) hperm) ?_)
     refine eK Interest.e5 [(b8,.cells (Interest.cells x).toArray 61 (0,0)),(b18,.cells (Interest.cells x).toArray 61 (0,0)),(l1,.loop { lp1 with state:=.busy }),(r1,.deferred (some [])),(bc,.chan l.length vs.toArray false s 0 false),(bm,om),(bf,o3)] G2 (fun G=>[(b8,.cells (Interest.cells x).toArray 61 (0,0)),(b18,.cells (Interest.cells x).toArray 61 (0,0)),(l1,.loop { lp1 with state:=.busy }),(r1,.deferred (some [])),(bc,.chan l.length vs.toArray false s 0 false),(bm,om),(bf,o3)]++(G2++G)) U (fun _=>U) nj ty61 zc61 U bytes61 hgrow U U (eZ 0 U (show bV Interest.rp h7 (Interest.cells x) [x] from ⟨Interest.cells x,[],by simp,U,U,U⟩)) lo lo (fun gb' gc' G1' hG'=>⟨hJ2,?_⟩)
     refine tn 10 U (j5 6 (k:=x.Person) (x:=(gb',(mgetD f x.Person []++[x]).length,gc')) DC (eS kl) U hm3 U U U (fun o3' hm'=>⟨hJ2,?_⟩))
     exact bY kr (fin _ b8 _ o3' gb' gc' G1' hG' hm')
    ·refine ck (cells:=Interest.cells x) nj ty61 zc61 U U kr (fun b8=>⟨hJ2,?_⟩)
     refine tn 6 U (wo 6 (k:=x.Person) DC (eS kl) U hm3 (je zv24) (show V3 _ (.slice none 0 0) (none,0,0) from U) U U (fun v hv=>?_))
     rw [hget] at hv
     obtain rfl:=hv
     refine ⟨hJ2,?_⟩
     refine tn 9 U (Fy (List.Perm.append_left ([(b8,.cells (Interest.cells x).toArray 61 (0,0)),(b18,.cells (Interest.cells x).toArray 61 (0,0)),(l1,.loop { lp1 with state:=.busy }),(r1,.deferred (some [])),(bc,.chan l.length vs.toArray false s 0 false),(bm,om),(bf,o3)]:LH) hperm) ?_)
     refine eK Interest.e5 [(b8,.cells (Interest.cells x).toArray 61 (0,0)),(b18,.cells (Interest.cells x).toArray 61 (0,0)),(l1,.loop { lp1 with state:=.busy }),(r1,.deferred (some [])),(bc,.chan l.length vs.toArray false s 0 false),(bm,om),(bf,o3)] G2 (fun G=>[(b8,.cells (Interest.cells x).toArray 61 (0,0)),(b18,.cells (Interest.cells x).toArray 61 (0,0)),(l1,.loop { lp1 with state:=.busy }),(r1,.deferred (some [])),(bc,.chan l.length vs.toArray false s 0 false),(bm,om),(bf,o3)]++(G2++G)) U (fun _=>U) nj ty61 zc61 U bytes61 hgrow U U (eZ 0 U (show bV Interest.rp h7 (Interest.cells x) [x] from ⟨Interest.cells x,[],by simp,U,U,U⟩)) lo lo (fun gb' gc' G1' hG'=>⟨hJ2,?_⟩)
     refine tn 10 U (j5 6 (k:=x.Person) (x:=(gb',(mgetD f x.Person []++[x]).length,gc')) DC (eS kl) U hm3 U U U (fun o3' hm'=>⟨hJ2,?_⟩))
     exact bY kr (fin _ b8 _ o3' gb' gc' G1' hG' hm')
   ·refine sr (az mj U (aO 0 ty3 U U U (eC ty3 (a1.mono h57) U (aJ U (an ?_)))))
    have hlen':∀ k,(mgetD f k []).length+rest.length≤l.length:=fun k=>by have:=hlen k;simp only [List.length_cons] at this;omega
    refine aE U (fun cP=>?_) (fun cP=>?_)
    ·have hnext:conFill person rest f (conPut ⟨[x.No],x.Party⟩ m q).1 (conPut ⟨[x.No],x.Party⟩ m q).2=conFill person st [] [] []:=by
      rw [← hfill];simp only [conFill,cO,cond_false,cP,cond_true]
     have hpty:(fR.mk [x.No] x.Party).to∈st.map (·.Party):=List.mem_map_of_mem hxst
     refine ai (eC ty149 (a17.mono h57) U (az nu U (aO 0 ty3 U U U ?_)))
     refine a8 (Er (cells:=[I x.No]) hXM eL ty3 zc3 U U kr (fun b65 hb65=>?_))
     refine wd 0 U hb65 (fun h8 l8 f8=>?_)
     have sl8:SlC Rp.int h8 (some ⟨b65,0,none⟩) 1 [x.No]:=bV.slB0 (T:=3) (fz:=(0,0)) (show bV Rp.int h8 [I x.No] [x.No] from ⟨[I x.No],[],rfl,rfl,rfl,rfl⟩) f8
     refine az oF U (aO 0 ty3 U U U ?_)
     refine a8 (fw (cells:=fR.cells ⟨[x.No],x.Party⟩ ⟨some ⟨b65,0,none⟩,1⟩) (places:=[(0,1),(1,1)]) Tryz.underlying148 zc148 kr kr ?_)
     refine a8 (zr (vs:=[.agg (fR.cells ⟨[x.No],x.Party⟩ ⟨some ⟨b65,0,none⟩,1⟩).toArray]) [(bm,om),(bc,.chan l.length vs.toArray false s 0 false)] ([(b18,.cells (Interest.cells x).toArray 61 (0,0)),(l1,.loop { lp1 with state:=.busy }),(r1,.deferred (some [])),(bf,o3)]++Gf) ?_
      (j7 h8 ⟨[x.No],x.Party⟩ ⟨some ⟨b65,0,none⟩,1⟩ ⟨b15,0,none⟩ ⟨b16,0,none⟩ bm bc om m l.length s 0 vs q ⟨sl8⟩ (a15.mono (h57.t l8)) (a16.mono (h57.t l8)) (hmm.mono ia.mono l8) (hwy.mono l8) (fun hno=>by rw [hwy.len];exact rx hgq hmm.nodup hpty hstl hno)) rfl rfl (fun B hB=>?_))
     ·exact rD [(b18,.cells (Interest.cells x).toArray 61 (0,0)),(l1,.loop { lp1 with state:=.busy }),(r1,.deferred (some []))] ((bf,o3)::Gf) (bc,.chan l.length vs.toArray false s 0 false) (bm,om)
     obtain ⟨om',vs',s',hm',hw',rfl⟩:=hB
     refine ac (av (av ?_))
     refine cE (L':=[(bm,om'),(bc,.chan l.length vs'.toArray false s' 0 false)]++([(l1,.loop { lp1 with state:=.busy }),(r1,.deferred (some [])),(bf,o3)]++Gf)) js ?_
     refine nk (L':=rdH l1 r1 lp1 (([(bc,.chan l.length vs'.toArray false s' 0 false),(bm,om'),(bf,o3)]++Gf)++markB [])) ?_ ?_
     ·rw [show markB []=([]:LH) from rfl,List.append_nil]
      exact (rD [(l1,Obj.loop { lp1 with state:=.busy }),(r1,.deferred (some []))] ((bf,o3)::Gf) (bc,.chan l.length vs'.toArray false s' 0 false) (bm,om')).symm
     exact nx (f,(conPut ⟨[x.No],x.Party⟩ m q).1,(conPut ⟨[x.No],x.Party⟩ m q).2,vs',s',om',m3,o3,Gf,h8) _ _ ⟨⟨hnext,hin'⟩,⟨hw',hm',hm3.mono V3.mono l8,hfr.mono l8⟩,⟨oI hgq hpty (by simp),hgf⟩,HF.le_trans h67' l8,hlen'⟩ (HF.le_refl _)
    ·have hnext:conFill person rest f m q=conFill person st [] [] []:=by
      rw [← hfill];simp only [conFill,cO,cond_false,cP]
     refine ao (av (av ?_))
     refine cE (L':=[(l1,.loop { lp1 with state:=.busy }),(r1,.deferred (some [])),(bc,.chan l.length vs.toArray false s 0 false),(bm,om),(bf,o3)]++Gf) js ?_
     refine dX (L':=rdH l1 r1 lp1 (([(bc,.chan l.length vs.toArray false s 0 false),(bm,om),(bf,o3)]++Gf)++markB [])) (by simp [markB]) ?_
     exact nx (f,m,q,vs,s,om,m3,o3,Gf,h7) _ _ ⟨⟨hnext,hin'⟩,⟨hwy,hmm,hm3,hfr⟩,⟨hgq,hgf⟩,h67',hlen'⟩ (HF.le_refl _)
  ·rintro dm ⟨f,m0,q0,vs0,s0,om0,m3,o3,Gf,hh⟩ h7 ⟨⟨hfill,_⟩,⟨hwy,hmm,hm3,hfr⟩,⟨hgq,hgf⟩,h6h,hlen⟩ hh7 h67
   dsimp only at hfill hwy hmm hm3 hfr hgq hgf h6h hh7 hlen
   refine av ?_
   refine fD 2 U hM (fun h8 l8 f8=>?_)
   refine CR [(bc,.chan l.length vs0.toArray false s0 0 false),(bm,om0)] Gf (markB [dm]) U hM (fun h9 l9 hG9=>?_)
   have h89:hh.le h9:=HF.le_trans hh7 (l8.t l9)
   have hmF:gy (Value.int .i64) (VSl Interest.rp) h9 o3 f:=FR.frozen hm3 hfr h89 hG9
   have hbf:h9 bf=some o3:=l9 _ _ f8
   have h59:h5.le h9:=HF.le_trans l6 (h67.t (l8.t l9))
   replace a14:=a14.mono h59
   replace a15:=a15.mono h59
   replace a16:=a16.mono h59
   replace a17:=a17.mono h59
   have hpar:=(hparties.mono Rp.ce l05).mono Rp.ce h59
   have hcf:conFind l person parties st=conLoop parties f (l.length+1) m0 q0:=by
    unfold conFind;rw [← hfill];rfl
   have hwy0:=hwy.mono h89
   have hmm0:=hmm.mono ia.mono h89
   clear hwy hmm hm3 hfr hG9 l8 f8 h6h hh7 h67 hfill a1
   generalize hCF:conFind l person parties st=CF at hcf
   refine ae ?_
   refine br (ι:=List Value×Nat×Nat×Obj×HF) (fun i=>[]) (fun i=>i.2.2.2.2) (fun i=>[(bc,.chan l.length i.1.toArray false i.2.1 i.2.2.1 false),(bm,i.2.2.2.1)]++markB [dm]) (fun i=>CF=([],false)) ?_ (fun hx=>?_)
   ·rintro ⟨vs,s,r,om,hh⟩ hc e
    refine sr (ba (ba (an ?_)))
    exact oT [dm] [.slice none 0 0,.bool false,I 0] DD U rd ⟨none,0,by rw [hc];rfl,by rw [hc];exact SlC.nil⟩
   ·refine cp (ι:=Nat×List (Int×Bool)×List fR×List Value×Nat×Nat×Obj×HF) (fun i=>[(2,.slice iI parties.length iH),(14,Q b14),(16,Q b16),(17,Q b17)]) (fun i=>i.2.2.2.2.2.2.2)
     (fun i=>[(bc,.chan l.length i.2.2.2.1.toArray false i.2.2.2.2.1 i.2.2.2.2.2.1 false),(bm,i.2.2.2.2.2.2.1)]++markB [dm])
     (fun i=>CF=conLoop parties f i.1 i.2.1 i.2.2.1∧i.2.2.1.length+(l.length - i.2.1.length) < i.1∧pu i.2.2.2.2.2.2.2 i.2.2.2.1 i.2.2.1∧gy (Value.int .i64) ia i.2.2.2.2.2.2.2 i.2.2.2.2.2.2.1 i.2.1∧px st i.2.1 i.2.2.1∧h9.le i.2.2.2.2.2.2.2)
     (fun i=>i.1) (l.length+1,m0,q0,vs0,s0,0,om0,h9) rd (fun w hw=>hw) ⟨hcf,?_,hwy0,hmm0,hgq,HF.le_refl _⟩ ?_
    ·show q0.length+(l.length - m0.length) < l.length+1
     have:=hgq.2.1;have:=FV hgq hmm0.nodup;omega
    clear hcf hwy0 hmm0 hgq
    rintro ⟨n,m,q,vs,s,r,om,hh⟩ ⟨hcf,hn,hwy,hmm,hgq,h9h⟩ ag e
    dsimp only at hcf hn hwy hmm hgq h9h
    try dsimp only
    obtain ⟨n,rfl⟩:∃ n',n=n'+1:=⟨n - 1,by omega⟩
    refine ae (sr (eC ty146 (a16.mono h9h) U ?_))
    refine a8 (gH (HO Tryz.underlying146 (List.mem_cons_self ..) U) ?_)
    rcases q with _ | ⟨w,q⟩
    ·have hv0:vs=[]:=List.eq_nil_of_length_eq_zero hwy.len
     subst hv0
     refine aB (v':=.bool false) U U (ac (bg U (bO U ?_)))
     exact hx ([],s,r,om,hh) _ hcf trivial
    ·rcases vs with _ | ⟨v,vs⟩
     ·exact hwy.elim
     obtain ⟨⟨wr,rfl,hok⟩,hwy⟩:=hwy
     refine aB (v':=.bool true) U (cb (decide_eq_true (by simp))) (ac (bn U (ao (aW ?_))))
     refine sr (eC ty146 (a16.mono h9h) U (HW 0 Tryz.underlying146 zv148 U U (bX zc148 (fun b19=>bN 0 ty148 U U U U U U (ac ?_)))))
     refine ae (sr (aa (az ua U (aO 0 ty3 U U U (aG (v:=.tuple #[I (slices_BinarySearch_int parties w.to).1,.bool (slices_BinarySearch_int parties w.to).2]) Tryz.call87 (kN hh parties iI iH w.to (hpar.mono Rp.ce h9h) hps ob) U (aa (bG U U (bG U U (ba (an ?_))))))))))
     refine sr (aa (ac ?_))
     have hgq':px st m q:=⟨hgq.1,by have:=hgq.2.1;simp only [List.length_cons] at this;omega,fun w' hw'=>hgq.2.2 w' (List.mem_cons_of_mem _ hw')⟩
     have hw8:=hgq.2.2 w (List.mem_cons_self ..)
     simp only [List.length_cons] at hn
     refine aE U (fun cF=>?_) (fun cF=>?_)
     ·have hc2:CF=(w.path,true):=by
       rw [hcf];simp only [conLoop];rw [show parties.contains w.to=true from cF];rfl
      refine sr (az xF U (aO 0 ty31 U U U (ba (ba (an ?_)))))
      refine cE (L':=[(bc,.chan l.length vs.toArray false s (r+1) false),(bm,om)]++markB [dm]) js ?_
      exact oT [dm] [.slice wr.qU w.path.length wr.sJ,.bool true,I 0] DD U rd ⟨wr.qU,wr.sJ,by rw [hc2];rfl,by rw [hc2];exact hok.path⟩
     ·have hc2:CF=(bif ((w.path.length:Nat):Int)==8 then conLoop parties f n m q else conLoop parties f n (conStep w.path (mgetD f w.to []) m q).1 (conStep w.path (mgetD f w.to []) m q).2):=by
       rw [hcf];simp only [conLoop];rw [show parties.contains w.to=false from cF];rfl
      refine ao (ae (sr (az xF U (aO 0 ty31 U U U (bC eL U (aJ U (ac ?_)))))))
      refine aE U (fun c8=>?_) (fun c8=>?_)
      ·rw [show (((w.path.length:Nat):Int)==8)=true from c8] at hc2
       refine bO U ?_
       refine cE (L':=[(bc,.chan l.length vs.toArray false s (r+1) false),(bm,om)]++markB [dm]) js ?_
       exact ag (n,m,q,vs,s,r+1,om,hh) _ (Nat.lt_succ_self _) ⟨hc2,by show q.length+(l.length - m.length) < n;omega,hwy,hmm,hgq',h9h⟩ rd
      ·rw [show (((w.path.length:Nat):Int)==8)=false from c8] at hc2
       refine ao (sr (eC ty145 (a14.mono h9h) U (az ua U (aO 0 ty3 U U U ?_))))
       refine a8 (oV (k:=w.to) DC (eS kl) (h9h _ _ hbf) (hmF.mono (VSl.mono Interest.aN) h9h) (je zv24) (show VSl Interest.rp _ (.slice none 0 0) [] from ⟨none,0,U,SlC.nil⟩) U U (fun v hv=>?_))
       obtain ⟨xb,xc,rfl,slx⟩:=hv
       have hxs:∀ y∈mgetD f w.to [],y∈st:=hgf w.to
       generalize mgetD f w.to []=xs at slx hc2 hxs
       refine bC nj U (aa (ac ?_))
       have hw7:w.path.length+1≤8:=by simp at c8;omega
       have hsum:=uh (path:=w.path) hstl hw7 hxs hgq' hmm.nodup
       generalize hcs:conStep w.path xs m q=CS at hc2 hsum
       refine br (ι:=List Value×Nat×Obj×HF) (fun i=>[(2,.slice iI parties.length iH),(14,Q b14),(16,Q b16),(17,Q b17)]) (fun i=>i.2.2.2) (fun i=>[(b19,.cells (fR.cells w wr).toArray 148 (0,0)),(bc,.chan l.length i.1.toArray false i.2.1 (r+1) false),(bm,i.2.2.1)]++markB [dm])
        (fun i=>pu i.2.2.2 i.1 CS.2∧gy (Value.int .i64) ia i.2.2.2 i.2.2.1 CS.1∧px st CS.1 CS.2∧hh.le i.2.2.2) ?_ (fun hx2=>?_)
       ·rintro ⟨vs2,s2,om2,h10⟩ ⟨hw2,hm2,hg2,hle2⟩ e2
        refine av ?_
        refine cE (L':=[(bc,.chan l.length vs2.toArray false s2 (r+1) false),(bm,om2)]++markB [dm]) js ?_
        exact ag (n,CS.1,CS.2,vs2,s2,r+1,om2,h10) _ (Nat.lt_succ_self _) ⟨hc2,by show CS.2.length+(l.length - CS.1.length) < n;omega,hw2,hm2,hg2,HF.le_trans h9h hle2⟩ rd
       ·refine cp (ι:=Nat×List (Int×Bool)×List fR×List Value×Nat×Obj×HF×List Interest) (fun i=>[(2,.slice iI parties.length iH),(14,Q b14),(16,Q b16),(17,Q b17),(19,Q b19),(92,.slice xb xs.length xc),(93,I ((xs.length:Nat):Int)),(94,I ((i.1:Nat):Int))]) (fun i=>i.2.2.2.2.2.2.1)
         (fun i=>[(b19,.cells (fR.cells w wr).toArray 148 (0,0)),(bc,.chan l.length i.2.2.2.1.toArray false i.2.2.2.2.1 (r+1) false),(bm,i.2.2.2.2.2.1)]++markB [dm])
         (fun i=>xs.drop i.1=i.2.2.2.2.2.2.2∧conStep w.path i.2.2.2.2.2.2.2 i.2.1 i.2.2.1=CS∧pu i.2.2.2.2.2.2.1 i.2.2.2.1 i.2.2.1∧gy (Value.int .i64) ia i.2.2.2.2.2.2.1 i.2.2.2.2.2.1 i.2.1∧px st i.2.1 i.2.2.1∧hh.le i.2.2.2.2.2.2.1)
         (fun i=>i.2.2.2.2.2.2.2.length) (0,m,q,vs,s,om,hh,xs) rd (fun w hw=>hw) ⟨rfl,hcs,hwy,hmm,hgq',HF.le_refl _⟩ ?_
        rintro ⟨i1,m2,q2,vs2,s2,om2,h10,rest⟩ ⟨hd1,hcs2,hw2,hm2,hg2,hle2⟩ ag2 e2
        dsimp only at hd1 hcs2 hw2 hm2 hg2 hle2
        try dsimp only
        rcases rest with _ | ⟨x,rest⟩
        ·have hge:=cU hd1
         refine sr (aB (v':=.bool false) U (cb hge) (ac (ae (bg U (bO U ?_)))))
         obtain rfl:(m2,q2)=CS:=hcs2
         exact hx2 (vs2,s2,om2,h10) _ ⟨hw2,hm2,hg2,hle2⟩ rd
        ·have hlt:=dY hd1
         have hget:=cY hd1
         have hxst:x∈st:=hxs x (gm hd1)
         have hpty:(fR.mk (w.path++[x.No]) x.Party).to∈st.map (·.Party):=List.mem_map_of_mem hxst
         have slx2:=slx.mono Interest.aN hle2
         have hokp:=hok.path.mono Rp.ce hle2
         have gx:=slx.1.1
         have eT:=aT hd1
         have h910:h9.le h10:=HF.le_trans h9h hle2
         refine sr (aB (v':=.bool true) U (cb hlt) (ac (ae (bn U (ao ?_)))))
         refine ae (aW (sr (a8 (fQ (enc:=Interest.cells) (fun _ _ _ e=>e) nj ty61 slx2.1 (nthZ hget) (bB hget) U U U (fun qx Ax=>?_)))))
         refine ed ty61 Ax U U (bX zc61 (fun b23=>bN 0 ty61 U U U U U U (ac ?_)))
         refine GN (ι:=List Value×Nat×Obj×HF) (fun i=>[(2,.slice iI parties.length iH),(14,Q b14),(16,Q b16),(17,Q b17),(19,Q b19),(92,.slice xb xs.length xc),(93,I ((xs.length:Nat):Int)),(94,I ((i1:Nat):Int))]) (fun i=>i.2.2.2) (fun i=>[(b19,.cells (fR.cells w wr).toArray 148 (0,0)),(bc,.chan l.length i.1.toArray false i.2.1 (r+1) false),(bm,i.2.2.1)]++markB [dm])
          (fun i=>h10.le i.2.2.2∧pu i.2.2.2 i.1 (conPut ⟨w.path++[x.No],x.Party⟩ m2 q2).2∧gy (Value.int .i64) ia i.2.2.2 i.2.2.1 (conPut ⟨w.path++[x.No],x.Party⟩ m2 q2).1) ?_ (fun fin=>?_)
         ·rintro ⟨vs3,s3,om3,h11⟩ ⟨l11,hw3,hm3⟩ e3
          dsimp only at l11 hw3 hm3
          refine av (ai (aB (v':=I ((i1+1:Nat):Int)) U (bW ob) (aa (ac ?_))))
          exact ag2 (i1+1,(conPut ⟨w.path++[x.No],x.Party⟩ m2 q2).1,(conPut ⟨w.path++[x.No],x.Party⟩ m2 q2).2,vs3,s3,om3,h11,rest) _ (Nat.lt_succ_self _) ⟨bF hd1,hcs2,hw3,hm3,oI hg2 hpty (by simpa using hw7),HF.le_trans hle2 l11⟩ rd
         have hKs:∀ p∈([(b23,.cells (Interest.cells x).toArray 61 (0,0)),(b19,.cells (fR.cells w wr).toArray 148 (0,0))]:LH),p∈([(b23,.cells (Interest.cells x).toArray 61 (0,0)),(b19,.cells (fR.cells w wr).toArray 148 (0,0)),(bc,.chan l.length vs2.toArray false s2 (r+1) false),(bm,om2)]++markB [dm]:LH):=fun p hp=>by
          rcases List.mem_cons.1 hp with rfl | hp
          ·simp
          ·rw [List.mem_singleton.1 hp];simp
         have hJ:Jst h10 [(b23,.cells (Interest.cells x).toArray 61 (0,0)),(b19,.cells (fR.cells w wr).toArray 148 (0,0))] h10 ([(b23,.cells (Interest.cells x).toArray 61 (0,0)),(b19,.cells (fR.cells w wr).toArray 148 (0,0)),(bc,.chan l.length vs2.toArray false s2 (r+1) false),(bm,om2)]++markB [dm]):=⟨HF.le_refl _,hKs⟩
         refine ga [(b23,.cells (Interest.cells x).toArray 61 (0,0)),(b19,.cells (fR.cells w wr).toArray 148 (0,0))] mixed kr hJ (fun hsep _=>?_)
         refine n2 0 hsep hJ U U kr U (fun _ _ hj=>gd ty149 ((a17.mono h910).mono hj.1) U) ?_
         refine n2 1 hsep hJ U U kr U (fun _ _ _=>dB xF U) ?_
         refine n2 2 hsep hJ U U kr U (fun _ _ hj=>gu ty31 U (hj.nth (i:=1) U) U) ?_
         refine n2 4 hsep hJ U U kr U (fun _ _ _=>dB nu U) ?_
         refine n2 5 hsep hJ U U kr U (fun _ _ hj=>gu ty3 U (hj.nth (i:=0) U) U) ?_
         refine n2 8 hsep hJ U U kr U (fun _ _ _=>dB oF U) ?_
         refine n2 9 hsep hJ U U kr U (fun _ _ hj=>gu ty3 U (hj.nth (i:=0) U) U) ?_
         have hpl8:w.path.length≤wr.sJ:=hokp.2
         have hpn:=hokp.1.1
         refine lF 3 6 kr U U ?_ ?_
         ·refine fu (v:=.slice wr.qU w.path.length w.path.length) Tryz.call88 (nF h10 wr.qU w.path.length wr.sJ hpl8) U ⟨hJ,?_⟩
          refine tn 6 U (ck (cells:=[I x.No]) eL ty3 zc3 U U kr (fun b6=>⟨⟨HF.le_refl _,fun p hp=>List.mem_cons_of_mem _ (hKs p hp)⟩,?_⟩))
          refine tn 7 U (yL (R:=Rp.int) (xs:=w.path) (ys:=[x.No]) eL ty3 zc3 U bytes3 (wh hokp.1) U U (eZ 0 U (show bV Rp.int h10 [I x.No] [x.No] from ⟨[I x.No],[],U,U,U,U⟩)) (by simp) lo lo (fun nb nc NG hNG=>⟨⟨HF.le_refl _,fun p hp=>List.mem_append_right NG (List.mem_cons_of_mem _ (hKs p hp))⟩,?_⟩))
          refine tn 10 U (fw (cells:=fR.cells ⟨w.path++[x.No],x.Party⟩ ⟨nb,nc⟩) (places:=[(0,1),(1,1)]) Tryz.underlying148 zc148 kr kr ⟨⟨HF.le_refl _,fun p hp=>List.mem_append_right NG (List.mem_cons_of_mem _ (hKs p hp))⟩,?_⟩)
          refine tn 11 U (yK Rp.ce [] NG ((b6,.cells [Value.int .i64 x.No].toArray 3 (0,0))::[(b23,.cells (Interest.cells x).toArray 61 (0,0)),(b19,.cells (fR.cells w wr).toArray 148 (0,0)),(bc,.chan l.length vs2.toArray false s2 (r+1) false),(bm,om2)]++markB [dm]) U hM hNG (fun h11 l11 slN=>?_))
          refine zr (vs:=[.agg (fR.cells ⟨w.path++[x.No],x.Party⟩ ⟨nb,nc⟩).toArray]) [(bm,om2),(bc,.chan l.length vs2.toArray false s2 (r+1) false)] ([(b6,.cells [Value.int .i64 x.No].toArray 3 (0,0)),(b23,.cells (Interest.cells x).toArray 61 (0,0)),(b19,.cells (fR.cells w wr).toArray 148 (0,0))]++markB [dm]) ?_
           (j7 h11 ⟨w.path++[x.No],x.Party⟩ ⟨nb,nc⟩ ⟨b15,0,none⟩ ⟨b16,0,none⟩ bm bc om2 m2 l.length s2 (r+1) vs2 q2 ⟨slN⟩ (a15.mono (h910.t l11)) (a16.mono (h910.t l11)) (hm2.mono ia.mono l11) (hw2.mono l11) (fun hno=>by rw [hw2.len];exact rx hg2 hm2.nodup hpty hstl hno)) rfl rfl (fun B hB=>?_)
          ·exact rD [(b6,.cells [Value.int .i64 x.No].toArray 3 (0,0)),(b23,.cells (Interest.cells x).toArray 61 (0,0)),(b19,.cells (fR.cells w wr).toArray 148 (0,0))] (markB [dm]) (bc,.chan l.length vs2.toArray false s2 (r+1) false) (bm,om2)
          obtain ⟨om3,vs3,s3,hm3,hw3,rfl⟩:=hB
          refine ⟨⟨l11,fun p hp=>by rcases hp with _ | ⟨_,_ | ⟨_,h⟩⟩;simp;simp;cases h⟩,uV (K2:=[(b23,.cells (Interest.cells x).toArray 61 (0,0)),(b19,.cells (fR.cells w wr).toArray 148 (0,0))]) l11 (fun _ hp=>hp) ?_⟩
          refine bY kr ?_
          refine nk (rD [(b6,.cells [Value.int .i64 x.No].toArray 3 (0,0)),(b23,.cells (Interest.cells x).toArray 61 (0,0)),(b19,.cells (fR.cells w wr).toArray 148 (0,0))] (markB [dm]) (bc,.chan l.length vs3.toArray false s3 (r+1) false) (bm,om3)).symm ?_
          refine cE (L':=[(b19,.cells (fR.cells w wr).toArray 148 (0,0)),(bc,.chan l.length vs3.toArray false s3 (r+1) false),(bm,om3)]++markB [dm]) js ?_
          exact fin (vs3,s3,om3,h11) _ ⟨l11,hw3,hm3⟩ rd
         ·refine ck (cells:=[I x.No]) eL ty3 zc3 U U kr (fun b6=>⟨⟨HF.le_refl _,fun p hp=>List.mem_cons_of_mem _ (hKs p hp)⟩,?_⟩)
          refine tn 3 U (fu (v:=.slice wr.qU w.path.length w.path.length) Tryz.call88 (nF h10 wr.qU w.path.length wr.sJ hpl8) U ⟨⟨HF.le_refl _,fun p hp=>List.mem_cons_of_mem _ (hKs p hp)⟩,?_⟩)
          refine tn 7 U (yL (R:=Rp.int) (xs:=w.path) (ys:=[x.No]) eL ty3 zc3 U bytes3 (wh hokp.1) U U (eZ 0 U (show bV Rp.int h10 [I x.No] [x.No] from ⟨[I x.No],[],U,U,U,U⟩)) (by simp) lo lo (fun nb nc NG hNG=>⟨⟨HF.le_refl _,fun p hp=>List.mem_append_right NG (List.mem_cons_of_mem _ (hKs p hp))⟩,?_⟩))
          refine tn 10 U (fw (cells:=fR.cells ⟨w.path++[x.No],x.Party⟩ ⟨nb,nc⟩) (places:=[(0,1),(1,1)]) Tryz.underlying148 zc148 kr kr ⟨⟨HF.le_refl _,fun p hp=>List.mem_append_right NG (List.mem_cons_of_mem _ (hKs p hp))⟩,?_⟩)
          refine tn 11 U (yK Rp.ce [] NG ((b6,.cells [Value.int .i64 x.No].toArray 3 (0,0))::[(b23,.cells (Interest.cells x).toArray 61 (0,0)),(b19,.cells (fR.cells w wr).toArray 148 (0,0)),(bc,.chan l.length vs2.toArray false s2 (r+1) false),(bm,om2)]++markB [dm]) U hM hNG (fun h11 l11 slN=>?_))
          refine zr (vs:=[.agg (fR.cells ⟨w.path++[x.No],x.Party⟩ ⟨nb,nc⟩).toArray]) [(bm,om2),(bc,.chan l.length vs2.toArray false s2 (r+1) false)] ([(b6,.cells [Value.int .i64 x.No].toArray 3 (0,0)),(b23,.cells (Interest.cells x).toArray 61 (0,0)),(b19,.cells (fR.cells w wr).toArray 148 (0,0))]++markB [dm]) ?_
           (j7 h11 ⟨w.path++[x.No],x.Party⟩ ⟨nb,nc⟩ ⟨b15,0,none⟩ ⟨b16,0,none⟩ bm bc om2 m2 l.length s2 (r+1) vs2 q2 ⟨slN⟩ (a15.mono (h910.t l11)) (a16.mono (h910.t l11)) (hm2.mono ia.mono l11) (hw2.mono l11) (fun hno=>by rw [hw2.len];exact rx hg2 hm2.nodup hpty hstl hno)) rfl rfl (fun B hB=>?_)
          ·exact rD [(b6,.cells [Value.int .i64 x.No].toArray 3 (0,0)),(b23,.cells (Interest.cells x).toArray 61 (0,0)),(b19,.cells (fR.cells w wr).toArray 148 (0,0))] (markB [dm]) (bc,.chan l.length vs2.toArray false s2 (r+1) false) (bm,om2)
          obtain ⟨om3,vs3,s3,hm3,hw3,rfl⟩:=hB
          refine ⟨⟨l11,fun p hp=>by rcases hp with _ | ⟨_,_ | ⟨_,h⟩⟩;simp;simp;cases h⟩,uV (K2:=[(b23,.cells (Interest.cells x).toArray 61 (0,0)),(b19,.cells (fR.cells w wr).toArray 148 (0,0))]) l11 (fun _ hp=>hp) ?_⟩
          refine bY kr ?_
          refine nk (rD [(b6,.cells [Value.int .i64 x.No].toArray 3 (0,0)),(b23,.cells (Interest.cells x).toArray 61 (0,0)),(b19,.cells (fR.cells w wr).toArray 148 (0,0))] (markB [dm]) (bc,.chan l.length vs3.toArray false s3 (r+1) false) (bm,om3)).symm ?_
          refine cE (L':=[(b19,.cells (fR.cells w wr).toArray 148 (0,0)),(bc,.chan l.length vs3.toArray false s3 (r+1) false),(bm,om3)]++markB [dm]) js ?_
          exact fin (vs3,s3,om3,h11) _ ⟨l11,hw3,hm3⟩ rd
end Go.Sg
