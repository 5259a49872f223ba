import Derived.Shelf.SlSortCmp.WholeK
import Derived.Ground.SlsfProg
import Derived.Shelf.Small.Bits
import Derived.Shelf.Small.Strs
import Derived.Shelf.Strconv.Itoa0
import Derived.Shelf.Strings.Search1
import Derived.Shelf.Sort.Plain
import Derived.Ground.Names2Prog
import Derived.Shelf.Slices.Clone
import Derived.Shelf.Slices.SearchI
import Derived.Shelf.Slices.In.SortNone
import Derived.Shelf.Slices.Empties
import Derived.Ground.SlgcProg
import Derived.Shelf.SlicesG.Cmp
import Derived.Sort.OwnSortedInts
import Derived.Test.YtngiefchigcphaaGreatDoorW5
/- A part of the proof of AsofSmallest. -/
set_option linter.unusedVariables false
set_option linter.unusedSimpArgs false
set_option maxRecDepth 100000
namespace Go.Sg
open Go.Proofs
set_option maxHeartbeats 2000000
theorem vL (h:HF) (p:Policy) (fe:eE) (hp:Policy.ok h p fe) (hsm:smP p) (hk:Kinds h):Gr Tryz.prog 217 [.agg (Policy.cells p fe).toArray] h (exW stopV (fun r:Unit=>(.tuple #[]:Value)) (br p)):=by
 refine ae zZ U Tryz.ntmps217 U fun X hM hX=>?_
 have hs0:br p=br p:=rfl
 have hsr:=hsm.rules
 refine sr (dt (fun b1=>qO 3 U (aj kZ U (aI 0 ty62 U U U (a8 kB U (qO 2 U ?_))))))
 refine ar 8 [12,13,14,15,16,17,18,19,20] 20 (.bool (decide (0 < ((p.Kinds.length:Nat):Int))&&(((p.Rules.length:Nat):Int)==((p.Kinds.length:Nat):Int)))) (fun hk1=>?_) (fun e=>?_)
 ·refine ac 12 U (fun c1=>?_) (fun c1=>?_)
  ·refine aj fj U (aI 0 ty63 U U U (a8 jR U (aj kZ U (aI 0 ty62 U U U (a8 kB U (qO 2 U ?_))))))
   exact hk1 _ (cb (cB c1))
  ·refine qO 8 U ?_
   exact hk1 _ (cb (cC c1))
 refine aB ?_
 refine ar 4 [21,22,23,24,25] 25 (.bool ((decide (0 < ((p.Kinds.length:Nat):Int))&&(((p.Rules.length:Nat):Int)==((p.Kinds.length:Nat):Int)))&&(aL p.Mode 1 4))) (fun hk2=>?_) (fun e=>?_)
 ·refine ac 21 U (fun c2=>?_) (fun c2=>?_)
  ·refine aj qX U (aI 0 ty3 U U U (au (v:=.bool (aL p.Mode 1 4)) uD (fR h p.Mode 1 4 ) U (eH U ?_)))
   exact hk2 _ (cb (cB c2))
  ·refine qO 4 U ?_
   exact hk2 _ (cb (cC c2))
 refine aN (kU tB (gh h ((decide (0 < ((p.Kinds.length:Nat):Int))&&(((p.Rules.length:Nat):Int)==((p.Kinds.length:Nat):Int)))&&(aL p.Mode 1 4)) 200 ) U (fun u1 hu1=>?_) (fun pv1 hpv1 e=>?_))
 ·obtain ⟨rx1,hrx1,rfl⟩:=mL hu1
  have hs1:=hs0.trans (mK hrx1)
  cases rx1
  refine qO 4 U (aj fj U (aI 0 ty63 U U U (a8 jR U (qO 2 U ?_))))
  let z2:Nat×Obj:=(b1,O (Policy.cells p fe) 68)
  refine aU (ι:=Nat) (fun i=>[(1,Q b1)]) (fun i=>h) (fun i=>[z2]) (fun i=>i≤p.Rules.length∧br p=((br.K1 p))) ?_ (fun hx1=>?_)
  ·rintro i1 ⟨aP,hs2⟩ e
   try dsimp only at aP
   refine sr (dl 0 ty68 U U U (aN (cy Tryz.call243 (kl h p fe hp ob) U (fun v1 h1 hle1 hp1=>?_))))
   obtain ⟨rb1,rc1,rfl,sl1⟩:=hp1
   refine bR zc64 (fun b3=>dS 0 ty64 U U U U U U (qO 3 U (aI 0 ty64 U U U (a8 ga U (qO 2 U ?_)))))
   refine gp ?_
   let z1:Nat×Obj:=(b3,O [.slice rb1 ((ay p).length) rc1] 64)
   refine dZ (L':=[z1,z2]++(markB [])) ap ?_
   refine qt (ι:=Nat×List Nat×HF) (fun i=>[]) (fun i=>marks i.2.1) (fun i=>i.2.2) (fun i=>[z1,z2]++(markB i.2.1)) (fun i=>i.1≤(ay p).length∧br p=((br.K2))∧HF.le h1 i.2.2) ?_ (fun hx2=>?_)
   ·rintro ⟨i2,rs2,hh2⟩ ⟨jq,hs3,hl2⟩ e
    try dsimp only at jq hl2
    have hs4:br p=(Except.ok ()):=hs3
    refine dZ (L':=([z1,z2])++markB rs2) ap ?_
    exact uI rs2 [] zZ U hX trivial (congrArg (exW stopV (fun r:Unit=>(.tuple #[]:Value))) hs4)
   ·refine uH (ι:=Nat×List Nat×HF×List Expr) (fun i=>[(4,Q b3),(52,.slice rb1 ((ay p).length) rc1),(53,I (((ay p).length:Nat):Int)),(54,I ((i.1:Nat):Int))]) (fun i=>marks i.2.1) (fun i=>i.2.2.1) (fun i=>[z1,z2]++(markB i.2.1)) (fun i=>(ay p).drop i.1=i.2.2.2∧i.1≤(ay p).length∧br p=((br.L2 p (br.K2)) i.2.2.2 i.1)∧HF.le h1 i.2.2.1) (fun i=>i.2.2.2.length) (0,[],h1,(ay p)) U rd sw ⟨U,Nat.zero_le _,hs2,(HF.le_refl h1)⟩ ?_
    rintro ⟨i2,rs2,hh2,s2⟩ ⟨hd2,jq,hs5,hl2⟩ ag1 e
    try dsimp only at hd2 jq hl2
    rcases s2 with _ | ⟨y2,rz2⟩
    ·have sD:=cw hd2
     refine sr (ai (v':=.bool false) U (cb sD) (qO 4 U ?_))
     exact hx2 (i2,rs2,hh2) _ ⟨jq,hs5,hl2⟩ trivial
    ·have pW:=dy hd2
     have jL:=cA hd2
     have wH:=aE hd2
     have Df:=sl1.1.1
     try have hsy:=vq hsm (gx hd2)
     refine sr (ai (v':=.bool true) U (cb pW) (qO 9 U (aN (fF ga ty66 (sl1.mono Expr.aD hl2).1 (nthZ jL) (aV jL) U U U (fun q4 cs3 A5 ln3 rr3=>?_)))))
     obtain ⟨r3,rfl,ok3⟩:=rr3
     refine el ty66 A5 U U (bR zc3 (fun b7=>bR zc66 (fun b8=>dS 1 ty3 U U U U U U (bL 0 ty66 U U U U U U (qO 3 U (dl 0 ty66 U U U (aN (cy Fc (kV hh2 y2 r3 1 ok3 ob) U (fun v3 h3 hle3 hp3=>?_)))))))))
     obtain ⟨_,rfl,mo2⟩:=hp3
     refine qO 2 U ?_
     let z3:Nat×Obj:=(b7,O [I ((i2:Nat):Int)] 3)
     let z5:Nat×Obj:=(b8,O (Expr.cells y2 r3) 66)
     refine dZ (L':=([z5,z3,z1,z2])++markB rs2) ap ?_
     refine kd (it:=v3) (xs:=(bS y2 1)) (ι:=HF) rs2 (fun i=>i) (fun i=>[z5,z3,z1,z2]) (fun s i=>br p=((br.L4 p i2 ((br.L2 p (br.K2) rz2 ((i2+1))))) s )∧HF.le h3 i) (fun _=>False) (fun _=>False) 0 (fun ch _ _=>∃ pv_,ch=[{ v:=stopV pv_,recovered:=false }]∧br p=.error pv_) h3 zZ U mo2 U lN (fun _ _ _ _ _ hq=>hq) U (show [z5,z3,z1,z2]=_ from U) ⟨hs5,(HF.le_refl h3)⟩ ?_ ?_ ?_ ?_ ?_
     ·rintro l4 dm4 lp4 y4 rz4 vs4 hh4 hr4 X hFR4 ⟨hs7,hl4⟩ hl04 hlr4 hv4 hX hXM hlp4 nx4 rt4 ex4 pn4
      try dsimp only at hl4 hlr4
      obtain ⟨rr4_0,rfl,ok4_0⟩:=hv4
      let z6:Nat×Obj:=(dm4,.deferred (some []))
      refine dZ (L':=[(l4,.loop lp4),z6,z5,z3,z1,z2]++(markB rs2)) ap (bU (bR zc258 (fun b10=>bL 0 ty258 U U U U U U (bh (ke 1 U hlp4 (qT 2 U ?_))))))
      let z4:Nat×Obj:=(l4,.loop { lp4 with state:=.busy })
      let z8:Nat×Obj:=(b10,O (fI.cells y4 rr4_0) 258)
      refine fd ([z8,z4,z6,z5,z3,z1,z2]) mixed kr jn (fun dU _=>?_)
      refine tf 0 U U (fun _ _ _=>dx lu U) (tf 1 U U (fun _ _ _=>dx k9 U) ?_)
      refine tf 2 U U (fun _ _ hj=>gH ty3 U (hj.nth (i:=0) U) U) (tn 3 U ?_)
      refine fB (v:=.bool (aL y4.x.Kind 1 4)) uD (fR hr4 y4.x.Kind 1 4 ) U (⟨jn,(tm 4 U ?_)⟩)
      refine dM 66 U (fun c3=>?_) (fun c3=>?_)
      ·refine tf 5 U U (fun _ _ _=>dx lu U) (tf 6 U U (fun _ _ _=>dx k9 U) ?_)
       refine tf 7 U U (fun _ _ hj=>gH ty3 U (hj.nth (i:=0) U) U) ?_
       have ho4:0≤(y4.x.Kind:Int)∧(y4.x.Kind:Int) < 5:=(by have:=FY ob;omega)
       have A7:=(hk.mono ((((hle1.t hl2).t hle3).t hl4).t hlr4)).at ho4
       refine tf 8 U U (fun _ _ _=>Hr Tryz.underlying284 ty165 U U ho4) (tf 9 U U (fun _ _ hj=>fK ty165 (A7.mono hj.1) U) ?_)
       refine tf 10 U U (fun _ _ _=>dx lu U) (tf 11 U U (fun _ _ hj=>jT ty66 U (hj.nth (i:=0) U) U) ?_)
       refine tn 12 U (nO (v:=.bool (kindsP y4.x.Kind y4.x)) [] (List.nil_sublist _) (EL hr4 y4.x.Kind ho4 y4.x rr4_0.x ok4_0.x) U U (⟨jn,?_⟩))
       refine tf 13 U U (fun _ _ _=>sS U (cb (show (kindsP y4.x.Kind y4.x)=((aL y4.x.Kind 1 4)&&(kindsP y4.x.Kind y4.x)) from by first | (rw [c3];rfl) | (rw [c3];rfl) | simp [c3]))) ?_
       refine tn 14 U (kU tB (gh hr4 ((aL y4.x.Kind 1 4)&&(kindsP y4.x.Kind y4.x)) 200 ) U (fun u2 hu2=>?_) (fun pv2 hpv2 e=>?_))
       ·obtain ⟨rx2,hrx2,rfl⟩:=mL hu2
        have hs8:=hs7.trans (mK hrx2)
        cases rx2
        refine ⟨jn,?_⟩
        refine bv kr (bU (aI 4 ty3 U U U (aI 5 ty64 U U U (a8 ga U (qO 3 U ?_)))))
        refine ar 5 [82,83,84,85,86,87] 87 (.bool (decide (((i2:Nat):Int) < (IntKind.wrap .i64 ((((ay p).length:Nat):Int) - 1)))||(y4.x.Kind != 4))) (fun hk3=>?_) (fun e=>?_)
        ·refine ac 82 U (fun c4=>?_) (fun c4=>?_)
         ·refine qO 5 U ?_
          exact hk3 _ (cb (dW c4))
         ·refine aj lu U (aj k9 U (aI 0 ty3 U U U (qO 2 U ?_)))
          exact hk3 _ (cb (dX c4))
        refine aN (kU tB (gh hr4 (decide (((i2:Nat):Int) < (IntKind.wrap .i64 ((((ay p).length:Nat):Int) - 1)))||(y4.x.Kind != 4)) 200 ) U (fun u3 hu3=>?_) (fun pv3 hpv3 e=>?_))
        ·obtain ⟨rx3,hrx3,rfl⟩:=mL hu3
         have hs9:=hs8.trans (mK hrx3)
         cases rx3
         refine qO 2 U ?_
         refine cG (L':=[z4,z6,z5,z3,z1,z2]++(markB rs2)) js ?_
         refine dZ (L':=rdH l4 dm4 lp4 (([z5,z3,z1,z2])++markB rs2)) ap ?_
         exact nx4 hr4 _ _ ⟨hs9,(hl4.t hlr4)⟩ (HF.le_refl _)
        ·obtain ⟨pv3e,hpv3e,rfl⟩:=ld hpv3
         have hs10:=hs8.trans (lb hpv3e)
         refine tU (L':=[z4,z6]++(markB rs2)) js ?_
         exact pn4 _ _ _ [] ⟨_,U,hs10⟩
       ·obtain ⟨pv2e,hpv2e,rfl⟩:=ld hpv2
        have hs11:=hs7.trans (lb hpv2e)
        refine tU (L':=[z4,z6]++(markB rs2)) js ?_
        exact pn4 _ _ _ [] ⟨_,U,hs11⟩
      ·refine qR 5 8 U ?_
       refine tf 13 U U (fun _ _ _=>sS U (cb (show false=((aL y4.x.Kind 1 4)&&(kindsP y4.x.Kind y4.x)) from by first | (rw [c3];rfl) | (rw [c3];rfl) | simp [c3]))) ?_
       refine tn 14 U (kU tB (gh hr4 ((aL y4.x.Kind 1 4)&&(kindsP y4.x.Kind y4.x)) 200 ) U (fun u4 hu4=>?_) (fun pv4 hpv4 e=>?_))
       ·obtain ⟨rx4,hrx4,rfl⟩:=mL hu4
        have hs12:=hs7.trans (mK hrx4)
        cases rx4
        refine ⟨jn,?_⟩
        refine bv kr (bU (aI 4 ty3 U U U (aI 5 ty64 U U U (a8 ga U (qO 3 U ?_)))))
        refine ar 5 [82,83,84,85,86,87] 87 (.bool (decide (((i2:Nat):Int) < (IntKind.wrap .i64 ((((ay p).length:Nat):Int) - 1)))||(y4.x.Kind != 4))) (fun hk4=>?_) (fun e=>?_)
        ·refine ac 82 U (fun c5=>?_) (fun c5=>?_)
         ·refine qO 5 U ?_
          exact hk4 _ (cb (dW c5))
         ·refine aj lu U (aj k9 U (aI 0 ty3 U U U (qO 2 U ?_)))
          exact hk4 _ (cb (dX c5))
        refine aN (kU tB (gh hr4 (decide (((i2:Nat):Int) < (IntKind.wrap .i64 ((((ay p).length:Nat):Int) - 1)))||(y4.x.Kind != 4)) 200 ) U (fun u5 hu5=>?_) (fun pv5 hpv5 e=>?_))
        ·obtain ⟨rx5,hrx5,rfl⟩:=mL hu5
         have hs13:=hs12.trans (mK hrx5)
         cases rx5
         refine qO 2 U ?_
         refine cG (L':=[z4,z6,z5,z3,z1,z2]++(markB rs2)) js ?_
         refine dZ (L':=rdH l4 dm4 lp4 (([z5,z3,z1,z2])++markB rs2)) ap ?_
         exact nx4 hr4 _ _ ⟨hs13,(hl4.t hlr4)⟩ (HF.le_refl _)
        ·obtain ⟨pv5e,hpv5e,rfl⟩:=ld hpv5
         have hs14:=hs12.trans (lb hpv5e)
         refine tU (L':=[z4,z6]++(markB rs2)) js ?_
         exact pn4 _ _ _ [] ⟨_,U,hs14⟩
       ·obtain ⟨pv4e,hpv4e,rfl⟩:=ld hpv4
        have hs15:=hs7.trans (lb hpv4e)
        refine tU (L':=[z4,z6]++(markB rs2)) js ?_
        exact pn4 _ _ _ [] ⟨_,U,hs15⟩
     ·rintro dm4 hh4 hn4 ⟨hs16,hl4⟩ hln4 hl04
      try dsimp only at hl4 hln4
      refine dZ (L':=[z5,z3,z1,z2]++(markB (dm4::rs2))) ap (qT 3 U (ai (v':=I (((i2+1):Nat):Int)) U (bz ob) (qO 2 U ?_)))
      refine cG (L':=[z1,z2]++(markB (dm4::rs2))) js ?_
      exact ag1 ((i2+1),(dm4::rs2),hn4,rz2) _ (Nat.lt_succ_self _) ⟨ba hd2,aE hd2,hs16,(((hl2.t hle3).t hl4).t hln4)⟩ rd
     ·exact fun _ _ _ hF=>hF.elim
     ·exact fun _ _ _ hF=>hF.elim
     ·rintro dm4 ch hn4 L0 ⟨pv_,rfl,hpv_⟩ hl04
      exact lR (dm4::rs2) zZ hX (congrArg (exW stopV (fun r:Unit=>(.tuple #[]:Value))) hpv_)
  ·refine bG (ι:=Nat×List Rule) (fun i=>[(1,Q b1),(28,.slice fe.kc p.Rules.length fe.kb),(29,I ((p.Rules.length:Nat):Int)),(30,I ((i.1:Nat):Int))]) (fun i=>h) (fun i=>[z2]) (fun i=>p.Rules.drop i.1=i.2∧i.1≤p.Rules.length∧br p=((br.L1 p (br.K1 p)) i.2 i.1)) (fun i=>i.2.length) (0,p.Rules) rd sw ⟨U,Nat.zero_le _,hs1⟩ ?_
   rintro ⟨i1,s1⟩ ⟨hd1,aP,hs17⟩ ag2 e
   try dsimp only at hd1 aP
   rcases s1 with _ | ⟨y1,rz1⟩
   ·have dr:=cw hd1
    refine sr (ai (v':=.bool false) U (cb dr) (qO 4 U ?_))
    exact hx1 i1 _ ⟨aP,hs17⟩ rd
   ·have dq:=dy hd1
    have aM:=cA hd1
    have ey:=aE hd1
    have gi:=hp.Rules.1.1
    try have hsy:=vq hsm (gx hd1)
    refine sr (ai (v':=.bool true) U (cb dq) (qO 9 U (aN (fF jR ty107 hp.Rules.1 (nthZ aM) (aV aM) U U U (fun q5 cs4 A8 ln4 rr4=>?_)))))
    obtain ⟨r4,rfl,ok4⟩:=rr4
    refine el ty107 A8 U U (bR zc107 (fun b11=>fx (bL 0 ty107 U U U U U U (bh ?_))))
    let z7:Nat×Obj:=(b11,O (Rule.cells y1 r4) 107)
    refine fd ([z7,z2]) mixed kr jn (fun sC _=>?_)
    refine tf 0 U U (fun _ _ _=>dx vp U) (tf 1 U U (fun _ _ hj=>gH ty9 U (hj.nth (i:=0) U) U) (tf 2 U U (fun _ _ _=>dx kZ U) ?_))
    refine tf 3 U U (fun _ _ hj=>gH ty62 U (hj.nth (i:=1) U) U) (tm 4 U ?_)
    have ho5:0≤(((i1:Nat):Int):Int)∧(((i1:Nat):Int):Int) < ((p.Kinds).length:Int):=(by have hm:=Ge hrx1;simp only [decide_eq_true_eq,decide_eq_false_iff_not,Bool.and_eq_true,Bool.or_eq_true,Bool.not_eq_true',Bool.not_eq_false',Bool.and_eq_false_iff,Bool.or_eq_false_iff,beq_iff_eq,beq_eq_false_iff_ne,bne_iff_ne,bne_eq_false_iff_eq,List.length_append,List.length_cons,List.length_nil,List.length_drop] at hm;omega)
    refine eJ 5 (enc:=fun y=>[.string y]) sC jn (fun _ _ _ e=>e) kB ty9 hp.Kinds.1 ho5 (df ho5) U U U U kr (fun q6 A9=>tf 6 U U (fun _ _ hj=>fK ty9 (A9.mono hj.1) U) (qA [7,8] U ?_))
    refine dM 43 U (fun c6=>?_) (fun c6=>?_)
    ·refine tf 9 U U (fun _ _ _=>dx oL U) (tf 10 U U (fun _ _ hj=>gH ty3 U (hj.nth (i:=0) U) U) (tn 11 U ?_))
     refine fB (v:=.bool (aL y1.Think 0 1099511627775)) uD (fR h y1.Think 0 1099511627775 ) U (⟨jn,?_⟩)
     refine tf 12 U U (fun _ _ _=>sS U (cb (show (aL y1.Think 0 1099511627775)=((y1.Kind.toList==(nthI p.Kinds ((i1:Nat):Int)).toList)&&(aL y1.Think 0 1099511627775)) from by first | (rw [c6];rfl) | (rw [c6];rfl) | simp [c6]))) ?_
     refine tn 13 U (kU tB (gh h ((y1.Kind.toList==(nthI p.Kinds ((i1:Nat):Int)).toList)&&(aL y1.Think 0 1099511627775)) 200 ) U (fun u6 hu6=>?_) (fun pv6 hpv6 e=>?_))
     ·obtain ⟨rx6,hrx6,rfl⟩:=mL hu6
      have hs19:=hs17.trans (mK hrx6)
      cases rx6
      refine ⟨jn,(bv kr (qT 2 U (ai (v':=I (((i1+1):Nat):Int)) U (bz ob) (qO 2 U ?_))))⟩
      refine cG (L':=[z2]) js ?_
      exact ag2 ((i1+1),rz1) _ (Nat.lt_succ_self _) ⟨ba hd1,aE hd1,hs19⟩ rd
     ·obtain ⟨pv6e,hpv6e,rfl⟩:=ld hpv6
      have hs20:=hs17.trans (lb hpv6e)
      refine i6 ?_
      exact lR [] zZ hX (congrArg (exW stopV (fun r:Unit=>(.tuple #[]:Value))) hs20)
    ·refine qR 9 3 U (tf 12 U U (fun _ _ _=>sS U (cb (show false=((y1.Kind.toList==(nthI p.Kinds ((i1:Nat):Int)).toList)&&(aL y1.Think 0 1099511627775)) from by first | (rw [c6];rfl) | (rw [c6];rfl) | simp [c6]))) ?_)
     refine tn 13 U (kU tB (gh h ((y1.Kind.toList==(nthI p.Kinds ((i1:Nat):Int)).toList)&&(aL y1.Think 0 1099511627775)) 200 ) U (fun u7 hu7=>?_) (fun pv7 hpv7 e=>?_))
     ·obtain ⟨rx7,hrx7,rfl⟩:=mL hu7
      have hs21:=hs17.trans (mK hrx7)
      cases rx7
      refine ⟨jn,(bv kr (qT 2 U (ai (v':=I (((i1+1):Nat):Int)) U (bz ob) (qO 2 U ?_))))⟩
      refine cG (L':=[z2]) js ?_
      exact ag2 ((i1+1),rz1) _ (Nat.lt_succ_self _) ⟨ba hd1,aE hd1,hs21⟩ rd
     ·obtain ⟨pv7e,hpv7e,rfl⟩:=ld hpv7
      have hs22:=hs17.trans (lb hpv7e)
      refine i6 ?_
      exact lR [] zZ hX (congrArg (exW stopV (fun r:Unit=>(.tuple #[]:Value))) hs22)
 ·obtain ⟨pv1e,hpv1e,rfl⟩:=ld hpv1
  have hs23:=hs0.trans (lb hpv1e)
  refine i6 ?_
  exact lR [] zZ hX (congrArg (exW stopV (fun r:Unit=>(.tuple #[]:Value))) hs23)
theorem rv (h:HF) (p:Policy) (fe:eE) (p_q:Addr) (hp:Policy.ok h p fe) (ap:At h p_q (Policy.cells p fe)) (hsm:smP p) (hk:Kinds h):Gr Tryz.prog 214 [.pointer (some p_q)] h (exW stopV (fun r:Unit=>(.tuple #[]:Value)) (di p)):=by
 refine ae E9 U Tryz.ntmps214 U fun X hM hX=>?_
 have hs0:di p=di p:=rfl
 refine sr (el ty68 ap U U ?_)
 refine aN (kU Tryz.call215 (uR h p fe hp ob) U (fun u1 hu1=>?_) (fun pv1 hpv1 e=>?_))
 ·obtain ⟨rx1,hrx1,rfl⟩:=mL hu1
  have hs1:=hs0.trans (mK hrx1)
  cases rx1
  refine qO 3 U (el ty68 ap U U ?_)
  refine aN (kU Tryz.call216 (uS h p fe hp ob) U (fun u2 hu2=>?_) (fun pv2 hpv2 e=>?_))
  ·obtain ⟨rx2,hrx2,rfl⟩:=mL hu2
   have hs2:=hs1.trans (mK hrx2)
   cases rx2
   refine qO 2 U (el ty68 ap U U ?_)
   refine aN (kU Tryz.call217 (vL h p fe hp ob hk) U (fun u3 hu3=>?_) (fun pv3 hpv3 e=>?_))
   ·obtain ⟨rx3,hrx3,rfl⟩:=mL hu3
    have hs3:=hs2.trans (mK hrx3)
    cases rx3
    refine bh ?_
    have hs4:di p=(Except.ok ()):=hs3
    refine gp ?_
    exact uI [] [] E9 U hX trivial (congrArg (exW stopV (fun r:Unit=>(.tuple #[]:Value))) hs4)
   ·obtain ⟨pv3e,hpv3e,rfl⟩:=ld hpv3
    have hs5:=hs2.trans (lb hpv3e)
    refine i6 ?_
    exact lR [] E9 hX (congrArg (exW stopV (fun r:Unit=>(.tuple #[]:Value))) hs5)
  ·obtain ⟨pv2e,hpv2e,rfl⟩:=ld hpv2
   have hs6:=hs1.trans (lb hpv2e)
   refine i6 ?_
   exact lR [] E9 hX (congrArg (exW stopV (fun r:Unit=>(.tuple #[]:Value))) hs6)
 ·obtain ⟨pv1e,hpv1e,rfl⟩:=ld hpv1
  have hs7:=hs0.trans (lb hpv1e)
  refine i6 ?_
  exact lR [] E9 hX (congrArg (exW stopV (fun r:Unit=>(.tuple #[]:Value))) hs7)
theorem sg (rec:(List ByteArray)→Expr→Expr) (h:HF) (offices:(List ByteArray)) (cI:Option Addr) (cH:Nat) (x:Expr) (fb:cE) (hrec:∀ (h:HF) (qoffices:(List ByteArray)) (iE:Option Addr) (iD:Nat) (qx:Expr) (jp:cE) (hqoffices:SlC Rp.str h iE iD qoffices) (hqx:Expr.ok h qx jp) (hsz:qx.dep≤2000000) (_:qx.dep < x.dep),je Tryz.prog 218 [.slice iE qoffices.length iD,.agg (Expr.cells qx jp).toArray] h (fun v h'=>∃ (rr0:cE),v=.agg (Expr.cells (rec qoffices qx) rr0).toArray∧Expr.ok h' (rec qoffices qx) rr0)) (hoffices:SlC Rp.str h cI cH offices) (hx:Expr.ok h x fb) (hsz:x.dep≤2000000):je Tryz.prog 218 [.slice cI offices.length cH,.agg (Expr.cells x fb).toArray] h (fun v h'=>∃ (rr0:cE),v=.agg (Expr.cells (ad.F rec offices x) rr0).toArray∧Expr.ok h' (ad.F rec offices x) rr0):=by
 refine ae Tryz.func218 U Tryz.ntmps218 U fun X hM hX=>?_
 have hs0:ad.F rec offices x=ad.F rec offices x:=rfl
 have hln:=Expr.EK x
 refine sr (dt (fun b1=>bR zc66 (fun b2=>qO 3 U (aj na U (dS 1 ty3 U U U U U U (qO 4 U (dl 1 ty66 U U U (au (v:=.bool (cX (Expr.mk x.Kind x.N 0 x.Name x.L))) Tryz.call220 (lF h (Expr.mk x.Kind x.N 0 x.Name x.L) (cE.mk fb.ir fb.iG) (show Expr.ok h (Expr.mk x.Kind x.N 0 x.Name x.L) (cE.mk fb.ir fb.iG) from Expr.ok.of hx.list)) U (bh ?_)))))))))
 refine ak hs0 U (fun c1 hs1=>?_) (fun c1 hs2=>?_)
 ·refine qT 2 U (aj mI U (aI 1 ty9 U U U (au (v:=I (aK offices x.Name)) GJ (jt h offices cI cH x.Name hoffices) U (aj na U (dS 1 ty3 U U U U U U (qO 3 U (aj dC U (aI 1 ty64 U U U (qO 4 U (aj dC U (dS 1 ty64 U U U U U U (qO 5 U (a8 ga U (qO 2 U ?_))))))))))))))
  let z1:Nat×Obj:=(b2,O [I 0,I 0,I 0,.string (⟨#[]⟩:ByteArray),.slice none 0 0] 66)
  refine aU (ι:=Nat×(List Expr)×Option Addr×Nat×LH×HF) (fun i=>[(3,Q b1),(4,Q b2)]) (fun i=>i.2.2.2.2.2) (fun i=>[z1,(b1,O [I x.Kind,I x.N,I (aK offices x.Name),.string x.Name,.slice i.2.2.1 i.2.1.length i.2.2.2.1] 66)]++(i.2.2.2.2.1)) (fun i=>i.1≤x.L.length∧ad.F rec offices x=((ad.K1 offices x) i.2.1)∧eb Expr.rp 66 i.2.2.2.2.2 i.2.1 i.2.2.1 i.2.2.2.1 i.2.2.2.2.1∧i.2.1.length≤0+i.1∧HF.le h i.2.2.2.2.2) ?_ (fun hx1=>?_)
  ·rintro ⟨i1,jm,mE,mD,sH,hh1⟩ ⟨aP,hs3,nv,yW,hl1⟩ e
   try dsimp only at aP nv yW hl1
   let z3:Nat×Obj:=(b1,O [I x.Kind,I x.N,I (aK offices x.Name),.string x.Name,.slice mE jm.length mD] 66)
   let z15:Nat×Obj:=(b2,O [I x.Kind,I x.N,I (aK offices x.Name),.string x.Name,.slice mE jm.length mD] 66)
   refine sr (dl 1 ty66 U U U (bL 0 ty66 U U U U U U (iT (L':=[z15,z3]++(sH)) U (bh ?_))))
   refine eY Expr.aD ([z15,z3]) sH ([]) ap hM nv (fun h3 hle3 sl2=>?_)
   have hs4:ad.F rec offices x=(Expr.mk x.Kind x.N (aK offices x.Name) x.Name jm):=hs3
   exact cJ [.agg (List.toArray [I x.Kind,I x.N,I (aK offices x.Name),.string x.Name,.slice mE jm.length mD])] Tryz.func218 U ⟨⟨0,_,_,_,_,U,U,.inl ⟨ty66,U⟩⟩,trivial⟩ ⟨(cE.mk mE mD),congrArg (fun r:Expr=>(.agg (Expr.cells r (cE.mk mE mD)).toArray:Value)) hs4.symm,(by rw [hs4];exact (show Expr.ok h3 (Expr.mk x.Kind x.N (aK offices x.Name) x.Name jm) (cE.mk mE mD) from Expr.ok.of sl2))⟩
  ·refine bG (ι:=Nat×(List Expr)×Option Addr×Nat×LH×HF×List Expr) (fun i=>[(0,.slice cI offices.length cH),(3,Q b1),(4,Q b2),(19,.slice fb.ir x.L.length fb.iG),(20,I ((x.L.length:Nat):Int)),(21,I ((i.1:Nat):Int))]) (fun i=>i.2.2.2.2.2.1) (fun i=>[z1,(b1,O [I x.Kind,I x.N,I (aK offices x.Name),.string x.Name,.slice i.2.2.1 i.2.1.length i.2.2.2.1] 66)]++(i.2.2.2.2.1)) (fun i=>x.L.drop i.1=i.2.2.2.2.2.2∧i.1≤x.L.length∧ad.F rec offices x=((ad.L1 rec offices (ad.K1 offices x)) i.2.2.2.2.2.2 i.2.1)∧eb Expr.rp 66 i.2.2.2.2.2.1 i.2.1 i.2.2.1 i.2.2.2.1 i.2.2.2.2.1∧i.2.1.length≤0+i.1∧HF.le h i.2.2.2.2.2.1) (fun i=>i.2.2.2.2.2.2.length) (0,[],none,0,[],h,x.L) rd sw ⟨U,Nat.zero_le _,hs1,eb.nil,lo,(HF.le_refl h)⟩ ?_
   rintro ⟨i1,jm,mE,mD,sH,hh1,s1⟩ ⟨hd1,aP,hs5,nv,yW,hl1⟩ ag1 e
   try dsimp only at hd1 aP nv yW hl1
   rcases s1 with _ | ⟨y1,rz1⟩
   ·have dr:=cw hd1
    refine sr (ai (v':=.bool false) U (cb dr) (qO 4 U ?_))
    exact hx1 (i1,jm,mE,mD,sH,hh1) _ ⟨aP,hs5,nv,lo,hl1⟩ rd
   ·have dq:=dy hd1
    have aM:=cA hd1
    have ey:=aE hd1
    have gi:=hx.list.1.1
    have hdy:=Expr.hY (gx hd1)
    refine sr (ai (v':=.bool true) U (cb dq) (qO 8 U (aN (fF ga ty66 (hx.list.mono Expr.aD hl1).1 (nthZ aM) (aV aM) U U U (fun q2 cs2 A2 ln2 rr3=>?_)))))
    obtain ⟨r2,rfl,ok3⟩:=rr3
    let z4:Nat×Obj:=(b1,O [I x.Kind,I x.N,I (aK offices x.Name),.string x.Name,.slice mE jm.length mD] 66)
    refine el ty66 A2 U U (bR zc66 (fun b5=>bL 0 ty66 U U U U U U (iT (L':=[(b5,O (Expr.cells y1 r2) 66),z1,z4]++(sH)) U (bh ?_))))
    let z8:Nat×Obj:=(b5,O (Expr.cells y1 r2) 66)
    refine fd ([z8,z1]) mixed kr jn (fun dU _=>?_)
    refine tf 0 U U (fun _ _ _=>dx dC U) (tm 2 U ?_)
    refine tf 3 U U (fun _ _ hj=>jT ty66 U (hj.nth (i:=0) U) U) ?_
    refine kh 1 4 kr U U ?_ ?_ 
    ·refine gI (gH ty64 U (lT (i:=2) U) U) (⟨jn,?_⟩)
     refine tn 4 U (cy Cc (hrec hh1 offices cI cH y1 r2 (hoffices.mono Rp.gq hl1) ok3 ob (Expr.hY (gx hd1))) U (fun v2 h4 hle4 hp2=>?_))
     obtain ⟨rr4,rfl,ok4⟩:=hp2
     refine ⟨jl hle4,tu hle4 ?_⟩
     refine tn 5 U (bK (cells:=[I ((rec offices y1).Kind),I ((rec offices y1).N),I ((rec offices y1).No),.string ((rec offices y1).Name),.slice rr4.ir ((rec offices y1).L.length) rr4.iG]) ga ty66 zc66 U U kr (fun b6=>?_))
     refine ⟨jn,?_⟩
     let z12:Nat×Obj:=(b6,O [I ((rec offices y1).Kind),I ((rec offices y1).N),I ((rec offices y1).No),.string ((rec offices y1).Name),.slice rr4.ir ((rec offices y1).L.length) rr4.iG] 66)
     refine tn 6 U (db Expr.eT ([z12,z8,z1,z4]) ([]) (fun G=>[z12,z8,z1,z4]++(G)) ap (fun _=>ap) ga ty66 zc66 U bytes66 (nv.mono Expr.aD hle4) U U (eI 0 U (show bD Expr.rp h4 [I ((rec offices y1).Kind),I ((rec offices y1).N),I ((rec offices y1).No),.string ((rec offices y1).Name),.slice rr4.ir ((rec offices y1).L.length) rr4.iG] ([(rec offices y1)]) from ⟨[I ((rec offices y1).Kind),I ((rec offices y1).N),I ((rec offices y1).No),.string ((rec offices y1).Name),.slice rr4.ir ((rec offices y1).L.length) rr4.iG],[],U,U,⟨rr4,U,ok4⟩,U⟩)) lo lo (fun ob2 oc2 G2 gr2=>?_))
     refine ⟨jn,?_⟩
     refine tf 7 U U (fun _ _ _=>dx dC U) (tn 8 U (j6 3 ty64 U U U U U U (⟨jn,?_⟩)))
     refine bv kr (qT 2 U (ai (v':=I (((i1+1):Nat):Int)) U (bz ob) (qO 2 U ?_)))
     refine cG (L':=[z1,(b1,O [I x.Kind,I x.N,I (aK offices x.Name),.string x.Name,.slice ob2 ((jm++[(rec offices y1)]).length) oc2] 66)]++(G2)) js ?_
     exact ag1 ((i1+1),(jm++[(rec offices y1)]),ob2,oc2,G2,h4,rz1) _ (Nat.lt_succ_self _) ⟨ba hd1,aE hd1,hs5,gr2,lo,(hl1.t hle4)⟩ rd
    ·refine cy Cc (hrec hh1 offices cI cH y1 r2 (hoffices.mono Rp.gq hl1) ok3 ob (Expr.hY (gx hd1))) U (fun v3 h5 hle5 hp3=>?_)
     obtain ⟨rr5,rfl,ok5⟩:=hp3
     refine ⟨jl hle5,tu hle5 ?_⟩
     refine kh 1 5 kr U U ?_ ?_ 
     ·refine gI (gH ty64 U (lT (i:=2) U) U) (⟨jn,?_⟩)
      refine tn 5 U (bK (cells:=[I ((rec offices y1).Kind),I ((rec offices y1).N),I ((rec offices y1).No),.string ((rec offices y1).Name),.slice rr5.ir ((rec offices y1).L.length) rr5.iG]) ga ty66 zc66 U U kr (fun b7=>?_))
      refine ⟨jn,?_⟩
      let z13:Nat×Obj:=(b7,O [I ((rec offices y1).Kind),I ((rec offices y1).N),I ((rec offices y1).No),.string ((rec offices y1).Name),.slice rr5.ir ((rec offices y1).L.length) rr5.iG] 66)
      refine tn 6 U (db Expr.eT ([z13,z8,z1,z4]) ([]) (fun G=>[z13,z8,z1,z4]++(G)) ap (fun _=>ap) ga ty66 zc66 U bytes66 (nv.mono Expr.aD hle5) U U (eI 0 U (show bD Expr.rp h5 [I ((rec offices y1).Kind),I ((rec offices y1).N),I ((rec offices y1).No),.string ((rec offices y1).Name),.slice rr5.ir ((rec offices y1).L.length) rr5.iG] ([(rec offices y1)]) from ⟨[I ((rec offices y1).Kind),I ((rec offices y1).N),I ((rec offices y1).No),.string ((rec offices y1).Name),.slice rr5.ir ((rec offices y1).L.length) rr5.iG],[],U,U,⟨rr5,U,ok5⟩,U⟩)) lo lo (fun ob3 oc3 G3 gr3=>?_))
      refine ⟨jn,?_⟩
      refine tf 7 U U (fun _ _ _=>dx dC U) (tn 8 U (j6 3 ty64 U U U U U U (⟨jn,?_⟩)))
      refine bv kr (qT 2 U (ai (v':=I (((i1+1):Nat):Int)) U (bz ob) (qO 2 U ?_)))
      refine cG (L':=[z1,(b1,O [I x.Kind,I x.N,I (aK offices x.Name),.string x.Name,.slice ob3 ((jm++[(rec offices y1)]).length) oc3] 66)]++(G3)) js ?_
      exact ag1 ((i1+1),(jm++[(rec offices y1)]),ob3,oc3,G3,h5,rz1) _ (Nat.lt_succ_self _) ⟨ba hd1,aE hd1,hs5,gr3,lo,(hl1.t hle5)⟩ rd
     ·refine bK (cells:=[I ((rec offices y1).Kind),I ((rec offices y1).N),I ((rec offices y1).No),.string ((rec offices y1).Name),.slice rr5.ir ((rec offices y1).L.length) rr5.iG]) ga ty66 zc66 U U kr (fun b8=>?_)
      refine ⟨jn,?_⟩
      refine tn 1 U (gI (gH ty64 U (lT (i:=3) U) U) (⟨jn,?_⟩))
      let z14:Nat×Obj:=(b8,O [I ((rec offices y1).Kind),I ((rec offices y1).N),I ((rec offices y1).No),.string ((rec offices y1).Name),.slice rr5.ir ((rec offices y1).L.length) rr5.iG] 66)
      refine tn 6 U (db Expr.eT ([z14,z8,z1,z4]) ([]) (fun G=>[z14,z8,z1,z4]++(G)) ap (fun _=>ap) ga ty66 zc66 U bytes66 (nv.mono Expr.aD hle5) U U (eI 0 U (show bD Expr.rp h5 [I ((rec offices y1).Kind),I ((rec offices y1).N),I ((rec offices y1).No),.string ((rec offices y1).Name),.slice rr5.ir ((rec offices y1).L.length) rr5.iG] ([(rec offices y1)]) from ⟨[I ((rec offices y1).Kind),I ((rec offices y1).N),I ((rec offices y1).No),.string ((rec offices y1).Name),.slice rr5.ir ((rec offices y1).L.length) rr5.iG],[],U,U,⟨rr5,U,ok5⟩,U⟩)) lo lo (fun ob4 oc4 G4 gr4=>?_))
      refine ⟨jn,?_⟩
      refine tf 7 U U (fun _ _ _=>dx dC U) (tn 8 U (j6 3 ty64 U U U U U U (⟨jn,?_⟩)))
      refine bv kr (qT 2 U (ai (v':=I (((i1+1):Nat):Int)) U (bz ob) (qO 2 U ?_)))
      refine cG (L':=[z1,(b1,O [I x.Kind,I x.N,I (aK offices x.Name),.string x.Name,.slice ob4 ((jm++[(rec offices y1)]).length) oc4] 66)]++(G4)) js ?_
      exact ag1 ((i1+1),(jm++[(rec offices y1)]),ob4,oc4,G4,h5,rz1) _ (Nat.lt_succ_self _) ⟨ba hd1,aE hd1,hs5,gr4,lo,(hl1.t hle5)⟩ rd
 ·refine qT 3 U (aj dC U (aI 1 ty64 U U U (qO 4 U (aj dC U (dS 1 ty64 U U U U U U (qO 5 U (a8 ga U (qO 2 U ?_))))))))
  let z2:Nat×Obj:=(b2,O [I 0,I 0,I 0,.string (⟨#[]⟩:ByteArray),.slice none 0 0] 66)
  refine aU (ι:=Nat×(List Expr)×Option Addr×Nat×LH×HF) (fun i=>[(3,Q b1),(4,Q b2)]) (fun i=>i.2.2.2.2.2) (fun i=>[z2,(b1,O [I x.Kind,I x.N,I 0,.string x.Name,.slice i.2.2.1 i.2.1.length i.2.2.2.1] 66)]++(i.2.2.2.2.1)) (fun i=>i.1≤x.L.length∧ad.F rec offices x=((ad.K2 x) i.2.1)∧eb Expr.rp 66 i.2.2.2.2.2 i.2.1 i.2.2.1 i.2.2.2.1 i.2.2.2.2.1∧i.2.1.length≤0+i.1∧HF.le h i.2.2.2.2.2) ?_ (fun hx2=>?_)
  ·rintro ⟨i2,jk,mA,mz,sE,hh2⟩ ⟨jq,hs7,nr,yO,hl2⟩ e
   try dsimp only at jq nr yO hl2
   let z5:Nat×Obj:=(b1,O [I x.Kind,I x.N,I 0,.string x.Name,.slice mA jk.length mz] 66)
   let z16:Nat×Obj:=(b2,O [I x.Kind,I x.N,I 0,.string x.Name,.slice mA jk.length mz] 66)
   refine sr (dl 1 ty66 U U U (bL 0 ty66 U U U U U U (iT (L':=[z16,z5]++(sE)) U (bh ?_))))
   refine eY Expr.aD ([z16,z5]) sE ([]) ap hM nr (fun h8 hle8 sl4=>?_)
   have hs8:ad.F rec offices x=(Expr.mk x.Kind x.N 0 x.Name jk):=hs7
   exact cJ [.agg (List.toArray [I x.Kind,I x.N,I 0,.string x.Name,.slice mA jk.length mz])] Tryz.func218 U ⟨⟨0,_,_,_,_,U,U,.inl ⟨ty66,U⟩⟩,trivial⟩ ⟨(cE.mk mA mz),congrArg (fun r:Expr=>(.agg (Expr.cells r (cE.mk mA mz)).toArray:Value)) hs8.symm,(by rw [hs8];exact (show Expr.ok h8 (Expr.mk x.Kind x.N 0 x.Name jk) (cE.mk mA mz) from Expr.ok.of sl4))⟩
  ·refine bG (ι:=Nat×(List Expr)×Option Addr×Nat×LH×HF×List Expr) (fun i=>[(0,.slice cI offices.length cH),(3,Q b1),(4,Q b2),(19,.slice fb.ir x.L.length fb.iG),(20,I ((x.L.length:Nat):Int)),(21,I ((i.1:Nat):Int))]) (fun i=>i.2.2.2.2.2.1) (fun i=>[z2,(b1,O [I x.Kind,I x.N,I 0,.string x.Name,.slice i.2.2.1 i.2.1.length i.2.2.2.1] 66)]++(i.2.2.2.2.1)) (fun i=>x.L.drop i.1=i.2.2.2.2.2.2∧i.1≤x.L.length∧ad.F rec offices x=((ad.L2 rec offices (ad.K2 x)) i.2.2.2.2.2.2 i.2.1)∧eb Expr.rp 66 i.2.2.2.2.2.1 i.2.1 i.2.2.1 i.2.2.2.1 i.2.2.2.2.1∧i.2.1.length≤0+i.1∧HF.le h i.2.2.2.2.2.1) (fun i=>i.2.2.2.2.2.2.length) (0,[],none,0,[],h,x.L) rd sw ⟨U,Nat.zero_le _,hs2,eb.nil,lo,(HF.le_refl h)⟩ ?_
   rintro ⟨i2,jk,mA,mz,sE,hh2,s2⟩ ⟨hd2,jq,hs9,nr,yO,hl2⟩ ag2 e
   try dsimp only at hd2 jq nr yO hl2
   rcases s2 with _ | ⟨y2,rz2⟩
   ·have sD:=cw hd2
    refine sr (ai (v':=.bool false) U (cb sD) (qO 4 U ?_))
    exact hx2 (i2,jk,mA,mz,sE,hh2) _ ⟨jq,hs9,nr,lo,hl2⟩ rd
   ·have pW:=dy hd2
    have jL:=cA hd2
    have wH:=aE hd2
    have Df:=hx.list.1.1
    have hdy:=Expr.hY (gx hd2)
    refine sr (ai (v':=.bool true) U (cb pW) (qO 8 U (aN (fF ga ty66 (hx.list.mono Expr.aD hl2).1 (nthZ jL) (aV jL) U U U (fun q4 cs4 A4 ln4 rr8=>?_)))))
    obtain ⟨r4,rfl,ok8⟩:=rr8
    let z6:Nat×Obj:=(b1,O [I x.Kind,I x.N,I 0,.string x.Name,.slice mA jk.length mz] 66)
    refine el ty66 A4 U U (bR zc66 (fun b11=>bL 0 ty66 U U U U U U (iT (L':=[(b11,O (Expr.cells y2 r4) 66),z2,z6]++(sE)) U (bh ?_))))
    let z7:Nat×Obj:=(b11,O (Expr.cells y2 r4) 66)
    refine fd ([z7,z2]) mixed kr jn (fun sC _=>?_)
    refine tf 0 U U (fun _ _ _=>dx dC U) (tm 2 U ?_)
    refine tf 3 U U (fun _ _ hj=>jT ty66 U (hj.nth (i:=0) U) U) ?_
    refine kh 1 4 kr U U ?_ ?_ 
    ·refine gI (gH ty64 U (lT (i:=2) U) U) (⟨jn,?_⟩)
     refine tn 4 U (cy Cc (hrec hh2 offices cI cH y2 r4 (hoffices.mono Rp.gq hl2) ok8 ob (Expr.hY (gx hd2))) U (fun v5 h9 hle9 hp5=>?_))
     obtain ⟨rr9,rfl,ok9⟩:=hp5
     refine ⟨jl hle9,tu hle9 ?_⟩
     refine tn 5 U (bK (cells:=[I ((rec offices y2).Kind),I ((rec offices y2).N),I ((rec offices y2).No),.string ((rec offices y2).Name),.slice rr9.ir ((rec offices y2).L.length) rr9.iG]) ga ty66 zc66 U U kr (fun b12=>?_))
     refine ⟨jn,?_⟩
     let z11:Nat×Obj:=(b12,O [I ((rec offices y2).Kind),I ((rec offices y2).N),I ((rec offices y2).No),.string ((rec offices y2).Name),.slice rr9.ir ((rec offices y2).L.length) rr9.iG] 66)
     refine tn 6 U (db Expr.eT ([z11,z7,z2,z6]) ([]) (fun G=>[z11,z7,z2,z6]++(G)) ap (fun _=>ap) ga ty66 zc66 U bytes66 (nr.mono Expr.aD hle9) U U (eI 0 U (show bD Expr.rp h9 [I ((rec offices y2).Kind),I ((rec offices y2).N),I ((rec offices y2).No),.string ((rec offices y2).Name),.slice rr9.ir ((rec offices y2).L.length) rr9.iG] ([(rec offices y2)]) from ⟨[I ((rec offices y2).Kind),I ((rec offices y2).N),I ((rec offices y2).No),.string ((rec offices y2).Name),.slice rr9.ir ((rec offices y2).L.length) rr9.iG],[],U,U,⟨rr9,U,ok9⟩,U⟩)) lo lo (fun ob6 oc6 G6 gr6=>?_))
     refine ⟨jn,?_⟩
     refine tf 7 U U (fun _ _ _=>dx dC U) (tn 8 U (j6 3 ty64 U U U U U U (⟨jn,?_⟩)))
     refine bv kr (qT 2 U (ai (v':=I (((i2+1):Nat):Int)) U (bz ob) (qO 2 U ?_)))
     refine cG (L':=[z2,(b1,O [I x.Kind,I x.N,I 0,.string x.Name,.slice ob6 ((jk++[(rec offices y2)]).length) oc6] 66)]++(G6)) js ?_
     exact ag2 ((i2+1),(jk++[(rec offices y2)]),ob6,oc6,G6,h9,rz2) _ (Nat.lt_succ_self _) ⟨ba hd2,aE hd2,hs9,gr6,lo,(hl2.t hle9)⟩ rd
    ·refine cy Cc (hrec hh2 offices cI cH y2 r4 (hoffices.mono Rp.gq hl2) ok8 ob (Expr.hY (gx hd2))) U (fun v6 h10 hle10 hp6=>?_)
     obtain ⟨rr10,rfl,ok10⟩:=hp6
     refine ⟨jl hle10,tu hle10 ?_⟩
     refine kh 1 5 kr U U ?_ ?_ 
     ·refine gI (gH ty64 U (lT (i:=2) U) U) (⟨jn,?_⟩)
      refine tn 5 U (bK (cells:=[I ((rec offices y2).Kind),I ((rec offices y2).N),I ((rec offices y2).No),.string ((rec offices y2).Name),.slice rr10.ir ((rec offices y2).L.length) rr10.iG]) ga ty66 zc66 U U kr (fun b13=>?_))
      refine ⟨jn,?_⟩
      let z9:Nat×Obj:=(b13,O [I ((rec offices y2).Kind),I ((rec offices y2).N),I ((rec offices y2).No),.string ((rec offices y2).Name),.slice rr10.ir ((rec offices y2).L.length) rr10.iG] 66)
      refine tn 6 U (db Expr.eT ([z9,z7,z2,z6]) ([]) (fun G=>[z9,z7,z2,z6]++(G)) ap (fun _=>ap) ga ty66 zc66 U bytes66 (nr.mono Expr.aD hle10) U U (eI 0 U (show bD Expr.rp h10 [I ((rec offices y2).Kind),I ((rec offices y2).N),I ((rec offices y2).No),.string ((rec offices y2).Name),.slice rr10.ir ((rec offices y2).L.length) rr10.iG] ([(rec offices y2)]) from ⟨[I ((rec offices y2).Kind),I ((rec offices y2).N),I ((rec offices y2).No),.string ((rec offices y2).Name),.slice rr10.ir ((rec offices y2).L.length) rr10.iG],[],U,U,⟨rr10,U,ok10⟩,U⟩)) lo lo (fun ob7 oc7 G7 gr7=>?_))
      refine ⟨jn,?_⟩
      refine tf 7 U U (fun _ _ _=>dx dC U) (tn 8 U (j6 3 ty64 U U U U U U (⟨jn,?_⟩)))
      refine bv kr (qT 2 U (ai (v':=I (((i2+1):Nat):Int)) U (bz ob) (qO 2 U ?_)))
      refine cG (L':=[z2,(b1,O [I x.Kind,I x.N,I 0,.string x.Name,.slice ob7 ((jk++[(rec offices y2)]).length) oc7] 66)]++(G7)) js ?_
      exact ag2 ((i2+1),(jk++[(rec offices y2)]),ob7,oc7,G7,h10,rz2) _ (Nat.lt_succ_self _) ⟨ba hd2,aE hd2,hs9,gr7,lo,(hl2.t hle10)⟩ rd
     ·refine bK (cells:=[I ((rec offices y2).Kind),I ((rec offices y2).N),I ((rec offices y2).No),.string ((rec offices y2).Name),.slice rr10.ir ((rec offices y2).L.length) rr10.iG]) ga ty66 zc66 U U kr (fun b14=>?_)
      refine ⟨jn,?_⟩
      refine tn 1 U (gI (gH ty64 U (lT (i:=3) U) U) (⟨jn,?_⟩))
      let z10:Nat×Obj:=(b14,O [I ((rec offices y2).Kind),I ((rec offices y2).N),I ((rec offices y2).No),.string ((rec offices y2).Name),.slice rr10.ir ((rec offices y2).L.length) rr10.iG] 66)
      refine tn 6 U (db Expr.eT ([z10,z7,z2,z6]) ([]) (fun G=>[z10,z7,z2,z6]++(G)) ap (fun _=>ap) ga ty66 zc66 U bytes66 (nr.mono Expr.aD hle10) U U (eI 0 U (show bD Expr.rp h10 [I ((rec offices y2).Kind),I ((rec offices y2).N),I ((rec offices y2).No),.string ((rec offices y2).Name),.slice rr10.ir ((rec offices y2).L.length) rr10.iG] ([(rec offices y2)]) from ⟨[I ((rec offices y2).Kind),I ((rec offices y2).N),I ((rec offices y2).No),.string ((rec offices y2).Name),.slice rr10.ir ((rec offices y2).L.length) rr10.iG],[],U,U,⟨rr10,U,ok10⟩,U⟩)) lo lo (fun ob8 oc8 G8 gr8=>?_))
      refine ⟨jn,?_⟩
      refine tf 7 U U (fun _ _ _=>dx dC U) (tn 8 U (j6 3 ty64 U U U U U U (⟨jn,?_⟩)))
      refine bv kr (qT 2 U (ai (v':=I (((i2+1):Nat):Int)) U (bz ob) (qO 2 U ?_)))
      refine cG (L':=[z2,(b1,O [I x.Kind,I x.N,I 0,.string x.Name,.slice ob8 ((jk++[(rec offices y2)]).length) oc8] 66)]++(G8)) js ?_
      exact ag2 ((i2+1),(jk++[(rec offices y2)]),ob8,oc8,G8,h10,rz2) _ (Nat.lt_succ_self _) ⟨ba hd2,aE hd2,hs9,gr8,lo,(hl2.t hle10)⟩ rd
theorem mw:∀ (m:Nat) (h:HF) (offices:(List ByteArray)) (cI:Option Addr) (cH:Nat) (x:Expr) (fb:cE) (_:x.dep≤m) (hoffices:SlC Rp.str h cI cH offices) (hx:Expr.ok h x fb) (hsz:x.dep≤2000000),je Tryz.prog 218 [.slice cI offices.length cH,.agg (Expr.cells x fb).toArray] h (fun v h'=>∃ (rr0:cE),v=.agg (Expr.cells (ad.go m offices x) rr0).toArray∧Expr.ok h' (ad.go m offices x) rr0)
 | 0,h,offices,cI,cH,x,fb,hd,hoffices,hx,hsz=>absurd hd (Nat.not_le.2 (Expr.jV _))
 | m+1,h,offices,cI,cH,x,fb,hd,hoffices,hx,hsz=>sg (ad.go m) h offices cI cH x fb (fun qh_ qoffices iE iD qx jp qhoffices qhx qhsz qd=>mw m qh_ qoffices iE iD qx jp ob qhoffices qhx qhsz) hoffices hx hsz
theorem nK (h:HF) (offices:(List ByteArray)) (cI:Option Addr) (cH:Nat) (x:Expr) (fb:cE) (hoffices:SlC Rp.str h cI cH offices) (hx:Expr.ok h x fb) (hsz:x.dep≤2000000):je Tryz.prog 218 [.slice cI offices.length cH,.agg (Expr.cells x fb).toArray] h (fun v h'=>∃ (rr0:cE),v=.agg (Expr.cells (ad offices x) rr0).toArray∧Expr.ok h' (ad offices x) rr0):=mw _ h offices cI cH x fb (Nat.le_refl _) hoffices hx hsz
theorem tv (h:HF) (p:Policy) (fe:eE) (hp:Policy.ok h p fe) (hsm:smP p) (hk:Kinds h):je Tryz.prog 158 [.agg (Policy.cells p fe).toArray] h (fun v h'=>∃ (rr0:eE),v=.tuple #[.agg (Policy.cells ((dp p).1) rr0).toArray,I ((dp p).2)]∧Policy.ok h' ((dp p).1) rr0):=by
 refine ae Tryz.func158 U Tryz.ntmps158 U fun X hM hX=>?_
 have hs0:dp p=dp p:=rfl
 have hsc:=hsm.change
 have hsr:=hsm.rules
 refine sr (dt (fun b1=>bR zc68 (fun b2=>qO 4 U (bX 1 U hM (fun h1 hle1 hb1=>aN (gg U U (au (v:=I (attR (di p))) Tryz.call213 (tr h1 (.func (.func 214) #[] #[Q b1]) (di p) (kL (args:=[]) (cap:=[Q b1]) Tryz.call214 (rv h1 p fe ⟨b1,0,none⟩ (hp.mono hle1) (dN hb1) (by first | assumption | omega) (hk.mono hle1)))) U (qO 8 U ?_))))))))
 refine ak hs0 U (fun c1 hs1=>?_) (fun c1 hs2=>?_)
 ·refine sr (dl 0 ty68 U U U (aB (bL 0 ty68 U U U U U U (an ?_))))
  have hs3:dp p=((Policy.mk (⟨#[]⟩:ByteArray) ([]) ([]) ([]) (Expr.mk 0 0 0 (⟨#[]⟩:ByteArray) ([])) 0),(attR (di p))):=hs1
  exact cJ [.agg (List.toArray [.string (⟨#[]⟩:ByteArray),.slice none 0 0,.slice none 0 0,.slice none 0 0,I 0,I 0,I 0,.string (⟨#[]⟩:ByteArray),.slice none 0 0,I 0]),I (attR (di p))] Tryz.func158 U ⟨⟨0,_,_,_,_,U,U,.inl ⟨ty68,U⟩⟩,U,trivial⟩ ⟨(eE.mk none 0 none 0 none 0 (cE.mk none 0)),congrArg (fun r:(Policy×Int)=>(.tuple #[.agg (Policy.cells r.1 (eE.mk none 0 none 0 none 0 (cE.mk none 0))).toArray,I r.2]:Value)) hs3.symm,(by rw [hs3];exact (show Policy.ok h1 (Policy.mk (⟨#[]⟩:ByteArray) ([]) ([]) ([]) (Expr.mk 0 0 0 (⟨#[]⟩:ByteArray) ([])) 0) (eE.mk none 0 none 0 none 0 (cE.mk none 0)) from ⟨SlC.nil,SlC.nil,SlC.nil,(show Expr.ok h1 (Expr.mk 0 0 0 (⟨#[]⟩:ByteArray) ([])) (cE.mk none 0) from Expr.ok.of SlC.nil)⟩))⟩
 ·refine qT 3 U (el ty68 (dN hb1) U U (bL 0 ty68 U U U U U U (qO 3 U (aj fj U (dS 0 ty63 U U U U U U (qO 4 U (aj fj U (km (j:=3) ty63 (dN hb1) U U ?_))))))))
  refine a8 jR U (qO 2 U ?_)
  refine aU (ι:=Nat×(List Rule)×Option Addr×Nat×LH×HF) (fun i=>[(1,Q b1),(2,Q b2)]) (fun i=>i.2.2.2.2.2) (fun i=>[(b2,O [.string p.Name,.slice fe.fV p.Kinds.length fe.fU,.slice fe.dK p.Offices.length fe.dJ,.slice i.2.2.1 i.2.1.length i.2.2.2.1,I p.Change.Kind,I p.Change.N,I p.Change.No,.string p.Change.Name,.slice fe.Change.ir p.Change.L.length fe.Change.iG,I p.Mode] 68)]++(i.2.2.2.2.1)) (fun i=>i.1≤p.Rules.length∧dp p=((dp.K1 p) i.2.1)∧eb Rule.rp 107 i.2.2.2.2.2 i.2.1 i.2.2.1 i.2.2.2.1 i.2.2.2.2.1∧i.2.1.length≤0+i.1∧HF.le h1 i.2.2.2.2.2) ?_ (fun hx1=>?_)
  ·rintro ⟨i1,kI,nu,nt,sG,hh1⟩ ⟨aP,hs4,qc,yV,hl1⟩ e
   try dsimp only at aP qc yV hl1
   refine sr (aj iS U (km (j:=2) ty62 ((dN hb1).mono hl1) U U (aj lU U (vO (j:=4) ty66 ((dN hb1).mono hl1) U U (aN (cy Cc (nK hh1 p.Offices fe.dK fe.dJ p.Change fe.Change (hp.Offices.mono Rp.gq (hle1.t hl1)) (hp.Change.mono (hle1.t hl1)) ob) U (fun v3 h5 hle5 hp3=>?_)))))))
   obtain ⟨rr4,rfl,ok4⟩:=hp3
   let z2:Nat×Obj:=(b2,O [.string p.Name,.slice fe.fV p.Kinds.length fe.fU,.slice fe.dK p.Offices.length fe.dJ,.slice nu kI.length nt,I ((ad p.Offices p.Change).Kind),I ((ad p.Offices p.Change).N),I ((ad p.Offices p.Change).No),.string ((ad p.Offices p.Change).Name),.slice rr4.ir ((ad p.Offices p.Change).L.length) rr4.iG,I p.Mode] 68)
   refine aj lU U (dS 0 ty66 U U U U U U (qO 3 U (dl 0 ty68 U U U (bL 0 ty68 U U U U U U (iT (L':=[z2]++(sG)) U (an ?_))))))
   refine eY Rule.aD ([z2]) sG ([]) ap hM (qc.mono Rule.aD hle5) (fun h6 hle6 sl2=>?_)
   have hs5:dp p=((Policy.mk p.Name p.Kinds p.Offices kI (Expr.mk ((ad p.Offices p.Change).Kind) ((ad p.Offices p.Change).N) ((ad p.Offices p.Change).No) ((ad p.Offices p.Change).Name) ((ad p.Offices p.Change).L)) p.Mode),0):=hs4
   exact cJ [.agg (Policy.cells (Policy.mk p.Name p.Kinds p.Offices kI (Expr.mk ((ad p.Offices p.Change).Kind) ((ad p.Offices p.Change).N) ((ad p.Offices p.Change).No) ((ad p.Offices p.Change).Name) ((ad p.Offices p.Change).L)) p.Mode) (eE.mk fe.fV fe.fU fe.dK fe.dJ nu nt (cE.mk rr4.ir rr4.iG))).toArray,I 0] Tryz.func158 U ⟨⟨0,_,_,_,_,U,U,.inl ⟨ty68,U⟩⟩,U,trivial⟩ ⟨(eE.mk fe.fV fe.fU fe.dK fe.dJ nu nt (cE.mk rr4.ir rr4.iG)),congrArg (fun r:(Policy×Int)=>(.tuple #[.agg (Policy.cells r.1 (eE.mk fe.fV fe.fU fe.dK fe.dJ nu nt (cE.mk rr4.ir rr4.iG))).toArray,I r.2]:Value)) hs5.symm,(by rw [hs5];exact (show Policy.ok h6 (Policy.mk p.Name p.Kinds p.Offices kI (Expr.mk ((ad p.Offices p.Change).Kind) ((ad p.Offices p.Change).N) ((ad p.Offices p.Change).No) ((ad p.Offices p.Change).Name) ((ad p.Offices p.Change).L)) p.Mode) (eE.mk fe.fV fe.fU fe.dK fe.dJ nu nt (cE.mk rr4.ir rr4.iG)) from ⟨(hp.Kinds.mono Rp.gq (((hle1.t hl1).t hle5).t hle6)),(hp.Offices.mono Rp.gq (((hle1.t hl1).t hle5).t hle6)),sl2,(show Expr.ok h6 (Expr.mk ((ad p.Offices p.Change).Kind) ((ad p.Offices p.Change).N) ((ad p.Offices p.Change).No) ((ad p.Offices p.Change).Name) ((ad p.Offices p.Change).L)) (cE.mk rr4.ir rr4.iG) from Expr.ok.of (ok4.list.mono Expr.aD hle6))⟩))⟩
  ·refine bG (ι:=Nat×(List Rule)×Option Addr×Nat×LH×HF×List Rule) (fun i=>[(1,Q b1),(2,Q b2),(15,.slice fe.kc p.Rules.length fe.kb),(16,I ((p.Rules.length:Nat):Int)),(17,I ((i.1:Nat):Int))]) (fun i=>i.2.2.2.2.2.1) (fun i=>[(b2,O [.string p.Name,.slice fe.fV p.Kinds.length fe.fU,.slice fe.dK p.Offices.length fe.dJ,.slice i.2.2.1 i.2.1.length i.2.2.2.1,I p.Change.Kind,I p.Change.N,I p.Change.No,.string p.Change.Name,.slice fe.Change.ir p.Change.L.length fe.Change.iG,I p.Mode] 68)]++(i.2.2.2.2.1)) (fun i=>p.Rules.drop i.1=i.2.2.2.2.2.2∧i.1≤p.Rules.length∧dp p=((dp.L1 p (dp.K1 p)) i.2.2.2.2.2.2 i.1 i.2.1)∧eb Rule.rp 107 i.2.2.2.2.2.1 i.2.1 i.2.2.1 i.2.2.2.1 i.2.2.2.2.1∧i.2.1.length≤0+i.1∧HF.le h1 i.2.2.2.2.2.1) (fun i=>i.2.2.2.2.2.2.length) (0,[],none,0,[],h1,p.Rules) rd sw ⟨U,Nat.zero_le _,hs2,eb.nil,lo,(HF.le_refl h1)⟩ ?_
   rintro ⟨i1,kI,nu,nt,sG,hh1,s1⟩ ⟨hd1,aP,hs6,qc,yV,hl1⟩ ag1 e
   try dsimp only at hd1 aP qc yV hl1
   rcases s1 with _ | ⟨y1,rz1⟩
   ·have dr:=cw hd1
    refine sr (ai (v':=.bool false) U (cb dr) (qO 4 U ?_))
    exact hx1 (i1,kI,nu,nt,sG,hh1) _ ⟨aP,hs6,qc,lo,hl1⟩ rd
   ·have dq:=dy hd1
    have aM:=cA hd1
    have ey:=aE hd1
    have gi:=(hp.Rules.mono Rule.aD hle1).1.1
    have hsy:=hsm.2.1 y1 (gx hd1)
    refine sr (ai (v':=.bool true) U (cb dq) (qO 9 U (aN (fF jR ty107 (hp.Rules.mono Rule.aD (hle1.t hl1)).1 (nthZ aM) (aV aM) U U U (fun q2 cs2 A2 ln2 rr5=>?_)))))
    obtain ⟨r2,rfl,ok5⟩:=rr5
    let z1:Nat×Obj:=(b2,O [.string p.Name,.slice fe.fV p.Kinds.length fe.fU,.slice fe.dK p.Offices.length fe.dJ,.slice nu kI.length nt,I p.Change.Kind,I p.Change.N,I p.Change.No,.string p.Change.Name,.slice fe.Change.ir p.Change.L.length fe.Change.iG,I p.Mode] 68)
    refine el ty107 A2 U U (bR zc107 (fun b5=>fx (bL 0 ty107 U U U U U U (iT (L':=[(b5,O (Rule.cells y1 r2) 107),z1]++(sG)) U (qO 4 U (aj iS U (km (j:=2) ty62 ((dN hb1).mono hl1) U U (aj kv U (dl 0 ty66 U U U (aN (cy Cc (nK hh1 p.Offices fe.dK fe.dJ y1.Expr r2.Expr (hp.Offices.mono Rp.gq (hle1.t hl1)) ok5.Expr ob) U (fun v4 h7 hle7 hp4=>?_))))))))))))
    obtain ⟨rr6,rfl,ok6⟩:=hp4
    refine aj sK U (dS 0 ty3 U U U U U U (aj kv U (dS 0 ty66 U U U U U U (qO 2 U (aj fj U (aI 1 ty63 U U U (dl 0 ty107 U U U (aN (bK (cells:=[.string y1.Kind,I ((i1:Nat):Int),I y1.Think,I ((ad p.Offices y1.Expr).Kind),I ((ad p.Offices y1.Expr).N),I ((ad p.Offices y1.Expr).No),.string ((ad p.Offices y1.Expr).Name),.slice rr6.ir ((ad p.Offices y1.Expr).L.length) rr6.iG]) jR ty107 zc107 U U kr (fun b6=>?_))))))))))
    let z3:Nat×Obj:=(b6,O [.string y1.Kind,I ((i1:Nat):Int),I y1.Think,I ((ad p.Offices y1.Expr).Kind),I ((ad p.Offices y1.Expr).N),I ((ad p.Offices y1.Expr).No),.string ((ad p.Offices y1.Expr).Name),.slice rr6.ir ((ad p.Offices y1.Expr).L.length) rr6.iG] 107)
    let z4:Nat×Obj:=(b5,O [.string y1.Kind,I ((i1:Nat):Int),I y1.Think,I ((ad p.Offices y1.Expr).Kind),I ((ad p.Offices y1.Expr).N),I ((ad p.Offices y1.Expr).No),.string ((ad p.Offices y1.Expr).Name),.slice rr6.ir ((ad p.Offices y1.Expr).L.length) rr6.iG] 107)
    refine aN (db Rule.eT ([z3,z4,z1]) ([]) (fun G=>[z3,z4,z1]++(G)) ap (fun _=>ap) jR ty107 zc107 U bytes107 (qc.mono Rule.aD hle7) U U (eI 0 U (show bD Rule.rp h7 [.string y1.Kind,I ((i1:Nat):Int),I y1.Think,I ((ad p.Offices y1.Expr).Kind),I ((ad p.Offices y1.Expr).N),I ((ad p.Offices y1.Expr).No),.string ((ad p.Offices y1.Expr).Name),.slice rr6.ir ((ad p.Offices y1.Expr).L.length) rr6.iG] ([(Rule.mk y1.Kind ((i1:Nat):Int) y1.Think (Expr.mk ((ad p.Offices y1.Expr).Kind) ((ad p.Offices y1.Expr).N) ((ad p.Offices y1.Expr).No) ((ad p.Offices y1.Expr).Name) ((ad p.Offices y1.Expr).L)))]) from ⟨[.string y1.Kind,I ((i1:Nat):Int),I y1.Think,I ((ad p.Offices y1.Expr).Kind),I ((ad p.Offices y1.Expr).N),I ((ad p.Offices y1.Expr).No),.string ((ad p.Offices y1.Expr).Name),.slice rr6.ir ((ad p.Offices y1.Expr).L.length) rr6.iG],[],U,U,⟨(vz.mk (cE.mk rr6.ir rr6.iG)),U,(show Rule.ok h7 (Rule.mk y1.Kind ((i1:Nat):Int) y1.Think (Expr.mk ((ad p.Offices y1.Expr).Kind) ((ad p.Offices y1.Expr).N) ((ad p.Offices y1.Expr).No) ((ad p.Offices y1.Expr).Name) ((ad p.Offices y1.Expr).L))) (vz.mk (cE.mk rr6.ir rr6.iG)) from ⟨(show Expr.ok h7 (Expr.mk ((ad p.Offices y1.Expr).Kind) ((ad p.Offices y1.Expr).N) ((ad p.Offices y1.Expr).No) ((ad p.Offices y1.Expr).Name) ((ad p.Offices y1.Expr).L)) (cE.mk rr6.ir rr6.iG) from Expr.ok.of ok6.list)⟩)⟩,U⟩)) lo lo (fun ob2 oc2 G2 gr2=>?_))
    refine aj fj U (dS 2 ty63 U U U U U U (qO 3 U (ai (v':=I (((i1+1):Nat):Int)) U (bz ob) (qO 2 U ?_))))
    refine cG (L':=[(b2,O [.string p.Name,.slice fe.fV p.Kinds.length fe.fU,.slice fe.dK p.Offices.length fe.dJ,.slice ob2 ((kI++[(Rule.mk y1.Kind ((i1:Nat):Int) y1.Think (Expr.mk ((ad p.Offices y1.Expr).Kind) ((ad p.Offices y1.Expr).N) ((ad p.Offices y1.Expr).No) ((ad p.Offices y1.Expr).Name) ((ad p.Offices y1.Expr).L)))]).length) oc2,I p.Change.Kind,I p.Change.N,I p.Change.No,.string p.Change.Name,.slice fe.Change.ir p.Change.L.length fe.Change.iG,I p.Mode] 68)]++(G2)) js ?_
    exact ag1 ((i1+1),(kI++[(Rule.mk y1.Kind ((i1:Nat):Int) y1.Think (Expr.mk ((ad p.Offices y1.Expr).Kind) ((ad p.Offices y1.Expr).N) ((ad p.Offices y1.Expr).No) ((ad p.Offices y1.Expr).Name) ((ad p.Offices y1.Expr).L)))]),ob2,oc2,G2,h7,rz1) _ (Nat.lt_succ_self _) ⟨ba hd1,aE hd1,hs6,gr2,lo,(hl1.t hle7)⟩ rd
theorem nl (h:HF) (offices:(List ByteArray)) (cI:Option Addr) (cH:Nat) (x:Expr) (fb:cE) (hoffices:SlC Rp.str h cI cH offices) (hx:Expr.ok h x fb) (hsz:x.dep≤1500000):Ret Tryz.prog 159 [.slice cI offices.length cH,.agg (Expr.cells x fb).toArray] h (.bool (bQ offices x)):=by
 refine ae GH U Tryz.ntmps159 U fun X hM hX=>?_
 have hs0:bQ offices x=bQ offices x:=rfl
 refine sr (dt (fun b1=>dt (fun b2=>bR zc4 (fun b3=>qO 4 U (dl 1 ty66 U U U (aN (cy Fc (kV h x fb 1 hx ob) U (fun v1 h1 hle1 hp1=>?_))))))))
 obtain ⟨_,rfl,mo1⟩:=hp1
 refine qO 2 U ?_
 refine gp ?_
 let z1:Nat×Obj:=(b1,O [.slice cI offices.length cH] 62)
 let z2:Nat×Obj:=(b2,O (Expr.cells x fb) 66)
 refine dZ (L':=([(b3,O [.bool false] 4),z2,z1])++markB []) ap ?_
 refine kd (it:=v1) (xs:=(bS x 1)) (ι:=HF) [] (fun i=>i) (fun i=>[(b3,O [.bool false] 4),z2,z1]) (fun s i=>bQ offices x=((bQ.L1 offices (bQ.K1)) s )∧HF.le h1 i) (fun i=>bQ offices x=false∧HF.le h1 i) (fun _=>False) 0 (fun _ _ _=>False) h1 GH U mo1 U lN (fun _ _ _ _ _ hq=>hq) U (show [(b3,O [.bool false] 4),z2,z1]=_ from U) ⟨hs0,(HF.le_refl h1)⟩ ?_ ?_ ?_ ?_ ?_
 ·rintro l1 dm1 lp1 y1 rz1 vs1 hh1 hr1 X hFR1 ⟨hs1,hl1⟩ hl01 hlr1 hv1 hX hXM hlp1 nx1 rt1 ex1 pn1
  try dsimp only at hl1 hlr1
  obtain ⟨rr1_0,rfl,ok1_0⟩:=hv1
  let z3:Nat×Obj:=(dm1,.deferred (some []))
  refine dZ (L':=[(l1,.loop lp1),z3,(b3,O [.bool false] 4),z2,z1]++(markB [])) ap (bU (bR zc258 (fun b5=>bL 0 ty258 U U U U U U (bh (ke 1 U hlp1 (qT 8 U (aj lu U (dl 0 ty66 U U U (au (v:=.bool (cX y1.x)) Tryz.call220 (lF hr1 y1.x rr1_0.x ok1_0.x) U (bh ?_))))))))))
  refine ak hs1 U (fun c4 hs2=>?_) (fun c4 hs3=>?_)
  ·refine bU (aI 5 ty62 U U U (aj lu U (aj mI U (aI 0 ty9 U U U (au (v:=I (aK offices y1.x.Name)) GJ (jt hr1 offices cI cH y1.x.Name (hoffices.mono Rp.gq ((hle1.t hl1).t hlr1))) U (qO 4 U (aj lu U (aj na U (aI 0 ty3 U U U (qO 3 U ?_))))))))))
   refine ak hs2 U (fun c5 hs4=>?_) (fun c5 hs5=>?_)
   ·refine sr (dS 3 ty4 U U U U U U (bh ?_))
    refine cG (L':=[(l1,.loop { lp1 with state:=.busy }),z3,(b3,O [.bool false] 4),z2,z1]++(markB [])) js ?_
    refine dZ (L':=rdH l1 dm1 lp1 (([(b3,O [.bool false] 4),z2,z1])++markB [])) ap ?_
    exact rt1 hr1 _ _ _ ⟨hs4,(hl1.t hlr1)⟩ (HF.le_refl _)
   ·refine qT 2 U ?_
    refine cG (L':=[(l1,.loop { lp1 with state:=.busy }),z3,(b3,O [.bool false] 4),z2,z1]++(markB [])) js ?_
    refine dZ (L':=rdH l1 dm1 lp1 (([(b3,O [.bool false] 4),z2,z1])++markB [])) ap ?_
    exact nx1 hr1 _ _ ⟨hs5,(hl1.t hlr1)⟩ (HF.le_refl _)
  ·refine qT 3 U (aj lu U (aj na U (aI 0 ty3 U U U (qO 3 U ?_))))
   refine ak hs3 U (fun c6 hs6=>?_) (fun c6 hs7=>?_)
   ·refine sr (dS 3 ty4 U U U U U U (bh ?_))
    refine cG (L':=[(l1,.loop { lp1 with state:=.busy }),z3,(b3,O [.bool false] 4),z2,z1]++(markB [])) js ?_
    refine dZ (L':=rdH l1 dm1 lp1 (([(b3,O [.bool false] 4),z2,z1])++markB [])) ap ?_
    exact rt1 hr1 _ _ _ ⟨hs6,(hl1.t hlr1)⟩ (HF.le_refl _)
   ·refine qT 2 U ?_
    refine cG (L':=[(l1,.loop { lp1 with state:=.busy }),z3,(b3,O [.bool false] 4),z2,z1]++(markB [])) js ?_
    refine dZ (L':=rdH l1 dm1 lp1 (([(b3,O [.bool false] 4),z2,z1])++markB [])) ap ?_
    exact nx1 hr1 _ _ ⟨hs7,(hl1.t hlr1)⟩ (HF.le_refl _)
 ·rintro dm1 hh1 hn1 ⟨hs8,hl1⟩ hln1 hl01
  try dsimp only at hl1 hln1
  refine dZ (L':=[(b3,O [.bool false] 4),z2,z1]++(markB (dm1::[]))) ap (qT 3 U (dS 0 ty4 U U U U U U (bh ?_)))
  have hs9:bQ offices x=true:=hs8
  refine dZ (L':=([(b3,O [.bool true] 4),z2,z1])++markB (dm1::[])) ap ?_
  exact rQ (dm1::[]) [.bool true] GH U hX ⟨⟨0,_,_,_,_,U,U,.inr ⟨_,ty4,U⟩⟩,trivial⟩ (cs hs9)
 ·rintro dm1 hh1 hn1 ⟨hs10,hl1⟩ hln1 hl01
  try dsimp only at hl1 hln1
  refine dZ (L':=[(b3,O [.bool false] 4),z2,z1]++(markB (dm1::[]))) ap ?_
  have hs11:bQ offices x=false:=hs10
  refine dZ (L':=([(b3,O [.bool false] 4),z2,z1])++markB (dm1::[])) ap ?_
  exact rQ (dm1::[]) [.bool false] GH U hX ⟨⟨0,_,_,_,_,U,U,.inr ⟨_,ty4,U⟩⟩,trivial⟩ (cs hs11)
 ·exact fun _ _ _ hF=>hF.elim
 ·exact fun _ _ _ _ hF=>hF.elim
theorem pm (h:HF) (p:Policy) (fe:eE) (hp:Policy.ok h p fe) (hsm:smP p) (hk:Kinds h):Ret Tryz.prog 94 [.agg (Policy.cells p fe).toArray] h (I (cq p)):=by
 refine ae E8 U Tryz.ntmps94 U fun X hM hX=>?_
 have hs0:cq p=cq p:=rfl
 have hsc:=hsm.change
 refine sr (dt (fun b1=>qO 5 U (dl 0 ty68 U U U (aN (cy Tryz.call158 (tv h p fe hp ob hk) U (fun v1 h1 hle1 hp1=>?_))))))
 obtain ⟨rr1,rfl,ok1⟩:=hp1
 refine qO 10 U ?_
 refine ak hs0 U (fun c1 hs1=>?_) (fun c1 hs2=>?_)
 ·refine qT 5 U ?_
  exact ah [I ((dp p).2)] E8 U hX rd (ci hs1)
 ·refine qT 4 U (aj fj U (aI 0 ty63 U U U (a8 jR U (qO 2 U ?_))))
  let z1:Nat×Obj:=(b1,O (Policy.cells p fe) 68)
  refine aU (ι:=Nat) (fun i=>[(1,Q b1)]) (fun i=>h1) (fun i=>[z1]) (fun i=>i≤p.Rules.length∧cq p=((cq.K1 p))) ?_ (fun hx1=>?_)
  ·rintro i1 ⟨aP,hs4⟩ e
   try dsimp only at aP
   refine qT 3 U (aj iS U (aI 0 ty62 U U U (aj lU U (dl 0 ty66 U U U (au (v:=.bool (bQ p.Offices p.Change)) Tryz.call159 (nl h1 p.Offices fe.dK fe.dJ p.Change fe.Change (hp.Offices.mono Rp.gq hle1) (hp.Change.mono hle1) ob) U (qO 2 U ?_))))))
   refine ak hs4 U (fun c2 hs5=>?_) (fun c2 hs6=>?_)
   ·refine qT 4 U ?_
    exact ah [I 200] E8 U hX rd (ci hs5)
   ·refine qT 5 U ?_
    exact ah [I 0] E8 U hX rd (ci hs6)
  ·refine bG (ι:=Nat×List Rule) (fun i=>[(1,Q b1),(14,.slice fe.kc p.Rules.length fe.kb),(15,I ((p.Rules.length:Nat):Int)),(16,I ((i.1:Nat):Int))]) (fun i=>h1) (fun i=>[z1]) (fun i=>p.Rules.drop i.1=i.2∧i.1≤p.Rules.length∧cq p=((cq.L1 p (cq.K1 p)) i.2 i.1)) (fun i=>i.2.length) (0,p.Rules) rd sw ⟨U,Nat.zero_le _,hs2⟩ ?_
   rintro ⟨i1,s1⟩ ⟨hd1,aP,hs9⟩ ag1 e
   try dsimp only at hd1 aP
   rcases s1 with _ | ⟨y1,rz1⟩
   ·have dr:=cw hd1
    refine sr (ai (v':=.bool false) U (cb dr) (qO 4 U ?_))
    exact hx1 i1 _ ⟨aP,hs9⟩ rd
   ·have dq:=dy hd1
    have aM:=cA hd1
    have ey:=aE hd1
    have gi:=(hp.Rules.mono Rule.aD hle1).1.1
    have hsy:=hsm.2.1 y1 (gx hd1)
    refine sr (ai (v':=.bool true) U (cb dq) (qO 9 U (aN (fF jR ty107 (hp.Rules.mono Rule.aD hle1).1 (nthZ aM) (aV aM) U U U (fun q2 cs2 A2 ln2 rr3=>?_)))))
    obtain ⟨r2,rfl,ok3⟩:=rr3
    refine el ty107 A2 U U (bR zc107 (fun b3=>fx (bL 0 ty107 U U U U U U (qO 3 U (aj sK U (aI 0 ty3 U U U (qO 3 U ?_)))))))
    refine ar 7 [25,26,27,28,29,30,31,32] 32 (.bool ((y1.KindNo != ((i1:Nat):Int))||(!(bQ p.Offices y1.Expr)))) (fun hk1=>?_) (fun e=>?_)
    ·refine ac 25 U (fun c3=>?_) (fun c3=>?_)
     ·refine qO 7 U ?_
      exact hk1 _ (cb (dW c3))
     ·refine aj iS U (aI 1 ty62 U U U (aj kv U (dl 0 ty66 U U U (au (v:=.bool (bQ p.Offices y1.Expr)) Tryz.call159 (nl h1 p.Offices fe.dK fe.dJ y1.Expr r2.Expr (hp.Offices.mono Rp.gq hle1) ok3.Expr ob) U (qO 2 U ?_)))))
      exact hk1 _ (cb (dX c3))
    refine bh ?_
    refine ak hs9 U (fun c4 hs11=>?_) (fun c4 hs12=>?_)
    ·refine qT 4 U ?_
     exact ah [I 200] E8 U hX rd (ci hs11)
    ·refine qT 3 U (ai (v':=I (((i1+1):Nat):Int)) U (bz ob) (qO 2 U ?_))
     refine cG (L':=[z1]) js ?_
     exact ag1 ((i1+1),rz1) _ (Nat.lt_succ_self _) ⟨ba hd1,aE hd1,hs12⟩ rd
theorem nn (h:HF) (l:(List Version)) (eD:Option Addr) (eC:Nat) (hl:SlC Version.rp h eD eC l) (hsm:smV l) (hk:Kinds h):Ret Tryz.prog 55 [.slice eD l.length eC] h (I (bA l)):=by
 refine ae GG U Tryz.ntmps55 U fun X hM hX=>?_
 have hs0:bA l=bA l:=rfl
 have hsl:=hsm.len
 refine qT 8 U (a8 iN U (qO 2 U ?_))
 refine ak hs0 U (fun c1 hs1=>?_) (fun c1 hs2=>?_)
 ·have c1p:=of_decide_eq_true c1
  refine qT 4 U ?_
  exact ah [I 2] GG U hX rd (ci hs1)
 ·have c1p:=of_decide_eq_false c1
  refine qT 9 U (a8 iN U (qO 2 U ?_))
  refine aU (ι:=Nat×Int) (fun i=>[]) (fun i=>h) (fun i=>[]) (fun i=>i.1≤l.length∧bA l=((bA.K1) i.2)) ?_ (fun hx1=>?_)
  ·rintro ⟨i1,fW⟩ ⟨aP,hs4⟩ e
   try dsimp only at aP
   refine qT 4 U ?_
   exact ah [I 0] GG U hX rd (ci hs4)
  ·refine bG (ι:=Nat×Int×List Version) (fun i=>[(3,I i.2.1),(9,.slice eD l.length eC),(10,I ((l.length:Nat):Int)),(11,I ((i.1:Nat):Int))]) (fun i=>h) (fun i=>[]) (fun i=>l.drop i.1=i.2.2∧i.1≤l.length∧bA l=((bA.L1 (bA.K1)) i.2.2 i.2.1)) (fun i=>i.2.2.length) (0,(-1),l) rd sw ⟨U,Nat.zero_le _,hs2⟩ ?_
   rintro ⟨i1,fW,s1⟩ ⟨hd1,aP,hs6⟩ ag1 e
   try dsimp only at hd1 aP
   rcases s1 with _ | ⟨y1,rz1⟩
   ·have dr:=cw hd1
    refine sr (ai (v':=.bool false) U (cb dr) (qO 4 U ?_))
    exact hx1 (i1,fW) _ ⟨aP,hs6⟩ trivial
   ·have dq:=dy hd1
    have aM:=cA hd1
    have ey:=aE hd1
    have gi:=hl.1.1
    have hsy:=hsm.2 y1 (gx hd1)
    refine sr (ai (v':=.bool true) U (cb dq) (qO 8 U (aN (fF iN ty70 hl.1 (nthZ aM) (aV aM) U U U (fun q2 cs2 A2 ln2 rr2=>?_)))))
    obtain ⟨r2,rfl,ok2⟩:=rr2
    refine el ty70 A2 U U (bR zc70 (fun b2=>bL 0 ty70 U U U U U U (qO 4 U (aj kY U (aI 0 ty3 U U U (qO 2 U (au (v:=.bool (aL y1.No (IntKind.wrap .i64 (fW+1)) 1048576)) uD (fR h y1.No (IntKind.wrap .i64 (fW+1)) 1048576 ) U (qO 2 U ?_))))))))
    refine ar 5 [21,22,23,24,25,26] 26 (.bool ((!(aL y1.No (IntKind.wrap .i64 (fW+1)) 1048576))||(!(aL y1.At 0 1099511627775)))) (fun hk1=>?_) (fun e=>?_)
    ·refine ac 21 U (fun c2=>?_) (fun c2=>?_)
     ·refine qO 5 U ?_
      exact hk1 _ (cb (dW c2))
     ·refine aj j8 U (aI 0 ty3 U U U (au (v:=.bool (aL y1.At 0 1099511627775)) uD (fR h y1.At 0 1099511627775 ) U (qO 2 U ?_)))
      exact hk1 _ (cb (dX c2))
    refine aB ?_
    refine ar 5 [27,28,29,30,31,32] 32 (.bool (((!(aL y1.No (IntKind.wrap .i64 (fW+1)) 1048576))||(!(aL y1.At 0 1099511627775)))||(!(aL y1.Known 0 1099511627775)))) (fun hk2=>?_) (fun e=>?_)
    ·refine ac 27 U (fun c3=>?_) (fun c3=>?_)
     ·refine qO 5 U ?_
      exact hk2 _ (cb (dW c3))
     ·refine aj u9 U (aI 0 ty3 U U U (au (v:=.bool (aL y1.Known 0 1099511627775)) uD (fR h y1.Known 0 1099511627775 ) U (qO 2 U ?_)))
      exact hk2 _ (cb (dX c3))
    refine aB ?_
    refine ar 5 [33,34,35,36,37,38] 38 (.bool ((((!(aL y1.No (IntKind.wrap .i64 (fW+1)) 1048576))||(!(aL y1.At 0 1099511627775)))||(!(aL y1.Known 0 1099511627775)))||((cq y1.Policy) != 0))) (fun hk3=>?_) (fun e=>?_)
    ·refine ac 33 U (fun c4=>?_) (fun c4=>?_)
     ·refine qO 5 U ?_
      exact hk3 _ (cb (dW c4))
     ·refine aj pt U (dl 0 ty68 U U U (au (v:=I (cq y1.Policy)) Tryz.call94 (pm h y1.Policy r2.Policy ok2.Policy ob hk) U (qO 2 U ?_)))
      exact hk3 _ (cb (dX c4))
    refine bh ?_
    refine ak hs6 U (fun c5 hs8=>?_) (fun c5 hs9=>?_)
    ·refine qT 4 U ?_
     exact ah [I 200] GG U hX rd (ci hs8)
    ·refine qT 2 U (aj kY U (aI 0 ty3 U U U (qO 4 U (ai (v':=I (((i1+1):Nat):Int)) U (bz ob) (qO 2 U ?_)))))
     refine cG (L':=[]) js ?_
     exact ag1 ((i1+1),y1.No,rz1) _ (Nat.lt_succ_self _) ⟨ba hd1,aE hd1,hs9⟩ rd
theorem rD (h:HF) (l:(List Document)) (eD:Option Addr) (eC:Nat) (hl:SlC Document.rp h eD eC l):je Tryz.prog 104 [.slice eD l.length eC] h (fun v h'=>∃ (rr0:n0),v=.agg (gz.cells (bn l) rr0).toArray∧gz.ok h' (bn l) rr0):=by
 refine ae Tryz.func104 U Tryz.ntmps104 U fun X hM hX=>?_
 have hs0:bn l=bn l:=rfl
 refine sr (bR zc178 (fun b1=>qO 4 U (aN (oZ (fun b2=>aN (fq (cells:=[.slice eD l.length eC,.map (some b2)]) (places:=[(0,1),(1,1)]) Tryz.underlying178 zc178 kr kr (bR zc178 (fun b3=>?_))))))))
 refine bL 0 ty178 U U U U U U (qO 5 U (a8 lC U (qO 2 U ?_)))
 let z1:Nat×Obj:=(b3,O [.slice eD l.length eC,.map (some b2)] 178)
 let z2:Nat×Obj:=(b1,O [.slice none 0 0,.map none] 178)
 refine aU (ι:=Nat×(List (Int×Int))×Obj) (fun i=>[(2,Q b1),(3,Q b3)]) (fun i=>h) (fun i=>[z1,(b2,i.2.2),z2]) (fun i=>i.1≤l.length∧bn l=((bn.K1 l) i.2.1)∧gC (Value.int .i64) zT h i.2.2 i.2.1∧i.2.1.length≤0+i.1) ?_ (fun hx1=>?_)
 ·rintro ⟨i1,dw,jc⟩ ⟨aP,hs1,fH,jJ⟩ e
  try dsimp only at aP fH jJ
  refine sr (dl 0 ty178 U U U (bL 2 ty178 U U U U U U (bh ?_)))
  refine e6 1 U hM (fun h2 hle2 hb2=>?_)
  have mc2:oR (Value.int .i64) zT h2 b2 dw:=⟨_,hb2,fH.mono zT.mono hle2⟩
  have hs2:bn l=(gz.mk l dw):=hs1
  exact cJ [.agg (List.toArray [.slice eD l.length eC,.map (some b2)])] Tryz.func104 U ⟨⟨1,_,_,_,_,U,U,.inl ⟨ty178,U⟩⟩,trivial⟩ ⟨(n0.mk eD eC b2),congrArg (fun r:gz=>(.agg (gz.cells r (n0.mk eD eC b2)).toArray:Value)) hs2.symm,(by rw [hs2];exact (show gz.ok h2 (gz.mk l dw) (n0.mk eD eC b2) from ⟨(hl.mono Document.aD hle2),mc2⟩))⟩
 ·refine bG (ι:=Nat×(List (Int×Int))×Obj×List Document) (fun i=>[(2,Q b1),(3,Q b3),(9,.slice eD l.length eC),(10,I ((l.length:Nat):Int)),(11,I ((i.1:Nat):Int))]) (fun i=>h) (fun i=>[z1,(b2,i.2.2.1),z2]) (fun i=>l.drop i.1=i.2.2.2∧i.1≤l.length∧bn l=((bn.L1 (bn.K1 l)) i.2.2.2 i.1 i.2.1)∧gC (Value.int .i64) zT h i.2.2.1 i.2.1∧i.2.1.length≤0+i.1) (fun i=>i.2.2.2.length) (0,[],.map #[] 0,l) rd sw ⟨U,Nat.zero_le _,hs0,(gC.nil (enc:=(Value.int .i64)) (V:=zT) (h:=h)),lc⟩ ?_
  rintro ⟨i1,dw,jc,s1⟩ ⟨hd1,aP,hs3,fH,jJ⟩ ag1 e
  try dsimp only at hd1 aP fH jJ
  rcases s1 with _ | ⟨y1,rz1⟩
  ·have dr:=cw hd1
   refine sr (ai (v':=.bool false) U (cb dr) (qO 4 U ?_))
   exact hx1 (i1,dw,jc) _ ⟨aP,hs3,fH,lc⟩ rd
  ·have dq:=dy hd1
   have aM:=cA hd1
   have ey:=aE hd1
   have gi:=hl.1.1
   refine sr (ai (v':=.bool true) U (cb dq) (qO 9 U (aN (fF lC ty52 hl.1 (nthZ aM) (aV aM) U U U (fun q2 cs2 A2 ln2 rr2=>?_)))))
   obtain ⟨r2,rfl,ok2⟩:=rr2
   refine el ty52 A2 U U (bR zc52 (fun b5=>fx (bL 0 ty52 U U U U U U (qO 2 U (aj Dy U (aI 1 ty176 U U U (aj ka U (aI 0 ty3 U U U (aB (aN (ki 2 (k:=y1.No) (x:=((i1:Nat):Int)) Tryz.underlying176 (eO kK) U fH U U U (fun mo2 hm2=>(qO 3 U (ai (v':=I (((i1+1):Nat):Int)) U (bz ob) (qO 2 U ?_)))))))))))))))
   refine cG (L':=[z1,(b2,mo2),z2]) js ?_
   exact ag1 ((i1+1),(mput dw y1.No ((i1:Nat):Int)),mo2,rz1) _ (Nat.lt_succ_self _) ⟨ba hd1,aE hd1,hs3,hm2,(by have:=gr dw y1.No ((i1:Nat):Int);first | omega | (simp only [List.length_nil,List.length_cons] at *;omega))⟩ rd
open Go.Proofs
set_option maxHeartbeats 2000000
theorem vr (h:HF) (t:Int)  : Ret Tryz.prog 173 [I t] h (.bool (eV t)):=by
 refine ae Tryz.func173 U Tryz.ntmps173 U fun X hM hX=>?_
 have hs0:eV t=eV t:=rfl
 refine qT 9 U ?_
 refine ar 3 [5,6,7,8] 8 (.bool (decide (0≤t)&&decide (t < 1099511627776))) (fun hk1=>?_) (fun e=>?_)
 ·refine ac 5 U (fun c1=>?_) (fun c1=>?_)
  ·refine qO 3 U ?_
   exact hk1 _ (cb (cB c1))
  ·refine qO 3 U ?_
   exact hk1 _ (cb (cC c1))
 refine an ?_
 exact ah [.bool (decide (0≤t)&&decide (t < 1099511627776))] Tryz.func173 U hX rd (cs hs0)
theorem mO (h:HF) (l:(List Int)) (eD:Option Addr) (eC:Nat) (limit:Int) (hl:SlC Rp.int h eD eC l):Ret Tryz.prog 174 [.slice eD l.length eC,I limit] h (.bool (cv l limit)):=by
 refine ae Tryz.func174 U Tryz.ntmps174 U fun X hM hX=>?_
 have hs0:cv l limit=cv l limit:=rfl
 refine qT 12 U (a8 cN U (qO 2 U ?_))
 refine aU (ι:=Nat×Int) (fun i=>[(0,.slice eD l.length eC)]) (fun i=>h) (fun i=>[]) (fun i=>i.1≤l.length∧cv l limit=((cv.K1 l) i.2)) ?_ (fun hx1=>?_)
 ·rintro ⟨i1,iO⟩ ⟨aP,hs1⟩ e
  try dsimp only at aP
  refine qT 3 U (a8 cN U (qO 3 U ?_))
  exact ah [.bool (decide (((l.length:Nat):Int)≤16))] Tryz.func174 U hX rd (cs hs1)
 ·refine bG (ι:=Nat×Int×List Int) (fun i=>[(0,.slice eD l.length eC),(1,I limit),(5,I i.2.1),(8,.slice eD l.length eC),(9,I ((l.length:Nat):Int)),(10,I ((i.1:Nat):Int))]) (fun i=>h) (fun i=>[]) (fun i=>l.drop i.1=i.2.2∧i.1≤l.length∧cv l limit=((cv.L1 limit (cv.K1 l)) i.2.2 i.2.1)) (fun i=>i.2.2.length) (0,(-1),l) rd sw ⟨U,Nat.zero_le _,hs0⟩ ?_
  rintro ⟨i1,iO,s1⟩ ⟨hd1,aP,hs3⟩ ag1 e
  try dsimp only at hd1 aP
  rcases s1 with _ | ⟨y1,rz1⟩
  ·have dr:=cw hd1
   refine sr (ai (v':=.bool false) U (cb dr) (qO 4 U ?_))
   exact hx1 (i1,iO) _ ⟨aP,hs3⟩ rd
  ·have dq:=dy hd1
   have aM:=cA hd1
   have ey:=aE hd1
   have gi:=hl.1.1
   refine sr (ai (v':=.bool true) U (cb dq) (qO 8 U (aN (eU (enc:=fun y=>[I y]) (fun _ _ _ e=>e) cN ty3 hl.1 (nthZ aM) (aV aM) U U U (fun q2 A2=>?_)))))
   refine dv ty3 A2 U (qO 9 U ?_)
   refine ar 4 [17,18,19,20,21] 21 (.bool (decide (y1≤iO)||decide (limit≤y1))) (fun hk1=>?_) (fun e=>?_)
   ·refine ac 17 U (fun c1=>?_) (fun c1=>?_)
    ·refine qO 4 U ?_
     exact hk1 _ (cb (dW c1))
    ·refine qO 4 U ?_
     exact hk1 _ (cb (dX c1))
   refine bh ?_
   refine ak hs3 U (fun c2 hs5=>?_) (fun c2 hs6=>?_)
   ·refine qT 4 U ?_
    exact ah [.bool false] Tryz.func174 U hX rd (cs hs5)
   ·refine qT 7 U (ai (v':=I (((i1+1):Nat):Int)) U (bz ob) (qO 2 U ?_))
    exact ag1 ((i1+1),y1,rz1) _ (Nat.lt_succ_self _) ⟨ba hd1,aE hd1,hs6⟩ rd
theorem ut (h:HF) (d:Document) (uv:il) (hd:Document.ok h d uv):Ret Tryz.prog 105 [.agg (Document.cells d uv).toArray] h (.bool (fL d)):=by
 refine ae Tryz.func105 U Tryz.ntmps105 U fun X hM hX=>?_
 have hs0:fL d=fL d:=rfl
 refine sr (dt (fun b1=>qO 4 U (aj ka U (aI 0 ty3 U U U (qO 2 U ?_)))))
 refine ar 4 [7,8,9,10,11] 11 (.bool (decide (0≤d.No)&&decide (d.No < 4096))) (fun hk1=>?_) (fun e=>?_)
 ·refine ac 7 U (fun c1=>?_) (fun c1=>?_)
  ·refine aj ka U (aI 0 ty3 U U U (qO 2 U ?_))
   exact hk1 _ (cb (cB c1))
  ·refine qO 4 U ?_
   exact hk1 _ (cb (cC c1))
 refine aB ?_
 refine ar 4 [12,13,14,15,16] 16 (.bool ((decide (0≤d.No)&&decide (d.No < 4096))&&(eV d.At))) (fun hk2=>?_) (fun e=>?_)
 ·refine ac 12 U (fun c2=>?_) (fun c2=>?_)
  ·refine aj nf U (aI 0 ty3 U U U (au (v:=.bool (eV d.At)) Tryz.call173 (vr h d.At ) U (eH U ?_)))
   exact hk2 _ (cb (cB c2))
  ·refine qO 4 U ?_
   exact hk2 _ (cb (cC c2))
 refine aB ?_
 refine ar 4 [17,18,19,20,21] 21 (.bool (((decide (0≤d.No)&&decide (d.No < 4096))&&(eV d.At))&&decide (0≤d.Kind))) (fun hk3=>?_) (fun e=>?_)
 ·refine ac 17 U (fun c3=>?_) (fun c3=>?_)
  ·refine aj vh U (aI 0 ty3 U U U (qO 2 U ?_))
   exact hk3 _ (cb (cB c3))
  ·refine qO 4 U ?_
   exact hk3 _ (cb (cC c3))
 refine aB ?_
 refine ar 4 [22,23,24,25,26] 26 (.bool ((((decide (0≤d.No)&&decide (d.No < 4096))&&(eV d.At))&&decide (0≤d.Kind))&&decide (d.Kind < 16))) (fun hk4=>?_) (fun e=>?_)
 ·refine ac 22 U (fun c4=>?_) (fun c4=>?_)
  ·refine aj vh U (aI 0 ty3 U U U (qO 2 U ?_))
   exact hk4 _ (cb (cB c4))
  ·refine qO 4 U ?_
   exact hk4 _ (cb (cC c4))
 refine aB ?_
 refine ar 4 [27,28,29,30,31] 31 (.bool (((((decide (0≤d.No)&&decide (d.No < 4096))&&(eV d.At))&&decide (0≤d.Kind))&&decide (d.Kind < 16))&&decide (0≤d.Value))) (fun hk5=>?_) (fun e=>?_)
 ·refine ac 27 U (fun c5=>?_) (fun c5=>?_)
  ·refine aj vg U (aI 0 ty3 U U U (qO 2 U ?_))
   exact hk5 _ (cb (cB c5))
  ·refine qO 4 U ?_
   exact hk5 _ (cb (cC c5))
 refine aB ?_
 refine ar 4 [32,33,34,35,36] 36 (.bool ((((((decide (0≤d.No)&&decide (d.No < 4096))&&(eV d.At))&&decide (0≤d.Kind))&&decide (d.Kind < 16))&&decide (0≤d.Value))&&decide (d.Value≤1099511627776))) (fun hk6=>?_) (fun e=>?_)
 ·refine ac 32 U (fun c6=>?_) (fun c6=>?_)
  ·refine aj vg U (aI 0 ty3 U U U (qO 2 U ?_))
   exact hk6 _ (cb (cB c6))
  ·refine qO 4 U ?_
   exact hk6 _ (cb (cC c6))
 refine qO 6 U ?_
 refine ar 4 [38,39,40,41,42] 42 (.bool (((((((decide (0≤d.No)&&decide (d.No < 4096))&&(eV d.At))&&decide (0≤d.Kind))&&decide (d.Kind < 16))&&decide (0≤d.Value))&&decide (d.Value≤1099511627776))&&decide (0≤d.From))) (fun hk7=>?_) (fun e=>?_)
 ·refine ac 38 U (fun c7=>?_) (fun c7=>?_)
  ·refine aj xw U (aI 0 ty3 U U U (qO 2 U ?_))
   exact hk7 _ (cb (cB c7))
  ·refine qO 4 U ?_
   exact hk7 _ (cb (cC c7))
 refine aB ?_
 refine ar 6 [43,44,45,46,47,48,49] 49 (.bool ((((((((decide (0≤d.No)&&decide (d.No < 4096))&&(eV d.At))&&decide (0≤d.Kind))&&decide (d.Kind < 16))&&decide (0≤d.Value))&&decide (d.Value≤1099511627776))&&decide (0≤d.From))&&decide (d.From < d.Until))) (fun hk8=>?_) (fun e=>?_)
 ·refine ac 43 U (fun c8=>?_) (fun c8=>?_)
  ·refine aj xw U (aI 0 ty3 U U U (aj s9 U (aI 0 ty3 U U U (qO 2 U ?_))))
   exact hk8 _ (cb (cB c8))
  ·refine qO 6 U ?_
   exact hk8 _ (cb (cC c8))
 refine aB ?_
 refine ar 4 [50,51,52,53,54] 54 (.bool (((((((((decide (0≤d.No)&&decide (d.No < 4096))&&(eV d.At))&&decide (0≤d.Kind))&&decide (d.Kind < 16))&&decide (0≤d.Value))&&decide (d.Value≤1099511627776))&&decide (0≤d.From))&&decide (d.From < d.Until))&&decide (d.Until≤1099511627776))) (fun hk9=>?_) (fun e=>?_)
 ·refine ac 50 U (fun c9=>?_) (fun c9=>?_)
  ·refine aj s9 U (aI 0 ty3 U U U (qO 2 U ?_))
   exact hk9 _ (cb (cB c9))
  ·refine qO 4 U ?_
   exact hk9 _ (cb (cC c9))
 refine aB ?_
 refine ar 4 [55,56,57,58,59] 59 (.bool ((((((((((decide (0≤d.No)&&decide (d.No < 4096))&&(eV d.At))&&decide (0≤d.Kind))&&decide (d.Kind < 16))&&decide (0≤d.Value))&&decide (d.Value≤1099511627776))&&decide (0≤d.From))&&decide (d.From < d.Until))&&decide (d.Until≤1099511627776))&&(cv d.Parties 1048577))) (fun hk10=>?_) (fun e=>?_)
 ·refine ac 55 U (fun c10=>?_) (fun c10=>?_)
  ·refine aj xu U (aI 0 ty31 U U U (au (v:=.bool (cv d.Parties 1048577)) Tryz.call174 (mO h d.Parties uv.m4 uv.mZ 1048577 hd.Parties) U (eH U ?_)))
   exact hk10 _ (cb (cB c10))
  ·refine qO 4 U ?_
   exact hk10 _ (cb (cC c10))
 refine aB ?_
 refine ar 6 [60,61,62,63,64,65,66] 66 (.bool (((((((((((decide (0≤d.No)&&decide (d.No < 4096))&&(eV d.At))&&decide (0≤d.Kind))&&decide (d.Kind < 16))&&decide (0≤d.Value))&&decide (d.Value≤1099511627776))&&decide (0≤d.From))&&decide (d.From < d.Until))&&decide (d.Until≤1099511627776))&&(cv d.Parties 1048577))&&(cv d.Revokes d.No))) (fun hk11=>?_) (fun e=>?_)
 ·refine ac 60 U (fun c11=>?_) (fun c11=>?_)
  ·refine aj s8 U (aI 0 ty31 U U U (aj ka U (aI 0 ty3 U U U (au (v:=.bool (cv d.Revokes d.No)) Tryz.call174 (mO h d.Revokes uv.ly uv.lx d.No hd.Revokes) U (eH U ?_)))))
   exact hk11 _ (cb (cB c11))
  ·refine qO 6 U ?_
   exact hk11 _ (cb (cC c11))
 refine aB ?_
 refine ar 6 [67,68,69,70,71,72,73] 73 (.bool ((((((((((((decide (0≤d.No)&&decide (d.No < 4096))&&(eV d.At))&&decide (0≤d.Kind))&&decide (d.Kind < 16))&&decide (0≤d.Value))&&decide (d.Value≤1099511627776))&&decide (0≤d.From))&&decide (d.From < d.Until))&&decide (d.Until≤1099511627776))&&(cv d.Parties 1048577))&&(cv d.Revokes d.No))&&(cv d.Needs d.No))) (fun hk12=>?_) (fun e=>?_)
 ·refine ac 67 U (fun c12=>?_) (fun c12=>?_)
  ·refine aj s6 U (aI 0 ty31 U U U (aj ka U (aI 0 ty3 U U U (au (v:=.bool (cv d.Needs d.No)) Tryz.call174 (mO h d.Needs uv.nZ uv.nY d.No hd.Needs) U (eH U ?_)))))
   exact hk12 _ (cb (cB c12))
  ·refine qO 6 U ?_
   exact hk12 _ (cb (cC c12))
 refine an ?_
 exact ah [.bool ((((((((((((decide (0≤d.No)&&decide (d.No < 4096))&&(eV d.At))&&decide (0≤d.Kind))&&decide (d.Kind < 16))&&decide (0≤d.Value))&&decide (d.Value≤1099511627776))&&decide (0≤d.From))&&decide (d.From < d.Until))&&decide (d.Until≤1099511627776))&&(cv d.Parties 1048577))&&(cv d.Revokes d.No))&&(cv d.Needs d.No))] Tryz.func105 U hX rd (cs hs0)
theorem lP (h:HF) (no:Int) (v0:gz) (J4:n0) (v0_q:Addr) (hv0:gz.ok h v0 J4) (av0:At h v0_q (gz.cells v0 J4)):Ret Tryz.prog 175 [I no,.pointer (some v0_q)] h (.bool (dO no v0)):=by
 refine ae Tryz.func175 U Tryz.ntmps175 U fun X hM hX=>?_
 have hs0:dO no v0=dO no v0:=rfl
 refine qT 6 U (aj Dy U (km (j:=1) ty176 av0 U U (aB ?_)))
 obtain ⟨o1,hb1,hm1⟩:=hv0.at_
 refine aN (wq (k:=no) Tryz.underlying176 (eO kK) hb1 hm1 (jf zv3) (show zT _ (I 0) 0 from U) U U (fun v1 hv1=>?_))
 obtain rfl:=hv1
 refine qO 12 U ?_
 exact ah [.bool (!(mhas v0.at_ no))] Tryz.func175 U hX rd (cs hs0)
theorem mN (h:HF) (s:gz) (Kg:n0) (d:Document) (uv:il) (hs:gz.ok h s Kg) (hd:Document.ok h d uv):Ret Tryz.prog 106 [.agg (gz.cells s Kg).toArray,.agg (Document.cells d uv).toArray] h (.bool (er s d)):=by
 refine ae Tryz.func106 U Tryz.ntmps106 U fun X hM hX=>?_
 have hs0:er s d=er s d:=rfl
 refine sr (dt (fun b1=>dt (fun b2=>qO 4 U (bX 1 U hM (fun h1 hle1 hb1=>aN (gg U U (qO 4 U (aj s8 U (aI 0 ty31 U U U (aB (au (v:=.bool (cK d.Revokes (fun eo=>dO eo s))) GM (iy h1 d.Revokes uv.ly uv.lx (fun eo=>dO eo s) (.func (.func 175) #[] #[Q b1]) (hd.Revokes.mono Rp.bi hle1) (fun h' eo hle =>iZ Tryz.call175 (lP h' eo s Kg ⟨b1,0,none⟩  ((hs.mono hle1).mono hle) ((dN hb1).mono hle)))) U (qO 2 U ?_))))))))))))
 refine ar 6 [12,13,14,15,16,17,18] 18 (.bool ((!(cK d.Revokes (fun eo=>dO eo s)))&&(!(cK d.Needs (fun eo=>dO eo s))))) (fun hk1=>?_) (fun e=>?_)
 ·refine ac 12 U (fun c1=>?_) (fun c1=>?_)
  ·refine aj s6 U (aI 0 ty31 U U U (aB (au (v:=.bool (cK d.Needs (fun eo=>dO eo s))) GM (iy h1 d.Needs uv.nZ uv.nY (fun eo=>dO eo s) (.func (.func 175) #[] #[Q b1]) (hd.Needs.mono Rp.bi hle1) (fun h' eo hle =>iZ Tryz.call175 (lP h' eo s Kg ⟨b1,0,none⟩  ((hs.mono hle1).mono hle) ((dN hb1).mono hle)))) U (qO 2 U ?_))))
   exact hk1 _ (cb (cB c1))
  ·refine qO 6 U ?_
   exact hk1 _ (cb (cC c1))
 refine an ?_
 exact ah [.bool ((!(cK d.Revokes (fun eo=>dO eo s)))&&(!(cK d.Needs (fun eo=>dO eo s))))] Tryz.func106 U hX rd (cs hs0)
theorem uu (h:HF) (l:(List Document)) (eD:Option Addr) (eC:Nat) (hl:SlC Document.rp h eD eC l):Ret Tryz.prog 56 [.slice eD l.length eC] h (I (bV l)):=by
 refine ae GF U Tryz.ntmps56 U fun X hM hX=>?_
 have hs0:bV l=bV l:=rfl
 refine qT 8 U (a8 lC U (qO 2 U ?_))
 refine ak hs0 U (fun c1 hs1=>?_) (fun c1 hs2=>?_)
 ·have c1p:=of_decide_eq_true c1
  refine qT 4 U ?_
  exact ah [I 2] GF U hX rd (ci hs1)
 ·have c1p:=of_decide_eq_false c1
  refine qT 4 U (aN (cy Tryz.call104 (rD h l eD eC hl) U (fun v1 h1 hle1 hp1=>?_)))
  obtain ⟨rr1,rfl,ok1⟩:=hp1
  refine bR zc178 (fun b1=>bL 0 ty178 U U U U U U (qO 5 U (a8 lC U (qO 2 U ?_))))
  let z1:Nat×Obj:=(b1,O (gz.cells (bn l) rr1) 178)
  refine aU (ι:=Nat) (fun i=>[]) (fun i=>h1) (fun i=>[z1]) (fun i=>i≤l.length∧bV l=((bV.K1))) ?_ (fun hx1=>?_)
  ·rintro i1 ⟨aP,hs4⟩ e
   try dsimp only at aP
   refine qT 4 U ?_
   exact ah [I 0] GF U hX rd (ci hs4)
  ·refine bG (ι:=Nat×List Document) (fun i=>[(0,.slice eD l.length eC),(3,Q b1),(11,.slice eD l.length eC),(12,I ((l.length:Nat):Int)),(13,I ((i.1:Nat):Int))]) (fun i=>h1) (fun i=>[z1]) (fun i=>l.drop i.1=i.2∧i.1≤l.length∧bV l=((bV.L1 l (bV.K1)) i.2 i.1)) (fun i=>i.2.length) (0,l) rd sw ⟨U,Nat.zero_le _,hs2⟩ ?_
   rintro ⟨i1,s1⟩ ⟨hd1,aP,hs6⟩ ag1 e
   try dsimp only at hd1 aP
   rcases s1 with _ | ⟨y1,rz1⟩
   ·have dr:=cw hd1
    refine sr (ai (v':=.bool false) U (cb dr) (qO 4 U ?_))
    exact hx1 i1 _ ⟨aP,hs6⟩ trivial
   ·have dq:=dy hd1
    have aM:=cA hd1
    have ey:=aE hd1
    have gi:=(hl.mono Document.aD hle1).1.1
    refine sr (ai (v':=.bool true) U (cb dq) (qO 9 U (aN (fF lC ty52 (hl.mono Document.aD hle1).1 (nthZ aM) (aV aM) U U U (fun q3 cs3 A3 ln3 rr4=>?_)))))
    obtain ⟨r3,rfl,ok4⟩:=rr4
    refine el ty52 A3 U U (bR zc52 (fun b3=>fx (bL 0 ty52 U U U U U U (qO 2 U ?_))))
    refine lX [(0,.slice eD l.length eC),(3,Q b1),(11,.slice eD l.length eC),(12,I ((l.length:Nat):Int)),(13,I ((i1:Nat):Int)),(41,.bool (((!(fL y1))||(decide (0 < ((i1:Nat):Int))&&decide (y1.No≤(nthI l (((i1:Nat):Int) - 1)).No)))||(!(er (bn l) y1))))] (fun e=>?_) (fun hk1=>?_)
    rotate_left
    ·let z2:Nat×Obj:=(b3,O (Document.cells y1 r3) 52)
     refine fd ([z2,z1]) mixed kr jn (fun dU _=>?_)
     refine tf 0 U U (fun _ _ hj=>jT ty52 U (hj.nth (i:=0) U) U) (tn 1 U (fB (v:=.bool (fL y1)) Tryz.call105 (ut h1 y1 r3 ok4) U (⟨jn,(qA [2,3] U ?_)⟩)))
     refine dM 21 U (fun c2=>?_) (fun c2=>?_)
     ·refine qR 4 20 U (bv kr ?_)
      exact hk1 _ ⟨U,U,U,U,U,(cb (show true=(((!(fL y1))||(decide (0 < ((i1:Nat):Int))&&decide (y1.No≤(nthI l (((i1:Nat):Int) - 1)).No)))||(!(er (bn l) y1))) from by rw [c2] <;> rfl)),trivial⟩
     ·refine qR 4 3 U ?_
      refine dM 24 U (fun c3=>?_) (fun c3=>?_)
      ·have c3p:=of_decide_eq_true c3
       refine tf 7 U U (fun _ _ _=>dx ka U) (tf 8 U U (fun _ _ hj=>gH ty3 U (hj.nth (i:=0) U) U) (qA [9,10] U (tf 11 U U (fun _ _ _=>nF (v':=I (((i1:Nat):Int) - 1)) U (im ob)) ?_)))
       have ho2:0≤((((i1:Nat):Int) - 1):Int)∧((((i1:Nat):Int) - 1):Int) < ((l).length:Int):=ob
       refine io 12 dU jn lC ty52 (hl.mono Document.aD hle1).1 ho2 (df ho2) U U U U kr (fun q4 cs4 A4 ln4 rr5=>?_)
       obtain ⟨r4,rfl,ok5⟩:=rr5
       refine tf 13 U U (fun _ _ _=>dx ka U) (tf 14 U U (fun _ _ hj=>fK ty3 (A4.mono hj.1) U) (qR 15 4 U ?_))
       refine dM 36 U (fun c4=>?_) (fun c4=>?_)
       ·have c4p:=of_decide_eq_true c4
        refine qR 19 5 U (bv kr ?_)
        exact hk1 _ ⟨U,U,U,U,U,(cb (show true=(((!(fL y1))||(decide (0 < ((i1:Nat):Int))&&decide (y1.No≤(nthI l (((i1:Nat):Int) - 1)).No)))||(!(er (bn l) y1))) from by rw [c2,c3,c4] <;> rfl)),trivial⟩
       ·have c4p:=of_decide_eq_false c4
        refine tf 19 U U (fun _ _ hj=>jT ty178 U (hj.nth (i:=1) U) U) (tf 20 U U (fun _ _ hj=>jT ty52 U (hj.nth (i:=0) U) U) ?_)
        refine tn 21 U (fB (v:=.bool (er (bn l) y1)) Tryz.call106 (mN h1 (bn l) rr1 y1 r3 ok1 ok4) U (⟨jn,(qA [22,23] U (bv kr ?_))⟩))
        exact hk1 _ ⟨U,U,U,U,U,(cb (show (!(er (bn l) y1))=(((!(fL y1))||(decide (0 < ((i1:Nat):Int))&&decide (y1.No≤(nthI l (((i1:Nat):Int) - 1)).No)))||(!(er (bn l) y1))) from by rw [c2,c3,c4] <;> rfl)),trivial⟩
      ·have c3p:=of_decide_eq_false c3
       refine qR 7 12 U (tf 19 U U (fun _ _ hj=>jT ty178 U (hj.nth (i:=1) U) U) (tf 20 U U (fun _ _ hj=>jT ty52 U (hj.nth (i:=0) U) U) ?_))
       refine tn 21 U (fB (v:=.bool (er (bn l) y1)) Tryz.call106 (mN h1 (bn l) rr1 y1 r3 ok1 ok4) U (⟨jn,(qA [22,23] U (bv kr ?_))⟩))
       exact hk1 _ ⟨U,U,U,U,U,(cb (show (!(er (bn l) y1))=(((!(fL y1))||(decide (0 < ((i1:Nat):Int))&&decide (y1.No≤(nthI l (((i1:Nat):Int) - 1)).No)))||(!(er (bn l) y1))) from by rw [c2,c3] <;> rfl)),trivial⟩
    refine ak hs6 U (fun c5 hs8=>?_) (fun c5 hs9=>?_)
    ·refine qT 4 U ?_
     exact ah [I 170] GF U hX rd (ci hs8)
    ·refine qT 3 U (ai (v':=I (((i1+1):Nat):Int)) U (bz ob) (qO 2 U ?_))
     refine cG (L':=[z1]) js ?_
     exact ag1 ((i1+1),rz1) _ (Nat.lt_succ_self _) ⟨ba hd1,aE hd1,hs9⟩ rd
theorem rF (h:HF) (dL:Int) (v0:Int) (v0_q:Addr) (av0:At h v0_q [I v0]):Ret Tryz.prog 226 [I dL,.pointer (some v0_q)] h (.bool (gM dL v0)):=by
 refine ae Tryz.func226 U Tryz.ntmps226 U fun X hM hX=>?_
 have hs0:gM dL v0=gM dL v0:=rfl
 refine qT 9 U ?_
 refine ar 4 [6,7,8,9,10] 10 (.bool (decide (dL < 0)||decide (v0 < dL))) (fun hk1=>?_) (fun e=>?_)
 ·refine ac 6 U (fun c1=>?_) (fun c1=>?_)
  ·refine qO 4 U ?_
   exact hk1 _ (cb (dW c1))
  ·refine aB (dv ty3 av0 U (qO 2 U ?_))
   exact hk1 _ (cb (dX c1))
 refine an ?_
 exact ah [.bool (decide (dL < 0)||decide (v0 < dL))] Tryz.func226 U hX rd (cs hs0)
theorem jr (h:HF) (most:Int) (l:(List Int)) (eD:Option Addr) (eC:Nat) (hl:SlC Rp.int h eD eC l):Ret Tryz.prog 177 [I most,.slice eD l.length eC] h (.bool (cj most l)):=by
 refine ae Tryz.func177 U Tryz.ntmps177 U fun X hM hX=>?_
 have hs0:cj most l=cj most l:=rfl
 refine sr (dt (fun b1=>qO 5 U (bX 0 U hM (fun h1 hle1 hb1=>aN (gg U U (au (v:=.bool (cK l (fun eo=>gM eo most))) GM (iy h1 l eD eC (fun eo=>gM eo most) (.func (.func 226) #[] #[Q b1]) (hl.mono Rp.bi hle1) (fun h' eo hle =>iZ Tryz.call226 (rF h' eo most ⟨b1,0,none⟩  ((dN hb1).mono hle)))) U (qO 3 U ?_)))))))
 exact ah [.bool (!(cK l (fun eo=>gM eo most)))] Tryz.func177 U hX rd (cs hs0)
open Go.Proofs
set_option maxHeartbeats 2000000
theorem uy (h:HF) (x:Approval)  : Ret Tryz.prog 107 [.agg (Approval.cells x).toArray] h (.bool (iM x)):=by
 refine ae Tryz.func107 U Tryz.ntmps107 U fun X hM hX=>?_
 have hs0:iM x=iM x:=rfl
 refine sr (dt (fun b1=>qO 4 U (aj qi U (aI 0 ty3 U U U (aN (bK (cells:=[I x.No]) cN ty3 zc3 U U kr (fun b2=>bX 0 U hM (fun h1 hle1 hb1=>?_))))))))
 have sl1:SlC Rp.int h1 (some ⟨b2,0,none⟩) 1 ([x.No]):=bD.slB0 (T:=3) (fz:=(0,0)) ((show bD Rp.int h [I x.No] ([x.No]) from ⟨[I x.No],[],rfl,rfl,rfl,rfl⟩).mono Rp.bi hle1) hb1
 refine au (v:=.bool (cj 1048576 ([x.No]))) E7 (jr h1 1048576 ([x.No]) (some ⟨b2,0,none⟩) 1 sl1) U (aB ?_)
 refine ar 7 [7,8,9,10,11,12,13,14] 14 (.bool ((cj 1048576 ([x.No]))&&(cj 1099511627775 ([x.At,x.Known])))) (fun hk1=>?_) (fun e=>?_)
 ·refine ac 7 U (fun c1=>?_) (fun c1=>?_)
  ·refine aj Dx U (aI 0 ty3 U U U (aj Dw U (aI 0 ty3 U U U (aN (bK (cells:=[I x.At,I x.Known]) cN ty3 zc3 U U kr (fun b3=>bX 0 U hM (fun h2 hle2 hb2=>?_)))))))
   have sl2:SlC Rp.int h2 (some ⟨b3,0,none⟩) 2 ([x.At,x.Known]):=bD.slB0 (T:=3) (fz:=(0,0)) ((show bD Rp.int h1 [I x.At,I x.Known] ([x.At,x.Known]) from ⟨[I x.At],[I x.Known],rfl,rfl,rfl,⟨[I x.Known],[],rfl,rfl,rfl,rfl⟩⟩).mono Rp.bi hle2) hb2
   refine au (v:=.bool (cj 1099511627775 ([x.At,x.Known]))) E7 (jr h2 1099511627775 ([x.At,x.Known]) (some ⟨b3,0,none⟩) 2 sl2) U (eH U (kT (h:=h1) hle2 hX hle1 ?_))
   exact hk1 _ (cb (cB c1))
  ·refine qO 7 U ?_
   exact hk1 _ (cb (cC c1))
 refine aB ?_
 refine ar 5 [15,16,17,18,19,20] 20 (.bool (((cj 1048576 ([x.No]))&&(cj 1099511627775 ([x.At,x.Known])))&&(cj 4095 ([x.Doc])))) (fun hk2=>?_) (fun e=>?_)
 ·refine ac 15 U (fun c2=>?_) (fun c2=>?_)
  ·refine aj Dv U (aI 0 ty3 U U U (aN (bK (cells:=[I x.Doc]) cN ty3 zc3 U U kr (fun b4=>bX 0 U hM (fun h3 hle3 hb3=>?_)))))
   have sl3:SlC Rp.int h3 (some ⟨b4,0,none⟩) 1 ([x.Doc]):=bD.slB0 (T:=3) (fz:=(0,0)) ((show bD Rp.int h1 [I x.Doc] ([x.Doc]) from ⟨[I x.Doc],[],rfl,rfl,rfl,rfl⟩).mono Rp.bi hle3) hb3
   refine au (v:=.bool (cj 4095 ([x.Doc]))) E7 (jr h3 4095 ([x.Doc]) (some ⟨b4,0,none⟩) 1 sl3) U (eH U (kT (h:=h1) hle3 hX hle1 ?_))
   exact hk2 _ (cb (cB c2))
  ·refine qO 5 U ?_
   exact hk2 _ (cb (cC c2))
 refine aB ?_
 refine ar 7 [21,22,23,24,25,26,27,28] 28 (.bool ((((cj 1048576 ([x.No]))&&(cj 1099511627775 ([x.At,x.Known])))&&(cj 4095 ([x.Doc])))&&(cj 63 ([x.By,x.For])))) (fun hk3=>?_) (fun e=>?_)
 ·refine ac 21 U (fun c3=>?_) (fun c3=>?_)
  ·refine aj Du U (aI 0 ty3 U U U (aj Dt U (aI 0 ty3 U U U (aN (bK (cells:=[I x.By,I x.For]) cN ty3 zc3 U U kr (fun b5=>bX 0 U hM (fun h4 hle4 hb4=>?_)))))))
   have sl4:SlC Rp.int h4 (some ⟨b5,0,none⟩) 2 ([x.By,x.For]):=bD.slB0 (T:=3) (fz:=(0,0)) ((show bD Rp.int h1 [I x.By,I x.For] ([x.By,x.For]) from ⟨[I x.By],[I x.For],rfl,rfl,rfl,⟨[I x.For],[],rfl,rfl,rfl,rfl⟩⟩).mono Rp.bi hle4) hb4
   refine au (v:=.bool (cj 63 ([x.By,x.For]))) E7 (jr h4 63 ([x.By,x.For]) (some ⟨b5,0,none⟩) 2 sl4) U (eH U (kT (h:=h1) hle4 hX hle1 ?_))
   exact hk3 _ (cb (cB c3))
  ·refine qO 7 U ?_
   exact hk3 _ (cb (cC c3))
 refine aB ?_
 refine ar 5 [29,30,31,32,33,34] 34 (.bool (((((cj 1048576 ([x.No]))&&(cj 1099511627775 ([x.At,x.Known])))&&(cj 4095 ([x.Doc])))&&(cj 63 ([x.By,x.For])))&&(cj 31 ([x.Office])))) (fun hk4=>?_) (fun e=>?_)
 ·refine ac 29 U (fun c4=>?_) (fun c4=>?_)
  ·refine aj Ds U (aI 0 ty3 U U U (aN (bK (cells:=[I x.Office]) cN ty3 zc3 U U kr (fun b6=>bX 0 U hM (fun h5 hle5 hb5=>?_)))))
   have sl5:SlC Rp.int h5 (some ⟨b6,0,none⟩) 1 ([x.Office]):=bD.slB0 (T:=3) (fz:=(0,0)) ((show bD Rp.int h1 [I x.Office] ([x.Office]) from ⟨[I x.Office],[],rfl,rfl,rfl,rfl⟩).mono Rp.bi hle5) hb5
   refine au (v:=.bool (cj 31 ([x.Office]))) E7 (jr h5 31 ([x.Office]) (some ⟨b6,0,none⟩) 1 sl5) U (eH U (kT (h:=h1) hle5 hX hle1 ?_))
   exact hk4 _ (cb (cB c4))
  ·refine qO 5 U ?_
   exact hk4 _ (cb (cC c4))
 refine an ?_
 exact ah [.bool (((((cj 1048576 ([x.No]))&&(cj 1099511627775 ([x.At,x.Known])))&&(cj 4095 ([x.Doc])))&&(cj 63 ([x.By,x.For])))&&(cj 31 ([x.Office])))] Tryz.func107 U hX rd (cs hs0)
theorem uz (h:HF) (l:(List Approval)) (eD:Option Addr) (eC:Nat) (hl:SlC Approval.rp h eD eC l):Ret Tryz.prog 57 [.slice eD l.length eC] h (I (ct l)):=by
 refine ae GE U Tryz.ntmps57 U fun X hM hX=>?_
 have hs0:ct l=ct l:=rfl
 refine qT 8 U (a8 tC U (qO 2 U ?_))
 refine ak hs0 U (fun c1 hs1=>?_) (fun c1 hs2=>?_)
 ·have c1p:=of_decide_eq_true c1
  refine qT 4 U ?_
  exact ah [I 2] GE U hX rd (ci hs1)
 ·have c1p:=of_decide_eq_false c1
  refine qT 9 U (a8 tC U (qO 2 U ?_))
  refine aU (ι:=Nat×Int) (fun i=>[]) (fun i=>h) (fun i=>[]) (fun i=>i.1≤l.length∧ct l=((ct.K1) i.2)) ?_ (fun hx1=>?_)
  ·rintro ⟨i1,fW⟩ ⟨aP,hs4⟩ e
   try dsimp only at aP
   refine qT 4 U ?_
   exact ah [I 0] GE U hX rd (ci hs4)
  ·refine bG (ι:=Nat×Int×List Approval) (fun i=>[(3,I i.2.1),(9,.slice eD l.length eC),(10,I ((l.length:Nat):Int)),(11,I ((i.1:Nat):Int))]) (fun i=>h) (fun i=>[]) (fun i=>l.drop i.1=i.2.2∧i.1≤l.length∧ct l=((ct.L1 (ct.K1)) i.2.2 i.2.1)) (fun i=>i.2.2.length) (0,(-1),l) rd sw ⟨U,Nat.zero_le _,hs2⟩ ?_
   rintro ⟨i1,fW,s1⟩ ⟨hd1,aP,hs6⟩ ag1 e
   try dsimp only at hd1 aP
   rcases s1 with _ | ⟨y1,rz1⟩
   ·have dr:=cw hd1
    refine sr (ai (v':=.bool false) U (cb dr) (qO 4 U ?_))
    exact hx1 (i1,fW) _ ⟨aP,hs6⟩ trivial
   ·have dq:=dy hd1
    have aM:=cA hd1
    have ey:=aE hd1
    have gi:=hl.1.1
    refine sr (ai (v':=.bool true) U (cb dq) (qO 8 U (aN (eU (enc:=Approval.cells) (fun _ _ _ e=>e) tC ty181 hl.1 (nthZ aM) (aV aM) U U U (fun q2 A2=>?_)))))
    refine el ty181 A2 U U (bR zc181 (fun b2=>bL 0 ty181 U U U U U U (qO 4 U (dl 0 ty181 U U U (au (v:=.bool (iM y1)) Tryz.call107 (uy h y1 ) U (qO 2 U ?_))))))
    refine ar 5 [18,19,20,21,22,23] 23 (.bool ((!(iM y1))||decide (y1.No≤fW))) (fun hk1=>?_) (fun e=>?_)
    ·refine ac 18 U (fun c2=>?_) (fun c2=>?_)
     ·refine qO 5 U ?_
      exact hk1 _ (cb (dW c2))
     ·refine aj qi U (aI 0 ty3 U U U (qO 3 U ?_))
      exact hk1 _ (cb (dX c2))
    refine bh ?_
    refine ak hs6 U (fun c3 hs8=>?_) (fun c3 hs9=>?_)
    ·refine qT 4 U ?_
     exact ah [I 280] GE U hX rd (ci hs8)
    ·refine qT 2 U (aj qi U (aI 0 ty3 U U U (qO 4 U (ai (v':=I (((i1+1):Nat):Int)) U (bz ob) (qO 2 U ?_)))))
     refine cG (L':=[]) js ?_
     exact ag1 ((i1+1),y1.No,rz1) _ (Nat.lt_succ_self _) ⟨ba hd1,aE hd1,hs9⟩ rd
theorem sA (h:HF) (aR:Register) (cu:eB) (ia:Register.ok h aR cu) (hsm:smR aR) (hk:Kinds h):Ret Tryz.prog 26 [.agg (Register.cells aR cu).toArray] h (I (eX aR)):=by
 refine ae Tryz.func26 U Tryz.ntmps26 U fun X hM hX=>?_
 have hs0:eX aR=eX aR:=rfl
 have hsv:=hsm.vers
 refine sr (dt (fun b1=>qO 4 U ?_))
 let z1:Nat×Obj:=(b1,O (Register.cells aR cu) 30)
 refine fd ([z1]) mixed kr jn (fun dU _=>?_)
 refine tf 0 U U (fun _ _ _=>dx qZ U) (tf 1 U U (fun _ _ hj=>gH ty22 U (hj.nth (i:=0) U) U) (tf 3 U U (fun _ _ _=>dx BM U) ?_))
 refine tf 4 U U (fun _ _ hj=>gH ty23 U (hj.nth (i:=0) U) U) (tf 6 U U (fun _ _ _=>dx tb U) (tf 7 U U (fun _ _ hj=>gH ty24 U (hj.nth (i:=0) U) U) ?_))
 refine tf 9 U U (fun _ _ _=>dx BL U) (tf 10 U U (fun _ _ hj=>gH ty25 U (hj.nth (i:=0) U) U) (tf 12 U U (fun _ _ _=>dx lV U) ?_))
 refine tf 13 U U (fun _ _ hj=>gH ty26 U (hj.nth (i:=0) U) U) (tf 15 U U (fun _ _ _=>dx la U) (tf 16 U U (fun _ _ hj=>gH ty27 U (hj.nth (i:=0) U) U) ?_))
 refine tf 18 U U (fun _ _ _=>dx BK U) (tf 19 U U (fun _ _ hj=>gH ty28 U (hj.nth (i:=0) U) U) (tm 23 U ?_))
 refine tn 2 U (fB (v:=I (cx aR.Appoints)) Tryz.call51 (pR h aR.Appoints cu.iJ cu.iI ia.Appoints) U (⟨jn,?_⟩))
 refine tn 5 U (fB (v:=I (dg aR.Deputies)) Tryz.call52 (vu h aR.Deputies cu.j5 cu.j0 ia.Deputies) U (⟨jn,?_⟩))
 refine tn 8 U (fB (v:=I (cr aR.Interests)) Tryz.call53 (oA h aR.Interests cu.jz cu.jy ia.Interests) U (⟨jn,?_⟩))
 refine tn 11 U (fB (v:=I (dj aR.Budgets)) Tryz.call54 (we h aR.Budgets cu.kR cu.kQ ia.Budgets) U (⟨jn,?_⟩))
 refine tn 14 U (fB (v:=I (bA aR.Versions)) Tryz.call55 (nn h aR.Versions cu.ig cu.ie ia.Versions ob hk) U ?_)
 refine ⟨jn,(tn 17 U (fB (v:=I (bV aR.Docs)) Tryz.call56 (uu h aR.Docs cu.oT cu.oS ia.Docs) U ?_))⟩
 refine ⟨jn,(tn 20 U (fB (v:=I (ct aR.Approvals)) Tryz.call57 (uz h aR.Approvals cu.jB cu.jA ia.Approvals) U ?_))⟩
 refine ⟨jn,(tn 21 U (bK (cells:=[I (cx aR.Appoints),I (dg aR.Deputies),I (cr aR.Interests),I (dj aR.Budgets),I (bA aR.Versions),I (bV aR.Docs),I (ct aR.Approvals)]) Tryz.underlying117 ty35 zc35 U U kr (fun b2=>?_)))⟩
 refine ⟨jn,(tf 22 U U (fun _ _ _=>Fu Tryz.underlying117 U) ?_)⟩
 refine bv kr ?_
 refine e6 0 U hM (fun h1 hle1 hb1=>?_)
 have sl1:SlC Rp.int h1 (some ⟨b2,0,none⟩) 7 ([(cx aR.Appoints),(dg aR.Deputies),(cr aR.Interests),(dj aR.Budgets),(bA aR.Versions),(bV aR.Docs),(ct aR.Approvals)]):=bD.slB0 (T:=35) (fz:=(0,0)) ((show bD Rp.int h [I (cx aR.Appoints),I (dg aR.Deputies),I (cr aR.Interests),I (dj aR.Budgets),I (bA aR.Versions),I (bV aR.Docs),I (ct aR.Approvals)] ([(cx aR.Appoints),(dg aR.Deputies),(cr aR.Interests),(dj aR.Budgets),(bA aR.Versions),(bV aR.Docs),(ct aR.Approvals)]) from ⟨[I (cx aR.Appoints)],[I (dg aR.Deputies),I (cr aR.Interests),I (dj aR.Budgets),I (bA aR.Versions),I (bV aR.Docs),I (ct aR.Approvals)],rfl,rfl,rfl,⟨[I (dg aR.Deputies)],[I (cr aR.Interests),I (dj aR.Budgets),I (bA aR.Versions),I (bV aR.Docs),I (ct aR.Approvals)],rfl,rfl,rfl,⟨[I (cr aR.Interests)],[I (dj aR.Budgets),I (bA aR.Versions),I (bV aR.Docs),I (ct aR.Approvals)],rfl,rfl,rfl,⟨[I (dj aR.Budgets)],[I (bA aR.Versions),I (bV aR.Docs),I (ct aR.Approvals)],rfl,rfl,rfl,⟨[I (bA aR.Versions)],[I (bV aR.Docs),I (ct aR.Approvals)],rfl,rfl,rfl,⟨[I (bV aR.Docs)],[I (ct aR.Approvals)],rfl,rfl,rfl,⟨[I (ct aR.Approvals)],[],rfl,rfl,rfl,rfl⟩⟩⟩⟩⟩⟩⟩).mono Rp.bi hle1) hb1
 refine aU (ι:=Nat) (fun i=>[]) (fun i=>h1) (fun i=>[z1]) (fun i=>i≤(List.range 7).length∧eX aR=((eX.K1))) ?_ (fun hx1=>?_)
 ·rintro i1 ⟨aP,hs1⟩ e
  try dsimp only at aP
  refine qT 4 U ?_
  exact ah [I 0] Tryz.func26 U hX rd (ci hs1)
 ·refine bG (ι:=Nat×List Nat) (fun i=>[(26,.slice (some ⟨b2,0,none⟩) 7 7),(27,I 7),(28,I ((i.1:Nat):Int))]) (fun i=>h1) (fun i=>[z1]) (fun i=>(List.range 7).drop i.1=i.2∧i.1≤(List.range 7).length∧eX aR=((eX.L1 aR (eX.K1)) i.2 i.1)) (fun i=>i.2.length) (0,(List.range 7)) rd sw ⟨U,Nat.zero_le _,hs0⟩ ?_
  rintro ⟨i1,s1⟩ ⟨hd1,aP,hs3⟩ ag1 e
  try dsimp only at hd1 aP
  rcases s1 with _ | ⟨y1,rz1⟩
  ·have dr:decide (((i1:Nat):Int) < 7)=false:=by simpa using cw hd1
   refine sr (ai (v':=.bool false) U (cb dr) (qO 4 U ?_))
   exact hx1 i1 _ ⟨aP,hs3⟩ trivial
  ·have dq:decide (((i1:Nat):Int) < 7)=true:=by simpa using dy hd1
   have ey:i1 < 7:=by simpa using aE hd1
   refine sr (ai (v':=.bool true) U (cb dq) (qO 8 U ?_))
   have ho2:0≤(((i1:Nat):Int):Int)∧(((i1:Nat):Int):Int) < (([(cx aR.Appoints),(dg aR.Deputies),(cr aR.Interests),(dj aR.Budgets),(bA aR.Versions),(bV aR.Docs),(ct aR.Approvals)]).length:Int):=ob
   refine aN (eU (enc:=fun y=>[I y]) (fun _ _ _ e=>e) Tryz.underlying117 ty35 sl1.1 ho2 (df ho2) U U U (fun q2 A2=>dv ty35 A2 U (qO 7 U ?_)))
   refine ak hs3 U (fun c2 hs5=>?_) (fun c2 hs6=>?_)
   ·refine qT 4 U ?_
    exact ah [I 300] Tryz.func26 U hX rd (ci hs5)
   ·refine qT 3 U (ai (v':=I (((i1+1):Nat):Int)) U (bz ob) (qO 2 U ?_))
    exact ag1 ((i1+1),rz1) _ (Nat.lt_succ_self _) ⟨ba hd1,aE hd1,hs6⟩ rd
theorem vx (h:HF) (t:Int)  : Ret Tryz.prog 37 [I t] h (.bool (iY t)):=by
 refine ae Tryz.func37 U Tryz.ntmps37 U fun X hM hX=>?_
 have hs0:iY t=iY t:=rfl
 refine qT 9 U ?_
 refine ar 3 [5,6,7,8] 8 (.bool (decide (0≤t)&&decide (t < 1099511627776))) (fun hk1=>?_) (fun e=>?_)
 ·refine ac 5 U (fun c1=>?_) (fun c1=>?_)
  ·refine qO 3 U ?_
   exact hk1 _ (cb (cB c1))
  ·refine qO 3 U ?_
   exact hk1 _ (cb (cC c1))
 refine an ?_
 exact ah [.bool (decide (0≤t)&&decide (t < 1099511627776))] Tryz.func37 U hX rd (cs hs0)
theorem nE (h:HF) (s:(List Document)) (qB:Option Addr) (pK:Nat) (f:(Document→Bool)) (f_v:Value) (hs:SlC Document.rp h qB pK s) (hf:∀ (h':HF) (eo:Document) (I9:il),HF.le h h'→Document.ok h' eo I9→wh Tryz.prog f_v [.agg (Document.cells eo I9).toArray] h' [] (.bool (f eo))):Ret Tryz.prog 58 [.slice qB s.length pK,f_v] h (I (aa s f)):=by
 refine ae Tryz.func58 U Tryz.ntmps58 U fun X hM hX=>?_
 have hs0:aa s f=aa s f:=rfl
 refine qT 8 U (a8 lC U (qO 2 U ?_))
 refine aU (ι:=Nat) (fun i=>[]) (fun i=>h) (fun i=>[]) (fun i=>i≤s.length∧aa s f=((aa.K1))) ?_ (fun hx1=>?_)
 ·rintro i1 ⟨aP,hs1⟩ e
  try dsimp only at aP
  refine qT 4 U ?_
  exact ah [I (-1)] Tryz.func58 U hX rd (ci hs1)
 ·refine bG (ι:=Nat×List Document) (fun i=>[(0,.slice qB s.length pK),(1,f_v),(7,I ((s.length:Nat):Int)),(8,I ((i.1:Nat):Int))]) (fun i=>h) (fun i=>[]) (fun i=>s.drop i.1=i.2∧i.1≤s.length∧aa s f=((aa.L1 f (aa.K1)) i.2 i.1)) (fun i=>i.2.length) (0,s) rd sw ⟨U,Nat.zero_le _,hs0⟩ ?_
  rintro ⟨i1,s1⟩ ⟨hd1,aP,hs3⟩ ag1 e
  try dsimp only at hd1 aP
  rcases s1 with _ | ⟨y1,rz1⟩
  ·have dr:=cw hd1
   refine sr (ai (v':=.bool false) U (cb dr) (qO 4 U ?_))
   exact hx1 i1 _ ⟨aP,hs3⟩ trivial
  ·have dq:=dy hd1
   have aM:=cA hd1
   have ey:=aE hd1
   have gi:=hs.1.1
   refine sr (ai (v':=.bool true) U (cb dq) (qO 16 U (aN (fF lC ty52 hs.1 (nthZ aM) (aV aM) U U U (fun q2 cs2 A2 ln2 rr2=>?_)))))
   obtain ⟨r2,rfl,ok2⟩:=rr2
   refine el ty52 A2 U U (aN (nO (v:=.bool (f y1)) [] (List.nil_sublist _) (hf h y1 r2 (HF.le_refl _) ok2) U U (bh ?_)))
   refine ak hs3 U (fun c2 hs5=>?_) (fun c2 hs6=>?_)
   ·refine qT 5 U ?_
    exact ah [I ((i1:Nat):Int)] Tryz.func58 U hX rd (ci hs5)
   ·refine qT 3 U (ai (v':=I (((i1+1):Nat):Int)) U (bz ob) (qO 2 U ?_))
    exact ag1 ((i1+1),rz1) _ (Nat.lt_succ_self _) ⟨ba hd1,aE hd1,hs6⟩ rd
theorem vW (s:List Document) (f:Document→Bool):aa s f < (s.length:Int):=by
 have key:∀ (l:List Document) (i:Nat),aa.L1 f aa.K1 l i < ((i+l.length:Nat):Int):=by
  intro l
  induction l with
  | nil=>intro i;simp only [aa.L1,aa.K1];omega
  | cons y l ih=>
   intro i
   simp only [aa.L1,Bool.cond_eq_ite,List.length_cons]
   split
   ·omega
   ·have:=ih (i+1);omega
 have:=key s 0
 simpa [aa] using this
theorem zR (h:HF) (d:Document) (uv:il) (v0:Int) (v0_q:Addr) (hd:Document.ok h d uv) (av0:At h v0_q [I v0]):Ret Tryz.prog 59 [.agg (Document.cells d uv).toArray,.pointer (some v0_q)] h (.bool (bY d v0)):=by
 refine ae Tryz.func59 U Tryz.ntmps59 U fun X hM hX=>?_
 have hs0:bY d v0=bY d v0:=rfl
 refine sr (dt (fun b1=>qO 4 U (aj ka U (aI 0 ty3 U U U (dv ty3 av0 U (qO 3 U ?_))))))
 exact ah [.bool (d.No==v0)] Tryz.func59 U hX rd (cs hs0)
theorem wV (h:HF) (aR:Register) (cu:eB) (doc:Int) (known:Int) (ia:Register.ok h aR cu):je Tryz.prog 27 [.agg (Register.cells aR cu).toArray,I doc,I known] h (fun v h'=>∃ (rr0:fS),v=.tuple #[.agg (aH.cells ((cU aR doc known).1) rr0).toArray,.bool ((cU aR doc known).2)]∧aH.ok h' ((cU aR doc known).1) rr0):=by
 refine ae Tryz.func27 U Tryz.ntmps27 U fun X hM hX=>?_
 have hs0:cU aR doc known=cU aR doc known:=rfl
 refine sr (dt (fun b1=>dt (fun b2=>bR zc77 (fun b3=>qO 4 U (aj la U (aI 2 ty27 U U U (bX 1 U hM (fun h1 hle1 hb1=>aN (gg U U (au (v:=I (aa aR.Docs (fun eo=>bY eo doc))) Tryz.call58 (nE h1 aR.Docs cu.oT cu.oS (fun eo=>bY eo doc) (.func (.func 59) #[] #[Q b2]) (ia.Docs.mono Document.aD hle1) (fun h' eo I9 hle a0_o=>iZ Tryz.call59 (zR h' eo I9 doc ⟨b2,0,none⟩ a0_o ((dN hb1).mono hle)))) U (qO 8 U ?_)))))))))))
 refine ar 4 [15,16,17,18,19] 19 (.bool (decide ((aa aR.Docs (fun eo=>bY eo doc)) < 0)||(!(iY known)))) (fun hk1=>?_) (fun e=>?_)
 ·refine ac 15 U (fun c1=>?_) (fun c1=>?_)
  ·refine qO 4 U ?_
   exact hk1 _ (cb (dW c1))
  ·refine aB (au (v:=.bool (iY known)) Tryz.call37 (vx h1 known ) U (qO 2 U ?_))
   exact hk1 _ (cb (dX c1))
 refine bh ?_
 refine ak hs0 U (fun c2 hs1=>?_) (fun c2 hs2=>?_)
 ·refine sr (dl 0 ty77 U U U (bL 0 ty77 U U U U U U (an ?_)))
  have hs3:cU aR doc known=((aH.mk (Register.mk ([]) ([]) ([]) ([]) ([]) ([]) ([])) (Document.mk 0 0 0 0 0 0 ([]) ([]) ([]) (fun _=>0)) 0),false):=hs1
  exact cJ [.agg (aH.cells (aH.mk (Register.mk ([]) ([]) ([]) ([]) ([]) ([]) ([])) (Document.mk 0 0 0 0 0 0 ([]) ([]) ([]) (fun _=>0)) 0) (fS.mk (eB.mk none 0 none 0 none 0 none 0 none 0 none 0 none 0) (il.mk none 0 none 0 none 0))).toArray,.bool false] Tryz.func27 U ⟨⟨0,_,_,_,_,U,U,.inl ⟨ty77,U⟩⟩,U,trivial⟩ ⟨(fS.mk (eB.mk none 0 none 0 none 0 none 0 none 0 none 0 none 0) (il.mk none 0 none 0 none 0)),congrArg (fun r:(aH×Bool)=>(.tuple #[.agg (aH.cells r.1 (fS.mk (eB.mk none 0 none 0 none 0 none 0 none 0 none 0 none 0) (il.mk none 0 none 0 none 0))).toArray,.bool r.2]:Value)) hs3.symm,(by rw [hs3];exact (show aH.ok h1 (aH.mk (Register.mk ([]) ([]) ([]) ([]) ([]) ([]) ([])) (Document.mk 0 0 0 0 0 0 ([]) ([]) ([]) (fun _=>0)) 0) (fS.mk (eB.mk none 0 none 0 none 0 none 0 none 0 none 0 none 0) (il.mk none 0 none 0 none 0)) from ⟨(show Register.ok h1 (Register.mk ([]) ([]) ([]) ([]) ([]) ([]) ([])) (eB.mk none 0 none 0 none 0 none 0 none 0 none 0 none 0) from ⟨SlC.nil,SlC.nil,SlC.nil,SlC.nil,SlC.nil,SlC.nil,SlC.nil⟩),(show Document.ok h1 (Document.mk 0 0 0 0 0 0 ([]) ([]) ([]) (fun _=>0)) (il.mk none 0 none 0 none 0) from ⟨SlC.nil,SlC.nil,SlC.nil⟩)⟩))⟩
 ·refine qT 2 U ?_
  let z1:Nat×Obj:=(b1,O (Register.cells aR cu) 30)
  refine fd ([z1]) mixed kr jn (fun dU _=>?_)
  refine tf 0 U U (fun _ _ hj=>jT ty30 U (hj.nth (i:=0) U) U) (tf 1 U U (fun _ _ _=>dx la U) ?_)
  refine tf 2 U U (fun _ _ hj=>gH ty27 U (hj.nth (i:=0) U) U) (tm 3 U ?_)
  have ho1:0≤((aa aR.Docs (fun eo=>bY eo doc)):Int)∧((aa aR.Docs (fun eo=>bY eo doc)):Int) < ((aR.Docs).length:Int):=(by have:=vW aR.Docs (fun eo=>bY eo doc);simp only [decide_eq_true_eq,decide_eq_false_iff_not,Bool.and_eq_true,Bool.or_eq_true,Bool.not_eq_true',Bool.not_eq_false',Bool.and_eq_false_iff,Bool.or_eq_false_iff,beq_iff_eq,beq_eq_false_iff_ne,bne_iff_ne,bne_eq_false_iff_eq,List.length_append,List.length_cons,List.length_nil,List.length_drop] at *;omega)
  refine io 4 dU jn lC ty52 (ia.Docs.mono Document.aD hle1).1 ho1 (df ho1) U U U U kr (fun q1 cs1 A1 ln1 rr1=>?_)
  obtain ⟨r1,rfl,ok1⟩:=rr1
  refine tf 5 U U (fun _ _ hj=>jK ty52 (A1.mono hj.1) U U) (tm 6 U ?_)
  refine tn 7 U (fq (cells:=[.slice cu.iJ aR.Appoints.length cu.iI,.slice cu.j5 aR.Deputies.length cu.j0,.slice cu.jz aR.Interests.length cu.jy,.slice cu.kR aR.Budgets.length cu.kQ,.slice cu.ig aR.Versions.length cu.ie,.slice cu.oT aR.Docs.length cu.oS,.slice cu.jB aR.Approvals.length cu.jA,I ((nthI aR.Docs (aa aR.Docs (fun eo=>bY eo doc))).No),I ((nthI aR.Docs (aa aR.Docs (fun eo=>bY eo doc))).At),I ((nthI aR.Docs (aa aR.Docs (fun eo=>bY eo doc))).Kind),I ((nthI aR.Docs (aa aR.Docs (fun eo=>bY eo doc))).Value),I ((nthI aR.Docs (aa aR.Docs (fun eo=>bY eo doc))).From),I ((nthI aR.Docs (aa aR.Docs (fun eo=>bY eo doc))).Until),.slice r1.m4 ((nthI aR.Docs (aa aR.Docs (fun eo=>bY eo doc))).Parties.length) r1.mZ,.slice r1.ly ((nthI aR.Docs (aa aR.Docs (fun eo=>bY eo doc))).Revokes.length) r1.lx,.slice r1.nZ ((nthI aR.Docs (aa aR.Docs (fun eo=>bY eo doc))).Needs.length) r1.nY,Y ((nthI aR.Docs (aa aR.Docs (fun eo=>bY eo doc))).Text 0),Y ((nthI aR.Docs (aa aR.Docs (fun eo=>bY eo doc))).Text 1),Y ((nthI aR.Docs (aa aR.Docs (fun eo=>bY eo doc))).Text 2),Y ((nthI aR.Docs (aa aR.Docs (fun eo=>bY eo doc))).Text 3),Y ((nthI aR.Docs (aa aR.Docs (fun eo=>bY eo doc))).Text 4),Y ((nthI aR.Docs (aa aR.Docs (fun eo=>bY eo doc))).Text 5),Y ((nthI aR.Docs (aa aR.Docs (fun eo=>bY eo doc))).Text 6),Y ((nthI aR.Docs (aa aR.Docs (fun eo=>bY eo doc))).Text 7),Y ((nthI aR.Docs (aa aR.Docs (fun eo=>bY eo doc))).Text 8),Y ((nthI aR.Docs (aa aR.Docs (fun eo=>bY eo doc))).Text 9),Y ((nthI aR.Docs (aa aR.Docs (fun eo=>bY eo doc))).Text 10),Y ((nthI aR.Docs (aa aR.Docs (fun eo=>bY eo doc))).Text 11),Y ((nthI aR.Docs (aa aR.Docs (fun eo=>bY eo doc))).Text 12),Y ((nthI aR.Docs (aa aR.Docs (fun eo=>bY eo doc))).Text 13),Y ((nthI aR.Docs (aa aR.Docs (fun eo=>bY eo doc))).Text 14),Y ((nthI aR.Docs (aa aR.Docs (fun eo=>bY eo doc))).Text 15),Y ((nthI aR.Docs (aa aR.Docs (fun eo=>bY eo doc))).Text 16),Y ((nthI aR.Docs (aa aR.Docs (fun eo=>bY eo doc))).Text 17),Y ((nthI aR.Docs (aa aR.Docs (fun eo=>bY eo doc))).Text 18),Y ((nthI aR.Docs (aa aR.Docs (fun eo=>bY eo doc))).Text 19),Y ((nthI aR.Docs (aa aR.Docs (fun eo=>bY eo doc))).Text 20),Y ((nthI aR.Docs (aa aR.Docs (fun eo=>bY eo doc))).Text 21),Y ((nthI aR.Docs (aa aR.Docs (fun eo=>bY eo doc))).Text 22),Y ((nthI aR.Docs (aa aR.Docs (fun eo=>bY eo doc))).Text 23),Y ((nthI aR.Docs (aa aR.Docs (fun eo=>bY eo doc))).Text 24),Y ((nthI aR.Docs (aa aR.Docs (fun eo=>bY eo doc))).Text 25),Y ((nthI aR.Docs (aa aR.Docs (fun eo=>bY eo doc))).Text 26),Y ((nthI aR.Docs (aa aR.Docs (fun eo=>bY eo doc))).Text 27),Y ((nthI aR.Docs (aa aR.Docs (fun eo=>bY eo doc))).Text 28),Y ((nthI aR.Docs (aa aR.Docs (fun eo=>bY eo doc))).Text 29),Y ((nthI aR.Docs (aa aR.Docs (fun eo=>bY eo doc))).Text 30),Y ((nthI aR.Docs (aa aR.Docs (fun eo=>bY eo doc))).Text 31),I known]) (places:=[(0,7),(7,41),(48,1)]) Tryz.underlying77 zc77 kr kr ?_)
  refine ⟨jn,(tn 8 U (rS 0 ty77 U U U U U U ?_))⟩
  refine ⟨jn,(qA [9] U ?_)⟩
  refine bv kr ?_
  have hs4:cU aR doc known=((aH.mk aR (nthI aR.Docs (aa aR.Docs (fun eo=>bY eo doc))) known),true):=hs2
  exact cJ [.agg (aH.cells (aH.mk aR (nthI aR.Docs (aa aR.Docs (fun eo=>bY eo doc))) known) (fS.mk cu r1)).toArray,.bool true] Tryz.func27 U ⟨⟨0,_,_,_,_,U,U,.inl ⟨ty77,U⟩⟩,U,trivial⟩ ⟨(fS.mk cu r1),congrArg (fun r:(aH×Bool)=>(.tuple #[.agg (aH.cells r.1 (fS.mk cu r1)).toArray,.bool r.2]:Value)) hs4.symm,(by rw [hs4];exact (show aH.ok h1 (aH.mk aR (nthI aR.Docs (aa aR.Docs (fun eo=>bY eo doc))) known) (fS.mk cu r1) from ⟨(ia.mono hle1),ok1⟩))⟩
theorem zn (h:HF) (who:(List Int)) (fo:Option Addr) (fm:Nat) (hwho:SlC Rp.int h fo fm who):Ret Tryz.prog 28 [.slice fo who.length fm] h (.bool (fG who)):=by
 refine ae Tryz.func28 U Tryz.ntmps28 U fun X hM hX=>?_
 have hs0:fG who=fG who:=rfl
 refine qT 12 U (a8 cN U (qO 2 U ?_))
 refine aU (ι:=Nat×Int) (fun i=>[]) (fun i=>h) (fun i=>[]) (fun i=>i.1≤who.length∧fG who=((fG.K1) i.2)) ?_ (fun hx1=>?_)
 ·rintro ⟨i1,fW⟩ ⟨aP,hs1⟩ e
  try dsimp only at aP
  refine qT 4 U ?_
  exact ah [.bool true] Tryz.func28 U hX rd (cs hs1)
 ·refine bG (ι:=Nat×Int×List Int) (fun i=>[(3,I i.2.1),(6,.slice fo who.length fm),(7,I ((who.length:Nat):Int)),(8,I ((i.1:Nat):Int))]) (fun i=>h) (fun i=>[]) (fun i=>who.drop i.1=i.2.2∧i.1≤who.length∧fG who=((fG.L1 (fG.K1)) i.2.2 i.2.1)) (fun i=>i.2.2.length) (0,(-1),who) rd sw ⟨U,Nat.zero_le _,hs0⟩ ?_
  rintro ⟨i1,fW,s1⟩ ⟨hd1,aP,hs3⟩ ag1 e
  try dsimp only at hd1 aP
  rcases s1 with _ | ⟨y1,rz1⟩
  ·have dr:=cw hd1
   refine sr (ai (v':=.bool false) U (cb dr) (qO 4 U ?_))
   exact hx1 (i1,fW) _ ⟨aP,hs3⟩ trivial
  ·have dq:=dy hd1
   have aM:=cA hd1
   have ey:=aE hd1
   have gi:=hwho.1.1
   refine sr (ai (v':=.bool true) U (cb dq) (qO 8 U (aN (eU (enc:=fun y=>[I y]) (fun _ _ _ e=>e) cN ty3 hwho.1 (nthZ aM) (aV aM) U U U (fun q2 A2=>?_)))))
   refine dv ty3 A2 U (qO 9 U ?_)
   refine ar 3 [15,16,17,18] 18 (.bool (decide (y1≤fW)||decide (64≤y1))) (fun hk1=>?_) (fun e=>?_)
   ·refine ac 15 U (fun c1=>?_) (fun c1=>?_)
    ·refine qO 3 U ?_
     exact hk1 _ (cb (dW c1))
    ·refine qO 3 U ?_
     exact hk1 _ (cb (dX c1))
   refine bh ?_
   refine ak hs3 U (fun c2 hs5=>?_) (fun c2 hs6=>?_)
   ·refine qT 4 U ?_
    exact ah [.bool false] Tryz.func28 U hX rd (cs hs5)
   ·refine qT 7 U (ai (v':=I (((i1+1):Nat):Int)) U (bz ob) (qO 2 U ?_))
    exact ag1 ((i1+1),y1,rz1) _ (Nat.lt_succ_self _) ⟨ba hd1,aE hd1,hs6⟩ rd
end Go.Sg
namespace Go.Sg
open Go.Proofs
theorem m5.length {κ α : Type} {enc:κ→Value} {V:HF→Value→α→Prop} {h:HF}:∀ {es:List MapEntry} {m:List (κ×α)},m5 enc V h es m→es.length=m.length
 | [],[],_=>rfl
 | _::_,(_,_)::_,⟨_,_,c⟩=>by simp [m5.length c]
 | [],_::_,x=>x.elim
 | _::_,[],x=>x.elim
theorem qG {κ : Type} [Inhabited κ] (ks:List κ) (is:List Nat) (hn:is.Nodup) (hlt:∀ i∈is,i < ks.length) (hall:∀ i,i < ks.length→i∈is):(is.map fun i=>(ks[i]?).getD default).Perm ks:=by
 have h1:is.Perm (List.range ks.length):=(List.perm_ext_iff_of_nodup hn List.nodup_range).2 (fun i=>by rw [List.mem_range];exact ⟨hlt i,hall i⟩)
 refine (h1.map _).trans (List.Perm.of_eq ?_)
 apply List.ext_getElem (by simp)
 intro i h2 h3
 simp at h2
 simp [List.getElem?_eq_getElem h2]
theorem sj {κ : Type} [Inhabited κ] (ks:List κ) (is:List Nat) (hn:is.Nodup) (hlt:∀ i∈is,i < ks.length):∃ rest,((is.map fun i=>(ks[i]?).getD default)++rest).Perm ks:=by
 let js:=(List.range ks.length).filter fun i=>!is.contains i
 have hd:(is++js).Nodup:=by
  rw [List.nodup_append]
  refine ⟨hn,List.nodup_range.filter _,fun a ha b hb e=>?_⟩
  subst e
  simp [js] at hb
  exact hb.2 ha
 refine ⟨js.map fun i=>(ks[i]?).getD default,?_⟩
 rw [← List.map_append]
 refine qG ks (is++js) hd (fun i hi=>?_) (fun i hi=>?_)
 ·rcases List.mem_append.1 hi with h | h
  ·exact hlt i h
  ·simp [js] at h;exact h.1
 ·by_cases hm:i∈is
  ·exact List.mem_append_left _ hm
  ·exact List.mem_append_right _ (by simp [js,hi,hm])
theorem tx (h:HF) (m:List (Int×Bool)) (bk:Nat) (q:Addr) (hm:oR (Value.int .i64) gY h bk m) (aq:At h q [.map (some bk)]):
  wj Tryz.prog (.func (.func 109) #[] #[.pointer (some q)]) (fun k _ vs=>vs=[(Value.int .i64) k]) (fun xs=>xs.Perm (m.map (·.1))) h:=by
 refine ⟨109,[.pointer (some q)],rfl,Tryz.call109,?_⟩
 intro yf ya yb C Sp Pn h1 A hle m1 m2 m3 hC hy
 obtain ⟨o,hb,m0,hpm,hnd0,es,clock,rfl,hE,hP,hcl⟩:=hm.mono gY.mono hle
 have hnod:(es.map (·.born)).Nodup:=hP.imp (fun h=>Nat.ne_of_lt h)
 have hkeys:=hE.keys
 have hlen:es.length=(m0.map (·.1)).length:=by rw [hE.length];simp
 let ks:=m0.map (·.1)
 let kf:Nat→Int:=fun i=>(ks[i]?).getD default
 let bf:Nat→Nat:=fun i=>(es[i]?.map (·.born)).getD 0
 have hkey:∀ (i:Nat) (en:MapEntry),es[i]? = some en→en.key=(Value.int .i64) (kf i):=by
  intro i en hi
  have h2:(es.map (·.key))[i]? = some en.key:=by simp [hi]
  rw [hkeys] at h2
  simp only [List.getElem?_map] at h2
  simp only [kf,ks,List.getElem?_map]
  cases hq:m0[i]? with
  | none=>rw [hq] at h2;simp at h2
  | some p=>rw [hq] at h2;simp at h2;simp [← h2]
 refine kL (args:=[.func yf ya yb]) (cap:=[.pointer (some q)]) Tryz.call109 ?_
 refine jS GD rfl Tryz.ntmps109 rfl fun X hXM hX=>?_
 refine em (bU (dv ty120 (aq.mono hle) rfl (aN (Bc lg hb rfl (fun it=>bh ?_)))))
 refine aU (ι:=List Nat×LH×HF) (fun i=>[]) (fun i=>i.2.2) (fun i=>[(it,Obj.mapIter (some bk) clock (List.toArray (i.1.map bf)) clock)]++i.2.1) (fun i=>(i.1.Nodup∧(∀ j∈i.1,j < es.length)∧(∀ j,j < es.length→j∈i.1))∧C (i.1.map kf) i.2.2 i.2.1) ?_ (fun hx=>?_)
 ·rintro ⟨js,A1,h2⟩ ⟨⟨hn,hl,ha⟩,hC1⟩ e
  exact vB GD (fun a _ w _=>kM rfl a w) (fun w hw=>hw.sub (List.sublist_append_right _ _)) (.inl ⟨rfl,.inl ⟨_,(qG ks js hn (fun i hi=>by rw [← hlen];exact hl i hi) (fun i hi=>ha i (by rw [hlen];exact hi))).trans (hpm.map _),hC1⟩⟩)
 refine bG (ι:=List Nat×LH×HF) (fun i=>[(0,.func yf ya yb),(5,.pointer (some ⟨it,0,none⟩))]) (fun i=>i.2.2) (fun i=>[(it,Obj.mapIter (some bk) clock (List.toArray (i.1.map bf)) clock)]++i.2.1) (fun i=>i.1.Nodup∧(∀ j∈i.1,j < es.length)∧C (i.1.map kf) i.2.2 i.2.1∧HF.le h1 i.2.2) (fun i=>es.length - i.1.length) ([],A,h1) ⟨rfl,rfl,trivial⟩ (fun w hw=>hw) ⟨List.nodup_nil,fun _ hj=>(List.not_mem_nil hj).elim,hC,HF.le_refl _⟩ ?_
 rintro ⟨js,A1,h2⟩ ⟨hn,hl,hC1,hle2⟩ ag e
 dsimp only at hn hl hC1 hle2
 have hlp:=su hnod js hl
 show TT _ _ _ _ _ (upds e [(0,.func yf ya yb),(5,.pointer (some ⟨it,0,none⟩))]) _ _ h2 ([(it,Obj.mapIter (some bk) clock (List.toArray (js.map bf)) clock)]++A1)
 refine em (bU (aN (Ex 0 rfl (hle2 _ _ hb) (fun x hx=>hcl x (by simpa using hx)) (Nat.le_refl _) rfl (fun h0=>?_) (fun en hen=>?_))))
 ·refine kn rfl rfl (bh (em (mq rfl (m6 rfl ?_))))
  exact hx (js,A1,h2) _ ⟨⟨hn,hl,hlp.1 h0⟩,hC1⟩ trivial
 ·obtain ⟨i,hi,hni⟩:=hlp.2 en hen
  have hil:i < es.length:=by
   rcases Nat.lt_or_ge i es.length with h3 | h3
   ·exact h3
   ·simp [List.getElem?_eq_none h3] at hi
  have hmem:en∈es.toArray.toList:=by simpa using List.mem_of_getElem? hi
  have hn':(js++[i]).Nodup:=by
   rw [List.nodup_append];exact ⟨hn,by simp,fun a ha b hb' e'=>by simp at hb';subst hb';subst e';exact hni ha⟩
  have hl':∀ j∈js++[i],j < es.length:=fun j hj=>by
   rcases List.mem_append.1 hj with h3 | h3
   ·exact hl j h3
   ·simp at h3;subst h3;exact hil
  obtain ⟨rest,hrest⟩:=sj ks (js++[i]) hn' (fun j hj=>by rw [← hlen];exact hl' j hj)
  have pW:js.length+1≤es.length:=by
   have h9:=hrest.length_eq
   rw [List.length_append,List.length_map,List.length_append] at h9
   have h10:ks.length=es.length:=hlen.symm
   simp only [List.length_cons,List.length_nil] at h9
   omega
  have hrest':(js.map kf++kf i::rest).Perm (m.map (·.1)):=by
   rw [List.map_append,List.append_assoc] at hrest
   exact List.Perm.trans hrest (hpm.map _)
  obtain ⟨ekey,evl,eborn⟩:=en
  have hk':ekey=(Value.int .i64) (kf i):=hkey i _ hi
  subst hk'
  refine kn rfl rfl (bh ?_)
  refine em (lJ rfl (e8 (lK ?_)))
  refine em (bU ?_)
  refine aN (gI (Bk 0 rfl (hle2 _ _ hb) hmem (by simpa using hnod) rfl) ?_)
  refine kn rfl rfl (fx (bh ?_))
  refine em (bU (aB (aB ?_)))
  refine aN (lS [(it,Obj.mapIter (some bk) clock ((List.toArray (js.map bf)).push eborn) clock)] A1 rfl (hy (js.map kf) (kf i) [(Value.int .i64) (kf i)] h2 A1 ⟨rest,hrest'⟩ hle2 hC1 rfl) rfl rfl (fun h3 B hle3 hC3=>?_) (fun h3 B hle3 hS3=>?_) (fun ch h3 B hle3 hP3 e'=>?_))
  ·refine yo rfl (bh (mq rfl (e8 (jF ?_))))
   have hpush:((List.toArray (js.map bf)).push eborn)=List.toArray ((js++[i]).map bf):=by simp [bf,hi]
   rw [hpush]
   refine ag (js++[i],B,h3) _ (by show es.length - (js++[i]).length < es.length - js.length;rw [List.length_append];simp only [List.length_cons,List.length_nil];omega) ⟨hn',hl',by simpa using hC3,HF.le_trans hle2 hle3⟩ ⟨rfl,rfl,trivial⟩
  ·refine yo rfl (bh (lJ rfl ?_))
   exact nC GD (fun a _ w _=>kM rfl a w) (fun w hw=>hw.sub (List.sublist_append_right _ _)) (.inl ⟨rfl,.inr hS3⟩)
  ·exact Eu GD (fun w hw=>hw.sub (List.sublist_append_right _ _)) (.inr ⟨ch,rfl,hP3⟩)
theorem qH (h:HF) (m:List (Int×Version)) (bk:Nat) (q:Addr) (hm:oR (Value.int .i64) (kx Version.rp) h bk m) (aq:At h q [.map (some bk)]):
  wj Tryz.prog (.func (.func 209) #[] #[.pointer (some q)]) (fun k _ vs=>vs=[(Value.int .i64) k]) (fun xs=>xs.Perm (m.map (·.1))) h:=by
 refine ⟨209,[.pointer (some q)],rfl,Tryz.call209,?_⟩
 intro yf ya yb C Sp Pn h1 A hle m1 m2 m3 hC hy
 obtain ⟨o,hb,m0,hpm,hnd0,es,clock,rfl,hE,hP,hcl⟩:=hm.mono (kx.mono Version.aD) hle
 have hnod:(es.map (·.born)).Nodup:=hP.imp (fun h=>Nat.ne_of_lt h)
 have hkeys:=hE.keys
 have hlen:es.length=(m0.map (·.1)).length:=by rw [hE.length];simp
 let ks:=m0.map (·.1)
 let kf:Nat→Int:=fun i=>(ks[i]?).getD default
 let bf:Nat→Nat:=fun i=>(es[i]?.map (·.born)).getD 0
 have hkey:∀ (i:Nat) (en:MapEntry),es[i]? = some en→en.key=(Value.int .i64) (kf i):=by
  intro i en hi
  have h2:(es.map (·.key))[i]? = some en.key:=by simp [hi]
  rw [hkeys] at h2
  simp only [List.getElem?_map] at h2
  simp only [kf,ks,List.getElem?_map]
  cases hq:m0[i]? with
  | none=>rw [hq] at h2;simp at h2
  | some p=>rw [hq] at h2;simp at h2;simp [← h2]
 refine kL (args:=[.func yf ya yb]) (cap:=[.pointer (some q)]) Tryz.call209 ?_
 refine jS GC rfl Tryz.ntmps209 rfl fun X hXM hX=>?_
 refine em (bU (dv ty203 (aq.mono hle) rfl (aN (Bc GB hb rfl (fun it=>bh ?_)))))
 refine aU (ι:=List Nat×LH×HF) (fun i=>[]) (fun i=>i.2.2) (fun i=>[(it,Obj.mapIter (some bk) clock (List.toArray (i.1.map bf)) clock)]++i.2.1) (fun i=>(i.1.Nodup∧(∀ j∈i.1,j < es.length)∧(∀ j,j < es.length→j∈i.1))∧C (i.1.map kf) i.2.2 i.2.1) ?_ (fun hx=>?_)
 ·rintro ⟨js,A1,h2⟩ ⟨⟨hn,hl,ha⟩,hC1⟩ e
  exact vB GC (fun a _ w _=>kM rfl a w) (fun w hw=>hw.sub (List.sublist_append_right _ _)) (.inl ⟨rfl,.inl ⟨_,(qG ks js hn (fun i hi=>by rw [← hlen];exact hl i hi) (fun i hi=>ha i (by rw [hlen];exact hi))).trans (hpm.map _),hC1⟩⟩)
 refine bG (ι:=List Nat×LH×HF) (fun i=>[(0,.func yf ya yb),(5,.pointer (some ⟨it,0,none⟩))]) (fun i=>i.2.2) (fun i=>[(it,Obj.mapIter (some bk) clock (List.toArray (i.1.map bf)) clock)]++i.2.1) (fun i=>i.1.Nodup∧(∀ j∈i.1,j < es.length)∧C (i.1.map kf) i.2.2 i.2.1∧HF.le h1 i.2.2) (fun i=>es.length - i.1.length) ([],A,h1) ⟨rfl,rfl,trivial⟩ (fun w hw=>hw) ⟨List.nodup_nil,fun _ hj=>(List.not_mem_nil hj).elim,hC,HF.le_refl _⟩ ?_
 rintro ⟨js,A1,h2⟩ ⟨hn,hl,hC1,hle2⟩ ag e
 dsimp only at hn hl hC1 hle2
 have hlp:=su hnod js hl
 show TT _ _ _ _ _ (upds e [(0,.func yf ya yb),(5,.pointer (some ⟨it,0,none⟩))]) _ _ h2 ([(it,Obj.mapIter (some bk) clock (List.toArray (js.map bf)) clock)]++A1)
 refine em (bU (aN (Ex 0 rfl (hle2 _ _ hb) (fun x hx=>hcl x (by simpa using hx)) (Nat.le_refl _) rfl (fun h0=>?_) (fun en hen=>?_))))
 ·refine kn rfl rfl (bh (em (mq rfl (m6 rfl ?_))))
  exact hx (js,A1,h2) _ ⟨⟨hn,hl,hlp.1 h0⟩,hC1⟩ trivial
 ·obtain ⟨i,hi,hni⟩:=hlp.2 en hen
  have hil:i < es.length:=by
   rcases Nat.lt_or_ge i es.length with h3 | h3
   ·exact h3
   ·simp [List.getElem?_eq_none h3] at hi
  have hmem:en∈es.toArray.toList:=by simpa using List.mem_of_getElem? hi
  have hn':(js++[i]).Nodup:=by
   rw [List.nodup_append];exact ⟨hn,by simp,fun a ha b hb' e'=>by simp at hb';subst hb';subst e';exact hni ha⟩
  have hl':∀ j∈js++[i],j < es.length:=fun j hj=>by
   rcases List.mem_append.1 hj with h3 | h3
   ·exact hl j h3
   ·simp at h3;subst h3;exact hil
  obtain ⟨rest,hrest⟩:=sj ks (js++[i]) hn' (fun j hj=>by rw [← hlen];exact hl' j hj)
  have pW:js.length+1≤es.length:=by
   have h9:=hrest.length_eq
   rw [List.length_append,List.length_map,List.length_append] at h9
   have h10:ks.length=es.length:=hlen.symm
   simp only [List.length_cons,List.length_nil] at h9
   omega
  have hrest':(js.map kf++kf i::rest).Perm (m.map (·.1)):=by
   rw [List.map_append,List.append_assoc] at hrest
   exact List.Perm.trans hrest (hpm.map _)
  obtain ⟨ekey,evl,eborn⟩:=en
  have hk':ekey=(Value.int .i64) (kf i):=hkey i _ hi
  subst hk'
  refine kn rfl rfl (bh ?_)
  refine em (lJ rfl (e8 (lK ?_)))
  refine em (bU ?_)
  refine aN (gI (Bk 0 rfl (hle2 _ _ hb) hmem (by simpa using hnod) rfl) ?_)
  refine kn rfl rfl (fx (bh ?_))
  refine em (bU (aB (aB ?_)))
  refine aN (lS [(it,Obj.mapIter (some bk) clock ((List.toArray (js.map bf)).push eborn) clock)] A1 rfl (hy (js.map kf) (kf i) [(Value.int .i64) (kf i)] h2 A1 ⟨rest,hrest'⟩ hle2 hC1 rfl) rfl rfl (fun h3 B hle3 hC3=>?_) (fun h3 B hle3 hS3=>?_) (fun ch h3 B hle3 hP3 e'=>?_))
  ·refine yo rfl (bh (mq rfl (e8 (jF ?_))))
   have hpush:((List.toArray (js.map bf)).push eborn)=List.toArray ((js++[i]).map bf):=by simp [bf,hi]
   rw [hpush]
   refine ag (js++[i],B,h3) _ (by show es.length - (js++[i]).length < es.length - js.length;rw [List.length_append];simp only [List.length_cons,List.length_nil];omega) ⟨hn',hl',by simpa using hC3,HF.le_trans hle2 hle3⟩ ⟨rfl,rfl,trivial⟩
  ·refine yo rfl (bh (lJ rfl ?_))
   exact nC GC (fun a _ w _=>kM rfl a w) (fun w hw=>hw.sub (List.sublist_append_right _ _)) (.inl ⟨rfl,.inr hS3⟩)
  ·exact Eu GC (fun w hw=>hw.sub (List.sublist_append_right _ _)) (.inr ⟨ch,rfl,hP3⟩)
theorem qI (h:HF) (m:List (OSeat×Appoint)) (bk:Nat) (q:Addr) (hm:oR OSeat.enc (kx Appoint.rp) h bk m) (aq:At h q [.map (some bk)]):
  wj Tryz.prog (.func (.func 212) #[] #[.pointer (some q)]) (fun k _ vs=>vs=[OSeat.enc k]) (fun xs=>xs.Perm (m.map (·.1))) h:=by
 refine ⟨212,[.pointer (some q)],rfl,Tryz.call212,?_⟩
 intro yf ya yb C Sp Pn h1 A hle m1 m2 m3 hC hy
 obtain ⟨o,hb,m0,hpm,hnd0,es,clock,rfl,hE,hP,hcl⟩:=hm.mono (kx.mono Appoint.aD) hle
 have hnod:(es.map (·.born)).Nodup:=hP.imp (fun h=>Nat.ne_of_lt h)
 have hkeys:=hE.keys
 have hlen:es.length=(m0.map (·.1)).length:=by rw [hE.length];simp
 let ks:=m0.map (·.1)
 let kf:Nat→OSeat:=fun i=>(ks[i]?).getD default
 let bf:Nat→Nat:=fun i=>(es[i]?.map (·.born)).getD 0
 have hkey:∀ (i:Nat) (en:MapEntry),es[i]? = some en→en.key=OSeat.enc (kf i):=by
  intro i en hi
  have h2:(es.map (·.key))[i]? = some en.key:=by simp [hi]
  rw [hkeys] at h2
  simp only [List.getElem?_map] at h2
  simp only [kf,ks,List.getElem?_map]
  cases hq:m0[i]? with
  | none=>rw [hq] at h2;simp at h2
  | some p=>rw [hq] at h2;simp at h2;simp [← h2]
 refine kL (args:=[.func yf ya yb]) (cap:=[.pointer (some q)]) Tryz.call212 ?_
 refine jS GA rfl Tryz.ntmps212 rfl fun X hXM hX=>?_
 refine em (bU (dv ty159 (aq.mono hle) rfl (aN (Bc Gz hb rfl (fun it=>bh ?_)))))
 refine aU (ι:=List Nat×LH×HF) (fun i=>[]) (fun i=>i.2.2) (fun i=>[(it,Obj.mapIter (some bk) clock (List.toArray (i.1.map bf)) clock)]++i.2.1) (fun i=>(i.1.Nodup∧(∀ j∈i.1,j < es.length)∧(∀ j,j < es.length→j∈i.1))∧C (i.1.map kf) i.2.2 i.2.1) ?_ (fun hx=>?_)
 ·rintro ⟨js,A1,h2⟩ ⟨⟨hn,hl,ha⟩,hC1⟩ e
  exact vB GA (fun a _ w _=>kM rfl a w) (fun w hw=>hw.sub (List.sublist_append_right _ _)) (.inl ⟨rfl,.inl ⟨_,(qG ks js hn (fun i hi=>by rw [← hlen];exact hl i hi) (fun i hi=>ha i (by rw [hlen];exact hi))).trans (hpm.map _),hC1⟩⟩)
 refine bG (ι:=List Nat×LH×HF) (fun i=>[(0,.func yf ya yb),(5,.pointer (some ⟨it,0,none⟩))]) (fun i=>i.2.2) (fun i=>[(it,Obj.mapIter (some bk) clock (List.toArray (i.1.map bf)) clock)]++i.2.1) (fun i=>i.1.Nodup∧(∀ j∈i.1,j < es.length)∧C (i.1.map kf) i.2.2 i.2.1∧HF.le h1 i.2.2) (fun i=>es.length - i.1.length) ([],A,h1) ⟨rfl,rfl,trivial⟩ (fun w hw=>hw) ⟨List.nodup_nil,fun _ hj=>(List.not_mem_nil hj).elim,hC,HF.le_refl _⟩ ?_
 rintro ⟨js,A1,h2⟩ ⟨hn,hl,hC1,hle2⟩ ag e
 dsimp only at hn hl hC1 hle2
 have hlp:=su hnod js hl
 show TT _ _ _ _ _ (upds e [(0,.func yf ya yb),(5,.pointer (some ⟨it,0,none⟩))]) _ _ h2 ([(it,Obj.mapIter (some bk) clock (List.toArray (js.map bf)) clock)]++A1)
 refine em (bU (aN (Ex 0 rfl (hle2 _ _ hb) (fun x hx=>hcl x (by simpa using hx)) (Nat.le_refl _) rfl (fun h0=>?_) (fun en hen=>?_))))
 ·refine kn rfl rfl (bh (em (mq rfl (m6 rfl ?_))))
  exact hx (js,A1,h2) _ ⟨⟨hn,hl,hlp.1 h0⟩,hC1⟩ trivial
 ·obtain ⟨i,hi,hni⟩:=hlp.2 en hen
  have hil:i < es.length:=by
   rcases Nat.lt_or_ge i es.length with h3 | h3
   ·exact h3
   ·simp [List.getElem?_eq_none h3] at hi
  have hmem:en∈es.toArray.toList:=by simpa using List.mem_of_getElem? hi
  have hn':(js++[i]).Nodup:=by
   rw [List.nodup_append];exact ⟨hn,by simp,fun a ha b hb' e'=>by simp at hb';subst hb';subst e';exact hni ha⟩
  have hl':∀ j∈js++[i],j < es.length:=fun j hj=>by
   rcases List.mem_append.1 hj with h3 | h3
   ·exact hl j h3
   ·simp at h3;subst h3;exact hil
  obtain ⟨rest,hrest⟩:=sj ks (js++[i]) hn' (fun j hj=>by rw [← hlen];exact hl' j hj)
  have pW:js.length+1≤es.length:=by
   have h9:=hrest.length_eq
   rw [List.length_append,List.length_map,List.length_append] at h9
   have h10:ks.length=es.length:=hlen.symm
   simp only [List.length_cons,List.length_nil] at h9
   omega
  have hrest':(js.map kf++kf i::rest).Perm (m.map (·.1)):=by
   rw [List.map_append,List.append_assoc] at hrest
   exact List.Perm.trans hrest (hpm.map _)
  obtain ⟨ekey,evl,eborn⟩:=en
  have hk':ekey=OSeat.enc (kf i):=hkey i _ hi
  subst hk'
  refine kn rfl rfl (bh ?_)
  refine em (lJ rfl (e8 (lK ?_)))
  refine em (bU ?_)
  refine aN (gI (Bk 0 rfl (hle2 _ _ hb) hmem (by simpa using hnod) rfl) ?_)
  refine kn rfl rfl (bR zc212 (fun b3=>bL 0 ty212 rfl rfl rfl rfl rfl rfl (bh ?_)))
  refine em (bU (aB (dl 0 ty212 rfl rfl rfl ?_)))
  refine aN (lS [(b3,Obj.cells (OSeat.cells (kf i)).toArray 212 (0,0)),(it,Obj.mapIter (some bk) clock ((List.toArray (js.map bf)).push eborn) clock)] A1 rfl (hy (js.map kf) (kf i) [OSeat.enc (kf i)] h2 A1 ⟨rest,hrest'⟩ hle2 hC1 rfl) rfl rfl (fun h3 B hle3 hC3=>?_) (fun h3 B hle3 hS3=>?_) (fun ch h3 B hle3 hP3 e'=>?_))
  ·refine yo rfl (bh (mq rfl (e8 (jF ?_))))
   have hpush:((List.toArray (js.map bf)).push eborn)=List.toArray ((js++[i]).map bf):=by simp [bf,hi]
   rw [hpush]
   refine cG (L':=[(it,Obj.mapIter (some bk) clock (List.toArray ((js++[i]).map bf)) clock)]++B) (.cons _ (List.Sublist.refl _)) ?_
   refine ag (js++[i],B,h3) _ (by show es.length - (js++[i]).length < es.length - js.length;rw [List.length_append];simp only [List.length_cons,List.length_nil];omega) ⟨hn',hl',by simpa using hC3,HF.le_trans hle2 hle3⟩ ⟨rfl,rfl,trivial⟩
  ·refine yo rfl (bh (lJ rfl ?_))
   exact nC GA (fun a _ w _=>kM rfl a w) (fun w hw=>hw.sub (List.sublist_append_right _ _)) (.inl ⟨rfl,.inr hS3⟩)
  ·exact Eu GA (fun w hw=>hw.sub (List.sublist_append_right _ _)) (.inr ⟨ch,rfl,hP3⟩)
end Go.Sg
namespace Go.Proofs
open Go.Shelf
def Tryz.C3:Go.Shelf.Ren:=⟨fun | 137=>279 | 217=>281 | 266=>282 | n=>n,fun | 9=>9 | 5=>5 | 3=>3 | n=>n,fun | n=>n⟩
theorem Tryz.lays137:Go.Proofs.Lays.n137 Tryz.prog Tryz.C3:={
 mixed:=by kernel_rfl
 f137:=Tryz.func279.trans (congrArg some (by kernel_rfl))
 f217:=Tryz.func281.trans (congrArg some (by kernel_rfl))
 f266:=Tryz.func282.trans (congrArg some (by kernel_rfl))
 t3:=Tryz.underlying3
 a3:=Tryz.isAgg3
 z3:=Tryz.sizeOf3
 v3:=Tryz.zeroValue3
 t5:=Tryz.underlying5
 a5:=Tryz.isAgg5
 z5:=Tryz.sizeOf5
 v5:=Tryz.zeroValue5
 t9:=Tryz.underlying9
 a9:=Tryz.isAgg9
 z9:=Tryz.sizeOf9
 v9:=Tryz.zeroValue9 }
open Go.RowKit in
theorem Tryz.strings_IndexByte (s:ByteArray) (c:Int) (w:World):
  Calls Tryz.prog 279 #[.string s,.int .u8 c] w fun e w'=>e=.returned (.int .i64 (Lib.indexByte s.data.toList c.toNat.toUInt8))∧w'=w:=Any.strings_IndexByte Tryz.lays137 s c w
open Go.RowKit Go.Lib in
def Tryz.C2:Go.Shelf.Ren:=⟨fun | 189=>41 | 125=>80 | 257=>79 | 128=>138 | 129=>139 | 294=>129 | 295=>130 | 296=>131 | 297=>132 | 298=>133 | 299=>134 | 216=>135 | 300=>136 | 301=>137 | 328=>203 | 329=>204 | 330=>205 | 331=>206 | 332=>207 | 215=>208 | 343=>238 | n=>n,fun | 28=>31 | 3=>3 | 46=>136 | 0=>0 | 51=>199 | 53=>201 | 4=>4 | 183=>193 | 182=>192 | 131=>153 | 5=>5 | 9=>9 | 218=>240 | 222=>244 | 228=>271 | 229=>272 | n=>n,fun | n=>n⟩
theorem Tryz.lays189:Go.Proofs.Lays.n189 Tryz.prog Tryz.C2:={
 mixed:=by kernel_rfl
 f125:=Tryz.func80.trans (congrArg some (by kernel_rfl))
 f128:=Tryz.func138.trans (congrArg some (by kernel_rfl))
 f129:=Tryz.func139.trans (congrArg some (by kernel_rfl))
 f189:=Tryz.func41.trans (congrArg some (by kernel_rfl))
 f215:=Tryz.func208.trans (congrArg some (by kernel_rfl))
 f216:=Tryz.func135.trans (congrArg some (by kernel_rfl))
 f257:=Tryz.func79.trans (congrArg some (by kernel_rfl))
 f294:=Tryz.func129.trans (congrArg some (by kernel_rfl))
 f295:=Tryz.func130.trans (congrArg some (by kernel_rfl))
 f296:=Tryz.func131.trans (congrArg some (by kernel_rfl))
 f297:=Tryz.func132.trans (congrArg some (by kernel_rfl))
 f298:=Tryz.func133.trans (congrArg some (by kernel_rfl))
 f299:=Tryz.func134.trans (congrArg some (by kernel_rfl))
 f300:=Tryz.func136.trans (congrArg some (by kernel_rfl))
 f301:=Tryz.func137.trans (congrArg some (by kernel_rfl))
 f328:=Tryz.func203.trans (congrArg some (by kernel_rfl))
 f329:=Tryz.func204.trans (congrArg some (by kernel_rfl))
 f330:=Tryz.func205.trans (congrArg some (by kernel_rfl))
 f331:=Tryz.func206.trans (congrArg some (by kernel_rfl))
 f332:=Tryz.func207.trans (congrArg some (by kernel_rfl))
 f343:=Tryz.func238.trans (congrArg some (by kernel_rfl))
 t0:=Tryz.underlying0
 a0:=Tryz.isAgg0
 z0:=Tryz.sizeOf0
 v0:=Tryz.zeroValue0
 t3:=Tryz.underlying3
 a3:=Tryz.isAgg3
 z3:=Tryz.sizeOf3
 v3:=Tryz.zeroValue3
 t4:=Tryz.underlying4
 a4:=Tryz.isAgg4
 z4:=Tryz.sizeOf4
 v4:=Tryz.zeroValue4
 t5:=Tryz.underlying5
 a5:=Tryz.isAgg5
 z5:=Tryz.sizeOf5
 v5:=Tryz.zeroValue5
 t9:=Tryz.underlying9
 a9:=Tryz.isAgg9
 z9:=Tryz.sizeOf9
 v9:=Tryz.zeroValue9
 t28:=Tryz.underlying31
 a28:=Tryz.isAgg31
 z28:=Tryz.sizeOf31
 v28:=Tryz.zeroValue31
 t46:=Tryz.underlying136
 a46:=Tryz.isAgg136
 z46:=Tryz.sizeOf136
 v46:=Tryz.zeroValue136
 t51:=Tryz.underlying199
 a51:=Tryz.isAgg199
 z51:=Tryz.sizeOf199
 v51:=Tryz.zeroValue199
 t53:=Tryz.underlying201
 a53:=Tryz.isAgg201
 z53:=Tryz.sizeOf201
 v53:=Tryz.zeroValue201
 t131:=Tryz.underlying153
 a131:=Tryz.isAgg153
 z131:=Tryz.sizeOf153
 v131:=Tryz.zeroValue153
 t182:=Tryz.underlying192
 a182:=Tryz.isAgg192
 z182:=Tryz.sizeOf192
 v182:=Tryz.zeroValue192
 t183:=Tryz.underlying193
 a183:=Tryz.isAgg193
 z183:=Tryz.sizeOf193
 v183:=Tryz.zeroValue193
 t218:=Tryz.underlying240
 a218:=Tryz.isAgg240
 z218:=Tryz.sizeOf240
 v218:=Tryz.zeroValue240
 t222:=Tryz.underlying244
 a222:=Tryz.isAgg244
 z222:=Tryz.sizeOf244
 v222:=Tryz.zeroValue244
 t228:=Tryz.underlying271
 a228:=Tryz.isAgg271
 z228:=Tryz.sizeOf271
 v228:=Tryz.zeroValue271
 t229:=Tryz.underlying272
 a229:=Tryz.isAgg272
 z229:=Tryz.sizeOf272
 v229:=Tryz.zeroValue272 }
open Go.Sort Go.RowKit in
theorem Tryz.slices_Sort_int (blk off cap:Nat) (zs:List Int) (w:World) (hH:Holds (Value.int .i64) w blk off zs.toArray) (hblk:blk < w.heap.size) (hsz:zs.length < 4611686018427387904):
  Calls Tryz.prog 41 #[.slice (some ⟨blk,off,none⟩) zs.length cap] w fun e w'=>
   e=.returned (.tuple #[])∧∃ n os,w'=grow (putRow (Value.int .i64) (Sort.ahead w n) blk off (zs.mergeSort fun x y=>decide (x≤y)).toArray) os:=Any.slices_Sort_int Tryz.lays189 blk off cap zs w hH hblk hsz
def Tryz.zK:Go.Shelf.Ren:=⟨fun | 15=>40 | n=>n,fun | 22=>31 | 3=>3 | 4=>4 | n=>n,fun | n=>n⟩
theorem Tryz.laysNm215:Go.Proofs.Lays2.n15 Tryz.prog Tryz.zK:={
 mixed:=by kernel_rfl
 f15:=Tryz.func40.trans (congrArg some (by kernel_rfl))
 t3:=Tryz.underlying3
 a3:=Tryz.isAgg3
 z3:=Tryz.sizeOf3
 v3:=Tryz.zeroValue3
 t4:=Tryz.underlying4
 a4:=Tryz.isAgg4
 z4:=Tryz.sizeOf4
 v4:=Tryz.zeroValue4
 t22:=Tryz.underlying31
 a22:=Tryz.isAgg31
 z22:=Tryz.sizeOf31
 v22:=Tryz.zeroValue31
 i3:=by kernel_rfl }
open Go.RowKit Go.Lib in
theorem Tryz.slices_Clone_int (b off n c:Nat) (zs:List Int) (w:World) (hz:n≤zs.length) (hbig:n * 8≤140737488355328) (hc:∀ j,j < zs.length→w.cell? ⟨b,off+j,none⟩=some (.int .i64 (zs.getD j 0))):
  Calls Tryz.prog 40 #[.slice (some ⟨b,off,none⟩) n c] w fun e w'=>∃ v',e=.returned v'∧w'.ownsRow w.heap.size 3 1 v' n ((zs.take n).map (Value.int .i64))∧v'≠.slice none 0 0∧Below w.heap.size w w':=Any.slices_Clone_int Tryz.laysNm215 b off n c zs w hz hbig hc
open Go.RowKit Go.Lib in
theorem Tryz.slices_Clone_int_nil (n c:Nat) (w:World):
  Calls Tryz.prog 40 #[.slice none n c] w fun e w'=>e=.returned (.slice none 0 0)∧w'=w:=Any.slices_Clone_int_nil Tryz.laysNm215 n c w
open Go.RowKit Go.Lib in
theorem Tryz.slices_Clone_int_zero (a:Addr) (c:Nat) (w:World):
  Calls Tryz.prog 40 #[.slice (some a) 0 c] w fun e w'=>∃ v',e=.returned v'∧w'.ownsRow w.heap.size 3 1 v' 0 []∧v'≠.slice none 0 0∧Below w.heap.size w w':=Any.slices_Clone_int_zero Tryz.laysNm215 a c w
open Go.RowKit Go.Lib in
open Go.RowKit Go.Lib in
open Go.RowKit Go.Lib in
def Tryz.zJ:Go.Shelf.Ren:=⟨fun | 25=>87 | 31=>135 | 32=>147 | 37=>208 | n=>n,fun | 22=>31 | 3=>3 | 4=>4 | 40=>136 | 0=>0 | n=>n,fun | n=>n⟩
theorem Tryz.laysNm225:Go.Proofs.Lays2.n25 Tryz.prog Tryz.zJ:={
 mixed:=by kernel_rfl
 f25:=Tryz.func87.trans (congrArg some (by kernel_rfl))
 f31:=Tryz.func135.trans (congrArg some (by kernel_rfl))
 f32:=Tryz.func147.trans (congrArg some (by kernel_rfl))
 f37:=Tryz.func208.trans (congrArg some (by kernel_rfl))
 t0:=Tryz.underlying0
 a0:=Tryz.isAgg0
 z0:=Tryz.sizeOf0
 v0:=Tryz.zeroValue0
 t3:=Tryz.underlying3
 a3:=Tryz.isAgg3
 z3:=Tryz.sizeOf3
 v3:=Tryz.zeroValue3
 t4:=Tryz.underlying4
 a4:=Tryz.isAgg4
 z4:=Tryz.sizeOf4
 v4:=Tryz.zeroValue4
 t22:=Tryz.underlying31
 a22:=Tryz.isAgg31
 z22:=Tryz.sizeOf31
 v22:=Tryz.zeroValue31
 t40:=Tryz.underlying136
 a40:=Tryz.isAgg136
 z40:=Tryz.sizeOf136
 v40:=Tryz.zeroValue136 }
open Go.RowKit Go.Lib in
theorem Tryz.slices_BinarySearch_int (b off n c:Nat) (zs:List Int) (x:Int) (w:World) (hz:n≤zs.length) (hbig:n < 4611686018427387904) (hc:∀ j,j < zs.length→w.cell? ⟨b,off+j,none⟩=some (.int .i64 (zs.getD j 0))) (hs:(zs.take n).Pairwise (·≤·)):
  Calls Tryz.prog 87 #[.slice (some ⟨b,off,none⟩) n c,.int .i64 x] w fun e w'=>e=.returned (.tuple #[.int .i64 ((zs.take n).countP (· < x):Nat),.bool ((zs.take n).contains x)])∧∃ q,w'=w.drewN q:=Any.slices_BinarySearch_int Tryz.laysNm225 b off n c zs x w hz hbig hc hs
open Go.RowKit Go.Sort in
theorem Tryz.slices_Sort_int_none (p:Option Addr) (cap:Nat) (w:World):
  Calls Tryz.prog 41 #[.slice p 0 cap] w fun e w'=>e=.returned (.tuple #[])∧w'=w:=Any.slices_Sort_int_none Tryz.lays189 p cap w
open Go.RowKit Go.Lib in
theorem Tryz.slices_BinarySearch_int_empty (a:Option Addr) (c:Nat) (x:Int) (w:World):
  Calls Tryz.prog 87 #[.slice a 0 c,.int .i64 x] w fun e w'=>e=.returned (.tuple #[.int .i64 0,.bool false])∧w'=w:=Any.slices_BinarySearch_int_empty Tryz.laysNm225 a c x w
def Tryz.ug:Go.Shelf.Ren:=⟨fun | 7=>208 | n=>n,fun | 22=>3 | 4=>4 | n=>n,fun | n=>n⟩
theorem Tryz.yv:Go.Proofs.SlLaysC2.n7 Tryz.prog Tryz.ug:={
 mixed:=by kernel_rfl
 f7:=⟨Tryz.f208.name,by decide,Tryz.func208.trans (congrArg some (by kernel_rfl))⟩
 t4:=Tryz.underlying4
 a4:=Tryz.isAgg4
 z4:=Tryz.sizeOf4
 v4:=Tryz.zeroValue4
 t22:=Tryz.underlying3
 a22:=Tryz.isAgg3
 z22:=Tryz.sizeOf3
 v22:=Tryz.zeroValue3 }
open Go.Lib in
theorem Tryz.cmp_isNaN_int (x:Int) (w:World):
  Calls Tryz.prog 208 #[.int .i64 x] w fun e w'=>e=.returned (.bool false)∧w'=w:=AnyG.cmp_isNaN_int Tryz.yv x w
def Tryz.uh:Go.Shelf.Ren:=⟨fun | 5=>152 | 7=>208 | n=>n,fun | 22=>3 | 3=>3 | 4=>4 | n=>n,fun | n=>n⟩
theorem Tryz.yw:Go.Proofs.SlLaysC2.n5 Tryz.prog Tryz.uh:={
 mixed:=by kernel_rfl
 f5:=⟨Tryz.f152.name,by decide,Tryz.func152.trans (congrArg some (by kernel_rfl))⟩
 f7:=⟨Tryz.f208.name,by decide,Tryz.func208.trans (congrArg some (by kernel_rfl))⟩
 t3:=Tryz.underlying3
 a3:=Tryz.isAgg3
 z3:=Tryz.sizeOf3
 v3:=Tryz.zeroValue3
 t4:=Tryz.underlying4
 a4:=Tryz.isAgg4
 z4:=Tryz.sizeOf4
 v4:=Tryz.zeroValue4
 t22:=Tryz.underlying3
 a22:=Tryz.isAgg3
 z22:=Tryz.sizeOf3
 v22:=Tryz.zeroValue3 }
open Go.Lib in
theorem Tryz.cmp_Compare_int (x y:Int) (w:World):
  Calls Tryz.prog 152 #[.int .i64 x,.int .i64 y] w fun e w'=>e=.returned (.int .i64 (Lib.compareInt x y))∧w'=w:=AnyG.cmp_Compare_int Tryz.yw x y w
def Tryz.Bb:Go.Shelf.Ren:=⟨fun | 6=>211 | 15=>80 | 14=>240 | 28=>138 | 29=>139 | 20=>257 | 21=>258 | 22=>259 | 23=>260 | 24=>261 | 25=>262 | 26=>263 | 27=>264 | 46=>272 | 47=>204 | 48=>205 | 49=>273 | 50=>274 | 57=>278 | n=>n,fun | 22=>215 | 24=>212 | 25=>214 | 3=>3 | 39=>136 | 0=>0 | 53=>199 | 55=>201 | 4=>4 | 46=>193 | 45=>192 | 50=>153 | 5=>5 | 9=>9 | 66=>240 | 70=>244 | 76=>271 | 77=>272 | n=>n,fun | n=>n⟩
theorem Tryz.sortSeat:Go.Proofs.SlLaysF0.n6 Tryz.prog Tryz.Bb:={
 mixed:=by kernel_rfl
 f6:=⟨Tryz.f211.name,by decide,Tryz.func211.trans (congrArg some (by kernel_rfl))⟩
 f14:=⟨Tryz.f240.name,by decide,Tryz.func240.trans (congrArg some (by kernel_rfl))⟩
 f15:=Tryz.func80.trans (congrArg some (by kernel_rfl))
 f20:=⟨Tryz.f257.name,by decide,Tryz.func257.trans (congrArg some (by kernel_rfl))⟩
 f21:=⟨Tryz.f258.name,by decide,Tryz.func258.trans (congrArg some (by kernel_rfl))⟩
 f22:=⟨Tryz.f259.name,by decide,Tryz.func259.trans (congrArg some (by kernel_rfl))⟩
 f23:=⟨Tryz.f260.name,by decide,Tryz.func260.trans (congrArg some (by kernel_rfl))⟩
 f24:=⟨Tryz.f261.name,by decide,Tryz.func261.trans (congrArg some (by kernel_rfl))⟩
 f25:=⟨Tryz.f262.name,by decide,Tryz.func262.trans (congrArg some (by kernel_rfl))⟩
 f26:=⟨Tryz.f263.name,by decide,Tryz.func263.trans (congrArg some (by kernel_rfl))⟩
 f27:=⟨Tryz.f264.name,by decide,Tryz.func264.trans (congrArg some (by kernel_rfl))⟩
 f28:=Tryz.func138.trans (congrArg some (by kernel_rfl))
 f29:=Tryz.func139.trans (congrArg some (by kernel_rfl))
 f46:=⟨Tryz.f272.name,by decide,Tryz.func272.trans (congrArg some (by kernel_rfl))⟩
 f47:=Tryz.func204.trans (congrArg some (by kernel_rfl))
 f48:=Tryz.func205.trans (congrArg some (by kernel_rfl))
 f49:=⟨Tryz.f273.name,by decide,Tryz.func273.trans (congrArg some (by kernel_rfl))⟩
 f50:=⟨Tryz.f274.name,by decide,Tryz.func274.trans (congrArg some (by kernel_rfl))⟩
 f57:=⟨Tryz.f278.name,by decide,Tryz.func278.trans (congrArg some (by kernel_rfl))⟩
 t0:=Tryz.underlying0
 a0:=Tryz.isAgg0
 z0:=Tryz.sizeOf0
 v0:=Tryz.zeroValue0
 t3:=Tryz.underlying3
 a3:=Tryz.isAgg3
 z3:=Tryz.sizeOf3
 v3:=Tryz.zeroValue3
 t4:=Tryz.underlying4
 a4:=Tryz.isAgg4
 z4:=Tryz.sizeOf4
 v4:=Tryz.zeroValue4
 t5:=Tryz.underlying5
 a5:=Tryz.isAgg5
 z5:=Tryz.sizeOf5
 v5:=Tryz.zeroValue5
 t9:=Tryz.underlying9
 a9:=Tryz.isAgg9
 z9:=Tryz.sizeOf9
 v9:=Tryz.zeroValue9
 t22:=Tryz.underlying215
 a22:=Tryz.isAgg215
 z22:=Tryz.sizeOf215
 v22:=Tryz.zeroValue215
 t25:=Tryz.underlying214
 a25:=Tryz.isAgg214
 z25:=Tryz.sizeOf214
 v25:=Tryz.zeroValue214
 t39:=Tryz.underlying136
 a39:=Tryz.isAgg136
 z39:=Tryz.sizeOf136
 v39:=Tryz.zeroValue136
 t45:=Tryz.underlying192
 a45:=Tryz.isAgg192
 z45:=Tryz.sizeOf192
 v45:=Tryz.zeroValue192
 t46:=Tryz.underlying193
 a46:=Tryz.isAgg193
 z46:=Tryz.sizeOf193
 v46:=Tryz.zeroValue193
 t50:=Tryz.underlying153
 a50:=Tryz.isAgg153
 z50:=Tryz.sizeOf153
 v50:=Tryz.zeroValue153
 t53:=Tryz.underlying199
 a53:=Tryz.isAgg199
 z53:=Tryz.sizeOf199
 v53:=Tryz.zeroValue199
 t55:=Tryz.underlying201
 a55:=Tryz.isAgg201
 z55:=Tryz.sizeOf201
 v55:=Tryz.zeroValue201
 t66:=Tryz.underlying240
 a66:=Tryz.isAgg240
 z66:=Tryz.sizeOf240
 v66:=Tryz.zeroValue240
 t70:=Tryz.underlying244
 a70:=Tryz.isAgg244
 z70:=Tryz.sizeOf244
 v70:=Tryz.zeroValue244
 t76:=Tryz.underlying271
 a76:=Tryz.isAgg271
 z76:=Tryz.sizeOf271
 v76:=Tryz.zeroValue271
 t77:=Tryz.underlying272
 a77:=Tryz.isAgg272
 z77:=Tryz.sizeOf272
 v77:=Tryz.zeroValue272 }
end Go.Proofs
namespace Go.Sg
open Go.Proofs Go.RowKit
theorem St.Hy {h:HF} {w w':World} (hp:Pre h [] w) (hb:Below w.heap.size w w'):St ⟨w,h,[]⟩ h [] w':=
  ⟨hb.os,hb.tape,hb.output,hb.size,fun b hlt _=>hb.block b hlt,fun _ _ e=>e,fun _ _=>rfl,fun b o e=>by rw [hb.block b (fu (hp.imm b o e))];exact hp.imm b o e,
   fun _ hq=>(List.not_mem_nil hq).elim,List.nodup_nil,fun _ hq=>(List.not_mem_nil hq).elim,fun _ hq=>(List.not_mem_nil hq).elim⟩
theorem St.Gc {h:HF} {w w':World} {g:Nat} {o:Obj} (hp:Pre h [] w) (hb:Below w.heap.size w w') (hg:w.heap.size≤g) (ho:w'.heap[g]? = some o):St ⟨w,h,[]⟩ h [(g,o)] w':=
  ⟨hb.os,hb.tape,hb.output,hb.size,fun b hlt _=>hb.block b hlt,fun _ _ e=>e,fun _ _=>rfl,fun b o e=>by rw [hb.block b (fu (hp.imm b o e))];exact hp.imm b o e,
   fun q hq=>by rw [List.mem_singleton.1 hq];exact ho,by simp,fun q hq=>by
     rw [List.mem_singleton.1 hq]
     show h g=none
     cases hh:h g with
     | none=>rfl
     | some o'=>have:=fu (hp.imm g o' hh);omega,fun q hq=>by rw [List.mem_singleton.1 hq];exact .inl hg⟩
theorem FA {h:HF} {b:Option Addr} {xs:List Int} (hs:SlB Rp.int h b xs) (hne:xs≠[]):∃ g off,b=some ⟨g,off,none⟩∧∀ w,Pre h [] w→∀ j,j < xs.length→w.cell? ⟨g,off+j,none⟩=some (.int .i64 (xs.getD j 0)):=by
 obtain ⟨x0,r,rfl⟩:∃ x r,xs=x::r:=by cases xs with
  | nil=>exact (hne rfl).elim
  | cons x r=>exact ⟨x,r,rfl⟩
 obtain ⟨p,cs,rfl,hA,_,_⟩:=hs.2 0 x0 rfl
 have hsp:p.spot=none:=by
  obtain ⟨_,_,_,_,h2,_⟩:=hA
  simpa [Addr.add] using h2
 obtain ⟨g,off,sp⟩:=p
 simp only at hsp
 subst hsp
 refine ⟨g,off,rfl,fun w hp j hj=>?_⟩
 obtain ⟨p',cs',e,hA',hl,hr⟩:=hs.2 j ((x0::r)[j]) (by rw [List.getElem?_eq_getElem hj])
 cases e
 have hcs:cs'=[.int .i64 ((x0::r)[j])]:=hr
 subst hcs
 have hc:=hA'.cell (X:=⟨w,h,[]⟩) (L:=[]) (St.start hp) (j:=0) (v:=.int .i64 ((x0::r)[j])) rfl
 have ha:((⟨g,off,none⟩:Addr).add (j * Rp.int.sz)).add 0=⟨g,off+j,none⟩:=by
  have h1:j * Rp.int.sz=j:=Nat.mul_one j
  rw [h1]
  by_cases e0:j=0
  ·subst e0;simp [Addr.add]
  ·simp [Addr.add,e0]
 rw [ha] at hc
 rw [hc]
 simp [List.getD,List.getElem?_eq_getElem hj]
theorem li (h:HF) (x:List Int) (Ki:Option Addr) (Kf:Nat) (target:Int) (hx:SlC Rp.int h Ki Kf x) (hs:x.Pairwise (·≤·)) (hsz:x.length≤2000000):
  Ret Tryz.prog 87 [.slice Ki x.length Kf,.int .i64 target] h (.tuple #[.int .i64 (slices_BinarySearch_int x target).1,.bool (slices_BinarySearch_int x target).2]):=by
 intro w hp
 by_cases hne:x=[]
 ·subst hne
  refine (iH (Tryz.slices_BinarySearch_int_empty Ki Kf target w) (fun w' hw=>by cases hw.1)).mono ?_
  rintro e w' ⟨rfl,rfl⟩
  exact ⟨h,[],St.start hp,rfl,rfl,rfl⟩
 ·obtain ⟨g,off,rfl,hc⟩:=FA hx.1 hne
  refine (iH (Tryz.slices_BinarySearch_int g off x.length Kf x target w (Nat.le_refl _) (by omega) (hc w hp) (by simpa using hs)) (fun w' hw=>by cases hw.1)).mono ?_
  rintro e w' ⟨rfl,q,rfl⟩
  refine ⟨h,[],(St.start hp).drew _,?_,rfl,rfl⟩
  simp [bsI,slices_BinarySearch_int]
abbrev J0 {α : Type} (P:Program) (f:FuncId) (args:List Value) (h:HF) (R:Rp α) (E:TypeId) (xs:List α):Prop:=
 oP P f args.toArray h [] (fun r h' G=>h'=h∧∃ b c,r=.returned (.slice b xs.length c)∧eb R E h xs b c G)
theorem Ay {h:HF} {w w':World} {v:Value} {xs:List Int} (hp:Pre h [] w) (hb:Below w.heap.size w w') (ho:w'.ownsRow w.heap.size 3 1 v xs.length (xs.map (Value.int .i64))):
  ∃ h' G,St ⟨w,h,[]⟩ h' G w'∧h'=h∧∃ b c,Ending.returned v=.returned (.slice b xs.length c)∧eb Rp.int 3 h xs b c G:=by
 obtain ⟨_,⟨rfl,hn⟩ | ⟨g,cap,cur,rfl,hg,hh,h1,h2,h3,h4⟩⟩:=ho
 ·have:xs=[]:=List.length_eq_zero_iff.1 hn
  subst this
  exact ⟨h,[],St.Hy hp hb,rfl,none,0,rfl,eb.nil⟩
 ·refine ⟨h,_,St.Gc hp hb hg hh,rfl,some ⟨g,0,none⟩,cap,rfl,.inr ⟨g,xs.map (Value.int .i64),cur.toList.drop xs.length,rfl,?_,?_,h1,?_,?_⟩⟩
  ·have:∀ l:List Int,bD Rp.int h (l.map (Value.int .i64)) l:=by
    intro l
    induction l with
    | nil=>rfl
    | cons y l ih=>exact ⟨[.int .i64 y],l.map (Value.int .i64),rfl,rfl,rfl,ih⟩
   exact this xs
  ·have h5:xs.map (Value.int .i64)++cur.toList.drop xs.length=cur.toList:=by
    rw [← h4,Nat.mul_one];exact List.take_append_drop _ _
   rw [h5];show _=cap * 1;simpa using h3
  ·have:maxLen=9223372036854775807:=by rfl
   omega
  ·have h5:xs.map (Value.int .i64)++cur.toList.drop xs.length=cur.toList:=by
    rw [← h4,Nat.mul_one];exact List.take_append_drop _ _
   rw [h5]
theorem lE (h:HF) (s:List Int) (qB:Option Addr) (pK:Nat) (hs:SlC Rp.int h qB pK s) (hsz:s.length≤2000000):J0 Tryz.prog 40 [.slice qB s.length pK] h Rp.int 3 s:=by
 intro w hp
 by_cases hne:s=[]
 ·subst hne
  cases qB with
  | none=>
   refine (iH (Tryz.slices_Clone_int_nil 0 pK w) (fun w' hw=>by cases hw.1)).mono ?_
   rintro e w' ⟨rfl,rfl⟩
   exact ⟨h,[],St.start hp,rfl,none,0,rfl,eb.nil⟩
  | some a=>
   refine (iH (Tryz.slices_Clone_int_zero a pK w) (fun w' hw=>by obtain ⟨_,e,_⟩:=hw;cases e)).mono ?_
   rintro e w' ⟨v,rfl,ho,_,hb⟩
   exact Ay (xs:=[]) hp hb ho
 ·obtain ⟨g,off,rfl,hc⟩:=FA hs.1 hne
  refine (iH (Tryz.slices_Clone_int g off s.length pK s w (Nat.le_refl _) (by omega) (hc w hp)) (fun w' hw=>by obtain ⟨_,e,_⟩:=hw;cases e)).mono ?_
  rintro e w' ⟨v,rfl,ho,_,hb⟩
  rw [List.take_length] at ho
  exact Ay hp hb ho
theorem lZ (h:HF) (xs:List Int) (b:Option Addr) (c:Nat) (G:LH) (hG:eb Rp.int 3 h xs b c G) (hsz:xs.length≤1000000000000):
  oP Tryz.prog 41 [.slice b xs.length c].toArray h G (fun r h' G'=>h'=h∧r=.returned (.tuple #[])∧eb Rp.int 3 h (sortI xs) b c G'):=by
 intro w hp
 rcases hG with ⟨rfl,rfl,rfl,rfl⟩ | ⟨bk,cl,sp,rfl,hcl,hlen,hcap,hmax,rfl⟩
 ·refine (iH (Tryz.slices_Sort_int_none none 0 w) (fun w' hw=>by cases hw.1)).mono ?_
  rintro e w' ⟨rfl,rfl⟩
  exact ⟨h,[],St.start hp,rfl,rfl,by rw [show sortI []=[] from by simp [sortI]];exact eb.nil⟩
 ·have hb:=hp.own _ (List.mem_singleton.2 rfl)
  simp only at hb
  have hcl':cl=xs.map (Value.int .i64):=by
   clear hlen hb hp hcap hmax hsz
   induction xs generalizing cl with
   | nil=>exact hcl
   | cons y l ih=>
    obtain ⟨cs,r,rfl,_,hr,hl⟩:=hcl
    have:cs=[.int .i64 y]:=hr
    rw [this,ih r hl];rfl
  subst hcl'
  have hH:Sort.Holds (Value.int .i64) w bk 0 xs.toArray:=by
   refine holds_of_blockI (cur:=(xs.map (Value.int .i64)++sp).toArray) (e:=3) hb ?_
   simp
  refine (iH (Tryz.slices_Sort_int bk 0 c xs w hH (fu hb) (by omega)) (fun w' hw=>by cases hw.1)).mono ?_
  rw [Bv]
  rintro e w' ⟨rfl,n,os,rfl⟩
  obtain ⟨g1,g2,g3,g4,g5⟩:=grownBy_sortedI (w:=w) (g:=bk) (n:=n) (os:=os) (sortI xs).toArray
  have hnew:=heap_sortedI (w:=w) (g:=bk) (n:=n) (os:=os) (sortI xs).toArray hb
  have htake:=take_putCellsI (xs.map (Value.int .i64)++sp).toArray (sortI xs) (by rw [iw];simp)
  refine ⟨h,[(bk,.cells (Sort.putCells (Value.int .i64) 0 (sortI xs).toArray (xs.map (Value.int .i64)++sp).toArray) 3 (0,0))],⟨g1,g2,g3,g4,fun k hk hM=>g5 k hk (fun e=>hM (by cases e;simp)),fun _ _ e=>e,fun _ _=>rfl,fun k o e=>?_,fun q hq=>?_,?_,?_,?_⟩,rfl,rfl,?_⟩
  ·have hne:k≠bk:=fun e'=>by
    have:=hp.free _ (List.mem_singleton.2 rfl)
    simp only at this
    rw [e',this] at e;cases e
   exact (g5 k (fu (hp.imm k o e)) (fun e'=>by cases e';exact hne rfl)).trans (hp.imm k o e)
  ·rw [List.mem_singleton.1 hq];exact hnew
  ·simp
  ·intro q hq;rw [List.mem_singleton.1 hq];exact hp.free (bk,Obj.cells (xs.map (Value.int .i64)++sp).toArray 3 (0,0)) (List.mem_singleton.2 rfl)
  ·intro q hq;rw [List.mem_singleton.1 hq];exact .inr (by simp)
  ·refine .inr ⟨bk,(sortI xs).map (Value.int .i64),(Sort.putCells (Value.int .i64) 0 (sortI xs).toArray (xs.map (Value.int .i64)++sp).toArray).toList.drop xs.length,rfl,?_,?_,by rw [iw];exact hcap,by rw [iw];exact hmax,?_⟩
   ·have:∀ l:List Int,bD Rp.int h (l.map (Value.int .i64)) l:=by
     intro l
     induction l with
     | nil=>rfl
     | cons y l ih=>exact ⟨[.int .i64 y],l.map (Value.int .i64),rfl,rfl,rfl,ih⟩
    exact this _
   ·rw [← htake,iw,List.take_append_drop]
    simpa [Sort.putCells] using hlen
   ·rw [← htake,iw,List.take_append_drop]
section steps
variable {P:Program} {b:Frame} {n:Nat} {ops:Array Oper} {F:List Frame→(Machine→Prop)→Prop} {e:Env} {ds:List Deferred} {X:Cx} {h:HF} {L:LH} {K:Env→HF→LH→Prop}
variable {d:Option Nat} {ty:TypeId} {pos:String} {af:Array Edge} {g:Option (Nat×Bool)}
theorem IS {α : Type} {R:Rp α} {E:TypeId} {xs:List α} {f:FuncId} {ass:Array Operand} {ats:Array TypeId} {vs:List Value}
  (hc:∀ args w,(callFunc f args).run P w=.ok (.enter f args) w) (hs:J0 P f vs h R E xs) (hvs:ass.toList.map e.ev=vs)
  (t':∀ bb c G,eb R E h xs bb c G→K (pute e d (.slice bb xs.length c)) h (L++G))
  (hg:guardB ops e ⟨d,.call ⟨.value (.func f),ass,ats⟩,ty,pos,af,g⟩=true:=by rfl):
  Stp P b n ops F ds X ⟨d,.call ⟨.value (.func f),ass,ats⟩,ty,pos,af,g⟩ e h L K:=by
 unfold Stp
 rw [if_pos hg]
 intro w hw
 have harr:ass.map e.ev=vs.toArray:=Array.ext' (by simp [← hvs])
 have hr:(execOp e.ev ⟨d,.call ⟨.value (.func f),ass,ats⟩,ty,pos,af,g⟩).run P w=.ok (.enter f vs.toArray) w:=by
  simp [execOp,resolve,Env.ev,Deferred.ofValue,invoke,harr,hc]
 rw [hr]
 refine jW (by simp) (jv (oU.mono (hs w (hw.sub (List.nil_sublist _)).pre) ?_))
 rintro x w' ⟨h',B,hst,rfl,bb,c,rfl,hG⟩
 exact ⟨h',_,(St.after (A:=[]) (F:=L) hw hst).perm List.perm_append_comm,t' bb c B hG⟩
theorem rT (A0 G Q:LH) {v:Value} {Φ : LH→Prop} {f:FuncId} {ass:Array Operand} {ats:Array TypeId} {vs:List Value}
  (hc:∀ args w,(callFunc f args).run P w=.ok (.enter f args) w) (hs:oP P f vs.toArray h G (fun r h' G'=>h'=h∧r=.returned v∧Φ G')) (hL:L=A0++(G++Q)) (hvs:ass.toList.map e.ev=vs)
  (t':∀ G',Φ G'→K (pute e d v) h (A0++(G'++Q)))
  (hg:guardB ops e ⟨d,.call ⟨.value (.func f),ass,ats⟩,ty,pos,af,g⟩=true:=by rfl):
  Stp P b n ops F ds X ⟨d,.call ⟨.value (.func f),ass,ats⟩,ty,pos,af,g⟩ e h L K:=by
 unfold Stp
 rw [if_pos hg]
 intro w hw
 subst hL
 have hp:∀ G:LH,(A0++(G++Q)).Perm (G++(A0++Q)):=fun G=>by
  rw [← List.append_assoc,← List.append_assoc];exact List.Perm.append_right Q List.perm_append_comm
 have hw':=hw.perm (hp G)
 have harr:ass.map e.ev=vs.toArray:=Array.ext' (by simp [← hvs])
 have hr:(execOp e.ev ⟨d,.call ⟨.value (.func f),ass,ats⟩,ty,pos,af,g⟩).run P w=.ok (.enter f vs.toArray) w:=by
  simp [execOp,resolve,Env.ev,Deferred.ofValue,invoke,harr,hc]
 rw [hr]
 refine jW (by simp) (jv (oU.mono (hs w hw'.pre.left) ?_))
 rintro x w' ⟨h',B,hst,rfl,rfl,hG⟩
 exact ⟨h',_,(St.after (A:=G) (F:=A0++Q) hw' hst).perm (hp B).symm,t' B hG⟩
end steps
end Go.Sg
