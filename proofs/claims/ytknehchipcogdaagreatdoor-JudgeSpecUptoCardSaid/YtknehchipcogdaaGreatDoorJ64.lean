import Derived.Test.YtknehchipcogdaaGreatDoorCards
import Derived.Test.YtknehchipcogdaaGreatDoorTie
import Derived.ProofKit
import Derived.Deep.DeepHandedRow
import Derived.Test.YtknehchipcogdaaGreatDoorJ62
import Derived.Test.YtknehchipcogdaaGreatDoorJ63
/- Part of JudgeSpec. -/
set_option linter.unusedVariables false
set_option linter.unusedSimpArgs false
set_option maxRecDepth 100000
open Go.Sg.Register renaming cells→vH,ok→vM
namespace Go.Sg
section
open Go.Proofs Go.Proofs.Tryz
set_option maxHeartbeats 4000000
theorem Iq(h bK fA vK bV bU u xl xk bD dh ad)(nW:vM h bK fA)(iC:SlC Rp.int h bV bU vK)(hu:SlC Use.rp h xl xk u)(hsm:smR bK)(hap:bK.bS.length<=24):j0 prog 10 [.agg (vH bK fA).toArray,.slice bV vK.length bU,.slice xl u.length xk,I bD,I dh,I ad] h (λv h'=>∃(rr0:py),v=.tuple #[.agg (dT.cells ((ii bK vK u bD dh ad).1) rr0).toArray,I ((ii bK vK u bD dh ad).2)]/\dT.ok h' ((ii bK vK u bD dh ad).1) rr0):=by
 refine sVv func10 ntmps10 ?_
 generalize hz:(ii bK vK u bD dh ad)=z
 have hsq:=hsm;unfold smR at hsq
 have q4:=λ(a:((jb bK vK u bD dh ad) != 0)=false)=>(jctx hsm a).ix
 have q5:=λ(a:((jb bK vK u bD dh ad) != 0)=false)=>(jctx hsm a).sg
 have q3:=λ(a:((jb bK vK u bD dh ad) != 0)=false)=>(jctx hsm a).kd
 have q2:=λ(a:((jb bK vK u bD dh ad) != 0)=false)(e:fM bK vK (cI bK bD) dh=false)=>vctx hsm a e
 have q0:=@jctx
 have q1:=@vctx
 exact W
end
section
open Go.Proofs Go.Proofs.Tryz
set_option maxHeartbeats 2000000
theorem law30_JudgeSpec_top{w:World}(h:HF)(hp:Pre h [] w)(bK:Register)(fA:iK)(vK:List Int)(bV:Option Addr)(bU:Nat)(u:List Use)(xl:Option Addr)(xk:Nat)(bD:Int)(dh:Int)(ad:Int)(nW:vM h bK fA)(iC:SlC Rp.int h bV bU vK)(hu:SlC Use.rp h xl xk u)(hsm:smR bK)(hk:ey h):Calls prog 3 [.agg (vH bK fA).toArray,.slice bV vK.length bU,.slice xl u.length xk,I bD,I dh,I ad].toArray w λe w'=>e=.returned (.bool (qU bK vK u bD dh ad))/\RowKit.Below w.heap.size w w':=by
 refine P5 hp TF U ntmps3 U λX hM hX=>?_
 have hs0:=@rfl _ (qU bK vK u bD dh ad)
 refine sr (j2 (λb1=>qO 5 U (e9 call7 (KY h  hk) U (qO 2 U (dy hs0 U (λc1 hs1=>?_) (λc1 hs2=>?_))))))
 .exact sr (an (HQ [.bool false] TF U hX rd (cs hs1)))
 .refine qT 4 U (ga 0 ty30 U U U (e9 call8 (M0 _ _ _ nW) U (qO 2 U (pH 4 [22,23,24,25,26] 22 26 (decide (40<(vK.length:Int))) U (λc2 hk1=>?_) (λe=>?_)))))
  .exact qL 4 [] U (hk1 _ U)
  refine dU (pH 4 [27,28,29,30,31] 27 31 (decide (30<(u.length:Int))) U (λc3 hk2=>?_) (λe=>?_))
  .exact qL 4 [] U (hk2 _ U)
  refine ck (dy hs2 U (λc4 hs4=>?_) (λc4 hs5=>?_))
  .exact sr (an (HQ [.bool true] TF U hX rd (cs hs4)))
  .refine qT 3 U (ga 0 ty30 U U U (qO 5 U (aS (eb Oe (ot _ _ _ _ _ _ _ _ _ bD dh ad nW iC hu ob (WQ ob) hk) U (λv1 h1 kE hp1=>?_)))))
   obtain⟨rr1,rfl,ok1⟩:=hp1
   refine qO 3 U (cS zc36 (λb2=>cJ 0 ty36 U U U U U U (qO 4 U (ga 1 ty30 U U U (qO 5 U (aS (eb call10 (Iq _ _ _ _ _ _ _ _ _ bD dh ad (nW.mono kE) (iC.mono Rp.bG kE) (hu.mono Use.aB kE) ob (WR ob)) U (λv2 h2 kF hp2=>?_))))))))
   obtain⟨rr2,rfl,ok2⟩:=hp2
   refine qO 3 U (cS zc36 (λb3=>cJ 0 ty36 U U U U U U (qO 3 U ?_)))
   refine MJ [(12,.bool ((((cQ bK)==(ij bK))&&(oS ((da bK vK u bD dh ad).1) ((ii bK vK u bD dh ad).1)))&&((da bK vK u bD dh ad).2==(ii bK vK u bD dh ad).2)))] (λe=>?_) (λhk3=>?_)
   rotate_left
   .let z1:Nat×Obj:=(b3,O (dT.cells ((ii bK vK u bD dh ad).1) rr2) 36)
    let z2:Nat×Obj:=(b2,O (dT.cells ((da bK vK u bD dh ad).1) rr1) 36)
    refine hU ([z1,z2,(b1,O (vH bK fA) 30)]) mixed kr jn (λkI _=>?_)
    refine tf 0 U U (λ_ _ hj=>nQ ty30 U (hj.nth (i:=2) U) U) (tf 2 U U (λ_ _ hj=>nQ ty30 U (hj.nth (i:=2) U) U) (tn 1 U (kg Q9 (pZ _ _ _ (nW.mono (kE.t kF)) ob (hk.mono (kE.t kF))) U (⟨jn,tn 3 U (kg call12 (AG _ _ _ (nW.mono (kE.t kF)) ob) U (⟨jn,qA [4,5] U ?_⟩))⟩))))
    refine pk 57 U (λc5=>?_) (λc5=>?_)
    .refine tf 6 U U (λ_ _ hj=>nQ ty36 U (hj.nth (i:=1) U) U) (tf 7 U U (λ_ _ hj=>nQ ty36 U (hj.nth (i:=0) U) U) (tn 8 U (kg call13 (Kt _ _ _ _ _ (ok1.mono kF) ok2) U (⟨jn,qA [9,10] U ?_⟩))))
     refine pk 62 U (λc6=>?_) (λc6=>?_)
     .exact tm 11 U (qR 12 4 U (dJ kr (hk3 _ ⟨(cb (show((da bK vK u bD dh ad).2==(ii bK vK u bD dh ad).2)=((((cQ bK)==(ij bK))&&(oS ((da bK vK u bD dh ad).1) ((ii bK vK u bD dh ad).1)))&&((da bK vK u bD dh ad).2==(ii bK vK u bD dh ad).2))from by rw[c5,c6]<;>rfl)),trivial⟩)))
     .exact tk 11 U U (qR 12 4 U (dJ kr (hk3 _ ⟨(cb (show false=((((cQ bK)==(ij bK))&&(oS ((da bK vK u bD dh ad).1) ((ii bK vK u bD dh ad).1)))&&((da bK vK u bD dh ad).2==(ii bK vK u bD dh ad).2))from by rw[c5,c6]<;>rfl)),trivial⟩)))
    .exact tk 6 U U (qR 7 9 U (dJ kr (hk3 _ ⟨(cb (show false=((((cQ bK)==(ij bK))&&(oS ((da bK vK u bD dh ad).1) ((ii bK vK u bD dh ad).1)))&&((da bK vK u bD dh ad).2==(ii bK vK u bD dh ad).2))from by rw[c5]<;>rfl)),trivial⟩)))
   exact HQ [.bool ((((cQ bK)==(ij bK))&&(oS ((da bK vK u bD dh ad).1) ((ii bK vK u bD dh ad).1)))&&((da bK vK u bD dh ad).2==(ii bK vK u bD dh ad).2))] TF U hX rd (cs hs5)
end
end Go.Sg
namespace Go.Proofs.YtknehchipcogdaaGreatDoor.judgeSpec
open Go.ChangeShapes Go.WideShapes Go.ChangeAt Go.RowKit
theorem own:ownKnob Tryz.prog.godebug=none:=by kernel_rfl
theorem laidOut:laidOutB Tryz.prog=true:=by kernel_rfl
theorem contract(H:Type)(enc:TypeId×Value->H)(W:World)(base:Nat)(args:Array Value)(ds gs:List (DataW H))(before:List MemPlace)(hval:∀(j:Nat)t v,Tryz.f3.params[j]? = some t->args[j]? = some v->Value.okWide Tryz.prog W .any base t v)(hW:DataW.Whole enc Tryz.prog Tryz.f3.params.toList Rows.judgeSpecSpec.vars false W args.toList ds gs before)(hcond:Rows.uptoSmall H (ds++gs)=true)(hL:laidMetH Tryz.prog Rows.judgeSpecUptoRow.laid W):
    Calls Tryz.prog 3 args W λe W'=>∃v,e=.returned v/\Rows.judgeSpecSpec.post enc Tryz.prog Tryz.f3 false true false false W args v W':=by
  have hW':=hW
  obtain⟨p,q,hA0,hV,rfl,hfz,hnd⟩:=hW
  have hA:DataW.TrodAll enc Tryz.prog W 0 (λ_=>true) true Tryz.f3.params.toList args.toList ds p:=hA0
  rw[Tryz.params3]at hA hval
  obtain⟨v0,vs0,d0,ds0,p0,z0,hargs,rfl,rfl,h0,t0⟩:=trodAll_cons hA
  obtain⟨v1,vs1,d1,ds1,p1,z1,rfl,rfl,rfl,h1,t1⟩:=trodAll_cons t0
  obtain⟨v2,vs2,d2,ds2,p2,z2,rfl,rfl,rfl,h2,t2⟩:=trodAll_cons t1
  obtain⟨v3,vs3,d3,ds3,p3,z3,rfl,rfl,rfl,h3,t3⟩:=trodAll_cons t2
  obtain⟨v4,vs4,d4,ds4,p4,z4,rfl,rfl,rfl,h4,t4⟩:=trodAll_cons t3
  obtain⟨v5,vs5,d5,ds5,p5,z5,rfl,rfl,rfl,h5,t5⟩:=trodAll_cons t4
  obtain⟨rfl,rfl,rfl⟩:=trodAll_nil t5
  obtain rfl:args=#[v0,v1,v2,v3,v4,v5]:=by cases args;simp_all
  obtain⟨rfl,rfl⟩:=trodVars_none hV
  clear hA0 hA
  have h0k:=h0
  have h1k:=h1
  have h2k:=h2
  have h3k:=h3
  have h4k:=h4
  have h5k:=h5
  simp only[List.append_nil]at hW' hcond
  have hB:Rows.uptoBulkAll [d0,d1,d2,d3,d4,d5]<=1048576:=of_decide_eq_true hcond
  obtain⟨a0,rfl,_⟩:=okWide_struct Tryz.underlying30 (hval 0 30 v0 rfl rfl)
  obtain⟨f0,g0⟩:=h0
  obtain⟨x0,⟨r0,e0,o0⟩,q0⟩:=Sg.opn_Register f0 _ _ _ g0
  obtain rfl:a0=(Sg.Register.cells x0 r0).toArray:=by
    apply Array.toList_inj.1;exact e0
  obtain⟨b1,l1,c1,rfl⟩:=okWide_slice Tryz.underlying31 (hval 1 31 v1 rfl rfl)
  obtain⟨f1,g1⟩:=h1
  obtain⟨b1',c1',x1,e1,o1,q1⟩:=Sg.opn_slice (R:=Sg.Rp.int) (sz:=λ_=>1) Tryz.underlying31 (by kernel_rfl) (by decide) (λk _=>Sg.opn_int (by kernel_rfl) k) g1
  cases e1
  obtain⟨b2,l2,c2,rfl⟩:=okWide_slice Tryz.underlying32 (hval 2 32 v2 rfl rfl)
  obtain⟨f2,g2⟩:=h2
  obtain⟨b2',c2',x2,e2,o2,q2⟩:=Sg.opn_slice (R:=Sg.Use.rp) (sz:=λ_=>1) Tryz.underlying32 (by kernel_rfl) (by decide) (λk _=>Sg.opn_Use k) g2
  cases e2
  obtain⟨n3,rfl⟩:=okWide_int Tryz.underlying3 (hval 3 3 v3 rfl rfl)
  obtain⟨n4,rfl⟩:=okWide_int Tryz.underlying3 (hval 4 3 v4 rfl rfl)
  obtain⟨n5,rfl⟩:=okWide_int Tryz.underlying3 (hval 5 3 v5 rfl rfl)
  simp only[Rows.uptoBulkAll]at hB
  have y1:=Sg.szL_len (f:=λ_:Int=>1) (λ_=>Nat.le_refl _) x1
  have y2:=Sg.szL_len (f:=λ_:Sg.Use=>1) (λ_=>Nat.le_refl _) x2
  have z0b:=Sg.bulk_one d0
  have z1b:=Sg.bulk_one d1
  have z2b:=Sg.bulk_one d2
  have z3b:=Sg.bulk_one d3
  have z4b:=Sg.bulk_one d4
  have z5b:=Sg.bulk_one d5
  have walk:=Sg.law30_JudgeSpec_top (Sg.hOf W) (Sg.pre_hOf W) x0 r0 x1 b1 c1 x2 b2 c2 n3 n4 n5 o0 o1 o2 (Sg.smR_of (by omega)) (Sg.kinds_of hL)
  rw[Sg.judgeSpec_true (Sg.smR_of (by omega))]at walk
  refine walk.mono λe W'⟨he,hb⟩=>?_
  subst he
  exact⟨_,rfl,Sg.post_below (pa:=p0++(p1++(p2++(p3++(p4++(p5++([]))))))) (pv:=[]) hW' (λ_ _ _=>trodAll_cons_mk (shut_bool Tryz.underlying4 _) trodAll_mk0) (λsp hsp=>(trodAll_cons_mk (Sg.stays laidOut (by kernel_rfl) (by kernel_rfl) h0k hb hW'.lt (λx hx=>by simp[hx]) hsp) (trodAll_cons_mk (Sg.stays laidOut (by kernel_rfl) (by kernel_rfl) h1k hb hW'.lt (λx hx=>by simp[hx]) hsp) (trodAll_cons_mk (Sg.stays laidOut (by kernel_rfl) (by kernel_rfl) h2k hb hW'.lt (λx hx=>by simp[hx]) hsp) (trodAll_cons_mk (Sg.stays laidOut (by kernel_rfl) (by kernel_rfl) h3k hb hW'.lt (λx hx=>by simp[hx]) hsp) (trodAll_cons_mk (Sg.stays laidOut (by kernel_rfl) (by kernel_rfl) h4k hb hW'.lt (λx hx=>by simp[hx]) hsp) (trodAll_cons_mk (Sg.stays laidOut (by kernel_rfl) (by kernel_rfl) h5k hb hW'.lt (λx hx=>by simp[hx]) hsp) trodAll_mk0))))))) (λ_ _=>rfl) (by simp) hb (ok_one (by kernel_rfl) rfl (okWide_bool_mk Tryz.underlying4 _))⟩
end Go.Proofs.YtknehchipcogdaaGreatDoor.judgeSpec
