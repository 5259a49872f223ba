import Derived.Test.YtngiefchigcphaaGreatDoorW1
import Derived.Test.YtngiefchigcphaaGreatDoorW2
import Derived.Test.YtngiefchigcphaaGreatDoorW3
import Derived.Test.YtngiefchigcphaaGreatDoorW4
import Derived.Test.YtngiefchigcphaaGreatDoorW5
import Derived.Test.YtngiefchigcphaaGreatDoorW6
import Derived.Test.YtngiefchigcphaaGreatDoorW7
/- A part of the proof of the law AsofEvery: where what it reads holds at most 1048576 values and letters, the call returns true and its arguments read as they did. Conditions: that bound, and that the listed table starts as the program lays it. -/
set_option linter.unusedVariables false
set_option linter.unusedSimpArgs false
namespace Go.Sg
open Go.Proofs
set_option maxRecDepth 100000
abbrev Ch {α : Type} (P:Program) (f:FuncId) (args:List Value) (h:HF) (R:Rp α) (E:TypeId) (S:List α→Prop):Prop:=
 nX P f args.toArray h [] (fun r h' G=>∃ xs bb c,S xs∧r=.returned (.slice bb xs.length c)∧ep R E h' xs bb c G)
section steps
variable {P:Program} {b:Frame} {n:Nat} {ops:Array Oper} {F:List Frame→(Machine→Prop)→Prop} {e:Env} {ds:List Deferred} {X:Cx} {h:HF} {L:LH} {K:Env→HF→LH→Prop}
variable {d:Option Nat} {ty:TypeId} {pos:String} {af:Array Edge} {g:Option (Nat×Bool)}
theorem tB {α : Type} {R:Rp α} {E:TypeId} {S:List α→Prop} {f:FuncId} {ass:Array Operand} {ats:Array TypeId} {vs:List Value}
  (hc:∀ args w,(callFunc f args).run P w=.ok (.enter f args) w) (hs:Ch P f vs h R E S) (hvs:ass.toList.map e.ev=vs)
  (t':∀ h' xs bb c G,h.le h'→S xs→ep R E h' xs bb c G→K (pute e d (.slice bb xs.length c)) h' (L++G))
  (hg:guardB ops e ⟨d,.call ⟨.value (.func f),ass,ats⟩,ty,pos,af,g⟩=true:=by rfl):
  Stp P b n ops F ds X ⟨d,.call ⟨.value (.func f),ass,ats⟩,ty,pos,af,g⟩ e h L K:=by
 unfold Stp
 rw [if_pos hg]
 intro w hw
 have harr:ass.map e.ev=vs.toArray:=Array.ext' (by simp [← hvs])
 have hr:(execOp e.ev ⟨d,.call ⟨.value (.func f),ass,ats⟩,ty,pos,af,g⟩).run P w=.ok (.enter f vs.toArray) w:=by
  simp [execOp,resolve,Env.ev,Deferred.ofValue,invoke,harr,hc]
 rw [hr]
 refine jU (by simp) (jx (n0.mono (hs w (hw.sub (List.nil_sublist _)).pre) ?_))
 rintro x w' ⟨h',B,hst,xs,bb,c,hS,rfl,hG⟩
 exact ⟨h',_,(St.after (A:=[]) (F:=L) hw hst).perm List.perm_append_comm,t' h' xs bb c B hst.le hS hG⟩
end steps
theorem vM (h:HF) (it:Value) (S:List Int→Prop) (hit:uR Tryz.prog it (fun (k:Int) (_:HF) (vs:List Value)=>vs=[Value.int .i64 k]) S h) (hS:∀ xs,S xs→xs.length≤1000000000000):Ch Tryz.prog 178 [.slice none 0 0,it] h Rp.int 3 S:=by
 refine ay Tryz.func178 rfl Tryz.ntmps178 rfl fun X hM hX=>?_
 refine ae (ai (dy (fun b1=>ba (ac (ae (ae (ai (aa (ac (aW (?_)))))))))))
 refine yH (it:=it) (S:=S) (ps:=[7])
  (fun done h' L'=>∃ gb gc G,L'=[(b1,Obj.cells (List.toArray [.slice gb done.length gc]) 31 (0,0))]++G∧ep Rp.int 3 h' done gb gc G)
  (fun _ _ _=>False) (fun _ _ _=>False) rfl hit rfl (fun x h' vs hv=>by rw [hv];rfl) ?_ (fun _ _ _ _ _ hf=>hf) (fun _ _ _ _ _ hf=>hf) ⟨none,0,[],rfl,ep.nil⟩ ?_ ?_ (fun _ _ _ _ _ hf=>hf.elim) (fun _ _ _ _ _ hf=>hf.elim)
 ·rintro done h1 h2 B hl ⟨gb,gc,G,rfl,hG⟩;exact ⟨gb,gc,G,rfl,hG.mono Rp.ce hl⟩
 ·rintro l1 r1 lp1 done y vs hr L' X' ⟨rest,hrest⟩ hle ⟨gb,gc,G,rfl,hG⟩ hv hlp hX' hXM
  obtain rfl:=hv
  have hlen:=hS _ hrest
  simp only [List.length_append,List.length_cons] at hlen
  refine ai (ba (ac ?_))
  refine j3 0 rfl hlp (aW (ai ?_))
  refine aO 2 ty31 rfl rfl rfl (aa ?_)
  refine a8 (ck (cells:=[.int .i64 y]) eL ty3 zc3 rfl rfl (by kernel_rfl) (fun b3=>?_))
  refine a8 (eK Rp.kP ([(b3,Obj.cells (List.toArray [.int .i64 y]) 3 (0,0)),(l1,.loop { lp1 with state:=.busy }),(r1,.deferred (some [])),(b1,Obj.cells (List.toArray [.slice gb done.length gc]) 31 (0,0))]) [] (fun G=>[(b3,Obj.cells (List.toArray [.int .i64 y]) 3 (0,0)),(l1,.loop { lp1 with state:=.busy }),(r1,.deferred (some [])),(b1,Obj.cells (List.toArray [.slice gb done.length gc]) 31 (0,0))]++G) (G:=G) (show _=[(b3,Obj.cells (List.toArray [.int .i64 y]) 3 (0,0)),(l1,.loop { lp1 with state:=.busy }),(r1,.deferred (some [])),(b1,Obj.cells (List.toArray [.slice gb done.length gc]) 31 (0,0))]++(G++[]) from by rw [List.append_nil];rfl) (fun _=>by first | rfl | simp only [List.nil_append]) eL ty3 zc3 rfl bytes3 hG rfl rfl (eZ (ys:=[y]) 0 rfl (show bV Rp.int hr [.int .i64 y] [y] from ⟨[.int .i64 y],[],rfl,rfl,rfl,rfl⟩)) (by simp only [List.length_append,List.length_cons,List.length_nil];omega) (by simp only [List.length_append,List.length_cons,List.length_nil];omega) (fun ob2 oc2 G2 gr2=>?_))
  refine dW 3 ty31 rfl rfl rfl rfl rfl rfl (ac (av ?_))
  refine cE (L':=(l1,.loop { lp1 with state:=.busy })::(r1,.deferred (some []))::([(b1,Obj.cells (List.toArray [.slice ob2 (done++[y]).length oc2]) 31 (0,0))]++G2)) (.cons _ (List.Sublist.refl _)) ?_
  exact zx rfl ⟨ob2,oc2,G2,rfl,gr2⟩
 ·rintro r1 xs h2 L' hxs hle ⟨gb,gc,G,rfl,hG⟩
  refine av (ae (ai (aO 1 ty31 rfl rfl rfl (ba (ac ?_)))))
  refine nk (L':=([(b1,Obj.cells (List.toArray [.slice gb xs.length gc]) 31 (0,0))]++G)++markB [r1]) (List.perm_append_singleton _ _).symm ?_
  exact tl [r1] Tryz.func178 (fun a ha w hw=>res1 rfl a ha w) (fun w hw=>hw.sub (L':=G) (List.sublist_append_right _ _)) ⟨xs,gb,gc,hxs,rfl,hG⟩
theorem yy (h:HF) (it:Value) (S:List Int→Prop) (hit:uR Tryz.prog it (fun (k:Int) (_:HF) (vs:List Value)=>vs=[Value.int .i64 k]) S h) (hS:∀ xs,S xs→xs.length≤1000000000000):Ch Tryz.prog 108 [it] h Rp.int 3 S:=by
 refine ay Tryz.func108 rfl Tryz.ntmps108 rfl fun X hM hX=>?_
 refine ae (ai (ba (ac (ae (ai (aa ?_))))))
 refine a8 (tB Tryz.call178 (vM h it S hit hS) rfl (fun h' xs bb c G hle hxs hG=>?_))
 refine ba (ac ?_)
 exact m5 Tryz.func108 (fun a ha w hw=>res1 rfl a ha w) (fun w hw=>hw.sub (L':=G) (List.sublist_append_right _ _)) ⟨xs,bb,c,hxs,rfl,hG⟩
theorem uS (h:HF) (it:Value) (S:List OSeat→Prop) (hit:uR Tryz.prog it (fun (k:OSeat) (_:HF) (vs:List Value)=>vs=[OSeat.enc k]) S h) (hS:∀ xs,S xs→xs.length≤1000000000000):Ch Tryz.prog 239 [.slice none 0 0,it] h OSeat.rp 212 S:=by
 refine ay Tryz.func239 rfl Tryz.ntmps239 rfl fun X hM hX=>?_
 refine ae (ai (dy (fun b1=>ba (ac (ae (ae (ai (aa (ac (aW (?_)))))))))))
 refine yH (it:=it) (S:=S) (ps:=[7])
  (fun done h' L'=>∃ gb gc G,L'=[(b1,Obj.cells (List.toArray [.slice gb done.length gc]) 215 (0,0))]++G∧ep OSeat.rp 212 h' done gb gc G)
  (fun _ _ _=>False) (fun _ _ _=>False) rfl hit rfl (fun x h' vs hv=>by rw [hv];rfl) ?_ (fun _ _ _ _ _ hf=>hf) (fun _ _ _ _ _ hf=>hf) ⟨none,0,[],rfl,ep.nil⟩ ?_ ?_ (fun _ _ _ _ _ hf=>hf.elim) (fun _ _ _ _ _ hf=>hf.elim)
 ·rintro done h1 h2 B hl ⟨gb,gc,G,rfl,hG⟩;exact ⟨gb,gc,G,rfl,hG.mono OSeat.aN hl⟩
 ·rintro l1 r1 lp1 done y vs hr L' X' ⟨rest,hrest⟩ hle ⟨gb,gc,G,rfl,hG⟩ hv hlp hX' hXM
  obtain rfl:=hv
  have hlen:=hS _ hrest
  simp only [List.length_append,List.length_cons] at hlen
  refine ai (bX zc212 (fun b2=>bN 0 ty212 rfl rfl rfl rfl rfl rfl (ac ?_)))
  refine j3 1 rfl hlp (aW (ai ?_))
  refine aO 3 ty215 rfl rfl rfl (dq 0 ty212 rfl rfl rfl ?_)
  refine a8 (ck (cells:=[.int .i64 y.office,.int .i64 y.person]) Fe ty212 zc212 rfl rfl (by kernel_rfl) (fun b3=>?_))
  refine a8 (eK OSeat.e5 ([(b3,Obj.cells (List.toArray [.int .i64 y.office,.int .i64 y.person]) 212 (0,0)),(b2,Obj.cells (OSeat.cells y).toArray 212 (0,0)),(l1,.loop { lp1 with state:=.busy }),(r1,.deferred (some [])),(b1,Obj.cells (List.toArray [.slice gb done.length gc]) 215 (0,0))]) [] (fun G=>[(b3,Obj.cells (List.toArray [.int .i64 y.office,.int .i64 y.person]) 212 (0,0)),(b2,Obj.cells (OSeat.cells y).toArray 212 (0,0)),(l1,.loop { lp1 with state:=.busy }),(r1,.deferred (some [])),(b1,Obj.cells (List.toArray [.slice gb done.length gc]) 215 (0,0))]++G) (G:=G) (show _=[(b3,Obj.cells (List.toArray [.int .i64 y.office,.int .i64 y.person]) 212 (0,0)),(b2,Obj.cells (OSeat.cells y).toArray 212 (0,0)),(l1,.loop { lp1 with state:=.busy }),(r1,.deferred (some [])),(b1,Obj.cells (List.toArray [.slice gb done.length gc]) 215 (0,0))]++(G++[]) from by rw [List.append_nil];rfl) (fun _=>by first | rfl | simp only [List.nil_append]) Fe ty212 zc212 rfl bytes212 hG rfl rfl (eZ (ys:=[y]) 0 rfl (show bV OSeat.rp hr [.int .i64 y.office,.int .i64 y.person] [y] from ⟨[.int .i64 y.office,.int .i64 y.person],[],rfl,rfl,rfl,rfl⟩)) (by simp only [List.length_append,List.length_cons,List.length_nil];omega) (by simp only [List.length_append,List.length_cons,List.length_nil];omega) (fun ob2 oc2 G2 gr2=>?_))
  refine dW 4 ty215 rfl rfl rfl rfl rfl rfl (ac (av ?_))
  refine cE (L':=(l1,.loop { lp1 with state:=.busy })::(r1,.deferred (some []))::([(b1,Obj.cells (List.toArray [.slice ob2 (done++[y]).length oc2]) 215 (0,0))]++G2)) (.cons _ (.cons _ (List.Sublist.refl _))) ?_
  exact zx rfl ⟨ob2,oc2,G2,rfl,gr2⟩
 ·rintro r1 xs h2 L' hxs hle ⟨gb,gc,G,rfl,hG⟩
  refine av (ae (ai (aO 1 ty215 rfl rfl rfl (ba (ac ?_)))))
  refine nk (L':=([(b1,Obj.cells (List.toArray [.slice gb xs.length gc]) 215 (0,0))]++G)++markB [r1]) (List.perm_append_singleton _ _).symm ?_
  exact tl [r1] Tryz.func239 (fun a ha w hw=>res1 rfl a ha w) (fun w hw=>hw.sub (L':=G) (List.sublist_append_right _ _)) ⟨xs,gb,gc,hxs,rfl,hG⟩
theorem xW (h:HF) (it:Value) (S:List OSeat→Prop) (hit:uR Tryz.prog it (fun (k:OSeat) (_:HF) (vs:List Value)=>vs=[OSeat.enc k]) S h) (hS:∀ xs,S xs→xs.length≤1000000000000):Ch Tryz.prog 210 [it] h OSeat.rp 212 S:=by
 refine ay Tryz.func210 rfl Tryz.ntmps210 rfl fun X hM hX=>?_
 refine ae (ai (ba (ac (ae (ai (aa ?_))))))
 refine a8 (tB Tryz.call239 (uS h it S hit hS) rfl (fun h' xs bb c G hle hxs hG=>?_))
 refine ba (ac ?_)
 exact m5 Tryz.func210 (fun a ha w hw=>res1 rfl a ha w) (fun w hw=>hw.sub (L':=G) (List.sublist_append_right _ _)) ⟨xs,bb,c,hxs,rfl,hG⟩
end Go.Sg
namespace Go.Sg
open Go.Proofs
set_option maxRecDepth 100000
theorem ld (h:HF) (it:Value) (ks:List Int) (hit:uR Tryz.prog it (fun (k:Int) (_:HF) (vs:List Value)=>vs=[Value.int .i64 k]) (fun xs=>xs.Perm ks) h) (hk:ks.length≤1000000000000):
  jK Tryz.prog 60 [it] h (fun v h'=>∃ (b:Option Addr) (c:Nat),v=.slice b (sortI ks).length c∧SlC Rp.int h' b c (sortI ks)):=by
 refine ay Tryz.func60 rfl Tryz.ntmps60 rfl fun X hM hX=>?_
 refine ae (ai (ba (ac (ae (ai (aa ?_))))))
 refine a8 (tB Tryz.call108 (yy h it _ hit (fun xs hx=>by rw [hx.length_eq];exact hk)) rfl (fun h' xs bb c G hle hxs hG=>?_))
 refine ba (ac (ae (ai (aa ?_))))
 refine a8 (qH [] G [] Tryz.call41 (lH h' xs bb c G hG (by rw [hxs.length_eq];exact hk)) (by simp) rfl (fun G' hG'=>?_))
 refine ac (ae (ai (aa (ba (ac ?_)))))
 refine gj Rp.ce [] G' [] (by simp) hM hG' (fun h2 hle2 sl=>?_)
 refine dS [.slice bb xs.length c] Tryz.func60 rfl ⟨rfl,trivial⟩ ⟨bb,c,?_,?_⟩
 ·rw [← AB hxs,ie];rfl
 ·rw [← AB hxs];exact sl
theorem oC (h:HF) (m:List (Int×Bool)) (zJ:Nat) (hm:nZ (Value.int .i64) ia h zJ m):jK Tryz.prog 61 [.map (some zJ)] h (fun v h'=>uR Tryz.prog v (fun (k:Int) (_:HF) (vs:List Value)=>vs=[(Value.int .i64) k]) (fun xs=>xs.Perm (m.map (·.1))) h'):=by
 refine ay Tryz.func61 rfl Tryz.ntmps61 rfl fun X hM hX=>?_
 refine ae (ai (dy (fun b1=>ba (ac (ae (ai ?_))))))
 refine cq 0 rfl hM (fun h2 hle2 hb2=>?_)
 refine a8 (fV rfl rfl ?_)
 refine ba (ac ?_)
 refine dS [.func (.func 109) #[] #[.pointer (some ⟨b1,0,none⟩)]] Tryz.func61 rfl ⟨rfl,trivial⟩ ?_
 exact sa h2 m zJ ⟨b1,0,none⟩ (hm.mono ia.mono hle2) (dR hb2)
theorem qX (h:HF) (m:List (Int×Version)) (zJ:Nat) (hm:nZ (Value.int .i64) (kb Version.rp) h zJ m):jK Tryz.prog 141 [.map (some zJ)] h (fun v h'=>uR Tryz.prog v (fun (k:Int) (_:HF) (vs:List Value)=>vs=[(Value.int .i64) k]) (fun xs=>xs.Perm (m.map (·.1))) h'):=by
 refine ay Tryz.func141 rfl Tryz.ntmps141 rfl fun X hM hX=>?_
 refine ae (ai (dy (fun b1=>ba (ac (ae (ai ?_))))))
 refine cq 0 rfl hM (fun h2 hle2 hb2=>?_)
 refine a8 (fV rfl rfl ?_)
 refine ba (ac ?_)
 refine dS [.func (.func 209) #[] #[.pointer (some ⟨b1,0,none⟩)]] Tryz.func141 rfl ⟨rfl,trivial⟩ ?_
 exact pI h2 m zJ ⟨b1,0,none⟩ (hm.mono (kb.mono Version.aN) hle2) (dR hb2)
theorem qY (h:HF) (m:List (OSeat×Appoint)) (zJ:Nat) (hm:nZ OSeat.enc (kb Appoint.rp) h zJ m):jK Tryz.prog 154 [.map (some zJ)] h (fun v h'=>uR Tryz.prog v (fun (k:OSeat) (_:HF) (vs:List Value)=>vs=[OSeat.enc k]) (fun xs=>xs.Perm (m.map (·.1))) h'):=by
 refine ay Tryz.func154 rfl Tryz.ntmps154 rfl fun X hM hX=>?_
 refine ae (ai (dy (fun b1=>ba (ac (ae (ai ?_))))))
 refine cq 0 rfl hM (fun h2 hle2 hb2=>?_)
 refine a8 (fV rfl rfl ?_)
 refine ba (ac ?_)
 refine dS [.func (.func 212) #[] #[.pointer (some ⟨b1,0,none⟩)]] Tryz.func154 rfl ⟨rfl,trivial⟩ ?_
 exact pJ h2 m zJ ⟨b1,0,none⟩ (hm.mono (kb.mono Appoint.aN) hle2) (dR hb2)
end Go.Sg
namespace Go.Sg
open Go.Proofs
set_option maxHeartbeats 2000000
set_option maxRecDepth 100000
set_option linter.unusedVariables false
theorem oa (h:HF) (l:(List Int)) (eW:Option Addr) (eV:Nat) (l_q:Addr) (hl:SlC Rp.int h eW eV l) (al:At h l_q [.slice eW l.length eV]):Itr Tryz.prog (.func (.func 62) #[] (List.toArray [.pointer (some l_q)])) w4 (aX l) h:=by
 refine uD Tryz.call62 ?_
 intro yf ya yb C Sp Pn h1 A hle m1 m2 m3 hC hy
 refine jN Aq U Tryz.ntmps62 U fun X hXM hX=>?_
 have hs0:aX l=[]++aX l:=rfl
 refine sr (eC ty31 (al.mono hle) U (bC eL U (aa (ac ?_))))
 refine br (ι:=Nat×List Span×LH×HF) (fun i=>[]) (fun i=>i.2.2.2) (fun i=>i.2.2.1) (fun i=>i.1≤l.length∧aX l=i.2.1++((aX.K1))∧C i.2.1 i.2.2.2 i.2.2.1∧HF.le h1 i.2.2.2) ?_ (fun hx1=>?_)
 ·rintro ⟨i1,dn1,A1_,hh1⟩ ⟨bd,hs1,hC1_,hl1⟩ e
  try dsimp only at bd hC1_ hl1
  try dsimp only
  refine gf ?_
  have hs2:aX l=dn1:=hs1.trans (List.append_nil _)
  exact uE [] (A:=A1_) Aq U (List.Sublist.refl _) (.inl (hs2 ▸ hC1_))
 ·refine cp (ι:=Nat×List Span×LH×HF×List Int) (fun i=>[(0,.func yf ya yb),(1,.pointer (some l_q)),(6,.slice eW l.length eV),(7,I ((l.length:Nat):Int)),(8,I ((i.1:Nat):Int))]) (fun i=>i.2.2.2.1) (fun i=>i.2.2.1) (fun i=>l.drop i.1=i.2.2.2.2∧i.1≤l.length∧aX l=i.2.1++((aX.L1 l (aX.K1)) i.2.2.2.2 i.1)∧C i.2.1 i.2.2.2.1 i.2.2.1∧HF.le h1 i.2.2.2.1) (fun i=>i.2.2.2.2.length) (0,[],A,h1,l) rd sw ⟨U,Nat.zero_le _,hs0,hC,(HF.le_refl h1)⟩ ?_
  rintro ⟨i1,dn1,A1_,hh1,s1⟩ ⟨hd1,bd,hs3,hC1_,hl1⟩ ag1 e
  try dsimp only at hd1 bd hC1_ hl1
  rcases s1 with _ | ⟨y1,rz1⟩
  ·have dI:=cU hd1
   try dsimp only
   refine sr (aB (v':=.bool false) U (cb dI) (ac (ae (bg U (bO U ?_)))))
   exact hx1 (i1,dn1,A1_,hh1) _ ⟨bd,hs3,hC1_,hl1⟩ trivial
  ·have dH:=dY hd1
   have bh:=cY hd1
   have eT:=aT hd1
   have gx:=(hl.mono Rp.ce hle).1.1
   try dsimp only
   refine sr (aB (v':=.bool true) U (cb dH) (ac (ae (bn U (ao (ae (aW (sr (aa (a8 (fQ (enc:=fun y=>[I y]) (fun _ _ _ e=>e) eL ty3 (hl.mono Rp.ce (hle.t hl1)).1 (nthZ bh) (bB bh) U U U (fun q3 A6=>?_))))))))))))
   refine eC ty3 A6 U (ba (an (sr (an (ae (sr (aa (aB (v':=I (((i1+1):Nat):Int)) U (bW ob) (eC ty31 (al.mono (hle.t hl1)) U (bC eL U ?_))))))))))
   refine aJ U (ac ?_)
   refine aE U (fun c3=>?_) (fun c3=>?_)
   ·have c3p:=of_decide_eq_true c3
    have hs5:=hs3.trans (congrArg (dn1++·) (bt c3))
    refine ai (aa (eC ty31 (al.mono (hle.t hl1)) U (aa (aB (v':=I (((i1+1):Nat):Int)) U (bW ob) ?_))))
    have ho2:0≤((((i1+1):Nat):Int):Int)∧((((i1+1):Nat):Int):Int) < ((l).length:Int):=ob
    refine a8 (fQ (enc:=fun y=>[I y]) (fun _ _ _ e=>e) eL ty3 (hl.mono Rp.ce (hle.t hl1)).1 ho2 (eA ho2) U U U (fun q4 A7=>eC ty3 A7 U (a8 (gH (In U U) (an (sr ?_))))))
    refine aa (aa (aJ U (aa ?_)))
    refine ar 28 U (fun c4=>?_) (fun c4=>?_)
    ·have c4p:=of_decide_eq_true c4
     have hs6:=hs5.trans (congrArg (dn1++·) (bt c4))
     refine aa (aa (aa (a8 (fw (cells:=[I y1,I (min 1099511627776 (nthI l (((i1+1):Nat):Int)))]) (places:=[(0,1),(1,1)]) yG zc46 kr kr ?_))))
     have hx2:aX l=dn1++((Span.mk y1 (min 1099511627776 (nthI l (((i1+1):Nat):Int))))::(aX.L1 l (aX.K1) rz1 ((i1+1)))):=hs6
     refine a8 (lA ([]) A1_ ap (hy dn1 (Span.mk y1 (min 1099511627776 (nthI l (((i1+1):Nat):Int)))) _ _ _ _ hx2 hl1 hC1_ U) U U (fun h5 A8 hle4 hC2=>?_) (fun h6 A9 hle5 hS2=>?_) (fun ch2 h7 A10 hle6 hP2 e=>i6 (pM [] (A:=A10) Aq (List.sublist_append_right _ _) hP2)))
     ·have hs7:aX l=(dn1++[(Span.mk y1 (min 1099511627776 (nthI l (((i1+1):Nat):Int))))])++((aX.L1 l (aX.K1) rz1 ((i1+1)))):=hx2.trans ap
      refine cV U (ah U (ac (bg U (ao (av (ai (aB (v':=I (((i1+1):Nat):Int)) U (bW ob) (aa (ac ?_)))))))))
      exact ag1 ((i1+1),(dn1++[(Span.mk y1 (min 1099511627776 (nthI l (((i1+1):Nat):Int))))]),A8,h5,rz1) _ (Nat.lt_succ_self _) ⟨bF hd1,aT hd1,hs7,hC2,(hl1.t hle4)⟩ rd
     ·refine cV U (ah U (ac (bn U ?_)))
      refine gf ?_
      exact pL [] (A:=A9) Aq U (List.Sublist.refl _) (.inr hS2)
    ·have c4p:=of_decide_eq_false c4
     have hs8:=hs5.trans (congrArg (dn1++·) (bf c4))
     refine kq (kq (kq (ah U (ac (bg U (ao (av (ai (aB (v':=I (((i1+1):Nat):Int)) U (bW ob) (aa (ac ?_)))))))))))
     exact ag1 ((i1+1),dn1,A1_,hh1,rz1) _ (Nat.lt_succ_self _) ⟨bF hd1,aT hd1,hs8,hC1_,hl1⟩ rd
   ·have c3p:=of_decide_eq_false c3
    have hs9:=hs3.trans (congrArg (dn1++·) (bf c3))
    refine ao (sr (aa (aa (aJ U (aa ?_)))))
    refine ar 28 U (fun c5=>?_) (fun c5=>?_)
    ·have c5p:=of_decide_eq_true c5
     have hs10:=hs9.trans (congrArg (dn1++·) (bt c5))
     refine aa (aa (aa (a8 (fw (cells:=[I y1,I 1099511627776]) (places:=[(0,1),(1,1)]) yG zc46 kr kr ?_))))
     have hx3:aX l=dn1++((Span.mk y1 1099511627776)::(aX.L1 l (aX.K1) rz1 ((i1+1)))):=hs10
     refine a8 (lA ([]) A1_ ap (hy dn1 (Span.mk y1 1099511627776) _ _ _ _ hx3 hl1 hC1_ U) U U (fun h8 A11 hle7 hC3=>?_) (fun h9 A12 hle8 hS3=>?_) (fun ch3 h10 A13 hle9 hP3 e=>i6 (pM [] (A:=A13) Aq (List.sublist_append_right _ _) hP3)))
     ·have hs11:aX l=(dn1++[(Span.mk y1 1099511627776)])++((aX.L1 l (aX.K1) rz1 ((i1+1)))):=hx3.trans ap
      refine cV U (ah U (ac (bg U (ao (av (ai (aB (v':=I (((i1+1):Nat):Int)) U (bW ob) (aa (ac ?_)))))))))
      exact ag1 ((i1+1),(dn1++[(Span.mk y1 1099511627776)]),A11,h8,rz1) _ (Nat.lt_succ_self _) ⟨bF hd1,aT hd1,hs11,hC3,(hl1.t hle7)⟩ rd
     ·refine cV U (ah U (ac (bn U ?_)))
      refine gf ?_
      exact pL [] (A:=A12) Aq U (List.Sublist.refl _) (.inr hS3)
    ·have c5p:=of_decide_eq_false c5
     have hs12:=hs9.trans (congrArg (dn1++·) (bf c5))
     refine kq (kq (kq (ah U (ac (bg U (ao (av (ai (aB (v':=I (((i1+1):Nat):Int)) U (bW ob) (aa (ac ?_)))))))))))
     exact ag1 ((i1+1),dn1,A1_,hh1,rz1) _ (Nat.lt_succ_self _) ⟨bF hd1,aT hd1,hs12,hC1_,hl1⟩ rd
theorem pr (h:HF) (q:aU) (ja:gr) (hq:aU.ok h q ja) (hsm:smR q.Register) (hov:okV q.Register.Versions) (hod:0≤q.doc.At∧q.doc.At≤1099511627776):jK Tryz.prog 29 [.agg (aU.cells q ja).toArray] h (fun v h'=>∃ (rv0:Value),v=rv0∧Itr Tryz.prog rv0 w4 (aH q) h'):=by
 refine ay Tryz.func29 U Tryz.ntmps29 U fun X hM hX=>?_
 have hs0:aH q=aH q:=rfl
 have hm1:=gh (mput (mput ([]:List (Int×Bool)) 0 true) q.doc.At true) q.doc.Until true
 have hm2:=gh (mput ([]:List (Int×Bool)) 0 true) q.doc.At true
 have hm3:=gh ([]:List (Int×Bool)) 0 true
 have hs1:=hsm.2.1
 have hs2:=hsm.2.2.2.1
 have hs3:=hov.1
 simp only [List.length_nil] at hm3
 refine sr (dy (fun b1=>an (ae ?_)))
 let z1:Nat×Obj:=(b1,O (aU.cells q ja) 77)
 refine vN (ι:=Nat×Obj) (fun i=>[(1,Q b1),(3,.map (some i.1))]) (fun i=>[(i.1,i.2),z1]) (fun i=>gy (Value.int .i64) ia h i.2 (mput (mput (mput ([]) 0 true) q.doc.At true) q.doc.Until true)) ?_ (fun hk1=>?_)
 rotate_left
 ·refine ga ([z1]) mixed kr jn (fun eX _=>?_)
  refine tf 2 U U (fun _ _ _=>dB mh U) (tf 3 U U (fun _ _ _=>dB ml U) (tf 4 U U (fun _ _ hj=>gu ty3 U (hj.nth (i:=0) U) U) ?_))
  refine tf 6 U U (fun _ _ _=>dB mh U) (tf 7 U U (fun _ _ _=>dB pX U) (tf 8 U U (fun _ _ hj=>gu ty3 U (hj.nth (i:=0) U) U) ?_))
  refine tn 0 U (og (fun b3=>⟨jn,?_⟩))
  refine Fm 1 5 9 kr U U U ?_ ?_ ?_ 
  ·refine iz 0 (k:=0) (x:=true) kM (eS kl) U (gy.nil (enc:=(Value.int .i64)) (V:=ia) (h:=h)) U U U (fun mo2 hm2=>⟨jn,?_⟩)
   refine lF 5 9 kr U U ?_ ?_ 
   ·refine iz 0 (k:=q.doc.At) (x:=true) kM (eS kl) U hm2 U U U (fun mo3 hm3=>⟨jn,?_⟩)
    refine tn 9 U (iz 0 (k:=q.doc.Until) (x:=true) kM (eS kl) U hm3 U U U (fun mo4 hm4=>⟨jn,?_⟩))
    refine tm 10 U (tf 11 U U (fun _ _ _=>fO) (bY kr ?_))
    exact hk1 (b3,mo4) _ hm4 rd
   ·refine iz 0 (k:=q.doc.Until) (x:=true) kM (eS kl) U hm2 U U U (fun mo5 hm5=>⟨jn,?_⟩)
    refine tn 5 U (iz 0 (k:=q.doc.At) (x:=true) kM (eS kl) U hm5 U U U (fun mo6 hm6=>⟨jn,?_⟩))
    refine tm 10 U (tf 11 U U (fun _ _ _=>fO) (bY kr ?_))
    exact hk1 (b3,mo6) _ (gy.perm hm6 (nN true (p132 0 q.doc.At q.doc.Until) List.nodup_nil)) rd
  ·refine iz 0 (k:=q.doc.At) (x:=true) kM (eS kl) U (gy.nil (enc:=(Value.int .i64)) (V:=ia) (h:=h)) U U U (fun mo7 hm7=>⟨jn,?_⟩)
   refine lF 1 9 kr U U ?_ ?_ 
   ·refine iz 0 (k:=0) (x:=true) kM (eS kl) U hm7 U U U (fun mo8 hm8=>⟨jn,?_⟩)
    refine tn 9 U (iz 0 (k:=q.doc.Until) (x:=true) kM (eS kl) U hm8 U U U (fun mo9 hm9=>⟨jn,?_⟩))
    refine tm 10 U (tf 11 U U (fun _ _ _=>fO) (bY kr ?_))
    exact hk1 (b3,mo9) _ (gy.perm hm9 (nN true (p213 0 q.doc.At q.doc.Until) List.nodup_nil)) rd
   ·refine iz 0 (k:=q.doc.Until) (x:=true) kM (eS kl) U hm7 U U U (fun mo10 hm10=>⟨jn,?_⟩)
    refine tn 1 U (iz 0 (k:=0) (x:=true) kM (eS kl) U hm10 U U U (fun mo11 hm11=>⟨jn,?_⟩))
    refine tm 10 U (tf 11 U U (fun _ _ _=>fO) (bY kr ?_))
    exact hk1 (b3,mo11) _ (gy.perm hm11 (nN true (p231 0 q.doc.At q.doc.Until) List.nodup_nil)) rd
  ·refine iz 0 (k:=q.doc.Until) (x:=true) kM (eS kl) U (gy.nil (enc:=(Value.int .i64)) (V:=ia) (h:=h)) U U U (fun mo12 hm12=>⟨jn,?_⟩)
   refine lF 1 5 kr U U ?_ ?_ 
   ·refine iz 0 (k:=0) (x:=true) kM (eS kl) U hm12 U U U (fun mo13 hm13=>⟨jn,?_⟩)
    refine tn 5 U (iz 0 (k:=q.doc.At) (x:=true) kM (eS kl) U hm13 U U U (fun mo14 hm14=>⟨jn,?_⟩))
    refine tm 10 U (tf 11 U U (fun _ _ _=>fO) (bY kr ?_))
    exact hk1 (b3,mo14) _ (gy.perm hm14 (nN true (p312 0 q.doc.At q.doc.Until) List.nodup_nil)) rd
   ·refine iz 0 (k:=q.doc.At) (x:=true) kM (eS kl) U hm12 U U U (fun mo15 hm15=>⟨jn,?_⟩)
    refine tn 1 U (iz 0 (k:=0) (x:=true) kM (eS kl) U hm15 U U U (fun mo16 hm16=>⟨jn,?_⟩))
    refine tm 10 U (tf 11 U U (fun _ _ _=>fO) (bY kr ?_))
    exact hk1 (b3,mo16) _ (gy.perm hm16 (nN true (p321 0 q.doc.At q.doc.Until) List.nodup_nil)) rd
 rintro ⟨b2,mo1⟩ hm1 e
 try dsimp only at hm1
 try dsimp only
 refine ae (sr (az pU U (az rO U (aO 1 ty22 U U U (bC na U (aa (ac ?_)))))))
 refine br (ι:=Nat×(List (Int×Bool))×Obj) (fun i=>[(1,Q b1),(3,.map (some b2))]) (fun i=>h) (fun i=>[(b2,i.2.2),z1]) (fun i=>i.1≤q.Register.Appoints.length∧aH q=((aH.K1 q) i.2.1)∧gy (Value.int .i64) ia h i.2.2 i.2.1∧i.2.1.length≤(mput (mput (mput ([]) 0 true) q.doc.At true) q.doc.Until true).length+i.1) ?_ (fun hx1=>?_)
 ·rintro ⟨i1,dt,jc⟩ ⟨bd,hs1,fB,jH⟩ e
  try dsimp only at bd fB jH
  try dsimp only
  refine ae (sr (az pU U (az pZ U (aO 1 ty24 U U U (bC nj U (aa (ac ?_)))))))
  refine br (ι:=Nat×(List (Int×Bool))×Obj) (fun i=>[(1,Q b1),(3,.map (some b2))]) (fun i=>h) (fun i=>[(b2,i.2.2),z1]) (fun i=>i.1≤q.Register.Interests.length∧aH q=((aH.K2 q) i.2.1)∧gy (Value.int .i64) ia h i.2.2 i.2.1∧i.2.1.length≤dt.length+i.1) ?_ (fun hx2=>?_)
  ·rintro ⟨i2,jQ,xi⟩ ⟨jW,hs2,pg,xj⟩ e
   try dsimp only at jW pg xj
   try dsimp only
   refine ae (sr (az pU U (az lD U (aO 1 ty26 U U U (bC lb U (aa (ac ?_)))))))
   refine br (ι:=Nat×(List (Int×Bool))×Obj) (fun i=>[(3,.map (some b2))]) (fun i=>h) (fun i=>[(b2,i.2.2),z1]) (fun i=>i.1≤q.Register.Versions.length∧aH q=((aH.K3) i.2.1)∧gy (Value.int .i64) ia h i.2.2 i.2.1∧i.2.1.length≤jQ.length+17 * i.1) ?_ (fun hx3=>?_)
   ·rintro ⟨i3,iN,BD⟩ ⟨pO,hs3,pf,xf⟩ e
    try dsimp only at pO pf xf
    try dsimp only
    refine sr (aa (cq 0 U hM (fun h1 hle1 hb1=>?_)))
    have mc1:nZ (Value.int .i64) ia h1 b2 iN:=⟨_,hb1,pf.mono ia.mono hle1⟩
    refine a8 (dg Tryz.call61 (oC h1 iN b2 mc1) U (fun v1 h2 hle2 hp1=>a8 (dg Tryz.call60 (ld h2 v1 (iN.map Prod.fst) hp1 (by rw [List.length_map];omega)) U (fun v2 h3 hle3 hp2=>?_))))
    obtain ⟨rb1,rc1,rfl,sl1⟩:=hp2
    refine bX zc31 (fun b17=>dW 0 ty31 U U U U U U (ac (sr (cq 0 U hM (fun h4 hle4 hb2=>a8 (fV U U (an ?_)))))))
    have hs4:aH q=(aX (sortI (iN.map Prod.fst))):=hs3
    exact dS [.func (.func 62) #[] #[Q b17]] Tryz.func29 U rd ⟨(.func (.func 62) #[] #[Q b17]),congrArg (fun r:(List Span)=>((.func (.func 62) #[] #[Q b17]):Value)) hs4.symm,(by rw [hs4];exact (oa h4 (sortI (iN.map Prod.fst)) rb1 rc1 ⟨b17,0,none⟩ (sl1.mono Rp.ce hle4) (dR hb2)))⟩
   ·refine cp (ι:=Nat×(List (Int×Bool))×Obj×List Version) (fun i=>[(1,Q b1),(3,.map (some b2)),(47,.slice ja.Register.f4 q.Register.Versions.length ja.Register.f3),(48,I ((q.Register.Versions.length:Nat):Int)),(49,I ((i.1:Nat):Int))]) (fun i=>h) (fun i=>[(b2,i.2.2.1),z1]) (fun i=>q.Register.Versions.drop i.1=i.2.2.2∧i.1≤q.Register.Versions.length∧aH q=((aH.L3 q (aH.K3)) i.2.2.2 i.2.1)∧gy (Value.int .i64) ia h i.2.2.1 i.2.1∧i.2.1.length≤jQ.length+17 * i.1) (fun i=>i.2.2.2.length) (0,jQ,xi,q.Register.Versions) rd sw ⟨U,Nat.zero_le _,hs2,pg,lc⟩ ?_
    rintro ⟨i3,iN,BD,s3⟩ ⟨hd3,pO,hs5,pf,xf⟩ ag1 e
    try dsimp only at hd3 pO pf xf
    rcases s3 with _ | ⟨y3,rz3⟩
    ·have Db:=cU hd3
     try dsimp only
     refine sr (aB (v':=.bool false) U (cb Db) (ac (ae (bg U (bO U ?_)))))
     exact hx3 (i3,iN,BD) _ ⟨pO,hs5,pf,lc⟩ rd
    ·have Da:=dY hd3
     have tN:=cY hd3
     have FY:=aT hd3
     have H0:=hq.Register.Versions.1.1
     have hml:=gh iN y3.At true
     have hvr:=(hov.2 y3 (gm hd3)).1
     try dsimp only
     refine sr (aB (v':=.bool true) U (cb Da) (ac (ae (bn U (ao (ae (aW (sr (a8 (gL lb ty70 hq.Register.Versions.1 (nthZ tN) (bB tN) U U U (fun q14 cs9 A14 ln9 rr9=>?_)))))))))))
     obtain ⟨r9,rfl,ok9⟩:=rr9
     refine ed ty70 A14 U U (bX zc70 (fun b18=>bN 0 ty70 U U U U U U (ac (sr (aa (az tS U (aO 0 ty3 U U U (a8 (j5 1 (k:=y3.At) (x:=true) kM (eS kl) U pf U U U (fun mo30 hm30=>?_))))))))))
     refine ac (sr (az pV U (az e9 U (aO 0 ty63 U U U (bC jJ U (aa (ac ?_)))))))
     let z2:Nat×Obj:=(b18,O (Version.cells y3 r9) 70)
     refine br (ι:=Nat×(List (Int×Bool))×Obj) (fun i=>[(1,Q b1),(3,.map (some b2)),(47,.slice ja.Register.f4 q.Register.Versions.length ja.Register.f3),(48,I ((q.Register.Versions.length:Nat):Int)),(49,I ((i3:Nat):Int))]) (fun i=>h) (fun i=>[z2,(b2,i.2.2),z1]) (fun i=>i.1≤y3.Policy.Rules.length∧aH q=((fun zg5_b2_0=>(aH.L3 q (aH.K3) rz3 zg5_b2_0)) i.2.1)∧gy (Value.int .i64) ia h i.2.2 i.2.1∧i.2.1.length≤(mput iN y3.At true).length+i.1) ?_ (fun hx5=>?_)
     ·rintro ⟨i5,jg,lv⟩ ⟨Hi,hs7,j8,nR⟩ e
      try dsimp only at Hi j8 nR
      try dsimp only
      refine av (ai (aB (v':=I (((i3+1):Nat):Int)) U (bW ob) (aa (ac ?_))))
      refine cE (L':=[(b2,lv),z1]) js ?_
      exact ag1 ((i3+1),jg,lv,rz3) _ (Nat.lt_succ_self _) ⟨bF hd3,aT hd3,hs7,j8,lc⟩ rd
     ·refine cp (ι:=Nat×(List (Int×Bool))×Obj×List Rule) (fun i=>[(1,Q b1),(3,.map (some b2)),(47,.slice ja.Register.f4 q.Register.Versions.length ja.Register.f3),(48,I ((q.Register.Versions.length:Nat):Int)),(49,I ((i3:Nat):Int)),(58,.slice r9.Policy.jT y3.Policy.Rules.length r9.Policy.jS),(59,I ((y3.Policy.Rules.length:Nat):Int)),(60,I ((i.1:Nat):Int))]) (fun i=>h) (fun i=>[z2,(b2,i.2.2.1),z1]) (fun i=>y3.Policy.Rules.drop i.1=i.2.2.2∧i.1≤y3.Policy.Rules.length∧aH q=((aH.L5 q (fun zg5_b2_0=>(aH.L3 q (aH.K3) rz3 zg5_b2_0))) i.2.2.2 i.2.1)∧gy (Value.int .i64) ia h i.2.2.1 i.2.1∧i.2.1.length≤(mput iN y3.At true).length+i.1) (fun i=>i.2.2.2.length) (0,(mput iN y3.At true),mo30,y3.Policy.Rules) rd sw ⟨U,Nat.zero_le _,hs5,hm30,(by have:=gh iN y3.At true;first | omega | (simp only [List.length_nil,List.length_cons] at *;omega))⟩ ?_
      rintro ⟨i5,jg,lv,s5⟩ ⟨hd5,FZ,hs8,j8,nR⟩ ag2 e
      try dsimp only at hd5 FZ j8 nR
      rcases s5 with _ | ⟨y5,rz5⟩
      ·have HZ:=cU hd5
       try dsimp only
       refine sr (aB (v':=.bool false) U (cb HZ) (ac (ae (bg U (bO U ?_)))))
       exact hx5 (i5,jg,lv) _ ⟨FZ,hs8,j8,lc⟩ rd
      ·have HY:=dY hd5
       have BA:=cY hd5
       have Is:=aT hd5
       have IG:=ok9.Policy.Rules.1.1
       have hth:=(hov.2 y3 (gm hd3)).2 y5 (gm hd5)
       try dsimp only
       refine sr (aB (v':=.bool true) U (cb HY) (ac (ae (bn U (ao (ae (aW (sr (a8 (gL jJ ty107 ok9.Policy.Rules.1 (nthZ BA) (bB BA) U U U (fun q16 cs11 A16 ln11 rr11=>?_)))))))))))
       obtain ⟨r11,rfl,ok11⟩:=rr11
       refine ed ty107 A16 U U (bX zc107 (fun b20=>bN 0 ty107 U U U U U U (ac (ai (aa (az mh U (az ml U (aO 3 ty3 U U U (az mX U (aO 0 ty3 U U U (aB (v':=I (q.doc.At+y5.Think)) U (iu ob) ?_)))))))))))
       refine a8 (j5 2 (k:=(q.doc.At+y5.Think)) (x:=true) kM (eS kl) U j8 U U U (fun mo32 hm32=>ac (av (ai (aB (v':=I (((i5+1):Nat):Int)) U (bW ob) (aa ?_))))))
       refine ac ?_
       refine cE (L':=[z2,(b2,mo32),z1]) js ?_
       exact ag2 ((i5+1),(mput jg (q.doc.At+y5.Think) true),mo32,rz5) _ (Nat.lt_succ_self _) ⟨bF hd5,aT hd5,hs8,hm32,(by have:=gh jg (q.doc.At+y5.Think) true;first | omega | (simp only [List.length_nil,List.length_cons] at *;omega))⟩ rd
  ·refine cp (ι:=Nat×(List (Int×Bool))×Obj×List Interest) (fun i=>[(1,Q b1),(3,.map (some b2)),(35,.slice ja.Register.gB q.Register.Interests.length ja.Register.gA),(36,I ((q.Register.Interests.length:Nat):Int)),(37,I ((i.1:Nat):Int))]) (fun i=>h) (fun i=>[(b2,i.2.2.1),z1]) (fun i=>q.Register.Interests.drop i.1=i.2.2.2∧i.1≤q.Register.Interests.length∧aH q=((aH.L2 (aH.K2 q)) i.2.2.2 i.2.1)∧gy (Value.int .i64) ia h i.2.2.1 i.2.1∧i.2.1.length≤dt.length+i.1) (fun i=>i.2.2.2.length) (0,dt,jc,q.Register.Interests) rd sw ⟨U,Nat.zero_le _,hs1,fB,lc⟩ ?_
   rintro ⟨i2,jQ,xi,s2⟩ ⟨hd2,jW,hs10,pg,xj⟩ ag3 e
   try dsimp only at hd2 jW pg xj
   rcases s2 with _ | ⟨y2,rz2⟩
   ·have sU:=cU hd2
    try dsimp only
    refine sr (aB (v':=.bool false) U (cb sU) (ac (ae (bg U (bO U ?_)))))
    exact hx2 (i2,jQ,xi) _ ⟨jW,hs10,pg,lc⟩ rd
   ·have qr:=dY hd2
    have lu:=cY hd2
    have w9:=aT hd2
    have Dc:=hq.Register.Interests.1.1
    try dsimp only
    refine sr (aB (v':=.bool true) U (cb qr) (ac (ae (bn U (ao (ae (aW (sr (a8 (fQ (enc:=Interest.cells) (fun _ _ _ e=>e) nj ty61 hq.Register.Interests.1 (nthZ lu) (bB lu) U U U (fun q17 A17=>?_)))))))))))
    refine ed ty61 A17 U U (bX zc61 (fun b21=>bN 0 ty61 U U U U U U (ac (ai (aa (az rJ U (aO 0 ty3 U U U (a8 (j5 1 (k:=y2.At) (x:=true) kM (eS kl) U pg U U U (fun mo33 hm33=>?_))))))))))
    refine ac (av (ai (aB (v':=I (((i2+1):Nat):Int)) U (bW ob) (aa (ac ?_)))))
    refine cE (L':=[(b2,mo33),z1]) js ?_
    exact ag3 ((i2+1),(mput jQ y2.At true),mo33,rz2) _ (Nat.lt_succ_self _) ⟨bF hd2,aT hd2,hs10,hm33,(by have:=gh jQ y2.At true;first | omega | (simp only [List.length_nil,List.length_cons] at *;omega))⟩ rd
 ·refine cp (ι:=Nat×(List (Int×Bool))×Obj×List Appoint) (fun i=>[(1,Q b1),(3,.map (some b2)),(23,.slice ja.Register.gE q.Register.Appoints.length ja.Register.gD),(24,I ((q.Register.Appoints.length:Nat):Int)),(25,I ((i.1:Nat):Int))]) (fun i=>h) (fun i=>[(b2,i.2.2.1),z1]) (fun i=>q.Register.Appoints.drop i.1=i.2.2.2∧i.1≤q.Register.Appoints.length∧aH q=((aH.L1 (aH.K1 q)) i.2.2.2 i.2.1)∧gy (Value.int .i64) ia h i.2.2.1 i.2.1∧i.2.1.length≤(mput (mput (mput ([]) 0 true) q.doc.At true) q.doc.Until true).length+i.1) (fun i=>i.2.2.2.length) (0,(mput (mput (mput ([]) 0 true) q.doc.At true) q.doc.Until true),mo1,q.Register.Appoints) rd sw ⟨U,Nat.zero_le _,hs0,hm1,(by have:=gh (mput (mput ([]) 0 true) q.doc.At true) q.doc.Until true;have:=gh (mput ([]) 0 true) q.doc.At true;have:=gh ([]) 0 true;first | omega | (simp only [List.length_nil,List.length_cons] at *;omega))⟩ ?_
  rintro ⟨i1,dt,jc,s1⟩ ⟨hd1,bd,hs12,fB,jH⟩ ag4 e
  try dsimp only at hd1 bd fB jH
  rcases s1 with _ | ⟨y1,rz1⟩
  ·have dI:=cU hd1
   try dsimp only
   refine sr (aB (v':=.bool false) U (cb dI) (ac (ae (bg U (bO U ?_)))))
   exact hx1 (i1,dt,jc) _ ⟨bd,hs12,fB,lc⟩ rd
  ·have dH:=dY hd1
   have bh:=cY hd1
   have eT:=aT hd1
   have gx:=hq.Register.Appoints.1.1
   try dsimp only
   refine sr (aB (v':=.bool true) U (cb dH) (ac (ae (bn U (ao (ae (aW (sr (a8 (fQ (enc:=Appoint.cells) (fun _ _ _ e=>e) na ty59 hq.Register.Appoints.1 (nthZ bh) (bB bh) U U U (fun q18 A18=>?_)))))))))))
   refine ed ty59 A18 U U (bX zc59 (fun b22=>bN 0 ty59 U U U U U U (ac (ai (aa (az pW U (aO 0 ty3 U U U (a8 (j5 1 (k:=y1.At) (x:=true) kM (eS kl) U fB U U U (fun mo34 hm34=>?_))))))))))
   refine ac (av (ai (aB (v':=I (((i1+1):Nat):Int)) U (bW ob) (aa (ac ?_)))))
   refine cE (L':=[(b2,mo34),z1]) js ?_
   exact ag4 ((i1+1),(mput dt y1.At true),mo34,rz1) _ (Nat.lt_succ_self _) ⟨bF hd1,aT hd1,hs12,hm34,(by have:=gh dt y1.At true;first | omega | (simp only [List.length_nil,List.length_cons] at *;omega))⟩ rd
theorem oA (h:HF) (who:(List Int)) (eG:Option Addr) (eF:Nat) (hwho:SlC Rp.int h eG eF who):Ret Tryz.prog 96 [.slice eG who.length eF] h (.bool (dw who)):=by
 refine ay Tryz.func96 U Tryz.ntmps96 U fun X hM hX=>?_
 have hs0:dw who=dw who:=rfl
 refine sr (an (sr (an (ae (sr (aa (bC eL U (aa (ac ?_)))))))))
 refine br (ι:=Nat×Int) (fun i=>[]) (fun i=>h) (fun i=>[]) (fun i=>i.1≤who.length∧dw who=((dw.K1) i.2)) ?_ (fun hx1=>?_)
 ·rintro ⟨i1,fP⟩ ⟨bd,hs1⟩ e
  try dsimp only at bd
  try dsimp only
  refine sr (an ?_)
  exact aw [.bool true] Tryz.func96 U hX rd (cs hs1)
 ·refine cp (ι:=Nat×Int×List Int) (fun i=>[(3,I i.2.1),(6,.slice eG who.length eF),(7,I ((who.length:Nat):Int)),(8,I ((i.1:Nat):Int))]) (fun i=>h) (fun i=>[]) (fun i=>who.drop i.1=i.2.2∧i.1≤who.length∧dw who=((dw.L1 (dw.K1)) i.2.2 i.2.1)) (fun i=>i.2.2.length) (0,(-1),who) rd sw ⟨U,Nat.zero_le _,hs0⟩ ?_
  rintro ⟨i1,fP,s1⟩ ⟨hd1,bd,hs3⟩ ag1 e
  try dsimp only at hd1 bd
  rcases s1 with _ | ⟨y1,rz1⟩
  ·have dI:=cU hd1
   try dsimp only
   refine sr (aB (v':=.bool false) U (cb dI) (ac (ae (bg U (bO U ?_)))))
   exact hx1 (i1,fP) _ ⟨bd,hs3⟩ trivial
  ·have dH:=dY hd1
   have bh:=cY hd1
   have eT:=aT hd1
   have gx:=hwho.1.1
   try dsimp only
   refine sr (aB (v':=.bool true) U (cb dH) (ac (ae (bn U (ao (ae (aW (sr (a8 (fQ (enc:=fun y=>[I y]) (fun _ _ _ e=>e) eL ty3 hwho.1 (nthZ bh) (bB bh) U U U (fun q2 A2=>?_)))))))))))
   refine eC ty3 A2 U (an (ae (sr (aa (aa (aJ U (aa ?_)))))))
   refine tq 3 [(5,I y1),(6,.slice eG who.length eF),(7,I ((who.length:Nat):Int)),(8,I ((i1:Nat):Int)),(18,.bool (decide (y1≤fP)||decide (64≤y1)))] (fun hk1=>?_) (fun e=>?_)
   ·refine ar 15 U (fun c1=>?_) (fun c1=>?_)
    ·refine kq (ah U ?_)
     exact hk1 _ ⟨U,U,U,U,(cb (dL c1)),trivial⟩
    ·refine aa (aJ U (ah U ?_))
     exact hk1 _ ⟨U,U,U,U,(cb (dM c1)),trivial⟩
   refine ac ?_
   refine aE U (fun c2=>?_) (fun c2=>?_)
   ·have hs5:=hs3.trans (bt c2)
    refine sr (an ?_)
    exact aw [.bool false] Tryz.func96 U hX rd (cs hs5)
   ·have hs7:=hs3.trans (bf c2)
    refine ao (ai (aa (an (av (ai (aB (v':=I (((i1+1):Nat):Int)) U (bW ob) (aa (ac ?_))))))))
    exact ag1 ((i1+1),y1,rz1) _ (Nat.lt_succ_self _) ⟨bF hd1,aT hd1,hs7⟩ rd
theorem ux (h:HF) (holders:(List (List Holder))) (fL:Option Addr) (fK:Nat) (offices:Int) (hholders:SlC (Rp.sl Holder.rp) h fL fK holders) (hsz0:∀ y∈holders,y.length≤2000000):Ret Tryz.prog 95 [.slice fL holders.length fK,I offices] h (.bool (de holders offices)):=by
 refine ay EW U Tryz.ntmps95 U fun X hM hX=>?_
 have hs0:de holders offices=de holders offices:=rfl
 refine sr (an (ae (sr (aa (bC te U (aa (ac ?_)))))))
 refine br (ι:=Nat×HF) (fun i=>[(0,.slice fL holders.length fK),(1,I offices)]) (fun i=>i.2) (fun i=>[]) (fun i=>i.1≤holders.length∧de holders offices=((de.K1 holders offices))∧HF.le h i.2) ?_ (fun hx1=>?_)
 ·rintro ⟨i1,hh1⟩ ⟨bd,hs1,hl1⟩ e
  try dsimp only at bd hl1
  try dsimp only
  refine sr (aa (bC te U (aa (aJ U (an ?_)))))
  exact aw [.bool (((holders.length:Nat):Int)==offices)] EW U hX rd (cs hs1)
 ·refine cp (ι:=Nat×HF×List (List Holder)) (fun i=>[(0,.slice fL holders.length fK),(1,I offices),(10,.slice fL holders.length fK),(11,I ((holders.length:Nat):Int)),(12,I ((i.1:Nat):Int))]) (fun i=>i.2.1) (fun i=>[]) (fun i=>holders.drop i.1=i.2.2∧i.1≤holders.length∧de holders offices=((de.L1 (de.K1 holders offices)) i.2.2 )∧HF.le h i.2.1) (fun i=>i.2.2.length) (0,h,holders) rd sw ⟨U,Nat.zero_le _,hs0,(HF.le_refl h)⟩ ?_
  rintro ⟨i1,hh1,s1⟩ ⟨hd1,bd,hs3,hl1⟩ ag1 e
  try dsimp only at hd1 bd hl1
  rcases s1 with _ | ⟨y1,rz1⟩
  ·have dI:=cU hd1
   try dsimp only
   refine sr (aB (v':=.bool false) U (cb dI) (ac (ae (bg U (bO U ?_)))))
   exact hx1 (i1,hh1) _ ⟨bd,hs3,hl1⟩ rd
  ·have dH:=dY hd1
   have bh:=cY hd1
   have eT:=aT hd1
   have gx:=hholders.1.1
   have hszy:=hsz0 y1 (gm hd1)
   try dsimp only
   refine sr (aB (v':=.bool true) U (cb dH) (ac (ae (bn U (ao (ae (aW (sr (a8 (gL te ty101 (hholders.mono (Rp.oe Holder.aN) hl1).1 (nthZ bh) (bB bh) U U U (fun q3 cs2 A3 ln2 rr2=>?_)))))))))))
   obtain ⟨rb2,rc2,rfl,sl2⟩:=rr2
   refine eC ty101 A3 U (an (sr (an (ae (sr (aa (bC vZ U (aa (ac ?_)))))))))
   refine br (ι:=Nat×(List Int)×Option Addr×Nat×LH) (fun i=>[(0,.slice fL holders.length fK),(1,I offices),(7,.slice i.2.2.1 i.2.1.length i.2.2.2.1),(10,.slice fL holders.length fK),(11,I ((holders.length:Nat):Int)),(12,I ((i1:Nat):Int))]) (fun i=>hh1) (fun i=>i.2.2.2.2) (fun i=>i.1≤y1.length∧de holders offices=((fun zg3_7=>(bif (!(dw zg3_7)) then false else (de.L1 (de.K1 holders offices) rz1 ))) i.2.1)∧ep Rp.int 3 hh1 i.2.1 i.2.2.1 i.2.2.2.1 i.2.2.2.2∧i.2.1.length≤0+i.1) ?_ (fun hx3=>?_)
   ·rintro ⟨i3,yp,D5,D4,D6⟩ ⟨jW,hs5,ze,F1⟩ e
    try dsimp only at jW ze F1
    try dsimp only
    refine sr (aa (mz Rp.ce ([]) D6 ([]) ap hM ze (fun h1 hle1 sl3=>aG (v:=.bool (dw yp)) Tryz.call96 (oA h1 yp D5 D4 sl3) U ?_)))
    refine cV U (ac ?_)
    refine aE U (fun c2=>?_) (fun c2=>?_)
    ·have hs6:=hs5.trans (bt c2)
     refine sr (an ?_)
     exact aw [.bool false] EW U hX rd (cs hs6)
    ·have hs8:=hs5.trans (bf c2)
     refine ao (av (ai (aB (v':=I (((i1+1):Nat):Int)) U (bW ob) (aa (ac ?_)))))
     exact ag1 ((i1+1),h1,rz1) _ (Nat.lt_succ_self _) ⟨bF hd1,aT hd1,hs8,(hl1.t hle1)⟩ rd
   ·refine cp (ι:=Nat×(List Int)×Option Addr×Nat×LH×List Holder) (fun i=>[(0,.slice fL holders.length fK),(1,I offices),(7,.slice i.2.2.1 i.2.1.length i.2.2.2.1),(10,.slice fL holders.length fK),(11,I ((holders.length:Nat):Int)),(12,I ((i1:Nat):Int)),(16,.slice rb2 y1.length rc2),(17,I ((y1.length:Nat):Int)),(18,I ((i.1:Nat):Int))]) (fun i=>hh1) (fun i=>i.2.2.2.2.1) (fun i=>y1.drop i.1=i.2.2.2.2.2∧i.1≤y1.length∧de holders offices=((de.L3 (fun zg3_7=>(bif (!(dw zg3_7)) then false else (de.L1 (de.K1 holders offices) rz1 )))) i.2.2.2.2.2 i.2.1)∧ep Rp.int 3 hh1 i.2.1 i.2.2.1 i.2.2.2.1 i.2.2.2.2.1∧i.2.1.length≤0+i.1) (fun i=>i.2.2.2.2.2.length) (0,[],none,0,[],y1) rd sw ⟨U,Nat.zero_le _,hs3,ep.nil,lo⟩ ?_
    rintro ⟨i3,yp,D5,D4,D6,s3⟩ ⟨hd3,pO,hs9,ze,F1⟩ ag2 e
    try dsimp only at hd3 pO ze F1
    rcases s3 with _ | ⟨y3,rz3⟩
    ·have Db:=cU hd3
     try dsimp only
     refine sr (aB (v':=.bool false) U (cb Db) (ac (ae (bg U (bO U ?_)))))
     exact hx3 (i3,yp,D5,D4,D6) _ ⟨pO,hs9,ze,lo⟩ rd
    ·have Da:=dY hd3
     have tN:=cY hd3
     have FY:=aT hd3
     have H0:=sl2.1.1
     try dsimp only
     refine sr (aB (v':=.bool true) U (cb Da) (ac (ae (bn U (ao (ae (aW (sr (a8 (fQ (enc:=Holder.cells) (fun _ _ _ e=>e) vZ ty133 sl2.1 (nthZ tN) (bB tN) U U U (fun q5 A5=>?_)))))))))))
     refine ed ty133 A5 U U (bX zc133 (fun b3=>bN 0 ty133 U U U U U U (iv (L':=[(b3,O (Holder.cells y3) 133)]++(D6)) U (ac (ae (sr (az xG U (aO 0 ty3 U U U (aJ U ?_)))))))))
     refine aa ?_
     refine tq 4 [(0,.slice fL holders.length fK),(1,I offices),(7,.slice D5 yp.length D4),(9,Q b3),(10,.slice fL holders.length fK),(11,I ((holders.length:Nat):Int)),(12,I ((i1:Nat):Int)),(16,.slice rb2 y1.length rc2),(17,I ((y1.length:Nat):Int)),(18,I ((i3:Nat):Int)),(29,.bool (decide (y3.Weight < 1)||decide (64 < y3.Weight)))] (fun hk1=>?_) (fun e=>?_)
     ·refine ar 25 U (fun c3=>?_) (fun c3=>?_)
      ·refine kq (bP (ah U ?_))
       exact hk1 _ ⟨U,U,U,U,U,U,U,U,U,U,(cb (dL c3)),trivial⟩
      ·refine az xG U (aO 0 ty3 U U U (aJ U (ah U ?_)))
       exact hk1 _ ⟨U,U,U,U,U,U,U,U,U,U,(cb (dM c3)),trivial⟩
     refine ac ?_
     refine aE U (fun c4=>?_) (fun c4=>?_)
     ·have hs11:=hs9.trans (bt c4)
      refine sr (an ?_)
      exact aw [.bool false] EW U hX rd (cs hs11)
     ·have hs13:=hs9.trans (bf c4)
      refine ao (ai (aa (az xH U (aO 0 ty3 U U U (a8 (ck (cells:=[I y3.Person]) eL ty3 zc3 U U kr (fun b4=>a8 (eK Rp.kP ([(b4,O [I y3.Person] 3),(b3,O (Holder.cells y3) 133)]) ([]) (fun G=>[(b4,O [I y3.Person] 3),(b3,O (Holder.cells y3) 133)]++(G)) ap (fun _=>ap) eL ty3 zc3 U bytes3 ze U U (eZ 0 U (show bV Rp.int hh1 [I y3.Person] ([y3.Person]) from ⟨[I y3.Person],[],U,U,U,U⟩)) lo lo (fun ob1 oc1 G1 gr1=>?_)))))))))
      refine an (av (ai (aB (v':=I (((i3+1):Nat):Int)) U (bW ob) (aa (ac ?_)))))
      refine cE (L':=G1) js ?_
      exact ag2 ((i3+1),(yp++[y3.Person]),ob1,oc1,G1,rz3) _ (Nat.lt_succ_self _) ⟨bF hd3,aT hd3,hs13,gr1,lo⟩ rd
end Go.Sg
namespace Go.Sg
open Go.Proofs
set_option maxRecDepth 100000
theorem Af (h:HF) (x:Holder) (s:Int) (bk:Nat):nX Tryz.prog 223 [.agg (Holder.cells x).toArray,.pointer (some ⟨bk,0,none⟩)].toArray h [(bk,Obj.cells (List.toArray [.int .i64 s]) 3 (0,0))]
  (fun r h' B=>r=.returned (.tuple #[])∧h'=h∧B=[(bk,Obj.cells (List.toArray [.int .i64 (IntKind.wrap .i64 (s+x.Weight))]) 3 (0,0))]):=by
 refine ay Tryz.func223 rfl Tryz.ntmps223 rfl fun X hM hX=>?_
 refine ae (ai (dy (fun b2=>ac (ai (aO 1 ty3 rfl rfl rfl (az xG rfl (aO 0 ty3 rfl rfl rfl (aJ rfl (dW 1 ty3 rfl rfl rfl rfl rfl rfl (ac ?_))))))))))
 exact um Tryz.func223 (fun a _ w _=>kn rfl a w) (fun w hw=>hw.sub (List.sublist_cons_self _ _)) ⟨rfl,rfl,rfl⟩
end Go.Sg
namespace Go.Sg
open Go.Proofs
set_option maxHeartbeats 2000000
set_option maxRecDepth 100000
set_option linter.unusedVariables false
theorem nn (h:HF) (q:bx) (ja:gp) (q_q:Addr) (office:Int) (office_q:Addr) (hq:bx.ok h q ja) (aq:At h q_q (bx.cells q ja)) (aoffice:At h office_q [I office]) (hno:0≤office∧office < (q.holders.length:Int)) (hso:q.who.Pairwise (·≤·)) (hsw:q.who.length≤2000000):Itr Tryz.prog (.func (.func 248) #[] (List.toArray [.pointer (some q_q),.pointer (some office_q)])) lK (bZ q office) h:=by
 refine uD Tryz.call248 ?_
 intro yf ya yb C Sp Pn h1 A hle m1 m2 m3 hC hy
 refine jN EV U Tryz.ntmps248 U fun X hXM hX=>?_
 have hs0:bZ q office=[]++bZ q office:=rfl
 refine sr (az Gj U (nh (j:=1) ty100 (aq.mono hle) U U (eC ty3 (aoffice.mono hle) U ?_)))
 have ho1:0≤(office:Int)∧(office:Int) < ((q.holders).length:Int):=ob
 refine a8 (gL te ty101 (hq.holders.mono (Rp.oe Holder.aN) hle).1 ho1 (eA ho1) U U U (fun q1 cs1 A1 ln1 rr1=>?_))
 obtain ⟨rb1,rc1,rfl,sl1⟩:=rr1
 refine eC ty101 A1 U (bC vZ U (aa (ac ?_)))
 refine br (ι:=Nat×List Holder×LH×HF) (fun i=>[]) (fun i=>i.2.2.2) (fun i=>i.2.2.1) (fun i=>i.1≤(nthI q.holders office).length∧bZ q office=i.2.1++((bZ.K1))∧C i.2.1 i.2.2.2 i.2.2.1∧HF.le h1 i.2.2.2) ?_ (fun hx1=>?_)
 ·rintro ⟨i1,dn1,A1_,hh1⟩ ⟨bd,hs1,hC1_,hl1⟩ e
  try dsimp only at bd hC1_ hl1
  try dsimp only
  refine gf ?_
  have hs2:bZ q office=dn1:=hs1.trans (List.append_nil _)
  exact uE [] (A:=A1_) EV U (List.Sublist.refl _) (.inl (hs2 ▸ hC1_))
 ·refine cp (ι:=Nat×List Holder×LH×HF×List Holder) (fun i=>[(0,.func yf ya yb),(1,.pointer (some q_q)),(12,.slice rb1 ((nthI q.holders office).length) rc1),(13,I (((nthI q.holders office).length:Nat):Int)),(14,I ((i.1:Nat):Int))]) (fun i=>i.2.2.2.1) (fun i=>i.2.2.1) (fun i=>(nthI q.holders office).drop i.1=i.2.2.2.2∧i.1≤(nthI q.holders office).length∧bZ q office=i.2.1++((bZ.L1 q (bZ.K1)) i.2.2.2.2 )∧C i.2.1 i.2.2.2.1 i.2.2.1∧HF.le h1 i.2.2.2.1) (fun i=>i.2.2.2.2.length) (0,[],A,h1,(nthI q.holders office)) rd sw ⟨U,Nat.zero_le _,hs0,hC,(HF.le_refl h1)⟩ ?_
  rintro ⟨i1,dn1,A1_,hh1,s1⟩ ⟨hd1,bd,hs3,hC1_,hl1⟩ ag1 e
  try dsimp only at hd1 bd hC1_ hl1
  rcases s1 with _ | ⟨y1,rz1⟩
  ·have dI:=cU hd1
   try dsimp only
   refine sr (aB (v':=.bool false) U (cb dI) (ac (ae (bg U (bO U ?_)))))
   exact hx1 (i1,dn1,A1_,hh1) _ ⟨bd,hs3,hC1_,hl1⟩ trivial
  ·have dH:=dY hd1
   have bh:=cY hd1
   have eT:=aT hd1
   have gx:=sl1.1.1
   try dsimp only
   refine sr (aB (v':=.bool true) U (cb dH) (ac (ae (bn U (ao (ae (aW (sr (a8 (fQ (enc:=Holder.cells) (fun _ _ _ e=>e) vZ ty133 (sl1.mono Holder.aN hl1).1 (nthZ bh) (bB bh) U U U (fun q3 A6=>?_)))))))))))
   refine ed ty133 A6 U U (bX zc133 (fun b2=>bN 0 ty133 U U U U U U (iv (L':=[(b2,O (Holder.cells y1) 133)]++(A1_)) U (ac (sr (az Gi U (nh (j:=2) ty31 (aq.mono (hle.t hl1)) U U ?_)))))))
   refine az xH U (aO 0 ty3 U U U (aG (v:=.tuple #[I ((slices_BinarySearch_int q.who y1.Person).1),.bool ((slices_BinarySearch_int q.who y1.Person).2)]) Tryz.call87 (kN hh1 q.who ja.eG ja.eF y1.Person (hq.who.mono Rp.ce (hle.t hl1)) ob ob) U ?_))
   refine aa (bG U U (bG U U (ba (an (sr (aa (aa ?_)))))))
   refine ar 27 U (fun c2=>?_) (fun c2=>?_)
   ·have hs5:=hs3.trans (congrArg (dn1++·) (bt c2))
    refine aa (dq 0 ty133 U U U ?_)
    have hx2:bZ q office=dn1++(y1::(bZ.L1 q (bZ.K1) rz1 )):=hs5
    refine a8 (lA ([(b2,O (Holder.cells y1) 133)]) A1_ ap (hy dn1 y1 _ _ _ _ hx2 hl1 hC1_ U) U U (fun h5 A7 hle4 hC2=>?_) (fun h6 A8 hle5 hS2=>?_) (fun ch2 h7 A9 hle6 hP2 e=>i6 (pM [] (A:=A9) EV (List.sublist_append_right _ _) hP2)))
    ·have hs6:bZ q office=(dn1++[y1])++((bZ.L1 q (bZ.K1) rz1 )):=hx2.trans ap
     refine cV U (ah U (ac (bg U (ao (av (ai (aB (v':=I (((i1+1):Nat):Int)) U (bW ob) (aa (ac ?_)))))))))
     refine cE (L':=A7) js ?_
     exact ag1 ((i1+1),(dn1++[y1]),A7,h5,rz1) _ (Nat.lt_succ_self _) ⟨bF hd1,aT hd1,hs6,hC2,(hl1.t hle4)⟩ rd
    ·refine cV U (ah U (ac (bn U ?_)))
     refine gf ?_
     exact pL [] (A:=A8) EV U js (.inr hS2)
   ·have hs7:=hs3.trans (congrArg (dn1++·) (bf c2))
    refine kq (kq (ah U (ac (bg U (ao (av (ai (aB (v':=I (((i1+1):Nat):Int)) U (bW ob) (aa (ac ?_))))))))))
    refine cE (L':=A1_) js ?_
    exact ag1 ((i1+1),dn1,A1_,hh1,rz1) _ (Nat.lt_succ_self _) ⟨bF hd1,aT hd1,hs7,hC1_,hl1⟩ rd
theorem kZ (h:HF) (q:bx) (ja:gp) (office:Int) (hq:bx.ok h q ja) (hno:0≤office∧office < (q.holders.length:Int)) (hso:q.who.Pairwise (·≤·)) (hsw:q.who.length≤2000000):jK Tryz.prog 222 [.agg (bx.cells q ja).toArray,I office] h (fun v h'=>∃ (rv0:Value),v=rv0∧Itr Tryz.prog rv0 lK (fH q office) h'):=by
 refine ay Tryz.func222 U Tryz.ntmps222 U fun X hM hX=>?_
 have hs0:fH q office=fH q office:=rfl
 refine sr (dy (fun b1=>dy (fun b2=>an (sr (cq 1 U hM (fun h1 hle1 hb1=>cq 0 U hM (fun h2 hle2 hb2=>a8 (fV U U (an ?_)))))))))
 have hs1:fH q office=(bZ q office):=hs0
 exact dS [.func (.func 248) #[] #[Q b1,Q b2]] Tryz.func222 U rd ⟨(.func (.func 248) #[] #[Q b1,Q b2]),congrArg (fun r:(List Holder)=>((.func (.func 248) #[] #[Q b1,Q b2]):Value)) hs1.symm,(by rw [hs1];exact (nn h2 q ja ⟨b1,0,none⟩ office ⟨b2,0,none⟩ (hq.mono (hle1.t hle2)) ((dR hb1).mono hle2) (dR hb2) ob ob ob))⟩
theorem oO (h:HF) (q:bx) (ja:gp) (x:Expr) (fe:cI) (hq:bx.ok h q ja) (hx:Expr.ok h x fe) (hno:0≤x.No∧x.No < (q.holders.length:Int)) (hso:q.who.Pairwise (·≤·)) (hsw:q.who.length≤2000000):Ret Tryz.prog 160 [.agg (bx.cells q ja).toArray,.agg (Expr.cells x fe).toArray] h (.bool (dT q x)):=by
 refine ay EU U Tryz.ntmps160 U fun X hM hX=>?_
 have hs0:dT q x=dT q x:=rfl
 refine sr (dy (fun b1=>dy (fun b2=>bX zc4 (fun b3=>ac (ae (sr (dq 2 ty164 U U U (az mI U (aO 1 ty3 U U U (a8 (dg Tryz.call222 (kZ h q ja x.No hq ob ob ob) U (fun v1 h1 hle1 hp1=>?_))))))))))))
 obtain ⟨_,rfl,mo1⟩:=hp1
 refine ac (aW ?_)
 refine gf ?_
 let z1:Nat×Obj:=(b1,O (bx.cells q ja) 164)
 let z2:Nat×Obj:=(b2,O (Expr.cells x fe) 66)
 refine dX (L':=([(b3,O [.bool false] 4),z2,z1])++markB []) ap ?_
 refine j2 (it:=v1) (xs:=(fH q x.No)) (ι:=Bool×HF) [] (fun i=>i.2) (fun i=>[(b3,O [.bool i.1] 4),z2,z1]) (fun s i=>dT q x=((dT.L1 (dT.K1)) s i.1)∧HF.le h1 i.2) (fun i=>dT q x=i.1∧HF.le h1 i.2) (fun _=>False) 0 (fun _ _ _=>False) (false,h1) EU U mo1 U nP (fun _ _ _ _ _ hq=>hq) U (show [(b3,O [.bool false] 4),z2,z1]=_ from U) ⟨hs0,(HF.le_refl h1)⟩ ?_ ?_ ?_ ?_ ?_
 ·rintro l1 dm1 lp1 y1 rz1 vs1 ⟨aV,hh1⟩ hr1 X hFR1 ⟨hs1,hl1⟩ hl01 hlr1 hv1 hX hXM hlp1 nx1 rt1 ex1 pn1
  try dsimp only at hl1 hlr1
  obtain rfl:=hv1
  refine dX (L':=[(l1,.loop lp1),(dm1,.deferred (some [])),(b3,O [.bool aV] 4),z2,z1]++(markB [])) ap ?_
  refine ao (j3 0 U hlp1 (aW (sr (dW 2 ty4 U U U U U U (ac ?_)))))
  refine dX (L':=rdH l1 dm1 lp1 (([(b3,O [.bool true] 4),z2,z1])++markB [])) ap ?_
  exact rt1 (true,hr1) _ _ _ ⟨hs1,(hl1.t hlr1)⟩ (HF.le_refl _)
 ·rintro dm1 ⟨aV,hh1⟩ hn1 ⟨hs2,hl1⟩ hln1 hl01
  try dsimp only at hl1 hln1
  refine dX (L':=[(b3,O [.bool aV] 4),z2,z1]++(markB (dm1::[]))) ap ?_
  refine av (sr (dW 0 ty4 U U U U U U (ac ?_)))
  have hs3:dT q x=false:=hs2
  refine dX (L':=([(b3,O [.bool false] 4),z2,z1])++markB (dm1::[])) ap ?_
  exact qE (dm1::[]) [.bool false] EU U hX ⟨⟨0,_,_,_,_,U,U,.inr ⟨_,ty4,U⟩⟩,trivial⟩ (cs hs3)
 ·rintro dm1 ⟨aV,hh1⟩ hn1 ⟨hs4,hl1⟩ hln1 hl01
  try dsimp only at hl1 hln1
  refine dX (L':=[(b3,O [.bool aV] 4),z2,z1]++(markB (dm1::[]))) ap ?_
  have hs5:dT q x=aV:=hs4
  refine dX (L':=([(b3,O [.bool aV] 4),z2,z1])++markB (dm1::[])) ap ?_
  exact qE (dm1::[]) [.bool aV] EU U hX ⟨⟨0,_,_,_,_,U,U,.inr ⟨_,ty4,U⟩⟩,trivial⟩ (cs hs5)
 ·exact fun _ _ _ hF=>hF.elim
 ·exact fun _ _ _ _ hF=>hF.elim
theorem nJ (h:HF) (q:bx) (ja:gp) (x:Expr) (fe:cI) (hq:bx.ok h q ja) (hx:Expr.ok h x fe) (hno:0≤x.No∧x.No < (q.holders.length:Int)) (hso:q.who.Pairwise (·≤·)) (hsw:q.who.length≤2000000):Ret Tryz.prog 161 [.agg (bx.cells q ja).toArray,.agg (Expr.cells x fe).toArray] h (.bool (dJ q x)):=by
 refine ay Tryz.func161 U Tryz.ntmps161 U fun X hM hX=>?_
 have hs0:dJ q x=dJ q x:=rfl
 refine sr (dy (fun b1=>dy (fun b2=>an (sr (bX zc3 (fun b3=>dW 0 ty3 U U U U U U (ac (sr (a8 (fV U U (bX zc261 (fun b4=>dW 0 ty261 U U U U U U ?_))))))))))))
 refine ac (ae (sr (dq 3 ty164 U U U (az mI U (aO 2 ty3 U U U (a8 (dg Tryz.call222 (kZ h q ja x.No hq ob ob ob) U (fun v1 h1 hle1 hp1=>?_))))))))
 obtain ⟨_,rfl,mo1⟩:=hp1
 refine ac (aW ?_)
 refine gf ?_
 let z1:Nat×Obj:=(b4,O [.func (.func 223) #[] #[Q b3]] 261)
 let z2:Nat×Obj:=(b1,O (bx.cells q ja) 164)
 let z3:Nat×Obj:=(b2,O (Expr.cells x fe) 66)
 refine dX (L':=([z1,(b3,O [I 0] 3),z3,z2])++markB []) ap ?_
 refine j2 (it:=v1) (xs:=(fH q x.No)) (ι:=Int×HF) [] (fun i=>i.2) (fun i=>[z1,(b3,O [I i.1] 3),z3,z2]) (fun s i=>dJ q x=((dJ.L1 (dJ.K1 x)) s i.1)∧HF.le h1 i.2) (fun _=>False) (fun _=>False) 0 (fun _ _ _=>False) (0,h1) Tryz.func161 U mo1 U nP (fun _ _ _ _ _ hq=>hq) U (show [z1,(b3,O [I 0] 3),z3,z2]=_ from U) ⟨hs0,(HF.le_refl h1)⟩ ?_ ?_ ?_ ?_ ?_
 ·rintro l1 dm1 lp1 y1 rz1 vs1 ⟨aV,hh1⟩ hr1 X hFR1 ⟨hs1,hl1⟩ hl01 hlr1 hv1 hX hXM hlp1 nx1 rt1 ex1 pn1
  try dsimp only at hl1 hlr1
  obtain rfl:=hv1
  refine dX (L':=[(l1,.loop lp1),(dm1,.deferred (some [])),z1,(b3,O [I aV] 3),z3,z2]++(markB [])) ap ?_
  refine ai (bX zc133 (fun b6=>bN 0 ty133 U U U U U U (ac (j3 1 U hlp1 (aW (ai (aO 3 ty261 U U U (dq 0 ty133 U U U (a8 (FD 4 (o':=O [I (IntKind.wrap .i64 (aV+y1.Weight))] 3) U (km (args:=[.agg (Holder.cells y1).toArray]) (cap:=[Q b3]) Tryz.call223 (Af hr1 y1 aV b3)) U U ?_))))))))))
  refine ac (av ?_)
  let z4:Nat×Obj:=(b3,O [I (IntKind.wrap .i64 (aV+y1.Weight))] 3)
  refine cE (L':=[(l1,.loop { lp1 with state:=.busy }),(dm1,.deferred (some [])),z1,z4,z3,z2]++(markB [])) js ?_
  refine dX (L':=rdH l1 dm1 lp1 (([z1,z4,z3,z2])++markB [])) ap ?_
  exact nx1 ((IntKind.wrap .i64 (aV+y1.Weight)),hr1) _ _ ⟨hs1,(hl1.t hlr1)⟩ (HF.le_refl _)
 ·rintro dm1 ⟨aV,hh1⟩ hn1 ⟨hs2,hl1⟩ hln1 hl01
  try dsimp only at hl1 hln1
  refine dX (L':=[z1,(b3,O [I aV] 3),z3,z2]++(markB (dm1::[]))) ap ?_
  refine av (sr (aO 1 ty3 U U U (az j0 U (aO 2 ty3 U U U (aJ U (an ?_))))))
  have hs3:dJ q x=decide (x.N≤aV):=hs2
  refine dX (L':=([z1,(b3,O [I aV] 3),z3,z2])++markB (dm1::[])) ap ?_
  exact qE (dm1::[]) [.bool (decide (x.N≤aV))] Tryz.func161 U hX rd (cs hs3)
 ·exact fun _ _ _ hF=>hF.elim
 ·exact fun _ _ _ hF=>hF.elim
 ·exact fun _ _ _ _ hF=>hF.elim
theorem oX (rec:bx→Expr→Bool) (h:HF) (q:bx) (ja:gp) (x:Expr) (fe:cI) (hrec:∀ (h:HF) (qq:bx) (uv:gp) (qx:Expr) (jq:cI) (hqq:bx.ok h qq uv) (hqx:Expr.ok h qx jq) (hok:OkX (qq.holders.length:Int) qx) (hso:qq.who.Pairwise (·≤·)) (hsw:qq.who.length≤2000000) (_:qx.dep < x.dep),Ret Tryz.prog 97 [.agg (bx.cells qq uv).toArray,.agg (Expr.cells qx jq).toArray] h (.bool (rec qq qx))) (hq:bx.ok h q ja) (hx:Expr.ok h x fe) (hok:OkX (q.holders.length:Int) x) (hso:q.who.Pairwise (·≤·)) (hsw:q.who.length≤2000000):Ret Tryz.prog 162 [.agg (bx.cells q ja).toArray,.agg (Expr.cells x fe).toArray] h (.bool (ef.F rec q x)):=by
 refine ay Tryz.func162 U Tryz.ntmps162 U fun X hM hX=>?_
 have hs0:ef.F rec q x=ef.F rec q x:=rfl
 refine sr (dy (fun b1=>dy (fun b2=>an (sr (an (ae (sr (az dE U (aO 0 ty64 U U U (bC fT U (aa (ac ?_))))))))))))
 let z1:Nat×Obj:=(b1,O (bx.cells q ja) 164)
 let z2:Nat×Obj:=(b2,O (Expr.cells x fe) 66)
 refine br (ι:=Nat×Int) (fun i=>[(3,Q b2),(5,I i.2)]) (fun i=>h) (fun i=>[z2,z1]) (fun i=>i.1≤x.L.length∧ef.F rec q x=((ef.K1 x) i.2)) ?_ (fun hx1=>?_)
 ·rintro ⟨i1,iM⟩ ⟨bd,hs1⟩ e
  try dsimp only at bd
  try dsimp only
  refine sr (aa (az j0 U (aO 0 ty3 U U U (aJ U (an ?_)))))
  exact aw [.bool (decide (x.N≤iM))] Tryz.func162 U hX rd (cs hs1)
 ·refine cp (ι:=Nat×Int×List Expr) (fun i=>[(2,Q b1),(3,Q b2),(5,I i.2.1),(9,.slice fe.ir x.L.length fe.iE),(10,I ((x.L.length:Nat):Int)),(11,I ((i.1:Nat):Int))]) (fun i=>h) (fun i=>[z2,z1]) (fun i=>x.L.drop i.1=i.2.2∧i.1≤x.L.length∧ef.F rec q x=((ef.L1 rec q (ef.K1 x)) i.2.2 i.2.1)) (fun i=>i.2.2.length) (0,0,x.L) rd sw ⟨U,Nat.zero_le _,hs0⟩ ?_
  rintro ⟨i1,iM,s1⟩ ⟨hd1,bd,hs3⟩ ag1 e
  try dsimp only at hd1 bd
  rcases s1 with _ | ⟨y1,rz1⟩
  ·have dI:=cU hd1
   try dsimp only
   refine sr (aB (v':=.bool false) U (cb dI) (ac (ae (bg U (bO U ?_)))))
   exact hx1 (i1,iM) _ ⟨bd,hs3⟩ rd
  ·have dH:=dY hd1
   have bh:=cY hd1
   have eT:=aT hd1
   have gx:=hx.list.1.1
   have hoy:=hok.sub y1 (gm hd1)
   try dsimp only
   refine sr (aB (v':=.bool true) U (cb dH) (ac (ae (bn U (ao (ae (aW (sr (a8 (gL fT ty66 hx.list.1 (nthZ bh) (bB bh) U U U (fun q2 cs2 A2 ln2 rr2=>?_)))))))))))
   obtain ⟨r2,rfl,ok2⟩:=rr2
   refine ed ty66 A2 U U (bX zc66 (fun b4=>bN 0 ty66 U U U U U U (ac (sr (dq 2 ty164 U U U (dq 0 ty66 U U U (aG (v:=.bool (rec q y1)) ET (hrec h q ja y1 r2 hq ok2 ob ob ob (Expr.iq (gm hd1))) U ?_)))))))
   refine ac ?_
   refine aE U (fun c2=>?_) (fun c2=>?_)
   ·have hs5:=hs3.trans (bt c2)
    refine ai (aa (aJ U (an (av (ai (aB (v':=I (((i1+1):Nat):Int)) U (bW ob) (aa (ac ?_))))))))
    refine cE (L':=[z2,z1]) js ?_
    exact ag1 ((i1+1),(IntKind.wrap .i64 (iM+1)),rz1) _ (Nat.lt_succ_self _) ⟨bF hd1,aT hd1,hs5⟩ rd
   ·have hs6:=hs3.trans (bf c2)
    refine ao (av (ai (aB (v':=I (((i1+1):Nat):Int)) U (bW ob) (aa (ac ?_)))))
    refine cE (L':=[z2,z1]) js ?_
    exact ag1 ((i1+1),iM,rz1) _ (Nat.lt_succ_self _) ⟨bF hd1,aT hd1,hs6⟩ rd
theorem n9 (rec:bx→Expr→Bool) (h:HF) (q:bx) (ja:gp) (x:Expr) (fe:cI) (hrec:∀ (h:HF) (qq:bx) (uv:gp) (qx:Expr) (jq:cI) (hqq:bx.ok h qq uv) (hqx:Expr.ok h qx jq) (hok:OkX (qq.holders.length:Int) qx) (hso:qq.who.Pairwise (·≤·)) (hsw:qq.who.length≤2000000) (_:qx.dep < x.dep),Ret Tryz.prog 97 [.agg (bx.cells qq uv).toArray,.agg (Expr.cells qx jq).toArray] h (.bool (rec qq qx))) (hq:bx.ok h q ja) (hx:Expr.ok h x fe) (hok:OkX (q.holders.length:Int) x) (hso:q.who.Pairwise (·≤·)) (hsw:q.who.length≤2000000) (hk4:x.Kind=4):Ret Tryz.prog 163 [.agg (bx.cells q ja).toArray,.agg (Expr.cells x fe).toArray] h (.bool (iQ.F rec q x)):=by
 refine ay Tryz.func163 U Tryz.ntmps163 U fun X hM hX=>?_
 have hs0:iQ.F rec q x=iQ.F rec q x:=rfl
 have hl2:=hok.two hk4
 refine sr (dy (fun b1=>dy (fun b2=>an (ae (sr (az Gk U (aO 1 ty3 U U U (az j0 U (aO 0 ty3 U U U (aJ U (ac ?_)))))))))))
 refine aE U (fun c1=>?_) (fun c1=>?_)
 ·have c1p:=of_decide_eq_true c1
  have hs1:=hs0.trans (bt c1)
  refine ae ?_
  refine ga ([(b2,O (Expr.cells x fe) 66),(b1,O (bx.cells q ja) 164)]) mixed kr jn (fun eX _=>?_)
  refine tf 0 U U (fun _ _ hj=>ky ty164 U (hj.nth (i:=1) U) U) (tf 1 U U (fun _ _ _=>dB dE U) (tf 2 U U (fun _ _ hj=>gu ty64 U (hj.nth (i:=0) U) U) ?_))
  have ho1:0≤(0:Int)∧(0:Int) < ((x.L).length:Int):=ob
  refine iY 3 eX jn fT ty66 hx.list.1 ho1 (eA ho1) U U U U kr (fun q1 cs1 A1 ln1 rr1=>?_)
  obtain ⟨r1,rfl,ok1⟩:=rr1
  refine tf 4 U U (fun _ _ hj=>jP ty66 (A1.mono hj.1) U U) (tn 5 U (fu (v:=.bool (rec q (nthI x.L 0))) ET (hrec h q ja (nthI x.L 0) r1 hq ok1 (hok.sub _ (kv ob)) ob ob (Expr.iq (kv ob))) U ?_))
  refine ⟨jn,(tf 6 U U (fun _ _ _=>fO) ?_)⟩
  refine bY kr ?_
  exact aw [.bool (rec q (nthI x.L 0))] Tryz.func163 U hX rd (cs hs1)
 ·have c1p:=of_decide_eq_false c1
  have hs3:=hs0.trans (bf c1)
  refine ao (ae ?_)
  refine ga ([(b2,O (Expr.cells x fe) 66),(b1,O (bx.cells q ja) 164)]) mixed kr jn (fun w8 _=>?_)
  refine tf 0 U U (fun _ _ hj=>ky ty164 U (hj.nth (i:=1) U) U) (tf 1 U U (fun _ _ _=>dB dE U) (tf 2 U U (fun _ _ hj=>gu ty64 U (hj.nth (i:=0) U) U) ?_))
  have ho2:0≤(1:Int)∧(1:Int) < ((x.L).length:Int):=ob
  refine iY 3 w8 jn fT ty66 hx.list.1 ho2 (eA ho2) U U U U kr (fun q2 cs2 A2 ln2 rr2=>?_)
  obtain ⟨r2,rfl,ok2⟩:=rr2
  refine tf 4 U U (fun _ _ hj=>jP ty66 (A2.mono hj.1) U U) (tn 5 U (fu (v:=.bool (rec q (nthI x.L 1))) ET (hrec h q ja (nthI x.L 1) r2 hq ok2 (hok.sub _ (kv ob)) ob ob (Expr.iq (kv ob))) U ?_))
  refine ⟨jn,(tf 6 U U (fun _ _ _=>fO) ?_)⟩
  refine bY kr ?_
  exact aw [.bool (rec q (nthI x.L 1))] Tryz.func163 U hX rd (cs hs3)
theorem Gd (rec:bx→Expr→Bool) (h:HF) (q:bx) (ja:gp) (x:Expr) (fe:cI) (hq:bx.ok h q ja) (hx:Expr.ok h x fe)
  (hrec:∀ (h:HF) (qq:bx) (uv:gp) (qx:Expr) (jq:cI) (_:bx.ok h qq uv) (_:Expr.ok h qx jq) (_:OkX (qq.holders.length:Int) qx) (_:qq.who.Pairwise (·≤·)) (_:qq.who.length≤2000000) (_:qx.dep < x.dep),Ret Tryz.prog 97 [.agg (bx.cells qq uv).toArray,.agg (Expr.cells qx jq).toArray] h (.bool (rec qq qx)))
  (hok:OkX (q.holders.length:Int) x) (hso:q.who.Pairwise (·≤·)) (hsw:q.who.length≤2000000):
  uO Tryz.prog (List.getD [.nilFunc,.func (.func 160) #[] #[],.func (.func 161) #[] #[],.func (.func 162) #[] #[],.func (.func 163) #[] #[]] x.Kind.toNat .nilFunc) [.agg (bx.cells q ja).toArray,.agg (Expr.cells x fe).toArray] h [] (.bool (fulQ rec q x)):=by
 have hk:=hok.kind
 have hc:x.Kind=1∨x.Kind=2∨x.Kind=3∨x.Kind=4:=by omega
 rcases hc with e | e | e | e
 ·rw [show fulQ rec q x=dT q x from by simp [fulQ,e],e];exact iZ (cap:=[]) Tryz.call160 (oO h q ja x fe hq hx (hok.no ob) hso hsw)
 ·rw [show fulQ rec q x=dJ q x from by simp [fulQ,e],e];exact iZ (cap:=[]) Tryz.call161 (nJ h q ja x fe hq hx (hok.no ob) hso hsw)
 ·rw [show fulQ rec q x=ef.F rec q x from by simp [fulQ,e],e];exact iZ (cap:=[]) Tryz.call162 (oX rec h q ja x fe hrec hq hx hok hso hsw)
 ·rw [show fulQ rec q x=iQ.F rec q x from by simp [fulQ,e],e];exact iZ (cap:=[]) Tryz.call163 (n9 rec h q ja x fe hrec hq hx hok hso hsw e)
theorem nm (rec:bx→Expr→Bool) (h:HF) (q:bx) (ja:gp) (x:Expr) (fe:cI) (hrec:∀ (h:HF) (qq:bx) (uv:gp) (qx:Expr) (jq:cI) (hqq:bx.ok h qq uv) (hqx:Expr.ok h qx jq) (hok:OkX (qq.holders.length:Int) qx) (hso:qq.who.Pairwise (·≤·)) (hsw:qq.who.length≤2000000) (_:qx.dep < x.dep),Ret Tryz.prog 97 [.agg (bx.cells qq uv).toArray,.agg (Expr.cells qx jq).toArray] h (.bool (rec qq qx))) (hq:bx.ok h q ja) (hx:Expr.ok h x fe) (hok:OkX (q.holders.length:Int) x) (hso:q.who.Pairwise (·≤·)) (hsw:q.who.length≤2000000):Ret Tryz.prog 97 [.agg (bx.cells q ja).toArray,.agg (Expr.cells x fe).toArray] h (.bool (dv.F rec q x)):=by
 refine ay Tryz.func97 U Tryz.ntmps97 U fun X hM hX=>?_
 have hs0:dv.F rec q x=dv.F rec q x:=rfl
 have hkd:=hok.kind
 refine sr (dy (fun b1=>dy (fun b2=>an (sr (a8 (FE (cells:=[.nilFunc,.func (.func 160) #[] #[],.func (.func 161) #[] #[],.func (.func 162) #[] #[],.func (.func 163) #[] #[]]) Tryz.underlying227 ty226 zc227 kr ?_))))))
 refine bX zc227 (fun b3=>bN 0 ty227 U U U U U U (ac (ae (fD 0 U hM (fun h1 hle1 hb1=>?_)))))
 refine ga ([(b2,O (Expr.cells x fe) 66),(b1,O (bx.cells q ja) 164)]) mixed kr jn (fun eX _=>?_)
 refine tf 0 U U (fun _ _ _=>dB kE U) (tf 1 U U (fun _ _ hj=>gu ty3 U (hj.nth (i:=0) U) U) ?_)
 have ho1:0≤(x.Kind:Int)∧(x.Kind:Int) < 5:=ob
 have A1:=Ib (dR hb1) ho1
 refine tf 2 U U (fun _ _ _=>FH Tryz.underlying227 ty226 U U ho1) (tf 3 U U (fun _ _ hj=>gd ty226 (A1.mono hj.1) U) (tf 4 U U (fun _ _ hj=>ky ty164 U (hj.nth (i:=1) U) U) ?_))
 refine tf 5 U U (fun _ _ hj=>ky ty66 U (hj.nth (i:=0) U) U) (tn 6 U (nl (v:=.bool (fulQ rec q x)) [] (List.nil_sublist _) (Gd rec h1 q ja x fe (hq.mono hle1) (hx.mono hle1) hrec hok hso hsw) U U ?_))
 refine ⟨jn,(tf 7 U U (fun _ _ _=>fO) ?_)⟩
 refine bY kr ?_
 exact aw [.bool (fulQ rec q x)] Tryz.func97 U hX rd (cs hs0)
theorem kc:∀ (m:Nat) (h:HF) (q:bx) (ja:gp) (x:Expr) (fe:cI) (_:x.dep≤m) (hq:bx.ok h q ja) (hx:Expr.ok h x fe) (hok:OkX (q.holders.length:Int) x) (hso:q.who.Pairwise (·≤·)) (hsw:q.who.length≤2000000),Ret Tryz.prog 97 [.agg (bx.cells q ja).toArray,.agg (Expr.cells x fe).toArray] h (.bool (dv.go m q x))
 | 0,h,q,ja,x,fe,hd,hq,hx,hok,hso,hsw=>absurd hd (Nat.not_le.2 (Expr.jR _))
 | m+1,h,q,ja,x,fe,hd,hq,hx,hok,hso,hsw=>nm (dv.go m) h q ja x fe (fun qh_ qq uv qx jq qhq qhx qhok qhso qhsw qd=>kc m qh_ qq uv qx jq ob qhq qhx qhok qhso qhsw) hq hx hok hso hsw
theorem nK (h:HF) (q:bx) (ja:gp) (x:Expr) (fe:cI) (hq:bx.ok h q ja) (hx:Expr.ok h x fe) (hok:OkX (q.holders.length:Int) x) (hso:q.who.Pairwise (·≤·)) (hsw:q.who.length≤2000000):Ret Tryz.prog 97 [.agg (bx.cells q ja).toArray,.agg (Expr.cells x fe).toArray] h (.bool (dv q x)):=kc _ h q ja x fe (Nat.le_refl _) hq hx hok hso hsw
end Go.Sg
namespace Go.Sg
open Go.Proofs
set_option maxHeartbeats 2000000
set_option maxRecDepth 100000
set_option linter.unusedVariables false
theorem nL (h:HF) (p:Policy) (fb:eO) (kind:Int) (value:Int) (holders:(List (List Holder))) (fL:Option Addr) (fK:Nat) (who:(List Int)) (eG:Option Addr) (eF:Nat) (hp:Policy.ok h p fb) (hholders:SlC (Rp.sl Holder.rp) h fL fK holders) (hwho:SlC Rp.int h eG eF who) (hsm:smP p) (hsz0:∀ y∈holders,y.length≤2000000) (hsw:who.length≤2000000) (hk:Kinds h):Ret Tryz.prog 48 [.agg (Policy.cells p fb).toArray,I kind,I value,.slice fL holders.length fK,.slice eG who.length eF] h (.tuple #[.bool ((bi p kind value holders who).1),I ((bi p kind value holders who).2)]):=by
 refine ay Ap U Tryz.ntmps48 U fun X hM hX=>?_
 have hs0:bi p kind value holders who=bi p kind value holders who:=rfl
 refine sr (dy (fun b1=>ba (an (ae (sr (dq 0 ty68 U U U (aG (v:=I (cC p)) Tryz.call94 (oz h p fb hp ob hk) U ?_)))))))
 refine an (sr (aa (aJ U (ac ?_))))
 refine aE U (fun c1=>?_) (fun c1=>?_)
 ·have hs1:=hs0.trans (bt c1)
  refine sr (aa (ba (an ?_)))
  have hs2:bi p kind value holders who=(false,(cC p)):=hs1
  exact aw [.bool false,I (cC p)] Ap U hX rd (congrArg (fun r:(Bool×Int)=>(.tuple #[.bool r.1,I r.2]:Value)) hs2.symm)
 ·have hs3:=hs0.trans (bf c1)
  refine ao (ae (aW (sr (aa (aJ U (aa ?_))))))
  refine tq 6 [(1,I kind),(2,I value),(3,.slice fL holders.length fK),(4,.slice eG who.length eF),(5,Q b1),(27,.bool (decide (kind < 0)||decide (((p.Kinds.length:Nat):Int)≤kind)))] (fun hk1=>?_) (fun e=>?_)
  ·refine ar 21 U (fun c2=>?_) (fun c2=>?_)
   ·refine kq (kq (bP (ah U ?_)))
    exact hk1 _ ⟨U,U,U,U,U,(cb (dL c2)),trivial⟩
   ·refine aa (az kD U (aO 0 ty62 U U U (bC kL U (aJ U (ah U ?_)))))
    exact hk1 _ ⟨U,U,U,U,U,(cb (dM c2)),trivial⟩
  refine aa ?_
  refine tq 3 [(1,I kind),(2,I value),(3,.slice fL holders.length fK),(4,.slice eG who.length eF),(5,Q b1),(31,.bool ((decide (kind < 0)||decide (((p.Kinds.length:Nat):Int)≤kind))||decide (value < 0)))] (fun hk2=>?_) (fun e=>?_)
  ·refine ar 28 U (fun c3=>?_) (fun c3=>?_)
   ·refine kq (ah U ?_)
    exact hk2 _ ⟨U,U,U,U,U,(cb (dL c3)),trivial⟩
   ·refine aa (aJ U (ah U ?_))
    exact hk2 _ ⟨U,U,U,U,U,(cb (dM c3)),trivial⟩
  refine aa ?_
  refine tq 3 [(1,I kind),(2,I value),(3,.slice fL holders.length fK),(4,.slice eG who.length eF),(5,Q b1),(35,.bool (((decide (kind < 0)||decide (((p.Kinds.length:Nat):Int)≤kind))||decide (value < 0))||decide (1099511627776 < value)))] (fun hk3=>?_) (fun e=>?_)
  ·refine ar 32 U (fun c4=>?_) (fun c4=>?_)
   ·refine kq (ah U ?_)
    exact hk3 _ ⟨U,U,U,U,U,(cb (dL c4)),trivial⟩
   ·refine aa (aJ U (ah U ?_))
    exact hk3 _ ⟨U,U,U,U,U,(cb (dM c4)),trivial⟩
  refine an ?_
  refine aE U (fun c5=>?_) (fun c5=>?_)
  ·have hs4:=hs3.trans (bt c5)
   refine sr (ba (an ?_))
   have hs5:bi p kind value holders who=(false,1):=hs4
   exact aw [.bool false,I 1] Ap U hX rd (congrArg (fun r:(Bool×Int)=>(.tuple #[.bool r.1,I r.2]:Value)) hs5.symm)
  ·have hs6:=hs3.trans (bf c5)
   refine sr (aa (az jv U (aO 0 ty62 U U U (bC kL U (aG (v:=.bool (de holders ((p.Offices.length:Nat):Int))) Tryz.call95 (ux h holders fL fK ((p.Offices.length:Nat):Int) hholders ob) U ?_)))))
   refine cV U (an ?_)
   refine aE U (fun c6=>?_) (fun c6=>?_)
   ·have hs7:=hs6.trans (bt c6)
    refine sr (ba (an ?_))
    have hs8:bi p kind value holders who=(false,210):=hs7
    exact aw [.bool false,I 210] Ap U hX rd (congrArg (fun r:(Bool×Int)=>(.tuple #[.bool r.1,I r.2]:Value)) hs8.symm)
   ·have hs9:=hs6.trans (bf c6)
    refine sr (aa (aG (v:=.bool (dw who)) Tryz.call96 (oA h who eG eF hwho) U (cV U (an ?_))))
    refine aE U (fun c7=>?_) (fun c7=>?_)
    ·have hs10:=hs9.trans (bt c7)
     refine sr (ba (an ?_))
     have hs11:bi p kind value holders who=(false,1):=hs10
     exact aw [.bool false,I 1] Ap U hX rd (congrArg (fun r:(Bool×Int)=>(.tuple #[.bool r.1,I r.2]:Value)) hs11.symm)
    ·have hs12:=hs9.trans (bf c7)
     refine ao (av (sr (aa (aa (aa (a8 (fw (cells:=[I value,.slice fL holders.length fK,.slice eG who.length eF]) (places:=[(0,1),(1,1),(2,1)]) Tryz.underlying164 zc164 kr kr ?_)))))))
     refine az e9 U (aO 0 ty63 U U U (aa ?_))
     have ho1:0≤(kind:Int)∧(kind:Int) < ((p.Rules).length:Int):=(by have hq:=uK (by simpa using c1);simp only [decide_eq_true_eq,decide_eq_false_iff_not,Bool.and_eq_true,Bool.or_eq_true,Bool.not_eq_true',Bool.not_eq_false',Bool.and_eq_false_iff,Bool.or_eq_false_iff,beq_iff_eq,beq_eq_false_iff_ne,bne_iff_ne,bne_eq_false_iff_eq,List.length_append,List.length_cons,List.length_nil,List.length_drop] at c5;omega)
     refine a8 (gL jJ ty107 hp.Rules.1 ho1 (eA ho1) U U U (fun q1 cs1 A1 ln1 rr1=>?_))
     obtain ⟨r1,rfl,ok1⟩:=rr1
     refine az ka U (uz (j:=3) ty66 A1 U U (aG (v:=.bool (dv (bx.mk value holders who) ((nthI p.Rules kind).Expr))) ET (nK h (bx.mk value holders who) (gp.mk fL fK eG eF) ((nthI p.Rules kind).Expr) r1.Expr (show bx.ok h (bx.mk value holders who) (gp.mk fL fK eG eF) from ⟨hholders,hwho⟩) ok1.Expr (by have hq:=uK (by simpa using c1);have hr:=Et (by simpa using c6);show OkX (holders.length:Int) _;rw [hr];exact hq.2.2 _ (Dj (kv ho1))) (yh (by simpa using c7)) hsw) U ?_))
     refine ba (an ?_)
     have hs13:bi p kind value holders who=((dv (bx.mk value holders who) ((nthI p.Rules kind).Expr)),0):=hs12
     exact aw [.bool (dv (bx.mk value holders who) ((nthI p.Rules kind).Expr)),I 0] Ap U hX rd (congrArg (fun r:(Bool×Int)=>(.tuple #[.bool r.1,I r.2]:Value)) hs13.symm)
theorem mJ (h:HF) (l:(List Version)) (eW:Option Addr) (eV:Nat) (old:Bool) (hl:SlC Version.rp h eW eV l):jK Tryz.prog 142 [.slice eW l.length eV,.bool old] h (fun v h'=>∃ (rb0:Option Addr) (rc0:Nat),v=.slice rb0 (gG l old).length rc0∧SlC Version.rp h' rb0 rc0 (gG l old)):=by
 refine ay Tryz.func142 U Tryz.ntmps142 U fun X hM hX=>?_
 have hs0:gG l old=gG l old:=rfl
 refine sr (an (sr (aa (an ?_))))
 have hs1:gG l old=l:=hs0
 exact dS [.slice eW l.length eV] Tryz.func142 U rd ⟨eW,eV,congrArg (fun r:(List Version)=>(.slice eW r.length eV:Value)) hs1.symm,(by rw [hs1];exact hl)⟩
theorem qA (h:HF) (l:(List Version)) (eW:Option Addr) (eV:Nat) (old:Bool) (hl:SlC Version.rp h eW eV l) (hne:0 < l.length):jK Tryz.prog 143 [.slice eW l.length eV,.bool old] h (fun v h'=>∃ (rb0:Option Addr) (rc0:Nat),v=.slice rb0 (f9 l old).length rc0∧SlC Version.rp h' rb0 rc0 (f9 l old)):=by
 refine ay Tryz.func143 U Tryz.ntmps143 U fun X hM hX=>?_
 have hs0:f9 l old=f9 l old:=rfl
 refine sr (an (ae (sr (aa (cV U (ac ?_))))))
 refine aE U (fun c1=>?_) (fun c1=>?_)
 ·have hs1:=hs0.trans (bt c1)
  refine sr (an ?_)
  have hs2:f9 l old=[]:=hs1
  exact dS [.slice none 0 0] Tryz.func143 U rd ⟨none,0,congrArg (fun r:(List Version)=>(.slice none r.length 0:Value)) hs2.symm,(by rw [hs2];exact SlC.nil)⟩
 ·have hs3:=hs0.trans (bf c1)
  refine ao (sr (aa (a8 (Fw lb ty70 hl.1 hl.2 ob U U U (fun sb1 sc1 sl1=>?_)))))
  refine an ?_
  have hs4:f9 l old=(l.take ((1:Int)).toNat):=hs3
  exact dS [.slice sb1 ((l.take ((1:Int)).toNat).length) sc1] Tryz.func143 U rd ⟨sb1,sc1,congrArg (fun r:(List Version)=>(.slice sb1 r.length sc1:Value)) hs4.symm,(by rw [hs4];exact sl1)⟩
theorem qz (h:HF) (l:(List Version)) (eW:Option Addr) (eV:Nat) (old:Bool) (hl:SlC Version.rp h eW eV l) (hne:0 < l.length):jK Tryz.prog 144 [.slice eW l.length eV,.bool old] h (fun v h'=>∃ (rb0:Option Addr) (rc0:Nat),v=.slice rb0 (gF l old).length rc0∧SlC Version.rp h' rb0 rc0 (gF l old)):=by
 refine ay Tryz.func144 U Tryz.ntmps144 U fun X hM hX=>?_
 have hs0:gF l old=gF l old:=rfl
 have hbl:=hl.1.1
 refine sr (an (sr (aa (aa (bC lb U (aB (v':=I (((l.length:Nat):Int) - 1)) U (iu ob) ?_))))))
 refine a8 (Fx lb ty70 hl.1 hl.2 ob U U U (fun sb1 sc1 sl1=>?_))
 refine an ?_
 have hs1:gF l old=(l.drop (((((l.length:Nat):Int) - 1):Int)).toNat):=hs0
 exact dS [.slice sb1 ((l.drop (((((l.length:Nat):Int) - 1):Int)).toNat).length) sc1] Tryz.func144 U rd ⟨sb1,sc1,congrArg (fun r:(List Version)=>(.slice sb1 r.length sc1:Value)) hs1.symm,(by rw [hs1];exact sl1)⟩
theorem nB (h:HF)   : jK Tryz.prog 83 [] h (fun v h'=>∃ (rk0:Nat),v=.map (some rk0)∧nZ (Value.int .i64) VFn h' rk0 (jm)):=by
 refine ay Tryz.func83 U Tryz.ntmps83 U fun X hM hX=>?_
 have hs0:jm=jm:=rfl
 refine sr (an (sr (an (sr (a8 (og (fun b1=>a8 (iz 0 (k:=1) (x:=(Value.func (.func 143) #[] #[])) Ao (eS kl) U (gy.nil (enc:=(Value.int .i64)) (V:=VFn) (h:=h)) U U U (fun mo1 hm1=>?_)))))))))
 refine a8 (iz 0 (k:=2) (x:=(Value.func (.func 144) #[] #[])) Ao (eS kl) U hm1 U U U (fun mo2 hm2=>aa (a8 (iz 0 (k:=3) (x:=(Value.func (.func 142) #[] #[])) Ao (eS kl) U hm2 U U U (fun mo3 hm3=>?_)))))
 refine aa (a8 (iz 0 (k:=4) (x:=(Value.func (.func 142) #[] #[])) Ao (eS kl) U hm3 U U U (fun mo4 hm4=>aa (an ?_))))
 refine fD 0 U hM (fun h1 hle1 hb1=>?_)
 have mc1:nZ (Value.int .i64) VFn h1 b1 (mput (mput (mput (mput ([]) 1 (Value.func (.func 143) #[] #[])) 2 (Value.func (.func 144) #[] #[])) 3 (Value.func (.func 142) #[] #[])) 4 (Value.func (.func 142) #[] #[])):=⟨_,hb1,hm4.mono VFn.mono hle1⟩
 have hs1:jm=(mput (mput (mput (mput ([]) 1 (Value.func (.func 143) #[] #[])) 2 (Value.func (.func 144) #[] #[])) 3 (Value.func (.func 142) #[] #[])) 4 (Value.func (.func 142) #[] #[])):=hs0
 exact dS [.map (some b1)] Tryz.func83 U rd ⟨b1,congrArg (fun r:(List (Int×Value))=>(.map (some b1):Value)) hs1.symm,(by rw [hs1];exact mc1)⟩
theorem Bt (mode:Int) (l:List Version) (old:Bool):(judgesP mode l old).length≤l.length:=by
 unfold judgesP gG f9 gF
 cases mode==1 <;> cases mode==2 <;> cases old <;> simp <;> omega
theorem Br (h:HF) (mode:Int) (hm:1≤mode∧mode≤4) (l:List Version) (eW:Option Addr) (eV:Nat) (old:Bool) (hl:SlC Version.rp h eW eV l) (hne:0 < l.length):
  HB Tryz.prog (mgetD jm mode Value.nilFunc) [.slice eW l.length eV,.bool old] h (fun v h'=>∃ (rb0:Option Addr) (rc0:Nat),v=.slice rb0 (judgesP mode l old).length rc0∧SlC Version.rp h' rb0 rc0 (judgesP mode l old)):=by
 have:mode=1∨mode=2∨mode=3∨mode=4:=by omega
 rcases this with rfl | rfl | rfl | rfl
 ·exact km (cap:=[]) (args:=[.slice eW l.length eV,.bool old]) Tryz.call143 (qA h l eW eV old hl hne)
 ·exact km (cap:=[]) (args:=[.slice eW l.length eV,.bool old]) Tryz.call144 (qz h l eW eV old hl hne)
 ·exact km (cap:=[]) (args:=[.slice eW l.length eV,.bool old]) Tryz.call142 (mJ h l eW eV old hl)
 ·exact km (cap:=[]) (args:=[.slice eW l.length eV,.bool old]) Tryz.call142 (mJ h l eW eV old hl)
theorem td (h:HF) (mode:Int) (permits:(List Bool)) (iU:Option Addr) (iT:Nat) (hpermits:SlC Rp.bool h iU iT permits):Ret Tryz.prog 164 [I mode,.slice iU permits.length iT] h (I (gN mode permits)):=by
 refine ay ES U Tryz.ntmps164 U fun X hM hX=>?_
 have hs0:gN mode permits=gN mode permits:=rfl
 refine sr (an (ae (sr (a8 (dg Tryz.call83 (nB h  ) U (fun v1 h1 hle1 hp1=>?_))))))
 obtain ⟨rk1,rfl,mo1⟩:=hp1
 refine aa ?_
 obtain ⟨o1,hb1,hm1⟩:=mo1
 refine a8 (uZ (k:=mode) Ao (eS kl) hb1 hm1 (je zv141) (show VFn _ (.nilFunc) Value.nilFunc from U) U U (fun v2 hv1=>?_))
 obtain rfl:=hv1
 refine aa (bG U U (bG U U (ba (an (sr (aa (cV U (ac ?_))))))))
 refine aE U (fun c1=>?_) (fun c1=>?_)
 ·have hs1:=hs0.trans (bt c1)
  refine sr (an ?_)
  exact aw [I 270] ES U hX rd (ci hs1)
 ·have hs3:=hs0.trans (bf c1)
  refine ao (ae (sr (aa (bC lT U (aJ U (ac ?_))))))
  refine aE U (fun c2=>?_) (fun c2=>?_)
  ·have c2p:=of_decide_eq_true c2
   have hs4:=hs3.trans (bt c2)
   refine sr (an ?_)
   exact aw [I 1] ES U hX rd (ci hs4)
  ·have c2p:=of_decide_eq_false c2
   have hs6:=hs3.trans (bf c2)
   refine ao (sr (an ?_))
   exact aw [I 0] ES U hX rd (ci hs6)
theorem oK (h:HF) (s:(List Bool)) (pz:Option Addr) (oS:Nat) (f:(Bool→Bool)) (f_v:Value) (hs:SlC Rp.bool h pz oS s) (hf:∀ (h':HF) (cG:Bool),HF.le h h'→uO Tryz.prog f_v [.bool cG] h' [] (.bool (f cG))):Ret Tryz.prog 224 [.slice pz s.length oS,f_v] h (I (dG s f)):=by
 refine ay Tryz.func224 U Tryz.ntmps224 U fun X hM hX=>?_
 have hs0:dG s f=dG s f:=rfl
 refine sr (an (ae (sr (aa (bC lT U (aa (ac ?_)))))))
 refine br (ι:=Nat) (fun i=>[]) (fun i=>h) (fun i=>[]) (fun i=>i≤s.length∧dG s f=((dG.K1))) ?_ (fun hx1=>?_)
 ·rintro i1 ⟨bd,hs1⟩ e
  try dsimp only at bd
  try dsimp only
  refine sr (an ?_)
  exact aw [I (-1)] Tryz.func224 U hX rd (ci hs1)
 ·refine cp (ι:=Nat×List Bool) (fun i=>[(0,.slice pz s.length oS),(1,f_v),(7,I ((s.length:Nat):Int)),(8,I ((i.1:Nat):Int))]) (fun i=>h) (fun i=>[]) (fun i=>s.drop i.1=i.2∧i.1≤s.length∧dG s f=((dG.L1 f (dG.K1)) i.2 i.1)) (fun i=>i.2.length) (0,s) rd sw ⟨U,Nat.zero_le _,hs0⟩ ?_
  rintro ⟨i1,s1⟩ ⟨hd1,bd,hs3⟩ ag1 e
  try dsimp only at hd1 bd
  rcases s1 with _ | ⟨y1,rz1⟩
  ·have dI:=cU hd1
   try dsimp only
   refine sr (aB (v':=.bool false) U (cb dI) (ac (ae (bg U (bO U ?_)))))
   exact hx1 i1 _ ⟨bd,hs3⟩ trivial
  ·have dH:=dY hd1
   have bh:=cY hd1
   have eT:=aT hd1
   have gx:=hs.1.1
   try dsimp only
   refine sr (aB (v':=.bool true) U (cb dH) (ac (ae (bn U (ao (ae (aW (sr (aa (an (sr (aa (aa (aa (a8 (fQ (enc:=fun y=>[.bool y]) (fun _ _ _ e=>e) lT ty4 hs.1 (nthZ bh) (bB bh) U U U (fun q2 A2=>?_)))))))))))))))))
   refine eC ty4 A2 U (a8 (nl (v:=.bool (f y1)) [] (List.nil_sublist _) (hf h y1 (HF.le_refl _)) U U (ac ?_)))
   refine aE U (fun c2=>?_) (fun c2=>?_)
   ·have hs5:=hs3.trans (bt c2)
    refine sr (aa (an ?_))
    exact aw [I ((i1:Nat):Int)] Tryz.func224 U hX rd (ci hs5)
   ·have hs7:=hs3.trans (bf c2)
    refine ao (av (ai (aB (v':=I (((i1+1):Nat):Int)) U (bW ob) (aa (ac ?_)))))
    exact ag1 ((i1+1),rz1) _ (Nat.lt_succ_self _) ⟨bF hd1,aT hd1,hs7⟩ rd
theorem mv (h:HF) (l:(List Bool)) (eW:Option Addr) (eV:Nat) (ok:(Bool→Bool)) (ok_v:Value) (hl:SlC Rp.bool h eW eV l) (hok:∀ (h':HF) (cG:Bool),HF.le h h'→uO Tryz.prog ok_v [.bool cG] h' [] (.bool (ok cG))):Ret Tryz.prog 165 [.slice eW l.length eV,ok_v] h (I (bR l ok)):=by
 refine ay Tryz.func165 U Tryz.ntmps165 U fun X hM hX=>?_
 have hs0:bR l ok=bR l ok:=rfl
 refine sr (an (sr (aa (aa (aG (v:=I (dG l ok)) Tryz.call224 (oK h l eW eV ok ok_v hl hok) U (an ?_))))))
 exact aw [I (dG l ok)] Tryz.func165 U hX rd (ci hs0)
end Go.Sg
