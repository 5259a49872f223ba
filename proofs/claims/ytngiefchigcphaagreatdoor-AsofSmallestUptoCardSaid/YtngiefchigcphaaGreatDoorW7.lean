import Derived.Test.YtngiefchigcphaaGreatDoorW6
/- A part of the proof of AsofSmallest. -/
set_option linter.unusedVariables false
set_option linter.unusedSimpArgs false
set_option maxRecDepth 100000
namespace Go.Sg
open Go.Proofs
abbrev DO {α : Type} (P:Program) (f:FuncId) (args:List Value) (h:HF) (R:Rp α) (E:TypeId) (S:List α→Prop):Prop:=
 oP P f args.toArray h [] (fun r h' G=>∃ xs bb c,S xs∧r=.returned (.slice bb xs.length c)∧eb R E h' xs bb c G)
section steps
variable {P:Program} {b:Frame} {n:Nat} {ops:Array Oper} {F:List Frame→(Machine→Prop)→Prop} {e:Env} {ds:List Deferred} {X:Cx} {h:HF} {L:LH} {K:Env→HF→LH→Prop}
variable {d:Option Nat} {ty:TypeId} {pos:String} {af:Array Edge} {g:Option (Nat×Bool)}
theorem uN {α : Type} {R:Rp α} {E:TypeId} {S:List α→Prop} {f:FuncId} {ass:Array Operand} {ats:Array TypeId} {vs:List Value}
  (hc:∀ args w,(callFunc f args).run P w=.ok (.enter f args) w) (hs:DO P f vs h R E S) (hvs:ass.toList.map e.ev=vs)
  (t':∀ h' xs bb c G,h.le h'→S xs→eb R E h' xs bb c G→K (pute e d (.slice bb xs.length c)) h' (L++G))
  (hg:guardB ops e ⟨d,.call ⟨.value (.func f),ass,ats⟩,ty,pos,af,g⟩=true:=by rfl):
  Stp P b n ops F ds X ⟨d,.call ⟨.value (.func f),ass,ats⟩,ty,pos,af,g⟩ e h L K:=by
 unfold Stp
 rw [if_pos hg]
 intro w hw
 have harr:ass.map e.ev=vs.toArray:=Array.ext' (by simp [← hvs])
 have hr:(execOp e.ev ⟨d,.call ⟨.value (.func f),ass,ats⟩,ty,pos,af,g⟩).run P w=.ok (.enter f vs.toArray) w:=by
  simp [execOp,resolve,Env.ev,Deferred.ofValue,invoke,harr,hc]
 rw [hr]
 refine jW (by simp) (jv (oU.mono (hs w (hw.sub (List.nil_sublist _)).pre) ?_))
 rintro x w' ⟨h',B,hst,xs,bb,c,hS,rfl,hG⟩
 exact ⟨h',_,(St.after (A:=[]) (F:=L) hw hst).perm List.perm_append_comm,t' h' xs bb c B hst.le hS hG⟩
end steps
theorem xf (h:HF) (it:Value) (S:List Int→Prop) (hit:wj Tryz.prog it (fun (k:Int) (_:HF) (vs:List Value)=>vs=[Value.int .i64 k]) S h) (hS:∀ xs,S xs→xs.length≤1000000000000):DO Tryz.prog 178 [.slice none 0 0,it] h Rp.int 3 S:=by
 refine ae Tryz.func178 rfl Tryz.ntmps178 rfl fun X hM hX=>?_
 refine em (bU (dt (fun b1=>fx (bh (em (em (bU (aB (bh (lK (?_)))))))))))
 refine Ae (it:=it) (S:=S) (ps:=[7])
  (fun done h' L'=>∃ gb gc G,L'=[(b1,Obj.cells (List.toArray [.slice gb done.length gc]) 31 (0,0))]++G∧eb Rp.int 3 h' done gb gc G)
  (fun _ _ _=>False) (fun _ _ _=>False) rfl hit rfl (fun x h' vs hv=>by rw [hv];rfl) ?_ (fun _ _ _ _ _ hf=>hf) (fun _ _ _ _ _ hf=>hf) ⟨none,0,[],rfl,eb.nil⟩ ?_ ?_ (fun _ _ _ _ _ hf=>hf.elim) (fun _ _ _ _ _ hf=>hf.elim)
 ·rintro done h1 h2 B hl ⟨gb,gc,G,rfl,hG⟩;exact ⟨gb,gc,G,rfl,hG.mono Rp.bi hl⟩
 ·rintro l1 r1 lp1 done y vs hr L' X' ⟨rest,hrest⟩ hle ⟨gb,gc,G,rfl,hG⟩ hv hlp hX' hXM
  obtain rfl:=hv
  have hlen:=hS _ hrest
  simp only [List.length_append,List.length_cons] at hlen
  refine bU (fx (bh ?_))
  refine ke 0 rfl hlp (lK (bU ?_))
  refine aI 2 ty31 rfl rfl rfl (aB ?_)
  refine aN (bK (cells:=[.int .i64 y]) cN ty3 zc3 rfl rfl (by kernel_rfl) (fun b3=>?_))
  refine aN (db Rp.fp ([(b3,Obj.cells (List.toArray [.int .i64 y]) 3 (0,0)),(l1,.loop { lp1 with state:=.busy }),(r1,.deferred (some [])),(b1,Obj.cells (List.toArray [.slice gb done.length gc]) 31 (0,0))]) [] (fun G=>[(b3,Obj.cells (List.toArray [.int .i64 y]) 3 (0,0)),(l1,.loop { lp1 with state:=.busy }),(r1,.deferred (some [])),(b1,Obj.cells (List.toArray [.slice gb done.length gc]) 31 (0,0))]++G) (G:=G) (show _=[(b3,Obj.cells (List.toArray [.int .i64 y]) 3 (0,0)),(l1,.loop { lp1 with state:=.busy }),(r1,.deferred (some [])),(b1,Obj.cells (List.toArray [.slice gb done.length gc]) 31 (0,0))]++(G++[]) from by rw [List.append_nil];rfl) (fun _=>by first | rfl | simp only [List.nil_append]) cN ty3 zc3 rfl bytes3 hG rfl rfl (eI (ys:=[y]) 0 rfl (show bD Rp.int hr [.int .i64 y] [y] from ⟨[.int .i64 y],[],rfl,rfl,rfl,rfl⟩)) (by simp only [List.length_append,List.length_cons,List.length_nil];omega) (by simp only [List.length_append,List.length_cons,List.length_nil];omega) (fun ob2 oc2 G2 gr2=>?_))
  refine dS 3 ty31 rfl rfl rfl rfl rfl rfl (bh (jF ?_))
  refine cG (L':=(l1,.loop { lp1 with state:=.busy })::(r1,.deferred (some []))::([(b1,Obj.cells (List.toArray [.slice ob2 (done++[y]).length oc2]) 31 (0,0))]++G2)) (.cons _ (List.Sublist.refl _)) ?_
  exact Bg rfl ⟨ob2,oc2,G2,rfl,gr2⟩
 ·rintro r1 xs h2 L' hxs hle ⟨gb,gc,G,rfl,hG⟩
  refine jF (em (bU (aI 1 ty31 rfl rfl rfl (fx (bh ?_)))))
  refine nN (L':=([(b1,Obj.cells (List.toArray [.slice gb xs.length gc]) 31 (0,0))]++G)++markB [r1]) (List.perm_append_singleton _ _).symm ?_
  exact uG [r1] Tryz.func178 (fun a ha w hw=>res1 rfl a ha w) (fun w hw=>hw.sub (L':=G) (List.sublist_append_right _ _)) ⟨xs,gb,gc,hxs,rfl,hG⟩
theorem zU (h:HF) (it:Value) (S:List Int→Prop) (hit:wj Tryz.prog it (fun (k:Int) (_:HF) (vs:List Value)=>vs=[Value.int .i64 k]) S h) (hS:∀ xs,S xs→xs.length≤1000000000000):DO Tryz.prog 108 [it] h Rp.int 3 S:=by
 refine ae Tryz.func108 rfl Tryz.ntmps108 rfl fun X hM hX=>?_
 refine em (bU (fx (bh (em (bU (aB ?_))))))
 refine aN (uN Tryz.call178 (xf h it S hit hS) rfl (fun h' xs bb c G hle hxs hG=>?_))
 refine fx (bh ?_)
 exact nC Tryz.func108 (fun a ha w hw=>res1 rfl a ha w) (fun w hw=>hw.sub (L':=G) (List.sublist_append_right _ _)) ⟨xs,bb,c,hxs,rfl,hG⟩
theorem wk (h:HF) (it:Value) (S:List OSeat→Prop) (hit:wj Tryz.prog it (fun (k:OSeat) (_:HF) (vs:List Value)=>vs=[OSeat.enc k]) S h) (hS:∀ xs,S xs→xs.length≤1000000000000):DO Tryz.prog 239 [.slice none 0 0,it] h OSeat.rp 212 S:=by
 refine ae Tryz.func239 rfl Tryz.ntmps239 rfl fun X hM hX=>?_
 refine em (bU (dt (fun b1=>fx (bh (em (em (bU (aB (bh (lK (?_)))))))))))
 refine Ae (it:=it) (S:=S) (ps:=[7])
  (fun done h' L'=>∃ gb gc G,L'=[(b1,Obj.cells (List.toArray [.slice gb done.length gc]) 215 (0,0))]++G∧eb OSeat.rp 212 h' done gb gc G)
  (fun _ _ _=>False) (fun _ _ _=>False) rfl hit rfl (fun x h' vs hv=>by rw [hv];rfl) ?_ (fun _ _ _ _ _ hf=>hf) (fun _ _ _ _ _ hf=>hf) ⟨none,0,[],rfl,eb.nil⟩ ?_ ?_ (fun _ _ _ _ _ hf=>hf.elim) (fun _ _ _ _ _ hf=>hf.elim)
 ·rintro done h1 h2 B hl ⟨gb,gc,G,rfl,hG⟩;exact ⟨gb,gc,G,rfl,hG.mono OSeat.aD hl⟩
 ·rintro l1 r1 lp1 done y vs hr L' X' ⟨rest,hrest⟩ hle ⟨gb,gc,G,rfl,hG⟩ hv hlp hX' hXM
  obtain rfl:=hv
  have hlen:=hS _ hrest
  simp only [List.length_append,List.length_cons] at hlen
  refine bU (bR zc212 (fun b2=>bL 0 ty212 rfl rfl rfl rfl rfl rfl (bh ?_)))
  refine ke 1 rfl hlp (lK (bU ?_))
  refine aI 3 ty215 rfl rfl rfl (dl 0 ty212 rfl rfl rfl ?_)
  refine aN (bK (cells:=[.int .i64 y.office,.int .i64 y.person]) GS ty212 zc212 rfl rfl (by kernel_rfl) (fun b3=>?_))
  refine aN (db OSeat.eT ([(b3,Obj.cells (List.toArray [.int .i64 y.office,.int .i64 y.person]) 212 (0,0)),(b2,Obj.cells (OSeat.cells y).toArray 212 (0,0)),(l1,.loop { lp1 with state:=.busy }),(r1,.deferred (some [])),(b1,Obj.cells (List.toArray [.slice gb done.length gc]) 215 (0,0))]) [] (fun G=>[(b3,Obj.cells (List.toArray [.int .i64 y.office,.int .i64 y.person]) 212 (0,0)),(b2,Obj.cells (OSeat.cells y).toArray 212 (0,0)),(l1,.loop { lp1 with state:=.busy }),(r1,.deferred (some [])),(b1,Obj.cells (List.toArray [.slice gb done.length gc]) 215 (0,0))]++G) (G:=G) (show _=[(b3,Obj.cells (List.toArray [.int .i64 y.office,.int .i64 y.person]) 212 (0,0)),(b2,Obj.cells (OSeat.cells y).toArray 212 (0,0)),(l1,.loop { lp1 with state:=.busy }),(r1,.deferred (some [])),(b1,Obj.cells (List.toArray [.slice gb done.length gc]) 215 (0,0))]++(G++[]) from by rw [List.append_nil];rfl) (fun _=>by first | rfl | simp only [List.nil_append]) GS ty212 zc212 rfl bytes212 hG rfl rfl (eI (ys:=[y]) 0 rfl (show bD OSeat.rp hr [.int .i64 y.office,.int .i64 y.person] [y] from ⟨[.int .i64 y.office,.int .i64 y.person],[],rfl,rfl,rfl,rfl⟩)) (by simp only [List.length_append,List.length_cons,List.length_nil];omega) (by simp only [List.length_append,List.length_cons,List.length_nil];omega) (fun ob2 oc2 G2 gr2=>?_))
  refine dS 4 ty215 rfl rfl rfl rfl rfl rfl (bh (jF ?_))
  refine cG (L':=(l1,.loop { lp1 with state:=.busy })::(r1,.deferred (some []))::([(b1,Obj.cells (List.toArray [.slice ob2 (done++[y]).length oc2]) 215 (0,0))]++G2)) (.cons _ (.cons _ (List.Sublist.refl _))) ?_
  exact Bg rfl ⟨ob2,oc2,G2,rfl,gr2⟩
 ·rintro r1 xs h2 L' hxs hle ⟨gb,gc,G,rfl,hG⟩
  refine jF (em (bU (aI 1 ty215 rfl rfl rfl (fx (bh ?_)))))
  refine nN (L':=([(b1,Obj.cells (List.toArray [.slice gb xs.length gc]) 215 (0,0))]++G)++markB [r1]) (List.perm_append_singleton _ _).symm ?_
  exact uG [r1] Tryz.func239 (fun a ha w hw=>res1 rfl a ha w) (fun w hw=>hw.sub (L':=G) (List.sublist_append_right _ _)) ⟨xs,gb,gc,hxs,rfl,hG⟩
theorem zw (h:HF) (it:Value) (S:List OSeat→Prop) (hit:wj Tryz.prog it (fun (k:OSeat) (_:HF) (vs:List Value)=>vs=[OSeat.enc k]) S h) (hS:∀ xs,S xs→xs.length≤1000000000000):DO Tryz.prog 210 [it] h OSeat.rp 212 S:=by
 refine ae Tryz.func210 rfl Tryz.ntmps210 rfl fun X hM hX=>?_
 refine em (bU (fx (bh (em (bU (aB ?_))))))
 refine aN (uN Tryz.call239 (wk h it S hit hS) rfl (fun h' xs bb c G hle hxs hG=>?_))
 refine fx (bh ?_)
 exact nC Tryz.func210 (fun a ha w hw=>res1 rfl a ha w) (fun w hw=>hw.sub (L':=G) (List.sublist_append_right _ _)) ⟨xs,bb,c,hxs,rfl,hG⟩
end Go.Sg
namespace Go.Sg
open Go.Proofs
theorem lD (h:HF) (it:Value) (ks:List Int) (hit:wj Tryz.prog it (fun (k:Int) (_:HF) (vs:List Value)=>vs=[Value.int .i64 k]) (fun xs=>xs.Perm ks) h) (hk:ks.length≤1000000000000):
  je Tryz.prog 60 [it] h (fun v h'=>∃ (b:Option Addr) (c:Nat),v=.slice b (sortI ks).length c∧SlC Rp.int h' b c (sortI ks)):=by
 refine ae Tryz.func60 rfl Tryz.ntmps60 rfl fun X hM hX=>?_
 refine em (bU (fx (bh (em (bU (aB ?_))))))
 refine aN (uN Tryz.call108 (zU h it _ hit (fun xs hx=>by rw [hx.length_eq];exact hk)) rfl (fun h' xs bb c G hle hxs hG=>?_))
 refine fx (bh (em (bU (aB ?_))))
 refine aN (rT [] G [] Tryz.call41 (lZ h' xs bb c G hG (by rw [hxs.length_eq];exact hk)) (by simp) rfl (fun G' hG'=>?_))
 refine bh (em (bU (aB (fx (bh ?_)))))
 refine eY Rp.bi [] G' [] (by simp) hM hG' (fun h2 hle2 sl=>?_)
 refine cJ [.slice bb xs.length c] Tryz.func60 rfl ⟨rfl,trivial⟩ ⟨bb,c,?_,?_⟩
 ·rw [← Ck hxs,iw];rfl
 ·rw [← Ck hxs];exact sl
theorem pq (h:HF) (m:List (Int×Bool)) (Bw:Nat) (hm:oR (Value.int .i64) gY h Bw m):je Tryz.prog 61 [.map (some Bw)] h (fun v h'=>wj Tryz.prog v (fun (k:Int) (_:HF) (vs:List Value)=>vs=[(Value.int .i64) k]) (fun xs=>xs.Perm (m.map (·.1))) h'):=by
 refine ae Tryz.func61 rfl Tryz.ntmps61 rfl fun X hM hX=>?_
 refine em (bU (dt (fun b1=>fx (bh (em (bU ?_))))))
 refine bX 0 rfl hM (fun h2 hle2 hb2=>?_)
 refine aN (gg rfl rfl ?_)
 refine fx (bh ?_)
 refine cJ [.func (.func 109) #[] #[.pointer (some ⟨b1,0,none⟩)]] Tryz.func61 rfl ⟨rfl,trivial⟩ ?_
 exact tx h2 m Bw ⟨b1,0,none⟩ (hm.mono gY.mono hle2) (dN hb2)
theorem sq (h:HF) (m:List (Int×Version)) (Bw:Nat) (hm:oR (Value.int .i64) (kx Version.rp) h Bw m):je Tryz.prog 141 [.map (some Bw)] h (fun v h'=>wj Tryz.prog v (fun (k:Int) (_:HF) (vs:List Value)=>vs=[(Value.int .i64) k]) (fun xs=>xs.Perm (m.map (·.1))) h'):=by
 refine ae Tryz.func141 rfl Tryz.ntmps141 rfl fun X hM hX=>?_
 refine em (bU (dt (fun b1=>fx (bh (em (bU ?_))))))
 refine bX 0 rfl hM (fun h2 hle2 hb2=>?_)
 refine aN (gg rfl rfl ?_)
 refine fx (bh ?_)
 refine cJ [.func (.func 209) #[] #[.pointer (some ⟨b1,0,none⟩)]] Tryz.func141 rfl ⟨rfl,trivial⟩ ?_
 exact qH h2 m Bw ⟨b1,0,none⟩ (hm.mono (kx.mono Version.aD) hle2) (dN hb2)
theorem ss (h:HF) (m:List (OSeat×Appoint)) (Bw:Nat) (hm:oR OSeat.enc (kx Appoint.rp) h Bw m):je Tryz.prog 154 [.map (some Bw)] h (fun v h'=>wj Tryz.prog v (fun (k:OSeat) (_:HF) (vs:List Value)=>vs=[OSeat.enc k]) (fun xs=>xs.Perm (m.map (·.1))) h'):=by
 refine ae Tryz.func154 rfl Tryz.ntmps154 rfl fun X hM hX=>?_
 refine em (bU (dt (fun b1=>fx (bh (em (bU ?_))))))
 refine bX 0 rfl hM (fun h2 hle2 hb2=>?_)
 refine aN (gg rfl rfl ?_)
 refine fx (bh ?_)
 refine cJ [.func (.func 212) #[] #[.pointer (some ⟨b1,0,none⟩)]] Tryz.func154 rfl ⟨rfl,trivial⟩ ?_
 exact qI h2 m Bw ⟨b1,0,none⟩ (hm.mono (kx.mono Appoint.aD) hle2) (dN hb2)
end Go.Sg
namespace Go.Sg
open Go.Proofs
set_option maxHeartbeats 2000000
theorem oX (h:HF) (l:(List Int)) (eD:Option Addr) (eC:Nat) (l_q:Addr) (hl:SlC Rp.int h eD eC l) (al:At h l_q [.slice eD l.length eC]):Itr Tryz.prog (.func (.func 62) #[] (List.toArray [.pointer (some l_q)])) yz (aS l) h:=by
 refine vS Tryz.call62 ?_
 intro yf ya yb C Sp Pn h1 A hle m1 m2 m3 hC hy
 refine jS Cb U Tryz.ntmps62 U fun X hXM hX=>?_
 have hs0:aS l=[]++aS l:=rfl
 refine sr (dv ty31 (al.mono hle) U (a8 cN U (qO 2 U ?_)))
 refine aU (ι:=Nat×List Span×LH×HF) (fun i=>[]) (fun i=>i.2.2.2) (fun i=>i.2.2.1) (fun i=>i.1≤l.length∧aS l=i.2.1++((aS.K1))∧C i.2.1 i.2.2.2 i.2.2.1∧HF.le h1 i.2.2.2) ?_ (fun hx1=>?_)
 ·rintro ⟨i1,dn1,A1_,hh1⟩ ⟨aP,hs1,hC1_,hl1⟩ e
  try dsimp only at aP hC1_ hl1
  refine gp ?_
  have hs2:aS l=dn1:=hs1.trans (List.append_nil _)
  exact vT [] (A:=A1_) Cb U (List.Sublist.refl _) (.inl (hs2 ▸ hC1_))
 ·refine bG (ι:=Nat×List Span×LH×HF×List Int) (fun i=>[(0,.func yf ya yb),(1,.pointer (some l_q)),(6,.slice eD l.length eC),(7,I ((l.length:Nat):Int)),(8,I ((i.1:Nat):Int))]) (fun i=>i.2.2.2.1) (fun i=>i.2.2.1) (fun i=>l.drop i.1=i.2.2.2.2∧i.1≤l.length∧aS l=i.2.1++((aS.L1 l (aS.K1)) i.2.2.2.2 i.1)∧C i.2.1 i.2.2.2.1 i.2.2.1∧HF.le h1 i.2.2.2.1) (fun i=>i.2.2.2.2.length) (0,[],A,h1,l) rd sw ⟨U,Nat.zero_le _,hs0,hC,(HF.le_refl h1)⟩ ?_
  rintro ⟨i1,dn1,A1_,hh1,s1⟩ ⟨hd1,aP,hs3,hC1_,hl1⟩ ag1 e
  try dsimp only at hd1 aP hC1_ hl1
  rcases s1 with _ | ⟨y1,rz1⟩
  ·have dr:=cw hd1
   refine sr (ai (v':=.bool false) U (cb dr) (qO 4 U ?_))
   exact hx1 (i1,dn1,A1_,hh1) _ ⟨aP,hs3,hC1_,hl1⟩ trivial
  ·have dq:=dy hd1
   have aM:=cA hd1
   have ey:=aE hd1
   have gi:=(hl.mono Rp.bi hle).1.1
   refine sr (ai (v':=.bool true) U (cb dq) (qO 9 U (aN (eU (enc:=fun y=>[I y]) (fun _ _ _ e=>e) cN ty3 (hl.mono Rp.bi (hle.t hl1)).1 (nthZ aM) (aV aM) U U U (fun q3 A6=>?_)))))
   refine dv ty3 A6 U (qO 11 U (ai (v':=I (((i1+1):Nat):Int)) U (bz ob) (dv ty31 (al.mono (hle.t hl1)) U (a8 cN U (qO 2 U ?_)))))
   refine kC U (fun c3=>?_) (fun c3=>?_)
   ·have c3p:=of_decide_eq_true c3
    have hs5:=hs3.trans (congrArg (dn1++·) (bt c3))
    refine qT 2 U (dv ty31 (al.mono (hle.t hl1)) U (aB (ai (v':=I (((i1+1):Nat):Int)) U (bz ob) ?_)))
    have ho2:0≤((((i1+1):Nat):Int):Int)∧((((i1+1):Nat):Int):Int) < ((l).length:Int):=ob
    refine aN (eU (enc:=fun y=>[I y]) (fun _ _ _ e=>e) cN ty3 (hl.mono Rp.bi (hle.t hl1)).1 ho2 (df ho2) U U U (fun q4 A7=>dv ty3 A7 U (aN (gI (J6 U U) (qO 8 U ?_)))))
    refine ac 28 U (fun c4=>?_) (fun c4=>?_)
    ·have c4p:=of_decide_eq_true c4
     have hs6:=hs5.trans (congrArg (dn1++·) (bt c4))
     refine qO 3 U (aN (fq (cells:=[I y1,I (min 1099511627776 (nthI l (((i1+1):Nat):Int)))]) (places:=[(0,1),(1,1)]) Ad zc46 kr kr ?_))
     have hx2:aS l=dn1++((Span.mk y1 (min 1099511627776 (nthI l (((i1+1):Nat):Int))))::(aS.L1 l (aS.K1) rz1 ((i1+1)))):=hs6
     refine aN (lS ([]) A1_ ap (hy dn1 (Span.mk y1 (min 1099511627776 (nthI l (((i1+1):Nat):Int)))) _ _ _ _ hx2 hl1 hC1_ U) U U (fun h5 A8 hle4 hC2=>?_) (fun h6 A9 hle5 hS2=>?_) (fun ch2 h7 A10 hle6 hP2 e=>i6 (qM [] (A:=A10) Cb (List.sublist_append_right _ _) hP2)))
     ·have hs7:aS l=(dn1++[(Span.mk y1 (min 1099511627776 (nthI l (((i1+1):Nat):Int))))])++((aS.L1 l (aS.K1) rz1 ((i1+1)))):=hx2.trans ap
      refine qO 7 U (ai (v':=I (((i1+1):Nat):Int)) U (bz ob) (qO 2 U ?_))
      exact ag1 ((i1+1),(dn1++[(Span.mk y1 (min 1099511627776 (nthI l (((i1+1):Nat):Int))))]),A8,h5,rz1) _ (Nat.lt_succ_self _) ⟨ba hd1,aE hd1,hs7,hC2,(hl1.t hle4)⟩ rd
     ·refine qO 4 U ?_
      refine gp ?_
      exact qL [] (A:=A9) Cb U (List.Sublist.refl _) (.inr hS2)
    ·have c4p:=of_decide_eq_false c4
     have hs8:=hs5.trans (congrArg (dn1++·) (bf c4))
     refine qO 12 U (ai (v':=I (((i1+1):Nat):Int)) U (bz ob) (qO 2 U ?_))
     exact ag1 ((i1+1),dn1,A1_,hh1,rz1) _ (Nat.lt_succ_self _) ⟨ba hd1,aE hd1,hs8,hC1_,hl1⟩ rd
   ·have c3p:=of_decide_eq_false c3
    have hs9:=hs3.trans (congrArg (dn1++·) (bf c3))
    refine qT 7 U ?_
    refine ac 28 U (fun c5=>?_) (fun c5=>?_)
    ·have c5p:=of_decide_eq_true c5
     have hs10:=hs9.trans (congrArg (dn1++·) (bt c5))
     refine qO 3 U (aN (fq (cells:=[I y1,I 1099511627776]) (places:=[(0,1),(1,1)]) Ad zc46 kr kr ?_))
     have hx3:aS l=dn1++((Span.mk y1 1099511627776)::(aS.L1 l (aS.K1) rz1 ((i1+1)))):=hs10
     refine aN (lS ([]) A1_ ap (hy dn1 (Span.mk y1 1099511627776) _ _ _ _ hx3 hl1 hC1_ U) U U (fun h8 A11 hle7 hC3=>?_) (fun h9 A12 hle8 hS3=>?_) (fun ch3 h10 A13 hle9 hP3 e=>i6 (qM [] (A:=A13) Cb (List.sublist_append_right _ _) hP3)))
     ·have hs11:aS l=(dn1++[(Span.mk y1 1099511627776)])++((aS.L1 l (aS.K1) rz1 ((i1+1)))):=hx3.trans ap
      refine qO 7 U (ai (v':=I (((i1+1):Nat):Int)) U (bz ob) (qO 2 U ?_))
      exact ag1 ((i1+1),(dn1++[(Span.mk y1 1099511627776)]),A11,h8,rz1) _ (Nat.lt_succ_self _) ⟨ba hd1,aE hd1,hs11,hC3,(hl1.t hle7)⟩ rd
     ·refine qO 4 U ?_
      refine gp ?_
      exact qL [] (A:=A12) Cb U (List.Sublist.refl _) (.inr hS3)
    ·have c5p:=of_decide_eq_false c5
     have hs12:=hs9.trans (congrArg (dn1++·) (bf c5))
     refine qO 12 U (ai (v':=I (((i1+1):Nat):Int)) U (bz ob) (qO 2 U ?_))
     exact ag1 ((i1+1),dn1,A1_,hh1,rz1) _ (Nat.lt_succ_self _) ⟨ba hd1,aE hd1,hs12,hC1_,hl1⟩ rd
theorem qm (h:HF) (q:aH) (ja:fS) (hq:aH.ok h q ja) (hsm:smR q.Register) (hov:okV q.Register.Versions) (hod:0≤q.doc.At∧q.doc.At≤1099511627776):je Tryz.prog 29 [.agg (aH.cells q ja).toArray] h (fun v h'=>∃ (rv0:Value),v=rv0∧Itr Tryz.prog rv0 yz (az q) h'):=by
 refine ae Tryz.func29 U Tryz.ntmps29 U fun X hM hX=>?_
 have hs0:az q=az q:=rfl
 have hm1:=gr (mput (mput ([]:List (Int×Bool)) 0 true) q.doc.At true) q.doc.Until true
 have hm2:=gr (mput ([]:List (Int×Bool)) 0 true) q.doc.At true
 have hm3:=gr ([]:List (Int×Bool)) 0 true
 have hs1:=hsm.2.1
 have hs2:=hsm.2.2.2.1
 have hs3:=hov.1
 simp only [List.length_nil] at hm3
 refine sr (dt (fun b1=>qO 3 U ?_))
 let z1:Nat×Obj:=(b1,O (aH.cells q ja) 77)
 refine AY (ι:=Nat×Obj) (fun i=>[(1,Q b1),(3,.map (some i.1))]) (fun i=>[(i.1,i.2),z1]) (fun i=>gC (Value.int .i64) gY h i.2 (mput (mput (mput ([]) 0 true) q.doc.At true) q.doc.Until true)) ?_ (fun hk1=>?_)
 rotate_left
 ·refine fd ([z1]) mixed kr jn (fun dU _=>?_)
  refine tf 2 U U (fun _ _ _=>dx mH U) (tf 3 U U (fun _ _ _=>dx nf U) (tf 4 U U (fun _ _ hj=>gH ty3 U (hj.nth (i:=0) U) U) ?_))
  refine tf 6 U U (fun _ _ _=>dx mH U) (tf 7 U U (fun _ _ _=>dx s9 U) (tf 8 U U (fun _ _ hj=>gH ty3 U (hj.nth (i:=0) U) U) ?_))
  refine tn 0 U (oZ (fun b3=>⟨jn,?_⟩))
  refine Ha 1 5 9 kr U U U ?_ ?_ ?_ 
  ·refine iA 0 (k:=0) (x:=true) lg (eO kK) U (gC.nil (enc:=(Value.int .i64)) (V:=gY) (h:=h)) U U U (fun mo2 hm2=>⟨jn,?_⟩)
   refine kh 5 9 kr U U ?_ ?_ 
   ·refine iA 0 (k:=q.doc.At) (x:=true) lg (eO kK) U hm2 U U U (fun mo3 hm3=>⟨jn,?_⟩)
    refine tn 9 U (iA 0 (k:=q.doc.Until) (x:=true) lg (eO kK) U hm3 U U U (fun mo4 hm4=>⟨jn,(qA [10,11] U (bv kr ?_))⟩))
    exact hk1 (b3,mo4) _ hm4 rd
   ·refine iA 0 (k:=q.doc.Until) (x:=true) lg (eO kK) U hm2 U U U (fun mo5 hm5=>⟨jn,?_⟩)
    refine tn 5 U (iA 0 (k:=q.doc.At) (x:=true) lg (eO kK) U hm5 U U U (fun mo6 hm6=>⟨jn,(qA [10,11] U (bv kr ?_))⟩))
    exact hk1 (b3,mo6) _ (gC.perm hm6 (ox true (p132 0 q.doc.At q.doc.Until) List.nodup_nil)) rd
  ·refine iA 0 (k:=q.doc.At) (x:=true) lg (eO kK) U (gC.nil (enc:=(Value.int .i64)) (V:=gY) (h:=h)) U U U (fun mo7 hm7=>⟨jn,?_⟩)
   refine kh 1 9 kr U U ?_ ?_ 
   ·refine iA 0 (k:=0) (x:=true) lg (eO kK) U hm7 U U U (fun mo8 hm8=>⟨jn,?_⟩)
    refine tn 9 U (iA 0 (k:=q.doc.Until) (x:=true) lg (eO kK) U hm8 U U U (fun mo9 hm9=>⟨jn,(qA [10,11] U (bv kr ?_))⟩))
    exact hk1 (b3,mo9) _ (gC.perm hm9 (ox true (p213 0 q.doc.At q.doc.Until) List.nodup_nil)) rd
   ·refine iA 0 (k:=q.doc.Until) (x:=true) lg (eO kK) U hm7 U U U (fun mo10 hm10=>⟨jn,?_⟩)
    refine tn 1 U (iA 0 (k:=0) (x:=true) lg (eO kK) U hm10 U U U (fun mo11 hm11=>⟨jn,(qA [10,11] U (bv kr ?_))⟩))
    exact hk1 (b3,mo11) _ (gC.perm hm11 (ox true (p231 0 q.doc.At q.doc.Until) List.nodup_nil)) rd
  ·refine iA 0 (k:=q.doc.Until) (x:=true) lg (eO kK) U (gC.nil (enc:=(Value.int .i64)) (V:=gY) (h:=h)) U U U (fun mo12 hm12=>⟨jn,?_⟩)
   refine kh 1 5 kr U U ?_ ?_ 
   ·refine iA 0 (k:=0) (x:=true) lg (eO kK) U hm12 U U U (fun mo13 hm13=>⟨jn,?_⟩)
    refine tn 5 U (iA 0 (k:=q.doc.At) (x:=true) lg (eO kK) U hm13 U U U (fun mo14 hm14=>⟨jn,(qA [10,11] U (bv kr ?_))⟩))
    exact hk1 (b3,mo14) _ (gC.perm hm14 (ox true (p312 0 q.doc.At q.doc.Until) List.nodup_nil)) rd
   ·refine iA 0 (k:=q.doc.At) (x:=true) lg (eO kK) U hm12 U U U (fun mo15 hm15=>⟨jn,?_⟩)
    refine tn 1 U (iA 0 (k:=0) (x:=true) lg (eO kK) U hm15 U U U (fun mo16 hm16=>⟨jn,(qA [10,11] U (bv kr ?_))⟩))
    exact hk1 (b3,mo16) _ (gC.perm hm16 (ox true (p321 0 q.doc.At q.doc.Until) List.nodup_nil)) rd
 rintro ⟨b2,mo1⟩ hm1 e
 try dsimp only at hm1
 refine qT 3 U (aj qW U (aj qZ U (aI 1 ty22 U U U (a8 nB U (qO 2 U ?_)))))
 refine aU (ι:=Nat×(List (Int×Bool))×Obj) (fun i=>[(1,Q b1),(3,.map (some b2))]) (fun i=>h) (fun i=>[(b2,i.2.2),z1]) (fun i=>i.1≤q.Register.Appoints.length∧az q=((az.K1 q) i.2.1)∧gC (Value.int .i64) gY h i.2.2 i.2.1∧i.2.1.length≤(mput (mput (mput ([]) 0 true) q.doc.At true) q.doc.Until true).length+i.1) ?_ (fun hx1=>?_)
 ·rintro ⟨i1,dw,jc⟩ ⟨aP,hs1,fH,jJ⟩ e
  try dsimp only at aP fH jJ
  refine qT 3 U (aj qW U (aj tb U (aI 1 ty24 U U U (a8 kS U (qO 2 U ?_)))))
  refine aU (ι:=Nat×(List (Int×Bool))×Obj) (fun i=>[(1,Q b1),(3,.map (some b2))]) (fun i=>h) (fun i=>[(b2,i.2.2),z1]) (fun i=>i.1≤q.Register.Interests.length∧az q=((az.K2 q) i.2.1)∧gC (Value.int .i64) gY h i.2.2 i.2.1∧i.2.1.length≤dw.length+i.1) ?_ (fun hx2=>?_)
  ·rintro ⟨i2,jU,yM⟩ ⟨jq,hs2,pZ,yN⟩ e
   try dsimp only at jq pZ yN
   refine qT 3 U (aj qW U (aj lV U (aI 1 ty26 U U U (a8 iN U (qO 2 U ?_)))))
   refine aU (ι:=Nat×(List (Int×Bool))×Obj) (fun i=>[(3,.map (some b2))]) (fun i=>h) (fun i=>[(b2,i.2.2),z1]) (fun i=>i.1≤q.Register.Versions.length∧az q=((az.K3) i.2.1)∧gC (Value.int .i64) gY h i.2.2 i.2.1∧i.2.1.length≤jU.length+17 * i.1) ?_ (fun hx3=>?_)
   ·rintro ⟨i3,iP,Di⟩ ⟨nU,hs3,pY,yJ⟩ e
    try dsimp only at nU pY yJ
    refine qT 3 U (bX 0 U hM (fun h1 hle1 hb1=>?_))
    have mc1:oR (Value.int .i64) gY h1 b2 iP:=⟨_,hb1,pY.mono gY.mono hle1⟩
    refine aN (cy Tryz.call61 (pq h1 iP b2 mc1) U (fun v1 h2 hle2 hp1=>aN (cy Tryz.call60 (lD h2 v1 (iP.map Prod.fst) hp1 (by rw [List.length_map];omega)) U (fun v2 h3 hle3 hp2=>?_))))
    obtain ⟨rb1,rc1,rfl,sl1⟩:=hp2
    refine bR zc31 (fun b17=>dS 0 ty31 U U U U U U (qO 3 U (bX 0 U hM (fun h4 hle4 hb2=>aN (gg U U (an ?_))))))
    have hs4:az q=(aS (sortI (iP.map Prod.fst))):=hs3
    exact cJ [.func (.func 62) #[] #[Q b17]] Tryz.func29 U rd ⟨(.func (.func 62) #[] #[Q b17]),congrArg (fun r:(List Span)=>((.func (.func 62) #[] #[Q b17]):Value)) hs4.symm,(by rw [hs4];exact (oX h4 (sortI (iP.map Prod.fst)) rb1 rc1 ⟨b17,0,none⟩ (sl1.mono Rp.bi hle4) (dN hb2)))⟩
   ·refine bG (ι:=Nat×(List (Int×Bool))×Obj×List Version) (fun i=>[(1,Q b1),(3,.map (some b2)),(47,.slice ja.Register.ig q.Register.Versions.length ja.Register.ie),(48,I ((q.Register.Versions.length:Nat):Int)),(49,I ((i.1:Nat):Int))]) (fun i=>h) (fun i=>[(b2,i.2.2.1),z1]) (fun i=>q.Register.Versions.drop i.1=i.2.2.2∧i.1≤q.Register.Versions.length∧az q=((az.L3 q (az.K3)) i.2.2.2 i.2.1)∧gC (Value.int .i64) gY h i.2.2.1 i.2.1∧i.2.1.length≤jU.length+17 * i.1) (fun i=>i.2.2.2.length) (0,jU,yM,q.Register.Versions) rd sw ⟨U,Nat.zero_le _,hs2,pZ,lc⟩ ?_
    rintro ⟨i3,iP,Di,s3⟩ ⟨hd3,nU,hs5,pY,yJ⟩ ag1 e
    try dsimp only at hd3 nU pY yJ
    rcases s3 with _ | ⟨y3,rz3⟩
    ·have BB:=cw hd3
     refine sr (ai (v':=.bool false) U (cb BB) (qO 4 U ?_))
     exact hx3 (i3,iP,Di) _ ⟨nU,hs5,pY,lc⟩ rd
    ·have BA:=dy hd3
     have rm:=cA hd3
     have FB:=aE hd3
     have I2:=hq.Register.Versions.1.1
     have hml:=gr iP y3.At true
     have hvr:=(hov.2 y3 (gx hd3)).1
     refine sr (ai (v':=.bool true) U (cb BA) (qO 8 U (aN (fF iN ty70 hq.Register.Versions.1 (nthZ rm) (aV rm) U U U (fun q14 cs9 A14 ln9 rr9=>?_)))))
     obtain ⟨r9,rfl,ok9⟩:=rr9
     refine el ty70 A14 U U (bR zc70 (fun b18=>bL 0 ty70 U U U U U U (qO 4 U (aj j8 U (aI 0 ty3 U U U (aN (ki 1 (k:=y3.At) (x:=true) lg (eO kK) U pY U U U (fun mo30 hm30=>(qO 3 U (aj pt U (aj fj U (aI 0 ty63 U U U (a8 jR U (qO 2 U ?_))))))))))))))
     let z2:Nat×Obj:=(b18,O (Version.cells y3 r9) 70)
     refine aU (ι:=Nat×(List (Int×Bool))×Obj) (fun i=>[(1,Q b1),(3,.map (some b2)),(47,.slice ja.Register.ig q.Register.Versions.length ja.Register.ie),(48,I ((q.Register.Versions.length:Nat):Int)),(49,I ((i3:Nat):Int))]) (fun i=>h) (fun i=>[z2,(b2,i.2.2),z1]) (fun i=>i.1≤y3.Policy.Rules.length∧az q=((fun zg5_b2_0=>(az.L3 q (az.K3) rz3 zg5_b2_0)) i.2.1)∧gC (Value.int .i64) gY h i.2.2 i.2.1∧i.2.1.length≤(mput iP y3.At true).length+i.1) ?_ (fun hx5=>?_)
     ·rintro ⟨i5,jj,lO⟩ ⟨De,hs7,kq,oE⟩ e
      try dsimp only at De kq oE
      refine qT 2 U (ai (v':=I (((i3+1):Nat):Int)) U (bz ob) (qO 2 U ?_))
      refine cG (L':=[(b2,lO),z1]) js ?_
      exact ag1 ((i3+1),jj,lO,rz3) _ (Nat.lt_succ_self _) ⟨ba hd3,aE hd3,hs7,kq,lc⟩ rd
     ·refine bG (ι:=Nat×(List (Int×Bool))×Obj×List Rule) (fun i=>[(1,Q b1),(3,.map (some b2)),(47,.slice ja.Register.ig q.Register.Versions.length ja.Register.ie),(48,I ((q.Register.Versions.length:Nat):Int)),(49,I ((i3:Nat):Int)),(58,.slice r9.Policy.kc y3.Policy.Rules.length r9.Policy.kb),(59,I ((y3.Policy.Rules.length:Nat):Int)),(60,I ((i.1:Nat):Int))]) (fun i=>h) (fun i=>[z2,(b2,i.2.2.1),z1]) (fun i=>y3.Policy.Rules.drop i.1=i.2.2.2∧i.1≤y3.Policy.Rules.length∧az q=((az.L5 q (fun zg5_b2_0=>(az.L3 q (az.K3) rz3 zg5_b2_0))) i.2.2.2 i.2.1)∧gC (Value.int .i64) gY h i.2.2.1 i.2.1∧i.2.1.length≤(mput iP y3.At true).length+i.1) (fun i=>i.2.2.2.length) (0,(mput iP y3.At true),mo30,y3.Policy.Rules) rd sw ⟨U,Nat.zero_le _,hs5,hm30,(by have:=gr iP y3.At true;first | omega | (simp only [List.length_nil,List.length_cons] at *;omega))⟩ ?_
      rintro ⟨i5,jj,lO,s5⟩ ⟨hd5,vX,hs8,kq,oE⟩ ag2 e
      try dsimp only at hd5 vX kq oE
      rcases s5 with _ | ⟨y5,rz5⟩
      ·have EN:=cw hd5
       refine sr (ai (v':=.bool false) U (cb EN) (qO 4 U ?_))
       exact hx5 (i5,jj,lO) _ ⟨vX,hs8,kq,lc⟩ rd
      ·have EM:=dy hd5
       have yE:=cA hd5
       have HK:=aE hd5
       have JM:=ok9.Policy.Rules.1.1
       have hth:=(hov.2 y3 (gx hd3)).2 y5 (gx hd5)
       refine sr (ai (v':=.bool true) U (cb EM) (qO 8 U (aN (fF jR ty107 ok9.Policy.Rules.1 (nthZ yE) (aV yE) U U U (fun q16 cs11 A16 ln11 rr11=>?_)))))
       obtain ⟨r11,rfl,ok11⟩:=rr11
       refine el ty107 A16 U U (bR zc107 (fun b20=>bL 0 ty107 U U U U U U (qO 3 U (aj mH U (aj nf U (aI 3 ty3 U U U (aj oL U (aI 0 ty3 U U U (ai (v':=I (q.doc.At+y5.Think)) U (im ob) ?_)))))))))
       refine aN (ki 2 (k:=(q.doc.At+y5.Think)) (x:=true) lg (eO kK) U kq U U U (fun mo32 hm32=>qO 3 U (ai (v':=I (((i5+1):Nat):Int)) U (bz ob) (qO 2 U ?_))))
       refine cG (L':=[z2,(b2,mo32),z1]) js ?_
       exact ag2 ((i5+1),(mput jj (q.doc.At+y5.Think) true),mo32,rz5) _ (Nat.lt_succ_self _) ⟨ba hd5,aE hd5,hs8,hm32,(by have:=gr jj (q.doc.At+y5.Think) true;first | omega | (simp only [List.length_nil,List.length_cons] at *;omega))⟩ rd
  ·refine bG (ι:=Nat×(List (Int×Bool))×Obj×List Interest) (fun i=>[(1,Q b1),(3,.map (some b2)),(35,.slice ja.Register.jz q.Register.Interests.length ja.Register.jy),(36,I ((q.Register.Interests.length:Nat):Int)),(37,I ((i.1:Nat):Int))]) (fun i=>h) (fun i=>[(b2,i.2.2.1),z1]) (fun i=>q.Register.Interests.drop i.1=i.2.2.2∧i.1≤q.Register.Interests.length∧az q=((az.L2 (az.K2 q)) i.2.2.2 i.2.1)∧gC (Value.int .i64) gY h i.2.2.1 i.2.1∧i.2.1.length≤dw.length+i.1) (fun i=>i.2.2.2.length) (0,dw,jc,q.Register.Interests) rd sw ⟨U,Nat.zero_le _,hs1,fH,lc⟩ ?_
   rintro ⟨i2,jU,yM,s2⟩ ⟨hd2,jq,hs10,pZ,yN⟩ ag3 e
   try dsimp only at hd2 jq pZ yN
   rcases s2 with _ | ⟨y2,rz2⟩
   ·have sD:=cw hd2
    refine sr (ai (v':=.bool false) U (cb sD) (qO 4 U ?_))
    exact hx2 (i2,jU,yM) _ ⟨jq,hs10,pZ,lc⟩ rd
   ·have pW:=dy hd2
    have jL:=cA hd2
    have wH:=aE hd2
    have Df:=hq.Register.Interests.1.1
    refine sr (ai (v':=.bool true) U (cb pW) (qO 8 U (aN (eU (enc:=Interest.cells) (fun _ _ _ e=>e) kS ty61 hq.Register.Interests.1 (nthZ jL) (aV jL) U U U (fun q17 A17=>?_)))))
    refine el ty61 A17 U U (bR zc61 (fun b21=>bL 0 ty61 U U U U U U (qO 3 U (aj sY U (aI 0 ty3 U U U (aN (ki 1 (k:=y2.At) (x:=true) lg (eO kK) U pZ U U U (fun mo33 hm33=>(qO 3 U (ai (v':=I (((i2+1):Nat):Int)) U (bz ob) (qO 2 U ?_)))))))))))
    refine cG (L':=[(b2,mo33),z1]) js ?_
    exact ag3 ((i2+1),(mput jU y2.At true),mo33,rz2) _ (Nat.lt_succ_self _) ⟨ba hd2,aE hd2,hs10,hm33,(by have:=gr jU y2.At true;first | omega | (simp only [List.length_nil,List.length_cons] at *;omega))⟩ rd
 ·refine bG (ι:=Nat×(List (Int×Bool))×Obj×List Appoint) (fun i=>[(1,Q b1),(3,.map (some b2)),(23,.slice ja.Register.iJ q.Register.Appoints.length ja.Register.iI),(24,I ((q.Register.Appoints.length:Nat):Int)),(25,I ((i.1:Nat):Int))]) (fun i=>h) (fun i=>[(b2,i.2.2.1),z1]) (fun i=>q.Register.Appoints.drop i.1=i.2.2.2∧i.1≤q.Register.Appoints.length∧az q=((az.L1 (az.K1 q)) i.2.2.2 i.2.1)∧gC (Value.int .i64) gY h i.2.2.1 i.2.1∧i.2.1.length≤(mput (mput (mput ([]) 0 true) q.doc.At true) q.doc.Until true).length+i.1) (fun i=>i.2.2.2.length) (0,(mput (mput (mput ([]) 0 true) q.doc.At true) q.doc.Until true),mo1,q.Register.Appoints) rd sw ⟨U,Nat.zero_le _,hs0,hm1,(by have:=gr (mput (mput ([]) 0 true) q.doc.At true) q.doc.Until true;have:=gr (mput ([]) 0 true) q.doc.At true;have:=gr ([]) 0 true;first | omega | (simp only [List.length_nil,List.length_cons] at *;omega))⟩ ?_
  rintro ⟨i1,dw,jc,s1⟩ ⟨hd1,aP,hs12,fH,jJ⟩ ag4 e
  try dsimp only at hd1 aP fH jJ
  rcases s1 with _ | ⟨y1,rz1⟩
  ·have dr:=cw hd1
   refine sr (ai (v':=.bool false) U (cb dr) (qO 4 U ?_))
   exact hx1 (i1,dw,jc) _ ⟨aP,hs12,fH,lc⟩ rd
  ·have dq:=dy hd1
   have aM:=cA hd1
   have ey:=aE hd1
   have gi:=hq.Register.Appoints.1.1
   refine sr (ai (v':=.bool true) U (cb dq) (qO 8 U (aN (eU (enc:=Appoint.cells) (fun _ _ _ e=>e) nB ty59 hq.Register.Appoints.1 (nthZ aM) (aV aM) U U U (fun q18 A18=>?_)))))
   refine el ty59 A18 U U (bR zc59 (fun b22=>bL 0 ty59 U U U U U U (qO 3 U (aj nd U (aI 0 ty3 U U U (aN (ki 1 (k:=y1.At) (x:=true) lg (eO kK) U fH U U U (fun mo34 hm34=>(qO 3 U (ai (v':=I (((i1+1):Nat):Int)) U (bz ob) (qO 2 U ?_)))))))))))
   refine cG (L':=[(b2,mo34),z1]) js ?_
   exact ag4 ((i1+1),(mput dw y1.At true),mo34,rz1) _ (Nat.lt_succ_self _) ⟨ba hd1,aE hd1,hs12,hm34,(by have:=gr dw y1.At true;first | omega | (simp only [List.length_nil,List.length_cons] at *;omega))⟩ rd
theorem po (h:HF) (who:(List Int)) (fo:Option Addr) (fm:Nat) (hwho:SlC Rp.int h fo fm who):Ret Tryz.prog 96 [.slice fo who.length fm] h (.bool (de who)):=by
 refine ae Tryz.func96 U Tryz.ntmps96 U fun X hM hX=>?_
 have hs0:de who=de who:=rfl
 refine qT 12 U (a8 cN U (qO 2 U ?_))
 refine aU (ι:=Nat×Int) (fun i=>[]) (fun i=>h) (fun i=>[]) (fun i=>i.1≤who.length∧de who=((de.K1) i.2)) ?_ (fun hx1=>?_)
 ·rintro ⟨i1,fW⟩ ⟨aP,hs1⟩ e
  try dsimp only at aP
  refine qT 4 U ?_
  exact ah [.bool true] Tryz.func96 U hX rd (cs hs1)
 ·refine bG (ι:=Nat×Int×List Int) (fun i=>[(3,I i.2.1),(6,.slice fo who.length fm),(7,I ((who.length:Nat):Int)),(8,I ((i.1:Nat):Int))]) (fun i=>h) (fun i=>[]) (fun i=>who.drop i.1=i.2.2∧i.1≤who.length∧de who=((de.L1 (de.K1)) i.2.2 i.2.1)) (fun i=>i.2.2.length) (0,(-1),who) rd sw ⟨U,Nat.zero_le _,hs0⟩ ?_
  rintro ⟨i1,fW,s1⟩ ⟨hd1,aP,hs3⟩ ag1 e
  try dsimp only at hd1 aP
  rcases s1 with _ | ⟨y1,rz1⟩
  ·have dr:=cw hd1
   refine sr (ai (v':=.bool false) U (cb dr) (qO 4 U ?_))
   exact hx1 (i1,fW) _ ⟨aP,hs3⟩ trivial
  ·have dq:=dy hd1
   have aM:=cA hd1
   have ey:=aE hd1
   have gi:=hwho.1.1
   refine sr (ai (v':=.bool true) U (cb dq) (qO 8 U (aN (eU (enc:=fun y=>[I y]) (fun _ _ _ e=>e) cN ty3 hwho.1 (nthZ aM) (aV aM) U U U (fun q2 A2=>?_)))))
   refine dv ty3 A2 U (qO 9 U ?_)
   refine ar 3 [15,16,17,18] 18 (.bool (decide (y1≤fW)||decide (64≤y1))) (fun hk1=>?_) (fun e=>?_)
   ·refine ac 15 U (fun c1=>?_) (fun c1=>?_)
    ·refine qO 3 U ?_
     exact hk1 _ (cb (dW c1))
    ·refine qO 3 U ?_
     exact hk1 _ (cb (dX c1))
   refine bh ?_
   refine ak hs3 U (fun c2 hs5=>?_) (fun c2 hs6=>?_)
   ·refine qT 4 U ?_
    exact ah [.bool false] Tryz.func96 U hX rd (cs hs5)
   ·refine qT 7 U (ai (v':=I (((i1+1):Nat):Int)) U (bz ob) (qO 2 U ?_))
    exact ag1 ((i1+1),y1,rz1) _ (Nat.lt_succ_self _) ⟨ba hd1,aE hd1,hs6⟩ rd
theorem vM (h:HF) (holders:(List (List Holder))) (gQ:Option Addr) (gP:Nat) (offices:Int) (hholders:SlC (Rp.sl Holder.rp) h gQ gP holders) (hsz0:∀ y∈holders,y.length≤2000000):Ret Tryz.prog 95 [.slice gQ holders.length gP,I offices] h (.bool (cM holders offices)):=by
 refine ae Gy U Tryz.ntmps95 U fun X hM hX=>?_
 have hs0:cM holders offices=cM holders offices:=rfl
 refine qT 8 U (a8 xA U (qO 2 U ?_))
 refine aU (ι:=Nat×HF) (fun i=>[(0,.slice gQ holders.length gP),(1,I offices)]) (fun i=>i.2) (fun i=>[]) (fun i=>i.1≤holders.length∧cM holders offices=((cM.K1 holders offices))∧HF.le h i.2) ?_ (fun hx1=>?_)
 ·rintro ⟨i1,hh1⟩ ⟨aP,hs1,hl1⟩ e
  try dsimp only at aP hl1
  refine qT 3 U (a8 xA U (qO 4 U ?_))
  exact ah [.bool (((holders.length:Nat):Int)==offices)] Gy U hX rd (cs hs1)
 ·refine bG (ι:=Nat×HF×List (List Holder)) (fun i=>[(0,.slice gQ holders.length gP),(1,I offices),(10,.slice gQ holders.length gP),(11,I ((holders.length:Nat):Int)),(12,I ((i.1:Nat):Int))]) (fun i=>i.2.1) (fun i=>[]) (fun i=>holders.drop i.1=i.2.2∧i.1≤holders.length∧cM holders offices=((cM.L1 (cM.K1 holders offices)) i.2.2 )∧HF.le h i.2.1) (fun i=>i.2.2.length) (0,h,holders) rd sw ⟨U,Nat.zero_le _,hs0,(HF.le_refl h)⟩ ?_
  rintro ⟨i1,hh1,s1⟩ ⟨hd1,aP,hs3,hl1⟩ ag1 e
  try dsimp only at hd1 aP hl1
  rcases s1 with _ | ⟨y1,rz1⟩
  ·have dr:=cw hd1
   refine sr (ai (v':=.bool false) U (cb dr) (qO 4 U ?_))
   exact hx1 (i1,hh1) _ ⟨aP,hs3,hl1⟩ rd
  ·have dq:=dy hd1
   have aM:=cA hd1
   have ey:=aE hd1
   have gi:=hholders.1.1
   have hszy:=hsz0 y1 (gx hd1)
   refine sr (ai (v':=.bool true) U (cb dq) (qO 8 U (aN (fF xA ty101 (hholders.mono (Rp.sQ Holder.aD) hl1).1 (nthZ aM) (aV aM) U U U (fun q3 cs2 A3 ln2 rr2=>?_)))))
   obtain ⟨rb2,rc2,rfl,sl2⟩:=rr2
   refine dv ty101 A3 U (qO 10 U (a8 nh U (qO 2 U ?_)))
   refine aU (ι:=Nat×(List Int)×Option Addr×Nat×LH) (fun i=>[(0,.slice gQ holders.length gP),(1,I offices),(7,.slice i.2.2.1 i.2.1.length i.2.2.2.1),(10,.slice gQ holders.length gP),(11,I ((holders.length:Nat):Int)),(12,I ((i1:Nat):Int))]) (fun i=>hh1) (fun i=>i.2.2.2.2) (fun i=>i.1≤y1.length∧cM holders offices=((fun zg3_7=>(bif (!(de zg3_7)) then false else (cM.L1 (cM.K1 holders offices) rz1 ))) i.2.1)∧eb Rp.int 3 hh1 i.2.1 i.2.2.1 i.2.2.2.1 i.2.2.2.2∧i.2.1.length≤0+i.1) ?_ (fun hx3=>?_)
   ·rintro ⟨i3,BD,HQ,HP,FF⟩ ⟨jq,hs5,AL,HO⟩ e
    try dsimp only at jq AL HO
    refine qT 3 U (qu Rp.bi ([]) FF ([]) ap hM AL (fun h1 hle1 sl3=>au (v:=.bool (de BD)) Tryz.call96 (po h1 BD HQ HP sl3) U (qO 2 U ?_)))
    refine ak hs5 U (fun c2 hs6=>?_) (fun c2 hs7=>?_)
    ·refine qT 4 U ?_
     exact ah [.bool false] Gy U hX rd (cs hs6)
    ·refine qT 3 U (ai (v':=I (((i1+1):Nat):Int)) U (bz ob) (qO 2 U ?_))
     exact ag1 ((i1+1),h1,rz1) _ (Nat.lt_succ_self _) ⟨ba hd1,aE hd1,hs7,(hl1.t hle1)⟩ rd
   ·refine bG (ι:=Nat×(List Int)×Option Addr×Nat×LH×List Holder) (fun i=>[(0,.slice gQ holders.length gP),(1,I offices),(7,.slice i.2.2.1 i.2.1.length i.2.2.2.1),(10,.slice gQ holders.length gP),(11,I ((holders.length:Nat):Int)),(12,I ((i1:Nat):Int)),(16,.slice rb2 y1.length rc2),(17,I ((y1.length:Nat):Int)),(18,I ((i.1:Nat):Int))]) (fun i=>hh1) (fun i=>i.2.2.2.2.1) (fun i=>y1.drop i.1=i.2.2.2.2.2∧i.1≤y1.length∧cM holders offices=((cM.L3 (fun zg3_7=>(bif (!(de zg3_7)) then false else (cM.L1 (cM.K1 holders offices) rz1 )))) i.2.2.2.2.2 i.2.1)∧eb Rp.int 3 hh1 i.2.1 i.2.2.1 i.2.2.2.1 i.2.2.2.2.1∧i.2.1.length≤0+i.1) (fun i=>i.2.2.2.2.2.length) (0,[],none,0,[],y1) rd sw ⟨U,Nat.zero_le _,hs3,eb.nil,lo⟩ ?_
    rintro ⟨i3,BD,HQ,HP,FF,s3⟩ ⟨hd3,nU,hs9,AL,HO⟩ ag2 e
    try dsimp only at hd3 nU AL HO
    rcases s3 with _ | ⟨y3,rz3⟩
    ·have BB:=cw hd3
     refine sr (ai (v':=.bool false) U (cb BB) (qO 4 U ?_))
     exact hx3 (i3,BD,HQ,HP,FF) _ ⟨nU,hs9,AL,lo⟩ rd
    ·have BA:=dy hd3
     have rm:=cA hd3
     have FB:=aE hd3
     have I2:=sl2.1.1
     refine sr (ai (v':=.bool true) U (cb BA) (qO 8 U (aN (eU (enc:=Holder.cells) (fun _ _ _ e=>e) nh ty133 sl2.1 (nthZ rm) (aV rm) U U U (fun q5 A5=>?_)))))
     refine el ty133 A5 U U (bR zc133 (fun b3=>bL 0 ty133 U U U U U U (iT (L':=[(b3,O (Holder.cells y3) 133)]++(FF)) U (qO 4 U (aj zg U (aI 0 ty3 U U U (qO 2 U ?_)))))))
     refine ar 4 [25,26,27,28,29] 29 (.bool (decide (y3.Weight < 1)||decide (64 < y3.Weight))) (fun hk1=>?_) (fun e=>?_)
     ·refine ac 25 U (fun c3=>?_) (fun c3=>?_)
      ·refine qO 4 U ?_
       exact hk1 _ (cb (dW c3))
      ·refine aj zg U (aI 0 ty3 U U U (qO 2 U ?_))
       exact hk1 _ (cb (dX c3))
     refine bh ?_
     refine ak hs9 U (fun c4 hs11=>?_) (fun c4 hs12=>?_)
     ·refine qT 4 U ?_
      exact ah [.bool false] Gy U hX rd (cs hs11)
     ·refine qT 3 U (aj oK U (aI 0 ty3 U U U (aN (bK (cells:=[I y3.Person]) cN ty3 zc3 U U kr (fun b4=>aN (db Rp.fp ([(b4,O [I y3.Person] 3),(b3,O (Holder.cells y3) 133)]) ([]) (fun G=>[(b4,O [I y3.Person] 3),(b3,O (Holder.cells y3) 133)]++(G)) ap (fun _=>ap) cN ty3 zc3 U bytes3 AL U U (eI 0 U (show bD Rp.int hh1 [I y3.Person] ([y3.Person]) from ⟨[I y3.Person],[],U,U,U,U⟩)) lo lo (fun ob1 oc1 G1 gr1=>(qO 4 U (ai (v':=I (((i3+1):Nat):Int)) U (bz ob) (qO 2 U ?_))))))))))
      refine cG (L':=G1) js ?_
      exact ag2 ((i3+1),(BD++[y3.Person]),ob1,oc1,G1,rz3) _ (Nat.lt_succ_self _) ⟨ba hd3,aE hd3,hs12,gr1,lo⟩ rd
end Go.Sg
namespace Go.Sg
open Go.Proofs
theorem BX (h:HF) (x:Holder) (s:Int) (bk:Nat):oP Tryz.prog 223 [.agg (Holder.cells x).toArray,.pointer (some ⟨bk,0,none⟩)].toArray h [(bk,Obj.cells (List.toArray [.int .i64 s]) 3 (0,0))]
  (fun r h' B=>r=.returned (.tuple #[])∧h'=h∧B=[(bk,Obj.cells (List.toArray [.int .i64 (IntKind.wrap .i64 (s+x.Weight))]) 3 (0,0))]):=by
 refine ae Tryz.func223 rfl Tryz.ntmps223 rfl fun X hM hX=>?_
 refine em (bU (dt (fun b2=>bh (bU (aI 1 ty3 rfl rfl rfl (aj zg rfl (aI 0 ty3 rfl rfl rfl (HA rfl (dS 1 ty3 rfl rfl rfl rfl rfl rfl (bh ?_))))))))))
 exact vB Tryz.func223 (fun a _ w _=>kM rfl a w) (fun w hw=>hw.sub (List.sublist_cons_self _ _)) ⟨rfl,rfl,rfl⟩
end Go.Sg
namespace Go.Sg
open Go.Proofs
set_option maxHeartbeats 2000000
theorem nQ (h:HF) (q:bg) (ja:gy) (q_q:Addr) (office:Int) (office_q:Addr) (hq:bg.ok h q ja) (aq:At h q_q (bg.cells q ja)) (aoffice:At h office_q [I office]) (hno:0≤office∧office < (q.holders.length:Int)) (hso:q.who.Pairwise (·≤·)) (hsw:q.who.length≤2000000):Itr Tryz.prog (.func (.func 248) #[] (List.toArray [.pointer (some q_q),.pointer (some office_q)])) md (bF q office) h:=by
 refine vS Tryz.call248 ?_
 intro yf ya yb C Sp Pn h1 A hle m1 m2 m3 hC hy
 refine jS Gx U Tryz.ntmps248 U fun X hXM hX=>?_
 have hs0:bF q office=[]++bF q office:=rfl
 refine sr (aj H9 U (km (j:=1) ty100 (aq.mono hle) U U (dv ty3 (aoffice.mono hle) U ?_)))
 have ho1:0≤(office:Int)∧(office:Int) < ((q.holders).length:Int):=ob
 refine aN (fF xA ty101 (hq.holders.mono (Rp.sQ Holder.aD) hle).1 ho1 (df ho1) U U U (fun q1 cs1 A1 ln1 rr1=>?_))
 obtain ⟨rb1,rc1,rfl,sl1⟩:=rr1
 refine dv ty101 A1 U (a8 nh U (qO 2 U ?_))
 refine aU (ι:=Nat×List Holder×LH×HF) (fun i=>[]) (fun i=>i.2.2.2) (fun i=>i.2.2.1) (fun i=>i.1≤(nthI q.holders office).length∧bF q office=i.2.1++((bF.K1))∧C i.2.1 i.2.2.2 i.2.2.1∧HF.le h1 i.2.2.2) ?_ (fun hx1=>?_)
 ·rintro ⟨i1,dn1,A1_,hh1⟩ ⟨aP,hs1,hC1_,hl1⟩ e
  try dsimp only at aP hC1_ hl1
  refine gp ?_
  have hs2:bF q office=dn1:=hs1.trans (List.append_nil _)
  exact vT [] (A:=A1_) Gx U (List.Sublist.refl _) (.inl (hs2 ▸ hC1_))
 ·refine bG (ι:=Nat×List Holder×LH×HF×List Holder) (fun i=>[(0,.func yf ya yb),(1,.pointer (some q_q)),(12,.slice rb1 ((nthI q.holders office).length) rc1),(13,I (((nthI q.holders office).length:Nat):Int)),(14,I ((i.1:Nat):Int))]) (fun i=>i.2.2.2.1) (fun i=>i.2.2.1) (fun i=>(nthI q.holders office).drop i.1=i.2.2.2.2∧i.1≤(nthI q.holders office).length∧bF q office=i.2.1++((bF.L1 q (bF.K1)) i.2.2.2.2 )∧C i.2.1 i.2.2.2.1 i.2.2.1∧HF.le h1 i.2.2.2.1) (fun i=>i.2.2.2.2.length) (0,[],A,h1,(nthI q.holders office)) rd sw ⟨U,Nat.zero_le _,hs0,hC,(HF.le_refl h1)⟩ ?_
  rintro ⟨i1,dn1,A1_,hh1,s1⟩ ⟨hd1,aP,hs3,hC1_,hl1⟩ ag1 e
  try dsimp only at hd1 aP hC1_ hl1
  rcases s1 with _ | ⟨y1,rz1⟩
  ·have dr:=cw hd1
   refine sr (ai (v':=.bool false) U (cb dr) (qO 4 U ?_))
   exact hx1 (i1,dn1,A1_,hh1) _ ⟨aP,hs3,hC1_,hl1⟩ trivial
  ·have dq:=dy hd1
   have aM:=cA hd1
   have ey:=aE hd1
   have gi:=sl1.1.1
   refine sr (ai (v':=.bool true) U (cb dq) (qO 8 U (aN (eU (enc:=Holder.cells) (fun _ _ _ e=>e) nh ty133 (sl1.mono Holder.aD hl1).1 (nthZ aM) (aV aM) U U U (fun q3 A6=>?_)))))
   refine el ty133 A6 U U (bR zc133 (fun b2=>bL 0 ty133 U U U U U U (iT (L':=[(b2,O (Holder.cells y1) 133)]++(A1_)) U (qO 3 U (aj H8 U (km (j:=2) ty31 (aq.mono (hle.t hl1)) U U ?_))))))
   refine aj oK U (aI 0 ty3 U U U (au (v:=.tuple #[I ((slices_BinarySearch_int q.who y1.Person).1),.bool ((slices_BinarySearch_int q.who y1.Person).2)]) Tryz.call87 (li hh1 q.who ja.fo ja.fm y1.Person (hq.who.mono Rp.bi (hle.t hl1)) ob ob) U (qO 10 U ?_)))
   refine ac 27 U (fun c2=>?_) (fun c2=>?_)
   ·have hs5:=hs3.trans (congrArg (dn1++·) (bt c2))
    refine aB (dl 0 ty133 U U U ?_)
    have hx2:bF q office=dn1++(y1::(bF.L1 q (bF.K1) rz1 )):=hs5
    refine aN (lS ([(b2,O (Holder.cells y1) 133)]) A1_ ap (hy dn1 y1 _ _ _ _ hx2 hl1 hC1_ U) U U (fun h5 A7 hle4 hC2=>?_) (fun h6 A8 hle5 hS2=>?_) (fun ch2 h7 A9 hle6 hP2 e=>i6 (qM [] (A:=A9) Gx (List.sublist_append_right _ _) hP2)))
    ·have hs6:bF q office=(dn1++[y1])++((bF.L1 q (bF.K1) rz1 )):=hx2.trans ap
     refine qO 7 U (ai (v':=I (((i1+1):Nat):Int)) U (bz ob) (qO 2 U ?_))
     refine cG (L':=A7) js ?_
     exact ag1 ((i1+1),(dn1++[y1]),A7,h5,rz1) _ (Nat.lt_succ_self _) ⟨ba hd1,aE hd1,hs6,hC2,(hl1.t hle4)⟩ rd
    ·refine qO 4 U ?_
     refine gp ?_
     exact qL [] (A:=A8) Gx U js (.inr hS2)
   ·have hs7:=hs3.trans (congrArg (dn1++·) (bf c2))
    refine qO 10 U (ai (v':=I (((i1+1):Nat):Int)) U (bz ob) (qO 2 U ?_))
    refine cG (L':=A1_) js ?_
    exact ag1 ((i1+1),dn1,A1_,hh1,rz1) _ (Nat.lt_succ_self _) ⟨ba hd1,aE hd1,hs7,hC1_,hl1⟩ rd
theorem lz (h:HF) (q:bg) (ja:gy) (office:Int) (hq:bg.ok h q ja) (hno:0≤office∧office < (q.holders.length:Int)) (hso:q.who.Pairwise (·≤·)) (hsw:q.who.length≤2000000):je Tryz.prog 222 [.agg (bg.cells q ja).toArray,I office] h (fun v h'=>∃ (rv0:Value),v=rv0∧Itr Tryz.prog rv0 md (dF q office) h'):=by
 refine ae Tryz.func222 U Tryz.ntmps222 U fun X hM hX=>?_
 have hs0:dF q office=dF q office:=rfl
 refine sr (dt (fun b1=>dt (fun b2=>qO 4 U (bX 1 U hM (fun h1 hle1 hb1=>bX 0 U hM (fun h2 hle2 hb2=>aN (gg U U (an ?_))))))))
 have hs1:dF q office=(bF q office):=hs0
 exact cJ [.func (.func 248) #[] #[Q b1,Q b2]] Tryz.func222 U rd ⟨(.func (.func 248) #[] #[Q b1,Q b2]),congrArg (fun r:(List Holder)=>((.func (.func 248) #[] #[Q b1,Q b2]):Value)) hs1.symm,(by rw [hs1];exact (nQ h2 q ja ⟨b1,0,none⟩ office ⟨b2,0,none⟩ (hq.mono (hle1.t hle2)) ((dN hb1).mono hle2) (dN hb2) ob ob ob))⟩
theorem pD (h:HF) (q:bg) (ja:gy) (x:Expr) (fb:cE) (hq:bg.ok h q ja) (hx:Expr.ok h x fb) (hno:0≤x.No∧x.No < (q.holders.length:Int)) (hso:q.who.Pairwise (·≤·)) (hsw:q.who.length≤2000000):Ret Tryz.prog 160 [.agg (bg.cells q ja).toArray,.agg (Expr.cells x fb).toArray] h (.bool (dD q x)):=by
 refine ae Es U Tryz.ntmps160 U fun X hM hX=>?_
 have hs0:dD q x=dD q x:=rfl
 refine sr (dt (fun b1=>dt (fun b2=>bR zc4 (fun b3=>qO 4 U (dl 2 ty164 U U U (aj na U (aI 1 ty3 U U U (aN (cy Tryz.call222 (lz h q ja x.No hq ob ob ob) U (fun v1 h1 hle1 hp1=>?_))))))))))
 obtain ⟨_,rfl,mo1⟩:=hp1
 refine qO 2 U ?_
 refine gp ?_
 let z1:Nat×Obj:=(b1,O (bg.cells q ja) 164)
 let z2:Nat×Obj:=(b2,O (Expr.cells x fb) 66)
 refine dZ (L':=([(b3,O [.bool false] 4),z2,z1])++markB []) ap ?_
 refine kd (it:=v1) (xs:=(dF q x.No)) (ι:=Bool×HF) [] (fun i=>i.2) (fun i=>[(b3,O [.bool i.1] 4),z2,z1]) (fun s i=>dD q x=((dD.L1 (dD.K1)) s i.1)∧HF.le h1 i.2) (fun i=>dD q x=i.1∧HF.le h1 i.2) (fun _=>False) 0 (fun _ _ _=>False) (false,h1) Es U mo1 U oz (fun _ _ _ _ _ hq=>hq) U (show [(b3,O [.bool false] 4),z2,z1]=_ from U) ⟨hs0,(HF.le_refl h1)⟩ ?_ ?_ ?_ ?_ ?_
 ·rintro l1 dm1 lp1 y1 rz1 vs1 ⟨aQ,hh1⟩ hr1 X hFR1 ⟨hs1,hl1⟩ hl01 hlr1 hv1 hX hXM hlp1 nx1 rt1 ex1 pn1
  try dsimp only at hl1 hlr1
  obtain rfl:=hv1
  refine dZ (L':=[(l1,.loop lp1),(dm1,.deferred (some [])),(b3,O [.bool aQ] 4),z2,z1]++(markB [])) ap (e8 (ke 0 U hlp1 (qT 3 U (dS 2 ty4 U U U U U U (bh ?_)))))
  refine dZ (L':=rdH l1 dm1 lp1 (([(b3,O [.bool true] 4),z2,z1])++markB [])) ap ?_
  exact rt1 (true,hr1) _ _ _ ⟨hs1,(hl1.t hlr1)⟩ (HF.le_refl _)
 ·rintro dm1 ⟨aQ,hh1⟩ hn1 ⟨hs2,hl1⟩ hln1 hl01
  try dsimp only at hl1 hln1
  refine dZ (L':=[(b3,O [.bool aQ] 4),z2,z1]++(markB (dm1::[]))) ap (qT 3 U (dS 0 ty4 U U U U U U (bh ?_)))
  have hs3:dD q x=false:=hs2
  refine dZ (L':=([(b3,O [.bool false] 4),z2,z1])++markB (dm1::[])) ap ?_
  exact rQ (dm1::[]) [.bool false] Es U hX ⟨⟨0,_,_,_,_,U,U,.inr ⟨_,ty4,U⟩⟩,trivial⟩ (cs hs3)
 ·rintro dm1 ⟨aQ,hh1⟩ hn1 ⟨hs4,hl1⟩ hln1 hl01
  try dsimp only at hl1 hln1
  refine dZ (L':=[(b3,O [.bool aQ] 4),z2,z1]++(markB (dm1::[]))) ap ?_
  have hs5:dD q x=aQ:=hs4
  refine dZ (L':=([(b3,O [.bool aQ] 4),z2,z1])++markB (dm1::[])) ap ?_
  exact rQ (dm1::[]) [.bool aQ] Es U hX ⟨⟨0,_,_,_,_,U,U,.inr ⟨_,ty4,U⟩⟩,trivial⟩ (cs hs5)
 ·exact fun _ _ _ hF=>hF.elim
 ·exact fun _ _ _ _ hF=>hF.elim
theorem ot (h:HF) (q:bg) (ja:gy) (x:Expr) (fb:cE) (hq:bg.ok h q ja) (hx:Expr.ok h x fb) (hno:0≤x.No∧x.No < (q.holders.length:Int)) (hso:q.who.Pairwise (·≤·)) (hsw:q.who.length≤2000000):Ret Tryz.prog 161 [.agg (bg.cells q ja).toArray,.agg (Expr.cells x fb).toArray] h (.bool (cL q x)):=by
 refine ae Tryz.func161 U Tryz.ntmps161 U fun X hM hX=>?_
 have hs0:cL q x=cL q x:=rfl
 refine sr (dt (fun b1=>dt (fun b2=>qO 4 U (bR zc3 (fun b3=>dS 0 ty3 U U U U U U (qO 3 U (aN (gg U U (bR zc261 (fun b4=>dS 0 ty261 U U U U U U (qO 4 U (dl 3 ty164 U U U (aj na U (aI 2 ty3 U U U (aN (cy Tryz.call222 (lz h q ja x.No hq ob ob ob) U (fun v1 h1 hle1 hp1=>?_)))))))))))))))))
 obtain ⟨_,rfl,mo1⟩:=hp1
 refine qO 2 U ?_
 refine gp ?_
 let z1:Nat×Obj:=(b4,O [.func (.func 223) #[] #[Q b3]] 261)
 let z2:Nat×Obj:=(b1,O (bg.cells q ja) 164)
 let z3:Nat×Obj:=(b2,O (Expr.cells x fb) 66)
 refine dZ (L':=([z1,(b3,O [I 0] 3),z3,z2])++markB []) ap ?_
 refine kd (it:=v1) (xs:=(dF q x.No)) (ι:=Int×HF) [] (fun i=>i.2) (fun i=>[z1,(b3,O [I i.1] 3),z3,z2]) (fun s i=>cL q x=((cL.L1 (cL.K1 x)) s i.1)∧HF.le h1 i.2) (fun _=>False) (fun _=>False) 0 (fun _ _ _=>False) (0,h1) Tryz.func161 U mo1 U oz (fun _ _ _ _ _ hq=>hq) U (show [z1,(b3,O [I 0] 3),z3,z2]=_ from U) ⟨hs0,(HF.le_refl h1)⟩ ?_ ?_ ?_ ?_ ?_
 ·rintro l1 dm1 lp1 y1 rz1 vs1 ⟨aQ,hh1⟩ hr1 X hFR1 ⟨hs1,hl1⟩ hl01 hlr1 hv1 hX hXM hlp1 nx1 rt1 ex1 pn1
  try dsimp only at hl1 hlr1
  obtain rfl:=hv1
  refine dZ (L':=[(l1,.loop lp1),(dm1,.deferred (some [])),z1,(b3,O [I aQ] 3),z3,z2]++(markB [])) ap (bU (bR zc133 (fun b6=>bL 0 ty133 U U U U U U (bh (ke 1 U hlp1 (qT 2 U (aI 3 ty261 U U U (dl 0 ty133 U U U (aN (Hn 4 (o':=O [I (IntKind.wrap .i64 (aQ+y1.Weight))] 3) U (kL (args:=[.agg (Holder.cells y1).toArray]) (cap:=[Q b3]) Tryz.call223 (BX hr1 y1 aQ b3)) U U (qO 2 U ?_)))))))))))
  let z4:Nat×Obj:=(b3,O [I (IntKind.wrap .i64 (aQ+y1.Weight))] 3)
  refine cG (L':=[(l1,.loop { lp1 with state:=.busy }),(dm1,.deferred (some [])),z1,z4,z3,z2]++(markB [])) js ?_
  refine dZ (L':=rdH l1 dm1 lp1 (([z1,z4,z3,z2])++markB [])) ap ?_
  exact nx1 ((IntKind.wrap .i64 (aQ+y1.Weight)),hr1) _ _ ⟨hs1,(hl1.t hlr1)⟩ (HF.le_refl _)
 ·rintro dm1 ⟨aQ,hh1⟩ hn1 ⟨hs2,hl1⟩ hln1 hl01
  try dsimp only at hl1 hln1
  refine dZ (L':=[z1,(b3,O [I aQ] 3),z3,z2]++(markB (dm1::[]))) ap (qT 3 U (aI 1 ty3 U U U (aj j9 U (aI 2 ty3 U U U (qO 3 U ?_)))))
  have hs3:cL q x=decide (x.N≤aQ):=hs2
  refine dZ (L':=([z1,(b3,O [I aQ] 3),z3,z2])++markB (dm1::[])) ap ?_
  exact rQ (dm1::[]) [.bool (decide (x.N≤aQ))] Tryz.func161 U hX rd (cs hs3)
 ·exact fun _ _ _ hF=>hF.elim
 ·exact fun _ _ _ hF=>hF.elim
 ·exact fun _ _ _ _ hF=>hF.elim
theorem pO (rec:bg→Expr→Bool) (h:HF) (q:bg) (ja:gy) (x:Expr) (fb:cE) (hrec:∀ (h:HF) (qq:bg) (vK:gy) (qx:Expr) (jp:cE) (hqq:bg.ok h qq vK) (hqx:Expr.ok h qx jp) (hok:OkX (qq.holders.length:Int) qx) (hso:qq.who.Pairwise (·≤·)) (hsw:qq.who.length≤2000000) (_:qx.dep < x.dep),Ret Tryz.prog 97 [.agg (bg.cells qq vK).toArray,.agg (Expr.cells qx jp).toArray] h (.bool (rec qq qx))) (hq:bg.ok h q ja) (hx:Expr.ok h x fb) (hok:OkX (q.holders.length:Int) x) (hso:q.who.Pairwise (·≤·)) (hsw:q.who.length≤2000000):Ret Tryz.prog 162 [.agg (bg.cells q ja).toArray,.agg (Expr.cells x fb).toArray] h (.bool (da.F rec q x)):=by
 refine ae Tryz.func162 U Tryz.ntmps162 U fun X hM hX=>?_
 have hs0:da.F rec q x=da.F rec q x:=rfl
 refine sr (dt (fun b1=>dt (fun b2=>qO 9 U (aj dC U (aI 0 ty64 U U U (a8 ga U (qO 2 U ?_)))))))
 let z1:Nat×Obj:=(b1,O (bg.cells q ja) 164)
 let z2:Nat×Obj:=(b2,O (Expr.cells x fb) 66)
 refine aU (ι:=Nat×Int) (fun i=>[(3,Q b2),(5,I i.2)]) (fun i=>h) (fun i=>[z2,z1]) (fun i=>i.1≤x.L.length∧da.F rec q x=((da.K1 x) i.2)) ?_ (fun hx1=>?_)
 ·rintro ⟨i1,iO⟩ ⟨aP,hs1⟩ e
  try dsimp only at aP
  refine qT 3 U (aj j9 U (aI 0 ty3 U U U (qO 3 U ?_)))
  exact ah [.bool (decide (x.N≤iO))] Tryz.func162 U hX rd (cs hs1)
 ·refine bG (ι:=Nat×Int×List Expr) (fun i=>[(2,Q b1),(3,Q b2),(5,I i.2.1),(9,.slice fb.ir x.L.length fb.iG),(10,I ((x.L.length:Nat):Int)),(11,I ((i.1:Nat):Int))]) (fun i=>h) (fun i=>[z2,z1]) (fun i=>x.L.drop i.1=i.2.2∧i.1≤x.L.length∧da.F rec q x=((da.L1 rec q (da.K1 x)) i.2.2 i.2.1)) (fun i=>i.2.2.length) (0,0,x.L) rd sw ⟨U,Nat.zero_le _,hs0⟩ ?_
  rintro ⟨i1,iO,s1⟩ ⟨hd1,aP,hs3⟩ ag1 e
  try dsimp only at hd1 aP
  rcases s1 with _ | ⟨y1,rz1⟩
  ·have dr:=cw hd1
   refine sr (ai (v':=.bool false) U (cb dr) (qO 4 U ?_))
   exact hx1 (i1,iO) _ ⟨aP,hs3⟩ rd
  ·have dq:=dy hd1
   have aM:=cA hd1
   have ey:=aE hd1
   have gi:=hx.list.1.1
   have hoy:=hok.sub y1 (gx hd1)
   refine sr (ai (v':=.bool true) U (cb dq) (qO 8 U (aN (fF ga ty66 hx.list.1 (nthZ aM) (aV aM) U U U (fun q2 cs2 A2 ln2 rr2=>?_)))))
   obtain ⟨r2,rfl,ok2⟩:=rr2
   refine el ty66 A2 U U (bR zc66 (fun b4=>bL 0 ty66 U U U U U U (qO 3 U (dl 2 ty164 U U U (dl 0 ty66 U U U (au (v:=.bool (rec q y1)) Er (hrec h q ja y1 r2 hq ok2 ob ob ob (Expr.hY (gx hd1))) U (bh ?_)))))))
   refine ak hs3 U (fun c2 hs5=>?_) (fun c2 hs6=>?_)
   ·refine qT 7 U (ai (v':=I (((i1+1):Nat):Int)) U (bz ob) (qO 2 U ?_))
    refine cG (L':=[z2,z1]) js ?_
    exact ag1 ((i1+1),(IntKind.wrap .i64 (iO+1)),rz1) _ (Nat.lt_succ_self _) ⟨ba hd1,aE hd1,hs5⟩ rd
   ·refine qT 3 U (ai (v':=I (((i1+1):Nat):Int)) U (bz ob) (qO 2 U ?_))
    refine cG (L':=[z2,z1]) js ?_
    exact ag1 ((i1+1),iO,rz1) _ (Nat.lt_succ_self _) ⟨ba hd1,aE hd1,hs6⟩ rd
theorem oW (rec:bg→Expr→Bool) (h:HF) (q:bg) (ja:gy) (x:Expr) (fb:cE) (hrec:∀ (h:HF) (qq:bg) (vK:gy) (qx:Expr) (jp:cE) (hqq:bg.ok h qq vK) (hqx:Expr.ok h qx jp) (hok:OkX (qq.holders.length:Int) qx) (hso:qq.who.Pairwise (·≤·)) (hsw:qq.who.length≤2000000) (_:qx.dep < x.dep),Ret Tryz.prog 97 [.agg (bg.cells qq vK).toArray,.agg (Expr.cells qx jp).toArray] h (.bool (rec qq qx))) (hq:bg.ok h q ja) (hx:Expr.ok h x fb) (hok:OkX (q.holders.length:Int) x) (hso:q.who.Pairwise (·≤·)) (hsw:q.who.length≤2000000) (hk4:x.Kind=4):Ret Tryz.prog 163 [.agg (bg.cells q ja).toArray,.agg (Expr.cells x fb).toArray] h (.bool (hO.F rec q x)):=by
 refine ae Tryz.func163 U Tryz.ntmps163 U fun X hM hX=>?_
 have hs0:hO.F rec q x=hO.F rec q x:=rfl
 have hl2:=hok.two hk4
 refine sr (dt (fun b1=>dt (fun b2=>qO 5 U (aj Ia U (aI 1 ty3 U U U (aj j9 U (aI 0 ty3 U U U (qO 2 U ?_))))))))
 refine ak hs0 U (fun c1 hs1=>?_) (fun c1 hs2=>?_)
 ·have c1p:=of_decide_eq_true c1
  refine em ?_
  refine fd ([(b2,O (Expr.cells x fb) 66),(b1,O (bg.cells q ja) 164)]) mixed kr jn (fun dU _=>?_)
  refine tf 0 U U (fun _ _ hj=>jT ty164 U (hj.nth (i:=1) U) U) (tf 1 U U (fun _ _ _=>dx dC U) (tf 2 U U (fun _ _ hj=>gH ty64 U (hj.nth (i:=0) U) U) ?_))
  have ho1:0≤(0:Int)∧(0:Int) < ((x.L).length:Int):=ob
  refine io 3 dU jn ga ty66 hx.list.1 ho1 (df ho1) U U U U kr (fun q1 cs1 A1 ln1 rr1=>?_)
  obtain ⟨r1,rfl,ok1⟩:=rr1
  refine tf 4 U U (fun _ _ hj=>jK ty66 (A1.mono hj.1) U U) (tn 5 U (fB (v:=.bool (rec q (nthI x.L 0))) Er (hrec h q ja (nthI x.L 0) r1 hq ok1 (hok.sub _ (kO ob)) ob ob (Expr.hY (kO ob))) U ?_))
  refine ⟨jn,(qA [6] U ?_)⟩
  refine bv kr ?_
  exact ah [.bool (rec q (nthI x.L 0))] Tryz.func163 U hX rd (cs hs1)
 ·have c1p:=of_decide_eq_false c1
  refine qT 2 U ?_
  refine fd ([(b2,O (Expr.cells x fb) 66),(b1,O (bg.cells q ja) 164)]) mixed kr jn (fun sC _=>?_)
  refine tf 0 U U (fun _ _ hj=>jT ty164 U (hj.nth (i:=1) U) U) (tf 1 U U (fun _ _ _=>dx dC U) (tf 2 U U (fun _ _ hj=>gH ty64 U (hj.nth (i:=0) U) U) ?_))
  have ho2:0≤(1:Int)∧(1:Int) < ((x.L).length:Int):=ob
  refine io 3 sC jn ga ty66 hx.list.1 ho2 (df ho2) U U U U kr (fun q2 cs2 A2 ln2 rr2=>?_)
  obtain ⟨r2,rfl,ok2⟩:=rr2
  refine tf 4 U U (fun _ _ hj=>jK ty66 (A2.mono hj.1) U U) (tn 5 U (fB (v:=.bool (rec q (nthI x.L 1))) Er (hrec h q ja (nthI x.L 1) r2 hq ok2 (hok.sub _ (kO ob)) ob ob (Expr.hY (kO ob))) U ?_))
  refine ⟨jn,(qA [6] U ?_)⟩
  refine bv kr ?_
  exact ah [.bool (rec q (nthI x.L 1))] Tryz.func163 U hX rd (cs hs2)
theorem H4 (rec:bg→Expr→Bool) (h:HF) (q:bg) (ja:gy) (x:Expr) (fb:cE) (hq:bg.ok h q ja) (hx:Expr.ok h x fb)
  (hrec:∀ (h:HF) (qq:bg) (vK:gy) (qx:Expr) (jp:cE) (_:bg.ok h qq vK) (_:Expr.ok h qx jp) (_:OkX (qq.holders.length:Int) qx) (_:qq.who.Pairwise (·≤·)) (_:qq.who.length≤2000000) (_:qx.dep < x.dep),Ret Tryz.prog 97 [.agg (bg.cells qq vK).toArray,.agg (Expr.cells qx jp).toArray] h (.bool (rec qq qx)))
  (hok:OkX (q.holders.length:Int) x) (hso:q.who.Pairwise (·≤·)) (hsw:q.who.length≤2000000):
  wh Tryz.prog (List.getD [.nilFunc,.func (.func 160) #[] #[],.func (.func 161) #[] #[],.func (.func 162) #[] #[],.func (.func 163) #[] #[]] x.Kind.toNat .nilFunc) [.agg (bg.cells q ja).toArray,.agg (Expr.cells x fb).toArray] h [] (.bool (fulQ rec q x)):=by
 have hk:=hok.kind
 have hc:x.Kind=1∨x.Kind=2∨x.Kind=3∨x.Kind=4:=by omega
 rcases hc with e | e | e | e
 ·rw [show fulQ rec q x=dD q x from by simp [fulQ,e],e];exact iZ (cap:=[]) Tryz.call160 (pD h q ja x fb hq hx (hok.no ob) hso hsw)
 ·rw [show fulQ rec q x=cL q x from by simp [fulQ,e],e];exact iZ (cap:=[]) Tryz.call161 (ot h q ja x fb hq hx (hok.no ob) hso hsw)
 ·rw [show fulQ rec q x=da.F rec q x from by simp [fulQ,e],e];exact iZ (cap:=[]) Tryz.call162 (pO rec h q ja x fb hrec hq hx hok hso hsw)
 ·rw [show fulQ rec q x=hO.F rec q x from by simp [fulQ,e],e];exact iZ (cap:=[]) Tryz.call163 (oW rec h q ja x fb hrec hq hx hok hso hsw e)
theorem nP (rec:bg→Expr→Bool) (h:HF) (q:bg) (ja:gy) (x:Expr) (fb:cE) (hrec:∀ (h:HF) (qq:bg) (vK:gy) (qx:Expr) (jp:cE) (hqq:bg.ok h qq vK) (hqx:Expr.ok h qx jp) (hok:OkX (qq.holders.length:Int) qx) (hso:qq.who.Pairwise (·≤·)) (hsw:qq.who.length≤2000000) (_:qx.dep < x.dep),Ret Tryz.prog 97 [.agg (bg.cells qq vK).toArray,.agg (Expr.cells qx jp).toArray] h (.bool (rec qq qx))) (hq:bg.ok h q ja) (hx:Expr.ok h x fb) (hok:OkX (q.holders.length:Int) x) (hso:q.who.Pairwise (·≤·)) (hsw:q.who.length≤2000000):Ret Tryz.prog 97 [.agg (bg.cells q ja).toArray,.agg (Expr.cells x fb).toArray] h (.bool (co.F rec q x)):=by
 refine ae Tryz.func97 U Tryz.ntmps97 U fun X hM hX=>?_
 have hs0:co.F rec q x=co.F rec q x:=rfl
 have hkd:=hok.kind
 refine sr (dt (fun b1=>dt (fun b2=>qO 4 U (aN (Ho (cells:=[.nilFunc,.func (.func 160) #[] #[],.func (.func 161) #[] #[],.func (.func 162) #[] #[],.func (.func 163) #[] #[]]) Tryz.underlying227 ty226 zc227 kr ?_)))))
 refine bR zc227 (fun b3=>bL 0 ty227 U U U U U U (qO 2 U (e6 0 U hM (fun h1 hle1 hb1=>?_))))
 refine fd ([(b2,O (Expr.cells x fb) 66),(b1,O (bg.cells q ja) 164)]) mixed kr jn (fun dU _=>?_)
 refine tf 0 U U (fun _ _ _=>dx k9 U) (tf 1 U U (fun _ _ hj=>gH ty3 U (hj.nth (i:=0) U) U) ?_)
 have ho1:0≤(x.Kind:Int)∧(x.Kind:Int) < 5:=ob
 have A1:=JW (dN hb1) ho1
 refine tf 2 U U (fun _ _ _=>Hr Tryz.underlying227 ty226 U U ho1) (tf 3 U U (fun _ _ hj=>fK ty226 (A1.mono hj.1) U) (tf 4 U U (fun _ _ hj=>jT ty164 U (hj.nth (i:=1) U) U) ?_))
 refine tf 5 U U (fun _ _ hj=>jT ty66 U (hj.nth (i:=0) U) U) (tn 6 U (nO (v:=.bool (fulQ rec q x)) [] (List.nil_sublist _) (H4 rec h1 q ja x fb (hq.mono hle1) (hx.mono hle1) hrec hok hso hsw) U U ?_))
 refine ⟨jn,(qA [7] U ?_)⟩
 refine bv kr ?_
 exact ah [.bool (fulQ rec q x)] Tryz.func97 U hX rd (cs hs0)
theorem kz:∀ (m:Nat) (h:HF) (q:bg) (ja:gy) (x:Expr) (fb:cE) (_:x.dep≤m) (hq:bg.ok h q ja) (hx:Expr.ok h x fb) (hok:OkX (q.holders.length:Int) x) (hso:q.who.Pairwise (·≤·)) (hsw:q.who.length≤2000000),Ret Tryz.prog 97 [.agg (bg.cells q ja).toArray,.agg (Expr.cells x fb).toArray] h (.bool (co.go m q x))
 | 0,h,q,ja,x,fb,hd,hq,hx,hok,hso,hsw=>absurd hd (Nat.not_le.2 (Expr.jV _))
 | m+1,h,q,ja,x,fb,hd,hq,hx,hok,hso,hsw=>nP (co.go m) h q ja x fb (fun qh_ qq vK qx jp qhq qhx qhok qhso qhsw qd=>kz m qh_ qq vK qx jp ob qhq qhx qhok qhso qhsw) hq hx hok hso hsw
theorem ou (h:HF) (q:bg) (ja:gy) (x:Expr) (fb:cE) (hq:bg.ok h q ja) (hx:Expr.ok h x fb) (hok:OkX (q.holders.length:Int) x) (hso:q.who.Pairwise (·≤·)) (hsw:q.who.length≤2000000):Ret Tryz.prog 97 [.agg (bg.cells q ja).toArray,.agg (Expr.cells x fb).toArray] h (.bool (co q x)):=kz _ h q ja x fb (Nat.le_refl _) hq hx hok hso hsw
open Go.Proofs
set_option maxHeartbeats 2000000
theorem tZ (h:HF) (p:Policy) (fe:eE) (kind:Int) (value:Int) (holders:(List (List Holder))) (gQ:Option Addr) (gP:Nat) (who:(List Int)) (fo:Option Addr) (fm:Nat) (hp:Policy.ok h p fe) (hholders:SlC (Rp.sl Holder.rp) h gQ gP holders) (hwho:SlC Rp.int h fo fm who) (hsm:smP p) (hsz0:∀ y∈holders,y.length≤2000000) (hsw:who.length≤2000000) (hk:Kinds h):Ret Tryz.prog 48 [.agg (Policy.cells p fe).toArray,I kind,I value,.slice gQ holders.length gP,.slice fo who.length fm] h (.tuple #[.bool ((cf p kind value holders who).1),I ((cf p kind value holders who).2)]):=by
 refine ae Ca U Tryz.ntmps48 U fun X hM hX=>?_
 have hs0:cf p kind value holders who=cf p kind value holders who:=rfl
 refine sr (dt (fun b1=>qO 6 U (dl 0 ty68 U U U (au (v:=I (cq p)) Tryz.call94 (pm h p fe hp ob hk) U (qO 7 U ?_)))))
 refine ak hs0 U (fun c1 hs1=>?_) (fun c1 hs2=>?_)
 ·refine qT 6 U ?_
  have hs3:cf p kind value holders who=(false,(cq p)):=hs1
  exact ah [.bool false,I (cq p)] Ca U hX rd (congrArg (fun r:(Bool×Int)=>(.tuple #[.bool r.1,I r.2]:Value)) hs3.symm)
 ·refine qT 8 U ?_
  refine ar 6 [21,22,23,24,25,26,27] 27 (.bool (decide (kind < 0)||decide (((p.Kinds.length:Nat):Int)≤kind))) (fun hk1=>?_) (fun e=>?_)
  ·refine ac 21 U (fun c2=>?_) (fun c2=>?_)
   ·refine qO 6 U ?_
    exact hk1 _ (cb (dW c2))
   ·refine aB (aj kZ U (aI 0 ty62 U U U (a8 kB U (qO 2 U ?_))))
    exact hk1 _ (cb (dX c2))
  refine aB ?_
  refine ar 3 [28,29,30,31] 31 (.bool ((decide (kind < 0)||decide (((p.Kinds.length:Nat):Int)≤kind))||decide (value < 0))) (fun hk2=>?_) (fun e=>?_)
  ·refine ac 28 U (fun c3=>?_) (fun c3=>?_)
   ·refine qO 3 U ?_
    exact hk2 _ (cb (dW c3))
   ·refine qO 3 U ?_
    exact hk2 _ (cb (dX c3))
  refine aB ?_
  refine ar 3 [32,33,34,35] 35 (.bool (((decide (kind < 0)||decide (((p.Kinds.length:Nat):Int)≤kind))||decide (value < 0))||decide (1099511627776 < value))) (fun hk3=>?_) (fun e=>?_)
  ·refine ac 32 U (fun c4=>?_) (fun c4=>?_)
   ·refine qO 3 U ?_
    exact hk3 _ (cb (dW c4))
   ·refine qO 3 U ?_
    exact hk3 _ (cb (dX c4))
  refine an ?_
  refine ak hs2 U (fun c5 hs4=>?_) (fun c5 hs5=>?_)
  ·refine qT 5 U ?_
   have hs6:cf p kind value holders who=(false,1):=hs4
   exact ah [.bool false,I 1] Ca U hX rd (congrArg (fun r:(Bool×Int)=>(.tuple #[.bool r.1,I r.2]:Value)) hs6.symm)
  ·refine qT 3 U (aj iS U (aI 0 ty62 U U U (a8 kB U (au (v:=.bool (cM holders ((p.Offices.length:Nat):Int))) Tryz.call95 (vM h holders gQ gP ((p.Offices.length:Nat):Int) hholders ob) U (qO 3 U ?_)))))
   refine ak hs5 U (fun c6 hs7=>?_) (fun c6 hs8=>?_)
   ·refine qT 5 U ?_
    have hs9:cf p kind value holders who=(false,210):=hs7
    exact ah [.bool false,I 210] Ca U hX rd (congrArg (fun r:(Bool×Int)=>(.tuple #[.bool r.1,I r.2]:Value)) hs9.symm)
   ·refine qT 3 U (au (v:=.bool (de who)) Tryz.call96 (po h who fo fm hwho) U (qO 3 U ?_))
    refine ak hs8 U (fun c7 hs10=>?_) (fun c7 hs11=>?_)
    ·refine qT 5 U ?_
     have hs12:cf p kind value holders who=(false,1):=hs10
     exact ah [.bool false,I 1] Ca U hX rd (congrArg (fun r:(Bool×Int)=>(.tuple #[.bool r.1,I r.2]:Value)) hs12.symm)
    ·refine qT 7 U (aN (fq (cells:=[I value,.slice gQ holders.length gP,.slice fo who.length fm]) (places:=[(0,1),(1,1),(2,1)]) Tryz.underlying164 zc164 kr kr ?_))
     refine aj fj U (aI 0 ty63 U U U (aB ?_))
     have ho1:0≤(kind:Int)∧(kind:Int) < ((p.Rules).length:Int):=(by have hq:=wa (by simpa using c1);simp only [decide_eq_true_eq,decide_eq_false_iff_not,Bool.and_eq_true,Bool.or_eq_true,Bool.not_eq_true',Bool.not_eq_false',Bool.and_eq_false_iff,Bool.or_eq_false_iff,beq_iff_eq,beq_eq_false_iff_ne,bne_iff_ne,bne_eq_false_iff_eq,List.length_append,List.length_cons,List.length_nil,List.length_drop] at c5;omega)
     refine aN (fF jR ty107 hp.Rules.1 ho1 (df ho1) U U U (fun q1 cs1 A1 ln1 rr1=>?_))
     obtain ⟨r1,rfl,ok1⟩:=rr1
     refine aj kv U (vO (j:=3) ty66 A1 U U (au (v:=.bool (co (bg.mk value holders who) ((nthI p.Rules kind).Expr))) Er (ou h (bg.mk value holders who) (gy.mk gQ gP fo fm) ((nthI p.Rules kind).Expr) r1.Expr (show bg.ok h (bg.mk value holders who) (gy.mk gQ gP fo fm) from ⟨hholders,hwho⟩) ok1.Expr (by have hq:=wa (by simpa using c1);have hr:=F5 (by simpa using c6);show OkX (holders.length:Int) _;rw [hr];exact hq.2.2 _ (EP (kO ho1))) (zG (by simpa using c7)) hsw) U (qO 3 U ?_)))
     have hs13:cf p kind value holders who=((co (bg.mk value holders who) ((nthI p.Rules kind).Expr)),0):=hs11
     exact ah [.bool (co (bg.mk value holders who) ((nthI p.Rules kind).Expr)),I 0] Ca U hX rd (congrArg (fun r:(Bool×Int)=>(.tuple #[.bool r.1,I r.2]:Value)) hs13.symm)
theorem ng (h:HF) (l:(List Version)) (eD:Option Addr) (eC:Nat) (old:Bool) (hl:SlC Version.rp h eD eC l):je Tryz.prog 142 [.slice eD l.length eC,.bool old] h (fun v h'=>∃ (rb0:Option Addr) (rc0:Nat),v=.slice rb0 (iv l old).length rc0∧SlC Version.rp h' rb0 rc0 (iv l old)):=by
 refine ae Tryz.func142 U Tryz.ntmps142 U fun X hM hX=>?_
 have hs0:iv l old=iv l old:=rfl
 refine qT 9 U ?_
 have hs1:iv l old=l:=hs0
 exact cJ [.slice eD l.length eC] Tryz.func142 U rd ⟨eD,eC,congrArg (fun r:(List Version)=>(.slice eD r.length eC:Value)) hs1.symm,(by rw [hs1];exact hl)⟩
theorem rK (h:HF) (l:(List Version)) (eD:Option Addr) (eC:Nat) (old:Bool) (hl:SlC Version.rp h eD eC l) (hne:0 < l.length):je Tryz.prog 143 [.slice eD l.length eC,.bool old] h (fun v h'=>∃ (rb0:Option Addr) (rc0:Nat),v=.slice rb0 (gS l old).length rc0∧SlC Version.rp h' rb0 rc0 (gS l old)):=by
 refine ae Tryz.func143 U Tryz.ntmps143 U fun X hM hX=>?_
 have hs0:gS l old=gS l old:=rfl
 refine qT 10 U ?_
 refine ak hs0 U (fun c1 hs1=>?_) (fun c1 hs2=>?_)
 ·refine qT 4 U ?_
  have hs3:gS l old=[]:=hs1
  exact cJ [.slice none 0 0] Tryz.func143 U rd ⟨none,0,congrArg (fun r:(List Version)=>(.slice none r.length 0:Value)) hs3.symm,(by rw [hs3];exact SlC.nil)⟩
 ·refine qT 4 U (aN (Hg iN ty70 hl.1 hl.2 ob U U U (fun sb1 sc1 sl1=>(an ?_))))
  have hs4:gS l old=(l.take ((1:Int)).toNat):=hs2
  exact cJ [.slice sb1 ((l.take ((1:Int)).toNat).length) sc1] Tryz.func143 U rd ⟨sb1,sc1,congrArg (fun r:(List Version)=>(.slice sb1 r.length sc1:Value)) hs4.symm,(by rw [hs4];exact sl1)⟩
theorem rJ (h:HF) (l:(List Version)) (eD:Option Addr) (eC:Nat) (old:Bool) (hl:SlC Version.rp h eD eC l) (hne:0 < l.length):je Tryz.prog 144 [.slice eD l.length eC,.bool old] h (fun v h'=>∃ (rb0:Option Addr) (rc0:Nat),v=.slice rb0 (iu l old).length rc0∧SlC Version.rp h' rb0 rc0 (iu l old)):=by
 refine ae Tryz.func144 U Tryz.ntmps144 U fun X hM hX=>?_
 have hs0:iu l old=iu l old:=rfl
 have hbl:=hl.1.1
 refine qT 8 U (a8 iN U (ai (v':=I (((l.length:Nat):Int) - 1)) U (im ob) ?_))
 refine aN (Hh iN ty70 hl.1 hl.2 ob U U U (fun sb1 sc1 sl1=>(an ?_)))
 have hs1:iu l old=(l.drop (((((l.length:Nat):Int) - 1):Int)).toNat):=hs0
 exact cJ [.slice sb1 ((l.drop (((((l.length:Nat):Int) - 1):Int)).toNat).length) sc1] Tryz.func144 U rd ⟨sb1,sc1,congrArg (fun r:(List Version)=>(.slice sb1 r.length sc1:Value)) hs1.symm,(by rw [hs1];exact sl1)⟩
theorem oc (h:HF)   : je Tryz.prog 83 [] h (fun v h'=>∃ (rk0:Nat),v=.map (some rk0)∧oR (Value.int .i64) VFn h' rk0 (jM)):=by
 refine ae Tryz.func83 U Tryz.ntmps83 U fun X hM hX=>?_
 have hs0:jM=jM:=rfl
 refine qT 10 U (aN (oZ (fun b1=>aN (iA 0 (k:=1) (x:=(Value.func (.func 143) #[] #[])) B9 (eO kK) U (gC.nil (enc:=(Value.int .i64)) (V:=VFn) (h:=h)) U U U (fun mo1 hm1=>?_)))))
 refine aN (iA 0 (k:=2) (x:=(Value.func (.func 144) #[] #[])) B9 (eO kK) U hm1 U U U (fun mo2 hm2=>aB (aN (iA 0 (k:=3) (x:=(Value.func (.func 142) #[] #[])) B9 (eO kK) U hm2 U U U (fun mo3 hm3=>(aB (aN (iA 0 (k:=4) (x:=(Value.func (.func 142) #[] #[])) B9 (eO kK) U hm3 U U U (fun mo4 hm4=>qO 3 U ?_)))))))))
 refine e6 0 U hM (fun h1 hle1 hb1=>?_)
 have mc1:oR (Value.int .i64) VFn h1 b1 (mput (mput (mput (mput ([]) 1 (Value.func (.func 143) #[] #[])) 2 (Value.func (.func 144) #[] #[])) 3 (Value.func (.func 142) #[] #[])) 4 (Value.func (.func 142) #[] #[])):=⟨_,hb1,hm4.mono VFn.mono hle1⟩
 have hs1:jM=(mput (mput (mput (mput ([]) 1 (Value.func (.func 143) #[] #[])) 2 (Value.func (.func 144) #[] #[])) 3 (Value.func (.func 142) #[] #[])) 4 (Value.func (.func 142) #[] #[])):=hs0
 exact cJ [.map (some b1)] Tryz.func83 U rd ⟨b1,congrArg (fun r:(List (Int×Value))=>(.map (some b1):Value)) hs1.symm,(by rw [hs1];exact mc1)⟩
theorem C7 (mode:Int) (l:List Version) (old:Bool):(judgesP mode l old).length≤l.length:=by
 unfold judgesP iv gS iu
 cases mode==1 <;> cases mode==2 <;> cases old <;> simp <;> omega
theorem C6 (h:HF) (mode:Int) (hm:1≤mode∧mode≤4) (l:List Version) (eD:Option Addr) (eC:Nat) (old:Bool) (hl:SlC Version.rp h eD eC l) (hne:0 < l.length):
  Jo Tryz.prog (mgetD jM mode Value.nilFunc) [.slice eD l.length eC,.bool old] h (fun v h'=>∃ (rb0:Option Addr) (rc0:Nat),v=.slice rb0 (judgesP mode l old).length rc0∧SlC Version.rp h' rb0 rc0 (judgesP mode l old)):=by
 have:mode=1∨mode=2∨mode=3∨mode=4:=by omega
 rcases this with rfl | rfl | rfl | rfl
 ·exact kL (cap:=[]) (args:=[.slice eD l.length eC,.bool old]) Tryz.call143 (rK h l eD eC old hl hne)
 ·exact kL (cap:=[]) (args:=[.slice eD l.length eC,.bool old]) Tryz.call144 (rJ h l eD eC old hl hne)
 ·exact kL (cap:=[]) (args:=[.slice eD l.length eC,.bool old]) Tryz.call142 (ng h l eD eC old hl)
 ·exact kL (cap:=[]) (args:=[.slice eD l.length eC,.bool old]) Tryz.call142 (ng h l eD eC old hl)
theorem uB (h:HF) (mode:Int) (permits:(List Bool)) (jQ:Option Addr) (jP:Nat) (hpermits:SlC Rp.bool h jQ jP permits):Ret Tryz.prog 164 [I mode,.slice jQ permits.length jP] h (I (fD mode permits)):=by
 refine ae Ep U Tryz.ntmps164 U fun X hM hX=>?_
 have hs0:fD mode permits=fD mode permits:=rfl
 refine qT 7 U (aN (cy Tryz.call83 (oc h  ) U (fun v1 h1 hle1 hp1=>?_)))
 obtain ⟨rk1,rfl,mo1⟩:=hp1
 refine aB ?_
 obtain ⟨o1,hb1,hm1⟩:=mo1
 refine aN (wq (k:=mode) B9 (eO kK) hb1 hm1 (jf zv141) (show VFn _ (.nilFunc) Value.nilFunc from U) U U (fun v2 hv1=>?_))
 obtain rfl:=hv1
 refine qO 11 U ?_
 refine ak hs0 U (fun c1 hs1=>?_) (fun c1 hs2=>?_)
 ·refine qT 4 U ?_
  exact ah [I 270] Ep U hX rd (ci hs1)
 ·refine qT 5 U (a8 rN U (qO 2 U ?_))
  refine ak hs2 U (fun c2 hs4=>?_) (fun c2 hs5=>?_)
  ·have c2p:=of_decide_eq_true c2
   refine qT 4 U ?_
   exact ah [I 1] Ep U hX rd (ci hs4)
  ·have c2p:=of_decide_eq_false c2
   refine qT 5 U ?_
   exact ah [I 0] Ep U hX rd (ci hs5)
theorem pz (h:HF) (s:(List Bool)) (qB:Option Addr) (pK:Nat) (f:(Bool→Bool)) (f_v:Value) (hs:SlC Rp.bool h qB pK s) (hf:∀ (h':HF) (eo:Bool),HF.le h h'→wh Tryz.prog f_v [.bool eo] h' [] (.bool (f eo))):Ret Tryz.prog 224 [.slice qB s.length pK,f_v] h (I (cV s f)):=by
 refine ae Tryz.func224 U Tryz.ntmps224 U fun X hM hX=>?_
 have hs0:cV s f=cV s f:=rfl
 refine qT 8 U (a8 rN U (qO 2 U ?_))
 refine aU (ι:=Nat) (fun i=>[]) (fun i=>h) (fun i=>[]) (fun i=>i≤s.length∧cV s f=((cV.K1))) ?_ (fun hx1=>?_)
 ·rintro i1 ⟨aP,hs1⟩ e
  try dsimp only at aP
  refine qT 4 U ?_
  exact ah [I (-1)] Tryz.func224 U hX rd (ci hs1)
 ·refine bG (ι:=Nat×List Bool) (fun i=>[(0,.slice qB s.length pK),(1,f_v),(7,I ((s.length:Nat):Int)),(8,I ((i.1:Nat):Int))]) (fun i=>h) (fun i=>[]) (fun i=>s.drop i.1=i.2∧i.1≤s.length∧cV s f=((cV.L1 f (cV.K1)) i.2 i.1)) (fun i=>i.2.length) (0,s) rd sw ⟨U,Nat.zero_le _,hs0⟩ ?_
  rintro ⟨i1,s1⟩ ⟨hd1,aP,hs3⟩ ag1 e
  try dsimp only at hd1 aP
  rcases s1 with _ | ⟨y1,rz1⟩
  ·have dr:=cw hd1
   refine sr (ai (v':=.bool false) U (cb dr) (qO 4 U ?_))
   exact hx1 i1 _ ⟨aP,hs3⟩ trivial
  ·have dq:=dy hd1
   have aM:=cA hd1
   have ey:=aE hd1
   have gi:=hs.1.1
   refine sr (ai (v':=.bool true) U (cb dq) (qO 16 U (aN (eU (enc:=fun y=>[.bool y]) (fun _ _ _ e=>e) rN ty4 hs.1 (nthZ aM) (aV aM) U U U (fun q2 A2=>?_)))))
   refine dv ty4 A2 U (aN (nO (v:=.bool (f y1)) [] (List.nil_sublist _) (hf h y1 (HF.le_refl _)) U U (bh ?_)))
   refine ak hs3 U (fun c2 hs5=>?_) (fun c2 hs6=>?_)
   ·refine qT 5 U ?_
    exact ah [I ((i1:Nat):Int)] Tryz.func224 U hX rd (ci hs5)
   ·refine qT 3 U (ai (v':=I (((i1+1):Nat):Int)) U (bz ob) (qO 2 U ?_))
    exact ag1 ((i1+1),rz1) _ (Nat.lt_succ_self _) ⟨ba hd1,aE hd1,hs6⟩ rd
theorem mR (h:HF) (l:(List Bool)) (eD:Option Addr) (eC:Nat) (ok:(Bool→Bool)) (ok_v:Value) (hl:SlC Rp.bool h eD eC l) (hok:∀ (h':HF) (eo:Bool),HF.le h h'→wh Tryz.prog ok_v [.bool eo] h' [] (.bool (ok eo))):Ret Tryz.prog 165 [.slice eD l.length eC,ok_v] h (I (bW l ok)):=by
 refine ae Tryz.func165 U Tryz.ntmps165 U fun X hM hX=>?_
 have hs0:bW l ok=bW l ok:=rfl
 refine qT 8 U (au (v:=I (cV l ok)) Tryz.call224 (pz h l eD eC ok ok_v hl hok) U (an ?_))
 exact ah [I (cV l ok)] Tryz.func165 U hX rd (ci hs0)
open Go.Proofs
set_option maxHeartbeats 2000000
theorem rM (h:HF) (ET:Bool)  : Ret Tryz.prog 166 [.bool ET] h (.bool (dG ET)):=by
 refine ae Tryz.func166 U Tryz.ntmps166 U fun X hM hX=>?_
 have hs0:dG ET=dG ET:=rfl
 refine qT 9 U ?_
 exact ah [.bool ET] Tryz.func166 U hX rd (cs hs0)
theorem rL (h:HF) (ET:Bool)  : Ret Tryz.prog 167 [.bool ET] h (.bool (eK ET)):=by
 refine ae Tryz.func167 U Tryz.ntmps167 U fun X hM hX=>?_
 have hs0:eK ET=eK ET:=rfl
 refine qT 10 U ?_
 exact ah [.bool (!ET)] Tryz.func167 U hX rd (cs hs0)
theorem tR (h:HF) (mode:Int) (permits:(List Bool)) (jQ:Option Addr) (jP:Nat) (hpermits:SlC Rp.bool h jQ jP permits) (hsz0:permits.length≤2000000):je Tryz.prog 98 [I mode,.slice jQ permits.length jP] h (fun v h'=>∃ (rb0:Option Addr) (rc0:Nat),v=.tuple #[.slice rb0 ((aY mode permits).1).length rc0,.bool ((aY mode permits).2.1),I ((aY mode permits).2.2)]∧SlC Rp.int h' rb0 rc0 ((aY mode permits).1)):=by
 refine ae zY U Tryz.ntmps98 U fun X hM hX=>?_
 have hs0:aY mode permits=aY mode permits:=rfl
 refine qT 11 U (au (v:=I (fD mode permits)) Tryz.call164 (uB h mode permits jQ jP hpermits) U (qO 7 U ?_))
 refine ak hs0 U (fun c1 hs1=>?_) (fun c1 hs2=>?_)
 ·refine qT 7 U ?_
  have hs3:aY mode permits=([],false,(fD mode permits)):=hs1
  exact cJ [.slice none 0 0,.bool false,I (fD mode permits)] zY U rd ⟨none,0,congrArg (fun r:((List Int)×Bool×Int)=>(.tuple #[.slice none r.1.length 0,.bool r.2.1,I r.2.2]:Value)) hs3.symm,(by rw [hs3];exact SlC.nil)⟩
 ·refine qT 4 U (au (v:=I (bW permits dG)) Tryz.call165 (mR h permits jQ jP dG (.func (.func 166) #[] #[]) hpermits (fun h' eo hle =>iZ Tryz.call166 (rM h' eo    ))) U (qO 5 U (au (v:=I (bW permits eK)) Tryz.call165 (mR h permits jQ jP eK (.func (.func 167) #[] #[]) hpermits (fun h' eo hle =>iZ Tryz.call167 (rL h' eo    ))) U (qO 9 U ?_))))
  refine ar 3 [23,24,25,26] 26 (.bool ((mode==4)&&decide (0≤(bW permits dG)))) (fun hk1=>?_) (fun e=>?_)
  ·refine ac 23 U (fun c2=>?_) (fun c2=>?_)
   ·refine qO 3 U ?_
    exact hk1 _ (cb (cB c2))
   ·refine qO 3 U ?_
    exact hk1 _ (cb (cC c2))
  refine an ?_
  refine ak hs2 U (fun c3 hs4=>?_) (fun c3 hs5=>?_)
  ·refine qT 3 U (aN (bK (cells:=[I (bW permits dG)]) cN ty3 zc3 U U kr (fun b1=>qO 4 U ?_)))
   refine e6 0 U hM (fun h1 hle1 hb1=>?_)
   have sl1:SlC Rp.int h1 (some ⟨b1,0,none⟩) 1 ([(bW permits dG)]):=bD.slB0 (T:=3) (fz:=(0,0)) ((show bD Rp.int h [I (bW permits dG)] ([(bW permits dG)]) from ⟨[I (bW permits dG)],[],rfl,rfl,rfl,rfl⟩).mono Rp.bi hle1) hb1
   have hs6:aY mode permits=([(bW permits dG)],true,0):=hs4
   exact cJ [.slice (some ⟨b1,0,none⟩) 1 1,.bool true,I 0] zY U rd ⟨(some ⟨b1,0,none⟩),1,congrArg (fun r:((List Int)×Bool×Int)=>(.tuple #[.slice (some ⟨b1,0,none⟩) r.1.length 1,.bool r.2.1,I r.2.2]:Value)) hs6.symm,(by rw [hs6];exact sl1)⟩
  ·refine qT 5 U ?_
   refine ar 3 [32,33,34,35] 35 (.bool ((mode==3)&&decide (0≤(bW permits eK)))) (fun hk2=>?_) (fun e=>?_)
   ·refine ac 32 U (fun c4=>?_) (fun c4=>?_)
    ·refine qO 3 U ?_
     exact hk2 _ (cb (cB c4))
    ·refine qO 3 U ?_
     exact hk2 _ (cb (cC c4))
   refine an ?_
   refine ak hs5 U (fun c5 hs7=>?_) (fun c5 hs8=>?_)
   ·refine qT 3 U (aN (bK (cells:=[I (bW permits eK)]) cN ty3 zc3 U U kr (fun b2=>qO 4 U ?_)))
    refine e6 0 U hM (fun h2 hle2 hb2=>?_)
    have sl2:SlC Rp.int h2 (some ⟨b2,0,none⟩) 1 ([(bW permits eK)]):=bD.slB0 (T:=3) (fz:=(0,0)) ((show bD Rp.int h [I (bW permits eK)] ([(bW permits eK)]) from ⟨[I (bW permits eK)],[],rfl,rfl,rfl,rfl⟩).mono Rp.bi hle2) hb2
    have hs9:aY mode permits=([(bW permits eK)],false,0):=hs7
    exact cJ [.slice (some ⟨b2,0,none⟩) 1 1,.bool false,I 0] zY U rd ⟨(some ⟨b2,0,none⟩),1,congrArg (fun r:((List Int)×Bool×Int)=>(.tuple #[.slice (some ⟨b2,0,none⟩) r.1.length 1,.bool r.2.1,I r.2.2]:Value)) hs9.symm,(by rw [hs9];exact sl2)⟩
   ·refine qT 6 U ?_
    refine ak hs8 U (fun c6 hs10=>?_) (fun c6 hs11=>?_)
    ·refine qT 10 U (a8 rN U (qO 2 U ?_))
     refine aU (ι:=Nat×(List Int)×Option Addr×Nat×LH) (fun i=>[(4,.slice i.2.2.1 i.2.1.length i.2.2.2.1),(5,.bool (decide (0≤(bW permits dG))))]) (fun i=>h) (fun i=>i.2.2.2.2) (fun i=>i.1≤permits.length∧aY mode permits=((aY.K1 permits) i.2.1)∧eb Rp.int 3 h i.2.1 i.2.2.1 i.2.2.2.1 i.2.2.2.2∧i.2.1.length≤0+i.1) ?_ (fun hx1=>?_)
     ·rintro ⟨i1,ky,oI,oH,qg⟩ ⟨aP,hs12,lA,sJ⟩ e
      try dsimp only at aP lA sJ
      refine qT 8 U ?_
      refine eY Rp.bi ([]) qg ([]) ap hM lA (fun h4 hle4 sl4=>?_)
      have hs13:aY mode permits=(ky,decide (0≤(bW permits dG)),0):=hs12
      exact cJ [.slice oI ky.length oH,.bool (decide (0≤(bW permits dG))),I 0] zY U rd ⟨oI,oH,congrArg (fun r:((List Int)×Bool×Int)=>(.tuple #[.slice oI r.1.length oH,.bool r.2.1,I r.2.2]:Value)) hs13.symm,(by rw [hs13];exact sl4)⟩
     ·refine bG (ι:=Nat×(List Int)×Option Addr×Nat×LH×List Bool) (fun i=>[(4,.slice i.2.2.1 i.2.1.length i.2.2.2.1),(5,.bool (decide (0≤(bW permits dG)))),(55,I ((permits.length:Nat):Int)),(56,I ((i.1:Nat):Int))]) (fun i=>h) (fun i=>i.2.2.2.2.1) (fun i=>permits.drop i.1=i.2.2.2.2.2∧i.1≤permits.length∧aY mode permits=((aY.L1 (aY.K1 permits)) i.2.2.2.2.2 i.1 i.2.1)∧eb Rp.int 3 h i.2.1 i.2.2.1 i.2.2.2.1 i.2.2.2.2.1∧i.2.1.length≤0+i.1) (fun i=>i.2.2.2.2.2.length) (0,[],none,0,[],permits) rd sw ⟨U,Nat.zero_le _,hs10,eb.nil,lo⟩ ?_
      rintro ⟨i1,ky,oI,oH,qg,s1⟩ ⟨hd1,aP,hs14,lA,sJ⟩ ag1 e
      try dsimp only at hd1 aP lA sJ
      rcases s1 with _ | ⟨y1,rz1⟩
      ·have dr:=cw hd1
       refine sr (ai (v':=.bool false) U (cb dr) (qO 4 U ?_))
       exact hx1 (i1,ky,oI,oH,qg) _ ⟨aP,hs14,lA,lo⟩ rd
      ·have dq:=dy hd1
       have aM:=cA hd1
       have ey:=aE hd1
       have gi:=hpermits.1.1
       refine sr (ai (v':=.bool true) U (cb dq) (qO 14 U (aN (bK (cells:=[I ((i1:Nat):Int)]) cN ty3 zc3 U U kr (fun b4=>?_)))))
       refine aN (db Rp.fp ([(b4,O [I ((i1:Nat):Int)] 3)]) ([]) (fun G=>[(b4,O [I ((i1:Nat):Int)] 3)]++(G)) ap (fun _=>ap) cN ty3 zc3 U bytes3 lA U U (eI 0 U (show bD Rp.int h [I ((i1:Nat):Int)] ([((i1:Nat):Int)]) from ⟨[I ((i1:Nat):Int)],[],U,U,U,U⟩)) lo lo (fun ob2 oc2 G2 gr2=>(qO 4 U (ai (v':=I (((i1+1):Nat):Int)) U (bz ob) (qO 2 U ?_)))))
       refine cG (L':=G2) js ?_
       exact ag1 ((i1+1),(ky++[((i1:Nat):Int)]),ob2,oc2,G2,rz1) _ (Nat.lt_succ_self _) ⟨ba hd1,aE hd1,hs14,gr2,lo⟩ rd
    ·refine qT 6 U ?_
     refine ak hs11 U (fun c7 hs16=>?_) (fun c7 hs17=>?_)
     ·refine qT 2 U (a8 rN U (qO 2 U ?_))
      refine ar 4 [49,50,51,52,53] 53 (.bool ((((permits.length:Nat):Int)==1)&&(nthI permits 0))) (fun hk3=>?_) (fun e=>?_)
      ·refine ac 49 U (fun c8=>?_) (fun c8=>?_)
       ·refine aB ?_
        have ho1:0≤(0:Int)∧(0:Int) < ((permits).length:Int):=ob
        refine aN (eU (enc:=fun y=>[.bool y]) (fun _ _ _ e=>e) rN ty4 hpermits.1 ho1 (df ho1) U U U (fun q1 A1=>dv ty4 A1 U (eH U ?_)))
        exact hk3 _ (cb (cB c8))
       ·refine qO 4 U ?_
        exact hk3 _ (cb (cC c8))
      refine qO 7 U (a8 rN U (qO 2 U ?_))
      refine aU (ι:=Nat×(List Int)×Option Addr×Nat×LH) (fun i=>[(4,.slice i.2.2.1 i.2.1.length i.2.2.2.1),(5,.bool ((((permits.length:Nat):Int)==1)&&(nthI permits 0)))]) (fun i=>h) (fun i=>i.2.2.2.2) (fun i=>i.1≤permits.length∧aY mode permits=((aY.K2 permits) i.2.1)∧eb Rp.int 3 h i.2.1 i.2.2.1 i.2.2.2.1 i.2.2.2.2∧i.2.1.length≤0+i.1) ?_ (fun hx2=>?_)
      ·rintro ⟨i2,yS,Dp,Do,HW⟩ ⟨jq,hs18,AO,HV⟩ e
       try dsimp only at jq AO HV
       refine qT 8 U ?_
       refine eY Rp.bi ([]) HW ([]) ap hM AO (fun h6 hle6 sl6=>?_)
       have hs19:aY mode permits=(yS,((((permits.length:Nat):Int)==1)&&(nthI permits 0)),0):=hs18
       exact cJ [.slice Dp yS.length Do,.bool ((((permits.length:Nat):Int)==1)&&(nthI permits 0)),I 0] zY U rd ⟨Dp,Do,congrArg (fun r:((List Int)×Bool×Int)=>(.tuple #[.slice Dp r.1.length Do,.bool r.2.1,I r.2.2]:Value)) hs19.symm,(by rw [hs19];exact sl6)⟩
      ·refine bG (ι:=Nat×(List Int)×Option Addr×Nat×LH×List Bool) (fun i=>[(4,.slice i.2.2.1 i.2.1.length i.2.2.2.1),(5,.bool ((((permits.length:Nat):Int)==1)&&(nthI permits 0))),(55,I ((permits.length:Nat):Int)),(56,I ((i.1:Nat):Int))]) (fun i=>h) (fun i=>i.2.2.2.2.1) (fun i=>permits.drop i.1=i.2.2.2.2.2∧i.1≤permits.length∧aY mode permits=((aY.L2 (aY.K2 permits)) i.2.2.2.2.2 i.1 i.2.1)∧eb Rp.int 3 h i.2.1 i.2.2.1 i.2.2.2.1 i.2.2.2.2.1∧i.2.1.length≤0+i.1) (fun i=>i.2.2.2.2.2.length) (0,[],none,0,[],permits) rd sw ⟨U,Nat.zero_le _,hs16,eb.nil,lo⟩ ?_
       rintro ⟨i2,yS,Dp,Do,HW,s2⟩ ⟨hd2,jq,hs20,AO,HV⟩ ag2 e
       try dsimp only at hd2 jq AO HV
       rcases s2 with _ | ⟨y2,rz2⟩
       ·have sD:=cw hd2
        refine sr (ai (v':=.bool false) U (cb sD) (qO 4 U ?_))
        exact hx2 (i2,yS,Dp,Do,HW) _ ⟨jq,hs20,AO,lo⟩ rd
       ·have pW:=dy hd2
        have jL:=cA hd2
        have wH:=aE hd2
        have Df:=hpermits.1.1
        refine sr (ai (v':=.bool true) U (cb pW) (qO 14 U (aN (bK (cells:=[I ((i2:Nat):Int)]) cN ty3 zc3 U U kr (fun b6=>?_)))))
        refine aN (db Rp.fp ([(b6,O [I ((i2:Nat):Int)] 3)]) ([]) (fun G=>[(b6,O [I ((i2:Nat):Int)] 3)]++(G)) ap (fun _=>ap) cN ty3 zc3 U bytes3 AO U U (eI 0 U (show bD Rp.int h [I ((i2:Nat):Int)] ([((i2:Nat):Int)]) from ⟨[I ((i2:Nat):Int)],[],U,U,U,U⟩)) lo lo (fun ob4 oc4 G4 gr4=>(qO 4 U (ai (v':=I (((i2+1):Nat):Int)) U (bz ob) (qO 2 U ?_)))))
        refine cG (L':=G4) js ?_
        exact ag2 ((i2+1),(yS++[((i2:Nat):Int)]),ob4,oc4,G4,rz2) _ (Nat.lt_succ_self _) ⟨ba hd2,aE hd2,hs20,gr4,lo⟩ rd
     ·refine qT 6 U (a8 rN U (qO 2 U ?_))
      refine aU (ι:=Nat×(List Int)×Option Addr×Nat×LH) (fun i=>[(4,.slice i.2.2.1 i.2.1.length i.2.2.2.1),(5,.bool false)]) (fun i=>h) (fun i=>i.2.2.2.2) (fun i=>i.1≤permits.length∧aY mode permits=((aY.K3) i.2.1)∧eb Rp.int 3 h i.2.1 i.2.2.1 i.2.2.2.1 i.2.2.2.2∧i.2.1.length≤0+i.1) ?_ (fun hx3=>?_)
      ·rintro ⟨i3,yK,Dk,Dj,HS⟩ ⟨nU,hs22,AM,HR⟩ e
       try dsimp only at nU AM HR
       refine qT 8 U ?_
       refine eY Rp.bi ([]) HS ([]) ap hM AM (fun h8 hle8 sl8=>?_)
       have hs23:aY mode permits=(yK,false,0):=hs22
       exact cJ [.slice Dk yK.length Dj,.bool false,I 0] zY U rd ⟨Dk,Dj,congrArg (fun r:((List Int)×Bool×Int)=>(.tuple #[.slice Dk r.1.length Dj,.bool r.2.1,I r.2.2]:Value)) hs23.symm,(by rw [hs23];exact sl8)⟩
      ·refine bG (ι:=Nat×(List Int)×Option Addr×Nat×LH×List Bool) (fun i=>[(4,.slice i.2.2.1 i.2.1.length i.2.2.2.1),(5,.bool false),(55,I ((permits.length:Nat):Int)),(56,I ((i.1:Nat):Int))]) (fun i=>h) (fun i=>i.2.2.2.2.1) (fun i=>permits.drop i.1=i.2.2.2.2.2∧i.1≤permits.length∧aY mode permits=((aY.L3 (aY.K3)) i.2.2.2.2.2 i.1 i.2.1)∧eb Rp.int 3 h i.2.1 i.2.2.1 i.2.2.2.1 i.2.2.2.2.1∧i.2.1.length≤0+i.1) (fun i=>i.2.2.2.2.2.length) (0,[],none,0,[],permits) rd sw ⟨U,Nat.zero_le _,hs17,eb.nil,lo⟩ ?_
       rintro ⟨i3,yK,Dk,Dj,HS,s3⟩ ⟨hd3,nU,hs24,AM,HR⟩ ag3 e
       try dsimp only at hd3 nU AM HR
       rcases s3 with _ | ⟨y3,rz3⟩
       ·have BB:=cw hd3
        refine sr (ai (v':=.bool false) U (cb BB) (qO 4 U ?_))
        exact hx3 (i3,yK,Dk,Dj,HS) _ ⟨nU,hs24,AM,lo⟩ rd
       ·have BA:=dy hd3
        have rm:=cA hd3
        have FB:=aE hd3
        have I2:=hpermits.1.1
        refine sr (ai (v':=.bool true) U (cb BA) (qO 14 U (aN (bK (cells:=[I ((i3:Nat):Int)]) cN ty3 zc3 U U kr (fun b8=>?_)))))
        refine aN (db Rp.fp ([(b8,O [I ((i3:Nat):Int)] 3)]) ([]) (fun G=>[(b8,O [I ((i3:Nat):Int)] 3)]++(G)) ap (fun _=>ap) cN ty3 zc3 U bytes3 AM U U (eI 0 U (show bD Rp.int h [I ((i3:Nat):Int)] ([((i3:Nat):Int)]) from ⟨[I ((i3:Nat):Int)],[],U,U,U,U⟩)) lo lo (fun ob6 oc6 G6 gr6=>(qO 4 U (ai (v':=I (((i3+1):Nat):Int)) U (bz ob) (qO 2 U ?_)))))
        refine cG (L':=G6) js ?_
        exact ag3 ((i3+1),(yK++[((i3:Nat):Int)]),ob6,oc6,G6,rz3) _ (Nat.lt_succ_self _) ⟨ba hd3,aE hd3,hs24,gr6,lo⟩ rd
theorem tT (h:HF) (mode:Int) (permits:(List Bool)) (jQ:Option Addr) (jP:Nat) (hpermits:SlC Rp.bool h jQ jP permits) (hsz0:permits.length≤2000000):Ret Tryz.prog 49 [I mode,.slice jQ permits.length jP] h (.tuple #[.bool ((fc mode permits).1),I ((fc mode permits).2)]):=by
 refine ae Tryz.func49 U Tryz.ntmps49 U fun X hM hX=>?_
 have hs0:fc mode permits=fc mode permits:=rfl
 refine qT 9 U (aN (cy Tryz.call98 (tR h mode permits jQ jP hpermits ob) U (fun v1 h1 hle1 hp1=>?_)))
 obtain ⟨rb1,rc1,rfl,sl1⟩:=hp1
 refine qO 14 U ?_
 have hs1:fc mode permits=((aY mode permits).2.1,(aY mode permits).2.2):=hs0
 exact ah [.bool ((aY mode permits).2.1),I ((aY mode permits).2.2)] Tryz.func49 U hX rd (congrArg (fun r:(Bool×Int)=>(.tuple #[.bool r.1,I r.2]:Value)) hs1.symm)
theorem sB (h:HF) (l:(List Interest)) (eD:Option Addr) (eC:Nat) (person:Int) (parties:(List Int)) (jh:Option Addr) (jg:Nat) (aZ:Int) (known:Int) (hl:SlC Interest.rp h eD eC l) (hparties:SlC Rp.int h jh jg parties):Ret Tryz.prog 84 [.slice eD l.length eC,I person,.slice jh parties.length jg,I aZ,I known] h (I (cn l person parties aZ known)):=by
 refine ae E6 U Tryz.ntmps84 U fun X hM hX=>?_
 have hs0:cn l person parties aZ known=cn l person parties aZ known:=rfl
 refine qT 8 U (au (v:=I (cr l)) Tryz.call53 (oA h l eD eC hl) U (qO 7 U ?_))
 refine ak hs0 U (fun c1 hs1=>?_) (fun c1 hs2=>?_)
 ·refine qT 5 U ?_
  exact ah [I (cr l)] E6 U hX rd (ci hs1)
 ·refine qT 9 U (a8 cN U (qO 2 U ?_))
  refine aU (ι:=Nat×Int) (fun i=>[(1,I person),(2,.slice jh parties.length jg),(3,I aZ),(4,I known)]) (fun i=>h) (fun i=>[]) (fun i=>i.1≤parties.length∧cn l person parties aZ known=((cn.K1 person parties aZ known) i.2)) ?_ (fun hx1=>?_)
  ·rintro ⟨i1,wI⟩ ⟨aP,hs4⟩ e
   try dsimp only at aP
   refine qT 4 U (au (v:=.bool (aF person 64)) wl (gd h person 64 ) U (qO 2 U ?_))
   refine ar 4 [38,39,40,41,42] 42 (.bool ((!(aF person 64))||decide (16 < ((parties.length:Nat):Int)))) (fun hk1=>?_) (fun e=>?_)
   ·refine ac 38 U (fun c2=>?_) (fun c2=>?_)
    ·refine qO 4 U ?_
     exact hk1 _ (cb (dW c2))
    ·refine aB (a8 cN U (qO 2 U ?_))
     exact hk1 _ (cb (dX c2))
   refine aB ?_
   refine ar 4 [43,44,45,46,47] 47 (.bool (((!(aF person 64))||decide (16 < ((parties.length:Nat):Int)))||(!(aF aZ 1099511627776)))) (fun hk2=>?_) (fun e=>?_)
   ·refine ac 43 U (fun c3=>?_) (fun c3=>?_)
    ·refine qO 4 U ?_
     exact hk2 _ (cb (dW c3))
    ·refine aB (au (v:=.bool (aF aZ 1099511627776)) wl (gd h aZ 1099511627776 ) U (qO 2 U ?_))
     exact hk2 _ (cb (dX c3))
   refine aB ?_
   refine ar 4 [48,49,50,51,52] 52 (.bool ((((!(aF person 64))||decide (16 < ((parties.length:Nat):Int)))||(!(aF aZ 1099511627776)))||(!(aF known 1099511627776)))) (fun hk3=>?_) (fun e=>?_)
   ·refine ac 48 U (fun c4=>?_) (fun c4=>?_)
    ·refine qO 4 U ?_
     exact hk3 _ (cb (dW c4))
    ·refine aB (au (v:=.bool (aF known 1099511627776)) wl (gd h known 1099511627776 ) U (qO 2 U ?_))
     exact hk3 _ (cb (dX c4))
   refine bh ?_
   refine ak hs4 U (fun c5 hs5=>?_) (fun c5 hs6=>?_)
   ·refine qT 4 U ?_
    exact ah [I 1] E6 U hX rd (ci hs5)
   ·refine qT 5 U ?_
    exact ah [I 0] E6 U hX rd (ci hs6)
  ·refine bG (ι:=Nat×Int×List Int) (fun i=>[(1,I person),(2,.slice jh parties.length jg),(3,I aZ),(4,I known),(12,I i.2.1),(20,.slice jh parties.length jg),(21,I ((parties.length:Nat):Int)),(22,I ((i.1:Nat):Int))]) (fun i=>h) (fun i=>[]) (fun i=>parties.drop i.1=i.2.2∧i.1≤parties.length∧cn l person parties aZ known=((cn.L1 (cn.K1 person parties aZ known)) i.2.2 i.2.1)) (fun i=>i.2.2.length) (0,(-1),parties) rd sw ⟨U,Nat.zero_le _,hs2⟩ ?_
   rintro ⟨i1,wI,s1⟩ ⟨hd1,aP,hs9⟩ ag1 e
   try dsimp only at hd1 aP
   rcases s1 with _ | ⟨y1,rz1⟩
   ·have dr:=cw hd1
    refine sr (ai (v':=.bool false) U (cb dr) (qO 4 U ?_))
    exact hx1 (i1,wI) _ ⟨aP,hs9⟩ rd
   ·have dq:=dy hd1
    have aM:=cA hd1
    have ey:=aE hd1
    have gi:=hparties.1.1
    refine sr (ai (v':=.bool true) U (cb dq) (qO 8 U (aN (eU (enc:=fun y=>[I y]) (fun _ _ _ e=>e) cN ty3 hparties.1 (nthZ aM) (aV aM) U U U (fun q2 A2=>?_)))))
    refine dv ty3 A2 U (qO 9 U ?_)
    refine ar 3 [29,30,31,32] 32 (.bool (decide (y1≤wI)||decide (1048576 < y1))) (fun hk4=>?_) (fun e=>?_)
    ·refine ac 29 U (fun c6=>?_) (fun c6=>?_)
     ·refine qO 3 U ?_
      exact hk4 _ (cb (dW c6))
     ·refine qO 3 U ?_
      exact hk4 _ (cb (dX c6))
    refine bh ?_
    refine ak hs9 U (fun c7 hs11=>?_) (fun c7 hs12=>?_)
    ·refine qT 4 U ?_
     exact ah [I 1] E6 U hX rd (ci hs11)
    ·refine qT 7 U (ai (v':=I (((i1+1):Nat):Int)) U (bz ob) (qO 2 U ?_))
     exact ag1 ((i1+1),y1,rz1) _ (Nat.lt_succ_self _) ⟨ba hd1,aE hd1,hs12⟩ rd
theorem pV (h:HF) (v0:(List Interest)) (Jr:Option Addr) (Jq:Nat) (v0_q:Addr) (v1:(List (dz×Interest))) (J3:Nat) (v1_q:Addr) (hv0:SlC Interest.rp h Jr Jq v0) (av0:At h v0_q [.slice Jr v0.length Jq]) (hv1:oR dz.enc (kx Interest.rp) h J3 v1) (av1:At h v1_q [.map (some J3)]):Itr Tryz.prog (.func (.func 146) #[] (List.toArray [.pointer (some v0_q),.pointer (some v1_q)])) qK (bE v0 v1) h:=by
 refine vS Tryz.call146 ?_
 intro yf ya yb C Sp Pn h1 A hle m1 m2 m3 hC hy
 refine jS B8 U Tryz.ntmps146 U fun X hXM hX=>?_
 have hs0:bE v0 v1=[]++bE v0 v1:=rfl
 refine sr (dv ty24 (av0.mono hle) U (a8 kS U (qO 2 U ?_)))
 refine aU (ι:=Nat×List Interest×LH×HF) (fun i=>[]) (fun i=>i.2.2.2) (fun i=>i.2.2.1) (fun i=>i.1≤v0.length∧bE v0 v1=i.2.1++((bE.K1))∧C i.2.1 i.2.2.2 i.2.2.1∧HF.le h1 i.2.2.2) ?_ (fun hx1=>?_)
 ·rintro ⟨i1,dn1,A1_,hh1⟩ ⟨aP,hs1,hC1_,hl1⟩ e
  try dsimp only at aP hC1_ hl1
  refine gp ?_
  have hs2:bE v0 v1=dn1:=hs1.trans (List.append_nil _)
  exact vT [] (A:=A1_) B8 U (List.Sublist.refl _) (.inl (hs2 ▸ hC1_))
 ·refine bG (ι:=Nat×List Interest×LH×HF×List Interest) (fun i=>[(0,.func yf ya yb),(2,.pointer (some v1_q)),(6,.slice Jr v0.length Jq),(7,I ((v0.length:Nat):Int)),(8,I ((i.1:Nat):Int))]) (fun i=>i.2.2.2.1) (fun i=>i.2.2.1) (fun i=>v0.drop i.1=i.2.2.2.2∧i.1≤v0.length∧bE v0 v1=i.2.1++((bE.L1 v1 (bE.K1)) i.2.2.2.2 )∧C i.2.1 i.2.2.2.1 i.2.2.1∧HF.le h1 i.2.2.2.1) (fun i=>i.2.2.2.2.length) (0,[],A,h1,v0) rd sw ⟨U,Nat.zero_le _,hs0,hC,(HF.le_refl h1)⟩ ?_
  rintro ⟨i1,dn1,A1_,hh1,s1⟩ ⟨hd1,aP,hs3,hC1_,hl1⟩ ag1 e
  try dsimp only at hd1 aP hC1_ hl1
  rcases s1 with _ | ⟨y1,rz1⟩
  ·have dr:=cw hd1
   refine sr (ai (v':=.bool false) U (cb dr) (qO 4 U ?_))
   exact hx1 (i1,dn1,A1_,hh1) _ ⟨aP,hs3,hC1_,hl1⟩ trivial
  ·have dq:=dy hd1
   have aM:=cA hd1
   have ey:=aE hd1
   have gi:=(hv0.mono Interest.aD hle).1.1
   refine sr (ai (v':=.bool true) U (cb dq) (qO 8 U (aN (eU (enc:=Interest.cells) (fun _ _ _ e=>e) kS ty61 (hv0.mono Interest.aD (hle.t hl1)).1 (nthZ aM) (aV aM) U U U (fun q2 A2=>?_)))))
   refine el ty61 A2 U U (bR zc61 (fun b2=>bL 0 ty61 U U U U U U (iT (L':=[(b2,O (Interest.cells y1) 61)]++(A1_)) U (qO 2 U ?_))))
   let z1:Nat×Obj:=(b2,O (Interest.cells y1) 61)
   refine fd ([z1]) mixed kr jn (fun dU _=>?_)
   refine tf 0 U U (fun _ _ _=>dx I5 U) (tf 1 U U (fun _ _ hj=>gH ty4 U (hj.nth (i:=0) U) U) (qA [2,3] U ?_))
   refine dM 15 U (fun c1=>?_) (fun c1=>?_)
   ·refine tf 4 U U (fun _ _ hj=>fK ty205 ((av1.mono (hle.t hl1)).mono hj.1) U) (tf 5 U U (fun _ _ _=>dx mJ U) ?_)
    refine tf 6 U U (fun _ _ hj=>gH ty3 U (hj.nth (i:=0) U) U) (tf 7 U U (fun _ _ _=>dx pu U) ?_)
    refine tf 8 U U (fun _ _ hj=>gH ty3 U (hj.nth (i:=0) U) U) (tf 9 U U (fun _ _ _=>dx vc U) ?_)
    refine tf 10 U U (fun _ _ hj=>gH ty4 U (hj.nth (i:=0) U) U) (tf 13 U U (fun _ _ hj=>jT ty61 U (hj.nth (i:=0) U) U) ?_)
    refine tn 11 U (fq (cells:=[I y1.Person,I y1.Party,.bool y1.Of]) (places:=[(0,1),(1,1),(2,1)]) Fe zc207 kr kr (⟨jn,?_⟩))
    refine tn 12 U ?_
    obtain ⟨o2,hb2,hm2⟩:=(hv1.mono (kx.mono Interest.aD) (hle.t hl1))
    refine pJ (k:=(dz.mk y1.Person y1.Party y1.Of)) Tryz.underlying205 pE hb2 hm2 (jf zv61) (show (kx Interest.rp) _ (.agg (List.toArray [I 0,I 0,I 0,I 0,I 0,.bool false,.bool false])) (Interest.mk 0 0 0 0 0 false false) from ⟨_,U,U⟩) U U (fun v2 hv2=>?_)
    obtain ⟨_,rfl,rfl⟩:=hv2
    refine ⟨jn,(tf 14 U U (fun _ _ _=>J8 (BN (mgetD v1 (dz.mk y1.Person y1.Party y1.Of) (Interest.mk 0 0 0 0 0 false false)) y1) eqg61 U U) ?_)⟩
    refine tf 15 U U (fun _ _ _=>sS U (cb (show (decide ((mgetD v1 (dz.mk y1.Person y1.Party y1.Of) (Interest.mk 0 0 0 0 0 false false))=y1))=((!y1.Gone)&&(decide ((mgetD v1 (dz.mk y1.Person y1.Party y1.Of) (Interest.mk 0 0 0 0 0 false false))=y1))) from by first | (rw [c1];rfl) | (rw [c1];rfl) | simp [c1]))) (tm 16 U ?_)
    refine dM 28 U (fun c2=>?_) (fun c2=>?_)
    ·have ct1:=c2
     have hs5:=hs3.trans (congrArg (dn1++·) (bt ct1))
     refine tm 17 U (tf 18 U U (fun _ _ hj=>jT ty61 U (hj.nth (i:=0) U) U) ?_)
     have hx1:bE v0 v1=dn1++(y1::(bE.L1 v1 (bE.K1) rz1 )):=hs5
     refine tn 19 U (lS ([z1]) A1_ ap (hy dn1 y1 _ _ _ _ hx1 hl1 hC1_ U) U U (fun h2 A3 hle1 hC1=>?_) (fun h3 A4 hle2 hS1=>?_) (fun ch1 h4 A5 hle3 hP1 e=>i6 (qM [] (A:=A5) B8 (List.sublist_append_right _ _) hP1)))
     ·have hs6:bE v0 v1=(dn1++[y1])++((bE.L1 v1 (bE.K1) rz1 )):=hx1.trans ap
      refine ⟨⟨hle1,fun _ hp=>List.Sublist.subset js hp⟩,mS (K2:=[z1]) hle1 (fun _ hp=>hp) (qA [20,21] U (bv kr (qT 4 U (ai (v':=I (((i1+1):Nat):Int)) U (bz ob) (qO 2 U ?_)))))⟩
      refine cG (L':=A3) js ?_
      exact ag1 ((i1+1),(dn1++[y1]),A3,h2,rz1) _ (Nat.lt_succ_self _) ⟨ba hd1,aE hd1,hs6,hC1,(hl1.t hle1)⟩ rd
     ·refine ⟨⟨hle2,fun _ hp=>List.Sublist.subset js hp⟩,mS (K2:=[z1]) hle2 (fun _ hp=>hp) (qA [20,21] U (bv kr (lJ U ?_)))⟩
      refine gp ?_
      exact qL [] (A:=A4) B8 U js (.inr hS1)
    ·have ct2:=c2
     have hs7:=hs3.trans (congrArg (dn1++·) (bf ct2))
     refine qR 17 5 U (bv kr (qT 4 U (ai (v':=I (((i1+1):Nat):Int)) U (bz ob) (qO 2 U ?_))))
     refine cG (L':=A1_) js ?_
     exact ag1 ((i1+1),dn1,A1_,hh1,rz1) _ (Nat.lt_succ_self _) ⟨ba hd1,aE hd1,hs7,hC1_,hl1⟩ rd
   ·refine qR 4 11 U (tf 15 U U (fun _ _ _=>sS U (cb (show false=((!y1.Gone)&&(decide ((mgetD v1 (dz.mk y1.Person y1.Party y1.Of) (Interest.mk 0 0 0 0 0 false false))=y1))) from by first | (rw [c1];rfl) | (rw [c1];rfl) | simp [c1]))) (tm 16 U ?_))
    refine dM 28 U (fun c3=>?_) (fun c3=>?_)
    ·have ct3:=c3
     have hs8:=hs3.trans (congrArg (dn1++·) (bt ct3))
     refine tm 17 U (tf 18 U U (fun _ _ hj=>jT ty61 U (hj.nth (i:=0) U) U) ?_)
     have hx2:bE v0 v1=dn1++(y1::(bE.L1 v1 (bE.K1) rz1 )):=hs8
     refine tn 19 U (lS ([z1]) A1_ ap (hy dn1 y1 _ _ _ _ hx2 hl1 hC1_ U) U U (fun h5 A6 hle4 hC2=>?_) (fun h6 A7 hle5 hS2=>?_) (fun ch2 h7 A8 hle6 hP2 e=>i6 (qM [] (A:=A8) B8 (List.sublist_append_right _ _) hP2)))
     ·have hs9:bE v0 v1=(dn1++[y1])++((bE.L1 v1 (bE.K1) rz1 )):=hx2.trans ap
      refine ⟨⟨hle4,fun _ hp=>List.Sublist.subset js hp⟩,mS (K2:=[z1]) hle4 (fun _ hp=>hp) (qA [20,21] U (bv kr (qT 4 U (ai (v':=I (((i1+1):Nat):Int)) U (bz ob) (qO 2 U ?_)))))⟩
      refine cG (L':=A6) js ?_
      exact ag1 ((i1+1),(dn1++[y1]),A6,h5,rz1) _ (Nat.lt_succ_self _) ⟨ba hd1,aE hd1,hs9,hC2,(hl1.t hle4)⟩ rd
     ·refine ⟨⟨hle5,fun _ hp=>List.Sublist.subset js hp⟩,mS (K2:=[z1]) hle5 (fun _ hp=>hp) (qA [20,21] U (bv kr (lJ U ?_)))⟩
      refine gp ?_
      exact qL [] (A:=A7) B8 U js (.inr hS2)
    ·have ct4:=c3
     have hs10:=hs3.trans (congrArg (dn1++·) (bf ct4))
     refine qR 17 5 U (bv kr (qT 4 U (ai (v':=I (((i1+1):Nat):Int)) U (bz ob) (qO 2 U ?_))))
     refine cG (L':=A1_) js ?_
     exact ag1 ((i1+1),dn1,A1_,hh1,rz1) _ (Nat.lt_succ_self _) ⟨ba hd1,aE hd1,hs10,hC1_,hl1⟩ rd
theorem rA (h:HF) (l:(List Interest)) (eD:Option Addr) (eC:Nat) (fM:Int) (known:Int) (hl:SlC Interest.rp h eD eC l):je Tryz.prog 86 [.slice eD l.length eC,I fM,I known] h (fun v h'=>∃ (rv0:Value),v=rv0∧Itr Tryz.prog rv0 qK (bP l fM known) h'):=by
 refine ae Tryz.func86 U Tryz.ntmps86 U fun X hM hX=>?_
 have hs0:bP l fM known=bP l fM known:=rfl
 refine sr (dt (fun b1=>qO 4 U (aN (oZ (fun b2=>bR zc205 (fun b3=>dS 0 ty205 U U U U U U (qO 4 U (aI 2 ty24 U U U (a8 kS U (qO 2 U ?_))))))))))
 let z1:Nat×Obj:=(b1,O [.slice eD l.length eC] 24)
 let z2:Nat×Obj:=(b3,O [.map (some b2)] 205)
 refine aU (ι:=Nat×(List (dz×Interest))×Obj) (fun i=>[(3,Q b1),(7,Q b3)]) (fun i=>h) (fun i=>[z2,(b2,i.2.2),z1]) (fun i=>i.1≤l.length∧bP l fM known=((bP.K1 l) i.2.1)∧gC dz.enc (kx Interest.rp) h i.2.2 i.2.1∧i.2.1.length≤0+i.1) ?_ (fun hx1=>?_)
 ·rintro ⟨i1,dw,jc⟩ ⟨aP,hs1,fH,jJ⟩ e
  try dsimp only at aP fH jJ
  refine sr (bX 2 U hM (fun h1 hle1 hb1=>bX 0 U hM (fun h2 hle2 hb2=>aN (gg U U (an ?_)))))
  refine e6 0 U hM (fun h3 hle3 hb3=>?_)
  have mc1:oR dz.enc (kx Interest.rp) h3 b2 dw:=⟨_,hb3,(fH.mono (kx.mono Interest.aD) (hle1.t hle2)).mono (kx.mono Interest.aD) hle3⟩
  have hs2:bP l fM known=(bE l dw):=hs1
  exact cJ [.func (.func 146) #[] #[Q b1,Q b3]] Tryz.func86 U rd ⟨(.func (.func 146) #[] #[Q b1,Q b3]),congrArg (fun r:(List Interest)=>((.func (.func 146) #[] #[Q b1,Q b3]):Value)) hs2.symm,(by rw [hs2];exact (pV h3 l eD eC ⟨b1,0,none⟩ dw b2 ⟨b3,0,none⟩ (hl.mono Interest.aD ((hle1.t hle2).t hle3)) ((dN hb1).mono (hle2.t hle3)) mc1 ((dN hb2).mono hle3)))⟩
 ·refine bG (ι:=Nat×(List (dz×Interest))×Obj×List Interest) (fun i=>[(1,I fM),(2,I known),(3,Q b1),(7,Q b3),(14,.slice eD l.length eC),(15,I ((l.length:Nat):Int)),(16,I ((i.1:Nat):Int))]) (fun i=>h) (fun i=>[z2,(b2,i.2.2.1),z1]) (fun i=>l.drop i.1=i.2.2.2∧i.1≤l.length∧bP l fM known=((bP.L1 fM known (bP.K1 l)) i.2.2.2 i.2.1)∧gC dz.enc (kx Interest.rp) h i.2.2.1 i.2.1∧i.2.1.length≤0+i.1) (fun i=>i.2.2.2.length) (0,[],.map #[] 0,l) rd sw ⟨U,Nat.zero_le _,hs0,(gC.nil (enc:=dz.enc) (V:=(kx Interest.rp)) (h:=h)),lc⟩ ?_
  rintro ⟨i1,dw,jc,s1⟩ ⟨hd1,aP,hs3,fH,jJ⟩ ag1 e
  try dsimp only at hd1 aP fH jJ
  rcases s1 with _ | ⟨y1,rz1⟩
  ·have dr:=cw hd1
   refine sr (ai (v':=.bool false) U (cb dr) (qO 4 U ?_))
   exact hx1 (i1,dw,jc) _ ⟨aP,hs3,fH,lc⟩ rd
  ·have dq:=dy hd1
   have aM:=cA hd1
   have ey:=aE hd1
   have gi:=hl.1.1
   refine sr (ai (v':=.bool true) U (cb dq) (qO 8 U (aN (eU (enc:=Interest.cells) (fun _ _ _ e=>e) kS ty61 hl.1 (nthZ aM) (aV aM) U U U (fun q2 A2=>?_)))))
   refine el ty61 A2 U U (bR zc61 (fun b5=>bL 0 ty61 U U U U U U (qO 4 U (aj sY U (aI 0 ty3 U U U (qO 3 U ?_))))))
   refine ar 5 [24,25,26,27,28,29] 29 (.bool (decide (fM < y1.At)||decide (known < y1.Known))) (fun hk1=>?_) (fun e=>?_)
   ·refine ac 24 U (fun c1=>?_) (fun c1=>?_)
    ·refine qO 5 U ?_
     exact hk1 _ (cb (dW c1))
    ·refine aj BI U (aI 0 ty3 U U U (qO 3 U ?_))
     exact hk1 _ (cb (dX c1))
   refine bh ?_
   refine ak hs3 U (fun c2 hs5=>?_) (fun c2 hs6=>?_)
   ·refine qT 2 U (ai (v':=I (((i1+1):Nat):Int)) U (bz ob) (qO 2 U ?_))
    refine cG (L':=[z2,(b2,jc),z1]) js ?_
    exact ag1 ((i1+1),dw,jc,rz1) _ (Nat.lt_succ_self _) ⟨ba hd1,aE hd1,hs5,fH,lc⟩ rd
   ·refine qT 3 U (aj mJ U (aI 0 ty3 U U U (aj pu U (aI 0 ty3 U U U (aj vc U (aI 0 ty4 U U U (aN (fq (cells:=[I y1.Person,I y1.Party,.bool y1.Of]) (places:=[(0,1),(1,1),(2,1)]) Fe zc207 kr kr ?_))))))))
    refine bR zc207 (fun b6=>bL 0 ty207 U U U U U U (qO 3 U (aI 2 ty205 U U U (dl 0 ty207 U U U (aN (xK 3 (k:=(dz.mk y1.Person y1.Party y1.Of)) Tryz.underlying205 pE U fH (jf zv61) (show (kx Interest.rp) _ (.agg (List.toArray [I 0,I 0,I 0,I 0,I 0,.bool false,.bool false])) (Interest.mk 0 0 0 0 0 false false) from ⟨_,U,U⟩) U U (fun v1 hv1=>?_)))))))
    obtain ⟨_,rfl,rfl⟩:=hv1
    refine qO 3 U (bR zc61 (fun b7=>bL 0 ty61 U U U U U U (qO 7 U ?_)))
    refine ar 6 [45,46,47,48,49,50,51] 51 (.bool ((!(mhas dw (dz.mk y1.Person y1.Party y1.Of)))||decide ((mgetD dw (dz.mk y1.Person y1.Party y1.Of) (Interest.mk 0 0 0 0 0 false false)).At≤y1.At))) (fun hk2=>?_) (fun e=>?_)
    ·refine ac 45 U (fun c3=>?_) (fun c3=>?_)
     ·refine qO 6 U ?_
      exact hk2 _ (cb (dW c3))
     ·refine aj sY U (aI 2 ty3 U U U (aj sY U (aI 0 ty3 U U U (qO 2 U ?_))))
      exact hk2 _ (cb (dX c3))
    refine bh ?_
    refine ak hs6 U (fun c4 hs7=>?_) (fun c4 hs8=>?_)
    ·refine bU (aI 3 ty205 U U U (dl 1 ty207 U U U (dl 2 ty61 U U U (aN (ki 4 (k:=(dz.mk y1.Person y1.Party y1.Of)) (x:=y1) Tryz.underlying205 pE U fH U U ⟨_,U,U⟩ (fun mo1 hm1=>qO 3 U (ai (v':=I (((i1+1):Nat):Int)) U (bz ob) (qO 2 U ?_))))))))
     refine cG (L':=[z2,(b2,mo1),z1]) js ?_
     exact ag1 ((i1+1),(mput dw (dz.mk y1.Person y1.Party y1.Of) y1),mo1,rz1) _ (Nat.lt_succ_self _) ⟨ba hd1,aE hd1,hs7,hm1,(by have:=gr dw (dz.mk y1.Person y1.Party y1.Of) y1;first | omega | (simp only [List.length_nil,List.length_cons] at *;omega))⟩ rd
    ·refine qT 3 U (ai (v':=I (((i1+1):Nat):Int)) U (bz ob) (qO 2 U ?_))
     refine cG (L':=[z2,(b2,jc),z1]) js ?_
     exact ag1 ((i1+1),dw,jc,rz1) _ (Nat.lt_succ_self _) ⟨ba hd1,aE hd1,hs8,fH,lc⟩ rd
theorem qo.mono {h h':HF} (hl:h.le h'):∀ {vs:List Value} {ws:List fY},qo h vs ws→qo h' vs ws
 | [],[],_=>trivial
 | _::_,_::_,⟨⟨r,e,o⟩,t⟩=>⟨⟨r,e,o.mono hl⟩,qo.mono hl t⟩
 | [],_::_,x=>x.elim
 | _::_,[],x=>x.elim
theorem qo.snoc {h:HF} {v:Value} {w:fY} (hw:∃ r,v=.agg (fY.cells w r).toArray∧fY.ok h w r):∀ {vs:List Value} {ws:List fY},qo h vs ws→qo h (vs++[v]) (ws++[w])
 | [],[],_=>⟨hw,trivial⟩
 | _::_,_::_,⟨a,t⟩=>⟨a,qo.snoc hw t⟩
 | [],_::_,x=>x.elim
 | _::_,[],x=>x.elim
theorem qo.len {h:HF}:∀ {vs:List Value} {ws:List fY},qo h vs ws→vs.length=ws.length
 | [],[],_=>rfl
 | _::_,_::_,⟨_,t⟩=>by simp [qo.len t]
 | [],_::_,x=>x.elim
 | _::_,[],x=>x.elim
theorem kp (h:HF) (w:fY) (J1:FU) (q1 q2:Addr) (bm bc:Nat) (om:Obj) (m:List (Int×Bool)) (cap s r:Nat) (vs:List Value) (q:List fY)
  (hw:fY.ok h w J1) (a1:At h q1 [.map (some bm)]) (a2:At h q2 [.chan (some bc)]) (hm:gC (Value.int .i64) gY h om m) (hq:qo h vs q) (hroom:mgetD m w.to false=false→vs.length < cap):
  lf Tryz.prog (.func (.func 85) #[] #[.pointer (some q1),.pointer (some q2)]) #[.agg (fY.cells w J1).toArray] h [(bm,om),(bc,.chan cap vs.toArray false s r false)]
   (fun x h' B=>x=.returned (.tuple #[])∧h'=h∧∃ om' vs' s',gC (Value.int .i64) gY h om' (conPut w m q).1∧qo h vs' (conPut w m q).2∧B=[(bm,om'),(bc,.chan cap vs'.toArray false s' r false)]):=by
 refine kL (args:=[.agg (fY.cells w J1).toArray]) (cap:=[.pointer (some q1),.pointer (some q2)]) Tryz.call85 ?_
 refine ae Tryz.func85 U Tryz.ntmps85 U fun X hM hX=>(sr (dt (fun b1=>qO 3 U (dv ty120 a1 U (aj vo U (aI 0 ty3 U U U ?_))))))
 refine aN (xL 1 (k:=w.to) lg (eO kK) U hm (jf zv4) (show gY _ (.bool false) false from U) U U (fun v hv=>?_))
 obtain rfl:=hv
 cases hc:mgetD m w.to false with
 | true=>
  refine qO 4 U ?_
  have e1:conPut w m q=(m,q):=by simp [conPut,hc]
  refine vB Tryz.func85 (fun a ha w hw=>kM U a w) (fun w hw=>(hw.sub (L':=[(bm,om),(bc,.chan cap vs.toArray false s r false)]) js).lower) ⟨U,hX,om,vs,s,?_,?_,U⟩
  ·rw [e1];exact hm
  ·rw [e1];exact hq
 | false=>
  refine qO 3 U ?_
  have e1:conPut w m q=(mput m w.to true,q++[w]):=by simp [conPut,hc]
  refine sr (dv ty120 a1 U (aj vo U (aI 0 ty3 U U U ?_)))
  refine aN (ki 1 (k:=w.to) (x:=true) lg (eO kK) U hm U U U (fun om' hm'=>qO 2 U (dv ty146 a2 U (dl 0 ty148 U U U ?_))))
  refine JJ 2 U U U (hroom hc) (bh ?_)
  refine vB Tryz.func85 (fun a ha w hw=>kM U a w) (fun ww hww=>(hww.sub (L':=[(bm,om'),(bc,.chan cap (vs++[Value.agg (fY.cells w J1).toArray]).toArray false (s+1) r false)]) js).lower) ⟨U,hX,om',vs++[.agg (fY.cells w J1).toArray],s+1,?_,?_,U⟩
  ·rw [e1];exact hm'
  ·rw [e1];exact qo.snoc ⟨J1,rfl,hw⟩ hq
theorem V3.mono:vy V3:=fun _ _ _ _ _ e=>e
theorem FR.mono {h h':HF} (hl:h.le h'):∀ {m:List (Int×Option Addr×Nat×Nat)} {f:List (Int×List Interest)} {G:LH},FR h m f G→FR h' m f G
 | [],[],_,e=>e
 | (_,_)::_,(_,_)::_,_,⟨a,b,G1,G2,c,d,t⟩=>⟨a,b,G1,G2,c,d.mono Interest.aD hl,FR.mono hl t⟩
 | [],(_,_)::_,_,x=>x.elim
 | (_,_)::_,[],_,x=>x.elim
theorem FR.get {h:HF} (k:Int):∀ {m:List (Int×Option Addr×Nat×Nat)} {f:List (Int×List Interest)} {G:LH},FR h m f G →
  ∃ b c G1 G2,mgetD m k (none,0,0)=(b,(mgetD f k []).length,c)∧eb Interest.rp 61 h (mgetD f k []) b c G1∧G.Perm (G1++G2) ∧
   ∀ b' c' xs' G1',eb Interest.rp 61 h xs' b' c' G1'→∃ G',FR h (mput m k (b',xs'.length,c')) (mput f k xs') G'∧G'.Perm (G1'++G2)
 | [],[],G,e=>by
  subst e
  refine ⟨none,0,[],[],U,eb.nil,List.Perm.refl _,fun b' c' xs' G1' hG=>⟨G1',⟨U,U,G1',[],by simp,hG,U⟩,by simp⟩⟩
 | (k0,x)::m,(k',xs)::f,G,⟨e,hn,G1,G2,hG,hg,t⟩=>by
  subst e hG
  by_cases hk:k=k0
  ·subst hk
   refine ⟨x.1,x.2.2,G1,G2,?_,?_,List.Perm.refl _,fun b' c' xs' G1' hG'=>⟨G1'++G2,?_,List.Perm.refl _⟩⟩
   ·simp [mgetD,mget?,← hn]
   ·simpa [mgetD,mget?] using hg
   ·simp only [mput,if_true]
    exact ⟨U,U,G1',G2,U,hG',t⟩
  ·obtain ⟨b,c,H1,H2,h1,h2,h3,h4⟩:=FR.get k t
   refine ⟨b,c,H1,G1++H2,?_,?_,?_,fun b' c' xs' G1' hG'=>?_⟩
   ·simpa [mgetD,mget?,hk] using h1
   ·simpa [mgetD,mget?,hk] using h2
   ·refine (List.Perm.append_left G1 h3).trans ?_
    rw [← List.append_assoc,← List.append_assoc];exact List.Perm.append_right H2 List.perm_append_comm
   ·obtain ⟨G',g1,g2⟩:=h4 b' c' xs' G1' hG'
    refine ⟨G1++G',?_,?_⟩
    ·simp only [mput,hk,if_false]
     exact ⟨U,hn,G1,G',U,hg,g1⟩
    ·refine (List.Perm.append_left G1 g2).trans ?_
     rw [← List.append_assoc,← List.append_assoc];exact List.Perm.append_right H2 List.perm_append_comm
 | [],(_,_)::_,_,x=>x.elim
 | (_,_)::_,[],_,x=>x.elim
theorem FR.keys {h:HF}:∀ {m:List (Int×Option Addr×Nat×Nat)} {f:List (Int×List Interest)} {G:LH},FR h m f G→m.map (·.1)=f.map (·.1)
 | [],[],_,_=>rfl
 | (_,_)::_,(_,_)::_,_,⟨a,_,_,_,_,_,t⟩=>by simp [a,FR.keys t]
 | [],(_,_)::_,_,x=>x.elim
 | (_,_)::_,[],_,x=>x.elim
theorem FR.mem {h:HF}:∀ {m:List (Int×Option Addr×Nat×Nat)} {f:List (Int×List Interest)} {G:LH},FR h m f G→(m.map (·.1)).Nodup→∀ p∈m,p.2.2.1=(mgetD f p.1 []).length∧∃ G1,(∀ q∈G1,q∈G)∧eb Interest.rp 61 h (mgetD f p.1 []) p.2.1 p.2.2.2 G1
 | [],[],_,_,_,_,hp=>(List.not_mem_nil hp).elim
 | (k,x)::m,(k',xs)::f,G,⟨e,hn,G1,G2,hG,hg,t⟩,hnd,p,hp=>by
  subst e hG
  rw [List.map_cons,List.nodup_cons] at hnd
  rcases List.mem_cons.1 hp with rfl | hp
  ·exact ⟨by simp [mgetD,mget?,hn],G1,fun q hq=>List.mem_append_left _ hq,by simpa [mgetD,mget?] using hg⟩
  ·have hne:¬ p.1=k:=fun e=>hnd.1 (by have h9:=List.mem_map_of_mem (f:=(·.1)) hp;rw [e] at h9;exact h9)
   obtain ⟨h1,H,h2,h3⟩:=FR.mem t hnd.2 p hp
   exact ⟨by simpa [mgetD,mget?,hne] using h1,H,fun q hq=>List.mem_append_right _ (h2 q hq),by simpa [mgetD,mget?,hne] using h3⟩
 | [],(_,_)::_,_,x,_,_,_=>x.elim
 | (_,_)::_,[],_,x,_,_,_=>x.elim
theorem CZ {α : Type}:∀ {f:List (Int×α)} (z:α),(f.map (·.1)).Nodup→f=f.map fun p=>(p.1,mgetD f p.1 z)
 | [],_,_=>rfl
 | (k,x)::f,z,hn=>by
  rw [List.map_cons,List.nodup_cons] at hn
  rw [List.map_cons]
  congr 1
  ·simp [mgetD,mget?]
  ·have ih:=CZ z hn.2
   conv=>lhs;rw [ih]
   apply List.map_congr_left
   intro p hp
   have hne:¬ p.1=k:=fun e=>hn.1 (by have h9:=List.mem_map_of_mem (f:=(·.1)) hp;rw [e] at h9;exact h9)
   simp [mgetD,mget?,hne]
theorem DS {h:HF} {h2:HF} (g:Int→List Interest):∀ {es:List MapEntry} {m:List (Int×Option Addr×Nat×Nat)},m5 (Value.int .i64) V3 h es m →
  (∀ p∈m,p.2.2.1=(g p.1).length∧SlC Interest.rp h2 p.2.1 p.2.2.2 (g p.1))→m5 (Value.int .i64) (VSl Interest.rp) h2 es (m.map fun p=>(p.1,g p.1))
 | [],[],_,_=>trivial
 | e::es,(k,x)::m,⟨a,b,c⟩,hg=>by
  obtain ⟨h1,h3⟩:=hg (k,x) (List.mem_cons_self ..)
  refine ⟨a,⟨x.1,x.2.2,?_,h3⟩,DS g c fun p hp=>hg p (List.mem_cons_of_mem _ hp)⟩
  rw [show e.val=.slice x.1 x.2.1 x.2.2 from b,h1]
 | [],_::_,x,_=>x.elim
 | _::_,[],x,_=>x.elim
theorem FR.frozen {h h2:HF} {o:Obj} {m:List (Int×Option Addr×Nat×Nat)} {f:List (Int×List Interest)} {G:LH} (hm:gC (Value.int .i64) V3 h o m) (hf:FR h m f G) (hl:h.le h2) (hG:∀ p∈G,h2 p.1=some p.2):
  gC (Value.int .i64) (VSl Interest.rp) h2 o f:=by
 have hnd:=hm.nodup
 have hk:=hf.keys
 obtain ⟨m',hp,hn,es,c,rfl,hE,h1,h3⟩:=hm
 have hmem:=hf.mem hnd
 have hfe:=CZ (f:=f) [] (hk ▸ hnd)
 have hfm:f=m.map fun p=>(p.1,mgetD f p.1 []):=by
  have e1:(f.map fun p=>(p.1,mgetD f p.1 []))=(f.map (·.1)).map fun k=>(k,mgetD f k []):=by rw [List.map_map];rfl
  have e2:(m.map fun p=>(p.1,mgetD f p.1 []))=(m.map (·.1)).map fun k=>(k,mgetD f k []):=by rw [List.map_map];rfl
  rw [e2,hk,← e1];exact hfe
 refine ⟨m'.map fun p=>(p.1,mgetD f p.1 []),?_,?_,es,c,U,DS (fun k=>mgetD f k []) hE fun p hp'=>?_,h1,h3⟩
 ·have hpm:=hp.map fun p=>(p.1,mgetD f p.1 ([]:List Interest))
  rw [← hfm] at hpm;exact hpm
 ·rw [List.map_map];exact hn
 ·obtain ⟨h5,G1,h6,h7⟩:=hmem p (hp.mem_iff.1 hp')
  exact ⟨h5,h7.frozen Interest.aD hl fun q hq=>hG q (h6 q hq)⟩
theorem zi (k:Int→Int):∀ (l:List Int) (g:Int),cn.L1 k l g=0→(∀ x∈l,g < x∧x≤1048576)∧l.Pairwise (· < ·)∧∃ g',k g'=0
 | [],g,h=>⟨fun _ h=>(List.not_mem_nil h).elim,List.Pairwise.nil,g,h⟩
 | y::l,g,h=>by
  simp only [cn.L1,Bool.cond_eq_ite,Bool.or_eq_true,decide_eq_true_eq] at h
  split at h
  ·omega
  ·next hc=>
   obtain ⟨h1,h2,h3⟩:=zi k l y h
   refine ⟨fun x hx=>?_,List.pairwise_cons.2 ⟨fun x hx=>(h1 x hx).1,h2⟩,h3⟩
   rcases List.mem_cons.1 hx with rfl | hx
   ·omega
   ·have:=h1 x hx;omega
theorem xe {l:List Interest} {person:Int} {parties:List Int} {a b:Int} (h:cn l person parties a b=0):parties.Pairwise (·≤·)∧parties.length≤16:=by
 unfold cn at h
 rw [Bool.cond_eq_ite] at h
 split at h
 ·next hc=>simp at hc;exact absurd h hc
 ·obtain ⟨_,h2,g',h3⟩:=zi _ _ _ h
  refine ⟨h2.imp (fun h=>Int.le_of_lt h),?_⟩
  unfold cn.K1 at h3
  rw [Bool.cond_eq_ite] at h3
  split at h3
  ·omega
  ·next hc=>
   simp only [Bool.or_eq_true,not_or,decide_eq_true_eq] at hc
   omega
theorem oh (h:HF) (b:Option Addr) (n c:Nat) (hc:n≤c):Ret Tryz.prog 88 [.slice b n c] h (.slice b n n):=by
 refine ae Tryz.func88 U Tryz.ntmps88 U fun X hM hX=>(qT 8 U (a8 cN U (aB (a8 cN U ?_))))
 refine aN (gI (JC cN ty3 U U U hc) (an ?_))
 exact ah [.slice b n n] Tryz.func88 U hX rd U
theorem rB (h:HF) (l:List Interest) (eD:Option Addr) (eC:Nat) (person:Int) (parties:List Int) (jh:Option Addr) (jg:Nat) (aZ known:Int)
  (hl:SlC Interest.rp h eD eC l) (hparties:SlC Rp.int h jh jg parties) (hsz:l.length≤2000000):
  je Tryz.prog 45 [.slice eD l.length eC,I person,.slice jh parties.length jg,I aZ,I known] h
   (fun v h'=>∃ (rb0:Option Addr) (rc0:Nat),v=.tuple #[.slice rb0 ((ef l person parties aZ known).1.length) rc0,.bool ((ef l person parties aZ known).2.1),I ((ef l person parties aZ known).2.2)]∧SlC Rp.int h' rb0 rc0 ((ef l person parties aZ known).1)):=by
 refine ae E5 U Tryz.ntmps45 U fun X hM hX=>(sr (dt (fun b1=>qO 8 U (aI 0 ty3 U U U (qO 3 U (au (v:=I (cn l person parties aZ known)) Tryz.call84 (sB h l eD eC person parties jh jg aZ known hl hparties) U (qO 7 U ?_)))))))
 refine kC U (fun c1=>?_) (fun c1=>?_)
 ·have e1:ef l person parties aZ known=([],false,cn l person parties aZ known):=by unfold ef;rw [c1];rfl
  refine qT 7 U ?_
  exact cJ [.slice none 0 0,.bool false,I (cn l person parties aZ known)] E5 U rd ⟨none,0,by rw [e1];rfl,by rw [e1];exact SlC.nil⟩
 ·have hex:cn l person parties aZ known=0:=by simpa using c1
  obtain ⟨hps,hpl⟩:=xe hex
  have e1:ef l person parties aZ known=((conFind l person parties (bP l aZ known)).1,(conFind l person parties (bP l aZ known)).2,0):=by unfold ef;rw [c1];rfl
  rw [e1]
  have hstl:=Ci l aZ known
  generalize hst:bP l aZ known=st at hstl
  refine qT 3 U (aN (oZ (fun bf=>bR zc145 (fun b14=>dS 0 ty145 U U U U U U (qO 3 U (aN (oZ (fun bm=>bR zc120 (fun b15=>dS 0 ty120 U U U U U U (qO 4 U (a8 kS U ?_)))))))))))
  refine aN (Hk Tryz.underlying146 bytes148 U ob (by decide) (fun bc=>bR zc146 (fun b16=>dS 0 ty146 U U U U U U (qO 3 U (aN (gg U U (bR zc149 (fun b17=>dS 0 ty149 U U U U U U (bh ?_)))))))))
  refine e6 0 U hM (fun h1 l1 f17=>e6 0 U hM (fun h2 l2 f16=>e6 1 U hM (fun h3 l3 f15=>e6 2 U hM (fun h4 l4 f14=>e6 3 U hM (fun h5 l5 f1=>?_)))))
  have a17:=(dN f17).mono (l2.t (l3.t (l4.t l5)))
  have a16:=(dN f16).mono (l3.t (l4.t l5))
  have a15:=(dN f15).mono (l4.t l5)
  have a14:=(dN f14).mono l5
  have a1:=dN f1
  have l05:h.le h5:=HF.le_trans l1 (l2.t (l3.t (l4.t l5)))
  clear f17 f16 f15 f14 f1 l1 l2 l3 l4 l5
  refine qT 6 U ?_
  refine aN (cy Tryz.call86 (rA h5 l eD eC aZ known (hl.mono Interest.aD l05)) U (fun v1 h6 l6 hp1=>?_))
  obtain ⟨_,rfl,hit⟩:=hp1
  rw [hst] at hit
  refine qO 2 U ?_
  refine gp ?_
  refine kd (it:=v1) (xs:=st) (ι:=List (Int×List Interest)×List (Int×Bool)×List fY×List Value×Nat×Obj×List (Int×Option Addr×Nat×Nat)×Obj×LH×HF) [] (fun i=>i.2.2.2.2.2.2.2.2.2)
   (fun i=>[(bc,.chan l.length i.2.2.2.1.toArray false i.2.2.2.2.1 0 false),(bm,i.2.2.2.2.2.1),(bf,i.2.2.2.2.2.2.2.1)]++i.2.2.2.2.2.2.2.2.1)
   (fun rest i=>(conFill person rest i.1 i.2.1 i.2.2.1=conFill person st [] [] []∧(∀ x∈rest,x∈st))∧(qo i.2.2.2.2.2.2.2.2.2 i.2.2.2.1 i.2.2.1∧gC (Value.int .i64) gY i.2.2.2.2.2.2.2.2.2 i.2.2.2.2.2.1 i.2.1∧gC (Value.int .i64) V3 i.2.2.2.2.2.2.2.2.2 i.2.2.2.2.2.2.2.1 i.2.2.2.2.2.2.1∧FR i.2.2.2.2.2.2.2.2.2 i.2.2.2.2.2.2.1 i.1 i.2.2.2.2.2.2.2.2.1)∧(qr st i.2.1 i.2.2.1∧FV st i.1)∧h6.le i.2.2.2.2.2.2.2.2.2∧(∀ k,(mgetD i.1 k []).length+rest.length≤l.length))
   (fun _=>False) (fun _=>False) 0 (fun _ _ _=>False) ([],[],[],[],0,.map #[] 0,[],.map #[] 0,[],h6) E5 rfl hit rfl vR (fun _ _ _ _ _ hq=>hq) rfl rfl
   ⟨⟨rfl,fun _ hx=>hx⟩,⟨trivial,gC.nil,gC.nil,rfl⟩,⟨⟨fun _ hp=>(List.not_mem_nil hp).elim,Nat.le_refl _,fun _ hp=>(List.not_mem_nil hp).elim⟩,fun _ _ hx=>(List.not_mem_nil hx).elim⟩,HF.le_refl _,fun k=>by simp [mgetD,mget?];exact hstl⟩ ?_ ?_ (fun _ _ _ hF=>hF.elim) (fun _ _ _ hF=>hF.elim) (fun _ _ _ _ hF=>hF.elim)
  ·rintro l1 r1 lp1 x rest vs1 ⟨f,m,q,vs,s,om,m3,o3,Gf,hh⟩ h7 X' hFR ⟨⟨hfill,hin⟩,⟨hwy,hmm,hm3,hfr⟩,⟨hgq,hgf⟩,h6h,hlen⟩ h67 hh7 hv hX' hXM hlp nx rt ex pn
   dsimp only at hfill hin hwy hmm hm3 hfr hgq hgf h6h hh7 hlen
   obtain rfl:=hv
   have hxst:x∈st:=hin x (List.mem_cons_self ..)
   have hin':∀ y∈rest,y∈st:=fun y hy=>hin y (List.mem_cons_of_mem _ hy)
   have h57:h5.le h7:=HF.le_trans l6 h67
   replace hwy:=hwy.mono hh7
   replace hmm:=hmm.mono gY.mono hh7
   replace hm3:=hm3.mono V3.mono hh7
   replace hfr:=hfr.mono hh7
   have h67':h6.le h7:=h67
   clear hh7 h6h
   refine bU (bR zc61 (fun b18=>bL 0 ty61 U U U U U U (bh ?_)))
   refine ke 1 U hlp (qT 2 U ?_)
   refine dZ (L':=[(b18,.cells (Interest.cells x).toArray 61 (0,0)),(l1,.loop { lp1 with state:=.busy }),(r1,.deferred (some [])),(bc,.chan l.length vs.toArray false s 0 false),(bm,om),(bf,o3)]++Gf) (by simp [markB,setNth]) (sr (aj vc U (aI 0 ty4 U U U (an ?_))))
   refine kC U (fun cO=>?_) (fun cO=>?_)
   ·obtain ⟨gb,gc,G1,G2,hget,hgrow,hperm,hput⟩:=hfr.get x.Person
    have hlx:=hlen x.Person
    simp only [List.length_cons] at hlx
    have hnext:conFill person rest (mput f x.Person (mgetD f x.Person []++[x])) m q=conFill person st [] [] []:=by
     rw [← hfill];simp [conFill,cO]
    have hlen':∀ k,(mgetD (mput f x.Person (mgetD f x.Person []++[x])) k []).length+rest.length≤l.length:=fun k=>by
     rw [yu]
     split
     ·simp only [List.length_append,List.length_cons,List.length_nil];omega
     ·have:=hlen k;simp only [List.length_cons] at this;omega
    have fin:∀ (e':Env) (b8:Nat) (o8:Obj) (o3':Obj) (gb':Option Addr) (gc':Nat) (G1':LH),eb Interest.rp 61 h7 (mgetD f x.Person []++[x]) gb' gc' G1'→gC (Value.int .i64) V3 h7 o3' (mput m3 x.Person (gb',(mgetD f x.Person []++[x]).length,gc')) →
      TT Tryz.prog (roundFrame l1 45) 111 [.inBlock 2,.inBlock 1] hFR e' [] X' h7 ([(b8,o8),(b18,.cells (Interest.cells x).toArray 61 (0,0)),(l1,.loop { lp1 with state:=.busy }),(r1,.deferred (some [])),(bc,.chan l.length vs.toArray false s 0 false),(bm,om),(bf,o3')]++(G2++G1')):=by
     intro e' b8 o8 o3' gb' gc' G1' hG' hm'
     obtain ⟨G',hfr',hp'⟩:=hput gb' gc' _ G1' hG'
     refine qT 2 U ?_
     refine cG (L':=[(l1,.loop { lp1 with state:=.busy }),(r1,.deferred (some [])),(bc,.chan l.length vs.toArray false s 0 false),(bm,om),(bf,o3')]++(G2++G1')) js ?_
     refine nN (L':=[(l1,.loop { lp1 with state:=.busy }),(r1,.deferred (some [])),(bc,.chan l.length vs.toArray false s 0 false),(bm,om),(bf,o3')]++G') (List.Perm.append_left _ (List.perm_append_comm.trans hp'.symm)) ?_
     refine dZ (L':=rdH l1 r1 lp1 (([(bc,.chan l.length vs.toArray false s 0 false),(bm,om),(bf,o3')]++G')++markB [])) (by simp [markB]) ?_
     exact nx (mput f x.Person (mgetD f x.Person []++[x]),m,q,vs,s,om,mput m3 x.Person (gb',(mgetD f x.Person []++[x]).length,gc'),o3',G',h7) _ _ ⟨⟨hnext,hin'⟩,⟨hwy,hmm,hm',hfr'⟩,⟨hgq,hgf.put hxst⟩,h67',hlen'⟩ (HF.le_refl _)
    have hJ:∀ {L:LH},Jst h7 [(b18,.cells (Interest.cells x).toArray 61 (0,0))] h7 ((b18,.cells (Interest.cells x).toArray 61 (0,0))::L):=Bx js
    have hJ2:∀ {L:LH} {p:Nat×Obj},Jst h7 [(b18,.cells (Interest.cells x).toArray 61 (0,0))] h7 (p::(b18,.cells (Interest.cells x).toArray 61 (0,0))::L):=Bx js
    refine fd [(b18,.cells (Interest.cells x).toArray 61 (0,0))] mixed kr hJ (fun hsep _=>?_)
    refine nD 0 hsep hJ U U kr U (fun _ _ hj=>fK ty145 ((a14.mono h57).mono hj.1) U) ?_
    refine nD 1 hsep hJ U U kr U (fun _ _ _=>dx mJ U) ?_
    refine nD 2 hsep hJ U U kr U (fun _ _ hj=>gH ty3 U (hj.nth (i:=0) U) U) ?_
    refine nD 3 hsep hJ U U kr U (fun _ _ hj=>fK ty145 ((a14.mono h57).mono hj.1) U) ?_
    refine nD 4 hsep hJ U U kr U (fun _ _ _=>dx mJ U) ?_
    refine nD 5 hsep hJ U U kr U (fun _ _ hj=>gH ty3 U (hj.nth (i:=0) U) U) ?_
    refine nD 7 hsep hJ U U kr U (fun _ _ hj=>jT ty61 U (hj.nth (i:=0) U) U) ?_
    refine kh 6 8 kr U U ?_ ?_
    ·refine xL 5 (k:=x.Person) E4 (eO kK) U hm3 (jf zv24) (show V3 _ (.slice none 0 0) (none,0,0) from U) U U (fun v hv=>?_)
     rw [hget] at hv
     obtain rfl:=hv
     refine ⟨hJ,?_⟩
     refine tn 8 U (bK (cells:=Interest.cells x) kS ty61 zc61 U U kr (fun b8=>⟨hJ2,?_⟩))
     refine tn 9 U (Hi (List.Perm.append_left ([(b8,.cells (Interest.cells x).toArray 61 (0,0)),(b18,.cells (Interest.cells x).toArray 61 (0,0)),(l1,.loop { lp1 with state:=.busy }),(r1,.deferred (some [])),(bc,.chan l.length vs.toArray false s 0 false),(bm,om),(bf,o3)]:LH) hperm) ?_)
     refine db Interest.eT [(b8,.cells (Interest.cells x).toArray 61 (0,0)),(b18,.cells (Interest.cells x).toArray 61 (0,0)),(l1,.loop { lp1 with state:=.busy }),(r1,.deferred (some [])),(bc,.chan l.length vs.toArray false s 0 false),(bm,om),(bf,o3)] G2 (fun G=>[(b8,.cells (Interest.cells x).toArray 61 (0,0)),(b18,.cells (Interest.cells x).toArray 61 (0,0)),(l1,.loop { lp1 with state:=.busy }),(r1,.deferred (some [])),(bc,.chan l.length vs.toArray false s 0 false),(bm,om),(bf,o3)]++(G2++G)) U (fun _=>U) kS ty61 zc61 U bytes61 hgrow U U (eI 0 U (show bD Interest.rp h7 (Interest.cells x) [x] from ⟨Interest.cells x,[],by simp,U,U,U⟩)) lo lo (fun gb' gc' G1' hG'=>⟨hJ2,?_⟩)
     refine tn 10 U (ki 6 (k:=x.Person) (x:=(gb',(mgetD f x.Person []++[x]).length,gc')) E4 (eO kK) U hm3 U U U (fun o3' hm'=>⟨hJ2,?_⟩))
     exact bv kr (fin _ b8 _ o3' gb' gc' G1' hG' hm')
    ·refine bK (cells:=Interest.cells x) kS ty61 zc61 U U kr (fun b8=>⟨hJ2,?_⟩)
     refine tn 6 U (xL 6 (k:=x.Person) E4 (eO kK) U hm3 (jf zv24) (show V3 _ (.slice none 0 0) (none,0,0) from U) U U (fun v hv=>?_))
     rw [hget] at hv
     obtain rfl:=hv
     refine ⟨hJ2,?_⟩
     refine tn 9 U (Hi (List.Perm.append_left ([(b8,.cells (Interest.cells x).toArray 61 (0,0)),(b18,.cells (Interest.cells x).toArray 61 (0,0)),(l1,.loop { lp1 with state:=.busy }),(r1,.deferred (some [])),(bc,.chan l.length vs.toArray false s 0 false),(bm,om),(bf,o3)]:LH) hperm) ?_)
     refine db Interest.eT [(b8,.cells (Interest.cells x).toArray 61 (0,0)),(b18,.cells (Interest.cells x).toArray 61 (0,0)),(l1,.loop { lp1 with state:=.busy }),(r1,.deferred (some [])),(bc,.chan l.length vs.toArray false s 0 false),(bm,om),(bf,o3)] G2 (fun G=>[(b8,.cells (Interest.cells x).toArray 61 (0,0)),(b18,.cells (Interest.cells x).toArray 61 (0,0)),(l1,.loop { lp1 with state:=.busy }),(r1,.deferred (some [])),(bc,.chan l.length vs.toArray false s 0 false),(bm,om),(bf,o3)]++(G2++G)) U (fun _=>U) kS ty61 zc61 U bytes61 hgrow U U (eI 0 U (show bD Interest.rp h7 (Interest.cells x) [x] from ⟨Interest.cells x,[],by simp,U,U,U⟩)) lo lo (fun gb' gc' G1' hG'=>⟨hJ2,?_⟩)
     refine tn 10 U (ki 6 (k:=x.Person) (x:=(gb',(mgetD f x.Person []++[x]).length,gc')) E4 (eO kK) U hm3 U U U (fun o3' hm'=>⟨hJ2,?_⟩))
     exact bv kr (fin _ b8 _ o3' gb' gc' G1' hG' hm')
   ·refine sr (aj mJ U (aI 0 ty3 U U U (dv ty3 (a1.mono h57) U (qO 3 U ?_))))
    have hlen':∀ k,(mgetD f k []).length+rest.length≤l.length:=fun k=>by have:=hlen k;simp only [List.length_cons] at this;omega
    refine kC U (fun cP=>?_) (fun cP=>?_)
    ·have hnext:conFill person rest f (conPut ⟨[x.No],x.Party⟩ m q).1 (conPut ⟨[x.No],x.Party⟩ m q).2=conFill person st [] [] []:=by
      rw [← hfill];simp only [conFill,cO,cond_false,cP,cond_true]
     have hpty:(fY.mk [x.No] x.Party).to∈st.map (·.Party):=List.mem_map_of_mem hxst
     refine bU (dv ty149 (a17.mono h57) U (aj nX U (aI 0 ty3 U U U ?_)))
     refine aN (F3 (cells:=[I x.No]) hXM cN ty3 zc3 U U kr (fun b65 hb65=>?_))
     refine xC 0 U hb65 (fun h8 l8 f8=>?_)
     have sl8:SlC Rp.int h8 (some ⟨b65,0,none⟩) 1 [x.No]:=bD.slB0 (T:=3) (fz:=(0,0)) (show bD Rp.int h8 [I x.No] [x.No] from ⟨[I x.No],[],rfl,rfl,rfl,rfl⟩) f8
     refine aj pu U (aI 0 ty3 U U U ?_)
     refine aN (fq (cells:=fY.cells ⟨[x.No],x.Party⟩ ⟨some ⟨b65,0,none⟩,1⟩) (places:=[(0,1),(1,1)]) Tryz.underlying148 zc148 kr kr ?_)
     refine aN (Bd (vs:=[.agg (fY.cells ⟨[x.No],x.Party⟩ ⟨some ⟨b65,0,none⟩,1⟩).toArray]) [(bm,om),(bc,.chan l.length vs.toArray false s 0 false)] ([(b18,.cells (Interest.cells x).toArray 61 (0,0)),(l1,.loop { lp1 with state:=.busy }),(r1,.deferred (some [])),(bf,o3)]++Gf) ?_
      (kp h8 ⟨[x.No],x.Party⟩ ⟨some ⟨b65,0,none⟩,1⟩ ⟨b15,0,none⟩ ⟨b16,0,none⟩ bm bc om m l.length s 0 vs q ⟨sl8⟩ (a15.mono (h57.t l8)) (a16.mono (h57.t l8)) (hmm.mono gY.mono l8) (hwy.mono l8) (fun hno=>by rw [hwy.len];exact sL hgq hmm.nodup hpty hstl hno)) rfl rfl (fun B hB=>?_))
     ·exact sT [(b18,.cells (Interest.cells x).toArray 61 (0,0)),(l1,.loop { lp1 with state:=.busy }),(r1,.deferred (some []))] ((bf,o3)::Gf) (bc,.chan l.length vs.toArray false s 0 false) (bm,om)
     obtain ⟨om',vs',s',hm',hw',rfl⟩:=hB
     refine qO 3 U ?_
     refine cG (L':=[(bm,om'),(bc,.chan l.length vs'.toArray false s' 0 false)]++([(l1,.loop { lp1 with state:=.busy }),(r1,.deferred (some [])),(bf,o3)]++Gf)) js ?_
     refine nN (L':=rdH l1 r1 lp1 (([(bc,.chan l.length vs'.toArray false s' 0 false),(bm,om'),(bf,o3)]++Gf)++markB [])) ?_ ?_
     ·rw [show markB []=([]:LH) from rfl,List.append_nil]
      exact (sT [(l1,Obj.loop { lp1 with state:=.busy }),(r1,.deferred (some []))] ((bf,o3)::Gf) (bc,.chan l.length vs'.toArray false s' 0 false) (bm,om')).symm
     exact nx (f,(conPut ⟨[x.No],x.Party⟩ m q).1,(conPut ⟨[x.No],x.Party⟩ m q).2,vs',s',om',m3,o3,Gf,h8) _ _ ⟨⟨hnext,hin'⟩,⟨hw',hm',hm3.mono V3.mono l8,hfr.mono l8⟩,⟨px hgq hpty (by simp),hgf⟩,HF.le_trans h67' l8,hlen'⟩ (HF.le_refl _)
    ·have hnext:conFill person rest f m q=conFill person st [] [] []:=by
      rw [← hfill];simp only [conFill,cO,cond_false,cP]
     refine qT 3 U ?_
     refine cG (L':=[(l1,.loop { lp1 with state:=.busy }),(r1,.deferred (some [])),(bc,.chan l.length vs.toArray false s 0 false),(bm,om),(bf,o3)]++Gf) js ?_
     refine dZ (L':=rdH l1 r1 lp1 (([(bc,.chan l.length vs.toArray false s 0 false),(bm,om),(bf,o3)]++Gf)++markB [])) (by simp [markB]) ?_
     exact nx (f,m,q,vs,s,om,m3,o3,Gf,h7) _ _ ⟨⟨hnext,hin'⟩,⟨hwy,hmm,hm3,hfr⟩,⟨hgq,hgf⟩,h67',hlen'⟩ (HF.le_refl _)
  ·rintro dm ⟨f,m0,q0,vs0,s0,om0,m3,o3,Gf,hh⟩ h7 ⟨⟨hfill,_⟩,⟨hwy,hmm,hm3,hfr⟩,⟨hgq,hgf⟩,h6h,hlen⟩ hh7 h67
   dsimp only at hfill hwy hmm hm3 hfr hgq hgf h6h hh7 hlen
   refine jF ?_
   refine e6 2 U hM (fun h8 l8 f8=>?_)
   refine Et [(bc,.chan l.length vs0.toArray false s0 0 false),(bm,om0)] Gf (markB [dm]) U hM (fun h9 l9 hG9=>?_)
   have h89:hh.le h9:=HF.le_trans hh7 (l8.t l9)
   have hmF:gC (Value.int .i64) (VSl Interest.rp) h9 o3 f:=FR.frozen hm3 hfr h89 hG9
   have hbf:h9 bf=some o3:=l9 _ _ f8
   have h59:h5.le h9:=HF.le_trans l6 (h67.t (l8.t l9))
   replace a14:=a14.mono h59
   replace a15:=a15.mono h59
   replace a16:=a16.mono h59
   replace a17:=a17.mono h59
   have hpar:=(hparties.mono Rp.bi l05).mono Rp.bi h59
   have hcf:conFind l person parties st=conLoop parties f (l.length+1) m0 q0:=by
    unfold conFind;rw [← hfill];rfl
   have hwy0:=hwy.mono h89
   have hmm0:=hmm.mono gY.mono h89
   clear hwy hmm hm3 hfr hG9 l8 f8 h6h hh7 h67 hfill a1
   generalize hCF:conFind l person parties st=CF at hcf
   refine em ?_
   refine aU (ι:=List Value×Nat×Nat×Obj×HF) (fun i=>[]) (fun i=>i.2.2.2.2) (fun i=>[(bc,.chan l.length i.1.toArray false i.2.1 i.2.2.1 false),(bm,i.2.2.2.1)]++markB [dm]) (fun i=>CF=([],false)) ?_ (fun hx=>?_)
   ·rintro ⟨vs,s,r,om,hh⟩ hc e
    refine qT 6 U ?_
    exact pH [dm] [.slice none 0 0,.bool false,I 0] E5 U rd ⟨none,0,by rw [hc];rfl,by rw [hc];exact SlC.nil⟩
   ·refine bG (ι:=Nat×List (Int×Bool)×List fY×List Value×Nat×Nat×Obj×HF) (fun i=>[(2,.slice jh parties.length jg),(14,Q b14),(16,Q b16),(17,Q b17)]) (fun i=>i.2.2.2.2.2.2.2)
     (fun i=>[(bc,.chan l.length i.2.2.2.1.toArray false i.2.2.2.2.1 i.2.2.2.2.2.1 false),(bm,i.2.2.2.2.2.2.1)]++markB [dm])
     (fun i=>CF=conLoop parties f i.1 i.2.1 i.2.2.1∧i.2.2.1.length+(l.length - i.2.1.length) < i.1∧qo i.2.2.2.2.2.2.2 i.2.2.2.1 i.2.2.1∧gC (Value.int .i64) gY i.2.2.2.2.2.2.2 i.2.2.2.2.2.2.1 i.2.1∧qr st i.2.1 i.2.2.1∧h9.le i.2.2.2.2.2.2.2)
     (fun i=>i.1) (l.length+1,m0,q0,vs0,s0,0,om0,h9) rd (fun w hw=>hw) ⟨hcf,?_,hwy0,hmm0,hgq,HF.le_refl _⟩ ?_
    ·show q0.length+(l.length - m0.length) < l.length+1
     have:=hgq.2.1;have:=HG hgq hmm0.nodup;omega
    clear hcf hwy0 hmm0 hgq
    rintro ⟨n,m,q,vs,s,r,om,hh⟩ ⟨hcf,hn,hwy,hmm,hgq,h9h⟩ ag e
    dsimp only at hcf hn hwy hmm hgq h9h
    obtain ⟨n,rfl⟩:∃ n',n=n'+1:=⟨n - 1,by omega⟩
    refine qT 3 U (dv ty146 (a16.mono h9h) U ?_)
    refine aN (gI (JB Tryz.underlying146 (List.mem_cons_self ..) U) ?_)
    rcases q with _ | ⟨w,q⟩
    ·have hv0:vs=[]:=List.eq_nil_of_length_eq_zero hwy.len
     subst hv0
     refine ai (v':=.bool false) U U (qO 3 U ?_)
     exact hx ([],s,r,om,hh) _ hcf trivial
    ·rcases vs with _ | ⟨v,vs⟩
     ·exact hwy.elim
     obtain ⟨⟨wr,rfl,hok⟩,hwy⟩:=hwy
     refine ai (v':=.bool true) U (cb (decide_eq_true (by simp))) (qO 6 U (dv ty146 (a16.mono h9h) U (JK 0 Tryz.underlying146 zv148 U U (bR zc148 (fun b19=>bL 0 ty148 U U U U U U (qO 5 U (aj vo U (aI 0 ty3 U U U (au (v:=.tuple #[I (slices_BinarySearch_int parties w.to).1,.bool (slices_BinarySearch_int parties w.to).2]) Tryz.call87 (li hh parties jh jg w.to (hpar.mono Rp.bi h9h) hps ob) U (qO 10 U ?_))))))))))
     have hgq':qr st m q:=⟨hgq.1,by have:=hgq.2.1;simp only [List.length_cons] at this;omega,fun w' hw'=>hgq.2.2 w' (List.mem_cons_of_mem _ hw')⟩
     have hw8:=hgq.2.2 w (List.mem_cons_self ..)
     simp only [List.length_cons] at hn
     refine kC U (fun cF=>?_) (fun cF=>?_)
     ·have hc2:CF=(w.path,true):=by
       rw [hcf];simp only [conLoop];rw [show parties.contains w.to=true from cF];rfl
      refine sr (aj zf U (aI 0 ty31 U U U (qO 4 U ?_)))
      refine cG (L':=[(bc,.chan l.length vs.toArray false s (r+1) false),(bm,om)]++markB [dm]) js ?_
      exact pH [dm] [.slice wr.sk w.path.length wr.ua,.bool true,I 0] E5 U rd ⟨wr.sk,wr.ua,by rw [hc2];rfl,by rw [hc2];exact hok.path⟩
     ·have hc2:CF=(bif ((w.path.length:Nat):Int)==8 then conLoop parties f n m q else conLoop parties f n (conStep w.path (mgetD f w.to []) m q).1 (conStep w.path (mgetD f w.to []) m q).2):=by
       rw [hcf];simp only [conLoop];rw [show parties.contains w.to=false from cF];rfl
      refine qT 4 U (aj zf U (aI 0 ty31 U U U (a8 cN U (qO 2 U ?_))))
      refine kC U (fun c8=>?_) (fun c8=>?_)
      ·rw [show (((w.path.length:Nat):Int)==8)=true from c8] at hc2
       refine m6 U ?_
       refine cG (L':=[(bc,.chan l.length vs.toArray false s (r+1) false),(bm,om)]++markB [dm]) js ?_
       exact ag (n,m,q,vs,s,r+1,om,hh) _ (Nat.lt_succ_self _) ⟨hc2,by show q.length+(l.length - m.length) < n;omega,hwy,hmm,hgq',h9h⟩ rd
      ·rw [show (((w.path.length:Nat):Int)==8)=false from c8] at hc2
       refine qT 3 U (dv ty145 (a14.mono h9h) U (aj vo U (aI 0 ty3 U U U ?_)))
       refine aN (pJ (k:=w.to) E4 (eO kK) (h9h _ _ hbf) (hmF.mono (VSl.mono Interest.aD) h9h) (jf zv24) (show VSl Interest.rp _ (.slice none 0 0) [] from ⟨none,0,U,SlC.nil⟩) U U (fun v hv=>?_))
       obtain ⟨xb,xc,rfl,slx⟩:=hv
       have hxs:∀ y∈mgetD f w.to [],y∈st:=hgf w.to
       generalize mgetD f w.to []=xs at slx hc2 hxs
       refine a8 kS U (qO 2 U ?_)
       have hw7:w.path.length+1≤8:=by simp at c8;omega
       have hsum:=vv (path:=w.path) hstl hw7 hxs hgq' hmm.nodup
       generalize hcs:conStep w.path xs m q=CS at hc2 hsum
       refine aU (ι:=List Value×Nat×Obj×HF) (fun i=>[(2,.slice jh parties.length jg),(14,Q b14),(16,Q b16),(17,Q b17)]) (fun i=>i.2.2.2) (fun i=>[(b19,.cells (fY.cells w wr).toArray 148 (0,0)),(bc,.chan l.length i.1.toArray false i.2.1 (r+1) false),(bm,i.2.2.1)]++markB [dm])
        (fun i=>qo i.2.2.2 i.1 CS.2∧gC (Value.int .i64) gY i.2.2.2 i.2.2.1 CS.1∧qr st CS.1 CS.2∧hh.le i.2.2.2) ?_ (fun hx2=>?_)
       ·rintro ⟨vs2,s2,om2,h10⟩ ⟨hw2,hm2,hg2,hle2⟩ e2
        refine jF ?_
        refine cG (L':=[(bc,.chan l.length vs2.toArray false s2 (r+1) false),(bm,om2)]++markB [dm]) js ?_
        exact ag (n,CS.1,CS.2,vs2,s2,r+1,om2,h10) _ (Nat.lt_succ_self _) ⟨hc2,by show CS.2.length+(l.length - CS.1.length) < n;omega,hw2,hm2,hg2,HF.le_trans h9h hle2⟩ rd
       ·refine bG (ι:=Nat×List (Int×Bool)×List fY×List Value×Nat×Obj×HF×List Interest) (fun i=>[(2,.slice jh parties.length jg),(14,Q b14),(16,Q b16),(17,Q b17),(19,Q b19),(92,.slice xb xs.length xc),(93,I ((xs.length:Nat):Int)),(94,I ((i.1:Nat):Int))]) (fun i=>i.2.2.2.2.2.2.1)
         (fun i=>[(b19,.cells (fY.cells w wr).toArray 148 (0,0)),(bc,.chan l.length i.2.2.2.1.toArray false i.2.2.2.2.1 (r+1) false),(bm,i.2.2.2.2.2.1)]++markB [dm])
         (fun i=>xs.drop i.1=i.2.2.2.2.2.2.2∧conStep w.path i.2.2.2.2.2.2.2 i.2.1 i.2.2.1=CS∧qo i.2.2.2.2.2.2.1 i.2.2.2.1 i.2.2.1∧gC (Value.int .i64) gY i.2.2.2.2.2.2.1 i.2.2.2.2.2.1 i.2.1∧qr st i.2.1 i.2.2.1∧hh.le i.2.2.2.2.2.2.1)
         (fun i=>i.2.2.2.2.2.2.2.length) (0,m,q,vs,s,om,hh,xs) rd (fun w hw=>hw) ⟨rfl,hcs,hwy,hmm,hgq',HF.le_refl _⟩ ?_
        rintro ⟨i1,m2,q2,vs2,s2,om2,h10,rest⟩ ⟨hd1,hcs2,hw2,hm2,hg2,hle2⟩ ag2 e2
        dsimp only at hd1 hcs2 hw2 hm2 hg2 hle2
        rcases rest with _ | ⟨x,rest⟩
        ·have hge:=cw hd1
         refine sr (ai (v':=.bool false) U (cb hge) (qO 4 U ?_))
         obtain rfl:(m2,q2)=CS:=hcs2
         exact hx2 (vs2,s2,om2,h10) _ ⟨hw2,hm2,hg2,hle2⟩ rd
        ·have hlt:=dy hd1
         have hget:=cA hd1
         have hxst:x∈st:=hxs x (gx hd1)
         have hpty:(fY.mk (w.path++[x.No]) x.Party).to∈st.map (·.Party):=List.mem_map_of_mem hxst
         have slx2:=slx.mono Interest.aD hle2
         have hokp:=hok.path.mono Rp.bi hle2
         have gi:=slx.1.1
         have ey:=aE hd1
         have h910:h9.le h10:=HF.le_trans h9h hle2
         refine sr (ai (v':=.bool true) U (cb hlt) (qO 8 U (aN (eU (enc:=Interest.cells) (fun _ _ _ e=>e) kS ty61 slx2.1 (nthZ hget) (aV hget) U U U (fun qx Ax=>?_)))))
         refine el ty61 Ax U U (bR zc61 (fun b23=>bL 0 ty61 U U U U U U (bh ?_)))
         refine IF (ι:=List Value×Nat×Obj×HF) (fun i=>[(2,.slice jh parties.length jg),(14,Q b14),(16,Q b16),(17,Q b17),(19,Q b19),(92,.slice xb xs.length xc),(93,I ((xs.length:Nat):Int)),(94,I ((i1:Nat):Int))]) (fun i=>i.2.2.2) (fun i=>[(b19,.cells (fY.cells w wr).toArray 148 (0,0)),(bc,.chan l.length i.1.toArray false i.2.1 (r+1) false),(bm,i.2.2.1)]++markB [dm])
          (fun i=>h10.le i.2.2.2∧qo i.2.2.2 i.1 (conPut ⟨w.path++[x.No],x.Party⟩ m2 q2).2∧gC (Value.int .i64) gY i.2.2.2 i.2.2.1 (conPut ⟨w.path++[x.No],x.Party⟩ m2 q2).1) ?_ (fun fin=>?_)
         ·rintro ⟨vs3,s3,om3,h11⟩ ⟨l11,hw3,hm3⟩ e3
          dsimp only at l11 hw3 hm3
          refine qT 2 U (ai (v':=I ((i1+1:Nat):Int)) U (bz ob) (qO 2 U ?_))
          exact ag2 (i1+1,(conPut ⟨w.path++[x.No],x.Party⟩ m2 q2).1,(conPut ⟨w.path++[x.No],x.Party⟩ m2 q2).2,vs3,s3,om3,h11,rest) _ (Nat.lt_succ_self _) ⟨ba hd1,hcs2,hw3,hm3,px hg2 hpty (by simpa using hw7),HF.le_trans hle2 l11⟩ rd
         have hKs:∀ p∈([(b23,.cells (Interest.cells x).toArray 61 (0,0)),(b19,.cells (fY.cells w wr).toArray 148 (0,0))]:LH),p∈([(b23,.cells (Interest.cells x).toArray 61 (0,0)),(b19,.cells (fY.cells w wr).toArray 148 (0,0)),(bc,.chan l.length vs2.toArray false s2 (r+1) false),(bm,om2)]++markB [dm]:LH):=fun p hp=>by
          rcases List.mem_cons.1 hp with rfl | hp
          ·simp
          ·rw [List.mem_singleton.1 hp];simp
         have hJ:Jst h10 [(b23,.cells (Interest.cells x).toArray 61 (0,0)),(b19,.cells (fY.cells w wr).toArray 148 (0,0))] h10 ([(b23,.cells (Interest.cells x).toArray 61 (0,0)),(b19,.cells (fY.cells w wr).toArray 148 (0,0)),(bc,.chan l.length vs2.toArray false s2 (r+1) false),(bm,om2)]++markB [dm]):=⟨HF.le_refl _,hKs⟩
         refine fd [(b23,.cells (Interest.cells x).toArray 61 (0,0)),(b19,.cells (fY.cells w wr).toArray 148 (0,0))] mixed kr hJ (fun hsep _=>?_)
         refine nD 0 hsep hJ U U kr U (fun _ _ hj=>fK ty149 ((a17.mono h910).mono hj.1) U) ?_
         refine nD 1 hsep hJ U U kr U (fun _ _ _=>dx zf U) ?_
         refine nD 2 hsep hJ U U kr U (fun _ _ hj=>gH ty31 U (hj.nth (i:=1) U) U) ?_
         refine nD 4 hsep hJ U U kr U (fun _ _ _=>dx nX U) ?_
         refine nD 5 hsep hJ U U kr U (fun _ _ hj=>gH ty3 U (hj.nth (i:=0) U) U) ?_
         refine nD 8 hsep hJ U U kr U (fun _ _ _=>dx pu U) ?_
         refine nD 9 hsep hJ U U kr U (fun _ _ hj=>gH ty3 U (hj.nth (i:=0) U) U) ?_
         have hpl8:w.path.length≤wr.ua:=hokp.2
         have hpn:=hokp.1.1
         refine kh 3 6 kr U U ?_ ?_
         ·refine fB (v:=.slice wr.sk w.path.length w.path.length) Tryz.call88 (oh h10 wr.sk w.path.length wr.ua hpl8) U ⟨hJ,?_⟩
          refine tn 6 U (bK (cells:=[I x.No]) cN ty3 zc3 U U kr (fun b6=>⟨⟨HF.le_refl _,fun p hp=>List.mem_cons_of_mem _ (hKs p hp)⟩,?_⟩))
          refine tn 7 U (Al (R:=Rp.int) (xs:=w.path) (ys:=[x.No]) cN ty3 zc3 U bytes3 (ib hokp.1) U U (eI 0 U (show bD Rp.int h10 [I x.No] [x.No] from ⟨[I x.No],[],U,U,U,U⟩)) (by simp) lo lo (fun nb nc NG hNG=>⟨⟨HF.le_refl _,fun p hp=>List.mem_append_right NG (List.mem_cons_of_mem _ (hKs p hp))⟩,?_⟩))
          refine tn 10 U (fq (cells:=fY.cells ⟨w.path++[x.No],x.Party⟩ ⟨nb,nc⟩) (places:=[(0,1),(1,1)]) Tryz.underlying148 zc148 kr kr ⟨⟨HF.le_refl _,fun p hp=>List.mem_append_right NG (List.mem_cons_of_mem _ (hKs p hp))⟩,?_⟩)
          refine tn 11 U (vF Rp.bi [] NG ((b6,.cells [Value.int .i64 x.No].toArray 3 (0,0))::[(b23,.cells (Interest.cells x).toArray 61 (0,0)),(b19,.cells (fY.cells w wr).toArray 148 (0,0)),(bc,.chan l.length vs2.toArray false s2 (r+1) false),(bm,om2)]++markB [dm]) U hM hNG (fun h11 l11 slN=>?_))
          refine Bd (vs:=[.agg (fY.cells ⟨w.path++[x.No],x.Party⟩ ⟨nb,nc⟩).toArray]) [(bm,om2),(bc,.chan l.length vs2.toArray false s2 (r+1) false)] ([(b6,.cells [Value.int .i64 x.No].toArray 3 (0,0)),(b23,.cells (Interest.cells x).toArray 61 (0,0)),(b19,.cells (fY.cells w wr).toArray 148 (0,0))]++markB [dm]) ?_
           (kp h11 ⟨w.path++[x.No],x.Party⟩ ⟨nb,nc⟩ ⟨b15,0,none⟩ ⟨b16,0,none⟩ bm bc om2 m2 l.length s2 (r+1) vs2 q2 ⟨slN⟩ (a15.mono (h910.t l11)) (a16.mono (h910.t l11)) (hm2.mono gY.mono l11) (hw2.mono l11) (fun hno=>by rw [hw2.len];exact sL hg2 hm2.nodup hpty hstl hno)) rfl rfl (fun B hB=>?_)
          ·exact sT [(b6,.cells [Value.int .i64 x.No].toArray 3 (0,0)),(b23,.cells (Interest.cells x).toArray 61 (0,0)),(b19,.cells (fY.cells w wr).toArray 148 (0,0))] (markB [dm]) (bc,.chan l.length vs2.toArray false s2 (r+1) false) (bm,om2)
          obtain ⟨om3,vs3,s3,hm3,hw3,rfl⟩:=hB
          refine ⟨⟨l11,fun p hp=>by rcases hp with _ | ⟨_,_ | ⟨_,h⟩⟩;simp;simp;cases h⟩,mS (K2:=[(b23,.cells (Interest.cells x).toArray 61 (0,0)),(b19,.cells (fY.cells w wr).toArray 148 (0,0))]) l11 (fun _ hp=>hp) ?_⟩
          refine bv kr ?_
          refine nN (sT [(b6,.cells [Value.int .i64 x.No].toArray 3 (0,0)),(b23,.cells (Interest.cells x).toArray 61 (0,0)),(b19,.cells (fY.cells w wr).toArray 148 (0,0))] (markB [dm]) (bc,.chan l.length vs3.toArray false s3 (r+1) false) (bm,om3)).symm ?_
          refine cG (L':=[(b19,.cells (fY.cells w wr).toArray 148 (0,0)),(bc,.chan l.length vs3.toArray false s3 (r+1) false),(bm,om3)]++markB [dm]) js ?_
          exact fin (vs3,s3,om3,h11) _ ⟨l11,hw3,hm3⟩ rd
         ·refine bK (cells:=[I x.No]) cN ty3 zc3 U U kr (fun b6=>⟨⟨HF.le_refl _,fun p hp=>List.mem_cons_of_mem _ (hKs p hp)⟩,?_⟩)
          refine tn 3 U (fB (v:=.slice wr.sk w.path.length w.path.length) Tryz.call88 (oh h10 wr.sk w.path.length wr.ua hpl8) U ⟨⟨HF.le_refl _,fun p hp=>List.mem_cons_of_mem _ (hKs p hp)⟩,?_⟩)
          refine tn 7 U (Al (R:=Rp.int) (xs:=w.path) (ys:=[x.No]) cN ty3 zc3 U bytes3 (ib hokp.1) U U (eI 0 U (show bD Rp.int h10 [I x.No] [x.No] from ⟨[I x.No],[],U,U,U,U⟩)) (by simp) lo lo (fun nb nc NG hNG=>⟨⟨HF.le_refl _,fun p hp=>List.mem_append_right NG (List.mem_cons_of_mem _ (hKs p hp))⟩,?_⟩))
          refine tn 10 U (fq (cells:=fY.cells ⟨w.path++[x.No],x.Party⟩ ⟨nb,nc⟩) (places:=[(0,1),(1,1)]) Tryz.underlying148 zc148 kr kr ⟨⟨HF.le_refl _,fun p hp=>List.mem_append_right NG (List.mem_cons_of_mem _ (hKs p hp))⟩,?_⟩)
          refine tn 11 U (vF Rp.bi [] NG ((b6,.cells [Value.int .i64 x.No].toArray 3 (0,0))::[(b23,.cells (Interest.cells x).toArray 61 (0,0)),(b19,.cells (fY.cells w wr).toArray 148 (0,0)),(bc,.chan l.length vs2.toArray false s2 (r+1) false),(bm,om2)]++markB [dm]) U hM hNG (fun h11 l11 slN=>?_))
          refine Bd (vs:=[.agg (fY.cells ⟨w.path++[x.No],x.Party⟩ ⟨nb,nc⟩).toArray]) [(bm,om2),(bc,.chan l.length vs2.toArray false s2 (r+1) false)] ([(b6,.cells [Value.int .i64 x.No].toArray 3 (0,0)),(b23,.cells (Interest.cells x).toArray 61 (0,0)),(b19,.cells (fY.cells w wr).toArray 148 (0,0))]++markB [dm]) ?_
           (kp h11 ⟨w.path++[x.No],x.Party⟩ ⟨nb,nc⟩ ⟨b15,0,none⟩ ⟨b16,0,none⟩ bm bc om2 m2 l.length s2 (r+1) vs2 q2 ⟨slN⟩ (a15.mono (h910.t l11)) (a16.mono (h910.t l11)) (hm2.mono gY.mono l11) (hw2.mono l11) (fun hno=>by rw [hw2.len];exact sL hg2 hm2.nodup hpty hstl hno)) rfl rfl (fun B hB=>?_)
          ·exact sT [(b6,.cells [Value.int .i64 x.No].toArray 3 (0,0)),(b23,.cells (Interest.cells x).toArray 61 (0,0)),(b19,.cells (fY.cells w wr).toArray 148 (0,0))] (markB [dm]) (bc,.chan l.length vs2.toArray false s2 (r+1) false) (bm,om2)
          obtain ⟨om3,vs3,s3,hm3,hw3,rfl⟩:=hB
          refine ⟨⟨l11,fun p hp=>by rcases hp with _ | ⟨_,_ | ⟨_,h⟩⟩;simp;simp;cases h⟩,mS (K2:=[(b23,.cells (Interest.cells x).toArray 61 (0,0)),(b19,.cells (fY.cells w wr).toArray 148 (0,0))]) l11 (fun _ hp=>hp) ?_⟩
          refine bv kr ?_
          refine nN (sT [(b6,.cells [Value.int .i64 x.No].toArray 3 (0,0)),(b23,.cells (Interest.cells x).toArray 61 (0,0)),(b19,.cells (fY.cells w wr).toArray 148 (0,0))] (markB [dm]) (bc,.chan l.length vs3.toArray false s3 (r+1) false) (bm,om3)).symm ?_
          refine cG (L':=[(b19,.cells (fY.cells w wr).toArray 148 (0,0)),(bc,.chan l.length vs3.toArray false s3 (r+1) false),(bm,om3)]++markB [dm]) js ?_
          exact fin (vs3,s3,om3,h11) _ ⟨l11,hw3,hm3⟩ rd
end Go.Sg
