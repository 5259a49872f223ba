import Derived.Test.YtngiefchigcphaaGreatDoorW9
/- A part of the proof of AsofSmallest. -/
set_option linter.unusedVariables false
set_option linter.unusedSimpArgs false
set_option maxRecDepth 100000
namespace Go.Sg
open Go.Proofs
set_option maxHeartbeats 2000000
theorem w7 (rec:Expr→Int) (h:HF) (x:Expr) (fb:cE) (hrec:∀ (h:HF) (qx:Expr) (jp:cE) (hqx:Expr.ok h qx jp) (_:qx.dep < x.dep),Ret Tryz.prog 267 [.agg (Expr.cells qx jp).toArray] h (I (rec qx))) (hx:Expr.ok h x fb):Ret Tryz.prog 267 [.agg (Expr.cells x fb).toArray] h (I (bC.F rec x)):=by
 refine ae Tryz.func267 U Tryz.ntmps267 U fun X hM hX=>?_
 have hs0:bC.F rec x=bC.F rec x:=rfl
 refine sr (dt (fun b1=>qO 11 U ?_))
 refine aU (ι:=Nat×Int) (fun i=>[(3,I i.2)]) (fun i=>h) (fun i=>[(b1,O (Expr.cells x fb) 66)]) (fun i=>i.1≤x.L.length∧bC.F rec x=((bC.K1) i.2)) ?_ (fun hx1=>?_)
 ·rintro ⟨i1,fW⟩ ⟨aP,hs1⟩ e
  try dsimp only at aP
  refine qT 6 U ?_
  exact ah [I (IntKind.wrap .i64 (fW+1))] Tryz.func267 U hX rd (ci hs1)
 ·refine bG (ι:=Nat×Int×List Expr) (fun i=>[(1,Q b1),(3,I i.2.1),(4,I ((i.1:Nat):Int))]) (fun i=>h) (fun i=>[(b1,O (Expr.cells x fb) 66)]) (fun i=>x.L.drop i.1=i.2.2∧i.1≤x.L.length∧bC.F rec x=((bC.L1 rec (bC.K1)) i.2.2 i.2.1)) (fun i=>i.2.2.length) (0,0,x.L) rd sw ⟨U,Nat.zero_le _,hs0⟩ ?_
  rintro ⟨i1,fW,s1⟩ ⟨hd1,aP,hs3⟩ ag1 e
  try dsimp only at hd1 aP
  rcases s1 with _ | ⟨y1,rz1⟩
  ·have dr:=cw hd1
   refine qT 4 U (aj dC U (aI 0 ty64 U U U (a8 ga U (ai (v':=.bool false) U (cb dr) (qO 3 U ?_)))))
   exact hx1 (i1,fW) _ ⟨aP,hs3⟩ rd
  ·have dq:=dy hd1
   have aM:=cA hd1
   have ey:=aE hd1
   have gi:=hx.list.1.1
   refine qT 4 U (aj dC U (aI 0 ty64 U U U (a8 ga U (ai (v':=.bool true) U (cb dq) (qO 7 U (aj dC U (aI 0 ty64 U U U (aB (aN (fF ga ty66 hx.list.1 (nthZ aM) (aV aM) U U U (fun q2 cs2 A2 ln2 rr2=>?_)))))))))))
   obtain ⟨r2,rfl,ok2⟩:=rr2
   refine el ty66 A2 U U (au (v:=I (rec y1)) Tryz.call267 (hrec h y1 r2 ok2 (Expr.hY (gx hd1))) U (aN (gI (J7 U U) (qO 5 U (ai (v':=I (((i1+1):Nat):Int)) U (bz ob) (an ?_))))))
   exact ag1 ((i1+1),(max fW (rec y1)),rz1) _ (Nat.lt_succ_self _) ⟨ba hd1,aE hd1,hs3⟩ rd
theorem pj:∀ (m:Nat) (h:HF) (x:Expr) (fb:cE) (_:x.dep≤m) (hx:Expr.ok h x fb),Ret Tryz.prog 267 [.agg (Expr.cells x fb).toArray] h (I (bC.go m x))
 | 0,h,x,fb,hd,hx=>absurd hd (Nat.not_le.2 (Expr.jV _))
 | m+1,h,x,fb,hd,hx=>w7 (bC.go m) h x fb (fun qh_ qx jp qhx qd=>pj m qh_ qx jp ob qhx) hx
theorem yd (h:HF) (x:Expr) (fb:cE) (hx:Expr.ok h x fb):Ret Tryz.prog 267 [.agg (Expr.cells x fb).toArray] h (I (bC x)):=pj _ h x fb (Nat.le_refl _) hx
theorem sb (h:HF) (x:Expr) (fb:cE) (hx:Expr.ok h x fb):Ret Tryz.prog 249 [.agg (Expr.cells x fb).toArray] h (.bool (i9 x)):=by
 refine ae Tryz.func249 U Tryz.ntmps249 U fun X hM hX=>?_
 have hs0:i9 x=i9 x:=rfl
 refine sr (dt (fun b1=>qO 4 U (dl 0 ty66 U U U (au (v:=I (cR x 256)) Tryz.call266 (yc h x fb 256 hx) U (qO 2 U ?_)))))
 refine ar 4 [6,7,8,9,10] 10 (.bool (decide (256 < (cR x 256))||decide (16 < (bC x)))) (fun hk1=>?_) (fun e=>?_)
 ·refine ac 6 U (fun c1=>?_) (fun c1=>?_)
  ·refine qO 4 U ?_
   exact hk1 _ (cb (dW c1))
  ·refine dl 0 ty66 U U U (au (v:=I (bC x)) Tryz.call267 (yd h x fb hx) U (qO 2 U ?_))
   exact hk1 _ (cb (dX c1))
 refine an ?_
 exact ah [.bool (decide (256 < (cR x 256))||decide (16 < (bC x)))] Tryz.func249 U hX rd (cs hs0)
theorem uP (h:HF) (p:Policy) (fe:eE) (hp:Policy.ok h p fe):Ret Tryz.prog 227 [.agg (Policy.cells p fe).toArray] h (.bool (eM p)):=by
 refine ae Eb U Tryz.ntmps227 U fun X hM hX=>?_
 have hs0:eM p=eM p:=rfl
 refine sr (dt (fun b1=>qO 5 U (aj iS U (aI 0 ty62 U U U (a8 kB U (qO 2 U ?_))))))
 refine ar 5 [8,9,10,11,12,13] 13 (.bool (decide (32 < ((p.Offices.length:Nat):Int))||decide (16 < ((p.Kinds.length:Nat):Int)))) (fun hk1=>?_) (fun e=>?_)
 ·refine ac 8 U (fun c1=>?_) (fun c1=>?_)
  ·refine qO 5 U ?_
   exact hk1 _ (cb (dW c1))
  ·refine aj kZ U (aI 0 ty62 U U U (a8 kB U (qO 2 U ?_)))
   exact hk1 _ (cb (dX c1))
 refine aB ?_
 refine ar 5 [14,15,16,17,18,19] 19 (.bool ((decide (32 < ((p.Offices.length:Nat):Int))||decide (16 < ((p.Kinds.length:Nat):Int)))||decide (16 < ((p.Rules.length:Nat):Int)))) (fun hk2=>?_) (fun e=>?_)
 ·refine ac 14 U (fun c2=>?_) (fun c2=>?_)
  ·refine qO 5 U ?_
   exact hk2 _ (cb (dW c2))
  ·refine aj fj U (aI 0 ty63 U U U (a8 jR U (qO 2 U ?_)))
   exact hk2 _ (cb (dX c2))
 refine aB ?_
 refine ar 4 [20,21,22,23,24] 24 (.bool (((decide (32 < ((p.Offices.length:Nat):Int))||decide (16 < ((p.Kinds.length:Nat):Int)))||decide (16 < ((p.Rules.length:Nat):Int)))||(i9 p.Change))) (fun hk3=>?_) (fun e=>?_)
 ·refine ac 20 U (fun c3=>?_) (fun c3=>?_)
  ·refine qO 4 U ?_
   exact hk3 _ (cb (dW c3))
  ·refine aj lU U (dl 0 ty66 U U U (au (v:=.bool (i9 p.Change)) Tryz.call249 (sb h p.Change fe.Change hp.Change) U (eH U ?_)))
   exact hk3 _ (cb (dX c3))
 refine bh ?_
 refine ak hs0 U (fun c4 hs1=>?_) (fun c4 hs2=>?_)
 ·refine qT 4 U ?_
  exact ah [.bool true] Eb U hX rd (cs hs1)
 ·refine qT 6 U ?_
  refine aU (ι:=Nat) (fun i=>[]) (fun i=>h) (fun i=>[(b1,O (Policy.cells p fe) 68)]) (fun i=>i≤p.Rules.length∧eM p=((eM.K1))) ?_ (fun hx1=>?_)
  ·rintro i1 ⟨aP,hs4⟩ e
   try dsimp only at aP
   refine qT 4 U ?_
   exact ah [.bool false] Eb U hX rd (cs hs4)
  ·refine bG (ι:=Nat×List Rule) (fun i=>[(1,Q b1),(3,I ((i.1:Nat):Int))]) (fun i=>h) (fun i=>[(b1,O (Policy.cells p fe) 68)]) (fun i=>p.Rules.drop i.1=i.2∧i.1≤p.Rules.length∧eM p=((eM.L1 (eM.K1)) i.2 )) (fun i=>i.2.length) (0,p.Rules) rd sw ⟨U,Nat.zero_le _,hs2⟩ ?_
   rintro ⟨i1,s1⟩ ⟨hd1,aP,hs6⟩ ag1 e
   try dsimp only at hd1 aP
   rcases s1 with _ | ⟨y1,rz1⟩
   ·have dr:=cw hd1
    refine qT 4 U (aj fj U (aI 0 ty63 U U U (a8 jR U (ai (v':=.bool false) U (cb dr) (qO 3 U ?_)))))
    exact hx1 i1 _ ⟨aP,hs6⟩ trivial
   ·have dq:=dy hd1
    have aM:=cA hd1
    have ey:=aE hd1
    have gi:=hp.Rules.1.1
    refine qT 4 U (aj fj U (aI 0 ty63 U U U (a8 jR U (ai (v':=.bool true) U (cb dq) (qO 7 U (aj fj U (aI 0 ty63 U U U (aB (aN (fF jR ty107 hp.Rules.1 (nthZ aM) (aV aM) U U U (fun q2 cs2 A2 ln2 rr2=>?_)))))))))))
    obtain ⟨r2,rfl,ok2⟩:=rr2
    refine aj kv U (vO (j:=3) ty66 A2 U U (au (v:=.bool (i9 y1.Expr)) Tryz.call249 (sb h y1.Expr r2.Expr ok2.Expr) U (bh ?_)))
    refine ak hs6 U (fun c6 hs8=>?_) (fun c6 hs9=>?_)
    ·refine qT 4 U ?_
     exact ah [.bool true] Eb U hX rd (cs hs8)
    ·refine qT 4 U (ai (v':=I (((i1+1):Nat):Int)) U (bz ob) (an ?_))
     exact ag1 ((i1+1),rz1) _ (Nat.lt_succ_self _) ⟨ba hd1,aE hd1,hs9⟩ rd
theorem rj (h:HF) (c:Int)  : Ret Tryz.prog 276 [Y c] h (.bool (gF c)):=by
 refine ae Tryz.func276 U Tryz.ntmps276 U fun X hM hX=>?_
 have hs0:gF c=gF c:=rfl
 refine qT 9 U ?_
 refine ar 3 [5,6,7,8] 8 (.bool (decide (97≤c)&&decide (c≤122))) (fun hk1=>?_) (fun e=>?_)
 ·refine ac 5 U (fun c1=>?_) (fun c1=>?_)
  ·refine qO 3 U ?_
   exact hk1 _ (cb (cB c1))
  ·refine qO 3 U ?_
   exact hk1 _ (cb (cC c1))
 refine aB ?_
 refine ar 7 [9,10,11,12,13,14,15,16] 16 (.bool ((decide (97≤c)&&decide (c≤122))||(decide (65≤c)&&decide (c≤90)))) (fun hk2=>?_) (fun e=>?_)
 ·refine ac 9 U (fun c2=>?_) (fun c2=>?_)
  ·refine qO 7 U ?_
   exact hk2 _ (cb (dW c2))
  ·refine qO 3 U ?_
   refine ar 3 [12,13,14,15] 15 (.bool (decide (65≤c)&&decide (c≤90))) (fun hk3=>?_) (fun e=>?_)
   ·refine ac 12 U (fun c3=>?_) (fun c3=>?_)
    ·refine qO 3 U ?_
     exact hk3 _ (cb (cB c3))
    ·refine qO 3 U ?_
     exact hk3 _ (cb (cC c3))
   refine eH U ?_
   exact hk2 _ (cb (dX c2))
 refine an ?_
 exact ah [.bool ((decide (97≤c)&&decide (c≤122))||(decide (65≤c)&&decide (c≤90)))] Tryz.func276 U hX rd (cs hs0)
theorem xa (h:HF) (c:Int)  : Ret Tryz.prog 280 [Y c] h (.bool (ju c)):=by
 refine ae Tryz.func280 U Tryz.ntmps280 U fun X hM hX=>?_
 have hs0:ju c=ju c:=rfl
 refine qT 9 U ?_
 refine ar 3 [5,6,7,8] 8 (.bool (decide (48≤c)&&decide (c≤57))) (fun hk1=>?_) (fun e=>?_)
 ·refine ac 5 U (fun c1=>?_) (fun c1=>?_)
  ·refine qO 3 U ?_
   exact hk1 _ (cb (cB c1))
  ·refine qO 3 U ?_
   exact hk1 _ (cb (cC c1))
 refine an ?_
 exact ah [.bool (decide (48≤c)&&decide (c≤57))] Tryz.func280 U hX rd (cs hs0)
theorem zE (h:HF) (c:Int)  : Ret Tryz.prog 277 [Y c] h (.bool (ma c)):=by
 refine ae Tryz.func277 U Tryz.ntmps277 U fun X hM hX=>?_
 have hs0:ma c=ma c:=rfl
 refine qT 7 U (au (v:=.bool (gF c)) Tryz.call276 (rj h c ) U (aB ?_))
 refine ar 3 [5,6,7,8] 8 (.bool ((gF c)||(ju c))) (fun hk1=>?_) (fun e=>?_)
 ·refine ac 5 U (fun c1=>?_) (fun c1=>?_)
  ·refine qO 3 U ?_
   exact hk1 _ (cb (dW c1))
  ·refine aB (au (v:=.bool (ju c)) Tryz.call280 (xa h c ) U (eH U ?_))
   exact hk1 _ (cb (dX c1))
 refine aB ?_
 refine ar 3 [9,10,11,12] 12 (.bool (((gF c)||(ju c))||(c==95))) (fun hk2=>?_) (fun e=>?_)
 ·refine ac 9 U (fun c2=>?_) (fun c2=>?_)
  ·refine qO 3 U ?_
   exact hk2 _ (cb (dW c2))
  ·refine qO 3 U ?_
   exact hk2 _ (cb (dX c2))
 refine an ?_
 exact ah [.bool (((gF c)||(ju c))||(c==95))] Tryz.func277 U hX rd (cs hs0)
theorem zF (h:HF) (s:ByteArray)  : Ret Tryz.prog 268 [.string s] h (.bool (fJ s)):=by
 refine ae Ea U Tryz.ntmps268 U fun X hM hX=>?_
 have hs0:fJ s=fJ s:=rfl
 refine qT 8 U (aN (gI (vJ uE U) (qO 2 U ?_)))
 refine ar 4 [7,8,9,10,11] 11 (.bool (decide (((s.size:Nat):Int) < 1)||decide (32 < ((s.size:Nat):Int)))) (fun hk1=>?_) (fun e=>?_)
 ·refine ac 7 U (fun c1=>?_) (fun c1=>?_)
  ·refine qO 4 U ?_
   exact hk1 _ (cb (dW c1))
  ·refine aB (aN (gI (vJ uE U) (qO 2 U ?_)))
   exact hk1 _ (cb (dX c1))
 refine aB ?_
 refine ar 5 [12,13,14,15,16,17] 17 (.bool ((decide (((s.size:Nat):Int) < 1)||decide (32 < ((s.size:Nat):Int)))||(!(gF ((s.data.getD (0:Int).toNat 0).toNat:Int))))) (fun hk2=>?_) (fun e=>?_)
 ·refine ac 12 U (fun c2=>?_) (fun c2=>?_)
  ·refine qO 5 U ?_
   exact hk2 _ (cb (dW c2))
  ·refine aB ?_
   have ho1:0≤(0:Int)∧(0:Int) < (s.size:Int):=ob
   refine aN (gI (Bi uE U U ho1) (au (v:=.bool (gF ((s.data.getD (0:Int).toNat 0).toNat:Int))) Tryz.call276 (rj h ((s.data.getD (0:Int).toNat 0).toNat:Int)) U (qO 2 U ?_)))
   exact hk2 _ (cb (dX c2))
 refine bh ?_
 refine ak hs0 U (fun c3 hs1=>?_) (fun c3 hs2=>?_)
 ·refine qT 4 U ?_
  exact ah [.bool false] Ea U hX rd (cs hs1)
 ·refine qT 6 U ?_
  refine aU (ι:=Nat) (fun i=>[]) (fun i=>h) (fun i=>[]) (fun i=>i≤(List.range s.size).length∧fJ s=((fJ.K1))) ?_ (fun hx1=>?_)
  ·rintro i1 ⟨aP,hs4⟩ e
   try dsimp only at aP
   refine qT 4 U ?_
   exact ah [.bool true] Ea U hX rd (cs hs4)
  ·refine bG (ι:=Nat×List Nat) (fun i=>[(0,.string s),(3,I ((i.1:Nat):Int))]) (fun i=>h) (fun i=>[]) (fun i=>(List.range s.size).drop i.1=i.2∧i.1≤(List.range s.size).length∧fJ s=((fJ.L1 s (fJ.K1)) i.2 i.1)) (fun i=>i.2.length) (0,(List.range s.size)) rd sw ⟨U,Nat.zero_le _,hs2⟩ ?_
   rintro ⟨i1,s1⟩ ⟨hd1,aP,hs6⟩ ag1 e
   try dsimp only at hd1 aP
   rcases s1 with _ | ⟨y1,rz1⟩
   ·have dr:decide (((i1:Nat):Int) < ((s.size:Nat):Int))=false:=by simpa using cw hd1
    refine qT 5 U (aN (gI (vJ uE U) (ai (v':=.bool false) U (cb dr) (qO 3 U ?_))))
    exact hx1 i1 _ ⟨aP,hs6⟩ trivial
   ·have dq:decide (((i1:Nat):Int) < ((s.size:Nat):Int))=true:=by simpa using dy hd1
    have ey:i1 < s.size:=by simpa using aE hd1
    refine qT 5 U (aN (gI (vJ uE U) (ai (v':=.bool true) U (cb dq) (qO 9 U ?_))))
    have ho3:0≤(((i1:Nat):Int):Int)∧(((i1:Nat):Int):Int) < (s.size:Int):=ob
    refine aN (gI (Bi uE U U ho3) (au (v:=.bool (ma ((s.data.getD (((i1:Nat):Int):Int).toNat 0).toNat:Int))) Tryz.call277 (zE h ((s.data.getD (((i1:Nat):Int):Int).toNat 0).toNat:Int)) U (qO 2 U ?_)))
    refine ak hs6 U (fun c5 hs8=>?_) (fun c5 hs9=>?_)
    ·refine qT 4 U ?_
     exact ah [.bool false] Ea U hX rd (cs hs8)
    ·refine qT 4 U (ai (v':=I (((i1+1):Nat):Int)) U (bz ob) (an ?_))
     exact ag1 ((i1+1),rz1) _ (Nat.lt_succ_self _) ⟨ba hd1,aE hd1,hs9⟩ rd
theorem zz (h:HF) (s:ByteArray)  : Ret Tryz.prog 269 [.string s] h (.bool (kG s)):=by
 refine ae lH U Tryz.ntmps269 U fun X hM hX=>?_
 have hs0:kG s=kG s:=rfl
 refine qT 16 U ?_
 refine ak hs0 U (fun c1 hs1=>?_) (fun c1 hs2=>?_)
 ·refine e8 ?_
  refine ak hs1 U (fun c2 hs3=>?_) (fun c2 hs4=>?_)
  ·refine qT 4 U ?_
   exact ah [.bool true] lH U hX rd (cs hs3)
  ·refine qT 6 U ?_
   exact ah [.bool false] lH U hX rd (cs hs4)
 ·refine qT 5 U ?_
  refine ak hs2 U (fun c3 hs7=>?_) (fun c3 hs8=>?_)
  ·refine e8 ?_
   refine ak hs7 U (fun c4 hs9=>?_) (fun c4 hs10=>?_)
   ·refine qT 4 U ?_
    exact ah [.bool true] lH U hX rd (cs hs9)
   ·refine qT 6 U ?_
    exact ah [.bool false] lH U hX rd (cs hs10)
  ·refine qT 5 U ?_
   refine ak hs8 U (fun c5 hs13=>?_) (fun c5 hs14=>?_)
   ·refine e8 ?_
    refine ak hs13 U (fun c6 hs15=>?_) (fun c6 hs16=>?_)
    ·refine qT 4 U ?_
     exact ah [.bool true] lH U hX rd (cs hs15)
    ·refine qT 6 U ?_
     exact ah [.bool false] lH U hX rd (cs hs16)
   ·refine qT 5 U ?_
    refine ak hs14 U (fun c7 hs19=>?_) (fun c7 hs20=>?_)
    ·refine e8 ?_
     refine ak hs19 U (fun c8 hs21=>?_) (fun c8 hs22=>?_)
     ·refine qT 4 U ?_
      exact ah [.bool true] lH U hX rd (cs hs21)
     ·refine qT 6 U ?_
      exact ah [.bool false] lH U hX rd (cs hs22)
    ·refine qT 5 U ?_
     refine ak hs20 U (fun c9 hs25=>?_) (fun c9 hs26=>?_)
     ·refine e8 ?_
      refine ak hs25 U (fun c10 hs27=>?_) (fun c10 hs28=>?_)
      ·refine qT 4 U ?_
       exact ah [.bool true] lH U hX rd (cs hs27)
      ·refine qT 6 U ?_
       exact ah [.bool false] lH U hX rd (cs hs28)
     ·refine qT 5 U ?_
      refine ak hs26 U (fun c11 hs31=>?_) (fun c11 hs32=>?_)
      ·refine e8 ?_
       refine ak hs31 U (fun c12 hs33=>?_) (fun c12 hs34=>?_)
       ·refine qT 4 U ?_
        exact ah [.bool true] lH U hX rd (cs hs33)
       ·refine qT 6 U ?_
        exact ah [.bool false] lH U hX rd (cs hs34)
      ·refine qT 5 U ?_
       refine ak hs32 U (fun c13 hs37=>?_) (fun c13 hs38=>?_)
       ·refine e8 ?_
        refine ak hs37 U (fun c14 hs39=>?_) (fun c14 hs40=>?_)
        ·refine qT 4 U ?_
         exact ah [.bool true] lH U hX rd (cs hs39)
        ·refine qT 6 U ?_
         exact ah [.bool false] lH U hX rd (cs hs40)
       ·refine qT 5 U ?_
        refine ak hs38 U (fun c15 hs43=>?_) (fun c15 hs44=>?_)
        ·refine e8 ?_
         refine ak hs43 U (fun c16 hs45=>?_) (fun c16 hs46=>?_)
         ·refine qT 4 U ?_
          exact ah [.bool true] lH U hX rd (cs hs45)
         ·refine qT 6 U ?_
          exact ah [.bool false] lH U hX rd (cs hs46)
        ·refine qT 5 U ?_
         refine ak hs44 U (fun c17 hs49=>?_) (fun c17 hs50=>?_)
         ·refine e8 ?_
          refine ak hs49 U (fun c18 hs51=>?_) (fun c18 hs52=>?_)
          ·refine qT 4 U ?_
           exact ah [.bool true] lH U hX rd (cs hs51)
          ·refine qT 6 U ?_
           exact ah [.bool false] lH U hX rd (cs hs52)
         ·refine qT 5 U ?_
          refine ak hs50 U (fun c19 hs55=>?_) (fun c19 hs56=>?_)
          ·refine e8 ?_
           refine ak hs55 U (fun c20 hs57=>?_) (fun c20 hs58=>?_)
           ·refine qT 4 U ?_
            exact ah [.bool true] lH U hX rd (cs hs57)
           ·refine qT 6 U ?_
            exact ah [.bool false] lH U hX rd (cs hs58)
          ·refine qT 5 U ?_
           refine ak hs56 U (fun c21 hs61=>?_) (fun c21 hs62=>?_)
           ·refine e8 ?_
            refine ak hs61 U (fun c22 hs63=>?_) (fun c22 hs64=>?_)
            ·refine qT 4 U ?_
             exact ah [.bool true] lH U hX rd (cs hs63)
            ·refine qT 6 U ?_
             exact ah [.bool false] lH U hX rd (cs hs64)
           ·refine qT 5 U ?_
            refine ak hs62 U (fun c23 hs67=>?_) (fun c23 hs68=>?_)
            ·refine e8 ?_
             refine ak hs67 U (fun c24 hs69=>?_) (fun c24 hs70=>?_)
             ·refine qT 4 U ?_
              exact ah [.bool true] lH U hX rd (cs hs69)
             ·refine qT 6 U ?_
              exact ah [.bool false] lH U hX rd (cs hs70)
            ·refine qT 5 U ?_
             refine ak hs68 U (fun c25 hs73=>?_) (fun c25 hs74=>?_)
             ·refine e8 ?_
              refine ak hs73 U (fun c26 hs75=>?_) (fun c26 hs76=>?_)
              ·refine qT 4 U ?_
               exact ah [.bool true] lH U hX rd (cs hs75)
              ·refine qT 6 U ?_
               exact ah [.bool false] lH U hX rd (cs hs76)
             ·refine qT 5 U ?_
              refine ak hs74 U (fun c27 hs79=>?_) (fun c27 hs80=>?_)
              ·refine e8 ?_
               refine ak hs79 U (fun c28 hs81=>?_) (fun c28 hs82=>?_)
               ·refine qT 4 U ?_
                exact ah [.bool true] lH U hX rd (cs hs81)
               ·refine qT 6 U ?_
                exact ah [.bool false] lH U hX rd (cs hs82)
              ·refine qT 5 U ?_
               refine ak hs80 U (fun c29 hs85=>?_) (fun c29 hs86=>?_)
               ·refine e8 ?_
                refine ak hs85 U (fun c30 hs87=>?_) (fun c30 hs88=>?_)
                ·refine qT 4 U ?_
                 exact ah [.bool true] lH U hX rd (cs hs87)
                ·refine qT 6 U ?_
                 exact ah [.bool false] lH U hX rd (cs hs88)
               ·refine qT 4 U ?_
                refine ak hs86 U (fun c31 hs91=>?_) (fun c31 hs92=>?_)
                ·refine qT 4 U ?_
                 exact ah [.bool true] lH U hX rd (cs hs91)
                ·refine qT 6 U ?_
                 exact ah [.bool false] lH U hX rd (cs hs92)
open Go.Proofs
set_option maxHeartbeats 2000000
theorem tJ (h:HF) (s:ByteArray)  : Ret Tryz.prog 250 [.string s] h (.bool (jo s)):=by
 refine ae Tryz.func250 U Tryz.ntmps250 U fun X hM hX=>?_
 have hs0:jo s=jo s:=rfl
 refine qT 7 U (au (v:=.bool (fJ s)) Tryz.call268 (zF h s ) U (aB ?_))
 refine ar 4 [5,6,7,8,9] 9 (.bool ((fJ s)&&(!(kG s)))) (fun hk1=>?_) (fun e=>?_)
 ·refine ac 5 U (fun c1=>?_) (fun c1=>?_)
  ·refine aB (au (v:=.bool (kG s)) Tryz.call269 (zz h s ) U (qO 2 U ?_))
   exact hk1 _ (cb (cB c1))
  ·refine qO 4 U ?_
   exact hk1 _ (cb (cC c1))
 refine an ?_
 exact ah [.bool ((fJ s)&&(!(kG s)))] Tryz.func250 U hX rd (cs hs0)
theorem oq (h:HF) (l:(List ByteArray)) (eD:Option Addr) (eC:Nat) (s:ByteArray) (hl:SlC Rp.str h eD eC l):Ret Tryz.prog 254 [.slice eD l.length eC,.string s] h (I (dk l s)):=by
 refine ae Tryz.func254 U Tryz.ntmps254 U fun X hM hX=>?_
 have hs0:dk l s=dk l s:=rfl
 refine qT 9 U ?_
 refine aU (ι:=Nat) (fun i=>[]) (fun i=>h) (fun i=>[]) (fun i=>i≤l.length∧dk l s=((dk.K1))) ?_ (fun hx1=>?_)
 ·rintro i1 ⟨aP,hs1⟩ e
  try dsimp only at aP
  refine qT 4 U ?_
  exact ah [I (-1)] Tryz.func254 U hX rd (ci hs1)
 ·refine bG (ι:=Nat×List ByteArray) (fun i=>[(0,.slice eD l.length eC),(1,.string s),(5,I ((i.1:Nat):Int))]) (fun i=>h) (fun i=>[]) (fun i=>l.drop i.1=i.2∧i.1≤l.length∧dk l s=((dk.L1 s (dk.K1)) i.2 i.1)) (fun i=>i.2.length) (0,l) rd sw ⟨U,Nat.zero_le _,hs0⟩ ?_
  rintro ⟨i1,s1⟩ ⟨hd1,aP,hs3⟩ ag1 e
  try dsimp only at hd1 aP
  rcases s1 with _ | ⟨y1,rz1⟩
  ·have dr:=cw hd1
   refine qT 5 U (a8 kB U (ai (v':=.bool false) U (cb dr) (qO 3 U ?_)))
   exact hx1 i1 _ ⟨aP,hs3⟩ trivial
  ·have dq:=dy hd1
   have aM:=cA hd1
   have ey:=aE hd1
   have gi:=hl.1.1
   refine qT 5 U (a8 kB U (ai (v':=.bool true) U (cb dq) (qO 9 U (aN (eU (enc:=fun y=>[.string y]) (fun _ _ _ e=>e) kB ty9 hl.1 (nthZ aM) (aV aM) U U U (fun q2 A2=>?_))))))
   refine dv ty9 A2 U (qO 3 U ?_)
   refine ak hs3 U (fun c2 hs5=>?_) (fun c2 hs6=>?_)
   ·refine qT 5 U ?_
    exact ah [I ((i1:Nat):Int)] Tryz.func254 U hX rd (ci hs5)
   ·refine qT 4 U (ai (v':=I (((i1+1):Nat):Int)) U (bz ob) (an ?_))
    exact ag1 ((i1+1),rz1) _ (Nat.lt_succ_self _) ⟨ba hd1,aE hd1,hs6⟩ rd
theorem pg (h:HF) (l:(List ByteArray)) (eD:Option Addr) (eC:Nat) (hl:SlC Rp.str h eD eC l):Ret Tryz.prog 251 [.slice eD l.length eC] h (.bool (dR l)):=by
 refine ae Tryz.func251 U Tryz.ntmps251 U fun X hM hX=>?_
 have hs0:dR l=dR l:=rfl
 refine qT 9 U ?_
 refine aU (ι:=Nat) (fun i=>[]) (fun i=>h) (fun i=>[]) (fun i=>i≤l.length∧dR l=((dR.K1))) ?_ (fun hx1=>?_)
 ·rintro i1 ⟨aP,hs1⟩ e
  try dsimp only at aP
  refine qT 4 U ?_
  exact ah [.bool true] Tryz.func251 U hX rd (cs hs1)
 ·refine bG (ι:=Nat×List ByteArray) (fun i=>[(0,.slice eD l.length eC),(3,I ((i.1:Nat):Int))]) (fun i=>h) (fun i=>[]) (fun i=>l.drop i.1=i.2∧i.1≤l.length∧dR l=((dR.L1 l (dR.K1)) i.2 i.1)) (fun i=>i.2.length) (0,l) rd sw ⟨U,Nat.zero_le _,hs0⟩ ?_
  rintro ⟨i1,s1⟩ ⟨hd1,aP,hs3⟩ ag1 e
  try dsimp only at hd1 aP
  rcases s1 with _ | ⟨y1,rz1⟩
  ·have dr:=cw hd1
   refine qT 5 U (a8 kB U (ai (v':=.bool false) U (cb dr) (qO 3 U ?_)))
   exact hx1 i1 _ ⟨aP,hs3⟩ trivial
  ·have dq:=dy hd1
   have aM:=cA hd1
   have ey:=aE hd1
   have gi:=hl.1.1
   refine qT 5 U (a8 kB U (ai (v':=.bool true) U (cb dq) (qO 9 U (aN (eU (enc:=fun y=>[.string y]) (fun _ _ _ e=>e) kB ty9 hl.1 (nthZ aM) (aV aM) U U U (fun q3 A3=>?_))))))
   refine dv ty9 A3 U (au (v:=.bool (jo y1)) Tryz.call250 (tJ h y1 ) U (qO 2 U ?_))
   refine ar 9 [16,17,18,19,20,21,22,23,24,25] 25 (.bool ((!(jo y1))||((dk l y1) != ((i1:Nat):Int)))) (fun hk1=>?_) (fun e=>?_)
   ·refine ac 16 U (fun c1=>?_) (fun c1=>?_)
    ·refine qO 9 U ?_
     exact hk1 _ (cb (dW c1))
    ·refine qO 3 U (aN (eU (enc:=fun y=>[.string y]) (fun _ _ _ e=>e) kB ty9 hl.1 (nthZ aM) (aV aM) U U U (fun q4 A4=>dv ty9 A4 U (au (v:=I (dk l y1)) Tryz.call254 (oq h l eD eC y1 hl) U (qO 3 U ?_)))))
     exact hk1 _ (cb (dX c1))
   refine bh ?_
   refine ak hs3 U (fun c2 hs5=>?_) (fun c2 hs6=>?_)
   ·refine qT 4 U ?_
    exact ah [.bool false] Tryz.func251 U hX rd (cs hs5)
   ·refine qT 4 U (ai (v':=I (((i1+1):Nat):Int)) U (bz ob) (an ?_))
    exact ag1 ((i1+1),rz1) _ (Nat.lt_succ_self _) ⟨ba hd1,aE hd1,hs6⟩ rd
theorem w4 (rec:(List ByteArray)→Expr→Bool) (h:HF) (offices:(List ByteArray)) (cI:Option Addr) (cH:Nat) (x:Expr) (fb:cE) (hrec:∀ (h:HF) (qoffices:(List ByteArray)) (iE:Option Addr) (iD:Nat) (qx:Expr) (jp:cE) (hqoffices:SlC Rp.str h iE iD qoffices) (hqx:Expr.ok h qx jp) (_:qx.dep < x.dep),Ret Tryz.prog 252 [.slice iE qoffices.length iD,.agg (Expr.cells qx jp).toArray] h (.bool (rec qoffices qx))) (hoffices:SlC Rp.str h cI cH offices) (hx:Expr.ok h x fb):Ret Tryz.prog 252 [.slice cI offices.length cH,.agg (Expr.cells x fb).toArray] h (.bool (bT.F rec offices x)):=by
 refine ae D9 U Tryz.ntmps252 U fun X hM hX=>?_
 have hs0:bT.F rec offices x=bT.F rec offices x:=rfl
 refine sr (dt (fun b1=>qO 5 U (aj k9 U (aI 0 ty3 U U U (qO 2 U ?_)))))
 refine ar 4 [9,10,11,12,13] 13 (.bool ((x.Kind==1)||(x.Kind==2))) (fun hk1=>?_) (fun e=>?_)
 ·refine ac 9 U (fun c1=>?_) (fun c1=>?_)
  ·refine qO 4 U ?_
   exact hk1 _ (cb (dW c1))
  ·refine aj k9 U (aI 0 ty3 U U U (qO 2 U ?_))
   exact hk1 _ (cb (dX c1))
 refine aB ?_
 refine ar 6 [14,15,16,17,18,19,20] 20 (.bool (((x.Kind==1)||(x.Kind==2))&&decide ((dk offices x.Name) < 0))) (fun hk2=>?_) (fun e=>?_)
 ·refine ac 14 U (fun c2=>?_) (fun c2=>?_)
  ·refine aB (aj mI U (aI 0 ty9 U U U (au (v:=I (dk offices x.Name)) Tryz.call254 (oq h offices cI cH x.Name hoffices) U (qO 2 U ?_))))
   exact hk2 _ (cb (cB c2))
  ·refine qO 6 U ?_
   exact hk2 _ (cb (cC c2))
 refine bh ?_
 refine ak hs0 U (fun c3 hs1=>?_) (fun c3 hs2=>?_)
 ·refine qT 4 U ?_
  exact ah [.bool false] D9 U hX rd (cs hs1)
 ·refine qT 6 U ?_
  refine aU (ι:=Nat) (fun i=>[]) (fun i=>h) (fun i=>[(b1,O (Expr.cells x fb) 66)]) (fun i=>i≤x.L.length∧bT.F rec offices x=((bT.K1))) ?_ (fun hx1=>?_)
  ·rintro i1 ⟨aP,hs4⟩ e
   try dsimp only at aP
   refine qT 4 U ?_
   exact ah [.bool true] D9 U hX rd (cs hs4)
  ·refine bG (ι:=Nat×List Expr) (fun i=>[(0,.slice cI offices.length cH),(3,Q b1),(5,I ((i.1:Nat):Int))]) (fun i=>h) (fun i=>[(b1,O (Expr.cells x fb) 66)]) (fun i=>x.L.drop i.1=i.2∧i.1≤x.L.length∧bT.F rec offices x=((bT.L1 rec offices (bT.K1)) i.2 )) (fun i=>i.2.length) (0,x.L) rd sw ⟨U,Nat.zero_le _,hs2⟩ ?_
   rintro ⟨i1,s1⟩ ⟨hd1,aP,hs6⟩ ag1 e
   try dsimp only at hd1 aP
   rcases s1 with _ | ⟨y1,rz1⟩
   ·have dr:=cw hd1
    refine qT 4 U (aj dC U (aI 0 ty64 U U U (a8 ga U (ai (v':=.bool false) U (cb dr) (qO 3 U ?_)))))
    exact hx1 i1 _ ⟨aP,hs6⟩ trivial
   ·have dq:=dy hd1
    have aM:=cA hd1
    have ey:=aE hd1
    have gi:=hx.list.1.1
    refine qT 4 U (aj dC U (aI 0 ty64 U U U (a8 ga U (ai (v':=.bool true) U (cb dq) (qO 8 U (aj dC U ?_))))))
    refine aI 0 ty64 U U U (aB (aN (fF ga ty66 hx.list.1 (nthZ aM) (aV aM) U U U (fun q2 cs2 A2 ln2 rr2=>?_))))
    obtain ⟨r2,rfl,ok2⟩:=rr2
    refine el ty66 A2 U U (au (v:=.bool (rec offices y1)) Tryz.call252 (hrec h offices cI cH y1 r2 hoffices ok2 (Expr.hY (gx hd1))) U (qO 2 U ?_))
    refine ak hs6 U (fun c5 hs8=>?_) (fun c5 hs9=>?_)
    ·refine qT 4 U ?_
     exact ah [.bool false] D9 U hX rd (cs hs8)
    ·refine qT 4 U (ai (v':=I (((i1+1):Nat):Int)) U (bz ob) (an ?_))
     exact ag1 ((i1+1),rz1) _ (Nat.lt_succ_self _) ⟨ba hd1,aE hd1,hs9⟩ rd
theorem pf:∀ (m:Nat) (h:HF) (offices:(List ByteArray)) (cI:Option Addr) (cH:Nat) (x:Expr) (fb:cE) (_:x.dep≤m) (hoffices:SlC Rp.str h cI cH offices) (hx:Expr.ok h x fb),Ret Tryz.prog 252 [.slice cI offices.length cH,.agg (Expr.cells x fb).toArray] h (.bool (bT.go m offices x))
 | 0,h,offices,cI,cH,x,fb,hd,hoffices,hx=>absurd hd (Nat.not_le.2 (Expr.jV _))
 | m+1,h,offices,cI,cH,x,fb,hd,hoffices,hx=>w4 (bT.go m) h offices cI cH x fb (fun qh_ qoffices iE iD qx jp qhoffices qhx qd=>pf m qh_ qoffices iE iD qx jp ob qhoffices qhx) hoffices hx
theorem sa (h:HF) (offices:(List ByteArray)) (cI:Option Addr) (cH:Nat) (x:Expr) (fb:cE) (hoffices:SlC Rp.str h cI cH offices) (hx:Expr.ok h x fb):Ret Tryz.prog 252 [.slice cI offices.length cH,.agg (Expr.cells x fb).toArray] h (.bool (bT offices x)):=pf _ h offices cI cH x fb (Nat.le_refl _) hoffices hx
theorem xZ (h:HF) (p:Policy) (fe:eE) (hp:Policy.ok h p fe):Ret Tryz.prog 228 [.agg (Policy.cells p fe).toArray] h (.bool (fN p)):=by
 refine ae D8 U Tryz.ntmps228 U fun X hM hX=>?_
 have hs0:fN p=fN p:=rfl
 refine sr (dt (fun b1=>qO 5 U (aj xq U (aI 0 ty9 U U U (au (v:=.bool (jo p.Name)) Tryz.call250 (tJ h p.Name ) U (qO 2 U ?_))))))
 refine ar 5 [8,9,10,11,12,13] 13 (.bool ((!(jo p.Name))||(!(dR p.Offices)))) (fun hk1=>?_) (fun e=>?_)
 ·refine ac 8 U (fun c1=>?_) (fun c1=>?_)
  ·refine qO 5 U ?_
   exact hk1 _ (cb (dW c1))
  ·refine aj iS U (aI 0 ty62 U U U (au (v:=.bool (dR p.Offices)) Tryz.call251 (pg h p.Offices fe.dK fe.dJ hp.Offices) U (qO 2 U ?_)))
   exact hk1 _ (cb (dX c1))
 refine aB ?_
 refine ar 5 [14,15,16,17,18,19] 19 (.bool (((!(jo p.Name))||(!(dR p.Offices)))||(!(dR p.Kinds)))) (fun hk2=>?_) (fun e=>?_)
 ·refine ac 14 U (fun c2=>?_) (fun c2=>?_)
  ·refine qO 5 U ?_
   exact hk2 _ (cb (dW c2))
  ·refine aj kZ U (aI 0 ty62 U U U (au (v:=.bool (dR p.Kinds)) Tryz.call251 (pg h p.Kinds fe.fV fe.fU hp.Kinds) U (qO 2 U ?_)))
   exact hk2 _ (cb (dX c2))
 refine bh ?_
 refine ak hs0 U (fun c3 hs1=>?_) (fun c3 hs2=>?_)
 ·refine qT 4 U ?_
  exact ah [.bool false] D8 U hX rd (cs hs1)
 ·refine qT 6 U ?_
  let z1:Nat×Obj:=(b1,O (Policy.cells p fe) 68)
  refine aU (ι:=Nat) (fun i=>[(1,Q b1)]) (fun i=>h) (fun i=>[z1]) (fun i=>i≤p.Rules.length∧fN p=((fN.K1 p))) ?_ (fun hx1=>?_)
  ·rintro i1 ⟨aP,hs4⟩ e
   try dsimp only at aP
   refine sr (aj iS U (aI 0 ty62 U U U (aj lU U (dl 0 ty66 U U U (au (v:=.bool (bT p.Offices p.Change)) Tryz.call252 (sa h p.Offices fe.dK fe.dJ p.Change fe.Change hp.Offices hp.Change) U (an ?_))))))
   exact ah [.bool (bT p.Offices p.Change)] D8 U hX rd (cs hs4)
  ·refine bG (ι:=Nat×List Rule) (fun i=>[(1,Q b1),(3,I ((i.1:Nat):Int))]) (fun i=>h) (fun i=>[z1]) (fun i=>p.Rules.drop i.1=i.2∧i.1≤p.Rules.length∧fN p=((fN.L1 p (fN.K1 p)) i.2 )) (fun i=>i.2.length) (0,p.Rules) rd sw ⟨U,Nat.zero_le _,hs2⟩ ?_
   rintro ⟨i1,s1⟩ ⟨hd1,aP,hs6⟩ ag1 e
   try dsimp only at hd1 aP
   rcases s1 with _ | ⟨y1,rz1⟩
   ·have dr:=cw hd1
    refine qT 4 U (aj fj U (aI 0 ty63 U U U (a8 jR U (ai (v':=.bool false) U (cb dr) (qO 3 U ?_)))))
    exact hx1 i1 _ ⟨aP,hs6⟩ rd
   ·have dq:=dy hd1
    have aM:=cA hd1
    have ey:=aE hd1
    have gi:=hp.Rules.1.1
    refine qT 4 U (aj fj U (aI 0 ty63 U U U (a8 jR U (ai (v':=.bool true) U (cb dq) (qO 6 U ?_)))))
    refine fd ([z1]) mixed kr jn (fun dU _=>?_)
    refine tf 0 U U (fun _ _ _=>dx iS U) (tf 1 U U (fun _ _ hj=>gH ty62 U (hj.nth (i:=0) U) U) (tf 2 U U (fun _ _ _=>dx fj U) ?_))
    refine tf 3 U U (fun _ _ hj=>gH ty63 U (hj.nth (i:=0) U) U) (tm 4 U (io 5 dU jn jR ty107 hp.Rules.1 (nthZ aM) (aV aM) U U U U kr (fun q2 cs2 A2 ln2 rr2=>?_)))
    obtain ⟨r2,rfl,ok2⟩:=rr2
    refine tf 6 U U (fun _ _ _=>dx kv U) (tf 7 U U (fun _ _ hj=>Hq 3 ty66 (A2.mono hj.1) U U) (tn 8 U ?_))
    refine fB (v:=.bool (bT p.Offices y1.Expr)) Tryz.call252 (sa h p.Offices fe.dK fe.dJ y1.Expr r2.Expr hp.Offices ok2.Expr) U (⟨jn,(qA [9] U (bv kr ?_))⟩)
    refine ak hs6 U (fun c5 hs8=>?_) (fun c5 hs9=>?_)
    ·refine qT 4 U ?_
     exact ah [.bool false] D8 U hX rd (cs hs8)
    ·refine qT 4 U (ai (v':=I (((i1+1):Nat):Int)) U (bz ob) (an ?_))
     exact ag1 ((i1+1),rz1) _ (Nat.lt_succ_self _) ⟨ba hd1,aE hd1,hs9⟩ rd
theorem sc (rec:Expr→Bool→Bool) (h:HF) (x:Expr) (fb:cE) (upto:Bool) (hrec:∀ (h:HF) (qx:Expr) (jp:cE) (qupto:Bool) (hqx:Expr.ok h qx jp) (_:qx.dep < x.dep),Ret Tryz.prog 253 [.agg (Expr.cells qx jp).toArray,.bool qupto] h (.bool (rec qx qupto))) (hx:Expr.ok h x fb):Ret Tryz.prog 253 [.agg (Expr.cells x fb).toArray,.bool upto] h (.bool (aO.F rec x upto)):=by
 refine ae zW U Tryz.ntmps253 U fun X hM hX=>?_
 have hs0:aO.F rec x upto=aO.F rec x upto:=rfl
 refine sr (dt (fun b1=>qO 7 U ?_))
 refine aU (ι:=Nat) (fun i=>[(1,.bool upto),(2,Q b1)]) (fun i=>h) (fun i=>[(b1,O (Expr.cells x fb) 66)]) (fun i=>i≤x.L.length∧aO.F rec x upto=((aO.K1 x upto))) ?_ (fun hx1=>?_)
 ·rintro i1 ⟨aP,hs1⟩ e
  try dsimp only at aP
  refine qT 3 U (aj k9 U (aI 0 ty3 U U U (qO 7 U ?_)))
  refine ak hs1 U (fun c3 hs2=>?_) (fun c3 hs3=>?_)
  ·refine sr (aj j9 U (aI 0 ty3 U U U (qO 2 U ?_)))
   refine ar 5 [28,29,30,31,32,33] 33 (.bool ((x.N==0)&&(((x.L.length:Nat):Int)==0))) (fun hk1=>?_) (fun e=>?_)
   ·refine ac 28 U (fun c4=>?_) (fun c4=>?_)
    ·refine aj dC U (aI 0 ty64 U U U (a8 ga U (qO 2 U ?_)))
     exact hk1 _ (cb (cB c4))
    ·refine qO 5 U ?_
     exact hk1 _ (cb (cC c4))
   refine an ?_
   exact ah [.bool ((x.N==0)&&(((x.L.length:Nat):Int)==0))] zW U hX rd (cs hs2)
  ·refine qT 5 U ?_
   refine ak hs3 U (fun c5 hs5=>?_) (fun c5 hs6=>?_)
   ·refine sr (aj j9 U (aI 0 ty3 U U U (qO 2 U ?_)))
    refine ar 4 [39,40,41,42,43] 43 (.bool (decide (1≤x.N)&&decide (x.N≤4096))) (fun hk2=>?_) (fun e=>?_)
    ·refine ac 39 U (fun c6=>?_) (fun c6=>?_)
     ·refine aj j9 U (aI 0 ty3 U U U (qO 2 U ?_))
      exact hk2 _ (cb (cB c6))
     ·refine qO 4 U ?_
      exact hk2 _ (cb (cC c6))
    refine aB ?_
    refine ar 5 [44,45,46,47,48,49] 49 (.bool ((decide (1≤x.N)&&decide (x.N≤4096))&&(((x.L.length:Nat):Int)==0))) (fun hk3=>?_) (fun e=>?_)
    ·refine ac 44 U (fun c7=>?_) (fun c7=>?_)
     ·refine aj dC U (aI 0 ty64 U U U (a8 ga U (qO 2 U ?_)))
      exact hk3 _ (cb (cB c7))
     ·refine qO 5 U ?_
      exact hk3 _ (cb (cC c7))
    refine an ?_
    exact ah [.bool ((decide (1≤x.N)&&decide (x.N≤4096))&&(((x.L.length:Nat):Int)==0))] zW U hX rd (cs hs5)
   ·refine qT 5 U ?_
    refine ak hs6 U (fun c8 hs8=>?_) (fun c8 hs9=>?_)
    ·refine sr (aj mI U (aI 0 ty9 U U U (qO 2 U ?_)))
     refine ar 5 [55,56,57,58,59,60] 60 (.bool ((x.Name.toList==(⟨#[]⟩:ByteArray).toList)&&decide (1≤((x.L.length:Nat):Int)))) (fun hk4=>?_) (fun e=>?_)
     ·refine ac 55 U (fun c9=>?_) (fun c9=>?_)
      ·refine aj dC U (aI 0 ty64 U U U (a8 ga U (qO 2 U ?_)))
       exact hk4 _ (cb (cB c9))
      ·refine qO 5 U ?_
       exact hk4 _ (cb (cC c9))
     refine aB ?_
     refine ar 5 [61,62,63,64,65,66] 66 (.bool (((x.Name.toList==(⟨#[]⟩:ByteArray).toList)&&decide (1≤((x.L.length:Nat):Int)))&&decide (((x.L.length:Nat):Int)≤16))) (fun hk5=>?_) (fun e=>?_)
     ·refine ac 61 U (fun c10=>?_) (fun c10=>?_)
      ·refine aj dC U (aI 0 ty64 U U U (a8 ga U (qO 2 U ?_)))
       exact hk5 _ (cb (cB c10))
      ·refine qO 5 U ?_
       exact hk5 _ (cb (cC c10))
     refine aB ?_
     refine ar 4 [67,68,69,70,71] 71 (.bool ((((x.Name.toList==(⟨#[]⟩:ByteArray).toList)&&decide (1≤((x.L.length:Nat):Int)))&&decide (((x.L.length:Nat):Int)≤16))&&decide (1≤x.N))) (fun hk6=>?_) (fun e=>?_)
     ·refine ac 67 U (fun c11=>?_) (fun c11=>?_)
      ·refine aj j9 U (aI 0 ty3 U U U (qO 2 U ?_))
       exact hk6 _ (cb (cB c11))
      ·refine qO 4 U ?_
       exact hk6 _ (cb (cC c11))
     refine aB ?_
     refine ar 7 [72,73,74,75,76,77,78,79] 79 (.bool (((((x.Name.toList==(⟨#[]⟩:ByteArray).toList)&&decide (1≤((x.L.length:Nat):Int)))&&decide (((x.L.length:Nat):Int)≤16))&&decide (1≤x.N))&&decide (x.N≤((x.L.length:Nat):Int)))) (fun hk7=>?_) (fun e=>?_)
     ·refine ac 72 U (fun c12=>?_) (fun c12=>?_)
      ·refine aj j9 U (aI 0 ty3 U U U (aj dC U (aI 0 ty64 U U U (a8 ga U (qO 2 U ?_)))))
       exact hk7 _ (cb (cB c12))
      ·refine qO 7 U ?_
       exact hk7 _ (cb (cC c12))
     refine an ?_
     exact ah [.bool (((((x.Name.toList==(⟨#[]⟩:ByteArray).toList)&&decide (1≤((x.L.length:Nat):Int)))&&decide (((x.L.length:Nat):Int)≤16))&&decide (1≤x.N))&&decide (x.N≤((x.L.length:Nat):Int)))] zW U hX rd (cs hs8)
    ·refine qT 5 U ?_
     refine ak hs9 U (fun c13 hs11=>?_) (fun c13 hs12=>?_)
     ·refine qT 4 U ?_
      refine ar 4 [83,84,85,86,87] 87 (.bool (upto&&(x.Name.toList==(⟨#[]⟩:ByteArray).toList))) (fun hk8=>?_) (fun e=>?_)
      ·refine ac 83 U (fun c14=>?_) (fun c14=>?_)
       ·refine aj mI U (aI 0 ty9 U U U (qO 2 U ?_))
        exact hk8 _ (cb (cB c14))
       ·refine qO 4 U ?_
        exact hk8 _ (cb (cC c14))
      refine aB ?_
      refine ar 5 [88,89,90,91,92,93] 93 (.bool ((upto&&(x.Name.toList==(⟨#[]⟩:ByteArray).toList))&&(((x.L.length:Nat):Int)==2))) (fun hk9=>?_) (fun e=>?_)
      ·refine ac 88 U (fun c15=>?_) (fun c15=>?_)
       ·refine aj dC U (aI 0 ty64 U U U (a8 ga U (qO 2 U ?_)))
        exact hk9 _ (cb (cB c15))
       ·refine qO 5 U ?_
        exact hk9 _ (cb (cC c15))
      refine aB ?_
      refine ar 4 [94,95,96,97,98] 98 (.bool (((upto&&(x.Name.toList==(⟨#[]⟩:ByteArray).toList))&&(((x.L.length:Nat):Int)==2))&&decide (0≤x.N))) (fun hk10=>?_) (fun e=>?_)
      ·refine ac 94 U (fun c16=>?_) (fun c16=>?_)
       ·refine aj j9 U (aI 0 ty3 U U U (qO 2 U ?_))
        exact hk10 _ (cb (cB c16))
       ·refine qO 4 U ?_
        exact hk10 _ (cb (cC c16))
      refine aB ?_
      refine ar 4 [99,100,101,102,103] 103 (.bool ((((upto&&(x.Name.toList==(⟨#[]⟩:ByteArray).toList))&&(((x.L.length:Nat):Int)==2))&&decide (0≤x.N))&&decide (x.N≤1099511627776))) (fun hk11=>?_) (fun e=>?_)
      ·refine ac 99 U (fun c17=>?_) (fun c17=>?_)
       ·refine aj j9 U (aI 0 ty3 U U U (qO 2 U ?_))
        exact hk11 _ (cb (cB c17))
       ·refine qO 4 U ?_
        exact hk11 _ (cb (cC c17))
      refine an ?_
      exact ah [.bool ((((upto&&(x.Name.toList==(⟨#[]⟩:ByteArray).toList))&&(((x.L.length:Nat):Int)==2))&&decide (0≤x.N))&&decide (x.N≤1099511627776))] zW U hX rd (cs hs11)
     ·refine qT 6 U ?_
      exact ah [.bool false] zW U hX rd (cs hs12)
 ·refine bG (ι:=Nat×List Expr) (fun i=>[(1,.bool upto),(2,Q b1),(5,I ((i.1:Nat):Int))]) (fun i=>h) (fun i=>[(b1,O (Expr.cells x fb) 66)]) (fun i=>x.L.drop i.1=i.2∧i.1≤x.L.length∧aO.F rec x upto=((aO.L1 rec upto (aO.K1 x upto)) i.2 )) (fun i=>i.2.length) (0,x.L) rd sw ⟨U,Nat.zero_le _,hs0⟩ ?_
  rintro ⟨i1,s1⟩ ⟨hd1,aP,hs15⟩ ag1 e
  try dsimp only at hd1 aP
  rcases s1 with _ | ⟨y1,rz1⟩
  ·have dr:=cw hd1
   refine qT 4 U (aj dC U (aI 0 ty64 U U U (a8 ga U (ai (v':=.bool false) U (cb dr) (qO 3 U ?_)))))
   exact hx1 i1 _ ⟨aP,hs15⟩ rd
  ·have dq:=dy hd1
   have aM:=cA hd1
   have ey:=aE hd1
   have gi:=hx.list.1.1
   refine qT 4 U (aj dC U (aI 0 ty64 U U U (a8 ga U (ai (v':=.bool true) U (cb dq) (qO 7 U (aj dC U (aI 0 ty64 U U U (aB (aN (fF ga ty66 hx.list.1 (nthZ aM) (aV aM) U U U (fun q2 cs2 A2 ln2 rr2=>?_)))))))))))
   obtain ⟨r2,rfl,ok2⟩:=rr2
   refine el ty66 A2 U U (aB (au (v:=.bool (rec y1 upto)) Tryz.call253 (hrec h y1 r2 upto ok2 (Expr.hY (gx hd1))) U (qO 2 U ?_)))
   refine ak hs15 U (fun c18 hs17=>?_) (fun c18 hs18=>?_)
   ·refine qT 4 U ?_
    exact ah [.bool false] zW U hX rd (cs hs17)
   ·refine qT 4 U (ai (v':=I (((i1+1):Nat):Int)) U (bz ob) (an ?_))
    exact ag1 ((i1+1),rz1) _ (Nat.lt_succ_self _) ⟨ba hd1,aE hd1,hs18⟩ rd
theorem mu:∀ (m:Nat) (h:HF) (x:Expr) (fb:cE) (upto:Bool) (_:x.dep≤m) (hx:Expr.ok h x fb),Ret Tryz.prog 253 [.agg (Expr.cells x fb).toArray,.bool upto] h (.bool (aO.go m x upto))
 | 0,h,x,fb,upto,hd,hx=>absurd hd (Nat.not_le.2 (Expr.jV _))
 | m+1,h,x,fb,upto,hd,hx=>sc (aO.go m) h x fb upto (fun qh_ qx jp qupto qhx qd=>mu m qh_ qx jp qupto ob qhx) hx
theorem nI (h:HF) (x:Expr) (fb:cE) (upto:Bool) (hx:Expr.ok h x fb):Ret Tryz.prog 253 [.agg (Expr.cells x fb).toArray,.bool upto] h (.bool (aO x upto)):=mu _ h x fb upto (Nat.le_refl _) hx
theorem w5 (h:HF) (p:Policy) (fe:eE) (hp:Policy.ok h p fe):Ret Tryz.prog 229 [.agg (Policy.cells p fe).toArray] h (.bool (ft p)):=by
 refine ae D7 U Tryz.ntmps229 U fun X hM hX=>?_
 have hs0:ft p=ft p:=rfl
 refine sr (dt (fun b1=>qO 5 U (aj kZ U (aI 0 ty62 U U U (a8 kB U (qO 2 U ?_))))))
 refine ar 8 [9,10,11,12,13,14,15,16,17] 17 (.bool (decide (((p.Kinds.length:Nat):Int) < 1)||(((p.Rules.length:Nat):Int) != ((p.Kinds.length:Nat):Int)))) (fun hk1=>?_) (fun e=>?_)
 ·refine ac 9 U (fun c1=>?_) (fun c1=>?_)
  ·refine qO 8 U ?_
   exact hk1 _ (cb (dW c1))
  ·refine aj fj U (aI 0 ty63 U U U (a8 jR U (aj kZ U (aI 0 ty62 U U U (a8 kB U (qO 2 U ?_))))))
   exact hk1 _ (cb (dX c1))
 refine aB ?_
 refine ar 4 [18,19,20,21,22] 22 (.bool ((decide (((p.Kinds.length:Nat):Int) < 1)||(((p.Rules.length:Nat):Int) != ((p.Kinds.length:Nat):Int)))||decide (p.Mode < 1))) (fun hk2=>?_) (fun e=>?_)
 ·refine ac 18 U (fun c2=>?_) (fun c2=>?_)
  ·refine qO 4 U ?_
   exact hk2 _ (cb (dW c2))
  ·refine aj qX U (aI 0 ty3 U U U (qO 2 U ?_))
   exact hk2 _ (cb (dX c2))
 refine aB ?_
 refine ar 4 [23,24,25,26,27] 27 (.bool (((decide (((p.Kinds.length:Nat):Int) < 1)||(((p.Rules.length:Nat):Int) != ((p.Kinds.length:Nat):Int)))||decide (p.Mode < 1))||decide (4 < p.Mode))) (fun hk3=>?_) (fun e=>?_)
 ·refine ac 23 U (fun c3=>?_) (fun c3=>?_)
  ·refine qO 4 U ?_
   exact hk3 _ (cb (dW c3))
  ·refine aj qX U (aI 0 ty3 U U U (qO 2 U ?_))
   exact hk3 _ (cb (dX c3))
 refine bh ?_
 refine ak hs0 U (fun c4 hs1=>?_) (fun c4 hs2=>?_)
 ·refine qT 4 U ?_
  exact ah [.bool false] D7 U hX rd (cs hs1)
 ·refine qT 6 U ?_
  let z1:Nat×Obj:=(b1,O (Policy.cells p fe) 68)
  refine aU (ι:=Nat) (fun i=>[(1,Q b1)]) (fun i=>h) (fun i=>[z1]) (fun i=>i≤p.Rules.length∧ft p=((ft.K1 p))) ?_ (fun hx1=>?_)
  ·rintro i1 ⟨aP,hs4⟩ e
   try dsimp only at aP
   refine sr (aj lU U (dl 0 ty66 U U U (au (v:=.bool (aO p.Change false)) Tryz.call253 (nI h p.Change fe.Change false hp.Change) U (an ?_))))
   exact ah [.bool (aO p.Change false)] D7 U hX rd (cs hs4)
  ·refine bG (ι:=Nat×List Rule) (fun i=>[(1,Q b1),(3,I ((i.1:Nat):Int))]) (fun i=>h) (fun i=>[z1]) (fun i=>p.Rules.drop i.1=i.2∧i.1≤p.Rules.length∧ft p=((ft.L1 p (ft.K1 p)) i.2 i.1)) (fun i=>i.2.length) (0,p.Rules) rd sw ⟨U,Nat.zero_le _,hs2⟩ ?_
   rintro ⟨i1,s1⟩ ⟨hd1,aP,hs6⟩ ag1 e
   try dsimp only at hd1 aP
   rcases s1 with _ | ⟨y1,rz1⟩
   ·have dr:=cw hd1
    refine qT 4 U (aj fj U (aI 0 ty63 U U U (a8 jR U (ai (v':=.bool false) U (cb dr) (qO 3 U ?_)))))
    exact hx1 i1 _ ⟨aP,hs6⟩ rd
   ·have dq:=dy hd1
    have aM:=cA hd1
    have ey:=aE hd1
    have gi:=hp.Rules.1.1
    refine qT 4 U (aj fj U (aI 0 ty63 U U U (a8 jR U (ai (v':=.bool true) U (cb dq) (qO 7 U (aj fj U (aI 0 ty63 U U U (aB (aN (fF jR ty107 hp.Rules.1 (nthZ aM) (aV aM) U U U (fun q3 cs2 A3 ln2 rr2=>?_)))))))))))
    obtain ⟨r2,rfl,ok2⟩:=rr2
    refine el ty107 A3 U U (bR zc107 (fun b3=>bL 0 ty107 U U U U U U (qO 2 U ?_)))
    refine lX [(1,Q b1),(3,I ((i1:Nat):Int)),(63,.bool ((((!(y1.Kind.toList==(nthI p.Kinds ((i1:Nat):Int)).toList))||decide (y1.Think < 0))||decide (1099511627776≤y1.Think))||(!(aO y1.Expr true))))] (fun e=>?_) (fun hk4=>?_)
    rotate_left
    ·refine fd ([(b3,O (Rule.cells y1 r2) 107),z1]) mixed kr jn (fun dU _=>?_)
     refine tf 0 U U (fun _ _ _=>dx vp U) (tf 1 U U (fun _ _ hj=>gH ty9 U (hj.nth (i:=0) U) U) (tf 2 U U (fun _ _ _=>dx kZ U) ?_))
     refine tf 3 U U (fun _ _ hj=>gH ty62 U (hj.nth (i:=1) U) U) (tm 4 U ?_)
     have ho2:0≤(((i1:Nat):Int):Int)∧(((i1:Nat):Int):Int) < ((p.Kinds).length:Int):=ob
     refine eJ 5 (enc:=fun y=>[.string y]) dU jn (fun _ _ _ e=>e) kB ty9 hp.Kinds.1 ho2 (df ho2) U U U U kr (fun q4 A4=>tf 6 U U (fun _ _ hj=>fK ty9 (A4.mono hj.1) U) (qA [7,8] U ?_))
     refine dM 48 U (fun c5=>?_) (fun c5=>?_)
     ·refine qR 9 15 U ?_
      refine bv kr ?_
      exact hk4 _ ⟨U,U,(cb (show true=((((!(y1.Kind.toList==(nthI p.Kinds ((i1:Nat):Int)).toList))||decide (y1.Think < 0))||decide (1099511627776≤y1.Think))||(!(aO y1.Expr true))) from by rw [c5] <;> rfl)),trivial⟩
     ·refine tf 9 U U (fun _ _ _=>dx oL U) (tf 10 U U (fun _ _ hj=>gH ty3 U (hj.nth (i:=0) U) U) (qR 11 3 U ?_))
      refine dM 53 U (fun c6=>?_) (fun c6=>?_)
      ·have c6p:=of_decide_eq_true c6
       refine qR 14 10 U (bv kr ?_)
       exact hk4 _ ⟨U,U,(cb (show true=((((!(y1.Kind.toList==(nthI p.Kinds ((i1:Nat):Int)).toList))||decide (y1.Think < 0))||decide (1099511627776≤y1.Think))||(!(aO y1.Expr true))) from by rw [c5,c6] <;> rfl)),trivial⟩
      ·have c6p:=of_decide_eq_false c6
       refine tf 14 U U (fun _ _ _=>dx oL U) (tf 15 U U (fun _ _ hj=>gH ty3 U (hj.nth (i:=0) U) U) (qR 16 3 U ?_))
       refine dM 58 U (fun c7=>?_) (fun c7=>?_)
       ·have c7p:=of_decide_eq_true c7
        refine qR 19 5 U (bv kr ?_)
        exact hk4 _ ⟨U,U,(cb (show true=((((!(y1.Kind.toList==(nthI p.Kinds ((i1:Nat):Int)).toList))||decide (y1.Think < 0))||decide (1099511627776≤y1.Think))||(!(aO y1.Expr true))) from by rw [c5,c6,c7] <;> rfl)),trivial⟩
       ·have c7p:=of_decide_eq_false c7
        refine tf 19 U U (fun _ _ _=>dx kv U) (tf 20 U U (fun _ _ hj=>jT ty66 U (hj.nth (i:=0) U) U) (tn 21 U ?_))
        refine fB (v:=.bool (aO y1.Expr true)) Tryz.call253 (nI h y1.Expr r2.Expr true ok2.Expr) U (⟨jn,(qA [22,23] U (bv kr ?_))⟩)
        exact hk4 _ ⟨U,U,(cb (show (!(aO y1.Expr true))=((((!(y1.Kind.toList==(nthI p.Kinds ((i1:Nat):Int)).toList))||decide (y1.Think < 0))||decide (1099511627776≤y1.Think))||(!(aO y1.Expr true))) from by rw [c5,c6,c7] <;> rfl)),trivial⟩
    refine ak hs6 U (fun c8 hs8=>?_) (fun c8 hs9=>?_)
    ·refine qT 4 U ?_
     exact ah [.bool false] D7 U hX rd (cs hs8)
    ·refine qT 4 U (ai (v':=I (((i1+1):Nat):Int)) U (bz ob) (an ?_))
     refine cG (L':=[z1]) js ?_
     exact ag1 ((i1+1),rz1) _ (Nat.lt_succ_self _) ⟨ba hd1,aE hd1,hs9⟩ rd
theorem tX (rec:(List ByteArray)→Expr→Expr) (h:HF) (offices:(List ByteArray)) (cI:Option Addr) (cH:Nat) (x:Expr) (fb:cE) (hrec:∀ (h:HF) (qoffices:(List ByteArray)) (iE:Option Addr) (iD:Nat) (qx:Expr) (jp:cE) (hqoffices:SlC Rp.str h iE iD qoffices) (hqx:Expr.ok h qx jp) (hsz:qx.dep≤2000000) (_:qx.dep < x.dep),je Tryz.prog 230 [.slice iE qoffices.length iD,.agg (Expr.cells qx jp).toArray] h (fun v h'=>∃ (rr0:cE),v=.agg (Expr.cells (rec qoffices qx) rr0).toArray∧Expr.ok h' (rec qoffices qx) rr0)) (hoffices:SlC Rp.str h cI cH offices) (hx:Expr.ok h x fb) (hsz:x.dep≤2000000):je Tryz.prog 230 [.slice cI offices.length cH,.agg (Expr.cells x fb).toArray] h (fun v h'=>∃ (rr0:cE),v=.agg (Expr.cells (ab.F rec offices x) rr0).toArray∧Expr.ok h' (ab.F rec offices x) rr0):=by
 refine ae Tryz.func230 U Tryz.ntmps230 U fun X hM hX=>?_
 have hs0:ab.F rec offices x=ab.F rec offices x:=rfl
 have hln:=Expr.EK x
 refine sr (dt (fun b1=>bR zc66 (fun b2=>qO 3 U (dl 1 ty66 U U U (bR zc66 (fun b3=>bL 0 ty66 U U U U U U (qO 3 U (aj na U (dS 0 ty3 U U U U U U (qO 4 U (aj k9 U (aI 2 ty3 U U U (qO 2 U ?_)))))))))))))
 refine ar 4 [12,13,14,15,16] 16 (.bool ((x.Kind==1)||(x.Kind==2))) (fun hk1=>?_) (fun e=>?_)
 ·refine ac 12 U (fun c1=>?_) (fun c1=>?_)
  ·refine qO 4 U ?_
   exact hk1 _ (cb (dW c1))
  ·refine aj k9 U (aI 2 ty3 U U U (qO 2 U ?_))
   exact hk1 _ (cb (dX c1))
 refine bh ?_
 refine ak hs0 U (fun c2 hs1=>?_) (fun c2 hs2=>?_)
 ·refine qT 2 U (aj mI U (aI 2 ty9 U U U (au (v:=I (dk offices x.Name)) Tryz.call254 (oq h offices cI cH x.Name hoffices) U (aj na U (dS 0 ty3 U U U U U U (qO 3 U (aj dC U (dS 0 ty64 U U U U U U (qO 6 U ?_)))))))))
  let z1:Nat×Obj:=(b2,O [I 0,I 0,I 0,.string (⟨#[]⟩:ByteArray),.slice none 0 0] 66)
  let z3:Nat×Obj:=(b1,O (Expr.cells x fb) 66)
  refine aU (ι:=Nat×(List Expr)×Option Addr×Nat×LH×HF) (fun i=>[(4,Q b2),(5,Q b3)]) (fun i=>i.2.2.2.2.2) (fun i=>[(b3,O [I x.Kind,I x.N,I (dk offices x.Name),.string x.Name,.slice i.2.2.1 i.2.1.length i.2.2.2.1] 66),z1,z3]++(i.2.2.2.2.1)) (fun i=>i.1≤x.L.length∧ab.F rec offices x=((ab.K1 offices x) i.2.1)∧eb Expr.rp 66 i.2.2.2.2.2 i.2.1 i.2.2.1 i.2.2.2.1 i.2.2.2.2.1∧i.2.1.length≤0+i.1∧HF.le h i.2.2.2.2.2) ?_ (fun hx1=>?_)
  ·rintro ⟨i1,iR,ls,lr,uZ,hh1⟩ ⟨aP,hs3,ns,yT,hl1⟩ e
   try dsimp only at aP ns yT hl1
   let z5:Nat×Obj:=(b3,O [I x.Kind,I x.N,I (dk offices x.Name),.string x.Name,.slice ls iR.length lr] 66)
   let z19:Nat×Obj:=(b2,O [I x.Kind,I x.N,I (dk offices x.Name),.string x.Name,.slice ls iR.length lr] 66)
   refine sr (dl 0 ty66 U U U (bL 1 ty66 U U U U U U (iT (L':=[z5,z19,z3]++(uZ)) U (bh ?_))))
   refine eY Expr.aD ([z5,z19,z3]) uZ ([]) ap hM ns (fun h3 hle3 sl2=>?_)
   have hs4:ab.F rec offices x=(Expr.mk x.Kind x.N (dk offices x.Name) x.Name iR):=hs3
   exact cJ [.agg (List.toArray [I x.Kind,I x.N,I (dk offices x.Name),.string x.Name,.slice ls iR.length lr])] Tryz.func230 U ⟨⟨1,_,_,_,_,U,U,.inl ⟨ty66,U⟩⟩,trivial⟩ ⟨(cE.mk ls lr),congrArg (fun r:Expr=>(.agg (Expr.cells r (cE.mk ls lr)).toArray:Value)) hs4.symm,(by rw [hs4];exact (show Expr.ok h3 (Expr.mk x.Kind x.N (dk offices x.Name) x.Name iR) (cE.mk ls lr) from Expr.ok.of sl2))⟩
  ·refine bG (ι:=Nat×(List Expr)×Option Addr×Nat×LH×HF×List Expr) (fun i=>[(0,.slice cI offices.length cH),(3,Q b1),(4,Q b2),(5,Q b3),(6,I ((i.1:Nat):Int))]) (fun i=>i.2.2.2.2.2.1) (fun i=>[(b3,O [I x.Kind,I x.N,I (dk offices x.Name),.string x.Name,.slice i.2.2.1 i.2.1.length i.2.2.2.1] 66),z1,z3]++(i.2.2.2.2.1)) (fun i=>x.L.drop i.1=i.2.2.2.2.2.2∧i.1≤x.L.length∧ab.F rec offices x=((ab.L1 rec offices (ab.K1 offices x)) i.2.2.2.2.2.2 i.2.1)∧eb Expr.rp 66 i.2.2.2.2.2.1 i.2.1 i.2.2.1 i.2.2.2.1 i.2.2.2.2.1∧i.2.1.length≤0+i.1∧HF.le h i.2.2.2.2.2.1) (fun i=>i.2.2.2.2.2.2.length) (0,[],none,0,[],h,x.L) rd sw ⟨U,Nat.zero_le _,hs1,eb.nil,lo,(HF.le_refl h)⟩ ?_
   rintro ⟨i1,iR,ls,lr,uZ,hh1,s1⟩ ⟨hd1,aP,hs5,ns,yT,hl1⟩ ag1 e
   try dsimp only at hd1 aP ns yT hl1
   rcases s1 with _ | ⟨y1,rz1⟩
   ·have dr:=cw hd1
    refine qT 4 U (aj dC U (aI 2 ty64 U U U (a8 ga U (ai (v':=.bool false) U (cb dr) (qO 3 U ?_)))))
    exact hx1 (i1,iR,ls,lr,uZ,hh1) _ ⟨aP,hs5,ns,lo,hl1⟩ rd
   ·have dq:=dy hd1
    have aM:=cA hd1
    have ey:=aE hd1
    have gi:=hx.list.1.1
    have hdy:=Expr.hY (gx hd1)
    refine qT 4 U (aj dC U (aI 2 ty64 U U U (a8 ga U (ai (v':=.bool true) U (cb dq) (qO 5 U ?_)))))
    refine fd ([z1,z3]) mixed kr jn (fun dU _=>?_)
    refine tf 0 U U (fun _ _ _=>dx dC U) (tm 2 U ?_)
    refine tf 3 U U (fun _ _ _=>dx dC U) (tf 4 U U (fun _ _ hj=>gH ty64 U (hj.nth (i:=1) U) U) (tm 5 U (io 6 dU jn ga ty66 (hx.list.mono Expr.aD hl1).1 (nthZ aM) (aV aM) U U U U kr (fun q2 cs2 A2 ln2 rr3=>?_))))
    obtain ⟨r2,rfl,ok3⟩:=rr3
    refine tf 7 U U (fun _ _ hj=>jK ty66 (A2.mono hj.1) U U) ?_
    refine kh 1 8 kr U U ?_ ?_ 
    ·refine gI (gH ty64 U (lT (i:=0) U) U) (⟨jn,?_⟩)
     refine tn 8 U (cy B1 (hrec hh1 offices cI cH y1 r2 (hoffices.mono Rp.gq hl1) ok3 ob (Expr.hY (gx hd1))) U (fun v2 h4 hle4 hp2=>?_))
     obtain ⟨rr4,rfl,ok4⟩:=hp2
     refine ⟨jl hle4,tu hle4 ?_⟩
     refine tn 9 U (bK (cells:=[I ((rec offices y1).Kind),I ((rec offices y1).N),I ((rec offices y1).No),.string ((rec offices y1).Name),.slice rr4.ir ((rec offices y1).L.length) rr4.iG]) ga ty66 zc66 U U kr (fun b5=>?_))
     refine ⟨jn,?_⟩
     let z6:Nat×Obj:=(b3,O [I x.Kind,I x.N,I (dk offices x.Name),.string x.Name,.slice ls iR.length lr] 66)
     let z15:Nat×Obj:=(b5,O [I ((rec offices y1).Kind),I ((rec offices y1).N),I ((rec offices y1).No),.string ((rec offices y1).Name),.slice rr4.ir ((rec offices y1).L.length) rr4.iG] 66)
     refine tn 10 U (db Expr.eT ([z15,z6,z1,z3]) ([]) (fun G=>[z15,z6,z1,z3]++(G)) ap (fun _=>ap) ga ty66 zc66 U bytes66 (ns.mono Expr.aD hle4) U U (eI 0 U (show bD Expr.rp h4 [I ((rec offices y1).Kind),I ((rec offices y1).N),I ((rec offices y1).No),.string ((rec offices y1).Name),.slice rr4.ir ((rec offices y1).L.length) rr4.iG] ([(rec offices y1)]) from ⟨[I ((rec offices y1).Kind),I ((rec offices y1).N),I ((rec offices y1).No),.string ((rec offices y1).Name),.slice rr4.ir ((rec offices y1).L.length) rr4.iG],[],U,U,⟨rr4,U,ok4⟩,U⟩)) lo lo (fun ob2 oc2 G2 gr2=>?_))
     refine ⟨jn,?_⟩
     refine tf 11 U U (fun _ _ _=>dx dC U) (tn 12 U (j6 1 ty64 U U U U U U (⟨jn,?_⟩)))
     refine bv kr (qT 3 U (ai (v':=I (((i1+1):Nat):Int)) U (bz ob) (an ?_)))
     refine cG (L':=[(b3,O [I x.Kind,I x.N,I (dk offices x.Name),.string x.Name,.slice ob2 ((iR++[(rec offices y1)]).length) oc2] 66),z1,z3]++(G2)) js ?_
     exact ag1 ((i1+1),(iR++[(rec offices y1)]),ob2,oc2,G2,h4,rz1) _ (Nat.lt_succ_self _) ⟨ba hd1,aE hd1,hs5,gr2,lo,(hl1.t hle4)⟩ rd
    ·refine cy B1 (hrec hh1 offices cI cH y1 r2 (hoffices.mono Rp.gq hl1) ok3 ob (Expr.hY (gx hd1))) U (fun v3 h5 hle5 hp3=>?_)
     obtain ⟨rr5,rfl,ok5⟩:=hp3
     refine ⟨jl hle5,tu hle5 ?_⟩
     refine kh 1 9 kr U U ?_ ?_ 
     ·refine gI (gH ty64 U (lT (i:=0) U) U) (⟨jn,?_⟩)
      refine tn 9 U (bK (cells:=[I ((rec offices y1).Kind),I ((rec offices y1).N),I ((rec offices y1).No),.string ((rec offices y1).Name),.slice rr5.ir ((rec offices y1).L.length) rr5.iG]) ga ty66 zc66 U U kr (fun b6=>?_))
      refine ⟨jn,?_⟩
      let z7:Nat×Obj:=(b3,O [I x.Kind,I x.N,I (dk offices x.Name),.string x.Name,.slice ls iR.length lr] 66)
      let z16:Nat×Obj:=(b6,O [I ((rec offices y1).Kind),I ((rec offices y1).N),I ((rec offices y1).No),.string ((rec offices y1).Name),.slice rr5.ir ((rec offices y1).L.length) rr5.iG] 66)
      refine tn 10 U (db Expr.eT ([z16,z7,z1,z3]) ([]) (fun G=>[z16,z7,z1,z3]++(G)) ap (fun _=>ap) ga ty66 zc66 U bytes66 (ns.mono Expr.aD hle5) U U (eI 0 U (show bD Expr.rp h5 [I ((rec offices y1).Kind),I ((rec offices y1).N),I ((rec offices y1).No),.string ((rec offices y1).Name),.slice rr5.ir ((rec offices y1).L.length) rr5.iG] ([(rec offices y1)]) from ⟨[I ((rec offices y1).Kind),I ((rec offices y1).N),I ((rec offices y1).No),.string ((rec offices y1).Name),.slice rr5.ir ((rec offices y1).L.length) rr5.iG],[],U,U,⟨rr5,U,ok5⟩,U⟩)) lo lo (fun ob3 oc3 G3 gr3=>?_))
      refine ⟨jn,?_⟩
      refine tf 11 U U (fun _ _ _=>dx dC U) (tn 12 U (j6 1 ty64 U U U U U U (⟨jn,?_⟩)))
      refine bv kr (qT 3 U (ai (v':=I (((i1+1):Nat):Int)) U (bz ob) (an ?_)))
      refine cG (L':=[(b3,O [I x.Kind,I x.N,I (dk offices x.Name),.string x.Name,.slice ob3 ((iR++[(rec offices y1)]).length) oc3] 66),z1,z3]++(G3)) js ?_
      exact ag1 ((i1+1),(iR++[(rec offices y1)]),ob3,oc3,G3,h5,rz1) _ (Nat.lt_succ_self _) ⟨ba hd1,aE hd1,hs5,gr3,lo,(hl1.t hle5)⟩ rd
     ·refine bK (cells:=[I ((rec offices y1).Kind),I ((rec offices y1).N),I ((rec offices y1).No),.string ((rec offices y1).Name),.slice rr5.ir ((rec offices y1).L.length) rr5.iG]) ga ty66 zc66 U U kr (fun b7=>?_)
      refine ⟨jn,?_⟩
      refine tn 1 U (gI (gH ty64 U (lT (i:=1) U) U) (⟨jn,?_⟩))
      let z8:Nat×Obj:=(b3,O [I x.Kind,I x.N,I (dk offices x.Name),.string x.Name,.slice ls iR.length lr] 66)
      let z17:Nat×Obj:=(b7,O [I ((rec offices y1).Kind),I ((rec offices y1).N),I ((rec offices y1).No),.string ((rec offices y1).Name),.slice rr5.ir ((rec offices y1).L.length) rr5.iG] 66)
      refine tn 10 U (db Expr.eT ([z17,z8,z1,z3]) ([]) (fun G=>[z17,z8,z1,z3]++(G)) ap (fun _=>ap) ga ty66 zc66 U bytes66 (ns.mono Expr.aD hle5) U U (eI 0 U (show bD Expr.rp h5 [I ((rec offices y1).Kind),I ((rec offices y1).N),I ((rec offices y1).No),.string ((rec offices y1).Name),.slice rr5.ir ((rec offices y1).L.length) rr5.iG] ([(rec offices y1)]) from ⟨[I ((rec offices y1).Kind),I ((rec offices y1).N),I ((rec offices y1).No),.string ((rec offices y1).Name),.slice rr5.ir ((rec offices y1).L.length) rr5.iG],[],U,U,⟨rr5,U,ok5⟩,U⟩)) lo lo (fun ob4 oc4 G4 gr4=>?_))
      refine ⟨jn,?_⟩
      refine tf 11 U U (fun _ _ _=>dx dC U) (tn 12 U (j6 1 ty64 U U U U U U (⟨jn,?_⟩)))
      refine bv kr (qT 3 U (ai (v':=I (((i1+1):Nat):Int)) U (bz ob) (an ?_)))
      refine cG (L':=[(b3,O [I x.Kind,I x.N,I (dk offices x.Name),.string x.Name,.slice ob4 ((iR++[(rec offices y1)]).length) oc4] 66),z1,z3]++(G4)) js ?_
      exact ag1 ((i1+1),(iR++[(rec offices y1)]),ob4,oc4,G4,h5,rz1) _ (Nat.lt_succ_self _) ⟨ba hd1,aE hd1,hs5,gr4,lo,(hl1.t hle5)⟩ rd
 ·refine qT 3 U (aj dC U (dS 0 ty64 U U U U U U (qO 6 U ?_)))
  let z2:Nat×Obj:=(b2,O [I 0,I 0,I 0,.string (⟨#[]⟩:ByteArray),.slice none 0 0] 66)
  let z4:Nat×Obj:=(b1,O (Expr.cells x fb) 66)
  refine aU (ι:=Nat×(List Expr)×Option Addr×Nat×LH×HF) (fun i=>[(4,Q b2),(5,Q b3)]) (fun i=>i.2.2.2.2.2) (fun i=>[(b3,O [I x.Kind,I x.N,I 0,.string x.Name,.slice i.2.2.1 i.2.1.length i.2.2.2.1] 66),z2,z4]++(i.2.2.2.2.1)) (fun i=>i.1≤x.L.length∧ab.F rec offices x=((ab.K2 x) i.2.1)∧eb Expr.rp 66 i.2.2.2.2.2 i.2.1 i.2.2.1 i.2.2.2.1 i.2.2.2.2.1∧i.2.1.length≤0+i.1∧HF.le h i.2.2.2.2.2) ?_ (fun hx2=>?_)
  ·rintro ⟨i2,iQ,lq,lm,uY,hh2⟩ ⟨jq,hs7,nq,yL,hl2⟩ e
   try dsimp only at jq nq yL hl2
   let z9:Nat×Obj:=(b3,O [I x.Kind,I x.N,I 0,.string x.Name,.slice lq iQ.length lm] 66)
   let z20:Nat×Obj:=(b2,O [I x.Kind,I x.N,I 0,.string x.Name,.slice lq iQ.length lm] 66)
   refine sr (dl 0 ty66 U U U (bL 1 ty66 U U U U U U (iT (L':=[z9,z20,z4]++(uY)) U (bh ?_))))
   refine eY Expr.aD ([z9,z20,z4]) uY ([]) ap hM nq (fun h8 hle8 sl4=>?_)
   have hs8:ab.F rec offices x=(Expr.mk x.Kind x.N 0 x.Name iQ):=hs7
   exact cJ [.agg (List.toArray [I x.Kind,I x.N,I 0,.string x.Name,.slice lq iQ.length lm])] Tryz.func230 U ⟨⟨1,_,_,_,_,U,U,.inl ⟨ty66,U⟩⟩,trivial⟩ ⟨(cE.mk lq lm),congrArg (fun r:Expr=>(.agg (Expr.cells r (cE.mk lq lm)).toArray:Value)) hs8.symm,(by rw [hs8];exact (show Expr.ok h8 (Expr.mk x.Kind x.N 0 x.Name iQ) (cE.mk lq lm) from Expr.ok.of sl4))⟩
  ·refine bG (ι:=Nat×(List Expr)×Option Addr×Nat×LH×HF×List Expr) (fun i=>[(0,.slice cI offices.length cH),(3,Q b1),(4,Q b2),(5,Q b3),(6,I ((i.1:Nat):Int))]) (fun i=>i.2.2.2.2.2.1) (fun i=>[(b3,O [I x.Kind,I x.N,I 0,.string x.Name,.slice i.2.2.1 i.2.1.length i.2.2.2.1] 66),z2,z4]++(i.2.2.2.2.1)) (fun i=>x.L.drop i.1=i.2.2.2.2.2.2∧i.1≤x.L.length∧ab.F rec offices x=((ab.L2 rec offices (ab.K2 x)) i.2.2.2.2.2.2 i.2.1)∧eb Expr.rp 66 i.2.2.2.2.2.1 i.2.1 i.2.2.1 i.2.2.2.1 i.2.2.2.2.1∧i.2.1.length≤0+i.1∧HF.le h i.2.2.2.2.2.1) (fun i=>i.2.2.2.2.2.2.length) (0,[],none,0,[],h,x.L) rd sw ⟨U,Nat.zero_le _,hs2,eb.nil,lo,(HF.le_refl h)⟩ ?_
   rintro ⟨i2,iQ,lq,lm,uY,hh2,s2⟩ ⟨hd2,jq,hs9,nq,yL,hl2⟩ ag2 e
   try dsimp only at hd2 jq nq yL hl2
   rcases s2 with _ | ⟨y2,rz2⟩
   ·have sD:=cw hd2
    refine qT 4 U (aj dC U (aI 2 ty64 U U U (a8 ga U (ai (v':=.bool false) U (cb sD) (qO 3 U ?_)))))
    exact hx2 (i2,iQ,lq,lm,uY,hh2) _ ⟨jq,hs9,nq,lo,hl2⟩ rd
   ·have pW:=dy hd2
    have jL:=cA hd2
    have wH:=aE hd2
    have Df:=hx.list.1.1
    have hdy:=Expr.hY (gx hd2)
    refine qT 4 U (aj dC U (aI 2 ty64 U U U (a8 ga U (ai (v':=.bool true) U (cb pW) (qO 5 U ?_)))))
    refine fd ([z2,z4]) mixed kr jn (fun sC _=>?_)
    refine tf 0 U U (fun _ _ _=>dx dC U) (tm 2 U ?_)
    refine tf 3 U U (fun _ _ _=>dx dC U) (tf 4 U U (fun _ _ hj=>gH ty64 U (hj.nth (i:=1) U) U) (tm 5 U (io 6 sC jn ga ty66 (hx.list.mono Expr.aD hl2).1 (nthZ jL) (aV jL) U U U U kr (fun q4 cs4 A4 ln4 rr8=>?_))))
    obtain ⟨r4,rfl,ok8⟩:=rr8
    refine tf 7 U U (fun _ _ hj=>jK ty66 (A4.mono hj.1) U U) ?_
    refine kh 1 8 kr U U ?_ ?_ 
    ·refine gI (gH ty64 U (lT (i:=0) U) U) (⟨jn,?_⟩)
     refine tn 8 U (cy B1 (hrec hh2 offices cI cH y2 r4 (hoffices.mono Rp.gq hl2) ok8 ob (Expr.hY (gx hd2))) U (fun v5 h9 hle9 hp5=>?_))
     obtain ⟨rr9,rfl,ok9⟩:=hp5
     refine ⟨jl hle9,tu hle9 ?_⟩
     refine tn 9 U (bK (cells:=[I ((rec offices y2).Kind),I ((rec offices y2).N),I ((rec offices y2).No),.string ((rec offices y2).Name),.slice rr9.ir ((rec offices y2).L.length) rr9.iG]) ga ty66 zc66 U U kr (fun b9=>?_))
     refine ⟨jn,?_⟩
     let z10:Nat×Obj:=(b3,O [I x.Kind,I x.N,I 0,.string x.Name,.slice lq iQ.length lm] 66)
     let z18:Nat×Obj:=(b9,O [I ((rec offices y2).Kind),I ((rec offices y2).N),I ((rec offices y2).No),.string ((rec offices y2).Name),.slice rr9.ir ((rec offices y2).L.length) rr9.iG] 66)
     refine tn 10 U (db Expr.eT ([z18,z10,z2,z4]) ([]) (fun G=>[z18,z10,z2,z4]++(G)) ap (fun _=>ap) ga ty66 zc66 U bytes66 (nq.mono Expr.aD hle9) U U (eI 0 U (show bD Expr.rp h9 [I ((rec offices y2).Kind),I ((rec offices y2).N),I ((rec offices y2).No),.string ((rec offices y2).Name),.slice rr9.ir ((rec offices y2).L.length) rr9.iG] ([(rec offices y2)]) from ⟨[I ((rec offices y2).Kind),I ((rec offices y2).N),I ((rec offices y2).No),.string ((rec offices y2).Name),.slice rr9.ir ((rec offices y2).L.length) rr9.iG],[],U,U,⟨rr9,U,ok9⟩,U⟩)) lo lo (fun ob6 oc6 G6 gr6=>?_))
     refine ⟨jn,?_⟩
     refine tf 11 U U (fun _ _ _=>dx dC U) (tn 12 U (j6 1 ty64 U U U U U U (⟨jn,?_⟩)))
     refine bv kr (qT 3 U (ai (v':=I (((i2+1):Nat):Int)) U (bz ob) (an ?_)))
     refine cG (L':=[(b3,O [I x.Kind,I x.N,I 0,.string x.Name,.slice ob6 ((iQ++[(rec offices y2)]).length) oc6] 66),z2,z4]++(G6)) js ?_
     exact ag2 ((i2+1),(iQ++[(rec offices y2)]),ob6,oc6,G6,h9,rz2) _ (Nat.lt_succ_self _) ⟨ba hd2,aE hd2,hs9,gr6,lo,(hl2.t hle9)⟩ rd
    ·refine cy B1 (hrec hh2 offices cI cH y2 r4 (hoffices.mono Rp.gq hl2) ok8 ob (Expr.hY (gx hd2))) U (fun v6 h10 hle10 hp6=>?_)
     obtain ⟨rr10,rfl,ok10⟩:=hp6
     refine ⟨jl hle10,tu hle10 ?_⟩
     refine kh 1 9 kr U U ?_ ?_ 
     ·refine gI (gH ty64 U (lT (i:=0) U) U) (⟨jn,?_⟩)
      refine tn 9 U (bK (cells:=[I ((rec offices y2).Kind),I ((rec offices y2).N),I ((rec offices y2).No),.string ((rec offices y2).Name),.slice rr10.ir ((rec offices y2).L.length) rr10.iG]) ga ty66 zc66 U U kr (fun b10=>?_))
      refine ⟨jn,?_⟩
      let z11:Nat×Obj:=(b3,O [I x.Kind,I x.N,I 0,.string x.Name,.slice lq iQ.length lm] 66)
      let z13:Nat×Obj:=(b10,O [I ((rec offices y2).Kind),I ((rec offices y2).N),I ((rec offices y2).No),.string ((rec offices y2).Name),.slice rr10.ir ((rec offices y2).L.length) rr10.iG] 66)
      refine tn 10 U (db Expr.eT ([z13,z11,z2,z4]) ([]) (fun G=>[z13,z11,z2,z4]++(G)) ap (fun _=>ap) ga ty66 zc66 U bytes66 (nq.mono Expr.aD hle10) U U (eI 0 U (show bD Expr.rp h10 [I ((rec offices y2).Kind),I ((rec offices y2).N),I ((rec offices y2).No),.string ((rec offices y2).Name),.slice rr10.ir ((rec offices y2).L.length) rr10.iG] ([(rec offices y2)]) from ⟨[I ((rec offices y2).Kind),I ((rec offices y2).N),I ((rec offices y2).No),.string ((rec offices y2).Name),.slice rr10.ir ((rec offices y2).L.length) rr10.iG],[],U,U,⟨rr10,U,ok10⟩,U⟩)) lo lo (fun ob7 oc7 G7 gr7=>?_))
      refine ⟨jn,?_⟩
      refine tf 11 U U (fun _ _ _=>dx dC U) (tn 12 U (j6 1 ty64 U U U U U U (⟨jn,?_⟩)))
      refine bv kr (qT 3 U (ai (v':=I (((i2+1):Nat):Int)) U (bz ob) (an ?_)))
      refine cG (L':=[(b3,O [I x.Kind,I x.N,I 0,.string x.Name,.slice ob7 ((iQ++[(rec offices y2)]).length) oc7] 66),z2,z4]++(G7)) js ?_
      exact ag2 ((i2+1),(iQ++[(rec offices y2)]),ob7,oc7,G7,h10,rz2) _ (Nat.lt_succ_self _) ⟨ba hd2,aE hd2,hs9,gr7,lo,(hl2.t hle10)⟩ rd
     ·refine bK (cells:=[I ((rec offices y2).Kind),I ((rec offices y2).N),I ((rec offices y2).No),.string ((rec offices y2).Name),.slice rr10.ir ((rec offices y2).L.length) rr10.iG]) ga ty66 zc66 U U kr (fun b11=>?_)
      refine ⟨jn,?_⟩
      refine tn 1 U (gI (gH ty64 U (lT (i:=1) U) U) (⟨jn,?_⟩))
      let z12:Nat×Obj:=(b3,O [I x.Kind,I x.N,I 0,.string x.Name,.slice lq iQ.length lm] 66)
      let z14:Nat×Obj:=(b11,O [I ((rec offices y2).Kind),I ((rec offices y2).N),I ((rec offices y2).No),.string ((rec offices y2).Name),.slice rr10.ir ((rec offices y2).L.length) rr10.iG] 66)
      refine tn 10 U (db Expr.eT ([z14,z12,z2,z4]) ([]) (fun G=>[z14,z12,z2,z4]++(G)) ap (fun _=>ap) ga ty66 zc66 U bytes66 (nq.mono Expr.aD hle10) U U (eI 0 U (show bD Expr.rp h10 [I ((rec offices y2).Kind),I ((rec offices y2).N),I ((rec offices y2).No),.string ((rec offices y2).Name),.slice rr10.ir ((rec offices y2).L.length) rr10.iG] ([(rec offices y2)]) from ⟨[I ((rec offices y2).Kind),I ((rec offices y2).N),I ((rec offices y2).No),.string ((rec offices y2).Name),.slice rr10.ir ((rec offices y2).L.length) rr10.iG],[],U,U,⟨rr10,U,ok10⟩,U⟩)) lo lo (fun ob8 oc8 G8 gr8=>?_))
      refine ⟨jn,?_⟩
      refine tf 11 U U (fun _ _ _=>dx dC U) (tn 12 U (j6 1 ty64 U U U U U U (⟨jn,?_⟩)))
      refine bv kr (qT 3 U (ai (v':=I (((i2+1):Nat):Int)) U (bz ob) (an ?_)))
      refine cG (L':=[(b3,O [I x.Kind,I x.N,I 0,.string x.Name,.slice ob8 ((iQ++[(rec offices y2)]).length) oc8] 66),z2,z4]++(G8)) js ?_
      exact ag2 ((i2+1),(iQ++[(rec offices y2)]),ob8,oc8,G8,h10,rz2) _ (Nat.lt_succ_self _) ⟨ba hd2,aE hd2,hs9,gr8,lo,(hl2.t hle10)⟩ rd
theorem ni:∀ (m:Nat) (h:HF) (offices:(List ByteArray)) (cI:Option Addr) (cH:Nat) (x:Expr) (fb:cE) (_:x.dep≤m) (hoffices:SlC Rp.str h cI cH offices) (hx:Expr.ok h x fb) (hsz:x.dep≤2000000),je Tryz.prog 230 [.slice cI offices.length cH,.agg (Expr.cells x fb).toArray] h (fun v h'=>∃ (rr0:cE),v=.agg (Expr.cells (ab.go m offices x) rr0).toArray∧Expr.ok h' (ab.go m offices x) rr0)
 | 0,h,offices,cI,cH,x,fb,hd,hoffices,hx,hsz=>absurd hd (Nat.not_le.2 (Expr.jV _))
 | m+1,h,offices,cI,cH,x,fb,hd,hoffices,hx,hsz=>tX (ab.go m) h offices cI cH x fb (fun qh_ qoffices iE iD qx jp qhoffices qhx qhsz qd=>ni m qh_ qoffices iE iD qx jp ob qhoffices qhx qhsz) hoffices hx hsz
theorem pd (h:HF) (offices:(List ByteArray)) (cI:Option Addr) (cH:Nat) (x:Expr) (fb:cE) (hoffices:SlC Rp.str h cI cH offices) (hx:Expr.ok h x fb) (hsz:x.dep≤2000000):je Tryz.prog 230 [.slice cI offices.length cH,.agg (Expr.cells x fb).toArray] h (fun v h'=>∃ (rr0:cE),v=.agg (Expr.cells (ab offices x) rr0).toArray∧Expr.ok h' (ab offices x) rr0):=ni _ h offices cI cH x fb (Nat.le_refl _) hoffices hx hsz
open Go.Proofs
set_option maxHeartbeats 2000000
theorem vI (h:HF) (p:Policy) (fe:eE) (hp:Policy.ok h p fe) (hsm:smP p):je Tryz.prog 189 [.agg (Policy.cells p fe).toArray] h (fun v h'=>∃ (rr0:eE),v=.tuple #[.agg (Policy.cells ((dh p).1) rr0).toArray,I ((dh p).2)]∧Policy.ok h' ((dh p).1) rr0):=by
 refine ae EY U Tryz.ntmps189 U fun X hM hX=>?_
 have hs0:dh p=dh p:=rfl
 have hsc:=hsm.change
 have hsr:=hsm.rules
 refine sr (dt (fun b1=>bR zc68 (fun b2=>qO 5 U (dl 1 ty68 U U U (au (v:=.bool (eM p)) Tryz.call227 (uP h p fe hp) U (bh ?_))))))
 refine ak hs0 U (fun c1 hs1=>?_) (fun c1 hs2=>?_)
 ·refine sr (aN (fq (cells:=[.string (⟨#[]⟩:ByteArray),.slice none 0 0,.slice none 0 0,.slice none 0 0,I 0,I 0,I 0,.string (⟨#[]⟩:ByteArray),.slice none 0 0,I 0]) (places:=[(0,1),(1,1),(2,1),(3,1),(4,5),(9,1)]) Ff zc68 kr kr ?_))
  refine bL 0 ty68 U U U U U U (an ?_)
  have hs3:dh p=((Policy.mk (⟨#[]⟩:ByteArray) ([]) ([]) ([]) (Expr.mk 0 0 0 (⟨#[]⟩:ByteArray) ([])) 0),2):=hs1
  exact cJ [.agg (List.toArray [.string (⟨#[]⟩:ByteArray),.slice none 0 0,.slice none 0 0,.slice none 0 0,I 0,I 0,I 0,.string (⟨#[]⟩:ByteArray),.slice none 0 0,I 0]),I 2] EY U ⟨⟨0,_,_,_,_,U,U,.inl ⟨ty68,U⟩⟩,U,trivial⟩ ⟨(eE.mk none 0 none 0 none 0 (cE.mk none 0)),congrArg (fun r:(Policy×Int)=>(.tuple #[.agg (Policy.cells r.1 (eE.mk none 0 none 0 none 0 (cE.mk none 0))).toArray,I r.2]:Value)) hs3.symm,(by rw [hs3];exact (show Policy.ok h (Policy.mk (⟨#[]⟩:ByteArray) ([]) ([]) ([]) (Expr.mk 0 0 0 (⟨#[]⟩:ByteArray) ([])) 0) (eE.mk none 0 none 0 none 0 (cE.mk none 0)) from ⟨SlC.nil,SlC.nil,SlC.nil,(show Expr.ok h (Expr.mk 0 0 0 (⟨#[]⟩:ByteArray) ([])) (cE.mk none 0) from Expr.ok.of SlC.nil)⟩))⟩
 ·refine qT 4 U (dl 1 ty68 U U U (au (v:=.bool (fN p)) Tryz.call228 (xZ h p fe hp) U (qO 2 U ?_)))
  refine ak hs2 U (fun c2 hs4=>?_) (fun c2 hs5=>?_)
  ·refine sr (aN (fq (cells:=[.string (⟨#[]⟩:ByteArray),.slice none 0 0,.slice none 0 0,.slice none 0 0,I 0,I 0,I 0,.string (⟨#[]⟩:ByteArray),.slice none 0 0,I 0]) (places:=[(0,1),(1,1),(2,1),(3,1),(4,5),(9,1)]) Ff zc68 kr kr ?_))
   refine bL 0 ty68 U U U U U U (an ?_)
   have hs6:dh p=((Policy.mk (⟨#[]⟩:ByteArray) ([]) ([]) ([]) (Expr.mk 0 0 0 (⟨#[]⟩:ByteArray) ([])) 0),201):=hs4
   exact cJ [.agg (List.toArray [.string (⟨#[]⟩:ByteArray),.slice none 0 0,.slice none 0 0,.slice none 0 0,I 0,I 0,I 0,.string (⟨#[]⟩:ByteArray),.slice none 0 0,I 0]),I 201] EY U ⟨⟨0,_,_,_,_,U,U,.inl ⟨ty68,U⟩⟩,U,trivial⟩ ⟨(eE.mk none 0 none 0 none 0 (cE.mk none 0)),congrArg (fun r:(Policy×Int)=>(.tuple #[.agg (Policy.cells r.1 (eE.mk none 0 none 0 none 0 (cE.mk none 0))).toArray,I r.2]:Value)) hs6.symm,(by rw [hs6];exact (show Policy.ok h (Policy.mk (⟨#[]⟩:ByteArray) ([]) ([]) ([]) (Expr.mk 0 0 0 (⟨#[]⟩:ByteArray) ([])) 0) (eE.mk none 0 none 0 none 0 (cE.mk none 0)) from ⟨SlC.nil,SlC.nil,SlC.nil,(show Expr.ok h (Expr.mk 0 0 0 (⟨#[]⟩:ByteArray) ([])) (cE.mk none 0) from Expr.ok.of SlC.nil)⟩))⟩
  ·refine qT 4 U (dl 1 ty68 U U U (au (v:=.bool (ft p)) Tryz.call229 (w5 h p fe hp) U (qO 2 U ?_)))
   refine ak hs5 U (fun c3 hs7=>?_) (fun c3 hs8=>?_)
   ·refine sr (aN (fq (cells:=[.string (⟨#[]⟩:ByteArray),.slice none 0 0,.slice none 0 0,.slice none 0 0,I 0,I 0,I 0,.string (⟨#[]⟩:ByteArray),.slice none 0 0,I 0]) (places:=[(0,1),(1,1),(2,1),(3,1),(4,5),(9,1)]) Ff zc68 kr kr ?_))
    refine bL 0 ty68 U U U U U U (an ?_)
    have hs9:dh p=((Policy.mk (⟨#[]⟩:ByteArray) ([]) ([]) ([]) (Expr.mk 0 0 0 (⟨#[]⟩:ByteArray) ([])) 0),200):=hs7
    exact cJ [.agg (List.toArray [.string (⟨#[]⟩:ByteArray),.slice none 0 0,.slice none 0 0,.slice none 0 0,I 0,I 0,I 0,.string (⟨#[]⟩:ByteArray),.slice none 0 0,I 0]),I 200] EY U ⟨⟨0,_,_,_,_,U,U,.inl ⟨ty68,U⟩⟩,U,trivial⟩ ⟨(eE.mk none 0 none 0 none 0 (cE.mk none 0)),congrArg (fun r:(Policy×Int)=>(.tuple #[.agg (Policy.cells r.1 (eE.mk none 0 none 0 none 0 (cE.mk none 0))).toArray,I r.2]:Value)) hs9.symm,(by rw [hs9];exact (show Policy.ok h (Policy.mk (⟨#[]⟩:ByteArray) ([]) ([]) ([]) (Expr.mk 0 0 0 (⟨#[]⟩:ByteArray) ([])) 0) (eE.mk none 0 none 0 none 0 (cE.mk none 0)) from ⟨SlC.nil,SlC.nil,SlC.nil,(show Expr.ok h (Expr.mk 0 0 0 (⟨#[]⟩:ByteArray) ([])) (cE.mk none 0) from Expr.ok.of SlC.nil)⟩))⟩
   ·refine qT 3 U (dl 1 ty68 U U U (bR zc68 (fun b3=>bL 0 ty68 U U U U U U (qO 3 U (aj fj U (dS 0 ty63 U U U U U U (qO 6 U ?_)))))))
    let z1:Nat×Obj:=(b2,O [.string (⟨#[]⟩:ByteArray),.slice none 0 0,.slice none 0 0,.slice none 0 0,I 0,I 0,I 0,.string (⟨#[]⟩:ByteArray),.slice none 0 0,I 0] 68)
    let z7:Nat×Obj:=(b1,O (Policy.cells p fe) 68)
    refine aU (ι:=Nat×(List Rule)×Option Addr×Nat×LH×HF) (fun i=>[(1,Q b1),(2,Q b2),(4,Q b3)]) (fun i=>i.2.2.2.2.2) (fun i=>[(b3,O [.string p.Name,.slice fe.fV p.Kinds.length fe.fU,.slice fe.dK p.Offices.length fe.dJ,.slice i.2.2.1 i.2.1.length i.2.2.2.1,I p.Change.Kind,I p.Change.N,I p.Change.No,.string p.Change.Name,.slice fe.Change.ir p.Change.L.length fe.Change.iG,I p.Mode] 68),z1,z7]++(i.2.2.2.2.1)) (fun i=>i.1≤p.Rules.length∧dh p=((dh.K1 p) i.2.1)∧eb Rule.rp 107 i.2.2.2.2.2 i.2.1 i.2.2.1 i.2.2.2.1 i.2.2.2.2.1∧i.2.1.length≤0+i.1∧HF.le h i.2.2.2.2.2) ?_ (fun hx1=>?_)
    ·rintro ⟨i1,j7,mC,mB,sF,hh1⟩ ⟨aP,hs10,qb,yU,hl1⟩ e
     try dsimp only at aP qb yU hl1
     refine sr (aj iS U (aI 2 ty62 U U U (aj lU U (dl 2 ty66 U U U (aN (cy B1 (pd hh1 p.Offices fe.dK fe.dJ p.Change fe.Change (hp.Offices.mono Rp.gq hl1) (hp.Change.mono hl1) ob) U (fun v3 h4 hle4 hp3=>?_)))))))
     obtain ⟨rr4,rfl,ok4⟩:=hp3
     let z3:Nat×Obj:=(b3,O [.string p.Name,.slice fe.fV p.Kinds.length fe.fU,.slice fe.dK p.Offices.length fe.dJ,.slice mC j7.length mB,I ((ab p.Offices p.Change).Kind),I ((ab p.Offices p.Change).N),I ((ab p.Offices p.Change).No),.string ((ab p.Offices p.Change).Name),.slice rr4.ir ((ab p.Offices p.Change).L.length) rr4.iG,I p.Mode] 68)
     let z4:Nat×Obj:=(b2,O [.string p.Name,.slice fe.fV p.Kinds.length fe.fU,.slice fe.dK p.Offices.length fe.dJ,.slice mC j7.length mB,I ((ab p.Offices p.Change).Kind),I ((ab p.Offices p.Change).N),I ((ab p.Offices p.Change).No),.string ((ab p.Offices p.Change).Name),.slice rr4.ir ((ab p.Offices p.Change).L.length) rr4.iG,I p.Mode] 68)
     refine aj lU U (dS 0 ty66 U U U U U U (qO 3 U (dl 0 ty68 U U U (bL 1 ty68 U U U U U U (iT (L':=[z3,z4,z7]++(sF)) U (an ?_))))))
     refine eY Rule.aD ([z3,z4,z7]) sF ([]) ap hM (qb.mono Rule.aD hle4) (fun h5 hle5 sl2=>?_)
     have hs11:dh p=((Policy.mk p.Name p.Kinds p.Offices j7 (Expr.mk ((ab p.Offices p.Change).Kind) ((ab p.Offices p.Change).N) ((ab p.Offices p.Change).No) ((ab p.Offices p.Change).Name) ((ab p.Offices p.Change).L)) p.Mode),0):=hs10
     exact cJ [.agg (Policy.cells (Policy.mk p.Name p.Kinds p.Offices j7 (Expr.mk ((ab p.Offices p.Change).Kind) ((ab p.Offices p.Change).N) ((ab p.Offices p.Change).No) ((ab p.Offices p.Change).Name) ((ab p.Offices p.Change).L)) p.Mode) (eE.mk fe.fV fe.fU fe.dK fe.dJ mC mB (cE.mk rr4.ir rr4.iG))).toArray,I 0] EY U ⟨⟨1,_,_,_,_,U,U,.inl ⟨ty68,U⟩⟩,U,trivial⟩ ⟨(eE.mk fe.fV fe.fU fe.dK fe.dJ mC mB (cE.mk rr4.ir rr4.iG)),congrArg (fun r:(Policy×Int)=>(.tuple #[.agg (Policy.cells r.1 (eE.mk fe.fV fe.fU fe.dK fe.dJ mC mB (cE.mk rr4.ir rr4.iG))).toArray,I r.2]:Value)) hs11.symm,(by rw [hs11];exact (show Policy.ok h5 (Policy.mk p.Name p.Kinds p.Offices j7 (Expr.mk ((ab p.Offices p.Change).Kind) ((ab p.Offices p.Change).N) ((ab p.Offices p.Change).No) ((ab p.Offices p.Change).Name) ((ab p.Offices p.Change).L)) p.Mode) (eE.mk fe.fV fe.fU fe.dK fe.dJ mC mB (cE.mk rr4.ir rr4.iG)) from ⟨(hp.Kinds.mono Rp.gq ((hl1.t hle4).t hle5)),(hp.Offices.mono Rp.gq ((hl1.t hle4).t hle5)),sl2,(show Expr.ok h5 (Expr.mk ((ab p.Offices p.Change).Kind) ((ab p.Offices p.Change).N) ((ab p.Offices p.Change).No) ((ab p.Offices p.Change).Name) ((ab p.Offices p.Change).L)) (cE.mk rr4.ir rr4.iG) from Expr.ok.of (ok4.list.mono Expr.aD hle5))⟩))⟩
    ·refine bG (ι:=Nat×(List Rule)×Option Addr×Nat×LH×HF×List Rule) (fun i=>[(1,Q b1),(2,Q b2),(4,Q b3),(5,I ((i.1:Nat):Int))]) (fun i=>i.2.2.2.2.2.1) (fun i=>[(b3,O [.string p.Name,.slice fe.fV p.Kinds.length fe.fU,.slice fe.dK p.Offices.length fe.dJ,.slice i.2.2.1 i.2.1.length i.2.2.2.1,I p.Change.Kind,I p.Change.N,I p.Change.No,.string p.Change.Name,.slice fe.Change.ir p.Change.L.length fe.Change.iG,I p.Mode] 68),z1,z7]++(i.2.2.2.2.1)) (fun i=>p.Rules.drop i.1=i.2.2.2.2.2.2∧i.1≤p.Rules.length∧dh p=((dh.L1 p (dh.K1 p)) i.2.2.2.2.2.2 i.1 i.2.1)∧eb Rule.rp 107 i.2.2.2.2.2.1 i.2.1 i.2.2.1 i.2.2.2.1 i.2.2.2.2.1∧i.2.1.length≤0+i.1∧HF.le h i.2.2.2.2.2.1) (fun i=>i.2.2.2.2.2.2.length) (0,[],none,0,[],h,p.Rules) rd sw ⟨U,Nat.zero_le _,hs8,eb.nil,lo,(HF.le_refl h)⟩ ?_
     rintro ⟨i1,j7,mC,mB,sF,hh1,s1⟩ ⟨hd1,aP,hs12,qb,yU,hl1⟩ ag1 e
     try dsimp only at hd1 aP qb yU hl1
     rcases s1 with _ | ⟨y1,rz1⟩
     ·have dr:=cw hd1
      refine qT 4 U (aj fj U (aI 2 ty63 U U U (a8 jR U (ai (v':=.bool false) U (cb dr) (qO 3 U ?_)))))
      exact hx1 (i1,j7,mC,mB,sF,hh1) _ ⟨aP,hs12,qb,lo,hl1⟩ rd
     ·have dq:=dy hd1
      have aM:=cA hd1
      have ey:=aE hd1
      have gi:=hp.Rules.1.1
      have hsy:=hsm.2.1 y1 (gx hd1)
      refine qT 4 U (aj fj U (aI 2 ty63 U U U (a8 jR U (ai (v':=.bool true) U (cb dq) (qO 7 U (aj fj U (aI 2 ty63 U U U (aB (aN (fF jR ty107 (hp.Rules.mono Rule.aD hl1).1 (nthZ aM) (aV aM) U U U (fun q2 cs2 A2 ln2 rr5=>?_)))))))))))
      obtain ⟨r2,rfl,ok5⟩:=rr5
      let z2:Nat×Obj:=(b3,O [.string p.Name,.slice fe.fV p.Kinds.length fe.fU,.slice fe.dK p.Offices.length fe.dJ,.slice mC j7.length mB,I p.Change.Kind,I p.Change.N,I p.Change.No,.string p.Change.Name,.slice fe.Change.ir p.Change.L.length fe.Change.iG,I p.Mode] 68)
      refine el ty107 A2 U U (bR zc107 (fun b6=>bL 0 ty107 U U U U U U (iT (L':=[(b6,O (Rule.cells y1 r2) 107),z2,z1,z7]++(sF)) U (qO 4 U (aj sK U (dS 0 ty3 U U U U U U (qO 3 U (aj iS U (aI 3 ty62 U U U (aj kv U (dl 0 ty66 U U U (aN (cy B1 (pd hh1 p.Offices fe.dK fe.dJ y1.Expr r2.Expr (hp.Offices.mono Rp.gq hl1) ok5.Expr ob) U (fun v4 h6 hle6 hp4=>?_))))))))))))))
      obtain ⟨rr6,rfl,ok6⟩:=hp4
      refine aj kv U (dS 0 ty66 U U U U U U (qO 2 U (aj fj U (aI 1 ty63 U U U (dl 0 ty107 U U U (aN (bK (cells:=[.string y1.Kind,I ((i1:Nat):Int),I y1.Think,I ((ab p.Offices y1.Expr).Kind),I ((ab p.Offices y1.Expr).N),I ((ab p.Offices y1.Expr).No),.string ((ab p.Offices y1.Expr).Name),.slice rr6.ir ((ab p.Offices y1.Expr).L.length) rr6.iG]) jR ty107 zc107 U U kr (fun b7=>?_))))))))
      let z5:Nat×Obj:=(b7,O [.string y1.Kind,I ((i1:Nat):Int),I y1.Think,I ((ab p.Offices y1.Expr).Kind),I ((ab p.Offices y1.Expr).N),I ((ab p.Offices y1.Expr).No),.string ((ab p.Offices y1.Expr).Name),.slice rr6.ir ((ab p.Offices y1.Expr).L.length) rr6.iG] 107)
      let z6:Nat×Obj:=(b6,O [.string y1.Kind,I ((i1:Nat):Int),I y1.Think,I ((ab p.Offices y1.Expr).Kind),I ((ab p.Offices y1.Expr).N),I ((ab p.Offices y1.Expr).No),.string ((ab p.Offices y1.Expr).Name),.slice rr6.ir ((ab p.Offices y1.Expr).L.length) rr6.iG] 107)
      refine aN (db Rule.eT ([z5,z6,z2,z1,z7]) ([]) (fun G=>[z5,z6,z2,z1,z7]++(G)) ap (fun _=>ap) jR ty107 zc107 U bytes107 (qb.mono Rule.aD hle6) U U (eI 0 U (show bD Rule.rp h6 [.string y1.Kind,I ((i1:Nat):Int),I y1.Think,I ((ab p.Offices y1.Expr).Kind),I ((ab p.Offices y1.Expr).N),I ((ab p.Offices y1.Expr).No),.string ((ab p.Offices y1.Expr).Name),.slice rr6.ir ((ab p.Offices y1.Expr).L.length) rr6.iG] ([(Rule.mk y1.Kind ((i1:Nat):Int) y1.Think (Expr.mk ((ab p.Offices y1.Expr).Kind) ((ab p.Offices y1.Expr).N) ((ab p.Offices y1.Expr).No) ((ab p.Offices y1.Expr).Name) ((ab p.Offices y1.Expr).L)))]) from ⟨[.string y1.Kind,I ((i1:Nat):Int),I y1.Think,I ((ab p.Offices y1.Expr).Kind),I ((ab p.Offices y1.Expr).N),I ((ab p.Offices y1.Expr).No),.string ((ab p.Offices y1.Expr).Name),.slice rr6.ir ((ab p.Offices y1.Expr).L.length) rr6.iG],[],U,U,⟨(vz.mk (cE.mk rr6.ir rr6.iG)),U,(show Rule.ok h6 (Rule.mk y1.Kind ((i1:Nat):Int) y1.Think (Expr.mk ((ab p.Offices y1.Expr).Kind) ((ab p.Offices y1.Expr).N) ((ab p.Offices y1.Expr).No) ((ab p.Offices y1.Expr).Name) ((ab p.Offices y1.Expr).L))) (vz.mk (cE.mk rr6.ir rr6.iG)) from ⟨(show Expr.ok h6 (Expr.mk ((ab p.Offices y1.Expr).Kind) ((ab p.Offices y1.Expr).N) ((ab p.Offices y1.Expr).No) ((ab p.Offices y1.Expr).Name) ((ab p.Offices y1.Expr).L)) (cE.mk rr6.ir rr6.iG) from Expr.ok.of ok6.list)⟩)⟩,U⟩)) lo lo (fun ob2 oc2 G2 gr2=>?_))
      refine aj fj U (dS 2 ty63 U U U U U U (qO 4 U (ai (v':=I (((i1+1):Nat):Int)) U (bz ob) (an ?_))))
      refine cG (L':=[(b3,O [.string p.Name,.slice fe.fV p.Kinds.length fe.fU,.slice fe.dK p.Offices.length fe.dJ,.slice ob2 ((j7++[(Rule.mk y1.Kind ((i1:Nat):Int) y1.Think (Expr.mk ((ab p.Offices y1.Expr).Kind) ((ab p.Offices y1.Expr).N) ((ab p.Offices y1.Expr).No) ((ab p.Offices y1.Expr).Name) ((ab p.Offices y1.Expr).L)))]).length) oc2,I p.Change.Kind,I p.Change.N,I p.Change.No,.string p.Change.Name,.slice fe.Change.ir p.Change.L.length fe.Change.iG,I p.Mode] 68),z1,z7]++(G2)) js ?_
      exact ag1 ((i1+1),(j7++[(Rule.mk y1.Kind ((i1:Nat):Int) y1.Think (Expr.mk ((ab p.Offices y1.Expr).Kind) ((ab p.Offices y1.Expr).N) ((ab p.Offices y1.Expr).No) ((ab p.Offices y1.Expr).Name) ((ab p.Offices y1.Expr).L)))]),ob2,oc2,G2,h6,rz1) _ (Nat.lt_succ_self _) ⟨ba hd1,aE hd1,hs12,gr2,lo,(hl1.t hle6)⟩ rd
theorem oo (h:HF) (a:(List ByteArray)) (It:Option Addr) (Is:Nat) (fP:(List ByteArray)) (sO:Option Addr) (sN:Nat) (ha:SlC Rp.str h It Is a) (qN:SlC Rp.str h sO sN fP):Ret Tryz.prog 231 [.slice It a.length Is,.slice sO fP.length sN] h (.bool (dA a fP)):=by
 refine ae D6 U Tryz.ntmps231 U fun X hM hX=>?_
 have hs0:dA a fP=dA a fP:=rfl
 refine qT 8 U (a8 kB U (aB (a8 kB U (qO 2 U ?_))))
 refine ak hs0 U (fun c1 hs1=>?_) (fun c1 hs2=>?_)
 ·refine qT 4 U ?_
  exact ah [.bool false] D6 U hX rd (cs hs1)
 ·refine qT 6 U ?_
  refine aU (ι:=Nat) (fun i=>[]) (fun i=>h) (fun i=>[]) (fun i=>i≤a.length∧dA a fP=((dA.K1))) ?_ (fun hx1=>?_)
  ·rintro i1 ⟨aP,hs4⟩ e
   try dsimp only at aP
   refine qT 4 U ?_
   exact ah [.bool true] D6 U hX rd (cs hs4)
  ·refine bG (ι:=Nat×List ByteArray) (fun i=>[(0,.slice It a.length Is),(1,.slice sO fP.length sN),(5,I ((i.1:Nat):Int))]) (fun i=>h) (fun i=>[]) (fun i=>a.drop i.1=i.2∧i.1≤a.length∧dA a fP=((dA.L1 fP (dA.K1)) i.2 i.1)) (fun i=>i.2.length) (0,a) rd sw ⟨U,Nat.zero_le _,hs2⟩ ?_
   rintro ⟨i1,s1⟩ ⟨hd1,aP,hs6⟩ ag1 e
   try dsimp only at hd1 aP
   rcases s1 with _ | ⟨y1,rz1⟩
   ·have dr:=cw hd1
    refine qT 5 U (a8 kB U (ai (v':=.bool false) U (cb dr) (qO 3 U ?_)))
    exact hx1 i1 _ ⟨aP,hs6⟩ trivial
   ·have dq:=dy hd1
    have aM:=cA hd1
    have ey:=aE hd1
    have gi:=ha.1.1
    refine qT 5 U (a8 kB U (ai (v':=.bool true) U (cb dq) (qO 6 U ?_)))
    refine fd ([]) mixed kr jn (fun dU _=>(qA [0,1] U (eJ 2 (enc:=fun y=>[.string y]) dU jn (fun _ _ _ e=>e) kB ty9 ha.1 (nthZ aM) (aV aM) U U U U kr (fun q3 A3=>?_))))
    refine tf 3 U U (fun _ _ hj=>fK ty9 (A3.mono hj.1) U) (qA [4,5] U ?_)
    have ho2:0≤(((i1:Nat):Int):Int)∧(((i1:Nat):Int):Int) < ((fP).length:Int):=ob
    refine eJ 6 (enc:=fun y=>[.string y]) dU jn (fun _ _ _ e=>e) kB ty9 qN.1 ho2 (df ho2) U U U U kr (fun q4 A4=>tf 7 U U (fun _ _ hj=>fK ty9 (A4.mono hj.1) U) (qA [8] U (bv kr ?_)))
    refine ak hs6 U (fun c3 hs8=>?_) (fun c3 hs9=>?_)
    ·refine qT 4 U ?_
     exact ah [.bool false] D6 U hX rd (cs hs8)
    ·refine qT 4 U (ai (v':=I (((i1+1):Nat):Int)) U (bz ob) (an ?_))
     exact ag1 ((i1+1),rz1) _ (Nat.lt_succ_self _) ⟨ba hd1,aE hd1,hs9⟩ rd
theorem tY (rec:Expr→Expr→Bool) (h:HF) (a:Expr) (zx:cE) (fP:Expr) (lB:cE) (hrec:∀ (h:HF) (qa:Expr) (IY:cE) (Hu:Expr) (Bm:cE) (hqa:Expr.ok h qa IY) (Kq:Expr.ok h Hu Bm) (_:qa.dep < a.dep),Ret Tryz.prog 232 [.agg (Expr.cells qa IY).toArray,.agg (Expr.cells Hu Bm).toArray] h (.bool (rec qa Hu))) (ha:Expr.ok h a zx) (qN:Expr.ok h fP lB):Ret Tryz.prog 232 [.agg (Expr.cells a zx).toArray,.agg (Expr.cells fP lB).toArray] h (.bool (bJ.F rec a fP)):=by
 refine ae D5 U Tryz.ntmps232 U fun X hM hX=>?_
 have hs0:bJ.F rec a fP=bJ.F rec a fP:=rfl
 refine sr (dt (fun b1=>dt (fun b2=>qO 5 U (aj k9 U (aI 1 ty3 U U U (aj k9 U (aI 0 ty3 U U U (qO 2 U ?_))))))))
 refine ar 6 [11,12,13,14,15,16,17] 17 (.bool ((a.Kind != fP.Kind)||(a.N != fP.N))) (fun hk1=>?_) (fun e=>?_)
 ·refine ac 11 U (fun c1=>?_) (fun c1=>?_)
  ·refine qO 6 U ?_
   exact hk1 _ (cb (dW c1))
  ·refine aj j9 U (aI 1 ty3 U U U (aj j9 U (aI 0 ty3 U U U (qO 2 U ?_))))
   exact hk1 _ (cb (dX c1))
 refine aB ?_
 refine ar 6 [18,19,20,21,22,23,24] 24 (.bool (((a.Kind != fP.Kind)||(a.N != fP.N))||(a.No != fP.No))) (fun hk2=>?_) (fun e=>?_)
 ·refine ac 18 U (fun c2=>?_) (fun c2=>?_)
  ·refine qO 6 U ?_
   exact hk2 _ (cb (dW c2))
  ·refine aj na U (aI 1 ty3 U U U (aj na U (aI 0 ty3 U U U (qO 2 U ?_))))
   exact hk2 _ (cb (dX c2))
 refine aB ?_
 refine ar 6 [25,26,27,28,29,30,31] 31 (.bool ((((a.Kind != fP.Kind)||(a.N != fP.N))||(a.No != fP.No))||(!(a.Name.toList==fP.Name.toList)))) (fun hk3=>?_) (fun e=>?_)
 ·refine ac 25 U (fun c3=>?_) (fun c3=>?_)
  ·refine qO 6 U ?_
   exact hk3 _ (cb (dW c3))
  ·refine aj mI U (aI 1 ty9 U U U (aj mI U (aI 0 ty9 U U U (qO 2 U ?_))))
   exact hk3 _ (cb (dX c3))
 refine aB ?_
 refine ar 8 [32,33,34,35,36,37,38,39,40] 40 (.bool (((((a.Kind != fP.Kind)||(a.N != fP.N))||(a.No != fP.No))||(!(a.Name.toList==fP.Name.toList)))||(((a.L.length:Nat):Int) != ((fP.L.length:Nat):Int)))) (fun hk4=>?_) (fun e=>?_)
 ·refine ac 32 U (fun c4=>?_) (fun c4=>?_)
  ·refine qO 8 U ?_
   exact hk4 _ (cb (dW c4))
  ·refine aj dC U (aI 1 ty64 U U U (a8 ga U (aj dC U (aI 0 ty64 U U U (a8 ga U (qO 2 U ?_))))))
   exact hk4 _ (cb (dX c4))
 refine bh ?_
 refine ak hs0 U (fun c5 hs1=>?_) (fun c5 hs2=>?_)
 ·refine qT 4 U ?_
  exact ah [.bool false] D5 U hX rd (cs hs1)
 ·refine qT 6 U ?_
  let z1:Nat×Obj:=(b2,O (Expr.cells fP lB) 66)
  let z2:Nat×Obj:=(b1,O (Expr.cells a zx) 66)
  refine aU (ι:=Nat) (fun i=>[]) (fun i=>h) (fun i=>[z1,z2]) (fun i=>i≤a.L.length∧bJ.F rec a fP=((bJ.K1))) ?_ (fun hx1=>?_)
  ·rintro i1 ⟨aP,hs4⟩ e
   try dsimp only at aP
   refine qT 4 U ?_
   exact ah [.bool true] D5 U hX rd (cs hs4)
  ·refine bG (ι:=Nat×List Expr) (fun i=>[(2,Q b1),(3,Q b2),(5,I ((i.1:Nat):Int))]) (fun i=>h) (fun i=>[z1,z2]) (fun i=>a.L.drop i.1=i.2∧i.1≤a.L.length∧bJ.F rec a fP=((bJ.L1 rec fP (bJ.K1)) i.2 i.1)) (fun i=>i.2.length) (0,a.L) rd sw ⟨U,Nat.zero_le _,hs2⟩ ?_
   rintro ⟨i1,s1⟩ ⟨hd1,aP,hs6⟩ ag1 e
   try dsimp only at hd1 aP
   rcases s1 with _ | ⟨y1,rz1⟩
   ·have dr:=cw hd1
    refine qT 4 U (aj dC U (aI 1 ty64 U U U (a8 ga U (ai (v':=.bool false) U (cb dr) (qO 3 U ?_)))))
    exact hx1 i1 _ ⟨aP,hs6⟩ trivial
   ·have dq:=dy hd1
    have aM:=cA hd1
    have ey:=aE hd1
    have gi:=ha.list.1.1
    refine qT 4 U (aj dC U (aI 1 ty64 U U U (a8 ga U (ai (v':=.bool true) U (cb dq) (qO 6 U ?_)))))
    refine fd ([z1,z2]) mixed kr jn (fun dU _=>?_)
    refine tf 0 U U (fun _ _ _=>dx dC U) (tf 1 U U (fun _ _ hj=>gH ty64 U (hj.nth (i:=1) U) U) (tm 2 U ?_))
    refine io 3 dU jn ga ty66 ha.list.1 (nthZ aM) (aV aM) U U U U kr (fun q3 cs3 A3 ln3 rr3=>?_)
    obtain ⟨r3,rfl,ok3⟩:=rr3
    refine tf 4 U U (fun _ _ hj=>jK ty66 (A3.mono hj.1) U U) (tf 5 U U (fun _ _ _=>dx dC U) (tf 6 U U (fun _ _ hj=>gH ty64 U (hj.nth (i:=0) U) U) (tm 7 U ?_)))
    have ho2:0≤(((i1:Nat):Int):Int)∧(((i1:Nat):Int):Int) < ((fP.L).length:Int):=ob
    refine io 8 dU jn ga ty66 qN.list.1 ho2 (df ho2) U U U U kr (fun q4 cs4 A4 ln4 rr4=>?_)
    obtain ⟨r4,rfl,ok4⟩:=rr4
    refine tf 9 U U (fun _ _ hj=>jK ty66 (A4.mono hj.1) U U) (tn 10 U (fB (v:=.bool (rec y1 (nthI fP.L ((i1:Nat):Int)))) Tryz.call232 (hrec h y1 r3 (nthI fP.L ((i1:Nat):Int)) r4 ok3 ok4 (Expr.hY (gx hd1))) U ?_))
    refine ⟨jn,(qA [11] U ?_)⟩
    refine bv kr ?_
    refine ak hs6 U (fun c7 hs8=>?_) (fun c7 hs9=>?_)
    ·refine qT 4 U ?_
     exact ah [.bool false] D5 U hX rd (cs hs8)
    ·refine qT 4 U (ai (v':=I (((i1+1):Nat):Int)) U (bz ob) (an ?_))
     exact ag1 ((i1+1),rz1) _ (Nat.lt_succ_self _) ⟨ba hd1,aE hd1,hs9⟩ rd
theorem nj:∀ (m:Nat) (h:HF) (a:Expr) (zx:cE) (fP:Expr) (lB:cE) (_:a.dep≤m) (ha:Expr.ok h a zx) (qN:Expr.ok h fP lB),Ret Tryz.prog 232 [.agg (Expr.cells a zx).toArray,.agg (Expr.cells fP lB).toArray] h (.bool (bJ.go m a fP))
 | 0,h,a,zx,fP,lB,hd,ha,qN=>absurd hd (Nat.not_le.2 (Expr.jV _))
 | m+1,h,a,zx,fP,lB,hd,ha,qN=>tY (bJ.go m) h a zx fP lB (fun qh_ qa IY Hu Bm qha Ka qd=>nj m qh_ qa IY Hu Bm ob qha Ka) ha qN
theorem ph (h:HF) (a:Expr) (zx:cE) (fP:Expr) (lB:cE) (ha:Expr.ok h a zx) (qN:Expr.ok h fP lB):Ret Tryz.prog 232 [.agg (Expr.cells a zx).toArray,.agg (Expr.cells fP lB).toArray] h (.bool (bJ a fP)):=nj _ h a zx fP lB (Nat.le_refl _) ha qN
theorem zA (h:HF) (a:Policy) (zx:eE) (fP:Policy) (lB:eE) (ha:Policy.ok h a zx) (qN:Policy.ok h fP lB):Ret Tryz.prog 190 [.agg (Policy.cells a zx).toArray,.agg (Policy.cells fP lB).toArray] h (.bool (gu a fP)):=by
 refine ae D4 U Tryz.ntmps190 U fun X hM hX=>?_
 have hs0:gu a fP=gu a fP:=rfl
 refine sr (dt (fun b1=>dt (fun b2=>qO 5 U (aj xq U (aI 1 ty9 U U U (aj xq U (aI 0 ty9 U U U (qO 2 U ?_))))))))
 refine ar 6 [13,14,15,16,17,18,19] 19 (.bool ((!(a.Name.toList==fP.Name.toList))||(a.Mode != fP.Mode))) (fun hk1=>?_) (fun e=>?_)
 ·refine ac 13 U (fun c1=>?_) (fun c1=>?_)
  ·refine qO 6 U ?_
   exact hk1 _ (cb (dW c1))
  ·refine aj qX U (aI 1 ty3 U U U (aj qX U (aI 0 ty3 U U U (qO 2 U ?_))))
   exact hk1 _ (cb (dX c1))
 refine aB ?_
 refine ar 7 [20,21,22,23,24,25,26,27] 27 (.bool (((!(a.Name.toList==fP.Name.toList))||(a.Mode != fP.Mode))||(!(dA a.Offices fP.Offices)))) (fun hk2=>?_) (fun e=>?_)
 ·refine ac 20 U (fun c2=>?_) (fun c2=>?_)
  ·refine qO 7 U ?_
   exact hk2 _ (cb (dW c2))
  ·refine aj iS U (aI 1 ty62 U U U (aj iS U (aI 0 ty62 U U U (au (v:=.bool (dA a.Offices fP.Offices)) Tryz.call231 (oo h a.Offices zx.dK zx.dJ fP.Offices lB.dK lB.dJ ha.Offices qN.Offices) U (qO 2 U ?_)))))
   exact hk2 _ (cb (dX c2))
 refine aB ?_
 refine ar 7 [28,29,30,31,32,33,34,35] 35 (.bool ((((!(a.Name.toList==fP.Name.toList))||(a.Mode != fP.Mode))||(!(dA a.Offices fP.Offices)))||(!(dA a.Kinds fP.Kinds)))) (fun hk3=>?_) (fun e=>?_)
 ·refine ac 28 U (fun c3=>?_) (fun c3=>?_)
  ·refine qO 7 U ?_
   exact hk3 _ (cb (dW c3))
  ·refine aj kZ U (aI 1 ty62 U U U (aj kZ U (aI 0 ty62 U U U (au (v:=.bool (dA a.Kinds fP.Kinds)) Tryz.call231 (oo h a.Kinds zx.fV zx.fU fP.Kinds lB.fV lB.fU ha.Kinds qN.Kinds) U (qO 2 U ?_)))))
   exact hk3 _ (cb (dX c3))
 refine aB ?_
 refine ar 8 [36,37,38,39,40,41,42,43,44] 44 (.bool (((((!(a.Name.toList==fP.Name.toList))||(a.Mode != fP.Mode))||(!(dA a.Offices fP.Offices)))||(!(dA a.Kinds fP.Kinds)))||(((a.Rules.length:Nat):Int) != ((fP.Rules.length:Nat):Int)))) (fun hk4=>?_) (fun e=>?_)
 ·refine ac 36 U (fun c4=>?_) (fun c4=>?_)
  ·refine qO 8 U ?_
   exact hk4 _ (cb (dW c4))
  ·refine aj fj U (aI 1 ty63 U U U (a8 jR U (aj fj U (aI 0 ty63 U U U (a8 jR U (qO 2 U ?_))))))
   exact hk4 _ (cb (dX c4))
 refine aB ?_
 refine ar 7 [45,46,47,48,49,50,51,52] 52 (.bool ((((((!(a.Name.toList==fP.Name.toList))||(a.Mode != fP.Mode))||(!(dA a.Offices fP.Offices)))||(!(dA a.Kinds fP.Kinds)))||(((a.Rules.length:Nat):Int) != ((fP.Rules.length:Nat):Int)))||(!(bJ a.Change fP.Change)))) (fun hk5=>?_) (fun e=>?_)
 ·refine ac 45 U (fun c5=>?_) (fun c5=>?_)
  ·refine qO 7 U ?_
   exact hk5 _ (cb (dW c5))
  ·refine aj lU U (dl 1 ty66 U U U (aj lU U (dl 0 ty66 U U U (au (v:=.bool (bJ a.Change fP.Change)) Tryz.call232 (ph h a.Change zx.Change fP.Change lB.Change ha.Change qN.Change) U (qO 2 U ?_)))))
   exact hk5 _ (cb (dX c5))
 refine bh ?_
 refine ak hs0 U (fun c6 hs1=>?_) (fun c6 hs2=>?_)
 ·refine qT 4 U ?_
  exact ah [.bool false] D4 U hX rd (cs hs1)
 ·refine qT 6 U ?_
  let z1:Nat×Obj:=(b2,O (Policy.cells fP lB) 68)
  let z2:Nat×Obj:=(b1,O (Policy.cells a zx) 68)
  refine aU (ι:=Nat) (fun i=>[]) (fun i=>h) (fun i=>[z1,z2]) (fun i=>i≤a.Rules.length∧gu a fP=((gu.K1))) ?_ (fun hx1=>?_)
  ·rintro i1 ⟨aP,hs4⟩ e
   try dsimp only at aP
   refine qT 4 U ?_
   exact ah [.bool true] D4 U hX rd (cs hs4)
  ·refine bG (ι:=Nat×List Rule) (fun i=>[(2,Q b1),(3,Q b2),(5,I ((i.1:Nat):Int))]) (fun i=>h) (fun i=>[z1,z2]) (fun i=>a.Rules.drop i.1=i.2∧i.1≤a.Rules.length∧gu a fP=((gu.L1 fP (gu.K1)) i.2 i.1)) (fun i=>i.2.length) (0,a.Rules) rd sw ⟨U,Nat.zero_le _,hs2⟩ ?_
   rintro ⟨i1,s1⟩ ⟨hd1,aP,hs6⟩ ag1 e
   try dsimp only at hd1 aP
   rcases s1 with _ | ⟨y1,rz1⟩
   ·have dr:=cw hd1
    refine qT 4 U (aj fj U (aI 1 ty63 U U U (a8 jR U (ai (v':=.bool false) U (cb dr) (qO 3 U ?_)))))
    exact hx1 i1 _ ⟨aP,hs6⟩ trivial
   ·have dq:=dy hd1
    have aM:=cA hd1
    have ey:=aE hd1
    have gi:=ha.Rules.1.1
    refine qT 4 U (aj fj U (aI 1 ty63 U U U (a8 jR U (ai (v':=.bool true) U (cb dq) (qO 7 U (aj fj U (aI 1 ty63 U U U (aB (aN (fF jR ty107 ha.Rules.1 (nthZ aM) (aV aM) U U U (fun q3 cs3 A3 ln3 rr3=>?_)))))))))))
    obtain ⟨r3,rfl,ok3⟩:=rr3
    refine el ty107 A3 U U (bR zc107 (fun b5=>bL 0 ty107 U U U U U U (qO 3 U (aj fj U (aI 1 ty63 U U U (aB ?_))))))
    have ho2:0≤(((i1:Nat):Int):Int)∧(((i1:Nat):Int):Int) < ((fP.Rules).length:Int):=ob
    refine aN (fF jR ty107 qN.Rules.1 ho2 (df ho2) U U U (fun q4 cs4 A4 ln4 rr4=>?_))
    obtain ⟨r4,rfl,ok4⟩:=rr4
    refine el ty107 A4 U U (bR zc107 (fun b6=>bL 0 ty107 U U U U U U (qO 3 U (aj vp U (aI 1 ty9 U U U (aj vp U (aI 0 ty9 U U U (qO 2 U ?_))))))))
    refine ar 6 [75,76,77,78,79,80,81] 81 (.bool ((!(y1.Kind.toList==(nthI fP.Rules ((i1:Nat):Int)).Kind.toList))||(y1.KindNo != (nthI fP.Rules ((i1:Nat):Int)).KindNo))) (fun hk6=>?_) (fun e=>?_)
    ·refine ac 75 U (fun c7=>?_) (fun c7=>?_)
     ·refine qO 6 U ?_
      exact hk6 _ (cb (dW c7))
     ·refine aj sK U (aI 1 ty3 U U U (aj sK U (aI 0 ty3 U U U (qO 2 U ?_))))
      exact hk6 _ (cb (dX c7))
    refine aB ?_
    refine ar 6 [82,83,84,85,86,87,88] 88 (.bool (((!(y1.Kind.toList==(nthI fP.Rules ((i1:Nat):Int)).Kind.toList))||(y1.KindNo != (nthI fP.Rules ((i1:Nat):Int)).KindNo))||(y1.Think != (nthI fP.Rules ((i1:Nat):Int)).Think))) (fun hk7=>?_) (fun e=>?_)
    ·refine ac 82 U (fun c8=>?_) (fun c8=>?_)
     ·refine qO 6 U ?_
      exact hk7 _ (cb (dW c8))
     ·refine aj oL U (aI 1 ty3 U U U (aj oL U (aI 0 ty3 U U U (qO 2 U ?_))))
      exact hk7 _ (cb (dX c8))
    refine aB ?_
    refine ar 7 [89,90,91,92,93,94,95,96] 96 (.bool ((((!(y1.Kind.toList==(nthI fP.Rules ((i1:Nat):Int)).Kind.toList))||(y1.KindNo != (nthI fP.Rules ((i1:Nat):Int)).KindNo))||(y1.Think != (nthI fP.Rules ((i1:Nat):Int)).Think))||(!(bJ y1.Expr ((nthI fP.Rules ((i1:Nat):Int)).Expr))))) (fun hk8=>?_) (fun e=>?_)
    ·refine ac 89 U (fun c9=>?_) (fun c9=>?_)
     ·refine qO 7 U ?_
      exact hk8 _ (cb (dW c9))
     ·refine aj kv U (dl 1 ty66 U U U (aj kv U (dl 0 ty66 U U U (au (v:=.bool (bJ y1.Expr ((nthI fP.Rules ((i1:Nat):Int)).Expr))) Tryz.call232 (ph h y1.Expr r3.Expr ((nthI fP.Rules ((i1:Nat):Int)).Expr) r4.Expr ok3.Expr ok4.Expr) U (qO 2 U ?_)))))
      exact hk8 _ (cb (dX c9))
    refine bh ?_
    refine ak hs6 U (fun c10 hs8=>?_) (fun c10 hs9=>?_)
    ·refine qT 4 U ?_
     exact ah [.bool false] D4 U hX rd (cs hs8)
    ·refine qT 4 U (ai (v':=I (((i1+1):Nat):Int)) U (bz ob) (an ?_))
     refine cG (L':=[z1,z2]) js ?_
     exact ag1 ((i1+1),rz1) _ (Nat.lt_succ_self _) ⟨ba hd1,aE hd1,hs9⟩ rd
theorem sd (h:HF) (p:Policy) (fe:eE) (hp:Policy.ok h p fe) (hsm:smP p):Ret Tryz.prog 116 [.agg (Policy.cells p fe).toArray] h (I (fw p)):=by
 refine ae D3 U Tryz.ntmps116 U fun X hM hX=>?_
 have hs0:fw p=fw p:=rfl
 refine sr (dt (fun b1=>qO 4 U (dl 0 ty68 U U U (aN (cy Tryz.call189 (vI h p fe hp ob) U (fun v1 h1 hle1 hp1=>?_))))))
 obtain ⟨rr1,rfl,ok1⟩:=hp1
 refine qO 3 U (bR zc68 (fun b2=>bL 0 ty68 U U U U U U (qO 8 U ?_)))
 refine ak hs0 U (fun c1 hs1=>?_) (fun c1 hs2=>?_)
 ·refine qT 5 U ?_
  exact ah [I ((dh p).2)] D3 U hX rd (ci hs1)
 ·refine qT 4 U (dl 0 ty68 U U U (dl 1 ty68 U U U (au (v:=.bool (gu ((dh p).1) p)) Tryz.call190 (zA h1 ((dh p).1) rr1 p fe ok1 (hp.mono hle1)) U (qO 2 U ?_))))
  refine ak hs2 U (fun c2 hs4=>?_) (fun c2 hs5=>?_)
  ·refine qT 4 U ?_
   exact ah [I 200] D3 U hX rd (ci hs4)
  ·refine qT 5 U ?_
   exact ah [I 0] D3 U hX rd (ci hs5)
theorem pk (h:HF) (l:(List Version)) (eD:Option Addr) (eC:Nat) (hl:SlC Version.rp h eD eC l) (hsm:smV l):Ret Tryz.prog 71 [.slice eD l.length eC] h (I (cT l)):=by
 refine ae D2 U Tryz.ntmps71 U fun X hM hX=>?_
 have hs0:cT l=cT l:=rfl
 refine qT 8 U (a8 iN U (qO 2 U ?_))
 refine ak hs0 U (fun c1 hs1=>?_) (fun c1 hs2=>?_)
 ·have c1p:=of_decide_eq_true c1
  refine qT 4 U ?_
  exact ah [I 2] D2 U hX rd (ci hs1)
 ·have c1p:=of_decide_eq_false c1
  refine qT 6 U ?_
  refine aU (ι:=Nat) (fun i=>[]) (fun i=>h) (fun i=>[]) (fun i=>i≤l.length∧cT l=((cT.K1))) ?_ (fun hx1=>?_)
  ·rintro i1 ⟨aP,hs4⟩ e
   try dsimp only at aP
   refine qT 4 U ?_
   exact ah [I 0] D2 U hX rd (ci hs4)
  ·refine bG (ι:=Nat×List Version) (fun i=>[(0,.slice eD l.length eC),(3,I ((i.1:Nat):Int))]) (fun i=>h) (fun i=>[]) (fun i=>l.drop i.1=i.2∧i.1≤l.length∧cT l=((cT.L1 l (cT.K1)) i.2 i.1)) (fun i=>i.2.length) (0,l) rd sw ⟨U,Nat.zero_le _,hs2⟩ ?_
   rintro ⟨i1,s1⟩ ⟨hd1,aP,hs6⟩ ag1 e
   try dsimp only at hd1 aP
   rcases s1 with _ | ⟨y1,rz1⟩
   ·have dr:=cw hd1
    refine qT 5 U (a8 iN U (ai (v':=.bool false) U (cb dr) (qO 3 U ?_)))
    exact hx1 i1 _ ⟨aP,hs6⟩ trivial
   ·have dq:=dy hd1
    have aM:=cA hd1
    have ey:=aE hd1
    have gi:=hl.1.1
    have hsy:=hsm.2 y1 (gx hd1)
    refine qT 5 U (a8 iN U (ai (v':=.bool true) U (cb dq) (qO 9 U (aN (fF iN ty70 hl.1 (nthZ aM) (aV aM) U U U (fun q2 cs2 A2 ln2 rr2=>?_))))))
    obtain ⟨r2,rfl,ok2⟩:=rr2
    refine el ty70 A2 U U (bR zc70 (fun b2=>bL 0 ty70 U U U U U U (qO 2 U ?_)))
    refine lX [(0,.slice eD l.length eC),(3,I ((i1:Nat):Int)),(58,.bool (((((decide (y1.No < 0)||decide (1048576 < y1.No))||(decide (0 < ((i1:Nat):Int))&&decide (y1.No≤(nthI l (((i1:Nat):Int) - 1)).No)))||(!(cp y1.At)))||(!(cp y1.Known)))||((fw y1.Policy) != 0)))] (fun e=>?_) (fun hk1=>?_)
    rotate_left
    ·let z1:Nat×Obj:=(b2,O (Version.cells y1 r2) 70)
     refine fd ([z1]) mixed kr jn (fun dU _=>?_)
     refine tf 0 U U (fun _ _ _=>dx kY U) (tf 1 U U (fun _ _ hj=>gH ty3 U (hj.nth (i:=0) U) U) (qA [2,3] U ?_))
     refine dM 21 U (fun c2=>?_) (fun c2=>?_)
     ·have c2p:=of_decide_eq_true c2
      refine qR 4 37 U (bv kr ?_)
      exact hk1 _ ⟨U,U,(cb (show true=(((((decide (y1.No < 0)||decide (1048576 < y1.No))||(decide (0 < ((i1:Nat):Int))&&decide (y1.No≤(nthI l (((i1:Nat):Int) - 1)).No)))||(!(cp y1.At)))||(!(cp y1.Known)))||((fw y1.Policy) != 0)) from by rw [c2] <;> rfl)),trivial⟩
     ·have c2p:=of_decide_eq_false c2
      refine tf 4 U U (fun _ _ _=>dx kY U) (tf 5 U U (fun _ _ hj=>gH ty3 U (hj.nth (i:=0) U) U) (qR 6 3 U ?_))
      refine dM 26 U (fun c3=>?_) (fun c3=>?_)
      ·have c3p:=of_decide_eq_true c3
       refine qR 9 32 U (bv kr ?_)
       exact hk1 _ ⟨U,U,(cb (show true=(((((decide (y1.No < 0)||decide (1048576 < y1.No))||(decide (0 < ((i1:Nat):Int))&&decide (y1.No≤(nthI l (((i1:Nat):Int) - 1)).No)))||(!(cp y1.At)))||(!(cp y1.Known)))||((fw y1.Policy) != 0)) from by rw [c2,c3] <;> rfl)),trivial⟩
      ·have c3p:=of_decide_eq_false c3
       refine qR 9 3 U ?_
       refine dM 29 U (fun c4=>?_) (fun c4=>?_)
       ·have c4p:=of_decide_eq_true c4
        refine qA [12,13] U (tf 14 U U (fun _ _ _=>nF (v':=I (((i1:Nat):Int) - 1)) U (im ob)) ?_)
        have ho1:0≤((((i1:Nat):Int) - 1):Int)∧((((i1:Nat):Int) - 1):Int) < ((l).length:Int):=ob
        refine io 15 dU jn iN ty70 hl.1 ho1 (df ho1) U U U U kr (fun q3 cs3 A3 ln3 rr3=>?_)
        obtain ⟨r3,rfl,ok3⟩:=rr3
        refine tf 16 U U (fun _ _ _=>dx kY U) (tf 17 U U (fun _ _ hj=>fK ty3 (A3.mono hj.1) U) (tf 18 U U (fun _ _ _=>dx kY U) ?_))
        refine tf 19 U U (fun _ _ hj=>gH ty3 U (hj.nth (i:=0) U) U) (qR 20 4 U ?_)
        refine dM 41 U (fun c5=>?_) (fun c5=>?_)
        ·have c5p:=of_decide_eq_true c5
         refine qR 24 17 U (bv kr ?_)
         exact hk1 _ ⟨U,U,(cb (show true=(((((decide (y1.No < 0)||decide (1048576 < y1.No))||(decide (0 < ((i1:Nat):Int))&&decide (y1.No≤(nthI l (((i1:Nat):Int) - 1)).No)))||(!(cp y1.At)))||(!(cp y1.Known)))||((fw y1.Policy) != 0)) from by rw [c2,c3,c4,c5] <;> rfl)),trivial⟩
        ·have c5p:=of_decide_eq_false c5
         refine tf 24 U U (fun _ _ _=>dx j8 U) (tf 25 U U (fun _ _ hj=>gH ty3 U (hj.nth (i:=0) U) U) (tn 26 U ?_))
         refine fB (v:=.bool (cp y1.At)) uC (ip h y1.At ) U (⟨jn,(qR 27 3 U ?_)⟩)
         refine dM 47 U (fun c6=>?_) (fun c6=>?_)
         ·refine qR 30 11 U ?_
          refine bv kr ?_
          exact hk1 _ ⟨U,U,(cb (show true=(((((decide (y1.No < 0)||decide (1048576 < y1.No))||(decide (0 < ((i1:Nat):Int))&&decide (y1.No≤(nthI l (((i1:Nat):Int) - 1)).No)))||(!(cp y1.At)))||(!(cp y1.Known)))||((fw y1.Policy) != 0)) from by rw [c2,c3,c4,c5,c6] <;> rfl)),trivial⟩
         ·refine tf 30 U U (fun _ _ _=>dx u9 U) (tf 31 U U (fun _ _ hj=>gH ty3 U (hj.nth (i:=0) U) U) (tn 32 U ?_))
          refine fB (v:=.bool (cp y1.Known)) uC (ip h y1.Known ) U (⟨jn,(qR 33 3 U ?_)⟩)
          refine dM 53 U (fun c7=>?_) (fun c7=>?_)
          ·refine qR 36 5 U (bv kr ?_)
           exact hk1 _ ⟨U,U,(cb (show true=(((((decide (y1.No < 0)||decide (1048576 < y1.No))||(decide (0 < ((i1:Nat):Int))&&decide (y1.No≤(nthI l (((i1:Nat):Int) - 1)).No)))||(!(cp y1.At)))||(!(cp y1.Known)))||((fw y1.Policy) != 0)) from by rw [c2,c3,c4,c5,c6,c7] <;> rfl)),trivial⟩
          ·refine tf 36 U U (fun _ _ _=>dx pt U) (tf 37 U U (fun _ _ hj=>jT ty68 U (hj.nth (i:=0) U) U) (tn 38 U ?_))
           refine fB (v:=I (fw y1.Policy)) Tryz.call116 (sd h y1.Policy r2.Policy ok2.Policy ob) U ?_
           refine ⟨jn,(qA [39,40] U (bv kr ?_))⟩
           exact hk1 _ ⟨U,U,(cb (show ((fw y1.Policy) != 0)=(((((decide (y1.No < 0)||decide (1048576 < y1.No))||(decide (0 < ((i1:Nat):Int))&&decide (y1.No≤(nthI l (((i1:Nat):Int) - 1)).No)))||(!(cp y1.At)))||(!(cp y1.Known)))||((fw y1.Policy) != 0)) from by rw [c2,c3,c4,c5,c6,c7] <;> rfl)),trivial⟩
       ·have c4p:=of_decide_eq_false c4
        refine qR 12 12 U (tf 24 U U (fun _ _ _=>dx j8 U) (tf 25 U U (fun _ _ hj=>gH ty3 U (hj.nth (i:=0) U) U) ?_))
        refine tn 26 U (fB (v:=.bool (cp y1.At)) uC (ip h y1.At ) U (⟨jn,(qR 27 3 U ?_)⟩))
        refine dM 47 U (fun c8=>?_) (fun c8=>?_)
        ·refine qR 30 11 U ?_
         refine bv kr ?_
         exact hk1 _ ⟨U,U,(cb (show true=(((((decide (y1.No < 0)||decide (1048576 < y1.No))||(decide (0 < ((i1:Nat):Int))&&decide (y1.No≤(nthI l (((i1:Nat):Int) - 1)).No)))||(!(cp y1.At)))||(!(cp y1.Known)))||((fw y1.Policy) != 0)) from by rw [c2,c3,c4,c8] <;> rfl)),trivial⟩
        ·refine tf 30 U U (fun _ _ _=>dx u9 U) (tf 31 U U (fun _ _ hj=>gH ty3 U (hj.nth (i:=0) U) U) (tn 32 U ?_))
         refine fB (v:=.bool (cp y1.Known)) uC (ip h y1.Known ) U (⟨jn,(qR 33 3 U ?_)⟩)
         refine dM 53 U (fun c9=>?_) (fun c9=>?_)
         ·refine qR 36 5 U (bv kr ?_)
          exact hk1 _ ⟨U,U,(cb (show true=(((((decide (y1.No < 0)||decide (1048576 < y1.No))||(decide (0 < ((i1:Nat):Int))&&decide (y1.No≤(nthI l (((i1:Nat):Int) - 1)).No)))||(!(cp y1.At)))||(!(cp y1.Known)))||((fw y1.Policy) != 0)) from by rw [c2,c3,c4,c8,c9] <;> rfl)),trivial⟩
         ·refine tf 36 U U (fun _ _ _=>dx pt U) (tf 37 U U (fun _ _ hj=>jT ty68 U (hj.nth (i:=0) U) U) (tn 38 U ?_))
          refine fB (v:=I (fw y1.Policy)) Tryz.call116 (sd h y1.Policy r2.Policy ok2.Policy ob) U ?_
          refine ⟨jn,(qA [39,40] U (bv kr ?_))⟩
          exact hk1 _ ⟨U,U,(cb (show ((fw y1.Policy) != 0)=(((((decide (y1.No < 0)||decide (1048576 < y1.No))||(decide (0 < ((i1:Nat):Int))&&decide (y1.No≤(nthI l (((i1:Nat):Int) - 1)).No)))||(!(cp y1.At)))||(!(cp y1.Known)))||((fw y1.Policy) != 0)) from by rw [c2,c3,c4,c8,c9] <;> rfl)),trivial⟩
    refine ak hs6 U (fun c10 hs8=>?_) (fun c10 hs9=>?_)
    ·refine qT 4 U ?_
     exact ah [I 200] D2 U hX rd (ci hs8)
    ·refine qT 4 U (ai (v':=I (((i1+1):Nat):Int)) U (bz ob) (an ?_))
     refine cG (L':=[]) js ?_
     exact ag1 ((i1+1),rz1) _ (Nat.lt_succ_self _) ⟨ba hd1,aE hd1,hs9⟩ rd
theorem zB (h:HF) (t:Int)  : Ret Tryz.prog 191 [I t] h (.bool (jH t)):=by
 refine ae Tryz.func191 U Tryz.ntmps191 U fun X hM hX=>?_
 have hs0:jH t=jH t:=rfl
 refine qT 9 U ?_
 refine ar 3 [5,6,7,8] 8 (.bool (decide (0≤t)&&decide (t < 1099511627776))) (fun hk1=>?_) (fun e=>?_)
 ·refine ac 5 U (fun c1=>?_) (fun c1=>?_)
  ·refine qO 3 U ?_
   exact hk1 _ (cb (cB c1))
  ·refine qO 3 U ?_
   exact hk1 _ (cb (cC c1))
 refine an ?_
 exact ah [.bool (decide (0≤t)&&decide (t < 1099511627776))] Tryz.func191 U hX rd (cs hs0)
theorem pC (h:HF) (l:(List Int)) (eD:Option Addr) (eC:Nat) (limit:Int) (hl:SlC Rp.int h eD eC l):Ret Tryz.prog 192 [.slice eD l.length eC,I limit] h (.bool (ed l limit)):=by
 refine ae Tryz.func192 U Tryz.ntmps192 U fun X hM hX=>?_
 have hs0:ed l limit=ed l limit:=rfl
 refine qT 9 U ?_
 refine aU (ι:=Nat) (fun i=>[(0,.slice eD l.length eC)]) (fun i=>h) (fun i=>[]) (fun i=>i≤l.length∧ed l limit=((ed.K1 l))) ?_ (fun hx1=>?_)
 ·rintro i1 ⟨aP,hs1⟩ e
  try dsimp only at aP
  refine qT 3 U (a8 cN U (qO 3 U ?_))
  exact ah [.bool (decide (((l.length:Nat):Int)≤16))] Tryz.func192 U hX rd (cs hs1)
 ·refine bG (ι:=Nat×List Int) (fun i=>[(0,.slice eD l.length eC),(1,I limit),(5,I ((i.1:Nat):Int))]) (fun i=>h) (fun i=>[]) (fun i=>l.drop i.1=i.2∧i.1≤l.length∧ed l limit=((ed.L1 l limit (ed.K1 l)) i.2 i.1)) (fun i=>i.2.length) (0,l) rd sw ⟨U,Nat.zero_le _,hs0⟩ ?_
  rintro ⟨i1,s1⟩ ⟨hd1,aP,hs3⟩ ag1 e
  try dsimp only at hd1 aP
  rcases s1 with _ | ⟨y1,rz1⟩
  ·have dr:=cw hd1
   refine qT 5 U (a8 cN U (ai (v':=.bool false) U (cb dr) (qO 3 U ?_)))
   exact hx1 i1 _ ⟨aP,hs3⟩ rd
  ·have dq:=dy hd1
   have aM:=cA hd1
   have ey:=aE hd1
   have gi:=hl.1.1
   refine qT 5 U (a8 cN U (ai (v':=.bool true) U (cb dq) (qO 6 U ?_)))
   refine lX [(0,.slice eD l.length eC),(1,I limit),(5,I ((i1:Nat):Int)),(40,.bool ((decide (y1 < 0)||decide (limit≤y1))||(decide (0 < ((i1:Nat):Int))&&decide (y1≤(nthI l (((i1:Nat):Int) - 1))))))] (fun e=>?_) (fun hk1=>?_)
   rotate_left
   ·refine fd ([]) mixed kr jn (fun dU _=>(qA [0,1] U (eJ 2 (enc:=fun y=>[I y]) dU jn (fun _ _ _ e=>e) cN ty3 hl.1 (nthZ aM) (aV aM) U U U U kr (fun q3 A3=>?_))))
    refine tf 3 U U (fun _ _ hj=>fK ty3 (A3.mono hj.1) U) (qA [4,5] U ?_)
    refine dM 17 U (fun c1=>?_) (fun c1=>?_)
    ·have c1p:=of_decide_eq_true c1
     refine qR 6 23 U (bv kr ?_)
     exact hk1 _ ⟨U,U,U,(cb (show true=((decide (y1 < 0)||decide (limit≤y1))||(decide (0 < ((i1:Nat):Int))&&decide (y1≤(nthI l (((i1:Nat):Int) - 1))))) from by rw [c1] <;> rfl)),trivial⟩
    ·have c1p:=of_decide_eq_false c1
     refine qA [6,7] U (eJ 8 (enc:=fun y=>[I y]) dU jn (fun _ _ _ e=>e) cN ty3 hl.1 (nthZ aM) (aV aM) U U U U kr (fun q4 A4=>?_))
     refine tf 9 U U (fun _ _ hj=>fK ty3 (A4.mono hj.1) U) (qR 10 4 U ?_)
     refine dM 25 U (fun c2=>?_) (fun c2=>?_)
     ·have c2p:=of_decide_eq_true c2
      refine qR 14 15 U (bv kr ?_)
      exact hk1 _ ⟨U,U,U,(cb (show true=((decide (y1 < 0)||decide (limit≤y1))||(decide (0 < ((i1:Nat):Int))&&decide (y1≤(nthI l (((i1:Nat):Int) - 1))))) from by rw [c1,c2] <;> rfl)),trivial⟩
     ·have c2p:=of_decide_eq_false c2
      refine qR 14 3 U ?_
      refine dM 28 U (fun c3=>?_) (fun c3=>?_)
      ·have c3p:=of_decide_eq_true c3
       refine qA [17,18] U (eJ 19 (enc:=fun y=>[I y]) dU jn (fun _ _ _ e=>e) cN ty3 hl.1 (nthZ aM) (aV aM) U U U U kr (fun q5 A5=>?_))
       refine tf 20 U U (fun _ _ hj=>fK ty3 (A5.mono hj.1) U) (qA [21,22] U ?_)
       refine tf 23 U U (fun _ _ _=>nF (v':=I (((i1:Nat):Int) - 1)) U (im ob)) ?_
       have ho1:0≤((((i1:Nat):Int) - 1):Int)∧((((i1:Nat):Int) - 1):Int) < ((l).length:Int):=ob
       refine eJ 24 (enc:=fun y=>[I y]) dU jn (fun _ _ _ e=>e) cN ty3 hl.1 ho1 (df ho1) U U U U kr (fun q6 A6=>tf 25 U U (fun _ _ hj=>fK ty3 (A6.mono hj.1) U) (qR 26 3 U ?_))
       refine bv kr ?_
       exact hk1 _ ⟨U,U,U,(cb (show decide (y1≤(nthI l (((i1:Nat):Int) - 1)))=((decide (y1 < 0)||decide (limit≤y1))||(decide (0 < ((i1:Nat):Int))&&decide (y1≤(nthI l (((i1:Nat):Int) - 1))))) from by rw [c1,c2,c3] <;> rfl)),trivial⟩
      ·have c3p:=of_decide_eq_false c3
       refine qR 17 12 U ?_
       refine bv kr ?_
       exact hk1 _ ⟨U,U,U,(cb (show false=((decide (y1 < 0)||decide (limit≤y1))||(decide (0 < ((i1:Nat):Int))&&decide (y1≤(nthI l (((i1:Nat):Int) - 1))))) from by rw [c1,c2,c3] <;> rfl)),trivial⟩
   refine ak hs3 U (fun c4 hs5=>?_) (fun c4 hs6=>?_)
   ·refine qT 4 U ?_
    exact ah [.bool false] Tryz.func192 U hX rd (cs hs5)
   ·refine qT 4 U (ai (v':=I (((i1+1):Nat):Int)) U (bz ob) (an ?_))
    exact ag1 ((i1+1),rz1) _ (Nat.lt_succ_self _) ⟨ba hd1,aE hd1,hs6⟩ rd
open Go.Proofs
set_option maxHeartbeats 2000000
theorem yh (h:HF) (d:Document) (uv:il) (hd:Document.ok h d uv):Ret Tryz.prog 117 [.agg (Document.cells d uv).toArray] h (.bool (gV d)):=by
 refine ae Tryz.func117 U Tryz.ntmps117 U fun X hM hX=>?_
 have hs0:gV d=gV d:=rfl
 refine sr (dt (fun b1=>qO 5 U (aj ka U (aI 0 ty3 U U U (qO 2 U ?_)))))
 refine ar 4 [6,7,8,9,10] 10 (.bool (decide (d.No < 0)||decide (4096≤d.No))) (fun hk1=>?_) (fun e=>?_)
 ·refine ac 6 U (fun c1=>?_) (fun c1=>?_)
  ·refine qO 4 U ?_
   exact hk1 _ (cb (dW c1))
  ·refine aj ka U (aI 0 ty3 U U U (qO 2 U ?_))
   exact hk1 _ (cb (dX c1))
 refine aB ?_
 refine ar 5 [11,12,13,14,15,16] 16 (.bool ((decide (d.No < 0)||decide (4096≤d.No))||(!(jH d.At)))) (fun hk2=>?_) (fun e=>?_)
 ·refine ac 11 U (fun c2=>?_) (fun c2=>?_)
  ·refine qO 5 U ?_
   exact hk2 _ (cb (dW c2))
  ·refine aj nf U (aI 0 ty3 U U U (au (v:=.bool (jH d.At)) Tryz.call191 (zB h d.At ) U (qO 2 U ?_)))
   exact hk2 _ (cb (dX c2))
 refine aB ?_
 refine ar 4 [17,18,19,20,21] 21 (.bool (((decide (d.No < 0)||decide (4096≤d.No))||(!(jH d.At)))||decide (d.Kind < 0))) (fun hk3=>?_) (fun e=>?_)
 ·refine ac 17 U (fun c3=>?_) (fun c3=>?_)
  ·refine qO 4 U ?_
   exact hk3 _ (cb (dW c3))
  ·refine aj vh U (aI 0 ty3 U U U (qO 2 U ?_))
   exact hk3 _ (cb (dX c3))
 refine aB ?_
 refine ar 4 [22,23,24,25,26] 26 (.bool ((((decide (d.No < 0)||decide (4096≤d.No))||(!(jH d.At)))||decide (d.Kind < 0))||decide (16≤d.Kind))) (fun hk4=>?_) (fun e=>?_)
 ·refine ac 22 U (fun c4=>?_) (fun c4=>?_)
  ·refine qO 4 U ?_
   exact hk4 _ (cb (dW c4))
  ·refine aj vh U (aI 0 ty3 U U U (qO 2 U ?_))
   exact hk4 _ (cb (dX c4))
 refine aB ?_
 refine ar 4 [27,28,29,30,31] 31 (.bool (((((decide (d.No < 0)||decide (4096≤d.No))||(!(jH d.At)))||decide (d.Kind < 0))||decide (16≤d.Kind))||decide (d.Value < 0))) (fun hk5=>?_) (fun e=>?_)
 ·refine ac 27 U (fun c5=>?_) (fun c5=>?_)
  ·refine qO 4 U ?_
   exact hk5 _ (cb (dW c5))
  ·refine aj vg U (aI 0 ty3 U U U (qO 2 U ?_))
   exact hk5 _ (cb (dX c5))
 refine aB ?_
 refine ar 4 [32,33,34,35,36] 36 (.bool ((((((decide (d.No < 0)||decide (4096≤d.No))||(!(jH d.At)))||decide (d.Kind < 0))||decide (16≤d.Kind))||decide (d.Value < 0))||decide (1099511627776 < d.Value))) (fun hk6=>?_) (fun e=>?_)
 ·refine ac 32 U (fun c6=>?_) (fun c6=>?_)
  ·refine qO 4 U ?_
   exact hk6 _ (cb (dW c6))
  ·refine aj vg U (aI 0 ty3 U U U (qO 2 U ?_))
   exact hk6 _ (cb (dX c6))
 refine bh ?_
 refine ak hs0 U (fun c7 hs1=>?_) (fun c7 hs2=>?_)
 ·refine qT 4 U ?_
  exact ah [.bool false] Tryz.func117 U hX rd (cs hs1)
 ·refine qT 3 U (aj xw U (aI 0 ty3 U U U (qO 2 U ?_)))
  refine ar 6 [40,41,42,43,44,45,46] 46 (.bool (decide (0≤d.From)&&decide (d.From < d.Until))) (fun hk7=>?_) (fun e=>?_)
  ·refine ac 40 U (fun c8=>?_) (fun c8=>?_)
   ·refine aj xw U (aI 0 ty3 U U U (aj s9 U (aI 0 ty3 U U U (qO 2 U ?_))))
    exact hk7 _ (cb (cB c8))
   ·refine qO 6 U ?_
    exact hk7 _ (cb (cC c8))
  refine aB ?_
  refine ar 4 [47,48,49,50,51] 51 (.bool ((decide (0≤d.From)&&decide (d.From < d.Until))&&decide (d.Until≤1099511627776))) (fun hk8=>?_) (fun e=>?_)
  ·refine ac 47 U (fun c9=>?_) (fun c9=>?_)
   ·refine aj s9 U (aI 0 ty3 U U U (qO 2 U ?_))
    exact hk8 _ (cb (cB c9))
   ·refine qO 4 U ?_
    exact hk8 _ (cb (cC c9))
  refine aB ?_
  refine ar 4 [52,53,54,55,56] 56 (.bool (((decide (0≤d.From)&&decide (d.From < d.Until))&&decide (d.Until≤1099511627776))&&(ed d.Parties 1048577))) (fun hk9=>?_) (fun e=>?_)
  ·refine ac 52 U (fun c10=>?_) (fun c10=>?_)
   ·refine aj xu U (aI 0 ty31 U U U (au (v:=.bool (ed d.Parties 1048577)) Tryz.call192 (pC h d.Parties uv.m4 uv.mZ 1048577 hd.Parties) U (eH U ?_)))
    exact hk9 _ (cb (cB c10))
   ·refine qO 4 U ?_
    exact hk9 _ (cb (cC c10))
  refine aB ?_
  refine ar 6 [57,58,59,60,61,62,63] 63 (.bool ((((decide (0≤d.From)&&decide (d.From < d.Until))&&decide (d.Until≤1099511627776))&&(ed d.Parties 1048577))&&(ed d.Revokes d.No))) (fun hk10=>?_) (fun e=>?_)
  ·refine ac 57 U (fun c11=>?_) (fun c11=>?_)
   ·refine aj s8 U (aI 0 ty31 U U U (aj ka U (aI 0 ty3 U U U (au (v:=.bool (ed d.Revokes d.No)) Tryz.call192 (pC h d.Revokes uv.ly uv.lx d.No hd.Revokes) U (eH U ?_)))))
    exact hk10 _ (cb (cB c11))
   ·refine qO 6 U ?_
    exact hk10 _ (cb (cC c11))
  refine aB ?_
  refine ar 6 [64,65,66,67,68,69,70] 70 (.bool (((((decide (0≤d.From)&&decide (d.From < d.Until))&&decide (d.Until≤1099511627776))&&(ed d.Parties 1048577))&&(ed d.Revokes d.No))&&(ed d.Needs d.No))) (fun hk11=>?_) (fun e=>?_)
  ·refine ac 64 U (fun c12=>?_) (fun c12=>?_)
   ·refine aj s6 U (aI 0 ty31 U U U (aj ka U (aI 0 ty3 U U U (au (v:=.bool (ed d.Needs d.No)) Tryz.call192 (pC h d.Needs uv.nZ uv.nY d.No hd.Needs) U (eH U ?_)))))
    exact hk11 _ (cb (cB c12))
   ·refine qO 6 U ?_
    exact hk11 _ (cb (cC c12))
  refine an ?_
  exact ah [.bool (((((decide (0≤d.From)&&decide (d.From < d.Until))&&decide (d.Until≤1099511627776))&&(ed d.Parties 1048577))&&(ed d.Revokes d.No))&&(ed d.Needs d.No))] Tryz.func117 U hX rd (cs hs2)
theorem zC (h:HF) (l:(List Document)) (eD:Option Addr) (eC:Nat) (no:Int) (hl:SlC Document.rp h eD eC l):Ret Tryz.prog 193 [.slice eD l.length eC,I no] h (I (fQ l no)):=by
 refine ae Tryz.func193 U Tryz.ntmps193 U fun X hM hX=>?_
 have hs0:fQ l no=fQ l no:=rfl
 refine qT 9 U ?_
 refine aU (ι:=Nat) (fun i=>[]) (fun i=>h) (fun i=>[]) (fun i=>i≤l.length∧fQ l no=((fQ.K1))) ?_ (fun hx1=>?_)
 ·rintro i1 ⟨aP,hs1⟩ e
  try dsimp only at aP
  refine qT 4 U ?_
  exact ah [I (-1)] Tryz.func193 U hX rd (ci hs1)
 ·refine bG (ι:=Nat×List Document) (fun i=>[(0,.slice eD l.length eC),(1,I no),(5,I ((i.1:Nat):Int))]) (fun i=>h) (fun i=>[]) (fun i=>l.drop i.1=i.2∧i.1≤l.length∧fQ l no=((fQ.L1 no (fQ.K1)) i.2 i.1)) (fun i=>i.2.length) (0,l) rd sw ⟨U,Nat.zero_le _,hs0⟩ ?_
  rintro ⟨i1,s1⟩ ⟨hd1,aP,hs3⟩ ag1 e
  try dsimp only at hd1 aP
  rcases s1 with _ | ⟨y1,rz1⟩
  ·have dr:=cw hd1
   refine qT 5 U (a8 lC U (ai (v':=.bool false) U (cb dr) (qO 3 U ?_)))
   exact hx1 i1 _ ⟨aP,hs3⟩ trivial
  ·have dq:=dy hd1
   have aM:=cA hd1
   have ey:=aE hd1
   have gi:=hl.1.1
   refine qT 5 U (a8 lC U (ai (v':=.bool true) U (cb dq) (qO 9 U (aN (fF lC ty52 hl.1 (nthZ aM) (aV aM) U U U (fun q2 cs2 A2 ln2 rr2=>?_))))))
   obtain ⟨r2,rfl,ok2⟩:=rr2
   refine aj ka U (dv ty3 A2 U (qO 3 U ?_))
   refine ak hs3 U (fun c2 hs5=>?_) (fun c2 hs6=>?_)
   ·refine qT 5 U ?_
    exact ah [I ((i1:Nat):Int)] Tryz.func193 U hX rd (ci hs5)
   ·refine qT 4 U (ai (v':=I (((i1+1):Nat):Int)) U (bz ob) (an ?_))
    exact ag1 ((i1+1),rz1) _ (Nat.lt_succ_self _) ⟨ba hd1,aE hd1,hs6⟩ rd
theorem mv (h:HF) (l:(List Document)) (eD:Option Addr) (eC:Nat) (nos:(List Int)) (HC:Option Addr) (HB:Nat) (hl:SlC Document.rp h eD eC l) (hnos:SlC Rp.int h HC HB nos):Ret Tryz.prog 118 [.slice eD l.length eC,.slice HC nos.length HB] h (.bool (cW l nos)):=by
 refine ae Tryz.func118 U Tryz.ntmps118 U fun X hM hX=>?_
 have hs0:cW l nos=cW l nos:=rfl
 refine qT 9 U ?_
 refine aU (ι:=Nat) (fun i=>[]) (fun i=>h) (fun i=>[]) (fun i=>i≤nos.length∧cW l nos=((cW.K1))) ?_ (fun hx1=>?_)
 ·rintro i1 ⟨aP,hs1⟩ e
  try dsimp only at aP
  refine qT 4 U ?_
  exact ah [.bool true] Tryz.func118 U hX rd (cs hs1)
 ·refine bG (ι:=Nat×List Int) (fun i=>[(0,.slice eD l.length eC),(1,.slice HC nos.length HB),(5,I ((i.1:Nat):Int))]) (fun i=>h) (fun i=>[]) (fun i=>nos.drop i.1=i.2∧i.1≤nos.length∧cW l nos=((cW.L1 l (cW.K1)) i.2 )) (fun i=>i.2.length) (0,nos) rd sw ⟨U,Nat.zero_le _,hs0⟩ ?_
  rintro ⟨i1,s1⟩ ⟨hd1,aP,hs3⟩ ag1 e
  try dsimp only at hd1 aP
  rcases s1 with _ | ⟨y1,rz1⟩
  ·have dr:=cw hd1
   refine qT 5 U (a8 cN U (ai (v':=.bool false) U (cb dr) (qO 3 U ?_)))
   exact hx1 i1 _ ⟨aP,hs3⟩ trivial
  ·have dq:=dy hd1
   have aM:=cA hd1
   have ey:=aE hd1
   have gi:=hnos.1.1
   refine qT 5 U (a8 cN U (ai (v':=.bool true) U (cb dq) (qO 10 U (aN (eU (enc:=fun y=>[I y]) (fun _ _ _ e=>e) cN ty3 hnos.1 (nthZ aM) (aV aM) U U U (fun q2 A2=>?_))))))
   refine dv ty3 A2 U (au (v:=I (fQ l y1)) Tryz.call193 (zC h l eD eC y1 hl) U (qO 2 U ?_))
   refine ak hs3 U (fun c2 hs5=>?_) (fun c2 hs6=>?_)
   ·have c2p:=of_decide_eq_true c2
    refine qT 4 U ?_
    exact ah [.bool false] Tryz.func118 U hX rd (cs hs5)
   ·have c2p:=of_decide_eq_false c2
    refine qT 4 U (ai (v':=I (((i1+1):Nat):Int)) U (bz ob) (an ?_))
    exact ag1 ((i1+1),rz1) _ (Nat.lt_succ_self _) ⟨ba hd1,aE hd1,hs6⟩ rd
theorem yi (h:HF) (l:(List Document)) (eD:Option Addr) (eC:Nat) (hl:SlC Document.rp h eD eC l):Ret Tryz.prog 72 [.slice eD l.length eC] h (I (e7 l)):=by
 refine ae D1 U Tryz.ntmps72 U fun X hM hX=>?_
 have hs0:e7 l=e7 l:=rfl
 refine qT 8 U (a8 lC U (qO 2 U ?_))
 refine ak hs0 U (fun c1 hs1=>?_) (fun c1 hs2=>?_)
 ·have c1p:=of_decide_eq_true c1
  refine qT 4 U ?_
  exact ah [I 2] D1 U hX rd (ci hs1)
 ·have c1p:=of_decide_eq_false c1
  refine qT 6 U ?_
  refine aU (ι:=Nat) (fun i=>[]) (fun i=>h) (fun i=>[]) (fun i=>i≤l.length∧e7 l=((e7.K1))) ?_ (fun hx1=>?_)
  ·rintro i1 ⟨aP,hs4⟩ e
   try dsimp only at aP
   refine qT 4 U ?_
   exact ah [I 0] D1 U hX rd (ci hs4)
  ·refine bG (ι:=Nat×List Document) (fun i=>[(0,.slice eD l.length eC),(3,I ((i.1:Nat):Int))]) (fun i=>h) (fun i=>[]) (fun i=>l.drop i.1=i.2∧i.1≤l.length∧e7 l=((e7.L1 l (e7.K1)) i.2 i.1)) (fun i=>i.2.length) (0,l) rd sw ⟨U,Nat.zero_le _,hs2⟩ ?_
   rintro ⟨i1,s1⟩ ⟨hd1,aP,hs6⟩ ag1 e
   try dsimp only at hd1 aP
   rcases s1 with _ | ⟨y1,rz1⟩
   ·have dr:=cw hd1
    refine qT 5 U (a8 lC U (ai (v':=.bool false) U (cb dr) (qO 3 U ?_)))
    exact hx1 i1 _ ⟨aP,hs6⟩ trivial
   ·have dq:=dy hd1
    have aM:=cA hd1
    have ey:=aE hd1
    have gi:=hl.1.1
    refine qT 5 U (a8 lC U (ai (v':=.bool true) U (cb dq) (qO 6 U ?_)))
    refine lX [(0,.slice eD l.length eC),(3,I ((i1:Nat):Int)),(56,.bool ((((!(gV y1))||(decide (0 < ((i1:Nat):Int))&&decide (y1.No≤(nthI l (((i1:Nat):Int) - 1)).No)))||(!(cW l y1.Revokes)))||(!(cW l y1.Needs))))] (fun e=>?_) (fun hk1=>?_)
    rotate_left
    ·refine fd ([]) mixed kr jn (fun dU _=>(qA [0,1] U (io 2 dU jn lC ty52 hl.1 (nthZ aM) (aV aM) U U U U kr (fun q4 cs4 A4 ln4 rr4=>?_))))
     obtain ⟨r4,rfl,ok4⟩:=rr4
     refine tf 3 U U (fun _ _ hj=>jK ty52 (A4.mono hj.1) U U) (tn 4 U (fB (v:=.bool (gV y1)) Tryz.call117 (yh h y1 r4 ok4) U (⟨jn,(qA [5,6] U ?_)⟩)))
     refine dM 19 U (fun c2=>?_) (fun c2=>?_)
     ·refine qR 7 37 U (bv kr ?_)
      exact hk1 _ ⟨U,U,(cb (show true=((((!(gV y1))||(decide (0 < ((i1:Nat):Int))&&decide (y1.No≤(nthI l (((i1:Nat):Int) - 1)).No)))||(!(cW l y1.Revokes)))||(!(cW l y1.Needs))) from by rw [c2] <;> rfl)),trivial⟩
     ·refine qR 7 3 U ?_
      refine dM 22 U (fun c3=>?_) (fun c3=>?_)
      ·have c3p:=of_decide_eq_true c3
       refine qA [10,11] U (io 12 dU jn lC ty52 hl.1 (nthZ aM) (aV aM) U U U U kr (fun q5 cs5 A5 ln5 rr5=>?_))
       obtain ⟨r5,rfl,ok5⟩:=rr5
       refine tf 13 U U (fun _ _ _=>dx ka U) (tf 14 U U (fun _ _ hj=>fK ty3 (A5.mono hj.1) U) (qA [15,16] U (tf 17 U U (fun _ _ _=>nF (v':=I (((i1:Nat):Int) - 1)) U (im ob)) ?_)))
       have ho2:0≤((((i1:Nat):Int) - 1):Int)∧((((i1:Nat):Int) - 1):Int) < ((l).length:Int):=ob
       refine io 18 dU jn lC ty52 hl.1 ho2 (df ho2) U U U U kr (fun q6 cs6 A6 ln6 rr6=>?_)
       obtain ⟨r6,rfl,ok6⟩:=rr6
       refine tf 19 U U (fun _ _ _=>dx ka U) (tf 20 U U (fun _ _ hj=>fK ty3 (A6.mono hj.1) U) (qR 21 4 U ?_))
       refine dM 37 U (fun c4=>?_) (fun c4=>?_)
       ·have c4p:=of_decide_eq_true c4
        refine qR 25 19 U ?_
        refine bv kr ?_
        exact hk1 _ ⟨U,U,(cb (show true=((((!(gV y1))||(decide (0 < ((i1:Nat):Int))&&decide (y1.No≤(nthI l (((i1:Nat):Int) - 1)).No)))||(!(cW l y1.Revokes)))||(!(cW l y1.Needs))) from by rw [c2,c3,c4] <;> rfl)),trivial⟩
       ·have c4p:=of_decide_eq_false c4
        refine qR 25 3 U ?_
        refine io 28 dU jn lC ty52 hl.1 (nthZ aM) (aV aM) U U U U kr (fun q7 cs7 A7 ln7 rr7=>?_)
        obtain ⟨r7,rfl,ok7⟩:=rr7
        refine tf 29 U U (fun _ _ _=>dx s8 U) (tf 30 U U (fun _ _ hj=>nJ 7 ty31 (A7.mono hj.1) U U) (tn 31 U ?_))
        refine fB (v:=.bool (cW l y1.Revokes)) D0 (mv h l eD eC y1.Revokes r7.ly r7.lx hl ok7.Revokes) U (⟨jn,(qR 32 3 U ?_)⟩)
        refine dM 47 U (fun c5=>?_) (fun c5=>?_)
        ·refine qR 35 9 U (bv kr ?_)
         exact hk1 _ ⟨U,U,(cb (show true=((((!(gV y1))||(decide (0 < ((i1:Nat):Int))&&decide (y1.No≤(nthI l (((i1:Nat):Int) - 1)).No)))||(!(cW l y1.Revokes)))||(!(cW l y1.Needs))) from by rw [c2,c3,c4,c5] <;> rfl)),trivial⟩
        ·refine qR 35 3 U ?_
         refine io 38 dU jn lC ty52 hl.1 (nthZ aM) (aV aM) U U U U kr (fun q8 cs8 A8 ln8 rr8=>?_)
         obtain ⟨r8,rfl,ok8⟩:=rr8
         refine tf 39 U U (fun _ _ _=>dx s6 U) (tf 40 U U (fun _ _ hj=>nJ 8 ty31 (A8.mono hj.1) U U) (tn 41 U ?_))
         refine fB (v:=.bool (cW l y1.Needs)) D0 (mv h l eD eC y1.Needs r8.nZ r8.nY hl ok8.Needs) U (⟨jn,(qA [42,43] U (bv kr ?_))⟩)
         exact hk1 _ ⟨U,U,(cb (show (!(cW l y1.Needs))=((((!(gV y1))||(decide (0 < ((i1:Nat):Int))&&decide (y1.No≤(nthI l (((i1:Nat):Int) - 1)).No)))||(!(cW l y1.Revokes)))||(!(cW l y1.Needs))) from by rw [c2,c3,c4,c5] <;> rfl)),trivial⟩
      ·have c3p:=of_decide_eq_false c3
       refine qR 10 18 U ?_
       refine io 28 dU jn lC ty52 hl.1 (nthZ aM) (aV aM) U U U U kr (fun q9 cs9 A9 ln9 rr9=>?_)
       obtain ⟨r9,rfl,ok9⟩:=rr9
       refine tf 29 U U (fun _ _ _=>dx s8 U) (tf 30 U U (fun _ _ hj=>nJ 7 ty31 (A9.mono hj.1) U U) (tn 31 U ?_))
       refine fB (v:=.bool (cW l y1.Revokes)) D0 (mv h l eD eC y1.Revokes r9.ly r9.lx hl ok9.Revokes) U (⟨jn,(qR 32 3 U ?_)⟩)
       refine dM 47 U (fun c6=>?_) (fun c6=>?_)
       ·refine qR 35 9 U (bv kr ?_)
        exact hk1 _ ⟨U,U,(cb (show true=((((!(gV y1))||(decide (0 < ((i1:Nat):Int))&&decide (y1.No≤(nthI l (((i1:Nat):Int) - 1)).No)))||(!(cW l y1.Revokes)))||(!(cW l y1.Needs))) from by rw [c2,c3,c6] <;> rfl)),trivial⟩
       ·refine qR 35 3 U ?_
        refine io 38 dU jn lC ty52 hl.1 (nthZ aM) (aV aM) U U U U kr (fun q10 cs10 A10 ln10 rr10=>?_)
        obtain ⟨r10,rfl,ok10⟩:=rr10
        refine tf 39 U U (fun _ _ _=>dx s6 U) (tf 40 U U (fun _ _ hj=>nJ 8 ty31 (A10.mono hj.1) U U) (tn 41 U ?_))
        refine fB (v:=.bool (cW l y1.Needs)) D0 (mv h l eD eC y1.Needs r10.nZ r10.nY hl ok10.Needs) U (⟨jn,(qA [42,43] U (bv kr ?_))⟩)
        exact hk1 _ ⟨U,U,(cb (show (!(cW l y1.Needs))=((((!(gV y1))||(decide (0 < ((i1:Nat):Int))&&decide (y1.No≤(nthI l (((i1:Nat):Int) - 1)).No)))||(!(cW l y1.Revokes)))||(!(cW l y1.Needs))) from by rw [c2,c3,c6] <;> rfl)),trivial⟩
    refine ak hs6 U (fun c7 hs8=>?_) (fun c7 hs9=>?_)
    ·refine qT 4 U ?_
     exact ah [I 170] D1 U hX rd (ci hs8)
    ·refine qT 4 U (ai (v':=I (((i1+1):Nat):Int)) U (bz ob) (an ?_))
     exact ag1 ((i1+1),rz1) _ (Nat.lt_succ_self _) ⟨ba hd1,aE hd1,hs9⟩ rd
theorem jN (h:HF) (dL:Int) (most:Int)  : Ret Tryz.prog 194 [I dL,I most] h (.bool (dI dL most)):=by
 refine ae Tryz.func194 U Tryz.ntmps194 U fun X hM hX=>?_
 have hs0:dI dL most=dI dL most:=rfl
 refine qT 9 U ?_
 refine ar 4 [7,8,9,10,11] 11 (.bool (decide (0≤dL)&&decide (dL≤most))) (fun hk1=>?_) (fun e=>?_)
 ·refine ac 7 U (fun c1=>?_) (fun c1=>?_)
  ·refine qO 4 U ?_
   exact hk1 _ (cb (cB c1))
  ·refine qO 4 U ?_
   exact hk1 _ (cb (cC c1))
 refine an ?_
 exact ah [.bool (decide (0≤dL)&&decide (dL≤most))] Tryz.func194 U hX rd (cs hs0)
theorem tI (h:HF) (dL:Int)  : Ret Tryz.prog 195 [I dL] h (.bool (iU dL)):=by
 refine ae Tryz.func195 U Tryz.ntmps195 U fun X hM hX=>?_
 have hs0:iU dL=iU dL:=rfl
 refine qT 7 U (au (v:=.bool (dI dL 1099511627775)) BZ (jN h dL 1099511627775 ) U (an ?_))
 exact ah [.bool (dI dL 1099511627775)] Tryz.func195 U hX rd (cs hs0)
theorem Bf (h:HF) (dL:Int)  : Ret Tryz.prog 196 [I dL] h (.bool (mT dL)):=by
 refine ae Tryz.func196 U Tryz.ntmps196 U fun X hM hX=>?_
 have hs0:mT dL=mT dL:=rfl
 refine qT 7 U (au (v:=.bool (dI dL 4095)) BZ (jN h dL 4095 ) U (an ?_))
 exact ah [.bool (dI dL 4095)] Tryz.func196 U hX rd (cs hs0)
theorem xX (h:HF) (x:Approval)  : Ret Tryz.prog 119 [.agg (Approval.cells x).toArray] h (.bool (gT x)):=by
 refine ae Tryz.func119 U Tryz.ntmps119 U fun X hM hX=>?_
 have hs0:gT x=gT x:=rfl
 refine sr (dt (fun b1=>qO 5 U (aj qi U (aI 0 ty3 U U U (au (v:=.bool (dI x.No 1048576)) BZ (jN h x.No 1048576 ) U (qO 2 U ?_))))))
 refine ar 5 [7,8,9,10,11,12] 12 (.bool ((!(dI x.No 1048576))||(!(iU x.At)))) (fun hk1=>?_) (fun e=>?_)
 ·refine ac 7 U (fun c1=>?_) (fun c1=>?_)
  ·refine qO 5 U ?_
   exact hk1 _ (cb (dW c1))
  ·refine aj Dx U (aI 0 ty3 U U U (au (v:=.bool (iU x.At)) Tryz.call195 (tI h x.At ) U (qO 2 U ?_)))
   exact hk1 _ (cb (dX c1))
 refine aB ?_
 refine ar 5 [13,14,15,16,17,18] 18 (.bool (((!(dI x.No 1048576))||(!(iU x.At)))||(!(iU x.Known)))) (fun hk2=>?_) (fun e=>?_)
 ·refine ac 13 U (fun c2=>?_) (fun c2=>?_)
  ·refine qO 5 U ?_
   exact hk2 _ (cb (dW c2))
  ·refine aj Dw U (aI 0 ty3 U U U (au (v:=.bool (iU x.Known)) Tryz.call195 (tI h x.Known ) U (qO 2 U ?_)))
   exact hk2 _ (cb (dX c2))
 refine aB ?_
 refine ar 5 [19,20,21,22,23,24] 24 (.bool ((((!(dI x.No 1048576))||(!(iU x.At)))||(!(iU x.Known)))||(!(mT x.Doc)))) (fun hk3=>?_) (fun e=>?_)
 ·refine ac 19 U (fun c3=>?_) (fun c3=>?_)
  ·refine qO 5 U ?_
   exact hk3 _ (cb (dW c3))
  ·refine aj Dv U (aI 0 ty3 U U U (au (v:=.bool (mT x.Doc)) Tryz.call196 (Bf h x.Doc ) U (qO 2 U ?_)))
   exact hk3 _ (cb (dX c3))
 refine bh ?_
 refine ak hs0 U (fun c4 hs1=>?_) (fun c4 hs2=>?_)
 ·refine qT 4 U ?_
  exact ah [.bool false] Tryz.func119 U hX rd (cs hs1)
 ·refine qT 3 U (aj Du U (aI 0 ty3 U U U (au (v:=.bool (dI x.By 63)) BZ (jN h x.By 63 ) U (aB ?_))))
  refine ar 4 [28,29,30,31,32] 32 (.bool ((dI x.By 63)&&(dI x.For 63))) (fun hk4=>?_) (fun e=>?_)
  ·refine ac 28 U (fun c5=>?_) (fun c5=>?_)
   ·refine aj Dt U (aI 0 ty3 U U U (au (v:=.bool (dI x.For 63)) BZ (jN h x.For 63 ) U (eH U ?_)))
    exact hk4 _ (cb (cB c5))
   ·refine qO 4 U ?_
    exact hk4 _ (cb (cC c5))
  refine aB ?_
  refine ar 4 [33,34,35,36,37] 37 (.bool (((dI x.By 63)&&(dI x.For 63))&&(dI x.Office 31))) (fun hk5=>?_) (fun e=>?_)
  ·refine ac 33 U (fun c6=>?_) (fun c6=>?_)
   ·refine aj Ds U (aI 0 ty3 U U U (au (v:=.bool (dI x.Office 31)) BZ (jN h x.Office 31 ) U (eH U ?_)))
    exact hk5 _ (cb (cB c6))
   ·refine qO 4 U ?_
    exact hk5 _ (cb (cC c6))
  refine an ?_
  exact ah [.bool (((dI x.By 63)&&(dI x.For 63))&&(dI x.Office 31))] Tryz.func119 U hX rd (cs hs2)
end Go.Sg
