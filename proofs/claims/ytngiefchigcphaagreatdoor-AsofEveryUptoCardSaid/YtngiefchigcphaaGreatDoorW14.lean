import Derived.Test.YtngiefchigcphaaGreatDoorW1
import Derived.Test.YtngiefchigcphaaGreatDoorW2
import Derived.Test.YtngiefchigcphaaGreatDoorW3
import Derived.Test.YtngiefchigcphaaGreatDoorW4
import Derived.Test.YtngiefchigcphaaGreatDoorW5
import Derived.Test.YtngiefchigcphaaGreatDoorW6
import Derived.Test.YtngiefchigcphaaGreatDoorW13
/- A part of the proof of the law AsofEvery: where what it reads holds at most 1048576 values and letters, the call returns true and its arguments read as they did. Conditions: that bound, and that the listed table starts as the program lays it. -/
set_option linter.unusedVariables false
set_option linter.unusedSimpArgs false
namespace Go.Sg
open Go.Proofs
set_option maxHeartbeats 2000000
set_option maxRecDepth 100000
set_option linter.unusedVariables false
theorem su (h:HF) (s:ByteArray)  : Ret Tryz.prog 250 [.string s] h (.bool (jo s)):=by
 refine ay Tryz.func250 U Tryz.ntmps250 U fun X hM hX=>?_
 have hs0:jo s=jo s:=rfl
 refine sr (an (sr (aa (aG (v:=.bool (fE s)) Tryz.call268 (yg h s ) U (aa ?_)))))
 refine tq 4 [(9,.bool ((fE s)&&(!(kh s))))] (fun hk1=>?_) (fun e=>?_)
 ·refine ar 5 U (fun c1=>?_) (fun c1=>?_)
  ·refine aa (aG (v:=.bool (kh s)) Tryz.call269 (xY h s ) U (cV U (ah U ?_)))
   exact hk1 _ ⟨(cb (cW c1)),trivial⟩
  ·refine kq (bP (ah U ?_))
   exact hk1 _ ⟨(cb (cX c1)),trivial⟩
 refine an ?_
 exact aw [.bool ((fE s)&&(!(kh s)))] Tryz.func250 U hX rd (cs hs0)
theorem nI (h:HF) (l:(List ByteArray)) (eW:Option Addr) (eV:Nat) (s:ByteArray) (hl:SlC Rp.str h eW eV l):Ret Tryz.prog 254 [.slice eW l.length eV,.string s] h (I (dk l s)):=by
 refine ay Tryz.func254 U Tryz.ntmps254 U fun X hM hX=>?_
 have hs0:dk l s=dk l s:=rfl
 refine sr (an (ae (sr (an ?_))))
 refine br (ι:=Nat) (fun i=>[]) (fun i=>h) (fun i=>[]) (fun i=>i≤l.length∧dk l s=((dk.K1))) ?_ (fun hx1=>?_)
 ·rintro i1 ⟨bd,hs1⟩ e
  try dsimp only at bd
  try dsimp only
  refine sr (an ?_)
  exact aw [I (-1)] Tryz.func254 U hX rd (ci hs1)
 ·refine cp (ι:=Nat×List ByteArray) (fun i=>[(0,.slice eW l.length eV),(1,.string s),(5,I ((i.1:Nat):Int))]) (fun i=>h) (fun i=>[]) (fun i=>l.drop i.1=i.2∧i.1≤l.length∧dk l s=((dk.L1 s (dk.K1)) i.2 i.1)) (fun i=>i.2.length) (0,l) rd sw ⟨U,Nat.zero_le _,hs0⟩ ?_
  rintro ⟨i1,s1⟩ ⟨hd1,bd,hs3⟩ ag1 e
  try dsimp only at hd1 bd
  rcases s1 with _ | ⟨y1,rz1⟩
  ·have dI:=cU hd1
   try dsimp only
   refine ae (sr (aa (aa (bC kL U (aB (v':=.bool false) U (cb dI) (ac (bg U (bO U ?_))))))))
   exact hx1 i1 _ ⟨bd,hs3⟩ trivial
  ·have dH:=dY hd1
   have bh:=cY hd1
   have eT:=aT hd1
   have gx:=hl.1.1
   try dsimp only
   refine ae (sr (aa (aa (bC kL U (aB (v':=.bool true) U (cb dH) (ac (bn U (ao (ae (aW (sr (aa (aa (a8 (fQ (enc:=fun y=>[.string y]) (fun _ _ _ e=>e) kL ty9 hl.1 (nthZ bh) (bB bh) U U U (fun q2 A2=>?_))))))))))))))))
   refine eC ty9 A2 U (aa (aJ U (ac ?_)))
   refine aE U (fun c2=>?_) (fun c2=>?_)
   ·have hs5:=hs3.trans (bt c2)
    refine sr (aa (an ?_))
    exact aw [I ((i1:Nat):Int)] Tryz.func254 U hX rd (ci hs5)
   ·have hs7:=hs3.trans (bf c2)
    refine ao (av (ai (aa (aB (v':=I (((i1+1):Nat):Int)) U (bW ob) (an ?_)))))
    exact ag1 ((i1+1),rz1) _ (Nat.lt_succ_self _) ⟨bF hd1,aT hd1,hs7⟩ rd
theorem ou (h:HF) (l:(List ByteArray)) (eW:Option Addr) (eV:Nat) (hl:SlC Rp.str h eW eV l):Ret Tryz.prog 251 [.slice eW l.length eV] h (.bool (dV l)):=by
 refine ay Tryz.func251 U Tryz.ntmps251 U fun X hM hX=>?_
 have hs0:dV l=dV l:=rfl
 refine sr (an (ae (sr (an ?_))))
 refine br (ι:=Nat) (fun i=>[]) (fun i=>h) (fun i=>[]) (fun i=>i≤l.length∧dV l=((dV.K1))) ?_ (fun hx1=>?_)
 ·rintro i1 ⟨bd,hs1⟩ e
  try dsimp only at bd
  try dsimp only
  refine sr (an ?_)
  exact aw [.bool true] Tryz.func251 U hX rd (cs hs1)
 ·refine cp (ι:=Nat×List ByteArray) (fun i=>[(0,.slice eW l.length eV),(3,I ((i.1:Nat):Int))]) (fun i=>h) (fun i=>[]) (fun i=>l.drop i.1=i.2∧i.1≤l.length∧dV l=((dV.L1 l (dV.K1)) i.2 i.1)) (fun i=>i.2.length) (0,l) rd sw ⟨U,Nat.zero_le _,hs0⟩ ?_
  rintro ⟨i1,s1⟩ ⟨hd1,bd,hs3⟩ ag1 e
  try dsimp only at hd1 bd
  rcases s1 with _ | ⟨y1,rz1⟩
  ·have dI:=cU hd1
   try dsimp only
   refine ae (sr (aa (aa (bC kL U (aB (v':=.bool false) U (cb dI) (ac (bg U (bO U ?_))))))))
   exact hx1 i1 _ ⟨bd,hs3⟩ trivial
  ·have dH:=dY hd1
   have bh:=cY hd1
   have eT:=aT hd1
   have gx:=hl.1.1
   try dsimp only
   refine ae (sr (aa (aa (bC kL U (aB (v':=.bool true) U (cb dH) (ac (bn U (ao (ae (aW (sr (aa (aa (a8 (fQ (enc:=fun y=>[.string y]) (fun _ _ _ e=>e) kL ty9 hl.1 (nthZ bh) (bB bh) U U U (fun q3 A3=>?_))))))))))))))))
   refine eC ty9 A3 U (aG (v:=.bool (jo y1)) Tryz.call250 (su h y1 ) U (cV U (aa ?_)))
   refine tq 9 [(0,.slice eW l.length eV),(3,I ((i1:Nat):Int)),(25,.bool ((!(jo y1))||((dk l y1) != ((i1:Nat):Int))))] (fun hk1=>?_) (fun e=>?_)
   ·refine ar 16 U (fun c1=>?_) (fun c1=>?_)
    ·refine kq (kq (kq (kq (ah U ?_))))
     exact hk1 _ ⟨U,U,(cb (dL c1)),trivial⟩
    ·refine aa (aa (aa (a8 (fQ (enc:=fun y=>[.string y]) (fun _ _ _ e=>e) kL ty9 hl.1 (nthZ bh) (bB bh) U U U (fun q4 A4=>eC ty9 A4 U (aG (v:=I (dk l y1)) Tryz.call254 (nI h l eW eV y1 hl) U ?_))))))
     refine aa (aJ U (ah U ?_))
     exact hk1 _ ⟨U,U,(cb (dM c1)),trivial⟩
   refine ac ?_
   refine aE U (fun c2=>?_) (fun c2=>?_)
   ·have hs5:=hs3.trans (bt c2)
    refine sr (an ?_)
    exact aw [.bool false] Tryz.func251 U hX rd (cs hs5)
   ·have hs7:=hs3.trans (bf c2)
    refine ao (av (ai (aa (aB (v':=I (((i1+1):Nat):Int)) U (bW ob) (an ?_)))))
    exact ag1 ((i1+1),rz1) _ (Nat.lt_succ_self _) ⟨bF hd1,aT hd1,hs7⟩ rd
theorem vD (rec:(List ByteArray)→Expr→Bool) (h:HF) (offices:(List ByteArray)) (cB:Option Addr) (cA:Nat) (x:Expr) (fe:cI) (hrec:∀ (h:HF) (qoffices:(List ByteArray)) (iC:Option Addr) (iB:Nat) (qx:Expr) (jq:cI) (hqoffices:SlC Rp.str h iC iB qoffices) (hqx:Expr.ok h qx jq) (_:qx.dep < x.dep),Ret Tryz.prog 252 [.slice iC qoffices.length iB,.agg (Expr.cells qx jq).toArray] h (.bool (rec qoffices qx))) (hoffices:SlC Rp.str h cB cA offices) (hx:Expr.ok h x fe):Ret Tryz.prog 252 [.slice cB offices.length cA,.agg (Expr.cells x fe).toArray] h (.bool (cj.F rec offices x)):=by
 refine ay CB U Tryz.ntmps252 U fun X hM hX=>?_
 have hs0:cj.F rec offices x=cj.F rec offices x:=rfl
 refine sr (dy (fun b1=>an (ae (sr (az kE U (aO 0 ty3 U U U (aJ U (aa ?_))))))))
 refine tq 4 [(0,.slice cB offices.length cA),(3,Q b1),(13,.bool ((x.Kind==1)||(x.Kind==2)))] (fun hk1=>?_) (fun e=>?_)
 ·refine ar 9 U (fun c1=>?_) (fun c1=>?_)
  ·refine kq (bP (ah U ?_))
   exact hk1 _ ⟨U,U,(cb (dL c1)),trivial⟩
  ·refine az kE U (aO 0 ty3 U U U (aJ U (ah U ?_)))
   exact hk1 _ ⟨U,U,(cb (dM c1)),trivial⟩
 refine aa ?_
 refine tq 6 [(0,.slice cB offices.length cA),(3,Q b1),(20,.bool (((x.Kind==1)||(x.Kind==2))&&decide ((dk offices x.Name) < 0)))] (fun hk2=>?_) (fun e=>?_)
 ·refine ar 14 U (fun c2=>?_) (fun c2=>?_)
  ·refine aa (az mi U (aO 0 ty9 U U U (aG (v:=I (dk offices x.Name)) Tryz.call254 (nI h offices cB cA x.Name hoffices) U (aJ U (ah U ?_)))))
   exact hk2 _ ⟨U,U,(cb (cW c2)),trivial⟩
  ·refine kq (kq (bP (ah U ?_)))
   exact hk2 _ ⟨U,U,(cb (cX c2)),trivial⟩
 refine ac ?_
 refine aE U (fun c3=>?_) (fun c3=>?_)
 ·have hs1:=hs0.trans (bt c3)
  refine sr (an ?_)
  exact aw [.bool false] CB U hX rd (cs hs1)
 ·have hs3:=hs0.trans (bf c3)
  refine ao (ae (sr (an ?_)))
  refine br (ι:=Nat) (fun i=>[]) (fun i=>h) (fun i=>[(b1,O (Expr.cells x fe) 66)]) (fun i=>i≤x.L.length∧cj.F rec offices x=((cj.K1))) ?_ (fun hx1=>?_)
  ·rintro i1 ⟨bd,hs4⟩ e
   try dsimp only at bd
   try dsimp only
   refine sr (an ?_)
   exact aw [.bool true] CB U hX rd (cs hs4)
  ·refine cp (ι:=Nat×List Expr) (fun i=>[(0,.slice cB offices.length cA),(3,Q b1),(5,I ((i.1:Nat):Int))]) (fun i=>h) (fun i=>[(b1,O (Expr.cells x fe) 66)]) (fun i=>x.L.drop i.1=i.2∧i.1≤x.L.length∧cj.F rec offices x=((cj.L1 rec offices (cj.K1)) i.2 )) (fun i=>i.2.length) (0,x.L) rd sw ⟨U,Nat.zero_le _,hs3⟩ ?_
   rintro ⟨i1,s1⟩ ⟨hd1,bd,hs6⟩ ag1 e
   try dsimp only at hd1 bd
   rcases s1 with _ | ⟨y1,rz1⟩
   ·have dI:=cU hd1
    try dsimp only
    refine ae (sr (aa (az dE U (aO 0 ty64 U U U (bC fT U (aB (v':=.bool false) U (cb dI) (ac (bg U (bO U ?_)))))))))
    exact hx1 i1 _ ⟨bd,hs6⟩ trivial
   ·have dH:=dY hd1
    have bh:=cY hd1
    have eT:=aT hd1
    have gx:=hx.list.1.1
    try dsimp only
    refine ae (sr (aa (az dE U (aO 0 ty64 U U U (bC fT U (aB (v':=.bool true) U (cb dH) (ac (bn U (ao (ae (aW (sr (aa (az dE U ?_))))))))))))))
    refine aO 0 ty64 U U U (aa (a8 (gL fT ty66 hx.list.1 (nthZ bh) (bB bh) U U U (fun q2 cs2 A2 ln2 rr2=>?_))))
    obtain ⟨r2,rfl,ok2⟩:=rr2
    refine ed ty66 A2 U U (aG (v:=.bool (rec offices y1)) Tryz.call252 (hrec h offices cB cA y1 r2 hoffices ok2 (Expr.iq (gm hd1))) U (cV U (ac ?_)))
    refine aE U (fun c5=>?_) (fun c5=>?_)
    ·have hs8:=hs6.trans (bt c5)
     refine sr (an ?_)
     exact aw [.bool false] CB U hX rd (cs hs8)
    ·have hs10:=hs6.trans (bf c5)
     refine ao (av (ai (aa (aB (v':=I (((i1+1):Nat):Int)) U (bW ob) (an ?_)))))
     exact ag1 ((i1+1),rz1) _ (Nat.lt_succ_self _) ⟨bF hd1,aT hd1,hs10⟩ rd
theorem ot:∀ (m:Nat) (h:HF) (offices:(List ByteArray)) (cB:Option Addr) (cA:Nat) (x:Expr) (fe:cI) (_:x.dep≤m) (hoffices:SlC Rp.str h cB cA offices) (hx:Expr.ok h x fe),Ret Tryz.prog 252 [.slice cB offices.length cA,.agg (Expr.cells x fe).toArray] h (.bool (cj.go m offices x))
 | 0,h,offices,cB,cA,x,fe,hd,hoffices,hx=>absurd hd (Nat.not_le.2 (Expr.jR _))
 | m+1,h,offices,cB,cA,x,fe,hd,hoffices,hx=>vD (cj.go m) h offices cB cA x fe (fun qh_ qoffices iC iB qx jq qhoffices qhx qd=>ot m qh_ qoffices iC iB qx jq ob qhoffices qhx) hoffices hx
theorem qN (h:HF) (offices:(List ByteArray)) (cB:Option Addr) (cA:Nat) (x:Expr) (fe:cI) (hoffices:SlC Rp.str h cB cA offices) (hx:Expr.ok h x fe):Ret Tryz.prog 252 [.slice cB offices.length cA,.agg (Expr.cells x fe).toArray] h (.bool (cj offices x)):=ot _ h offices cB cA x fe (Nat.le_refl _) hoffices hx
theorem wD (h:HF) (p:Policy) (fb:eO) (hp:Policy.ok h p fb):Ret Tryz.prog 228 [.agg (Policy.cells p fb).toArray] h (.bool (fG p)):=by
 refine ay CA U Tryz.ntmps228 U fun X hM hX=>?_
 have hs0:fG p=fG p:=rfl
 refine sr (dy (fun b1=>an (ae (sr (az vV U (aO 0 ty9 U U U (aG (v:=.bool (jo p.Name)) Tryz.call250 (su h p.Name ) U (cV U (aa ?_)))))))))
 refine tq 5 [(1,Q b1),(13,.bool ((!(jo p.Name))||(!(dV p.Offices))))] (fun hk1=>?_) (fun e=>?_)
 ·refine ar 8 U (fun c1=>?_) (fun c1=>?_)
  ·refine kq (kq (ah U ?_))
   exact hk1 _ ⟨U,(cb (dL c1)),trivial⟩
  ·refine az jv U (aO 0 ty62 U U U (aG (v:=.bool (dV p.Offices)) Tryz.call251 (ou h p.Offices fb.dP fb.dO hp.Offices) U (cV U (ah U ?_))))
   exact hk1 _ ⟨U,(cb (dM c1)),trivial⟩
 refine aa ?_
 refine tq 5 [(1,Q b1),(19,.bool (((!(jo p.Name))||(!(dV p.Offices)))||(!(dV p.Kinds))))] (fun hk2=>?_) (fun e=>?_)
 ·refine ar 14 U (fun c2=>?_) (fun c2=>?_)
  ·refine kq (kq (ah U ?_))
   exact hk2 _ ⟨U,(cb (dL c2)),trivial⟩
  ·refine az kD U (aO 0 ty62 U U U (aG (v:=.bool (dV p.Kinds)) Tryz.call251 (ou h p.Kinds fb.fN fb.fM hp.Kinds) U (cV U (ah U ?_))))
   exact hk2 _ ⟨U,(cb (dM c2)),trivial⟩
 refine ac ?_
 refine aE U (fun c3=>?_) (fun c3=>?_)
 ·have hs1:=hs0.trans (bt c3)
  refine sr (an ?_)
  exact aw [.bool false] CA U hX rd (cs hs1)
 ·have hs3:=hs0.trans (bf c3)
  refine ao (ae (sr (an ?_)))
  let z1:Nat×Obj:=(b1,O (Policy.cells p fb) 68)
  refine br (ι:=Nat) (fun i=>[(1,Q b1)]) (fun i=>h) (fun i=>[z1]) (fun i=>i≤p.Rules.length∧fG p=((fG.K1 p))) ?_ (fun hx1=>?_)
  ·rintro i1 ⟨bd,hs4⟩ e
   try dsimp only at bd
   try dsimp only
   refine sr (az jv U (aO 0 ty62 U U U (az lC U (dq 0 ty66 U U U (aG (v:=.bool (cj p.Offices p.Change)) Tryz.call252 (qN h p.Offices fb.dP fb.dO p.Change fb.Change hp.Offices hp.Change) U ?_)))))
   refine an ?_
   exact aw [.bool (cj p.Offices p.Change)] CA U hX rd (cs hs4)
  ·refine cp (ι:=Nat×List Rule) (fun i=>[(1,Q b1),(3,I ((i.1:Nat):Int))]) (fun i=>h) (fun i=>[z1]) (fun i=>p.Rules.drop i.1=i.2∧i.1≤p.Rules.length∧fG p=((fG.L1 p (fG.K1 p)) i.2 )) (fun i=>i.2.length) (0,p.Rules) rd sw ⟨U,Nat.zero_le _,hs3⟩ ?_
   rintro ⟨i1,s1⟩ ⟨hd1,bd,hs6⟩ ag1 e
   try dsimp only at hd1 bd
   rcases s1 with _ | ⟨y1,rz1⟩
   ·have dI:=cU hd1
    try dsimp only
    refine ae (sr (aa (az e9 U (aO 0 ty63 U U U (bC jJ U (aB (v':=.bool false) U (cb dI) (ac (bg U (bO U ?_)))))))))
    exact hx1 i1 _ ⟨bd,hs6⟩ rd
   ·have dH:=dY hd1
    have bh:=cY hd1
    have eT:=aT hd1
    have gx:=hp.Rules.1.1
    try dsimp only
    refine ae (sr (aa (az e9 U (aO 0 ty63 U U U (bC jJ U (aB (v':=.bool true) U (cb dH) (ac (bn U (ao (ae (aW (ae ?_))))))))))))
    refine ga ([z1]) mixed kr jn (fun eX _=>?_)
    refine tf 0 U U (fun _ _ _=>dB jv U) (tf 1 U U (fun _ _ hj=>gu ty62 U (hj.nth (i:=0) U) U) (tf 2 U U (fun _ _ _=>dB e9 U) ?_))
    refine tf 3 U U (fun _ _ hj=>gu ty63 U (hj.nth (i:=0) U) U) (tm 4 U (iY 5 eX jn jJ ty107 hp.Rules.1 (nthZ bh) (bB bh) U U U U kr (fun q2 cs2 A2 ln2 rr2=>?_)))
    obtain ⟨r2,rfl,ok2⟩:=rr2
    refine tf 6 U U (fun _ _ _=>dB ka U) (tf 7 U U (fun _ _ hj=>FG 3 ty66 (A2.mono hj.1) U U) (tn 8 U ?_))
    refine fu (v:=.bool (cj p.Offices y1.Expr)) Tryz.call252 (qN h p.Offices fb.dP fb.dO y1.Expr r2.Expr hp.Offices ok2.Expr) U (⟨jn,?_⟩)
    refine tf 9 U U (fun _ _ _=>ku U) (bY kr ?_)
    refine aE U (fun c5=>?_) (fun c5=>?_)
    ·have hs8:=hs6.trans (bt c5)
     refine sr (an ?_)
     exact aw [.bool false] CA U hX rd (cs hs8)
    ·have hs10:=hs6.trans (bf c5)
     refine ao (av (ai (aa (aB (v':=I (((i1+1):Nat):Int)) U (bW ob) (an ?_)))))
     exact ag1 ((i1+1),rz1) _ (Nat.lt_succ_self _) ⟨bF hd1,aT hd1,hs10⟩ rd
theorem qP (rec:Expr→Bool→Bool) (h:HF) (x:Expr) (fe:cI) (upto:Bool) (hrec:∀ (h:HF) (qx:Expr) (jq:cI) (qupto:Bool) (hqx:Expr.ok h qx jq) (_:qx.dep < x.dep),Ret Tryz.prog 253 [.agg (Expr.cells qx jq).toArray,.bool qupto] h (.bool (rec qx qupto))) (hx:Expr.ok h x fe):Ret Tryz.prog 253 [.agg (Expr.cells x fe).toArray,.bool upto] h (.bool (aS.F rec x upto)):=by
 refine ay yz U Tryz.ntmps253 U fun X hM hX=>?_
 have hs0:aS.F rec x upto=aS.F rec x upto:=rfl
 refine sr (dy (fun b1=>an (ae (sr (an ?_)))))
 refine br (ι:=Nat) (fun i=>[(1,.bool upto),(2,Q b1)]) (fun i=>h) (fun i=>[(b1,O (Expr.cells x fe) 66)]) (fun i=>i≤x.L.length∧aS.F rec x upto=((aS.K1 x upto))) ?_ (fun hx1=>?_)
 ·rintro i1 ⟨bd,hs1⟩ e
  try dsimp only at bd
  try dsimp only
  refine ae (sr (az kE U (aO 0 ty3 U U U (ac (aW (sr (aJ U (an ?_))))))))
  refine aE U (fun c3=>?_) (fun c3=>?_)
  ·have hs2:=hs1.trans (bt c3)
   refine sr (az j0 U (aO 0 ty3 U U U (aJ U (aa ?_))))
   refine tq 5 [(33,.bool ((x.N==0)&&(((x.L.length:Nat):Int)==0)))] (fun hk1=>?_) (fun e=>?_)
   ·refine ar 28 U (fun c4=>?_) (fun c4=>?_)
    ·refine az dE U (aO 0 ty64 U U U (bC fT U (aJ U (ah U ?_))))
     exact hk1 _ ⟨(cb (cW c4)),trivial⟩
    ·refine kq (kq (ah U ?_))
     exact hk1 _ ⟨(cb (cX c4)),trivial⟩
   refine an ?_
   exact aw [.bool ((x.N==0)&&(((x.L.length:Nat):Int)==0))] yz U hX rd (cs hs2)
  ·have hs4:=hs1.trans (bf c3)
   refine sr (aJ U (an ?_))
   refine aE U (fun c5=>?_) (fun c5=>?_)
   ·have hs5:=hs4.trans (bt c5)
    refine sr (az j0 U (aO 0 ty3 U U U (aJ U (aa ?_))))
    refine tq 4 [(2,Q b1),(43,.bool (decide (1≤x.N)&&decide (x.N≤4096)))] (fun hk2=>?_) (fun e=>?_)
    ·refine ar 39 U (fun c6=>?_) (fun c6=>?_)
     ·refine az j0 U (aO 0 ty3 U U U (aJ U (ah U ?_)))
      exact hk2 _ ⟨U,(cb (cW c6)),trivial⟩
     ·refine kq (bP (ah U ?_))
      exact hk2 _ ⟨U,(cb (cX c6)),trivial⟩
    refine aa ?_
    refine tq 5 [(49,.bool ((decide (1≤x.N)&&decide (x.N≤4096))&&(((x.L.length:Nat):Int)==0)))] (fun hk3=>?_) (fun e=>?_)
    ·refine ar 44 U (fun c7=>?_) (fun c7=>?_)
     ·refine az dE U (aO 0 ty64 U U U (bC fT U (aJ U (ah U ?_))))
      exact hk3 _ ⟨(cb (cW c7)),trivial⟩
     ·refine kq (kq (ah U ?_))
      exact hk3 _ ⟨(cb (cX c7)),trivial⟩
    refine an ?_
    exact aw [.bool ((decide (1≤x.N)&&decide (x.N≤4096))&&(((x.L.length:Nat):Int)==0))] yz U hX rd (cs hs5)
   ·have hs7:=hs4.trans (bf c5)
    refine sr (aJ U (an ?_))
    refine aE U (fun c8=>?_) (fun c8=>?_)
    ·have hs8:=hs7.trans (bt c8)
     refine sr (az mi U (aO 0 ty9 U U U (aJ U (aa ?_))))
     refine tq 5 [(2,Q b1),(60,.bool ((x.Name.toList==(⟨#[]⟩:ByteArray).toList)&&decide (1≤((x.L.length:Nat):Int))))] (fun hk4=>?_) (fun e=>?_)
     ·refine ar 55 U (fun c9=>?_) (fun c9=>?_)
      ·refine az dE U (aO 0 ty64 U U U (bC fT U (aJ U (ah U ?_))))
       exact hk4 _ ⟨U,(cb (cW c9)),trivial⟩
      ·refine kq (kq (ah U ?_))
       exact hk4 _ ⟨U,(cb (cX c9)),trivial⟩
     refine aa ?_
     refine tq 5 [(2,Q b1),(66,.bool (((x.Name.toList==(⟨#[]⟩:ByteArray).toList)&&decide (1≤((x.L.length:Nat):Int)))&&decide (((x.L.length:Nat):Int)≤16)))] (fun hk5=>?_) (fun e=>?_)
     ·refine ar 61 U (fun c10=>?_) (fun c10=>?_)
      ·refine az dE U (aO 0 ty64 U U U (bC fT U (aJ U (ah U ?_))))
       exact hk5 _ ⟨U,(cb (cW c10)),trivial⟩
      ·refine kq (kq (ah U ?_))
       exact hk5 _ ⟨U,(cb (cX c10)),trivial⟩
     refine aa ?_
     refine tq 4 [(2,Q b1),(71,.bool ((((x.Name.toList==(⟨#[]⟩:ByteArray).toList)&&decide (1≤((x.L.length:Nat):Int)))&&decide (((x.L.length:Nat):Int)≤16))&&decide (1≤x.N)))] (fun hk6=>?_) (fun e=>?_)
     ·refine ar 67 U (fun c11=>?_) (fun c11=>?_)
      ·refine az j0 U (aO 0 ty3 U U U (aJ U (ah U ?_)))
       exact hk6 _ ⟨U,(cb (cW c11)),trivial⟩
      ·refine kq (bP (ah U ?_))
       exact hk6 _ ⟨U,(cb (cX c11)),trivial⟩
     refine aa ?_
     refine tq 7 [(79,.bool (((((x.Name.toList==(⟨#[]⟩:ByteArray).toList)&&decide (1≤((x.L.length:Nat):Int)))&&decide (((x.L.length:Nat):Int)≤16))&&decide (1≤x.N))&&decide (x.N≤((x.L.length:Nat):Int))))] (fun hk7=>?_) (fun e=>?_)
     ·refine ar 72 U (fun c12=>?_) (fun c12=>?_)
      ·refine az j0 U (aO 0 ty3 U U U (az dE U (aO 0 ty64 U U U (bC fT U (aJ U (ah U ?_))))))
       exact hk7 _ ⟨(cb (cW c12)),trivial⟩
      ·refine kq (kq (kq (ah U ?_)))
       exact hk7 _ ⟨(cb (cX c12)),trivial⟩
     refine an ?_
     exact aw [.bool (((((x.Name.toList==(⟨#[]⟩:ByteArray).toList)&&decide (1≤((x.L.length:Nat):Int)))&&decide (((x.L.length:Nat):Int)≤16))&&decide (1≤x.N))&&decide (x.N≤((x.L.length:Nat):Int)))] yz U hX rd (cs hs8)
    ·have hs10:=hs7.trans (bf c8)
     refine sr (aJ U (an ?_))
     refine aE U (fun c13=>?_) (fun c13=>?_)
     ·have hs11:=hs10.trans (bt c13)
      refine sr (aa (aa ?_))
      refine tq 4 [(2,Q b1),(87,.bool (upto&&(x.Name.toList==(⟨#[]⟩:ByteArray).toList)))] (fun hk8=>?_) (fun e=>?_)
      ·refine ar 83 U (fun c14=>?_) (fun c14=>?_)
       ·refine az mi U (aO 0 ty9 U U U (aJ U (ah U ?_)))
        exact hk8 _ ⟨U,(cb (cW c14)),trivial⟩
       ·refine kq (bP (ah U ?_))
        exact hk8 _ ⟨U,(cb (cX c14)),trivial⟩
      refine aa ?_
      refine tq 5 [(2,Q b1),(93,.bool ((upto&&(x.Name.toList==(⟨#[]⟩:ByteArray).toList))&&(((x.L.length:Nat):Int)==2)))] (fun hk9=>?_) (fun e=>?_)
      ·refine ar 88 U (fun c15=>?_) (fun c15=>?_)
       ·refine az dE U (aO 0 ty64 U U U (bC fT U (aJ U (ah U ?_))))
        exact hk9 _ ⟨U,(cb (cW c15)),trivial⟩
       ·refine kq (kq (ah U ?_))
        exact hk9 _ ⟨U,(cb (cX c15)),trivial⟩
      refine aa ?_
      refine tq 4 [(2,Q b1),(98,.bool (((upto&&(x.Name.toList==(⟨#[]⟩:ByteArray).toList))&&(((x.L.length:Nat):Int)==2))&&decide (0≤x.N)))] (fun hk10=>?_) (fun e=>?_)
      ·refine ar 94 U (fun c16=>?_) (fun c16=>?_)
       ·refine az j0 U (aO 0 ty3 U U U (aJ U (ah U ?_)))
        exact hk10 _ ⟨U,(cb (cW c16)),trivial⟩
       ·refine kq (bP (ah U ?_))
        exact hk10 _ ⟨U,(cb (cX c16)),trivial⟩
      refine aa ?_
      refine tq 4 [(103,.bool ((((upto&&(x.Name.toList==(⟨#[]⟩:ByteArray).toList))&&(((x.L.length:Nat):Int)==2))&&decide (0≤x.N))&&decide (x.N≤1099511627776)))] (fun hk11=>?_) (fun e=>?_)
      ·refine ar 99 U (fun c17=>?_) (fun c17=>?_)
       ·refine az j0 U (aO 0 ty3 U U U (aJ U (ah U ?_)))
        exact hk11 _ ⟨(cb (cW c17)),trivial⟩
       ·refine kq (bP (ah U ?_))
        exact hk11 _ ⟨(cb (cX c17)),trivial⟩
      refine an ?_
      exact aw [.bool ((((upto&&(x.Name.toList==(⟨#[]⟩:ByteArray).toList))&&(((x.L.length:Nat):Int)==2))&&decide (0≤x.N))&&decide (x.N≤1099511627776))] yz U hX rd (cs hs11)
     ·have hs13:=hs10.trans (bf c13)
      refine ao (av (sr (an ?_)))
      exact aw [.bool false] yz U hX rd (cs hs13)
 ·refine cp (ι:=Nat×List Expr) (fun i=>[(1,.bool upto),(2,Q b1),(5,I ((i.1:Nat):Int))]) (fun i=>h) (fun i=>[(b1,O (Expr.cells x fe) 66)]) (fun i=>x.L.drop i.1=i.2∧i.1≤x.L.length∧aS.F rec x upto=((aS.L1 rec upto (aS.K1 x upto)) i.2 )) (fun i=>i.2.length) (0,x.L) rd sw ⟨U,Nat.zero_le _,hs0⟩ ?_
  rintro ⟨i1,s1⟩ ⟨hd1,bd,hs15⟩ ag1 e
  try dsimp only at hd1 bd
  rcases s1 with _ | ⟨y1,rz1⟩
  ·have dI:=cU hd1
   try dsimp only
   refine ae (sr (aa (az dE U (aO 0 ty64 U U U (bC fT U (aB (v':=.bool false) U (cb dI) (ac (bg U (bO U ?_)))))))))
   exact hx1 i1 _ ⟨bd,hs15⟩ rd
  ·have dH:=dY hd1
   have bh:=cY hd1
   have eT:=aT hd1
   have gx:=hx.list.1.1
   try dsimp only
   refine ae (sr (aa (az dE U (aO 0 ty64 U U U (bC fT U (aB (v':=.bool true) U (cb dH) (ac (bn U (ao (ae (aW (sr (az dE U (aO 0 ty64 U U U ?_))))))))))))))
   refine aa (a8 (gL fT ty66 hx.list.1 (nthZ bh) (bB bh) U U U (fun q2 cs2 A2 ln2 rr2=>?_)))
   obtain ⟨r2,rfl,ok2⟩:=rr2
   refine ed ty66 A2 U U (aa (aG (v:=.bool (rec y1 upto)) Tryz.call253 (hrec h y1 r2 upto ok2 (Expr.iq (gm hd1))) U (cV U (ac ?_))))
   refine aE U (fun c18=>?_) (fun c18=>?_)
   ·have hs17:=hs15.trans (bt c18)
    refine sr (an ?_)
    exact aw [.bool false] yz U hX rd (cs hs17)
   ·have hs19:=hs15.trans (bf c18)
    refine ao (av (ai (aa (aB (v':=I (((i1+1):Nat):Int)) U (bW ob) (an ?_)))))
    exact ag1 ((i1+1),rz1) _ (Nat.lt_succ_self _) ⟨bF hd1,aT hd1,hs19⟩ rd
theorem lW:∀ (m:Nat) (h:HF) (x:Expr) (fe:cI) (upto:Bool) (_:x.dep≤m) (hx:Expr.ok h x fe),Ret Tryz.prog 253 [.agg (Expr.cells x fe).toArray,.bool upto] h (.bool (aS.go m x upto))
 | 0,h,x,fe,upto,hd,hx=>absurd hd (Nat.not_le.2 (Expr.jR _))
 | m+1,h,x,fe,upto,hd,hx=>qP (aS.go m) h x fe upto (fun qh_ qx jq qupto qhx qd=>lW m qh_ qx jq qupto ob qhx) hx
theorem nd (h:HF) (x:Expr) (fe:cI) (upto:Bool) (hx:Expr.ok h x fe):Ret Tryz.prog 253 [.agg (Expr.cells x fe).toArray,.bool upto] h (.bool (aS x upto)):=lW _ h x fe upto (Nat.le_refl _) hx
theorem vE (h:HF) (p:Policy) (fb:eO) (hp:Policy.ok h p fb):Ret Tryz.prog 229 [.agg (Policy.cells p fb).toArray] h (.bool (fj p)):=by
 refine ay Cz U Tryz.ntmps229 U fun X hM hX=>?_
 have hs0:fj p=fj p:=rfl
 refine sr (dy (fun b1=>an (ae (sr (az kD U (aO 0 ty62 U U U (bC kL U (aJ U (aa ?_)))))))))
 refine tq 8 [(1,Q b1),(17,.bool (decide (((p.Kinds.length:Nat):Int) < 1)||(((p.Rules.length:Nat):Int) != ((p.Kinds.length:Nat):Int))))] (fun hk1=>?_) (fun e=>?_)
 ·refine ar 9 U (fun c1=>?_) (fun c1=>?_)
  ·refine kq (kq (kq (bP (ah U ?_))))
   exact hk1 _ ⟨U,(cb (dL c1)),trivial⟩
  ·refine az e9 U (aO 0 ty63 U U U (bC jJ U (az kD U (aO 0 ty62 U U U (bC kL U (aJ U (ah U ?_)))))))
   exact hk1 _ ⟨U,(cb (dM c1)),trivial⟩
 refine aa ?_
 refine tq 4 [(1,Q b1),(22,.bool ((decide (((p.Kinds.length:Nat):Int) < 1)||(((p.Rules.length:Nat):Int) != ((p.Kinds.length:Nat):Int)))||decide (p.Mode < 1)))] (fun hk2=>?_) (fun e=>?_)
 ·refine ar 18 U (fun c2=>?_) (fun c2=>?_)
  ·refine kq (bP (ah U ?_))
   exact hk2 _ ⟨U,(cb (dL c2)),trivial⟩
  ·refine az rI U (aO 0 ty3 U U U (aJ U (ah U ?_)))
   exact hk2 _ ⟨U,(cb (dM c2)),trivial⟩
 refine aa ?_
 refine tq 4 [(1,Q b1),(27,.bool (((decide (((p.Kinds.length:Nat):Int) < 1)||(((p.Rules.length:Nat):Int) != ((p.Kinds.length:Nat):Int)))||decide (p.Mode < 1))||decide (4 < p.Mode)))] (fun hk3=>?_) (fun e=>?_)
 ·refine ar 23 U (fun c3=>?_) (fun c3=>?_)
  ·refine kq (bP (ah U ?_))
   exact hk3 _ ⟨U,(cb (dL c3)),trivial⟩
  ·refine az rI U (aO 0 ty3 U U U (aJ U (ah U ?_)))
   exact hk3 _ ⟨U,(cb (dM c3)),trivial⟩
 refine ac ?_
 refine aE U (fun c4=>?_) (fun c4=>?_)
 ·have hs1:=hs0.trans (bt c4)
  refine sr (an ?_)
  exact aw [.bool false] Cz U hX rd (cs hs1)
 ·have hs3:=hs0.trans (bf c4)
  refine ao (ae (sr (an ?_)))
  let z1:Nat×Obj:=(b1,O (Policy.cells p fb) 68)
  refine br (ι:=Nat) (fun i=>[(1,Q b1)]) (fun i=>h) (fun i=>[z1]) (fun i=>i≤p.Rules.length∧fj p=((fj.K1 p))) ?_ (fun hx1=>?_)
  ·rintro i1 ⟨bd,hs4⟩ e
   try dsimp only at bd
   try dsimp only
   refine sr (az lC U (dq 0 ty66 U U U (aG (v:=.bool (aS p.Change false)) Tryz.call253 (nd h p.Change fb.Change false hp.Change) U (an ?_))))
   exact aw [.bool (aS p.Change false)] Cz U hX rd (cs hs4)
  ·refine cp (ι:=Nat×List Rule) (fun i=>[(1,Q b1),(3,I ((i.1:Nat):Int))]) (fun i=>h) (fun i=>[z1]) (fun i=>p.Rules.drop i.1=i.2∧i.1≤p.Rules.length∧fj p=((fj.L1 p (fj.K1 p)) i.2 i.1)) (fun i=>i.2.length) (0,p.Rules) rd sw ⟨U,Nat.zero_le _,hs3⟩ ?_
   rintro ⟨i1,s1⟩ ⟨hd1,bd,hs6⟩ ag1 e
   try dsimp only at hd1 bd
   rcases s1 with _ | ⟨y1,rz1⟩
   ·have dI:=cU hd1
    try dsimp only
    refine ae (sr (aa (az e9 U (aO 0 ty63 U U U (bC jJ U (aB (v':=.bool false) U (cb dI) (ac (bg U (bO U ?_)))))))))
    exact hx1 i1 _ ⟨bd,hs6⟩ rd
   ·have dH:=dY hd1
    have bh:=cY hd1
    have eT:=aT hd1
    have gx:=hp.Rules.1.1
    try dsimp only
    refine ae (sr (aa (az e9 U (aO 0 ty63 U U U (bC jJ U (aB (v':=.bool true) U (cb dH) (ac (bn U (ao (ae (aW (sr (az e9 U (aO 0 ty63 U U U ?_))))))))))))))
    refine aa (a8 (gL jJ ty107 hp.Rules.1 (nthZ bh) (bB bh) U U U (fun q3 cs2 A3 ln2 rr2=>?_)))
    obtain ⟨r2,rfl,ok2⟩:=rr2
    refine ed ty107 A3 U U (bX zc107 (fun b3=>bN 0 ty107 U U U U U U (ac (ae ?_))))
    refine my [(1,Q b1),(3,I ((i1:Nat):Int)),(63,.bool ((((!(y1.Kind.toList==(nthI p.Kinds ((i1:Nat):Int)).toList))||decide (y1.Think < 0))||decide (1099511627776≤y1.Think))||(!(aS y1.Expr true))))] (fun e=>?_) (fun hk4=>?_)
    rotate_left
    ·refine ga ([(b3,O (Rule.cells y1 r2) 107),z1]) mixed kr jn (fun eX _=>?_)
     refine tf 0 U U (fun _ _ _=>dB ub U) (tf 1 U U (fun _ _ hj=>gu ty9 U (hj.nth (i:=0) U) U) (tf 2 U U (fun _ _ _=>dB kD U) ?_))
     refine tf 3 U U (fun _ _ hj=>gu ty62 U (hj.nth (i:=1) U) U) (tm 4 U ?_)
     have ho2:0≤(((i1:Nat):Int):Int)∧(((i1:Nat):Int):Int) < ((p.Kinds).length:Int):=ob
     refine fA 5 (enc:=fun y=>[.string y]) eX jn (fun _ _ _ e=>e) kL ty9 hp.Kinds.1 ho2 (eA ho2) U U U U kr (fun q4 A4=>tf 6 U U (fun _ _ hj=>gd ty9 (A4.mono hj.1) U) ?_)
     refine tf 7 U U (fun _ _ _=>ib U) (tm 8 U ?_)
     refine eo 48 U (fun c5=>?_) (fun c5=>?_)
     ·refine tk 9 U U (tk 10 U U (tk 11 U U (tf 12 U U (fun _ _ _=>co U) ?_)))
      refine tm 13 U (tk 14 U U (tk 15 U U (tk 16 U U ?_)))
      refine tf 17 U U (fun _ _ _=>co U) (tm 18 U (tk 19 U U ?_))
      refine tk 20 U U (tk 21 U U (tk 22 U U (tf 23 U U (fun _ _ _=>co U) ?_)))
      refine bY kr ?_
      exact hk4 _ ⟨U,U,(cb (show true=((((!(y1.Kind.toList==(nthI p.Kinds ((i1:Nat):Int)).toList))||decide (y1.Think < 0))||decide (1099511627776≤y1.Think))||(!(aS y1.Expr true))) from by rw [c5] <;> rfl)),trivial⟩
     ·refine tf 9 U U (fun _ _ _=>dB mX U) (tf 10 U U (fun _ _ hj=>gu ty3 U (hj.nth (i:=0) U) U) (tf 11 U U (fun _ _ _=>ib U) ?_))
      refine tf 12 U U (fun _ _ _=>co U) (tm 13 U ?_)
      refine eo 53 U (fun c6=>?_) (fun c6=>?_)
      ·have c6p:=of_decide_eq_true c6
       refine tk 14 U U (tk 15 U U (tk 16 U U (tf 17 U U (fun _ _ _=>co U) ?_)))
       refine tm 18 U (tk 19 U U (tk 20 U U (tk 21 U U ?_)))
       refine tk 22 U U (tf 23 U U (fun _ _ _=>co U) (bY kr ?_))
       exact hk4 _ ⟨U,U,(cb (show true=((((!(y1.Kind.toList==(nthI p.Kinds ((i1:Nat):Int)).toList))||decide (y1.Think < 0))||decide (1099511627776≤y1.Think))||(!(aS y1.Expr true))) from by rw [c5,c6] <;> rfl)),trivial⟩
      ·have c6p:=of_decide_eq_false c6
       refine tf 14 U U (fun _ _ _=>dB mX U) (tf 15 U U (fun _ _ hj=>gu ty3 U (hj.nth (i:=0) U) U) (tf 16 U U (fun _ _ _=>ib U) ?_))
       refine tf 17 U U (fun _ _ _=>co U) (tm 18 U ?_)
       refine eo 58 U (fun c7=>?_) (fun c7=>?_)
       ·have c7p:=of_decide_eq_true c7
        refine tk 19 U U (tk 20 U U (tk 21 U U (tk 22 U U ?_)))
        refine tf 23 U U (fun _ _ _=>co U) (bY kr ?_)
        exact hk4 _ ⟨U,U,(cb (show true=((((!(y1.Kind.toList==(nthI p.Kinds ((i1:Nat):Int)).toList))||decide (y1.Think < 0))||decide (1099511627776≤y1.Think))||(!(aS y1.Expr true))) from by rw [c5,c6,c7] <;> rfl)),trivial⟩
       ·have c7p:=of_decide_eq_false c7
        refine tf 19 U U (fun _ _ _=>dB ka U) (tf 20 U U (fun _ _ hj=>ky ty66 U (hj.nth (i:=0) U) U) (tn 21 U ?_))
        refine fu (v:=.bool (aS y1.Expr true)) Tryz.call253 (nd h y1.Expr r2.Expr true ok2.Expr) U (⟨jn,?_⟩)
        refine tf 22 U U (fun _ _ _=>ku U) (tf 23 U U (fun _ _ _=>co U) (bY kr ?_))
        exact hk4 _ ⟨U,U,(cb (show (!(aS y1.Expr true))=((((!(y1.Kind.toList==(nthI p.Kinds ((i1:Nat):Int)).toList))||decide (y1.Think < 0))||decide (1099511627776≤y1.Think))||(!(aS y1.Expr true))) from by rw [c5,c6,c7] <;> rfl)),trivial⟩
    refine aE U (fun c8=>?_) (fun c8=>?_)
    ·have hs8:=hs6.trans (bt c8)
     refine sr (an ?_)
     exact aw [.bool false] Cz U hX rd (cs hs8)
    ·have hs10:=hs6.trans (bf c8)
     refine ao (av (ai (aa (aB (v':=I (((i1+1):Nat):Int)) U (bW ob) ?_))))
     refine an ?_
     refine cE (L':=[z1]) js ?_
     exact ag1 ((i1+1),rz1) _ (Nat.lt_succ_self _) ⟨bF hd1,aT hd1,hs10⟩ rd
theorem sH (rec:(List ByteArray)→Expr→Expr) (h:HF) (offices:(List ByteArray)) (cB:Option Addr) (cA:Nat) (x:Expr) (fe:cI) (hrec:∀ (h:HF) (qoffices:(List ByteArray)) (iC:Option Addr) (iB:Nat) (qx:Expr) (jq:cI) (hqoffices:SlC Rp.str h iC iB qoffices) (hqx:Expr.ok h qx jq) (hsz:qx.dep≤2000000) (_:qx.dep < x.dep),jK Tryz.prog 230 [.slice iC qoffices.length iB,.agg (Expr.cells qx jq).toArray] h (fun v h'=>∃ (rr0:cI),v=.agg (Expr.cells (rec qoffices qx) rr0).toArray∧Expr.ok h' (rec qoffices qx) rr0)) (hoffices:SlC Rp.str h cB cA offices) (hx:Expr.ok h x fe) (hsz:x.dep≤2000000):jK Tryz.prog 230 [.slice cB offices.length cA,.agg (Expr.cells x fe).toArray] h (fun v h'=>∃ (rr0:cI),v=.agg (Expr.cells (ak.F rec offices x) rr0).toArray∧Expr.ok h' (ak.F rec offices x) rr0):=by
 refine ay Tryz.func230 U Tryz.ntmps230 U fun X hM hX=>?_
 have hs0:ak.F rec offices x=ak.F rec offices x:=rfl
 have hln:=Expr.FW x
 refine sr (dy (fun b1=>bX zc66 (fun b2=>ac (sr (dq 1 ty66 U U U (bX zc66 (fun b3=>bN 0 ty66 U U U U U U (ac (sr (az mI U (dW 0 ty3 U U U U U U ?_)))))))))))
 refine ac (ae (sr (az kE U (aO 2 ty3 U U U (aJ U (aa ?_))))))
 refine tq 4 [(0,.slice cB offices.length cA),(3,Q b1),(4,Q b2),(5,Q b3),(16,.bool ((x.Kind==1)||(x.Kind==2)))] (fun hk1=>?_) (fun e=>?_)
 ·refine ar 12 U (fun c1=>?_) (fun c1=>?_)
  ·refine kq (bP (ah U ?_))
   exact hk1 _ ⟨U,U,U,U,(cb (dL c1)),trivial⟩
  ·refine az kE U (aO 2 ty3 U U U (aJ U (ah U ?_)))
   exact hk1 _ ⟨U,U,U,U,(cb (dM c1)),trivial⟩
 refine ac ?_
 refine aE U (fun c2=>?_) (fun c2=>?_)
 ·have hs1:=hs0.trans (bt c2)
  refine ai (aa (az mi U (aO 2 ty9 U U U (aG (v:=I (dk offices x.Name)) Tryz.call254 (nI h offices cB cA x.Name hoffices) U (az mI U (dW 0 ty3 U U U U U U (ac ?_)))))))
  refine sr (az dE U (dW 0 ty64 U U U U U U (ac (ae (sr (an ?_))))))
  let z1:Nat×Obj:=(b2,O [I 0,I 0,I 0,.string (⟨#[]⟩:ByteArray),.slice none 0 0] 66)
  let z3:Nat×Obj:=(b1,O (Expr.cells x fe) 66)
  refine br (ι:=Nat×(List Expr)×Option Addr×Nat×LH×HF) (fun i=>[(4,Q b2),(5,Q b3)]) (fun i=>i.2.2.2.2.2) (fun i=>[(b3,O [I x.Kind,I x.N,I (dk offices x.Name),.string x.Name,.slice i.2.2.1 i.2.1.length i.2.2.2.1] 66),z1,z3]++(i.2.2.2.2.1)) (fun i=>i.1≤x.L.length∧ak.F rec offices x=((ak.K1 offices x) i.2.1)∧ep Expr.rp 66 i.2.2.2.2.2 i.2.1 i.2.2.1 i.2.2.2.1 i.2.2.2.2.1∧i.2.1.length≤0+i.1∧HF.le h i.2.2.2.2.2) ?_ (fun hx1=>?_)
  ·rintro ⟨i1,iP,kU,kT,tP,hh1⟩ ⟨bd,hs2,mT,xp,hl1⟩ e
   try dsimp only at bd mT xp hl1
   try dsimp only
   let z5:Nat×Obj:=(b3,O [I x.Kind,I x.N,I (dk offices x.Name),.string x.Name,.slice kU iP.length kT] 66)
   let z19:Nat×Obj:=(b2,O [I x.Kind,I x.N,I (dk offices x.Name),.string x.Name,.slice kU iP.length kT] 66)
   refine sr (dq 0 ty66 U U U (bN 1 ty66 U U U U U U (iv (L':=[z5,z19,z3]++(tP)) U ?_)))
   refine ac ?_
   refine gj Expr.aN ([z5,z19,z3]) tP ([]) ap hM mT (fun h3 hle3 sl2=>?_)
   have hs3:ak.F rec offices x=(Expr.mk x.Kind x.N (dk offices x.Name) x.Name iP):=hs2
   exact dS [.agg (List.toArray [I x.Kind,I x.N,I (dk offices x.Name),.string x.Name,.slice kU iP.length kT])] Tryz.func230 U ⟨⟨1,_,_,_,_,U,U,.inl ⟨ty66,U⟩⟩,trivial⟩ ⟨(cI.mk kU kT),congrArg (fun r:Expr=>(.agg (Expr.cells r (cI.mk kU kT)).toArray:Value)) hs3.symm,(by rw [hs3];exact (show Expr.ok h3 (Expr.mk x.Kind x.N (dk offices x.Name) x.Name iP) (cI.mk kU kT) from Expr.ok.of sl2))⟩
  ·refine cp (ι:=Nat×(List Expr)×Option Addr×Nat×LH×HF×List Expr) (fun i=>[(0,.slice cB offices.length cA),(3,Q b1),(4,Q b2),(5,Q b3),(6,I ((i.1:Nat):Int))]) (fun i=>i.2.2.2.2.2.1) (fun i=>[(b3,O [I x.Kind,I x.N,I (dk offices x.Name),.string x.Name,.slice i.2.2.1 i.2.1.length i.2.2.2.1] 66),z1,z3]++(i.2.2.2.2.1)) (fun i=>x.L.drop i.1=i.2.2.2.2.2.2∧i.1≤x.L.length∧ak.F rec offices x=((ak.L1 rec offices (ak.K1 offices x)) i.2.2.2.2.2.2 i.2.1)∧ep Expr.rp 66 i.2.2.2.2.2.1 i.2.1 i.2.2.1 i.2.2.2.1 i.2.2.2.2.1∧i.2.1.length≤0+i.1∧HF.le h i.2.2.2.2.2.1) (fun i=>i.2.2.2.2.2.2.length) (0,[],none,0,[],h,x.L) rd sw ⟨U,Nat.zero_le _,hs1,ep.nil,lo,(HF.le_refl h)⟩ ?_
   rintro ⟨i1,iP,kU,kT,tP,hh1,s1⟩ ⟨hd1,bd,hs4,mT,xp,hl1⟩ ag1 e
   try dsimp only at hd1 bd mT xp hl1
   rcases s1 with _ | ⟨y1,rz1⟩
   ·have dI:=cU hd1
    try dsimp only
    refine ae (sr (aa (az dE U (aO 2 ty64 U U U (bC fT U (aB (v':=.bool false) U (cb dI) (ac (bg U (bO U ?_)))))))))
    exact hx1 (i1,iP,kU,kT,tP,hh1) _ ⟨bd,hs4,mT,lo,hl1⟩ rd
   ·have dH:=dY hd1
    have bh:=cY hd1
    have eT:=aT hd1
    have gx:=hx.list.1.1
    have hdy:=Expr.iq (gm hd1)
    try dsimp only
    refine ae (sr (aa (az dE U (aO 2 ty64 U U U (bC fT U (aB (v':=.bool true) U (cb dH) (ac (bn U (ao (ae (aW ?_)))))))))))
    refine ga ([z1,z3]) mixed kr jn (fun eX _=>?_)
    refine tf 0 U U (fun _ _ _=>dB dE U) (tm 2 U ?_)
    refine tf 3 U U (fun _ _ _=>dB dE U) (tf 4 U U (fun _ _ hj=>gu ty64 U (hj.nth (i:=1) U) U) ?_)
    refine tm 5 U (iY 6 eX jn fT ty66 (hx.list.mono Expr.aN hl1).1 (nthZ bh) (bB bh) U U U U kr (fun q2 cs2 A2 ln2 rr3=>?_))
    obtain ⟨r2,rfl,ok3⟩:=rr3
    refine tf 7 U U (fun _ _ hj=>jP ty66 (A2.mono hj.1) U U) ?_
    refine lF 1 8 kr U U ?_ ?_ 
    ·refine gH (gu ty64 U (lB (i:=0) U) U) (⟨jn,?_⟩)
     refine tn 8 U (dg Ai (hrec hh1 offices cB cA y1 r2 (hoffices.mono Rp.gg hl1) ok3 ob (Expr.iq (gm hd1))) U (fun v2 h4 hle4 hp2=>?_))
     obtain ⟨rr4,rfl,ok4⟩:=hp2
     refine ⟨jl hle4,tu hle4 ?_⟩
     refine tn 9 U (ck (cells:=[I ((rec offices y1).Kind),I ((rec offices y1).N),I ((rec offices y1).No),.string ((rec offices y1).Name),.slice rr4.ir ((rec offices y1).L.length) rr4.iE]) fT ty66 zc66 U U kr (fun b5=>?_))
     refine ⟨jn,?_⟩
     let z6:Nat×Obj:=(b3,O [I x.Kind,I x.N,I (dk offices x.Name),.string x.Name,.slice kU iP.length kT] 66)
     let z15:Nat×Obj:=(b5,O [I ((rec offices y1).Kind),I ((rec offices y1).N),I ((rec offices y1).No),.string ((rec offices y1).Name),.slice rr4.ir ((rec offices y1).L.length) rr4.iE] 66)
     refine tn 10 U (eK Expr.e5 ([z15,z6,z1,z3]) ([]) (fun G=>[z15,z6,z1,z3]++(G)) ap (fun _=>ap) fT ty66 zc66 U bytes66 (mT.mono Expr.aN hle4) U U (eZ 0 U (show bV Expr.rp h4 [I ((rec offices y1).Kind),I ((rec offices y1).N),I ((rec offices y1).No),.string ((rec offices y1).Name),.slice rr4.ir ((rec offices y1).L.length) rr4.iE] ([(rec offices y1)]) from ⟨[I ((rec offices y1).Kind),I ((rec offices y1).N),I ((rec offices y1).No),.string ((rec offices y1).Name),.slice rr4.ir ((rec offices y1).L.length) rr4.iE],[],U,U,⟨rr4,U,ok4⟩,U⟩)) lo lo (fun ob2 oc2 G2 gr2=>?_))
     refine ⟨jn,?_⟩
     refine tf 11 U U (fun _ _ _=>dB dE U) (tn 12 U (jY 1 ty64 U U U U U U (⟨jn,?_⟩)))
     refine bY kr ?_
     refine av (ai (aa (aB (v':=I (((i1+1):Nat):Int)) U (bW ob) (an ?_))))
     refine cE (L':=[(b3,O [I x.Kind,I x.N,I (dk offices x.Name),.string x.Name,.slice ob2 ((iP++[(rec offices y1)]).length) oc2] 66),z1,z3]++(G2)) js ?_
     exact ag1 ((i1+1),(iP++[(rec offices y1)]),ob2,oc2,G2,h4,rz1) _ (Nat.lt_succ_self _) ⟨bF hd1,aT hd1,hs4,gr2,lo,(hl1.t hle4)⟩ rd
    ·refine dg Ai (hrec hh1 offices cB cA y1 r2 (hoffices.mono Rp.gg hl1) ok3 ob (Expr.iq (gm hd1))) U (fun v3 h5 hle5 hp3=>?_)
     obtain ⟨rr5,rfl,ok5⟩:=hp3
     refine ⟨jl hle5,tu hle5 ?_⟩
     refine lF 1 9 kr U U ?_ ?_ 
     ·refine gH (gu ty64 U (lB (i:=0) U) U) (⟨jn,?_⟩)
      refine tn 9 U (ck (cells:=[I ((rec offices y1).Kind),I ((rec offices y1).N),I ((rec offices y1).No),.string ((rec offices y1).Name),.slice rr5.ir ((rec offices y1).L.length) rr5.iE]) fT ty66 zc66 U U kr (fun b6=>?_))
      refine ⟨jn,?_⟩
      let z7:Nat×Obj:=(b3,O [I x.Kind,I x.N,I (dk offices x.Name),.string x.Name,.slice kU iP.length kT] 66)
      let z16:Nat×Obj:=(b6,O [I ((rec offices y1).Kind),I ((rec offices y1).N),I ((rec offices y1).No),.string ((rec offices y1).Name),.slice rr5.ir ((rec offices y1).L.length) rr5.iE] 66)
      refine tn 10 U (eK Expr.e5 ([z16,z7,z1,z3]) ([]) (fun G=>[z16,z7,z1,z3]++(G)) ap (fun _=>ap) fT ty66 zc66 U bytes66 (mT.mono Expr.aN hle5) U U (eZ 0 U (show bV Expr.rp h5 [I ((rec offices y1).Kind),I ((rec offices y1).N),I ((rec offices y1).No),.string ((rec offices y1).Name),.slice rr5.ir ((rec offices y1).L.length) rr5.iE] ([(rec offices y1)]) from ⟨[I ((rec offices y1).Kind),I ((rec offices y1).N),I ((rec offices y1).No),.string ((rec offices y1).Name),.slice rr5.ir ((rec offices y1).L.length) rr5.iE],[],U,U,⟨rr5,U,ok5⟩,U⟩)) lo lo (fun ob3 oc3 G3 gr3=>?_))
      refine ⟨jn,?_⟩
      refine tf 11 U U (fun _ _ _=>dB dE U) (tn 12 U (jY 1 ty64 U U U U U U (⟨jn,?_⟩)))
      refine bY kr ?_
      refine av (ai (aa (aB (v':=I (((i1+1):Nat):Int)) U (bW ob) (an ?_))))
      refine cE (L':=[(b3,O [I x.Kind,I x.N,I (dk offices x.Name),.string x.Name,.slice ob3 ((iP++[(rec offices y1)]).length) oc3] 66),z1,z3]++(G3)) js ?_
      exact ag1 ((i1+1),(iP++[(rec offices y1)]),ob3,oc3,G3,h5,rz1) _ (Nat.lt_succ_self _) ⟨bF hd1,aT hd1,hs4,gr3,lo,(hl1.t hle5)⟩ rd
     ·refine ck (cells:=[I ((rec offices y1).Kind),I ((rec offices y1).N),I ((rec offices y1).No),.string ((rec offices y1).Name),.slice rr5.ir ((rec offices y1).L.length) rr5.iE]) fT ty66 zc66 U U kr (fun b7=>?_)
      refine ⟨jn,?_⟩
      refine tn 1 U (gH (gu ty64 U (lB (i:=1) U) U) (⟨jn,?_⟩))
      let z8:Nat×Obj:=(b3,O [I x.Kind,I x.N,I (dk offices x.Name),.string x.Name,.slice kU iP.length kT] 66)
      let z17:Nat×Obj:=(b7,O [I ((rec offices y1).Kind),I ((rec offices y1).N),I ((rec offices y1).No),.string ((rec offices y1).Name),.slice rr5.ir ((rec offices y1).L.length) rr5.iE] 66)
      refine tn 10 U (eK Expr.e5 ([z17,z8,z1,z3]) ([]) (fun G=>[z17,z8,z1,z3]++(G)) ap (fun _=>ap) fT ty66 zc66 U bytes66 (mT.mono Expr.aN hle5) U U (eZ 0 U (show bV Expr.rp h5 [I ((rec offices y1).Kind),I ((rec offices y1).N),I ((rec offices y1).No),.string ((rec offices y1).Name),.slice rr5.ir ((rec offices y1).L.length) rr5.iE] ([(rec offices y1)]) from ⟨[I ((rec offices y1).Kind),I ((rec offices y1).N),I ((rec offices y1).No),.string ((rec offices y1).Name),.slice rr5.ir ((rec offices y1).L.length) rr5.iE],[],U,U,⟨rr5,U,ok5⟩,U⟩)) lo lo (fun ob4 oc4 G4 gr4=>?_))
      refine ⟨jn,?_⟩
      refine tf 11 U U (fun _ _ _=>dB dE U) (tn 12 U (jY 1 ty64 U U U U U U (⟨jn,?_⟩)))
      refine bY kr ?_
      refine av (ai (aa (aB (v':=I (((i1+1):Nat):Int)) U (bW ob) (an ?_))))
      refine cE (L':=[(b3,O [I x.Kind,I x.N,I (dk offices x.Name),.string x.Name,.slice ob4 ((iP++[(rec offices y1)]).length) oc4] 66),z1,z3]++(G4)) js ?_
      exact ag1 ((i1+1),(iP++[(rec offices y1)]),ob4,oc4,G4,h5,rz1) _ (Nat.lt_succ_self _) ⟨bF hd1,aT hd1,hs4,gr4,lo,(hl1.t hle5)⟩ rd
 ·have hs6:=hs0.trans (bf c2)
  refine ao (sr (az dE U (dW 0 ty64 U U U U U U (ac (ae (sr (an ?_)))))))
  let z2:Nat×Obj:=(b2,O [I 0,I 0,I 0,.string (⟨#[]⟩:ByteArray),.slice none 0 0] 66)
  let z4:Nat×Obj:=(b1,O (Expr.cells x fe) 66)
  refine br (ι:=Nat×(List Expr)×Option Addr×Nat×LH×HF) (fun i=>[(4,Q b2),(5,Q b3)]) (fun i=>i.2.2.2.2.2) (fun i=>[(b3,O [I x.Kind,I x.N,I 0,.string x.Name,.slice i.2.2.1 i.2.1.length i.2.2.2.1] 66),z2,z4]++(i.2.2.2.2.1)) (fun i=>i.1≤x.L.length∧ak.F rec offices x=((ak.K2 x) i.2.1)∧ep Expr.rp 66 i.2.2.2.2.2 i.2.1 i.2.2.1 i.2.2.2.1 i.2.2.2.2.1∧i.2.1.length≤0+i.1∧HF.le h i.2.2.2.2.2) ?_ (fun hx2=>?_)
  ·rintro ⟨i2,iO,kS,kR,tO,hh2⟩ ⟨jW,hs7,mR,xh,hl2⟩ e
   try dsimp only at jW mR xh hl2
   try dsimp only
   let z9:Nat×Obj:=(b3,O [I x.Kind,I x.N,I 0,.string x.Name,.slice kS iO.length kR] 66)
   let z20:Nat×Obj:=(b2,O [I x.Kind,I x.N,I 0,.string x.Name,.slice kS iO.length kR] 66)
   refine sr (dq 0 ty66 U U U (bN 1 ty66 U U U U U U (iv (L':=[z9,z20,z4]++(tO)) U ?_)))
   refine ac ?_
   refine gj Expr.aN ([z9,z20,z4]) tO ([]) ap hM mR (fun h8 hle8 sl4=>?_)
   have hs8:ak.F rec offices x=(Expr.mk x.Kind x.N 0 x.Name iO):=hs7
   exact dS [.agg (List.toArray [I x.Kind,I x.N,I 0,.string x.Name,.slice kS iO.length kR])] Tryz.func230 U ⟨⟨1,_,_,_,_,U,U,.inl ⟨ty66,U⟩⟩,trivial⟩ ⟨(cI.mk kS kR),congrArg (fun r:Expr=>(.agg (Expr.cells r (cI.mk kS kR)).toArray:Value)) hs8.symm,(by rw [hs8];exact (show Expr.ok h8 (Expr.mk x.Kind x.N 0 x.Name iO) (cI.mk kS kR) from Expr.ok.of sl4))⟩
  ·refine cp (ι:=Nat×(List Expr)×Option Addr×Nat×LH×HF×List Expr) (fun i=>[(0,.slice cB offices.length cA),(3,Q b1),(4,Q b2),(5,Q b3),(6,I ((i.1:Nat):Int))]) (fun i=>i.2.2.2.2.2.1) (fun i=>[(b3,O [I x.Kind,I x.N,I 0,.string x.Name,.slice i.2.2.1 i.2.1.length i.2.2.2.1] 66),z2,z4]++(i.2.2.2.2.1)) (fun i=>x.L.drop i.1=i.2.2.2.2.2.2∧i.1≤x.L.length∧ak.F rec offices x=((ak.L2 rec offices (ak.K2 x)) i.2.2.2.2.2.2 i.2.1)∧ep Expr.rp 66 i.2.2.2.2.2.1 i.2.1 i.2.2.1 i.2.2.2.1 i.2.2.2.2.1∧i.2.1.length≤0+i.1∧HF.le h i.2.2.2.2.2.1) (fun i=>i.2.2.2.2.2.2.length) (0,[],none,0,[],h,x.L) rd sw ⟨U,Nat.zero_le _,hs6,ep.nil,lo,(HF.le_refl h)⟩ ?_
   rintro ⟨i2,iO,kS,kR,tO,hh2,s2⟩ ⟨hd2,jW,hs9,mR,xh,hl2⟩ ag2 e
   try dsimp only at hd2 jW mR xh hl2
   rcases s2 with _ | ⟨y2,rz2⟩
   ·have sU:=cU hd2
    try dsimp only
    refine ae (sr (aa (az dE U (aO 2 ty64 U U U (bC fT U (aB (v':=.bool false) U (cb sU) (ac (bg U (bO U ?_)))))))))
    exact hx2 (i2,iO,kS,kR,tO,hh2) _ ⟨jW,hs9,mR,lo,hl2⟩ rd
   ·have qr:=dY hd2
    have lu:=cY hd2
    have w9:=aT hd2
    have Dc:=hx.list.1.1
    have hdy:=Expr.iq (gm hd2)
    try dsimp only
    refine ae (sr (aa (az dE U (aO 2 ty64 U U U (bC fT U (aB (v':=.bool true) U (cb qr) (ac (bn U (ao (ae (aW ?_)))))))))))
    refine ga ([z2,z4]) mixed kr jn (fun w8 _=>?_)
    refine tf 0 U U (fun _ _ _=>dB dE U) (tm 2 U ?_)
    refine tf 3 U U (fun _ _ _=>dB dE U) (tf 4 U U (fun _ _ hj=>gu ty64 U (hj.nth (i:=1) U) U) ?_)
    refine tm 5 U (iY 6 w8 jn fT ty66 (hx.list.mono Expr.aN hl2).1 (nthZ lu) (bB lu) U U U U kr (fun q4 cs4 A4 ln4 rr8=>?_))
    obtain ⟨r4,rfl,ok8⟩:=rr8
    refine tf 7 U U (fun _ _ hj=>jP ty66 (A4.mono hj.1) U U) ?_
    refine lF 1 8 kr U U ?_ ?_ 
    ·refine gH (gu ty64 U (lB (i:=0) U) U) (⟨jn,?_⟩)
     refine tn 8 U (dg Ai (hrec hh2 offices cB cA y2 r4 (hoffices.mono Rp.gg hl2) ok8 ob (Expr.iq (gm hd2))) U (fun v5 h9 hle9 hp5=>?_))
     obtain ⟨rr9,rfl,ok9⟩:=hp5
     refine ⟨jl hle9,tu hle9 ?_⟩
     refine tn 9 U (ck (cells:=[I ((rec offices y2).Kind),I ((rec offices y2).N),I ((rec offices y2).No),.string ((rec offices y2).Name),.slice rr9.ir ((rec offices y2).L.length) rr9.iE]) fT ty66 zc66 U U kr (fun b9=>?_))
     refine ⟨jn,?_⟩
     let z10:Nat×Obj:=(b3,O [I x.Kind,I x.N,I 0,.string x.Name,.slice kS iO.length kR] 66)
     let z18:Nat×Obj:=(b9,O [I ((rec offices y2).Kind),I ((rec offices y2).N),I ((rec offices y2).No),.string ((rec offices y2).Name),.slice rr9.ir ((rec offices y2).L.length) rr9.iE] 66)
     refine tn 10 U (eK Expr.e5 ([z18,z10,z2,z4]) ([]) (fun G=>[z18,z10,z2,z4]++(G)) ap (fun _=>ap) fT ty66 zc66 U bytes66 (mR.mono Expr.aN hle9) U U (eZ 0 U (show bV Expr.rp h9 [I ((rec offices y2).Kind),I ((rec offices y2).N),I ((rec offices y2).No),.string ((rec offices y2).Name),.slice rr9.ir ((rec offices y2).L.length) rr9.iE] ([(rec offices y2)]) from ⟨[I ((rec offices y2).Kind),I ((rec offices y2).N),I ((rec offices y2).No),.string ((rec offices y2).Name),.slice rr9.ir ((rec offices y2).L.length) rr9.iE],[],U,U,⟨rr9,U,ok9⟩,U⟩)) lo lo (fun ob6 oc6 G6 gr6=>?_))
     refine ⟨jn,?_⟩
     refine tf 11 U U (fun _ _ _=>dB dE U) (tn 12 U (jY 1 ty64 U U U U U U (⟨jn,?_⟩)))
     refine bY kr ?_
     refine av (ai (aa (aB (v':=I (((i2+1):Nat):Int)) U (bW ob) (an ?_))))
     refine cE (L':=[(b3,O [I x.Kind,I x.N,I 0,.string x.Name,.slice ob6 ((iO++[(rec offices y2)]).length) oc6] 66),z2,z4]++(G6)) js ?_
     exact ag2 ((i2+1),(iO++[(rec offices y2)]),ob6,oc6,G6,h9,rz2) _ (Nat.lt_succ_self _) ⟨bF hd2,aT hd2,hs9,gr6,lo,(hl2.t hle9)⟩ rd
    ·refine dg Ai (hrec hh2 offices cB cA y2 r4 (hoffices.mono Rp.gg hl2) ok8 ob (Expr.iq (gm hd2))) U (fun v6 h10 hle10 hp6=>?_)
     obtain ⟨rr10,rfl,ok10⟩:=hp6
     refine ⟨jl hle10,tu hle10 ?_⟩
     refine lF 1 9 kr U U ?_ ?_ 
     ·refine gH (gu ty64 U (lB (i:=0) U) U) (⟨jn,?_⟩)
      refine tn 9 U (ck (cells:=[I ((rec offices y2).Kind),I ((rec offices y2).N),I ((rec offices y2).No),.string ((rec offices y2).Name),.slice rr10.ir ((rec offices y2).L.length) rr10.iE]) fT ty66 zc66 U U kr (fun b10=>?_))
      refine ⟨jn,?_⟩
      let z11:Nat×Obj:=(b3,O [I x.Kind,I x.N,I 0,.string x.Name,.slice kS iO.length kR] 66)
      let z13:Nat×Obj:=(b10,O [I ((rec offices y2).Kind),I ((rec offices y2).N),I ((rec offices y2).No),.string ((rec offices y2).Name),.slice rr10.ir ((rec offices y2).L.length) rr10.iE] 66)
      refine tn 10 U (eK Expr.e5 ([z13,z11,z2,z4]) ([]) (fun G=>[z13,z11,z2,z4]++(G)) ap (fun _=>ap) fT ty66 zc66 U bytes66 (mR.mono Expr.aN hle10) U U (eZ 0 U (show bV Expr.rp h10 [I ((rec offices y2).Kind),I ((rec offices y2).N),I ((rec offices y2).No),.string ((rec offices y2).Name),.slice rr10.ir ((rec offices y2).L.length) rr10.iE] ([(rec offices y2)]) from ⟨[I ((rec offices y2).Kind),I ((rec offices y2).N),I ((rec offices y2).No),.string ((rec offices y2).Name),.slice rr10.ir ((rec offices y2).L.length) rr10.iE],[],U,U,⟨rr10,U,ok10⟩,U⟩)) lo lo (fun ob7 oc7 G7 gr7=>?_))
      refine ⟨jn,?_⟩
      refine tf 11 U U (fun _ _ _=>dB dE U) (tn 12 U (jY 1 ty64 U U U U U U (⟨jn,?_⟩)))
      refine bY kr ?_
      refine av (ai (aa (aB (v':=I (((i2+1):Nat):Int)) U (bW ob) (an ?_))))
      refine cE (L':=[(b3,O [I x.Kind,I x.N,I 0,.string x.Name,.slice ob7 ((iO++[(rec offices y2)]).length) oc7] 66),z2,z4]++(G7)) js ?_
      exact ag2 ((i2+1),(iO++[(rec offices y2)]),ob7,oc7,G7,h10,rz2) _ (Nat.lt_succ_self _) ⟨bF hd2,aT hd2,hs9,gr7,lo,(hl2.t hle10)⟩ rd
     ·refine ck (cells:=[I ((rec offices y2).Kind),I ((rec offices y2).N),I ((rec offices y2).No),.string ((rec offices y2).Name),.slice rr10.ir ((rec offices y2).L.length) rr10.iE]) fT ty66 zc66 U U kr (fun b11=>?_)
      refine ⟨jn,?_⟩
      refine tn 1 U (gH (gu ty64 U (lB (i:=1) U) U) (⟨jn,?_⟩))
      let z12:Nat×Obj:=(b3,O [I x.Kind,I x.N,I 0,.string x.Name,.slice kS iO.length kR] 66)
      let z14:Nat×Obj:=(b11,O [I ((rec offices y2).Kind),I ((rec offices y2).N),I ((rec offices y2).No),.string ((rec offices y2).Name),.slice rr10.ir ((rec offices y2).L.length) rr10.iE] 66)
      refine tn 10 U (eK Expr.e5 ([z14,z12,z2,z4]) ([]) (fun G=>[z14,z12,z2,z4]++(G)) ap (fun _=>ap) fT ty66 zc66 U bytes66 (mR.mono Expr.aN hle10) U U (eZ 0 U (show bV Expr.rp h10 [I ((rec offices y2).Kind),I ((rec offices y2).N),I ((rec offices y2).No),.string ((rec offices y2).Name),.slice rr10.ir ((rec offices y2).L.length) rr10.iE] ([(rec offices y2)]) from ⟨[I ((rec offices y2).Kind),I ((rec offices y2).N),I ((rec offices y2).No),.string ((rec offices y2).Name),.slice rr10.ir ((rec offices y2).L.length) rr10.iE],[],U,U,⟨rr10,U,ok10⟩,U⟩)) lo lo (fun ob8 oc8 G8 gr8=>?_))
      refine ⟨jn,?_⟩
      refine tf 11 U U (fun _ _ _=>dB dE U) (tn 12 U (jY 1 ty64 U U U U U U (⟨jn,?_⟩)))
      refine bY kr ?_
      refine av (ai (aa (aB (v':=I (((i2+1):Nat):Int)) U (bW ob) (an ?_))))
      refine cE (L':=[(b3,O [I x.Kind,I x.N,I 0,.string x.Name,.slice ob8 ((iO++[(rec offices y2)]).length) oc8] 66),z2,z4]++(G8)) js ?_
      exact ag2 ((i2+1),(iO++[(rec offices y2)]),ob8,oc8,G8,h10,rz2) _ (Nat.lt_succ_self _) ⟨bF hd2,aT hd2,hs9,gr8,lo,(hl2.t hle10)⟩ rd
theorem mL:∀ (m:Nat) (h:HF) (offices:(List ByteArray)) (cB:Option Addr) (cA:Nat) (x:Expr) (fe:cI) (_:x.dep≤m) (hoffices:SlC Rp.str h cB cA offices) (hx:Expr.ok h x fe) (hsz:x.dep≤2000000),jK Tryz.prog 230 [.slice cB offices.length cA,.agg (Expr.cells x fe).toArray] h (fun v h'=>∃ (rr0:cI),v=.agg (Expr.cells (ak.go m offices x) rr0).toArray∧Expr.ok h' (ak.go m offices x) rr0)
 | 0,h,offices,cB,cA,x,fe,hd,hoffices,hx,hsz=>absurd hd (Nat.not_le.2 (Expr.jR _))
 | m+1,h,offices,cB,cA,x,fe,hd,hoffices,hx,hsz=>sH (ak.go m) h offices cB cA x fe (fun qh_ qoffices iC iB qx jq qhoffices qhx qhsz qd=>mL m qh_ qoffices iC iB qx jq ob qhoffices qhx qhsz) hoffices hx hsz
theorem oq (h:HF) (offices:(List ByteArray)) (cB:Option Addr) (cA:Nat) (x:Expr) (fe:cI) (hoffices:SlC Rp.str h cB cA offices) (hx:Expr.ok h x fe) (hsz:x.dep≤2000000):jK Tryz.prog 230 [.slice cB offices.length cA,.agg (Expr.cells x fe).toArray] h (fun v h'=>∃ (rr0:cI),v=.agg (Expr.cells (ak offices x) rr0).toArray∧Expr.ok h' (ak offices x) rr0):=mL _ h offices cB cA x fe (Nat.le_refl _) hoffices hx hsz
end Go.Sg
namespace Go.Sg
open Go.Proofs
set_option maxHeartbeats 2000000
set_option maxRecDepth 100000
set_option linter.unusedVariables false
theorem ut (h:HF) (p:Policy) (fb:eO) (hp:Policy.ok h p fb) (hsm:smP p):jK Tryz.prog 189 [.agg (Policy.cells p fb).toArray] h (fun v h'=>∃ (rr0:eO),v=.tuple #[.agg (Policy.cells ((dh p).1) rr0).toArray,I ((dh p).2)]∧Policy.ok h' ((dh p).1) rr0):=by
 refine ay Ds U Tryz.ntmps189 U fun X hM hX=>?_
 have hs0:dh p=dh p:=rfl
 have hsc:=hsm.change
 have hsr:=hsm.rules
 refine sr (dy (fun b1=>bX zc68 (fun b2=>an (ae (sr (dq 1 ty68 U U U (aG (v:=.bool (eQ p)) Tryz.call227 (tF h p fb hp) U (ac ?_))))))))
 refine aE U (fun c1=>?_) (fun c1=>?_)
 ·have hs1:=hs0.trans (bt c1)
  refine sr (a8 (fw (cells:=[.string (⟨#[]⟩:ByteArray),.slice none 0 0,.slice none 0 0,.slice none 0 0,I 0,I 0,I 0,.string (⟨#[]⟩:ByteArray),.slice none 0 0,I 0]) (places:=[(0,1),(1,1),(2,1),(3,1),(4,5),(9,1)]) DM zc68 kr kr ?_))
  refine bN 0 ty68 U U U U U U (an ?_)
  have hs2:dh p=((Policy.mk (⟨#[]⟩:ByteArray) ([]) ([]) ([]) (Expr.mk 0 0 0 (⟨#[]⟩:ByteArray) ([])) 0),2):=hs1
  exact dS [.agg (List.toArray [.string (⟨#[]⟩:ByteArray),.slice none 0 0,.slice none 0 0,.slice none 0 0,I 0,I 0,I 0,.string (⟨#[]⟩:ByteArray),.slice none 0 0,I 0]),I 2] Ds U ⟨⟨0,_,_,_,_,U,U,.inl ⟨ty68,U⟩⟩,U,trivial⟩ ⟨(eO.mk none 0 none 0 none 0 (cI.mk none 0)),congrArg (fun r:(Policy×Int)=>(.tuple #[.agg (Policy.cells r.1 (eO.mk none 0 none 0 none 0 (cI.mk none 0))).toArray,I r.2]:Value)) hs2.symm,(by rw [hs2];exact (show Policy.ok h (Policy.mk (⟨#[]⟩:ByteArray) ([]) ([]) ([]) (Expr.mk 0 0 0 (⟨#[]⟩:ByteArray) ([])) 0) (eO.mk none 0 none 0 none 0 (cI.mk none 0)) from ⟨SlC.nil,SlC.nil,SlC.nil,(show Expr.ok h (Expr.mk 0 0 0 (⟨#[]⟩:ByteArray) ([])) (cI.mk none 0) from Expr.ok.of SlC.nil)⟩))⟩
 ·have hs3:=hs0.trans (bf c1)
  refine ao (ae (sr (dq 1 ty68 U U U (aG (v:=.bool (fG p)) Tryz.call228 (wD h p fb hp) U (cV U (ac ?_))))))
  refine aE U (fun c2=>?_) (fun c2=>?_)
  ·have hs4:=hs3.trans (bt c2)
   refine sr (a8 (fw (cells:=[.string (⟨#[]⟩:ByteArray),.slice none 0 0,.slice none 0 0,.slice none 0 0,I 0,I 0,I 0,.string (⟨#[]⟩:ByteArray),.slice none 0 0,I 0]) (places:=[(0,1),(1,1),(2,1),(3,1),(4,5),(9,1)]) DM zc68 kr kr ?_))
   refine bN 0 ty68 U U U U U U (an ?_)
   have hs5:dh p=((Policy.mk (⟨#[]⟩:ByteArray) ([]) ([]) ([]) (Expr.mk 0 0 0 (⟨#[]⟩:ByteArray) ([])) 0),201):=hs4
   exact dS [.agg (List.toArray [.string (⟨#[]⟩:ByteArray),.slice none 0 0,.slice none 0 0,.slice none 0 0,I 0,I 0,I 0,.string (⟨#[]⟩:ByteArray),.slice none 0 0,I 0]),I 201] Ds U ⟨⟨0,_,_,_,_,U,U,.inl ⟨ty68,U⟩⟩,U,trivial⟩ ⟨(eO.mk none 0 none 0 none 0 (cI.mk none 0)),congrArg (fun r:(Policy×Int)=>(.tuple #[.agg (Policy.cells r.1 (eO.mk none 0 none 0 none 0 (cI.mk none 0))).toArray,I r.2]:Value)) hs5.symm,(by rw [hs5];exact (show Policy.ok h (Policy.mk (⟨#[]⟩:ByteArray) ([]) ([]) ([]) (Expr.mk 0 0 0 (⟨#[]⟩:ByteArray) ([])) 0) (eO.mk none 0 none 0 none 0 (cI.mk none 0)) from ⟨SlC.nil,SlC.nil,SlC.nil,(show Expr.ok h (Expr.mk 0 0 0 (⟨#[]⟩:ByteArray) ([])) (cI.mk none 0) from Expr.ok.of SlC.nil)⟩))⟩
  ·have hs6:=hs3.trans (bf c2)
   refine ao (ae (sr (dq 1 ty68 U U U (aG (v:=.bool (fj p)) Tryz.call229 (vE h p fb hp) U (cV U (ac ?_))))))
   refine aE U (fun c3=>?_) (fun c3=>?_)
   ·have hs7:=hs6.trans (bt c3)
    refine sr (a8 (fw (cells:=[.string (⟨#[]⟩:ByteArray),.slice none 0 0,.slice none 0 0,.slice none 0 0,I 0,I 0,I 0,.string (⟨#[]⟩:ByteArray),.slice none 0 0,I 0]) (places:=[(0,1),(1,1),(2,1),(3,1),(4,5),(9,1)]) DM zc68 kr kr ?_))
    refine bN 0 ty68 U U U U U U (an ?_)
    have hs8:dh p=((Policy.mk (⟨#[]⟩:ByteArray) ([]) ([]) ([]) (Expr.mk 0 0 0 (⟨#[]⟩:ByteArray) ([])) 0),200):=hs7
    exact dS [.agg (List.toArray [.string (⟨#[]⟩:ByteArray),.slice none 0 0,.slice none 0 0,.slice none 0 0,I 0,I 0,I 0,.string (⟨#[]⟩:ByteArray),.slice none 0 0,I 0]),I 200] Ds U ⟨⟨0,_,_,_,_,U,U,.inl ⟨ty68,U⟩⟩,U,trivial⟩ ⟨(eO.mk none 0 none 0 none 0 (cI.mk none 0)),congrArg (fun r:(Policy×Int)=>(.tuple #[.agg (Policy.cells r.1 (eO.mk none 0 none 0 none 0 (cI.mk none 0))).toArray,I r.2]:Value)) hs8.symm,(by rw [hs8];exact (show Policy.ok h (Policy.mk (⟨#[]⟩:ByteArray) ([]) ([]) ([]) (Expr.mk 0 0 0 (⟨#[]⟩:ByteArray) ([])) 0) (eO.mk none 0 none 0 none 0 (cI.mk none 0)) from ⟨SlC.nil,SlC.nil,SlC.nil,(show Expr.ok h (Expr.mk 0 0 0 (⟨#[]⟩:ByteArray) ([])) (cI.mk none 0) from Expr.ok.of SlC.nil)⟩))⟩
   ·have hs9:=hs6.trans (bf c3)
    refine ao (sr (dq 1 ty68 U U U (bX zc68 (fun b3=>bN 0 ty68 U U U U U U (ac (sr (az e9 U (dW 0 ty63 U U U U U U (ac (ae (sr (an ?_))))))))))))
    let z1:Nat×Obj:=(b2,O [.string (⟨#[]⟩:ByteArray),.slice none 0 0,.slice none 0 0,.slice none 0 0,I 0,I 0,I 0,.string (⟨#[]⟩:ByteArray),.slice none 0 0,I 0] 68)
    let z7:Nat×Obj:=(b1,O (Policy.cells p fb) 68)
    refine br (ι:=Nat×(List Rule)×Option Addr×Nat×LH×HF) (fun i=>[(1,Q b1),(2,Q b2),(4,Q b3)]) (fun i=>i.2.2.2.2.2) (fun i=>[(b3,O [.string p.Name,.slice fb.fN p.Kinds.length fb.fM,.slice fb.dP p.Offices.length fb.dO,.slice i.2.2.1 i.2.1.length i.2.2.2.1,I p.Change.Kind,I p.Change.N,I p.Change.No,.string p.Change.Name,.slice fb.Change.ir p.Change.L.length fb.Change.iE,I p.Mode] 68),z1,z7]++(i.2.2.2.2.1)) (fun i=>i.1≤p.Rules.length∧dh p=((dh.K1 p) i.2.1)∧ep Rule.rp 107 i.2.2.2.2.2 i.2.1 i.2.2.1 i.2.2.2.1 i.2.2.2.2.1∧i.2.1.length≤0+i.1∧HF.le h i.2.2.2.2.2) ?_ (fun hx1=>?_)
    ·rintro ⟨i1,jZ,me,md,rk,hh1⟩ ⟨bd,hs10,ph,xq,hl1⟩ e
     try dsimp only at bd ph xq hl1
     try dsimp only
     refine sr (az jv U (aO 2 ty62 U U U (az lC U (dq 2 ty66 U U U (a8 (dg Ai (oq hh1 p.Offices fb.dP fb.dO p.Change fb.Change (hp.Offices.mono Rp.gg hl1) (hp.Change.mono hl1) ob) U (fun v3 h4 hle4 hp3=>?_)))))))
     obtain ⟨rr4,rfl,ok4⟩:=hp3
     let z3:Nat×Obj:=(b3,O [.string p.Name,.slice fb.fN p.Kinds.length fb.fM,.slice fb.dP p.Offices.length fb.dO,.slice me jZ.length md,I ((ak p.Offices p.Change).Kind),I ((ak p.Offices p.Change).N),I ((ak p.Offices p.Change).No),.string ((ak p.Offices p.Change).Name),.slice rr4.ir ((ak p.Offices p.Change).L.length) rr4.iE,I p.Mode] 68)
     let z4:Nat×Obj:=(b2,O [.string p.Name,.slice fb.fN p.Kinds.length fb.fM,.slice fb.dP p.Offices.length fb.dO,.slice me jZ.length md,I ((ak p.Offices p.Change).Kind),I ((ak p.Offices p.Change).N),I ((ak p.Offices p.Change).No),.string ((ak p.Offices p.Change).Name),.slice rr4.ir ((ak p.Offices p.Change).L.length) rr4.iE,I p.Mode] 68)
     refine az lC U (dW 0 ty66 U U U U U U (ac (sr (dq 0 ty68 U U U (bN 1 ty68 U U U U U U (iv (L':=[z3,z4,z7]++(rk)) U ?_))))))
     refine an ?_
     refine gj Rule.aN ([z3,z4,z7]) rk ([]) ap hM (ph.mono Rule.aN hle4) (fun h5 hle5 sl2=>?_)
     have hs11:dh p=((Policy.mk p.Name p.Kinds p.Offices jZ (Expr.mk ((ak p.Offices p.Change).Kind) ((ak p.Offices p.Change).N) ((ak p.Offices p.Change).No) ((ak p.Offices p.Change).Name) ((ak p.Offices p.Change).L)) p.Mode),0):=hs10
     exact dS [.agg (List.toArray [.string p.Name,.slice fb.fN p.Kinds.length fb.fM,.slice fb.dP p.Offices.length fb.dO,.slice me jZ.length md,I ((ak p.Offices p.Change).Kind),I ((ak p.Offices p.Change).N),I ((ak p.Offices p.Change).No),.string ((ak p.Offices p.Change).Name),.slice rr4.ir ((ak p.Offices p.Change).L.length) rr4.iE,I p.Mode]),I 0] Ds U ⟨⟨1,_,_,_,_,U,U,.inl ⟨ty68,U⟩⟩,U,trivial⟩ ⟨(eO.mk fb.fN fb.fM fb.dP fb.dO me md (cI.mk rr4.ir rr4.iE)),congrArg (fun r:(Policy×Int)=>(.tuple #[.agg (Policy.cells r.1 (eO.mk fb.fN fb.fM fb.dP fb.dO me md (cI.mk rr4.ir rr4.iE))).toArray,I r.2]:Value)) hs11.symm,(by rw [hs11];exact (show Policy.ok h5 (Policy.mk p.Name p.Kinds p.Offices jZ (Expr.mk ((ak p.Offices p.Change).Kind) ((ak p.Offices p.Change).N) ((ak p.Offices p.Change).No) ((ak p.Offices p.Change).Name) ((ak p.Offices p.Change).L)) p.Mode) (eO.mk fb.fN fb.fM fb.dP fb.dO me md (cI.mk rr4.ir rr4.iE)) from ⟨(hp.Kinds.mono Rp.gg ((hl1.t hle4).t hle5)),(hp.Offices.mono Rp.gg ((hl1.t hle4).t hle5)),sl2,(show Expr.ok h5 (Expr.mk ((ak p.Offices p.Change).Kind) ((ak p.Offices p.Change).N) ((ak p.Offices p.Change).No) ((ak p.Offices p.Change).Name) ((ak p.Offices p.Change).L)) (cI.mk rr4.ir rr4.iE) from Expr.ok.of (ok4.list.mono Expr.aN hle5))⟩))⟩
    ·refine cp (ι:=Nat×(List Rule)×Option Addr×Nat×LH×HF×List Rule) (fun i=>[(1,Q b1),(2,Q b2),(4,Q b3),(5,I ((i.1:Nat):Int))]) (fun i=>i.2.2.2.2.2.1) (fun i=>[(b3,O [.string p.Name,.slice fb.fN p.Kinds.length fb.fM,.slice fb.dP p.Offices.length fb.dO,.slice i.2.2.1 i.2.1.length i.2.2.2.1,I p.Change.Kind,I p.Change.N,I p.Change.No,.string p.Change.Name,.slice fb.Change.ir p.Change.L.length fb.Change.iE,I p.Mode] 68),z1,z7]++(i.2.2.2.2.1)) (fun i=>p.Rules.drop i.1=i.2.2.2.2.2.2∧i.1≤p.Rules.length∧dh p=((dh.L1 p (dh.K1 p)) i.2.2.2.2.2.2 i.1 i.2.1)∧ep Rule.rp 107 i.2.2.2.2.2.1 i.2.1 i.2.2.1 i.2.2.2.1 i.2.2.2.2.1∧i.2.1.length≤0+i.1∧HF.le h i.2.2.2.2.2.1) (fun i=>i.2.2.2.2.2.2.length) (0,[],none,0,[],h,p.Rules) rd sw ⟨U,Nat.zero_le _,hs9,ep.nil,lo,(HF.le_refl h)⟩ ?_
     rintro ⟨i1,jZ,me,md,rk,hh1,s1⟩ ⟨hd1,bd,hs12,ph,xq,hl1⟩ ag1 e
     try dsimp only at hd1 bd ph xq hl1
     rcases s1 with _ | ⟨y1,rz1⟩
     ·have dI:=cU hd1
      try dsimp only
      refine ae (sr (aa (az e9 U (aO 2 ty63 U U U (bC jJ U (aB (v':=.bool false) U (cb dI) (ac (bg U (bO U ?_)))))))))
      exact hx1 (i1,jZ,me,md,rk,hh1) _ ⟨bd,hs12,ph,lo,hl1⟩ rd
     ·have dH:=dY hd1
      have bh:=cY hd1
      have eT:=aT hd1
      have gx:=hp.Rules.1.1
      have hsy:=hsm.2.1 y1 (gm hd1)
      try dsimp only
      refine ae (sr (aa (az e9 U (aO 2 ty63 U U U (bC jJ U (aB (v':=.bool true) U (cb dH) (ac (bn U (ao (ae (aW (sr (az e9 U (aO 2 ty63 U U U ?_))))))))))))))
      refine aa (a8 (gL jJ ty107 (hp.Rules.mono Rule.aN hl1).1 (nthZ bh) (bB bh) U U U (fun q2 cs2 A2 ln2 rr5=>?_)))
      obtain ⟨r2,rfl,ok5⟩:=rr5
      let z2:Nat×Obj:=(b3,O [.string p.Name,.slice fb.fN p.Kinds.length fb.fM,.slice fb.dP p.Offices.length fb.dO,.slice me jZ.length md,I p.Change.Kind,I p.Change.N,I p.Change.No,.string p.Change.Name,.slice fb.Change.ir p.Change.L.length fb.Change.iE,I p.Mode] 68)
      refine ed ty107 A2 U U (bX zc107 (fun b6=>bN 0 ty107 U U U U U U (iv (L':=[(b6,O (Rule.cells y1 r2) 107),z2,z1,z7]++(rk)) U ?_)))
      refine ac (sr (aa (az rv U (dW 0 ty3 U U U U U U (ac (sr (az jv U (aO 3 ty62 U U U (az ka U (dq 0 ty66 U U U (a8 (dg Ai (oq hh1 p.Offices fb.dP fb.dO y1.Expr r2.Expr (hp.Offices.mono Rp.gg hl1) ok5.Expr ob) U (fun v4 h6 hle6 hp4=>?_)))))))))))))
      obtain ⟨rr6,rfl,ok6⟩:=hp4
      refine az ka U (dW 0 ty66 U U U U U U (ac (ai (az e9 U (aO 1 ty63 U U U (dq 0 ty107 U U U (a8 (ck (cells:=[.string y1.Kind,I ((i1:Nat):Int),I y1.Think,I ((ak p.Offices y1.Expr).Kind),I ((ak p.Offices y1.Expr).N),I ((ak p.Offices y1.Expr).No),.string ((ak p.Offices y1.Expr).Name),.slice rr6.ir ((ak p.Offices y1.Expr).L.length) rr6.iE]) jJ ty107 zc107 U U kr (fun b7=>?_)))))))))
      let z5:Nat×Obj:=(b7,O [.string y1.Kind,I ((i1:Nat):Int),I y1.Think,I ((ak p.Offices y1.Expr).Kind),I ((ak p.Offices y1.Expr).N),I ((ak p.Offices y1.Expr).No),.string ((ak p.Offices y1.Expr).Name),.slice rr6.ir ((ak p.Offices y1.Expr).L.length) rr6.iE] 107)
      let z6:Nat×Obj:=(b6,O [.string y1.Kind,I ((i1:Nat):Int),I y1.Think,I ((ak p.Offices y1.Expr).Kind),I ((ak p.Offices y1.Expr).N),I ((ak p.Offices y1.Expr).No),.string ((ak p.Offices y1.Expr).Name),.slice rr6.ir ((ak p.Offices y1.Expr).L.length) rr6.iE] 107)
      refine a8 (eK Rule.e5 ([z5,z6,z2,z1,z7]) ([]) (fun G=>[z5,z6,z2,z1,z7]++(G)) ap (fun _=>ap) jJ ty107 zc107 U bytes107 (ph.mono Rule.aN hle6) U U (eZ 0 U (show bV Rule.rp h6 [.string y1.Kind,I ((i1:Nat):Int),I y1.Think,I ((ak p.Offices y1.Expr).Kind),I ((ak p.Offices y1.Expr).N),I ((ak p.Offices y1.Expr).No),.string ((ak p.Offices y1.Expr).Name),.slice rr6.ir ((ak p.Offices y1.Expr).L.length) rr6.iE] ([(Rule.mk y1.Kind ((i1:Nat):Int) y1.Think (Expr.mk ((ak p.Offices y1.Expr).Kind) ((ak p.Offices y1.Expr).N) ((ak p.Offices y1.Expr).No) ((ak p.Offices y1.Expr).Name) ((ak p.Offices y1.Expr).L)))]) from ⟨[.string y1.Kind,I ((i1:Nat):Int),I y1.Think,I ((ak p.Offices y1.Expr).Kind),I ((ak p.Offices y1.Expr).N),I ((ak p.Offices y1.Expr).No),.string ((ak p.Offices y1.Expr).Name),.slice rr6.ir ((ak p.Offices y1.Expr).L.length) rr6.iE],[],U,U,⟨(ul.mk (cI.mk rr6.ir rr6.iE)),U,(show Rule.ok h6 (Rule.mk y1.Kind ((i1:Nat):Int) y1.Think (Expr.mk ((ak p.Offices y1.Expr).Kind) ((ak p.Offices y1.Expr).N) ((ak p.Offices y1.Expr).No) ((ak p.Offices y1.Expr).Name) ((ak p.Offices y1.Expr).L))) (ul.mk (cI.mk rr6.ir rr6.iE)) from ⟨(show Expr.ok h6 (Expr.mk ((ak p.Offices y1.Expr).Kind) ((ak p.Offices y1.Expr).N) ((ak p.Offices y1.Expr).No) ((ak p.Offices y1.Expr).Name) ((ak p.Offices y1.Expr).L)) (cI.mk rr6.ir rr6.iE) from Expr.ok.of ok6.list)⟩)⟩,U⟩)) lo lo (fun ob2 oc2 G2 gr2=>?_))
      refine az e9 U (dW 2 ty63 U U U U U U (ac (av (ai (aa (aB (v':=I (((i1+1):Nat):Int)) U (bW ob) (an ?_)))))))
      refine cE (L':=[(b3,O [.string p.Name,.slice fb.fN p.Kinds.length fb.fM,.slice fb.dP p.Offices.length fb.dO,.slice ob2 ((jZ++[(Rule.mk y1.Kind ((i1:Nat):Int) y1.Think (Expr.mk ((ak p.Offices y1.Expr).Kind) ((ak p.Offices y1.Expr).N) ((ak p.Offices y1.Expr).No) ((ak p.Offices y1.Expr).Name) ((ak p.Offices y1.Expr).L)))]).length) oc2,I p.Change.Kind,I p.Change.N,I p.Change.No,.string p.Change.Name,.slice fb.Change.ir p.Change.L.length fb.Change.iE,I p.Mode] 68),z1,z7]++(G2)) js ?_
      exact ag1 ((i1+1),(jZ++[(Rule.mk y1.Kind ((i1:Nat):Int) y1.Think (Expr.mk ((ak p.Offices y1.Expr).Kind) ((ak p.Offices y1.Expr).N) ((ak p.Offices y1.Expr).No) ((ak p.Offices y1.Expr).Name) ((ak p.Offices y1.Expr).L)))]),ob2,oc2,G2,h6,rz1) _ (Nat.lt_succ_self _) ⟨bF hd1,aT hd1,hs12,gr2,lo,(hl1.t hle6)⟩ rd
theorem nH (h:HF) (a:(List ByteArray)) (If:Option Addr) (Ie:Nat) (gv:(List ByteArray)) (xP:Option Addr) (xO:Nat) (ha:SlC Rp.str h If Ie a) (sc:SlC Rp.str h xP xO gv):Ret Tryz.prog 231 [.slice If a.length Ie,.slice xP gv.length xO] h (.bool (dD a gv)):=by
 refine ay Cy U Tryz.ntmps231 U fun X hM hX=>?_
 have hs0:dD a gv=dD a gv:=rfl
 refine sr (an (ae (sr (aa (bC kL U (aa (bC kL U (aJ U (ac ?_)))))))))
 refine aE U (fun c1=>?_) (fun c1=>?_)
 ·have hs1:=hs0.trans (bt c1)
  refine sr (an ?_)
  exact aw [.bool false] Cy U hX rd (cs hs1)
 ·have hs3:=hs0.trans (bf c1)
  refine ao (ae (sr (an ?_)))
  refine br (ι:=Nat) (fun i=>[]) (fun i=>h) (fun i=>[]) (fun i=>i≤a.length∧dD a gv=((dD.K1))) ?_ (fun hx1=>?_)
  ·rintro i1 ⟨bd,hs4⟩ e
   try dsimp only at bd
   try dsimp only
   refine sr (an ?_)
   exact aw [.bool true] Cy U hX rd (cs hs4)
  ·refine cp (ι:=Nat×List ByteArray) (fun i=>[(0,.slice If a.length Ie),(1,.slice xP gv.length xO),(5,I ((i.1:Nat):Int))]) (fun i=>h) (fun i=>[]) (fun i=>a.drop i.1=i.2∧i.1≤a.length∧dD a gv=((dD.L1 gv (dD.K1)) i.2 i.1)) (fun i=>i.2.length) (0,a) rd sw ⟨U,Nat.zero_le _,hs3⟩ ?_
   rintro ⟨i1,s1⟩ ⟨hd1,bd,hs6⟩ ag1 e
   try dsimp only at hd1 bd
   rcases s1 with _ | ⟨y1,rz1⟩
   ·have dI:=cU hd1
    try dsimp only
    refine ae (sr (aa (aa (bC kL U (aB (v':=.bool false) U (cb dI) (ac (bg U (bO U ?_))))))))
    exact hx1 i1 _ ⟨bd,hs6⟩ trivial
   ·have dH:=dY hd1
    have bh:=cY hd1
    have eT:=aT hd1
    have gx:=ha.1.1
    try dsimp only
    refine ae (sr (aa (aa (bC kL U (aB (v':=.bool true) U (cb dH) (ac (bn U (ao (ae (aW (ae ?_)))))))))))
    refine ga ([]) mixed kr jn (fun eX _=>?_)
    refine tm 0 U (tm 1 U (fA 2 (enc:=fun y=>[.string y]) eX jn (fun _ _ _ e=>e) kL ty9 ha.1 (nthZ bh) (bB bh) U U U U kr (fun q3 A3=>?_)))
    refine tf 3 U U (fun _ _ hj=>gd ty9 (A3.mono hj.1) U) (tm 4 U (tm 5 U ?_))
    have ho2:0≤(((i1:Nat):Int):Int)∧(((i1:Nat):Int):Int) < ((gv).length:Int):=ob
    refine fA 6 (enc:=fun y=>[.string y]) eX jn (fun _ _ _ e=>e) kL ty9 sc.1 ho2 (eA ho2) U U U U kr (fun q4 A4=>tf 7 U U (fun _ _ hj=>gd ty9 (A4.mono hj.1) U) ?_)
    refine tf 8 U U (fun _ _ _=>ib U) (bY kr ?_)
    refine aE U (fun c3=>?_) (fun c3=>?_)
    ·have hs8:=hs6.trans (bt c3)
     refine sr (an ?_)
     exact aw [.bool false] Cy U hX rd (cs hs8)
    ·have hs10:=hs6.trans (bf c3)
     refine ao (av (ai (aa (aB (v':=I (((i1+1):Nat):Int)) U (bW ob) ?_))))
     refine an ?_
     exact ag1 ((i1+1),rz1) _ (Nat.lt_succ_self _) ⟨bF hd1,aT hd1,hs10⟩ rd
theorem sI (rec:Expr→Expr→Bool) (h:HF) (a:Expr) (xX:cI) (gv:Expr) (k9:cI) (hrec:∀ (h:HF) (qa:Expr) (Hd:cI) (FL:Expr) (zC:cI) (hqa:Expr.ok h qa Hd) (IK:Expr.ok h FL zC) (_:qa.dep < a.dep),Ret Tryz.prog 232 [.agg (Expr.cells qa Hd).toArray,.agg (Expr.cells FL zC).toArray] h (.bool (rec qa FL))) (ha:Expr.ok h a xX) (sc:Expr.ok h gv k9):Ret Tryz.prog 232 [.agg (Expr.cells a xX).toArray,.agg (Expr.cells gv k9).toArray] h (.bool (bM.F rec a gv)):=by
 refine ay Cw U Tryz.ntmps232 U fun X hM hX=>?_
 have hs0:bM.F rec a gv=bM.F rec a gv:=rfl
 refine sr (dy (fun b1=>dy (fun b2=>an (ae (sr (az kE U (aO 1 ty3 U U U (az kE U (aO 0 ty3 U U U (aJ U (aa ?_)))))))))))
 refine tq 6 [(2,Q b1),(3,Q b2),(17,.bool ((a.Kind != gv.Kind)||(a.N != gv.N)))] (fun hk1=>?_) (fun e=>?_)
 ·refine ar 11 U (fun c1=>?_) (fun c1=>?_)
  ·refine kq (kq (bP (ah U ?_)))
   exact hk1 _ ⟨U,U,(cb (dL c1)),trivial⟩
  ·refine az j0 U (aO 1 ty3 U U U (az j0 U (aO 0 ty3 U U U (aJ U (ah U ?_)))))
   exact hk1 _ ⟨U,U,(cb (dM c1)),trivial⟩
 refine aa ?_
 refine tq 6 [(2,Q b1),(3,Q b2),(24,.bool (((a.Kind != gv.Kind)||(a.N != gv.N))||(a.No != gv.No)))] (fun hk2=>?_) (fun e=>?_)
 ·refine ar 18 U (fun c2=>?_) (fun c2=>?_)
  ·refine kq (kq (bP (ah U ?_)))
   exact hk2 _ ⟨U,U,(cb (dL c2)),trivial⟩
  ·refine az mI U (aO 1 ty3 U U U (az mI U (aO 0 ty3 U U U (aJ U (ah U ?_)))))
   exact hk2 _ ⟨U,U,(cb (dM c2)),trivial⟩
 refine aa ?_
 refine tq 6 [(2,Q b1),(3,Q b2),(31,.bool ((((a.Kind != gv.Kind)||(a.N != gv.N))||(a.No != gv.No))||(!(a.Name.toList==gv.Name.toList))))] (fun hk3=>?_) (fun e=>?_)
 ·refine ar 25 U (fun c3=>?_) (fun c3=>?_)
  ·refine kq (kq (bP (ah U ?_)))
   exact hk3 _ ⟨U,U,(cb (dL c3)),trivial⟩
  ·refine az mi U (aO 1 ty9 U U U (az mi U (aO 0 ty9 U U U (aJ U (ah U ?_)))))
   exact hk3 _ ⟨U,U,(cb (dM c3)),trivial⟩
 refine aa ?_
 refine tq 8 [(2,Q b1),(3,Q b2),(40,.bool (((((a.Kind != gv.Kind)||(a.N != gv.N))||(a.No != gv.No))||(!(a.Name.toList==gv.Name.toList)))||(((a.L.length:Nat):Int) != ((gv.L.length:Nat):Int))))] (fun hk4=>?_) (fun e=>?_)
 ·refine ar 32 U (fun c4=>?_) (fun c4=>?_)
  ·refine kq (kq (kq (bP (ah U ?_))))
   exact hk4 _ ⟨U,U,(cb (dL c4)),trivial⟩
  ·refine az dE U (aO 1 ty64 U U U (bC fT U (az dE U (aO 0 ty64 U U U (bC fT U (aJ U (ah U ?_)))))))
   exact hk4 _ ⟨U,U,(cb (dM c4)),trivial⟩
 refine ac ?_
 refine aE U (fun c5=>?_) (fun c5=>?_)
 ·have hs1:=hs0.trans (bt c5)
  refine sr (an ?_)
  exact aw [.bool false] Cw U hX rd (cs hs1)
 ·have hs3:=hs0.trans (bf c5)
  refine ao (ae (sr (an ?_)))
  let z1:Nat×Obj:=(b2,O (Expr.cells gv k9) 66)
  let z2:Nat×Obj:=(b1,O (Expr.cells a xX) 66)
  refine br (ι:=Nat) (fun i=>[]) (fun i=>h) (fun i=>[z1,z2]) (fun i=>i≤a.L.length∧bM.F rec a gv=((bM.K1))) ?_ (fun hx1=>?_)
  ·rintro i1 ⟨bd,hs4⟩ e
   try dsimp only at bd
   try dsimp only
   refine sr (an ?_)
   exact aw [.bool true] Cw U hX rd (cs hs4)
  ·refine cp (ι:=Nat×List Expr) (fun i=>[(2,Q b1),(3,Q b2),(5,I ((i.1:Nat):Int))]) (fun i=>h) (fun i=>[z1,z2]) (fun i=>a.L.drop i.1=i.2∧i.1≤a.L.length∧bM.F rec a gv=((bM.L1 rec gv (bM.K1)) i.2 i.1)) (fun i=>i.2.length) (0,a.L) rd sw ⟨U,Nat.zero_le _,hs3⟩ ?_
   rintro ⟨i1,s1⟩ ⟨hd1,bd,hs6⟩ ag1 e
   try dsimp only at hd1 bd
   rcases s1 with _ | ⟨y1,rz1⟩
   ·have dI:=cU hd1
    try dsimp only
    refine ae (sr (aa (az dE U (aO 1 ty64 U U U (bC fT U (aB (v':=.bool false) U (cb dI) (ac (bg U (bO U ?_)))))))))
    exact hx1 i1 _ ⟨bd,hs6⟩ trivial
   ·have dH:=dY hd1
    have bh:=cY hd1
    have eT:=aT hd1
    have gx:=ha.list.1.1
    try dsimp only
    refine ae (sr (aa (az dE U (aO 1 ty64 U U U (bC fT U (aB (v':=.bool true) U (cb dH) (ac (bn U (ao (ae (aW (ae ?_))))))))))))
    refine ga ([z1,z2]) mixed kr jn (fun eX _=>?_)
    refine tf 0 U U (fun _ _ _=>dB dE U) (tf 1 U U (fun _ _ hj=>gu ty64 U (hj.nth (i:=1) U) U) (tm 2 U ?_))
    refine iY 3 eX jn fT ty66 ha.list.1 (nthZ bh) (bB bh) U U U U kr (fun q3 cs3 A3 ln3 rr3=>?_)
    obtain ⟨r3,rfl,ok3⟩:=rr3
    refine tf 4 U U (fun _ _ hj=>jP ty66 (A3.mono hj.1) U U) (tf 5 U U (fun _ _ _=>dB dE U) (tf 6 U U (fun _ _ hj=>gu ty64 U (hj.nth (i:=0) U) U) ?_))
    refine tm 7 U ?_
    have ho2:0≤(((i1:Nat):Int):Int)∧(((i1:Nat):Int):Int) < ((gv.L).length:Int):=ob
    refine iY 8 eX jn fT ty66 sc.list.1 ho2 (eA ho2) U U U U kr (fun q4 cs4 A4 ln4 rr4=>?_)
    obtain ⟨r4,rfl,ok4⟩:=rr4
    refine tf 9 U U (fun _ _ hj=>jP ty66 (A4.mono hj.1) U U) (tn 10 U (fu (v:=.bool (rec y1 (nthI gv.L ((i1:Nat):Int)))) Tryz.call232 (hrec h y1 r3 (nthI gv.L ((i1:Nat):Int)) r4 ok3 ok4 (Expr.iq (gm hd1))) U ?_))
    refine ⟨jn,(tf 11 U U (fun _ _ _=>ku U) ?_)⟩
    refine bY kr ?_
    refine aE U (fun c7=>?_) (fun c7=>?_)
    ·have hs8:=hs6.trans (bt c7)
     refine sr (an ?_)
     exact aw [.bool false] Cw U hX rd (cs hs8)
    ·have hs10:=hs6.trans (bf c7)
     refine ao (av (ai (aa (aB (v':=I (((i1+1):Nat):Int)) U (bW ob) ?_))))
     refine an ?_
     exact ag1 ((i1+1),rz1) _ (Nat.lt_succ_self _) ⟨bF hd1,aT hd1,hs10⟩ rd
theorem mM:∀ (m:Nat) (h:HF) (a:Expr) (xX:cI) (gv:Expr) (k9:cI) (_:a.dep≤m) (ha:Expr.ok h a xX) (sc:Expr.ok h gv k9),Ret Tryz.prog 232 [.agg (Expr.cells a xX).toArray,.agg (Expr.cells gv k9).toArray] h (.bool (bM.go m a gv))
 | 0,h,a,xX,gv,k9,hd,ha,sc=>absurd hd (Nat.not_le.2 (Expr.jR _))
 | m+1,h,a,xX,gv,k9,hd,ha,sc=>sI (bM.go m) h a xX gv k9 (fun qh_ qa Hd FL zC qha Ir qd=>mM m qh_ qa Hd FL zC ob qha Ir) ha sc
theorem ow (h:HF) (a:Expr) (xX:cI) (gv:Expr) (k9:cI) (ha:Expr.ok h a xX) (sc:Expr.ok h gv k9):Ret Tryz.prog 232 [.agg (Expr.cells a xX).toArray,.agg (Expr.cells gv k9).toArray] h (.bool (bM a gv)):=mM _ h a xX gv k9 (Nat.le_refl _) ha sc
theorem xZ (h:HF) (a:Policy) (xX:eO) (gv:Policy) (k9:eO) (ha:Policy.ok h a xX) (sc:Policy.ok h gv k9):Ret Tryz.prog 190 [.agg (Policy.cells a xX).toArray,.agg (Policy.cells gv k9).toArray] h (.bool (gk a gv)):=by
 refine ay Cv U Tryz.ntmps190 U fun X hM hX=>?_
 have hs0:gk a gv=gk a gv:=rfl
 refine sr (dy (fun b1=>dy (fun b2=>an (ae (sr (az vV U (aO 1 ty9 U U U (az vV U (aO 0 ty9 U U U (aJ U (aa ?_)))))))))))
 refine tq 6 [(2,Q b1),(3,Q b2),(19,.bool ((!(a.Name.toList==gv.Name.toList))||(a.Mode != gv.Mode)))] (fun hk1=>?_) (fun e=>?_)
 ·refine ar 13 U (fun c1=>?_) (fun c1=>?_)
  ·refine kq (kq (bP (ah U ?_)))
   exact hk1 _ ⟨U,U,(cb (dL c1)),trivial⟩
  ·refine az rI U (aO 1 ty3 U U U (az rI U (aO 0 ty3 U U U (aJ U (ah U ?_)))))
   exact hk1 _ ⟨U,U,(cb (dM c1)),trivial⟩
 refine aa ?_
 refine tq 7 [(2,Q b1),(3,Q b2),(27,.bool (((!(a.Name.toList==gv.Name.toList))||(a.Mode != gv.Mode))||(!(dD a.Offices gv.Offices))))] (fun hk2=>?_) (fun e=>?_)
 ·refine ar 20 U (fun c2=>?_) (fun c2=>?_)
  ·refine kq (kq (kq (ah U ?_)))
   exact hk2 _ ⟨U,U,(cb (dL c2)),trivial⟩
  ·refine az jv U (aO 1 ty62 U U U (az jv U (aO 0 ty62 U U U (aG (v:=.bool (dD a.Offices gv.Offices)) Tryz.call231 (nH h a.Offices xX.dP xX.dO gv.Offices k9.dP k9.dO ha.Offices sc.Offices) U ?_))))
   refine cV U (ah U ?_)
   exact hk2 _ ⟨U,U,(cb (dM c2)),trivial⟩
 refine aa ?_
 refine tq 7 [(2,Q b1),(3,Q b2),(35,.bool ((((!(a.Name.toList==gv.Name.toList))||(a.Mode != gv.Mode))||(!(dD a.Offices gv.Offices)))||(!(dD a.Kinds gv.Kinds))))] (fun hk3=>?_) (fun e=>?_)
 ·refine ar 28 U (fun c3=>?_) (fun c3=>?_)
  ·refine kq (kq (kq (ah U ?_)))
   exact hk3 _ ⟨U,U,(cb (dL c3)),trivial⟩
  ·refine az kD U (aO 1 ty62 U U U (az kD U (aO 0 ty62 U U U (aG (v:=.bool (dD a.Kinds gv.Kinds)) Tryz.call231 (nH h a.Kinds xX.fN xX.fM gv.Kinds k9.fN k9.fM ha.Kinds sc.Kinds) U ?_))))
   refine cV U (ah U ?_)
   exact hk3 _ ⟨U,U,(cb (dM c3)),trivial⟩
 refine aa ?_
 refine tq 8 [(2,Q b1),(3,Q b2),(44,.bool (((((!(a.Name.toList==gv.Name.toList))||(a.Mode != gv.Mode))||(!(dD a.Offices gv.Offices)))||(!(dD a.Kinds gv.Kinds)))||(((a.Rules.length:Nat):Int) != ((gv.Rules.length:Nat):Int))))] (fun hk4=>?_) (fun e=>?_)
 ·refine ar 36 U (fun c4=>?_) (fun c4=>?_)
  ·refine kq (kq (kq (bP (ah U ?_))))
   exact hk4 _ ⟨U,U,(cb (dL c4)),trivial⟩
  ·refine az e9 U (aO 1 ty63 U U U (bC jJ U (az e9 U (aO 0 ty63 U U U (bC jJ U (aJ U (ah U ?_)))))))
   exact hk4 _ ⟨U,U,(cb (dM c4)),trivial⟩
 refine aa ?_
 refine tq 7 [(2,Q b1),(3,Q b2),(52,.bool ((((((!(a.Name.toList==gv.Name.toList))||(a.Mode != gv.Mode))||(!(dD a.Offices gv.Offices)))||(!(dD a.Kinds gv.Kinds)))||(((a.Rules.length:Nat):Int) != ((gv.Rules.length:Nat):Int)))||(!(bM a.Change gv.Change))))] (fun hk5=>?_) (fun e=>?_)
 ·refine ar 45 U (fun c5=>?_) (fun c5=>?_)
  ·refine kq (kq (kq (ah U ?_)))
   exact hk5 _ ⟨U,U,(cb (dL c5)),trivial⟩
  ·refine az lC U (dq 1 ty66 U U U (az lC U (dq 0 ty66 U U U (aG (v:=.bool (bM a.Change gv.Change)) Tryz.call232 (ow h a.Change xX.Change gv.Change k9.Change ha.Change sc.Change) U (cV U ?_)))))
   refine ah U ?_
   exact hk5 _ ⟨U,U,(cb (dM c5)),trivial⟩
 refine ac ?_
 refine aE U (fun c6=>?_) (fun c6=>?_)
 ·have hs1:=hs0.trans (bt c6)
  refine sr (an ?_)
  exact aw [.bool false] Cv U hX rd (cs hs1)
 ·have hs3:=hs0.trans (bf c6)
  refine ao (ae (sr (an ?_)))
  let z1:Nat×Obj:=(b2,O (Policy.cells gv k9) 68)
  let z2:Nat×Obj:=(b1,O (Policy.cells a xX) 68)
  refine br (ι:=Nat) (fun i=>[]) (fun i=>h) (fun i=>[z1,z2]) (fun i=>i≤a.Rules.length∧gk a gv=((gk.K1))) ?_ (fun hx1=>?_)
  ·rintro i1 ⟨bd,hs4⟩ e
   try dsimp only at bd
   try dsimp only
   refine sr (an ?_)
   exact aw [.bool true] Cv U hX rd (cs hs4)
  ·refine cp (ι:=Nat×List Rule) (fun i=>[(2,Q b1),(3,Q b2),(5,I ((i.1:Nat):Int))]) (fun i=>h) (fun i=>[z1,z2]) (fun i=>a.Rules.drop i.1=i.2∧i.1≤a.Rules.length∧gk a gv=((gk.L1 gv (gk.K1)) i.2 i.1)) (fun i=>i.2.length) (0,a.Rules) rd sw ⟨U,Nat.zero_le _,hs3⟩ ?_
   rintro ⟨i1,s1⟩ ⟨hd1,bd,hs6⟩ ag1 e
   try dsimp only at hd1 bd
   rcases s1 with _ | ⟨y1,rz1⟩
   ·have dI:=cU hd1
    try dsimp only
    refine ae (sr (aa (az e9 U (aO 1 ty63 U U U (bC jJ U (aB (v':=.bool false) U (cb dI) (ac (bg U (bO U ?_)))))))))
    exact hx1 i1 _ ⟨bd,hs6⟩ trivial
   ·have dH:=dY hd1
    have bh:=cY hd1
    have eT:=aT hd1
    have gx:=ha.Rules.1.1
    try dsimp only
    refine ae (sr (aa (az e9 U (aO 1 ty63 U U U (bC jJ U (aB (v':=.bool true) U (cb dH) (ac (bn U (ao (ae (aW (sr (az e9 U (aO 1 ty63 U U U ?_))))))))))))))
    refine aa (a8 (gL jJ ty107 ha.Rules.1 (nthZ bh) (bB bh) U U U (fun q3 cs3 A3 ln3 rr3=>?_)))
    obtain ⟨r3,rfl,ok3⟩:=rr3
    refine ed ty107 A3 U U (bX zc107 (fun b5=>bN 0 ty107 U U U U U U (ac (sr (az e9 U (aO 1 ty63 U U U (aa ?_)))))))
    have ho2:0≤(((i1:Nat):Int):Int)∧(((i1:Nat):Int):Int) < ((gv.Rules).length:Int):=ob
    refine a8 (gL jJ ty107 sc.Rules.1 ho2 (eA ho2) U U U (fun q4 cs4 A4 ln4 rr4=>?_))
    obtain ⟨r4,rfl,ok4⟩:=rr4
    refine ed ty107 A4 U U (bX zc107 (fun b6=>bN 0 ty107 U U U U U U (ac (sr (az ub U (aO 1 ty9 U U U (az ub U (aO 0 ty9 U U U (aJ U (aa ?_))))))))))
    refine tq 6 [(2,Q b1),(3,Q b2),(5,I ((i1:Nat):Int)),(6,Q b5),(7,Q b6),(81,.bool ((!(y1.Kind.toList==(nthI gv.Rules ((i1:Nat):Int)).Kind.toList))||(y1.KindNo != (nthI gv.Rules ((i1:Nat):Int)).KindNo)))] (fun hk6=>?_) (fun e=>?_)
    ·refine ar 75 U (fun c7=>?_) (fun c7=>?_)
     ·refine kq (kq (bP (ah U ?_)))
      exact hk6 _ ⟨U,U,U,U,U,(cb (dL c7)),trivial⟩
     ·refine az rv U (aO 1 ty3 U U U (az rv U (aO 0 ty3 U U U (aJ U (ah U ?_)))))
      exact hk6 _ ⟨U,U,U,U,U,(cb (dM c7)),trivial⟩
    refine aa ?_
    refine tq 6 [(2,Q b1),(3,Q b2),(5,I ((i1:Nat):Int)),(6,Q b5),(7,Q b6),(88,.bool (((!(y1.Kind.toList==(nthI gv.Rules ((i1:Nat):Int)).Kind.toList))||(y1.KindNo != (nthI gv.Rules ((i1:Nat):Int)).KindNo))||(y1.Think != (nthI gv.Rules ((i1:Nat):Int)).Think)))] (fun hk7=>?_) (fun e=>?_)
    ·refine ar 82 U (fun c8=>?_) (fun c8=>?_)
     ·refine kq (kq (bP (ah U ?_)))
      exact hk7 _ ⟨U,U,U,U,U,(cb (dL c8)),trivial⟩
     ·refine az mX U (aO 1 ty3 U U U (az mX U (aO 0 ty3 U U U (aJ U (ah U ?_)))))
      exact hk7 _ ⟨U,U,U,U,U,(cb (dM c8)),trivial⟩
    refine aa ?_
    refine tq 7 [(2,Q b1),(3,Q b2),(5,I ((i1:Nat):Int)),(96,.bool ((((!(y1.Kind.toList==(nthI gv.Rules ((i1:Nat):Int)).Kind.toList))||(y1.KindNo != (nthI gv.Rules ((i1:Nat):Int)).KindNo))||(y1.Think != (nthI gv.Rules ((i1:Nat):Int)).Think))||(!(bM y1.Expr ((nthI gv.Rules ((i1:Nat):Int)).Expr)))))] (fun hk8=>?_) (fun e=>?_)
    ·refine ar 89 U (fun c9=>?_) (fun c9=>?_)
     ·refine kq (kq (kq (ah U ?_)))
      exact hk8 _ ⟨U,U,U,(cb (dL c9)),trivial⟩
     ·refine az ka U (dq 1 ty66 U U U (az ka U (dq 0 ty66 U U U (aG (v:=.bool (bM y1.Expr ((nthI gv.Rules ((i1:Nat):Int)).Expr))) Tryz.call232 (ow h y1.Expr r3.Expr ((nthI gv.Rules ((i1:Nat):Int)).Expr) r4.Expr ok3.Expr ok4.Expr) U ?_))))
      refine cV U (ah U ?_)
      exact hk8 _ ⟨U,U,U,(cb (dM c9)),trivial⟩
    refine ac ?_
    refine aE U (fun c10=>?_) (fun c10=>?_)
    ·have hs8:=hs6.trans (bt c10)
     refine sr (an ?_)
     exact aw [.bool false] Cv U hX rd (cs hs8)
    ·have hs10:=hs6.trans (bf c10)
     refine ao (av (ai (aa (aB (v':=I (((i1+1):Nat):Int)) U (bW ob) ?_))))
     refine an ?_
     refine cE (L':=[z1,z2]) js ?_
     exact ag1 ((i1+1),rz1) _ (Nat.lt_succ_self _) ⟨bF hd1,aT hd1,hs10⟩ rd
theorem qQ (h:HF) (p:Policy) (fb:eO) (hp:Policy.ok h p fb) (hsm:smP p):Ret Tryz.prog 116 [.agg (Policy.cells p fb).toArray] h (I (fo p)):=by
 refine ay Cu U Tryz.ntmps116 U fun X hM hX=>?_
 have hs0:fo p=fo p:=rfl
 refine sr (dy (fun b1=>an (sr (dq 0 ty68 U U U (a8 (dg Tryz.call189 (ut h p fb hp ob) U (fun v1 h1 hle1 hp1=>?_)))))))
 obtain ⟨rr1,rfl,ok1⟩:=hp1
 refine aa (bG U U (bG U U (bX zc68 (fun b2=>bN 0 ty68 U U U U U U (an (ae (sr (aa (aJ U (ac ?_))))))))))
 refine aE U (fun c1=>?_) (fun c1=>?_)
 ·have hs1:=hs0.trans (bt c1)
  refine sr (aa (an ?_))
  exact aw [I ((dh p).2)] Cu U hX rd (ci hs1)
 ·have hs3:=hs0.trans (bf c1)
  refine ao (ae (sr (dq 0 ty68 U U U (dq 1 ty68 U U U (aG (v:=.bool (gk ((dh p).1) p)) Tryz.call190 (xZ h1 ((dh p).1) rr1 p fb ok1 (hp.mono hle1)) U (cV U (ac ?_)))))))
  refine aE U (fun c2=>?_) (fun c2=>?_)
  ·have hs4:=hs3.trans (bt c2)
   refine sr (an ?_)
   exact aw [I 200] Cu U hX rd (ci hs4)
  ·have hs6:=hs3.trans (bf c2)
   refine ao (sr (an ?_))
   exact aw [I 0] Cu U hX rd (ci hs6)
theorem tG (h:HF) (l:(List Version)) (eW:Option Addr) (eV:Nat) (hl:SlC Version.rp h eW eV l) (hsm:smV l):Ret Tryz.prog 71 [.slice eW l.length eV] h (I (dp l)):=by
 refine ay Ct U Tryz.ntmps71 U fun X hM hX=>?_
 have hs0:dp l=dp l:=rfl
 refine sr (an (ae (sr (aa (bC lb U (aJ U (ac ?_)))))))
 refine aE U (fun c1=>?_) (fun c1=>?_)
 ·have c1p:=of_decide_eq_true c1
  have hs1:=hs0.trans (bt c1)
  refine sr (an ?_)
  exact aw [I 2] Ct U hX rd (ci hs1)
 ·have c1p:=of_decide_eq_false c1
  have hs3:=hs0.trans (bf c1)
  refine ao (ae (sr (an ?_)))
  refine br (ι:=Nat) (fun i=>[]) (fun i=>h) (fun i=>[]) (fun i=>i≤l.length∧dp l=((dp.K1))) ?_ (fun hx1=>?_)
  ·rintro i1 ⟨bd,hs4⟩ e
   try dsimp only at bd
   try dsimp only
   refine sr (an ?_)
   exact aw [I 0] Ct U hX rd (ci hs4)
  ·refine cp (ι:=Nat×List Version) (fun i=>[(0,.slice eW l.length eV),(3,I ((i.1:Nat):Int))]) (fun i=>h) (fun i=>[]) (fun i=>l.drop i.1=i.2∧i.1≤l.length∧dp l=((dp.L1 l (dp.K1)) i.2 i.1)) (fun i=>i.2.length) (0,l) rd sw ⟨U,Nat.zero_le _,hs3⟩ ?_
   rintro ⟨i1,s1⟩ ⟨hd1,bd,hs6⟩ ag1 e
   try dsimp only at hd1 bd
   rcases s1 with _ | ⟨y1,rz1⟩
   ·have dI:=cU hd1
    try dsimp only
    refine ae (sr (aa (aa (bC lb U (aB (v':=.bool false) U (cb dI) (ac (bg U (bO U ?_))))))))
    exact hx1 i1 _ ⟨bd,hs6⟩ trivial
   ·have dH:=dY hd1
    have bh:=cY hd1
    have eT:=aT hd1
    have gx:=hl.1.1
    have hsy:=hsm.2 y1 (gm hd1)
    try dsimp only
    refine ae (sr (aa (aa (bC lb U (aB (v':=.bool true) U (cb dH) (ac (bn U (ao (ae (aW (sr (aa (aa (a8 (gL lb ty70 hl.1 (nthZ bh) (bB bh) U U U (fun q2 cs2 A2 ln2 rr2=>?_))))))))))))))))
    obtain ⟨r2,rfl,ok2⟩:=rr2
    refine ed ty70 A2 U U (bX zc70 (fun b2=>bN 0 ty70 U U U U U U (ac (ae ?_))))
    refine my [(0,.slice eW l.length eV),(3,I ((i1:Nat):Int)),(58,.bool (((((decide (y1.No < 0)||decide (1048576 < y1.No))||(decide (0 < ((i1:Nat):Int))&&decide (y1.No≤(nthI l (((i1:Nat):Int) - 1)).No)))||(!(ei y1.At)))||(!(ei y1.Known)))||((fo y1.Policy) != 0)))] (fun e=>?_) (fun hk1=>?_)
    rotate_left
    ·let z1:Nat×Obj:=(b2,O (Version.cells y1 r2) 70)
     refine ga ([z1]) mixed kr jn (fun eX _=>?_)
     refine tf 0 U U (fun _ _ _=>dB nt U) (tf 1 U U (fun _ _ hj=>gu ty3 U (hj.nth (i:=0) U) U) (tf 2 U U (fun _ _ _=>ib U) ?_))
     refine tm 3 U ?_
     refine eo 21 U (fun c2=>?_) (fun c2=>?_)
     ·have c2p:=of_decide_eq_true c2
      refine tk 4 U U (tk 5 U U (tk 6 U U (tf 7 U U (fun _ _ _=>co U) ?_)))
      refine tm 8 U (tk 9 U U (tk 10 U U (tk 11 U U ?_)))
      refine tk 12 U U (tk 13 U U (tk 14 U U (tk 15 U U ?_)))
      refine tk 16 U U (tk 17 U U (tk 18 U U (tk 19 U U ?_)))
      refine tk 20 U U (tk 21 U U (tf 22 U U (fun _ _ _=>co U) (tm 23 U ?_)))
      refine tk 24 U U (tk 25 U U (tk 26 U U (tk 27 U U ?_)))
      refine tf 28 U U (fun _ _ _=>co U) (tm 29 U (tk 30 U U ?_))
      refine tk 31 U U (tk 32 U U (tk 33 U U (tf 34 U U (fun _ _ _=>co U) ?_)))
      refine tm 35 U (tk 36 U U (tk 37 U U (tk 38 U U ?_)))
      refine tk 39 U U (tf 40 U U (fun _ _ _=>co U) (bY kr ?_))
      exact hk1 _ ⟨U,U,(cb (show true=(((((decide (y1.No < 0)||decide (1048576 < y1.No))||(decide (0 < ((i1:Nat):Int))&&decide (y1.No≤(nthI l (((i1:Nat):Int) - 1)).No)))||(!(ei y1.At)))||(!(ei y1.Known)))||((fo y1.Policy) != 0)) from by rw [c2] <;> rfl)),trivial⟩
     ·have c2p:=of_decide_eq_false c2
      refine tf 4 U U (fun _ _ _=>dB nt U) (tf 5 U U (fun _ _ hj=>gu ty3 U (hj.nth (i:=0) U) U) (tf 6 U U (fun _ _ _=>ib U) ?_))
      refine tf 7 U U (fun _ _ _=>co U) (tm 8 U ?_)
      refine eo 26 U (fun c3=>?_) (fun c3=>?_)
      ·have c3p:=of_decide_eq_true c3
       refine tk 9 U U (tk 10 U U (tk 11 U U (tk 12 U U ?_)))
       refine tk 13 U U (tk 14 U U (tk 15 U U (tk 16 U U ?_)))
       refine tk 17 U U (tk 18 U U (tk 19 U U (tk 20 U U ?_)))
       refine tk 21 U U (tf 22 U U (fun _ _ _=>co U) (tm 23 U ?_))
       refine tk 24 U U (tk 25 U U (tk 26 U U (tk 27 U U ?_)))
       refine tf 28 U U (fun _ _ _=>co U) (tm 29 U (tk 30 U U ?_))
       refine tk 31 U U (tk 32 U U (tk 33 U U (tf 34 U U (fun _ _ _=>co U) ?_)))
       refine tm 35 U (tk 36 U U (tk 37 U U (tk 38 U U ?_)))
       refine tk 39 U U (tf 40 U U (fun _ _ _=>co U) (bY kr ?_))
       exact hk1 _ ⟨U,U,(cb (show true=(((((decide (y1.No < 0)||decide (1048576 < y1.No))||(decide (0 < ((i1:Nat):Int))&&decide (y1.No≤(nthI l (((i1:Nat):Int) - 1)).No)))||(!(ei y1.At)))||(!(ei y1.Known)))||((fo y1.Policy) != 0)) from by rw [c2,c3] <;> rfl)),trivial⟩
      ·have c3p:=of_decide_eq_false c3
       refine tm 9 U (tf 10 U U (fun _ _ _=>ib U) (tm 11 U ?_))
       refine eo 29 U (fun c4=>?_) (fun c4=>?_)
       ·have c4p:=of_decide_eq_true c4
        refine tm 12 U (tm 13 U (tf 14 U U (fun _ _ _=>mB (v':=I (((i1:Nat):Int) - 1)) U (iu ob)) ?_))
        have ho1:0≤((((i1:Nat):Int) - 1):Int)∧((((i1:Nat):Int) - 1):Int) < ((l).length:Int):=ob
        refine iY 15 eX jn lb ty70 hl.1 ho1 (eA ho1) U U U U kr (fun q3 cs3 A3 ln3 rr3=>?_)
        obtain ⟨r3,rfl,ok3⟩:=rr3
        refine tf 16 U U (fun _ _ _=>dB nt U) (tf 17 U U (fun _ _ hj=>gd ty3 (A3.mono hj.1) U) (tf 18 U U (fun _ _ _=>dB nt U) ?_))
        refine tf 19 U U (fun _ _ hj=>gu ty3 U (hj.nth (i:=0) U) U) (tf 20 U U (fun _ _ _=>ib U) (tf 21 U U (fun _ _ _=>co U) ?_))
        refine tf 22 U U (fun _ _ _=>co U) (tm 23 U ?_)
        refine eo 41 U (fun c5=>?_) (fun c5=>?_)
        ·have c5p:=of_decide_eq_true c5
         refine tk 24 U U (tk 25 U U (tk 26 U U (tk 27 U U ?_)))
         refine tf 28 U U (fun _ _ _=>co U) (tm 29 U (tk 30 U U ?_))
         refine tk 31 U U (tk 32 U U (tk 33 U U (tf 34 U U (fun _ _ _=>co U) ?_)))
         refine tm 35 U (tk 36 U U (tk 37 U U (tk 38 U U ?_)))
         refine tk 39 U U (tf 40 U U (fun _ _ _=>co U) (bY kr ?_))
         exact hk1 _ ⟨U,U,(cb (show true=(((((decide (y1.No < 0)||decide (1048576 < y1.No))||(decide (0 < ((i1:Nat):Int))&&decide (y1.No≤(nthI l (((i1:Nat):Int) - 1)).No)))||(!(ei y1.At)))||(!(ei y1.Known)))||((fo y1.Policy) != 0)) from by rw [c2,c3,c4,c5] <;> rfl)),trivial⟩
        ·have c5p:=of_decide_eq_false c5
         refine tf 24 U U (fun _ _ _=>dB tS U) (tf 25 U U (fun _ _ hj=>gu ty3 U (hj.nth (i:=0) U) U) (tn 26 U ?_))
         refine fu (v:=.bool (ei y1.At)) Dr (lq h y1.At ) U (⟨jn,?_⟩)
         refine tf 27 U U (fun _ _ _=>ku U) (tf 28 U U (fun _ _ _=>co U) (tm 29 U ?_))
         refine eo 47 U (fun c6=>?_) (fun c6=>?_)
         ·refine tk 30 U U (tk 31 U U (tk 32 U U (tk 33 U U ?_)))
          refine tf 34 U U (fun _ _ _=>co U) (tm 35 U (tk 36 U U ?_))
          refine tk 37 U U (tk 38 U U (tk 39 U U (tf 40 U U (fun _ _ _=>co U) ?_)))
          refine bY kr ?_
          exact hk1 _ ⟨U,U,(cb (show true=(((((decide (y1.No < 0)||decide (1048576 < y1.No))||(decide (0 < ((i1:Nat):Int))&&decide (y1.No≤(nthI l (((i1:Nat):Int) - 1)).No)))||(!(ei y1.At)))||(!(ei y1.Known)))||((fo y1.Policy) != 0)) from by rw [c2,c3,c4,c5,c6] <;> rfl)),trivial⟩
         ·refine tf 30 U U (fun _ _ _=>dB vU U) (tf 31 U U (fun _ _ hj=>gu ty3 U (hj.nth (i:=0) U) U) (tn 32 U ?_))
          refine fu (v:=.bool (ei y1.Known)) Dr (lq h y1.Known ) U (⟨jn,?_⟩)
          refine tf 33 U U (fun _ _ _=>ku U) (tf 34 U U (fun _ _ _=>co U) (tm 35 U ?_))
          refine eo 53 U (fun c7=>?_) (fun c7=>?_)
          ·refine tk 36 U U (tk 37 U U (tk 38 U U (tk 39 U U ?_)))
           refine tf 40 U U (fun _ _ _=>co U) (bY kr ?_)
           exact hk1 _ ⟨U,U,(cb (show true=(((((decide (y1.No < 0)||decide (1048576 < y1.No))||(decide (0 < ((i1:Nat):Int))&&decide (y1.No≤(nthI l (((i1:Nat):Int) - 1)).No)))||(!(ei y1.At)))||(!(ei y1.Known)))||((fo y1.Policy) != 0)) from by rw [c2,c3,c4,c5,c6,c7] <;> rfl)),trivial⟩
          ·refine tf 36 U U (fun _ _ _=>dB pV U) (tf 37 U U (fun _ _ hj=>ky ty68 U (hj.nth (i:=0) U) U) (tn 38 U ?_))
           refine fu (v:=I (fo y1.Policy)) Tryz.call116 (qQ h y1.Policy r2.Policy ok2.Policy ob) U ?_
           refine ⟨jn,(tf 39 U U (fun _ _ _=>ib U) ?_)⟩
           refine tf 40 U U (fun _ _ _=>co U) (bY kr ?_)
           exact hk1 _ ⟨U,U,(cb (show ((fo y1.Policy) != 0)=(((((decide (y1.No < 0)||decide (1048576 < y1.No))||(decide (0 < ((i1:Nat):Int))&&decide (y1.No≤(nthI l (((i1:Nat):Int) - 1)).No)))||(!(ei y1.At)))||(!(ei y1.Known)))||((fo y1.Policy) != 0)) from by rw [c2,c3,c4,c5,c6,c7] <;> rfl)),trivial⟩
       ·have c4p:=of_decide_eq_false c4
        refine tk 12 U U (tk 13 U U (tk 14 U U (tk 15 U U ?_)))
        refine tk 16 U U (tk 17 U U (tk 18 U U (tk 19 U U ?_)))
        refine tk 20 U U (tf 21 U U (fun _ _ _=>co U) (tf 22 U U (fun _ _ _=>co U) ?_))
        refine tm 23 U (tf 24 U U (fun _ _ _=>dB tS U) (tf 25 U U (fun _ _ hj=>gu ty3 U (hj.nth (i:=0) U) U) ?_))
        refine tn 26 U (fu (v:=.bool (ei y1.At)) Dr (lq h y1.At ) U (⟨jn,?_⟩))
        refine tf 27 U U (fun _ _ _=>ku U) (tf 28 U U (fun _ _ _=>co U) (tm 29 U ?_))
        refine eo 47 U (fun c8=>?_) (fun c8=>?_)
        ·refine tk 30 U U (tk 31 U U (tk 32 U U (tk 33 U U ?_)))
         refine tf 34 U U (fun _ _ _=>co U) (tm 35 U (tk 36 U U ?_))
         refine tk 37 U U (tk 38 U U (tk 39 U U (tf 40 U U (fun _ _ _=>co U) ?_)))
         refine bY kr ?_
         exact hk1 _ ⟨U,U,(cb (show true=(((((decide (y1.No < 0)||decide (1048576 < y1.No))||(decide (0 < ((i1:Nat):Int))&&decide (y1.No≤(nthI l (((i1:Nat):Int) - 1)).No)))||(!(ei y1.At)))||(!(ei y1.Known)))||((fo y1.Policy) != 0)) from by rw [c2,c3,c4,c8] <;> rfl)),trivial⟩
        ·refine tf 30 U U (fun _ _ _=>dB vU U) (tf 31 U U (fun _ _ hj=>gu ty3 U (hj.nth (i:=0) U) U) (tn 32 U ?_))
         refine fu (v:=.bool (ei y1.Known)) Dr (lq h y1.Known ) U (⟨jn,?_⟩)
         refine tf 33 U U (fun _ _ _=>ku U) (tf 34 U U (fun _ _ _=>co U) (tm 35 U ?_))
         refine eo 53 U (fun c9=>?_) (fun c9=>?_)
         ·refine tk 36 U U (tk 37 U U (tk 38 U U (tk 39 U U ?_)))
          refine tf 40 U U (fun _ _ _=>co U) (bY kr ?_)
          exact hk1 _ ⟨U,U,(cb (show true=(((((decide (y1.No < 0)||decide (1048576 < y1.No))||(decide (0 < ((i1:Nat):Int))&&decide (y1.No≤(nthI l (((i1:Nat):Int) - 1)).No)))||(!(ei y1.At)))||(!(ei y1.Known)))||((fo y1.Policy) != 0)) from by rw [c2,c3,c4,c8,c9] <;> rfl)),trivial⟩
         ·refine tf 36 U U (fun _ _ _=>dB pV U) (tf 37 U U (fun _ _ hj=>ky ty68 U (hj.nth (i:=0) U) U) (tn 38 U ?_))
          refine fu (v:=I (fo y1.Policy)) Tryz.call116 (qQ h y1.Policy r2.Policy ok2.Policy ob) U ?_
          refine ⟨jn,(tf 39 U U (fun _ _ _=>ib U) ?_)⟩
          refine tf 40 U U (fun _ _ _=>co U) (bY kr ?_)
          exact hk1 _ ⟨U,U,(cb (show ((fo y1.Policy) != 0)=(((((decide (y1.No < 0)||decide (1048576 < y1.No))||(decide (0 < ((i1:Nat):Int))&&decide (y1.No≤(nthI l (((i1:Nat):Int) - 1)).No)))||(!(ei y1.At)))||(!(ei y1.Known)))||((fo y1.Policy) != 0)) from by rw [c2,c3,c4,c8,c9] <;> rfl)),trivial⟩
    refine aE U (fun c10=>?_) (fun c10=>?_)
    ·have hs8:=hs6.trans (bt c10)
     refine sr (an ?_)
     exact aw [I 200] Ct U hX rd (ci hs8)
    ·have hs10:=hs6.trans (bf c10)
     refine ao (av (ai (aa (aB (v':=I (((i1+1):Nat):Int)) U (bW ob) (an ?_)))))
     refine cE (L':=[]) js ?_
     exact ag1 ((i1+1),rz1) _ (Nat.lt_succ_self _) ⟨bF hd1,aT hd1,hs10⟩ rd
theorem yc (h:HF) (t:Int)  : Ret Tryz.prog 191 [I t] h (.bool (jp t)):=by
 refine ay Tryz.func191 U Tryz.ntmps191 U fun X hM hX=>?_
 have hs0:jp t=jp t:=rfl
 refine sr (an (sr (aa (aJ U (aa ?_)))))
 refine tq 3 [(8,.bool (decide (0≤t)&&decide (t < 1099511627776)))] (fun hk1=>?_) (fun e=>?_)
 ·refine ar 5 U (fun c1=>?_) (fun c1=>?_)
  ·refine aa (aJ U (ah U ?_))
   exact hk1 _ ⟨(cb (cW c1)),trivial⟩
  ·refine kq (ah U ?_)
   exact hk1 _ ⟨(cb (cX c1)),trivial⟩
 refine an ?_
 exact aw [.bool (decide (0≤t)&&decide (t < 1099511627776))] Tryz.func191 U hX rd (cs hs0)
theorem oN (h:HF) (l:(List Int)) (eW:Option Addr) (eV:Nat) (limit:Int) (hl:SlC Rp.int h eW eV l):Ret Tryz.prog 192 [.slice eW l.length eV,I limit] h (.bool (el l limit)):=by
 refine ay Tryz.func192 U Tryz.ntmps192 U fun X hM hX=>?_
 have hs0:el l limit=el l limit:=rfl
 refine sr (an (ae (sr (an ?_))))
 refine br (ι:=Nat) (fun i=>[(0,.slice eW l.length eV)]) (fun i=>h) (fun i=>[]) (fun i=>i≤l.length∧el l limit=((el.K1 l))) ?_ (fun hx1=>?_)
 ·rintro i1 ⟨bd,hs1⟩ e
  try dsimp only at bd
  try dsimp only
  refine sr (aa (bC eL U (aJ U (an ?_))))
  exact aw [.bool (decide (((l.length:Nat):Int)≤16))] Tryz.func192 U hX rd (cs hs1)
 ·refine cp (ι:=Nat×List Int) (fun i=>[(0,.slice eW l.length eV),(1,I limit),(5,I ((i.1:Nat):Int))]) (fun i=>h) (fun i=>[]) (fun i=>l.drop i.1=i.2∧i.1≤l.length∧el l limit=((el.L1 l limit (el.K1 l)) i.2 i.1)) (fun i=>i.2.length) (0,l) rd sw ⟨U,Nat.zero_le _,hs0⟩ ?_
  rintro ⟨i1,s1⟩ ⟨hd1,bd,hs3⟩ ag1 e
  try dsimp only at hd1 bd
  rcases s1 with _ | ⟨y1,rz1⟩
  ·have dI:=cU hd1
   try dsimp only
   refine ae (sr (aa (aa (bC eL U (aB (v':=.bool false) U (cb dI) (ac (bg U (bO U ?_))))))))
   exact hx1 i1 _ ⟨bd,hs3⟩ rd
  ·have dH:=dY hd1
   have bh:=cY hd1
   have eT:=aT hd1
   have gx:=hl.1.1
   try dsimp only
   refine ae (sr (aa (aa (bC eL U (aB (v':=.bool true) U (cb dH) (ac (bn U (ao (ae (aW (ae ?_)))))))))))
   refine my [(0,.slice eW l.length eV),(1,I limit),(5,I ((i1:Nat):Int)),(40,.bool ((decide (y1 < 0)||decide (limit≤y1))||(decide (0 < ((i1:Nat):Int))&&decide (y1≤(nthI l (((i1:Nat):Int) - 1))))))] (fun e=>?_) (fun hk1=>?_)
   rotate_left
   ·refine ga ([]) mixed kr jn (fun eX _=>?_)
    refine tm 0 U (tm 1 U (fA 2 (enc:=fun y=>[I y]) eX jn (fun _ _ _ e=>e) eL ty3 hl.1 (nthZ bh) (bB bh) U U U U kr (fun q3 A3=>?_)))
    refine tf 3 U U (fun _ _ hj=>gd ty3 (A3.mono hj.1) U) (tf 4 U U (fun _ _ _=>ib U) (tm 5 U ?_))
    refine eo 17 U (fun c1=>?_) (fun c1=>?_)
    ·have c1p:=of_decide_eq_true c1
     refine tk 6 U U (tk 7 U U (tk 8 U U (tk 9 U U ?_)))
     refine tk 10 U U (tk 11 U U (tf 12 U U (fun _ _ _=>co U) (tm 13 U ?_)))
     refine tk 14 U U (tk 15 U U (tk 16 U U (tk 17 U U ?_)))
     refine tk 18 U U (tk 19 U U (tk 20 U U (tk 21 U U ?_)))
     refine tk 22 U U (tk 23 U U (tk 24 U U (tk 25 U U ?_)))
     refine tk 26 U U (tk 27 U U (tf 28 U U (fun _ _ _=>co U) (bY kr ?_)))
     exact hk1 _ ⟨U,U,U,(cb (show true=((decide (y1 < 0)||decide (limit≤y1))||(decide (0 < ((i1:Nat):Int))&&decide (y1≤(nthI l (((i1:Nat):Int) - 1))))) from by rw [c1] <;> rfl)),trivial⟩
    ·have c1p:=of_decide_eq_false c1
     refine tm 6 U (tm 7 U (fA 8 (enc:=fun y=>[I y]) eX jn (fun _ _ _ e=>e) eL ty3 hl.1 (nthZ bh) (bB bh) U U U U kr (fun q4 A4=>?_)))
     refine tf 9 U U (fun _ _ hj=>gd ty3 (A4.mono hj.1) U) (tm 10 U (tf 11 U U (fun _ _ _=>ib U) ?_))
     refine tf 12 U U (fun _ _ _=>co U) (tm 13 U ?_)
     refine eo 25 U (fun c2=>?_) (fun c2=>?_)
     ·have c2p:=of_decide_eq_true c2
      refine tk 14 U U (tk 15 U U (tk 16 U U (tk 17 U U ?_)))
      refine tk 18 U U (tk 19 U U (tk 20 U U (tk 21 U U ?_)))
      refine tk 22 U U (tk 23 U U (tk 24 U U (tk 25 U U ?_)))
      refine tk 26 U U (tk 27 U U (tf 28 U U (fun _ _ _=>co U) (bY kr ?_)))
      exact hk1 _ ⟨U,U,U,(cb (show true=((decide (y1 < 0)||decide (limit≤y1))||(decide (0 < ((i1:Nat):Int))&&decide (y1≤(nthI l (((i1:Nat):Int) - 1))))) from by rw [c1,c2] <;> rfl)),trivial⟩
     ·have c2p:=of_decide_eq_false c2
      refine tm 14 U (tf 15 U U (fun _ _ _=>ib U) (tm 16 U ?_))
      refine eo 28 U (fun c3=>?_) (fun c3=>?_)
      ·have c3p:=of_decide_eq_true c3
       refine tm 17 U (tm 18 U (fA 19 (enc:=fun y=>[I y]) eX jn (fun _ _ _ e=>e) eL ty3 hl.1 (nthZ bh) (bB bh) U U U U kr (fun q5 A5=>?_)))
       refine tf 20 U U (fun _ _ hj=>gd ty3 (A5.mono hj.1) U) (tm 21 U (tm 22 U ?_))
       refine tf 23 U U (fun _ _ _=>mB (v':=I (((i1:Nat):Int) - 1)) U (iu ob)) ?_
       have ho1:0≤((((i1:Nat):Int) - 1):Int)∧((((i1:Nat):Int) - 1):Int) < ((l).length:Int):=ob
       refine fA 24 (enc:=fun y=>[I y]) eX jn (fun _ _ _ e=>e) eL ty3 hl.1 ho1 (eA ho1) U U U U kr (fun q6 A6=>tf 25 U U (fun _ _ hj=>gd ty3 (A6.mono hj.1) U) ?_)
       refine tf 26 U U (fun _ _ _=>ib U) (tf 27 U U (fun _ _ _=>co U) (tf 28 U U (fun _ _ _=>co U) ?_))
       refine bY kr ?_
       exact hk1 _ ⟨U,U,U,(cb (show decide (y1≤(nthI l (((i1:Nat):Int) - 1)))=((decide (y1 < 0)||decide (limit≤y1))||(decide (0 < ((i1:Nat):Int))&&decide (y1≤(nthI l (((i1:Nat):Int) - 1))))) from by rw [c1,c2,c3] <;> rfl)),trivial⟩
      ·have c3p:=of_decide_eq_false c3
       refine tk 17 U U (tk 18 U U (tk 19 U U (tk 20 U U ?_)))
       refine tk 21 U U (tk 22 U U (tk 23 U U (tk 24 U U ?_)))
       refine tk 25 U U (tk 26 U U (tf 27 U U (fun _ _ _=>co U) (tf 28 U U (fun _ _ _=>co U) ?_)))
       refine bY kr ?_
       exact hk1 _ ⟨U,U,U,(cb (show false=((decide (y1 < 0)||decide (limit≤y1))||(decide (0 < ((i1:Nat):Int))&&decide (y1≤(nthI l (((i1:Nat):Int) - 1))))) from by rw [c1,c2,c3] <;> rfl)),trivial⟩
   refine aE U (fun c4=>?_) (fun c4=>?_)
   ·have hs5:=hs3.trans (bt c4)
    refine sr (an ?_)
    exact aw [.bool false] Tryz.func192 U hX rd (cs hs5)
   ·have hs7:=hs3.trans (bf c4)
    refine ao (av (ai (aa (aB (v':=I (((i1+1):Nat):Int)) U (bW ob) (an ?_)))))
    exact ag1 ((i1+1),rz1) _ (Nat.lt_succ_self _) ⟨bF hd1,aT hd1,hs7⟩ rd
end Go.Sg
namespace Go.Sg
open Go.Proofs
set_option maxHeartbeats 2000000
set_option maxRecDepth 100000
set_option linter.unusedVariables false
theorem wI (h:HF) (d:Document) (sd:gM) (hd:Document.ok h d sd):Ret Tryz.prog 117 [.agg (Document.cells d sd).toArray] h (.bool (fS d)):=by
 refine ay Tryz.func117 U Tryz.ntmps117 U fun X hM hX=>?_
 have hs0:fS d=fS d:=rfl
 refine sr (dy (fun b1=>an (ae (sr (az j1 U (aO 0 ty3 U U U (aJ U (aa ?_))))))))
 refine tq 4 [(1,Q b1),(10,.bool (decide (d.No < 0)||decide (4096≤d.No)))] (fun hk1=>?_) (fun e=>?_)
 ·refine ar 6 U (fun c1=>?_) (fun c1=>?_)
  ·refine kq (bP (ah U ?_))
   exact hk1 _ ⟨U,(cb (dL c1)),trivial⟩
  ·refine az j1 U (aO 0 ty3 U U U (aJ U (ah U ?_)))
   exact hk1 _ ⟨U,(cb (dM c1)),trivial⟩
 refine aa ?_
 refine tq 5 [(1,Q b1),(16,.bool ((decide (d.No < 0)||decide (4096≤d.No))||(!(jp d.At))))] (fun hk2=>?_) (fun e=>?_)
 ·refine ar 11 U (fun c2=>?_) (fun c2=>?_)
  ·refine kq (kq (ah U ?_))
   exact hk2 _ ⟨U,(cb (dL c2)),trivial⟩
  ·refine az ml U (aO 0 ty3 U U U (aG (v:=.bool (jp d.At)) Tryz.call191 (yc h d.At ) U (cV U (ah U ?_))))
   exact hk2 _ ⟨U,(cb (dM c2)),trivial⟩
 refine aa ?_
 refine tq 4 [(1,Q b1),(21,.bool (((decide (d.No < 0)||decide (4096≤d.No))||(!(jp d.At)))||decide (d.Kind < 0)))] (fun hk3=>?_) (fun e=>?_)
 ·refine ar 17 U (fun c3=>?_) (fun c3=>?_)
  ·refine kq (bP (ah U ?_))
   exact hk3 _ ⟨U,(cb (dL c3)),trivial⟩
  ·refine az oH U (aO 0 ty3 U U U (aJ U (ah U ?_)))
   exact hk3 _ ⟨U,(cb (dM c3)),trivial⟩
 refine aa ?_
 refine tq 4 [(1,Q b1),(26,.bool ((((decide (d.No < 0)||decide (4096≤d.No))||(!(jp d.At)))||decide (d.Kind < 0))||decide (16≤d.Kind)))] (fun hk4=>?_) (fun e=>?_)
 ·refine ar 22 U (fun c4=>?_) (fun c4=>?_)
  ·refine kq (bP (ah U ?_))
   exact hk4 _ ⟨U,(cb (dL c4)),trivial⟩
  ·refine az oH U (aO 0 ty3 U U U (aJ U (ah U ?_)))
   exact hk4 _ ⟨U,(cb (dM c4)),trivial⟩
 refine aa ?_
 refine tq 4 [(1,Q b1),(31,.bool (((((decide (d.No < 0)||decide (4096≤d.No))||(!(jp d.At)))||decide (d.Kind < 0))||decide (16≤d.Kind))||decide (d.Value < 0)))] (fun hk5=>?_) (fun e=>?_)
 ·refine ar 27 U (fun c5=>?_) (fun c5=>?_)
  ·refine kq (bP (ah U ?_))
   exact hk5 _ ⟨U,(cb (dL c5)),trivial⟩
  ·refine az rN U (aO 0 ty3 U U U (aJ U (ah U ?_)))
   exact hk5 _ ⟨U,(cb (dM c5)),trivial⟩
 refine aa ?_
 refine tq 4 [(1,Q b1),(36,.bool ((((((decide (d.No < 0)||decide (4096≤d.No))||(!(jp d.At)))||decide (d.Kind < 0))||decide (16≤d.Kind))||decide (d.Value < 0))||decide (1099511627776 < d.Value)))] (fun hk6=>?_) (fun e=>?_)
 ·refine ar 32 U (fun c6=>?_) (fun c6=>?_)
  ·refine kq (bP (ah U ?_))
   exact hk6 _ ⟨U,(cb (dL c6)),trivial⟩
  ·refine az rN U (aO 0 ty3 U U U (aJ U (ah U ?_)))
   exact hk6 _ ⟨U,(cb (dM c6)),trivial⟩
 refine ac ?_
 refine aE U (fun c7=>?_) (fun c7=>?_)
 ·have hs1:=hs0.trans (bt c7)
  refine sr (an ?_)
  exact aw [.bool false] Tryz.func117 U hX rd (cs hs1)
 ·have hs3:=hs0.trans (bf c7)
  refine ao (sr (az vY U (aO 0 ty3 U U U (aJ U (aa ?_)))))
  refine tq 6 [(1,Q b1),(46,.bool (decide (0≤d.From)&&decide (d.From < d.Until)))] (fun hk7=>?_) (fun e=>?_)
  ·refine ar 40 U (fun c8=>?_) (fun c8=>?_)
   ·refine az vY U (aO 0 ty3 U U U (az pX U (aO 0 ty3 U U U (aJ U (ah U ?_)))))
    exact hk7 _ ⟨U,(cb (cW c8)),trivial⟩
   ·refine kq (kq (bP (ah U ?_)))
    exact hk7 _ ⟨U,(cb (cX c8)),trivial⟩
  refine aa ?_
  refine tq 4 [(1,Q b1),(51,.bool ((decide (0≤d.From)&&decide (d.From < d.Until))&&decide (d.Until≤1099511627776)))] (fun hk8=>?_) (fun e=>?_)
  ·refine ar 47 U (fun c9=>?_) (fun c9=>?_)
   ·refine az pX U (aO 0 ty3 U U U (aJ U (ah U ?_)))
    exact hk8 _ ⟨U,(cb (cW c9)),trivial⟩
   ·refine kq (bP (ah U ?_))
    exact hk8 _ ⟨U,(cb (cX c9)),trivial⟩
  refine aa ?_
  refine tq 4 [(1,Q b1),(56,.bool (((decide (0≤d.From)&&decide (d.From < d.Until))&&decide (d.Until≤1099511627776))&&(el d.Parties 1048577)))] (fun hk9=>?_) (fun e=>?_)
  ·refine ar 52 U (fun c10=>?_) (fun c10=>?_)
   ·refine az tV U (aO 0 ty31 U U U (aG (v:=.bool (el d.Parties 1048577)) Tryz.call192 (oN h d.Parties sd.jE sd.jD 1048577 hd.Parties) U (ah U ?_)))
    exact hk9 _ ⟨U,(cb (cW c10)),trivial⟩
   ·refine kq (bP (ah U ?_))
    exact hk9 _ ⟨U,(cb (cX c10)),trivial⟩
  refine aa ?_
  refine tq 6 [(1,Q b1),(63,.bool ((((decide (0≤d.From)&&decide (d.From < d.Until))&&decide (d.Until≤1099511627776))&&(el d.Parties 1048577))&&(el d.Revokes d.No)))] (fun hk10=>?_) (fun e=>?_)
  ·refine ar 57 U (fun c11=>?_) (fun c11=>?_)
   ·refine az rM U (aO 0 ty31 U U U (az j1 U (aO 0 ty3 U U U (aG (v:=.bool (el d.Revokes d.No)) Tryz.call192 (oN h d.Revokes sd.jk sd.jj d.No hd.Revokes) U (ah U ?_)))))
    exact hk10 _ ⟨U,(cb (cW c11)),trivial⟩
   ·refine kq (kq (bP (ah U ?_)))
    exact hk10 _ ⟨U,(cb (cX c11)),trivial⟩
  refine aa ?_
  refine tq 6 [(70,.bool (((((decide (0≤d.From)&&decide (d.From < d.Until))&&decide (d.Until≤1099511627776))&&(el d.Parties 1048577))&&(el d.Revokes d.No))&&(el d.Needs d.No)))] (fun hk11=>?_) (fun e=>?_)
  ·refine ar 64 U (fun c12=>?_) (fun c12=>?_)
   ·refine az rL U (aO 0 ty31 U U U (az j1 U (aO 0 ty3 U U U (aG (v:=.bool (el d.Needs d.No)) Tryz.call192 (oN h d.Needs sd.kK sd.kJ d.No hd.Needs) U (ah U ?_)))))
    exact hk11 _ ⟨(cb (cW c12)),trivial⟩
   ·refine kq (kq (bP (ah U ?_)))
    exact hk11 _ ⟨(cb (cX c12)),trivial⟩
  refine an ?_
  exact aw [.bool (((((decide (0≤d.From)&&decide (d.From < d.Until))&&decide (d.Until≤1099511627776))&&(el d.Parties 1048577))&&(el d.Revokes d.No))&&(el d.Needs d.No))] Tryz.func117 U hX rd (cs hs3)
theorem yd (h:HF) (l:(List Document)) (eW:Option Addr) (eV:Nat) (no:Int) (hl:SlC Document.rp h eW eV l):Ret Tryz.prog 193 [.slice eW l.length eV,I no] h (I (fI l no)):=by
 refine ay Tryz.func193 U Tryz.ntmps193 U fun X hM hX=>?_
 have hs0:fI l no=fI l no:=rfl
 refine sr (an (ae (sr (an ?_))))
 refine br (ι:=Nat) (fun i=>[]) (fun i=>h) (fun i=>[]) (fun i=>i≤l.length∧fI l no=((fI.K1))) ?_ (fun hx1=>?_)
 ·rintro i1 ⟨bd,hs1⟩ e
  try dsimp only at bd
  try dsimp only
  refine sr (an ?_)
  exact aw [I (-1)] Tryz.func193 U hX rd (ci hs1)
 ·refine cp (ι:=Nat×List Document) (fun i=>[(0,.slice eW l.length eV),(1,I no),(5,I ((i.1:Nat):Int))]) (fun i=>h) (fun i=>[]) (fun i=>l.drop i.1=i.2∧i.1≤l.length∧fI l no=((fI.L1 no (fI.K1)) i.2 i.1)) (fun i=>i.2.length) (0,l) rd sw ⟨U,Nat.zero_le _,hs0⟩ ?_
  rintro ⟨i1,s1⟩ ⟨hd1,bd,hs3⟩ ag1 e
  try dsimp only at hd1 bd
  rcases s1 with _ | ⟨y1,rz1⟩
  ·have dI:=cU hd1
   try dsimp only
   refine ae (sr (aa (aa (bC la U (aB (v':=.bool false) U (cb dI) (ac (bg U (bO U ?_))))))))
   exact hx1 i1 _ ⟨bd,hs3⟩ trivial
  ·have dH:=dY hd1
   have bh:=cY hd1
   have eT:=aT hd1
   have gx:=hl.1.1
   try dsimp only
   refine ae (sr (aa (aa (bC la U (aB (v':=.bool true) U (cb dH) (ac (bn U (ao (ae (aW (sr (aa (aa (a8 (gL la ty52 hl.1 (nthZ bh) (bB bh) U U U (fun q2 cs2 A2 ln2 rr2=>?_))))))))))))))))
   obtain ⟨r2,rfl,ok2⟩:=rr2
   refine az j1 U (eC ty3 A2 U (aa (aJ U (ac ?_))))
   refine aE U (fun c2=>?_) (fun c2=>?_)
   ·have hs5:=hs3.trans (bt c2)
    refine sr (aa (an ?_))
    exact aw [I ((i1:Nat):Int)] Tryz.func193 U hX rd (ci hs5)
   ·have hs7:=hs3.trans (bf c2)
    refine ao (av (ai (aa (aB (v':=I (((i1+1):Nat):Int)) U (bW ob) (an ?_)))))
    exact ag1 ((i1+1),rz1) _ (Nat.lt_succ_self _) ⟨bF hd1,aT hd1,hs7⟩ rd
theorem lX (h:HF) (l:(List Document)) (eW:Option Addr) (eV:Nat) (nos:(List Int)) (FS:Option Addr) (FQ:Nat) (hl:SlC Document.rp h eW eV l) (hnos:SlC Rp.int h FS FQ nos):Ret Tryz.prog 118 [.slice eW l.length eV,.slice FS nos.length FQ] h (.bool (cZ l nos)):=by
 refine ay Tryz.func118 U Tryz.ntmps118 U fun X hM hX=>?_
 have hs0:cZ l nos=cZ l nos:=rfl
 refine sr (an (ae (sr (an ?_))))
 refine br (ι:=Nat) (fun i=>[]) (fun i=>h) (fun i=>[]) (fun i=>i≤nos.length∧cZ l nos=((cZ.K1))) ?_ (fun hx1=>?_)
 ·rintro i1 ⟨bd,hs1⟩ e
  try dsimp only at bd
  try dsimp only
  refine sr (an ?_)
  exact aw [.bool true] Tryz.func118 U hX rd (cs hs1)
 ·refine cp (ι:=Nat×List Int) (fun i=>[(0,.slice eW l.length eV),(1,.slice FS nos.length FQ),(5,I ((i.1:Nat):Int))]) (fun i=>h) (fun i=>[]) (fun i=>nos.drop i.1=i.2∧i.1≤nos.length∧cZ l nos=((cZ.L1 l (cZ.K1)) i.2 )) (fun i=>i.2.length) (0,nos) rd sw ⟨U,Nat.zero_le _,hs0⟩ ?_
  rintro ⟨i1,s1⟩ ⟨hd1,bd,hs3⟩ ag1 e
  try dsimp only at hd1 bd
  rcases s1 with _ | ⟨y1,rz1⟩
  ·have dI:=cU hd1
   try dsimp only
   refine ae (sr (aa (aa (bC eL U (aB (v':=.bool false) U (cb dI) (ac (bg U (bO U ?_))))))))
   exact hx1 i1 _ ⟨bd,hs3⟩ trivial
  ·have dH:=dY hd1
   have bh:=cY hd1
   have eT:=aT hd1
   have gx:=hnos.1.1
   try dsimp only
   refine ae (sr (aa (aa (bC eL U (aB (v':=.bool true) U (cb dH) (ac (bn U (ao (ae (aW (sr (aa (aa (aa (a8 (fQ (enc:=fun y=>[I y]) (fun _ _ _ e=>e) eL ty3 hnos.1 (nthZ bh) (bB bh) U U U (fun q2 A2=>?_)))))))))))))))))
   refine eC ty3 A2 U (aG (v:=I (fI l y1)) Tryz.call193 (yd h l eW eV y1 hl) U (aJ U (ac ?_)))
   refine aE U (fun c2=>?_) (fun c2=>?_)
   ·have c2p:=of_decide_eq_true c2
    have hs5:=hs3.trans (bt c2)
    refine sr (an ?_)
    exact aw [.bool false] Tryz.func118 U hX rd (cs hs5)
   ·have c2p:=of_decide_eq_false c2
    have hs7:=hs3.trans (bf c2)
    refine ao (av (ai (aa (aB (v':=I (((i1+1):Nat):Int)) U (bW ob) (an ?_)))))
    exact ag1 ((i1+1),rz1) _ (Nat.lt_succ_self _) ⟨bF hd1,aT hd1,hs7⟩ rd
theorem wJ (h:HF) (l:(List Document)) (eW:Option Addr) (eV:Nat) (hl:SlC Document.rp h eW eV l):Ret Tryz.prog 72 [.slice eW l.length eV] h (I (eI l)):=by
 refine ay Cs U Tryz.ntmps72 U fun X hM hX=>?_
 have hs0:eI l=eI l:=rfl
 refine sr (an (ae (sr (aa (bC la U (aJ U (ac ?_)))))))
 refine aE U (fun c1=>?_) (fun c1=>?_)
 ·have c1p:=of_decide_eq_true c1
  have hs1:=hs0.trans (bt c1)
  refine sr (an ?_)
  exact aw [I 2] Cs U hX rd (ci hs1)
 ·have c1p:=of_decide_eq_false c1
  have hs3:=hs0.trans (bf c1)
  refine ao (ae (sr (an ?_)))
  refine br (ι:=Nat) (fun i=>[]) (fun i=>h) (fun i=>[]) (fun i=>i≤l.length∧eI l=((eI.K1))) ?_ (fun hx1=>?_)
  ·rintro i1 ⟨bd,hs4⟩ e
   try dsimp only at bd
   try dsimp only
   refine sr (an ?_)
   exact aw [I 0] Cs U hX rd (ci hs4)
  ·refine cp (ι:=Nat×List Document) (fun i=>[(0,.slice eW l.length eV),(3,I ((i.1:Nat):Int))]) (fun i=>h) (fun i=>[]) (fun i=>l.drop i.1=i.2∧i.1≤l.length∧eI l=((eI.L1 l (eI.K1)) i.2 i.1)) (fun i=>i.2.length) (0,l) rd sw ⟨U,Nat.zero_le _,hs3⟩ ?_
   rintro ⟨i1,s1⟩ ⟨hd1,bd,hs6⟩ ag1 e
   try dsimp only at hd1 bd
   rcases s1 with _ | ⟨y1,rz1⟩
   ·have dI:=cU hd1
    try dsimp only
    refine ae (sr (aa (aa (bC la U (aB (v':=.bool false) U (cb dI) (ac (bg U (bO U ?_))))))))
    exact hx1 i1 _ ⟨bd,hs6⟩ trivial
   ·have dH:=dY hd1
    have bh:=cY hd1
    have eT:=aT hd1
    have gx:=hl.1.1
    try dsimp only
    refine ae (sr (aa (aa (bC la U (aB (v':=.bool true) U (cb dH) (ac (bn U (ao (ae (aW (ae ?_)))))))))))
    refine my [(0,.slice eW l.length eV),(3,I ((i1:Nat):Int)),(56,.bool ((((!(fS y1))||(decide (0 < ((i1:Nat):Int))&&decide (y1.No≤(nthI l (((i1:Nat):Int) - 1)).No)))||(!(cZ l y1.Revokes)))||(!(cZ l y1.Needs))))] (fun e=>?_) (fun hk1=>?_)
    rotate_left
    ·refine ga ([]) mixed kr jn (fun eX _=>?_)
     refine tm 0 U (tm 1 U (iY 2 eX jn la ty52 hl.1 (nthZ bh) (bB bh) U U U U kr (fun q4 cs4 A4 ln4 rr4=>?_)))
     obtain ⟨r4,rfl,ok4⟩:=rr4
     refine tf 3 U U (fun _ _ hj=>jP ty52 (A4.mono hj.1) U U) (tn 4 U (fu (v:=.bool (fS y1)) Tryz.call117 (wI h y1 r4 ok4) U (⟨jn,?_⟩)))
     refine tf 5 U U (fun _ _ _=>ku U) (tm 6 U ?_)
     refine eo 19 U (fun c2=>?_) (fun c2=>?_)
     ·refine tk 7 U U (tk 8 U U (tk 9 U U (tk 10 U U ?_)))
      refine tk 11 U U (tk 12 U U (tk 13 U U (tk 14 U U ?_)))
      refine tk 15 U U (tk 16 U U (tk 17 U U (tk 18 U U ?_)))
      refine tk 19 U U (tk 20 U U (tk 21 U U (tk 22 U U ?_)))
      refine tf 23 U U (fun _ _ _=>co U) (tm 24 U (tk 25 U U ?_))
      refine tk 26 U U (tk 27 U U (tk 28 U U (tk 29 U U ?_)))
      refine tk 30 U U (tk 31 U U (tk 32 U U (tf 33 U U (fun _ _ _=>co U) ?_)))
      refine tm 34 U (tk 35 U U (tk 36 U U (tk 37 U U ?_)))
      refine tk 38 U U (tk 39 U U (tk 40 U U (tk 41 U U ?_)))
      refine tk 42 U U (tf 43 U U (fun _ _ _=>co U) (bY kr ?_))
      exact hk1 _ ⟨U,U,(cb (show true=((((!(fS y1))||(decide (0 < ((i1:Nat):Int))&&decide (y1.No≤(nthI l (((i1:Nat):Int) - 1)).No)))||(!(cZ l y1.Revokes)))||(!(cZ l y1.Needs))) from by rw [c2] <;> rfl)),trivial⟩
     ·refine tm 7 U (tf 8 U U (fun _ _ _=>ib U) (tm 9 U ?_))
      refine eo 22 U (fun c3=>?_) (fun c3=>?_)
      ·have c3p:=of_decide_eq_true c3
       refine tm 10 U (tm 11 U (iY 12 eX jn la ty52 hl.1 (nthZ bh) (bB bh) U U U U kr (fun q5 cs5 A5 ln5 rr5=>?_)))
       obtain ⟨r5,rfl,ok5⟩:=rr5
       refine tf 13 U U (fun _ _ _=>dB j1 U) (tf 14 U U (fun _ _ hj=>gd ty3 (A5.mono hj.1) U) (tm 15 U ?_))
       refine tm 16 U (tf 17 U U (fun _ _ _=>mB (v':=I (((i1:Nat):Int) - 1)) U (iu ob)) ?_)
       have ho2:0≤((((i1:Nat):Int) - 1):Int)∧((((i1:Nat):Int) - 1):Int) < ((l).length:Int):=ob
       refine iY 18 eX jn la ty52 hl.1 ho2 (eA ho2) U U U U kr (fun q6 cs6 A6 ln6 rr6=>?_)
       obtain ⟨r6,rfl,ok6⟩:=rr6
       refine tf 19 U U (fun _ _ _=>dB j1 U) (tf 20 U U (fun _ _ hj=>gd ty3 (A6.mono hj.1) U) (tf 21 U U (fun _ _ _=>ib U) ?_))
       refine tf 22 U U (fun _ _ _=>co U) (tf 23 U U (fun _ _ _=>co U) (tm 24 U ?_))
       refine eo 37 U (fun c4=>?_) (fun c4=>?_)
       ·have c4p:=of_decide_eq_true c4
        refine tk 25 U U (tk 26 U U (tk 27 U U (tk 28 U U ?_)))
        refine tk 29 U U (tk 30 U U (tk 31 U U (tk 32 U U ?_)))
        refine tf 33 U U (fun _ _ _=>co U) (tm 34 U (tk 35 U U ?_))
        refine tk 36 U U (tk 37 U U (tk 38 U U (tk 39 U U ?_)))
        refine tk 40 U U (tk 41 U U (tk 42 U U (tf 43 U U (fun _ _ _=>co U) ?_)))
        refine bY kr ?_
        exact hk1 _ ⟨U,U,(cb (show true=((((!(fS y1))||(decide (0 < ((i1:Nat):Int))&&decide (y1.No≤(nthI l (((i1:Nat):Int) - 1)).No)))||(!(cZ l y1.Revokes)))||(!(cZ l y1.Needs))) from by rw [c2,c3,c4] <;> rfl)),trivial⟩
       ·have c4p:=of_decide_eq_false c4
        refine tm 25 U (tm 26 U (tm 27 U ?_))
        refine iY 28 eX jn la ty52 hl.1 (nthZ bh) (bB bh) U U U U kr (fun q7 cs7 A7 ln7 rr7=>?_)
        obtain ⟨r7,rfl,ok7⟩:=rr7
        refine tf 29 U U (fun _ _ _=>dB rM U) (tf 30 U U (fun _ _ hj=>tH 7 ty31 (A7.mono hj.1) U U) (tn 31 U ?_))
        refine fu (v:=.bool (cZ l y1.Revokes)) Cr (lX h l eW eV y1.Revokes r7.jk r7.jj hl ok7.Revokes) U (⟨jn,?_⟩)
        refine tf 32 U U (fun _ _ _=>ku U) (tf 33 U U (fun _ _ _=>co U) (tm 34 U ?_))
        refine eo 47 U (fun c5=>?_) (fun c5=>?_)
        ·refine tk 35 U U (tk 36 U U (tk 37 U U (tk 38 U U ?_)))
         refine tk 39 U U (tk 40 U U (tk 41 U U (tk 42 U U ?_)))
         refine tf 43 U U (fun _ _ _=>co U) (bY kr ?_)
         exact hk1 _ ⟨U,U,(cb (show true=((((!(fS y1))||(decide (0 < ((i1:Nat):Int))&&decide (y1.No≤(nthI l (((i1:Nat):Int) - 1)).No)))||(!(cZ l y1.Revokes)))||(!(cZ l y1.Needs))) from by rw [c2,c3,c4,c5] <;> rfl)),trivial⟩
        ·refine tm 35 U (tm 36 U (tm 37 U ?_))
         refine iY 38 eX jn la ty52 hl.1 (nthZ bh) (bB bh) U U U U kr (fun q8 cs8 A8 ln8 rr8=>?_)
         obtain ⟨r8,rfl,ok8⟩:=rr8
         refine tf 39 U U (fun _ _ _=>dB rL U) (tf 40 U U (fun _ _ hj=>tH 8 ty31 (A8.mono hj.1) U U) (tn 41 U ?_))
         refine fu (v:=.bool (cZ l y1.Needs)) Cr (lX h l eW eV y1.Needs r8.kK r8.kJ hl ok8.Needs) U (⟨jn,?_⟩)
         refine tf 42 U U (fun _ _ _=>ku U) (tf 43 U U (fun _ _ _=>co U) (bY kr ?_))
         exact hk1 _ ⟨U,U,(cb (show (!(cZ l y1.Needs))=((((!(fS y1))||(decide (0 < ((i1:Nat):Int))&&decide (y1.No≤(nthI l (((i1:Nat):Int) - 1)).No)))||(!(cZ l y1.Revokes)))||(!(cZ l y1.Needs))) from by rw [c2,c3,c4,c5] <;> rfl)),trivial⟩
      ·have c3p:=of_decide_eq_false c3
       refine tk 10 U U (tk 11 U U (tk 12 U U (tk 13 U U ?_)))
       refine tk 14 U U (tk 15 U U (tk 16 U U (tk 17 U U ?_)))
       refine tk 18 U U (tk 19 U U (tk 20 U U (tk 21 U U ?_)))
       refine tf 22 U U (fun _ _ _=>co U) (tf 23 U U (fun _ _ _=>co U) (tm 24 U ?_))
       refine tm 25 U (tm 26 U (tm 27 U ?_))
       refine iY 28 eX jn la ty52 hl.1 (nthZ bh) (bB bh) U U U U kr (fun q9 cs9 A9 ln9 rr9=>?_)
       obtain ⟨r9,rfl,ok9⟩:=rr9
       refine tf 29 U U (fun _ _ _=>dB rM U) (tf 30 U U (fun _ _ hj=>tH 7 ty31 (A9.mono hj.1) U U) (tn 31 U ?_))
       refine fu (v:=.bool (cZ l y1.Revokes)) Cr (lX h l eW eV y1.Revokes r9.jk r9.jj hl ok9.Revokes) U (⟨jn,?_⟩)
       refine tf 32 U U (fun _ _ _=>ku U) (tf 33 U U (fun _ _ _=>co U) (tm 34 U ?_))
       refine eo 47 U (fun c6=>?_) (fun c6=>?_)
       ·refine tk 35 U U (tk 36 U U (tk 37 U U (tk 38 U U ?_)))
        refine tk 39 U U (tk 40 U U (tk 41 U U (tk 42 U U ?_)))
        refine tf 43 U U (fun _ _ _=>co U) (bY kr ?_)
        exact hk1 _ ⟨U,U,(cb (show true=((((!(fS y1))||(decide (0 < ((i1:Nat):Int))&&decide (y1.No≤(nthI l (((i1:Nat):Int) - 1)).No)))||(!(cZ l y1.Revokes)))||(!(cZ l y1.Needs))) from by rw [c2,c3,c6] <;> rfl)),trivial⟩
       ·refine tm 35 U (tm 36 U (tm 37 U ?_))
        refine iY 38 eX jn la ty52 hl.1 (nthZ bh) (bB bh) U U U U kr (fun q10 cs10 A10 ln10 rr10=>?_)
        obtain ⟨r10,rfl,ok10⟩:=rr10
        refine tf 39 U U (fun _ _ _=>dB rL U) (tf 40 U U (fun _ _ hj=>tH 8 ty31 (A10.mono hj.1) U U) (tn 41 U ?_))
        refine fu (v:=.bool (cZ l y1.Needs)) Cr (lX h l eW eV y1.Needs r10.kK r10.kJ hl ok10.Needs) U (⟨jn,?_⟩)
        refine tf 42 U U (fun _ _ _=>ku U) (tf 43 U U (fun _ _ _=>co U) (bY kr ?_))
        exact hk1 _ ⟨U,U,(cb (show (!(cZ l y1.Needs))=((((!(fS y1))||(decide (0 < ((i1:Nat):Int))&&decide (y1.No≤(nthI l (((i1:Nat):Int) - 1)).No)))||(!(cZ l y1.Revokes)))||(!(cZ l y1.Needs))) from by rw [c2,c3,c6] <;> rfl)),trivial⟩
    refine aE U (fun c7=>?_) (fun c7=>?_)
    ·have hs8:=hs6.trans (bt c7)
     refine sr (an ?_)
     exact aw [I 170] Cs U hX rd (ci hs8)
    ·have hs10:=hs6.trans (bf c7)
     refine ao (av (ai (aa (aB (v':=I (((i1+1):Nat):Int)) U (bW ob) (an ?_)))))
     exact ag1 ((i1+1),rz1) _ (Nat.lt_succ_self _) ⟨bF hd1,aT hd1,hs10⟩ rd
theorem jL (h:HF) (dQ:Int) (most:Int)  : Ret Tryz.prog 194 [I dQ,I most] h (.bool (dK dQ most)):=by
 refine ay Tryz.func194 U Tryz.ntmps194 U fun X hM hX=>?_
 have hs0:dK dQ most=dK dQ most:=rfl
 refine sr (an (sr (aa (aJ U (aa ?_)))))
 refine tq 4 [(11,.bool (decide (0≤dQ)&&decide (dQ≤most)))] (fun hk1=>?_) (fun e=>?_)
 ·refine ar 7 U (fun c1=>?_) (fun c1=>?_)
  ·refine aa (aa (aJ U (ah U ?_)))
   exact hk1 _ ⟨(cb (cW c1)),trivial⟩
  ·refine kq (bP (ah U ?_))
   exact hk1 _ ⟨(cb (cX c1)),trivial⟩
 refine an ?_
 exact aw [.bool (decide (0≤dQ)&&decide (dQ≤most))] Tryz.func194 U hX rd (cs hs0)
theorem ss (h:HF) (dQ:Int)  : Ret Tryz.prog 195 [I dQ] h (.bool (iR dQ)):=by
 refine ay Tryz.func195 U Tryz.ntmps195 U fun X hM hX=>?_
 have hs0:iR dQ=iR dQ:=rfl
 refine sr (an (sr (aa (aG (v:=.bool (dK dQ 1099511627775)) Ah (jL h dQ 1099511627775 ) U (an ?_)))))
 exact aw [.bool (dK dQ 1099511627775)] Tryz.func195 U hX rd (cs hs0)
theorem zw (h:HF) (dQ:Int)  : Ret Tryz.prog 196 [I dQ] h (.bool (mA dQ)):=by
 refine ay Tryz.func196 U Tryz.ntmps196 U fun X hM hX=>?_
 have hs0:mA dQ=mA dQ:=rfl
 refine sr (an (sr (aa (aG (v:=.bool (dK dQ 4095)) Ah (jL h dQ 4095 ) U (an ?_)))))
 exact aw [.bool (dK dQ 4095)] Tryz.func196 U hX rd (cs hs0)
theorem wB (h:HF) (x:Approval)  : Ret Tryz.prog 119 [.agg (Approval.cells x).toArray] h (.bool (gZ x)):=by
 refine ay Tryz.func119 U Tryz.ntmps119 U fun X hM hX=>?_
 have hs0:gZ x=gZ x:=rfl
 refine sr (dy (fun b1=>an (ae (sr (az pm U (aO 0 ty3 U U U (aG (v:=.bool (dK x.No 1048576)) Ah (jL h x.No 1048576 ) U (cV U (aa ?_)))))))))
 refine tq 5 [(1,Q b1),(12,.bool ((!(dK x.No 1048576))||(!(iR x.At))))] (fun hk1=>?_) (fun e=>?_)
 ·refine ar 7 U (fun c1=>?_) (fun c1=>?_)
  ·refine kq (kq (ah U ?_))
   exact hk1 _ ⟨U,(cb (dL c1)),trivial⟩
  ·refine az BU U (aO 0 ty3 U U U (aG (v:=.bool (iR x.At)) Tryz.call195 (ss h x.At ) U (cV U (ah U ?_))))
   exact hk1 _ ⟨U,(cb (dM c1)),trivial⟩
 refine aa ?_
 refine tq 5 [(1,Q b1),(18,.bool (((!(dK x.No 1048576))||(!(iR x.At)))||(!(iR x.Known))))] (fun hk2=>?_) (fun e=>?_)
 ·refine ar 13 U (fun c2=>?_) (fun c2=>?_)
  ·refine kq (kq (ah U ?_))
   exact hk2 _ ⟨U,(cb (dL c2)),trivial⟩
  ·refine az BT U (aO 0 ty3 U U U (aG (v:=.bool (iR x.Known)) Tryz.call195 (ss h x.Known ) U (cV U (ah U ?_))))
   exact hk2 _ ⟨U,(cb (dM c2)),trivial⟩
 refine aa ?_
 refine tq 5 [(1,Q b1),(24,.bool ((((!(dK x.No 1048576))||(!(iR x.At)))||(!(iR x.Known)))||(!(mA x.Doc))))] (fun hk3=>?_) (fun e=>?_)
 ·refine ar 19 U (fun c3=>?_) (fun c3=>?_)
  ·refine kq (kq (ah U ?_))
   exact hk3 _ ⟨U,(cb (dL c3)),trivial⟩
  ·refine az BS U (aO 0 ty3 U U U (aG (v:=.bool (mA x.Doc)) Tryz.call196 (zw h x.Doc ) U (cV U (ah U ?_))))
   exact hk3 _ ⟨U,(cb (dM c3)),trivial⟩
 refine ac ?_
 refine aE U (fun c4=>?_) (fun c4=>?_)
 ·have hs1:=hs0.trans (bt c4)
  refine sr (an ?_)
  exact aw [.bool false] Tryz.func119 U hX rd (cs hs1)
 ·have hs3:=hs0.trans (bf c4)
  refine ao (sr (az BR U (aO 0 ty3 U U U (aG (v:=.bool (dK x.By 63)) Ah (jL h x.By 63 ) U (aa ?_)))))
  refine tq 4 [(1,Q b1),(32,.bool ((dK x.By 63)&&(dK x.For 63)))] (fun hk4=>?_) (fun e=>?_)
  ·refine ar 28 U (fun c5=>?_) (fun c5=>?_)
   ·refine az BQ U (aO 0 ty3 U U U (aG (v:=.bool (dK x.For 63)) Ah (jL h x.For 63 ) U (ah U ?_)))
    exact hk4 _ ⟨U,(cb (cW c5)),trivial⟩
   ·refine kq (bP (ah U ?_))
    exact hk4 _ ⟨U,(cb (cX c5)),trivial⟩
  refine aa ?_
  refine tq 4 [(37,.bool (((dK x.By 63)&&(dK x.For 63))&&(dK x.Office 31)))] (fun hk5=>?_) (fun e=>?_)
  ·refine ar 33 U (fun c6=>?_) (fun c6=>?_)
   ·refine az BP U (aO 0 ty3 U U U (aG (v:=.bool (dK x.Office 31)) Ah (jL h x.Office 31 ) U (ah U ?_)))
    exact hk5 _ ⟨(cb (cW c6)),trivial⟩
   ·refine kq (bP (ah U ?_))
    exact hk5 _ ⟨(cb (cX c6)),trivial⟩
  refine an ?_
  exact aw [.bool (((dK x.By 63)&&(dK x.For 63))&&(dK x.Office 31))] Tryz.func119 U hX rd (cs hs3)
end Go.Sg
