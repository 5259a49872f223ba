import Derived.Shelf.SlSortCmp.WholeK
import Derived.Ground.SlsfProg
import Derived.Shelf.Small.Bits
import Derived.Shelf.Small.Strs
import Derived.Shelf.Strconv.Itoa0
import Derived.Shelf.Strings.Search1
import Derived.Shelf.Sort.Plain
import Derived.Ground.Names2Prog
import Derived.Shelf.Slices.CompactI
import Derived.Shelf.Slices.SearchI
import Derived.Shelf.Slices.Cells
import Derived.Shelf.Slices.In.SortNone
import Derived.Shelf.Slices.Empties
import Derived.Ground.SlgcProg
import Derived.Shelf.SlicesG.Cmp
import Derived.Shelf.SlSortCmp.Insertion
import Derived.Shelf.SlSortCmp.Insertion1
import Derived.Sort.OwnSortedInts
import Derived.Test.YtpplkjhgggjaoaaGreatDoorW5
/- A part of the proof of JudgeReason. -/
set_option linter.unusedVariables false
set_option linter.unusedSimpArgs false
set_option maxRecDepth 100000
namespace Go.Sg
open Go.Proofs Go.Proofs.Tryz
set_option maxHeartbeats 2000000
theorem mG (h:HF) (x:Expr) (fP:cG) (hx:Expr.ok h x fP):Ret prog 283 [.agg (Expr.cells x fP).toArray] h (.bool (df x)):=by
 refine sT func283 U ntmps283 U fun X hM hX hF=>?_
 have hs0:df x=df x:=rfl
 refine sr (cA (fun b1=>qL 8 [0] U (bY 4 [6,7,8,9,10] 6 10 (x.Kind==2) U (fun c1 hk1=>?_) (fun e=>?_))))
 ·exact qL 4 [0] U (hk1 _ U)
 exact an (nretP [.bool ((x.Kind==1)||(x.Kind==2))] (cs hs0))
theorem nd (h:HF) (s:ByteArray) (c:Int)  : Ret prog 387 [.string s,Y c] h (I (gR s c)):=by
 refine sT func387 U ntmps387 U fun X hM hX hF=>?_
 have hs0:gR s c=gR s c:=rfl
 exact sr (qO 6 U (aF (fg (J4 U U) (an (nretP [I (idxByte s c)] (ci hs0))))))
theorem tM (h:HF) (s:ByteArray) (c:Int)  : Ret prog 384 [.string s,Y c] h (I (strings_IndexByte s c)):=by
 refine sT func384 U ntmps384 U fun X hM hX hF=>?_
 have hs0:strings_IndexByte s c=strings_IndexByte s c:=rfl
 exact sr (qO 6 U (av call387 (nd h s c) U (an (nretP [I (gR s c)] (ci hs0)))))
theorem xd (h:HF) (c:Int)  : Ret prog 377 [Y c] h (I (jz c)):=by
 refine sT func377 U ntmps377 U fun X hM hX hF=>?_
 have hs0:jz c=jz c:=rfl
 refine qT 11 U (bC 3 [6,7,8,9] 6 9 (decide (c≤122)) U (fun c1 hk1=>?_) (fun e=>?_))
 ·exact aj (qO 2 U (hk1 _ U))
 refine aj (bY 7 [10,11,12,13,14,15,16,17] 10 17 (decide (65≤c)&&decide (c≤90)) U (fun c2 hk2=>?_) (fun e=>?_))
 ·refine qO 3 U (bC 3 [13,14,15,16] 13 16 (decide (c≤90)) U (fun c3 hk3=>?_) (fun e=>?_))
  ·exact aj (qO 2 U (hk3 _ U))
  exact ek U (hk2 _ U)
 refine an (ai hs0 U (fun c4 hs1=>?_) (fun c4 hs2=>?_))
 ·exact sr (an (nretP [I 2] (ci hs1)))
 refine qT 5 U (bC 3 [21,22,23,24] 21 24 (decide (c≤57)) U (fun c5 hk4=>?_) (fun e=>?_))
 ·exact aj (qO 2 U (hk4 _ U))
 refine an (ai hs2 U (fun c6 hs4=>?_) (fun c6 hs5=>?_))
 ·exact sr (an (nretP [I 3] (ci hs4)))
 refine qT 6 U (ai hs5 U (fun c7 hs7=>?_) (fun c7 hs8=>?_))
 ·exact sr (an (nretP [I 5] (ci hs7)))
 refine qT 5 U (bY 3 [31,32,33,34] 31 34 (c==9) U (fun c8 hk5=>?_) (fun e=>?_))
 ·exact aj (qO 2 U (hk5 _ U))
 refine aj (bY 3 [35,36,37,38] 35 38 (c==10) U (fun c9 hk6=>?_) (fun e=>?_))
 ·exact aj (qO 2 U (hk6 _ U))
 refine aj (bY 3 [39,40,41,42] 39 42 (c==13) U (fun c10 hk7=>?_) (fun e=>?_))
 ·exact aj (qO 2 U (hk7 _ U))
 refine an (ai hs8 U (fun c11 hs10=>?_) (fun c11 hs11=>?_))
 ·exact sr (an (nretP [I 1] (ci hs10)))
 refine qT 3 U (av call384 (tM h (⟨#[123,125,40,41,59,44,61,58,46,60,62,33,43,45,42,47]⟩:ByteArray) c) U (qO 3 U (ai hs11 U (fun c12 hs13=>?_) (fun c12 hs14=>?_))))
 ·have c12p:=of_decide_eq_true c12
  exact sr (an (nretP [I 4] (ci hs13)))
 have c12p:=of_decide_eq_false c12
 exact aJ (qT 5 U (nretP [I 0] (ci hs14)))
theorem ij (h:HF) (s:ByteArray)  : Ret prog 363 [.string s] h (.bool (dG s)):=by
 refine sT func363 U ntmps363 U fun X hM hX hF=>?_
 have hs0:dG s=dG s:=rfl
 refine qT 10 U (bY 4 [7,8,9,10,11] 7 11 (decide (32 < (s.size:Int))) U (fun c1 hk1=>?_) (fun e=>?_))
 ·exact aj (aF (fg (xV wK U) (qO 2 U (hk1 _ U))))
 refine aj (bY 5 [12,13,14,15,16,17] 12 17 ((jz ((s.data.getD (0:Int).toNat 0).toNat:Int)) != 2) U (fun c2 hk2=>?_) (fun e=>?_))
 ·refine aj ?_
  have ho1:0≤(0:Int)∧(0:Int) < (s.size:Int):=(by have:=La (Bool.or_eq_false_iff.1 ob).1;omega)
  exact aF (fg (DV wK U U ho1) (av call377 (xd h ((s.data.getD (0:Int).toNat 0).toNat:Int)) U (qO 2 U (hk2 _ U))))
 refine aD (ai hs0 U (fun c3 hs1=>?_) (fun c3 hs2=>?_))
 ·exact sr (an (nretP [.bool false] (cs hs1)))
 refine qT 5 U (aF (fg (xV wK U) (qO 2 U ?_)))
 refine jx (ι:=Nat) (fun i=>[]) (fun i=>h) (fun i=>[]) (fun i=>i≤(List.range s.size).length∧dG s=((dG.K1))) ?_ (fun hx1=>?_)
 ·rintro i1 ⟨fA,hs4⟩ e
  exact sr (an (nretP [.bool true] (cs hs4)))
 refine ku (ι:=Nat×List Nat) (fun i=>[(0,.string s),(19,I (s.size:Int)),(20,I (i.1:Int))]) (fun i=>h) (fun i=>[]) (fun i=>(List.range s.size).drop i.1=i.2∧i.1≤(List.range s.size).length∧dG s=((dG.L1 s (dG.K1)) i.2 i.1)) (fun i=>i.2.length) (0,(List.range s.size)) rd sw ⟨U,Nat.zero_le _,hs2⟩ ?_
 rintro ⟨i1,s1⟩ ⟨hd1,fA,hs6⟩ ag1 e
 rcases s1 with _ | ⟨y1,rz1⟩
 ·have il:decide ((i1:Int) < (s.size:Int))=false:=by simpa using nH hd1
  exact sr (aw (v':=.bool false) U (cb il) (qO 4 U (hx1 i1 _ ⟨fA,hs6⟩ trivial)))
 have dx:decide ((i1:Int) < (s.size:Int))=true:=by simpa using rW hd1
 have eH:i1 < s.size:=by simpa using jr hd1
 refine sr (aw (v':=.bool true) U (cb dx) (qO 15 U ?_))
 have ho3:0≤((i1:Int):Int)∧((i1:Int):Int) < (s.size:Int):=ob
 refine aF (fg (DV wK U U ho3) (av call377 (xd h ((s.data.getD ((i1:Int):Int).toNat 0).toNat:Int)) U (qO 7 U (bC 3 [29,30,31,32] 29 32 ((jz ((s.data.getD ((i1:Int):Int).toNat 0).toNat:Int)) != 3) U (fun c4 hk3=>?_) (fun e=>?_)))))
 ·exact aj (qO 2 U (hk3 _ U))
 refine aj (bC 3 [33,34,35,36] 33 36 ((jz ((s.data.getD ((i1:Int):Int).toNat 0).toNat:Int)) != 5) U (fun c5 hk4=>?_) (fun e=>?_))
 ·exact aj (qO 2 U (hk4 _ U))
 refine aD (ai hs6 U (fun c6 hs8=>?_) (fun c6 hs9=>?_))
 ·exact sr (an (nretP [.bool false] (cs hs8)))
 exact aJ (qT 2 U (aw (v':=I (((i1+1):Nat):Int)) U (bw ob) (qO 2 U (ag1 ((i1+1),rz1) _ (Nat.lt_succ_self _) ⟨lQ hd1,jr hd1,hs9⟩ rd))))
theorem mW (h:HF) (s:ByteArray)  : Ret prog 326 [.string s] h (.bool (dC s)):=by
 refine sT func326 U ntmps326 U fun X hM hX hF=>?_
 have hs0:dC s=dC s:=rfl
 refine qT 16 U (ai hs0 U (fun c1 hs1=>?_) (fun c1 hs2=>?_))
 ·refine aJ (ai hs1 U (fun c2 hs3=>?_) (fun c2 hs4=>?_))
  ·exact sr (an (nretP [.bool false] (cs hs3)))
  exact aJ (qT 4 U (av vQ (ij h s) U (an (nretP [.bool (dG s)] (cs hs4)))))
 refine qT 5 U (ai hs2 U (fun c3 hs7=>?_) (fun c3 hs8=>?_))
 ·refine aJ (ai hs7 U (fun c4 hs9=>?_) (fun c4 hs10=>?_))
  ·exact sr (an (nretP [.bool false] (cs hs9)))
  exact aJ (qT 4 U (av vQ (ij h s) U (an (nretP [.bool (dG s)] (cs hs10)))))
 refine qT 5 U (ai hs8 U (fun c5 hs13=>?_) (fun c5 hs14=>?_))
 ·refine aJ (ai hs13 U (fun c6 hs15=>?_) (fun c6 hs16=>?_))
  ·exact sr (an (nretP [.bool false] (cs hs15)))
  exact aJ (qT 4 U (av vQ (ij h s) U (an (nretP [.bool (dG s)] (cs hs16)))))
 refine qT 5 U (ai hs14 U (fun c7 hs19=>?_) (fun c7 hs20=>?_))
 ·refine aJ (ai hs19 U (fun c8 hs21=>?_) (fun c8 hs22=>?_))
  ·exact sr (an (nretP [.bool false] (cs hs21)))
  exact aJ (qT 4 U (av vQ (ij h s) U (an (nretP [.bool (dG s)] (cs hs22)))))
 refine qT 5 U (ai hs20 U (fun c9 hs25=>?_) (fun c9 hs26=>?_))
 ·refine aJ (ai hs25 U (fun c10 hs27=>?_) (fun c10 hs28=>?_))
  ·exact sr (an (nretP [.bool false] (cs hs27)))
  exact aJ (qT 4 U (av vQ (ij h s) U (an (nretP [.bool (dG s)] (cs hs28)))))
 refine qT 5 U (ai hs26 U (fun c11 hs31=>?_) (fun c11 hs32=>?_))
 ·refine aJ (ai hs31 U (fun c12 hs33=>?_) (fun c12 hs34=>?_))
  ·exact sr (an (nretP [.bool false] (cs hs33)))
  exact aJ (qT 4 U (av vQ (ij h s) U (an (nretP [.bool (dG s)] (cs hs34)))))
 refine qT 5 U (ai hs32 U (fun c13 hs37=>?_) (fun c13 hs38=>?_))
 ·refine aJ (ai hs37 U (fun c14 hs39=>?_) (fun c14 hs40=>?_))
  ·exact sr (an (nretP [.bool false] (cs hs39)))
  exact aJ (qT 4 U (av vQ (ij h s) U (an (nretP [.bool (dG s)] (cs hs40)))))
 refine qT 5 U (ai hs38 U (fun c15 hs43=>?_) (fun c15 hs44=>?_))
 ·refine aJ (ai hs43 U (fun c16 hs45=>?_) (fun c16 hs46=>?_))
  ·exact sr (an (nretP [.bool false] (cs hs45)))
  exact aJ (qT 4 U (av vQ (ij h s) U (an (nretP [.bool (dG s)] (cs hs46)))))
 refine qT 5 U (ai hs44 U (fun c17 hs49=>?_) (fun c17 hs50=>?_))
 ·refine aJ (ai hs49 U (fun c18 hs51=>?_) (fun c18 hs52=>?_))
  ·exact sr (an (nretP [.bool false] (cs hs51)))
  exact aJ (qT 4 U (av vQ (ij h s) U (an (nretP [.bool (dG s)] (cs hs52)))))
 refine qT 5 U (ai hs50 U (fun c19 hs55=>?_) (fun c19 hs56=>?_))
 ·refine aJ (ai hs55 U (fun c20 hs57=>?_) (fun c20 hs58=>?_))
  ·exact sr (an (nretP [.bool false] (cs hs57)))
  exact aJ (qT 4 U (av vQ (ij h s) U (an (nretP [.bool (dG s)] (cs hs58)))))
 refine qT 5 U (ai hs56 U (fun c21 hs61=>?_) (fun c21 hs62=>?_))
 ·refine aJ (ai hs61 U (fun c22 hs63=>?_) (fun c22 hs64=>?_))
  ·exact sr (an (nretP [.bool false] (cs hs63)))
  exact aJ (qT 4 U (av vQ (ij h s) U (an (nretP [.bool (dG s)] (cs hs64)))))
 refine qT 5 U (ai hs62 U (fun c23 hs67=>?_) (fun c23 hs68=>?_))
 ·refine aJ (ai hs67 U (fun c24 hs69=>?_) (fun c24 hs70=>?_))
  ·exact sr (an (nretP [.bool false] (cs hs69)))
  exact aJ (qT 4 U (av vQ (ij h s) U (an (nretP [.bool (dG s)] (cs hs70)))))
 refine qT 5 U (ai hs68 U (fun c25 hs73=>?_) (fun c25 hs74=>?_))
 ·refine aJ (ai hs73 U (fun c26 hs75=>?_) (fun c26 hs76=>?_))
  ·exact sr (an (nretP [.bool false] (cs hs75)))
  exact aJ (qT 4 U (av vQ (ij h s) U (an (nretP [.bool (dG s)] (cs hs76)))))
 refine qT 5 U (ai hs74 U (fun c27 hs79=>?_) (fun c27 hs80=>?_))
 ·refine aJ (ai hs79 U (fun c28 hs81=>?_) (fun c28 hs82=>?_))
  ·exact sr (an (nretP [.bool false] (cs hs81)))
  exact aJ (qT 4 U (av vQ (ij h s) U (an (nretP [.bool (dG s)] (cs hs82)))))
 refine qT 5 U (ai hs80 U (fun c29 hs85=>?_) (fun c29 hs86=>?_))
 ·refine aJ (ai hs85 U (fun c30 hs87=>?_) (fun c30 hs88=>?_))
  ·exact sr (an (nretP [.bool false] (cs hs87)))
  exact aJ (qT 4 U (av vQ (ij h s) U (an (nretP [.bool (dG s)] (cs hs88)))))
 refine qT 4 U (ai hs86 U (fun c31 hs91=>?_) (fun c31 hs92=>?_))
 ·exact sr (an (nretP [.bool false] (cs hs91)))
 exact aJ (qT 4 U (av vQ (ij h s) U (an (nretP [.bool (dG s)] (cs hs92)))))
theorem j8 (h:HF) (s:List ByteArray) (pL:Option Addr) (pK:Nat) (v:ByteArray) (hs:SlC Rp.str h pL pK s):Ret prog 284 [.slice pL s.length pK,.string v] h (I (aP s v)):=by
 refine sT func284 U ntmps284 U fun X hM hX hF=>?_
 have hs0:aP s v=aP s v:=rfl
 refine qK 11 [] U ?_
 refine lp0 s (fun i=>[(0,.slice pL s.length pK),(1,.string v),(7,I (s.length:Int)),(8,I (i:Int))]) ([]) (fun s1 i=>(aP.L1 v (aP.K1)) s1 i) hs.1.1 hs0 ?_ ?_
 ·rintro i1 fA hs1 e
  exact sr (an (nretP [I (-1)] (ci hs1)))
 rintro i1 y1 rz1 hd1 dx aL eH hO hs3 hx1 ag1 e
 refine sr (aw (v':=.bool true) U (cb dx) (qO 16 U (aF (fj (enc:=fun y=>[.string y]) ei xQ ty9 hs.1 (nthZ aL) (ba aL) U U U (fun q2 A2=>dF ty9 A2 U (qO 2 U (ai hs3 U (fun c2 hs4=>?_) (fun c2 hs5=>?_))))))))
 ·exact sr (qO 3 U (nretP [I (i1:Int)] (ci hs4)))
 exact aJ (qT 2 U (aw (v':=I (((i1+1):Nat):Int)) U (bw ob) (qO 2 U (ag1 hs5))))
theorem lJ (h:HF) (l:List ByteArray) (e8:Option Addr) (eZ:Nat) (ok:(ByteArray→Bool)) (ok_v:Value) (hl:SlC Rp.str h e8 eZ l) (hok:∀ (h':HF) (dB:ByteArray),HF.le h h'→rH prog ok_v [.string dB] h' [] (.bool (ok dB))):Ret prog 327 [.slice e8 l.length eZ,ok_v] h (.bool (bA l ok)):=by
 refine sT func327 U ntmps327 U fun X hM hX hF=>?_
 have hs0:bA l ok=bA l ok:=rfl
 refine qK 11 [] U ?_
 refine lp0 l (fun i=>[(0,.slice e8 l.length eZ),(1,ok_v),(7,.slice e8 l.length eZ),(8,I (l.length:Int)),(9,I (i:Int))]) ([]) (fun s1 i=>(bA.L1 l ok (bA.K1)) s1 i) hl.1.1 hs0 ?_ ?_
 ·rintro i1 fA hs1 e
  exact sr (an (nretP [.bool true] (cs hs1)))
 rintro i1 y1 rz1 hd1 dx aL eH hO hs3 hx1 ag1 e
 refine sr (aw (v':=.bool true) U (cb dx) (qO 9 U (aF (fj (enc:=fun y=>[.string y]) ei xQ ty9 hl.1 (nthZ aL) (ba aL) U U U (fun q2 A2=>dF ty9 A2 U (qO 7 U (aF (kH (v:=.bool (ok y1)) [] (List.nil_sublist _) (hok h y1 lf) U U (qO 2 U (bY 6 [18,19,20,21,22,23,24] 18 24 ((aP l y1) != (i1:Int)) U (fun c1 hk1=>?_) (fun e=>?_)))))))))))
 ·exact aj (aj (av Jk (j8 _ _ _ _ y1 hl) U (qO 3 U (hk1 _ U))))
 refine aD (ai hs3 U (fun c2 hs4=>?_) (fun c2 hs5=>?_))
 ·exact sr (an (nretP [.bool false] (cs hs4)))
 exact aJ (qT 2 U (aw (v':=I (((i1+1):Nat):Int)) U (bw ob) (qO 2 U (ag1 hs5))))
theorem qo (h:HF) (s:List ByteArray) (pL:Option Addr) (pK:Nat) (v:ByteArray) (hs:SlC Rp.str h pL pK s):Ret prog 328 [.slice pL s.length pK,.string v] h (.bool (cR s v)):=by
 refine sT func328 U ntmps328 U fun X hM hX hF=>?_
 have hs0:cR s v=cR s v:=rfl
 exact sr (qO 6 U (av Jk (j8 _ _ _ _ v hs) U (qO 3 U (nretP [.bool (decide (0≤(aP s v)))] (cs hs0)))))
theorem w9 (h:HF) (p:Policy) (fL:el) (hp:Policy.ok h p fL) (hsm:smP p):CV prog 279 [.agg (Policy.cells p fL).toArray] h (exW stopV (fun r:Unit=>(.tuple #[]:Value)) (ck p)):=by
 refine cz Hc U ntmps279 U fun X hM hX=>?_
 have hs0:ck p=ck p:=rfl
 have hsr:=hsm.rules
 refine sr (cA (fun b1=>qL 5 [0] U (av call326 (mW h p.Name) U (aj (bC 4 [8,9,10,11,12] 8 12 (bA p.Offices dC) U (fun c1 hk1=>?_) (fun e=>?_))))))
 ·exact qL 2 [0] U (av call327 (lJ _ _ _ _ dC (.func (.func 326) #[] #[]) hp.Offices (fun h' dB hle =>iu call326 (mW h' dB))) U (ek U (hk1 _ U)))
 refine aj (bC 4 [13,14,15,16,17] 13 17 (bA p.Kinds dC) U (fun c2 hk2=>?_) (fun e=>?_))
 ·exact qL 2 [0] U (av call327 (lJ _ _ _ _ dC (.func (.func 326) #[] #[]) hp.Kinds (fun h' dB hle =>iu call326 (mW h' dB))) U (ek U (hk2 _ U)))
 refine aF (li vx (gO h (((dC p.Name)&&(bA p.Offices dC))&&(bA p.Kinds dC)) 201) U (fun u1 hu1=>?_) (fun pv1 hpv1 e=>?_))
 ·obtain ⟨rx1,hrx1,rfl⟩:=mZ hu1
  have hs1:=hs0.trans (nD hrx1)
  cases rx1
  refine qO 3 U (cW 0 ty64 U U U (aF (cY call325 (kP _ _ _ hp ob) U (fun v1 h1 hle1 hp1=>?_))))
  obtain ⟨rb1,rc1,rfl,sl1⟩:=hp1
  refine qL 3 [] U (dY ?_)
  let z1:Nat×Obj:=(b1,O (Policy.cells p fL) 64)
  refine cu (L':=[z1]++(markB [])) ap ?_
  refine pF (ι:=Nat×List Nat×HF) (fun i=>[]) (fun i=>marks i.2.1) (fun i=>i.2.2) (fun i=>[z1]++(markB i.2.1)) (fun i=>i.1≤(aB p).length∧ck p=((ck.K1))∧HF.le h1 i.2.2) ?_ (fun hx1=>?_)
  ·rintro ⟨i1,rs1,hh1⟩ ⟨fA,hs2,hl1⟩ e
   have hs3:ck p=(Except.ok ()):=hs2
   exact cu (L':=([z1])++markB rs1) ap (uH rs1 [] Hc U hX trivial (congrArg (exW stopV (fun r:Unit=>(.tuple #[]:Value))) hs3))
  refine tK (ι:=Nat×List Nat×HF×List Expr) (fun i=>[(1,Q b1),(20,.slice rb1 ((aB p).length) rc1),(21,I ((aB p).length:Int)),(22,I (i.1:Int))]) (fun i=>marks i.2.1) (fun i=>i.2.2.1) (fun i=>[z1]++(markB i.2.1)) (fun i=>(aB p).drop i.1=i.2.2.2∧i.1≤(aB p).length∧ck p=((ck.L1 p (ck.K1)) i.2.2.2)∧HF.le h1 i.2.2.1) (fun i=>i.2.2.2.length) (0,[],h1,(aB p)) U rd sw ⟨U,Nat.zero_le _,hs1,lf⟩ ?_
  rintro ⟨i1,rs1,hh1,s1⟩ ⟨hd1,fA,hs4,hl1⟩ ag1 e
  rcases s1 with _ | ⟨y1,rz1⟩
  ·have il:=nH hd1
   exact sr (aw (v':=.bool false) U (cb il) (qO 4 U (hx1 (i1,rs1,hh1) _ ⟨fA,hs4,hl1⟩ trivial)))
  have dx:=rW hd1
  have aL:=rG hd1
  have eH:=jr hd1
  have hO:=sl1.1.1
  try have hsy:=xC hsm (gi hd1)
  refine sr (aw (v':=.bool true) U (cb dx) (qO 8 U (aF (gC kk ty62 (sl1.mono Expr.ao hl1).1 (nthZ aL) (ba aL) U U U (fun _ _ _ e=>e) (fun q2 r2 A2 ok2=>dz ty62 A2 U U (aV zc62 (fun b4=>aS 0 ty62 U U U U U U (qO 3 U (cW 0 ty62 U U U (aF (cY He (lI _ _ _ 1 ok2 ob) U (fun v3 h3 hle3 hp3=>?_))))))))))))
  obtain ⟨_,rfl,mo2⟩:=hp3
  refine qO 2 U ?_
  let z2:Nat×Obj:=(b4,O (Expr.cells y1 r2) 62)
  refine cu (L':=([z2,z1])++markB rs1) ap ?_
  refine jw (it:=v3) (xs:=(bq y1 1)) (ι:=HF) rs1 (fun i=>i) (fun i=>[z2,z1]) (fun s i=>ck p=((ck.L3 p ((ck.L1 p (ck.K1) rz1))) s)∧HF.le h3 i) (fun _=>False) (fun _=>False) 0 (fun ch _ _=>∃ pv_,ch=[{ v:=stopV pv_,recovered:=false }]∧ck p=.error pv_) h3 Hc U mo2 U mM (fun _ _ _ _ _ hq=>hq) U (show [z2,z1]=_ from U) ⟨hs4,lf⟩ ?_ ?_ ?_ ?_ ?_
  ·rintro l3 dm3 lp3 y3 rz3 vs3 hh3 hr3 X hFR3 ⟨hs6,hl3⟩ hl03 hlr3 hv3 hX hXM hlp3 nx3 rt3 ex3 pn3
   obtain ⟨rr3_0,rfl,ok3_0⟩:=hv3
   let z3:Nat×Obj:=(dm3,.deferred (some []))
   refine cu (L':=[(l3,.loop lp3),z3,z2,z1]++(markB rs1)) ap (ay (aV zc327 (fun b6=>aS 0 ty327 U U U U U U (aD (jh 1 U hlp3 (qK 3 [] U (cW 0 ty62 U U U (av call283 (mG _ _ _ ok3_0.x) U (qO 2 U (bY 7 [33,34,35,36,37,38,39,40] 33 40 (cR p.Offices y3.x.Name) U (fun c3 hk3=>?_) (fun e=>?_)))))))))))
   ·exact qL 5 [4,0] U (av call328 (qo _ _ _ _ y3.x.Name (hp.Offices.mono Rp.gX ((((hle1.t hl1).t hle3).t hl3).t hlr3))) U (ek U (hk3 _ U)))
   refine aF (li vx (gO hr3 ((!(df y3.x))||(cR p.Offices y3.x.Name)) 201) U (fun u2 hu2=>?_) (fun pv2 hpv2 e=>?_))
   ·obtain ⟨rx2,hrx2,rfl⟩:=mZ hu2
    have hs7:=hs6.trans (nD hrx2)
    cases rx2
    exact aD (da (bB (L':=[(l3,.loop { lp3 with state:=.busy }),z3,z2,z1]++(markB rs1)) js (cu (L':=rdH l3 dm3 lp3 (([z2,z1])++markB rs1)) ap (nx3 hr3 _ _ ⟨hs7,(hl3.t hlr3)⟩ lf))))
   obtain ⟨pv2e,hpv2e,rfl⟩:=lr hpv2
   have hs8:=hs6.trans (lO hpv2e)
   exact vR (L':=[(l3,.loop { lp3 with state:=.busy }),z3]++(markB rs1)) js (pn3 _ _ _ [] ⟨_,U,hs8⟩)
  ·rintro dm3 hh3 hn3 ⟨hs9,hl3⟩ hln3 hl03
   exact cu (L':=[z2,z1]++(markB (dm3::rs1))) ap (qT 3 U (aw (v':=I (((i1+1):Nat):Int)) U (bw ob) (qO 2 U (bB (L':=[z1]++(markB (dm3::rs1))) js (ag1 ((i1+1),(dm3::rs1),hn3,rz1) _ (Nat.lt_succ_self _) ⟨lQ hd1,jr hd1,hs9,(((hl1.t hle3).t hl3).t hln3)⟩ rd)))))
  ·exact xf
  ·exact xf
  rintro dm3 ch hn3 L0 ⟨pv_,rfl,hpv_⟩ hl03
  exact mq (dm3::rs1) Hc hX (congrArg (exW stopV (fun r:Unit=>(.tuple #[]:Value))) hpv_)
 obtain ⟨pv1e,hpv1e,rfl⟩:=lr hpv1
 have hs10:=hs0.trans (lO hpv1e)
 exact gp (mq [] Hc hX (congrArg (exW stopV (fun r:Unit=>(.tuple #[]:Value))) hs10))
theorem gy (h:HF) (eo:Int) (low:Int) (high:Int)  : Ret prog 149 [I eo,I low,I high] h (.bool (aM eo low high)):=by
 refine sT func149 U ntmps149 U fun X hM hX hF=>?_
 have hs0:aM eo low high=aM eo low high:=rfl
 refine qT 10 U (bC 4 [10,11,12,13,14] 10 14 (decide (eo≤high)) U (fun c1 hk1=>?_) (fun e=>?_))
 ·exact aj (qO 3 U (hk1 _ U))
 exact an (nretP [.bool (decide (low≤eo)&&decide (eo≤high))] (cs hs0))
theorem Ie {n a b:Int} (h:aM n a b=true):a≤n∧n≤b:=by simpa [aM] using h
theorem vm (h:HF) (x0:Expr) (MJ:cG) (hx0:Expr.ok h x0 MJ):Ret prog 405 [.agg (Expr.cells x0 MJ).toArray] h (.bool (mA x0)):=by
 refine sT func405 U ntmps405 U fun X hM hX hF=>?_
 have hs0:mA x0=mA x0:=rfl
 exact sr (cA (fun b1=>qO 6 U (nretP [.bool false] (cs hs0))))
theorem vl (h:HF) (x:Expr) (fP:cG) (hx:Expr.ok h x fP):Ret prog 406 [.agg (Expr.cells x fP).toArray] h (.bool (jb x)):=by
 refine sT func406 U ntmps406 U fun X hM hX hF=>?_
 have hs0:jb x=jb x:=rfl
 refine sr (cA (fun b1=>qL 8 [0] U (bC 5 [6,7,8,9,10,11] 6 11 ((x.L.length:Int)==0) U (fun c1 hk1=>?_) (fun e=>?_))))
 ·exact qL 5 [0] U (hk1 _ U)
 exact an (nretP [.bool ((x.N==0)&&((x.L.length:Int)==0))] (cs hs0))
theorem vk (h:HF) (x:Expr) (fP:cG) (hx:Expr.ok h x fP):Ret prog 407 [.agg (Expr.cells x fP).toArray] h (.bool (ja x)):=by
 refine sT func407 U ntmps407 U fun X hM hX hF=>?_
 have hs0:ja x=ja x:=rfl
 refine sr (cA (fun b1=>qL 6 [0] U (av wI (gy h x.N 1 4096) U (aj (bC 5 [6,7,8,9,10,11] 6 11 ((x.L.length:Int)==0) U (fun c1 hk1=>?_) (fun e=>?_))))))
 ·exact qL 5 [0] U (hk1 _ U)
 exact an (nretP [.bool ((aM x.N 1 4096)&&((x.L.length:Int)==0))] (cs hs0))
theorem vj (h:HF) (x:Expr) (fP:cG) (hx:Expr.ok h x fP):Ret prog 408 [.agg (Expr.cells x fP).toArray] h (.bool (i9 x)):=by
 refine sT func408 U ntmps408 U fun X hM hX hF=>?_
 have hs0:i9 x=i9 x:=rfl
 refine sr (cA (fun b1=>qL 8 [0] U (bC 5 [6,7,8,9,10,11] 6 11 (aM (x.L.length:Int) 1 16) U (fun c1 hk1=>?_) (fun e=>?_))))
 ·exact qL 3 [0] U (av wI (gy h (x.L.length:Int) 1 16) U (ek U (hk1 _ U)))
 refine aj (bC 7 [12,13,14,15,16,17,18,19] 12 19 (aM x.N 1 (x.L.length:Int)) U (fun c2 hk2=>?_) (fun e=>?_))
 ·exact qL 5 [0,0] U (av wI (gy h x.N 1 (x.L.length:Int)) U (ek U (hk2 _ U)))
 exact an (nretP [.bool (((x.Name.toList==(⟨#[]⟩:ByteArray).toList)&&(aM (x.L.length:Int) 1 16))&&(aM x.N 1 (x.L.length:Int)))] (cs hs0))
theorem vi (h:HF) (x:Expr) (fP:cG) (hx:Expr.ok h x fP):Ret prog 409 [.agg (Expr.cells x fP).toArray] h (.bool (iF x)):=by
 refine sT func409 U ntmps409 U fun X hM hX hF=>?_
 have hs0:iF x=iF x:=rfl
 refine sr (cA (fun b1=>qL 8 [0] U (bC 5 [6,7,8,9,10,11] 6 11 ((x.L.length:Int)==2) U (fun c1 hk1=>?_) (fun e=>?_))))
 ·exact qL 5 [0] U (hk1 _ U)
 refine aj (bC 4 [12,13,14,15,16] 12 16 (aM x.N 0 1099511627776) U (fun c2 hk2=>?_) (fun e=>?_))
 ·exact qL 2 [0] U (av wI (gy h x.N 0 1099511627776) U (ek U (hk2 _ U)))
 exact an (nretP [.bool (((x.Name.toList==(⟨#[]⟩:ByteArray).toList)&&((x.L.length:Int)==2))&&(aM x.N 0 1099511627776))] (cs hs0))
theorem GB (h:HF) (i:Int) (hi:0≤i∧i < 5) (x:Expr) (fP:cG) (hx:Expr.ok h x fP):rH prog (kfun i) [.agg (Expr.cells x fP).toArray] h [] (.bool (kindsP i x)):=by
 have:i=0∨i=1∨i=2∨i=3∨i=4:=by omega
 rcases this with rfl | rfl | rfl | rfl | rfl
 ·exact iu (cap:=[]) call405 (vm h x fP hx)
 ·exact iu (cap:=[]) call406 (vl h x fP hx)
 ·exact iu (cap:=[]) call407 (vk h x fP hx)
 ·exact iu (cap:=[]) call408 (vj h x fP hx)
 exact iu (cap:=[]) call409 (vi h x fP hx)
end Go.Sg
namespace Go.Sg
open Go.Proofs Go.Proofs.Tryz
section runs
variable {P:Program} {e:Env} {X:Cx} {h:HF} {L:LH} {d:Option Nat} {ty:TypeId} {pos:String} {af:Array Edge} {g:Option (Nat×Bool)}
theorem Li {t u:TypeId} {x:Operand} (hT:∃ ms,P.underlying t=some (.interface ms)) (hx:e.ev x=.nilIface):∀ w,St X h L w→(execOp e.ev ⟨d,.binOp .neq t x (.const .nilIface) u,ty,pos,af,g⟩).run P w=.ok (.value (.bool false)) w:=
 fun w _=>by
  obtain ⟨ms,hT⟩:=hT
  have hc:e.ev (.const .nilIface)=.nilIface:=rfl
  have he:(Op.equal t .nilIface .nilIface).run P w=.ok true w:=by
   rw [Op.equal,Op.maxDepth,show (10000:Nat)=9999+1 from rfl,Op.equalIn];simp [run_underlying hT]
  simp [execOp,hx,hc,eqGuard,binOp,he]
theorem Lh {t u:TypeId} {x:Operand} {T:TypeId} {v:Value} (hT:∃ ms,P.underlying t=some (.interface ms)) (hx:e.ev x=.iface T v):∀ w,St X h L w→(execOp e.ev ⟨d,.binOp .neq t x (.const .nilIface) u,ty,pos,af,g⟩).run P w=.ok (.value (.bool true)) w:=
 fun w _=>by
  obtain ⟨ms,hT⟩:=hT
  have hc:e.ev (.const .nilIface)=.nilIface:=rfl
  have he:(Op.equal t (.iface T v) .nilIface).run P w=.ok false w:=by
   rw [Op.equal,Op.maxDepth,show (10000:Nat)=9999+1 from rfl,Op.equalIn];simp [run_underlying hT]
  simp [execOp,hx,hc,eqGuard,binOp,he]
theorem Is {x:Operand} {xt T:TypeId} {fs:Array Field} {v:Value} (hT:P.underlying T=some (.struct fs)) (hx:e.ev x=.iface T v):∀ w,St X h L w→(execOp e.ev ⟨d,.typeAssert x xt T true,ty,pos,af,g⟩).run P w=.ok (.value (.tuple #[v,.bool true])) w:=
 fun w _=>by simp [execOp,hx,Instr.typeAssert,run_underlying hT]
end runs
def bodyOf (f:Func):Code:=f.body.getD .skip
theorem Gm {P:Program} {e:Env} {d:Option Nat} {ty:TypeId} {pos:String} {af:Array Edge} {g:Option (Nat×Bool)} {t:Nat} {fv:Value} {ats:Array TypeId} (hf:e t=fv) (w:World):
  (execOp e.ev ⟨d,.call ⟨.value (.tmp t),#[],ats⟩,ty,pos,af,g⟩).run P w=(do let d ← Deferred.ofValue fv #[];invoke d.target d.args:Sem Next).run P w:=by
 subst hf;simp [execOp,resolve,Env.ev]
theorem CR (h:HF) (b1:Nat) (X':Cx):TT prog (deferFrame 323) 17 [.code (bodyOf Tryz.f323)] (Cm prog X' .returning (fun h' B=>h'=h∧B=[(b1,Obj.cells (List.toArray [.int .i64 0]) 37 (0,0))])) (envArgs [.pointer (some ⟨b1,0,none⟩)]) [] X' h [(b1,Obj.cells (List.toArray [.int .i64 0]) 37 (0,0))]:=by
 refine aR (ay (?_))
 refine yJ (fun cs Φ ⟨c,rest,hcs,hm,_⟩=>by subst hcs;simp [recoverD,hm]) ?_
 refine cK (aD (aR (ay (aj (aF (fg (Li ⟨_,Jj⟩ rfl) (aD (?_))))))))
 exact kL rfl (aJ (DM Ji rfl ⟨rfl,rfl⟩))
theorem CT (h:HF) (b1:Nat) (ee:Int) (X':Cx):TT prog (deferFrame 323) 17 [.code (bodyOf Tryz.f323)]
  (fun cs Φ=>∃ c rest,cs=c::rest∧c.mode=.panicking [{ v:=stopV ee,recovered:=false }]∧Cm prog X' (.panicking [{ v:=stopV ee,recovered:=true }]) (fun h' B=>h'=h∧∃ B0,B=B0++[(b1,Obj.cells (List.toArray [.int .i64 ee]) 37 (0,0))]) ({ c with mode:=(.panicking [{ v:=stopV ee,recovered:=true }]) }::rest) Φ)
  (envArgs [.pointer (some ⟨b1,0,none⟩)]) [] X' h [(b1,Obj.cells (List.toArray [.int .i64 0]) 37 (0,0))]:=by
 refine aR (ay (?_))
 refine Ar (F':=Cm prog X' (.panicking [{ v:=stopV ee,recovered:=true }]) (fun h' B=>h'=h∧∃ B0,B=B0++[(b1,Obj.cells (List.toArray [.int .i64 ee]) 37 (0,0))])) (stopV ee) (fun cs Φ ⟨c,rest,hcs,hm,hF⟩=>⟨_,by subst hcs;simp [recoverD,hm],hF⟩) ?_
 refine cK (aD (aR (ay (aj (aF (fg (Lh ⟨_,Jj⟩ rfl) (aD (?_))))))))
 refine iq rfl (aR (ay (aj (aF (fg (Is underlying358 rfl) (aj (fM rfl rfl (fM rfl rfl (aV zc358 (fun b2=>?_))))))))))
 refine aS 0 ty358 rfl rfl rfl rfl rfl rfl (cK (aD (?_)))
 refine aR (aR (ay (aj (kz rfl (aD (?_))))))
 refine kL rfl (aJ (?_))
 refine ay (fX Kw rfl (?_))
 refine kl 0 ty37 rfl rfl rfl (?_)
 refine cJ 1 ty37 rfl rfl rfl rfl rfl rfl (aD (?_))
 exact DM Ji rfl ⟨rfl,[(b2,_)],rfl⟩
theorem vo (h:HF) (fv:Value) (x:Except Int Unit) (hf:kZ prog fv #[] h [] (XR (exW stopV (fun _:Unit=>.tuple #[]) x) h)):Ret prog 276 [fv] h (.int .i64 (attR x)):=by
 refine cz func276 rfl ntmps276 rfl fun X hM hX=>?_
 refine aR (ay (aV zc37 (fun b1=>aD (aR (ay (aF (et rfl rfl (Jv rfl rfl (aD (aR (ay (aj (?_)))))))))))))
 have fin:∀ (r:Int) (B:LH),attR x=r→(∃ B0,B=B0++[(b1,Obj.cells (List.toArray [.int .i64 r]) 37 (0,0))])→∀ (e:Env),e 2=.pointer (some ⟨b1,0,none⟩)→∀ a:Act,envOf a=e→∀ w,St X h (B++[]) w →
   ∃ v h2 B2,(results Tryz.f276 a.tmps).run prog w=.ok v w∧St X h2 B2 w∧v=.int .i64 (attR x)∧h2=h∧B2=[]:=by
  rintro r B hr ⟨B0,rfl⟩ e he a ha w hw
  have hw':=hw.sub (L':=[(b1,Obj.cells (List.toArray [.int .i64 r]) 37 (0,0))]) (by simp)
  exact ⟨_,h,[],lk (rs:=[.cell 2 37]) (vs:=[.int .i64 r]) rfl ⟨⟨0,b1,[.int .i64 r],37,(0,0),rfl,he,.inr ⟨_,ty37,rfl⟩⟩,trivial⟩ a ha w hw',hw'.sub (List.nil_sublist _),by rw [hr];rfl,rfl,rfl⟩
 refine DL rfl (by decide) rfl rfl (fun w hw=>?_)
 have hpre:Pre h [] w:=(hw.sub (List.nil_sublist _)).pre
 obtain ⟨nx,hrun,hcall⟩:=hf w hpre
 refine ⟨nx,w,?_,hcall.mono ?_⟩
 ·rw [← hrun];exact Gm rfl w
 rintro y w' ⟨h',B,hst,rfl,rfl,hv⟩
 have hw2:=St.after (A:=[]) (B:=[]) (F:=[(b1,Obj.cells (List.toArray [.int .i64 0]) 37 (0,0))]) hw hst
 cases y with
 | outgrown=>trivial
 | returned v=>
  refine ⟨h',_,hw2,?_⟩
  have hx:∃ u,x=.ok u:=by cases x with
   | ok u=>exact ⟨u,rfl⟩
   | error p=>simp [exW] at hv
  obtain ⟨u,rfl⟩:=hx
  refine aD (aR (ay (cJ 0 ty37 rfl rfl rfl rfl rfl rfl (aD (?_)))))
  refine KY (c:=bodyOf Tryz.f323) (cap:=[.pointer (some ⟨b1,0,none⟩)]) (A:=[(b1,Obj.cells (List.toArray [.int .i64 0]) 37 (0,0))]) (R':=fun h'' B=>h''=h'∧B=[(b1,Obj.cells (List.toArray [.int .i64 0]) 37 (0,0))]) func276 Ji rfl ntmps323 rfl call323 (fun X' _=>CR h' b1 X') (Fr:=[]) rfl ?_
  rintro h'' B _ ⟨rfl,rfl⟩ a ha w hw
  obtain ⟨v,h2,B2,h3,h4,rfl,rfl,rfl⟩:=fin 0 _ rfl ⟨[],rfl⟩ _ rfl a ha w hw
  exact ⟨_,_,_,h3,h4,rfl,rfl,rfl⟩
 | panicked ch=>
  refine ⟨h',_,hw2,?_⟩
  have hx:∃ ee,x=.error ee:=by cases x with
   | ok u=>simp [exW] at hv
   | error p=>exact ⟨p,rfl⟩
  obtain ⟨ee,rfl⟩:=hx
  simp only [exW] at hv
  cases hv
  refine K6 (c:=bodyOf Tryz.f323) (cap:=[.pointer (some ⟨b1,0,none⟩)]) (A:=[(b1,Obj.cells (List.toArray [.int .i64 0]) 37 (0,0))]) (R':=fun h'' B=>h''=h'∧∃ B0,B=B0++[(b1,Obj.cells (List.toArray [.int .i64 ee]) 37 (0,0))]) func276 Ji rfl ntmps323 rfl call323 (fun X' _=>CT h' b1 ee X') (Fr:=[]) rfl ?_
  rintro h'' B _ ⟨rfl,hB⟩ a ha w hw
  obtain ⟨v,h2,B2,h3,h4,rfl,rfl,rfl⟩:=fin ee _ rfl hB _ rfl a ha w hw
  exact ⟨_,_,_,h3,h4,rfl,rfl,rfl⟩
end Go.Sg
namespace Go.Sg
open Go.Proofs Go.Proofs.Tryz
set_option maxHeartbeats 2000000
theorem xY (h:HF) (p:Policy) (fL:el) (hp:Policy.ok h p fL) (hsm:smP p) (hk:Kinds h):CV prog 280 [.agg (Policy.cells p fL).toArray] h (exW stopV (fun r:Unit=>(.tuple #[]:Value)) (bp p)):=by
 refine cz C2 U ntmps280 U fun X hM hX=>?_
 have hs0:bp p=bp p:=rfl
 have hsr:=hsm.rules
 refine sr (cA (fun b1=>qL 8 [0] U (bC 8 [12,13,14,15,16,17,18,19,20] 12 20 ((p.Rules.length:Int)==(p.Kinds.length:Int)) U (fun c1 hk1=>?_) (fun e=>?_))))
 ·exact qL 8 [0,0] U (hk1 _ U)
 refine aj (bC 4 [21,22,23,24,25] 21 25 (aM p.Mode 1 4) U (fun c2 hk2=>?_) (fun e=>?_))
 ·exact qL 2 [0] U (av wI (gy h p.Mode 1 4) U (ek U (hk2 _ U)))
 refine aF (li vx (gO h ((decide (0 < (p.Kinds.length:Int))&&((p.Rules.length:Int)==(p.Kinds.length:Int)))&&(aM p.Mode 1 4)) 200) U (fun u1 hu1=>?_) (fun pv1 hpv1 e=>?_))
 ·obtain ⟨rx1,hrx1,rfl⟩:=mZ hu1
  have hs1:=hs0.trans (nD hrx1)
  cases rx1
  refine qL 9 [0] U ?_
  let z2:Nat×Obj:=(b1,O (Policy.cells p fL) 64)
  refine lp0 p.Rules (fun i=>[(1,Q b1),(28,.slice fL.lv p.Rules.length fL.lu),(29,I (p.Rules.length:Int)),(30,I (i:Int))]) ([z2]) (fun s1 i=>(bp.L1 p (bp.K1 p)) s1 i) hp.Rules.1.1 hs1 ?_ ?_
  ·rintro i1 fA hs2 e
   refine sr (cW 0 ty64 U U U (aF (cY call325 (kP _ _ _ hp ob) U (fun v1 h1 hle1 hp1=>?_))))
   obtain ⟨rb1,rc1,rfl,sl1⟩:=hp1
   refine aV zc60 (fun b3=>cJ 0 ty60 U U U U U U (qL 7 [0] U (dY ?_)))
   let z1:Nat×Obj:=(b3,O [.slice rb1 ((aB p).length) rc1] 60)
   refine cu (L':=[z1,z2]++(markB [])) ap ?_
   refine pF (ι:=Nat×List Nat×HF) (fun i=>[]) (fun i=>marks i.2.1) (fun i=>i.2.2) (fun i=>[z1,z2]++(markB i.2.1)) (fun i=>i.1≤(aB p).length∧bp p=((bp.K2))∧HF.le h1 i.2.2) ?_ (fun hx2=>?_)
   ·rintro ⟨i2,rs2,hh2⟩ ⟨zJ,hs3,hl2⟩ e
    have hs4:bp p=(Except.ok ()):=hs3
    exact cu (L':=([z1,z2])++markB rs2) ap (uH rs2 [] C2 U hX trivial (congrArg (exW stopV (fun r:Unit=>(.tuple #[]:Value))) hs4))
   refine tK (ι:=Nat×List Nat×HF×List Expr) (fun i=>[(4,Q b3),(52,.slice rb1 ((aB p).length) rc1),(53,I ((aB p).length:Int)),(54,I (i.1:Int))]) (fun i=>marks i.2.1) (fun i=>i.2.2.1) (fun i=>[z1,z2]++(markB i.2.1)) (fun i=>(aB p).drop i.1=i.2.2.2∧i.1≤(aB p).length∧bp p=((bp.L2 p (bp.K2)) i.2.2.2 i.1)∧HF.le h1 i.2.2.1) (fun i=>i.2.2.2.length) (0,[],h1,(aB p)) U rd sw ⟨U,Nat.zero_le _,hs2,lf⟩ ?_
   rintro ⟨i2,rs2,hh2,s2⟩ ⟨hd2,zJ,hs5,hl2⟩ ag1 e
   rcases s2 with _ | ⟨y2,rz2⟩
   ·have Mx:=nH hd2
    exact sr (aw (v':=.bool false) U (cb Mx) (qO 4 U (hx2 (i2,rs2,hh2) _ ⟨zJ,hs5,hl2⟩ trivial)))
   have uv:=rW hd2
   have mN:=rG hd2
   have BA:=jr hd2
   have GF:=sl1.1.1
   try have hsy:=xC hsm (gi hd2)
   refine sr (aw (v':=.bool true) U (cb uv) (qO 9 U (aF (gC kk ty62 (sl1.mono Expr.ao hl2).1 (nthZ mN) (ba mN) U U U (fun _ _ _ e=>e) (fun q4 r3 A5 ok3=>dz ty62 A5 U U (aV zc3 (fun b7=>aV zc62 (fun b8=>cJ 1 ty3 U U U U U U (aS 0 ty62 U U U U U U (qO 3 U (cW 0 ty62 U U U (aF (cY He (lI _ _ _ 1 ok3 ob) U (fun v3 h3 hle3 hp3=>?_))))))))))))))
   obtain ⟨_,rfl,mo2⟩:=hp3
   refine qO 2 U ?_
   let z3:Nat×Obj:=(b7,O [I (i2:Int)] 3)
   let z5:Nat×Obj:=(b8,O (Expr.cells y2 r3) 62)
   refine cu (L':=([z5,z3,z1,z2])++markB rs2) ap ?_
   refine jw (it:=v3) (xs:=(bq y2 1)) (ι:=HF) rs2 (fun i=>i) (fun i=>[z5,z3,z1,z2]) (fun s i=>bp p=((bp.L4 p i2 ((bp.L2 p (bp.K2) rz2 (i2+1)))) s)∧HF.le h3 i) (fun _=>False) (fun _=>False) 0 (fun ch _ _=>∃ pv_,ch=[{ v:=stopV pv_,recovered:=false }]∧bp p=.error pv_) h3 C2 U mo2 U mM (fun _ _ _ _ _ hq=>hq) U (show [z5,z3,z1,z2]=_ from U) ⟨hs5,lf⟩ ?_ ?_ ?_ ?_ ?_
   ·rintro l4 dm4 lp4 y4 rz4 vs4 hh4 hr4 X hFR4 ⟨hs7,hl4⟩ hl04 hlr4 hv4 hX hXM hlp4 nx4 rt4 ex4 pn4
    obtain ⟨rr4_0,rfl,ok4_0⟩:=hv4
    let z6:Nat×Obj:=(dm4,.deferred (some []))
    refine cu (L':=[(l4,.loop lp4),z6,z5,z3,z1,z2]++(markB rs2)) ap (ay (aV zc327 (fun b10=>aS 0 ty327 U U U U U U (aD (jh 1 U hlp4 (qT 2 U ?_))))))
    let z4:Nat×Obj:=(l4,.loop { lp4 with state:=.busy })
    let z8:Nat×Obj:=(b10,O (gf.cells y4 rr4_0) 327)
    refine eQ ([z8,z4,z6,z5,z3,z1,z2]) mixed kr jn (fun dH _=>?_)
    refine qB [0,1] U (tf 2 U U (fun _ _ hj=>fH ty3 U (hj.nth (i:=0) U) U) (tn 3 U (eP wI (gy hr4 y4.x.Kind 1 4) U (⟨jn,tm 4 U ?_⟩))))
    refine dt 66 U (fun c3=>?_) (fun c3=>?_)
    ·refine qB [5,6] U (tf 7 U U (fun _ _ hj=>fH ty3 U (hj.nth (i:=0) U) U) ?_)
     have ho4:0≤(y4.x.Kind:Int)∧(y4.x.Kind:Int) < 5:=(by have:=Ie ob;omega)
     have A7:=(hk.mono ((((hle1.t hl2).t hle3).t hl4).t hlr4)).at ho4
     refine tf 8 U U (fun _ _ _=>J3 underlying365 ty168 U U ho4) (tf 9 U U (fun _ _ hj=>eV ty168 (A7.mono hj.1) U) (qB [10] U (tf 11 U U (fun _ _ hj=>je ty62 U (hj.nth (i:=0) U) U) (tn 12 U (kH (v:=.bool (kindsP y4.x.Kind y4.x)) [] (List.nil_sublist _) (GB hr4 y4.x.Kind ho4 y4.x rr4_0.x ok4_0.x) U U (⟨jn,tf 13 U U (fun _ _ _=>mz U (cb (show (kindsP y4.x.Kind y4.x)=((aM y4.x.Kind 1 4)&&(kindsP y4.x.Kind y4.x)) from by first | (rw [c3];rfl) | (rw [c3];rfl) | simp [c3]))) ?_⟩))))))
     refine tn 14 U (li vx (gO hr4 ((aM y4.x.Kind 1 4)&&(kindsP y4.x.Kind y4.x)) 200) U (fun u2 hu2=>?_) (fun pv2 hpv2 e=>?_))
     ·obtain ⟨rx2,hrx2,rfl⟩:=mZ hu2
      have hs8:=hs7.trans (nD hrx2)
      cases rx2
      refine ⟨jn,aW kr (qK 7 [4,5] U (bY 5 [82,83,84,85,86,87] 82 87 (y4.x.Kind != 4) U (fun c4 hk3=>?_) (fun e=>?_)))⟩
      ·exact qL 5 [0] U (hk3 _ U)
      refine aF (li vx (gO hr4 (decide ((i2:Int) < (IntKind.wrap .i64 (((aB p).length:Int) - 1)))||(y4.x.Kind != 4)) 200) U (fun u3 hu3=>?_) (fun pv3 hpv3 e=>?_))
      ·obtain ⟨rx3,hrx3,rfl⟩:=mZ hu3
       have hs9:=hs8.trans (nD hrx3)
       cases rx3
       exact aD (da (bB (L':=[z4,z6,z5,z3,z1,z2]++(markB rs2)) js (cu (L':=rdH l4 dm4 lp4 (([z5,z3,z1,z2])++markB rs2)) ap (nx4 hr4 _ _ ⟨hs9,(hl4.t hlr4)⟩ lf))))
      obtain ⟨pv3e,hpv3e,rfl⟩:=lr hpv3
      have hs10:=hs8.trans (lO hpv3e)
      exact vR (L':=[z4,z6]++(markB rs2)) js (pn4 _ _ _ [] ⟨_,U,hs10⟩)
     obtain ⟨pv2e,hpv2e,rfl⟩:=lr hpv2
     have hs11:=hs7.trans (lO hpv2e)
     exact vR (L':=[z4,z6]++(markB rs2)) js (pn4 _ _ _ [] ⟨_,U,hs11⟩)
    refine qR 5 8 U (tf 13 U U (fun _ _ _=>mz U (cb (show false=((aM y4.x.Kind 1 4)&&(kindsP y4.x.Kind y4.x)) from by first | (rw [c3];rfl) | (rw [c3];rfl) | simp [c3]))) ?_)
    refine tn 14 U (li vx (gO hr4 ((aM y4.x.Kind 1 4)&&(kindsP y4.x.Kind y4.x)) 200) U (fun u4 hu4=>?_) (fun pv4 hpv4 e=>?_))
    ·obtain ⟨rx4,hrx4,rfl⟩:=mZ hu4
     have hs12:=hs7.trans (nD hrx4)
     cases rx4
     refine ⟨jn,aW kr (qK 7 [4,5] U (bY 5 [82,83,84,85,86,87] 82 87 (y4.x.Kind != 4) U (fun c5 hk4=>?_) (fun e=>?_)))⟩
     ·exact qL 5 [0] U (hk4 _ U)
     refine aF (li vx (gO hr4 (decide ((i2:Int) < (IntKind.wrap .i64 (((aB p).length:Int) - 1)))||(y4.x.Kind != 4)) 200) U (fun u5 hu5=>?_) (fun pv5 hpv5 e=>?_))
     ·obtain ⟨rx5,hrx5,rfl⟩:=mZ hu5
      have hs13:=hs12.trans (nD hrx5)
      cases rx5
      exact aD (da (bB (L':=[z4,z6,z5,z3,z1,z2]++(markB rs2)) js (cu (L':=rdH l4 dm4 lp4 (([z5,z3,z1,z2])++markB rs2)) ap (nx4 hr4 _ _ ⟨hs13,(hl4.t hlr4)⟩ lf))))
     obtain ⟨pv5e,hpv5e,rfl⟩:=lr hpv5
     have hs14:=hs12.trans (lO hpv5e)
     exact vR (L':=[z4,z6]++(markB rs2)) js (pn4 _ _ _ [] ⟨_,U,hs14⟩)
    obtain ⟨pv4e,hpv4e,rfl⟩:=lr hpv4
    have hs15:=hs7.trans (lO hpv4e)
    exact vR (L':=[z4,z6]++(markB rs2)) js (pn4 _ _ _ [] ⟨_,U,hs15⟩)
   ·rintro dm4 hh4 hn4 ⟨hs16,hl4⟩ hln4 hl04
    exact cu (L':=[z5,z3,z1,z2]++(markB (dm4::rs2))) ap (qT 3 U (aw (v':=I (((i2+1):Nat):Int)) U (bw ob) (qO 2 U (bB (L':=[z1,z2]++(markB (dm4::rs2))) js (ag1 ((i2+1),(dm4::rs2),hn4,rz2) _ (Nat.lt_succ_self _) ⟨lQ hd2,jr hd2,hs16,(((hl2.t hle3).t hl4).t hln4)⟩ rd)))))
   ·exact xf
   ·exact xf
   rintro dm4 ch hn4 L0 ⟨pv_,rfl,hpv_⟩ hl04
   exact mq (dm4::rs2) C2 hX (congrArg (exW stopV (fun r:Unit=>(.tuple #[]:Value))) hpv_)
  rintro i1 y1 rz1 hd1 dx aL eH hO hs17 hx1 ag2 e
  try have hsy:=xC hsm (gi hd1)
  refine sr (aw (v':=.bool true) U (cb dx) (qO 9 U (aF (gC si ty79 hp.Rules.1 (nthZ aL) (ba aL) U U U (fun _ _ _ e=>e) (fun q5 r4 A8 ok4=>dz ty79 A8 U U (aV zc79 (fun b11=>cK (aS 0 ty79 U U U U U U (aD ?_)))))))))
  let z7:Nat×Obj:=(b11,O (Rule.cells y1 r4) 79)
  refine eQ ([z7,z2]) mixed kr jn (fun lA _=>?_)
  refine qB [0] U (tf 1 U U (fun _ _ hj=>fH ty9 U (hj.nth (i:=0) U) U) (qB [2] U (tf 3 U U (fun _ _ hj=>fH ty58 U (hj.nth (i:=1) U) U) (tm 4 U ?_))))
  have ho5:0≤((i1:Int):Int)∧((i1:Int):Int) < ((p.Kinds).length:Int):=(by have hm:=Ix hrx1;simp only [decide_eq_true_eq,decide_eq_false_iff_not,Bool.and_eq_true,Bool.or_eq_true,Bool.not_eq_true',Bool.not_eq_false',Bool.and_eq_false_iff,Bool.or_eq_false_iff,beq_iff_eq,beq_eq_false_iff_ne,bne_iff_ne,bne_eq_false_iff_eq,List.length_append,List.length_cons,List.length_nil,List.length_drop] at hm;omega)
  refine fW 5 (enc:=fun y=>[.string y]) lA jn ei xQ ty9 hp.Kinds.1 ho5 (dU ho5) U U U U kr (fun q6 A9=>tf 6 U U (fun _ _ hj=>eV ty9 (A9.mono hj.1) U) (qA [7,8] U ?_))
  refine dt 43 U (fun c6=>?_) (fun c6=>?_)
  ·refine qB [9] U (tf 10 U U (fun _ _ hj=>fH ty3 U (hj.nth (i:=0) U) U) (tn 11 U (eP wI (gy h y1.Think 0 1099511627775) U (⟨jn,tf 12 U U (fun _ _ _=>mz U (cb (show (aM y1.Think 0 1099511627775)=((y1.Kind.toList==(nthI p.Kinds (i1:Int)).toList)&&(aM y1.Think 0 1099511627775)) from by first | (rw [c6];rfl) | (rw [c6];rfl) | simp [c6]))) ?_⟩))))
   refine tn 13 U (li vx (gO h ((y1.Kind.toList==(nthI p.Kinds (i1:Int)).toList)&&(aM y1.Think 0 1099511627775)) 200) U (fun u6 hu6=>?_) (fun pv6 hpv6 e=>?_))
   ·obtain ⟨rx6,hrx6,rfl⟩:=mZ hu6
    have hs18:=hs17.trans (nD hrx6)
    cases rx6
    exact ⟨jn,(aW kr (qT 2 U (aw (v':=I (((i1+1):Nat):Int)) U (bw ob) (qO 2 U (bB (L':=[z2]) js (ag2 hs18))))))⟩
   obtain ⟨pv6e,hpv6e,rfl⟩:=lr hpv6
   have hs19:=hs17.trans (lO hpv6e)
   exact gp (mq [] C2 hX (congrArg (exW stopV (fun r:Unit=>(.tuple #[]:Value))) hs19))
  refine qR 9 3 U (tf 12 U U (fun _ _ _=>mz U (cb (show false=((y1.Kind.toList==(nthI p.Kinds (i1:Int)).toList)&&(aM y1.Think 0 1099511627775)) from by first | (rw [c6];rfl) | (rw [c6];rfl) | simp [c6]))) ?_)
  refine tn 13 U (li vx (gO h ((y1.Kind.toList==(nthI p.Kinds (i1:Int)).toList)&&(aM y1.Think 0 1099511627775)) 200) U (fun u7 hu7=>?_) (fun pv7 hpv7 e=>?_))
  ·obtain ⟨rx7,hrx7,rfl⟩:=mZ hu7
   have hs20:=hs17.trans (nD hrx7)
   cases rx7
   exact ⟨jn,(aW kr (qT 2 U (aw (v':=I (((i1+1):Nat):Int)) U (bw ob) (qO 2 U (bB (L':=[z2]) js (ag2 hs20))))))⟩
  obtain ⟨pv7e,hpv7e,rfl⟩:=lr hpv7
  have hs21:=hs17.trans (lO hpv7e)
  exact gp (mq [] C2 hX (congrArg (exW stopV (fun r:Unit=>(.tuple #[]:Value))) hs21))
 obtain ⟨pv1e,hpv1e,rfl⟩:=lr hpv1
 have hs22:=hs0.trans (lO hpv1e)
 exact gp (mq [] C2 hX (congrArg (exW stopV (fun r:Unit=>(.tuple #[]:Value))) hs22))
theorem te (h:HF) (p:Policy) (fL:el) (p_q:Addr) (hp:Policy.ok h p fL) (ap:At h p_q (Policy.cells p fL)) (hsm:smP p) (hk:Kinds h):CV prog 277 [.pointer (some p_q)] h (exW stopV (fun r:Unit=>(.tuple #[]:Value)) (dp p)):=by
 refine cz Hb U ntmps277 U fun X hM hX=>?_
 have hs0:dp p=dp p:=rfl
 refine sr (dz ty64 ap U U ?_)
 refine aF (li call278 (w8 h p fL hp ob) U (fun u1 hu1=>?_) (fun pv1 hpv1 e=>?_))
 ·obtain ⟨rx1,hrx1,rfl⟩:=mZ hu1
  have hs1:=hs0.trans (nD hrx1)
  cases rx1
  refine qO 3 U (dz ty64 ap U U ?_)
  refine aF (li call279 (w9 h p fL hp ob) U (fun u2 hu2=>?_) (fun pv2 hpv2 e=>?_))
  ·obtain ⟨rx2,hrx2,rfl⟩:=mZ hu2
   have hs2:=hs1.trans (nD hrx2)
   cases rx2
   refine qO 2 U (dz ty64 ap U U ?_)
   refine aF (li call280 (xY h p fL hp ob hk) U (fun u3 hu3=>?_) (fun pv3 hpv3 e=>?_))
   ·obtain ⟨rx3,hrx3,rfl⟩:=mZ hu3
    have hs3:=hs2.trans (nD hrx3)
    cases rx3
    refine aD ?_
    have hs4:dp p=(Except.ok ()):=hs3
    exact dY (uH [] [] Hb U hX trivial (congrArg (exW stopV (fun r:Unit=>(.tuple #[]:Value))) hs4))
   obtain ⟨pv3e,hpv3e,rfl⟩:=lr hpv3
   have hs5:=hs2.trans (lO hpv3e)
   exact gp (mq [] Hb hX (congrArg (exW stopV (fun r:Unit=>(.tuple #[]:Value))) hs5))
  obtain ⟨pv2e,hpv2e,rfl⟩:=lr hpv2
  have hs6:=hs1.trans (lO hpv2e)
  exact gp (mq [] Hb hX (congrArg (exW stopV (fun r:Unit=>(.tuple #[]:Value))) hs6))
 obtain ⟨pv1e,hpv1e,rfl⟩:=lr hpv1
 have hs7:=hs0.trans (lO hpv1e)
 exact gp (mq [] Hb hX (congrArg (exW stopV (fun r:Unit=>(.tuple #[]:Value))) hs7))
theorem ud (rec:List ByteArray→Expr→Expr) (h:HF) (offices:List ByteArray) (dw:Option Addr) (dv:Nat) (x:Expr) (fP:cG) (hrec:∀ (h:HF) (qoffices:List ByteArray) (jo:Option Addr) (jm:Nat) (qx:Expr) (j5:cG) (hqoffices:SlC Rp.str h jo jm qoffices) (hqx:Expr.ok h qx j5) (hsz:qx.dep≤2000000) (_:qx.dep < x.dep),jN prog 281 [.slice jo qoffices.length jm,.agg (Expr.cells qx j5).toArray] h (fun v h'=>∃ (rr0:cG),v=.agg (Expr.cells (rec qoffices qx) rr0).toArray∧Expr.ok h' (rec qoffices qx) rr0)) (hoffices:SlC Rp.str h dw dv offices) (hx:Expr.ok h x fP) (hsz:x.dep≤2000000):jN prog 281 [.slice dw offices.length dv,.agg (Expr.cells x fP).toArray] h (fun v h'=>∃ (rr0:cG),v=.agg (Expr.cells (ah.F rec offices x) rr0).toArray∧Expr.ok h' (ah.F rec offices x) rr0):=by
 refine cz func281 U ntmps281 U fun X hM hX=>?_
 have hs0:ah.F rec offices x=ah.F rec offices x:=rfl
 have hln:=Expr.Ke x
 refine sr (cA (fun b1=>aV zc62 (fun b2=>qL 4 [] U (cJ 1 ty3 U U U U U U (qO 4 U (cW 1 ty62 U U U (av call283 (mG _ _ _ (show Expr.ok h (Expr.mk x.Kind x.N 0 x.Name x.L) (cG.mk fP.jB fP.jC) from Expr.ok.of hx.list)) U (aD (ai hs0 U (fun c1 hs1=>?_) (fun c1 hs2=>?_))))))))))
 ·refine qK 4 [1] U (av Jk (j8 _ _ _ _ x.Name hoffices) U (qL 1 [] U (cJ 1 ty3 U U U U U U (qL 10 [1] U (cJ 1 ty60 U U U U U U (qL 8 [] U ?_))))))
  let z1:Nat×Obj:=(b2,O [I 0,I 0,I 0,.string (⟨#[]⟩:ByteArray),.slice none 0 0] 62)
  refine lp2 x.L (fun i w=>[(0,.slice dw offices.length dv),(3,Q b1),(4,Q b2),(19,.slice fP.jB x.L.length fP.jC),(20,I (x.L.length:Int)),(21,I (i:Int))]) (fun w=>w.2.2.2.2) (fun w=>[z1,(b1,O [I x.Kind,I x.N,I (aP offices x.Name),.string x.Name,.slice w.2.1 w.1.length w.2.2.1] 62)]++(w.2.2.2.1)) (fun i w=>em Expr.rp 62 w.2.2.2.2 w.1 w.2.1 w.2.2.1 w.2.2.2.1∧w.1.length≤0+i∧HF.le h w.2.2.2.2) (fun s1 i w=>(ah.L1 rec offices (ah.K1 offices x)) s1 w.1) ([],none,0,[],h) hx.list.1.1 hs1 ⟨em.nil,lo,lf⟩ ?_ ?_
  ·rintro i1 ⟨kb,oG,oF,xq,hh1⟩ fA hs3 ⟨qg,BL,hl1⟩ e
   try dsimp only at qg BL hl1
   let z3:Nat×Obj:=(b1,O [I x.Kind,I x.N,I (aP offices x.Name),.string x.Name,.slice oG kb.length oF] 62)
   let z15:Nat×Obj:=(b2,O [I x.Kind,I x.N,I (aP offices x.Name),.string x.Name,.slice oG kb.length oF] 62)
   refine sr (cW 1 ty62 U U U (aS 0 ty62 U U U U U U (iw (L':=[z15,z3]++(xq)) U (aD (gL Expr.ao ([z15,z3]) xq ([]) ap hM qg (fun h3 hle3 sl2=>?_))))))
   have hs4:ah.F rec offices x=(Expr.mk x.Kind x.N (aP offices x.Name) x.Name kb):=hs3
   exact jd [.agg (List.toArray [I x.Kind,I x.N,I (aP offices x.Name),.string x.Name,.slice oG kb.length oF])] func281 U ⟨⟨0,_,_,_,_,U,U,.inl ⟨ty62,U⟩⟩,trivial⟩ ⟨(cG.mk oG oF),congrArg (fun r:Expr=>(.agg (Expr.cells r (cG.mk oG oF)).toArray:Value)) hs4.symm,(by rw [hs4];exact (show Expr.ok h3 (Expr.mk x.Kind x.N (aP offices x.Name) x.Name kb) (cG.mk oG oF) from Expr.ok.of sl2))⟩
  rintro i1 ⟨kb,oG,oF,xq,hh1⟩ y1 rz1 hd1 dx aL eH hO hs5 ⟨qg,BL,hl1⟩ hx1 ag1 e
  try dsimp only at qg BL hl1
  have hdy:=Expr.iU (gi hd1)
  refine sr (aw (v':=.bool true) U (cb dx) (qO 8 U (aF (gC kk ty62 (hx.list.mono Expr.ao hl1).1 (nthZ aL) (ba aL) U U U (fun _ _ _ e=>e) (fun q2 r2 A2 ok3=>?_)))))
  let z4:Nat×Obj:=(b1,O [I x.Kind,I x.N,I (aP offices x.Name),.string x.Name,.slice oG kb.length oF] 62)
  refine dz ty62 A2 U U (aV zc62 (fun b5=>aS 0 ty62 U U U U U U (iw (L':=[(b5,O (Expr.cells y1 r2) 62),z1,z4]++(xq)) U (aD ?_))))
  let z8:Nat×Obj:=(b5,O (Expr.cells y1 r2) 62)
  refine eQ ([z8,z1]) mixed kr jn (fun dH _=>?_)
  refine qB [0,2] U (tf 3 U U (fun _ _ hj=>je ty62 U (hj.nth (i:=0) U) U) ?_)
  refine mT 1 4 kr U U ?_ ?_ 
  ·refine fg (fH ty60 U (mR (i:=2) U) U) (⟨jn,tn 4 U (cY EC (hrec _ _ _ _ _ _ (hoffices.mono Rp.gX hl1) ok3 ob (Expr.iU (gi hd1))) U (fun v2 h4 hle4 hp2=>?_))⟩)
   obtain ⟨rr4,rfl,ok4⟩:=hp2
   refine ⟨jl hle4,tu hle4 (tn 5 U (bV (cells:=[I ((rec offices y1).Kind),I ((rec offices y1).N),I ((rec offices y1).No),.string ((rec offices y1).Name),.slice rr4.jB ((rec offices y1).L.length) rr4.jC]) kk ty62 zc62 U U kr (fun b6=>⟨jn,?_⟩)))⟩
   let z12:Nat×Obj:=(b6,O [I ((rec offices y1).Kind),I ((rec offices y1).N),I ((rec offices y1).No),.string ((rec offices y1).Name),.slice rr4.jB ((rec offices y1).L.length) rr4.jC] 62)
   exact tn 6 U (eR Expr.eF ([z12,z8,z1,z4]) ([]) (fun G=>[z12,z8,z1,z4]++G) ap (fun _=>ap) kk ty62 zc62 U bytes62 (qg.mono Expr.ao hle4) U U (fI 0 U (show bu Expr.rp h4 [I ((rec offices y1).Kind),I ((rec offices y1).N),I ((rec offices y1).No),.string ((rec offices y1).Name),.slice rr4.jB ((rec offices y1).L.length) rr4.jC] ([(rec offices y1)]) from ⟨[I ((rec offices y1).Kind),I ((rec offices y1).N),I ((rec offices y1).No),.string ((rec offices y1).Name),.slice rr4.jB ((rec offices y1).L.length) rr4.jC],[],U,U,⟨rr4,U,ok4⟩,U⟩)) lo lo (fun ob2 oc2 G2 gr2=>⟨jn,qB [7] U (tn 8 U (jX 3 ty60 U U U U U U (⟨jn,aW kr (qT 2 U (aw (v':=I (((i1+1):Nat):Int)) U (bw ob) (qO 2 U (bB (L':=[z1,(b1,O [I x.Kind,I x.N,I (aP offices x.Name),.string x.Name,.slice ob2 ((kb++[(rec offices y1)]).length) oc2] 62)]++G2) js (ag1 ((kb++[(rec offices y1)]),ob2,oc2,G2,h4) hs5 ⟨gr2,lo,(hl1.t hle4)⟩)))))⟩)))⟩))
  refine cY EC (hrec _ _ _ _ _ _ (hoffices.mono Rp.gX hl1) ok3 ob (Expr.iU (gi hd1))) U (fun v3 h5 hle5 hp3=>?_)
  obtain ⟨rr5,rfl,ok5⟩:=hp3
  refine ⟨jl hle5,tu hle5 ?_⟩
  refine mT 1 5 kr U U ?_ ?_ 
  ·refine fg (fH ty60 U (mR (i:=2) U) U) (⟨jn,tn 5 U (bV (cells:=[I ((rec offices y1).Kind),I ((rec offices y1).N),I ((rec offices y1).No),.string ((rec offices y1).Name),.slice rr5.jB ((rec offices y1).L.length) rr5.jC]) kk ty62 zc62 U U kr (fun b7=>⟨jn,?_⟩))⟩)
   let z13:Nat×Obj:=(b7,O [I ((rec offices y1).Kind),I ((rec offices y1).N),I ((rec offices y1).No),.string ((rec offices y1).Name),.slice rr5.jB ((rec offices y1).L.length) rr5.jC] 62)
   exact tn 6 U (eR Expr.eF ([z13,z8,z1,z4]) ([]) (fun G=>[z13,z8,z1,z4]++G) ap (fun _=>ap) kk ty62 zc62 U bytes62 (qg.mono Expr.ao hle5) U U (fI 0 U (show bu Expr.rp h5 [I ((rec offices y1).Kind),I ((rec offices y1).N),I ((rec offices y1).No),.string ((rec offices y1).Name),.slice rr5.jB ((rec offices y1).L.length) rr5.jC] ([(rec offices y1)]) from ⟨[I ((rec offices y1).Kind),I ((rec offices y1).N),I ((rec offices y1).No),.string ((rec offices y1).Name),.slice rr5.jB ((rec offices y1).L.length) rr5.jC],[],U,U,⟨rr5,U,ok5⟩,U⟩)) lo lo (fun ob3 oc3 G3 gr3=>⟨jn,qB [7] U (tn 8 U (jX 3 ty60 U U U U U U (⟨jn,aW kr (qT 2 U (aw (v':=I (((i1+1):Nat):Int)) U (bw ob) (qO 2 U (bB (L':=[z1,(b1,O [I x.Kind,I x.N,I (aP offices x.Name),.string x.Name,.slice ob3 ((kb++[(rec offices y1)]).length) oc3] 62)]++G3) js (ag1 ((kb++[(rec offices y1)]),ob3,oc3,G3,h5) hs5 ⟨gr3,lo,(hl1.t hle5)⟩)))))⟩)))⟩))
  refine bV (cells:=[I ((rec offices y1).Kind),I ((rec offices y1).N),I ((rec offices y1).No),.string ((rec offices y1).Name),.slice rr5.jB ((rec offices y1).L.length) rr5.jC]) kk ty62 zc62 U U kr (fun b8=>⟨jn,tn 1 U (fg (fH ty60 U (mR (i:=3) U) U) (⟨jn,?_⟩))⟩)
  let z14:Nat×Obj:=(b8,O [I ((rec offices y1).Kind),I ((rec offices y1).N),I ((rec offices y1).No),.string ((rec offices y1).Name),.slice rr5.jB ((rec offices y1).L.length) rr5.jC] 62)
  exact tn 6 U (eR Expr.eF ([z14,z8,z1,z4]) ([]) (fun G=>[z14,z8,z1,z4]++G) ap (fun _=>ap) kk ty62 zc62 U bytes62 (qg.mono Expr.ao hle5) U U (fI 0 U (show bu Expr.rp h5 [I ((rec offices y1).Kind),I ((rec offices y1).N),I ((rec offices y1).No),.string ((rec offices y1).Name),.slice rr5.jB ((rec offices y1).L.length) rr5.jC] ([(rec offices y1)]) from ⟨[I ((rec offices y1).Kind),I ((rec offices y1).N),I ((rec offices y1).No),.string ((rec offices y1).Name),.slice rr5.jB ((rec offices y1).L.length) rr5.jC],[],U,U,⟨rr5,U,ok5⟩,U⟩)) lo lo (fun ob4 oc4 G4 gr4=>⟨jn,qB [7] U (tn 8 U (jX 3 ty60 U U U U U U (⟨jn,aW kr (qT 2 U (aw (v':=I (((i1+1):Nat):Int)) U (bw ob) (qO 2 U (bB (L':=[z1,(b1,O [I x.Kind,I x.N,I (aP offices x.Name),.string x.Name,.slice ob4 ((kb++[(rec offices y1)]).length) oc4] 62)]++G4) js (ag1 ((kb++[(rec offices y1)]),ob4,oc4,G4,h5) hs5 ⟨gr4,lo,(hl1.t hle5)⟩)))))⟩)))⟩))
 refine qK 10 [1] U (cJ 1 ty60 U U U U U U (qL 8 [] U ?_))
 let z2:Nat×Obj:=(b2,O [I 0,I 0,I 0,.string (⟨#[]⟩:ByteArray),.slice none 0 0] 62)
 refine lp2 x.L (fun i w=>[(0,.slice dw offices.length dv),(3,Q b1),(4,Q b2),(19,.slice fP.jB x.L.length fP.jC),(20,I (x.L.length:Int)),(21,I (i:Int))]) (fun w=>w.2.2.2.2) (fun w=>[z2,(b1,O [I x.Kind,I x.N,I 0,.string x.Name,.slice w.2.1 w.1.length w.2.2.1] 62)]++(w.2.2.2.1)) (fun i w=>em Expr.rp 62 w.2.2.2.2 w.1 w.2.1 w.2.2.1 w.2.2.2.1∧w.1.length≤0+i∧HF.le h w.2.2.2.2) (fun s2 i w=>(ah.L2 rec offices (ah.K2 x)) s2 w.1) ([],none,0,[],h) hx.list.1.1 hs2 ⟨em.nil,lo,lf⟩ ?_ ?_
 ·rintro i2 ⟨ka,oE,oD,xi,hh2⟩ zJ hs6 ⟨pY,BE,hl2⟩ e
  try dsimp only at pY BE hl2
  let z5:Nat×Obj:=(b1,O [I x.Kind,I x.N,I 0,.string x.Name,.slice oE ka.length oD] 62)
  let z16:Nat×Obj:=(b2,O [I x.Kind,I x.N,I 0,.string x.Name,.slice oE ka.length oD] 62)
  refine sr (cW 1 ty62 U U U (aS 0 ty62 U U U U U U (iw (L':=[z16,z5]++(xi)) U (aD (gL Expr.ao ([z16,z5]) xi ([]) ap hM pY (fun h8 hle8 sl4=>?_))))))
  have hs7:ah.F rec offices x=(Expr.mk x.Kind x.N 0 x.Name ka):=hs6
  exact jd [.agg (List.toArray [I x.Kind,I x.N,I 0,.string x.Name,.slice oE ka.length oD])] func281 U ⟨⟨0,_,_,_,_,U,U,.inl ⟨ty62,U⟩⟩,trivial⟩ ⟨(cG.mk oE oD),congrArg (fun r:Expr=>(.agg (Expr.cells r (cG.mk oE oD)).toArray:Value)) hs7.symm,(by rw [hs7];exact (show Expr.ok h8 (Expr.mk x.Kind x.N 0 x.Name ka) (cG.mk oE oD) from Expr.ok.of sl4))⟩
 rintro i2 ⟨ka,oE,oD,xi,hh2⟩ y2 rz2 hd2 uv mN BA GF hs8 ⟨pY,BE,hl2⟩ hx2 ag2 e
 try dsimp only at pY BE hl2
 have hdy:=Expr.iU (gi hd2)
 refine sr (aw (v':=.bool true) U (cb uv) (qO 8 U (aF (gC kk ty62 (hx.list.mono Expr.ao hl2).1 (nthZ mN) (ba mN) U U U (fun _ _ _ e=>e) (fun q4 r4 A4 ok8=>?_)))))
 let z6:Nat×Obj:=(b1,O [I x.Kind,I x.N,I 0,.string x.Name,.slice oE ka.length oD] 62)
 refine dz ty62 A4 U U (aV zc62 (fun b11=>aS 0 ty62 U U U U U U (iw (L':=[(b11,O (Expr.cells y2 r4) 62),z2,z6]++(xi)) U (aD ?_))))
 let z7:Nat×Obj:=(b11,O (Expr.cells y2 r4) 62)
 refine eQ ([z7,z2]) mixed kr jn (fun lA _=>?_)
 refine qB [0,2] U (tf 3 U U (fun _ _ hj=>je ty62 U (hj.nth (i:=0) U) U) ?_)
 refine mT 1 4 kr U U ?_ ?_ 
 ·refine fg (fH ty60 U (mR (i:=2) U) U) (⟨jn,tn 4 U (cY EC (hrec _ _ _ _ _ _ (hoffices.mono Rp.gX hl2) ok8 ob (Expr.iU (gi hd2))) U (fun v5 h9 hle9 hp5=>?_))⟩)
  obtain ⟨rr9,rfl,ok9⟩:=hp5
  refine ⟨jl hle9,tu hle9 (tn 5 U (bV (cells:=[I ((rec offices y2).Kind),I ((rec offices y2).N),I ((rec offices y2).No),.string ((rec offices y2).Name),.slice rr9.jB ((rec offices y2).L.length) rr9.jC]) kk ty62 zc62 U U kr (fun b12=>⟨jn,?_⟩)))⟩
  let z11:Nat×Obj:=(b12,O [I ((rec offices y2).Kind),I ((rec offices y2).N),I ((rec offices y2).No),.string ((rec offices y2).Name),.slice rr9.jB ((rec offices y2).L.length) rr9.jC] 62)
  exact tn 6 U (eR Expr.eF ([z11,z7,z2,z6]) ([]) (fun G=>[z11,z7,z2,z6]++G) ap (fun _=>ap) kk ty62 zc62 U bytes62 (pY.mono Expr.ao hle9) U U (fI 0 U (show bu Expr.rp h9 [I ((rec offices y2).Kind),I ((rec offices y2).N),I ((rec offices y2).No),.string ((rec offices y2).Name),.slice rr9.jB ((rec offices y2).L.length) rr9.jC] ([(rec offices y2)]) from ⟨[I ((rec offices y2).Kind),I ((rec offices y2).N),I ((rec offices y2).No),.string ((rec offices y2).Name),.slice rr9.jB ((rec offices y2).L.length) rr9.jC],[],U,U,⟨rr9,U,ok9⟩,U⟩)) lo lo (fun ob6 oc6 G6 gr6=>⟨jn,qB [7] U (tn 8 U (jX 3 ty60 U U U U U U (⟨jn,aW kr (qT 2 U (aw (v':=I (((i2+1):Nat):Int)) U (bw ob) (qO 2 U (bB (L':=[z2,(b1,O [I x.Kind,I x.N,I 0,.string x.Name,.slice ob6 ((ka++[(rec offices y2)]).length) oc6] 62)]++G6) js (ag2 ((ka++[(rec offices y2)]),ob6,oc6,G6,h9) hs8 ⟨gr6,lo,(hl2.t hle9)⟩)))))⟩)))⟩))
 refine cY EC (hrec _ _ _ _ _ _ (hoffices.mono Rp.gX hl2) ok8 ob (Expr.iU (gi hd2))) U (fun v6 h10 hle10 hp6=>?_)
 obtain ⟨rr10,rfl,ok10⟩:=hp6
 refine ⟨jl hle10,tu hle10 ?_⟩
 refine mT 1 5 kr U U ?_ ?_ 
 ·refine fg (fH ty60 U (mR (i:=2) U) U) (⟨jn,tn 5 U (bV (cells:=[I ((rec offices y2).Kind),I ((rec offices y2).N),I ((rec offices y2).No),.string ((rec offices y2).Name),.slice rr10.jB ((rec offices y2).L.length) rr10.jC]) kk ty62 zc62 U U kr (fun b13=>⟨jn,?_⟩))⟩)
  let z9:Nat×Obj:=(b13,O [I ((rec offices y2).Kind),I ((rec offices y2).N),I ((rec offices y2).No),.string ((rec offices y2).Name),.slice rr10.jB ((rec offices y2).L.length) rr10.jC] 62)
  exact tn 6 U (eR Expr.eF ([z9,z7,z2,z6]) ([]) (fun G=>[z9,z7,z2,z6]++G) ap (fun _=>ap) kk ty62 zc62 U bytes62 (pY.mono Expr.ao hle10) U U (fI 0 U (show bu Expr.rp h10 [I ((rec offices y2).Kind),I ((rec offices y2).N),I ((rec offices y2).No),.string ((rec offices y2).Name),.slice rr10.jB ((rec offices y2).L.length) rr10.jC] ([(rec offices y2)]) from ⟨[I ((rec offices y2).Kind),I ((rec offices y2).N),I ((rec offices y2).No),.string ((rec offices y2).Name),.slice rr10.jB ((rec offices y2).L.length) rr10.jC],[],U,U,⟨rr10,U,ok10⟩,U⟩)) lo lo (fun ob7 oc7 G7 gr7=>⟨jn,qB [7] U (tn 8 U (jX 3 ty60 U U U U U U (⟨jn,aW kr (qT 2 U (aw (v':=I (((i2+1):Nat):Int)) U (bw ob) (qO 2 U (bB (L':=[z2,(b1,O [I x.Kind,I x.N,I 0,.string x.Name,.slice ob7 ((ka++[(rec offices y2)]).length) oc7] 62)]++G7) js (ag2 ((ka++[(rec offices y2)]),ob7,oc7,G7,h10) hs8 ⟨gr7,lo,(hl2.t hle10)⟩)))))⟩)))⟩))
 refine bV (cells:=[I ((rec offices y2).Kind),I ((rec offices y2).N),I ((rec offices y2).No),.string ((rec offices y2).Name),.slice rr10.jB ((rec offices y2).L.length) rr10.jC]) kk ty62 zc62 U U kr (fun b14=>⟨jn,tn 1 U (fg (fH ty60 U (mR (i:=3) U) U) (⟨jn,?_⟩))⟩)
 let z10:Nat×Obj:=(b14,O [I ((rec offices y2).Kind),I ((rec offices y2).N),I ((rec offices y2).No),.string ((rec offices y2).Name),.slice rr10.jB ((rec offices y2).L.length) rr10.jC] 62)
 exact tn 6 U (eR Expr.eF ([z10,z7,z2,z6]) ([]) (fun G=>[z10,z7,z2,z6]++G) ap (fun _=>ap) kk ty62 zc62 U bytes62 (pY.mono Expr.ao hle10) U U (fI 0 U (show bu Expr.rp h10 [I ((rec offices y2).Kind),I ((rec offices y2).N),I ((rec offices y2).No),.string ((rec offices y2).Name),.slice rr10.jB ((rec offices y2).L.length) rr10.jC] ([(rec offices y2)]) from ⟨[I ((rec offices y2).Kind),I ((rec offices y2).N),I ((rec offices y2).No),.string ((rec offices y2).Name),.slice rr10.jB ((rec offices y2).L.length) rr10.jC],[],U,U,⟨rr10,U,ok10⟩,U⟩)) lo lo (fun ob8 oc8 G8 gr8=>⟨jn,qB [7] U (tn 8 U (jX 3 ty60 U U U U U U (⟨jn,aW kr (qT 2 U (aw (v':=I (((i2+1):Nat):Int)) U (bw ob) (qO 2 U (bB (L':=[z2,(b1,O [I x.Kind,I x.N,I 0,.string x.Name,.slice ob8 ((ka++[(rec offices y2)]).length) oc8] 62)]++G8) js (ag2 ((ka++[(rec offices y2)]),ob8,oc8,G8,h10) hs8 ⟨gr8,lo,(hl2.t hle10)⟩)))))⟩)))⟩))
theorem nq:∀ (m:Nat) (h:HF) (offices:List ByteArray) (dw:Option Addr) (dv:Nat) (x:Expr) (fP:cG) (_:x.dep≤m) (hoffices:SlC Rp.str h dw dv offices) (hx:Expr.ok h x fP) (hsz:x.dep≤2000000),jN prog 281 [.slice dw offices.length dv,.agg (Expr.cells x fP).toArray] h (fun v h'=>∃ (rr0:cG),v=.agg (Expr.cells (ah.go m offices x) rr0).toArray∧Expr.ok h' (ah.go m offices x) rr0)
 | 0,h,offices,dw,dv,x,fP,hd,hoffices,hx,hsz=>absurd hd (Nat.not_le.2 (Expr.kB _))
 | m+1,h,offices,dw,dv,x,fP,hd,hoffices,hx,hsz=>ud (ah.go m) h offices dw dv x fP (fun qh_ qoffices jo jm qx j5 qhoffices qhx qhsz qd=>nq m qh_ qoffices jo jm qx j5 ob qhoffices qhx qhsz) hoffices hx hsz
theorem oX (h:HF) (offices:List ByteArray) (dw:Option Addr) (dv:Nat) (x:Expr) (fP:cG) (hoffices:SlC Rp.str h dw dv offices) (hx:Expr.ok h x fP) (hsz:x.dep≤2000000):jN prog 281 [.slice dw offices.length dv,.agg (Expr.cells x fP).toArray] h (fun v h'=>∃ (rr0:cG),v=.agg (Expr.cells (ah offices x) rr0).toArray∧Expr.ok h' (ah offices x) rr0):=nq _ h offices dw dv x fP (Nat.le_refl _) hoffices hx hsz
theorem vp (h:HF) (p:Policy) (fL:el) (hp:Policy.ok h p fL) (hsm:smP p) (hk:Kinds h):jN prog 184 [.agg (Policy.cells p fL).toArray] h (fun v h'=>∃ (rr0:el),v=.tuple #[.agg (Policy.cells ((dT p).1) rr0).toArray,I ((dT p).2)]∧Policy.ok h' ((dT p).1) rr0):=by
 refine cz func184 U ntmps184 U fun X hM hX=>?_
 have hs0:dT p=dT p:=rfl
 have hsc:=hsm.change
 have hsr:=hsm.rules
 refine sr (cA (fun b1=>aV zc64 (fun b2=>qO 4 U (aT 1 U hM (fun h1 hle1 hb1=>aF (et U U (av (v:=I (attR (dp p))) call276 (vo h1 (.func (.func 277) #[] #[Q b1]) (dp p) (lT (args:=[]) (cap:=[Q b1]) call277 (te h1 p fL ⟨b1,0,none⟩ (hp.mono hle1) (ct hb1) (by first | assumption | omega) (hk.mono hle1)))) U (qO 8 U (ai hs0 U (fun c1 hs1=>?_) (fun c1 hs2=>?_))))))))))
 ·refine sr (cW 0 ty64 U U U (aj (aS 0 ty64 U U U U U U (an ?_))))
  have hs3:dT p=((Policy.mk (⟨#[]⟩:ByteArray) ([]) ([]) ([]) (Expr.mk 0 0 0 (⟨#[]⟩:ByteArray) ([])) 0),(attR (dp p))):=hs1
  exact jd [.agg (List.toArray [.string (⟨#[]⟩:ByteArray),.slice none 0 0,.slice none 0 0,.slice none 0 0,I 0,I 0,I 0,.string (⟨#[]⟩:ByteArray),.slice none 0 0,I 0]),I (attR (dp p))] func184 U ⟨⟨0,_,_,_,_,U,U,.inl ⟨ty64,U⟩⟩,U,trivial⟩ ⟨(el.mk none 0 none 0 none 0 (cG.mk none 0)),congrArg (fun r:(Policy×Int)=>(.tuple #[.agg (Policy.cells r.1 (el.mk none 0 none 0 none 0 (cG.mk none 0))).toArray,I r.2]:Value)) hs3.symm,(by rw [hs3];exact (show Policy.ok h1 (Policy.mk (⟨#[]⟩:ByteArray) ([]) ([]) ([]) (Expr.mk 0 0 0 (⟨#[]⟩:ByteArray) ([])) 0) (el.mk none 0 none 0 none 0 (cG.mk none 0)) from ⟨SlC.nil,SlC.nil,SlC.nil,(show Expr.ok h1 (Expr.mk 0 0 0 (⟨#[]⟩:ByteArray) ([])) (cG.mk none 0) from Expr.ok.of SlC.nil)⟩))⟩
 refine qT 3 U (dz ty64 (ct hb1) U U (aS 0 ty64 U U U U U U (qL 4 [] U (cJ 0 ty59 U U U U U U (qL 5 [] U (kd (j:=3) ty59 (ct hb1) U U (qL 3 [] U ?_)))))))
 refine lp2 p.Rules (fun i w=>[(1,Q b1),(2,Q b2),(15,.slice fL.lv p.Rules.length fL.lu),(16,I (p.Rules.length:Int)),(17,I (i:Int))]) (fun w=>w.2.2.2.2) (fun w=>[(b2,O [.string p.Name,.slice fL.iA p.Kinds.length fL.iz,.slice fL.fO p.Offices.length fL.fN,.slice w.2.1 w.1.length w.2.2.1,I p.Change.Kind,I p.Change.N,I p.Change.No,.string p.Change.Name,.slice fL.Change.jB p.Change.L.length fL.Change.jC,I p.Mode] 64)]++(w.2.2.2.1)) (fun i w=>em Rule.rp 79 w.2.2.2.2 w.1 w.2.1 w.2.2.1 w.2.2.2.1∧w.1.length≤0+i∧HF.le h1 w.2.2.2.2) (fun s1 i w=>(dT.L1 p (dT.K1 p)) s1 i w.1) ([],none,0,[],h1) ((hp.Rules.mono Rule.ao hle1).1.1) hs2 ⟨em.nil,lo,lf⟩ ?_ ?_
 ·rintro i1 ⟨lN,qf,qe,xp,hh1⟩ fA hs4 ⟨uC,BJ,hl1⟩ e
  try dsimp only at uC BJ hl1
  refine qK 3 [] U (kd (j:=2) ty58 ((ct hb1).mono hl1) U U (qL 1 [] U (we (j:=4) ty62 ((ct hb1).mono hl1) U U (aF (cY EC (oX _ _ _ _ _ _ (hp.Offices.mono Rp.gX (hle1.t hl1)) (hp.Change.mono (hle1.t hl1)) ob) U (fun v3 h5 hle5 hp3=>?_))))))
  obtain ⟨rr4,rfl,ok4⟩:=hp3
  let z2:Nat×Obj:=(b2,O [.string p.Name,.slice fL.iA p.Kinds.length fL.iz,.slice fL.fO p.Offices.length fL.fN,.slice qf lN.length qe,I ((ah p.Offices p.Change).Kind),I ((ah p.Offices p.Change).N),I ((ah p.Offices p.Change).No),.string ((ah p.Offices p.Change).Name),.slice rr4.jB ((ah p.Offices p.Change).L.length) rr4.jC,I p.Mode] 64)
  refine qL 1 [] U (cJ 0 ty62 U U U U U U (qO 3 U (cW 0 ty64 U U U (aS 0 ty64 U U U U U U (iw (L':=[z2]++(xp)) U (an (gL Rule.ao ([z2]) xp ([]) ap hM (uC.mono Rule.ao hle5) (fun h6 hle6 sl2=>?_))))))))
  have hs5:dT p=((Policy.mk p.Name p.Kinds p.Offices lN (Expr.mk ((ah p.Offices p.Change).Kind) ((ah p.Offices p.Change).N) ((ah p.Offices p.Change).No) ((ah p.Offices p.Change).Name) ((ah p.Offices p.Change).L)) p.Mode),0):=hs4
  exact jd [.agg (Policy.cells (Policy.mk p.Name p.Kinds p.Offices lN (Expr.mk ((ah p.Offices p.Change).Kind) ((ah p.Offices p.Change).N) ((ah p.Offices p.Change).No) ((ah p.Offices p.Change).Name) ((ah p.Offices p.Change).L)) p.Mode) (el.mk fL.iA fL.iz fL.fO fL.fN qf qe (cG.mk rr4.jB rr4.jC))).toArray,I 0] func184 U ⟨⟨0,_,_,_,_,U,U,.inl ⟨ty64,U⟩⟩,U,trivial⟩ ⟨(el.mk fL.iA fL.iz fL.fO fL.fN qf qe (cG.mk rr4.jB rr4.jC)),congrArg (fun r:(Policy×Int)=>(.tuple #[.agg (Policy.cells r.1 (el.mk fL.iA fL.iz fL.fO fL.fN qf qe (cG.mk rr4.jB rr4.jC))).toArray,I r.2]:Value)) hs5.symm,(by rw [hs5];exact (show Policy.ok h6 (Policy.mk p.Name p.Kinds p.Offices lN (Expr.mk ((ah p.Offices p.Change).Kind) ((ah p.Offices p.Change).N) ((ah p.Offices p.Change).No) ((ah p.Offices p.Change).Name) ((ah p.Offices p.Change).L)) p.Mode) (el.mk fL.iA fL.iz fL.fO fL.fN qf qe (cG.mk rr4.jB rr4.jC)) from ⟨(hp.Kinds.mono Rp.gX (((hle1.t hl1).t hle5).t hle6)),(hp.Offices.mono Rp.gX (((hle1.t hl1).t hle5).t hle6)),sl2,(show Expr.ok h6 (Expr.mk ((ah p.Offices p.Change).Kind) ((ah p.Offices p.Change).N) ((ah p.Offices p.Change).No) ((ah p.Offices p.Change).Name) ((ah p.Offices p.Change).L)) (cG.mk rr4.jB rr4.jC) from Expr.ok.of (ok4.list.mono Expr.ao hle6))⟩))⟩
 rintro i1 ⟨lN,qf,qe,xp,hh1⟩ y1 rz1 hd1 dx aL eH hO hs6 ⟨uC,BJ,hl1⟩ hx1 ag1 e
 try dsimp only at uC BJ hl1
 have hsy:=hsm.2.1 y1 (gi hd1)
 refine sr (aw (v':=.bool true) U (cb dx) (qO 9 U (aF (gC si ty79 (hp.Rules.mono Rule.ao (hle1.t hl1)).1 (nthZ aL) (ba aL) U U U (fun _ _ _ e=>e) (fun q2 r2 A2 ok5=>?_)))))
 let z1:Nat×Obj:=(b2,O [.string p.Name,.slice fL.iA p.Kinds.length fL.iz,.slice fL.fO p.Offices.length fL.fN,.slice qf lN.length qe,I p.Change.Kind,I p.Change.N,I p.Change.No,.string p.Change.Name,.slice fL.Change.jB p.Change.L.length fL.Change.jC,I p.Mode] 64)
 refine dz ty79 A2 U U (aV zc79 (fun b5=>cK (aS 0 ty79 U U U U U U (iw (L':=[(b5,O (Rule.cells y1 r2) 79),z1]++(xp)) U (qL 5 [] U (kd (j:=2) ty58 ((ct hb1).mono hl1) U U (qL 1 [] U (cW 0 ty62 U U U (aF (cY EC (oX _ _ _ _ _ _ (hp.Offices.mono Rp.gX (hle1.t hl1)) ok5.Expr ob) U (fun v4 h7 hle7 hp4=>?_)))))))))))
 obtain ⟨rr6,rfl,ok6⟩:=hp4
 refine qL 1 [] U (cJ 0 ty3 U U U U U U (qL 1 [] U (cJ 0 ty62 U U U U U U (qL 4 [1] U (cW 0 ty79 U U U (aF (bV (cells:=[.string y1.Kind,I (i1:Int),I y1.Think,I ((ah p.Offices y1.Expr).Kind),I ((ah p.Offices y1.Expr).N),I ((ah p.Offices y1.Expr).No),.string ((ah p.Offices y1.Expr).Name),.slice rr6.jB ((ah p.Offices y1.Expr).L.length) rr6.jC]) si ty79 zc79 U U kr (fun b6=>?_))))))))
 let z3:Nat×Obj:=(b6,O [.string y1.Kind,I (i1:Int),I y1.Think,I ((ah p.Offices y1.Expr).Kind),I ((ah p.Offices y1.Expr).N),I ((ah p.Offices y1.Expr).No),.string ((ah p.Offices y1.Expr).Name),.slice rr6.jB ((ah p.Offices y1.Expr).L.length) rr6.jC] 79)
 let z4:Nat×Obj:=(b5,O [.string y1.Kind,I (i1:Int),I y1.Think,I ((ah p.Offices y1.Expr).Kind),I ((ah p.Offices y1.Expr).N),I ((ah p.Offices y1.Expr).No),.string ((ah p.Offices y1.Expr).Name),.slice rr6.jB ((ah p.Offices y1.Expr).L.length) rr6.jC] 79)
 refine aF (eR Rule.eF ([z3,z4,z1]) ([]) (fun G=>[z3,z4,z1]++G) ap (fun _=>ap) si ty79 zc79 U bytes79 (uC.mono Rule.ao hle7) U U (fI 0 U (show bu Rule.rp h7 [.string y1.Kind,I (i1:Int),I y1.Think,I ((ah p.Offices y1.Expr).Kind),I ((ah p.Offices y1.Expr).N),I ((ah p.Offices y1.Expr).No),.string ((ah p.Offices y1.Expr).Name),.slice rr6.jB ((ah p.Offices y1.Expr).L.length) rr6.jC] ([(Rule.mk y1.Kind (i1:Int) y1.Think (Expr.mk ((ah p.Offices y1.Expr).Kind) ((ah p.Offices y1.Expr).N) ((ah p.Offices y1.Expr).No) ((ah p.Offices y1.Expr).Name) ((ah p.Offices y1.Expr).L)))]) from ⟨[.string y1.Kind,I (i1:Int),I y1.Think,I ((ah p.Offices y1.Expr).Kind),I ((ah p.Offices y1.Expr).N),I ((ah p.Offices y1.Expr).No),.string ((ah p.Offices y1.Expr).Name),.slice rr6.jB ((ah p.Offices y1.Expr).L.length) rr6.jC],[],U,U,⟨(xP.mk (cG.mk rr6.jB rr6.jC)),U,(show Rule.ok h7 (Rule.mk y1.Kind (i1:Int) y1.Think (Expr.mk ((ah p.Offices y1.Expr).Kind) ((ah p.Offices y1.Expr).N) ((ah p.Offices y1.Expr).No) ((ah p.Offices y1.Expr).Name) ((ah p.Offices y1.Expr).L))) (xP.mk (cG.mk rr6.jB rr6.jC)) from ⟨(show Expr.ok h7 (Expr.mk ((ah p.Offices y1.Expr).Kind) ((ah p.Offices y1.Expr).N) ((ah p.Offices y1.Expr).No) ((ah p.Offices y1.Expr).Name) ((ah p.Offices y1.Expr).L)) (cG.mk rr6.jB rr6.jC) from Expr.ok.of ok6.list)⟩)⟩,U⟩)) lo lo (fun ob2 oc2 G2 gr2=>qL 1 [] U (cJ 2 ty59 U U U U U U (qO 3 U (aw (v':=I (((i1+1):Nat):Int)) U (bw ob) (qO 2 U (bB (L':=[(b2,O [.string p.Name,.slice fL.iA p.Kinds.length fL.iz,.slice fL.fO p.Offices.length fL.fN,.slice ob2 ((lN++[(Rule.mk y1.Kind (i1:Int) y1.Think (Expr.mk ((ah p.Offices y1.Expr).Kind) ((ah p.Offices y1.Expr).N) ((ah p.Offices y1.Expr).No) ((ah p.Offices y1.Expr).Name) ((ah p.Offices y1.Expr).L)))]).length) oc2,I p.Change.Kind,I p.Change.N,I p.Change.No,.string p.Change.Name,.slice fL.Change.jB p.Change.L.length fL.Change.jC,I p.Mode] 64)]++G2) js ?_)))))))
 exact ag1 ((lN++[(Rule.mk y1.Kind (i1:Int) y1.Think (Expr.mk ((ah p.Offices y1.Expr).Kind) ((ah p.Offices y1.Expr).N) ((ah p.Offices y1.Expr).No) ((ah p.Offices y1.Expr).Name) ((ah p.Offices y1.Expr).L)))]),ob2,oc2,G2,h7) hs6 ⟨gr2,lo,(hl1.t hle7)⟩
theorem oy (h:HF) (offices:List ByteArray) (dw:Option Addr) (dv:Nat) (x:Expr) (fP:cG) (hoffices:SlC Rp.str h dw dv offices) (hx:Expr.ok h x fP) (hsz:x.dep≤1500000):Ret prog 185 [.slice dw offices.length dv,.agg (Expr.cells x fP).toArray] h (.bool (bO offices x)):=by
 refine cz Jh U ntmps185 U fun X hM hX=>?_
 have hs0:bO offices x=bO offices x:=rfl
 refine sr (cA (fun b1=>cA (fun b2=>aV zc4 (fun b3=>qO 4 U (cW 1 ty62 U U U (aF (cY He (lI _ _ _ 1 hx ob) U (fun v1 h1 hle1 hp1=>?_))))))))
 obtain ⟨_,rfl,mo1⟩:=hp1
 refine qO 2 U (dY ?_)
 let z1:Nat×Obj:=(b1,O [.slice dw offices.length dv] 58)
 let z2:Nat×Obj:=(b2,O (Expr.cells x fP) 62)
 refine cu (L':=([(b3,O [.bool false] 4),z2,z1])++markB []) ap ?_
 refine jw (it:=v1) (xs:=(bq x 1)) (ι:=HF) [] (fun i=>i) (fun i=>[(b3,O [.bool false] 4),z2,z1]) (fun s i=>bO offices x=((bO.L1 offices (bO.K1)) s)∧HF.le h1 i) (fun i=>bO offices x=false∧HF.le h1 i) (fun _=>False) 0 (fun _ _ _=>False) h1 Jh U mo1 U mM (fun _ _ _ _ _ hq=>hq) U (show [(b3,O [.bool false] 4),z2,z1]=_ from U) ⟨hs0,lf⟩ ?_ ?_ ?_ ?_ ?_
 ·rintro l1 dm1 lp1 y1 rz1 vs1 hh1 hr1 X hFR1 ⟨hs1,hl1⟩ hl01 hlr1 hv1 hX hXM hlp1 nx1 rt1 ex1 pn1
  try dsimp only at hl1 hlr1
  obtain ⟨rr1_0,rfl,ok1_0⟩:=hv1
  let z3:Nat×Obj:=(dm1,.deferred (some []))
  refine cu (L':=[(l1,.loop lp1),z3,(b3,O [.bool false] 4),z2,z1]++(markB [])) ap (ay (aV zc327 (fun b5=>aS 0 ty327 U U U U U U (aD (jh 1 U hlp1 (qK 9 [] U (cW 0 ty62 U U U (av call283 (mG _ _ _ ok1_0.x) U (aD (ai hs1 U (fun c4 hs2=>?_) (fun c4 hs3=>?_)))))))))))
  ·refine qK 5 [5,0] U (av Jk (j8 _ _ _ _ y1.x.Name (hoffices.mono Rp.gX ((hle1.t hl1).t hlr1))) U (qL 10 [0] U (ai hs2 U (fun c5 hs4=>?_) (fun c5 hs5=>?_))))
   ·exact sr (cJ 3 ty4 U U U U U U (aD (bB (L':=[(l1,.loop { lp1 with state:=.busy }),z3,(b3,O [.bool false] 4),z2,z1]++(markB [])) js (cu (L':=rdH l1 dm1 lp1 (([(b3,O [.bool false] 4),z2,z1])++markB [])) ap (rt1 hr1 _ _ _ ⟨hs4,(hl1.t hlr1)⟩ lf)))))
   exact aJ (da (bB (L':=[(l1,.loop { lp1 with state:=.busy }),z3,(b3,O [.bool false] 4),z2,z1]++(markB [])) js (cu (L':=rdH l1 dm1 lp1 (([(b3,O [.bool false] 4),z2,z1])++markB [])) ap (nx1 hr1 _ _ ⟨hs5,(hl1.t hlr1)⟩ lf))))
  refine qK 9 [0] U (ai hs3 U (fun c6 hs6=>?_) (fun c6 hs7=>?_))
  ·exact sr (cJ 3 ty4 U U U U U U (aD (bB (L':=[(l1,.loop { lp1 with state:=.busy }),z3,(b3,O [.bool false] 4),z2,z1]++(markB [])) js (cu (L':=rdH l1 dm1 lp1 (([(b3,O [.bool false] 4),z2,z1])++markB [])) ap (rt1 hr1 _ _ _ ⟨hs6,(hl1.t hlr1)⟩ lf)))))
  exact aJ (da (bB (L':=[(l1,.loop { lp1 with state:=.busy }),z3,(b3,O [.bool false] 4),z2,z1]++(markB [])) js (cu (L':=rdH l1 dm1 lp1 (([(b3,O [.bool false] 4),z2,z1])++markB [])) ap (nx1 hr1 _ _ ⟨hs7,(hl1.t hlr1)⟩ lf))))
 ·rintro dm1 hh1 hn1 ⟨hs8,hl1⟩ hln1 hl01
  try dsimp only at hl1 hln1
  refine cu (L':=[(b3,O [.bool false] 4),z2,z1]++(markB (dm1::[]))) ap (qT 3 U (cJ 0 ty4 U U U U U U (aD ?_)))
  have hs9:bO offices x=true:=hs8
  exact cu (L':=([(b3,O [.bool true] 4),z2,z1])++markB (dm1::[])) ap (pE (dm1::[]) [.bool true] Jh U hX ⟨⟨0,_,_,_,_,U,U,.inr ⟨_,ty4,U⟩⟩,trivial⟩ (cs hs9))
 ·rintro dm1 hh1 hn1 ⟨hs10,hl1⟩ hln1 hl01
  try dsimp only at hl1 hln1
  refine cu (L':=[(b3,O [.bool false] 4),z2,z1]++(markB (dm1::[]))) ap ?_
  have hs11:bO offices x=false:=hs10
  exact cu (L':=([(b3,O [.bool false] 4),z2,z1])++markB (dm1::[])) ap (pE (dm1::[]) [.bool false] Jh U hX ⟨⟨0,_,_,_,_,U,U,.inr ⟨_,ty4,U⟩⟩,trivial⟩ (cs hs11))
 ·exact xf
 exact xf
theorem qJ (h:HF) (p:Policy) (fL:el) (hp:Policy.ok h p fL) (hsm:smP p) (hk:Kinds h):Ret prog 94 [.agg (Policy.cells p fL).toArray] h (I (cV p)):=by
 refine sT func94 U ntmps94 U fun X hM hX hF=>?_
 have hs0:cV p=cV p:=rfl
 have hsc:=hsm.change
 refine sr (cA (fun b1=>qO 5 U (cW 0 ty64 U U U (aF (cY call184 (vp _ _ _ hp ob hk) U (fun v1 h1 hle1 hp1=>?_))))))
 obtain ⟨rr1,rfl,ok1⟩:=hp1
 refine qO 10 U (ai hs0 U (fun c1 hs1=>?_) (fun c1 hs2=>?_))
 ·exact sr (qO 3 U (nretP [I ((dT p).2)] (ci hs1)))
 refine qK 9 [0] U ?_
 refine lp0 p.Rules (fun i=>[(1,Q b1),(14,.slice fL.lv p.Rules.length fL.lu),(15,I (p.Rules.length:Int)),(16,I (i:Int))]) ([(b1,O (Policy.cells p fL) 64)]) (fun s1 i=>(cV.L1 p (cV.K1 p)) s1 i) ((hp.Rules.mono Rule.ao hle1).1.1) hs2 ?_ ?_
 ·rintro i1 fA hs4 e
  refine qK 6 [0] U (cW 0 ty62 U U U (av call185 (oy _ _ _ _ _ _ (hp.Offices.mono Rp.gX hle1) (hp.Change.mono hle1) ob) U (qO 2 U (ai hs4 U (fun c2 hs5=>?_) (fun c2 hs6=>?_)))))
  ·exact sr (an (nretP [I 200] (ci hs5)))
  exact aJ (qT 4 U (nretP [I 0] (ci hs6)))
 rintro i1 y1 rz1 hd1 dx aL eH hO hs9 hx1 ag1 e
 have hsy:=hsm.2.1 y1 (gi hd1)
 refine sr (aw (v':=.bool true) U (cb dx) (qO 9 U (aF (gC si ty79 (hp.Rules.mono Rule.ao hle1).1 (nthZ aL) (ba aL) U U U (fun _ _ _ e=>e) (fun q2 r2 A2 ok3=>dz ty79 A2 U U (aV zc79 (fun b3=>cK (aS 0 ty79 U U U U U U (qL 8 [0] U (bY 7 [25,26,27,28,29,30,31,32] 25 32 (!(bO p.Offices y1.Expr)) U (fun c3 hk1=>?_) (fun e=>?_)))))))))))
 ·exact qL 3 [1] U (cW 0 ty62 U U U (av call185 (oy _ _ _ _ _ _ (hp.Offices.mono Rp.gX hle1) ok3.Expr ob) U (qO 2 U (hk1 _ U))))
 refine aD (ai hs9 U (fun c4 hs10=>?_) (fun c4 hs11=>?_))
 ·exact sr (an (nretP [I 200] (ci hs10)))
 exact aJ (qT 2 U (aw (v':=I (((i1+1):Nat):Int)) U (bw ob) (qO 2 U (bB (L':=[(b1,O (Policy.cells p fL) 64)]) js (ag1 hs11)))))
theorem oA (h:HF) (l:List Version) (e8:Option Addr) (eZ:Nat) (hl:SlC Version.rp h e8 eZ l) (hsm:smV l) (hk:Kinds h):Ret prog 69 [.slice e8 l.length eZ] h (I (bF l)):=by
 refine sT func69 U ntmps69 U fun X hM hX hF=>?_
 have hs0:bF l=bF l:=rfl
 have hsl:=hsm.len
 refine qK 11 [] U (ai hs0 U (fun c1 hs1=>?_) (fun c1 hs2=>?_))
 ·have c1p:=of_decide_eq_true c1
  exact sr (an (nretP [I 2] (ci hs1)))
 have c1p:=of_decide_eq_false c1
 refine qK 12 [] U ?_
 refine lp1 l (fun i w=>[(3,I w),(9,.slice e8 l.length eZ),(10,I (l.length:Int)),(11,I (i:Int))]) ([]) (fun s1 i w=>(bF.L1 (bF.K1)) s1 w) (-1) hl.1.1 hs2 ?_ ?_
 ·rintro i1 ii fA hs4 e
  exact sr (an (nretP [I 0] (ci hs4)))
 rintro i1 ii y1 rz1 hd1 dx aL eH hO hs6 hx1 ag1 e
 have hsy:=hsm.2 y1 (gi hd1)
 refine sr (aw (v':=.bool true) U (cb dx) (qO 8 U (aF (gC vf ty105 hl.1 (nthZ aL) (ba aL) U U U (fun _ _ _ e=>e) (fun q2 r2 A2 ok2=>dz ty105 A2 U U (aV zc105 (fun b2=>aS 0 ty105 U U U U U U (qL 8 [0] U (av wI (gy h y1.No (IntKind.wrap .i64 (ii+1)) 1048576) U (qO 2 U (bY 5 [21,22,23,24,25,26] 21 26 (!(aM y1.At 0 1099511627775)) U (fun c2 hk1=>?_) (fun e=>?_))))))))))))
 ·exact qL 2 [0] U (av wI (gy h y1.At 0 1099511627775) U (qO 2 U (hk1 _ U)))
 refine aj (bY 5 [27,28,29,30,31,32] 27 32 (!(aM y1.Known 0 1099511627775)) U (fun c3 hk2=>?_) (fun e=>?_))
 ·exact qL 2 [0] U (av wI (gy h y1.Known 0 1099511627775) U (qO 2 U (hk2 _ U)))
 refine aj (bY 5 [33,34,35,36,37,38] 33 38 ((cV y1.Policy) != 0) U (fun c4 hk3=>?_) (fun e=>?_))
 ·exact qL 1 [] U (cW 0 ty64 U U U (av call94 (qJ _ _ _ ok2.Policy ob hk) U (qO 2 U (hk3 _ U))))
 refine aD (ai hs6 U (fun c5 hs7=>?_) (fun c5 hs8=>?_))
 ·exact sr (an (nretP [I 200] (ci hs7)))
 exact qK 8 [0] U (aw (v':=I (((i1+1):Nat):Int)) U (bw ob) (qO 2 U (bB (L':=[]) js (ag1 y1.No hs8))))
theorem nT (h:HF) (l:List Document) (e8:Option Addr) (eZ:Nat) (hl:SlC Document.rp h e8 eZ l):jN prog 150 [.slice e8 l.length eZ] h (fun v h'=>∃ (rr0:mC),v=.agg (gv.cells (aC l) rr0).toArray∧gv.ok h' (aC l) rr0):=by
 refine cz func150 U ntmps150 U fun X hM hX=>?_
 have hs0:aC l=aC l:=rfl
 refine sr (aV zc228 (fun b1=>qO 4 U (aF (mr (fun b2=>aF (fw (cells:=[.slice e8 l.length eZ,.map (some b2)]) (places:=[(0,1),(1,1)]) underlying228 zc228 kr kr (aV zc228 (fun b3=>aS 0 ty228 U U U U U U (qL 8 [] U ?_)))))))))
 let z1:Nat×Obj:=(b3,O [.slice e8 l.length eZ,.map (some b2)] 228)
 refine lp2 l (fun i w=>[(2,Q b1),(3,Q b3),(9,.slice e8 l.length eZ),(10,I (l.length:Int)),(11,I (i:Int))]) (fun _=>h) (fun w=>[z1,(b2,w.2),(b1,O [.slice none 0 0,.map none] 228)]) (fun i w=>iL (Value.int .i64) sM h w.2 w.1∧w.1.length≤0+i) (fun s1 i w=>(aC.L1 (aC.K1 l)) s1 i w.1) ([],.map #[] 0) hl.1.1 hs0 ⟨(iL.nil (enc:=(Value.int .i64)) (V:=sM) (h:=h)),lc⟩ ?_ ?_
 ·rintro i1 ⟨bS,dR⟩ fA hs1 ⟨gd,BK⟩ e
  refine sr (cW 0 ty228 U U U (aS 2 ty228 U U U U U U (aD (eI 1 U hM (fun h2 hle2 hb2=>?_)))))
  have mc2:qt (Value.int .i64) sM h2 b2 bS:=⟨_,hb2,gd.mono sM.mono hle2⟩
  have hs2:aC l=(gv.mk l bS):=hs1
  exact jd [.agg (List.toArray [.slice e8 l.length eZ,.map (some b2)])] func150 U ⟨⟨1,_,_,_,_,U,U,.inl ⟨ty228,U⟩⟩,trivial⟩ ⟨(mC.mk e8 eZ b2),congrArg (fun r:gv=>(.agg (gv.cells r (mC.mk e8 eZ b2)).toArray:Value)) hs2.symm,(by rw [hs2];exact (show gv.ok h2 (gv.mk l bS) (mC.mk e8 eZ b2) from ⟨(hl.mono Document.ao hle2),mc2⟩))⟩
 rintro i1 ⟨bS,dR⟩ y1 rz1 hd1 dx aL eH hO hs3 ⟨gd,BK⟩ hx1 ag1 e
 exact sr (aw (v':=.bool true) U (cb dx) (qO 9 U (aF (gC oL ty51 hl.1 (nthZ aL) (ba aL) U U U (fun _ _ _ e=>e) (fun q2 r2 A2 ok2=>dz ty51 A2 U U (aV zc51 (fun b5=>cK (aS 0 ty51 U U U U U U (qL 7 [1,0] U (aF (jJ 2 (k:=y1.No) (x:=(i1:Int)) wH (eY lS) U gd U U U (fun mo2 hm2=>qO 3 U (aw (v':=I (((i1+1):Nat):Int)) U (bw ob) (qO 2 U (bB (L':=[z1,(b2,mo2),(b1,O [.slice none 0 0,.map none] 228)]) js (ag1 ((mput bS y1.No (i1:Int)),mo2) hs3 ⟨hm2,(by have:=ly bS y1.No (i1:Int);first | omega | (simp only [List.length_nil,List.length_cons] at *;omega))⟩))))))))))))))))
theorem lP (h:HF) (t:Int)  : Ret prog 125 [I t] h (.bool (fp t)):=by
 refine sT func125 U ntmps125 U fun X hM hX hF=>?_
 have hs0:fp t=fp t:=rfl
 refine qT 9 U (bC 3 [5,6,7,8] 5 8 (decide (t < 1099511627776)) U (fun c1 hk1=>?_) (fun e=>?_))
 ·exact aj (qO 2 U (hk1 _ U))
 exact an (nretP [.bool (decide (0≤t)&&decide (t < 1099511627776))] (cs hs0))
theorem nG (h:HF) (l:List Int) (e8:Option Addr) (eZ:Nat) (limit:Int) (hl:SlC Rp.int h e8 eZ l):Ret prog 238 [.slice e8 l.length eZ,I limit] h (.bool (dy l limit)):=by
 refine sT func238 U ntmps238 U fun X hM hX hF=>?_
 have hs0:dy l limit=dy l limit:=rfl
 refine qK 15 [] U ?_
 refine lp1 l (fun i w=>[(0,.slice e8 l.length eZ),(1,I limit),(5,I w),(8,.slice e8 l.length eZ),(9,I (l.length:Int)),(10,I (i:Int))]) ([]) (fun s1 i w=>(dy.L1 limit (dy.K1 l)) s1 w) (-1) hl.1.1 hs0 ?_ ?_
 ·rintro i1 iJ fA hs1 e
  exact qK 7 [] U (nretP [.bool (decide ((l.length:Int)≤16))] (cs hs1))
 rintro i1 iJ y1 rz1 hd1 dx aL eH hO hs3 hx1 ag1 e
 refine sr (aw (v':=.bool true) U (cb dx) (qO 8 U (aF (fj (enc:=fun y=>[I y]) ei fa ty3 hl.1 (nthZ aL) (ba aL) U U U (fun q2 A2=>dF ty3 A2 U (qO 9 U (bY 4 [17,18,19,20,21] 17 21 (decide (limit≤y1)) U (fun c1 hk1=>?_) (fun e=>?_))))))))
 ·exact aj (qO 3 U (hk1 _ U))
 refine aD (ai hs3 U (fun c2 hs4=>?_) (fun c2 hs5=>?_))
 ·exact sr (an (nretP [.bool false] (cs hs4)))
 exact aJ (qT 6 U (aw (v':=I (((i1+1):Nat):Int)) U (bw ob) (qO 2 U (ag1 y1 hs5))))
theorem wu (h:HF) (d:Document) (FW:jO) (hd:Document.ok h d FW):Ret prog 151 [.agg (Document.cells d FW).toArray] h (.bool (gm d)):=by
 refine sT func151 U ntmps151 U fun X hM hX hF=>?_
 have hs0:gm d=gm d:=rfl
 refine sr (cA (fun b1=>qL 8 [0] U (bC 4 [7,8,9,10,11] 7 11 (decide (d.No < 4096)) U (fun c1 hk1=>?_) (fun e=>?_))))
 ·exact qL 4 [0] U (hk1 _ U)
 refine aj (bC 4 [12,13,14,15,16] 12 16 (fp d.At) U (fun c2 hk2=>?_) (fun e=>?_))
 ·exact qL 2 [0] U (av Jg (lP h d.At) U (ek U (hk2 _ U)))
 refine aj (bC 4 [17,18,19,20,21] 17 21 (decide (0≤d.Kind)) U (fun c3 hk3=>?_) (fun e=>?_))
 ·exact qL 4 [0] U (hk3 _ U)
 refine aj (bC 4 [22,23,24,25,26] 22 26 (decide (d.Kind < 16)) U (fun c4 hk4=>?_) (fun e=>?_))
 ·exact qL 4 [0] U (hk4 _ U)
 refine aj (bC 4 [27,28,29,30,31] 27 31 (decide (0≤d.Value)) U (fun c5 hk5=>?_) (fun e=>?_))
 ·exact qL 4 [0] U (hk5 _ U)
 refine aj (bC 4 [32,33,34,35,36] 32 36 (decide (d.Value≤1099511627776)) U (fun c6 hk6=>?_) (fun e=>?_))
 ·exact qL 4 [0] U (hk6 _ U)
 refine qO 6 U (bC 4 [38,39,40,41,42] 38 42 (decide (0≤d.From)) U (fun c7 hk7=>?_) (fun e=>?_))
 ·exact qL 4 [0] U (hk7 _ U)
 refine aj (bC 6 [43,44,45,46,47,48,49] 43 49 (decide (d.From < d.Until)) U (fun c8 hk8=>?_) (fun e=>?_))
 ·exact qL 6 [0,0] U (hk8 _ U)
 refine aj (bC 4 [50,51,52,53,54] 50 54 (decide (d.Until≤1099511627776)) U (fun c9 hk9=>?_) (fun e=>?_))
 ·exact qL 4 [0] U (hk9 _ U)
 refine aj (bC 4 [55,56,57,58,59] 55 59 (dy d.Parties 1048577) U (fun c10 hk10=>?_) (fun e=>?_))
 ·exact qL 2 [0] U (av call238 (nG _ _ _ _ 1048577 hd.Parties) U (ek U (hk10 _ U)))
 refine aj (bC 6 [60,61,62,63,64,65,66] 60 66 (dy d.Revokes d.No) U (fun c11 hk11=>?_) (fun e=>?_))
 ·exact qL 4 [0,0] U (av call238 (nG _ _ _ _ d.No hd.Revokes) U (ek U (hk11 _ U)))
 refine aj (bC 6 [67,68,69,70,71,72,73] 67 73 (dy d.Needs d.No) U (fun c12 hk12=>?_) (fun e=>?_))
 ·exact qL 4 [0,0] U (av call238 (nG _ _ _ _ d.No hd.Needs) U (ek U (hk12 _ U)))
 exact an (nretP [.bool ((((((((((((decide (0≤d.No)&&decide (d.No < 4096))&&(fp d.At))&&decide (0≤d.Kind))&&decide (d.Kind < 16))&&decide (0≤d.Value))&&decide (d.Value≤1099511627776))&&decide (0≤d.From))&&decide (d.From < d.Until))&&decide (d.Until≤1099511627776))&&(dy d.Parties 1048577))&&(dy d.Revokes d.No))&&(dy d.Needs d.No))] (cs hs0))
theorem mO (h:HF) (no:Int) (v0:gv) (IU:mC) (v0_q:Addr) (hv0:gv.ok h v0 IU) (av0:At h v0_q (gv.cells v0 IU)):Ret prog 239 [I no,.pointer (some v0_q)] h (.bool (ej no v0)):=by
 refine sT func239 U ntmps239 U fun X hM hX hF=>?_
 have hs0:ej no v0=ej no v0:=rfl
 refine qK 7 [] U (kd (j:=1) ty190 av0 U U (aj ?_))
 obtain ⟨o1,hb1,hm1⟩:=hv0.at_
 refine aF (qw (k:=no) wH (eY lS) hb1 hm1 (eG zv3) (show sM _ (I 0) 0 from U) U U (fun v1 hv1=>?_))
 obtain rfl:=hv1
 exact aj (qO 11 U (nretP [.bool (!(mhas v0.at_ no))] (cs hs0)))
theorem nF (h:HF) (s:gv) (M1:mC) (d:Document) (FW:jO) (hs:gv.ok h s M1) (hd:Document.ok h d FW):Ret prog 152 [.agg (gv.cells s M1).toArray,.agg (Document.cells d FW).toArray] h (.bool (ew s d)):=by
 refine sT func152 U ntmps152 U fun X hM hX hF=>?_
 have hs0:ew s d=ew s d:=rfl
 refine sr (cA (fun b1=>cA (fun b2=>qO 4 U (aT 1 U hM (fun h1 hle1 hb1=>aF (et U U (qL 7 [0] U (av ED (gM _ _ _ _ (fun dB=>ej dB s) (.func (.func 239) #[] #[Q b1]) (hd.Revokes.mono Rp.aY hle1) (fun h' dB hle =>iu call239 (mO h' dB s M1 ⟨b1,0,none⟩  ((hs.mono hle1).mono hle) ((ct hb1).mono hle)))) U (qO 2 U (bC 6 [12,13,14,15,16,17,18] 12 18 (!(cw d.Needs (fun dB=>ej dB s))) U (fun c1 hk1=>?_) (fun e=>?_)))))))))))
 ·exact qL 3 [0] U (av ED (gM _ _ _ _ (fun dB=>ej dB s) (.func (.func 239) #[] #[Q b1]) (hd.Needs.mono Rp.aY hle1) (fun h' dB hle =>iu call239 (mO h' dB s M1 ⟨b1,0,none⟩  ((hs.mono hle1).mono hle) ((ct hb1).mono hle)))) U (qO 2 U (hk1 _ U)))
 exact an (nretP [.bool ((!(cw d.Revokes (fun dB=>ej dB s)))&&(!(cw d.Needs (fun dB=>ej dB s))))] (cs hs0))
theorem m5 (h:HF) (l:List Document) (e8:Option Addr) (eZ:Nat) (hl:SlC Document.rp h e8 eZ l):Ret prog 70 [.slice e8 l.length eZ] h (I (aX l)):=by
 refine sT func70 U ntmps70 U fun X hM hX hF=>?_
 have hs0:aX l=aX l:=rfl
 refine qK 11 [] U (ai hs0 U (fun c1 hs1=>?_) (fun c1 hs2=>?_))
 ·have c1p:=of_decide_eq_true c1
  exact sr (an (nretP [I 2] (ci hs1)))
 have c1p:=of_decide_eq_false c1
 refine qT 4 U (aF (cY call150 (nT _ _ _ _ hl) U (fun v1 h1 hle1 hp1=>?_)))
 obtain ⟨rr1,rfl,ok1⟩:=hp1
 refine aV zc228 (fun b1=>aS 0 ty228 U U U U U U (qL 8 [] U ?_))
 let z1:Nat×Obj:=(b1,O (gv.cells (aC l) rr1) 228)
 refine lp0 l (fun i=>[(0,.slice e8 l.length eZ),(3,Q b1),(11,.slice e8 l.length eZ),(12,I (l.length:Int)),(13,I (i:Int))]) ([z1]) (fun s1 i=>(aX.L1 l (aX.K1)) s1 i) ((hl.mono Document.ao hle1).1.1) hs2 ?_ ?_
 ·rintro i1 fA hs4 e
  exact sr (an (nretP [I 0] (ci hs4)))
 rintro i1 y1 rz1 hd1 dx aL eH hO hs6 hx1 ag1 e
 refine sr (aw (v':=.bool true) U (cb dx) (qO 9 U (aF (gC oL ty51 (hl.mono Document.ao hle1).1 (nthZ aL) (ba aL) U U U (fun _ _ _ e=>e) (fun q3 r3 A3 ok4=>dz ty51 A3 U U (aV zc51 (fun b3=>cK (aS 0 ty51 U U U U U U (qO 2 U ?_)))))))))
 refine nZ [(0,.slice e8 l.length eZ),(3,Q b1),(11,.slice e8 l.length eZ),(12,I (l.length:Int)),(13,I (i1:Int)),(41,.bool (((!(gm y1))||(decide (0 < (i1:Int))&&decide (y1.No≤(nthI l ((i1:Int) - 1)).No)))||(!(ew (aC l) y1))))] (fun e=>?_) (fun hk1=>?_)
 rotate_left
 ·let z2:Nat×Obj:=(b3,O (Document.cells y1 r3) 51)
  refine eQ ([z2,z1]) mixed kr jn (fun dH _=>?_)
  refine tf 0 U U (fun _ _ hj=>je ty51 U (hj.nth (i:=0) U) U) (tn 1 U (eP call151 (wu _ _ _ ok4) U (⟨jn,qA [2,3] U ?_⟩)))
  refine dt 21 U (fun c2=>?_) (fun c2=>?_)
  ·exact tk 4 U U (qR 5 19 U (aW kr (hk1 _ ⟨U,U,U,U,U,(cb (show true=(((!(gm y1))||(decide (0 < (i1:Int))&&decide (y1.No≤(nthI l ((i1:Int) - 1)).No)))||(!(ew (aC l) y1))) from by rw [c2] <;> rfl)),trivial⟩)))
  refine qR 4 3 U ?_
  refine dt 24 U (fun c3=>?_) (fun c3=>?_)
  ·have c3p:=of_decide_eq_true c3
   refine qB [7] U (tf 8 U U (fun _ _ hj=>fH ty3 U (hj.nth (i:=0) U) U) (qA [9,10] U (tf 11 U U (fun _ _ _=>np (v':=I ((i1:Int) - 1)) U (jV ob)) ?_)))
   have ho2:0≤(((i1:Int) - 1):Int)∧(((i1:Int) - 1):Int) < ((l).length:Int):=ob
   refine ji 12 dH jn oL ty51 (hl.mono Document.ao hle1).1 ho2 (dU ho2) U U U U kr (fun q4 cs4 A4 ln4 rr5=>?_)
   obtain ⟨r4,rfl,ok5⟩:=rr5
   refine qB [13] U (tf 14 U U (fun _ _ hj=>eV ty3 (A4.mono hj.1) U) (qR 15 4 U ?_))
   refine dt 36 U (fun c4=>?_) (fun c4=>?_)
   ·have c4p:=of_decide_eq_true c4
    exact tk 19 U U (qR 20 4 U (aW kr (hk1 _ ⟨U,U,U,U,U,(cb (show true=(((!(gm y1))||(decide (0 < (i1:Int))&&decide (y1.No≤(nthI l ((i1:Int) - 1)).No)))||(!(ew (aC l) y1))) from by rw [c2,c3,c4] <;> rfl)),trivial⟩)))
   have c4p:=of_decide_eq_false c4
   exact tf 19 U U (fun _ _ hj=>je ty228 U (hj.nth (i:=1) U) U) (tf 20 U U (fun _ _ hj=>je ty51 U (hj.nth (i:=0) U) U) (tn 21 U (eP call152 (nF _ _ _ _ _ ok1 ok4) U (⟨jn,qA [22,23] U (aW kr (hk1 _ ⟨U,U,U,U,U,(cb (show (!(ew (aC l) y1))=(((!(gm y1))||(decide (0 < (i1:Int))&&decide (y1.No≤(nthI l ((i1:Int) - 1)).No)))||(!(ew (aC l) y1))) from by rw [c2,c3,c4] <;> rfl)),trivial⟩))⟩))))
  have c3p:=of_decide_eq_false c3
  exact tk 7 U U (qR 8 11 U (tf 19 U U (fun _ _ hj=>je ty228 U (hj.nth (i:=1) U) U) (tf 20 U U (fun _ _ hj=>je ty51 U (hj.nth (i:=0) U) U) (tn 21 U (eP call152 (nF _ _ _ _ _ ok1 ok4) U (⟨jn,qA [22,23] U (aW kr (hk1 _ ⟨U,U,U,U,U,(cb (show (!(ew (aC l) y1))=(((!(gm y1))||(decide (0 < (i1:Int))&&decide (y1.No≤(nthI l ((i1:Int) - 1)).No)))||(!(ew (aC l) y1))) from by rw [c2,c3] <;> rfl)),trivial⟩))⟩))))))
 refine ai hs6 U (fun c5 hs7=>?_) (fun c5 hs8=>?_)
 ·exact sr (an (nretP [I 170] (ci hs7)))
 exact aJ (qT 2 U (aw (v':=I (((i1+1):Nat):Int)) U (bw ob) (qO 2 U (bB (L':=[z1]) js (ag1 hs8)))))
theorem tw (h:HF) (eo:Int) (v0:Int) (v0_q:Addr) (av0:At h v0_q [I v0]):Ret prog 196 [I eo,.pointer (some v0_q)] h (.bool (gB eo v0)):=by
 refine sT func196 U ntmps196 U fun X hM hX hF=>?_
 have hs0:gB eo v0=gB eo v0:=rfl
 refine qT 9 U (bY 4 [6,7,8,9,10] 6 10 (decide (v0 < eo)) U (fun c1 hk1=>?_) (fun e=>?_))
 ·exact aj (dF ty3 av0 U (qO 2 U (hk1 _ U)))
 exact an (nretP [.bool (decide (eo < 0)||decide (v0 < eo))] (cs hs0))
theorem iK (h:HF) (most:Int) (l:List Int) (e8:Option Addr) (eZ:Nat) (hl:SlC Rp.int h e8 eZ l):Ret prog 103 [I most,.slice e8 l.length eZ] h (.bool (dh most l)):=by
 refine sT func103 U ntmps103 U fun X hM hX hF=>?_
 have hs0:dh most l=dh most l:=rfl
 exact sr (cA (fun b1=>qO 5 U (aT 0 U hM (fun h1 hle1 hb1=>aF (et U U (av ED (gM _ _ _ _ (fun dB=>gB dB most) (.func (.func 196) #[] #[Q b1]) (hl.mono Rp.aY hle1) (fun h' dB hle =>iu call196 (tw h' dB most ⟨b1,0,none⟩  ((ct hb1).mono hle)))) U (qO 3 U (nretP [.bool (!(cw l (fun dB=>gB dB most)))] (cs hs0)))))))))
theorem wA (h:HF) (x:Approval)  : Ret prog 119 [.agg (Approval.cells x).toArray] h (.bool (iE x)):=by
 refine sT func119 U ntmps119 U fun X hM hX hF=>?_
 have hs0:iE x=iE x:=rfl
 refine sr (cA (fun b1=>qL 6 [0] U (aF (bV (cells:=[I x.No]) fa ty3 zc3 U U kr (fun b2=>aT 0 U hM (fun h1 hle1 hb1=>?_))))))
 have sl1:SlC Rp.int h1 (some ⟨b2,0,none⟩) 1 ([x.No]):=bu.slB0 (T:=3) (fz:=(0,0)) ((show bu Rp.int h [I x.No] ([x.No]) from ⟨[I x.No],[],rfl,rfl,rfl,rfl⟩).mono Rp.aY hle1) hb1
 refine av C1 (iK _ 1048576 _ _ _ sl1) U (aj (bC 7 [7,8,9,10,11,12,13,14] 7 14 (dh 1099511627775 ([x.At,x.Known])) U (fun c1 hk1=>?_) (fun e=>?_)))
 ·refine qL 4 [0,0] U (aF (bV (cells:=[I x.At,I x.Known]) fa ty3 zc3 U U kr (fun b3=>aT 0 U hM (fun h2 hle2 hb2=>?_))))
  have sl2:SlC Rp.int h2 (some ⟨b3,0,none⟩) 2 ([x.At,x.Known]):=bu.slB0 (T:=3) (fz:=(0,0)) ((show bu Rp.int h1 [I x.At,I x.Known] ([x.At,x.Known]) from ⟨[I x.At],[I x.Known],rfl,rfl,rfl,⟨[I x.Known],[],rfl,rfl,rfl,rfl⟩⟩).mono Rp.aY hle2) hb2
  exact av C1 (iK _ 1099511627775 _ _ _ sl2) U (ek U (jP (h:=h1) hle2 hX hle1 (hk1 _ U)))
 refine aj (bC 5 [15,16,17,18,19,20] 15 20 (dh 4095 ([x.Doc])) U (fun c2 hk2=>?_) (fun e=>?_))
 ·refine qL 2 [0] U (aF (bV (cells:=[I x.Doc]) fa ty3 zc3 U U kr (fun b4=>aT 0 U hM (fun h3 hle3 hb3=>?_))))
  have sl3:SlC Rp.int h3 (some ⟨b4,0,none⟩) 1 ([x.Doc]):=bu.slB0 (T:=3) (fz:=(0,0)) ((show bu Rp.int h1 [I x.Doc] ([x.Doc]) from ⟨[I x.Doc],[],rfl,rfl,rfl,rfl⟩).mono Rp.aY hle3) hb3
  exact av C1 (iK _ 4095 _ _ _ sl3) U (ek U (jP (h:=h1) hle3 hX hle1 (hk2 _ U)))
 refine aj (bC 7 [21,22,23,24,25,26,27,28] 21 28 (dh 63 ([x.By,x.For])) U (fun c3 hk3=>?_) (fun e=>?_))
 ·refine qL 4 [0,0] U (aF (bV (cells:=[I x.By,I x.For]) fa ty3 zc3 U U kr (fun b5=>aT 0 U hM (fun h4 hle4 hb4=>?_))))
  have sl4:SlC Rp.int h4 (some ⟨b5,0,none⟩) 2 ([x.By,x.For]):=bu.slB0 (T:=3) (fz:=(0,0)) ((show bu Rp.int h1 [I x.By,I x.For] ([x.By,x.For]) from ⟨[I x.By],[I x.For],rfl,rfl,rfl,⟨[I x.For],[],rfl,rfl,rfl,rfl⟩⟩).mono Rp.aY hle4) hb4
  exact av C1 (iK _ 63 _ _ _ sl4) U (ek U (jP (h:=h1) hle4 hX hle1 (hk3 _ U)))
 refine aj (bC 5 [29,30,31,32,33,34] 29 34 (dh 31 ([x.Office])) U (fun c4 hk4=>?_) (fun e=>?_))
 ·refine qL 2 [0] U (aF (bV (cells:=[I x.Office]) fa ty3 zc3 U U kr (fun b6=>aT 0 U hM (fun h5 hle5 hb5=>?_))))
  have sl5:SlC Rp.int h5 (some ⟨b6,0,none⟩) 1 ([x.Office]):=bu.slB0 (T:=3) (fz:=(0,0)) ((show bu Rp.int h1 [I x.Office] ([x.Office]) from ⟨[I x.Office],[],rfl,rfl,rfl,rfl⟩).mono Rp.aY hle5) hb5
  exact av C1 (iK _ 31 _ _ _ sl5) U (ek U (jP (h:=h1) hle5 hX hle1 (hk4 _ U)))
 exact an (nretP [.bool (((((dh 1048576 ([x.No]))&&(dh 1099511627775 ([x.At,x.Known])))&&(dh 4095 ([x.Doc])))&&(dh 63 ([x.By,x.For])))&&(dh 31 ([x.Office])))] (cs hs0))
theorem qj (h:HF) (l:List Approval) (e8:Option Addr) (eZ:Nat) (hl:SlC Approval.rp h e8 eZ l):Ret prog 71 [.slice e8 l.length eZ] h (I (bU l)):=by
 refine sT func71 U ntmps71 U fun X hM hX hF=>?_
 have hs0:bU l=bU l:=rfl
 refine qK 11 [] U (ai hs0 U (fun c1 hs1=>?_) (fun c1 hs2=>?_))
 ·have c1p:=of_decide_eq_true c1
  exact sr (an (nretP [I 2] (ci hs1)))
 have c1p:=of_decide_eq_false c1
 refine qK 12 [] U ?_
 refine lp1 l (fun i w=>[(3,I w),(9,.slice e8 l.length eZ),(10,I (l.length:Int)),(11,I (i:Int))]) ([]) (fun s1 i w=>(bU.L1 (bU.K1)) s1 w) (-1) hl.1.1 hs2 ?_ ?_
 ·rintro i1 ii fA hs4 e
  exact sr (an (nretP [I 0] (ci hs4)))
 rintro i1 ii y1 rz1 hd1 dx aL eH hO hs6 hx1 ag1 e
 refine sr (aw (v':=.bool true) U (cb dx) (qO 8 U (aF (fj (enc:=Approval.cells) ei tI ty81 hl.1 (nthZ aL) (ba aL) U U U (fun q2 A2=>dz ty81 A2 U U (aV zc81 (fun b2=>aS 0 ty81 U U U U U U (qO 4 U (cW 0 ty81 U U U (av call119 (wA h y1) U (qO 2 U (bY 5 [18,19,20,21,22,23] 18 23 (decide (y1.No≤ii)) U (fun c2 hk1=>?_) (fun e=>?_)))))))))))))
 ·exact qL 5 [0] U (hk1 _ U)
 refine aD (ai hs6 U (fun c3 hs7=>?_) (fun c3 hs8=>?_))
 ·exact sr (an (nretP [I 280] (ci hs7)))
 exact qK 8 [0] U (aw (v':=I (((i1+1):Nat):Int)) U (bw ob) (qO 2 U (bB (L':=[]) js (ag1 y1.No hs8))))
theorem nu (h:HF) (bL:Register) (ga:dI) (jF:Register.ok h bL ga) (hsm:smR bL) (hk:Kinds h):Ret prog 13 [.agg (Register.cells bL ga).toArray] h (I (eB bL)):=by
 refine sT func13 U ntmps13 U fun X hM hX hF=>?_
 have hs0:eB bL=eB bL:=rfl
 have hsv:=hsm.vers
 refine sr (cA (fun b1=>qO 4 U ?_))
 let z1:Nat×Obj:=(b1,O (Register.cells bL ga) 30)
 refine eQ ([z1]) mixed kr jn (fun dH _=>?_)
 refine qB [0] U (tf 1 U U (fun _ _ hj=>fH ty22 U (hj.nth (i:=0) U) U) (qB [3] U (tf 4 U U (fun _ _ hj=>fH ty23 U (hj.nth (i:=0) U) U) (qB [6] U (tf 7 U U (fun _ _ hj=>fH ty24 U (hj.nth (i:=0) U) U) (qB [9] U (tf 10 U U (fun _ _ hj=>fH ty25 U (hj.nth (i:=0) U) U) (qB [12] U (tf 13 U U (fun _ _ hj=>fH ty26 U (hj.nth (i:=0) U) U) (qB [15] U (tf 16 U U (fun _ _ hj=>fH ty27 U (hj.nth (i:=0) U) U) (qB [18] U (tf 19 U U (fun _ _ hj=>fH ty28 U (hj.nth (i:=0) U) U) (tm 23 U (tn 2 U (eP call65 (n8 _ _ _ _ jF.Appoints) U (⟨jn,tn 5 U (eP call66 (qS _ _ _ _ jF.Deputies) U (⟨jn,tn 8 U (eP call67 (pW _ _ _ _ jF.Interests) U (⟨jn,tn 11 U (eP call68 (rY _ _ _ _ jF.Budgets) U (⟨jn,tn 14 U (eP call69 (oA _ _ _ _ jF.Versions ob hk) U (⟨jn,(tn 17 U (eP call70 (m5 _ _ _ _ jF.Docs) U (⟨jn,(tn 20 U (eP call71 (qj _ _ _ _ jF.Approvals) U (⟨jn,(tn 21 U (bV (cells:=[I (cZ bL.Appoints),I (dq bL.Deputies),I (cN bL.Interests),I (cx bL.Budgets),I (bF bL.Versions),I (aX bL.Docs),I (bU bL.Approvals)]) underlying141 ty37 zc37 U U kr (fun b2=>⟨jn,(tf 22 U U (fun _ _ _=>E4 underlying141 U) (aW kr (eI 0 U hM (fun h1 hle1 hb1=>?_))))⟩)))⟩)))⟩)))⟩))⟩))⟩))⟩))⟩)))))))))))))))))
 have sl1:SlC Rp.int h1 (some ⟨b2,0,none⟩) 7 ([(cZ bL.Appoints),(dq bL.Deputies),(cN bL.Interests),(cx bL.Budgets),(bF bL.Versions),(aX bL.Docs),(bU bL.Approvals)]):=bu.slB0 (T:=37) (fz:=(0,0)) ((show bu Rp.int h [I (cZ bL.Appoints),I (dq bL.Deputies),I (cN bL.Interests),I (cx bL.Budgets),I (bF bL.Versions),I (aX bL.Docs),I (bU bL.Approvals)] ([(cZ bL.Appoints),(dq bL.Deputies),(cN bL.Interests),(cx bL.Budgets),(bF bL.Versions),(aX bL.Docs),(bU bL.Approvals)]) from ⟨[I (cZ bL.Appoints)],[I (dq bL.Deputies),I (cN bL.Interests),I (cx bL.Budgets),I (bF bL.Versions),I (aX bL.Docs),I (bU bL.Approvals)],rfl,rfl,rfl,⟨[I (dq bL.Deputies)],[I (cN bL.Interests),I (cx bL.Budgets),I (bF bL.Versions),I (aX bL.Docs),I (bU bL.Approvals)],rfl,rfl,rfl,⟨[I (cN bL.Interests)],[I (cx bL.Budgets),I (bF bL.Versions),I (aX bL.Docs),I (bU bL.Approvals)],rfl,rfl,rfl,⟨[I (cx bL.Budgets)],[I (bF bL.Versions),I (aX bL.Docs),I (bU bL.Approvals)],rfl,rfl,rfl,⟨[I (bF bL.Versions)],[I (aX bL.Docs),I (bU bL.Approvals)],rfl,rfl,rfl,⟨[I (aX bL.Docs)],[I (bU bL.Approvals)],rfl,rfl,rfl,⟨[I (bU bL.Approvals)],[],rfl,rfl,rfl,rfl⟩⟩⟩⟩⟩⟩⟩).mono Rp.aY hle1) hb1
 refine jx (ι:=Nat) (fun i=>[]) (fun i=>h1) (fun i=>[z1]) (fun i=>i≤(List.range 7).length∧eB bL=((eB.K1))) ?_ (fun hx1=>?_)
 ·rintro i1 ⟨fA,hs1⟩ e
  exact sr (an (nretP [I 0] (ci hs1)))
 refine ku (ι:=Nat×List Nat) (fun i=>[(26,.slice (some ⟨b2,0,none⟩) 7 7),(27,I 7),(28,I (i.1:Int))]) (fun i=>h1) (fun i=>[z1]) (fun i=>(List.range 7).drop i.1=i.2∧i.1≤(List.range 7).length∧eB bL=((eB.L1 bL (eB.K1)) i.2 i.1)) (fun i=>i.2.length) (0,(List.range 7)) rd sw ⟨U,Nat.zero_le _,hs0⟩ ?_
 rintro ⟨i1,s1⟩ ⟨hd1,fA,hs3⟩ ag1 e
 rcases s1 with _ | ⟨y1,rz1⟩
 ·have il:decide ((i1:Int) < 7)=false:=by simpa using nH hd1
  exact sr (aw (v':=.bool false) U (cb il) (qO 4 U (hx1 i1 _ ⟨fA,hs3⟩ trivial)))
 have dx:decide ((i1:Int) < 7)=true:=by simpa using rW hd1
 have eH:i1 < 7:=by simpa using jr hd1
 refine sr (aw (v':=.bool true) U (cb dx) (qO 8 U ?_))
 have ho2:0≤((i1:Int):Int)∧((i1:Int):Int) < (([(cZ bL.Appoints),(dq bL.Deputies),(cN bL.Interests),(cx bL.Budgets),(bF bL.Versions),(aX bL.Docs),(bU bL.Approvals)]).length:Int):=ob
 refine aF (fj (enc:=fun y=>[I y]) ei underlying141 ty37 sl1.1 ho2 (dU ho2) U U U (fun q2 A2=>dF ty37 A2 U (qO 7 U (ai hs3 U (fun c2 hs5=>?_) (fun c2 hs6=>?_)))))
 ·exact sr (an (nretP [I 300] (ci hs5)))
 exact aJ (qT 2 U (aw (v':=I (((i1+1):Nat):Int)) U (bw ob) (qO 2 U (ag1 ((i1+1),rz1) _ (Nat.lt_succ_self _) ⟨lQ hd1,jr hd1,hs6⟩ rd))))
theorem gU (h:HF) (Mb:Int)  : CV prog 51 [I Mb] h (exW errV (fun r:Unit=>(.tuple #[]:Value)) (kj Mb)):=by
 refine cz func51 U ntmps51 U fun X hM hX=>?_
 have hs0:kj Mb=kj Mb:=rfl
 refine qT 5 U (ai hs0 U (fun c1 hs1=>?_) (fun c1 hs2=>?_))
 ·exact ay (aj (aF (fg (zY Jf U U) (aF (zU U uL (fun e=>gp (mq [] func51 hX (congrArg (exW errV (fun r:Unit=>(.tuple #[]:Value))) hs1))))))))
 refine aJ ?_
 have hs3:kj Mb=(Except.ok ()):=hs2
 exact dY (uH [] [] func51 U hX trivial (congrArg (exW errV (fun r:Unit=>(.tuple #[]:Value))) hs3))
theorem j4 (h:HF) (s:List Document) (pL:Option Addr) (pK:Nat) (f:(Document→Bool)) (f_v:Value) (hs:SlC Document.rp h pL pK s) (hf:∀ (h':HF) (dB:Document) (vw:jO),HF.le h h'→dB∈s→Document.ok h' dB vw→rH prog f_v [.agg (Document.cells dB vw).toArray] h' [] (.bool (f dB))):Ret prog 128 [.slice pL s.length pK,f_v] h (I (ad s f)):=by
 refine sT func128 U ntmps128 U fun X hM hX hF=>?_
 have hs0:ad s f=ad s f:=rfl
 refine qK 11 [] U ?_
 refine lp0 s (fun i=>[(0,.slice pL s.length pK),(1,f_v),(7,I (s.length:Int)),(8,I (i:Int))]) ([]) (fun s1 i=>(ad.L1 f (ad.K1)) s1 i) hs.1.1 hs0 ?_ ?_
 ·rintro i1 fA hs1 e
  exact sr (an (nretP [I (-1)] (ci hs1)))
 rintro i1 y1 rz1 hd1 dx aL eH hO hs3 hx1 ag1 e
 refine sr (aw (v':=.bool true) U (cb dx) (qO 16 U (aF (gC oL ty51 hs.1 (nthZ aL) (ba aL) U U U (fun _ _ _ e=>e) (fun q2 r2 A2 ok2=>dz ty51 A2 U U (aF (kH (v:=.bool (f y1)) [] (List.nil_sublist _) (hf h y1 r2 lf (gi hd1) ok2) U U (aD (ai hs3 U (fun c2 hs4=>?_) (fun c2 hs5=>?_))))))))))
 ·exact sr (qO 3 U (nretP [I (i1:Int)] (ci hs4)))
 exact aJ (qT 2 U (aw (v':=I (((i1+1):Nat):Int)) U (bw ob) (qO 2 U (ag1 hs5))))
theorem yr (s:List Document) (f:Document→Bool):ad s f < (s.length:Int):=by
 have key:∀ (l:List Document) (i:Nat),ad.L1 f ad.K1 l i < ((i+l.length:Nat):Int):=by
  intro l
  induction l with
  | nil=>intro i;simp only [ad.L1,ad.K1];omega
  | cons y l ih=>
   intro i
   simp only [ad.L1,Bool.cond_eq_ite,List.length_cons]
   split
   ·omega
   have:=ih (i+1);omega
 have:=key s 0
 simpa [ad] using this
theorem zG (h:HF) (d:Document) (FW:jO) (v0:Int) (v0_q:Addr) (hd:Document.ok h d FW) (av0:At h v0_q [I v0]):Ret prog 129 [.agg (Document.cells d FW).toArray,.pointer (some v0_q)] h (.bool (bx d v0)):=by
 refine sT func129 U ntmps129 U fun X hM hX hF=>?_
 have hs0:bx d v0=bx d v0:=rfl
 exact sr (cA (fun b1=>qL 6 [0] U (dF ty3 av0 U (qO 3 U (nretP [.bool (d.No==v0)] (cs hs0))))))
theorem vF (h:HF) (bL:Register) (ga:dI) (doc:Int) (cv:Int) (known:Int) (jF:Register.ok h bL ga):DF prog 53 [.agg (Register.cells bL ga).toArray,I doc,I cv,I known] h errV (ki bL doc cv known) (fun (r:bo) v h'=>∃ (rr0:jv),v=.agg (bo.cells r rr0).toArray∧bo.ok h' r rr0):=by
 refine cz func53 U ntmps53 U fun X hM hX=>?_
 have hs0:ki bL doc cv known=ki bL doc cv known:=rfl
 refine sr (cA (fun b1=>cA (fun b2=>aV zc123 (fun b3=>qL 5 [2] U (aT 1 U hM (fun h1 hle1 hb1=>aF (et U U (av call128 (j4 _ _ _ _ (fun dB=>bx dB doc) (.func (.func 129) #[] #[Q b2]) (jF.Docs.mono Document.ao hle1) (fun h' dB vw hle Kh a0_o=>iu call129 (zG h' dB vw doc ⟨b2,0,none⟩ a0_o ((ct hb1).mono hle)))) U (qO 8 U (bY 5 [16,17,18,19,20,21] 16 21 (decide ((min cv known) < 0)) U (fun c1 hk1=>?_) (fun e=>?_)))))))))))
 ·exact aj (aj (aF (fg (LU U U) (qO 2 U (hk1 _ U)))))
 refine aj (bY 5 [22,23,24,25,26,27] 22 27 (decide (1099511627776≤(max cv known))) U (fun c2 hk2=>?_) (fun e=>?_))
 ·exact aj (aj (aF (fg (LV U U) (qO 2 U (hk2 _ U)))))
 refine aD (ai hs0 U (fun c3 hs1=>?_) (fun c3 hs2=>?_))
 ·exact ay (aF (fg (zY Jf U U) (aF (zU U uL (fun e=>gp (EI [] func53 hs1))))))
 refine qT 2 U ?_
 let z1:Nat×Obj:=(b1,O (Register.cells bL ga) 30)
 refine eQ ([z1]) mixed kr jn (fun dH _=>?_)
 refine tf 0 U U (fun _ _ hj=>je ty30 U (hj.nth (i:=0) U) U) (qB [1] U (tf 2 U U (fun _ _ hj=>fH ty27 U (hj.nth (i:=0) U) U) (tm 3 U ?_)))
 have ho1:0≤((ad bL.Docs (fun dB=>bx dB doc)):Int)∧((ad bL.Docs (fun dB=>bx dB doc)):Int) < ((bL.Docs).length:Int):=(by have hq:=yr bL.Docs (fun dB=>bx dB doc);simp only [decide_eq_true_eq,decide_eq_false_iff_not,Bool.and_eq_true,Bool.or_eq_true,Bool.not_eq_true',Bool.not_eq_false',Bool.and_eq_false_iff,Bool.or_eq_false_iff,beq_iff_eq,beq_eq_false_iff_ne,bne_iff_ne,bne_eq_false_iff_eq,List.length_append,List.length_cons,List.length_nil,List.length_drop] at *;omega)
 refine ji 4 dH jn oL ty51 (jF.Docs.mono Document.ao hle1).1 ho1 (dU ho1) U U U U kr (fun q1 cs1 A1 ln1 rr1=>?_)
 obtain ⟨r1,rfl,ok1⟩:=rr1
 refine tf 5 U U (fun _ _ hj=>j9 ty51 (A1.mono hj.1) U U) (qA [6,7] U (tn 8 U (fw (cells:=[.slice ga.sQ bL.Appoints.length ga.sP,.slice ga.sO bL.Deputies.length ga.sN,.slice ga.re bL.Interests.length ga.ra,.slice ga.u9 bL.Budgets.length ga.u0,.slice ga.j7 bL.Versions.length ga.j6,.slice ga.Eo bL.Docs.length ga.En,.slice ga.rg bL.Approvals.length ga.rf,I ((nthI bL.Docs (ad bL.Docs (fun dB=>bx dB doc))).No),I ((nthI bL.Docs (ad bL.Docs (fun dB=>bx dB doc))).At),I ((nthI bL.Docs (ad bL.Docs (fun dB=>bx dB doc))).Kind),I ((nthI bL.Docs (ad bL.Docs (fun dB=>bx dB doc))).Value),I ((nthI bL.Docs (ad bL.Docs (fun dB=>bx dB doc))).From),I ((nthI bL.Docs (ad bL.Docs (fun dB=>bx dB doc))).Until),.slice r1.uZ ((nthI bL.Docs (ad bL.Docs (fun dB=>bx dB doc))).Parties.length) r1.uY,.slice r1.pA ((nthI bL.Docs (ad bL.Docs (fun dB=>bx dB doc))).Revokes.length) r1.pz,.slice r1.Ah ((nthI bL.Docs (ad bL.Docs (fun dB=>bx dB doc))).Needs.length) r1.Ag,Y ((nthI bL.Docs (ad bL.Docs (fun dB=>bx dB doc))).Text 0),Y ((nthI bL.Docs (ad bL.Docs (fun dB=>bx dB doc))).Text 1),Y ((nthI bL.Docs (ad bL.Docs (fun dB=>bx dB doc))).Text 2),Y ((nthI bL.Docs (ad bL.Docs (fun dB=>bx dB doc))).Text 3),Y ((nthI bL.Docs (ad bL.Docs (fun dB=>bx dB doc))).Text 4),Y ((nthI bL.Docs (ad bL.Docs (fun dB=>bx dB doc))).Text 5),Y ((nthI bL.Docs (ad bL.Docs (fun dB=>bx dB doc))).Text 6),Y ((nthI bL.Docs (ad bL.Docs (fun dB=>bx dB doc))).Text 7),Y ((nthI bL.Docs (ad bL.Docs (fun dB=>bx dB doc))).Text 8),Y ((nthI bL.Docs (ad bL.Docs (fun dB=>bx dB doc))).Text 9),Y ((nthI bL.Docs (ad bL.Docs (fun dB=>bx dB doc))).Text 10),Y ((nthI bL.Docs (ad bL.Docs (fun dB=>bx dB doc))).Text 11),Y ((nthI bL.Docs (ad bL.Docs (fun dB=>bx dB doc))).Text 12),Y ((nthI bL.Docs (ad bL.Docs (fun dB=>bx dB doc))).Text 13),Y ((nthI bL.Docs (ad bL.Docs (fun dB=>bx dB doc))).Text 14),Y ((nthI bL.Docs (ad bL.Docs (fun dB=>bx dB doc))).Text 15),Y ((nthI bL.Docs (ad bL.Docs (fun dB=>bx dB doc))).Text 16),Y ((nthI bL.Docs (ad bL.Docs (fun dB=>bx dB doc))).Text 17),Y ((nthI bL.Docs (ad bL.Docs (fun dB=>bx dB doc))).Text 18),Y ((nthI bL.Docs (ad bL.Docs (fun dB=>bx dB doc))).Text 19),Y ((nthI bL.Docs (ad bL.Docs (fun dB=>bx dB doc))).Text 20),Y ((nthI bL.Docs (ad bL.Docs (fun dB=>bx dB doc))).Text 21),Y ((nthI bL.Docs (ad bL.Docs (fun dB=>bx dB doc))).Text 22),Y ((nthI bL.Docs (ad bL.Docs (fun dB=>bx dB doc))).Text 23),Y ((nthI bL.Docs (ad bL.Docs (fun dB=>bx dB doc))).Text 24),Y ((nthI bL.Docs (ad bL.Docs (fun dB=>bx dB doc))).Text 25),Y ((nthI bL.Docs (ad bL.Docs (fun dB=>bx dB doc))).Text 26),Y ((nthI bL.Docs (ad bL.Docs (fun dB=>bx dB doc))).Text 27),Y ((nthI bL.Docs (ad bL.Docs (fun dB=>bx dB doc))).Text 28),Y ((nthI bL.Docs (ad bL.Docs (fun dB=>bx dB doc))).Text 29),Y ((nthI bL.Docs (ad bL.Docs (fun dB=>bx dB doc))).Text 30),Y ((nthI bL.Docs (ad bL.Docs (fun dB=>bx dB doc))).Text 31),I cv,I known]) (places:=[(0,7),(7,41),(48,1),(49,1)]) underlying123 zc123 kr kr ?_)))
 refine ⟨jn,(tn 9 U (nj 0 ty123 U U U U U U (⟨jn,(aW kr ?_)⟩)))⟩
 have hs3:ki bL doc cv known=(Except.ok (bo.mk bL (nthI bL.Docs (ad bL.Docs (fun dB=>bx dB doc))) cv known)):=hs2
 exact dY (EF [] [.agg (bo.cells (bo.mk bL (nthI bL.Docs (ad bL.Docs (fun dB=>bx dB doc))) cv known) (jv.mk ga r1)).toArray] func53 U ⟨⟨0,_,_,_,_,U,U,.inl ⟨ty123,U⟩⟩,trivial⟩ hs3 ⟨(jv.mk ga r1),U,(show bo.ok h1 (bo.mk bL (nthI bL.Docs (ad bL.Docs (fun dB=>bx dB doc))) cv known) (jv.mk ga r1) from ⟨(jF.mono hle1),ok1⟩)⟩)
theorem rX (h:HF) (x:Int)  : Ret prog 211 [I x] h (.bool (cmp_isNaN_int x)):=by
 refine sT Nh U ntmps211 U fun X hM hX hF=>?_
 have hs0:cmp_isNaN_int x=cmp_isNaN_int x:=rfl
 exact sr (qO 9 U (nretP [.bool (x != x)] (cs hs0)))
end Go.Sg
namespace Go.Proofs
open Go.Shelf
def Tryz.Fq:Go.Shelf.Ren:=⟨fun | 137=>384 | 217=>387 | 266=>388 | n=>n,fun | 9=>9 | 5=>5 | 3=>3 | n=>n,fun | n=>n⟩
theorem Tryz.lays137:Go.Proofs.Lays.n137 Tryz.prog Tryz.Fq:={
 mixed:=by kernel_rfl
 f137:=Tryz.func384.trans (congrArg some (by kernel_rfl))
 f217:=Tryz.func387.trans (congrArg some (by kernel_rfl))
 f266:=Tryz.func388.trans (congrArg some (by kernel_rfl))
 t3:=Tryz.underlying3
 a3:=Tryz.isAgg3
 z3:=Tryz.sizeOf3
 v3:=Tryz.zeroValue3
 t5:=Tryz.underlying5
 a5:=Tryz.isAgg5
 z5:=Tryz.sizeOf5
 v5:=Tryz.zeroValue5
 t9:=Tryz.underlying9
 a9:=Tryz.isAgg9
 z9:=Tryz.sizeOf9
 v9:=Tryz.zeroValue9 }
open Go.RowKit in
theorem Tryz.strings_IndexByte (s:ByteArray) (c:Int) (w:World):
  Calls Tryz.prog 384 #[.string s,.int .u8 c] w fun e w'=>e=.returned (.int .i64 (Lib.indexByte s.data.toList c.toNat.toUInt8))∧w'=w:=Any.strings_IndexByte Tryz.lays137 s c w
open Go.RowKit Go.Lib in
def Tryz.Fp:Go.Shelf.Ren:=⟨fun | 189=>88 | 125=>174 | 257=>173 | 128=>271 | 129=>272 | 294=>263 | 295=>264 | 296=>265 | 297=>266 | 298=>267 | 299=>268 | 216=>209 | 300=>269 | 301=>270 | 328=>316 | 329=>317 | 330=>318 | 331=>319 | 332=>320 | 215=>211 | 343=>354 | n=>n,fun | 28=>31 | 3=>3 | 46=>245 | 0=>0 | 51=>313 | 53=>315 | 4=>4 | 183=>307 | 182=>306 | 131=>191 | 5=>5 | 9=>9 | 218=>349 | 222=>353 | 228=>382 | 229=>213 | n=>n,fun | n=>n⟩
theorem Tryz.lays189:Go.Proofs.Lays.n189 Tryz.prog Tryz.Fp:={
 mixed:=by kernel_rfl
 f125:=Tryz.func174.trans (congrArg some (by kernel_rfl))
 f128:=Tryz.func271.trans (congrArg some (by kernel_rfl))
 f129:=Tryz.func272.trans (congrArg some (by kernel_rfl))
 f189:=Tryz.func88.trans (congrArg some (by kernel_rfl))
 f215:=Tryz.func211.trans (congrArg some (by kernel_rfl))
 f216:=Tryz.func209.trans (congrArg some (by kernel_rfl))
 f257:=Tryz.func173.trans (congrArg some (by kernel_rfl))
 f294:=Tryz.func263.trans (congrArg some (by kernel_rfl))
 f295:=Tryz.func264.trans (congrArg some (by kernel_rfl))
 f296:=Tryz.func265.trans (congrArg some (by kernel_rfl))
 f297:=Tryz.func266.trans (congrArg some (by kernel_rfl))
 f298:=Tryz.func267.trans (congrArg some (by kernel_rfl))
 f299:=Tryz.func268.trans (congrArg some (by kernel_rfl))
 f300:=Tryz.func269.trans (congrArg some (by kernel_rfl))
 f301:=Tryz.func270.trans (congrArg some (by kernel_rfl))
 f328:=Tryz.func316.trans (congrArg some (by kernel_rfl))
 f329:=Tryz.func317.trans (congrArg some (by kernel_rfl))
 f330:=Tryz.func318.trans (congrArg some (by kernel_rfl))
 f331:=Tryz.func319.trans (congrArg some (by kernel_rfl))
 f332:=Tryz.func320.trans (congrArg some (by kernel_rfl))
 f343:=Tryz.func354.trans (congrArg some (by kernel_rfl))
 t0:=Tryz.underlying0
 a0:=Tryz.isAgg0
 z0:=Tryz.sizeOf0
 v0:=Tryz.zeroValue0
 t3:=Tryz.underlying3
 a3:=Tryz.isAgg3
 z3:=Tryz.sizeOf3
 v3:=Tryz.zeroValue3
 t4:=Tryz.underlying4
 a4:=Tryz.isAgg4
 z4:=Tryz.sizeOf4
 v4:=Tryz.zeroValue4
 t5:=Tryz.underlying5
 a5:=Tryz.isAgg5
 z5:=Tryz.sizeOf5
 v5:=Tryz.zeroValue5
 t9:=Tryz.underlying9
 a9:=Tryz.isAgg9
 z9:=Tryz.sizeOf9
 v9:=Tryz.zeroValue9
 t28:=Tryz.underlying31
 a28:=Tryz.isAgg31
 z28:=Tryz.sizeOf31
 v28:=Tryz.zeroValue31
 t46:=Tryz.underlying245
 a46:=Tryz.isAgg245
 z46:=Tryz.sizeOf245
 v46:=Tryz.zeroValue245
 t51:=Tryz.underlying313
 a51:=Tryz.isAgg313
 z51:=Tryz.sizeOf313
 v51:=Tryz.zeroValue313
 t53:=Tryz.underlying315
 a53:=Tryz.isAgg315
 z53:=Tryz.sizeOf315
 v53:=Tryz.zeroValue315
 t131:=Tryz.underlying191
 a131:=Tryz.isAgg191
 z131:=Tryz.sizeOf191
 v131:=Tryz.zeroValue191
 t182:=Tryz.underlying306
 a182:=Tryz.isAgg306
 z182:=Tryz.sizeOf306
 v182:=Tryz.zeroValue306
 t183:=Tryz.underlying307
 a183:=Tryz.isAgg307
 z183:=Tryz.sizeOf307
 v183:=Tryz.zeroValue307
 t218:=Tryz.underlying349
 a218:=Tryz.isAgg349
 z218:=Tryz.sizeOf349
 v218:=Tryz.zeroValue349
 t222:=Tryz.underlying353
 a222:=Tryz.isAgg353
 z222:=Tryz.sizeOf353
 v222:=Tryz.zeroValue353
 t228:=Tryz.underlying382
 a228:=Tryz.isAgg382
 z228:=Tryz.sizeOf382
 v228:=Tryz.zeroValue382
 t229:=Tryz.underlying213
 a229:=Tryz.isAgg213
 z229:=Tryz.sizeOf213
 v229:=Tryz.zeroValue213 }
open Go.Sort Go.RowKit in
theorem Tryz.slices_Sort_int (blk off cap:Nat) (zs:List Int) (w:World) (hH:Holds (Value.int .i64) w blk off zs.toArray) (hblk:blk < w.heap.size) (hsz:zs.length < 4611686018427387904):
  Calls Tryz.prog 88 #[.slice (some ⟨blk,off,none⟩) zs.length cap] w fun e w'=>
   e=.returned (.tuple #[])∧∃ n os,w'=grow (putRow (Value.int .i64) (Sort.ahead w n) blk off (zs.mergeSort fun x y=>decide (x≤y)).toArray) os:=Any.slices_Sort_int Tryz.lays189 blk off cap zs w hH hblk hsz
def Tryz.CD:Go.Shelf.Ren:=⟨fun | 20=>136 | n=>n,fun | 22=>31 | 3=>3 | 4=>4 | 0=>0 | n=>n,fun | n=>n⟩
theorem Tryz.laysNm220:Go.Proofs.Lays2.n20 Tryz.prog Tryz.CD:={
 mixed:=by kernel_rfl
 f20:=Tryz.func136.trans (congrArg some (by kernel_rfl))
 t0:=Tryz.underlying0
 a0:=Tryz.isAgg0
 z0:=Tryz.sizeOf0
 v0:=Tryz.zeroValue0
 t3:=Tryz.underlying3
 a3:=Tryz.isAgg3
 z3:=Tryz.sizeOf3
 v3:=Tryz.zeroValue3
 t4:=Tryz.underlying4
 a4:=Tryz.isAgg4
 z4:=Tryz.sizeOf4
 v4:=Tryz.zeroValue4
 t22:=Tryz.underlying31
 a22:=Tryz.isAgg31
 z22:=Tryz.sizeOf31
 v22:=Tryz.zeroValue31
 i3:=by kernel_rfl }
open Go.RowKit Go.Lib Go.Sort in
open Go.RowKit Go.Lib Go.Sort in
theorem Tryz.slices_Compact_int (blk off cap:Nat) (zs:List Int) (w:World) (hH:Holds (Value.int .i64) w blk off zs.toArray) (hsz:zs.length≤9223372036854775807) (hcap:zs.length≤cap):
  Calls Tryz.prog 136 #[.slice (some ⟨blk,off,none⟩) zs.length cap] w fun e w'=>e=.returned (.slice (some ⟨blk,off,none⟩) (Lib.compact zs).length cap)∧∃ q,w'=putRow (Value.int .i64) (Sort.ahead w q) blk off (Lib.compact zs++List.replicate (zs.length - (Lib.compact zs).length) 0).toArray:=Any.slices_Compact_int Tryz.laysNm220 blk off cap zs w hH hsz hcap
open Go.RowKit Go.Lib Go.Sort in
theorem Tryz.slices_Compact_int_empty (a:Option Addr) (cap:Nat) (w:World):
  Calls Tryz.prog 136 #[.slice a 0 cap] w fun e w'=>e=.returned (.slice a 0 cap)∧w'=w:=Any.slices_Compact_int_empty Tryz.laysNm220 a cap w
open Go.RowKit Go.Lib in
open Go.RowKit Go.Lib in
open Go.RowKit Go.Lib in
def Tryz.CC:Go.Shelf.Ren:=⟨fun | 25=>114 | 31=>209 | 32=>210 | 37=>211 | n=>n,fun | 22=>31 | 3=>3 | 4=>4 | 40=>245 | 0=>0 | n=>n,fun | n=>n⟩
theorem Tryz.laysNm225:Go.Proofs.Lays2.n25 Tryz.prog Tryz.CC:={
 mixed:=by kernel_rfl
 f25:=Tryz.func114.trans (congrArg some (by kernel_rfl))
 f31:=Tryz.func209.trans (congrArg some (by kernel_rfl))
 f32:=Tryz.func210.trans (congrArg some (by kernel_rfl))
 f37:=Tryz.func211.trans (congrArg some (by kernel_rfl))
 t0:=Tryz.underlying0
 a0:=Tryz.isAgg0
 z0:=Tryz.sizeOf0
 v0:=Tryz.zeroValue0
 t3:=Tryz.underlying3
 a3:=Tryz.isAgg3
 z3:=Tryz.sizeOf3
 v3:=Tryz.zeroValue3
 t4:=Tryz.underlying4
 a4:=Tryz.isAgg4
 z4:=Tryz.sizeOf4
 v4:=Tryz.zeroValue4
 t22:=Tryz.underlying31
 a22:=Tryz.isAgg31
 z22:=Tryz.sizeOf31
 v22:=Tryz.zeroValue31
 t40:=Tryz.underlying245
 a40:=Tryz.isAgg245
 z40:=Tryz.sizeOf245
 v40:=Tryz.zeroValue245 }
open Go.RowKit Go.Lib in
theorem Tryz.slices_BinarySearch_int (b off n c:Nat) (zs:List Int) (x:Int) (w:World) (hz:n≤zs.length) (hbig:n < 4611686018427387904) (hc:∀ j,j < zs.length→w.cell? ⟨b,off+j,none⟩=some (.int .i64 (zs.getD j 0))) (hs:(zs.take n).Pairwise (·≤·)):
  Calls Tryz.prog 114 #[.slice (some ⟨b,off,none⟩) n c,.int .i64 x] w fun e w'=>e=.returned (.tuple #[.int .i64 ((zs.take n).countP (· < x):Nat),.bool ((zs.take n).contains x)])∧∃ q,w'=w.drewN q:=Any.slices_BinarySearch_int Tryz.laysNm225 b off n c zs x w hz hbig hc hs
open Go.RowKit Go.Lib Go.Sort in
open Go.RowKit Go.Sort in
theorem Tryz.slices_Sort_int_none (p:Option Addr) (cap:Nat) (w:World):
  Calls Tryz.prog 88 #[.slice p 0 cap] w fun e w'=>e=.returned (.tuple #[])∧w'=w:=Any.slices_Sort_int_none Tryz.lays189 p cap w
open Go.RowKit Go.Lib in
theorem Tryz.slices_BinarySearch_int_empty (a:Option Addr) (c:Nat) (x:Int) (w:World):
  Calls Tryz.prog 114 #[.slice a 0 c,.int .i64 x] w fun e w'=>e=.returned (.tuple #[.int .i64 0,.bool false])∧w'=w:=Any.slices_BinarySearch_int_empty Tryz.laysNm225 a c x w
def Tryz.wi:Go.Shelf.Ren:=⟨fun | 7=>211 | n=>n,fun | 22=>3 | 4=>4 | n=>n,fun | n=>n⟩
theorem Tryz.Bp:Go.Proofs.SlLaysC2.n7 Tryz.prog Tryz.wi:={
 mixed:=by kernel_rfl
 f7:=⟨Tryz.f211.name,by decide,Tryz.func211.trans (congrArg some (by kernel_rfl))⟩
 t4:=Tryz.underlying4
 a4:=Tryz.isAgg4
 z4:=Tryz.sizeOf4
 v4:=Tryz.zeroValue4
 t22:=Tryz.underlying3
 a22:=Tryz.isAgg3
 z22:=Tryz.sizeOf3
 v22:=Tryz.zeroValue3 }
open Go.Lib in
theorem Tryz.cmp_isNaN_int (x:Int) (w:World):
  Calls Tryz.prog 211 #[.int .i64 x] w fun e w'=>e=.returned (.bool false)∧w'=w:=AnyG.cmp_isNaN_int Tryz.Bp x w
def Tryz.wj:Go.Shelf.Ren:=⟨fun | 5=>118 | 7=>211 | n=>n,fun | 22=>3 | 3=>3 | 4=>4 | n=>n,fun | n=>n⟩
theorem Tryz.Bq:Go.Proofs.SlLaysC2.n5 Tryz.prog Tryz.wj:={
 mixed:=by kernel_rfl
 f5:=⟨Tryz.f118.name,by decide,Tryz.func118.trans (congrArg some (by kernel_rfl))⟩
 f7:=⟨Tryz.f211.name,by decide,Tryz.func211.trans (congrArg some (by kernel_rfl))⟩
 t3:=Tryz.underlying3
 a3:=Tryz.isAgg3
 z3:=Tryz.sizeOf3
 v3:=Tryz.zeroValue3
 t4:=Tryz.underlying4
 a4:=Tryz.isAgg4
 z4:=Tryz.sizeOf4
 v4:=Tryz.zeroValue4
 t22:=Tryz.underlying3
 a22:=Tryz.isAgg3
 z22:=Tryz.sizeOf3
 v22:=Tryz.zeroValue3 }
open Go.Lib in
theorem Tryz.cmp_Compare_int (x y:Int) (w:World):
  Calls Tryz.prog 118 #[.int .i64 x,.int .i64 y] w fun e w'=>e=.returned (.int .i64 (Lib.compareInt x y))∧w'=w:=AnyG.cmp_Compare_int Tryz.Bq x y w
open Go.RowKit Go.Lib Go.Sort in
def Tryz.DQ:Go.Shelf.Ren:=⟨fun | 6=>274 | 15=>174 | 14=>322 | 28=>271 | 29=>272 | 20=>355 | 21=>356 | 22=>357 | 23=>358 | 24=>359 | 25=>360 | 26=>361 | 27=>362 | 46=>374 | 47=>317 | 48=>318 | 49=>375 | 50=>376 | 57=>383 | n=>n,fun | 22=>249 | 24=>182 | 25=>248 | 3=>3 | 39=>245 | 0=>0 | 53=>313 | 55=>315 | 4=>4 | 46=>307 | 45=>306 | 50=>191 | 5=>5 | 9=>9 | 66=>349 | 70=>353 | 76=>382 | 77=>213 | n=>n,fun | n=>n⟩
theorem Tryz.sortSeat:Go.Proofs.SlLaysF0.n6 Tryz.prog Tryz.DQ:={
 mixed:=by kernel_rfl
 f6:=⟨Tryz.f274.name,by decide,Tryz.func274.trans (congrArg some (by kernel_rfl))⟩
 f14:=⟨Tryz.f322.name,by decide,Tryz.func322.trans (congrArg some (by kernel_rfl))⟩
 f15:=Tryz.func174.trans (congrArg some (by kernel_rfl))
 f20:=⟨Tryz.f355.name,by decide,Tryz.func355.trans (congrArg some (by kernel_rfl))⟩
 f21:=⟨Tryz.f356.name,by decide,Tryz.func356.trans (congrArg some (by kernel_rfl))⟩
 f22:=⟨Tryz.f357.name,by decide,Tryz.func357.trans (congrArg some (by kernel_rfl))⟩
 f23:=⟨Tryz.f358.name,by decide,Tryz.func358.trans (congrArg some (by kernel_rfl))⟩
 f24:=⟨Tryz.f359.name,by decide,Tryz.func359.trans (congrArg some (by kernel_rfl))⟩
 f25:=⟨Tryz.f360.name,by decide,Tryz.func360.trans (congrArg some (by kernel_rfl))⟩
 f26:=⟨Tryz.f361.name,by decide,Tryz.func361.trans (congrArg some (by kernel_rfl))⟩
 f27:=⟨Tryz.f362.name,by decide,Tryz.func362.trans (congrArg some (by kernel_rfl))⟩
 f28:=Tryz.func271.trans (congrArg some (by kernel_rfl))
 f29:=Tryz.func272.trans (congrArg some (by kernel_rfl))
 f46:=⟨Tryz.f374.name,by decide,Tryz.func374.trans (congrArg some (by kernel_rfl))⟩
 f47:=Tryz.func317.trans (congrArg some (by kernel_rfl))
 f48:=Tryz.func318.trans (congrArg some (by kernel_rfl))
 f49:=⟨Tryz.f375.name,by decide,Tryz.func375.trans (congrArg some (by kernel_rfl))⟩
 f50:=⟨Tryz.f376.name,by decide,Tryz.func376.trans (congrArg some (by kernel_rfl))⟩
 f57:=⟨Tryz.f383.name,by decide,Tryz.func383.trans (congrArg some (by kernel_rfl))⟩
 t0:=Tryz.underlying0
 a0:=Tryz.isAgg0
 z0:=Tryz.sizeOf0
 v0:=Tryz.zeroValue0
 t3:=Tryz.underlying3
 a3:=Tryz.isAgg3
 z3:=Tryz.sizeOf3
 v3:=Tryz.zeroValue3
 t4:=Tryz.underlying4
 a4:=Tryz.isAgg4
 z4:=Tryz.sizeOf4
 v4:=Tryz.zeroValue4
 t5:=Tryz.underlying5
 a5:=Tryz.isAgg5
 z5:=Tryz.sizeOf5
 v5:=Tryz.zeroValue5
 t9:=Tryz.underlying9
 a9:=Tryz.isAgg9
 z9:=Tryz.sizeOf9
 v9:=Tryz.zeroValue9
 t22:=Tryz.underlying249
 a22:=Tryz.isAgg249
 z22:=Tryz.sizeOf249
 v22:=Tryz.zeroValue249
 t25:=Tryz.underlying248
 a25:=Tryz.isAgg248
 z25:=Tryz.sizeOf248
 v25:=Tryz.zeroValue248
 t39:=Tryz.underlying245
 a39:=Tryz.isAgg245
 z39:=Tryz.sizeOf245
 v39:=Tryz.zeroValue245
 t45:=Tryz.underlying306
 a45:=Tryz.isAgg306
 z45:=Tryz.sizeOf306
 v45:=Tryz.zeroValue306
 t46:=Tryz.underlying307
 a46:=Tryz.isAgg307
 z46:=Tryz.sizeOf307
 v46:=Tryz.zeroValue307
 t50:=Tryz.underlying191
 a50:=Tryz.isAgg191
 z50:=Tryz.sizeOf191
 v50:=Tryz.zeroValue191
 t53:=Tryz.underlying313
 a53:=Tryz.isAgg313
 z53:=Tryz.sizeOf313
 v53:=Tryz.zeroValue313
 t55:=Tryz.underlying315
 a55:=Tryz.isAgg315
 z55:=Tryz.sizeOf315
 v55:=Tryz.zeroValue315
 t66:=Tryz.underlying349
 a66:=Tryz.isAgg349
 z66:=Tryz.sizeOf349
 v66:=Tryz.zeroValue349
 t70:=Tryz.underlying353
 a70:=Tryz.isAgg353
 z70:=Tryz.sizeOf353
 v70:=Tryz.zeroValue353
 t76:=Tryz.underlying382
 a76:=Tryz.isAgg382
 z76:=Tryz.sizeOf382
 v76:=Tryz.zeroValue382
 t77:=Tryz.underlying213
 a77:=Tryz.isAgg213
 z77:=Tryz.sizeOf213
 v77:=Tryz.zeroValue213 }
end Go.Proofs
namespace Go.Sg
open Go.Proofs Go.Proofs.Tryz Go.RowKit
theorem Lr {h:HF} {b:Option Addr} {xs:List Int} (hs:SlB Rp.int h b xs) (hne:xs≠[]):∃ g off,b=some ⟨g,off,none⟩∧∀ w,Pre h [] w→∀ j,j < xs.length→w.cell? ⟨g,off+j,none⟩=some (.int .i64 (xs.getD j 0)):=by
 obtain ⟨x0,r,rfl⟩:∃ x r,xs=x::r:=by cases xs with
  | nil=>exact (hne rfl).elim
  | cons x r=>exact ⟨x,r,rfl⟩
 obtain ⟨p,cs,rfl,hA,_,_⟩:=hs.2 0 x0 rfl
 have hsp:p.spot=none:=by
  obtain ⟨_,_,_,_,h2,_⟩:=hA
  simpa [Addr.add] using h2
 obtain ⟨g,off,sp⟩:=p
 simp only at hsp
 subst hsp
 refine ⟨g,off,rfl,fun w hp j hj=>?_⟩
 obtain ⟨p',cs',e,hA',hl,hr⟩:=hs.2 j ((x0::r)[j]) (by rw [List.getElem?_eq_getElem hj])
 cases e
 have hcs:cs'=[.int .i64 ((x0::r)[j])]:=hr
 subst hcs
 have hc:=hA'.cell (X:=⟨w,h,[]⟩) (L:=[]) (St.start hp) (j:=0) (v:=.int .i64 ((x0::r)[j])) rfl
 have ha:((⟨g,off,none⟩:Addr).add (j * Rp.int.sz)).add 0=⟨g,off+j,none⟩:=by
  have h1:j * Rp.int.sz=j:=Nat.mul_one j
  rw [h1]
  by_cases e0:j=0
  ·subst e0;simp [Addr.add]
  ·simp [Addr.add,e0]
 rw [ha] at hc
 rw [hc]
 simp [List.getD,List.getElem?_eq_getElem hj]
theorem lU (h:HF) (x:List Int) (Me:Option Addr) (LS:Nat) (target:Int) (hx:SlC Rp.int h Me LS x) (hs:x.Pairwise (·≤·)) (hsz:x.length≤2000000):
  Ret prog 114 [.slice Me x.length LS,.int .i64 target] h (.tuple #[.int .i64 (slices_BinarySearch_int x target).1,.bool (slices_BinarySearch_int x target).2]):=by
 intro w hp
 by_cases hne:x=[]
 ·subst hne
  refine (jU (Tryz.slices_BinarySearch_int_empty Me LS target w) (fun w' hw=>by cases hw.1)).mono ?_
  rintro e w' ⟨rfl,rfl⟩
  exact ⟨h,[],St.start hp,rfl,rfl,rfl⟩
 ·obtain ⟨g,off,rfl,hc⟩:=Lr hx.1 hne
  refine (jU (Tryz.slices_BinarySearch_int g off x.length LS x target w (Nat.le_refl _) (by omega) (hc w hp) (by simpa using hs)) (fun w' hw=>by cases hw.1)).mono ?_
  rintro e w' ⟨rfl,q,rfl⟩
  refine ⟨h,[],(St.start hp).drew _,?_,rfl,rfl⟩
  simp [bsI,slices_BinarySearch_int]
theorem lh (h:HF) (xs:List Int) (b:Option Addr) (c:Nat) (G:LH) (hG:em Rp.int 3 h xs b c G) (hsz:xs.length≤1000000000000):
  mP prog 88 [.slice b xs.length c].toArray h G (fun r h' G'=>h'=h∧r=.returned (.tuple #[])∧em Rp.int 3 h (sortI xs) b c G'):=by
 intro w hp
 rcases hG with ⟨rfl,rfl,rfl,rfl⟩ | ⟨bk,cl,sp,rfl,hcl,hlen,hcap,hmax,rfl⟩
 ·refine (jU (Tryz.slices_Sort_int_none none 0 w) (fun w' hw=>by cases hw.1)).mono ?_
  rintro e w' ⟨rfl,rfl⟩
  exact ⟨h,[],St.start hp,rfl,rfl,by rw [show sortI []=[] from by simp [sortI]];exact em.nil⟩
 ·have hb:=hp.own _ (List.mem_singleton.2 rfl)
  simp only at hb
  have hcl':cl=xs.map (Value.int .i64):=by
   clear hlen hb hp hcap hmax hsz
   induction xs generalizing cl with
   | nil=>exact hcl
   | cons y l ih=>
    obtain ⟨cs,r,rfl,_,hr,hl⟩:=hcl
    have:cs=[.int .i64 y]:=hr
    rw [this,ih r hl];rfl
  subst hcl'
  have hH:Sort.Holds (Value.int .i64) w bk 0 xs.toArray:=by
   refine holds_of_blockI (cur:=(xs.map (Value.int .i64)++sp).toArray) (e:=3) hb ?_
   simp
  refine (jU (Tryz.slices_Sort_int bk 0 c xs w hH (gQ hb) (by omega)) (fun w' hw=>by cases hw.1)).mono ?_
  rw [D6]
  rintro e w' ⟨rfl,n,os,rfl⟩
  obtain ⟨g1,g2,g3,g4,g5⟩:=grownBy_sortedI (w:=w) (g:=bk) (n:=n) (os:=os) (sortI xs).toArray
  have hnew:=heap_sortedI (w:=w) (g:=bk) (n:=n) (os:=os) (sortI xs).toArray hb
  have htake:=take_putCellsI (xs.map (Value.int .i64)++sp).toArray (sortI xs) (by rw [ir];simp)
  refine ⟨h,[(bk,.cells (Sort.putCells (Value.int .i64) 0 (sortI xs).toArray (xs.map (Value.int .i64)++sp).toArray) 3 (0,0))],⟨g1,g2,g3,g4,fun k hk hM=>g5 k hk (fun e=>hM (by cases e;simp)),fun _ _ e=>e,fun _ _=>rfl,fun k o e=>?_,fun q hq=>?_,?_,?_,?_⟩,rfl,rfl,?_⟩
  ·have hne:k≠bk:=fun e'=>by
    have:=hp.free _ (List.mem_singleton.2 rfl)
    simp only at this
    rw [e',this] at e;cases e
   exact (g5 k (gQ (hp.imm k o e)) (fun e'=>by cases e';exact hne rfl)).trans (hp.imm k o e)
  ·rw [List.mem_singleton.1 hq];exact hnew
  ·simp
  ·intro q hq;rw [List.mem_singleton.1 hq];exact hp.free (bk,Obj.cells (xs.map (Value.int .i64)++sp).toArray 3 (0,0)) (List.mem_singleton.2 rfl)
  ·intro q hq;rw [List.mem_singleton.1 hq];exact .inr (by simp)
  ·refine .inr ⟨bk,(sortI xs).map (Value.int .i64),(Sort.putCells (Value.int .i64) 0 (sortI xs).toArray (xs.map (Value.int .i64)++sp).toArray).toList.drop xs.length,rfl,?_,?_,by rw [ir];exact hcap,by rw [ir];exact hmax,?_⟩
   ·have:∀ l:List Int,bu Rp.int h (l.map (Value.int .i64)) l:=by
     intro l
     induction l with
     | nil=>rfl
     | cons y l ih=>exact ⟨[.int .i64 y],l.map (Value.int .i64),rfl,rfl,rfl,ih⟩
    exact this _
   ·rw [← htake,ir,List.take_append_drop]
    simpa [Sort.putCells] using hlen
   ·rw [← htake,ir,List.take_append_drop]
section steps
variable {P:Program} {b:Frame} {n:Nat} {ops:Array Oper} {F:List Frame→(Machine→Prop)→Prop} {e:Env} {ds:List Deferred} {X:Cx} {h:HF} {L:LH} {K:Env→HF→LH→Prop}
variable {d:Option Nat} {ty:TypeId} {pos:String} {af:Array Edge} {g:Option (Nat×Bool)}
theorem lV (A0 G Q:LH) {v:Value} {Φ : LH→Prop} {f:FuncId} {ass:Array Operand} {ats:Array TypeId} {vs:List Value}
  (hc:∀ args w,(callFunc f args).run P w=.ok (.enter f args) w) (hs:mP P f vs.toArray h G (fun r h' G'=>h'=h∧r=.returned v∧Φ G')) (hL:L=A0++(G++Q)) (hvs:ass.toList.map e.ev=vs)
  (t':∀ G',Φ G'→K (pute e d v) h (A0++(G'++Q)))
  (hg:guardB ops e ⟨d,.call ⟨.value (.func f),ass,ats⟩,ty,pos,af,g⟩=true:=by rfl):
  Stp P b n ops F ds X ⟨d,.call ⟨.value (.func f),ass,ats⟩,ty,pos,af,g⟩ e h L K:=by
 unfold Stp
 rw [if_pos hg]
 intro w hw
 subst hL
 have hp:∀ G:LH,(A0++(G++Q)).Perm (G++(A0++Q)):=fun G=>by
  rw [← List.append_assoc,← List.append_assoc];exact List.Perm.append_right Q List.perm_append_comm
 have hw':=hw.perm (hp G)
 have harr:ass.map e.ev=vs.toArray:=Array.ext' (by simp [← hvs])
 have hr:(execOp e.ev ⟨d,.call ⟨.value (.func f),ass,ats⟩,ty,pos,af,g⟩).run P w=.ok (.enter f vs.toArray) w:=by
  simp [execOp,resolve,Env.ev,Deferred.ofValue,invoke,harr,hc]
 rw [hr]
 refine kD (by simp) (jD (o9.mono (hs w hw'.pre.left) ?_))
 rintro x w' ⟨h',B,hst,rfl,rfl,hG⟩
 exact ⟨h',_,(St.after (A:=G) (F:=A0++Q) hw' hst).perm (hp B).symm,t' B hG⟩
end steps
end Go.Sg
namespace Go.Sg
open Go.Proofs Go.Proofs.Tryz
set_option maxHeartbeats 2000000
theorem oN (h:HF) (s:List Approval) (pL:Option Addr) (pK:Nat) (f:(Approval→Bool)) (f_v:Value) (hs:SlC Approval.rp h pL pK s) (hf:∀ (h':HF) (dB:Approval),HF.le h h'→rH prog f_v [.agg (Approval.cells dB).toArray] h' [] (.bool (f dB))):Ret prog 197 [.slice pL s.length pK,f_v] h (I (cy s f)):=by
 refine sT func197 U ntmps197 U fun X hM hX hF=>?_
 have hs0:cy s f=cy s f:=rfl
 refine qK 11 [] U ?_
 refine lp0 s (fun i=>[(0,.slice pL s.length pK),(1,f_v),(7,I (s.length:Int)),(8,I (i:Int))]) ([]) (fun s1 i=>(cy.L1 f (cy.K1)) s1 i) hs.1.1 hs0 ?_ ?_
 ·rintro i1 fA hs1 e
  exact sr (an (nretP [I (-1)] (ci hs1)))
 rintro i1 y1 rz1 hd1 dx aL eH hO hs3 hx1 ag1 e
 refine sr (aw (v':=.bool true) U (cb dx) (qO 16 U (aF (fj (enc:=Approval.cells) ei tI ty81 hs.1 (nthZ aL) (ba aL) U U U (fun q2 A2=>dz ty81 A2 U U (aF (kH (v:=.bool (f y1)) [] (List.nil_sublist _) (hf h y1 lf) U U (aD (ai hs3 U (fun c2 hs4=>?_) (fun c2 hs5=>?_))))))))))
 ·exact sr (qO 3 U (nretP [I (i1:Int)] (ci hs4)))
 exact aJ (qT 2 U (aw (v':=I (((i1+1):Nat):Int)) U (bw ob) (qO 2 U (ag1 hs5))))
theorem ol (x:Approval):(Approval.cells x).length=8:=rfl
theorem vH (f:Approval→Bool):∀ (l:List Approval) (i:Nat),(cy.L1 f cy.K1 l i=-1∧∀ x∈l,f x=false) ∨
  ∃ a y b,l=a++y::b∧cy.L1 f cy.K1 l i=((i+a.length:Nat):Int)∧f y=true∧∀ x∈a,f x=false
 | [],i=>.inl ⟨rfl,fun _ h=>(List.not_mem_nil h).elim⟩
 | y::l,i=>by
  simp only [cy.L1]
  cases hy:f y with
  | true=>exact .inr ⟨[],y,l,rfl,by simp,hy,fun _ h=>(List.not_mem_nil h).elim⟩
  | false=>
   rcases vH f l (i+1) with ⟨h1,h2⟩ | ⟨a,z,b,rfl,h2,h3,h4⟩
   ·exact .inl ⟨h1,fun x hx=>by rcases List.mem_cons.1 hx with rfl | hx;exact hy;exact h2 x hx⟩
   refine .inr ⟨y::a,z,b,rfl,?_,h3,fun x hx=>by rcases List.mem_cons.1 hx with rfl | hx;exact hy;exact h4 x hx⟩
   rw [cond_false,h2];simp only [List.length_cons];congr 1;omega
theorem xN {q:Approval→Bool} {l:List Approval} (h:∀ x∈l,q x=false):(l.filter fun x=>!(q x))=l:=by
 rw [List.filter_eq_self];intro x hx;simp [h x hx]
theorem IP {q:Approval→Bool} {s zs:List Approval} {i j:Nat} {y:Approval} (hij:i < j) (hz:zs.length=s.length) (hj:s[j]? = some y) (ht:zs.take i=(s.take j).filter fun x=>!(q x)) (hd:zs.drop j=s.drop j) (hy:q y=false):
  (zs.set i y).take (i+1)=((s.take (j+1)).filter fun x=>!(q x))∧(zs.set i y).drop (j+1)=s.drop (j+1):=by
 have hjl:j < s.length:=by
  rcases Nat.lt_or_ge j s.length with h | h
  ·exact h
  simp [List.getElem?_eq_none h] at hj
 constructor
 ·rw [List.take_add_one,List.take_set_of_le (Nat.le_refl _),ht,List.take_add_one,hj,List.filter_append]
  simp [hy,show i < zs.length from by omega]
 rw [List.drop_set_of_lt ob,← List.drop_drop,hd,List.drop_drop]
theorem Iq_ {q:Approval→Bool} {s zs:List Approval} {i j:Nat} {y:Approval} (hj:s[j]? = some y) (ht:zs.take i=(s.take j).filter fun x=>!(q x)) (hd:zs.drop j=s.drop j) (hy:q y=true):
  zs.take i=((s.take (j+1)).filter fun x=>!(q x))∧zs.drop (j+1)=s.drop (j+1):=by
 constructor
 ·rw [List.take_add_one,hj,List.filter_append,ht];simp [hy]
 rw [← List.drop_drop,hd,List.drop_drop]
theorem xO {h:HF} {xs:List Approval} {bk c:Nat} {sp:List Value} (h3:(xs.flatMap Approval.cells++sp).length=c * 8) (h4:xs.length≤c) (h5:xs.length≤9223372036854775807):em Approval.rp 81 h xs (some ⟨bk,0,none⟩) c [(bk,.cells (xs.flatMap Approval.cells++sp).toArray 81 (0,0))]:=
 .inr ⟨bk,_,sp,rfl,BS (fun _ _=>rfl) ol h xs,h3,h4,h5,rfl⟩
theorem ot (h:HF) (s:List Approval) (b:Option Addr) (c:Nat) (G:LH) (del:Approval→Bool) (del_v:Value) (hG:em Approval.rp 81 h s b c G)
  (hdel:∀ (h':HF) (dB:Approval),HF.le h h'→rH prog del_v [.agg (Approval.cells dB).toArray] h' [] (.bool (del dB))) (hsz:s.length≤2000000):
  mP prog 104 [.slice b s.length c,del_v].toArray h G (fun r h' G'=>h'=h∧r=.returned (.slice b (fh s del).length c)∧em Approval.rp 81 h (fh s del) b c G'):=by
 refine cz func104 U ntmps104 U fun X hM hX=>qT 8 U (aF (EU [] G [] call197 Approval.ao hG (by simp) (fun h1 hle hsl=>oN h1 s b c del del_v hsl (fun h' a hl=>hdel h' a (hle.t hl))) U (qO 6 U ?_)))
 have hcase:=vH del s 0
 rw [show cy.L1 del cy.K1 s 0=cy s del from rfl] at hcase
 rcases hcase with ⟨h1,h2⟩ | ⟨a,y,r,hs,h1,hy,ha⟩
 ·rw [h1]
  refine aw (v':=.bool true) U U (qO 7 U ?_)
  have hf:fh s del=s:=xN h2
  refine nY func104 (fun a ha w hw=>res1 U a ha w) (fun w hw=>hw.lower) ⟨hX,?_,?_⟩
  ·rw [hf];rfl
  rw [hf];exact hG
 rw [h1,Nat.zero_add]
 have hne:((a.length:Int)==-1)=false:=by simp
 have hsl:s.length=a.length+(r.length+1):=by rw [hs];simp
 refine aw (v':=.bool false) U (cb hne) (qO 7 U (aw (v':=I ((a.length+1:Nat):Int)) U (bw ob) (an ?_)))
 refine jx (ι:=Nat×List Approval×LH) (fun i=>[(0,.slice b s.length c),(1,del_v),(5,I (i.1:Int))]) (fun i=>h) (fun i=>i.2.2)
  (fun i=>i.1 < s.length∧i.2.1.length=s.length∧i.2.1.take i.1=fh s del∧em Approval.rp 81 h i.2.1 b c i.2.2) ?_ (fun hx=>?_)
 ·rintro ⟨i,zs,G'⟩ ⟨hi,hz,hf,hG'⟩ e
  dsimp only at hi hz hf hG'
  rcases hG' with ⟨rfl,_⟩ | ⟨bk,cl,sp,rfl,hcl,h3,h4,h5,rfl⟩
  ·simp at hz;omega
  have hcl':=wy (C:=Approval.cells) (fun _ _ _ e=>e) hcl
  subst hcl'
  have hcz:zs.length≤c:=h4
  have hzl:=qh ol zs
  have h3':zs.length * 8+sp.length=c * 8:=by rw [← hzl,← List.length_append];exact h3
  have hzn:(i:Int).toNat=i:=by omega
  have hgf:em Approval.rp 81 h zs (some ⟨bk,0,none⟩) c [(bk,.cells (zs.flatMap Approval.cells++sp).toArray 81 (0,0))]:=xO h3 h4 h5
  obtain ⟨m,hm⟩:∃ m,s.length - i=m+1:=⟨s.length - i - 1,by omega⟩
  refine qT 4 U (aF (fg (v:=.slice (some ⟨bk,i * 8,none⟩) (m+1) (c - i)) (Gs tI ty81 U U ob ob hm) (aF (Ik (P:=prog) 0 (sz:=8) (zs:=[I 0,I 0,I 0,I 0,I 0,I 0,I 0,.bool false]) (bk:=bk) (cl:=zs.flatMap Approval.cells++sp) (cc:=c - i) tI (eG zv81) U U (by decide) (by decide) U U (off:=i * 8) (m:=m) (by rw [List.length_append,hzl];omega) (fun vs hvl=>?_)))))
  have hsp:∃ sp',splice (zs.flatMap Approval.cells++sp) (i * 8) vs=(zs.take i).flatMap Approval.cells++sp':=by
   have e1:zs.flatMap Approval.cells++sp=(zs.take i).flatMap Approval.cells++((zs.drop i).flatMap Approval.cells++sp):=by
    rw [← List.append_assoc,← List.flatMap_append,List.take_append_drop]
   rw [e1]
   have e2:i * 8=((zs.take i).flatMap Approval.cells).length:=by rw [qh ol,List.length_take];congr 1;omega
   have:=uJ vs ((zs.take i).flatMap Approval.cells) ((zs.drop i).flatMap Approval.cells++sp) (by rw [List.length_append,qh ol,List.length_drop,hvl];omega)
   rw [← e2] at this
   exact ⟨_,this⟩
  obtain ⟨sp',hsp⟩:=hsp
  have hlen:((zs.take i).flatMap Approval.cells++sp').length=c * 8:=by
   rw [← hsp,CB];exact h3
  show TO _ _ _ _ _ _ _ _ _ _ h [(bk,.cells (splice (zs.flatMap Approval.cells++sp) (i * 8) vs).toArray 81 (0,0))]
  rw [hsp]
  have hg2:em Approval.rp 81 h (zs.take i) (some ⟨bk,0,none⟩) c [(bk,.cells ((zs.take i).flatMap Approval.cells++sp').toArray 81 (0,0))]:=
   xO hlen (by rw [List.length_take];omega) (by rw [List.length_take];omega)
  refine qO 5 U (aF (JL (z:=(i:Int)) tI ty81 hgf ob (by show _=Value.slice _ _ _;rw [hz];rfl) U U (an ?_)))
  refine nY func104 (fun a ha w hw=>res1 U a ha w) (fun w hw=>hw.lower) ⟨hX,?_,?_⟩
  ·rw [← hf,hzn];rfl
  rw [← hf];exact hg2
 refine ku (ι:=Nat×Nat×List Approval×LH) (fun i=>[(0,.slice b s.length c),(1,del_v),(5,I (i.1:Int)),(6,I (i.2.1:Int))]) (fun i=>h) (fun i=>i.2.2.2)
  (fun i=>i.1 < i.2.1∧i.2.1≤s.length∧i.2.2.1.length=s.length∧i.2.2.1.take i.1=((s.take i.2.1).filter fun x=>!(del x))∧i.2.2.1.drop i.2.1=s.drop i.2.1∧em Approval.rp 81 h i.2.2.1 b c i.2.2.2)
  (fun i=>s.length - i.2.1) (a.length,a.length+1,s,G) rd (fun w hw=>hw) ⟨Nat.lt_succ_self _,by show a.length+1≤s.length;omega,rfl,?_,rfl,hG⟩ ?_
 ·show s.take a.length=((s.take (a.length+1)).filter fun x=>!(del x))
  rw [hs,List.take_left' rfl,List.take_add_one,List.take_left' rfl,List.filter_append,xN ha];simp [hy]
 rintro ⟨i,j,zs,G'⟩ ⟨hij,hjl,hz,ht,hd,hG'⟩ ag e
 dsimp only at hij hjl hz ht hd hG'
 rcases Nat.lt_or_ge j s.length with hj | hj
 ·have hjs:s[j]? = some s[j]:=List.getElem?_eq_getElem hj
  have hjz:zs[j]? = some s[j]:=by
   have e1:(zs.drop j)[0]? = (s.drop j)[0]?:=by rw [hd]
   simpa [hjs] using e1
  have hiz:zs[i]? = some zs[i]:=List.getElem?_eq_getElem ob
  rcases hG' with ⟨rfl,_⟩ | ⟨bk,cl,sp,rfl,hcl,h3,h4,h5,rfl⟩
  ·simp at hz;omega
  have hcl':=wy (C:=Approval.cells) (fun _ _ _ e=>e) hcl
  subst hcl'
  refine qK 6 [] U (aw (v':=.bool true) U (cb (decide_eq_true ob)) (qO 9 U (aF (fg (oO (R:=Approval.rp) (xs:=zs) (z:=(j:Int)) tI ty81 U ob U hz.symm U) (aF (fg (je (off:=j * 8) (cs:=Approval.cells s[j]) ty81 U (List.mem_singleton.2 U) (KI ol hjz)) (aV zc81 (fun b7=>aS 0 ty81 U U U U U U (qO 4 U (cW 0 ty81 U U U (aF (kH (v:=.bool (del s[j])) [] (List.nil_sublist _) (hdel h s[j] lf) U U ?_))))))))))))
  cases hy:del s[j] with
  | true=>
   obtain ⟨k1,k2⟩:=Iq_ hjs ht hd hy
   exact kz U (qO 6 U (aw (v':=I ((j+1:Nat):Int)) U (bw ob) (an (bB (L':=[(bk,.cells (zs.flatMap Approval.cells++sp).toArray 81 (0,0))]) js (ag (i,j+1,zs,[(bk,.cells (zs.flatMap Approval.cells++sp).toArray 81 (0,0))]) _ (by show s.length - (j+1) < s.length - j;omega) ⟨by show i < j+1;omega,hj,hz,k1,k2,xO h3 h4 h5⟩ rd)))))
  | false=>
   obtain ⟨k1,k2⟩:=IP hij hz hjs ht hd hy
   refine qO 7 U (cW 0 ty81 U U U (aF (fg (oO (R:=Approval.rp) (xs:=zs) (z:=(i:Int)) tI ty81 U ob U hz.symm U) (aF (jX 1 (off:=i * 8) (vs:=Approval.cells s[j]) ty81 U U U U (by rw [List.length_append,qh ol,ol];exact Nat.ble_eq_true_of_le ob) U ?_)))))
   have hsl2:setNth [(b7,O (Approval.cells s[j]) 81),(bk,.cells (zs.flatMap Approval.cells++sp).toArray 81 (0,0))] 1 (bk,.cells (splice (zs.flatMap Approval.cells++sp) (i * 8) (Approval.cells s[j])).toArray 81 (0,0))=[(b7,O (Approval.cells s[j]) 81),(bk,.cells ((zs.set i s[j]).flatMap Approval.cells++sp).toArray 81 (0,0))]:=by
    rw [EL ol hiz];rfl
   refine iw hsl2 (qO 3 U (aw (v':=I ((i+1:Nat):Int)) U (bw ob) (qO 5 U (aw (v':=I ((j+1:Nat):Int)) U (bw ob) (an (bB (L':=[(bk,.cells ((zs.set i s[j]).flatMap Approval.cells++sp).toArray 81 (0,0))]) js ?_))))))
   have hzl2:(zs.set i s[j]).length=s.length:=by rw [List.length_set];exact hz
   exact ag (i+1,j+1,zs.set i s[j],[(bk,.cells ((zs.set i s[j]).flatMap Approval.cells++sp).toArray 81 (0,0))]) _ (by show s.length - (j+1) < s.length - j;omega) ⟨by show i+1 < j+1;omega,hj,hzl2,k1,k2,xO (by rw [List.length_append,qh ol,List.length_set,← qh ol,← List.length_append];exact h3) (by rw [List.length_set];exact h4) (by rw [List.length_set];exact h5)⟩ rd
 have hje:j=s.length:=by omega
 subst hje
 exact qK 6 [] U (aw (v':=.bool false) U (cb (decide_eq_false ob)) (qO 3 U (hx (i,zs,G') _ ⟨hij,hz,by show zs.take i=_;rw [ht,List.take_length];rfl,hG'⟩ rd)))
theorem rZ (h:HF) (v0:List Approval) (ri:Option Addr) (rh:Nat) (v0_q:Addr) (v1:Int) (v1_q:Addr) (v2:Int) (v2_q:Addr) (v3:Int) (v3_q:Addr) (hv0:SlC Approval.rp h ri rh v0) (av0:At h v0_q [.slice ri v0.length rh]) (av1:At h v1_q [I v1]) (av2:At h v2_q [I v2]) (av3:At h v3_q [I v3]):Itr prog (.func (.func 288) #[] (List.toArray [.pointer (some v0_q),.pointer (some v1_q),.pointer (some v2_q),.pointer (some v3_q)])) nv (bP v0 v1 v2 v3) h:=by
 refine pU call288 ?_
 intro yf ya yb C Sp Pn h1 A hle m1 m2 m3 hC hy
 refine iV Je U ntmps288 U fun X hXM hX=>?_
 have hs0:bP v0 v1 v2 v3=[]++bP v0 v1 v2 v3:=rfl
 refine sr (dF ty28 (av0.mono hle) U (qL 3 [] U ?_))
 refine lp2 v0 (fun i w=>[(0,.func yf ya yb),(2,.pointer (some v1_q)),(3,.pointer (some v2_q)),(4,.pointer (some v3_q)),(8,.slice ri v0.length rh),(9,I (v0.length:Int)),(10,I (i:Int))]) (fun w=>w.2.2) (fun w=>w.2.1) (fun i w=>C w.1 w.2.2 w.2.1∧HF.le h1 w.2.2) (fun s1 i w=>w.1++(bP.L1 v1 v2 v3 (bP.K1)) s1) ([],A,h1) ((hv0.mono Approval.ao hle).1.1) hs0 ⟨hC,lf⟩ ?_ ?_
 ·rintro i1 ⟨dn1,A1_,hh1⟩ fA hs1 ⟨hC1_,hl1⟩ e
  refine dY ?_
  have hs2:bP v0 v1 v2 v3=dn1:=hs1.trans (List.append_nil _)
  exact pV [] (A:=A1_) Je U (List.Sublist.refl _) (.inl (hs2 ▸ hC1_))
 rintro i1 ⟨dn1,A1_,hh1⟩ y1 rz1 hd1 dx aL eH hO hs3 ⟨hC1_,hl1⟩ hx1 ag1 e
 refine sr (aw (v':=.bool true) U (cb dx) (qO 8 U (aF (fj (enc:=Approval.cells) ei tI ty81 (hv0.mono Approval.ao (hle.t hl1)).1 (nthZ aL) (ba aL) U U U (fun q2 A2=>dz ty81 A2 U U (aV zc81 (fun b2=>aS 0 ty81 U U U U U U (iw (L':=[(b2,O (Approval.cells y1) 81)]++(A1_)) U (qL 5 [0] U (dF ty3 (av1.mono (hle.t hl1)) U (qO 2 U (bC 5 [18,19,20,21,22,23] 18 23 (decide (y1.At≤v2)) U (fun c1 hk1=>?_) (fun e=>?_)))))))))))))
 ·exact qL 2 [0] U (dF ty3 (av2.mono (hle.t hl1)) U (qO 2 U (hk1 _ U)))
 refine aj (bC 5 [24,25,26,27,28,29] 24 29 (decide (y1.Known≤v3)) U (fun c2 hk2=>?_) (fun e=>?_))
 ·exact qL 2 [0] U (dF ty3 (av3.mono (hle.t hl1)) U (qO 2 U (hk2 _ U)))
 refine aj (rJ 30 U (fun c3=>?_) (fun c3=>?_))
 ·have hs4:=hs3.trans (congrArg (dn1++·) (bt c3))
  refine aj (cW 0 ty81 U U U ?_)
  have hx1:bP v0 v1 v2 v3=dn1++(y1::(bP.L1 v1 v2 v3 (bP.K1) rz1)):=hs4
  refine aF (jW ([(b2,O (Approval.cells y1) 81)]) A1_ ap (hy dn1 y1 _ _ _ _ hx1 hl1 hC1_ U) U U (fun h2 A3 hle1 hC1=>?_) (fun h3 A4 hle2 hS1=>?_) (fun ch1 h4 A5 hle3 hP1 e=>gp (lG [] (A:=A5) Je (List.sublist_append_right _ _) hP1)))
  ·have hs5:bP v0 v1 v2 v3=(dn1++[y1])++((bP.L1 v1 v2 v3 (bP.K1) rz1)):=hx1.trans ap
   exact kz U (qO 6 U (aw (v':=I (((i1+1):Nat):Int)) U (bw ob) (qO 2 U (bB (L':=A3) js (ag1 ((dn1++[y1]),A3,h2) hs5 ⟨hC1,(hl1.t hle1)⟩)))))
  exact kz U (qO 3 U (dY (lq [] (A:=A4) Je U js (.inr hS1))))
 have hs6:=hs3.trans (congrArg (dn1++·) (bf c3))
 exact kq (qO 8 U (aw (v':=I (((i1+1):Nat):Int)) U (bw ob) (qO 2 U (bB (L':=A1_) js (ag1 (dn1,A1_,hh1) hs6 ⟨hC1_,hl1⟩)))))
theorem nW (h:HF) (l:List Approval) (e8:Option Addr) (eZ:Nat) (doc:Int) (cv:Int) (known:Int) (hl:SlC Approval.rp h e8 eZ l):jN prog 198 [.slice e8 l.length eZ,I doc,I cv,I known] h (fun v h'=>∃ (rv0:Value),v=rv0∧Itr prog rv0 nv (eJ l doc cv known) h'):=by
 refine sT func198 U ntmps198 U fun X hM hX hF=>?_
 have hs0:eJ l doc cv known=eJ l doc cv known:=rfl
 refine sr (cA (fun b1=>cA (fun b2=>cA (fun b3=>cA (fun b4=>qO 4 U (aT 3 U hM (fun h1 hle1 hb1=>aT 2 U hM (fun h2 hle2 hb2=>aT 1 U hM (fun h3 hle3 hb3=>aT 0 U hM (fun h4 hle4 hb4=>aF (et U U (an ?_))))))))))))
 have hs1:eJ l doc cv known=(bP l doc cv known):=hs0
 exact nretH [.func (.func 288) #[] #[Q b1,Q b2,Q b3,Q b4]] ⟨(.func (.func 288) #[] #[Q b1,Q b2,Q b3,Q b4]),congrArg (fun r:List Approval=>((.func (.func 288) #[] #[Q b1,Q b2,Q b3,Q b4]):Value)) hs1.symm,(by rw [hs1];exact (rZ h4 l e8 eZ ⟨b1,0,none⟩ doc ⟨b2,0,none⟩ cv ⟨b3,0,none⟩ known ⟨b4,0,none⟩ (hl.mono Approval.ao (((hle1.t hle2).t hle3).t hle4)) ((ct hb1).mono ((hle2.t hle3).t hle4)) ((ct hb2).mono (hle3.t hle4)) ((ct hb3).mono hle4) (ct hb4)))⟩
theorem nI (l:List Approval) (doc cv known:Int):(eJ l doc cv known).length≤l.length:=by
 show (bP.L1 doc cv known bP.K1 l).length≤l.length
 induction l with
 | nil=>exact Nat.le_refl _
 | cons y l ih=>simp only [bP.L1,Bool.cond_eq_ite];split <;> simp only [List.length_cons] <;> omega
theorem iG (h:HF) (x:Approval)  : Ret prog 199 [.agg (Approval.cells x).toArray] h (.agg (eO.cells (bW x)).toArray):=by
 refine cz func199 U ntmps199 U fun X hM hX=>?_
 have hs0:bW x=bW x:=rfl
 refine sr (cA (fun b1=>aV zc274 (fun b2=>qL 11 [1,1,1,1] U (aF (fw (cells:=[I x.Doc,I x.By,I x.For,I x.Office]) (places:=[(0,1),(1,1),(2,1),(3,1)]) Jo zc274 kr kr (aS 0 ty274 U U U U U U (aD ?_)))))))
 have hs1:bW x=(eO.mk x.Doc x.By x.For x.Office):=hs0
 exact qv [.agg (List.toArray [I x.Doc,I x.By,I x.For,I x.Office])] func199 U hX ⟨⟨0,_,_,_,_,U,U,.inl ⟨ty274,U⟩⟩,trivial⟩ (congrArg (fun r:eO=>(.agg (eO.cells r).toArray:Value)) hs1.symm)
theorem tx (h:HF) (l:List Approval) (e8:Option Addr) (eZ:Nat) (doc:Int) (cv:Int) (known:Int) (hl:SlC Approval.rp h e8 eZ l) (hsz:l.length≤2000000):MY prog 105 [.slice e8 l.length eZ,I doc,I cv,I known] h Approval.rp 81 (aI l doc cv known):=by
 refine cz Jd U ntmps105 U fun X hM hX=>?_
 have hs0:aI l doc cv known=aI l doc cv known:=rfl
 refine sr (aV zc28 (fun b1=>qO 3 U (aF (mr (fun b2=>aV zc270 (fun b3=>cJ 0 ty270 U U U U U U (qO 8 U (aF (cY call198 (nW _ _ _ _ doc cv known hl) U (fun v1 h1 hle1 hp1=>?_))))))))))
 obtain ⟨_,rfl,mo1⟩:=hp1
 refine qO 2 U (dY ?_)
 let z1:Nat×Obj:=(b3,O [.map (some b2)] 270)
 let z2:Nat×Obj:=(b1,O [.slice none 0 0] 28)
 refine cu (L':=([z1,(b2,.map #[] 0),z2])++markB []) ap ?_
 refine jw (it:=v1) (xs:=(eJ l doc cv known)) (ι:=(List (eO×Approval))×Obj×HF) [] (fun i=>i.2.2) (fun i=>[z1,(b2,i.2.1),z2]) (fun s i=>aI l doc cv known=((aI.L1 (aI.K1 l doc cv known)) s i.1)∧iL eO.enc (iH Approval.rp) i.2.2 i.2.1 i.1∧HF.le h1 i.2.2) (fun _=>False) (fun _=>False) 0 (fun _ _ _=>False) ([],.map #[] 0,h1) Jd U mo1 U n9 (fun _ _ _ _ _ hq=>hq) U (show [z1,(b2,.map #[] 0),z2]=_ from U) ⟨hs0,((iL.nil (enc:=eO.enc) (V:=(iH Approval.rp)) (h:=h)).mono (iH.mono Approval.ao) hle1),lf⟩ ?_ ?_ ?_ ?_ ?_
 ·rintro l1 dm1 lp1 y1 rz1 vs1 ⟨bS,dR,hh1⟩ hr1 X hFR1 ⟨hs1,gd,hl1⟩ hl01 hlr1 hv1 hX hXM hlp1 nx1 rt1 ex1 pn1
  obtain rfl:=hv1
  let z6:Nat×Obj:=(dm1,.deferred (some []))
  refine cu (L':=[(l1,.loop lp1),z6,z1,(b2,dR),z2]++(markB [])) ap (ay (aV zc81 (fun b6=>aS 0 ty81 U U U U U U (aD (jh 1 U hlp1 (qT 2 U ?_))))))
  let z3:Nat×Obj:=(l1,.loop { lp1 with state:=.busy })
  let z7:Nat×Obj:=(b6,O (Approval.cells y1) 81)
  refine eQ ([z7,z3,z6,z1,(b2,dR),z2]) mixed kr jn (fun dH _=>?_)
  refine tf 0 U U (fun _ _ hj=>fH ty270 U (hj.nth (i:=3) U) U) (tf 1 U U (fun _ _ hj=>je ty81 U (hj.nth (i:=0) U) U) ?_)
  refine mT 2 7 kr U U ?_ ?_ 
  ·refine eP EB (iG hr1 y1) U (⟨jn,?_⟩)
   refine mT 3 7 kr U U ?_ ?_ 
   ·refine kh 4 (k:=(bW y1)) C0 kE U (gd.mono (iH.mono Approval.ao) hlr1) (eG zv81) (show (iH Approval.rp) _ (.agg (List.toArray [I 0,I 0,I 0,I 0,I 0,I 0,I 0,.bool false])) (Approval.mk 0 0 0 0 0 0 0 false) from ⟨_,U,U⟩) U U (fun v3 hv2=>?_)
    obtain ⟨_,rfl,rfl⟩:=hv2
    refine ⟨jn,qR 4 3 U (tn 7 U (su zc81 (fun b7=>⟨jn,tn 8 U (nj 0 ty81 U U U U U U (⟨jn,qA [9] U (aW kr (qT 5 U (bY 6 [30,31,32,33,34,35,36] 30 36 (decide ((mgetD bS (bW y1) (Approval.mk 0 0 0 0 0 0 0 false)).At≤y1.At)) U (fun c1 hk1=>?_) (fun e=>?_))))⟩))⟩)))⟩
    ·exact qL 6 [1,0] U (hk1 _ U)
    refine aD (ai hs1 U (fun c2 hs2=>?_) (fun c2 hs3=>?_))
    ·let z11:Nat×Obj:=(b7,O (Approval.cells (mgetD bS (bW y1) (Approval.mk 0 0 0 0 0 0 0 false))) 81)
     refine eQ ([z11,z7,z3,z6,z1,z2]) mixed kr jn (fun lA _=>?_)
     exact tf 0 U U (fun _ _ hj=>fH ty270 U (hj.nth (i:=4) U) U) (tf 1 U U (fun _ _ hj=>je ty81 U (hj.nth (i:=1) U) U) (tf 3 U U (fun _ _ hj=>je ty81 U (hj.nth (i:=1) U) U) (tn 2 U (eP EB (iG hr1 y1) U (⟨jn,tn 4 U (jJ 5 (k:=(bW y1)) (x:=y1) C0 kE U (gd.mono (iH.mono Approval.ao) hlr1) U U ⟨_,U,U⟩ (fun mo2 hm1=>⟨jn,aW kr (da (bB (L':=[z3,z6,z1,(b2,mo2),z2]++(markB [])) js (cu (L':=rdH l1 dm1 lp1 (([z1,(b2,mo2),z2])++markB [])) ap (nx1 ((mput bS (bW y1) y1),mo2,hr1) _ _ ⟨hs2,hm1,(hl1.t hlr1)⟩ lf))))⟩))⟩)))))
    exact aJ (da (bB (L':=[z3,z6,z1,(b2,dR),z2]++(markB [])) js (cu (L':=rdH l1 dm1 lp1 (([z1,(b2,dR),z2])++markB [])) ap (nx1 (bS,dR,hr1) _ _ ⟨hs3,(gd.mono (iH.mono Approval.ao) hlr1),(hl1.t hlr1)⟩ lf))))
   refine su zc81 (fun b8=>⟨jn,tn 3 U (kh 5 (k:=(bW y1)) C0 kE U (gd.mono (iH.mono Approval.ao) hlr1) (eG zv81) (show (iH Approval.rp) _ (.agg (List.toArray [I 0,I 0,I 0,I 0,I 0,I 0,I 0,.bool false])) (Approval.mk 0 0 0 0 0 0 0 false) from ⟨_,U,U⟩) U U (fun v4 hv3=>?_))⟩)
   obtain ⟨_,rfl,rfl⟩:=hv3
   refine ⟨jn,qR 4 3 U (tn 8 U (nj 0 ty81 U U U U U U (⟨jn,qA [9] U (aW kr (qT 5 U (bY 6 [30,31,32,33,34,35,36] 30 36 (decide ((mgetD bS (bW y1) (Approval.mk 0 0 0 0 0 0 0 false)).At≤y1.At)) U (fun c3 hk2=>?_) (fun e=>?_))))⟩)))⟩
   ·exact qL 6 [1,0] U (hk2 _ U)
   refine aD (ai hs1 U (fun c4 hs4=>?_) (fun c4 hs5=>?_))
   ·let z12:Nat×Obj:=(b8,O (Approval.cells (mgetD bS (bW y1) (Approval.mk 0 0 0 0 0 0 0 false))) 81)
    refine eQ ([z12,z7,z3,z6,z1,z2]) mixed kr jn (fun MP _=>?_)
    exact tf 0 U U (fun _ _ hj=>fH ty270 U (hj.nth (i:=4) U) U) (tf 1 U U (fun _ _ hj=>je ty81 U (hj.nth (i:=1) U) U) (tf 3 U U (fun _ _ hj=>je ty81 U (hj.nth (i:=1) U) U) (tn 2 U (eP EB (iG hr1 y1) U (⟨jn,tn 4 U (jJ 5 (k:=(bW y1)) (x:=y1) C0 kE U (gd.mono (iH.mono Approval.ao) hlr1) U U ⟨_,U,U⟩ (fun mo3 hm2=>⟨jn,aW kr (da (bB (L':=[z3,z6,z1,(b2,mo3),z2]++(markB [])) js (cu (L':=rdH l1 dm1 lp1 (([z1,(b2,mo3),z2])++markB [])) ap (nx1 ((mput bS (bW y1) y1),mo3,hr1) _ _ ⟨hs4,hm2,(hl1.t hlr1)⟩ lf))))⟩))⟩)))))
   exact aJ (da (bB (L':=[z3,z6,z1,(b2,dR),z2]++(markB [])) js (cu (L':=rdH l1 dm1 lp1 (([z1,(b2,dR),z2])++markB [])) ap (nx1 (bS,dR,hr1) _ _ ⟨hs5,(gd.mono (iH.mono Approval.ao) hlr1),(hl1.t hlr1)⟩ lf))))
  refine su zc81 (fun b9=>⟨jn,tn 2 U (eP EB (iG hr1 y1) U (⟨jn,tn 3 U (kh 5 (k:=(bW y1)) C0 kE U (gd.mono (iH.mono Approval.ao) hlr1) (eG zv81) (show (iH Approval.rp) _ (.agg (List.toArray [I 0,I 0,I 0,I 0,I 0,I 0,I 0,.bool false])) (Approval.mk 0 0 0 0 0 0 0 false) from ⟨_,U,U⟩) U U (fun v5 hv4=>?_))⟩))⟩)
  obtain ⟨_,rfl,rfl⟩:=hv4
  refine ⟨jn,qR 4 3 U (tn 8 U (nj 0 ty81 U U U U U U (⟨jn,qA [9] U (aW kr (qT 5 U (bY 6 [30,31,32,33,34,35,36] 30 36 (decide ((mgetD bS (bW y1) (Approval.mk 0 0 0 0 0 0 0 false)).At≤y1.At)) U (fun c5 hk3=>?_) (fun e=>?_))))⟩)))⟩
  ·exact qL 6 [1,0] U (hk3 _ U)
  refine aD (ai hs1 U (fun c6 hs6=>?_) (fun c6 hs7=>?_))
  ·let z13:Nat×Obj:=(b9,O (Approval.cells (mgetD bS (bW y1) (Approval.mk 0 0 0 0 0 0 0 false))) 81)
   refine eQ ([z13,z7,z3,z6,z1,z2]) mixed kr jn (fun Nk _=>?_)
   exact tf 0 U U (fun _ _ hj=>fH ty270 U (hj.nth (i:=4) U) U) (tf 1 U U (fun _ _ hj=>je ty81 U (hj.nth (i:=1) U) U) (tf 3 U U (fun _ _ hj=>je ty81 U (hj.nth (i:=1) U) U) (tn 2 U (eP EB (iG hr1 y1) U (⟨jn,tn 4 U (jJ 5 (k:=(bW y1)) (x:=y1) C0 kE U (gd.mono (iH.mono Approval.ao) hlr1) U U ⟨_,U,U⟩ (fun mo4 hm3=>⟨jn,aW kr (da (bB (L':=[z3,z6,z1,(b2,mo4),z2]++(markB [])) js (cu (L':=rdH l1 dm1 lp1 (([z1,(b2,mo4),z2])++markB [])) ap (nx1 ((mput bS (bW y1) y1),mo4,hr1) _ _ ⟨hs6,hm3,(hl1.t hlr1)⟩ lf))))⟩))⟩)))))
  exact aJ (da (bB (L':=[z3,z6,z1,(b2,dR),z2]++(markB [])) js (cu (L':=rdH l1 dm1 lp1 (([z1,(b2,dR),z2])++markB [])) ap (nx1 (bS,dR,hr1) _ _ ⟨hs7,(gd.mono (iH.mono Approval.ao) hlr1),(hl1.t hlr1)⟩ lf))))
 ·rintro dm1 ⟨bS,dR,hh1⟩ hn1 ⟨hs8,gd,hl1⟩ hln1 hl01
  refine cu (L':=[z1,(b2,dR),z2]++(markB (dm1::[]))) ap (qT 8 U (aF (cY call198 (nW _ _ _ _ doc cv known (hl.mono Approval.ao ((hle1.t hl1).t hln1))) U (fun v6 h2 hle2 hp2=>?_))))
  obtain ⟨_,rfl,mo5⟩:=hp2
  refine qO 2 U (cu (L':=([z1,(b2,dR),z2])++markB (dm1::[])) ap ?_)
  refine jw (it:=v6) (xs:=(eJ l doc cv known)) (ι:=(List Approval)×Option Addr×Nat×LH×HF) (dm1::[]) (fun i=>i.2.2.2.2) (fun i=>[z1,(b2,dR),(b1,O [.slice i.2.1 i.1.length i.2.2.1] 28)]++(i.2.2.2.1)) (fun s i=>aI l doc cv known=((aI.L2 bS (aI.K2)) s i.1)∧em Approval.rp 81 i.2.2.2.2 i.1 i.2.1 i.2.2.1 i.2.2.2.1∧HF.le h2 i.2.2.2.2∧i.1.length+s.length≤l.length) (fun _=>False) (fun _=>False) 0 (fun _ _ _=>False) ([],none,0,[],h2) Jd U mo5 U n9 (fun _ _ _ _ _ hq=>hq) U (show [z1,(b2,dR),z2]=_ from U) ⟨hs8,em.nil,lf,(by have hc:=nI l doc cv known;simpa using hc)⟩ ?_ ?_ ?_ ?_ ?_
  ·rintro l2 dm2 lp2 y2 rz2 vs2 ⟨lM,xl,xk,nz,hh2⟩ hr2 X hFR2 ⟨hs9,xj,hl2,u2_0⟩ hl02 hlr2 hv2 hX hXM hlp2 nx2 rt2 ex2 pn2
   obtain rfl:=hv2
   simp only [List.length_cons] at u2_0
   let z4:Nat×Obj:=(b1,O [.slice xl lM.length xk] 28)
   let z10:Nat×Obj:=(dm2,.deferred (some []))
   refine cu (L':=[(l2,.loop lp2),z10,z1,(b2,dR),z4]++(nz++(markB (dm1::[])))) ap (ay (aV zc81 (fun b11=>aS 0 ty81 U U U U U U (iw (L':=[(b11,O (Approval.cells y2) 81),(l2,.loop lp2),z10,z1,(b2,dR),z4]++(nz++(markB (dm1::[])))) U (aD (jh 1 U hlp2 (qT 2 U ?_)))))))
   refine nZ [(8,Q b1),(13,Q b11),(57,.bool ((!y2.Gone)&&(decide ((mgetD bS (bW y2) (Approval.mk 0 0 0 0 0 0 0 false))=y2))))] (fun e=>?_) (fun hk4=>?_)
   rotate_left
   ·refine eQ ([(b11,O (Approval.cells y2) 81),(l2,.loop { lp2 with state:=.busy }),z10,z1,(b2,dR),z4]) mixed kr jn (fun Nj _=>?_)
    refine qB [0] U (tf 1 U U (fun _ _ hj=>fH ty4 U (hj.nth (i:=0) U) U) (qA [2,3] U ?_))
    refine dt 50 U (fun c7=>?_) (fun c7=>?_)
    ·refine tf 4 U U (fun _ _ hj=>fH ty270 U (hj.nth (i:=3) U) U) (tf 5 U U (fun _ _ hj=>je ty81 U (hj.nth (i:=0) U) U) (tf 8 U U (fun _ _ hj=>je ty81 U (hj.nth (i:=0) U) U) (tn 6 U (eP EB (iG hr2 y2) U (⟨jn,tn 7 U (mJ 4 (k:=(bW y2)) C0 kE U (gd.mono (iH.mono Approval.ao) (((hln1.t hle2).t hl2).t hlr2)) (eG zv81) (show (iH Approval.rp) _ (.agg (List.toArray [I 0,I 0,I 0,I 0,I 0,I 0,I 0,.bool false])) (Approval.mk 0 0 0 0 0 0 0 false) from ⟨_,U,U⟩) U U (fun v8 hv6=>?_))⟩)))))
     obtain ⟨_,rfl,rfl⟩:=hv6
     exact ⟨jn,tf 9 U U (fun _ _ _=>Hv (Ej (mgetD bS (bW y2) (Approval.mk 0 0 0 0 0 0 0 false)) y2) eqg81 U U) (qA [10] U (aW kr (hk4 _ ⟨U,U,(cb (show (decide ((mgetD bS (bW y2) (Approval.mk 0 0 0 0 0 0 0 false))=y2))=((!y2.Gone)&&(decide ((mgetD bS (bW y2) (Approval.mk 0 0 0 0 0 0 0 false))=y2))) from by rw [c7] <;> rfl)),trivial⟩)))⟩
    exact tk 4 U U (qR 5 6 U (aW kr (hk4 _ ⟨U,U,(cb (show false=((!y2.Gone)&&(decide ((mgetD bS (bW y2) (Approval.mk 0 0 0 0 0 0 0 false))=y2))) from by rw [c7] <;> rfl)),trivial⟩)))
   refine ai hs9 U (fun c8 hs10=>?_) (fun c8 hs11=>?_)
   ·refine qK 2 [5] U (cW 0 ty81 U U U (aF (bV (cells:=[I y2.No,I y2.At,I y2.Known,I y2.Doc,I y2.By,I y2.For,I y2.Office,.bool y2.Gone]) tI ty81 zc81 U U kr (fun b12=>?_))))
    let z8:Nat×Obj:=(b12,O [I y2.No,I y2.At,I y2.Known,I y2.Doc,I y2.By,I y2.For,I y2.Office,.bool y2.Gone] 81)
    let z9:Nat×Obj:=(l2,.loop { lp2 with state:=.busy })
    let z14:Nat×Obj:=(b11,O (Approval.cells y2) 81)
    refine aF (eR Approval.eF ([z8,z14,z9,z10,z1,(b2,dR),z4]) (markB (dm1::[])) (fun G=>[z8,z14,z9,z10,z1,(b2,dR),z4]++(markB (dm1::[])++G)) ap (fun _=>ap) tI ty81 zc81 U bytes81 (xj.mono Approval.ao hlr2) U U (fI 0 U (show bu Approval.rp hr2 [I y2.No,I y2.At,I y2.Known,I y2.Doc,I y2.By,I y2.For,I y2.Office,.bool y2.Gone] ([y2]) from ⟨[I y2.No,I y2.At,I y2.Known,I y2.Doc,I y2.By,I y2.For,I y2.Office,.bool y2.Gone],[],U,U,U,U⟩)) lo lo (fun ob1 oc1 G1 gr1=>uI (py ([z8,z14,z9,z10,z1,(b2,dR),z4]) G1 (markB (dm1::[]))) (cJ 6 ty28 U U U U U U (qO 2 U ?_))))
    let z15:Nat×Obj:=(b1,O [.slice ob1 ((lM++[y2]).length) oc1] 28)
    exact bB (L':=[z9,z10,z1,(b2,dR),z15]++(G1++(markB (dm1::[])))) js (cu (L':=rdH l2 dm2 lp2 (([z1,(b2,dR),z15]++G1)++markB (dm1::[]))) ap (nx2 ((lM++[y2]),ob1,oc1,G1,hr2) _ _ ⟨hs10,gr1,(hl2.t hlr2),(by first | omega | (simp only [List.length_append,List.length_cons,List.length_nil] at *;omega))⟩ lf))
   exact aJ (da (bB (L':=[(l2,.loop { lp2 with state:=.busy }),z10,z1,(b2,dR),z4]++(nz++(markB (dm1::[])))) js (cu (L':=rdH l2 dm2 lp2 (([z1,(b2,dR),z4]++(nz))++markB (dm1::[]))) ap (nx2 (lM,xl,xk,nz,hr2) _ _ ⟨hs11,(xj.mono Approval.ao hlr2),(hl2.t hlr2),(by first | omega | (simp only [List.length_append,List.length_cons,List.length_nil] at *;omega))⟩ lf))))
  ·rintro dm2 ⟨lM,xl,xk,nz,hh2⟩ hn2 ⟨hs12,xj,hl2,u2_0⟩ hln2 hl02
   let z5:Nat×Obj:=(b1,O [.slice xl lM.length xk] 28)
   refine cu (L':=[z1,(b2,dR),z5]++(nz++(markB (dm2::(dm1::[]))))) ap (qK 4 [2] U (cJ 2 ty28 U U U U U U (aD ?_)))
   have hs13:aI l doc cv known=lM:=hs12
   exact cu (L':=([z1,(b2,dR),z5]++(nz))++markB (dm2::(dm1::[]))) ap (KX (dm2::(dm1::[])) (A:=[z1,(b2,dR),z5]) (G:=nz) (Q:=[]) Jd U hX ap (fun h1=>em.flat (fun _ _ _ _ e=>e) (xj.mono Approval.ao hln2)) ⟨⟨2,_,_,_,_,U,U,.inr ⟨_,ty28,U⟩⟩,trivial⟩ hs13)
  ·exact xf
  ·exact xf
  exact xf
 ·exact xf
 ·exact xf
 exact xf
theorem sL (l:List Approval) (doc cv known:Int):(aI l doc cv known).length≤l.length:=by
 have h2:∀ (g:List (eO×Approval)) (s acc:List Approval),(aI.L2 g aI.K2 s acc).length≤acc.length+s.length:=by
  intro g s
  induction s with
  | nil=>intro acc;exact Nat.le_refl _
  | cons y s ih=>
   intro acc
   simp only [aI.L2,Bool.cond_eq_ite]
   split
   ·have:=ih (acc++[y]);simp only [List.length_append,List.length_cons,List.length_nil] at *;omega
   have:=ih acc;simp only [List.length_cons];omega
 have h1:∀ (s:List Approval) (g:List (eO×Approval)),(aI.L1 (aI.K1 l doc cv known) s g).length≤l.length:=by
  intro s
  induction s with
  | nil=>
   intro g
   have h3:=h2 g (eJ l doc cv known) []
   have h4:=nI l doc cv known
   show (aI.L2 g aI.K2 (eJ l doc cv known) []).length≤l.length
   simp only [List.length_nil] at h3;omega
  | cons y s ih=>intro g;simp only [aI.L1,Bool.cond_eq_ite];split <;> exact ih _
 exact h1 _ _
theorem sa (h:HF) (y:Approval) (begun:Int) (begun_q:Addr) (at_:Int) (at__q:Addr) (think:Int) (think_q:Addr) (abegun:At h begun_q [I begun]) (aat_:At h at__q [I at_]) (athink:At h think_q [I think]):Ret prog 106 [.agg (Approval.cells y).toArray,.pointer (some begun_q),.pointer (some at__q),.pointer (some think_q)] h (.bool (hU y begun at_ think)):=by
 refine sT func106 U ntmps106 U fun X hM hX hF=>?_
 have hs0:hU y begun at_ think=hU y begun at_ think:=rfl
 refine sr (cA (fun b1=>qL 6 [0] U (dF ty3 abegun U (qO 2 U (bY 7 [10,11,12,13,14,15,16,17] 10 17 (decide ((IntKind.wrap .i64 (at_ - y.At)) < think)) U (fun c1 hk1=>?_) (fun e=>?_))))))
 ·exact dF ty3 aat_ U (qL 3 [0] U (dF ty3 athink U (qO 2 U (hk1 _ U))))
 exact an (nretP [.bool (decide (y.At < begun)||decide ((IntKind.wrap .i64 (at_ - y.At)) < think))] (cs hs0))
end Go.Sg
