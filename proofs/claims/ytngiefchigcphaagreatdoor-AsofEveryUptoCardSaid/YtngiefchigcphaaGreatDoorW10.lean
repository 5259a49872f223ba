import Derived.Shelf.SlSortCmp.NoneTotal
import Derived.WalkKit
import Derived.Test.YtngiefchigcphaaGreatDoorW1
import Derived.Test.YtngiefchigcphaaGreatDoorW2
import Derived.Test.YtngiefchigcphaaGreatDoorW3
import Derived.Test.YtngiefchigcphaaGreatDoorW4
import Derived.Test.YtngiefchigcphaaGreatDoorW5
import Derived.Test.YtngiefchigcphaaGreatDoorW6
import Derived.Test.YtngiefchigcphaaGreatDoorW7
import Derived.Test.YtngiefchigcphaaGreatDoorW8
import Derived.Test.YtngiefchigcphaaGreatDoorW9
/- A part of the proof of the law AsofEvery: where what it reads holds at most 1048576 values and letters, the call returns true and its arguments read as they did. Conditions: that bound, and that the listed table starts as the program lays it. -/
set_option linter.unusedVariables false
set_option linter.unusedSimpArgs false
namespace Go.Sg
open Go.Proofs
set_option maxHeartbeats 2000000
set_option maxRecDepth 100000
set_option linter.unusedVariables false
theorem oR (h:HF) (dQ:Int) (q:aU) (ja:gr) (q_q:Addr) (at_:Int) (at__q:Addr) (hq:aU.ok h q ja) (aq:At h q_q (aU.cells q ja)) (aat_:At h at__q [I at_]) (hsm:smR q.Register):Ret Tryz.prog 63 [I dQ,.pointer (some q_q),.pointer (some at__q)] h (.bool (bj dQ q at_)):=by
 refine ay Tryz.func63 U Tryz.ntmps63 U fun X hM hX=>?_
 have hs0:bj dQ q at_=bj dQ q at_:=rfl
 refine sr (an (sr (az pU U (az pZ U (nh (j:=2) ty24 aq U U (aa (az mh U (az tV U (nh (j:=13) ty31 aq U U (eC ty3 aat_ U (az zP U (nh (j:=48) ty3 aq U U ?_))))))))))))
 refine a8 (dg Tryz.call45 (mw h q.Register.Interests ja.Register.gB ja.Register.gA dQ q.doc.Parties ja.doc.jE ja.doc.jD at_ q.known hq.Register.Interests hq.doc.Parties hsm.2.2.2.1) U (fun v1 h1 hle1 hp1=>?_))
 obtain ⟨rb1,rc1,rfl,sl1⟩:=hp1
 refine aa (bG U U (bG U U (bG U U (ba (ba (an (sr (aa (aJ U (aa ?_))))))))))
 refine tq 2 [(27,.bool (((cL q.Register.Interests dQ q.doc.Parties at_ q.known).2.2 != 0)||(cL q.Register.Interests dQ q.doc.Parties at_ q.known).2.1))] (fun hk1=>?_) (fun e=>?_)
 ·refine ar 25 U (fun c1=>?_) (fun c1=>?_)
  ·refine bP (ah U ?_)
   exact hk1 _ ⟨(cb (dL c1)),trivial⟩
  ·refine aa (ah U ?_)
   exact hk1 _ ⟨(cb (dM c1)),trivial⟩
 refine an ?_
 exact aw [.bool (((cL q.Register.Interests dQ q.doc.Parties at_ q.known).2.2 != 0)||(cL q.Register.Interests dQ q.doc.Parties at_ q.known).2.1)] Tryz.func63 U hX rd (cs hs0)
theorem sR {h:HF}:∀ {cl:List Value} {xs:List Int},bV Rp.int h cl xs→cl=xs.map (Value.int .i64)
 | _,[],hc=>hc
 | _,x::xs,⟨cs,rest,e,_,hr,hc⟩=>by
  have:cs=[I x]:=hr
  rw [e,this,sR hc];rfl
theorem s8 (h:HF):∀ xs:List Int,bV Rp.int h (xs.map (Value.int .i64)) xs
 | []=>rfl
 | x::xs=>⟨[I x],xs.map (Value.int .i64),rfl,rfl,rfl,s8 h xs⟩
theorem Bx (f:Int→Bool):∀ (l:List Int) (i:Nat),(bS.L1 f bS.K1 l i=-1∧∀ x∈l,f x=false) ∨
  ∃ a y b,l=a++y::b∧bS.L1 f bS.K1 l i=((i+a.length:Nat):Int)∧f y=true∧∀ x∈a,f x=false
 | [],i=>.inl ⟨rfl,fun _ h=>(List.not_mem_nil h).elim⟩
 | y::l,i=>by
  simp only [bS.L1]
  cases hy:f y with
  | true=>exact .inr ⟨[],y,l,rfl,by simp,hy,fun _ h=>(List.not_mem_nil h).elim⟩
  | false=>
   rcases Bx f l (i+1) with ⟨h1,h2⟩ | ⟨a,z,b,rfl,h2,h3,h4⟩
   ·exact .inl ⟨h1,fun x hx=>by rcases List.mem_cons.1 hx with rfl | hx;exact hy;exact h2 x hx⟩
   ·refine .inr ⟨y::a,z,b,rfl,?_,h3,fun x hx=>by rcases List.mem_cons.1 hx with rfl | hx;exact hy;exact h4 x hx⟩
    rw [cond_false,h2];simp only [List.length_cons];congr 1;omega
theorem vr {q:Int→Bool} {l:List Int} (h:∀ x∈l,q x=false):(l.filter fun x=>!(q x))=l:=by
 rw [List.filter_eq_self];intro x hx;simp [h x hx]
theorem Gu {q:Int→Bool} {s zs:List Int} {i j:Nat} {y:Int} (hij:i < j) (hz:zs.length=s.length) (hj:s[j]? = some y) (ht:zs.take i=(s.take j).filter fun x=>!(q x)) (hd:zs.drop j=s.drop j) (hy:q y=false):
  (zs.set i y).take (i+1)=((s.take (j+1)).filter fun x=>!(q x))∧(zs.set i y).drop (j+1)=s.drop (j+1):=by
 have hjl:j < s.length:=by
  rcases Nat.lt_or_ge j s.length with h | h
  ·exact h
  ·simp [List.getElem?_eq_none h] at hj
 constructor
 ·rw [List.take_add_one,List.take_set_of_le (Nat.le_refl _),ht,List.take_add_one,hj,List.filter_append]
  simp [hy,show i < zs.length from by omega]
 ·rw [List.drop_set_of_lt ob,← List.drop_drop,hd,List.drop_drop]
theorem Gt {q:Int→Bool} {s zs:List Int} {i j:Nat} {y:Int} (hj:s[j]? = some y) (ht:zs.take i=(s.take j).filter fun x=>!(q x)) (hd:zs.drop j=s.drop j) (hy:q y=true):
  zs.take i=((s.take (j+1)).filter fun x=>!(q x))∧zs.drop (j+1)=s.drop (j+1):=by
 constructor
 ·rw [List.take_add_one,hj,List.filter_append,ht];simp [hy]
 ·rw [← List.drop_drop,hd,List.drop_drop]
theorem wq {w:World} {bk i n cc:Nat} {cl:List Value} (hb:w.heap[bk]? = some (.cells cl.toArray 3 (0,0))) (hle:i+(n+1)≤cl.length) (ty:TypeId):
  (Builtin.clear_ #[31] ty #[.slice (some ⟨bk,i,none⟩) (n+1) cc]).run Tryz.prog w=.ok (.tuple #[]) { w with heap:=w.heap.setIfInBounds bk (.cells (splice cl i (List.replicate (n+1) (I 0))).toArray 3 (0,0)) }:=by
 have hz:(zeroValue 3).run Tryz.prog w=.ok (I 0) w:=je kr w
 have h9:=ke (P:=Tryz.prog) i (List.replicate (n+1) (I 0)) 0 cl w hb (by simpa using hle) (fun v hv=>by rw [(List.mem_replicate.1 hv).2];rfl)
 rw [Nat.add_zero] at h9
 have hzc:(Builtin.zeroCells (Value.int .i64 0).cells (n+1)).toList=List.replicate (n+1) (Value.int .i64 0):=by
  simp [Builtin.zeroCells,Value.cells]
  rw [List.eq_replicate_iff]
  refine ⟨by simp,fun x hx=>?_⟩
  obtain ⟨j,_,rfl⟩:=List.mem_map.1 hx
  simp [Nat.mod_one]
 simp only [Builtin.clear_,Sem.run_bind]
 simp [run_underlying eL,hz,hzc,h9]
theorem oL (h:HF) (s:List Int) (b:Option Addr) (c:Nat) (G:LH) (del:Int→Bool) (del_v:Value) (hG:ep Rp.int 3 h s b c G)
  (hdel:∀ (h':HF) (cG:Int),HF.le h h'→uO Tryz.prog del_v [I cG] h' [] (.bool (del cG))) (hsz:s.length≤2000000):
  nX Tryz.prog 64 [.slice b s.length c,del_v].toArray h G (fun r h' G'=>h'=h∧r=.returned (.slice b (bq s del).length c)∧ep Rp.int 3 h (bq s del) b c G'):=by
 refine ay Tryz.func64 U Tryz.ntmps64 U fun X hM hX=>?_
 refine sr (an (sr (aa (aa ?_))))
 refine a8 (AJ [] G [] Tryz.call110 Rp.ce hG (by simp) (fun h1 hle hsl=>lN h1 s b c del del_v hsl (fun h' a hl=>hdel h' a (hle.t hl))) U ?_)
 refine an (ae (sr (aa ?_)))
 have hcase:=Bx del s 0
 rw [show bS.L1 del bS.K1 s 0=bS s del from rfl] at hcase
 rcases hcase with ⟨h1,h2⟩ | ⟨a,y,r,hs,h1,hy,ha⟩
 ·rw [h1]
  refine aB (v':=.bool true) U U (ac (bn U ?_))
  refine sr (aa (an ?_))
  have hf:bq s del=s:=vr h2
  refine m5 Tryz.func64 (fun a ha w hw=>res1 U a ha w) (fun w hw=>hw.lower) ⟨hX,?_,?_⟩
  ·rw [hf];rfl
  ·rw [hf];exact hG
 ·rw [h1,Nat.zero_add]
  have hne:(((a.length:Nat):Int)==-1)=false:=by simp
  have hsl:s.length=a.length+(r.length+1):=by rw [hs];simp
  refine aB (v':=.bool false) U (cb hne) (ac (bg U (ao ?_)))
  refine ae (sr (aa (aB (v':=I ((a.length+1:Nat):Int)) U (bW ob) (an ?_))))
  refine br (ι:=Nat×List Int×LH) (fun i=>[(0,.slice b s.length c),(1,del_v),(5,I ((i.1:Nat):Int))]) (fun i=>h) (fun i=>i.2.2)
   (fun i=>i.1 < s.length∧i.2.1.length=s.length∧i.2.1.take i.1=bq s del∧ep Rp.int 3 h i.2.1 b c i.2.2) ?_ (fun hx=>?_)
  ·rintro ⟨i,zs,G'⟩ ⟨hi,hz,hf,hG'⟩ e
   dsimp only at hi hz hf hG'
   rcases hG' with ⟨rfl,_⟩ | ⟨bk,cl,sp,rfl,hcl,h3,h4,h5,rfl⟩
   ·simp at hz;omega
   have hcl':=sR hcl
   subst hcl'
   have hcz:zs.length≤c:=h4
   have h3':zs.length+sp.length=c:=by simpa [Rp.int] using h3
   have hz2:0≤((i:Nat):Int)∧((i:Nat):Int)≤((s.length:Nat):Int):=by omega
   try dsimp only
   have hzn:(i:Int).toNat=i:=by omega
   have hgf:ep Rp.int 3 h zs (some ⟨bk,0,none⟩) c [(bk,.cells (zs.map (Value.int .i64)++sp).toArray 3 (0,0))]:=.inr ⟨bk,_,sp,rfl,hcl,h3,h4,h5,rfl⟩
   obtain ⟨m,hm⟩:∃ m,s.length - i=m+1:=⟨s.length - i - 1,by omega⟩
   refine sr (aa (aa ?_))
   refine a8 (gH (v:=.slice (some ⟨bk,i,none⟩) (m+1) (c - i)) (Ev eL ty3 U U ob ob hm) ?_)
   refine a8 (iG U fun w hw=>⟨.tuple #[],_,h,_,?_,hw.write (i:=0) U (.cells (splice (zs.map (Value.int .i64)++sp) i (List.replicate (m+1) (I 0))).toArray 3 (0,0)),?_⟩)
   ·have:=wq (w:=w) (i:=i) (n:=m) (cc:=c - i) (hw.own _ (List.mem_singleton.2 rfl)) (by simp;omega)
    simp only [execOp,resolve,invoke,builtin]
    simp [Env.ev,upd,upds,pute,this]
   ·have hsp:∃ sp',splice (zs.map (Value.int .i64)++sp) i (List.replicate (m+1) (I 0))=(zs.take i).map (Value.int .i64)++sp':=by
     have e1:zs.map (Value.int .i64)++sp=(zs.take i).map (Value.int .i64)++((zs.drop i).map (Value.int .i64)++sp):=by
      rw [← List.append_assoc,← List.map_append,List.take_append_drop]
     rw [e1]
     have e2:i=((zs.take i).map (Value.int .i64)).length:=by simp;omega
     have:=uo (List.replicate (m+1) (I 0)) ((zs.take i).map (Value.int .i64)) ((zs.drop i).map (Value.int .i64)++sp) (by simp;omega)
     rw [← e2] at this
     exact ⟨_,this⟩
    obtain ⟨sp',hsp⟩:=hsp
    have hlen:((zs.take i).map (Value.int .i64)++sp').length=c * Rp.int.sz:=by
     rw [← hsp,yj];exact h3
    rw [hsp]
    have hg2:ep Rp.int 3 h (zs.take i) (some ⟨bk,0,none⟩) c [(bk,.cells ((zs.take i).map (Value.int .i64)++sp').toArray 3 (0,0))]:=
     .inr ⟨bk,_,sp',rfl,s8 h _,hlen,by rw [List.length_take];omega,by rw [List.length_take];omega,rfl⟩
    refine ac (sr (aa (aa ?_)))
    refine a8 (AI (z:=(i:Int)) eL ty3 hgf ob (by show _=Value.slice _ _ _;rw [hz];rfl) U U ?_)
    refine an ?_
    refine m5 Tryz.func64 (fun a ha w hw=>res1 U a ha w) (fun w hw=>hw.lower) ⟨hX,?_,?_⟩
    ·rw [← hf,hzn];rfl
    ·rw [← hf];exact hg2
  ·refine cp (ι:=Nat×Nat×List Int×LH) (fun i=>[(0,.slice b s.length c),(1,del_v),(5,I ((i.1:Nat):Int)),(6,I ((i.2.1:Nat):Int))]) (fun i=>h) (fun i=>i.2.2.2)
    (fun i=>i.1 < i.2.1∧i.2.1≤s.length∧i.2.2.1.length=s.length∧i.2.2.1.take i.1=((s.take i.2.1).filter fun x=>!(del x))∧i.2.2.1.drop i.2.1=s.drop i.2.1∧ep Rp.int 3 h i.2.2.1 b c i.2.2.2)
    (fun i=>s.length - i.2.1) (a.length,a.length+1,s,G) rd (fun w hw=>hw) ⟨Nat.lt_succ_self _,by show a.length+1≤s.length;omega,rfl,?_,rfl,hG⟩ ?_
   ·show s.take a.length=((s.take (a.length+1)).filter fun x=>!(del x))
    rw [hs,List.take_left' rfl,List.take_add_one,List.take_left' rfl,List.filter_append,vr ha];simp [hy]
   ·rintro ⟨i,j,zs,G'⟩ ⟨hij,hjl,hz,ht,hd,hG'⟩ ag e
    dsimp only at hij hjl hz ht hd hG'
    try dsimp only
    rcases Nat.lt_or_ge j s.length with hj | hj
    ·have hjs:s[j]? = some s[j]:=List.getElem?_eq_getElem hj
     have hjz:zs[j]? = some s[j]:=by
      have e1:(zs.drop j)[0]? = (s.drop j)[0]?:=by rw [hd]
      simpa [hjs] using e1
     obtain ⟨bk,hbk⟩:=hG'.uN ob
     have hiz:zs[i]? = some zs[i]:=List.getElem?_eq_getElem ob
     refine ae (sr (aa (aa (bC eL U (aB (v':=.bool true) U (cb (decide_eq_true ob)) (ac (bn U (ao ?_))))))))
     refine ae (aW (sr (aa (aa ?_))))
     refine a8 (gH (zz (R:=Rp.int) (xs:=zs) (z:=(j:Int)) eL ty3 hbk ob U hz.symm U) ?_)
     refine a8 (gH (Hq (R:=Rp.int) (off:=0) (i:=j) ty3 hG' hbk hjz (fun cs hcs=>by rw [show cs=[I s[j]] from hcs];rfl) (by rfl) (fun p hp=>hp)) ?_)
     refine an (sr (aa (aa ?_)))
     refine a8 (nl (v:=.bool (del s[j])) [] (List.nil_sublist _) (hdel h s[j] (HF.le_refl _)) U U ?_)
     cases hy:del s[j] with
     | true=>
      obtain ⟨k1,k2⟩:=Gt hjs ht hd hy
      refine cV U (ac (bg U (ao (av ?_))))
      refine ai (aa (aB (v':=I ((j+1:Nat):Int)) U (bW ob) (an ?_)))
      exact ag (i,j+1,zs,G') _ (by show s.length - (j+1) < s.length - j;omega) ⟨by show i < j+1;omega,hj,hz,k1,k2,hG'⟩ rd
     | false=>
      obtain ⟨k1,k2⟩:=Gu hij hz hjs ht hd hy
      refine cV U (ac (bn U ?_))
      refine sr (aa (aa (aa ?_)))
      refine a8 (gH (zz (R:=Rp.int) (xs:=zs) (z:=(i:Int)) eL ty3 hbk ob U hz.symm U) ?_)
      refine a8 (AH (R:=Rp.int) (i:=i) (off:=0) (u:=zs[i]) (u':=s[j]) (v:=I s[j]) [] G' [] ty3 U hG' (by simp) hbk hiz (by decide) (fun cs hcs=>by rw [show cs=[I zs[i]] from hcs];rfl) (by rfl) U U (fun G2 hG2=>?_))
      rw [List.nil_append,List.append_nil]
      refine ac (ai (aa (aB (v':=I ((i+1:Nat):Int)) U (bW ob) (an (av ?_)))))
      refine ai (aa (aB (v':=I ((j+1:Nat):Int)) U (bW ob) (an ?_)))
      exact ag (i+1,j+1,zs.set i s[j],G2) _ (by show s.length - (j+1) < s.length - j;omega) ⟨by show i+1 < j+1;omega,hj,by show (zs.set i s[j]).length=s.length;simpa using hz,k1,k2,hG2⟩ rd
    ·have hje:j=s.length:=by omega
     subst hje
     refine ae (sr (aa (aa (bC eL U (aB (v':=.bool false) U (cb (decide_eq_false ob)) (ac (bg U (bO U ?_))))))))
     exact hx (i,zs,G') _ ⟨hij,hz,by show zs.take i=_;rw [ht,List.take_length];rfl,hG'⟩ rd
theorem lE (h:HF) (dQ:Int)  : Ret Tryz.prog 81 [I dQ] h (.bool (du dQ)):=by
 refine ay Tryz.func81 U Tryz.ntmps81 U fun X hM hX=>?_
 have hs0:du dQ=du dQ:=rfl
 refine sr (an (sr (aa (aJ U (aa ?_)))))
 refine tq 3 [(8,.bool (decide (0≤dQ)&&decide (dQ < 1099511627776)))] (fun hk1=>?_) (fun e=>?_)
 ·refine ar 5 U (fun c1=>?_) (fun c1=>?_)
  ·refine aa (aJ U (ah U ?_))
   exact hk1 _ ⟨(cb (cW c1)),trivial⟩
  ·refine kq (ah U ?_)
   exact hk1 _ ⟨(cb (cX c1)),trivial⟩
 refine an ?_
 exact aw [.bool (decide (0≤dQ)&&decide (dQ < 1099511627776))] Tryz.func81 U hX rd (cs hs0)
theorem ql (h:HF) (l:(List Version)) (eW:Option Addr) (eV:Nat) (l_q:Addr) (known:Int) (known_q:Addr) (eE:Int) (from__q:Addr) (hl:SlC Version.rp h eW eV l) (al:At h l_q [.slice eW l.length eV]) (aknown:At h known_q [I known]) (afrom_:At h from__q [I eE]) (hsz:l.length≤2000000):Itr Tryz.prog (.func (.func 140) #[] (List.toArray [.pointer (some l_q),.pointer (some known_q),.pointer (some from__q)])) m7 (bA l known eE) h:=by
 refine uD Tryz.call140 ?_
 intro yf ya yb C Sp Pn h1 A hle m1 m2 m3 hC hy
 refine jN ER U Tryz.ntmps140 U fun X hXM hX=>?_
 have hs0:bA l known eE=[]++bA l known eE:=rfl
 refine sr (a8 (Fz hXM (fun b1 b1M=>an (sr (an (ae (sr (eC ty26 (al.mono hle) U (bC lb U (aa (ac ?_)))))))))))
 refine br (ι:=Nat×Int×(List (Int×Version))×Obj) (fun i=>[(0,.func yf ya yb),(5,.map (some b1))]) (fun i=>h1) (fun i=>[(b1,i.2.2.2)]++(A)) (fun i=>i.1≤l.length∧bA l known eE=[]++((bA.K1) i.2.1 i.2.2.1)∧gy (Value.int .i64) (kb Version.rp) h1 i.2.2.2 i.2.2.1∧i.2.2.1.length≤0+i.1) ?_ (fun hx1=>?_)
 ·rintro ⟨i1,m8,db,j9⟩ ⟨bd,hs1,gJ,nT⟩ e
  try dsimp only at bd gJ nT
  try dsimp only
  refine sr (aa (wd 0 U b1M (fun h8 hle7 hb3=>?_)))
  have mc2:nZ (Value.int .i64) (kb Version.rp) h8 b1 db:=⟨_,hb3,gJ.mono (kb.mono Version.aN) hle7⟩
  refine a8 (dg Tryz.call141 (qX h8 db b1 mc2) U (fun v4 h9 hle8 hp3=>a8 (dg Tryz.call60 (ld h9 v4 (db.map Prod.fst) hp3 (by rw [List.length_map];omega)) U (fun v5 h10 hle9 hp4=>?_))))
  obtain ⟨rb2,rc2,rfl,sl2⟩:=hp4
  refine bC eL U (aa (ac ?_))
  refine br (ι:=Nat×List (Int×Version)×LH×HF) (fun i=>[]) (fun i=>i.2.2.2) (fun i=>i.2.2.1) (fun i=>i.1≤(sortI (db.map Prod.fst)).length∧bA l known eE=i.2.1++((bA.K2))∧C i.2.1 i.2.2.2 i.2.2.1∧HF.le h10 i.2.2.2) ?_ (fun hx2=>?_)
  ·rintro ⟨i2,dn2,A2_,hh2⟩ ⟨jW,hs2,hC2_,hl2⟩ e
   try dsimp only at jW hC2_ hl2
   try dsimp only
   refine gf ?_
   have hs3:bA l known eE=dn2:=hs2.trans (List.append_nil _)
   exact uE [] (A:=A2_) ER U (List.Sublist.refl _) (.inl (hs3 ▸ hC2_))
  ·refine cp (ι:=Nat×List (Int×Version)×LH×HF×List Int) (fun i=>[(0,.func yf ya yb),(5,.map (some b1)),(39,.slice rb2 ((sortI (db.map Prod.fst)).length) rc2),(40,I (((sortI (db.map Prod.fst)).length:Nat):Int)),(41,I ((i.1:Nat):Int))]) (fun i=>i.2.2.2.1) (fun i=>i.2.2.1) (fun i=>(sortI (db.map Prod.fst)).drop i.1=i.2.2.2.2∧i.1≤(sortI (db.map Prod.fst)).length∧bA l known eE=i.2.1++((bA.L2 db (bA.K2)) i.2.2.2.2 )∧C i.2.1 i.2.2.2.1 i.2.2.1∧HF.le h10 i.2.2.2.1) (fun i=>i.2.2.2.2.length) (0,[],A,h10,(sortI (db.map Prod.fst))) rd sw ⟨U,Nat.zero_le _,hs1,(m1 _ _ _ _ ((hle7.t hle8).t hle9) hC),(HF.le_refl h10)⟩ ?_
   rintro ⟨i2,dn2,A2_,hh2,s2⟩ ⟨hd2,jW,hs4,hC2_,hl2⟩ ag1 e
   try dsimp only at hd2 jW hC2_ hl2
   rcases s2 with _ | ⟨y2,rz2⟩
   ·have sU:=cU hd2
    try dsimp only
    refine sr (aB (v':=.bool false) U (cb sU) (ac (ae (bg U (bO U ?_)))))
    exact hx2 (i2,dn2,A2_,hh2) _ ⟨jW,hs4,hC2_,hl2⟩ trivial
   ·have qr:=dY hd2
    have lu:=cY hd2
    have w9:=aT hd2
    have Dc:=sl2.1.1
    try dsimp only
    refine sr (aB (v':=.bool true) U (cb qr) (ac (ae (bn U (ao (ae (aW (sr (a8 (fQ (enc:=fun y=>[I y]) (fun _ _ _ e=>e) eL ty3 (sl2.mono Rp.ce hl2).1 (nthZ lu) (bB lu) U U U (fun q4 A10=>?_)))))))))))
    refine eC ty3 A10 U (an (sr (aa (aa (aa (aa ?_))))))
    obtain ⟨o3,hb5,hm5⟩:=(mc2.mono (kb.mono Version.aN) ((hle8.t hle9).t hl2))
    refine a8 (oV (k:=y2) EZ (eS kl) hb5 hm5 (je zv70) (show (kb Version.rp) _ (.agg (List.toArray [I 0,I 0,I 0,.string (⟨#[]⟩:ByteArray),.slice none 0 0,.slice none 0 0,.slice none 0 0,I 0,I 0,I 0,.string (⟨#[]⟩:ByteArray),.slice none 0 0,I 0])) (Version.mk 0 0 0 (Policy.mk (⟨#[]⟩:ByteArray) [] [] [] (Expr.mk 0 0 0 (⟨#[]⟩:ByteArray) []) 0)) from ⟨_,U,(kX.mk (eO.mk none 0 none 0 none 0 (cI.mk none 0))),U,⟨⟨SlC.nil,SlC.nil,SlC.nil,(Expr.ok.of SlC.nil)⟩⟩⟩) U U (fun v7 hv3=>?_))
    obtain ⟨_,rfl,rr4,rfl,ok4⟩:=hv3
    have hx3:bA l known eE=dn2++((y2,(mgetD db y2 (Version.mk 0 0 0 (Policy.mk (⟨#[]⟩:ByteArray) [] [] [] (Expr.mk 0 0 0 (⟨#[]⟩:ByteArray) []) 0))))::(bA.L2 db (bA.K2) rz2 )):=hs4
    refine a8 (lA ([]) A2_ ap (hy dn2 (y2,(mgetD db y2 (Version.mk 0 0 0 (Policy.mk (⟨#[]⟩:ByteArray) [] [] [] (Expr.mk 0 0 0 (⟨#[]⟩:ByteArray) []) 0)))) _ _ _ _ hx3 (((hle7.t hle8).t hle9).t hl2) hC2_ ⟨rr4,U,ok4⟩) U U (fun h14 A11 hle13 hC3=>?_) (fun h15 A12 hle14 hS3=>?_) (fun ch3 h16 A13 hle15 hP3 e=>i6 (pM [] (A:=A13) ER (List.sublist_append_right _ _) hP3)))
    ·have hs6:bA l known eE=(dn2++[(y2,(mgetD db y2 (Version.mk 0 0 0 (Policy.mk (⟨#[]⟩:ByteArray) [] [] [] (Expr.mk 0 0 0 (⟨#[]⟩:ByteArray) []) 0))))])++((bA.L2 db (bA.K2) rz2 )):=hx3.trans ap
     refine cV U (ac (bg U (ao (av (ai (aB (v':=I (((i2+1):Nat):Int)) U (bW ob) (aa (ac ?_))))))))
     exact ag1 ((i2+1),(dn2++[(y2,(mgetD db y2 (Version.mk 0 0 0 (Policy.mk (⟨#[]⟩:ByteArray) [] [] [] (Expr.mk 0 0 0 (⟨#[]⟩:ByteArray) []) 0))))]),A11,h14,rz2) _ (Nat.lt_succ_self _) ⟨bF hd2,aT hd2,hs6,hC3,(hl2.t hle13)⟩ rd
    ·refine cV U (ac (bn U ?_))
     refine gf ?_
     exact pL [] (A:=A12) ER U (List.Sublist.refl _) (.inr hS3)
 ·refine cp (ι:=Nat×Int×(List (Int×Version))×Obj×List Version) (fun i=>[(0,.func yf ya yb),(2,.pointer (some known_q)),(3,.pointer (some from__q)),(5,.map (some b1)),(6,I i.2.1),(13,.slice eW l.length eV),(14,I ((l.length:Nat):Int)),(15,I ((i.1:Nat):Int))]) (fun i=>h1) (fun i=>[(b1,i.2.2.2.1)]++(A)) (fun i=>l.drop i.1=i.2.2.2.2∧i.1≤l.length∧bA l known eE=[]++((bA.L1 known eE (bA.K1)) i.2.2.2.2 i.2.1 i.2.2.1)∧gy (Value.int .i64) (kb Version.rp) h1 i.2.2.2.1 i.2.2.1∧i.2.2.1.length≤0+i.1) (fun i=>i.2.2.2.2.length) (0,(-1),[],.map #[] 0,l) rd sw ⟨U,Nat.zero_le _,hs0,(gy.nil (enc:=(Value.int .i64)) (V:=(kb Version.rp)) (h:=h1)),lc⟩ ?_
  rintro ⟨i1,m8,db,j9,s1⟩ ⟨hd1,bd,hs7,gJ,nT⟩ ag2 e
  try dsimp only at hd1 bd gJ nT
  rcases s1 with _ | ⟨y1,rz1⟩
  ·have dI:=cU hd1
   try dsimp only
   refine sr (aB (v':=.bool false) U (cb dI) (ac (ae (bg U (bO U ?_)))))
   exact hx1 (i1,m8,db,j9) _ ⟨bd,hs7,gJ,lc⟩ rd
  ·have dH:=dY hd1
   have bh:=cY hd1
   have eT:=aT hd1
   have gx:=(hl.mono Version.aN hle).1.1
   try dsimp only
   refine sr (aB (v':=.bool true) U (cb dH) (ac (ae (bn U (ao (ae (aW (sr (a8 (gL lb ty70 (hl.mono Version.aN hle).1 (nthZ bh) (bB bh) U U U (fun q5 cs2 A14 ln2 rr5=>?_)))))))))))
   obtain ⟨r2,rfl,ok5⟩:=rr5
   refine ed ty70 A14 U U (bX zc70 (fun b3=>bN 0 ty70 U U U U U U (iv (L':=[(b3,O (Version.cells y1 r2) 70),(b1,j9)]++(A)) U (ac (ae (sr (az vU U (aO 0 ty3 U U U ?_))))))))
   refine eC ty3 (aknown.mono hle) U (aJ U (ac ?_))
   refine aE U (fun c5=>?_) (fun c5=>?_)
   ·have c5p:=of_decide_eq_true c5
    have hs9:=hs7.trans (congrArg ([]++·) (bt c5))
    refine bO U (ai (aB (v':=I (((i1+1):Nat):Int)) U (bW ob) (aa (ac ?_))))
    refine cE (L':=[(b1,j9)]++(A)) js ?_
    exact ag2 ((i1+1),m8,db,j9,rz1) _ (Nat.lt_succ_self _) ⟨bF hd1,aT hd1,hs9,gJ,lc⟩ rd
   ·have c5p:=of_decide_eq_false c5
    have hs10:=hs7.trans (congrArg ([]++·) (bf c5))
    refine ao (sr (az tS U (aO 0 ty3 U U U (an (ae (sr (aa (eC ty3 (afrom_.mono hle) U (aJ U (ac ?_))))))))))
    refine aE U (fun c6=>?_) (fun c6=>?_)
    ·have c6p:=of_decide_eq_true c6
     have hs11:=hs10.trans (congrArg ([]++·) (bt c6))
     refine ae (sr (aa (aa (aJ U (ac ?_)))))
     refine aE U (fun c7=>?_) (fun c7=>?_)
     ·have c7p:=of_decide_eq_true c7
      have hs12:=hs11.trans (congrArg ([]++·) (bt c7))
      refine bO U (ai (aB (v':=I (((i1+1):Nat):Int)) U (bW ob) (aa (ac ?_))))
      refine cE (L':=[(b1,j9)]++(A)) js ?_
      exact ag2 ((i1+1),m8,db,j9,rz1) _ (Nat.lt_succ_self _) ⟨bF hd1,aT hd1,hs12,gJ,lc⟩ rd
     ·have c7p:=of_decide_eq_false c7
      have hs13:=hs11.trans (congrArg ([]++·) (bf c7))
      refine ao ?_
      refine ga ([(b3,O (Version.cells y1 r2) 70),(b1,j9)]) mixed kr jn (fun eX _=>?_)
      refine tm 0 U (tf 1 U U (fun _ _ hj=>gd ty3 ((afrom_.mono hle).mono hj.1) U) ?_)
      refine tf 2 U U (fun _ _ _=>fO) (tf 3 U U (fun _ _ _=>fO) (bY kr ?_))
      refine ai (aa (aa (dq 0 ty70 U U U (a8 (j5 1 (k:=eE) (x:=y1) EZ (eS kl) U gJ U U ⟨_,U,r2,U,ok5⟩ (fun mo3 hm6=>ac (av (ai (aB (v':=I (((i1+1):Nat):Int)) U (bW ob) ?_)))))))))
      refine aa (ac ?_)
      refine cE (L':=[(b1,mo3)]++(A)) js ?_
      exact ag2 ((i1+1),y1.At,(mput db eE y1),mo3,rz1) _ (Nat.lt_succ_self _) ⟨bF hd1,aT hd1,hs13,hm6,(by have:=gh db eE y1;first | omega | (simp only [List.length_nil,List.length_cons] at *;omega))⟩ rd
    ·have c6p:=of_decide_eq_false c6
     have hs14:=hs10.trans (congrArg ([]++·) (bf c6))
     refine ao (ai (aa (aa (dq 0 ty70 U U U (a8 (j5 1 (k:=y1.At) (x:=y1) EZ (eS kl) U gJ U U ⟨_,U,r2,U,ok5⟩ (fun mo4 hm7=>ac (av (ai (aB (v':=I (((i1+1):Nat):Int)) U (bW ob) ?_))))))))))
     refine aa (ac ?_)
     refine cE (L':=[(b1,mo4)]++(A)) js ?_
     exact ag2 ((i1+1),m8,(mput db y1.At y1),mo4,rz1) _ (Nat.lt_succ_self _) ⟨bF hd1,aT hd1,hs14,hm7,(by have:=gh db y1.At y1;first | omega | (simp only [List.length_nil,List.length_cons] at *;omega))⟩ rd
theorem rQ (h:HF) (l:(List Version)) (eW:Option Addr) (eV:Nat) (pS:Int) (known:Int) (hl:SlC Version.rp h eW eV l) (hsz:l.length≤2000000):jK Tryz.prog 82 [.slice eW l.length eV,I pS,I known] h (fun v h'=>∃ (rv0:Value),v=rv0∧Itr Tryz.prog rv0 m7 (fa l pS known) h'):=by
 refine ay Tryz.func82 U Tryz.ntmps82 U fun X hM hX=>?_
 have hs0:fa l pS known=fa l pS known:=rfl
 refine sr (dy (fun b1=>dy (fun b2=>dy (fun b3=>an (sr (cq 2 U hM (fun h1 hle1 hb1=>cq 0 U hM (fun h2 hle2 hb2=>cq 0 U hM (fun h3 hle3 hb3=>a8 (fV U U (ba ?_)))))))))))
 refine ac ?_
 have hs1:fa l pS known=(bA l known pS):=hs0
 exact dS [.func (.func 140) #[] #[Q b1,Q b3,Q b2]] Tryz.func82 U rd ⟨(.func (.func 140) #[] #[Q b1,Q b3,Q b2]),congrArg (fun r:(List (Int×Version))=>((.func (.func 140) #[] #[Q b1,Q b3,Q b2]):Value)) hs1.symm,(by rw [hs1];exact (ql h3 l eW eV ⟨b1,0,none⟩ known ⟨b3,0,none⟩ pS ⟨b2,0,none⟩ (hl.mono Version.aN ((hle1.t hle2).t hle3)) ((dR hb1).mono (hle2.t hle3)) ((dR hb2).mono hle3) (dR hb3) ob))⟩
theorem nC (h:HF) (l:(List Version)) (eW:Option Addr) (eV:Nat) (begun:Int) (bQ:Int) (known:Int) (hl:SlC Version.rp h eW eV l) (hsm:smV l) (hk:Kinds h):jK Tryz.prog 44 [.slice eW l.length eV,I begun,I bQ,I known] h (fun v h'=>∃ (rb0:Option Addr) (rc0:Nat),v=.tuple #[.slice rb0 ((aA l begun bQ known).1).length rc0,I ((aA l begun bQ known).2.1),I ((aA l begun bQ known).2.2)]∧SlC Rp.int h' rb0 rc0 ((aA l begun bQ known).1)):=by
 refine ay Am U Tryz.ntmps44 U fun X hM hX=>?_
 have hs0:aA l begun bQ known=aA l begun bQ known:=rfl
 have hsl:=hsm.len
 refine sr (dy (fun b1=>dy (fun b2=>ba (ba (an (ae (sr (aa (aG (v:=I (bz l)) Tryz.call55 (mQ h l eW eV hl ob hk) U ?_)))))))))
 refine an (sr (aa (aJ U (ac ?_))))
 refine aE U (fun c1=>?_) (fun c1=>?_)
 ·have hs1:=hs0.trans (bt c1)
  refine sr (aa (ba (ba (an ?_))))
  have hs2:aA l begun bQ known=([],0,(bz l)):=hs1
  exact dS [.slice none 0 0,I 0,I (bz l)] Am U rd ⟨none,0,congrArg (fun r:((List Int)×Int×Int)=>(.tuple #[.slice none r.1.length 0,I r.2.1,I r.2.2]:Value)) hs2.symm,(by rw [hs2];exact SlC.nil)⟩
 ·have hs3:=hs0.trans (bf c1)
  refine ao (ae (sr (aO 1 ty3 U U U (aG (v:=.bool (du begun)) Tryz.call81 (lE h begun ) U (cV U (aa ?_))))))
  refine tq 4 [(0,.slice eW l.length eV),(3,I known),(5,Q b1),(6,Q b2),(8,.slice none 0 0),(29,.bool ((!(du begun))||(!(du bQ))))] (fun hk1=>?_) (fun e=>?_)
  ·refine ar 25 U (fun c2=>?_) (fun c2=>?_)
   ·refine kq (bP (ah U ?_))
    exact hk1 _ ⟨U,U,U,U,U,(cb (dL c2)),trivial⟩
   ·refine aO 0 ty3 U U U (aG (v:=.bool (du bQ)) Tryz.call81 (lE h bQ ) U (cV U (ah U ?_)))
    exact hk1 _ ⟨U,U,U,U,U,(cb (dM c2)),trivial⟩
  refine aa ?_
  refine tq 4 [(0,.slice eW l.length eV),(3,I known),(5,Q b1),(6,Q b2),(8,.slice none 0 0),(34,.bool (((!(du begun))||(!(du bQ)))||(!(du known))))] (fun hk2=>?_) (fun e=>?_)
  ·refine ar 30 U (fun c3=>?_) (fun c3=>?_)
   ·refine kq (bP (ah U ?_))
    exact hk2 _ ⟨U,U,U,U,U,(cb (dL c3)),trivial⟩
   ·refine aa (aG (v:=.bool (du known)) Tryz.call81 (lE h known ) U (cV U (ah U ?_)))
    exact hk2 _ ⟨U,U,U,U,U,(cb (dM c3)),trivial⟩
  refine aa ?_
  refine tq 4 [(0,.slice eW l.length eV),(3,I known),(5,Q b1),(6,Q b2),(8,.slice none 0 0),(39,.bool ((((!(du begun))||(!(du bQ)))||(!(du known)))||decide (bQ < begun)))] (fun hk3=>?_) (fun e=>?_)
  ·refine ar 35 U (fun c4=>?_) (fun c4=>?_)
   ·refine kq (bP (ah U ?_))
    exact hk3 _ ⟨U,U,U,U,U,(cb (dL c4)),trivial⟩
   ·refine aO 1 ty3 U U U (aO 0 ty3 U U U (aJ U (ah U ?_)))
    exact hk3 _ ⟨U,U,U,U,U,(cb (dM c4)),trivial⟩
  refine ac ?_
  refine aE U (fun c5=>?_) (fun c5=>?_)
  ·have hs4:=hs3.trans (bt c5)
   refine sr (ba (ba (an ?_)))
   have hs5:aA l begun bQ known=([],0,1):=hs4
   exact dS [.slice none 0 0,I 0,I 1] Am U rd ⟨none,0,congrArg (fun r:((List Int)×Int×Int)=>(.tuple #[.slice none r.1.length 0,I r.2.1,I r.2.2]:Value)) hs5.symm,(by rw [hs5];exact SlC.nil)⟩
  ·have hs6:=hs3.trans (bf c5)
   refine ao (sr (bX zc26 (fun b3=>ac (sr (bX zc4 (fun b4=>dW 0 ty4 U U U U U U (ac (ae (sr (aa (aO 3 ty3 U U U (aa (a8 (dg Tryz.call82 (rQ h l eW eV begun known hl ob) U (fun v1 h1 hle1 hp1=>?_)))))))))))))))
   obtain ⟨_,rfl,mo1⟩:=hp1
   refine ac (aW ?_)
   refine gf ?_
   refine dX (L':=([(b4,O [.bool false] 4),(b3,O [.slice none 0 0] 26),(b2,O [I bQ] 3),(b1,O [I begun] 3)])++markB []) ap ?_
   refine Em (it:=v1) (xs:=(fa l begun known)) (ι:=Bool×(List Version)×Option Addr×Nat×LH×HF) [] (fun i=>i.2.2.2.2.2) (fun i=>[(b4,O [.bool i.1] 4),(b3,O [.slice i.2.2.1 i.2.1.length i.2.2.2.1] 26),(b2,O [I bQ] 3),(b1,O [I begun] 3)]++(i.2.2.2.2.1)) (fun s i=>aA l begun bQ known=((aA.L1 begun bQ (aA.K1)) s i.1 i.2.1)∧ep Version.rp 70 i.2.2.2.2.2 i.2.1 i.2.2.1 i.2.2.2.1 i.2.2.2.2.1∧HF.le h1 i.2.2.2.2.2∧(∀ x∈i.2.1,x∈l)∧(∀ q∈s,q.2∈l)∧i.2.1.length+s.length≤l.length) (fun _=>False) 0 (fun _ _ _=>False) (false,[],none,0,[],h1) Am U mo1 U sb (fun _ _ _ _ _ hq=>hq) U (show [(b4,O [.bool false] 4),(b3,O [.slice none 0 0] 26),(b2,O [I bQ] 3),(b1,O [I begun] 3)]=_ from U) ⟨hs6,ep.nil,(HF.le_refl h1),(fun x hx=>(List.not_mem_nil hx).elim),rh,(by have:=vl l begun known;simpa using this)⟩ ?_ ?_ ?_ ?_
   ·rintro l1 dm1 lp1 y1 rz1 vs1 ⟨fx,aV,fY,fX,im,hh1⟩ hr1 X hFR1 ⟨hs7,jb,hl1,u1_0,u1_1,u1_2⟩ hl01 hlr1 hv1 hX hXM hlp1 nx1 rt1 ex1 pn1
    try dsimp only at jb hl1 u1_0 u1_1 u1_2 hlr1
    obtain ⟨rr1_0,rfl,ok1_0⟩:=hv1
    simp only [List.length_cons] at u1_2
    let z2:Nat×Obj:=(b3,O [.slice fY aV.length fX] 26)
    let z6:Nat×Obj:=(dm1,.deferred (some []))
    refine dX (L':=[(l1,.loop lp1),z6,(b4,O [.bool fx] 4),z2,(b2,O [I bQ] 3),(b1,O [I begun] 3)]++(im++(markB []))) ap ?_
    refine sr (an (ai (bX zc70 (fun b6=>bN 0 ty70 U U U U U U (iv (L':=[(b6,O (Version.cells y1.2 rr1_0) 70),(l1,.loop lp1),z6,(b4,O [.bool fx] 4),z2,(b2,O [I bQ] 3),(b1,O [I begun] 3)]++(im++(markB []))) U ?_)))))
    refine ac (j3 1 U hlp1 (aW (ae (sr (aa (aO 5 ty3 U U U (aJ U (ac ?_))))))))
    refine aE U (fun c7=>?_) (fun c7=>?_)
    ·have c7p:=of_decide_eq_true c7
     have hs8:=hs7.trans (bt c7)
     refine cE (L':=[(l1,.loop { lp1 with state:=.busy }),z6,(b4,O [.bool fx] 4),z2,(b2,O [I bQ] 3),(b1,O [I begun] 3)]++(im++(markB []))) js ?_
     refine dX (L':=rdH l1 dm1 lp1 (([(b4,O [.bool fx] 4),z2,(b2,O [I bQ] 3),(b1,O [I begun] 3)]++(im))++markB [])) ap ?_
     exact ex1 (fx,aV,fY,fX,im,hr1) _ _ _ ⟨hs8,(jb.mono Version.aN hlr1),(hl1.t hlr1),u1_0,(fun q hq=>(List.not_mem_nil hq).elim),(by simp only [List.length_nil,List.length_cons] at *;omega)⟩ (HF.le_refl _) U
    ·have c7p:=of_decide_eq_false c7
     have hs9:=hs7.trans (bf c7)
     refine ao (sr (aO 3 ty4 U U U (aa ?_)))
     refine tq 4 [(8,.slice none 0 0),(11,Q b3),(12,Q b4),(14,Q b6),(54,.bool (fx||(y1.1==begun)))] (fun hk4=>?_) (fun e=>?_)
     ·refine ar 50 U (fun c8=>?_) (fun c8=>?_)
      ·refine kq (bP (ah U ?_))
       exact hk4 _ ⟨U,U,U,U,(cb (dL c8)),trivial⟩
      ·refine aa (aO 6 ty3 U U U (aJ U (ah U ?_)))
       exact hk4 _ ⟨U,U,U,U,(cb (dM c8)),trivial⟩
     refine dW 3 ty4 U U U U U U (ac (ai (aO 4 ty26 U U U (dq 0 ty70 U U U (a8 (ck (cells:=[I y1.2.No,I y1.2.At,I y1.2.Known,.string y1.2.Policy.Name,.slice rr1_0.Policy.fN y1.2.Policy.Kinds.length rr1_0.Policy.fM,.slice rr1_0.Policy.dP y1.2.Policy.Offices.length rr1_0.Policy.dO,.slice rr1_0.Policy.jT y1.2.Policy.Rules.length rr1_0.Policy.jS,I y1.2.Policy.Change.Kind,I y1.2.Policy.Change.N,I y1.2.Policy.Change.No,.string y1.2.Policy.Change.Name,.slice rr1_0.Policy.Change.ir y1.2.Policy.Change.L.length rr1_0.Policy.Change.iE,I y1.2.Policy.Mode]) lb ty70 zc70 U U kr (fun b7=>?_)))))))
     let z1:Nat×Obj:=(b7,O [I y1.2.No,I y1.2.At,I y1.2.Known,.string y1.2.Policy.Name,.slice rr1_0.Policy.fN y1.2.Policy.Kinds.length rr1_0.Policy.fM,.slice rr1_0.Policy.dP y1.2.Policy.Offices.length rr1_0.Policy.dO,.slice rr1_0.Policy.jT y1.2.Policy.Rules.length rr1_0.Policy.jS,I y1.2.Policy.Change.Kind,I y1.2.Policy.Change.N,I y1.2.Policy.Change.No,.string y1.2.Policy.Change.Name,.slice rr1_0.Policy.Change.ir y1.2.Policy.Change.L.length rr1_0.Policy.Change.iE,I y1.2.Policy.Mode] 70)
     let z4:Nat×Obj:=(b4,O [.bool (fx||(y1.1==begun))] 4)
     let z5:Nat×Obj:=(l1,.loop { lp1 with state:=.busy })
     let z7:Nat×Obj:=(b6,O (Version.cells y1.2 rr1_0) 70)
     refine a8 (eK Version.e5 ([z1,z7,z5,z6,z4,z2,(b2,O [I bQ] 3),(b1,O [I begun] 3)]) (markB []) (fun G=>[z1,z7,z5,z6,z4,z2,(b2,O [I bQ] 3),(b1,O [I begun] 3)]++(markB []++(G))) ap (fun _=>ap) lb ty70 zc70 U bytes70 (jb.mono Version.aN hlr1) U U (eZ 0 U (show bV Version.rp hr1 [I y1.2.No,I y1.2.At,I y1.2.Known,.string y1.2.Policy.Name,.slice rr1_0.Policy.fN y1.2.Policy.Kinds.length rr1_0.Policy.fM,.slice rr1_0.Policy.dP y1.2.Policy.Offices.length rr1_0.Policy.dO,.slice rr1_0.Policy.jT y1.2.Policy.Rules.length rr1_0.Policy.jS,I y1.2.Policy.Change.Kind,I y1.2.Policy.Change.N,I y1.2.Policy.Change.No,.string y1.2.Policy.Change.Name,.slice rr1_0.Policy.Change.ir y1.2.Policy.Change.L.length rr1_0.Policy.Change.iE,I y1.2.Policy.Mode] ([y1.2]) from ⟨[I y1.2.No,I y1.2.At,I y1.2.Known,.string y1.2.Policy.Name,.slice rr1_0.Policy.fN y1.2.Policy.Kinds.length rr1_0.Policy.fM,.slice rr1_0.Policy.dP y1.2.Policy.Offices.length rr1_0.Policy.dO,.slice rr1_0.Policy.jT y1.2.Policy.Rules.length rr1_0.Policy.jS,I y1.2.Policy.Change.Kind,I y1.2.Policy.Change.N,I y1.2.Policy.Change.No,.string y1.2.Policy.Change.Name,.slice rr1_0.Policy.Change.ir y1.2.Policy.Change.L.length rr1_0.Policy.Change.iE,I y1.2.Policy.Mode],[],U,U,⟨rr1_0,U,ok1_0⟩,U⟩)) lo lo (fun ob1 oc1 G1 gr1=>?_))
     refine vO (rF ([z1,z7,z5,z6,z4,z2,(b2,O [I bQ] 3),(b1,O [I begun] 3)]) G1 (markB [])) ?_
     refine dW 5 ty26 U U U U U U (ac (av ?_))
     let z9:Nat×Obj:=(b3,O [.slice ob1 ((aV++[y1.2]).length) oc1] 26)
     refine cE (L':=[z5,z6,z4,z9,(b2,O [I bQ] 3),(b1,O [I begun] 3)]++(G1++(markB []))) js ?_
     refine dX (L':=rdH l1 dm1 lp1 (([z4,z9,(b2,O [I bQ] 3),(b1,O [I begun] 3)]++(G1))++markB [])) ap ?_
     exact nx1 ((fx||(y1.1==begun)),(aV++[y1.2]),ob1,oc1,G1,hr1) _ _ ⟨hs9,gr1,(hl1.t hlr1),(fun x hx=>(List.mem_append.1 hx).elim (u1_0 x) (fun hx=>by rw [List.mem_singleton.1 hx];exact u1_1 y1 (List.mem_cons_self ..))),(fun q hq=>u1_1 q (List.mem_cons_of_mem _ hq)),(by simp only [List.length_append,List.length_cons,List.length_nil] at *;omega)⟩ (HF.le_refl _)
   ·rintro dm1 ⟨fx,aV,fY,fX,im,hh1⟩ hn1 ⟨hs10,jb,hl1,u1_0,u1_1,u1_2⟩ hln1 hl01
    try dsimp only at jb hl1 u1_0 u1_1 u1_2 hln1
    let z3:Nat×Obj:=(b3,O [.slice fY aV.length fX] 26)
    refine dX (L':=[(b4,O [.bool fx] 4),z3,(b2,O [I bQ] 3),(b1,O [I begun] 3)]++(im++(markB (dm1::[])))) ap ?_
    refine ae (sr (aO 1 ty26 U U U (bC lb U (aJ U (ac ?_)))))
    refine aE U (fun c9=>?_) (fun c9=>?_)
    ·have hs11:=hs10.trans (bt c9)
     refine sr (ba (ba (an ?_)))
     have hs12:aA l begun bQ known=([],0,0):=hs11
     refine dX (L':=([(b4,O [.bool fx] 4),z3,(b2,O [I bQ] 3),(b1,O [I begun] 3)]++(im))++markB (dm1::[])) ap ?_
     exact oT (dm1::[]) [.slice none 0 0,I 0,I 0] Am U rd ⟨none,0,congrArg (fun r:((List Int)×Int×Int)=>(.tuple #[.slice none r.1.length 0,I r.2.1,I r.2.2]:Value)) hs12.symm,(by rw [hs12];exact SlC.nil)⟩
    ·have hs13:=hs10.trans (bf c9)
     refine ao (sr (aO 1 ty26 U U U (aO 1 ty26 U U U (bC lb U (aB (v':=I (((aV.length:Nat):Int) - 1)) U (iu ob) (mz Version.aN ([(b4,O [.bool fx] 4),z3,(b2,O [I bQ] 3),(b1,O [I begun] 3)]) im (markB (dm1::[])) ap hM (jb.mono Version.aN hln1) (fun h2 hle2 sl1=>?_)))))))
     have ho1:0≤((((aV.length:Nat):Int) - 1):Int)∧((((aV.length:Nat):Int) - 1):Int) < ((aV).length:Int):=ob
     refine a8 (gL lb ty70 sl1.1 ho1 (eA ho1) U U U (fun q1 cs1 A1 ln1 rr1=>?_))
     obtain ⟨r1,rfl,ok1⟩:=rr1
     refine az pV U (az rI U (nh (j:=12) ty3 A1 U U (an (ae (ae ?_)))))
     refine ga ([(b4,O [.bool fx] 4),z3,(b2,O [I bQ] 3),(b1,O [I begun] 3)]) mixed kr jn (fun eX _=>?_)
     refine tm 1 U (tf 3 U U (fun _ _ hj=>gu ty26 U (hj.nth (i:=1) U) U) ?_)
     refine tf 4 U U (fun _ _ hj=>gu ty4 U (hj.nth (i:=0) U) U) (tm 7 U ?_)
     refine tn 0 U (dg Tryz.call83 (nB h2  ) U (fun v2 h3 hle3 hp2=>?_))
     obtain ⟨rk2,rfl,mo2⟩:=hp2
     refine ⟨jl hle3,tu hle3 ?_⟩
     refine tn 2 U ?_
     obtain ⟨o1,hb1,hm1⟩:=mo2
     refine oV (k:=(nthI aV (((aV.length:Nat):Int) - 1)).Policy.Mode) Ao (eS kl) hb1 hm1 (je zv141) (show VFn _ (.nilFunc) Value.nilFunc from U) U U (fun v3 hv1=>?_)
     obtain rfl:=hv1
     refine ⟨jn,?_⟩
     refine tn 5 U (FC (Br h3 ((nthI aV (((aV.length:Nat):Int) - 1)).Policy.Mode) (((mZ l).1 (by simpa using c1)).mode (u1_0 _ (kv ho1))) aV fY fX fx (sl1.mono Version.aN hle3) ob) U U (fun v4 h4 hle4 hp3=>?_))
     obtain ⟨rb1,rc1,rfl,sl2⟩:=hp3
     have hjl:=Bt ((nthI aV (((aV.length:Nat):Int) - 1)).Policy.Mode) aV fx
     refine ⟨jl hle4,tu hle4 ?_⟩
     refine tf 6 U U (fun _ _ _=>DX lb U) (bY kr ?_)
     refine br (ι:=Nat×(List Int)×Option Addr×Nat×LH) (fun i=>[(8,.slice i.2.2.1 i.2.1.length i.2.2.2.1),(9,I ((nthI aV (((aV.length:Nat):Int) - 1)).Policy.Mode))]) (fun i=>h4) (fun i=>[(b4,O [.bool fx] 4),z3,(b2,O [I bQ] 3),(b1,O [I begun] 3)]++(i.2.2.2.2++(markB (dm1::[])))) (fun i=>i.1≤(judgesP ((nthI aV (((aV.length:Nat):Int) - 1)).Policy.Mode) aV fx).length∧aA l begun bQ known=((aA.K2 aV) i.2.1)∧ep Rp.int 3 h4 i.2.1 i.2.2.1 i.2.2.2.1 i.2.2.2.2∧i.2.1.length≤0+i.1) ?_ (fun hx2=>?_)
     ·rintro ⟨i2,vK,BH,BG,BI⟩ ⟨bd,hs14,zg,F5⟩ e
      try dsimp only at bd zg F5
      try dsimp only
      refine sr (aa (a8 (qH ([(b4,O [.bool fx] 4),z3,(b2,O [I bQ] 3),(b1,O [I begun] 3)]) BI (markB (dm1::[])) Tryz.call41 (lH h4 vK BH BG BI zg (by first | assumption | omega | (simp only [List.length_append,List.length_cons,List.length_nil] ;omega))) ap U (fun G4 gr4=>?_))))
      refine ac (sr (aa (aa (ba (ba (an ?_))))))
      refine gj Rp.ce ([(b4,O [.bool fx] 4),z3,(b2,O [I bQ] 3),(b1,O [I begun] 3)]) G4 (markB (dm1::[])) ap hM gr4 (fun h6 hle6 sl4=>?_)
      have hs15:aA l begun bQ known=((sortI vK),(nthI aV (((aV.length:Nat):Int) - 1)).Policy.Mode,0):=hs14
      refine dX (L':=([(b4,O [.bool fx] 4),z3,(b2,O [I bQ] 3),(b1,O [I begun] 3)])++markB (dm1::[])) ap ?_
      exact oT (dm1::[]) [.slice BH vK.length BG,I ((nthI aV (((aV.length:Nat):Int) - 1)).Policy.Mode),I 0] Am U rd ⟨BH,BG,(by rw [hs15];simp [retVal,ie]),(by rw [hs15];exact sl4)⟩
     ·refine cp (ι:=Nat×(List Int)×Option Addr×Nat×LH×List Version) (fun i=>[(8,.slice i.2.2.1 i.2.1.length i.2.2.2.1),(9,I ((nthI aV (((aV.length:Nat):Int) - 1)).Policy.Mode)),(75,.slice rb1 ((judgesP ((nthI aV (((aV.length:Nat):Int) - 1)).Policy.Mode) aV fx).length) rc1),(76,I (((judgesP ((nthI aV (((aV.length:Nat):Int) - 1)).Policy.Mode) aV fx).length:Nat):Int)),(77,I ((i.1:Nat):Int))]) (fun i=>h4) (fun i=>[(b4,O [.bool fx] 4),z3,(b2,O [I bQ] 3),(b1,O [I begun] 3)]++(i.2.2.2.2.1++(markB (dm1::[])))) (fun i=>(judgesP ((nthI aV (((aV.length:Nat):Int) - 1)).Policy.Mode) aV fx).drop i.1=i.2.2.2.2.2∧i.1≤(judgesP ((nthI aV (((aV.length:Nat):Int) - 1)).Policy.Mode) aV fx).length∧aA l begun bQ known=((aA.L2 (aA.K2 aV)) i.2.2.2.2.2 i.2.1)∧ep Rp.int 3 h4 i.2.1 i.2.2.1 i.2.2.2.1 i.2.2.2.2.1∧i.2.1.length≤0+i.1) (fun i=>i.2.2.2.2.2.length) (0,[],none,0,[],(judgesP ((nthI aV (((aV.length:Nat):Int) - 1)).Policy.Mode) aV fx)) rd sw ⟨U,Nat.zero_le _,hs13,ep.nil,lo⟩ ?_
      rintro ⟨i2,vK,BH,BG,BI,s2⟩ ⟨hd2,jW,hs16,zg,F5⟩ ag1 e
      try dsimp only at hd2 jW zg F5
      rcases s2 with _ | ⟨y2,rz2⟩
      ·have sU:=cU hd2
       try dsimp only
       refine sr (aB (v':=.bool false) U (cb sU) (ac (ae (bg U (bO U ?_)))))
       exact hx2 (i2,vK,BH,BG,BI) _ ⟨jW,hs16,zg,lo⟩ rd
      ·have qr:=dY hd2
       have lu:=cY hd2
       have w9:=aT hd2
       have Dc:=sl2.1.1
       try dsimp only
       refine sr (aB (v':=.bool true) U (cb qr) (ac (ae (bn U (ao (ae (aW (sr (a8 (gL lb ty70 sl2.1 (nthZ lu) (bB lu) U U U (fun q3 cs3 A3 ln3 rr3=>?_)))))))))))
       obtain ⟨r3,rfl,ok3⟩:=rr3
       refine ed ty70 A3 U U (bX zc70 (fun b10=>bN 0 ty70 U U U U U U (iv (L':=[(b10,O (Version.cells y2 r3) 70),(b4,O [.bool fx] 4),z3,(b2,O [I bQ] 3),(b1,O [I begun] 3)]++(BI++(markB (dm1::[])))) U ?_)))
       let z8:Nat×Obj:=(b10,O (Version.cells y2 r3) 70)
       refine ac (ai (aa (az nt U (aO 0 ty3 U U U (a8 (ck (cells:=[I y2.No]) eL ty3 zc3 U U kr (fun b11=>a8 (eK Rp.kP ([(b11,O [I y2.No] 3),z8,(b4,O [.bool fx] 4),z3,(b2,O [I bQ] 3),(b1,O [I begun] 3)]) (markB (dm1::[])) (fun G=>[(b11,O [I y2.No] 3),z8,(b4,O [.bool fx] 4),z3,(b2,O [I bQ] 3),(b1,O [I begun] 3)]++(markB (dm1::[])++(G))) ap (fun _=>ap) eL ty3 zc3 U bytes3 zg U U (eZ 0 U (show bV Rp.int h4 [I y2.No] ([y2.No]) from ⟨[I y2.No],[],U,U,U,U⟩)) lo lo (fun ob3 oc3 G5 gr5=>?_)))))))))
       refine vO (rF ([(b11,O [I y2.No] 3),z8,(b4,O [.bool fx] 4),z3,(b2,O [I bQ] 3),(b1,O [I begun] 3)]) G5 (markB (dm1::[]))) ?_
       refine an (av (ai (aB (v':=I (((i2+1):Nat):Int)) U (bW ob) (aa (ac ?_)))))
       refine cE (L':=[(b4,O [.bool fx] 4),z3,(b2,O [I bQ] 3),(b1,O [I begun] 3)]++(G5++(markB (dm1::[])))) js ?_
       exact ag1 ((i2+1),(vK++[y2.No]),ob3,oc3,G5,rz2) _ (Nat.lt_succ_self _) ⟨bF hd2,aT hd2,hs16,gr5,lo⟩ rd
   ·exact fun _ _ _ hF=>hF.elim
   ·exact fun _ _ _ _ hF=>hF.elim
theorem rR (h:HF) (s:(List Int)) (pz:Option Addr) (oS:Nat) (v:Int) (hs:SlC Rp.int h pz oS s):Ret Tryz.prog 179 [.slice pz s.length oS,I v] h (I (dN s v)):=by
 refine ay Tryz.func179 U Tryz.ntmps179 U fun X hM hX=>?_
 have hs0:dN s v=dN s v:=rfl
 refine sr (an (ae (sr (aa (bC eL U (aa (ac ?_)))))))
 refine br (ι:=Nat) (fun i=>[]) (fun i=>h) (fun i=>[]) (fun i=>i≤s.length∧dN s v=((dN.K1))) ?_ (fun hx1=>?_)
 ·rintro i1 ⟨bd,hs1⟩ e
  try dsimp only at bd
  try dsimp only
  refine sr (an ?_)
  exact aw [I (-1)] Tryz.func179 U hX rd (ci hs1)
 ·refine cp (ι:=Nat×List Int) (fun i=>[(0,.slice pz s.length oS),(1,I v),(7,I ((s.length:Nat):Int)),(8,I ((i.1:Nat):Int))]) (fun i=>h) (fun i=>[]) (fun i=>s.drop i.1=i.2∧i.1≤s.length∧dN s v=((dN.L1 v (dN.K1)) i.2 i.1)) (fun i=>i.2.length) (0,s) rd sw ⟨U,Nat.zero_le _,hs0⟩ ?_
  rintro ⟨i1,s1⟩ ⟨hd1,bd,hs3⟩ ag1 e
  try dsimp only at hd1 bd
  rcases s1 with _ | ⟨y1,rz1⟩
  ·have dI:=cU hd1
   try dsimp only
   refine sr (aB (v':=.bool false) U (cb dI) (ac (ae (bg U (bO U ?_)))))
   exact hx1 i1 _ ⟨bd,hs3⟩ trivial
  ·have dH:=dY hd1
   have bh:=cY hd1
   have eT:=aT hd1
   have gx:=hs.1.1
   try dsimp only
   refine sr (aB (v':=.bool true) U (cb dH) (ac (ae (bn U (ao (ae (aW (sr (aa (an (sr (aa (aa (aa (a8 (fQ (enc:=fun y=>[I y]) (fun _ _ _ e=>e) eL ty3 hs.1 (nthZ bh) (bB bh) U U U (fun q2 A2=>?_)))))))))))))))))
   refine eC ty3 A2 U (aJ U (ac ?_))
   refine aE U (fun c2=>?_) (fun c2=>?_)
   ·have hs5:=hs3.trans (bt c2)
    refine sr (aa (an ?_))
    exact aw [I ((i1:Nat):Int)] Tryz.func179 U hX rd (ci hs5)
   ·have hs7:=hs3.trans (bf c2)
    refine ao (av (ai (aB (v':=I (((i1+1):Nat):Int)) U (bW ob) (aa (ac ?_)))))
    exact ag1 ((i1+1),rz1) _ (Nat.lt_succ_self _) ⟨bF hd1,aT hd1,hs7⟩ rd
theorem pC (h:HF) (s:(List Int)) (pz:Option Addr) (oS:Nat) (v:Int) (hs:SlC Rp.int h pz oS s):Ret Tryz.prog 111 [.slice pz s.length oS,I v] h (.bool (et s v)):=by
 refine ay Tryz.func111 U Tryz.ntmps111 U fun X hM hX=>?_
 have hs0:et s v=et s v:=rfl
 refine sr (an (sr (aa (aa (aG (v:=I (dN s v)) Tryz.call179 (rR h s pz oS v hs) U (aJ U (an ?_)))))))
 exact aw [.bool (decide (0≤(dN s v)))] Tryz.func111 U hX rd (cs hs0)
end Go.Sg
namespace Go.Proofs
open Go.Shelf Go.RowKit Go.Lib Go.Sort
set_option maxHeartbeats 1000000 in
theorem Tryz.closure151 (x y:Go.Sg.OSeat) (W:World):Calls Tryz.prog 151 #[.agg (Go.Sg.OSeat.cells x).toArray,.agg (Go.Sg.OSeat.cells y).toArray] W fun e w'=>e=.returned (.int .i64 (Lib.compareInt x.person y.person))∧∃ q os',w'=grow (W.drewN q) os':=by
 have hcon:=fun W'=>Tryz.cmp_Compare_int x.person y.person W'
 generalize Lib.compareInt x.person y.person=r at hcon ⊢
 unfold Go.Sg.OSeat.cells
 go_enter Tryz.func151,Tryz.ntmps151
 go_wp2_with (go_at_call 152;refine (hcon _).mono ?_;rintro e w' ⟨rfl,rfl⟩)
 go_ret
 exact ⟨rfl,0,_,by rw [alloc_eq_grow,alloc_eq_grow,grow_grow];rfl⟩
theorem Tryz.ltSeat (x y:Go.Sg.OSeat):ltOf (fun x y:Go.Sg.OSeat=>Lib.compareInt x.person y.person) x y=decide (x.person < y.person):=by
 unfold ltOf Lib.compareInt
 by_cases h1:x.person < y.person
 ·simp [h1]
 ·by_cases h2:y.person < x.person <;> simp [h1,h2]
theorem Tryz.swoSeat:SWO (ltOf fun x y:Go.Sg.OSeat=>Lib.compareInt x.person y.person) where
 irrefl x:=by rw [Tryz.ltSeat];simp
 trans x y z h1 h2:=by rw [Tryz.ltSeat] at *;simp at *;omega
 ntrans x y z h1 h2:=by rw [Tryz.ltSeat] at *;simp at *;omega
end Go.Proofs
namespace Go.Sg
open Go.Proofs Go.RowKit Go.Sort
set_option maxRecDepth 100000
theorem uY {h:HF}:∀ {cl:List Value} {xs:List OSeat},bV OSeat.rp h cl xs→cl=xs.flatMap OSeat.cells
 | _,[],hc=>hc
 | _,x::xs,⟨cs,rest,e,_,hr,hc⟩=>by
  have:cs=OSeat.cells x:=hr
  rw [e,this,uY hc];rfl
theorem vx (h:HF):∀ xs:List OSeat,bV OSeat.rp h (xs.flatMap OSeat.cells) xs
 | []=>rfl
 | x::xs=>⟨OSeat.cells x,xs.flatMap OSeat.cells,rfl,rfl,rfl,vx h xs⟩
theorem yJ:∀ (xs:List OSeat) (j:Nat),j < xs.length * 2→(xs.flatMap OSeat.cells)[j]? = some ((OSeat.cells (xs.getD (j / 2) default)).getD (j % 2) undef)
 | [],j,hj=>by simp at hj
 | x::xs,0,_=>by simp [OSeat.cells]
 | x::xs,1,_=>by simp [OSeat.cells]
 | x::xs,j+2,hj=>by
  have ih:=yJ xs j (by simp at hj;omega)
  simp only [List.flatMap_cons]
  rw [List.getElem?_append_right (by simp [OSeat.cells])]
  simp only [OSeat.cells,List.length_cons,List.length_nil]
  rw [show j+2 - (0+1+1)=j from by omega,show (j+2) / 2=j / 2+1 from by omega,show (j+2) % 2=j % 2 from by omega]
  simpa [OSeat.cells] using ih
theorem nw (xs:List OSeat):(xs.flatMap OSeat.cells).length=xs.length * 2:=by
 induction xs with
 | nil=>rfl
 | cons x xs ih=>rw [List.flatMap_cons,List.length_append,ih];simp [OSeat.cells];omega
theorem xI (xs:List OSeat):(flatK OSeat.cells 2 xs.toArray).toList=xs.flatMap OSeat.cells:=by
 apply List.ext_getElem?
 intro j
 rcases Nat.lt_or_ge j (xs.length * 2) with hj | hj
 ·rw [yJ xs j hj]
  have h1:=get_flatK OSeat.cells 2 xs.toArray j (by simpa using hj)
  have h2:j < (flatK OSeat.cells 2 xs.toArray).size:=by rw [size_flatK];simpa using hj
  rw [getElem!_pos _ j h2] at h1
  rw [Array.getElem?_toList,Array.getElem?_eq_getElem h2,h1]
  have h3:j / 2 < xs.length:=by omega
  congr 1
  rw [getElem!_pos xs.toArray (j / 2) (by simpa using h3)]
  have h4:j % 2 < 2:=Nat.mod_lt _ (by omega)
  simp only [List.getElem_toArray,List.getD,List.getElem?_eq_getElem h3,Option.getD_some]
  rw [getElem!_pos _ (j % 2) (by simpa [OSeat.cells] using h4)]
  rw [List.getElem?_eq_getElem (by simpa [OSeat.cells] using h4),Option.getD_some]
 ·rw [List.getElem?_eq_none (by rw [Array.length_toList,size_flatK];simpa using hj),List.getElem?_eq_none (by rw [nw];exact hj)]
theorem AU (F cur:Array Value) (h:F.size≤cur.size):(putCells id 0 F cur).toList=F.toList++cur.toList.drop F.size:=by
 apply List.ext_getElem?
 intro j
 rcases Nat.lt_or_ge j cur.size with hj | hj
 ·have e1:(putCells id 0 F cur).toList[j]? = some (if j < F.size then F[j]! else cur[j]):=by
   rw [Array.getElem?_toList]
   simp [putCells,hj]
  rw [e1]
  rcases Nat.lt_or_ge j F.size with h1 | h1
  ·rw [if_pos h1,List.getElem?_append_left (by simpa using h1),Array.getElem?_toList,Array.getElem?_eq_getElem h1,getElem!_pos _ j h1]
  ·rw [if_neg (by omega),List.getElem?_append_right (by simpa using h1),List.getElem?_drop,Array.getElem?_toList,Array.length_toList,show F.size+(j - F.size)=j from by omega,Array.getElem?_eq_getElem hj]
 ·rw [List.getElem?_eq_none (by simpa [putCells] using hj),List.getElem?_eq_none (by simp;omega)]
theorem F0 {w:World} {g n:Nat} {os:Array Obj} {cur:Array Value} {e:TypeId} {fr:Nat×Nat} (d:Array Value) (hb:w.heap[g]? = some (.cells cur e fr)):
  (grow (putRow id (Sort.ahead w n) g 0 d) os).heap[g]? = some (.cells (putCells id 0 d cur) e fr):=by
 have hg:g < w.heap.size:=(Array.getElem?_eq_some_iff.1 hb).1
 rw [heap_grow_old _ _ (by simpa using hg)]
 simp [putRow,mapBlock,Sort.ahead,Array.getElem?_modify,hb,onCells]
theorem EC {w:World} {g n:Nat} {os:Array Obj} (d:Array Value):(grow (putRow id (Sort.ahead w n) g 0 d) os).os=w.os∧(grow (putRow id (Sort.ahead w n) g 0 d) os).tape=w.tape∧(grow (putRow id (Sort.ahead w n) g 0 d) os).output=w.output ∧
  w.heap.size≤(grow (putRow id (Sort.ahead w n) g 0 d) os).heap.size∧∀ k,k < w.heap.size→k≠g→(grow (putRow id (Sort.ahead w n) g 0 d) os).heap[k]? = w.heap[k]?:=by
 refine ⟨rfl,rfl,rfl,by simp [putRow,mapBlock,Sort.ahead],fun k hk hne=>?_⟩
 rw [heap_grow_old _ _ (by simpa using hk)]
 simp [putRow,mapBlock,Sort.ahead,Array.getElem?_modify,Ne.symm hne]
theorem oU (h:HF) (xs:List OSeat) (b:Option Addr) (c:Nat) (G:LH) (hG:ep OSeat.rp 212 h xs b c G) (hsz:xs.length≤1000000000000):
  nX Tryz.prog 211 [.slice b xs.length c,.func (.func 151) #[] #[]].toArray h G (fun r h' G'=>h'=h∧r=.returned (.tuple #[])∧∃ ys,ys.Perm xs∧ys.Pairwise (fun x y=>x.person≤y.person)∧ep OSeat.rp 212 h ys b c G'):=by
 intro w hp
 rcases hG with ⟨rfl,rfl,rfl,rfl⟩ | ⟨bk,cl,sp,rfl,hcl,hlen,hcap,hmax,rfl⟩
 ·refine (iF (AnyF.slices_SortFunc_none Tryz.sortSeat none 0 (.func (.func 151) #[] #[]) w) (fun w' hw=>by cases hw.1)).mono ?_
  rintro e w' ⟨rfl,rfl⟩
  exact ⟨h,[],St.start hp,rfl,rfl,[],List.Perm.refl _,List.Pairwise.nil,ep.nil⟩
 ·have hb:=hp.own _ (List.mem_singleton.2 rfl)
  simp only at hb
  have hcl':=uY hcl
  subst hcl'
  have hfl:=xI xs
  have hH:HoldsK OSeat.cells 2 w bk 0 xs.toArray:=by
   intro j hj
   rw [size_flatK] at hj
   have hj':j < xs.length * 2:=by simpa using hj
   refine ⟨?_,by simp [World.frozen?,hb]⟩
   have h2:j < (flatK OSeat.cells 2 xs.toArray).size:=by rw [size_flatK];exact hj
   have h3:(flatK OSeat.cells 2 xs.toArray).toList[j]? = some (flatK OSeat.cells 2 xs.toArray)[j]!:=by
    rw [Array.getElem?_toList,Array.getElem?_eq_getElem h2,getElem!_pos _ j h2]
   rw [hfl] at h3
   have h4:(xs.flatMap OSeat.cells++sp)[j]? = some (flatK OSeat.cells 2 xs.toArray)[j]!:=by
    rw [List.getElem?_append_left (by rw [nw];exact hj')];exact h3
   simp only [World.cell?,hb,Nat.zero_add]
   simpa using h4
  have eg:∀ args w,(callFunc 151 args).run Tryz.prog w=.ok (.enter 151 args) w:=Tryz.call151
  have hcall:=AnyQ.slices_SortFunc Tryz.sortSeat 2 Tryz.isAgg212 Tryz.sizeOf212 OSeat.cells (fun _=>rfl) (fun x v hv=>by simp [OSeat.cells] at hv;rcases hv with rfl | rfl <;> rfl)
   (fun x y=>Lib.compareInt x.person y.person) Tryz.swoSeat 151 #[] bk 0 c xs.toArray w eg (fun _ _ _ _ x y=>Tryz.closure151 x y _) hH (fm hb) (by simp;omega)
  change Calls Tryz.prog 211 _ _ _ at hcall
  rw [List.size_toArray] at hcall
  refine (iF hcall (fun w' hw=>by cases hw.1)).mono ?_
  rintro e w' ⟨rfl,d',n,os,⟨hds,_,hperm⟩,hsorted,rfl⟩
  have hds':d'.size=xs.length:=by simpa using hds
  have hF:(flatK OSeat.cells 2 d').toList=d'.toList.flatMap OSeat.cells:=by have:=xI d'.toList;simpa using this
  have hFs:(flatK OSeat.cells 2 d').size=xs.length * 2:=by rw [size_flatK,hds']
  obtain ⟨g1,g2,g3,g4,g5⟩:=EC (w:=w) (g:=bk) (n:=n) (os:=os) (flatK OSeat.cells 2 d')
  have hnew:=F0 (w:=w) (g:=bk) (n:=n) (os:=os) (flatK OSeat.cells 2 d') hb
  have hcur:(putCells id 0 (flatK OSeat.cells 2 d') (xs.flatMap OSeat.cells++sp).toArray).toList=d'.toList.flatMap OSeat.cells++sp:=by
   rw [AU _ _ (by rw [hFs,← nw];simp),hF,hFs]
   congr 1
   rw [← nw]
   exact List.drop_left' rfl
  have hcur':putCells id 0 (flatK OSeat.cells 2 d') (xs.flatMap OSeat.cells++sp).toArray=(d'.toList.flatMap OSeat.cells++sp).toArray:=by rw [← hcur]
  rw [hcur'] at hnew
  have hperm':d'.toList.Perm xs:=by
   have e1:d'.extract 0 xs.length=d':=by rw [← hds'];simp
   have e2:xs.toArray.extract 0 xs.length=xs.toArray:=by simp
   rw [e1,e2] at hperm;exact hperm
  refine ⟨h,[(bk,.cells (d'.toList.flatMap OSeat.cells++sp).toArray 212 (0,0))],⟨g1,g2,g3,g4,fun k hk hM=>g5 k hk (fun e=>hM (by subst e;simp)),fun _ _ e=>e,fun _ _=>rfl,fun k o e=>?_,fun q hq=>?_,?_,?_,?_⟩,rfl,rfl,d'.toList,hperm',?_,?_⟩
  ·have hne:k≠bk:=fun e'=>by
    have:=hp.free _ (List.mem_singleton.2 rfl)
    simp only at this
    rw [e',this] at e;cases e
   exact (g5 k (fm (hp.imm k o e)) hne).trans (hp.imm k o e)
  ·rw [List.mem_singleton.1 hq];exact hnew
  ·simp
  ·intro q hq;rw [List.mem_singleton.1 hq];exact hp.free (bk,Obj.cells (xs.flatMap OSeat.cells++sp).toArray 212 (0,0)) (List.mem_singleton.2 rfl)
  ·intro q hq;rw [List.mem_singleton.1 hq];exact .inr (by simp)
  ·rw [List.pairwise_iff_getElem]
   intro i j hi hj hij
   have hj':j < d'.size:=by simpa using hj
   have hi':i < d'.size:=by simpa using hi
   have:=hsorted i j (Nat.zero_le _) hij (by omega)
   rw [Tryz.ltSeat,getElem!_pos _ j hj',getElem!_pos _ i hi'] at this
   simp only [Array.getElem_toList]
   simpa using this
  ·refine .inr ⟨bk,d'.toList.flatMap OSeat.cells,sp,rfl,vx h _,?_,?_,?_,rfl⟩
   ·rw [List.length_append,nw,hperm'.length_eq,← nw,← List.length_append];exact hlen
   ·rw [hperm'.length_eq];exact hcap
   ·rw [hperm'.length_eq];exact hmax
theorem oJ (h:HF) (it:Value) (ks:List OSeat) (hit:uR Tryz.prog it (fun (k:OSeat) (_:HF) (vs:List Value)=>vs=[OSeat.enc k]) (fun xs=>xs.Perm ks) h) (hk:ks.length≤1000000000000):
  jK Tryz.prog 153 [it,.func (.func 151) #[] #[]] h (fun v h'=>∃ (b:Option Addr) (c:Nat) (ys:List OSeat),ys.Perm ks∧ys.Pairwise (fun x y=>x.person≤y.person)∧v=.slice b ys.length c∧SlC OSeat.rp h' b c ys):=by
 refine ay Tryz.func153 rfl Tryz.ntmps153 rfl fun X hM hX=>?_
 refine ae (ai (ba (ac (ae (ai (aa ?_))))))
 refine a8 (tB Tryz.call210 (xW h it _ hit (fun xs hx=>by rw [hx.length_eq];exact hk)) rfl (fun h' xs bb c G hle hxs hG=>?_))
 refine ba (ac (ae (ai (aa (aa ?_)))))
 refine a8 (qH [] G [] Tryz.call211 (oU h' xs bb c G hG (by rw [hxs.length_eq];exact hk)) (by simp) rfl (fun G' hG'=>?_))
 obtain ⟨ys,hp,hs,hG'⟩:=hG'
 refine ac (ae (ai (aa (ba (ac ?_)))))
 refine gj OSeat.aN [] G' [] (by simp) hM hG' (fun h2 hle2 sl=>?_)
 exact dS [.slice bb xs.length c] Tryz.func153 rfl ⟨rfl,trivial⟩ ⟨bb,c,ys,hp.trans hxs,hs,by rw [hp.length_eq];rfl,sl⟩
end Go.Sg
namespace Go.Sg
open Go.Proofs
set_option maxHeartbeats 2000000
set_option maxRecDepth 100000
set_option linter.unusedVariables false
theorem lQ (h:HF) (q:aU) (ja:gr) (io:Int) (hq:aU.ok h q ja) (hsm:smR q.Register) (hk:Kinds h):jK Tryz.prog 65 [.agg (aU.cells q ja).toArray,I io] h (fun v h'=>∃ (rb0:Option Addr) (rc0:Nat),v=.tuple #[.slice rb0 ((aC q io).1).length rc0,I ((aC q io).2)]∧SlC Policy.rp h' rb0 rc0 ((aC q io).1)):=by
 refine ay Tryz.func65 U Tryz.ntmps65 U fun X hM hX=>?_
 have hs0:aC q io=aC q io:=rfl
 have hsv:=hsm.vers
 have hsl:=hsv.len
 refine sr (dy (fun b1=>ba (an (sr (az pU U (az lD U (aO 0 ty26 U U U (az mh U (az ml U (aO 0 ty3 U U U (aa (az zP U (aO 0 ty3 U U U (a8 (dg Tryz.call44 (nC h q.Register.Versions ja.Register.f4 ja.Register.f3 q.doc.At io q.known hq.Register.Versions ob hk) U (fun v1 h1 hle1 hp1=>?_))))))))))))))))
 obtain ⟨rb1,rc1,rfl,sl1⟩:=hp1
 refine aa (bG U U (bG U U (bG U U (ba (ba (an (ae (sr (aa (aJ U (ac ?_)))))))))))
 refine aE U (fun c1=>?_) (fun c1=>?_)
 ·have hs1:=hs0.trans (bt c1)
  refine sr (ba (an ?_))
  have hs2:aC q io=([],0):=hs1
  exact dS [.slice none 0 0,I 0] Tryz.func65 U rd ⟨none,0,congrArg (fun r:((List Policy)×Int)=>(.tuple #[.slice none r.1.length 0,I r.2]:Value)) hs2.symm,(by rw [hs2];exact SlC.nil)⟩
 ·have hs3:=hs0.trans (bf c1)
  refine ao (ae (sr (az pU U (az lD U (aO 0 ty26 U U U (bC lb U (aa (ac ?_))))))))
  let z2:Nat×Obj:=(b1,O (aU.cells q ja) 77)
  refine br (ι:=Nat×(List Policy)×Option Addr×Nat×LH) (fun i=>[(4,.slice i.2.2.1 i.2.1.length i.2.2.2.1),(5,I ((aA q.Register.Versions q.doc.At io q.known).2.1))]) (fun i=>h1) (fun i=>[z2]++(i.2.2.2.2)) (fun i=>i.1≤q.Register.Versions.length∧aC q io=((aC.K1 q io) i.2.1)∧ep Policy.rp 68 h1 i.2.1 i.2.2.1 i.2.2.2.1 i.2.2.2.2∧i.2.1.length≤0+i.1) ?_ (fun hx1=>?_)
  ·rintro ⟨i1,m9,qj,qi,sy⟩ ⟨bd,hs4,oE,xx⟩ e
   try dsimp only at bd oE xx
   try dsimp only
   refine sr (aa (aa (ba (an ?_))))
   refine gj Policy.aN ([z2]) sy ([]) ap hM oE (fun h3 hle3 sl3=>?_)
   have hs5:aC q io=(m9,(aA q.Register.Versions q.doc.At io q.known).2.1):=hs4
   exact dS [.slice qj m9.length qi,I ((aA q.Register.Versions q.doc.At io q.known).2.1)] Tryz.func65 U rd ⟨qj,qi,congrArg (fun r:((List Policy)×Int)=>(.tuple #[.slice qj r.1.length qi,I r.2]:Value)) hs5.symm,(by rw [hs5];exact sl3)⟩
  ·refine cp (ι:=Nat×(List Policy)×Option Addr×Nat×LH×List Version) (fun i=>[(4,.slice i.2.2.1 i.2.1.length i.2.2.2.1),(5,I ((aA q.Register.Versions q.doc.At io q.known).2.1)),(6,.slice rb1 (((aA q.Register.Versions q.doc.At io q.known).1).length) rc1),(28,.slice ja.Register.f4 q.Register.Versions.length ja.Register.f3),(29,I ((q.Register.Versions.length:Nat):Int)),(30,I ((i.1:Nat):Int))]) (fun i=>h1) (fun i=>[z2]++(i.2.2.2.2.1)) (fun i=>q.Register.Versions.drop i.1=i.2.2.2.2.2∧i.1≤q.Register.Versions.length∧aC q io=((aC.L1 q io (aC.K1 q io)) i.2.2.2.2.2 i.2.1)∧ep Policy.rp 68 h1 i.2.1 i.2.2.1 i.2.2.2.1 i.2.2.2.2.1∧i.2.1.length≤0+i.1) (fun i=>i.2.2.2.2.2.length) (0,[],none,0,[],q.Register.Versions) rd sw ⟨U,Nat.zero_le _,hs3,ep.nil,lo⟩ ?_
   rintro ⟨i1,m9,qj,qi,sy,s1⟩ ⟨hd1,bd,hs6,oE,xx⟩ ag1 e
   try dsimp only at hd1 bd oE xx
   rcases s1 with _ | ⟨y1,rz1⟩
   ·have dI:=cU hd1
    try dsimp only
    refine sr (aB (v':=.bool false) U (cb dI) (ac (ae (bg U (bO U ?_)))))
    exact hx1 (i1,m9,qj,qi,sy) _ ⟨bd,hs6,oE,lo⟩ rd
   ·have dH:=dY hd1
    have bh:=cY hd1
    have eT:=aT hd1
    have gx:=(hq.Register.Versions.mono Version.aN hle1).1.1
    try dsimp only
    refine sr (aB (v':=.bool true) U (cb dH) (ac (ae (bn U (ao (ae (aW (sr (a8 (gL lb ty70 (hq.Register.Versions.mono Version.aN hle1).1 (nthZ bh) (bB bh) U U U (fun q2 cs2 A2 ln2 rr2=>?_)))))))))))
    obtain ⟨r2,rfl,ok2⟩:=rr2
    refine ed ty70 A2 U U (bX zc70 (fun b4=>bN 0 ty70 U U U U U U (iv (L':=[(b4,O (Version.cells y1 r2) 70),z2]++(sy)) U (ac (sr ?_)))))
    refine aa (az nt U (aO 0 ty3 U U U (aG (v:=.bool (et ((aA q.Register.Versions q.doc.At io q.known).1) y1.No)) Tryz.call111 (pC h1 ((aA q.Register.Versions q.doc.At io q.known).1) rb1 rc1 y1.No sl1) U ?_)))
    refine ac ?_
    refine aE U (fun c3=>?_) (fun c3=>?_)
    ·have hs8:=hs6.trans (bt c3)
     refine ai (aa (az pV U (dq 0 ty68 U U U (a8 (ck (cells:=[.string y1.Policy.Name,.slice r2.Policy.fN y1.Policy.Kinds.length r2.Policy.fM,.slice r2.Policy.dP y1.Policy.Offices.length r2.Policy.dO,.slice r2.Policy.jT y1.Policy.Rules.length r2.Policy.jS,I y1.Policy.Change.Kind,I y1.Policy.Change.N,I y1.Policy.Change.No,.string y1.Policy.Change.Name,.slice r2.Policy.Change.ir y1.Policy.Change.L.length r2.Policy.Change.iE,I y1.Policy.Mode]) Al ty68 zc68 U U kr (fun b5=>?_))))))
     let z1:Nat×Obj:=(b5,O [.string y1.Policy.Name,.slice r2.Policy.fN y1.Policy.Kinds.length r2.Policy.fM,.slice r2.Policy.dP y1.Policy.Offices.length r2.Policy.dO,.slice r2.Policy.jT y1.Policy.Rules.length r2.Policy.jS,I y1.Policy.Change.Kind,I y1.Policy.Change.N,I y1.Policy.Change.No,.string y1.Policy.Change.Name,.slice r2.Policy.Change.ir y1.Policy.Change.L.length r2.Policy.Change.iE,I y1.Policy.Mode] 68)
     refine a8 (eK Policy.e5 ([z1,(b4,O (Version.cells y1 r2) 70),z2]) ([]) (fun G=>[z1,(b4,O (Version.cells y1 r2) 70),z2]++(G)) ap (fun _=>ap) Al ty68 zc68 U bytes68 oE U U (eZ 0 U (show bV Policy.rp h1 [.string y1.Policy.Name,.slice r2.Policy.fN y1.Policy.Kinds.length r2.Policy.fM,.slice r2.Policy.dP y1.Policy.Offices.length r2.Policy.dO,.slice r2.Policy.jT y1.Policy.Rules.length r2.Policy.jS,I y1.Policy.Change.Kind,I y1.Policy.Change.N,I y1.Policy.Change.No,.string y1.Policy.Change.Name,.slice r2.Policy.Change.ir y1.Policy.Change.L.length r2.Policy.Change.iE,I y1.Policy.Mode] ([y1.Policy]) from ⟨[.string y1.Policy.Name,.slice r2.Policy.fN y1.Policy.Kinds.length r2.Policy.fM,.slice r2.Policy.dP y1.Policy.Offices.length r2.Policy.dO,.slice r2.Policy.jT y1.Policy.Rules.length r2.Policy.jS,I y1.Policy.Change.Kind,I y1.Policy.Change.N,I y1.Policy.Change.No,.string y1.Policy.Change.Name,.slice r2.Policy.Change.ir y1.Policy.Change.L.length r2.Policy.Change.iE,I y1.Policy.Mode],[],U,U,⟨r2.Policy,U,ok2.Policy⟩,U⟩)) lo lo (fun ob2 oc2 G2 gr2=>?_))
     refine an (av (ai (aB (v':=I (((i1+1):Nat):Int)) U (bW ob) (aa (ac ?_)))))
     refine cE (L':=[z2]++(G2)) js ?_
     exact ag1 ((i1+1),(m9++[y1.Policy]),ob2,oc2,G2,rz1) _ (Nat.lt_succ_self _) ⟨bF hd1,aT hd1,hs8,gr2,lo⟩ rd
    ·have hs9:=hs6.trans (bf c3)
     refine ao (av (ai (aB (v':=I (((i1+1):Nat):Int)) U (bW ob) (aa (ac ?_)))))
     refine cE (L':=[z2]++(sy)) js ?_
     exact ag1 ((i1+1),m9,qj,qi,sy,rz1) _ (Nat.lt_succ_self _) ⟨bF hd1,aT hd1,hs9,oE,lo⟩ rd
theorem nG (h:HF) (seq:(List Holder)) (seq_v:Value) (hseq:Itr Tryz.prog seq_v lK seq h) (hsz:seq.length≤2000000):jK Tryz.prog 149 [.slice none 0 0,seq_v] h (fun v h'=>∃ (rb0:Option Addr) (rc0:Nat),v=.slice rb0 (cu seq).length rc0∧SlC Holder.rp h' rb0 rc0 (cu seq)):=by
 refine ay Tryz.func149 U Tryz.ntmps149 U fun X hM hX=>?_
 have hs0:cu seq=cu seq:=rfl
 refine sr (dy (fun b1=>an (ae (sr (aa (ac (aW ?_)))))))
 refine gf ?_
 refine dX (L':=([(b1,O [.slice none 0 0] 101)])++markB []) ap ?_
 refine j2 (it:=seq_v) (xs:=seq) (ι:=(List Holder)×Option Addr×Nat×LH×HF) [] (fun i=>i.2.2.2.2) (fun i=>[(b1,O [.slice i.2.1 i.1.length i.2.2.1] 101)]++(i.2.2.2.1)) (fun s i=>cu seq=((cu.L1 (cu.K1)) s i.1)∧ep Holder.rp 133 i.2.2.2.2 i.1 i.2.1 i.2.2.1 i.2.2.2.1∧HF.le h i.2.2.2.2∧i.1.length+s.length≤seq.length) (fun _=>False) (fun _=>False) 0 (fun _ _ _=>False) ([],none,0,[],h) Tryz.func149 U hseq U nP (fun _ _ _ _ _ hq=>hq) U (show [(b1,O [.slice none 0 0] 101)]=_ from U) ⟨hs0,ep.nil,(HF.le_refl h),(by simp)⟩ ?_ ?_ ?_ ?_ ?_
 ·rintro l1 dm1 lp1 y1 rz1 vs1 ⟨db,pk,pj,rn,hh1⟩ hr1 X hFR1 ⟨hs1,gJ,hl1,u1_0⟩ hl01 hlr1 hv1 hX hXM hlp1 nx1 rt1 ex1 pn1
  try dsimp only at gJ hl1 u1_0 hlr1
  obtain rfl:=hv1
  simp only [List.length_cons] at u1_0
  let z1:Nat×Obj:=(b1,O [.slice pk db.length pj] 101)
  let z3:Nat×Obj:=(dm1,.deferred (some []))
  refine dX (L':=[(l1,.loop lp1),z3,z1]++(rn++(markB []))) ap ?_
  refine ai (bX zc133 (fun b4=>bN 0 ty133 U U U U U U (iv (L':=[(b4,O (Holder.cells y1) 133),(l1,.loop lp1),z3,z1]++(rn++(markB []))) U ?_)))
  let z4:Nat×Obj:=(l1,.loop { lp1 with state:=.busy })
  let z5:Nat×Obj:=(b4,O (Holder.cells y1) 133)
  refine ac (j3 1 U hlp1 (aW (ai (aO 3 ty101 U U U (dq 0 ty133 U U U (a8 (ck (cells:=[I y1.Person,I y1.Weight]) vZ ty133 zc133 U U kr (fun b5=>a8 (eK Holder.e5 ([(b5,O [I y1.Person,I y1.Weight] 133),z5,z4,z3,z1]) (markB []) (fun G=>[(b5,O [I y1.Person,I y1.Weight] 133),z5,z4,z3,z1]++(markB []++(G))) ap (fun _=>ap) vZ ty133 zc133 U bytes133 (gJ.mono Holder.aN hlr1) U U (eZ 0 U (show bV Holder.rp hr1 [I y1.Person,I y1.Weight] ([y1]) from ⟨[I y1.Person,I y1.Weight],[],U,U,U,U⟩)) lo lo (fun ob2 oc2 G2 gr2=>?_))))))))))
  refine vO (rF ([(b5,O [I y1.Person,I y1.Weight] 133),z5,z4,z3,z1]) G2 (markB [])) ?_
  refine dW 4 ty101 U U U U U U (ac (av ?_))
  let z6:Nat×Obj:=(b1,O [.slice ob2 ((db++[y1]).length) oc2] 101)
  refine cE (L':=[z4,z3,z6]++(G2++(markB []))) js ?_
  refine dX (L':=rdH l1 dm1 lp1 (([z6]++(G2))++markB [])) ap ?_
  exact nx1 ((db++[y1]),ob2,oc2,G2,hr1) _ _ ⟨hs1,gr2,(hl1.t hlr1),(by simp only [List.length_append,List.length_cons,List.length_nil] at *;omega)⟩ (HF.le_refl _)
 ·rintro dm1 ⟨db,pk,pj,rn,hh1⟩ hn1 ⟨hs2,gJ,hl1,u1_0⟩ hln1 hl01
  try dsimp only at gJ hl1 u1_0 hln1
  let z2:Nat×Obj:=(b1,O [.slice pk db.length pj] 101)
  refine dX (L':=[z2]++(rn++(markB (dm1::[])))) ap ?_
  refine av (sr (aO 0 ty101 U U U (an ?_)))
  refine gj Holder.aN ([z2]) rn (markB (dm1::[])) ap hM (gJ.mono Holder.aN hln1) (fun h2 hle2 sl2=>?_)
  have hs3:cu seq=db:=hs2
  refine dX (L':=([z2])++markB (dm1::[])) ap ?_
  exact oT (dm1::[]) [.slice pk db.length pj] Tryz.func149 U rd ⟨pk,pj,congrArg (fun r:(List Holder)=>(.slice pk r.length pj:Value)) hs3.symm,(by rw [hs3];exact sl2)⟩
 ·exact fun _ _ _ hF=>hF.elim
 ·exact fun _ _ _ hF=>hF.elim
 ·exact fun _ _ _ _ hF=>hF.elim
theorem oM (h:HF) (seq:(List Holder)) (seq_v:Value) (hseq:Itr Tryz.prog seq_v lK seq h) (hsz:seq.length≤2000000):jK Tryz.prog 91 [seq_v] h (fun v h'=>∃ (rb0:Option Addr) (rc0:Nat),v=.slice rb0 (fd seq).length rc0∧SlC Holder.rp h' rb0 rc0 (fd seq)):=by
 refine ay Tryz.func91 U Tryz.ntmps91 U fun X hM hX=>?_
 have hs0:fd seq=fd seq:=rfl
 refine sr (an (sr (aa (a8 (dg Tryz.call149 (nG h seq seq_v hseq ob) U (fun v1 h1 hle1 hp1=>?_))))))
 obtain ⟨rb1,rc1,rfl,sl1⟩:=hp1
 refine an ?_
 have hs1:fd seq=(cu seq):=hs0
 exact dS [.slice rb1 ((cu seq).length) rc1] Tryz.func91 U rd ⟨rb1,rc1,congrArg (fun r:(List Holder)=>(.slice rb1 r.length rc1:Value)) hs1.symm,(by rw [hs1];exact sl1)⟩
theorem qV (h:HF) (m:(List (OSeat×Appoint))) (zJ:Nat) (m_q:Addr) (office:Int) (office_q:Addr) (hm:nZ OSeat.enc (kb Appoint.rp) h zJ m) (am:At h m_q [.map (some zJ)]) (aoffice:At h office_q [I office]) (hsz:m.length≤1000000000):Itr Tryz.prog (.func (.func 150) #[] (List.toArray [.pointer (some m_q),.pointer (some office_q)])) lK (bT m office) h:=by
 refine uD Tryz.call150 ?_
 intro yf ya yb C Sp Pn h1 A hle m1 m2 m3 hC hy
 refine jN EQ U Tryz.ntmps150 U fun X hXM hX=>?_
 have hs0:bT m office=[]++bT m office:=rfl
 refine sr (an (sr (eC ty159 (am.mono hle) U (a8 (dg Tryz.call154 (qY h1 m zJ (hm.mono (kb.mono Appoint.aN) hle)) U (fun v1 h2 hle1 hp1=>aa (a8 (dg Tryz.call153 (oJ h2 v1 (m.map Prod.fst) hp1 (by rw [List.length_map];omega)) U (fun v2 h3 hle2 hp2=>?_)))))))))
 obtain ⟨rb1,rc1,ys_,hper_,hsrt_,rfl,sl1⟩:=hp2
 have IB:bT m office=[]++((bT.L1 m office (bT.K1)) ys_ ):=yo (by obtain ⟨_,_,q⟩:=hm;exact q.nodup) hper_ hsrt_
 refine bC Fe U (aa (ac ?_))
 refine br (ι:=Nat×List Holder×LH×HF) (fun i=>[]) (fun i=>i.2.2.2) (fun i=>i.2.2.1) (fun i=>i.1≤ys_.length∧bT m office=i.2.1++((bT.K1))∧C i.2.1 i.2.2.2 i.2.2.1∧HF.le h3 i.2.2.2) ?_ (fun hx1=>?_)
 ·rintro ⟨i1,dn1,A1_,hh1⟩ ⟨bd,hs1,hC1_,hl1⟩ e
  try dsimp only at bd hC1_ hl1
  try dsimp only
  refine gf ?_
  have hs2:bT m office=dn1:=hs1.trans (List.append_nil _)
  exact uE [] (A:=A1_) EQ U (List.Sublist.refl _) (.inl (hs2 ▸ hC1_))
 ·refine cp (ι:=Nat×List Holder×LH×HF×List OSeat) (fun i=>[(0,.func yf ya yb),(1,.pointer (some m_q)),(2,.pointer (some office_q)),(11,.slice rb1 ys_.length rc1),(12,I ((ys_.length:Nat):Int)),(13,I ((i.1:Nat):Int))]) (fun i=>i.2.2.2.1) (fun i=>i.2.2.1) (fun i=>ys_.drop i.1=i.2.2.2.2∧i.1≤ys_.length∧bT m office=i.2.1++((bT.L1 m office (bT.K1)) i.2.2.2.2 )∧C i.2.1 i.2.2.2.1 i.2.2.1∧HF.le h3 i.2.2.2.1) (fun i=>i.2.2.2.2.length) (0,[],A,h3,ys_) rd sw ⟨U,Nat.zero_le _,IB,(m1 _ _ _ _ (hle1.t hle2) hC),(HF.le_refl h3)⟩ ?_
  rintro ⟨i1,dn1,A1_,hh1,s1⟩ ⟨hd1,bd,hs3,hC1_,hl1⟩ ag1 e
  try dsimp only at hd1 bd hC1_ hl1
  rcases s1 with _ | ⟨y1,rz1⟩
  ·have dI:=cU hd1
   try dsimp only
   refine sr (aB (v':=.bool false) U (cb dI) (ac (ae (bg U (bO U ?_)))))
   exact hx1 (i1,dn1,A1_,hh1) _ ⟨bd,hs3,hC1_,hl1⟩ trivial
  ·have dH:=dY hd1
   have bh:=cY hd1
   have eT:=aT hd1
   have gx:=sl1.1.1
   try dsimp only
   refine sr (aB (v':=.bool true) U (cb dH) (ac (ae (bn U (ao (ae (aW (sr (a8 (fQ (enc:=OSeat.cells) (fun _ _ _ e=>e) Fe ty212 (sl1.mono OSeat.aN hl1).1 (nthZ bh) (bB bh) U U U (fun q2 A2=>?_)))))))))))
   refine ed ty212 A2 U U (bX zc212 (fun b3=>bN 0 ty212 U U U U U U (iv (L':=[(b3,O (OSeat.cells y1) 212)]++(A1_)) U (ac (sr (eC ty159 (am.mono (((hle.t hle1).t hle2).t hl1)) U ?_))))))
   refine dq 0 ty212 U U U ?_
   obtain ⟨o2,hb2,hm2⟩:=(hm.mono (kb.mono Appoint.aN) (((hle.t hle1).t hle2).t hl1))
   refine a8 (oV (k:=y1) EX sM hb2 hm2 (je zv59) (show (kb Appoint.rp) _ (.agg (List.toArray [I 0,I 0,I 0,I 0,I 0,I 0,.bool false])) (Appoint.mk 0 0 0 0 0 0 false) from ⟨_,U,U⟩) U U (fun v4 hv2=>?_))
   obtain ⟨_,rfl,rfl⟩:=hv2
   refine bX zc59 (fun b4=>bN 0 ty59 U U U U U U (iv (L':=[(b4,O (Appoint.cells (mgetD m y1 (Appoint.mk 0 0 0 0 0 0 false))) 59),(b3,O (OSeat.cells y1) 212)]++(A1_)) U (ac (sr ?_))))
   refine az Gh U (aO 1 ty3 U U U (eC ty3 (aoffice.mono (((hle.t hle1).t hle2).t hl1)) U (aJ U (aa ?_))))
   refine tq 4 [(0,.func yf ya yb),(1,.pointer (some m_q)),(2,.pointer (some office_q)),(7,Q b4),(11,.slice rb1 ys_.length rc1),(12,I ((ys_.length:Nat):Int)),(13,I ((i1:Nat):Int)),(28,.bool ((y1.office==office)&&(!((mgetD m y1 (Appoint.mk 0 0 0 0 0 0 false)).Gone))))] (fun hk1=>?_) (fun e=>?_)
   ·refine ar 24 U (fun c1=>?_) (fun c1=>?_)
    ·refine az zR U (aO 0 ty4 U U U (cV U (ah U ?_)))
     exact hk1 _ ⟨U,U,U,U,U,U,U,(cb (cW c1)),trivial⟩
    ·refine kq (bP (ah U ?_))
     exact hk1 _ ⟨U,U,U,U,U,U,U,(cb (cX c1)),trivial⟩
   refine aa ?_
   refine ar 29 U (fun c2=>?_) (fun c2=>?_)
   ·have hs5:=hs3.trans (congrArg (dn1++·) (bt c2))
    refine aa (az tU U (aO 0 ty3 U U U (az rK U (aO 0 ty3 U U U (a8 (fw (cells:=[I ((mgetD m y1 (Appoint.mk 0 0 0 0 0 0 false)).Person),I ((mgetD m y1 (Appoint.mk 0 0 0 0 0 0 false)).Weight)]) (places:=[(0,1),(1,1)]) Tryz.underlying133 zc133 kr kr ?_))))))
    have hx1:bT m office=dn1++((Holder.mk ((mgetD m y1 (Appoint.mk 0 0 0 0 0 0 false)).Person) ((mgetD m y1 (Appoint.mk 0 0 0 0 0 0 false)).Weight))::(bT.L1 m office (bT.K1) rz1 )):=hs5
    refine a8 (lA ([(b4,O (Appoint.cells (mgetD m y1 (Appoint.mk 0 0 0 0 0 0 false))) 59),(b3,O (OSeat.cells y1) 212)]) A1_ ap (hy dn1 (Holder.mk ((mgetD m y1 (Appoint.mk 0 0 0 0 0 0 false)).Person) ((mgetD m y1 (Appoint.mk 0 0 0 0 0 0 false)).Weight)) _ _ _ _ hx1 ((hle1.t hle2).t hl1) hC1_ U) U U (fun h4 A3 hle3 hC1=>?_) (fun h5 A4 hle4 hS1=>?_) (fun ch1 h6 A5 hle5 hP1 e=>i6 (pM [] (A:=A5) EQ (List.sublist_append_right _ _) hP1)))
    ·have hs6:bT m office=(dn1++[(Holder.mk ((mgetD m y1 (Appoint.mk 0 0 0 0 0 0 false)).Person) ((mgetD m y1 (Appoint.mk 0 0 0 0 0 0 false)).Weight))])++((bT.L1 m office (bT.K1) rz1 )):=hx1.trans ap
     refine cV U (ah U (ac (bg U (ao (av (ai (aB (v':=I (((i1+1):Nat):Int)) U (bW ob) (aa (ac ?_)))))))))
     refine cE (L':=A3) js ?_
     exact ag1 ((i1+1),(dn1++[(Holder.mk ((mgetD m y1 (Appoint.mk 0 0 0 0 0 0 false)).Person) ((mgetD m y1 (Appoint.mk 0 0 0 0 0 0 false)).Weight))]),A3,h4,rz1) _ (Nat.lt_succ_self _) ⟨bF hd1,aT hd1,hs6,hC1,(hl1.t hle3)⟩ rd
    ·refine cV U (ah U (ac (bn U ?_)))
     refine gf ?_
     exact pL [] (A:=A4) EQ U js (.inr hS1)
   ·have hs7:=hs3.trans (congrArg (dn1++·) (bf c2))
    refine kq (kq (kq (kq (ah U (ac (bg U (ao (av (ai (aB (v':=I (((i1+1):Nat):Int)) U (bW ob) (aa (ac ?_))))))))))))
    refine cE (L':=A1_) js ?_
    exact ag1 ((i1+1),dn1,A1_,hh1,rz1) _ (Nat.lt_succ_self _) ⟨bF hd1,aT hd1,hs7,hC1_,hl1⟩ rd
end Go.Sg
namespace Go.Sg
open Go.Proofs
set_option maxHeartbeats 2000000
set_option maxRecDepth 100000
set_option linter.unusedVariables false
theorem sK (h:HF) (m:(List (OSeat×Appoint))) (zJ:Nat) (office:Int) (hm:nZ OSeat.enc (kb Appoint.rp) h zJ m) (hsz:m.length≤1000000000):jK Tryz.prog 92 [.map (some zJ),I office] h (fun v h'=>∃ (rv0:Value),v=rv0∧Itr Tryz.prog rv0 lK (gU m office) h'):=by
 refine ay Tryz.func92 U Tryz.ntmps92 U fun X hM hX=>?_
 have hs0:gU m office=gU m office:=rfl
 refine sr (dy (fun b1=>dy (fun b2=>an (sr (cq 1 U hM (fun h1 hle1 hb1=>cq 0 U hM (fun h2 hle2 hb2=>a8 (fV U U (an ?_)))))))))
 have hs1:gU m office=(bT m office):=hs0
 exact dS [.func (.func 150) #[] #[Q b1,Q b2]] Tryz.func92 U rd ⟨(.func (.func 150) #[] #[Q b1,Q b2]),congrArg (fun r:(List Holder)=>((.func (.func 150) #[] #[Q b1,Q b2]):Value)) hs1.symm,(by rw [hs1];exact (qV h2 m zJ ⟨b1,0,none⟩ office ⟨b2,0,none⟩ (hm.mono (kb.mono Appoint.aN) (hle1.t hle2)) ((dR hb1).mono hle2) (dR hb2) ob))⟩
theorem qo (h:HF) (x:Appoint) (v0:Int) (v0_q:Addr) (v1:Int) (v1_q:Addr) (av0:At h v0_q [I v0]) (av1:At h v1_q [I v1]):Ret Tryz.prog 155 [.agg (Appoint.cells x).toArray,.pointer (some v0_q),.pointer (some v1_q)] h (.tuple #[.agg (OSeat.cells ((eR x v0 v1).1)).toArray,.bool ((eR x v0 v1).2)]):=by
 refine ay Tryz.func155 U Tryz.ntmps155 U fun X hM hX=>?_
 have hs0:eR x v0 v1=eR x v0 v1:=rfl
 refine sr (dy (fun b1=>bX zc212 (fun b2=>an (ae ?_))))
 let z1:Nat×Obj:=(b1,O (Appoint.cells x) 59)
 refine GM ([(b2,O [I x.Office,I x.Person] 212),z1]) [(4,Q b2),(5,.bool (decide (x.At≤v0)&&decide (x.Known≤v1)))] (fun e=>?_) (fun hk1=>?_)
 rotate_left
 ·refine ga ([z1]) mixed kr jn (fun eX _=>?_)
  refine tf 0 U U (fun _ _ _=>dB vW U) (tf 1 U U (fun _ _ hj=>gu ty3 U (hj.nth (i:=0) U) U) ?_)
  refine tf 2 U U (fun _ _ _=>dB tU U) (tf 3 U U (fun _ _ hj=>gu ty3 U (hj.nth (i:=0) U) U) ?_)
  refine tf 5 U U (fun _ _ _=>dB pW U) (tf 6 U U (fun _ _ hj=>gu ty3 U (hj.nth (i:=0) U) U) ?_)
  refine tf 7 U U (fun _ _ hj=>gd ty3 (av0.mono hj.1) U) (tf 8 U U (fun _ _ _=>ib U) ?_)
  refine tm 9 U ?_
  refine eo 15 U (fun c1=>?_) (fun c1=>?_)
  ·have c1p:=of_decide_eq_true c1
   refine tf 10 U U (fun _ _ _=>dB vX U) (tf 11 U U (fun _ _ hj=>gu ty3 U (hj.nth (i:=0) U) U) ?_)
   refine tf 12 U U (fun _ _ hj=>gd ty3 (av1.mono hj.1) U) (tf 13 U U (fun _ _ _=>ib U) ?_)
   refine tf 14 U U (fun _ _ _=>co U) (tn 4 U (fw (cells:=[I x.Office,I x.Person]) (places:=[(0,1),(1,1)]) DK zc212 kr kr ?_))
   refine ⟨jn,(tn 15 U (wm 0 ty212 U U U U U U ?_))⟩
   refine ⟨jn,(tf 16 U U (fun _ _ _=>fO) ?_)⟩
   refine bY kr ?_
   exact hk1 _ ⟨U,(cb (show decide (x.Known≤v1)=(decide (x.At≤v0)&&decide (x.Known≤v1)) from by rw [c1] <;> rfl)),trivial⟩
  ·have c1p:=of_decide_eq_false c1
   refine tk 10 U U (tk 11 U U (tk 12 U U ?_))
   refine tk 13 U U (tf 14 U U (fun _ _ _=>co U) (tn 4 U (fw (cells:=[I x.Office,I x.Person]) (places:=[(0,1),(1,1)]) DK zc212 kr kr ?_)))
   refine ⟨jn,(tn 15 U (wm 0 ty212 U U U U U U ?_))⟩
   refine ⟨jn,(tf 16 U U (fun _ _ _=>fO) ?_)⟩
   refine bY kr ?_
   exact hk1 _ ⟨U,(cb (show false=(decide (x.At≤v0)&&decide (x.Known≤v1)) from by rw [c1] <;> rfl)),trivial⟩
 have hs1:eR x v0 v1=((OSeat.mk x.Office x.Person),(decide (x.At≤v0)&&decide (x.Known≤v1))):=hs0
 exact aw [.agg (List.toArray [I x.Office,I x.Person]),.bool (decide (x.At≤v0)&&decide (x.Known≤v1))] Tryz.func155 U hX ⟨⟨0,_,_,_,_,U,U,.inl ⟨ty212,U⟩⟩,U,trivial⟩ (congrArg (fun r:(OSeat×Bool)=>(.tuple #[.agg (OSeat.cells r.1).toArray,.bool r.2]:Value)) hs1.symm)
theorem oZ (h:HF) (l:(List Appoint)) (eW:Option Addr) (eV:Nat) (key:(Appoint→OSeat×Bool)) (key_v:Value) (later:(Appoint→Appoint→Bool)) (later_v:Value) (hl:SlC Appoint.rp h eW eV l) (hkey:∀ (h':HF) (cG:Appoint),HF.le h h'→uO Tryz.prog key_v [.agg (Appoint.cells cG).toArray] h' [] (.tuple #[.agg (OSeat.cells ((key cG).1)).toArray,.bool ((key cG).2)])) (hlater:∀ (h':HF) (cG:Appoint) (Iz:Appoint),HF.le h h'→uO Tryz.prog later_v [.agg (Appoint.cells cG).toArray,.agg (Appoint.cells Iz).toArray] h' [] (.bool (later cG Iz))):jK Tryz.prog 156 [.slice eW l.length eV,key_v,later_v] h (fun v h'=>∃ (rk0:Nat),v=.map (some rk0)∧nZ OSeat.enc (kb Appoint.rp) h' rk0 (ct l key later)):=by
 refine ay Tryz.func156 U Tryz.ntmps156 U fun X hM hX=>?_
 have hs0:ct l key later=ct l key later:=rfl
 refine sr (an (sr (a8 (og (fun b1=>an (ae (sr (aa (bC na U (aa (ac ?_)))))))))))
 refine br (ι:=Nat×(List (OSeat×Appoint))×Obj) (fun i=>[(7,.map (some b1))]) (fun i=>h) (fun i=>[(b1,i.2.2)]) (fun i=>i.1≤l.length∧ct l key later=((ct.K1) i.2.1)∧gy OSeat.enc (kb Appoint.rp) h i.2.2 i.2.1∧i.2.1.length≤0+i.1) ?_ (fun hx1=>?_)
 ·rintro ⟨i1,db,j9⟩ ⟨bd,hs1,gJ,nT⟩ e
  try dsimp only at bd gJ nT
  try dsimp only
  refine sr (aa (an ?_))
  refine fD 0 U hM (fun h1 hle1 hb1=>?_)
  have mc1:nZ OSeat.enc (kb Appoint.rp) h1 b1 db:=⟨_,hb1,gJ.mono (kb.mono Appoint.aN) hle1⟩
  have hs2:ct l key later=db:=hs1
  exact dS [.map (some b1)] Tryz.func156 U rd ⟨b1,congrArg (fun r:(List (OSeat×Appoint))=>(.map (some b1):Value)) hs2.symm,(by rw [hs2];exact mc1)⟩
 ·refine cp (ι:=Nat×(List (OSeat×Appoint))×Obj×List Appoint) (fun i=>[(1,key_v),(2,later_v),(7,.map (some b1)),(15,.slice eW l.length eV),(16,I ((l.length:Nat):Int)),(17,I ((i.1:Nat):Int))]) (fun i=>h) (fun i=>[(b1,i.2.2.1)]) (fun i=>l.drop i.1=i.2.2.2∧i.1≤l.length∧ct l key later=((ct.L1 key later (ct.K1)) i.2.2.2 i.2.1)∧gy OSeat.enc (kb Appoint.rp) h i.2.2.1 i.2.1∧i.2.1.length≤0+i.1) (fun i=>i.2.2.2.length) (0,[],.map #[] 0,l) rd sw ⟨U,Nat.zero_le _,hs0,(gy.nil (enc:=OSeat.enc) (V:=(kb Appoint.rp)) (h:=h)),lc⟩ ?_
  rintro ⟨i1,db,j9,s1⟩ ⟨hd1,bd,hs3,gJ,nT⟩ ag1 e
  try dsimp only at hd1 bd gJ nT
  rcases s1 with _ | ⟨y1,rz1⟩
  ·have dI:=cU hd1
   try dsimp only
   refine sr (aB (v':=.bool false) U (cb dI) (ac (ae (bg U (bO U ?_)))))
   exact hx1 (i1,db,j9) _ ⟨bd,hs3,gJ,lc⟩ rd
  ·have dH:=dY hd1
   have bh:=cY hd1
   have eT:=aT hd1
   have gx:=hl.1.1
   try dsimp only
   refine sr (aB (v':=.bool true) U (cb dH) (ac (ae (bn U (ao (ae (aW (sr (a8 (fQ (enc:=Appoint.cells) (fun _ _ _ e=>e) na ty59 hl.1 (nthZ bh) (bB bh) U U U (fun q2 A2=>?_)))))))))))
   refine ed ty59 A2 U U (bX zc59 (fun b5=>bN 0 ty59 U U U U U U (ac (sr (aa (dq 0 ty59 U U U (a8 (nl (v:=.tuple #[.agg (OSeat.cells ((key y1).1)).toArray,.bool ((key y1).2)]) [] (List.nil_sublist _) (hkey h y1 (HF.le_refl _)) U U ?_))))))))
   refine aa (bG U U (bG U U (bX zc212 (fun b6=>bN 0 ty212 U U U U U U (an (sr (aa (dq 0 ty212 U U U (a8 (wn 2 (k:=(key y1).1) EX sM U gJ (je zv59) (show (kb Appoint.rp) _ (.agg (List.toArray [I 0,I 0,I 0,I 0,I 0,I 0,.bool false])) (Appoint.mk 0 0 0 0 0 0 false) from ⟨_,U,U⟩) U U (fun v2 hv2=>?_)))))))))))
   obtain ⟨_,rfl,rfl⟩:=hv2
   refine aa (bG U U (bG U U (bX zc59 (fun b7=>bN 0 ty59 U U U U U U (an (sr (aa (aa ?_))))))))
   refine tq 10 [(1,key_v),(2,later_v),(7,.map (some b1)),(9,Q b5),(10,Q b6),(15,.slice eW l.length eV),(16,I ((l.length:Nat):Int)),(17,I ((i1:Nat):Int)),(44,.bool ((key y1).2&&((!(mhas db ((key y1).1)))||(!(later (mgetD db ((key y1).1) (Appoint.mk 0 0 0 0 0 0 false)) y1)))))] (fun hk1=>?_) (fun e=>?_)
   ·refine ar 34 U (fun c1=>?_) (fun c1=>?_)
    ·refine aa (cV U (aa ?_))
     refine tq 6 [(1,key_v),(2,later_v),(7,.map (some b1)),(9,Q b5),(10,Q b6),(15,.slice eW l.length eV),(16,I ((l.length:Nat):Int)),(17,I ((i1:Nat):Int)),(34,.bool true),(43,.bool ((!(mhas db ((key y1).1)))||(!(later (mgetD db ((key y1).1) (Appoint.mk 0 0 0 0 0 0 false)) y1))))] (fun hk2=>?_) (fun e=>?_)
     ·refine ar 37 U (fun c2=>?_) (fun c2=>?_)
      ·refine kq (kq (bP (ah U ?_)))
       exact hk2 _ ⟨U,U,U,U,U,U,U,U,U,(cb (dL c2)),trivial⟩
      ·refine aa (dq 0 ty59 U U U (dq 2 ty59 U U U (a8 (nl (v:=.bool (later (mgetD db ((key y1).1) (Appoint.mk 0 0 0 0 0 0 false)) y1)) [] (List.nil_sublist _) (hlater h (mgetD db ((key y1).1) (Appoint.mk 0 0 0 0 0 0 false)) y1 (HF.le_refl _)) U U ?_))))
       refine cV U (ah U ?_)
       exact hk2 _ ⟨U,U,U,U,U,U,U,U,U,(cb (dM c2)),trivial⟩
     refine ah U ?_
     exact hk1 _ ⟨U,U,U,U,U,U,U,U,(cb (cW c1)),trivial⟩
    ·refine kq (kq (kq (kq (bP (ah U ?_)))))
     exact hk1 _ ⟨U,U,U,U,U,U,U,U,(cb (cX c1)),trivial⟩
   refine ac ?_
   refine aE U (fun c3=>?_) (fun c3=>?_)
   ·have hs5:=hs3.trans (bt c3)
    refine ai (aa (dq 1 ty212 U U U (dq 2 ty59 U U U (a8 (j5 3 (k:=(key y1).1) (x:=y1) EX sM U gJ U U ⟨_,U,U⟩ (fun mo1 hm1=>ac (av (ai (aB (v':=I (((i1+1):Nat):Int)) U (bW ob) ?_)))))))))
    refine aa (ac ?_)
    refine cE (L':=[(b1,mo1)]) js ?_
    exact ag1 ((i1+1),(mput db ((key y1).1) y1),mo1,rz1) _ (Nat.lt_succ_self _) ⟨bF hd1,aT hd1,hs5,hm1,(by have:=gh db ((key y1).1) y1;first | omega | (simp only [List.length_nil,List.length_cons] at *;omega))⟩ rd
   ·have hs6:=hs3.trans (bf c3)
    refine ao (av (ai (aB (v':=I (((i1+1):Nat):Int)) U (bW ob) (aa (ac ?_)))))
    refine cE (L':=[(b1,j9)]) js ?_
    exact ag1 ((i1+1),db,j9,rz1) _ (Nat.lt_succ_self _) ⟨bF hd1,aT hd1,hs6,gJ,lc⟩ rd
theorem qn (h:HF) (a:Appoint) (gv:Appoint)  : Ret Tryz.prog 157 [.agg (Appoint.cells a).toArray,.agg (Appoint.cells gv).toArray] h (.bool (ig a gv)):=by
 refine ay Tryz.func157 U Tryz.ntmps157 U fun X hM hX=>?_
 have hs0:ig a gv=ig a gv:=rfl
 refine sr (dy (fun b1=>dy (fun b2=>an (sr (az pW U (aO 1 ty3 U U U (az pW U (aO 0 ty3 U U U (aJ U (an ?_))))))))))
 exact aw [.bool (decide (gv.At < a.At))] Tryz.func157 U hX rd (cs hs0)
theorem rZ (h:HF) (l:(List Appoint)) (eW:Option Addr) (eV:Nat) (io:Int) (known:Int) (hl:SlC Appoint.rp h eW eV l):jK Tryz.prog 93 [.slice eW l.length eV,I io,I known] h (fun v h'=>∃ (rk0:Nat),v=.map (some rk0)∧nZ OSeat.enc (kb Appoint.rp) h' rk0 (e7 l io known)):=by
 refine ay Tryz.func93 U Tryz.ntmps93 U fun X hM hX=>?_
 have hs0:e7 l io known=e7 l io known:=rfl
 refine sr (dy (fun b1=>dy (fun b2=>an (sr (cq 1 U hM (fun h1 hle1 hb1=>cq 0 U hM (fun h2 hle2 hb2=>a8 (fV U U (an (sr (aa (aa (a8 (dg Tryz.call156 (oZ h2 l eW eV (fun cG=>eR cG io known) (.func (.func 155) #[] #[Q b1,Q b2]) ig (.func (.func 157) #[] #[]) (hl.mono Appoint.aN (hle1.t hle2)) (fun h' cG hle =>iZ Tryz.call155 (qo h' cG io ⟨b1,0,none⟩ known ⟨b2,0,none⟩  (((dR hb1).mono hle2).mono hle) ((dR hb2).mono hle))) (fun h' cG Iz hle =>iZ Tryz.call157 (qn h' cG Iz    ))) U (fun v1 h3 hle3 hp1=>?_)))))))))))))))
 obtain ⟨rk1,rfl,mo1⟩:=hp1
 refine an ?_
 have hs1:e7 l io known=(ct l (fun cG=>eR cG io known) ig):=hs0
 exact dS [.map (some rk1)] Tryz.func93 U rd ⟨rk1,congrArg (fun r:(List (OSeat×Appoint))=>(.map (some rk1):Value)) hs1.symm,(by rw [hs1];exact mo1)⟩
theorem nM (h:HF) (l:(List Appoint)) (eW:Option Addr) (eV:Nat) (office:Int) (bQ:Int) (known:Int) (hl:SlC Appoint.rp h eW eV l) (hsz:l.length≤2000000):jK Tryz.prog 47 [.slice eW l.length eV,I office,I bQ,I known] h (fun v h'=>∃ (rb0:Option Addr) (rc0:Nat),v=.tuple #[.slice rb0 ((cm l office bQ known).1).length rc0,I ((cm l office bQ known).2)]∧SlC Holder.rp h' rb0 rc0 ((cm l office bQ known).1)):=by
 refine ay CQ U Tryz.ntmps47 U fun X hM hX=>?_
 have hs0:cm l office bQ known=cm l office bQ known:=rfl
 refine sr (ba (an (ae (sr (aa (aG (v:=I (cQ l)) Tryz.call51 (o9 h l eW eV hl) U (an (sr (aa (aJ U (ac ?_)))))))))))
 refine aE U (fun c1=>?_) (fun c1=>?_)
 ·have hs1:=hs0.trans (bt c1)
  refine sr (aa (ba (an ?_)))
  have hs2:cm l office bQ known=([],(cQ l)):=hs1
  exact dS [.slice none 0 0,I (cQ l)] CQ U rd ⟨none,0,congrArg (fun r:((List Holder)×Int)=>(.tuple #[.slice none r.1.length 0,I r.2]:Value)) hs2.symm,(by rw [hs2];exact SlC.nil)⟩
 ·have hs3:=hs0.trans (bf c1)
  refine ao (ae (sr (aa (aG (v:=.bool (dx office)) Tryz.call89 (lh h office ) U (cV U (aa ?_))))))
  refine tq 4 [(0,.slice eW l.length eV),(1,I office),(2,I bQ),(3,I known),(22,.bool ((!(dx office))||(!(bI bQ))))] (fun hk1=>?_) (fun e=>?_)
  ·refine ar 18 U (fun c2=>?_) (fun c2=>?_)
   ·refine kq (bP (ah U ?_))
    exact hk1 _ ⟨U,U,U,U,(cb (dL c2)),trivial⟩
   ·refine aa (aG (v:=.bool (bI bQ)) Au (jf h bQ ) U (cV U (ah U ?_)))
    exact hk1 _ ⟨U,U,U,U,(cb (dM c2)),trivial⟩
  refine aa ?_
  refine tq 4 [(0,.slice eW l.length eV),(1,I office),(2,I bQ),(3,I known),(27,.bool (((!(dx office))||(!(bI bQ)))||(!(bI known))))] (fun hk2=>?_) (fun e=>?_)
  ·refine ar 23 U (fun c3=>?_) (fun c3=>?_)
   ·refine kq (bP (ah U ?_))
    exact hk2 _ ⟨U,U,U,U,(cb (dL c3)),trivial⟩
   ·refine aa (aG (v:=.bool (bI known)) Au (jf h known ) U (cV U (ah U ?_)))
    exact hk2 _ ⟨U,U,U,U,(cb (dM c3)),trivial⟩
  refine ac ?_
  refine aE U (fun c4=>?_) (fun c4=>?_)
  ·have hs4:=hs3.trans (bt c4)
   refine sr (ba (an ?_))
   have hs5:cm l office bQ known=([],1):=hs4
   exact dS [.slice none 0 0,I 1] CQ U rd ⟨none,0,congrArg (fun r:((List Holder)×Int)=>(.tuple #[.slice none r.1.length 0,I r.2]:Value)) hs5.symm,(by rw [hs5];exact SlC.nil)⟩
  ·have hs6:=hs3.trans (bf c4)
   refine ao (sr (aa (aa (aa (a8 (dg Tryz.call93 (rZ h l eW eV bQ known hl) U (fun v1 h1 hle1 hp1=>?_)))))))
   obtain ⟨rk1,rfl,mo1⟩:=hp1
   refine aa (a8 (dg Tryz.call92 (sK h1 (e7 l bQ known) rk1 office mo1 (by have:=pB l bQ known;omega)) U (fun v2 h2 hle2 hp2=>?_)))
   obtain ⟨_,rfl,mo2⟩:=hp2
   refine a8 (dg Tryz.call91 (oM h2 (gU (e7 l bQ known) office) v2 mo2 (by have h1:=pB l bQ known;have h2:=vn (e7 l bQ known) office;omega)) U (fun v3 h3 hle3 hp3=>?_))
   obtain ⟨rb1,rc1,rfl,sl1⟩:=hp3
   refine ba (an ?_)
   have hs7:cm l office bQ known=((fd (gU (e7 l bQ known) office)),0):=hs6
   exact dS [.slice rb1 ((fd (gU (e7 l bQ known) office)).length) rc1,I 0] CQ U rd ⟨rb1,rc1,congrArg (fun r:((List Holder)×Int)=>(.tuple #[.slice rb1 r.1.length rc1,I r.2]:Value)) hs7.symm,(by rw [hs7];exact sl1)⟩
theorem lx (h:HF) (q:aU) (ja:gr) (p:Policy) (fb:eO) (bQ:Int) (hq:aU.ok h q ja) (hp:Policy.ok h p fb) (hsm:smR q.Register) (hszp:p.Offices.length≤2000000):jK Tryz.prog 66 [.agg (aU.cells q ja).toArray,.agg (Policy.cells p fb).toArray,I bQ] h (fun v h'=>∃ (rb0:Option Addr) (rc0:Nat),v=.slice rb0 (aD q p bQ).length rc0∧SlC (Rp.sl Holder.rp) h' rb0 rc0 (aD q p bQ)):=by
 refine ay Tryz.func66 U Tryz.ntmps66 U fun X hM hX=>?_
 have hs0:aD q p bQ=aD q p bQ:=rfl
 refine sr (dy (fun b1=>dy (fun b2=>an (ae (sr (az jv U (aO 0 ty62 U U U (bC kL U (aa (ac ?_))))))))))
 let z2:Nat×Obj:=(b1,O (aU.cells q ja) 77)
 let z3:Nat×Obj:=(b2,O (Policy.cells p fb) 68)
 refine br (ι:=Nat×(List (List Holder))×Option Addr×Nat×LH×HF) (fun i=>[(6,.slice i.2.2.1 i.2.1.length i.2.2.2.1)]) (fun i=>i.2.2.2.2.2) (fun i=>[z3,z2]++(i.2.2.2.2.1)) (fun i=>i.1≤p.Offices.length∧aD q p bQ=((aD.K1) i.2.1)∧ep (Rp.sl Holder.rp) 101 i.2.2.2.2.2 i.2.1 i.2.2.1 i.2.2.2.1 i.2.2.2.2.1∧i.2.1.length≤0+i.1∧HF.le h i.2.2.2.2.2) ?_ (fun hx1=>?_)
 ·rintro ⟨i1,m8,BO,BN,Ga,hh1⟩ ⟨bd,hs1,zi,F9,hl1⟩ e
  try dsimp only at bd zi F9 hl1
  try dsimp only
  refine sr (aa (an ?_))
  refine gj (Rp.oe Holder.aN) ([z3,z2]) Ga ([]) ap hM zi (fun h3 hle3 sl3=>?_)
  have hs2:aD q p bQ=m8:=hs1
  exact dS [.slice BO m8.length BN] Tryz.func66 U rd ⟨BO,BN,congrArg (fun r:(List (List Holder))=>(.slice BO r.length BN:Value)) hs2.symm,(by rw [hs2];exact sl3)⟩
 ·refine cp (ι:=Nat×(List (List Holder))×Option Addr×Nat×LH×HF×List ByteArray) (fun i=>[(2,I bQ),(3,Q b1),(6,.slice i.2.2.1 i.2.1.length i.2.2.2.1),(12,I ((p.Offices.length:Nat):Int)),(13,I ((i.1:Nat):Int))]) (fun i=>i.2.2.2.2.2.1) (fun i=>[z3,z2]++(i.2.2.2.2.1)) (fun i=>p.Offices.drop i.1=i.2.2.2.2.2.2∧i.1≤p.Offices.length∧aD q p bQ=((aD.L1 q bQ (aD.K1)) i.2.2.2.2.2.2 i.1 i.2.1)∧ep (Rp.sl Holder.rp) 101 i.2.2.2.2.2.1 i.2.1 i.2.2.1 i.2.2.2.1 i.2.2.2.2.1∧i.2.1.length≤0+i.1∧HF.le h i.2.2.2.2.2.1) (fun i=>i.2.2.2.2.2.2.length) (0,[],none,0,[],h,p.Offices) rd sw ⟨U,Nat.zero_le _,hs0,ep.nil,lo,(HF.le_refl h)⟩ ?_
  rintro ⟨i1,m8,BO,BN,Ga,hh1,s1⟩ ⟨hd1,bd,hs3,zi,F9,hl1⟩ ag1 e
  try dsimp only at hd1 bd zi F9 hl1
  rcases s1 with _ | ⟨y1,rz1⟩
  ·have dI:=cU hd1
   try dsimp only
   refine sr (aB (v':=.bool false) U (cb dI) (ac (ae (bg U (bO U ?_)))))
   exact hx1 (i1,m8,BO,BN,Ga,hh1) _ ⟨bd,hs3,zi,lo,hl1⟩ rd
  ·have dH:=dY hd1
   have bh:=cY hd1
   have eT:=aT hd1
   have gx:=hp.Offices.1.1
   try dsimp only
   refine sr (aB (v':=.bool true) U (cb dH) (ac (ae (bn U (ao (ae (aW (sr (aa (an (sr (az pU U (az rO U (aO 1 ty22 U U U ?_))))))))))))))
   refine aa (aa (az zP U (aO 1 ty3 U U U (a8 (dg Tryz.call47 (nM hh1 q.Register.Appoints ja.Register.gE ja.Register.gD ((i1:Nat):Int) bQ q.known (hq.Register.Appoints.mono Appoint.aN hl1) hsm.2.1) U (fun v2 h4 hle4 hp2=>?_))))))
   obtain ⟨rb2,rc2,rfl,sl4⟩:=hp2
   refine aa (bG U U (bG U U (ba (an (ai (aa (aa (a8 (ck (cells:=[.slice rb2 (((cm q.Register.Appoints ((i1:Nat):Int) bQ q.known).1).length) rc2]) te ty101 zc101 U U kr (fun b4=>?_))))))))))
   let z1:Nat×Obj:=(b4,O [.slice rb2 (((cm q.Register.Appoints ((i1:Nat):Int) bQ q.known).1).length) rc2] 101)
   refine a8 (eK (Rp.DV Holder.aN) ([z1,z3,z2]) ([]) (fun G=>[z1,z3,z2]++(G)) ap (fun _=>ap) te ty101 zc101 U bytes101 (zi.mono (Rp.oe Holder.aN) hle4) U U (eZ 0 U (show bV (Rp.sl Holder.rp) h4 [.slice rb2 (((cm q.Register.Appoints ((i1:Nat):Int) bQ q.known).1).length) rc2] ([(cm q.Register.Appoints ((i1:Nat):Int) bQ q.known).1]) from ⟨[.slice rb2 (((cm q.Register.Appoints ((i1:Nat):Int) bQ q.known).1).length) rc2],[],U,U,⟨rb2,rc2,U,sl4⟩,U⟩)) lo lo (fun ob2 oc2 G2 gr2=>?_))
   refine an (av (ai (aB (v':=I (((i1+1):Nat):Int)) U (bW ob) (aa (ac ?_)))))
   refine cE (L':=[z3,z2]++(G2)) js ?_
   exact ag1 ((i1+1),(m8++[(cm q.Register.Appoints ((i1:Nat):Int) bQ q.known).1]),ob2,oc2,G2,h4,rz1) _ (Nat.lt_succ_self _) ⟨bF hd1,aT hd1,hs3,gr2,lo,(hl1.t hle4)⟩ rd
theorem mt (h:HF) (q:aU) (ja:gr) (who:(List Int)) (eG:Option Addr) (eF:Nat) (bQ:Int) (hq:aU.ok h q ja) (hwho:SlC Rp.int h eG eF who) (hsm:smR q.Register) (hov:okV q.Register.Versions) (hod:(0≤q.doc.At∧q.doc.At≤1099511627776)∧0≤q.doc.Kind) (hsw:who.length≤2000000) (hk:Kinds h):Ret Tryz.prog 30 [.agg (aU.cells q ja).toArray,.slice eG who.length eF,I bQ] h (.bool (bu q who bQ)):=by
 refine ay Tryz.func30 U Tryz.ntmps30 U fun X hM hX=>?_
 have hs0:bu q who bQ=bu q who bQ:=rfl
 have hjl:=wZ q bQ
 have hvl:=hsm.vers.len
 obtain ⟨hod,hdk⟩:=hod
 refine sr (dy (fun b1=>dy (fun b2=>an (ae (sr (aO 0 ty3 U U U (az mh U (az ml U (aO 1 ty3 U U U (aJ U (aa ?_)))))))))))
 refine tq 6 [(1,.slice eG who.length eF),(3,Q b1),(5,Q b2),(31,.bool (decide (bQ < q.doc.At)||decide (q.doc.Until≤bQ)))] (fun hk1=>?_) (fun e=>?_)
 ·refine ar 25 U (fun c1=>?_) (fun c1=>?_)
  ·refine kq (kq (bP (ah U ?_)))
   exact hk1 _ ⟨U,U,U,(cb (dL c1)),trivial⟩
  ·refine aO 0 ty3 U U U (az mh U (az pX U (aO 1 ty3 U U U (aJ U (ah U ?_)))))
   exact hk1 _ ⟨U,U,U,(cb (dM c1)),trivial⟩
 refine ac ?_
 refine aE U (fun c2=>?_) (fun c2=>?_)
 ·have hs1:=hs0.trans (bt c2)
  refine sr (an ?_)
  exact aw [.bool false] Tryz.func30 U hX rd (cs hs1)
 ·have hs3:=hs0.trans (bf c2)
  refine ao (sr (cq 1 U hM (fun h1 hle1 hb1=>cq 0 U hM (fun h2 hle2 hb2=>a8 (fV U U (an (sr (aa (a8 (GZ Tryz.call40 (lf h2 who eG eF (hwho.mono Rp.ce (hle1.t hle2)) (by first | assumption | omega)) U (fun ob1 oc1 G1 gr1=>?_)))))))))))
  refine aa (a8 (qH (v:=.slice ob1 (bq who (fun cG=>bj cG q bQ)).length oc1) ([]) G1 ([]) Tryz.call64 (oL h2 who ob1 oc1 G1 (fun cG=>bj cG q bQ) (.func (.func 63) #[] #[Q b1,Q b2]) gr1 (fun h' cG hle =>iZ Tryz.call63 (oR h' cG q ja ⟨b1,0,none⟩ bQ ⟨b2,0,none⟩  ((hq.mono (hle1.t hle2)).mono hle) (((dR hb1).mono hle2).mono hle) ((dR hb2).mono hle) hsm)) (by first | assumption | omega)) ap U (fun G2 gr2=>?_)))
  refine iv (L':=G2) ap (mz Rp.ce ([]) G2 ([]) ap hM gr2 (fun h3 hle3 sl1=>?_))
  refine an (sr (an (sr (ed ty77 ((dR hb1).mono (hle2.t hle3)) U U (eC ty3 ((dR hb2).mono hle3) U (a8 (dg Tryz.call65 (lQ h3 q ja bQ (hq.mono ((hle1.t hle2).t hle3)) ob (hk.mono ((hle1.t hle2).t hle3))) U (fun v1 h4 hle4 hp1=>?_))))))))
  obtain ⟨rb1,rc1,rfl,sl2⟩:=hp1
  refine aa (bG U U (bG U U (ba (an (ae (sr (aa (bC Al U (aa (ac ?_))))))))))
  refine br (ι:=Nat×(List Bool)×Option Addr×Nat×LH×HF) (fun i=>[(9,.slice i.2.2.1 i.2.1.length i.2.2.2.1),(11,I ((aC q bQ).2))]) (fun i=>i.2.2.2.2.2) (fun i=>i.2.2.2.2.1) (fun i=>i.1≤((aC q bQ).1).length∧bu q who bQ=((bu.K1 q bQ) i.2.1)∧ep Rp.bool 4 i.2.2.2.2.2 i.2.1 i.2.2.1 i.2.2.2.1 i.2.2.2.2.1∧i.2.1.length≤0+i.1∧HF.le h4 i.2.2.2.2.2) ?_ (fun hx1=>?_)
  ·rintro ⟨i1,oQ,BM,BL,D7,hh1⟩ ⟨bd,hs4,xw,F8,hl1⟩ e
   try dsimp only at bd xw F8 hl1
   try dsimp only
   refine sr (aa (aa (mz Rp.lP ([]) D7 ([]) ap hM xw (fun h5 hle5 sl3=>aG (v:=.tuple #[.bool ((dC ((aC q bQ).2) oQ).1),I ((dC ((aC q bQ).2) oQ).2)]) Tryz.call49 (nD h5 ((aC q bQ).2) oQ BM BL sl3 ob) U ?_))))
   refine aa (bG U U (bG U U (ba (an (sr (aa (aa ?_)))))))
   refine tq 3 [(106,.bool ((dC ((aC q bQ).2) oQ).1&&((dC ((aC q bQ).2) oQ).2==0)))] (fun hk2=>?_) (fun e=>?_)
   ·refine ar 103 U (fun c3=>?_) (fun c3=>?_)
    ·refine aa (aJ U (ah U ?_))
     exact hk2 _ ⟨(cb (cW c3)),trivial⟩
    ·refine kq (ah U ?_)
     exact hk2 _ ⟨(cb (cX c3)),trivial⟩
   refine an ?_
   exact aw [.bool ((dC ((aC q bQ).2) oQ).1&&((dC ((aC q bQ).2) oQ).2==0))] Tryz.func30 U hX rd (cs hs4)
  ·refine cp (ι:=Nat×(List Bool)×Option Addr×Nat×LH×HF×List Policy) (fun i=>[(3,Q b1),(5,Q b2),(8,.slice ob1 ((bq who (fun cG=>bj cG q bQ)).length) oc1),(9,.slice i.2.2.1 i.2.1.length i.2.2.2.1),(11,I ((aC q bQ).2)),(43,.slice rb1 (((aC q bQ).1).length) rc1),(44,I ((((aC q bQ).1).length:Nat):Int)),(45,I ((i.1:Nat):Int))]) (fun i=>i.2.2.2.2.2.1) (fun i=>i.2.2.2.2.1) (fun i=>((aC q bQ).1).drop i.1=i.2.2.2.2.2.2∧i.1≤((aC q bQ).1).length∧bu q who bQ=((bu.L1 q who bQ (bu.K1 q bQ)) i.2.2.2.2.2.2 i.2.1)∧ep Rp.bool 4 i.2.2.2.2.2.1 i.2.1 i.2.2.1 i.2.2.2.1 i.2.2.2.2.1∧i.2.1.length≤0+i.1∧HF.le h4 i.2.2.2.2.2.1) (fun i=>i.2.2.2.2.2.2.length) (0,[],none,0,[],h4,(aC q bQ).1) rd sw ⟨U,Nat.zero_le _,hs3,ep.nil,lo,(HF.le_refl h4)⟩ ?_
   rintro ⟨i1,oQ,BM,BL,D7,hh1,s1⟩ ⟨hd1,bd,hs6,xw,F8,hl1⟩ ag1 e
   try dsimp only at hd1 bd xw F8 hl1
   rcases s1 with _ | ⟨y1,rz1⟩
   ·have dI:=cU hd1
    try dsimp only
    refine sr (aB (v':=.bool false) U (cb dI) (ac (ae (bg U (bO U ?_)))))
    exact hx1 (i1,oQ,BM,BL,D7,hh1) _ ⟨bd,hs6,xw,lo,hl1⟩ rd
   ·have dH:=dY hd1
    have bh:=cY hd1
    have eT:=aT hd1
    have gx:=sl2.1.1
    obtain ⟨v_,hv_,hve_⟩:=sQ (gm hd1)
    have hsp:=hsm.vers.2 v_ hv_
    rw [hve_] at hsp
    have hvt:=hov.2 v_ hv_
    rw [hve_] at hvt
    have hofl:=hsp.2.2.2.1
    try dsimp only
    refine sr (aB (v':=.bool true) U (cb dH) (ac (ae (bn U (ao (ae (aW (sr (a8 (gL Al ty68 (sl2.mono Policy.aN hl1).1 (nthZ bh) (bB bh) U U U (fun q3 cs3 A3 ln3 rr3=>?_)))))))))))
    obtain ⟨r3,rfl,ok3⟩:=rr3
    refine ed ty68 A3 U U (bX zc68 (fun b4=>bN 0 ty68 U U U U U U (iv (L':=[(b4,O (Policy.cells y1 r3) 68)]++(D7)) U (ac (sr (az mh U (az oH U (nh (j:=9) ty3 ((dR hb1).mono (((hle2.t hle3).t hle4).t hl1)) U U ?_))))))))
    refine an (ae ?_)
    refine my [(3,Q b1),(5,Q b2),(8,.slice ob1 ((bq who (fun cG=>bj cG q bQ)).length) oc1),(9,.slice BM oQ.length BL),(11,I ((aC q bQ).2)),(13,Q b4),(14,I q.doc.Kind),(15,.bool (decide (q.doc.Kind < ((y1.Rules.length:Nat):Int))&&decide ((q.doc.At+(nthI y1.Rules q.doc.Kind).Think)≤bQ))),(43,.slice rb1 (((aC q bQ).1).length) rc1),(44,I ((((aC q bQ).1).length:Nat):Int)),(45,I ((i1:Nat):Int))] (fun e=>?_) (fun hk3=>?_)
    rotate_left
    ·refine ga ([(b4,O (Policy.cells y1 r3) 68)]) mixed kr jn (fun eX _=>?_)
     refine tm 0 U (tf 1 U U (fun _ _ _=>dB e9 U) (tf 2 U U (fun _ _ hj=>gu ty63 U (hj.nth (i:=0) U) U) ?_))
     refine tf 3 U U (fun _ _ _=>DX jJ U) (tf 4 U U (fun _ _ _=>ib U) (tm 5 U ?_))
     refine eo 57 U (fun c4=>?_) (fun c4=>?_)
     ·have c4p:=of_decide_eq_true c4
      refine tf 6 U U (fun _ _ hj=>gd ty3 (((dR hb2).mono ((hle3.t hle4).t hl1)).mono hj.1) U) (tf 7 U U (fun _ _ _=>dB mh U) ?_)
      refine tf 8 U U (fun _ _ _=>dB ml U) (tf 9 U U (fun _ _ hj=>tH 8 ty3 (((dR hb1).mono (((hle2.t hle3).t hle4).t hl1)).mono hj.1) U U) ?_)
      refine tf 10 U U (fun _ _ _=>dB e9 U) (tf 11 U U (fun _ _ hj=>gu ty63 U (hj.nth (i:=0) U) U) ?_)
      refine tm 12 U ?_
      have ho2:0≤(q.doc.Kind:Int)∧(q.doc.Kind:Int) < ((y1.Rules).length:Int):=ob
      refine iY 13 eX jn jJ ty107 ok3.Rules.1 ho2 (eA ho2) U U U U kr (fun q4 cs4 A4 ln4 rr4=>?_)
      obtain ⟨r4,rfl,ok4⟩:=rr4
      refine tf 14 U U (fun _ _ _=>dB mX U) (tf 15 U U (fun _ _ hj=>tH 2 ty3 (A4.mono hj.1) U U) ?_)
      refine tf 16 U U (fun _ _ _=>mB (v':=I (q.doc.At+(nthI y1.Rules q.doc.Kind).Think)) U (iu (by first | omega | (have hth:=hvt.2 _ (kv ob);omega)))) ?_
      refine tf 17 U U (fun _ _ _=>ib U) (tf 18 U U (fun _ _ _=>co U) (tf 19 U U (fun _ _ _=>fO) ?_))
      refine bY kr ?_
      exact hk3 _ ⟨U,U,U,U,U,U,U,(cb (show decide ((q.doc.At+(nthI y1.Rules q.doc.Kind).Think)≤bQ)=(decide (q.doc.Kind < ((y1.Rules.length:Nat):Int))&&decide ((q.doc.At+(nthI y1.Rules q.doc.Kind).Think)≤bQ)) from by rw [c4] <;> rfl)),U,U,U,trivial⟩
     ·have c4p:=of_decide_eq_false c4
      refine tk 6 U U (tk 7 U U (tk 8 U U ?_))
      refine tk 9 U U (tk 10 U U (tk 11 U U ?_))
      refine tk 12 U U (tk 13 U U (tk 14 U U ?_))
      refine tk 15 U U (tk 16 U U (tk 17 U U ?_))
      refine tf 18 U U (fun _ _ _=>co U) (tf 19 U U (fun _ _ _=>fO) (bY kr ?_))
      exact hk3 _ ⟨U,U,U,U,U,U,U,(cb (show false=(decide (q.doc.Kind < ((y1.Rules.length:Nat):Int))&&decide ((q.doc.At+(nthI y1.Rules q.doc.Kind).Think)≤bQ)) from by rw [c4] <;> rfl)),U,U,U,trivial⟩
    refine ae (sr (aa (ac ?_)))
    refine aE U (fun c5=>?_) (fun c5=>?_)
    ·have hs8:=hs6.trans (bt c5)
     refine ae ?_
     let z1:Nat×Obj:=(b4,O (Policy.cells y1 r3) 68)
     refine ga ([z1]) mixed kr jn (fun w8 _=>?_)
     refine tf 0 U U (fun _ _ hj=>ky ty68 U (hj.nth (i:=0) U) U) (tm 1 U (tf 2 U U (fun _ _ _=>dB mh U) ?_))
     refine tf 3 U U (fun _ _ _=>dB rN U) (tf 4 U U (fun _ _ hj=>tH 10 ty3 (((dR hb1).mono (((hle2.t hle3).t hle4).t hl1)).mono hj.1) U U) ?_)
     refine tf 5 U U (fun _ _ hj=>jP ty77 (((dR hb1).mono (((hle2.t hle3).t hle4).t hl1)).mono hj.1) U U) (tf 6 U U (fun _ _ hj=>ky ty68 U (hj.nth (i:=0) U) U) ?_)
     refine tf 7 U U (fun _ _ hj=>gd ty3 (((dR hb2).mono ((hle3.t hle4).t hl1)).mono hj.1) U) (tm 9 U ?_)
     refine tn 8 U (dg Tryz.call66 (lx hh1 q ja y1 r3 bQ (hq.mono ((((hle1.t hle2).t hle3).t hle4).t hl1)) ok3 ob ob) U (fun v2 h6 hle6 hp2=>?_))
     obtain ⟨rb2,rc2,rfl,sl4⟩:=hp2
     refine ⟨⟨hle6,fun _ hp=>List.Sublist.subset js hp⟩,uV (K2:=[z1]) hle6 (fun _ hp=>hp) (tn 10 U (fu (v:=.tuple #[.bool ((bi y1 q.doc.Kind q.doc.Value (aD q y1 bQ) (bq who (fun cG=>bj cG q bQ))).1),I ((bi y1 q.doc.Kind q.doc.Value (aD q y1 bQ) (bq who (fun cG=>bj cG q bQ))).2)]) Tryz.call48 (nL h6 y1 r3 q.doc.Kind q.doc.Value (aD q y1 bQ) rb2 rc2 (bq who (fun cG=>bj cG q bQ)) ob1 oc1 (ok3.mono hle6) sl4 (sl1.mono Rp.ce ((hle4.t hl1).t hle6)) ob (ve hsm.2.1 _ _) (Nat.le_trans (EJ _ _) hsw) (hk.mono (((((hle1.t hle2).t hle3).t hle4).t hl1).t hle6))) U ?_))⟩
     refine ⟨jn,(tm 11 U ?_)⟩
     refine tf 12 U U (fun _ _ _=>rC U U) (tf 13 U U (fun _ _ _=>rC U U) (tf 14 U U (fun _ _ _=>fO) ?_))
     refine tf 15 U U (fun _ _ _=>fO) (bY kr ?_)
     refine ai (aa (aa ?_))
     refine tq 3 [(3,Q b1),(5,Q b2),(8,.slice ob1 ((bq who (fun cG=>bj cG q bQ)).length) oc1),(9,.slice BM oQ.length BL),(11,I ((aC q bQ).2)),(43,.slice rb1 (((aC q bQ).1).length) rc1),(44,I ((((aC q bQ).1).length:Nat):Int)),(45,I ((i1:Nat):Int)),(90,.bool ((bi y1 q.doc.Kind q.doc.Value (aD q y1 bQ) (bq who (fun cG=>bj cG q bQ))).1&&((bi y1 q.doc.Kind q.doc.Value (aD q y1 bQ) (bq who (fun cG=>bj cG q bQ))).2==0)))] (fun hk4=>?_) (fun e=>?_)
     ·refine ar 87 U (fun c6=>?_) (fun c6=>?_)
      ·refine aa (aJ U (ah U ?_))
       exact hk4 _ ⟨U,U,U,U,U,U,U,U,(cb (cW c6)),trivial⟩
      ·refine kq (ah U ?_)
       exact hk4 _ ⟨U,U,U,U,U,U,U,U,(cb (cX c6)),trivial⟩
     refine an (ai (aa (aa (a8 (ck (cells:=[.bool ((bi y1 q.doc.Kind q.doc.Value (aD q y1 bQ) (bq who (fun cG=>bj cG q bQ))).1&&((bi y1 q.doc.Kind q.doc.Value (aD q y1 bQ) (bq who (fun cG=>bj cG q bQ))).2==0))]) lT ty4 zc4 U U kr (fun b5=>?_))))))
     refine a8 (eK Rp.nA ([(b5,O [.bool ((bi y1 q.doc.Kind q.doc.Value (aD q y1 bQ) (bq who (fun cG=>bj cG q bQ))).1&&((bi y1 q.doc.Kind q.doc.Value (aD q y1 bQ) (bq who (fun cG=>bj cG q bQ))).2==0))] 4),z1]) ([]) (fun G=>[(b5,O [.bool ((bi y1 q.doc.Kind q.doc.Value (aD q y1 bQ) (bq who (fun cG=>bj cG q bQ))).1&&((bi y1 q.doc.Kind q.doc.Value (aD q y1 bQ) (bq who (fun cG=>bj cG q bQ))).2==0))] 4),z1]++(G)) ap (fun _=>ap) lT ty4 zc4 U bytes4 (xw.mono Rp.lP hle6) U U (eZ 0 U (show bV Rp.bool h6 [.bool ((bi y1 q.doc.Kind q.doc.Value (aD q y1 bQ) (bq who (fun cG=>bj cG q bQ))).1&&((bi y1 q.doc.Kind q.doc.Value (aD q y1 bQ) (bq who (fun cG=>bj cG q bQ))).2==0))] ([((bi y1 q.doc.Kind q.doc.Value (aD q y1 bQ) (bq who (fun cG=>bj cG q bQ))).1&&((bi y1 q.doc.Kind q.doc.Value (aD q y1 bQ) (bq who (fun cG=>bj cG q bQ))).2==0))]) from ⟨[.bool ((bi y1 q.doc.Kind q.doc.Value (aD q y1 bQ) (bq who (fun cG=>bj cG q bQ))).1&&((bi y1 q.doc.Kind q.doc.Value (aD q y1 bQ) (bq who (fun cG=>bj cG q bQ))).2==0))],[],U,U,U,U⟩)) lo lo (fun ob2 oc2 G3 gr3=>?_))
     refine an (av (ai (aB (v':=I (((i1+1):Nat):Int)) U (bW (by first | omega | (have hth:=hvt.2 _ (kv ob);omega))) (aa (ac ?_)))))
     refine cE (L':=G3) js ?_
     exact ag1 ((i1+1),(oQ++[((bi y1 q.doc.Kind q.doc.Value (aD q y1 bQ) (bq who (fun cG=>bj cG q bQ))).1&&((bi y1 q.doc.Kind q.doc.Value (aD q y1 bQ) (bq who (fun cG=>bj cG q bQ))).2==0))]),ob2,oc2,G3,h6,rz1) _ (Nat.lt_succ_self _) ⟨bF hd1,aT hd1,hs8,gr3,lo,(hl1.t hle6)⟩ rd
    ·have hs9:=hs6.trans (bf c5)
     refine ao (ai (aa (aa (a8 (ck (cells:=[.bool (decide (q.doc.Kind < ((y1.Rules.length:Nat):Int))&&decide ((q.doc.At+(nthI y1.Rules q.doc.Kind).Think)≤bQ))]) lT ty4 zc4 U U kr (fun b6=>a8 (eK Rp.nA ([(b6,O [.bool (decide (q.doc.Kind < ((y1.Rules.length:Nat):Int))&&decide ((q.doc.At+(nthI y1.Rules q.doc.Kind).Think)≤bQ))] 4),(b4,O (Policy.cells y1 r3) 68)]) ([]) (fun G=>[(b6,O [.bool (decide (q.doc.Kind < ((y1.Rules.length:Nat):Int))&&decide ((q.doc.At+(nthI y1.Rules q.doc.Kind).Think)≤bQ))] 4),(b4,O (Policy.cells y1 r3) 68)]++(G)) ap (fun _=>ap) lT ty4 zc4 U bytes4 xw U U (eZ 0 U (show bV Rp.bool hh1 [.bool (decide (q.doc.Kind < ((y1.Rules.length:Nat):Int))&&decide ((q.doc.At+(nthI y1.Rules q.doc.Kind).Think)≤bQ))] ([(decide (q.doc.Kind < ((y1.Rules.length:Nat):Int))&&decide ((q.doc.At+(nthI y1.Rules q.doc.Kind).Think)≤bQ))]) from ⟨[.bool (decide (q.doc.Kind < ((y1.Rules.length:Nat):Int))&&decide ((q.doc.At+(nthI y1.Rules q.doc.Kind).Think)≤bQ))],[],U,U,U,U⟩)) lo lo (fun ob3 oc3 G4 gr4=>?_))))))))
     refine an (av (ai (aB (v':=I (((i1+1):Nat):Int)) U (bW (by first | omega | (have hth:=hvt.2 _ (kv ob);omega))) (aa (ac ?_)))))
     refine cE (L':=G4) js ?_
     exact ag1 ((i1+1),(oQ++[(decide (q.doc.Kind < ((y1.Rules.length:Nat):Int))&&decide ((q.doc.At+(nthI y1.Rules q.doc.Kind).Think)≤bQ))]),ob3,oc3,G4,hh1,rz1) _ (Nat.lt_succ_self _) ⟨bF hd1,aT hd1,hs9,gr4,lo,hl1⟩ rd
end Go.Sg
namespace Go.Sg
open Go.Proofs
set_option maxHeartbeats 2000000
set_option maxRecDepth 100000
set_option linter.unusedVariables false
theorem ud (h:HF) (t:Int)  : Ret Tryz.prog 173 [I t] h (.bool (eY t)):=by
 refine ay Tryz.func173 U Tryz.ntmps173 U fun X hM hX=>?_
 have hs0:eY t=eY t:=rfl
 refine sr (an (sr (aa (aJ U (aa ?_)))))
 refine tq 3 [(8,.bool (decide (0≤t)&&decide (t < 1099511627776)))] (fun hk1=>?_) (fun e=>?_)
 ·refine ar 5 U (fun c1=>?_) (fun c1=>?_)
  ·refine aa (aJ U (ah U ?_))
   exact hk1 _ ⟨(cb (cW c1)),trivial⟩
  ·refine kq (ah U ?_)
   exact hk1 _ ⟨(cb (cX c1)),trivial⟩
 refine an ?_
 exact aw [.bool (decide (0≤t)&&decide (t < 1099511627776))] Tryz.func173 U hX rd (cs hs0)
theorem mr (h:HF) (l:(List Int)) (eW:Option Addr) (eV:Nat) (limit:Int) (hl:SlC Rp.int h eW eV l):Ret Tryz.prog 174 [.slice eW l.length eV,I limit] h (.bool (cD l limit)):=by
 refine ay Tryz.func174 U Tryz.ntmps174 U fun X hM hX=>?_
 have hs0:cD l limit=cD l limit:=rfl
 refine sr (an (sr (an (ae (sr (aa (bC eL U (aa (ac ?_)))))))))
 refine br (ι:=Nat×Int) (fun i=>[(0,.slice eW l.length eV)]) (fun i=>h) (fun i=>[]) (fun i=>i.1≤l.length∧cD l limit=((cD.K1 l) i.2)) ?_ (fun hx1=>?_)
 ·rintro ⟨i1,iM⟩ ⟨bd,hs1⟩ e
  try dsimp only at bd
  try dsimp only
  refine sr (aa (bC eL U (aJ U (an ?_))))
  exact aw [.bool (decide (((l.length:Nat):Int)≤16))] Tryz.func174 U hX rd (cs hs1)
 ·refine cp (ι:=Nat×Int×List Int) (fun i=>[(0,.slice eW l.length eV),(1,I limit),(5,I i.2.1),(8,.slice eW l.length eV),(9,I ((l.length:Nat):Int)),(10,I ((i.1:Nat):Int))]) (fun i=>h) (fun i=>[]) (fun i=>l.drop i.1=i.2.2∧i.1≤l.length∧cD l limit=((cD.L1 limit (cD.K1 l)) i.2.2 i.2.1)) (fun i=>i.2.2.length) (0,(-1),l) rd sw ⟨U,Nat.zero_le _,hs0⟩ ?_
  rintro ⟨i1,iM,s1⟩ ⟨hd1,bd,hs3⟩ ag1 e
  try dsimp only at hd1 bd
  rcases s1 with _ | ⟨y1,rz1⟩
  ·have dI:=cU hd1
   try dsimp only
   refine sr (aB (v':=.bool false) U (cb dI) (ac (ae (bg U (bO U ?_)))))
   exact hx1 (i1,iM) _ ⟨bd,hs3⟩ rd
  ·have dH:=dY hd1
   have bh:=cY hd1
   have eT:=aT hd1
   have gx:=hl.1.1
   try dsimp only
   refine sr (aB (v':=.bool true) U (cb dH) (ac (ae (bn U (ao (ae (aW (sr (a8 (fQ (enc:=fun y=>[I y]) (fun _ _ _ e=>e) eL ty3 hl.1 (nthZ bh) (bB bh) U U U (fun q2 A2=>?_)))))))))))
   refine eC ty3 A2 U (an (ae (sr (aa (aa (aJ U (aa ?_)))))))
   refine tq 4 [(0,.slice eW l.length eV),(1,I limit),(7,I y1),(8,.slice eW l.length eV),(9,I ((l.length:Nat):Int)),(10,I ((i1:Nat):Int)),(21,.bool (decide (y1≤iM)||decide (limit≤y1)))] (fun hk1=>?_) (fun e=>?_)
   ·refine ar 17 U (fun c1=>?_) (fun c1=>?_)
    ·refine kq (bP (ah U ?_))
     exact hk1 _ ⟨U,U,U,U,U,U,(cb (dL c1)),trivial⟩
    ·refine aa (aa (aJ U (ah U ?_)))
     exact hk1 _ ⟨U,U,U,U,U,U,(cb (dM c1)),trivial⟩
   refine ac ?_
   refine aE U (fun c2=>?_) (fun c2=>?_)
   ·have hs5:=hs3.trans (bt c2)
    refine sr (an ?_)
    exact aw [.bool false] Tryz.func174 U hX rd (cs hs5)
   ·have hs7:=hs3.trans (bf c2)
    refine ao (ai (aa (an (av (ai (aB (v':=I (((i1+1):Nat):Int)) U (bW ob) (aa (ac ?_))))))))
    exact ag1 ((i1+1),y1,rz1) _ (Nat.lt_succ_self _) ⟨bF hd1,aT hd1,hs7⟩ rd
theorem sY (h:HF) (d:Document) (sd:gM) (hd:Document.ok h d sd):Ret Tryz.prog 105 [.agg (Document.cells d sd).toArray] h (.bool (fF d)):=by
 refine ay Tryz.func105 U Tryz.ntmps105 U fun X hM hX=>?_
 have hs0:fF d=fF d:=rfl
 refine sr (dy (fun b1=>an (sr (az j1 U (aO 0 ty3 U U U (aJ U (aa ?_)))))))
 refine tq 4 [(1,Q b1),(11,.bool (decide (0≤d.No)&&decide (d.No < 4096)))] (fun hk1=>?_) (fun e=>?_)
 ·refine ar 7 U (fun c1=>?_) (fun c1=>?_)
  ·refine az j1 U (aO 0 ty3 U U U (aJ U (ah U ?_)))
   exact hk1 _ ⟨U,(cb (cW c1)),trivial⟩
  ·refine kq (bP (ah U ?_))
   exact hk1 _ ⟨U,(cb (cX c1)),trivial⟩
 refine aa ?_
 refine tq 4 [(1,Q b1),(16,.bool ((decide (0≤d.No)&&decide (d.No < 4096))&&(eY d.At)))] (fun hk2=>?_) (fun e=>?_)
 ·refine ar 12 U (fun c2=>?_) (fun c2=>?_)
  ·refine az ml U (aO 0 ty3 U U U (aG (v:=.bool (eY d.At)) Tryz.call173 (ud h d.At ) U (ah U ?_)))
   exact hk2 _ ⟨U,(cb (cW c2)),trivial⟩
  ·refine kq (bP (ah U ?_))
   exact hk2 _ ⟨U,(cb (cX c2)),trivial⟩
 refine aa ?_
 refine tq 4 [(1,Q b1),(21,.bool (((decide (0≤d.No)&&decide (d.No < 4096))&&(eY d.At))&&decide (0≤d.Kind)))] (fun hk3=>?_) (fun e=>?_)
 ·refine ar 17 U (fun c3=>?_) (fun c3=>?_)
  ·refine az oH U (aO 0 ty3 U U U (aJ U (ah U ?_)))
   exact hk3 _ ⟨U,(cb (cW c3)),trivial⟩
  ·refine kq (bP (ah U ?_))
   exact hk3 _ ⟨U,(cb (cX c3)),trivial⟩
 refine aa ?_
 refine tq 4 [(1,Q b1),(26,.bool ((((decide (0≤d.No)&&decide (d.No < 4096))&&(eY d.At))&&decide (0≤d.Kind))&&decide (d.Kind < 16)))] (fun hk4=>?_) (fun e=>?_)
 ·refine ar 22 U (fun c4=>?_) (fun c4=>?_)
  ·refine az oH U (aO 0 ty3 U U U (aJ U (ah U ?_)))
   exact hk4 _ ⟨U,(cb (cW c4)),trivial⟩
  ·refine kq (bP (ah U ?_))
   exact hk4 _ ⟨U,(cb (cX c4)),trivial⟩
 refine aa ?_
 refine tq 4 [(1,Q b1),(31,.bool (((((decide (0≤d.No)&&decide (d.No < 4096))&&(eY d.At))&&decide (0≤d.Kind))&&decide (d.Kind < 16))&&decide (0≤d.Value)))] (fun hk5=>?_) (fun e=>?_)
 ·refine ar 27 U (fun c5=>?_) (fun c5=>?_)
  ·refine az rN U (aO 0 ty3 U U U (aJ U (ah U ?_)))
   exact hk5 _ ⟨U,(cb (cW c5)),trivial⟩
  ·refine kq (bP (ah U ?_))
   exact hk5 _ ⟨U,(cb (cX c5)),trivial⟩
 refine aa ?_
 refine tq 4 [(1,Q b1),(36,.bool ((((((decide (0≤d.No)&&decide (d.No < 4096))&&(eY d.At))&&decide (0≤d.Kind))&&decide (d.Kind < 16))&&decide (0≤d.Value))&&decide (d.Value≤1099511627776)))] (fun hk6=>?_) (fun e=>?_)
 ·refine ar 32 U (fun c6=>?_) (fun c6=>?_)
  ·refine az rN U (aO 0 ty3 U U U (aJ U (ah U ?_)))
   exact hk6 _ ⟨U,(cb (cW c6)),trivial⟩
  ·refine kq (bP (ah U ?_))
   exact hk6 _ ⟨U,(cb (cX c6)),trivial⟩
 refine an (sr (aa (aa ?_)))
 refine tq 4 [(1,Q b1),(42,.bool (((((((decide (0≤d.No)&&decide (d.No < 4096))&&(eY d.At))&&decide (0≤d.Kind))&&decide (d.Kind < 16))&&decide (0≤d.Value))&&decide (d.Value≤1099511627776))&&decide (0≤d.From)))] (fun hk7=>?_) (fun e=>?_)
 ·refine ar 38 U (fun c7=>?_) (fun c7=>?_)
  ·refine az vY U (aO 0 ty3 U U U (aJ U (ah U ?_)))
   exact hk7 _ ⟨U,(cb (cW c7)),trivial⟩
  ·refine kq (bP (ah U ?_))
   exact hk7 _ ⟨U,(cb (cX c7)),trivial⟩
 refine aa ?_
 refine tq 6 [(1,Q b1),(49,.bool ((((((((decide (0≤d.No)&&decide (d.No < 4096))&&(eY d.At))&&decide (0≤d.Kind))&&decide (d.Kind < 16))&&decide (0≤d.Value))&&decide (d.Value≤1099511627776))&&decide (0≤d.From))&&decide (d.From < d.Until)))] (fun hk8=>?_) (fun e=>?_)
 ·refine ar 43 U (fun c8=>?_) (fun c8=>?_)
  ·refine az vY U (aO 0 ty3 U U U (az pX U (aO 0 ty3 U U U (aJ U (ah U ?_)))))
   exact hk8 _ ⟨U,(cb (cW c8)),trivial⟩
  ·refine kq (kq (bP (ah U ?_)))
   exact hk8 _ ⟨U,(cb (cX c8)),trivial⟩
 refine aa ?_
 refine tq 4 [(1,Q b1),(54,.bool (((((((((decide (0≤d.No)&&decide (d.No < 4096))&&(eY d.At))&&decide (0≤d.Kind))&&decide (d.Kind < 16))&&decide (0≤d.Value))&&decide (d.Value≤1099511627776))&&decide (0≤d.From))&&decide (d.From < d.Until))&&decide (d.Until≤1099511627776)))] (fun hk9=>?_) (fun e=>?_)
 ·refine ar 50 U (fun c9=>?_) (fun c9=>?_)
  ·refine az pX U (aO 0 ty3 U U U (aJ U (ah U ?_)))
   exact hk9 _ ⟨U,(cb (cW c9)),trivial⟩
  ·refine kq (bP (ah U ?_))
   exact hk9 _ ⟨U,(cb (cX c9)),trivial⟩
 refine aa ?_
 refine tq 4 [(1,Q b1),(59,.bool ((((((((((decide (0≤d.No)&&decide (d.No < 4096))&&(eY d.At))&&decide (0≤d.Kind))&&decide (d.Kind < 16))&&decide (0≤d.Value))&&decide (d.Value≤1099511627776))&&decide (0≤d.From))&&decide (d.From < d.Until))&&decide (d.Until≤1099511627776))&&(cD d.Parties 1048577)))] (fun hk10=>?_) (fun e=>?_)
 ·refine ar 55 U (fun c10=>?_) (fun c10=>?_)
  ·refine az tV U (aO 0 ty31 U U U (aG (v:=.bool (cD d.Parties 1048577)) Tryz.call174 (mr h d.Parties sd.jE sd.jD 1048577 hd.Parties) U (ah U ?_)))
   exact hk10 _ ⟨U,(cb (cW c10)),trivial⟩
  ·refine kq (bP (ah U ?_))
   exact hk10 _ ⟨U,(cb (cX c10)),trivial⟩
 refine aa ?_
 refine tq 6 [(1,Q b1),(66,.bool (((((((((((decide (0≤d.No)&&decide (d.No < 4096))&&(eY d.At))&&decide (0≤d.Kind))&&decide (d.Kind < 16))&&decide (0≤d.Value))&&decide (d.Value≤1099511627776))&&decide (0≤d.From))&&decide (d.From < d.Until))&&decide (d.Until≤1099511627776))&&(cD d.Parties 1048577))&&(cD d.Revokes d.No)))] (fun hk11=>?_) (fun e=>?_)
 ·refine ar 60 U (fun c11=>?_) (fun c11=>?_)
  ·refine az rM U (aO 0 ty31 U U U (az j1 U (aO 0 ty3 U U U (aG (v:=.bool (cD d.Revokes d.No)) Tryz.call174 (mr h d.Revokes sd.jk sd.jj d.No hd.Revokes) U (ah U ?_)))))
   exact hk11 _ ⟨U,(cb (cW c11)),trivial⟩
  ·refine kq (kq (bP (ah U ?_)))
   exact hk11 _ ⟨U,(cb (cX c11)),trivial⟩
 refine aa ?_
 refine tq 6 [(73,.bool ((((((((((((decide (0≤d.No)&&decide (d.No < 4096))&&(eY d.At))&&decide (0≤d.Kind))&&decide (d.Kind < 16))&&decide (0≤d.Value))&&decide (d.Value≤1099511627776))&&decide (0≤d.From))&&decide (d.From < d.Until))&&decide (d.Until≤1099511627776))&&(cD d.Parties 1048577))&&(cD d.Revokes d.No))&&(cD d.Needs d.No)))] (fun hk12=>?_) (fun e=>?_)
 ·refine ar 67 U (fun c12=>?_) (fun c12=>?_)
  ·refine az rL U (aO 0 ty31 U U U (az j1 U (aO 0 ty3 U U U (aG (v:=.bool (cD d.Needs d.No)) Tryz.call174 (mr h d.Needs sd.kK sd.kJ d.No hd.Needs) U (ah U ?_)))))
   exact hk12 _ ⟨(cb (cW c12)),trivial⟩
  ·refine kq (kq (bP (ah U ?_)))
   exact hk12 _ ⟨(cb (cX c12)),trivial⟩
 refine an ?_
 exact aw [.bool ((((((((((((decide (0≤d.No)&&decide (d.No < 4096))&&(eY d.At))&&decide (0≤d.Kind))&&decide (d.Kind < 16))&&decide (0≤d.Value))&&decide (d.Value≤1099511627776))&&decide (0≤d.From))&&decide (d.From < d.Until))&&decide (d.Until≤1099511627776))&&(cD d.Parties 1048577))&&(cD d.Revokes d.No))&&(cD d.Needs d.No))] Tryz.func105 U hX rd (cs hs0)
theorem lw (h:HF) (no:Int) (v0:gq) (Il:nv) (v0_q:Addr) (hv0:gq.ok h v0 Il) (av0:At h v0_q (gq.cells v0 Il)):Ret Tryz.prog 175 [I no,.pointer (some v0_q)] h (.bool (dU no v0)):=by
 refine ay Tryz.func175 U Tryz.ntmps175 U fun X hM hX=>?_
 have hs0:dU no v0=dU no v0:=rfl
 refine sr (an (sr (az BV U (nh (j:=1) ty176 av0 U U (aa ?_)))))
 obtain ⟨o1,hb1,hm1⟩:=hv0.at_
 refine a8 (uZ (k:=no) Tryz.underlying176 (eS kl) hb1 hm1 (je zv3) (show yx _ (I 0) 0 from U) U U (fun v1 hv1=>?_))
 obtain rfl:=hv1
 refine aa (bG U U (bG U U (ba (an (sr (aa (cV U (an ?_))))))))
 exact aw [.bool (!(mhas v0.at_ no))] Tryz.func175 U hX rd (cs hs0)
theorem mq (h:HF) (s:gq) (Iy:nv) (d:Document) (sd:gM) (hs:gq.ok h s Iy) (hd:Document.ok h d sd):Ret Tryz.prog 106 [.agg (gq.cells s Iy).toArray,.agg (Document.cells d sd).toArray] h (.bool (eu s d)):=by
 refine ay Tryz.func106 U Tryz.ntmps106 U fun X hM hX=>?_
 have hs0:eu s d=eu s d:=rfl
 refine sr (dy (fun b1=>dy (fun b2=>an (sr (cq 1 U hM (fun h1 hle1 hb1=>a8 (fV U U (an (sr (az rM U (aO 0 ty31 U U U (aa (aG (v:=.bool (cJ d.Revokes (fun cG=>dU cG s))) E7 (iw h1 d.Revokes sd.jk sd.jj (fun cG=>dU cG s) (.func (.func 175) #[] #[Q b1]) (hd.Revokes.mono Rp.ce hle1) (fun h' cG hle =>iZ Tryz.call175 (lw h' cG s Iy ⟨b1,0,none⟩  ((hs.mono hle1).mono hle) ((dR hb1).mono hle)))) U ?_)))))))))))))
 refine cV U (aa ?_)
 refine tq 6 [(18,.bool ((!(cJ d.Revokes (fun cG=>dU cG s)))&&(!(cJ d.Needs (fun cG=>dU cG s)))))] (fun hk1=>?_) (fun e=>?_)
 ·refine ar 12 U (fun c1=>?_) (fun c1=>?_)
  ·refine az rL U (aO 0 ty31 U U U (aa (aG (v:=.bool (cJ d.Needs (fun cG=>dU cG s))) E7 (iw h1 d.Needs sd.kK sd.kJ (fun cG=>dU cG s) (.func (.func 175) #[] #[Q b1]) (hd.Needs.mono Rp.ce hle1) (fun h' cG hle =>iZ Tryz.call175 (lw h' cG s Iy ⟨b1,0,none⟩  ((hs.mono hle1).mono hle) ((dR hb1).mono hle)))) U ?_)))
   refine cV U (ah U ?_)
   exact hk1 _ ⟨(cb (cW c1)),trivial⟩
  ·refine kq (kq (bP (ah U ?_)))
   exact hk1 _ ⟨(cb (cX c1)),trivial⟩
 refine an ?_
 exact aw [.bool ((!(cJ d.Revokes (fun cG=>dU cG s)))&&(!(cJ d.Needs (fun cG=>dU cG s))))] Tryz.func106 U hX rd (cs hs0)
theorem sZ (h:HF) (l:(List Document)) (eW:Option Addr) (eV:Nat) (hl:SlC Document.rp h eW eV l):Ret Tryz.prog 56 [.slice eW l.length eV] h (I (cn l)):=by
 refine ay CP U Tryz.ntmps56 U fun X hM hX=>?_
 have hs0:cn l=cn l:=rfl
 refine sr (an (ae (sr (aa (bC la U (aJ U (ac ?_)))))))
 refine aE U (fun c1=>?_) (fun c1=>?_)
 ·have c1p:=of_decide_eq_true c1
  have hs1:=hs0.trans (bt c1)
  refine sr (an ?_)
  exact aw [I 2] CP U hX rd (ci hs1)
 ·have c1p:=of_decide_eq_false c1
  have hs3:=hs0.trans (bf c1)
  refine ao (sr (aa (a8 (dg Tryz.call104 (qs h l eW eV hl) U (fun v1 h1 hle1 hp1=>?_)))))
  obtain ⟨rr1,rfl,ok1⟩:=hp1
  refine bX zc178 (fun b1=>bN 0 ty178 U U U U U U (ac (ae (sr (aa (bC la U (aa (ac ?_))))))))
  let z1:Nat×Obj:=(b1,O (gq.cells (bv l) rr1) 178)
  refine br (ι:=Nat) (fun i=>[]) (fun i=>h1) (fun i=>[z1]) (fun i=>i≤l.length∧cn l=((cn.K1))) ?_ (fun hx1=>?_)
  ·rintro i1 ⟨bd,hs4⟩ e
   try dsimp only at bd
   try dsimp only
   refine sr (an ?_)
   exact aw [I 0] CP U hX rd (ci hs4)
  ·refine cp (ι:=Nat×List Document) (fun i=>[(0,.slice eW l.length eV),(3,Q b1),(11,.slice eW l.length eV),(12,I ((l.length:Nat):Int)),(13,I ((i.1:Nat):Int))]) (fun i=>h1) (fun i=>[z1]) (fun i=>l.drop i.1=i.2∧i.1≤l.length∧cn l=((cn.L1 l (cn.K1)) i.2 i.1)) (fun i=>i.2.length) (0,l) rd sw ⟨U,Nat.zero_le _,hs3⟩ ?_
   rintro ⟨i1,s1⟩ ⟨hd1,bd,hs6⟩ ag1 e
   try dsimp only at hd1 bd
   rcases s1 with _ | ⟨y1,rz1⟩
   ·have dI:=cU hd1
    try dsimp only
    refine sr (aB (v':=.bool false) U (cb dI) (ac (ae (bg U (bO U ?_)))))
    exact hx1 i1 _ ⟨bd,hs6⟩ trivial
   ·have dH:=dY hd1
    have bh:=cY hd1
    have eT:=aT hd1
    have gx:=(hl.mono Document.aN hle1).1.1
    try dsimp only
    refine sr (aB (v':=.bool true) U (cb dH) (ac (ae (bn U (ao (ae (aW (sr (aa (a8 (gL la ty52 (hl.mono Document.aN hle1).1 (nthZ bh) (bB bh) U U U (fun q3 cs3 A3 ln3 rr4=>?_))))))))))))
    obtain ⟨r3,rfl,ok4⟩:=rr4
    refine ed ty52 A3 U U (bX zc52 (fun b3=>ba (bN 0 ty52 U U U U U U (ac (ae ?_)))))
    refine my [(0,.slice eW l.length eV),(3,Q b1),(11,.slice eW l.length eV),(12,I ((l.length:Nat):Int)),(13,I ((i1:Nat):Int)),(41,.bool (((!(fF y1))||(decide (0 < ((i1:Nat):Int))&&decide (y1.No≤(nthI l (((i1:Nat):Int) - 1)).No)))||(!(eu (bv l) y1))))] (fun e=>?_) (fun hk1=>?_)
    rotate_left
    ·let z2:Nat×Obj:=(b3,O (Document.cells y1 r3) 52)
     refine ga ([z2,z1]) mixed kr jn (fun eX _=>?_)
     refine tf 0 U U (fun _ _ hj=>ky ty52 U (hj.nth (i:=0) U) U) (tn 1 U (fu (v:=.bool (fF y1)) Tryz.call105 (sY h1 y1 r3 ok4) U (⟨jn,?_⟩)))
     refine tf 2 U U (fun _ _ _=>ku U) (tm 3 U ?_)
     refine eo 21 U (fun c2=>?_) (fun c2=>?_)
     ·refine tk 4 U U (tk 5 U U (tk 6 U U (tk 7 U U ?_)))
      refine tk 8 U U (tk 9 U U (tk 10 U U (tk 11 U U ?_)))
      refine tk 12 U U (tk 13 U U (tk 14 U U (tk 15 U U ?_)))
      refine tk 16 U U (tf 17 U U (fun _ _ _=>co U) (tm 18 U ?_))
      refine tk 19 U U (tk 20 U U (tk 21 U U (tk 22 U U ?_)))
      refine tf 23 U U (fun _ _ _=>co U) (bY kr ?_)
      exact hk1 _ ⟨U,U,U,U,U,(cb (show true=(((!(fF y1))||(decide (0 < ((i1:Nat):Int))&&decide (y1.No≤(nthI l (((i1:Nat):Int) - 1)).No)))||(!(eu (bv l) y1))) from by rw [c2] <;> rfl)),trivial⟩
     ·refine tm 4 U (tf 5 U U (fun _ _ _=>ib U) (tm 6 U ?_))
      refine eo 24 U (fun c3=>?_) (fun c3=>?_)
      ·have c3p:=of_decide_eq_true c3
       refine tf 7 U U (fun _ _ _=>dB j1 U) (tf 8 U U (fun _ _ hj=>gu ty3 U (hj.nth (i:=0) U) U) (tm 9 U ?_))
       refine tm 10 U (tf 11 U U (fun _ _ _=>mB (v':=I (((i1:Nat):Int) - 1)) U (iu ob)) ?_)
       have ho2:0≤((((i1:Nat):Int) - 1):Int)∧((((i1:Nat):Int) - 1):Int) < ((l).length:Int):=ob
       refine iY 12 eX jn la ty52 (hl.mono Document.aN hle1).1 ho2 (eA ho2) U U U U kr (fun q4 cs4 A4 ln4 rr5=>?_)
       obtain ⟨r4,rfl,ok5⟩:=rr5
       refine tf 13 U U (fun _ _ _=>dB j1 U) (tf 14 U U (fun _ _ hj=>gd ty3 (A4.mono hj.1) U) (tf 15 U U (fun _ _ _=>ib U) ?_))
       refine tf 16 U U (fun _ _ _=>co U) (tf 17 U U (fun _ _ _=>co U) (tm 18 U ?_))
       refine eo 36 U (fun c4=>?_) (fun c4=>?_)
       ·have c4p:=of_decide_eq_true c4
        refine tk 19 U U (tk 20 U U (tk 21 U U (tk 22 U U ?_)))
        refine tf 23 U U (fun _ _ _=>co U) (bY kr ?_)
        exact hk1 _ ⟨U,U,U,U,U,(cb (show true=(((!(fF y1))||(decide (0 < ((i1:Nat):Int))&&decide (y1.No≤(nthI l (((i1:Nat):Int) - 1)).No)))||(!(eu (bv l) y1))) from by rw [c2,c3,c4] <;> rfl)),trivial⟩
       ·have c4p:=of_decide_eq_false c4
        refine tf 19 U U (fun _ _ hj=>ky ty178 U (hj.nth (i:=1) U) U) (tf 20 U U (fun _ _ hj=>ky ty52 U (hj.nth (i:=0) U) U) ?_)
        refine tn 21 U (fu (v:=.bool (eu (bv l) y1)) Tryz.call106 (mq h1 (bv l) rr1 y1 r3 ok1 ok4) U (⟨jn,?_⟩))
        refine tf 22 U U (fun _ _ _=>ku U) (tf 23 U U (fun _ _ _=>co U) (bY kr ?_))
        exact hk1 _ ⟨U,U,U,U,U,(cb (show (!(eu (bv l) y1))=(((!(fF y1))||(decide (0 < ((i1:Nat):Int))&&decide (y1.No≤(nthI l (((i1:Nat):Int) - 1)).No)))||(!(eu (bv l) y1))) from by rw [c2,c3,c4] <;> rfl)),trivial⟩
      ·have c3p:=of_decide_eq_false c3
       refine tk 7 U U (tk 8 U U (tk 9 U U (tk 10 U U ?_)))
       refine tk 11 U U (tk 12 U U (tk 13 U U (tk 14 U U ?_)))
       refine tk 15 U U (tf 16 U U (fun _ _ _=>co U) (tf 17 U U (fun _ _ _=>co U) ?_))
       refine tm 18 U (tf 19 U U (fun _ _ hj=>ky ty178 U (hj.nth (i:=1) U) U) (tf 20 U U (fun _ _ hj=>ky ty52 U (hj.nth (i:=0) U) U) ?_))
       refine tn 21 U (fu (v:=.bool (eu (bv l) y1)) Tryz.call106 (mq h1 (bv l) rr1 y1 r3 ok1 ok4) U (⟨jn,?_⟩))
       refine tf 22 U U (fun _ _ _=>ku U) (tf 23 U U (fun _ _ _=>co U) (bY kr ?_))
       exact hk1 _ ⟨U,U,U,U,U,(cb (show (!(eu (bv l) y1))=(((!(fF y1))||(decide (0 < ((i1:Nat):Int))&&decide (y1.No≤(nthI l (((i1:Nat):Int) - 1)).No)))||(!(eu (bv l) y1))) from by rw [c2,c3] <;> rfl)),trivial⟩
    refine aE U (fun c5=>?_) (fun c5=>?_)
    ·have hs8:=hs6.trans (bt c5)
     refine sr (an ?_)
     exact aw [I 170] CP U hX rd (ci hs8)
    ·have hs10:=hs6.trans (bf c5)
     refine ao (av (ai (aB (v':=I (((i1+1):Nat):Int)) U (bW ob) (aa (ac ?_)))))
     refine cE (L':=[z1]) js ?_
     exact ag1 ((i1+1),rz1) _ (Nat.lt_succ_self _) ⟨bF hd1,aT hd1,hs10⟩ rd
theorem qu (h:HF) (dQ:Int) (v0:Int) (v0_q:Addr) (av0:At h v0_q [I v0]):Ret Tryz.prog 226 [I dQ,.pointer (some v0_q)] h (.bool (gR dQ v0)):=by
 refine ay Tryz.func226 U Tryz.ntmps226 U fun X hM hX=>?_
 have hs0:gR dQ v0=gR dQ v0:=rfl
 refine sr (an (sr (aa (aJ U (aa ?_)))))
 refine tq 4 [(10,.bool (decide (dQ < 0)||decide (v0 < dQ)))] (fun hk1=>?_) (fun e=>?_)
 ·refine ar 6 U (fun c1=>?_) (fun c1=>?_)
  ·refine kq (bP (ah U ?_))
   exact hk1 _ ⟨(cb (dL c1)),trivial⟩
  ·refine aa (eC ty3 av0 U (aJ U (ah U ?_)))
   exact hk1 _ ⟨(cb (dM c1)),trivial⟩
 refine an ?_
 exact aw [.bool (decide (dQ < 0)||decide (v0 < dQ))] Tryz.func226 U hX rd (cs hs0)
theorem jr (h:HF) (most:Int) (l:(List Int)) (eW:Option Addr) (eV:Nat) (hl:SlC Rp.int h eW eV l):Ret Tryz.prog 177 [I most,.slice eW l.length eV] h (.bool (cw most l)):=by
 refine ay Tryz.func177 U Tryz.ntmps177 U fun X hM hX=>?_
 have hs0:cw most l=cw most l:=rfl
 refine sr (dy (fun b1=>an (sr (aa (cq 0 U hM (fun h1 hle1 hb1=>a8 (fV U U (aG (v:=.bool (cJ l (fun cG=>gR cG most))) E7 (iw h1 l eW eV (fun cG=>gR cG most) (.func (.func 226) #[] #[Q b1]) (hl.mono Rp.ce hle1) (fun h' cG hle =>iZ Tryz.call226 (qu h' cG most ⟨b1,0,none⟩  ((dR hb1).mono hle)))) U ?_))))))))
 refine cV U (an ?_)
 exact aw [.bool (!(cJ l (fun cG=>gR cG most)))] Tryz.func177 U hX rd (cs hs0)
end Go.Sg
