import Derived.Shelf.SlSortCmp.NoneTotal
import Derived.WalkKit
import Derived.Test.YtngiefchigcphaaGreatDoorW7
/- A part of the proof of AsofSmallest. -/
set_option linter.unusedVariables false
set_option linter.unusedSimpArgs false
set_option maxRecDepth 100000
namespace Go.Sg
open Go.Proofs
set_option maxHeartbeats 2000000
theorem pG (h:HF) (dL:Int) (q:aH) (ja:fS) (q_q:Addr) (at_:Int) (at__q:Addr) (hq:aH.ok h q ja) (aq:At h q_q (aH.cells q ja)) (aat_:At h at__q [I at_]) (hsm:smR q.Register):Ret Tryz.prog 63 [I dL,.pointer (some q_q),.pointer (some at__q)] h (.bool (bq dL q at_)):=by
 refine ae Tryz.func63 U Tryz.ntmps63 U fun X hM hX=>?_
 have hs0:bq dL q at_=bq dL q at_:=rfl
 refine qT 6 U (aj qW U (aj tb U (km (j:=2) ty24 aq U U (aB (aj mH U (aj xu U (km (j:=13) ty31 aq U U (dv ty3 aat_ U (aj BH U (km (j:=48) ty3 aq U U ?_))))))))))
 refine aN (cy Tryz.call45 (rB h q.Register.Interests ja.Register.jz ja.Register.jy dL q.doc.Parties ja.doc.m4 ja.doc.mZ at_ q.known hq.Register.Interests hq.doc.Parties hsm.2.2.2.1) U (fun v1 h1 hle1 hp1=>?_))
 obtain ⟨rb1,rc1,rfl,sl1⟩:=hp1
 refine qO 13 U ?_
 refine ar 2 [25,26,27] 27 (.bool (((ef q.Register.Interests dL q.doc.Parties at_ q.known).2.2 != 0)||(ef q.Register.Interests dL q.doc.Parties at_ q.known).2.1)) (fun hk1=>?_) (fun e=>?_)
 ·refine ac 25 U (fun c1=>?_) (fun c1=>?_)
  ·refine qO 2 U ?_
   exact hk1 _ (cb (dW c1))
  ·refine qO 2 U ?_
   exact hk1 _ (cb (dX c1))
 refine an ?_
 exact ah [.bool (((ef q.Register.Interests dL q.doc.Parties at_ q.known).2.2 != 0)||(ef q.Register.Interests dL q.doc.Parties at_ q.known).2.1)] Tryz.func63 U hX rd (cs hs0)
theorem ui {h:HF}:∀ {cl:List Value} {xs:List Int},bD Rp.int h cl xs→cl=xs.map (Value.int .i64)
 | _,[],hc=>hc
 | _,x::xs,⟨cs,rest,e,_,hr,hc⟩=>by
  have:cs=[I x]:=hr
  rw [e,this,ui hc];rfl
theorem ux (h:HF):∀ xs:List Int,bD Rp.int h (xs.map (Value.int .i64)) xs
 | []=>rfl
 | x::xs=>⟨[I x],xs.map (Value.int .i64),rfl,rfl,rfl,ux h xs⟩
theorem Db (f:Int→Bool):∀ (l:List Int) (i:Nat),(bN.L1 f bN.K1 l i=-1∧∀ x∈l,f x=false) ∨
  ∃ a y b,l=a++y::b∧bN.L1 f bN.K1 l i=((i+a.length:Nat):Int)∧f y=true∧∀ x∈a,f x=false
 | [],i=>.inl ⟨rfl,fun _ h=>(List.not_mem_nil h).elim⟩
 | y::l,i=>by
  simp only [bN.L1]
  cases hy:f y with
  | true=>exact .inr ⟨[],y,l,rfl,by simp,hy,fun _ h=>(List.not_mem_nil h).elim⟩
  | false=>
   rcases Db f l (i+1) with ⟨h1,h2⟩ | ⟨a,z,b,rfl,h2,h3,h4⟩
   ·exact .inl ⟨h1,fun x hx=>by rcases List.mem_cons.1 hx with rfl | hx;exact hy;exact h2 x hx⟩
   ·refine .inr ⟨y::a,z,b,rfl,?_,h3,fun x hx=>by rcases List.mem_cons.1 hx with rfl | hx;exact hy;exact h4 x hx⟩
    rw [cond_false,h2];simp only [List.length_cons];congr 1;omega
theorem wM {q:Int→Bool} {l:List Int} (h:∀ x∈l,q x=false):(l.filter fun x=>!(q x))=l:=by
 rw [List.filter_eq_self];intro x hx;simp [h x hx]
theorem Ii {q:Int→Bool} {s zs:List Int} {i j:Nat} {y:Int} (hij:i < j) (hz:zs.length=s.length) (hj:s[j]? = some y) (ht:zs.take i=(s.take j).filter fun x=>!(q x)) (hd:zs.drop j=s.drop j) (hy:q y=false):
  (zs.set i y).take (i+1)=((s.take (j+1)).filter fun x=>!(q x))∧(zs.set i y).drop (j+1)=s.drop (j+1):=by
 have hjl:j < s.length:=by
  rcases Nat.lt_or_ge j s.length with h | h
  ·exact h
  ·simp [List.getElem?_eq_none h] at hj
 constructor
 ·rw [List.take_add_one,List.take_set_of_le (Nat.le_refl _),ht,List.take_add_one,hj,List.filter_append]
  simp [hy,show i < zs.length from by omega]
 ·rw [List.drop_set_of_lt ob,← List.drop_drop,hd,List.drop_drop]
theorem Ih {q:Int→Bool} {s zs:List Int} {i j:Nat} {y:Int} (hj:s[j]? = some y) (ht:zs.take i=(s.take j).filter fun x=>!(q x)) (hd:zs.drop j=s.drop j) (hy:q y=true):
  zs.take i=((s.take (j+1)).filter fun x=>!(q x))∧zs.drop (j+1)=s.drop (j+1):=by
 constructor
 ·rw [List.take_add_one,hj,List.filter_append,ht];simp [hy]
 ·rw [← List.drop_drop,hd,List.drop_drop]
theorem xN {w:World} {bk i n cc:Nat} {cl:List Value} (hb:w.heap[bk]? = some (.cells cl.toArray 3 (0,0))) (hle:i+(n+1)≤cl.length) (ty:TypeId):
  (Builtin.clear_ #[31] ty #[.slice (some ⟨bk,i,none⟩) (n+1) cc]).run Tryz.prog w=.ok (.tuple #[]) { w with heap:=w.heap.setIfInBounds bk (.cells (splice cl i (List.replicate (n+1) (I 0))).toArray 3 (0,0)) }:=by
 have hz:(zeroValue 3).run Tryz.prog w=.ok (I 0) w:=jf kr w
 have h9:=kE (P:=Tryz.prog) i (List.replicate (n+1) (I 0)) 0 cl w hb (by simpa using hle) (fun v hv=>by rw [(List.mem_replicate.1 hv).2];rfl)
 rw [Nat.add_zero] at h9
 have hzc:(Builtin.zeroCells (Value.int .i64 0).cells (n+1)).toList=List.replicate (n+1) (Value.int .i64 0):=by
  simp [Builtin.zeroCells,Value.cells]
  rw [List.eq_replicate_iff]
  refine ⟨by simp,fun x hx=>?_⟩
  obtain ⟨j,_,rfl⟩:=List.mem_map.1 hx
  simp [Nat.mod_one]
 simp only [Builtin.clear_,Sem.run_bind]
 simp [run_underlying cN,hz,hzc,h9]
theorem pA (h:HF) (s:List Int) (b:Option Addr) (c:Nat) (G:LH) (del:Int→Bool) (del_v:Value) (hG:eb Rp.int 3 h s b c G)
  (hdel:∀ (h':HF) (eo:Int),HF.le h h'→wh Tryz.prog del_v [I eo] h' [] (.bool (del eo))) (hsz:s.length≤2000000):
  oP Tryz.prog 64 [.slice b s.length c,del_v].toArray h G (fun r h' G'=>h'=h∧r=.returned (.slice b (bp s del).length c)∧eb Rp.int 3 h (bp s del) b c G'):=by
 refine ae Tryz.func64 U Tryz.ntmps64 U fun X hM hX=>(qT 8 U ?_)
 refine aN (Cu [] G [] Tryz.call110 Rp.bi hG (by simp) (fun h1 hle hsl=>mi h1 s b c del del_v hsl (fun h' a hl=>hdel h' a (hle.t hl))) U (qO 6 U ?_))
 have hcase:=Db del s 0
 rw [show bN.L1 del bN.K1 s 0=bN s del from rfl] at hcase
 rcases hcase with ⟨h1,h2⟩ | ⟨a,y,r,hs,h1,hy,ha⟩
 ·rw [h1]
  refine ai (v':=.bool true) U U (qO 7 U ?_)
  have hf:bp s del=s:=wM h2
  refine nC Tryz.func64 (fun a ha w hw=>res1 U a ha w) (fun w hw=>hw.lower) ⟨hX,?_,?_⟩
  ·rw [hf];rfl
  ·rw [hf];exact hG
 ·rw [h1,Nat.zero_add]
  have hne:(((a.length:Nat):Int)==-1)=false:=by simp
  have hsl:s.length=a.length+(r.length+1):=by rw [hs];simp
  refine ai (v':=.bool false) U (cb hne) (qO 7 U (ai (v':=I ((a.length+1:Nat):Int)) U (bz ob) (an ?_)))
  refine aU (ι:=Nat×List Int×LH) (fun i=>[(0,.slice b s.length c),(1,del_v),(5,I ((i.1:Nat):Int))]) (fun i=>h) (fun i=>i.2.2)
   (fun i=>i.1 < s.length∧i.2.1.length=s.length∧i.2.1.take i.1=bp s del∧eb Rp.int 3 h i.2.1 b c i.2.2) ?_ (fun hx=>?_)
  ·rintro ⟨i,zs,G'⟩ ⟨hi,hz,hf,hG'⟩ e
   dsimp only at hi hz hf hG'
   rcases hG' with ⟨rfl,_⟩ | ⟨bk,cl,sp,rfl,hcl,h3,h4,h5,rfl⟩
   ·simp at hz;omega
   have hcl':=ui hcl
   subst hcl'
   have hcz:zs.length≤c:=h4
   have h3':zs.length+sp.length=c:=by simpa [Rp.int] using h3
   have hz2:0≤((i:Nat):Int)∧((i:Nat):Int)≤((s.length:Nat):Int):=by omega
   have hzn:(i:Int).toNat=i:=by omega
   have hgf:eb Rp.int 3 h zs (some ⟨bk,0,none⟩) c [(bk,.cells (zs.map (Value.int .i64)++sp).toArray 3 (0,0))]:=.inr ⟨bk,_,sp,rfl,hcl,h3,h4,h5,rfl⟩
   obtain ⟨m,hm⟩:∃ m,s.length - i=m+1:=⟨s.length - i - 1,by omega⟩
   refine qT 4 U ?_
   refine aN (gI (v:=.slice (some ⟨bk,i,none⟩) (m+1) (c - i)) (F7 cN ty3 U U ob ob hm) ?_)
   refine aN (gZ U fun w hw=>⟨.tuple #[],_,h,_,?_,hw.write (i:=0) U (.cells (splice (zs.map (Value.int .i64)++sp) i (List.replicate (m+1) (I 0))).toArray 3 (0,0)),?_⟩)
   ·have:=xN (w:=w) (i:=i) (n:=m) (cc:=c - i) (hw.own _ (List.mem_singleton.2 rfl)) (by simp;omega)
    simp only [execOp,resolve,invoke,builtin]
    simp [Env.ev,upd,upds,pute,this]
   ·have hsp:∃ sp',splice (zs.map (Value.int .i64)++sp) i (List.replicate (m+1) (I 0))=(zs.take i).map (Value.int .i64)++sp':=by
     have e1:zs.map (Value.int .i64)++sp=(zs.take i).map (Value.int .i64)++((zs.drop i).map (Value.int .i64)++sp):=by
      rw [← List.append_assoc,← List.map_append,List.take_append_drop]
     rw [e1]
     have e2:i=((zs.take i).map (Value.int .i64)).length:=by simp;omega
     have:=vD (List.replicate (m+1) (I 0)) ((zs.take i).map (Value.int .i64)) ((zs.drop i).map (Value.int .i64)++sp) (by simp;omega)
     rw [← e2] at this
     exact ⟨_,this⟩
    obtain ⟨sp',hsp⟩:=hsp
    have hlen:((zs.take i).map (Value.int .i64)++sp').length=c * Rp.int.sz:=by
     rw [← hsp,zI];exact h3
    rw [hsp]
    have hg2:eb Rp.int 3 h (zs.take i) (some ⟨bk,0,none⟩) c [(bk,.cells ((zs.take i).map (Value.int .i64)++sp').toArray 3 (0,0))]:=
     .inr ⟨bk,_,sp',rfl,ux h _,hlen,by rw [List.length_take];omega,by rw [List.length_take];omega,rfl⟩
    refine qO 5 U ?_
    refine aN (Ct (z:=(i:Int)) cN ty3 hgf ob (by show _=Value.slice _ _ _;rw [hz];rfl) U U (an ?_))
    refine nC Tryz.func64 (fun a ha w hw=>res1 U a ha w) (fun w hw=>hw.lower) ⟨hX,?_,?_⟩
    ·rw [← hf,hzn];rfl
    ·rw [← hf];exact hg2
  ·refine bG (ι:=Nat×Nat×List Int×LH) (fun i=>[(0,.slice b s.length c),(1,del_v),(5,I ((i.1:Nat):Int)),(6,I ((i.2.1:Nat):Int))]) (fun i=>h) (fun i=>i.2.2.2)
    (fun i=>i.1 < i.2.1∧i.2.1≤s.length∧i.2.2.1.length=s.length∧i.2.2.1.take i.1=((s.take i.2.1).filter fun x=>!(del x))∧i.2.2.1.drop i.2.1=s.drop i.2.1∧eb Rp.int 3 h i.2.2.1 b c i.2.2.2)
    (fun i=>s.length - i.2.1) (a.length,a.length+1,s,G) rd (fun w hw=>hw) ⟨Nat.lt_succ_self _,by show a.length+1≤s.length;omega,rfl,?_,rfl,hG⟩ ?_
   ·show s.take a.length=((s.take (a.length+1)).filter fun x=>!(del x))
    rw [hs,List.take_left' rfl,List.take_add_one,List.take_left' rfl,List.filter_append,wM ha];simp [hy]
   ·rintro ⟨i,j,zs,G'⟩ ⟨hij,hjl,hz,ht,hd,hG'⟩ ag e
    dsimp only at hij hjl hz ht hd hG'
    rcases Nat.lt_or_ge j s.length with hj | hj
    ·have hjs:s[j]? = some s[j]:=List.getElem?_eq_getElem hj
     have hjz:zs[j]? = some s[j]:=by
      have e1:(zs.drop j)[0]? = (s.drop j)[0]?:=by rw [hd]
      simpa [hjs] using e1
     obtain ⟨bk,hbk⟩:=hG'.wg ob
     have hiz:zs[i]? = some zs[i]:=List.getElem?_eq_getElem ob
     refine qT 5 U (a8 cN U (ai (v':=.bool true) U (cb (decide_eq_true ob)) (qO 9 U ?_)))
     refine aN (gI (Bj (R:=Rp.int) (xs:=zs) (z:=(j:Int)) cN ty3 hbk ob U hz.symm U) ?_)
     refine aN (gI (Jf (R:=Rp.int) (off:=0) (i:=j) ty3 hG' hbk hjz (fun cs hcs=>by rw [show cs=[I s[j]] from hcs];rfl) (by rfl) (fun p hp=>hp)) (qO 6 U ?_))
     refine aN (nO (v:=.bool (del s[j])) [] (List.nil_sublist _) (hdel h s[j] (HF.le_refl _)) U U ?_)
     cases hy:del s[j] with
     | true=>
      obtain ⟨k1,k2⟩:=Ih hjs ht hd hy
      refine qO 7 U (ai (v':=I ((j+1:Nat):Int)) U (bz ob) (an ?_))
      exact ag (i,j+1,zs,G') _ (by show s.length - (j+1) < s.length - j;omega) ⟨by show i < j+1;omega,hj,hz,k1,k2,hG'⟩ rd
     | false=>
      obtain ⟨k1,k2⟩:=Ii hij hz hjs ht hd hy
      refine qO 8 U ?_
      refine aN (gI (Bj (R:=Rp.int) (xs:=zs) (z:=(i:Int)) cN ty3 hbk ob U hz.symm U) ?_)
      refine aN (Cs (R:=Rp.int) (i:=i) (off:=0) (u:=zs[i]) (u':=s[j]) (v:=I s[j]) [] G' [] ty3 U hG' (by simp) hbk hiz (by decide) (fun cs hcs=>by rw [show cs=[I zs[i]] from hcs];rfl) (by rfl) U U (fun G2 hG2=>?_))
      rw [List.nil_append,List.append_nil]
      refine qO 3 U (ai (v':=I ((i+1:Nat):Int)) U (bz ob) (qO 5 U (ai (v':=I ((j+1:Nat):Int)) U (bz ob) (an ?_))))
      exact ag (i+1,j+1,zs.set i s[j],G2) _ (by show s.length - (j+1) < s.length - j;omega) ⟨by show i+1 < j+1;omega,hj,by show (zs.set i s[j]).length=s.length;simpa using hz,k1,k2,hG2⟩ rd
    ·have hje:j=s.length:=by omega
     subst hje
     refine qT 5 U (a8 cN U (ai (v':=.bool false) U (cb (decide_eq_false ob)) (qO 3 U ?_)))
     exact hx (i,zs,G') _ ⟨hij,hz,by show zs.take i=_;rw [ht,List.take_length];rfl,hG'⟩ rd
theorem lW (h:HF) (dL:Int)  : Ret Tryz.prog 81 [I dL] h (.bool (ep dL)):=by
 refine ae Tryz.func81 U Tryz.ntmps81 U fun X hM hX=>?_
 have hs0:ep dL=ep dL:=rfl
 refine qT 9 U ?_
 refine ar 3 [5,6,7,8] 8 (.bool (decide (0≤dL)&&decide (dL < 1099511627776))) (fun hk1=>?_) (fun e=>?_)
 ·refine ac 5 U (fun c1=>?_) (fun c1=>?_)
  ·refine qO 3 U ?_
   exact hk1 _ (cb (cB c1))
  ·refine qO 3 U ?_
   exact hk1 _ (cb (cC c1))
 refine an ?_
 exact ah [.bool (decide (0≤dL)&&decide (dL < 1099511627776))] Tryz.func81 U hX rd (cs hs0)
theorem ru (h:HF) (l:(List Version)) (eD:Option Addr) (eC:Nat) (l_q:Addr) (known:Int) (known_q:Addr) (e9:Int) (from__q:Addr) (hl:SlC Version.rp h eD eC l) (al:At h l_q [.slice eD l.length eC]) (aknown:At h known_q [I known]) (afrom_:At h from__q [I e9]) (hsz:l.length≤2000000):Itr Tryz.prog (.func (.func 140) #[] (List.toArray [.pointer (some l_q),.pointer (some known_q),.pointer (some from__q)])) nG (bo l known e9) h:=by
 refine vS Tryz.call140 ?_
 intro yf ya yb C Sp Pn h1 A hle m1 m2 m3 hC hy
 refine jS Eo U Tryz.ntmps140 U fun X hXM hX=>?_
 have hs0:bo l known e9=[]++bo l known e9:=rfl
 refine sr (aN (Hj hXM (fun b1 b1M=>qO 9 U (dv ty26 (al.mono hle) U (a8 iN U (qO 2 U ?_))))))
 refine aU (ι:=Nat×Int×(List (Int×Version))×Obj) (fun i=>[(0,.func yf ya yb),(5,.map (some b1))]) (fun i=>h1) (fun i=>[(b1,i.2.2.2)]++(A)) (fun i=>i.1≤l.length∧bo l known e9=[]++((bo.K1) i.2.1 i.2.2.1)∧gC (Value.int .i64) (kx Version.rp) h1 i.2.2.2 i.2.2.1∧i.2.2.1.length≤0+i.1) ?_ (fun hx1=>?_)
 ·rintro ⟨i1,nH,cY,ku⟩ ⟨aP,hs1,gG,oF⟩ e
  try dsimp only at aP gG oF
  refine qT 3 U (xC 0 U b1M (fun h8 hle7 hb3=>?_))
  have mc2:oR (Value.int .i64) (kx Version.rp) h8 b1 cY:=⟨_,hb3,gG.mono (kx.mono Version.aD) hle7⟩
  refine aN (cy Tryz.call141 (sq h8 cY b1 mc2) U (fun v4 h9 hle8 hp3=>aN (cy Tryz.call60 (lD h9 v4 (cY.map Prod.fst) hp3 (by rw [List.length_map];omega)) U (fun v5 h10 hle9 hp4=>?_))))
  obtain ⟨rb2,rc2,rfl,sl2⟩:=hp4
  refine a8 cN U (qO 2 U ?_)
  refine aU (ι:=Nat×List (Int×Version)×LH×HF) (fun i=>[]) (fun i=>i.2.2.2) (fun i=>i.2.2.1) (fun i=>i.1≤(sortI (cY.map Prod.fst)).length∧bo l known e9=i.2.1++((bo.K2))∧C i.2.1 i.2.2.2 i.2.2.1∧HF.le h10 i.2.2.2) ?_ (fun hx2=>?_)
  ·rintro ⟨i2,dn2,A2_,hh2⟩ ⟨jq,hs2,hC2_,hl2⟩ e
   try dsimp only at jq hC2_ hl2
   refine gp ?_
   have hs3:bo l known e9=dn2:=hs2.trans (List.append_nil _)
   exact vT [] (A:=A2_) Eo U (List.Sublist.refl _) (.inl (hs3 ▸ hC2_))
  ·refine bG (ι:=Nat×List (Int×Version)×LH×HF×List Int) (fun i=>[(0,.func yf ya yb),(5,.map (some b1)),(39,.slice rb2 ((sortI (cY.map Prod.fst)).length) rc2),(40,I (((sortI (cY.map Prod.fst)).length:Nat):Int)),(41,I ((i.1:Nat):Int))]) (fun i=>i.2.2.2.1) (fun i=>i.2.2.1) (fun i=>(sortI (cY.map Prod.fst)).drop i.1=i.2.2.2.2∧i.1≤(sortI (cY.map Prod.fst)).length∧bo l known e9=i.2.1++((bo.L2 cY (bo.K2)) i.2.2.2.2 )∧C i.2.1 i.2.2.2.1 i.2.2.1∧HF.le h10 i.2.2.2.1) (fun i=>i.2.2.2.2.length) (0,[],A,h10,(sortI (cY.map Prod.fst))) rd sw ⟨U,Nat.zero_le _,hs1,(m1 _ _ _ _ ((hle7.t hle8).t hle9) hC),(HF.le_refl h10)⟩ ?_
   rintro ⟨i2,dn2,A2_,hh2,s2⟩ ⟨hd2,jq,hs4,hC2_,hl2⟩ ag1 e
   try dsimp only at hd2 jq hC2_ hl2
   rcases s2 with _ | ⟨y2,rz2⟩
   ·have sD:=cw hd2
    refine sr (ai (v':=.bool false) U (cb sD) (qO 4 U ?_))
    exact hx2 (i2,dn2,A2_,hh2) _ ⟨jq,hs4,hC2_,hl2⟩ trivial
   ·have pW:=dy hd2
    have jL:=cA hd2
    have wH:=aE hd2
    have Df:=sl2.1.1
    refine sr (ai (v':=.bool true) U (cb pW) (qO 8 U (aN (eU (enc:=fun y=>[I y]) (fun _ _ _ e=>e) cN ty3 (sl2.mono Rp.bi hl2).1 (nthZ jL) (aV jL) U U U (fun q4 A10=>?_)))))
    refine dv ty3 A10 U (qO 8 U ?_)
    obtain ⟨o3,hb5,hm5⟩:=(mc2.mono (kx.mono Version.aD) ((hle8.t hle9).t hl2))
    refine aN (pJ (k:=y2) GB (eO kK) hb5 hm5 (jf zv70) (show (kx Version.rp) _ (.agg (List.toArray [I 0,I 0,I 0,.string (⟨#[]⟩:ByteArray),.slice none 0 0,.slice none 0 0,.slice none 0 0,I 0,I 0,I 0,.string (⟨#[]⟩:ByteArray),.slice none 0 0,I 0])) (Version.mk 0 0 0 (Policy.mk (⟨#[]⟩:ByteArray) [] [] [] (Expr.mk 0 0 0 (⟨#[]⟩:ByteArray) []) 0)) from ⟨_,U,(lv.mk (eE.mk none 0 none 0 none 0 (cE.mk none 0))),U,⟨⟨SlC.nil,SlC.nil,SlC.nil,(Expr.ok.of SlC.nil)⟩⟩⟩) U U (fun v7 hv3=>?_))
    obtain ⟨_,rfl,rr4,rfl,ok4⟩:=hv3
    have hx3:bo l known e9=dn2++((y2,(mgetD cY y2 (Version.mk 0 0 0 (Policy.mk (⟨#[]⟩:ByteArray) [] [] [] (Expr.mk 0 0 0 (⟨#[]⟩:ByteArray) []) 0))))::(bo.L2 cY (bo.K2) rz2 )):=hs4
    refine aN (lS ([]) A2_ ap (hy dn2 (y2,(mgetD cY y2 (Version.mk 0 0 0 (Policy.mk (⟨#[]⟩:ByteArray) [] [] [] (Expr.mk 0 0 0 (⟨#[]⟩:ByteArray) []) 0)))) _ _ _ _ hx3 (((hle7.t hle8).t hle9).t hl2) hC2_ ⟨rr4,U,ok4⟩) U U (fun h14 A11 hle13 hC3=>?_) (fun h15 A12 hle14 hS3=>?_) (fun ch3 h16 A13 hle15 hP3 e=>i6 (qM [] (A:=A13) Eo (List.sublist_append_right _ _) hP3)))
    ·have hs6:bo l known e9=(dn2++[(y2,(mgetD cY y2 (Version.mk 0 0 0 (Policy.mk (⟨#[]⟩:ByteArray) [] [] [] (Expr.mk 0 0 0 (⟨#[]⟩:ByteArray) []) 0))))])++((bo.L2 cY (bo.K2) rz2 )):=hx3.trans ap
     refine qO 6 U (ai (v':=I (((i2+1):Nat):Int)) U (bz ob) (qO 2 U ?_))
     exact ag1 ((i2+1),(dn2++[(y2,(mgetD cY y2 (Version.mk 0 0 0 (Policy.mk (⟨#[]⟩:ByteArray) [] [] [] (Expr.mk 0 0 0 (⟨#[]⟩:ByteArray) []) 0))))]),A11,h14,rz2) _ (Nat.lt_succ_self _) ⟨ba hd2,aE hd2,hs6,hC3,(hl2.t hle13)⟩ rd
    ·refine qO 3 U ?_
     refine gp ?_
     exact qL [] (A:=A12) Eo U (List.Sublist.refl _) (.inr hS3)
 ·refine bG (ι:=Nat×Int×(List (Int×Version))×Obj×List Version) (fun i=>[(0,.func yf ya yb),(2,.pointer (some known_q)),(3,.pointer (some from__q)),(5,.map (some b1)),(6,I i.2.1),(13,.slice eD l.length eC),(14,I ((l.length:Nat):Int)),(15,I ((i.1:Nat):Int))]) (fun i=>h1) (fun i=>[(b1,i.2.2.2.1)]++(A)) (fun i=>l.drop i.1=i.2.2.2.2∧i.1≤l.length∧bo l known e9=[]++((bo.L1 known e9 (bo.K1)) i.2.2.2.2 i.2.1 i.2.2.1)∧gC (Value.int .i64) (kx Version.rp) h1 i.2.2.2.1 i.2.2.1∧i.2.2.1.length≤0+i.1) (fun i=>i.2.2.2.2.length) (0,(-1),[],.map #[] 0,l) rd sw ⟨U,Nat.zero_le _,hs0,(gC.nil (enc:=(Value.int .i64)) (V:=(kx Version.rp)) (h:=h1)),lc⟩ ?_
  rintro ⟨i1,nH,cY,ku,s1⟩ ⟨hd1,aP,hs7,gG,oF⟩ ag2 e
  try dsimp only at hd1 aP gG oF
  rcases s1 with _ | ⟨y1,rz1⟩
  ·have dr:=cw hd1
   refine sr (ai (v':=.bool false) U (cb dr) (qO 4 U ?_))
   exact hx1 (i1,nH,cY,ku) _ ⟨aP,hs7,gG,lc⟩ rd
  ·have dq:=dy hd1
   have aM:=cA hd1
   have ey:=aE hd1
   have gi:=(hl.mono Version.aD hle).1.1
   refine sr (ai (v':=.bool true) U (cb dq) (qO 8 U (aN (fF iN ty70 (hl.mono Version.aD hle).1 (nthZ aM) (aV aM) U U U (fun q5 cs2 A14 ln2 rr5=>?_)))))
   obtain ⟨r2,rfl,ok5⟩:=rr5
   refine el ty70 A14 U U (bR zc70 (fun b3=>bL 0 ty70 U U U U U U (iT (L':=[(b3,O (Version.cells y1 r2) 70),(b1,ku)]++(A)) U (qO 4 U (aj u9 U (aI 0 ty3 U U U ?_))))))
   refine dv ty3 (aknown.mono hle) U (qO 2 U ?_)
   refine kC U (fun c5=>?_) (fun c5=>?_)
   ·have c5p:=of_decide_eq_true c5
    have hs9:=hs7.trans (congrArg ([]++·) (bt c5))
    refine qT 2 U (ai (v':=I (((i1+1):Nat):Int)) U (bz ob) (qO 2 U ?_))
    refine cG (L':=[(b1,ku)]++(A)) js ?_
    exact ag2 ((i1+1),nH,cY,ku,rz1) _ (Nat.lt_succ_self _) ⟨ba hd1,aE hd1,hs9,gG,lc⟩ rd
   ·have c5p:=of_decide_eq_false c5
    have hs10:=hs7.trans (congrArg ([]++·) (bf c5))
    refine qT 3 U (aj j8 U (aI 0 ty3 U U U (qO 6 U (dv ty3 (afrom_.mono hle) U (qO 2 U ?_)))))
    refine kC U (fun c6=>?_) (fun c6=>?_)
    ·have c6p:=of_decide_eq_true c6
     have hs11:=hs10.trans (congrArg ([]++·) (bt c6))
     refine qT 7 U ?_
     refine kC U (fun c7=>?_) (fun c7=>?_)
     ·have c7p:=of_decide_eq_true c7
      have hs12:=hs11.trans (congrArg ([]++·) (bt c7))
      refine qT 2 U (ai (v':=I (((i1+1):Nat):Int)) U (bz ob) (qO 2 U ?_))
      refine cG (L':=[(b1,ku)]++(A)) js ?_
      exact ag2 ((i1+1),nH,cY,ku,rz1) _ (Nat.lt_succ_self _) ⟨ba hd1,aE hd1,hs12,gG,lc⟩ rd
     ·have c7p:=of_decide_eq_false c7
      have hs13:=hs11.trans (congrArg ([]++·) (bf c7))
      refine e8 ?_
      refine fd ([(b3,O (Version.cells y1 r2) 70),(b1,ku)]) mixed kr jn (fun dU _=>(tm 0 U (tf 1 U U (fun _ _ hj=>fK ty3 ((afrom_.mono hle).mono hj.1) U) (qA [2,3] U (bv kr (qT 3 U (dl 0 ty70 U U U (aN (ki 1 (k:=e9) (x:=y1) GB (eO kK) U gG U U ⟨_,U,r2,U,ok5⟩ (fun mo3 hm6=>qO 3 U (ai (v':=I (((i1+1):Nat):Int)) U (bz ob) (qO 2 U ?_))))))))))))
      refine cG (L':=[(b1,mo3)]++(A)) js ?_
      exact ag2 ((i1+1),y1.At,(mput cY e9 y1),mo3,rz1) _ (Nat.lt_succ_self _) ⟨ba hd1,aE hd1,hs13,hm6,(by have:=gr cY e9 y1;first | omega | (simp only [List.length_nil,List.length_cons] at *;omega))⟩ rd
    ·have c6p:=of_decide_eq_false c6
     have hs14:=hs10.trans (congrArg ([]++·) (bf c6))
     refine qT 4 U (dl 0 ty70 U U U (aN (ki 1 (k:=y1.At) (x:=y1) GB (eO kK) U gG U U ⟨_,U,r2,U,ok5⟩ (fun mo4 hm7=>qO 3 U (ai (v':=I (((i1+1):Nat):Int)) U (bz ob) (qO 2 U ?_))))))
     refine cG (L':=[(b1,mo4)]++(A)) js ?_
     exact ag2 ((i1+1),nH,(mput cY y1.At y1),mo4,rz1) _ (Nat.lt_succ_self _) ⟨ba hd1,aE hd1,hs14,hm7,(by have:=gr cY y1.At y1;first | omega | (simp only [List.length_nil,List.length_cons] at *;omega))⟩ rd
theorem td (h:HF) (l:(List Version)) (eD:Option Addr) (eC:Nat) (qV:Int) (known:Int) (hl:SlC Version.rp h eD eC l) (hsz:l.length≤2000000):je Tryz.prog 82 [.slice eD l.length eC,I qV,I known] h (fun v h'=>∃ (rv0:Value),v=rv0∧Itr Tryz.prog rv0 nG (gf l qV known) h'):=by
 refine ae Tryz.func82 U Tryz.ntmps82 U fun X hM hX=>?_
 have hs0:gf l qV known=gf l qV known:=rfl
 refine sr (dt (fun b1=>dt (fun b2=>dt (fun b3=>qO 4 U (bX 2 U hM (fun h1 hle1 hb1=>bX 0 U hM (fun h2 hle2 hb2=>bX 0 U hM (fun h3 hle3 hb3=>aN (gg U U (qO 2 U ?_))))))))))
 have hs1:gf l qV known=(bo l known qV):=hs0
 exact cJ [.func (.func 140) #[] #[Q b1,Q b3,Q b2]] Tryz.func82 U rd ⟨(.func (.func 140) #[] #[Q b1,Q b3,Q b2]),congrArg (fun r:(List (Int×Version))=>((.func (.func 140) #[] #[Q b1,Q b3,Q b2]):Value)) hs1.symm,(by rw [hs1];exact (ru h3 l eD eC ⟨b1,0,none⟩ known ⟨b3,0,none⟩ qV ⟨b2,0,none⟩ (hl.mono Version.aD ((hle1.t hle2).t hle3)) ((dN hb1).mono (hle2.t hle3)) ((dN hb2).mono hle3) (dN hb3) ob))⟩
theorem tS (h:HF) (l:(List Version)) (eD:Option Addr) (eC:Nat) (begun:Int) (aW:Int) (known:Int) (hl:SlC Version.rp h eD eC l) (hsm:smV l) (hk:Kinds h):je Tryz.prog 44 [.slice eD l.length eC,I begun,I aW,I known] h (fun v h'=>∃ (rb0:Option Addr) (rc0:Nat),v=.tuple #[.slice rb0 ((bx l begun aW known).1).length rc0,I ((bx l begun aW known).2.1),I ((bx l begun aW known).2.2)]∧SlC Rp.int h' rb0 rc0 ((bx l begun aW known).1)):=by
 refine ae B7 U Tryz.ntmps44 U fun X hM hX=>?_
 have hs0:bx l begun aW known=bx l begun aW known:=rfl
 have hsl:=hsm.len
 refine sr (dt (fun b1=>dt (fun b2=>qO 8 U (au (v:=I (bA l)) Tryz.call55 (nn h l eD eC hl ob hk) U (qO 7 U ?_)))))
 refine ak hs0 U (fun c1 hs1=>?_) (fun c1 hs2=>?_)
 ·refine qT 7 U ?_
  have hs3:bx l begun aW known=([],0,(bA l)):=hs1
  exact cJ [.slice none 0 0,I 0,I (bA l)] B7 U rd ⟨none,0,congrArg (fun r:((List Int)×Int×Int)=>(.tuple #[.slice none r.1.length 0,I r.2.1,I r.2.2]:Value)) hs3.symm,(by rw [hs3];exact SlC.nil)⟩
 ·refine qT 4 U (aI 1 ty3 U U U (au (v:=.bool (ep begun)) Tryz.call81 (lW h begun ) U (qO 2 U ?_)))
  refine ar 4 [25,26,27,28,29] 29 (.bool ((!(ep begun))||(!(ep aW)))) (fun hk1=>?_) (fun e=>?_)
  ·refine ac 25 U (fun c2=>?_) (fun c2=>?_)
   ·refine qO 4 U ?_
    exact hk1 _ (cb (dW c2))
   ·refine aI 0 ty3 U U U (au (v:=.bool (ep aW)) Tryz.call81 (lW h aW ) U (qO 2 U ?_))
    exact hk1 _ (cb (dX c2))
  refine aB ?_
  refine ar 4 [30,31,32,33,34] 34 (.bool (((!(ep begun))||(!(ep aW)))||(!(ep known)))) (fun hk2=>?_) (fun e=>?_)
  ·refine ac 30 U (fun c3=>?_) (fun c3=>?_)
   ·refine qO 4 U ?_
    exact hk2 _ (cb (dW c3))
   ·refine aB (au (v:=.bool (ep known)) Tryz.call81 (lW h known ) U (qO 2 U ?_))
    exact hk2 _ (cb (dX c3))
  refine aB ?_
  refine ar 4 [35,36,37,38,39] 39 (.bool ((((!(ep begun))||(!(ep aW)))||(!(ep known)))||decide (aW < begun))) (fun hk3=>?_) (fun e=>?_)
  ·refine ac 35 U (fun c4=>?_) (fun c4=>?_)
   ·refine qO 4 U ?_
    exact hk3 _ (cb (dW c4))
   ·refine aI 1 ty3 U U U (aI 0 ty3 U U U (qO 2 U ?_))
    exact hk3 _ (cb (dX c4))
  refine bh ?_
  refine ak hs2 U (fun c5 hs4=>?_) (fun c5 hs5=>?_)
  ·refine qT 6 U ?_
   have hs6:bx l begun aW known=([],0,1):=hs4
   exact cJ [.slice none 0 0,I 0,I 1] B7 U rd ⟨none,0,congrArg (fun r:((List Int)×Int×Int)=>(.tuple #[.slice none r.1.length 0,I r.2.1,I r.2.2]:Value)) hs6.symm,(by rw [hs6];exact SlC.nil)⟩
  ·refine qT 3 U (bR zc26 (fun b3=>qO 3 U (bR zc4 (fun b4=>dS 0 ty4 U U U U U U (qO 5 U (aI 3 ty3 U U U (aB (aN (cy Tryz.call82 (td h l eD eC begun known hl ob) U (fun v1 h1 hle1 hp1=>?_))))))))))
   obtain ⟨_,rfl,mo1⟩:=hp1
   refine qO 2 U ?_
   refine gp ?_
   refine dZ (L':=([(b4,O [.bool false] 4),(b3,O [.slice none 0 0] 26),(b2,O [I aW] 3),(b1,O [I begun] 3)])++markB []) ap ?_
   refine FZ (it:=v1) (xs:=(gf l begun known)) (ι:=Bool×(List Version)×Option Addr×Nat×LH×HF) [] (fun i=>i.2.2.2.2.2) (fun i=>[(b4,O [.bool i.1] 4),(b3,O [.slice i.2.2.1 i.2.1.length i.2.2.2.1] 26),(b2,O [I aW] 3),(b1,O [I begun] 3)]++(i.2.2.2.2.1)) (fun s i=>bx l begun aW known=((bx.L1 begun aW (bx.K1)) s i.1 i.2.1)∧eb Version.rp 70 i.2.2.2.2.2 i.2.1 i.2.2.1 i.2.2.2.1 i.2.2.2.2.1∧HF.le h1 i.2.2.2.2.2∧(∀ x∈i.2.1,x∈l)∧(∀ q∈s,q.2∈l)∧i.2.1.length+s.length≤l.length) (fun _=>False) 0 (fun _ _ _=>False) (false,[],none,0,[],h1) B7 U mo1 U tz (fun _ _ _ _ _ hq=>hq) U (show [(b4,O [.bool false] 4),(b3,O [.slice none 0 0] 26),(b2,O [I aW] 3),(b1,O [I begun] 3)]=_ from U) ⟨hs5,eb.nil,(HF.le_refl h1),(fun x hx=>(List.not_mem_nil hx).elim),C9,(by have:=Da l begun known;simpa using this)⟩ ?_ ?_ ?_ ?_
   ·rintro l1 dm1 lp1 y1 rz1 vs1 ⟨fC,aQ,gk,gj,ik,hh1⟩ hr1 X hFR1 ⟨hs7,jb,hl1,u1_0,u1_1,u1_2⟩ hl01 hlr1 hv1 hX hXM hlp1 nx1 rt1 ex1 pn1
    try dsimp only at jb hl1 u1_0 u1_1 u1_2 hlr1
    obtain ⟨rr1_0,rfl,ok1_0⟩:=hv1
    simp only [List.length_cons] at u1_2
    let z2:Nat×Obj:=(b3,O [.slice gk aQ.length gj] 26)
    let z6:Nat×Obj:=(dm1,.deferred (some []))
    refine dZ (L':=[(l1,.loop lp1),z6,(b4,O [.bool fC] 4),z2,(b2,O [I aW] 3),(b1,O [I begun] 3)]++(ik++(markB []))) ap (qT 5 U (bR zc70 (fun b6=>bL 0 ty70 U U U U U U (iT (L':=[(b6,O (Version.cells y1.2 rr1_0) 70),(l1,.loop lp1),z6,(b4,O [.bool fC] 4),z2,(b2,O [I aW] 3),(b1,O [I begun] 3)]++(ik++(markB []))) U (bh (ke 1 U hlp1 (qT 5 U (aI 5 ty3 U U U (qO 2 U ?_)))))))))
    refine ak hs7 U (fun c7 hs8=>?_) (fun c7 hs9=>?_)
    ·have c7p:=of_decide_eq_true c7
     refine cG (L':=[(l1,.loop { lp1 with state:=.busy }),z6,(b4,O [.bool fC] 4),z2,(b2,O [I aW] 3),(b1,O [I begun] 3)]++(ik++(markB []))) js ?_
     refine dZ (L':=rdH l1 dm1 lp1 (([(b4,O [.bool fC] 4),z2,(b2,O [I aW] 3),(b1,O [I begun] 3)]++(ik))++markB [])) ap ?_
     exact ex1 (fC,aQ,gk,gj,ik,hr1) _ _ _ ⟨hs8,(jb.mono Version.aD hlr1),(hl1.t hlr1),u1_0,(fun q hq=>(List.not_mem_nil hq).elim),(by simp only [List.length_nil,List.length_cons] at *;omega)⟩ (HF.le_refl _) U
    ·have c7p:=of_decide_eq_false c7
     refine qT 3 U (aI 3 ty4 U U U (aB ?_))
     refine ar 4 [50,51,52,53,54] 54 (.bool (fC||(y1.1==begun))) (fun hk4=>?_) (fun e=>?_)
     ·refine ac 50 U (fun c8=>?_) (fun c8=>?_)
      ·refine qO 4 U ?_
       exact hk4 _ (cb (dW c8))
      ·refine aB (aI 6 ty3 U U U (qO 2 U ?_))
       exact hk4 _ (cb (dX c8))
     refine dS 3 ty4 U U U U U U (qO 2 U (aI 4 ty26 U U U (dl 0 ty70 U U U (aN (bK (cells:=[I y1.2.No,I y1.2.At,I y1.2.Known,.string y1.2.Policy.Name,.slice rr1_0.Policy.fV y1.2.Policy.Kinds.length rr1_0.Policy.fU,.slice rr1_0.Policy.dK y1.2.Policy.Offices.length rr1_0.Policy.dJ,.slice rr1_0.Policy.kc y1.2.Policy.Rules.length rr1_0.Policy.kb,I y1.2.Policy.Change.Kind,I y1.2.Policy.Change.N,I y1.2.Policy.Change.No,.string y1.2.Policy.Change.Name,.slice rr1_0.Policy.Change.ir y1.2.Policy.Change.L.length rr1_0.Policy.Change.iG,I y1.2.Policy.Mode]) iN ty70 zc70 U U kr (fun b7=>?_))))))
     let z1:Nat×Obj:=(b7,O [I y1.2.No,I y1.2.At,I y1.2.Known,.string y1.2.Policy.Name,.slice rr1_0.Policy.fV y1.2.Policy.Kinds.length rr1_0.Policy.fU,.slice rr1_0.Policy.dK y1.2.Policy.Offices.length rr1_0.Policy.dJ,.slice rr1_0.Policy.kc y1.2.Policy.Rules.length rr1_0.Policy.kb,I y1.2.Policy.Change.Kind,I y1.2.Policy.Change.N,I y1.2.Policy.Change.No,.string y1.2.Policy.Change.Name,.slice rr1_0.Policy.Change.ir y1.2.Policy.Change.L.length rr1_0.Policy.Change.iG,I y1.2.Policy.Mode] 70)
     let z4:Nat×Obj:=(b4,O [.bool (fC||(y1.1==begun))] 4)
     let z5:Nat×Obj:=(l1,.loop { lp1 with state:=.busy })
     let z7:Nat×Obj:=(b6,O (Version.cells y1.2 rr1_0) 70)
     refine aN (db Version.eT ([z1,z7,z5,z6,z4,z2,(b2,O [I aW] 3),(b1,O [I begun] 3)]) (markB []) (fun G=>[z1,z7,z5,z6,z4,z2,(b2,O [I aW] 3),(b1,O [I begun] 3)]++(markB []++(G))) ap (fun _=>ap) iN ty70 zc70 U bytes70 (jb.mono Version.aD hlr1) U U (eI 0 U (show bD Version.rp hr1 [I y1.2.No,I y1.2.At,I y1.2.Known,.string y1.2.Policy.Name,.slice rr1_0.Policy.fV y1.2.Policy.Kinds.length rr1_0.Policy.fU,.slice rr1_0.Policy.dK y1.2.Policy.Offices.length rr1_0.Policy.dJ,.slice rr1_0.Policy.kc y1.2.Policy.Rules.length rr1_0.Policy.kb,I y1.2.Policy.Change.Kind,I y1.2.Policy.Change.N,I y1.2.Policy.Change.No,.string y1.2.Policy.Change.Name,.slice rr1_0.Policy.Change.ir y1.2.Policy.Change.L.length rr1_0.Policy.Change.iG,I y1.2.Policy.Mode] ([y1.2]) from ⟨[I y1.2.No,I y1.2.At,I y1.2.Known,.string y1.2.Policy.Name,.slice rr1_0.Policy.fV y1.2.Policy.Kinds.length rr1_0.Policy.fU,.slice rr1_0.Policy.dK y1.2.Policy.Offices.length rr1_0.Policy.dJ,.slice rr1_0.Policy.kc y1.2.Policy.Rules.length rr1_0.Policy.kb,I y1.2.Policy.Change.Kind,I y1.2.Policy.Change.N,I y1.2.Policy.Change.No,.string y1.2.Policy.Change.Name,.slice rr1_0.Policy.Change.ir y1.2.Policy.Change.L.length rr1_0.Policy.Change.iG,I y1.2.Policy.Mode],[],U,U,⟨rr1_0,U,ok1_0⟩,U⟩)) lo lo (fun ob1 oc1 G1 gr1=>?_))
     refine xg (sV ([z1,z7,z5,z6,z4,z2,(b2,O [I aW] 3),(b1,O [I begun] 3)]) G1 (markB [])) ?_
     refine dS 5 ty26 U U U U U U (qO 2 U ?_)
     let z9:Nat×Obj:=(b3,O [.slice ob1 ((aQ++[y1.2]).length) oc1] 26)
     refine cG (L':=[z5,z6,z4,z9,(b2,O [I aW] 3),(b1,O [I begun] 3)]++(G1++(markB []))) js ?_
     refine dZ (L':=rdH l1 dm1 lp1 (([z4,z9,(b2,O [I aW] 3),(b1,O [I begun] 3)]++(G1))++markB [])) ap ?_
     exact nx1 ((fC||(y1.1==begun)),(aQ++[y1.2]),ob1,oc1,G1,hr1) _ _ ⟨hs9,gr1,(hl1.t hlr1),(fun x hx=>(List.mem_append.1 hx).elim (u1_0 x) (fun hx=>by rw [List.mem_singleton.1 hx];exact u1_1 y1 (List.mem_cons_self ..))),(fun q hq=>u1_1 q (List.mem_cons_of_mem _ hq)),(by simp only [List.length_append,List.length_cons,List.length_nil] at *;omega)⟩ (HF.le_refl _)
   ·rintro dm1 ⟨fC,aQ,gk,gj,ik,hh1⟩ hn1 ⟨hs10,jb,hl1,u1_0,u1_1,u1_2⟩ hln1 hl01
    try dsimp only at jb hl1 u1_0 u1_1 u1_2 hln1
    let z3:Nat×Obj:=(b3,O [.slice gk aQ.length gj] 26)
    refine dZ (L':=[(b4,O [.bool fC] 4),z3,(b2,O [I aW] 3),(b1,O [I begun] 3)]++(ik++(markB (dm1::[])))) ap (qT 3 U (aI 1 ty26 U U U (a8 iN U (qO 2 U ?_))))
    refine ak hs10 U (fun c9 hs11=>?_) (fun c9 hs12=>?_)
    ·refine qT 6 U ?_
     have hs13:bx l begun aW known=([],0,0):=hs11
     refine dZ (L':=([(b4,O [.bool fC] 4),z3,(b2,O [I aW] 3),(b1,O [I begun] 3)]++(ik))++markB (dm1::[])) ap ?_
     exact pH (dm1::[]) [.slice none 0 0,I 0,I 0] B7 U rd ⟨none,0,congrArg (fun r:((List Int)×Int×Int)=>(.tuple #[.slice none r.1.length 0,I r.2.1,I r.2.2]:Value)) hs13.symm,(by rw [hs13];exact SlC.nil)⟩
    ·refine qT 3 U (aI 1 ty26 U U U (aI 1 ty26 U U U (a8 iN U (ai (v':=I (((aQ.length:Nat):Int) - 1)) U (im ob) (qu Version.aD ([(b4,O [.bool fC] 4),z3,(b2,O [I aW] 3),(b1,O [I begun] 3)]) ik (markB (dm1::[])) ap hM (jb.mono Version.aD hln1) (fun h2 hle2 sl1=>?_))))))
     have ho1:0≤((((aQ.length:Nat):Int) - 1):Int)∧((((aQ.length:Nat):Int) - 1):Int) < ((aQ).length:Int):=ob
     refine aN (fF iN ty70 sl1.1 ho1 (df ho1) U U U (fun q1 cs1 A1 ln1 rr1=>?_))
     obtain ⟨r1,rfl,ok1⟩:=rr1
     refine aj pt U (aj qX U (km (j:=12) ty3 A1 U U (qO 4 U ?_)))
     refine fd ([(b4,O [.bool fC] 4),z3,(b2,O [I aW] 3),(b1,O [I begun] 3)]) mixed kr jn (fun dU _=>(tm 1 U (tf 3 U U (fun _ _ hj=>gH ty26 U (hj.nth (i:=1) U) U) ?_)))
     refine tf 4 U U (fun _ _ hj=>gH ty4 U (hj.nth (i:=0) U) U) (tm 7 U ?_)
     refine tn 0 U (cy Tryz.call83 (oc h2  ) U (fun v2 h3 hle3 hp2=>?_))
     obtain ⟨rk2,rfl,mo2⟩:=hp2
     refine ⟨jl hle3,tu hle3 ?_⟩
     refine tn 2 U ?_
     obtain ⟨o1,hb1,hm1⟩:=mo2
     refine pJ (k:=(nthI aQ (((aQ.length:Nat):Int) - 1)).Policy.Mode) B9 (eO kK) hb1 hm1 (jf zv141) (show VFn _ (.nilFunc) Value.nilFunc from U) U U (fun v3 hv1=>?_)
     obtain rfl:=hv1
     refine ⟨jn,?_⟩
     refine tn 5 U (Hm (C6 h3 ((nthI aQ (((aQ.length:Nat):Int) - 1)).Policy.Mode) (((nz l).1 (by simpa using c1)).mode (u1_0 _ (kO ho1))) aQ gk gj fC (sl1.mono Version.aD hle3) ob) U U (fun v4 h4 hle4 hp3=>?_))
     obtain ⟨rb1,rc1,rfl,sl2⟩:=hp3
     have hjl:=C7 ((nthI aQ (((aQ.length:Nat):Int) - 1)).Policy.Mode) aQ fC
     refine ⟨jl hle4,tu hle4 ?_⟩
     refine tf 6 U U (fun _ _ _=>Fu iN U) (bv kr ?_)
     refine aU (ι:=Nat×(List Int)×Option Addr×Nat×LH) (fun i=>[(8,.slice i.2.2.1 i.2.1.length i.2.2.2.1),(9,I ((nthI aQ (((aQ.length:Nat):Int) - 1)).Policy.Mode))]) (fun i=>h4) (fun i=>[(b4,O [.bool fC] 4),z3,(b2,O [I aW] 3),(b1,O [I begun] 3)]++(i.2.2.2.2++(markB (dm1::[])))) (fun i=>i.1≤(judgesP ((nthI aQ (((aQ.length:Nat):Int) - 1)).Policy.Mode) aQ fC).length∧bx l begun aW known=((bx.K2 aQ) i.2.1)∧eb Rp.int 3 h4 i.2.1 i.2.2.1 i.2.2.2.1 i.2.2.2.2∧i.2.1.length≤0+i.1) ?_ (fun hx2=>?_)
     ·rintro ⟨i2,xd,Dm,Dl,Dn⟩ ⟨aP,hs14,AN,HU⟩ e
      try dsimp only at aP AN HU
      refine qT 3 U (aN (rT ([(b4,O [.bool fC] 4),z3,(b2,O [I aW] 3),(b1,O [I begun] 3)]) Dn (markB (dm1::[])) Tryz.call41 (lZ h4 xd Dm Dl Dn AN (by first | assumption | omega | (simp only [List.length_append,List.length_cons,List.length_nil] ;omega))) ap U (fun G4 gr4=>(qO 9 U ?_))))
      refine eY Rp.bi ([(b4,O [.bool fC] 4),z3,(b2,O [I aW] 3),(b1,O [I begun] 3)]) G4 (markB (dm1::[])) ap hM gr4 (fun h6 hle6 sl4=>?_)
      have hs15:bx l begun aW known=((sortI xd),(nthI aQ (((aQ.length:Nat):Int) - 1)).Policy.Mode,0):=hs14
      refine dZ (L':=([(b4,O [.bool fC] 4),z3,(b2,O [I aW] 3),(b1,O [I begun] 3)])++markB (dm1::[])) ap ?_
      exact pH (dm1::[]) [.slice Dm xd.length Dl,I ((nthI aQ (((aQ.length:Nat):Int) - 1)).Policy.Mode),I 0] B7 U rd ⟨Dm,Dl,(by rw [hs15];simp [retVal,iw]),(by rw [hs15];exact sl4)⟩
     ·refine bG (ι:=Nat×(List Int)×Option Addr×Nat×LH×List Version) (fun i=>[(8,.slice i.2.2.1 i.2.1.length i.2.2.2.1),(9,I ((nthI aQ (((aQ.length:Nat):Int) - 1)).Policy.Mode)),(75,.slice rb1 ((judgesP ((nthI aQ (((aQ.length:Nat):Int) - 1)).Policy.Mode) aQ fC).length) rc1),(76,I (((judgesP ((nthI aQ (((aQ.length:Nat):Int) - 1)).Policy.Mode) aQ fC).length:Nat):Int)),(77,I ((i.1:Nat):Int))]) (fun i=>h4) (fun i=>[(b4,O [.bool fC] 4),z3,(b2,O [I aW] 3),(b1,O [I begun] 3)]++(i.2.2.2.2.1++(markB (dm1::[])))) (fun i=>(judgesP ((nthI aQ (((aQ.length:Nat):Int) - 1)).Policy.Mode) aQ fC).drop i.1=i.2.2.2.2.2∧i.1≤(judgesP ((nthI aQ (((aQ.length:Nat):Int) - 1)).Policy.Mode) aQ fC).length∧bx l begun aW known=((bx.L2 (bx.K2 aQ)) i.2.2.2.2.2 i.2.1)∧eb Rp.int 3 h4 i.2.1 i.2.2.1 i.2.2.2.1 i.2.2.2.2.1∧i.2.1.length≤0+i.1) (fun i=>i.2.2.2.2.2.length) (0,[],none,0,[],(judgesP ((nthI aQ (((aQ.length:Nat):Int) - 1)).Policy.Mode) aQ fC)) rd sw ⟨U,Nat.zero_le _,hs12,eb.nil,lo⟩ ?_
      rintro ⟨i2,xd,Dm,Dl,Dn,s2⟩ ⟨hd2,jq,hs16,AN,HU⟩ ag1 e
      try dsimp only at hd2 jq AN HU
      rcases s2 with _ | ⟨y2,rz2⟩
      ·have sD:=cw hd2
       refine sr (ai (v':=.bool false) U (cb sD) (qO 4 U ?_))
       exact hx2 (i2,xd,Dm,Dl,Dn) _ ⟨jq,hs16,AN,lo⟩ rd
      ·have pW:=dy hd2
       have jL:=cA hd2
       have wH:=aE hd2
       have Df:=sl2.1.1
       refine sr (ai (v':=.bool true) U (cb pW) (qO 8 U (aN (fF iN ty70 sl2.1 (nthZ jL) (aV jL) U U U (fun q3 cs3 A3 ln3 rr3=>?_)))))
       obtain ⟨r3,rfl,ok3⟩:=rr3
       refine el ty70 A3 U U (bR zc70 (fun b10=>bL 0 ty70 U U U U U U (iT (L':=[(b10,O (Version.cells y2 r3) 70),(b4,O [.bool fC] 4),z3,(b2,O [I aW] 3),(b1,O [I begun] 3)]++(Dn++(markB (dm1::[])))) U ?_)))
       let z8:Nat×Obj:=(b10,O (Version.cells y2 r3) 70)
       refine qO 3 U (aj kY U (aI 0 ty3 U U U (aN (bK (cells:=[I y2.No]) cN ty3 zc3 U U kr (fun b11=>aN (db Rp.fp ([(b11,O [I y2.No] 3),z8,(b4,O [.bool fC] 4),z3,(b2,O [I aW] 3),(b1,O [I begun] 3)]) (markB (dm1::[])) (fun G=>[(b11,O [I y2.No] 3),z8,(b4,O [.bool fC] 4),z3,(b2,O [I aW] 3),(b1,O [I begun] 3)]++(markB (dm1::[])++(G))) ap (fun _=>ap) cN ty3 zc3 U bytes3 AN U U (eI 0 U (show bD Rp.int h4 [I y2.No] ([y2.No]) from ⟨[I y2.No],[],U,U,U,U⟩)) lo lo (fun ob3 oc3 G5 gr5=>?_)))))))
       refine xg (sV ([(b11,O [I y2.No] 3),z8,(b4,O [.bool fC] 4),z3,(b2,O [I aW] 3),(b1,O [I begun] 3)]) G5 (markB (dm1::[]))) (qO 4 U (ai (v':=I (((i2+1):Nat):Int)) U (bz ob) (qO 2 U ?_)))
       refine cG (L':=[(b4,O [.bool fC] 4),z3,(b2,O [I aW] 3),(b1,O [I begun] 3)]++(G5++(markB (dm1::[])))) js ?_
       exact ag1 ((i2+1),(xd++[y2.No]),ob3,oc3,G5,rz2) _ (Nat.lt_succ_self _) ⟨ba hd2,aE hd2,hs16,gr5,lo⟩ rd
   ·exact fun _ _ _ hF=>hF.elim
   ·exact fun _ _ _ _ hF=>hF.elim
theorem te (h:HF) (s:(List Int)) (qB:Option Addr) (pK:Nat) (v:Int) (hs:SlC Rp.int h qB pK s):Ret Tryz.prog 179 [.slice qB s.length pK,I v] h (I (eP s v)):=by
 refine ae Tryz.func179 U Tryz.ntmps179 U fun X hM hX=>?_
 have hs0:eP s v=eP s v:=rfl
 refine qT 8 U (a8 cN U (qO 2 U ?_))
 refine aU (ι:=Nat) (fun i=>[]) (fun i=>h) (fun i=>[]) (fun i=>i≤s.length∧eP s v=((eP.K1))) ?_ (fun hx1=>?_)
 ·rintro i1 ⟨aP,hs1⟩ e
  try dsimp only at aP
  refine qT 4 U ?_
  exact ah [I (-1)] Tryz.func179 U hX rd (ci hs1)
 ·refine bG (ι:=Nat×List Int) (fun i=>[(0,.slice qB s.length pK),(1,I v),(7,I ((s.length:Nat):Int)),(8,I ((i.1:Nat):Int))]) (fun i=>h) (fun i=>[]) (fun i=>s.drop i.1=i.2∧i.1≤s.length∧eP s v=((eP.L1 v (eP.K1)) i.2 i.1)) (fun i=>i.2.length) (0,s) rd sw ⟨U,Nat.zero_le _,hs0⟩ ?_
  rintro ⟨i1,s1⟩ ⟨hd1,aP,hs3⟩ ag1 e
  try dsimp only at hd1 aP
  rcases s1 with _ | ⟨y1,rz1⟩
  ·have dr:=cw hd1
   refine sr (ai (v':=.bool false) U (cb dr) (qO 4 U ?_))
   exact hx1 i1 _ ⟨aP,hs3⟩ trivial
  ·have dq:=dy hd1
   have aM:=cA hd1
   have ey:=aE hd1
   have gi:=hs.1.1
   refine sr (ai (v':=.bool true) U (cb dq) (qO 16 U (aN (eU (enc:=fun y=>[I y]) (fun _ _ _ e=>e) cN ty3 hs.1 (nthZ aM) (aV aM) U U U (fun q2 A2=>?_)))))
   refine dv ty3 A2 U (qO 2 U ?_)
   refine ak hs3 U (fun c2 hs5=>?_) (fun c2 hs6=>?_)
   ·refine qT 5 U ?_
    exact ah [I ((i1:Nat):Int)] Tryz.func179 U hX rd (ci hs5)
   ·refine qT 3 U (ai (v':=I (((i1+1):Nat):Int)) U (bz ob) (qO 2 U ?_))
    exact ag1 ((i1+1),rz1) _ (Nat.lt_succ_self _) ⟨ba hd1,aE hd1,hs6⟩ rd
theorem qw (h:HF) (s:(List Int)) (qB:Option Addr) (pK:Nat) (v:Int) (hs:SlC Rp.int h qB pK s):Ret Tryz.prog 111 [.slice qB s.length pK,I v] h (.bool (gR s v)):=by
 refine ae Tryz.func111 U Tryz.ntmps111 U fun X hM hX=>?_
 have hs0:gR s v=gR s v:=rfl
 refine qT 8 U (au (v:=I (eP s v)) Tryz.call179 (te h s qB pK v hs) U (qO 3 U ?_))
 exact ah [.bool (decide (0≤(eP s v)))] Tryz.func111 U hX rd (cs hs0)
end Go.Sg
namespace Go.Proofs
open Go.Shelf Go.RowKit Go.Lib Go.Sort
set_option maxHeartbeats 1000000 in
theorem Tryz.closure151 (x y:Go.Sg.OSeat) (W:World):Calls Tryz.prog 151 #[.agg (Go.Sg.OSeat.cells x).toArray,.agg (Go.Sg.OSeat.cells y).toArray] W fun e w'=>e=.returned (.int .i64 (Lib.compareInt x.person y.person))∧∃ q os',w'=grow (W.drewN q) os':=by
 have hcon:=fun W'=>Tryz.cmp_Compare_int x.person y.person W'
 generalize Lib.compareInt x.person y.person=r at hcon ⊢
 unfold Go.Sg.OSeat.cells
 go_enter Tryz.func151,Tryz.ntmps151
 go_wp2_with (go_at_call 152;refine (hcon _).mono ?_;rintro e w' ⟨rfl,rfl⟩)
 go_ret
 exact ⟨rfl,0,_,by rw [alloc_eq_grow,alloc_eq_grow,grow_grow];rfl⟩
theorem Tryz.ltSeat (x y:Go.Sg.OSeat):ltOf (fun x y:Go.Sg.OSeat=>Lib.compareInt x.person y.person) x y=decide (x.person < y.person):=by
 unfold ltOf Lib.compareInt
 by_cases h1:x.person < y.person
 ·simp [h1]
 ·by_cases h2:y.person < x.person <;> simp [h1,h2]
theorem Tryz.swoSeat:SWO (ltOf fun x y:Go.Sg.OSeat=>Lib.compareInt x.person y.person) where
 irrefl x:=by rw [Tryz.ltSeat];simp
 trans x y z h1 h2:=by rw [Tryz.ltSeat] at *;simp at *;omega
 ntrans x y z h1 h2:=by rw [Tryz.ltSeat] at *;simp at *;omega
end Go.Proofs
namespace Go.Sg
open Go.Proofs Go.RowKit Go.Sort
theorem wp {h:HF}:∀ {cl:List Value} {xs:List OSeat},bD OSeat.rp h cl xs→cl=xs.flatMap OSeat.cells
 | _,[],hc=>hc
 | _,x::xs,⟨cs,rest,e,_,hr,hc⟩=>by
  have:cs=OSeat.cells x:=hr
  rw [e,this,wp hc];rfl
theorem wU (h:HF):∀ xs:List OSeat,bD OSeat.rp h (xs.flatMap OSeat.cells) xs
 | []=>rfl
 | x::xs=>⟨OSeat.cells x,xs.flatMap OSeat.cells,rfl,rfl,rfl,wU h xs⟩
theorem Ak:∀ (xs:List OSeat) (j:Nat),j < xs.length * 2→(xs.flatMap OSeat.cells)[j]? = some ((OSeat.cells (xs.getD (j / 2) default)).getD (j % 2) undef)
 | [],j,hj=>by simp at hj
 | x::xs,0,_=>by simp [OSeat.cells]
 | x::xs,1,_=>by simp [OSeat.cells]
 | x::xs,j+2,hj=>by
  have ih:=Ak xs j (by simp at hj;omega)
  simp only [List.flatMap_cons]
  rw [List.getElem?_append_right (by simp [OSeat.cells])]
  simp only [OSeat.cells,List.length_cons,List.length_nil]
  rw [show j+2 - (0+1+1)=j from by omega,show (j+2) / 2=j / 2+1 from by omega,show (j+2) % 2=j % 2 from by omega]
  simpa [OSeat.cells] using ih
theorem n8 (xs:List OSeat):(xs.flatMap OSeat.cells).length=xs.length * 2:=by
 induction xs with
 | nil=>rfl
 | cons x xs ih=>rw [List.flatMap_cons,List.length_append,ih];simp [OSeat.cells];omega
theorem zh (xs:List OSeat):(flatK OSeat.cells 2 xs.toArray).toList=xs.flatMap OSeat.cells:=by
 apply List.ext_getElem?
 intro j
 rcases Nat.lt_or_ge j (xs.length * 2) with hj | hj
 ·rw [Ak xs j hj]
  have h1:=get_flatK OSeat.cells 2 xs.toArray j (by simpa using hj)
  have h2:j < (flatK OSeat.cells 2 xs.toArray).size:=by rw [size_flatK];simpa using hj
  rw [getElem!_pos _ j h2] at h1
  rw [Array.getElem?_toList,Array.getElem?_eq_getElem h2,h1]
  have h3:j / 2 < xs.length:=by omega
  congr 1
  rw [getElem!_pos xs.toArray (j / 2) (by simpa using h3)]
  have h4:j % 2 < 2:=Nat.mod_lt _ (by omega)
  simp only [List.getElem_toArray,List.getD,List.getElem?_eq_getElem h3,Option.getD_some]
  rw [getElem!_pos _ (j % 2) (by simpa [OSeat.cells] using h4)]
  rw [List.getElem?_eq_getElem (by simpa [OSeat.cells] using h4),Option.getD_some]
 ·rw [List.getElem?_eq_none (by rw [Array.length_toList,size_flatK];simpa using hj),List.getElem?_eq_none (by rw [n8];exact hj)]
theorem CK (F cur:Array Value) (h:F.size≤cur.size):(putCells id 0 F cur).toList=F.toList++cur.toList.drop F.size:=by
 apply List.ext_getElem?
 intro j
 rcases Nat.lt_or_ge j cur.size with hj | hj
 ·have e1:(putCells id 0 F cur).toList[j]? = some (if j < F.size then F[j]! else cur[j]):=by
   rw [Array.getElem?_toList]
   simp [putCells,hj]
  rw [e1]
  rcases Nat.lt_or_ge j F.size with h1 | h1
  ·rw [if_pos h1,List.getElem?_append_left (by simpa using h1),Array.getElem?_toList,Array.getElem?_eq_getElem h1,getElem!_pos _ j h1]
  ·rw [if_neg (by omega),List.getElem?_append_right (by simpa using h1),List.getElem?_drop,Array.getElem?_toList,Array.length_toList,show F.size+(j - F.size)=j from by omega,Array.getElem?_eq_getElem hj]
 ·rw [List.getElem?_eq_none (by simpa [putCells] using hj),List.getElem?_eq_none (by simp;omega)]
theorem HN {w:World} {g n:Nat} {os:Array Obj} {cur:Array Value} {e:TypeId} {fr:Nat×Nat} (d:Array Value) (hb:w.heap[g]? = some (.cells cur e fr)):
  (grow (putRow id (Sort.ahead w n) g 0 d) os).heap[g]? = some (.cells (putCells id 0 d cur) e fr):=by
 have hg:g < w.heap.size:=(Array.getElem?_eq_some_iff.1 hb).1
 rw [heap_grow_old _ _ (by simpa using hg)]
 simp [putRow,mapBlock,Sort.ahead,Array.getElem?_modify,hb,onCells]
theorem Gh {w:World} {g n:Nat} {os:Array Obj} (d:Array Value):(grow (putRow id (Sort.ahead w n) g 0 d) os).os=w.os∧(grow (putRow id (Sort.ahead w n) g 0 d) os).tape=w.tape∧(grow (putRow id (Sort.ahead w n) g 0 d) os).output=w.output ∧
  w.heap.size≤(grow (putRow id (Sort.ahead w n) g 0 d) os).heap.size∧∀ k,k < w.heap.size→k≠g→(grow (putRow id (Sort.ahead w n) g 0 d) os).heap[k]? = w.heap[k]?:=by
 refine ⟨rfl,rfl,rfl,by simp [putRow,mapBlock,Sort.ahead],fun k hk hne=>?_⟩
 rw [heap_grow_old _ _ (by simpa using hk)]
 simp [putRow,mapBlock,Sort.ahead,Array.getElem?_modify,Ne.symm hne]
theorem pI (h:HF) (xs:List OSeat) (b:Option Addr) (c:Nat) (G:LH) (hG:eb OSeat.rp 212 h xs b c G) (hsz:xs.length≤1000000000000):
  oP Tryz.prog 211 [.slice b xs.length c,.func (.func 151) #[] #[]].toArray h G (fun r h' G'=>h'=h∧r=.returned (.tuple #[])∧∃ ys,ys.Perm xs∧ys.Pairwise (fun x y=>x.person≤y.person)∧eb OSeat.rp 212 h ys b c G'):=by
 intro w hp
 rcases hG with ⟨rfl,rfl,rfl,rfl⟩ | ⟨bk,cl,sp,rfl,hcl,hlen,hcap,hmax,rfl⟩
 ·refine (iH (AnyF.slices_SortFunc_none Tryz.sortSeat none 0 (.func (.func 151) #[] #[]) w) (fun w' hw=>by cases hw.1)).mono ?_
  rintro e w' ⟨rfl,rfl⟩
  exact ⟨h,[],St.start hp,rfl,rfl,[],List.Perm.refl _,List.Pairwise.nil,eb.nil⟩
 ·have hb:=hp.own _ (List.mem_singleton.2 rfl)
  simp only at hb
  have hcl':=wp hcl
  subst hcl'
  have hfl:=zh xs
  have hH:HoldsK OSeat.cells 2 w bk 0 xs.toArray:=by
   intro j hj
   rw [size_flatK] at hj
   have hj':j < xs.length * 2:=by simpa using hj
   refine ⟨?_,by simp [World.frozen?,hb]⟩
   have h2:j < (flatK OSeat.cells 2 xs.toArray).size:=by rw [size_flatK];exact hj
   have h3:(flatK OSeat.cells 2 xs.toArray).toList[j]? = some (flatK OSeat.cells 2 xs.toArray)[j]!:=by
    rw [Array.getElem?_toList,Array.getElem?_eq_getElem h2,getElem!_pos _ j h2]
   rw [hfl] at h3
   have h4:(xs.flatMap OSeat.cells++sp)[j]? = some (flatK OSeat.cells 2 xs.toArray)[j]!:=by
    rw [List.getElem?_append_left (by rw [n8];exact hj')];exact h3
   simp only [World.cell?,hb,Nat.zero_add]
   simpa using h4
  have eg:∀ args w,(callFunc 151 args).run Tryz.prog w=.ok (.enter 151 args) w:=Tryz.call151
  have hcall:=AnyQ.slices_SortFunc Tryz.sortSeat 2 Tryz.isAgg212 Tryz.sizeOf212 OSeat.cells (fun _=>rfl) (fun x v hv=>by simp [OSeat.cells] at hv;rcases hv with rfl | rfl <;> rfl)
   (fun x y=>Lib.compareInt x.person y.person) Tryz.swoSeat 151 #[] bk 0 c xs.toArray w eg (fun _ _ _ _ x y=>Tryz.closure151 x y _) hH (fu hb) (by simp;omega)
  change Calls Tryz.prog 211 _ _ _ at hcall
  rw [List.size_toArray] at hcall
  refine (iH hcall (fun w' hw=>by cases hw.1)).mono ?_
  rintro e w' ⟨rfl,d',n,os,⟨hds,_,hperm⟩,hsorted,rfl⟩
  have hds':d'.size=xs.length:=by simpa using hds
  have hF:(flatK OSeat.cells 2 d').toList=d'.toList.flatMap OSeat.cells:=by have:=zh d'.toList;simpa using this
  have hFs:(flatK OSeat.cells 2 d').size=xs.length * 2:=by rw [size_flatK,hds']
  obtain ⟨g1,g2,g3,g4,g5⟩:=Gh (w:=w) (g:=bk) (n:=n) (os:=os) (flatK OSeat.cells 2 d')
  have hnew:=HN (w:=w) (g:=bk) (n:=n) (os:=os) (flatK OSeat.cells 2 d') hb
  have hcur:(putCells id 0 (flatK OSeat.cells 2 d') (xs.flatMap OSeat.cells++sp).toArray).toList=d'.toList.flatMap OSeat.cells++sp:=by
   rw [CK _ _ (by rw [hFs,← n8];simp),hF,hFs]
   congr 1
   rw [← n8]
   exact List.drop_left' rfl
  have hcur':putCells id 0 (flatK OSeat.cells 2 d') (xs.flatMap OSeat.cells++sp).toArray=(d'.toList.flatMap OSeat.cells++sp).toArray:=by rw [← hcur]
  rw [hcur'] at hnew
  have hperm':d'.toList.Perm xs:=by
   have e1:d'.extract 0 xs.length=d':=by rw [← hds'];simp
   have e2:xs.toArray.extract 0 xs.length=xs.toArray:=by simp
   rw [e1,e2] at hperm;exact hperm
  refine ⟨h,[(bk,.cells (d'.toList.flatMap OSeat.cells++sp).toArray 212 (0,0))],⟨g1,g2,g3,g4,fun k hk hM=>g5 k hk (fun e=>hM (by subst e;simp)),fun _ _ e=>e,fun _ _=>rfl,fun k o e=>?_,fun q hq=>?_,?_,?_,?_⟩,rfl,rfl,d'.toList,hperm',?_,?_⟩
  ·have hne:k≠bk:=fun e'=>by
    have:=hp.free _ (List.mem_singleton.2 rfl)
    simp only at this
    rw [e',this] at e;cases e
   exact (g5 k (fu (hp.imm k o e)) hne).trans (hp.imm k o e)
  ·rw [List.mem_singleton.1 hq];exact hnew
  ·simp
  ·intro q hq;rw [List.mem_singleton.1 hq];exact hp.free (bk,Obj.cells (xs.flatMap OSeat.cells++sp).toArray 212 (0,0)) (List.mem_singleton.2 rfl)
  ·intro q hq;rw [List.mem_singleton.1 hq];exact .inr (by simp)
  ·rw [List.pairwise_iff_getElem]
   intro i j hi hj hij
   have hj':j < d'.size:=by simpa using hj
   have hi':i < d'.size:=by simpa using hi
   have:=hsorted i j (Nat.zero_le _) hij (by omega)
   rw [Tryz.ltSeat,getElem!_pos _ j hj',getElem!_pos _ i hi'] at this
   simp only [Array.getElem_toList]
   simpa using this
  ·refine .inr ⟨bk,d'.toList.flatMap OSeat.cells,sp,rfl,wU h _,?_,?_,?_,rfl⟩
   ·rw [List.length_append,n8,hperm'.length_eq,← n8,← List.length_append];exact hlen
   ·rw [hperm'.length_eq];exact hcap
   ·rw [hperm'.length_eq];exact hmax
theorem py (h:HF) (it:Value) (ks:List OSeat) (hit:wj Tryz.prog it (fun (k:OSeat) (_:HF) (vs:List Value)=>vs=[OSeat.enc k]) (fun xs=>xs.Perm ks) h) (hk:ks.length≤1000000000000):
  je Tryz.prog 153 [it,.func (.func 151) #[] #[]] h (fun v h'=>∃ (b:Option Addr) (c:Nat) (ys:List OSeat),ys.Perm ks∧ys.Pairwise (fun x y=>x.person≤y.person)∧v=.slice b ys.length c∧SlC OSeat.rp h' b c ys):=by
 refine ae Tryz.func153 rfl Tryz.ntmps153 rfl fun X hM hX=>?_
 refine em (bU (fx (bh (em (bU (aB ?_))))))
 refine aN (uN Tryz.call210 (zw h it _ hit (fun xs hx=>by rw [hx.length_eq];exact hk)) rfl (fun h' xs bb c G hle hxs hG=>?_))
 refine fx (bh (em (bU (aB (aB ?_)))))
 refine aN (rT [] G [] Tryz.call211 (pI h' xs bb c G hG (by rw [hxs.length_eq];exact hk)) (by simp) rfl (fun G' hG'=>?_))
 obtain ⟨ys,hp,hs,hG'⟩:=hG'
 refine bh (em (bU (aB (fx (bh ?_)))))
 refine eY OSeat.aD [] G' [] (by simp) hM hG' (fun h2 hle2 sl=>?_)
 exact cJ [.slice bb xs.length c] Tryz.func153 rfl ⟨rfl,trivial⟩ ⟨bb,c,ys,hp.trans hxs,hs,by rw [hp.length_eq];rfl,sl⟩
end Go.Sg
namespace Go.Sg
open Go.Proofs
set_option maxHeartbeats 2000000
theorem mm (h:HF) (q:aH) (ja:fS) (fM:Int) (hq:aH.ok h q ja) (hsm:smR q.Register) (hk:Kinds h):je Tryz.prog 65 [.agg (aH.cells q ja).toArray,I fM] h (fun v h'=>∃ (rb0:Option Addr) (rc0:Nat),v=.tuple #[.slice rb0 ((ao q fM).1).length rc0,I ((ao q fM).2)]∧SlC Policy.rp h' rb0 rc0 ((ao q fM).1)):=by
 refine ae Tryz.func65 U Tryz.ntmps65 U fun X hM hX=>?_
 have hs0:ao q fM=ao q fM:=rfl
 have hsv:=hsm.vers
 have hsl:=hsv.len
 refine sr (dt (fun b1=>qO 5 U (aj qW U (aj lV U (aI 0 ty26 U U U (aj mH U (aj nf U (aI 0 ty3 U U U (aB (aj BH U (aI 0 ty3 U U U (aN (cy Tryz.call44 (tS h q.Register.Versions ja.Register.ig ja.Register.ie q.doc.At fM q.known hq.Register.Versions ob hk) U (fun v1 h1 hle1 hp1=>?_))))))))))))))
 obtain ⟨rb1,rc1,rfl,sl1⟩:=hp1
 refine qO 14 U ?_
 refine ak hs0 U (fun c1 hs1=>?_) (fun c1 hs2=>?_)
 ·refine qT 5 U ?_
  have hs3:ao q fM=([],0):=hs1
  exact cJ [.slice none 0 0,I 0] Tryz.func65 U rd ⟨none,0,congrArg (fun r:((List Policy)×Int)=>(.tuple #[.slice none r.1.length 0,I r.2]:Value)) hs3.symm,(by rw [hs3];exact SlC.nil)⟩
 ·refine qT 4 U (aj qW U (aj lV U (aI 0 ty26 U U U (a8 iN U (qO 2 U ?_)))))
  let z2:Nat×Obj:=(b1,O (aH.cells q ja) 77)
  refine aU (ι:=Nat×(List Policy)×Option Addr×Nat×LH) (fun i=>[(4,.slice i.2.2.1 i.2.1.length i.2.2.2.1),(5,I ((bx q.Register.Versions q.doc.At fM q.known).2.1))]) (fun i=>h1) (fun i=>[z2]++(i.2.2.2.2)) (fun i=>i.1≤q.Register.Versions.length∧ao q fM=((ao.K1 q fM) i.2.1)∧eb Policy.rp 68 h1 i.2.1 i.2.2.1 i.2.2.2.1 i.2.2.2.2∧i.2.1.length≤0+i.1) ?_ (fun hx1=>?_)
  ·rintro ⟨i1,ky,oI,oH,qg⟩ ⟨aP,hs4,lA,sJ⟩ e
   try dsimp only at aP lA sJ
   refine qT 7 U ?_
   refine eY Policy.aD ([z2]) qg ([]) ap hM lA (fun h3 hle3 sl3=>?_)
   have hs5:ao q fM=(ky,(bx q.Register.Versions q.doc.At fM q.known).2.1):=hs4
   exact cJ [.slice oI ky.length oH,I ((bx q.Register.Versions q.doc.At fM q.known).2.1)] Tryz.func65 U rd ⟨oI,oH,congrArg (fun r:((List Policy)×Int)=>(.tuple #[.slice oI r.1.length oH,I r.2]:Value)) hs5.symm,(by rw [hs5];exact sl3)⟩
  ·refine bG (ι:=Nat×(List Policy)×Option Addr×Nat×LH×List Version) (fun i=>[(4,.slice i.2.2.1 i.2.1.length i.2.2.2.1),(5,I ((bx q.Register.Versions q.doc.At fM q.known).2.1)),(6,.slice rb1 (((bx q.Register.Versions q.doc.At fM q.known).1).length) rc1),(28,.slice ja.Register.ig q.Register.Versions.length ja.Register.ie),(29,I ((q.Register.Versions.length:Nat):Int)),(30,I ((i.1:Nat):Int))]) (fun i=>h1) (fun i=>[z2]++(i.2.2.2.2.1)) (fun i=>q.Register.Versions.drop i.1=i.2.2.2.2.2∧i.1≤q.Register.Versions.length∧ao q fM=((ao.L1 q fM (ao.K1 q fM)) i.2.2.2.2.2 i.2.1)∧eb Policy.rp 68 h1 i.2.1 i.2.2.1 i.2.2.2.1 i.2.2.2.2.1∧i.2.1.length≤0+i.1) (fun i=>i.2.2.2.2.2.length) (0,[],none,0,[],q.Register.Versions) rd sw ⟨U,Nat.zero_le _,hs2,eb.nil,lo⟩ ?_
   rintro ⟨i1,ky,oI,oH,qg,s1⟩ ⟨hd1,aP,hs6,lA,sJ⟩ ag1 e
   try dsimp only at hd1 aP lA sJ
   rcases s1 with _ | ⟨y1,rz1⟩
   ·have dr:=cw hd1
    refine sr (ai (v':=.bool false) U (cb dr) (qO 4 U ?_))
    exact hx1 (i1,ky,oI,oH,qg) _ ⟨aP,hs6,lA,lo⟩ rd
   ·have dq:=dy hd1
    have aM:=cA hd1
    have ey:=aE hd1
    have gi:=(hq.Register.Versions.mono Version.aD hle1).1.1
    refine sr (ai (v':=.bool true) U (cb dq) (qO 8 U (aN (fF iN ty70 (hq.Register.Versions.mono Version.aD hle1).1 (nthZ aM) (aV aM) U U U (fun q2 cs2 A2 ln2 rr2=>?_)))))
    obtain ⟨r2,rfl,ok2⟩:=rr2
    refine el ty70 A2 U U (bR zc70 (fun b4=>bL 0 ty70 U U U U U U (iT (L':=[(b4,O (Version.cells y1 r2) 70),z2]++(qg)) U (qO 4 U (aj kY U (aI 0 ty3 U U U (au (v:=.bool (gR ((bx q.Register.Versions q.doc.At fM q.known).1) y1.No)) Tryz.call111 (qw h1 ((bx q.Register.Versions q.doc.At fM q.known).1) rb1 rc1 y1.No sl1) U (bh ?_))))))))
    refine ak hs6 U (fun c3 hs8=>?_) (fun c3 hs9=>?_)
    ·refine qT 2 U (aj pt U (dl 0 ty68 U U U (aN (bK (cells:=[.string y1.Policy.Name,.slice r2.Policy.fV y1.Policy.Kinds.length r2.Policy.fU,.slice r2.Policy.dK y1.Policy.Offices.length r2.Policy.dJ,.slice r2.Policy.kc y1.Policy.Rules.length r2.Policy.kb,I y1.Policy.Change.Kind,I y1.Policy.Change.N,I y1.Policy.Change.No,.string y1.Policy.Change.Name,.slice r2.Policy.Change.ir y1.Policy.Change.L.length r2.Policy.Change.iG,I y1.Policy.Mode]) B6 ty68 zc68 U U kr (fun b5=>?_)))))
     let z1:Nat×Obj:=(b5,O [.string y1.Policy.Name,.slice r2.Policy.fV y1.Policy.Kinds.length r2.Policy.fU,.slice r2.Policy.dK y1.Policy.Offices.length r2.Policy.dJ,.slice r2.Policy.kc y1.Policy.Rules.length r2.Policy.kb,I y1.Policy.Change.Kind,I y1.Policy.Change.N,I y1.Policy.Change.No,.string y1.Policy.Change.Name,.slice r2.Policy.Change.ir y1.Policy.Change.L.length r2.Policy.Change.iG,I y1.Policy.Mode] 68)
     refine aN (db Policy.eT ([z1,(b4,O (Version.cells y1 r2) 70),z2]) ([]) (fun G=>[z1,(b4,O (Version.cells y1 r2) 70),z2]++(G)) ap (fun _=>ap) B6 ty68 zc68 U bytes68 lA U U (eI 0 U (show bD Policy.rp h1 [.string y1.Policy.Name,.slice r2.Policy.fV y1.Policy.Kinds.length r2.Policy.fU,.slice r2.Policy.dK y1.Policy.Offices.length r2.Policy.dJ,.slice r2.Policy.kc y1.Policy.Rules.length r2.Policy.kb,I y1.Policy.Change.Kind,I y1.Policy.Change.N,I y1.Policy.Change.No,.string y1.Policy.Change.Name,.slice r2.Policy.Change.ir y1.Policy.Change.L.length r2.Policy.Change.iG,I y1.Policy.Mode] ([y1.Policy]) from ⟨[.string y1.Policy.Name,.slice r2.Policy.fV y1.Policy.Kinds.length r2.Policy.fU,.slice r2.Policy.dK y1.Policy.Offices.length r2.Policy.dJ,.slice r2.Policy.kc y1.Policy.Rules.length r2.Policy.kb,I y1.Policy.Change.Kind,I y1.Policy.Change.N,I y1.Policy.Change.No,.string y1.Policy.Change.Name,.slice r2.Policy.Change.ir y1.Policy.Change.L.length r2.Policy.Change.iG,I y1.Policy.Mode],[],U,U,⟨r2.Policy,U,ok2.Policy⟩,U⟩)) lo lo (fun ob2 oc2 G2 gr2=>?_))
     refine qO 4 U (ai (v':=I (((i1+1):Nat):Int)) U (bz ob) (qO 2 U ?_))
     refine cG (L':=[z2]++(G2)) js ?_
     exact ag1 ((i1+1),(ky++[y1.Policy]),ob2,oc2,G2,rz1) _ (Nat.lt_succ_self _) ⟨ba hd1,aE hd1,hs8,gr2,lo⟩ rd
    ·refine qT 3 U (ai (v':=I (((i1+1):Nat):Int)) U (bz ob) (qO 2 U ?_))
     refine cG (L':=[z2]++(qg)) js ?_
     exact ag1 ((i1+1),ky,oI,oH,qg,rz1) _ (Nat.lt_succ_self _) ⟨ba hd1,aE hd1,hs9,lA,lo⟩ rd
theorem ol (h:HF) (seq:(List Holder)) (seq_v:Value) (hseq:Itr Tryz.prog seq_v md seq h) (hsz:seq.length≤2000000):je Tryz.prog 149 [.slice none 0 0,seq_v] h (fun v h'=>∃ (rb0:Option Addr) (rc0:Nat),v=.slice rb0 (cd seq).length rc0∧SlC Holder.rp h' rb0 rc0 (cd seq)):=by
 refine ae Tryz.func149 U Tryz.ntmps149 U fun X hM hX=>?_
 have hs0:cd seq=cd seq:=rfl
 refine sr (dt (fun b1=>qO 8 U ?_))
 refine gp ?_
 refine dZ (L':=([(b1,O [.slice none 0 0] 101)])++markB []) ap ?_
 refine kd (it:=seq_v) (xs:=seq) (ι:=(List Holder)×Option Addr×Nat×LH×HF) [] (fun i=>i.2.2.2.2) (fun i=>[(b1,O [.slice i.2.1 i.1.length i.2.2.1] 101)]++(i.2.2.2.1)) (fun s i=>cd seq=((cd.L1 (cd.K1)) s i.1)∧eb Holder.rp 133 i.2.2.2.2 i.1 i.2.1 i.2.2.1 i.2.2.2.1∧HF.le h i.2.2.2.2∧i.1.length+s.length≤seq.length) (fun _=>False) (fun _=>False) 0 (fun _ _ _=>False) ([],none,0,[],h) Tryz.func149 U hseq U oz (fun _ _ _ _ _ hq=>hq) U (show [(b1,O [.slice none 0 0] 101)]=_ from U) ⟨hs0,eb.nil,(HF.le_refl h),(by simp)⟩ ?_ ?_ ?_ ?_ ?_
 ·rintro l1 dm1 lp1 y1 rz1 vs1 ⟨cY,qf,qe,sI,hh1⟩ hr1 X hFR1 ⟨hs1,gG,hl1,u1_0⟩ hl01 hlr1 hv1 hX hXM hlp1 nx1 rt1 ex1 pn1
  try dsimp only at gG hl1 u1_0 hlr1
  obtain rfl:=hv1
  simp only [List.length_cons] at u1_0
  let z1:Nat×Obj:=(b1,O [.slice qf cY.length qe] 101)
  let z3:Nat×Obj:=(dm1,.deferred (some []))
  refine dZ (L':=[(l1,.loop lp1),z3,z1]++(sI++(markB []))) ap (bU (bR zc133 (fun b4=>bL 0 ty133 U U U U U U (iT (L':=[(b4,O (Holder.cells y1) 133),(l1,.loop lp1),z3,z1]++(sI++(markB []))) U ?_))))
  let z4:Nat×Obj:=(l1,.loop { lp1 with state:=.busy })
  let z5:Nat×Obj:=(b4,O (Holder.cells y1) 133)
  refine bh (ke 1 U hlp1 (qT 2 U (aI 3 ty101 U U U (dl 0 ty133 U U U (aN (bK (cells:=[I y1.Person,I y1.Weight]) nh ty133 zc133 U U kr (fun b5=>aN (db Holder.eT ([(b5,O [I y1.Person,I y1.Weight] 133),z5,z4,z3,z1]) (markB []) (fun G=>[(b5,O [I y1.Person,I y1.Weight] 133),z5,z4,z3,z1]++(markB []++(G))) ap (fun _=>ap) nh ty133 zc133 U bytes133 (gG.mono Holder.aD hlr1) U U (eI 0 U (show bD Holder.rp hr1 [I y1.Person,I y1.Weight] ([y1]) from ⟨[I y1.Person,I y1.Weight],[],U,U,U,U⟩)) lo lo (fun ob2 oc2 G2 gr2=>?_)))))))))
  refine xg (sV ([(b5,O [I y1.Person,I y1.Weight] 133),z5,z4,z3,z1]) G2 (markB [])) ?_
  refine dS 4 ty101 U U U U U U (qO 2 U ?_)
  let z6:Nat×Obj:=(b1,O [.slice ob2 ((cY++[y1]).length) oc2] 101)
  refine cG (L':=[z4,z3,z6]++(G2++(markB []))) js ?_
  refine dZ (L':=rdH l1 dm1 lp1 (([z6]++(G2))++markB [])) ap ?_
  exact nx1 ((cY++[y1]),ob2,oc2,G2,hr1) _ _ ⟨hs1,gr2,(hl1.t hlr1),(by simp only [List.length_append,List.length_cons,List.length_nil] at *;omega)⟩ (HF.le_refl _)
 ·rintro dm1 ⟨cY,qf,qe,sI,hh1⟩ hn1 ⟨hs2,gG,hl1,u1_0⟩ hln1 hl01
  try dsimp only at gG hl1 u1_0 hln1
  let z2:Nat×Obj:=(b1,O [.slice qf cY.length qe] 101)
  refine dZ (L':=[z2]++(sI++(markB (dm1::[])))) ap (qT 3 U (aI 0 ty101 U U U (an ?_)))
  refine eY Holder.aD ([z2]) sI (markB (dm1::[])) ap hM (gG.mono Holder.aD hln1) (fun h2 hle2 sl2=>?_)
  have hs3:cd seq=cY:=hs2
  refine dZ (L':=([z2])++markB (dm1::[])) ap ?_
  exact pH (dm1::[]) [.slice qf cY.length qe] Tryz.func149 U rd ⟨qf,qe,congrArg (fun r:(List Holder)=>(.slice qf r.length qe:Value)) hs3.symm,(by rw [hs3];exact sl2)⟩
 ·exact fun _ _ _ hF=>hF.elim
 ·exact fun _ _ _ hF=>hF.elim
 ·exact fun _ _ _ _ hF=>hF.elim
theorem pB (h:HF) (seq:(List Holder)) (seq_v:Value) (hseq:Itr Tryz.prog seq_v md seq h) (hsz:seq.length≤2000000):je Tryz.prog 91 [seq_v] h (fun v h'=>∃ (rb0:Option Addr) (rc0:Nat),v=.slice rb0 (fa seq).length rc0∧SlC Holder.rp h' rb0 rc0 (fa seq)):=by
 refine ae Tryz.func91 U Tryz.ntmps91 U fun X hM hX=>?_
 have hs0:fa seq=fa seq:=rfl
 refine qT 7 U (aN (cy Tryz.call149 (ol h seq seq_v hseq ob) U (fun v1 h1 hle1 hp1=>?_)))
 obtain ⟨rb1,rc1,rfl,sl1⟩:=hp1
 refine an ?_
 have hs1:fa seq=(cd seq):=hs0
 exact cJ [.slice rb1 ((cd seq).length) rc1] Tryz.func91 U rd ⟨rb1,rc1,congrArg (fun r:(List Holder)=>(.slice rb1 r.length rc1:Value)) hs1.symm,(by rw [hs1];exact sl1)⟩
theorem sn (h:HF) (m:(List (OSeat×Appoint))) (Bw:Nat) (m_q:Addr) (office:Int) (office_q:Addr) (hm:oR OSeat.enc (kx Appoint.rp) h Bw m) (am:At h m_q [.map (some Bw)]) (aoffice:At h office_q [I office]) (hsz:m.length≤1000000000):Itr Tryz.prog (.func (.func 150) #[] (List.toArray [.pointer (some m_q),.pointer (some office_q)])) md (bH m office) h:=by
 refine vS Tryz.call150 ?_
 intro yf ya yb C Sp Pn h1 A hle m1 m2 m3 hC hy
 refine jS En U Tryz.ntmps150 U fun X hXM hX=>?_
 have hs0:bH m office=[]++bH m office:=rfl
 refine qT 6 U (dv ty159 (am.mono hle) U (aN (cy Tryz.call154 (ss h1 m Bw (hm.mono (kx.mono Appoint.aD) hle)) U (fun v1 h2 hle1 hp1=>aB (aN (cy Tryz.call153 (py h2 v1 (m.map Prod.fst) hp1 (by rw [List.length_map];omega)) U (fun v2 h3 hle2 hp2=>?_)))))))
 obtain ⟨rb1,rc1,ys_,hper_,hsrt_,rfl,sl1⟩:=hp2
 have Kj:bH m office=[]++((bH.L1 m office (bH.K1)) ys_ ):=zM (by obtain ⟨_,_,q⟩:=hm;exact q.nodup) hper_ hsrt_
 refine a8 GS U (qO 2 U ?_)
 refine aU (ι:=Nat×List Holder×LH×HF) (fun i=>[]) (fun i=>i.2.2.2) (fun i=>i.2.2.1) (fun i=>i.1≤ys_.length∧bH m office=i.2.1++((bH.K1))∧C i.2.1 i.2.2.2 i.2.2.1∧HF.le h3 i.2.2.2) ?_ (fun hx1=>?_)
 ·rintro ⟨i1,dn1,A1_,hh1⟩ ⟨aP,hs1,hC1_,hl1⟩ e
  try dsimp only at aP hC1_ hl1
  refine gp ?_
  have hs2:bH m office=dn1:=hs1.trans (List.append_nil _)
  exact vT [] (A:=A1_) En U (List.Sublist.refl _) (.inl (hs2 ▸ hC1_))
 ·refine bG (ι:=Nat×List Holder×LH×HF×List OSeat) (fun i=>[(0,.func yf ya yb),(1,.pointer (some m_q)),(2,.pointer (some office_q)),(11,.slice rb1 ys_.length rc1),(12,I ((ys_.length:Nat):Int)),(13,I ((i.1:Nat):Int))]) (fun i=>i.2.2.2.1) (fun i=>i.2.2.1) (fun i=>ys_.drop i.1=i.2.2.2.2∧i.1≤ys_.length∧bH m office=i.2.1++((bH.L1 m office (bH.K1)) i.2.2.2.2 )∧C i.2.1 i.2.2.2.1 i.2.2.1∧HF.le h3 i.2.2.2.1) (fun i=>i.2.2.2.2.length) (0,[],A,h3,ys_) rd sw ⟨U,Nat.zero_le _,Kj,(m1 _ _ _ _ (hle1.t hle2) hC),(HF.le_refl h3)⟩ ?_
  rintro ⟨i1,dn1,A1_,hh1,s1⟩ ⟨hd1,aP,hs3,hC1_,hl1⟩ ag1 e
  try dsimp only at hd1 aP hC1_ hl1
  rcases s1 with _ | ⟨y1,rz1⟩
  ·have dr:=cw hd1
   refine sr (ai (v':=.bool false) U (cb dr) (qO 4 U ?_))
   exact hx1 (i1,dn1,A1_,hh1) _ ⟨aP,hs3,hC1_,hl1⟩ trivial
  ·have dq:=dy hd1
   have aM:=cA hd1
   have ey:=aE hd1
   have gi:=sl1.1.1
   refine sr (ai (v':=.bool true) U (cb dq) (qO 8 U (aN (eU (enc:=OSeat.cells) (fun _ _ _ e=>e) GS ty212 (sl1.mono OSeat.aD hl1).1 (nthZ aM) (aV aM) U U U (fun q2 A2=>?_)))))
   refine el ty212 A2 U U (bR zc212 (fun b3=>bL 0 ty212 U U U U U U (iT (L':=[(b3,O (OSeat.cells y1) 212)]++(A1_)) U (qO 3 U (dv ty159 (am.mono (((hle.t hle1).t hle2).t hl1)) U ?_)))))
   refine dl 0 ty212 U U U ?_
   obtain ⟨o2,hb2,hm2⟩:=(hm.mono (kx.mono Appoint.aD) (((hle.t hle1).t hle2).t hl1))
   refine aN (pJ (k:=y1) Gz ue hb2 hm2 (jf zv59) (show (kx Appoint.rp) _ (.agg (List.toArray [I 0,I 0,I 0,I 0,I 0,I 0,.bool false])) (Appoint.mk 0 0 0 0 0 0 false) from ⟨_,U,U⟩) U U (fun v4 hv2=>?_))
   obtain ⟨_,rfl,rfl⟩:=hv2
   refine bR zc59 (fun b4=>bL 0 ty59 U U U U U U (iT (L':=[(b4,O (Appoint.cells (mgetD m y1 (Appoint.mk 0 0 0 0 0 0 false))) 59),(b3,O (OSeat.cells y1) 212)]++(A1_)) U (qO 3 U ?_)))
   refine aj H7 U (aI 1 ty3 U U U (dv ty3 (aoffice.mono (((hle.t hle1).t hle2).t hl1)) U (qO 2 U ?_)))
   refine ar 4 [24,25,26,27,28] 28 (.bool ((y1.office==office)&&(!((mgetD m y1 (Appoint.mk 0 0 0 0 0 0 false)).Gone)))) (fun hk1=>?_) (fun e=>?_)
   ·refine ac 24 U (fun c1=>?_) (fun c1=>?_)
    ·refine aj xr U (aI 0 ty4 U U U (qO 2 U ?_))
     exact hk1 _ (cb (cB c1))
    ·refine qO 4 U ?_
     exact hk1 _ (cb (cC c1))
   refine aB ?_
   refine ac 29 U (fun c2=>?_) (fun c2=>?_)
   ·have hs5:=hs3.trans (congrArg (dn1++·) (bt c2))
    refine aB (aj sZ U (aI 0 ty3 U U U (aj qY U (aI 0 ty3 U U U (aN (fq (cells:=[I ((mgetD m y1 (Appoint.mk 0 0 0 0 0 0 false)).Person),I ((mgetD m y1 (Appoint.mk 0 0 0 0 0 0 false)).Weight)]) (places:=[(0,1),(1,1)]) Tryz.underlying133 zc133 kr kr ?_))))))
    have hx1:bH m office=dn1++((Holder.mk ((mgetD m y1 (Appoint.mk 0 0 0 0 0 0 false)).Person) ((mgetD m y1 (Appoint.mk 0 0 0 0 0 0 false)).Weight))::(bH.L1 m office (bH.K1) rz1 )):=hs5
    refine aN (lS ([(b4,O (Appoint.cells (mgetD m y1 (Appoint.mk 0 0 0 0 0 0 false))) 59),(b3,O (OSeat.cells y1) 212)]) A1_ ap (hy dn1 (Holder.mk ((mgetD m y1 (Appoint.mk 0 0 0 0 0 0 false)).Person) ((mgetD m y1 (Appoint.mk 0 0 0 0 0 0 false)).Weight)) _ _ _ _ hx1 ((hle1.t hle2).t hl1) hC1_ U) U U (fun h4 A3 hle3 hC1=>?_) (fun h5 A4 hle4 hS1=>?_) (fun ch1 h6 A5 hle5 hP1 e=>i6 (qM [] (A:=A5) En (List.sublist_append_right _ _) hP1)))
    ·have hs6:bH m office=(dn1++[(Holder.mk ((mgetD m y1 (Appoint.mk 0 0 0 0 0 0 false)).Person) ((mgetD m y1 (Appoint.mk 0 0 0 0 0 0 false)).Weight))])++((bH.L1 m office (bH.K1) rz1 )):=hx1.trans ap
     refine qO 7 U (ai (v':=I (((i1+1):Nat):Int)) U (bz ob) (qO 2 U ?_))
     refine cG (L':=A3) js ?_
     exact ag1 ((i1+1),(dn1++[(Holder.mk ((mgetD m y1 (Appoint.mk 0 0 0 0 0 0 false)).Person) ((mgetD m y1 (Appoint.mk 0 0 0 0 0 0 false)).Weight))]),A3,h4,rz1) _ (Nat.lt_succ_self _) ⟨ba hd1,aE hd1,hs6,hC1,(hl1.t hle3)⟩ rd
    ·refine qO 4 U ?_
     refine gp ?_
     exact qL [] (A:=A4) En U js (.inr hS1)
   ·have hs7:=hs3.trans (congrArg (dn1++·) (bf c2))
    refine qO 14 U (ai (v':=I (((i1+1):Nat):Int)) U (bz ob) (qO 2 U ?_))
    refine cG (L':=A1_) js ?_
    exact ag1 ((i1+1),dn1,A1_,hh1,rz1) _ (Nat.lt_succ_self _) ⟨ba hd1,aE hd1,hs7,hC1_,hl1⟩ rd
open Go.Proofs
set_option maxHeartbeats 2000000
theorem ub (h:HF) (m:(List (OSeat×Appoint))) (Bw:Nat) (office:Int) (hm:oR OSeat.enc (kx Appoint.rp) h Bw m) (hsz:m.length≤1000000000):je Tryz.prog 92 [.map (some Bw),I office] h (fun v h'=>∃ (rv0:Value),v=rv0∧Itr Tryz.prog rv0 md (gA m office) h'):=by
 refine ae Tryz.func92 U Tryz.ntmps92 U fun X hM hX=>?_
 have hs0:gA m office=gA m office:=rfl
 refine sr (dt (fun b1=>dt (fun b2=>qO 4 U (bX 1 U hM (fun h1 hle1 hb1=>bX 0 U hM (fun h2 hle2 hb2=>aN (gg U U (an ?_))))))))
 have hs1:gA m office=(bH m office):=hs0
 exact cJ [.func (.func 150) #[] #[Q b1,Q b2]] Tryz.func92 U rd ⟨(.func (.func 150) #[] #[Q b1,Q b2]),congrArg (fun r:(List Holder)=>((.func (.func 150) #[] #[Q b1,Q b2]):Value)) hs1.symm,(by rw [hs1];exact (sn h2 m Bw ⟨b1,0,none⟩ office ⟨b2,0,none⟩ (hm.mono (kx.mono Appoint.aD) (hle1.t hle2)) ((dN hb1).mono hle2) (dN hb2) ob))⟩
theorem ry (h:HF) (x:Appoint) (v0:Int) (v0_q:Addr) (v1:Int) (v1_q:Addr) (av0:At h v0_q [I v0]) (av1:At h v1_q [I v1]):Ret Tryz.prog 155 [.agg (Appoint.cells x).toArray,.pointer (some v0_q),.pointer (some v1_q)] h (.tuple #[.agg (OSeat.cells ((eN x v0 v1).1)).toArray,.bool ((eN x v0 v1).2)]):=by
 refine ae Tryz.func155 U Tryz.ntmps155 U fun X hM hX=>?_
 have hs0:eN x v0 v1=eN x v0 v1:=rfl
 refine sr (dt (fun b1=>bR zc212 (fun b2=>qO 3 U ?_)))
 let z1:Nat×Obj:=(b1,O (Appoint.cells x) 59)
 refine IE ([(b2,O [I x.Office,I x.Person] 212),z1]) [(4,Q b2),(5,.bool (decide (x.At≤v0)&&decide (x.Known≤v1)))] (fun e=>?_) (fun hk1=>?_)
 rotate_left
 ·refine fd ([z1]) mixed kr jn (fun dU _=>?_)
  refine tf 0 U U (fun _ _ _=>dx ve U) (tf 1 U U (fun _ _ hj=>gH ty3 U (hj.nth (i:=0) U) U) ?_)
  refine tf 2 U U (fun _ _ _=>dx sZ U) (tf 3 U U (fun _ _ hj=>gH ty3 U (hj.nth (i:=0) U) U) ?_)
  refine tf 5 U U (fun _ _ _=>dx nd U) (tf 6 U U (fun _ _ hj=>gH ty3 U (hj.nth (i:=0) U) U) ?_)
  refine tf 7 U U (fun _ _ hj=>fK ty3 (av0.mono hj.1) U) (qA [8,9] U ?_)
  refine dM 15 U (fun c1=>?_) (fun c1=>?_)
  ·have c1p:=of_decide_eq_true c1
   refine tf 10 U U (fun _ _ _=>dx vf U) (tf 11 U U (fun _ _ hj=>gH ty3 U (hj.nth (i:=0) U) U) ?_)
   refine tf 12 U U (fun _ _ hj=>fK ty3 (av1.mono hj.1) U) (qA [13,14] U (tn 4 U (fq (cells:=[I x.Office,I x.Person]) (places:=[(0,1),(1,1)]) Fd zc212 kr kr ?_)))
   refine ⟨jn,(tn 15 U (rS 0 ty212 U U U U U U ?_))⟩
   refine ⟨jn,(qA [16] U ?_)⟩
   refine bv kr ?_
   exact hk1 _ ⟨U,(cb (show decide (x.Known≤v1)=(decide (x.At≤v0)&&decide (x.Known≤v1)) from by rw [c1] <;> rfl)),trivial⟩
  ·have c1p:=of_decide_eq_false c1
   refine qR 10 5 U (tn 4 U (fq (cells:=[I x.Office,I x.Person]) (places:=[(0,1),(1,1)]) Fd zc212 kr kr ?_))
   refine ⟨jn,(tn 15 U (rS 0 ty212 U U U U U U ?_))⟩
   refine ⟨jn,(qA [16] U ?_)⟩
   refine bv kr ?_
   exact hk1 _ ⟨U,(cb (show false=(decide (x.At≤v0)&&decide (x.Known≤v1)) from by rw [c1] <;> rfl)),trivial⟩
 have hs1:eN x v0 v1=((OSeat.mk x.Office x.Person),(decide (x.At≤v0)&&decide (x.Known≤v1))):=hs0
 exact ah [.agg (List.toArray [I x.Office,I x.Person]),.bool (decide (x.At≤v0)&&decide (x.Known≤v1))] Tryz.func155 U hX ⟨⟨0,_,_,_,_,U,U,.inl ⟨ty212,U⟩⟩,U,trivial⟩ (congrArg (fun r:(OSeat×Bool)=>(.tuple #[.agg (OSeat.cells r.1).toArray,.bool r.2]:Value)) hs1.symm)
theorem pQ (h:HF) (l:(List Appoint)) (eD:Option Addr) (eC:Nat) (key:(Appoint→OSeat×Bool)) (key_v:Value) (later:(Appoint→Appoint→Bool)) (later_v:Value) (hl:SlC Appoint.rp h eD eC l) (hkey:∀ (h':HF) (eo:Appoint),HF.le h h'→wh Tryz.prog key_v [.agg (Appoint.cells eo).toArray] h' [] (.tuple #[.agg (OSeat.cells ((key eo).1)).toArray,.bool ((key eo).2)])) (hlater:∀ (h':HF) (eo:Appoint) (Kh:Appoint),HF.le h h'→wh Tryz.prog later_v [.agg (Appoint.cells eo).toArray,.agg (Appoint.cells Kh).toArray] h' [] (.bool (later eo Kh))):je Tryz.prog 156 [.slice eD l.length eC,key_v,later_v] h (fun v h'=>∃ (rk0:Nat),v=.map (some rk0)∧oR OSeat.enc (kx Appoint.rp) h' rk0 (bO l key later)):=by
 refine ae Tryz.func156 U Tryz.ntmps156 U fun X hM hX=>?_
 have hs0:bO l key later=bO l key later:=rfl
 refine qT 6 U (aN (oZ (fun b1=>qO 6 U (a8 nB U (qO 2 U ?_)))))
 refine aU (ι:=Nat×(List (OSeat×Appoint))×Obj) (fun i=>[(7,.map (some b1))]) (fun i=>h) (fun i=>[(b1,i.2.2)]) (fun i=>i.1≤l.length∧bO l key later=((bO.K1) i.2.1)∧gC OSeat.enc (kx Appoint.rp) h i.2.2 i.2.1∧i.2.1.length≤0+i.1) ?_ (fun hx1=>?_)
 ·rintro ⟨i1,cY,ku⟩ ⟨aP,hs1,gG,oF⟩ e
  try dsimp only at aP gG oF
  refine qT 5 U ?_
  refine e6 0 U hM (fun h1 hle1 hb1=>?_)
  have mc1:oR OSeat.enc (kx Appoint.rp) h1 b1 cY:=⟨_,hb1,gG.mono (kx.mono Appoint.aD) hle1⟩
  have hs2:bO l key later=cY:=hs1
  exact cJ [.map (some b1)] Tryz.func156 U rd ⟨b1,congrArg (fun r:(List (OSeat×Appoint))=>(.map (some b1):Value)) hs2.symm,(by rw [hs2];exact mc1)⟩
 ·refine bG (ι:=Nat×(List (OSeat×Appoint))×Obj×List Appoint) (fun i=>[(1,key_v),(2,later_v),(7,.map (some b1)),(15,.slice eD l.length eC),(16,I ((l.length:Nat):Int)),(17,I ((i.1:Nat):Int))]) (fun i=>h) (fun i=>[(b1,i.2.2.1)]) (fun i=>l.drop i.1=i.2.2.2∧i.1≤l.length∧bO l key later=((bO.L1 key later (bO.K1)) i.2.2.2 i.2.1)∧gC OSeat.enc (kx Appoint.rp) h i.2.2.1 i.2.1∧i.2.1.length≤0+i.1) (fun i=>i.2.2.2.length) (0,[],.map #[] 0,l) rd sw ⟨U,Nat.zero_le _,hs0,(gC.nil (enc:=OSeat.enc) (V:=(kx Appoint.rp)) (h:=h)),lc⟩ ?_
  rintro ⟨i1,cY,ku,s1⟩ ⟨hd1,aP,hs3,gG,oF⟩ ag1 e
  try dsimp only at hd1 aP gG oF
  rcases s1 with _ | ⟨y1,rz1⟩
  ·have dr:=cw hd1
   refine sr (ai (v':=.bool false) U (cb dr) (qO 4 U ?_))
   exact hx1 (i1,cY,ku) _ ⟨aP,hs3,gG,lc⟩ rd
  ·have dq:=dy hd1
   have aM:=cA hd1
   have ey:=aE hd1
   have gi:=hl.1.1
   refine sr (ai (v':=.bool true) U (cb dq) (qO 8 U (aN (eU (enc:=Appoint.cells) (fun _ _ _ e=>e) nB ty59 hl.1 (nthZ aM) (aV aM) U U U (fun q2 A2=>?_)))))
   refine el ty59 A2 U U (bR zc59 (fun b5=>bL 0 ty59 U U U U U U (qO 4 U (dl 0 ty59 U U U (aN (nO (v:=.tuple #[.agg (OSeat.cells ((key y1).1)).toArray,.bool ((key y1).2)]) [] (List.nil_sublist _) (hkey h y1 (HF.le_refl _)) U U (qO 3 U (bR zc212 (fun b6=>bL 0 ty212 U U U U U U (qO 5 U (dl 0 ty212 U U U (aN (xK 2 (k:=(key y1).1) Gz ue U gG (jf zv59) (show (kx Appoint.rp) _ (.agg (List.toArray [I 0,I 0,I 0,I 0,I 0,I 0,.bool false])) (Appoint.mk 0 0 0 0 0 0 false) from ⟨_,U,U⟩) U U (fun v2 hv2=>?_))))))))))))))
   obtain ⟨_,rfl,rfl⟩:=hv2
   refine qO 3 U (bR zc59 (fun b7=>bL 0 ty59 U U U U U U (qO 6 U ?_)))
   refine ar 10 [34,35,36,37,38,39,40,41,42,43,44] 44 (.bool ((key y1).2&&((!(mhas cY ((key y1).1)))||(!(later (mgetD cY ((key y1).1) (Appoint.mk 0 0 0 0 0 0 false)) y1))))) (fun hk1=>?_) (fun e=>?_)
   ·refine ac 34 U (fun c1=>?_) (fun c1=>?_)
    ·refine qO 3 U ?_
     refine ar 6 [37,38,39,40,41,42,43] 43 (.bool ((!(mhas cY ((key y1).1)))||(!(later (mgetD cY ((key y1).1) (Appoint.mk 0 0 0 0 0 0 false)) y1)))) (fun hk2=>?_) (fun e=>?_)
     ·refine ac 37 U (fun c2=>?_) (fun c2=>?_)
      ·refine qO 6 U ?_
       exact hk2 _ (cb (dW c2))
      ·refine aB (dl 0 ty59 U U U (dl 2 ty59 U U U (aN (nO (v:=.bool (later (mgetD cY ((key y1).1) (Appoint.mk 0 0 0 0 0 0 false)) y1)) [] (List.nil_sublist _) (hlater h (mgetD cY ((key y1).1) (Appoint.mk 0 0 0 0 0 0 false)) y1 (HF.le_refl _)) U U (qO 2 U ?_)))))
       exact hk2 _ (cb (dX c2))
     refine eH U ?_
     exact hk1 _ (cb (cB c1))
    ·refine qO 10 U ?_
     exact hk1 _ (cb (cC c1))
   refine bh ?_
   refine ak hs3 U (fun c3 hs5=>?_) (fun c3 hs6=>?_)
   ·refine qT 2 U (dl 1 ty212 U U U (dl 2 ty59 U U U (aN (ki 3 (k:=(key y1).1) (x:=y1) Gz ue U gG U U ⟨_,U,U⟩ (fun mo1 hm1=>qO 3 U (ai (v':=I (((i1+1):Nat):Int)) U (bz ob) (qO 2 U ?_)))))))
    refine cG (L':=[(b1,mo1)]) js ?_
    exact ag1 ((i1+1),(mput cY ((key y1).1) y1),mo1,rz1) _ (Nat.lt_succ_self _) ⟨ba hd1,aE hd1,hs5,hm1,(by have:=gr cY ((key y1).1) y1;first | omega | (simp only [List.length_nil,List.length_cons] at *;omega))⟩ rd
   ·refine qT 3 U (ai (v':=I (((i1+1):Nat):Int)) U (bz ob) (qO 2 U ?_))
    refine cG (L':=[(b1,ku)]) js ?_
    exact ag1 ((i1+1),cY,ku,rz1) _ (Nat.lt_succ_self _) ⟨ba hd1,aE hd1,hs6,gG,lc⟩ rd
theorem rx (h:HF) (a:Appoint) (fP:Appoint)  : Ret Tryz.prog 157 [.agg (Appoint.cells a).toArray,.agg (Appoint.cells fP).toArray] h (.bool (ic a fP)):=by
 refine ae Tryz.func157 U Tryz.ntmps157 U fun X hM hX=>?_
 have hs0:ic a fP=ic a fP:=rfl
 refine sr (dt (fun b1=>dt (fun b2=>qO 4 U (aj nd U (aI 1 ty3 U U U (aj nd U (aI 0 ty3 U U U (qO 3 U ?_))))))))
 exact ah [.bool (decide (fP.At < a.At))] Tryz.func157 U hX rd (cs hs0)
theorem tw (h:HF) (l:(List Appoint)) (eD:Option Addr) (eC:Nat) (fM:Int) (known:Int) (hl:SlC Appoint.rp h eD eC l):je Tryz.prog 93 [.slice eD l.length eC,I fM,I known] h (fun v h'=>∃ (rk0:Nat),v=.map (some rk0)∧oR OSeat.enc (kx Appoint.rp) h' rk0 (eQ l fM known)):=by
 refine ae Tryz.func93 U Tryz.ntmps93 U fun X hM hX=>?_
 have hs0:eQ l fM known=eQ l fM known:=rfl
 refine sr (dt (fun b1=>dt (fun b2=>qO 4 U (bX 1 U hM (fun h1 hle1 hb1=>bX 0 U hM (fun h2 hle2 hb2=>aN (gg U U (qO 6 U (aN (cy Tryz.call156 (pQ h2 l eD eC (fun eo=>eN eo fM known) (.func (.func 155) #[] #[Q b1,Q b2]) ic (.func (.func 157) #[] #[]) (hl.mono Appoint.aD (hle1.t hle2)) (fun h' eo hle =>iZ Tryz.call155 (ry h' eo fM ⟨b1,0,none⟩ known ⟨b2,0,none⟩  (((dN hb1).mono hle2).mono hle) ((dN hb2).mono hle))) (fun h' eo Kh hle =>iZ Tryz.call157 (rx h' eo Kh    ))) U (fun v1 h3 hle3 hp1=>?_)))))))))))
 obtain ⟨rk1,rfl,mo1⟩:=hp1
 refine an ?_
 have hs1:eQ l fM known=(bO l (fun eo=>eN eo fM known) ic):=hs0
 exact cJ [.map (some rk1)] Tryz.func93 U rd ⟨rk1,congrArg (fun r:(List (OSeat×Appoint))=>(.map (some rk1):Value)) hs1.symm,(by rw [hs1];exact mo1)⟩
theorem uc (h:HF) (l:(List Appoint)) (eD:Option Addr) (eC:Nat) (office:Int) (aW:Int) (known:Int) (hl:SlC Appoint.rp h eD eC l) (hsz:l.length≤2000000):je Tryz.prog 47 [.slice eD l.length eC,I office,I aW,I known] h (fun v h'=>∃ (rb0:Option Addr) (rc0:Nat),v=.tuple #[.slice rb0 ((dB l office aW known).1).length rc0,I ((dB l office aW known).2)]∧SlC Holder.rp h' rb0 rc0 ((dB l office aW known).1)):=by
 refine ae Em U Tryz.ntmps47 U fun X hM hX=>?_
 have hs0:dB l office aW known=dB l office aW known:=rfl
 refine qT 9 U (au (v:=I (cx l)) Tryz.call51 (pR h l eD eC hl) U (qO 7 U ?_))
 refine ak hs0 U (fun c1 hs1=>?_) (fun c1 hs2=>?_)
 ·refine qT 6 U ?_
  have hs3:dB l office aW known=([],(cx l)):=hs1
  exact cJ [.slice none 0 0,I (cx l)] Em U rd ⟨none,0,congrArg (fun r:((List Holder)×Int)=>(.tuple #[.slice none r.1.length 0,I r.2]:Value)) hs3.symm,(by rw [hs3];exact SlC.nil)⟩
 ·refine qT 5 U (au (v:=.bool (dE office)) Tryz.call89 (lG h office ) U (qO 2 U ?_))
  refine ar 4 [18,19,20,21,22] 22 (.bool ((!(dE office))||(!(bB aW)))) (fun hk1=>?_) (fun e=>?_)
  ·refine ac 18 U (fun c2=>?_) (fun c2=>?_)
   ·refine qO 4 U ?_
    exact hk1 _ (cb (dW c2))
   ·refine aB (au (v:=.bool (bB aW)) Ce (ji h aW ) U (qO 2 U ?_))
    exact hk1 _ (cb (dX c2))
  refine aB ?_
  refine ar 4 [23,24,25,26,27] 27 (.bool (((!(dE office))||(!(bB aW)))||(!(bB known)))) (fun hk2=>?_) (fun e=>?_)
  ·refine ac 23 U (fun c3=>?_) (fun c3=>?_)
   ·refine qO 4 U ?_
    exact hk2 _ (cb (dW c3))
   ·refine aB (au (v:=.bool (bB known)) Ce (ji h known ) U (qO 2 U ?_))
    exact hk2 _ (cb (dX c3))
  refine bh ?_
  refine ak hs2 U (fun c4 hs4=>?_) (fun c4 hs5=>?_)
  ·refine qT 5 U ?_
   have hs6:dB l office aW known=([],1):=hs4
   exact cJ [.slice none 0 0,I 1] Em U rd ⟨none,0,congrArg (fun r:((List Holder)×Int)=>(.tuple #[.slice none r.1.length 0,I r.2]:Value)) hs6.symm,(by rw [hs6];exact SlC.nil)⟩
  ·refine qT 6 U (aN (cy Tryz.call93 (tw h l eD eC aW known hl) U (fun v1 h1 hle1 hp1=>?_)))
   obtain ⟨rk1,rfl,mo1⟩:=hp1
   refine aB (aN (cy Tryz.call92 (ub h1 (eQ l aW known) rk1 office mo1 (by have:=qv l aW known;omega)) U (fun v2 h2 hle2 hp2=>?_)))
   obtain ⟨_,rfl,mo2⟩:=hp2
   refine aN (cy Tryz.call91 (pB h2 (gA (eQ l aW known) office) v2 mo2 (by have h1:=qv l aW known;have h2:=wG (eQ l aW known) office;omega)) U (fun v3 h3 hle3 hp3=>?_))
   obtain ⟨rb1,rc1,rfl,sl1⟩:=hp3
   refine qO 3 U ?_
   have hs7:dB l office aW known=((fa (gA (eQ l aW known) office)),0):=hs5
   exact cJ [.slice rb1 ((fa (gA (eQ l aW known) office)).length) rc1,I 0] Em U rd ⟨rb1,rc1,congrArg (fun r:((List Holder)×Int)=>(.tuple #[.slice rb1 r.1.length rc1,I r.2]:Value)) hs7.symm,(by rw [hs7];exact sl1)⟩
theorem lQ (h:HF) (q:aH) (ja:fS) (p:Policy) (fe:eE) (aW:Int) (hq:aH.ok h q ja) (hp:Policy.ok h p fe) (hsm:smR q.Register) (hszp:p.Offices.length≤2000000):je Tryz.prog 66 [.agg (aH.cells q ja).toArray,.agg (Policy.cells p fe).toArray,I aW] h (fun v h'=>∃ (rb0:Option Addr) (rc0:Nat),v=.slice rb0 (aw q p aW).length rc0∧SlC (Rp.sl Holder.rp) h' rb0 rc0 (aw q p aW)):=by
 refine ae Tryz.func66 U Tryz.ntmps66 U fun X hM hX=>?_
 have hs0:aw q p aW=aw q p aW:=rfl
 refine sr (dt (fun b1=>dt (fun b2=>qO 5 U (aj iS U (aI 0 ty62 U U U (a8 kB U (qO 2 U ?_)))))))
 let z2:Nat×Obj:=(b1,O (aH.cells q ja) 77)
 let z3:Nat×Obj:=(b2,O (Policy.cells p fe) 68)
 refine aU (ι:=Nat×(List (List Holder))×Option Addr×Nat×LH×HF) (fun i=>[(6,.slice i.2.2.1 i.2.1.length i.2.2.2.1)]) (fun i=>i.2.2.2.2.2) (fun i=>[z3,z2]++(i.2.2.2.2.1)) (fun i=>i.1≤p.Offices.length∧aw q p aW=((aw.K1) i.2.1)∧eb (Rp.sl Holder.rp) 101 i.2.2.2.2.2 i.2.1 i.2.2.1 i.2.2.2.1 i.2.2.2.2.1∧i.2.1.length≤0+i.1∧HF.le h i.2.2.2.2.2) ?_ (fun hx1=>?_)
 ·rintro ⟨i1,nH,Dr,Dq,HZ,hh1⟩ ⟨aP,hs1,AP,HY,hl1⟩ e
  try dsimp only at aP AP HY hl1
  refine qT 5 U ?_
  refine eY (Rp.sQ Holder.aD) ([z3,z2]) HZ ([]) ap hM AP (fun h3 hle3 sl3=>?_)
  have hs2:aw q p aW=nH:=hs1
  exact cJ [.slice Dr nH.length Dq] Tryz.func66 U rd ⟨Dr,Dq,congrArg (fun r:(List (List Holder))=>(.slice Dr r.length Dq:Value)) hs2.symm,(by rw [hs2];exact sl3)⟩
 ·refine bG (ι:=Nat×(List (List Holder))×Option Addr×Nat×LH×HF×List ByteArray) (fun i=>[(2,I aW),(3,Q b1),(6,.slice i.2.2.1 i.2.1.length i.2.2.2.1),(12,I ((p.Offices.length:Nat):Int)),(13,I ((i.1:Nat):Int))]) (fun i=>i.2.2.2.2.2.1) (fun i=>[z3,z2]++(i.2.2.2.2.1)) (fun i=>p.Offices.drop i.1=i.2.2.2.2.2.2∧i.1≤p.Offices.length∧aw q p aW=((aw.L1 q aW (aw.K1)) i.2.2.2.2.2.2 i.1 i.2.1)∧eb (Rp.sl Holder.rp) 101 i.2.2.2.2.2.1 i.2.1 i.2.2.1 i.2.2.2.1 i.2.2.2.2.1∧i.2.1.length≤0+i.1∧HF.le h i.2.2.2.2.2.1) (fun i=>i.2.2.2.2.2.2.length) (0,[],none,0,[],h,p.Offices) rd sw ⟨U,Nat.zero_le _,hs0,eb.nil,lo,(HF.le_refl h)⟩ ?_
  rintro ⟨i1,nH,Dr,Dq,HZ,hh1,s1⟩ ⟨hd1,aP,hs3,AP,HY,hl1⟩ ag1 e
  try dsimp only at hd1 aP AP HY hl1
  rcases s1 with _ | ⟨y1,rz1⟩
  ·have dr:=cw hd1
   refine sr (ai (v':=.bool false) U (cb dr) (qO 4 U ?_))
   exact hx1 (i1,nH,Dr,Dq,HZ,hh1) _ ⟨aP,hs3,AP,lo,hl1⟩ rd
  ·have dq:=dy hd1
   have aM:=cA hd1
   have ey:=aE hd1
   have gi:=hp.Offices.1.1
   refine sr (ai (v':=.bool true) U (cb dq) (qO 13 U (aj qW U (aj qZ U (aI 1 ty22 U U U (qO 2 U (aj BH U (aI 1 ty3 U U U (aN (cy Tryz.call47 (uc hh1 q.Register.Appoints ja.Register.iJ ja.Register.iI ((i1:Nat):Int) aW q.known (hq.Register.Appoints.mono Appoint.aD hl1) hsm.2.1) U (fun v2 h4 hle4 hp2=>?_)))))))))))
   obtain ⟨rb2,rc2,rfl,sl4⟩:=hp2
   refine qO 9 U (aN (bK (cells:=[.slice rb2 (((dB q.Register.Appoints ((i1:Nat):Int) aW q.known).1).length) rc2]) xA ty101 zc101 U U kr (fun b4=>?_)))
   let z1:Nat×Obj:=(b4,O [.slice rb2 (((dB q.Register.Appoints ((i1:Nat):Int) aW q.known).1).length) rc2] 101)
   refine aN (db (Rp.Iq_ Holder.aD) ([z1,z3,z2]) ([]) (fun G=>[z1,z3,z2]++(G)) ap (fun _=>ap) xA ty101 zc101 U bytes101 (AP.mono (Rp.sQ Holder.aD) hle4) U U (eI 0 U (show bD (Rp.sl Holder.rp) h4 [.slice rb2 (((dB q.Register.Appoints ((i1:Nat):Int) aW q.known).1).length) rc2] ([(dB q.Register.Appoints ((i1:Nat):Int) aW q.known).1]) from ⟨[.slice rb2 (((dB q.Register.Appoints ((i1:Nat):Int) aW q.known).1).length) rc2],[],U,U,⟨rb2,rc2,U,sl4⟩,U⟩)) lo lo (fun ob2 oc2 G2 gr2=>(qO 4 U (ai (v':=I (((i1+1):Nat):Int)) U (bz ob) (qO 2 U ?_)))))
   refine cG (L':=[z3,z2]++(G2)) js ?_
   exact ag1 ((i1+1),(nH++[(dB q.Register.Appoints ((i1:Nat):Int) aW q.known).1]),ob2,oc2,G2,h4,rz1) _ (Nat.lt_succ_self _) ⟨ba hd1,aE hd1,hs3,gr2,lo,(hl1.t hle4)⟩ rd
theorem mP (h:HF) (q:aH) (ja:fS) (who:(List Int)) (fo:Option Addr) (fm:Nat) (aW:Int) (hq:aH.ok h q ja) (hwho:SlC Rp.int h fo fm who) (hsm:smR q.Register) (hov:okV q.Register.Versions) (hod:(0≤q.doc.At∧q.doc.At≤1099511627776)∧0≤q.doc.Kind) (hsw:who.length≤2000000) (hk:Kinds h):Ret Tryz.prog 30 [.agg (aH.cells q ja).toArray,.slice fo who.length fm,I aW] h (.bool (aX q who aW)):=by
 refine ae Tryz.func30 U Tryz.ntmps30 U fun X hM hX=>?_
 have hs0:aX q who aW=aX q who aW:=rfl
 have hjl:=yy q aW
 have hvl:=hsm.vers.len
 obtain ⟨hod,hdk⟩:=hod
 refine sr (dt (fun b1=>dt (fun b2=>qO 5 U (aI 0 ty3 U U U (aj mH U (aj nf U (aI 1 ty3 U U U (qO 2 U ?_))))))))
 refine ar 6 [25,26,27,28,29,30,31] 31 (.bool (decide (aW < q.doc.At)||decide (q.doc.Until≤aW))) (fun hk1=>?_) (fun e=>?_)
 ·refine ac 25 U (fun c1=>?_) (fun c1=>?_)
  ·refine qO 6 U ?_
   exact hk1 _ (cb (dW c1))
  ·refine aI 0 ty3 U U U (aj mH U (aj s9 U (aI 1 ty3 U U U (qO 2 U ?_))))
   exact hk1 _ (cb (dX c1))
 refine bh ?_
 refine ak hs0 U (fun c2 hs1=>?_) (fun c2 hs2=>?_)
 ·refine qT 4 U ?_
  exact ah [.bool false] Tryz.func30 U hX rd (cs hs1)
 ·refine qT 3 U (bX 1 U hM (fun h1 hle1 hb1=>bX 0 U hM (fun h2 hle2 hb2=>aN (gg U U (qO 5 U (aN (IS Tryz.call40 (lE h2 who fo fm (hwho.mono Rp.bi (hle1.t hle2)) (by first | assumption | omega)) U (fun ob1 oc1 G1 gr1=>(aB (aN (rT (v:=.slice ob1 (bp who (fun eo=>bq eo q aW)).length oc1) ([]) G1 ([]) Tryz.call64 (pA h2 who ob1 oc1 G1 (fun eo=>bq eo q aW) (.func (.func 63) #[] #[Q b1,Q b2]) gr1 (fun h' eo hle =>iZ Tryz.call63 (pG h' eo q ja ⟨b1,0,none⟩ aW ⟨b2,0,none⟩  ((hq.mono (hle1.t hle2)).mono hle) (((dN hb1).mono hle2).mono hle) ((dN hb2).mono hle) hsm)) (by first | assumption | omega)) ap U (fun G2 gr2=>?_))))))))))))
  refine iT (L':=G2) ap (qu Rp.bi ([]) G2 ([]) ap hM gr2 (fun h3 hle3 sl1=>(qO 8 U (el ty77 ((dN hb1).mono (hle2.t hle3)) U U (dv ty3 ((dN hb2).mono hle3) U (aN (cy Tryz.call65 (mm h3 q ja aW (hq.mono ((hle1.t hle2).t hle3)) ob (hk.mono ((hle1.t hle2).t hle3))) U (fun v1 h4 hle4 hp1=>?_))))))))
  obtain ⟨rb1,rc1,rfl,sl2⟩:=hp1
  refine qO 10 U (a8 B6 U (qO 2 U ?_))
  refine aU (ι:=Nat×(List Bool)×Option Addr×Nat×LH×HF) (fun i=>[(9,.slice i.2.2.1 i.2.1.length i.2.2.2.1),(11,I ((ao q aW).2))]) (fun i=>i.2.2.2.2.2) (fun i=>i.2.2.2.2.1) (fun i=>i.1≤((ao q aW).1).length∧aX q who aW=((aX.K1 q aW) i.2.1)∧eb Rp.bool 4 i.2.2.2.2.2 i.2.1 i.2.2.1 i.2.2.2.1 i.2.2.2.2.1∧i.2.1.length≤0+i.1∧HF.le h4 i.2.2.2.2.2) ?_ (fun hx1=>?_)
  ·rintro ⟨i1,kJ,rq,rn,FH,hh1⟩ ⟨aP,hs4,oG,yX,hl1⟩ e
   try dsimp only at aP oG yX hl1
   refine qT 4 U (qu Rp.wf ([]) FH ([]) ap hM oG (fun h5 hle5 sl3=>au (v:=.tuple #[.bool ((fc ((ao q aW).2) kJ).1),I ((fc ((ao q aW).2) kJ).2)]) Tryz.call49 (tT h5 ((ao q aW).2) kJ rq rn sl3 ob) U (qO 10 U ?_)))
   refine ar 3 [103,104,105,106] 106 (.bool ((fc ((ao q aW).2) kJ).1&&((fc ((ao q aW).2) kJ).2==0))) (fun hk2=>?_) (fun e=>?_)
   ·refine ac 103 U (fun c3=>?_) (fun c3=>?_)
    ·refine qO 3 U ?_
     exact hk2 _ (cb (cB c3))
    ·refine qO 3 U ?_
     exact hk2 _ (cb (cC c3))
   refine an ?_
   exact ah [.bool ((fc ((ao q aW).2) kJ).1&&((fc ((ao q aW).2) kJ).2==0))] Tryz.func30 U hX rd (cs hs4)
  ·refine bG (ι:=Nat×(List Bool)×Option Addr×Nat×LH×HF×List Policy) (fun i=>[(3,Q b1),(5,Q b2),(8,.slice ob1 ((bp who (fun eo=>bq eo q aW)).length) oc1),(9,.slice i.2.2.1 i.2.1.length i.2.2.2.1),(11,I ((ao q aW).2)),(43,.slice rb1 (((ao q aW).1).length) rc1),(44,I ((((ao q aW).1).length:Nat):Int)),(45,I ((i.1:Nat):Int))]) (fun i=>i.2.2.2.2.2.1) (fun i=>i.2.2.2.2.1) (fun i=>((ao q aW).1).drop i.1=i.2.2.2.2.2.2∧i.1≤((ao q aW).1).length∧aX q who aW=((aX.L1 q who aW (aX.K1 q aW)) i.2.2.2.2.2.2 i.2.1)∧eb Rp.bool 4 i.2.2.2.2.2.1 i.2.1 i.2.2.1 i.2.2.2.1 i.2.2.2.2.1∧i.2.1.length≤0+i.1∧HF.le h4 i.2.2.2.2.2.1) (fun i=>i.2.2.2.2.2.2.length) (0,[],none,0,[],h4,(ao q aW).1) rd sw ⟨U,Nat.zero_le _,hs2,eb.nil,lo,(HF.le_refl h4)⟩ ?_
   rintro ⟨i1,kJ,rq,rn,FH,hh1,s1⟩ ⟨hd1,aP,hs6,oG,yX,hl1⟩ ag1 e
   try dsimp only at hd1 aP oG yX hl1
   rcases s1 with _ | ⟨y1,rz1⟩
   ·have dr:=cw hd1
    refine sr (ai (v':=.bool false) U (cb dr) (qO 4 U ?_))
    exact hx1 (i1,kJ,rq,rn,FH,hh1) _ ⟨aP,hs6,oG,lo,hl1⟩ rd
   ·have dq:=dy hd1
    have aM:=cA hd1
    have ey:=aE hd1
    have gi:=sl2.1.1
    obtain ⟨v_,hv_,hve_⟩:=qJ (gx hd1)
    have hsp:=hsm.vers.2 v_ hv_
    rw [hve_] at hsp
    have hvt:=hov.2 v_ hv_
    rw [hve_] at hvt
    have hofl:=hsp.2.2.2.1
    refine sr (ai (v':=.bool true) U (cb dq) (qO 8 U (aN (fF B6 ty68 (sl2.mono Policy.aD hl1).1 (nthZ aM) (aV aM) U U U (fun q3 cs3 A3 ln3 rr3=>?_)))))
    obtain ⟨r3,rfl,ok3⟩:=rr3
    refine el ty68 A3 U U (bR zc68 (fun b4=>bL 0 ty68 U U U U U U (iT (L':=[(b4,O (Policy.cells y1 r3) 68)]++(FH)) U (qO 3 U (aj mH U (aj vh U (km (j:=9) ty3 ((dN hb1).mono (((hle2.t hle3).t hle4).t hl1)) U U (qO 3 U ?_))))))))
    refine lX [(3,Q b1),(5,Q b2),(8,.slice ob1 ((bp who (fun eo=>bq eo q aW)).length) oc1),(9,.slice rq kJ.length rn),(11,I ((ao q aW).2)),(13,Q b4),(14,I q.doc.Kind),(15,.bool (decide (q.doc.Kind < ((y1.Rules.length:Nat):Int))&&decide ((q.doc.At+(nthI y1.Rules q.doc.Kind).Think)≤aW))),(43,.slice rb1 (((ao q aW).1).length) rc1),(44,I ((((ao q aW).1).length:Nat):Int)),(45,I ((i1:Nat):Int))] (fun e=>?_) (fun hk3=>?_)
    rotate_left
    ·refine fd ([(b4,O (Policy.cells y1 r3) 68)]) mixed kr jn (fun dU _=>(tm 0 U (tf 1 U U (fun _ _ _=>dx fj U) (tf 2 U U (fun _ _ hj=>gH ty63 U (hj.nth (i:=0) U) U) ?_))))
     refine tf 3 U U (fun _ _ _=>Fu jR U) (qA [4,5] U ?_)
     refine dM 57 U (fun c4=>?_) (fun c4=>?_)
     ·have c4p:=of_decide_eq_true c4
      refine tf 6 U U (fun _ _ hj=>fK ty3 (((dN hb2).mono ((hle3.t hle4).t hl1)).mono hj.1) U) (tf 7 U U (fun _ _ _=>dx mH U) ?_)
      refine tf 8 U U (fun _ _ _=>dx nf U) (tf 9 U U (fun _ _ hj=>nJ 8 ty3 (((dN hb1).mono (((hle2.t hle3).t hle4).t hl1)).mono hj.1) U U) ?_)
      refine tf 10 U U (fun _ _ _=>dx fj U) (tf 11 U U (fun _ _ hj=>gH ty63 U (hj.nth (i:=0) U) U) (tm 12 U ?_))
      have ho2:0≤(q.doc.Kind:Int)∧(q.doc.Kind:Int) < ((y1.Rules).length:Int):=ob
      refine io 13 dU jn jR ty107 ok3.Rules.1 ho2 (df ho2) U U U U kr (fun q4 cs4 A4 ln4 rr4=>?_)
      obtain ⟨r4,rfl,ok4⟩:=rr4
      refine tf 14 U U (fun _ _ _=>dx oL U) (tf 15 U U (fun _ _ hj=>nJ 2 ty3 (A4.mono hj.1) U U) ?_)
      refine tf 16 U U (fun _ _ _=>nF (v':=I (q.doc.At+(nthI y1.Rules q.doc.Kind).Think)) U (im (by first | omega | (have hth:=hvt.2 _ (kO ob);omega)))) (qR 17 3 U ?_)
      refine bv kr ?_
      exact hk3 _ ⟨U,U,U,U,U,U,U,(cb (show decide ((q.doc.At+(nthI y1.Rules q.doc.Kind).Think)≤aW)=(decide (q.doc.Kind < ((y1.Rules.length:Nat):Int))&&decide ((q.doc.At+(nthI y1.Rules q.doc.Kind).Think)≤aW)) from by rw [c4] <;> rfl)),U,U,U,trivial⟩
     ·have c4p:=of_decide_eq_false c4
      refine qR 6 14 U (bv kr ?_)
      exact hk3 _ ⟨U,U,U,U,U,U,U,(cb (show false=(decide (q.doc.Kind < ((y1.Rules.length:Nat):Int))&&decide ((q.doc.At+(nthI y1.Rules q.doc.Kind).Think)≤aW)) from by rw [c4] <;> rfl)),U,U,U,trivial⟩
    refine qT 5 U ?_
    refine ak hs6 U (fun c5 hs8=>?_) (fun c5 hs9=>?_)
    ·refine em ?_
     let z1:Nat×Obj:=(b4,O (Policy.cells y1 r3) 68)
     refine fd ([z1]) mixed kr jn (fun sC _=>?_)
     refine tf 0 U U (fun _ _ hj=>jT ty68 U (hj.nth (i:=0) U) U) (tm 1 U (tf 2 U U (fun _ _ _=>dx mH U) ?_))
     refine tf 3 U U (fun _ _ _=>dx vg U) (tf 4 U U (fun _ _ hj=>nJ 10 ty3 (((dN hb1).mono (((hle2.t hle3).t hle4).t hl1)).mono hj.1) U U) ?_)
     refine tf 5 U U (fun _ _ hj=>jK ty77 (((dN hb1).mono (((hle2.t hle3).t hle4).t hl1)).mono hj.1) U U) (tf 6 U U (fun _ _ hj=>jT ty68 U (hj.nth (i:=0) U) U) ?_)
     refine tf 7 U U (fun _ _ hj=>fK ty3 (((dN hb2).mono ((hle3.t hle4).t hl1)).mono hj.1) U) (tm 9 U ?_)
     refine tn 8 U (cy Tryz.call66 (lQ hh1 q ja y1 r3 aW (hq.mono ((((hle1.t hle2).t hle3).t hle4).t hl1)) ok3 ob ob) U (fun v2 h6 hle6 hp2=>?_))
     obtain ⟨rb2,rc2,rfl,sl4⟩:=hp2
     refine ⟨⟨hle6,fun _ hp=>List.Sublist.subset js hp⟩,mS (K2:=[z1]) hle6 (fun _ hp=>hp) (tn 10 U (fB (v:=.tuple #[.bool ((cf y1 q.doc.Kind q.doc.Value (aw q y1 aW) (bp who (fun eo=>bq eo q aW))).1),I ((cf y1 q.doc.Kind q.doc.Value (aw q y1 aW) (bp who (fun eo=>bq eo q aW))).2)]) Tryz.call48 (tZ h6 y1 r3 q.doc.Kind q.doc.Value (aw q y1 aW) rb2 rc2 (bp who (fun eo=>bq eo q aW)) ob1 oc1 (ok3.mono hle6) sl4 (sl1.mono Rp.bi ((hle4.t hl1).t hle6)) ob (sf hsm.2.1 _ _) (Nat.le_trans (Gn _ _) hsw) (hk.mono (((((hle1.t hle2).t hle3).t hle4).t hl1).t hle6))) U ?_))⟩
     refine ⟨jn,(qR 11 5 U (bv kr (qT 3 U ?_)))⟩
     refine ar 3 [87,88,89,90] 90 (.bool ((cf y1 q.doc.Kind q.doc.Value (aw q y1 aW) (bp who (fun eo=>bq eo q aW))).1&&((cf y1 q.doc.Kind q.doc.Value (aw q y1 aW) (bp who (fun eo=>bq eo q aW))).2==0))) (fun hk4=>?_) (fun e=>?_)
     ·refine ac 87 U (fun c6=>?_) (fun c6=>?_)
      ·refine qO 3 U ?_
       exact hk4 _ (cb (cB c6))
      ·refine qO 3 U ?_
       exact hk4 _ (cb (cC c6))
     refine qO 5 U (aN (bK (cells:=[.bool ((cf y1 q.doc.Kind q.doc.Value (aw q y1 aW) (bp who (fun eo=>bq eo q aW))).1&&((cf y1 q.doc.Kind q.doc.Value (aw q y1 aW) (bp who (fun eo=>bq eo q aW))).2==0))]) rN ty4 zc4 U U kr (fun b5=>?_)))
     refine aN (db Rp.AT ([(b5,O [.bool ((cf y1 q.doc.Kind q.doc.Value (aw q y1 aW) (bp who (fun eo=>bq eo q aW))).1&&((cf y1 q.doc.Kind q.doc.Value (aw q y1 aW) (bp who (fun eo=>bq eo q aW))).2==0))] 4),z1]) ([]) (fun G=>[(b5,O [.bool ((cf y1 q.doc.Kind q.doc.Value (aw q y1 aW) (bp who (fun eo=>bq eo q aW))).1&&((cf y1 q.doc.Kind q.doc.Value (aw q y1 aW) (bp who (fun eo=>bq eo q aW))).2==0))] 4),z1]++(G)) ap (fun _=>ap) rN ty4 zc4 U bytes4 (oG.mono Rp.wf hle6) U U (eI 0 U (show bD Rp.bool h6 [.bool ((cf y1 q.doc.Kind q.doc.Value (aw q y1 aW) (bp who (fun eo=>bq eo q aW))).1&&((cf y1 q.doc.Kind q.doc.Value (aw q y1 aW) (bp who (fun eo=>bq eo q aW))).2==0))] ([((cf y1 q.doc.Kind q.doc.Value (aw q y1 aW) (bp who (fun eo=>bq eo q aW))).1&&((cf y1 q.doc.Kind q.doc.Value (aw q y1 aW) (bp who (fun eo=>bq eo q aW))).2==0))]) from ⟨[.bool ((cf y1 q.doc.Kind q.doc.Value (aw q y1 aW) (bp who (fun eo=>bq eo q aW))).1&&((cf y1 q.doc.Kind q.doc.Value (aw q y1 aW) (bp who (fun eo=>bq eo q aW))).2==0))],[],U,U,U,U⟩)) lo lo (fun ob2 oc2 G3 gr3=>?_))
     refine qO 4 U (ai (v':=I (((i1+1):Nat):Int)) U (bz (by first | omega | (have hth:=hvt.2 _ (kO ob);omega))) (qO 2 U ?_))
     refine cG (L':=G3) js ?_
     exact ag1 ((i1+1),(kJ++[((cf y1 q.doc.Kind q.doc.Value (aw q y1 aW) (bp who (fun eo=>bq eo q aW))).1&&((cf y1 q.doc.Kind q.doc.Value (aw q y1 aW) (bp who (fun eo=>bq eo q aW))).2==0))]),ob2,oc2,G3,h6,rz1) _ (Nat.lt_succ_self _) ⟨ba hd1,aE hd1,hs8,gr3,lo,(hl1.t hle6)⟩ rd
    ·refine qT 4 U (aN (bK (cells:=[.bool (decide (q.doc.Kind < ((y1.Rules.length:Nat):Int))&&decide ((q.doc.At+(nthI y1.Rules q.doc.Kind).Think)≤aW))]) rN ty4 zc4 U U kr (fun b6=>aN (db Rp.AT ([(b6,O [.bool (decide (q.doc.Kind < ((y1.Rules.length:Nat):Int))&&decide ((q.doc.At+(nthI y1.Rules q.doc.Kind).Think)≤aW))] 4),(b4,O (Policy.cells y1 r3) 68)]) ([]) (fun G=>[(b6,O [.bool (decide (q.doc.Kind < ((y1.Rules.length:Nat):Int))&&decide ((q.doc.At+(nthI y1.Rules q.doc.Kind).Think)≤aW))] 4),(b4,O (Policy.cells y1 r3) 68)]++(G)) ap (fun _=>ap) rN ty4 zc4 U bytes4 oG U U (eI 0 U (show bD Rp.bool hh1 [.bool (decide (q.doc.Kind < ((y1.Rules.length:Nat):Int))&&decide ((q.doc.At+(nthI y1.Rules q.doc.Kind).Think)≤aW))] ([(decide (q.doc.Kind < ((y1.Rules.length:Nat):Int))&&decide ((q.doc.At+(nthI y1.Rules q.doc.Kind).Think)≤aW))]) from ⟨[.bool (decide (q.doc.Kind < ((y1.Rules.length:Nat):Int))&&decide ((q.doc.At+(nthI y1.Rules q.doc.Kind).Think)≤aW))],[],U,U,U,U⟩)) lo lo (fun ob3 oc3 G4 gr4=>?_)))))
     refine qO 4 U (ai (v':=I (((i1+1):Nat):Int)) U (bz (by first | omega | (have hth:=hvt.2 _ (kO ob);omega))) (qO 2 U ?_))
     refine cG (L':=G4) js ?_
     exact ag1 ((i1+1),(kJ++[(decide (q.doc.Kind < ((y1.Rules.length:Nat):Int))&&decide ((q.doc.At+(nthI y1.Rules q.doc.Kind).Think)≤aW))]),ob3,oc3,G4,hh1,rz1) _ (Nat.lt_succ_self _) ⟨ba hd1,aE hd1,hs9,gr4,lo,hl1⟩ rd
end Go.Sg
