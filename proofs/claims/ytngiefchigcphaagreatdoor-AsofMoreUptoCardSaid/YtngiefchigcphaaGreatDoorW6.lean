import Derived.ChangeArms
import Derived.OpenShut
import Derived.KernelRfl
import Derived.Test.YtngiefchigcphaaGreatDoorRows
import Derived.Test.YtngiefchigcphaaGreatDoorProg
import Derived.LaidHandle
import Derived.WordedOn
import Derived.ChangeSame
import Derived.Carry
import Derived.Test.YtngiefchigcphaaGreatDoorW1
import Derived.Test.YtngiefchigcphaaGreatDoorW2
import Derived.Test.YtngiefchigcphaaGreatDoorW3
import Derived.Test.YtngiefchigcphaaGreatDoorW4
import Derived.Test.YtngiefchigcphaaGreatDoorW5
/- A part of the proof of the law AsofMore: where what it reads holds at most 1048576 values and letters, the call returns true and its arguments read as they did. Conditions: that bound, and that the listed table starts as the program lays it. -/
set_option linter.unusedVariables false
set_option linter.unusedSimpArgs false
namespace Go.Sg
open Go.Proofs
set_option maxHeartbeats 2000000
set_option maxRecDepth 100000
set_option linter.unusedVariables false
set_option linter.unusedSimpArgs false
def hOf (w:World):HF:=fun b=>w.heap[b]?
theorem pre_hOf (w:World):Pre (hOf w) [] w:=⟨fun _ _ h=>h,fun _ hp=>(List.not_mem_nil hp).elim,List.nodup_nil,fun _ hp=>(List.not_mem_nil hp).elim⟩
theorem EQ {w:World} {a:Addr} {v:Value} (h:w.cell? a=some v):a.spot=none∧∃ c T fz,w.heap[a.block]? = some (.cells c T fz)∧c[a.off]? = some v:=by
 unfold World.cell? at h
 split at h
 ·next c T fz e=>
  split at h
  ·cases h
  ·next hs=>exact ⟨by simpa using hs,c,T,fz,e,h⟩
 ·cases h
theorem B9 {α β : Type} {f:α→Option β}:∀ {l:List α} {r:List β},l.mapM f=some r→l.length=r.length∧∀ (j:Nat) (x:α),l[j]? = some x→f x=r[j]?
 | [],r,h=>by simp at h;subst h;exact ⟨rfl,fun j x hj=>by simp at hj⟩
 | a::l,r,h=>by
  rw [List.mapM_cons] at h
  simp only [Option.bind_eq_bind,Option.bind_eq_some_iff,Option.pure_def,Option.some.injEq] at h
  obtain ⟨b,hb,r',hr,rfl⟩:=h
  obtain ⟨h1,h2⟩:=B9 hr
  refine ⟨by simp [h1],fun j x hj=>?_⟩
  cases j with
  | zero=>simp at hj;subst hj;simpa using hb
  | succ j=>simpa using h2 j x (by simpa using hj)
theorem Hk {w:World} {base n:Nat} {a:Addr} {cs:List Value} (hn:0 < n) (h:w.cells? base a n=some cs):At (hOf w) a cs∧cs.length=n:=by
 unfold World.cells? at h
 split at h
 ·obtain ⟨h1,h2⟩:=B9 h
  rw [List.length_range] at h1
  have hc:∀ j v,cs[j]? = some v→w.cell? (a.add j)=some v:=fun j v hv=>by
   have hj:=(List.getElem?_eq_some_iff.1 hv).1
   rw [h2 j j (List.getElem?_range (by omega))];exact hv
  obtain ⟨v,hv⟩:∃ v,cs[0]? = some v:=⟨cs[0],List.getElem?_eq_getElem (by omega)⟩
  obtain ⟨s1,c,T,fz,s2,s3⟩:=EQ (hc 0 v hv)
  have hsp:a.spot=none:=by simpa [Addr.add] using s1
  have hbl:∀ j,(a.add j).block=a.block∧(a.add j).off=a.off+j:=fun j=>by
   unfold Addr.add
   split
   ·next e=>subst e;exact ⟨rfl,rfl⟩
   ·exact ⟨rfl,rfl⟩
  refine ⟨⟨c,T,fz,?_,hsp,fun j u hu=>?_⟩,h1.symm⟩
  ·rw [(hbl 0).1] at s2;exact s2
  ·obtain ⟨_,c',T',fz',t2,t3⟩:=EQ (hc j u hu)
   rw [(hbl j).1] at t2
   rw [(hbl 0).1,t2] at s2
   cases s2
   rw [(hbl j).2] at t3;exact t3
 ·cases h
def szL {α : Type} (f:α→Nat):List α→Nat
 | []=>0
 | x::xs=>f x+szL f xs
theorem wK {α : Type} (f:α→Nat):∀ (l r:List α),szL f (l++r)=szL f l+szL f r
 | [],r=>by simp [szL]
 | x::l,r=>by simp [szL,wK f l r,Nat.add_assoc]
theorem szL_len {α : Type} {f:α→Nat} (hf:∀ x,1≤f x):∀ (l:List α),l.length≤szL f l
 | []=>Nat.le_refl _
 | x::l=>by have:=szL_len hf l;have:=hf x;simp [szL];omega
theorem Aj {α : Type} {f:α→Nat} {x:α}:∀ {l:List α},x∈l→f x≤szL f l
 | y::l,h=>by
  rcases List.mem_cons.1 h with rfl | h
  ·simp [szL]
  ·have:=Aj (f:=f) h;simp [szL];omega
theorem Eo:∀ (l:List Expr),szL Expr.dep l=Expr.depL l
 | []=>rfl
 | y::l=>by simp [szL,Expr.depL,Eo l]
open YtngiefchigcphaaGreatDoor.Rows in
theorem bulk_one {H:Type} (d:DataW H):1≤uptoBulk d:=by
 cases d with
 | lit l=>cases l <;> simp [uptoBulk]
 | nil=>simp [uptoBulk]
 | ptr d=>simp [uptoBulk]
 | slice elems spare=>simp [uptoBulk]
 | agg parts=>simp [uptoBulk]
 | iface t d=>simp [uptoBulk]
 | map entries=>simp [uptoBulk]
 | held h=>simp [uptoBulk]
open YtngiefchigcphaaGreatDoor.Rows in
theorem C1 {H:Type} (l r:List (DataW H)):uptoBulkAll (l++r)=uptoBulkAll l+uptoBulkAll r:=by
 induction l with
 | nil=>simp [uptoBulkAll]
 | cons x l ih=>simp only [List.cons_append,uptoBulkAll,ih];omega
section opn
open YtngiefchigcphaaGreatDoor.Rows
variable {H:Type} {enc:TypeId×Value→H} {P:Program} {w:World} {base:Nat} {sp:Nat→Bool} {held:Bool}
def Opn (enc:TypeId×Value→H) (P:Program) (w:World) (base:Nat) (sp:Nat→Bool) (held:Bool) {α : Type} (T:TypeId) (R:Rp α) (sz:α→Nat) (fuel:Nat):Prop:=
 ∀ cs d ps,DataW.trod enc P w base sp held fuel T cs=some (d,ps)→∃ x,R.rep (hOf w) cs x∧sz x≤uptoBulk d
theorem opn_slice {α : Type} {R:Rp α} {sz:α→Nat} {T E:TypeId} {fuel:Nat} (ht:P.underlying T=some (.slice E)) (hc:P.cellsOf E=R.sz) (hp:0 < R.sz) (he:∀ n,fuel=n+1→Opn enc P w base sp held E R sz n) {cs:List Value} {d:DataW H} {ps:List MemPlace}
  (h:DataW.trod enc P w base sp held fuel T cs=some (d,ps)):∃ b c xs,cs=[.slice b (List.length xs) c]∧SlC R (hOf w) b c xs∧szL sz xs+1≤uptoBulk d:=by
 rcases DataW.trod_slice ht h with ⟨rfl,e⟩ | ⟨a,len,cap,elems,rest,n,hn,rfl,hx,h1,h2,h3,h4,h5,_,_⟩
 ·cases e
  exact ⟨none,0,[],rfl,SlC.nil,by simp [szL,uptoBulk]⟩
 ·cases hx
  have key:∀ k,k≤len→∃ xs:List α,xs.length=k∧(∀ i x,xs[i]? = some x→∃ cs',At (hOf w) (a.add (i * R.sz)) cs'∧cs'.length=R.sz∧R.rep (hOf w) cs' x)∧szL sz xs≤uptoBulkAll ((elems.take k).map (·.1)):=by
   intro k
   induction k with
   | zero=>exact fun _=>⟨[],rfl,fun i x hx=>by simp at hx,by simp [szL]⟩
   | succ k ih=>
    intro hk
    obtain ⟨xs,e1,e2,e3⟩:=ih (by omega)
    have hkl:k < elems.length:=by omega
    have c0:=h5 k (by omega)
    rw [List.getElem?_eq_getElem hkl] at c0
    obtain ⟨cs',c1,c2⟩:=Option.bind_eq_some_iff.1 c0
    rw [hc] at c1
    obtain ⟨x,x1,x2⟩:=he n hn _ _ _ c2
    obtain ⟨k1,k2⟩:=Hk hp c1
    refine ⟨xs++[x],by simp [e1],fun i y hy=>?_,?_⟩
    ·rcases Nat.lt_or_ge i xs.length with hi | hi
     ·rw [List.getElem?_append_left hi] at hy;exact e2 i y hy
     ·rw [List.getElem?_append_right hi] at hy
      have hi2:i=k:=by
       have:=(List.getElem?_eq_some_iff.1 hy).1
       simp at this;omega
      subst hi2
      rw [show i - xs.length=0 from by omega] at hy
      simp at hy;subst hy
      exact ⟨cs',k1,k2,x1⟩
    ·rw [wK,List.take_add_one,List.map_append,C1,List.getElem?_eq_getElem hkl]
     simp only [szL,Option.toList_some,List.map_cons,List.map_nil,uptoBulkAll]
     have x3:sz x≤uptoBulk (elems[k]).1:=x2
     omega
  obtain ⟨xs,e1,e2,e3⟩:=key len (Nat.le_refl _)
  refine ⟨some a,cap,xs,by rw [e1],⟨⟨?_,fun i x hx=>?_⟩,by omega⟩,?_⟩
  ·have:maxLen≤9223372036854775807:=by decide
   omega
  ·obtain ⟨cs',k1,k2,k3⟩:=e2 i x hx
   exact ⟨a,cs',rfl,k1,k2,k3⟩
  ·rw [List.take_of_length_le (by omega)] at e3
   simp only [uptoBulk]
   omega
theorem opn_int {T:TypeId} (ht:P.underlying T=some (.int .i64)) (n:Nat):Opn enc P w base sp held T Rp.int (fun _=>1) n:=by
 intro cs d ps h
 refine (?_:∃ x,Rp.int.rep (hOf w) cs x).imp fun _ h=>⟨h,bulk_one d⟩
 cases n with
 | zero=>simp [DataW.trod] at h
 | succ n=>
  unfold DataW.trod at h
  rw [ht] at h
  split at h <;> simp_all
  next k k' z e=>
   obtain ⟨⟨h1,_⟩,h2,_⟩:=h
   subst h1
   exact ⟨z,by first | rfl | (subst e;rfl) | (cases e;rfl)⟩
theorem Iy {T:TypeId} (ht:P.underlying T=some (.int .u8)) (n:Nat):Opn enc P w base sp held T ⟨1,fun _ cs (x:Int)=>cs=[.int .u8 x]⟩ (fun _=>1) n:=by
 intro cs d ps h
 refine (?_:∃ x:Int,cs=[.int .u8 x]).imp fun _ h=>⟨h,bulk_one d⟩
 cases n with
 | zero=>simp [DataW.trod] at h
 | succ n=>
  unfold DataW.trod at h
  rw [ht] at h
  split at h <;> simp_all
theorem pq {T:TypeId} (ht:P.underlying T=some .bool) (n:Nat):Opn enc P w base sp held T Rp.bool (fun _=>1) n:=by
 intro cs d ps h
 obtain ⟨b,rfl,_⟩:=DataW.trod_bool ht h
 exact ⟨b,rfl,bulk_one d⟩
theorem t6 {T:TypeId} (ht:P.underlying T=some .string) (n:Nat):Opn enc P w base sp held T Rp.str (fun _=>1) n:=by
 intro cs d ps h
 refine (?_:∃ x,Rp.str.rep (hOf w) cs x).imp fun _ h=>⟨h,bulk_one d⟩
 cases n with
 | zero=>simp [DataW.trod] at h
 | succ n=>
  unfold DataW.trod at h
  rw [ht] at h
  split at h <;> simp_all
  all_goals exact ⟨_,rfl⟩
def TrF (enc:TypeId×Value→H) (P:Program) (w:World) (base:Nat) (sp:Nat→Bool) (held:Bool) (fuel:Nat):List TypeId→List Value→List (DataW H)→Prop
 | [],cs,ds=>cs=[]∧ds=[]
 | t::ts,cs,ds=>∃ c cs' d ds' p,cs=c++cs'∧ds=d::ds'∧DataW.trod enc P w base sp held fuel t c=some (d,p)∧TrF enc P w base sp held fuel ts cs' ds'
def contig (P:Program):List Field→Nat→Option Nat
 | [],o=>some o
 | f::fs,o=>if f.offset=o then contig P fs (o+P.cellsOf f.type) else none
theorem F1 {n:Nat} {cs:List Value}:∀ (fs:List Field) (xs:List (DataW H×List MemPlace)) (o:Nat),xs.length=fs.length→contig P fs o=some cs.length →
  (∀ (i:Nat) (f:Field),fs[i]? = some f→DataW.trod enc P w base sp held n f.type ((cs.drop f.offset).take (P.cellsOf f.type))=xs[i]?)→TrF enc P w base sp held n (fs.map (·.type)) (cs.drop o) (xs.map (·.1))
 | [],xs,o,hl,hc,_=>by
  simp only [contig,Option.some.injEq] at hc
  subst hc
  rw [List.length_nil,List.length_eq_zero_iff] at hl
  subst hl
  exact ⟨by simp,rfl⟩
 | f::fs,[],o,hl,hc,hx=>by simp at hl
 | f::fs,x::xs,o,hl,hc,hx=>by
  unfold contig at hc
  split at hc
  ·next ho=>
   have h0:=hx 0 f rfl
   rw [ho] at h0
   simp only [List.getElem?_cons_zero] at h0
   refine ⟨(cs.drop o).take (P.cellsOf f.type),cs.drop (o+P.cellsOf f.type),x.1,xs.map (·.1),x.2,?_,rfl,h0,F1 fs xs _ (by simpa using hl) hc (fun i g hg=>by simpa using hx (i+1) g (by simpa using hg))⟩
   rw [← List.drop_drop,List.take_append_drop]
  ·cases hc
theorem ke {T:TypeId} {fs:Array Field} {fuel:Nat} {cs:List Value} {d:DataW H} {ps:List MemPlace} (ht:P.underlying T=some (.struct fs)) (hk:contig P fs.toList 0=some (P.cellsOf T)) (h:DataW.trod enc P w base sp held fuel T cs=some (d,ps)):
  ∃ n ds,fuel=n+1∧d=.agg ds∧TrF enc P w base sp held n (fs.toList.map (·.type)) cs ds:=by
 obtain ⟨xs,n,hn,hx,hl,hlen,hf⟩:=DataW.trod_struct ht h
 cases hx
 refine ⟨n,_,hn,rfl,?_⟩
 have:=F1 (enc:=enc) (w:=w) (base:=base) (sp:=sp) (held:=held) (n:=n) (cs:=cs) fs.toList xs 0 (by simpa using hlen) (by rw [hk,hl]) (fun i f hi=>hf i f (by simpa using hi))
 simpa using this
theorem Fb {T E:TypeId} {m:Nat} (ht:P.underlying T=some (.array m E)) (hE:P.underlying E=some (.int .u8)) (hc:P.cellsOf E=1) (hcT:P.cellsOf T=m) {n:Nat} {cs:List Value} {d:DataW H} {ps:List MemPlace}
  (h:DataW.trod enc P w base sp held n T cs=some (d,ps)):∃ f:Nat→Int,cs=(List.range m).map fun i=>Value.int .u8 (f i):=by
 obtain ⟨xs,k,hk,hx,hl,hlen,hf⟩:=DataW.trod_array ht h
 rw [hcT] at hl
 have h1:∀ i,∃ z:Int,i < m→cs[i]? = some (.int .u8 z):=by
  intro i
  rcases Nat.lt_or_ge i m with hi | hi
  ·have h0:=hf i hi
   rw [hc,Nat.mul_one,List.getElem?_eq_getElem (by omega)] at h0
   obtain ⟨z,hz,_⟩:=Iy (enc:=enc) (w:=w) (base:=base) (sp:=sp) (held:=held) hE k _ _ _ h0
   refine ⟨z,fun _=>?_⟩
   have hz':(cs.drop i).take 1=[.int .u8 z]:=hz
   have:=congrArg (·[0]?) hz'
   simpa using this
  ·exact ⟨0,fun h=>by omega⟩
 obtain ⟨f,hf'⟩:=Classical.axiomOfChoice h1
 refine ⟨f,List.ext_getElem? fun i=>?_⟩
 rcases Nat.lt_or_ge i m with hi | hi
 ·rw [hf' i hi];simp [hi]
 ·rw [List.getElem?_eq_none (by omega)];simp [hi]
end opn
section openings
variable {H:Type} {enc:TypeId×Value→H} {w:World} {base:Nat} {sp:Nat→Bool} {held:Bool}
theorem BX (n:Nat):Opn enc Tryz.prog w base sp held 59 Appoint.rp (fun _=>1) n:=by
 intro cs d ps h
 obtain ⟨m,ds,rfl,rfl,c0,_,d0,_,p0,rfl,rfl,h0,c1,_,d1,_,p1,rfl,rfl,h1,c2,_,d2,_,p2,rfl,rfl,h2,c3,_,d3,_,p3,rfl,rfl,h3,c4,_,d4,_,p4,rfl,rfl,h4,c5,_,d5,_,p5,rfl,rfl,h5,c6,_,d6,_,p6,rfl,rfl,h6,rfl,rfl⟩:=ke (fs:=_) Eh (by kernel_rfl) h
 obtain ⟨x0,rfl,_⟩:=(opn_int (by kernel_rfl)) m _ _ _ h0
 obtain ⟨x1,rfl,_⟩:=(opn_int (by kernel_rfl)) m _ _ _ h1
 obtain ⟨x2,rfl,_⟩:=(opn_int (by kernel_rfl)) m _ _ _ h2
 obtain ⟨x3,rfl,_⟩:=(opn_int (by kernel_rfl)) m _ _ _ h3
 obtain ⟨x4,rfl,_⟩:=(opn_int (by kernel_rfl)) m _ _ _ h4
 obtain ⟨x5,rfl,_⟩:=(opn_int (by kernel_rfl)) m _ _ _ h5
 obtain ⟨x6,rfl,_⟩:=(pq (by kernel_rfl)) m _ _ _ h6
 exact ⟨⟨x0,x1,x2,x3,x4,x5,x6⟩,rfl,bulk_one _⟩
theorem DM (n:Nat):Opn enc Tryz.prog w base sp held 169 Deputy.rp (fun _=>1) n:=by
 intro cs d ps h
 obtain ⟨m,ds,rfl,rfl,c0,_,d0,_,p0,rfl,rfl,h0,c1,_,d1,_,p1,rfl,rfl,h1,c2,_,d2,_,p2,rfl,rfl,h2,c3,_,d3,_,p3,rfl,rfl,h3,c4,_,d4,_,p4,rfl,rfl,h4,c5,_,d5,_,p5,rfl,rfl,h5,c6,_,d6,_,p6,rfl,rfl,h6,c7,_,d7,_,p7,rfl,rfl,h7,c8,_,d8,_,p8,rfl,rfl,h8,c9,_,d9,_,p9,rfl,rfl,h9,rfl,rfl⟩:=ke (fs:=_) Tryz.underlying169 (by kernel_rfl) h
 obtain ⟨x0,rfl,_⟩:=(opn_int (by kernel_rfl)) m _ _ _ h0
 obtain ⟨x1,rfl,_⟩:=(opn_int (by kernel_rfl)) m _ _ _ h1
 obtain ⟨x2,rfl,_⟩:=(opn_int (by kernel_rfl)) m _ _ _ h2
 obtain ⟨x3,rfl,_⟩:=(opn_int (by kernel_rfl)) m _ _ _ h3
 obtain ⟨x4,rfl,_⟩:=(opn_int (by kernel_rfl)) m _ _ _ h4
 obtain ⟨x5,rfl,_⟩:=(opn_int (by kernel_rfl)) m _ _ _ h5
 obtain ⟨x6,rfl,_⟩:=(opn_int (by kernel_rfl)) m _ _ _ h6
 obtain ⟨x7,rfl,_⟩:=(opn_int (by kernel_rfl)) m _ _ _ h7
 obtain ⟨x8,rfl,_⟩:=(opn_int (by kernel_rfl)) m _ _ _ h8
 obtain ⟨x9,rfl,_⟩:=(pq (by kernel_rfl)) m _ _ _ h9
 exact ⟨⟨x0,x1,x2,x3,x4,x5,x6,x7,x8,x9⟩,rfl,bulk_one _⟩
theorem AB (n:Nat):Opn enc Tryz.prog w base sp held 61 Interest.rp (fun _=>1) n:=by
 intro cs d ps h
 obtain ⟨m,ds,rfl,rfl,c0,_,d0,_,p0,rfl,rfl,h0,c1,_,d1,_,p1,rfl,rfl,h1,c2,_,d2,_,p2,rfl,rfl,h2,c3,_,d3,_,p3,rfl,rfl,h3,c4,_,d4,_,p4,rfl,rfl,h4,c5,_,d5,_,p5,rfl,rfl,h5,c6,_,d6,_,p6,rfl,rfl,h6,rfl,rfl⟩:=ke (fs:=_) FX (by kernel_rfl) h
 obtain ⟨x0,rfl,_⟩:=(opn_int (by kernel_rfl)) m _ _ _ h0
 obtain ⟨x1,rfl,_⟩:=(opn_int (by kernel_rfl)) m _ _ _ h1
 obtain ⟨x2,rfl,_⟩:=(opn_int (by kernel_rfl)) m _ _ _ h2
 obtain ⟨x3,rfl,_⟩:=(opn_int (by kernel_rfl)) m _ _ _ h3
 obtain ⟨x4,rfl,_⟩:=(opn_int (by kernel_rfl)) m _ _ _ h4
 obtain ⟨x5,rfl,_⟩:=(pq (by kernel_rfl)) m _ _ _ h5
 obtain ⟨x6,rfl,_⟩:=(pq (by kernel_rfl)) m _ _ _ h6
 exact ⟨⟨x0,x1,x2,x3,x4,x5,x6⟩,rfl,bulk_one _⟩
theorem DN (n:Nat):Opn enc Tryz.prog w base sp held 173 Budget.rp (fun _=>1) n:=by
 intro cs d ps h
 obtain ⟨m,ds,rfl,rfl,c0,_,d0,_,p0,rfl,rfl,h0,c1,_,d1,_,p1,rfl,rfl,h1,c2,_,d2,_,p2,rfl,rfl,h2,c3,_,d3,_,p3,rfl,rfl,h3,c4,_,d4,_,p4,rfl,rfl,h4,c5,_,d5,_,p5,rfl,rfl,h5,c6,_,d6,_,p6,rfl,rfl,h6,c7,_,d7,_,p7,rfl,rfl,h7,rfl,rfl⟩:=ke (fs:=_) Tryz.underlying173 (by kernel_rfl) h
 obtain ⟨x0,rfl,_⟩:=(opn_int (by kernel_rfl)) m _ _ _ h0
 obtain ⟨x1,rfl,_⟩:=(opn_int (by kernel_rfl)) m _ _ _ h1
 obtain ⟨x2,rfl,_⟩:=(opn_int (by kernel_rfl)) m _ _ _ h2
 obtain ⟨x3,rfl,_⟩:=(opn_int (by kernel_rfl)) m _ _ _ h3
 obtain ⟨x4,rfl,_⟩:=(opn_int (by kernel_rfl)) m _ _ _ h4
 obtain ⟨x5,rfl,_⟩:=(opn_int (by kernel_rfl)) m _ _ _ h5
 obtain ⟨x6,rfl,_⟩:=(opn_int (by kernel_rfl)) m _ _ _ h6
 obtain ⟨x7,rfl,_⟩:=(pq (by kernel_rfl)) m _ _ _ h7
 exact ⟨⟨x0,x1,x2,x3,x4,x5,x6,x7⟩,rfl,bulk_one _⟩
abbrev Expr.hold (x:Expr):Nat:=x.dep
theorem BW (n:Nat):Opn enc Tryz.prog w base sp held 66 Expr.rp Expr.hold n:=by
 induction n using Nat.strongRecOn with
 | _ n ih=>
 intro cs d ps h
 obtain ⟨m,ds,rfl,rfl,c0,_,d0,_,p0,rfl,rfl,h0,c1,_,d1,_,p1,rfl,rfl,h1,c2,_,d2,_,p2,rfl,rfl,h2,c3,_,d3,_,p3,rfl,rfl,h3,c4,_,d4,_,p4,rfl,rfl,h4,rfl,rfl⟩:=ke (fs:=_) Tryz.underlying66 (by kernel_rfl) h
 obtain ⟨x0,rfl,_⟩:=(opn_int (by kernel_rfl)) m _ _ _ h0
 obtain ⟨x1,rfl,_⟩:=(opn_int (by kernel_rfl)) m _ _ _ h1
 obtain ⟨x2,rfl,_⟩:=(opn_int (by kernel_rfl)) m _ _ _ h2
 obtain ⟨x3,rfl,_⟩:=(t6 (by kernel_rfl)) m _ _ _ h3
 obtain ⟨b4,k4,x4,rfl,o4,q4⟩:=opn_slice gg (by kernel_rfl) (by decide) (fun k hk=>ih k (by omega)) h4
 refine ⟨Expr.mk x0 x1 x2 x3 x4,⟨⟨b4,k4⟩,rfl,Expr.ok.of o4⟩,?_⟩
 rw [Eo] at q4
 simp only [Expr.hold,Expr.dep,YtngiefchigcphaaGreatDoor.Rows.uptoBulk,YtngiefchigcphaaGreatDoor.Rows.uptoBulkAll] at *
 omega
def Rule.hold (x:Rule):Nat:=Expr.hold x.Expr+1
theorem Gw (n:Nat):Opn enc Tryz.prog w base sp held 107 Rule.rp Rule.hold n:=by
 intro cs d ps h
 obtain ⟨m,ds,rfl,rfl,c0,_,d0,_,p0,rfl,rfl,h0,c1,_,d1,_,p1,rfl,rfl,h1,c2,_,d2,_,p2,rfl,rfl,h2,c3,_,d3,_,p3,rfl,rfl,h3,rfl,rfl⟩:=ke (fs:=_) Tryz.underlying107 (by kernel_rfl) h
 obtain ⟨x0,rfl,_⟩:=(t6 (by kernel_rfl)) m _ _ _ h0
 obtain ⟨x1,rfl,_⟩:=(opn_int (by kernel_rfl)) m _ _ _ h1
 obtain ⟨x2,rfl,_⟩:=(opn_int (by kernel_rfl)) m _ _ _ h2
 obtain ⟨x3,⟨r3,rfl,o3⟩,q3⟩:=BW m _ _ _ h3
 refine ⟨⟨x0,x1,x2,x3⟩,⟨⟨r3⟩,rfl,⟨o3⟩⟩,?_⟩
 simp only [Rule.hold,YtngiefchigcphaaGreatDoor.Rows.uptoBulk,YtngiefchigcphaaGreatDoor.Rows.uptoBulkAll]
 omega
def Policy.hold (x:Policy):Nat:=szL (fun _=>1) x.Kinds+szL (fun _=>1) x.Offices+szL Rule.hold x.Rules+Expr.hold x.Change+1
theorem DL (n:Nat):Opn enc Tryz.prog w base sp held 68 Policy.rp Policy.hold n:=by
 intro cs d ps h
 obtain ⟨m,ds,rfl,rfl,c0,_,d0,_,p0,rfl,rfl,h0,c1,_,d1,_,p1,rfl,rfl,h1,c2,_,d2,_,p2,rfl,rfl,h2,c3,_,d3,_,p3,rfl,rfl,h3,c4,_,d4,_,p4,rfl,rfl,h4,c5,_,d5,_,p5,rfl,rfl,h5,rfl,rfl⟩:=ke (fs:=_) Eg (by kernel_rfl) h
 obtain ⟨x0,rfl,_⟩:=(t6 (by kernel_rfl)) m _ _ _ h0
 obtain ⟨b1,k1,x1,rfl,o1,q1⟩:=opn_slice kV (by kernel_rfl) (by decide) (fun k _=>(t6 (by kernel_rfl)) k) h1
 obtain ⟨b2,k2,x2,rfl,o2,q2⟩:=opn_slice kV (by kernel_rfl) (by decide) (fun k _=>(t6 (by kernel_rfl)) k) h2
 obtain ⟨b3,k3,x3,rfl,o3,q3⟩:=opn_slice jV (by kernel_rfl) (by decide) (fun k _=>Gw k) h3
 obtain ⟨x4,⟨r4,rfl,o4⟩,q4⟩:=BW m _ _ _ h4
 obtain ⟨x5,rfl,_⟩:=(opn_int (by kernel_rfl)) m _ _ _ h5
 refine ⟨⟨x0,x1,x2,x3,x4,x5⟩,⟨⟨b1,k1,b2,k2,b3,k3,r4⟩,rfl,⟨o1,o2,o3,o4⟩⟩,?_⟩
 simp only [Policy.hold,YtngiefchigcphaaGreatDoor.Rows.uptoBulk,YtngiefchigcphaaGreatDoor.Rows.uptoBulkAll]
 omega
def Version.hold (x:Version):Nat:=Policy.hold x.Policy+1
theorem BV (n:Nat):Opn enc Tryz.prog w base sp held 70 Version.rp Version.hold n:=by
 intro cs d ps h
 obtain ⟨m,ds,rfl,rfl,c0,_,d0,_,p0,rfl,rfl,h0,c1,_,d1,_,p1,rfl,rfl,h1,c2,_,d2,_,p2,rfl,rfl,h2,c3,_,d3,_,p3,rfl,rfl,h3,rfl,rfl⟩:=ke (fs:=_) Tryz.underlying70 (by kernel_rfl) h
 obtain ⟨x0,rfl,_⟩:=(opn_int (by kernel_rfl)) m _ _ _ h0
 obtain ⟨x1,rfl,_⟩:=(opn_int (by kernel_rfl)) m _ _ _ h1
 obtain ⟨x2,rfl,_⟩:=(opn_int (by kernel_rfl)) m _ _ _ h2
 obtain ⟨x3,⟨r3,rfl,o3⟩,q3⟩:=DL m _ _ _ h3
 refine ⟨⟨x0,x1,x2,x3⟩,⟨⟨r3⟩,rfl,⟨o3⟩⟩,?_⟩
 simp only [Version.hold,YtngiefchigcphaaGreatDoor.Rows.uptoBulk,YtngiefchigcphaaGreatDoor.Rows.uptoBulkAll]
 omega
def Document.hold (x:Document):Nat:=szL (fun _=>1) x.Parties+szL (fun _=>1) x.Revokes+szL (fun _=>1) x.Needs+1
theorem AC (n:Nat):Opn enc Tryz.prog w base sp held 52 Document.rp Document.hold n:=by
 intro cs d ps h
 obtain ⟨m,ds,rfl,rfl,c0,_,d0,_,p0,rfl,rfl,h0,c1,_,d1,_,p1,rfl,rfl,h1,c2,_,d2,_,p2,rfl,rfl,h2,c3,_,d3,_,p3,rfl,rfl,h3,c4,_,d4,_,p4,rfl,rfl,h4,c5,_,d5,_,p5,rfl,rfl,h5,c6,_,d6,_,p6,rfl,rfl,h6,c7,_,d7,_,p7,rfl,rfl,h7,c8,_,d8,_,p8,rfl,rfl,h8,c9,_,d9,_,p9,rfl,rfl,h9,rfl,rfl⟩:=ke (fs:=_) Tryz.underlying52 (by kernel_rfl) h
 obtain ⟨x0,rfl,_⟩:=(opn_int (by kernel_rfl)) m _ _ _ h0
 obtain ⟨x1,rfl,_⟩:=(opn_int (by kernel_rfl)) m _ _ _ h1
 obtain ⟨x2,rfl,_⟩:=(opn_int (by kernel_rfl)) m _ _ _ h2
 obtain ⟨x3,rfl,_⟩:=(opn_int (by kernel_rfl)) m _ _ _ h3
 obtain ⟨x4,rfl,_⟩:=(opn_int (by kernel_rfl)) m _ _ _ h4
 obtain ⟨x5,rfl,_⟩:=(opn_int (by kernel_rfl)) m _ _ _ h5
 obtain ⟨b6,k6,x6,rfl,o6,q6⟩:=opn_slice eG (by kernel_rfl) (by decide) (fun k _=>(opn_int (by kernel_rfl)) k) h6
 obtain ⟨b7,k7,x7,rfl,o7,q7⟩:=opn_slice eG (by kernel_rfl) (by decide) (fun k _=>(opn_int (by kernel_rfl)) k) h7
 obtain ⟨b8,k8,x8,rfl,o8,q8⟩:=opn_slice eG (by kernel_rfl) (by decide) (fun k _=>(opn_int (by kernel_rfl)) k) h8
 obtain ⟨x9,rfl⟩:=Fb Tryz.underlying50 IY (by kernel_rfl) (by kernel_rfl) h9
 refine ⟨⟨x0,x1,x2,x3,x4,x5,x6,x7,x8,x9⟩,⟨⟨b6,k6,b7,k7,b8,k8⟩,rfl,⟨o6,o7,o8⟩⟩,?_⟩
 simp only [Document.hold,YtngiefchigcphaaGreatDoor.Rows.uptoBulk,YtngiefchigcphaaGreatDoor.Rows.uptoBulkAll]
 omega
theorem AD (n:Nat):Opn enc Tryz.prog w base sp held 181 Approval.rp (fun _=>1) n:=by
 intro cs d ps h
 obtain ⟨m,ds,rfl,rfl,c0,_,d0,_,p0,rfl,rfl,h0,c1,_,d1,_,p1,rfl,rfl,h1,c2,_,d2,_,p2,rfl,rfl,h2,c3,_,d3,_,p3,rfl,rfl,h3,c4,_,d4,_,p4,rfl,rfl,h4,c5,_,d5,_,p5,rfl,rfl,h5,c6,_,d6,_,p6,rfl,rfl,h6,c7,_,d7,_,p7,rfl,rfl,h7,rfl,rfl⟩:=ke (fs:=_) Tryz.underlying181 (by kernel_rfl) h
 obtain ⟨x0,rfl,_⟩:=(opn_int (by kernel_rfl)) m _ _ _ h0
 obtain ⟨x1,rfl,_⟩:=(opn_int (by kernel_rfl)) m _ _ _ h1
 obtain ⟨x2,rfl,_⟩:=(opn_int (by kernel_rfl)) m _ _ _ h2
 obtain ⟨x3,rfl,_⟩:=(opn_int (by kernel_rfl)) m _ _ _ h3
 obtain ⟨x4,rfl,_⟩:=(opn_int (by kernel_rfl)) m _ _ _ h4
 obtain ⟨x5,rfl,_⟩:=(opn_int (by kernel_rfl)) m _ _ _ h5
 obtain ⟨x6,rfl,_⟩:=(opn_int (by kernel_rfl)) m _ _ _ h6
 obtain ⟨x7,rfl,_⟩:=(pq (by kernel_rfl)) m _ _ _ h7
 exact ⟨⟨x0,x1,x2,x3,x4,x5,x6,x7⟩,rfl,bulk_one _⟩
def Register.hold (x:Register):Nat:=szL (fun _=>1) x.Appoints+szL (fun _=>1) x.Deputies+szL (fun _=>1) x.Interests+szL (fun _=>1) x.Budgets+szL Version.hold x.Versions+szL Document.hold x.Docs+szL (fun _=>1) x.Approvals+1
theorem opn_Register (n:Nat):Opn enc Tryz.prog w base sp held 30 Register.rp Register.hold n:=by
 intro cs d ps h
 obtain ⟨m,ds,rfl,rfl,c0,_,d0,_,p0,rfl,rfl,h0,c1,_,d1,_,p1,rfl,rfl,h1,c2,_,d2,_,p2,rfl,rfl,h2,c3,_,d3,_,p3,rfl,rfl,h3,c4,_,d4,_,p4,rfl,rfl,h4,c5,_,d5,_,p5,rfl,rfl,h5,c6,_,d6,_,p6,rfl,rfl,h6,rfl,rfl⟩:=ke (fs:=_) Ei (by kernel_rfl) h
 obtain ⟨b0,k0,x0,rfl,o0,q0⟩:=opn_slice lY (by kernel_rfl) (by decide) (fun k _=>BX k) h0
 obtain ⟨b1,k1,x1,rfl,o1,q1⟩:=opn_slice sJ (by kernel_rfl) (by decide) (fun k _=>DM k) h1
 obtain ⟨b2,k2,x2,rfl,o2,q2⟩:=opn_slice mJ (by kernel_rfl) (by decide) (fun k _=>AB k) h2
 obtain ⟨b3,k3,x3,rfl,o3,q3⟩:=opn_slice sI (by kernel_rfl) (by decide) (fun k _=>DN k) h3
 obtain ⟨b4,k4,x4,rfl,o4,q4⟩:=opn_slice lu (by kernel_rfl) (by decide) (fun k _=>BV k) h4
 obtain ⟨b5,k5,x5,rfl,o5,q5⟩:=opn_slice lB (by kernel_rfl) (by decide) (fun k _=>AC k) h5
 obtain ⟨b6,k6,x6,rfl,o6,q6⟩:=opn_slice sH (by kernel_rfl) (by decide) (fun k _=>AD k) h6
 refine ⟨⟨x0,x1,x2,x3,x4,x5,x6⟩,⟨⟨b0,k0,b1,k1,b2,k2,b3,k3,b4,k4,b5,k5,b6,k6⟩,rfl,⟨o0,o1,o2,o3,o4,o5,o6⟩⟩,?_⟩
 simp only [Register.hold,YtngiefchigcphaaGreatDoor.Rows.uptoBulk,YtngiefchigcphaaGreatDoor.Rows.uptoBulkAll]
 omega
end openings
theorem Iq {p:Policy} (h:Policy.hold p≤1048576):smP p:=by
 unfold Policy.hold Expr.hold at h
 have h1:=szL_len (f:=fun _:ByteArray=>1) (fun _=>Nat.le_refl _) p.Kinds
 have h2:=szL_len (f:=fun _:ByteArray=>1) (fun _=>Nat.le_refl _) p.Offices
 have h3:=szL_len (f:=Rule.hold) (fun x=>by unfold Rule.hold;omega) p.Rules
 refine ⟨by omega,fun r hr=>?_,by omega,by omega,by omega⟩
 have h4:=Aj (f:=Rule.hold) hr
 unfold Rule.hold Expr.hold at h4
 have:szL (fun x=>Rule.hold x) p.Rules=szL Rule.hold p.Rules:=rfl
 unfold Rule.hold Expr.hold at this h
 omega
theorem Ip {l:List Version} (h:szL Version.hold l≤1048576):smV l:=by
 have h1:=szL_len (f:=Version.hold) (fun x=>by unfold Version.hold;omega) l
 refine ⟨by omega,fun v hv=>Iq ?_⟩
 have h2:=Aj (f:=Version.hold) hv
 have h3:Policy.hold v.Policy≤Version.hold v:=by unfold Version.hold;omega
 omega
theorem smR_of {r:Register} (h:Register.hold r≤1048576):smR r:=by
 unfold Register.hold at h
 have h1:=szL_len (f:=fun _:Appoint=>1) (fun _=>Nat.le_refl _) r.Appoints
 have h2:=szL_len (f:=fun _:Deputy=>1) (fun _=>Nat.le_refl _) r.Deputies
 have h3:=szL_len (f:=fun _:Interest=>1) (fun _=>Nat.le_refl _) r.Interests
 have h4:=szL_len (f:=fun _:Budget=>1) (fun _=>Nat.le_refl _) r.Budgets
 have h5:=szL_len (f:=Document.hold) (fun x=>by unfold Document.hold;omega) r.Docs
 have h6:=szL_len (f:=fun _:Approval=>1) (fun _=>Nat.le_refl _) r.Approvals
 exact ⟨Ip (by omega),by omega,by omega,by omega,by omega,by omega,by omega⟩
end Go.Sg
namespace Go.Sg
def I8 (P:Program) (f:FuncId) (X:Cx) (v:Value) (cs:List Frame) (Φ : Machine→Prop):Prop:=
 X.M=[]∧∀ fr w',RowKit.Below X.w0.heap.size X.w0 w'→fr.fn=f→fr.leaving P w' (.returned v)→To P Φ (lone fr cs w')
theorem C0 {P:Program} {f:FuncId} {fn:Func} {c:Code} {n:Nat} {args:List Value} {h:HF} {v:Value} {w:World} (hp:Pre h [] w)
  (hf:P.funcs[f]? = some fn) (hb:fn.body=some c) (hn:fn.ntmps=n) (hle:Nat.ble args.length n=true)
  (t:∀ X:Cx,X.M=([]:LH).map (·.1)→X.h0=h→TT P (bodyFrame f) n [.code c] (I8 P f X v) (envArgs args) [] X h []):Calls P f args.toArray w fun e w'=>e=.returned v∧RowKit.Below w.heap.size w w':=by
 intro cs
 have hle:=Nat.le_of_ble_eq_true hle
 have henter:Frame.enter P f args.toArray .normal=(bodyFrame f).atR { tmps:=args.toArray++Array.replicate (n - args.length) undef,defers:=[] } [.code c]:=by
  simp [Frame.enter,Frame.atR,hf,hb,hn,bodyFrame]
 obtain ⟨m',s,w',fr,rfl,h1,h2,h3⟩:=t ⟨w,h,[]⟩ rfl rfl w (St.start hp) { tmps:=args.toArray++Array.replicate (n - args.length) undef,defers:=[] } cs
  (fun m=>∃ w' fr,m=lone fr cs w'∧RowKit.Below w.heap.size w w'∧fr.fn=f∧fr.leaving P w' (.returned v)) (by simp;omega) (oh _ _) rfl
  ⟨rfl,fun fr w' hb hfn hl=>.now ⟨w',fr,rfl,hb,hfn,hl⟩⟩
 refine ⟨.returned v,w',fr,⟨rfl,h1⟩,?_,h2,h3⟩
 rw [henter];exact s
section ending
variable {P:Program} {f:FuncId} {n:Nat} {k:List Item} {e:Env} {X:Cx} {h:HF} {L:LH} {fn:Func}
theorem nK {rs:List ResultVar} {v:Value} {hh:HF} (vs:List Value) (hf:P.funcs[f]? = some fn) (hr:fn.results=rs.toArray) (_:X.h0=hh) (hv:sV P e L rs vs) (hvv:retVal vs=v):
  TT P (bodyFrame f) n (.code .ret::k) (I8 P f X v) e [] X h L:=by
 intro w hw a cs Φ hn he hds hF
 exact .step (stepR_ret rfl) (hF.2 _ w (hw.below hF.1) rfl ⟨rfl,hds,rfl,fn,hf,hvv ▸ pY hr hv a he w hw⟩)
end ending
end Go.Sg
namespace Go.Sg
open Go.Proofs
set_option maxRecDepth 100000
theorem Fh {P:Program} {w:World} {sp:Nat→Bool} {m:Nat} {E:TypeId} {ps rs:Array TypeId} {vd:Bool} {c:List Value} {b:UInt8} {r:List UInt8} {p:List MemPlace} (hE:P.underlying E=some (.func ps rs vd))
  (h:DataW.trod (funcToken P) P w 0 sp true m E c=some (.held (b::r),p)):∃ f fn,c=[.func (.func f) #[] #[]]∧P.funcs[f]? = some fn∧P.funcNamed fn.name=some f∧fn.name.toUTF8.data.toList=b::r:=by
 cases m with
 | zero=>simp [DataW.trod] at h
 | succ m=>
  unfold DataW.trod at h
  rw [hE] at h
  split at h <;> try (simp_all;done)
  next fn fi ca _ _=>
   simp only [if_true,Option.some.injEq,Prod.mk.injEq,DataW.held.injEq] at h
   obtain ⟨f,g,e,h1,h2,h3⟩:=funcToken_tells h.1
   exact ⟨f,g,by rw [e],h1,h2,h3⟩
theorem H3 {P:Program} {k:FuncId} {g:Func} {f:FuncId} {fn:Func} {l:List UInt8} (hg:P.funcNamed g.name=some k) (hl:g.name.toUTF8.data.toList=l) (h2:P.funcNamed fn.name=some f) (h3:fn.name.toUTF8.data.toList=l):f=k:=by
 have:fn.name=g.name:=bytes_inj (h3.trans hl.symm)
 rw [this,hg] at h2
 exact (Option.some.inj h2).symm
theorem F5 {α : Type} {l:List α} {i:Nat} {x:α} (h:(l.drop i).take 1=[x]):l[i]? = some x:=by
 have:=congrArg (·[0]?) h
 simpa using this
theorem kinds_of {W:World} (hL:laidMetH Tryz.prog YtngiefchigcphaaGreatDoor.Rows.asofEveryUptoRow.laid W):Kinds (hOf W):=by
 obtain ⟨d, hd⟩ : ∃ d, (YtngiefchigcphaaGreatDoor.Rows.laid_signatory_policies_kinds : DataW Unit) = .iface "func table" d := ⟨_, rfl⟩
 obtain ⟨g,t,cs,fuel,p,hg,ht,hv,hr⟩:=hL.funcs (d:=d) (by rw [← hd];exact List.mem_cons_self ..)
 unfold World.var? at hv
 rw [hg] at hv
 obtain rfl:g=0:=Option.some.inj (hg.symm.trans (by kernel_rfl))
 obtain rfl:t=284:=Option.some.inj (ht.symm.trans (by kernel_rfl))
 obtain ⟨xs,m,_,hx,hl,hlen,hf⟩:=DataW.trod_array (n:=5) (e:=165) (by kernel_rfl) hr
 rw [show Tryz.prog.cellsOf 284=5 by kernel_rfl] at hl
 rw [show Tryz.prog.cellsOf 165=1 by kernel_rfl] at hf
 unfold YtngiefchigcphaaGreatDoor.Rows.laid_signatory_policies_kinds at hd
 cases hd
 simp only [DataW.funcsOut,DataW.funcsOutAll,Prod.mk.injEq] at hx
 match xs,hlen with
 | [x0,x1,x2,x3,x4],_=>
  simp only [List.map_cons,List.map_nil,beq_self_eq_true,if_true,DataW.agg.injEq,List.cons.injEq,and_true] at hx
  have key:∀ (i:Nat) (x:DataW (List UInt8)×List MemPlace) (b:UInt8) (r:List UInt8) (k:FuncId) (fk:Func),i < 5→[x0,x1,x2,x3,x4][i]? = some x→DataW.held (b::r)=x.1→Tryz.prog.funcNamed fk.name=some k→fk.name.toUTF8.data.toList=b::r→cs.toList[i]? = some (.func (.func k) #[] #[]):=by
   intro i x b r k fk hi hxi hb hk hn
   have h0:=hf i hi
   rw [hxi,Nat.mul_one] at h0
   obtain ⟨f,fn,e,_,h2,h3⟩:=Fh (P:=Tryz.prog) (E:=165) Tryz.underlying165 (h0.trans (show some x=some (DataW.held (b::r),x.2) by rw [hb]))
   obtain rfl:=H3 hk hn h2 h3
   exact F5 e
  obtain ⟨⟨e0,e1,e2,e3,e4⟩,_⟩:=hx
  have k0:=key 0 x0 _ _ 299 Tryz.f299 (by omega) rfl e0 (by kernel_rfl) (by kernel_rfl)
  have k1:=key 1 x1 _ _ 300 Tryz.f300 (by omega) rfl e1 (by kernel_rfl) (by kernel_rfl)
  have k2:=key 2 x2 _ _ 301 Tryz.f301 (by omega) rfl e2 (by kernel_rfl) (by kernel_rfl)
  have k3:=key 3 x3 _ _ 302 Tryz.f302 (by omega) rfl e3 (by kernel_rfl) (by kernel_rfl)
  have k4:=key 4 x4 _ _ 303 Tryz.f303 (by omega) rfl e4 (by kernel_rfl) (by kernel_rfl)
  have hcs:cs=kindsC.toArray:=by
   apply Array.toList_inj.1
   apply List.ext_getElem?
   intro i
   match i with
   | 0=>exact k0
   | 1=>exact k1
   | 2=>exact k2
   | 3=>exact k3
   | 4=>exact k4
   | i+5=>rw [List.getElem?_eq_none (by omega)];rfl
  simp only [Option.bind_some] at hv
  split at hv
  ·next c T fz e=>
   cases hv
   exact ⟨T,fz,by rw [← hcs];exact e⟩
  ·cases hv
end Go.Sg
namespace Go.Sg
open Go.ChangeShapes Go.WideShapes Go.RowKit
variable {H:Type} {enc:TypeId×Value→H} {P:Program}
theorem post_below {f:Func} {s:ChangeSpec} {apart fresh handsOn again:Bool} {W W':World} {args:Array Value} {v:Value} {ds gs:List (DataW H)} {before pa pv:List MemPlace}
  (hW:DataW.Whole enc P f.params.toList s.vars apart W args.toList ds gs before)
  (hres:∀ (b:Nat) (sp:Nat→Bool) (hd:Bool),DataW.TrodAll enc P W' b sp hd f.resultTypes.toList (v.resultList f.resultTypes.size) (s.fn H (ds++gs)).results [])
  (hargs:∀ sp:Nat→Bool,(∀ p∈before,sp p.block=true)→DataW.TrodAll enc P W' 0 sp true f.params.toList args.toList (s.fn H (ds++gs)).args pa)
  (hvars:∀ sp:Nat→Bool,(∀ p∈before,sp p.block=true)→DataW.TrodVars enc P W' sp s.vars (s.fn H (ds++gs)).vars pv)
  (hps:before=pa++pv) (hb:Below W.heap.size W W')
  (hok:∀ (j:Nat) (t:TypeId) (r:Value),f.resultTypes[j]? = some t→(v.resultList f.resultTypes.size)[j]? = some r→Value.okWide P W' .any 0 t r):
  s.post enc P f apart fresh handsOn again W args v W':=by
 have hlt:=hW.lt
 have hold:∀ p∈before,(fun b=>decide (b < W.heap.size)) p.block=true:=fun p hp=>by simpa using hlt p hp
 refine ⟨ds,gs,before,[],pa,pv,hW,hres _ _ _,hargs _ hold,hvars _ hold,World.keptBut_mono (fun p hp=>⟨hp,?_⟩) (hb.frame (·∈before)),fun _=>?_⟩
 ·rw [hps,List.mem_append] at hp
  exact Or.inr hp
 ·obtain ⟨_,_,_,_,_,hz,hn⟩:=hW
  refine ⟨hok,_,_,([]++pa)++pv,⟨[]++pa,pv,trodAll_append (hargs _ (fun _ _=>rfl)) (hres _ _ _),hvars _ (fun _ _=>rfl),rfl,?_,?_⟩,?_⟩
  ·intro b off hp
   have hp':MemPlace.cell b off∈before:=by rw [hps];simpa using hp
   rw [hb.frozen (p:=⟨b,off,none⟩) (hlt _ hp')]
   exact hz b off hp'
  ·intro ha
   have:=hn ha
   rw [hps] at this
   simpa using this
  ·intro p hp _
   rw [hps]
   simpa using hp
theorem stays {t:TypeId} (hl:laidOutB P=true) (hr:P.readableRec t=true) (hrow:decide (t < P.types.size)=true) {W W':World} {v:Value} {d:DataW H} {ps before:List MemPlace} (h:DataW.Trod enc P W 0 (fun _=>true) true t v d ps)
  (hb:Below W.heap.size W W') (hlt:∀ x∈before,x.block < W.heap.size) (hm:∀ x∈ps,x∈before) {sp:Nat→Bool} (hsp:∀ p∈before,sp p.block=true):DataW.Trod enc P W' 0 sp true t v d ps:=
 WideElems.Trod_stays hl hr (of_decide_eq_true hrow) h (fun x hx=>hb.same (hlt x (hm x hx))) (fun x hx=>hsp _ (hm x hx))
theorem okWide_intB {w:World} {r:Reach} {base:Nat} {t:TypeId} {v:Value} {k:IntKind} (ht:P.underlying t=some (.int k)) (h:Value.okWide P w r base t v):∃ n,v=.int k n∧k.has n:=by
 simp only [Value.okWide,ht,Cell.okWide] at h
 cases v <;> simp_all [Cell.ok]
theorem u8_has {n:Int} (h:IntKind.u8.has n):0≤n∧n < 256:=by
 have h1:(0:Int)≤n:=h.1
 have h2:n≤(255:Int):=h.2
 omega
end Go.Sg
namespace Go.Sg
section
variable {P:Program} {b:Frame} {n:Nat} {k:List Item} {F:List Frame→(Machine→Prop)→Prop} {e:Env} {ds:List Deferred} {X:Cx} {h:HF} {L:LH}
variable {ops:Array Oper} {l:List Oper} {d:Nat} {ty:TypeId} {pos:String} {af:Array Edge} {g:Option (Nat×Bool)}
theorem ID {s t:TypeId} {x:Operand} {S:TypeDesc} {kk:IntKind} {m:Int} (hS:P.underlying s=some S) (hT:P.underlying t=some (.int .i64)) (hx:e.ev x=.int kk m)
  (t':TO P b n ops l k F (upd e d (.int .i64 (IntKind.wrap .i64 m))) ds X h L)
  (hd:Nat.blt d n=true:=by rfl) (hg:guardB ops e ⟨some d,.convert s t x,ty,pos,af,g⟩=true:=by rfl):TO P b n ops (⟨some d,.convert s t x,ty,pos,af,g⟩::l) k F e ds X h L:=by
 refine oO _ rfl (fun w _=>?_) hd hg t'
 simp [execOp,convert,run_underlying hS,run_underlying hT,hx,Conv.intToInt]
theorem I4 {t u:TypeId} {x y:Operand} {a c:Int} (hx:e.ev x=.int .i64 a) (hy:e.ev y=.int .i64 c) (hc:c≠0)
  (t':TO P b n ops l k F (upd e d (.int .i64 (a.tmod c))) ds X h L)
  (hd:Nat.blt d n=true:=by rfl) (hg:guardB ops e ⟨some d,.binOp .rem t x y u,ty,pos,af,g⟩=true:=by rfl):TO P b n ops (⟨some d,.binOp .rem t x y u,ty,pos,af,g⟩::l) k F e ds X h L:=by
 refine oO _ rfl (fun w _=>?_) hd hg t'
 simp [execOp,hx,hy,eqGuard,binOp,Op.intDiv,hc]
end
end Go.Sg
namespace Go.Sg
open Go.Proofs
set_option maxRecDepth 100000
set_option linter.unusedVariables false
theorem ty120:tySz Tryz.prog 120=some (1,false):=by kernel_rfl
theorem ty203:tySz Tryz.prog 203=some (1,false):=by kernel_rfl
theorem ty159:tySz Tryz.prog 159=some (1,false):=by kernel_rfl
theorem ty212:tySz Tryz.prog 212=some (2,true):=by kernel_rfl
theorem ty31:tySz Tryz.prog 31=some (1,false):=by kernel_rfl
theorem ty215:tySz Tryz.prog 215=some (1,false):=by kernel_rfl
theorem ty3:tySz Tryz.prog 3=some (1,false):=by kernel_rfl
theorem zc212:zeroC Tryz.prog 212=some [.int .i64 0,.int .i64 0]:=by kernel_rfl
theorem bytes212:bytesOf Tryz.prog 212=some 16:=by kernel_rfl
theorem zc3:zeroC Tryz.prog 3=some [.int .i64 0]:=by kernel_rfl
theorem bytes3:bytesOf Tryz.prog 3=some 8:=by kernel_rfl
theorem zc35:zeroC Tryz.prog 35=some [.int .i64 0]:=by kernel_rfl
theorem ty35:tySz Tryz.prog 35=some (1,false):=by kernel_rfl
theorem zc277:zeroC Tryz.prog 277=some [.int .i64 0]:=by kernel_rfl
theorem ty277:tySz Tryz.prog 277=some (1,true):=by kernel_rfl
theorem GW:fldOf Tryz.prog 277 0=some 0:=by kernel_rfl
theorem ty148:tySz Tryz.prog 148=some (2,true):=by kernel_rfl
theorem ty146:tySz Tryz.prog 146=some (1,false):=by kernel_rfl
theorem ty145:tySz Tryz.prog 145=some (1,false):=by kernel_rfl
theorem ty149:tySz Tryz.prog 149=some (1,false):=by kernel_rfl
theorem ty61:tySz Tryz.prog 61=some (7,true):=by kernel_rfl
theorem ty24:tySz Tryz.prog 24=some (1,false):=by kernel_rfl
theorem ty4:tySz Tryz.prog 4=some (1,false):=by kernel_rfl
theorem ty26:tySz Tryz.prog 26=some (1,false):=by kernel_rfl
theorem ty34:tySz Tryz.prog 34=some (1,false):=by kernel_rfl
theorem ty46:tySz Tryz.prog 46=some (2,true):=by kernel_rfl
theorem ty90:tySz Tryz.prog 90=some (1,false):=by kernel_rfl
theorem ty77:tySz Tryz.prog 77=some (49,true):=by kernel_rfl
theorem zc148:zeroC Tryz.prog 148=some [.slice none 0 0,.int .i64 0]:=by kernel_rfl
theorem zc61:zeroC Tryz.prog 61=some [.int .i64 0,.int .i64 0,.int .i64 0,.int .i64 0,.int .i64 0,.bool false,.bool false]:=by kernel_rfl
theorem zc145:zeroC Tryz.prog 145=some [.map none]:=by kernel_rfl
theorem zc120:zeroC Tryz.prog 120=some [.map none]:=by kernel_rfl
theorem zc146:zeroC Tryz.prog 146=some [.chan none]:=by kernel_rfl
theorem zc149:zeroC Tryz.prog 149=some [.nilFunc]:=by kernel_rfl
theorem zc34:zeroC Tryz.prog 34=some [.slice none 0 0]:=by kernel_rfl
theorem zc46:zeroC Tryz.prog 46=some [.int .i64 0,.int .i64 0]:=by kernel_rfl
theorem zc90:zeroC Tryz.prog 90=some [.nilFunc]:=by kernel_rfl
theorem zc31:zeroC Tryz.prog 31=some [.slice none 0 0]:=by kernel_rfl
theorem zc77:zeroC Tryz.prog 77=some (.slice none 0 0::.slice none 0 0::.slice none 0 0::.slice none 0 0::.slice none 0 0::.slice none 0 0::.slice none 0 0::.int .i64 0::.int .i64 0::.int .i64 0::.int .i64 0::.int .i64 0::.int .i64 0::.slice none 0 0::.slice none 0 0::.slice none 0 0::.int .u8 0::.int .u8 0::.int .u8 0::.int .u8 0::.int .u8 0::.int .u8 0::.int .u8 0::.int .u8 0::.int .u8 0::.int .u8 0::.int .u8 0::.int .u8 0::.int .u8 0::.int .u8 0::.int .u8 0::.int .u8 0::.int .u8 0::.int .u8 0::.int .u8 0::.int .u8 0::.int .u8 0::.int .u8 0::.int .u8 0::.int .u8 0::.int .u8 0::.int .u8 0::.int .u8 0::.int .u8 0::.int .u8 0::.int .u8 0::.int .u8 0::.int .u8 0::.int .i64 0::[]):=by kernel_rfl
theorem zv4:zeroV Tryz.prog 4=some (.bool false):=by kernel_rfl
theorem zv24:zeroV Tryz.prog 24=some (.slice none 0 0):=by kernel_rfl
theorem zv148:zeroV Tryz.prog 148=some (.agg (List.toArray [.slice none 0 0,.int .i64 0])):=by kernel_rfl
theorem bytes61:bytesOf Tryz.prog 61=some 48:=by kernel_rfl
theorem bytes46:bytesOf Tryz.prog 46=some 16:=by kernel_rfl
theorem bytes148:bytesOf Tryz.prog 148=some 32:=by kernel_rfl
theorem yo:fldOf Tryz.prog 148 0=some 0:=by kernel_rfl
theorem us:fldOf Tryz.prog 148 1=some 1:=by kernel_rfl
theorem nD:fldOf Tryz.prog 61 0=some 0:=by kernel_rfl
theorem mz:fldOf Tryz.prog 61 3=some 3:=by kernel_rfl
theorem oU:fldOf Tryz.prog 61 4=some 4:=by kernel_rfl
theorem uf:fldOf Tryz.prog 61 5=some 5:=by kernel_rfl
theorem wy:fldOf Tryz.prog 46 0=some 0:=by kernel_rfl
theorem uk:fldOf Tryz.prog 46 1=some 1:=by kernel_rfl
theorem yp:fldOf Tryz.prog 133 1=some 1:=by kernel_rfl
theorem AQ:fldOf Tryz.prog 59 6=some 6:=by kernel_rfl
theorem oV:fldOf Tryz.prog 59 0=some 0:=by kernel_rfl
theorem qp:fldOf Tryz.prog 59 1=some 1:=by kernel_rfl
theorem uh:fldOf Tryz.prog 59 2=some 2:=by kernel_rfl
theorem wu:fldOf Tryz.prog 59 3=some 3:=by kernel_rfl
theorem ug:fldOf Tryz.prog 59 4=some 4:=by kernel_rfl
theorem sf:fldOf Tryz.prog 59 5=some 5:=by kernel_rfl
theorem ty59:tySz Tryz.prog 59=some (7,true):=by kernel_rfl
theorem zc59:zeroC Tryz.prog 59=some [.int .i64 0,.int .i64 0,.int .i64 0,.int .i64 0,.int .i64 0,.int .i64 0,.bool false]:=by kernel_rfl
theorem pI:fldOf Tryz.prog 169 0=some 0:=by kernel_rfl
theorem ur:fldOf Tryz.prog 169 1=some 1:=by kernel_rfl
theorem CO:fldOf Tryz.prog 169 2=some 2:=by kernel_rfl
theorem uq:fldOf Tryz.prog 169 4=some 4:=by kernel_rfl
theorem uo:fldOf Tryz.prog 169 5=some 5:=by kernel_rfl
theorem CN:fldOf Tryz.prog 169 6=some 6:=by kernel_rfl
theorem CM:fldOf Tryz.prog 169 7=some 7:=by kernel_rfl
theorem CL:fldOf Tryz.prog 169 9=some 9:=by kernel_rfl
theorem pH:fldOf Tryz.prog 169 3=some 3:=by kernel_rfl
theorem un:fldOf Tryz.prog 169 8=some 8:=by kernel_rfl
theorem ty169:tySz Tryz.prog 169=some (10,true):=by kernel_rfl
theorem zc169:zeroC Tryz.prog 169=some [.int .i64 0,.int .i64 0,.int .i64 0,.int .i64 0,.int .i64 0,.int .i64 0,.int .i64 0,.int .i64 0,.int .i64 0,.bool false]:=by kernel_rfl
theorem se:fldOf Tryz.prog 61 1=some 1:=by kernel_rfl
theorem wq:fldOf Tryz.prog 61 2=some 2:=by kernel_rfl
theorem CK:fldOf Tryz.prog 173 7=some 7:=by kernel_rfl
theorem oe:fldOf Tryz.prog 173 0=some 0:=by kernel_rfl
theorem yn:fldOf Tryz.prog 173 1=some 1:=by kernel_rfl
theorem ym:fldOf Tryz.prog 173 2=some 2:=by kernel_rfl
theorem yl:fldOf Tryz.prog 173 3=some 3:=by kernel_rfl
theorem yk:fldOf Tryz.prog 173 4=some 4:=by kernel_rfl
theorem um:fldOf Tryz.prog 173 5=some 5:=by kernel_rfl
theorem ul:fldOf Tryz.prog 173 6=some 6:=by kernel_rfl
theorem ty173:tySz Tryz.prog 173=some (8,true):=by kernel_rfl
theorem zc173:zeroC Tryz.prog 173=some [.int .i64 0,.int .i64 0,.int .i64 0,.int .i64 0,.int .i64 0,.int .i64 0,.int .i64 0,.bool false]:=by kernel_rfl
theorem ty285:tySz Tryz.prog 285=some (1,false):=by kernel_rfl
theorem ty66:tySz Tryz.prog 66=some (5,true):=by kernel_rfl
theorem zc258:zeroC Tryz.prog 258=some [.int .i64 0,.int .i64 0,.int .i64 0,.string (⟨#[]⟩:ByteArray),.slice none 0 0,.int .i64 0]:=by kernel_rfl
theorem dF:fldOf Tryz.prog 66 4=some 4:=by kernel_rfl
theorem ty64:tySz Tryz.prog 64=some (1,false):=by kernel_rfl
theorem zc66:zeroC Tryz.prog 66=some [.int .i64 0,.int .i64 0,.int .i64 0,.string (⟨#[]⟩:ByteArray),.slice none 0 0]:=by kernel_rfl
theorem ty258:tySz Tryz.prog 258=some (6,true):=by kernel_rfl
theorem fC:fldOf Tryz.prog 68 3=some 3:=by kernel_rfl
theorem ty63:tySz Tryz.prog 63=some (1,false):=by kernel_rfl
theorem ty107:tySz Tryz.prog 107=some (8,true):=by kernel_rfl
theorem zc107:zeroC Tryz.prog 107=some [.string (⟨#[]⟩:ByteArray),.int .i64 0,.int .i64 0,.int .i64 0,.int .i64 0,.int .i64 0,.string (⟨#[]⟩:ByteArray),.slice none 0 0]:=by kernel_rfl
theorem kn:fldOf Tryz.prog 107 3=some 3:=by kernel_rfl
theorem bytes66:bytesOf Tryz.prog 66=some 64:=by kernel_rfl
theorem lN:fldOf Tryz.prog 68 4=some 4:=by kernel_rfl
theorem jO:fldOf Tryz.prog 68 2=some 2:=by kernel_rfl
theorem ty62:tySz Tryz.prog 62=some (1,false):=by kernel_rfl
theorem kO:fldOf Tryz.prog 68 1=some 1:=by kernel_rfl
theorem ty68:tySz Tryz.prog 68=some (10,true):=by kernel_rfl
theorem GX:fldOf Tryz.prog 258 1=some 5:=by kernel_rfl
theorem kP:fldOf Tryz.prog 66 0=some 0:=by kernel_rfl
theorem ty9:tySz Tryz.prog 9=some (1,false):=by kernel_rfl
theorem wp:fldOf Tryz.prog 68 0=some 0:=by kernel_rfl
theorem li:fldOf Tryz.prog 258 0=some 0:=by kernel_rfl
theorem my:fldOf Tryz.prog 66 3=some 3:=by kernel_rfl
theorem ka:fldOf Tryz.prog 66 1=some 1:=by kernel_rfl
theorem sd:fldOf Tryz.prog 68 5=some 9:=by kernel_rfl
theorem ut:fldOf Tryz.prog 107 0=some 0:=by kernel_rfl
theorem og:fldOf Tryz.prog 107 2=some 2:=by kernel_rfl
theorem zc64:zeroC Tryz.prog 64=some [.slice none 0 0]:=by kernel_rfl
theorem ty165:tySz Tryz.prog 165=some (1,false):=by kernel_rfl
theorem mU:fldOf Tryz.prog 66 2=some 2:=by kernel_rfl
theorem zc68:zeroC Tryz.prog 68=some [.string (⟨#[]⟩:ByteArray),.slice none 0 0,.slice none 0 0,.slice none 0 0,.int .i64 0,.int .i64 0,.int .i64 0,.string (⟨#[]⟩:ByteArray),.slice none 0 0,.int .i64 0]:=by kernel_rfl
theorem rQ:fldOf Tryz.prog 107 1=some 1:=by kernel_rfl
theorem bytes107:bytesOf Tryz.prog 107=some 96:=by kernel_rfl
theorem zc4:zeroC Tryz.prog 4=some [.bool false]:=by kernel_rfl
theorem ty70:tySz Tryz.prog 70=some (13,true):=by kernel_rfl
theorem zc70:zeroC Tryz.prog 70=some [.int .i64 0,.int .i64 0,.int .i64 0,.string (⟨#[]⟩:ByteArray),.slice none 0 0,.slice none 0 0,.slice none 0 0,.int .i64 0,.int .i64 0,.int .i64 0,.string (⟨#[]⟩:ByteArray),.slice none 0 0,.int .i64 0]:=by kernel_rfl
theorem oT:fldOf Tryz.prog 70 0=some 0:=by kernel_rfl
theorem ue:fldOf Tryz.prog 70 1=some 1:=by kernel_rfl
theorem ud:fldOf Tryz.prog 70 2=some 2:=by kernel_rfl
theorem qo:fldOf Tryz.prog 70 3=some 3:=by kernel_rfl
theorem zc178:zeroC Tryz.prog 178=some [.slice none 0 0,.map none]:=by kernel_rfl
theorem ty178:tySz Tryz.prog 178=some (2,true):=by kernel_rfl
theorem ty52:tySz Tryz.prog 52=some (41,true):=by kernel_rfl
theorem zc52:zeroC Tryz.prog 52=some (.int .i64 0::.int .i64 0::.int .i64 0::.int .i64 0::.int .i64 0::.int .i64 0::.slice none 0 0::.slice none 0 0::.slice none 0 0::.int .u8 0::.int .u8 0::.int .u8 0::.int .u8 0::.int .u8 0::.int .u8 0::.int .u8 0::.int .u8 0::.int .u8 0::.int .u8 0::.int .u8 0::.int .u8 0::.int .u8 0::.int .u8 0::.int .u8 0::.int .u8 0::.int .u8 0::.int .u8 0::.int .u8 0::.int .u8 0::.int .u8 0::.int .u8 0::.int .u8 0::.int .u8 0::.int .u8 0::.int .u8 0::.int .u8 0::.int .u8 0::.int .u8 0::.int .u8 0::.int .u8 0::.int .u8 0::[]):=by kernel_rfl
theorem CJ:fldOf Tryz.prog 178 1=some 1:=by kernel_rfl
theorem ty176:tySz Tryz.prog 176=some (1,false):=by kernel_rfl
theorem kb:fldOf Tryz.prog 52 0=some 0:=by kernel_rfl
theorem oW:fldOf Tryz.prog 52 1=some 1:=by kernel_rfl
theorem uj:fldOf Tryz.prog 52 2=some 2:=by kernel_rfl
theorem ui:fldOf Tryz.prog 52 3=some 3:=by kernel_rfl
theorem wx:fldOf Tryz.prog 52 4=some 4:=by kernel_rfl
theorem sj:fldOf Tryz.prog 52 5=some 5:=by kernel_rfl
theorem wv:fldOf Tryz.prog 52 6=some 6:=by kernel_rfl
theorem si:fldOf Tryz.prog 52 7=some 7:=by kernel_rfl
theorem sg:fldOf Tryz.prog 52 8=some 8:=by kernel_rfl
theorem zv3:zeroV Tryz.prog 3=some (.int .i64 0):=by kernel_rfl
theorem pG:fldOf Tryz.prog 181 0=some 0:=by kernel_rfl
theorem CI:fldOf Tryz.prog 181 1=some 1:=by kernel_rfl
theorem CH:fldOf Tryz.prog 181 2=some 2:=by kernel_rfl
theorem CG:fldOf Tryz.prog 181 3=some 3:=by kernel_rfl
theorem CE:fldOf Tryz.prog 181 4=some 4:=by kernel_rfl
theorem CD:fldOf Tryz.prog 181 5=some 5:=by kernel_rfl
theorem CC:fldOf Tryz.prog 181 6=some 6:=by kernel_rfl
theorem ty181:tySz Tryz.prog 181=some (8,true):=by kernel_rfl
theorem zc181:zeroC Tryz.prog 181=some [.int .i64 0,.int .i64 0,.int .i64 0,.int .i64 0,.int .i64 0,.int .i64 0,.int .i64 0,.bool false]:=by kernel_rfl
theorem nE:fldOf Tryz.prog 30 0=some 0:=by kernel_rfl
theorem ty22:tySz Tryz.prog 22=some (1,false):=by kernel_rfl
theorem wB:fldOf Tryz.prog 30 1=some 1:=by kernel_rfl
theorem ty23:tySz Tryz.prog 23=some (1,false):=by kernel_rfl
theorem mV:fldOf Tryz.prog 30 2=some 2:=by kernel_rfl
theorem wA:fldOf Tryz.prog 30 3=some 3:=by kernel_rfl
theorem ty25:tySz Tryz.prog 25=some (1,false):=by kernel_rfl
theorem mA:fldOf Tryz.prog 30 4=some 4:=by kernel_rfl
theorem lm:fldOf Tryz.prog 30 5=some 5:=by kernel_rfl
theorem ty27:tySz Tryz.prog 27=some (1,false):=by kernel_rfl
theorem wz:fldOf Tryz.prog 30 6=some 6:=by kernel_rfl
theorem ty28:tySz Tryz.prog 28=some (1,false):=by kernel_rfl
theorem ty30:tySz Tryz.prog 30=some (7,true):=by kernel_rfl
theorem mw:fldOf Tryz.prog 77 1=some 7:=by kernel_rfl
theorem qn:fldOf Tryz.prog 77 0=some 0:=by kernel_rfl
theorem ty101:tySz Tryz.prog 101=some (1,false):=by kernel_rfl
theorem ty133:tySz Tryz.prog 133=some (2,true):=by kernel_rfl
theorem zc133:zeroC Tryz.prog 133=some [.int .i64 0,.int .i64 0]:=by kernel_rfl
theorem yq:fldOf Tryz.prog 133 0=some 0:=by kernel_rfl
theorem G0:fldOf Tryz.prog 164 1=some 1:=by kernel_rfl
theorem ty100:tySz Tryz.prog 100=some (1,false):=by kernel_rfl
theorem GZ:fldOf Tryz.prog 164 2=some 2:=by kernel_rfl
theorem ty164:tySz Tryz.prog 164=some (3,true):=by kernel_rfl
theorem zc261:zeroC Tryz.prog 261=some [.nilFunc]:=by kernel_rfl
theorem ty261:tySz Tryz.prog 261=some (1,false):=by kernel_rfl
theorem G9:fldOf Tryz.prog 164 0=some 0:=by kernel_rfl
theorem zc227:zeroC Tryz.prog 227=some [.nilFunc,.nilFunc,.nilFunc,.nilFunc,.nilFunc]:=by kernel_rfl
theorem ty226:tySz Tryz.prog 226=some (1,false):=by kernel_rfl
theorem ty227:tySz Tryz.prog 227=some (5,true):=by kernel_rfl
theorem zc164:zeroC Tryz.prog 164=some [.int .i64 0,.slice none 0 0,.slice none 0 0]:=by kernel_rfl
theorem zv141:zeroV Tryz.prog 141=some (.nilFunc):=by kernel_rfl
theorem H5:fldOf Tryz.prog 61 6=some 6:=by kernel_rfl
theorem ty205:tySz Tryz.prog 205=some (1,false):=by kernel_rfl
theorem zc207:zeroC Tryz.prog 207=some [.int .i64 0,.int .i64 0,.bool false]:=by kernel_rfl
theorem zv61:zeroV Tryz.prog 61=some (.agg (List.toArray [.int .i64 0,.int .i64 0,.int .i64 0,.int .i64 0,.int .i64 0,.bool false,.bool false])):=by kernel_rfl
theorem eqg61:Tryz.prog.eqGuardType Tryz.prog.depth 61=false:=by kernel_rfl
theorem zc205:zeroC Tryz.prog 205=some [.map none]:=by kernel_rfl
theorem ty207:tySz Tryz.prog 207=some (3,true):=by kernel_rfl
theorem AP:fldOf Tryz.prog 77 2=some 48:=by kernel_rfl
theorem zv70:zeroV Tryz.prog 70=some (.agg (List.toArray [.int .i64 0,.int .i64 0,.int .i64 0,.string (⟨#[]⟩:ByteArray),.slice none 0 0,.slice none 0 0,.slice none 0 0,.int .i64 0,.int .i64 0,.int .i64 0,.string (⟨#[]⟩:ByteArray),.slice none 0 0,.int .i64 0])):=by kernel_rfl
theorem zc26:zeroC Tryz.prog 26=some [.slice none 0 0]:=by kernel_rfl
theorem bytes70:bytesOf Tryz.prog 70=some 184:=by kernel_rfl
theorem bytes68:bytesOf Tryz.prog 68=some 160:=by kernel_rfl
theorem bytes133:bytesOf Tryz.prog 133=some 16:=by kernel_rfl
theorem zv59:zeroV Tryz.prog 59=some (.agg (List.toArray [.int .i64 0,.int .i64 0,.int .i64 0,.int .i64 0,.int .i64 0,.int .i64 0,.bool false])):=by kernel_rfl
theorem GY:fldOf Tryz.prog 212 0=some 0:=by kernel_rfl
theorem zc101:zeroC Tryz.prog 101=some [.slice none 0 0]:=by kernel_rfl
theorem bytes101:bytesOf Tryz.prog 101=some 24:=by kernel_rfl
theorem bytes4:bytesOf Tryz.prog 4=some 1:=by kernel_rfl
theorem zc30:zeroC Tryz.prog 30=some [.slice none 0 0,.slice none 0 0,.slice none 0 0,.slice none 0 0,.slice none 0 0,.slice none 0 0,.slice none 0 0]:=by kernel_rfl
theorem zc9:zeroC Tryz.prog 9=some [.string (⟨#[]⟩:ByteArray)]:=by kernel_rfl
theorem eqg46:Tryz.prog.eqGuardType Tryz.prog.depth 46=false:=by kernel_rfl
theorem bytes59:bytesOf Tryz.prog 59=some 56:=by kernel_rfl
def pu (x:fT) (h:HF) (vs:List Go.Value):Prop:=∃ (r0:vg),vs=[.agg (fT.cells x r0).toArray]∧fT.ok h x r0
theorem lF (x:fT) (h:HF) (vs:List Go.Value) (e:pu x h vs):vs.length=1:=by
 obtain ⟨_,e,_⟩:=e;rw [e];rfl
def xG (x:Span) (h:HF) (vs:List Go.Value):Prop:=vs=[.agg (Span.cells x).toArray]
theorem AK (x:Span) (h:HF) (vs:List Go.Value) (e:xG x h vs):vs.length=1:=by
 rw [e];rfl
def lV (x:Holder) (h:HF) (vs:List Go.Value):Prop:=vs=[.agg (Holder.cells x).toArray]
theorem nV (x:Holder) (h:HF) (vs:List Go.Value) (e:lV x h vs):vs.length=1:=by
 rw [e];rfl
def qf (x:Interest) (h:HF) (vs:List Go.Value):Prop:=vs=[.agg (Interest.cells x).toArray]
theorem uQ (x:Interest) (h:HF) (vs:List Go.Value) (e:qf x h vs):vs.length=1:=by
 rw [e];rfl
def nm (x:(Int×Version)) (h:HF) (vs:List Go.Value):Prop:=∃ (r0:oo),vs=[.int .i64 x.1,.agg (Version.cells x.2 r0).toArray]∧Version.ok h x.2 r0
theorem sD (x:(Int×Version)) (h:HF) (vs:List Go.Value) (e:nm x h vs):vs.length=2:=by
 obtain ⟨_,e,_⟩:=e;rw [e];rfl
theorem Hb (a b:Span) (w:World):(Op.equal 46 (Span.enc a) (Span.enc b)).run Tryz.prog w=.ok (decide (a=b)) w:=
 wl zu (by kernel_rfl) (by kernel_rfl) (by rw [Bool.eq_iff_iff];cases a;cases b;simp [eqv,nth,Span.cells]) w
theorem AR (a b:Interest) (w:World):(Op.equal 61 (Interest.enc a) (Interest.enc b)).run Tryz.prog w=.ok (decide (a=b)) w:=
 wl FX (by kernel_rfl) (by kernel_rfl) (by rw [Bool.eq_iff_iff];cases a;cases b;simp [eqv,nth,Interest.cells]) w
theorem AS (a b:cL) (w:World):(Op.equal 207 (cL.enc a) (cL.enc b)).run Tryz.prog w=.ok (decide (a=b)) w:=
 wl Ef (by kernel_rfl) (by kernel_rfl) (by rw [Bool.eq_iff_iff];cases a;cases b;simp [eqv,nth,cL.cells]) w
theorem pf:sF Tryz.prog 207 cL.enc:=B7 Ef (fun e a w=>wX e Ef (by kernel_rfl) w) AS (fun a=>by
 show Instr.sameBits (9999+1) _ _=true
 simp [Instr.sameBits,cL.enc,cL.cells])
theorem Fl (a b:OSeat) (w:World):(Op.equal 212 (OSeat.enc a) (OSeat.enc b)).run Tryz.prog w=.ok (decide (a=b)) w:=
 wl Ee (by kernel_rfl) (by kernel_rfl) (by rw [Bool.eq_iff_iff];cases a;cases b;simp [eqv,nth,OSeat.cells]) w
theorem tj:sF Tryz.prog 212 OSeat.enc:=B7 Ee (fun e a w=>wX e Ee (by kernel_rfl) w) Fl (fun a=>by
 show Instr.sameBits (9999+1) _ _=true
 simp [Instr.sameBits,OSeat.enc,OSeat.cells])
theorem mixed:Tryz.prog.follows .mixedOrders=true:=by kernel_rfl
end Go.Sg
namespace Go.Sg
open Go.Proofs
set_option maxHeartbeats 2000000
set_option maxRecDepth 100000
set_option linter.unusedVariables false
theorem iP (h:HF) (dN:Int) (low:Int) (high:Int)  : Ret Tryz.prog 148 [I dN,I low,I high] h (.bool (cv dN low high)):=by
 refine aw Tryz.func148 U Tryz.ntmps148 U fun X hM hX=>?_
 have hs0:cv dN low high=cv dN low high:=rfl
 refine sr (an (sr (aa (aa (aF U (aa ?_))))))
 refine tq 4 [(14,.bool (decide (low≤dN)&&decide (dN≤high)))] (fun hk1=>?_) (fun e=>?_)
 ·refine au 10 U (fun c1=>?_) (fun c1=>?_)
  ·refine aa (aa (aF U (ae U ?_)))
   exact hk1 _ ⟨(cb (cY c1)),trivial⟩
  ·refine kq (bY (ae U ?_))
   exact hk1 _ ⟨(cb (cZ c1)),trivial⟩
 refine an ?_
 exact ar [.bool (decide (low≤dN)&&decide (dN≤high))] Tryz.func148 U hX rd (cs hs0)
theorem ly (h:HF) (dN:Int)  : Ret Tryz.prog 89 [I dN] h (.bool (dM dN)):=by
 refine aw Tryz.func89 U Tryz.ntmps89 U fun X hM hX=>?_
 have hs0:dM dN=dM dN:=rfl
 refine sr (an (sr (aa (aA (v:=.bool (cv dN 0 31)) zt (iP h dN 0 31 ) U (an ?_)))))
 exact ar [.bool (cv dN 0 31)] Tryz.func89 U hX rd (cs hs0)
theorem jt (h:HF) (dN:Int)  : Ret Tryz.prog 90 [I dN] h (.bool (bH dN)):=by
 refine aw Tryz.func90 U Tryz.ntmps90 U fun X hM hX=>?_
 have hs0:bH dN=bH dN:=rfl
 refine sr (an (sr (aa (aA (v:=.bool (cv dN 0 1099511627775)) zt (iP h dN 0 1099511627775 ) U (an ?_)))))
 exact ar [.bool (cv dN 0 1099511627775)] Tryz.func90 U hX rd (cs hs0)
theorem nr (h:HF) (dN:Int)  : Ret Tryz.prog 168 [I dN] h (.bool (fq dN)):=by
 refine aw Tryz.func168 U Tryz.ntmps168 U fun X hM hX=>?_
 have hs0:fq dN=fq dN:=rfl
 refine sr (an (sr (aa (aA (v:=.bool (cv dN 0 63)) zt (iP h dN 0 63 ) U (an ?_)))))
 exact ar [.bool (cv dN 0 63)] Tryz.func168 U hX rd (cs hs0)
theorem uN (h:HF) (x:Appoint)  : Ret Tryz.prog 99 [.agg (Appoint.cells x).toArray] h (.bool (jf x)):=by
 refine aw Tryz.func99 U Tryz.ntmps99 U fun X hM hX=>?_
 have hs0:jf x=jf x:=rfl
 refine sr (dC (fun b1=>an (sr (bi (an (ad (sr (ay AQ U (aL 0 ty4 U U U (ac ?_))))))))))
 refine aB U (fun c1=>?_) (fun c1=>?_)
 ·have hs1:=hs0.trans (bt c1)
  refine ah (bi (an (sr (ay oV U (aL 0 ty3 U U U (aA (v:=.bool (cv x.No 0 1048576)) zt (iP h x.No 0 1048576 ) U (aa ?_)))))))
  refine tq 4 [(1,Q b1),(3,I 0),(4,I 0),(14,.bool ((cv x.No 0 1048576)&&(bH x.At)))] (fun hk1=>?_) (fun e=>?_)
  ·refine au 10 U (fun c2=>?_) (fun c2=>?_)
   ·refine ay qp U (aL 0 ty3 U U U (aA (v:=.bool (bH x.At)) Bq (jt h x.At ) U (ae U ?_)))
    exact hk1 _ ⟨U,U,U,(cb (cY c2)),trivial⟩
   ·refine kq (bY (ae U ?_))
    exact hk1 _ ⟨U,U,U,(cb (cZ c2)),trivial⟩
  refine aa ?_
  refine tq 4 [(1,Q b1),(3,I 0),(4,I 0),(19,.bool (((cv x.No 0 1048576)&&(bH x.At))&&(bH x.Known)))] (fun hk2=>?_) (fun e=>?_)
  ·refine au 15 U (fun c3=>?_) (fun c3=>?_)
   ·refine ay uh U (aL 0 ty3 U U U (aA (v:=.bool (bH x.Known)) Bq (jt h x.Known ) U (ae U ?_)))
    exact hk2 _ ⟨U,U,U,(cb (cY c3)),trivial⟩
   ·refine kq (bY (ae U ?_))
    exact hk2 _ ⟨U,U,U,(cb (cZ c3)),trivial⟩
  refine aa ?_
  refine tq 4 [(1,Q b1),(3,I 0),(4,I 0),(24,.bool ((((cv x.No 0 1048576)&&(bH x.At))&&(bH x.Known))&&(dM x.Office)))] (fun hk3=>?_) (fun e=>?_)
  ·refine au 20 U (fun c4=>?_) (fun c4=>?_)
   ·refine ay wu U (aL 0 ty3 U U U (aA (v:=.bool (dM x.Office)) Tryz.call89 (ly h x.Office ) U (ae U ?_)))
    exact hk3 _ ⟨U,U,U,(cb (cY c4)),trivial⟩
   ·refine kq (bY (ae U ?_))
    exact hk3 _ ⟨U,U,U,(cb (cZ c4)),trivial⟩
  refine aa ?_
  refine tq 4 [(1,Q b1),(3,I 0),(4,I 0),(29,.bool (((((cv x.No 0 1048576)&&(bH x.At))&&(bH x.Known))&&(dM x.Office))&&(fq x.Person)))] (fun hk4=>?_) (fun e=>?_)
  ·refine au 25 U (fun c5=>?_) (fun c5=>?_)
   ·refine ay ug U (aL 0 ty3 U U U (aA (v:=.bool (fq x.Person)) Tryz.call168 (nr h x.Person ) U (ae U ?_)))
    exact hk4 _ ⟨U,U,U,(cb (cY c5)),trivial⟩
   ·refine kq (bY (ae U ?_))
    exact hk4 _ ⟨U,U,U,(cb (cZ c5)),trivial⟩
  refine aa ?_
  refine tq 6 [(36,.bool ((((((cv x.No 0 1048576)&&(bH x.At))&&(bH x.Known))&&(dM x.Office))&&(fq x.Person))&&(cv x.Weight 0 0)))] (fun hk5=>?_) (fun e=>?_)
  ·refine au 30 U (fun c6=>?_) (fun c6=>?_)
   ·refine ay sf U (aL 0 ty3 U U U (aa (aa (aA (v:=.bool (cv x.Weight 0 0)) zt (iP h x.Weight 0 0 ) U (ae U ?_)))))
    exact hk5 _ ⟨(cb (cY c6)),trivial⟩
   ·refine kq (kq (bY (ae U ?_)))
    exact hk5 _ ⟨(cb (cZ c6)),trivial⟩
  refine an ?_
  exact ar [.bool ((((((cv x.No 0 1048576)&&(bH x.At))&&(bH x.Known))&&(dM x.Office))&&(fq x.Person))&&(cv x.Weight 0 0))] Tryz.func99 U hX rd (cs hs1)
 ·have hs3:=hs0.trans (bf c1)
  refine ai (sr (ay oV U (aL 0 ty3 U U U (aA (v:=.bool (cv x.No 0 1048576)) zt (iP h x.No 0 1048576 ) U (aa ?_)))))
  refine tq 4 [(1,Q b1),(3,I 1),(4,I 64),(14,.bool ((cv x.No 0 1048576)&&(bH x.At)))] (fun hk6=>?_) (fun e=>?_)
  ·refine au 10 U (fun c7=>?_) (fun c7=>?_)
   ·refine ay qp U (aL 0 ty3 U U U (aA (v:=.bool (bH x.At)) Bq (jt h x.At ) U (ae U ?_)))
    exact hk6 _ ⟨U,U,U,(cb (cY c7)),trivial⟩
   ·refine kq (bY (ae U ?_))
    exact hk6 _ ⟨U,U,U,(cb (cZ c7)),trivial⟩
  refine aa ?_
  refine tq 4 [(1,Q b1),(3,I 1),(4,I 64),(19,.bool (((cv x.No 0 1048576)&&(bH x.At))&&(bH x.Known)))] (fun hk7=>?_) (fun e=>?_)
  ·refine au 15 U (fun c8=>?_) (fun c8=>?_)
   ·refine ay uh U (aL 0 ty3 U U U (aA (v:=.bool (bH x.Known)) Bq (jt h x.Known ) U (ae U ?_)))
    exact hk7 _ ⟨U,U,U,(cb (cY c8)),trivial⟩
   ·refine kq (bY (ae U ?_))
    exact hk7 _ ⟨U,U,U,(cb (cZ c8)),trivial⟩
  refine aa ?_
  refine tq 4 [(1,Q b1),(3,I 1),(4,I 64),(24,.bool ((((cv x.No 0 1048576)&&(bH x.At))&&(bH x.Known))&&(dM x.Office)))] (fun hk8=>?_) (fun e=>?_)
  ·refine au 20 U (fun c9=>?_) (fun c9=>?_)
   ·refine ay wu U (aL 0 ty3 U U U (aA (v:=.bool (dM x.Office)) Tryz.call89 (ly h x.Office ) U (ae U ?_)))
    exact hk8 _ ⟨U,U,U,(cb (cY c9)),trivial⟩
   ·refine kq (bY (ae U ?_))
    exact hk8 _ ⟨U,U,U,(cb (cZ c9)),trivial⟩
  refine aa ?_
  refine tq 4 [(1,Q b1),(3,I 1),(4,I 64),(29,.bool (((((cv x.No 0 1048576)&&(bH x.At))&&(bH x.Known))&&(dM x.Office))&&(fq x.Person)))] (fun hk9=>?_) (fun e=>?_)
  ·refine au 25 U (fun c10=>?_) (fun c10=>?_)
   ·refine ay ug U (aL 0 ty3 U U U (aA (v:=.bool (fq x.Person)) Tryz.call168 (nr h x.Person ) U (ae U ?_)))
    exact hk9 _ ⟨U,U,U,(cb (cY c10)),trivial⟩
   ·refine kq (bY (ae U ?_))
    exact hk9 _ ⟨U,U,U,(cb (cZ c10)),trivial⟩
  refine aa ?_
  refine tq 6 [(36,.bool ((((((cv x.No 0 1048576)&&(bH x.At))&&(bH x.Known))&&(dM x.Office))&&(fq x.Person))&&(cv x.Weight 1 64)))] (fun hk10=>?_) (fun e=>?_)
  ·refine au 30 U (fun c11=>?_) (fun c11=>?_)
   ·refine ay sf U (aL 0 ty3 U U U (aa (aa (aA (v:=.bool (cv x.Weight 1 64)) zt (iP h x.Weight 1 64 ) U (ae U ?_)))))
    exact hk10 _ ⟨(cb (cY c11)),trivial⟩
   ·refine kq (kq (bY (ae U ?_)))
    exact hk10 _ ⟨(cb (cZ c11)),trivial⟩
  refine an ?_
  exact ar [.bool ((((((cv x.No 0 1048576)&&(bH x.At))&&(bH x.Known))&&(dM x.Office))&&(fq x.Person))&&(cv x.Weight 1 64))] Tryz.func99 U hX rd (cs hs3)
theorem pt (h:HF) (l:(List Appoint)) (fc:Option Addr) (fb:Nat) (hl:SlC Appoint.rp h fc fb l):Ret Tryz.prog 51 [.slice fc l.length fb] h (I (cx l)):=by
 refine aw FW U Tryz.ntmps51 U fun X hM hX=>?_
 have hs0:cx l=cx l:=rfl
 refine sr (an (ad (sr (aa (bE lY U (aF U (ac ?_)))))))
 refine aB U (fun c1=>?_) (fun c1=>?_)
 ·have c1p:=of_decide_eq_true c1
  have hs1:=hs0.trans (bt c1)
  refine sr (an ?_)
  exact ar [I 2] FW U hX rd (ci hs1)
 ·have c1p:=of_decide_eq_false c1
  have hs3:=hs0.trans (bf c1)
  refine ai (sr (an (ad (sr (aa (bE lY U (aa (ac ?_))))))))
  refine bq (ι:=Nat×Int) (fun i=>[]) (fun i=>h) (fun i=>[]) (fun i=>i.1≤l.length∧cx l=((cx.K1) i.2)) ?_ (fun hx1=>?_)
  ·rintro ⟨i1,gf⟩ ⟨bd,hs4⟩ e
   try dsimp only at bd
   try dsimp only
   refine sr (an ?_)
   exact ar [I 0] FW U hX rd (ci hs4)
  ·refine ck (ι:=Nat×Int×List Appoint) (fun i=>[(3,I i.2.1),(9,.slice fc l.length fb),(10,I ((l.length:Nat):Int)),(11,I ((i.1:Nat):Int))]) (fun i=>h) (fun i=>[]) (fun i=>l.drop i.1=i.2.2∧i.1≤l.length∧cx l=((cx.L1 (cx.K1)) i.2.2 i.2.1)) (fun i=>i.2.2.length) (0,(-1),l) rd sw ⟨U,Nat.zero_le _,hs3⟩ ?_
   rintro ⟨i1,gf,s1⟩ ⟨hd1,bd,hs6⟩ ag1 e
   try dsimp only at hd1 bd
   rcases s1 with _ | ⟨y1,rz1⟩
   ·have dJ:=cS hd1
    try dsimp only
    refine sr (az (v':=.bool false) U (cb dJ) (ac (ad (ba U (bM U ?_)))))
    exact hx1 (i1,gf) _ ⟨bd,hs6⟩ trivial
   ·have dI:=dV hd1
    have bh:=cU hd1
    have e9:=aP hd1
    have gO:=hl.1.1
    try dsimp only
    refine sr (az (v':=.bool true) U (cb dI) (ac (ad (bj U (ai (ad (aU (sr (a8 (fZ (enc:=Appoint.cells) (fun _ _ _ e=>e) lY ty59 hl.1 (nthZ bh) (bA bh) U U U (fun q2 A2=>?_)))))))))))
    refine dT ty59 A2 U U (bT zc59 (fun b2=>bJ 0 ty59 U U U U U U (ac (ad (sr (dh 0 ty59 U U U (aA (v:=.bool (jf y1)) Tryz.call99 (uN h y1 ) U (cR U (aa ?_)))))))))
    refine tq 5 [(5,Q b2),(9,.slice fc l.length fb),(10,I ((l.length:Nat):Int)),(11,I ((i1:Nat):Int)),(23,.bool ((!(jf y1))||decide (y1.No≤gf)))] (fun hk1=>?_) (fun e=>?_)
    ·refine au 18 U (fun c2=>?_) (fun c2=>?_)
     ·refine kq (kq (ae U ?_))
      exact hk1 _ ⟨U,U,U,U,(cb (eB c2)),trivial⟩
     ·refine ay oV U (aL 0 ty3 U U U (aa (aF U (ae U ?_))))
      exact hk1 _ ⟨U,U,U,U,(cb (eE c2)),trivial⟩
    refine ac ?_
    refine aB U (fun c3=>?_) (fun c3=>?_)
    ·have hs8:=hs6.trans (bt c3)
     refine sr (an ?_)
     exact ar [I 150] FW U hX rd (ci hs8)
    ·have hs10:=hs6.trans (bf c3)
     refine ai (ah (ay oV U (aL 0 ty3 U U U (an (ao (ah (az (v':=I (((i1+1):Nat):Int)) U (bP ob) (aa (ac ?_)))))))))
     refine cE (L':=[]) js ?_
     exact ag1 ((i1+1),y1.No,rz1) _ (Nat.lt_succ_self _) ⟨bF hd1,aP hd1,hs10⟩ rd
theorem jd (h:HF) (dN:Int) (low:Int) (high:Int)  : Ret Tryz.prog 169 [I dN,I low,I high] h (.bool (cQ dN low high)):=by
 refine aw Tryz.func169 U Tryz.ntmps169 U fun X hM hX=>?_
 have hs0:cQ dN low high=cQ dN low high:=rfl
 refine sr (an (sr (aa (aa (aF U (aa ?_))))))
 refine tq 4 [(14,.bool (decide (low≤dN)&&decide (dN≤high)))] (fun hk1=>?_) (fun e=>?_)
 ·refine au 10 U (fun c1=>?_) (fun c1=>?_)
  ·refine aa (aa (aF U (ae U ?_)))
   exact hk1 _ ⟨(cb (cY c1)),trivial⟩
  ·refine kq (bY (ae U ?_))
   exact hk1 _ ⟨(cb (cZ c1)),trivial⟩
 refine an ?_
 exact ar [.bool (decide (low≤dN)&&decide (dN≤high))] Tryz.func169 U hX rd (cs hs0)
theorem ol (h:HF) (dN:Int)  : Ret Tryz.prog 170 [I dN] h (.bool (ef dN)):=by
 refine aw Tryz.func170 U Tryz.ntmps170 U fun X hM hX=>?_
 have hs0:ef dN=ef dN:=rfl
 refine sr (an (sr (aa (aA (v:=.bool (cQ dN 0 1099511627775)) Bp (jd h dN 0 1099511627775 ) U (an ?_)))))
 exact ar [.bool (cQ dN 0 1099511627775)] Tryz.func170 U hX rd (cs hs0)
end Go.Sg
namespace Go.Sg
open Go.Proofs
set_option maxHeartbeats 2000000
set_option maxRecDepth 100000
set_option linter.unusedVariables false
theorem nh (h:HF) (dN:Int)  : Ret Tryz.prog 171 [I dN] h (.bool (eA dN)):=by
 refine aw Tryz.func171 U Tryz.ntmps171 U fun X hM hX=>?_
 have hs0:eA dN=eA dN:=rfl
 refine sr (an (sr (aa (aA (v:=.bool (cQ dN 0 63)) Bp (jd h dN 0 63 ) U (an ?_)))))
 exact ar [.bool (cQ dN 0 63)] Tryz.func171 U hX rd (cs hs0)
theorem uw (h:HF) (x:Deputy)  : Ret Tryz.prog 100 [.agg (Deputy.cells x).toArray] h (.bool (jq x)):=by
 refine aw FV U Tryz.ntmps100 U fun X hM hX=>?_
 have hs0:jq x=jq x:=rfl
 refine sr (dC (fun b1=>an (ad (sr (ay pI U (aL 0 ty3 U U U (aA (v:=.bool (cQ x.No 0 1048576)) Bp (jd h x.No 0 1048576 ) U (cR U (aa ?_)))))))))
 refine tq 5 [(1,Q b1),(12,.bool ((!(cQ x.No 0 1048576))||(!(ef x.At))))] (fun hk1=>?_) (fun e=>?_)
 ·refine au 7 U (fun c1=>?_) (fun c1=>?_)
  ·refine kq (kq (ae U ?_))
   exact hk1 _ ⟨U,(cb (eB c1)),trivial⟩
  ·refine ay ur U (aL 0 ty3 U U U (aA (v:=.bool (ef x.At)) Tryz.call170 (ol h x.At ) U (cR U (ae U ?_))))
   exact hk1 _ ⟨U,(cb (eE c1)),trivial⟩
 refine aa ?_
 refine tq 5 [(1,Q b1),(18,.bool (((!(cQ x.No 0 1048576))||(!(ef x.At)))||(!(ef x.Known))))] (fun hk2=>?_) (fun e=>?_)
 ·refine au 13 U (fun c2=>?_) (fun c2=>?_)
  ·refine kq (kq (ae U ?_))
   exact hk2 _ ⟨U,(cb (eB c2)),trivial⟩
  ·refine ay CO U (aL 0 ty3 U U U (aA (v:=.bool (ef x.Known)) Tryz.call170 (ol h x.Known ) U (cR U (ae U ?_))))
   exact hk2 _ ⟨U,(cb (eE c2)),trivial⟩
 refine aa ?_
 refine tq 5 [(1,Q b1),(24,.bool ((((!(cQ x.No 0 1048576))||(!(ef x.At)))||(!(ef x.Known)))||(!(eA x.From))))] (fun hk3=>?_) (fun e=>?_)
 ·refine au 19 U (fun c3=>?_) (fun c3=>?_)
  ·refine kq (kq (ae U ?_))
   exact hk3 _ ⟨U,(cb (eB c3)),trivial⟩
  ·refine ay uq U (aL 0 ty3 U U U (aA (v:=.bool (eA x.From)) Tryz.call171 (nh h x.From ) U (cR U (ae U ?_))))
   exact hk3 _ ⟨U,(cb (eE c3)),trivial⟩
 refine aa ?_
 refine tq 5 [(1,Q b1),(30,.bool (((((!(cQ x.No 0 1048576))||(!(ef x.At)))||(!(ef x.Known)))||(!(eA x.From)))||(!(eA x.To))))] (fun hk4=>?_) (fun e=>?_)
 ·refine au 25 U (fun c4=>?_) (fun c4=>?_)
  ·refine kq (kq (ae U ?_))
   exact hk4 _ ⟨U,(cb (eB c4)),trivial⟩
  ·refine ay uo U (aL 0 ty3 U U U (aA (v:=.bool (eA x.To)) Tryz.call171 (nh h x.To ) U (cR U (ae U ?_))))
   exact hk4 _ ⟨U,(cb (eE c4)),trivial⟩
 refine aa ?_
 refine tq 6 [(1,Q b1),(37,.bool ((((((!(cQ x.No 0 1048576))||(!(ef x.At)))||(!(ef x.Known)))||(!(eA x.From)))||(!(eA x.To)))||(x.From==x.To)))] (fun hk5=>?_) (fun e=>?_)
 ·refine au 31 U (fun c5=>?_) (fun c5=>?_)
  ·refine kq (kq (bY (ae U ?_)))
   exact hk5 _ ⟨U,(cb (eB c5)),trivial⟩
  ·refine ay uq U (aL 0 ty3 U U U (ay uo U (aL 0 ty3 U U U (aF U (ae U ?_)))))
   exact hk5 _ ⟨U,(cb (eE c5)),trivial⟩
 refine aa ?_
 refine tq 5 [(1,Q b1),(43,.bool (((((((!(cQ x.No 0 1048576))||(!(ef x.At)))||(!(ef x.Known)))||(!(eA x.From)))||(!(eA x.To)))||(x.From==x.To))||(!(cQ x.Office 0 31))))] (fun hk6=>?_) (fun e=>?_)
 ·refine au 38 U (fun c6=>?_) (fun c6=>?_)
  ·refine kq (kq (ae U ?_))
   exact hk6 _ ⟨U,(cb (eB c6)),trivial⟩
  ·refine ay CN U (aL 0 ty3 U U U (aA (v:=.bool (cQ x.Office 0 31)) Bp (jd h x.Office 0 31 ) U (cR U (ae U ?_))))
   exact hk6 _ ⟨U,(cb (eE c6)),trivial⟩
 refine aa ?_
 refine tq 5 [(1,Q b1),(49,.bool ((((((((!(cQ x.No 0 1048576))||(!(ef x.At)))||(!(ef x.Known)))||(!(eA x.From)))||(!(eA x.To)))||(x.From==x.To))||(!(cQ x.Office 0 31)))||(!(cQ x.Kind (-1) 15))))] (fun hk7=>?_) (fun e=>?_)
 ·refine au 44 U (fun c7=>?_) (fun c7=>?_)
  ·refine kq (kq (ae U ?_))
   exact hk7 _ ⟨U,(cb (eB c7)),trivial⟩
  ·refine ay CM U (aL 0 ty3 U U U (aA (v:=.bool (cQ x.Kind (-1) 15)) Bp (jd h x.Kind (-1) 15 ) U (cR U (ae U ?_))))
   exact hk7 _ ⟨U,(cb (eE c7)),trivial⟩
 refine ac ?_
 refine aB U (fun c8=>?_) (fun c8=>?_)
 ·have hs1:=hs0.trans (bt c8)
  refine sr (an ?_)
  exact ar [.bool false] FV U hX rd (cs hs1)
 ·have hs3:=hs0.trans (bf c8)
  refine ai (ad (sr (ay CL U (aL 0 ty4 U U U (ac ?_)))))
  refine aB U (fun c9=>?_) (fun c9=>?_)
  ·have hs4:=hs3.trans (bt c9)
   refine sr (ay pH U (aL 0 ty3 U U U (aF U (aa ?_))))
   refine tq 4 [(59,.bool ((x.Until==0)&&(x.Most==0)))] (fun hk8=>?_) (fun e=>?_)
   ·refine au 55 U (fun c10=>?_) (fun c10=>?_)
    ·refine ay un U (aL 0 ty3 U U U (aF U (ae U ?_)))
     exact hk8 _ ⟨(cb (cY c10)),trivial⟩
    ·refine kq (bY (ae U ?_))
     exact hk8 _ ⟨(cb (cZ c10)),trivial⟩
   refine an ?_
   exact ar [.bool ((x.Until==0)&&(x.Most==0))] FV U hX rd (cs hs4)
  ·have hs6:=hs3.trans (bf c9)
   refine ai (sr (ay ur U (aL 0 ty3 U U U (ay pH U (aL 0 ty3 U U U (aF U (aa ?_)))))))
   refine tq 4 [(1,Q b1),(69,.bool (decide (x.At < x.Until)&&decide (x.Until≤1099511627776)))] (fun hk9=>?_) (fun e=>?_)
   ·refine au 65 U (fun c11=>?_) (fun c11=>?_)
    ·refine ay pH U (aL 0 ty3 U U U (aF U (ae U ?_)))
     exact hk9 _ ⟨U,(cb (cY c11)),trivial⟩
    ·refine kq (bY (ae U ?_))
     exact hk9 _ ⟨U,(cb (cZ c11)),trivial⟩
   refine aa ?_
   refine tq 4 [(74,.bool ((decide (x.At < x.Until)&&decide (x.Until≤1099511627776))&&(cQ x.Most 0 1099511627776)))] (fun hk10=>?_) (fun e=>?_)
   ·refine au 70 U (fun c12=>?_) (fun c12=>?_)
    ·refine ay un U (aL 0 ty3 U U U (aA (v:=.bool (cQ x.Most 0 1099511627776)) Bp (jd h x.Most 0 1099511627776 ) U (ae U ?_)))
     exact hk10 _ ⟨(cb (cY c12)),trivial⟩
    ·refine kq (bY (ae U ?_))
     exact hk10 _ ⟨(cb (cZ c12)),trivial⟩
   refine an ?_
   exact ar [.bool ((decide (x.At < x.Until)&&decide (x.Until≤1099511627776))&&(cQ x.Most 0 1099511627776))] FV U hX rd (cs hs6)
theorem ux (h:HF) (l:(List Deputy)) (fc:Option Addr) (fb:Nat) (hl:SlC Deputy.rp h fc fb l):Ret Tryz.prog 52 [.slice fc l.length fb] h (I (dg l)):=by
 refine aw FU U Tryz.ntmps52 U fun X hM hX=>?_
 have hs0:dg l=dg l:=rfl
 refine sr (an (ad (sr (aa (bE sJ U (aF U (ac ?_)))))))
 refine aB U (fun c1=>?_) (fun c1=>?_)
 ·have c1p:=of_decide_eq_true c1
  have hs1:=hs0.trans (bt c1)
  refine sr (an ?_)
  exact ar [I 2] FU U hX rd (ci hs1)
 ·have c1p:=of_decide_eq_false c1
  have hs3:=hs0.trans (bf c1)
  refine ai (sr (an (ad (sr (aa (bE sJ U (aa (ac ?_))))))))
  refine bq (ι:=Nat×Int) (fun i=>[]) (fun i=>h) (fun i=>[]) (fun i=>i.1≤l.length∧dg l=((dg.K1) i.2)) ?_ (fun hx1=>?_)
  ·rintro ⟨i1,gf⟩ ⟨bd,hs4⟩ e
   try dsimp only at bd
   try dsimp only
   refine sr (an ?_)
   exact ar [I 0] FU U hX rd (ci hs4)
  ·refine ck (ι:=Nat×Int×List Deputy) (fun i=>[(3,I i.2.1),(9,.slice fc l.length fb),(10,I ((l.length:Nat):Int)),(11,I ((i.1:Nat):Int))]) (fun i=>h) (fun i=>[]) (fun i=>l.drop i.1=i.2.2∧i.1≤l.length∧dg l=((dg.L1 (dg.K1)) i.2.2 i.2.1)) (fun i=>i.2.2.length) (0,(-1),l) rd sw ⟨U,Nat.zero_le _,hs3⟩ ?_
   rintro ⟨i1,gf,s1⟩ ⟨hd1,bd,hs6⟩ ag1 e
   try dsimp only at hd1 bd
   rcases s1 with _ | ⟨y1,rz1⟩
   ·have dJ:=cS hd1
    try dsimp only
    refine sr (az (v':=.bool false) U (cb dJ) (ac (ad (ba U (bM U ?_)))))
    exact hx1 (i1,gf) _ ⟨bd,hs6⟩ trivial
   ·have dI:=dV hd1
    have bh:=cU hd1
    have e9:=aP hd1
    have gO:=hl.1.1
    try dsimp only
    refine sr (az (v':=.bool true) U (cb dI) (ac (ad (bj U (ai (ad (aU (sr (a8 (fZ (enc:=Deputy.cells) (fun _ _ _ e=>e) sJ ty169 hl.1 (nthZ bh) (bA bh) U U U (fun q2 A2=>?_)))))))))))
    refine dT ty169 A2 U U (bT zc169 (fun b2=>bJ 0 ty169 U U U U U U (ac (ad (sr (dh 0 ty169 U U U (aA (v:=.bool (jq y1)) Tryz.call100 (uw h y1 ) U (cR U (aa ?_)))))))))
    refine tq 5 [(5,Q b2),(9,.slice fc l.length fb),(10,I ((l.length:Nat):Int)),(11,I ((i1:Nat):Int)),(23,.bool ((!(jq y1))||decide (y1.No≤gf)))] (fun hk1=>?_) (fun e=>?_)
    ·refine au 18 U (fun c2=>?_) (fun c2=>?_)
     ·refine kq (kq (ae U ?_))
      exact hk1 _ ⟨U,U,U,U,(cb (eB c2)),trivial⟩
     ·refine ay pI U (aL 0 ty3 U U U (aa (aF U (ae U ?_))))
      exact hk1 _ ⟨U,U,U,U,(cb (eE c2)),trivial⟩
    refine ac ?_
    refine aB U (fun c3=>?_) (fun c3=>?_)
    ·have hs8:=hs6.trans (bt c3)
     refine sr (an ?_)
     exact ar [I 160] FU U hX rd (ci hs8)
    ·have hs10:=hs6.trans (bf c3)
     refine ai (ah (ay pI U (aL 0 ty3 U U U (an (ao (ah (az (v':=I (((i1+1):Nat):Int)) U (bP ob) (aa (ac ?_)))))))))
     refine cE (L':=[]) js ?_
     exact ag1 ((i1+1),y1.No,rz1) _ (Nat.lt_succ_self _) ⟨bF hd1,aP hd1,hs10⟩ rd
theorem gh (h:HF) (dN:Int) (limit:Int)  : Ret Tryz.prog 145 [I dN,I limit] h (.bool (aK dN limit)):=by
 refine aw Tryz.func145 U Tryz.ntmps145 U fun X hM hX=>?_
 have hs0:aK dN limit=aK dN limit:=rfl
 refine sr (an (sr (aa (aF U (aa ?_)))))
 refine tq 4 [(11,.bool (decide (0≤dN)&&decide (dN < limit)))] (fun hk1=>?_) (fun e=>?_)
 ·refine au 7 U (fun c1=>?_) (fun c1=>?_)
  ·refine aa (aa (aF U (ae U ?_)))
   exact hk1 _ ⟨(cb (cY c1)),trivial⟩
  ·refine kq (bY (ae U ?_))
   exact hk1 _ ⟨(cb (cZ c1)),trivial⟩
 refine an ?_
 exact ar [.bool (decide (0≤dN)&&decide (dN < limit))] Tryz.func145 U hX rd (cs hs0)
theorem tx (h:HF) (x:Interest)  : Ret Tryz.prog 101 [.agg (Interest.cells x).toArray] h (.bool (iw x)):=by
 refine aw Tryz.func101 U Tryz.ntmps101 U fun X hM hX=>?_
 have hs0:iw x=iw x:=rfl
 refine sr (dC (fun b1=>an (sr (ay nD U (aL 0 ty3 U U U (aA (v:=.bool (aK x.No 1048577)) vj (gh h x.No 1048577 ) U (aa ?_)))))))
 refine tq 4 [(1,Q b1),(11,.bool ((aK x.No 1048577)&&(aK x.At 1099511627776)))] (fun hk1=>?_) (fun e=>?_)
 ·refine au 7 U (fun c1=>?_) (fun c1=>?_)
  ·refine ay se U (aL 0 ty3 U U U (aA (v:=.bool (aK x.At 1099511627776)) vj (gh h x.At 1099511627776 ) U (ae U ?_)))
   exact hk1 _ ⟨U,(cb (cY c1)),trivial⟩
  ·refine kq (bY (ae U ?_))
   exact hk1 _ ⟨U,(cb (cZ c1)),trivial⟩
 refine aa ?_
 refine tq 4 [(1,Q b1),(16,.bool (((aK x.No 1048577)&&(aK x.At 1099511627776))&&(aK x.Known 1099511627776)))] (fun hk2=>?_) (fun e=>?_)
 ·refine au 12 U (fun c2=>?_) (fun c2=>?_)
  ·refine ay wq U (aL 0 ty3 U U U (aA (v:=.bool (aK x.Known 1099511627776)) vj (gh h x.Known 1099511627776 ) U (ae U ?_)))
   exact hk2 _ ⟨U,(cb (cY c2)),trivial⟩
  ·refine kq (bY (ae U ?_))
   exact hk2 _ ⟨U,(cb (cZ c2)),trivial⟩
 refine aa ?_
 refine tq 4 [(1,Q b1),(21,.bool ((((aK x.No 1048577)&&(aK x.At 1099511627776))&&(aK x.Known 1099511627776))&&(aK x.Party 1048577)))] (fun hk3=>?_) (fun e=>?_)
 ·refine au 17 U (fun c3=>?_) (fun c3=>?_)
  ·refine ay oU U (aL 0 ty3 U U U (aA (v:=.bool (aK x.Party 1048577)) vj (gh h x.Party 1048577 ) U (ae U ?_)))
   exact hk3 _ ⟨U,(cb (cY c3)),trivial⟩
  ·refine kq (bY (ae U ?_))
   exact hk3 _ ⟨U,(cb (cZ c3)),trivial⟩
 refine an (ad (sr (ay uf U (aL 0 ty4 U U U (ac ?_)))))
 refine aB U (fun c4=>?_) (fun c4=>?_)
 ·have hs1:=hs0.trans (bt c4)
  refine sr (aa (aa ?_))
  refine tq 4 [(1,Q b1),(29,.bool (((((aK x.No 1048577)&&(aK x.At 1099511627776))&&(aK x.Known 1099511627776))&&(aK x.Party 1048577))&&(aK x.Person 1048577)))] (fun hk4=>?_) (fun e=>?_)
  ·refine au 25 U (fun c5=>?_) (fun c5=>?_)
   ·refine ay mz U (aL 0 ty3 U U U (aA (v:=.bool (aK x.Person 1048577)) vj (gh h x.Person 1048577 ) U (ae U ?_)))
    exact hk4 _ ⟨U,(cb (cY c5)),trivial⟩
   ·refine kq (bY (ae U ?_))
    exact hk4 _ ⟨U,(cb (cZ c5)),trivial⟩
  refine aa ?_
  refine tq 6 [(36,.bool ((((((aK x.No 1048577)&&(aK x.At 1099511627776))&&(aK x.Known 1099511627776))&&(aK x.Party 1048577))&&(aK x.Person 1048577))&&(x.Person != x.Party)))] (fun hk5=>?_) (fun e=>?_)
  ·refine au 30 U (fun c6=>?_) (fun c6=>?_)
   ·refine ay mz U (aL 0 ty3 U U U (ay oU U (aL 0 ty3 U U U (aF U (ae U ?_)))))
    exact hk5 _ ⟨(cb (cY c6)),trivial⟩
   ·refine kq (kq (bY (ae U ?_)))
    exact hk5 _ ⟨(cb (cZ c6)),trivial⟩
  refine an ?_
  exact ar [.bool ((((((aK x.No 1048577)&&(aK x.At 1099511627776))&&(aK x.Known 1099511627776))&&(aK x.Party 1048577))&&(aK x.Person 1048577))&&(x.Person != x.Party))] Tryz.func101 U hX rd (cs hs1)
 ·have hs3:=hs0.trans (bf c4)
  refine ai (sr (aa (aa ?_)))
  refine tq 4 [(42,.bool (((((aK x.No 1048577)&&(aK x.At 1099511627776))&&(aK x.Known 1099511627776))&&(aK x.Party 1048577))&&(aK x.Person 64)))] (fun hk6=>?_) (fun e=>?_)
  ·refine au 38 U (fun c7=>?_) (fun c7=>?_)
   ·refine ay mz U (aL 0 ty3 U U U (aA (v:=.bool (aK x.Person 64)) vj (gh h x.Person 64 ) U (ae U ?_)))
    exact hk6 _ ⟨(cb (cY c7)),trivial⟩
   ·refine kq (bY (ae U ?_))
    exact hk6 _ ⟨(cb (cZ c7)),trivial⟩
  refine an ?_
  exact ar [.bool (((((aK x.No 1048577)&&(aK x.At 1099511627776))&&(aK x.Known 1099511627776))&&(aK x.Party 1048577))&&(aK x.Person 64))] Tryz.func101 U hX rd (cs hs3)
theorem nW (h:HF) (l:(List Interest)) (fc:Option Addr) (fb:Nat) (hl:SlC Interest.rp h fc fb l):Ret Tryz.prog 53 [.slice fc l.length fb] h (I (bS l)):=by
 refine aw FT U Tryz.ntmps53 U fun X hM hX=>?_
 have hs0:bS l=bS l:=rfl
 refine sr (an (ad (sr (aa (bE mJ U (aF U (ac ?_)))))))
 refine aB U (fun c1=>?_) (fun c1=>?_)
 ·have c1p:=of_decide_eq_true c1
  have hs1:=hs0.trans (bt c1)
  refine sr (an ?_)
  exact ar [I 2] FT U hX rd (ci hs1)
 ·have c1p:=of_decide_eq_false c1
  have hs3:=hs0.trans (bf c1)
  refine ai (sr (an (ad (sr (aa (bE mJ U (aa (ac ?_))))))))
  refine bq (ι:=Nat×Int) (fun i=>[]) (fun i=>h) (fun i=>[]) (fun i=>i.1≤l.length∧bS l=((bS.K1) i.2)) ?_ (fun hx1=>?_)
  ·rintro ⟨i1,gf⟩ ⟨bd,hs4⟩ e
   try dsimp only at bd
   try dsimp only
   refine sr (an ?_)
   exact ar [I 0] FT U hX rd (ci hs4)
  ·refine ck (ι:=Nat×Int×List Interest) (fun i=>[(3,I i.2.1),(9,.slice fc l.length fb),(10,I ((l.length:Nat):Int)),(11,I ((i.1:Nat):Int))]) (fun i=>h) (fun i=>[]) (fun i=>l.drop i.1=i.2.2∧i.1≤l.length∧bS l=((bS.L1 (bS.K1)) i.2.2 i.2.1)) (fun i=>i.2.2.length) (0,(-1),l) rd sw ⟨U,Nat.zero_le _,hs3⟩ ?_
   rintro ⟨i1,gf,s1⟩ ⟨hd1,bd,hs6⟩ ag1 e
   try dsimp only at hd1 bd
   rcases s1 with _ | ⟨y1,rz1⟩
   ·have dJ:=cS hd1
    try dsimp only
    refine sr (az (v':=.bool false) U (cb dJ) (ac (ad (ba U (bM U ?_)))))
    exact hx1 (i1,gf) _ ⟨bd,hs6⟩ trivial
   ·have dI:=dV hd1
    have bh:=cU hd1
    have e9:=aP hd1
    have gO:=hl.1.1
    try dsimp only
    refine sr (az (v':=.bool true) U (cb dI) (ac (ad (bj U (ai (ad (aU (sr (a8 (fZ (enc:=Interest.cells) (fun _ _ _ e=>e) mJ ty61 hl.1 (nthZ bh) (bA bh) U U U (fun q2 A2=>?_)))))))))))
    refine dT ty61 A2 U U (bT zc61 (fun b2=>bJ 0 ty61 U U U U U U (ac (ad (sr (dh 0 ty61 U U U (aA (v:=.bool (iw y1)) Tryz.call101 (tx h y1 ) U (cR U (aa ?_)))))))))
    refine tq 5 [(5,Q b2),(9,.slice fc l.length fb),(10,I ((l.length:Nat):Int)),(11,I ((i1:Nat):Int)),(23,.bool ((!(iw y1))||decide (y1.No≤gf)))] (fun hk1=>?_) (fun e=>?_)
    ·refine au 18 U (fun c2=>?_) (fun c2=>?_)
     ·refine kq (kq (ae U ?_))
      exact hk1 _ ⟨U,U,U,U,(cb (eB c2)),trivial⟩
     ·refine ay nD U (aL 0 ty3 U U U (aa (aF U (ae U ?_))))
      exact hk1 _ ⟨U,U,U,U,(cb (eE c2)),trivial⟩
    refine ac ?_
    refine aB U (fun c3=>?_) (fun c3=>?_)
    ·have hs8:=hs6.trans (bt c3)
     refine sr (an ?_)
     exact ar [I 290] FT U hX rd (ci hs8)
    ·have hs10:=hs6.trans (bf c3)
     refine ai (ah (ay nD U (aL 0 ty3 U U U (an (ao (ah (az (v':=I (((i1+1):Nat):Int)) U (bP ob) (aa (ac ?_)))))))))
     refine cE (L':=[]) js ?_
     exact ag1 ((i1+1),y1.No,rz1) _ (Nat.lt_succ_self _) ⟨bF hd1,aP hd1,hs10⟩ rd
theorem lZ (h:HF) (s:(List Int)) (pP:Option Addr) (pi:Nat) (f:(Int→Bool)) (f_v:Value) (hs:SlC Rp.int h pP pi s) (hf:∀ (h':HF) (cD:Int),HF.le h h'→vf Tryz.prog f_v [I cD] h' [] (.bool (f cD))):Ret Tryz.prog 110 [.slice pP s.length pi,f_v] h (I (bU s f)):=by
 refine aw Tryz.func110 U Tryz.ntmps110 U fun X hM hX=>?_
 have hs0:bU s f=bU s f:=rfl
 refine sr (an (ad (sr (aa (bE eG U (aa (ac ?_)))))))
 refine bq (ι:=Nat) (fun i=>[]) (fun i=>h) (fun i=>[]) (fun i=>i≤s.length∧bU s f=((bU.K1))) ?_ (fun hx1=>?_)
 ·rintro i1 ⟨bd,hs1⟩ e
  try dsimp only at bd
  try dsimp only
  refine sr (an ?_)
  exact ar [I (-1)] Tryz.func110 U hX rd (ci hs1)
 ·refine ck (ι:=Nat×List Int) (fun i=>[(0,.slice pP s.length pi),(1,f_v),(7,I ((s.length:Nat):Int)),(8,I ((i.1:Nat):Int))]) (fun i=>h) (fun i=>[]) (fun i=>s.drop i.1=i.2∧i.1≤s.length∧bU s f=((bU.L1 f (bU.K1)) i.2 i.1)) (fun i=>i.2.length) (0,s) rd sw ⟨U,Nat.zero_le _,hs0⟩ ?_
  rintro ⟨i1,s1⟩ ⟨hd1,bd,hs3⟩ ag1 e
  try dsimp only at hd1 bd
  rcases s1 with _ | ⟨y1,rz1⟩
  ·have dJ:=cS hd1
   try dsimp only
   refine sr (az (v':=.bool false) U (cb dJ) (ac (ad (ba U (bM U ?_)))))
   exact hx1 i1 _ ⟨bd,hs3⟩ trivial
  ·have dI:=dV hd1
   have bh:=cU hd1
   have e9:=aP hd1
   have gO:=hs.1.1
   try dsimp only
   refine sr (az (v':=.bool true) U (cb dI) (ac (ad (bj U (ai (ad (aU (sr (aa (an (sr (aa (aa (aa (a8 (fZ (enc:=fun y=>[I y]) (fun _ _ _ e=>e) eG ty3 hs.1 (nthZ bh) (bA bh) U U U (fun q2 A2=>?_)))))))))))))))))
   refine eM ty3 A2 U (a8 (nv (v:=.bool (f y1)) [] (List.nil_sublist _) (hf h y1 (HF.le_refl _)) U U (ac ?_)))
   refine aB U (fun c2=>?_) (fun c2=>?_)
   ·have hs5:=hs3.trans (bt c2)
    refine sr (aa (an ?_))
    exact ar [I ((i1:Nat):Int)] Tryz.func110 U hX rd (ci hs5)
   ·have hs7:=hs3.trans (bf c2)
    refine ai (ao (ah (az (v':=I (((i1+1):Nat):Int)) U (bP ob) (aa (ac ?_)))))
    exact ag1 ((i1+1),rz1) _ (Nat.lt_succ_self _) ⟨bF hd1,aP hd1,hs7⟩ rd
theorem iJ (h:HF) (s:(List Int)) (pP:Option Addr) (pi:Nat) (f:(Int→Bool)) (f_v:Value) (hs:SlC Rp.int h pP pi s) (hf:∀ (h':HF) (cD:Int),HF.le h h'→vf Tryz.prog f_v [I cD] h' [] (.bool (f cD))):Ret Tryz.prog 176 [.slice pP s.length pi,f_v] h (.bool (cH s f)):=by
 refine aw Tryz.func176 U Tryz.ntmps176 U fun X hM hX=>?_
 have hs0:cH s f=cH s f:=rfl
 refine sr (an (sr (aa (aa (aA (v:=I (bU s f)) Tryz.call110 (lZ h s pP pi f f_v hs hf) U (aF U (an ?_)))))))
 exact ar [.bool (decide (0≤(bU s f)))] Tryz.func176 U hX rd (cs hs0)
end Go.Sg
namespace Go.Sg
open Go.Proofs
set_option maxHeartbeats 2000000
set_option maxRecDepth 100000
set_option linter.unusedVariables false
theorem rS (h:HF) (dN:Int) (v0:Int) (v0_q:Addr) (v1:Int) (v1_q:Addr) (av0:At h v0_q [I v0]) (av1:At h v1_q [I v1]):Ret Tryz.prog 225 [I dN,.pointer (some v0_q),.pointer (some v1_q)] h (.bool (iq dN v0 v1)):=by
 refine aw Tryz.func225 U Tryz.ntmps225 U fun X hM hX=>?_
 have hs0:iq dN v0 v1=iq dN v0 v1:=rfl
 refine sr (an (sr (aa (eM ty3 av0 U (aF U (aa ?_))))))
 refine tq 4 [(12,.bool (decide (dN < v0)||decide (v1 < dN)))] (fun hk1=>?_) (fun e=>?_)
 ·refine au 8 U (fun c1=>?_) (fun c1=>?_)
  ·refine kq (bY (ae U ?_))
   exact hk1 _ ⟨(cb (eB c1)),trivial⟩
  ·refine aa (eM ty3 av1 U (aF U (ae U ?_)))
   exact hk1 _ ⟨(cb (eE c1)),trivial⟩
 refine an ?_
 exact ar [.bool (decide (dN < v0)||decide (v1 < dN))] Tryz.func225 U hX rd (cs hs0)
theorem fx (h:HF) (least:Int) (most:Int) (l:(List Int)) (fc:Option Addr) (fb:Nat) (hl:SlC Rp.int h fc fb l):Ret Tryz.prog 172 [I least,I most,.slice fc l.length fb] h (.bool (aI least most l)):=by
 refine aw Tryz.func172 U Tryz.ntmps172 U fun X hM hX=>?_
 have hs0:aI least most l=aI least most l:=rfl
 refine sr (dC (fun b1=>dC (fun b2=>an (sr (aa (cn 1 U hM (fun h1 hle1 hb1=>cn 0 U hM (fun h2 hle2 hb2=>a8 (gj U U (aA (v:=.bool (cH l (fun cD=>iq cD least most))) FS (iJ h2 l fc fb (fun cD=>iq cD least most) (.func (.func 225) #[] #[Q b1,Q b2]) (hl.mono Rp.cm (hle1.t hle2)) (fun h' cD hle =>je Tryz.call225 (rS h' cD least ⟨b1,0,none⟩ most ⟨b2,0,none⟩  (((dP hb1).mono hle2).mono hle) ((dP hb2).mono hle)))) U ?_))))))))))
 refine cR U (an ?_)
 exact ar [.bool (!(cH l (fun cD=>iq cD least most)))] Tryz.func172 U hX rd (cs hs0)
theorem u0 (h:HF) (x:Budget)  : Ret Tryz.prog 102 [.agg (Budget.cells x).toArray] h (.bool (jG x)):=by
 refine aw Tryz.func102 U Tryz.ntmps102 U fun X hM hX=>?_
 have hs0:jG x=jG x:=rfl
 refine sr (dC (fun b1=>an (sr (bi (an (ad (sr (ay CK U (aL 0 ty4 U U U (ac ?_))))))))))
 refine aB U (fun c1=>?_) (fun c1=>?_)
 ·have hs1:=hs0.trans (bt c1)
  refine ah (bi (an (sr (ay oe U (aL 0 ty3 U U U (a8 (cf (cells:=[I x.No]) eG ty3 zc3 U U kr (fun b2=>cn 0 U hM (fun h1 hle1 hb1=>?_)))))))))
  have sl1:SlC Rp.int h1 (some ⟨b2,0,none⟩) 1 ([x.No]):=bW.slB0 (T:=3) (fz:=(0,0)) ((show bW Rp.int h [I x.No] ([x.No]) from ⟨[I x.No],[],rfl,rfl,rfl,rfl⟩).mono Rp.cm hle1) hb1
  refine aA (v:=.bool (aI 0 1048576 ([x.No]))) qT (fx h1 0 1048576 ([x.No]) (some ⟨b2,0,none⟩) 1 sl1) U (aa ?_)
  refine tq 7 [(1,Q b1),(3,I 0),(4,I 0),(18,.bool ((aI 0 1048576 ([x.No]))&&(aI 0 1099511627775 ([x.At,x.Known]))))] (fun hk1=>?_) (fun e=>?_)
  ·refine au 11 U (fun c2=>?_) (fun c2=>?_)
   ·refine ay yn U (aL 0 ty3 U U U (ay ym U (aL 0 ty3 U U U (a8 (cf (cells:=[I x.At,I x.Known]) eG ty3 zc3 U U kr (fun b3=>cn 0 U hM (fun h2 hle2 hb2=>?_)))))))
    have sl2:SlC Rp.int h2 (some ⟨b3,0,none⟩) 2 ([x.At,x.Known]):=bW.slB0 (T:=3) (fz:=(0,0)) ((show bW Rp.int h1 [I x.At,I x.Known] ([x.At,x.Known]) from ⟨[I x.At],[I x.Known],rfl,rfl,rfl,⟨[I x.Known],[],rfl,rfl,rfl,rfl⟩⟩).mono Rp.cm hle2) hb2
    refine aA (v:=.bool (aI 0 1099511627775 ([x.At,x.Known]))) qT (fx h2 0 1099511627775 ([x.At,x.Known]) (some ⟨b3,0,none⟩) 2 sl2) U (ae U (kJ (h:=h1) hle2 hX hle1 ?_))
    exact hk1 _ ⟨U,U,U,(cb (cY c2)),trivial⟩
   ·refine kq (kq (kq (ae U ?_)))
    exact hk1 _ ⟨U,U,U,(cb (cZ c2)),trivial⟩
  refine aa ?_
  refine tq 5 [(1,Q b1),(3,I 0),(4,I 0),(24,.bool (((aI 0 1048576 ([x.No]))&&(aI 0 1099511627775 ([x.At,x.Known])))&&(aI (-1) 15 ([x.Kind]))))] (fun hk2=>?_) (fun e=>?_)
  ·refine au 19 U (fun c3=>?_) (fun c3=>?_)
   ·refine ay yl U (aL 0 ty3 U U U (a8 (cf (cells:=[I x.Kind]) eG ty3 zc3 U U kr (fun b4=>cn 0 U hM (fun h3 hle3 hb3=>?_)))))
    have sl3:SlC Rp.int h3 (some ⟨b4,0,none⟩) 1 ([x.Kind]):=bW.slB0 (T:=3) (fz:=(0,0)) ((show bW Rp.int h1 [I x.Kind] ([x.Kind]) from ⟨[I x.Kind],[],rfl,rfl,rfl,rfl⟩).mono Rp.cm hle3) hb3
    refine aA (v:=.bool (aI (-1) 15 ([x.Kind]))) qT (fx h3 (-1) 15 ([x.Kind]) (some ⟨b4,0,none⟩) 1 sl3) U (ae U (kJ (h:=h1) hle3 hX hle1 ?_))
    exact hk2 _ ⟨U,U,U,(cb (cY c3)),trivial⟩
   ·refine kq (kq (ae U ?_))
    exact hk2 _ ⟨U,U,U,(cb (cZ c3)),trivial⟩
  refine aa ?_
  refine tq 5 [(1,Q b1),(3,I 0),(4,I 0),(30,.bool ((((aI 0 1048576 ([x.No]))&&(aI 0 1099511627775 ([x.At,x.Known])))&&(aI (-1) 15 ([x.Kind])))&&(aI 1 1099511627776 ([x.Period]))))] (fun hk3=>?_) (fun e=>?_)
  ·refine au 25 U (fun c4=>?_) (fun c4=>?_)
   ·refine ay yk U (aL 0 ty3 U U U (a8 (cf (cells:=[I x.Period]) eG ty3 zc3 U U kr (fun b5=>cn 0 U hM (fun h4 hle4 hb4=>?_)))))
    have sl4:SlC Rp.int h4 (some ⟨b5,0,none⟩) 1 ([x.Period]):=bW.slB0 (T:=3) (fz:=(0,0)) ((show bW Rp.int h1 [I x.Period] ([x.Period]) from ⟨[I x.Period],[],rfl,rfl,rfl,rfl⟩).mono Rp.cm hle4) hb4
    refine aA (v:=.bool (aI 1 1099511627776 ([x.Period]))) qT (fx h4 1 1099511627776 ([x.Period]) (some ⟨b5,0,none⟩) 1 sl4) U (ae U (kJ (h:=h1) hle4 hX hle1 ?_))
    exact hk3 _ ⟨U,U,U,(cb (cY c4)),trivial⟩
   ·refine kq (kq (ae U ?_))
    exact hk3 _ ⟨U,U,U,(cb (cZ c4)),trivial⟩
  refine aa ?_
  refine tq 6 [(1,Q b1),(4,I 0),(37,.bool (((((aI 0 1048576 ([x.No]))&&(aI 0 1099511627775 ([x.At,x.Known])))&&(aI (-1) 15 ([x.Kind])))&&(aI 1 1099511627776 ([x.Period])))&&(aI 0 0 ([x.Count]))))] (fun hk4=>?_) (fun e=>?_)
  ·refine au 31 U (fun c5=>?_) (fun c5=>?_)
   ·refine aa (ay um U (aL 0 ty3 U U U (a8 (cf (cells:=[I x.Count]) eG ty3 zc3 U U kr (fun b6=>cn 0 U hM (fun h5 hle5 hb5=>?_))))))
    have sl5:SlC Rp.int h5 (some ⟨b6,0,none⟩) 1 ([x.Count]):=bW.slB0 (T:=3) (fz:=(0,0)) ((show bW Rp.int h1 [I x.Count] ([x.Count]) from ⟨[I x.Count],[],rfl,rfl,rfl,rfl⟩).mono Rp.cm hle5) hb5
    refine aA (v:=.bool (aI 0 0 ([x.Count]))) qT (fx h5 0 0 ([x.Count]) (some ⟨b6,0,none⟩) 1 sl5) U (ae U (kJ (h:=h1) hle5 hX hle1 ?_))
    exact hk4 _ ⟨U,U,(cb (cY c5)),trivial⟩
   ·refine kq (kq (bY (ae U ?_)))
    exact hk4 _ ⟨U,U,(cb (cZ c5)),trivial⟩
  refine aa ?_
  refine tq 6 [(44,.bool ((((((aI 0 1048576 ([x.No]))&&(aI 0 1099511627775 ([x.At,x.Known])))&&(aI (-1) 15 ([x.Kind])))&&(aI 1 1099511627776 ([x.Period])))&&(aI 0 0 ([x.Count])))&&(aI 0 0 ([x.Value]))))] (fun hk5=>?_) (fun e=>?_)
  ·refine au 38 U (fun c6=>?_) (fun c6=>?_)
   ·refine aa (ay ul U (aL 0 ty3 U U U (a8 (cf (cells:=[I x.Value]) eG ty3 zc3 U U kr (fun b7=>cn 0 U hM (fun h6 hle6 hb6=>?_))))))
    have sl6:SlC Rp.int h6 (some ⟨b7,0,none⟩) 1 ([x.Value]):=bW.slB0 (T:=3) (fz:=(0,0)) ((show bW Rp.int h1 [I x.Value] ([x.Value]) from ⟨[I x.Value],[],rfl,rfl,rfl,rfl⟩).mono Rp.cm hle6) hb6
    refine aA (v:=.bool (aI 0 0 ([x.Value]))) qT (fx h6 0 0 ([x.Value]) (some ⟨b7,0,none⟩) 1 sl6) U (ae U (kJ (h:=h1) hle6 hX hle1 ?_))
    exact hk5 _ ⟨(cb (cY c6)),trivial⟩
   ·refine kq (kq (bY (ae U ?_)))
    exact hk5 _ ⟨(cb (cZ c6)),trivial⟩
  refine an ?_
  exact ar [.bool ((((((aI 0 1048576 ([x.No]))&&(aI 0 1099511627775 ([x.At,x.Known])))&&(aI (-1) 15 ([x.Kind])))&&(aI 1 1099511627776 ([x.Period])))&&(aI 0 0 ([x.Count])))&&(aI 0 0 ([x.Value])))] Tryz.func102 U hX rd (cs hs1)
 ·have hs3:=hs0.trans (bf c1)
  refine ai (sr (ay oe U (aL 0 ty3 U U U (a8 (cf (cells:=[I x.No]) eG ty3 zc3 U U kr (fun b8=>cn 0 U hM (fun h7 hle7 hb7=>?_)))))))
  have sl7:SlC Rp.int h7 (some ⟨b8,0,none⟩) 1 ([x.No]):=bW.slB0 (T:=3) (fz:=(0,0)) ((show bW Rp.int h [I x.No] ([x.No]) from ⟨[I x.No],[],rfl,rfl,rfl,rfl⟩).mono Rp.cm hle7) hb7
  refine aA (v:=.bool (aI 0 1048576 ([x.No]))) qT (fx h7 0 1048576 ([x.No]) (some ⟨b8,0,none⟩) 1 sl7) U (aa ?_)
  refine tq 7 [(1,Q b1),(3,I 1048576),(4,I 1099511627776),(18,.bool ((aI 0 1048576 ([x.No]))&&(aI 0 1099511627775 ([x.At,x.Known]))))] (fun hk6=>?_) (fun e=>?_)
  ·refine au 11 U (fun c7=>?_) (fun c7=>?_)
   ·refine ay yn U (aL 0 ty3 U U U (ay ym U (aL 0 ty3 U U U (a8 (cf (cells:=[I x.At,I x.Known]) eG ty3 zc3 U U kr (fun b9=>cn 0 U hM (fun h8 hle8 hb8=>?_)))))))
    have sl8:SlC Rp.int h8 (some ⟨b9,0,none⟩) 2 ([x.At,x.Known]):=bW.slB0 (T:=3) (fz:=(0,0)) ((show bW Rp.int h7 [I x.At,I x.Known] ([x.At,x.Known]) from ⟨[I x.At],[I x.Known],rfl,rfl,rfl,⟨[I x.Known],[],rfl,rfl,rfl,rfl⟩⟩).mono Rp.cm hle8) hb8
    refine aA (v:=.bool (aI 0 1099511627775 ([x.At,x.Known]))) qT (fx h8 0 1099511627775 ([x.At,x.Known]) (some ⟨b9,0,none⟩) 2 sl8) U (ae U (kJ (h:=h7) hle8 hX hle7 ?_))
    exact hk6 _ ⟨U,U,U,(cb (cY c7)),trivial⟩
   ·refine kq (kq (kq (ae U ?_)))
    exact hk6 _ ⟨U,U,U,(cb (cZ c7)),trivial⟩
  refine aa ?_
  refine tq 5 [(1,Q b1),(3,I 1048576),(4,I 1099511627776),(24,.bool (((aI 0 1048576 ([x.No]))&&(aI 0 1099511627775 ([x.At,x.Known])))&&(aI (-1) 15 ([x.Kind]))))] (fun hk7=>?_) (fun e=>?_)
  ·refine au 19 U (fun c8=>?_) (fun c8=>?_)
   ·refine ay yl U (aL 0 ty3 U U U (a8 (cf (cells:=[I x.Kind]) eG ty3 zc3 U U kr (fun b10=>cn 0 U hM (fun h9 hle9 hb9=>?_)))))
    have sl9:SlC Rp.int h9 (some ⟨b10,0,none⟩) 1 ([x.Kind]):=bW.slB0 (T:=3) (fz:=(0,0)) ((show bW Rp.int h7 [I x.Kind] ([x.Kind]) from ⟨[I x.Kind],[],rfl,rfl,rfl,rfl⟩).mono Rp.cm hle9) hb9
    refine aA (v:=.bool (aI (-1) 15 ([x.Kind]))) qT (fx h9 (-1) 15 ([x.Kind]) (some ⟨b10,0,none⟩) 1 sl9) U (ae U (kJ (h:=h7) hle9 hX hle7 ?_))
    exact hk7 _ ⟨U,U,U,(cb (cY c8)),trivial⟩
   ·refine kq (kq (ae U ?_))
    exact hk7 _ ⟨U,U,U,(cb (cZ c8)),trivial⟩
  refine aa ?_
  refine tq 5 [(1,Q b1),(3,I 1048576),(4,I 1099511627776),(30,.bool ((((aI 0 1048576 ([x.No]))&&(aI 0 1099511627775 ([x.At,x.Known])))&&(aI (-1) 15 ([x.Kind])))&&(aI 1 1099511627776 ([x.Period]))))] (fun hk8=>?_) (fun e=>?_)
  ·refine au 25 U (fun c9=>?_) (fun c9=>?_)
   ·refine ay yk U (aL 0 ty3 U U U (a8 (cf (cells:=[I x.Period]) eG ty3 zc3 U U kr (fun b11=>cn 0 U hM (fun h10 hle10 hb10=>?_)))))
    have sl10:SlC Rp.int h10 (some ⟨b11,0,none⟩) 1 ([x.Period]):=bW.slB0 (T:=3) (fz:=(0,0)) ((show bW Rp.int h7 [I x.Period] ([x.Period]) from ⟨[I x.Period],[],rfl,rfl,rfl,rfl⟩).mono Rp.cm hle10) hb10
    refine aA (v:=.bool (aI 1 1099511627776 ([x.Period]))) qT (fx h10 1 1099511627776 ([x.Period]) (some ⟨b11,0,none⟩) 1 sl10) U (ae U (kJ (h:=h7) hle10 hX hle7 ?_))
    exact hk8 _ ⟨U,U,U,(cb (cY c9)),trivial⟩
   ·refine kq (kq (ae U ?_))
    exact hk8 _ ⟨U,U,U,(cb (cZ c9)),trivial⟩
  refine aa ?_
  refine tq 6 [(1,Q b1),(4,I 1099511627776),(37,.bool (((((aI 0 1048576 ([x.No]))&&(aI 0 1099511627775 ([x.At,x.Known])))&&(aI (-1) 15 ([x.Kind])))&&(aI 1 1099511627776 ([x.Period])))&&(aI 0 1048576 ([x.Count]))))] (fun hk9=>?_) (fun e=>?_)
  ·refine au 31 U (fun c10=>?_) (fun c10=>?_)
   ·refine aa (ay um U (aL 0 ty3 U U U (a8 (cf (cells:=[I x.Count]) eG ty3 zc3 U U kr (fun b12=>cn 0 U hM (fun h11 hle11 hb11=>?_))))))
    have sl11:SlC Rp.int h11 (some ⟨b12,0,none⟩) 1 ([x.Count]):=bW.slB0 (T:=3) (fz:=(0,0)) ((show bW Rp.int h7 [I x.Count] ([x.Count]) from ⟨[I x.Count],[],rfl,rfl,rfl,rfl⟩).mono Rp.cm hle11) hb11
    refine aA (v:=.bool (aI 0 1048576 ([x.Count]))) qT (fx h11 0 1048576 ([x.Count]) (some ⟨b12,0,none⟩) 1 sl11) U (ae U (kJ (h:=h7) hle11 hX hle7 ?_))
    exact hk9 _ ⟨U,U,(cb (cY c10)),trivial⟩
   ·refine kq (kq (bY (ae U ?_)))
    exact hk9 _ ⟨U,U,(cb (cZ c10)),trivial⟩
  refine aa ?_
  refine tq 6 [(44,.bool ((((((aI 0 1048576 ([x.No]))&&(aI 0 1099511627775 ([x.At,x.Known])))&&(aI (-1) 15 ([x.Kind])))&&(aI 1 1099511627776 ([x.Period])))&&(aI 0 1048576 ([x.Count])))&&(aI 0 1099511627776 ([x.Value]))))] (fun hk10=>?_) (fun e=>?_)
  ·refine au 38 U (fun c11=>?_) (fun c11=>?_)
   ·refine aa (ay ul U (aL 0 ty3 U U U (a8 (cf (cells:=[I x.Value]) eG ty3 zc3 U U kr (fun b13=>cn 0 U hM (fun h12 hle12 hb12=>?_))))))
    have sl12:SlC Rp.int h12 (some ⟨b13,0,none⟩) 1 ([x.Value]):=bW.slB0 (T:=3) (fz:=(0,0)) ((show bW Rp.int h7 [I x.Value] ([x.Value]) from ⟨[I x.Value],[],rfl,rfl,rfl,rfl⟩).mono Rp.cm hle12) hb12
    refine aA (v:=.bool (aI 0 1099511627776 ([x.Value]))) qT (fx h12 0 1099511627776 ([x.Value]) (some ⟨b13,0,none⟩) 1 sl12) U (ae U (kJ (h:=h7) hle12 hX hle7 ?_))
    exact hk10 _ ⟨(cb (cY c11)),trivial⟩
   ·refine kq (kq (bY (ae U ?_)))
    exact hk10 _ ⟨(cb (cZ c11)),trivial⟩
  refine an ?_
  exact ar [.bool ((((((aI 0 1048576 ([x.No]))&&(aI 0 1099511627775 ([x.At,x.Known])))&&(aI (-1) 15 ([x.Kind])))&&(aI 1 1099511627776 ([x.Period])))&&(aI 0 1048576 ([x.Count])))&&(aI 0 1099511627776 ([x.Value])))] Tryz.func102 U hX rd (cs hs3)
theorem u9 (h:HF) (l:(List Budget)) (fc:Option Addr) (fb:Nat) (hl:SlC Budget.rp h fc fb l):Ret Tryz.prog 54 [.slice fc l.length fb] h (I (dk l)):=by
 refine aw FQ U Tryz.ntmps54 U fun X hM hX=>?_
 have hs0:dk l=dk l:=rfl
 refine sr (an (ad (sr (aa (bE sI U (aF U (ac ?_)))))))
 refine aB U (fun c1=>?_) (fun c1=>?_)
 ·have c1p:=of_decide_eq_true c1
  have hs1:=hs0.trans (bt c1)
  refine sr (an ?_)
  exact ar [I 2] FQ U hX rd (ci hs1)
 ·have c1p:=of_decide_eq_false c1
  have hs3:=hs0.trans (bf c1)
  refine ai (sr (an (ad (sr (aa (bE sI U (aa (ac ?_))))))))
  refine bq (ι:=Nat×Int) (fun i=>[]) (fun i=>h) (fun i=>[]) (fun i=>i.1≤l.length∧dk l=((dk.K1) i.2)) ?_ (fun hx1=>?_)
  ·rintro ⟨i1,gf⟩ ⟨bd,hs4⟩ e
   try dsimp only at bd
   try dsimp only
   refine sr (an ?_)
   exact ar [I 0] FQ U hX rd (ci hs4)
  ·refine ck (ι:=Nat×Int×List Budget) (fun i=>[(3,I i.2.1),(9,.slice fc l.length fb),(10,I ((l.length:Nat):Int)),(11,I ((i.1:Nat):Int))]) (fun i=>h) (fun i=>[]) (fun i=>l.drop i.1=i.2.2∧i.1≤l.length∧dk l=((dk.L1 (dk.K1)) i.2.2 i.2.1)) (fun i=>i.2.2.length) (0,(-1),l) rd sw ⟨U,Nat.zero_le _,hs3⟩ ?_
   rintro ⟨i1,gf,s1⟩ ⟨hd1,bd,hs6⟩ ag1 e
   try dsimp only at hd1 bd
   rcases s1 with _ | ⟨y1,rz1⟩
   ·have dJ:=cS hd1
    try dsimp only
    refine sr (az (v':=.bool false) U (cb dJ) (ac (ad (ba U (bM U ?_)))))
    exact hx1 (i1,gf) _ ⟨bd,hs6⟩ trivial
   ·have dI:=dV hd1
    have bh:=cU hd1
    have e9:=aP hd1
    have gO:=hl.1.1
    try dsimp only
    refine sr (az (v':=.bool true) U (cb dI) (ac (ad (bj U (ai (ad (aU (sr (a8 (fZ (enc:=Budget.cells) (fun _ _ _ e=>e) sI ty173 hl.1 (nthZ bh) (bA bh) U U U (fun q2 A2=>?_)))))))))))
    refine dT ty173 A2 U U (bT zc173 (fun b2=>bJ 0 ty173 U U U U U U (ac (ad (sr (dh 0 ty173 U U U (aA (v:=.bool (jG y1)) Tryz.call102 (u0 h y1 ) U (cR U (aa ?_)))))))))
    refine tq 5 [(5,Q b2),(9,.slice fc l.length fb),(10,I ((l.length:Nat):Int)),(11,I ((i1:Nat):Int)),(23,.bool ((!(jG y1))||decide (y1.No≤gf)))] (fun hk1=>?_) (fun e=>?_)
    ·refine au 18 U (fun c2=>?_) (fun c2=>?_)
     ·refine kq (kq (ae U ?_))
      exact hk1 _ ⟨U,U,U,U,(cb (eB c2)),trivial⟩
     ·refine ay oe U (aL 0 ty3 U U U (aa (aF U (ae U ?_))))
      exact hk1 _ ⟨U,U,U,U,(cb (eE c2)),trivial⟩
    refine ac ?_
    refine aB U (fun c3=>?_) (fun c3=>?_)
    ·have hs8:=hs6.trans (bt c3)
     refine sr (an ?_)
     exact ar [I 180] FQ U hX rd (ci hs8)
    ·have hs10:=hs6.trans (bf c3)
     refine ai (ah (ay oe U (aL 0 ty3 U U U (an (ao (ah (az (v':=I (((i1+1):Nat):Int)) U (bP ob) (aa (ac ?_)))))))))
     refine cE (L':=[]) js ?_
     exact ag1 ((i1+1),y1.No,rz1) _ (Nat.lt_succ_self _) ⟨bF hd1,aP hd1,hs10⟩ rd
theorem rl (rec:Expr→Int→List fT) (h:HF) (x:Expr) (fu:cM) (x_q:Addr) (depth:Int) (depth_q:Addr) (hrec:∀ (h:HF) (qx:Expr) (jA:cM) (qdepth:Int) (_:Expr.ok h qx jA) (_:0≤qdepth∧qdepth+qx.dep≤2000000) (_:qx.dep < x.dep),jP Tryz.prog 219 [.agg (Expr.cells qx jA).toArray,I qdepth] h (fun v h'=>∃ rv0:Value,v=rv0∧Itr Tryz.prog rv0 pu (rec qx qdepth) h')) (hx:Expr.ok h x fu) (ax:At h x_q (Expr.cells x fu)) (adepth:At h depth_q [I depth]) (hb:0≤depth∧depth+x.dep≤2000000):Itr Tryz.prog (.func (.func 247) #[] (List.toArray [.pointer (some x_q),.pointer (some depth_q)])) pu (aZ.F rec x depth) h:=by
 refine uR Tryz.call247 ?_
 intro yf ya yb C Sp Pn h1 A hle m1 m2 m3 hC hy
 refine jW zr U Tryz.ntmps247 U fun X hXM hX=>?_
 have hs0:aZ.F rec x depth=[]++aZ.F rec x depth:=rfl
 refine sr (dC (fun b1=>ac (ad (sr (aL 0 ty285 U U U (dT ty66 (ax.mono hle) U U (eM ty3 (adepth.mono hle) U (a8 (fO (cells:=[I x.Kind,I x.N,I x.No,.string x.Name,.slice fu.iE x.L.length fu.iG,I depth]) (places:=[(0,5),(5,1)]) Tryz.underlying258 zc258 kr kr ?_)))))))))
 have hx1:aZ.F rec x depth=[]++((fT.mk (Expr.mk x.Kind x.N x.No x.Name x.L) depth)::((aZ.L1 rec depth (aZ.K1)) x.L )):=hs0
 let z1:Nat×Obj:=(b1,O [.func yf ya yb] 285)
 refine a8 (lL ([z1]) A ap (hy [] (fT.mk (Expr.mk x.Kind x.N x.No x.Name x.L) depth) _ _ _ _ hx1 (HF.le_refl _) hC ⟨(vg.mk (cM.mk fu.iE fu.iG)),U,(show fT.ok h1 (fT.mk (Expr.mk x.Kind x.N x.No x.Name x.L) depth) (vg.mk (cM.mk fu.iE fu.iG)) from ⟨(show Expr.ok h1 (Expr.mk x.Kind x.N x.No x.Name x.L) (cM.mk fu.iE fu.iG) from Expr.ok.of (hx.list.mono Expr.aJ hle))⟩)⟩) U U (fun h2 A1 hle1 hC1=>?_) (fun h3 A2 hle2 hS1=>?_) (fun ch1 h4 A3 hle3 hP1 e=>jj (qh [] (A:=A3) zr (List.sublist_append_right _ _) hP1)))
 ·have hs1:aZ.F rec x depth=[(fT.mk (Expr.mk x.Kind x.N x.No x.Name x.L) depth)]++(((aZ.L1 rec depth (aZ.K1)) x.L )):=hx1.trans ap
  refine cR U (ac (ba U (ai (sr (ay dF U (ns (j:=4) ty64 (ax.mono (hle.t hle1)) U U (bE gg U (aa (ac ?_)))))))))
  refine gv ?_
  refine dW (L':=[z1]++(A1++(markB []))) ap ?_
  refine pR (ι:=Nat×List fT×LH×List Nat×HF) (fun i=>[]) (fun i=>marks i.2.2.2.1) (fun i=>i.2.2.2.2) (fun i=>[z1]++(i.2.2.1++(markB i.2.2.2.1))) (fun i=>i.1≤x.L.length∧aZ.F rec x depth=i.2.1++((aZ.K1))∧C i.2.1 i.2.2.2.2 i.2.2.1∧HF.le h2 i.2.2.2.2) ?_ (fun hx1=>?_)
  ·rintro ⟨i1,dn1,A1_,rs1,hh1⟩ ⟨bd,hs2,hC1_,hl1⟩ e
   try dsimp only at bd hC1_ hl1
   try dsimp only
   refine dW (L':=([z1]++(A1_))++markB rs1) ap ?_
   have hs3:aZ.F rec x depth=dn1:=hs2.trans (List.append_nil _)
   exact uS rs1 (A:=A1_) zr U js (.inl (hs3 ▸ hC1_))
  ·refine tN (ι:=Nat×List fT×LH×List Nat×HF×List Expr) (fun i=>[(2,.pointer (some depth_q)),(3,Q b1),(14,.slice fu.iE x.L.length fu.iG),(15,I ((x.L.length:Nat):Int)),(16,I ((i.1:Nat):Int))]) (fun i=>marks i.2.2.2.1) (fun i=>i.2.2.2.2.1) (fun i=>[z1]++(i.2.2.1++(markB i.2.2.2.1))) (fun i=>x.L.drop i.1=i.2.2.2.2.2∧i.1≤x.L.length∧aZ.F rec x depth=i.2.1++((aZ.L1 rec depth (aZ.K1)) i.2.2.2.2.2 )∧C i.2.1 i.2.2.2.2.1 i.2.2.1∧HF.le h2 i.2.2.2.2.1) (fun i=>i.2.2.2.2.2.length) (0,[(fT.mk (Expr.mk x.Kind x.N x.No x.Name x.L) depth)],A1,[],h2,x.L) U rd sw ⟨U,Nat.zero_le _,hs1,hC1,(HF.le_refl h2)⟩ ?_
   rintro ⟨i1,dn1,A1_,rs1,hh1,s1⟩ ⟨hd1,bd,hs4,hC1_,hl1⟩ ag1 e
   try dsimp only at hd1 bd hC1_ hl1
   rcases s1 with _ | ⟨y1,rz1⟩
   ·have dJ:=cS hd1
    try dsimp only
    refine sr (az (v':=.bool false) U (cb dJ) (ac (ad (ba U (bM U ?_)))))
    exact hx1 (i1,dn1,A1_,rs1,hh1) _ ⟨bd,hs4,hC1_,hl1⟩ trivial
   ·have dI:=dV hd1
    have bh:=cU hd1
    have e9:=aP hd1
    have gO:=(hx.list.mono Expr.aJ (hle.t hle1)).1.1
    have hdy:=Expr.iv (gm hd1)
    try dsimp only
    refine sr (az (v':=.bool true) U (cb dI) (ac (ad (bj U (ai (ad (aU (sr (a8 (gX gg ty66 (hx.list.mono Expr.aJ ((hle.t hle1).t hl1)).1 (nthZ bh) (bA bh) U U U (fun q2 cs2 A8 ln2 rr2=>?_)))))))))))
    obtain ⟨r2,rfl,ok2⟩:=rr2
    refine dT ty66 A8 U U (bT zc66 (fun b4=>bJ 0 ty66 U U U U U U (iF (L':=[(b4,O (Expr.cells y1 r2) 66),z1]++(A1_++(markB rs1))) U (ac (ad ?_)))))
    refine ah (dh 0 ty66 U U U (eM ty3 (adepth.mono ((hle.t hle1).t hl1)) U (az (v':=I (depth+1)) U (iZ ob) (a8 (dp Ed (hrec hh1 y1 r2 (depth+1) ok2 ob (Expr.iv (gm hd1))) U (fun v2 h9 hle8 hp2=>?_))))))
    obtain ⟨_,rfl,mo2⟩:=hp2
    refine ac (aU ?_)
    let z2:Nat×Obj:=(b4,O (Expr.cells y1 r2) 66)
    refine dW (L':=([z2,z1]++(A1_))++markB rs1) ap ?_
    refine kc (it:=v2) (xs:=(rec y1 (depth+1))) (ι:=List fT×LH×HF) rs1 (fun i=>i.2.2) (fun i=>[z2,z1]++(i.2.1)) (fun s i=>aZ.F rec x depth=i.1++((aZ.L3 ((aZ.L1 rec depth (aZ.K1) rz1 ))) s )∧C i.1 i.2.2 i.2.1∧HF.le h9 i.2.2) (fun i=>Sp i.2.2 i.2.1∧HF.le h9 i.2.2) (fun _=>False) 0 (fun ch h L=>∃ B,B.Sublist L∧Pn ch h B) (dn1,A1_,h9) zr U mo2 U lF (fun _ _ _ _ hl ⟨B,hs,hp⟩=>⟨B,hs,m3 _ _ _ _ hl hp⟩) U (show [z2,z1]++(A1_)=_ from U) ⟨hs4,(m1 _ _ _ _ hle8 hC1_),(HF.le_refl h9)⟩ ?_ ?_ ?_ ?_ ?_
    ·rintro l3 dm3 lp3 y3 rz3 vs3 ⟨dn3,A3_,hh3⟩ hr3 X hFR3 ⟨hs6,hC3_,hl3⟩ hl03 hlr3 hv3 hX hXM hlp3 nx3 rt3 ex3 pn3
     try dsimp only at hC3_ hl3 hlr3
     obtain ⟨rr3_0,rfl,ok3_0⟩:=hv3
     let z3:Nat×Obj:=(dm3,.deferred (some []))
     refine dW (L':=[(l3,.loop lp3),z3,z2,z1]++(A3_++(markB rs1))) ap ?_
     refine ah (bT zc258 (fun b6=>bJ 0 ty258 U U U U U U (iF (L':=[(b6,O (fT.cells y3 rr3_0) 258),(l3,.loop lp3),z3,z2,z1]++(A3_++(markB rs1))) U ?_)))
     refine ac (kd 1 U hlp3 (aU (sr (aL 4 ty285 U U U (dh 0 ty258 U U U ?_)))))
     have hx4:aZ.F rec x depth=dn3++(y3::((aZ.L3 ((aZ.L1 rec depth (aZ.K1) rz1 ))) rz3 )):=hs6
     let z4:Nat×Obj:=(l3,.loop { lp3 with state:=.busy })
     refine a8 (Gc ([(b6,O (fT.cells y3 rr3_0) 258),z4,z3,z2,z1]) A3_ (markB rs1) ap (hy dn3 y3 _ _ _ _ hx4 ((((hle1.t hl1).t hle8).t hl3).t hlr3) (m1 _ _ _ _ hlr3 hC3_) ⟨rr3_0,U,ok3_0⟩) U U (fun h13 A12 hle12 hC4=>?_) (fun h14 A13 hle13 hS4=>?_) (fun ch4 h15 A14 hle14 hP4 e=>sZ (L':=[z4,z3]++(A14++(markB rs1))) js (pn3 _ _ _ A14 ⟨A14,List.Sublist.refl _,hP4⟩)))
     ·have hs7:aZ.F rec x depth=(dn3++[y3])++(((aZ.L3 ((aZ.L1 rec depth (aZ.K1) rz1 ))) rz3 )):=hx4.trans ap
      refine cR U (ac (ba U (ai (ao ?_))))
      refine cE (L':=[z4,z3,z2,z1]++(A12++(markB rs1))) js ?_
      refine dW (L':=rdH l3 dm3 lp3 (([z2,z1]++(A12))++markB rs1)) ap ?_
      exact nx3 ((dn3++[y3]),A12,h13) _ _ ⟨hs7,hC4,((hl3.t hlr3).t hle12)⟩ (HF.le_refl _)
     ·refine cR U (ac (bj U ?_))
      refine cE (L':=[z4,z3,z2,z1]++(A13++(markB rs1))) js ?_
      refine dW (L':=rdH l3 dm3 lp3 (([z2,z1]++(A13))++markB rs1)) ap ?_
      exact rt3 (dn3,A13,h14) _ _ _ ⟨hS4,((hl3.t hlr3).t hle13)⟩ (HF.le_refl _)
    ·rintro dm3 ⟨dn3,A3_,hh3⟩ hn3 ⟨hs8,hC3_,hl3⟩ hln3 hl03
     try dsimp only at hC3_ hl3 hln3
     refine dW (L':=[z2,z1]++(A3_++(markB (dm3::rs1)))) ap ?_
     refine ao (ao (ah (az (v':=I (((i1+1):Nat):Int)) U (bP ob) (aa (ac ?_)))))
     refine cE (L':=[z1]++(A3_++(markB (dm3::rs1)))) js ?_
     exact ag1 ((i1+1),dn3,A3_,(dm3::rs1),hn3,rz1) _ (Nat.lt_succ_self _) ⟨bF hd1,aP hd1,hs8,(m1 _ _ _ _ hln3 hC3_),(((hl1.t hle8).t hl3).t hln3)⟩ rd
    ·rintro dm3 ⟨dn3,A3_,hh3⟩ hn3 ⟨hS5,hl3⟩ hln3 hl03
     try dsimp only at hS5 hl3 hln3
     refine dW (L':=[z2,z1]++(A3_++(markB (dm3::rs1)))) ap ?_
     refine dW (L':=([z2,z1]++(A3_))++markB (dm3::rs1)) ap ?_
     exact qg (dm3::rs1) (A:=A3_) zr U js (.inr (m2 _ _ _ hln3 hS5))
    ·exact fun _ _ _ hF=>hF.elim
    ·rintro dm3 ch hn3 L0 ⟨B,hB,hp⟩ hl03
     exact qh (dm3::rs1) zr hB hp
 ·refine cR U (ac (bj U ?_))
  refine gv ?_
  exact qg [] (A:=A2) zr U js (.inr hS1)
theorem m5:∀ (m:Nat) (h:HF) (x:Expr) (fu:cM) (depth:Int) (_:Expr.ok h x fu) (_:0≤depth∧depth+x.dep≤2000000) (_:x.dep≤m),jP Tryz.prog 219 [.agg (Expr.cells x fu).toArray,I depth] h (fun v h'=>∃ rv0:Value,v=rv0∧Itr Tryz.prog rv0 pu (aZ.go m x depth) h')
 | 0,h,x,fu,depth,hx,hb,hd=>absurd hd (Nat.not_le.2 (Expr.j1 _))
 | m+1,h,x,fu,depth,hx,hb,hd=>by
  refine aw Tryz.func219 U Tryz.ntmps219 U fun X hM hX=>?_
  refine sr (dC (fun b1=>dC (fun b2=>an (sr ?_))))
  refine cn 1 U hM (fun h2 hle2 hb2=>cn 0 U hM (fun h3 hle3 hb3=>a8 (gj U U (an ?_))))
  refine dQ [.func (.func 247) #[] #[Q b1,Q b2]] Tryz.func219 U rd ⟨_,U,?_⟩
  exact rl (aZ.go m) h3 x fu ⟨b1,0,none⟩ depth ⟨b2,0,none⟩ (fun h' y Jn d' hy hb' hl=>m5 m h' y Jn d' hy hb' ob) (hx.mono (hle2.t hle3)) ((dP hb2).mono hle3) (dP hb3) hb
theorem kL (h:HF) (x:Expr) (fu:cM) (depth:Int) (hx:Expr.ok h x fu) (hb:0≤depth∧depth+x.dep≤2000000):jP Tryz.prog 219 [.agg (Expr.cells x fu).toArray,I depth] h (fun v h'=>∃ rv0:Value,v=rv0∧Itr Tryz.prog rv0 pu (bZ x depth) h'):=m5 _ h x fu depth hx hb (Nat.le_refl _)
theorem gk (h:HF) (ok:Bool) (If:Int)  : Fp Tryz.prog 242 [.bool ok,I If] h (exW stopV (fun r:Unit=>(.tuple #[]:Value)) (eL ok If)):=by
 refine aw Tryz.func242 U Tryz.ntmps242 U fun X hM hX=>?_
 have hs0:eL ok If=eL ok If:=rfl
 refine sr (aa (cR U (ac ?_)))
 refine aB U (fun c1=>?_) (fun c1=>?_)
 ·have hs1:=hs0.trans (bt c1)
  refine ah (aa (a8 (fO (cells:=[I If]) (places:=[(0,1)]) Tryz.underlying277 zc277 kr kr (a8 (gW (HV Tryz.underlying277 U U) ?_)))))
  refine a8 (HP U E6 (fun e=>?_))
  refine jj ?_
  exact lK [] Tryz.func242 hX (congrArg (exW stopV (fun r:Unit=>(.tuple #[]:Value))) hs1)
 ·have hs2:=hs0.trans (bf c1)
  refine ai ?_
  have hs3:eL ok If=(Except.ok ()):=hs2
  refine gv ?_
  exact tO [] [] Tryz.func242 U hX trivial (congrArg (exW stopV (fun r:Unit=>(.tuple #[]:Value))) hs3)
theorem Fd {c:Bool} {e:Int} {u:Unit} (h:eL c e=.ok u):c=true:=by
 cases c with
 | true=>rfl
 | false=>simp [eL] at h
theorem kh (h:HF) (p:Policy) (fp:fh) (hp:Policy.ok h p fp) (hsz0:p.Rules.length≤2000000):jP Tryz.prog 243 [.agg (Policy.cells p fp).toArray] h (fun v h'=>∃ (rb0:Option Addr) (rc0:Nat),v=.slice rb0 (aC p).length rc0∧SlC Expr.rp h' rb0 rc0 (aC p)):=by
 refine aw Tryz.func243 U Tryz.ntmps243 U fun X hM hX=>?_
 have hs0:aC p=aC p:=rfl
 refine sr (dC (fun b1=>an (ad (sr (ay fC U (aL 0 ty63 U U U (bE jV U (aa (ac ?_)))))))))
 let z2:Nat×Obj:=(b1,O (Policy.cells p fp) 68)
 refine bq (ι:=Nat×(List Expr)×Option Addr×Nat×LH) (fun i=>[(1,Q b1),(2,.slice i.2.2.1 i.2.1.length i.2.2.2.1)]) (fun i=>h) (fun i=>[z2]++(i.2.2.2.2)) (fun i=>i.1≤p.Rules.length∧aC p=((aC.K1 p) i.2.1)∧ei Expr.rp 66 h i.2.1 i.2.2.1 i.2.2.2.1 i.2.2.2.2∧i.2.1.length≤0+i.1) ?_ (fun hx1=>?_)
 ·rintro ⟨i1,yh,Ie,Id,GU⟩ ⟨bd,hs1,Aa,GT⟩ e
  try dsimp only at bd Aa GT
  try dsimp only
  refine sr (aa (ay lN U (dh 0 ty66 U U U (a8 (cf (cells:=[I p.Change.Kind,I p.Change.N,I p.Change.No,.string p.Change.Name,.slice fp.Change.iE p.Change.L.length fp.Change.iG]) gg ty66 zc66 U U kr (fun b5=>?_))))))
  let z1:Nat×Obj:=(b5,O [I p.Change.Kind,I p.Change.N,I p.Change.No,.string p.Change.Name,.slice fp.Change.iE p.Change.L.length fp.Change.iG] 66)
  refine a8 (eK Expr.eZ ([z1,z2]) ([]) (fun G=>[z1,z2]++(G)) ap (fun _=>ap) gg ty66 zc66 U bytes66 Aa U U (ff 0 U (show bW Expr.rp h [I p.Change.Kind,I p.Change.N,I p.Change.No,.string p.Change.Name,.slice fp.Change.iE p.Change.L.length fp.Change.iG] ([p.Change]) from ⟨[I p.Change.Kind,I p.Change.N,I p.Change.No,.string p.Change.Name,.slice fp.Change.iE p.Change.L.length fp.Change.iG],[],U,U,⟨fp.Change,U,hp.Change⟩,U⟩)) lo lo (fun ob3 oc3 G3 gr3=>?_))
  refine an ?_
  refine gi Expr.aJ ([z1,z2]) G3 ([]) ap hM gr3 (fun h2 hle2 sl2=>?_)
  have hs2:aC p=(yh++[p.Change]):=hs1
  exact dQ [.slice ob3 ((yh++[p.Change]).length) oc3] Tryz.func243 U rd ⟨ob3,oc3,congrArg (fun r:(List Expr)=>(.slice ob3 r.length oc3:Value)) hs2.symm,(by rw [hs2];exact sl2)⟩
 ·refine ck (ι:=Nat×(List Expr)×Option Addr×Nat×LH×List Rule) (fun i=>[(1,Q b1),(2,.slice i.2.2.1 i.2.1.length i.2.2.2.1),(6,.slice fp.ji p.Rules.length fp.jh),(7,I ((p.Rules.length:Nat):Int)),(8,I ((i.1:Nat):Int))]) (fun i=>h) (fun i=>[z2]++(i.2.2.2.2.1)) (fun i=>p.Rules.drop i.1=i.2.2.2.2.2∧i.1≤p.Rules.length∧aC p=((aC.L1 (aC.K1 p)) i.2.2.2.2.2 i.2.1)∧ei Expr.rp 66 h i.2.1 i.2.2.1 i.2.2.2.1 i.2.2.2.2.1∧i.2.1.length≤0+i.1) (fun i=>i.2.2.2.2.2.length) (0,[],none,0,[],p.Rules) rd sw ⟨U,Nat.zero_le _,hs0,ei.nil,lo⟩ ?_
  rintro ⟨i1,yh,Ie,Id,GU,s1⟩ ⟨hd1,bd,hs3,Aa,GT⟩ ag1 e
  try dsimp only at hd1 bd Aa GT
  rcases s1 with _ | ⟨y1,rz1⟩
  ·have dJ:=cS hd1
   try dsimp only
   refine sr (az (v':=.bool false) U (cb dJ) (ac (ad (ba U (bM U ?_)))))
   exact hx1 (i1,yh,Ie,Id,GU) _ ⟨bd,hs3,Aa,lo⟩ rd
  ·have dI:=dV hd1
   have bh:=cU hd1
   have e9:=aP hd1
   have gO:=hp.Rules.1.1
   try dsimp only
   refine sr (az (v':=.bool true) U (cb dI) (ac (ad (bj U (ai (ad (aU (sr (a8 (gX jV ty107 hp.Rules.1 (nthZ bh) (bA bh) U U U (fun q2 cs2 A2 ln2 rr2=>?_)))))))))))
   obtain ⟨r2,rfl,ok2⟩:=rr2
   refine dT ty107 A2 U U (bT zc107 (fun b6=>bJ 0 ty107 U U U U U U (iF (L':=[(b6,O (Rule.cells y1 r2) 107),z2]++(GU)) U (ac (ah (aa ?_))))))
   refine ay kn U (dh 0 ty66 U U U (a8 (cf (cells:=[I y1.Expr.Kind,I y1.Expr.N,I y1.Expr.No,.string y1.Expr.Name,.slice r2.Expr.iE y1.Expr.L.length r2.Expr.iG]) gg ty66 zc66 U U kr (fun b7=>?_))))
   let z3:Nat×Obj:=(b7,O [I y1.Expr.Kind,I y1.Expr.N,I y1.Expr.No,.string y1.Expr.Name,.slice r2.Expr.iE y1.Expr.L.length r2.Expr.iG] 66)
   refine a8 (eK Expr.eZ ([z3,(b6,O (Rule.cells y1 r2) 107),z2]) ([]) (fun G=>[z3,(b6,O (Rule.cells y1 r2) 107),z2]++(G)) ap (fun _=>ap) gg ty66 zc66 U bytes66 Aa U U (ff 0 U (show bW Expr.rp h [I y1.Expr.Kind,I y1.Expr.N,I y1.Expr.No,.string y1.Expr.Name,.slice r2.Expr.iE y1.Expr.L.length r2.Expr.iG] ([y1.Expr]) from ⟨[I y1.Expr.Kind,I y1.Expr.N,I y1.Expr.No,.string y1.Expr.Name,.slice r2.Expr.iE y1.Expr.L.length r2.Expr.iG],[],U,U,⟨r2.Expr,U,ok2.Expr⟩,U⟩)) lo lo (fun ob4 oc4 G4 gr4=>?_))
   refine an (ao (ah (az (v':=I (((i1+1):Nat):Int)) U (bP ob) (aa (ac ?_)))))
   refine cE (L':=[z2]++(G4)) js ?_
   exact ag1 ((i1+1),(yh++[y1.Expr]),ob4,oc4,G4,rz1) _ (Nat.lt_succ_self _) ⟨bF hd1,aP hd1,hs3,gr4,lo⟩ rd
theorem EM (p:Policy):∀ (l:List Rule) (g:List Expr),aC.L1 (aC.K1 p) l g=g++(l.map (·.Expr)++[p.Change])
 | [],g=>by simp [aC.L1,aC.K1]
 | y::l,g=>by simp [aC.L1,EM p l]
theorem Ha (p:Policy):aC p=p.Rules.map (·.Expr)++[p.Change]:=by
 unfold aC;rw [EM];simp
theorem uu {p:Policy} (h:smP p) {y:Expr} (hy:y∈aC p):y.dep≤1500000:=by
 rw [Ha] at hy
 rcases List.mem_append.1 hy with hy | hy
 ·obtain ⟨r,hr,rfl⟩:=List.mem_map.1 hy;exact h.2.1 r hr
 ·rw [List.mem_singleton.1 hy];exact h.2.2.1
theorem tY (h:HF) (p:Policy) (fp:fh) (hp:Policy.ok h p fp) (hsm:smP p):Fp Tryz.prog 215 [.agg (Policy.cells p fp).toArray] h (exW stopV (fun r:Unit=>(.tuple #[]:Value)) (ct p)):=by
 refine aw Ec U Tryz.ntmps215 U fun X hM hX=>?_
 have hs0:ct p=ct p:=rfl
 have hsr:=hsm.rules
 have hsc:=hsm.change
 refine sr (dC (fun b1=>ac (sr (ay jO U (aL 0 ty62 U U U (bE kV U (aF U (aa ?_))))))))
 refine tq 5 [(1,Q b1),(15,.bool (decide (((p.Offices.length:Nat):Int)≤32)&&decide (((p.Kinds.length:Nat):Int)≤16)))] (fun hk1=>?_) (fun e=>?_)
 ·refine au 10 U (fun c1=>?_) (fun c1=>?_)
  ·refine ay kO U (aL 0 ty62 U U U (bE kV U (aF U (ae U ?_))))
   exact hk1 _ ⟨U,(cb (cY c1)),trivial⟩
  ·refine kq (kq (ae U ?_))
   exact hk1 _ ⟨U,(cb (cZ c1)),trivial⟩
 refine aa ?_
 refine tq 5 [(1,Q b1),(21,.bool ((decide (((p.Offices.length:Nat):Int)≤32)&&decide (((p.Kinds.length:Nat):Int)≤16))&&decide (((p.Rules.length:Nat):Int)≤16)))] (fun hk2=>?_) (fun e=>?_)
 ·refine au 16 U (fun c2=>?_) (fun c2=>?_)
  ·refine ay fC U (aL 0 ty63 U U U (bE jV U (aF U (ae U ?_))))
   exact hk2 _ ⟨U,(cb (cY c2)),trivial⟩
  ·refine kq (kq (ae U ?_))
   exact hk2 _ ⟨U,(cb (cZ c2)),trivial⟩
 refine a8 (kK sG (gk h ((decide (((p.Offices.length:Nat):Int)≤32)&&decide (((p.Kinds.length:Nat):Int)≤16))&&decide (((p.Rules.length:Nat):Int)≤16)) 2 ) U (fun u1 hu1=>?_) (fun pv1 hpv1 e=>?_))
 ·obtain ⟨rx1,hrx1,rfl⟩:=mC hu1
  have hs1:=hs0.trans (mB hrx1)
  cases rx1
  refine ac (sr (dh 0 ty68 U U U (a8 (dp Tryz.call243 (kh h p fp hp ob) U (fun v1 h1 hle1 hp1=>?_)))))
  obtain ⟨rb1,rc1,rfl,sl1⟩:=hp1
  refine bE gg U (aa (ac ?_))
  refine gv ?_
  let z1:Nat×Obj:=(b1,O (Policy.cells p fp) 68)
  refine dW (L':=[z1]++(markB [])) ap ?_
  refine pR (ι:=Nat×List Nat×HF) (fun i=>[]) (fun i=>marks i.2.1) (fun i=>i.2.2) (fun i=>[z1]++(markB i.2.1)) (fun i=>i.1≤(aC p).length∧ct p=((ct.K1))∧HF.le h1 i.2.2) ?_ (fun hx1=>?_)
  ·rintro ⟨i1,rs1,hh1⟩ ⟨bd,hs2,hl1⟩ e
   try dsimp only at bd hl1
   try dsimp only
   have hs3:ct p=(Except.ok ()):=hs2
   refine dW (L':=([z1])++markB rs1) ap ?_
   exact tO rs1 [] Ec U hX trivial (congrArg (exW stopV (fun r:Unit=>(.tuple #[]:Value))) hs3)
  ·refine tN (ι:=Nat×List Nat×HF×List Expr) (fun i=>[(24,.slice rb1 ((aC p).length) rc1),(25,I (((aC p).length:Nat):Int)),(26,I ((i.1:Nat):Int))]) (fun i=>marks i.2.1) (fun i=>i.2.2.1) (fun i=>[z1]++(markB i.2.1)) (fun i=>(aC p).drop i.1=i.2.2.2∧i.1≤(aC p).length∧ct p=((ct.L1 (ct.K1)) i.2.2.2 )∧HF.le h1 i.2.2.1) (fun i=>i.2.2.2.length) (0,[],h1,(aC p)) U rd sw ⟨U,Nat.zero_le _,hs1,(HF.le_refl h1)⟩ ?_
   rintro ⟨i1,rs1,hh1,s1⟩ ⟨hd1,bd,hs4,hl1⟩ ag1 e
   try dsimp only at hd1 bd hl1
   rcases s1 with _ | ⟨y1,rz1⟩
   ·have dJ:=cS hd1
    try dsimp only
    refine sr (az (v':=.bool false) U (cb dJ) (ac (ad (ba U (bM U ?_)))))
    exact hx1 (i1,rs1,hh1) _ ⟨bd,hs4,hl1⟩ trivial
   ·have dI:=dV hd1
    have bh:=cU hd1
    have e9:=aP hd1
    have gO:=sl1.1.1
    try have hsy:=uu hsm (gm hd1)
    try dsimp only
    refine sr (az (v':=.bool true) U (cb dI) (ac (ad (bj U (ai (ad (aU (sr (a8 (gX gg ty66 (sl1.mono Expr.aJ hl1).1 (nthZ bh) (bA bh) U U U (fun q2 cs2 A2 ln2 rr2=>?_)))))))))))
    obtain ⟨r2,rfl,ok2⟩:=rr2
    refine dT ty66 A2 U U (bT zc66 (fun b5=>bJ 0 ty66 U U U U U U (ac (sr (bT zc3 (fun b6=>du 0 ty3 U U U U U U (ac (sr (dh 1 ty66 U U U (a8 (dp Ed (kL hh1 y1 r2 1 ok2 ob) U (fun v3 h3 hle3 hp3=>?_))))))))))))
    obtain ⟨_,rfl,mo2⟩:=hp3
    refine ac (aU ?_)
    let z2:Nat×Obj:=(b5,O (Expr.cells y1 r2) 66)
    refine dW (L':=([(b6,O [I 0] 3),z2,z1])++markB rs1) ap ?_
    refine kc (it:=v3) (xs:=(bZ y1 1)) (ι:=Int×HF) rs1 (fun i=>i.2) (fun i=>[(b6,O [I i.1] 3),z2,z1]) (fun s i=>ct p=((ct.L3 (fun zg3_b6_0=>(ct.L1 (ct.K1) rz1 ))) s i.1)∧HF.le h3 i.2) (fun _=>False) (fun _=>False) 0 (fun ch _ _=>∃ pv_,ch=[{ v:=stopV pv_,recovered:=false }]∧ct p=.error pv_) (0,h3) Ec U mo2 U lF (fun _ _ _ _ _ hq=>hq) U (show [(b6,O [I 0] 3),z2,z1]=_ from U) ⟨hs4,(HF.le_refl h3)⟩ ?_ ?_ ?_ ?_ ?_
    ·rintro l3 dm3 lp3 y3 rz3 vs3 ⟨qk,hh3⟩ hr3 X hFR3 ⟨hs6,hl3⟩ hl03 hlr3 hv3 hX hXM hlp3 nx3 rt3 ex3 pn3
     try dsimp only at hl3 hlr3
     obtain ⟨rr3_0,rfl,ok3_0⟩:=hv3
     let z4:Nat×Obj:=(dm3,.deferred (some []))
     refine dW (L':=[(l3,.loop lp3),z4,(b6,O [I qk] 3),z2,z1]++(markB rs1)) ap ?_
     refine ah (bT zc258 (fun b8=>bJ 0 ty258 U U U U U U (ac (kd 1 U hlp3 (aU (sr (aL 3 ty3 U U U (aF U (du 3 ty3 U U U U U U (ac (ah (aL 3 ty3 U U U (aF U ?_)))))))))))))
     refine aa ?_
     refine tq 4 [(41,.bool (decide ((IntKind.wrap .i64 (qk+1))≤256)&&decide (y3.depth≤16)))] (fun hk3=>?_) (fun e=>?_)
     ·refine au 37 U (fun c3=>?_) (fun c3=>?_)
      ·refine ay GX U (aL 0 ty3 U U U (aF U (ae U ?_)))
       exact hk3 _ ⟨(cb (cY c3)),trivial⟩
      ·refine kq (bY (ae U ?_))
       exact hk3 _ ⟨(cb (cZ c3)),trivial⟩
     refine a8 (kK sG (gk hr3 (decide ((IntKind.wrap .i64 (qk+1))≤256)&&decide (y3.depth≤16)) 2 ) U (fun u2 hu2=>?_) (fun pv2 hpv2 e=>?_))
     ·obtain ⟨rx2,hrx2,rfl⟩:=mC hu2
      have hs7:=hs6.trans (mB hrx2)
      cases rx2
      refine ac (ao ?_)
      let z3:Nat×Obj:=(b6,O [I (IntKind.wrap .i64 (qk+1))] 3)
      refine cE (L':=[(l3,.loop { lp3 with state:=.busy }),z4,z3,z2,z1]++(markB rs1)) js ?_
      refine dW (L':=rdH l3 dm3 lp3 (([z3,z2,z1])++markB rs1)) ap ?_
      exact nx3 ((IntKind.wrap .i64 (qk+1)),hr3) _ _ ⟨hs7,(hl3.t hlr3)⟩ (HF.le_refl _)
     ·obtain ⟨pv2e,hpv2e,rfl⟩:=kR hpv2
      have hs8:=hs6.trans (kQ hpv2e)
      refine sZ (L':=[(l3,.loop { lp3 with state:=.busy }),z4]++(markB rs1)) js ?_
      exact pn3 _ _ _ [] ⟨_,U,hs8⟩
    ·rintro dm3 ⟨qk,hh3⟩ hn3 ⟨hs9,hl3⟩ hln3 hl03
     try dsimp only at hl3 hln3
     refine dW (L':=[(b6,O [I qk] 3),z2,z1]++(markB (dm3::rs1))) ap ?_
     refine ao (ao (ah (az (v':=I (((i1+1):Nat):Int)) U (bP ob) (aa (ac ?_)))))
     refine cE (L':=[z1]++(markB (dm3::rs1))) js ?_
     exact ag1 ((i1+1),(dm3::rs1),hn3,rz1) _ (Nat.lt_succ_self _) ⟨bF hd1,aP hd1,hs9,(((hl1.t hle3).t hl3).t hln3)⟩ rd
    ·exact fun _ _ _ hF=>hF.elim
    ·exact fun _ _ _ hF=>hF.elim
    ·rintro dm3 ch hn3 L0 ⟨pv_,rfl,hpv_⟩ hl03
     exact lK (dm3::rs1) Ec hX (congrArg (exW stopV (fun r:Unit=>(.tuple #[]:Value))) hpv_)
 ·obtain ⟨pv1e,hpv1e,rfl⟩:=kR hpv1
  have hs10:=hs0.trans (kQ hpv1e)
  refine jj ?_
  exact lK [] Ec hX (congrArg (exW stopV (fun r:Unit=>(.tuple #[]:Value))) hs10)
end Go.Sg
namespace Go.Sg
open Go.Proofs
theorem ext282:Extern.find Tryz.f282=some Extern.BytealgIndexByte.indexByte:=by kernel_rfl
theorem ext282n:Extern.findNext Tryz.f282=none:=by kernel_rfl
theorem run282 (s:ByteArray) (c:Int) (w:World):(Extern.BytealgIndexByte.indexByte #[.string s,.int .u8 c]).run Tryz.prog w=.ok (.int .i64 (idxByte s c)) w:=by
 show (do
  let b ← Extern.Bytes.bytesOf (.string s)
  let c ← Extern.Bytes.asByte (.int .u8 c)
  match (List.range b.size).find? fun i=>b[i]! == c with
  | some i=>pure (goInt i)
  | none=>pure (goInt (-1)):Sem Value).run Tryz.prog w=_
 simp only [Extern.Bytes.bytesOf,Extern.Bytes.asByte,Sem.run_bind,Sem.run_pure,Result.andThen_ok,idxByte,goInt]
 cases hf:(List.range s.size).find? (fun i=>s[i]! == UInt8.ofNat c.toNat) with
 | none=>simp only [show c.toNat.toUInt8=UInt8.ofNat c.toNat from rfl,hf];simp
 | some i=>simp only [show c.toNat.toUInt8=UInt8.ofNat c.toNat from rfl,hf];simp
theorem call282 (s:ByteArray) (c:Int) (w:World):(callFunc 282 #[.string s,.int .u8 c]).run Tryz.prog w=.ok (.value (.int .i64 (idxByte s c))) w:=by
 have hb:Tryz.f282.body.isNone=true:=by kernel_rfl
 have hn : (Tryz.f282.name == "runtime.NumGoroutine") = false := by kernel_rfl
 simp only [callFunc,Sem.run_bind,run_program,Result.andThen_ok,Tryz.func282,hn,hb,ext282,ext282n]
 simp [run282]
theorem Gt {e:Env} {X:Cx} {h:HF} {L:LH} {d:Option Nat} {ty:TypeId} {pos:String} {af:Array Edge} {g:Option (Nat×Bool)} {x y:Operand} {ats:Array TypeId} {s:ByteArray} {c:Int} (hx:e.ev x=.string s) (hy:e.ev y=.int .u8 c):
  ∀ w,St X h L w→(execOp e.ev ⟨d,.call ⟨.value (.func 282),#[x,y],ats⟩,ty,pos,af,g⟩).run Tryz.prog w=.ok (.value (.int .i64 (idxByte s c))) w:=
 fun w _=>by
  have hf:e.ev (.func 282)=.func (.func 282) #[] #[]:=rfl
  simp [execOp,resolve,hf,Deferred.ofValue,invoke,hx,hy,call282]
end Go.Sg
