import Derived.ChangeArms
import Derived.OpenShut
import Derived.Test.YtngiefchigcphaaGreatDoorRows
import Derived.LaidHandle
import Derived.WordedOn
import Derived.ChangeSame
import Derived.Carry
import Derived.Test.YtngiefchigcphaaGreatDoorW4
/- A part of the proof of AsofSmallest. -/
set_option linter.unusedVariables false
set_option linter.unusedSimpArgs false
set_option maxRecDepth 100000
namespace Go.Sg
open Go.Proofs
set_option maxHeartbeats 2000000
def hOf (w:World):HF:=fun b=>w.heap[b]?
theorem pre_hOf (w:World):Pre (hOf w) [] w:=⟨fun _ _ h=>h,fun _ hp=>(List.not_mem_nil hp).elim,List.nodup_nil,fun _ hp=>(List.not_mem_nil hp).elim⟩
theorem FP {w:World} {a:Addr} {v:Value} (h:w.cell? a=some v):a.spot=none∧∃ c T fz,w.heap[a.block]? = some (.cells c T fz)∧c[a.off]? = some v:=by
 unfold World.cell? at h
 split at h
 ·next c T fz e=>
  split at h
  ·cases h
  ·next hs=>exact ⟨by simpa using hs,c,T,fz,e,h⟩
 ·cases h
theorem C0 {α β : Type} {f:α→Option β}:∀ {l:List α} {r:List β},l.mapM f=some r→l.length=r.length∧∀ (j:Nat) (x:α),l[j]? = some x→f x=r[j]?
 | [],r,h=>by simp at h;subst h;exact ⟨rfl,fun j x hj=>by simp at hj⟩
 | a::l,r,h=>by
  rw [List.mapM_cons] at h
  simp only [Option.bind_eq_bind,Option.bind_eq_some_iff,Option.pure_def,Option.some.injEq] at h
  obtain ⟨b,hb,r',hr,rfl⟩:=h
  obtain ⟨h1,h2⟩:=C0 hr
  refine ⟨by simp [h1],fun j x hj=>?_⟩
  cases j with
  | zero=>simp at hj;subst hj;simpa using hb
  | succ j=>simpa using h2 j x (by simpa using hj)
theorem Il {w:World} {base n:Nat} {a:Addr} {cs:List Value} (hn:0 < n) (h:w.cells? base a n=some cs):At (hOf w) a cs∧cs.length=n:=by
 unfold World.cells? at h
 split at h
 ·obtain ⟨h1,h2⟩:=C0 h
  rw [List.length_range] at h1
  have hc:∀ j v,cs[j]? = some v→w.cell? (a.add j)=some v:=fun j v hv=>by
   have hj:=(List.getElem?_eq_some_iff.1 hv).1
   rw [h2 j j (List.getElem?_range (by omega))];exact hv
  obtain ⟨v,hv⟩:∃ v,cs[0]? = some v:=⟨cs[0],List.getElem?_eq_getElem (by omega)⟩
  obtain ⟨s1,c,T,fz,s2,s3⟩:=FP (hc 0 v hv)
  have hsp:a.spot=none:=by simpa [Addr.add] using s1
  have hbl:∀ j,(a.add j).block=a.block∧(a.add j).off=a.off+j:=fun j=>by
   unfold Addr.add
   split
   ·next e=>subst e;exact ⟨rfl,rfl⟩
   ·exact ⟨rfl,rfl⟩
  refine ⟨⟨c,T,fz,?_,hsp,fun j u hu=>?_⟩,h1.symm⟩
  ·rw [(hbl 0).1] at s2;exact s2
  ·obtain ⟨_,c',T',fz',t2,t3⟩:=FP (hc j u hu)
   rw [(hbl j).1] at t2
   rw [(hbl 0).1,t2] at s2
   cases s2
   rw [(hbl j).2] at t3;exact t3
 ·cases h
def szL {α : Type} (f:α→Nat):List α→Nat
 | []=>0
 | x::xs=>f x+szL f xs
theorem xE {α : Type} (f:α→Nat):∀ (l r:List α),szL f (l++r)=szL f l+szL f r
 | [],r=>by simp [szL]
 | x::l,r=>by simp [szL,xE f l r,Nat.add_assoc]
theorem szL_len {α : Type} {f:α→Nat} (hf:∀ x,1≤f x):∀ (l:List α),l.length≤szL f l
 | []=>Nat.le_refl _
 | x::l=>by have:=szL_len hf l;have:=hf x;simp [szL];omega
theorem AZ {α : Type} {f:α→Nat} {x:α}:∀ {l:List α},x∈l→f x≤szL f l
 | y::l,h=>by
  rcases List.mem_cons.1 h with rfl | h
  ·simp [szL]
  ·have:=AZ (f:=f) h;simp [szL];omega
theorem Fo:∀ (l:List Expr),szL Expr.dep l=Expr.depL l
 | []=>rfl
 | y::l=>by simp [szL,Expr.depL,Fo l]
open YtngiefchigcphaaGreatDoor.Rows in
theorem bulk_one {H:Type} (d:DataW H):1≤uptoBulk d:=by
 cases d with
 | lit l=>cases l <;> simp [uptoBulk]
 | nil=>simp [uptoBulk]
 | ptr d=>simp [uptoBulk]
 | slice elems spare=>simp [uptoBulk]
 | agg parts=>simp [uptoBulk]
 | iface t d=>simp [uptoBulk]
 | map entries=>simp [uptoBulk]
 | held h=>simp [uptoBulk]
open YtngiefchigcphaaGreatDoor.Rows in
theorem DM {H:Type} (l r:List (DataW H)):uptoBulkAll (l++r)=uptoBulkAll l+uptoBulkAll r:=by
 induction l with
 | nil=>simp [uptoBulkAll]
 | cons x l ih=>simp only [List.cons_append,uptoBulkAll,ih];omega
section opn
open YtngiefchigcphaaGreatDoor.Rows
variable {H:Type} {enc:TypeId×Value→H} {P:Program} {w:World} {base:Nat} {sp:Nat→Bool} {held:Bool}
def Opn (enc:TypeId×Value→H) (P:Program) (w:World) (base:Nat) (sp:Nat→Bool) (held:Bool) {α : Type} (T:TypeId) (R:Rp α) (sz:α→Nat) (fuel:Nat):Prop:=
 ∀ cs d ps,DataW.trod enc P w base sp held fuel T cs=some (d,ps)→∃ x,R.rep (hOf w) cs x∧sz x≤uptoBulk d
theorem opn_slice {α : Type} {R:Rp α} {sz:α→Nat} {T E:TypeId} {fuel:Nat} (ht:P.underlying T=some (.slice E)) (hc:P.cellsOf E=R.sz) (hp:0 < R.sz) (he:∀ n,fuel=n+1→Opn enc P w base sp held E R sz n) {cs:List Value} {d:DataW H} {ps:List MemPlace}
  (h:DataW.trod enc P w base sp held fuel T cs=some (d,ps)):∃ b c xs,cs=[.slice b (List.length xs) c]∧SlC R (hOf w) b c xs∧szL sz xs+1≤uptoBulk d:=by
 rcases DataW.trod_slice ht h with ⟨rfl,e⟩ | ⟨a,len,cap,elems,rest,n,hn,rfl,hx,h1,h2,h3,h4,h5,_,_⟩
 ·cases e
  exact ⟨none,0,[],rfl,SlC.nil,by simp [szL,uptoBulk]⟩
 ·cases hx
  have key:∀ k,k≤len→∃ xs:List α,xs.length=k∧(∀ i x,xs[i]? = some x→∃ cs',At (hOf w) (a.add (i * R.sz)) cs'∧cs'.length=R.sz∧R.rep (hOf w) cs' x)∧szL sz xs≤uptoBulkAll ((elems.take k).map (·.1)):=by
   intro k
   induction k with
   | zero=>exact fun _=>⟨[],rfl,fun i x hx=>by simp at hx,by simp [szL]⟩
   | succ k ih=>
    intro hk
    obtain ⟨xs,e1,e2,e3⟩:=ih (by omega)
    have hkl:k < elems.length:=by omega
    have c0:=h5 k (by omega)
    rw [List.getElem?_eq_getElem hkl] at c0
    obtain ⟨cs',c1,c2⟩:=Option.bind_eq_some_iff.1 c0
    rw [hc] at c1
    obtain ⟨x,x1,x2⟩:=he n hn _ _ _ c2
    obtain ⟨k1,k2⟩:=Il hp c1
    refine ⟨xs++[x],by simp [e1],fun i y hy=>?_,?_⟩
    ·rcases Nat.lt_or_ge i xs.length with hi | hi
     ·rw [List.getElem?_append_left hi] at hy;exact e2 i y hy
     ·rw [List.getElem?_append_right hi] at hy
      have hi2:i=k:=by
       have:=(List.getElem?_eq_some_iff.1 hy).1
       simp at this;omega
      subst hi2
      rw [show i - xs.length=0 from by omega] at hy
      simp at hy;subst hy
      exact ⟨cs',k1,k2,x1⟩
    ·rw [xE,List.take_add_one,List.map_append,DM,List.getElem?_eq_getElem hkl]
     simp only [szL,Option.toList_some,List.map_cons,List.map_nil,uptoBulkAll]
     have x3:sz x≤uptoBulk (elems[k]).1:=x2
     omega
  obtain ⟨xs,e1,e2,e3⟩:=key len (Nat.le_refl _)
  refine ⟨some a,cap,xs,by rw [e1],⟨⟨?_,fun i x hx=>?_⟩,by omega⟩,?_⟩
  ·have:maxLen≤9223372036854775807:=by decide
   omega
  ·obtain ⟨cs',k1,k2,k3⟩:=e2 i x hx
   exact ⟨a,cs',rfl,k1,k2,k3⟩
  ·rw [List.take_of_length_le (by omega)] at e3
   simp only [uptoBulk]
   omega
theorem opn_int {T:TypeId} (ht:P.underlying T=some (.int .i64)) (n:Nat):Opn enc P w base sp held T Rp.int (fun _=>1) n:=by
 intro cs d ps h
 refine (?_:∃ x,Rp.int.rep (hOf w) cs x).imp fun _ h=>⟨h,bulk_one d⟩
 cases n with
 | zero=>simp [DataW.trod] at h
 | succ n=>
  unfold DataW.trod at h
  rw [ht] at h
  split at h <;> simp_all
  next k k' z e=>
   obtain ⟨⟨h1,_⟩,h2,_⟩:=h
   subst h1
   exact ⟨z,by first | rfl | (subst e;rfl) | (cases e;rfl)⟩
theorem JF {T:TypeId} (ht:P.underlying T=some (.int .u8)) (n:Nat):Opn enc P w base sp held T ⟨1,fun _ cs (x:Int)=>cs=[.int .u8 x]⟩ (fun _=>1) n:=by
 intro cs d ps h
 refine (?_:∃ x:Int,cs=[.int .u8 x]).imp fun _ h=>⟨h,bulk_one d⟩
 cases n with
 | zero=>simp [DataW.trod] at h
 | succ n=>
  unfold DataW.trod at h
  rw [ht] at h
  split at h <;> simp_all
theorem pP {T:TypeId} (ht:P.underlying T=some .bool) (n:Nat):Opn enc P w base sp held T Rp.bool (fun _=>1) n:=by
 intro cs d ps h
 obtain ⟨b,rfl,_⟩:=DataW.trod_bool ht h
 exact ⟨b,rfl,bulk_one d⟩
theorem uT {T:TypeId} (ht:P.underlying T=some .string) (n:Nat):Opn enc P w base sp held T Rp.str (fun _=>1) n:=by
 intro cs d ps h
 refine (?_:∃ x,Rp.str.rep (hOf w) cs x).imp fun _ h=>⟨h,bulk_one d⟩
 cases n with
 | zero=>simp [DataW.trod] at h
 | succ n=>
  unfold DataW.trod at h
  rw [ht] at h
  split at h <;> simp_all
  all_goals exact ⟨_,rfl⟩
def TrF (enc:TypeId×Value→H) (P:Program) (w:World) (base:Nat) (sp:Nat→Bool) (held:Bool) (fuel:Nat):List TypeId→List Value→List (DataW H)→Prop
 | [],cs,ds=>cs=[]∧ds=[]
 | t::ts,cs,ds=>∃ c cs' d ds' p,cs=c++cs'∧ds=d::ds'∧DataW.trod enc P w base sp held fuel t c=some (d,p)∧TrF enc P w base sp held fuel ts cs' ds'
def contig (P:Program):List Field→Nat→Option Nat
 | [],o=>some o
 | f::fs,o=>if f.offset=o then contig P fs (o+P.cellsOf f.type) else none
theorem GV {n:Nat} {cs:List Value}:∀ (fs:List Field) (xs:List (DataW H×List MemPlace)) (o:Nat),xs.length=fs.length→contig P fs o=some cs.length →
  (∀ (i:Nat) (f:Field),fs[i]? = some f→DataW.trod enc P w base sp held n f.type ((cs.drop f.offset).take (P.cellsOf f.type))=xs[i]?)→TrF enc P w base sp held n (fs.map (·.type)) (cs.drop o) (xs.map (·.1))
 | [],xs,o,hl,hc,_=>by
  simp only [contig,Option.some.injEq] at hc
  subst hc
  rw [List.length_nil,List.length_eq_zero_iff] at hl
  subst hl
  exact ⟨by simp,rfl⟩
 | f::fs,[],o,hl,hc,hx=>by simp at hl
 | f::fs,x::xs,o,hl,hc,hx=>by
  unfold contig at hc
  split at hc
  ·next ho=>
   have h0:=hx 0 f rfl
   rw [ho] at h0
   simp only [List.getElem?_cons_zero] at h0
   refine ⟨(cs.drop o).take (P.cellsOf f.type),cs.drop (o+P.cellsOf f.type),x.1,xs.map (·.1),x.2,?_,rfl,h0,GV fs xs _ (by simpa using hl) hc (fun i g hg=>by simpa using hx (i+1) g (by simpa using hg))⟩
   rw [← List.drop_drop,List.take_append_drop]
  ·cases hc
theorem kg {T:TypeId} {fs:Array Field} {fuel:Nat} {cs:List Value} {d:DataW H} {ps:List MemPlace} (ht:P.underlying T=some (.struct fs)) (hk:contig P fs.toList 0=some (P.cellsOf T)) (h:DataW.trod enc P w base sp held fuel T cs=some (d,ps)):
  ∃ n ds,fuel=n+1∧d=.agg ds∧TrF enc P w base sp held n (fs.toList.map (·.type)) cs ds:=by
 obtain ⟨xs,n,hn,hx,hl,hlen,hf⟩:=DataW.trod_struct ht h
 cases hx
 refine ⟨n,_,hn,rfl,?_⟩
 have:=GV (enc:=enc) (w:=w) (base:=base) (sp:=sp) (held:=held) (n:=n) (cs:=cs) fs.toList xs 0 (by simpa using hlen) (by rw [hk,hl]) (fun i f hi=>hf i f (by simpa using hi))
 simpa using this
theorem Gb {T E:TypeId} {m:Nat} (ht:P.underlying T=some (.array m E)) (hE:P.underlying E=some (.int .u8)) (hc:P.cellsOf E=1) (hcT:P.cellsOf T=m) {n:Nat} {cs:List Value} {d:DataW H} {ps:List MemPlace}
  (h:DataW.trod enc P w base sp held n T cs=some (d,ps)):∃ f:Nat→Int,cs=(List.range m).map fun i=>Value.int .u8 (f i):=by
 obtain ⟨xs,k,hk,hx,hl,hlen,hf⟩:=DataW.trod_array ht h
 rw [hcT] at hl
 have h1:∀ i,∃ z:Int,i < m→cs[i]? = some (.int .u8 z):=by
  intro i
  rcases Nat.lt_or_ge i m with hi | hi
  ·have h0:=hf i hi
   rw [hc,Nat.mul_one,List.getElem?_eq_getElem (by omega)] at h0
   obtain ⟨z,hz,_⟩:=JF (enc:=enc) (w:=w) (base:=base) (sp:=sp) (held:=held) hE k _ _ _ h0
   refine ⟨z,fun _=>?_⟩
   have hz':(cs.drop i).take 1=[.int .u8 z]:=hz
   have:=congrArg (·[0]?) hz'
   simpa using this
  ·exact ⟨0,fun h=>by omega⟩
 obtain ⟨f,hf'⟩:=Classical.axiomOfChoice h1
 refine ⟨f,List.ext_getElem? fun i=>?_⟩
 rcases Nat.lt_or_ge i m with hi | hi
 ·rw [hf' i hi];simp [hi]
 ·rw [List.getElem?_eq_none (by omega)];simp [hi]
end opn
section openings
variable {H:Type} {enc:TypeId×Value→H} {w:World} {base:Nat} {sp:Nat→Bool} {held:Bool}
theorem CQ (n:Nat):Opn enc Tryz.prog w base sp held 59 Appoint.rp (fun _=>1) n:=by
 intro cs d ps h
 obtain ⟨m,ds,rfl,rfl,c0,_,d0,_,p0,rfl,rfl,h0,c1,_,d1,_,p1,rfl,rfl,h1,c2,_,d2,_,p2,rfl,rfl,h2,c3,_,d3,_,p3,rfl,rfl,h3,c4,_,d4,_,p4,rfl,rfl,h4,c5,_,d5,_,p5,rfl,rfl,h5,c6,_,d6,_,p6,rfl,rfl,h6,rfl,rfl⟩:=kg (fs:=_) Fg (by kernel_rfl) h
 obtain ⟨x0,rfl,_⟩:=(opn_int (by kernel_rfl)) m _ _ _ h0
 obtain ⟨x1,rfl,_⟩:=(opn_int (by kernel_rfl)) m _ _ _ h1
 obtain ⟨x2,rfl,_⟩:=(opn_int (by kernel_rfl)) m _ _ _ h2
 obtain ⟨x3,rfl,_⟩:=(opn_int (by kernel_rfl)) m _ _ _ h3
 obtain ⟨x4,rfl,_⟩:=(opn_int (by kernel_rfl)) m _ _ _ h4
 obtain ⟨x5,rfl,_⟩:=(opn_int (by kernel_rfl)) m _ _ _ h5
 obtain ⟨x6,rfl,_⟩:=(pP (by kernel_rfl)) m _ _ _ h6
 exact ⟨⟨x0,x1,x2,x3,x4,x5,x6⟩,rfl,bulk_one _⟩
theorem EG (n:Nat):Opn enc Tryz.prog w base sp held 169 Deputy.rp (fun _=>1) n:=by
 intro cs d ps h
 obtain ⟨m,ds,rfl,rfl,c0,_,d0,_,p0,rfl,rfl,h0,c1,_,d1,_,p1,rfl,rfl,h1,c2,_,d2,_,p2,rfl,rfl,h2,c3,_,d3,_,p3,rfl,rfl,h3,c4,_,d4,_,p4,rfl,rfl,h4,c5,_,d5,_,p5,rfl,rfl,h5,c6,_,d6,_,p6,rfl,rfl,h6,c7,_,d7,_,p7,rfl,rfl,h7,c8,_,d8,_,p8,rfl,rfl,h8,c9,_,d9,_,p9,rfl,rfl,h9,rfl,rfl⟩:=kg (fs:=_) Tryz.underlying169 (by kernel_rfl) h
 obtain ⟨x0,rfl,_⟩:=(opn_int (by kernel_rfl)) m _ _ _ h0
 obtain ⟨x1,rfl,_⟩:=(opn_int (by kernel_rfl)) m _ _ _ h1
 obtain ⟨x2,rfl,_⟩:=(opn_int (by kernel_rfl)) m _ _ _ h2
 obtain ⟨x3,rfl,_⟩:=(opn_int (by kernel_rfl)) m _ _ _ h3
 obtain ⟨x4,rfl,_⟩:=(opn_int (by kernel_rfl)) m _ _ _ h4
 obtain ⟨x5,rfl,_⟩:=(opn_int (by kernel_rfl)) m _ _ _ h5
 obtain ⟨x6,rfl,_⟩:=(opn_int (by kernel_rfl)) m _ _ _ h6
 obtain ⟨x7,rfl,_⟩:=(opn_int (by kernel_rfl)) m _ _ _ h7
 obtain ⟨x8,rfl,_⟩:=(opn_int (by kernel_rfl)) m _ _ _ h8
 obtain ⟨x9,rfl,_⟩:=(pP (by kernel_rfl)) m _ _ _ h9
 exact ⟨⟨x0,x1,x2,x3,x4,x5,x6,x7,x8,x9⟩,rfl,bulk_one _⟩
theorem Bp (n:Nat):Opn enc Tryz.prog w base sp held 61 Interest.rp (fun _=>1) n:=by
 intro cs d ps h
 obtain ⟨m,ds,rfl,rfl,c0,_,d0,_,p0,rfl,rfl,h0,c1,_,d1,_,p1,rfl,rfl,h1,c2,_,d2,_,p2,rfl,rfl,h2,c3,_,d3,_,p3,rfl,rfl,h3,c4,_,d4,_,p4,rfl,rfl,h4,c5,_,d5,_,p5,rfl,rfl,h5,c6,_,d6,_,p6,rfl,rfl,h6,rfl,rfl⟩:=kg (fs:=_) GR (by kernel_rfl) h
 obtain ⟨x0,rfl,_⟩:=(opn_int (by kernel_rfl)) m _ _ _ h0
 obtain ⟨x1,rfl,_⟩:=(opn_int (by kernel_rfl)) m _ _ _ h1
 obtain ⟨x2,rfl,_⟩:=(opn_int (by kernel_rfl)) m _ _ _ h2
 obtain ⟨x3,rfl,_⟩:=(opn_int (by kernel_rfl)) m _ _ _ h3
 obtain ⟨x4,rfl,_⟩:=(opn_int (by kernel_rfl)) m _ _ _ h4
 obtain ⟨x5,rfl,_⟩:=(pP (by kernel_rfl)) m _ _ _ h5
 obtain ⟨x6,rfl,_⟩:=(pP (by kernel_rfl)) m _ _ _ h6
 exact ⟨⟨x0,x1,x2,x3,x4,x5,x6⟩,rfl,bulk_one _⟩
theorem EH (n:Nat):Opn enc Tryz.prog w base sp held 173 Budget.rp (fun _=>1) n:=by
 intro cs d ps h
 obtain ⟨m,ds,rfl,rfl,c0,_,d0,_,p0,rfl,rfl,h0,c1,_,d1,_,p1,rfl,rfl,h1,c2,_,d2,_,p2,rfl,rfl,h2,c3,_,d3,_,p3,rfl,rfl,h3,c4,_,d4,_,p4,rfl,rfl,h4,c5,_,d5,_,p5,rfl,rfl,h5,c6,_,d6,_,p6,rfl,rfl,h6,c7,_,d7,_,p7,rfl,rfl,h7,rfl,rfl⟩:=kg (fs:=_) Tryz.underlying173 (by kernel_rfl) h
 obtain ⟨x0,rfl,_⟩:=(opn_int (by kernel_rfl)) m _ _ _ h0
 obtain ⟨x1,rfl,_⟩:=(opn_int (by kernel_rfl)) m _ _ _ h1
 obtain ⟨x2,rfl,_⟩:=(opn_int (by kernel_rfl)) m _ _ _ h2
 obtain ⟨x3,rfl,_⟩:=(opn_int (by kernel_rfl)) m _ _ _ h3
 obtain ⟨x4,rfl,_⟩:=(opn_int (by kernel_rfl)) m _ _ _ h4
 obtain ⟨x5,rfl,_⟩:=(opn_int (by kernel_rfl)) m _ _ _ h5
 obtain ⟨x6,rfl,_⟩:=(opn_int (by kernel_rfl)) m _ _ _ h6
 obtain ⟨x7,rfl,_⟩:=(pP (by kernel_rfl)) m _ _ _ h7
 exact ⟨⟨x0,x1,x2,x3,x4,x5,x6,x7⟩,rfl,bulk_one _⟩
abbrev Expr.hold (x:Expr):Nat:=x.dep
theorem CP (n:Nat):Opn enc Tryz.prog w base sp held 66 Expr.rp Expr.hold n:=by
 induction n using Nat.strongRecOn with
 | _ n ih=>
 intro cs d ps h
 obtain ⟨m,ds,rfl,rfl,c0,_,d0,_,p0,rfl,rfl,h0,c1,_,d1,_,p1,rfl,rfl,h1,c2,_,d2,_,p2,rfl,rfl,h2,c3,_,d3,_,p3,rfl,rfl,h3,c4,_,d4,_,p4,rfl,rfl,h4,rfl,rfl⟩:=kg (fs:=_) Tryz.underlying66 (by kernel_rfl) h
 obtain ⟨x0,rfl,_⟩:=(opn_int (by kernel_rfl)) m _ _ _ h0
 obtain ⟨x1,rfl,_⟩:=(opn_int (by kernel_rfl)) m _ _ _ h1
 obtain ⟨x2,rfl,_⟩:=(opn_int (by kernel_rfl)) m _ _ _ h2
 obtain ⟨x3,rfl,_⟩:=(uT (by kernel_rfl)) m _ _ _ h3
 obtain ⟨b4,k4,x4,rfl,o4,q4⟩:=opn_slice ga (by kernel_rfl) (by decide) (fun k hk=>ih k (by omega)) h4
 refine ⟨Expr.mk x0 x1 x2 x3 x4,⟨⟨b4,k4⟩,rfl,Expr.ok.of o4⟩,?_⟩
 rw [Fo] at q4
 simp only [Expr.hold,Expr.dep,YtngiefchigcphaaGreatDoor.Rows.uptoBulk,YtngiefchigcphaaGreatDoor.Rows.uptoBulkAll] at *
 omega
def Rule.hold (x:Rule):Nat:=Expr.hold x.Expr+1
theorem Hw (n:Nat):Opn enc Tryz.prog w base sp held 107 Rule.rp Rule.hold n:=by
 intro cs d ps h
 obtain ⟨m,ds,rfl,rfl,c0,_,d0,_,p0,rfl,rfl,h0,c1,_,d1,_,p1,rfl,rfl,h1,c2,_,d2,_,p2,rfl,rfl,h2,c3,_,d3,_,p3,rfl,rfl,h3,rfl,rfl⟩:=kg (fs:=_) Tryz.underlying107 (by kernel_rfl) h
 obtain ⟨x0,rfl,_⟩:=(uT (by kernel_rfl)) m _ _ _ h0
 obtain ⟨x1,rfl,_⟩:=(opn_int (by kernel_rfl)) m _ _ _ h1
 obtain ⟨x2,rfl,_⟩:=(opn_int (by kernel_rfl)) m _ _ _ h2
 obtain ⟨x3,⟨r3,rfl,o3⟩,q3⟩:=CP m _ _ _ h3
 refine ⟨⟨x0,x1,x2,x3⟩,⟨⟨r3⟩,rfl,⟨o3⟩⟩,?_⟩
 simp only [Rule.hold,YtngiefchigcphaaGreatDoor.Rows.uptoBulk,YtngiefchigcphaaGreatDoor.Rows.uptoBulkAll]
 omega
def Policy.hold (x:Policy):Nat:=szL (fun _=>1) x.Kinds+szL (fun _=>1) x.Offices+szL Rule.hold x.Rules+Expr.hold x.Change+1
theorem EF (n:Nat):Opn enc Tryz.prog w base sp held 68 Policy.rp Policy.hold n:=by
 intro cs d ps h
 obtain ⟨m,ds,rfl,rfl,c0,_,d0,_,p0,rfl,rfl,h0,c1,_,d1,_,p1,rfl,rfl,h1,c2,_,d2,_,p2,rfl,rfl,h2,c3,_,d3,_,p3,rfl,rfl,h3,c4,_,d4,_,p4,rfl,rfl,h4,c5,_,d5,_,p5,rfl,rfl,h5,rfl,rfl⟩:=kg (fs:=_) Ff (by kernel_rfl) h
 obtain ⟨x0,rfl,_⟩:=(uT (by kernel_rfl)) m _ _ _ h0
 obtain ⟨b1,k1,x1,rfl,o1,q1⟩:=opn_slice kB (by kernel_rfl) (by decide) (fun k _=>(uT (by kernel_rfl)) k) h1
 obtain ⟨b2,k2,x2,rfl,o2,q2⟩:=opn_slice kB (by kernel_rfl) (by decide) (fun k _=>(uT (by kernel_rfl)) k) h2
 obtain ⟨b3,k3,x3,rfl,o3,q3⟩:=opn_slice jR (by kernel_rfl) (by decide) (fun k _=>Hw k) h3
 obtain ⟨x4,⟨r4,rfl,o4⟩,q4⟩:=CP m _ _ _ h4
 obtain ⟨x5,rfl,_⟩:=(opn_int (by kernel_rfl)) m _ _ _ h5
 refine ⟨⟨x0,x1,x2,x3,x4,x5⟩,⟨⟨b1,k1,b2,k2,b3,k3,r4⟩,rfl,⟨o1,o2,o3,o4⟩⟩,?_⟩
 simp only [Policy.hold,YtngiefchigcphaaGreatDoor.Rows.uptoBulk,YtngiefchigcphaaGreatDoor.Rows.uptoBulkAll]
 omega
def Version.hold (x:Version):Nat:=Policy.hold x.Policy+1
theorem CO (n:Nat):Opn enc Tryz.prog w base sp held 70 Version.rp Version.hold n:=by
 intro cs d ps h
 obtain ⟨m,ds,rfl,rfl,c0,_,d0,_,p0,rfl,rfl,h0,c1,_,d1,_,p1,rfl,rfl,h1,c2,_,d2,_,p2,rfl,rfl,h2,c3,_,d3,_,p3,rfl,rfl,h3,rfl,rfl⟩:=kg (fs:=_) Tryz.underlying70 (by kernel_rfl) h
 obtain ⟨x0,rfl,_⟩:=(opn_int (by kernel_rfl)) m _ _ _ h0
 obtain ⟨x1,rfl,_⟩:=(opn_int (by kernel_rfl)) m _ _ _ h1
 obtain ⟨x2,rfl,_⟩:=(opn_int (by kernel_rfl)) m _ _ _ h2
 obtain ⟨x3,⟨r3,rfl,o3⟩,q3⟩:=EF m _ _ _ h3
 refine ⟨⟨x0,x1,x2,x3⟩,⟨⟨r3⟩,rfl,⟨o3⟩⟩,?_⟩
 simp only [Version.hold,YtngiefchigcphaaGreatDoor.Rows.uptoBulk,YtngiefchigcphaaGreatDoor.Rows.uptoBulkAll]
 omega
def Document.hold (x:Document):Nat:=szL (fun _=>1) x.Parties+szL (fun _=>1) x.Revokes+szL (fun _=>1) x.Needs+1
theorem Bq (n:Nat):Opn enc Tryz.prog w base sp held 52 Document.rp Document.hold n:=by
 intro cs d ps h
 obtain ⟨m,ds,rfl,rfl,c0,_,d0,_,p0,rfl,rfl,h0,c1,_,d1,_,p1,rfl,rfl,h1,c2,_,d2,_,p2,rfl,rfl,h2,c3,_,d3,_,p3,rfl,rfl,h3,c4,_,d4,_,p4,rfl,rfl,h4,c5,_,d5,_,p5,rfl,rfl,h5,c6,_,d6,_,p6,rfl,rfl,h6,c7,_,d7,_,p7,rfl,rfl,h7,c8,_,d8,_,p8,rfl,rfl,h8,c9,_,d9,_,p9,rfl,rfl,h9,rfl,rfl⟩:=kg (fs:=_) Tryz.underlying52 (by kernel_rfl) h
 obtain ⟨x0,rfl,_⟩:=(opn_int (by kernel_rfl)) m _ _ _ h0
 obtain ⟨x1,rfl,_⟩:=(opn_int (by kernel_rfl)) m _ _ _ h1
 obtain ⟨x2,rfl,_⟩:=(opn_int (by kernel_rfl)) m _ _ _ h2
 obtain ⟨x3,rfl,_⟩:=(opn_int (by kernel_rfl)) m _ _ _ h3
 obtain ⟨x4,rfl,_⟩:=(opn_int (by kernel_rfl)) m _ _ _ h4
 obtain ⟨x5,rfl,_⟩:=(opn_int (by kernel_rfl)) m _ _ _ h5
 obtain ⟨b6,k6,x6,rfl,o6,q6⟩:=opn_slice cN (by kernel_rfl) (by decide) (fun k _=>(opn_int (by kernel_rfl)) k) h6
 obtain ⟨b7,k7,x7,rfl,o7,q7⟩:=opn_slice cN (by kernel_rfl) (by decide) (fun k _=>(opn_int (by kernel_rfl)) k) h7
 obtain ⟨b8,k8,x8,rfl,o8,q8⟩:=opn_slice cN (by kernel_rfl) (by decide) (fun k _=>(opn_int (by kernel_rfl)) k) h8
 obtain ⟨x9,rfl⟩:=Gb Tryz.underlying50 Kn (by kernel_rfl) (by kernel_rfl) h9
 refine ⟨⟨x0,x1,x2,x3,x4,x5,x6,x7,x8,x9⟩,⟨⟨b6,k6,b7,k7,b8,k8⟩,rfl,⟨o6,o7,o8⟩⟩,?_⟩
 simp only [Document.hold,YtngiefchigcphaaGreatDoor.Rows.uptoBulk,YtngiefchigcphaaGreatDoor.Rows.uptoBulkAll]
 omega
theorem Br (n:Nat):Opn enc Tryz.prog w base sp held 181 Approval.rp (fun _=>1) n:=by
 intro cs d ps h
 obtain ⟨m,ds,rfl,rfl,c0,_,d0,_,p0,rfl,rfl,h0,c1,_,d1,_,p1,rfl,rfl,h1,c2,_,d2,_,p2,rfl,rfl,h2,c3,_,d3,_,p3,rfl,rfl,h3,c4,_,d4,_,p4,rfl,rfl,h4,c5,_,d5,_,p5,rfl,rfl,h5,c6,_,d6,_,p6,rfl,rfl,h6,c7,_,d7,_,p7,rfl,rfl,h7,rfl,rfl⟩:=kg (fs:=_) Tryz.underlying181 (by kernel_rfl) h
 obtain ⟨x0,rfl,_⟩:=(opn_int (by kernel_rfl)) m _ _ _ h0
 obtain ⟨x1,rfl,_⟩:=(opn_int (by kernel_rfl)) m _ _ _ h1
 obtain ⟨x2,rfl,_⟩:=(opn_int (by kernel_rfl)) m _ _ _ h2
 obtain ⟨x3,rfl,_⟩:=(opn_int (by kernel_rfl)) m _ _ _ h3
 obtain ⟨x4,rfl,_⟩:=(opn_int (by kernel_rfl)) m _ _ _ h4
 obtain ⟨x5,rfl,_⟩:=(opn_int (by kernel_rfl)) m _ _ _ h5
 obtain ⟨x6,rfl,_⟩:=(opn_int (by kernel_rfl)) m _ _ _ h6
 obtain ⟨x7,rfl,_⟩:=(pP (by kernel_rfl)) m _ _ _ h7
 exact ⟨⟨x0,x1,x2,x3,x4,x5,x6,x7⟩,rfl,bulk_one _⟩
def Register.hold (x:Register):Nat:=szL (fun _=>1) x.Appoints+szL (fun _=>1) x.Deputies+szL (fun _=>1) x.Interests+szL (fun _=>1) x.Budgets+szL Version.hold x.Versions+szL Document.hold x.Docs+szL (fun _=>1) x.Approvals+1
theorem opn_Register (n:Nat):Opn enc Tryz.prog w base sp held 30 Register.rp Register.hold n:=by
 intro cs d ps h
 obtain ⟨m,ds,rfl,rfl,c0,_,d0,_,p0,rfl,rfl,h0,c1,_,d1,_,p1,rfl,rfl,h1,c2,_,d2,_,p2,rfl,rfl,h2,c3,_,d3,_,p3,rfl,rfl,h3,c4,_,d4,_,p4,rfl,rfl,h4,c5,_,d5,_,p5,rfl,rfl,h5,c6,_,d6,_,p6,rfl,rfl,h6,rfl,rfl⟩:=kg (fs:=_) Fh (by kernel_rfl) h
 obtain ⟨b0,k0,x0,rfl,o0,q0⟩:=opn_slice nB (by kernel_rfl) (by decide) (fun k _=>CQ k) h0
 obtain ⟨b1,k1,x1,rfl,o1,q1⟩:=opn_slice tE (by kernel_rfl) (by decide) (fun k _=>EG k) h1
 obtain ⟨b2,k2,x2,rfl,o2,q2⟩:=opn_slice kS (by kernel_rfl) (by decide) (fun k _=>Bp k) h2
 obtain ⟨b3,k3,x3,rfl,o3,q3⟩:=opn_slice tD (by kernel_rfl) (by decide) (fun k _=>EH k) h3
 obtain ⟨b4,k4,x4,rfl,o4,q4⟩:=opn_slice iN (by kernel_rfl) (by decide) (fun k _=>CO k) h4
 obtain ⟨b5,k5,x5,rfl,o5,q5⟩:=opn_slice lC (by kernel_rfl) (by decide) (fun k _=>Bq k) h5
 obtain ⟨b6,k6,x6,rfl,o6,q6⟩:=opn_slice tC (by kernel_rfl) (by decide) (fun k _=>Br k) h6
 refine ⟨⟨x0,x1,x2,x3,x4,x5,x6⟩,⟨⟨b0,k0,b1,k1,b2,k2,b3,k3,b4,k4,b5,k5,b6,k6⟩,rfl,⟨o0,o1,o2,o3,o4,o5,o6⟩⟩,?_⟩
 simp only [Register.hold,YtngiefchigcphaaGreatDoor.Rows.uptoBulk,YtngiefchigcphaaGreatDoor.Rows.uptoBulkAll]
 omega
end openings
theorem Jx {p:Policy} (h:Policy.hold p≤1048576):smP p:=by
 unfold Policy.hold Expr.hold at h
 have h1:=szL_len (f:=fun _:ByteArray=>1) (fun _=>Nat.le_refl _) p.Kinds
 have h2:=szL_len (f:=fun _:ByteArray=>1) (fun _=>Nat.le_refl _) p.Offices
 have h3:=szL_len (f:=Rule.hold) (fun x=>by unfold Rule.hold;omega) p.Rules
 refine ⟨by omega,fun r hr=>?_,by omega,by omega,by omega⟩
 have h4:=AZ (f:=Rule.hold) hr
 unfold Rule.hold Expr.hold at h4
 have:szL (fun x=>Rule.hold x) p.Rules=szL Rule.hold p.Rules:=rfl
 unfold Rule.hold Expr.hold at this h
 omega
theorem Jw {l:List Version} (h:szL Version.hold l≤1048576):smV l:=by
 have h1:=szL_len (f:=Version.hold) (fun x=>by unfold Version.hold;omega) l
 refine ⟨by omega,fun v hv=>Jx ?_⟩
 have h2:=AZ (f:=Version.hold) hv
 have h3:Policy.hold v.Policy≤Version.hold v:=by unfold Version.hold;omega
 omega
theorem smR_of {r:Register} (h:Register.hold r≤1048576):smR r:=by
 unfold Register.hold at h
 have h1:=szL_len (f:=fun _:Appoint=>1) (fun _=>Nat.le_refl _) r.Appoints
 have h2:=szL_len (f:=fun _:Deputy=>1) (fun _=>Nat.le_refl _) r.Deputies
 have h3:=szL_len (f:=fun _:Interest=>1) (fun _=>Nat.le_refl _) r.Interests
 have h4:=szL_len (f:=fun _:Budget=>1) (fun _=>Nat.le_refl _) r.Budgets
 have h5:=szL_len (f:=Document.hold) (fun x=>by unfold Document.hold;omega) r.Docs
 have h6:=szL_len (f:=fun _:Approval=>1) (fun _=>Nat.le_refl _) r.Approvals
 exact ⟨Jw (by omega),by omega,by omega,by omega,by omega,by omega,by omega⟩
end Go.Sg
namespace Go.Sg
def Kd (P:Program) (f:FuncId) (X:Cx) (v:Value) (cs:List Frame) (Φ : Machine→Prop):Prop:=
 X.M=[]∧∀ fr w',RowKit.Below X.w0.heap.size X.w0 w'→fr.fn=f→fr.leaving P w' (.returned v)→To P Φ (lone fr cs w')
theorem DL {P:Program} {f:FuncId} {fn:Func} {c:Code} {n:Nat} {args:List Value} {h:HF} {v:Value} {w:World} (hp:Pre h [] w)
  (hf:P.funcs[f]? = some fn) (hb:fn.body=some c) (hn:fn.ntmps=n) (hle:Nat.ble args.length n=true)
  (t:∀ X:Cx,X.M=([]:LH).map (·.1)→X.h0=h→TT P (bodyFrame f) n [.code c] (Kd P f X v) (envArgs args) [] X h []):Calls P f args.toArray w fun e w'=>e=.returned v∧RowKit.Below w.heap.size w w':=by
 intro cs
 have hle:=Nat.le_of_ble_eq_true hle
 have henter:Frame.enter P f args.toArray .normal=(bodyFrame f).atR { tmps:=args.toArray++Array.replicate (n - args.length) undef,defers:=[] } [.code c]:=by
  simp [Frame.enter,Frame.atR,hf,hb,hn,bodyFrame]
 obtain ⟨m',s,w',fr,rfl,h1,h2,h3⟩:=t ⟨w,h,[]⟩ rfl rfl w (St.start hp) { tmps:=args.toArray++Array.replicate (n - args.length) undef,defers:=[] } cs
  (fun m=>∃ w' fr,m=lone fr cs w'∧RowKit.Below w.heap.size w w'∧fr.fn=f∧fr.leaving P w' (.returned v)) (by simp;omega) (oN _ _) rfl
  ⟨rfl,fun fr w' hb hfn hl=>.now ⟨w',fr,rfl,hb,hfn,hl⟩⟩
 refine ⟨.returned v,w',fr,⟨rfl,h1⟩,?_,h2,h3⟩
 rw [henter];exact s
section ending
variable {P:Program} {f:FuncId} {n:Nat} {k:List Item} {e:Env} {X:Cx} {h:HF} {L:LH} {fn:Func}
theorem lh {rs:List ResultVar} {v:Value} {hh:HF} (vs:List Value) (hf:P.funcs[f]? = some fn) (hr:fn.results=rs.toArray) (_:X.h0=hh) (hv:tQ P e L rs vs) (hvv:retVal vs=v):
  TT P (bodyFrame f) n (.code .ret::k) (Kd P f X v) e [] X h L:=by
 intro w hw a cs Φ hn he hds hF
 exact .step (stepR_ret rfl) (hF.2 _ w (hw.below hF.1) rfl ⟨rfl,hds,rfl,fn,hf,hvv ▸ qD hr hv a he w hw⟩)
end ending
end Go.Sg
namespace Go.Sg
open Go.Proofs
theorem Gi {P:Program} {w:World} {sp:Nat→Bool} {m:Nat} {E:TypeId} {ps rs:Array TypeId} {vd:Bool} {c:List Value} {b:UInt8} {r:List UInt8} {p:List MemPlace} (hE:P.underlying E=some (.func ps rs vd))
  (h:DataW.trod (funcToken P) P w 0 sp true m E c=some (.held (b::r),p)):∃ f fn,c=[.func (.func f) #[] #[]]∧P.funcs[f]? = some fn∧P.funcNamed fn.name=some f∧fn.name.toUTF8.data.toList=b::r:=by
 cases m with
 | zero=>simp [DataW.trod] at h
 | succ m=>
  unfold DataW.trod at h
  rw [hE] at h
  split at h <;> try (simp_all;done)
  next fn fi ca _ _=>
   simp only [if_true,Option.some.injEq,Prod.mk.injEq,DataW.held.injEq] at h
   obtain ⟨f,g,e,h1,h2,h3⟩:=funcToken_tells h.1
   exact ⟨f,g,by rw [e],h1,h2,h3⟩
theorem I3 {P:Program} {k:FuncId} {g:Func} {f:FuncId} {fn:Func} {l:List UInt8} (hg:P.funcNamed g.name=some k) (hl:g.name.toUTF8.data.toList=l) (h2:P.funcNamed fn.name=some f) (h3:fn.name.toUTF8.data.toList=l):f=k:=by
 have:fn.name=g.name:=bytes_inj (h3.trans hl.symm)
 rw [this,hg] at h2
 exact (Option.some.inj h2).symm
theorem G0 {α : Type} {l:List α} {i:Nat} {x:α} (h:(l.drop i).take 1=[x]):l[i]? = some x:=by
 have:=congrArg (·[0]?) h
 simpa using this
theorem kinds_of {W:World} (hL:laidMetH Tryz.prog YtngiefchigcphaaGreatDoor.Rows.asofEveryUptoRow.laid W):Kinds (hOf W):=by
 obtain ⟨d, hd⟩ : ∃ d, (YtngiefchigcphaaGreatDoor.Rows.laid_signatory_policies_kinds : DataW Unit) = .iface "func table" d := ⟨_, rfl⟩
 obtain ⟨g,t,cs,fuel,p,hg,ht,hv,hr⟩:=hL.funcs (d:=d) (by rw [← hd];exact List.mem_cons_self ..)
 unfold World.var? at hv
 rw [hg] at hv
 obtain rfl:g=0:=Option.some.inj (hg.symm.trans (by kernel_rfl))
 obtain rfl:t=284:=Option.some.inj (ht.symm.trans (by kernel_rfl))
 obtain ⟨xs,m,_,hx,hl,hlen,hf⟩:=DataW.trod_array (n:=5) (e:=165) (by kernel_rfl) hr
 rw [show Tryz.prog.cellsOf 284=5 by kernel_rfl] at hl
 rw [show Tryz.prog.cellsOf 165=1 by kernel_rfl] at hf
 unfold YtngiefchigcphaaGreatDoor.Rows.laid_signatory_policies_kinds at hd
 cases hd
 simp only [DataW.funcsOut,DataW.funcsOutAll,Prod.mk.injEq] at hx
 match xs,hlen with
 | [x0,x1,x2,x3,x4],_=>
  simp only [List.map_cons,List.map_nil,beq_self_eq_true,if_true,DataW.agg.injEq,List.cons.injEq,and_true] at hx
  have key:∀ (i:Nat) (x:DataW (List UInt8)×List MemPlace) (b:UInt8) (r:List UInt8) (k:FuncId) (fk:Func),i < 5→[x0,x1,x2,x3,x4][i]? = some x→DataW.held (b::r)=x.1→Tryz.prog.funcNamed fk.name=some k→fk.name.toUTF8.data.toList=b::r→cs.toList[i]? = some (.func (.func k) #[] #[]):=by
   intro i x b r k fk hi hxi hb hk hn
   have h0:=hf i hi
   rw [hxi,Nat.mul_one] at h0
   obtain ⟨f,fn,e,_,h2,h3⟩:=Gi (P:=Tryz.prog) (E:=165) Tryz.underlying165 (h0.trans (show some x=some (DataW.held (b::r),x.2) by rw [hb]))
   obtain rfl:=I3 hk hn h2 h3
   exact G0 e
  obtain ⟨⟨e0,e1,e2,e3,e4⟩,_⟩:=hx
  have k0:=key 0 x0 _ _ 299 Tryz.f299 (by omega) rfl e0 (by kernel_rfl) (by kernel_rfl)
  have k1:=key 1 x1 _ _ 300 Tryz.f300 (by omega) rfl e1 (by kernel_rfl) (by kernel_rfl)
  have k2:=key 2 x2 _ _ 301 Tryz.f301 (by omega) rfl e2 (by kernel_rfl) (by kernel_rfl)
  have k3:=key 3 x3 _ _ 302 Tryz.f302 (by omega) rfl e3 (by kernel_rfl) (by kernel_rfl)
  have k4:=key 4 x4 _ _ 303 Tryz.f303 (by omega) rfl e4 (by kernel_rfl) (by kernel_rfl)
  have hcs:cs=kindsC.toArray:=by
   apply Array.toList_inj.1
   apply List.ext_getElem?
   intro i
   match i with
   | 0=>exact k0
   | 1=>exact k1
   | 2=>exact k2
   | 3=>exact k3
   | 4=>exact k4
   | i+5=>rw [List.getElem?_eq_none (by omega)];rfl
  simp only [Option.bind_some] at hv
  split at hv
  ·next c T fz e=>
   cases hv
   exact ⟨T,fz,by rw [← hcs];exact e⟩
  ·cases hv
end Go.Sg
namespace Go.Sg
open Go.ChangeShapes Go.WideShapes Go.RowKit
variable {H:Type} {enc:TypeId×Value→H} {P:Program}
theorem post_below {f:Func} {s:ChangeSpec} {apart fresh handsOn again:Bool} {W W':World} {args:Array Value} {v:Value} {ds gs:List (DataW H)} {before pa pv:List MemPlace}
  (hW:DataW.Whole enc P f.params.toList s.vars apart W args.toList ds gs before)
  (hres:∀ (b:Nat) (sp:Nat→Bool) (hd:Bool),DataW.TrodAll enc P W' b sp hd f.resultTypes.toList (v.resultList f.resultTypes.size) (s.fn H (ds++gs)).results [])
  (hargs:∀ sp:Nat→Bool,(∀ p∈before,sp p.block=true)→DataW.TrodAll enc P W' 0 sp true f.params.toList args.toList (s.fn H (ds++gs)).args pa)
  (hvars:∀ sp:Nat→Bool,(∀ p∈before,sp p.block=true)→DataW.TrodVars enc P W' sp s.vars (s.fn H (ds++gs)).vars pv)
  (hps:before=pa++pv) (hb:Below W.heap.size W W')
  (hok:∀ (j:Nat) (t:TypeId) (r:Value),f.resultTypes[j]? = some t→(v.resultList f.resultTypes.size)[j]? = some r→Value.okWide P W' .any 0 t r):
  s.post enc P f apart fresh handsOn again W args v W':=by
 have hlt:=hW.lt
 have hold:∀ p∈before,(fun b=>decide (b < W.heap.size)) p.block=true:=fun p hp=>by simpa using hlt p hp
 refine ⟨ds,gs,before,[],pa,pv,hW,hres _ _ _,hargs _ hold,hvars _ hold,World.keptBut_mono (fun p hp=>⟨hp,?_⟩) (hb.frame (·∈before)),fun _=>?_⟩
 ·rw [hps,List.mem_append] at hp
  exact Or.inr hp
 ·obtain ⟨_,_,_,_,_,hz,hn⟩:=hW
  refine ⟨hok,_,_,([]++pa)++pv,⟨[]++pa,pv,trodAll_append (hargs _ (fun _ _=>rfl)) (hres _ _ _),hvars _ (fun _ _=>rfl),rfl,?_,?_⟩,?_⟩
  ·intro b off hp
   have hp':MemPlace.cell b off∈before:=by rw [hps];simpa using hp
   rw [hb.frozen (p:=⟨b,off,none⟩) (hlt _ hp')]
   exact hz b off hp'
  ·intro ha
   have:=hn ha
   rw [hps] at this
   simpa using this
  ·intro p hp _
   rw [hps]
   simpa using hp
theorem stays {t:TypeId} (hl:laidOutB P=true) (hr:P.readableRec t=true) (hrow:decide (t < P.types.size)=true) {W W':World} {v:Value} {d:DataW H} {ps before:List MemPlace} (h:DataW.Trod enc P W 0 (fun _=>true) true t v d ps)
  (hb:Below W.heap.size W W') (hlt:∀ x∈before,x.block < W.heap.size) (hm:∀ x∈ps,x∈before) {sp:Nat→Bool} (hsp:∀ p∈before,sp p.block=true):DataW.Trod enc P W' 0 sp true t v d ps:=
 WideElems.Trod_stays hl hr (of_decide_eq_true hrow) h (fun x hx=>hb.same (hlt x (hm x hx))) (fun x hx=>hsp _ (hm x hx))
end Go.Sg
namespace Go.Sg
open Go.Proofs
theorem ty120:tySz Tryz.prog 120=some (1,false):=by kernel_rfl
theorem ty203:tySz Tryz.prog 203=some (1,false):=by kernel_rfl
theorem ty159:tySz Tryz.prog 159=some (1,false):=by kernel_rfl
theorem ty212:tySz Tryz.prog 212=some (2,true):=by kernel_rfl
theorem ty31:tySz Tryz.prog 31=some (1,false):=by kernel_rfl
theorem ty215:tySz Tryz.prog 215=some (1,false):=by kernel_rfl
theorem ty3:tySz Tryz.prog 3=some (1,false):=by kernel_rfl
theorem zc212:zeroC Tryz.prog 212=some [.int .i64 0,.int .i64 0]:=by kernel_rfl
theorem bytes212:bytesOf Tryz.prog 212=some 16:=by kernel_rfl
theorem zc3:zeroC Tryz.prog 3=some [.int .i64 0]:=by kernel_rfl
theorem bytes3:bytesOf Tryz.prog 3=some 8:=by kernel_rfl
theorem zc35:zeroC Tryz.prog 35=some [.int .i64 0]:=by kernel_rfl
theorem ty35:tySz Tryz.prog 35=some (1,false):=by kernel_rfl
theorem zc277:zeroC Tryz.prog 277=some [.int .i64 0]:=by kernel_rfl
theorem ty277:tySz Tryz.prog 277=some (1,true):=by kernel_rfl
theorem H5:fldOf Tryz.prog 277 0=some 0:=by kernel_rfl
theorem ty148:tySz Tryz.prog 148=some (2,true):=by kernel_rfl
theorem ty146:tySz Tryz.prog 146=some (1,false):=by kernel_rfl
theorem ty145:tySz Tryz.prog 145=some (1,false):=by kernel_rfl
theorem ty149:tySz Tryz.prog 149=some (1,false):=by kernel_rfl
theorem ty61:tySz Tryz.prog 61=some (7,true):=by kernel_rfl
theorem ty24:tySz Tryz.prog 24=some (1,false):=by kernel_rfl
theorem ty4:tySz Tryz.prog 4=some (1,false):=by kernel_rfl
theorem ty26:tySz Tryz.prog 26=some (1,false):=by kernel_rfl
theorem ty34:tySz Tryz.prog 34=some (1,false):=by kernel_rfl
theorem ty46:tySz Tryz.prog 46=some (2,true):=by kernel_rfl
theorem ty90:tySz Tryz.prog 90=some (1,false):=by kernel_rfl
theorem ty77:tySz Tryz.prog 77=some (49,true):=by kernel_rfl
theorem zc148:zeroC Tryz.prog 148=some [.slice none 0 0,.int .i64 0]:=by kernel_rfl
theorem zc61:zeroC Tryz.prog 61=some [.int .i64 0,.int .i64 0,.int .i64 0,.int .i64 0,.int .i64 0,.bool false,.bool false]:=by kernel_rfl
theorem zc145:zeroC Tryz.prog 145=some [.map none]:=by kernel_rfl
theorem zc120:zeroC Tryz.prog 120=some [.map none]:=by kernel_rfl
theorem zc146:zeroC Tryz.prog 146=some [.chan none]:=by kernel_rfl
theorem zc149:zeroC Tryz.prog 149=some [.nilFunc]:=by kernel_rfl
theorem zc34:zeroC Tryz.prog 34=some [.slice none 0 0]:=by kernel_rfl
theorem zc46:zeroC Tryz.prog 46=some [.int .i64 0,.int .i64 0]:=by kernel_rfl
theorem zc90:zeroC Tryz.prog 90=some [.nilFunc]:=by kernel_rfl
theorem zc31:zeroC Tryz.prog 31=some [.slice none 0 0]:=by kernel_rfl
theorem zc77:zeroC Tryz.prog 77=some (.slice none 0 0::.slice none 0 0::.slice none 0 0::.slice none 0 0::.slice none 0 0::.slice none 0 0::.slice none 0 0::.int .i64 0::.int .i64 0::.int .i64 0::.int .i64 0::.int .i64 0::.int .i64 0::.slice none 0 0::.slice none 0 0::.slice none 0 0::.int .u8 0::.int .u8 0::.int .u8 0::.int .u8 0::.int .u8 0::.int .u8 0::.int .u8 0::.int .u8 0::.int .u8 0::.int .u8 0::.int .u8 0::.int .u8 0::.int .u8 0::.int .u8 0::.int .u8 0::.int .u8 0::.int .u8 0::.int .u8 0::.int .u8 0::.int .u8 0::.int .u8 0::.int .u8 0::.int .u8 0::.int .u8 0::.int .u8 0::.int .u8 0::.int .u8 0::.int .u8 0::.int .u8 0::.int .u8 0::.int .u8 0::.int .u8 0::.int .i64 0::[]):=by kernel_rfl
theorem zv4:zeroV Tryz.prog 4=some (.bool false):=by kernel_rfl
theorem zv24:zeroV Tryz.prog 24=some (.slice none 0 0):=by kernel_rfl
theorem zv148:zeroV Tryz.prog 148=some (.agg (List.toArray [.slice none 0 0,.int .i64 0])):=by kernel_rfl
theorem bytes61:bytesOf Tryz.prog 61=some 48:=by kernel_rfl
theorem bytes46:bytesOf Tryz.prog 46=some 16:=by kernel_rfl
theorem bytes148:bytesOf Tryz.prog 148=some 32:=by kernel_rfl
theorem zf:fldOf Tryz.prog 148 0=some 0:=by kernel_rfl
theorem vo:fldOf Tryz.prog 148 1=some 1:=by kernel_rfl
theorem nX:fldOf Tryz.prog 61 0=some 0:=by kernel_rfl
theorem mJ:fldOf Tryz.prog 61 3=some 3:=by kernel_rfl
theorem pu:fldOf Tryz.prog 61 4=some 4:=by kernel_rfl
theorem vc:fldOf Tryz.prog 61 5=some 5:=by kernel_rfl
theorem BJ:fldOf Tryz.prog 46 0=some 0:=by kernel_rfl
theorem xx:fldOf Tryz.prog 46 1=some 1:=by kernel_rfl
theorem zg:fldOf Tryz.prog 133 1=some 1:=by kernel_rfl
theorem xr:fldOf Tryz.prog 59 6=some 6:=by kernel_rfl
theorem pw:fldOf Tryz.prog 59 0=some 0:=by kernel_rfl
theorem nd:fldOf Tryz.prog 59 1=some 1:=by kernel_rfl
theorem vf:fldOf Tryz.prog 59 2=some 2:=by kernel_rfl
theorem ve:fldOf Tryz.prog 59 3=some 3:=by kernel_rfl
theorem sZ:fldOf Tryz.prog 59 4=some 4:=by kernel_rfl
theorem qY:fldOf Tryz.prog 59 5=some 5:=by kernel_rfl
theorem ty59:tySz Tryz.prog 59=some (7,true):=by kernel_rfl
theorem zc59:zeroC Tryz.prog 59=some [.int .i64 0,.int .i64 0,.int .i64 0,.int .i64 0,.int .i64 0,.int .i64 0,.bool false]:=by kernel_rfl
theorem qk:fldOf Tryz.prog 169 0=some 0:=by kernel_rfl
theorem vn:fldOf Tryz.prog 169 1=some 1:=by kernel_rfl
theorem DD:fldOf Tryz.prog 169 2=some 2:=by kernel_rfl
theorem vm:fldOf Tryz.prog 169 4=some 4:=by kernel_rfl
theorem vl:fldOf Tryz.prog 169 5=some 5:=by kernel_rfl
theorem DC:fldOf Tryz.prog 169 6=some 6:=by kernel_rfl
theorem DB:fldOf Tryz.prog 169 7=some 7:=by kernel_rfl
theorem DA:fldOf Tryz.prog 169 9=some 9:=by kernel_rfl
theorem qj:fldOf Tryz.prog 169 3=some 3:=by kernel_rfl
theorem vk:fldOf Tryz.prog 169 8=some 8:=by kernel_rfl
theorem ty169:tySz Tryz.prog 169=some (10,true):=by kernel_rfl
theorem zc169:zeroC Tryz.prog 169=some [.int .i64 0,.int .i64 0,.int .i64 0,.int .i64 0,.int .i64 0,.int .i64 0,.int .i64 0,.int .i64 0,.int .i64 0,.bool false]:=by kernel_rfl
theorem sY:fldOf Tryz.prog 61 1=some 1:=by kernel_rfl
theorem BI:fldOf Tryz.prog 61 2=some 2:=by kernel_rfl
theorem Dz:fldOf Tryz.prog 173 7=some 7:=by kernel_rfl
theorem oJ:fldOf Tryz.prog 173 0=some 0:=by kernel_rfl
theorem ze:fldOf Tryz.prog 173 1=some 1:=by kernel_rfl
theorem zd:fldOf Tryz.prog 173 2=some 2:=by kernel_rfl
theorem zc:fldOf Tryz.prog 173 3=some 3:=by kernel_rfl
theorem zb:fldOf Tryz.prog 173 4=some 4:=by kernel_rfl
theorem vj:fldOf Tryz.prog 173 5=some 5:=by kernel_rfl
theorem vi:fldOf Tryz.prog 173 6=some 6:=by kernel_rfl
theorem ty173:tySz Tryz.prog 173=some (8,true):=by kernel_rfl
theorem zc173:zeroC Tryz.prog 173=some [.int .i64 0,.int .i64 0,.int .i64 0,.int .i64 0,.int .i64 0,.int .i64 0,.int .i64 0,.bool false]:=by kernel_rfl
theorem ty285:tySz Tryz.prog 285=some (1,false):=by kernel_rfl
theorem ty66:tySz Tryz.prog 66=some (5,true):=by kernel_rfl
theorem zc258:zeroC Tryz.prog 258=some [.int .i64 0,.int .i64 0,.int .i64 0,.string (⟨#[]⟩:ByteArray),.slice none 0 0,.int .i64 0]:=by kernel_rfl
theorem dC:fldOf Tryz.prog 66 4=some 4:=by kernel_rfl
theorem ty64:tySz Tryz.prog 64=some (1,false):=by kernel_rfl
theorem zc66:zeroC Tryz.prog 66=some [.int .i64 0,.int .i64 0,.int .i64 0,.string (⟨#[]⟩:ByteArray),.slice none 0 0]:=by kernel_rfl
theorem ty258:tySz Tryz.prog 258=some (6,true):=by kernel_rfl
theorem fj:fldOf Tryz.prog 68 3=some 3:=by kernel_rfl
theorem ty63:tySz Tryz.prog 63=some (1,false):=by kernel_rfl
theorem ty107:tySz Tryz.prog 107=some (8,true):=by kernel_rfl
theorem zc107:zeroC Tryz.prog 107=some [.string (⟨#[]⟩:ByteArray),.int .i64 0,.int .i64 0,.int .i64 0,.int .i64 0,.int .i64 0,.string (⟨#[]⟩:ByteArray),.slice none 0 0]:=by kernel_rfl
theorem kv:fldOf Tryz.prog 107 3=some 3:=by kernel_rfl
theorem bytes66:bytesOf Tryz.prog 66=some 64:=by kernel_rfl
theorem lU:fldOf Tryz.prog 68 4=some 4:=by kernel_rfl
theorem iS:fldOf Tryz.prog 68 2=some 2:=by kernel_rfl
theorem ty62:tySz Tryz.prog 62=some (1,false):=by kernel_rfl
theorem kZ:fldOf Tryz.prog 68 1=some 1:=by kernel_rfl
theorem ty68:tySz Tryz.prog 68=some (10,true):=by kernel_rfl
theorem H6:fldOf Tryz.prog 258 1=some 5:=by kernel_rfl
theorem k9:fldOf Tryz.prog 66 0=some 0:=by kernel_rfl
theorem ty9:tySz Tryz.prog 9=some (1,false):=by kernel_rfl
theorem xq:fldOf Tryz.prog 68 0=some 0:=by kernel_rfl
theorem lu:fldOf Tryz.prog 258 0=some 0:=by kernel_rfl
theorem mI:fldOf Tryz.prog 66 3=some 3:=by kernel_rfl
theorem j9:fldOf Tryz.prog 66 1=some 1:=by kernel_rfl
theorem qX:fldOf Tryz.prog 68 5=some 9:=by kernel_rfl
theorem vp:fldOf Tryz.prog 107 0=some 0:=by kernel_rfl
theorem oL:fldOf Tryz.prog 107 2=some 2:=by kernel_rfl
theorem zc64:zeroC Tryz.prog 64=some [.slice none 0 0]:=by kernel_rfl
theorem ty165:tySz Tryz.prog 165=some (1,false):=by kernel_rfl
theorem na:fldOf Tryz.prog 66 2=some 2:=by kernel_rfl
theorem zc68:zeroC Tryz.prog 68=some [.string (⟨#[]⟩:ByteArray),.slice none 0 0,.slice none 0 0,.slice none 0 0,.int .i64 0,.int .i64 0,.int .i64 0,.string (⟨#[]⟩:ByteArray),.slice none 0 0,.int .i64 0]:=by kernel_rfl
theorem sK:fldOf Tryz.prog 107 1=some 1:=by kernel_rfl
theorem bytes107:bytesOf Tryz.prog 107=some 96:=by kernel_rfl
theorem zc4:zeroC Tryz.prog 4=some [.bool false]:=by kernel_rfl
theorem ty70:tySz Tryz.prog 70=some (13,true):=by kernel_rfl
theorem zc70:zeroC Tryz.prog 70=some [.int .i64 0,.int .i64 0,.int .i64 0,.string (⟨#[]⟩:ByteArray),.slice none 0 0,.slice none 0 0,.slice none 0 0,.int .i64 0,.int .i64 0,.int .i64 0,.string (⟨#[]⟩:ByteArray),.slice none 0 0,.int .i64 0]:=by kernel_rfl
theorem kY:fldOf Tryz.prog 70 0=some 0:=by kernel_rfl
theorem j8:fldOf Tryz.prog 70 1=some 1:=by kernel_rfl
theorem u9:fldOf Tryz.prog 70 2=some 2:=by kernel_rfl
theorem pt:fldOf Tryz.prog 70 3=some 3:=by kernel_rfl
theorem zc178:zeroC Tryz.prog 178=some [.slice none 0 0,.map none]:=by kernel_rfl
theorem ty178:tySz Tryz.prog 178=some (2,true):=by kernel_rfl
theorem ty52:tySz Tryz.prog 52=some (41,true):=by kernel_rfl
theorem zc52:zeroC Tryz.prog 52=some (.int .i64 0::.int .i64 0::.int .i64 0::.int .i64 0::.int .i64 0::.int .i64 0::.slice none 0 0::.slice none 0 0::.slice none 0 0::.int .u8 0::.int .u8 0::.int .u8 0::.int .u8 0::.int .u8 0::.int .u8 0::.int .u8 0::.int .u8 0::.int .u8 0::.int .u8 0::.int .u8 0::.int .u8 0::.int .u8 0::.int .u8 0::.int .u8 0::.int .u8 0::.int .u8 0::.int .u8 0::.int .u8 0::.int .u8 0::.int .u8 0::.int .u8 0::.int .u8 0::.int .u8 0::.int .u8 0::.int .u8 0::.int .u8 0::.int .u8 0::.int .u8 0::.int .u8 0::.int .u8 0::.int .u8 0::[]):=by kernel_rfl
theorem Dy:fldOf Tryz.prog 178 1=some 1:=by kernel_rfl
theorem ty176:tySz Tryz.prog 176=some (1,false):=by kernel_rfl
theorem ka:fldOf Tryz.prog 52 0=some 0:=by kernel_rfl
theorem nf:fldOf Tryz.prog 52 1=some 1:=by kernel_rfl
theorem vh:fldOf Tryz.prog 52 2=some 2:=by kernel_rfl
theorem vg:fldOf Tryz.prog 52 3=some 3:=by kernel_rfl
theorem xw:fldOf Tryz.prog 52 4=some 4:=by kernel_rfl
theorem s9:fldOf Tryz.prog 52 5=some 5:=by kernel_rfl
theorem xu:fldOf Tryz.prog 52 6=some 6:=by kernel_rfl
theorem s8:fldOf Tryz.prog 52 7=some 7:=by kernel_rfl
theorem s6:fldOf Tryz.prog 52 8=some 8:=by kernel_rfl
theorem zv3:zeroV Tryz.prog 3=some (.int .i64 0):=by kernel_rfl
theorem qi:fldOf Tryz.prog 181 0=some 0:=by kernel_rfl
theorem Dx:fldOf Tryz.prog 181 1=some 1:=by kernel_rfl
theorem Dw:fldOf Tryz.prog 181 2=some 2:=by kernel_rfl
theorem Dv:fldOf Tryz.prog 181 3=some 3:=by kernel_rfl
theorem Du:fldOf Tryz.prog 181 4=some 4:=by kernel_rfl
theorem Dt:fldOf Tryz.prog 181 5=some 5:=by kernel_rfl
theorem Ds:fldOf Tryz.prog 181 6=some 6:=by kernel_rfl
theorem ty181:tySz Tryz.prog 181=some (8,true):=by kernel_rfl
theorem zc181:zeroC Tryz.prog 181=some [.int .i64 0,.int .i64 0,.int .i64 0,.int .i64 0,.int .i64 0,.int .i64 0,.int .i64 0,.bool false]:=by kernel_rfl
theorem qZ:fldOf Tryz.prog 30 0=some 0:=by kernel_rfl
theorem ty22:tySz Tryz.prog 22=some (1,false):=by kernel_rfl
theorem BM:fldOf Tryz.prog 30 1=some 1:=by kernel_rfl
theorem ty23:tySz Tryz.prog 23=some (1,false):=by kernel_rfl
theorem tb:fldOf Tryz.prog 30 2=some 2:=by kernel_rfl
theorem BL:fldOf Tryz.prog 30 3=some 3:=by kernel_rfl
theorem ty25:tySz Tryz.prog 25=some (1,false):=by kernel_rfl
theorem lV:fldOf Tryz.prog 30 4=some 4:=by kernel_rfl
theorem la:fldOf Tryz.prog 30 5=some 5:=by kernel_rfl
theorem ty27:tySz Tryz.prog 27=some (1,false):=by kernel_rfl
theorem BK:fldOf Tryz.prog 30 6=some 6:=by kernel_rfl
theorem ty28:tySz Tryz.prog 28=some (1,false):=by kernel_rfl
theorem ty30:tySz Tryz.prog 30=some (7,true):=by kernel_rfl
theorem mH:fldOf Tryz.prog 77 1=some 7:=by kernel_rfl
theorem qW:fldOf Tryz.prog 77 0=some 0:=by kernel_rfl
theorem ty101:tySz Tryz.prog 101=some (1,false):=by kernel_rfl
theorem ty133:tySz Tryz.prog 133=some (2,true):=by kernel_rfl
theorem zc133:zeroC Tryz.prog 133=some [.int .i64 0,.int .i64 0]:=by kernel_rfl
theorem oK:fldOf Tryz.prog 133 0=some 0:=by kernel_rfl
theorem H9:fldOf Tryz.prog 164 1=some 1:=by kernel_rfl
theorem ty100:tySz Tryz.prog 100=some (1,false):=by kernel_rfl
theorem H8:fldOf Tryz.prog 164 2=some 2:=by kernel_rfl
theorem ty164:tySz Tryz.prog 164=some (3,true):=by kernel_rfl
theorem zc261:zeroC Tryz.prog 261=some [.nilFunc]:=by kernel_rfl
theorem ty261:tySz Tryz.prog 261=some (1,false):=by kernel_rfl
theorem Ia:fldOf Tryz.prog 164 0=some 0:=by kernel_rfl
theorem zc227:zeroC Tryz.prog 227=some [.nilFunc,.nilFunc,.nilFunc,.nilFunc,.nilFunc]:=by kernel_rfl
theorem ty226:tySz Tryz.prog 226=some (1,false):=by kernel_rfl
theorem ty227:tySz Tryz.prog 227=some (5,true):=by kernel_rfl
theorem zc164:zeroC Tryz.prog 164=some [.int .i64 0,.slice none 0 0,.slice none 0 0]:=by kernel_rfl
theorem zv141:zeroV Tryz.prog 141=some (.nilFunc):=by kernel_rfl
theorem I5:fldOf Tryz.prog 61 6=some 6:=by kernel_rfl
theorem ty205:tySz Tryz.prog 205=some (1,false):=by kernel_rfl
theorem zc207:zeroC Tryz.prog 207=some [.int .i64 0,.int .i64 0,.bool false]:=by kernel_rfl
theorem zv61:zeroV Tryz.prog 61=some (.agg (List.toArray [.int .i64 0,.int .i64 0,.int .i64 0,.int .i64 0,.int .i64 0,.bool false,.bool false])):=by kernel_rfl
theorem eqg61:Tryz.prog.eqGuardType Tryz.prog.depth 61=false:=by kernel_rfl
theorem zc205:zeroC Tryz.prog 205=some [.map none]:=by kernel_rfl
theorem ty207:tySz Tryz.prog 207=some (3,true):=by kernel_rfl
theorem BH:fldOf Tryz.prog 77 2=some 48:=by kernel_rfl
theorem zv70:zeroV Tryz.prog 70=some (.agg (List.toArray [.int .i64 0,.int .i64 0,.int .i64 0,.string (⟨#[]⟩:ByteArray),.slice none 0 0,.slice none 0 0,.slice none 0 0,.int .i64 0,.int .i64 0,.int .i64 0,.string (⟨#[]⟩:ByteArray),.slice none 0 0,.int .i64 0])):=by kernel_rfl
theorem zc26:zeroC Tryz.prog 26=some [.slice none 0 0]:=by kernel_rfl
theorem bytes70:bytesOf Tryz.prog 70=some 184:=by kernel_rfl
theorem bytes68:bytesOf Tryz.prog 68=some 160:=by kernel_rfl
theorem bytes133:bytesOf Tryz.prog 133=some 16:=by kernel_rfl
theorem zv59:zeroV Tryz.prog 59=some (.agg (List.toArray [.int .i64 0,.int .i64 0,.int .i64 0,.int .i64 0,.int .i64 0,.int .i64 0,.bool false])):=by kernel_rfl
theorem H7:fldOf Tryz.prog 212 0=some 0:=by kernel_rfl
theorem zc101:zeroC Tryz.prog 101=some [.slice none 0 0]:=by kernel_rfl
theorem bytes101:bytesOf Tryz.prog 101=some 24:=by kernel_rfl
theorem bytes4:bytesOf Tryz.prog 4=some 1:=by kernel_rfl
theorem zc30:zeroC Tryz.prog 30=some [.slice none 0 0,.slice none 0 0,.slice none 0 0,.slice none 0 0,.slice none 0 0,.slice none 0 0,.slice none 0 0]:=by kernel_rfl
theorem zc9:zeroC Tryz.prog 9=some [.string (⟨#[]⟩:ByteArray)]:=by kernel_rfl
theorem eqg46:Tryz.prog.eqGuardType Tryz.prog.depth 46=false:=by kernel_rfl
theorem FK:fldT Tryz.prog 70 3=some (68,3):=by kernel_rfl
def pU (x:fI) (h:HF) (vs:List Go.Value):Prop:=∃ (r0:wi),vs=[.agg (fI.cells x r0).toArray]∧fI.ok h x r0
theorem lN (x:fI) (h:HF) (vs:List Go.Value) (e:pU x h vs):vs.length=1:=by
 obtain ⟨_,e,_⟩:=e;rw [e];rfl
def yz (x:Span) (h:HF) (vs:List Go.Value):Prop:=vs=[.agg (Span.cells x).toArray]
theorem Bz (x:Span) (h:HF) (vs:List Go.Value) (e:yz x h vs):vs.length=1:=by
 rw [e];rfl
def md (x:Holder) (h:HF) (vs:List Go.Value):Prop:=vs=[.agg (Holder.cells x).toArray]
theorem oz (x:Holder) (h:HF) (vs:List Go.Value) (e:md x h vs):vs.length=1:=by
 rw [e];rfl
def qK (x:Interest) (h:HF) (vs:List Go.Value):Prop:=vs=[.agg (Interest.cells x).toArray]
theorem vR (x:Interest) (h:HF) (vs:List Go.Value) (e:qK x h vs):vs.length=1:=by
 rw [e];rfl
def nG (x:(Int×Version)) (h:HF) (vs:List Go.Value):Prop:=∃ (r0:lv),vs=[.int .i64 x.1,.agg (Version.cells x.2 r0).toArray]∧Version.ok h x.2 r0
theorem tz (x:(Int×Version)) (h:HF) (vs:List Go.Value) (e:nG x h vs):vs.length=2:=by
 obtain ⟨_,e,_⟩:=e;rw [e];rfl
theorem Ic (a b:Span) (w:World):(Op.equal 46 (Span.enc a) (Span.enc b)).run Tryz.prog w=.ok (decide (a=b)) w:=
 xi Ad (by kernel_rfl) (by kernel_rfl) (by rw [Bool.eq_iff_iff];cases a;cases b;simp [eqv,nth,Span.cells]) w
theorem BN (a b:Interest) (w:World):(Op.equal 61 (Interest.enc a) (Interest.enc b)).run Tryz.prog w=.ok (decide (a=b)) w:=
 xi GR (by kernel_rfl) (by kernel_rfl) (by rw [Bool.eq_iff_iff];cases a;cases b;simp [eqv,nth,Interest.cells]) w
theorem BO (a b:dz) (w:World):(Op.equal 207 (dz.enc a) (dz.enc b)).run Tryz.prog w=.ok (decide (a=b)) w:=
 xi Fe (by kernel_rfl) (by kernel_rfl) (by rw [Bool.eq_iff_iff];cases a;cases b;simp [eqv,nth,dz.cells]) w
theorem pE:tA Tryz.prog 207 dz.enc:=CY Fe (fun e a w=>xO e Fe (by kernel_rfl) w) BO (fun a=>by
 show Instr.sameBits (9999+1) _ _=true
 simp [Instr.sameBits,dz.enc,dz.cells])
theorem Gm (a b:OSeat) (w:World):(Op.equal 212 (OSeat.enc a) (OSeat.enc b)).run Tryz.prog w=.ok (decide (a=b)) w:=
 xi Fd (by kernel_rfl) (by kernel_rfl) (by rw [Bool.eq_iff_iff];cases a;cases b;simp [eqv,nth,OSeat.cells]) w
theorem ue:tA Tryz.prog 212 OSeat.enc:=CY Fd (fun e a w=>xO e Fd (by kernel_rfl) w) Gm (fun a=>by
 show Instr.sameBits (9999+1) _ _=true
 simp [Instr.sameBits,OSeat.enc,OSeat.cells])
theorem mixed:Tryz.prog.follows .mixedOrders=true:=by kernel_rfl
end Go.Sg
namespace Go.Sg
open Go.Proofs
set_option maxHeartbeats 2000000
theorem iF (h:HF) (dL:Int) (low:Int) (high:Int)  : Ret Tryz.prog 148 [I dL,I low,I high] h (.bool (cg dL low high)):=by
 refine ae Tryz.func148 U Tryz.ntmps148 U fun X hM hX=>?_
 have hs0:cg dL low high=cg dL low high:=rfl
 refine qT 10 U ?_
 refine ar 4 [10,11,12,13,14] 14 (.bool (decide (low≤dL)&&decide (dL≤high))) (fun hk1=>?_) (fun e=>?_)
 ·refine ac 10 U (fun c1=>?_) (fun c1=>?_)
  ·refine qO 4 U ?_
   exact hk1 _ (cb (cB c1))
  ·refine qO 4 U ?_
   exact hk1 _ (cb (cC c1))
 refine an ?_
 exact ah [.bool (decide (low≤dL)&&decide (dL≤high))] Tryz.func148 U hX rd (cs hs0)
theorem lG (h:HF) (dL:Int)  : Ret Tryz.prog 89 [I dL] h (.bool (dE dL)):=by
 refine ae Tryz.func89 U Tryz.ntmps89 U fun X hM hX=>?_
 have hs0:dE dL=dE dL:=rfl
 refine qT 7 U (au (v:=.bool (cg dL 0 31)) Ac (iF h dL 0 31 ) U (an ?_))
 exact ah [.bool (cg dL 0 31)] Tryz.func89 U hX rd (cs hs0)
theorem ji (h:HF) (dL:Int)  : Ret Tryz.prog 90 [I dL] h (.bool (bB dL)):=by
 refine ae Tryz.func90 U Tryz.ntmps90 U fun X hM hX=>?_
 have hs0:bB dL=bB dL:=rfl
 refine qT 7 U (au (v:=.bool (cg dL 0 1099511627775)) Ac (iF h dL 0 1099511627775 ) U (an ?_))
 exact ah [.bool (cg dL 0 1099511627775)] Tryz.func90 U hX rd (cs hs0)
theorem nL (h:HF) (dL:Int)  : Ret Tryz.prog 168 [I dL] h (.bool (eZ dL)):=by
 refine ae Tryz.func168 U Tryz.ntmps168 U fun X hM hX=>?_
 have hs0:eZ dL=eZ dL:=rfl
 refine qT 7 U (au (v:=.bool (cg dL 0 63)) Ac (iF h dL 0 63 ) U (an ?_))
 exact ah [.bool (cg dL 0 63)] Tryz.func168 U hX rd (cs hs0)
theorem vN (h:HF) (x:Appoint)  : Ret Tryz.prog 99 [.agg (Appoint.cells x).toArray] h (.bool (iq x)):=by
 refine ae Tryz.func99 U Tryz.ntmps99 U fun X hM hX=>?_
 have hs0:iq x=iq x:=rfl
 refine sr (dt (fun b1=>qO 10 U (aj xr U (aI 0 ty4 U U U (bh ?_)))))
 refine ak hs0 U (fun c1 hs1=>?_) (fun c1 hs2=>?_)
 ·refine qT 6 U (aj pw U (aI 0 ty3 U U U (au (v:=.bool (cg x.No 0 1048576)) Ac (iF h x.No 0 1048576 ) U (aB ?_))))
  refine ar 4 [10,11,12,13,14] 14 (.bool ((cg x.No 0 1048576)&&(bB x.At))) (fun hk1=>?_) (fun e=>?_)
  ·refine ac 10 U (fun c2=>?_) (fun c2=>?_)
   ·refine aj nd U (aI 0 ty3 U U U (au (v:=.bool (bB x.At)) Ce (ji h x.At ) U (eH U ?_)))
    exact hk1 _ (cb (cB c2))
   ·refine qO 4 U ?_
    exact hk1 _ (cb (cC c2))
  refine aB ?_
  refine ar 4 [15,16,17,18,19] 19 (.bool (((cg x.No 0 1048576)&&(bB x.At))&&(bB x.Known))) (fun hk2=>?_) (fun e=>?_)
  ·refine ac 15 U (fun c3=>?_) (fun c3=>?_)
   ·refine aj vf U (aI 0 ty3 U U U (au (v:=.bool (bB x.Known)) Ce (ji h x.Known ) U (eH U ?_)))
    exact hk2 _ (cb (cB c3))
   ·refine qO 4 U ?_
    exact hk2 _ (cb (cC c3))
  refine aB ?_
  refine ar 4 [20,21,22,23,24] 24 (.bool ((((cg x.No 0 1048576)&&(bB x.At))&&(bB x.Known))&&(dE x.Office))) (fun hk3=>?_) (fun e=>?_)
  ·refine ac 20 U (fun c4=>?_) (fun c4=>?_)
   ·refine aj ve U (aI 0 ty3 U U U (au (v:=.bool (dE x.Office)) Tryz.call89 (lG h x.Office ) U (eH U ?_)))
    exact hk3 _ (cb (cB c4))
   ·refine qO 4 U ?_
    exact hk3 _ (cb (cC c4))
  refine aB ?_
  refine ar 4 [25,26,27,28,29] 29 (.bool (((((cg x.No 0 1048576)&&(bB x.At))&&(bB x.Known))&&(dE x.Office))&&(eZ x.Person))) (fun hk4=>?_) (fun e=>?_)
  ·refine ac 25 U (fun c5=>?_) (fun c5=>?_)
   ·refine aj sZ U (aI 0 ty3 U U U (au (v:=.bool (eZ x.Person)) Tryz.call168 (nL h x.Person ) U (eH U ?_)))
    exact hk4 _ (cb (cB c5))
   ·refine qO 4 U ?_
    exact hk4 _ (cb (cC c5))
  refine aB ?_
  refine ar 6 [30,31,32,33,34,35,36] 36 (.bool ((((((cg x.No 0 1048576)&&(bB x.At))&&(bB x.Known))&&(dE x.Office))&&(eZ x.Person))&&(cg x.Weight 0 0))) (fun hk5=>?_) (fun e=>?_)
  ·refine ac 30 U (fun c6=>?_) (fun c6=>?_)
   ·refine aj qY U (aI 0 ty3 U U U (qO 2 U (au (v:=.bool (cg x.Weight 0 0)) Ac (iF h x.Weight 0 0 ) U (eH U ?_))))
    exact hk5 _ (cb (cB c6))
   ·refine qO 6 U ?_
    exact hk5 _ (cb (cC c6))
  refine an ?_
  exact ah [.bool ((((((cg x.No 0 1048576)&&(bB x.At))&&(bB x.Known))&&(dE x.Office))&&(eZ x.Person))&&(cg x.Weight 0 0))] Tryz.func99 U hX rd (cs hs1)
 ·refine qT 3 U (aj pw U (aI 0 ty3 U U U (au (v:=.bool (cg x.No 0 1048576)) Ac (iF h x.No 0 1048576 ) U (aB ?_))))
  refine ar 4 [10,11,12,13,14] 14 (.bool ((cg x.No 0 1048576)&&(bB x.At))) (fun hk6=>?_) (fun e=>?_)
  ·refine ac 10 U (fun c7=>?_) (fun c7=>?_)
   ·refine aj nd U (aI 0 ty3 U U U (au (v:=.bool (bB x.At)) Ce (ji h x.At ) U (eH U ?_)))
    exact hk6 _ (cb (cB c7))
   ·refine qO 4 U ?_
    exact hk6 _ (cb (cC c7))
  refine aB ?_
  refine ar 4 [15,16,17,18,19] 19 (.bool (((cg x.No 0 1048576)&&(bB x.At))&&(bB x.Known))) (fun hk7=>?_) (fun e=>?_)
  ·refine ac 15 U (fun c8=>?_) (fun c8=>?_)
   ·refine aj vf U (aI 0 ty3 U U U (au (v:=.bool (bB x.Known)) Ce (ji h x.Known ) U (eH U ?_)))
    exact hk7 _ (cb (cB c8))
   ·refine qO 4 U ?_
    exact hk7 _ (cb (cC c8))
  refine aB ?_
  refine ar 4 [20,21,22,23,24] 24 (.bool ((((cg x.No 0 1048576)&&(bB x.At))&&(bB x.Known))&&(dE x.Office))) (fun hk8=>?_) (fun e=>?_)
  ·refine ac 20 U (fun c9=>?_) (fun c9=>?_)
   ·refine aj ve U (aI 0 ty3 U U U (au (v:=.bool (dE x.Office)) Tryz.call89 (lG h x.Office ) U (eH U ?_)))
    exact hk8 _ (cb (cB c9))
   ·refine qO 4 U ?_
    exact hk8 _ (cb (cC c9))
  refine aB ?_
  refine ar 4 [25,26,27,28,29] 29 (.bool (((((cg x.No 0 1048576)&&(bB x.At))&&(bB x.Known))&&(dE x.Office))&&(eZ x.Person))) (fun hk9=>?_) (fun e=>?_)
  ·refine ac 25 U (fun c10=>?_) (fun c10=>?_)
   ·refine aj sZ U (aI 0 ty3 U U U (au (v:=.bool (eZ x.Person)) Tryz.call168 (nL h x.Person ) U (eH U ?_)))
    exact hk9 _ (cb (cB c10))
   ·refine qO 4 U ?_
    exact hk9 _ (cb (cC c10))
  refine aB ?_
  refine ar 6 [30,31,32,33,34,35,36] 36 (.bool ((((((cg x.No 0 1048576)&&(bB x.At))&&(bB x.Known))&&(dE x.Office))&&(eZ x.Person))&&(cg x.Weight 1 64))) (fun hk10=>?_) (fun e=>?_)
  ·refine ac 30 U (fun c11=>?_) (fun c11=>?_)
   ·refine aj qY U (aI 0 ty3 U U U (qO 2 U (au (v:=.bool (cg x.Weight 1 64)) Ac (iF h x.Weight 1 64 ) U (eH U ?_))))
    exact hk10 _ (cb (cB c11))
   ·refine qO 6 U ?_
    exact hk10 _ (cb (cC c11))
  refine an ?_
  exact ah [.bool ((((((cg x.No 0 1048576)&&(bB x.At))&&(bB x.Known))&&(dE x.Office))&&(eZ x.Person))&&(cg x.Weight 1 64))] Tryz.func99 U hX rd (cs hs2)
theorem pR (h:HF) (l:(List Appoint)) (eD:Option Addr) (eC:Nat) (hl:SlC Appoint.rp h eD eC l):Ret Tryz.prog 51 [.slice eD l.length eC] h (I (cx l)):=by
 refine ae GQ U Tryz.ntmps51 U fun X hM hX=>?_
 have hs0:cx l=cx l:=rfl
 refine qT 8 U (a8 nB U (qO 2 U ?_))
 refine ak hs0 U (fun c1 hs1=>?_) (fun c1 hs2=>?_)
 ·have c1p:=of_decide_eq_true c1
  refine qT 4 U ?_
  exact ah [I 2] GQ U hX rd (ci hs1)
 ·have c1p:=of_decide_eq_false c1
  refine qT 9 U (a8 nB U (qO 2 U ?_))
  refine aU (ι:=Nat×Int) (fun i=>[]) (fun i=>h) (fun i=>[]) (fun i=>i.1≤l.length∧cx l=((cx.K1) i.2)) ?_ (fun hx1=>?_)
  ·rintro ⟨i1,fW⟩ ⟨aP,hs4⟩ e
   try dsimp only at aP
   refine qT 4 U ?_
   exact ah [I 0] GQ U hX rd (ci hs4)
  ·refine bG (ι:=Nat×Int×List Appoint) (fun i=>[(3,I i.2.1),(9,.slice eD l.length eC),(10,I ((l.length:Nat):Int)),(11,I ((i.1:Nat):Int))]) (fun i=>h) (fun i=>[]) (fun i=>l.drop i.1=i.2.2∧i.1≤l.length∧cx l=((cx.L1 (cx.K1)) i.2.2 i.2.1)) (fun i=>i.2.2.length) (0,(-1),l) rd sw ⟨U,Nat.zero_le _,hs2⟩ ?_
   rintro ⟨i1,fW,s1⟩ ⟨hd1,aP,hs6⟩ ag1 e
   try dsimp only at hd1 aP
   rcases s1 with _ | ⟨y1,rz1⟩
   ·have dr:=cw hd1
    refine sr (ai (v':=.bool false) U (cb dr) (qO 4 U ?_))
    exact hx1 (i1,fW) _ ⟨aP,hs6⟩ trivial
   ·have dq:=dy hd1
    have aM:=cA hd1
    have ey:=aE hd1
    have gi:=hl.1.1
    refine sr (ai (v':=.bool true) U (cb dq) (qO 8 U (aN (eU (enc:=Appoint.cells) (fun _ _ _ e=>e) nB ty59 hl.1 (nthZ aM) (aV aM) U U U (fun q2 A2=>?_)))))
    refine el ty59 A2 U U (bR zc59 (fun b2=>bL 0 ty59 U U U U U U (qO 4 U (dl 0 ty59 U U U (au (v:=.bool (iq y1)) Tryz.call99 (vN h y1 ) U (qO 2 U ?_))))))
    refine ar 5 [18,19,20,21,22,23] 23 (.bool ((!(iq y1))||decide (y1.No≤fW))) (fun hk1=>?_) (fun e=>?_)
    ·refine ac 18 U (fun c2=>?_) (fun c2=>?_)
     ·refine qO 5 U ?_
      exact hk1 _ (cb (dW c2))
     ·refine aj pw U (aI 0 ty3 U U U (qO 3 U ?_))
      exact hk1 _ (cb (dX c2))
    refine bh ?_
    refine ak hs6 U (fun c3 hs8=>?_) (fun c3 hs9=>?_)
    ·refine qT 4 U ?_
     exact ah [I 150] GQ U hX rd (ci hs8)
    ·refine qT 2 U (aj pw U (aI 0 ty3 U U U (qO 4 U (ai (v':=I (((i1+1):Nat):Int)) U (bz ob) (qO 2 U ?_)))))
     refine cG (L':=[]) js ?_
     exact ag1 ((i1+1),y1.No,rz1) _ (Nat.lt_succ_self _) ⟨ba hd1,aE hd1,hs9⟩ rd
theorem iX (h:HF) (dL:Int) (low:Int) (high:Int)  : Ret Tryz.prog 169 [I dL,I low,I high] h (.bool (cS dL low high)):=by
 refine ae Tryz.func169 U Tryz.ntmps169 U fun X hM hX=>?_
 have hs0:cS dL low high=cS dL low high:=rfl
 refine qT 10 U ?_
 refine ar 4 [10,11,12,13,14] 14 (.bool (decide (low≤dL)&&decide (dL≤high))) (fun hk1=>?_) (fun e=>?_)
 ·refine ac 10 U (fun c1=>?_) (fun c1=>?_)
  ·refine qO 4 U ?_
   exact hk1 _ (cb (cB c1))
  ·refine qO 4 U ?_
   exact hk1 _ (cb (cC c1))
 refine an ?_
 exact ah [.bool (decide (low≤dL)&&decide (dL≤high))] Tryz.func169 U hX rd (cs hs0)
theorem oO (h:HF) (dL:Int)  : Ret Tryz.prog 170 [I dL] h (.bool (ei dL)):=by
 refine ae Tryz.func170 U Tryz.ntmps170 U fun X hM hX=>?_
 have hs0:ei dL=ei dL:=rfl
 refine qT 7 U (au (v:=.bool (cS dL 0 1099511627775)) Cd (iX h dL 0 1099511627775 ) U (an ?_))
 exact ah [.bool (cS dL 0 1099511627775)] Tryz.func170 U hX rd (cs hs0)
open Go.Proofs
set_option maxHeartbeats 2000000
theorem ny (h:HF) (dL:Int)  : Ret Tryz.prog 171 [I dL] h (.bool (eu dL)):=by
 refine ae Tryz.func171 U Tryz.ntmps171 U fun X hM hX=>?_
 have hs0:eu dL=eu dL:=rfl
 refine qT 7 U (au (v:=.bool (cS dL 0 63)) Cd (iX h dL 0 63 ) U (an ?_))
 exact ah [.bool (cS dL 0 63)] Tryz.func171 U hX rd (cs hs0)
theorem vt (h:HF) (x:Deputy)  : Ret Tryz.prog 100 [.agg (Deputy.cells x).toArray] h (.bool (jd x)):=by
 refine ae GP U Tryz.ntmps100 U fun X hM hX=>?_
 have hs0:jd x=jd x:=rfl
 refine sr (dt (fun b1=>qO 5 U (aj qk U (aI 0 ty3 U U U (au (v:=.bool (cS x.No 0 1048576)) Cd (iX h x.No 0 1048576 ) U (qO 2 U ?_))))))
 refine ar 5 [7,8,9,10,11,12] 12 (.bool ((!(cS x.No 0 1048576))||(!(ei x.At)))) (fun hk1=>?_) (fun e=>?_)
 ·refine ac 7 U (fun c1=>?_) (fun c1=>?_)
  ·refine qO 5 U ?_
   exact hk1 _ (cb (dW c1))
  ·refine aj vn U (aI 0 ty3 U U U (au (v:=.bool (ei x.At)) Tryz.call170 (oO h x.At ) U (qO 2 U ?_)))
   exact hk1 _ (cb (dX c1))
 refine aB ?_
 refine ar 5 [13,14,15,16,17,18] 18 (.bool (((!(cS x.No 0 1048576))||(!(ei x.At)))||(!(ei x.Known)))) (fun hk2=>?_) (fun e=>?_)
 ·refine ac 13 U (fun c2=>?_) (fun c2=>?_)
  ·refine qO 5 U ?_
   exact hk2 _ (cb (dW c2))
  ·refine aj DD U (aI 0 ty3 U U U (au (v:=.bool (ei x.Known)) Tryz.call170 (oO h x.Known ) U (qO 2 U ?_)))
   exact hk2 _ (cb (dX c2))
 refine aB ?_
 refine ar 5 [19,20,21,22,23,24] 24 (.bool ((((!(cS x.No 0 1048576))||(!(ei x.At)))||(!(ei x.Known)))||(!(eu x.From)))) (fun hk3=>?_) (fun e=>?_)
 ·refine ac 19 U (fun c3=>?_) (fun c3=>?_)
  ·refine qO 5 U ?_
   exact hk3 _ (cb (dW c3))
  ·refine aj vm U (aI 0 ty3 U U U (au (v:=.bool (eu x.From)) Tryz.call171 (ny h x.From ) U (qO 2 U ?_)))
   exact hk3 _ (cb (dX c3))
 refine aB ?_
 refine ar 5 [25,26,27,28,29,30] 30 (.bool (((((!(cS x.No 0 1048576))||(!(ei x.At)))||(!(ei x.Known)))||(!(eu x.From)))||(!(eu x.To)))) (fun hk4=>?_) (fun e=>?_)
 ·refine ac 25 U (fun c4=>?_) (fun c4=>?_)
  ·refine qO 5 U ?_
   exact hk4 _ (cb (dW c4))
  ·refine aj vl U (aI 0 ty3 U U U (au (v:=.bool (eu x.To)) Tryz.call171 (ny h x.To ) U (qO 2 U ?_)))
   exact hk4 _ (cb (dX c4))
 refine aB ?_
 refine ar 6 [31,32,33,34,35,36,37] 37 (.bool ((((((!(cS x.No 0 1048576))||(!(ei x.At)))||(!(ei x.Known)))||(!(eu x.From)))||(!(eu x.To)))||(x.From==x.To))) (fun hk5=>?_) (fun e=>?_)
 ·refine ac 31 U (fun c5=>?_) (fun c5=>?_)
  ·refine qO 6 U ?_
   exact hk5 _ (cb (dW c5))
  ·refine aj vm U (aI 0 ty3 U U U (aj vl U (aI 0 ty3 U U U (qO 2 U ?_))))
   exact hk5 _ (cb (dX c5))
 refine aB ?_
 refine ar 5 [38,39,40,41,42,43] 43 (.bool (((((((!(cS x.No 0 1048576))||(!(ei x.At)))||(!(ei x.Known)))||(!(eu x.From)))||(!(eu x.To)))||(x.From==x.To))||(!(cS x.Office 0 31)))) (fun hk6=>?_) (fun e=>?_)
 ·refine ac 38 U (fun c6=>?_) (fun c6=>?_)
  ·refine qO 5 U ?_
   exact hk6 _ (cb (dW c6))
  ·refine aj DC U (aI 0 ty3 U U U (au (v:=.bool (cS x.Office 0 31)) Cd (iX h x.Office 0 31 ) U (qO 2 U ?_)))
   exact hk6 _ (cb (dX c6))
 refine aB ?_
 refine ar 5 [44,45,46,47,48,49] 49 (.bool ((((((((!(cS x.No 0 1048576))||(!(ei x.At)))||(!(ei x.Known)))||(!(eu x.From)))||(!(eu x.To)))||(x.From==x.To))||(!(cS x.Office 0 31)))||(!(cS x.Kind (-1) 15)))) (fun hk7=>?_) (fun e=>?_)
 ·refine ac 44 U (fun c7=>?_) (fun c7=>?_)
  ·refine qO 5 U ?_
   exact hk7 _ (cb (dW c7))
  ·refine aj DB U (aI 0 ty3 U U U (au (v:=.bool (cS x.Kind (-1) 15)) Cd (iX h x.Kind (-1) 15 ) U (qO 2 U ?_)))
   exact hk7 _ (cb (dX c7))
 refine bh ?_
 refine ak hs0 U (fun c8 hs1=>?_) (fun c8 hs2=>?_)
 ·refine qT 4 U ?_
  exact ah [.bool false] GP U hX rd (cs hs1)
 ·refine qT 4 U (aj DA U (aI 0 ty4 U U U (bh ?_)))
  refine ak hs2 U (fun c9 hs4=>?_) (fun c9 hs5=>?_)
  ·refine sr (aj qj U (aI 0 ty3 U U U (qO 2 U ?_)))
   refine ar 4 [55,56,57,58,59] 59 (.bool ((x.Until==0)&&(x.Most==0))) (fun hk8=>?_) (fun e=>?_)
   ·refine ac 55 U (fun c10=>?_) (fun c10=>?_)
    ·refine aj vk U (aI 0 ty3 U U U (qO 2 U ?_))
     exact hk8 _ (cb (cB c10))
    ·refine qO 4 U ?_
     exact hk8 _ (cb (cC c10))
   refine an ?_
   exact ah [.bool ((x.Until==0)&&(x.Most==0))] GP U hX rd (cs hs4)
  ·refine qT 3 U (aj vn U (aI 0 ty3 U U U (aj qj U (aI 0 ty3 U U U (qO 2 U ?_)))))
   refine ar 4 [65,66,67,68,69] 69 (.bool (decide (x.At < x.Until)&&decide (x.Until≤1099511627776))) (fun hk9=>?_) (fun e=>?_)
   ·refine ac 65 U (fun c11=>?_) (fun c11=>?_)
    ·refine aj qj U (aI 0 ty3 U U U (qO 2 U ?_))
     exact hk9 _ (cb (cB c11))
    ·refine qO 4 U ?_
     exact hk9 _ (cb (cC c11))
   refine aB ?_
   refine ar 4 [70,71,72,73,74] 74 (.bool ((decide (x.At < x.Until)&&decide (x.Until≤1099511627776))&&(cS x.Most 0 1099511627776))) (fun hk10=>?_) (fun e=>?_)
   ·refine ac 70 U (fun c12=>?_) (fun c12=>?_)
    ·refine aj vk U (aI 0 ty3 U U U (au (v:=.bool (cS x.Most 0 1099511627776)) Cd (iX h x.Most 0 1099511627776 ) U (eH U ?_)))
     exact hk10 _ (cb (cB c12))
    ·refine qO 4 U ?_
     exact hk10 _ (cb (cC c12))
   refine an ?_
   exact ah [.bool ((decide (x.At < x.Until)&&decide (x.Until≤1099511627776))&&(cS x.Most 0 1099511627776))] GP U hX rd (cs hs5)
theorem vu (h:HF) (l:(List Deputy)) (eD:Option Addr) (eC:Nat) (hl:SlC Deputy.rp h eD eC l):Ret Tryz.prog 52 [.slice eD l.length eC] h (I (dg l)):=by
 refine ae GO U Tryz.ntmps52 U fun X hM hX=>?_
 have hs0:dg l=dg l:=rfl
 refine qT 8 U (a8 tE U (qO 2 U ?_))
 refine ak hs0 U (fun c1 hs1=>?_) (fun c1 hs2=>?_)
 ·have c1p:=of_decide_eq_true c1
  refine qT 4 U ?_
  exact ah [I 2] GO U hX rd (ci hs1)
 ·have c1p:=of_decide_eq_false c1
  refine qT 9 U (a8 tE U (qO 2 U ?_))
  refine aU (ι:=Nat×Int) (fun i=>[]) (fun i=>h) (fun i=>[]) (fun i=>i.1≤l.length∧dg l=((dg.K1) i.2)) ?_ (fun hx1=>?_)
  ·rintro ⟨i1,fW⟩ ⟨aP,hs4⟩ e
   try dsimp only at aP
   refine qT 4 U ?_
   exact ah [I 0] GO U hX rd (ci hs4)
  ·refine bG (ι:=Nat×Int×List Deputy) (fun i=>[(3,I i.2.1),(9,.slice eD l.length eC),(10,I ((l.length:Nat):Int)),(11,I ((i.1:Nat):Int))]) (fun i=>h) (fun i=>[]) (fun i=>l.drop i.1=i.2.2∧i.1≤l.length∧dg l=((dg.L1 (dg.K1)) i.2.2 i.2.1)) (fun i=>i.2.2.length) (0,(-1),l) rd sw ⟨U,Nat.zero_le _,hs2⟩ ?_
   rintro ⟨i1,fW,s1⟩ ⟨hd1,aP,hs6⟩ ag1 e
   try dsimp only at hd1 aP
   rcases s1 with _ | ⟨y1,rz1⟩
   ·have dr:=cw hd1
    refine sr (ai (v':=.bool false) U (cb dr) (qO 4 U ?_))
    exact hx1 (i1,fW) _ ⟨aP,hs6⟩ trivial
   ·have dq:=dy hd1
    have aM:=cA hd1
    have ey:=aE hd1
    have gi:=hl.1.1
    refine sr (ai (v':=.bool true) U (cb dq) (qO 8 U (aN (eU (enc:=Deputy.cells) (fun _ _ _ e=>e) tE ty169 hl.1 (nthZ aM) (aV aM) U U U (fun q2 A2=>?_)))))
    refine el ty169 A2 U U (bR zc169 (fun b2=>bL 0 ty169 U U U U U U (qO 4 U (dl 0 ty169 U U U (au (v:=.bool (jd y1)) Tryz.call100 (vt h y1 ) U (qO 2 U ?_))))))
    refine ar 5 [18,19,20,21,22,23] 23 (.bool ((!(jd y1))||decide (y1.No≤fW))) (fun hk1=>?_) (fun e=>?_)
    ·refine ac 18 U (fun c2=>?_) (fun c2=>?_)
     ·refine qO 5 U ?_
      exact hk1 _ (cb (dW c2))
     ·refine aj qk U (aI 0 ty3 U U U (qO 3 U ?_))
      exact hk1 _ (cb (dX c2))
    refine bh ?_
    refine ak hs6 U (fun c3 hs8=>?_) (fun c3 hs9=>?_)
    ·refine qT 4 U ?_
     exact ah [I 160] GO U hX rd (ci hs8)
    ·refine qT 2 U (aj qk U (aI 0 ty3 U U U (qO 4 U (ai (v':=I (((i1+1):Nat):Int)) U (bz ob) (qO 2 U ?_)))))
     refine cG (L':=[]) js ?_
     exact ag1 ((i1+1),y1.No,rz1) _ (Nat.lt_succ_self _) ⟨ba hd1,aE hd1,hs9⟩ rd
theorem gd (h:HF) (dL:Int) (limit:Int)  : Ret Tryz.prog 145 [I dL,I limit] h (.bool (aF dL limit)):=by
 refine ae Tryz.func145 U Tryz.ntmps145 U fun X hM hX=>?_
 have hs0:aF dL limit=aF dL limit:=rfl
 refine qT 9 U ?_
 refine ar 4 [7,8,9,10,11] 11 (.bool (decide (0≤dL)&&decide (dL < limit))) (fun hk1=>?_) (fun e=>?_)
 ·refine ac 7 U (fun c1=>?_) (fun c1=>?_)
  ·refine qO 4 U ?_
   exact hk1 _ (cb (cB c1))
  ·refine qO 4 U ?_
   exact hk1 _ (cb (cC c1))
 refine an ?_
 exact ah [.bool (decide (0≤dL)&&decide (dL < limit))] Tryz.func145 U hX rd (cs hs0)
theorem uj (h:HF) (x:Interest)  : Ret Tryz.prog 101 [.agg (Interest.cells x).toArray] h (.bool (iK x)):=by
 refine ae Tryz.func101 U Tryz.ntmps101 U fun X hM hX=>?_
 have hs0:iK x=iK x:=rfl
 refine sr (dt (fun b1=>qO 4 U (aj nX U (aI 0 ty3 U U U (au (v:=.bool (aF x.No 1048577)) wl (gd h x.No 1048577 ) U (aB ?_))))))
 refine ar 4 [7,8,9,10,11] 11 (.bool ((aF x.No 1048577)&&(aF x.At 1099511627776))) (fun hk1=>?_) (fun e=>?_)
 ·refine ac 7 U (fun c1=>?_) (fun c1=>?_)
  ·refine aj sY U (aI 0 ty3 U U U (au (v:=.bool (aF x.At 1099511627776)) wl (gd h x.At 1099511627776 ) U (eH U ?_)))
   exact hk1 _ (cb (cB c1))
  ·refine qO 4 U ?_
   exact hk1 _ (cb (cC c1))
 refine aB ?_
 refine ar 4 [12,13,14,15,16] 16 (.bool (((aF x.No 1048577)&&(aF x.At 1099511627776))&&(aF x.Known 1099511627776))) (fun hk2=>?_) (fun e=>?_)
 ·refine ac 12 U (fun c2=>?_) (fun c2=>?_)
  ·refine aj BI U (aI 0 ty3 U U U (au (v:=.bool (aF x.Known 1099511627776)) wl (gd h x.Known 1099511627776 ) U (eH U ?_)))
   exact hk2 _ (cb (cB c2))
  ·refine qO 4 U ?_
   exact hk2 _ (cb (cC c2))
 refine aB ?_
 refine ar 4 [17,18,19,20,21] 21 (.bool ((((aF x.No 1048577)&&(aF x.At 1099511627776))&&(aF x.Known 1099511627776))&&(aF x.Party 1048577))) (fun hk3=>?_) (fun e=>?_)
 ·refine ac 17 U (fun c3=>?_) (fun c3=>?_)
  ·refine aj pu U (aI 0 ty3 U U U (au (v:=.bool (aF x.Party 1048577)) wl (gd h x.Party 1048577 ) U (eH U ?_)))
   exact hk3 _ (cb (cB c3))
  ·refine qO 4 U ?_
   exact hk3 _ (cb (cC c3))
 refine qO 5 U (aj vc U (aI 0 ty4 U U U (bh ?_)))
 refine ak hs0 U (fun c4 hs1=>?_) (fun c4 hs2=>?_)
 ·refine qT 4 U ?_
  refine ar 4 [25,26,27,28,29] 29 (.bool (((((aF x.No 1048577)&&(aF x.At 1099511627776))&&(aF x.Known 1099511627776))&&(aF x.Party 1048577))&&(aF x.Person 1048577))) (fun hk4=>?_) (fun e=>?_)
  ·refine ac 25 U (fun c5=>?_) (fun c5=>?_)
   ·refine aj mJ U (aI 0 ty3 U U U (au (v:=.bool (aF x.Person 1048577)) wl (gd h x.Person 1048577 ) U (eH U ?_)))
    exact hk4 _ (cb (cB c5))
   ·refine qO 4 U ?_
    exact hk4 _ (cb (cC c5))
  refine aB ?_
  refine ar 6 [30,31,32,33,34,35,36] 36 (.bool ((((((aF x.No 1048577)&&(aF x.At 1099511627776))&&(aF x.Known 1099511627776))&&(aF x.Party 1048577))&&(aF x.Person 1048577))&&(x.Person != x.Party))) (fun hk5=>?_) (fun e=>?_)
  ·refine ac 30 U (fun c6=>?_) (fun c6=>?_)
   ·refine aj mJ U (aI 0 ty3 U U U (aj pu U (aI 0 ty3 U U U (qO 2 U ?_))))
    exact hk5 _ (cb (cB c6))
   ·refine qO 6 U ?_
    exact hk5 _ (cb (cC c6))
  refine an ?_
  exact ah [.bool ((((((aF x.No 1048577)&&(aF x.At 1099511627776))&&(aF x.Known 1099511627776))&&(aF x.Party 1048577))&&(aF x.Person 1048577))&&(x.Person != x.Party))] Tryz.func101 U hX rd (cs hs1)
 ·refine qT 5 U ?_
  refine ar 4 [38,39,40,41,42] 42 (.bool (((((aF x.No 1048577)&&(aF x.At 1099511627776))&&(aF x.Known 1099511627776))&&(aF x.Party 1048577))&&(aF x.Person 64))) (fun hk6=>?_) (fun e=>?_)
  ·refine ac 38 U (fun c7=>?_) (fun c7=>?_)
   ·refine aj mJ U (aI 0 ty3 U U U (au (v:=.bool (aF x.Person 64)) wl (gd h x.Person 64 ) U (eH U ?_)))
    exact hk6 _ (cb (cB c7))
   ·refine qO 4 U ?_
    exact hk6 _ (cb (cC c7))
  refine an ?_
  exact ah [.bool (((((aF x.No 1048577)&&(aF x.At 1099511627776))&&(aF x.Known 1099511627776))&&(aF x.Party 1048577))&&(aF x.Person 64))] Tryz.func101 U hX rd (cs hs2)
theorem oA (h:HF) (l:(List Interest)) (eD:Option Addr) (eC:Nat) (hl:SlC Interest.rp h eD eC l):Ret Tryz.prog 53 [.slice eD l.length eC] h (I (cr l)):=by
 refine ae GN U Tryz.ntmps53 U fun X hM hX=>?_
 have hs0:cr l=cr l:=rfl
 refine qT 8 U (a8 kS U (qO 2 U ?_))
 refine ak hs0 U (fun c1 hs1=>?_) (fun c1 hs2=>?_)
 ·have c1p:=of_decide_eq_true c1
  refine qT 4 U ?_
  exact ah [I 2] GN U hX rd (ci hs1)
 ·have c1p:=of_decide_eq_false c1
  refine qT 9 U (a8 kS U (qO 2 U ?_))
  refine aU (ι:=Nat×Int) (fun i=>[]) (fun i=>h) (fun i=>[]) (fun i=>i.1≤l.length∧cr l=((cr.K1) i.2)) ?_ (fun hx1=>?_)
  ·rintro ⟨i1,fW⟩ ⟨aP,hs4⟩ e
   try dsimp only at aP
   refine qT 4 U ?_
   exact ah [I 0] GN U hX rd (ci hs4)
  ·refine bG (ι:=Nat×Int×List Interest) (fun i=>[(3,I i.2.1),(9,.slice eD l.length eC),(10,I ((l.length:Nat):Int)),(11,I ((i.1:Nat):Int))]) (fun i=>h) (fun i=>[]) (fun i=>l.drop i.1=i.2.2∧i.1≤l.length∧cr l=((cr.L1 (cr.K1)) i.2.2 i.2.1)) (fun i=>i.2.2.length) (0,(-1),l) rd sw ⟨U,Nat.zero_le _,hs2⟩ ?_
   rintro ⟨i1,fW,s1⟩ ⟨hd1,aP,hs6⟩ ag1 e
   try dsimp only at hd1 aP
   rcases s1 with _ | ⟨y1,rz1⟩
   ·have dr:=cw hd1
    refine sr (ai (v':=.bool false) U (cb dr) (qO 4 U ?_))
    exact hx1 (i1,fW) _ ⟨aP,hs6⟩ trivial
   ·have dq:=dy hd1
    have aM:=cA hd1
    have ey:=aE hd1
    have gi:=hl.1.1
    refine sr (ai (v':=.bool true) U (cb dq) (qO 8 U (aN (eU (enc:=Interest.cells) (fun _ _ _ e=>e) kS ty61 hl.1 (nthZ aM) (aV aM) U U U (fun q2 A2=>?_)))))
    refine el ty61 A2 U U (bR zc61 (fun b2=>bL 0 ty61 U U U U U U (qO 4 U (dl 0 ty61 U U U (au (v:=.bool (iK y1)) Tryz.call101 (uj h y1 ) U (qO 2 U ?_))))))
    refine ar 5 [18,19,20,21,22,23] 23 (.bool ((!(iK y1))||decide (y1.No≤fW))) (fun hk1=>?_) (fun e=>?_)
    ·refine ac 18 U (fun c2=>?_) (fun c2=>?_)
     ·refine qO 5 U ?_
      exact hk1 _ (cb (dW c2))
     ·refine aj nX U (aI 0 ty3 U U U (qO 3 U ?_))
      exact hk1 _ (cb (dX c2))
    refine bh ?_
    refine ak hs6 U (fun c3 hs8=>?_) (fun c3 hs9=>?_)
    ·refine qT 4 U ?_
     exact ah [I 290] GN U hX rd (ci hs8)
    ·refine qT 2 U (aj nX U (aI 0 ty3 U U U (qO 4 U (ai (v':=I (((i1+1):Nat):Int)) U (bz ob) (qO 2 U ?_)))))
     refine cG (L':=[]) js ?_
     exact ag1 ((i1+1),y1.No,rz1) _ (Nat.lt_succ_self _) ⟨ba hd1,aE hd1,hs9⟩ rd
theorem mi (h:HF) (s:(List Int)) (qB:Option Addr) (pK:Nat) (f:(Int→Bool)) (f_v:Value) (hs:SlC Rp.int h qB pK s) (hf:∀ (h':HF) (eo:Int),HF.le h h'→wh Tryz.prog f_v [I eo] h' [] (.bool (f eo))):Ret Tryz.prog 110 [.slice qB s.length pK,f_v] h (I (bN s f)):=by
 refine ae Tryz.func110 U Tryz.ntmps110 U fun X hM hX=>?_
 have hs0:bN s f=bN s f:=rfl
 refine qT 8 U (a8 cN U (qO 2 U ?_))
 refine aU (ι:=Nat) (fun i=>[]) (fun i=>h) (fun i=>[]) (fun i=>i≤s.length∧bN s f=((bN.K1))) ?_ (fun hx1=>?_)
 ·rintro i1 ⟨aP,hs1⟩ e
  try dsimp only at aP
  refine qT 4 U ?_
  exact ah [I (-1)] Tryz.func110 U hX rd (ci hs1)
 ·refine bG (ι:=Nat×List Int) (fun i=>[(0,.slice qB s.length pK),(1,f_v),(7,I ((s.length:Nat):Int)),(8,I ((i.1:Nat):Int))]) (fun i=>h) (fun i=>[]) (fun i=>s.drop i.1=i.2∧i.1≤s.length∧bN s f=((bN.L1 f (bN.K1)) i.2 i.1)) (fun i=>i.2.length) (0,s) rd sw ⟨U,Nat.zero_le _,hs0⟩ ?_
  rintro ⟨i1,s1⟩ ⟨hd1,aP,hs3⟩ ag1 e
  try dsimp only at hd1 aP
  rcases s1 with _ | ⟨y1,rz1⟩
  ·have dr:=cw hd1
   refine sr (ai (v':=.bool false) U (cb dr) (qO 4 U ?_))
   exact hx1 i1 _ ⟨aP,hs3⟩ trivial
  ·have dq:=dy hd1
   have aM:=cA hd1
   have ey:=aE hd1
   have gi:=hs.1.1
   refine sr (ai (v':=.bool true) U (cb dq) (qO 16 U (aN (eU (enc:=fun y=>[I y]) (fun _ _ _ e=>e) cN ty3 hs.1 (nthZ aM) (aV aM) U U U (fun q2 A2=>?_)))))
   refine dv ty3 A2 U (aN (nO (v:=.bool (f y1)) [] (List.nil_sublist _) (hf h y1 (HF.le_refl _)) U U (bh ?_)))
   refine ak hs3 U (fun c2 hs5=>?_) (fun c2 hs6=>?_)
   ·refine qT 5 U ?_
    exact ah [I ((i1:Nat):Int)] Tryz.func110 U hX rd (ci hs5)
   ·refine qT 3 U (ai (v':=I (((i1+1):Nat):Int)) U (bz ob) (qO 2 U ?_))
    exact ag1 ((i1+1),rz1) _ (Nat.lt_succ_self _) ⟨ba hd1,aE hd1,hs6⟩ rd
theorem iy (h:HF) (s:(List Int)) (qB:Option Addr) (pK:Nat) (f:(Int→Bool)) (f_v:Value) (hs:SlC Rp.int h qB pK s) (hf:∀ (h':HF) (eo:Int),HF.le h h'→wh Tryz.prog f_v [I eo] h' [] (.bool (f eo))):Ret Tryz.prog 176 [.slice qB s.length pK,f_v] h (.bool (cK s f)):=by
 refine ae Tryz.func176 U Tryz.ntmps176 U fun X hM hX=>?_
 have hs0:cK s f=cK s f:=rfl
 refine qT 8 U (au (v:=I (bN s f)) Tryz.call110 (mi h s qB pK f f_v hs hf) U (qO 3 U ?_))
 exact ah [.bool (decide (0≤(bN s f)))] Tryz.func176 U hX rd (cs hs0)
open Go.Proofs
set_option maxHeartbeats 2000000
theorem sM (h:HF) (dL:Int) (v0:Int) (v0_q:Addr) (v1:Int) (v1_q:Addr) (av0:At h v0_q [I v0]) (av1:At h v1_q [I v1]):Ret Tryz.prog 225 [I dL,.pointer (some v0_q),.pointer (some v1_q)] h (.bool (gX dL v0 v1)):=by
 refine ae Tryz.func225 U Tryz.ntmps225 U fun X hM hX=>?_
 have hs0:gX dL v0 v1=gX dL v0 v1:=rfl
 refine qT 7 U (dv ty3 av0 U (qO 2 U ?_))
 refine ar 4 [8,9,10,11,12] 12 (.bool (decide (dL < v0)||decide (v1 < dL))) (fun hk1=>?_) (fun e=>?_)
 ·refine ac 8 U (fun c1=>?_) (fun c1=>?_)
  ·refine qO 4 U ?_
   exact hk1 _ (cb (dW c1))
  ·refine aB (dv ty3 av1 U (qO 2 U ?_))
   exact hk1 _ (cb (dX c1))
 refine an ?_
 exact ah [.bool (decide (dL < v0)||decide (v1 < dL))] Tryz.func225 U hX rd (cs hs0)
theorem ff (h:HF) (least:Int) (most:Int) (l:(List Int)) (eD:Option Addr) (eC:Nat) (hl:SlC Rp.int h eD eC l):Ret Tryz.prog 172 [I least,I most,.slice eD l.length eC] h (.bool (aC least most l)):=by
 refine ae Tryz.func172 U Tryz.ntmps172 U fun X hM hX=>?_
 have hs0:aC least most l=aC least most l:=rfl
 refine sr (dt (fun b1=>dt (fun b2=>qO 5 U (bX 1 U hM (fun h1 hle1 hb1=>bX 0 U hM (fun h2 hle2 hb2=>aN (gg U U (au (v:=.bool (cK l (fun eo=>gX eo least most))) GM (iy h2 l eD eC (fun eo=>gX eo least most) (.func (.func 225) #[] #[Q b1,Q b2]) (hl.mono Rp.bi (hle1.t hle2)) (fun h' eo hle =>iZ Tryz.call225 (sM h' eo least ⟨b1,0,none⟩ most ⟨b2,0,none⟩  (((dN hb1).mono hle2).mono hle) ((dN hb2).mono hle)))) U (qO 3 U ?_)))))))))
 exact ah [.bool (!(cK l (fun eo=>gX eo least most)))] Tryz.func172 U hX rd (cs hs0)
theorem wd (h:HF) (x:Budget)  : Ret Tryz.prog 102 [.agg (Budget.cells x).toArray] h (.bool (jw x)):=by
 refine ae Tryz.func102 U Tryz.ntmps102 U fun X hM hX=>?_
 have hs0:jw x=jw x:=rfl
 refine sr (dt (fun b1=>qO 10 U (aj Dz U (aI 0 ty4 U U U (bh ?_)))))
 refine ak hs0 U (fun c1 hs1=>?_) (fun c1 hs2=>?_)
 ·refine qT 6 U (aj oJ U (aI 0 ty3 U U U (aN (bK (cells:=[I x.No]) cN ty3 zc3 U U kr (fun b2=>bX 0 U hM (fun h1 hle1 hb1=>?_))))))
  have sl1:SlC Rp.int h1 (some ⟨b2,0,none⟩) 1 ([x.No]):=bD.slB0 (T:=3) (fz:=(0,0)) ((show bD Rp.int h [I x.No] ([x.No]) from ⟨[I x.No],[],rfl,rfl,rfl,rfl⟩).mono Rp.bi hle1) hb1
  refine au (v:=.bool (aC 0 1048576 ([x.No]))) rO (ff h1 0 1048576 ([x.No]) (some ⟨b2,0,none⟩) 1 sl1) U (aB ?_)
  refine ar 7 [11,12,13,14,15,16,17,18] 18 (.bool ((aC 0 1048576 ([x.No]))&&(aC 0 1099511627775 ([x.At,x.Known])))) (fun hk1=>?_) (fun e=>?_)
  ·refine ac 11 U (fun c2=>?_) (fun c2=>?_)
   ·refine aj ze U (aI 0 ty3 U U U (aj zd U (aI 0 ty3 U U U (aN (bK (cells:=[I x.At,I x.Known]) cN ty3 zc3 U U kr (fun b3=>bX 0 U hM (fun h2 hle2 hb2=>?_)))))))
    have sl2:SlC Rp.int h2 (some ⟨b3,0,none⟩) 2 ([x.At,x.Known]):=bD.slB0 (T:=3) (fz:=(0,0)) ((show bD Rp.int h1 [I x.At,I x.Known] ([x.At,x.Known]) from ⟨[I x.At],[I x.Known],rfl,rfl,rfl,⟨[I x.Known],[],rfl,rfl,rfl,rfl⟩⟩).mono Rp.bi hle2) hb2
    refine au (v:=.bool (aC 0 1099511627775 ([x.At,x.Known]))) rO (ff h2 0 1099511627775 ([x.At,x.Known]) (some ⟨b3,0,none⟩) 2 sl2) U (eH U (kT (h:=h1) hle2 hX hle1 ?_))
    exact hk1 _ (cb (cB c2))
   ·refine qO 7 U ?_
    exact hk1 _ (cb (cC c2))
  refine aB ?_
  refine ar 5 [19,20,21,22,23,24] 24 (.bool (((aC 0 1048576 ([x.No]))&&(aC 0 1099511627775 ([x.At,x.Known])))&&(aC (-1) 15 ([x.Kind])))) (fun hk2=>?_) (fun e=>?_)
  ·refine ac 19 U (fun c3=>?_) (fun c3=>?_)
   ·refine aj zc U (aI 0 ty3 U U U (aN (bK (cells:=[I x.Kind]) cN ty3 zc3 U U kr (fun b4=>bX 0 U hM (fun h3 hle3 hb3=>?_)))))
    have sl3:SlC Rp.int h3 (some ⟨b4,0,none⟩) 1 ([x.Kind]):=bD.slB0 (T:=3) (fz:=(0,0)) ((show bD Rp.int h1 [I x.Kind] ([x.Kind]) from ⟨[I x.Kind],[],rfl,rfl,rfl,rfl⟩).mono Rp.bi hle3) hb3
    refine au (v:=.bool (aC (-1) 15 ([x.Kind]))) rO (ff h3 (-1) 15 ([x.Kind]) (some ⟨b4,0,none⟩) 1 sl3) U (eH U (kT (h:=h1) hle3 hX hle1 ?_))
    exact hk2 _ (cb (cB c3))
   ·refine qO 5 U ?_
    exact hk2 _ (cb (cC c3))
  refine aB ?_
  refine ar 5 [25,26,27,28,29,30] 30 (.bool ((((aC 0 1048576 ([x.No]))&&(aC 0 1099511627775 ([x.At,x.Known])))&&(aC (-1) 15 ([x.Kind])))&&(aC 1 1099511627776 ([x.Period])))) (fun hk3=>?_) (fun e=>?_)
  ·refine ac 25 U (fun c4=>?_) (fun c4=>?_)
   ·refine aj zb U (aI 0 ty3 U U U (aN (bK (cells:=[I x.Period]) cN ty3 zc3 U U kr (fun b5=>bX 0 U hM (fun h4 hle4 hb4=>?_)))))
    have sl4:SlC Rp.int h4 (some ⟨b5,0,none⟩) 1 ([x.Period]):=bD.slB0 (T:=3) (fz:=(0,0)) ((show bD Rp.int h1 [I x.Period] ([x.Period]) from ⟨[I x.Period],[],rfl,rfl,rfl,rfl⟩).mono Rp.bi hle4) hb4
    refine au (v:=.bool (aC 1 1099511627776 ([x.Period]))) rO (ff h4 1 1099511627776 ([x.Period]) (some ⟨b5,0,none⟩) 1 sl4) U (eH U (kT (h:=h1) hle4 hX hle1 ?_))
    exact hk3 _ (cb (cB c4))
   ·refine qO 5 U ?_
    exact hk3 _ (cb (cC c4))
  refine aB ?_
  refine ar 6 [31,32,33,34,35,36,37] 37 (.bool (((((aC 0 1048576 ([x.No]))&&(aC 0 1099511627775 ([x.At,x.Known])))&&(aC (-1) 15 ([x.Kind])))&&(aC 1 1099511627776 ([x.Period])))&&(aC 0 0 ([x.Count])))) (fun hk4=>?_) (fun e=>?_)
  ·refine ac 31 U (fun c5=>?_) (fun c5=>?_)
   ·refine aB (aj vj U (aI 0 ty3 U U U (aN (bK (cells:=[I x.Count]) cN ty3 zc3 U U kr (fun b6=>bX 0 U hM (fun h5 hle5 hb5=>?_))))))
    have sl5:SlC Rp.int h5 (some ⟨b6,0,none⟩) 1 ([x.Count]):=bD.slB0 (T:=3) (fz:=(0,0)) ((show bD Rp.int h1 [I x.Count] ([x.Count]) from ⟨[I x.Count],[],rfl,rfl,rfl,rfl⟩).mono Rp.bi hle5) hb5
    refine au (v:=.bool (aC 0 0 ([x.Count]))) rO (ff h5 0 0 ([x.Count]) (some ⟨b6,0,none⟩) 1 sl5) U (eH U (kT (h:=h1) hle5 hX hle1 ?_))
    exact hk4 _ (cb (cB c5))
   ·refine qO 6 U ?_
    exact hk4 _ (cb (cC c5))
  refine aB ?_
  refine ar 6 [38,39,40,41,42,43,44] 44 (.bool ((((((aC 0 1048576 ([x.No]))&&(aC 0 1099511627775 ([x.At,x.Known])))&&(aC (-1) 15 ([x.Kind])))&&(aC 1 1099511627776 ([x.Period])))&&(aC 0 0 ([x.Count])))&&(aC 0 0 ([x.Value])))) (fun hk5=>?_) (fun e=>?_)
  ·refine ac 38 U (fun c6=>?_) (fun c6=>?_)
   ·refine aB (aj vi U (aI 0 ty3 U U U (aN (bK (cells:=[I x.Value]) cN ty3 zc3 U U kr (fun b7=>bX 0 U hM (fun h6 hle6 hb6=>?_))))))
    have sl6:SlC Rp.int h6 (some ⟨b7,0,none⟩) 1 ([x.Value]):=bD.slB0 (T:=3) (fz:=(0,0)) ((show bD Rp.int h1 [I x.Value] ([x.Value]) from ⟨[I x.Value],[],rfl,rfl,rfl,rfl⟩).mono Rp.bi hle6) hb6
    refine au (v:=.bool (aC 0 0 ([x.Value]))) rO (ff h6 0 0 ([x.Value]) (some ⟨b7,0,none⟩) 1 sl6) U (eH U (kT (h:=h1) hle6 hX hle1 ?_))
    exact hk5 _ (cb (cB c6))
   ·refine qO 6 U ?_
    exact hk5 _ (cb (cC c6))
  refine an ?_
  exact ah [.bool ((((((aC 0 1048576 ([x.No]))&&(aC 0 1099511627775 ([x.At,x.Known])))&&(aC (-1) 15 ([x.Kind])))&&(aC 1 1099511627776 ([x.Period])))&&(aC 0 0 ([x.Count])))&&(aC 0 0 ([x.Value])))] Tryz.func102 U hX rd (cs hs1)
 ·refine qT 3 U (aj oJ U (aI 0 ty3 U U U (aN (bK (cells:=[I x.No]) cN ty3 zc3 U U kr (fun b8=>bX 0 U hM (fun h7 hle7 hb7=>?_))))))
  have sl7:SlC Rp.int h7 (some ⟨b8,0,none⟩) 1 ([x.No]):=bD.slB0 (T:=3) (fz:=(0,0)) ((show bD Rp.int h [I x.No] ([x.No]) from ⟨[I x.No],[],rfl,rfl,rfl,rfl⟩).mono Rp.bi hle7) hb7
  refine au (v:=.bool (aC 0 1048576 ([x.No]))) rO (ff h7 0 1048576 ([x.No]) (some ⟨b8,0,none⟩) 1 sl7) U (aB ?_)
  refine ar 7 [11,12,13,14,15,16,17,18] 18 (.bool ((aC 0 1048576 ([x.No]))&&(aC 0 1099511627775 ([x.At,x.Known])))) (fun hk6=>?_) (fun e=>?_)
  ·refine ac 11 U (fun c7=>?_) (fun c7=>?_)
   ·refine aj ze U (aI 0 ty3 U U U (aj zd U (aI 0 ty3 U U U (aN (bK (cells:=[I x.At,I x.Known]) cN ty3 zc3 U U kr (fun b9=>bX 0 U hM (fun h8 hle8 hb8=>?_)))))))
    have sl8:SlC Rp.int h8 (some ⟨b9,0,none⟩) 2 ([x.At,x.Known]):=bD.slB0 (T:=3) (fz:=(0,0)) ((show bD Rp.int h7 [I x.At,I x.Known] ([x.At,x.Known]) from ⟨[I x.At],[I x.Known],rfl,rfl,rfl,⟨[I x.Known],[],rfl,rfl,rfl,rfl⟩⟩).mono Rp.bi hle8) hb8
    refine au (v:=.bool (aC 0 1099511627775 ([x.At,x.Known]))) rO (ff h8 0 1099511627775 ([x.At,x.Known]) (some ⟨b9,0,none⟩) 2 sl8) U (eH U (kT (h:=h7) hle8 hX hle7 ?_))
    exact hk6 _ (cb (cB c7))
   ·refine qO 7 U ?_
    exact hk6 _ (cb (cC c7))
  refine aB ?_
  refine ar 5 [19,20,21,22,23,24] 24 (.bool (((aC 0 1048576 ([x.No]))&&(aC 0 1099511627775 ([x.At,x.Known])))&&(aC (-1) 15 ([x.Kind])))) (fun hk7=>?_) (fun e=>?_)
  ·refine ac 19 U (fun c8=>?_) (fun c8=>?_)
   ·refine aj zc U (aI 0 ty3 U U U (aN (bK (cells:=[I x.Kind]) cN ty3 zc3 U U kr (fun b10=>bX 0 U hM (fun h9 hle9 hb9=>?_)))))
    have sl9:SlC Rp.int h9 (some ⟨b10,0,none⟩) 1 ([x.Kind]):=bD.slB0 (T:=3) (fz:=(0,0)) ((show bD Rp.int h7 [I x.Kind] ([x.Kind]) from ⟨[I x.Kind],[],rfl,rfl,rfl,rfl⟩).mono Rp.bi hle9) hb9
    refine au (v:=.bool (aC (-1) 15 ([x.Kind]))) rO (ff h9 (-1) 15 ([x.Kind]) (some ⟨b10,0,none⟩) 1 sl9) U (eH U (kT (h:=h7) hle9 hX hle7 ?_))
    exact hk7 _ (cb (cB c8))
   ·refine qO 5 U ?_
    exact hk7 _ (cb (cC c8))
  refine aB ?_
  refine ar 5 [25,26,27,28,29,30] 30 (.bool ((((aC 0 1048576 ([x.No]))&&(aC 0 1099511627775 ([x.At,x.Known])))&&(aC (-1) 15 ([x.Kind])))&&(aC 1 1099511627776 ([x.Period])))) (fun hk8=>?_) (fun e=>?_)
  ·refine ac 25 U (fun c9=>?_) (fun c9=>?_)
   ·refine aj zb U (aI 0 ty3 U U U (aN (bK (cells:=[I x.Period]) cN ty3 zc3 U U kr (fun b11=>bX 0 U hM (fun h10 hle10 hb10=>?_)))))
    have sl10:SlC Rp.int h10 (some ⟨b11,0,none⟩) 1 ([x.Period]):=bD.slB0 (T:=3) (fz:=(0,0)) ((show bD Rp.int h7 [I x.Period] ([x.Period]) from ⟨[I x.Period],[],rfl,rfl,rfl,rfl⟩).mono Rp.bi hle10) hb10
    refine au (v:=.bool (aC 1 1099511627776 ([x.Period]))) rO (ff h10 1 1099511627776 ([x.Period]) (some ⟨b11,0,none⟩) 1 sl10) U (eH U (kT (h:=h7) hle10 hX hle7 ?_))
    exact hk8 _ (cb (cB c9))
   ·refine qO 5 U ?_
    exact hk8 _ (cb (cC c9))
  refine aB ?_
  refine ar 6 [31,32,33,34,35,36,37] 37 (.bool (((((aC 0 1048576 ([x.No]))&&(aC 0 1099511627775 ([x.At,x.Known])))&&(aC (-1) 15 ([x.Kind])))&&(aC 1 1099511627776 ([x.Period])))&&(aC 0 1048576 ([x.Count])))) (fun hk9=>?_) (fun e=>?_)
  ·refine ac 31 U (fun c10=>?_) (fun c10=>?_)
   ·refine aB (aj vj U (aI 0 ty3 U U U (aN (bK (cells:=[I x.Count]) cN ty3 zc3 U U kr (fun b12=>bX 0 U hM (fun h11 hle11 hb11=>?_))))))
    have sl11:SlC Rp.int h11 (some ⟨b12,0,none⟩) 1 ([x.Count]):=bD.slB0 (T:=3) (fz:=(0,0)) ((show bD Rp.int h7 [I x.Count] ([x.Count]) from ⟨[I x.Count],[],rfl,rfl,rfl,rfl⟩).mono Rp.bi hle11) hb11
    refine au (v:=.bool (aC 0 1048576 ([x.Count]))) rO (ff h11 0 1048576 ([x.Count]) (some ⟨b12,0,none⟩) 1 sl11) U (eH U (kT (h:=h7) hle11 hX hle7 ?_))
    exact hk9 _ (cb (cB c10))
   ·refine qO 6 U ?_
    exact hk9 _ (cb (cC c10))
  refine aB ?_
  refine ar 6 [38,39,40,41,42,43,44] 44 (.bool ((((((aC 0 1048576 ([x.No]))&&(aC 0 1099511627775 ([x.At,x.Known])))&&(aC (-1) 15 ([x.Kind])))&&(aC 1 1099511627776 ([x.Period])))&&(aC 0 1048576 ([x.Count])))&&(aC 0 1099511627776 ([x.Value])))) (fun hk10=>?_) (fun e=>?_)
  ·refine ac 38 U (fun c11=>?_) (fun c11=>?_)
   ·refine aB (aj vi U (aI 0 ty3 U U U (aN (bK (cells:=[I x.Value]) cN ty3 zc3 U U kr (fun b13=>bX 0 U hM (fun h12 hle12 hb12=>?_))))))
    have sl12:SlC Rp.int h12 (some ⟨b13,0,none⟩) 1 ([x.Value]):=bD.slB0 (T:=3) (fz:=(0,0)) ((show bD Rp.int h7 [I x.Value] ([x.Value]) from ⟨[I x.Value],[],rfl,rfl,rfl,rfl⟩).mono Rp.bi hle12) hb12
    refine au (v:=.bool (aC 0 1099511627776 ([x.Value]))) rO (ff h12 0 1099511627776 ([x.Value]) (some ⟨b13,0,none⟩) 1 sl12) U (eH U (kT (h:=h7) hle12 hX hle7 ?_))
    exact hk10 _ (cb (cB c11))
   ·refine qO 6 U ?_
    exact hk10 _ (cb (cC c11))
  refine an ?_
  exact ah [.bool ((((((aC 0 1048576 ([x.No]))&&(aC 0 1099511627775 ([x.At,x.Known])))&&(aC (-1) 15 ([x.Kind])))&&(aC 1 1099511627776 ([x.Period])))&&(aC 0 1048576 ([x.Count])))&&(aC 0 1099511627776 ([x.Value])))] Tryz.func102 U hX rd (cs hs2)
theorem we (h:HF) (l:(List Budget)) (eD:Option Addr) (eC:Nat) (hl:SlC Budget.rp h eD eC l):Ret Tryz.prog 54 [.slice eD l.length eC] h (I (dj l)):=by
 refine ae GL U Tryz.ntmps54 U fun X hM hX=>?_
 have hs0:dj l=dj l:=rfl
 refine qT 8 U (a8 tD U (qO 2 U ?_))
 refine ak hs0 U (fun c1 hs1=>?_) (fun c1 hs2=>?_)
 ·have c1p:=of_decide_eq_true c1
  refine qT 4 U ?_
  exact ah [I 2] GL U hX rd (ci hs1)
 ·have c1p:=of_decide_eq_false c1
  refine qT 9 U (a8 tD U (qO 2 U ?_))
  refine aU (ι:=Nat×Int) (fun i=>[]) (fun i=>h) (fun i=>[]) (fun i=>i.1≤l.length∧dj l=((dj.K1) i.2)) ?_ (fun hx1=>?_)
  ·rintro ⟨i1,fW⟩ ⟨aP,hs4⟩ e
   try dsimp only at aP
   refine qT 4 U ?_
   exact ah [I 0] GL U hX rd (ci hs4)
  ·refine bG (ι:=Nat×Int×List Budget) (fun i=>[(3,I i.2.1),(9,.slice eD l.length eC),(10,I ((l.length:Nat):Int)),(11,I ((i.1:Nat):Int))]) (fun i=>h) (fun i=>[]) (fun i=>l.drop i.1=i.2.2∧i.1≤l.length∧dj l=((dj.L1 (dj.K1)) i.2.2 i.2.1)) (fun i=>i.2.2.length) (0,(-1),l) rd sw ⟨U,Nat.zero_le _,hs2⟩ ?_
   rintro ⟨i1,fW,s1⟩ ⟨hd1,aP,hs6⟩ ag1 e
   try dsimp only at hd1 aP
   rcases s1 with _ | ⟨y1,rz1⟩
   ·have dr:=cw hd1
    refine sr (ai (v':=.bool false) U (cb dr) (qO 4 U ?_))
    exact hx1 (i1,fW) _ ⟨aP,hs6⟩ trivial
   ·have dq:=dy hd1
    have aM:=cA hd1
    have ey:=aE hd1
    have gi:=hl.1.1
    refine sr (ai (v':=.bool true) U (cb dq) (qO 8 U (aN (eU (enc:=Budget.cells) (fun _ _ _ e=>e) tD ty173 hl.1 (nthZ aM) (aV aM) U U U (fun q2 A2=>?_)))))
    refine el ty173 A2 U U (bR zc173 (fun b2=>bL 0 ty173 U U U U U U (qO 4 U (dl 0 ty173 U U U (au (v:=.bool (jw y1)) Tryz.call102 (wd h y1 ) U (qO 2 U ?_))))))
    refine ar 5 [18,19,20,21,22,23] 23 (.bool ((!(jw y1))||decide (y1.No≤fW))) (fun hk1=>?_) (fun e=>?_)
    ·refine ac 18 U (fun c2=>?_) (fun c2=>?_)
     ·refine qO 5 U ?_
      exact hk1 _ (cb (dW c2))
     ·refine aj oJ U (aI 0 ty3 U U U (qO 3 U ?_))
      exact hk1 _ (cb (dX c2))
    refine bh ?_
    refine ak hs6 U (fun c3 hs8=>?_) (fun c3 hs9=>?_)
    ·refine qT 4 U ?_
     exact ah [I 180] GL U hX rd (ci hs8)
    ·refine qT 2 U (aj oJ U (aI 0 ty3 U U U (qO 4 U (ai (v':=I (((i1+1):Nat):Int)) U (bz ob) (qO 2 U ?_)))))
     refine cG (L':=[]) js ?_
     exact ag1 ((i1+1),y1.No,rz1) _ (Nat.lt_succ_self _) ⟨ba hd1,aE hd1,hs9⟩ rd
theorem si (rec:Expr→Int→List fI) (h:HF) (x:Expr) (fb:cE) (x_q:Addr) (depth:Int) (depth_q:Addr) (hrec:∀ (h:HF) (qx:Expr) (jp:cE) (qdepth:Int) (_:Expr.ok h qx jp) (_:0≤qdepth∧qdepth+qx.dep≤2000000) (_:qx.dep < x.dep),je Tryz.prog 219 [.agg (Expr.cells qx jp).toArray,I qdepth] h (fun v h'=>∃ rv0:Value,v=rv0∧Itr Tryz.prog rv0 pU (rec qx qdepth) h')) (hx:Expr.ok h x fb) (ax:At h x_q (Expr.cells x fb)) (adepth:At h depth_q [I depth]) (hb:0≤depth∧depth+x.dep≤2000000):Itr Tryz.prog (.func (.func 247) #[] (List.toArray [.pointer (some x_q),.pointer (some depth_q)])) pU (aT.F rec x depth) h:=by
 refine vS Tryz.call247 ?_
 intro yf ya yb C Sp Pn h1 A hle m1 m2 m3 hC hy
 refine jS Ab U Tryz.ntmps247 U fun X hXM hX=>?_
 have hs0:aT.F rec x depth=[]++aT.F rec x depth:=rfl
 refine sr (dt (fun b1=>qO 4 U (aI 0 ty285 U U U (el ty66 (ax.mono hle) U U (dv ty3 (adepth.mono hle) U (aN (fq (cells:=[I x.Kind,I x.N,I x.No,.string x.Name,.slice fb.ir x.L.length fb.iG,I depth]) (places:=[(0,5),(5,1)]) Tryz.underlying258 zc258 kr kr ?_)))))))
 have hx1:aT.F rec x depth=[]++((fI.mk (Expr.mk x.Kind x.N x.No x.Name x.L) depth)::((aT.L1 rec depth (aT.K1)) x.L )):=hs0
 let z1:Nat×Obj:=(b1,O [.func yf ya yb] 285)
 refine aN (lS ([z1]) A ap (hy [] (fI.mk (Expr.mk x.Kind x.N x.No x.Name x.L) depth) _ _ _ _ hx1 (HF.le_refl _) hC ⟨(wi.mk (cE.mk fb.ir fb.iG)),U,(show fI.ok h1 (fI.mk (Expr.mk x.Kind x.N x.No x.Name x.L) depth) (wi.mk (cE.mk fb.ir fb.iG)) from ⟨(show Expr.ok h1 (Expr.mk x.Kind x.N x.No x.Name x.L) (cE.mk fb.ir fb.iG) from Expr.ok.of (hx.list.mono Expr.aD hle))⟩)⟩) U U (fun h2 A1 hle1 hC1=>?_) (fun h3 A2 hle2 hS1=>?_) (fun ch1 h4 A3 hle3 hP1 e=>i6 (qM [] (A:=A3) Ab (List.sublist_append_right _ _) hP1)))
 ·have hs1:aT.F rec x depth=[(fI.mk (Expr.mk x.Kind x.N x.No x.Name x.L) depth)]++(((aT.L1 rec depth (aT.K1)) x.L )):=hx1.trans ap
  refine qO 6 U (aj dC U (km (j:=4) ty64 (ax.mono (hle.t hle1)) U U (a8 ga U (qO 2 U ?_))))
  refine gp ?_
  refine dZ (L':=[z1]++(A1++(markB []))) ap ?_
  refine qt (ι:=Nat×List fI×LH×List Nat×HF) (fun i=>[]) (fun i=>marks i.2.2.2.1) (fun i=>i.2.2.2.2) (fun i=>[z1]++(i.2.2.1++(markB i.2.2.2.1))) (fun i=>i.1≤x.L.length∧aT.F rec x depth=i.2.1++((aT.K1))∧C i.2.1 i.2.2.2.2 i.2.2.1∧HF.le h2 i.2.2.2.2) ?_ (fun hx1=>?_)
  ·rintro ⟨i1,dn1,A1_,rs1,hh1⟩ ⟨aP,hs2,hC1_,hl1⟩ e
   try dsimp only at aP hC1_ hl1
   refine dZ (L':=([z1]++(A1_))++markB rs1) ap ?_
   have hs3:aT.F rec x depth=dn1:=hs2.trans (List.append_nil _)
   exact vT rs1 (A:=A1_) Ab U js (.inl (hs3 ▸ hC1_))
  ·refine uH (ι:=Nat×List fI×LH×List Nat×HF×List Expr) (fun i=>[(2,.pointer (some depth_q)),(3,Q b1),(14,.slice fb.ir x.L.length fb.iG),(15,I ((x.L.length:Nat):Int)),(16,I ((i.1:Nat):Int))]) (fun i=>marks i.2.2.2.1) (fun i=>i.2.2.2.2.1) (fun i=>[z1]++(i.2.2.1++(markB i.2.2.2.1))) (fun i=>x.L.drop i.1=i.2.2.2.2.2∧i.1≤x.L.length∧aT.F rec x depth=i.2.1++((aT.L1 rec depth (aT.K1)) i.2.2.2.2.2 )∧C i.2.1 i.2.2.2.2.1 i.2.2.1∧HF.le h2 i.2.2.2.2.1) (fun i=>i.2.2.2.2.2.length) (0,[(fI.mk (Expr.mk x.Kind x.N x.No x.Name x.L) depth)],A1,[],h2,x.L) U rd sw ⟨U,Nat.zero_le _,hs1,hC1,(HF.le_refl h2)⟩ ?_
   rintro ⟨i1,dn1,A1_,rs1,hh1,s1⟩ ⟨hd1,aP,hs4,hC1_,hl1⟩ ag1 e
   try dsimp only at hd1 aP hC1_ hl1
   rcases s1 with _ | ⟨y1,rz1⟩
   ·have dr:=cw hd1
    refine sr (ai (v':=.bool false) U (cb dr) (qO 4 U ?_))
    exact hx1 (i1,dn1,A1_,rs1,hh1) _ ⟨aP,hs4,hC1_,hl1⟩ trivial
   ·have dq:=dy hd1
    have aM:=cA hd1
    have ey:=aE hd1
    have gi:=(hx.list.mono Expr.aD (hle.t hle1)).1.1
    have hdy:=Expr.hY (gx hd1)
    refine sr (ai (v':=.bool true) U (cb dq) (qO 8 U (aN (fF ga ty66 (hx.list.mono Expr.aD ((hle.t hle1).t hl1)).1 (nthZ aM) (aV aM) U U U (fun q2 cs2 A8 ln2 rr2=>?_)))))
    obtain ⟨r2,rfl,ok2⟩:=rr2
    refine el ty66 A8 U U (bR zc66 (fun b4=>bL 0 ty66 U U U U U U (iT (L':=[(b4,O (Expr.cells y1 r2) 66),z1]++(A1_++(markB rs1))) U (qO 3 U (dl 0 ty66 U U U (dv ty3 (adepth.mono ((hle.t hle1).t hl1)) U (ai (v':=I (depth+1)) U (im ob) (aN (cy Fc (hrec hh1 y1 r2 (depth+1) ok2 ob (Expr.hY (gx hd1))) U (fun v2 h9 hle8 hp2=>?_))))))))))
    obtain ⟨_,rfl,mo2⟩:=hp2
    refine qO 2 U ?_
    let z2:Nat×Obj:=(b4,O (Expr.cells y1 r2) 66)
    refine dZ (L':=([z2,z1]++(A1_))++markB rs1) ap ?_
    refine kd (it:=v2) (xs:=(rec y1 (depth+1))) (ι:=List fI×LH×HF) rs1 (fun i=>i.2.2) (fun i=>[z2,z1]++(i.2.1)) (fun s i=>aT.F rec x depth=i.1++((aT.L3 ((aT.L1 rec depth (aT.K1) rz1 ))) s )∧C i.1 i.2.2 i.2.1∧HF.le h9 i.2.2) (fun i=>Sp i.2.2 i.2.1∧HF.le h9 i.2.2) (fun _=>False) 0 (fun ch h L=>∃ B,B.Sublist L∧Pn ch h B) (dn1,A1_,h9) Ab U mo2 U lN (fun _ _ _ _ hl ⟨B,hs,hp⟩=>⟨B,hs,m3 _ _ _ _ hl hp⟩) U (show [z2,z1]++(A1_)=_ from U) ⟨hs4,(m1 _ _ _ _ hle8 hC1_),(HF.le_refl h9)⟩ ?_ ?_ ?_ ?_ ?_
    ·rintro l3 dm3 lp3 y3 rz3 vs3 ⟨dn3,A3_,hh3⟩ hr3 X hFR3 ⟨hs6,hC3_,hl3⟩ hl03 hlr3 hv3 hX hXM hlp3 nx3 rt3 ex3 pn3
     try dsimp only at hC3_ hl3 hlr3
     obtain ⟨rr3_0,rfl,ok3_0⟩:=hv3
     let z3:Nat×Obj:=(dm3,.deferred (some []))
     refine dZ (L':=[(l3,.loop lp3),z3,z2,z1]++(A3_++(markB rs1))) ap (bU (bR zc258 (fun b6=>bL 0 ty258 U U U U U U (iT (L':=[(b6,O (fI.cells y3 rr3_0) 258),(l3,.loop lp3),z3,z2,z1]++(A3_++(markB rs1))) U (bh (ke 1 U hlp3 (qT 3 U (aI 4 ty285 U U U (dl 0 ty258 U U U ?_)))))))))
     have hx4:aT.F rec x depth=dn3++(y3::((aT.L3 ((aT.L1 rec depth (aT.K1) rz1 ))) rz3 )):=hs6
     let z4:Nat×Obj:=(l3,.loop { lp3 with state:=.busy })
     refine aN (Hf ([(b6,O (fI.cells y3 rr3_0) 258),z4,z3,z2,z1]) A3_ (markB rs1) ap (hy dn3 y3 _ _ _ _ hx4 ((((hle1.t hl1).t hle8).t hl3).t hlr3) (m1 _ _ _ _ hlr3 hC3_) ⟨rr3_0,U,ok3_0⟩) U U (fun h13 A12 hle12 hC4=>?_) (fun h14 A13 hle13 hS4=>?_) (fun ch4 h15 A14 hle14 hP4 e=>tU (L':=[z4,z3]++(A14++(markB rs1))) js (pn3 _ _ _ A14 ⟨A14,List.Sublist.refl _,hP4⟩)))
     ·have hs7:aT.F rec x depth=(dn3++[y3])++(((aT.L3 ((aT.L1 rec depth (aT.K1) rz1 ))) rz3 )):=hx4.trans ap
      refine qO 5 U ?_
      refine cG (L':=[z4,z3,z2,z1]++(A12++(markB rs1))) js ?_
      refine dZ (L':=rdH l3 dm3 lp3 (([z2,z1]++(A12))++markB rs1)) ap ?_
      exact nx3 ((dn3++[y3]),A12,h13) _ _ ⟨hs7,hC4,((hl3.t hlr3).t hle12)⟩ (HF.le_refl _)
     ·refine qO 3 U ?_
      refine cG (L':=[z4,z3,z2,z1]++(A13++(markB rs1))) js ?_
      refine dZ (L':=rdH l3 dm3 lp3 (([z2,z1]++(A13))++markB rs1)) ap ?_
      exact rt3 (dn3,A13,h14) _ _ _ ⟨hS4,((hl3.t hlr3).t hle13)⟩ (HF.le_refl _)
    ·rintro dm3 ⟨dn3,A3_,hh3⟩ hn3 ⟨hs8,hC3_,hl3⟩ hln3 hl03
     try dsimp only at hC3_ hl3 hln3
     refine dZ (L':=[z2,z1]++(A3_++(markB (dm3::rs1)))) ap (qT 3 U (ai (v':=I (((i1+1):Nat):Int)) U (bz ob) (qO 2 U ?_)))
     refine cG (L':=[z1]++(A3_++(markB (dm3::rs1)))) js ?_
     exact ag1 ((i1+1),dn3,A3_,(dm3::rs1),hn3,rz1) _ (Nat.lt_succ_self _) ⟨ba hd1,aE hd1,hs8,(m1 _ _ _ _ hln3 hC3_),(((hl1.t hle8).t hl3).t hln3)⟩ rd
    ·rintro dm3 ⟨dn3,A3_,hh3⟩ hn3 ⟨hS5,hl3⟩ hln3 hl03
     try dsimp only at hS5 hl3 hln3
     refine dZ (L':=[z2,z1]++(A3_++(markB (dm3::rs1)))) ap ?_
     refine dZ (L':=([z2,z1]++(A3_))++markB (dm3::rs1)) ap ?_
     exact qL (dm3::rs1) (A:=A3_) Ab U js (.inr (m2 _ _ _ hln3 hS5))
    ·exact fun _ _ _ hF=>hF.elim
    ·rintro dm3 ch hn3 L0 ⟨B,hB,hp⟩ hl03
     exact qM (dm3::rs1) Ab hB hp
 ·refine qO 3 U ?_
  refine gp ?_
  exact qL [] (A:=A2) Ab U js (.inr hS1)
theorem nm:∀ (m:Nat) (h:HF) (x:Expr) (fb:cE) (depth:Int) (_:Expr.ok h x fb) (_:0≤depth∧depth+x.dep≤2000000) (_:x.dep≤m),je Tryz.prog 219 [.agg (Expr.cells x fb).toArray,I depth] h (fun v h'=>∃ rv0:Value,v=rv0∧Itr Tryz.prog rv0 pU (aT.go m x depth) h')
 | 0,h,x,fb,depth,hx,hb,hd=>absurd hd (Nat.not_le.2 (Expr.jV _))
 | m+1,h,x,fb,depth,hx,hb,hd=>by
  refine ae Tryz.func219 U Tryz.ntmps219 U fun X hM hX=>(sr (dt (fun b1=>dt (fun b2=>qO 4 U ?_))))
  refine bX 1 U hM (fun h2 hle2 hb2=>bX 0 U hM (fun h3 hle3 hb3=>aN (gg U U (an ?_))))
  refine cJ [.func (.func 247) #[] #[Q b1,Q b2]] Tryz.func219 U rd ⟨_,U,?_⟩
  exact si (aT.go m) h3 x fb ⟨b1,0,none⟩ depth ⟨b2,0,none⟩ (fun h' y Ks d' hy hb' hl=>nm m h' y Ks d' hy hb' ob) (hx.mono (hle2.t hle3)) ((dN hb2).mono hle3) (dN hb3) hb
theorem kV (h:HF) (x:Expr) (fb:cE) (depth:Int) (hx:Expr.ok h x fb) (hb:0≤depth∧depth+x.dep≤2000000):je Tryz.prog 219 [.agg (Expr.cells x fb).toArray,I depth] h (fun v h'=>∃ rv0:Value,v=rv0∧Itr Tryz.prog rv0 pU (bS x depth) h'):=nm _ h x fb depth hx hb (Nat.le_refl _)
theorem gh (h:HF) (ok:Bool) (Jl:Int)  : Gr Tryz.prog 242 [.bool ok,I Jl] h (exW stopV (fun r:Unit=>(.tuple #[]:Value)) (ew ok Jl)):=by
 refine ae Tryz.func242 U Tryz.ntmps242 U fun X hM hX=>?_
 have hs0:ew ok Jl=ew ok Jl:=rfl
 refine qT 5 U ?_
 refine ak hs0 U (fun c1 hs1=>?_) (fun c1 hs2=>?_)
 ·refine qT 2 U (aN (fq (cells:=[I Jl]) (places:=[(0,1)]) Tryz.underlying277 zc277 kr kr (aN (gI (IX Tryz.underlying277 U U) ?_))))
  refine aN (IR U F4 (fun e=>?_))
  refine i6 ?_
  exact lR [] Tryz.func242 hX (congrArg (exW stopV (fun r:Unit=>(.tuple #[]:Value))) hs1)
 ·refine e8 ?_
  have hs3:ew ok Jl=(Except.ok ()):=hs2
  refine gp ?_
  exact uI [] [] Tryz.func242 U hX trivial (congrArg (exW stopV (fun r:Unit=>(.tuple #[]:Value))) hs3)
theorem Ge {c:Bool} {e:Int} {u:Unit} (h:ew c e=.ok u):c=true:=by
 cases c with
 | true=>rfl
 | false=>simp [ew] at h
theorem kl (h:HF) (p:Policy) (fe:eE) (hp:Policy.ok h p fe) (hsz0:p.Rules.length≤2000000):je Tryz.prog 243 [.agg (Policy.cells p fe).toArray] h (fun v h'=>∃ (rb0:Option Addr) (rc0:Nat),v=.slice rb0 (ay p).length rc0∧SlC Expr.rp h' rb0 rc0 (ay p)):=by
 refine ae Tryz.func243 U Tryz.ntmps243 U fun X hM hX=>?_
 have hs0:ay p=ay p:=rfl
 refine sr (dt (fun b1=>qO 5 U (aj fj U (aI 0 ty63 U U U (a8 jR U (qO 2 U ?_))))))
 let z2:Nat×Obj:=(b1,O (Policy.cells p fe) 68)
 refine aU (ι:=Nat×(List Expr)×Option Addr×Nat×LH) (fun i=>[(1,Q b1),(2,.slice i.2.2.1 i.2.1.length i.2.2.2.1)]) (fun i=>h) (fun i=>[z2]++(i.2.2.2.2)) (fun i=>i.1≤p.Rules.length∧ay p=((ay.K1 p) i.2.1)∧eb Expr.rp 66 h i.2.1 i.2.2.1 i.2.2.2.1 i.2.2.2.2∧i.2.1.length≤0+i.1) ?_ (fun hx1=>?_)
 ·rintro ⟨i1,yY,Jk,Jj,H3⟩ ⟨aP,hs1,AQ,H0⟩ e
  try dsimp only at aP AQ H0
  refine qT 3 U (aj lU U (dl 0 ty66 U U U (aN (bK (cells:=[I p.Change.Kind,I p.Change.N,I p.Change.No,.string p.Change.Name,.slice fe.Change.ir p.Change.L.length fe.Change.iG]) ga ty66 zc66 U U kr (fun b5=>?_)))))
  let z1:Nat×Obj:=(b5,O [I p.Change.Kind,I p.Change.N,I p.Change.No,.string p.Change.Name,.slice fe.Change.ir p.Change.L.length fe.Change.iG] 66)
  refine aN (db Expr.eT ([z1,z2]) ([]) (fun G=>[z1,z2]++(G)) ap (fun _=>ap) ga ty66 zc66 U bytes66 AQ U U (eI 0 U (show bD Expr.rp h [I p.Change.Kind,I p.Change.N,I p.Change.No,.string p.Change.Name,.slice fe.Change.ir p.Change.L.length fe.Change.iG] ([p.Change]) from ⟨[I p.Change.Kind,I p.Change.N,I p.Change.No,.string p.Change.Name,.slice fe.Change.ir p.Change.L.length fe.Change.iG],[],U,U,⟨fe.Change,U,hp.Change⟩,U⟩)) lo lo (fun ob3 oc3 G3 gr3=>(an ?_)))
  refine eY Expr.aD ([z1,z2]) G3 ([]) ap hM gr3 (fun h2 hle2 sl2=>?_)
  have hs2:ay p=(yY++[p.Change]):=hs1
  exact cJ [.slice ob3 ((yY++[p.Change]).length) oc3] Tryz.func243 U rd ⟨ob3,oc3,congrArg (fun r:(List Expr)=>(.slice ob3 r.length oc3:Value)) hs2.symm,(by rw [hs2];exact sl2)⟩
 ·refine bG (ι:=Nat×(List Expr)×Option Addr×Nat×LH×List Rule) (fun i=>[(1,Q b1),(2,.slice i.2.2.1 i.2.1.length i.2.2.2.1),(6,.slice fe.kc p.Rules.length fe.kb),(7,I ((p.Rules.length:Nat):Int)),(8,I ((i.1:Nat):Int))]) (fun i=>h) (fun i=>[z2]++(i.2.2.2.2.1)) (fun i=>p.Rules.drop i.1=i.2.2.2.2.2∧i.1≤p.Rules.length∧ay p=((ay.L1 (ay.K1 p)) i.2.2.2.2.2 i.2.1)∧eb Expr.rp 66 h i.2.1 i.2.2.1 i.2.2.2.1 i.2.2.2.2.1∧i.2.1.length≤0+i.1) (fun i=>i.2.2.2.2.2.length) (0,[],none,0,[],p.Rules) rd sw ⟨U,Nat.zero_le _,hs0,eb.nil,lo⟩ ?_
  rintro ⟨i1,yY,Jk,Jj,H3,s1⟩ ⟨hd1,aP,hs3,AQ,H0⟩ ag1 e
  try dsimp only at hd1 aP AQ H0
  rcases s1 with _ | ⟨y1,rz1⟩
  ·have dr:=cw hd1
   refine sr (ai (v':=.bool false) U (cb dr) (qO 4 U ?_))
   exact hx1 (i1,yY,Jk,Jj,H3) _ ⟨aP,hs3,AQ,lo⟩ rd
  ·have dq:=dy hd1
   have aM:=cA hd1
   have ey:=aE hd1
   have gi:=hp.Rules.1.1
   refine sr (ai (v':=.bool true) U (cb dq) (qO 8 U (aN (fF jR ty107 hp.Rules.1 (nthZ aM) (aV aM) U U U (fun q2 cs2 A2 ln2 rr2=>?_)))))
   obtain ⟨r2,rfl,ok2⟩:=rr2
   refine el ty107 A2 U U (bR zc107 (fun b6=>bL 0 ty107 U U U U U U (iT (L':=[(b6,O (Rule.cells y1 r2) 107),z2]++(H3)) U (qO 3 U ?_))))
   refine aj kv U (dl 0 ty66 U U U (aN (bK (cells:=[I y1.Expr.Kind,I y1.Expr.N,I y1.Expr.No,.string y1.Expr.Name,.slice r2.Expr.ir y1.Expr.L.length r2.Expr.iG]) ga ty66 zc66 U U kr (fun b7=>?_))))
   let z3:Nat×Obj:=(b7,O [I y1.Expr.Kind,I y1.Expr.N,I y1.Expr.No,.string y1.Expr.Name,.slice r2.Expr.ir y1.Expr.L.length r2.Expr.iG] 66)
   refine aN (db Expr.eT ([z3,(b6,O (Rule.cells y1 r2) 107),z2]) ([]) (fun G=>[z3,(b6,O (Rule.cells y1 r2) 107),z2]++(G)) ap (fun _=>ap) ga ty66 zc66 U bytes66 AQ U U (eI 0 U (show bD Expr.rp h [I y1.Expr.Kind,I y1.Expr.N,I y1.Expr.No,.string y1.Expr.Name,.slice r2.Expr.ir y1.Expr.L.length r2.Expr.iG] ([y1.Expr]) from ⟨[I y1.Expr.Kind,I y1.Expr.N,I y1.Expr.No,.string y1.Expr.Name,.slice r2.Expr.ir y1.Expr.L.length r2.Expr.iG],[],U,U,⟨r2.Expr,U,ok2.Expr⟩,U⟩)) lo lo (fun ob4 oc4 G4 gr4=>(qO 4 U (ai (v':=I (((i1+1):Nat):Int)) U (bz ob) (qO 2 U ?_)))))
   refine cG (L':=[z2]++(G4)) js ?_
   exact ag1 ((i1+1),(yY++[y1.Expr]),ob4,oc4,G4,rz1) _ (Nat.lt_succ_self _) ⟨ba hd1,aE hd1,hs3,gr4,lo⟩ rd
theorem FL (p:Policy):∀ (l:List Rule) (g:List Expr),ay.L1 (ay.K1 p) l g=g++(l.map (·.Expr)++[p.Change])
 | [],g=>by simp [ay.L1,ay.K1]
 | y::l,g=>by simp [ay.L1,FL p l]
theorem Ib (p:Policy):ay p=p.Rules.map (·.Expr)++[p.Change]:=by
 unfold ay;rw [FL];simp
theorem vq {p:Policy} (h:smP p) {y:Expr} (hy:y∈ay p):y.dep≤1500000:=by
 rw [Ib] at hy
 rcases List.mem_append.1 hy with hy | hy
 ·obtain ⟨r,hr,rfl⟩:=List.mem_map.1 hy;exact h.2.1 r hr
 ·rw [List.mem_singleton.1 hy];exact h.2.2.1
theorem uR (h:HF) (p:Policy) (fe:eE) (hp:Policy.ok h p fe) (hsm:smP p):Gr Tryz.prog 215 [.agg (Policy.cells p fe).toArray] h (exW stopV (fun r:Unit=>(.tuple #[]:Value)) (ck p)):=by
 refine ae Fb U Tryz.ntmps215 U fun X hM hX=>?_
 have hs0:ck p=ck p:=rfl
 have hsr:=hsm.rules
 have hsc:=hsm.change
 refine sr (dt (fun b1=>qO 3 U (aj iS U (aI 0 ty62 U U U (a8 kB U (qO 2 U ?_))))))
 refine ar 5 [10,11,12,13,14,15] 15 (.bool (decide (((p.Offices.length:Nat):Int)≤32)&&decide (((p.Kinds.length:Nat):Int)≤16))) (fun hk1=>?_) (fun e=>?_)
 ·refine ac 10 U (fun c1=>?_) (fun c1=>?_)
  ·refine aj kZ U (aI 0 ty62 U U U (a8 kB U (qO 2 U ?_)))
   exact hk1 _ (cb (cB c1))
  ·refine qO 5 U ?_
   exact hk1 _ (cb (cC c1))
 refine aB ?_
 refine ar 5 [16,17,18,19,20,21] 21 (.bool ((decide (((p.Offices.length:Nat):Int)≤32)&&decide (((p.Kinds.length:Nat):Int)≤16))&&decide (((p.Rules.length:Nat):Int)≤16))) (fun hk2=>?_) (fun e=>?_)
 ·refine ac 16 U (fun c2=>?_) (fun c2=>?_)
  ·refine aj fj U (aI 0 ty63 U U U (a8 jR U (qO 2 U ?_)))
   exact hk2 _ (cb (cB c2))
  ·refine qO 5 U ?_
   exact hk2 _ (cb (cC c2))
 refine aN (kU tB (gh h ((decide (((p.Offices.length:Nat):Int)≤32)&&decide (((p.Kinds.length:Nat):Int)≤16))&&decide (((p.Rules.length:Nat):Int)≤16)) 2 ) U (fun u1 hu1=>?_) (fun pv1 hpv1 e=>?_))
 ·obtain ⟨rx1,hrx1,rfl⟩:=mL hu1
  have hs1:=hs0.trans (mK hrx1)
  cases rx1
  refine qO 3 U (dl 0 ty68 U U U (aN (cy Tryz.call243 (kl h p fe hp ob) U (fun v1 h1 hle1 hp1=>?_))))
  obtain ⟨rb1,rc1,rfl,sl1⟩:=hp1
  refine a8 ga U (qO 2 U ?_)
  refine gp ?_
  let z1:Nat×Obj:=(b1,O (Policy.cells p fe) 68)
  refine dZ (L':=[z1]++(markB [])) ap ?_
  refine qt (ι:=Nat×List Nat×HF) (fun i=>[]) (fun i=>marks i.2.1) (fun i=>i.2.2) (fun i=>[z1]++(markB i.2.1)) (fun i=>i.1≤(ay p).length∧ck p=((ck.K1))∧HF.le h1 i.2.2) ?_ (fun hx1=>?_)
  ·rintro ⟨i1,rs1,hh1⟩ ⟨aP,hs2,hl1⟩ e
   try dsimp only at aP hl1
   have hs3:ck p=(Except.ok ()):=hs2
   refine dZ (L':=([z1])++markB rs1) ap ?_
   exact uI rs1 [] Fb U hX trivial (congrArg (exW stopV (fun r:Unit=>(.tuple #[]:Value))) hs3)
  ·refine uH (ι:=Nat×List Nat×HF×List Expr) (fun i=>[(24,.slice rb1 ((ay p).length) rc1),(25,I (((ay p).length:Nat):Int)),(26,I ((i.1:Nat):Int))]) (fun i=>marks i.2.1) (fun i=>i.2.2.1) (fun i=>[z1]++(markB i.2.1)) (fun i=>(ay p).drop i.1=i.2.2.2∧i.1≤(ay p).length∧ck p=((ck.L1 (ck.K1)) i.2.2.2 )∧HF.le h1 i.2.2.1) (fun i=>i.2.2.2.length) (0,[],h1,(ay p)) U rd sw ⟨U,Nat.zero_le _,hs1,(HF.le_refl h1)⟩ ?_
   rintro ⟨i1,rs1,hh1,s1⟩ ⟨hd1,aP,hs4,hl1⟩ ag1 e
   try dsimp only at hd1 aP hl1
   rcases s1 with _ | ⟨y1,rz1⟩
   ·have dr:=cw hd1
    refine sr (ai (v':=.bool false) U (cb dr) (qO 4 U ?_))
    exact hx1 (i1,rs1,hh1) _ ⟨aP,hs4,hl1⟩ trivial
   ·have dq:=dy hd1
    have aM:=cA hd1
    have ey:=aE hd1
    have gi:=sl1.1.1
    try have hsy:=vq hsm (gx hd1)
    refine sr (ai (v':=.bool true) U (cb dq) (qO 8 U (aN (fF ga ty66 (sl1.mono Expr.aD hl1).1 (nthZ aM) (aV aM) U U U (fun q2 cs2 A2 ln2 rr2=>?_)))))
    obtain ⟨r2,rfl,ok2⟩:=rr2
    refine el ty66 A2 U U (bR zc66 (fun b5=>bL 0 ty66 U U U U U U (qO 3 U (bR zc3 (fun b6=>dS 0 ty3 U U U U U U (qO 3 U (dl 1 ty66 U U U (aN (cy Fc (kV hh1 y1 r2 1 ok2 ob) U (fun v3 h3 hle3 hp3=>?_))))))))))
    obtain ⟨_,rfl,mo2⟩:=hp3
    refine qO 2 U ?_
    let z2:Nat×Obj:=(b5,O (Expr.cells y1 r2) 66)
    refine dZ (L':=([(b6,O [I 0] 3),z2,z1])++markB rs1) ap ?_
    refine kd (it:=v3) (xs:=(bS y1 1)) (ι:=Int×HF) rs1 (fun i=>i.2) (fun i=>[(b6,O [I i.1] 3),z2,z1]) (fun s i=>ck p=((ck.L3 (fun zg3_b6_0=>(ck.L1 (ck.K1) rz1 ))) s i.1)∧HF.le h3 i.2) (fun _=>False) (fun _=>False) 0 (fun ch _ _=>∃ pv_,ch=[{ v:=stopV pv_,recovered:=false }]∧ck p=.error pv_) (0,h3) Fb U mo2 U lN (fun _ _ _ _ _ hq=>hq) U (show [(b6,O [I 0] 3),z2,z1]=_ from U) ⟨hs4,(HF.le_refl h3)⟩ ?_ ?_ ?_ ?_ ?_
    ·rintro l3 dm3 lp3 y3 rz3 vs3 ⟨qU,hh3⟩ hr3 X hFR3 ⟨hs6,hl3⟩ hl03 hlr3 hv3 hX hXM hlp3 nx3 rt3 ex3 pn3
     try dsimp only at hl3 hlr3
     obtain ⟨rr3_0,rfl,ok3_0⟩:=hv3
     let z4:Nat×Obj:=(dm3,.deferred (some []))
     refine dZ (L':=[(l3,.loop lp3),z4,(b6,O [I qU] 3),z2,z1]++(markB rs1)) ap (bU (bR zc258 (fun b8=>bL 0 ty258 U U U U U U (bh (ke 1 U hlp3 (qT 3 U (aI 3 ty3 U U U (HA U (dS 3 ty3 U U U U U U (qO 2 U (aI 3 ty3 U U U (qO 2 U ?_))))))))))))
     refine ar 4 [37,38,39,40,41] 41 (.bool (decide ((IntKind.wrap .i64 (qU+1))≤256)&&decide (y3.depth≤16))) (fun hk3=>?_) (fun e=>?_)
     ·refine ac 37 U (fun c3=>?_) (fun c3=>?_)
      ·refine aj H6 U (aI 0 ty3 U U U (qO 2 U ?_))
       exact hk3 _ (cb (cB c3))
      ·refine qO 4 U ?_
       exact hk3 _ (cb (cC c3))
     refine aN (kU tB (gh hr3 (decide ((IntKind.wrap .i64 (qU+1))≤256)&&decide (y3.depth≤16)) 2 ) U (fun u2 hu2=>?_) (fun pv2 hpv2 e=>?_))
     ·obtain ⟨rx2,hrx2,rfl⟩:=mL hu2
      have hs7:=hs6.trans (mK hrx2)
      cases rx2
      refine qO 2 U ?_
      let z3:Nat×Obj:=(b6,O [I (IntKind.wrap .i64 (qU+1))] 3)
      refine cG (L':=[(l3,.loop { lp3 with state:=.busy }),z4,z3,z2,z1]++(markB rs1)) js ?_
      refine dZ (L':=rdH l3 dm3 lp3 (([z3,z2,z1])++markB rs1)) ap ?_
      exact nx3 ((IntKind.wrap .i64 (qU+1)),hr3) _ _ ⟨hs7,(hl3.t hlr3)⟩ (HF.le_refl _)
     ·obtain ⟨pv2e,hpv2e,rfl⟩:=ld hpv2
      have hs8:=hs6.trans (lb hpv2e)
      refine tU (L':=[(l3,.loop { lp3 with state:=.busy }),z4]++(markB rs1)) js ?_
      exact pn3 _ _ _ [] ⟨_,U,hs8⟩
    ·rintro dm3 ⟨qU,hh3⟩ hn3 ⟨hs9,hl3⟩ hln3 hl03
     try dsimp only at hl3 hln3
     refine dZ (L':=[(b6,O [I qU] 3),z2,z1]++(markB (dm3::rs1))) ap (qT 3 U (ai (v':=I (((i1+1):Nat):Int)) U (bz ob) (qO 2 U ?_)))
     refine cG (L':=[z1]++(markB (dm3::rs1))) js ?_
     exact ag1 ((i1+1),(dm3::rs1),hn3,rz1) _ (Nat.lt_succ_self _) ⟨ba hd1,aE hd1,hs9,(((hl1.t hle3).t hl3).t hln3)⟩ rd
    ·exact fun _ _ _ hF=>hF.elim
    ·exact fun _ _ _ hF=>hF.elim
    ·rintro dm3 ch hn3 L0 ⟨pv_,rfl,hpv_⟩ hl03
     exact lR (dm3::rs1) Fb hX (congrArg (exW stopV (fun r:Unit=>(.tuple #[]:Value))) hpv_)
 ·obtain ⟨pv1e,hpv1e,rfl⟩:=ld hpv1
  have hs10:=hs0.trans (lb hpv1e)
  refine i6 ?_
  exact lR [] Fb hX (congrArg (exW stopV (fun r:Unit=>(.tuple #[]:Value))) hs10)
end Go.Sg
namespace Go.Sg
open Go.Proofs
theorem ext282:Extern.find Tryz.f282=some Extern.BytealgIndexByte.indexByte:=by kernel_rfl
theorem ext282n:Extern.findNext Tryz.f282=none:=by kernel_rfl
theorem run282 (s:ByteArray) (c:Int) (w:World):(Extern.BytealgIndexByte.indexByte #[.string s,.int .u8 c]).run Tryz.prog w=.ok (.int .i64 (idxByte s c)) w:=by
 show (do
  let b ← Extern.Bytes.bytesOf (.string s)
  let c ← Extern.Bytes.asByte (.int .u8 c)
  match (List.range b.size).find? fun i=>b[i]! == c with
  | some i=>pure (goInt i)
  | none=>pure (goInt (-1)):Sem Value).run Tryz.prog w=_
 simp only [Extern.Bytes.bytesOf,Extern.Bytes.asByte,Sem.run_bind,Sem.run_pure,Result.andThen_ok,idxByte,goInt]
 cases hf:(List.range s.size).find? (fun i=>s[i]! == UInt8.ofNat c.toNat) with
 | none=>simp only [show c.toNat.toUInt8=UInt8.ofNat c.toNat from rfl,hf];simp
 | some i=>simp only [show c.toNat.toUInt8=UInt8.ofNat c.toNat from rfl,hf];simp
theorem call282 (s:ByteArray) (c:Int) (w:World):(callFunc 282 #[.string s,.int .u8 c]).run Tryz.prog w=.ok (.value (.int .i64 (idxByte s c))) w:=by
 have hb:Tryz.f282.body.isNone=true:=by kernel_rfl
 have hn : (Tryz.f282.name == "runtime.NumGoroutine") = false := by kernel_rfl
 simp only [callFunc,Sem.run_bind,run_program,Result.andThen_ok,Tryz.func282,hn,hb,ext282,ext282n]
 simp [run282]
theorem Ht {e:Env} {X:Cx} {h:HF} {L:LH} {d:Option Nat} {ty:TypeId} {pos:String} {af:Array Edge} {g:Option (Nat×Bool)} {x y:Operand} {ats:Array TypeId} {s:ByteArray} {c:Int} (hx:e.ev x=.string s) (hy:e.ev y=.int .u8 c):
  ∀ w,St X h L w→(execOp e.ev ⟨d,.call ⟨.value (.func 282),#[x,y],ats⟩,ty,pos,af,g⟩).run Tryz.prog w=.ok (.value (.int .i64 (idxByte s c))) w:=
 fun w _=>by
  have hf:e.ev (.func 282)=.func (.func 282) #[] #[]:=rfl
  simp [execOp,resolve,hf,Deferred.ofValue,invoke,hx,hy,call282]
end Go.Sg
namespace Go.Sg
open Go.Proofs
set_option maxHeartbeats 2000000
theorem lF (h:HF) (x:Expr) (fb:cE) (hx:Expr.ok h x fb):Ret Tryz.prog 220 [.agg (Expr.cells x fb).toArray] h (.bool (cX x)):=by
 refine ae Tryz.func220 U Tryz.ntmps220 U fun X hM hX=>?_
 have hs0:cX x=cX x:=rfl
 refine sr (dt (fun b1=>qO 4 U (aj k9 U (aI 0 ty3 U U U (qO 2 U ?_)))))
 refine ar 4 [6,7,8,9,10] 10 (.bool ((x.Kind==1)||(x.Kind==2))) (fun hk1=>?_) (fun e=>?_)
 ·refine ac 6 U (fun c1=>?_) (fun c1=>?_)
  ·refine qO 4 U ?_
   exact hk1 _ (cb (dW c1))
  ·refine aj k9 U (aI 0 ty3 U U U (qO 2 U ?_))
   exact hk1 _ (cb (dX c1))
 refine an ?_
 exact ah [.bool ((x.Kind==1)||(x.Kind==2))] Tryz.func220 U hX rd (cs hs0)
theorem mn (h:HF) (s:ByteArray) (c:Int)  : Ret Tryz.prog 281 [.string s,Y c] h (I (fA s c)):=by
 refine ae Tryz.func281 U Tryz.ntmps281 U fun X hM hX=>?_
 have hs0:fA s c=fA s c:=rfl
 refine qT 8 U (aN (gI (Ht U U) (an ?_)))
 exact ah [I (idxByte s c)] Tryz.func281 U hX rd (ci hs0)
theorem rR (h:HF) (s:ByteArray) (c:Int)  : Ret Tryz.prog 279 [.string s,Y c] h (I (strings_IndexByte s c)):=by
 refine ae Tryz.func279 U Tryz.ntmps279 U fun X hM hX=>?_
 have hs0:strings_IndexByte s c=strings_IndexByte s c:=rfl
 refine qT 8 U (au (v:=I (fA s c)) Tryz.call281 (mn h s c ) U (an ?_))
 exact ah [I (fA s c)] Tryz.func279 U hX rd (ci hs0)
theorem uW (h:HF) (c:Int)  : Ret Tryz.prog 275 [Y c] h (I (gB c)):=by
 refine ae Aa U Tryz.ntmps275 U fun X hM hX=>?_
 have hs0:gB c=gB c:=rfl
 refine qT 11 U ?_
 refine ar 3 [6,7,8,9] 9 (.bool (decide (97≤c)&&decide (c≤122))) (fun hk1=>?_) (fun e=>?_)
 ·refine ac 6 U (fun c1=>?_) (fun c1=>?_)
  ·refine qO 3 U ?_
   exact hk1 _ (cb (cB c1))
  ·refine qO 3 U ?_
   exact hk1 _ (cb (cC c1))
 refine aB ?_
 refine ar 7 [10,11,12,13,14,15,16,17] 17 (.bool ((decide (97≤c)&&decide (c≤122))||(decide (65≤c)&&decide (c≤90)))) (fun hk2=>?_) (fun e=>?_)
 ·refine ac 10 U (fun c2=>?_) (fun c2=>?_)
  ·refine qO 7 U ?_
   exact hk2 _ (cb (dW c2))
  ·refine qO 3 U ?_
   refine ar 3 [13,14,15,16] 16 (.bool (decide (65≤c)&&decide (c≤90))) (fun hk3=>?_) (fun e=>?_)
   ·refine ac 13 U (fun c3=>?_) (fun c3=>?_)
    ·refine qO 3 U ?_
     exact hk3 _ (cb (cB c3))
    ·refine qO 3 U ?_
     exact hk3 _ (cb (cC c3))
   refine eH U ?_
   exact hk2 _ (cb (dX c2))
 refine an ?_
 refine ak hs0 U (fun c4 hs1=>?_) (fun c4 hs2=>?_)
 ·refine qT 4 U ?_
  exact ah [I 2] Aa U hX rd (ci hs1)
 ·refine qT 5 U ?_
  refine ar 3 [21,22,23,24] 24 (.bool (decide (48≤c)&&decide (c≤57))) (fun hk4=>?_) (fun e=>?_)
  ·refine ac 21 U (fun c5=>?_) (fun c5=>?_)
   ·refine qO 3 U ?_
    exact hk4 _ (cb (cB c5))
   ·refine qO 3 U ?_
    exact hk4 _ (cb (cC c5))
  refine an ?_
  refine ak hs2 U (fun c6 hs4=>?_) (fun c6 hs5=>?_)
  ·refine qT 4 U ?_
   exact ah [I 3] Aa U hX rd (ci hs4)
  ·refine qT 6 U ?_
   refine ak hs5 U (fun c7 hs7=>?_) (fun c7 hs8=>?_)
   ·refine qT 4 U ?_
    exact ah [I 5] Aa U hX rd (ci hs7)
   ·refine qT 5 U ?_
    refine ar 3 [31,32,33,34] 34 (.bool ((c==32)||(c==9))) (fun hk5=>?_) (fun e=>?_)
    ·refine ac 31 U (fun c8=>?_) (fun c8=>?_)
     ·refine qO 3 U ?_
      exact hk5 _ (cb (dW c8))
     ·refine qO 3 U ?_
      exact hk5 _ (cb (dX c8))
    refine aB ?_
    refine ar 3 [35,36,37,38] 38 (.bool (((c==32)||(c==9))||(c==10))) (fun hk6=>?_) (fun e=>?_)
    ·refine ac 35 U (fun c9=>?_) (fun c9=>?_)
     ·refine qO 3 U ?_
      exact hk6 _ (cb (dW c9))
     ·refine qO 3 U ?_
      exact hk6 _ (cb (dX c9))
    refine aB ?_
    refine ar 3 [39,40,41,42] 42 (.bool ((((c==32)||(c==9))||(c==10))||(c==13))) (fun hk7=>?_) (fun e=>?_)
    ·refine ac 39 U (fun c10=>?_) (fun c10=>?_)
     ·refine qO 3 U ?_
      exact hk7 _ (cb (dW c10))
     ·refine qO 3 U ?_
      exact hk7 _ (cb (dX c10))
    refine an ?_
    refine ak hs8 U (fun c11 hs10=>?_) (fun c11 hs11=>?_)
    ·refine qT 4 U ?_
     exact ah [I 1] Aa U hX rd (ci hs10)
    ·refine qT 3 U (au (v:=I (strings_IndexByte (⟨#[123,125,40,41,59,44,61,58,46,60,62,33,43,45,42,47]⟩:ByteArray) c)) Tryz.call279 (rR h (⟨#[123,125,40,41,59,44,61,58,46,60,62,33,43,45,42,47]⟩:ByteArray) c ) U (qO 3 U ?_))
     refine ak hs11 U (fun c12 hs13=>?_) (fun c12 hs14=>?_)
     ·have c12p:=of_decide_eq_true c12
      refine qT 4 U ?_
      exact ah [I 4] Aa U hX rd (ci hs13)
     ·have c12p:=of_decide_eq_false c12
      refine qT 6 U ?_
      exact ah [I 0] Aa U hX rd (ci hs14)
theorem gD (h:HF) (s:ByteArray)  : Ret Tryz.prog 265 [.string s] h (.bool (cQ s)):=by
 refine ae GK U Tryz.ntmps265 U fun X hM hX=>?_
 have hs0:cQ s=cQ s:=rfl
 refine qT 10 U ?_
 refine ar 4 [7,8,9,10,11] 11 (.bool ((s.toList==(⟨#[]⟩:ByteArray).toList)||decide (32 < ((s.size:Nat):Int)))) (fun hk1=>?_) (fun e=>?_)
 ·refine ac 7 U (fun c1=>?_) (fun c1=>?_)
  ·refine qO 4 U ?_
   exact hk1 _ (cb (dW c1))
  ·refine aB (aN (gI (vJ uE U) (qO 2 U ?_)))
   exact hk1 _ (cb (dX c1))
 refine aB ?_
 refine ar 5 [12,13,14,15,16,17] 17 (.bool (((s.toList==(⟨#[]⟩:ByteArray).toList)||decide (32 < ((s.size:Nat):Int)))||((gB ((s.data.getD (0:Int).toNat 0).toNat:Int)) != 2))) (fun hk2=>?_) (fun e=>?_)
 ·refine ac 12 U (fun c2=>?_) (fun c2=>?_)
  ·refine qO 5 U ?_
   exact hk2 _ (cb (dW c2))
  ·refine aB ?_
   have ho1:0≤(0:Int)∧(0:Int) < (s.size:Int):=(by have:=IK (Bool.or_eq_false_iff.1 ob).1;omega)
   refine aN (gI (Bi uE U U ho1) (au (v:=I (gB ((s.data.getD (0:Int).toNat 0).toNat:Int))) Tryz.call275 (uW h ((s.data.getD (0:Int).toNat 0).toNat:Int)) U (qO 2 U ?_)))
   exact hk2 _ (cb (dX c2))
 refine bh ?_
 refine ak hs0 U (fun c3 hs1=>?_) (fun c3 hs2=>?_)
 ·refine qT 4 U ?_
  exact ah [.bool false] GK U hX rd (cs hs1)
 ·refine qT 5 U (aN (gI (vJ uE U) (qO 2 U ?_)))
  refine aU (ι:=Nat) (fun i=>[]) (fun i=>h) (fun i=>[]) (fun i=>i≤(List.range s.size).length∧cQ s=((cQ.K1))) ?_ (fun hx1=>?_)
  ·rintro i1 ⟨aP,hs4⟩ e
   try dsimp only at aP
   refine qT 4 U ?_
   exact ah [.bool true] GK U hX rd (cs hs4)
  ·refine bG (ι:=Nat×List Nat) (fun i=>[(0,.string s),(19,I ((s.size:Nat):Int)),(20,I ((i.1:Nat):Int))]) (fun i=>h) (fun i=>[]) (fun i=>(List.range s.size).drop i.1=i.2∧i.1≤(List.range s.size).length∧cQ s=((cQ.L1 s (cQ.K1)) i.2 i.1)) (fun i=>i.2.length) (0,(List.range s.size)) rd sw ⟨U,Nat.zero_le _,hs2⟩ ?_
   rintro ⟨i1,s1⟩ ⟨hd1,aP,hs6⟩ ag1 e
   try dsimp only at hd1 aP
   rcases s1 with _ | ⟨y1,rz1⟩
   ·have dr:decide (((i1:Nat):Int) < ((s.size:Nat):Int))=false:=by simpa using cw hd1
    refine sr (ai (v':=.bool false) U (cb dr) (qO 4 U ?_))
    exact hx1 i1 _ ⟨aP,hs6⟩ trivial
   ·have dq:decide (((i1:Nat):Int) < ((s.size:Nat):Int))=true:=by simpa using dy hd1
    have ey:i1 < s.size:=by simpa using aE hd1
    refine sr (ai (v':=.bool true) U (cb dq) (qO 15 U ?_))
    have ho3:0≤(((i1:Nat):Int):Int)∧(((i1:Nat):Int):Int) < (s.size:Int):=ob
    refine aN (gI (Bi uE U U ho3) (au (v:=I (gB ((s.data.getD (((i1:Nat):Int):Int).toNat 0).toNat:Int))) Tryz.call275 (uW h ((s.data.getD (((i1:Nat):Int):Int).toNat 0).toNat:Int)) U (qO 7 U ?_)))
    refine ar 3 [29,30,31,32] 32 (.bool (((gB ((s.data.getD (((i1:Nat):Int):Int).toNat 0).toNat:Int)) != 2)&&((gB ((s.data.getD (((i1:Nat):Int):Int).toNat 0).toNat:Int)) != 3))) (fun hk3=>?_) (fun e=>?_)
    ·refine ac 29 U (fun c4=>?_) (fun c4=>?_)
     ·refine qO 3 U ?_
      exact hk3 _ (cb (cB c4))
     ·refine qO 3 U ?_
      exact hk3 _ (cb (cC c4))
    refine aB ?_
    refine ar 3 [33,34,35,36] 36 (.bool ((((gB ((s.data.getD (((i1:Nat):Int):Int).toNat 0).toNat:Int)) != 2)&&((gB ((s.data.getD (((i1:Nat):Int):Int).toNat 0).toNat:Int)) != 3))&&((gB ((s.data.getD (((i1:Nat):Int):Int).toNat 0).toNat:Int)) != 5))) (fun hk4=>?_) (fun e=>?_)
    ·refine ac 33 U (fun c5=>?_) (fun c5=>?_)
     ·refine qO 3 U ?_
      exact hk4 _ (cb (cB c5))
     ·refine qO 3 U ?_
      exact hk4 _ (cb (cC c5))
    refine bh ?_
    refine ak hs6 U (fun c6 hs8=>?_) (fun c6 hs9=>?_)
    ·refine qT 4 U ?_
     exact ah [.bool false] GK U hX rd (cs hs8)
    ·refine qT 3 U (ai (v':=I (((i1+1):Nat):Int)) U (bz ob) (qO 2 U ?_))
     exact ag1 ((i1+1),rz1) _ (Nat.lt_succ_self _) ⟨ba hd1,aE hd1,hs9⟩ rd
theorem mb (h:HF) (s:ByteArray)  : Ret Tryz.prog 244 [.string s] h (.bool (dc s)):=by
 refine ae lI U Tryz.ntmps244 U fun X hM hX=>?_
 have hs0:dc s=dc s:=rfl
 refine qT 16 U ?_
 refine ak hs0 U (fun c1 hs1=>?_) (fun c1 hs2=>?_)
 ·refine e8 ?_
  refine ak hs1 U (fun c2 hs3=>?_) (fun c2 hs4=>?_)
  ·refine qT 4 U ?_
   exact ah [.bool false] lI U hX rd (cs hs3)
  ·refine qT 5 U (au (v:=.bool (cQ s)) og (gD h s ) U (an ?_))
   exact ah [.bool (cQ s)] lI U hX rd (cs hs4)
 ·refine qT 5 U ?_
  refine ak hs2 U (fun c3 hs7=>?_) (fun c3 hs8=>?_)
  ·refine e8 ?_
   refine ak hs7 U (fun c4 hs9=>?_) (fun c4 hs10=>?_)
   ·refine qT 4 U ?_
    exact ah [.bool false] lI U hX rd (cs hs9)
   ·refine qT 5 U (au (v:=.bool (cQ s)) og (gD h s ) U (an ?_))
    exact ah [.bool (cQ s)] lI U hX rd (cs hs10)
  ·refine qT 5 U ?_
   refine ak hs8 U (fun c5 hs13=>?_) (fun c5 hs14=>?_)
   ·refine e8 ?_
    refine ak hs13 U (fun c6 hs15=>?_) (fun c6 hs16=>?_)
    ·refine qT 4 U ?_
     exact ah [.bool false] lI U hX rd (cs hs15)
    ·refine qT 5 U (au (v:=.bool (cQ s)) og (gD h s ) U (an ?_))
     exact ah [.bool (cQ s)] lI U hX rd (cs hs16)
   ·refine qT 5 U ?_
    refine ak hs14 U (fun c7 hs19=>?_) (fun c7 hs20=>?_)
    ·refine e8 ?_
     refine ak hs19 U (fun c8 hs21=>?_) (fun c8 hs22=>?_)
     ·refine qT 4 U ?_
      exact ah [.bool false] lI U hX rd (cs hs21)
     ·refine qT 5 U (au (v:=.bool (cQ s)) og (gD h s ) U (an ?_))
      exact ah [.bool (cQ s)] lI U hX rd (cs hs22)
    ·refine qT 5 U ?_
     refine ak hs20 U (fun c9 hs25=>?_) (fun c9 hs26=>?_)
     ·refine e8 ?_
      refine ak hs25 U (fun c10 hs27=>?_) (fun c10 hs28=>?_)
      ·refine qT 4 U ?_
       exact ah [.bool false] lI U hX rd (cs hs27)
      ·refine qT 5 U (au (v:=.bool (cQ s)) og (gD h s ) U (an ?_))
       exact ah [.bool (cQ s)] lI U hX rd (cs hs28)
     ·refine qT 5 U ?_
      refine ak hs26 U (fun c11 hs31=>?_) (fun c11 hs32=>?_)
      ·refine e8 ?_
       refine ak hs31 U (fun c12 hs33=>?_) (fun c12 hs34=>?_)
       ·refine qT 4 U ?_
        exact ah [.bool false] lI U hX rd (cs hs33)
       ·refine qT 5 U (au (v:=.bool (cQ s)) og (gD h s ) U (an ?_))
        exact ah [.bool (cQ s)] lI U hX rd (cs hs34)
      ·refine qT 5 U ?_
       refine ak hs32 U (fun c13 hs37=>?_) (fun c13 hs38=>?_)
       ·refine e8 ?_
        refine ak hs37 U (fun c14 hs39=>?_) (fun c14 hs40=>?_)
        ·refine qT 4 U ?_
         exact ah [.bool false] lI U hX rd (cs hs39)
        ·refine qT 5 U (au (v:=.bool (cQ s)) og (gD h s ) U (an ?_))
         exact ah [.bool (cQ s)] lI U hX rd (cs hs40)
       ·refine qT 5 U ?_
        refine ak hs38 U (fun c15 hs43=>?_) (fun c15 hs44=>?_)
        ·refine e8 ?_
         refine ak hs43 U (fun c16 hs45=>?_) (fun c16 hs46=>?_)
         ·refine qT 4 U ?_
          exact ah [.bool false] lI U hX rd (cs hs45)
         ·refine qT 5 U (au (v:=.bool (cQ s)) og (gD h s ) U (an ?_))
          exact ah [.bool (cQ s)] lI U hX rd (cs hs46)
        ·refine qT 5 U ?_
         refine ak hs44 U (fun c17 hs49=>?_) (fun c17 hs50=>?_)
         ·refine e8 ?_
          refine ak hs49 U (fun c18 hs51=>?_) (fun c18 hs52=>?_)
          ·refine qT 4 U ?_
           exact ah [.bool false] lI U hX rd (cs hs51)
          ·refine qT 5 U (au (v:=.bool (cQ s)) og (gD h s ) U (an ?_))
           exact ah [.bool (cQ s)] lI U hX rd (cs hs52)
         ·refine qT 5 U ?_
          refine ak hs50 U (fun c19 hs55=>?_) (fun c19 hs56=>?_)
          ·refine e8 ?_
           refine ak hs55 U (fun c20 hs57=>?_) (fun c20 hs58=>?_)
           ·refine qT 4 U ?_
            exact ah [.bool false] lI U hX rd (cs hs57)
           ·refine qT 5 U (au (v:=.bool (cQ s)) og (gD h s ) U (an ?_))
            exact ah [.bool (cQ s)] lI U hX rd (cs hs58)
          ·refine qT 5 U ?_
           refine ak hs56 U (fun c21 hs61=>?_) (fun c21 hs62=>?_)
           ·refine e8 ?_
            refine ak hs61 U (fun c22 hs63=>?_) (fun c22 hs64=>?_)
            ·refine qT 4 U ?_
             exact ah [.bool false] lI U hX rd (cs hs63)
            ·refine qT 5 U (au (v:=.bool (cQ s)) og (gD h s ) U (an ?_))
             exact ah [.bool (cQ s)] lI U hX rd (cs hs64)
           ·refine qT 5 U ?_
            refine ak hs62 U (fun c23 hs67=>?_) (fun c23 hs68=>?_)
            ·refine e8 ?_
             refine ak hs67 U (fun c24 hs69=>?_) (fun c24 hs70=>?_)
             ·refine qT 4 U ?_
              exact ah [.bool false] lI U hX rd (cs hs69)
             ·refine qT 5 U (au (v:=.bool (cQ s)) og (gD h s ) U (an ?_))
              exact ah [.bool (cQ s)] lI U hX rd (cs hs70)
            ·refine qT 5 U ?_
             refine ak hs68 U (fun c25 hs73=>?_) (fun c25 hs74=>?_)
             ·refine e8 ?_
              refine ak hs73 U (fun c26 hs75=>?_) (fun c26 hs76=>?_)
              ·refine qT 4 U ?_
               exact ah [.bool false] lI U hX rd (cs hs75)
              ·refine qT 5 U (au (v:=.bool (cQ s)) og (gD h s ) U (an ?_))
               exact ah [.bool (cQ s)] lI U hX rd (cs hs76)
             ·refine qT 5 U ?_
              refine ak hs74 U (fun c27 hs79=>?_) (fun c27 hs80=>?_)
              ·refine e8 ?_
               refine ak hs79 U (fun c28 hs81=>?_) (fun c28 hs82=>?_)
               ·refine qT 4 U ?_
                exact ah [.bool false] lI U hX rd (cs hs81)
               ·refine qT 5 U (au (v:=.bool (cQ s)) og (gD h s ) U (an ?_))
                exact ah [.bool (cQ s)] lI U hX rd (cs hs82)
              ·refine qT 5 U ?_
               refine ak hs80 U (fun c29 hs85=>?_) (fun c29 hs86=>?_)
               ·refine e8 ?_
                refine ak hs85 U (fun c30 hs87=>?_) (fun c30 hs88=>?_)
                ·refine qT 4 U ?_
                 exact ah [.bool false] lI U hX rd (cs hs87)
                ·refine qT 5 U (au (v:=.bool (cQ s)) og (gD h s ) U (an ?_))
                 exact ah [.bool (cQ s)] lI U hX rd (cs hs88)
               ·refine qT 4 U ?_
                refine ak hs86 U (fun c31 hs91=>?_) (fun c31 hs92=>?_)
                ·refine qT 4 U ?_
                 exact ah [.bool false] lI U hX rd (cs hs91)
                ·refine qT 5 U (au (v:=.bool (cQ s)) og (gD h s ) U (an ?_))
                 exact ah [.bool (cQ s)] lI U hX rd (cs hs92)
theorem jt (h:HF) (s:(List ByteArray)) (qB:Option Addr) (pK:Nat) (v:ByteArray) (hs:SlC Rp.str h qB pK s):Ret Tryz.prog 221 [.slice qB s.length pK,.string v] h (I (aK s v)):=by
 refine ae Tryz.func221 U Tryz.ntmps221 U fun X hM hX=>?_
 have hs0:aK s v=aK s v:=rfl
 refine qT 8 U (a8 kB U (qO 2 U ?_))
 refine aU (ι:=Nat) (fun i=>[]) (fun i=>h) (fun i=>[]) (fun i=>i≤s.length∧aK s v=((aK.K1))) ?_ (fun hx1=>?_)
 ·rintro i1 ⟨aP,hs1⟩ e
  try dsimp only at aP
  refine qT 4 U ?_
  exact ah [I (-1)] Tryz.func221 U hX rd (ci hs1)
 ·refine bG (ι:=Nat×List ByteArray) (fun i=>[(0,.slice qB s.length pK),(1,.string v),(7,I ((s.length:Nat):Int)),(8,I ((i.1:Nat):Int))]) (fun i=>h) (fun i=>[]) (fun i=>s.drop i.1=i.2∧i.1≤s.length∧aK s v=((aK.L1 v (aK.K1)) i.2 i.1)) (fun i=>i.2.length) (0,s) rd sw ⟨U,Nat.zero_le _,hs0⟩ ?_
  rintro ⟨i1,s1⟩ ⟨hd1,aP,hs3⟩ ag1 e
  try dsimp only at hd1 aP
  rcases s1 with _ | ⟨y1,rz1⟩
  ·have dr:=cw hd1
   refine sr (ai (v':=.bool false) U (cb dr) (qO 4 U ?_))
   exact hx1 i1 _ ⟨aP,hs3⟩ trivial
  ·have dq:=dy hd1
   have aM:=cA hd1
   have ey:=aE hd1
   have gi:=hs.1.1
   refine sr (ai (v':=.bool true) U (cb dq) (qO 16 U (aN (eU (enc:=fun y=>[.string y]) (fun _ _ _ e=>e) kB ty9 hs.1 (nthZ aM) (aV aM) U U U (fun q2 A2=>?_)))))
   refine dv ty9 A2 U (qO 2 U ?_)
   refine ak hs3 U (fun c2 hs5=>?_) (fun c2 hs6=>?_)
   ·refine qT 5 U ?_
    exact ah [I ((i1:Nat):Int)] Tryz.func221 U hX rd (ci hs5)
   ·refine qT 3 U (ai (v':=I (((i1+1):Nat):Int)) U (bz ob) (qO 2 U ?_))
    exact ag1 ((i1+1),rz1) _ (Nat.lt_succ_self _) ⟨ba hd1,aE hd1,hs6⟩ rd
theorem kW (h:HF) (l:(List ByteArray)) (eD:Option Addr) (eC:Nat) (ok:(ByteArray→Bool)) (ok_v:Value) (hl:SlC Rp.str h eD eC l) (hok:∀ (h':HF) (eo:ByteArray),HF.le h h'→wh Tryz.prog ok_v [.string eo] h' [] (.bool (ok eo))):Ret Tryz.prog 245 [.slice eD l.length eC,ok_v] h (.bool (bu l ok)):=by
 refine ae Tryz.func245 U Tryz.ntmps245 U fun X hM hX=>?_
 have hs0:bu l ok=bu l ok:=rfl
 refine qT 8 U (a8 kB U (qO 2 U ?_))
 refine aU (ι:=Nat) (fun i=>[]) (fun i=>h) (fun i=>[]) (fun i=>i≤l.length∧bu l ok=((bu.K1))) ?_ (fun hx1=>?_)
 ·rintro i1 ⟨aP,hs1⟩ e
  try dsimp only at aP
  refine qT 4 U ?_
  exact ah [.bool true] Tryz.func245 U hX rd (cs hs1)
 ·refine bG (ι:=Nat×List ByteArray) (fun i=>[(0,.slice eD l.length eC),(1,ok_v),(7,.slice eD l.length eC),(8,I ((l.length:Nat):Int)),(9,I ((i.1:Nat):Int))]) (fun i=>h) (fun i=>[]) (fun i=>l.drop i.1=i.2∧i.1≤l.length∧bu l ok=((bu.L1 l ok (bu.K1)) i.2 i.1)) (fun i=>i.2.length) (0,l) rd sw ⟨U,Nat.zero_le _,hs0⟩ ?_
  rintro ⟨i1,s1⟩ ⟨hd1,aP,hs3⟩ ag1 e
  try dsimp only at hd1 aP
  rcases s1 with _ | ⟨y1,rz1⟩
  ·have dr:=cw hd1
   refine sr (ai (v':=.bool false) U (cb dr) (qO 4 U ?_))
   exact hx1 i1 _ ⟨aP,hs3⟩ trivial
  ·have dq:=dy hd1
   have aM:=cA hd1
   have ey:=aE hd1
   have gi:=hl.1.1
   refine sr (ai (v':=.bool true) U (cb dq) (qO 9 U (aN (eU (enc:=fun y=>[.string y]) (fun _ _ _ e=>e) kB ty9 hl.1 (nthZ aM) (aV aM) U U U (fun q2 A2=>?_)))))
   refine dv ty9 A2 U (qO 7 U (aN (nO (v:=.bool (ok y1)) [] (List.nil_sublist _) (hok h y1 (HF.le_refl _)) U U (qO 2 U ?_))))
   refine ar 6 [18,19,20,21,22,23,24] 24 (.bool ((!(ok y1))||((aK l y1) != ((i1:Nat):Int)))) (fun hk1=>?_) (fun e=>?_)
   ·refine ac 18 U (fun c1=>?_) (fun c1=>?_)
    ·refine qO 6 U ?_
     exact hk1 _ (cb (dW c1))
    ·refine qO 2 U (au (v:=I (aK l y1)) GJ (jt h l eD eC y1 hl) U (qO 3 U ?_))
     exact hk1 _ (cb (dX c1))
   refine bh ?_
   refine ak hs3 U (fun c2 hs5=>?_) (fun c2 hs6=>?_)
   ·refine qT 4 U ?_
    exact ah [.bool false] Tryz.func245 U hX rd (cs hs5)
   ·refine qT 3 U (ai (v':=I (((i1+1):Nat):Int)) U (bz ob) (qO 2 U ?_))
    exact ag1 ((i1+1),rz1) _ (Nat.lt_succ_self _) ⟨ba hd1,aE hd1,hs6⟩ rd
open Go.Proofs
set_option maxHeartbeats 2000000
theorem oV (h:HF) (s:(List ByteArray)) (qB:Option Addr) (pK:Nat) (v:ByteArray) (hs:SlC Rp.str h qB pK s):Ret Tryz.prog 246 [.slice qB s.length pK,.string v] h (.bool (du s v)):=by
 refine ae Tryz.func246 U Tryz.ntmps246 U fun X hM hX=>?_
 have hs0:du s v=du s v:=rfl
 refine qT 8 U (au (v:=I (aK s v)) GJ (jt h s qB pK v hs) U (qO 3 U ?_))
 exact ah [.bool (decide (0≤(aK s v)))] Tryz.func246 U hX rd (cs hs0)
theorem uS (h:HF) (p:Policy) (fe:eE) (hp:Policy.ok h p fe) (hsm:smP p):Gr Tryz.prog 216 [.agg (Policy.cells p fe).toArray] h (exW stopV (fun r:Unit=>(.tuple #[]:Value)) (cm p)):=by
 refine ae Fa U Tryz.ntmps216 U fun X hM hX=>?_
 have hs0:cm p=cm p:=rfl
 have hsr:=hsm.rules
 refine sr (dt (fun b1=>qO 3 U (aj xq U (aI 0 ty9 U U U (au (v:=.bool (dc p.Name)) Tryz.call244 (mb h p.Name ) U (aB ?_))))))
 refine ar 4 [8,9,10,11,12] 12 (.bool ((dc p.Name)&&(bu p.Offices dc))) (fun hk1=>?_) (fun e=>?_)
 ·refine ac 8 U (fun c1=>?_) (fun c1=>?_)
  ·refine aj iS U (aI 0 ty62 U U U (au (v:=.bool (bu p.Offices dc)) Tryz.call245 (kW h p.Offices fe.dK fe.dJ dc (.func (.func 244) #[] #[]) hp.Offices (fun h' eo hle =>iZ Tryz.call244 (mb h' eo    ))) U (eH U ?_)))
   exact hk1 _ (cb (cB c1))
  ·refine qO 4 U ?_
   exact hk1 _ (cb (cC c1))
 refine aB ?_
 refine ar 4 [13,14,15,16,17] 17 (.bool (((dc p.Name)&&(bu p.Offices dc))&&(bu p.Kinds dc))) (fun hk2=>?_) (fun e=>?_)
 ·refine ac 13 U (fun c2=>?_) (fun c2=>?_)
  ·refine aj kZ U (aI 0 ty62 U U U (au (v:=.bool (bu p.Kinds dc)) Tryz.call245 (kW h p.Kinds fe.fV fe.fU dc (.func (.func 244) #[] #[]) hp.Kinds (fun h' eo hle =>iZ Tryz.call244 (mb h' eo    ))) U (eH U ?_)))
   exact hk2 _ (cb (cB c2))
  ·refine qO 4 U ?_
   exact hk2 _ (cb (cC c2))
 refine aN (kU tB (gh h (((dc p.Name)&&(bu p.Offices dc))&&(bu p.Kinds dc)) 201 ) U (fun u1 hu1=>?_) (fun pv1 hpv1 e=>?_))
 ·obtain ⟨rx1,hrx1,rfl⟩:=mL hu1
  have hs1:=hs0.trans (mK hrx1)
  cases rx1
  refine qO 3 U (dl 0 ty68 U U U (aN (cy Tryz.call243 (kl h p fe hp ob) U (fun v1 h1 hle1 hp1=>?_))))
  obtain ⟨rb1,rc1,rfl,sl1⟩:=hp1
  refine a8 ga U (qO 2 U ?_)
  refine gp ?_
  let z1:Nat×Obj:=(b1,O (Policy.cells p fe) 68)
  refine dZ (L':=[z1]++(markB [])) ap ?_
  refine qt (ι:=Nat×List Nat×HF) (fun i=>[]) (fun i=>marks i.2.1) (fun i=>i.2.2) (fun i=>[z1]++(markB i.2.1)) (fun i=>i.1≤(ay p).length∧cm p=((cm.K1))∧HF.le h1 i.2.2) ?_ (fun hx1=>?_)
  ·rintro ⟨i1,rs1,hh1⟩ ⟨aP,hs2,hl1⟩ e
   try dsimp only at aP hl1
   have hs3:cm p=(Except.ok ()):=hs2
   refine dZ (L':=([z1])++markB rs1) ap ?_
   exact uI rs1 [] Fa U hX trivial (congrArg (exW stopV (fun r:Unit=>(.tuple #[]:Value))) hs3)
  ·refine uH (ι:=Nat×List Nat×HF×List Expr) (fun i=>[(1,Q b1),(20,.slice rb1 ((ay p).length) rc1),(21,I (((ay p).length:Nat):Int)),(22,I ((i.1:Nat):Int))]) (fun i=>marks i.2.1) (fun i=>i.2.2.1) (fun i=>[z1]++(markB i.2.1)) (fun i=>(ay p).drop i.1=i.2.2.2∧i.1≤(ay p).length∧cm p=((cm.L1 p (cm.K1)) i.2.2.2 )∧HF.le h1 i.2.2.1) (fun i=>i.2.2.2.length) (0,[],h1,(ay p)) U rd sw ⟨U,Nat.zero_le _,hs1,(HF.le_refl h1)⟩ ?_
   rintro ⟨i1,rs1,hh1,s1⟩ ⟨hd1,aP,hs4,hl1⟩ ag1 e
   try dsimp only at hd1 aP hl1
   rcases s1 with _ | ⟨y1,rz1⟩
   ·have dr:=cw hd1
    refine sr (ai (v':=.bool false) U (cb dr) (qO 4 U ?_))
    exact hx1 (i1,rs1,hh1) _ ⟨aP,hs4,hl1⟩ trivial
   ·have dq:=dy hd1
    have aM:=cA hd1
    have ey:=aE hd1
    have gi:=sl1.1.1
    try have hsy:=vq hsm (gx hd1)
    refine sr (ai (v':=.bool true) U (cb dq) (qO 8 U (aN (fF ga ty66 (sl1.mono Expr.aD hl1).1 (nthZ aM) (aV aM) U U U (fun q2 cs2 A2 ln2 rr2=>?_)))))
    obtain ⟨r2,rfl,ok2⟩:=rr2
    refine el ty66 A2 U U (bR zc66 (fun b4=>bL 0 ty66 U U U U U U (qO 3 U (dl 0 ty66 U U U (aN (cy Fc (kV hh1 y1 r2 1 ok2 ob) U (fun v3 h3 hle3 hp3=>?_)))))))
    obtain ⟨_,rfl,mo2⟩:=hp3
    refine qO 2 U ?_
    let z2:Nat×Obj:=(b4,O (Expr.cells y1 r2) 66)
    refine dZ (L':=([z2,z1])++markB rs1) ap ?_
    refine kd (it:=v3) (xs:=(bS y1 1)) (ι:=HF) rs1 (fun i=>i) (fun i=>[z2,z1]) (fun s i=>cm p=((cm.L3 p ((cm.L1 p (cm.K1) rz1 ))) s )∧HF.le h3 i) (fun _=>False) (fun _=>False) 0 (fun ch _ _=>∃ pv_,ch=[{ v:=stopV pv_,recovered:=false }]∧cm p=.error pv_) h3 Fa U mo2 U lN (fun _ _ _ _ _ hq=>hq) U (show [z2,z1]=_ from U) ⟨hs4,(HF.le_refl h3)⟩ ?_ ?_ ?_ ?_ ?_
    ·rintro l3 dm3 lp3 y3 rz3 vs3 hh3 hr3 X hFR3 ⟨hs6,hl3⟩ hl03 hlr3 hv3 hX hXM hlp3 nx3 rt3 ex3 pn3
     try dsimp only at hl3 hlr3
     obtain ⟨rr3_0,rfl,ok3_0⟩:=hv3
     let z3:Nat×Obj:=(dm3,.deferred (some []))
     refine dZ (L':=[(l3,.loop lp3),z3,z2,z1]++(markB rs1)) ap (bU (bR zc258 (fun b6=>bL 0 ty258 U U U U U U (bh (ke 1 U hlp3 (qT 2 U (aj lu U (dl 0 ty66 U U U (au (v:=.bool (cX y3.x)) Tryz.call220 (lF hr3 y3.x rr3_0.x ok3_0.x) U (qO 2 U ?_))))))))))
     refine ar 7 [33,34,35,36,37,38,39,40] 40 (.bool ((!(cX y3.x))||(du p.Offices y3.x.Name))) (fun hk3=>?_) (fun e=>?_)
     ·refine ac 33 U (fun c3=>?_) (fun c3=>?_)
      ·refine qO 7 U ?_
       exact hk3 _ (cb (dW c3))
      ·refine aj iS U (aI 4 ty62 U U U (aj lu U (aj mI U (aI 0 ty9 U U U (au (v:=.bool (du p.Offices y3.x.Name)) Tryz.call246 (oV hr3 p.Offices fe.dK fe.dJ y3.x.Name (hp.Offices.mono Rp.gq ((((hle1.t hl1).t hle3).t hl3).t hlr3))) U (eH U ?_))))))
       exact hk3 _ (cb (dX c3))
     refine aN (kU tB (gh hr3 ((!(cX y3.x))||(du p.Offices y3.x.Name)) 201 ) U (fun u2 hu2=>?_) (fun pv2 hpv2 e=>?_))
     ·obtain ⟨rx2,hrx2,rfl⟩:=mL hu2
      have hs7:=hs6.trans (mK hrx2)
      cases rx2
      refine qO 2 U ?_
      refine cG (L':=[(l3,.loop { lp3 with state:=.busy }),z3,z2,z1]++(markB rs1)) js ?_
      refine dZ (L':=rdH l3 dm3 lp3 (([z2,z1])++markB rs1)) ap ?_
      exact nx3 hr3 _ _ ⟨hs7,(hl3.t hlr3)⟩ (HF.le_refl _)
     ·obtain ⟨pv2e,hpv2e,rfl⟩:=ld hpv2
      have hs8:=hs6.trans (lb hpv2e)
      refine tU (L':=[(l3,.loop { lp3 with state:=.busy }),z3]++(markB rs1)) js ?_
      exact pn3 _ _ _ [] ⟨_,U,hs8⟩
    ·rintro dm3 hh3 hn3 ⟨hs9,hl3⟩ hln3 hl03
     try dsimp only at hl3 hln3
     refine dZ (L':=[z2,z1]++(markB (dm3::rs1))) ap (qT 3 U (ai (v':=I (((i1+1):Nat):Int)) U (bz ob) (qO 2 U ?_)))
     refine cG (L':=[z1]++(markB (dm3::rs1))) js ?_
     exact ag1 ((i1+1),(dm3::rs1),hn3,rz1) _ (Nat.lt_succ_self _) ⟨ba hd1,aE hd1,hs9,(((hl1.t hle3).t hl3).t hln3)⟩ rd
    ·exact fun _ _ _ hF=>hF.elim
    ·exact fun _ _ _ hF=>hF.elim
    ·rintro dm3 ch hn3 L0 ⟨pv_,rfl,hpv_⟩ hl03
     exact lR (dm3::rs1) Fa hX (congrArg (exW stopV (fun r:Unit=>(.tuple #[]:Value))) hpv_)
 ·obtain ⟨pv1e,hpv1e,rfl⟩:=ld hpv1
  have hs10:=hs0.trans (lb hpv1e)
  refine i6 ?_
  exact lR [] Fa hX (congrArg (exW stopV (fun r:Unit=>(.tuple #[]:Value))) hs10)
theorem fR (h:HF) (dL:Int) (low:Int) (high:Int)  : Ret Tryz.prog 103 [I dL,I low,I high] h (.bool (aL dL low high)):=by
 refine ae Tryz.func103 U Tryz.ntmps103 U fun X hM hX=>?_
 have hs0:aL dL low high=aL dL low high:=rfl
 refine qT 10 U ?_
 refine ar 4 [10,11,12,13,14] 14 (.bool (decide (low≤dL)&&decide (dL≤high))) (fun hk1=>?_) (fun e=>?_)
 ·refine ac 10 U (fun c1=>?_) (fun c1=>?_)
  ·refine qO 4 U ?_
   exact hk1 _ (cb (cB c1))
  ·refine qO 4 U ?_
   exact hk1 _ (cb (cC c1))
 refine an ?_
 exact ah [.bool (decide (low≤dL)&&decide (dL≤high))] Tryz.func103 U hX rd (cs hs0)
theorem FY {n a b:Int} (h:aL n a b=true):a≤n∧n≤b:=by simpa [aL] using h
theorem tl (h:HF) (x0:Expr) (J2:cE) (hx0:Expr.ok h x0 J2):Ret Tryz.prog 299 [.agg (Expr.cells x0 J2).toArray] h (.bool (lw x0)):=by
 refine ae Tryz.func299 U Tryz.ntmps299 U fun X hM hX=>?_
 have hs0:lw x0=lw x0:=rfl
 refine sr (dt (fun b1=>qO 6 U ?_))
 exact ah [.bool false] Tryz.func299 U hX rd (cs hs0)
theorem tk (h:HF) (x:Expr) (fb:cE) (hx:Expr.ok h x fb):Ret Tryz.prog 300 [.agg (Expr.cells x fb).toArray] h (.bool (jE x)):=by
 refine ae Tryz.func300 U Tryz.ntmps300 U fun X hM hX=>?_
 have hs0:jE x=jE x:=rfl
 refine sr (dt (fun b1=>qO 4 U (aj j9 U (aI 0 ty3 U U U (qO 2 U ?_)))))
 refine ar 5 [6,7,8,9,10,11] 11 (.bool ((x.N==0)&&(((x.L.length:Nat):Int)==0))) (fun hk1=>?_) (fun e=>?_)
 ·refine ac 6 U (fun c1=>?_) (fun c1=>?_)
  ·refine aj dC U (aI 0 ty64 U U U (a8 ga U (qO 2 U ?_)))
   exact hk1 _ (cb (cB c1))
  ·refine qO 5 U ?_
   exact hk1 _ (cb (cC c1))
 refine an ?_
 exact ah [.bool ((x.N==0)&&(((x.L.length:Nat):Int)==0))] Tryz.func300 U hX rd (cs hs0)
theorem tj (h:HF) (x:Expr) (fb:cE) (hx:Expr.ok h x fb):Ret Tryz.prog 301 [.agg (Expr.cells x fb).toArray] h (.bool (jD x)):=by
 refine ae Tryz.func301 U Tryz.ntmps301 U fun X hM hX=>?_
 have hs0:jD x=jD x:=rfl
 refine sr (dt (fun b1=>qO 4 U (aj j9 U (aI 0 ty3 U U U (au (v:=.bool (aL x.N 1 4096)) uD (fR h x.N 1 4096 ) U (aB ?_))))))
 refine ar 5 [6,7,8,9,10,11] 11 (.bool ((aL x.N 1 4096)&&(((x.L.length:Nat):Int)==0))) (fun hk1=>?_) (fun e=>?_)
 ·refine ac 6 U (fun c1=>?_) (fun c1=>?_)
  ·refine aj dC U (aI 0 ty64 U U U (a8 ga U (qO 2 U ?_)))
   exact hk1 _ (cb (cB c1))
  ·refine qO 5 U ?_
   exact hk1 _ (cb (cC c1))
 refine an ?_
 exact ah [.bool ((aL x.N 1 4096)&&(((x.L.length:Nat):Int)==0))] Tryz.func301 U hX rd (cs hs0)
theorem th (h:HF) (x:Expr) (fb:cE) (hx:Expr.ok h x fb):Ret Tryz.prog 302 [.agg (Expr.cells x fb).toArray] h (.bool (jC x)):=by
 refine ae Tryz.func302 U Tryz.ntmps302 U fun X hM hX=>?_
 have hs0:jC x=jC x:=rfl
 refine sr (dt (fun b1=>qO 4 U (aj mI U (aI 0 ty9 U U U (qO 2 U ?_)))))
 refine ar 5 [6,7,8,9,10,11] 11 (.bool ((x.Name.toList==(⟨#[]⟩:ByteArray).toList)&&(aL ((x.L.length:Nat):Int) 1 16))) (fun hk1=>?_) (fun e=>?_)
 ·refine ac 6 U (fun c1=>?_) (fun c1=>?_)
  ·refine aj dC U (aI 0 ty64 U U U (a8 ga U (au (v:=.bool (aL ((x.L.length:Nat):Int) 1 16)) uD (fR h ((x.L.length:Nat):Int) 1 16 ) U (eH U ?_))))
   exact hk1 _ (cb (cB c1))
  ·refine qO 5 U ?_
   exact hk1 _ (cb (cC c1))
 refine aB ?_
 refine ar 7 [12,13,14,15,16,17,18,19] 19 (.bool (((x.Name.toList==(⟨#[]⟩:ByteArray).toList)&&(aL ((x.L.length:Nat):Int) 1 16))&&(aL x.N 1 ((x.L.length:Nat):Int)))) (fun hk2=>?_) (fun e=>?_)
 ·refine ac 12 U (fun c2=>?_) (fun c2=>?_)
  ·refine aj j9 U (aI 0 ty3 U U U (aj dC U (aI 0 ty64 U U U (a8 ga U (au (v:=.bool (aL x.N 1 ((x.L.length:Nat):Int))) uD (fR h x.N 1 ((x.L.length:Nat):Int)) U (eH U ?_))))))
   exact hk2 _ (cb (cB c2))
  ·refine qO 7 U ?_
   exact hk2 _ (cb (cC c2))
 refine an ?_
 exact ah [.bool (((x.Name.toList==(⟨#[]⟩:ByteArray).toList)&&(aL ((x.L.length:Nat):Int) 1 16))&&(aL x.N 1 ((x.L.length:Nat):Int)))] Tryz.func302 U hX rd (cs hs0)
theorem tg (h:HF) (x:Expr) (fb:cE) (hx:Expr.ok h x fb):Ret Tryz.prog 303 [.agg (Expr.cells x fb).toArray] h (.bool (iV x)):=by
 refine ae Tryz.func303 U Tryz.ntmps303 U fun X hM hX=>?_
 have hs0:iV x=iV x:=rfl
 refine sr (dt (fun b1=>qO 4 U (aj mI U (aI 0 ty9 U U U (qO 2 U ?_)))))
 refine ar 5 [6,7,8,9,10,11] 11 (.bool ((x.Name.toList==(⟨#[]⟩:ByteArray).toList)&&(((x.L.length:Nat):Int)==2))) (fun hk1=>?_) (fun e=>?_)
 ·refine ac 6 U (fun c1=>?_) (fun c1=>?_)
  ·refine aj dC U (aI 0 ty64 U U U (a8 ga U (qO 2 U ?_)))
   exact hk1 _ (cb (cB c1))
  ·refine qO 5 U ?_
   exact hk1 _ (cb (cC c1))
 refine aB ?_
 refine ar 4 [12,13,14,15,16] 16 (.bool (((x.Name.toList==(⟨#[]⟩:ByteArray).toList)&&(((x.L.length:Nat):Int)==2))&&(aL x.N 0 1099511627776))) (fun hk2=>?_) (fun e=>?_)
 ·refine ac 12 U (fun c2=>?_) (fun c2=>?_)
  ·refine aj j9 U (aI 0 ty3 U U U (au (v:=.bool (aL x.N 0 1099511627776)) uD (fR h x.N 0 1099511627776 ) U (eH U ?_)))
   exact hk2 _ (cb (cB c2))
  ·refine qO 4 U ?_
   exact hk2 _ (cb (cC c2))
 refine an ?_
 exact ah [.bool (((x.Name.toList==(⟨#[]⟩:ByteArray).toList)&&(((x.L.length:Nat):Int)==2))&&(aL x.N 0 1099511627776))] Tryz.func303 U hX rd (cs hs0)
theorem EL (h:HF) (i:Int) (hi:0≤i∧i < 5) (x:Expr) (fb:cE) (hx:Expr.ok h x fb):wh Tryz.prog (kfun i) [.agg (Expr.cells x fb).toArray] h [] (.bool (kindsP i x)):=by
 have:i=0∨i=1∨i=2∨i=3∨i=4:=by omega
 rcases this with rfl | rfl | rfl | rfl | rfl
 ·exact iZ (cap:=[]) Tryz.call299 (tl h x fb hx)
 ·exact iZ (cap:=[]) Tryz.call300 (tk h x fb hx)
 ·exact iZ (cap:=[]) Tryz.call301 (tj h x fb hx)
 ·exact iZ (cap:=[]) Tryz.call302 (th h x fb hx)
 ·exact iZ (cap:=[]) Tryz.call303 (tg h x fb hx)
end Go.Sg
namespace Go.Sg
open Go.Proofs
section runs
variable {P:Program} {e:Env} {X:Cx} {h:HF} {L:LH} {d:Option Nat} {ty:TypeId} {pos:String} {af:Array Edge} {g:Option (Nat×Bool)}
theorem IW {t u:TypeId} {x:Operand} (hT:∃ ms,P.underlying t=some (.interface ms)) (hx:e.ev x=.nilIface):∀ w,St X h L w→(execOp e.ev ⟨d,.binOp .neq t x (.const .nilIface) u,ty,pos,af,g⟩).run P w=.ok (.value (.bool false)) w:=
 fun w _=>by
  obtain ⟨ms,hT⟩:=hT
  have hc:e.ev (.const .nilIface)=.nilIface:=rfl
  have he:(Op.equal t .nilIface .nilIface).run P w=.ok true w:=by
   rw [Op.equal,Op.maxDepth,show (10000:Nat)=9999+1 from rfl,Op.equalIn];simp [run_underlying hT]
  simp [execOp,hx,hc,eqGuard,binOp,he]
theorem IV {t u:TypeId} {x:Operand} {T:TypeId} {v:Value} (hT:∃ ms,P.underlying t=some (.interface ms)) (hx:e.ev x=.iface T v):∀ w,St X h L w→(execOp e.ev ⟨d,.binOp .neq t x (.const .nilIface) u,ty,pos,af,g⟩).run P w=.ok (.value (.bool true)) w:=
 fun w _=>by
  obtain ⟨ms,hT⟩:=hT
  have hc:e.ev (.const .nilIface)=.nilIface:=rfl
  have he:(Op.equal t (.iface T v) .nilIface).run P w=.ok false w:=by
   rw [Op.equal,Op.maxDepth,show (10000:Nat)=9999+1 from rfl,Op.equalIn];simp [run_underlying hT]
  simp [execOp,hx,hc,eqGuard,binOp,he]
theorem F6 {x:Operand} {xt T:TypeId} {fs:Array Field} {v:Value} (hT:P.underlying T=some (.struct fs)) (hx:e.ev x=.iface T v):∀ w,St X h L w→(execOp e.ev ⟨d,.typeAssert x xt T true,ty,pos,af,g⟩).run P w=.ok (.value (.tuple #[v,.bool true])) w:=
 fun w _=>by simp [execOp,hx,Instr.typeAssert,run_underlying hT]
end runs
def bodyOf (f:Func):Code:=f.body.getD .skip
theorem EA {P:Program} {e:Env} {d:Option Nat} {ty:TypeId} {pos:String} {af:Array Edge} {g:Option (Nat×Bool)} {t:Nat} {fv:Value} {ats:Array TypeId} (hf:e t=fv) (w:World):
  (execOp e.ev ⟨d,.call ⟨.value (.tmp t),#[],ats⟩,ty,pos,af,g⟩).run P w=(do let d ← Deferred.ofValue fv #[];invoke d.target d.args:Sem Next).run P w:=by
 subst hf;simp [execOp,resolve,Env.ev]
theorem zP (h:HF) (b1:Nat) (X':Cx):TT Tryz.prog (deferFrame 241) 17 [.code (bodyOf Tryz.f241)] (Gu Tryz.prog X' .returning (fun h' B=>h'=h∧B=[(b1,Obj.cells (List.toArray [.int .i64 0]) 35 (0,0))])) (envArgs [.pointer (some ⟨b1,0,none⟩)]) [] X' h [(b1,Obj.cells (List.toArray [.int .i64 0]) 35 (0,0))]:=by
 refine em (bU (?_))
 refine Cg (fun cs Φ ⟨c,rest,hcs,hm,_⟩=>by subst hcs;simp [recoverD,hm]) ?_
 refine fx (bh (em (bU (aB (aN (gI (IW ⟨_,Tryz.underlying20⟩ rfl) (bh (?_))))))))
 exact mq rfl (e8 (GZ GI rfl ⟨rfl,rfl⟩))
theorem zQ (h:HF) (b1:Nat) (ee:Int) (X':Cx):TT Tryz.prog (deferFrame 241) 17 [.code (bodyOf Tryz.f241)]
  (fun cs Φ=>∃ c rest,cs=c::rest∧c.mode=.panicking [{ v:=stopV ee,recovered:=false }]∧Gu Tryz.prog X' (.panicking [{ v:=stopV ee,recovered:=true }]) (fun h' B=>h'=h∧∃ B0,B=B0++[(b1,Obj.cells (List.toArray [.int .i64 ee]) 35 (0,0))]) ({ c with mode:=(.panicking [{ v:=stopV ee,recovered:=true }]) }::rest) Φ)
  (envArgs [.pointer (some ⟨b1,0,none⟩)]) [] X' h [(b1,Obj.cells (List.toArray [.int .i64 0]) 35 (0,0))]:=by
 refine em (bU (?_))
 refine Ev (F':=Gu Tryz.prog X' (.panicking [{ v:=stopV ee,recovered:=true }]) (fun h' B=>h'=h∧∃ B0,B=B0++[(b1,Obj.cells (List.toArray [.int .i64 ee]) 35 (0,0))])) (stopV ee) (fun cs Φ ⟨c,rest,hcs,hm,hF⟩=>⟨_,by subst hcs;simp [recoverD,hm],hF⟩) ?_
 refine fx (bh (em (bU (aB (aN (gI (IV ⟨_,Tryz.underlying20⟩ rfl) (bh (?_))))))))
 refine lJ rfl (em (bU (aB (aN (gI (F6 Tryz.underlying277 rfl) (aB (kn rfl rfl (kn rfl rfl (bR zc277 (fun b2=>?_))))))))))
 refine bL 0 ty277 rfl rfl rfl rfl rfl rfl (fx (bh (?_)))
 refine em (em (bU (aB (yo rfl (bh (?_))))))
 refine mq rfl (e8 (?_))
 refine bU (aj H5 rfl (?_))
 refine aI 0 ty35 rfl rfl rfl (?_)
 refine dS 1 ty35 rfl rfl rfl rfl rfl rfl (bh (?_))
 exact GZ GI rfl ⟨rfl,[(b2,_)],rfl⟩
theorem tr (h:HF) (fv:Value) (x:Except Int Unit) (hf:lf Tryz.prog fv #[] h [] (XR (exW stopV (fun _:Unit=>.tuple #[]) x) h)):Ret Tryz.prog 213 [fv] h (.int .i64 (attR x)):=by
 refine ae Tryz.func213 rfl Tryz.ntmps213 rfl fun X hM hX=>?_
 refine em (bU (bR zc35 (fun b1=>bh (em (bU (aN (gg rfl rfl (GX rfl rfl (bh (em (bU (aB (?_)))))))))))))
 have fin:∀ (r:Int) (B:LH),attR x=r→(∃ B0,B=B0++[(b1,Obj.cells (List.toArray [.int .i64 r]) 35 (0,0))])→∀ (e:Env),e 2=.pointer (some ⟨b1,0,none⟩)→∀ a:Act,envOf a=e→∀ w,St X h (B++[]) w →
   ∃ v h2 B2,(results Tryz.f213 a.tmps).run Tryz.prog w=.ok v w∧St X h2 B2 w∧v=.int .i64 (attR x)∧h2=h∧B2=[]:=by
  rintro r B hr ⟨B0,rfl⟩ e he a ha w hw
  have hw':=hw.sub (L':=[(b1,Obj.cells (List.toArray [.int .i64 r]) 35 (0,0))]) (by simp)
  exact ⟨_,h,[],qD (rs:=[.cell 2 35]) (vs:=[.int .i64 r]) rfl ⟨⟨0,b1,[.int .i64 r],35,(0,0),rfl,he,.inr ⟨_,ty35,rfl⟩⟩,trivial⟩ a ha w hw',hw'.sub (List.nil_sublist _),by rw [hr];rfl,rfl,rfl⟩
 refine Fl rfl (by decide) rfl rfl (fun w hw=>?_)
 have hpre:Pre h [] w:=(hw.sub (List.nil_sublist _)).pre
 obtain ⟨nx,hrun,hcall⟩:=hf w hpre
 refine ⟨nx,w,?_,hcall.mono ?_⟩
 ·rw [← hrun];exact EA rfl w
 rintro y w' ⟨h',B,hst,rfl,rfl,hv⟩
 have hw2:=St.after (A:=[]) (B:=[]) (F:=[(b1,Obj.cells (List.toArray [.int .i64 0]) 35 (0,0))]) hw hst
 cases y with
 | outgrown=>trivial
 | returned v=>
  refine ⟨h',_,hw2,?_⟩
  have hx:∃ u,x=.ok u:=by cases x with
   | ok u=>exact ⟨u,rfl⟩
   | error p=>simp [exW] at hv
  obtain ⟨u,rfl⟩:=hx
  refine bh (em (bU (dS 0 ty35 rfl rfl rfl rfl rfl rfl (bh (?_)))))
  refine IC (c:=bodyOf Tryz.f241) (cap:=[.pointer (some ⟨b1,0,none⟩)]) (A:=[(b1,Obj.cells (List.toArray [.int .i64 0]) 35 (0,0))]) (R':=fun h'' B=>h''=h'∧B=[(b1,Obj.cells (List.toArray [.int .i64 0]) 35 (0,0))]) Tryz.func213 GI rfl Tryz.ntmps241 rfl Tryz.call241 (fun X' _=>zP h' b1 X') (Fr:=[]) rfl ?_
  rintro h'' B _ ⟨rfl,rfl⟩ a ha w hw
  obtain ⟨v,h2,B2,h3,h4,rfl,rfl,rfl⟩:=fin 0 _ rfl ⟨[],rfl⟩ _ rfl a ha w hw
  exact ⟨_,_,_,h3,h4,rfl,rfl,rfl⟩
 | panicked ch=>
  refine ⟨h',_,hw2,?_⟩
  have hx:∃ ee,x=.error ee:=by cases x with
   | ok u=>simp [exW] at hv
   | error p=>exact ⟨p,rfl⟩
  obtain ⟨ee,rfl⟩:=hx
  simp only [exW] at hv
  cases hv
  refine IG (c:=bodyOf Tryz.f241) (cap:=[.pointer (some ⟨b1,0,none⟩)]) (A:=[(b1,Obj.cells (List.toArray [.int .i64 0]) 35 (0,0))]) (R':=fun h'' B=>h''=h'∧∃ B0,B=B0++[(b1,Obj.cells (List.toArray [.int .i64 ee]) 35 (0,0))]) Tryz.func213 GI rfl Tryz.ntmps241 rfl Tryz.call241 (fun X' _=>zQ h' b1 ee X') (Fr:=[]) rfl ?_
  rintro h'' B _ ⟨rfl,hB⟩ a ha w hw
  obtain ⟨v,h2,B2,h3,h4,rfl,rfl,rfl⟩:=fin ee _ rfl hB _ rfl a ha w hw
  exact ⟨_,_,_,h3,h4,rfl,rfl,rfl⟩
end Go.Sg
