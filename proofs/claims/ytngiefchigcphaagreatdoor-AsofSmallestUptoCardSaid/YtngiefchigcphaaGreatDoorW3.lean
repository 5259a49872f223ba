import Derived.Conc.LoneCalls
import Derived.Test.YtngiefchigcphaaGreatDoorW2
/- A part of the proof of AsofSmallest. -/
set_option linter.unusedVariables false
set_option linter.unusedSimpArgs false
set_option maxRecDepth 100000
namespace Go.Sg
section grow
variable {α : Type} {R:Rp α} {E:TypeId} {h:HF} {xs:List α} {base:Option Addr} {cap:Nat} {G:LH}
theorem eb.wg (hG:eb R E h xs base cap G) (hne:0 < xs.length):∃ bk,base=some ⟨bk,0,none⟩:=by
 rcases hG with ⟨rfl,_⟩ | ⟨bk,_,_,e,_⟩
 ·simp at hne
 ·exact ⟨bk,e⟩
theorem eb.JQ (hG:eb R E h xs base cap G):xs.length≤cap:=by
 rcases hG with ⟨rfl,_⟩ | ⟨bk,cl,sp,_,_,_,h4,_⟩
 ·simp
 ·exact h4
theorem bD.split:∀ {xs ys:List α} {cl:List Value},bD R h cl (xs++ys)→∃ a b,cl=a++b∧bD R h a xs∧bD R h b ys
 | [],ys,cl,hc=>⟨[],cl,rfl,rfl,hc⟩
 | x::xs,ys,cl,⟨cs,rest,e,hl,hr,hc⟩=>by
  obtain ⟨a,b,rfl,h1,h2⟩:=bD.split hc
  exact ⟨cs++a,b,by rw [e,List.append_assoc],⟨cs,a,rfl,hl,hr,h1⟩,h2⟩
theorem eb.take (hG:eb R E h xs base cap G) (k:Nat):eb R E h (xs.take k) base cap G:=by
 rcases hG with ⟨rfl,rfl,rfl,rfl⟩ | ⟨bk,cl,sp,e,hc,h3,h4,h5,rfl⟩
 ·rw [List.take_nil];exact eb.nil
 ·rw [← List.take_append_drop k xs] at hc
  obtain ⟨a,b,rfl,h1,h2⟩:=bD.split hc
  refine .inr ⟨bk,a,b++sp,e,h1,by rw [← List.append_assoc];exact h3,?_,?_,by rw [List.append_assoc]⟩
  ·rw [List.length_take];omega
  ·rw [List.length_take];omega
end grow
section runs
variable {P:Program} {e:Env} {X:Cx} {h:HF} {L:LH} {d:Option Nat} {ty:TypeId} {pos:String} {af:Array Edge} {g:Option (Nat×Bool)}
variable {α : Type} {R:Rp α} {E:TypeId} {xs:List α} {base:Option Addr} {cap bk:Nat} {G:LH}
theorem Bj {t:TypeId} {x ix:Operand} {m:Nat} {a:Bool} {z:Int} (hT:P.underlying t=some (.slice E)) (hS:tySz P E=some (R.sz,a)) (hb:base=some ⟨bk,0,none⟩) (hz:0≤z∧z < (xs.length:Int))
  (hx:e.ev x=.slice base m cap) (hm:m=xs.length) (hix:e.ev ix=.int .i64 z):∀ w,St X h L w→(execOp e.ev ⟨d,.indexAddr t x ix,ty,pos,af,g⟩).run P w=.ok (.value (.pointer (some ⟨bk,z.toNat * R.sz,none⟩))) w:=by
 subst hb hm
 have hzz:z=((z.toNat:Nat):Int):=by omega
 rw [hzz] at hix
 intro w hw
 rw [Hs hT hS hx hix (by omega) w hw,nA]
theorem Jf {t:TypeId} {x:Operand} {m i off:Nat} {y:α} {v:Value} {h0:HF} (hT:tySz P t=some (m,false)) (hG:eb R E h0 xs base cap G) (hb:base=some ⟨bk,0,none⟩) (hi:xs[i]? = some y) (hv:∀ cs,R.rep h0 cs y→nth cs off=some v)
  (hx:e.ev x=.pointer (some ⟨bk,i * R.sz+off,none⟩)) (hm:∀ p∈G,p∈L):∀ w,St X h L w→(execOp e.ev ⟨d,.load t x,ty,pos,af,g⟩).run P w=.ok (.value v) w:=by
 rcases hG with ⟨rfl,_⟩ | ⟨bk',cl,sp,e1,hc,_,_,_,rfl⟩
 ·simp at hi
 ·rw [hb] at e1
  cases e1
  obtain ⟨cs,hl,hr,hcell⟩:=hc.get i y hi
  have hv':=hv cs hr
  rw [gE] at hv'
  have h9:=hcell off v hv'
  refine gH hT hx (hm _ (List.mem_singleton.2 rfl)) ?_
  rw [gE,List.getElem?_append_left (by
   rcases Nat.lt_or_ge (i * R.sz+off) cl.length with q | q
   ·exact q
   ·simp [List.getElem?_eq_none q] at h9)]
  exact h9
end runs
theorem re {α : Type} (a b:List α) (i:Nat) (x:α) (hi:i < a.length):setNth (a++b) i x=setNth a i x++b:=by
 rw [kP,kP,List.set_append_left _ _ hi]
theorem vE {α : Type} (a b:List α) (i:Nat) (x:α):setNth (a++b) (a.length+i) x=a++setNth b i x:=by
 rw [kP,kP,List.set_append_right _ _ (Nat.le_add_right _ _)];simp
theorem bD.set {α : Type} {R:Rp α} {h:HF} {off:Nat} {v:Value} {y y':α} (ho:off < R.sz) (hrep:∀ cs,R.rep h cs y→R.rep h (setNth cs off v) y'):
  ∀ {xs:List α} {cl:List Value} (i:Nat),bD R h cl xs→xs[i]? = some y→bD R h (setNth cl (i * R.sz+off) v) (xs.set i y')
 | x::xs,cl,0,⟨cs,rest,e,hl,hr,hc⟩,hi=>by
  simp at hi
  subst hi
  rw [e,Nat.zero_mul,Nat.zero_add,re _ _ _ _ (by omega)]
  exact ⟨setNth cs off v,rest,rfl,by rw [m8];exact hl,hrep cs hr,hc⟩
 | x::xs,cl,i+1,⟨cs,rest,e,hl,hr,hc⟩,hi=>by
  have ih:=bD.set ho hrep i hc (by simpa using hi)
  rw [e,show (i+1) * R.sz+off=cs.length+(i * R.sz+off) from by rw [hl,Nat.add_mul];omega,vE]
  exact ⟨cs,_,rfl,hl,hr,ih⟩
 | [],_,_,_,hi=>by simp at hi
section steps
variable {P:Program} {b:Frame} {n:Nat} {ops:Array Oper} {F:List Frame→(Machine→Prop)→Prop} {e:Env} {ds:List Deferred} {X:Cx} {h:HF} {L:LH} {K:Env→HF→LH→Prop}
variable {d:Option Nat} {ty:TypeId} {pos:String} {af:Array Edge} {g:Option (Nat×Bool)}
variable {α : Type} {R:Rp α} {E:TypeId} {xs:List α} {base:Option Addr} {cap bk:Nat}
theorem Cs (A G Q:LH) {t:TypeId} {x y:Operand} {m i off:Nat} {a:Bool} {u u':α} {v:Value} (hT:tySz P t=some (m,a)) (hm:m=1) (hG:eb R E h xs base cap G) (hL:L=A++(G++Q)) (hb:base=some ⟨bk,0,none⟩)
  (hi:xs[i]? = some u) (ho:off < R.sz) (hrep:∀ cs,R.rep h cs u→R.rep h (setNth cs off v) u') (hx:e.ev x=.pointer (some ⟨bk,i * R.sz+off,none⟩)) (hv:vcells (e.ev y)=[v]) (h1:one v=true)
  (t':∀ G',eb R E h (xs.set i u') base cap G'→K e h (A++(G'++Q)))
  (hg:guardB ops e ⟨none,.store t x y,ty,pos,af,g⟩=true:=by rfl):Stp P b n ops F ds X ⟨none,.store t x y,ty,pos,af,g⟩ e h L K:=by
 subst hL hm
 rcases hG with ⟨rfl,_⟩ | ⟨bk',cl,sp,e1,hc,h3,h4,h5,rfl⟩
 ·simp at hi
 ·have e2:=e1
  rw [hb] at e2
  cases e2
  have hlen:=hc.len
  have hil:i < xs.length:=by
   rcases Nat.lt_or_ge i xs.length with q | q
   ·exact q
   ·simp [List.getElem?_eq_none q] at hi
  have hlt:i * R.sz+off < cl.length:=by
   rw [hlen]
   have:=Nat.mul_le_mul_right R.sz (show i+1≤xs.length from hil)
   rw [Nat.add_mul] at this;omega
  have hnth:nth (A++([(bk,Obj.cells (cl++sp).toArray E (0,0))]++Q)) A.length=some (bk,.cells (cl++sp).toArray E (0,0)):=Fx A _ Q
  refine j6 A.length hT hx hnth hv rfl (by simp;omega) (by simp [h1]) ?_ hg
  have hs:splice (cl++sp) (i * R.sz+off) [v]=setNth cl (i * R.sz+off) v++sp:=by
   simp only [splice];rw [re _ _ _ _ hlt]
  rw [hs]
  have hset:=xI A (bk,Obj.cells (cl++sp).toArray E (0,0)) (bk,Obj.cells (setNth cl (i * R.sz+off) v++sp).toArray E (0,0)) Q
  show K e h (setNth (A++(bk,Obj.cells (cl++sp).toArray E (0,0))::Q) A.length _)
  rw [hset]
  refine t' [(bk,.cells (setNth cl (i * R.sz+off) v++sp).toArray E (0,0))] (.inr ⟨bk,setNth cl (i * R.sz+off) v,sp,e1,bD.set ho hrep i hc hi,?_,?_,?_,rfl⟩)
  ·rw [List.length_append,m8,← List.length_append];exact h3
  ·rw [List.length_set];exact h4
  ·rw [List.length_set];exact h5
theorem Ct {t:TypeId} {x hi:Operand} {a:Bool} {m:Nat} {z:Int} {G:LH} (hT:P.underlying t=some (.slice E)) (hS:tySz P E=some (R.sz,a)) (hG:eb R E h xs base cap G) (hz:0≤z∧z≤(xs.length:Int))
  (hx:e.ev x=.slice base m cap) (hm:m=xs.length) (hhi:e.ev hi=.int .i64 z)
  (t':K (pute e d (.slice base (xs.take z.toNat).length cap)) h L)
  (hg:guardB ops e ⟨d,.slice t x none (some hi) none,ty,pos,af,g⟩=true:=by rfl):Stp P b n ops F ds X ⟨d,.slice t x none (some hi) none,ty,pos,af,g⟩ e h L K:=by
 subst hm
 have hcap:=hG.JQ
 have hz2:0≤z∧z≤((cap:Nat):Int):=by omega
 have hl:z.toNat=(xs.take z.toNat).length:=by simp;omega
 refine gI (v:=.slice base (xs.take z.toNat).length cap) (fun w hw=>?_) t' hg
 rw [← hl]
 by_cases h0:cap=0
 ·have hz0:z=0:=by omega
  subst hz0
  simp [execOp,Instr.sliceAt,Instr.slice,Instr.sliceBounds,Instr.sliceBound,hx,hhi,asIntOf,run_underlying hT,fT hS,hz2,h0]
 ·simp [execOp,Instr.sliceAt,Instr.slice,Instr.sliceBounds,Instr.sliceBound,hx,hhi,asIntOf,run_underlying hT,fT hS,hz2,h0,Addr.add]
theorem Cu (A G Q:LH) {f:FuncId} {ass:Array Operand} {ats:Array TypeId} {vs:List Value} {v:Value} (hc:∀ args w,(callFunc f args).run P w=.ok (.enter f args) w) (hm:R.Mono) (hG:eb R E h xs base cap G) (hL:L=A++(G++Q))
  (hs:∀ h1,h.le h1→SlC R h1 base cap xs→Ret P f vs h1 v) (hvs:ass.toList.map e.ev=vs) (t':K (pute e d v) h L)
  (hg:guardB ops e ⟨d,.call ⟨.value (.func f),ass,ats⟩,ty,pos,af,g⟩=true:=by rfl):
  Stp P b n ops F ds X ⟨d,.call ⟨.value (.func f),ass,ats⟩,ty,pos,af,g⟩ e h L K:=by
 unfold Stp
 rw [if_pos hg]
 intro w hw
 have harr:ass.map e.ev=vs.toArray:=Array.ext' (by simp [← hvs])
 have hr:(execOp e.ev ⟨d,.call ⟨.value (.func f),ass,ats⟩,ty,pos,af,g⟩).run P w=.ok (.enter f vs.toArray) w:=by
  simp [execOp,resolve,Env.ev,Deferred.ofValue,invoke,harr,hc]
 rw [hr]
 have back:∀ (h1:HF),h.le h1→(∀ bk o,h1 bk=some o→w.heap[bk]? = some o)→SlC R h1 base cap xs→qp P b n F ds X ⟨d,.call ⟨.value (.func f),ass,ats⟩,ty,pos,af,g⟩ e K (.ok (.enter f vs.toArray) w):=by
  intro h1 hle himm hsl
  have hp1:Pre h1 [] w:=⟨himm,fun _ hp=>(List.not_mem_nil hp).elim,List.nodup_nil,fun _ hp=>(List.not_mem_nil hp).elim⟩
  refine jW (by simp) (jv (oU.mono (hs h1 hle hsl w hp1) ?_))
  rintro x w' ⟨h',B,hst,rfl,rfl,rfl⟩
  refine ⟨h,L,⟨hst.os.trans hw.os,hst.tape.trans hw.tape,hst.output.trans hw.output,Nat.le_trans hw.size hst.size,fun b' hb' hM=>?_,hw.le,hw.old,fun b' o hb'=>?_,fun p hp=>?_,hw.dis,hw.free,hw.new⟩,t'⟩
  ·rw [hst.keep b' (Nat.lt_of_lt_of_le hb' hw.size) (by simp)];exact hw.keep b' hb' hM
  ·rw [hst.keep b' (fu (hw.imm b' o hb')) (by simp)];exact hw.imm b' o hb'
  ·rw [hst.keep p.1 (fu (hw.own p hp)) (by simp)];exact hw.own p hp
 rcases hG with ⟨rfl,rfl,rfl,rfl⟩ | ⟨bk,cl,sp,rfl,hcl,h3,h4,h5,rfl⟩
 ·exact back h (HF.le_refl h) hw.imm SlC.nil
 ·have hmem:(bk,Obj.cells (cl++sp).toArray E (0,0))∈L:=by rw [hL];simp
  have hle:h.le (h.add bk (.cells (cl++sp).toArray E (0,0))):=HF.uf (hw.free _ hmem)
  refine back _ hle (fun k o hk=>?_) ⟨bD.slB (hcl.mono hm hle) (HF.qn _ _ _) h5,h4⟩
  unfold HF.add at hk
  by_cases e0:k=bk
  ·subst e0;simp at hk;subst hk;exact hw.own _ hmem
  ·rw [if_neg e0] at hk;exact hw.imm k o hk
theorem Hk {t E:TypeId} {dir:ChanDir} {sz:Operand} {m by_:Nat} (hT:P.underlying t=some (.chan dir E)) (hby:bytesOf P E=some by_) (hsz:e.ev sz=.int .i64 (m:Nat)) (hm:m≤1000000000) (hb:by_≤4096)
  (t':∀ bk,K (pute e d (.chan (some bk))) h ((bk,.chan m #[] false 0 0 false)::L))
  (hg:guardB ops e ⟨d,.makeChan t sz,ty,pos,af,g⟩=true:=by rfl):Stp P b n ops F ds X ⟨d,.makeChan t sz,ty,pos,af,g⟩ e h L K:=
 gZ hg fun w hw=>by
  refine ⟨_,_,h,_,?_,hw.alloc (.chan m #[] false 0 0 false),t' _⟩
  have h1:¬ ((m:Int) > IntKind.i64.max):=by
   have:IntKind.i64.max=9223372036854775807:=by rfl
   omega
  have h2:∃ i,P.info? E=some i∧i.bytes=by_:=by
   unfold bytesOf at hby
   cases hi:P.info? E with
   | none=>rw [hi] at hby;cases hby
   | some i=>rw [hi] at hby;exact ⟨i,rfl,by simpa using hby⟩
  obtain ⟨i,hi,hib⟩:=h2
  have h3:¬ ((i.bytes:Int) * (m:Int) > 2 ^ 48 - 112):=by
   rw [hib]
   have:by_ * m≤4096 * 1000000000:=Nat.mul_le_mul hb hm
   have h4:((by_:Int) * (m:Int))=((by_ * m:Nat):Int):=by simp
   rw [h4];omega
  simp only [execOp,Instr.makeChan,hsz]
  simp [asInt,asIntOf,run_underlying hT,typeInfo,hi]
  intro hc
  exfalso
  have h1':¬ (9223372036854775807 < (m:Int)):=by omega
  have h3':¬ (281474976710544 < (i.bytes:Int) * (m:Int)):=by
   intro h9;exact h3 (by simpa using h9)
  rcases hc with hc | hc | hc
  ·omega
  ·exact h1' hc
  ·exact h3' hc
end steps
theorem tP {s:GStep} {g:Goroutine} {cs:Array CommCase} {bl:Bool} {sh:CommShape} {w:World} (h:s.bare=.comm g cs bl sh w):∃ es,s=.comm g cs bl sh w es:=by
 cases s <;> simp at h
 obtain ⟨rfl,rfl,rfl,rfl,rfl⟩:=h
 exact ⟨_,rfl⟩
section comm
variable {P:Program} {b:Frame} {n:Nat} {ops:Array Oper} {l:List Oper} {k:List Item} {F:List Frame→(Machine→Prop)→Prop} {e:Env} {ds:List Deferred} {X:Cx} {h:HF} {L:LH}
variable {ty:TypeId} {pos:String} {af:Array Edge} {g:Option (Nat×Bool)}
theorem JJ (i:Nat) {ch x:Operand} {c cap s r:Nat} {vs:List Value} {v:Value} (hL:nth L i=some (c,.chan cap vs.toArray false s r false)) (hch:e.ev ch=.chan (some c)) (hx:e.ev x=v) (hroom:vs.length < cap)
  (t:TO P b n ops l k F e ds X h (setNth L i (c,.chan cap (vs++[v]).toArray false (s+1) r false)))
  (hg:guardB ops e ⟨none,.send ch x,ty,pos,af,g⟩=true:=by rfl):TO P b n ops (⟨none,.send ch x,ty,pos,af,g⟩::l) k F e ds X h L:=by
 intro w hw is hi a cs Φ hn he hds hF
 obtain ⟨j,js,rfl,ho,hj⟩:=m9 hi
 have hwt:=(fy (ops:=ops) he).trans hg
 have hs:=stepGR_op (P:=P) (b:=b) (k:=k) (cs:=cs) (w:=w) (rest:=js) ho hwt
 rw [iz _ _ rfl,i0,he] at hs
 have hb:w.heap[c]? = some (.chan cap vs.toArray false s r false):=by
  have h2:=hL
  rw [gE] at h2
  exact hw.own _ (List.mem_of_getElem? h2)
 have hcm:∃ es,stepG P true (Go.Conc.G (b.atR a (.inRegion ops (j::js)::k)) cs) w=.comm (Go.Conc.G (b.atR a (.inRegion ops (j::js)::k)) cs) #[Go.Conc.scase c v (.tuple #[])] true .send w es:=by
  have hrun:(execOp e.ev ⟨none,.send ch x,ty,pos,af,g⟩).run P w=.ok (.comm #[Go.Conc.scase c v (.tuple #[])] true .send) w:=by
   simp [execOp,hch,hx,Go.Conc.scase]
  show ∃ es,stepG P true { frame:=b.atR a (.inRegion ops (j::js)::k),callers:=cs,status:=.running,dying:=none } w=_
  refine tP ?_
  rw [hs]
  simp [stepG.apply,hrun,Go.Conc.G]
 obtain ⟨es,hcm⟩:=hcm
 have h1:=Go.Conc.step_lone_send_room hcm hb (by simpa using hroom)
 refine .step h1 ?_
 rw [show Go.Conc.solo (Go.Conc.G ((b.atR a (.inRegion ops (j::js)::k)).finish undef) cs) (w.setChan c cap (vs.toArray.push v) false (s+1) r false)=lone ((b.atR a (.inRegion ops (j::js)::k)).finish undef) cs (w.setChan c cap (vs.toArray.push v) false (s+1) r false) from rfl,gl a js k ho undef]
 have hw2:=hw.write hL (.chan cap (vs++[v]).toArray false (s+1) r false)
 have e1:vs.toArray.push v=(vs++[v]).toArray:=by simp
 rw [e1]
 exact t _ hw2 js hj a cs Φ hn he hds hF
theorem JK (i:Nat) {t E:TypeId} {dir:ChanDir} {ch:Operand} {d c cap s r:Nat} {vs:List Value} {v z:Value} (hT:P.underlying t=some (.chan dir E)) (hz:zeroV P E=some z) (hL:nth L i=some (c,.chan cap (v::vs).toArray false s r false)) (hch:e.ev ch=.chan (some c))
  (t':TO P b n ops l k F (upd e d v) ds X h (setNth L i (c,.chan cap vs.toArray false s (r+1) false)))
  (hd:Nat.blt d n=true:=by rfl) (hg:guardB ops e ⟨some d,.recv t ch false,ty,pos,af,g⟩=true:=by rfl):TO P b n ops (⟨some d,.recv t ch false,ty,pos,af,g⟩::l) k F e ds X h L:=by
 intro w hw is hi a cs Φ hn he hds hF
 obtain ⟨j,js,rfl,ho,hj⟩:=m9 hi
 have hwt:=(fy (ops:=ops) he).trans hg
 have hs:=stepGR_op (P:=P) (b:=b) (k:=k) (cs:=cs) (w:=w) (rest:=js) ho hwt
 rw [iz _ _ rfl,i0,he] at hs
 have hb:w.heap[c]? = some (.chan cap (v::vs).toArray false s r false):=by
  have h2:=hL
  rw [gE] at h2
  exact hw.own _ (List.mem_of_getElem? h2)
 have hcm:∃ es,stepG P true (Go.Conc.G (b.atR a (.inRegion ops (j::js)::k)) cs) w=.comm (Go.Conc.G (b.atR a (.inRegion ops (j::js)::k)) cs) #[Go.Conc.rcase c z] true (.recv false) w es:=by
  have hrun:(execOp e.ev ⟨some d,.recv t ch false,ty,pos,af,g⟩).run P w=.ok (.comm #[Go.Conc.rcase c z] true (.recv false)) w:=by
   simp [execOp,run_underlying hT,jf hz,hch,Go.Conc.rcase]
  show ∃ es,stepG P true { frame:=b.atR a (.inRegion ops (j::js)::k),callers:=cs,status:=.running,dying:=none } w=_
  refine tP ?_
  rw [hs]
  simp [stepG.apply,hrun,Go.Conc.G]
 obtain ⟨es,hcm⟩:=hcm
 have h1:=Go.Conc.step_lone_recv_buf false hcm hb (by simp)
 refine .step h1 ?_
 have e2:Go.Conc.got false ((v::vs).toArray.getD 0 undef) true=v:=by simp [Go.Conc.got]
 have e1:(v::vs).toArray.extract 1 (v::vs).toArray.size=vs.toArray:=by simp
 rw [e2,e1]
 rw [show Go.Conc.solo (Go.Conc.G ((b.atR a (.inRegion ops (j::js)::k)).finish v) cs) (w.setChan c cap vs.toArray false s (r+1) false)=lone ((b.atR a (.inRegion ops (j::js)::k)).finish v) cs (w.setChan c cap vs.toArray false s (r+1) false) from rfl,gl a js k ho v]
 have hw2:=hw.write hL (.chan cap vs.toArray false s (r+1) false)
 have hdn:d < n:=Nat.le_of_ble_eq_true hd
 exact t' _ hw2 js hj (a.put (some d) v) cs Φ (by rw [lL];exact hn) (by rw [ml _ _ _ (hn ▸ hdn),he]) (by rw [jZ];exact hds) hF
end comm
section runs2
variable {P:Program} {e:Env} {X:Cx} {h:HF} {L:LH} {d:Option Nat} {ty:TypeId} {pos:String} {af:Array Edge} {g:Option (Nat×Bool)}
theorem JB {t E:TypeId} {dir:ChanDir} {ch:Operand} {c cap s r:Nat} {vs:List Value} (hT:P.underlying t=some (.chan dir E)) (hL:(c,Obj.chan cap vs.toArray false s r false)∈L) (hch:e.ev ch=.chan (some c)):
  ∀ w,St X h L w→(execOp e.ev ⟨d,.call ⟨.builtin .len,#[ch],#[t]⟩,ty,pos,af,g⟩).run P w=.ok (.value (.int .i64 (vs.length:Nat))) w:=fun w hw=>by
 have hb:w.heap[c]? = some (.chan cap vs.toArray false s r false):=hw.own _ hL
 have hg:(getObj c).run P w=.ok (.chan cap vs.toArray false s r false) w:=by simp [getObj,Sem.run,hb]
 simp [execOp,resolve,invoke,builtin,Builtin.len_,hch,run_underlying hT,hg,goInt]
theorem F7 {t E:TypeId} {x lo:Operand} {sz bk n m cap i:Nat} {a:Bool} (hT:P.underlying t=some (.slice E)) (hS:tySz P E=some (sz,a)) (hx:e.ev x=.slice (some ⟨bk,0,none⟩) n cap) (hlo:e.ev lo=.int .i64 (i:Nat)) (hi:i < n) (hc:n≤cap) (hm:n - i=m) (h1:sz=1:=by rfl):
  ∀ w,St X h L w→(execOp e.ev ⟨d,.slice t x (some lo) none none,ty,pos,af,g⟩).run P w=.ok (.value (.slice (some ⟨bk,i,none⟩) m (cap - i))) w:=fun w hw=>by
 subst h1 hm
 have h2:¬ (cap=i):=by omega
 have h3:(⟨bk,0,none⟩:Addr).add i=⟨bk,i,none⟩:=nA bk i
 simp [execOp,Instr.sliceAt,Instr.slice,Instr.sliceBounds,Instr.sliceBound,hx,hlo,asIntOf,run_underlying hT,fT hS,h2,h3,Nat.le_of_lt hi]
end runs2
theorem Cy {P:Program} {α : Type} {R:Rp α} {X:Cx} {h:HF} {w:World} {L:LH} {t ty E:TypeId} {xs ys:List α} {base:Option Addr} {cap:Nat} {x:Value} {by_:Nat} {a:Bool} {zs:List Value}
  (hw:St X h L w) (hT:P.underlying t=some (.slice E)) (hS:tySz P E=some (R.sz,a)) (hz:zeroC P E=some zs) (hzl:zs.length=R.sz) (hby:bytesOf P E=some by_) (hs1:Src R h L (.slice base xs.length cap) xs) (hsrc:Src R h L x ys)
  (hcap:cap < xs.length+ys.length) (hb:(xs.length+ys.length) * by_≤140737488355328) (hb2:xs.length+ys.length≤9223372036854775807):
  ∃ base' cap' G' w',(Builtin.append_ #[t,t] ty #[.slice base xs.length cap,x]).run P w=.ok (.slice base' (xs++ys).length cap') w'∧eb R E h (xs++ys) base' cap' G'∧St X h (G'++L) w':=by
 obtain ⟨i,hi,hby'⟩:∃ i,P.info? E=some i∧i.bytes=by_:=by
  unfold bytesOf at hby
  cases hi:P.info? E with
  | none=>simp [hi] at hby
  | some i=>exact ⟨i,rfl,by simpa [hi] using hby⟩
 have hsz:i.size=R.sz:=by
  have:=fT hS w
  simpa [sizeOf,typeInfo,hi] using this
 obtain ⟨z,hzz,hzc⟩:∃ z,i.zero=some z∧z.cells=zs.toArray:=by
  unfold zeroC at hz
  cases hzz:i.zero with
  | none=>simp [hi,hzz] at hz
  | some z=>exact ⟨z,rfl,by simp [hi,hzz] at hz;rw [mg,hz]⟩
 have hnewlen:(xs++ys).length=xs.length+ys.length:=by simp
 have hroom:¬ xs.length+ys.length≤cap:=by omega
 have hwd:St X h L w.drew:=hw.drew _
 obtain ⟨cl0,b0,c0,hx0,hc0,hf0⟩:=sR (P:=P) hs1 hwd
 obtain ⟨cl',b1,c1,hx',hc',hf'⟩:=sR (P:=P) hsrc hwd
 have hfit:Builtin.nextslicecap (xs.length+ys.length) cap * i.bytes≤281474976710656:=growslice_fits hcap (by rw [hby'];exact hb)
 have h48':¬ (281474976710656 < Builtin.nextslicecap (xs.length+ys.length) cap * i.bytes):=by omega
 have h63':¬ (9223372036854775807 < ((xs.length:Int)+(ys.length:Int))):=by omega
 have hge:=grownCap_ge w (xs.length+ys.length) cap E
 let nc:=grownCap w (xs.length+ys.length) cap E
 let rest:=(Builtin.zeroCells z.cells (nc - (xs.length+ys.length))).toList
 refine ⟨some ⟨w.heap.size,0,none⟩,nc,[(w.heap.size,.cells ((cl0++cl')++rest).toArray E (0,0))],w.drew.alloc (.cells ((cl0++cl')++rest).toArray E),?_,?_,?_⟩
 ·subst hx'
  rw [← hsz] at hf0 hf'
  simp [Builtin.append_,run_underlying hT,sizeOf,typeInfo,zeroValue,hi,hzz,Builtin.lenOf,hroom,h63',h48',Question.forced,hf0,hf',newRow,grownCap,nc,rest]
  congr 2
  apply Array.ext'
  simp
 ·refine .inr ⟨w.heap.size,cl0++cl',rest,rfl,bD.app hc' hc0,?_,by rw [hnewlen];exact hge,by rw [hnewlen];exact hb2,rfl⟩
  have:rest.length=(nc - (xs.length+ys.length)) * R.sz:=by
   simp [rest,Builtin.zeroCells,hzc,hzl]
  simp only [List.length_append,this,hc0.len,hc'.len,← Nat.add_mul]
  congr 1
  omega
 ·exact hwd.alloc (.cells ((cl0++cl')++rest).toArray E (0,0))
section steps3
variable {P:Program} {b:Frame} {n:Nat} {ops:Array Oper} {F:List Frame→(Machine→Prop)→Prop} {e:Env} {ds:List Deferred} {X:Cx} {h:HF} {L:LH} {K:Env→HF→LH→Prop}
variable {d:Option Nat} {ty:TypeId} {pos:String} {af:Array Edge} {g:Option (Nat×Bool)}
theorem Al {α : Type} {R:Rp α} {t E:TypeId} {s y:Operand} {xs ys:List α} {base:Option Addr} {cap:Nat} {m by_:Nat} {a:Bool} {zs:List Value}
  (hT:P.underlying t=some (.slice E)) (hS:tySz P E=some (R.sz,a)) (hz:zeroC P E=some zs) (hzl:zs.length=R.sz) (hby:bytesOf P E=some by_)
  (hs1:Src R h L (.slice base xs.length cap) xs) (hx:e.ev s=.slice base m cap) (hm:m=xs.length) (hsrc:Src R h L (e.ev y) ys) (hcap:cap < xs.length+ys.length)
  (hb:(xs.length+ys.length) * by_≤140737488355328) (hb2:xs.length+ys.length≤9223372036854775807)
  (t':∀ base' cap' G',eb R E h (xs++ys) base' cap' G'→K (pute e d (.slice base' (xs++ys).length cap')) h (G'++L))
  (hgd:guardB ops e ⟨d,.call ⟨.builtin .append,#[s,y],#[t,t]⟩,ty,pos,af,g⟩=true:=by rfl):Stp P b n ops F ds X ⟨d,.call ⟨.builtin .append,#[s,y],#[t,t]⟩,ty,pos,af,g⟩ e h L K:=
 gZ hgd fun w hw=>by
  subst hm
  obtain ⟨base',cap',G',w',hr,hG',hst⟩:=Cy (P:=P) (ty:=ty) hw hT hS hz hzl hby hs1 hsrc hcap hb hb2
  refine ⟨_,w',h,_,?_,hst,t' _ _ _ hG'⟩
  simp [execOp,resolve,invoke,builtin,hx,hr]
theorem F3 {t E:TypeId} {len sz:Nat} {a:Bool} {parts:Array (Nat×Operand)} {zs cells:List Value} (hXM:∀ b∈X.M,b < X.w0.heap.size) (hT:P.underlying t=some (.slice E)) (hS:tySz P E=some (sz,a)) (hz:zeroC P E=some zs) (hpos:Nat.blt 0 (len * sz)=true)
  (hlt:Nat.ble (len * sz) 16777216=true)
  (hc:Instr.fill (fun i=>some (i * sz,sz)) ((Array.range (len * sz)).map (zs.toArray[· % zs.toArray.size]!)) (parts.toList.map fun p=>(p.1,e.ev p.2))=some cells.toArray)
  (t':∀ bk,bk∉X.M→K (pute e d (.slice (some ⟨bk,0,none⟩) len len)) h ((bk,.cells cells.toArray E (0,0))::L))
  (hg:guardB ops e ⟨d,.buildSlice t len parts,ty,pos,af,g⟩=true:=by rfl):Stp P b n ops F ds X ⟨d,.buildSlice t len parts,ty,pos,af,g⟩ e h L K:=
 gZ hg fun w hw=>by
  obtain ⟨z,h1,h2⟩:=n9 hz w
  have hp:=mY hpos
  have hl:=Nat.le_of_ble_eq_true hlt
  have hparts:(parts.map fun x=>(x.1,e.ev x.2)).toList=parts.toList.map fun p=>(p.1,e.ev p.2):=by simp
  refine ⟨_,_,h,_,?_,hw.alloc _,t' _ (fun hm=>by have:=hXM _ hm;have:=hw.size;omega)⟩
  have hne:¬ len * sz=0:=by omega
  have hnl:¬ len * sz > 2 ^ 24:=by omega
  simp only [execOp,Instr.buildSlice,Sem.run_bind,run_underlying hT,Result.andThen_ok,fT hS,hnl,hne,if_false,h1,h2,Sem.run_pure,hparts]
  rw [hc]
  simp [newRow]
theorem Bd (A Q:LH) {t:Nat} {ass:Array Operand} {ats:Array TypeId} {fv:Value} {vs:List Value} {Φ : LH→Prop} (hL:L.Perm (A++Q))
  (hs:lf P fv vs.toArray h A (fun x h' B=>x=.returned (.tuple #[])∧h'=h∧Φ B)) (hf:e t=fv) (hvs:ass.toList.map e.ev=vs) (t':∀ B,Φ B→K (pute e d (.tuple #[])) h (B++Q))
  (hg:guardB ops e ⟨d,.call ⟨.value (.tmp t),ass,ats⟩,ty,pos,af,g⟩=true:=by rfl):Stp P b n ops F ds X ⟨d,.call ⟨.value (.tmp t),ass,ats⟩,ty,pos,af,g⟩ e h L K:=by
 unfold Stp
 rw [if_pos hg]
 intro w hw
 have hw':=hw.perm hL
 have harr:ass.map e.ev=vs.toArray:=Array.ext' (by simp [← hvs])
 obtain ⟨nx,hrun,hcall⟩:=hs w (Pre.left (A:=A) hw'.pre)
 have hr:(execOp e.ev ⟨d,.call ⟨.value (.tmp t),ass,ats⟩,ty,pos,af,g⟩).run P w=.ok nx w:=by
  rw [← hrun]
  simp [execOp,resolve,Env.ev,harr,hf]
 rw [hr]
 refine jW (kX hcall) (hcall.mono ?_)
 rintro x w' ⟨h',B,hst,rfl,rfl,hB⟩
 exact ⟨h',_,St.after (A:=A) (F:=Q) hw' hst,t' B hB⟩
theorem Hi {o:Oper} {L':LH} (hp:L.Perm L') (t:Stp P b n ops F ds X o e h L' K) (hg:guardB ops e o=true:=by rfl):Stp P b n ops F ds X o e h L K:=by
 unfold Stp at t ⊢
 rw [if_pos hg] at t ⊢
 exact fun w hw=>t w (hw.perm hp)
end steps3
section runs3
variable {P:Program} {e:Env} {X:Cx} {h:HF} {L:LH} {d:Option Nat} {ty:TypeId} {pos:String} {af:Array Edge} {g:Option (Nat×Bool)}
theorem JC {t E:TypeId} {x hi mx:Operand} {sz n cap:Nat} {a:Bool} {base:Option Addr} (hT:P.underlying t=some (.slice E)) (hS:tySz P E=some (sz,a)) (hx:e.ev x=.slice base n cap) (hhi:e.ev hi=.int .i64 (n:Nat)) (hmx:e.ev mx=.int .i64 (n:Nat)) (hc:n≤cap):
  ∀ w,St X h L w→(execOp e.ev ⟨d,.slice t x none (some hi) (some mx),ty,pos,af,g⟩).run P w=.ok (.value (.slice base n n)) w:=fun w hw=>by
 by_cases h0:n=0
 ·subst h0
  simp [execOp,Instr.sliceAt,Instr.slice,Instr.sliceBounds,Instr.sliceBound,hx,hhi,hmx,asIntOf,run_underlying hT,fT hS,hc]
 ·simp [execOp,Instr.sliceAt,Instr.slice,Instr.sliceBounds,Instr.sliceBound,hx,hhi,hmx,asIntOf,run_underlying hT,fT hS,hc,h0,Addr.add]
def fldT (P:Program) (s:TypeId) (i:Nat):Option (Nat×Nat):=
 match P.underlying s with
 | some (.struct fs)=>match fs[i]? with
  | some f=>some (f.type,f.offset)
  | none=>none
 | _=>none
theorem CH {s t:TypeId} {x:Operand} {i off m:Nat} {cl cs:List Value} (hf:fldT P s i=some (t,off)) (hT:tySz P t=some (m,true)) (hx:e.ev x=.agg cl.toArray) (hv:cut cl off m=some cs):
  ∀ w,St X h L w→(execOp e.ev ⟨d,.field s x i,ty,pos,af,g⟩).run P w=.ok (.value (.agg cs.toArray)) w:=fun w hw=>by
 unfold fldT at hf
 split at hf
 ·rename_i fs hu
  split at hf
  ·rename_i f hfi
   simp only [Option.some.injEq,Prod.mk.injEq] at hf
   obtain ⟨rfl,rfl⟩:=hf
   obtain ⟨h1,h2⟩:=tc hv
   have he:(cl.drop f.offset).take m=cs:=by
    apply List.ext_getElem?
    intro j
    rw [List.getElem?_take]
    split
    ·next hj=>
     have:=h2 j (cs[j]'(by omega)) (List.getElem?_eq_getElem (by omega))
     rw [gE] at this
     rw [List.getElem?_drop,this,List.getElem?_eq_getElem]
    ·next hj=>rw [List.getElem?_eq_none (by omega)]
   simp [execOp,Instr.field,run_underlying hu,hfi,hx,asAgg,part,uF hT,fT hT,he]
  ·cases hf
 ·cases hf
end runs3
theorem AH {κ α : Type} [DecidableEq κ] (k:κ) {m m':List (κ×α)} (hp:m.Perm m') (hn:(m.map (·.1)).Nodup):(mdel m k).Perm (mdel m' k):=by
 induction hp with
 | nil=>exact List.Perm.refl _
 | cons x p ih=>
  obtain ⟨k',v'⟩:=x
  rw [List.map_cons,List.nodup_cons] at hn
  simp only [mdel]
  split
  ·exact p
  ·exact List.Perm.cons _ (ih hn.2)
 | swap x y l=>
  obtain ⟨a,va⟩:=x
  obtain ⟨b,vb⟩:=y
  simp only [List.map_cons,List.nodup_cons,List.mem_cons,not_or] at hn
  simp only [mdel]
  by_cases h1:k=b
  ·have h2:¬ k=a:=fun e=>hn.1.1 (h1.symm.trans e)
   simp only [h1,h2,if_true,if_false]
   rw [if_neg (h1 ▸ h2)]
  ·by_cases h2:k=a
   ·simp only [h1,h2,if_true,if_false]
    rw [if_neg (h2 ▸ h1)]
   ·simp only [h1,h2,if_false]
    exact List.Perm.swap _ _ _
 | trans p q ih1 ih2=>exact (ih1 hn).trans (ih2 ((p.map _).nodup_iff.1 hn))
theorem uV {κ α : Type} [DecidableEq κ] (k:κ):∀ (m:List (κ×α)),(mdel m k).Sublist m
 | []=>List.Sublist.refl _
 | (k',v')::m=>by
  simp only [mdel]
  split
  ·exact .cons _ (List.Sublist.refl _)
  ·exact .cons_cons _ (uV k m)
theorem m5.del {κ α : Type} {enc:κ→Value} {V:HF→Value→α→Prop} {h:HF} [DecidableEq κ] {k:κ}:∀ {es:List MapEntry} {m:List (κ×α)} (j:Nat),m5 enc V h es m →
  match findIn k (m.map (·.1)) es j with
  | some (i,_)=>j≤i∧i - j < es.length∧m5 enc V h (es.eraseIdx (i - j)) (mdel m k)
  | none=>m5 enc V h es (mdel m k)
 | [],[],_,_=>trivial
 | e::es,(k',v)::m,j,⟨a,b,c⟩=>by
  simp only [List.map_cons,findIn,mdel]
  by_cases hk:k=k'
  ·simp only [hk,if_true]
   refine ⟨Nat.le_refl _,by simp,?_⟩
   rw [Nat.sub_self];exact c
  ·simp only [hk,if_false]
   have ih:=m5.del (k:=k) (j+1) c
   cases hf:findIn k (m.map (·.1)) es (j+1) with
   | none=>rw [hf] at ih;exact ⟨a,b,ih⟩
   | some p=>
    obtain ⟨i,u⟩:=p
    rw [hf] at ih
    obtain ⟨h1,h2,h3⟩:=ih
    have e1:i - j=(i - (j+1))+1:=by omega
    refine ⟨by omega,by simp;omega,?_⟩
    rw [e1,List.eraseIdx_cons_succ];exact ⟨a,b,h3⟩
 | [],_::_,_,x=>x.elim
 | _::_,[],_,x=>x.elim
section del
variable {P:Program} {b:Frame} {n:Nat} {ops:Array Oper} {F:List Frame→(Machine→Prop)→Prop} {e:Env} {ds:List Deferred} {X:Cx} {h:HF} {L:LH} {K:Env→HF→LH→Prop}
variable {d:Option Nat} {ty:TypeId} {pos:String} {af:Array Edge} {g:Option (Nat×Bool)} {κ α : Type} {enc:κ→Value} {V:HF→Value→α→Prop} [DecidableEq κ]
theorem Hl (i:Nat) {t T E kt:TypeId} {mo ko:Operand} {bk:Nat} {o:Obj} {m:List (κ×α)} {k:κ} (hT:P.underlying t=some (.map T E)) (hK:tA P T enc) (hL:nth L i=some (bk,o)) (hm:gC enc V h o m)
  (hmo:e.ev mo=.map (some bk)) (hko:e.ev ko=enc k)
  (t':∀ o',gC enc V h o' (mdel m k)→K (pute e d (.tuple #[])) h (setNth L i (bk,o')))
  (hg:guardB ops e ⟨d,.call ⟨.builtin .delete,#[mo,ko],#[t,kt]⟩,ty,pos,af,g⟩=true:=by rfl):Stp P b n ops F ds X ⟨d,.call ⟨.builtin .delete,#[mo,ko],#[t,kt]⟩,ty,pos,af,g⟩ e h L K:=
 gZ hg fun w hw=>by
  obtain ⟨m',hp,hn,es,c,rfl,hE,hB,hC⟩:=hm
  have hb:w.heap[bk]? = some (.map es.toArray c):=by
   have h2:=hL
   rw [gE] at h2
   exact hw.own _ (List.mem_of_getElem? h2)
  have hf:=hK.find k (m'.map (·.1)) es w hE.keys
  have hd:=hE.del (k:=k) 0
  have hnd:((mdel m' k).map (·.1)).Nodup:=hn.sublist ((uV k m').map _)
  cases hr:findIn k (m'.map (·.1)) es 0 with
  | none=>
   rw [hr] at hf hd
   refine ⟨.tuple #[],{ w with heap:=w.heap.setIfInBounds bk (.map es.toArray c) },h,_,?_,hw.write hL _,t' (.map es.toArray c) ⟨_,AH k hp hn,hnd,es,c,rfl,hd,hB,hC⟩⟩
   simp [execOp,resolve,invoke,builtin,Builtin.delete_,hmo,hko,run_underlying hT,lj hb,hK.check,hf,o9 hb]
  | some p=>
   obtain ⟨j,u⟩:=p
   rw [hr] at hf hd
   obtain ⟨_,hlt,hd⟩:=hd
   rw [Nat.sub_zero] at hd hlt
   refine ⟨.tuple #[],{ w with heap:=w.heap.setIfInBounds bk (.map (es.eraseIdx j).toArray c) },h,_,?_,hw.write hL _,t' (.map (es.eraseIdx j).toArray c) ⟨_,AH k hp hn,hnd,es.eraseIdx j,c,rfl,hd,hB.sublist ((List.eraseIdx_sublist es j).map _),fun e he=>hC e ((List.eraseIdx_sublist es j).subset he)⟩⟩
   have he:es.toArray.eraseIdxIfInBounds j=(es.eraseIdx j).toArray:=by simp
   simp [execOp,resolve,invoke,builtin,Builtin.delete_,hmo,hko,run_underlying hT,lj hb,hK.check,hf,o9 hb,he]
end del
theorem vP {α : Type} [DecidableEq α]:∀ {a b:List α},a.Nodup→(∀ x∈a,x∈b)→a.length≤b.length
 | [],b,_,_=>Nat.zero_le _
 | x::a,b,hn,hs=>by
  rw [List.nodup_cons] at hn
  have hx:x∈b:=hs x (List.mem_cons_self ..)
  have ih:=vP (b:=b.erase x) hn.2 (fun y hy=>by
   have hne:y≠x:=fun e=>hn.1 (e ▸ hy)
   rw [List.mem_erase_of_ne hne];exact hs y (List.mem_cons_of_mem _ hy))
  rw [List.length_erase_of_mem hx] at ih
  have:=List.length_pos_of_mem hx
  simp only [List.length_cons]
  omega
section frz
variable {P:Program} {b:Frame} {n:Nat} {k:List Item} {F:List Frame→(Machine→Prop)→Prop} {e:Env} {ds:List Deferred} {X:Cx} {h:HF} {L:LH}
theorem Et {todo:List Item} (A G Q:LH) (hL:L=A++(G++Q)) (hM:X.M=[]) (t:∀ h2,h.le h2→(∀ p∈G,h2 p.1=some p.2)→TT P b n todo F e ds X h2 (A++Q)):TT P b n todo F e ds X h L:=by
 subst hL
 intro w hw
 obtain ⟨h1,h2,h3⟩:=hw.freezeMid hM
 exact t _ h2 h3 w h1
theorem IF {c:Code} {ι : Type} (sl:ι→List (Nat×Value)) (hh:ι→HF) (LL:ι→LH) (I:ι→Prop) (hk:∀ i,I i→∀ e',TT P b n k F (upds e' (sl i)) ds X (hh i) (LL i))
  (t':(∀ i e',I i→mQ e' (sl i)→TT P b n k F e' ds X (hh i) (LL i))→TT P b n (.code c::k) F e ds X h L):TT P b n (.code c::k) F e ds X h L:=
 t' fun i e' hI hr=>by have:=hk i hI e';rw [hr.upds] at this;exact this
end frz
end Go.Sg
namespace Go.Sg
def attR:Except Int Unit→Int
 | .ok _=>0
 | .error e=>e
def idxByte (s:ByteArray) (c:Int):Int:=match (List.range s.size).find? (fun i=>s[i]! == UInt8.ofNat c.toNat) with
 | some i=>(i:Nat)
 | none=>-1
def bsI (xs:List Int) (t:Int):Int:=((xs.countP (· < t):Nat):Int)
def slices_BinarySearch_int (x:List Int) (target:Int):Int×Bool:=(bsI x target,x.contains target)
def insI (x:Int):List Int→List Int
 | []=>[x]
 | y::l=>bif decide (x≤y) then x::y::l else y::insI x l
def sortI:List Int→List Int
 | []=>[]
 | x::l=>insI x (sortI l)
theorem vV (x:Int):∀ l,(insI x l).Perm (x::l)
 | []=>List.Perm.refl _
 | y::l=>by
  simp only [insI,Bool.cond_eq_ite]
  split
  ·exact List.Perm.refl _
  ·exact (List.Perm.cons y (vV x l)).trans (List.Perm.swap x y l)
theorem jX:∀ xs,(sortI xs).Perm xs
 | []=>List.Perm.refl _
 | x::l=>(vV x _).trans (List.Perm.cons x (jX l))
theorem iw (xs:List Int):(sortI xs).length=xs.length:=(jX xs).length_eq
theorem wD (x:Int):∀ l:List Int,l.Pairwise (·≤·)→(insI x l).Pairwise (·≤·)
 | [],_=>by simp [insI]
 | y::l,h=>by
  rw [List.pairwise_cons] at h
  simp only [insI,Bool.cond_eq_ite,decide_eq_true_eq]
  split
  ·next hxy=>
   rw [List.pairwise_cons]
   refine ⟨fun z hz=>?_,List.pairwise_cons.2 h⟩
   rcases List.mem_cons.1 hz with rfl | hz
   ·exact hxy
   ·exact Int.le_trans hxy (h.1 z hz)
  ·next hxy=>
   rw [List.pairwise_cons]
   refine ⟨fun z hz=>?_,wD x l h.2⟩
   rcases List.mem_cons.1 ((vV x l).mem_iff.1 hz) with rfl | hz
   ·omega
   ·exact h.1 z hz
theorem kD:∀ xs,(sortI xs).Pairwise (·≤·)
 | []=>List.Pairwise.nil
 | x::l=>wD x _ (kD l)
theorem oY:∀ {a b:List Int},a.Pairwise (·≤·)→b.Pairwise (·≤·)→a.Perm b→a=b
 | [],b,_,_,p=>(List.Perm.nil_eq p)
 | x::a,[],_,_,p=>absurd p.length_eq (by simp)
 | x::a,y::b,ha,hb,p=>by
  have hx:x=y:=by
   have h1:x∈y::b:=p.mem_iff.1 (List.mem_cons_self ..)
   have h2:y∈x::a:=p.mem_iff.2 (List.mem_cons_self ..)
   rw [List.pairwise_cons] at ha hb
   rcases List.mem_cons.1 h1 with e | h1
   ·exact e
   ·rcases List.mem_cons.1 h2 with e | h2
    ·exact e.symm
    ·have:=ha.1 y h2;have:=hb.1 x h1;omega
  subst hx
  rw [List.pairwise_cons] at ha hb
  rw [oY ha.2 hb.2 (List.Perm.cons_inv p)]
theorem Ck {xs ys:List Int} (p:xs.Perm ys):sortI xs=sortI ys:=
 oY (kD _) (kD _) ((jX xs).trans (p.trans (jX ys).symm))
def insS (x:OSeat):List OSeat→List OSeat
 | []=>[x]
 | y::l=>bif decide (x.person≤y.person) then x::y::l else y::insS x l
def seatS:List OSeat→List OSeat
 | []=>[]
 | x::l=>insS x (seatS l)
theorem vU (x:OSeat):∀ l,(insS x l).Perm (x::l)
 | []=>List.Perm.refl _
 | y::l=>by
  simp only [insS,Bool.cond_eq_ite]
  split
  ·exact List.Perm.refl _
  ·exact (List.Perm.cons y (vU x l)).trans (List.Perm.swap x y l)
theorem qz:∀ xs,(seatS xs).Perm xs
 | []=>List.Perm.refl _
 | x::l=>(vU x _).trans (List.Perm.cons x (qz l))
theorem wC (x:OSeat):∀ l:List OSeat,l.Pairwise (fun a b=>a.person≤b.person)→(insS x l).Pairwise (fun a b=>a.person≤b.person)
 | [],_=>by simp [insS]
 | y::l,h=>by
  rw [List.pairwise_cons] at h
  simp only [insS,Bool.cond_eq_ite,decide_eq_true_eq]
  split
  ·next hxy=>
   rw [List.pairwise_cons]
   refine ⟨fun z hz=>?_,List.pairwise_cons.2 h⟩
   rcases List.mem_cons.1 hz with rfl | hz
   ·exact hxy
   ·exact Int.le_trans hxy (h.1 z hz)
  ·next hxy=>
   rw [List.pairwise_cons]
   refine ⟨fun z hz=>?_,wC x l h.2⟩
   rcases List.mem_cons.1 ((vU x l).mem_iff.1 hz) with rfl | hz
   ·omega
   ·exact h.1 z hz
theorem uL:∀ xs,(seatS xs).Pairwise (fun a b=>a.person≤b.person)
 | []=>List.Pairwise.nil
 | x::l=>wC x _ (uL l)
theorem Bv (xs:List Int):(xs.mergeSort fun x y=>decide (x≤y))=sortI xs:=by
 have h:=List.pairwise_mergeSort (le:=fun x y:Int=>decide (x≤y)) (fun a b c h1 h2=>by simp at *;omega) (fun a b=>by simp;omega) xs
 exact oY (h.imp (fun h=>by simpa using h)) (kD _) ((List.mergeSort_perm _ _).trans (jX xs).symm)
end Go.Sg
namespace Go.Sg
def cg (dL:Int) (low:Int) (high:Int):Bool:=(decide (low≤dL)&&decide (dL≤high))
def dE (dL:Int):Bool:=(cg dL 0 31)
def bB (dL:Int):Bool:=(cg dL 0 1099511627775)
def eZ (dL:Int):Bool:=(cg dL 0 63)
def iq (x:Appoint):Bool:=(bif x.Gone then ((((((cg x.No 0 1048576)&&(bB x.At))&&(bB x.Known))&&(dE x.Office))&&(eZ x.Person))&&(cg x.Weight 0 0)) else ((((((cg x.No 0 1048576)&&(bB x.At))&&(bB x.Known))&&(dE x.Office))&&(eZ x.Person))&&(cg x.Weight 1 64)))
def cx.K1  (fW:Int):Int:=0
def cx.L1  (k:Int→Int):List Appoint→Int→Int
 | [],fW=>(k fW)
 | y1::rz1,fW=>(bif ((!(iq y1))||decide (y1.No≤fW)) then 150 else (cx.L1  k rz1 y1.No))
def cx (l:(List Appoint)):Int:=(bif (decide (4096 < ((l.length:Nat):Int))) then 2 else ((cx.L1 (cx.K1)) l (-1)))
def cS (dL:Int) (low:Int) (high:Int):Bool:=(decide (low≤dL)&&decide (dL≤high))
def ei (dL:Int):Bool:=(cS dL 0 1099511627775)
def eu (dL:Int):Bool:=(cS dL 0 63)
def jd (x:Deputy):Bool:=(bif ((((((((!(cS x.No 0 1048576))||(!(ei x.At)))||(!(ei x.Known)))||(!(eu x.From)))||(!(eu x.To)))||(x.From==x.To))||(!(cS x.Office 0 31)))||(!(cS x.Kind (-1) 15))) then false else (bif x.Gone then ((x.Until==0)&&(x.Most==0)) else ((decide (x.At < x.Until)&&decide (x.Until≤1099511627776))&&(cS x.Most 0 1099511627776))))
def dg.K1  (fW:Int):Int:=0
def dg.L1  (k:Int→Int):List Deputy→Int→Int
 | [],fW=>(k fW)
 | y1::rz1,fW=>(bif ((!(jd y1))||decide (y1.No≤fW)) then 160 else (dg.L1  k rz1 y1.No))
def dg (l:(List Deputy)):Int:=(bif (decide (4096 < ((l.length:Nat):Int))) then 2 else ((dg.L1 (dg.K1)) l (-1)))
def aF (dL:Int) (limit:Int):Bool:=(decide (0≤dL)&&decide (dL < limit))
def iK (x:Interest):Bool:=(bif x.Of then ((((((aF x.No 1048577)&&(aF x.At 1099511627776))&&(aF x.Known 1099511627776))&&(aF x.Party 1048577))&&(aF x.Person 1048577))&&(x.Person != x.Party)) else (((((aF x.No 1048577)&&(aF x.At 1099511627776))&&(aF x.Known 1099511627776))&&(aF x.Party 1048577))&&(aF x.Person 64)))
def cr.K1  (fW:Int):Int:=0
def cr.L1  (k:Int→Int):List Interest→Int→Int
 | [],fW=>(k fW)
 | y1::rz1,fW=>(bif ((!(iK y1))||decide (y1.No≤fW)) then 290 else (cr.L1  k rz1 y1.No))
def cr (l:(List Interest)):Int:=(bif (decide (4096 < ((l.length:Nat):Int))) then 2 else ((cr.L1 (cr.K1)) l (-1)))
def bN.K1  : Int:=(-1)
def bN.L1 (f:(Int→Bool)) (k:Int):List Int→Nat→Int
 | [],i1=>(k )
 | y1::rz1,i1=>(bif (f y1) then ((i1:Nat):Int) else (bN.L1 f k rz1 ((i1+1))))
def bN (s:(List Int)) (f:(Int→Bool)):Int:=((bN.L1 f (bN.K1)) s 0)
def cK (s:(List Int)) (f:(Int→Bool)):Bool:=decide (0≤(bN s f))
def gX (dL:Int) (v0:Int) (v1:Int):Bool:=(decide (dL < v0)||decide (v1 < dL))
def aC (least:Int) (most:Int) (l:(List Int)):Bool:=(!(cK l (fun eo=>gX eo least most)))
def jw (x:Budget):Bool:=(bif x.Gone then ((((((aC 0 1048576 ([x.No]))&&(aC 0 1099511627775 ([x.At,x.Known])))&&(aC (-1) 15 ([x.Kind])))&&(aC 1 1099511627776 ([x.Period])))&&(aC 0 0 ([x.Count])))&&(aC 0 0 ([x.Value]))) else ((((((aC 0 1048576 ([x.No]))&&(aC 0 1099511627775 ([x.At,x.Known])))&&(aC (-1) 15 ([x.Kind])))&&(aC 1 1099511627776 ([x.Period])))&&(aC 0 1048576 ([x.Count])))&&(aC 0 1099511627776 ([x.Value]))))
def dj.K1  (fW:Int):Int:=0
def dj.L1  (k:Int→Int):List Budget→Int→Int
 | [],fW=>(k fW)
 | y1::rz1,fW=>(bif ((!(jw y1))||decide (y1.No≤fW)) then 180 else (dj.L1  k rz1 y1.No))
def dj (l:(List Budget)):Int:=(bif (decide (4096 < ((l.length:Nat):Int))) then 2 else ((dj.L1 (dj.K1)) l (-1)))
def aT.L2  (k:(List fI)):List fI→(List fI)
 | []=>k
 | y2::rz2=>(y2::(aT.L2 k rz2 ))
def aT.L3  (k:(List fI)):List fI→(List fI)
 | []=>k
 | y3::rz3=>(y3::(aT.L3 k rz3 ))
def aT.K1  : (List fI):=[]
def aT.L1 (rec:Expr→Int→List fI) (depth:Int) (k:(List fI)):List Expr→(List fI)
 | []=>(k )
 | y1::rz1=>((aT.L3 ((aT.L1 rec depth k rz1 ))) (rec y1 (depth+1)))
def aT.F (rec:Expr→Int→List fI) (x:Expr) (depth:Int):(List fI):=((fI.mk (Expr.mk x.Kind x.N x.No x.Name x.L) depth)::((aT.L1 rec depth (aT.K1)) x.L ))
def aT.go:Nat→Expr→Int→List fI
 | 0=>fun _ _=>[]
 | m+1=>aT.F (aT.go m)
def bS (x:Expr) (depth:Int):List fI:=aT.go x.dep x depth
def ew (ok:Bool) (Jl:Int):(Except Int Unit):=(bif (!ok) then (Except.error Jl) else (Except.ok ()))
def ay.K1 (p:Policy) (yY:(List Expr)):(List Expr):=(yY++[p.Change])
def ay.L1  (k:(List Expr)→(List Expr)):List Rule→(List Expr)→(List Expr)
 | [],yY=>(k yY)
 | y1::rz1,yY=>(ay.L1  k rz1 (yY++[y1.Expr]))
def ay (p:Policy):(List Expr):=((ay.L1 (ay.K1 p)) p.Rules ([]))
def ck.L2  (k:Int→(Except Int Unit)):List fI→Int→(Except Int Unit)
 | [],xn=>k xn
 | y2::rz2,xn=>(exi (ew (decide ((IntKind.wrap .i64 (xn+1))≤256)&&decide (y2.depth≤16)) 2) (fun _=>(ck.L2 k rz2 (IntKind.wrap .i64 (xn+1)))))
def ck.L3  (k:Int→(Except Int Unit)):List fI→Int→(Except Int Unit)
 | [],xm=>k xm
 | y3::rz3,xm=>(exi (ew (decide ((IntKind.wrap .i64 (xm+1))≤256)&&decide (y3.depth≤16)) 2) (fun _=>(ck.L3 k rz3 (IntKind.wrap .i64 (xm+1)))))
def ck.K1  : (Except Int Unit):=(Except.ok ())
def ck.L1  (k:(Except Int Unit)):List Expr→(Except Int Unit)
 | []=>(k )
 | y1::rz1=>((ck.L3 (fun zg3_b3_0=>(ck.L1  k rz1 ))) (bS y1 1) 0)
def ck (p:Policy):(Except Int Unit):=(exi (ew ((decide (((p.Offices.length:Nat):Int)≤32)&&decide (((p.Kinds.length:Nat):Int)≤16))&&decide (((p.Rules.length:Nat):Int)≤16)) 2) (fun _=>((ck.L1 (ck.K1)) (ay p))))
def cX (x:Expr):Bool:=((x.Kind==1)||(x.Kind==2))
def fA (s:ByteArray) (c:Int):Int:=(idxByte s c)
def strings_IndexByte (s:ByteArray) (c:Int):Int:=(fA s c)
def gB (c:Int):Int:=(bif ((decide (97≤c)&&decide (c≤122))||(decide (65≤c)&&decide (c≤90))) then 2 else (bif (decide (48≤c)&&decide (c≤57)) then 3 else (bif (c==95) then 5 else (bif ((((c==32)||(c==9))||(c==10))||(c==13)) then 1 else (bif (decide (0≤(strings_IndexByte (⟨#[123,125,40,41,59,44,61,58,46,60,62,33,43,45,42,47]⟩:ByteArray) c))) then 4 else 0)))))
def cQ.K1  : Bool:=true
def cQ.L1 (s:ByteArray) (k:Bool):List Nat→Nat→Bool
 | [],i1=>(k )
 | y1::rz1,i1=>(bif ((((gB ((s.data.getD (((i1:Nat):Int):Int).toNat 0).toNat:Int)) != 2)&&((gB ((s.data.getD (((i1:Nat):Int):Int).toNat 0).toNat:Int)) != 3))&&((gB ((s.data.getD (((i1:Nat):Int):Int).toNat 0).toNat:Int)) != 5)) then false else (cQ.L1 s k rz1 ((i1+1))))
def cQ (s:ByteArray):Bool:=(bif (((s.toList==(⟨#[]⟩:ByteArray).toList)||decide (32 < ((s.size:Nat):Int)))||((gB ((s.data.getD (0:Int).toNat 0).toNat:Int)) != 2)) then false else ((cQ.L1 s (cQ.K1)) (List.range s.size) 0))
def dc (s:ByteArray):Bool:=(bif (s.toList==(⟨#[112,111,108,105,99,121]⟩:ByteArray).toList) then (bif (s.toList==(⟨#[112,111,108,105,99,121]⟩:ByteArray).toList) then false else (cQ s)) else (bif (s.toList==(⟨#[109,111,100,101]⟩:ByteArray).toList) then (bif (s.toList==(⟨#[109,111,100,101]⟩:ByteArray).toList) then false else (cQ s)) else (bif (s.toList==(⟨#[111,108,100]⟩:ByteArray).toList) then (bif (s.toList==(⟨#[111,108,100]⟩:ByteArray).toList) then false else (cQ s)) else (bif (s.toList==(⟨#[110,101,119]⟩:ByteArray).toList) then (bif (s.toList==(⟨#[110,101,119]⟩:ByteArray).toList) then false else (cQ s)) else (bif (s.toList==(⟨#[98,111,116,104]⟩:ByteArray).toList) then (bif (s.toList==(⟨#[98,111,116,104]⟩:ByteArray).toList) then false else (cQ s)) else (bif (s.toList==(⟨#[101,105,116,104,101,114]⟩:ByteArray).toList) then (bif (s.toList==(⟨#[101,105,116,104,101,114]⟩:ByteArray).toList) then false else (cQ s)) else (bif (s.toList==(⟨#[111,102,102,105,99,101]⟩:ByteArray).toList) then (bif (s.toList==(⟨#[111,102,102,105,99,101]⟩:ByteArray).toList) then false else (cQ s)) else (bif (s.toList==(⟨#[107,105,110,100]⟩:ByteArray).toList) then (bif (s.toList==(⟨#[107,105,110,100]⟩:ByteArray).toList) then false else (cQ s)) else (bif (s.toList==(⟨#[114,117,108,101]⟩:ByteArray).toList) then (bif (s.toList==(⟨#[114,117,108,101]⟩:ByteArray).toList) then false else (cQ s)) else (bif (s.toList==(⟨#[116,104,105,110,107]⟩:ByteArray).toList) then (bif (s.toList==(⟨#[116,104,105,110,107]⟩:ByteArray).toList) then false else (cQ s)) else (bif (s.toList==(⟨#[99,104,97,110,103,101]⟩:ByteArray).toList) then (bif (s.toList==(⟨#[99,104,97,110,103,101]⟩:ByteArray).toList) then false else (cQ s)) else (bif (s.toList==(⟨#[115,111,109,101]⟩:ByteArray).toList) then (bif (s.toList==(⟨#[115,111,109,101]⟩:ByteArray).toList) then false else (cQ s)) else (bif (s.toList==(⟨#[119,101,105,103,104,116]⟩:ByteArray).toList) then (bif (s.toList==(⟨#[119,101,105,103,104,116]⟩:ByteArray).toList) then false else (cQ s)) else (bif (s.toList==(⟨#[111,102]⟩:ByteArray).toList) then (bif (s.toList==(⟨#[111,102]⟩:ByteArray).toList) then false else (cQ s)) else (bif (s.toList==(⟨#[117,112,116,111]⟩:ByteArray).toList) then (bif (s.toList==(⟨#[117,112,116,111]⟩:ByteArray).toList) then false else (cQ s)) else (bif (s.toList==(⟨#[101,108,115,101]⟩:ByteArray).toList) then false else (cQ s)))))))))))))))))
def aK.K1  : Int:=(-1)
def aK.L1 (v:ByteArray) (k:Int):List ByteArray→Nat→Int
 | [],i1=>(k )
 | y1::rz1,i1=>(bif (v.toList==y1.toList) then ((i1:Nat):Int) else (aK.L1 v k rz1 ((i1+1))))
def aK (s:(List ByteArray)) (v:ByteArray):Int:=((aK.L1 v (aK.K1)) s 0)
def bu.K1  : Bool:=true
def bu.L1 (l:(List ByteArray)) (ok:(ByteArray→Bool)) (k:Bool):List ByteArray→Nat→Bool
 | [],i1=>(k )
 | y1::rz1,i1=>(bif ((!(ok y1))||((aK l y1) != ((i1:Nat):Int))) then false else (bu.L1 l ok k rz1 ((i1+1))))
def bu (l:(List ByteArray)) (ok:(ByteArray→Bool)):Bool:=((bu.L1 l ok (bu.K1)) l 0)
def du (s:(List ByteArray)) (v:ByteArray):Bool:=decide (0≤(aK s v))
def cm.L2 (p:Policy) (k:(Except Int Unit)):List fI→(Except Int Unit)
 | []=>k
 | y2::rz2=>(exi (ew ((!(cX y2.x))||(du p.Offices y2.x.Name)) 201) (fun _=>(cm.L2 p k rz2 )))
def cm.L3 (p:Policy) (k:(Except Int Unit)):List fI→(Except Int Unit)
 | []=>k
 | y3::rz3=>(exi (ew ((!(cX y3.x))||(du p.Offices y3.x.Name)) 201) (fun _=>(cm.L3 p k rz3 )))
def cm.K1  : (Except Int Unit):=(Except.ok ())
def cm.L1 (p:Policy) (k:(Except Int Unit)):List Expr→(Except Int Unit)
 | []=>(k )
 | y1::rz1=>((cm.L3 p ((cm.L1 p k rz1 ))) (bS y1 1))
def cm (p:Policy):(Except Int Unit):=(exi (ew (((dc p.Name)&&(bu p.Offices dc))&&(bu p.Kinds dc)) 201) (fun _=>((cm.L1 p (cm.K1)) (ay p))))
def aL (dL:Int) (low:Int) (high:Int):Bool:=(decide (low≤dL)&&decide (dL≤high))
def lw (x0:Expr):Bool:=false
def jE (x:Expr):Bool:=((x.N==0)&&(((x.L.length:Nat):Int)==0))
def jD (x:Expr):Bool:=((aL x.N 1 4096)&&(((x.L.length:Nat):Int)==0))
def jC (x:Expr):Bool:=(((x.Name.toList==(⟨#[]⟩:ByteArray).toList)&&(aL ((x.L.length:Nat):Int) 1 16))&&(aL x.N 1 ((x.L.length:Nat):Int)))
def iV (x:Expr):Bool:=(((x.Name.toList==(⟨#[]⟩:ByteArray).toList)&&(((x.L.length:Nat):Int)==2))&&(aL x.N 0 1099511627776))
def kindsP (i:Int) (x:Expr):Bool:=if i=0 then lw x else if i=1 then jE x else if i=2 then jD x else if i=3 then jC x else iV x
def br.L3 (p:Policy) (k:(Except Int Unit)):List fI→(Except Int Unit)
 | []=>k
 | y3::rz3=>(exi (ew ((aL y3.x.Kind 1 4)&&(kindsP y3.x.Kind y3.x)) 200) (fun _=>(exi (ew (decide (0 < (IntKind.wrap .i64 ((((ay p).length:Nat):Int) - 1)))||(y3.x.Kind != 4)) 200) (fun _=>(br.L3 p k rz3 )))))
def br.L4 (p:Policy) (i2:Nat) (k:(Except Int Unit)):List fI→(Except Int Unit)
 | []=>k
 | y4::rz4=>(exi (ew ((aL y4.x.Kind 1 4)&&(kindsP y4.x.Kind y4.x)) 200) (fun _=>(exi (ew (decide (((i2:Nat):Int) < (IntKind.wrap .i64 ((((ay p).length:Nat):Int) - 1)))||(y4.x.Kind != 4)) 200) (fun _=>(br.L4 p i2 k rz4 )))))
def br.K2  : (Except Int Unit):=(Except.ok ())
def br.L2 (p:Policy) (k:(Except Int Unit)):List Expr→Nat→(Except Int Unit)
 | [],i2=>(k )
 | y2::rz2,i2=>((br.L4 p i2 ((br.L2 p k rz2 ((i2+1))))) (bS y2 1))
def br.K1 (p:Policy):(Except Int Unit):=((br.L2 p (br.K2)) (ay p) 0)
def br.L1 (p:Policy) (k:(Except Int Unit)):List Rule→Nat→(Except Int Unit)
 | [],i1=>(k )
 | y1::rz1,i1=>(exi (ew ((y1.Kind.toList==(nthI p.Kinds ((i1:Nat):Int)).toList)&&(aL y1.Think 0 1099511627775)) 200) (fun _=>(br.L1 p k rz1 ((i1+1)))))
def br (p:Policy):(Except Int Unit):=(exi (ew ((decide (0 < ((p.Kinds.length:Nat):Int))&&(((p.Rules.length:Nat):Int)==((p.Kinds.length:Nat):Int)))&&(aL p.Mode 1 4)) 200) (fun _=>((br.L1 p (br.K1 p)) p.Rules 0)))
def di (p:Policy):(Except Int Unit):=(exi (ck p) (fun _=>(exi (cm p) (fun _=>(exi (br p) (fun _=>(Except.ok ())))))))
def ad.K1 (offices:(List ByteArray)) (x:Expr) (jm:(List Expr)):Expr:=(Expr.mk x.Kind x.N (aK offices x.Name) x.Name jm)
def ad.L1 (rec:(List ByteArray)→Expr→Expr) (offices:(List ByteArray)) (k:(List Expr)→Expr):List Expr→(List Expr)→Expr
 | [],jm=>(k jm)
 | y1::rz1,jm=>(ad.L1 rec offices k rz1 (jm++[(rec offices y1)]))
def ad.K2 (x:Expr) (jk:(List Expr)):Expr:=(Expr.mk x.Kind x.N 0 x.Name jk)
def ad.L2 (rec:(List ByteArray)→Expr→Expr) (offices:(List ByteArray)) (k:(List Expr)→Expr):List Expr→(List Expr)→Expr
 | [],jk=>(k jk)
 | y2::rz2,jk=>(ad.L2 rec offices k rz2 (jk++[(rec offices y2)]))
def ad.F (rec:(List ByteArray)→Expr→Expr) (offices:(List ByteArray)) (x:Expr):Expr:=(bif (cX (Expr.mk x.Kind x.N 0 x.Name x.L)) then ((ad.L1 rec offices (ad.K1 offices x)) x.L ([])) else ((ad.L2 rec offices (ad.K2 x)) x.L ([])))
def ad.go:Nat→(List ByteArray)→Expr→Expr
 | 0=>fun _ _=>default
 | m+1=>ad.F (ad.go m)
def ad (offices:(List ByteArray)) (x:Expr):Expr:=ad.go x.dep offices x
def dp.K1 (p:Policy) (kI:(List Rule)):(Policy×Int):=((Policy.mk p.Name p.Kinds p.Offices kI (Expr.mk ((ad p.Offices p.Change).Kind) ((ad p.Offices p.Change).N) ((ad p.Offices p.Change).No) ((ad p.Offices p.Change).Name) ((ad p.Offices p.Change).L)) p.Mode),0)
def dp.L1 (p:Policy) (k:(List Rule)→(Policy×Int)):List Rule→Nat→(List Rule)→(Policy×Int)
 | [],i1,kI=>(k kI)
 | y1::rz1,i1,kI=>(dp.L1 p k rz1 ((i1+1)) (kI++[(Rule.mk y1.Kind ((i1:Nat):Int) y1.Think (Expr.mk ((ad p.Offices y1.Expr).Kind) ((ad p.Offices y1.Expr).N) ((ad p.Offices y1.Expr).No) ((ad p.Offices y1.Expr).Name) ((ad p.Offices y1.Expr).L)))]))
def dp (p:Policy):(Policy×Int):=(bif ((attR (di p)) != 0) then ((Policy.mk (⟨#[]⟩:ByteArray) ([]) ([]) ([]) (Expr.mk 0 0 0 (⟨#[]⟩:ByteArray) ([])) 0),(attR (di p))) else ((dp.L1 p (dp.K1 p)) p.Rules 0 ([])))
def bQ.K1  : Bool:=true
def bQ.L1 (offices:(List ByteArray)) (k:Bool):List fI→Bool
 | []=>k
 | y1::rz1=>(bif (cX y1.x) then (bif (y1.x.No != (aK offices y1.x.Name)) then false else (bQ.L1 offices k rz1 )) else (bif (y1.x.No != 0) then false else (bQ.L1 offices k rz1 )))
def bQ (offices:(List ByteArray)) (x:Expr):Bool:=((bQ.L1 offices (bQ.K1)) (bS x 1))
def cq.K1 (p:Policy):Int:=(bif (!(bQ p.Offices p.Change)) then 200 else 0)
def cq.L1 (p:Policy) (k:Int):List Rule→Nat→Int
 | [],i1=>(k )
 | y1::rz1,i1=>(bif ((y1.KindNo != ((i1:Nat):Int))||(!(bQ p.Offices y1.Expr))) then 200 else (cq.L1 p k rz1 ((i1+1))))
def cq (p:Policy):Int:=(bif ((dp p).2 != 0) then (dp p).2 else ((cq.L1 p (cq.K1 p)) p.Rules 0))
def bA.K1  (fW:Int):Int:=0
def bA.L1  (k:Int→Int):List Version→Int→Int
 | [],fW=>(k fW)
 | y1::rz1,fW=>(bif ((((!(aL y1.No (IntKind.wrap .i64 (fW+1)) 1048576))||(!(aL y1.At 0 1099511627775)))||(!(aL y1.Known 0 1099511627775)))||((cq y1.Policy) != 0)) then 200 else (bA.L1  k rz1 y1.No))
def bA (l:(List Version)):Int:=(bif (decide (256 < ((l.length:Nat):Int))) then 2 else ((bA.L1 (bA.K1)) l (-1)))
def bn.K1 (l:(List Document)) (dw:(List (Int×Int))):gz:=(gz.mk l dw)
def bn.L1  (k:(List (Int×Int))→gz):List Document→Nat→(List (Int×Int))→gz
 | [],i1,dw=>(k dw)
 | y1::rz1,i1,dw=>(bn.L1  k rz1 ((i1+1)) (mput dw y1.No ((i1:Nat):Int)))
def bn (l:(List Document)):gz:=((bn.L1 (bn.K1 l)) l 0 ([]))
def eV (t:Int):Bool:=(decide (0≤t)&&decide (t < 1099511627776))
def cv.K1 (l:(List Int)) (iO:Int):Bool:=decide (((l.length:Nat):Int)≤16)
def cv.L1 (limit:Int) (k:Int→Bool):List Int→Int→Bool
 | [],iO=>(k iO)
 | y1::rz1,iO=>(bif (decide (y1≤iO)||decide (limit≤y1)) then false else (cv.L1 limit k rz1 y1))
def cv (l:(List Int)) (limit:Int):Bool:=((cv.L1 limit (cv.K1 l)) l (-1))
def fL (d:Document):Bool:=((((((((((((decide (0≤d.No)&&decide (d.No < 4096))&&(eV d.At))&&decide (0≤d.Kind))&&decide (d.Kind < 16))&&decide (0≤d.Value))&&decide (d.Value≤1099511627776))&&decide (0≤d.From))&&decide (d.From < d.Until))&&decide (d.Until≤1099511627776))&&(cv d.Parties 1048577))&&(cv d.Revokes d.No))&&(cv d.Needs d.No))
def dO (no:Int) (v0:gz):Bool:=(!(mhas v0.at_ no))
def er (s:gz) (d:Document):Bool:=((!(cK d.Revokes (fun eo=>dO eo s)))&&(!(cK d.Needs (fun eo=>dO eo s))))
def bV.K1  : Int:=0
def bV.L1 (l:(List Document)) (k:Int):List Document→Nat→Int
 | [],i1=>(k )
 | y1::rz1,i1=>(bif (((!(fL y1))||(decide (0 < ((i1:Nat):Int))&&decide (y1.No≤(nthI l (((i1:Nat):Int) - 1)).No)))||(!(er (bn l) y1))) then 170 else (bV.L1 l k rz1 ((i1+1))))
def bV (l:(List Document)):Int:=(bif (decide (4096 < ((l.length:Nat):Int))) then 2 else ((bV.L1 l (bV.K1)) l 0))
def gM (dL:Int) (v0:Int):Bool:=(decide (dL < 0)||decide (v0 < dL))
def cj (most:Int) (l:(List Int)):Bool:=(!(cK l (fun eo=>gM eo most)))
def iM (x:Approval):Bool:=(((((cj 1048576 ([x.No]))&&(cj 1099511627775 ([x.At,x.Known])))&&(cj 4095 ([x.Doc])))&&(cj 63 ([x.By,x.For])))&&(cj 31 ([x.Office])))
def ct.K1  (fW:Int):Int:=0
def ct.L1  (k:Int→Int):List Approval→Int→Int
 | [],fW=>(k fW)
 | y1::rz1,fW=>(bif ((!(iM y1))||decide (y1.No≤fW)) then 280 else (ct.L1  k rz1 y1.No))
def ct (l:(List Approval)):Int:=(bif (decide (4096 < ((l.length:Nat):Int))) then 2 else ((ct.L1 (ct.K1)) l (-1)))
def eX.K1  : Int:=0
def eX.L1 (aR:Register) (k:Int):List Nat→Nat→Int
 | [],i1=>(k )
 | y1::rz1,i1=>(bif ((nthI ([(cx aR.Appoints),(dg aR.Deputies),(cr aR.Interests),(dj aR.Budgets),(bA aR.Versions),(bV aR.Docs),(ct aR.Approvals)]) ((i1:Nat):Int)) != 0) then 300 else (eX.L1 aR k rz1 ((i1+1))))
def eX (aR:Register):Int:=((eX.L1 aR (eX.K1)) (List.range 7) 0)
def iY (t:Int):Bool:=(decide (0≤t)&&decide (t < 1099511627776))
def aa.K1  : Int:=(-1)
def aa.L1 (f:(Document→Bool)) (k:Int):List Document→Nat→Int
 | [],i1=>(k )
 | y1::rz1,i1=>(bif (f y1) then ((i1:Nat):Int) else (aa.L1 f k rz1 ((i1+1))))
def aa (s:(List Document)) (f:(Document→Bool)):Int:=((aa.L1 f (aa.K1)) s 0)
def bY (d:Document) (v0:Int):Bool:=(d.No==v0)
def cU (aR:Register) (doc:Int) (known:Int):(aH×Bool):=(bif (decide ((aa aR.Docs (fun eo=>bY eo doc)) < 0)||(!(iY known))) then ((aH.mk (Register.mk ([]) ([]) ([]) ([]) ([]) ([]) ([])) (Document.mk 0 0 0 0 0 0 ([]) ([]) ([]) (fun _=>0)) 0),false) else ((aH.mk aR (nthI aR.Docs (aa aR.Docs (fun eo=>bY eo doc))) known),true))
def fG.K1  (fW:Int):Bool:=true
def fG.L1  (k:Int→Bool):List Int→Int→Bool
 | [],fW=>(k fW)
 | y1::rz1,fW=>(bif (decide (y1≤fW)||decide (64≤y1)) then false else (fG.L1  k rz1 y1))
def fG (who:(List Int)):Bool:=((fG.L1 (fG.K1)) who (-1))
def cmp_isNaN_int (x:Int):Bool:=(x != x)
def aS.K1  : (List Span):=[]
def aS.L1 (l:(List Int)) (k:(List Span)):List Int→Nat→(List Span)
 | [],i1=>(k )
 | y1::rz1,i1=>(bif (decide ((((i1+1):Nat):Int) < ((l.length:Nat):Int))) then (bif (decide (y1 < (min 1099511627776 (nthI l (((i1+1):Nat):Int))))) then ((Span.mk y1 (min 1099511627776 (nthI l (((i1+1):Nat):Int))))::(aS.L1 l k rz1 ((i1+1)))) else (aS.L1 l k rz1 ((i1+1)))) else (bif (decide (y1 < 1099511627776)) then ((Span.mk y1 1099511627776)::(aS.L1 l k rz1 ((i1+1)))) else (aS.L1 l k rz1 ((i1+1)))))
def aS (l:(List Int)):(List Span):=((aS.L1 l (aS.K1)) l 0)
def az.L4 (q:aH) (k:(List (Int×Bool))→(List Span)):List Rule→(List (Int×Bool))→(List Span)
 | [],qS=>(k qS)
 | y4::rz4,qS=>(az.L4 q k rz4 (mput qS (q.doc.At+y4.Think) true))
def az.L5 (q:aH) (k:(List (Int×Bool))→(List Span)):List Rule→(List (Int×Bool))→(List Span)
 | [],jj=>(k jj)
 | y5::rz5,jj=>(az.L5 q k rz5 (mput jj (q.doc.At+y5.Think) true))
def az.K3  (iP:(List (Int×Bool))):(List Span):=(aS (sortI (iP.map Prod.fst)))
def az.L3 (q:aH) (k:(List (Int×Bool))→(List Span)):List Version→(List (Int×Bool))→(List Span)
 | [],iP=>(k iP)
 | y3::rz3,iP=>((az.L5 q (fun zg5_b2_0=>(az.L3 q k rz3 zg5_b2_0))) y3.Policy.Rules (mput iP y3.At true))
def az.K2 (q:aH) (jU:(List (Int×Bool))):(List Span):=((az.L3 q (az.K3)) q.Register.Versions jU)
def az.L2  (k:(List (Int×Bool))→(List Span)):List Interest→(List (Int×Bool))→(List Span)
 | [],jU=>(k jU)
 | y2::rz2,jU=>(az.L2  k rz2 (mput jU y2.At true))
def az.K1 (q:aH) (dw:(List (Int×Bool))):(List Span):=((az.L2 (az.K2 q)) q.Register.Interests dw)
def az.L1  (k:(List (Int×Bool))→(List Span)):List Appoint→(List (Int×Bool))→(List Span)
 | [],dw=>(k dw)
 | y1::rz1,dw=>(az.L1  k rz1 (mput dw y1.At true))
def az (q:aH):(List Span):=((az.L1 (az.K1 q)) q.Register.Appoints (mput (mput (mput ([]) 0 true) q.doc.At true) q.doc.Until true))
def de.K1  (fW:Int):Bool:=true
def de.L1  (k:Int→Bool):List Int→Int→Bool
 | [],fW=>(k fW)
 | y1::rz1,fW=>(bif (decide (y1≤fW)||decide (64≤y1)) then false else (de.L1  k rz1 y1))
def de (who:(List Int)):Bool:=((de.L1 (de.K1)) who (-1))
def cM.L2  (k:(List Int)→Bool):List Holder→(List Int)→Bool
 | [],JO=>(k JO)
 | y2::rz2,JO=>(bif (decide (y2.Weight < 1)||decide (64 < y2.Weight)) then false else (cM.L2  k rz2 (JO++[y2.Person])))
def cM.L3  (k:(List Int)→Bool):List Holder→(List Int)→Bool
 | [],BD=>(k BD)
 | y3::rz3,BD=>(bif (decide (y3.Weight < 1)||decide (64 < y3.Weight)) then false else (cM.L3  k rz3 (BD++[y3.Person])))
def cM.K1 (holders:(List (List Holder))) (offices:Int):Bool:=(((holders.length:Nat):Int)==offices)
def cM.L1  (k:Bool):List (List Holder)→Bool
 | []=>(k )
 | y1::rz1=>((cM.L3 (fun zg3_7=>(bif (!(de zg3_7)) then false else (cM.L1  k rz1 )))) y1 ([]))
def cM (holders:(List (List Holder))) (offices:Int):Bool:=((cM.L1 (cM.K1 holders offices)) holders )
def bF.K1  : (List Holder):=[]
def bF.L1 (q:bg) (k:(List Holder)):List Holder→(List Holder)
 | []=>(k )
 | y1::rz1=>(bif ((slices_BinarySearch_int q.who y1.Person).2) then (y1::(bF.L1 q k rz1 )) else (bF.L1 q k rz1 ))
def bF (q:bg) (office:Int):(List Holder):=((bF.L1 q (bF.K1)) (nthI q.holders office))
def dF (q:bg) (office:Int):(List Holder):=(bF q office)
def dD.K1  (aQ:Bool):Bool:=false
def dD.L1  (k:Bool→Bool):List Holder→Bool→Bool
 | [],aQ=>k aQ
 | y1::rz1,aQ=>true
def dD (q:bg) (x:Expr):Bool:=((dD.L1 (dD.K1)) (dF q x.No) false)
def cL.K1 (x:Expr) (aQ:Int):Bool:=decide (x.N≤aQ)
def cL.L1  (k:Int→Bool):List Holder→Int→Bool
 | [],aQ=>k aQ
 | y1::rz1,aQ=>(cL.L1 k rz1 (IntKind.wrap .i64 (aQ+y1.Weight)))
def cL (q:bg) (x:Expr):Bool:=((cL.L1 (cL.K1 x)) (dF q x.No) 0)
def da.K1 (x:Expr) (iO:Int):Bool:=decide (x.N≤iO)
def da.L1 (rec:bg→Expr→Bool) (q:bg) (k:Int→Bool):List Expr→Int→Bool
 | [],iO=>(k iO)
 | y1::rz1,iO=>(bif (rec q y1) then (da.L1 rec q k rz1 (IntKind.wrap .i64 (iO+1))) else (da.L1 rec q k rz1 iO))
def da.F (rec:bg→Expr→Bool) (q:bg) (x:Expr):Bool:=((da.L1 rec q (da.K1 x)) x.L 0)
def hO.F (rec:bg→Expr→Bool) (q:bg) (x:Expr):Bool:=(bif (decide (q.value≤x.N)) then (rec q (nthI x.L 0)) else (rec q (nthI x.L 1)))
def fulQ (rec:bg→Expr→Bool) (q:bg) (x:Expr):Bool:=if x.Kind=1 then dD q x else if x.Kind=2 then cL q x else if x.Kind=3 then da.F rec q x else hO.F rec q x
def co.F (rec:bg→Expr→Bool) (q:bg) (x:Expr):Bool:=(fulQ rec q x)
def co.go:Nat→bg→Expr→Bool
 | 0=>fun _ _=>default
 | m+1=>co.F (co.go m)
def co (q:bg) (x:Expr):Bool:=co.go x.dep q x
def cf (p:Policy) (kind:Int) (value:Int) (holders:(List (List Holder))) (who:(List Int)):(Bool×Int):=(bif ((cq p) != 0) then (false,(cq p)) else (bif (((decide (kind < 0)||decide (((p.Kinds.length:Nat):Int)≤kind))||decide (value < 0))||decide (1099511627776 < value)) then (false,1) else (bif (!(cM holders ((p.Offices.length:Nat):Int))) then (false,210) else (bif (!(de who)) then (false,1) else ((co (bg.mk value holders who) ((nthI p.Rules kind).Expr)),0)))))
def iv (l:(List Version)) (old:Bool):(List Version):=l
def gS (l:(List Version)) (old:Bool):(List Version):=(bif (!old) then [] else (l.take ((1:Int)).toNat))
def iu (l:(List Version)) (old:Bool):(List Version):=(l.drop (((((l.length:Nat):Int) - 1):Int)).toNat)
def jM  : (List (Int×Value)):=(mput (mput (mput (mput ([]) 1 (Value.func (.func 143) #[] #[])) 2 (Value.func (.func 144) #[] #[])) 3 (Value.func (.func 142) #[] #[])) 4 (Value.func (.func 142) #[] #[]))
def judgesP (mode:Int) (l:List Version) (old:Bool):List Version:=bif mode==1 then gS l old else bif mode==2 then iu l old else iv l old
def fD (mode:Int) (permits:(List Bool)):Int:=(bif (!(mhas jM mode)) then 270 else (bif (decide (256 < ((permits.length:Nat):Int))) then 1 else 0))
def cV.K1  : Int:=(-1)
def cV.L1 (f:(Bool→Bool)) (k:Int):List Bool→Nat→Int
 | [],i1=>(k )
 | y1::rz1,i1=>(bif (f y1) then ((i1:Nat):Int) else (cV.L1 f k rz1 ((i1+1))))
def cV (s:(List Bool)) (f:(Bool→Bool)):Int:=((cV.L1 f (cV.K1)) s 0)
def bW (l:(List Bool)) (ok:(Bool→Bool)):Int:=(cV l ok)
def dG (ET:Bool):Bool:=ET
def eK (ET:Bool):Bool:=(!ET)
def aY.K1 (permits:(List Bool)) (ky:(List Int)):((List Int)×Bool×Int):=(ky,decide (0≤(bW permits dG)),0)
def aY.L1  (k:(List Int)→((List Int)×Bool×Int)):List Bool→Nat→(List Int)→((List Int)×Bool×Int)
 | [],i1,ky=>(k ky)
 | y1::rz1,i1,ky=>(aY.L1  k rz1 ((i1+1)) (ky++[((i1:Nat):Int)]))
def aY.K2 (permits:(List Bool)) (yS:(List Int)):((List Int)×Bool×Int):=(yS,((((permits.length:Nat):Int)==1)&&(nthI permits 0)),0)
def aY.L2  (k:(List Int)→((List Int)×Bool×Int)):List Bool→Nat→(List Int)→((List Int)×Bool×Int)
 | [],i2,yS=>(k yS)
 | y2::rz2,i2,yS=>(aY.L2  k rz2 ((i2+1)) (yS++[((i2:Nat):Int)]))
def aY.K3  (yK:(List Int)):((List Int)×Bool×Int):=(yK,false,0)
def aY.L3  (k:(List Int)→((List Int)×Bool×Int)):List Bool→Nat→(List Int)→((List Int)×Bool×Int)
 | [],i3,yK=>(k yK)
 | y3::rz3,i3,yK=>(aY.L3  k rz3 ((i3+1)) (yK++[((i3:Nat):Int)]))
def aY (mode:Int) (permits:(List Bool)):((List Int)×Bool×Int):=(bif ((fD mode permits) != 0) then ([],false,(fD mode permits)) else (bif ((mode==4)&&decide (0≤(bW permits dG))) then ([(bW permits dG)],true,0) else (bif ((mode==3)&&decide (0≤(bW permits eK))) then ([(bW permits eK)],false,0) else (bif (mode==3) then ((aY.L1 (aY.K1 permits)) permits 0 ([])) else (bif (mode != 4) then ((aY.L2 (aY.K2 permits)) permits 0 ([])) else ((aY.L3 (aY.K3)) permits 0 ([])))))))
def fc (mode:Int) (permits:(List Bool)):(Bool×Int):=((aY mode permits).2.1,(aY mode permits).2.2)
def cn.K1 (person:Int) (parties:(List Int)) (aZ:Int) (known:Int) (wI:Int):Int:=(bif ((((!(aF person 64))||decide (16 < ((parties.length:Nat):Int)))||(!(aF aZ 1099511627776)))||(!(aF known 1099511627776))) then 1 else 0)
def cn.L1  (k:Int→Int):List Int→Int→Int
 | [],wI=>(k wI)
 | y1::rz1,wI=>(bif (decide (y1≤wI)||decide (1048576 < y1)) then 1 else (cn.L1  k rz1 y1))
def cn (l:(List Interest)) (person:Int) (parties:(List Int)) (aZ:Int) (known:Int):Int:=(bif ((cr l) != 0) then (cr l) else ((cn.L1 (cn.K1 person parties aZ known)) parties (-1)))
def bE.K1  : (List Interest):=[]
def bE.L1 (v1:(List (dz×Interest))) (k:(List Interest)):List Interest→(List Interest)
 | []=>(k )
 | y1::rz1=>(bif ((!y1.Gone)&&(decide ((mgetD v1 (dz.mk y1.Person y1.Party y1.Of) (Interest.mk 0 0 0 0 0 false false))=y1))) then (y1::(bE.L1 v1 k rz1 )) else (bE.L1 v1 k rz1 ))
def bE (v0:(List Interest)) (v1:(List (dz×Interest))):(List Interest):=((bE.L1 v1 (bE.K1)) v0 )
def bP.K1 (l:(List Interest)) (dw:(List (dz×Interest))):(List Interest):=(bE l dw)
def bP.L1 (fM:Int) (known:Int) (k:(List (dz×Interest))→(List Interest)):List Interest→(List (dz×Interest))→(List Interest)
 | [],dw=>(k dw)
 | y1::rz1,dw=>(bif (decide (fM < y1.At)||decide (known < y1.Known)) then (bP.L1 fM known k rz1 dw) else (bif ((!(mhas dw (dz.mk y1.Person y1.Party y1.Of)))||decide ((mgetD dw (dz.mk y1.Person y1.Party y1.Of) (Interest.mk 0 0 0 0 0 false false)).At≤y1.At)) then (bP.L1 fM known k rz1 (mput dw (dz.mk y1.Person y1.Party y1.Of) y1)) else (bP.L1 fM known k rz1 dw)))
def bP (l:(List Interest)) (fM:Int) (known:Int):(List Interest):=((bP.L1 fM known (bP.K1 l)) l ([]))
def conPut (w:fY) (m:List (Int×Bool)) (q:List fY):List (Int×Bool)×List fY:=bif mgetD m w.to false then (m,q) else (mput m w.to true,q++[w])
def conFill (person:Int):List Interest→List (Int×List Interest)→List (Int×Bool)→List fY→List (Int×List Interest)×List (Int×Bool)×List fY
 | [],f,m,q=>(f,m,q)
 | x::l,f,m,q=>bif x.Of then conFill person l (mput f x.Person (mgetD f x.Person []++[x])) m q
  else bif x.Person==person then conFill person l f (conPut ⟨[x.No],x.Party⟩ m q).1 (conPut ⟨[x.No],x.Party⟩ m q).2 else conFill person l f m q
def conStep (path:List Int):List Interest→List (Int×Bool)→List fY→List (Int×Bool)×List fY
 | [],m,q=>(m,q)
 | x::l,m,q=>conStep path l (conPut ⟨path++[x.No],x.Party⟩ m q).1 (conPut ⟨path++[x.No],x.Party⟩ m q).2
def conLoop (parties:List Int) (f:List (Int×List Interest)):Nat→List (Int×Bool)→List fY→List Int×Bool
 | 0,_,_=>([],false)
 | _+1,_,[]=>([],false)
 | n+1,m,w::q=>bif parties.contains w.to then (w.path,true) else bif ((w.path.length:Nat):Int)==8 then conLoop parties f n m q
  else conLoop parties f n (conStep w.path (mgetD f w.to []) m q).1 (conStep w.path (mgetD f w.to []) m q).2
def conFind (l:List Interest) (person:Int) (parties:List Int) (st:List Interest):List Int×Bool:=
 conLoop parties (conFill person st [] [] []).1 (l.length+1) (conFill person st [] [] []).2.1 (conFill person st [] [] []).2.2
def ef (l:List Interest) (person:Int) (parties:List Int) (aZ:Int) (known:Int):List Int×Bool×Int:=
 bif cn l person parties aZ known != 0 then ([],false,cn l person parties aZ known)
 else ((conFind l person parties (bP l aZ known)).1,(conFind l person parties (bP l aZ known)).2,0)
def qo (h:HF):List Value→List fY→Prop
 | [],[]=>True
 | v::vs,w::ws=>(∃ r,v=.agg (fY.cells w r).toArray∧fY.ok h w r)∧qo h vs ws
 | _,_=>False
def V3 (_:HF) (v:Value) (x:Option Addr×Nat×Nat):Prop:=v=.slice x.1 x.2.1 x.2.2
def FR (h:HF):List (Int×Option Addr×Nat×Nat)→List (Int×List Interest)→LH→Prop
 | [],[],G=>G=[]
 | (k,x)::m,(k',xs)::f,G=>k=k'∧x.2.1=xs.length∧∃ G1 G2,G=G1++G2∧eb Interest.rp 61 h xs x.1 x.2.2 G1∧FR h m f G2
 | _,_,_=>False
def qr (st:List Interest) (m:List (Int×Bool)) (q:List fY):Prop:=(∀ p∈m,p.2=true∧p.1∈st.map (·.Party))∧q.length≤m.length∧∀ w∈q,w.path.length≤8
def FV (st:List Interest) (f:List (Int×List Interest)):Prop:=∀ k,∀ x∈mgetD f k [],x∈st
def bq (dL:Int) (q:aH) (at_:Int):Bool:=(((ef q.Register.Interests dL q.doc.Parties at_ q.known).2.2 != 0)||(ef q.Register.Interests dL q.doc.Parties at_ q.known).2.1)
def bp (s:List Int) (del:Int→Bool):List Int:=s.filter fun x=>!(del x)
def ep (dL:Int):Bool:=(decide (0≤dL)&&decide (dL < 1099511627776))
def bo.K2  : (List (Int×Version)):=[]
def bo.L2 (cY:(List (Int×Version))) (k:(List (Int×Version))):List Int→(List (Int×Version))
 | []=>(k )
 | y2::rz2=>((y2,(mgetD cY y2 (Version.mk 0 0 0 (Policy.mk (⟨#[]⟩:ByteArray) [] [] [] (Expr.mk 0 0 0 (⟨#[]⟩:ByteArray) []) 0))))::(bo.L2 cY k rz2 ))
def bo.K1  (nH:Int) (cY:(List (Int×Version))):(List (Int×Version)):=((bo.L2 cY (bo.K2)) (sortI (cY.map Prod.fst)))
def bo.L1 (known:Int) (e9:Int) (k:Int→(List (Int×Version))→(List (Int×Version))):List Version→Int→(List (Int×Version))→(List (Int×Version))
 | [],nH,cY=>(k nH cY)
 | y1::rz1,nH,cY=>(bif (decide (known < y1.Known)) then (bo.L1 known e9 k rz1 nH cY) else (bif (decide (y1.At≤e9)) then (bif (decide (y1.At < nH)) then (bo.L1 known e9 k rz1 nH cY) else (bo.L1 known e9 k rz1 y1.At (mput cY e9 y1))) else (bo.L1 known e9 k rz1 nH (mput cY y1.At y1))))
def bo (l:(List Version)) (known:Int) (e9:Int):(List (Int×Version)):=((bo.L1 known e9 (bo.K1)) l (-1) ([]))
def gf (l:(List Version)) (qV:Int) (known:Int):(List (Int×Version)):=(bo l known qV)
def bx.K2 (aQ:(List Version)) (xd:(List Int)):((List Int)×Int×Int):=((sortI xd),(nthI aQ (((aQ.length:Nat):Int) - 1)).Policy.Mode,0)
def bx.L2  (k:(List Int)→((List Int)×Int×Int)):List Version→(List Int)→((List Int)×Int×Int)
 | [],xd=>(k xd)
 | y2::rz2,xd=>(bx.L2  k rz2 (xd++[y2.No]))
def bx.K1  (fC:Bool) (aQ:(List Version)):((List Int)×Int×Int):=(bif (((aQ.length:Nat):Int)==0) then ([],0,0) else ((bx.L2 (bx.K2 aQ)) (judgesP ((nthI aQ (((aQ.length:Nat):Int) - 1)).Policy.Mode) aQ fC) ([])))
def bx.L1 (begun:Int) (aW:Int) (k:Bool→(List Version)→((List Int)×Int×Int)):List (Int×Version)→Bool→(List Version)→((List Int)×Int×Int)
 | [],fC,aQ=>k fC aQ
 | y1::rz1,fC,aQ=>(bif (decide (aW < y1.1)) then (k fC aQ) else (bx.L1 begun aW k rz1 (fC||(y1.1==begun)) (aQ++[y1.2])))
def bx (l:(List Version)) (begun:Int) (aW:Int) (known:Int):((List Int)×Int×Int):=(bif ((bA l) != 0) then ([],0,(bA l)) else (bif ((((!(ep begun))||(!(ep aW)))||(!(ep known)))||decide (aW < begun)) then ([],0,1) else ((bx.L1 begun aW (bx.K1)) (gf l begun known) false ([]))))
def eP.K1  : Int:=(-1)
def eP.L1 (v:Int) (k:Int):List Int→Nat→Int
 | [],i1=>(k )
 | y1::rz1,i1=>(bif (v==y1) then ((i1:Nat):Int) else (eP.L1 v k rz1 ((i1+1))))
def eP (s:(List Int)) (v:Int):Int:=((eP.L1 v (eP.K1)) s 0)
def gR (s:(List Int)) (v:Int):Bool:=decide (0≤(eP s v))
def ao.K1 (q:aH) (fM:Int) (ky:(List Policy)):((List Policy)×Int):=(ky,(bx q.Register.Versions q.doc.At fM q.known).2.1)
def ao.L1 (q:aH) (fM:Int) (k:(List Policy)→((List Policy)×Int)):List Version→(List Policy)→((List Policy)×Int)
 | [],ky=>(k ky)
 | y1::rz1,ky=>(bif (gR ((bx q.Register.Versions q.doc.At fM q.known).1) y1.No) then (ao.L1 q fM k rz1 (ky++[y1.Policy])) else (ao.L1 q fM k rz1 ky))
def ao (q:aH) (fM:Int):((List Policy)×Int):=(bif ((bx q.Register.Versions q.doc.At fM q.known).2.2 != 0) then ([],0) else ((ao.L1 q fM (ao.K1 q fM)) q.Register.Versions ([])))
def cd.K1  (cY:(List Holder)):(List Holder):=cY
def cd.L1  (k:(List Holder)→(List Holder)):List Holder→(List Holder)→(List Holder)
 | [],cY=>k cY
 | y1::rz1,cY=>(cd.L1 k rz1 (cY++[y1]))
def cd (seq:(List Holder)):(List Holder):=((cd.L1 (cd.K1)) seq ([]))
def fa (seq:(List Holder)):(List Holder):=(cd seq)
def cmp_Compare_int (x:Int) (y:Int):Int:=(bif (cmp_isNaN_int x) then (bif (cmp_isNaN_int y) then 0 else (-1)) else (bif (cmp_isNaN_int y) then 1 else (bif (decide (x < y)) then (-1) else (bif (decide (y < x)) then 1 else 0))))
def bH.K1  : (List Holder):=[]
def bH.L1 (m:(List (OSeat×Appoint))) (office:Int) (k:(List Holder)):List OSeat→(List Holder)
 | []=>(k )
 | y1::rz1=>(bif ((y1.office==office)&&(!((mgetD m y1 (Appoint.mk 0 0 0 0 0 0 false)).Gone))) then ((Holder.mk ((mgetD m y1 (Appoint.mk 0 0 0 0 0 0 false)).Person) ((mgetD m y1 (Appoint.mk 0 0 0 0 0 0 false)).Weight))::(bH.L1 m office k rz1 )) else (bH.L1 m office k rz1 ))
def bH (m:(List (OSeat×Appoint))) (office:Int):(List Holder):=((bH.L1 m office (bH.K1)) (seatS (m.map Prod.fst)))
def gA (m:(List (OSeat×Appoint))) (office:Int):(List Holder):=(bH m office)
def eN (x:Appoint) (v0:Int) (v1:Int):(OSeat×Bool):=((OSeat.mk x.Office x.Person),(decide (x.At≤v0)&&decide (x.Known≤v1)))
def bO.K1  (cY:(List (OSeat×Appoint))):(List (OSeat×Appoint)):=cY
def bO.L1 (key:(Appoint→OSeat×Bool)) (later:(Appoint→Appoint→Bool)) (k:(List (OSeat×Appoint))→(List (OSeat×Appoint))):List Appoint→(List (OSeat×Appoint))→(List (OSeat×Appoint))
 | [],cY=>(k cY)
 | y1::rz1,cY=>(bif ((key y1).2&&((!(mhas cY ((key y1).1)))||(!(later (mgetD cY ((key y1).1) (Appoint.mk 0 0 0 0 0 0 false)) y1)))) then (bO.L1 key later k rz1 (mput cY ((key y1).1) y1)) else (bO.L1 key later k rz1 cY))
def bO (l:(List Appoint)) (key:(Appoint→OSeat×Bool)) (later:(Appoint→Appoint→Bool)):(List (OSeat×Appoint)):=((bO.L1 key later (bO.K1)) l ([]))
def ic (a:Appoint) (fP:Appoint):Bool:=decide (fP.At < a.At)
def eQ (l:(List Appoint)) (fM:Int) (known:Int):(List (OSeat×Appoint)):=(bO l (fun eo=>eN eo fM known) ic)
def dB (l:(List Appoint)) (office:Int) (aW:Int) (known:Int):((List Holder)×Int):=(bif ((cx l) != 0) then ([],(cx l)) else (bif (((!(dE office))||(!(bB aW)))||(!(bB known))) then ([],1) else ((fa (gA (eQ l aW known) office)),0)))
def aw.K1  (nH:(List (List Holder))):(List (List Holder)):=nH
def aw.L1 (q:aH) (aW:Int) (k:(List (List Holder))→(List (List Holder))):List ByteArray→Nat→(List (List Holder))→(List (List Holder))
 | [],i1,nH=>(k nH)
 | y1::rz1,i1,nH=>(aw.L1 q aW k rz1 ((i1+1)) (nH++[(dB q.Register.Appoints ((i1:Nat):Int) aW q.known).1]))
def aw (q:aH) (p:Policy) (aW:Int):(List (List Holder)):=((aw.L1 q aW (aw.K1)) p.Offices 0 ([]))
def aX.K1 (q:aH) (aW:Int) (kJ:(List Bool)):Bool:=((fc ((ao q aW).2) kJ).1&&((fc ((ao q aW).2) kJ).2==0))
def aX.L1 (q:aH) (who:(List Int)) (aW:Int) (k:(List Bool)→Bool):List Policy→(List Bool)→Bool
 | [],kJ=>(k kJ)
 | y1::rz1,kJ=>(bif (decide (q.doc.Kind < ((y1.Rules.length:Nat):Int))&&decide ((q.doc.At+(nthI y1.Rules q.doc.Kind).Think)≤aW)) then (aX.L1 q who aW k rz1 (kJ++[((cf y1 q.doc.Kind q.doc.Value (aw q y1 aW) (bp who (fun eo=>bq eo q aW))).1&&((cf y1 q.doc.Kind q.doc.Value (aw q y1 aW) (bp who (fun eo=>bq eo q aW))).2==0))])) else (aX.L1 q who aW k rz1 (kJ++[(decide (q.doc.Kind < ((y1.Rules.length:Nat):Int))&&decide ((q.doc.At+(nthI y1.Rules q.doc.Kind).Think)≤aW))])))
def aX (q:aH) (who:(List Int)) (aW:Int):Bool:=(bif (decide (aW < q.doc.At)||decide (q.doc.Until≤aW)) then false else ((aX.L1 q who aW (aX.K1 q aW)) ((ao q aW).1) ([])))
def bd.K1  (aQ:(List Span)):((List Span)×Int):=(aQ,0)
def bd.L1 (aR:Register) (doc:Int) (who:(List Int)) (known:Int) (k:(List Span)→((List Span)×Int)):List Span→(List Span)→((List Span)×Int)
 | [],aQ=>k aQ
 | y1::rz1,aQ=>(bif (!(aX ((cU aR doc known).1) who y1.From)) then (bd.L1 aR doc who known k rz1 aQ) else (bif (decide (0 < ((aQ.length:Nat):Int))&&((nthI aQ (((aQ.length:Nat):Int) - 1)).Until==y1.From)) then (bd.L1 aR doc who known k rz1 (aQ.set ((((aQ.length:Nat):Int) - 1):Int).toNat (Span.mk (nthI aQ (((aQ.length:Nat):Int) - 1)).From y1.Until))) else (bd.L1 aR doc who known k rz1 (aQ++[y1]))))
def bd (aR:Register) (doc:Int) (who:(List Int)) (known:Int):((List Span)×Int):=(bif ((eX aR) != 0) then ([],300) else (bif ((!((cU aR doc known).2))||(!(fG who))) then ([],1) else ((bd.L1 aR doc who known (bd.K1)) (az ((cU aR doc known).1)) ([]))))
def av.L3  (k:(List (Int×Bool))→(List Int)):List Holder→(List (Int×Bool))→(List Int)
 | [],iP=>(k iP)
 | y3::rz3,iP=>(av.L3  k rz3 (mput iP y3.Person true))
def av.L4  (k:(List (Int×Bool))→(List Int)):List Holder→(List (Int×Bool))→(List Int)
 | [],qS=>(k qS)
 | y4::rz4,qS=>(av.L4  k rz4 (mput qS y4.Person true))
def av.L2  (k:(List (Int×Bool))→(List Int)):List (List Holder)→(List (Int×Bool))→(List Int)
 | [],jU=>(k jU)
 | y2::rz2,jU=>((av.L4 (fun zg4_b2_0=>(av.L2  k rz2 zg4_b2_0))) y2 jU)
def av.L7  (k:(List (Int×Bool))→(List Int)):List Holder→(List (Int×Bool))→(List Int)
 | [],nV=>(k nV)
 | y7::rz7,nV=>(av.L7  k rz7 (mput nV y7.Person true))
def av.L5  (k:(List (Int×Bool))→(List Int)):List (List Holder)→(List (Int×Bool))→(List Int)
 | [],jj=>(k jj)
 | y5::rz5,jj=>((av.L7 (fun zg7_b2_0=>(av.L5  k rz5 zg7_b2_0))) y5 jj)
def av.K1 (person:Int) (dw:(List (Int×Bool))):(List Int):=(sortI ((mdel dw person).map Prod.fst))
def av.L1 (q:aH) (aW:Int) (k:(List (Int×Bool))→(List Int)):List Policy→(List (Int×Bool))→(List Int)
 | [],dw=>(k dw)
 | y1::rz1,dw=>((av.L5 (fun zg5_b2_0=>(av.L1 q aW k rz1 zg5_b2_0))) (aw q y1 aW) dw)
def av (q:aH) (person:Int) (aW:Int):(List Int):=(bif (decide (aW < q.doc.At)) then [] else ((av.L1 q aW (av.K1 person)) ((ao q aW).1) ([])))
def tryP (c:List Int→Bool) (help:List Int):Nat→Nat→List Int→Option (List Int)
 | 0,_,ws=>bif c ws then some ws else none
 | m+1,fr,ws=>(List.range' fr (help.length - m - fr)).findSome? fun i=>tryP c help m (i+1) (ws++[nthI help ((i:Nat):Int)])
def needC (q:aH) (person at_:Int) (ws:List Int):Bool:=aX q (sortI (ws++[person])) at_
def needLoop (c:List Int→Bool) (help:List Int):Option (List Int):=(List.range' 0 (help.length+1)).findSome? fun many=>tryP c help many 0 []
def aA (aR:Register) (doc:Int) (person:Int) (aZ:Int) (known:Int):List Int×Bool×Int:=
 bif (eX aR) != 0 then ([],false,300)
 else bif ((((!((cU aR doc known).2))||decide (person < 0))||decide (64≤person))||(!(iY aZ))) then ([],false,1)
 else bif decide (12 < (((av (cU aR doc known).1 person aZ).length:Nat):Int)) then ([],false,2)
 else match needLoop (needC (cU aR doc known).1 person aZ) (av (cU aR doc known).1 person aZ) with
  | some l=>(l,true,0)
  | none=>([],false,0)
def bM  : Register:=(Register.mk ([(Appoint.mk 1 0 0 0 1 1 false),(Appoint.mk 2 0 0 0 2 1 false),(Appoint.mk 3 20 30 0 3 1 false)]) ([]) ([]) ([]) ([(Version.mk 7 0 0 (Policy.mk (⟨#[112]⟩:ByteArray) ([(⟨#[107]⟩:ByteArray)]) ([(⟨#[104,101,97,100]⟩:ByteArray)]) ([(Rule.mk (⟨#[107]⟩:ByteArray) 0 5 (Expr.mk 2 2 0 (⟨#[104,101,97,100]⟩:ByteArray) ([])))]) (Expr.mk 2 2 0 (⟨#[104,101,97,100]⟩:ByteArray) ([])) 2))]) ([(Document.mk 4 10 0 0 0 100 ([6]) ([]) ([]) (fun _=>0))]) ([]))
def eR.K1  : Bool:=true
def eR.L1 (fP:(List Span)) (k:Bool):List Span→Nat→Bool
 | [],i1=>(k )
 | y1::rz1,i1=>(bif (!(decide (y1=(nthI fP ((i1:Nat):Int))))) then false else (eR.L1 fP k rz1 ((i1+1))))
def eR (a:(List Span)) (fP:(List Span)):Bool:=(bif (((a.length:Nat):Int) != ((fP.length:Nat):Int)) then false else ((eR.L1 fP (eR.K1)) a 0))
def sv (aR:Register) (known:Int) (who:(List Int)) (want:(List Span)):Bool:=(((bd aR 4 who known).2==0)&&(eR ((bd aR 4 who known).1) want))
def mV  : Bool:=true
def eF.K1  (iO:Int):Int:=iO
def eF.L1 (rec:Expr→Int→Int) (limit:Int) (k:Int→Int):List Expr→Int→Int
 | [],iO=>(k iO)
 | y1::rz1,iO=>(bif (decide (iO≤limit)) then (eF.L1 rec limit k rz1 (IntKind.wrap .i64 (iO+(rec y1 (IntKind.wrap .i64 (limit - iO)))))) else (k iO))
def eF.F (rec:Expr→Int→Int) (x:Expr) (limit:Int):Int:=((eF.L1 rec limit (eF.K1)) x.L 1)
def eF.go:Nat→Expr→Int→Int
 | 0=>fun _ _=>default
 | m+1=>eF.F (eF.go m)
def eF (x:Expr) (limit:Int):Int:=eF.go x.dep x limit
def cz.L2  (k:Bool):List Rule→Bool
 | []=>(k )
 | y2::rz2=>(bif (decide (40 < (eF y2.Expr 40))) then false else (cz.L2  k rz2 ))
def cz.L3  (k:Bool):List Rule→Bool
 | []=>(k )
 | y3::rz3=>(bif (decide (40 < (eF y3.Expr 40))) then false else (cz.L3  k rz3 ))
def cz.K1  : Bool:=true
def cz.L1  (k:Bool):List Version→Bool
 | []=>(k )
 | y1::rz1=>(bif (((decide (20 < ((y1.Policy.Kinds.length:Nat):Int))||decide (40 < ((y1.Policy.Offices.length:Nat):Int)))||decide (20 < ((y1.Policy.Rules.length:Nat):Int)))||decide (40 < (eF y1.Policy.Change 40))) then false else ((cz.L3 ((cz.L1  k rz1 ))) y1.Policy.Rules ))
def cz (l:(List Version)):Bool:=(bif (decide (5 < ((l.length:Nat):Int))) then false else ((cz.L1 (cz.K1)) l ))
def gN.K1  : Bool:=true
def gN.L1  (k:Bool):List Document→Bool
 | []=>(k )
 | y1::rz1=>(bif ((decide (20 < ((y1.Parties.length:Nat):Int))||decide (20 < ((y1.Revokes.length:Nat):Int)))||decide (20 < ((y1.Needs.length:Nat):Int))) then false else (gN.L1  k rz1 ))
def gN (aR:Register):Bool:=(bif ((((((decide (30 < ((aR.Appoints.length:Nat):Int))||decide (12 < ((aR.Deputies.length:Nat):Int)))||decide (12 < ((aR.Interests.length:Nat):Int)))||decide (12 < ((aR.Budgets.length:Nat):Int)))||decide (8 < ((aR.Docs.length:Nat):Int)))||decide (24 < ((aR.Approvals.length:Nat):Int)))||(!(cz aR.Versions))) then false else ((gN.L1 (gN.K1)) aR.Docs ))
def ce.K1  : Int:=(-1)
def ce.L1 (no:Int) (k:Int):List Document→Nat→Int
 | [],i1=>(k )
 | y1::rz1,i1=>(bif (y1.No==no) then ((i1:Nat):Int) else (ce.L1 no k rz1 ((i1+1))))
def ce (aR:Register) (no:Int):Int:=((ce.L1 no (ce.K1)) aR.Docs 0)
def hZ (dL:Int):Bool:=(decide (0≤dL)&&decide (dL < 32))
def fE (dL:Int):Bool:=(decide (0≤dL)&&decide (dL < 1099511627776))
def kH (dL:Int):Bool:=(decide (0≤dL)&&decide (dL < 64))
def gL (x:Appoint):Bool:=(bif (((((decide (x.No < 0)||decide (1048576 < x.No))||(!(fE x.At)))||(!(fE x.Known)))||(!(hZ x.Office)))||(!(kH x.Person))) then false else (bif x.Gone then (x.Weight==0) else (decide (1≤x.Weight)&&decide (x.Weight≤64))))
def dH.K1  : Int:=0
def dH.L1 (l:(List Appoint)) (k:Int):List Appoint→Nat→Int
 | [],i1=>(k )
 | y1::rz1,i1=>(bif ((!(gL y1))||(decide (0 < ((i1:Nat):Int))&&decide (y1.No≤(nthI l (((i1:Nat):Int) - 1)).No))) then 150 else (dH.L1 l k rz1 ((i1+1))))
def dH (l:(List Appoint)):Int:=(bif (decide (4096 < ((l.length:Nat):Int))) then 2 else ((dH.L1 l (dH.K1)) l 0))
def ea (dL:Int) (low:Int) (high:Int):Bool:=(decide (low≤dL)&&decide (dL≤high))
def gK (dL:Int):Bool:=(ea dL 0 1099511627775)
def gO (dL:Int):Bool:=(ea dL 0 63)
def gW (x:Deputy):Bool:=(bif ((((((!(ea x.No 0 1048576))||(!(gK x.At)))||(!(gK x.Known)))||(!(gO x.From)))||(!(gO x.To)))||(x.From==x.To)) then false else (bif ((!(ea x.Office 0 31))||(!(ea x.Kind (-1) 15))) then false else (bif x.Gone then ((x.Until==0)&&(x.Most==0)) else ((decide (x.At < x.Until)&&decide (x.Until≤1099511627776))&&(ea x.Most 0 1099511627776)))))
def eW.K1  : Int:=0
def eW.L1 (l:(List Deputy)) (k:Int):List Deputy→Nat→Int
 | [],i1=>(k )
 | y1::rz1,i1=>(bif ((!(gW y1))||(decide (0 < ((i1:Nat):Int))&&decide (y1.No≤(nthI l (((i1:Nat):Int) - 1)).No))) then 160 else (eW.L1 l k rz1 ((i1+1))))
def eW (l:(List Deputy)):Int:=(bif (decide (4096 < ((l.length:Nat):Int))) then 2 else ((eW.L1 l (eW.K1)) l 0))
def iB (t:Int):Bool:=(decide (0≤t)&&decide (t < 1099511627776))
def i8 (dL:Int):Bool:=(decide (0≤dL)&&decide (dL≤1048576))
def kF (dL:Int):Bool:=(decide (0≤dL)&&decide (dL < 64))
def gJ (x:Interest):Bool:=(bif ((((decide (x.No < 0)||decide (1048576 < x.No))||(!(iB x.At)))||(!(iB x.Known)))||(!(i8 x.Party))) then false else (bif x.Of then ((i8 x.Person)&&(x.Person != x.Party)) else (kF x.Person)))
def eA.K1  : Int:=0
def eA.L1 (l:(List Interest)) (k:Int):List Interest→Nat→Int
 | [],i1=>(k )
 | y1::rz1,i1=>(bif ((!(gJ y1))||(decide (0 < ((i1:Nat):Int))&&decide (y1.No≤(nthI l (((i1:Nat):Int) - 1)).No))) then 290 else (eA.L1 l k rz1 ((i1+1))))
def eA (l:(List Interest)):Int:=(bif (decide (4096 < ((l.length:Nat):Int))) then 2 else ((eA.L1 l (eA.K1)) l 0))
def et (dL:Int) (least:Int) (most:Int):Bool:=(decide (least≤dL)&&decide (dL≤most))
def gv (dL:Int):Bool:=(decide (0≤dL)&&decide (dL < 1099511627776))
def gU (x:Budget):Bool:=(bif (((((!(et x.No 0 1048576))||(!(gv x.At)))||(!(gv x.Known)))||(!(et x.Kind (-1) 15)))||(!(et x.Period 1 1099511627776))) then false else (bif x.Gone then ((x.Count==0)&&(x.Value==0)) else ((et x.Count 0 1048576)&&(et x.Value 0 1099511627776))))
def fh.K1  : Int:=0
def fh.L1 (l:(List Budget)) (k:Int):List Budget→Nat→Int
 | [],i1=>(k )
 | y1::rz1,i1=>(bif ((!(gU y1))||(decide (0 < ((i1:Nat):Int))&&decide (y1.No≤(nthI l (((i1:Nat):Int) - 1)).No))) then 180 else (fh.L1 l k rz1 ((i1+1))))
def fh (l:(List Budget)):Int:=(bif (decide (4096 < ((l.length:Nat):Int))) then 2 else ((fh.L1 l (fh.K1)) l 0))
def cp (dL:Int):Bool:=(decide (0≤dL)&&decide (dL < 1099511627776))
def cR.K1  (iO:Int):Int:=iO
def cR.L1 (rec:Expr→Int→Int) (limit:Int) (k:Int→Int):List Expr→Int→Int
 | [],iO=>(k iO)
 | y1::rz1,iO=>(bif (decide (iO≤limit)) then (cR.L1 rec limit k rz1 (IntKind.wrap .i64 (iO+(rec y1 (IntKind.wrap .i64 (limit - iO)))))) else (k iO))
def cR.F (rec:Expr→Int→Int) (x:Expr) (limit:Int):Int:=((cR.L1 rec limit (cR.K1)) x.L 1)
def cR.go:Nat→Expr→Int→Int
 | 0=>fun _ _=>default
 | m+1=>cR.F (cR.go m)
def cR (x:Expr) (limit:Int):Int:=cR.go x.dep x limit
def bC.K1  (fW:Int):Int:=(IntKind.wrap .i64 (fW+1))
def bC.L1 (rec:Expr→Int) (k:Int→Int):List Expr→Int→Int
 | [],fW=>(k fW)
 | y1::rz1,fW=>(bC.L1 rec k rz1 (max fW (rec y1)))
def bC.F (rec:Expr→Int) (x:Expr):Int:=((bC.L1 rec (bC.K1)) x.L 0)
def bC.go:Nat→Expr→Int
 | 0=>fun _=>default
 | m+1=>bC.F (bC.go m)
def bC (x:Expr):Int:=bC.go x.dep x
def i9 (x:Expr):Bool:=(decide (256 < (cR x 256))||decide (16 < (bC x)))
def eM.K1  : Bool:=false
def eM.L1  (k:Bool):List Rule→Bool
 | []=>(k )
 | y1::rz1=>(bif (i9 y1.Expr) then true else (eM.L1  k rz1 ))
def eM (p:Policy):Bool:=(bif (((decide (32 < ((p.Offices.length:Nat):Int))||decide (16 < ((p.Kinds.length:Nat):Int)))||decide (16 < ((p.Rules.length:Nat):Int)))||(i9 p.Change)) then true else ((eM.L1 (eM.K1)) p.Rules ))
def gF (c:Int):Bool:=((decide (97≤c)&&decide (c≤122))||(decide (65≤c)&&decide (c≤90)))
def ju (c:Int):Bool:=(decide (48≤c)&&decide (c≤57))
def ma (c:Int):Bool:=(((gF c)||(ju c))||(c==95))
def fJ.K1  : Bool:=true
def fJ.L1 (s:ByteArray) (k:Bool):List Nat→Nat→Bool
 | [],i1=>(k )
 | y1::rz1,i1=>(bif (!(ma ((s.data.getD (((i1:Nat):Int):Int).toNat 0).toNat:Int))) then false else (fJ.L1 s k rz1 ((i1+1))))
def fJ (s:ByteArray):Bool:=(bif ((decide (((s.size:Nat):Int) < 1)||decide (32 < ((s.size:Nat):Int)))||(!(gF ((s.data.getD (0:Int).toNat 0).toNat:Int)))) then false else ((fJ.L1 s (fJ.K1)) (List.range s.size) 0))
def kG (s:ByteArray):Bool:=(bif (s.toList==(⟨#[112,111,108,105,99,121]⟩:ByteArray).toList) then (bif (s.toList==(⟨#[112,111,108,105,99,121]⟩:ByteArray).toList) then true else false) else (bif (s.toList==(⟨#[109,111,100,101]⟩:ByteArray).toList) then (bif (s.toList==(⟨#[109,111,100,101]⟩:ByteArray).toList) then true else false) else (bif (s.toList==(⟨#[111,108,100]⟩:ByteArray).toList) then (bif (s.toList==(⟨#[111,108,100]⟩:ByteArray).toList) then true else false) else (bif (s.toList==(⟨#[110,101,119]⟩:ByteArray).toList) then (bif (s.toList==(⟨#[110,101,119]⟩:ByteArray).toList) then true else false) else (bif (s.toList==(⟨#[98,111,116,104]⟩:ByteArray).toList) then (bif (s.toList==(⟨#[98,111,116,104]⟩:ByteArray).toList) then true else false) else (bif (s.toList==(⟨#[101,105,116,104,101,114]⟩:ByteArray).toList) then (bif (s.toList==(⟨#[101,105,116,104,101,114]⟩:ByteArray).toList) then true else false) else (bif (s.toList==(⟨#[111,102,102,105,99,101]⟩:ByteArray).toList) then (bif (s.toList==(⟨#[111,102,102,105,99,101]⟩:ByteArray).toList) then true else false) else (bif (s.toList==(⟨#[107,105,110,100]⟩:ByteArray).toList) then (bif (s.toList==(⟨#[107,105,110,100]⟩:ByteArray).toList) then true else false) else (bif (s.toList==(⟨#[114,117,108,101]⟩:ByteArray).toList) then (bif (s.toList==(⟨#[114,117,108,101]⟩:ByteArray).toList) then true else false) else (bif (s.toList==(⟨#[116,104,105,110,107]⟩:ByteArray).toList) then (bif (s.toList==(⟨#[116,104,105,110,107]⟩:ByteArray).toList) then true else false) else (bif (s.toList==(⟨#[99,104,97,110,103,101]⟩:ByteArray).toList) then (bif (s.toList==(⟨#[99,104,97,110,103,101]⟩:ByteArray).toList) then true else false) else (bif (s.toList==(⟨#[115,111,109,101]⟩:ByteArray).toList) then (bif (s.toList==(⟨#[115,111,109,101]⟩:ByteArray).toList) then true else false) else (bif (s.toList==(⟨#[119,101,105,103,104,116]⟩:ByteArray).toList) then (bif (s.toList==(⟨#[119,101,105,103,104,116]⟩:ByteArray).toList) then true else false) else (bif (s.toList==(⟨#[111,102]⟩:ByteArray).toList) then (bif (s.toList==(⟨#[111,102]⟩:ByteArray).toList) then true else false) else (bif (s.toList==(⟨#[117,112,116,111]⟩:ByteArray).toList) then (bif (s.toList==(⟨#[117,112,116,111]⟩:ByteArray).toList) then true else false) else (bif (s.toList==(⟨#[101,108,115,101]⟩:ByteArray).toList) then true else false))))))))))))))))
def jo (s:ByteArray):Bool:=((fJ s)&&(!(kG s)))
def dk.K1  : Int:=(-1)
def dk.L1 (s:ByteArray) (k:Int):List ByteArray→Nat→Int
 | [],i1=>(k )
 | y1::rz1,i1=>(bif (y1.toList==s.toList) then ((i1:Nat):Int) else (dk.L1 s k rz1 ((i1+1))))
def dk (l:(List ByteArray)) (s:ByteArray):Int:=((dk.L1 s (dk.K1)) l 0)
def dR.K1  : Bool:=true
def dR.L1 (l:(List ByteArray)) (k:Bool):List ByteArray→Nat→Bool
 | [],i1=>(k )
 | y1::rz1,i1=>(bif ((!(jo y1))||((dk l y1) != ((i1:Nat):Int))) then false else (dR.L1 l k rz1 ((i1+1))))
def dR (l:(List ByteArray)):Bool:=((dR.L1 l (dR.K1)) l 0)
def bT.K1  : Bool:=true
def bT.L1 (rec:(List ByteArray)→Expr→Bool) (offices:(List ByteArray)) (k:Bool):List Expr→Bool
 | []=>(k )
 | y1::rz1=>(bif (!(rec offices y1)) then false else (bT.L1 rec offices k rz1 ))
def bT.F (rec:(List ByteArray)→Expr→Bool) (offices:(List ByteArray)) (x:Expr):Bool:=(bif (((x.Kind==1)||(x.Kind==2))&&decide ((dk offices x.Name) < 0)) then false else ((bT.L1 rec offices (bT.K1)) x.L ))
def bT.go:Nat→(List ByteArray)→Expr→Bool
 | 0=>fun _ _=>default
 | m+1=>bT.F (bT.go m)
def bT (offices:(List ByteArray)) (x:Expr):Bool:=bT.go x.dep offices x
def fN.K1 (p:Policy):Bool:=(bT p.Offices p.Change)
def fN.L1 (p:Policy) (k:Bool):List Rule→Bool
 | []=>(k )
 | y1::rz1=>(bif (!(bT p.Offices y1.Expr)) then false else (fN.L1 p k rz1 ))
def fN (p:Policy):Bool:=(bif (((!(jo p.Name))||(!(dR p.Offices)))||(!(dR p.Kinds))) then false else ((fN.L1 p (fN.K1 p)) p.Rules ))
def aO.K1 (x:Expr) (upto:Bool):Bool:=(bif (x.Kind==1) then ((x.N==0)&&(((x.L.length:Nat):Int)==0)) else (bif (x.Kind==2) then ((decide (1≤x.N)&&decide (x.N≤4096))&&(((x.L.length:Nat):Int)==0)) else (bif (x.Kind==3) then (((((x.Name.toList==(⟨#[]⟩:ByteArray).toList)&&decide (1≤((x.L.length:Nat):Int)))&&decide (((x.L.length:Nat):Int)≤16))&&decide (1≤x.N))&&decide (x.N≤((x.L.length:Nat):Int))) else (bif (x.Kind==4) then ((((upto&&(x.Name.toList==(⟨#[]⟩:ByteArray).toList))&&(((x.L.length:Nat):Int)==2))&&decide (0≤x.N))&&decide (x.N≤1099511627776)) else false))))
def aO.L1 (rec:Expr→Bool→Bool) (upto:Bool) (k:Bool):List Expr→Bool
 | []=>(k )
 | y1::rz1=>(bif (!(rec y1 upto)) then false else (aO.L1 rec upto k rz1 ))
def aO.F (rec:Expr→Bool→Bool) (x:Expr) (upto:Bool):Bool:=((aO.L1 rec upto (aO.K1 x upto)) x.L )
def aO.go:Nat→Expr→Bool→Bool
 | 0=>fun _ _=>default
 | m+1=>aO.F (aO.go m)
def aO (x:Expr) (upto:Bool):Bool:=aO.go x.dep x upto
def ft.K1 (p:Policy):Bool:=(aO p.Change false)
def ft.L1 (p:Policy) (k:Bool):List Rule→Nat→Bool
 | [],i1=>(k )
 | y1::rz1,i1=>(bif ((((!(y1.Kind.toList==(nthI p.Kinds ((i1:Nat):Int)).toList))||decide (y1.Think < 0))||decide (1099511627776≤y1.Think))||(!(aO y1.Expr true))) then false else (ft.L1 p k rz1 ((i1+1))))
def ft (p:Policy):Bool:=(bif (((decide (((p.Kinds.length:Nat):Int) < 1)||(((p.Rules.length:Nat):Int) != ((p.Kinds.length:Nat):Int)))||decide (p.Mode < 1))||decide (4 < p.Mode)) then false else ((ft.L1 p (ft.K1 p)) p.Rules 0))
def ab.K1 (offices:(List ByteArray)) (x:Expr) (iR:(List Expr)):Expr:=(Expr.mk x.Kind x.N (dk offices x.Name) x.Name iR)
def ab.L1 (rec:(List ByteArray)→Expr→Expr) (offices:(List ByteArray)) (k:(List Expr)→Expr):List Expr→(List Expr)→Expr
 | [],iR=>(k iR)
 | y1::rz1,iR=>(ab.L1 rec offices k rz1 (iR++[(rec offices y1)]))
def ab.K2 (x:Expr) (iQ:(List Expr)):Expr:=(Expr.mk x.Kind x.N 0 x.Name iQ)
def ab.L2 (rec:(List ByteArray)→Expr→Expr) (offices:(List ByteArray)) (k:(List Expr)→Expr):List Expr→(List Expr)→Expr
 | [],iQ=>(k iQ)
 | y2::rz2,iQ=>(ab.L2 rec offices k rz2 (iQ++[(rec offices y2)]))
def ab.F (rec:(List ByteArray)→Expr→Expr) (offices:(List ByteArray)) (x:Expr):Expr:=(bif ((x.Kind==1)||(x.Kind==2)) then ((ab.L1 rec offices (ab.K1 offices x)) x.L ([])) else ((ab.L2 rec offices (ab.K2 x)) x.L ([])))
def ab.go:Nat→(List ByteArray)→Expr→Expr
 | 0=>fun _ _=>default
 | m+1=>ab.F (ab.go m)
def ab (offices:(List ByteArray)) (x:Expr):Expr:=ab.go x.dep offices x
def dh.K1 (p:Policy) (j7:(List Rule)):(Policy×Int):=((Policy.mk p.Name p.Kinds p.Offices j7 (Expr.mk ((ab p.Offices p.Change).Kind) ((ab p.Offices p.Change).N) ((ab p.Offices p.Change).No) ((ab p.Offices p.Change).Name) ((ab p.Offices p.Change).L)) p.Mode),0)
def dh.L1 (p:Policy) (k:(List Rule)→(Policy×Int)):List Rule→Nat→(List Rule)→(Policy×Int)
 | [],i1,j7=>(k j7)
 | y1::rz1,i1,j7=>(dh.L1 p k rz1 ((i1+1)) (j7++[(Rule.mk y1.Kind ((i1:Nat):Int) y1.Think (Expr.mk ((ab p.Offices y1.Expr).Kind) ((ab p.Offices y1.Expr).N) ((ab p.Offices y1.Expr).No) ((ab p.Offices y1.Expr).Name) ((ab p.Offices y1.Expr).L)))]))
def dh (p:Policy):(Policy×Int):=(bif (eM p) then ((Policy.mk (⟨#[]⟩:ByteArray) ([]) ([]) ([]) (Expr.mk 0 0 0 (⟨#[]⟩:ByteArray) ([])) 0),2) else (bif (!(fN p)) then ((Policy.mk (⟨#[]⟩:ByteArray) ([]) ([]) ([]) (Expr.mk 0 0 0 (⟨#[]⟩:ByteArray) ([])) 0),201) else (bif (!(ft p)) then ((Policy.mk (⟨#[]⟩:ByteArray) ([]) ([]) ([]) (Expr.mk 0 0 0 (⟨#[]⟩:ByteArray) ([])) 0),200) else ((dh.L1 p (dh.K1 p)) p.Rules 0 ([])))))
def dA.K1  : Bool:=true
def dA.L1 (fP:(List ByteArray)) (k:Bool):List ByteArray→Nat→Bool
 | [],i1=>(k )
 | y1::rz1,i1=>(bif (!(y1.toList==(nthI fP ((i1:Nat):Int)).toList)) then false else (dA.L1 fP k rz1 ((i1+1))))
def dA (a:(List ByteArray)) (fP:(List ByteArray)):Bool:=(bif (((a.length:Nat):Int) != ((fP.length:Nat):Int)) then false else ((dA.L1 fP (dA.K1)) a 0))
def bJ.K1  : Bool:=true
def bJ.L1 (rec:Expr→Expr→Bool) (fP:Expr) (k:Bool):List Expr→Nat→Bool
 | [],i1=>(k )
 | y1::rz1,i1=>(bif (!(rec y1 (nthI fP.L ((i1:Nat):Int)))) then false else (bJ.L1 rec fP k rz1 ((i1+1))))
def bJ.F (rec:Expr→Expr→Bool) (a:Expr) (fP:Expr):Bool:=(bif (((((a.Kind != fP.Kind)||(a.N != fP.N))||(a.No != fP.No))||(!(a.Name.toList==fP.Name.toList)))||(((a.L.length:Nat):Int) != ((fP.L.length:Nat):Int))) then false else ((bJ.L1 rec fP (bJ.K1)) a.L 0))
def bJ.go:Nat→Expr→Expr→Bool
 | 0=>fun _ _=>default
 | m+1=>bJ.F (bJ.go m)
def bJ (a:Expr) (fP:Expr):Bool:=bJ.go a.dep a fP
def gu.K1  : Bool:=true
def gu.L1 (fP:Policy) (k:Bool):List Rule→Nat→Bool
 | [],i1=>(k )
 | y1::rz1,i1=>(bif ((((!(y1.Kind.toList==(nthI fP.Rules ((i1:Nat):Int)).Kind.toList))||(y1.KindNo != (nthI fP.Rules ((i1:Nat):Int)).KindNo))||(y1.Think != (nthI fP.Rules ((i1:Nat):Int)).Think))||(!(bJ y1.Expr ((nthI fP.Rules ((i1:Nat):Int)).Expr)))) then false else (gu.L1 fP k rz1 ((i1+1))))
def gu (a:Policy) (fP:Policy):Bool:=(bif ((((((!(a.Name.toList==fP.Name.toList))||(a.Mode != fP.Mode))||(!(dA a.Offices fP.Offices)))||(!(dA a.Kinds fP.Kinds)))||(((a.Rules.length:Nat):Int) != ((fP.Rules.length:Nat):Int)))||(!(bJ a.Change fP.Change))) then false else ((gu.L1 fP (gu.K1)) a.Rules 0))
def fw (p:Policy):Int:=(bif ((dh p).2 != 0) then (dh p).2 else (bif (!(gu ((dh p).1) p)) then 200 else 0))
def cT.K1  : Int:=0
def cT.L1 (l:(List Version)) (k:Int):List Version→Nat→Int
 | [],i1=>(k )
 | y1::rz1,i1=>(bif (((((decide (y1.No < 0)||decide (1048576 < y1.No))||(decide (0 < ((i1:Nat):Int))&&decide (y1.No≤(nthI l (((i1:Nat):Int) - 1)).No)))||(!(cp y1.At)))||(!(cp y1.Known)))||((fw y1.Policy) != 0)) then 200 else (cT.L1 l k rz1 ((i1+1))))
def cT (l:(List Version)):Int:=(bif (decide (256 < ((l.length:Nat):Int))) then 2 else ((cT.L1 l (cT.K1)) l 0))
def jH (t:Int):Bool:=(decide (0≤t)&&decide (t < 1099511627776))
def ed.K1 (l:(List Int)):Bool:=decide (((l.length:Nat):Int)≤16)
def ed.L1 (l:(List Int)) (limit:Int) (k:Bool):List Int→Nat→Bool
 | [],i1=>(k )
 | y1::rz1,i1=>(bif ((decide (y1 < 0)||decide (limit≤y1))||(decide (0 < ((i1:Nat):Int))&&decide (y1≤(nthI l (((i1:Nat):Int) - 1))))) then false else (ed.L1 l limit k rz1 ((i1+1))))
def ed (l:(List Int)) (limit:Int):Bool:=((ed.L1 l limit (ed.K1 l)) l 0)
def gV (d:Document):Bool:=(bif ((((((decide (d.No < 0)||decide (4096≤d.No))||(!(jH d.At)))||decide (d.Kind < 0))||decide (16≤d.Kind))||decide (d.Value < 0))||decide (1099511627776 < d.Value)) then false else (((((decide (0≤d.From)&&decide (d.From < d.Until))&&decide (d.Until≤1099511627776))&&(ed d.Parties 1048577))&&(ed d.Revokes d.No))&&(ed d.Needs d.No)))
def fQ.K1  : Int:=(-1)
def fQ.L1 (no:Int) (k:Int):List Document→Nat→Int
 | [],i1=>(k )
 | y1::rz1,i1=>(bif (y1.No==no) then ((i1:Nat):Int) else (fQ.L1 no k rz1 ((i1+1))))
def fQ (l:(List Document)) (no:Int):Int:=((fQ.L1 no (fQ.K1)) l 0)
def cW.K1  : Bool:=true
def cW.L1 (l:(List Document)) (k:Bool):List Int→Bool
 | []=>(k )
 | y1::rz1=>(bif (decide ((fQ l y1) < 0)) then false else (cW.L1 l k rz1 ))
def cW (l:(List Document)) (nos:(List Int)):Bool:=((cW.L1 l (cW.K1)) nos )
def e7.K1  : Int:=0
def e7.L1 (l:(List Document)) (k:Int):List Document→Nat→Int
 | [],i1=>(k )
 | y1::rz1,i1=>(bif ((((!(gV y1))||(decide (0 < ((i1:Nat):Int))&&decide (y1.No≤(nthI l (((i1:Nat):Int) - 1)).No)))||(!(cW l y1.Revokes)))||(!(cW l y1.Needs))) then 170 else (e7.L1 l k rz1 ((i1+1))))
def e7 (l:(List Document)):Int:=(bif (decide (4096 < ((l.length:Nat):Int))) then 2 else ((e7.L1 l (e7.K1)) l 0))
def dI (dL:Int) (most:Int):Bool:=(decide (0≤dL)&&decide (dL≤most))
def iU (dL:Int):Bool:=(dI dL 1099511627775)
def mT (dL:Int):Bool:=(dI dL 4095)
def gT (x:Approval):Bool:=(bif ((((!(dI x.No 1048576))||(!(iU x.At)))||(!(iU x.Known)))||(!(mT x.Doc))) then false else (((dI x.By 63)&&(dI x.For 63))&&(dI x.Office 31)))
def fg.K1  : Int:=0
def fg.L1 (l:(List Approval)) (k:Int):List Approval→Nat→Int
 | [],i1=>(k )
 | y1::rz1,i1=>(bif ((!(gT y1))||(decide (0 < ((i1:Nat):Int))&&decide (y1.No≤(nthI l (((i1:Nat):Int) - 1)).No))) then 280 else (fg.L1 l k rz1 ((i1+1))))
def fg (l:(List Approval)):Int:=(bif (decide (4096 < ((l.length:Nat):Int))) then 2 else ((fg.L1 l (fg.K1)) l 0))
def fZ (aR:Register):Int:=(bif (((((dH aR.Appoints) != 0)||((eW aR.Deputies) != 0))||((eA aR.Interests) != 0))||((fh aR.Budgets) != 0)) then 300 else (bif ((((cT aR.Versions) != 0)||((e7 aR.Docs) != 0))||((fg aR.Approvals) != 0)) then 300 else 0))
def eL.K1  : Bool:=true
def eL.L1 (who:(List Int)) (k:Bool):List Int→Nat→Bool
 | [],i1=>(k )
 | y1::rz1,i1=>(bif ((decide (y1 < 0)||decide (64≤y1))||(decide (0 < ((i1:Nat):Int))&&decide (y1≤(nthI who (((i1:Nat):Int) - 1))))) then false else (eL.L1 who k rz1 ((i1+1))))
def eL (who:(List Int)):Bool:=((eL.L1 who (eL.K1)) who 0)
def cZ.K1  : Version:=(Version.mk 0 0 0 (Policy.mk (⟨#[]⟩:ByteArray) ([]) ([]) ([]) (Expr.mk 0 0 0 (⟨#[]⟩:ByteArray) ([])) 0))
def cZ.L1 (no:Int) (k:Version):List Version→Version
 | []=>(k )
 | y1::rz1=>(bif (y1.No==no) then y1 else (cZ.L1 no k rz1 ))
def cZ (aR:Register) (no:Int):Version:=((cZ.L1 no (cZ.K1)) aR.Versions )
def aJ.K1  (nw:Int):Int:=nw
def aJ.L1 (l:(List Version)) (fM:Int) (known:Int) (k:Int→Int):List Version→Nat→Int→Int
 | [],i1,nw=>(k nw)
 | y1::rz1,i1,nw=>(bif ((decide (y1.At≤fM)&&decide (y1.Known≤known))&&(decide (nw < 0)||decide ((nthI l nw).At≤y1.At))) then (aJ.L1 l fM known k rz1 ((i1+1)) ((i1:Nat):Int)) else (aJ.L1 l fM known k rz1 ((i1+1)) nw))
def aJ (l:(List Version)) (fM:Int) (known:Int):Int:=((aJ.L1 l fM known (aJ.K1)) l 0 (-1))
def eG.K1 (l:(List Int)) (fX:Int) (i1:Nat):(List Int):=(bif (decide (((i1:Nat):Int) < ((l.length:Nat):Int))&&((nthI l ((i1:Nat):Int))==fX)) then l else (((l.take ((((i1:Nat):Int):Int)).toNat)++[fX])++(l.drop ((((i1:Nat):Int):Int)).toNat)))
def eG.L1 (fX:Int) (k:Nat→(List Int)):List Int→Nat→(List Int)
 | [],i1=>(k (i1))
 | y1::rz1,i1=>(bif (decide (y1 < fX)) then (eG.L1 fX k rz1 ((i1+1))) else (k (i1)))
def eG (l:(List Int)) (fX:Int):(List Int):=((eG.L1 fX (eG.K1 l fX)) l 0)
def bZ.K1  (kJ:(List Int)):(List Int):=kJ
def bZ.L1 (l:(List Version)) (begun:Int) (aW:Int) (known:Int) (k:(List Int)→(List Int)):List Version→(List Int)→(List Int)
 | [],kJ=>(k kJ)
 | y1::rz1,kJ=>(bif ((decide (begun < y1.At)&&decide (y1.At≤aW))&&decide (0≤(aJ l y1.At known))) then (bZ.L1 l begun aW known k rz1 (eG kJ ((nthI l (aJ l y1.At known)).No))) else (bZ.L1 l begun aW known k rz1 kJ))
def bZ.K2  (rC:(List Int)):(List Int):=rC
def bZ.L2 (l:(List Version)) (begun:Int) (aW:Int) (known:Int) (k:(List Int)→(List Int)):List Version→(List Int)→(List Int)
 | [],rC=>(k rC)
 | y2::rz2,rC=>(bif ((decide (begun < y2.At)&&decide (y2.At≤aW))&&decide (0≤(aJ l y2.At known))) then (bZ.L2 l begun aW known k rz2 (eG rC ((nthI l (aJ l y2.At known)).No))) else (bZ.L2 l begun aW known k rz2 rC))
def bZ (l:(List Version)) (begun:Int) (aW:Int) (known:Int):(List Int):=(bif (decide (0≤(aJ l begun known))) then ((bZ.L1 l begun aW known (bZ.K1)) l (eG ([]) ((nthI l (aJ l begun known)).No))) else ((bZ.L2 l begun aW known (bZ.K2)) l ([])))
def dQ (l:(List Version)) (begun:Int) (aW:Int) (known:Int):((List Int)×Int×Int):=(bif ((cT l) != 0) then ([],0,(cT l)) else (bif ((((!(cp begun))||(!(cp aW)))||(!(cp known)))||decide (aW < begun)) then ([],0,1) else (bif (decide ((aJ l aW known) < 0)) then ([],0,0) else (bif ((nthI l (aJ l aW known)).Policy.Mode==1) then (bif (decide ((aJ l begun known) < 0)) then ([],(nthI l (aJ l aW known)).Policy.Mode,0) else ([(nthI l (aJ l begun known)).No],(nthI l (aJ l aW known)).Policy.Mode,0)) else (bif ((nthI l (aJ l aW known)).Policy.Mode==2) then ([(nthI l (aJ l aW known)).No],(nthI l (aJ l aW known)).Policy.Mode,0) else ((bZ l begun aW known),(nthI l (aJ l aW known)).Policy.Mode,0))))))
def iC (x:Appoint) (fM:Int) (known:Int):Bool:=(decide (x.At≤fM)&&decide (x.Known≤known))
def dV.K1  (fO:Int):Int:=fO
def dV.L1 (l:(List Appoint)) (office:Int) (person:Int) (aZ:Int) (known:Int) (k:Int→Int):List Appoint→Nat→Int→Int
 | [],i1,fO=>(k fO)
 | y1::rz1,i1,fO=>(bif ((((y1.Office==office)&&(y1.Person==person))&&(iC y1 aZ known))&&(decide (fO < 0)||decide ((nthI l fO).At≤y1.At))) then (dV.L1 l office person aZ known k rz1 ((i1+1)) ((i1:Nat):Int)) else (dV.L1 l office person aZ known k rz1 ((i1+1)) fO))
def dV (l:(List Appoint)) (office:Int) (person:Int) (aZ:Int) (known:Int):Int:=((dV.L1 l office person aZ known (dV.K1)) l 0 (-1))
def cD.K1  (fO:(List Holder)):((List Holder)×Int):=(fO,0)
def cD.L1 (l:(List Appoint)) (office:Int) (aW:Int) (known:Int) (k:(List Holder)→((List Holder)×Int)):List Nat→Nat→(List Holder)→((List Holder)×Int)
 | [],i1,fO=>(k fO)
 | y1::rz1,i1,fO=>(bif (decide (0≤(dV l office ((i1:Nat):Int) aW known))&&(!((nthI l (dV l office ((i1:Nat):Int) aW known)).Gone))) then (cD.L1 l office aW known k rz1 ((i1+1)) (fO++[(Holder.mk ((i1:Nat):Int) ((nthI l (dV l office ((i1:Nat):Int) aW known)).Weight))])) else (cD.L1 l office aW known k rz1 ((i1+1)) fO))
def cD (l:(List Appoint)) (office:Int) (aW:Int) (known:Int):((List Holder)×Int):=(bif ((dH l) != 0) then ([],(dH l)) else (bif (((!(hZ office))||(!(fE aW)))||(!(fE known))) then ([],1) else ((cD.L1 l office aW known (cD.K1)) (List.range 64) 0 ([]))))
def dP.K1 (l:(List Int)) (fX:Int) (i1:Nat):(List Int):=(bif (decide (((i1:Nat):Int) < ((l.length:Nat):Int))&&((nthI l ((i1:Nat):Int))==fX)) then l else (((l.take ((((i1:Nat):Int):Int)).toNat)++[fX])++(l.drop ((((i1:Nat):Int):Int)).toNat)))
def dP.L1 (fX:Int) (k:Nat→(List Int)):List Int→Nat→(List Int)
 | [],i1=>(k (i1))
 | y1::rz1,i1=>(bif (decide (y1 < fX)) then (dP.L1 fX k rz1 ((i1+1))) else (k (i1)))
def dP (l:(List Int)) (fX:Int):(List Int):=((dP.L1 fX (dP.K1 l fX)) l 0)
def bI.L3 (person:Int) (k:(List Int)→(List Int)):List Holder→(List Int)→(List Int)
 | [],FG=>(k FG)
 | y3::rz3,FG=>(bif (y3.Person != person) then (bI.L3 person k rz3 (dP FG y3.Person)) else (bI.L3 person k rz3 FG))
def bI.L4 (person:Int) (k:(List Int)→(List Int)):List Holder→(List Int)→(List Int)
 | [],FE=>(k FE)
 | y4::rz4,FE=>(bif (y4.Person != person) then (bI.L4 person k rz4 (dP FE y4.Person)) else (bI.L4 person k rz4 FE))
def bI.L2 (aR:Register) (person:Int) (aZ:Int) (known:Int) (k:(List Int)→(List Int)):List ByteArray→Nat→(List Int)→(List Int)
 | [],i2,HX=>(k HX)
 | y2::rz2,i2,HX=>((bI.L4 person (fun zg4_11=>(bI.L2 aR person aZ known k rz2 ((i2+1)) zg4_11))) ((cD aR.Appoints ((i2:Nat):Int) aZ known).1) HX)
def bI.L7 (person:Int) (k:(List Int)→(List Int)):List Holder→(List Int)→(List Int)
 | [],kA=>(k kA)
 | y7::rz7,kA=>(bif (y7.Person != person) then (bI.L7 person k rz7 (dP kA y7.Person)) else (bI.L7 person k rz7 kA))
def bI.L5 (aR:Register) (person:Int) (aZ:Int) (known:Int) (k:(List Int)→(List Int)):List ByteArray→Nat→(List Int)→(List Int)
 | [],i5,np=>(k np)
 | y5::rz5,i5,np=>((bI.L7 person (fun zg7_11=>(bI.L5 aR person aZ known k rz5 ((i5+1)) zg7_11))) ((cD aR.Appoints ((i5:Nat):Int) aZ known).1) np)
def bI.K1  (fO:(List Int)):(List Int):=fO
def bI.L1 (aR:Register) (person:Int) (aZ:Int) (known:Int) (k:(List Int)→(List Int)):List Int→(List Int)→(List Int)
 | [],fO=>(k fO)
 | y1::rz1,fO=>((bI.L5 aR person aZ known (fun zg5_11=>(bI.L1 aR person aZ known k rz1 zg5_11))) (((cZ aR y1).Policy).Offices) 0 fO)
def bI (aR:Register) (d:Document) (person:Int) (aZ:Int) (known:Int):(List Int):=(bif (decide (aZ < d.At)) then [] else ((bI.L1 aR person aZ known (bI.K1)) ((dQ aR.Versions d.At aZ known).1) ([])))
def jY (aR:Register) (doc:Int) (person:Int) (aZ:Int) (known:Int):Bool:=(bif (((((fZ aR) != 0)||decide ((ce aR doc) < 0))||(!(cp aZ)))||(!(cp known))) then true else (decide ((((bI aR (nthI aR.Docs (ce aR doc)) person aZ known).length:Nat):Int)≤7)||decide (12 < (((bI aR (nthI aR.Docs (ce aR doc)) person aZ known).length:Nat):Int))))
def eS.K1 (aR:Register) (doc:Int) (who:(List Int)):Bool:=((((gN aR)&&((fZ aR)==0))&&decide (0≤(ce aR doc)))&&(eL who))
def eS.L1  (k:Bool):List Int→Bool
 | []=>(k )
 | y1::rz1=>(bif (!(cp y1)) then false else (eS.L1  k rz1 ))
def eS (aR:Register) (doc:Int) (who:(List Int)) (l:(List Int)):Bool:=((eS.L1 (eS.K1 aR doc who)) l )
def dY.K1  : Bool:=false
def dY.L1 (t:Int) (k:Bool):List Span→Bool
 | []=>(k )
 | y1::rz1=>(bif (decide (y1.From≤t)&&decide (t < y1.Until)) then true else (dY.L1 t k rz1 ))
def dY (s:(List Span)) (t:Int):Bool:=((dY.L1 t (dY.K1)) s )
def bj.K1 (fX:Int) (ky:(List Int)):(List Int):=(ky++[fX])
def bj.L1 (who:(List Int)) (fX:Int) (k:(List Int)→(List Int)):List Int→Nat→(List Int)→(List Int)
 | [],i1,ky=>(k ky)
 | y1::rz1,i1,ky=>(bif (decide (fX < y1)) then ((ky++[fX])++(who.drop ((((i1:Nat):Int):Int)).toNat)) else (bj.L1 who fX k rz1 ((i1+1)) (ky++[y1])))
def bj (who:(List Int)) (fX:Int):(List Int):=((bj.L1 who fX (bj.K1 fX)) who 0 ([]))
def dT.K1  : Bool:=false
def dT.L1 (fP:(List Int)) (k:Bool):List Int→Nat→Bool
 | [],i1=>(k )
 | y1::rz1,i1=>(bif (y1 != (nthI fP ((i1:Nat):Int))) then decide (y1 < (nthI fP ((i1:Nat):Int))) else (dT.L1 fP k rz1 ((i1+1))))
def dT (a:(List Int)) (fP:(List Int)):Bool:=(bif (((a.length:Nat):Int) != ((fP.length:Nat):Int)) then decide (((a.length:Nat):Int) < ((fP.length:Nat):Int)) else ((dT.L1 fP (dT.K1)) a 0))
def aG.K3 (aR:Register) (doc:Int) (person:Int) (aZ:Int) (known:Int) (iL:(List Int)):Bool:=((((bd aR doc (bj ((aA aR doc person aZ known).1) person) known).2==0)&&(dY ((bd aR doc (bj ((aA aR doc person aZ known).1) person) known).1) aZ))&&((!(dY ((bd aR doc (bj iL person) known).1) aZ))||(!(dT iL ((aA aR doc person aZ known).1)))))
def aG.L3 (aR:Register) (doc:Int) (person:Int) (aZ:Int) (known:Int) (k:Bool):List Int→Nat→Bool
 | [],i3=>(k )
 | y3::rz3,i3=>(bif ((y3==person)||(decide (0 < ((i3:Nat):Int))&&decide (y3≤(nthI ((aA aR doc person aZ known).1) (((i3:Nat):Int) - 1))))) then false else (aG.L3 aR doc person aZ known k rz3 ((i3+1))))
def aG.K2 (aR:Register) (doc:Int) (person:Int) (aZ:Int) (known:Int) (iL:(List Int)):Bool:=(bif ((bd aR doc (bj iL person) known).2 != 0) then false else (bif (!((aA aR doc person aZ known).2.1)) then ((((((aA aR doc person aZ known).1).length:Nat):Int)==0)&&(!(dY ((bd aR doc (bj iL person) known).1) aZ))) else ((aG.L3 aR doc person aZ known (aG.K3 aR doc person aZ known iL)) ((aA aR doc person aZ known).1) 0)))
def aG.L2 (person:Int) (k:(List Int)→Bool):List Int→(List Int)→Bool
 | [],iL=>(k iL)
 | y2::rz2,iL=>(bif (y2 != person) then (aG.L2 person k rz2 (iL++[y2])) else (aG.L2 person k rz2 iL))
def aG.K4 (aR:Register) (doc:Int) (person:Int) (aZ:Int) (known:Int) (others:(List Int)):Bool:=((((bd aR doc (bj ((aA aR doc person aZ known).1) person) known).2==0)&&(dY ((bd aR doc (bj ((aA aR doc person aZ known).1) person) known).1) aZ))&&((!(dY ((bd aR doc (bj others person) known).1) aZ))||(!(dT others ((aA aR doc person aZ known).1)))))
def aG.L4 (aR:Register) (doc:Int) (person:Int) (aZ:Int) (known:Int) (k:Bool):List Int→Nat→Bool
 | [],i4=>(k )
 | y4::rz4,i4=>(bif ((y4==person)||(decide (0 < ((i4:Nat):Int))&&decide (y4≤(nthI ((aA aR doc person aZ known).1) (((i4:Nat):Int) - 1))))) then false else (aG.L4 aR doc person aZ known k rz4 ((i4+1))))
def aG.K1 (aR:Register) (doc:Int) (person:Int) (aZ:Int) (known:Int) (others:(List Int)) (tN:Bool):Bool:=(bif tN then ((aG.L2 person (aG.K2 aR doc person aZ known)) others ([])) else (bif ((bd aR doc (bj others person) known).2 != 0) then false else (bif (!((aA aR doc person aZ known).2.1)) then ((((((aA aR doc person aZ known).1).length:Nat):Int)==0)&&(!(dY ((bd aR doc (bj others person) known).1) aZ))) else ((aG.L4 aR doc person aZ known (aG.K4 aR doc person aZ known others)) ((aA aR doc person aZ known).1) 0))))
def aG.L1 (person:Int) (k:Bool→Bool):List Int→Bool→Bool
 | [],tN=>(k tN)
 | y1::rz1,tN=>(aG.L1 person k rz1 (tN||(y1==person)))
def aG (aR:Register) (doc:Int) (person:Int) (aZ:Int) (known:Int) (others:(List Int)):Bool:=(bif (!mV) then false else (bif ((((!(eS aR doc others ([aZ,known])))||decide (person < 0))||decide (64≤person))||(!(jY aR doc person aZ known))) then true else (bif ((aA aR doc person aZ known).2.2 != 0) then ((((aA aR doc person aZ known).2.2==2)&&(((((aA aR doc person aZ known).1).length:Nat):Int)==0))&&(!((aA aR doc person aZ known).2.1))) else ((aG.L1 person (aG.K1 aR doc person aZ known others)) others false))))
theorem wrap64 {z:Int} (h:-9223372036854775808≤z∧z≤9223372036854775807):IntKind.i64.wrap z=z:=by
 have:=im h;injection this
theorem Expr.eta (x:Expr):Expr.mk x.Kind x.N x.No x.Name x.L=x:=by cases x;rfl
theorem Expr.ind {P:Expr→Prop} (h:∀ x,(∀ y∈x.L,P y)→P x) (x:Expr):P x:=by
 have key:∀ n (x:Expr),x.dep≤n→P x:=by
  intro n
  induction n with
  | zero=>intro x hx;have:=Expr.jV x;omega
  | succ n ih=>intro x hx;exact h x fun y hy=>ih y (by have:=Expr.hY hy;omega)
 exact key _ x (Nat.le_refl _)
theorem CM (k:List fI):∀ l,aT.L3 k l=l++k
 | []=>rfl
 | y::l=>by simp [aT.L3,CM k l]
theorem CN (rec:Expr→Int→List fI) (d:Int):∀ l,aT.L1 rec d [] l=l.flatMap (fun y=>rec y (d+1))
 | []=>rfl
 | y::l=>by simp [aT.L1,CM,CN rec d l]
theorem Bo (rec:Expr→Int→List fI) (x:Expr) (d:Int):aT.F rec x d=⟨x,d⟩::x.L.flatMap (fun y=>rec y (d+1)):=by
 simp [aT.F,aT.K1,CN,Expr.eta]
theorem ur {α β : Type} {f g:α→List β}:∀ {l:List α},(∀ y∈l,f y=g y)→l.flatMap f=l.flatMap g
 | [],_=>rfl
 | y::l,h=>by
  rw [List.flatMap_cons,List.flatMap_cons,h y (List.mem_cons_self ..),ur fun z hz=>h z (List.mem_cons_of_mem _ hz)]
theorem CL (m:Nat):∀ (x:Expr) (d:Int),x.dep≤m→aT.go m x d=bS x d:=by
 induction m using Nat.strongRecOn with
 | _ m ih=>
  intro x d hx
  unfold bS
  have hp:=Expr.jV x
  obtain ⟨m',rfl⟩:∃ m',m=m'+1:=⟨m - 1,by omega⟩
  obtain ⟨n,hn⟩:∃ n,x.dep=n+1:=⟨x.dep - 1,by omega⟩
  rw [hn]
  show aT.F (aT.go m') x d=aT.F (aT.go n) x d
  rw [Bo,Bo]
  congr 1
  refine ur fun y hy=>?_
  have:=Expr.hY hy
  rw [ih m' (by omega) y _ (by omega),ih n (by omega) y _ (by omega)]
theorem lM (x:Expr) (d:Int):bS x d=⟨x,d⟩::x.L.flatMap (fun y=>bS y (d+1)):=by
 have hp:=Expr.jV x
 obtain ⟨n,hn⟩:∃ n,x.dep=n+1:=⟨x.dep - 1,by omega⟩
 rw [← CL x.dep x d (Nat.le_refl _),hn]
 show aT.F (aT.go n) x d=_
 rw [Bo]
 congr 1
 exact ur fun y hy=>CL n y _ (by have:=Expr.hY hy;omega)
theorem Aw (Q:Expr→Prop) (x:Expr):∀ d d',(∀ z∈bS x d,Q z.x)→∀ z∈bS x d',Q z.x:=by
 refine Expr.ind (P:=fun x=>∀ d d',(∀ z∈bS x d,Q z.x)→∀ z∈bS x d',Q z.x) ?_ x
 intro x ih d d' h z hz
 rw [lM] at h hz
 rcases List.mem_cons.1 hz with rfl | hz
 ·exact h ⟨x,d⟩ (List.mem_cons_self ..)
 ·obtain ⟨y,hy,hz⟩:=List.mem_flatMap.1 hz
  exact ih y hy (d+1) (d'+1) (fun z' hz'=>h z' (List.mem_cons_of_mem _ (List.mem_flatMap.2 ⟨y,hy,hz'⟩))) z hz
theorem zH (Q:Expr→Prop) (x:Expr) (d:Int):(∀ z∈bS x d,Q z.x)↔Q x∧∀ y∈x.L,∀ z∈bS y d,Q z.x:=by
 constructor
 ·intro h
  rw [lM] at h
  exact ⟨h ⟨x,d⟩ (List.mem_cons_self ..),fun y hy=>Aw Q y (d+1) d fun z hz=>h z (List.mem_cons_of_mem _ (List.mem_flatMap.2 ⟨y,hy,hz⟩))⟩
 ·rintro ⟨h1,h2⟩ z hz
  rw [lM] at hz
  rcases List.mem_cons.1 hz with rfl | hz
  ·exact h1
  ·obtain ⟨y,hy,hz⟩:=List.mem_flatMap.1 hz
   exact Aw Q y d (d+1) (h2 y hy) z hz
def NZ (x:Except Int Unit):Prop:=∀ e,x=.error e→e≠0
theorem NZ.ok:NZ (.ok ()):=fun _ h=>by cases h
theorem NZ.must {c:Bool} {e:Int} (he:e≠0):NZ (ew c e):=fun e' h=>by
 cases c with
 | true=>simp [ew] at h
 | false=>simp [ew] at h;omega
theorem NZ.exi {x:Except Int Unit} {f:Unit→Except Int Unit} (hx:NZ x) (hf:NZ (f ())):NZ (Sg.exi x f):=by
 cases x with
 | ok u=>exact hf
 | error e=>exact fun e' h=>hx e' h
theorem AV {x:Except Int Unit} (h:NZ x):attR x=0↔x=.ok ():=by
 cases x with
 | ok u=>simp [attR]
 | error e=>simp only [attR,reduceCtorEq,iff_false];exact h e rfl
theorem nR {c:Bool} {e:Int} {f:Unit→Except Int Unit}:exi (ew c e) f=.ok ()↔c=true∧f ()=.ok ():=by
 cases c <;> simp [ew,exi]
theorem DE (p:Policy):∀ (l:List Rule) (g:List Expr),ay.L1 (ay.K1 p) l g=g++(l.map (·.Expr)++[p.Change])
 | [],g=>by simp [ay.L1,ay.K1]
 | y::l,g=>by simp [ay.L1,DE p l]
theorem ql (p:Policy):ay p=p.Rules.map (·.Expr)++[p.Change]:=by
 unfold ay;rw [DE];simp
theorem Cn (k:Int→Except Int Unit) (hk:∀ a b,k a=k b):∀ (l:List fI) (g:Int),0≤g→g≤256→(ck.L3 k l g=.ok ()↔(g+l.length≤256∧∀ z∈l,z.depth≤16)∧k 0=.ok ())
 | [],g,h0,h1=>by simp only [ck.L3,hk g 0,List.length_nil,List.not_mem_nil];simp;omega
 | y::l,g,h0,h1=>by
  simp only [ck.L3,nR,Bool.and_eq_true,decide_eq_true_eq,wrap64 (z:=g+1) (by omega),List.length_cons,List.mem_cons]
  by_cases h:g+1≤256
  ·rw [Cn k hk l (g+1) (by omega) h]
   constructor
   ·rintro ⟨⟨_,h3⟩,⟨h4,h5⟩,h6⟩
    refine ⟨⟨by omega,fun z hz=>?_⟩,h6⟩
    rcases hz with rfl | hz
    ·exact h3
    ·exact h5 z hz
   ·rintro ⟨⟨h4,h5⟩,h6⟩
    exact ⟨⟨h,h5 y (.inl rfl)⟩,⟨by omega,fun z hz=>h5 z (.inr hz)⟩,h6⟩
  ·constructor
   ·rintro ⟨⟨h3,_⟩,_⟩;exact absurd h3 h
   ·rintro ⟨⟨h4,_⟩,_⟩;omega
theorem Co:∀ (l:List Expr),ck.L1 (.ok ()) l=.ok ()↔∀ x∈l,(bS x 1).length≤256∧∀ z∈bS x 1,z.depth≤16
 | []=>by simp [ck.L1]
 | y::l=>by
  simp only [ck.L1]
  rw [Cn _ (fun _ _=>rfl) _ 0 (by omega) (by omega),Co l]
  simp only [List.mem_cons,forall_eq_or_imp]
  constructor
  ·rintro ⟨⟨a,b⟩,c⟩;exact ⟨⟨by omega,b⟩,c⟩
  ·rintro ⟨⟨a,b⟩,c⟩;exact ⟨⟨by omega,b⟩,c⟩
theorem xH (p:Policy):ck p=.ok ()↔(p.Offices.length≤32∧p.Kinds.length≤16∧p.Rules.length≤16)∧∀ x∈ay p,(bS x 1).length≤256∧∀ z∈bS x 1,z.depth≤16:=by
 unfold ck ck.K1
 rw [nR,Co]
 simp only [Bool.and_eq_true,decide_eq_true_eq]
 constructor
 ·rintro ⟨⟨⟨a,b⟩,c⟩,d⟩;exact ⟨⟨by omega,by omega,by omega⟩,d⟩
 ·rintro ⟨⟨a,b,c⟩,d⟩;exact ⟨⟨⟨by omega,by omega⟩,by omega⟩,d⟩
theorem Hd (p:Policy):NZ (ck p):=by
 have h3:∀ (k:Int→Except Int Unit),(∀ a,NZ (k a))→∀ l g,NZ (ck.L3 k l g):=by
  intro k hk l
  induction l with
  | nil=>exact fun g=>hk g
  | cons y l ih=>exact fun g=>NZ.exi (NZ.must (by omega)) (ih _)
 have h1:∀ l,NZ (ck.L1 (.ok ()) l):=by
  intro l
  induction l with
  | nil=>exact NZ.ok
  | cons y l ih=>exact h3 _ (fun _=>ih) _ _
 exact NZ.exi (NZ.must (by omega)) (h1 _)
theorem CT (p:Policy) (k:Except Int Unit):∀ l,cm.L3 p k l=.ok ()↔(∀ z∈l,((!(cX z.x))||du p.Offices z.x.Name)=true)∧k=.ok ()
 | []=>by simp [cm.L3]
 | y::l=>by simp only [cm.L3,nR,CT p k l,List.mem_cons,forall_eq_or_imp,and_assoc]
theorem CU (p:Policy):∀ l,cm.L1 p (.ok ()) l=.ok ()↔∀ x∈l,∀ z∈bS x 1,((!(cX z.x))||du p.Offices z.x.Name)=true
 | []=>by simp [cm.L1]
 | y::l=>by simp only [cm.L1,CT,CU p l,List.mem_cons,forall_eq_or_imp]
theorem CR (p:Policy):cm p=.ok ()↔(dc p.Name=true∧bu p.Offices dc=true∧bu p.Kinds dc=true)∧∀ x∈ay p,∀ z∈bS x 1,((!(cX z.x))||du p.Offices z.x.Name)=true:=by
 unfold cm cm.K1
 rw [nR,CU]
 simp only [Bool.and_eq_true,and_assoc]
theorem HD (p:Policy):NZ (cm p):=by
 have h3:∀ (k:Except Int Unit),NZ k→∀ l,NZ (cm.L3 p k l):=by
  intro k hk l
  induction l with
  | nil=>exact hk
  | cons y l ih=>exact NZ.exi (NZ.must (by omega)) ih
 have h1:∀ l,NZ (cm.L1 p (.ok ()) l):=by
  intro l
  induction l with
  | nil=>exact NZ.ok
  | cons y l ih=>exact h3 _ ih _
 exact NZ.exi (NZ.must (by omega)) (h1 _)
theorem FJ (p:Policy) (i:Nat) (k:Except Int Unit):∀ l,br.L4 p i k l=.ok ()↔(∀ z∈l,(aL z.x.Kind 1 4&&kindsP z.x.Kind z.x)=true∧(decide ((i:Int) < IntKind.i64.wrap (((ay p).length:Int) - 1))||(z.x.Kind != 4))=true)∧k=.ok ()
 | []=>by simp [br.L4]
 | y::l=>by simp only [br.L4,nR,FJ p i k l,List.mem_cons,forall_eq_or_imp,and_assoc]
theorem BG (p:Policy):∀ l i,br.L2 p (.ok ()) l i=.ok ()↔∀ j x,l[j]? = some x→∀ z∈bS x 1,(aL z.x.Kind 1 4&&kindsP z.x.Kind z.x)=true∧(decide (((i+j:Nat):Int) < IntKind.i64.wrap (((ay p).length:Int) - 1))||(z.x.Kind != 4))=true
 | [],i=>by simp [br.L2]
 | y::l,i=>by
  simp only [br.L2]
  rw [FJ,BG p l (i+1)]
  constructor
  ·rintro ⟨h1,h2⟩ j x hj z hz
   cases j with
   | zero=>simp at hj;subst hj;exact h1 z hz
   | succ j=>have:=h2 j x (by simpa using hj) z hz;rw [show i+(j+1)=i+1+j from by omega];exact this
  ·intro h
   refine ⟨fun z hz=>h 0 y rfl z hz,fun j x hj z hz=>?_⟩
   have:=h (j+1) x (by simpa using hj) z hz
   rw [show i+(j+1)=i+1+j from by omega] at this;exact this
theorem xp (p:Policy) (k:Except Int Unit):∀ l i,br.L1 p k l i=.ok ()↔(∀ j r,l[j]? = some r→((r.Kind.toList==(nthI p.Kinds (((i+j:Nat):Int))).toList)&&aL r.Think 0 1099511627775)=true)∧k=.ok ()
 | [],i=>by simp [br.L1]
 | y::l,i=>by
  simp only [br.L1]
  rw [nR,xp p k l (i+1)]
  constructor
  ·rintro ⟨h1,h2,h3⟩
   refine ⟨fun j r hj=>?_,h3⟩
   cases j with
   | zero=>simp at hj;subst hj;exact h1
   | succ j=>have:=h2 j r (by simpa using hj);rw [show i+(j+1)=i+1+j from by omega];exact this
  ·rintro ⟨h,h3⟩
   refine ⟨h 0 y rfl,fun j r hj=>?_,h3⟩
   have:=h (j+1) r (by simpa using hj)
   rw [show i+(j+1)=i+1+j from by omega] at this;exact this
theorem I4 (p:Policy):NZ (br p):=by
 have h4:∀ i (k:Except Int Unit),NZ k→∀ l,NZ (br.L4 p i k l):=by
  intro i k hk l
  induction l with
  | nil=>exact hk
  | cons y l ih=>exact NZ.exi (NZ.must (by omega)) (NZ.exi (NZ.must (by omega)) ih)
 have h2:∀ l i,NZ (br.L2 p (.ok ()) l i):=by
  intro l
  induction l with
  | nil=>exact fun _=>NZ.ok
  | cons y l ih=>exact fun i=>h4 i _ (ih _) _
 have h1:∀ l i,NZ (br.L1 p (br.K1 p) l i):=by
  intro l
  induction l with
  | nil=>exact fun _=>h2 _ _
  | cons y l ih=>exact fun i=>NZ.exi (NZ.must (by omega)) (ih _)
 exact NZ.exi (NZ.must (by omega)) (h1 _ _)
theorem wv (p:Policy):NZ (di p):=
 NZ.exi (Hd p) (NZ.exi (HD p) (NZ.exi (I4 p) NZ.ok))
theorem us {x:Except Int Unit} {f:Unit→Except Int Unit}:exi x f=.ok ()↔x=.ok ()∧f ()=.ok ():=by
 cases x with
 | ok u=>simp [exi]
 | error e=>simp [exi]
theorem rU (p:Policy):di p=.ok ()↔ck p=.ok ()∧cm p=.ok ()∧br p=.ok ():=by
 unfold di
 rw [us,us,us]
 simp
theorem CD (p:Policy):(dp p).2=attR (di p):=by
 have hL:∀ l i g,(dp.L1 p (dp.K1 p) l i g).2=0:=by
  intro l
  induction l with
  | nil=>exact fun _ _=>rfl
  | cons y l ih=>exact fun i g=>ih _ _
 unfold dp
 by_cases h:attR (di p)=0
 ·simp [h,hL]
 ·rw [show (attR (di p) != 0)=true from by simpa using h];rfl
theorem DJ (p:Policy) (k:Int):∀ l i,cq.L1 p k l i=0↔(∀ j r,l[j]? = some r→r.KindNo=((i+j:Nat):Int)∧bQ p.Offices r.Expr=true)∧k=0
 | [],i=>by simp [cq.L1]
 | y::l,i=>by
  simp only [cq.L1,Bool.cond_eq_ite]
  split
  ·next h=>
   simp only [Bool.or_eq_true,bne_iff_ne,Bool.not_eq_true'] at h
   constructor
   ·intro h';omega
   ·rintro ⟨h1,_⟩
    have:=h1 0 y rfl
    simp only [Nat.add_zero] at this
    rcases h with h | h
    ·exact absurd this.1 h
    ·rw [this.2] at h;cases h
  ·next h=>
   simp only [Bool.or_eq_true,bne_iff_ne,Bool.not_eq_true',not_or,Decidable.not_not,Bool.not_eq_false] at h
   rw [DJ p k l (i+1)]
   constructor
   ·rintro ⟨h1,h2⟩
    refine ⟨fun j r hj=>?_,h2⟩
    cases j with
    | zero=>simp at hj;subst hj;exact h
    | succ j=>have:=h1 j r (by simpa using hj);rw [show i+(j+1)=i+1+j from by omega];exact this
   ·rintro ⟨h1,h2⟩
    refine ⟨fun j r hj=>?_,h2⟩
    have:=h1 (j+1) r (by simpa using hj)
    rw [show i+(j+1)=i+1+j from by omega] at this;exact this
theorem zm (p:Policy):cq p=0↔di p=.ok ()∧(∀ (j:Nat) r,p.Rules[j]? = some r→r.KindNo=(j:Int)∧bQ p.Offices r.Expr=true)∧bQ p.Offices p.Change=true:=by
 unfold cq
 rw [CD]
 by_cases h:attR (di p)=0
 ·have h2:=(AV (wv p)).1 h
  have hk:cq.K1 p=0↔bQ p.Offices p.Change=true:=by
   unfold cq.K1
   cases bQ p.Offices p.Change <;> simp
  rw [show (attR (di p) != 0)=false from by simpa using h,cond_false,DJ,hk]
  simp only [Nat.zero_add,h2,true_and]
 ·have h2:¬ di p=.ok ():=fun e=>h ((AV (wv p)).2 e)
  rw [show (attR (di p) != 0)=true from by simpa using h,cond_true]
  simp [h,h2]
theorem Io {c x:Bool}:(bif c then false else x)=true↔c=false∧x=true:=by cases c <;> simp
theorem pb (off:List ByteArray):∀ l,bQ.L1 off true l=true↔∀ z∈l,z.x.No=(bif cX z.x then aK off z.x.Name else 0)
 | []=>by simp [bQ.L1]
 | y::l=>by
  simp only [bQ.L1,List.mem_cons,forall_eq_or_imp]
  cases cX y.x with
  | true=>
   rw [cond_true,cond_true,Io,pb off l];simp
  | false=>
   rw [cond_false,cond_false,Io,pb off l];simp
theorem C8 (v:ByteArray):∀ (l:List ByteArray) (i:Nat),aK.L1 v (-1) l i=-1∨((i:Int)≤aK.L1 v (-1) l i∧aK.L1 v (-1) l i < ((i+l.length:Nat):Int))
 | [],i=>.inl rfl
 | y::l,i=>by
  simp only [aK.L1,Bool.cond_eq_ite,List.length_cons]
  split
  ·right;omega
  ·rcases C8 v l (i+1) with h | h
   ·exact .inl h
   ·right;omega
theorem HI (l:List ByteArray) (v:ByteArray):aK l v < (l.length:Int):=by
 have:=C8 v l 0
 unfold aK aK.K1
 omega
theorem wa {p:Policy} (hc:cq p=0):p.Rules.length=p.Kinds.length∧p.Offices.length≤32∧(∀ x∈ay p,OkX (p.Offices.length:Int) x):=by
 obtain ⟨h1,h2,h3⟩:=(zm p).1 hc
 obtain ⟨hs,hn,hf⟩:=(rU p).1 h1
 have hf':=hf
 unfold br at hf
 rw [nR,xp] at hf
 simp only [Bool.and_eq_true,decide_eq_true_eq,beq_iff_eq] at hf
 obtain ⟨⟨⟨_,hlen⟩,hmode⟩,hrules,hK⟩:=hf
 unfold br.K1 br.K2 at hK
 rw [BG] at hK
 obtain ⟨⟨ho,_,_⟩,_⟩:=(xH p).1 hs
 obtain ⟨_,hnm⟩:=(CR p).1 hn
 refine ⟨by omega,ho,fun x hx=>?_⟩
 have hres:∀ z∈bS x 1,z.x.No=(bif cX z.x then aK p.Offices z.x.Name else 0):=by
  have hr:bQ p.Offices x=true:=by
   rw [ql] at hx
   rcases List.mem_append.1 hx with hx | hx
   ·obtain ⟨r,hr,rfl⟩:=List.mem_map.1 hx
    obtain ⟨j,hj⟩:=List.getElem?_of_mem hr
    exact (h2 j r hj).2
   ·rw [List.mem_singleton.1 hx];exact h3
  unfold bQ bQ.K1 at hr
  exact (pb _ _).1 hr
 obtain ⟨j,hj⟩:=List.getElem?_of_mem hx
 have hfm:=fun z hz=>(hK j x hj z hz).1
 have hnx:=hnm x hx
 clear hK hnm hj
 let Q:Expr→Prop:=fun x=>(1≤x.Kind∧x.Kind≤4)∧(x.Kind≤2→0≤x.No∧x.No < (p.Offices.length:Int))∧(x.Kind=4→x.L.length=2)
 have all:∀ z∈bS x 1,(fun x:Expr=>(1≤x.Kind∧x.Kind≤4)∧(x.Kind≤2→0≤x.No∧x.No < (p.Offices.length:Int))∧(x.Kind=4→x.L.length=2)) z.x:=by
  intro z hz
  have a:=hfm z hz
  have b:=hnx z hz
  have c:=hres z hz
  simp only [Bool.and_eq_true,aL,decide_eq_true_eq] at a
  refine ⟨a.1,fun hk=>?_,fun hk=>?_⟩
  ·have hnamed:cX z.x=true:=by
    have:z.x.Kind=1∨z.x.Kind=2:=by omega
    rcases this with e | e <;> simp [cX,e]
   simp only [hnamed,Bool.not_true,Bool.false_or,cond_true] at b c
   have hge:0≤aK p.Offices z.x.Name:=by
    have h9:=b
    simp only [du,decide_eq_true_eq,ge_iff_le] at h9
    exact h9
   have:=HI p.Offices z.x.Name
   omega
  ·have h9:=a.2
   rw [hk] at h9
   simp only [kindsP] at h9
   simp [iV] at h9
   omega
 clear hfm hnx hres hx
 revert all
 refine Expr.ind (P:=fun x=>(∀ z∈bS x 1,Q z.x)→OkX (p.Offices.length:Int) x) ?_ x
 intro x ih all
 rw [zH Q] at all
 obtain ⟨⟨a,b,c⟩,d⟩:=all
 exact OkX.mk x a b c fun y hy=>ih y hy (d y hy)
theorem uw {p:Policy} (hc:cq p=0):(1≤p.Mode∧p.Mode≤4)∧p.Rules.length≤16∧∀ r∈p.Rules,0≤r.Think∧r.Think≤1099511627775:=by
 obtain ⟨h1,_,_⟩:=(zm p).1 hc
 obtain ⟨hs,_,hf⟩:=(rU p).1 h1
 unfold br at hf
 rw [nR,xp] at hf
 simp only [Bool.and_eq_true,aL,decide_eq_true_eq] at hf
 obtain ⟨⟨⟨_,_⟩,hmode⟩,hrules,_⟩:=hf
 obtain ⟨⟨_,_,hr⟩,_⟩:=(xH p).1 hs
 refine ⟨hmode,hr,fun r hr=>?_⟩
 obtain ⟨j,hj⟩:=List.getElem?_of_mem hr
 exact (hrules j r hj).2
theorem EP {p:Policy} {r:Rule} (h:r∈p.Rules):r.Expr∈ay p:=by
 rw [ql];exact List.mem_append_left _ (List.mem_map_of_mem h)
theorem Av:∀ (l:List Int) (g:Int),de.L1 de.K1 l g=true↔(∀ x∈l,g < x∧x < 64)∧l.Pairwise (· < ·)
 | [],g=>by simp [de.L1,de.K1]
 | y::l,g=>by
  simp only [de.L1,Bool.cond_eq_ite,Bool.or_eq_true,decide_eq_true_eq]
  split
  ·next h=>
   constructor
   ·intro h';cases h'
   ·rintro ⟨h1,_⟩;have:=h1 y (List.mem_cons_self ..);omega
  ·next h=>
   rw [Av l y,List.pairwise_cons]
   simp only [List.mem_cons,forall_eq_or_imp]
   constructor
   ·rintro ⟨h1,h2⟩
    exact ⟨⟨by omega,fun x hx=>by have:=h1 x hx;omega⟩,fun x hx=>(h1 x hx).1,h2⟩
   ·rintro ⟨⟨h1,h2⟩,h3,h4⟩
    exact ⟨fun x hx=>⟨h3 x hx,(h2 x hx).2⟩,h4⟩
theorem Au (l:List Int):de l=true↔(∀ x∈l,0≤x∧x < 64)∧l.Pairwise (· < ·):=by
 unfold de
 rw [Av]
 constructor
 ·rintro ⟨h1,h2⟩;exact ⟨fun x hx=>by have:=h1 x hx;omega,h2⟩
 ·rintro ⟨h1,h2⟩;exact ⟨fun x hx=>by have:=h1 x hx;omega,h2⟩
theorem zG {l:List Int} (h:de l=true):l.Pairwise (·≤·):=((Au l).1 h).2.imp (fun h=>Int.le_of_lt h)
theorem F5 {hs:List (List Holder)} {n:Int} (h:cM hs n=true):(hs.length:Int)=n:=by
 have h3:∀ (k:List Int→Bool) (l:List Holder) (g:List Int),cM.L3 k l g=true→∃ g',k g'=true:=by
  intro k l
  induction l with
  | nil=>exact fun g h=>⟨g,h⟩
  | cons y l ih=>
   intro g h
   simp only [cM.L3,Bool.cond_eq_ite] at h
   split at h
   ·cases h
   ·exact ih _ h
 have h1:∀ (k:Bool) (l:List (List Holder)),cM.L1 k l=true→k=true:=by
  intro k l
  induction l with
  | nil=>exact fun h=>h
  | cons y l ih=>
   intro h
   obtain ⟨g',hg⟩:=h3 _ _ _ h
   simp only [Bool.cond_eq_ite] at hg
   split at hg
   ·cases hg
   ·exact ih hg
 have:=h1 _ _ h
 simpa [cM.K1] using this
theorem wS:∀ (l:List Version) (g:Int),-1≤g→g≤1048576→(bA.L1 bA.K1 l g=0 ↔
  (∀ v∈l,(0≤v.At∧v.At≤1099511627775)∧(0≤v.Known∧v.Known≤1099511627775)∧v.No≤1048576∧cq v.Policy=0)∧(∀ v∈l,g < v.No)∧l.Pairwise (fun a b=>a.No < b.No))
 | [],g,_,_=>by simp [bA.L1,bA.K1]
 | y::l,g,h0,h1=>by
  simp only [bA.L1,wrap64 (z:=g+1) (by omega),aL]
  by_cases hy:((0≤y.At∧y.At≤1099511627775)∧(0≤y.Known∧y.Known≤1099511627775)∧y.No≤1048576∧cq y.Policy=0)∧g < y.No
  ·obtain ⟨⟨⟨a,a'⟩,⟨b,b'⟩,c,d⟩,e⟩:=hy
   have hc:(!(decide (g+1≤y.No)&&decide (y.No≤1048576))||!(decide (0≤y.At)&&decide (y.At≤1099511627775))||!(decide (0≤y.Known)&&decide (y.Known≤1099511627775))||cq y.Policy != 0)=false:=by
    simp [a,a',b,b',c,d];omega
   rw [hc,cond_false,wS l y.No (by omega) c,List.pairwise_cons]
   simp only [List.mem_cons,forall_eq_or_imp]
   constructor
   ·rintro ⟨h2,h3,h4⟩
    exact ⟨⟨⟨⟨a,a'⟩,⟨b,b'⟩,c,d⟩,h2⟩,⟨e,fun v hv=>by have:=h3 v hv;omega⟩,h3,h4⟩
   ·rintro ⟨⟨_,h2⟩,_,h3,h4⟩;exact ⟨h2,h3,h4⟩
  ·have hc:(!(decide (g+1≤y.No)&&decide (y.No≤1048576))||!(decide (0≤y.At)&&decide (y.At≤1099511627775))||!(decide (0≤y.Known)&&decide (y.Known≤1099511627775))||cq y.Policy != 0)=true:=by
    apply Classical.byContradiction
    intro hn
    apply hy
    simp only [Bool.not_eq_true,Bool.or_eq_false_iff,Bool.not_eq_false',Bool.and_eq_true,decide_eq_true_eq,bne_eq_false_iff_eq] at hn
    obtain ⟨⟨⟨a,b⟩,c⟩,d⟩:=hn
    exact ⟨⟨b,c,a.2,d⟩,by omega⟩
   rw [hc,cond_true]
   constructor
   ·intro h;omega
   ·rintro ⟨h2,h3,_⟩
    exact absurd ⟨h2 y (List.mem_cons_self ..),h3 y (List.mem_cons_self ..)⟩ hy
structure AW (l:List Version):Prop where
 len:l.length≤256
 each:∀ v∈l,(0≤v.At∧v.At≤1099511627775)∧(0≤v.Known∧v.Known≤1099511627775)∧(0≤v.No∧v.No≤1048576)∧cq v.Policy=0
 inc:l.Pairwise (fun a b=>a.No < b.No)
theorem nz (l:List Version):bA l=0↔AW l:=by
 unfold bA
 by_cases hl:l.length≤256
 ·rw [show decide (256 < ((l.length:Nat):Int))=false from decide_eq_false (by omega),cond_false,wS l (-1) (by omega) (by omega)]
  constructor
  ·rintro ⟨h1,h2,h3⟩;exact ⟨hl,fun v hv=>by have a:=h1 v hv;have b:=h2 v hv;exact ⟨a.1,a.2.1,⟨by omega,a.2.2.1⟩,a.2.2.2⟩,h3⟩
  ·rintro ⟨_,h1,h3⟩;exact ⟨fun v hv=>by have:=h1 v hv;exact ⟨this.1,this.2.1,by omega,this.2.2.2⟩,fun v hv=>by have:=h1 v hv;omega,h3⟩
 ·rw [show decide (256 < ((l.length:Nat):Int))=true from decide_eq_true (by omega),cond_true]
  exact ⟨fun h=>by omega,fun h=>absurd h.len hl⟩
theorem AW.mode {l:List Version} (g:AW l) {v:Version} (hv:v∈l):1≤v.Policy.Mode∧v.Policy.Mode≤4:=(uw (g.each v hv).2.2.2).1
theorem AW.okV {l:List Version} (g:AW l):okV l:=⟨g.len,fun v hv=>⟨⟨(uw (g.each v hv).2.2.2).2.1,(wa (g.each v hv).2.2.2).2.1⟩,(uw (g.each v hv).2.2.2).2.2⟩⟩
theorem AG {κ α : Type} [DecidableEq κ] (k:κ) (v:α):∀ (m:List (κ×α)) (x:κ),mget? (mput m k v) x=if x=k then some v else mget? m x
 | [],x=>by simp [mput,mget?]
 | (k',v')::m,x=>by
  simp only [mput]
  by_cases e:k=k'
  ·subst e;by_cases e2:x=k <;> simp [mget?,e2]
  ·simp only [e,if_false,mget?,AG k v m x]
   by_cases e2:x=k'
   ·subst e2;simp [Ne.symm e]
   ·simp [e2]
theorem wB {κ α : Type} [DecidableEq κ] {x:κ}:∀ {m:List (κ×α)},x∈m.map (·.1)→∃ v,mget? m x=some v∧(x,v)∈m
 | (k,v)::m,h=>by
  by_cases e:x=k
  ·subst e;exact ⟨v,by simp [mget?],by simp⟩
  ·simp only [List.map_cons,List.mem_cons,e,false_or] at h
   obtain ⟨u,h1,h2⟩:=wB h
   exact ⟨u,by simp [mget?,e,h1],List.mem_cons_of_mem _ h2⟩
theorem sW {κ α : Type} [DecidableEq κ] {k:κ} {v:α} {q:κ×α}:∀ {m:List (κ×α)},q∈mput m k v→q=(k,v)∨q∈m
 | [],h=>by simp [mput] at h;exact .inl h
 | (k',v')::m,h=>by
  simp only [mput] at h
  split at h
  ·rcases List.mem_cons.1 h with h | h
   ·exact .inl h
   ·exact .inr (List.mem_cons_of_mem _ h)
  ·rcases List.mem_cons.1 h with h | h
   ·exact .inr (h ▸ List.mem_cons_self ..)
   ·rcases sW h with h | h
    ·exact .inl h
    ·exact .inr (List.mem_cons_of_mem _ h)
theorem yC (g:List (Int×Version)):∀ l,bo.L2 g [] l=l.map fun y=>(y,mgetD g y (Version.mk 0 0 0 (Policy.mk (⟨#[]⟩:ByteArray) [] [] [] (Expr.mk 0 0 0 (⟨#[]⟩:ByteArray) []) 0)))
 | []=>rfl
 | y::l=>by simp [bo.L2,yC g l]
def inForceM (known e9:Int):List Version→Int→List (Int×Version)→List (Int×Version)
 | [],_,m=>m
 | y::l,b,m=>bif decide (known < y.Known) then inForceM known e9 l b m else bif decide (y.At≤e9) then (bif decide (y.At < b) then inForceM known e9 l b m else inForceM known e9 l y.At (mput m e9 y)) else inForceM known e9 l b (mput m y.At y)
theorem yD (known e9:Int) (k:Int→List (Int×Version)→List (Int×Version)) (hk:∀ a b m,k a m=k b m):∀ l b m,bo.L1 known e9 k l b m=k 0 (inForceM known e9 l b m)
 | [],b,m=>hk _ _ _
 | y::l,b,m=>by
  simp only [bo.L1,inForceM,yD known e9 k hk l]
  cases decide (known < y.Known) <;> cases decide (y.At≤e9) <;> cases decide (y.At < b) <;> rfl
theorem yB (l:List Version) (e9 known:Int):gf l e9 known=(sortI ((inForceM known e9 l (-1) []).map Prod.fst)).map fun y=>(y,mgetD (inForceM known e9 l (-1) []) y (Version.mk 0 0 0 (Policy.mk (⟨#[]⟩:ByteArray) [] [] [] (Expr.mk 0 0 0 (⟨#[]⟩:ByteArray) []) 0))):=by
 unfold gf bo
 rw [yD _ _ _ (fun _ _ _=>rfl)]
 exact yC _ _
theorem my (known e9:Int) (P:Int×Version→Prop):∀ (l:List Version) b m,(∀ y∈l,y.At≤e9→P (e9,y))→(∀ y∈l,e9 < y.At→P (y.At,y))→(∀ q∈m,P q)→∀ q∈inForceM known e9 l b m,P q
 | [],_,_,_,_,hm=>hm
 | y::l,b,m,h1,h2,hm=>by
  have h1':=fun z hz=>h1 z (List.mem_cons_of_mem _ hz)
  have h2':=fun z hz=>h2 z (List.mem_cons_of_mem _ hz)
  simp only [inForceM,Bool.cond_eq_ite,decide_eq_true_eq]
  split
  ·exact my known e9 P l b m h1' h2' hm
  ·split
   ·next ha=>
    split
    ·exact my known e9 P l b m h1' h2' hm
    ·refine my known e9 P l _ _ h1' h2' (fun q hq=>?_)
     rcases sW hq with rfl | hq
     ·exact h1 y (List.mem_cons_self ..) ha
     ·exact hm q hq
   ·next ha=>
    refine my known e9 P l _ _ h1' h2' (fun q hq=>?_)
    rcases sW hq with rfl | hq
    ·exact h2 y (List.mem_cons_self ..) (by omega)
    ·exact hm q hq
theorem wE {l:List Version} {e9 known:Int} (P:Int×Version→Prop) (h1:∀ y∈l,y.At≤e9→P (e9,y)) (h2:∀ y∈l,e9 < y.At→P (y.At,y)):∀ q∈gf l e9 known,P q:=by
 intro q hq
 rw [yB] at hq
 obtain ⟨y,hy,rfl⟩:=List.mem_map.1 hq
 have hy':=(jX _).mem_iff.1 hy
 obtain ⟨v,e,hv⟩:=wB hy'
 have:mgetD (inForceM known e9 l (-1) []) y (Version.mk 0 0 0 (Policy.mk (⟨#[]⟩:ByteArray) [] [] [] (Expr.mk 0 0 0 (⟨#[]⟩:ByteArray) []) 0))=v:=by simp [mgetD,e]
 simp only [this]
 exact my known e9 P l (-1) [] h1 h2 (fun q hq=>(List.not_mem_nil hq).elim) _ hv
theorem C9 {l:List Version} {e9 known:Int}:∀ q∈gf l e9 known,q.2∈l:=
 wE (fun q=>q.2∈l) (fun y hy _=>hy) (fun y hy _=>hy)
theorem nT (known e9:Int):∀ (l:List Version) b m,(inForceM known e9 l b m).length≤m.length+l.length
 | [],_,_=>Nat.le_refl _
 | y::l,b,m=>by
  have a1:=nT known e9 l b m
  have a2:=nT known e9 l y.At (mput m e9 y)
  have a3:=nT known e9 l b (mput m y.At y)
  have b2:=gr m e9 y
  have b3:=gr m y.At y
  simp only [inForceM,Bool.cond_eq_ite,List.length_cons]
  split
  ·omega
  ·split
   ·split <;> omega
   ·omega
theorem Da (l:List Version) (e9 known:Int):(gf l e9 known).length≤l.length:=by
 rw [yB,List.length_map,iw,List.length_map]
 have:=nT known e9 l (-1) []
 simpa using this
theorem uJ:∀ {a b:List OSeat},a.Pairwise (fun x y=>x.person < y.person)→b.Pairwise (fun x y=>x.person < y.person)→a.Perm b→a=b
 | [],b,_,_,p=>(List.Perm.nil_eq p)
 | x::a,[],_,_,p=>absurd p.length_eq (by simp)
 | x::a,y::b,ha,hb,p=>by
  have hx:x=y:=by
   have h1:x∈y::b:=p.mem_iff.1 (List.mem_cons_self ..)
   have h2:y∈x::a:=p.mem_iff.2 (List.mem_cons_self ..)
   rw [List.pairwise_cons] at ha hb
   rcases List.mem_cons.1 h1 with e | h1
   ·exact e
   ·rcases List.mem_cons.1 h2 with e | h2
    ·exact e.symm
    ·have:=ha.1 y h2;have:=hb.1 x h1;omega
  subst hx
  rw [List.pairwise_cons] at ha hb
  rw [uJ ha.2 hb.2 (List.Perm.cons_inv p)]
theorem uK {office:Int} {l:List OSeat} (hn:l.Nodup) (hs:l.Pairwise (fun x y=>x.person≤y.person)):(l.filter (fun y=>y.office==office)).Pairwise (fun x y=>x.person < y.person):=by
 induction l with
 | nil=>exact List.Pairwise.nil
 | cons x l ih=>
  rw [List.nodup_cons] at hn
  rw [List.pairwise_cons] at hs
  rw [List.filter_cons]
  split
  ·next h=>
   rw [List.pairwise_cons]
   refine ⟨fun y hy=>?_,ih hn.2 hs.2⟩
   obtain ⟨hy1,hy2⟩:=List.mem_filter.1 hy
   have h1:=hs.1 y hy1
   rcases Int.lt_or_eq_of_le h1 with h2 | h2
   ·exact h2
   ·exfalso
    have:x=y:=by
     cases x;cases y
     simp at h hy2 h2
     simp [h,hy2,h2]
    exact hn.1 (this ▸ hy1)
  ·exact ih hn.2 hs.2
theorem oB (m:List (OSeat×Appoint)) (office:Int):∀ l,bH.L1 m office [] l=(l.filter fun y=>y.office==office).filterMap fun y=>bif (mgetD m y (Appoint.mk 0 0 0 0 0 0 false)).Gone then none else some (Holder.mk (mgetD m y (Appoint.mk 0 0 0 0 0 0 false)).Person (mgetD m y (Appoint.mk 0 0 0 0 0 0 false)).Weight)
 | []=>rfl
 | y::l=>by
  simp only [bH.L1,oB m office l,List.filter_cons]
  cases h1:y.office==office <;> cases h2:(mgetD m y (Appoint.mk 0 0 0 0 0 0 false)).Gone <;> simp [h2]
theorem zM {m:List (OSeat×Appoint)} {office:Int} {ys:List OSeat} (hn:(m.map (·.1)).Nodup) (hp:ys.Perm (m.map Prod.fst)) (hs:ys.Pairwise (fun x y=>x.person≤y.person)):
  bH m office=[]++((bH.L1 m office bH.K1) ys):=by
 unfold bH bH.K1
 rw [List.nil_append,oB,oB]
 have h1:(seatS (m.map Prod.fst)).Nodup:=(qz _).nodup_iff.2 hn
 have h2:ys.Nodup:=hp.nodup_iff.2 hn
 rw [uJ (uK h1 (uL _)) (uK h2 hs) (((qz _).trans hp.symm).filter _)]
theorem sy (key:Appoint→OSeat×Bool) (later:Appoint→Appoint→Bool):∀ (l:List Appoint) m,(bO.L1 key later bO.K1 l m).length≤m.length+l.length
 | [],m=>by simp [bO.L1,bO.K1]
 | y::l,m=>by
  have a:=sy key later l m
  have b:=sy key later l (mput m (key y).1 y)
  have c:=gr m (key y).1 y
  simp only [bO.L1,Bool.cond_eq_ite,List.length_cons]
  split <;> omega
theorem qv (l:List Appoint) (a b:Int):(eQ l a b).length≤l.length:=by
 have:=sy (fun eo=>eN eo a b) ic l []
 simpa [eQ,bO] using this
theorem wP (l:List Holder):fa l=l:=by
 have:∀ (l g:List Holder),cd.L1 cd.K1 l g=g++l:=by
  intro l
  induction l with
  | nil=>intro g;simp [cd.L1,cd.K1]
  | cons y l ih=>intro g;simp [cd.L1,ih]
 simp [fa,cd,this]
theorem wG (m:List (OSeat×Appoint)) (office:Int):(gA m office).length≤m.length:=by
 unfold gA bH bH.K1
 rw [oB]
 have h1:=List.length_filterMap_le (fun y=>bif (mgetD m y (Appoint.mk 0 0 0 0 0 0 false)).Gone then none else some (Holder.mk (mgetD m y (Appoint.mk 0 0 0 0 0 0 false)).Person (mgetD m y (Appoint.mk 0 0 0 0 0 0 false)).Weight)) ((seatS (m.map Prod.fst)).filter fun y=>y.office==office)
 have h2:=List.length_filter_le (fun y:OSeat=>y.office==office) (seatS (m.map Prod.fst))
 have h3:=(qz (m.map Prod.fst)).length_eq
 rw [List.length_map] at h3
 omega
theorem DR (l:List Appoint) (office a b:Int):(dB l office a b).1.length≤l.length:=by
 unfold dB
 rw [wP]
 have h1:=wG (eQ l a b) office
 have h2:=qv l a b
 cases (cx l != 0) <;> cases ((!(dE office))||(!(bB a))||(!(bB b))) <;> simp <;> omega
theorem pT (q:aH) (at_:Int):∀ (l:List Version) (g:List Policy),ao.L1 q at_ (ao.K1 q at_) l g=(g++(l.filter fun v=>gR (bx q.Register.Versions q.doc.At at_ q.known).1 v.No).map (·.Policy),(bx q.Register.Versions q.doc.At at_ q.known).2.1)
 | [],g=>by simp [ao.L1,ao.K1]
 | y::l,g=>by
  simp only [ao.L1,pT q at_ l,List.filter_cons]
  cases gR (bx q.Register.Versions q.doc.At at_ q.known).1 y.No <;> simp
theorem qJ {q:aH} {at_:Int} {p:Policy} (h:p∈(ao q at_).1):∃ v∈q.Register.Versions,v.Policy=p:=by
 unfold ao at h
 rw [Bool.cond_eq_ite] at h
 split at h
 ·exact (List.not_mem_nil h).elim
 ·rw [pT,List.nil_append] at h
  obtain ⟨v,hv,e⟩:=List.mem_map.1 h
  exact ⟨v,(List.mem_filter.1 hv).1,e⟩
theorem yy (q:aH) (at_:Int):(ao q at_).1.length≤q.Register.Versions.length:=by
 unfold ao
 rw [Bool.cond_eq_ite]
 split
 ·exact Nat.zero_le _
 ·rw [pT,List.nil_append,List.length_map]
  exact List.length_filter_le _ _
theorem wx (q:aH) (at_:Int):∀ (l:List ByteArray) (i:Nat) (g:List (List Holder)),aw.L1 q at_ aw.K1 l i g=g++(List.range l.length).map fun j=>(dB q.Register.Appoints ((i+j:Nat):Int) at_ q.known).1
 | [],i,g=>by simp [aw.L1,aw.K1]
 | y::l,i,g=>by
  simp only [aw.L1,wx q at_ l,List.length_cons,List.append_assoc]
  congr 1
  rw [List.range_succ_eq_map,List.map_cons,List.map_map]
  simp only [Nat.add_zero,List.singleton_append,List.cons.injEq,true_and]
  apply List.map_congr_left
  intro j _
  simp only [Function.comp]
  rw [show i+1+j=i+(j+1) from by omega]
theorem nk (q:aH) (p:Policy) (at_:Int):aw q p at_=(List.range p.Offices.length).map fun (j:Nat)=>(dB q.Register.Appoints (j:Int) at_ q.known).1:=by
 unfold aw
 rw [wx]
 simp
theorem sf {q:aH} (h:q.Register.Appoints.length≤2000000) (p:Policy) (at_:Int):∀ y∈aw q p at_,y.length≤2000000:=by
 intro y hy
 rw [nk] at hy
 obtain ⟨j,_,rfl⟩:=List.mem_map.1 hy
 exact Nat.le_trans (DR _ _ _ _) h
theorem Bl (q:aH) (p:Policy) (at_:Int):(aw q p at_).length=p.Offices.length:=by rw [nk];simp
theorem Gn (l:List Int) (p:Int→Bool):(bp l p).length≤l.length:=List.length_filter_le _ _
theorem uX (r:Register):eX r=0↔cx r.Appoints=0∧dg r.Deputies=0∧cr r.Interests=0∧dj r.Budgets=0∧bA r.Versions=0∧bV r.Docs=0∧ct r.Approvals=0:=by
 have e:eX r=(bif cx r.Appoints != 0 then 300 else bif dg r.Deputies != 0 then 300 else bif cr r.Interests != 0 then 300 else bif dj r.Budgets != 0 then 300 else bif bA r.Versions != 0 then 300 else bif bV r.Docs != 0 then 300 else bif ct r.Approvals != 0 then 300 else 0):=rfl
 rw [e]
 have key:∀ (a x:Int),(bif a != 0 then 300 else x)=0↔a=0∧x=0:=by
  intro a x
  by_cases h:a=0
  ·simp [h]
  ·have:(a != 0)=true:=by simpa using h
   rw [this];simp [h]
 simp only [key,and_true]
theorem Fz (limit:Int) (k:Int→Bool):∀ (l:List Int) (g:Int),cv.L1 limit k l g=true↔((∀ x∈l,g < x∧x < limit)∧l.Pairwise (· < ·))∧∃ g',(l=[]∧g'=g∨l.getLast? = some g')∧k g'=true
 | [],g=>by simp [cv.L1]
 | y::l,g=>by
  simp only [cv.L1,Bool.cond_eq_ite,Bool.or_eq_true,decide_eq_true_eq]
  split
  ·next h=>
   constructor
   ·intro h';cases h'
   ·rintro ⟨⟨h1,_⟩,_⟩;have:=h1 y (List.mem_cons_self ..);omega
  ·next h=>
   rw [Fz limit k l y,List.pairwise_cons]
   simp only [List.mem_cons,forall_eq_or_imp]
   constructor
   ·rintro ⟨⟨h1,h2⟩,g',h3,h4⟩
    refine ⟨⟨⟨by omega,fun x hx=>by have:=h1 x hx;omega⟩,fun x hx=>(h1 x hx).1,h2⟩,g',?_,h4⟩
    rcases h3 with ⟨rfl,rfl⟩ | h3
    ·simp
    ·right;cases l with
     | nil=>simp at h3
     | cons z l=>simpa using h3
   ·rintro ⟨⟨⟨h1,h2⟩,h3,h4⟩,g',h5,h6⟩
    refine ⟨⟨fun x hx=>⟨h3 x hx,(h2 x hx).2⟩,h4⟩,g',?_,h6⟩
    rcases h5 with ⟨h5,_⟩ | h5
    ·cases h5
    ·cases l with
     | nil=>left;simp at h5;exact ⟨rfl,h5.symm⟩
     | cons z l=>right;simpa using h5
theorem I0 (l:List Int) (limit:Int):cv l limit=true↔((∀ x∈l,0≤x∧x < limit)∧l.Pairwise (· < ·))∧l.length≤16:=by
 unfold cv
 rw [Fz]
 constructor
 ·rintro ⟨⟨h1,h2⟩,g',_,h3⟩
  refine ⟨⟨fun x hx=>by have:=h1 x hx;omega,h2⟩,?_⟩
  simp only [cv.K1,decide_eq_true_eq] at h3
  omega
 ·rintro ⟨⟨h1,h2⟩,h3⟩
  refine ⟨⟨fun x hx=>by have:=h1 x hx;omega,h2⟩,?_⟩
  cases l with
  | nil=>exact ⟨_,.inl ⟨rfl,rfl⟩,by simp [cv.K1]⟩
  | cons y l=>
   refine ⟨(y::l).getLast (by simp),.inr (List.getLast?_eq_some_getLast _),?_⟩
   simp only [cv.K1,decide_eq_true_eq]
   omega
structure FW (d:Document):Prop where
 no:0≤d.No∧d.No < 4096
 at_:0≤d.At∧d.At < 1099511627776
 kind:0≤d.Kind∧d.Kind < 16
 value:0≤d.Value∧d.Value≤1099511627776
 e9:0≤d.From∧d.From < d.Until
 Js:d.Until≤1099511627776
 parties:((∀ x∈d.Parties,0≤x∧x < 1048577)∧d.Parties.Pairwise (· < ·))∧d.Parties.length≤16
 revokes:((∀ x∈d.Revokes,0≤x∧x < d.No)∧d.Revokes.Pairwise (· < ·))∧d.Revokes.length≤16
 needs:((∀ x∈d.Needs,0≤x∧x < d.No)∧d.Needs.Pairwise (· < ·))∧d.Needs.length≤16
theorem CA (d:Document):fL d=true↔FW d:=by
 unfold fL eV
 simp only [Bool.and_eq_true,decide_eq_true_eq,I0]
 constructor
 ·rintro ⟨⟨⟨⟨⟨⟨⟨⟨⟨⟨⟨⟨a,b⟩,c,d⟩,e⟩,f⟩,g⟩,h⟩,i⟩,j⟩,k⟩,l⟩,m⟩,n⟩
  exact ⟨⟨a,b⟩,⟨c,d⟩,⟨e,f⟩,⟨g,h⟩,⟨i,j⟩,k,l,m,n⟩
 ·rintro ⟨⟨a,b⟩,⟨c,d⟩,⟨e,f⟩,⟨g,h⟩,⟨i,j⟩,k,l,m,n⟩
  exact ⟨⟨⟨⟨⟨⟨⟨⟨⟨⟨⟨⟨a,b⟩,c,d⟩,e⟩,f⟩,g⟩,h⟩,i⟩,j⟩,k⟩,l⟩,m⟩,n⟩
theorem zk (l0:List Document):∀ (l:List Document) (i:Nat),bV.L1 l0 0 l i=0→∀ d∈l,fL d=true
 | [],_,_,_,hd=>(List.not_mem_nil hd).elim
 | y::l,i,h,d,hd=>by
  simp only [bV.L1,Bool.cond_eq_ite] at h
  split at h
  ·omega
  ·next hc=>
   simp only [Bool.or_eq_true,not_or,Bool.not_eq_true',Bool.not_eq_false] at hc
   rcases List.mem_cons.1 hd with rfl | hd
   ·exact hc.1.1
   ·exact zk l0 l (i+1) h d hd
theorem AS {l:List Document} (h:bV l=0):∀ d∈l,FW d:=by
 unfold bV bV.K1 at h
 rw [Bool.cond_eq_ite] at h
 split at h
 ·omega
 ·exact fun d hd=>(CA d).1 (zk l l 0 h d hd)
theorem Dc (f:Document→Bool):∀ (l:List Document) (i:Nat),(aa.L1 f aa.K1 l i=-1∧∀ x∈l,f x=false) ∨
  ∃ a y b,l=a++y::b∧aa.L1 f aa.K1 l i=((i+a.length:Nat):Int)∧f y=true∧∀ x∈a,f x=false
 | [],i=>.inl ⟨rfl,fun _ h=>(List.not_mem_nil h).elim⟩
 | y::l,i=>by
  simp only [aa.L1]
  cases hy:f y with
  | true=>exact .inr ⟨[],y,l,rfl,by simp,hy,fun _ h=>(List.not_mem_nil h).elim⟩
  | false=>
   rcases Dc f l (i+1) with ⟨h1,h2⟩ | ⟨a,z,b,rfl,h2,h3,h4⟩
   ·exact .inl ⟨h1,fun x hx=>by rcases List.mem_cons.1 hx with rfl | hx;exact hy;exact h2 x hx⟩
   ·refine .inr ⟨y::a,z,b,rfl,?_,h3,fun x hx=>by rcases List.mem_cons.1 hx with rfl | hx;exact hy;exact h4 x hx⟩
    rw [cond_false,h2];simp only [List.length_cons];congr 1;omega
theorem JY {r:Register} {doc known:Int} (h:(cU r doc known).2=true):(cU r doc known).1.Register=r∧(cU r doc known).1.doc∈r.Docs∧(cU r doc known).1.doc.No=doc∧(cU r doc known).1.known=known∧iY known=true:=by
 unfold cU at h ⊢
 rw [Bool.cond_eq_ite] at h ⊢
 rcases Dc (fun eo=>bY eo doc) r.Docs 0 with ⟨h1,_⟩ | ⟨a,y,b,h1,h2,h3,_⟩
 ·have:aa r.Docs (fun eo=>bY eo doc)=-1:=h1
  rw [this] at h
  simp at h
 ·have e:aa r.Docs (fun eo=>bY eo doc)=((a.length:Nat):Int):=by rw [Nat.zero_add] at h2;exact h2
  have hn:nthI r.Docs ((a.length:Nat):Int)=y:=ow (by rw [h1];simp)
  rw [e] at h ⊢
  cases ht:iY known with
  | false=>rw [ht] at h;simp at h
  | true=>
   rw [hn]
   have hc:(decide (((a.length:Nat):Int) < 0)||!true)=false:=by simp
   rw [hc]
   rw [if_neg (by simp)]
   refine ⟨by cases r;rfl,?_,?_,rfl,rfl⟩
   ·have:y∈r.Docs:=by rw [h1];simp
    cases y;exact this
   ·have h4:y.No=doc:=by simpa [bY] using h3
    exact h4
structure Ke (r:Register) (q:aH):Prop where
 reg:q.Register=r
 vers:AW r.Versions
 doc:FW q.doc
theorem asked {r:Register} {doc known:Int} (hc:eX r=0) (h:(cU r doc known).2=true):Ke r (cU r doc known).1:=by
 obtain ⟨_,_,_,_,h5,h6,_⟩:=(uX r).1 hc
 obtain ⟨h1,h2,_⟩:=JY h
 exact ⟨h1,(nz _).1 h5,AS h6 _ h2⟩
theorem wy (l0:List Int):∀ (l:List Int) (i:Nat),(aS.L1 l0 [] l i).length≤l.length
 | [],_=>Nat.le_refl _
 | y::l,i=>by
  have ih:=wy l0 l (i+1)
  simp only [aS.L1,Bool.cond_eq_ite,List.length_cons]
  split <;> split <;> first | omega | (simp only [List.length_cons];omega)
def changeR (q:aH) (l:List Rule) (m:List (Int×Bool)):List (Int×Bool):=l.foldl (fun m x=>mput m (q.doc.At+x.Think) true) m
def changeV (q:aH) (l:List Version) (m:List (Int×Bool)):List (Int×Bool):=l.foldl (fun m v=>changeR q v.Policy.Rules (mput m v.At true)) m
def changeM (q:aH):List (Int×Bool):=
 changeV q q.Register.Versions (q.Register.Interests.foldl (fun m x=>mput m x.At true) (q.Register.Appoints.foldl (fun m x=>mput m x.At true) (mput (mput (mput [] 0 true) q.doc.At true) q.doc.Until true)))
theorem Ap (q:aH) (k:List (Int×Bool)→List Span):∀ l m,az.L5 q k l m=k (changeR q l m)
 | [],m=>rfl
 | y::l,m=>by simp only [az.L5,Ap q k l];rfl
theorem Aq (q:aH) (k:List (Int×Bool)→List Span):∀ l m,az.L3 q k l m=k (changeV q l m)
 | [],m=>rfl
 | y::l,m=>by simp only [az.L3,Ap,Aq q k l];rfl
theorem Ar (k:List (Int×Bool)→List Span):∀ l m,az.L2 k l m=k (l.foldl (fun m x=>mput m x.At true) m)
 | [],m=>rfl
 | y::l,m=>by simp only [az.L2,Ar k l];rfl
theorem As (k:List (Int×Bool)→List Span):∀ l m,az.L1 k l m=k (l.foldl (fun m x=>mput m x.At true) m)
 | [],m=>rfl
 | y::l,m=>by simp only [az.L1,As k l];rfl
theorem Ao (q:aH):az q=aS (sortI ((changeM q).map Prod.fst)):=by
 unfold az
 rw [As]
 unfold az.K1
 rw [Ar]
 unfold az.K2
 rw [Aq]
 rfl
theorem u0 {α : Type} (f:α→Int):∀ (l:List α) (m:List (Int×Bool)),(l.foldl (fun m x=>mput m (f x) true) m).length≤m.length+l.length
 | [],m=>Nat.le_refl _
 | y::l,m=>by
  have:=u0 f l (mput m (f y) true)
  have:=gr m (f y) true
  simp only [List.foldl_cons,List.length_cons]
  omega
theorem wT (q:aH):∀ (l:List Version) (m:List (Int×Bool)),(∀ v∈l,v.Policy.Rules.length≤16)→(changeV q l m).length≤m.length+17 * l.length
 | [],m,_=>Nat.le_refl _
 | y::l,m,h=>by
  have a:=wT q l (changeR q y.Policy.Rules (mput m y.At true)) (fun v hv=>h v (List.mem_cons_of_mem _ hv))
  have b:=u0 (fun x:Rule=>q.doc.At+x.Think) y.Policy.Rules (mput m y.At true)
  have c:=gr m y.At true
  have d:=h y (List.mem_cons_self ..)
  simp only [changeV,List.foldl_cons,List.length_cons] at a ⊢
  simp only [changeR] at a ⊢
  omega
theorem Ga {q:aH} (hsm:smR q.Register) (hov:okV q.Register.Versions):(az q).length≤5000000:=by
 rw [Ao]
 have h1:=wy (sortI ((changeM q).map Prod.fst)) (sortI ((changeM q).map Prod.fst)) 0
 rw [iw,List.length_map] at h1
 unfold aS aS.K1
 have h2:=wT q q.Register.Versions (q.Register.Interests.foldl (fun m x=>mput m x.At true) (q.Register.Appoints.foldl (fun m x=>mput m x.At true) (mput (mput (mput [] 0 true) q.doc.At true) q.doc.Until true))) (fun v hv=>(hov.2 v hv).1.1)
 have h3:=u0 (fun x:Interest=>x.At) q.Register.Interests (q.Register.Appoints.foldl (fun m x=>mput m x.At true) (mput (mput (mput [] 0 true) q.doc.At true) q.doc.Until true))
 have h4:=u0 (fun x:Appoint=>x.At) q.Register.Appoints (mput (mput (mput [] 0 true) q.doc.At true) q.doc.Until true)
 have h5:=gr (mput (mput ([]:List (Int×Bool)) 0 true) q.doc.At true) q.doc.Until true
 have h6:=gr (mput ([]:List (Int×Bool)) 0 true) q.doc.At true
 have h7:=gr ([]:List (Int×Bool)) 0 true
 have h8:=hsm.2.1
 have h9:=hsm.2.2.2.1
 have h10:=hov.1
 simp only [List.length_nil] at h7
 change (changeM q).length≤_ at h2
 omega
theorem rV (no:Int):∀ (l:List Version) (k:Version),cZ.L1 no k l=k∨cZ.L1 no k l∈l
 | [],k=>.inl rfl
 | y::l,k=>by
  simp only [cZ.L1]
  cases y.No==no
  ·rcases rV no l k with h | h
   ·exact .inl h
   ·exact .inr (List.mem_cons_of_mem _ h)
  ·exact .inr (List.mem_cons_self ..)
end Go.Sg
