import Derived.Conc.LoneCalls
import Derived.RangeFuncNested
import Derived.Laws.MakeOwn
import Derived.Test.YtpplkjhgggjaoaaGreatDoorW2
/- A part of the proof of JudgeReason. -/
set_option linter.unusedVariables false
set_option linter.unusedSimpArgs false
set_option maxRecDepth 100000
namespace Go.Sg
section grow
variable {α : Type} {R:Rp α} {E:TypeId} {h:HF} {xs:List α} {base:Option Addr} {cap:Nat} {G:LH}
theorem em.IM (hG:em R E h xs base cap G) (hne:0 < xs.length):∃ bk,base=some ⟨bk,0,none⟩:=by
 rcases hG with ⟨rfl,_⟩ | ⟨bk,_,_,e,_⟩
 ·simp at hne
 ·exact ⟨bk,e⟩
theorem em.MC (hG:em R E h xs base cap G):xs.length≤cap:=by
 rcases hG with ⟨rfl,_⟩ | ⟨bk,cl,sp,_,_,_,h4,_⟩
 ·simp
 ·exact h4
theorem bu.split:∀ {xs ys:List α} {cl:List Value},bu R h cl (xs++ys)→∃ a b,cl=a++b∧bu R h a xs∧bu R h b ys
 | [],ys,cl,hc=>⟨[],cl,rfl,rfl,hc⟩
 | x::xs,ys,cl,⟨cs,rest,e,hl,hr,hc⟩=>by
  obtain ⟨a,b,rfl,h1,h2⟩:=bu.split hc
  exact ⟨cs++a,b,by rw [e,List.append_assoc],⟨cs,a,rfl,hl,hr,h1⟩,h2⟩
theorem em.take (hG:em R E h xs base cap G) (k:Nat):em R E h (xs.take k) base cap G:=by
 rcases hG with ⟨rfl,rfl,rfl,rfl⟩ | ⟨bk,cl,sp,e,hc,h3,h4,h5,rfl⟩
 ·rw [List.take_nil];exact em.nil
 ·rw [← List.take_append_drop k xs] at hc
  obtain ⟨a,b,rfl,h1,h2⟩:=bu.split hc
  refine .inr ⟨bk,a,b++sp,e,h1,by rw [← List.append_assoc];exact h3,?_,?_,by rw [List.append_assoc]⟩
  ·rw [List.length_take];omega
  ·rw [List.length_take];omega
end grow
section runs
variable {P:Program} {e:Env} {X:Cx} {h:HF} {L:LH} {d:Option Nat} {ty:TypeId} {pos:String} {af:Array Edge} {g:Option (Nat×Bool)}
variable {α : Type} {R:Rp α} {E:TypeId} {xs:List α} {base:Option Addr} {cap bk:Nat} {G:LH}
theorem oO {t:TypeId} {x ix:Operand} {m:Nat} {a:Bool} {z:Int} (hT:P.underlying t=some (.slice E)) (hS:tySz P E=some (R.sz,a)) (hb:base=some ⟨bk,0,none⟩) (hz:0≤z∧z < (xs.length:Int))
  (hx:e.ev x=.slice base m cap) (hm:m=xs.length) (hix:e.ev ix=.int .i64 z):∀ w,St X h L w→(execOp e.ev ⟨d,.indexAddr t x ix,ty,pos,af,g⟩).run P w=.ok (.value (.pointer (some ⟨bk,z.toNat * R.sz,none⟩))) w:=by
 subst hb hm
 have hzz:z=(z.toNat:Int):=by omega
 rw [hzz] at hix
 intro w hw
 rw [yR hT hS hx hix (by omega) w hw,oK]
theorem Dh {t:TypeId} {x:Operand} {m i off:Nat} {y:α} {v:Value} {h0:HF} (hT:tySz P t=some (m,false)) (hG:em R E h0 xs base cap G) (hb:base=some ⟨bk,0,none⟩) (hi:xs[i]? = some y) (hv:∀ cs,R.rep h0 cs y→nth cs off=some v)
  (hx:e.ev x=.pointer (some ⟨bk,i * R.sz+off,none⟩)) (hm:∀ p∈G,p∈L):∀ w,St X h L w→(execOp e.ev ⟨d,.load t x,ty,pos,af,g⟩).run P w=.ok (.value v) w:=by
 rcases hG with ⟨rfl,_⟩ | ⟨bk',cl,sp,e1,hc,_,_,_,rfl⟩
 ·simp at hi
 ·rw [hb] at e1
  cases e1
  obtain ⟨cs,hl,hr,hcell⟩:=hc.get i y hi
  have hv':=hv cs hr
  rw [gP] at hv'
  have h9:=hcell off v hv'
  refine fH hT hx (hm _ (List.mem_singleton.2 rfl)) ?_
  rw [gP,List.getElem?_append_left (by
   rcases Nat.lt_or_ge (i * R.sz+off) cl.length with q | q
   ·exact q
   ·simp [List.getElem?_eq_none q] at h9)]
  exact h9
end runs
theorem sV {α : Type} (a b:List α) (i:Nat) (x:α) (hi:i < a.length):setNth (a++b) i x=setNth a i x++b:=by
 rw [kN,kN,List.set_append_left _ _ hi]
theorem xT {α : Type} (a b:List α) (i:Nat) (x:α):setNth (a++b) (a.length+i) x=a++setNth b i x:=by
 rw [kN,kN,List.set_append_right _ _ (Nat.le_add_right _ _)];simp
theorem bu.set {α : Type} {R:Rp α} {h:HF} {off:Nat} {v:Value} {y y':α} (ho:off < R.sz) (hrep:∀ cs,R.rep h cs y→R.rep h (setNth cs off v) y'):
  ∀ {xs:List α} {cl:List Value} (i:Nat),bu R h cl xs→xs[i]? = some y→bu R h (setNth cl (i * R.sz+off) v) (xs.set i y')
 | x::xs,cl,0,⟨cs,rest,e,hl,hr,hc⟩,hi=>by
  simp at hi
  subst hi
  rw [e,Nat.zero_mul,Nat.zero_add,sV _ _ _ _ (by omega)]
  exact ⟨setNth cs off v,rest,rfl,by rw [og];exact hl,hrep cs hr,hc⟩
 | x::xs,cl,i+1,⟨cs,rest,e,hl,hr,hc⟩,hi=>by
  have ih:=bu.set ho hrep i hc (by simpa using hi)
  rw [e,show (i+1) * R.sz+off=cs.length+(i * R.sz+off) from by rw [hl,Nat.add_mul];omega,xT]
  exact ⟨cs,_,rfl,hl,hr,ih⟩
 | [],_,_,_,hi=>by simp at hi
section steps
variable {P:Program} {b:Frame} {n:Nat} {ops:Array Oper} {F:List Frame→(Machine→Prop)→Prop} {e:Env} {ds:List Deferred} {X:Cx} {h:HF} {L:LH} {K:Env→HF→LH→Prop}
variable {d:Option Nat} {ty:TypeId} {pos:String} {af:Array Edge} {g:Option (Nat×Bool)}
variable {α : Type} {R:Rp α} {E:TypeId} {xs:List α} {base:Option Addr} {cap bk:Nat}
theorem ET (A G Q:LH) {t:TypeId} {x y:Operand} {m i off:Nat} {a:Bool} {u u':α} {v:Value} (hT:tySz P t=some (m,a)) (hm:m=1) (hG:em R E h xs base cap G) (hL:L=A++(G++Q)) (hb:base=some ⟨bk,0,none⟩)
  (hi:xs[i]? = some u) (ho:off < R.sz) (hrep:∀ cs,R.rep h cs u→R.rep h (setNth cs off v) u') (hx:e.ev x=.pointer (some ⟨bk,i * R.sz+off,none⟩)) (hv:vcells (e.ev y)=[v]) (h1:one v=true)
  (t':∀ G',em R E h (xs.set i u') base cap G'→K e h (A++(G'++Q)))
  (hg:guardB ops e ⟨none,.store t x y,ty,pos,af,g⟩=true:=by rfl):Stp P b n ops F ds X ⟨none,.store t x y,ty,pos,af,g⟩ e h L K:=by
 subst hL hm
 rcases hG with ⟨rfl,_⟩ | ⟨bk',cl,sp,e1,hc,h3,h4,h5,rfl⟩
 ·simp at hi
 ·have e2:=e1
  rw [hb] at e2
  cases e2
  have hlen:=hc.len
  have hil:i < xs.length:=by
   rcases Nat.lt_or_ge i xs.length with q | q
   ·exact q
   ·simp [List.getElem?_eq_none q] at hi
  have hlt:i * R.sz+off < cl.length:=by
   rw [hlen]
   have:=Nat.mul_le_mul_right R.sz (show i+1≤xs.length from hil)
   rw [Nat.add_mul] at this;omega
  have hnth:nth (A++([(bk,Obj.cells (cl++sp).toArray E (0,0))]++Q)) A.length=some (bk,.cells (cl++sp).toArray E (0,0)):=Hz A _ Q
  refine jX A.length hT hx hnth hv rfl (by simp;omega) (by simp [h1]) ?_ hg
  have hs:splice (cl++sp) (i * R.sz+off) [v]=setNth cl (i * R.sz+off) v++sp:=by
   simp only [splice];rw [sV _ _ _ _ hlt]
  rw [hs]
  have hset:=AB A (bk,Obj.cells (cl++sp).toArray E (0,0)) (bk,Obj.cells (setNth cl (i * R.sz+off) v++sp).toArray E (0,0)) Q
  show K e h (setNth (A++(bk,Obj.cells (cl++sp).toArray E (0,0))::Q) A.length _)
  rw [hset]
  refine t' [(bk,.cells (setNth cl (i * R.sz+off) v++sp).toArray E (0,0))] (.inr ⟨bk,setNth cl (i * R.sz+off) v,sp,e1,bu.set ho hrep i hc hi,?_,?_,?_,rfl⟩)
  ·rw [List.length_append,og,← List.length_append];exact h3
  ·rw [List.length_set];exact h4
  ·rw [List.length_set];exact h5
theorem JL {t:TypeId} {x hi:Operand} {a:Bool} {m:Nat} {z:Int} {G:LH} (hT:P.underlying t=some (.slice E)) (hS:tySz P E=some (R.sz,a)) (hG:em R E h xs base cap G) (hz:0≤z∧z≤(xs.length:Int))
  (hx:e.ev x=.slice base m cap) (hm:m=xs.length) (hhi:e.ev hi=.int .i64 z)
  (t':K (pute e d (.slice base (xs.take z.toNat).length cap)) h L)
  (hg:guardB ops e ⟨d,.slice t x none (some hi) none,ty,pos,af,g⟩=true:=by rfl):Stp P b n ops F ds X ⟨d,.slice t x none (some hi) none,ty,pos,af,g⟩ e h L K:=by
 subst hm
 have hcap:=hG.MC
 have hz2:0≤z∧z≤(cap:Int):=by omega
 have hl:z.toNat=(xs.take z.toNat).length:=by simp;omega
 refine fg (v:=.slice base (xs.take z.toNat).length cap) (fun w hw=>?_) t' hg
 rw [← hl]
 by_cases h0:cap=0
 ·have hz0:z=0:=by omega
  subst hz0
  simp [execOp,Instr.sliceAt,Instr.slice,Instr.sliceBounds,Instr.sliceBound,hx,hhi,asIntOf,run_underlying hT,iy hS,hz2,h0]
 ·simp [execOp,Instr.sliceAt,Instr.slice,Instr.sliceBounds,Instr.sliceBound,hx,hhi,asIntOf,run_underlying hT,iy hS,hz2,h0,Addr.add]
theorem EU (A G Q:LH) {f:FuncId} {ass:Array Operand} {ats:Array TypeId} {vs:List Value} {v:Value} (hc:∀ args w,(callFunc f args).run P w=.ok (.enter f args) w) (hm:R.Mono) (hG:em R E h xs base cap G) (hL:L=A++(G++Q))
  (hs:∀ h1,h.le h1→SlC R h1 base cap xs→Ret P f vs h1 v) (hvs:ass.toList.map e.ev=vs) (t':K (pute e d v) h L)
  (hg:guardB ops e ⟨d,.call ⟨.value (.func f),ass,ats⟩,ty,pos,af,g⟩=true:=by rfl):
  Stp P b n ops F ds X ⟨d,.call ⟨.value (.func f),ass,ats⟩,ty,pos,af,g⟩ e h L K:=by
 unfold Stp
 rw [if_pos hg]
 intro w hw
 have harr:ass.map e.ev=vs.toArray:=Array.ext' (by simp [← hvs])
 have hr:(execOp e.ev ⟨d,.call ⟨.value (.func f),ass,ats⟩,ty,pos,af,g⟩).run P w=.ok (.enter f vs.toArray) w:=by
  simp [execOp,resolve,Env.ev,Deferred.ofValue,invoke,harr,hc]
 rw [hr]
 have back:∀ (h1:HF),h.le h1→(∀ bk o,h1 bk=some o→w.heap[bk]? = some o)→SlC R h1 base cap xs→s9 P b n F ds X ⟨d,.call ⟨.value (.func f),ass,ats⟩,ty,pos,af,g⟩ e K (.ok (.enter f vs.toArray) w):=by
  intro h1 hle himm hsl
  have hp1:Pre h1 [] w:=⟨himm,fun _ hp=>(List.not_mem_nil hp).elim,List.nodup_nil,fun _ hp=>(List.not_mem_nil hp).elim⟩
  refine kD (by simp) (jD (o9.mono (hs h1 hle hsl w hp1) ?_))
  rintro x w' ⟨h',B,hst,rfl,rfl,rfl⟩
  refine ⟨h,L,⟨hst.os.trans hw.os,hst.tape.trans hw.tape,hst.output.trans hw.output,Nat.le_trans hw.size hst.size,fun b' hb' hM=>?_,hw.le,hw.old,fun b' o hb'=>?_,fun p hp=>?_,hw.dis,hw.free,hw.new⟩,t'⟩
  ·rw [hst.keep b' (Nat.lt_of_lt_of_le hb' hw.size) (by simp)];exact hw.keep b' hb' hM
  ·rw [hst.keep b' (gQ (hw.imm b' o hb')) (by simp)];exact hw.imm b' o hb'
  ·rw [hst.keep p.1 (gQ (hw.own p hp)) (by simp)];exact hw.own p hp
 rcases hG with ⟨rfl,rfl,rfl,rfl⟩ | ⟨bk,cl,sp,rfl,hcl,h3,h4,h5,rfl⟩
 ·exact back h (HF.le_refl h) hw.imm SlC.nil
 ·have hmem:(bk,Obj.cells (cl++sp).toArray E (0,0))∈L:=by rw [hL];simp
  have hle:h.le (h.add bk (.cells (cl++sp).toArray E (0,0))):=HF.yk (hw.free _ hmem)
  refine back _ hle (fun k o hk=>?_) ⟨bu.slB (hcl.mono hm hle) (HF.uG _ _ _) h5,h4⟩
  unfold HF.add at hk
  by_cases e0:k=bk
  ·subst e0;simp at hk;subst hk;exact hw.own _ hmem
  ·rw [if_neg e0] at hk;exact hw.imm k o hk
theorem JQ {t E:TypeId} {dir:ChanDir} {sz:Operand} {m zo:Nat} (hT:P.underlying t=some (.chan dir E)) (hby:bytesOf P E=some zo) (hsz:e.ev sz=.int .i64 (m:Nat)) (hm:m≤1000000000) (hb:zo≤4096)
  (t':∀ bk,K (pute e d (.chan (some bk))) h ((bk,.chan m #[] false 0 0 false)::L))
  (hg:guardB ops e ⟨d,.makeChan t sz,ty,pos,af,g⟩=true:=by rfl):Stp P b n ops F ds X ⟨d,.makeChan t sz,ty,pos,af,g⟩ e h L K:=
 iN hg fun w hw=>by
  refine ⟨_,_,h,_,?_,hw.alloc (.chan m #[] false 0 0 false),t' _⟩
  have h1:¬ ((m:Int) > IntKind.i64.max):=by
   have:IntKind.i64.max=9223372036854775807:=by rfl
   omega
  have h2:∃ i,P.info? E=some i∧i.bytes=zo:=by
   unfold bytesOf at hby
   cases hi:P.info? E with
   | none=>rw [hi] at hby;cases hby
   | some i=>rw [hi] at hby;exact ⟨i,rfl,by simpa using hby⟩
  obtain ⟨i,hi,hib⟩:=h2
  have h3:¬ ((i.bytes:Int) * (m:Int) > 2 ^ 48 - 112):=by
   rw [hib]
   have:zo * m≤4096 * 1000000000:=Nat.mul_le_mul hb hm
   have h4:((zo:Int) * (m:Int))=((zo * m:Nat):Int):=by simp
   rw [h4];omega
  simp only [execOp,Instr.makeChan,hsz]
  simp [asInt,asIntOf,run_underlying hT,typeInfo,hi]
  intro hc
  exfalso
  have h1':¬ (9223372036854775807 < (m:Int)):=by omega
  have h3':¬ (281474976710544 < (i.bytes:Int) * (m:Int)):=by
   intro h9;exact h3 (by simpa using h9)
  rcases hc with hc | hc | hc
  ·omega
  ·exact h1' hc
  ·exact h3' hc
end steps
theorem vK {s:GStep} {g:Goroutine} {cs:Array CommCase} {bl:Bool} {sh:CommShape} {w:World} (h:s.bare=.comm g cs bl sh w):∃ es,s=.comm g cs bl sh w es:=by
 cases s <;> simp at h
 obtain ⟨rfl,rfl,rfl,rfl,rfl⟩:=h
 exact ⟨_,rfl⟩
section comm
variable {P:Program} {b:Frame} {n:Nat} {ops:Array Oper} {l:List Oper} {k:List Item} {F:List Frame→(Machine→Prop)→Prop} {e:Env} {ds:List Deferred} {X:Cx} {h:HF} {L:LH}
variable {ty:TypeId} {pos:String} {af:Array Edge} {g:Option (Nat×Bool)}
theorem Mt (i:Nat) {ch x:Operand} {c cap s r:Nat} {vs:List Value} {v:Value} (hL:nth L i=some (c,.chan cap vs.toArray false s r false)) (hch:e.ev ch=.chan (some c)) (hx:e.ev x=v) (hroom:vs.length < cap)
  (t:TO P b n ops l k F e ds X h (setNth L i (c,.chan cap (vs++[v]).toArray false (s+1) r false)))
  (hg:guardB ops e ⟨none,.send ch x,ty,pos,af,g⟩=true:=by rfl):TO P b n ops (⟨none,.send ch x,ty,pos,af,g⟩::l) k F e ds X h L:=by
 intro w hw is hi a cs Φ hn he hds hF
 obtain ⟨j,js,rfl,ho,hj⟩:=nw hi
 have hwt:=(fq (ops:=ops) he).trans hg
 have hs:=stepGR_op (P:=P) (b:=b) (k:=k) (cs:=cs) (w:=w) (rest:=js) ho hwt
 rw [jk _ _ rfl,jq,he] at hs
 have hb:w.heap[c]? = some (.chan cap vs.toArray false s r false):=by
  have h2:=hL
  rw [gP] at h2
  exact hw.own _ (List.mem_of_getElem? h2)
 have hcm:∃ es,stepG P true (Go.Conc.G (b.atR a (.inRegion ops (j::js)::k)) cs) w=.comm (Go.Conc.G (b.atR a (.inRegion ops (j::js)::k)) cs) #[Go.Conc.scase c v (.tuple #[])] true .send w es:=by
  have hrun:(execOp e.ev ⟨none,.send ch x,ty,pos,af,g⟩).run P w=.ok (.comm #[Go.Conc.scase c v (.tuple #[])] true .send) w:=by
   simp [execOp,hch,hx,Go.Conc.scase]
  show ∃ es,stepG P true { frame:=b.atR a (.inRegion ops (j::js)::k),callers:=cs,status:=.running,dying:=none } w=_
  refine vK ?_
  rw [hs]
  simp [stepG.apply,hrun,Go.Conc.G]
 obtain ⟨es,hcm⟩:=hcm
 have h1:=Go.Conc.step_lone_send_room hcm hb (by simpa using hroom)
 refine .step h1 ?_
 rw [show Go.Conc.solo (Go.Conc.G ((b.atR a (.inRegion ops (j::js)::k)).finish undef) cs) (w.setChan c cap (vs.toArray.push v) false (s+1) r false)=lone ((b.atR a (.inRegion ops (j::js)::k)).finish undef) cs (w.setChan c cap (vs.toArray.push v) false (s+1) r false) from rfl,gz a js k ho undef]
 have hw2:=hw.write hL (.chan cap (vs++[v]).toArray false (s+1) r false)
 have e1:vs.toArray.push v=(vs++[v]).toArray:=by simp
 rw [e1]
 exact t _ hw2 js hj a cs Φ hn he hds hF
theorem Mu (i:Nat) {t E:TypeId} {dir:ChanDir} {ch:Operand} {d c cap s r:Nat} {vs:List Value} {v z:Value} (hT:P.underlying t=some (.chan dir E)) (hz:zeroV P E=some z) (hL:nth L i=some (c,.chan cap (v::vs).toArray false s r false)) (hch:e.ev ch=.chan (some c))
  (t':TO P b n ops l k F (upd e d v) ds X h (setNth L i (c,.chan cap vs.toArray false s (r+1) false)))
  (hd:Nat.blt d n=true:=by rfl) (hg:guardB ops e ⟨some d,.recv t ch false,ty,pos,af,g⟩=true:=by rfl):TO P b n ops (⟨some d,.recv t ch false,ty,pos,af,g⟩::l) k F e ds X h L:=by
 intro w hw is hi a cs Φ hn he hds hF
 obtain ⟨j,js,rfl,ho,hj⟩:=nw hi
 have hwt:=(fq (ops:=ops) he).trans hg
 have hs:=stepGR_op (P:=P) (b:=b) (k:=k) (cs:=cs) (w:=w) (rest:=js) ho hwt
 rw [jk _ _ rfl,jq,he] at hs
 have hb:w.heap[c]? = some (.chan cap (v::vs).toArray false s r false):=by
  have h2:=hL
  rw [gP] at h2
  exact hw.own _ (List.mem_of_getElem? h2)
 have hcm:∃ es,stepG P true (Go.Conc.G (b.atR a (.inRegion ops (j::js)::k)) cs) w=.comm (Go.Conc.G (b.atR a (.inRegion ops (j::js)::k)) cs) #[Go.Conc.rcase c z] true (.recv false) w es:=by
  have hrun:(execOp e.ev ⟨some d,.recv t ch false,ty,pos,af,g⟩).run P w=.ok (.comm #[Go.Conc.rcase c z] true (.recv false)) w:=by
   simp [execOp,run_underlying hT,eG hz,hch,Go.Conc.rcase]
  show ∃ es,stepG P true { frame:=b.atR a (.inRegion ops (j::js)::k),callers:=cs,status:=.running,dying:=none } w=_
  refine vK ?_
  rw [hs]
  simp [stepG.apply,hrun,Go.Conc.G]
 obtain ⟨es,hcm⟩:=hcm
 have h1:=Go.Conc.step_lone_recv_buf false hcm hb (by simp)
 refine .step h1 ?_
 have e2:Go.Conc.got false ((v::vs).toArray.getD 0 undef) true=v:=by simp [Go.Conc.got]
 have e1:(v::vs).toArray.extract 1 (v::vs).toArray.size=vs.toArray:=by simp
 rw [e2,e1]
 rw [show Go.Conc.solo (Go.Conc.G ((b.atR a (.inRegion ops (j::js)::k)).finish v) cs) (w.setChan c cap vs.toArray false s (r+1) false)=lone ((b.atR a (.inRegion ops (j::js)::k)).finish v) cs (w.setChan c cap vs.toArray false s (r+1) false) from rfl,gz a js k ho v]
 have hw2:=hw.write hL (.chan cap vs.toArray false s (r+1) false)
 have hdn:d < n:=Nat.le_of_ble_eq_true hd
 exact t' _ hw2 js hj (a.put (some d) v) cs Φ (by rw [mI];exact hn) (by rw [na _ _ _ (hn ▸ hdn),he]) (by rw [kF];exact hds) hF
end comm
section runs2
variable {P:Program} {e:Env} {X:Cx} {h:HF} {L:LH} {d:Option Nat} {ty:TypeId} {pos:String} {af:Array Edge} {g:Option (Nat×Bool)}
theorem Mm {t E:TypeId} {dir:ChanDir} {ch:Operand} {c cap s r:Nat} {vs:List Value} (hT:P.underlying t=some (.chan dir E)) (hL:(c,Obj.chan cap vs.toArray false s r false)∈L) (hch:e.ev ch=.chan (some c)):
  ∀ w,St X h L w→(execOp e.ev ⟨d,.call ⟨.builtin .len,#[ch],#[t]⟩,ty,pos,af,g⟩).run P w=.ok (.value (.int .i64 (vs.length:Nat))) w:=fun w hw=>by
 have hb:w.heap[c]? = some (.chan cap vs.toArray false s r false):=hw.own _ hL
 have hg:(getObj c).run P w=.ok (.chan cap vs.toArray false s r false) w:=by simp [getObj,Sem.run,hb]
 simp [execOp,resolve,invoke,builtin,Builtin.len_,hch,run_underlying hT,hg,goInt]
end runs2
theorem EW {P:Program} {α : Type} {R:Rp α} {X:Cx} {h:HF} {w:World} {L:LH} {t ty E:TypeId} {xs ys:List α} {base:Option Addr} {cap:Nat} {x:Value} {zo:Nat} {a:Bool} {zs:List Value}
  (hw:St X h L w) (hT:P.underlying t=some (.slice E)) (hS:tySz P E=some (R.sz,a)) (hz:zeroC P E=some zs) (hzl:zs.length=R.sz) (hby:bytesOf P E=some zo) (hs1:Src R h L (.slice base xs.length cap) xs) (hsrc:Src R h L x ys)
  (hcap:cap < xs.length+ys.length) (hb:(xs.length+ys.length) * zo≤140737488355328) (hb2:xs.length+ys.length≤9223372036854775807):
  ∃ base' cap' G' w',(Builtin.append_ #[t,t] ty #[.slice base xs.length cap,x]).run P w=.ok (.slice base' (xs++ys).length cap') w'∧em R E h (xs++ys) base' cap' G'∧St X h (G'++L) w':=by
 obtain ⟨i,hi,hby'⟩:∃ i,P.info? E=some i∧i.bytes=zo:=by
  unfold bytesOf at hby
  cases hi:P.info? E with
  | none=>simp [hi] at hby
  | some i=>exact ⟨i,rfl,by simpa [hi] using hby⟩
 have hsz:i.size=R.sz:=by
  have:=iy hS w
  simpa [sizeOf,typeInfo,hi] using this
 obtain ⟨z,hzz,hzc⟩:∃ z,i.zero=some z∧z.cells=zs.toArray:=by
  unfold zeroC at hz
  cases hzz:i.zero with
  | none=>simp [hi,hzz] at hz
  | some z=>exact ⟨z,rfl,by simp [hi,hzz] at hz;rw [lC,hz]⟩
 have hnewlen:(xs++ys).length=xs.length+ys.length:=by simp
 have hroom:¬ xs.length+ys.length≤cap:=by omega
 have hwd:St X h L w.drew:=hw.drew _
 obtain ⟨cl0,b0,c0,hx0,hc0,hf0⟩:=uM (P:=P) hs1 hwd
 obtain ⟨cl',b1,c1,hx',hc',hf'⟩:=uM (P:=P) hsrc hwd
 have hfit:Builtin.nextslicecap (xs.length+ys.length) cap * i.bytes≤281474976710656:=growslice_fits hcap (by rw [hby'];exact hb)
 have h48':¬ (281474976710656 < Builtin.nextslicecap (xs.length+ys.length) cap * i.bytes):=by omega
 have h63':¬ (9223372036854775807 < ((xs.length:Int)+(ys.length:Int))):=by omega
 have hge:=grownCap_ge w (xs.length+ys.length) cap E
 let nc:=grownCap w (xs.length+ys.length) cap E
 let rest:=(Builtin.zeroCells z.cells (nc - (xs.length+ys.length))).toList
 refine ⟨some ⟨w.heap.size,0,none⟩,nc,[(w.heap.size,.cells ((cl0++cl')++rest).toArray E (0,0))],w.drew.alloc (.cells ((cl0++cl')++rest).toArray E),?_,?_,?_⟩
 ·subst hx'
  rw [← hsz] at hf0 hf'
  simp [Builtin.append_,run_underlying hT,sizeOf,typeInfo,zeroValue,hi,hzz,Builtin.lenOf,hroom,h63',h48',Question.forced,hf0,hf',newRow,grownCap,nc,rest]
  congr 2
  apply Array.ext'
  simp
 ·refine .inr ⟨w.heap.size,cl0++cl',rest,rfl,bu.app hc' hc0,?_,by rw [hnewlen];exact hge,by rw [hnewlen];exact hb2,rfl⟩
  have:rest.length=(nc - (xs.length+ys.length)) * R.sz:=by
   simp [rest,Builtin.zeroCells,hzc,hzl]
  simp only [List.length_append,this,hc0.len,hc'.len,← Nat.add_mul]
  congr 1
  omega
 ·exact hwd.alloc (.cells ((cl0++cl')++rest).toArray E (0,0))
section steps3
variable {P:Program} {b:Frame} {n:Nat} {ops:Array Oper} {F:List Frame→(Machine→Prop)→Prop} {e:Env} {ds:List Deferred} {X:Cx} {h:HF} {L:LH} {K:Env→HF→LH→Prop}
variable {d:Option Nat} {ty:TypeId} {pos:String} {af:Array Edge} {g:Option (Nat×Bool)}
theorem Dc {α : Type} {R:Rp α} {t E:TypeId} {s y:Operand} {xs ys:List α} {base:Option Addr} {cap:Nat} {m zo:Nat} {a:Bool} {zs:List Value}
  (hT:P.underlying t=some (.slice E)) (hS:tySz P E=some (R.sz,a)) (hz:zeroC P E=some zs) (hzl:zs.length=R.sz) (hby:bytesOf P E=some zo)
  (hs1:Src R h L (.slice base xs.length cap) xs) (hx:e.ev s=.slice base m cap) (hm:m=xs.length) (hsrc:Src R h L (e.ev y) ys) (hcap:cap < xs.length+ys.length)
  (hb:(xs.length+ys.length) * zo≤140737488355328) (hb2:xs.length+ys.length≤9223372036854775807)
  (t':∀ base' cap' G',em R E h (xs++ys) base' cap' G'→K (pute e d (.slice base' (xs++ys).length cap')) h (G'++L))
  (hgd:guardB ops e ⟨d,.call ⟨.builtin .append,#[s,y],#[t,t]⟩,ty,pos,af,g⟩=true:=by rfl):Stp P b n ops F ds X ⟨d,.call ⟨.builtin .append,#[s,y],#[t,t]⟩,ty,pos,af,g⟩ e h L K:=
 iN hgd fun w hw=>by
  subst hm
  obtain ⟨base',cap',G',w',hr,hG',hst⟩:=EW (P:=P) (ty:=ty) hw hT hS hz hzl hby hs1 hsrc hcap hb hb2
  refine ⟨_,w',h,_,?_,hst,t' _ _ _ hG'⟩
  simp [execOp,resolve,invoke,builtin,hx,hr]
theorem Io {t E:TypeId} {len sz:Nat} {a:Bool} {parts:Array (Nat×Operand)} {zs cells:List Value} (hXM:∀ b∈X.M,b < X.w0.heap.size) (hT:P.underlying t=some (.slice E)) (hS:tySz P E=some (sz,a)) (hz:zeroC P E=some zs) (hpos:Nat.blt 0 (len * sz)=true)
  (hlt:Nat.ble (len * sz) 16777216=true)
  (hc:Instr.fill (fun i=>some (i * sz,sz)) ((Array.range (len * sz)).map (zs.toArray[· % zs.toArray.size]!)) (parts.toList.map fun p=>(p.1,e.ev p.2))=some cells.toArray)
  (t':∀ bk,bk∉X.M→K (pute e d (.slice (some ⟨bk,0,none⟩) len len)) h ((bk,.cells cells.toArray E (0,0))::L))
  (hg:guardB ops e ⟨d,.buildSlice t len parts,ty,pos,af,g⟩=true:=by rfl):Stp P b n ops F ds X ⟨d,.buildSlice t len parts,ty,pos,af,g⟩ e h L K:=
 iN hg fun w hw=>by
  obtain ⟨z,h1,h2⟩:=pu hz w
  have hp:=m6 hpos
  have hl:=Nat.le_of_ble_eq_true hlt
  have hparts:(parts.map fun x=>(x.1,e.ev x.2)).toList=parts.toList.map fun p=>(p.1,e.ev p.2):=by simp
  refine ⟨_,_,h,_,?_,hw.alloc _,t' _ (fun hm=>by have:=hXM _ hm;have:=hw.size;omega)⟩
  have hne:¬ len * sz=0:=by omega
  have hnl:¬ len * sz > 2 ^ 24:=by omega
  simp only [execOp,Instr.buildSlice,Sem.run_bind,run_underlying hT,Result.andThen_ok,iy hS,hnl,hne,if_false,h1,h2,Sem.run_pure,hparts]
  rw [hc]
  simp [newRow]
theorem DR (A Q:LH) {t:Nat} {ass:Array Operand} {ats:Array TypeId} {fv:Value} {vs:List Value} {Φ : LH→Prop} (hL:L.Perm (A++Q))
  (hs:kZ P fv vs.toArray h A (fun x h' B=>x=.returned (.tuple #[])∧h'=h∧Φ B)) (hf:e t=fv) (hvs:ass.toList.map e.ev=vs) (t':∀ B,Φ B→K (pute e d (.tuple #[])) h (B++Q))
  (hg:guardB ops e ⟨d,.call ⟨.value (.tmp t),ass,ats⟩,ty,pos,af,g⟩=true:=by rfl):Stp P b n ops F ds X ⟨d,.call ⟨.value (.tmp t),ass,ats⟩,ty,pos,af,g⟩ e h L K:=by
 unfold Stp
 rw [if_pos hg]
 intro w hw
 have hw':=hw.perm hL
 have harr:ass.map e.ev=vs.toArray:=Array.ext' (by simp [← hvs])
 obtain ⟨nx,hrun,hcall⟩:=hs w (Pre.left (A:=A) hw'.pre)
 have hr:(execOp e.ev ⟨d,.call ⟨.value (.tmp t),ass,ats⟩,ty,pos,af,g⟩).run P w=.ok nx w:=by
  rw [← hrun]
  simp [execOp,resolve,Env.ev,harr,hf]
 rw [hr]
 refine kD (lK hcall) (hcall.mono ?_)
 rintro x w' ⟨h',B,hst,rfl,rfl,hB⟩
 exact ⟨h',_,St.after (A:=A) (F:=Q) hw' hst,t' B hB⟩
theorem AE {o:Oper} {L':LH} (hp:L.Perm L') (t:Stp P b n ops F ds X o e h L' K) (hg:guardB ops e o=true:=by rfl):Stp P b n ops F ds X o e h L K:=by
 unfold Stp at t ⊢
 rw [if_pos hg] at t ⊢
 exact fun w hw=>t w (hw.perm hp)
end steps3
section runs3
variable {P:Program} {e:Env} {X:Cx} {h:HF} {L:LH} {d:Option Nat} {ty:TypeId} {pos:String} {af:Array Edge} {g:Option (Nat×Bool)}
theorem Mn {t E:TypeId} {x hi mx:Operand} {sz n cap:Nat} {a:Bool} {base:Option Addr} (hT:P.underlying t=some (.slice E)) (hS:tySz P E=some (sz,a)) (hx:e.ev x=.slice base n cap) (hhi:e.ev hi=.int .i64 (n:Nat)) (hmx:e.ev mx=.int .i64 (n:Nat)) (hc:n≤cap):
  ∀ w,St X h L w→(execOp e.ev ⟨d,.slice t x none (some hi) (some mx),ty,pos,af,g⟩).run P w=.ok (.value (.slice base n n)) w:=fun w hw=>by
 by_cases h0:n=0
 ·subst h0
  simp [execOp,Instr.sliceAt,Instr.slice,Instr.sliceBounds,Instr.sliceBound,hx,hhi,hmx,asIntOf,run_underlying hT,iy hS,hc]
 ·simp [execOp,Instr.sliceAt,Instr.slice,Instr.sliceBounds,Instr.sliceBound,hx,hhi,hmx,asIntOf,run_underlying hT,iy hS,hc,h0,Addr.add]
end runs3
theorem nf.del {κ α : Type} {enc:κ→Value} {V:HF→Value→α→Prop} {h:HF} [DecidableEq κ] {k:κ}:∀ {es:List MapEntry} {m:List (κ×α)} (j:Nat),nf enc V h es m →
  match findIn k (m.map (·.1)) es j with
  | some (i,_)=>j≤i∧i - j < es.length∧nf enc V h (es.eraseIdx (i - j)) (mdel m k)
  | none=>nf enc V h es (mdel m k)
 | [],[],_,_=>trivial
 | e::es,(k',v)::m,j,⟨a,b,c⟩=>by
  simp only [List.map_cons,findIn,mdel]
  by_cases hk:k=k'
  ·simp only [hk,if_true]
   refine ⟨Nat.le_refl _,by simp,?_⟩
   rw [Nat.sub_self];exact c
  ·simp only [hk,if_false]
   have ih:=nf.del (k:=k) (j+1) c
   cases hf:findIn k (m.map (·.1)) es (j+1) with
   | none=>rw [hf] at ih;exact ⟨a,b,ih⟩
   | some p=>
    obtain ⟨i,u⟩:=p
    rw [hf] at ih
    obtain ⟨h1,h2,h3⟩:=ih
    have e1:i - j=(i - (j+1))+1:=by omega
    refine ⟨by omega,by simp;omega,?_⟩
    rw [e1,List.eraseIdx_cons_succ];exact ⟨a,b,h3⟩
 | [],_::_,_,x=>x.elim
 | _::_,[],_,x=>x.elim
section del
variable {P:Program} {b:Frame} {n:Nat} {ops:Array Oper} {F:List Frame→(Machine→Prop)→Prop} {e:Env} {ds:List Deferred} {X:Cx} {h:HF} {L:LH} {K:Env→HF→LH→Prop}
variable {d:Option Nat} {ty:TypeId} {pos:String} {af:Array Edge} {g:Option (Nat×Bool)} {κ α : Type} {enc:κ→Value} {V:HF→Value→α→Prop} [DecidableEq κ]
end del
theorem yd {α : Type} [DecidableEq α]:∀ {a b:List α},a.Nodup→(∀ x∈a,x∈b)→a.length≤b.length
 | [],b,_,_=>Nat.zero_le _
 | x::a,b,hn,hs=>by
  rw [List.nodup_cons] at hn
  have hx:x∈b:=hs x (List.mem_cons_self ..)
  have ih:=yd (b:=b.erase x) hn.2 (fun y hy=>by
   have hne:y≠x:=fun e=>hn.1 (e ▸ hy)
   rw [List.mem_erase_of_ne hne];exact hs y (List.mem_cons_of_mem _ hy))
  rw [List.length_erase_of_mem hx] at ih
  have:=List.length_pos_of_mem hx
  simp only [List.length_cons]
  omega
section frz
variable {P:Program} {b:Frame} {n:Nat} {k:List Item} {F:List Frame→(Machine→Prop)→Prop} {e:Env} {ds:List Deferred} {X:Cx} {h:HF} {L:LH}
theorem Ao {todo:List Item} (A G Q:LH) (hL:L=A++(G++Q)) (hM:X.M=[]) (t:∀ h2,h.le h2→(∀ p∈G,h2 p.1=some p.2)→TT P b n todo F e ds X h2 (A++Q)):TT P b n todo F e ds X h L:=by
 subst hL
 intro w hw
 obtain ⟨h1,h2,h3⟩:=hw.freezeMid hM
 exact t _ h2 h3 w h1
theorem K5 {c:Code} {ι : Type} (sl:ι→List (Nat×Value)) (hh:ι→HF) (LL:ι→LH) (I:ι→Prop) (hk:∀ i,I i→∀ e',TT P b n k F (upds e' (sl i)) ds X (hh i) (LL i))
  (t':(∀ i e',I i→ju e' (sl i)→TT P b n k F e' ds X (hh i) (LL i))→TT P b n (.code c::k) F e ds X h L):TT P b n (.code c::k) F e ds X h L:=
 t' fun i e' hI hr=>by have:=hk i hI e';rw [hr.upds] at this;exact this
end frz
end Go.Sg
namespace Go.Sg
def attR:Except Int Unit→Int
 | .ok _=>0
 | .error e=>e
def idxByte (s:ByteArray) (c:Int):Int:=match (List.range s.size).find? (fun i=>s[i]! == UInt8.ofNat c.toNat) with
 | some i=>(i:Nat)
 | none=>-1
def bsI (xs:List Int) (t:Int):Int:=((xs.countP (· < t):Nat):Int)
def slices_BinarySearch_int (x:List Int) (target:Int):Int×Bool:=(bsI x target,x.contains target)
def insI (x:Int):List Int→List Int
 | []=>[x]
 | y::l=>bif decide (x≤y) then x::y::l else y::insI x l
def sortI:List Int→List Int
 | []=>[]
 | x::l=>insI x (sortI l)
theorem yq (x:Int):∀ l,(insI x l).Perm (x::l)
 | []=>List.Perm.refl _
 | y::l=>by
  simp only [insI,Bool.cond_eq_ite]
  split
  ·exact List.Perm.refl _
  ·exact (List.Perm.cons y (yq x l)).trans (List.Perm.swap x y l)
theorem j3:∀ xs,(sortI xs).Perm xs
 | []=>List.Perm.refl _
 | x::l=>(yq x _).trans (List.Perm.cons x (j3 l))
theorem ir (xs:List Int):(sortI xs).length=xs.length:=(j3 xs).length_eq
theorem za (x:Int):∀ l:List Int,l.Pairwise (·≤·)→(insI x l).Pairwise (·≤·)
 | [],_=>by simp [insI]
 | y::l,h=>by
  rw [List.pairwise_cons] at h
  simp only [insI,Bool.cond_eq_ite,decide_eq_true_eq]
  split
  ·next hxy=>
   rw [List.pairwise_cons]
   refine ⟨fun z hz=>?_,List.pairwise_cons.2 h⟩
   rcases List.mem_cons.1 hz with rfl | hz
   ·exact hxy
   ·exact Int.le_trans hxy (h.1 z hz)
  ·next hxy=>
   rw [List.pairwise_cons]
   refine ⟨fun z hz=>?_,za x l h.2⟩
   rcases List.mem_cons.1 ((yq x l).mem_iff.1 hz) with rfl | hz
   ·omega
   ·exact h.1 z hz
theorem kw:∀ xs,(sortI xs).Pairwise (·≤·)
 | []=>List.Pairwise.nil
 | x::l=>za x _ (kw l)
theorem tO:∀ {a b:List Int},a.Pairwise (·≤·)→b.Pairwise (·≤·)→a.Perm b→a=b
 | [],b,_,_,p=>(List.Perm.nil_eq p)
 | x::a,[],_,_,p=>absurd p.length_eq (by simp)
 | x::a,y::b,ha,hb,p=>by
  have hx:x=y:=by
   have h1:x∈y::b:=p.mem_iff.1 (List.mem_cons_self ..)
   have h2:y∈x::a:=p.mem_iff.2 (List.mem_cons_self ..)
   rw [List.pairwise_cons] at ha hb
   rcases List.mem_cons.1 h1 with e | h1
   ·exact e
   ·rcases List.mem_cons.1 h2 with e | h2
    ·exact e.symm
    ·have:=ha.1 y h2;have:=hb.1 x h1;omega
  subst hx
  rw [List.pairwise_cons] at ha hb
  rw [tO ha.2 hb.2 (List.Perm.cons_inv p)]
theorem EM {xs ys:List Int} (p:xs.Perm ys):sortI xs=sortI ys:=
 tO (kw _) (kw _) ((j3 xs).trans (p.trans (j3 ys).symm))
def insS (x:OSeat):List OSeat→List OSeat
 | []=>[x]
 | y::l=>bif decide (x.person≤y.person) then x::y::l else y::insS x l
def seatS:List OSeat→List OSeat
 | []=>[]
 | x::l=>insS x (seatS l)
theorem yo (x:OSeat):∀ l,(insS x l).Perm (x::l)
 | []=>List.Perm.refl _
 | y::l=>by
  simp only [insS,Bool.cond_eq_ite]
  split
  ·exact List.Perm.refl _
  ·exact (List.Perm.cons y (yo x l)).trans (List.Perm.swap x y l)
theorem ss:∀ xs,(seatS xs).Perm xs
 | []=>List.Perm.refl _
 | x::l=>(yo x _).trans (List.Perm.cons x (ss l))
theorem yZ (x:OSeat):∀ l:List OSeat,l.Pairwise (fun a b=>a.person≤b.person)→(insS x l).Pairwise (fun a b=>a.person≤b.person)
 | [],_=>by simp [insS]
 | y::l,h=>by
  rw [List.pairwise_cons] at h
  simp only [insS,Bool.cond_eq_ite,decide_eq_true_eq]
  split
  ·next hxy=>
   rw [List.pairwise_cons]
   refine ⟨fun z hz=>?_,List.pairwise_cons.2 h⟩
   rcases List.mem_cons.1 hz with rfl | hz
   ·exact hxy
   ·exact Int.le_trans hxy (h.1 z hz)
  ·next hxy=>
   rw [List.pairwise_cons]
   refine ⟨fun z hz=>?_,yZ x l h.2⟩
   rcases List.mem_cons.1 ((yo x l).mem_iff.1 hz) with rfl | hz
   ·omega
   ·exact h.1 z hz
theorem wT:∀ xs,(seatS xs).Pairwise (fun a b=>a.person≤b.person)
 | []=>List.Pairwise.nil
 | x::l=>yZ x _ (wT l)
theorem D6 (xs:List Int):(xs.mergeSort fun x y=>decide (x≤y))=sortI xs:=by
 have h:=List.pairwise_mergeSort (le:=fun x y:Int=>decide (x≤y)) (fun a b c h1 h2=>by simp at *;omega) (fun a b=>by simp;omega) xs
 exact tO (h.imp (fun h=>by simpa using h)) (kw _) ((List.mergeSort_perm _ _).trans (j3 xs).symm)
theorem rQ {κ α : Type} [DecidableEq κ] {P:α→Prop}:∀ {m:List (κ×α)} (k:κ) {v:α},(∀ p∈m,P p.2)→P v→∀ p∈mput m k v,P p.2
 | [],k,v,_,hv,p,hp=>by simp [mput] at hp;subst hp;exact hv
 | (k',v')::m,k,v,h,hv,p,hp=>by
  simp only [mput] at hp
  split at hp
  ·rcases List.mem_cons.1 hp with rfl | hp
   ·exact hv
   ·exact h p (List.mem_cons_of_mem _ hp)
  ·rcases List.mem_cons.1 hp with rfl | hp
   ·exact h _ (List.mem_cons_self ..)
   ·exact rQ k (fun q hq=>h q (List.mem_cons_of_mem _ hq)) hv p hp
theorem Fj {κ α : Type} [DecidableEq κ] {P:α→Prop}:∀ {m:List (κ×α)} (k:κ) {v:α},(∀ p∈m,P p.2)→mget? m k=some v→P v
 | [],k,v,_,h=>by simp [mget?] at h
 | (k',v')::m,k,v,h,hg=>by
  simp only [mget?] at hg
  split at hg
  ·cases hg;exact h (k',v') (List.mem_cons_self ..)
  ·exact Fj k (fun q hq=>h q (List.mem_cons_of_mem _ hq)) hg
theorem uQ {κ α : Type} [DecidableEq κ] {P:α→Prop} {m:List (κ×α)} (k:κ) {z:α} (h:∀ p∈m,P p.2) (hz:P z):P (mgetD m k z):=by
 unfold mgetD
 cases hg:mget? m k with
 | none=>exact hz
 | some v=>exact Fj k h hg
def compStep (out:List Int) (x:Int):List Int:=if out.getLast? = some x then out else out++[x]
def compI (xs:List Int):List Int:=xs.foldl compStep []
def slices_Compact_int (xs:List Int):List Int:=compI xs
end Go.Sg
namespace Go.Sg
def RdN {α : Type} (l:Nat) (lp:Loop) (I:List α→HF→LH→Prop) (J:Code→HF→LH→Prop) (Pn:List PanicEntry→HF→LH→Prop) (done:List α) (x:α) (r':Ending) (h:HF) (B:LH):Prop:=
 (r'=.returned (.bool true)∧∃ L',B=(l,.loop { lp with state:=.ready,pending:=none })::L'∧I (done++[x]) h L') ∨
 (r'=.returned (.bool false)∧∃ c L',B=(l,.loop { lp with state:=.done,pending:=some c })::L'∧J c h L') ∨
 (∃ ch,r'=.panicked ch∧∃ lp' L',B=(l,.loop lp')::L'∧Pn ch h L')
section
variable {α : Type} {P:Program} {l:Nat} {f:FuncId} {n:Nat} {k:List Item} {e:Env} {X:Cx} {h:HF} {L:LH} {lp lp':Loop} {fn:Func} {I:List α→HF→LH→Prop} {J:Code→HF→LH→Prop} {Pn:List PanicEntry→HF→LH→Prop} {done:List α} {x:α}
theorem Ht (hlp:lp'={ lp with state:=.busy }) (hI:I (done++[x]) h L):TT P (roundFrame l f) n [] (kG P X (RdN l lp I J Pn done x)) e [] X h ((l,.loop lp')::L):=
 Hj 0 rfl (.inl ⟨rfl,L,by rw [hlp];rfl,hI⟩)
end
theorem Ig {α : Type} {P:Program} {l0:Nat} {lp0:Loop} {f:FuncId} {n:Nat} {k:List Item} {F:List Frame→(Machine→Prop)→Prop} {e:Env} {ds:List Deferred} {X:Cx} {h:HF} {L:LH} {g:Operand} {ps:List Tmp} {assign body:Code}
  {val:α→HF→List Value→Prop} {xs:List α} {it:Value} (i0:Nat) (hl0:nth L i0=some (l0,.loop lp0)) (I:List α→HF→LH→Prop)
  (hgv:e.ev g=it) (hit:Itr P it val xs h) (hps:ps.all (fun p=>Nat.blt p n)=true) (hval:∀ x h vs,val x h vs→vs.length=ps.length) (hIm:∀ done h1 h2 B,HF.le h1 h2→I done h1 B→I done h2 B) (h0:I [] h L)
  (round:∀ l lp done x rest vs h' L' X',xs=done++x::rest→h.le h'→I done h' L'→val x h' vs→lp.state=.ready→X'.h0=h'→(∀ b∈X'.M,b < X'.w0.heap.size) →
   TT P (roundFrame l f) n [.code assign,.beginRound,.code body] (kG P X' (RdN l lp I (fun _ _ _=>False) (fun _ _ _=>False) done x)) (setParams e ps vs) [] X' h' ((l,.loop lp)::L'))
  (next:∀ h' L',h.le h'→I xs h' L'→TT P (roundFrame l0 f) n k F e ds X h' L'):
  TT P (roundFrame l0 f) n (.code (.rangeFunc g ps.toArray assign body)::k) F e ds X h L:=by
 obtain ⟨f0,cap,rfl,hc0,hit⟩:=hit
 intro w hw a cs Φ hn he hds hF
 let l:=w.heap.size
 have hb0:w.heap[l0]? = some (.loop lp0):=oB hw hl0
 let lp:Loop:={ state:=.ready,pending:=none,fn:=f,tmps:=a.tmps,params:=ps.toArray,assign,body,defers:=lp0.defers }
 let w2:World:={ w with heap:=w.heap.push (.loop lp) }
 have hw2:St X h ((l,.loop lp)::L) w2:=hw.alloc _
 have henter:(Instr.enterLoop (roundFrame l0 f).fn a.tmps ps.toArray assign body (roundFrame l0 f).roundOf).run P w=.ok (l,[]) w2:=by
  have:=run_enterLoop_inner (P:=P) hb0 f a.tmps ps.toArray assign body
  exact this
 let C:List α→HF→LH→Prop:=fun done h' B=>∃ L',B=(l,.loop lp)::L'∧I done h' L'
 let Sp:HF→LH→Prop:=fun _ _=>False
 let Pm:List PanicEntry→HF→LH→Prop:=fun _ _ _=>False
 have hps':∀ p∈ps,p < n:=fun p hp=>m6 (List.all_eq_true.1 hps p hp)
 have hy:∀ done x rest vs h'' B,xs=done++x::rest→h.le h''→C done h'' B→val x h'' vs→kZ P (.func (.yield l) #[] #[]) vs.toArray h'' B (YR C Sp Pm done x):=by
  rintro done x rest vs h'' B hxs hle ⟨L',rfl,hI⟩ hv
  refine kZ.mono (R:=RdN l lp I (fun _ _ _=>False) (fun _ _ _=>False) done x) (tN (i:=0) (lp:=lp) rfl (by simp [lp];exact hval x h'' vs hv) ?_) ?_
  ·intro X' _ hX' hXM'
   have henv:envOf { tmps:=(ps.toArray.zip vs.toArray).foldl (fun tmps p=>tmps.setIfInBounds p.1 p.2) a.tmps,defers:=[] }=setParams e ps vs:=by
    have:=pf ps vs a.tmps a.defers hn hps'
    rw [← he]
    rw [← Array.foldl_toList]
    simpa using this
   have:=round l lp done x rest vs h'' L' X' hxs hle hI hv rfl hX' hXM'
   rw [← henv,← hn] at this
   exact this
  ·rintro x' h3 B' _ (⟨e1,L2,e2,h2⟩ | ⟨e1,c,L2,e2,h2⟩ | ⟨ch,e1,lp',L2,e2,h2⟩)
   ·exact .inl ⟨e1,L2,e2,h2⟩
   ·exact h2.elim
   ·exact h2.elim
 have hs:=hit (.yield l) #[] #[] C Sp Pm h ((l,.loop lp)::L) (HF.le_refl h) (fun _ _ _ _ hl ⟨L',e1,hi⟩=>⟨L',e1,hIm _ _ _ _ hl hi⟩) (fun _ _ _ _ hi=>hi) (fun _ _ _ _ _ hi=>hi) ⟨L,rfl,h0⟩ hy
 obtain ⟨nx,hrun,hcall⟩:=hs w2 hw2.pre
 have hev:a.eval g=e.ev g:=by rw [jq,he]
 have hnx:nx=.enter f0 (Value.func (.yield l) #[] #[]::cap).toArray:=by
  simp [Deferred.ofValue,invoke,hc0] at hrun
  simpa using hrun.symm
 subst hnx
 have hres:(resolve a.eval (rangeCall g l) 0).run P w2=.ok { target:=.fn (.func f0) cap.toArray,args:=#[.func (.yield l) #[] #[]] } w2:=by
  have hcst:∀ v,a.eval (.const v)=v:=fun _=>rfl
  simp [resolve,rangeCall,hev,hgv,hcst,Deferred.ofValue]
 have hinv:(invoke (.fn (.func f0) cap.toArray) #[.func (.yield l) #[] #[]]).run P w2=.ok (.enter f0 (Value.func (.yield l) #[] #[]::cap).toArray) w2:=by
  simp [invoke,hc0]
 have hback:∀ v w3,(∃ h' B,St ⟨w2,h,((l,Obj.loop lp)::L).map (·.1)⟩ h' B w3∧ItR C Sp Pm xs (.returned v) h' B) →
   To P Φ (lone (((roundFrame l0 f).atR { a with defers:=[]++a.defers } (.inRangeFunc l::k)).finish v) cs w3):=by
  rintro v w3 ⟨h',B,hst,hR⟩
  rw [finish_atR_inRangeFunc]
  have hS3:St X h' B w3:=by
   have:=St.after (A:=(l,.loop lp)::L) (F:=[]) (by simpa using hw2) hst
   simpa using this
  have hle:=hst.le
  rcases hR with ⟨_,hCS⟩ | ⟨ch,hx,_⟩
  ·rcases hCS with ⟨L',rfl,hI⟩ | hF
   ·have hb:w3.heap[l]? = some (.loop lp):=hS3.own _ (List.mem_cons_self ..)
    have hend:(Instr.endLoop l).run P w3=.ok none { w3 with heap:=w3.heap.setIfInBounds l (.loop { lp with state:=.exhausted }) }:=by
     simp [Instr.endLoop,Instr.getLoop,getObj,setObj,Sem.run,hb,lp]
    refine .step (stepR_endRangeFunc hend) ?_
    have hS4:=hS3.write (i:=0) rfl (.loop { lp with state:=.exhausted })
    exact next h' L' hle hI _ (hS4.sub (List.sublist_cons_self ..)) a cs Φ hn he hds hF
   ·exact hF.elim
  ·cases hx
 have hraise:∀ ch w3,(∃ h' B,St ⟨w2,h,((l,Obj.loop lp)::L).map (·.1)⟩ h' B w3∧ItR C Sp Pm xs (.panicked ch) h' B) →
   To P Φ (lone (((roundFrame l0 f).atR { a with defers:=[]++a.defers } (.inRangeFunc l::k)).raise ch) cs w3):=by
  rintro ch w3 ⟨h',B,hst,hR⟩
  rcases hR with ⟨hx,_⟩ | ⟨ch',hx,hP⟩
  ·cases hx
  ·exact hP.elim
 refine .step (stepR_rangeFunc henter hres hinv) ?_
 exact hcall _ cs Φ hback hraise
def HF.lend (h:HF) (L:LH):HF:=fun b=>match L.find? (fun p=>p.1==b) with | some p=>some p.2 | none=>h b
theorem HF.Fm {h:HF}:∀ {L:LH},(L.map (·.1)).Nodup→∀ p∈L,h.lend L p.1=some p.2
 | [],_,p,hp=>(List.not_mem_nil hp).elim
 | q::L,hd,p,hp=>by
  rw [List.map_cons,List.nodup_cons] at hd
  rcases List.mem_cons.1 hp with rfl | hp
  ·simp [HF.lend]
  ·have hne:(q.1==p.1)=false:=by
    rw [beq_eq_false_iff_ne];intro e;exact hd.1 (e ▸ List.mem_map_of_mem hp)
   have:=HF.Fm (h:=h) hd.2 p hp
   simpa [HF.lend,List.find?_cons,hne] using this
theorem HF.Lp {h:HF} {L:LH} (hf:∀ p∈L,h p.1=none):h.le (h.lend L):=fun b o hb=>by
 unfold HF.lend
 cases hq:L.find? (fun p=>p.1==b) with
 | none=>exact hb
 | some p=>
  have h1:=List.mem_of_find?_eq_some hq
  have h2:p.1=b:=by simpa using List.find?_some hq
  rw [← h2,hf p h1] at hb;cases hb
section steps
variable {P:Program} {b:Frame} {n:Nat} {ops:Array Oper} {F:List Frame→(Machine→Prop)→Prop} {e:Env} {ds:List Deferred} {X:Cx} {h:HF} {L:LH} {K:Env→HF→LH→Prop}
variable {d:Option Nat} {ty:TypeId} {pos:String} {af:Array Edge} {g:Option (Nat×Bool)}
theorem JT {f:FuncId} {ass:Array Operand} {ats:Array TypeId} {vs:List Value} {v:Value} (hc:∀ args w,(callFunc f args).run P w=.ok (.enter f args) w)
  (hs:∀ h1,h.le h1→(∀ p∈L,h1 p.1=some p.2)→Ret P f vs h1 v) (hvs:ass.toList.map e.ev=vs) (t':K (pute e d v) h L)
  (hg:guardB ops e ⟨d,.call ⟨.value (.func f),ass,ats⟩,ty,pos,af,g⟩=true:=by rfl):
  Stp P b n ops F ds X ⟨d,.call ⟨.value (.func f),ass,ats⟩,ty,pos,af,g⟩ e h L K:=by
 unfold Stp
 rw [if_pos hg]
 intro w hw
 have harr:ass.map e.ev=vs.toArray:=Array.ext' (by simp [← hvs])
 have hr:(execOp e.ev ⟨d,.call ⟨.value (.func f),ass,ats⟩,ty,pos,af,g⟩).run P w=.ok (.enter f vs.toArray) w:=by
  simp [execOp,resolve,Env.ev,Deferred.ofValue,invoke,harr,hc]
 rw [hr]
 have hp1:Pre (h.lend L) [] w:=⟨fun k o hk=>by
  unfold HF.lend at hk
  cases hq:L.find? (fun p=>p.1==k) with
  | none=>rw [hq] at hk;exact hw.imm k o hk
  | some p=>
   rw [hq] at hk
   have h2:p.1=k:=by simpa using List.find?_some hq
   have h3:p.2=o:=by simpa using hk
   rw [← h2,← h3];exact hw.own p (List.mem_of_find?_eq_some hq),fun _ hp=>(List.not_mem_nil hp).elim,List.nodup_nil,fun _ hp=>(List.not_mem_nil hp).elim⟩
 refine kD (by simp) (jD (o9.mono (hs _ (HF.Lp hw.free) (HF.Fm hw.dis) w hp1) ?_))
 rintro x w' ⟨h',B,hst,rfl,rfl,rfl⟩
 refine ⟨h,L,⟨hst.os.trans hw.os,hst.tape.trans hw.tape,hst.output.trans hw.output,Nat.le_trans hw.size hst.size,fun b' hb' hM=>?_,hw.le,hw.old,fun b' o hb'=>?_,fun p hp=>?_,hw.dis,hw.free,hw.new⟩,t'⟩
 ·rw [hst.keep b' (Nat.lt_of_lt_of_le hb' hw.size) (by simp)];exact hw.keep b' hb' hM
 ·rw [hst.keep b' (gQ (hw.imm b' o hb')) (by simp)];exact hw.imm b' o hb'
 ·rw [hst.keep p.1 (gQ (hw.own p hp)) (by simp)];exact hw.own p hp
end steps
section
variable {P:Program} {b:Frame} {n:Nat} {k:List Item} {F:List Frame→(Machine→Prop)→Prop} {e:Env} {ds:List Deferred} {X:Cx} {h:HF} {L:LH} {ops:Array Oper} {l:List Oper} {ty:TypeId} {pos:String} {af:Array Edge} {g:Option (Nat×Bool)}
theorem C6 {f:FuncId} {as:Array Operand} {ats:Array TypeId} {vs:List Value} (hro:b.roundOf=none) (hvs:as.toList.map e.ev=vs)
  (t':TO P b n ops l k F e ({ target:=.fn (.func f) #[],args:=vs.toArray }::ds) X h L)
  (hg:guardB ops e ⟨none,.defer ⟨.value (.func f),as,ats⟩,ty,pos,af,g⟩=true:=by rfl):TO P b n ops (⟨none,.defer ⟨.value (.func f),as,ats⟩,ty,pos,af,g⟩::l) k F e ds X h L:=by
 intro w hw is hi a cs Φ hn he hds hF
 obtain ⟨i,js,rfl,ho,hj⟩:=nw hi
 have hwt:=(fq (ops:=ops) he).trans hg
 have hst:=stepGR_op (P:=P) (b:=b) (k:=k) (cs:=cs) (w:=w) (rest:=js) ho hwt
 have harr:as.map e.ev=vs.toArray:=Array.ext' (by simp [← hvs])
 have hr:(execOp a.eval ⟨none,.defer ⟨.value (.func f),as,ats⟩,ty,pos,af,g⟩).run P w=.ok (.defer { target:=.fn (.func f) #[],args:=vs.toArray }) w:=by
  rw [jq,he]
  simp [execOp,resolve,Env.ev,Deferred.ofValue,harr]
 have hs:Oper.semAt b.roundOf a.eval ⟨none,.defer ⟨.value (.func f),as,ats⟩,ty,pos,af,g⟩=execOp a.eval ⟨none,.defer ⟨.value (.func f),as,ats⟩,ty,pos,af,g⟩:=by rw [hro];rfl
 refine .step (m₁:=lone (b.atR { a with defers:={ target:=.fn (.func f) #[],args:=vs.toArray }::a.defers } (.inRegion ops js::k)) cs w) ?_ (t' w hw js hj { a with defers:={ target:=.fn (.func f) #[],args:=vs.toArray }::a.defers } cs Φ hn he (by rw [hds]) hF)
 refine step_lone_go ?_
 have hfin:=gz (b:=b) { a with defers:={ target:=.fn (.func f) #[],args:=vs.toArray }::a.defers } js k ho undef
 rw [hst,hs]
 simp only [stepG.apply,Sem.runT_eq,hr,GStep.bare_after]
 exact congrArg (fun fr=>GStep.go { frame:=fr,callers:=cs,status:=.running,dying:=none } w) hfin
end
theorem EG {P:Program} {f g:FuncId} {n m:Nat} {k:List Item} {e:Env} {X:Cx} {h:HF} {L A Fr:LH} {cap:List Value} {c:Code} {fn gn:Func} {R:Ending→HF→LH→Prop} {R':HF→LH→Prop}
  (hf:P.funcs[f]? = some fn) (hg:P.funcs[g]? = some gn) (hb:gn.body=some c) (hm:gn.ntmps=m) (hle:Nat.ble cap.length m=true) (hc:∀ args w,(callFunc g args).run P w=.ok (.enter g args) w)
  (t:∀ X':Cx,X'.h0=h→TT P (deferFrame g) m [.code c] (Cm P X' .returning R') (envArgs cap) [] X' h A) (hL:L=A++Fr)
  (fin:∀ h' B,h.le h'→R' h' B→∀ a:Act,envOf a=e→∀ w,St X h' (B++Fr) w→∃ v h2 B2,(results fn a.tmps).run P w=.ok v w∧St X h2 B2 w∧R (.returned v) h2 B2):
  TT P (bodyFrame f) n (.code .ret::k) (kG P X R) e [{ target:=.fn (.func g) #[],args:=cap.toArray }] X h L:=by
 intro w hw a cs Φ hn he hds hF
 obtain ⟨cc,cs',rfl,h1,_⟩:=hF
 subst hL
 refine .step (stepR_ret rfl) ?_
 have hinv:(invoke (.fn (.func g) #[]) cap.toArray).run P w=.ok (.enter g cap.toArray) w:=by simp [invoke,hc]
 refine .step (step_defer (fr:={ (bodyFrame f).atR a (.code .ret::k) with mode:=.returning }) (by simp) hds rfl hinv) ?_
 have hle':=Nat.le_of_ble_eq_true hle
 have henter:Frame.enter P g cap.toArray .deferred=(deferFrame g).atR { tmps:=cap.toArray++Array.replicate (m - cap.length) undef,defers:=[] } [.code c]:=by
  simp [Frame.enter,Frame.atR,hg,hb,hm,deferFrame]
 rw [henter]
 refine t ⟨w,h,A.map (·.1)⟩ rfl w (St.start hw.pre.left) _ _ Φ (by simp;omega) (m4 _ _) rfl ⟨_,cc::cs',rfl,rfl,?_⟩
 rintro w' ⟨h',B,hst,hR'⟩
 obtain ⟨v,h2,B2,hv,hs2,hR⟩:=fin h' B hst.le hR' a he w' (hw.after hst)
 refine .step (gY (fn:=fn) (v:=v) rfl rfl rfl hf hv) ?_
 exact h1 v w' ⟨h2,B2,hs2,hR⟩
theorem Ap {P:Program} {f g:FuncId} {n m:Nat} {e:Env} {X:Cx} {h:HF} {L A Fr:LH} {cap:List Value} {c:Code} {fn gn:Func} {R:Ending→HF→LH→Prop} {R':HF→LH→Prop} {pv:Value}
  (hf:P.funcs[f]? = some fn) (hg:P.funcs[g]? = some gn) (hb:gn.body=some c) (hm:gn.ntmps=m) (hle:Nat.ble cap.length m=true) (hc:∀ args w,(callFunc g args).run P w=.ok (.enter g args) w)
  (t:∀ X':Cx,X'.h0=h→TT P (deferFrame g) m [.code c] (fun cs Φ=>∃ c rest,cs=c::rest∧c.mode=.panicking [{ v:=pv,recovered:=false }]∧Cm P X' (.panicking [{ v:=pv,recovered:=true }]) R' ({ c with mode:=.panicking [{ v:=pv,recovered:=true }] }::rest) Φ) (envArgs cap) [] X' h A) (hL:L=A++Fr)
  (fin:∀ h' B,h.le h'→R' h' B→∀ a:Act,envOf a=e→∀ w,St X h' (B++Fr) w→∃ v h2 B2,(results fn a.tmps).run P w=.ok v w∧St X h2 B2 w∧R (.returned v) h2 B2):
  TP P (bodyFrame f) n [{ v:=pv,recovered:=false }] (kG P X R) e [{ target:=.fn (.func g) #[],args:=cap.toArray }] X h L:=by
 intro w hw a cs Φ todo hn he hds hF
 obtain ⟨cc,cs',rfl,h1,_⟩:=hF
 subst hL
 have hinv:(invoke (.fn (.func g) #[]) cap.toArray).run P w=.ok (.enter g cap.toArray) w:=by simp [invoke,hc]
 refine .step (step_defer (fr:={ (bodyFrame f).atR a todo with mode:=.panicking [{ v:=pv,recovered:=false }] }) (by simp) hds rfl hinv) ?_
 have hle':=Nat.le_of_ble_eq_true hle
 have henter:Frame.enter P g cap.toArray .deferred=(deferFrame g).atR { tmps:=cap.toArray++Array.replicate (m - cap.length) undef,defers:=[] } [.code c]:=by
  simp [Frame.enter,Frame.atR,hg,hb,hm,deferFrame]
 rw [henter]
 refine t ⟨w,h,A.map (·.1)⟩ rfl w (St.start hw.pre.left) _ _ Φ (by simp;omega) (m4 _ _) rfl ⟨_,cc::cs',rfl,rfl,_,cc::cs',rfl,rfl,?_⟩
 rintro w' ⟨h',B,hst,hR'⟩
 obtain ⟨v,h2,B2,hv,hs2,hR⟩:=fin h' B hst.le hR' a he w' (hw.after hst)
 refine .step (gY (fn:=fn) (v:=v) rfl rfl rfl hf hv) ?_
 exact h1 v w' ⟨h2,B2,hs2,hR⟩
section
variable {P:Program} {b:Frame} {n:Nat} {k:List Item} {F:List Frame→(Machine→Prop)→Prop} {e:Env} {ds:List Deferred} {X:Cx} {h:HF} {L:LH}
theorem An {c:Code} (t:TT P b n (.code c::.inLoop c::k) F e ds X h L):TT P b n (.code (.loop c)::k) F e ds X h L:=
 fun w hw a cs Φ h1 h2 h3 h4=>.step stepR_loop (t w hw a cs Φ h1 h2 h3 h4)
theorem wL {c:Code} (t:TT P b n (.code c::.inLoop c::k) F e ds X h L):TT P b n (.inLoop c::k) F e ds X h L:=
 fun w hw a cs Φ h1 h2 h3 h4=>.step stepR_inLoop (t w hw a cs Φ h1 h2 h3 h4)
end
def XRH {ρ : Type} (pe:Int→Value) (x:Except Int ρ) (φ : ρ→Value→HF→Prop) (r:Ending) (h':HF) (B:LH):Prop:=
 B=[]∧match x with
  | .ok u=>∃ v,r=.returned v∧φ u v h'
  | .error p=>r=.panicked [{ v:=pe p,recovered:=false }]
abbrev DF {ρ : Type} (P:Program) (f:FuncId) (args:List Value) (h:HF) (pe:Int→Value) (x:Except Int ρ) (φ : ρ→Value→HF→Prop):Prop:=mP P f args.toArray h [] (XRH pe x φ)
def exD {ρ : Type} [Inhabited ρ]:Except Int ρ→ρ
 | .ok r=>r
 | .error _=>default
def exOk {ρ : Type}:Except Int ρ→Prop
 | .ok _=>True
 | .error _=>False
theorem LN {ρ : Type} [Inhabited ρ] {x:Except Int ρ} (h:exOk x):x=.ok (exD x):=by cases x with
 | ok r=>rfl
 | error p=>exact h.elim
section
variable {P:Program} {f:FuncId} {n:Nat} {k:List Item} {e:Env} {X:Cx} {h:HF} {L:LH} {fn:Func} {ρ : Type} {pe:Int→Value} {x:Except Int ρ} {φ : ρ→Value→HF→Prop}
theorem EF (ms:List Nat) {rs:List ResultVar} {u:ρ} (vs:List Value) (hf:P.funcs[f]? = some fn) (hr:fn.results=rs.toArray) (hv:qZ P e L rs vs) (hx:x=.ok u) (hφ : φ u (retVal vs) h):
  TT P (bodyFrame f) n (.code .ret::k) (kG P X (XRH pe x φ)) e (marks ms) X h (L++markB ms):=
 sj ms (v:=retVal vs) hf (fun a he w hw=>lk hr hv a he w hw) (fun _ hw=>hw.sub (List.nil_sublist _)) (by subst hx;exact ⟨rfl,_,rfl,hφ⟩)
theorem EI (ms:List Nat) {p:Int} (hf:P.funcs[f]? = some fn) (hx:x=.error p):
  TP P (bodyFrame f) n [{ v:=pe p,recovered:=false }] (kG P X (XRH pe x φ)) e (marks ms) X h (L++markB ms):=
 DK ms hf (fun _ hw=>hw.sub (List.nil_sublist _)) (by subst hx;exact ⟨rfl,rfl⟩)
end
section
variable {P:Program} {b:Frame} {n:Nat} {ops:Array Oper} {F:List Frame→(Machine→Prop)→Prop} {e:Env} {ds:List Deferred} {X:Cx} {h:HF} {L:LH} {K:Env→HF→LH→Prop}
variable {d:Option Nat} {ty:TypeId} {pos:String} {af:Array Edge} {g:Option (Nat×Bool)} {ρ : Type} {pe:Int→Value} {x:Except Int ρ} {φ : ρ→Value→HF→Prop}
theorem JS {f:FuncId} {as:Array Operand} {ats:Array TypeId} {vs:List Value}
  (hc:∀ args w,(callFunc f args).run P w=.ok (.enter f args) w) (hs:DF P f vs h pe x φ) (hvs:as.toList.map e.ev=vs)
  (t':∀ u v h',x=.ok u→h.le h'→φ u v h'→K (pute e d v) h' L) (tp:∀ p h',x=.error p→h.le h'→∀ e',TP P b n [{ v:=pe p,recovered:=false }] F e' ds X h' L)
  (hg:guardB ops e ⟨d,.call ⟨.value (.func f),as,ats⟩,ty,pos,af,g⟩=true:=by rfl):
  Stp P b n ops F ds X ⟨d,.call ⟨.value (.func f),as,ats⟩,ty,pos,af,g⟩ e h L K:=
 lF (A:=[]) (Fr:=L) hc hvs hs rfl (fun v' h' B hle hR=>by
   obtain ⟨rfl,hv⟩:=hR
   cases x with
   | ok u=>obtain ⟨v,hv,hφ⟩:=hv;cases hv;exact t' _ _ _ rfl hle hφ
   | error p=>cases hv)
  (fun ch h' B hle hR=>by
   obtain ⟨rfl,hv⟩:=hR
   cases x with
   | ok u=>obtain ⟨v,hv,_⟩:=hv;cases hv
   | error p=>cases hv;exact tp _ _ rfl hle) hg
theorem Db [Inhabited ρ] {f:FuncId} {as:Array Operand} {ats:Array TypeId} {vs:List Value}
  (hc:∀ args w,(callFunc f args).run P w=.ok (.enter f args) w) (hs:DF P f vs h pe x φ) (hok:exOk x) (hvs:as.toList.map e.ev=vs)
  (t':∀ v h',h.le h'→φ (exD x) v h'→K (pute e d v) h' L)
  (hg:guardB ops e ⟨d,.call ⟨.value (.func f),as,ats⟩,ty,pos,af,g⟩=true:=by rfl):
  Stp P b n ops F ds X ⟨d,.call ⟨.value (.func f),as,ats⟩,ty,pos,af,g⟩ e h L K:=
 JS hc hs hvs (fun u v h' hx hl hφ=>by subst hx;exact t' v h' hl hφ) (fun p h' hx=>by subst hx;exact hok.elim) hg
theorem mK [Inhabited ρ] {f:FuncId} {as:Array Operand} {ats:Array TypeId} {vs:List Value} {enc:ρ→Value}
  (hc:∀ args w,(callFunc f args).run P w=.ok (.enter f args) w) (hs:CV P f vs h (exW pe enc x)) (hok:exOk x) (hvs:as.toList.map e.ev=vs)
  (t':K (pute e d (enc (exD x))) h L)
  (hg:guardB ops e ⟨d,.call ⟨.value (.func f),as,ats⟩,ty,pos,af,g⟩=true:=by rfl):
  Stp P b n ops F ds X ⟨d,.call ⟨.value (.func f),as,ats⟩,ty,pos,af,g⟩ e h L K:=
 li hc hs hvs (fun u hu=>by
  obtain ⟨r,hr,rfl⟩:=mZ hu
  subst hr;exact t') (fun p hp=>by
  obtain ⟨q,hq,_⟩:=lr hp
  subst hq;exact hok.elim) hg
end
abbrev MY {α : Type} (P:Program) (f:FuncId) (args:List Value) (h:HF) (R:Rp α) (E:TypeId) (xs:List α):Prop:=
 mP P f args.toArray h [] (fun r h' G=>h'=h∧∃ b c,r=.returned (.slice b xs.length c)∧em R E h xs b c G)
section
variable {P:Program} {f:FuncId} {n:Nat} {k:List Item} {e:Env} {X:Cx} {h hh:HF} {L A G Q:LH} {fn:Func} {α : Type} {R:Rp α} {E:TypeId} {xs ys:List α} {base:Option Addr} {cap:Nat}
theorem St.forgetG {w:World} (s:St X h (A++(G++Q)) w):St X X.h0 G w:=
 (s.sub (L':=G) ((List.sublist_append_left G Q).trans (List.sublist_append_right A _))).lower
theorem KX (ms:List Nat) {rs:List ResultVar} (hf:P.funcs[f]? = some fn) (hr:fn.results=rs.toArray) (hX:X.h0=hh) (hL:L=A++(G++Q)) (hG:∀ h1,em R E h1 xs base cap G) (hv:qZ P e L rs [.slice base xs.length cap]) (hs:ys=xs):
  TT P (bodyFrame f) n (.code .ret::k) (kG P X (fun r h' G=>h'=hh∧∃ b c,r=.returned (.slice b ys.length c)∧em R E hh ys b c G)) e (marks ms) X h (L++markB ms):=by
 subst hs hL
 exact sj ms (v:=.slice base ys.length cap) hf (fun a he w hw=>lk hr hv a he w hw) (fun w hw=>hw.forgetG) ⟨hX,_,_,rfl,hG _⟩
end
theorem em.flat {α : Type} {R:Rp α} {E:TypeId} {h h1:HF} {xs:List α} {base:Option Addr} {cap:Nat} {G:LH} (hR:∀ h h' cs x,R.rep h cs x→R.rep h' cs x) (g:em R E h xs base cap G):em R E h1 xs base cap G:=by
 have hc:∀ {xs:List α} {cl:List Value},bu R h cl xs→bu R h1 cl xs:=by
  intro xs
  induction xs with
  | nil=>intro cl e;exact e
  | cons x xs ih=>rintro cl ⟨cs,rest,e,hl,hr,ht⟩;exact ⟨cs,rest,e,hl,hR _ _ _ _ hr,ih ht⟩
 rcases g with g | ⟨bk,cl,sp,e1,e2,e3⟩
 ·exact .inl g
 ·exact .inr ⟨bk,cl,sp,e1,hc e2,e3⟩
theorem E0 {P:Program} {f:FuncId} {fl args cap:List Value} {h:HF} {A:LH} {v:Value} (hc:∀ args w,(callFunc f args).run P w=.ok (.enter f args) w) (hr:MZ P f (fl++args++cap) h A v):
  rH P (.func (.func f) fl.toArray cap.toArray) args h A v:=by
 intro w hp
 refine ⟨.enter f (fl++args++cap).toArray,?_,jD (hr w hp)⟩
 simp [Deferred.ofValue,invoke,hc]
section
variable {P:Program} {e:Env} {X:Cx} {h:HF} {L:LH} {d:Option Nat} {ty:TypeId} {pos:String} {af:Array Edge} {g:Option (Nat×Bool)}
theorem Hu {t u:TypeId} {x y:Operand} {a c:Int} (hx:e.ev x=.int .i64 a) (hy:e.ev y=.int .i64 c) (hc:c≠0):
  ∀ w,St X h L w→(execOp e.ev ⟨d,.binOp .quo t x y u,ty,pos,af,g⟩).run P w=.ok (.value (.int .i64 (IntKind.wrap .i64 (a.tdiv c)))) w:=fun w _=>by
 simp [execOp,hx,hy,eqGuard,binOp,Op.intDiv,hc]
end
theorem KG {N i:Nat} (h:i < N) (hb:N≤9223372036854775807):Value.int .i64 (IntKind.i64.wrap (((N - i:Nat):Int) - 1))=.int .i64 (((N - (i+1):Nat)):Int):=by
 rw [jV (by omega)]
 congr 1;omega
section
variable {P:Program} {e:Env} {X:Cx} {h:HF} {L:LH} {d:Option Nat} {ty:TypeId} {pos:String} {af:Array Edge} {g:Option (Nat×Bool)}
theorem fF {x:Operand} {q:Addr} (hx:e.ev x=.pointer (some q)):
  ∀ w,St X h L w→(execOp e.ev ⟨d,.nilCheck x,ty,pos,af,g⟩).run P w=.ok (.value (.pointer (some q))) w:=fun w _=>by
 simp [execOp,hx]
end
theorem H3:∀ (c A R:List Value),cut (A++(c++R)) A.length c.length=some c
 | [],A,R=>rfl
 | v::c,A,R=>by
  have h1:nth (A++(v::c++R)) A.length=some v:=by rw [gP];simp
  have h2:=H3 c (A++[v]) R
  simp only [List.length_append,List.length_cons,List.length_nil,List.append_assoc,List.cons_append,List.nil_append] at h2
  simp only [List.length_cons,cut,h1]
  rw [show A++(v::c++R)=A++v::(c++R) from rfl,h2]
theorem wo {α : Type} {C:α→List Value} {sz:Nat} (hC:∀ x,(C x).length=sz):∀ {xs:List α} {i:Nat} {y:α},xs[i]? = some y→∃ a b,xs=a++y::b∧a.length=i∧(a.flatMap C).length=i * sz
 | [],i,y,h=>by simp at h
 | x::xs,0,y,h=>by simp at h;subst h;exact ⟨[],xs,rfl,rfl,by simp⟩
 | x::xs,i+1,y,h=>by
  obtain ⟨a,b,e,h1,h2⟩:=wo hC (xs:=xs) (i:=i) (y:=y) (by simpa using h)
  refine ⟨x::a,b,by rw [e];rfl,by simp [h1],?_⟩
  rw [List.flatMap_cons,List.length_append,hC,h2,Nat.add_mul];omega
theorem KI {α : Type} {C:α→List Value} {sz:Nat} (hC:∀ x,(C x).length=sz) {xs:List α} {sp:List Value} {i:Nat} {y:α} (h:xs[i]? = some y):cut (xs.flatMap C++sp) (i * sz) sz=some (C y):=by
 obtain ⟨a,b,rfl,_,h2⟩:=wo hC h
 have:=H3 (C y) (a.flatMap C) (b.flatMap C++sp)
 rw [h2,hC] at this
 simpa using this
theorem EL {α : Type} {C:α→List Value} {sz:Nat} (hC:∀ x,(C x).length=sz) {xs:List α} {sp:List Value} {i:Nat} {u y:α} (h:xs[i]? = some u):splice (xs.flatMap C++sp) (i * sz) (C y)=(xs.set i y).flatMap C++sp:=by
 obtain ⟨a,b,rfl,h1,h2⟩:=wo hC h
 have h3:((a++u::b).set i y)=a++y::b:=by rw [← h1];simp
 have:=uJ (C y) (a.flatMap C) (C u++(b.flatMap C++sp)) (by simp [hC])
 rw [h2] at this
 rw [h3]
 have h4:(C u++(b.flatMap C++sp)).drop (C y).length=b.flatMap C++sp:=by
  rw [hC,← hC u];simp
 rw [h4] at this
 simpa using this
theorem wy {α : Type} {R:Rp α} {C:α→List Value} (hR:∀ h cs x,R.rep h cs x→cs=C x) {h:HF}:∀ {xs:List α} {cl:List Value},bu R h cl xs→cl=xs.flatMap C
 | [],cl,e=>e
 | x::xs,cl,⟨cs,rest,e,_,hr,ht⟩=>by rw [e,hR _ _ _ hr,wy hR ht];rfl
theorem BS {α : Type} {R:Rp α} {C:α→List Value} (hR:∀ h x,R.rep h (C x) x) (hC:∀ x,(C x).length=R.sz) (h:HF):∀ (xs:List α),bu R h (xs.flatMap C) xs
 | []=>rfl
 | x::xs=>⟨C x,xs.flatMap C,rfl,hC x,hR h x,BS hR hC h xs⟩
theorem qh {α : Type} {C:α→List Value} {sz:Nat} (hC:∀ x,(C x).length=sz):∀ (xs:List α),(xs.flatMap C).length=xs.length * sz
 | []=>by simp
 | x::xs=>by rw [List.flatMap_cons,List.length_append,hC,qh hC xs,List.length_cons,Nat.add_mul];omega
theorem Gl {P:Program} {t E:TypeId} {sz:Nat} {z:Value} {zs:List Value} (hT:P.underlying t=some (.slice E)) (hz:∀ w,(zeroValue E).run P w=.ok z w) (hzc:z.cells=zs.toArray) (hzl:zs.length=sz) (h1:∀ v∈zs,one v=true) (hs0:0 < sz)
  {w:World} {bk off n cc:Nat} {cl:List Value} (hb:w.heap[bk]? = some (.cells cl.toArray E (0,0))) (hle:off+(n+1) * sz≤cl.length) (ty:TypeId):
  ∃ vs,vs.length=(n+1) * sz∧(Builtin.clear_ #[t] ty #[.slice (some ⟨bk,off,none⟩) (n+1) cc]).run P w=.ok (.tuple #[]) { w with heap:=w.heap.setIfInBounds bk (.cells (splice cl off vs).toArray E (0,0)) }:=by
 refine ⟨(Builtin.zeroCells z.cells (n+1)).toList,?_,?_⟩
 ·simp [Builtin.zeroCells,hzc,hzl]
 ·have hlen:(Builtin.zeroCells z.cells (n+1)).toList.length=(n+1) * sz:=by simp [Builtin.zeroCells,hzc,hzl]
  have h9:=lj (P:=P) off (Builtin.zeroCells z.cells (n+1)).toList 0 cl w hb (by rw [hlen];simpa using hle) (fun v hv=>by
   simp only [Builtin.zeroCells,Array.toList_map,List.mem_map] at hv
   obtain ⟨j,_,rfl⟩:=hv
   rw [hzc]
   have hj:j % zs.length < zs.length:=Nat.mod_lt _ (by omega)
   simp only [List.size_toArray]
   rw [getElem!_pos zs.toArray (j % zs.length) (by simpa using hj)]
   exact h1 _ (by simp))
  rw [Nat.add_zero] at h9
  simp only [Builtin.clear_,Sem.run_bind]
  simp [run_underlying hT,hz,h9]
section
variable {P:Program} {b:Frame} {n:Nat} {ops:Array Oper} {F:List Frame→(Machine→Prop)→Prop} {e:Env} {ds:List Deferred} {X:Cx} {h:HF} {L:LH} {K:Env→HF→LH→Prop}
variable {d:Option Nat} {ty:TypeId} {pos:String} {af:Array Edge} {g:Option (Nat×Bool)}
theorem Gs {t E:TypeId} {x lo:Operand} {sz bk n m cap i:Nat} {a:Bool} (hT:P.underlying t=some (.slice E)) (hS:tySz P E=some (sz,a)) (hx:e.ev x=.slice (some ⟨bk,0,none⟩) n cap) (hlo:e.ev lo=.int .i64 (i:Nat)) (hi:i < n) (hc:n≤cap) (hm:n - i=m):
  ∀ w,St X h L w→(execOp e.ev ⟨d,.slice t x (some lo) none none,ty,pos,af,g⟩).run P w=.ok (.value (.slice (some ⟨bk,i * sz,none⟩) m (cap - i))) w:=fun w hw=>by
 subst hm
 have h2:¬ (cap=i):=by omega
 have h3:(⟨bk,0,none⟩:Addr).add (i * sz)=⟨bk,i * sz,none⟩:=oK bk (i * sz)
 simp [execOp,Instr.sliceAt,Instr.slice,Instr.sliceBounds,Instr.sliceBound,hx,hlo,asIntOf,run_underlying hT,iy hS,h2,h3,Nat.le_of_lt hi]
theorem Ik (i:Nat) {t E:TypeId} {x:Operand} {sz off m cc bk:Nat} {z:Value} {zs cl:List Value} (hT:P.underlying t=some (.slice E)) (hz:∀ w,(zeroValue E).run P w=.ok z w) (hzc:z.cells=zs.toArray) (hzl:zs.length=sz) (h1:∀ v∈zs,one v=true) (hs0:0 < sz)
  (hL:nth L i=some (bk,.cells cl.toArray E (0,0))) (hx:e.ev x=.slice (some ⟨bk,off,none⟩) (m+1) cc) (hle:off+(m+1) * sz≤cl.length)
  (t':∀ vs,vs.length=(m+1) * sz→K (pute e d (.tuple #[])) h (setNth L i (bk,.cells (splice cl off vs).toArray E (0,0))))
  (hg:guardB ops e ⟨d,.call ⟨.builtin .clear,#[x],#[t]⟩,ty,pos,af,g⟩=true:=by rfl):Stp P b n ops F ds X ⟨d,.call ⟨.builtin .clear,#[x],#[t]⟩,ty,pos,af,g⟩ e h L K:=
 iN hg fun w hw=>by
  have hb:w.heap[bk]? = some (.cells cl.toArray E (0,0)):=by
   have h2:=hL
   rw [gP] at h2
   exact hw.own _ (List.mem_of_getElem? h2)
  obtain ⟨vs,hvl,hr⟩:=Gl (P:=P) (cc:=cc) hT hz hzc hzl h1 hs0 hb hle ty
  refine ⟨.tuple #[],_,h,_,?_,hw.write hL _,t' vs hvl⟩
  simp only [execOp,resolve,invoke,builtin]
  simp [hx,hr]
end
section
variable {P:Program} {b:Frame} {n:Nat} {ops:Array Oper} {F:List Frame→(Machine→Prop)→Prop} {e:Env} {ds:List Deferred} {X:Cx} {h:HF} {L:LH} {K:Env→HF→LH→Prop}
variable {d:Option Nat} {ty:TypeId} {pos:String} {af:Array Edge} {g:Option (Nat×Bool)}
theorem Le {α : Type} {R:Rp α} {E:TypeId} {xs:List α} {f:FuncId} {ass:Array Operand} {ats:Array TypeId} {vs:List Value}
  (hc:∀ args w,(callFunc f args).run P w=.ok (.enter f args) w) (hs:MY P f vs h R E xs) (hvs:ass.toList.map e.ev=vs)
  (t':∀ bb c G,em R E h xs bb c G→K (pute e d (.slice bb xs.length c)) h (L++G))
  (hg:guardB ops e ⟨d,.call ⟨.value (.func f),ass,ats⟩,ty,pos,af,g⟩=true:=by rfl):
  Stp P b n ops F ds X ⟨d,.call ⟨.value (.func f),ass,ats⟩,ty,pos,af,g⟩ e h L K:=by
 unfold Stp
 rw [if_pos hg]
 intro w hw
 have harr:ass.map e.ev=vs.toArray:=Array.ext' (by simp [← hvs])
 have hr:(execOp e.ev ⟨d,.call ⟨.value (.func f),ass,ats⟩,ty,pos,af,g⟩).run P w=.ok (.enter f vs.toArray) w:=by
  simp [execOp,resolve,Env.ev,Deferred.ofValue,invoke,harr,hc]
 rw [hr]
 refine kD (by simp) (jD (o9.mono (hs w (hw.sub (List.nil_sublist _)).pre) ?_))
 rintro x w' ⟨h',B,hst,rfl,bb,c,rfl,hG⟩
 exact ⟨h',_,(St.after (A:=[]) (F:=L) hw hst).perm List.perm_append_comm,t' bb c B hG⟩
end
section
variable {P:Program} {b:Frame} {n:Nat} {k:List Item} {F:List Frame→(Machine→Prop)→Prop} {ds:List Deferred} {X:Cx}
theorem Mg {σ : Type} {l:List Oper} {J:HF→LH→Prop} (m0:Nat) (Inv:σ→Env→HF→LH→Prop) (μ : σ→Nat) (dn:σ→List Nat)
  (fin:∀ s e h L,Inv s e h L→μ s=0→TA P b n l.toArray k F ds X J m0 (dn s) e h L)
  (step:∀ s e h L,Inv s e h L→μ s≠0→nexts l.toArray (dn s)≠[]∧∀ i∈nexts l.toArray (dn s),∀ o,nth l i=some o→Stp P b n l.toArray F ds X o e h L (fun e' h' L'=>J h' L'∧∃ s',μ s=μ s'+1∧(i::dn s).Perm (dn s')∧Inv s' e' h' L')):
  ∀ (m:Nat) (s:σ) (e:Env) (h:HF) (L:LH),μ s=m→Inv s e h L→TA P b n l.toArray k F ds X J (m+m0) (dn s) e h L:=by
 intro m
 induction m with
 | zero=>intro s e h L hm hI;rw [Nat.zero_add];exact fin s e h L hI hm
 | succ m ih=>
  intro s e h L hm hI
  obtain ⟨h0,h1⟩:=step s e h L hI (by omega)
  rw [show m+1+m0=(m+m0)+1 from by omega]
  refine ⟨fun hn=>absurd hn h0,fun i hi o ho=>Stp.mono ?_ (h1 i hi o (by rw [gP];simpa using ho))⟩
  rintro e' h' L' ⟨hj,s',hs,hp,hI'⟩
  exact ⟨hj,TA.perm (fun x=>hp.mem_iff.symm) (ih s' e' h' L' (by omega) hI')⟩
theorem Lb {l:List Oper} {dn:List Nat} {e:Env} {h:HF} {L:LH} {Q:Nat→Env→HF→LH→Prop} (is:List Nat) (hn:nexts l.toArray dn=is) (h0:is≠[])
  (t:∀ i∈is,∀ o,nth l i=some o→Stp P b n l.toArray F ds X o e h L (Q i)):nexts l.toArray dn≠[]∧∀ i∈nexts l.toArray dn,∀ o,nth l i=some o→Stp P b n l.toArray F ds X o e h L (Q i):=by
 rw [hn];exact ⟨h0,t⟩
end
theorem pmid {α : Type} {T X X':List α} {i:α} (h:(i::X).Perm X'):(i::(T++X)).Perm (T++X'):=List.perm_middle.symm.trans (List.Perm.append_left T h)
section
variable {P:Program} {b:Frame} {n:Nat} {ops:Array Oper} {F:List Frame→(Machine→Prop)→Prop} {e:Env} {ds:List Deferred} {X:Cx} {h:HF} {L:LH} {K:Env→HF→LH→Prop}
variable {d:Option Nat} {ty:TypeId} {pos:String} {af:Array Edge} {g:Option (Nat×Bool)}
theorem C9 {t E:TypeId} {ln cp:Operand} {m zo:Nat} {z:Value} {a:Bool} (hT:P.underlying t=some (.slice E)) (hz:zeroC P E=some [z]) (hS:tySz P E=some (1,a)) (hby:bytesOf P E=some zo)
  (hl:e.ev ln=.int .i64 (m:Nat)) (hc:e.ev cp=.int .i64 (m:Nat)) (hb:zo * m≤281474976710656) (h63:m≤9223372036854775807)
  (t':∀ bk,K (pute e d (.slice (some ⟨bk,0,none⟩) m m)) h ((bk,.cells (List.replicate m z).toArray E (0,0))::L))
  (hg:guardB ops e ⟨d,.makeSlice t ln cp,ty,pos,af,g⟩=true:=by rfl):Stp P b n ops F ds X ⟨d,.makeSlice t ln cp,ty,pos,af,g⟩ e h L K:=
 iN hg fun w hw=>by
  obtain ⟨i,hi,hby'⟩:∃ i,P.info? E=some i∧i.bytes=zo:=by
   unfold bytesOf at hby
   cases hi:P.info? E with
   | none=>simp [hi] at hby
   | some i=>exact ⟨i,rfl,by simpa [hi] using hby⟩
  have hsz:i.size=1:=by
   have:=iy hS w
   simpa [sizeOf,typeInfo,hi] using this
  obtain ⟨zv,hzz,hzc⟩:∃ zv,i.zero=some zv∧zv.cells=#[z]:=by
   unfold zeroC at hz
   cases hzz:i.zero with
   | none=>simp [hi,hzz] at hz
   | some zv=>exact ⟨zv,rfl,by simp [hi,hzz] at hz;rw [lC,hz]⟩
  have hr:=run_make (P:=P) w t E i zv hT hi hzz .i64 .i64 (m:Int) (m:Int) (by omega) (Int.le_refl _) (by rw [hby'];omega) (by omega)
  have hcells:madeCells zv.cells ((m:Int).toNat * i.size)=(List.replicate m z).toArray:=by
   rw [hzc,hsz]
   apply Array.ext
   ·simp [madeCells]
   ·intro j h1 h2;simp [madeCells,Nat.mod_one]
  rw [hcells] at hr
  simp only [Int.toNat_natCast] at hr
  refine ⟨_,_,h,_,?_,hw.alloc _,t' _⟩
  have e1:w.alloc (.cells (List.replicate m z).toArray E)={ w with heap:=w.heap.push (.cells (List.replicate m z).toArray E (0,0)) }:=rfl
  rw [e1] at hr
  simp [execOp,hl,hc,hr]
end
theorem DO {P:Program} {b:Frame} {n:Nat} {ops:Array Oper} {F:List Frame→(Machine→Prop)→Prop} {e:Env} {ds:List Deferred} {X:Cx} {h:HF} {L:LH} {K:Env→HF→LH→Prop} {o:Oper} (sl:List (Nat×Value)) (hr:ju e sl) (t:Stp P b n ops F ds X o (upds e sl) h L K):Stp P b n ops F ds X o e h L K:=by
 rw [hr.upds] at t;exact t
theorem Mf {P:Program} {b:Frame} {n:Nat} {k:List Item} {F:List Frame→(Machine→Prop)→Prop} {e:Env} {ds:List Deferred} {X:Cx} {h:HF} {L:LH} (sl:List (Nat×Value)) (hr:ju e sl) (t:TT P b n k F (upds e sl) ds X h L):TT P b n k F e ds X h L:=by
 rw [hr.upds] at t;exact t
section
variable {P:Program} {b:Frame} {n:Nat} {k:List Item} {F:List Frame→(Machine→Prop)→Prop} {e:Env} {ds:List Deferred} {X:Cx} {h:HF} {L:LH}
theorem lp3 {α γ ρ : Type} {id:Nat} {c:Code} {x0:ρ} (xs:List α) (sl:Nat→γ→List (Nat×Value)) (hh:γ→HF) (LL:γ→LH) (J JX:Nat→γ→Prop) (hJX:∀ i g,J i g→JX i g) (Lf:List α→Nat→γ→ρ) (g0:γ) (hb:xs.length≤9223372036854775807)
  (hs:x0=Lf xs 0 g0) (hJ:J 0 g0)
  (after:∀ i g,i≤xs.length→x0=Lf [] i g→JX i g→∀ e',TT P b n k F (upds e' (sl i g)) ds X (hh g) (LL g))
  (cons:∀ i g y r,xs.drop i=y::r→decide ((i:Int) < (xs.length:Int))=true→xs[i]? = some y→i < xs.length→xs.length≤9223372036854775807→x0=Lf (y::r) i g→J i g →
   (∀ i' g' {e'},x0=Lf [] i' g'→JX i' g'→(hi:i'≤xs.length:=by omega)→(hr:ju e' (sl i' g'):=by exact rds)→TT P b n k F e' ds X (hh g') (LL g')) →
   (∀ g' {e'},x0=Lf r (i+1) g'→J (i+1) g'→(hr:ju e' (sl (i+1) g'):=by exact rds)→TT P b n (.inLoop c::.inBlock id::k) F e' ds X (hh g') (LL g')) →
   ∀ e',TT P b n (.code c::.inLoop c::.inBlock id::k) F (upds e' (sl i g)) ds X (hh g) (LL g))
  (nil:∀ i g,xs.drop i=[]→decide ((i:Int) < (xs.length:Int))=false→(∀ e',ju e' (sl i g)→TT P b n k F e' ds X (hh g) (LL g)) →
   ∀ e',TT P b n (.code c::.inLoop c::.inBlock id::k) F (upds e' (sl i g)) ds X (hh g) (LL g):=by exact ndA)
  (h0:ju e (sl 0 g0):=by exact rds)
  (hw:∀ w,St X h L w→St X (hh g0) (LL g0) w:=by exact sws):
  TT P b n (.code (.block id (.loop c))::k) F e ds X h L:=by
 refine jx (ι:=Nat×γ) (fun i=>sl i.1 i.2) (fun i=>hh i.2) (fun i=>LL i.2) (fun i=>i.1≤xs.length∧x0=Lf [] i.1 i.2∧JX i.1 i.2) ?_ (fun hx=>?_)
 ·rintro ⟨i,g⟩ ⟨h1,h2,h3⟩ e'
  exact after i g h1 h2 h3 e'
 ·refine ku (ι:=Nat×γ×List α) (fun i=>sl i.1 i.2.1) (fun i=>hh i.2.1) (fun i=>LL i.2.1) (fun i=>xs.drop i.1=i.2.2∧i.1≤xs.length∧x0=Lf i.2.2 i.1 i.2.1∧J i.1 i.2.1) (fun i=>i.2.2.length) (0,g0,xs) h0 hw ⟨rfl,Nat.zero_le _,hs,hJ⟩ ?_
  rintro ⟨i,g,s⟩ ⟨hd,hi,hs,hJ⟩ ag e'
  dsimp only at hd hi hs hJ
  rcases s with _ | ⟨y,r⟩
  ·exact nil i g hd (nH hd) (fun e'' hr=>hx (i,g) e'' ⟨hi,hs,hJX _ _ hJ⟩ hr) e'
  ·exact cons i g y r hd (rW hd) (rG hd) (jr hd) hb hs hJ (fun i' g' e'' a b c d=>hx (i',g') e'' ⟨c,a,b⟩ d)
    (fun g' e'' a b hr=>ag (i+1,g',r) e'' (Nat.lt_succ_self _) ⟨lQ hd,jr hd,a,b⟩ hr) e'
end
end Go.Sg
namespace Go.Sg
def dQ (eo:Int) (low:Int) (high:Int):Bool:=(decide (low≤eo)&&decide (eo≤high))
def eM (eo:Int):Bool:=(dQ eo 0 31)
def di (eo:Int):Bool:=(dQ eo 0 1099511627775)
def fy (eo:Int):Bool:=(dQ eo 0 63)
def lD (x:Appoint):Bool:=(bif x.Gone then ((((((dQ x.No 0 1048576)&&(di x.At))&&(di x.Known))&&(eM x.Office))&&(fy x.Person))&&(dQ x.Weight 0 0)) else ((((((dQ x.No 0 1048576)&&(di x.At))&&(di x.Known))&&(eM x.Office))&&(fy x.Person))&&(dQ x.Weight 1 64)))
def cZ.K1  (ii:Int):Int:=0
def cZ.L1  (k:Int→Int):List Appoint→Int→Int
 | [],ii=>(k ii)
 | y1::rz1,ii=>(bif ((!(lD y1))||decide (y1.No≤ii)) then 150 else (cZ.L1  k rz1 y1.No))
def cZ (l:List Appoint):Int:=(bif (decide (4096 < (l.length:Int))) then 2 else ((cZ.L1 (cZ.K1)) l (-1)))
def cQ (eo:Int) (low:Int) (high:Int):Bool:=(decide (low≤eo)&&decide (eo≤high))
def fB (eo:Int):Bool:=(cQ eo 0 63)
def fV (eo:Int):Bool:=(cQ eo 0 1099511627775)
def kV (x:Deputy):Bool:=(bif ((((((((!(cQ x.No 0 1048576))||(!(fV x.At)))||(!(fV x.Known)))||(!(fB x.From)))||(!(fB x.To)))||(x.From==x.To))||(!(cQ x.Office 0 31)))||(!(cQ x.Kind (-1) 15))) then false else (bif x.Gone then ((x.Until==0)&&(x.Most==0)) else ((decide (x.At < x.Until)&&decide (x.Until≤1099511627776))&&(cQ x.Most 0 1099511627776))))
def dq.K1  (ii:Int):Int:=0
def dq.L1  (k:Int→Int):List Deputy→Int→Int
 | [],ii=>(k ii)
 | y1::rz1,ii=>(bif ((!(kV y1))||decide (y1.No≤ii)) then 160 else (dq.L1  k rz1 y1.No))
def dq (l:List Deputy):Int:=(bif (decide (4096 < (l.length:Int))) then 2 else ((dq.L1 (dq.K1)) l (-1)))
def bI (eo:Int) (limit:Int):Bool:=(decide (0≤eo)&&decide (eo < limit))
def kp (x:Interest):Bool:=(bif x.Of then ((((((bI x.No 1048577)&&(bI x.At 1099511627776))&&(bI x.Known 1099511627776))&&(bI x.Party 1048577))&&(bI x.Person 1048577))&&(x.Person != x.Party)) else (((((bI x.No 1048577)&&(bI x.At 1099511627776))&&(bI x.Known 1099511627776))&&(bI x.Party 1048577))&&(bI x.Person 64)))
def cN.K1  (ii:Int):Int:=0
def cN.L1  (k:Int→Int):List Interest→Int→Int
 | [],ii=>(k ii)
 | y1::rz1,ii=>(bif ((!(kp y1))||decide (y1.No≤ii)) then 290 else (cN.L1  k rz1 y1.No))
def cN (l:List Interest):Int:=(bif (decide (4096 < (l.length:Int))) then 2 else ((cN.L1 (cN.K1)) l (-1)))
def dD.K1  : Int:=(-1)
def dD.L1 (f:(Int→Bool)) (k:Int):List Int→Nat→Int
 | [],i1=>(k)
 | y1::rz1,i1=>(bif (f y1) then (i1:Int) else (dD.L1 f k rz1 (i1+1)))
def dD (s:List Int) (f:(Int→Bool)):Int:=((dD.L1 f (dD.K1)) s 0)
def cw (s:List Int) (f:(Int→Bool)):Bool:=decide (0≤(dD s f))
def gV (eo:Int) (v0:Int) (v1:Int):Bool:=(decide (eo < v0)||decide (v1 < eo))
def aU (least:Int) (most:Int) (l:List Int):Bool:=(!(cw l (fun dB=>gV dB least most)))
def jf (x:Budget):Bool:=(bif x.Gone then ((((((aU 0 1048576 ([x.No]))&&(aU 0 1099511627775 ([x.At,x.Known])))&&(aU (-1) 15 ([x.Kind])))&&(aU 1 1099511627776 ([x.Period])))&&(aU 0 0 ([x.Count])))&&(aU 0 0 ([x.Value]))) else ((((((aU 0 1048576 ([x.No]))&&(aU 0 1099511627775 ([x.At,x.Known])))&&(aU (-1) 15 ([x.Kind])))&&(aU 1 1099511627776 ([x.Period])))&&(aU 0 1048576 ([x.Count])))&&(aU 0 1099511627776 ([x.Value]))))
def cx.K1  (ii:Int):Int:=0
def cx.L1  (k:Int→Int):List Budget→Int→Int
 | [],ii=>(k ii)
 | y1::rz1,ii=>(bif ((!(jf y1))||decide (y1.No≤ii)) then 180 else (cx.L1  k rz1 y1.No))
def cx (l:List Budget):Int:=(bif (decide (4096 < (l.length:Int))) then 2 else ((cx.L1 (cx.K1)) l (-1)))
def aK.L2  (k:List gf):List gf→List gf
 | []=>k
 | y2::rz2=>(y2::(aK.L2 k rz2))
def aK.L3  (k:List gf):List gf→List gf
 | []=>k
 | y3::rz3=>(y3::(aK.L3 k rz3))
def aK.K1  : List gf:=[]
def aK.L1 (rec:Expr→Int→List gf) (depth:Int) (k:List gf):List Expr→List gf
 | []=>(k)
 | y1::rz1=>((aK.L3 ((aK.L1 rec depth k rz1))) (rec y1 (depth+1)))
def aK.F (rec:Expr→Int→List gf) (x:Expr) (depth:Int):List gf:=((gf.mk (Expr.mk x.Kind x.N x.No x.Name x.L) depth)::((aK.L1 rec depth (aK.K1)) x.L))
def aK.go:Nat→Expr→Int→List gf
 | 0=>fun _ _=>[]
 | m+1=>aK.F (aK.go m)
def bq (x:Expr) (depth:Int):List gf:=aK.go x.dep x depth
def eD (ok:Bool) (Ma:Int):(Except Int Unit):=(bif (!ok) then (Except.error Ma) else (Except.ok ()))
def aB.K1 (p:Policy) (CK:List Expr):List Expr:=(CK++[p.Change])
def aB.L1  (k:List Expr→List Expr):List Rule→List Expr→List Expr
 | [],CK=>(k CK)
 | y1::rz1,CK=>(aB.L1  k rz1 (CK++[y1.Expr]))
def aB (p:Policy):List Expr:=((aB.L1 (aB.K1 p)) p.Rules ([]))
def cj.L2  (k:Int→(Except Int Unit)):List gf→Int→(Except Int Unit)
 | [],Ab=>k Ab
 | y2::rz2,Ab=>(exi (eD (decide ((IntKind.wrap .i64 (Ab+1))≤256)&&decide (y2.depth≤16)) 2) (fun _=>(cj.L2 k rz2 (IntKind.wrap .i64 (Ab+1)))))
def cj.L3  (k:Int→(Except Int Unit)):List gf→Int→(Except Int Unit)
 | [],Aa=>k Aa
 | y3::rz3,Aa=>(exi (eD (decide ((IntKind.wrap .i64 (Aa+1))≤256)&&decide (y3.depth≤16)) 2) (fun _=>(cj.L3 k rz3 (IntKind.wrap .i64 (Aa+1)))))
def cj.K1  : (Except Int Unit):=(Except.ok ())
def cj.L1  (k:(Except Int Unit)):List Expr→(Except Int Unit)
 | []=>(k)
 | y1::rz1=>((cj.L3 (fun zg3_b3_0=>(cj.L1  k rz1))) (bq y1 1) 0)
def cj (p:Policy):(Except Int Unit):=(exi (eD ((decide ((p.Offices.length:Int)≤32)&&decide ((p.Kinds.length:Int)≤16))&&decide ((p.Rules.length:Int)≤16)) 2) (fun _=>((cj.L1 (cj.K1)) (aB p))))
def df (x:Expr):Bool:=((x.Kind==1)||(x.Kind==2))
def gR (s:ByteArray) (c:Int):Int:=(idxByte s c)
def strings_IndexByte (s:ByteArray) (c:Int):Int:=(gR s c)
def jz (c:Int):Int:=(bif ((decide (97≤c)&&decide (c≤122))||(decide (65≤c)&&decide (c≤90))) then 2 else (bif (decide (48≤c)&&decide (c≤57)) then 3 else (bif (c==95) then 5 else (bif ((((c==32)||(c==9))||(c==10))||(c==13)) then 1 else (bif (decide (0≤(strings_IndexByte (⟨#[123,125,40,41,59,44,61,58,46,60,62,33,43,45,42,47]⟩:ByteArray) c))) then 4 else 0)))))
def dG.K1  : Bool:=true
def dG.L1 (s:ByteArray) (k:Bool):List Nat→Nat→Bool
 | [],i1=>(k)
 | y1::rz1,i1=>(bif ((((jz ((s.data.getD ((i1:Int):Int).toNat 0).toNat:Int)) != 2)&&((jz ((s.data.getD ((i1:Int):Int).toNat 0).toNat:Int)) != 3))&&((jz ((s.data.getD ((i1:Int):Int).toNat 0).toNat:Int)) != 5)) then false else (dG.L1 s k rz1 (i1+1)))
def dG (s:ByteArray):Bool:=(bif (((s.toList==(⟨#[]⟩:ByteArray).toList)||decide (32 < (s.size:Int)))||((jz ((s.data.getD (0:Int).toNat 0).toNat:Int)) != 2)) then false else ((dG.L1 s (dG.K1)) (List.range s.size) 0))
def dC (s:ByteArray):Bool:=(bif (s.toList==(⟨#[112,111,108,105,99,121]⟩:ByteArray).toList) then (bif (s.toList==(⟨#[112,111,108,105,99,121]⟩:ByteArray).toList) then false else (dG s)) else (bif (s.toList==(⟨#[109,111,100,101]⟩:ByteArray).toList) then (bif (s.toList==(⟨#[109,111,100,101]⟩:ByteArray).toList) then false else (dG s)) else (bif (s.toList==(⟨#[111,108,100]⟩:ByteArray).toList) then (bif (s.toList==(⟨#[111,108,100]⟩:ByteArray).toList) then false else (dG s)) else (bif (s.toList==(⟨#[110,101,119]⟩:ByteArray).toList) then (bif (s.toList==(⟨#[110,101,119]⟩:ByteArray).toList) then false else (dG s)) else (bif (s.toList==(⟨#[98,111,116,104]⟩:ByteArray).toList) then (bif (s.toList==(⟨#[98,111,116,104]⟩:ByteArray).toList) then false else (dG s)) else (bif (s.toList==(⟨#[101,105,116,104,101,114]⟩:ByteArray).toList) then (bif (s.toList==(⟨#[101,105,116,104,101,114]⟩:ByteArray).toList) then false else (dG s)) else (bif (s.toList==(⟨#[111,102,102,105,99,101]⟩:ByteArray).toList) then (bif (s.toList==(⟨#[111,102,102,105,99,101]⟩:ByteArray).toList) then false else (dG s)) else (bif (s.toList==(⟨#[107,105,110,100]⟩:ByteArray).toList) then (bif (s.toList==(⟨#[107,105,110,100]⟩:ByteArray).toList) then false else (dG s)) else (bif (s.toList==(⟨#[114,117,108,101]⟩:ByteArray).toList) then (bif (s.toList==(⟨#[114,117,108,101]⟩:ByteArray).toList) then false else (dG s)) else (bif (s.toList==(⟨#[116,104,105,110,107]⟩:ByteArray).toList) then (bif (s.toList==(⟨#[116,104,105,110,107]⟩:ByteArray).toList) then false else (dG s)) else (bif (s.toList==(⟨#[99,104,97,110,103,101]⟩:ByteArray).toList) then (bif (s.toList==(⟨#[99,104,97,110,103,101]⟩:ByteArray).toList) then false else (dG s)) else (bif (s.toList==(⟨#[115,111,109,101]⟩:ByteArray).toList) then (bif (s.toList==(⟨#[115,111,109,101]⟩:ByteArray).toList) then false else (dG s)) else (bif (s.toList==(⟨#[119,101,105,103,104,116]⟩:ByteArray).toList) then (bif (s.toList==(⟨#[119,101,105,103,104,116]⟩:ByteArray).toList) then false else (dG s)) else (bif (s.toList==(⟨#[111,102]⟩:ByteArray).toList) then (bif (s.toList==(⟨#[111,102]⟩:ByteArray).toList) then false else (dG s)) else (bif (s.toList==(⟨#[117,112,116,111]⟩:ByteArray).toList) then (bif (s.toList==(⟨#[117,112,116,111]⟩:ByteArray).toList) then false else (dG s)) else (bif (s.toList==(⟨#[101,108,115,101]⟩:ByteArray).toList) then false else (dG s)))))))))))))))))
def aP.K1  : Int:=(-1)
def aP.L1 (v:ByteArray) (k:Int):List ByteArray→Nat→Int
 | [],i1=>(k)
 | y1::rz1,i1=>(bif (v.toList==y1.toList) then (i1:Int) else (aP.L1 v k rz1 (i1+1)))
def aP (s:List ByteArray) (v:ByteArray):Int:=((aP.L1 v (aP.K1)) s 0)
def bA.K1  : Bool:=true
def bA.L1 (l:List ByteArray) (ok:(ByteArray→Bool)) (k:Bool):List ByteArray→Nat→Bool
 | [],i1=>(k)
 | y1::rz1,i1=>(bif ((!(ok y1))||((aP l y1) != (i1:Int))) then false else (bA.L1 l ok k rz1 (i1+1)))
def bA (l:List ByteArray) (ok:(ByteArray→Bool)):Bool:=((bA.L1 l ok (bA.K1)) l 0)
def cR (s:List ByteArray) (v:ByteArray):Bool:=decide (0≤(aP s v))
def ck.L2 (p:Policy) (k:(Except Int Unit)):List gf→(Except Int Unit)
 | []=>k
 | y2::rz2=>(exi (eD ((!(df y2.x))||(cR p.Offices y2.x.Name)) 201) (fun _=>(ck.L2 p k rz2)))
def ck.L3 (p:Policy) (k:(Except Int Unit)):List gf→(Except Int Unit)
 | []=>k
 | y3::rz3=>(exi (eD ((!(df y3.x))||(cR p.Offices y3.x.Name)) 201) (fun _=>(ck.L3 p k rz3)))
def ck.K1  : (Except Int Unit):=(Except.ok ())
def ck.L1 (p:Policy) (k:(Except Int Unit)):List Expr→(Except Int Unit)
 | []=>(k)
 | y1::rz1=>((ck.L3 p ((ck.L1 p k rz1))) (bq y1 1))
def ck (p:Policy):(Except Int Unit):=(exi (eD (((dC p.Name)&&(bA p.Offices dC))&&(bA p.Kinds dC)) 201) (fun _=>((ck.L1 p (ck.K1)) (aB p))))
def aM (eo:Int) (low:Int) (high:Int):Bool:=(decide (low≤eo)&&decide (eo≤high))
def mA (x0:Expr):Bool:=false
def jb (x:Expr):Bool:=((x.N==0)&&((x.L.length:Int)==0))
def ja (x:Expr):Bool:=((aM x.N 1 4096)&&((x.L.length:Int)==0))
def i9 (x:Expr):Bool:=(((x.Name.toList==(⟨#[]⟩:ByteArray).toList)&&(aM (x.L.length:Int) 1 16))&&(aM x.N 1 (x.L.length:Int)))
def iF (x:Expr):Bool:=(((x.Name.toList==(⟨#[]⟩:ByteArray).toList)&&((x.L.length:Int)==2))&&(aM x.N 0 1099511627776))
def kindsP (i:Int) (x:Expr):Bool:=if i=0 then mA x else if i=1 then jb x else if i=2 then ja x else if i=3 then i9 x else iF x
def bp.L3 (p:Policy) (k:(Except Int Unit)):List gf→(Except Int Unit)
 | []=>k
 | y3::rz3=>(exi (eD ((aM y3.x.Kind 1 4)&&(kindsP y3.x.Kind y3.x)) 200) (fun _=>(exi (eD (decide (0 < (IntKind.wrap .i64 (((aB p).length:Int) - 1)))||(y3.x.Kind != 4)) 200) (fun _=>(bp.L3 p k rz3)))))
def bp.L4 (p:Policy) (i2:Nat) (k:(Except Int Unit)):List gf→(Except Int Unit)
 | []=>k
 | y4::rz4=>(exi (eD ((aM y4.x.Kind 1 4)&&(kindsP y4.x.Kind y4.x)) 200) (fun _=>(exi (eD (decide ((i2:Int) < (IntKind.wrap .i64 (((aB p).length:Int) - 1)))||(y4.x.Kind != 4)) 200) (fun _=>(bp.L4 p i2 k rz4)))))
def bp.K2  : (Except Int Unit):=(Except.ok ())
def bp.L2 (p:Policy) (k:(Except Int Unit)):List Expr→Nat→(Except Int Unit)
 | [],i2=>(k)
 | y2::rz2,i2=>((bp.L4 p i2 ((bp.L2 p k rz2 (i2+1)))) (bq y2 1))
def bp.K1 (p:Policy):(Except Int Unit):=((bp.L2 p (bp.K2)) (aB p) 0)
def bp.L1 (p:Policy) (k:(Except Int Unit)):List Rule→Nat→(Except Int Unit)
 | [],i1=>(k)
 | y1::rz1,i1=>(exi (eD ((y1.Kind.toList==(nthI p.Kinds (i1:Int)).toList)&&(aM y1.Think 0 1099511627775)) 200) (fun _=>(bp.L1 p k rz1 (i1+1))))
def bp (p:Policy):(Except Int Unit):=(exi (eD ((decide (0 < (p.Kinds.length:Int))&&((p.Rules.length:Int)==(p.Kinds.length:Int)))&&(aM p.Mode 1 4)) 200) (fun _=>((bp.L1 p (bp.K1 p)) p.Rules 0)))
def dp (p:Policy):(Except Int Unit):=(exi (cj p) (fun _=>(exi (ck p) (fun _=>(exi (bp p) (fun _=>(Except.ok ())))))))
def ah.K1 (offices:List ByteArray) (x:Expr) (kb:List Expr):Expr:=(Expr.mk x.Kind x.N (aP offices x.Name) x.Name kb)
def ah.L1 (rec:List ByteArray→Expr→Expr) (offices:List ByteArray) (k:List Expr→Expr):List Expr→List Expr→Expr
 | [],kb=>(k kb)
 | y1::rz1,kb=>(ah.L1 rec offices k rz1 (kb++[(rec offices y1)]))
def ah.K2 (x:Expr) (ka:List Expr):Expr:=(Expr.mk x.Kind x.N 0 x.Name ka)
def ah.L2 (rec:List ByteArray→Expr→Expr) (offices:List ByteArray) (k:List Expr→Expr):List Expr→List Expr→Expr
 | [],ka=>(k ka)
 | y2::rz2,ka=>(ah.L2 rec offices k rz2 (ka++[(rec offices y2)]))
def ah.F (rec:List ByteArray→Expr→Expr) (offices:List ByteArray) (x:Expr):Expr:=(bif (df (Expr.mk x.Kind x.N 0 x.Name x.L)) then ((ah.L1 rec offices (ah.K1 offices x)) x.L ([])) else ((ah.L2 rec offices (ah.K2 x)) x.L ([])))
def ah.go:Nat→List ByteArray→Expr→Expr
 | 0=>fun _ _=>default
 | m+1=>ah.F (ah.go m)
def ah (offices:List ByteArray) (x:Expr):Expr:=ah.go x.dep offices x
def dT.K1 (p:Policy) (lN:List Rule):(Policy×Int):=((Policy.mk p.Name p.Kinds p.Offices lN (Expr.mk ((ah p.Offices p.Change).Kind) ((ah p.Offices p.Change).N) ((ah p.Offices p.Change).No) ((ah p.Offices p.Change).Name) ((ah p.Offices p.Change).L)) p.Mode),0)
def dT.L1 (p:Policy) (k:List Rule→(Policy×Int)):List Rule→Nat→List Rule→(Policy×Int)
 | [],i1,lN=>(k lN)
 | y1::rz1,i1,lN=>(dT.L1 p k rz1 (i1+1) (lN++[(Rule.mk y1.Kind (i1:Int) y1.Think (Expr.mk ((ah p.Offices y1.Expr).Kind) ((ah p.Offices y1.Expr).N) ((ah p.Offices y1.Expr).No) ((ah p.Offices y1.Expr).Name) ((ah p.Offices y1.Expr).L)))]))
def dT (p:Policy):(Policy×Int):=(bif ((attR (dp p)) != 0) then ((Policy.mk (⟨#[]⟩:ByteArray) ([]) ([]) ([]) (Expr.mk 0 0 0 (⟨#[]⟩:ByteArray) ([])) 0),(attR (dp p))) else ((dT.L1 p (dT.K1 p)) p.Rules 0 ([])))
def bO.K1  : Bool:=true
def bO.L1 (offices:List ByteArray) (k:Bool):List gf→Bool
 | []=>k
 | y1::rz1=>(bif (df y1.x) then (bif (y1.x.No != (aP offices y1.x.Name)) then false else (bO.L1 offices k rz1)) else (bif (y1.x.No != 0) then false else (bO.L1 offices k rz1)))
def bO (offices:List ByteArray) (x:Expr):Bool:=((bO.L1 offices (bO.K1)) (bq x 1))
def cV.K1 (p:Policy):Int:=(bif (!(bO p.Offices p.Change)) then 200 else 0)
def cV.L1 (p:Policy) (k:Int):List Rule→Nat→Int
 | [],i1=>(k)
 | y1::rz1,i1=>(bif ((y1.KindNo != (i1:Int))||(!(bO p.Offices y1.Expr))) then 200 else (cV.L1 p k rz1 (i1+1)))
def cV (p:Policy):Int:=(bif ((dT p).2 != 0) then (dT p).2 else ((cV.L1 p (cV.K1 p)) p.Rules 0))
def bF.K1  (ii:Int):Int:=0
def bF.L1  (k:Int→Int):List Version→Int→Int
 | [],ii=>(k ii)
 | y1::rz1,ii=>(bif ((((!(aM y1.No (IntKind.wrap .i64 (ii+1)) 1048576))||(!(aM y1.At 0 1099511627775)))||(!(aM y1.Known 0 1099511627775)))||((cV y1.Policy) != 0)) then 200 else (bF.L1  k rz1 y1.No))
def bF (l:List Version):Int:=(bif (decide (256 < (l.length:Int))) then 2 else ((bF.L1 (bF.K1)) l (-1)))
def aC.K1 (l:List Document) (bS:List (Int×Int)):gv:=(gv.mk l bS)
def aC.L1  (k:(List (Int×Int))→gv):List Document→Nat→(List (Int×Int))→gv
 | [],i1,bS=>(k bS)
 | y1::rz1,i1,bS=>(aC.L1  k rz1 (i1+1) (mput bS y1.No (i1:Int)))
def aC (l:List Document):gv:=((aC.L1 (aC.K1 l)) l 0 ([]))
def fp (t:Int):Bool:=(decide (0≤t)&&decide (t < 1099511627776))
def dy.K1 (l:List Int) (iJ:Int):Bool:=decide ((l.length:Int)≤16)
def dy.L1 (limit:Int) (k:Int→Bool):List Int→Int→Bool
 | [],iJ=>(k iJ)
 | y1::rz1,iJ=>(bif (decide (y1≤iJ)||decide (limit≤y1)) then false else (dy.L1 limit k rz1 y1))
def dy (l:List Int) (limit:Int):Bool:=((dy.L1 limit (dy.K1 l)) l (-1))
def gm (d:Document):Bool:=((((((((((((decide (0≤d.No)&&decide (d.No < 4096))&&(fp d.At))&&decide (0≤d.Kind))&&decide (d.Kind < 16))&&decide (0≤d.Value))&&decide (d.Value≤1099511627776))&&decide (0≤d.From))&&decide (d.From < d.Until))&&decide (d.Until≤1099511627776))&&(dy d.Parties 1048577))&&(dy d.Revokes d.No))&&(dy d.Needs d.No))
def ej (no:Int) (v0:gv):Bool:=(!(mhas v0.at_ no))
def ew (s:gv) (d:Document):Bool:=((!(cw d.Revokes (fun dB=>ej dB s)))&&(!(cw d.Needs (fun dB=>ej dB s))))
def aX.K1  : Int:=0
def aX.L1 (l:List Document) (k:Int):List Document→Nat→Int
 | [],i1=>(k)
 | y1::rz1,i1=>(bif (((!(gm y1))||(decide (0 < (i1:Int))&&decide (y1.No≤(nthI l ((i1:Int) - 1)).No)))||(!(ew (aC l) y1))) then 170 else (aX.L1 l k rz1 (i1+1)))
def aX (l:List Document):Int:=(bif (decide (4096 < (l.length:Int))) then 2 else ((aX.L1 l (aX.K1)) l 0))
def gB (eo:Int) (v0:Int):Bool:=(decide (eo < 0)||decide (v0 < eo))
def dh (most:Int) (l:List Int):Bool:=(!(cw l (fun dB=>gB dB most)))
def iE (x:Approval):Bool:=(((((dh 1048576 ([x.No]))&&(dh 1099511627775 ([x.At,x.Known])))&&(dh 4095 ([x.Doc])))&&(dh 63 ([x.By,x.For])))&&(dh 31 ([x.Office])))
def bU.K1  (ii:Int):Int:=0
def bU.L1  (k:Int→Int):List Approval→Int→Int
 | [],ii=>(k ii)
 | y1::rz1,ii=>(bif ((!(iE y1))||decide (y1.No≤ii)) then 280 else (bU.L1  k rz1 y1.No))
def bU (l:List Approval):Int:=(bif (decide (4096 < (l.length:Int))) then 2 else ((bU.L1 (bU.K1)) l (-1)))
def eB.K1  : Int:=0
def eB.L1 (bL:Register) (k:Int):List Nat→Nat→Int
 | [],i1=>(k)
 | y1::rz1,i1=>(bif ((nthI ([(cZ bL.Appoints),(dq bL.Deputies),(cN bL.Interests),(cx bL.Budgets),(bF bL.Versions),(aX bL.Docs),(bU bL.Approvals)]) (i1:Int)) != 0) then 300 else (eB.L1 bL k rz1 (i1+1)))
def eB (bL:Register):Int:=((eB.L1 bL (eB.K1)) (List.range 7) 0)
def kj (Mb:Int):(Except Int Unit):=(bif (Mb != 0) then (Except.error Mb) else (Except.ok ()))
def ad.K1  : Int:=(-1)
def ad.L1 (f:(Document→Bool)) (k:Int):List Document→Nat→Int
 | [],i1=>(k)
 | y1::rz1,i1=>(bif (f y1) then (i1:Int) else (ad.L1 f k rz1 (i1+1)))
def ad (s:List Document) (f:(Document→Bool)):Int:=((ad.L1 f (ad.K1)) s 0)
def bx (d:Document) (v0:Int):Bool:=(d.No==v0)
def ki (bL:Register) (doc:Int) (cv:Int) (known:Int):(Except Int bo):=(bif ((decide ((ad bL.Docs (fun dB=>bx dB doc)) < 0)||decide ((min cv known) < 0))||decide (1099511627776≤(max cv known))) then (Except.error 1) else (Except.ok (bo.mk bL (nthI bL.Docs (ad bL.Docs (fun dB=>bx dB doc))) cv known)))
def cmp_isNaN_int (x:Int):Bool:=(x != x)
def cy.K1  : Int:=(-1)
def cy.L1 (f:(Approval→Bool)) (k:Int):List Approval→Nat→Int
 | [],i1=>(k)
 | y1::rz1,i1=>(bif (f y1) then (i1:Int) else (cy.L1 f k rz1 (i1+1)))
def cy (s:List Approval) (f:(Approval→Bool)):Int:=((cy.L1 f (cy.K1)) s 0)
def fh (s:List Approval) (del:Approval→Bool):List Approval:=s.filter fun x=>!(del x)
def bP.K1  : List Approval:=[]
def bP.L1 (v1:Int) (v2:Int) (v3:Int) (k:List Approval):List Approval→List Approval
 | []=>(k)
 | y1::rz1=>(bif (((y1.Doc==v1)&&decide (y1.At≤v2))&&decide (y1.Known≤v3)) then (y1::(bP.L1 v1 v2 v3 k rz1)) else (bP.L1 v1 v2 v3 k rz1))
def bP (v0:List Approval) (v1:Int) (v2:Int) (v3:Int):List Approval:=((bP.L1 v1 v2 v3 (bP.K1)) v0)
def eJ (l:List Approval) (doc:Int) (cv:Int) (known:Int):List Approval:=(bP l doc cv known)
def bW (x:Approval):eO:=(eO.mk x.Doc x.By x.For x.Office)
def aI.K2  (lM:List Approval):List Approval:=lM
def aI.L2 (bS:List (eO×Approval)) (k:List Approval→List Approval):List Approval→List Approval→List Approval
 | [],lM=>k lM
 | y2::rz2,lM=>(bif ((!y2.Gone)&&(decide ((mgetD bS (bW y2) (Approval.mk 0 0 0 0 0 0 0 false))=y2))) then (aI.L2 bS k rz2 (lM++[y2])) else (aI.L2 bS k rz2 lM))
def aI.K1 (l:List Approval) (doc:Int) (cv:Int) (known:Int) (bS:List (eO×Approval)):List Approval:=((aI.L2 bS (aI.K2)) (eJ l doc cv known) ([]))
def aI.L1  (k:(List (eO×Approval))→List Approval):List Approval→(List (eO×Approval))→List Approval
 | [],bS=>k bS
 | y1::rz1,bS=>(bif ((!(mhas bS (bW y1)))||decide ((mgetD bS (bW y1) (Approval.mk 0 0 0 0 0 0 0 false)).At≤y1.At)) then (aI.L1 k rz1 (mput bS (bW y1) y1)) else (aI.L1 k rz1 bS))
def aI (l:List Approval) (doc:Int) (cv:Int) (known:Int):List Approval:=((aI.L1 (aI.K1 l doc cv known)) (eJ l doc cv known) ([]))
def hU (y:Approval) (begun:Int) (at_:Int) (think:Int):Bool:=(decide (y.At < begun)||decide ((IntKind.wrap .i64 (at_ - y.At)) < think))
def bH (l:List Approval) (doc:Int) (begun:Int) (think:Int) (fC:Int) (known:Int):(List Approval×Int):=(bif ((bU l) != 0) then ([],(bU l)) else (bif ((!(dh 4095 ([doc])))||(!(dh 1099511627775 ([begun,think,fC,known])))) then ([],1) else ((fh (aI l doc fC known) (fun dB=>hU dB begun fC think)),0)))
def ia (x:Appoint) (v0:Int) (v1:Int):(OSeat×Bool):=((OSeat.mk x.Office x.Person),(decide (x.At≤v0)&&decide (x.Known≤v1)))
def dg.K1  (bz:List (OSeat×Appoint)):(List (OSeat×Appoint)):=bz
def dg.L1 (key:(Appoint→OSeat×Bool)) (later:(Appoint→Appoint→Bool)) (k:(List (OSeat×Appoint))→(List (OSeat×Appoint))):List Appoint→(List (OSeat×Appoint))→(List (OSeat×Appoint))
 | [],bz=>(k bz)
 | y1::rz1,bz=>(bif ((key y1).2&&((!(mhas bz ((key y1).1)))||(!(later (mgetD bz ((key y1).1) (Appoint.mk 0 0 0 0 0 0 false)) y1)))) then (dg.L1 key later k rz1 (mput bz ((key y1).1) y1)) else (dg.L1 key later k rz1 bz))
def dg (l:List Appoint) (key:(Appoint→OSeat×Bool)) (later:(Appoint→Appoint→Bool)):(List (OSeat×Appoint)):=((dg.L1 key later (dg.K1)) l ([]))
def iT (a:Appoint) (jt:Appoint):Bool:=decide (jt.At < a.At)
def dk (l:List Appoint) (jR:Int) (known:Int):(List (OSeat×Appoint)):=(dg l (fun dB=>ia dB jR known) iT)
def fe (l:List Appoint) (office:Int) (person:Int) (cL:Int) (known:Int):(Int×Int×Bool×Int):=(bif ((cZ l) != 0) then (0,0,false,(cZ l)) else (bif ((((!(eM office))||(!(fy person)))||(!(di cL)))||(!(di known))) then (0,0,false,1) else (bif ((!(mhas (dk l cL known) (OSeat.mk office person)))||(mgetD (dk l cL known) (OSeat.mk office person) (Appoint.mk 0 0 0 0 0 0 false)).Gone) then (0,0,false,0) else ((mgetD (dk l cL known) (OSeat.mk office person) (Appoint.mk 0 0 0 0 0 0 false)).No,(mgetD (dk l cL known) (OSeat.mk office person) (Appoint.mk 0 0 0 0 0 0 false)).Weight,true,0))))
def kc (l:List Deputy) (dM:Int) (to:Int) (q:cE):Int:=(bif ((dq l) != 0) then (dq l) else (bif (((((((!(fB dM))||(!(fB to)))||(!(cQ q.office 0 31)))||(!(cQ q.kind 0 15)))||(!(cQ q.value 0 1099511627776)))||(!(fV q.at_)))||(!(fV q.known))) then 1 else 0))
def cH.K1  (bz:List Deputy):List Deputy:=bz
def cH.L1  (k:List Deputy→List Deputy):List Deputy→List Deputy→List Deputy
 | [],bz=>k bz
 | y1::rz1,bz=>(cH.L1 k rz1 (bz++[y1]))
def cH (seq:List Deputy):List Deputy:=((cH.L1 (cH.K1)) seq ([]))
def cU (seq:List Deputy):List Deputy:=(cH seq)
def ff (q:cE) (x:Deputy):Bool:=(decide (x.At≤q.at_)&&decide (x.Known≤q.known))
def fT (q:cE) (x:Deputy):Bool:=(((((!x.Gone)&&decide (q.at_ < x.Until))&&(x.Office==q.office))&&((x.Kind==(-1))||(x.Kind==q.kind)))&&decide (q.value≤x.Most))
def aH.K1  : List Deputy:=[]
def aH.L1 (v1:List (dW×Deputy)) (v2:(Deputy→Bool)) (v3:cE) (k:List Deputy):List Deputy→List Deputy
 | []=>(k)
 | y1::rz1=>(bif (((decide ((mgetD v1 (dW.mk y1.From y1.To y1.Office y1.Kind) (Deputy.mk 0 0 0 0 0 0 0 0 0 false))=y1))&&(v2 y1))&&(fT v3 y1)) then (y1::(aH.L1 v1 v2 v3 k rz1)) else (aH.L1 v1 v2 v3 k rz1))
def aH (v0:List Deputy) (v1:List (dW×Deputy)) (v2:(Deputy→Bool)) (v3:cE):List Deputy:=((aH.L1 v1 v2 v3 (aH.K1)) v0)
def aO.K1 (q:cE) (l:List Deputy) (dA:List (dW×Deputy)):List Deputy:=(aH l dA (ff q) q)
def aO.L1 (q:cE) (k:(List (dW×Deputy))→List Deputy):List Deputy→(List (dW×Deputy))→List Deputy
 | [],dA=>(k dA)
 | y1::rz1,dA=>(bif ((ff q y1)&&((!(mhas dA (dW.mk y1.From y1.To y1.Office y1.Kind)))||decide ((mgetD dA (dW.mk y1.From y1.To y1.Office y1.Kind) (Deputy.mk 0 0 0 0 0 0 0 0 0 false)).At≤y1.At))) then (aO.L1 q k rz1 (mput dA (dW.mk y1.From y1.To y1.Office y1.Kind) y1)) else (aO.L1 q k rz1 dA))
def aO (q:cE) (l:List Deputy):List Deputy:=((aO.L1 q (aO.K1 q l)) l ([]))
def aE.L2  (k:(List (Int×Int))→(List Int×Bool×Int)):List Deputy→(List (Int×Int))→(List Int×Bool×Int)
 | [],sI=>(k sI)
 | y2::rz2,sI=>(bif (((mhas sI y2.To)&&((mgetD sI y2.To 0)==0))&&(!(mhas sI y2.From))) then (aE.L2  k rz2 (mput sI y2.From 1)) else (aE.L2  k rz2 sI))
def aE.L3 (i1:Nat) (k:(List (Int×Int))→(List Int×Bool×Int)):List Deputy→(List (Int×Int))→(List Int×Bool×Int)
 | [],lL=>(k lL)
 | y3::rz3,lL=>(bif (((mhas lL y3.To)&&((mgetD lL y3.To 0)==(i1:Int)))&&(!(mhas lL y3.From))) then (aE.L3 i1 k rz3 (mput lL y3.From (((i1+1):Nat):Int))) else (aE.L3 i1 k rz3 lL))
def aE.L6 (dM:Int) (bS:List (Int×Int)) (i4:Nat) (k:List Int→Int→(List Int×Bool×Int)):List Deputy→List Int→Int→(List Int×Bool×Int)
 | [],xe,zf=>(k xe zf)
 | y6::rz6,xe,zf=>(bif (((y6.From==zf)&&(mhas bS y6.To))&&((mgetD bS y6.To 0)==((((((mgetD bS dM 0)).toNat) - (i4+1)):Nat):Int))) then (k (xe++[y6.No]) y6.To) else (aE.L6 dM bS i4 k rz6 xe zf))
def aE.K4  (uw:List Int) (zg:Int):(List Int×Bool×Int):=(uw,true,0)
def aE.L4 (l:List Deputy) (dM:Int) (office:Int) (kind:Int) (value:Int) (jT:Int) (known:Int) (bS:List (Int×Int)) (k:List Int→Int→(List Int×Bool×Int)):List Nat→Nat→List Int→Int→(List Int×Bool×Int)
 | [],i4,uw,zg=>(k uw zg)
 | y4::rz4,i4,uw,zg=>((aE.L6 dM bS i4 (fun zg6_16 zg6_31=>(aE.L4 l dM office kind value jT known bS k rz4 (i4+1) zg6_16 zg6_31))) (cU (aO (cE.mk office kind value jT known) l)) uw zg)
def aE.K1 (l:List Deputy) (dM:Int) (office:Int) (kind:Int) (value:Int) (jT:Int) (known:Int) (bS:List (Int×Int)):(List Int×Bool×Int):=(bif (!(mhas bS dM)) then ([],false,0) else ((aE.L4 l dM office kind value jT known bS (aE.K4)) (List.range (((mgetD bS dM 0)).toNat)) 0 ([]) dM))
def aE.L1 (l:List Deputy) (office:Int) (kind:Int) (value:Int) (jT:Int) (known:Int) (k:(List (Int×Int))→(List Int×Bool×Int)):List Nat→Nat→(List (Int×Int))→(List Int×Bool×Int)
 | [],i1,bS=>(k bS)
 | y1::rz1,i1,bS=>((aE.L3 i1 (fun zg3_b2_0=>(aE.L1 l office kind value jT known k rz1 (i1+1) zg3_b2_0))) (cU (aO (cE.mk office kind value jT known) l)) bS)
def aE (l:List Deputy) (dM:Int) (to:Int) (office:Int) (kind:Int) (value:Int) (jT:Int) (known:Int):(List Int×Bool×Int):=(bif ((kc l dM to (cE.mk office kind value jT known)) != 0) then ([],false,(kc l dM to (cE.mk office kind value jT known))) else ((aE.L1 l office kind value jT known (aE.K1 l dM office kind value jT known)) (List.range 8) 0 (mput ([]) to 0)))
def cM.K1 (person:Int) (parties:List Int) (cL:Int) (known:Int) (Dt:Int):Int:=(bif ((((!(bI person 64))||decide (16 < (parties.length:Int)))||(!(bI cL 1099511627776)))||(!(bI known 1099511627776))) then 1 else 0)
def cM.L1  (k:Int→Int):List Int→Int→Int
 | [],Dt=>(k Dt)
 | y1::rz1,Dt=>(bif (decide (y1≤Dt)||decide (1048576 < y1)) then 1 else (cM.L1  k rz1 y1))
def cM (l:List Interest) (person:Int) (parties:List Int) (cL:Int) (known:Int):Int:=(bif ((cN l) != 0) then (cN l) else ((cM.L1 (cM.K1 person parties cL known)) parties (-1)))
def bT.K1  : List Interest:=[]
def bT.L1 (v1:List (dS×Interest)) (k:List Interest):List Interest→List Interest
 | []=>(k)
 | y1::rz1=>(bif ((!y1.Gone)&&(decide ((mgetD v1 (dS.mk y1.Person y1.Party y1.Of) (Interest.mk 0 0 0 0 0 false false))=y1))) then (y1::(bT.L1 v1 k rz1)) else (bT.L1 v1 k rz1))
def bT (v0:List Interest) (v1:List (dS×Interest)):List Interest:=((bT.L1 v1 (bT.K1)) v0)
def cT.K1 (l:List Interest) (bS:List (dS×Interest)):List Interest:=(bT l bS)
def cT.L1 (jR:Int) (known:Int) (k:(List (dS×Interest))→List Interest):List Interest→(List (dS×Interest))→List Interest
 | [],bS=>(k bS)
 | y1::rz1,bS=>(bif (decide (jR < y1.At)||decide (known < y1.Known)) then (cT.L1 jR known k rz1 bS) else (bif ((!(mhas bS (dS.mk y1.Person y1.Party y1.Of)))||decide ((mgetD bS (dS.mk y1.Person y1.Party y1.Of) (Interest.mk 0 0 0 0 0 false false)).At≤y1.At)) then (cT.L1 jR known k rz1 (mput bS (dS.mk y1.Person y1.Party y1.Of) y1)) else (cT.L1 jR known k rz1 bS)))
def cT (l:List Interest) (jR:Int) (known:Int):List Interest:=((cT.L1 jR known (cT.K1 l)) l ([]))
def conPut (w:gD) (m:List (Int×Bool)) (q:List gD):List (Int×Bool)×List gD:=bif mgetD m w.to false then (m,q) else (mput m w.to true,q++[w])
def conFill (person:Int):List Interest→List (Int×List Interest)→List (Int×Bool)→List gD→List (Int×List Interest)×List (Int×Bool)×List gD
 | [],f,m,q=>(f,m,q)
 | x::l,f,m,q=>bif x.Of then conFill person l (mput f x.Person (mgetD f x.Person []++[x])) m q
  else bif x.Person==person then conFill person l f (conPut ⟨[x.No],x.Party⟩ m q).1 (conPut ⟨[x.No],x.Party⟩ m q).2 else conFill person l f m q
def conStep (path:List Int):List Interest→List (Int×Bool)→List gD→List (Int×Bool)×List gD
 | [],m,q=>(m,q)
 | x::l,m,q=>conStep path l (conPut ⟨path++[x.No],x.Party⟩ m q).1 (conPut ⟨path++[x.No],x.Party⟩ m q).2
def conLoop (parties:List Int) (f:List (Int×List Interest)):Nat→List (Int×Bool)→List gD→List Int×Bool
 | 0,_,_=>([],false)
 | _+1,_,[]=>([],false)
 | n+1,m,w::q=>bif parties.contains w.to then (w.path,true) else bif (w.path.length:Int)==8 then conLoop parties f n m q
  else conLoop parties f n (conStep w.path (mgetD f w.to []) m q).1 (conStep w.path (mgetD f w.to []) m q).2
def conFind (l:List Interest) (person:Int) (parties:List Int) (st:List Interest):List Int×Bool:=
 conLoop parties (conFill person st [] [] []).1 (l.length+1) (conFill person st [] [] []).2.1 (conFill person st [] [] []).2.2
def cC (l:List Interest) (person:Int) (parties:List Int) (cL:Int) (known:Int):List Int×Bool×Int:=
 bif cM l person parties cL known != 0 then ([],false,cM l person parties cL known)
 else ((conFind l person parties (cT l cL known)).1,(conFind l person parties (cT l cL known)).2,0)
def sd (h:HF):List Value→List gD→Prop
 | [],[]=>True
 | v::vs,w::ws=>(∃ r,v=.agg (gD.cells w r).toArray∧gD.ok h w r)∧sd h vs ws
 | _,_=>False
def V3 (_:HF) (v:Value) (x:Option Addr×Nat×Nat):Prop:=v=.slice x.1 x.2.1 x.2.2
def FR (h:HF):List (Int×Option Addr×Nat×Nat)→List (Int×List Interest)→LH→Prop
 | [],[],G=>G=[]
 | (k,x)::m,(k',xs)::f,G=>k=k'∧x.2.1=xs.length∧∃ G1 G2,G=G1++G2∧em Interest.rp 97 h xs x.1 x.2.2 G1∧FR h m f G2
 | _,_,_=>False
def se (st:List Interest) (m:List (Int×Bool)) (q:List gD):Prop:=(∀ p∈m,p.2=true∧p.1∈st.map (·.Party))∧q.length≤m.length∧∀ w∈q,w.path.length≤8
def Ia (st:List Interest) (f:List (Int×List Interest)):Prop:=∀ k,∀ x∈mgetD f k [],x∈st
def ib (c:bo) (person:Int):Bool:=(cC c.Register.Interests person c.doc.Parties c.at_ c.known).2.1
def cB.K1  : List Approval:=[]
def cB.L1 (c:bo) (k:List Approval):List Approval→List Approval
 | []=>(k)
 | y1::rz1=>(bif ((((fe c.Register.Appoints y1.Office y1.For c.at_ c.known).2.2.1&&(aE c.Register.Deputies y1.For y1.By y1.Office c.doc.Kind c.doc.Value c.at_ c.known).2.1)&&(!(ib c y1.For)))&&(!(ib c y1.By))) then (y1::(cB.L1 c k rz1)) else (cB.L1 c k rz1))
def cB (c:bo) (p:Policy):List Approval:=(bif (decide ((p.Kinds.length:Int)≤c.doc.Kind)) then [] else ((cB.L1 c (cB.K1)) ((bH c.Register.Approvals c.doc.No c.doc.At ((nthI p.Rules c.doc.Kind).Think) c.at_ c.known).1)))
def eU (c:bo) (p:Policy):List Approval:=(cB c p)
def cS.K1  (bJ:List Int):List Int:=(slices_Compact_int (sortI bJ))
def cS.L1  (k:List Int→List Int):List Approval→List Int→List Int
 | [],bJ=>k bJ
 | y1::rz1,bJ=>(cS.L1 k rz1 (bJ++[y1.For]))
def cS (c:bo) (p:Policy):List Int:=((cS.L1 (cS.K1)) (eU c p) ([]))
def aN.K1  : Int:=(-1)
def aN.L1 (f:(Version→Bool)) (k:Int):List Version→Nat→Int
 | [],i1=>(k)
 | y1::rz1,i1=>(bif (f y1) then (i1:Int) else (aN.L1 f k rz1 (i1+1)))
def aN (s:List Version) (f:(Version→Bool)):Int:=((aN.L1 f (aN.K1)) s 0)
def du (v:Version) (v0:Int):Bool:=(v.No==v0)
def dJ (c:bo) (no:Int):(Except Int Policy):=(bif (decide ((aN c.Register.Versions (fun dB=>du dB no)) < 0)) then (Except.error 1) else (Except.ok ((nthI c.Register.Versions (aN c.Register.Versions (fun dB=>du dB no))).Policy)))
def cg (bL:Register) (doc:Int) (version:Int) (cL:Int) (known:Int):List Int×Int:=
 bif eB bL != 0 then ([],eB bL) else match ki bL doc cL known with
  | .error e=>([],e)
  | .ok c=>match dJ c version with
   | .error e=>([],e)
   | .ok p=>(cS c p,0)
def gj (eo:Int):Bool:=(decide (0≤eo)&&decide (eo < 1099511627776))
def bK.K2  : (List (Int×Version)):=[]
def bK.L2 (bz:List (Int×Version)) (k:List (Int×Version)):List Int→(List (Int×Version))
 | []=>(k)
 | y2::rz2=>((y2,(mgetD bz y2 (Version.mk 0 0 0 (Policy.mk (⟨#[]⟩:ByteArray) [] [] [] (Expr.mk 0 0 0 (⟨#[]⟩:ByteArray) []) 0))))::(bK.L2 bz k rz2))
def bK.K1  (oU:Int) (bz:List (Int×Version)):(List (Int×Version)):=((bK.L2 bz (bK.K2)) (sortI (bz.map Prod.fst)))
def bK.L1 (known:Int) (eK:Int) (k:Int→(List (Int×Version))→(List (Int×Version))):List Version→Int→(List (Int×Version))→(List (Int×Version))
 | [],oU,bz=>(k oU bz)
 | y1::rz1,oU,bz=>(bif (decide (known < y1.Known)) then (bK.L1 known eK k rz1 oU bz) else (bif (decide (y1.At≤eK)) then (bif (decide (y1.At < oU)) then (bK.L1 known eK k rz1 oU bz) else (bK.L1 known eK k rz1 y1.At (mput bz eK y1))) else (bK.L1 known eK k rz1 oU (mput bz y1.At y1))))
def bK (l:List Version) (known:Int) (eK:Int):(List (Int×Version)):=((bK.L1 known eK (bK.K1)) l (-1) ([]))
def ft (l:List Version) (dM:Int) (known:Int):(List (Int×Version)):=(bK l known dM)
def ip (l:List Version) (old:Bool):List Version:=l
def gT (l:List Version) (old:Bool):List Version:=(bif (!old) then [] else (l.take ((1:Int)).toNat))
def io (l:List Version) (old:Bool):List Version:=(l.drop ((((l.length:Int) - 1):Int)).toNat)
def j2  : (List (Int×Value)):=(mput (mput (mput (mput ([]) 1 (Value.func (.func 171) #[] #[])) 2 (Value.func (.func 172) #[] #[])) 3 (Value.func (.func 170) #[] #[])) 4 (Value.func (.func 170) #[] #[]))
def judgesP (mode:Int) (l:List Version) (old:Bool):List Version:=bif mode==1 then gT l old else bif mode==2 then io l old else ip l old
def bE.K2 (bJ:List Version) (oT:List Int):(List Int×Int×Int):=((sortI oT),(nthI bJ ((bJ.length:Int) - 1)).Policy.Mode,0)
def bE.L2  (k:List Int→(List Int×Int×Int)):List Version→List Int→(List Int×Int×Int)
 | [],oT=>(k oT)
 | y2::rz2,oT=>(bE.L2  k rz2 (oT++[y2.No]))
def bE.K1  (dA:Bool) (bJ:List Version):(List Int×Int×Int):=(bif ((bJ.length:Int)==0) then ([],0,0) else ((bE.L2 (bE.K2 bJ)) (judgesP ((nthI bJ ((bJ.length:Int) - 1)).Policy.Mode) bJ dA) ([])))
def bE.L1 (begun:Int) (cv:Int) (k:Bool→List Version→(List Int×Int×Int)):List (Int×Version)→Bool→List Version→(List Int×Int×Int)
 | [],dA,bJ=>k dA bJ
 | y1::rz1,dA,bJ=>(bif (decide (cv < y1.1)) then (k dA bJ) else (bE.L1 begun cv k rz1 (dA||(y1.1==begun)) (bJ++[y1.2])))
def bE (l:List Version) (begun:Int) (cv:Int) (known:Int):(List Int×Int×Int):=(bif ((bF l) != 0) then ([],0,(bF l)) else (bif ((((!(gj begun))||(!(gj cv)))||(!(gj known)))||decide (cv < begun)) then ([],0,1) else ((bE.L1 begun cv (bE.K1)) (ft l begun known) false ([]))))
def jg (mode:Int) (permits:List Bool):Int:=(bif (!(mhas j2 mode)) then 270 else (bif (decide (256 < (permits.length:Int))) then 1 else 0))
def eN.K1  : Int:=(-1)
def eN.L1 (f:(Bool→Bool)) (k:Int):List Bool→Nat→Int
 | [],i1=>(k)
 | y1::rz1,i1=>(bif (f y1) then (i1:Int) else (eN.L1 f k rz1 (i1+1)))
def eN (s:List Bool) (f:(Bool→Bool)):Int:=((eN.L1 f (eN.K1)) s 0)
def cI (l:List Bool) (ok:(Bool→Bool)):Int:=(eN l ok)
def ey (zt:Bool):Bool:=zt
def fu (zt:Bool):Bool:=(!zt)
def bD.K1 (permits:List Bool) (CJ:List Int):(List Int×Bool×Int):=(CJ,decide (0≤(cI permits ey)),0)
def bD.L1  (k:List Int→(List Int×Bool×Int)):List Bool→Nat→List Int→(List Int×Bool×Int)
 | [],i1,CJ=>(k CJ)
 | y1::rz1,i1,CJ=>(bD.L1  k rz1 (i1+1) (CJ++[(i1:Int)]))
def bD.K2 (permits:List Bool) (CI:List Int):(List Int×Bool×Int):=(CI,(((permits.length:Int)==1)&&(nthI permits 0)),0)
def bD.L2  (k:List Int→(List Int×Bool×Int)):List Bool→Nat→List Int→(List Int×Bool×Int)
 | [],i2,CI=>(k CI)
 | y2::rz2,i2,CI=>(bD.L2  k rz2 (i2+1) (CI++[(i2:Int)]))
def bD.K3  (CH:List Int):(List Int×Bool×Int):=(CH,false,0)
def bD.L3  (k:List Int→(List Int×Bool×Int)):List Bool→Nat→List Int→(List Int×Bool×Int)
 | [],i3,CH=>(k CH)
 | y3::rz3,i3,CH=>(bD.L3  k rz3 (i3+1) (CH++[(i3:Int)]))
def bD (mode:Int) (permits:List Bool):(List Int×Bool×Int):=(bif ((jg mode permits) != 0) then ([],false,(jg mode permits)) else (bif ((mode==4)&&decide (0≤(cI permits ey))) then ([(cI permits ey)],true,0) else (bif ((mode==3)&&decide (0≤(cI permits fu))) then ([(cI permits fu)],false,0) else (bif (mode==3) then ((bD.L1 (bD.K1 permits)) permits 0 ([])) else (bif (mode != 4) then ((bD.L2 (bD.K2 permits)) permits 0 ([])) else ((bD.L3 (bD.K3)) permits 0 ([])))))))
def iQ (mode:Int) (permits:List Bool):(Bool×Int):=((bD mode permits).2.1,(bD mode permits).2.2)
def iR.K1  (bz:List (Int×Bool)):Bool:=true
def iR.L1  (k:(List (Int×Bool))→Bool):List Use→(List (Int×Bool))→Bool
 | [],bz=>(k bz)
 | y1::rz1,bz=>(bif (((((mgetD bz y1.Doc false)||(!(aU 0 4095 ([y1.Doc]))))||(!(aU 0 15 ([y1.Kind]))))||(!(aU 0 1099511627776 ([y1.Value]))))||(!(aU 0 1099511627775 ([y1.At,y1.Known])))) then false else (iR.L1  k rz1 (mput bz y1.Doc true)))
def iR (u:List Use):Bool:=((iR.L1 (iR.K1)) u ([]))
def bQ.K2  (oT:List Budget):List Budget:=oT
def bQ.L2 (bz:List (gx×Budget)) (k:List Budget→List Budget):List Budget→List Budget→List Budget
 | [],oT=>(k oT)
 | y2::rz2,oT=>(bif ((!y2.Gone)&&(decide ((mgetD bz (gx.mk y2.Kind y2.Period) (Budget.mk 0 0 0 0 0 0 0 false))=y2))) then (bQ.L2 bz k rz2 (oT++[y2])) else (bQ.L2 bz k rz2 oT))
def bQ.K1 (l:List Budget) (bz:List (gx×Budget)):List Budget:=((bQ.L2 bz (bQ.K2)) l ([]))
def bQ.L1 (kind:Int) (cv:Int) (known:Int) (k:(List (gx×Budget))→List Budget):List Budget→(List (gx×Budget))→List Budget
 | [],bz=>(k bz)
 | y1::rz1,bz=>(bif ((decide (cv < y1.At)||decide (known < y1.Known))||((y1.Kind != (-1))&&(y1.Kind != kind))) then (bQ.L1 kind cv known k rz1 bz) else (bif ((!(mhas bz (gx.mk y1.Kind y1.Period)))||decide ((mgetD bz (gx.mk y1.Kind y1.Period) (Budget.mk 0 0 0 0 0 0 0 false)).At≤y1.At)) then (bQ.L1 kind cv known k rz1 (mput bz (gx.mk y1.Kind y1.Period) y1)) else (bQ.L1 kind cv known k rz1 bz)))
def bQ (l:List Budget) (kind:Int) (cv:Int) (known:Int):List Budget:=((bQ.L1 kind cv known (bQ.K1 l)) l ([]))
def cm.K1  : List Int:=[]
def cm.L1 (known:Int) (bg:Budget) (at_:Int) (k:List Int):List Use→List Int
 | []=>(k)
 | y1::rz1=>(bif ((decide (y1.Known≤known)&&((bg.Kind==(-1))||(bg.Kind==y1.Kind)))&&((IntKind.wrap .i64 (y1.At.tdiv bg.Period))==(IntKind.wrap .i64 (at_.tdiv bg.Period)))) then (y1.Value::(cm.L1 known bg at_ k rz1)) else (cm.L1 known bg at_ k rz1))
def cm (u:List Use) (known:Int) (bg:Budget) (at_:Int):List Int:=((cm.L1 known bg at_ (cm.K1)) u)
def mB (zt:Budget) (u:List Use) (cv:Int) (known:Int):List Int:=(cm u known zt cv)
def ce.L2  (k:Int→Int→(Int×Bool×Int)):List Int→Int→Int→(Int×Bool×Int)
 | [],Ed,Ee=>k Ed Ee
 | y2::rz2,Ed,Ee=>(ce.L2 k rz2 (IntKind.wrap .i64 (Ed+y2)) (IntKind.wrap .i64 (Ee+1)))
def ce.L3  (k:Int→Int→(Int×Bool×Int)):List Int→Int→Int→(Int×Bool×Int)
 | [],oh,Ec=>k oh Ec
 | y3::rz3,oh,Ec=>(ce.L3 k rz3 (IntKind.wrap .i64 (oh+y3)) (IntKind.wrap .i64 (Ec+1)))
def ce.K1  : (Int×Bool×Int):=((-1),true,0)
def ce.L1 (u:List Use) (value:Int) (fC:Int) (known:Int) (k:(Int×Bool×Int)):List Budget→(Int×Bool×Int)
 | []=>(k)
 | y1::rz1=>((ce.L3 (fun zg3_b6_0 zg3_b5_0=>(bif (decide (y1.Count < zg3_b5_0)||decide (y1.Value < zg3_b6_0)) then (y1.No,false,0) else (ce.L1 u value fC known k rz1)))) (mB y1 u fC known) value 1)
def ce (l:List Budget) (u:List Use) (kind:Int) (value:Int) (fC:Int) (known:Int):(Int×Bool×Int):=(bif ((cx l) != 0) then (0,false,(cx l)) else (bif (decide (4096 < (u.length:Int))) then (0,false,2) else (bif (!(iR u)) then (0,false,180) else (bif (((!(aU 0 15 ([kind])))||(!(aU 0 1099511627776 ([value]))))||(!(aU 0 1099511627775 ([fC,known])))) then (0,false,1) else ((ce.L1 u value fC known (ce.K1)) (bQ l kind fC known))))))
def iC (t:Int):Bool:=((t != (-1))&&(!(fp t)))
def de (l:List Document) (signed:List Int):Bool:=(((signed.length:Int)==(l.length:Int))&&(!(cw signed iC)))
def fK.K1  (ii:Int):Int:=ii
def fK.L1  (k:Int→Int):List Int→Int→Int
 | [],ii=>(k ii)
 | y1::rz1,ii=>(fK.L1  k rz1 (min ii y1))
def fK (x:List Int):Int:=((fK.L1 (fK.K1)) (x.drop 1) (nthI x 0))
def cD (p:eW) (tv:Int) (cv:Int):(Int×Int):=(bif (!(nthI p.done tv)) then (1,(-1)) else (bif (decide (0≤(nthI p.lacks tv))) then (4,(nthI p.lacks tv)) else (bif (decide (0 < (((mgetD p.revoked ((nthI p.shelf.docs tv).No) []).length:Nat):Int))) then (5,(fK (mgetD p.revoked ((nthI p.shelf.docs tv).No) []))) else (bif (decide (cv < (nthI p.shelf.docs tv).From)) then (2,(-1)) else (bif (decide ((nthI p.shelf.docs tv).Until≤cv)) then (3,(-1)) else (0,(-1)))))))
def insIn (cmp:Int→Int→Int):Nat→List Int→List Int
 | 0,xs=>xs
 | j+1,xs=>bif decide (cmp (xs.getD (j+1) 0) (xs.getD j 0) < 0) then insIn cmp j ((xs.set (j+1) (xs.getD j 0)).set j (xs.getD (j+1) 0)) else xs
def insOut (cmp:Int→Int→Int):Nat→Nat→List Int→List Int
 | 0,_,xs=>xs
 | m+1,i,xs=>insOut cmp m (i+1) (insIn cmp i xs)
def eX (xs:List Int) (cmp:Int→Int→Int):List Int:=insOut cmp (xs.length - 1) 1 xs
def cmp_Compare_int (x:Int) (y:Int):Int:=(bif (cmp_isNaN_int x) then (bif (cmp_isNaN_int y) then 0 else (-1)) else (bif (cmp_isNaN_int y) then 1 else (bif (decide (x < y)) then (-1) else (bif (decide (y < x)) then 1 else 0))))
def hY (a:Int) (jt:Int) (p:nK):Int:=(cmp_Compare_int (nthI p.signed a) (nthI p.signed jt))
def cX.K1  : List Int:=[]
def cX.L1  (k:List Int):List Int→List Int
 | []=>(k)
 | y1::rz1=>(y1::(cX.L1  k rz1))
def cX (v0:List Int):List Int:=((cX.L1 (cX.K1)) v0)
def jj (s:List Int):List Int:=(cX s)
def bN.K1 (p:nK) (iJ:List Int):List Int:=(jj (eX iJ (fun dB Af=>hY dB Af p)))
def bN.L1 (jR:Int) (k:List Int→List Int):List Int→Nat→List Int→List Int
 | [],i1,iJ=>(k iJ)
 | y1::rz1,i1,iJ=>(bif (decide (0≤y1)&&decide (y1≤jR)) then (bN.L1 jR k rz1 (i1+1) (iJ++[(i1:Int)])) else (bN.L1 jR k rz1 (i1+1) iJ))
def bN (p:nK) (jR:Int):List Int:=((bN.L1 jR (bN.K1 p)) p.signed 0 ([]))
def backL (s:List Int):Nat→List (Int×Int)
 | 0=>[]
 | m+1=>((m:Int),nthI s (m:Int))::backL s m
def ik (v0:List Int):List (Int×Int):=backL v0 v0.length
def iI (s:List Int):(List (Int×Int)):=(ik s)
def V3i (_:HF) (v:Value) (x:Option Addr×Nat×Nat):Prop:=v=.slice x.1 x.2.1 x.2.2
def FRi (h:HF):List (Int×Option Addr×Nat×Nat)→List (Int×List Int)→LH→Prop
 | [],[],G=>G=[]
 | (k,x)::m,(k',xs)::f,G=>k=k'∧x.2.1=xs.length∧∃ G1 G2,G=G1++G2∧em Rp.int 3 h xs x.1 x.2.2 G1∧FRi h m f G2
 | _,_,_=>False
def playP (l:List Document) (sg:List Int):eW:=⟨aC l,sg,List.replicate l.length false,List.replicate l.length 0,[]⟩
def playR (n:Nat) (sr:mC) (sb:Option Addr) (sc:Nat) (b5 b8 b9:Nat):qn:=⟨sr,sb,sc,some ⟨b5,0,none⟩,n,some ⟨b8,0,none⟩,n,b9⟩
def plL (b c d f t:Bool) (B5 B8 B9 B12 B11:Nat×Obj):LH:=
 (bif t then [B11] else [])++((bif f then [B12] else [])++((bif d then [B9] else [])++((bif c then [B8] else [])++(bif b then [B5] else []))))
def plD (a b c d f g t:Bool):List Nat:=
 (bif t then [11] else [])++((bif g then [10] else [])++((bif f then [12] else [])++((bif d then [9] else [])++((bif c then [8] else [])++((bif b then [5] else [])++((bif a then [1] else [])++[7,6,4,3,2,0]))))))
def plM (a b c d f g t:Bool):Nat:=(bif a then 0 else 1)+(bif b then 0 else 1)+(bif c then 0 else 1)+(bif d then 0 else 1)+(bif f then 0 else 1)+(bif g then 0 else 1)+(bif t then 0 else 1)
def PlI (h:HF) (l:List Document) (lb:Option Addr) (lc:Nat) (sg:List Int) (sb:Option Addr) (sc:Nat) (at_:Int) (q4:Addr) (a b c d f g t:Bool) (e:Env) (h':HF) (L:LH):Prop:=
 ((!g||(a&&b&&c&&d))&&(!t||g))=true∧h.le h'∧(e 2=.int .i64 at_∧e 4=.pointer (some q4)∧e 16=.slice lb l.length lc∧e 18=.slice sb sg.length sc∧e 20=.int .i64 (l.length:Int)∧e 23=.int .i64 (l.length:Int)) ∧
 ∃ (sr:mC) (b5 b8 b9 b12 b11:Nat),(a=true→e 17=.agg (gv.cells (aC l) sr).toArray∧gv.ok h' (aC l) sr)∧(b=true→e 21=.slice (some ⟨b5,0,none⟩) l.length l.length) ∧
  (c=true→e 24=.slice (some ⟨b8,0,none⟩) l.length l.length)∧(d=true→e 25=.map (some b9))∧(f=true→e 7=.pointer (some ⟨b12,0,none⟩))∧(g=true→e 26=.agg (eW.cells (playP l sg) (playR l.length sr sb sc b5 b8 b9)).toArray)∧(t=true→e 27=.pointer (some ⟨b11,0,none⟩)) ∧
  L.Perm (plL b c d f t (b5,.cells (List.replicate l.length (.bool false)).toArray 4 (0,0)) (b8,.cells (List.replicate l.length (.int .i64 0)).toArray 3 (0,0)) (b9,.map #[] 0) (b12,.cells (List.toArray [.pointer none]) 211 (0,0)) (b11,.cells (eW.cells (playP l sg) (playR l.length sr sb sc b5 b8 b9)).toArray 238 (0,0)))
def plN (a b c d f g t:Bool):List Nat:=
 (bif a then [] else [1])++((bif b then [] else [5])++((bif c then [] else [8])++((bif d then [] else [9])++((bif a&&b&&c&&d&&!g then [10] else [])++((bif g&&!t then [11] else [])++((bif f then [] else [12])++(bif a&&b&&c&&d&&f&&g&&t then [13] else [])))))))
def playLack (sg:List Int) (i:Int) (p:eW) (no:Int):eW:=bif (cD p (mgetD p.shelf.at_ no 0) (nthI sg i)).1 != 0 then { p with lacks:=p.lacks.set i.toNat no } else p
def playRevoke (d:Document) (p:eW) (no:Int):eW:={ p with revoked:=mput p.revoked no (mgetD p.revoked no []++[d.No]) }
def playMid (p:eW) (i:Int):eW:=(iI (nthI p.shelf.docs i).Needs).foldl (fun q x=>playLack p.signed i q x.2) { p with lacks:=p.lacks.set i.toNat (-1) }
def playDone (p:eW) (i:Int):eW:={ p with done:=p.done.set i.toNat true }
def playStep (p:eW) (i:Int):eW:=
 bif decide (nthI (playMid p i).lacks i < 0) then (nthI p.shelf.docs i).Revokes.foldl (playRevoke (nthI p.shelf.docs i)) (playDone (playMid p i) i) else playDone (playMid p i) i
def co (l:List Document) (signed:List Int) (at_:Int):eW:=(bN (playP l signed) at_).foldl playStep (playP l signed)
def plB (b5 b8 br:Nat) (P:eW) (om:Obj) (Gf:LH):LH:=
 [(b5,.cells (P.done.map Value.bool).toArray 4 (0,0)),(b8,.cells (P.lacks.map (Value.int .i64)).toArray 3 (0,0)),(br,om)]++Gf
def cd.K1  (oU:List Int):(List Int×Int):=(oU,0)
def cd.L1 (l:List Document) (signed:List Int) (cv:Int) (k:List Int→(List Int×Int)):List Document→Nat→List Int→(List Int×Int)
 | [],i1,oU=>(k oU)
 | y1::rz1,i1,oU=>(bif ((cD (co l signed cv) (i1:Int) cv).1==0) then (cd.L1 l signed cv k rz1 (i1+1) (oU++[y1.No])) else (cd.L1 l signed cv k rz1 (i1+1) oU))
def cd (l:List Document) (signed:List Int) (cv:Int):(List Int×Int):=(bif ((aX l) != 0) then ([],(aX l)) else (bif ((!(de l signed))||(!(fp cv))) then ([],1) else ((cd.L1 l signed cv (cd.K1)) l 0 ([]))))
def bX (d:Document) (v0:bo):Bool:=(d.No==v0.doc.No)
def ig (s:List Document) (f:(Document→Bool)):Bool:=decide (0≤(ad s f))
def fE (l:List Document) (signed:List Int) (no:Int) (cL:Int):(Int×Int×Int):=(bif ((aX l) != 0) then (0,0,(aX l)) else (bif ((!(de l signed))||(!(fp cL))) then (0,0,1) else (bif (!(mhas ((co l signed cL).shelf.at_) no)) then (0,0,1) else ((cD (co l signed cL) (mgetD ((co l signed cL).shelf.at_) no 0) cL).1,(cD (co l signed cL) (mgetD ((co l signed cL).shelf.at_) no 0) cL).2,0))))
def gk.K1  : Int:=(-1)
def gk.L1 (v:Int) (k:Int):List Int→Nat→Int
 | [],i1=>(k)
 | y1::rz1,i1=>(bif (v==y1) then (i1:Int) else (gk.L1 v k rz1 (i1+1)))
def gk (s:List Int) (v:Int):Int:=((gk.L1 v (gk.K1)) s 0)
def jy (s:List Int) (v:Int):Bool:=decide (0≤(gk s v))
def iO (d:Document) (c:bo) (signed:List Int):Bool:=(bif (!(jy d.Revokes c.doc.No)) then false else (((fE c.Register.Docs signed d.No c.at_).1 != 1)&&((fE c.Register.Docs signed d.No c.at_).1 != 4)))
def eT (c:bo) (signed:List Int):Bool:=(ig c.Register.Docs (fun dB=>iO dB c signed))
def fY (c:bo) (signed:List Int):Bool:=(((decide (c.at_ < c.doc.At)||decide (c.doc.Until≤c.at_))||(decide (0≤(nthI signed (ad c.Register.Docs (fun dB=>bX dB c))))&&decide ((nthI signed (ad c.Register.Docs (fun dB=>bX dB c)))≤c.at_)))||(eT c signed))
def rF (c:bo) (signed:List Int):Bool:=(fY c signed)
def jA (eo:Int) (v0:List Int):Bool:=(!(jy v0 eo))
def iv (c:bo) (signed:List Int):Bool:=(cw c.doc.Needs (fun dB=>jA dB ((cd c.Register.Docs signed c.at_).1)))
def rE (c:bo) (signed:List Int):Bool:=(iv c signed)
def cf.K1  (bz:List Holder):List Holder:=bz
def cf.L1  (k:List Holder→List Holder):List Holder→List Holder→List Holder
 | [],bz=>k bz
 | y1::rz1,bz=>(cf.L1 k rz1 (bz++[y1]))
def cf (seq:List Holder):List Holder:=((cf.L1 (cf.K1)) seq ([]))
def fD (seq:List Holder):List Holder:=(cf seq)
def bZ.K1  : List Holder:=[]
def bZ.L1 (m:List (OSeat×Appoint)) (office:Int) (k:List Holder):List OSeat→List Holder
 | []=>(k)
 | y1::rz1=>(bif ((y1.office==office)&&(!((mgetD m y1 (Appoint.mk 0 0 0 0 0 0 false)).Gone))) then ((Holder.mk ((mgetD m y1 (Appoint.mk 0 0 0 0 0 0 false)).Person) ((mgetD m y1 (Appoint.mk 0 0 0 0 0 0 false)).Weight))::(bZ.L1 m office k rz1)) else (bZ.L1 m office k rz1))
def bZ (m:List (OSeat×Appoint)) (office:Int):List Holder:=((bZ.L1 m office (bZ.K1)) (seatS (m.map Prod.fst)))
def iD (m:List (OSeat×Appoint)) (office:Int):List Holder:=(bZ m office)
def eh (l:List Appoint) (office:Int) (cv:Int) (known:Int):(List Holder×Int):=(bif ((cZ l) != 0) then ([],(cZ l)) else (bif (((!(eM office))||(!(di cv)))||(!(di known))) then ([],1) else ((fD (iD (dk l cv known) office)),0)))
def eE.K1  (ii:Int):Bool:=true
def eE.L1  (k:Int→Bool):List Int→Int→Bool
 | [],ii=>(k ii)
 | y1::rz1,ii=>(bif (decide (y1≤ii)||decide (64≤y1)) then false else (eE.L1  k rz1 y1))
def eE (who:List Int):Bool:=((eE.L1 (eE.K1)) who (-1))
def er.L2  (k:List Int→Bool):List Holder→List Int→Bool
 | [],Mz=>(k Mz)
 | y2::rz2,Mz=>(bif (decide (y2.Weight < 1)||decide (64 < y2.Weight)) then false else (er.L2  k rz2 (Mz++[y2.Person])))
def er.L3  (k:List Int→Bool):List Holder→List Int→Bool
 | [],ID=>(k ID)
 | y3::rz3,ID=>(bif (decide (y3.Weight < 1)||decide (64 < y3.Weight)) then false else (er.L3  k rz3 (ID++[y3.Person])))
def er.K1 (holders:List (List Holder)) (offices:Int):Bool:=((holders.length:Int)==offices)
def er.L1  (k:Bool):List (List Holder)→Bool
 | []=>(k)
 | y1::rz1=>((er.L3 (fun zg3_7=>(bif (!(eE zg3_7)) then false else (er.L1  k rz1)))) y1 ([]))
def er (holders:List (List Holder)) (offices:Int):Bool:=((er.L1 (er.K1 holders offices)) holders)
def cn.K1  : List Holder:=[]
def cn.L1 (q:aZ) (k:List Holder):List Holder→List Holder
 | []=>(k)
 | y1::rz1=>(bif ((slices_BinarySearch_int q.who y1.Person).2) then (y1::(cn.L1 q k rz1)) else (cn.L1 q k rz1))
def cn (q:aZ) (office:Int):List Holder:=((cn.L1 q (cn.K1)) (nthI q.holders office))
def gr (q:aZ) (office:Int):List Holder:=(cn q office)
def dV.K1  (bJ:Bool):Bool:=false
def dV.L1  (k:Bool→Bool):List Holder→Bool→Bool
 | [],bJ=>k bJ
 | y1::rz1,bJ=>true
def dV (q:aZ) (x:Expr):Bool:=((dV.L1 (dV.K1)) (gr q x.No) false)
def dO.K1 (x:Expr) (bJ:Int):Bool:=decide (x.N≤bJ)
def dO.L1  (k:Int→Bool):List Holder→Int→Bool
 | [],bJ=>k bJ
 | y1::rz1,bJ=>(dO.L1 k rz1 (IntKind.wrap .i64 (bJ+y1.Weight)))
def dO (q:aZ) (x:Expr):Bool:=((dO.L1 (dO.K1 x)) (gr q x.No) 0)
def eS.K1 (x:Expr) (iJ:Int):Bool:=decide (x.N≤iJ)
def eS.L1 (rec:aZ→Expr→Bool) (q:aZ) (k:Int→Bool):List Expr→Int→Bool
 | [],iJ=>(k iJ)
 | y1::rz1,iJ=>(bif (rec q y1) then (eS.L1 rec q k rz1 (IntKind.wrap .i64 (iJ+1))) else (eS.L1 rec q k rz1 iJ))
def eS.F (rec:aZ→Expr→Bool) (q:aZ) (x:Expr):Bool:=((eS.L1 rec q (eS.K1 x)) x.L 0)
def jL.F (rec:aZ→Expr→Bool) (q:aZ) (x:Expr):Bool:=(bif (decide (q.value≤x.N)) then (rec q (nthI x.L 0)) else (rec q (nthI x.L 1)))
def fulQ (rec:aZ→Expr→Bool) (q:aZ) (x:Expr):Bool:=if x.Kind=1 then dV q x else if x.Kind=2 then dO q x else if x.Kind=3 then eS.F rec q x else jL.F rec q x
def dP.F (rec:aZ→Expr→Bool) (q:aZ) (x:Expr):Bool:=(fulQ rec q x)
def dP.go:Nat→aZ→Expr→Bool
 | 0=>fun _ _=>default
 | m+1=>dP.F (dP.go m)
def dP (q:aZ) (x:Expr):Bool:=dP.go x.dep q x
def fU (p:Policy) (kind:Int) (value:Int) (holders:List (List Holder)) (who:List Int):(Bool×Int):=(bif ((cV p) != 0) then (false,(cV p)) else (bif (((decide (kind < 0)||decide ((p.Kinds.length:Int)≤kind))||decide (value < 0))||decide (1099511627776 < value)) then (false,1) else (bif (!(er holders (p.Offices.length:Int))) then (false,210) else (bif (!(eE who)) then (false,1) else ((dP (aZ.mk value holders who) ((nthI p.Rules kind).Expr)),0)))))
def e9.K1 (c:bo) (p:Policy) (who:List Int) (zK:List (List Holder)):Bool:=((fU p c.doc.Kind c.doc.Value zK who).1&&((fU p c.doc.Kind c.doc.Value zK who).2==0))
def e9.L1 (c:bo) (k:(List (List Holder))→Bool):List ByteArray→Nat→(List (List Holder))→Bool
 | [],i1,zK=>(k zK)
 | y1::rz1,i1,zK=>(e9.L1 c k rz1 (i1+1) (zK++[(eh c.Register.Appoints (i1:Int) c.at_ c.known).1]))
def e9 (c:bo) (p:Policy) (who:List Int):Bool:=((e9.L1 c (e9.K1 c p who)) p.Offices 0 ([]))
def askJ (c:bo):List Int×Int×Int:=bE c.Register.Versions c.doc.At c.at_ c.known
def askP (c:bo) (no:Int):Policy:=exD (dJ c no)
def askWho (c:bo) (no:Int):List Int:=cS c (askP c no)
def askAns (c:bo) (no:Int):Bool:=e9 c (askP c no) (askWho c no)
def askAll (c:bo):List Int:=slices_Compact_int (sortI ((askJ c).1.flatMap (askWho c)))
def gK (c:bo):Bool:=bif (askJ c).2.1==0 then false else (iQ (askJ c).2.1 ((askJ c).1.map (askAns c))).1
abbrev verO (s0 b0:Int) (vb:Option Addr) (vn vc:Nat) (wb:Option Addr) (wn wc:Nat):Obj:=.cells (List.toArray [.int .i64 s0,.int .i64 b0,.slice vb vn vc,.slice wb wn wc]) 36 (0,0)
def judgeRoom (c:bo) (r:Register) (u:List Use) (at_ known:Int):Int×Bool×Int:=ce r.Budgets u c.doc.Kind c.doc.Value at_ known
def judgeC (c:bo) (r:Register) (signed:List Int) (u:List Use) (at_ known:Int):gu:=
 bif fY c signed then ⟨1,-1,[],[]⟩ else bif iv c signed then ⟨2,-1,[],[]⟩ else bif !(gK c) then ⟨3,-1,(askJ c).1,askAll c⟩ else
 bif !(judgeRoom c r u at_ known).2.1 then ⟨4,(judgeRoom c r u at_ known).1,(askJ c).1,askAll c⟩ else ⟨0,-1,(askJ c).1,askAll c⟩
def eA (bL:Register) (signed:List Int) (u:List Use) (doc:Int) (fC:Int) (known:Int):gu×Int:=
 bif eB bL != 0 then (⟨0,0,[],[]⟩,eB bL) else
 bif (cd bL.Docs signed 0).2 != 0 then (⟨0,0,[],[]⟩,(cd bL.Docs signed 0).2) else
 bif (ce bL.Budgets u 0 0 0 0).2.2 != 0 then (⟨0,0,[],[]⟩,(ce bL.Budgets u 0 0 0 0).2.2) else
 match ki bL doc fC known with
  | .error e=>(⟨0,0,[],[]⟩,e)
  | .ok c=>(judgeC c bL signed u fC known,0)
def iP.K1  : Bool:=true
def iP.L1 (jt:List Int) (k:Bool):List Int→Nat→Bool
 | [],i1=>(k)
 | y1::rz1,i1=>(bif (y1 != (nthI jt (i1:Int))) then false else (iP.L1 jt k rz1 (i1+1)))
def iP (a:List Int) (jt:List Int):Bool:=(bif ((a.length:Int) != (jt.length:Int)) then false else ((iP.L1 jt (iP.K1)) a 0))
def cq  : Policy:=(Policy.mk (⟨#[98,111,97,114,100]⟩:ByteArray) ([(⟨#[99,111,110,116,114,97,99,116]⟩:ByteArray)]) ([(⟨#[100,105,114,101,99,116,111,114]⟩:ByteArray)]) ([(Rule.mk (⟨#[99,111,110,116,114,97,99,116]⟩:ByteArray) 0 3 (Expr.mk 1 0 0 (⟨#[100,105,114,101,99,116,111,114]⟩:ByteArray) ([])))]) (Expr.mk 1 0 0 (⟨#[100,105,114,101,99,116,111,114]⟩:ByteArray) ([])) 2)
def aA  : Register:=(Register.mk ([(Appoint.mk 0 0 0 0 2 1 false)]) ([(Deputy.mk 0 0 0 40 2 5 0 (-1) 100 false)]) ([]) ([]) ([(Version.mk 1 0 0 cq)]) ([(Document.mk 7 1 0 60 0 50 ([9]) ([]) ([]) (fun _=>0))]) ([(Approval.mk 3 4 6 7 5 2 0 false)]))
def Br (bL:Register) (jR:Int) (state:Int):Bool:=(((eA bL ([(-1)]) ([]) 7 jR 100).2==0)&&(((eA bL ([(-1)]) ([]) 7 jR 100).1).State==state))
def pR  : Bool:=true
def fG.K1  (iJ:Int):Int:=iJ
def fG.L1 (rec:Expr→Int→Int) (limit:Int) (k:Int→Int):List Expr→Int→Int
 | [],iJ=>(k iJ)
 | y1::rz1,iJ=>(bif (decide (iJ≤limit)) then (fG.L1 rec limit k rz1 (IntKind.wrap .i64 (iJ+(rec y1 (IntKind.wrap .i64 (limit - iJ)))))) else (k iJ))
def fG.F (rec:Expr→Int→Int) (x:Expr) (limit:Int):Int:=((fG.L1 rec limit (fG.K1)) x.L 1)
def fG.go:Nat→Expr→Int→Int
 | 0=>fun _ _=>default
 | m+1=>fG.F (fG.go m)
def fG (x:Expr) (limit:Int):Int:=fG.go x.dep x limit
def dN.L2  (k:Bool):List Rule→Bool
 | []=>(k)
 | y2::rz2=>(bif (decide (40 < (fG y2.Expr 40))) then false else (dN.L2  k rz2))
def dN.L3  (k:Bool):List Rule→Bool
 | []=>(k)
 | y3::rz3=>(bif (decide (40 < (fG y3.Expr 40))) then false else (dN.L3  k rz3))
def dN.K1  : Bool:=true
def dN.L1  (k:Bool):List Version→Bool
 | []=>(k)
 | y1::rz1=>(bif (((decide (20 < (y1.Policy.Kinds.length:Int))||decide (40 < (y1.Policy.Offices.length:Int)))||decide (20 < (y1.Policy.Rules.length:Int)))||decide (40 < (fG y1.Policy.Change 40))) then false else ((dN.L3 ((dN.L1  k rz1))) y1.Policy.Rules))
def dN (l:List Version):Bool:=(bif (decide (5 < (l.length:Int))) then false else ((dN.L1 (dN.K1)) l))
def jY.K1  : Bool:=true
def jY.L1  (k:Bool):List Document→Bool
 | []=>(k)
 | y1::rz1=>(bif ((decide (20 < (y1.Parties.length:Int))||decide (20 < (y1.Revokes.length:Int)))||decide (20 < (y1.Needs.length:Int))) then false else (jY.L1  k rz1))
def jY (bL:Register):Bool:=(bif ((((((decide (30 < (bL.Appoints.length:Int))||decide (12 < (bL.Deputies.length:Int)))||decide (12 < (bL.Interests.length:Int)))||decide (12 < (bL.Budgets.length:Int)))||decide (8 < (bL.Docs.length:Int)))||decide (24 < (bL.Approvals.length:Int)))||(!(dN bL.Versions))) then false else ((jY.L1 (jY.K1)) bL.Docs))
def aQ.K1  : Int:=(-1)
def aQ.L1 (no:Int) (k:Int):List Document→Nat→Int
 | [],i1=>(k)
 | y1::rz1,i1=>(bif (y1.No==no) then (i1:Int) else (aQ.L1 no k rz1 (i1+1)))
def aQ (bL:Register) (no:Int):Int:=((aQ.L1 no (aQ.K1)) bL.Docs 0)
def ma (eo:Int):Bool:=(decide (0≤eo)&&decide (eo < 1099511627776))
def my (eo:Int):Bool:=(decide (0≤eo)&&decide (eo < 32))
def mw (eo:Int):Bool:=(decide (0≤eo)&&decide (eo < 64))
def i8 (x:Appoint):Bool:=(bif (((((decide (x.No < 0)||decide (1048576 < x.No))||(!(ma x.At)))||(!(ma x.Known)))||(!(my x.Office)))||(!(mw x.Person))) then false else (bif x.Gone then (x.Weight==0) else (decide (1≤x.Weight)&&decide (x.Weight≤64))))
def gZ.K1  : Int:=0
def gZ.L1 (l:List Appoint) (k:Int):List Appoint→Nat→Int
 | [],i1=>(k)
 | y1::rz1,i1=>(bif ((!(i8 y1))||(decide (0 < (i1:Int))&&decide (y1.No≤(nthI l ((i1:Int) - 1)).No))) then 150 else (gZ.L1 l k rz1 (i1+1)))
def gZ (l:List Appoint):Int:=(bif (decide (4096 < (l.length:Int))) then 2 else ((gZ.L1 l (gZ.K1)) l 0))
def gI (eo:Int) (low:Int) (high:Int):Bool:=(decide (low≤eo)&&decide (eo≤high))
def lZ (eo:Int):Bool:=(gI eo 0 1099511627775)
def ky (eo:Int):Bool:=(gI eo 0 63)
def i7 (x:Deputy):Bool:=(bif ((((((!(gI x.No 0 1048576))||(!(lZ x.At)))||(!(lZ x.Known)))||(!(ky x.From)))||(!(ky x.To)))||(x.From==x.To)) then false else (bif ((!(gI x.Office 0 31))||(!(gI x.Kind (-1) 15))) then false else (bif x.Gone then ((x.Until==0)&&(x.Most==0)) else ((decide (x.At < x.Until)&&decide (x.Until≤1099511627776))&&(gI x.Most 0 1099511627776)))))
def gH.K1  : Int:=0
def gH.L1 (l:List Deputy) (k:Int):List Deputy→Nat→Int
 | [],i1=>(k)
 | y1::rz1,i1=>(bif ((!(i7 y1))||(decide (0 < (i1:Int))&&decide (y1.No≤(nthI l ((i1:Int) - 1)).No))) then 160 else (gH.L1 l k rz1 (i1+1)))
def gH (l:List Deputy):Int:=(bif (decide (4096 < (l.length:Int))) then 2 else ((gH.L1 l (gH.K1)) l 0))
def lW (t:Int):Bool:=(decide (0≤t)&&decide (t < 1099511627776))
def kX (eo:Int):Bool:=(decide (0≤eo)&&decide (eo≤1048576))
def mu (eo:Int):Bool:=(decide (0≤eo)&&decide (eo < 64))
def iX (x:Interest):Bool:=(bif ((((decide (x.No < 0)||decide (1048576 < x.No))||(!(lW x.At)))||(!(lW x.Known)))||(!(kX x.Party))) then false else (bif x.Of then ((kX x.Person)&&(x.Person != x.Party)) else (mu x.Person)))
def gE.K1  : Int:=0
def gE.L1 (l:List Interest) (k:Int):List Interest→Nat→Int
 | [],i1=>(k)
 | y1::rz1,i1=>(bif ((!(iX y1))||(decide (0 < (i1:Int))&&decide (y1.No≤(nthI l ((i1:Int) - 1)).No))) then 290 else (gE.L1 l k rz1 (i1+1)))
def gE (l:List Interest):Int:=(bif (decide (4096 < (l.length:Int))) then 2 else ((gE.L1 l (gE.K1)) l 0))
def hZ (eo:Int) (least:Int) (most:Int):Bool:=(decide (least≤eo)&&decide (eo≤most))
def kx (eo:Int):Bool:=(decide (0≤eo)&&decide (eo < 1099511627776))
def i5 (x:Budget):Bool:=(bif (((((!(hZ x.No 0 1048576))||(!(kx x.At)))||(!(kx x.Known)))||(!(hZ x.Kind (-1) 15)))||(!(hZ x.Period 1 1099511627776))) then false else (bif x.Gone then ((x.Count==0)&&(x.Value==0)) else ((hZ x.Count 0 1048576)&&(hZ x.Value 0 1099511627776))))
def gG.K1  : Int:=0
def gG.L1 (l:List Budget) (k:Int):List Budget→Nat→Int
 | [],i1=>(k)
 | y1::rz1,i1=>(bif ((!(i5 y1))||(decide (0 < (i1:Int))&&decide (y1.No≤(nthI l ((i1:Int) - 1)).No))) then 180 else (gG.L1 l k rz1 (i1+1)))
def gG (l:List Budget):Int:=(bif (decide (4096 < (l.length:Int))) then 2 else ((gG.L1 l (gG.K1)) l 0))
def fd (eo:Int):Bool:=(decide (0≤eo)&&decide (eo < 1099511627776))
def dl.K1  (iJ:Int):Int:=iJ
def dl.L1 (rec:Expr→Int→Int) (limit:Int) (k:Int→Int):List Expr→Int→Int
 | [],iJ=>(k iJ)
 | y1::rz1,iJ=>(bif (decide (iJ≤limit)) then (dl.L1 rec limit k rz1 (IntKind.wrap .i64 (iJ+(rec y1 (IntKind.wrap .i64 (limit - iJ)))))) else (k iJ))
def dl.F (rec:Expr→Int→Int) (x:Expr) (limit:Int):Int:=((dl.L1 rec limit (dl.K1)) x.L 1)
def dl.go:Nat→Expr→Int→Int
 | 0=>fun _ _=>default
 | m+1=>dl.F (dl.go m)
def dl (x:Expr) (limit:Int):Int:=dl.go x.dep x limit
def bj.K1  (ii:Int):Int:=(IntKind.wrap .i64 (ii+1))
def bj.L1 (rec:Expr→Int) (k:Int→Int):List Expr→Int→Int
 | [],ii=>(k ii)
 | y1::rz1,ii=>(bj.L1 rec k rz1 (max ii (rec y1)))
def bj.F (rec:Expr→Int) (x:Expr):Int:=((bj.L1 rec (bj.K1)) x.L 0)
def bj.go:Nat→Expr→Int
 | 0=>fun _=>default
 | m+1=>bj.F (bj.go m)
def bj (x:Expr):Int:=bj.go x.dep x
def iZ (x:Expr):Bool:=(decide (256 < (dl x 256))||decide (16 < (bj x)))
def eL.K1  : Bool:=false
def eL.L1  (k:Bool):List Rule→Bool
 | []=>(k)
 | y1::rz1=>(bif (iZ y1.Expr) then true else (eL.L1  k rz1))
def eL (p:Policy):Bool:=(bif (((decide (32 < (p.Offices.length:Int))||decide (16 < (p.Kinds.length:Int)))||decide (16 < (p.Rules.length:Int)))||(iZ p.Change)) then true else ((eL.L1 (eL.K1)) p.Rules))
def jQ (c:Int):Bool:=((decide (97≤c)&&decide (c≤122))||(decide (65≤c)&&decide (c≤90)))
def lm (c:Int):Bool:=(decide (48≤c)&&decide (c≤57))
def n0 (c:Int):Bool:=(((jQ c)||(lm c))||(c==95))
def gh.K1  : Bool:=true
def gh.L1 (s:ByteArray) (k:Bool):List Nat→Nat→Bool
 | [],i1=>(k)
 | y1::rz1,i1=>(bif (!(n0 ((s.data.getD ((i1:Int):Int).toNat 0).toNat:Int))) then false else (gh.L1 s k rz1 (i1+1)))
def gh (s:ByteArray):Bool:=(bif ((decide ((s.size:Int) < 1)||decide (32 < (s.size:Int)))||(!(jQ ((s.data.getD (0:Int).toNat 0).toNat:Int)))) then false else ((gh.L1 s (gh.K1)) (List.range s.size) 0))
def lY (s:ByteArray):Bool:=(bif (s.toList==(⟨#[112,111,108,105,99,121]⟩:ByteArray).toList) then (bif (s.toList==(⟨#[112,111,108,105,99,121]⟩:ByteArray).toList) then true else false) else (bif (s.toList==(⟨#[109,111,100,101]⟩:ByteArray).toList) then (bif (s.toList==(⟨#[109,111,100,101]⟩:ByteArray).toList) then true else false) else (bif (s.toList==(⟨#[111,108,100]⟩:ByteArray).toList) then (bif (s.toList==(⟨#[111,108,100]⟩:ByteArray).toList) then true else false) else (bif (s.toList==(⟨#[110,101,119]⟩:ByteArray).toList) then (bif (s.toList==(⟨#[110,101,119]⟩:ByteArray).toList) then true else false) else (bif (s.toList==(⟨#[98,111,116,104]⟩:ByteArray).toList) then (bif (s.toList==(⟨#[98,111,116,104]⟩:ByteArray).toList) then true else false) else (bif (s.toList==(⟨#[101,105,116,104,101,114]⟩:ByteArray).toList) then (bif (s.toList==(⟨#[101,105,116,104,101,114]⟩:ByteArray).toList) then true else false) else (bif (s.toList==(⟨#[111,102,102,105,99,101]⟩:ByteArray).toList) then (bif (s.toList==(⟨#[111,102,102,105,99,101]⟩:ByteArray).toList) then true else false) else (bif (s.toList==(⟨#[107,105,110,100]⟩:ByteArray).toList) then (bif (s.toList==(⟨#[107,105,110,100]⟩:ByteArray).toList) then true else false) else (bif (s.toList==(⟨#[114,117,108,101]⟩:ByteArray).toList) then (bif (s.toList==(⟨#[114,117,108,101]⟩:ByteArray).toList) then true else false) else (bif (s.toList==(⟨#[116,104,105,110,107]⟩:ByteArray).toList) then (bif (s.toList==(⟨#[116,104,105,110,107]⟩:ByteArray).toList) then true else false) else (bif (s.toList==(⟨#[99,104,97,110,103,101]⟩:ByteArray).toList) then (bif (s.toList==(⟨#[99,104,97,110,103,101]⟩:ByteArray).toList) then true else false) else (bif (s.toList==(⟨#[115,111,109,101]⟩:ByteArray).toList) then (bif (s.toList==(⟨#[115,111,109,101]⟩:ByteArray).toList) then true else false) else (bif (s.toList==(⟨#[119,101,105,103,104,116]⟩:ByteArray).toList) then (bif (s.toList==(⟨#[119,101,105,103,104,116]⟩:ByteArray).toList) then true else false) else (bif (s.toList==(⟨#[111,102]⟩:ByteArray).toList) then (bif (s.toList==(⟨#[111,102]⟩:ByteArray).toList) then true else false) else (bif (s.toList==(⟨#[117,112,116,111]⟩:ByteArray).toList) then (bif (s.toList==(⟨#[117,112,116,111]⟩:ByteArray).toList) then true else false) else (bif (s.toList==(⟨#[101,108,115,101]⟩:ByteArray).toList) then true else false))))))))))))))))
def ll (s:ByteArray):Bool:=((gh s)&&(!(lY s)))
def ed.K1  : Int:=(-1)
def ed.L1 (s:ByteArray) (k:Int):List ByteArray→Nat→Int
 | [],i1=>(k)
 | y1::rz1,i1=>(bif (y1.toList==s.toList) then (i1:Int) else (ed.L1 s k rz1 (i1+1)))
def ed (l:List ByteArray) (s:ByteArray):Int:=((ed.L1 s (ed.K1)) l 0)
def ep.K1  : Bool:=true
def ep.L1 (l:List ByteArray) (k:Bool):List ByteArray→Nat→Bool
 | [],i1=>(k)
 | y1::rz1,i1=>(bif ((!(ll y1))||((ed l y1) != (i1:Int))) then false else (ep.L1 l k rz1 (i1+1)))
def ep (l:List ByteArray):Bool:=((ep.L1 l (ep.K1)) l 0)
def bM.K1  : Bool:=true
def bM.L1 (rec:List ByteArray→Expr→Bool) (offices:List ByteArray) (k:Bool):List Expr→Bool
 | []=>(k)
 | y1::rz1=>(bif (!(rec offices y1)) then false else (bM.L1 rec offices k rz1))
def bM.F (rec:List ByteArray→Expr→Bool) (offices:List ByteArray) (x:Expr):Bool:=(bif (((x.Kind==1)||(x.Kind==2))&&decide ((ed offices x.Name) < 0)) then false else ((bM.L1 rec offices (bM.K1)) x.L))
def bM.go:Nat→List ByteArray→Expr→Bool
 | 0=>fun _ _=>default
 | m+1=>bM.F (bM.go m)
def bM (offices:List ByteArray) (x:Expr):Bool:=bM.go x.dep offices x
def gq.K1 (p:Policy):Bool:=(bM p.Offices p.Change)
def gq.L1 (p:Policy) (k:Bool):List Rule→Bool
 | []=>(k)
 | y1::rz1=>(bif (!(bM p.Offices y1.Expr)) then false else (gq.L1 p k rz1))
def gq (p:Policy):Bool:=(bif (((!(ll p.Name))||(!(ep p.Offices)))||(!(ep p.Kinds))) then false else ((gq.L1 p (gq.K1 p)) p.Rules))
def aG.K1 (x:Expr) (upto:Bool):Bool:=(bif (x.Kind==1) then ((x.N==0)&&((x.L.length:Int)==0)) else (bif (x.Kind==2) then ((decide (1≤x.N)&&decide (x.N≤4096))&&((x.L.length:Int)==0)) else (bif (x.Kind==3) then (((((x.Name.toList==(⟨#[]⟩:ByteArray).toList)&&decide (1≤(x.L.length:Int)))&&decide ((x.L.length:Int)≤16))&&decide (1≤x.N))&&decide (x.N≤(x.L.length:Int))) else (bif (x.Kind==4) then ((((upto&&(x.Name.toList==(⟨#[]⟩:ByteArray).toList))&&((x.L.length:Int)==2))&&decide (0≤x.N))&&decide (x.N≤1099511627776)) else false))))
def aG.L1 (rec:Expr→Bool→Bool) (upto:Bool) (k:Bool):List Expr→Bool
 | []=>(k)
 | y1::rz1=>(bif (!(rec y1 upto)) then false else (aG.L1 rec upto k rz1))
def aG.F (rec:Expr→Bool→Bool) (x:Expr) (upto:Bool):Bool:=((aG.L1 rec upto (aG.K1 x upto)) x.L)
def aG.go:Nat→Expr→Bool→Bool
 | 0=>fun _ _=>default
 | m+1=>aG.F (aG.go m)
def aG (x:Expr) (upto:Bool):Bool:=aG.go x.dep x upto
def fx.K1 (p:Policy):Bool:=(aG p.Change false)
def fx.L1 (p:Policy) (k:Bool):List Rule→Nat→Bool
 | [],i1=>(k)
 | y1::rz1,i1=>(bif ((((!(y1.Kind.toList==(nthI p.Kinds (i1:Int)).toList))||decide (y1.Think < 0))||decide (1099511627776≤y1.Think))||(!(aG y1.Expr true))) then false else (fx.L1 p k rz1 (i1+1)))
def fx (p:Policy):Bool:=(bif (((decide ((p.Kinds.length:Int) < 1)||((p.Rules.length:Int) != (p.Kinds.length:Int)))||decide (p.Mode < 1))||decide (4 < p.Mode)) then false else ((fx.L1 p (fx.K1 p)) p.Rules 0))
def ae.K1 (offices:List ByteArray) (x:Expr) (jI:List Expr):Expr:=(Expr.mk x.Kind x.N (ed offices x.Name) x.Name jI)
def ae.L1 (rec:List ByteArray→Expr→Expr) (offices:List ByteArray) (k:List Expr→Expr):List Expr→List Expr→Expr
 | [],jI=>(k jI)
 | y1::rz1,jI=>(ae.L1 rec offices k rz1 (jI++[(rec offices y1)]))
def ae.K2 (x:Expr) (jH:List Expr):Expr:=(Expr.mk x.Kind x.N 0 x.Name jH)
def ae.L2 (rec:List ByteArray→Expr→Expr) (offices:List ByteArray) (k:List Expr→Expr):List Expr→List Expr→Expr
 | [],jH=>(k jH)
 | y2::rz2,jH=>(ae.L2 rec offices k rz2 (jH++[(rec offices y2)]))
def ae.F (rec:List ByteArray→Expr→Expr) (offices:List ByteArray) (x:Expr):Expr:=(bif ((x.Kind==1)||(x.Kind==2)) then ((ae.L1 rec offices (ae.K1 offices x)) x.L ([])) else ((ae.L2 rec offices (ae.K2 x)) x.L ([])))
def ae.go:Nat→List ByteArray→Expr→Expr
 | 0=>fun _ _=>default
 | m+1=>ae.F (ae.go m)
def ae (offices:List ByteArray) (x:Expr):Expr:=ae.go x.dep offices x
def dL.K1 (p:Policy) (kK:List Rule):(Policy×Int):=((Policy.mk p.Name p.Kinds p.Offices kK (Expr.mk ((ae p.Offices p.Change).Kind) ((ae p.Offices p.Change).N) ((ae p.Offices p.Change).No) ((ae p.Offices p.Change).Name) ((ae p.Offices p.Change).L)) p.Mode),0)
def dL.L1 (p:Policy) (k:List Rule→(Policy×Int)):List Rule→Nat→List Rule→(Policy×Int)
 | [],i1,kK=>(k kK)
 | y1::rz1,i1,kK=>(dL.L1 p k rz1 (i1+1) (kK++[(Rule.mk y1.Kind (i1:Int) y1.Think (Expr.mk ((ae p.Offices y1.Expr).Kind) ((ae p.Offices y1.Expr).N) ((ae p.Offices y1.Expr).No) ((ae p.Offices y1.Expr).Name) ((ae p.Offices y1.Expr).L)))]))
def dL (p:Policy):(Policy×Int):=(bif (eL p) then ((Policy.mk (⟨#[]⟩:ByteArray) ([]) ([]) ([]) (Expr.mk 0 0 0 (⟨#[]⟩:ByteArray) ([])) 0),2) else (bif (!(gq p)) then ((Policy.mk (⟨#[]⟩:ByteArray) ([]) ([]) ([]) (Expr.mk 0 0 0 (⟨#[]⟩:ByteArray) ([])) 0),201) else (bif (!(fx p)) then ((Policy.mk (⟨#[]⟩:ByteArray) ([]) ([]) ([]) (Expr.mk 0 0 0 (⟨#[]⟩:ByteArray) ([])) 0),200) else ((dL.L1 p (dL.K1 p)) p.Rules 0 ([])))))
def ef.K1  : Bool:=true
def ef.L1 (jt:List ByteArray) (k:Bool):List ByteArray→Nat→Bool
 | [],i1=>(k)
 | y1::rz1,i1=>(bif (!(y1.toList==(nthI jt (i1:Int)).toList)) then false else (ef.L1 jt k rz1 (i1+1)))
def ef (a:List ByteArray) (jt:List ByteArray):Bool:=(bif ((a.length:Int) != (jt.length:Int)) then false else ((ef.L1 jt (ef.K1)) a 0))
def bh.K1  : Bool:=true
def bh.L1 (rec:Expr→Expr→Bool) (jt:Expr) (k:Bool):List Expr→Nat→Bool
 | [],i1=>(k)
 | y1::rz1,i1=>(bif (!(rec y1 (nthI jt.L (i1:Int)))) then false else (bh.L1 rec jt k rz1 (i1+1)))
def bh.F (rec:Expr→Expr→Bool) (a:Expr) (jt:Expr):Bool:=(bif (((((a.Kind != jt.Kind)||(a.N != jt.N))||(a.No != jt.No))||(!(a.Name.toList==jt.Name.toList)))||((a.L.length:Int) != (jt.L.length:Int))) then false else ((bh.L1 rec jt (bh.K1)) a.L 0))
def bh.go:Nat→Expr→Expr→Bool
 | 0=>fun _ _=>default
 | m+1=>bh.F (bh.go m)
def bh (a:Expr) (jt:Expr):Bool:=bh.go a.dep a jt
def gN.K1  : Bool:=true
def gN.L1 (jt:Policy) (k:Bool):List Rule→Nat→Bool
 | [],i1=>(k)
 | y1::rz1,i1=>(bif ((((!(y1.Kind.toList==(nthI jt.Rules (i1:Int)).Kind.toList))||(y1.KindNo != (nthI jt.Rules (i1:Int)).KindNo))||(y1.Think != (nthI jt.Rules (i1:Int)).Think))||(!(bh y1.Expr ((nthI jt.Rules (i1:Int)).Expr)))) then false else (gN.L1 jt k rz1 (i1+1)))
def gN (a:Policy) (jt:Policy):Bool:=(bif ((((((!(a.Name.toList==jt.Name.toList))||(a.Mode != jt.Mode))||(!(ef a.Offices jt.Offices)))||(!(ef a.Kinds jt.Kinds)))||((a.Rules.length:Int) != (jt.Rules.length:Int)))||(!(bh a.Change jt.Change))) then false else ((gN.L1 jt (gN.K1)) a.Rules 0))
def fQ (p:Policy):Int:=(bif ((dL p).2 != 0) then (dL p).2 else (bif (!(gN ((dL p).1) p)) then 200 else 0))
def dE.K1  : Int:=0
def dE.L1 (l:List Version) (k:Int):List Version→Nat→Int
 | [],i1=>(k)
 | y1::rz1,i1=>(bif (((((decide (y1.No < 0)||decide (1048576 < y1.No))||(decide (0 < (i1:Int))&&decide (y1.No≤(nthI l ((i1:Int) - 1)).No)))||(!(fd y1.At)))||(!(fd y1.Known)))||((fQ y1.Policy) != 0)) then 200 else (dE.L1 l k rz1 (i1+1)))
def dE (l:List Version):Int:=(bif (decide (256 < (l.length:Int))) then 2 else ((dE.L1 l (dE.K1)) l 0))
def mV (t:Int):Bool:=(decide (0≤t)&&decide (t < 1099511627776))
def eu.K1 (l:List Int):Bool:=decide ((l.length:Int)≤16)
def eu.L1 (l:List Int) (limit:Int) (k:Bool):List Int→Nat→Bool
 | [],i1=>(k)
 | y1::rz1,i1=>(bif ((decide (y1 < 0)||decide (limit≤y1))||(decide (0 < (i1:Int))&&decide (y1≤(nthI l ((i1:Int) - 1))))) then false else (eu.L1 l limit k rz1 (i1+1)))
def eu (l:List Int) (limit:Int):Bool:=((eu.L1 l limit (eu.K1 l)) l 0)
def iB (d:Document):Bool:=(bif ((((((decide (d.No < 0)||decide (4096≤d.No))||(!(mV d.At)))||decide (d.Kind < 0))||decide (16≤d.Kind))||decide (d.Value < 0))||decide (1099511627776 < d.Value)) then false else (((((decide (0≤d.From)&&decide (d.From < d.Until))&&decide (d.Until≤1099511627776))&&(eu d.Parties 1048577))&&(eu d.Revokes d.No))&&(eu d.Needs d.No)))
def gg.K1  : Int:=(-1)
def gg.L1 (no:Int) (k:Int):List Document→Nat→Int
 | [],i1=>(k)
 | y1::rz1,i1=>(bif (y1.No==no) then (i1:Int) else (gg.L1 no k rz1 (i1+1)))
def gg (l:List Document) (no:Int):Int:=((gg.L1 no (gg.K1)) l 0)
def dj.K1  : Bool:=true
def dj.L1 (l:List Document) (k:Bool):List Int→Bool
 | []=>(k)
 | y1::rz1=>(bif (decide ((gg l y1) < 0)) then false else (dj.L1 l k rz1))
def dj (l:List Document) (nos:List Int):Bool:=((dj.L1 l (dj.K1)) nos)
def fm.K1  : Int:=0
def fm.L1 (l:List Document) (k:Int):List Document→Nat→Int
 | [],i1=>(k)
 | y1::rz1,i1=>(bif ((((!(iB y1))||(decide (0 < (i1:Int))&&decide (y1.No≤(nthI l ((i1:Int) - 1)).No)))||(!(dj l y1.Revokes)))||(!(dj l y1.Needs))) then 170 else (fm.L1 l k rz1 (i1+1)))
def fm (l:List Document):Int:=(bif (decide (4096 < (l.length:Int))) then 2 else ((fm.L1 l (fm.K1)) l 0))
def fZ (eo:Int) (most:Int):Bool:=(decide (0≤eo)&&decide (eo≤most))
def lX (eo:Int):Bool:=(fZ eo 1099511627775)
def px (eo:Int):Bool:=(fZ eo 4095)
def iY (x:Approval):Bool:=(bif ((((!(fZ x.No 1048576))||(!(lX x.At)))||(!(lX x.Known)))||(!(px x.Doc))) then false else (((fZ x.By 63)&&(fZ x.For 63))&&(fZ x.Office 31)))
def gF.K1  : Int:=0
def gF.L1 (l:List Approval) (k:Int):List Approval→Nat→Int
 | [],i1=>(k)
 | y1::rz1,i1=>(bif ((!(iY y1))||(decide (0 < (i1:Int))&&decide (y1.No≤(nthI l ((i1:Int) - 1)).No))) then 280 else (gF.L1 l k rz1 (i1+1)))
def gF (l:List Approval):Int:=(bif (decide (4096 < (l.length:Int))) then 2 else ((gF.L1 l (gF.K1)) l 0))
def iW (bL:Register):Int:=(bif (((((gZ bL.Appoints) != 0)||((gH bL.Deputies) != 0))||((gE bL.Interests) != 0))||((gG bL.Budgets) != 0)) then 300 else (bif ((((dE bL.Versions) != 0)||((fm bL.Docs) != 0))||((gF bL.Approvals) != 0)) then 300 else 0))
def mv.K1  : Bool:=true
def mv.L1 (who:List Int) (k:Bool):List Int→Nat→Bool
 | [],i1=>(k)
 | y1::rz1,i1=>(bif ((decide (y1 < 0)||decide (64≤y1))||(decide (0 < (i1:Int))&&decide (y1≤(nthI who ((i1:Int) - 1))))) then false else (mv.L1 who k rz1 (i1+1)))
def mv (who:List Int):Bool:=((mv.L1 who (mv.K1)) who 0)
def bR.K1  : (Policy×Bool):=((Policy.mk (⟨#[]⟩:ByteArray) ([]) ([]) ([]) (Expr.mk 0 0 0 (⟨#[]⟩:ByteArray) ([])) 0),false)
def bR.L1 (no:Int) (k:(Policy×Bool)):List Version→(Policy×Bool)
 | []=>(k)
 | y1::rz1=>(bif (y1.No==no) then (y1.Policy,true) else (bR.L1 no k rz1))
def bR (bL:Register) (no:Int):(Policy×Bool):=((bR.L1 no (bR.K1)) bL.Versions)
def bG.K2 (bL:Register) (doc:Int) (version:Int) (cL:Int) (known:Int) (dA:List (Int×Bool)):Bool:=((((cg bL doc version cL known).1).length:Int)==(dA.length:Int))
def bG.L2 (bL:Register) (doc:Int) (version:Int) (cL:Int) (known:Int) (dA:List (Int×Bool)) (k:Bool):List Int→Nat→Bool
 | [],i2=>(k)
 | y2::rz2,i2=>(bif ((!(mgetD dA y2 false))||(decide (0 < (i2:Int))&&decide (y2≤(nthI ((cg bL doc version cL known).1) ((i2:Int) - 1))))) then false else (bG.L2 bL doc version cL known dA k rz2 (i2+1)))
def bG.K1 (bL:Register) (doc:Int) (version:Int) (cL:Int) (known:Int) (dA:List (Int×Bool)):Bool:=((bG.L2 bL doc version cL known dA (bG.K2 bL doc version cL known dA)) ((cg bL doc version cL known).1) 0)
def bG.L1 (bL:Register) (doc:Int) (cL:Int) (known:Int) (k:(List (Int×Bool))→Bool):List Approval→(List (Int×Bool))→Bool
 | [],dA=>(k dA)
 | y1::rz1,dA=>(bif ((((((fe bL.Appoints y1.Office y1.For cL known).2.2.2 != 0)||((aE bL.Deputies y1.For y1.By y1.Office ((nthI bL.Docs (aQ bL doc)).Kind) ((nthI bL.Docs (aQ bL doc)).Value) cL known).2.2 != 0))||((cC bL.Interests y1.For ((nthI bL.Docs (aQ bL doc)).Parties) cL known).2.2 != 0))||((cC bL.Interests y1.By ((nthI bL.Docs (aQ bL doc)).Parties) cL known).2.2 != 0))||(((aE bL.Deputies y1.For y1.By y1.Office ((nthI bL.Docs (aQ bL doc)).Kind) ((nthI bL.Docs (aQ bL doc)).Value) cL known).2.1&&(y1.For==y1.By))&&decide (0 < ((((aE bL.Deputies y1.For y1.By y1.Office ((nthI bL.Docs (aQ bL doc)).Kind) ((nthI bL.Docs (aQ bL doc)).Value) cL known).1).length:Nat):Int)))) then false else (bif ((((fe bL.Appoints y1.Office y1.For cL known).2.2.1&&(aE bL.Deputies y1.For y1.By y1.Office ((nthI bL.Docs (aQ bL doc)).Kind) ((nthI bL.Docs (aQ bL doc)).Value) cL known).2.1)&&(!((cC bL.Interests y1.For ((nthI bL.Docs (aQ bL doc)).Parties) cL known).2.1)))&&(!((cC bL.Interests y1.By ((nthI bL.Docs (aQ bL doc)).Parties) cL known).2.1))) then (bG.L1 bL doc cL known k rz1 (mput dA y1.For true)) else (bG.L1 bL doc cL known k rz1 dA)))
def bG.K3 (bL:Register) (doc:Int) (version:Int) (cL:Int) (known:Int):Bool:=((((cg bL doc version cL known).1).length:Int)==((([]:(List (Int×Bool))).length:Nat):Int))
def bG.L3 (bL:Register) (doc:Int) (version:Int) (cL:Int) (known:Int) (k:Bool):List Int→Nat→Bool
 | [],i3=>(k)
 | y3::rz3,i3=>(bif ((!(mgetD ([]) y3 false))||(decide (0 < (i3:Int))&&decide (y3≤(nthI ((cg bL doc version cL known).1) ((i3:Int) - 1))))) then false else (bG.L3 bL doc version cL known k rz3 (i3+1)))
def bG (bL:Register) (doc:Int) (version:Int) (cL:Int) (known:Int):Bool:=(bif (!pR) then false else (bif ((((((((!((bR bL version).2))||(!(jY bL)))||((iW bL) != 0))||decide ((aQ bL doc) < 0))||decide (cL < 0))||decide (1099511627776≤cL))||decide (known < 0))||decide (1099511627776≤known)) then true else (bif ((cg bL doc version cL known).2 != 0) then false else (bif (decide ((nthI bL.Docs (aQ bL doc)).Kind < ((((bR bL version).1).Kinds.length:Nat):Int))) then (bif ((bH bL.Approvals doc ((nthI bL.Docs (aQ bL doc)).At) ((nthI (((bR bL version).1).Rules) ((nthI bL.Docs (aQ bL doc)).Kind)).Think) cL known).2 != 0) then false else ((bG.L1 bL doc cL known (bG.K1 bL doc version cL known)) ((bH bL.Approvals doc ((nthI bL.Docs (aQ bL doc)).At) ((nthI (((bR bL version).1).Rules) ((nthI bL.Docs (aQ bL doc)).Kind)).Think) cL known).1) ([]))) else ((bG.L3 bL doc version cL known (bG.K3 bL doc version cL known)) ((cg bL doc version cL known).1) 0)))))
end Go.Sg
