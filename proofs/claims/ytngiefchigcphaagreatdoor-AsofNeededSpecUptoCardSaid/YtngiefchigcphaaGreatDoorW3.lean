import Derived.Conc.LoneCalls
import Derived.Test.YtngiefchigcphaaGreatDoorW2
/- A part of the proof of AsofNeededSpec. -/
set_option linter.unusedVariables false
set_option linter.unusedSimpArgs false
set_option maxRecDepth 100000
namespace Go.Sg
section grow
variable {α : Type} {R:Rp α} {E:TypeId} {h:HF} {xs:List α} {base:Option Addr} {cap:Nat} {G:LH}
theorem cM.lM (hG:cM R E h xs base cap G) (hne:0 < xs.length):∃ bk,base=some ⟨bk,0,none⟩:=by
 rcases hG with ⟨rfl,_⟩ | ⟨bk,_,_,e,_⟩
 ·simp at hne
 ·exact ⟨bk,e⟩
theorem cM.KK (hG:cM R E h xs base cap G):xs.length≤cap:=by
 rcases hG with ⟨rfl,_⟩ | ⟨bk,cl,sp,_,_,_,h4,_⟩
 ·simp
 ·exact h4
theorem aP.split:∀ {xs ys:List α} {cl:List Value},aP R h cl (xs++ys)→∃ a b,cl=a++b∧aP R h a xs∧aP R h b ys
 | [],ys,cl,hc=>⟨[],cl,rfl,rfl,hc⟩
 | x::xs,ys,cl,⟨cs,rest,e,hl,hr,hc⟩=>by
  obtain ⟨a,b,rfl,h1,h2⟩:=aP.split hc
  exact ⟨cs++a,b,by rw [e,List.append_assoc],⟨cs,a,rfl,hl,hr,h1⟩,h2⟩
theorem cM.take (hG:cM R E h xs base cap G) (k:Nat):cM R E h (xs.take k) base cap G:=by
 rcases hG with ⟨rfl,rfl,rfl,rfl⟩ | ⟨bk,cl,sp,e,hc,h3,h4,h5,rfl⟩
 ·rw [List.take_nil];exact cM.nil
 ·rw [← List.take_append_drop k xs] at hc
  obtain ⟨a,b,rfl,h1,h2⟩:=aP.split hc
  refine .inr ⟨bk,a,b++sp,e,h1,by rw [← List.append_assoc];exact h3,?_,?_,by rw [List.append_assoc]⟩
  ·rw [List.length_take];omega
  ·rw [List.length_take];omega
end grow
section runs
variable {P:Program} {e:Env} {X:Cx} {h:HF} {L:LH} {d:Option Nat} {ty:TypeId} {pos:String} {af:Array Edge} {g:Option (Nat×Bool)}
variable {α : Type} {R:Rp α} {E:TypeId} {xs:List α} {base:Option Addr} {cap bk:Nat} {G:LH}
theorem pN {t:TypeId} {x ix:Operand} {m:Nat} {a:Bool} {z:Int} (hT:P.underlying t=some (.slice E)) (hS:tySz P E=some (R.sz,a)) (hb:base=some ⟨bk,0,none⟩) (hz:0≤z∧z < (xs.length:Int))
  (hx:e.ev x=.slice base m cap) (hm:m=xs.length) (hix:e.ev ix=.int .i64 z):∀ w,St X h L w→(execOp e.ev ⟨d,.indexAddr t x ix,ty,pos,af,g⟩).run P w=.ok (.value (.pointer (some ⟨bk,z.toNat * R.sz,none⟩))) w:=by
 subst hb hm
 have hzz:z=(z.toNat:Int):=by omega
 rw [hzz] at hix
 intro w hw
 rw [Ie hT hS hx hix (by omega) w hw,nH]
theorem DS {t:TypeId} {x:Operand} {m i off:Nat} {y:α} {v:Value} {h0:HF} (hT:tySz P t=some (m,false)) (hG:cM R E h0 xs base cap G) (hb:base=some ⟨bk,0,none⟩) (hi:xs[i]? = some y) (hv:∀ cs,R.rep h0 cs y→nth cs off=some v)
  (hx:e.ev x=.pointer (some ⟨bk,i * R.sz+off,none⟩)) (hm:∀ p∈G,p∈L):∀ w,St X h L w→(execOp e.ev ⟨d,.load t x,ty,pos,af,g⟩).run P w=.ok (.value v) w:=by
 rcases hG with ⟨rfl,_⟩ | ⟨bk',cl,sp,e1,hc,_,_,_,rfl⟩
 ·simp at hi
 ·rw [hb] at e1
  cases e1
  obtain ⟨cs,hl,hr,hcell⟩:=hc.get i y hi
  have hv':=hv cs hr
  rw [gv] at hv'
  have h9:=hcell off v hv'
  refine fI hT hx (hm _ (List.mem_singleton.2 rfl)) ?_
  rw [gv,List.getElem?_append_left (by
   rcases Nat.lt_or_ge (i * R.sz+off) cl.length with q | q
   ·exact q
   ·simp [List.getElem?_eq_none q] at h9)]
  exact h9
end runs
theorem rl {α : Type} (a b:List α) (i:Nat) (x:α) (hi:i < a.length):setNth (a++b) i x=setNth a i x++b:=by
 rw [kS,kS,List.set_append_left _ _ hi]
theorem wu {α : Type} (a b:List α) (i:Nat) (x:α):setNth (a++b) (a.length+i) x=a++setNth b i x:=by
 rw [kS,kS,List.set_append_right _ _ (Nat.le_add_right _ _)];simp
theorem aP.set {α : Type} {R:Rp α} {h:HF} {off:Nat} {v:Value} {y y':α} (ho:off < R.sz) (hrep:∀ cs,R.rep h cs y→R.rep h (setNth cs off v) y'):
  ∀ {xs:List α} {cl:List Value} (i:Nat),aP R h cl xs→xs[i]? = some y→aP R h (setNth cl (i * R.sz+off) v) (xs.set i y')
 | x::xs,cl,0,⟨cs,rest,e,hl,hr,hc⟩,hi=>by
  simp at hi
  subst hi
  rw [e,Nat.zero_mul,Nat.zero_add,rl _ _ _ _ (by omega)]
  exact ⟨setNth cs off v,rest,rfl,by rw [nk];exact hl,hrep cs hr,hc⟩
 | x::xs,cl,i+1,⟨cs,rest,e,hl,hr,hc⟩,hi=>by
  have ih:=aP.set ho hrep i hc (by simpa using hi)
  rw [e,show (i+1) * R.sz+off=cs.length+(i * R.sz+off) from by rw [hl,Nat.add_mul];omega,wu]
  exact ⟨cs,_,rfl,hl,hr,ih⟩
 | [],_,_,_,hi=>by simp at hi
section steps
variable {P:Program} {b:Frame} {n:Nat} {ops:Array Oper} {F:List Frame→(Machine→Prop)→Prop} {e:Env} {ds:List Deferred} {X:Cx} {h:HF} {L:LH} {K:Env→HF→LH→Prop}
variable {d:Option Nat} {ty:TypeId} {pos:String} {af:Array Edge} {g:Option (Nat×Bool)}
variable {α : Type} {R:Rp α} {E:TypeId} {xs:List α} {base:Option Addr} {cap bk:Nat}
theorem DF (A G Q:LH) {t:TypeId} {x y:Operand} {m i off:Nat} {a:Bool} {u u':α} {v:Value} (hT:tySz P t=some (m,a)) (hm:m=1) (hG:cM R E h xs base cap G) (hL:L=A++(G++Q)) (hb:base=some ⟨bk,0,none⟩)
  (hi:xs[i]? = some u) (ho:off < R.sz) (hrep:∀ cs,R.rep h cs u→R.rep h (setNth cs off v) u') (hx:e.ev x=.pointer (some ⟨bk,i * R.sz+off,none⟩)) (hv:vcells (e.ev y)=[v]) (h1:one v=true)
  (t':∀ G',cM R E h (xs.set i u') base cap G'→K e h (A++(G'++Q)))
  (hg:guardB ops e ⟨none,.store t x y,ty,pos,af,g⟩=true:=by rfl):Stp P b n ops F ds X ⟨none,.store t x y,ty,pos,af,g⟩ e h L K:=by
 subst hL hm
 rcases hG with ⟨rfl,_⟩ | ⟨bk',cl,sp,e1,hc,h3,h4,h5,rfl⟩
 ·simp at hi
 ·have e2:=e1
  rw [hb] at e2
  cases e2
  have hlen:=hc.len
  have hil:i < xs.length:=by
   rcases Nat.lt_or_ge i xs.length with q | q
   ·exact q
   ·simp [List.getElem?_eq_none q] at hi
  have hlt:i * R.sz+off < cl.length:=by
   rw [hlen]
   have:=Nat.mul_le_mul_right R.sz (show i+1≤xs.length from hil)
   rw [Nat.add_mul] at this;omega
  have hnth:nth (A++([(bk,Obj.cells (cl++sp).toArray E (0,0))]++Q)) A.length=some (bk,.cells (cl++sp).toArray E (0,0)):=F7 A _ Q
  refine j9 A.length hT hx hnth hv rfl (by simp;omega) (by simp [h1]) ?_ hg
  have hs:splice (cl++sp) (i * R.sz+off) [v]=setNth cl (i * R.sz+off) v++sp:=by
   simp only [splice];rw [rl _ _ _ _ hlt]
  rw [hs]
  have hset:=yT A (bk,Obj.cells (cl++sp).toArray E (0,0)) (bk,Obj.cells (setNth cl (i * R.sz+off) v++sp).toArray E (0,0)) Q
  show K e h (setNth (A++(bk,Obj.cells (cl++sp).toArray E (0,0))::Q) A.length _)
  rw [hset]
  refine t' [(bk,.cells (setNth cl (i * R.sz+off) v++sp).toArray E (0,0))] (.inr ⟨bk,setNth cl (i * R.sz+off) v,sp,e1,aP.set ho hrep i hc hi,?_,?_,?_,rfl⟩)
  ·rw [List.length_append,nk,← List.length_append];exact h3
  ·rw [List.length_set];exact h4
  ·rw [List.length_set];exact h5
theorem DG {t:TypeId} {x hi:Operand} {a:Bool} {m:Nat} {z:Int} {G:LH} (hT:P.underlying t=some (.slice E)) (hS:tySz P E=some (R.sz,a)) (hG:cM R E h xs base cap G) (hz:0≤z∧z≤(xs.length:Int))
  (hx:e.ev x=.slice base m cap) (hm:m=xs.length) (hhi:e.ev hi=.int .i64 z)
  (t':K (pute e d (.slice base (xs.take z.toNat).length cap)) h L)
  (hg:guardB ops e ⟨d,.slice t x none (some hi) none,ty,pos,af,g⟩=true:=by rfl):Stp P b n ops F ds X ⟨d,.slice t x none (some hi) none,ty,pos,af,g⟩ e h L K:=by
 subst hm
 have hcap:=hG.KK
 have hz2:0≤z∧z≤(cap:Int):=by omega
 have hl:z.toNat=(xs.take z.toNat).length:=by simp;omega
 refine fu (v:=.slice base (xs.take z.toNat).length cap) (fun w hw=>?_) t' hg
 rw [← hl]
 by_cases h0:cap=0
 ·have hz0:z=0:=by omega
  subst hz0
  simp [execOp,Instr.sliceAt,Instr.slice,Instr.sliceBounds,Instr.sliceBound,hx,hhi,asIntOf,run_underlying hT,fM hS,hz2,h0]
 ·simp [execOp,Instr.sliceAt,Instr.slice,Instr.sliceBounds,Instr.sliceBound,hx,hhi,asIntOf,run_underlying hT,fM hS,hz2,h0,Addr.add]
theorem DI (A G Q:LH) {f:FuncId} {ass:Array Operand} {ats:Array TypeId} {vs:List Value} {v:Value} (hc:∀ args w,(callFunc f args).run P w=.ok (.enter f args) w) (hm:R.Mono) (hG:cM R E h xs base cap G) (hL:L=A++(G++Q))
  (hs:∀ h1,h.le h1→SlC R h1 base cap xs→Ret P f vs h1 v) (hvs:ass.toList.map e.ev=vs) (t':K (pute e d v) h L)
  (hg:guardB ops e ⟨d,.call ⟨.value (.func f),ass,ats⟩,ty,pos,af,g⟩=true:=by rfl):
  Stp P b n ops F ds X ⟨d,.call ⟨.value (.func f),ass,ats⟩,ty,pos,af,g⟩ e h L K:=by
 unfold Stp
 rw [if_pos hg]
 intro w hw
 have harr:ass.map e.ev=vs.toArray:=Array.ext' (by simp [← hvs])
 have hr:(execOp e.ev ⟨d,.call ⟨.value (.func f),ass,ats⟩,ty,pos,af,g⟩).run P w=.ok (.enter f vs.toArray) w:=by
  simp [execOp,resolve,Env.ev,Deferred.ofValue,invoke,harr,hc]
 rw [hr]
 have back:∀ (h1:HF),h.le h1→(∀ bk o,h1 bk=some o→w.heap[bk]? = some o)→SlC R h1 base cap xs→qo P b n F ds X ⟨d,.call ⟨.value (.func f),ass,ats⟩,ty,pos,af,g⟩ e K (.ok (.enter f vs.toArray) w):=by
  intro h1 hle himm hsl
  have hp1:Pre h1 [] w:=⟨himm,fun _ hp=>(List.not_mem_nil hp).elim,List.nodup_nil,fun _ hp=>(List.not_mem_nil hp).elim⟩
  refine jC (by simp) (jf (nS.mono (hs h1 hle hsl w hp1) ?_))
  rintro x w' ⟨h',B,hst,rfl,rfl,rfl⟩
  refine ⟨h,L,⟨hst.os.trans hw.os,hst.tape.trans hw.tape,hst.output.trans hw.output,Nat.le_trans hw.size hst.size,fun b' hb' hM=>?_,hw.le,hw.old,fun b' o hb'=>?_,fun p hp=>?_,hw.dis,hw.free,hw.new⟩,t'⟩
  ·rw [hst.keep b' (Nat.lt_of_lt_of_le hb' hw.size) (by simp)];exact hw.keep b' hb' hM
  ·rw [hst.keep b' (fe (hw.imm b' o hb')) (by simp)];exact hw.imm b' o hb'
  ·rw [hst.keep p.1 (fe (hw.own p hp)) (by simp)];exact hw.own p hp
 rcases hG with ⟨rfl,rfl,rfl,rfl⟩ | ⟨bk,cl,sp,rfl,hcl,h3,h4,h5,rfl⟩
 ·exact back h (HF.le_refl h) hw.imm SlC.nil
 ·have hmem:(bk,Obj.cells (cl++sp).toArray E (0,0))∈L:=by rw [hL];simp
  have hle:h.le (h.add bk (.cells (cl++sp).toArray E (0,0))):=HF.sC (hw.free _ hmem)
  refine back _ hle (fun k o hk=>?_) ⟨aP.slB (hcl.mono hm hle) (HF.oX _ _ _) h5,h4⟩
  unfold HF.add at hk
  by_cases e0:k=bk
  ·subst e0;simp at hk;subst hk;exact hw.own _ hmem
  ·rw [if_neg e0] at hk;exact hw.imm k o hk
theorem H7 {t E:TypeId} {dir:ChanDir} {sz:Operand} {m by_:Nat} (hT:P.underlying t=some (.chan dir E)) (hby:bytesOf P E=some by_) (hsz:e.ev sz=.int .i64 (m:Nat)) (hm:m≤1000000000) (hb:by_≤4096)
  (t':∀ bk,K (pute e d (.chan (some bk))) h ((bk,.chan m #[] false 0 0 false)::L))
  (hg:guardB ops e ⟨d,.makeChan t sz,ty,pos,af,g⟩=true:=by rfl):Stp P b n ops F ds X ⟨d,.makeChan t sz,ty,pos,af,g⟩ e h L K:=
 gW hg fun w hw=>by
  refine ⟨_,_,h,_,?_,hw.alloc (.chan m #[] false 0 0 false),t' _⟩
  have h1:¬ ((m:Int) > IntKind.i64.max):=by
   have:IntKind.i64.max=9223372036854775807:=by rfl
   omega
  have h2:∃ i,P.info? E=some i∧i.bytes=by_:=by
   unfold bytesOf at hby
   cases hi:P.info? E with
   | none=>rw [hi] at hby;cases hby
   | some i=>rw [hi] at hby;exact ⟨i,rfl,by simpa using hby⟩
  obtain ⟨i,hi,hib⟩:=h2
  have h3:¬ ((i.bytes:Int) * (m:Int) > 2 ^ 48 - 112):=by
   rw [hib]
   have:by_ * m≤4096 * 1000000000:=Nat.mul_le_mul hb hm
   have h4:((by_:Int) * (m:Int))=((by_ * m:Nat):Int):=by simp
   rw [h4];omega
  simp only [execOp,Instr.makeChan,hsz]
  simp [asInt,asIntOf,run_underlying hT,typeInfo,hi]
  intro hc
  exfalso
  have h1':¬ (9223372036854775807 < (m:Int)):=by omega
  have h3':¬ (281474976710544 < (i.bytes:Int) * (m:Int)):=by
   intro h9;exact h3 (by simpa using h9)
  rcases hc with hc | hc | hc
  ·omega
  ·exact h1' hc
  ·exact h3' hc
end steps
theorem uq {s:GStep} {g:Goroutine} {cs:Array CommCase} {bl:Bool} {sh:CommShape} {w:World} (h:s.bare=.comm g cs bl sh w):∃ es,s=.comm g cs bl sh w es:=by
 cases s <;> simp at h
 obtain ⟨rfl,rfl,rfl,rfl,rfl⟩:=h
 exact ⟨_,rfl⟩
section comm
variable {P:Program} {b:Frame} {n:Nat} {ops:Array Oper} {l:List Oper} {k:List Item} {F:List Frame→(Machine→Prop)→Prop} {e:Env} {ds:List Deferred} {X:Cx} {h:HF} {L:LH}
variable {ty:TypeId} {pos:String} {af:Array Edge} {g:Option (Nat×Bool)}
theorem KA (i:Nat) {ch x:Operand} {c cap s r:Nat} {vs:List Value} {v:Value} (hL:nth L i=some (c,.chan cap vs.toArray false s r false)) (hch:e.ev ch=.chan (some c)) (hx:e.ev x=v) (hroom:vs.length < cap)
  (t:TO P b n ops l k F e ds X h (setNth L i (c,.chan cap (vs++[v]).toArray false (s+1) r false)))
  (hg:guardB ops e ⟨none,.send ch x,ty,pos,af,g⟩=true:=by rfl):TO P b n ops (⟨none,.send ch x,ty,pos,af,g⟩::l) k F e ds X h L:=by
 intro w hw is hi a cs Φ hn he hds hF
 obtain ⟨j,js,rfl,ho,hj⟩:=nl hi
 have hwt:=(fh (ops:=ops) he).trans hg
 have hs:=stepGR_op (P:=P) (b:=b) (k:=k) (cs:=cs) (w:=w) (rest:=js) ho hwt
 rw [iu _ _ rfl,i9,he] at hs
 have hb:w.heap[c]? = some (.chan cap vs.toArray false s r false):=by
  have h2:=hL
  rw [gv] at h2
  exact hw.own _ (List.mem_of_getElem? h2)
 have hcm:∃ es,stepG P true (Go.Conc.G (b.atR a (.inRegion ops (j::js)::k)) cs) w=.comm (Go.Conc.G (b.atR a (.inRegion ops (j::js)::k)) cs) #[Go.Conc.scase c v (.tuple #[])] true .send w es:=by
  have hrun:(execOp e.ev ⟨none,.send ch x,ty,pos,af,g⟩).run P w=.ok (.comm #[Go.Conc.scase c v (.tuple #[])] true .send) w:=by
   simp [execOp,hch,hx,Go.Conc.scase]
  show ∃ es,stepG P true { frame:=b.atR a (.inRegion ops (j::js)::k),callers:=cs,status:=.running,dying:=none } w=_
  refine uq ?_
  rw [hs]
  simp [stepG.apply,hrun,Go.Conc.G]
 obtain ⟨es,hcm⟩:=hcm
 have h1:=Go.Conc.step_lone_send_room hcm hb (by simpa using hroom)
 refine .step h1 ?_
 rw [show Go.Conc.solo (Go.Conc.G ((b.atR a (.inRegion ops (j::js)::k)).finish undef) cs) (w.setChan c cap (vs.toArray.push v) false (s+1) r false)=lone ((b.atR a (.inRegion ops (j::js)::k)).finish undef) cs (w.setChan c cap (vs.toArray.push v) false (s+1) r false) from rfl,gi a js k ho undef]
 have hw2:=hw.write hL (.chan cap (vs++[v]).toArray false (s+1) r false)
 have e1:vs.toArray.push v=(vs++[v]).toArray:=by simp
 rw [e1]
 exact t _ hw2 js hj a cs Φ hn he hds hF
theorem KB (i:Nat) {t E:TypeId} {dir:ChanDir} {ch:Operand} {d c cap s r:Nat} {vs:List Value} {v z:Value} (hT:P.underlying t=some (.chan dir E)) (hz:zeroV P E=some z) (hL:nth L i=some (c,.chan cap (v::vs).toArray false s r false)) (hch:e.ev ch=.chan (some c))
  (t':TO P b n ops l k F (upd e d v) ds X h (setNth L i (c,.chan cap vs.toArray false s (r+1) false)))
  (hd:Nat.blt d n=true:=by rfl) (hg:guardB ops e ⟨some d,.recv t ch false,ty,pos,af,g⟩=true:=by rfl):TO P b n ops (⟨some d,.recv t ch false,ty,pos,af,g⟩::l) k F e ds X h L:=by
 intro w hw is hi a cs Φ hn he hds hF
 obtain ⟨j,js,rfl,ho,hj⟩:=nl hi
 have hwt:=(fh (ops:=ops) he).trans hg
 have hs:=stepGR_op (P:=P) (b:=b) (k:=k) (cs:=cs) (w:=w) (rest:=js) ho hwt
 rw [iu _ _ rfl,i9,he] at hs
 have hb:w.heap[c]? = some (.chan cap (v::vs).toArray false s r false):=by
  have h2:=hL
  rw [gv] at h2
  exact hw.own _ (List.mem_of_getElem? h2)
 have hcm:∃ es,stepG P true (Go.Conc.G (b.atR a (.inRegion ops (j::js)::k)) cs) w=.comm (Go.Conc.G (b.atR a (.inRegion ops (j::js)::k)) cs) #[Go.Conc.rcase c z] true (.recv false) w es:=by
  have hrun:(execOp e.ev ⟨some d,.recv t ch false,ty,pos,af,g⟩).run P w=.ok (.comm #[Go.Conc.rcase c z] true (.recv false)) w:=by
   simp [execOp,run_underlying hT,ji hz,hch,Go.Conc.rcase]
  show ∃ es,stepG P true { frame:=b.atR a (.inRegion ops (j::js)::k),callers:=cs,status:=.running,dying:=none } w=_
  refine uq ?_
  rw [hs]
  simp [stepG.apply,hrun,Go.Conc.G]
 obtain ⟨es,hcm⟩:=hcm
 have h1:=Go.Conc.step_lone_recv_buf false hcm hb (by simp)
 refine .step h1 ?_
 have e2:Go.Conc.got false ((v::vs).toArray.getD 0 undef) true=v:=by simp [Go.Conc.got]
 have e1:(v::vs).toArray.extract 1 (v::vs).toArray.size=vs.toArray:=by simp
 rw [e2,e1]
 rw [show Go.Conc.solo (Go.Conc.G ((b.atR a (.inRegion ops (j::js)::k)).finish v) cs) (w.setChan c cap vs.toArray false s (r+1) false)=lone ((b.atR a (.inRegion ops (j::js)::k)).finish v) cs (w.setChan c cap vs.toArray false s (r+1) false) from rfl,gi a js k ho v]
 have hw2:=hw.write hL (.chan cap vs.toArray false s (r+1) false)
 have hdn:d < n:=Nat.le_of_ble_eq_true hd
 exact t' _ hw2 js hj (a.put (some d) v) cs Φ (by rw [lX];exact hn) (by rw [mz _ _ _ (hn ▸ hdn),he]) (by rw [j3];exact hds) hF
end comm
section runs2
variable {P:Program} {e:Env} {X:Cx} {h:HF} {L:LH} {d:Option Nat} {ty:TypeId} {pos:String} {af:Array Edge} {g:Option (Nat×Bool)}
theorem Kq {t E:TypeId} {dir:ChanDir} {ch:Operand} {c cap s r:Nat} {vs:List Value} (hT:P.underlying t=some (.chan dir E)) (hL:(c,Obj.chan cap vs.toArray false s r false)∈L) (hch:e.ev ch=.chan (some c)):
  ∀ w,St X h L w→(execOp e.ev ⟨d,.call ⟨.builtin .len,#[ch],#[t]⟩,ty,pos,af,g⟩).run P w=.ok (.value (.int .i64 (vs.length:Nat))) w:=fun w hw=>by
 have hb:w.heap[c]? = some (.chan cap vs.toArray false s r false):=hw.own _ hL
 have hg:(getObj c).run P w=.ok (.chan cap vs.toArray false s r false) w:=by simp [getObj,Sem.run,hb]
 simp [execOp,resolve,invoke,builtin,Builtin.len_,hch,run_underlying hT,hg,goInt]
theorem GT {t E:TypeId} {x lo:Operand} {sz bk n m cap i:Nat} {a:Bool} (hT:P.underlying t=some (.slice E)) (hS:tySz P E=some (sz,a)) (hx:e.ev x=.slice (some ⟨bk,0,none⟩) n cap) (hlo:e.ev lo=.int .i64 (i:Nat)) (hi:i < n) (hc:n≤cap) (hm:n - i=m) (h1:sz=1:=by rfl):
  ∀ w,St X h L w→(execOp e.ev ⟨d,.slice t x (some lo) none none,ty,pos,af,g⟩).run P w=.ok (.value (.slice (some ⟨bk,i,none⟩) m (cap - i))) w:=fun w hw=>by
 subst h1 hm
 have h2:¬ (cap=i):=by omega
 have h3:(⟨bk,0,none⟩:Addr).add i=⟨bk,i,none⟩:=nH bk i
 simp [execOp,Instr.sliceAt,Instr.slice,Instr.sliceBounds,Instr.sliceBound,hx,hlo,asIntOf,run_underlying hT,fM hS,h2,h3,Nat.le_of_lt hi]
end runs2
theorem DM {P:Program} {α : Type} {R:Rp α} {X:Cx} {h:HF} {w:World} {L:LH} {t ty E:TypeId} {xs ys:List α} {base:Option Addr} {cap:Nat} {x:Value} {by_:Nat} {a:Bool} {zs:List Value}
  (hw:St X h L w) (hT:P.underlying t=some (.slice E)) (hS:tySz P E=some (R.sz,a)) (hz:zeroC P E=some zs) (hzl:zs.length=R.sz) (hby:bytesOf P E=some by_) (hs1:Src R h L (.slice base xs.length cap) xs) (hsrc:Src R h L x ys)
  (hcap:cap < xs.length+ys.length) (hb:(xs.length+ys.length) * by_≤140737488355328) (hb2:xs.length+ys.length≤9223372036854775807):
  ∃ base' cap' G' w',(Builtin.append_ #[t,t] ty #[.slice base xs.length cap,x]).run P w=.ok (.slice base' (xs++ys).length cap') w'∧cM R E h (xs++ys) base' cap' G'∧St X h (G'++L) w':=by
 obtain ⟨i,hi,hby'⟩:∃ i,P.info? E=some i∧i.bytes=by_:=by
  unfold bytesOf at hby
  cases hi:P.info? E with
  | none=>simp [hi] at hby
  | some i=>exact ⟨i,rfl,by simpa [hi] using hby⟩
 have hsz:i.size=R.sz:=by
  have:=fM hS w
  simpa [sizeOf,typeInfo,hi] using this
 obtain ⟨z,hzz,hzc⟩:∃ z,i.zero=some z∧z.cells=zs.toArray:=by
  unfold zeroC at hz
  cases hzz:i.zero with
  | none=>simp [hi,hzz] at hz
  | some z=>exact ⟨z,rfl,by simp [hi,hzz] at hz;rw [mu,hz]⟩
 have hnewlen:(xs++ys).length=xs.length+ys.length:=by simp
 have hroom:¬ xs.length+ys.length≤cap:=by omega
 have hwd:St X h L w.drew:=hw.drew _
 obtain ⟨cl0,b0,c0,hx0,hc0,hf0⟩:=tc (P:=P) hs1 hwd
 obtain ⟨cl',b1,c1,hx',hc',hf'⟩:=tc (P:=P) hsrc hwd
 have hfit:Builtin.nextslicecap (xs.length+ys.length) cap * i.bytes≤281474976710656:=growslice_fits hcap (by rw [hby'];exact hb)
 have h48':¬ (281474976710656 < Builtin.nextslicecap (xs.length+ys.length) cap * i.bytes):=by omega
 have h63':¬ (9223372036854775807 < ((xs.length:Int)+(ys.length:Int))):=by omega
 have hge:=grownCap_ge w (xs.length+ys.length) cap E
 let nc:=grownCap w (xs.length+ys.length) cap E
 let rest:=(Builtin.zeroCells z.cells (nc - (xs.length+ys.length))).toList
 refine ⟨some ⟨w.heap.size,0,none⟩,nc,[(w.heap.size,.cells ((cl0++cl')++rest).toArray E (0,0))],w.drew.alloc (.cells ((cl0++cl')++rest).toArray E),?_,?_,?_⟩
 ·subst hx'
  rw [← hsz] at hf0 hf'
  simp [Builtin.append_,run_underlying hT,sizeOf,typeInfo,zeroValue,hi,hzz,Builtin.lenOf,hroom,h63',h48',Question.forced,hf0,hf',newRow,grownCap,nc,rest]
  congr 2
  apply Array.ext'
  simp
 ·refine .inr ⟨w.heap.size,cl0++cl',rest,rfl,aP.app hc' hc0,?_,by rw [hnewlen];exact hge,by rw [hnewlen];exact hb2,rfl⟩
  have:rest.length=(nc - (xs.length+ys.length)) * R.sz:=by
   simp [rest,Builtin.zeroCells,hzc,hzl]
  simp only [List.length_append,this,hc0.len,hc'.len,← Nat.add_mul]
  congr 1
  omega
 ·exact hwd.alloc (.cells ((cl0++cl')++rest).toArray E (0,0))
section steps3
variable {P:Program} {b:Frame} {n:Nat} {ops:Array Oper} {F:List Frame→(Machine→Prop)→Prop} {e:Env} {ds:List Deferred} {X:Cx} {h:HF} {L:LH} {K:Env→HF→LH→Prop}
variable {d:Option Nat} {ty:TypeId} {pos:String} {af:Array Edge} {g:Option (Nat×Bool)}
theorem BB {α : Type} {R:Rp α} {t E:TypeId} {s y:Operand} {xs ys:List α} {base:Option Addr} {cap:Nat} {m by_:Nat} {a:Bool} {zs:List Value}
  (hT:P.underlying t=some (.slice E)) (hS:tySz P E=some (R.sz,a)) (hz:zeroC P E=some zs) (hzl:zs.length=R.sz) (hby:bytesOf P E=some by_)
  (hs1:Src R h L (.slice base xs.length cap) xs) (hx:e.ev s=.slice base m cap) (hm:m=xs.length) (hsrc:Src R h L (e.ev y) ys) (hcap:cap < xs.length+ys.length)
  (hb:(xs.length+ys.length) * by_≤140737488355328) (hb2:xs.length+ys.length≤9223372036854775807)
  (t':∀ base' cap' G',cM R E h (xs++ys) base' cap' G'→K (pute e d (.slice base' (xs++ys).length cap')) h (G'++L))
  (hgd:guardB ops e ⟨d,.call ⟨.builtin .append,#[s,y],#[t,t]⟩,ty,pos,af,g⟩=true:=by rfl):Stp P b n ops F ds X ⟨d,.call ⟨.builtin .append,#[s,y],#[t,t]⟩,ty,pos,af,g⟩ e h L K:=
 gW hgd fun w hw=>by
  subst hm
  obtain ⟨base',cap',G',w',hr,hG',hst⟩:=DM (P:=P) (ty:=ty) hw hT hS hz hzl hby hs1 hsrc hcap hb hb2
  refine ⟨_,w',h,_,?_,hst,t' _ _ _ hG'⟩
  simp [execOp,resolve,invoke,builtin,hx,hr]
theorem GQ {t E:TypeId} {len sz:Nat} {a:Bool} {parts:Array (Nat×Operand)} {zs cells:List Value} (hXM:∀ b∈X.M,b < X.w0.heap.size) (hT:P.underlying t=some (.slice E)) (hS:tySz P E=some (sz,a)) (hz:zeroC P E=some zs) (hpos:Nat.blt 0 (len * sz)=true)
  (hlt:Nat.ble (len * sz) 16777216=true)
  (hc:Instr.fill (fun i=>some (i * sz,sz)) ((Array.range (len * sz)).map (zs.toArray[· % zs.toArray.size]!)) (parts.toList.map fun p=>(p.1,e.ev p.2))=some cells.toArray)
  (t':∀ bk,bk∉X.M→K (pute e d (.slice (some ⟨bk,0,none⟩) len len)) h ((bk,.cells cells.toArray E (0,0))::L))
  (hg:guardB ops e ⟨d,.buildSlice t len parts,ty,pos,af,g⟩=true:=by rfl):Stp P b n ops F ds X ⟨d,.buildSlice t len parts,ty,pos,af,g⟩ e h L K:=
 gW hg fun w hw=>by
  obtain ⟨z,h1,h2⟩:=oa hz w
  have hp:=nd hpos
  have hl:=Nat.le_of_ble_eq_true hlt
  have hparts:(parts.map fun x=>(x.1,e.ev x.2)).toList=parts.toList.map fun p=>(p.1,e.ev p.2):=by simp
  refine ⟨_,_,h,_,?_,hw.alloc _,t' _ (fun hm=>by have:=hXM _ hm;have:=hw.size;omega)⟩
  have hne:¬ len * sz=0:=by omega
  have hnl:¬ len * sz > 2 ^ 24:=by omega
  simp only [execOp,Instr.buildSlice,Sem.run_bind,run_underlying hT,Result.andThen_ok,fM hS,hnl,hne,if_false,h1,h2,Sem.run_pure,hparts]
  rw [hc]
  simp [newRow]
theorem Cz (A Q:LH) {t:Nat} {ass:Array Operand} {ats:Array TypeId} {fv:Value} {vs:List Value} {Φ : LH→Prop} (hL:L.Perm (A++Q))
  (hs:ld P fv vs.toArray h A (fun x h' B=>x=.returned (.tuple #[])∧h'=h∧Φ B)) (hf:e t=fv) (hvs:ass.toList.map e.ev=vs) (t':∀ B,Φ B→K (pute e d (.tuple #[])) h (B++Q))
  (hg:guardB ops e ⟨d,.call ⟨.value (.tmp t),ass,ats⟩,ty,pos,af,g⟩=true:=by rfl):Stp P b n ops F ds X ⟨d,.call ⟨.value (.tmp t),ass,ats⟩,ty,pos,af,g⟩ e h L K:=by
 unfold Stp
 rw [if_pos hg]
 intro w hw
 have hw':=hw.perm hL
 have harr:ass.map e.ev=vs.toArray:=Array.ext' (by simp [← hvs])
 obtain ⟨nx,hrun,hcall⟩:=hs w (Pre.left (A:=A) hw'.pre)
 have hr:(execOp e.ev ⟨d,.call ⟨.value (.tmp t),ass,ats⟩,ty,pos,af,g⟩).run P w=.ok nx w:=by
  rw [← hrun]
  simp [execOp,resolve,Env.ev,harr,hf]
 rw [hr]
 refine jC (kZ hcall) (hcall.mono ?_)
 rintro x w' ⟨h',B,hst,rfl,rfl,hB⟩
 exact ⟨h',_,St.after (A:=A) (F:=Q) hw' hst,t' B hB⟩
theorem H5 {o:Oper} {L':LH} (hp:L.Perm L') (t:Stp P b n ops F ds X o e h L' K) (hg:guardB ops e o=true:=by rfl):Stp P b n ops F ds X o e h L K:=by
 unfold Stp at t ⊢
 rw [if_pos hg] at t ⊢
 exact fun w hw=>t w (hw.perm hp)
end steps3
section runs3
variable {P:Program} {e:Env} {X:Cx} {h:HF} {L:LH} {d:Option Nat} {ty:TypeId} {pos:String} {af:Array Edge} {g:Option (Nat×Bool)}
theorem Kr {t E:TypeId} {x hi mx:Operand} {sz n cap:Nat} {a:Bool} {base:Option Addr} (hT:P.underlying t=some (.slice E)) (hS:tySz P E=some (sz,a)) (hx:e.ev x=.slice base n cap) (hhi:e.ev hi=.int .i64 (n:Nat)) (hmx:e.ev mx=.int .i64 (n:Nat)) (hc:n≤cap):
  ∀ w,St X h L w→(execOp e.ev ⟨d,.slice t x none (some hi) (some mx),ty,pos,af,g⟩).run P w=.ok (.value (.slice base n n)) w:=fun w hw=>by
 by_cases h0:n=0
 ·subst h0
  simp [execOp,Instr.sliceAt,Instr.slice,Instr.sliceBounds,Instr.sliceBound,hx,hhi,hmx,asIntOf,run_underlying hT,fM hS,hc]
 ·simp [execOp,Instr.sliceAt,Instr.slice,Instr.sliceBounds,Instr.sliceBound,hx,hhi,hmx,asIntOf,run_underlying hT,fM hS,hc,h0,Addr.add]
def fldT (P:Program) (s:TypeId) (i:Nat):Option (Nat×Nat):=
 match P.underlying s with
 | some (.struct fs)=>match fs[i]? with
  | some f=>some (f.type,f.offset)
  | none=>none
 | _=>none
theorem zD {s t:TypeId} {x:Operand} {i off m:Nat} {cl cs:List Value} (hf:fldT P s i=some (t,off)) (hT:tySz P t=some (m,true)) (hx:e.ev x=.agg cl.toArray) (hv:cut cl off m=some cs):
  ∀ w,St X h L w→(execOp e.ev ⟨d,.field s x i,ty,pos,af,g⟩).run P w=.ok (.value (.agg cs.toArray)) w:=fun w hw=>by
 unfold fldT at hf
 split at hf
 ·rename_i fs hu
  split at hf
  ·rename_i f hfi
   simp only [Option.some.injEq,Prod.mk.injEq] at hf
   obtain ⟨rfl,rfl⟩:=hf
   obtain ⟨h1,h2⟩:=tB hv
   have he:(cl.drop f.offset).take m=cs:=by
    apply List.ext_getElem?
    intro j
    rw [List.getElem?_take]
    split
    ·next hj=>
     have:=h2 j (cs[j]'(by omega)) (List.getElem?_eq_getElem (by omega))
     rw [gv] at this
     rw [List.getElem?_drop,this,List.getElem?_eq_getElem]
    ·next hj=>rw [List.getElem?_eq_none (by omega)]
   simp [execOp,Instr.field,run_underlying hu,hfi,hx,asAgg,part,vl hT,fM hT,he]
  ·cases hf
 ·cases hf
end runs3
theorem BW {κ α : Type} [DecidableEq κ] (k:κ) {m m':List (κ×α)} (hp:m.Perm m') (hn:(m.map (·.1)).Nodup):(mdel m k).Perm (mdel m' k):=by
 induction hp with
 | nil=>exact List.Perm.refl _
 | cons x p ih=>
  obtain ⟨k',v'⟩:=x
  rw [List.map_cons,List.nodup_cons] at hn
  simp only [mdel]
  split
  ·exact p
  ·exact List.Perm.cons _ (ih hn.2)
 | swap x y l=>
  obtain ⟨a,va⟩:=x
  obtain ⟨b,vb⟩:=y
  simp only [List.map_cons,List.nodup_cons,List.mem_cons,not_or] at hn
  simp only [mdel]
  by_cases h1:k=b
  ·have h2:¬ k=a:=fun e=>hn.1.1 (h1.symm.trans e)
   simp only [h1,h2,if_true,if_false]
   rw [if_neg (h1 ▸ h2)]
  ·by_cases h2:k=a
   ·simp only [h1,h2,if_true,if_false]
    rw [if_neg (h2 ▸ h1)]
   ·simp only [h1,h2,if_false]
    exact List.Perm.swap _ _ _
 | trans p q ih1 ih2=>exact (ih1 hn).trans (ih2 ((p.map _).nodup_iff.1 hn))
theorem vI {κ α : Type} [DecidableEq κ] (k:κ):∀ (m:List (κ×α)),(mdel m k).Sublist m
 | []=>List.Sublist.refl _
 | (k',v')::m=>by
  simp only [mdel]
  split
  ·exact .cons _ (List.Sublist.refl _)
  ·exact .cons_cons _ (vI k m)
theorem nf.del {κ α : Type} {enc:κ→Value} {V:HF→Value→α→Prop} {h:HF} [DecidableEq κ] {k:κ}:∀ {es:List MapEntry} {m:List (κ×α)} (j:Nat),nf enc V h es m →
  match findIn k (m.map (·.1)) es j with
  | some (i,_)=>j≤i∧i - j < es.length∧nf enc V h (es.eraseIdx (i - j)) (mdel m k)
  | none=>nf enc V h es (mdel m k)
 | [],[],_,_=>trivial
 | e::es,(k',v)::m,j,⟨a,b,c⟩=>by
  simp only [List.map_cons,findIn,mdel]
  by_cases hk:k=k'
  ·simp only [hk,if_true]
   refine ⟨Nat.le_refl _,by simp,?_⟩
   rw [Nat.sub_self];exact c
  ·simp only [hk,if_false]
   have ih:=nf.del (k:=k) (j+1) c
   cases hf:findIn k (m.map (·.1)) es (j+1) with
   | none=>rw [hf] at ih;exact ⟨a,b,ih⟩
   | some p=>
    obtain ⟨i,u⟩:=p
    rw [hf] at ih
    obtain ⟨h1,h2,h3⟩:=ih
    have e1:i - j=(i - (j+1))+1:=by omega
    refine ⟨by omega,by simp;omega,?_⟩
    rw [e1,List.eraseIdx_cons_succ];exact ⟨a,b,h3⟩
 | [],_::_,_,x=>x.elim
 | _::_,[],_,x=>x.elim
section del
variable {P:Program} {b:Frame} {n:Nat} {ops:Array Oper} {F:List Frame→(Machine→Prop)→Prop} {e:Env} {ds:List Deferred} {X:Cx} {h:HF} {L:LH} {K:Env→HF→LH→Prop}
variable {d:Option Nat} {ty:TypeId} {pos:String} {af:Array Edge} {g:Option (Nat×Bool)} {κ α : Type} {enc:κ→Value} {V:HF→Value→α→Prop} [DecidableEq κ]
theorem H8 (i:Nat) {t T E kt:TypeId} {mo ko:Operand} {bk:Nat} {o:Obj} {m:List (κ×α)} {k:κ} (hT:P.underlying t=some (.map T E)) (hK:tW P T enc) (hL:nth L i=some (bk,o)) (hm:hO enc V h o m)
  (hmo:e.ev mo=.map (some bk)) (hko:e.ev ko=enc k)
  (t':∀ o',hO enc V h o' (mdel m k)→K (pute e d (.tuple #[])) h (setNth L i (bk,o')))
  (hg:guardB ops e ⟨d,.call ⟨.builtin .delete,#[mo,ko],#[t,kt]⟩,ty,pos,af,g⟩=true:=by rfl):Stp P b n ops F ds X ⟨d,.call ⟨.builtin .delete,#[mo,ko],#[t,kt]⟩,ty,pos,af,g⟩ e h L K:=
 gW hg fun w hw=>by
  obtain ⟨m',hp,hn,es,c,rfl,hE,hB,hC⟩:=hm
  have hb:w.heap[bk]? = some (.map es.toArray c):=by
   have h2:=hL
   rw [gv] at h2
   exact hw.own _ (List.mem_of_getElem? h2)
  have hf:=hK.find k (m'.map (·.1)) es w hE.keys
  have hd:=hE.del (k:=k) 0
  have hnd:((mdel m' k).map (·.1)).Nodup:=hn.sublist ((vI k m').map _)
  cases hr:findIn k (m'.map (·.1)) es 0 with
  | none=>
   rw [hr] at hf hd
   refine ⟨.tuple #[],{ w with heap:=w.heap.setIfInBounds bk (.map es.toArray c) },h,_,?_,hw.write hL _,t' (.map es.toArray c) ⟨_,BW k hp hn,hnd,es,c,rfl,hd,hB,hC⟩⟩
   simp [execOp,resolve,invoke,builtin,Builtin.delete_,hmo,hko,run_underlying hT,lk hb,hK.check,hf,pj hb]
  | some p=>
   obtain ⟨j,u⟩:=p
   rw [hr] at hf hd
   obtain ⟨_,hlt,hd⟩:=hd
   rw [Nat.sub_zero] at hd hlt
   refine ⟨.tuple #[],{ w with heap:=w.heap.setIfInBounds bk (.map (es.eraseIdx j).toArray c) },h,_,?_,hw.write hL _,t' (.map (es.eraseIdx j).toArray c) ⟨_,BW k hp hn,hnd,es.eraseIdx j,c,rfl,hd,hB.sublist ((List.eraseIdx_sublist es j).map _),fun e he=>hC e ((List.eraseIdx_sublist es j).subset he)⟩⟩
   have he:es.toArray.eraseIdxIfInBounds j=(es.eraseIdx j).toArray:=by simp
   simp [execOp,resolve,invoke,builtin,Builtin.delete_,hmo,hko,run_underlying hT,lk hb,hK.check,hf,pj hb,he]
end del
theorem tv {α : Type} [DecidableEq α]:∀ {a b:List α},a.Nodup→(∀ x∈a,x∈b)→a.length≤b.length
 | [],b,_,_=>Nat.zero_le _
 | x::a,b,hn,hs=>by
  rw [List.nodup_cons] at hn
  have hx:x∈b:=hs x (List.mem_cons_self ..)
  have ih:=tv (b:=b.erase x) hn.2 (fun y hy=>by
   have hne:y≠x:=fun e=>hn.1 (e ▸ hy)
   rw [List.mem_erase_of_ne hne];exact hs y (List.mem_cons_of_mem _ hy))
  rw [List.length_erase_of_mem hx] at ih
  have:=List.length_pos_of_mem hx
  simp only [List.length_cons]
  omega
section frz
variable {P:Program} {b:Frame} {n:Nat} {k:List Item} {F:List Frame→(Machine→Prop)→Prop} {e:Env} {ds:List Deferred} {X:Cx} {h:HF} {L:LH}
theorem E1 {todo:List Item} (A G Q:LH) (hL:L=A++(G++Q)) (hM:X.M=[]) (t:∀ h2,h.le h2→(∀ p∈G,h2 p.1=some p.2)→TT P b n todo F e ds X h2 (A++Q)):TT P b n todo F e ds X h L:=by
 subst hL
 intro w hw
 obtain ⟨h1,h2,h3⟩:=hw.freezeMid hM
 exact t _ h2 h3 w h1
theorem Jl {c:Code} {ι : Type} (sl:ι→List (Nat×Value)) (hh:ι→HF) (LL:ι→LH) (I:ι→Prop) (hk:∀ i,I i→∀ e',TT P b n k F (upds e' (sl i)) ds X (hh i) (LL i))
  (t':(∀ i e',I i→jg e' (sl i)→TT P b n k F e' ds X (hh i) (LL i))→TT P b n (.code c::k) F e ds X h L):TT P b n (.code c::k) F e ds X h L:=
 t' fun i e' hI hr=>by have:=hk i hI e';rw [hr.upds] at this;exact this
end frz
end Go.Sg
namespace Go.Sg
def attR:Except Int Unit→Int
 | .ok _=>0
 | .error e=>e
def idxByte (s:ByteArray) (c:Int):Int:=match (List.range s.size).find? (fun i=>s[i]! == UInt8.ofNat c.toNat) with
 | some i=>(i:Nat)
 | none=>-1
def bsI (xs:List Int) (t:Int):Int:=((xs.countP (· < t):Nat):Int)
def slices_BinarySearch_int (x:List Int) (target:Int):Int×Bool:=(bsI x target,x.contains target)
def insI (x:Int):List Int→List Int
 | []=>[x]
 | y::l=>bif decide (x≤y) then x::y::l else y::insI x l
def sortI:List Int→List Int
 | []=>[]
 | x::l=>insI x (sortI l)
theorem wQ (x:Int):∀ l,(insI x l).Perm (x::l)
 | []=>List.Perm.refl _
 | y::l=>by
  simp only [insI,Bool.cond_eq_ite]
  split
  ·exact List.Perm.refl _
  ·exact (List.Perm.cons y (wQ x l)).trans (List.Perm.swap x y l)
theorem gS:∀ xs,(sortI xs).Perm xs
 | []=>List.Perm.refl _
 | x::l=>(wQ x _).trans (List.Perm.cons x (gS l))
theorem hU (xs:List Int):(sortI xs).length=xs.length:=(gS xs).length_eq
theorem xC (x:Int):∀ l:List Int,l.Pairwise (·≤·)→(insI x l).Pairwise (·≤·)
 | [],_=>by simp [insI]
 | y::l,h=>by
  rw [List.pairwise_cons] at h
  simp only [insI,Bool.cond_eq_ite,decide_eq_true_eq]
  split
  ·next hxy=>
   rw [List.pairwise_cons]
   refine ⟨fun z hz=>?_,List.pairwise_cons.2 h⟩
   rcases List.mem_cons.1 hz with rfl | hz
   ·exact hxy
   ·exact Int.le_trans hxy (h.1 z hz)
  ·next hxy=>
   rw [List.pairwise_cons]
   refine ⟨fun z hz=>?_,xC x l h.2⟩
   rcases List.mem_cons.1 ((wQ x l).mem_iff.1 hz) with rfl | hz
   ·omega
   ·exact h.1 z hz
theorem jw:∀ xs,(sortI xs).Pairwise (·≤·)
 | []=>List.Pairwise.nil
 | x::l=>xC x _ (jw l)
theorem ph:∀ {a b:List Int},a.Pairwise (·≤·)→b.Pairwise (·≤·)→a.Perm b→a=b
 | [],b,_,_,p=>(List.Perm.nil_eq p)
 | x::a,[],_,_,p=>absurd p.length_eq (by simp)
 | x::a,y::b,ha,hb,p=>by
  have hx:x=y:=by
   have h1:x∈y::b:=p.mem_iff.1 (List.mem_cons_self ..)
   have h2:y∈x::a:=p.mem_iff.2 (List.mem_cons_self ..)
   rw [List.pairwise_cons] at ha hb
   rcases List.mem_cons.1 h1 with e | h1
   ·exact e
   ·rcases List.mem_cons.1 h2 with e | h2
    ·exact e.symm
    ·have:=ha.1 y h2;have:=hb.1 x h1;omega
  subst hx
  rw [List.pairwise_cons] at ha hb
  rw [ph ha.2 hb.2 (List.Perm.cons_inv p)]
theorem Dx {xs ys:List Int} (p:xs.Perm ys):sortI xs=sortI ys:=
 ph (jw _) (jw _) ((gS xs).trans (p.trans (gS ys).symm))
def insS (x:OSeat):List OSeat→List OSeat
 | []=>[x]
 | y::l=>bif decide (x.person≤y.person) then x::y::l else y::insS x l
def seatS:List OSeat→List OSeat
 | []=>[]
 | x::l=>insS x (seatS l)
theorem wP (x:OSeat):∀ l,(insS x l).Perm (x::l)
 | []=>List.Perm.refl _
 | y::l=>by
  simp only [insS,Bool.cond_eq_ite]
  split
  ·exact List.Perm.refl _
  ·exact (List.Perm.cons y (wP x l)).trans (List.Perm.swap x y l)
theorem lj:∀ xs,(seatS xs).Perm xs
 | []=>List.Perm.refl _
 | x::l=>(wP x _).trans (List.Perm.cons x (lj l))
theorem xB (x:OSeat):∀ l:List OSeat,l.Pairwise (fun a b=>a.person≤b.person)→(insS x l).Pairwise (fun a b=>a.person≤b.person)
 | [],_=>by simp [insS]
 | y::l,h=>by
  rw [List.pairwise_cons] at h
  simp only [insS,Bool.cond_eq_ite,decide_eq_true_eq]
  split
  ·next hxy=>
   rw [List.pairwise_cons]
   refine ⟨fun z hz=>?_,List.pairwise_cons.2 h⟩
   rcases List.mem_cons.1 hz with rfl | hz
   ·exact hxy
   ·exact Int.le_trans hxy (h.1 z hz)
  ·next hxy=>
   rw [List.pairwise_cons]
   refine ⟨fun z hz=>?_,xB x l h.2⟩
   rcases List.mem_cons.1 ((wP x l).mem_iff.1 hz) with rfl | hz
   ·omega
   ·exact h.1 z hz
theorem qz:∀ xs,(seatS xs).Pairwise (fun a b=>a.person≤b.person)
 | []=>List.Pairwise.nil
 | x::l=>xB x _ (qz l)
theorem CX (xs:List Int):(xs.mergeSort fun x y=>decide (x≤y))=sortI xs:=by
 have h:=List.pairwise_mergeSort (le:=fun x y:Int=>decide (x≤y)) (fun a b c h1 h2=>by simp at *;omega) (fun a b=>by simp;omega) xs
 exact ph (h.imp (fun h=>by simpa using h)) (jw _) ((List.mergeSort_perm _ _).trans (gS xs).symm)
end Go.Sg
namespace Go.Sg
def dv (dG:Int) (low:Int) (high:Int):Bool:=(decide (low≤dG)&&decide (dG≤high))
def eN (dG:Int):Bool:=(dv dG 0 31)
def db (dG:Int):Bool:=(dv dG 0 1099511627775)
def fD (dG:Int):Bool:=(dv dG 0 63)
def i8 (x:Appoint):Bool:=(bif x.Gone then ((((((dv x.No 0 1048576)&&(db x.At))&&(db x.Known))&&(eN x.Office))&&(fD x.Person))&&(dv x.Weight 0 0)) else ((((((dv x.No 0 1048576)&&(db x.At))&&(db x.Known))&&(eN x.Office))&&(fD x.Person))&&(dv x.Weight 1 64)))
def cn.K1  (gF:Int):Int:=0
def cn.L1  (k:Int→Int):List Appoint→Int→Int
 | [],gF=>(k gF)
 | y1::rz1,gF=>(bif ((!(i8 y1))||decide (y1.No≤gF)) then 150 else (cn.L1  k rz1 y1.No))
def cn (l:List Appoint):Int:=(bif (decide (4096 < (l.length:Int))) then 2 else ((cn.L1 (cn.K1)) l (-1)))
def eQ (dG:Int) (low:Int) (high:Int):Bool:=(decide (low≤dG)&&decide (dG≤high))
def iN (dG:Int):Bool:=(eQ dG 0 1099511627775)
def gV (dG:Int):Bool:=(eQ dG 0 63)
def kw (x:Deputy):Bool:=(bif ((((((((!(eQ x.No 0 1048576))||(!(iN x.At)))||(!(iN x.Known)))||(!(gV x.From)))||(!(gV x.To)))||(x.From==x.To))||(!(eQ x.Office 0 31)))||(!(eQ x.Kind (-1) 15))) then false else (bif x.Gone then ((x.Until==0)&&(x.Most==0)) else ((decide (x.At < x.Until)&&decide (x.Until≤1099511627776))&&(eQ x.Most 0 1099511627776))))
def di.K1  (gF:Int):Int:=0
def di.L1  (k:Int→Int):List Deputy→Int→Int
 | [],gF=>(k gF)
 | y1::rz1,gF=>(bif ((!(kw y1))||decide (y1.No≤gF)) then 160 else (di.L1  k rz1 y1.No))
def di (l:List Deputy):Int:=(bif (decide (4096 < (l.length:Int))) then 2 else ((di.L1 (di.K1)) l (-1)))
def aS (dG:Int) (limit:Int):Bool:=(decide (0≤dG)&&decide (dG < limit))
def ju (x:Interest):Bool:=(bif x.Of then ((((((aS x.No 1048577)&&(aS x.At 1099511627776))&&(aS x.Known 1099511627776))&&(aS x.Party 1048577))&&(aS x.Person 1048577))&&(x.Person != x.Party)) else (((((aS x.No 1048577)&&(aS x.At 1099511627776))&&(aS x.Known 1099511627776))&&(aS x.Party 1048577))&&(aS x.Person 64)))
def bJ.K1  (gF:Int):Int:=0
def bJ.L1  (k:Int→Int):List Interest→Int→Int
 | [],gF=>(k gF)
 | y1::rz1,gF=>(bif ((!(ju y1))||decide (y1.No≤gF)) then 290 else (bJ.L1  k rz1 y1.No))
def bJ (l:List Interest):Int:=(bif (decide (4096 < (l.length:Int))) then 2 else ((bJ.L1 (bJ.K1)) l (-1)))
def bV.K1  : Int:=(-1)
def bV.L1 (f:(Int→Bool)) (k:Int):List Int→Nat→Int
 | [],i1=>(k)
 | y1::rz1,i1=>(bif (f y1) then (i1:Int) else (bV.L1 f k rz1 (i1+1)))
def bV (s:List Int) (f:(Int→Bool)):Int:=((bV.L1 f (bV.K1)) s 0)
def cV (s:List Int) (f:(Int→Bool)):Bool:=decide (0≤(bV s f))
def iF (dG:Int) (v0:Int) (v1:Int):Bool:=(decide (dG < v0)||decide (v1 < dG))
def bK (least:Int) (most:Int) (l:List Int):Bool:=(!(cV l (fun ed=>iF ed least most)))
def kU (x:Budget):Bool:=(bif x.Gone then ((((((bK 0 1048576 ([x.No]))&&(bK 0 1099511627775 ([x.At,x.Known])))&&(bK (-1) 15 ([x.Kind])))&&(bK 1 1099511627776 ([x.Period])))&&(bK 0 0 ([x.Count])))&&(bK 0 0 ([x.Value]))) else ((((((bK 0 1048576 ([x.No]))&&(bK 0 1099511627775 ([x.At,x.Known])))&&(bK (-1) 15 ([x.Kind])))&&(bK 1 1099511627776 ([x.Period])))&&(bK 0 1048576 ([x.Count])))&&(bK 0 1099511627776 ([x.Value]))))
def dk.K1  (gF:Int):Int:=0
def dk.L1  (k:Int→Int):List Budget→Int→Int
 | [],gF=>(k gF)
 | y1::rz1,gF=>(bif ((!(kU y1))||decide (y1.No≤gF)) then 180 else (dk.L1  k rz1 y1.No))
def dk (l:List Budget):Int:=(bif (decide (4096 < (l.length:Int))) then 2 else ((dk.L1 (dk.K1)) l (-1)))
def aF.L2  (k:List fx):List fx→List fx
 | []=>k
 | y2::rz2=>(y2::(aF.L2 k rz2))
def aF.L3  (k:List fx):List fx→List fx
 | []=>k
 | y3::rz3=>(y3::(aF.L3 k rz3))
def aF.K1  : List fx:=[]
def aF.L1 (rec:Expr→Int→List fx) (depth:Int) (k:List fx):List Expr→List fx
 | []=>(k)
 | y1::rz1=>((aF.L3 ((aF.L1 rec depth k rz1))) (rec y1 (depth+1)))
def aF.F (rec:Expr→Int→List fx) (x:Expr) (depth:Int):List fx:=((fx.mk (Expr.mk x.Kind x.N x.No x.Name x.L) depth)::((aF.L1 rec depth (aF.K1)) x.L))
def aF.go:Nat→Expr→Int→List fx
 | 0=>fun _ _=>[]
 | m+1=>aF.F (aF.go m)
def a8 (x:Expr) (depth:Int):List fx:=aF.go x.dep x depth
def dW (ok:Bool) (Kb:Int):(Except Int Unit):=(bif (!ok) then (Except.error Kb) else (Except.ok ()))
def ai.K1 (p:Policy) (Bf:List Expr):List Expr:=(Bf++[p.Change])
def ai.L1  (k:List Expr→List Expr):List Rule→List Expr→List Expr
 | [],Bf=>(k Bf)
 | y1::rz1,Bf=>(ai.L1  k rz1 (Bf++[y1.Expr]))
def ai (p:Policy):List Expr:=((ai.L1 (ai.K1 p)) p.Rules ([]))
def bW.L2  (k:Int→(Except Int Unit)):List fx→Int→(Except Int Unit)
 | [],yF=>k yF
 | y2::rz2,yF=>(exi (dW (decide ((IntKind.wrap .i64 (yF+1))≤256)&&decide (y2.depth≤16)) 2) (fun _=>(bW.L2 k rz2 (IntKind.wrap .i64 (yF+1)))))
def bW.L3  (k:Int→(Except Int Unit)):List fx→Int→(Except Int Unit)
 | [],yE=>k yE
 | y3::rz3,yE=>(exi (dW (decide ((IntKind.wrap .i64 (yE+1))≤256)&&decide (y3.depth≤16)) 2) (fun _=>(bW.L3 k rz3 (IntKind.wrap .i64 (yE+1)))))
def bW.K1  : (Except Int Unit):=(Except.ok ())
def bW.L1  (k:(Except Int Unit)):List Expr→(Except Int Unit)
 | []=>(k)
 | y1::rz1=>((bW.L3 (fun zg3_b3_0=>(bW.L1  k rz1))) (a8 y1 1) 0)
def bW (p:Policy):(Except Int Unit):=(exi (dW ((decide ((p.Offices.length:Int)≤32)&&decide ((p.Kinds.length:Int)≤16))&&decide ((p.Rules.length:Int)≤16)) 2) (fun _=>((bW.L1 (bW.K1)) (ai p))))
def cC (x:Expr):Bool:=((x.Kind==1)||(x.Kind==2))
def gf (s:ByteArray) (c:Int):Int:=(idxByte s c)
def strings_IndexByte (s:ByteArray) (c:Int):Int:=(gf s c)
def iK (c:Int):Int:=(bif ((decide (97≤c)&&decide (c≤122))||(decide (65≤c)&&decide (c≤90))) then 2 else (bif (decide (48≤c)&&decide (c≤57)) then 3 else (bif (c==95) then 5 else (bif ((((c==32)||(c==9))||(c==10))||(c==13)) then 1 else (bif (decide (0≤(strings_IndexByte (⟨#[123,125,40,41,59,44,61,58,46,60,62,33,43,45,42,47]⟩:ByteArray) c))) then 4 else 0)))))
def dc.K1  : Bool:=true
def dc.L1 (s:ByteArray) (k:Bool):List Nat→Nat→Bool
 | [],i1=>(k)
 | y1::rz1,i1=>(bif ((((iK ((s.data.getD ((i1:Int):Int).toNat 0).toNat:Int)) != 2)&&((iK ((s.data.getD ((i1:Int):Int).toNat 0).toNat:Int)) != 3))&&((iK ((s.data.getD ((i1:Int):Int).toNat 0).toNat:Int)) != 5)) then false else (dc.L1 s k rz1 (i1+1)))
def dc (s:ByteArray):Bool:=(bif (((s.toList==(⟨#[]⟩:ByteArray).toList)||decide (32 < (s.size:Int)))||((iK ((s.data.getD (0:Int).toNat 0).toNat:Int)) != 2)) then false else ((dc.L1 s (dc.K1)) (List.range s.size) 0))
def da (s:ByteArray):Bool:=(bif (s.toList==(⟨#[112,111,108,105,99,121]⟩:ByteArray).toList) then (bif (s.toList==(⟨#[112,111,108,105,99,121]⟩:ByteArray).toList) then false else (dc s)) else (bif (s.toList==(⟨#[109,111,100,101]⟩:ByteArray).toList) then (bif (s.toList==(⟨#[109,111,100,101]⟩:ByteArray).toList) then false else (dc s)) else (bif (s.toList==(⟨#[111,108,100]⟩:ByteArray).toList) then (bif (s.toList==(⟨#[111,108,100]⟩:ByteArray).toList) then false else (dc s)) else (bif (s.toList==(⟨#[110,101,119]⟩:ByteArray).toList) then (bif (s.toList==(⟨#[110,101,119]⟩:ByteArray).toList) then false else (dc s)) else (bif (s.toList==(⟨#[98,111,116,104]⟩:ByteArray).toList) then (bif (s.toList==(⟨#[98,111,116,104]⟩:ByteArray).toList) then false else (dc s)) else (bif (s.toList==(⟨#[101,105,116,104,101,114]⟩:ByteArray).toList) then (bif (s.toList==(⟨#[101,105,116,104,101,114]⟩:ByteArray).toList) then false else (dc s)) else (bif (s.toList==(⟨#[111,102,102,105,99,101]⟩:ByteArray).toList) then (bif (s.toList==(⟨#[111,102,102,105,99,101]⟩:ByteArray).toList) then false else (dc s)) else (bif (s.toList==(⟨#[107,105,110,100]⟩:ByteArray).toList) then (bif (s.toList==(⟨#[107,105,110,100]⟩:ByteArray).toList) then false else (dc s)) else (bif (s.toList==(⟨#[114,117,108,101]⟩:ByteArray).toList) then (bif (s.toList==(⟨#[114,117,108,101]⟩:ByteArray).toList) then false else (dc s)) else (bif (s.toList==(⟨#[116,104,105,110,107]⟩:ByteArray).toList) then (bif (s.toList==(⟨#[116,104,105,110,107]⟩:ByteArray).toList) then false else (dc s)) else (bif (s.toList==(⟨#[99,104,97,110,103,101]⟩:ByteArray).toList) then (bif (s.toList==(⟨#[99,104,97,110,103,101]⟩:ByteArray).toList) then false else (dc s)) else (bif (s.toList==(⟨#[115,111,109,101]⟩:ByteArray).toList) then (bif (s.toList==(⟨#[115,111,109,101]⟩:ByteArray).toList) then false else (dc s)) else (bif (s.toList==(⟨#[119,101,105,103,104,116]⟩:ByteArray).toList) then (bif (s.toList==(⟨#[119,101,105,103,104,116]⟩:ByteArray).toList) then false else (dc s)) else (bif (s.toList==(⟨#[111,102]⟩:ByteArray).toList) then (bif (s.toList==(⟨#[111,102]⟩:ByteArray).toList) then false else (dc s)) else (bif (s.toList==(⟨#[117,112,116,111]⟩:ByteArray).toList) then (bif (s.toList==(⟨#[117,112,116,111]⟩:ByteArray).toList) then false else (dc s)) else (bif (s.toList==(⟨#[101,108,115,101]⟩:ByteArray).toList) then false else (dc s)))))))))))))))))
def aJ.K1  : Int:=(-1)
def aJ.L1 (v:ByteArray) (k:Int):List ByteArray→Nat→Int
 | [],i1=>(k)
 | y1::rz1,i1=>(bif (v.toList==y1.toList) then (i1:Int) else (aJ.L1 v k rz1 (i1+1)))
def aJ (s:List ByteArray) (v:ByteArray):Int:=((aJ.L1 v (aJ.K1)) s 0)
def bo.K1  : Bool:=true
def bo.L1 (l:List ByteArray) (ok:(ByteArray→Bool)) (k:Bool):List ByteArray→Nat→Bool
 | [],i1=>(k)
 | y1::rz1,i1=>(bif ((!(ok y1))||((aJ l y1) != (i1:Int))) then false else (bo.L1 l ok k rz1 (i1+1)))
def bo (l:List ByteArray) (ok:(ByteArray→Bool)):Bool:=((bo.L1 l ok (bo.K1)) l 0)
def cr (s:List ByteArray) (v:ByteArray):Bool:=decide (0≤(aJ s v))
def bX.L2 (p:Policy) (k:(Except Int Unit)):List fx→(Except Int Unit)
 | []=>k
 | y2::rz2=>(exi (dW ((!(cC y2.x))||(cr p.Offices y2.x.Name)) 201) (fun _=>(bX.L2 p k rz2)))
def bX.L3 (p:Policy) (k:(Except Int Unit)):List fx→(Except Int Unit)
 | []=>k
 | y3::rz3=>(exi (dW ((!(cC y3.x))||(cr p.Offices y3.x.Name)) 201) (fun _=>(bX.L3 p k rz3)))
def bX.K1  : (Except Int Unit):=(Except.ok ())
def bX.L1 (p:Policy) (k:(Except Int Unit)):List Expr→(Except Int Unit)
 | []=>(k)
 | y1::rz1=>((bX.L3 p ((bX.L1 p k rz1))) (a8 y1 1))
def bX (p:Policy):(Except Int Unit):=(exi (dW (((da p.Name)&&(bo p.Offices da))&&(bo p.Kinds da)) 201) (fun _=>((bX.L1 p (bX.K1)) (ai p))))
def aH (dG:Int) (low:Int) (high:Int):Bool:=(decide (low≤dG)&&decide (dG≤high))
def lI (x0:Expr):Bool:=false
def io (x:Expr):Bool:=((x.N==0)&&((x.L.length:Int)==0))
def im (x:Expr):Bool:=((aH x.N 1 4096)&&((x.L.length:Int)==0))
def il (x:Expr):Bool:=(((x.Name.toList==(⟨#[]⟩:ByteArray).toList)&&(aH (x.L.length:Int) 1 16))&&(aH x.N 1 (x.L.length:Int)))
def gP (x:Expr):Bool:=(((x.Name.toList==(⟨#[]⟩:ByteArray).toList)&&((x.L.length:Int)==2))&&(aH x.N 0 1099511627776))
def kindsP (i:Int) (x:Expr):Bool:=if i=0 then lI x else if i=1 then io x else if i=2 then im x else if i=3 then il x else gP x
def aZ.L3 (p:Policy) (k:(Except Int Unit)):List fx→(Except Int Unit)
 | []=>k
 | y3::rz3=>(exi (dW ((aH y3.x.Kind 1 4)&&(kindsP y3.x.Kind y3.x)) 200) (fun _=>(exi (dW (decide (0 < (IntKind.wrap .i64 (((ai p).length:Int) - 1)))||(y3.x.Kind != 4)) 200) (fun _=>(aZ.L3 p k rz3)))))
def aZ.L4 (p:Policy) (i2:Nat) (k:(Except Int Unit)):List fx→(Except Int Unit)
 | []=>k
 | y4::rz4=>(exi (dW ((aH y4.x.Kind 1 4)&&(kindsP y4.x.Kind y4.x)) 200) (fun _=>(exi (dW (decide ((i2:Int) < (IntKind.wrap .i64 (((ai p).length:Int) - 1)))||(y4.x.Kind != 4)) 200) (fun _=>(aZ.L4 p i2 k rz4)))))
def aZ.K2  : (Except Int Unit):=(Except.ok ())
def aZ.L2 (p:Policy) (k:(Except Int Unit)):List Expr→Nat→(Except Int Unit)
 | [],i2=>(k)
 | y2::rz2,i2=>((aZ.L4 p i2 ((aZ.L2 p k rz2 (i2+1)))) (a8 y2 1))
def aZ.K1 (p:Policy):(Except Int Unit):=((aZ.L2 p (aZ.K2)) (ai p) 0)
def aZ.L1 (p:Policy) (k:(Except Int Unit)):List Rule→Nat→(Except Int Unit)
 | [],i1=>(k)
 | y1::rz1,i1=>(exi (dW ((y1.Kind.toList==(nthI p.Kinds (i1:Int)).toList)&&(aH y1.Think 0 1099511627775)) 200) (fun _=>(aZ.L1 p k rz1 (i1+1))))
def aZ (p:Policy):(Except Int Unit):=(exi (dW ((decide (0 < (p.Kinds.length:Int))&&((p.Rules.length:Int)==(p.Kinds.length:Int)))&&(aH p.Mode 1 4)) 200) (fun _=>((aZ.L1 p (aZ.K1 p)) p.Rules 0)))
def cL (p:Policy):(Except Int Unit):=(exi (bW p) (fun _=>(exi (bX p) (fun _=>(exi (aZ p) (fun _=>(Except.ok ())))))))
def ae.K1 (offices:List ByteArray) (x:Expr) (jB:List Expr):Expr:=(Expr.mk x.Kind x.N (aJ offices x.Name) x.Name jB)
def ae.L1 (rec:List ByteArray→Expr→Expr) (offices:List ByteArray) (k:List Expr→Expr):List Expr→List Expr→Expr
 | [],jB=>(k jB)
 | y1::rz1,jB=>(ae.L1 rec offices k rz1 (jB++[(rec offices y1)]))
def ae.K2 (x:Expr) (jA:List Expr):Expr:=(Expr.mk x.Kind x.N 0 x.Name jA)
def ae.L2 (rec:List ByteArray→Expr→Expr) (offices:List ByteArray) (k:List Expr→Expr):List Expr→List Expr→Expr
 | [],jA=>(k jA)
 | y2::rz2,jA=>(ae.L2 rec offices k rz2 (jA++[(rec offices y2)]))
def ae.F (rec:List ByteArray→Expr→Expr) (offices:List ByteArray) (x:Expr):Expr:=(bif (cC (Expr.mk x.Kind x.N 0 x.Name x.L)) then ((ae.L1 rec offices (ae.K1 offices x)) x.L ([])) else ((ae.L2 rec offices (ae.K2 x)) x.L ([])))
def ae.go:Nat→List ByteArray→Expr→Expr
 | 0=>fun _ _=>default
 | m+1=>ae.F (ae.go m)
def ae (offices:List ByteArray) (x:Expr):Expr:=ae.go x.dep offices x
def dj.K1 (p:Policy) (k9:List Rule):(Policy×Int):=((Policy.mk p.Name p.Kinds p.Offices k9 (Expr.mk ((ae p.Offices p.Change).Kind) ((ae p.Offices p.Change).N) ((ae p.Offices p.Change).No) ((ae p.Offices p.Change).Name) ((ae p.Offices p.Change).L)) p.Mode),0)
def dj.L1 (p:Policy) (k:List Rule→(Policy×Int)):List Rule→Nat→List Rule→(Policy×Int)
 | [],i1,k9=>(k k9)
 | y1::rz1,i1,k9=>(dj.L1 p k rz1 (i1+1) (k9++[(Rule.mk y1.Kind (i1:Int) y1.Think (Expr.mk ((ae p.Offices y1.Expr).Kind) ((ae p.Offices y1.Expr).N) ((ae p.Offices y1.Expr).No) ((ae p.Offices y1.Expr).Name) ((ae p.Offices y1.Expr).L)))]))
def dj (p:Policy):(Policy×Int):=(bif ((attR (cL p)) != 0) then ((Policy.mk (⟨#[]⟩:ByteArray) ([]) ([]) ([]) (Expr.mk 0 0 0 (⟨#[]⟩:ByteArray) ([])) 0),(attR (cL p))) else ((dj.L1 p (dj.K1 p)) p.Rules 0 ([])))
def bF.K1  : Bool:=true
def bF.L1 (offices:List ByteArray) (k:Bool):List fx→Bool
 | []=>k
 | y1::rz1=>(bif (cC y1.x) then (bif (y1.x.No != (aJ offices y1.x.Name)) then false else (bF.L1 offices k rz1)) else (bif (y1.x.No != 0) then false else (bF.L1 offices k rz1)))
def bF (offices:List ByteArray) (x:Expr):Bool:=((bF.L1 offices (bF.K1)) (a8 x 1))
def cj.K1 (p:Policy):Int:=(bif (!(bF p.Offices p.Change)) then 200 else 0)
def cj.L1 (p:Policy) (k:Int):List Rule→Nat→Int
 | [],i1=>(k)
 | y1::rz1,i1=>(bif ((y1.KindNo != (i1:Int))||(!(bF p.Offices y1.Expr))) then 200 else (cj.L1 p k rz1 (i1+1)))
def cj (p:Policy):Int:=(bif ((dj p).2 != 0) then (dj p).2 else ((cj.L1 p (cj.K1 p)) p.Rules 0))
def bh.K1  (gF:Int):Int:=0
def bh.L1  (k:Int→Int):List Version→Int→Int
 | [],gF=>(k gF)
 | y1::rz1,gF=>(bif ((((!(aH y1.No (IntKind.wrap .i64 (gF+1)) 1048576))||(!(aH y1.At 0 1099511627775)))||(!(aH y1.Known 0 1099511627775)))||((cj y1.Policy) != 0)) then 200 else (bh.L1  k rz1 y1.No))
def bh (l:List Version):Int:=(bif (decide (256 < (l.length:Int))) then 2 else ((bh.L1 (bh.K1)) l (-1)))
def bi.K1 (l:List Document) (dq:List (Int×Int)):gu:=(gu.mk l dq)
def bi.L1  (k:(List (Int×Int))→gu):List Document→Nat→(List (Int×Int))→gu
 | [],i1,dq=>(k dq)
 | y1::rz1,i1,dq=>(bi.L1  k rz1 (i1+1) (mput dq y1.No (i1:Int)))
def bi (l:List Document):gu:=((bi.L1 (bi.K1 l)) l 0 ([]))
def jd (t:Int):Bool:=(decide (0≤t)&&decide (t < 1099511627776))
def cY.K1 (l:List Int) (gZ:Int):Bool:=decide ((l.length:Int)≤16)
def cY.L1 (limit:Int) (k:Int→Bool):List Int→Int→Bool
 | [],gZ=>(k gZ)
 | y1::rz1,gZ=>(bif (decide (y1≤gZ)||decide (limit≤y1)) then false else (cY.L1 limit k rz1 y1))
def cY (l:List Int) (limit:Int):Bool:=((cY.L1 limit (cY.K1 l)) l (-1))
def fE (d:Document):Bool:=((((((((((((decide (0≤d.No)&&decide (d.No < 4096))&&(jd d.At))&&decide (0≤d.Kind))&&decide (d.Kind < 16))&&decide (0≤d.Value))&&decide (d.Value≤1099511627776))&&decide (0≤d.From))&&decide (d.From < d.Until))&&decide (d.Until≤1099511627776))&&(cY d.Parties 1048577))&&(cY d.Revokes d.No))&&(cY d.Needs d.No))
def dE (no:Int) (v0:gu):Bool:=(!(mhas v0.at_ no))
def dO (s:gu) (d:Document):Bool:=((!(cV d.Revokes (fun ed=>dE ed s)))&&(!(cV d.Needs (fun ed=>dE ed s))))
def bI.K1  : Int:=0
def bI.L1 (l:List Document) (k:Int):List Document→Nat→Int
 | [],i1=>(k)
 | y1::rz1,i1=>(bif (((!(fE y1))||(decide (0 < (i1:Int))&&decide (y1.No≤(nthI l ((i1:Int) - 1)).No)))||(!(dO (bi l) y1))) then 170 else (bI.L1 l k rz1 (i1+1)))
def bI (l:List Document):Int:=(bif (decide (4096 < (l.length:Int))) then 2 else ((bI.L1 l (bI.K1)) l 0))
def hY (dG:Int) (v0:Int):Bool:=(decide (dG < 0)||decide (v0 < dG))
def dQ (most:Int) (l:List Int):Bool:=(!(cV l (fun ed=>hY ed most)))
def jP (x:Approval):Bool:=(((((dQ 1048576 ([x.No]))&&(dQ 1099511627775 ([x.At,x.Known])))&&(dQ 4095 ([x.Doc])))&&(dQ 63 ([x.By,x.For])))&&(dQ 31 ([x.Office])))
def cq.K1  (gF:Int):Int:=0
def cq.L1  (k:Int→Int):List Approval→Int→Int
 | [],gF=>(k gF)
 | y1::rz1,gF=>(bif ((!(jP y1))||decide (y1.No≤gF)) then 280 else (cq.L1  k rz1 y1.No))
def cq (l:List Approval):Int:=(bif (decide (4096 < (l.length:Int))) then 2 else ((cq.L1 (cq.K1)) l (-1)))
def eH.K1  : Int:=0
def eH.L1 (aT:Register) (k:Int):List Nat→Nat→Int
 | [],i1=>(k)
 | y1::rz1,i1=>(bif ((nthI ([(cn aT.Appoints),(di aT.Deputies),(bJ aT.Interests),(dk aT.Budgets),(bh aT.Versions),(bI aT.Docs),(cq aT.Approvals)]) (i1:Int)) != 0) then 300 else (eH.L1 aT k rz1 (i1+1)))
def eH (aT:Register):Int:=((eH.L1 aT (eH.K1)) (List.range 7) 0)
def jp (t:Int):Bool:=(decide (0≤t)&&decide (t < 1099511627776))
def ab.K1  : Int:=(-1)
def ab.L1 (f:(Document→Bool)) (k:Int):List Document→Nat→Int
 | [],i1=>(k)
 | y1::rz1,i1=>(bif (f y1) then (i1:Int) else (ab.L1 f k rz1 (i1+1)))
def ab (s:List Document) (f:(Document→Bool)):Int:=((ab.L1 f (ab.K1)) s 0)
def bQ (d:Document) (v0:Int):Bool:=(d.No==v0)
def cG (aT:Register) (doc:Int) (known:Int):(aC×Bool):=(bif (decide ((ab aT.Docs (fun ed=>bQ ed doc)) < 0)||(!(jp known))) then ((aC.mk (Register.mk ([]) ([]) ([]) ([]) ([]) ([]) ([])) (Document.mk 0 0 0 0 0 0 ([]) ([]) ([]) (fun _=>0)) 0),false) else ((aC.mk aT (nthI aT.Docs (ab aT.Docs (fun ed=>bQ ed doc))) known),true))
def iO.K1  (gF:Int):Bool:=true
def iO.L1  (k:Int→Bool):List Int→Int→Bool
 | [],gF=>(k gF)
 | y1::rz1,gF=>(bif (decide (y1≤gF)||decide (64≤y1)) then false else (iO.L1  k rz1 y1))
def iO (who:List Int):Bool:=((iO.L1 (iO.K1)) who (-1))
def cmp_isNaN_int (x:Int):Bool:=(x != x)
def aQ.K1  : List Span:=[]
def aQ.L1 (l:List Int) (k:List Span):List Int→Nat→List Span
 | [],i1=>(k)
 | y1::rz1,i1=>(bif (decide ((((i1+1):Nat):Int) < (l.length:Int))) then (bif (decide (y1 < (min 1099511627776 (nthI l (((i1+1):Nat):Int))))) then ((Span.mk y1 (min 1099511627776 (nthI l (((i1+1):Nat):Int))))::(aQ.L1 l k rz1 (i1+1))) else (aQ.L1 l k rz1 (i1+1))) else (bif (decide (y1 < 1099511627776)) then ((Span.mk y1 1099511627776)::(aQ.L1 l k rz1 (i1+1))) else (aQ.L1 l k rz1 (i1+1))))
def aQ (l:List Int):List Span:=((aQ.L1 l (aQ.K1)) l 0)
def aD.L4 (q:aC) (k:(List (Int×Bool))→List Span):List Rule→(List (Int×Bool))→List Span
 | [],rh=>(k rh)
 | y4::rz4,rh=>(aD.L4 q k rz4 (mput rh (q.doc.At+y4.Think) true))
def aD.L5 (q:aC) (k:(List (Int×Bool))→List Span):List Rule→(List (Int×Bool))→List Span
 | [],jX=>(k jX)
 | y5::rz5,jX=>(aD.L5 q k rz5 (mput jX (q.doc.At+y5.Think) true))
def aD.K3  (jo:List (Int×Bool)):List Span:=(aQ (sortI (jo.map Prod.fst)))
def aD.L3 (q:aC) (k:(List (Int×Bool))→List Span):List Version→(List (Int×Bool))→List Span
 | [],jo=>(k jo)
 | y3::rz3,jo=>((aD.L5 q (fun zg5_b2_0=>(aD.L3 q k rz3 zg5_b2_0))) y3.Policy.Rules (mput jo y3.At true))
def aD.K2 (q:aC) (kG:List (Int×Bool)):List Span:=((aD.L3 q (aD.K3)) q.Register.Versions kG)
def aD.L2  (k:(List (Int×Bool))→List Span):List Interest→(List (Int×Bool))→List Span
 | [],kG=>(k kG)
 | y2::rz2,kG=>(aD.L2  k rz2 (mput kG y2.At true))
def aD.K1 (q:aC) (dq:List (Int×Bool)):List Span:=((aD.L2 (aD.K2 q)) q.Register.Interests dq)
def aD.L1  (k:(List (Int×Bool))→List Span):List Appoint→(List (Int×Bool))→List Span
 | [],dq=>(k dq)
 | y1::rz1,dq=>(aD.L1  k rz1 (mput dq y1.At true))
def aD (q:aC):List Span:=((aD.L1 (aD.K1 q)) q.Register.Appoints (mput (mput (mput ([]) 0 true) q.doc.At true) q.doc.Until true))
def cv.K1  (gF:Int):Bool:=true
def cv.L1  (k:Int→Bool):List Int→Int→Bool
 | [],gF=>(k gF)
 | y1::rz1,gF=>(bif (decide (y1≤gF)||decide (64≤y1)) then false else (cv.L1  k rz1 y1))
def cv (who:List Int):Bool:=((cv.L1 (cv.K1)) who (-1))
def ck.L2  (k:List Int→Bool):List Holder→List Int→Bool
 | [],KH=>(k KH)
 | y2::rz2,KH=>(bif (decide (y2.Weight < 1)||decide (64 < y2.Weight)) then false else (ck.L2  k rz2 (KH++[y2.Person])))
def ck.L3  (k:List Int→Bool):List Holder→List Int→Bool
 | [],Hc=>(k Hc)
 | y3::rz3,Hc=>(bif (decide (y3.Weight < 1)||decide (64 < y3.Weight)) then false else (ck.L3  k rz3 (Hc++[y3.Person])))
def ck.K1 (holders:List (List Holder)) (offices:Int):Bool:=((holders.length:Int)==offices)
def ck.L1  (k:Bool):List (List Holder)→Bool
 | []=>(k)
 | y1::rz1=>((ck.L3 (fun zg3_7=>(bif (!(cv zg3_7)) then false else (ck.L1  k rz1)))) y1 ([]))
def ck (holders:List (List Holder)) (offices:Int):Bool:=((ck.L1 (ck.K1 holders offices)) holders)
def bL.K1  : List Holder:=[]
def bL.L1 (q:aR) (k:List Holder):List Holder→List Holder
 | []=>(k)
 | y1::rz1=>(bif ((slices_BinarySearch_int q.who y1.Person).2) then (y1::(bL.L1 q k rz1)) else (bL.L1 q k rz1))
def bL (q:aR) (office:Int):List Holder:=((bL.L1 q (bL.K1)) (nthI q.holders office))
def fd (q:aR) (office:Int):List Holder:=(bL q office)
def cH.K1  (aG:Bool):Bool:=false
def cH.L1  (k:Bool→Bool):List Holder→Bool→Bool
 | [],aG=>k aG
 | y1::rz1,aG=>true
def cH (q:aR) (x:Expr):Bool:=((cH.L1 (cH.K1)) (fd q x.No) false)
def ct.K1 (x:Expr) (aG:Int):Bool:=decide (x.N≤aG)
def ct.L1  (k:Int→Bool):List Holder→Int→Bool
 | [],aG=>k aG
 | y1::rz1,aG=>(ct.L1 k rz1 (IntKind.wrap .i64 (aG+y1.Weight)))
def ct (q:aR) (x:Expr):Bool:=((ct.L1 (ct.K1 x)) (fd q x.No) 0)
def dl.K1 (x:Expr) (gZ:Int):Bool:=decide (x.N≤gZ)
def dl.L1 (rec:aR→Expr→Bool) (q:aR) (k:Int→Bool):List Expr→Int→Bool
 | [],gZ=>(k gZ)
 | y1::rz1,gZ=>(bif (rec q y1) then (dl.L1 rec q k rz1 (IntKind.wrap .i64 (gZ+1))) else (dl.L1 rec q k rz1 gZ))
def dl.F (rec:aR→Expr→Bool) (q:aR) (x:Expr):Bool:=((dl.L1 rec q (dl.K1 x)) x.L 0)
def gX.F (rec:aR→Expr→Bool) (q:aR) (x:Expr):Bool:=(bif (decide (q.value≤x.N)) then (rec q (nthI x.L 0)) else (rec q (nthI x.L 1)))
def fulQ (rec:aR→Expr→Bool) (q:aR) (x:Expr):Bool:=if x.Kind=1 then cH q x else if x.Kind=2 then ct q x else if x.Kind=3 then dl.F rec q x else gX.F rec q x
def co.F (rec:aR→Expr→Bool) (q:aR) (x:Expr):Bool:=(fulQ rec q x)
def co.go:Nat→aR→Expr→Bool
 | 0=>fun _ _=>default
 | m+1=>co.F (co.go m)
def co (q:aR) (x:Expr):Bool:=co.go x.dep q x
def bY (p:Policy) (kind:Int) (value:Int) (holders:List (List Holder)) (who:List Int):(Bool×Int):=(bif ((cj p) != 0) then (false,(cj p)) else (bif (((decide (kind < 0)||decide ((p.Kinds.length:Int)≤kind))||decide (value < 0))||decide (1099511627776 < value)) then (false,1) else (bif (!(ck holders (p.Offices.length:Int))) then (false,210) else (bif (!(cv who)) then (false,1) else ((co (aR.mk value holders who) ((nthI p.Rules kind).Expr)),0)))))
def fG (l:List Version) (old:Bool):List Version:=l
def fj (l:List Version) (old:Bool):List Version:=(bif (!old) then [] else (l.take ((1:Int)).toNat))
def fF (l:List Version) (old:Bool):List Version:=(l.drop ((((l.length:Int) - 1):Int)).toNat)
def gN  : (List (Int×Value)):=(mput (mput (mput (mput ([]) 1 (Value.func (.func 143) #[] #[])) 2 (Value.func (.func 144) #[] #[])) 3 (Value.func (.func 142) #[] #[])) 4 (Value.func (.func 142) #[] #[]))
def judgesP (mode:Int) (l:List Version) (old:Bool):List Version:=bif mode==1 then fj l old else bif mode==2 then fF l old else fG l old
def fm (mode:Int) (permits:List Bool):Int:=(bif (!(mhas gN mode)) then 270 else (bif (decide (256 < (permits.length:Int))) then 1 else 0))
def dr.K1  : Int:=(-1)
def dr.L1 (f:(Bool→Bool)) (k:Int):List Bool→Nat→Int
 | [],i1=>(k)
 | y1::rz1,i1=>(bif (f y1) then (i1:Int) else (dr.L1 f k rz1 (i1+1)))
def dr (s:List Bool) (f:(Bool→Bool)):Int:=((dr.L1 f (dr.K1)) s 0)
def bZ (l:List Bool) (ok:(Bool→Bool)):Int:=(dr l ok)
def dD (Fx:Bool):Bool:=Fx
def eJ (Fx:Bool):Bool:=(!Fx)
def aN.K1 (permits:List Bool) (oT:List Int):(List Int×Bool×Int):=(oT,decide (0≤(bZ permits dD)),0)
def aN.L1  (k:List Int→(List Int×Bool×Int)):List Bool→Nat→List Int→(List Int×Bool×Int)
 | [],i1,oT=>(k oT)
 | y1::rz1,i1,oT=>(aN.L1  k rz1 (i1+1) (oT++[(i1:Int)]))
def aN.K2 (permits:List Bool) (Be:List Int):(List Int×Bool×Int):=(Be,(((permits.length:Int)==1)&&(nthI permits 0)),0)
def aN.L2  (k:List Int→(List Int×Bool×Int)):List Bool→Nat→List Int→(List Int×Bool×Int)
 | [],i2,Be=>(k Be)
 | y2::rz2,i2,Be=>(aN.L2  k rz2 (i2+1) (Be++[(i2:Int)]))
def aN.K3  (Bd:List Int):(List Int×Bool×Int):=(Bd,false,0)
def aN.L3  (k:List Int→(List Int×Bool×Int)):List Bool→Nat→List Int→(List Int×Bool×Int)
 | [],i3,Bd=>(k Bd)
 | y3::rz3,i3,Bd=>(aN.L3  k rz3 (i3+1) (Bd++[(i3:Int)]))
def aN (mode:Int) (permits:List Bool):(List Int×Bool×Int):=(bif ((fm mode permits) != 0) then ([],false,(fm mode permits)) else (bif ((mode==4)&&decide (0≤(bZ permits dD))) then ([(bZ permits dD)],true,0) else (bif ((mode==3)&&decide (0≤(bZ permits eJ))) then ([(bZ permits eJ)],false,0) else (bif (mode==3) then ((aN.L1 (aN.K1 permits)) permits 0 ([])) else (bif (mode != 4) then ((aN.L2 (aN.K2 permits)) permits 0 ([])) else ((aN.L3 (aN.K3)) permits 0 ([])))))))
def eP (mode:Int) (permits:List Bool):(Bool×Int):=((aN mode permits).2.1,(aN mode permits).2.2)
def bP.K1 (person:Int) (parties:List Int) (aW:Int) (known:Int) (Cf:Int):Int:=(bif ((((!(aS person 64))||decide (16 < (parties.length:Int)))||(!(aS aW 1099511627776)))||(!(aS known 1099511627776))) then 1 else 0)
def bP.L1  (k:Int→Int):List Int→Int→Int
 | [],Cf=>(k Cf)
 | y1::rz1,Cf=>(bif (decide (y1≤Cf)||decide (1048576 < y1)) then 1 else (bP.L1  k rz1 y1))
def bP (l:List Interest) (person:Int) (parties:List Int) (aW:Int) (known:Int):Int:=(bif ((bJ l) != 0) then (bJ l) else ((bP.L1 (bP.K1 person parties aW known)) parties (-1)))
def bp.K1  : List Interest:=[]
def bp.L1 (v1:List (cp×Interest)) (k:List Interest):List Interest→List Interest
 | []=>(k)
 | y1::rz1=>(bif ((!y1.Gone)&&(decide ((mgetD v1 (cp.mk y1.Person y1.Party y1.Of) (Interest.mk 0 0 0 0 0 false false))=y1))) then (y1::(bp.L1 v1 k rz1)) else (bp.L1 v1 k rz1))
def bp (v0:List Interest) (v1:List (cp×Interest)):List Interest:=((bp.L1 v1 (bp.K1)) v0)
def bO.K1 (l:List Interest) (dq:List (cp×Interest)):List Interest:=(bp l dq)
def bO.L1 (fa:Int) (known:Int) (k:(List (cp×Interest))→List Interest):List Interest→(List (cp×Interest))→List Interest
 | [],dq=>(k dq)
 | y1::rz1,dq=>(bif (decide (fa < y1.At)||decide (known < y1.Known)) then (bO.L1 fa known k rz1 dq) else (bif ((!(mhas dq (cp.mk y1.Person y1.Party y1.Of)))||decide ((mgetD dq (cp.mk y1.Person y1.Party y1.Of) (Interest.mk 0 0 0 0 0 false false)).At≤y1.At)) then (bO.L1 fa known k rz1 (mput dq (cp.mk y1.Person y1.Party y1.Of) y1)) else (bO.L1 fa known k rz1 dq)))
def bO (l:List Interest) (fa:Int) (known:Int):List Interest:=((bO.L1 fa known (bO.K1 l)) l ([]))
def conPut (w:fN) (m:List (Int×Bool)) (q:List fN):List (Int×Bool)×List fN:=bif mgetD m w.to false then (m,q) else (mput m w.to true,q++[w])
def conFill (person:Int):List Interest→List (Int×List Interest)→List (Int×Bool)→List fN→List (Int×List Interest)×List (Int×Bool)×List fN
 | [],f,m,q=>(f,m,q)
 | x::l,f,m,q=>bif x.Of then conFill person l (mput f x.Person (mgetD f x.Person []++[x])) m q
  else bif x.Person==person then conFill person l f (conPut ⟨[x.No],x.Party⟩ m q).1 (conPut ⟨[x.No],x.Party⟩ m q).2 else conFill person l f m q
def conStep (path:List Int):List Interest→List (Int×Bool)→List fN→List (Int×Bool)×List fN
 | [],m,q=>(m,q)
 | x::l,m,q=>conStep path l (conPut ⟨path++[x.No],x.Party⟩ m q).1 (conPut ⟨path++[x.No],x.Party⟩ m q).2
def conLoop (parties:List Int) (f:List (Int×List Interest)):Nat→List (Int×Bool)→List fN→List Int×Bool
 | 0,_,_=>([],false)
 | _+1,_,[]=>([],false)
 | n+1,m,w::q=>bif parties.contains w.to then (w.path,true) else bif (w.path.length:Int)==8 then conLoop parties f n m q
  else conLoop parties f n (conStep w.path (mgetD f w.to []) m q).1 (conStep w.path (mgetD f w.to []) m q).2
def conFind (l:List Interest) (person:Int) (parties:List Int) (st:List Interest):List Int×Bool:=
 conLoop parties (conFill person st [] [] []).1 (l.length+1) (conFill person st [] [] []).2.1 (conFill person st [] [] []).2.2
def dB (l:List Interest) (person:Int) (parties:List Int) (aW:Int) (known:Int):List Int×Bool×Int:=
 bif bP l person parties aW known != 0 then ([],false,bP l person parties aW known)
 else ((conFind l person parties (bO l aW known)).1,(conFind l person parties (bO l aW known)).2,0)
def qn (h:HF):List Value→List fN→Prop
 | [],[]=>True
 | v::vs,w::ws=>(∃ r,v=.agg (fN.cells w r).toArray∧fN.ok h w r)∧qn h vs ws
 | _,_=>False
def V3 (_:HF) (v:Value) (x:Option Addr×Nat×Nat):Prop:=v=.slice x.1 x.2.1 x.2.2
def FR (h:HF):List (Int×Option Addr×Nat×Nat)→List (Int×List Interest)→LH→Prop
 | [],[],G=>G=[]
 | (k,x)::m,(k',xs)::f,G=>k=k'∧x.2.1=xs.length∧∃ G1 G2,G=G1++G2∧cM Interest.rp 61 h xs x.1 x.2.2 G1∧FR h m f G2
 | _,_,_=>False
def qp (st:List Interest) (m:List (Int×Bool)) (q:List fN):Prop:=(∀ p∈m,p.2=true∧p.1∈st.map (·.Party))∧q.length≤m.length∧∀ w∈q,w.path.length≤8
def GH (st:List Interest) (f:List (Int×List Interest)):Prop:=∀ k,∀ x∈mgetD f k [],x∈st
def bB (dG:Int) (q:aC) (at_:Int):Bool:=(((dB q.Register.Interests dG q.doc.Parties at_ q.known).2.2 != 0)||(dB q.Register.Interests dG q.doc.Parties at_ q.known).2.1)
def bv (s:List Int) (del:Int→Bool):List Int:=s.filter fun x=>!(del x)
def eZ (dG:Int):Bool:=(decide (0≤dG)&&decide (dG < 1099511627776))
def bz.K2  : (List (Int×Version)):=[]
def bz.L2 (cR:List (Int×Version)) (k:List (Int×Version)):List Int→(List (Int×Version))
 | []=>(k)
 | y2::rz2=>((y2,(mgetD cR y2 (Version.mk 0 0 0 (Policy.mk (⟨#[]⟩:ByteArray) [] [] [] (Expr.mk 0 0 0 (⟨#[]⟩:ByteArray) []) 0))))::(bz.L2 cR k rz2))
def bz.K1  (oS:Int) (cR:List (Int×Version)):(List (Int×Version)):=((bz.L2 cR (bz.K2)) (sortI (cR.map Prod.fst)))
def bz.L1 (known:Int) (eo:Int) (k:Int→(List (Int×Version))→(List (Int×Version))):List Version→Int→(List (Int×Version))→(List (Int×Version))
 | [],oS,cR=>(k oS cR)
 | y1::rz1,oS,cR=>(bif (decide (known < y1.Known)) then (bz.L1 known eo k rz1 oS cR) else (bif (decide (y1.At≤eo)) then (bif (decide (y1.At < oS)) then (bz.L1 known eo k rz1 oS cR) else (bz.L1 known eo k rz1 y1.At (mput cR eo y1))) else (bz.L1 known eo k rz1 oS (mput cR y1.At y1))))
def bz (l:List Version) (known:Int) (eo:Int):(List (Int×Version)):=((bz.L1 known eo (bz.K1)) l (-1) ([]))
def ef (l:List Version) (rj:Int) (known:Int):(List (Int×Version)):=(bz l known rj)
def ay.K2 (aG:List Version) (Af:List Int):(List Int×Int×Int):=((sortI Af),(nthI aG ((aG.length:Int) - 1)).Policy.Mode,0)
def ay.L2  (k:List Int→(List Int×Int×Int)):List Version→List Int→(List Int×Int×Int)
 | [],Af=>(k Af)
 | y2::rz2,Af=>(ay.L2  k rz2 (Af++[y2.No]))
def ay.K1  (fV:Bool) (aG:List Version):(List Int×Int×Int):=(bif ((aG.length:Int)==0) then ([],0,0) else ((ay.L2 (ay.K2 aG)) (judgesP ((nthI aG ((aG.length:Int) - 1)).Policy.Mode) aG fV) ([])))
def ay.L1 (begun:Int) (aO:Int) (k:Bool→List Version→(List Int×Int×Int)):List (Int×Version)→Bool→List Version→(List Int×Int×Int)
 | [],fV,aG=>k fV aG
 | y1::rz1,fV,aG=>(bif (decide (aO < y1.1)) then (k fV aG) else (ay.L1 begun aO k rz1 (fV||(y1.1==begun)) (aG++[y1.2])))
def ay (l:List Version) (begun:Int) (aO:Int) (known:Int):(List Int×Int×Int):=(bif ((bh l) != 0) then ([],0,(bh l)) else (bif ((((!(eZ begun))||(!(eZ aO)))||(!(eZ known)))||decide (aO < begun)) then ([],0,1) else ((ay.L1 begun aO (ay.K1)) (ef l begun known) false ([]))))
def eh.K1  : Int:=(-1)
def eh.L1 (v:Int) (k:Int):List Int→Nat→Int
 | [],i1=>(k)
 | y1::rz1,i1=>(bif (v==y1) then (i1:Int) else (eh.L1 v k rz1 (i1+1)))
def eh (s:List Int) (v:Int):Int:=((eh.L1 v (eh.K1)) s 0)
def dM (s:List Int) (v:Int):Bool:=decide (0≤(eh s v))
def aw.K1 (q:aC) (fa:Int) (oT:List Policy):(List Policy×Int):=(oT,(ay q.Register.Versions q.doc.At fa q.known).2.1)
def aw.L1 (q:aC) (fa:Int) (k:List Policy→(List Policy×Int)):List Version→List Policy→(List Policy×Int)
 | [],oT=>(k oT)
 | y1::rz1,oT=>(bif (dM ((ay q.Register.Versions q.doc.At fa q.known).1) y1.No) then (aw.L1 q fa k rz1 (oT++[y1.Policy])) else (aw.L1 q fa k rz1 oT))
def aw (q:aC) (fa:Int):(List Policy×Int):=(bif ((ay q.Register.Versions q.doc.At fa q.known).2.2 != 0) then ([],0) else ((aw.L1 q fa (aw.K1 q fa)) q.Register.Versions ([])))
def bR.K1  (cR:List Holder):List Holder:=cR
def bR.L1  (k:List Holder→List Holder):List Holder→List Holder→List Holder
 | [],cR=>k cR
 | y1::rz1,cR=>(bR.L1 k rz1 (cR++[y1]))
def bR (seq:List Holder):List Holder:=((bR.L1 (bR.K1)) seq ([]))
def eY (seq:List Holder):List Holder:=(bR seq)
def cmp_Compare_int (x:Int) (y:Int):Int:=(bif (cmp_isNaN_int x) then (bif (cmp_isNaN_int y) then 0 else (-1)) else (bif (cmp_isNaN_int y) then 1 else (bif (decide (x < y)) then (-1) else (bif (decide (y < x)) then 1 else 0))))
def bA.K1  : List Holder:=[]
def bA.L1 (m:List (OSeat×Appoint)) (office:Int) (k:List Holder):List OSeat→List Holder
 | []=>(k)
 | y1::rz1=>(bif ((y1.office==office)&&(!((mgetD m y1 (Appoint.mk 0 0 0 0 0 0 false)).Gone))) then ((Holder.mk ((mgetD m y1 (Appoint.mk 0 0 0 0 0 0 false)).Person) ((mgetD m y1 (Appoint.mk 0 0 0 0 0 0 false)).Weight))::(bA.L1 m office k rz1)) else (bA.L1 m office k rz1))
def bA (m:List (OSeat×Appoint)) (office:Int):List Holder:=((bA.L1 m office (bA.K1)) (seatS (m.map Prod.fst)))
def fW (m:List (OSeat×Appoint)) (office:Int):List Holder:=(bA m office)
def e6 (x:Appoint) (v0:Int) (v1:Int):(OSeat×Bool):=((OSeat.mk x.Office x.Person),(decide (x.At≤v0)&&decide (x.Known≤v1)))
def bG.K1  (cR:List (OSeat×Appoint)):(List (OSeat×Appoint)):=cR
def bG.L1 (key:(Appoint→OSeat×Bool)) (later:(Appoint→Appoint→Bool)) (k:(List (OSeat×Appoint))→(List (OSeat×Appoint))):List Appoint→(List (OSeat×Appoint))→(List (OSeat×Appoint))
 | [],cR=>(k cR)
 | y1::rz1,cR=>(bif ((key y1).2&&((!(mhas cR ((key y1).1)))||(!(later (mgetD cR ((key y1).1) (Appoint.mk 0 0 0 0 0 0 false)) y1)))) then (bG.L1 key later k rz1 (mput cR ((key y1).1) y1)) else (bG.L1 key later k rz1 cR))
def bG (l:List Appoint) (key:(Appoint→OSeat×Bool)) (later:(Appoint→Appoint→Bool)):(List (OSeat×Appoint)):=((bG.L1 key later (bG.K1)) l ([]))
def e5 (a:Appoint) (gR:Appoint):Bool:=decide (gR.At < a.At)
def em (l:List Appoint) (fa:Int) (known:Int):(List (OSeat×Appoint)):=(bG l (fun ed=>e6 ed fa known) e5)
def dh (l:List Appoint) (office:Int) (aO:Int) (known:Int):(List Holder×Int):=(bif ((cn l) != 0) then ([],(cn l)) else (bif (((!(eN office))||(!(db aO)))||(!(db known))) then ([],1) else ((eY (fW (em l aO known) office)),0)))
def ar.K1  (oS:List (List Holder)):(List (List Holder)):=oS
def ar.L1 (q:aC) (aO:Int) (k:(List (List Holder))→(List (List Holder))):List ByteArray→Nat→(List (List Holder))→(List (List Holder))
 | [],i1,oS=>(k oS)
 | y1::rz1,i1,oS=>(ar.L1 q aO k rz1 (i1+1) (oS++[(dh q.Register.Appoints (i1:Int) aO q.known).1]))
def ar (q:aC) (p:Policy) (aO:Int):(List (List Holder)):=((ar.L1 q aO (ar.K1)) p.Offices 0 ([]))
def cT.K1 (q:aC) (aO:Int) (jI:List Bool):Bool:=((eP ((aw q aO).2) jI).1&&((eP ((aw q aO).2) jI).2==0))
def cT.L1 (q:aC) (who:List Int) (aO:Int) (k:List Bool→Bool):List Policy→List Bool→Bool
 | [],jI=>(k jI)
 | y1::rz1,jI=>(bif (decide (q.doc.Kind < (y1.Rules.length:Int))&&decide ((q.doc.At+(nthI y1.Rules q.doc.Kind).Think)≤aO)) then (cT.L1 q who aO k rz1 (jI++[((bY y1 q.doc.Kind q.doc.Value (ar q y1 aO) (bv who (fun ed=>bB ed q aO))).1&&((bY y1 q.doc.Kind q.doc.Value (ar q y1 aO) (bv who (fun ed=>bB ed q aO))).2==0))])) else (cT.L1 q who aO k rz1 (jI++[(decide (q.doc.Kind < (y1.Rules.length:Int))&&decide ((q.doc.At+(nthI y1.Rules q.doc.Kind).Think)≤aO))])))
def cT (q:aC) (who:List Int) (aO:Int):Bool:=(bif (decide (aO < q.doc.At)||decide (q.doc.Until≤aO)) then false else ((cT.L1 q who aO (cT.K1 q aO)) ((aw q aO).1) ([])))
def eW.K1  (aG:List Span):(List Span×Int):=(aG,0)
def eW.L1 (aT:Register) (doc:Int) (who:List Int) (known:Int) (k:List Span→(List Span×Int)):List Span→List Span→(List Span×Int)
 | [],aG=>k aG
 | y1::rz1,aG=>(bif (!(cT ((cG aT doc known).1) who y1.From)) then (eW.L1 aT doc who known k rz1 aG) else (bif (decide (0 < (aG.length:Int))&&((nthI aG ((aG.length:Int) - 1)).Until==y1.From)) then (eW.L1 aT doc who known k rz1 (aG.set (((aG.length:Int) - 1):Int).toNat (Span.mk (nthI aG ((aG.length:Int) - 1)).From y1.Until))) else (eW.L1 aT doc who known k rz1 (aG++[y1]))))
def eW (aT:Register) (doc:Int) (who:List Int) (known:Int):(List Span×Int):=(bif ((eH aT) != 0) then ([],300) else (bif ((!((cG aT doc known).2))||(!(iO who))) then ([],1) else ((eW.L1 aT doc who known (eW.K1)) (aD ((cG aT doc known).1)) ([]))))
def az.L3  (k:(List (Int×Bool))→List Int):List Holder→(List (Int×Bool))→List Int
 | [],jo=>(k jo)
 | y3::rz3,jo=>(az.L3  k rz3 (mput jo y3.Person true))
def az.L4  (k:(List (Int×Bool))→List Int):List Holder→(List (Int×Bool))→List Int
 | [],rh=>(k rh)
 | y4::rz4,rh=>(az.L4  k rz4 (mput rh y4.Person true))
def az.L2  (k:(List (Int×Bool))→List Int):List (List Holder)→(List (Int×Bool))→List Int
 | [],kG=>(k kG)
 | y2::rz2,kG=>((az.L4 (fun zg4_b2_0=>(az.L2  k rz2 zg4_b2_0))) y2 kG)
def az.L7  (k:(List (Int×Bool))→List Int):List Holder→(List (Int×Bool))→List Int
 | [],pE=>(k pE)
 | y7::rz7,pE=>(az.L7  k rz7 (mput pE y7.Person true))
def az.L5  (k:(List (Int×Bool))→List Int):List (List Holder)→(List (Int×Bool))→List Int
 | [],jX=>(k jX)
 | y5::rz5,jX=>((az.L7 (fun zg7_b2_0=>(az.L5  k rz5 zg7_b2_0))) y5 jX)
def az.K1 (person:Int) (dq:List (Int×Bool)):List Int:=(sortI ((mdel dq person).map Prod.fst))
def az.L1 (q:aC) (aO:Int) (k:(List (Int×Bool))→List Int):List Policy→(List (Int×Bool))→List Int
 | [],dq=>(k dq)
 | y1::rz1,dq=>((az.L5 (fun zg5_b2_0=>(az.L1 q aO k rz1 zg5_b2_0))) (ar q y1 aO) dq)
def az (q:aC) (person:Int) (aO:Int):List Int:=(bif (decide (aO < q.doc.At)) then [] else ((az.L1 q aO (az.K1 person)) ((aw q aO).1) ([])))
def tryP (c:List Int→Bool) (help:List Int):Nat→Nat→List Int→Option (List Int)
 | 0,_,ws=>bif c ws then some ws else none
 | m+1,fr,ws=>(List.range' fr (help.length - m - fr)).findSome? fun i=>tryP c help m (i+1) (ws++[nthI help (i:Int)])
def needC (q:aC) (person at_:Int) (ws:List Int):Bool:=cT q (sortI (ws++[person])) at_
def needLoop (c:List Int→Bool) (help:List Int):Option (List Int):=(List.range' 0 (help.length+1)).findSome? fun many=>tryP c help many 0 []
def dP (aT:Register) (doc:Int) (person:Int) (aW:Int) (known:Int):List Int×Bool×Int:=
 bif (eH aT) != 0 then ([],false,300)
 else bif ((((!((cG aT doc known).2))||decide (person < 0))||decide (64≤person))||(!(jp aW))) then ([],false,1)
 else bif decide (12 < ((az (cG aT doc known).1 person aW).length:Int)) then ([],false,2)
 else match needLoop (needC (cG aT doc known).1 person aW) (az (cG aT doc known).1 person aW) with
  | some l=>(l,true,0)
  | none=>([],false,0)
def bD  : Register:=(Register.mk ([(Appoint.mk 1 0 0 0 1 1 false),(Appoint.mk 2 0 0 0 2 1 false),(Appoint.mk 3 20 30 0 3 1 false)]) ([]) ([]) ([]) ([(Version.mk 7 0 0 (Policy.mk (⟨#[112]⟩:ByteArray) ([(⟨#[107]⟩:ByteArray)]) ([(⟨#[104,101,97,100]⟩:ByteArray)]) ([(Rule.mk (⟨#[107]⟩:ByteArray) 0 5 (Expr.mk 2 2 0 (⟨#[104,101,97,100]⟩:ByteArray) ([])))]) (Expr.mk 2 2 0 (⟨#[104,101,97,100]⟩:ByteArray) ([])) 2))]) ([(Document.mk 4 10 0 0 0 100 ([6]) ([]) ([]) (fun _=>0))]) ([]))
def fC.K1  : Bool:=true
def fC.L1 (gR:List Span) (k:Bool):List Span→Nat→Bool
 | [],i1=>(k)
 | y1::rz1,i1=>(bif (!(decide (y1=(nthI gR (i1:Int))))) then false else (fC.L1 gR k rz1 (i1+1)))
def fC (a:List Span) (gR:List Span):Bool:=(bif ((a.length:Int) != (gR.length:Int)) then false else ((fC.L1 gR (fC.K1)) a 0))
def sD (aT:Register) (known:Int) (who:List Int) (want:List Span):Bool:=(((eW aT 4 who known).2==0)&&(fC ((eW aT 4 who known).1) want))
def oE  : Bool:=true
def e8.K1  (gZ:Int):Int:=gZ
def e8.L1 (rec:Expr→Int→Int) (limit:Int) (k:Int→Int):List Expr→Int→Int
 | [],gZ=>(k gZ)
 | y1::rz1,gZ=>(bif (decide (gZ≤limit)) then (e8.L1 rec limit k rz1 (IntKind.wrap .i64 (gZ+(rec y1 (IntKind.wrap .i64 (limit - gZ)))))) else (k gZ))
def e8.F (rec:Expr→Int→Int) (x:Expr) (limit:Int):Int:=((e8.L1 rec limit (e8.K1)) x.L 1)
def e8.go:Nat→Expr→Int→Int
 | 0=>fun _ _=>default
 | m+1=>e8.F (e8.go m)
def e8 (x:Expr) (limit:Int):Int:=e8.go x.dep x limit
def dg.L2  (k:Bool):List Rule→Bool
 | []=>(k)
 | y2::rz2=>(bif (decide (40 < (e8 y2.Expr 40))) then false else (dg.L2  k rz2))
def dg.L3  (k:Bool):List Rule→Bool
 | []=>(k)
 | y3::rz3=>(bif (decide (40 < (e8 y3.Expr 40))) then false else (dg.L3  k rz3))
def dg.K1  : Bool:=true
def dg.L1  (k:Bool):List Version→Bool
 | []=>(k)
 | y1::rz1=>(bif (((decide (20 < (y1.Policy.Kinds.length:Int))||decide (40 < (y1.Policy.Offices.length:Int)))||decide (20 < (y1.Policy.Rules.length:Int)))||decide (40 < (e8 y1.Policy.Change 40))) then false else ((dg.L3 ((dg.L1  k rz1))) y1.Policy.Rules))
def dg (l:List Version):Bool:=(bif (decide (5 < (l.length:Int))) then false else ((dg.L1 (dg.K1)) l))
def jL.K1  : Bool:=true
def jL.L1  (k:Bool):List Document→Bool
 | []=>(k)
 | y1::rz1=>(bif ((decide (20 < (y1.Parties.length:Int))||decide (20 < (y1.Revokes.length:Int)))||decide (20 < (y1.Needs.length:Int))) then false else (jL.L1  k rz1))
def jL (aT:Register):Bool:=(bif ((((((decide (30 < (aT.Appoints.length:Int))||decide (12 < (aT.Deputies.length:Int)))||decide (12 < (aT.Interests.length:Int)))||decide (12 < (aT.Budgets.length:Int)))||decide (8 < (aT.Docs.length:Int)))||decide (24 < (aT.Approvals.length:Int)))||(!(dg aT.Versions))) then false else ((jL.L1 (jL.K1)) aT.Docs))
def bq.K1  : Int:=(-1)
def bq.L1 (no:Int) (k:Int):List Document→Nat→Int
 | [],i1=>(k)
 | y1::rz1,i1=>(bif (y1.No==no) then (i1:Int) else (bq.L1 no k rz1 (i1+1)))
def bq (aT:Register) (no:Int):Int:=((bq.L1 no (bq.K1)) aT.Docs 0)
def jz (dG:Int):Bool:=(decide (0≤dG)&&decide (dG < 32))
def iz (dG:Int):Bool:=(decide (0≤dG)&&decide (dG < 1099511627776))
def lH (dG:Int):Bool:=(decide (0≤dG)&&decide (dG < 64))
def ik (x:Appoint):Bool:=(bif (((((decide (x.No < 0)||decide (1048576 < x.No))||(!(iz x.At)))||(!(iz x.Known)))||(!(jz x.Office)))||(!(lH x.Person))) then false else (bif x.Gone then (x.Weight==0) else (decide (1≤x.Weight)&&decide (x.Weight≤64))))
def ff.K1  : Int:=0
def ff.L1 (l:List Appoint) (k:Int):List Appoint→Nat→Int
 | [],i1=>(k)
 | y1::rz1,i1=>(bif ((!(ik y1))||(decide (0 < (i1:Int))&&decide (y1.No≤(nthI l ((i1:Int) - 1)).No))) then 150 else (ff.L1 l k rz1 (i1+1)))
def ff (l:List Appoint):Int:=(bif (decide (4096 < (l.length:Int))) then 2 else ((ff.L1 l (ff.K1)) l 0))
def fT (dG:Int) (low:Int) (high:Int):Bool:=(decide (low≤dG)&&decide (dG≤high))
def lr (dG:Int):Bool:=(fT dG 0 1099511627775)
def jU (dG:Int):Bool:=(fT dG 0 63)
def ij (x:Deputy):Bool:=(bif ((((((!(fT x.No 0 1048576))||(!(lr x.At)))||(!(lr x.Known)))||(!(jU x.From)))||(!(jU x.To)))||(x.From==x.To)) then false else (bif ((!(fT x.Office 0 31))||(!(fT x.Kind (-1) 15))) then false else (bif x.Gone then ((x.Until==0)&&(x.Most==0)) else ((decide (x.At < x.Until)&&decide (x.Until≤1099511627776))&&(fT x.Most 0 1099511627776)))))
def fQ.K1  : Int:=0
def fQ.L1 (l:List Deputy) (k:Int):List Deputy→Nat→Int
 | [],i1=>(k)
 | y1::rz1,i1=>(bif ((!(ij y1))||(decide (0 < (i1:Int))&&decide (y1.No≤(nthI l ((i1:Int) - 1)).No))) then 160 else (fQ.L1 l k rz1 (i1+1)))
def fQ (l:List Deputy):Int:=(bif (decide (4096 < (l.length:Int))) then 2 else ((fQ.L1 l (fQ.K1)) l 0))
def iw (t:Int):Bool:=(decide (0≤t)&&decide (t < 1099511627776))
def gz (dG:Int):Bool:=(decide (0≤dG)&&decide (dG≤1048576))
def jR (dG:Int):Bool:=(decide (0≤dG)&&decide (dG < 64))
def ib (x:Interest):Bool:=(bif ((((decide (x.No < 0)||decide (1048576 < x.No))||(!(iw x.At)))||(!(iw x.Known)))||(!(gz x.Party))) then false else (bif x.Of then ((gz x.Person)&&(x.Person != x.Party)) else (jR x.Person)))
def e9.K1  : Int:=0
def e9.L1 (l:List Interest) (k:Int):List Interest→Nat→Int
 | [],i1=>(k)
 | y1::rz1,i1=>(bif ((!(ib y1))||(decide (0 < (i1:Int))&&decide (y1.No≤(nthI l ((i1:Int) - 1)).No))) then 290 else (e9.L1 l k rz1 (i1+1)))
def e9 (l:List Interest):Int:=(bif (decide (4096 < (l.length:Int))) then 2 else ((e9.L1 l (e9.K1)) l 0))
def gr (dG:Int) (least:Int) (most:Int):Bool:=(decide (least≤dG)&&decide (dG≤most))
def jT (dG:Int):Bool:=(decide (0≤dG)&&decide (dG < 1099511627776))
def ii (x:Budget):Bool:=(bif (((((!(gr x.No 0 1048576))||(!(jT x.At)))||(!(jT x.Known)))||(!(gr x.Kind (-1) 15)))||(!(gr x.Period 1 1099511627776))) then false else (bif x.Gone then ((x.Count==0)&&(x.Value==0)) else ((gr x.Count 0 1048576)&&(gr x.Value 0 1099511627776))))
def fP.K1  : Int:=0
def fP.L1 (l:List Budget) (k:Int):List Budget→Nat→Int
 | [],i1=>(k)
 | y1::rz1,i1=>(bif ((!(ii y1))||(decide (0 < (i1:Int))&&decide (y1.No≤(nthI l ((i1:Int) - 1)).No))) then 180 else (fP.L1 l k rz1 (i1+1)))
def fP (l:List Budget):Int:=(bif (decide (4096 < (l.length:Int))) then 2 else ((fP.L1 l (fP.K1)) l 0))
def bM (dG:Int):Bool:=(decide (0≤dG)&&decide (dG < 1099511627776))
def cI.K1  (gZ:Int):Int:=gZ
def cI.L1 (rec:Expr→Int→Int) (limit:Int) (k:Int→Int):List Expr→Int→Int
 | [],gZ=>(k gZ)
 | y1::rz1,gZ=>(bif (decide (gZ≤limit)) then (cI.L1 rec limit k rz1 (IntKind.wrap .i64 (gZ+(rec y1 (IntKind.wrap .i64 (limit - gZ)))))) else (k gZ))
def cI.F (rec:Expr→Int→Int) (x:Expr) (limit:Int):Int:=((cI.L1 rec limit (cI.K1)) x.L 1)
def cI.go:Nat→Expr→Int→Int
 | 0=>fun _ _=>default
 | m+1=>cI.F (cI.go m)
def cI (x:Expr) (limit:Int):Int:=cI.go x.dep x limit
def aY.K1  (gF:Int):Int:=(IntKind.wrap .i64 (gF+1))
def aY.L1 (rec:Expr→Int) (k:Int→Int):List Expr→Int→Int
 | [],gF=>(k gF)
 | y1::rz1,gF=>(aY.L1 rec k rz1 (max gF (rec y1)))
def aY.F (rec:Expr→Int) (x:Expr):Int:=((aY.L1 rec (aY.K1)) x.L 0)
def aY.go:Nat→Expr→Int
 | 0=>fun _=>default
 | m+1=>aY.F (aY.go m)
def aY (x:Expr):Int:=aY.go x.dep x
def ig (x:Expr):Bool:=(decide (256 < (cI x 256))||decide (16 < (aY x)))
def el.K1  : Bool:=false
def el.L1  (k:Bool):List Rule→Bool
 | []=>(k)
 | y1::rz1=>(bif (ig y1.Expr) then true else (el.L1  k rz1))
def el (p:Policy):Bool:=(bif (((decide (32 < (p.Offices.length:Int))||decide (16 < (p.Kinds.length:Int)))||decide (16 < (p.Rules.length:Int)))||(ig p.Change)) then true else ((el.L1 (el.K1)) p.Rules))
def i6 (c:Int):Bool:=((decide (97≤c)&&decide (c≤122))||(decide (65≤c)&&decide (c≤90)))
def kF (c:Int):Bool:=(decide (48≤c)&&decide (c≤57))
def m6 (c:Int):Bool:=(((i6 c)||(kF c))||(c==95))
def fA.K1  : Bool:=true
def fA.L1 (s:ByteArray) (k:Bool):List Nat→Nat→Bool
 | [],i1=>(k)
 | y1::rz1,i1=>(bif (!(m6 ((s.data.getD ((i1:Int):Int).toNat 0).toNat:Int))) then false else (fA.L1 s k rz1 (i1+1)))
def fA (s:ByteArray):Bool:=(bif ((decide ((s.size:Int) < 1)||decide (32 < (s.size:Int)))||(!(i6 ((s.data.getD (0:Int).toNat 0).toNat:Int)))) then false else ((fA.L1 s (fA.K1)) (List.range s.size) 0))
def lq (s:ByteArray):Bool:=(bif (s.toList==(⟨#[112,111,108,105,99,121]⟩:ByteArray).toList) then (bif (s.toList==(⟨#[112,111,108,105,99,121]⟩:ByteArray).toList) then true else false) else (bif (s.toList==(⟨#[109,111,100,101]⟩:ByteArray).toList) then (bif (s.toList==(⟨#[109,111,100,101]⟩:ByteArray).toList) then true else false) else (bif (s.toList==(⟨#[111,108,100]⟩:ByteArray).toList) then (bif (s.toList==(⟨#[111,108,100]⟩:ByteArray).toList) then true else false) else (bif (s.toList==(⟨#[110,101,119]⟩:ByteArray).toList) then (bif (s.toList==(⟨#[110,101,119]⟩:ByteArray).toList) then true else false) else (bif (s.toList==(⟨#[98,111,116,104]⟩:ByteArray).toList) then (bif (s.toList==(⟨#[98,111,116,104]⟩:ByteArray).toList) then true else false) else (bif (s.toList==(⟨#[101,105,116,104,101,114]⟩:ByteArray).toList) then (bif (s.toList==(⟨#[101,105,116,104,101,114]⟩:ByteArray).toList) then true else false) else (bif (s.toList==(⟨#[111,102,102,105,99,101]⟩:ByteArray).toList) then (bif (s.toList==(⟨#[111,102,102,105,99,101]⟩:ByteArray).toList) then true else false) else (bif (s.toList==(⟨#[107,105,110,100]⟩:ByteArray).toList) then (bif (s.toList==(⟨#[107,105,110,100]⟩:ByteArray).toList) then true else false) else (bif (s.toList==(⟨#[114,117,108,101]⟩:ByteArray).toList) then (bif (s.toList==(⟨#[114,117,108,101]⟩:ByteArray).toList) then true else false) else (bif (s.toList==(⟨#[116,104,105,110,107]⟩:ByteArray).toList) then (bif (s.toList==(⟨#[116,104,105,110,107]⟩:ByteArray).toList) then true else false) else (bif (s.toList==(⟨#[99,104,97,110,103,101]⟩:ByteArray).toList) then (bif (s.toList==(⟨#[99,104,97,110,103,101]⟩:ByteArray).toList) then true else false) else (bif (s.toList==(⟨#[115,111,109,101]⟩:ByteArray).toList) then (bif (s.toList==(⟨#[115,111,109,101]⟩:ByteArray).toList) then true else false) else (bif (s.toList==(⟨#[119,101,105,103,104,116]⟩:ByteArray).toList) then (bif (s.toList==(⟨#[119,101,105,103,104,116]⟩:ByteArray).toList) then true else false) else (bif (s.toList==(⟨#[111,102]⟩:ByteArray).toList) then (bif (s.toList==(⟨#[111,102]⟩:ByteArray).toList) then true else false) else (bif (s.toList==(⟨#[117,112,116,111]⟩:ByteArray).toList) then (bif (s.toList==(⟨#[117,112,116,111]⟩:ByteArray).toList) then true else false) else (bif (s.toList==(⟨#[101,108,115,101]⟩:ByteArray).toList) then true else false))))))))))))))))
def kE (s:ByteArray):Bool:=((fA s)&&(!(lq s)))
def dA.K1  : Int:=(-1)
def dA.L1 (s:ByteArray) (k:Int):List ByteArray→Nat→Int
 | [],i1=>(k)
 | y1::rz1,i1=>(bif (y1.toList==s.toList) then (i1:Int) else (dA.L1 s k rz1 (i1+1)))
def dA (l:List ByteArray) (s:ByteArray):Int:=((dA.L1 s (dA.K1)) l 0)
def dI.K1  : Bool:=true
def dI.L1 (l:List ByteArray) (k:Bool):List ByteArray→Nat→Bool
 | [],i1=>(k)
 | y1::rz1,i1=>(bif ((!(kE y1))||((dA l y1) != (i1:Int))) then false else (dI.L1 l k rz1 (i1+1)))
def dI (l:List ByteArray):Bool:=((dI.L1 l (dI.K1)) l 0)
def bC.K1  : Bool:=true
def bC.L1 (rec:List ByteArray→Expr→Bool) (offices:List ByteArray) (k:Bool):List Expr→Bool
 | []=>(k)
 | y1::rz1=>(bif (!(rec offices y1)) then false else (bC.L1 rec offices k rz1))
def bC.F (rec:List ByteArray→Expr→Bool) (offices:List ByteArray) (x:Expr):Bool:=(bif (((x.Kind==1)||(x.Kind==2))&&decide ((dA offices x.Name) < 0)) then false else ((bC.L1 rec offices (bC.K1)) x.L))
def bC.go:Nat→List ByteArray→Expr→Bool
 | 0=>fun _ _=>default
 | m+1=>bC.F (bC.go m)
def bC (offices:List ByteArray) (x:Expr):Bool:=bC.go x.dep offices x
def fH.K1 (p:Policy):Bool:=(bC p.Offices p.Change)
def fH.L1 (p:Policy) (k:Bool):List Rule→Bool
 | []=>(k)
 | y1::rz1=>(bif (!(bC p.Offices y1.Expr)) then false else (fH.L1 p k rz1))
def fH (p:Policy):Bool:=(bif (((!(kE p.Name))||(!(dI p.Offices)))||(!(dI p.Kinds))) then false else ((fH.L1 p (fH.K1 p)) p.Rules))
def aB.K1 (x:Expr) (upto:Bool):Bool:=(bif (x.Kind==1) then ((x.N==0)&&((x.L.length:Int)==0)) else (bif (x.Kind==2) then ((decide (1≤x.N)&&decide (x.N≤4096))&&((x.L.length:Int)==0)) else (bif (x.Kind==3) then (((((x.Name.toList==(⟨#[]⟩:ByteArray).toList)&&decide (1≤(x.L.length:Int)))&&decide ((x.L.length:Int)≤16))&&decide (1≤x.N))&&decide (x.N≤(x.L.length:Int))) else (bif (x.Kind==4) then ((((upto&&(x.Name.toList==(⟨#[]⟩:ByteArray).toList))&&((x.L.length:Int)==2))&&decide (0≤x.N))&&decide (x.N≤1099511627776)) else false))))
def aB.L1 (rec:Expr→Bool→Bool) (upto:Bool) (k:Bool):List Expr→Bool
 | []=>(k)
 | y1::rz1=>(bif (!(rec y1 upto)) then false else (aB.L1 rec upto k rz1))
def aB.F (rec:Expr→Bool→Bool) (x:Expr) (upto:Bool):Bool:=((aB.L1 rec upto (aB.K1 x upto)) x.L)
def aB.go:Nat→Expr→Bool→Bool
 | 0=>fun _ _=>default
 | m+1=>aB.F (aB.go m)
def aB (x:Expr) (upto:Bool):Bool:=aB.go x.dep x upto
def eX.K1 (p:Policy):Bool:=(aB p.Change false)
def eX.L1 (p:Policy) (k:Bool):List Rule→Nat→Bool
 | [],i1=>(k)
 | y1::rz1,i1=>(bif ((((!(y1.Kind.toList==(nthI p.Kinds (i1:Int)).toList))||decide (y1.Think < 0))||decide (1099511627776≤y1.Think))||(!(aB y1.Expr true))) then false else (eX.L1 p k rz1 (i1+1)))
def eX (p:Policy):Bool:=(bif (((decide ((p.Kinds.length:Int) < 1)||((p.Rules.length:Int) != (p.Kinds.length:Int)))||decide (p.Mode < 1))||decide (4 < p.Mode)) then false else ((eX.L1 p (eX.K1 p)) p.Rules 0))
def aa.K1 (offices:List ByteArray) (x:Expr) (iS:List Expr):Expr:=(Expr.mk x.Kind x.N (dA offices x.Name) x.Name iS)
def aa.L1 (rec:List ByteArray→Expr→Expr) (offices:List ByteArray) (k:List Expr→Expr):List Expr→List Expr→Expr
 | [],iS=>(k iS)
 | y1::rz1,iS=>(aa.L1 rec offices k rz1 (iS++[(rec offices y1)]))
def aa.K2 (x:Expr) (iR:List Expr):Expr:=(Expr.mk x.Kind x.N 0 x.Name iR)
def aa.L2 (rec:List ByteArray→Expr→Expr) (offices:List ByteArray) (k:List Expr→Expr):List Expr→List Expr→Expr
 | [],iR=>(k iR)
 | y2::rz2,iR=>(aa.L2 rec offices k rz2 (iR++[(rec offices y2)]))
def aa.F (rec:List ByteArray→Expr→Expr) (offices:List ByteArray) (x:Expr):Expr:=(bif ((x.Kind==1)||(x.Kind==2)) then ((aa.L1 rec offices (aa.K1 offices x)) x.L ([])) else ((aa.L2 rec offices (aa.K2 x)) x.L ([])))
def aa.go:Nat→List ByteArray→Expr→Expr
 | 0=>fun _ _=>default
 | m+1=>aa.F (aa.go m)
def aa (offices:List ByteArray) (x:Expr):Expr:=aa.go x.dep offices x
def df.K1 (p:Policy) (ka:List Rule):(Policy×Int):=((Policy.mk p.Name p.Kinds p.Offices ka (Expr.mk ((aa p.Offices p.Change).Kind) ((aa p.Offices p.Change).N) ((aa p.Offices p.Change).No) ((aa p.Offices p.Change).Name) ((aa p.Offices p.Change).L)) p.Mode),0)
def df.L1 (p:Policy) (k:List Rule→(Policy×Int)):List Rule→Nat→List Rule→(Policy×Int)
 | [],i1,ka=>(k ka)
 | y1::rz1,i1,ka=>(df.L1 p k rz1 (i1+1) (ka++[(Rule.mk y1.Kind (i1:Int) y1.Think (Expr.mk ((aa p.Offices y1.Expr).Kind) ((aa p.Offices y1.Expr).N) ((aa p.Offices y1.Expr).No) ((aa p.Offices y1.Expr).Name) ((aa p.Offices y1.Expr).L)))]))
def df (p:Policy):(Policy×Int):=(bif (el p) then ((Policy.mk (⟨#[]⟩:ByteArray) ([]) ([]) ([]) (Expr.mk 0 0 0 (⟨#[]⟩:ByteArray) ([])) 0),2) else (bif (!(fH p)) then ((Policy.mk (⟨#[]⟩:ByteArray) ([]) ([]) ([]) (Expr.mk 0 0 0 (⟨#[]⟩:ByteArray) ([])) 0),201) else (bif (!(eX p)) then ((Policy.mk (⟨#[]⟩:ByteArray) ([]) ([]) ([]) (Expr.mk 0 0 0 (⟨#[]⟩:ByteArray) ([])) 0),200) else ((df.L1 p (df.K1 p)) p.Rules 0 ([])))))
def dC.K1  : Bool:=true
def dC.L1 (gR:List ByteArray) (k:Bool):List ByteArray→Nat→Bool
 | [],i1=>(k)
 | y1::rz1,i1=>(bif (!(y1.toList==(nthI gR (i1:Int)).toList)) then false else (dC.L1 gR k rz1 (i1+1)))
def dC (a:List ByteArray) (gR:List ByteArray):Bool:=(bif ((a.length:Int) != (gR.length:Int)) then false else ((dC.L1 gR (dC.K1)) a 0))
def aX.K1  : Bool:=true
def aX.L1 (rec:Expr→Expr→Bool) (gR:Expr) (k:Bool):List Expr→Nat→Bool
 | [],i1=>(k)
 | y1::rz1,i1=>(bif (!(rec y1 (nthI gR.L (i1:Int)))) then false else (aX.L1 rec gR k rz1 (i1+1)))
def aX.F (rec:Expr→Expr→Bool) (a:Expr) (gR:Expr):Bool:=(bif (((((a.Kind != gR.Kind)||(a.N != gR.N))||(a.No != gR.No))||(!(a.Name.toList==gR.Name.toList)))||((a.L.length:Int) != (gR.L.length:Int))) then false else ((aX.L1 rec gR (aX.K1)) a.L 0))
def aX.go:Nat→Expr→Expr→Bool
 | 0=>fun _ _=>default
 | m+1=>aX.F (aX.go m)
def aX (a:Expr) (gR:Expr):Bool:=aX.go a.dep a gR
def fY.K1  : Bool:=true
def fY.L1 (gR:Policy) (k:Bool):List Rule→Nat→Bool
 | [],i1=>(k)
 | y1::rz1,i1=>(bif ((((!(y1.Kind.toList==(nthI gR.Rules (i1:Int)).Kind.toList))||(y1.KindNo != (nthI gR.Rules (i1:Int)).KindNo))||(y1.Think != (nthI gR.Rules (i1:Int)).Think))||(!(aX y1.Expr ((nthI gR.Rules (i1:Int)).Expr)))) then false else (fY.L1 gR k rz1 (i1+1)))
def fY (a:Policy) (gR:Policy):Bool:=(bif ((((((!(a.Name.toList==gR.Name.toList))||(a.Mode != gR.Mode))||(!(dC a.Offices gR.Offices)))||(!(dC a.Kinds gR.Kinds)))||((a.Rules.length:Int) != (gR.Rules.length:Int)))||(!(aX a.Change gR.Change))) then false else ((fY.L1 gR (fY.K1)) a.Rules 0))
def dX (p:Policy):Int:=(bif ((df p).2 != 0) then (df p).2 else (bif (!(fY ((df p).1) p)) then 200 else 0))
def cy.K1  : Int:=0
def cy.L1 (l:List Version) (k:Int):List Version→Nat→Int
 | [],i1=>(k)
 | y1::rz1,i1=>(bif (((((decide (y1.No < 0)||decide (1048576 < y1.No))||(decide (0 < (i1:Int))&&decide (y1.No≤(nthI l ((i1:Int) - 1)).No)))||(!(bM y1.At)))||(!(bM y1.Known)))||((dX y1.Policy) != 0)) then 200 else (cy.L1 l k rz1 (i1+1)))
def cy (l:List Version):Int:=(bif (decide (256 < (l.length:Int))) then 2 else ((cy.L1 l (cy.K1)) l 0))
def mp (t:Int):Bool:=(decide (0≤t)&&decide (t < 1099511627776))
def dN.K1 (l:List Int):Bool:=decide ((l.length:Int)≤16)
def dN.L1 (l:List Int) (limit:Int) (k:Bool):List Int→Nat→Bool
 | [],i1=>(k)
 | y1::rz1,i1=>(bif ((decide (y1 < 0)||decide (limit≤y1))||(decide (0 < (i1:Int))&&decide (y1≤(nthI l ((i1:Int) - 1))))) then false else (dN.L1 l limit k rz1 (i1+1)))
def dN (l:List Int) (limit:Int):Bool:=((dN.L1 l limit (dN.K1 l)) l 0)
def gL (d:Document):Bool:=(bif ((((((decide (d.No < 0)||decide (4096≤d.No))||(!(mp d.At)))||decide (d.Kind < 0))||decide (16≤d.Kind))||decide (d.Value < 0))||decide (1099511627776 < d.Value)) then false else (((((decide (0≤d.From)&&decide (d.From < d.Until))&&decide (d.Until≤1099511627776))&&(dN d.Parties 1048577))&&(dN d.Revokes d.No))&&(dN d.Needs d.No)))
def fy.K1  : Int:=(-1)
def fy.L1 (no:Int) (k:Int):List Document→Nat→Int
 | [],i1=>(k)
 | y1::rz1,i1=>(bif (y1.No==no) then (i1:Int) else (fy.L1 no k rz1 (i1+1)))
def fy (l:List Document) (no:Int):Int:=((fy.L1 no (fy.K1)) l 0)
def cE.K1  : Bool:=true
def cE.L1 (l:List Document) (k:Bool):List Int→Bool
 | []=>(k)
 | y1::rz1=>(bif (decide ((fy l y1) < 0)) then false else (cE.L1 l k rz1))
def cE (l:List Document) (nos:List Int):Bool:=((cE.L1 l (cE.K1)) nos)
def eU.K1  : Int:=0
def eU.L1 (l:List Document) (k:Int):List Document→Nat→Int
 | [],i1=>(k)
 | y1::rz1,i1=>(bif ((((!(gL y1))||(decide (0 < (i1:Int))&&decide (y1.No≤(nthI l ((i1:Int) - 1)).No)))||(!(cE l y1.Revokes)))||(!(cE l y1.Needs))) then 170 else (eU.L1 l k rz1 (i1+1)))
def eU (l:List Document):Int:=(bif (decide (4096 < (l.length:Int))) then 2 else ((eU.L1 l (eU.K1)) l 0))
def ft (dG:Int) (most:Int):Bool:=(decide (0≤dG)&&decide (dG≤most))
def lm (dG:Int):Bool:=(ft dG 1099511627775)
def oe (dG:Int):Bool:=(ft dG 4095)
def ic (x:Approval):Bool:=(bif ((((!(ft x.No 1048576))||(!(lm x.At)))||(!(lm x.Known)))||(!(oe x.Doc))) then false else (((ft x.By 63)&&(ft x.For 63))&&(ft x.Office 31)))
def fO.K1  : Int:=0
def fO.L1 (l:List Approval) (k:Int):List Approval→Nat→Int
 | [],i1=>(k)
 | y1::rz1,i1=>(bif ((!(ic y1))||(decide (0 < (i1:Int))&&decide (y1.No≤(nthI l ((i1:Int) - 1)).No))) then 280 else (fO.L1 l k rz1 (i1+1)))
def fO (l:List Approval):Int:=(bif (decide (4096 < (l.length:Int))) then 2 else ((fO.L1 l (fO.K1)) l 0))
def gJ (aT:Register):Int:=(bif (((((ff aT.Appoints) != 0)||((fQ aT.Deputies) != 0))||((e9 aT.Interests) != 0))||((fP aT.Budgets) != 0)) then 300 else (bif ((((cy aT.Versions) != 0)||((eU aT.Docs) != 0))||((fO aT.Approvals) != 0)) then 300 else 0))
def eD.K1  : Bool:=true
def eD.L1 (who:List Int) (k:Bool):List Int→Nat→Bool
 | [],i1=>(k)
 | y1::rz1,i1=>(bif ((decide (y1 < 0)||decide (64≤y1))||(decide (0 < (i1:Int))&&decide (y1≤(nthI who ((i1:Int) - 1))))) then false else (eD.L1 who k rz1 (i1+1)))
def eD (who:List Int):Bool:=((eD.L1 who (eD.K1)) who 0)
def iI.K1 (l:List Int) (t:Int) (i1:Nat):List Int:=(bif (decide ((i1:Int) < (l.length:Int))&&((nthI l (i1:Int))==t)) then l else (((l.take (((i1:Int):Int)).toNat)++[t])++(l.drop (((i1:Int):Int)).toNat)))
def iI.L1 (t:Int) (k:Nat→List Int):List Int→Nat→List Int
 | [],i1=>(k (i1))
 | y1::rz1,i1=>(bif (decide (y1 < t)) then (iI.L1 t k rz1 (i1+1)) else (k (i1)))
def iI (l:List Int) (t:Int):List Int:=(bif (!(bM t)) then l else ((iI.L1 t (iI.K1 l t)) l 0))
def aV.K1  : Version:=(Version.mk 0 0 0 (Policy.mk (⟨#[]⟩:ByteArray) ([]) ([]) ([]) (Expr.mk 0 0 0 (⟨#[]⟩:ByteArray) ([])) 0))
def aV.L1 (no:Int) (k:Version):List Version→Version
 | []=>(k)
 | y1::rz1=>(bif (y1.No==no) then y1 else (aV.L1 no k rz1))
def aV (aT:Register) (no:Int):Version:=((aV.L1 no (aV.K1)) aT.Versions)
def av.K1  (ky:Int):Int:=ky
def av.L1 (l:List Version) (fa:Int) (known:Int) (k:Int→Int):List Version→Nat→Int→Int
 | [],i1,ky=>(k ky)
 | y1::rz1,i1,ky=>(bif ((decide (y1.At≤fa)&&decide (y1.Known≤known))&&(decide (ky < 0)||decide ((nthI l ky).At≤y1.At))) then (av.L1 l fa known k rz1 (i1+1) (i1:Int)) else (av.L1 l fa known k rz1 (i1+1) ky))
def av (l:List Version) (fa:Int) (known:Int):Int:=((av.L1 l fa known (av.K1)) l 0 (-1))
def dx.K1 (l:List Int) (gM:Int) (i1:Nat):List Int:=(bif (decide ((i1:Int) < (l.length:Int))&&((nthI l (i1:Int))==gM)) then l else (((l.take (((i1:Int):Int)).toNat)++[gM])++(l.drop (((i1:Int):Int)).toNat)))
def dx.L1 (gM:Int) (k:Nat→List Int):List Int→Nat→List Int
 | [],i1=>(k (i1))
 | y1::rz1,i1=>(bif (decide (y1 < gM)) then (dx.L1 gM k rz1 (i1+1)) else (k (i1)))
def dx (l:List Int) (gM:Int):List Int:=((dx.L1 gM (dx.K1 l gM)) l 0)
def bj.K1  (jI:List Int):List Int:=jI
def bj.L1 (l:List Version) (begun:Int) (aO:Int) (known:Int) (k:List Int→List Int):List Version→List Int→List Int
 | [],jI=>(k jI)
 | y1::rz1,jI=>(bif ((decide (begun < y1.At)&&decide (y1.At≤aO))&&decide (0≤(av l y1.At known))) then (bj.L1 l begun aO known k rz1 (dx jI ((nthI l (av l y1.At known)).No))) else (bj.L1 l begun aO known k rz1 jI))
def bj.K2  (mQ:List Int):List Int:=mQ
def bj.L2 (l:List Version) (begun:Int) (aO:Int) (known:Int) (k:List Int→List Int):List Version→List Int→List Int
 | [],mQ=>(k mQ)
 | y2::rz2,mQ=>(bif ((decide (begun < y2.At)&&decide (y2.At≤aO))&&decide (0≤(av l y2.At known))) then (bj.L2 l begun aO known k rz2 (dx mQ ((nthI l (av l y2.At known)).No))) else (bj.L2 l begun aO known k rz2 mQ))
def bj (l:List Version) (begun:Int) (aO:Int) (known:Int):List Int:=(bif (decide (0≤(av l begun known))) then ((bj.L1 l begun aO known (bj.K1)) l (dx ([]) ((nthI l (av l begun known)).No))) else ((bj.L2 l begun aO known (bj.K2)) l ([])))
def cN (l:List Version) (begun:Int) (aO:Int) (known:Int):(List Int×Int×Int):=(bif ((cy l) != 0) then ([],0,(cy l)) else (bif ((((!(bM begun))||(!(bM aO)))||(!(bM known)))||decide (aO < begun)) then ([],0,1) else (bif (decide ((av l aO known) < 0)) then ([],0,0) else (bif ((nthI l (av l aO known)).Policy.Mode==1) then (bif (decide ((av l begun known) < 0)) then ([],(nthI l (av l aO known)).Policy.Mode,0) else ([(nthI l (av l begun known)).No],(nthI l (av l aO known)).Policy.Mode,0)) else (bif ((nthI l (av l aO known)).Policy.Mode==2) then ([(nthI l (av l aO known)).No],(nthI l (av l aO known)).Policy.Mode,0) else ((bj l begun aO known),(nthI l (av l aO known)).Policy.Mode,0))))))
def iA (x:Appoint) (fa:Int) (known:Int):Bool:=(decide (x.At≤fa)&&decide (x.Known≤known))
def cz.K1  (eV:Int):Int:=eV
def cz.L1 (l:List Appoint) (office:Int) (person:Int) (aW:Int) (known:Int) (k:Int→Int):List Appoint→Nat→Int→Int
 | [],i1,eV=>(k eV)
 | y1::rz1,i1,eV=>(bif ((((y1.Office==office)&&(y1.Person==person))&&(iA y1 aW known))&&(decide (eV < 0)||decide ((nthI l eV).At≤y1.At))) then (cz.L1 l office person aW known k rz1 (i1+1) (i1:Int)) else (cz.L1 l office person aW known k rz1 (i1+1) eV))
def cz (l:List Appoint) (office:Int) (person:Int) (aW:Int) (known:Int):Int:=((cz.L1 l office person aW known (cz.K1)) l 0 (-1))
def bu.K1  (eV:List Holder):(List Holder×Int):=(eV,0)
def bu.L1 (l:List Appoint) (office:Int) (aO:Int) (known:Int) (k:List Holder→(List Holder×Int)):List Nat→Nat→List Holder→(List Holder×Int)
 | [],i1,eV=>(k eV)
 | y1::rz1,i1,eV=>(bif (decide (0≤(cz l office (i1:Int) aO known))&&(!((nthI l (cz l office (i1:Int) aO known)).Gone))) then (bu.L1 l office aO known k rz1 (i1+1) (eV++[(Holder.mk (i1:Int) ((nthI l (cz l office (i1:Int) aO known)).Weight))])) else (bu.L1 l office aO known k rz1 (i1+1) eV))
def bu (l:List Appoint) (office:Int) (aO:Int) (known:Int):(List Holder×Int):=(bif ((ff l) != 0) then ([],(ff l)) else (bif (((!(jz office))||(!(iz aO)))||(!(iz known))) then ([],1) else ((bu.L1 l office aO known (bu.K1)) (List.range 64) 0 ([]))))
def cZ.L2 (holders:List (List Holder)) (k:Bool):List Holder→Nat→Bool
 | [],i2=>(k)
 | y2::rz2,i2=>(bif ((((decide (y2.Person < 0)||decide (64≤y2.Person))||decide (y2.Weight < 1))||decide (64 < y2.Weight))||(decide (0 < (i2:Int))&&decide (y2.Person≤(nthI (nthI holders 0) ((i2:Int) - 1)).Person))) then false else (cZ.L2 holders k rz2 (i2+1)))
def cZ.L3 (y1:List Holder) (k:Bool):List Holder→Nat→Bool
 | [],i3=>(k)
 | y3::rz3,i3=>(bif ((((decide (y3.Person < 0)||decide (64≤y3.Person))||decide (y3.Weight < 1))||decide (64 < y3.Weight))||(decide (0 < (i3:Int))&&decide (y3.Person≤(nthI y1 ((i3:Int) - 1)).Person))) then false else (cZ.L3 y1 k rz3 (i3+1)))
def cZ.K1  : Bool:=true
def cZ.L1  (k:Bool):List (List Holder)→Bool
 | []=>(k)
 | y1::rz1=>((cZ.L3 y1 ((cZ.L1  k rz1))) y1 0)
def cZ (holders:List (List Holder)) (offices:Int):Bool:=(bif ((holders.length:Int) != offices) then false else ((cZ.L1 (cZ.K1)) holders))
def ie.K1  : Bool:=false
def ie.L1 (gM:Int) (k:Bool):List Int→Bool
 | []=>(k)
 | y1::rz1=>(bif (y1==gM) then true else (ie.L1 gM k rz1))
def ie (who:List Int) (gM:Int):Bool:=((ie.L1 gM (ie.K1)) who)
def bd.K1 (x:Expr) (jI:Int):Bool:=((x.Kind==2)&&decide (x.N≤jI))
def bd.L1 (who:List Int) (k:Int→Bool):List Holder→Int→Bool
 | [],jI=>(k jI)
 | y1::rz1,jI=>(bif ((ie who y1.Person)&&true) then true else (bif (ie who y1.Person) then (bd.L1 who k rz1 (IntKind.wrap .i64 (jI+y1.Weight))) else (bd.L1 who k rz1 jI)))
def bd.K2 (x:Expr) (mQ:Int):Bool:=decide (x.N≤mQ)
def bd.L2 (rec:Expr→Int→(List (List Holder))→List Int→Bool) (value:Int) (holders:List (List Holder)) (who:List Int) (k:Int→Bool):List Expr→Int→Bool
 | [],mQ=>(k mQ)
 | y2::rz2,mQ=>(bif (rec y2 value holders who) then (bd.L2 rec value holders who k rz2 (IntKind.wrap .i64 (mQ+1))) else (bd.L2 rec value holders who k rz2 mQ))
def bd.K3 (x:Expr) (yr:Int):Bool:=decide (x.N≤yr)
def bd.L3 (who:List Int) (k:Int→Bool):List Holder→Int→Bool
 | [],yr=>(k yr)
 | y3::rz3,yr=>(bif ((ie who y3.Person)&&false) then true else (bif (ie who y3.Person) then (bd.L3 who k rz3 (IntKind.wrap .i64 (yr+y3.Weight))) else (bd.L3 who k rz3 yr)))
def bd.K4 (x:Expr) (yq:Int):Bool:=decide (x.N≤yq)
def bd.L4 (rec:Expr→Int→(List (List Holder))→List Int→Bool) (value:Int) (holders:List (List Holder)) (who:List Int) (k:Int→Bool):List Expr→Int→Bool
 | [],yq=>(k yq)
 | y4::rz4,yq=>(bif (rec y4 value holders who) then (bd.L4 rec value holders who k rz4 (IntKind.wrap .i64 (yq+1))) else (bd.L4 rec value holders who k rz4 yq))
def bd.F (rec:Expr→Int→(List (List Holder))→List Int→Bool) (x:Expr) (value:Int) (holders:List (List Holder)) (who:List Int):Bool:=(bif (x.Kind==1) then (bif (x.Kind==1) then ((bd.L1 who (bd.K1 x)) (nthI holders x.No) 0) else (bif (x.Kind==3) then ((bd.L2 rec value holders who (bd.K2 x)) x.L 0) else (bif (decide (value≤x.N)) then (rec (nthI x.L 0) value holders who) else (rec (nthI x.L 1) value holders who)))) else (bif (x.Kind==2) then ((bd.L3 who (bd.K3 x)) (nthI holders x.No) 0) else (bif (x.Kind==3) then ((bd.L4 rec value holders who (bd.K4 x)) x.L 0) else (bif (decide (value≤x.N)) then (rec (nthI x.L 0) value holders who) else (rec (nthI x.L 1) value holders who)))))
def bd.go:Nat→Expr→Int→(List (List Holder))→List Int→Bool
 | 0=>fun _ _ _ _=>default
 | m+1=>bd.F (bd.go m)
def bd (x:Expr) (value:Int) (holders:List (List Holder)) (who:List Int):Bool:=bd.go x.dep x value holders who
def fJ (p:Policy) (kind:Int) (value:Int) (holders:List (List Holder)) (who:List Int):(Bool×Int):=(bif ((dX p) != 0) then (false,(dX p)) else (bif (((decide (kind < 0)||decide ((p.Kinds.length:Int)≤kind))||decide (value < 0))||decide (1099511627776 < value)) then (false,1) else (bif (!(cZ holders (p.Offices.length:Int))) then (false,210) else (bif (!(eD who)) then (false,1) else ((bd ((nthI p.Rules kind).Expr) value holders who),0)))))
def eA.K1 (l:List Int):Bool:=decide ((l.length:Int)≤16)
def eA.L1 (l:List Int) (k:Bool):List Int→Nat→Bool
 | [],i1=>(k)
 | y1::rz1,i1=>(bif ((!(gz y1))||(decide (0 < (i1:Int))&&decide (y1≤(nthI l ((i1:Int) - 1))))) then false else (eA.L1 l k rz1 (i1+1)))
def eA (l:List Int):Bool:=((eA.L1 l (eA.K1 l)) l 0)
def gK (l:List Interest) (who:Int) (parties:List Int) (aW:Int) (known:Int):Int:=(bif ((e9 l) != 0) then (e9 l) else (bif ((((!(jR who))||(!(eA parties)))||(!(iw aW)))||(!(iw known))) then 1 else 0))
def fS (x:Interest) (fa:Int) (known:Int):Bool:=(decide (x.At≤fa)&&decide (x.Known≤known))
def iM (a:Interest) (gR:Interest):Bool:=(((a.Person==gR.Person)&&(a.Party==gR.Party))&&(a.Of==gR.Of))
def eR.K1  : Bool:=true
def eR.L1 (x:Interest) (aO:Int) (known:Int) (k:Bool):List Interest→Bool
 | []=>(k)
 | y1::rz1=>(bif (((iM y1 x)&&(fS y1 aO known))&&(decide (x.At < y1.At)||((y1.At==x.At)&&decide (x.No < y1.No)))) then false else (eR.L1 x aO known k rz1))
def eR (l:List Interest) (x:Interest) (aO:Int) (known:Int):Bool:=(bif (x.Gone||(!(fS x aO known))) then false else ((eR.L1 x aO known (eR.K1)) l))
def cu.K1  (ky:List Interest):List Interest:=ky
def cu.L1 (l:List Interest) (fa:Int) (known:Int) (k:List Interest→List Interest):List Interest→List Interest→List Interest
 | [],ky=>(k ky)
 | y1::rz1,ky=>(bif (eR l y1 fa known) then (cu.L1 l fa known k rz1 (ky++[y1])) else (cu.L1 l fa known k rz1 ky))
def cu (l:List Interest) (fa:Int) (known:Int):List Interest:=((cu.L1 l fa known (cu.K1)) l ([]))
def rwPut (l:List dJ) (x:dJ):List dJ:=bif l.any (fun w=>w.To==x.To) then l else l++[x]
def iJ.K1  : Bool:=false
def iJ.L1 (gM:Int) (k:Bool):List Int→Bool
 | []=>(k)
 | y1::rz1=>(bif (y1==gM) then true else (iJ.L1 gM k rz1))
def iJ (l:List Int) (gM:Int):Bool:=((iJ.L1 gM (iJ.K1)) l)
def br.L3 (i2:Nat) (k:List dJ→(List Int×Bool×Int)):List Interest→List dJ→(List Int×Bool×Int)
 | [],eO=>(k eO)
 | y3::rz3,eO=>(bif (y3.Of&&(y3.Person==(nthI eO (i2:Int)).To)) then (br.L3 i2 k rz3 (rwPut eO (dJ.mk ((nthI eO (i2:Int)).gT++[y3.No]) y3.Party))) else (br.L3 i2 k rz3 eO))
def br.K2  (i2:Nat) (jY:List dJ):(List Int×Bool×Int):=([],false,0)
def br.L2 (l:List Interest) (parties:List Int) (aW:Int) (known:Int) (k:Nat→List dJ→(List Int×Bool×Int)):Nat→Nat→List dJ→(List Int×Bool×Int)
 | 0,i2,jY=>k i2 jY
 | rz2+1,i2,jY=>(bif decide ((i2:Int) < (jY.length:Int)) then (bif (iJ parties ((nthI jY (i2:Int)).To)) then ((nthI jY (i2:Int)).gT,true,0) else (bif ((((nthI jY (i2:Int)).gT.length:Nat):Int)==8) then (br.L2 l parties aW known k rz2 (i2+1) jY) else ((br.L3 i2 (fun zg3_15=>(br.L2 l parties aW known k rz2 (i2+1) zg3_15))) (cu l aW known) jY))) else k i2 jY)
def br.K1 (l:List Interest) (parties:List Int) (aW:Int) (known:Int) (qk:List dJ):(List Int×Bool×Int):=((br.L2 l parties aW known (br.K2)) (l.length+1) 0 qk)
def br.L1 (who:Int) (k:List dJ→(List Int×Bool×Int)):List Interest→List dJ→(List Int×Bool×Int)
 | [],qk=>(k qk)
 | y1::rz1,qk=>(bif ((!y1.Of)&&(y1.Person==who)) then (br.L1 who k rz1 (rwPut qk (dJ.mk ([y1.No]) y1.Party))) else (br.L1 who k rz1 qk))
def br (l:List Interest) (who:Int) (parties:List Int) (aW:Int) (known:Int):(List Int×Bool×Int):=(bif ((gK l who parties aW known) != 0) then ([],false,(gK l who parties aW known)) else ((br.L1 who (br.K1 l parties aW known)) (cu l aW known) ([])))
def fp.K1  (eV:List Int):List Int:=eV
def fp.L1 (aT:Register) (d:Document) (aW:Int) (known:Int) (k:List Int→List Int):List Int→List Int→List Int
 | [],eV=>(k eV)
 | y1::rz1,eV=>(bif (!((br aT.Interests y1 d.Parties aW known).2.1)) then (fp.L1 aT d aW known k rz1 (eV++[y1])) else (fp.L1 aT d aW known k rz1 eV))
def fp (aT:Register) (d:Document) (who:List Int) (aW:Int) (known:Int):List Int:=((fp.L1 aT d aW known (fp.K1)) who ([]))
def eS.K1 (aT:Register) (p:Policy) (d:Document) (who:List Int) (mF:Int) (known:Int) (un:List (List Holder)):Bool:=(fJ p d.Kind d.Value un (fp aT d who mF known)).1
def eS.L1 (aT:Register) (mF:Int) (known:Int) (k:(List (List Holder))→Bool):List ByteArray→Nat→(List (List Holder))→Bool
 | [],i1,un=>(k un)
 | y1::rz1,i1,un=>(eS.L1 aT mF known k rz1 (i1+1) (un++[(bu aT.Appoints (i1:Int) mF known).1]))
def eS (aT:Register) (p:Policy) (d:Document) (who:List Int) (mF:Int) (known:Int):Bool:=(bif (decide ((p.Kinds.length:Int)≤d.Kind)||decide (mF < (d.At+(nthI p.Rules d.Kind).Think))) then false else ((eS.L1 aT mF known (eS.K1 aT p d who mF known)) p.Offices 0 ([])))
def jS (mode:Int) (permits:List Bool):Int:=(bif (decide (mode < 1)||decide (4 < mode)) then 270 else (bif (decide (256 < (permits.length:Int))) then 1 else 0))
def eu.K1  : Int:=(-1)
def eu.L1 (so:Bool) (k:Int):List Bool→Nat→Int
 | [],i1=>(k)
 | y1::rz1,i1=>(bif (y1==so) then (i1:Int) else (eu.L1 so k rz1 (i1+1)))
def eu (permits:List Bool) (so:Bool):Int:=((eu.L1 so (eu.K1)) permits 0)
def jD (mode:Int) (permits:List Bool):Bool:=(bif (mode==3) then (decide (0 < (permits.length:Int))&&decide ((eu permits false) < 0)) else (bif (mode==4) then decide (0≤(eu permits true)) else (((permits.length:Int)==1)&&(nthI permits 0))))
def iy (mode:Int) (permits:List Bool):(Bool×Int):=(bif ((jS mode permits) != 0) then (false,(jS mode permits)) else ((jD mode permits),0))
def gm.K1 (aT:Register) (d:Document) (aW:Int) (known:Int) (um:List Bool):Bool:=(iy ((cN aT.Versions d.At aW known).2.1) um).1
def gm.L1 (aT:Register) (d:Document) (who:List Int) (aW:Int) (known:Int) (k:List Bool→Bool):List Int→List Bool→Bool
 | [],um=>(k um)
 | y1::rz1,um=>(gm.L1 aT d who aW known k rz1 (um++[(eS aT ((aV aT y1).Policy) d who aW known)]))
def gm (aT:Register) (d:Document) (who:List Int) (aW:Int) (known:Int):Bool:=(bif (decide (aW < d.At)||decide (d.Until≤aW)) then false else ((gm.L1 aT d who aW known (gm.K1 aT d aW known)) ((cN aT.Versions d.At aW known).1) ([])))
def cd.K1 (l:List Int) (gM:Int) (i1:Nat):List Int:=(bif (decide ((i1:Int) < (l.length:Int))&&((nthI l (i1:Int))==gM)) then l else (((l.take (((i1:Int):Int)).toNat)++[gM])++(l.drop (((i1:Int):Int)).toNat)))
def cd.L1 (gM:Int) (k:Nat→List Int):List Int→Nat→List Int
 | [],i1=>(k (i1))
 | y1::rz1,i1=>(bif (decide (y1 < gM)) then (cd.L1 gM k rz1 (i1+1)) else (k (i1)))
def cd (l:List Int) (gM:Int):List Int:=((cd.L1 gM (cd.K1 l gM)) l 0)
def ba.L3 (person:Int) (k:List Int→List Int):List Holder→List Int→List Int
 | [],Gh=>(k Gh)
 | y3::rz3,Gh=>(bif (y3.Person != person) then (ba.L3 person k rz3 (cd Gh y3.Person)) else (ba.L3 person k rz3 Gh))
def ba.L4 (person:Int) (k:List Int→List Int):List Holder→List Int→List Int
 | [],Gd=>(k Gd)
 | y4::rz4,Gd=>(bif (y4.Person != person) then (ba.L4 person k rz4 (cd Gd y4.Person)) else (ba.L4 person k rz4 Gd))
def ba.L2 (aT:Register) (person:Int) (aW:Int) (known:Int) (k:List Int→List Int):List ByteArray→Nat→List Int→List Int
 | [],i2,IM=>(k IM)
 | y2::rz2,i2,IM=>((ba.L4 person (fun zg4_11=>(ba.L2 aT person aW known k rz2 (i2+1) zg4_11))) ((bu aT.Appoints (i2:Int) aW known).1) IM)
def ba.L7 (person:Int) (k:List Int→List Int):List Holder→List Int→List Int
 | [],lO=>(k lO)
 | y7::rz7,lO=>(bif (y7.Person != person) then (ba.L7 person k rz7 (cd lO y7.Person)) else (ba.L7 person k rz7 lO))
def ba.L5 (aT:Register) (person:Int) (aW:Int) (known:Int) (k:List Int→List Int):List ByteArray→Nat→List Int→List Int
 | [],i5,oL=>(k oL)
 | y5::rz5,i5,oL=>((ba.L7 person (fun zg7_11=>(ba.L5 aT person aW known k rz5 (i5+1) zg7_11))) ((bu aT.Appoints (i5:Int) aW known).1) oL)
def ba.K1  (eV:List Int):List Int:=eV
def ba.L1 (aT:Register) (person:Int) (aW:Int) (known:Int) (k:List Int→List Int):List Int→List Int→List Int
 | [],eV=>(k eV)
 | y1::rz1,eV=>((ba.L5 aT person aW known (fun zg5_11=>(ba.L1 aT person aW known k rz1 zg5_11))) (((aV aT y1).Policy).Offices) 0 eV)
def ba (aT:Register) (d:Document) (person:Int) (aW:Int) (known:Int):List Int:=(bif (decide (aW < d.At)) then [] else ((ba.L1 aT person aW known (ba.K1)) ((cN aT.Versions d.At aW known).1) ([])))
def kT (aT:Register) (doc:Int) (person:Int) (aW:Int) (known:Int):Bool:=(bif (((((gJ aT) != 0)||decide ((bq aT doc) < 0))||(!(bM aW)))||(!(bM known))) then true else (decide ((((ba aT (nthI aT.Docs (bq aT doc)) person aW known).length:Nat):Int)≤7)||decide (12 < (((ba aT (nthI aT.Docs (bq aT doc)) person aW known).length:Nat):Int))))
def aU.L2 (people:List Int) (k:(List (List Int))→(List (List Int))):List (List Int)→(List (List Int))→(List (List Int))
 | [],KI=>(k KI)
 | y2::rz2,KI=>(aU.L2 people k rz2 (KI++[([(nthI people 0)]++y2)]))
def aU.L3 (people:List Int) (i1:Nat) (k:(List (List Int))→(List (List Int))):List (List Int)→(List (List Int))→(List (List Int))
 | [],EA=>(k EA)
 | y3::rz3,EA=>(aU.L3 people i1 k rz3 (EA++[([(nthI people (i1:Int))]++y3)]))
def aU.K1  (gZ:List (List Int)):(List (List Int)):=gZ
def aU.L1 (rec:List Int→Int→(List (List Int))) (people:List Int) (many:Int) (k:(List (List Int))→(List (List Int))):List Nat→Nat→(List (List Int))→(List (List Int))
 | [],i1,gZ=>(k gZ)
 | y1::rz1,i1,gZ=>((aU.L3 people i1 (fun zg3_5=>(aU.L1 rec people many k rz1 (i1+1) zg3_5))) (rec (people.drop (((((i1+1):Nat):Int):Int)).toNat) (many - 1)) gZ)
def aU.F (rec:List Int→Int→(List (List Int))) (people:List Int) (many:Int):(List (List Int)):=(bif (many==0) then [[]] else ((aU.L1 rec people many (aU.K1)) (List.range (people.length+1 - (many:Int).toNat)) 0 ([])))
def aU.go:Nat→List Int→Int→(List (List Int))
 | 0=>fun _ _=>default
 | m+1=>aU.F (aU.go m)
def aU (people:List Int) (many:Int):(List (List Int)):=aU.go (many.toNat+1) people many
def cg.L2 (aT:Register) (doc:Int) (person:Int) (aW:Int) (known:Int) (k:(List Int×Bool×Int)):List (List Int)→(List Int×Bool×Int)
 | []=>(k)
 | y2::rz2=>(bif (gm aT (nthI aT.Docs (bq aT doc)) (cd y2 person) aW known) then (y2,true,0) else (cg.L2 aT doc person aW known k rz2))
def cg.L3 (aT:Register) (doc:Int) (person:Int) (aW:Int) (known:Int) (k:(List Int×Bool×Int)):List (List Int)→(List Int×Bool×Int)
 | []=>(k)
 | y3::rz3=>(bif (gm aT (nthI aT.Docs (bq aT doc)) (cd y3 person) aW known) then (y3,true,0) else (cg.L3 aT doc person aW known k rz3))
def cg.K1  : (List Int×Bool×Int):=([],false,0)
def cg.L1 (aT:Register) (doc:Int) (person:Int) (aW:Int) (known:Int) (k:(List Int×Bool×Int)):List Nat→Nat→(List Int×Bool×Int)
 | [],i1=>(k)
 | y1::rz1,i1=>((cg.L3 aT doc person aW known ((cg.L1 aT doc person aW known k rz1 (i1+1)))) (aU (ba aT (nthI aT.Docs (bq aT doc)) person aW known) (i1:Int)))
def cg (aT:Register) (doc:Int) (person:Int) (aW:Int) (known:Int):(List Int×Bool×Int):=(bif ((gJ aT) != 0) then ([],false,300) else (bif ((((decide ((bq aT doc) < 0)||decide (person < 0))||decide (64≤person))||(!(bM aW)))||(!(bM known))) then ([],false,1) else (bif (decide (12 < (((ba aT (nthI aT.Docs (bq aT doc)) person aW known).length:Nat):Int))) then ([],false,2) else ((cg.L1 aT doc person aW known (cg.K1)) (List.range ((ba aT (nthI aT.Docs (bq aT doc)) person aW known).length+1)) 0))))
def eT.K1  : Bool:=true
def eT.L1 (gR:List Int) (k:Bool):List Int→Nat→Bool
 | [],i1=>(k)
 | y1::rz1,i1=>(bif (y1 != (nthI gR (i1:Int))) then false else (eT.L1 gR k rz1 (i1+1)))
def eT (a:List Int) (gR:List Int):Bool:=(bif ((a.length:Int) != (gR.length:Int)) then false else ((eT.L1 gR (eT.K1)) a 0))
def jb (aT:Register) (doc:Int) (person:Int) (aW:Int) (known:Int):Bool:=(bif (!oE) then false else (bif ((!(jL aT))||(!(kT aT doc person aW known))) then true else (((eT ((dP aT doc person aW known).1) ((cg aT doc person aW known).1))&&((dP aT doc person aW known).2.1==(cg aT doc person aW known).2.1))&&((dP aT doc person aW known).2.2==(cg aT doc person aW known).2.2))))
theorem wrap64 {z:Int} (h:-9223372036854775808≤z∧z≤9223372036854775807):IntKind.i64.wrap z=z:=by
 have:=gG h;injection this
theorem Expr.eta (x:Expr):Expr.mk x.Kind x.N x.No x.Name x.L=x:=by cases x;rfl
theorem Expr.ind {P:Expr→Prop} (h:∀ x,(∀ y∈x.L,P y)→P x) (x:Expr):P x:=by
 have key:∀ n (x:Expr),x.dep≤n→P x:=by
  intro n
  induction n with
  | zero=>intro x hx;have:=Expr.jH x;omega
  | succ n ih=>intro x hx;exact h x fun y hy=>ih y (by have:=Expr.gj hy;omega)
 exact key _ x (Nat.le_refl _)
theorem DY (k:List fx):∀ l,aF.L3 k l=l++k
 | []=>rfl
 | y::l=>by simp [aF.L3,DY k l]
theorem DZ (rec:Expr→Int→List fx) (d:Int):∀ l,aF.L1 rec d [] l=l.flatMap (fun y=>rec y (d+1))
 | []=>rfl
 | y::l=>by simp [aF.L1,DY,DZ rec d l]
theorem CN (rec:Expr→Int→List fx) (x:Expr) (d:Int):aF.F rec x d=⟨x,d⟩::x.L.flatMap (fun y=>rec y (d+1)):=by
 simp [aF.F,aF.K1,DZ,Expr.eta]
theorem uV {α β : Type} {f g:α→List β}:∀ {l:List α},(∀ y∈l,f y=g y)→l.flatMap f=l.flatMap g
 | [],_=>rfl
 | y::l,h=>by
  rw [List.flatMap_cons,List.flatMap_cons,h y (List.mem_cons_self ..),uV fun z hz=>h z (List.mem_cons_of_mem _ hz)]
theorem DX (m:Nat):∀ (x:Expr) (d:Int),x.dep≤m→aF.go m x d=a8 x d:=by
 induction m using Nat.strongRecOn with
 | _ m ih=>
  intro x d hx
  unfold a8
  have hp:=Expr.jH x
  obtain ⟨m',rfl⟩:∃ m',m=m'+1:=⟨m - 1,by omega⟩
  obtain ⟨n,hn⟩:∃ n,x.dep=n+1:=⟨x.dep - 1,by omega⟩
  rw [hn]
  show aF.F (aF.go m') x d=aF.F (aF.go n) x d
  rw [CN,CN]
  congr 1
  refine uV fun y hy=>?_
  have:=Expr.gj hy
  rw [ih m' (by omega) y _ (by omega),ih n (by omega) y _ (by omega)]
theorem ls (x:Expr) (d:Int):a8 x d=⟨x,d⟩::x.L.flatMap (fun y=>a8 y (d+1)):=by
 have hp:=Expr.jH x
 obtain ⟨n,hn⟩:∃ n,x.dep=n+1:=⟨x.dep - 1,by omega⟩
 rw [← DX x.dep x d (Nat.le_refl _),hn]
 show aF.F (aF.go n) x d=_
 rw [CN]
 congr 1
 exact uV fun y hy=>DX n y _ (by have:=Expr.gj hy;omega)
theorem BP (Q:Expr→Prop) (x:Expr):∀ d d',(∀ z∈a8 x d,Q z.x)→∀ z∈a8 x d',Q z.x:=by
 refine Expr.ind (P:=fun x=>∀ d d',(∀ z∈a8 x d,Q z.x)→∀ z∈a8 x d',Q z.x) ?_ x
 intro x ih d d' h z hz
 rw [ls] at h hz
 rcases List.mem_cons.1 hz with rfl | hz
 ·exact h ⟨x,d⟩ (List.mem_cons_self ..)
 ·obtain ⟨y,hy,hz⟩:=List.mem_flatMap.1 hz
  exact ih y hy (d+1) (d'+1) (fun z' hz'=>h z' (List.mem_cons_of_mem _ (List.mem_flatMap.2 ⟨y,hy,hz'⟩))) z hz
theorem ni (Q:Expr→Prop) (x:Expr) (d:Int):(∀ z∈a8 x d,Q z.x)↔Q x∧∀ y∈x.L,∀ z∈a8 y d,Q z.x:=by
 constructor
 ·intro h
  rw [ls] at h
  exact ⟨h ⟨x,d⟩ (List.mem_cons_self ..),fun y hy=>BP Q y (d+1) d fun z hz=>h z (List.mem_cons_of_mem _ (List.mem_flatMap.2 ⟨y,hy,hz⟩))⟩
 ·rintro ⟨h1,h2⟩ z hz
  rw [ls] at hz
  rcases List.mem_cons.1 hz with rfl | hz
  ·exact h1
  ·obtain ⟨y,hy,hz⟩:=List.mem_flatMap.1 hz
   exact BP Q y d (d+1) (h2 y hy) z hz
def NZ (x:Except Int Unit):Prop:=∀ e,x=.error e→e≠0
theorem NZ.ok:NZ (.ok ()):=fun _ h=>by cases h
theorem NZ.must {c:Bool} {e:Int} (he:e≠0):NZ (dW c e):=fun e' h=>by
 cases c with
 | true=>simp [dW] at h
 | false=>simp [dW] at h;omega
theorem NZ.exi {x:Except Int Unit} {f:Unit→Except Int Unit} (hx:NZ x) (hf:NZ (f ())):NZ (Sg.exi x f):=by
 cases x with
 | ok u=>exact hf
 | error e=>exact fun e' h=>hx e' h
theorem Cm {x:Except Int Unit} (h:NZ x):attR x=0↔x=.ok ():=by
 cases x with
 | ok u=>simp [attR]
 | error e=>simp only [attR,reduceCtorEq,iff_false];exact h e rfl
theorem nj {c:Bool} {e:Int} {f:Unit→Except Int Unit}:exi (dW c e) f=.ok ()↔c=true∧f ()=.ok ():=by
 cases c <;> simp [dW,exi]
theorem EL (p:Policy):∀ (l:List Rule) (g:List Expr),ai.L1 (ai.K1 p) l g=g++(l.map (·.Expr)++[p.Change])
 | [],g=>by simp [ai.L1,ai.K1]
 | y::l,g=>by simp [ai.L1,EL p l]
theorem kv (p:Policy):ai p=p.Rules.map (·.Expr)++[p.Change]:=by
 unfold ai;rw [EL];simp
theorem DA (k:Int→Except Int Unit) (hk:∀ a b,k a=k b):∀ (l:List fx) (g:Int),0≤g→g≤256→(bW.L3 k l g=.ok ()↔(g+l.length≤256∧∀ z∈l,z.depth≤16)∧k 0=.ok ())
 | [],g,h0,h1=>by simp only [bW.L3,hk g 0,List.length_nil,List.not_mem_nil];simp;omega
 | y::l,g,h0,h1=>by
  simp only [bW.L3,nj,Bool.and_eq_true,decide_eq_true_eq,wrap64 (z:=g+1) (by omega),List.length_cons,List.mem_cons]
  by_cases h:g+1≤256
  ·rw [DA k hk l (g+1) (by omega) h]
   constructor
   ·rintro ⟨⟨_,h3⟩,⟨h4,h5⟩,h6⟩
    refine ⟨⟨by omega,fun z hz=>?_⟩,h6⟩
    rcases hz with rfl | hz
    ·exact h3
    ·exact h5 z hz
   ·rintro ⟨⟨h4,h5⟩,h6⟩
    exact ⟨⟨h,h5 y (.inl rfl)⟩,⟨by omega,fun z hz=>h5 z (.inr hz)⟩,h6⟩
  ·constructor
   ·rintro ⟨⟨h3,_⟩,_⟩;exact absurd h3 h
   ·rintro ⟨⟨h4,_⟩,_⟩;omega
theorem DB:∀ (l:List Expr),bW.L1 (.ok ()) l=.ok ()↔∀ x∈l,(a8 x 1).length≤256∧∀ z∈a8 x 1,z.depth≤16
 | []=>by simp [bW.L1]
 | y::l=>by
  simp only [bW.L1]
  rw [DA _ (fun _ _=>rfl) _ 0 (by omega) (by omega),DB l]
  simp only [List.mem_cons,forall_eq_or_imp]
  constructor
  ·rintro ⟨⟨a,b⟩,c⟩;exact ⟨⟨by omega,b⟩,c⟩
  ·rintro ⟨⟨a,b⟩,c⟩;exact ⟨⟨by omega,b⟩,c⟩
theorem vp (p:Policy):bW p=.ok ()↔(p.Offices.length≤32∧p.Kinds.length≤16∧p.Rules.length≤16)∧∀ x∈ai p,(a8 x 1).length≤256∧∀ z∈a8 x 1,z.depth≤16:=by
 unfold bW bW.K1
 rw [nj,DB]
 simp only [Bool.and_eq_true,decide_eq_true_eq]
 constructor
 ·rintro ⟨⟨⟨a,b⟩,c⟩,d⟩;exact ⟨⟨by omega,by omega,by omega⟩,d⟩
 ·rintro ⟨⟨a,b,c⟩,d⟩;exact ⟨⟨⟨by omega,by omega⟩,by omega⟩,d⟩
theorem HZ (p:Policy):NZ (bW p):=by
 have h3:∀ (k:Int→Except Int Unit),(∀ a,NZ (k a))→∀ l g,NZ (bW.L3 k l g):=by
  intro k hk l
  induction l with
  | nil=>exact fun g=>hk g
  | cons y l ih=>exact fun g=>NZ.exi (NZ.must (by omega)) (ih _)
 have h1:∀ l,NZ (bW.L1 (.ok ()) l):=by
  intro l
  induction l with
  | nil=>exact NZ.ok
  | cons y l ih=>exact h3 _ (fun _=>ih) _ _
 exact NZ.exi (NZ.must (by omega)) (h1 _)
theorem D4 (p:Policy) (k:Except Int Unit):∀ l,bX.L3 p k l=.ok ()↔(∀ z∈l,((!(cC z.x))||cr p.Offices z.x.Name)=true)∧k=.ok ()
 | []=>by simp [bX.L3]
 | y::l=>by simp only [bX.L3,nj,D4 p k l,List.mem_cons,forall_eq_or_imp,and_assoc]
theorem D5 (p:Policy):∀ l,bX.L1 p (.ok ()) l=.ok ()↔∀ x∈l,∀ z∈a8 x 1,((!(cC z.x))||cr p.Offices z.x.Name)=true
 | []=>by simp [bX.L1]
 | y::l=>by simp only [bX.L1,D4,D5 p l,List.mem_cons,forall_eq_or_imp]
theorem zG (p:Policy):bX p=.ok ()↔(da p.Name=true∧bo p.Offices da=true∧bo p.Kinds da=true)∧∀ x∈ai p,∀ z∈a8 x 1,((!(cC z.x))||cr p.Offices z.x.Name)=true:=by
 unfold bX bX.K1
 rw [nj,D5]
 simp only [Bool.and_eq_true,and_assoc]
theorem Is (p:Policy):NZ (bX p):=by
 have h3:∀ (k:Except Int Unit),NZ k→∀ l,NZ (bX.L3 p k l):=by
  intro k hk l
  induction l with
  | nil=>exact hk
  | cons y l ih=>exact NZ.exi (NZ.must (by omega)) ih
 have h1:∀ l,NZ (bX.L1 p (.ok ()) l):=by
  intro l
  induction l with
  | nil=>exact NZ.ok
  | cons y l ih=>exact h3 _ ih _
 exact NZ.exi (NZ.must (by omega)) (h1 _)
theorem Gu (p:Policy) (i:Nat) (k:Except Int Unit):∀ l,aZ.L4 p i k l=.ok ()↔(∀ z∈l,(aH z.x.Kind 1 4&&kindsP z.x.Kind z.x)=true∧(decide ((i:Int) < IntKind.i64.wrap (((ai p).length:Int) - 1))||(z.x.Kind != 4))=true)∧k=.ok ()
 | []=>by simp [aZ.L4]
 | y::l=>by simp only [aZ.L4,nj,Gu p i k l,List.mem_cons,forall_eq_or_imp,and_assoc]
theorem yG (p:Policy):∀ l i,aZ.L2 p (.ok ()) l i=.ok ()↔∀ j x,l[j]? = some x→∀ z∈a8 x 1,(aH z.x.Kind 1 4&&kindsP z.x.Kind z.x)=true∧(decide (((i+j:Nat):Int) < IntKind.i64.wrap (((ai p).length:Int) - 1))||(z.x.Kind != 4))=true
 | [],i=>by simp [aZ.L2]
 | y::l,i=>by
  simp only [aZ.L2]
  rw [Gu,yG p l (i+1)]
  constructor
  ·rintro ⟨h1,h2⟩ j x hj z hz
   cases j with
   | zero=>simp at hj;subst hj;exact h1 z hz
   | succ j=>have:=h2 j x (by simpa using hj) z hz;rw [show i+(j+1)=i+1+j from by omega];exact this
  ·intro h
   refine ⟨fun z hz=>h 0 y rfl z hz,fun j x hj z hz=>?_⟩
   have:=h (j+1) x (by simpa using hj) z hz
   rw [show i+(j+1)=i+1+j from by omega] at this;exact this
theorem vU (p:Policy) (k:Except Int Unit):∀ l i,aZ.L1 p k l i=.ok ()↔(∀ j r,l[j]? = some r→((r.Kind.toList==(nthI p.Kinds (((i+j:Nat):Int))).toList)&&aH r.Think 0 1099511627775)=true)∧k=.ok ()
 | [],i=>by simp [aZ.L1]
 | y::l,i=>by
  simp only [aZ.L1]
  rw [nj,vU p k l (i+1)]
  constructor
  ·rintro ⟨h1,h2,h3⟩
   refine ⟨fun j r hj=>?_,h3⟩
   cases j with
   | zero=>simp at hj;subst hj;exact h1
   | succ j=>have:=h2 j r (by simpa using hj);rw [show i+(j+1)=i+1+j from by omega];exact this
  ·rintro ⟨h,h3⟩
   refine ⟨h 0 y rfl,fun j r hj=>?_,h3⟩
   have:=h (j+1) r (by simpa using hj)
   rw [show i+(j+1)=i+1+j from by omega] at this;exact this
theorem JJ (p:Policy):NZ (aZ p):=by
 have h4:∀ i (k:Except Int Unit),NZ k→∀ l,NZ (aZ.L4 p i k l):=by
  intro i k hk l
  induction l with
  | nil=>exact hk
  | cons y l ih=>exact NZ.exi (NZ.must (by omega)) (NZ.exi (NZ.must (by omega)) ih)
 have h2:∀ l i,NZ (aZ.L2 p (.ok ()) l i):=by
  intro l
  induction l with
  | nil=>exact fun _=>NZ.ok
  | cons y l ih=>exact fun i=>h4 i _ (ih _) _
 have h1:∀ l i,NZ (aZ.L1 p (aZ.K1 p) l i):=by
  intro l
  induction l with
  | nil=>exact fun _=>h2 _ _
  | cons y l ih=>exact fun i=>NZ.exi (NZ.must (by omega)) (ih _)
 exact NZ.exi (NZ.must (by omega)) (h1 _ _)
theorem xu (p:Policy):NZ (cL p):=
 NZ.exi (HZ p) (NZ.exi (Is p) (NZ.exi (JJ p) NZ.ok))
theorem uX {x:Except Int Unit} {f:Unit→Except Int Unit}:exi x f=.ok ()↔x=.ok ()∧f ()=.ok ():=by
 cases x with
 | ok u=>simp [exi]
 | error e=>simp [exi]
theorem pk (p:Policy):cL p=.ok ()↔bW p=.ok ()∧bX p=.ok ()∧aZ p=.ok ():=by
 unfold cL
 rw [uX,uX,uX]
 simp
theorem DP (p:Policy):(dj p).2=attR (cL p):=by
 have hL:∀ l i g,(dj.L1 p (dj.K1 p) l i g).2=0:=by
  intro l
  induction l with
  | nil=>exact fun _ _=>rfl
  | cons y l ih=>exact fun i g=>ih _ _
 unfold dj
 by_cases h:attR (cL p)=0
 ·simp [h,hL]
 ·rw [show (attR (cL p) != 0)=true from by simpa using h];rfl
theorem ES (p:Policy) (k:Int):∀ l i,cj.L1 p k l i=0↔(∀ j r,l[j]? = some r→r.KindNo=((i+j:Nat):Int)∧bF p.Offices r.Expr=true)∧k=0
 | [],i=>by simp [cj.L1]
 | y::l,i=>by
  simp only [cj.L1,Bool.cond_eq_ite]
  split
  ·next h=>
   simp only [Bool.or_eq_true,bne_iff_ne,Bool.not_eq_true'] at h
   constructor
   ·intro h';omega
   ·rintro ⟨h1,_⟩
    have:=h1 0 y rfl
    simp only [Nat.add_zero] at this
    rcases h with h | h
    ·exact absurd this.1 h
    ·rw [this.2] at h;cases h
  ·next h=>
   simp only [Bool.or_eq_true,bne_iff_ne,Bool.not_eq_true',not_or,Decidable.not_not,Bool.not_eq_false] at h
   rw [ES p k l (i+1)]
   constructor
   ·rintro ⟨h1,h2⟩
    refine ⟨fun j r hj=>?_,h2⟩
    cases j with
    | zero=>simp at hj;subst hj;exact h
    | succ j=>have:=h1 j r (by simpa using hj);rw [show i+(j+1)=i+1+j from by omega];exact this
   ·rintro ⟨h1,h2⟩
    refine ⟨fun j r hj=>?_,h2⟩
    have:=h1 (j+1) r (by simpa using hj)
    rw [show i+(j+1)=i+1+j from by omega] at this;exact this
theorem wg (p:Policy):cj p=0↔cL p=.ok ()∧(∀ (j:Nat) r,p.Rules[j]? = some r→r.KindNo=(j:Int)∧bF p.Offices r.Expr=true)∧bF p.Offices p.Change=true:=by
 unfold cj
 rw [DP]
 by_cases h:attR (cL p)=0
 ·have h2:=(Cm (xu p)).1 h
  have hk:cj.K1 p=0↔bF p.Offices p.Change=true:=by
   unfold cj.K1
   cases bF p.Offices p.Change <;> simp
  rw [show (attR (cL p) != 0)=false from by simpa using h,cond_false,ES,hk]
  simp only [Nat.zero_add,h2,true_and]
 ·have h2:¬ cL p=.ok ():=fun e=>h ((Cm (xu p)).2 e)
  rw [show (attR (cL p) != 0)=true from by simpa using h,cond_true]
  simp [h,h2]
theorem Jb {c x:Bool}:(bif c then false else x)=true↔c=false∧x=true:=by cases c <;> simp
theorem nq (off:List ByteArray):∀ l,bF.L1 off true l=true↔∀ z∈l,z.x.No=(bif cC z.x then aJ off z.x.Name else 0)
 | []=>by simp [bF.L1]
 | y::l=>by
  simp only [bF.L1,List.mem_cons,forall_eq_or_imp]
  cases cC y.x with
  | true=>
   rw [cond_true,cond_true,Jb,nq off l];simp
  | false=>
   rw [cond_false,cond_false,Jb,nq off l];simp
theorem Ep (v:ByteArray):∀ (l:List ByteArray) (i:Nat),aJ.L1 v (-1) l i=-1∨((i:Int)≤aJ.L1 v (-1) l i∧aJ.L1 v (-1) l i < ((i+l.length:Nat):Int))
 | [],i=>.inl rfl
 | y::l,i=>by
  simp only [aJ.L1,Bool.cond_eq_ite,List.length_cons]
  split
  ·right;omega
  ·rcases Ep v l (i+1) with h | h
   ·exact .inl h
   ·right;omega
theorem Iw (l:List ByteArray) (v:ByteArray):aJ l v < (l.length:Int):=by
 have:=Ep v l 0
 unfold aJ aJ.K1
 omega
theorem mA {p:Policy} (hc:cj p=0):p.Rules.length=p.Kinds.length∧p.Offices.length≤32∧(∀ x∈ai p,OkX (p.Offices.length:Int) x):=by
 obtain ⟨h1,h2,h3⟩:=(wg p).1 hc
 obtain ⟨hs,hn,hf⟩:=(pk p).1 h1
 have hf':=hf
 unfold aZ at hf
 rw [nj,vU] at hf
 simp only [Bool.and_eq_true,decide_eq_true_eq,beq_iff_eq] at hf
 obtain ⟨⟨⟨_,hlen⟩,hmode⟩,hrules,hK⟩:=hf
 unfold aZ.K1 aZ.K2 at hK
 rw [yG] at hK
 obtain ⟨⟨ho,_,_⟩,_⟩:=(vp p).1 hs
 obtain ⟨_,hnm⟩:=(zG p).1 hn
 refine ⟨by omega,ho,fun x hx=>?_⟩
 have hres:∀ z∈a8 x 1,z.x.No=(bif cC z.x then aJ p.Offices z.x.Name else 0):=by
  have hr:bF p.Offices x=true:=by
   rw [kv] at hx
   rcases List.mem_append.1 hx with hx | hx
   ·obtain ⟨r,hr,rfl⟩:=List.mem_map.1 hx
    obtain ⟨j,hj⟩:=List.getElem?_of_mem hr
    exact (h2 j r hj).2
   ·rw [List.mem_singleton.1 hx];exact h3
  unfold bF bF.K1 at hr
  exact (nq _ _).1 hr
 obtain ⟨j,hj⟩:=List.getElem?_of_mem hx
 have hfm:=fun z hz=>(hK j x hj z hz).1
 have hnx:=hnm x hx
 clear hK hnm hj
 let Q:Expr→Prop:=fun x=>(1≤x.Kind∧x.Kind≤4)∧(x.Kind≤2→0≤x.No∧x.No < (p.Offices.length:Int))∧(x.Kind=4→x.L.length=2)
 have all:∀ z∈a8 x 1,(fun x:Expr=>(1≤x.Kind∧x.Kind≤4)∧(x.Kind≤2→0≤x.No∧x.No < (p.Offices.length:Int))∧(x.Kind=4→x.L.length=2)) z.x:=by
  intro z hz
  have a:=hfm z hz
  have b:=hnx z hz
  have c:=hres z hz
  simp only [Bool.and_eq_true,aH,decide_eq_true_eq] at a
  refine ⟨a.1,fun hk=>?_,fun hk=>?_⟩
  ·have hnamed:cC z.x=true:=by
    have:z.x.Kind=1∨z.x.Kind=2:=by omega
    rcases this with e | e <;> simp [cC,e]
   simp only [hnamed,Bool.not_true,Bool.false_or,cond_true] at b c
   have hge:0≤aJ p.Offices z.x.Name:=by
    have h9:=b
    simp only [cr,decide_eq_true_eq,ge_iff_le] at h9
    exact h9
   have:=Iw p.Offices z.x.Name
   omega
  ·have h9:=a.2
   rw [hk] at h9
   simp only [kindsP] at h9
   simp [gP] at h9
   omega
 clear hfm hnx hres hx
 revert all
 refine Expr.ind (P:=fun x=>(∀ z∈a8 x 1,Q z.x)→OkX (p.Offices.length:Int) x) ?_ x
 intro x ih all
 rw [ni Q] at all
 obtain ⟨⟨a,b,c⟩,d⟩:=all
 exact OkX.mk x a b c fun y hy=>ih y hy (d y hy)
theorem u9 {p:Policy} (hc:cj p=0):(1≤p.Mode∧p.Mode≤4)∧p.Rules.length≤16∧∀ r∈p.Rules,0≤r.Think∧r.Think≤1099511627775:=by
 obtain ⟨h1,_,_⟩:=(wg p).1 hc
 obtain ⟨hs,_,hf⟩:=(pk p).1 h1
 unfold aZ at hf
 rw [nj,vU] at hf
 simp only [Bool.and_eq_true,aH,decide_eq_true_eq] at hf
 obtain ⟨⟨⟨_,_⟩,hmode⟩,hrules,_⟩:=hf
 obtain ⟨⟨_,_,hr⟩,_⟩:=(vp p).1 hs
 refine ⟨hmode,hr,fun r hr=>?_⟩
 obtain ⟨j,hj⟩:=List.getElem?_of_mem hr
 exact (hrules j r hj).2
theorem uW {p:Policy} {r:Rule} (h:r∈p.Rules):r.Expr∈ai p:=by
 rw [kv];exact List.mem_append_left _ (List.mem_map_of_mem h)
theorem BN:∀ (l:List Int) (g:Int),cv.L1 cv.K1 l g=true↔(∀ x∈l,g < x∧x < 64)∧l.Pairwise (· < ·)
 | [],g=>by simp [cv.L1,cv.K1]
 | y::l,g=>by
  simp only [cv.L1,Bool.cond_eq_ite,Bool.or_eq_true,decide_eq_true_eq]
  split
  ·next h=>
   constructor
   ·intro h';cases h'
   ·rintro ⟨h1,_⟩;have:=h1 y (List.mem_cons_self ..);omega
  ·next h=>
   rw [BN l y,List.pairwise_cons]
   simp only [List.mem_cons,forall_eq_or_imp]
   constructor
   ·rintro ⟨h1,h2⟩
    exact ⟨⟨by omega,fun x hx=>by have:=h1 x hx;omega⟩,fun x hx=>(h1 x hx).1,h2⟩
   ·rintro ⟨⟨h1,h2⟩,h3,h4⟩
    exact ⟨fun x hx=>⟨h3 x hx,(h2 x hx).2⟩,h4⟩
theorem BM (l:List Int):cv l=true↔(∀ x∈l,0≤x∧x < 64)∧l.Pairwise (· < ·):=by
 unfold cv
 rw [BN]
 constructor
 ·rintro ⟨h1,h2⟩;exact ⟨fun x hx=>by have:=h1 x hx;omega,h2⟩
 ·rintro ⟨h1,h2⟩;exact ⟨fun x hx=>by have:=h1 x hx;omega,h2⟩
theorem AV {l:List Int} (h:cv l=true):l.Pairwise (·≤·):=((BM l).1 h).2.imp (fun h=>Int.le_of_lt h)
theorem BG {hs:List (List Holder)} {n:Int} (h:ck hs n=true):(hs.length:Int)=n:=by
 have h3:∀ (k:List Int→Bool) (l:List Holder) (g:List Int),ck.L3 k l g=true→∃ g',k g'=true:=by
  intro k l
  induction l with
  | nil=>exact fun g h=>⟨g,h⟩
  | cons y l ih=>
   intro g h
   simp only [ck.L3,Bool.cond_eq_ite] at h
   split at h
   ·cases h
   ·exact ih _ h
 have h1:∀ (k:Bool) (l:List (List Holder)),ck.L1 k l=true→k=true:=by
  intro k l
  induction l with
  | nil=>exact fun h=>h
  | cons y l ih=>
   intro h
   obtain ⟨g',hg⟩:=h3 _ _ _ h
   simp only [Bool.cond_eq_ite] at hg
   split at hg
   ·cases hg
   ·exact ih hg
 have:=h1 _ _ h
 simpa [ck.K1] using this
theorem xU:∀ (l:List Version) (g:Int),-1≤g→g≤1048576→(bh.L1 bh.K1 l g=0 ↔
  (∀ v∈l,(0≤v.At∧v.At≤1099511627775)∧(0≤v.Known∧v.Known≤1099511627775)∧v.No≤1048576∧cj v.Policy=0)∧(∀ v∈l,g < v.No)∧l.Pairwise (fun a b=>a.No < b.No))
 | [],g,_,_=>by simp [bh.L1,bh.K1]
 | y::l,g,h0,h1=>by
  simp only [bh.L1,wrap64 (z:=g+1) (by omega),aH]
  by_cases hy:((0≤y.At∧y.At≤1099511627775)∧(0≤y.Known∧y.Known≤1099511627775)∧y.No≤1048576∧cj y.Policy=0)∧g < y.No
  ·obtain ⟨⟨⟨a,a'⟩,⟨b,b'⟩,c,d⟩,e⟩:=hy
   have hc:(!(decide (g+1≤y.No)&&decide (y.No≤1048576))||!(decide (0≤y.At)&&decide (y.At≤1099511627775))||!(decide (0≤y.Known)&&decide (y.Known≤1099511627775))||cj y.Policy != 0)=false:=by
    simp [a,a',b,b',c,d];omega
   rw [hc,cond_false,xU l y.No (by omega) c,List.pairwise_cons]
   simp only [List.mem_cons,forall_eq_or_imp]
   constructor
   ·rintro ⟨h2,h3,h4⟩
    exact ⟨⟨⟨⟨a,a'⟩,⟨b,b'⟩,c,d⟩,h2⟩,⟨e,fun v hv=>by have:=h3 v hv;omega⟩,h3,h4⟩
   ·rintro ⟨⟨_,h2⟩,_,h3,h4⟩;exact ⟨h2,h3,h4⟩
  ·have hc:(!(decide (g+1≤y.No)&&decide (y.No≤1048576))||!(decide (0≤y.At)&&decide (y.At≤1099511627775))||!(decide (0≤y.Known)&&decide (y.Known≤1099511627775))||cj y.Policy != 0)=true:=by
    apply Classical.byContradiction
    intro hn
    apply hy
    simp only [Bool.not_eq_true,Bool.or_eq_false_iff,Bool.not_eq_false',Bool.and_eq_true,decide_eq_true_eq,bne_eq_false_iff_eq] at hn
    obtain ⟨⟨⟨a,b⟩,c⟩,d⟩:=hn
    exact ⟨⟨b,c,a.2,d⟩,by omega⟩
   rw [hc,cond_true]
   constructor
   ·intro h;omega
   ·rintro ⟨h2,h3,_⟩
    exact absurd ⟨h2 y (List.mem_cons_self ..),h3 y (List.mem_cons_self ..)⟩ hy
structure o9 (l:List Version):Prop where
 len:l.length≤256
 each:∀ v∈l,(0≤v.At∧v.At≤1099511627775)∧(0≤v.Known∧v.Known≤1099511627775)∧(0≤v.No∧v.No≤1048576)∧cj v.Policy=0
 inc:l.Pairwise (fun a b=>a.No < b.No)
theorem je (l:List Version):bh l=0↔o9 l:=by
 unfold bh
 by_cases hl:l.length≤256
 ·rw [show decide (256 < (l.length:Int))=false from decide_eq_false (by omega),cond_false,xU l (-1) (by omega) (by omega)]
  constructor
  ·rintro ⟨h1,h2,h3⟩;exact ⟨hl,fun v hv=>by have a:=h1 v hv;have b:=h2 v hv;exact ⟨a.1,a.2.1,⟨by omega,a.2.2.1⟩,a.2.2.2⟩,h3⟩
  ·rintro ⟨_,h1,h3⟩;exact ⟨fun v hv=>by have:=h1 v hv;exact ⟨this.1,this.2.1,by omega,this.2.2.2⟩,fun v hv=>by have:=h1 v hv;omega,h3⟩
 ·rw [show decide (256 < (l.length:Int))=true from decide_eq_true (by omega),cond_true]
  exact ⟨fun h=>by omega,fun h=>absurd h.len hl⟩
theorem o9.mode {l:List Version} (g:o9 l) {v:Version} (hv:v∈l):1≤v.Policy.Mode∧v.Policy.Mode≤4:=(u9 (g.each v hv).2.2.2).1
theorem o9.okV {l:List Version} (g:o9 l):okV l:=⟨g.len,fun v hv=>⟨⟨(u9 (g.each v hv).2.2.2).2.1,(mA (g.each v hv).2.2.2).2.1⟩,(u9 (g.each v hv).2.2.2).2.2⟩⟩
theorem jO {κ α : Type} [DecidableEq κ] (k:κ) (v:α):∀ (m:List (κ×α)) (x:κ),mget? (mput m k v) x=if x=k then some v else mget? m x
 | [],x=>by simp [mput,mget?]
 | (k',v')::m,x=>by
  simp only [mput]
  by_cases e:k=k'
  ·subst e;by_cases e2:x=k <;> simp [mget?,e2]
  ·simp only [e,if_false,mget?,jO k v m x]
   by_cases e2:x=k'
   ·subst e2;simp [Ne.symm e]
   ·simp [e2]
theorem my {κ α : Type} [DecidableEq κ] {x:κ}:∀ {m:List (κ×α)},x∈m.map (·.1)→∃ v,mget? m x=some v∧(x,v)∈m
 | (k,v)::m,h=>by
  by_cases e:x=k
  ·subst e;exact ⟨v,by simp [mget?],by simp⟩
  ·simp only [List.map_cons,List.mem_cons,e,false_or] at h
   obtain ⟨u,h1,h2⟩:=my h
   exact ⟨u,by simp [mget?,e,h1],List.mem_cons_of_mem _ h2⟩
theorem tw {κ α : Type} [DecidableEq κ] {k:κ} {v:α} {q:κ×α}:∀ {m:List (κ×α)},q∈mput m k v→q=(k,v)∨q∈m
 | [],h=>by simp [mput] at h;exact .inl h
 | (k',v')::m,h=>by
  simp only [mput] at h
  split at h
  ·rcases List.mem_cons.1 h with h | h
   ·exact .inl h
   ·exact .inr (List.mem_cons_of_mem _ h)
  ·rcases List.mem_cons.1 h with h | h
   ·exact .inr (h ▸ List.mem_cons_self ..)
   ·rcases tw h with h | h
    ·exact .inl h
    ·exact .inr (List.mem_cons_of_mem _ h)
theorem zU (g:List (Int×Version)):∀ l,bz.L2 g [] l=l.map fun y=>(y,mgetD g y (Version.mk 0 0 0 (Policy.mk (⟨#[]⟩:ByteArray) [] [] [] (Expr.mk 0 0 0 (⟨#[]⟩:ByteArray) []) 0)))
 | []=>rfl
 | y::l=>by simp [bz.L2,zU g l]
def inForceM (known eo:Int):List Version→Int→List (Int×Version)→List (Int×Version)
 | [],_,m=>m
 | y::l,b,m=>bif decide (known < y.Known) then inForceM known eo l b m else bif decide (y.At≤eo) then (bif decide (y.At < b) then inForceM known eo l b m else inForceM known eo l y.At (mput m eo y)) else inForceM known eo l b (mput m y.At y)
theorem zV (known eo:Int) (k:Int→List (Int×Version)→List (Int×Version)) (hk:∀ a b m,k a m=k b m):∀ l b m,bz.L1 known eo k l b m=k 0 (inForceM known eo l b m)
 | [],b,m=>hk _ _ _
 | y::l,b,m=>by
  simp only [bz.L1,inForceM,zV known eo k hk l]
  cases decide (known < y.Known) <;> cases decide (y.At≤eo) <;> cases decide (y.At < b) <;> rfl
theorem qZ (l:List Version) (eo known:Int):ef l eo known=(sortI ((inForceM known eo l (-1) []).map Prod.fst)).map fun y=>(y,mgetD (inForceM known eo l (-1) []) y (Version.mk 0 0 0 (Policy.mk (⟨#[]⟩:ByteArray) [] [] [] (Expr.mk 0 0 0 (⟨#[]⟩:ByteArray) []) 0))):=by
 unfold ef bz
 rw [zV _ _ _ (fun _ _ _=>rfl)]
 exact zU _ _
theorem mP (known eo:Int) (P:Int×Version→Prop):∀ (l:List Version) b m,(∀ y∈l,y.At≤eo→P (eo,y))→(∀ y∈l,eo < y.At→P (y.At,y))→(∀ q∈m,P q)→∀ q∈inForceM known eo l b m,P q
 | [],_,_,_,_,hm=>hm
 | y::l,b,m,h1,h2,hm=>by
  have h1':=fun z hz=>h1 z (List.mem_cons_of_mem _ hz)
  have h2':=fun z hz=>h2 z (List.mem_cons_of_mem _ hz)
  simp only [inForceM,Bool.cond_eq_ite,decide_eq_true_eq]
  split
  ·exact mP known eo P l b m h1' h2' hm
  ·split
   ·next ha=>
    split
    ·exact mP known eo P l b m h1' h2' hm
    ·refine mP known eo P l _ _ h1' h2' (fun q hq=>?_)
     rcases tw hq with rfl | hq
     ·exact h1 y (List.mem_cons_self ..) ha
     ·exact hm q hq
   ·next ha=>
    refine mP known eo P l _ _ h1' h2' (fun q hq=>?_)
    rcases tw hq with rfl | hq
    ·exact h2 y (List.mem_cons_self ..) (by omega)
    ·exact hm q hq
theorem xF {l:List Version} {eo known:Int} (P:Int×Version→Prop) (h1:∀ y∈l,y.At≤eo→P (eo,y)) (h2:∀ y∈l,eo < y.At→P (y.At,y)):∀ q∈ef l eo known,P q:=by
 intro q hq
 rw [qZ] at hq
 obtain ⟨y,hy,rfl⟩:=List.mem_map.1 hq
 have hy':=(gS _).mem_iff.1 hy
 obtain ⟨v,e,hv⟩:=my hy'
 have:mgetD (inForceM known eo l (-1) []) y (Version.mk 0 0 0 (Policy.mk (⟨#[]⟩:ByteArray) [] [] [] (Expr.mk 0 0 0 (⟨#[]⟩:ByteArray) []) 0))=v:=by simp [mgetD,e]
 simp only [this]
 exact mP known eo P l (-1) [] h1 h2 (fun q hq=>(List.not_mem_nil hq).elim) _ hv
theorem sI {l:List Version} {eo known:Int}:∀ q∈ef l eo known,q.2∈l:=
 xF (fun q=>q.2∈l) (fun y hy _=>hy) (fun y hy _=>hy)
theorem nZ (known eo:Int):∀ (l:List Version) b m,(inForceM known eo l b m).length≤m.length+l.length
 | [],_,_=>Nat.le_refl _
 | y::l,b,m=>by
  have a1:=nZ known eo l b m
  have a2:=nZ known eo l y.At (mput m eo y)
  have a3:=nZ known eo l b (mput m y.At y)
  have b2:=gq m eo y
  have b3:=gq m y.At y
  simp only [inForceM,Bool.cond_eq_ite,List.length_cons]
  split
  ·omega
  ·split
   ·split <;> omega
   ·omega
theorem xE (l:List Version) (eo known:Int):(ef l eo known).length≤l.length:=by
 rw [qZ,List.length_map,hU,List.length_map]
 have:=nZ known eo l (-1) []
 simpa using this
theorem vq:∀ {a b:List OSeat},a.Pairwise (fun x y=>x.person < y.person)→b.Pairwise (fun x y=>x.person < y.person)→a.Perm b→a=b
 | [],b,_,_,p=>(List.Perm.nil_eq p)
 | x::a,[],_,_,p=>absurd p.length_eq (by simp)
 | x::a,y::b,ha,hb,p=>by
  have hx:x=y:=by
   have h1:x∈y::b:=p.mem_iff.1 (List.mem_cons_self ..)
   have h2:y∈x::a:=p.mem_iff.2 (List.mem_cons_self ..)
   rw [List.pairwise_cons] at ha hb
   rcases List.mem_cons.1 h1 with e | h1
   ·exact e
   ·rcases List.mem_cons.1 h2 with e | h2
    ·exact e.symm
    ·have:=ha.1 y h2;have:=hb.1 x h1;omega
  subst hx
  rw [List.pairwise_cons] at ha hb
  rw [vq ha.2 hb.2 (List.Perm.cons_inv p)]
theorem qy {office:Int} {l:List OSeat} (hn:l.Nodup) (hs:l.Pairwise (fun x y=>x.person≤y.person)):(l.filter (fun y=>y.office==office)).Pairwise (fun x y=>x.person < y.person):=by
 induction l with
 | nil=>exact List.Pairwise.nil
 | cons x l ih=>
  rw [List.nodup_cons] at hn
  rw [List.pairwise_cons] at hs
  rw [List.filter_cons]
  split
  ·next h=>
   rw [List.pairwise_cons]
   refine ⟨fun y hy=>?_,ih hn.2 hs.2⟩
   obtain ⟨hy1,hy2⟩:=List.mem_filter.1 hy
   have h1:=hs.1 y hy1
   rcases Int.lt_or_eq_of_le h1 with h2 | h2
   ·exact h2
   ·exfalso
    have:x=y:=by
     cases x;cases y
     simp at h hy2 h2
     simp [h,hy2,h2]
    exact hn.1 (this ▸ hy1)
  ·exact ih hn.2 hs.2
theorem m7 (m:List (OSeat×Appoint)) (office:Int):∀ l,bA.L1 m office [] l=(l.filter fun y=>y.office==office).filterMap fun y=>bif (mgetD m y (Appoint.mk 0 0 0 0 0 0 false)).Gone then none else some (Holder.mk (mgetD m y (Appoint.mk 0 0 0 0 0 0 false)).Person (mgetD m y (Appoint.mk 0 0 0 0 0 0 false)).Weight)
 | []=>rfl
 | y::l=>by
  simp only [bA.L1,m7 m office l,List.filter_cons]
  cases h1:y.office==office <;> cases h2:(mgetD m y (Appoint.mk 0 0 0 0 0 0 false)).Gone <;> simp [h2]
theorem Bb {m:List (OSeat×Appoint)} {office:Int} {ys:List OSeat} (hn:(m.map (·.1)).Nodup) (hp:ys.Perm (m.map Prod.fst)) (hs:ys.Pairwise (fun x y=>x.person≤y.person)):
  bA m office=[]++((bA.L1 m office bA.K1) ys):=by
 unfold bA bA.K1
 rw [List.nil_append,m7,m7]
 have h1:(seatS (m.map Prod.fst)).Nodup:=(lj _).nodup_iff.2 hn
 have h2:ys.Nodup:=hp.nodup_iff.2 hn
 rw [vq (qy h1 (qz _)) (qy h2 hs) (((lj _).trans hp.symm).filter _)]
theorem sF (key:Appoint→OSeat×Bool) (later:Appoint→Appoint→Bool):∀ (l:List Appoint) m,(bG.L1 key later bG.K1 l m).length≤m.length+l.length
 | [],m=>by simp [bG.L1,bG.K1]
 | y::l,m=>by
  have a:=sF key later l m
  have b:=sF key later l (mput m (key y).1 y)
  have c:=gq m (key y).1 y
  simp only [bG.L1,Bool.cond_eq_ite,List.length_cons]
  split <;> omega
theorem qu (l:List Appoint) (a b:Int):(em l a b).length≤l.length:=by
 have:=sF (fun ed=>e6 ed a b) e5 l []
 simpa [em,bG] using this
theorem sW (l:List Holder):eY l=l:=by
 have:∀ (l g:List Holder),bR.L1 bR.K1 l g=g++l:=by
  intro l
  induction l with
  | nil=>intro g;simp [bR.L1,bR.K1]
  | cons y l ih=>intro g;simp [bR.L1,ih]
 simp [eY,bR,this]
theorem xH (m:List (OSeat×Appoint)) (office:Int):(fW m office).length≤m.length:=by
 unfold fW bA bA.K1
 rw [m7]
 have h1:=List.length_filterMap_le (fun y=>bif (mgetD m y (Appoint.mk 0 0 0 0 0 0 false)).Gone then none else some (Holder.mk (mgetD m y (Appoint.mk 0 0 0 0 0 0 false)).Person (mgetD m y (Appoint.mk 0 0 0 0 0 0 false)).Weight)) ((seatS (m.map Prod.fst)).filter fun y=>y.office==office)
 have h2:=List.length_filter_le (fun y:OSeat=>y.office==office) (seatS (m.map Prod.fst))
 have h3:=(lj (m.map Prod.fst)).length_eq
 rw [List.length_map] at h3
 omega
theorem EZ (l:List Appoint) (office a b:Int):(dh l office a b).1.length≤l.length:=by
 unfold dh
 rw [sW]
 have h1:=xH (em l a b) office
 have h2:=qu l a b
 cases (cn l != 0) <;> cases ((!(eN office))||(!(db a))||(!(db b))) <;> simp <;> omega
theorem qe (q:aC) (at_:Int):∀ (l:List Version) (g:List Policy),aw.L1 q at_ (aw.K1 q at_) l g=(g++(l.filter fun v=>dM (ay q.Register.Versions q.doc.At at_ q.known).1 v.No).map (·.Policy),(ay q.Register.Versions q.doc.At at_ q.known).2.1)
 | [],g=>by simp [aw.L1,aw.K1]
 | y::l,g=>by
  simp only [aw.L1,qe q at_ l,List.filter_cons]
  cases dM (ay q.Register.Versions q.doc.At at_ q.known).1 y.No <;> simp
theorem zQ {q:aC} {at_:Int} {p:Policy} (h:p∈(aw q at_).1):∃ v∈q.Register.Versions,v.Policy=p:=by
 unfold aw at h
 rw [Bool.cond_eq_ite] at h
 split at h
 ·exact (List.not_mem_nil h).elim
 ·rw [qe,List.nil_append] at h
  obtain ⟨v,hv,e⟩:=List.mem_map.1 h
  exact ⟨v,(List.mem_filter.1 hv).1,e⟩
theorem zR (q:aC) (at_:Int):(aw q at_).1.length≤q.Register.Versions.length:=by
 unfold aw
 rw [Bool.cond_eq_ite]
 split
 ·exact Nat.zero_le _
 ·rw [qe,List.nil_append,List.length_map]
  exact List.length_filter_le _ _
theorem xy (q:aC) (at_:Int):∀ (l:List ByteArray) (i:Nat) (g:List (List Holder)),ar.L1 q at_ ar.K1 l i g=g++(List.range l.length).map fun j=>(dh q.Register.Appoints ((i+j:Nat):Int) at_ q.known).1
 | [],i,g=>by simp [ar.L1,ar.K1]
 | y::l,i,g=>by
  simp only [ar.L1,xy q at_ l,List.length_cons,List.append_assoc]
  congr 1
  rw [List.range_succ_eq_map,List.map_cons,List.map_map]
  simp only [Nat.add_zero,List.singleton_append,List.cons.injEq,true_and]
  apply List.map_congr_left
  intro j _
  simp only [Function.comp]
  rw [show i+1+j=i+(j+1) from by omega]
theorem nu (q:aC) (p:Policy) (at_:Int):ar q p at_=(List.range p.Offices.length).map fun (j:Nat)=>(dh q.Register.Appoints (j:Int) at_ q.known).1:=by
 unfold ar
 rw [xy]
 simp
theorem sj {q:aC} (h:q.Register.Appoints.length≤2000000) (p:Policy) (at_:Int):∀ y∈ar q p at_,y.length≤2000000:=by
 intro y hy
 rw [nu] at hy
 obtain ⟨j,_,rfl⟩:=List.mem_map.1 hy
 exact Nat.le_trans (EZ _ _ _ _) h
theorem CL (q:aC) (p:Policy) (at_:Int):(ar q p at_).length=p.Offices.length:=by rw [nu];simp
theorem Hi (l:List Int) (p:Int→Bool):(bv l p).length≤l.length:=List.length_filter_le _ _
end Go.Sg
