import Derived.Conc.LoneCalls
import Derived.Test.YtngiefchigcphaaGreatDoorW2
/- A part of the proof of AsofSpec. -/
set_option linter.unusedVariables false
set_option linter.unusedSimpArgs false
set_option maxRecDepth 100000
namespace Go.Sg
section grow
variable {α : Type} {R:Rp α} {E:TypeId} {h:HF} {xs:List α} {base:Option Addr} {cap:Nat} {G:LH}
theorem cJ.jD (hG:cJ R E h xs base cap G) (hne:0 < xs.length):∃ bk,base=some ⟨bk,0,none⟩:=by
 rcases hG with ⟨rfl,_⟩ | ⟨bk,_,_,e,_⟩
 ·simp at hne
 ·exact ⟨bk,e⟩
theorem cJ.Km (hG:cJ R E h xs base cap G):xs.length≤cap:=by
 rcases hG with ⟨rfl,_⟩ | ⟨bk,cl,sp,_,_,_,h4,_⟩
 ·simp
 ·exact h4
theorem aT.split:∀ {xs ys:List α} {cl:List Value},aT R h cl (xs++ys)→∃ a b,cl=a++b∧aT R h a xs∧aT R h b ys
 | [],ys,cl,hc=>⟨[],cl,rfl,rfl,hc⟩
 | x::xs,ys,cl,⟨cs,rest,e,hl,hr,hc⟩=>by
  obtain ⟨a,b,rfl,h1,h2⟩:=aT.split hc
  exact ⟨cs++a,b,by rw [e,List.append_assoc],⟨cs,a,rfl,hl,hr,h1⟩,h2⟩
theorem cJ.take (hG:cJ R E h xs base cap G) (k:Nat):cJ R E h (xs.take k) base cap G:=by
 rcases hG with ⟨rfl,rfl,rfl,rfl⟩ | ⟨bk,cl,sp,e,hc,h3,h4,h5,rfl⟩
 ·rw [List.take_nil];exact cJ.nil
 ·rw [← List.take_append_drop k xs] at hc
  obtain ⟨a,b,rfl,h1,h2⟩:=aT.split hc
  refine .inr ⟨bk,a,b++sp,e,h1,by rw [← List.append_assoc];exact h3,?_,?_,by rw [List.append_assoc]⟩
  ·rw [List.length_take];omega
  ·rw [List.length_take];omega
end grow
section runs
variable {P:Program} {e:Env} {X:Cx} {h:HF} {L:LH} {d:Option Nat} {ty:TypeId} {pos:String} {af:Array Edge} {g:Option (Nat×Bool)}
variable {α : Type} {R:Rp α} {E:TypeId} {xs:List α} {base:Option Addr} {cap bk:Nat} {G:LH}
theorem mN {t:TypeId} {x ix:Operand} {m:Nat} {a:Bool} {z:Int} (hT:P.underlying t=some (.slice E)) (hS:tySz P E=some (R.sz,a)) (hb:base=some ⟨bk,0,none⟩) (hz:0≤z∧z < (xs.length:Int))
  (hx:e.ev x=.slice base m cap) (hm:m=xs.length) (hix:e.ev ix=.int .i64 z):∀ w,St X h L w→(execOp e.ev ⟨d,.indexAddr t x ix,ty,pos,af,g⟩).run P w=.ok (.value (.pointer (some ⟨bk,z.toNat * R.sz,none⟩))) w:=by
 subst hb hm
 have hzz:z=(z.toNat:Int):=by omega
 rw [hzz] at hix
 intro w hw
 rw [HL hT hS hx hix (by omega) w hw,nA]
theorem yZ {t:TypeId} {x:Operand} {m i off:Nat} {y:α} {v:Value} {h0:HF} (hT:tySz P t=some (m,false)) (hG:cJ R E h0 xs base cap G) (hb:base=some ⟨bk,0,none⟩) (hi:xs[i]? = some y) (hv:∀ cs,R.rep h0 cs y→nth cs off=some v)
  (hx:e.ev x=.pointer (some ⟨bk,i * R.sz+off,none⟩)) (hm:∀ p∈G,p∈L):∀ w,St X h L w→(execOp e.ev ⟨d,.load t x,ty,pos,af,g⟩).run P w=.ok (.value v) w:=by
 rcases hG with ⟨rfl,_⟩ | ⟨bk',cl,sp,e1,hc,_,_,_,rfl⟩
 ·simp at hi
 ·rw [hb] at e1
  cases e1
  obtain ⟨cs,hl,hr,hcell⟩:=hc.get i y hi
  have hv':=hv cs hr
  rw [gy] at hv'
  have h9:=hcell off v hv'
  refine fw hT hx (hm _ (List.mem_singleton.2 rfl)) ?_
  rw [gy,List.getElem?_append_left (by
   rcases Nat.lt_or_ge (i * R.sz+off) cl.length with q | q
   ·exact q
   ·simp [List.getElem?_eq_none q] at h9)]
  exact h9
end runs
theorem qW {α : Type} (a b:List α) (i:Nat) (x:α) (hi:i < a.length):setNth (a++b) i x=setNth a i x++b:=by
 rw [kP,kP,List.set_append_left _ _ hi]
theorem vS {α : Type} (a b:List α) (i:Nat) (x:α):setNth (a++b) (a.length+i) x=a++setNth b i x:=by
 rw [kP,kP,List.set_append_right _ _ (Nat.le_add_right _ _)];simp
theorem aT.set {α : Type} {R:Rp α} {h:HF} {off:Nat} {v:Value} {y y':α} (ho:off < R.sz) (hrep:∀ cs,R.rep h cs y→R.rep h (setNth cs off v) y'):
  ∀ {xs:List α} {cl:List Value} (i:Nat),aT R h cl xs→xs[i]? = some y→aT R h (setNth cl (i * R.sz+off) v) (xs.set i y')
 | x::xs,cl,0,⟨cs,rest,e,hl,hr,hc⟩,hi=>by
  simp at hi
  subst hi
  rw [e,Nat.zero_mul,Nat.zero_add,qW _ _ _ _ (by omega)]
  exact ⟨setNth cs off v,rest,rfl,by rw [nh];exact hl,hrep cs hr,hc⟩
 | x::xs,cl,i+1,⟨cs,rest,e,hl,hr,hc⟩,hi=>by
  have ih:=aT.set ho hrep i hc (by simpa using hi)
  rw [e,show (i+1) * R.sz+off=cs.length+(i * R.sz+off) from by rw [hl,Nat.add_mul];omega,vS]
  exact ⟨cs,_,rfl,hl,hr,ih⟩
 | [],_,_,_,hi=>by simp at hi
section steps
variable {P:Program} {b:Frame} {n:Nat} {ops:Array Oper} {F:List Frame→(Machine→Prop)→Prop} {e:Env} {ds:List Deferred} {X:Cx} {h:HF} {L:LH} {K:Env→HF→LH→Prop}
variable {d:Option Nat} {ty:TypeId} {pos:String} {af:Array Edge} {g:Option (Nat×Bool)}
variable {α : Type} {R:Rp α} {E:TypeId} {xs:List α} {base:Option Addr} {cap bk:Nat}
theorem uY (A G Q:LH) {t:TypeId} {x y:Operand} {m i off:Nat} {a:Bool} {u u':α} {v:Value} (hT:tySz P t=some (m,a)) (hm:m=1) (hG:cJ R E h xs base cap G) (hL:L=A++(G++Q)) (hb:base=some ⟨bk,0,none⟩)
  (hi:xs[i]? = some u) (ho:off < R.sz) (hrep:∀ cs,R.rep h cs u→R.rep h (setNth cs off v) u') (hx:e.ev x=.pointer (some ⟨bk,i * R.sz+off,none⟩)) (hv:vcells (e.ev y)=[v]) (h1:one v=true)
  (t':∀ G',cJ R E h (xs.set i u') base cap G'→K e h (A++(G'++Q)))
  (hg:guardB ops e ⟨none,.store t x y,ty,pos,af,g⟩=true:=by rfl):Stp P b n ops F ds X ⟨none,.store t x y,ty,pos,af,g⟩ e h L K:=by
 subst hL hm
 rcases hG with ⟨rfl,_⟩ | ⟨bk',cl,sp,e1,hc,h3,h4,h5,rfl⟩
 ·simp at hi
 ·have e2:=e1
  rw [hb] at e2
  cases e2
  have hlen:=hc.len
  have hil:i < xs.length:=by
   rcases Nat.lt_or_ge i xs.length with q | q
   ·exact q
   ·simp [List.getElem?_eq_none q] at hi
  have hlt:i * R.sz+off < cl.length:=by
   rw [hlen]
   have:=Nat.mul_le_mul_right R.sz (show i+1≤xs.length from hil)
   rw [Nat.add_mul] at this;omega
  have hnth:nth (A++([(bk,Obj.cells (cl++sp).toArray E (0,0))]++Q)) A.length=some (bk,.cells (cl++sp).toArray E (0,0)):=FK A _ Q
  refine j7 A.length hT hx hnth hv rfl (by simp;omega) (by simp [h1]) ?_ hg
  have hs:splice (cl++sp) (i * R.sz+off) [v]=setNth cl (i * R.sz+off) v++sp:=by
   simp only [splice];rw [qW _ _ _ _ hlt]
  rw [hs]
  have hset:=yq A (bk,Obj.cells (cl++sp).toArray E (0,0)) (bk,Obj.cells (setNth cl (i * R.sz+off) v++sp).toArray E (0,0)) Q
  show K e h (setNth (A++(bk,Obj.cells (cl++sp).toArray E (0,0))::Q) A.length _)
  rw [hset]
  refine t' [(bk,.cells (setNth cl (i * R.sz+off) v++sp).toArray E (0,0))] (.inr ⟨bk,setNth cl (i * R.sz+off) v,sp,e1,aT.set ho hrep i hc hi,?_,?_,?_,rfl⟩)
  ·rw [List.length_append,nh,← List.length_append];exact h3
  ·rw [List.length_set];exact h4
  ·rw [List.length_set];exact h5
theorem Dc {t:TypeId} {x hi:Operand} {a:Bool} {m:Nat} {z:Int} {G:LH} (hT:P.underlying t=some (.slice E)) (hS:tySz P E=some (R.sz,a)) (hG:cJ R E h xs base cap G) (hz:0≤z∧z≤(xs.length:Int))
  (hx:e.ev x=.slice base m cap) (hm:m=xs.length) (hhi:e.ev hi=.int .i64 z)
  (t':K (pute e d (.slice base (xs.take z.toNat).length cap)) h L)
  (hg:guardB ops e ⟨d,.slice t x none (some hi) none,ty,pos,af,g⟩=true:=by rfl):Stp P b n ops F ds X ⟨d,.slice t x none (some hi) none,ty,pos,af,g⟩ e h L K:=by
 subst hm
 have hcap:=hG.Km
 have hz2:0≤z∧z≤(cap:Int):=by omega
 have hl:z.toNat=(xs.take z.toNat).length:=by simp;omega
 refine fy (v:=.slice base (xs.take z.toNat).length cap) (fun w hw=>?_) t' hg
 rw [← hl]
 by_cases h0:cap=0
 ·have hz0:z=0:=by omega
  subst hz0
  simp [execOp,Instr.sliceAt,Instr.slice,Instr.sliceBounds,Instr.sliceBound,hx,hhi,asIntOf,run_underlying hT,fN hS,hz2,h0]
 ·simp [execOp,Instr.sliceAt,Instr.slice,Instr.sliceBounds,Instr.sliceBound,hx,hhi,asIntOf,run_underlying hT,fN hS,hz2,h0,Addr.add]
theorem Dd (A G Q:LH) {f:FuncId} {ass:Array Operand} {ats:Array TypeId} {vs:List Value} {v:Value} (hc:∀ args w,(callFunc f args).run P w=.ok (.enter f args) w) (hm:R.Mono) (hG:cJ R E h xs base cap G) (hL:L=A++(G++Q))
  (hs:∀ h1,h.le h1→SlC R h1 base cap xs→Ret P f vs h1 v) (hvs:ass.toList.map e.ev=vs) (t':K (pute e d v) h L)
  (hg:guardB ops e ⟨d,.call ⟨.value (.func f),ass,ats⟩,ty,pos,af,g⟩=true:=by rfl):
  Stp P b n ops F ds X ⟨d,.call ⟨.value (.func f),ass,ats⟩,ty,pos,af,g⟩ e h L K:=by
 unfold Stp
 rw [if_pos hg]
 intro w hw
 have harr:ass.map e.ev=vs.toArray:=Array.ext' (by simp [← hvs])
 have hr:(execOp e.ev ⟨d,.call ⟨.value (.func f),ass,ats⟩,ty,pos,af,g⟩).run P w=.ok (.enter f vs.toArray) w:=by
  simp [execOp,resolve,Env.ev,Deferred.ofValue,invoke,harr,hc]
 rw [hr]
 have back:∀ (h1:HF),h.le h1→(∀ bk o,h1 bk=some o→w.heap[bk]? = some o)→SlC R h1 base cap xs→qh P b n F ds X ⟨d,.call ⟨.value (.func f),ass,ats⟩,ty,pos,af,g⟩ e K (.ok (.enter f vs.toArray) w):=by
  intro h1 hle himm hsl
  have hp1:Pre h1 [] w:=⟨himm,fun _ hp=>(List.not_mem_nil hp).elim,List.nodup_nil,fun _ hp=>(List.not_mem_nil hp).elim⟩
  refine jF (by simp) (jf (nM.mono (hs h1 hle hsl w hp1) ?_))
  rintro x w' ⟨h',B,hst,rfl,rfl,rfl⟩
  refine ⟨h,L,⟨hst.os.trans hw.os,hst.tape.trans hw.tape,hst.output.trans hw.output,Nat.le_trans hw.size hst.size,fun b' hb' hM=>?_,hw.le,hw.old,fun b' o hb'=>?_,fun p hp=>?_,hw.dis,hw.free,hw.new⟩,t'⟩
  ·rw [hst.keep b' (Nat.lt_of_lt_of_le hb' hw.size) (by simp)];exact hw.keep b' hb' hM
  ·rw [hst.keep b' (fh (hw.imm b' o hb')) (by simp)];exact hw.imm b' o hb'
  ·rw [hst.keep p.1 (fh (hw.own p hp)) (by simp)];exact hw.own p hp
 rcases hG with ⟨rfl,rfl,rfl,rfl⟩ | ⟨bk,cl,sp,rfl,hcl,h3,h4,h5,rfl⟩
 ·exact back h (HF.le_refl h) hw.imm SlC.nil
 ·have hmem:(bk,Obj.cells (cl++sp).toArray E (0,0))∈L:=by rw [hL];simp
  have hle:h.le (h.add bk (.cells (cl++sp).toArray E (0,0))):=HF.se (hw.free _ hmem)
  refine back _ hle (fun k o hk=>?_) ⟨aT.slB (hcl.mono hm hle) (HF.oQ _ _ _) h5,h4⟩
  unfold HF.add at hk
  by_cases e0:k=bk
  ·subst e0;simp at hk;subst hk;exact hw.own _ hmem
  ·rw [if_neg e0] at hk;exact hw.imm k o hk
theorem HD {t E:TypeId} {dir:ChanDir} {sz:Operand} {m by_:Nat} (hT:P.underlying t=some (.chan dir E)) (hby:bytesOf P E=some by_) (hsz:e.ev sz=.int .i64 (m:Nat)) (hm:m≤1000000000) (hb:by_≤4096)
  (t':∀ bk,K (pute e d (.chan (some bk))) h ((bk,.chan m #[] false 0 0 false)::L))
  (hg:guardB ops e ⟨d,.makeChan t sz,ty,pos,af,g⟩=true:=by rfl):Stp P b n ops F ds X ⟨d,.makeChan t sz,ty,pos,af,g⟩ e h L K:=
 ig hg fun w hw=>by
  refine ⟨_,_,h,_,?_,hw.alloc (.chan m #[] false 0 0 false),t' _⟩
  have h1:¬ ((m:Int) > IntKind.i64.max):=by
   have:IntKind.i64.max=9223372036854775807:=by rfl
   omega
  have h2:∃ i,P.info? E=some i∧i.bytes=by_:=by
   unfold bytesOf at hby
   cases hi:P.info? E with
   | none=>rw [hi] at hby;cases hby
   | some i=>rw [hi] at hby;exact ⟨i,rfl,by simpa using hby⟩
  obtain ⟨i,hi,hib⟩:=h2
  have h3:¬ ((i.bytes:Int) * (m:Int) > 2 ^ 48 - 112):=by
   rw [hib]
   have:by_ * m≤4096 * 1000000000:=Nat.mul_le_mul hb hm
   have h4:((by_:Int) * (m:Int))=((by_ * m:Nat):Int):=by simp
   rw [h4];omega
  simp only [execOp,Instr.makeChan,hsz]
  simp [asInt,asIntOf,run_underlying hT,typeInfo,hi]
  intro hc
  exfalso
  have h1':¬ (9223372036854775807 < (m:Int)):=by omega
  have h3':¬ (281474976710544 < (i.bytes:Int) * (m:Int)):=by
   intro h9;exact h3 (by simpa using h9)
  rcases hc with hc | hc | hc
  ·omega
  ·exact h1' hc
  ·exact h3' hc
end steps
theorem tZ {s:GStep} {g:Goroutine} {cs:Array CommCase} {bl:Bool} {sh:CommShape} {w:World} (h:s.bare=.comm g cs bl sh w):∃ es,s=.comm g cs bl sh w es:=by
 cases s <;> simp at h
 obtain ⟨rfl,rfl,rfl,rfl,rfl⟩:=h
 exact ⟨_,rfl⟩
section comm
variable {P:Program} {b:Frame} {n:Nat} {ops:Array Oper} {l:List Oper} {k:List Item} {F:List Frame→(Machine→Prop)→Prop} {e:Env} {ds:List Deferred} {X:Cx} {h:HF} {L:LH}
variable {ty:TypeId} {pos:String} {af:Array Edge} {g:Option (Nat×Bool)}
theorem Kf (i:Nat) {ch x:Operand} {c cap s r:Nat} {vs:List Value} {v:Value} (hL:nth L i=some (c,.chan cap vs.toArray false s r false)) (hch:e.ev ch=.chan (some c)) (hx:e.ev x=v) (hroom:vs.length < cap)
  (t:TO P b n ops l k F e ds X h (setNth L i (c,.chan cap (vs++[v]).toArray false (s+1) r false)))
  (hg:guardB ops e ⟨none,.send ch x,ty,pos,af,g⟩=true:=by rfl):TO P b n ops (⟨none,.send ch x,ty,pos,af,g⟩::l) k F e ds X h L:=by
 intro w hw is hi a cs Φ hn he hds hF
 obtain ⟨j,js,rfl,ho,hj⟩:=ni hi
 have hwt:=(fp (ops:=ops) he).trans hg
 have hs:=stepGR_op (P:=P) (b:=b) (k:=k) (cs:=cs) (w:=w) (rest:=js) ho hwt
 rw [iz _ _ rfl,i9,he] at hs
 have hb:w.heap[c]? = some (.chan cap vs.toArray false s r false):=by
  have h2:=hL
  rw [gy] at h2
  exact hw.own _ (List.mem_of_getElem? h2)
 have hcm:∃ es,stepG P true (Go.Conc.G (b.atR a (.inRegion ops (j::js)::k)) cs) w=.comm (Go.Conc.G (b.atR a (.inRegion ops (j::js)::k)) cs) #[Go.Conc.scase c v (.tuple #[])] true .send w es:=by
  have hrun:(execOp e.ev ⟨none,.send ch x,ty,pos,af,g⟩).run P w=.ok (.comm #[Go.Conc.scase c v (.tuple #[])] true .send) w:=by
   simp [execOp,hch,hx,Go.Conc.scase]
  show ∃ es,stepG P true { frame:=b.atR a (.inRegion ops (j::js)::k),callers:=cs,status:=.running,dying:=none } w=_
  refine tZ ?_
  rw [hs]
  simp [stepG.apply,hrun,Go.Conc.G]
 obtain ⟨es,hcm⟩:=hcm
 have h1:=Go.Conc.step_lone_send_room hcm hb (by simpa using hroom)
 refine .step h1 ?_
 rw [show Go.Conc.solo (Go.Conc.G ((b.atR a (.inRegion ops (j::js)::k)).finish undef) cs) (w.setChan c cap (vs.toArray.push v) false (s+1) r false)=lone ((b.atR a (.inRegion ops (j::js)::k)).finish undef) cs (w.setChan c cap (vs.toArray.push v) false (s+1) r false) from rfl,gj a js k ho undef]
 have hw2:=hw.write hL (.chan cap (vs++[v]).toArray false (s+1) r false)
 have e1:vs.toArray.push v=(vs++[v]).toArray:=by simp
 rw [e1]
 exact t _ hw2 js hj a cs Φ hn he hds hF
theorem Kg (i:Nat) {t E:TypeId} {dir:ChanDir} {ch:Operand} {d c cap s r:Nat} {vs:List Value} {v z:Value} (hT:P.underlying t=some (.chan dir E)) (hz:zeroV P E=some z) (hL:nth L i=some (c,.chan cap (v::vs).toArray false s r false)) (hch:e.ev ch=.chan (some c))
  (t':TO P b n ops l k F (upd e d v) ds X h (setNth L i (c,.chan cap vs.toArray false s (r+1) false)))
  (hd:Nat.blt d n=true:=by rfl) (hg:guardB ops e ⟨some d,.recv t ch false,ty,pos,af,g⟩=true:=by rfl):TO P b n ops (⟨some d,.recv t ch false,ty,pos,af,g⟩::l) k F e ds X h L:=by
 intro w hw is hi a cs Φ hn he hds hF
 obtain ⟨j,js,rfl,ho,hj⟩:=ni hi
 have hwt:=(fp (ops:=ops) he).trans hg
 have hs:=stepGR_op (P:=P) (b:=b) (k:=k) (cs:=cs) (w:=w) (rest:=js) ho hwt
 rw [iz _ _ rfl,i9,he] at hs
 have hb:w.heap[c]? = some (.chan cap (v::vs).toArray false s r false):=by
  have h2:=hL
  rw [gy] at h2
  exact hw.own _ (List.mem_of_getElem? h2)
 have hcm:∃ es,stepG P true (Go.Conc.G (b.atR a (.inRegion ops (j::js)::k)) cs) w=.comm (Go.Conc.G (b.atR a (.inRegion ops (j::js)::k)) cs) #[Go.Conc.rcase c z] true (.recv false) w es:=by
  have hrun:(execOp e.ev ⟨some d,.recv t ch false,ty,pos,af,g⟩).run P w=.ok (.comm #[Go.Conc.rcase c z] true (.recv false)) w:=by
   simp [execOp,run_underlying hT,jj hz,hch,Go.Conc.rcase]
  show ∃ es,stepG P true { frame:=b.atR a (.inRegion ops (j::js)::k),callers:=cs,status:=.running,dying:=none } w=_
  refine tZ ?_
  rw [hs]
  simp [stepG.apply,hrun,Go.Conc.G]
 obtain ⟨es,hcm⟩:=hcm
 have h1:=Go.Conc.step_lone_recv_buf false hcm hb (by simp)
 refine .step h1 ?_
 have e2:Go.Conc.got false ((v::vs).toArray.getD 0 undef) true=v:=by simp [Go.Conc.got]
 have e1:(v::vs).toArray.extract 1 (v::vs).toArray.size=vs.toArray:=by simp
 rw [e2,e1]
 rw [show Go.Conc.solo (Go.Conc.G ((b.atR a (.inRegion ops (j::js)::k)).finish v) cs) (w.setChan c cap vs.toArray false s (r+1) false)=lone ((b.atR a (.inRegion ops (j::js)::k)).finish v) cs (w.setChan c cap vs.toArray false s (r+1) false) from rfl,gj a js k ho v]
 have hw2:=hw.write hL (.chan cap vs.toArray false s (r+1) false)
 have hdn:d < n:=Nat.le_of_ble_eq_true hd
 exact t' _ hw2 js hj (a.put (some d) v) cs Φ (by rw [lW];exact hn) (by rw [my _ _ _ (hn ▸ hdn),he]) (by rw [j3];exact hds) hF
end comm
section runs2
variable {P:Program} {e:Env} {X:Cx} {h:HF} {L:LH} {d:Option Nat} {ty:TypeId} {pos:String} {af:Array Edge} {g:Option (Nat×Bool)}
theorem J5 {t E:TypeId} {dir:ChanDir} {ch:Operand} {c cap s r:Nat} {vs:List Value} (hT:P.underlying t=some (.chan dir E)) (hL:(c,Obj.chan cap vs.toArray false s r false)∈L) (hch:e.ev ch=.chan (some c)):
  ∀ w,St X h L w→(execOp e.ev ⟨d,.call ⟨.builtin .len,#[ch],#[t]⟩,ty,pos,af,g⟩).run P w=.ok (.value (.int .i64 (vs.length:Nat))) w:=fun w hw=>by
 have hb:w.heap[c]? = some (.chan cap vs.toArray false s r false):=hw.own _ hL
 have hg:(getObj c).run P w=.ok (.chan cap vs.toArray false s r false) w:=by simp [getObj,Sem.run,hb]
 simp [execOp,resolve,invoke,builtin,Builtin.len_,hch,run_underlying hT,hg,goInt]
theorem Gv {t E:TypeId} {x lo:Operand} {sz bk n m cap i:Nat} {a:Bool} (hT:P.underlying t=some (.slice E)) (hS:tySz P E=some (sz,a)) (hx:e.ev x=.slice (some ⟨bk,0,none⟩) n cap) (hlo:e.ev lo=.int .i64 (i:Nat)) (hi:i < n) (hc:n≤cap) (hm:n - i=m) (h1:sz=1:=by rfl):
  ∀ w,St X h L w→(execOp e.ev ⟨d,.slice t x (some lo) none none,ty,pos,af,g⟩).run P w=.ok (.value (.slice (some ⟨bk,i,none⟩) m (cap - i))) w:=fun w hw=>by
 subst h1 hm
 have h2:¬ (cap=i):=by omega
 have h3:(⟨bk,0,none⟩:Addr).add i=⟨bk,i,none⟩:=nA bk i
 simp [execOp,Instr.sliceAt,Instr.slice,Instr.sliceBounds,Instr.sliceBound,hx,hlo,asIntOf,run_underlying hT,fN hS,h2,h3,Nat.le_of_lt hi]
end runs2
theorem Dh {P:Program} {α : Type} {R:Rp α} {X:Cx} {h:HF} {w:World} {L:LH} {t ty E:TypeId} {xs ys:List α} {base:Option Addr} {cap:Nat} {x:Value} {by_:Nat} {a:Bool} {zs:List Value}
  (hw:St X h L w) (hT:P.underlying t=some (.slice E)) (hS:tySz P E=some (R.sz,a)) (hz:zeroC P E=some zs) (hzl:zs.length=R.sz) (hby:bytesOf P E=some by_) (hs1:Src R h L (.slice base xs.length cap) xs) (hsrc:Src R h L x ys)
  (hcap:cap < xs.length+ys.length) (hb:(xs.length+ys.length) * by_≤140737488355328) (hb2:xs.length+ys.length≤9223372036854775807):
  ∃ base' cap' G' w',(Builtin.append_ #[t,t] ty #[.slice base xs.length cap,x]).run P w=.ok (.slice base' (xs++ys).length cap') w'∧cJ R E h (xs++ys) base' cap' G'∧St X h (G'++L) w':=by
 obtain ⟨i,hi,hby'⟩:∃ i,P.info? E=some i∧i.bytes=by_:=by
  unfold bytesOf at hby
  cases hi:P.info? E with
  | none=>simp [hi] at hby
  | some i=>exact ⟨i,rfl,by simpa [hi] using hby⟩
 have hsz:i.size=R.sz:=by
  have:=fN hS w
  simpa [sizeOf,typeInfo,hi] using this
 obtain ⟨z,hzz,hzc⟩:∃ z,i.zero=some z∧z.cells=zs.toArray:=by
  unfold zeroC at hz
  cases hzz:i.zero with
  | none=>simp [hi,hzz] at hz
  | some z=>exact ⟨z,rfl,by simp [hi,hzz] at hz;rw [mr,hz]⟩
 have hnewlen:(xs++ys).length=xs.length+ys.length:=by simp
 have hroom:¬ xs.length+ys.length≤cap:=by omega
 have hwd:St X h L w.drew:=hw.drew _
 obtain ⟨cl0,b0,c0,hx0,hc0,hf0⟩:=sM (P:=P) hs1 hwd
 obtain ⟨cl',b1,c1,hx',hc',hf'⟩:=sM (P:=P) hsrc hwd
 have hfit:Builtin.nextslicecap (xs.length+ys.length) cap * i.bytes≤281474976710656:=growslice_fits hcap (by rw [hby'];exact hb)
 have h48':¬ (281474976710656 < Builtin.nextslicecap (xs.length+ys.length) cap * i.bytes):=by omega
 have h63':¬ (9223372036854775807 < ((xs.length:Int)+(ys.length:Int))):=by omega
 have hge:=grownCap_ge w (xs.length+ys.length) cap E
 let nc:=grownCap w (xs.length+ys.length) cap E
 let rest:=(Builtin.zeroCells z.cells (nc - (xs.length+ys.length))).toList
 refine ⟨some ⟨w.heap.size,0,none⟩,nc,[(w.heap.size,.cells ((cl0++cl')++rest).toArray E (0,0))],w.drew.alloc (.cells ((cl0++cl')++rest).toArray E),?_,?_,?_⟩
 ·subst hx'
  rw [← hsz] at hf0 hf'
  simp [Builtin.append_,run_underlying hT,sizeOf,typeInfo,zeroValue,hi,hzz,Builtin.lenOf,hroom,h63',h48',Question.forced,hf0,hf',newRow,grownCap,nc,rest]
  congr 2
  apply Array.ext'
  simp
 ·refine .inr ⟨w.heap.size,cl0++cl',rest,rfl,aT.app hc' hc0,?_,by rw [hnewlen];exact hge,by rw [hnewlen];exact hb2,rfl⟩
  have:rest.length=(nc - (xs.length+ys.length)) * R.sz:=by
   simp [rest,Builtin.zeroCells,hzc,hzl]
  simp only [List.length_append,this,hc0.len,hc'.len,← Nat.add_mul]
  congr 1
  omega
 ·exact hwd.alloc (.cells ((cl0++cl')++rest).toArray E (0,0))
section steps3
variable {P:Program} {b:Frame} {n:Nat} {ops:Array Oper} {F:List Frame→(Machine→Prop)→Prop} {e:Env} {ds:List Deferred} {X:Cx} {h:HF} {L:LH} {K:Env→HF→LH→Prop}
variable {d:Option Nat} {ty:TypeId} {pos:String} {af:Array Edge} {g:Option (Nat×Bool)}
theorem Bd {α : Type} {R:Rp α} {t E:TypeId} {s y:Operand} {xs ys:List α} {base:Option Addr} {cap:Nat} {m by_:Nat} {a:Bool} {zs:List Value}
  (hT:P.underlying t=some (.slice E)) (hS:tySz P E=some (R.sz,a)) (hz:zeroC P E=some zs) (hzl:zs.length=R.sz) (hby:bytesOf P E=some by_)
  (hs1:Src R h L (.slice base xs.length cap) xs) (hx:e.ev s=.slice base m cap) (hm:m=xs.length) (hsrc:Src R h L (e.ev y) ys) (hcap:cap < xs.length+ys.length)
  (hb:(xs.length+ys.length) * by_≤140737488355328) (hb2:xs.length+ys.length≤9223372036854775807)
  (t':∀ base' cap' G',cJ R E h (xs++ys) base' cap' G'→K (pute e d (.slice base' (xs++ys).length cap')) h (G'++L))
  (hgd:guardB ops e ⟨d,.call ⟨.builtin .append,#[s,y],#[t,t]⟩,ty,pos,af,g⟩=true:=by rfl):Stp P b n ops F ds X ⟨d,.call ⟨.builtin .append,#[s,y],#[t,t]⟩,ty,pos,af,g⟩ e h L K:=
 ig hgd fun w hw=>by
  subst hm
  obtain ⟨base',cap',G',w',hr,hG',hst⟩:=Dh (P:=P) (ty:=ty) hw hT hS hz hzl hby hs1 hsrc hcap hb hb2
  refine ⟨_,w',h,_,?_,hst,t' _ _ _ hG'⟩
  simp [execOp,resolve,invoke,builtin,hx,hr]
theorem Gr {t E:TypeId} {len sz:Nat} {a:Bool} {parts:Array (Nat×Operand)} {zs cells:List Value} (hXM:∀ b∈X.M,b < X.w0.heap.size) (hT:P.underlying t=some (.slice E)) (hS:tySz P E=some (sz,a)) (hz:zeroC P E=some zs) (hpos:Nat.blt 0 (len * sz)=true)
  (hlt:Nat.ble (len * sz) 16777216=true)
  (hc:Instr.fill (fun i=>some (i * sz,sz)) ((Array.range (len * sz)).map (zs.toArray[· % zs.toArray.size]!)) (parts.toList.map fun p=>(p.1,e.ev p.2))=some cells.toArray)
  (t':∀ bk,bk∉X.M→K (pute e d (.slice (some ⟨bk,0,none⟩) len len)) h ((bk,.cells cells.toArray E (0,0))::L))
  (hg:guardB ops e ⟨d,.buildSlice t len parts,ty,pos,af,g⟩=true:=by rfl):Stp P b n ops F ds X ⟨d,.buildSlice t len parts,ty,pos,af,g⟩ e h L K:=
 ig hg fun w hw=>by
  obtain ⟨z,h1,h2⟩:=pP hz w
  have hp:=m8 hpos
  have hl:=Nat.le_of_ble_eq_true hlt
  have hparts:(parts.map fun x=>(x.1,e.ev x.2)).toList=parts.toList.map fun p=>(p.1,e.ev p.2):=by simp
  refine ⟨_,_,h,_,?_,hw.alloc _,t' _ (fun hm=>by have:=hXM _ hm;have:=hw.size;omega)⟩
  have hne:¬ len * sz=0:=by omega
  have hnl:¬ len * sz > 2 ^ 24:=by omega
  simp only [execOp,Instr.buildSlice,Sem.run_bind,run_underlying hT,Result.andThen_ok,fN hS,hnl,hne,if_false,h1,h2,Sem.run_pure,hparts]
  rw [hc]
  simp [newRow]
theorem B1 (A Q:LH) {t:Nat} {ass:Array Operand} {ats:Array TypeId} {fv:Value} {vs:List Value} {Φ : LH→Prop} (hL:L.Perm (A++Q))
  (hs:ld P fv vs.toArray h A (fun x h' B=>x=.returned (.tuple #[])∧h'=h∧Φ B)) (hf:e t=fv) (hvs:ass.toList.map e.ev=vs) (t':∀ B,Φ B→K (pute e d (.tuple #[])) h (B++Q))
  (hg:guardB ops e ⟨d,.call ⟨.value (.tmp t),ass,ats⟩,ty,pos,af,g⟩=true:=by rfl):Stp P b n ops F ds X ⟨d,.call ⟨.value (.tmp t),ass,ats⟩,ty,pos,af,g⟩ e h L K:=by
 unfold Stp
 rw [if_pos hg]
 intro w hw
 have hw':=hw.perm hL
 have harr:ass.map e.ev=vs.toArray:=Array.ext' (by simp [← hvs])
 obtain ⟨nx,hrun,hcall⟩:=hs w (Pre.left (A:=A) hw'.pre)
 have hr:(execOp e.ev ⟨d,.call ⟨.value (.tmp t),ass,ats⟩,ty,pos,af,g⟩).run P w=.ok nx w:=by
  rw [← hrun]
  simp [execOp,resolve,Env.ev,harr,hf]
 rw [hr]
 refine jF (kZ hcall) (hcall.mono ?_)
 rintro x w' ⟨h',B,hst,rfl,rfl,hB⟩
 exact ⟨h',_,St.after (A:=A) (F:=Q) hw' hst,t' B hB⟩
theorem HB {o:Oper} {L':LH} (hp:L.Perm L') (t:Stp P b n ops F ds X o e h L' K) (hg:guardB ops e o=true:=by rfl):Stp P b n ops F ds X o e h L K:=by
 unfold Stp at t ⊢
 rw [if_pos hg] at t ⊢
 exact fun w hw=>t w (hw.perm hp)
end steps3
section runs3
variable {P:Program} {e:Env} {X:Cx} {h:HF} {L:LH} {d:Option Nat} {ty:TypeId} {pos:String} {af:Array Edge} {g:Option (Nat×Bool)}
theorem J6 {t E:TypeId} {x hi mx:Operand} {sz n cap:Nat} {a:Bool} {base:Option Addr} (hT:P.underlying t=some (.slice E)) (hS:tySz P E=some (sz,a)) (hx:e.ev x=.slice base n cap) (hhi:e.ev hi=.int .i64 (n:Nat)) (hmx:e.ev mx=.int .i64 (n:Nat)) (hc:n≤cap):
  ∀ w,St X h L w→(execOp e.ev ⟨d,.slice t x none (some hi) (some mx),ty,pos,af,g⟩).run P w=.ok (.value (.slice base n n)) w:=fun w hw=>by
 by_cases h0:n=0
 ·subst h0
  simp [execOp,Instr.sliceAt,Instr.slice,Instr.sliceBounds,Instr.sliceBound,hx,hhi,hmx,asIntOf,run_underlying hT,fN hS,hc]
 ·simp [execOp,Instr.sliceAt,Instr.slice,Instr.sliceBounds,Instr.sliceBound,hx,hhi,hmx,asIntOf,run_underlying hT,fN hS,hc,h0,Addr.add]
def fldT (P:Program) (s:TypeId) (i:Nat):Option (Nat×Nat):=
 match P.underlying s with
 | some (.struct fs)=>match fs[i]? with
  | some f=>some (f.type,f.offset)
  | none=>none
 | _=>none
theorem HM {s t:TypeId} {x:Operand} {i off m:Nat} {cl cs:List Value} (hf:fldT P s i=some (t,off)) (hT:tySz P t=some (m,true)) (hx:e.ev x=.agg cl.toArray) (hv:cut cl off m=some cs):
  ∀ w,St X h L w→(execOp e.ev ⟨d,.field s x i,ty,pos,af,g⟩).run P w=.ok (.value (.agg cs.toArray)) w:=fun w hw=>by
 unfold fldT at hf
 split at hf
 ·rename_i fs hu
  split at hf
  ·rename_i f hfi
   simp only [Option.some.injEq,Prod.mk.injEq] at hf
   obtain ⟨rfl,rfl⟩:=hf
   obtain ⟨h1,h2⟩:=sX hv
   have he:(cl.drop f.offset).take m=cs:=by
    apply List.ext_getElem?
    intro j
    rw [List.getElem?_take]
    split
    ·next hj=>
     have:=h2 j (cs[j]'(by omega)) (List.getElem?_eq_getElem (by omega))
     rw [gy] at this
     rw [List.getElem?_drop,this,List.getElem?_eq_getElem]
    ·next hj=>rw [List.getElem?_eq_none (by omega)]
   simp [execOp,Instr.field,run_underlying hu,hfi,hx,asAgg,part,uS hT,fN hT,he]
  ·cases hf
 ·cases hf
end runs3
theorem Bz {κ α : Type} [DecidableEq κ] (k:κ) {m m':List (κ×α)} (hp:m.Perm m') (hn:(m.map (·.1)).Nodup):(mdel m k).Perm (mdel m' k):=by
 induction hp with
 | nil=>exact List.Perm.refl _
 | cons x p ih=>
  obtain ⟨k',v'⟩:=x
  rw [List.map_cons,List.nodup_cons] at hn
  simp only [mdel]
  split
  ·exact p
  ·exact List.Perm.cons _ (ih hn.2)
 | swap x y l=>
  obtain ⟨a,va⟩:=x
  obtain ⟨b,vb⟩:=y
  simp only [List.map_cons,List.nodup_cons,List.mem_cons,not_or] at hn
  simp only [mdel]
  by_cases h1:k=b
  ·have h2:¬ k=a:=fun e=>hn.1.1 (h1.symm.trans e)
   simp only [h1,h2,if_true,if_false]
   rw [if_neg (h1 ▸ h2)]
  ·by_cases h2:k=a
   ·simp only [h1,h2,if_true,if_false]
    rw [if_neg (h2 ▸ h1)]
   ·simp only [h1,h2,if_false]
    exact List.Perm.swap _ _ _
 | trans p q ih1 ih2=>exact (ih1 hn).trans (ih2 ((p.map _).nodup_iff.1 hn))
theorem zk {κ α : Type} [DecidableEq κ] (k:κ):∀ (m:List (κ×α)),(mdel m k).Sublist m
 | []=>List.Sublist.refl _
 | (k',v')::m=>by
  simp only [mdel]
  split
  ·exact .cons _ (List.Sublist.refl _)
  ·exact .cons_cons _ (zk k m)
theorem m9.del {κ α : Type} {enc:κ→Value} {V:HF→Value→α→Prop} {h:HF} [DecidableEq κ] {k:κ}:∀ {es:List MapEntry} {m:List (κ×α)} (j:Nat),m9 enc V h es m →
  match findIn k (m.map (·.1)) es j with
  | some (i,_)=>j≤i∧i - j < es.length∧m9 enc V h (es.eraseIdx (i - j)) (mdel m k)
  | none=>m9 enc V h es (mdel m k)
 | [],[],_,_=>trivial
 | e::es,(k',v)::m,j,⟨a,b,c⟩=>by
  simp only [List.map_cons,findIn,mdel]
  by_cases hk:k=k'
  ·simp only [hk,if_true]
   refine ⟨Nat.le_refl _,by simp,?_⟩
   rw [Nat.sub_self];exact c
  ·simp only [hk,if_false]
   have ih:=m9.del (k:=k) (j+1) c
   cases hf:findIn k (m.map (·.1)) es (j+1) with
   | none=>rw [hf] at ih;exact ⟨a,b,ih⟩
   | some p=>
    obtain ⟨i,u⟩:=p
    rw [hf] at ih
    obtain ⟨h1,h2,h3⟩:=ih
    have e1:i - j=(i - (j+1))+1:=by omega
    refine ⟨by omega,by simp;omega,?_⟩
    rw [e1,List.eraseIdx_cons_succ];exact ⟨a,b,h3⟩
 | [],_::_,_,x=>x.elim
 | _::_,[],_,x=>x.elim
section del
variable {P:Program} {b:Frame} {n:Nat} {ops:Array Oper} {F:List Frame→(Machine→Prop)→Prop} {e:Env} {ds:List Deferred} {X:Cx} {h:HF} {L:LH} {K:Env→HF→LH→Prop}
variable {d:Option Nat} {ty:TypeId} {pos:String} {af:Array Edge} {g:Option (Nat×Bool)} {κ α : Type} {enc:κ→Value} {V:HF→Value→α→Prop} [DecidableEq κ]
theorem HE (i:Nat) {t T E kt:TypeId} {mo ko:Operand} {bk:Nat} {o:Obj} {m:List (κ×α)} {k:κ} (hT:P.underlying t=some (.map T E)) (hK:tA P T enc) (hL:nth L i=some (bk,o)) (hm:hY enc V h o m)
  (hmo:e.ev mo=.map (some bk)) (hko:e.ev ko=enc k)
  (t':∀ o',hY enc V h o' (mdel m k)→K (pute e d (.tuple #[])) h (setNth L i (bk,o')))
  (hg:guardB ops e ⟨d,.call ⟨.builtin .delete,#[mo,ko],#[t,kt]⟩,ty,pos,af,g⟩=true:=by rfl):Stp P b n ops F ds X ⟨d,.call ⟨.builtin .delete,#[mo,ko],#[t,kt]⟩,ty,pos,af,g⟩ e h L K:=
 ig hg fun w hw=>by
  obtain ⟨m',hp,hn,es,c,rfl,hE,hB,hC⟩:=hm
  have hb:w.heap[bk]? = some (.map es.toArray c):=by
   have h2:=hL
   rw [gy] at h2
   exact hw.own _ (List.mem_of_getElem? h2)
  have hf:=hK.find k (m'.map (·.1)) es w hE.keys
  have hd:=hE.del (k:=k) 0
  have hnd:((mdel m' k).map (·.1)).Nodup:=hn.sublist ((zk k m').map _)
  cases hr:findIn k (m'.map (·.1)) es 0 with
  | none=>
   rw [hr] at hf hd
   refine ⟨.tuple #[],{ w with heap:=w.heap.setIfInBounds bk (.map es.toArray c) },h,_,?_,hw.write hL _,t' (.map es.toArray c) ⟨_,Bz k hp hn,hnd,es,c,rfl,hd,hB,hC⟩⟩
   simp [execOp,resolve,invoke,builtin,Builtin.delete_,hmo,hko,run_underlying hT,lj hb,hK.check,hf,oY hb]
  | some p=>
   obtain ⟨j,u⟩:=p
   rw [hr] at hf hd
   obtain ⟨_,hlt,hd⟩:=hd
   rw [Nat.sub_zero] at hd hlt
   refine ⟨.tuple #[],{ w with heap:=w.heap.setIfInBounds bk (.map (es.eraseIdx j).toArray c) },h,_,?_,hw.write hL _,t' (.map (es.eraseIdx j).toArray c) ⟨_,Bz k hp hn,hnd,es.eraseIdx j,c,rfl,hd,hB.sublist ((List.eraseIdx_sublist es j).map _),fun e he=>hC e ((List.eraseIdx_sublist es j).subset he)⟩⟩
   have he:es.toArray.eraseIdxIfInBounds j=(es.eraseIdx j).toArray:=by simp
   simp [execOp,resolve,invoke,builtin,Builtin.delete_,hmo,hko,run_underlying hT,lj hb,hK.check,hf,oY hb,he]
end del
theorem sR {α : Type} [DecidableEq α]:∀ {a b:List α},a.Nodup→(∀ x∈a,x∈b)→a.length≤b.length
 | [],b,_,_=>Nat.zero_le _
 | x::a,b,hn,hs=>by
  rw [List.nodup_cons] at hn
  have hx:x∈b:=hs x (List.mem_cons_self ..)
  have ih:=sR (b:=b.erase x) hn.2 (fun y hy=>by
   have hne:y≠x:=fun e=>hn.1 (e ▸ hy)
   rw [List.mem_erase_of_ne hne];exact hs y (List.mem_cons_of_mem _ hy))
  rw [List.length_erase_of_mem hx] at ih
  have:=List.length_pos_of_mem hx
  simp only [List.length_cons]
  omega
section frz
variable {P:Program} {b:Frame} {n:Nat} {k:List Item} {F:List Frame→(Machine→Prop)→Prop} {e:Env} {ds:List Deferred} {X:Cx} {h:HF} {L:LH}
theorem EE {todo:List Item} (A G Q:LH) (hL:L=A++(G++Q)) (hM:X.M=[]) (t:∀ h2,h.le h2→(∀ p∈G,h2 p.1=some p.2)→TT P b n todo F e ds X h2 (A++Q)):TT P b n todo F e ds X h L:=by
 subst hL
 intro w hw
 obtain ⟨h1,h2,h3⟩:=hw.freezeMid hM
 exact t _ h2 h3 w h1
theorem IZ {c:Code} {ι : Type} (sl:ι→List (Nat×Value)) (hh:ι→HF) (LL:ι→LH) (I:ι→Prop) (hk:∀ i,I i→∀ e',TT P b n k F (upds e' (sl i)) ds X (hh i) (LL i))
  (t':(∀ i e',I i→jg e' (sl i)→TT P b n k F e' ds X (hh i) (LL i))→TT P b n (.code c::k) F e ds X h L):TT P b n (.code c::k) F e ds X h L:=
 t' fun i e' hI hr=>by have:=hk i hI e';rw [hr.upds] at this;exact this
end frz
end Go.Sg
namespace Go.Sg
def attR:Except Int Unit→Int
 | .ok _=>0
 | .error e=>e
def idxByte (s:ByteArray) (c:Int):Int:=match (List.range s.size).find? (fun i=>s[i]! == UInt8.ofNat c.toNat) with
 | some i=>(i:Nat)
 | none=>-1
def bsI (xs:List Int) (t:Int):Int:=((xs.countP (· < t):Nat):Int)
def slices_BinarySearch_int (x:List Int) (target:Int):Int×Bool:=(bsI x target,x.contains target)
def insI (x:Int):List Int→List Int
 | []=>[x]
 | y::l=>bif decide (x≤y) then x::y::l else y::insI x l
def sortI:List Int→List Int
 | []=>[]
 | x::l=>insI x (sortI l)
theorem wq (x:Int):∀ l,(insI x l).Perm (x::l)
 | []=>List.Perm.refl _
 | y::l=>by
  simp only [insI,Bool.cond_eq_ite]
  split
  ·exact List.Perm.refl _
  ·exact (List.Perm.cons y (wq x l)).trans (List.Perm.swap x y l)
theorem iX:∀ xs,(sortI xs).Perm xs
 | []=>List.Perm.refl _
 | x::l=>(wq x _).trans (List.Perm.cons x (iX l))
theorem hZ (xs:List Int):(sortI xs).length=xs.length:=(iX xs).length_eq
theorem xa (x:Int):∀ l:List Int,l.Pairwise (·≤·)→(insI x l).Pairwise (·≤·)
 | [],_=>by simp [insI]
 | y::l,h=>by
  rw [List.pairwise_cons] at h
  simp only [insI,Bool.cond_eq_ite,decide_eq_true_eq]
  split
  ·next hxy=>
   rw [List.pairwise_cons]
   refine ⟨fun z hz=>?_,List.pairwise_cons.2 h⟩
   rcases List.mem_cons.1 hz with rfl | hz
   ·exact hxy
   ·exact Int.le_trans hxy (h.1 z hz)
  ·next hxy=>
   rw [List.pairwise_cons]
   refine ⟨fun z hz=>?_,xa x l h.2⟩
   rcases List.mem_cons.1 ((wq x l).mem_iff.1 hz) with rfl | hz
   ·omega
   ·exact h.1 z hz
theorem jT:∀ xs,(sortI xs).Pairwise (·≤·)
 | []=>List.Pairwise.nil
 | x::l=>xa x _ (jT l)
theorem oW:∀ {a b:List Int},a.Pairwise (·≤·)→b.Pairwise (·≤·)→a.Perm b→a=b
 | [],b,_,_,p=>(List.Perm.nil_eq p)
 | x::a,[],_,_,p=>absurd p.length_eq (by simp)
 | x::a,y::b,ha,hb,p=>by
  have hx:x=y:=by
   have h1:x∈y::b:=p.mem_iff.1 (List.mem_cons_self ..)
   have h2:y∈x::a:=p.mem_iff.2 (List.mem_cons_self ..)
   rw [List.pairwise_cons] at ha hb
   rcases List.mem_cons.1 h1 with e | h1
   ·exact e
   ·rcases List.mem_cons.1 h2 with e | h2
    ·exact e.symm
    ·have:=ha.1 y h2;have:=hb.1 x h1;omega
  subst hx
  rw [List.pairwise_cons] at ha hb
  rw [oW ha.2 hb.2 (List.Perm.cons_inv p)]
theorem C5 {xs ys:List Int} (p:xs.Perm ys):sortI xs=sortI ys:=
 oW (jT _) (jT _) ((iX xs).trans (p.trans (iX ys).symm))
def insS (x:OSeat):List OSeat→List OSeat
 | []=>[x]
 | y::l=>bif decide (x.person≤y.person) then x::y::l else y::insS x l
def seatS:List OSeat→List OSeat
 | []=>[]
 | x::l=>insS x (seatS l)
theorem wp (x:OSeat):∀ l,(insS x l).Perm (x::l)
 | []=>List.Perm.refl _
 | y::l=>by
  simp only [insS,Bool.cond_eq_ite]
  split
  ·exact List.Perm.refl _
  ·exact (List.Perm.cons y (wp x l)).trans (List.Perm.swap x y l)
theorem li:∀ xs,(seatS xs).Perm xs
 | []=>List.Perm.refl _
 | x::l=>(wp x _).trans (List.Perm.cons x (li l))
theorem w9 (x:OSeat):∀ l:List OSeat,l.Pairwise (fun a b=>a.person≤b.person)→(insS x l).Pairwise (fun a b=>a.person≤b.person)
 | [],_=>by simp [insS]
 | y::l,h=>by
  rw [List.pairwise_cons] at h
  simp only [insS,Bool.cond_eq_ite,decide_eq_true_eq]
  split
  ·next hxy=>
   rw [List.pairwise_cons]
   refine ⟨fun z hz=>?_,List.pairwise_cons.2 h⟩
   rcases List.mem_cons.1 hz with rfl | hz
   ·exact hxy
   ·exact Int.le_trans hxy (h.1 z hz)
  ·next hxy=>
   rw [List.pairwise_cons]
   refine ⟨fun z hz=>?_,w9 x l h.2⟩
   rcases List.mem_cons.1 ((wp x l).mem_iff.1 hz) with rfl | hz
   ·omega
   ·exact h.1 z hz
theorem qr:∀ xs,(seatS xs).Pairwise (fun a b=>a.person≤b.person)
 | []=>List.Pairwise.nil
 | x::l=>w9 x _ (qr l)
theorem Cq (xs:List Int):(xs.mergeSort fun x y=>decide (x≤y))=sortI xs:=by
 have h:=List.pairwise_mergeSort (le:=fun x y:Int=>decide (x≤y)) (fun a b c h1 h2=>by simp at *;omega) (fun a b=>by simp;omega) xs
 exact oW (h.imp (fun h=>by simpa using h)) (jT _) ((List.mergeSort_perm _ _).trans (iX xs).symm)
end Go.Sg
namespace Go.Sg
def dv (dK:Int) (low:Int) (high:Int):Bool:=(decide (low≤dK)&&decide (dK≤high))
def e6 (dK:Int):Bool:=(dv dK 0 31)
def cN (dK:Int):Bool:=(dv dK 0 1099511627775)
def gf (dK:Int):Bool:=(dv dK 0 63)
def jB (x:Appoint):Bool:=(bif x.Gone then ((((((dv x.No 0 1048576)&&(cN x.At))&&(cN x.Known))&&(e6 x.Office))&&(gf x.Person))&&(dv x.Weight 0 0)) else ((((((dv x.No 0 1048576)&&(cN x.At))&&(cN x.Known))&&(e6 x.Office))&&(gf x.Person))&&(dv x.Weight 1 64)))
def co.K1  (gH:Int):Int:=0
def co.L1  (k:Int→Int):List Appoint→Int→Int
 | [],gH=>(k gH)
 | y1::rz1,gH=>(bif ((!(jB y1))||decide (y1.No≤gH)) then 150 else (co.L1  k rz1 y1.No))
def co (l:List Appoint):Int:=(bif (decide (4096 < (l.length:Int))) then 2 else ((co.L1 (co.K1)) l (-1)))
def eV (dK:Int) (low:Int) (high:Int):Bool:=(decide (low≤dK)&&decide (dK≤high))
def iO (dK:Int):Bool:=(eV dK 0 1099511627775)
def gX (dK:Int):Bool:=(eV dK 0 63)
def kv (x:Deputy):Bool:=(bif ((((((((!(eV x.No 0 1048576))||(!(iO x.At)))||(!(iO x.Known)))||(!(gX x.From)))||(!(gX x.To)))||(x.From==x.To))||(!(eV x.Office 0 31)))||(!(eV x.Kind (-1) 15))) then false else (bif x.Gone then ((x.Until==0)&&(x.Most==0)) else ((decide (x.At < x.Until)&&decide (x.Until≤1099511627776))&&(eV x.Most 0 1099511627776))))
def dj.K1  (gH:Int):Int:=0
def dj.L1  (k:Int→Int):List Deputy→Int→Int
 | [],gH=>(k gH)
 | y1::rz1,gH=>(bif ((!(kv y1))||decide (y1.No≤gH)) then 160 else (dj.L1  k rz1 y1.No))
def dj (l:List Deputy):Int:=(bif (decide (4096 < (l.length:Int))) then 2 else ((dj.L1 (dj.K1)) l (-1)))
def aO (dK:Int) (limit:Int):Bool:=(decide (0≤dK)&&decide (dK < limit))
def jp (x:Interest):Bool:=(bif x.Of then ((((((aO x.No 1048577)&&(aO x.At 1099511627776))&&(aO x.Known 1099511627776))&&(aO x.Party 1048577))&&(aO x.Person 1048577))&&(x.Person != x.Party)) else (((((aO x.No 1048577)&&(aO x.At 1099511627776))&&(aO x.Known 1099511627776))&&(aO x.Party 1048577))&&(aO x.Person 64)))
def bK.K1  (gH:Int):Int:=0
def bK.L1  (k:Int→Int):List Interest→Int→Int
 | [],gH=>(k gH)
 | y1::rz1,gH=>(bif ((!(jp y1))||decide (y1.No≤gH)) then 290 else (bK.L1  k rz1 y1.No))
def bK (l:List Interest):Int:=(bif (decide (4096 < (l.length:Int))) then 2 else ((bK.L1 (bK.K1)) l (-1)))
def bT.K1  : Int:=(-1)
def bT.L1 (f:(Int→Bool)) (k:Int):List Int→Nat→Int
 | [],i1=>(k)
 | y1::rz1,i1=>(bif (f y1) then (i1:Int) else (bT.L1 f k rz1 (i1+1)))
def bT (s:List Int) (f:(Int→Bool)):Int:=((bT.L1 f (bT.K1)) s 0)
def cU (s:List Int) (f:(Int→Bool)):Bool:=decide (0≤(bT s f))
def iI (dK:Int) (v0:Int) (v1:Int):Bool:=(decide (dK < v0)||decide (v1 < dK))
def bL (least:Int) (most:Int) (l:List Int):Bool:=(!(cU l (fun dX=>iI dX least most)))
def kR (x:Budget):Bool:=(bif x.Gone then ((((((bL 0 1048576 ([x.No]))&&(bL 0 1099511627775 ([x.At,x.Known])))&&(bL (-1) 15 ([x.Kind])))&&(bL 1 1099511627776 ([x.Period])))&&(bL 0 0 ([x.Count])))&&(bL 0 0 ([x.Value]))) else ((((((bL 0 1048576 ([x.No]))&&(bL 0 1099511627775 ([x.At,x.Known])))&&(bL (-1) 15 ([x.Kind])))&&(bL 1 1099511627776 ([x.Period])))&&(bL 0 1048576 ([x.Count])))&&(bL 0 1099511627776 ([x.Value]))))
def dl.K1  (gH:Int):Int:=0
def dl.L1  (k:Int→Int):List Budget→Int→Int
 | [],gH=>(k gH)
 | y1::rz1,gH=>(bif ((!(kR y1))||decide (y1.No≤gH)) then 180 else (dl.L1  k rz1 y1.No))
def dl (l:List Budget):Int:=(bif (decide (4096 < (l.length:Int))) then 2 else ((dl.L1 (dl.K1)) l (-1)))
def aE.L2  (k:List fB):List fB→List fB
 | []=>k
 | y2::rz2=>(y2::(aE.L2 k rz2))
def aE.L3  (k:List fB):List fB→List fB
 | []=>k
 | y3::rz3=>(y3::(aE.L3 k rz3))
def aE.K1  : List fB:=[]
def aE.L1 (rec:Expr→Int→List fB) (depth:Int) (k:List fB):List Expr→List fB
 | []=>(k)
 | y1::rz1=>((aE.L3 ((aE.L1 rec depth k rz1))) (rec y1 (depth+1)))
def aE.F (rec:Expr→Int→List fB) (x:Expr) (depth:Int):List fB:=((fB.mk (Expr.mk x.Kind x.N x.No x.Name x.L) depth)::((aE.L1 rec depth (aE.K1)) x.L))
def aE.go:Nat→Expr→Int→List fB
 | 0=>fun _ _=>[]
 | m+1=>aE.F (aE.go m)
def aY (x:Expr) (depth:Int):List fB:=aE.go x.dep x depth
def dZ (ok:Bool) (JL:Int):(Except Int Unit):=(bif (!ok) then (Except.error JL) else (Except.ok ()))
def ai.K1 (p:Policy) (AI:List Expr):List Expr:=(AI++[p.Change])
def ai.L1  (k:List Expr→List Expr):List Rule→List Expr→List Expr
 | [],AI=>(k AI)
 | y1::rz1,AI=>(ai.L1  k rz1 (AI++[y1.Expr]))
def ai (p:Policy):List Expr:=((ai.L1 (ai.K1 p)) p.Rules ([]))
def bU.L2  (k:Int→(Except Int Unit)):List fB→Int→(Except Int Unit)
 | [],xZ=>k xZ
 | y2::rz2,xZ=>(exi (dZ (decide ((IntKind.wrap .i64 (xZ+1))≤256)&&decide (y2.depth≤16)) 2) (fun _=>(bU.L2 k rz2 (IntKind.wrap .i64 (xZ+1)))))
def bU.L3  (k:Int→(Except Int Unit)):List fB→Int→(Except Int Unit)
 | [],xY=>k xY
 | y3::rz3,xY=>(exi (dZ (decide ((IntKind.wrap .i64 (xY+1))≤256)&&decide (y3.depth≤16)) 2) (fun _=>(bU.L3 k rz3 (IntKind.wrap .i64 (xY+1)))))
def bU.K1  : (Except Int Unit):=(Except.ok ())
def bU.L1  (k:(Except Int Unit)):List Expr→(Except Int Unit)
 | []=>(k)
 | y1::rz1=>((bU.L3 (fun zg3_b3_0=>(bU.L1  k rz1))) (aY y1 1) 0)
def bU (p:Policy):(Except Int Unit):=(exi (dZ ((decide ((p.Offices.length:Int)≤32)&&decide ((p.Kinds.length:Int)≤16))&&decide ((p.Rules.length:Int)≤16)) 2) (fun _=>((bU.L1 (bU.K1)) (ai p))))
def cA (x:Expr):Bool:=((x.Kind==1)||(x.Kind==2))
def gg (s:ByteArray) (c:Int):Int:=(idxByte s c)
def strings_IndexByte (s:ByteArray) (c:Int):Int:=(gg s c)
def iL (c:Int):Int:=(bif ((decide (97≤c)&&decide (c≤122))||(decide (65≤c)&&decide (c≤90))) then 2 else (bif (decide (48≤c)&&decide (c≤57)) then 3 else (bif (c==95) then 5 else (bif ((((c==32)||(c==9))||(c==10))||(c==13)) then 1 else (bif (decide (0≤(strings_IndexByte (⟨#[123,125,40,41,59,44,61,58,46,60,62,33,43,45,42,47]⟩:ByteArray) c))) then 4 else 0)))))
def de.K1  : Bool:=true
def de.L1 (s:ByteArray) (k:Bool):List Nat→Nat→Bool
 | [],i1=>(k)
 | y1::rz1,i1=>(bif ((((iL ((s.data.getD ((i1:Int):Int).toNat 0).toNat:Int)) != 2)&&((iL ((s.data.getD ((i1:Int):Int).toNat 0).toNat:Int)) != 3))&&((iL ((s.data.getD ((i1:Int):Int).toNat 0).toNat:Int)) != 5)) then false else (de.L1 s k rz1 (i1+1)))
def de (s:ByteArray):Bool:=(bif (((s.toList==(⟨#[]⟩:ByteArray).toList)||decide (32 < (s.size:Int)))||((iL ((s.data.getD (0:Int).toNat 0).toNat:Int)) != 2)) then false else ((de.L1 s (de.K1)) (List.range s.size) 0))
def db (s:ByteArray):Bool:=(bif (s.toList==(⟨#[112,111,108,105,99,121]⟩:ByteArray).toList) then (bif (s.toList==(⟨#[112,111,108,105,99,121]⟩:ByteArray).toList) then false else (de s)) else (bif (s.toList==(⟨#[109,111,100,101]⟩:ByteArray).toList) then (bif (s.toList==(⟨#[109,111,100,101]⟩:ByteArray).toList) then false else (de s)) else (bif (s.toList==(⟨#[111,108,100]⟩:ByteArray).toList) then (bif (s.toList==(⟨#[111,108,100]⟩:ByteArray).toList) then false else (de s)) else (bif (s.toList==(⟨#[110,101,119]⟩:ByteArray).toList) then (bif (s.toList==(⟨#[110,101,119]⟩:ByteArray).toList) then false else (de s)) else (bif (s.toList==(⟨#[98,111,116,104]⟩:ByteArray).toList) then (bif (s.toList==(⟨#[98,111,116,104]⟩:ByteArray).toList) then false else (de s)) else (bif (s.toList==(⟨#[101,105,116,104,101,114]⟩:ByteArray).toList) then (bif (s.toList==(⟨#[101,105,116,104,101,114]⟩:ByteArray).toList) then false else (de s)) else (bif (s.toList==(⟨#[111,102,102,105,99,101]⟩:ByteArray).toList) then (bif (s.toList==(⟨#[111,102,102,105,99,101]⟩:ByteArray).toList) then false else (de s)) else (bif (s.toList==(⟨#[107,105,110,100]⟩:ByteArray).toList) then (bif (s.toList==(⟨#[107,105,110,100]⟩:ByteArray).toList) then false else (de s)) else (bif (s.toList==(⟨#[114,117,108,101]⟩:ByteArray).toList) then (bif (s.toList==(⟨#[114,117,108,101]⟩:ByteArray).toList) then false else (de s)) else (bif (s.toList==(⟨#[116,104,105,110,107]⟩:ByteArray).toList) then (bif (s.toList==(⟨#[116,104,105,110,107]⟩:ByteArray).toList) then false else (de s)) else (bif (s.toList==(⟨#[99,104,97,110,103,101]⟩:ByteArray).toList) then (bif (s.toList==(⟨#[99,104,97,110,103,101]⟩:ByteArray).toList) then false else (de s)) else (bif (s.toList==(⟨#[115,111,109,101]⟩:ByteArray).toList) then (bif (s.toList==(⟨#[115,111,109,101]⟩:ByteArray).toList) then false else (de s)) else (bif (s.toList==(⟨#[119,101,105,103,104,116]⟩:ByteArray).toList) then (bif (s.toList==(⟨#[119,101,105,103,104,116]⟩:ByteArray).toList) then false else (de s)) else (bif (s.toList==(⟨#[111,102]⟩:ByteArray).toList) then (bif (s.toList==(⟨#[111,102]⟩:ByteArray).toList) then false else (de s)) else (bif (s.toList==(⟨#[117,112,116,111]⟩:ByteArray).toList) then (bif (s.toList==(⟨#[117,112,116,111]⟩:ByteArray).toList) then false else (de s)) else (bif (s.toList==(⟨#[101,108,115,101]⟩:ByteArray).toList) then false else (de s)))))))))))))))))
def aJ.K1  : Int:=(-1)
def aJ.L1 (v:ByteArray) (k:Int):List ByteArray→Nat→Int
 | [],i1=>(k)
 | y1::rz1,i1=>(bif (v.toList==y1.toList) then (i1:Int) else (aJ.L1 v k rz1 (i1+1)))
def aJ (s:List ByteArray) (v:ByteArray):Int:=((aJ.L1 v (aJ.K1)) s 0)
def bn.K1  : Bool:=true
def bn.L1 (l:List ByteArray) (ok:(ByteArray→Bool)) (k:Bool):List ByteArray→Nat→Bool
 | [],i1=>(k)
 | y1::rz1,i1=>(bif ((!(ok y1))||((aJ l y1) != (i1:Int))) then false else (bn.L1 l ok k rz1 (i1+1)))
def bn (l:List ByteArray) (ok:(ByteArray→Bool)):Bool:=((bn.L1 l ok (bn.K1)) l 0)
def cq (s:List ByteArray) (v:ByteArray):Bool:=decide (0≤(aJ s v))
def bV.L2 (p:Policy) (k:(Except Int Unit)):List fB→(Except Int Unit)
 | []=>k
 | y2::rz2=>(exi (dZ ((!(cA y2.x))||(cq p.Offices y2.x.Name)) 201) (fun _=>(bV.L2 p k rz2)))
def bV.L3 (p:Policy) (k:(Except Int Unit)):List fB→(Except Int Unit)
 | []=>k
 | y3::rz3=>(exi (dZ ((!(cA y3.x))||(cq p.Offices y3.x.Name)) 201) (fun _=>(bV.L3 p k rz3)))
def bV.K1  : (Except Int Unit):=(Except.ok ())
def bV.L1 (p:Policy) (k:(Except Int Unit)):List Expr→(Except Int Unit)
 | []=>(k)
 | y1::rz1=>((bV.L3 p ((bV.L1 p k rz1))) (aY y1 1))
def bV (p:Policy):(Except Int Unit):=(exi (dZ (((db p.Name)&&(bn p.Offices db))&&(bn p.Kinds db)) 201) (fun _=>((bV.L1 p (bV.K1)) (ai p))))
def aH (dK:Int) (low:Int) (high:Int):Bool:=(decide (low≤dK)&&decide (dK≤high))
def lK (x0:Expr):Bool:=false
def ir (x:Expr):Bool:=((x.N==0)&&((x.L.length:Int)==0))
def iq (x:Expr):Bool:=((aH x.N 1 4096)&&((x.L.length:Int)==0))
def ip (x:Expr):Bool:=(((x.Name.toList==(⟨#[]⟩:ByteArray).toList)&&(aH (x.L.length:Int) 1 16))&&(aH x.N 1 (x.L.length:Int)))
def gQ (x:Expr):Bool:=(((x.Name.toList==(⟨#[]⟩:ByteArray).toList)&&((x.L.length:Int)==2))&&(aH x.N 0 1099511627776))
def kindsP (i:Int) (x:Expr):Bool:=if i=0 then lK x else if i=1 then ir x else if i=2 then iq x else if i=3 then ip x else gQ x
def aX.L3 (p:Policy) (k:(Except Int Unit)):List fB→(Except Int Unit)
 | []=>k
 | y3::rz3=>(exi (dZ ((aH y3.x.Kind 1 4)&&(kindsP y3.x.Kind y3.x)) 200) (fun _=>(exi (dZ (decide (0 < (IntKind.wrap .i64 (((ai p).length:Int) - 1)))||(y3.x.Kind != 4)) 200) (fun _=>(aX.L3 p k rz3)))))
def aX.L4 (p:Policy) (i2:Nat) (k:(Except Int Unit)):List fB→(Except Int Unit)
 | []=>k
 | y4::rz4=>(exi (dZ ((aH y4.x.Kind 1 4)&&(kindsP y4.x.Kind y4.x)) 200) (fun _=>(exi (dZ (decide ((i2:Int) < (IntKind.wrap .i64 (((ai p).length:Int) - 1)))||(y4.x.Kind != 4)) 200) (fun _=>(aX.L4 p i2 k rz4)))))
def aX.K2  : (Except Int Unit):=(Except.ok ())
def aX.L2 (p:Policy) (k:(Except Int Unit)):List Expr→Nat→(Except Int Unit)
 | [],i2=>(k)
 | y2::rz2,i2=>((aX.L4 p i2 ((aX.L2 p k rz2 (i2+1)))) (aY y2 1))
def aX.K1 (p:Policy):(Except Int Unit):=((aX.L2 p (aX.K2)) (ai p) 0)
def aX.L1 (p:Policy) (k:(Except Int Unit)):List Rule→Nat→(Except Int Unit)
 | [],i1=>(k)
 | y1::rz1,i1=>(exi (dZ ((y1.Kind.toList==(nthI p.Kinds (i1:Int)).toList)&&(aH y1.Think 0 1099511627775)) 200) (fun _=>(aX.L1 p k rz1 (i1+1))))
def aX (p:Policy):(Except Int Unit):=(exi (dZ ((decide (0 < (p.Kinds.length:Int))&&((p.Rules.length:Int)==(p.Kinds.length:Int)))&&(aH p.Mode 1 4)) 200) (fun _=>((aX.L1 p (aX.K1 p)) p.Rules 0)))
def cK (p:Policy):(Except Int Unit):=(exi (bU p) (fun _=>(exi (bV p) (fun _=>(exi (aX p) (fun _=>(Except.ok ())))))))
def ad.K1 (offices:List ByteArray) (x:Expr) (jz:List Expr):Expr:=(Expr.mk x.Kind x.N (aJ offices x.Name) x.Name jz)
def ad.L1 (rec:List ByteArray→Expr→Expr) (offices:List ByteArray) (k:List Expr→Expr):List Expr→List Expr→Expr
 | [],jz=>(k jz)
 | y1::rz1,jz=>(ad.L1 rec offices k rz1 (jz++[(rec offices y1)]))
def ad.K2 (x:Expr) (jy:List Expr):Expr:=(Expr.mk x.Kind x.N 0 x.Name jy)
def ad.L2 (rec:List ByteArray→Expr→Expr) (offices:List ByteArray) (k:List Expr→Expr):List Expr→List Expr→Expr
 | [],jy=>(k jy)
 | y2::rz2,jy=>(ad.L2 rec offices k rz2 (jy++[(rec offices y2)]))
def ad.F (rec:List ByteArray→Expr→Expr) (offices:List ByteArray) (x:Expr):Expr:=(bif (cA (Expr.mk x.Kind x.N 0 x.Name x.L)) then ((ad.L1 rec offices (ad.K1 offices x)) x.L ([])) else ((ad.L2 rec offices (ad.K2 x)) x.L ([])))
def ad.go:Nat→List ByteArray→Expr→Expr
 | 0=>fun _ _=>default
 | m+1=>ad.F (ad.go m)
def ad (offices:List ByteArray) (x:Expr):Expr:=ad.go x.dep offices x
def dk.K1 (p:Policy) (k9:List Rule):(Policy×Int):=((Policy.mk p.Name p.Kinds p.Offices k9 (Expr.mk ((ad p.Offices p.Change).Kind) ((ad p.Offices p.Change).N) ((ad p.Offices p.Change).No) ((ad p.Offices p.Change).Name) ((ad p.Offices p.Change).L)) p.Mode),0)
def dk.L1 (p:Policy) (k:List Rule→(Policy×Int)):List Rule→Nat→List Rule→(Policy×Int)
 | [],i1,k9=>(k k9)
 | y1::rz1,i1,k9=>(dk.L1 p k rz1 (i1+1) (k9++[(Rule.mk y1.Kind (i1:Int) y1.Think (Expr.mk ((ad p.Offices y1.Expr).Kind) ((ad p.Offices y1.Expr).N) ((ad p.Offices y1.Expr).No) ((ad p.Offices y1.Expr).Name) ((ad p.Offices y1.Expr).L)))]))
def dk (p:Policy):(Policy×Int):=(bif ((attR (cK p)) != 0) then ((Policy.mk (⟨#[]⟩:ByteArray) ([]) ([]) ([]) (Expr.mk 0 0 0 (⟨#[]⟩:ByteArray) ([])) 0),(attR (cK p))) else ((dk.L1 p (dk.K1 p)) p.Rules 0 ([])))
def bD.K1  : Bool:=true
def bD.L1 (offices:List ByteArray) (k:Bool):List fB→Bool
 | []=>k
 | y1::rz1=>(bif (cA y1.x) then (bif (y1.x.No != (aJ offices y1.x.Name)) then false else (bD.L1 offices k rz1)) else (bif (y1.x.No != 0) then false else (bD.L1 offices k rz1)))
def bD (offices:List ByteArray) (x:Expr):Bool:=((bD.L1 offices (bD.K1)) (aY x 1))
def bZ.K1 (p:Policy):Int:=(bif (!(bD p.Offices p.Change)) then 200 else 0)
def bZ.L1 (p:Policy) (k:Int):List Rule→Nat→Int
 | [],i1=>(k)
 | y1::rz1,i1=>(bif ((y1.KindNo != (i1:Int))||(!(bD p.Offices y1.Expr))) then 200 else (bZ.L1 p k rz1 (i1+1)))
def bZ (p:Policy):Int:=(bif ((dk p).2 != 0) then (dk p).2 else ((bZ.L1 p (bZ.K1 p)) p.Rules 0))
def bg.K1  (gH:Int):Int:=0
def bg.L1  (k:Int→Int):List Version→Int→Int
 | [],gH=>(k gH)
 | y1::rz1,gH=>(bif ((((!(aH y1.No (IntKind.wrap .i64 (gH+1)) 1048576))||(!(aH y1.At 0 1099511627775)))||(!(aH y1.Known 0 1099511627775)))||((bZ y1.Policy) != 0)) then 200 else (bg.L1  k rz1 y1.No))
def bg (l:List Version):Int:=(bif (decide (256 < (l.length:Int))) then 2 else ((bg.L1 (bg.K1)) l (-1)))
def bi.K1 (l:List Document) (dt:List (Int×Int)):gv:=(gv.mk l dt)
def bi.L1  (k:(List (Int×Int))→gv):List Document→Nat→(List (Int×Int))→gv
 | [],i1,dt=>(k dt)
 | y1::rz1,i1,dt=>(bi.L1  k rz1 (i1+1) (mput dt y1.No (i1:Int)))
def bi (l:List Document):gv:=((bi.L1 (bi.K1 l)) l 0 ([]))
def jd (t:Int):Bool:=(decide (0≤t)&&decide (t < 1099511627776))
def cY.K1 (l:List Int) (gY:Int):Bool:=decide ((l.length:Int)≤16)
def cY.L1 (limit:Int) (k:Int→Bool):List Int→Int→Bool
 | [],gY=>(k gY)
 | y1::rz1,gY=>(bif (decide (y1≤gY)||decide (limit≤y1)) then false else (cY.L1 limit k rz1 y1))
def cY (l:List Int) (limit:Int):Bool:=((cY.L1 limit (cY.K1 l)) l (-1))
def fG (d:Document):Bool:=((((((((((((decide (0≤d.No)&&decide (d.No < 4096))&&(jd d.At))&&decide (0≤d.Kind))&&decide (d.Kind < 16))&&decide (0≤d.Value))&&decide (d.Value≤1099511627776))&&decide (0≤d.From))&&decide (d.From < d.Until))&&decide (d.Until≤1099511627776))&&(cY d.Parties 1048577))&&(cY d.Revokes d.No))&&(cY d.Needs d.No))
def dI (no:Int) (v0:gv):Bool:=(!(mhas v0.at_ no))
def dT (s:gv) (d:Document):Bool:=((!(cU d.Revokes (fun dX=>dI dX s)))&&(!(cU d.Needs (fun dX=>dI dX s))))
def bH.K1  : Int:=0
def bH.L1 (l:List Document) (k:Int):List Document→Nat→Int
 | [],i1=>(k)
 | y1::rz1,i1=>(bif (((!(fG y1))||(decide (0 < (i1:Int))&&decide (y1.No≤(nthI l ((i1:Int) - 1)).No)))||(!(dT (bi l) y1))) then 170 else (bH.L1 l k rz1 (i1+1)))
def bH (l:List Document):Int:=(bif (decide (4096 < (l.length:Int))) then 2 else ((bH.L1 l (bH.K1)) l 0))
def ie (dK:Int) (v0:Int):Bool:=(decide (dK < 0)||decide (v0 < dK))
def dW (most:Int) (l:List Int):Bool:=(!(cU l (fun dX=>ie dX most)))
def jR (x:Approval):Bool:=(((((dW 1048576 ([x.No]))&&(dW 1099511627775 ([x.At,x.Known])))&&(dW 4095 ([x.Doc])))&&(dW 63 ([x.By,x.For])))&&(dW 31 ([x.Office])))
def cp.K1  (gH:Int):Int:=0
def cp.L1  (k:Int→Int):List Approval→Int→Int
 | [],gH=>(k gH)
 | y1::rz1,gH=>(bif ((!(jR y1))||decide (y1.No≤gH)) then 280 else (cp.L1  k rz1 y1.No))
def cp (l:List Approval):Int:=(bif (decide (4096 < (l.length:Int))) then 2 else ((cp.L1 (cp.K1)) l (-1)))
def eP.K1  : Int:=0
def eP.L1 (aZ:Register) (k:Int):List Nat→Nat→Int
 | [],i1=>(k)
 | y1::rz1,i1=>(bif ((nthI ([(co aZ.Appoints),(dj aZ.Deputies),(bK aZ.Interests),(dl aZ.Budgets),(bg aZ.Versions),(bH aZ.Docs),(cp aZ.Approvals)]) (i1:Int)) != 0) then 300 else (eP.L1 aZ k rz1 (i1+1)))
def eP (aZ:Register):Int:=((eP.L1 aZ (eP.K1)) (List.range 7) 0)
def jE (t:Int):Bool:=(decide (0≤t)&&decide (t < 1099511627776))
def ab.K1  : Int:=(-1)
def ab.L1 (f:(Document→Bool)) (k:Int):List Document→Nat→Int
 | [],i1=>(k)
 | y1::rz1,i1=>(bif (f y1) then (i1:Int) else (ab.L1 f k rz1 (i1+1)))
def ab (s:List Document) (f:(Document→Bool)):Int:=((ab.L1 f (ab.K1)) s 0)
def bP (d:Document) (v0:Int):Bool:=(d.No==v0)
def cB (aZ:Register) (doc:Int) (known:Int):(aC×Bool):=(bif (decide ((ab aZ.Docs (fun dX=>bP dX doc)) < 0)||(!(jE known))) then ((aC.mk (Register.mk ([]) ([]) ([]) ([]) ([]) ([]) ([])) (Document.mk 0 0 0 0 0 0 ([]) ([]) ([]) (fun _=>0)) 0),false) else ((aC.mk aZ (nthI aZ.Docs (ab aZ.Docs (fun dX=>bP dX doc))) known),true))
def fo.K1  (gH:Int):Bool:=true
def fo.L1  (k:Int→Bool):List Int→Int→Bool
 | [],gH=>(k gH)
 | y1::rz1,gH=>(bif (decide (y1≤gH)||decide (64≤y1)) then false else (fo.L1  k rz1 y1))
def fo (who:List Int):Bool:=((fo.L1 (fo.K1)) who (-1))
def cmp_isNaN_int (x:Int):Bool:=(x != x)
def aK.K1  : List Span:=[]
def aK.L1 (l:List Int) (k:List Span):List Int→Nat→List Span
 | [],i1=>(k)
 | y1::rz1,i1=>(bif (decide ((((i1+1):Nat):Int) < (l.length:Int))) then (bif (decide (y1 < (min 1099511627776 (nthI l (((i1+1):Nat):Int))))) then ((Span.mk y1 (min 1099511627776 (nthI l (((i1+1):Nat):Int))))::(aK.L1 l k rz1 (i1+1))) else (aK.L1 l k rz1 (i1+1))) else (bif (decide (y1 < 1099511627776)) then ((Span.mk y1 1099511627776)::(aK.L1 l k rz1 (i1+1))) else (aK.L1 l k rz1 (i1+1))))
def aK (l:List Int):List Span:=((aK.L1 l (aK.K1)) l 0)
def aB.L4 (q:aC) (k:(List (Int×Bool))→List Span):List Rule→(List (Int×Bool))→List Span
 | [],qQ=>(k qQ)
 | y4::rz4,qQ=>(aB.L4 q k rz4 (mput qQ (q.doc.At+y4.Think) true))
def aB.L5 (q:aC) (k:(List (Int×Bool))→List Span):List Rule→(List (Int×Bool))→List Span
 | [],jY=>(k jY)
 | y5::rz5,jY=>(aB.L5 q k rz5 (mput jY (q.doc.At+y5.Think) true))
def aB.K3  (jo:List (Int×Bool)):List Span:=(aK (sortI (jo.map Prod.fst)))
def aB.L3 (q:aC) (k:(List (Int×Bool))→List Span):List Version→(List (Int×Bool))→List Span
 | [],jo=>(k jo)
 | y3::rz3,jo=>((aB.L5 q (fun zg5_b2_0=>(aB.L3 q k rz3 zg5_b2_0))) y3.Policy.Rules (mput jo y3.At true))
def aB.K2 (q:aC) (kE:List (Int×Bool)):List Span:=((aB.L3 q (aB.K3)) q.Register.Versions kE)
def aB.L2  (k:(List (Int×Bool))→List Span):List Interest→(List (Int×Bool))→List Span
 | [],kE=>(k kE)
 | y2::rz2,kE=>(aB.L2  k rz2 (mput kE y2.At true))
def aB.K1 (q:aC) (dt:List (Int×Bool)):List Span:=((aB.L2 (aB.K2 q)) q.Register.Interests dt)
def aB.L1  (k:(List (Int×Bool))→List Span):List Appoint→(List (Int×Bool))→List Span
 | [],dt=>(k dt)
 | y1::rz1,dt=>(aB.L1  k rz1 (mput dt y1.At true))
def aB (q:aC):List Span:=((aB.L1 (aB.K1 q)) q.Register.Appoints (mput (mput (mput ([]) 0 true) q.doc.At true) q.doc.Until true))
def cv.K1  (gH:Int):Bool:=true
def cv.L1  (k:Int→Bool):List Int→Int→Bool
 | [],gH=>(k gH)
 | y1::rz1,gH=>(bif (decide (y1≤gH)||decide (64≤y1)) then false else (cv.L1  k rz1 y1))
def cv (who:List Int):Bool:=((cv.L1 (cv.K1)) who (-1))
def cd.L2  (k:List Int→Bool):List Holder→List Int→Bool
 | [],Kk=>(k Kk)
 | y2::rz2,Kk=>(bif (decide (y2.Weight < 1)||decide (64 < y2.Weight)) then false else (cd.L2  k rz2 (Kk++[y2.Person])))
def cd.L3  (k:List Int→Bool):List Holder→List Int→Bool
 | [],GD=>(k GD)
 | y3::rz3,GD=>(bif (decide (y3.Weight < 1)||decide (64 < y3.Weight)) then false else (cd.L3  k rz3 (GD++[y3.Person])))
def cd.K1 (holders:List (List Holder)) (offices:Int):Bool:=((holders.length:Int)==offices)
def cd.L1  (k:Bool):List (List Holder)→Bool
 | []=>(k)
 | y1::rz1=>((cd.L3 (fun zg3_7=>(bif (!(cv zg3_7)) then false else (cd.L1  k rz1)))) y1 ([]))
def cd (holders:List (List Holder)) (offices:Int):Bool:=((cd.L1 (cd.K1 holders offices)) holders)
def bN.K1  : List Holder:=[]
def bN.L1 (q:aR) (k:List Holder):List Holder→List Holder
 | []=>(k)
 | y1::rz1=>(bif ((slices_BinarySearch_int q.who y1.Person).2) then (y1::(bN.L1 q k rz1)) else (bN.L1 q k rz1))
def bN (q:aR) (office:Int):List Holder:=((bN.L1 q (bN.K1)) (nthI q.holders office))
def fg (q:aR) (office:Int):List Holder:=(bN q office)
def cG.K1  (aF:Bool):Bool:=false
def cG.L1  (k:Bool→Bool):List Holder→Bool→Bool
 | [],aF=>k aF
 | y1::rz1,aF=>true
def cG (q:aR) (x:Expr):Bool:=((cG.L1 (cG.K1)) (fg q x.No) false)
def cr.K1 (x:Expr) (aF:Int):Bool:=decide (x.N≤aF)
def cr.L1  (k:Int→Bool):List Holder→Int→Bool
 | [],aF=>k aF
 | y1::rz1,aF=>(cr.L1 k rz1 (IntKind.wrap .i64 (aF+y1.Weight)))
def cr (q:aR) (x:Expr):Bool:=((cr.L1 (cr.K1 x)) (fg q x.No) 0)
def dp.K1 (x:Expr) (gY:Int):Bool:=decide (x.N≤gY)
def dp.L1 (rec:aR→Expr→Bool) (q:aR) (k:Int→Bool):List Expr→Int→Bool
 | [],gY=>(k gY)
 | y1::rz1,gY=>(bif (rec q y1) then (dp.L1 rec q k rz1 (IntKind.wrap .i64 (gY+1))) else (dp.L1 rec q k rz1 gY))
def dp.F (rec:aR→Expr→Bool) (q:aR) (x:Expr):Bool:=((dp.L1 rec q (dp.K1 x)) x.L 0)
def gZ.F (rec:aR→Expr→Bool) (q:aR) (x:Expr):Bool:=(bif (decide (q.value≤x.N)) then (rec q (nthI x.L 0)) else (rec q (nthI x.L 1)))
def fulQ (rec:aR→Expr→Bool) (q:aR) (x:Expr):Bool:=if x.Kind=1 then cG q x else if x.Kind=2 then cr q x else if x.Kind=3 then dp.F rec q x else gZ.F rec q x
def ck.F (rec:aR→Expr→Bool) (q:aR) (x:Expr):Bool:=(fulQ rec q x)
def ck.go:Nat→aR→Expr→Bool
 | 0=>fun _ _=>default
 | m+1=>ck.F (ck.go m)
def ck (q:aR) (x:Expr):Bool:=ck.go x.dep q x
def bW (p:Policy) (kind:Int) (value:Int) (holders:List (List Holder)) (who:List Int):(Bool×Int):=(bif ((bZ p) != 0) then (false,(bZ p)) else (bif (((decide (kind < 0)||decide ((p.Kinds.length:Int)≤kind))||decide (value < 0))||decide (1099511627776 < value)) then (false,1) else (bif (!(cd holders (p.Offices.length:Int))) then (false,210) else (bif (!(cv who)) then (false,1) else ((ck (aR.mk value holders who) ((nthI p.Rules kind).Expr)),0)))))
def fI (l:List Version) (old:Bool):List Version:=l
def fq (l:List Version) (old:Bool):List Version:=(bif (!old) then [] else (l.take ((1:Int)).toNat))
def fH (l:List Version) (old:Bool):List Version:=(l.drop ((((l.length:Int) - 1):Int)).toNat)
def gO  : (List (Int×Value)):=(mput (mput (mput (mput ([]) 1 (Value.func (.func 143) #[] #[])) 2 (Value.func (.func 144) #[] #[])) 3 (Value.func (.func 142) #[] #[])) 4 (Value.func (.func 142) #[] #[]))
def judgesP (mode:Int) (l:List Version) (old:Bool):List Version:=bif mode==1 then fq l old else bif mode==2 then fH l old else fI l old
def ft (mode:Int) (permits:List Bool):Int:=(bif (!(mhas gO mode)) then 270 else (bif (decide (256 < (permits.length:Int))) then 1 else 0))
def du.K1  : Int:=(-1)
def du.L1 (f:(Bool→Bool)) (k:Int):List Bool→Nat→Int
 | [],i1=>(k)
 | y1::rz1,i1=>(bif (f y1) then (i1:Int) else (du.L1 f k rz1 (i1+1)))
def du (s:List Bool) (f:(Bool→Bool)):Int:=((du.L1 f (du.K1)) s 0)
def bX (l:List Bool) (ok:(Bool→Bool)):Int:=(du l ok)
def dH (E8:Bool):Bool:=E8
def eN (E8:Bool):Bool:=(!E8)
def aM.K1 (permits:List Bool) (oN:List Int):(List Int×Bool×Int):=(oN,decide (0≤(bX permits dH)),0)
def aM.L1  (k:List Int→(List Int×Bool×Int)):List Bool→Nat→List Int→(List Int×Bool×Int)
 | [],i1,oN=>(k oN)
 | y1::rz1,i1,oN=>(aM.L1  k rz1 (i1+1) (oN++[(i1:Int)]))
def aM.K2 (permits:List Bool) (AH:List Int):(List Int×Bool×Int):=(AH,(((permits.length:Int)==1)&&(nthI permits 0)),0)
def aM.L2  (k:List Int→(List Int×Bool×Int)):List Bool→Nat→List Int→(List Int×Bool×Int)
 | [],i2,AH=>(k AH)
 | y2::rz2,i2,AH=>(aM.L2  k rz2 (i2+1) (AH++[(i2:Int)]))
def aM.K3  (AG:List Int):(List Int×Bool×Int):=(AG,false,0)
def aM.L3  (k:List Int→(List Int×Bool×Int)):List Bool→Nat→List Int→(List Int×Bool×Int)
 | [],i3,AG=>(k AG)
 | y3::rz3,i3,AG=>(aM.L3  k rz3 (i3+1) (AG++[(i3:Int)]))
def aM (mode:Int) (permits:List Bool):(List Int×Bool×Int):=(bif ((ft mode permits) != 0) then ([],false,(ft mode permits)) else (bif ((mode==4)&&decide (0≤(bX permits dH))) then ([(bX permits dH)],true,0) else (bif ((mode==3)&&decide (0≤(bX permits eN))) then ([(bX permits eN)],false,0) else (bif (mode==3) then ((aM.L1 (aM.K1 permits)) permits 0 ([])) else (bif (mode != 4) then ((aM.L2 (aM.K2 permits)) permits 0 ([])) else ((aM.L3 (aM.K3)) permits 0 ([])))))))
def eT (mode:Int) (permits:List Bool):(Bool×Int):=((aM mode permits).2.1,(aM mode permits).2.2)
def bq.K1 (person:Int) (parties:List Int) (cD:Int) (known:Int) (BJ:Int):Int:=(bif ((((!(aO person 64))||decide (16 < (parties.length:Int)))||(!(aO cD 1099511627776)))||(!(aO known 1099511627776))) then 1 else 0)
def bq.L1  (k:Int→Int):List Int→Int→Int
 | [],BJ=>(k BJ)
 | y1::rz1,BJ=>(bif (decide (y1≤BJ)||decide (1048576 < y1)) then 1 else (bq.L1  k rz1 y1))
def bq (l:List Interest) (person:Int) (parties:List Int) (cD:Int) (known:Int):Int:=(bif ((bK l) != 0) then (bK l) else ((bq.L1 (bq.K1 person parties cD known)) parties (-1)))
def bo.K1  : List Interest:=[]
def bo.L1 (v1:List (cm×Interest)) (k:List Interest):List Interest→List Interest
 | []=>(k)
 | y1::rz1=>(bif ((!y1.Gone)&&(decide ((mgetD v1 (cm.mk y1.Person y1.Party y1.Of) (Interest.mk 0 0 0 0 0 false false))=y1))) then (y1::(bo.L1 v1 k rz1)) else (bo.L1 v1 k rz1))
def bo (v0:List Interest) (v1:List (cm×Interest)):List Interest:=((bo.L1 v1 (bo.K1)) v0)
def bu.K1 (l:List Interest) (dt:List (cm×Interest)):List Interest:=(bo l dt)
def bu.L1 (fc:Int) (known:Int) (k:(List (cm×Interest))→List Interest):List Interest→(List (cm×Interest))→List Interest
 | [],dt=>(k dt)
 | y1::rz1,dt=>(bif (decide (fc < y1.At)||decide (known < y1.Known)) then (bu.L1 fc known k rz1 dt) else (bif ((!(mhas dt (cm.mk y1.Person y1.Party y1.Of)))||decide ((mgetD dt (cm.mk y1.Person y1.Party y1.Of) (Interest.mk 0 0 0 0 0 false false)).At≤y1.At)) then (bu.L1 fc known k rz1 (mput dt (cm.mk y1.Person y1.Party y1.Of) y1)) else (bu.L1 fc known k rz1 dt)))
def bu (l:List Interest) (fc:Int) (known:Int):List Interest:=((bu.L1 fc known (bu.K1 l)) l ([]))
def conPut (w:fO) (m:List (Int×Bool)) (q:List fO):List (Int×Bool)×List fO:=bif mgetD m w.to false then (m,q) else (mput m w.to true,q++[w])
def conFill (person:Int):List Interest→List (Int×List Interest)→List (Int×Bool)→List fO→List (Int×List Interest)×List (Int×Bool)×List fO
 | [],f,m,q=>(f,m,q)
 | x::l,f,m,q=>bif x.Of then conFill person l (mput f x.Person (mgetD f x.Person []++[x])) m q
  else bif x.Person==person then conFill person l f (conPut ⟨[x.No],x.Party⟩ m q).1 (conPut ⟨[x.No],x.Party⟩ m q).2 else conFill person l f m q
def conStep (path:List Int):List Interest→List (Int×Bool)→List fO→List (Int×Bool)×List fO
 | [],m,q=>(m,q)
 | x::l,m,q=>conStep path l (conPut ⟨path++[x.No],x.Party⟩ m q).1 (conPut ⟨path++[x.No],x.Party⟩ m q).2
def conLoop (parties:List Int) (f:List (Int×List Interest)):Nat→List (Int×Bool)→List fO→List Int×Bool
 | 0,_,_=>([],false)
 | _+1,_,[]=>([],false)
 | n+1,m,w::q=>bif parties.contains w.to then (w.path,true) else bif (w.path.length:Int)==8 then conLoop parties f n m q
  else conLoop parties f n (conStep w.path (mgetD f w.to []) m q).1 (conStep w.path (mgetD f w.to []) m q).2
def conFind (l:List Interest) (person:Int) (parties:List Int) (st:List Interest):List Int×Bool:=
 conLoop parties (conFill person st [] [] []).1 (l.length+1) (conFill person st [] [] []).2.1 (conFill person st [] [] []).2.2
def cX (l:List Interest) (person:Int) (parties:List Int) (cD:Int) (known:Int):List Int×Bool×Int:=
 bif bq l person parties cD known != 0 then ([],false,bq l person parties cD known)
 else ((conFind l person parties (bu l cD known)).1,(conFind l person parties (bu l cD known)).2,0)
def qg (h:HF):List Value→List fO→Prop
 | [],[]=>True
 | v::vs,w::ws=>(∃ r,v=.agg (fO.cells w r).toArray∧fO.ok h w r)∧qg h vs ws
 | _,_=>False
def V3 (_:HF) (v:Value) (x:Option Addr×Nat×Nat):Prop:=v=.slice x.1 x.2.1 x.2.2
def FR (h:HF):List (Int×Option Addr×Nat×Nat)→List (Int×List Interest)→LH→Prop
 | [],[],G=>G=[]
 | (k,x)::m,(k',xs)::f,G=>k=k'∧x.2.1=xs.length∧∃ G1 G2,G=G1++G2∧cJ Interest.rp 61 h xs x.1 x.2.2 G1∧FR h m f G2
 | _,_,_=>False
def qi (st:List Interest) (m:List (Int×Bool)) (q:List fO):Prop:=(∀ p∈m,p.2=true∧p.1∈st.map (·.Party))∧q.length≤m.length∧∀ w∈q,w.path.length≤8
def Gh (st:List Interest) (f:List (Int×List Interest)):Prop:=∀ k,∀ x∈mgetD f k [],x∈st
def aS (dK:Int) (q:aC) (at_:Int):Bool:=(((cX q.Register.Interests dK q.doc.Parties at_ q.known).2.2 != 0)||(cX q.Register.Interests dK q.doc.Parties at_ q.known).2.1)
def bv (s:List Int) (del:Int→Bool):List Int:=s.filter fun x=>!(del x)
def eC (dK:Int):Bool:=(decide (0≤dK)&&decide (dK < 1099511627776))
def bx.K2  : (List (Int×Version)):=[]
def bx.L2 (cQ:List (Int×Version)) (k:List (Int×Version)):List Int→(List (Int×Version))
 | []=>(k)
 | y2::rz2=>((y2,(mgetD cQ y2 (Version.mk 0 0 0 (Policy.mk (⟨#[]⟩:ByteArray) [] [] [] (Expr.mk 0 0 0 (⟨#[]⟩:ByteArray) []) 0))))::(bx.L2 cQ k rz2))
def bx.K1  (oM:Int) (cQ:List (Int×Version)):(List (Int×Version)):=((bx.L2 cQ (bx.K2)) (sortI (cQ.map Prod.fst)))
def bx.L1 (known:Int) (eo:Int) (k:Int→(List (Int×Version))→(List (Int×Version))):List Version→Int→(List (Int×Version))→(List (Int×Version))
 | [],oM,cQ=>(k oM cQ)
 | y1::rz1,oM,cQ=>(bif (decide (known < y1.Known)) then (bx.L1 known eo k rz1 oM cQ) else (bif (decide (y1.At≤eo)) then (bif (decide (y1.At < oM)) then (bx.L1 known eo k rz1 oM cQ) else (bx.L1 known eo k rz1 y1.At (mput cQ eo y1))) else (bx.L1 known eo k rz1 oM (mput cQ y1.At y1))))
def bx (l:List Version) (known:Int) (eo:Int):(List (Int×Version)):=((bx.L1 known eo (bx.K1)) l (-1) ([]))
def ep (l:List Version) (qS:Int) (known:Int):(List (Int×Version)):=(bx l known qS)
def ay.K2 (aF:List Version) (zE:List Int):(List Int×Int×Int):=((sortI zE),(nthI aF ((aF.length:Int) - 1)).Policy.Mode,0)
def ay.L2  (k:List Int→(List Int×Int×Int)):List Version→List Int→(List Int×Int×Int)
 | [],zE=>(k zE)
 | y2::rz2,zE=>(ay.L2  k rz2 (zE++[y2.No]))
def ay.K1  (fW:Bool) (aF:List Version):(List Int×Int×Int):=(bif ((aF.length:Int)==0) then ([],0,0) else ((ay.L2 (ay.K2 aF)) (judgesP ((nthI aF ((aF.length:Int) - 1)).Policy.Mode) aF fW) ([])))
def ay.L1 (begun:Int) (aQ:Int) (k:Bool→List Version→(List Int×Int×Int)):List (Int×Version)→Bool→List Version→(List Int×Int×Int)
 | [],fW,aF=>k fW aF
 | y1::rz1,fW,aF=>(bif (decide (aQ < y1.1)) then (k fW aF) else (ay.L1 begun aQ k rz1 (fW||(y1.1==begun)) (aF++[y1.2])))
def ay (l:List Version) (begun:Int) (aQ:Int) (known:Int):(List Int×Int×Int):=(bif ((bg l) != 0) then ([],0,(bg l)) else (bif ((((!(eC begun))||(!(eC aQ)))||(!(eC known)))||decide (aQ < begun)) then ([],0,1) else ((ay.L1 begun aQ (ay.K1)) (ep l begun known) false ([]))))
def er.K1  : Int:=(-1)
def er.L1 (v:Int) (k:Int):List Int→Nat→Int
 | [],i1=>(k)
 | y1::rz1,i1=>(bif (v==y1) then (i1:Int) else (er.L1 v k rz1 (i1+1)))
def er (s:List Int) (v:Int):Int:=((er.L1 v (er.K1)) s 0)
def el (s:List Int) (v:Int):Bool:=decide (0≤(er s v))
def ao.K1 (q:aC) (fc:Int) (oN:List Policy):(List Policy×Int):=(oN,(ay q.Register.Versions q.doc.At fc q.known).2.1)
def ao.L1 (q:aC) (fc:Int) (k:List Policy→(List Policy×Int)):List Version→List Policy→(List Policy×Int)
 | [],oN=>(k oN)
 | y1::rz1,oN=>(bif (el ((ay q.Register.Versions q.doc.At fc q.known).1) y1.No) then (ao.L1 q fc k rz1 (oN++[y1.Policy])) else (ao.L1 q fc k rz1 oN))
def ao (q:aC) (fc:Int):(List Policy×Int):=(bif ((ay q.Register.Versions q.doc.At fc q.known).2.2 != 0) then ([],0) else ((ao.L1 q fc (ao.K1 q fc)) q.Register.Versions ([])))
def bQ.K1  (cQ:List Holder):List Holder:=cQ
def bQ.L1  (k:List Holder→List Holder):List Holder→List Holder→List Holder
 | [],cQ=>k cQ
 | y1::rz1,cQ=>(bQ.L1 k rz1 (cQ++[y1]))
def bQ (seq:List Holder):List Holder:=((bQ.L1 (bQ.K1)) seq ([]))
def e7 (seq:List Holder):List Holder:=(bQ seq)
def cmp_Compare_int (x:Int) (y:Int):Int:=(bif (cmp_isNaN_int x) then (bif (cmp_isNaN_int y) then 0 else (-1)) else (bif (cmp_isNaN_int y) then 1 else (bif (decide (x < y)) then (-1) else (bif (decide (y < x)) then 1 else 0))))
def bF.K1  : List Holder:=[]
def bF.L1 (m:List (OSeat×Appoint)) (office:Int) (k:List Holder):List OSeat→List Holder
 | []=>(k)
 | y1::rz1=>(bif ((y1.office==office)&&(!((mgetD m y1 (Appoint.mk 0 0 0 0 0 0 false)).Gone))) then ((Holder.mk ((mgetD m y1 (Appoint.mk 0 0 0 0 0 0 false)).Person) ((mgetD m y1 (Appoint.mk 0 0 0 0 0 0 false)).Weight))::(bF.L1 m office k rz1)) else (bF.L1 m office k rz1))
def bF (m:List (OSeat×Appoint)) (office:Int):List Holder:=((bF.L1 m office (bF.K1)) (seatS (m.map Prod.fst)))
def gx (m:List (OSeat×Appoint)) (office:Int):List Holder:=(bF m office)
def dE (x:Appoint) (v0:Int) (v1:Int):(OSeat×Bool):=((OSeat.mk x.Office x.Person),(decide (x.At≤v0)&&decide (x.Known≤v1)))
def bE.K1  (cQ:List (OSeat×Appoint)):(List (OSeat×Appoint)):=cQ
def bE.L1 (key:(Appoint→OSeat×Bool)) (later:(Appoint→Appoint→Bool)) (k:(List (OSeat×Appoint))→(List (OSeat×Appoint))):List Appoint→(List (OSeat×Appoint))→(List (OSeat×Appoint))
 | [],cQ=>(k cQ)
 | y1::rz1,cQ=>(bif ((key y1).2&&((!(mhas cQ ((key y1).1)))||(!(later (mgetD cQ ((key y1).1) (Appoint.mk 0 0 0 0 0 0 false)) y1)))) then (bE.L1 key later k rz1 (mput cQ ((key y1).1) y1)) else (bE.L1 key later k rz1 cQ))
def bE (l:List Appoint) (key:(Appoint→OSeat×Bool)) (later:(Appoint→Appoint→Bool)):(List (OSeat×Appoint)):=((bE.L1 key later (bE.K1)) l ([]))
def e9 (a:Appoint) (iv:Appoint):Bool:=decide (iv.At < a.At)
def dV (l:List Appoint) (fc:Int) (known:Int):(List (OSeat×Appoint)):=(bE l (fun dX=>dE dX fc known) e9)
def dc (l:List Appoint) (office:Int) (aQ:Int) (known:Int):(List Holder×Int):=(bif ((co l) != 0) then ([],(co l)) else (bif (((!(e6 office))||(!(cN aQ)))||(!(cN known))) then ([],1) else ((e7 (gx (dV l aQ known) office)),0)))
def av.K1  (oM:List (List Holder)):(List (List Holder)):=oM
def av.L1 (q:aC) (aQ:Int) (k:(List (List Holder))→(List (List Holder))):List ByteArray→Nat→(List (List Holder))→(List (List Holder))
 | [],i1,oM=>(k oM)
 | y1::rz1,i1,oM=>(av.L1 q aQ k rz1 (i1+1) (oM++[(dc q.Register.Appoints (i1:Int) aQ q.known).1]))
def av (q:aC) (p:Policy) (aQ:Int):(List (List Holder)):=((av.L1 q aQ (av.K1)) p.Offices 0 ([]))
def aP.K1 (q:aC) (aQ:Int) (jL:List Bool):Bool:=((eT ((ao q aQ).2) jL).1&&((eT ((ao q aQ).2) jL).2==0))
def aP.L1 (q:aC) (who:List Int) (aQ:Int) (k:List Bool→Bool):List Policy→List Bool→Bool
 | [],jL=>(k jL)
 | y1::rz1,jL=>(bif (decide (q.doc.Kind < (y1.Rules.length:Int))&&decide ((q.doc.At+(nthI y1.Rules q.doc.Kind).Think)≤aQ)) then (aP.L1 q who aQ k rz1 (jL++[((bW y1 q.doc.Kind q.doc.Value (av q y1 aQ) (bv who (fun dX=>aS dX q aQ))).1&&((bW y1 q.doc.Kind q.doc.Value (av q y1 aQ) (bv who (fun dX=>aS dX q aQ))).2==0))])) else (aP.L1 q who aQ k rz1 (jL++[(decide (q.doc.Kind < (y1.Rules.length:Int))&&decide ((q.doc.At+(nthI y1.Rules q.doc.Kind).Think)≤aQ))])))
def aP (q:aC) (who:List Int) (aQ:Int):Bool:=(bif (decide (aQ < q.doc.At)||decide (q.doc.Until≤aQ)) then false else ((aP.L1 q who aQ (aP.K1 q aQ)) ((ao q aQ).1) ([])))
def cZ.K1  (aF:List Span):(List Span×Int):=(aF,0)
def cZ.L1 (aZ:Register) (doc:Int) (who:List Int) (known:Int) (k:List Span→(List Span×Int)):List Span→List Span→(List Span×Int)
 | [],aF=>k aF
 | y1::rz1,aF=>(bif (!(aP ((cB aZ doc known).1) who y1.From)) then (cZ.L1 aZ doc who known k rz1 aF) else (bif (decide (0 < (aF.length:Int))&&((nthI aF ((aF.length:Int) - 1)).Until==y1.From)) then (cZ.L1 aZ doc who known k rz1 (aF.set (((aF.length:Int) - 1):Int).toNat (Span.mk (nthI aF ((aF.length:Int) - 1)).From y1.Until))) else (cZ.L1 aZ doc who known k rz1 (aF++[y1]))))
def cZ (aZ:Register) (doc:Int) (who:List Int) (known:Int):(List Span×Int):=(bif ((eP aZ) != 0) then ([],300) else (bif ((!((cB aZ doc known).2))||(!(fo who))) then ([],1) else ((cZ.L1 aZ doc who known (cZ.K1)) (aB ((cB aZ doc known).1)) ([]))))
def a8.L3  (k:(List (Int×Bool))→List Int):List Holder→(List (Int×Bool))→List Int
 | [],jo=>(k jo)
 | y3::rz3,jo=>(a8.L3  k rz3 (mput jo y3.Person true))
def a8.L4  (k:(List (Int×Bool))→List Int):List Holder→(List (Int×Bool))→List Int
 | [],qQ=>(k qQ)
 | y4::rz4,qQ=>(a8.L4  k rz4 (mput qQ y4.Person true))
def a8.L2  (k:(List (Int×Bool))→List Int):List (List Holder)→(List (Int×Bool))→List Int
 | [],kE=>(k kE)
 | y2::rz2,kE=>((a8.L4 (fun zg4_b2_0=>(a8.L2  k rz2 zg4_b2_0))) y2 kE)
def a8.L7  (k:(List (Int×Bool))→List Int):List Holder→(List (Int×Bool))→List Int
 | [],pu=>(k pu)
 | y7::rz7,pu=>(a8.L7  k rz7 (mput pu y7.Person true))
def a8.L5  (k:(List (Int×Bool))→List Int):List (List Holder)→(List (Int×Bool))→List Int
 | [],jY=>(k jY)
 | y5::rz5,jY=>((a8.L7 (fun zg7_b2_0=>(a8.L5  k rz5 zg7_b2_0))) y5 jY)
def a8.K1 (person:Int) (dt:List (Int×Bool)):List Int:=(sortI ((mdel dt person).map Prod.fst))
def a8.L1 (q:aC) (aQ:Int) (k:(List (Int×Bool))→List Int):List Policy→(List (Int×Bool))→List Int
 | [],dt=>(k dt)
 | y1::rz1,dt=>((a8.L5 (fun zg5_b2_0=>(a8.L1 q aQ k rz1 zg5_b2_0))) (av q y1 aQ) dt)
def a8 (q:aC) (person:Int) (aQ:Int):List Int:=(bif (decide (aQ < q.doc.At)) then [] else ((a8.L1 q aQ (a8.K1 person)) ((ao q aQ).1) ([])))
def tryP (c:List Int→Bool) (help:List Int):Nat→Nat→List Int→Option (List Int)
 | 0,_,ws=>bif c ws then some ws else none
 | m+1,fr,ws=>(List.range' fr (help.length - m - fr)).findSome? fun i=>tryP c help m (i+1) (ws++[nthI help (i:Int)])
def needC (q:aC) (person at_:Int) (ws:List Int):Bool:=aP q (sortI (ws++[person])) at_
def needLoop (c:List Int→Bool) (help:List Int):Option (List Int):=(List.range' 0 (help.length+1)).findSome? fun many=>tryP c help many 0 []
def gN (aZ:Register) (doc:Int) (person:Int) (cD:Int) (known:Int):List Int×Bool×Int:=
 bif (eP aZ) != 0 then ([],false,300)
 else bif ((((!((cB aZ doc known).2))||decide (person < 0))||decide (64≤person))||(!(jE cD))) then ([],false,1)
 else bif decide (12 < ((a8 (cB aZ doc known).1 person cD).length:Int)) then ([],false,2)
 else match needLoop (needC (cB aZ doc known).1 person cD) (a8 (cB aZ doc known).1 person cD) with
  | some l=>(l,true,0)
  | none=>([],false,0)
def bB  : Register:=(Register.mk ([(Appoint.mk 1 0 0 0 1 1 false),(Appoint.mk 2 0 0 0 2 1 false),(Appoint.mk 3 20 30 0 3 1 false)]) ([]) ([]) ([]) ([(Version.mk 7 0 0 (Policy.mk (⟨#[112]⟩:ByteArray) ([(⟨#[107]⟩:ByteArray)]) ([(⟨#[104,101,97,100]⟩:ByteArray)]) ([(Rule.mk (⟨#[107]⟩:ByteArray) 0 5 (Expr.mk 2 2 0 (⟨#[104,101,97,100]⟩:ByteArray) ([])))]) (Expr.mk 2 2 0 (⟨#[104,101,97,100]⟩:ByteArray) ([])) 2))]) ([(Document.mk 4 10 0 0 0 100 ([6]) ([]) ([]) (fun _=>0))]) ([]))
def dO.K1  : Bool:=true
def dO.L1 (iv:List Span) (k:Bool):List Span→Nat→Bool
 | [],i1=>(k)
 | y1::rz1,i1=>(bif (!(decide (y1=(nthI iv (i1:Int))))) then false else (dO.L1 iv k rz1 (i1+1)))
def dO (a:List Span) (iv:List Span):Bool:=(bif ((a.length:Int) != (iv.length:Int)) then false else ((dO.L1 iv (dO.K1)) a 0))
def sf (aZ:Register) (known:Int) (who:List Int) (want:List Span):Bool:=(((cZ aZ 4 who known).2==0)&&(dO ((cZ aZ 4 who known).1) want))
def oz  : Bool:=true
def fb.K1  (gY:Int):Int:=gY
def fb.L1 (rec:Expr→Int→Int) (limit:Int) (k:Int→Int):List Expr→Int→Int
 | [],gY=>(k gY)
 | y1::rz1,gY=>(bif (decide (gY≤limit)) then (fb.L1 rec limit k rz1 (IntKind.wrap .i64 (gY+(rec y1 (IntKind.wrap .i64 (limit - gY)))))) else (k gY))
def fb.F (rec:Expr→Int→Int) (x:Expr) (limit:Int):Int:=((fb.L1 rec limit (fb.K1)) x.L 1)
def fb.go:Nat→Expr→Int→Int
 | 0=>fun _ _=>default
 | m+1=>fb.F (fb.go m)
def fb (x:Expr) (limit:Int):Int:=fb.go x.dep x limit
def di.L2  (k:Bool):List Rule→Bool
 | []=>(k)
 | y2::rz2=>(bif (decide (40 < (fb y2.Expr 40))) then false else (di.L2  k rz2))
def di.L3  (k:Bool):List Rule→Bool
 | []=>(k)
 | y3::rz3=>(bif (decide (40 < (fb y3.Expr 40))) then false else (di.L3  k rz3))
def di.K1  : Bool:=true
def di.L1  (k:Bool):List Version→Bool
 | []=>(k)
 | y1::rz1=>(bif (((decide (20 < (y1.Policy.Kinds.length:Int))||decide (40 < (y1.Policy.Offices.length:Int)))||decide (20 < (y1.Policy.Rules.length:Int)))||decide (40 < (fb y1.Policy.Change 40))) then false else ((di.L3 ((di.L1  k rz1))) y1.Policy.Rules))
def di (l:List Version):Bool:=(bif (decide (5 < (l.length:Int))) then false else ((di.L1 (di.K1)) l))
def jN.K1  : Bool:=true
def jN.L1  (k:Bool):List Document→Bool
 | []=>(k)
 | y1::rz1=>(bif ((decide (20 < (y1.Parties.length:Int))||decide (20 < (y1.Revokes.length:Int)))||decide (20 < (y1.Needs.length:Int))) then false else (jN.L1  k rz1))
def jN (aZ:Register):Bool:=(bif ((((((decide (30 < (aZ.Appoints.length:Int))||decide (12 < (aZ.Deputies.length:Int)))||decide (12 < (aZ.Interests.length:Int)))||decide (12 < (aZ.Budgets.length:Int)))||decide (8 < (aZ.Docs.length:Int)))||decide (24 < (aZ.Approvals.length:Int)))||(!(di aZ.Versions))) then false else ((jN.L1 (jN.K1)) aZ.Docs))
def bp.K1  : Int:=(-1)
def bp.L1 (no:Int) (k:Int):List Document→Nat→Int
 | [],i1=>(k)
 | y1::rz1,i1=>(bif (y1.No==no) then (i1:Int) else (bp.L1 no k rz1 (i1+1)))
def bp (aZ:Register) (no:Int):Int:=((bp.L1 no (bp.K1)) aZ.Docs 0)
def jx (dK:Int):Bool:=(decide (0≤dK)&&decide (dK < 32))
def ib (dK:Int):Bool:=(decide (0≤dK)&&decide (dK < 1099511627776))
def lJ (dK:Int):Bool:=(decide (0≤dK)&&decide (dK < 64))
def gW (x:Appoint):Bool:=(bif (((((decide (x.No < 0)||decide (1048576 < x.No))||(!(ib x.At)))||(!(ib x.Known)))||(!(jx x.Office)))||(!(lJ x.Person))) then false else (bif x.Gone then (x.Weight==0) else (decide (1≤x.Weight)&&decide (x.Weight≤64))))
def eH.K1  : Int:=0
def eH.L1 (l:List Appoint) (k:Int):List Appoint→Nat→Int
 | [],i1=>(k)
 | y1::rz1,i1=>(bif ((!(gW y1))||(decide (0 < (i1:Int))&&decide (y1.No≤(nthI l ((i1:Int) - 1)).No))) then 150 else (eH.L1 l k rz1 (i1+1)))
def eH (l:List Appoint):Int:=(bif (decide (4096 < (l.length:Int))) then 2 else ((eH.L1 l (eH.K1)) l 0))
def fU (dK:Int) (low:Int) (high:Int):Bool:=(decide (low≤dK)&&decide (dK≤high))
def lm (dK:Int):Bool:=(fU dK 0 1099511627775)
def jX (dK:Int):Bool:=(fU dK 0 63)
def io (x:Deputy):Bool:=(bif ((((((!(fU x.No 0 1048576))||(!(lm x.At)))||(!(lm x.Known)))||(!(jX x.From)))||(!(jX x.To)))||(x.From==x.To)) then false else (bif ((!(fU x.Office 0 31))||(!(fU x.Kind (-1) 15))) then false else (bif x.Gone then ((x.Until==0)&&(x.Most==0)) else ((decide (x.At < x.Until)&&decide (x.Until≤1099511627776))&&(fU x.Most 0 1099511627776)))))
def fR.K1  : Int:=0
def fR.L1 (l:List Deputy) (k:Int):List Deputy→Nat→Int
 | [],i1=>(k)
 | y1::rz1,i1=>(bif ((!(io y1))||(decide (0 < (i1:Int))&&decide (y1.No≤(nthI l ((i1:Int) - 1)).No))) then 160 else (fR.L1 l k rz1 (i1+1)))
def fR (l:List Deputy):Int:=(bif (decide (4096 < (l.length:Int))) then 2 else ((fR.L1 l (fR.K1)) l 0))
def ia (t:Int):Bool:=(decide (0≤t)&&decide (t < 1099511627776))
def gD (dK:Int):Bool:=(decide (0≤dK)&&decide (dK≤1048576))
def jU (dK:Int):Bool:=(decide (0≤dK)&&decide (dK < 64))
def gV (x:Interest):Bool:=(bif ((((decide (x.No < 0)||decide (1048576 < x.No))||(!(ia x.At)))||(!(ia x.Known)))||(!(gD x.Party))) then false else (bif x.Of then ((gD x.Person)&&(x.Person != x.Party)) else (jU x.Person)))
def et.K1  : Int:=0
def et.L1 (l:List Interest) (k:Int):List Interest→Nat→Int
 | [],i1=>(k)
 | y1::rz1,i1=>(bif ((!(gV y1))||(decide (0 < (i1:Int))&&decide (y1.No≤(nthI l ((i1:Int) - 1)).No))) then 290 else (et.L1 l k rz1 (i1+1)))
def et (l:List Interest):Int:=(bif (decide (4096 < (l.length:Int))) then 2 else ((et.L1 l (et.K1)) l 0))
def gu (dK:Int) (least:Int) (most:Int):Bool:=(decide (least≤dK)&&decide (dK≤most))
def jW (dK:Int):Bool:=(decide (0≤dK)&&decide (dK < 1099511627776))
def im (x:Budget):Bool:=(bif (((((!(gu x.No 0 1048576))||(!(jW x.At)))||(!(jW x.Known)))||(!(gu x.Kind (-1) 15)))||(!(gu x.Period 1 1099511627776))) then false else (bif x.Gone then ((x.Count==0)&&(x.Value==0)) else ((gu x.Count 0 1048576)&&(gu x.Value 0 1099511627776))))
def fQ.K1  : Int:=0
def fQ.L1 (l:List Budget) (k:Int):List Budget→Nat→Int
 | [],i1=>(k)
 | y1::rz1,i1=>(bif ((!(im y1))||(decide (0 < (i1:Int))&&decide (y1.No≤(nthI l ((i1:Int) - 1)).No))) then 180 else (fQ.L1 l k rz1 (i1+1)))
def fQ (l:List Budget):Int:=(bif (decide (4096 < (l.length:Int))) then 2 else ((fQ.L1 l (fQ.K1)) l 0))
def cn (dK:Int):Bool:=(decide (0≤dK)&&decide (dK < 1099511627776))
def cH.K1  (gY:Int):Int:=gY
def cH.L1 (rec:Expr→Int→Int) (limit:Int) (k:Int→Int):List Expr→Int→Int
 | [],gY=>(k gY)
 | y1::rz1,gY=>(bif (decide (gY≤limit)) then (cH.L1 rec limit k rz1 (IntKind.wrap .i64 (gY+(rec y1 (IntKind.wrap .i64 (limit - gY)))))) else (k gY))
def cH.F (rec:Expr→Int→Int) (x:Expr) (limit:Int):Int:=((cH.L1 rec limit (cH.K1)) x.L 1)
def cH.go:Nat→Expr→Int→Int
 | 0=>fun _ _=>default
 | m+1=>cH.F (cH.go m)
def cH (x:Expr) (limit:Int):Int:=cH.go x.dep x limit
def aV.K1  (gH:Int):Int:=(IntKind.wrap .i64 (gH+1))
def aV.L1 (rec:Expr→Int) (k:Int→Int):List Expr→Int→Int
 | [],gH=>(k gH)
 | y1::rz1,gH=>(aV.L1 rec k rz1 (max gH (rec y1)))
def aV.F (rec:Expr→Int) (x:Expr):Int:=((aV.L1 rec (aV.K1)) x.L 0)
def aV.go:Nat→Expr→Int
 | 0=>fun _=>default
 | m+1=>aV.F (aV.go m)
def aV (x:Expr):Int:=aV.go x.dep x
def il (x:Expr):Bool:=(decide (256 < (cH x 256))||decide (16 < (aV x)))
def eu.K1  : Bool:=false
def eu.L1  (k:Bool):List Rule→Bool
 | []=>(k)
 | y1::rz1=>(bif (il y1.Expr) then true else (eu.L1  k rz1))
def eu (p:Policy):Bool:=(bif (((decide (32 < (p.Offices.length:Int))||decide (16 < (p.Kinds.length:Int)))||decide (16 < (p.Rules.length:Int)))||(il p.Change)) then true else ((eu.L1 (eu.K1)) p.Rules))
def i8 (c:Int):Bool:=((decide (97≤c)&&decide (c≤122))||(decide (65≤c)&&decide (c≤90)))
def kD (c:Int):Bool:=(decide (48≤c)&&decide (c≤57))
def m5 (c:Int):Bool:=(((i8 c)||(kD c))||(c==95))
def fE.K1  : Bool:=true
def fE.L1 (s:ByteArray) (k:Bool):List Nat→Nat→Bool
 | [],i1=>(k)
 | y1::rz1,i1=>(bif (!(m5 ((s.data.getD ((i1:Int):Int).toNat 0).toNat:Int))) then false else (fE.L1 s k rz1 (i1+1)))
def fE (s:ByteArray):Bool:=(bif ((decide ((s.size:Int) < 1)||decide (32 < (s.size:Int)))||(!(i8 ((s.data.getD (0:Int).toNat 0).toNat:Int)))) then false else ((fE.L1 s (fE.K1)) (List.range s.size) 0))
def ll (s:ByteArray):Bool:=(bif (s.toList==(⟨#[112,111,108,105,99,121]⟩:ByteArray).toList) then (bif (s.toList==(⟨#[112,111,108,105,99,121]⟩:ByteArray).toList) then true else false) else (bif (s.toList==(⟨#[109,111,100,101]⟩:ByteArray).toList) then (bif (s.toList==(⟨#[109,111,100,101]⟩:ByteArray).toList) then true else false) else (bif (s.toList==(⟨#[111,108,100]⟩:ByteArray).toList) then (bif (s.toList==(⟨#[111,108,100]⟩:ByteArray).toList) then true else false) else (bif (s.toList==(⟨#[110,101,119]⟩:ByteArray).toList) then (bif (s.toList==(⟨#[110,101,119]⟩:ByteArray).toList) then true else false) else (bif (s.toList==(⟨#[98,111,116,104]⟩:ByteArray).toList) then (bif (s.toList==(⟨#[98,111,116,104]⟩:ByteArray).toList) then true else false) else (bif (s.toList==(⟨#[101,105,116,104,101,114]⟩:ByteArray).toList) then (bif (s.toList==(⟨#[101,105,116,104,101,114]⟩:ByteArray).toList) then true else false) else (bif (s.toList==(⟨#[111,102,102,105,99,101]⟩:ByteArray).toList) then (bif (s.toList==(⟨#[111,102,102,105,99,101]⟩:ByteArray).toList) then true else false) else (bif (s.toList==(⟨#[107,105,110,100]⟩:ByteArray).toList) then (bif (s.toList==(⟨#[107,105,110,100]⟩:ByteArray).toList) then true else false) else (bif (s.toList==(⟨#[114,117,108,101]⟩:ByteArray).toList) then (bif (s.toList==(⟨#[114,117,108,101]⟩:ByteArray).toList) then true else false) else (bif (s.toList==(⟨#[116,104,105,110,107]⟩:ByteArray).toList) then (bif (s.toList==(⟨#[116,104,105,110,107]⟩:ByteArray).toList) then true else false) else (bif (s.toList==(⟨#[99,104,97,110,103,101]⟩:ByteArray).toList) then (bif (s.toList==(⟨#[99,104,97,110,103,101]⟩:ByteArray).toList) then true else false) else (bif (s.toList==(⟨#[115,111,109,101]⟩:ByteArray).toList) then (bif (s.toList==(⟨#[115,111,109,101]⟩:ByteArray).toList) then true else false) else (bif (s.toList==(⟨#[119,101,105,103,104,116]⟩:ByteArray).toList) then (bif (s.toList==(⟨#[119,101,105,103,104,116]⟩:ByteArray).toList) then true else false) else (bif (s.toList==(⟨#[111,102]⟩:ByteArray).toList) then (bif (s.toList==(⟨#[111,102]⟩:ByteArray).toList) then true else false) else (bif (s.toList==(⟨#[117,112,116,111]⟩:ByteArray).toList) then (bif (s.toList==(⟨#[117,112,116,111]⟩:ByteArray).toList) then true else false) else (bif (s.toList==(⟨#[101,108,115,101]⟩:ByteArray).toList) then true else false))))))))))))))))
def kC (s:ByteArray):Bool:=((fE s)&&(!(ll s)))
def dC.K1  : Int:=(-1)
def dC.L1 (s:ByteArray) (k:Int):List ByteArray→Nat→Int
 | [],i1=>(k)
 | y1::rz1,i1=>(bif (y1.toList==s.toList) then (i1:Int) else (dC.L1 s k rz1 (i1+1)))
def dC (l:List ByteArray) (s:ByteArray):Int:=((dC.L1 s (dC.K1)) l 0)
def dL.K1  : Bool:=true
def dL.L1 (l:List ByteArray) (k:Bool):List ByteArray→Nat→Bool
 | [],i1=>(k)
 | y1::rz1,i1=>(bif ((!(kC y1))||((dC l y1) != (i1:Int))) then false else (dL.L1 l k rz1 (i1+1)))
def dL (l:List ByteArray):Bool:=((dL.L1 l (dL.K1)) l 0)
def bA.K1  : Bool:=true
def bA.L1 (rec:List ByteArray→Expr→Bool) (offices:List ByteArray) (k:Bool):List Expr→Bool
 | []=>(k)
 | y1::rz1=>(bif (!(rec offices y1)) then false else (bA.L1 rec offices k rz1))
def bA.F (rec:List ByteArray→Expr→Bool) (offices:List ByteArray) (x:Expr):Bool:=(bif (((x.Kind==1)||(x.Kind==2))&&decide ((dC offices x.Name) < 0)) then false else ((bA.L1 rec offices (bA.K1)) x.L))
def bA.go:Nat→List ByteArray→Expr→Bool
 | 0=>fun _ _=>default
 | m+1=>bA.F (bA.go m)
def bA (offices:List ByteArray) (x:Expr):Bool:=bA.go x.dep offices x
def fJ.K1 (p:Policy):Bool:=(bA p.Offices p.Change)
def fJ.L1 (p:Policy) (k:Bool):List Rule→Bool
 | []=>(k)
 | y1::rz1=>(bif (!(bA p.Offices y1.Expr)) then false else (fJ.L1 p k rz1))
def fJ (p:Policy):Bool:=(bif (((!(kC p.Name))||(!(dL p.Offices)))||(!(dL p.Kinds))) then false else ((fJ.L1 p (fJ.K1 p)) p.Rules))
def aA.K1 (x:Expr) (upto:Bool):Bool:=(bif (x.Kind==1) then ((x.N==0)&&((x.L.length:Int)==0)) else (bif (x.Kind==2) then ((decide (1≤x.N)&&decide (x.N≤4096))&&((x.L.length:Int)==0)) else (bif (x.Kind==3) then (((((x.Name.toList==(⟨#[]⟩:ByteArray).toList)&&decide (1≤(x.L.length:Int)))&&decide ((x.L.length:Int)≤16))&&decide (1≤x.N))&&decide (x.N≤(x.L.length:Int))) else (bif (x.Kind==4) then ((((upto&&(x.Name.toList==(⟨#[]⟩:ByteArray).toList))&&((x.L.length:Int)==2))&&decide (0≤x.N))&&decide (x.N≤1099511627776)) else false))))
def aA.L1 (rec:Expr→Bool→Bool) (upto:Bool) (k:Bool):List Expr→Bool
 | []=>(k)
 | y1::rz1=>(bif (!(rec y1 upto)) then false else (aA.L1 rec upto k rz1))
def aA.F (rec:Expr→Bool→Bool) (x:Expr) (upto:Bool):Bool:=((aA.L1 rec upto (aA.K1 x upto)) x.L)
def aA.go:Nat→Expr→Bool→Bool
 | 0=>fun _ _=>default
 | m+1=>aA.F (aA.go m)
def aA (x:Expr) (upto:Bool):Bool:=aA.go x.dep x upto
def e5.K1 (p:Policy):Bool:=(aA p.Change false)
def e5.L1 (p:Policy) (k:Bool):List Rule→Nat→Bool
 | [],i1=>(k)
 | y1::rz1,i1=>(bif ((((!(y1.Kind.toList==(nthI p.Kinds (i1:Int)).toList))||decide (y1.Think < 0))||decide (1099511627776≤y1.Think))||(!(aA y1.Expr true))) then false else (e5.L1 p k rz1 (i1+1)))
def e5 (p:Policy):Bool:=(bif (((decide ((p.Kinds.length:Int) < 1)||((p.Rules.length:Int) != (p.Kinds.length:Int)))||decide (p.Mode < 1))||decide (4 < p.Mode)) then false else ((e5.L1 p (e5.K1 p)) p.Rules 0))
def aa.K1 (offices:List ByteArray) (x:Expr) (iS:List Expr):Expr:=(Expr.mk x.Kind x.N (dC offices x.Name) x.Name iS)
def aa.L1 (rec:List ByteArray→Expr→Expr) (offices:List ByteArray) (k:List Expr→Expr):List Expr→List Expr→Expr
 | [],iS=>(k iS)
 | y1::rz1,iS=>(aa.L1 rec offices k rz1 (iS++[(rec offices y1)]))
def aa.K2 (x:Expr) (iR:List Expr):Expr:=(Expr.mk x.Kind x.N 0 x.Name iR)
def aa.L2 (rec:List ByteArray→Expr→Expr) (offices:List ByteArray) (k:List Expr→Expr):List Expr→List Expr→Expr
 | [],iR=>(k iR)
 | y2::rz2,iR=>(aa.L2 rec offices k rz2 (iR++[(rec offices y2)]))
def aa.F (rec:List ByteArray→Expr→Expr) (offices:List ByteArray) (x:Expr):Expr:=(bif ((x.Kind==1)||(x.Kind==2)) then ((aa.L1 rec offices (aa.K1 offices x)) x.L ([])) else ((aa.L2 rec offices (aa.K2 x)) x.L ([])))
def aa.go:Nat→List ByteArray→Expr→Expr
 | 0=>fun _ _=>default
 | m+1=>aa.F (aa.go m)
def aa (offices:List ByteArray) (x:Expr):Expr:=aa.go x.dep offices x
def dh.K1 (p:Policy) (j8:List Rule):(Policy×Int):=((Policy.mk p.Name p.Kinds p.Offices j8 (Expr.mk ((aa p.Offices p.Change).Kind) ((aa p.Offices p.Change).N) ((aa p.Offices p.Change).No) ((aa p.Offices p.Change).Name) ((aa p.Offices p.Change).L)) p.Mode),0)
def dh.L1 (p:Policy) (k:List Rule→(Policy×Int)):List Rule→Nat→List Rule→(Policy×Int)
 | [],i1,j8=>(k j8)
 | y1::rz1,i1,j8=>(dh.L1 p k rz1 (i1+1) (j8++[(Rule.mk y1.Kind (i1:Int) y1.Think (Expr.mk ((aa p.Offices y1.Expr).Kind) ((aa p.Offices y1.Expr).N) ((aa p.Offices y1.Expr).No) ((aa p.Offices y1.Expr).Name) ((aa p.Offices y1.Expr).L)))]))
def dh (p:Policy):(Policy×Int):=(bif (eu p) then ((Policy.mk (⟨#[]⟩:ByteArray) ([]) ([]) ([]) (Expr.mk 0 0 0 (⟨#[]⟩:ByteArray) ([])) 0),2) else (bif (!(fJ p)) then ((Policy.mk (⟨#[]⟩:ByteArray) ([]) ([]) ([]) (Expr.mk 0 0 0 (⟨#[]⟩:ByteArray) ([])) 0),201) else (bif (!(e5 p)) then ((Policy.mk (⟨#[]⟩:ByteArray) ([]) ([]) ([]) (Expr.mk 0 0 0 (⟨#[]⟩:ByteArray) ([])) 0),200) else ((dh.L1 p (dh.K1 p)) p.Rules 0 ([])))))
def dG.K1  : Bool:=true
def dG.L1 (iv:List ByteArray) (k:Bool):List ByteArray→Nat→Bool
 | [],i1=>(k)
 | y1::rz1,i1=>(bif (!(y1.toList==(nthI iv (i1:Int)).toList)) then false else (dG.L1 iv k rz1 (i1+1)))
def dG (a:List ByteArray) (iv:List ByteArray):Bool:=(bif ((a.length:Int) != (iv.length:Int)) then false else ((dG.L1 iv (dG.K1)) a 0))
def aU.K1  : Bool:=true
def aU.L1 (rec:Expr→Expr→Bool) (iv:Expr) (k:Bool):List Expr→Nat→Bool
 | [],i1=>(k)
 | y1::rz1,i1=>(bif (!(rec y1 (nthI iv.L (i1:Int)))) then false else (aU.L1 rec iv k rz1 (i1+1)))
def aU.F (rec:Expr→Expr→Bool) (a:Expr) (iv:Expr):Bool:=(bif (((((a.Kind != iv.Kind)||(a.N != iv.N))||(a.No != iv.No))||(!(a.Name.toList==iv.Name.toList)))||((a.L.length:Int) != (iv.L.length:Int))) then false else ((aU.L1 rec iv (aU.K1)) a.L 0))
def aU.go:Nat→Expr→Expr→Bool
 | 0=>fun _ _=>default
 | m+1=>aU.F (aU.go m)
def aU (a:Expr) (iv:Expr):Bool:=aU.go a.dep a iv
def fY.K1  : Bool:=true
def fY.L1 (iv:Policy) (k:Bool):List Rule→Nat→Bool
 | [],i1=>(k)
 | y1::rz1,i1=>(bif ((((!(y1.Kind.toList==(nthI iv.Rules (i1:Int)).Kind.toList))||(y1.KindNo != (nthI iv.Rules (i1:Int)).KindNo))||(y1.Think != (nthI iv.Rules (i1:Int)).Think))||(!(aU y1.Expr ((nthI iv.Rules (i1:Int)).Expr)))) then false else (fY.L1 iv k rz1 (i1+1)))
def fY (a:Policy) (iv:Policy):Bool:=(bif ((((((!(a.Name.toList==iv.Name.toList))||(a.Mode != iv.Mode))||(!(dG a.Offices iv.Offices)))||(!(dG a.Kinds iv.Kinds)))||((a.Rules.length:Int) != (iv.Rules.length:Int)))||(!(aU a.Change iv.Change))) then false else ((fY.L1 iv (fY.K1)) a.Rules 0))
def ed (p:Policy):Int:=(bif ((dh p).2 != 0) then (dh p).2 else (bif (!(fY ((dh p).1) p)) then 200 else 0))
def cw.K1  : Int:=0
def cw.L1 (l:List Version) (k:Int):List Version→Nat→Int
 | [],i1=>(k)
 | y1::rz1,i1=>(bif (((((decide (y1.No < 0)||decide (1048576 < y1.No))||(decide (0 < (i1:Int))&&decide (y1.No≤(nthI l ((i1:Int) - 1)).No)))||(!(cn y1.At)))||(!(cn y1.Known)))||((ed y1.Policy) != 0)) then 200 else (cw.L1 l k rz1 (i1+1)))
def cw (l:List Version):Int:=(bif (decide (256 < (l.length:Int))) then 2 else ((cw.L1 l (cw.K1)) l 0))
def mn (t:Int):Bool:=(decide (0≤t)&&decide (t < 1099511627776))
def dS.K1 (l:List Int):Bool:=decide ((l.length:Int)≤16)
def dS.L1 (l:List Int) (limit:Int) (k:Bool):List Int→Nat→Bool
 | [],i1=>(k)
 | y1::rz1,i1=>(bif ((decide (y1 < 0)||decide (limit≤y1))||(decide (0 < (i1:Int))&&decide (y1≤(nthI l ((i1:Int) - 1))))) then false else (dS.L1 l limit k rz1 (i1+1)))
def dS (l:List Int) (limit:Int):Bool:=((dS.L1 l limit (dS.K1 l)) l 0)
def gL (d:Document):Bool:=(bif ((((((decide (d.No < 0)||decide (4096≤d.No))||(!(mn d.At)))||decide (d.Kind < 0))||decide (16≤d.Kind))||decide (d.Value < 0))||decide (1099511627776 < d.Value)) then false else (((((decide (0≤d.From)&&decide (d.From < d.Until))&&decide (d.Until≤1099511627776))&&(dS d.Parties 1048577))&&(dS d.Revokes d.No))&&(dS d.Needs d.No)))
def fD.K1  : Int:=(-1)
def fD.L1 (no:Int) (k:Int):List Document→Nat→Int
 | [],i1=>(k)
 | y1::rz1,i1=>(bif (y1.No==no) then (i1:Int) else (fD.L1 no k rz1 (i1+1)))
def fD (l:List Document) (no:Int):Int:=((fD.L1 no (fD.K1)) l 0)
def cE.K1  : Bool:=true
def cE.L1 (l:List Document) (k:Bool):List Int→Bool
 | []=>(k)
 | y1::rz1=>(bif (decide ((fD l y1) < 0)) then false else (cE.L1 l k rz1))
def cE (l:List Document) (nos:List Int):Bool:=((cE.L1 l (cE.K1)) nos)
def eZ.K1  : Int:=0
def eZ.L1 (l:List Document) (k:Int):List Document→Nat→Int
 | [],i1=>(k)
 | y1::rz1,i1=>(bif ((((!(gL y1))||(decide (0 < (i1:Int))&&decide (y1.No≤(nthI l ((i1:Int) - 1)).No)))||(!(cE l y1.Revokes)))||(!(cE l y1.Needs))) then 170 else (eZ.L1 l k rz1 (i1+1)))
def eZ (l:List Document):Int:=(bif (decide (4096 < (l.length:Int))) then 2 else ((eZ.L1 l (eZ.K1)) l 0))
def fx (dK:Int) (most:Int):Bool:=(decide (0≤dK)&&decide (dK≤most))
def lk (dK:Int):Bool:=(fx dK 1099511627775)
def n0 (dK:Int):Bool:=(fx dK 4095)
def ij (x:Approval):Bool:=(bif ((((!(fx x.No 1048576))||(!(lk x.At)))||(!(lk x.Known)))||(!(n0 x.Doc))) then false else (((fx x.By 63)&&(fx x.For 63))&&(fx x.Office 31)))
def fP.K1  : Int:=0
def fP.L1 (l:List Approval) (k:Int):List Approval→Nat→Int
 | [],i1=>(k)
 | y1::rz1,i1=>(bif ((!(ij y1))||(decide (0 < (i1:Int))&&decide (y1.No≤(nthI l ((i1:Int) - 1)).No))) then 280 else (fP.L1 l k rz1 (i1+1)))
def fP (l:List Approval):Int:=(bif (decide (4096 < (l.length:Int))) then 2 else ((fP.L1 l (fP.K1)) l 0))
def gU (aZ:Register):Int:=(bif (((((eH aZ.Appoints) != 0)||((fR aZ.Deputies) != 0))||((et aZ.Interests) != 0))||((fQ aZ.Budgets) != 0)) then 300 else (bif ((((cw aZ.Versions) != 0)||((eZ aZ.Docs) != 0))||((fP aZ.Approvals) != 0)) then 300 else 0))
def df.K1  : Bool:=true
def df.L1 (who:List Int) (k:Bool):List Int→Nat→Bool
 | [],i1=>(k)
 | y1::rz1,i1=>(bif ((decide (y1 < 0)||decide (64≤y1))||(decide (0 < (i1:Int))&&decide (y1≤(nthI who ((i1:Int) - 1))))) then false else (df.L1 who k rz1 (i1+1)))
def df (who:List Int):Bool:=((df.L1 who (df.K1)) who 0)
def cj.K1 (l:List Int) (t:Int) (i1:Nat):List Int:=(bif (decide ((i1:Int) < (l.length:Int))&&((nthI l (i1:Int))==t)) then l else (((l.take (((i1:Int):Int)).toNat)++[t])++(l.drop (((i1:Int):Int)).toNat)))
def cj.L1 (t:Int) (k:Nat→List Int):List Int→Nat→List Int
 | [],i1=>(k (i1))
 | y1::rz1,i1=>(bif (decide (y1 < t)) then (cj.L1 t k rz1 (i1+1)) else (k (i1)))
def cj (l:List Int) (t:Int):List Int:=(bif (!(cn t)) then l else ((cj.L1 t (cj.K1 l t)) l 0))
def aD.K3  (pX:List Int):List Int:=pX
def aD.L3 (d:Document) (k:List Int→List Int):List Version→List Int→List Int
 | [],pX=>(k pX)
 | y3::rz3,pX=>(bif (decide (d.Kind < (y3.Policy.Rules.length:Int))) then (aD.L3 d k rz3 (cj (cj pX y3.At) (d.At+(nthI y3.Policy.Rules d.Kind).Think))) else (aD.L3 d k rz3 (cj pX y3.At)))
def aD.K2 (aZ:Register) (d:Document) (wy:List Int):List Int:=((aD.L3 d (aD.K3)) aZ.Versions wy)
def aD.L2  (k:List Int→List Int):List Interest→List Int→List Int
 | [],wy=>(k wy)
 | y2::rz2,wy=>(aD.L2  k rz2 (cj wy y2.At))
def aD.K1 (aZ:Register) (d:Document) (gY:List Int):List Int:=((aD.L2 (aD.K2 aZ d)) aZ.Interests gY)
def aD.L1  (k:List Int→List Int):List Appoint→List Int→List Int
 | [],gY=>(k gY)
 | y1::rz1,gY=>(aD.L1  k rz1 (cj gY y1.At))
def aD (aZ:Register) (d:Document):List Int:=((aD.L1 (aD.K1 aZ d)) aZ.Appoints (cj (cj ([0]) d.At) d.Until))
def bM.K1  : Version:=(Version.mk 0 0 0 (Policy.mk (⟨#[]⟩:ByteArray) ([]) ([]) ([]) (Expr.mk 0 0 0 (⟨#[]⟩:ByteArray) ([])) 0))
def bM.L1 (no:Int) (k:Version):List Version→Version
 | []=>(k)
 | y1::rz1=>(bif (y1.No==no) then y1 else (bM.L1 no k rz1))
def bM (aZ:Register) (no:Int):Version:=((bM.L1 no (bM.K1)) aZ.Versions)
def aw.K1  (kw:Int):Int:=kw
def aw.L1 (l:List Version) (fc:Int) (known:Int) (k:Int→Int):List Version→Nat→Int→Int
 | [],i1,kw=>(k kw)
 | y1::rz1,i1,kw=>(bif ((decide (y1.At≤fc)&&decide (y1.Known≤known))&&(decide (kw < 0)||decide ((nthI l kw).At≤y1.At))) then (aw.L1 l fc known k rz1 (i1+1) (i1:Int)) else (aw.L1 l fc known k rz1 (i1+1) kw))
def aw (l:List Version) (fc:Int) (known:Int):Int:=((aw.L1 l fc known (aw.K1)) l 0 (-1))
def dy.K1 (l:List Int) (kl:Int) (i1:Nat):List Int:=(bif (decide ((i1:Int) < (l.length:Int))&&((nthI l (i1:Int))==kl)) then l else (((l.take (((i1:Int):Int)).toNat)++[kl])++(l.drop (((i1:Int):Int)).toNat)))
def dy.L1 (kl:Int) (k:Nat→List Int):List Int→Nat→List Int
 | [],i1=>(k (i1))
 | y1::rz1,i1=>(bif (decide (y1 < kl)) then (dy.L1 kl k rz1 (i1+1)) else (k (i1)))
def dy (l:List Int) (kl:Int):List Int:=((dy.L1 kl (dy.K1 l kl)) l 0)
def bj.K1  (jL:List Int):List Int:=jL
def bj.L1 (l:List Version) (begun:Int) (aQ:Int) (known:Int) (k:List Int→List Int):List Version→List Int→List Int
 | [],jL=>(k jL)
 | y1::rz1,jL=>(bif ((decide (begun < y1.At)&&decide (y1.At≤aQ))&&decide (0≤(aw l y1.At known))) then (bj.L1 l begun aQ known k rz1 (dy jL ((nthI l (aw l y1.At known)).No))) else (bj.L1 l begun aQ known k rz1 jL))
def bj.K2  (mQ:List Int):List Int:=mQ
def bj.L2 (l:List Version) (begun:Int) (aQ:Int) (known:Int) (k:List Int→List Int):List Version→List Int→List Int
 | [],mQ=>(k mQ)
 | y2::rz2,mQ=>(bif ((decide (begun < y2.At)&&decide (y2.At≤aQ))&&decide (0≤(aw l y2.At known))) then (bj.L2 l begun aQ known k rz2 (dy mQ ((nthI l (aw l y2.At known)).No))) else (bj.L2 l begun aQ known k rz2 mQ))
def bj (l:List Version) (begun:Int) (aQ:Int) (known:Int):List Int:=(bif (decide (0≤(aw l begun known))) then ((bj.L1 l begun aQ known (bj.K1)) l (dy ([]) ((nthI l (aw l begun known)).No))) else ((bj.L2 l begun aQ known (bj.K2)) l ([])))
def dJ (l:List Version) (begun:Int) (aQ:Int) (known:Int):(List Int×Int×Int):=(bif ((cw l) != 0) then ([],0,(cw l)) else (bif ((((!(cn begun))||(!(cn aQ)))||(!(cn known)))||decide (aQ < begun)) then ([],0,1) else (bif (decide ((aw l aQ known) < 0)) then ([],0,0) else (bif ((nthI l (aw l aQ known)).Policy.Mode==1) then (bif (decide ((aw l begun known) < 0)) then ([],(nthI l (aw l aQ known)).Policy.Mode,0) else ([(nthI l (aw l begun known)).No],(nthI l (aw l aQ known)).Policy.Mode,0)) else (bif ((nthI l (aw l aQ known)).Policy.Mode==2) then ([(nthI l (aw l aQ known)).No],(nthI l (aw l aQ known)).Policy.Mode,0) else ((bj l begun aQ known),(nthI l (aw l aQ known)).Policy.Mode,0))))))
def iC (x:Appoint) (fc:Int) (known:Int):Bool:=(decide (x.At≤fc)&&decide (x.Known≤known))
def cx.K1  (bI:Int):Int:=bI
def cx.L1 (l:List Appoint) (office:Int) (person:Int) (cD:Int) (known:Int) (k:Int→Int):List Appoint→Nat→Int→Int
 | [],i1,bI=>(k bI)
 | y1::rz1,i1,bI=>(bif ((((y1.Office==office)&&(y1.Person==person))&&(iC y1 cD known))&&(decide (bI < 0)||decide ((nthI l bI).At≤y1.At))) then (cx.L1 l office person cD known k rz1 (i1+1) (i1:Int)) else (cx.L1 l office person cD known k rz1 (i1+1) bI))
def cx (l:List Appoint) (office:Int) (person:Int) (cD:Int) (known:Int):Int:=((cx.L1 l office person cD known (cx.K1)) l 0 (-1))
def bS.K1  (bI:List Holder):(List Holder×Int):=(bI,0)
def bS.L1 (l:List Appoint) (office:Int) (aQ:Int) (known:Int) (k:List Holder→(List Holder×Int)):List Nat→Nat→List Holder→(List Holder×Int)
 | [],i1,bI=>(k bI)
 | y1::rz1,i1,bI=>(bif (decide (0≤(cx l office (i1:Int) aQ known))&&(!((nthI l (cx l office (i1:Int) aQ known)).Gone))) then (bS.L1 l office aQ known k rz1 (i1+1) (bI++[(Holder.mk (i1:Int) ((nthI l (cx l office (i1:Int) aQ known)).Weight))])) else (bS.L1 l office aQ known k rz1 (i1+1) bI))
def bS (l:List Appoint) (office:Int) (aQ:Int) (known:Int):(List Holder×Int):=(bif ((eH l) != 0) then ([],(eH l)) else (bif (((!(jx office))||(!(ib aQ)))||(!(ib known))) then ([],1) else ((bS.L1 l office aQ known (bS.K1)) (List.range 64) 0 ([]))))
def da.L2 (holders:List (List Holder)) (k:Bool):List Holder→Nat→Bool
 | [],i2=>(k)
 | y2::rz2,i2=>(bif ((((decide (y2.Person < 0)||decide (64≤y2.Person))||decide (y2.Weight < 1))||decide (64 < y2.Weight))||(decide (0 < (i2:Int))&&decide (y2.Person≤(nthI (nthI holders 0) ((i2:Int) - 1)).Person))) then false else (da.L2 holders k rz2 (i2+1)))
def da.L3 (y1:List Holder) (k:Bool):List Holder→Nat→Bool
 | [],i3=>(k)
 | y3::rz3,i3=>(bif ((((decide (y3.Person < 0)||decide (64≤y3.Person))||decide (y3.Weight < 1))||decide (64 < y3.Weight))||(decide (0 < (i3:Int))&&decide (y3.Person≤(nthI y1 ((i3:Int) - 1)).Person))) then false else (da.L3 y1 k rz3 (i3+1)))
def da.K1  : Bool:=true
def da.L1  (k:Bool):List (List Holder)→Bool
 | []=>(k)
 | y1::rz1=>((da.L3 y1 ((da.L1  k rz1))) y1 0)
def da (holders:List (List Holder)) (offices:Int):Bool:=(bif ((holders.length:Int) != offices) then false else ((da.L1 (da.K1)) holders))
def ik.K1  : Bool:=false
def ik.L1 (kl:Int) (k:Bool):List Int→Bool
 | []=>(k)
 | y1::rz1=>(bif (y1==kl) then true else (ik.L1 kl k rz1))
def ik (who:List Int) (kl:Int):Bool:=((ik.L1 kl (ik.K1)) who)
def ba.K1 (x:Expr) (jL:Int):Bool:=((x.Kind==2)&&decide (x.N≤jL))
def ba.L1 (who:List Int) (k:Int→Bool):List Holder→Int→Bool
 | [],jL=>(k jL)
 | y1::rz1,jL=>(bif ((ik who y1.Person)&&true) then true else (bif (ik who y1.Person) then (ba.L1 who k rz1 (IntKind.wrap .i64 (jL+y1.Weight))) else (ba.L1 who k rz1 jL)))
def ba.K2 (x:Expr) (mQ:Int):Bool:=decide (x.N≤mQ)
def ba.L2 (rec:Expr→Int→(List (List Holder))→List Int→Bool) (value:Int) (holders:List (List Holder)) (who:List Int) (k:Int→Bool):List Expr→Int→Bool
 | [],mQ=>(k mQ)
 | y2::rz2,mQ=>(bif (rec y2 value holders who) then (ba.L2 rec value holders who k rz2 (IntKind.wrap .i64 (mQ+1))) else (ba.L2 rec value holders who k rz2 mQ))
def ba.K3 (x:Expr) (xN:Int):Bool:=decide (x.N≤xN)
def ba.L3 (who:List Int) (k:Int→Bool):List Holder→Int→Bool
 | [],xN=>(k xN)
 | y3::rz3,xN=>(bif ((ik who y3.Person)&&false) then true else (bif (ik who y3.Person) then (ba.L3 who k rz3 (IntKind.wrap .i64 (xN+y3.Weight))) else (ba.L3 who k rz3 xN)))
def ba.K4 (x:Expr) (xM:Int):Bool:=decide (x.N≤xM)
def ba.L4 (rec:Expr→Int→(List (List Holder))→List Int→Bool) (value:Int) (holders:List (List Holder)) (who:List Int) (k:Int→Bool):List Expr→Int→Bool
 | [],xM=>(k xM)
 | y4::rz4,xM=>(bif (rec y4 value holders who) then (ba.L4 rec value holders who k rz4 (IntKind.wrap .i64 (xM+1))) else (ba.L4 rec value holders who k rz4 xM))
def ba.F (rec:Expr→Int→(List (List Holder))→List Int→Bool) (x:Expr) (value:Int) (holders:List (List Holder)) (who:List Int):Bool:=(bif (x.Kind==1) then (bif (x.Kind==1) then ((ba.L1 who (ba.K1 x)) (nthI holders x.No) 0) else (bif (x.Kind==3) then ((ba.L2 rec value holders who (ba.K2 x)) x.L 0) else (bif (decide (value≤x.N)) then (rec (nthI x.L 0) value holders who) else (rec (nthI x.L 1) value holders who)))) else (bif (x.Kind==2) then ((ba.L3 who (ba.K3 x)) (nthI holders x.No) 0) else (bif (x.Kind==3) then ((ba.L4 rec value holders who (ba.K4 x)) x.L 0) else (bif (decide (value≤x.N)) then (rec (nthI x.L 0) value holders who) else (rec (nthI x.L 1) value holders who)))))
def ba.go:Nat→Expr→Int→(List (List Holder))→List Int→Bool
 | 0=>fun _ _ _ _=>default
 | m+1=>ba.F (ba.go m)
def ba (x:Expr) (value:Int) (holders:List (List Holder)) (who:List Int):Bool:=ba.go x.dep x value holders who
def fK (p:Policy) (kind:Int) (value:Int) (holders:List (List Holder)) (who:List Int):(Bool×Int):=(bif ((ed p) != 0) then (false,(ed p)) else (bif (((decide (kind < 0)||decide ((p.Kinds.length:Int)≤kind))||decide (value < 0))||decide (1099511627776 < value)) then (false,1) else (bif (!(da holders (p.Offices.length:Int))) then (false,210) else (bif (!(df who)) then (false,1) else ((ba ((nthI p.Rules kind).Expr) value holders who),0)))))
def eI.K1 (l:List Int):Bool:=decide ((l.length:Int)≤16)
def eI.L1 (l:List Int) (k:Bool):List Int→Nat→Bool
 | [],i1=>(k)
 | y1::rz1,i1=>(bif ((!(gD y1))||(decide (0 < (i1:Int))&&decide (y1≤(nthI l ((i1:Int) - 1))))) then false else (eI.L1 l k rz1 (i1+1)))
def eI (l:List Int):Bool:=((eI.L1 l (eI.K1 l)) l 0)
def gK (l:List Interest) (who:Int) (parties:List Int) (cD:Int) (known:Int):Int:=(bif ((et l) != 0) then (et l) else (bif ((((!(jU who))||(!(eI parties)))||(!(ia cD)))||(!(ia known))) then 1 else 0))
def fT (x:Interest) (fc:Int) (known:Int):Bool:=(decide (x.At≤fc)&&decide (x.Known≤known))
def iN (a:Interest) (iv:Interest):Bool:=(((a.Person==iv.Person)&&(a.Party==iv.Party))&&(a.Of==iv.Of))
def eX.K1  : Bool:=true
def eX.L1 (x:Interest) (aQ:Int) (known:Int) (k:Bool):List Interest→Bool
 | []=>(k)
 | y1::rz1=>(bif (((iN y1 x)&&(fT y1 aQ known))&&(decide (x.At < y1.At)||((y1.At==x.At)&&decide (x.No < y1.No)))) then false else (eX.L1 x aQ known k rz1))
def eX (l:List Interest) (x:Interest) (aQ:Int) (known:Int):Bool:=(bif (x.Gone||(!(fT x aQ known))) then false else ((eX.L1 x aQ known (eX.K1)) l))
def cu.K1  (kw:List Interest):List Interest:=kw
def cu.L1 (l:List Interest) (fc:Int) (known:Int) (k:List Interest→List Interest):List Interest→List Interest→List Interest
 | [],kw=>(k kw)
 | y1::rz1,kw=>(bif (eX l y1 fc known) then (cu.L1 l fc known k rz1 (kw++[y1])) else (cu.L1 l fc known k rz1 kw))
def cu (l:List Interest) (fc:Int) (known:Int):List Interest:=((cu.L1 l fc known (cu.K1)) l ([]))
def rwPut (l:List dN) (x:dN):List dN:=bif l.any (fun w=>w.To==x.To) then l else l++[x]
def iK.K1  : Bool:=false
def iK.L1 (kl:Int) (k:Bool):List Int→Bool
 | []=>(k)
 | y1::rz1=>(bif (y1==kl) then true else (iK.L1 kl k rz1))
def iK (l:List Int) (kl:Int):Bool:=((iK.L1 kl (iK.K1)) l)
def br.L3 (i2:Nat) (k:List dN→(List Int×Bool×Int)):List Interest→List dN→(List Int×Bool×Int)
 | [],eS=>(k eS)
 | y3::rz3,eS=>(bif (y3.Of&&(y3.Person==(nthI eS (i2:Int)).To)) then (br.L3 i2 k rz3 (rwPut eS (dN.mk ((nthI eS (i2:Int)).gT++[y3.No]) y3.Party))) else (br.L3 i2 k rz3 eS))
def br.K2  (i2:Nat) (jZ:List dN):(List Int×Bool×Int):=([],false,0)
def br.L2 (l:List Interest) (parties:List Int) (cD:Int) (known:Int) (k:Nat→List dN→(List Int×Bool×Int)):Nat→Nat→List dN→(List Int×Bool×Int)
 | 0,i2,jZ=>k i2 jZ
 | rz2+1,i2,jZ=>(bif decide ((i2:Int) < (jZ.length:Int)) then (bif (iK parties ((nthI jZ (i2:Int)).To)) then ((nthI jZ (i2:Int)).gT,true,0) else (bif ((((nthI jZ (i2:Int)).gT.length:Nat):Int)==8) then (br.L2 l parties cD known k rz2 (i2+1) jZ) else ((br.L3 i2 (fun zg3_15=>(br.L2 l parties cD known k rz2 (i2+1) zg3_15))) (cu l cD known) jZ))) else k i2 jZ)
def br.K1 (l:List Interest) (parties:List Int) (cD:Int) (known:Int) (qc:List dN):(List Int×Bool×Int):=((br.L2 l parties cD known (br.K2)) (l.length+1) 0 qc)
def br.L1 (who:Int) (k:List dN→(List Int×Bool×Int)):List Interest→List dN→(List Int×Bool×Int)
 | [],qc=>(k qc)
 | y1::rz1,qc=>(bif ((!y1.Of)&&(y1.Person==who)) then (br.L1 who k rz1 (rwPut qc (dN.mk ([y1.No]) y1.Party))) else (br.L1 who k rz1 qc))
def br (l:List Interest) (who:Int) (parties:List Int) (cD:Int) (known:Int):(List Int×Bool×Int):=(bif ((gK l who parties cD known) != 0) then ([],false,(gK l who parties cD known)) else ((br.L1 who (br.K1 l parties cD known)) (cu l cD known) ([])))
def fu.K1  (bI:List Int):List Int:=bI
def fu.L1 (aZ:Register) (d:Document) (cD:Int) (known:Int) (k:List Int→List Int):List Int→List Int→List Int
 | [],bI=>(k bI)
 | y1::rz1,bI=>(bif (!((br aZ.Interests y1 d.Parties cD known).2.1)) then (fu.L1 aZ d cD known k rz1 (bI++[y1])) else (fu.L1 aZ d cD known k rz1 bI))
def fu (aZ:Register) (d:Document) (who:List Int) (cD:Int) (known:Int):List Int:=((fu.L1 aZ d cD known (fu.K1)) who ([]))
def eY.K1 (aZ:Register) (p:Policy) (d:Document) (who:List Int) (mE:Int) (known:Int) (tT:List (List Holder)):Bool:=(fK p d.Kind d.Value tT (fu aZ d who mE known)).1
def eY.L1 (aZ:Register) (mE:Int) (known:Int) (k:(List (List Holder))→Bool):List ByteArray→Nat→(List (List Holder))→Bool
 | [],i1,tT=>(k tT)
 | y1::rz1,i1,tT=>(eY.L1 aZ mE known k rz1 (i1+1) (tT++[(bS aZ.Appoints (i1:Int) mE known).1]))
def eY (aZ:Register) (p:Policy) (d:Document) (who:List Int) (mE:Int) (known:Int):Bool:=(bif (decide ((p.Kinds.length:Int)≤d.Kind)||decide (mE < (d.At+(nthI p.Rules d.Kind).Think))) then false else ((eY.L1 aZ mE known (eY.K1 aZ p d who mE known)) p.Offices 0 ([])))
def jV (mode:Int) (permits:List Bool):Int:=(bif (decide (mode < 1)||decide (4 < mode)) then 270 else (bif (decide (256 < (permits.length:Int))) then 1 else 0))
def eG.K1  : Int:=(-1)
def eG.L1 (so:Bool) (k:Int):List Bool→Nat→Int
 | [],i1=>(k)
 | y1::rz1,i1=>(bif (y1==so) then (i1:Int) else (eG.L1 so k rz1 (i1+1)))
def eG (permits:List Bool) (so:Bool):Int:=((eG.L1 so (eG.K1)) permits 0)
def jG (mode:Int) (permits:List Bool):Bool:=(bif (mode==3) then (decide (0 < (permits.length:Int))&&decide ((eG permits false) < 0)) else (bif (mode==4) then decide (0≤(eG permits true)) else (((permits.length:Int)==1)&&(nthI permits 0))))
def iB (mode:Int) (permits:List Bool):(Bool×Int):=(bif ((jV mode permits) != 0) then (false,(jV mode permits)) else ((jG mode permits),0))
def gp.K1 (aZ:Register) (d:Document) (cD:Int) (known:Int) (tR:List Bool):Bool:=(iB ((dJ aZ.Versions d.At cD known).2.1) tR).1
def gp.L1 (aZ:Register) (d:Document) (who:List Int) (cD:Int) (known:Int) (k:List Bool→Bool):List Int→List Bool→Bool
 | [],tR=>(k tR)
 | y1::rz1,tR=>(gp.L1 aZ d who cD known k rz1 (tR++[(eY aZ ((bM aZ y1).Policy) d who cD known)]))
def gp (aZ:Register) (d:Document) (who:List Int) (cD:Int) (known:Int):Bool:=(bif (decide (cD < d.At)||decide (d.Until≤cD)) then false else ((gp.L1 aZ d who cD known (gp.K1 aZ d cD known)) ((dJ aZ.Versions d.At cD known).1) ([])))
def dx.K1  (bI:List Span):(List Span×Int):=(bI,0)
def dx.L1 (aZ:Register) (doc:Int) (who:List Int) (known:Int) (k:List Span→(List Span×Int)):List Int→Nat→List Span→(List Span×Int)
 | [],i1,bI=>(k bI)
 | y1::rz1,i1,bI=>(bif (decide ((((i1+1):Nat):Int) < (((aD aZ (nthI aZ.Docs (bp aZ doc))).length:Nat):Int))) then (bif (!(gp aZ (nthI aZ.Docs (bp aZ doc)) who y1 known)) then (dx.L1 aZ doc who known k rz1 (i1+1) bI) else (bif (decide (0 < (bI.length:Int))&&((nthI bI ((bI.length:Int) - 1)).Until==y1)) then (dx.L1 aZ doc who known k rz1 (i1+1) (bI.set (((bI.length:Int) - 1):Int).toNat (Span.mk (nthI bI ((bI.length:Int) - 1)).From (nthI (aD aZ (nthI aZ.Docs (bp aZ doc))) (((i1+1):Nat):Int))))) else (dx.L1 aZ doc who known k rz1 (i1+1) (bI++[(Span.mk y1 (nthI (aD aZ (nthI aZ.Docs (bp aZ doc))) (((i1+1):Nat):Int)))])))) else (bif (!(gp aZ (nthI aZ.Docs (bp aZ doc)) who y1 known)) then (dx.L1 aZ doc who known k rz1 (i1+1) bI) else (bif (decide (0 < (bI.length:Int))&&((nthI bI ((bI.length:Int) - 1)).Until==y1)) then (dx.L1 aZ doc who known k rz1 (i1+1) (bI.set (((bI.length:Int) - 1):Int).toNat (Span.mk (nthI bI ((bI.length:Int) - 1)).From 1099511627776))) else (dx.L1 aZ doc who known k rz1 (i1+1) (bI++[(Span.mk y1 1099511627776)])))))
def dx (aZ:Register) (doc:Int) (who:List Int) (known:Int):(List Span×Int):=(bif ((gU aZ) != 0) then ([],300) else (bif ((decide ((bp aZ doc) < 0)||(!(df who)))||(!(cn known))) then ([],1) else ((dx.L1 aZ doc who known (dx.K1)) (aD aZ (nthI aZ.Docs (bp aZ doc))) 0 ([]))))
def ls (aZ:Register) (doc:Int) (who:List Int) (known:Int):Bool:=(bif (!oz) then false else (bif ((!(jN aZ))||decide (100 < (who.length:Int))) then true else ((dO ((cZ aZ doc who known).1) ((dx aZ doc who known).1))&&((cZ aZ doc who known).2==(dx aZ doc who known).2))))
theorem wrap64 {z:Int} (h:-9223372036854775808≤z∧z≤9223372036854775807):IntKind.i64.wrap z=z:=by
 have:=gz h;injection this
theorem Expr.eta (x:Expr):Expr.mk x.Kind x.N x.No x.Name x.L=x:=by cases x;rfl
theorem Expr.ind {P:Expr→Prop} (h:∀ x,(∀ y∈x.L,P y)→P x) (x:Expr):P x:=by
 have key:∀ n (x:Expr),x.dep≤n→P x:=by
  intro n
  induction n with
  | zero=>intro x hx;have:=Expr.jK x;omega
  | succ n ih=>intro x hx;exact h x fun y hy=>ih y (by have:=Expr.gk hy;omega)
 exact key _ x (Nat.le_refl _)
theorem Du (k:List fB):∀ l,aE.L3 k l=l++k
 | []=>rfl
 | y::l=>by simp [aE.L3,Du k l]
theorem Dv (rec:Expr→Int→List fB) (d:Int):∀ l,aE.L1 rec d [] l=l.flatMap (fun y=>rec y (d+1))
 | []=>rfl
 | y::l=>by simp [aE.L1,Du,Dv rec d l]
theorem Ci (rec:Expr→Int→List fB) (x:Expr) (d:Int):aE.F rec x d=⟨x,d⟩::x.L.flatMap (fun y=>rec y (d+1)):=by
 simp [aE.F,aE.K1,Dv,Expr.eta]
theorem uD {α β : Type} {f g:α→List β}:∀ {l:List α},(∀ y∈l,f y=g y)→l.flatMap f=l.flatMap g
 | [],_=>rfl
 | y::l,h=>by
  rw [List.flatMap_cons,List.flatMap_cons,h y (List.mem_cons_self ..),uD fun z hz=>h z (List.mem_cons_of_mem _ hz)]
theorem Dt (m:Nat):∀ (x:Expr) (d:Int),x.dep≤m→aE.go m x d=aY x d:=by
 induction m using Nat.strongRecOn with
 | _ m ih=>
  intro x d hx
  unfold aY
  have hp:=Expr.jK x
  obtain ⟨m',rfl⟩:∃ m',m=m'+1:=⟨m - 1,by omega⟩
  obtain ⟨n,hn⟩:∃ n,x.dep=n+1:=⟨x.dep - 1,by omega⟩
  rw [hn]
  show aE.F (aE.go m') x d=aE.F (aE.go n) x d
  rw [Ci,Ci]
  congr 1
  refine uD fun y hy=>?_
  have:=Expr.gk hy
  rw [ih m' (by omega) y _ (by omega),ih n (by omega) y _ (by omega)]
theorem lr (x:Expr) (d:Int):aY x d=⟨x,d⟩::x.L.flatMap (fun y=>aY y (d+1)):=by
 have hp:=Expr.jK x
 obtain ⟨n,hn⟩:∃ n,x.dep=n+1:=⟨x.dep - 1,by omega⟩
 rw [← Dt x.dep x d (Nat.le_refl _),hn]
 show aE.F (aE.go n) x d=_
 rw [Ci]
 congr 1
 exact uD fun y hy=>Dt n y _ (by have:=Expr.gk hy;omega)
theorem Br (Q:Expr→Prop) (x:Expr):∀ d d',(∀ z∈aY x d,Q z.x)→∀ z∈aY x d',Q z.x:=by
 refine Expr.ind (P:=fun x=>∀ d d',(∀ z∈aY x d,Q z.x)→∀ z∈aY x d',Q z.x) ?_ x
 intro x ih d d' h z hz
 rw [lr] at h hz
 rcases List.mem_cons.1 hz with rfl | hz
 ·exact h ⟨x,d⟩ (List.mem_cons_self ..)
 ·obtain ⟨y,hy,hz⟩:=List.mem_flatMap.1 hz
  exact ih y hy (d+1) (d'+1) (fun z' hz'=>h z' (List.mem_cons_of_mem _ (List.mem_flatMap.2 ⟨y,hy,hz'⟩))) z hz
theorem nf (Q:Expr→Prop) (x:Expr) (d:Int):(∀ z∈aY x d,Q z.x)↔Q x∧∀ y∈x.L,∀ z∈aY y d,Q z.x:=by
 constructor
 ·intro h
  rw [lr] at h
  exact ⟨h ⟨x,d⟩ (List.mem_cons_self ..),fun y hy=>Br Q y (d+1) d fun z hz=>h z (List.mem_cons_of_mem _ (List.mem_flatMap.2 ⟨y,hy,hz⟩))⟩
 ·rintro ⟨h1,h2⟩ z hz
  rw [lr] at hz
  rcases List.mem_cons.1 hz with rfl | hz
  ·exact h1
  ·obtain ⟨y,hy,hz⟩:=List.mem_flatMap.1 hz
   exact Br Q y d (d+1) (h2 y hy) z hz
def NZ (x:Except Int Unit):Prop:=∀ e,x=.error e→e≠0
theorem NZ.ok:NZ (.ok ()):=fun _ h=>by cases h
theorem NZ.must {c:Bool} {e:Int} (he:e≠0):NZ (dZ c e):=fun e' h=>by
 cases c with
 | true=>simp [dZ] at h
 | false=>simp [dZ] at h;omega
theorem NZ.exi {x:Except Int Unit} {f:Unit→Except Int Unit} (hx:NZ x) (hf:NZ (f ())):NZ (Sg.exi x f):=by
 cases x with
 | ok u=>exact hf
 | error e=>exact fun e' h=>hx e' h
theorem BO {x:Except Int Unit} (h:NZ x):attR x=0↔x=.ok ():=by
 cases x with
 | ok u=>simp [attR]
 | error e=>simp only [attR,reduceCtorEq,iff_false];exact h e rfl
theorem ng {c:Bool} {e:Int} {f:Unit→Except Int Unit}:exi (dZ c e) f=.ok ()↔c=true∧f ()=.ok ():=by
 cases c <;> simp [dZ,exi]
theorem Ej (p:Policy):∀ (l:List Rule) (g:List Expr),ai.L1 (ai.K1 p) l g=g++(l.map (·.Expr)++[p.Change])
 | [],g=>by simp [ai.L1,ai.K1]
 | y::l,g=>by simp [ai.L1,Ej p l]
theorem ku (p:Policy):ai p=p.Rules.map (·.Expr)++[p.Change]:=by
 unfold ai;rw [Ej];simp
theorem C8 (k:Int→Except Int Unit) (hk:∀ a b,k a=k b):∀ (l:List fB) (g:Int),0≤g→g≤256→(bU.L3 k l g=.ok ()↔(g+l.length≤256∧∀ z∈l,z.depth≤16)∧k 0=.ok ())
 | [],g,h0,h1=>by simp only [bU.L3,hk g 0,List.length_nil,List.not_mem_nil];simp;omega
 | y::l,g,h0,h1=>by
  simp only [bU.L3,ng,Bool.and_eq_true,decide_eq_true_eq,wrap64 (z:=g+1) (by omega),List.length_cons,List.mem_cons]
  by_cases h:g+1≤256
  ·rw [C8 k hk l (g+1) (by omega) h]
   constructor
   ·rintro ⟨⟨_,h3⟩,⟨h4,h5⟩,h6⟩
    refine ⟨⟨by omega,fun z hz=>?_⟩,h6⟩
    rcases hz with rfl | hz
    ·exact h3
    ·exact h5 z hz
   ·rintro ⟨⟨h4,h5⟩,h6⟩
    exact ⟨⟨h,h5 y (.inl rfl)⟩,⟨by omega,fun z hz=>h5 z (.inr hz)⟩,h6⟩
  ·constructor
   ·rintro ⟨⟨h3,_⟩,_⟩;exact absurd h3 h
   ·rintro ⟨⟨h4,_⟩,_⟩;omega
theorem C9:∀ (l:List Expr),bU.L1 (.ok ()) l=.ok ()↔∀ x∈l,(aY x 1).length≤256∧∀ z∈aY x 1,z.depth≤16
 | []=>by simp [bU.L1]
 | y::l=>by
  simp only [bU.L1]
  rw [C8 _ (fun _ _=>rfl) _ 0 (by omega) (by omega),C9 l]
  simp only [List.mem_cons,forall_eq_or_imp]
  constructor
  ·rintro ⟨⟨a,b⟩,c⟩;exact ⟨⟨by omega,b⟩,c⟩
  ·rintro ⟨⟨a,b⟩,c⟩;exact ⟨⟨by omega,b⟩,c⟩
theorem uW (p:Policy):bU p=.ok ()↔(p.Offices.length≤32∧p.Kinds.length≤16∧p.Rules.length≤16)∧∀ x∈ai p,(aY x 1).length≤256∧∀ z∈aY x 1,z.depth≤16:=by
 unfold bU bU.K1
 rw [ng,C9]
 simp only [Bool.and_eq_true,decide_eq_true_eq]
 constructor
 ·rintro ⟨⟨⟨a,b⟩,c⟩,d⟩;exact ⟨⟨by omega,by omega,by omega⟩,d⟩
 ·rintro ⟨⟨a,b,c⟩,d⟩;exact ⟨⟨⟨by omega,by omega⟩,by omega⟩,d⟩
theorem Hw (p:Policy):NZ (bU p):=by
 have h3:∀ (k:Int→Except Int Unit),(∀ a,NZ (k a))→∀ l g,NZ (bU.L3 k l g):=by
  intro k hk l
  induction l with
  | nil=>exact fun g=>hk g
  | cons y l ih=>exact fun g=>NZ.exi (NZ.must (by omega)) (ih _)
 have h1:∀ l,NZ (bU.L1 (.ok ()) l):=by
  intro l
  induction l with
  | nil=>exact NZ.ok
  | cons y l ih=>exact h3 _ (fun _=>ih) _ _
 exact NZ.exi (NZ.must (by omega)) (h1 _)
theorem DB (p:Policy) (k:Except Int Unit):∀ l,bV.L3 p k l=.ok ()↔(∀ z∈l,((!(cA z.x))||cq p.Offices z.x.Name)=true)∧k=.ok ()
 | []=>by simp [bV.L3]
 | y::l=>by simp only [bV.L3,ng,DB p k l,List.mem_cons,forall_eq_or_imp,and_assoc]
theorem DC (p:Policy):∀ l,bV.L1 p (.ok ()) l=.ok ()↔∀ x∈l,∀ z∈aY x 1,((!(cA z.x))||cq p.Offices z.x.Name)=true
 | []=>by simp [bV.L1]
 | y::l=>by simp only [bV.L1,DB,DC p l,List.mem_cons,forall_eq_or_imp]
theorem zf (p:Policy):bV p=.ok ()↔(db p.Name=true∧bn p.Offices db=true∧bn p.Kinds db=true)∧∀ x∈ai p,∀ z∈aY x 1,((!(cA z.x))||cq p.Offices z.x.Name)=true:=by
 unfold bV bV.K1
 rw [ng,DC]
 simp only [Bool.and_eq_true,and_assoc]
theorem H3 (p:Policy):NZ (bV p):=by
 have h3:∀ (k:Except Int Unit),NZ k→∀ l,NZ (bV.L3 p k l):=by
  intro k hk l
  induction l with
  | nil=>exact hk
  | cons y l ih=>exact NZ.exi (NZ.must (by omega)) ih
 have h1:∀ l,NZ (bV.L1 p (.ok ()) l):=by
  intro l
  induction l with
  | nil=>exact NZ.ok
  | cons y l ih=>exact h3 _ ih _
 exact NZ.exi (NZ.must (by omega)) (h1 _)
theorem F3 (p:Policy) (i:Nat) (k:Except Int Unit):∀ l,aX.L4 p i k l=.ok ()↔(∀ z∈l,(aH z.x.Kind 1 4&&kindsP z.x.Kind z.x)=true∧(decide ((i:Int) < IntKind.i64.wrap (((ai p).length:Int) - 1))||(z.x.Kind != 4))=true)∧k=.ok ()
 | []=>by simp [aX.L4]
 | y::l=>by simp only [aX.L4,ng,F3 p i k l,List.mem_cons,forall_eq_or_imp,and_assoc]
theorem yc (p:Policy):∀ l i,aX.L2 p (.ok ()) l i=.ok ()↔∀ j x,l[j]? = some x→∀ z∈aY x 1,(aH z.x.Kind 1 4&&kindsP z.x.Kind z.x)=true∧(decide (((i+j:Nat):Int) < IntKind.i64.wrap (((ai p).length:Int) - 1))||(z.x.Kind != 4))=true
 | [],i=>by simp [aX.L2]
 | y::l,i=>by
  simp only [aX.L2]
  rw [F3,yc p l (i+1)]
  constructor
  ·rintro ⟨h1,h2⟩ j x hj z hz
   cases j with
   | zero=>simp at hj;subst hj;exact h1 z hz
   | succ j=>have:=h2 j x (by simpa using hj) z hz;rw [show i+(j+1)=i+1+j from by omega];exact this
  ·intro h
   refine ⟨fun z hz=>h 0 y rfl z hz,fun j x hj z hz=>?_⟩
   have:=h (j+1) x (by simpa using hj) z hz
   rw [show i+(j+1)=i+1+j from by omega] at this;exact this
theorem vw (p:Policy) (k:Except Int Unit):∀ l i,aX.L1 p k l i=.ok ()↔(∀ j r,l[j]? = some r→((r.Kind.toList==(nthI p.Kinds (((i+j:Nat):Int))).toList)&&aH r.Think 0 1099511627775)=true)∧k=.ok ()
 | [],i=>by simp [aX.L1]
 | y::l,i=>by
  simp only [aX.L1]
  rw [ng,vw p k l (i+1)]
  constructor
  ·rintro ⟨h1,h2,h3⟩
   refine ⟨fun j r hj=>?_,h3⟩
   cases j with
   | zero=>simp at hj;subst hj;exact h1
   | succ j=>have:=h2 j r (by simpa using hj);rw [show i+(j+1)=i+1+j from by omega];exact this
  ·rintro ⟨h,h3⟩
   refine ⟨h 0 y rfl,fun j r hj=>?_,h3⟩
   have:=h (j+1) r (by simpa using hj)
   rw [show i+(j+1)=i+1+j from by omega] at this;exact this
theorem Jm (p:Policy):NZ (aX p):=by
 have h4:∀ i (k:Except Int Unit),NZ k→∀ l,NZ (aX.L4 p i k l):=by
  intro i k hk l
  induction l with
  | nil=>exact hk
  | cons y l ih=>exact NZ.exi (NZ.must (by omega)) (NZ.exi (NZ.must (by omega)) ih)
 have h2:∀ l i,NZ (aX.L2 p (.ok ()) l i):=by
  intro l
  induction l with
  | nil=>exact fun _=>NZ.ok
  | cons y l ih=>exact fun i=>h4 i _ (ih _) _
 have h1:∀ l i,NZ (aX.L1 p (aX.K1 p) l i):=by
  intro l
  induction l with
  | nil=>exact fun _=>h2 _ _
  | cons y l ih=>exact fun i=>NZ.exi (NZ.must (by omega)) (ih _)
 exact NZ.exi (NZ.must (by omega)) (h1 _ _)
theorem w4 (p:Policy):NZ (cK p):=
 NZ.exi (Hw p) (NZ.exi (H3 p) (NZ.exi (Jm p) NZ.ok))
theorem uF {x:Except Int Unit} {f:Unit→Except Int Unit}:exi x f=.ok ()↔x=.ok ()∧f ()=.ok ():=by
 cases x with
 | ok u=>simp [exi]
 | error e=>simp [exi]
theorem oZ (p:Policy):cK p=.ok ()↔bU p=.ok ()∧bV p=.ok ()∧aX p=.ok ():=by
 unfold cK
 rw [uF,uF,uF]
 simp
theorem Dk (p:Policy):(dk p).2=attR (cK p):=by
 have hL:∀ l i g,(dk.L1 p (dk.K1 p) l i g).2=0:=by
  intro l
  induction l with
  | nil=>exact fun _ _=>rfl
  | cons y l ih=>exact fun i g=>ih _ _
 unfold dk
 by_cases h:attR (cK p)=0
 ·simp [h,hL]
 ·rw [show (attR (cK p) != 0)=true from by simpa using h];rfl
theorem Es (p:Policy) (k:Int):∀ l i,bZ.L1 p k l i=0↔(∀ j r,l[j]? = some r→r.KindNo=((i+j:Nat):Int)∧bD p.Offices r.Expr=true)∧k=0
 | [],i=>by simp [bZ.L1]
 | y::l,i=>by
  simp only [bZ.L1,Bool.cond_eq_ite]
  split
  ·next h=>
   simp only [Bool.or_eq_true,bne_iff_ne,Bool.not_eq_true'] at h
   constructor
   ·intro h';omega
   ·rintro ⟨h1,_⟩
    have:=h1 0 y rfl
    simp only [Nat.add_zero] at this
    rcases h with h | h
    ·exact absurd this.1 h
    ·rw [this.2] at h;cases h
  ·next h=>
   simp only [Bool.or_eq_true,bne_iff_ne,Bool.not_eq_true',not_or,Decidable.not_not,Bool.not_eq_false] at h
   rw [Es p k l (i+1)]
   constructor
   ·rintro ⟨h1,h2⟩
    refine ⟨fun j r hj=>?_,h2⟩
    cases j with
    | zero=>simp at hj;subst hj;exact h
    | succ j=>have:=h1 j r (by simpa using hj);rw [show i+(j+1)=i+1+j from by omega];exact this
   ·rintro ⟨h1,h2⟩
    refine ⟨fun j r hj=>?_,h2⟩
    have:=h1 (j+1) r (by simpa using hj)
    rw [show i+(j+1)=i+1+j from by omega] at this;exact this
theorem vG (p:Policy):bZ p=0↔cK p=.ok ()∧(∀ (j:Nat) r,p.Rules[j]? = some r→r.KindNo=(j:Int)∧bD p.Offices r.Expr=true)∧bD p.Offices p.Change=true:=by
 unfold bZ
 rw [Dk]
 by_cases h:attR (cK p)=0
 ·have h2:=(BO (w4 p)).1 h
  have hk:bZ.K1 p=0↔bD p.Offices p.Change=true:=by
   unfold bZ.K1
   cases bD p.Offices p.Change <;> simp
  rw [show (attR (cK p) != 0)=false from by simpa using h,cond_false,Es,hk]
  simp only [Nat.zero_add,h2,true_and]
 ·have h2:¬ cK p=.ok ():=fun e=>h ((BO (w4 p)).2 e)
  rw [show (attR (cK p) != 0)=true from by simpa using h,cond_true]
  simp [h,h2]
theorem IP {c x:Bool}:(bif c then false else x)=true↔c=false∧x=true:=by cases c <;> simp
theorem nk (off:List ByteArray):∀ l,bD.L1 off true l=true↔∀ z∈l,z.x.No=(bif cA z.x then aJ off z.x.Name else 0)
 | []=>by simp [bD.L1]
 | y::l=>by
  simp only [bD.L1,List.mem_cons,forall_eq_or_imp]
  cases cA y.x with
  | true=>
   rw [cond_true,cond_true,IP,nk off l];simp
  | false=>
   rw [cond_false,cond_false,IP,nk off l];simp
theorem DW (v:ByteArray):∀ (l:List ByteArray) (i:Nat),aJ.L1 v (-1) l i=-1∨((i:Int)≤aJ.L1 v (-1) l i∧aJ.L1 v (-1) l i < ((i+l.length:Nat):Int))
 | [],i=>.inl rfl
 | y::l,i=>by
  simp only [aJ.L1,Bool.cond_eq_ite,List.length_cons]
  split
  ·right;omega
  ·rcases DW v l (i+1) with h | h
   ·exact .inl h
   ·right;omega
theorem H7 (l:List ByteArray) (v:ByteArray):aJ l v < (l.length:Int):=by
 have:=DW v l 0
 unfold aJ aJ.K1
 omega
theorem mz {p:Policy} (hc:bZ p=0):p.Rules.length=p.Kinds.length∧p.Offices.length≤32∧(∀ x∈ai p,OkX (p.Offices.length:Int) x):=by
 obtain ⟨h1,h2,h3⟩:=(vG p).1 hc
 obtain ⟨hs,hn,hf⟩:=(oZ p).1 h1
 have hf':=hf
 unfold aX at hf
 rw [ng,vw] at hf
 simp only [Bool.and_eq_true,decide_eq_true_eq,beq_iff_eq] at hf
 obtain ⟨⟨⟨_,hlen⟩,hmode⟩,hrules,hK⟩:=hf
 unfold aX.K1 aX.K2 at hK
 rw [yc] at hK
 obtain ⟨⟨ho,_,_⟩,_⟩:=(uW p).1 hs
 obtain ⟨_,hnm⟩:=(zf p).1 hn
 refine ⟨by omega,ho,fun x hx=>?_⟩
 have hres:∀ z∈aY x 1,z.x.No=(bif cA z.x then aJ p.Offices z.x.Name else 0):=by
  have hr:bD p.Offices x=true:=by
   rw [ku] at hx
   rcases List.mem_append.1 hx with hx | hx
   ·obtain ⟨r,hr,rfl⟩:=List.mem_map.1 hx
    obtain ⟨j,hj⟩:=List.getElem?_of_mem hr
    exact (h2 j r hj).2
   ·rw [List.mem_singleton.1 hx];exact h3
  unfold bD bD.K1 at hr
  exact (nk _ _).1 hr
 obtain ⟨j,hj⟩:=List.getElem?_of_mem hx
 have hfm:=fun z hz=>(hK j x hj z hz).1
 have hnx:=hnm x hx
 clear hK hnm hj
 let Q:Expr→Prop:=fun x=>(1≤x.Kind∧x.Kind≤4)∧(x.Kind≤2→0≤x.No∧x.No < (p.Offices.length:Int))∧(x.Kind=4→x.L.length=2)
 have all:∀ z∈aY x 1,(fun x:Expr=>(1≤x.Kind∧x.Kind≤4)∧(x.Kind≤2→0≤x.No∧x.No < (p.Offices.length:Int))∧(x.Kind=4→x.L.length=2)) z.x:=by
  intro z hz
  have a:=hfm z hz
  have b:=hnx z hz
  have c:=hres z hz
  simp only [Bool.and_eq_true,aH,decide_eq_true_eq] at a
  refine ⟨a.1,fun hk=>?_,fun hk=>?_⟩
  ·have hnamed:cA z.x=true:=by
    have:z.x.Kind=1∨z.x.Kind=2:=by omega
    rcases this with e | e <;> simp [cA,e]
   simp only [hnamed,Bool.not_true,Bool.false_or,cond_true] at b c
   have hge:0≤aJ p.Offices z.x.Name:=by
    have h9:=b
    simp only [cq,decide_eq_true_eq,ge_iff_le] at h9
    exact h9
   have:=H7 p.Offices z.x.Name
   omega
  ·have h9:=a.2
   rw [hk] at h9
   simp only [kindsP] at h9
   simp [gQ] at h9
   omega
 clear hfm hnx hres hx
 revert all
 refine Expr.ind (P:=fun x=>(∀ z∈aY x 1,Q z.x)→OkX (p.Offices.length:Int) x) ?_ x
 intro x ih all
 rw [nf Q] at all
 obtain ⟨⟨a,b,c⟩,d⟩:=all
 exact OkX.mk x a b c fun y hy=>ih y hy (d y hy)
theorem uJ {p:Policy} (hc:bZ p=0):(1≤p.Mode∧p.Mode≤4)∧p.Rules.length≤16∧∀ r∈p.Rules,0≤r.Think∧r.Think≤1099511627775:=by
 obtain ⟨h1,_,_⟩:=(vG p).1 hc
 obtain ⟨hs,_,hf⟩:=(oZ p).1 h1
 unfold aX at hf
 rw [ng,vw] at hf
 simp only [Bool.and_eq_true,aH,decide_eq_true_eq] at hf
 obtain ⟨⟨⟨_,_⟩,hmode⟩,hrules,_⟩:=hf
 obtain ⟨⟨_,_,hr⟩,_⟩:=(uW p).1 hs
 refine ⟨hmode,hr,fun r hr=>?_⟩
 obtain ⟨j,hj⟩:=List.getElem?_of_mem hr
 exact (hrules j r hj).2
theorem uE {p:Policy} {r:Rule} (h:r∈p.Rules):r.Expr∈ai p:=by
 rw [ku];exact List.mem_append_left _ (List.mem_map_of_mem h)
theorem Bp:∀ (l:List Int) (g:Int),cv.L1 cv.K1 l g=true↔(∀ x∈l,g < x∧x < 64)∧l.Pairwise (· < ·)
 | [],g=>by simp [cv.L1,cv.K1]
 | y::l,g=>by
  simp only [cv.L1,Bool.cond_eq_ite,Bool.or_eq_true,decide_eq_true_eq]
  split
  ·next h=>
   constructor
   ·intro h';cases h'
   ·rintro ⟨h1,_⟩;have:=h1 y (List.mem_cons_self ..);omega
  ·next h=>
   rw [Bp l y,List.pairwise_cons]
   simp only [List.mem_cons,forall_eq_or_imp]
   constructor
   ·rintro ⟨h1,h2⟩
    exact ⟨⟨by omega,fun x hx=>by have:=h1 x hx;omega⟩,fun x hx=>(h1 x hx).1,h2⟩
   ·rintro ⟨⟨h1,h2⟩,h3,h4⟩
    exact ⟨fun x hx=>⟨h3 x hx,(h2 x hx).2⟩,h4⟩
theorem Bo (l:List Int):cv l=true↔(∀ x∈l,0≤x∧x < 64)∧l.Pairwise (· < ·):=by
 unfold cv
 rw [Bp]
 constructor
 ·rintro ⟨h1,h2⟩;exact ⟨fun x hx=>by have:=h1 x hx;omega,h2⟩
 ·rintro ⟨h1,h2⟩;exact ⟨fun x hx=>by have:=h1 x hx;omega,h2⟩
theorem Az {l:List Int} (h:cv l=true):l.Pairwise (·≤·):=((Bo l).1 h).2.imp (fun h=>Int.le_of_lt h)
theorem Bh {hs:List (List Holder)} {n:Int} (h:cd hs n=true):(hs.length:Int)=n:=by
 have h3:∀ (k:List Int→Bool) (l:List Holder) (g:List Int),cd.L3 k l g=true→∃ g',k g'=true:=by
  intro k l
  induction l with
  | nil=>exact fun g h=>⟨g,h⟩
  | cons y l ih=>
   intro g h
   simp only [cd.L3,Bool.cond_eq_ite] at h
   split at h
   ·cases h
   ·exact ih _ h
 have h1:∀ (k:Bool) (l:List (List Holder)),cd.L1 k l=true→k=true:=by
  intro k l
  induction l with
  | nil=>exact fun h=>h
  | cons y l ih=>
   intro h
   obtain ⟨g',hg⟩:=h3 _ _ _ h
   simp only [Bool.cond_eq_ite] at hg
   split at hg
   ·cases hg
   ·exact ih hg
 have:=h1 _ _ h
 simpa [cd.K1] using this
theorem xq:∀ (l:List Version) (g:Int),-1≤g→g≤1048576→(bg.L1 bg.K1 l g=0 ↔
  (∀ v∈l,(0≤v.At∧v.At≤1099511627775)∧(0≤v.Known∧v.Known≤1099511627775)∧v.No≤1048576∧bZ v.Policy=0)∧(∀ v∈l,g < v.No)∧l.Pairwise (fun a b=>a.No < b.No))
 | [],g,_,_=>by simp [bg.L1,bg.K1]
 | y::l,g,h0,h1=>by
  simp only [bg.L1,wrap64 (z:=g+1) (by omega),aH]
  by_cases hy:((0≤y.At∧y.At≤1099511627775)∧(0≤y.Known∧y.Known≤1099511627775)∧y.No≤1048576∧bZ y.Policy=0)∧g < y.No
  ·obtain ⟨⟨⟨a,a'⟩,⟨b,b'⟩,c,d⟩,e⟩:=hy
   have hc:(!(decide (g+1≤y.No)&&decide (y.No≤1048576))||!(decide (0≤y.At)&&decide (y.At≤1099511627775))||!(decide (0≤y.Known)&&decide (y.Known≤1099511627775))||bZ y.Policy != 0)=false:=by
    simp [a,a',b,b',c,d];omega
   rw [hc,cond_false,xq l y.No (by omega) c,List.pairwise_cons]
   simp only [List.mem_cons,forall_eq_or_imp]
   constructor
   ·rintro ⟨h2,h3,h4⟩
    exact ⟨⟨⟨⟨a,a'⟩,⟨b,b'⟩,c,d⟩,h2⟩,⟨e,fun v hv=>by have:=h3 v hv;omega⟩,h3,h4⟩
   ·rintro ⟨⟨_,h2⟩,_,h3,h4⟩;exact ⟨h2,h3,h4⟩
  ·have hc:(!(decide (g+1≤y.No)&&decide (y.No≤1048576))||!(decide (0≤y.At)&&decide (y.At≤1099511627775))||!(decide (0≤y.Known)&&decide (y.Known≤1099511627775))||bZ y.Policy != 0)=true:=by
    apply Classical.byContradiction
    intro hn
    apply hy
    simp only [Bool.not_eq_true,Bool.or_eq_false_iff,Bool.not_eq_false',Bool.and_eq_true,decide_eq_true_eq,bne_eq_false_iff_eq] at hn
    obtain ⟨⟨⟨a,b⟩,c⟩,d⟩:=hn
    exact ⟨⟨b,c,a.2,d⟩,by omega⟩
   rw [hc,cond_true]
   constructor
   ·intro h;omega
   ·rintro ⟨h2,h3,_⟩
    exact absurd ⟨h2 y (List.mem_cons_self ..),h3 y (List.mem_cons_self ..)⟩ hy
structure px (l:List Version):Prop where
 len:l.length≤256
 each:∀ v∈l,(0≤v.At∧v.At≤1099511627775)∧(0≤v.Known∧v.Known≤1099511627775)∧(0≤v.No∧v.No≤1048576)∧bZ v.Policy=0
 inc:l.Pairwise (fun a b=>a.No < b.No)
theorem je (l:List Version):bg l=0↔px l:=by
 unfold bg
 by_cases hl:l.length≤256
 ·rw [show decide (256 < (l.length:Int))=false from decide_eq_false (by omega),cond_false,xq l (-1) (by omega) (by omega)]
  constructor
  ·rintro ⟨h1,h2,h3⟩;exact ⟨hl,fun v hv=>by have a:=h1 v hv;have b:=h2 v hv;exact ⟨a.1,a.2.1,⟨by omega,a.2.2.1⟩,a.2.2.2⟩,h3⟩
  ·rintro ⟨_,h1,h3⟩;exact ⟨fun v hv=>by have:=h1 v hv;exact ⟨this.1,this.2.1,by omega,this.2.2.2⟩,fun v hv=>by have:=h1 v hv;omega,h3⟩
 ·rw [show decide (256 < (l.length:Int))=true from decide_eq_true (by omega),cond_true]
  exact ⟨fun h=>by omega,fun h=>absurd h.len hl⟩
theorem px.mode {l:List Version} (g:px l) {v:Version} (hv:v∈l):1≤v.Policy.Mode∧v.Policy.Mode≤4:=(uJ (g.each v hv).2.2.2).1
theorem px.okV {l:List Version} (g:px l):okV l:=⟨g.len,fun v hv=>⟨⟨(uJ (g.each v hv).2.2.2).2.1,(mz (g.each v hv).2.2.2).2.1⟩,(uJ (g.each v hv).2.2.2).2.2⟩⟩
theorem jQ {κ α : Type} [DecidableEq κ] (k:κ) (v:α):∀ (m:List (κ×α)) (x:κ),mget? (mput m k v) x=if x=k then some v else mget? m x
 | [],x=>by simp [mput,mget?]
 | (k',v')::m,x=>by
  simp only [mput]
  by_cases e:k=k'
  ·subst e;by_cases e2:x=k <;> simp [mget?,e2]
  ·simp only [e,if_false,mget?,jQ k v m x]
   by_cases e2:x=k'
   ·subst e2;simp [Ne.symm e]
   ·simp [e2]
theorem mv {κ α : Type} [DecidableEq κ] {x:κ}:∀ {m:List (κ×α)},x∈m.map (·.1)→∃ v,mget? m x=some v∧(x,v)∈m
 | (k,v)::m,h=>by
  by_cases e:x=k
  ·subst e;exact ⟨v,by simp [mget?],by simp⟩
  ·simp only [List.map_cons,List.mem_cons,e,false_or] at h
   obtain ⟨u,h1,h2⟩:=mv h
   exact ⟨u,by simp [mget?,e,h1],List.mem_cons_of_mem _ h2⟩
theorem wk {κ α : Type} [DecidableEq κ] {k:κ} {v:α} {q:κ×α}:∀ {m:List (κ×α)},q∈mput m k v→q=(k,v)∨q∈m
 | [],h=>by simp [mput] at h;exact .inl h
 | (k',v')::m,h=>by
  simp only [mput] at h
  split at h
  ·rcases List.mem_cons.1 h with h | h
   ·exact .inl h
   ·exact .inr (List.mem_cons_of_mem _ h)
  ·rcases List.mem_cons.1 h with h | h
   ·exact .inr (h ▸ List.mem_cons_self ..)
   ·rcases wk h with h | h
    ·exact .inl h
    ·exact .inr (List.mem_cons_of_mem _ h)
theorem zr (g:List (Int×Version)):∀ l,bx.L2 g [] l=l.map fun y=>(y,mgetD g y (Version.mk 0 0 0 (Policy.mk (⟨#[]⟩:ByteArray) [] [] [] (Expr.mk 0 0 0 (⟨#[]⟩:ByteArray) []) 0)))
 | []=>rfl
 | y::l=>by simp [bx.L2,zr g l]
def inForceM (known eo:Int):List Version→Int→List (Int×Version)→List (Int×Version)
 | [],_,m=>m
 | y::l,b,m=>bif decide (known < y.Known) then inForceM known eo l b m else bif decide (y.At≤eo) then (bif decide (y.At < b) then inForceM known eo l b m else inForceM known eo l y.At (mput m eo y)) else inForceM known eo l b (mput m y.At y)
theorem zt (known eo:Int) (k:Int→List (Int×Version)→List (Int×Version)) (hk:∀ a b m,k a m=k b m):∀ l b m,bx.L1 known eo k l b m=k 0 (inForceM known eo l b m)
 | [],b,m=>hk _ _ _
 | y::l,b,m=>by
  simp only [bx.L1,inForceM,zt known eo k hk l]
  cases decide (known < y.Known) <;> cases decide (y.At≤eo) <;> cases decide (y.At < b) <;> rfl
theorem qP (l:List Version) (eo known:Int):ep l eo known=(sortI ((inForceM known eo l (-1) []).map Prod.fst)).map fun y=>(y,mgetD (inForceM known eo l (-1) []) y (Version.mk 0 0 0 (Policy.mk (⟨#[]⟩:ByteArray) [] [] [] (Expr.mk 0 0 0 (⟨#[]⟩:ByteArray) []) 0))):=by
 unfold ep bx
 rw [zt _ _ _ (fun _ _ _=>rfl)]
 exact zr _ _
theorem mP (known eo:Int) (P:Int×Version→Prop):∀ (l:List Version) b m,(∀ y∈l,y.At≤eo→P (eo,y))→(∀ y∈l,eo < y.At→P (y.At,y))→(∀ q∈m,P q)→∀ q∈inForceM known eo l b m,P q
 | [],_,_,_,_,hm=>hm
 | y::l,b,m,h1,h2,hm=>by
  have h1':=fun z hz=>h1 z (List.mem_cons_of_mem _ hz)
  have h2':=fun z hz=>h2 z (List.mem_cons_of_mem _ hz)
  simp only [inForceM,Bool.cond_eq_ite,decide_eq_true_eq]
  split
  ·exact mP known eo P l b m h1' h2' hm
  ·split
   ·next ha=>
    split
    ·exact mP known eo P l b m h1' h2' hm
    ·refine mP known eo P l _ _ h1' h2' (fun q hq=>?_)
     rcases wk hq with rfl | hq
     ·exact h1 y (List.mem_cons_self ..) ha
     ·exact hm q hq
   ·next ha=>
    refine mP known eo P l _ _ h1' h2' (fun q hq=>?_)
    rcases wk hq with rfl | hq
    ·exact h2 y (List.mem_cons_self ..) (by omega)
    ·exact hm q hq
theorem ss {l:List Version} {eo known:Int} (P:Int×Version→Prop) (h1:∀ y∈l,y.At≤eo→P (eo,y)) (h2:∀ y∈l,eo < y.At→P (y.At,y)):∀ q∈ep l eo known,P q:=by
 intro q hq
 rw [qP] at hq
 obtain ⟨y,hy,rfl⟩:=List.mem_map.1 hq
 have hy':=(iX _).mem_iff.1 hy
 obtain ⟨v,e,hv⟩:=mv hy'
 have:mgetD (inForceM known eo l (-1) []) y (Version.mk 0 0 0 (Policy.mk (⟨#[]⟩:ByteArray) [] [] [] (Expr.mk 0 0 0 (⟨#[]⟩:ByteArray) []) 0))=v:=by simp [mgetD,e]
 simp only [this]
 exact mP known eo P l (-1) [] h1 h2 (fun q hq=>(List.not_mem_nil hq).elim) _ hv
theorem sq {l:List Version} {eo known:Int}:∀ q∈ep l eo known,q.2∈l:=
 ss (fun q=>q.2∈l) (fun y hy _=>hy) (fun y hy _=>hy)
theorem nV (known eo:Int):∀ (l:List Version) b m,(inForceM known eo l b m).length≤m.length+l.length
 | [],_,_=>Nat.le_refl _
 | y::l,b,m=>by
  have a1:=nV known eo l b m
  have a2:=nV known eo l y.At (mput m eo y)
  have a3:=nV known eo l b (mput m y.At y)
  have b2:=gr m eo y
  have b3:=gr m y.At y
  simp only [inForceM,Bool.cond_eq_ite,List.length_cons]
  split
  ·omega
  ·split
   ·split <;> omega
   ·omega
theorem xd (l:List Version) (eo known:Int):(ep l eo known).length≤l.length:=by
 rw [qP,List.length_map,hZ,List.length_map]
 have:=nV known eo l (-1) []
 simpa using this
theorem uX:∀ {a b:List OSeat},a.Pairwise (fun x y=>x.person < y.person)→b.Pairwise (fun x y=>x.person < y.person)→a.Perm b→a=b
 | [],b,_,_,p=>(List.Perm.nil_eq p)
 | x::a,[],_,_,p=>absurd p.length_eq (by simp)
 | x::a,y::b,ha,hb,p=>by
  have hx:x=y:=by
   have h1:x∈y::b:=p.mem_iff.1 (List.mem_cons_self ..)
   have h2:y∈x::a:=p.mem_iff.2 (List.mem_cons_self ..)
   rw [List.pairwise_cons] at ha hb
   rcases List.mem_cons.1 h1 with e | h1
   ·exact e
   ·rcases List.mem_cons.1 h2 with e | h2
    ·exact e.symm
    ·have:=ha.1 y h2;have:=hb.1 x h1;omega
  subst hx
  rw [List.pairwise_cons] at ha hb
  rw [uX ha.2 hb.2 (List.Perm.cons_inv p)]
theorem qp {office:Int} {l:List OSeat} (hn:l.Nodup) (hs:l.Pairwise (fun x y=>x.person≤y.person)):(l.filter (fun y=>y.office==office)).Pairwise (fun x y=>x.person < y.person):=by
 induction l with
 | nil=>exact List.Pairwise.nil
 | cons x l ih=>
  rw [List.nodup_cons] at hn
  rw [List.pairwise_cons] at hs
  rw [List.filter_cons]
  split
  ·next h=>
   rw [List.pairwise_cons]
   refine ⟨fun y hy=>?_,ih hn.2 hs.2⟩
   obtain ⟨hy1,hy2⟩:=List.mem_filter.1 hy
   have h1:=hs.1 y hy1
   rcases Int.lt_or_eq_of_le h1 with h2 | h2
   ·exact h2
   ·exfalso
    have:x=y:=by
     cases x;cases y
     simp at h hy2 h2
     simp [h,hy2,h2]
    exact hn.1 (this ▸ hy1)
  ·exact ih hn.2 hs.2
theorem oE (m:List (OSeat×Appoint)) (office:Int):∀ l,bF.L1 m office [] l=(l.filter fun y=>y.office==office).filterMap fun y=>bif (mgetD m y (Appoint.mk 0 0 0 0 0 0 false)).Gone then none else some (Holder.mk (mgetD m y (Appoint.mk 0 0 0 0 0 0 false)).Person (mgetD m y (Appoint.mk 0 0 0 0 0 0 false)).Weight)
 | []=>rfl
 | y::l=>by
  simp only [bF.L1,oE m office l,List.filter_cons]
  cases h1:y.office==office <;> cases h2:(mgetD m y (Appoint.mk 0 0 0 0 0 0 false)).Gone <;> simp [h2]
theorem AF {m:List (OSeat×Appoint)} {office:Int} {ys:List OSeat} (hn:(m.map (·.1)).Nodup) (hp:ys.Perm (m.map Prod.fst)) (hs:ys.Pairwise (fun x y=>x.person≤y.person)):
  bF m office=[]++((bF.L1 m office bF.K1) ys):=by
 unfold bF bF.K1
 rw [List.nil_append,oE,oE]
 have h1:(seatS (m.map Prod.fst)).Nodup:=(li _).nodup_iff.2 hn
 have h2:ys.Nodup:=hp.nodup_iff.2 hn
 rw [uX (qp h1 (qr _)) (qp h2 hs) (((li _).trans hp.symm).filter _)]
theorem si (key:Appoint→OSeat×Bool) (later:Appoint→Appoint→Bool):∀ (l:List Appoint) m,(bE.L1 key later bE.K1 l m).length≤m.length+l.length
 | [],m=>by simp [bE.L1,bE.K1]
 | y::l,m=>by
  have a:=si key later l m
  have b:=si key later l (mput m (key y).1 y)
  have c:=gr m (key y).1 y
  simp only [bE.L1,Bool.cond_eq_ite,List.length_cons]
  split <;> omega
theorem qm (l:List Appoint) (a b:Int):(dV l a b).length≤l.length:=by
 have:=si (fun dX=>dE dX a b) e9 l []
 simpa [dV,bE] using this
theorem xp (l:List Holder):e7 l=l:=by
 have:∀ (l g:List Holder),bQ.L1 bQ.K1 l g=g++l:=by
  intro l
  induction l with
  | nil=>intro g;simp [bQ.L1,bQ.K1]
  | cons y l ih=>intro g;simp [bQ.L1,ih]
 simp [e7,bQ,this]
theorem xg (m:List (OSeat×Appoint)) (office:Int):(gx m office).length≤m.length:=by
 unfold gx bF bF.K1
 rw [oE]
 have h1:=List.length_filterMap_le (fun y=>bif (mgetD m y (Appoint.mk 0 0 0 0 0 0 false)).Gone then none else some (Holder.mk (mgetD m y (Appoint.mk 0 0 0 0 0 0 false)).Person (mgetD m y (Appoint.mk 0 0 0 0 0 0 false)).Weight)) ((seatS (m.map Prod.fst)).filter fun y=>y.office==office)
 have h2:=List.length_filter_le (fun y:OSeat=>y.office==office) (seatS (m.map Prod.fst))
 have h3:=(li (m.map Prod.fst)).length_eq
 rw [List.length_map] at h3
 omega
theorem EC (l:List Appoint) (office a b:Int):(dc l office a b).1.length≤l.length:=by
 unfold dc
 rw [xp]
 have h1:=xg (dV l a b) office
 have h2:=qm l a b
 cases (co l != 0) <;> cases ((!(e6 office))||(!(cN a))||(!(cN b))) <;> simp <;> omega
theorem mw (q:aC) (at_:Int):∀ (l:List Version) (g:List Policy),ao.L1 q at_ (ao.K1 q at_) l g=(g++(l.filter fun v=>el (ay q.Register.Versions q.doc.At at_ q.known).1 v.No).map (·.Policy),(ay q.Register.Versions q.doc.At at_ q.known).2.1)
 | [],g=>by simp [ao.L1,ao.K1]
 | y::l,g=>by
  simp only [ao.L1,mw q at_ l,List.filter_cons]
  cases el (ay q.Register.Versions q.doc.At at_ q.known).1 y.No <;> simp
theorem qI {q:aC} {at_:Int} {p:Policy} (h:p∈(ao q at_).1):∃ v∈q.Register.Versions,v.Policy=p:=by
 unfold ao at h
 rw [Bool.cond_eq_ite] at h
 split at h
 ·exact (List.not_mem_nil h).elim
 ·rw [mw,List.nil_append] at h
  obtain ⟨v,hv,e⟩:=List.mem_map.1 h
  exact ⟨v,(List.mem_filter.1 hv).1,e⟩
theorem zo (q:aC) (at_:Int):(ao q at_).1.length≤q.Register.Versions.length:=by
 unfold ao
 rw [Bool.cond_eq_ite]
 split
 ·exact Nat.zero_le _
 ·rw [mw,List.nil_append,List.length_map]
  exact List.length_filter_le _ _
theorem w6 (q:aC) (at_:Int):∀ (l:List ByteArray) (i:Nat) (g:List (List Holder)),av.L1 q at_ av.K1 l i g=g++(List.range l.length).map fun j=>(dc q.Register.Appoints ((i+j:Nat):Int) at_ q.known).1
 | [],i,g=>by simp [av.L1,av.K1]
 | y::l,i,g=>by
  simp only [av.L1,w6 q at_ l,List.length_cons,List.append_assoc]
  congr 1
  rw [List.range_succ_eq_map,List.map_cons,List.map_map]
  simp only [Nat.add_zero,List.singleton_append,List.cons.injEq,true_and]
  apply List.map_congr_left
  intro j _
  simp only [Function.comp]
  rw [show i+1+j=i+(j+1) from by omega]
theorem lq (q:aC) (p:Policy) (at_:Int):av q p at_=(List.range p.Offices.length).map fun (j:Nat)=>(dc q.Register.Appoints (j:Int) at_ q.known).1:=by
 unfold av
 rw [w6]
 simp
theorem rU {q:aC} (h:q.Register.Appoints.length≤2000000) (p:Policy) (at_:Int):∀ y∈av q p at_,y.length≤2000000:=by
 intro y hy
 rw [lq] at hy
 obtain ⟨j,_,rfl⟩:=List.mem_map.1 hy
 exact Nat.le_trans (EC _ _ _ _) h
theorem Cg (q:aC) (p:Policy) (at_:Int):(av q p at_).length=p.Offices.length:=by rw [lq];simp
theorem GJ (l:List Int) (p:Int→Bool):(bv l p).length≤l.length:=List.length_filter_le _ _
end Go.Sg
