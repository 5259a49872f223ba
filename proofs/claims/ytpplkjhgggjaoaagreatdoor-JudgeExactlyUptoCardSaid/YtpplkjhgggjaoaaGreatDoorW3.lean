import Derived.Conc.LoneCalls
import Derived.RangeFuncNested
import Derived.Laws.MakeOwn
import Derived.Test.YtpplkjhgggjaoaaGreatDoorW2
/- A part of the proof of JudgeExactly. -/
set_option linter.unusedVariables false
set_option linter.unusedSimpArgs false
set_option maxRecDepth 100000
open List renaming length_cons→zA,length_append→jA,mem_cons_of_mem→vA,not_mem_nil→kA,mem_cons_self→zB,mem_cons→kB,append_assoc→qE,mem_of_getElem?→xE,map_cons→xK,getElem?_eq_none→vL,nodup_cons→xR,nodup_nil→aAI
open Go.Obj renaming cells→kH
open Go.Deferred renaming ofValue→kJ
open Nat renaming zero_le→jL,lt_or_ge→jP,le_of_ble_eq_true→vQ,blt→kR,le_trans→xS,lt_of_lt_of_le→aBC
open Go.Sg.HF renaming le_refl→qP
open Go.Sem renaming run_bind→xP
open Go.Addr renaming add→jT
open Go.Frame renaming enter→aAb
open Array renaming ext'→aAs,replicate→aAL
open Go.Sg.St renaming after→aBq
open Go.Sg.Env renaming ev→aB6

namespace Go.Sg
section grow
variable {α : Type} {R:Rp α} {E:TypeId} {h:HF} {xs:List α} {base:Option Addr} {cap:Nat} {G:LH}
theorem dG.yq(hG:dG R E h xs base cap G)(hne:0<xs.length):∃bk,base=some ⟨bk,0,none⟩:=by
 rcases hG with⟨rfl,_⟩|⟨bk,_,_,e,_⟩
 .simp at hne
 .exact⟨bk,e⟩
theorem dG.QM(hG:dG R E h xs base cap G):xs.length<=cap:=by
 rcases hG with⟨rfl,_⟩|⟨bk,cl,sp,_,_,_,h4,_⟩
 .simp
 .exact h4
theorem bI.split:∀{xs ys:List α}{cl:List Value},bI R h cl (xs++ys)->∃a b,cl=a++b/\bI R h a xs/\bI R h b ys
 |[],ys,cl,hc=>⟨[],cl,rfl,rfl,hc⟩
 |x::xs,ys,cl,⟨cs,rest,e,hl,hr,hc⟩=>by
  obtain⟨a,b,rfl,h1,h2⟩:=bI.split hc
  exact⟨cs++a,b,by rw[e,qE],⟨cs,a,rfl,hl,hr,h1⟩,h2⟩
theorem dG.take(hG:dG R E h xs base cap G)(k:Nat):dG R E h (xs.take k) base cap G:=by
 rcases hG with⟨rfl,rfl,rfl,rfl⟩|⟨bk,cl,sp,e,hc,h3,h4,h5,rfl⟩
 .rw[List.take_nil];exact dG.nil
 .rw[←List.take_append_drop k xs]at hc
  obtain⟨a,b,rfl,h1,h2⟩:=bI.split hc
  refine .inr ⟨bk,a,b++sp,e,h1,by rw[←qE];exact h3,?_,?_,by rw[qE]⟩
  .rw[List.length_take];omega
  .rw[List.length_take];omega
end grow
section runs
variable {P:Program} {e:Env} {X:Cx} {h:HF} {L:LH} {d:Option Nat} {ty:TypeId} {pos:String} {af:Array Edge} {g:Option (Nat×Bool)}
variable {α : Type} {R:Rp α} {E:TypeId} {xs:List α} {base:Option Addr} {cap bk:Nat} {G:LH}
theorem ou{t:TypeId}{x ix:Operand}{m:Nat}{a:Bool}{z:Int}(hT:P.underlying t=some (.slice E))(hS:tySz P E=some (R.sz,a))(hb:base=some ⟨bk,0,none⟩)(hz:0<=z/\z<(xs.length:Int))(hx:e.ev x=.slice base m cap)(hm:m=xs.length)(hix:e.ev ix=.int .i64 z):∀w,St X h L w->(execOp e.ev ⟨d,.indexAddr t x ix,ty,pos,af,g⟩).run P w=.ok (.value (.pointer (some ⟨bk,z.toNat*R.sz,none⟩))) w:=by
 subst hb hm
 have hzz:z=(z.toNat:Int):=by omega
 rw[hzz]at hix
 intro w hw
 rw[CP hT hS hx hix (by omega) w hw,qz]
theorem EG{t:TypeId}{x:Operand}{m i off:Nat}{y:α}{v:Value}{h0:HF}(hT:tySz P t=some (m,false))(hG:dG R E h0 xs base cap G)(hb:base=some ⟨bk,0,none⟩)(hi:xs[i]? = some y)(hv:∀cs,R.rep h0 cs y->nth cs off=some v)(hx:e.ev x=.pointer (some ⟨bk,i*R.sz+off,none⟩))(hm:∀p∈G,p∈L):∀w,St X h L w->(execOp e.ev ⟨d,.load t x,ty,pos,af,g⟩).run P w=.ok (.value v) w:=by
 rcases hG with⟨rfl,_⟩|⟨bk',cl,sp,e1,hc,_,_,_,rfl⟩
 .simp at hi
 .rw[hb]at e1
  cases e1
  obtain⟨cs,hl,hr,hcell⟩:=hc.get i y hi
  have hv':=hv cs hr
  rw[im]at hv'
  have h9:=hcell off v hv'
  refine zw hT hx (hm _ (List.mem_singleton.2 rfl)) ?_
  rw[im,List.getElem?_append_left (by
   rcases jP (i*R.sz+off) cl.length with q|q
   .exact q
   .simp[vL q]at h9)]
  exact h9
end runs
theorem vz{α : Type}(a b:List α)(i:Nat)(x:α)(hi:i<a.length):setNth (a++b) i x=setNth a i x++b:=by
 rw[ma,ma,List.set_append_left _ _ hi]
theorem BM{α : Type}(a b:List α)(i:Nat)(x:α):setNth (a++b) (a.length+i) x=a++setNth b i x:=by
 rw[ma,ma,List.set_append_right _ _ (Nat.le_add_right _ _)];simp
theorem bI.set{α : Type}{R:Rp α}{h:HF}{off:Nat}{v:Value}{y y':α}(ho:off<R.sz)(hrep:∀cs,R.rep h cs y->R.rep h (setNth cs off v) y'):
  ∀{xs:List α}{cl:List Value}(i:Nat),bI R h cl xs->xs[i]? = some y->bI R h (setNth cl (i*R.sz+off) v) (xs.set i y')
 |x::xs,cl,0,⟨cs,rest,e,hl,hr,hc⟩,hi=>by
  simp at hi
  subst hi
  rw[e,Nat.zero_mul,Nat.zero_add,vz _ _ _ _ (by omega)]
  exact⟨setNth cs off v,rest,rfl,by rw[pR];exact hl,hrep cs hr,hc⟩
 |x::xs,cl,i+1,⟨cs,rest,e,hl,hr,hc⟩,hi=>by
  have ih:=bI.set ho hrep i hc (by simpa using hi)
  rw[e,show(i+1)*R.sz+off=cs.length+(i*R.sz+off)from by rw[hl,Nat.add_mul];omega,BM]
  exact⟨cs,_,rfl,hl,hr,ih⟩
 |[],_,_,_,hi=>by simp at hi
section steps
variable {P:Program} {b:Frame} {n:Nat} {ops:Array Oper} {F:List Frame->(Machine->Prop)->Prop} {e:Env} {ds:List Deferred} {X:Cx} {h:HF} {L:LH} {K:Env->HF->LH->Prop}
variable {d:Option Nat} {ty:TypeId} {pos:String} {af:Array Edge} {g:Option (Nat×Bool)}
variable {α : Type} {R:Rp α} {E:TypeId} {xs:List α} {base:Option Addr} {cap bk:Nat}
theorem AI(A G Q:LH){t:TypeId}{x y:Operand}{m i off:Nat}{a:Bool}{u u':α}{v:Value}(hT:tySz P t=some (m,a))(hm:m=1)(hG:dG R E h xs base cap G)(hL:L=A++(G++Q))(hb:base=some ⟨bk,0,none⟩)(hi:xs[i]? = some u)(ho:off<R.sz)(hrep:∀cs,R.rep h cs u->R.rep h (setNth cs off v) u')(hx:e.ev x=.pointer (some ⟨bk,i*R.sz+off,none⟩))(hv:vcells (e.ev y)=[v])(h1:one v=true)(t':∀G',dG R E h (xs.set i u') base cap G'->K e h (A++(G'++Q)))(hg:guardB ops e ⟨none,.store t x y,ty,pos,af,g⟩=true:=by rfl):Stp P b n ops F ds X ⟨none,.store t x y,ty,pos,af,g⟩ e h L K:=by
 subst hL hm
 rcases hG with⟨rfl,_⟩|⟨bk',cl,sp,e1,hc,h3,h4,h5,rfl⟩
 .simp at hi
 .have e2:=e1
  rw[hb]at e2
  cases e2
  have hlen:=hc.len
  have hil:i<xs.length:=by
   rcases jP i xs.length with q|q
   .exact q
   .simp[vL q]at hi
  have hlt:i*R.sz+off<cl.length:=by
   rw[hlen]
   have:=Nat.mul_le_mul_right R.sz (show i+1<=xs.length from hil)
   rw[Nat.add_mul]at this;omega
  have hnth:nth (A++([(bk,kH (cl++sp).toArray E (0,0))]++Q)) A.length=some (bk,.cells (cl++sp).toArray E (0,0)):=LJ A _ Q
  refine ku A.length hT hx hnth hv rfl (by simp;omega) (by simp[h1]) ?_ hg
  have hs:splice (cl++sp) (i*R.sz+off) [v]=setNth cl (i*R.sz+off) v++sp:=by
   simp only[splice];rw[vz _ _ _ _ hlt]
  rw[hs]
  have hset:=Ec A (bk,kH (cl++sp).toArray E (0,0)) (bk,kH (setNth cl (i*R.sz+off) v++sp).toArray E (0,0)) Q
  show K e h (setNth (A++(bk,kH (cl++sp).toArray E (0,0))::Q) A.length _)
  rw[hset]
  refine t' [(bk,.cells (setNth cl (i*R.sz+off) v++sp).toArray E (0,0))] (.inr ⟨bk,setNth cl (i*R.sz+off) v,sp,e1,bI.set ho hrep i hc hi,?_,?_,?_,rfl⟩)
  .rw[jA,pR,←jA];exact h3
  .rw[List.length_set];exact h4
  .rw[List.length_set];exact h5
theorem NV{t:TypeId}{x hi:Operand}{a:Bool}{m:Nat}{z:Int}{G:LH}(hT:P.underlying t=some (.slice E))(hS:tySz P E=some (R.sz,a))(hG:dG R E h xs base cap G)(hz:0<=z/\z<=(xs.length:Int))(hx:e.ev x=.slice base m cap)(hm:m=xs.length)(hhi:e.ev hi=.int .i64 z)(t':K (pute e d (.slice base (xs.take z.toNat).length cap)) h L)(hg:guardB ops e ⟨d,.slice t x none (some hi) none,ty,pos,af,g⟩=true:=by rfl):Stp P b n ops F ds X ⟨d,.slice t x none (some hi) none,ty,pos,af,g⟩ e h L K:=by
 subst hm
 have hcap:=hG.QM
 have hz2:0<=z/\z<=(cap:Int):=by omega
 have hl:z.toNat=(xs.take z.toNat).length:=by simp;omega
 refine fw (v:=.slice base (xs.take z.toNat).length cap) (λw hw=>?_) t' hg
 rw[←hl]
 by_cases h0:cap=0
 .have hz0:z=0:=by omega
  subst hz0
  simp[execOp,Instr.sliceAt,Instr.slice,Instr.sliceBounds,Instr.sliceBound,hx,hhi,asIntOf,run_underlying hT,gD hS,hz2,h0]
 .simp[execOp,Instr.sliceAt,Instr.slice,Instr.sliceBounds,Instr.sliceBound,hx,hhi,asIntOf,run_underlying hT,gD hS,hz2,h0,jT]
theorem Eg(A G Q:LH){f:FuncId}{ass:Array Operand}{ats:Array TypeId}{vs:List Value}{v:Value}(hc:∀args w,(callFunc f args).run P w=.ok (.enter f args) w)(hm:R.Mono)(hG:dG R E h xs base cap G)(hL:L=A++(G++Q))(hs:∀h1,h.le h1->SlC R h1 base cap xs->Ret P f vs h1 v)(hvs:ass.toList.map e.ev=vs)(t':K (pute e d v) h L)(hg:guardB ops e ⟨d,.call ⟨.value (.func f),ass,ats⟩,ty,pos,af,g⟩=true:=by rfl):
  Stp P b n ops F ds X ⟨d,.call ⟨.value (.func f),ass,ats⟩,ty,pos,af,g⟩ e h L K:=by
 unfold Stp
 rw[if_pos hg]
 intro w hw
 have harr:ass.map e.ev=vs.toArray:=aAs (by simp[←hvs])
 have hr:(execOp e.ev ⟨d,.call ⟨.value (.func f),ass,ats⟩,ty,pos,af,g⟩).run P w=.ok (.enter f vs.toArray) w:=by
  simp[execOp,resolve,aB6,kJ,invoke,harr,hc]
 rw[hr]
 have back:∀(h1:HF),h.le h1->(∀bk o,h1 bk=some o->w.heap[bk]? = some o)->SlC R h1 base cap xs->wd P b n F ds X ⟨d,.call ⟨.value (.func f),ass,ats⟩,ty,pos,af,g⟩ e K (.ok (.enter f vs.toArray) w):=by
  intro h1 hle himm hsl
  have hp1:Pre h1 [] w:=⟨himm,λ_ hp=>(kA hp).elim,aAI,λ_ hp=>(kA hp).elim⟩
  refine lP (by simp) (j7 (rq.mono (hs h1 hle hsl w hp1) ?_))
  rintro x w' ⟨h',B,hst,rfl,rfl,rfl⟩
  refine⟨h,L,⟨hst.os.trans hw.os,hst.tape.trans hw.tape,hst.output.trans hw.output,xS hw.size hst.size,λb' hb' hM=>?_,hw.le,hw.old,λb' o hb'=>?_,λp hp=>?_,hw.dis,hw.free,hw.new⟩,t'⟩
  .rw[hst.keep b' (aBC hb' hw.size) (by simp)];exact hw.keep b' hb' hM
  .rw[hst.keep b' (ib (hw.imm b' o hb')) (by simp)];exact hw.imm b' o hb'
  .rw[hst.keep p.1 (ib (hw.own p hp)) (by simp)];exact hw.own p hp
 rcases hG with⟨rfl,rfl,rfl,rfl⟩|⟨bk,cl,sp,rfl,hcl,h3,h4,h5,rfl⟩
 .exact back h (qP h) hw.imm SlC.nil
 .have hmem:(bk,kH (cl++sp).toArray E (0,0))∈L:=by rw[hL];simp
  have hle:h.le (h.add bk (.cells (cl++sp).toArray E (0,0))):=HF.Cd (hw.free _ hmem)
  refine back _ hle (λk o hk=>?_) ⟨bI.slB (hcl.mono hm hle) (HF.xZ _ _ _) h5,h4⟩
  unfold HF.add at hk
  by_cases e0:k=bk
  .subst e0;simp at hk;subst hk;exact hw.own _ hmem
  .rw[if_neg e0]at hk;exact hw.imm k o hk
theorem N1{t E:TypeId}{dir:ChanDir}{sz:Operand}{m Aq:Nat}(hT:P.underlying t=some (.chan dir E))(hby:bytesOf P E=some Aq)(hsz:e.ev sz=.int .i64 (m:Nat))(hm:m<=1000000000)(hb:Aq<=4096)(t':∀bk,K (pute e d (.chan (some bk))) h ((bk,.chan m #[] false 0 0 false)::L))(hg:guardB ops e ⟨d,.makeChan t sz,ty,pos,af,g⟩=true:=by rfl):Stp P b n ops F ds X ⟨d,.makeChan t sz,ty,pos,af,g⟩ e h L K:=
 iM hg λw hw=>by
  refine⟨_,_,h,_,?_,hw.alloc (.chan m #[] false 0 0 false),t' _⟩
  have h1:¬((m:Int)>IntKind.i64.max):=by
   have:IntKind.i64.max=9223372036854775807:=by rfl
   omega
  have h2:∃i,P.info? E=some i/\i.bytes=Aq:=by
   unfold bytesOf at hby
   cases hi:P.info? E with
   |none=>rw[hi]at hby;cases hby
   |some i=>rw[hi]at hby;exact⟨i,rfl,by simpa using hby⟩
  obtain⟨i,hi,hib⟩:=h2
  have h3:¬((i.bytes:Int)*(m:Int)>2 ^ 48-112):=by
   rw[hib]
   have:Aq*m<=4096*1000000000:=Nat.mul_le_mul hb hm
   have h4:((Aq:Int)*(m:Int))=((Aq*m:Nat):Int):=by simp
   rw[h4];omega
  simp only[execOp,Instr.makeChan,hsz]
  simp[asInt,asIntOf,run_underlying hT,typeInfo,hi]
  intro hc
  exfalso
  have h1':¬(9223372036854775807<(m:Int)):=by omega
  have h3':¬(281474976710544<(i.bytes:Int)*(m:Int)):=by
   intro h9;exact h3 (by simpa using h9)
  rcases hc with hc|hc|hc
  .omega
  .exact h1' hc
  .exact h3' hc
end steps
theorem zf{s:GStep}{g:Goroutine}{cs:Array CommCase}{bl:Bool}{sh:CommShape}{w:World}(h:s.bare=.comm g cs bl sh w):∃es,s=.comm g cs bl sh w es:=by
 cases s<;>simp at h
 obtain⟨rfl,rfl,rfl,rfl,rfl⟩:=h
 exact⟨_,rfl⟩
section comm
variable {P:Program} {b:Frame} {n:Nat} {ops:Array Oper} {l:List Oper} {k:List Item} {F:List Frame->(Machine->Prop)->Prop} {e:Env} {ds:List Deferred} {X:Cx} {h:HF} {L:LH}
variable {ty:TypeId} {pos:String} {af:Array Edge} {g:Option (Nat×Bool)}
theorem QC(i:Nat){ch x:Operand}{c cap s r:Nat}{vs:List Value}{v:Value}(hL:nth L i=some (c,.chan cap vs.toArray false s r false))(hch:e.ev ch=.chan (some c))(hx:e.ev x=v)(hroom:vs.length<cap)(t:TO P b n ops l k F e ds X h (setNth L i (c,.chan cap (vs++[v]).toArray false (s+1) r false)))(hg:guardB ops e ⟨none,.send ch x,ty,pos,af,g⟩=true:=by rfl):TO P b n ops (⟨none,.send ch x,ty,pos,af,g⟩::l) k F e ds X h L:=by
 intro w hw is hi a cs Φ hn he hds hF
 obtain⟨j,js,rfl,ho,hj⟩:=oZ hi
 have hwt:=(fK (ops:=ops) he).trans hg
 have hs:=stepGR_op (P:=P) (b:=b) (k:=k) (cs:=cs) (w:=w) (rest:=js) ho hwt
 rw[jI _ _ rfl,jZ,he]at hs
 have hb:w.heap[c]? = some (.chan cap vs.toArray false s r false):=by
  have h2:=hL
  rw[im]at h2
  exact hw.own _ (xE h2)
 have hcm:∃es,stepG P true (Go.Conc.G (b.atR a (.inRegion ops (j::js)::k)) cs) w=.comm (Go.Conc.G (b.atR a (.inRegion ops (j::js)::k)) cs) #[Go.Conc.scase c v (.tuple #[])] true .send w es:=by
  have hrun:(execOp e.ev ⟨none,.send ch x,ty,pos,af,g⟩).run P w=.ok (.comm #[Go.Conc.scase c v (.tuple #[])] true .send) w:=by
   simp[execOp,hch,hx,Go.Conc.scase]
  show ∃es,stepG P true { frame:=b.atR a (.inRegion ops (j::js)::k),callers:=cs,status:=.running,dying:=none } w=_
  refine zf ?_
  rw[hs]
  simp[stepG.apply,hrun,Go.Conc.G]
 obtain⟨es,hcm⟩:=hcm
 have h1:=Go.Conc.step_lone_send_room hcm hb (by simpa using hroom)
 refine .step h1 ?_
 rw[show Go.Conc.solo (Go.Conc.G ((b.atR a (.inRegion ops (j::js)::k)).finish undef) cs) (w.setChan c cap (vs.toArray.push v) false (s+1) r false)=lone ((b.atR a (.inRegion ops (j::js)::k)).finish undef) cs (w.setChan c cap (vs.toArray.push v) false (s+1) r false)from rfl,gQ a js k ho undef]
 have hw2:=hw.write hL (.chan cap (vs++[v]).toArray false (s+1) r false)
 have e1:vs.toArray.push v=(vs++[v]).toArray:=by simp
 rw[e1]
 exact t _ hw2 js hj a cs Φ hn he hds hF
theorem QE(i:Nat){t E:TypeId}{dir:ChanDir}{ch:Operand}{d c cap s r:Nat}{vs:List Value}{v z:Value}(hT:P.underlying t=some (.chan dir E))(hz:zeroV P E=some z)(hL:nth L i=some (c,.chan cap (v::vs).toArray false s r false))(hch:e.ev ch=.chan (some c))(t':TO P b n ops l k F (upd e d v) ds X h (setNth L i (c,.chan cap vs.toArray false s (r+1) false)))(hd:Nat.blt d n=true:=by rfl)(hg:guardB ops e ⟨some d,.recv t ch false,ty,pos,af,g⟩=true:=by rfl):TO P b n ops (⟨some d,.recv t ch false,ty,pos,af,g⟩::l) k F e ds X h L:=by
 intro w hw is hi a cs Φ hn he hds hF
 obtain⟨j,js,rfl,ho,hj⟩:=oZ hi
 have hwt:=(fK (ops:=ops) he).trans hg
 have hs:=stepGR_op (P:=P) (b:=b) (k:=k) (cs:=cs) (w:=w) (rest:=js) ho hwt
 rw[jI _ _ rfl,jZ,he]at hs
 have hb:w.heap[c]? = some (.chan cap (v::vs).toArray false s r false):=by
  have h2:=hL
  rw[im]at h2
  exact hw.own _ (xE h2)
 have hcm:∃es,stepG P true (Go.Conc.G (b.atR a (.inRegion ops (j::js)::k)) cs) w=.comm (Go.Conc.G (b.atR a (.inRegion ops (j::js)::k)) cs) #[Go.Conc.rcase c z] true (.recv false) w es:=by
  have hrun:(execOp e.ev ⟨some d,.recv t ch false,ty,pos,af,g⟩).run P w=.ok (.comm #[Go.Conc.rcase c z] true (.recv false)) w:=by
   simp[execOp,run_underlying hT,e8 hz,hch,Go.Conc.rcase]
  show ∃es,stepG P true { frame:=b.atR a (.inRegion ops (j::js)::k),callers:=cs,status:=.running,dying:=none } w=_
  refine zf ?_
  rw[hs]
  simp[stepG.apply,hrun,Go.Conc.G]
 obtain⟨es,hcm⟩:=hcm
 have h1:=Go.Conc.step_lone_recv_buf false hcm hb (by simp)
 refine .step h1 ?_
 have e2:Go.Conc.got false ((v::vs).toArray.getD 0 undef) true=v:=by simp[Go.Conc.got]
 have e1:(v::vs).toArray.extract 1 (v::vs).toArray.size=vs.toArray:=by simp
 rw[e2,e1]
 rw[show Go.Conc.solo (Go.Conc.G ((b.atR a (.inRegion ops (j::js)::k)).finish v) cs) (w.setChan c cap vs.toArray false s (r+1) false)=lone ((b.atR a (.inRegion ops (j::js)::k)).finish v) cs (w.setChan c cap vs.toArray false s (r+1) false)from rfl,gQ a js k ho v]
 have hw2:=hw.write hL (.chan cap vs.toArray false s (r+1) false)
 have hdn:d<n:=vQ hd
 exact t' _ hw2 js hj (a.put (some d) v) cs Φ (by rw[nX];exact hn) (by rw[oI _ _ _ (hn▸hdn),he]) (by rw[lR];exact hds) hF
end comm
section runs2
variable {P:Program} {e:Env} {X:Cx} {h:HF} {L:LH} {d:Option Nat} {ty:TypeId} {pos:String} {af:Array Edge} {g:Option (Nat×Bool)}
theorem Qu{t E:TypeId}{dir:ChanDir}{ch:Operand}{c cap s r:Nat}{vs:List Value}(hT:P.underlying t=some (.chan dir E))(hL:(c,Obj.chan cap vs.toArray false s r false)∈L)(hch:e.ev ch=.chan (some c)):
  ∀w,St X h L w->(execOp e.ev ⟨d,.call ⟨.builtin .len,#[ch],#[t]⟩,ty,pos,af,g⟩).run P w=.ok (.value (.int .i64 (vs.length:Nat))) w:=λw hw=>by
 have hb:w.heap[c]? = some (.chan cap vs.toArray false s r false):=hw.own _ hL
 have hg:(getObj c).run P w=.ok (.chan cap vs.toArray false s r false) w:=by simp[getObj,Sem.run,hb]
 simp[execOp,resolve,invoke,builtin,Builtin.len_,hch,run_underlying hT,hg,goInt]
end runs2
theorem IV{P:Program}{α : Type}{R:Rp α}{X:Cx}{h:HF}{w:World}{L:LH}{t ty E:TypeId}{xs ys:List α}{base:Option Addr}{cap:Nat}{x:Value}{Aq:Nat}{a:Bool}{zs:List Value}(hw:St X h L w)(hT:P.underlying t=some (.slice E))(hS:tySz P E=some (R.sz,a))(hz:zeroC P E=some zs)(hzl:zs.length=R.sz)(hby:bytesOf P E=some Aq)(hs1:Src R h L (.slice base xs.length cap) xs)(hsrc:Src R h L x ys)(hcap:cap<xs.length+ys.length)(hb:(xs.length+ys.length)*Aq<=140737488355328)(hb2:xs.length+ys.length<=9223372036854775807):
  ∃base' cap' G' w',(Builtin.append_ #[t,t] ty #[.slice base xs.length cap,x]).run P w=.ok (.slice base' (xs++ys).length cap') w'/\dG R E h (xs++ys) base' cap' G'/\St X h (G'++L) w':=by
 obtain⟨i,hi,hby'⟩:∃i,P.info? E=some i/\i.bytes=Aq:=by
  unfold bytesOf at hby
  cases hi:P.info? E with
  |none=>simp[hi]at hby
  |some i=>exact⟨i,rfl,by simpa[hi]using hby⟩
 have hsz:i.size=R.sz:=by
  have:=gD hS w
  simpa[sizeOf,typeInfo,hi]using this
 obtain⟨z,hzz,hzc⟩:∃z,i.zero=some z/\z.cells=zs.toArray:=by
  unfold zeroC at hz
  cases hzz:i.zero with
  |none=>simp[hi,hzz]at hz
  |some z=>exact⟨z,rfl,by simp[hi,hzz]at hz;rw[lY,hz]⟩
 have hnewlen:(xs++ys).length=xs.length+ys.length:=by simp
 have hroom:¬xs.length+ys.length<=cap:=by omega
 have hwd:St X h L w.drew:=hw.drew _
 obtain⟨cl0,b0,c0,hx0,hc0,hf0⟩:=yh (P:=P) hs1 hwd
 obtain⟨cl',b1,c1,hx',hc',hf'⟩:=yh (P:=P) hsrc hwd
 have hfit:Builtin.nextslicecap (xs.length+ys.length) cap*i.bytes<=281474976710656:=growslice_fits hcap (by rw[hby'];exact hb)
 have h48':¬(281474976710656<Builtin.nextslicecap (xs.length+ys.length) cap*i.bytes):=by omega
 have h63':¬(9223372036854775807<((xs.length:Int)+(ys.length:Int))):=by omega
 have hge:=grownCap_ge w (xs.length+ys.length) cap E
 let nc:=grownCap w (xs.length+ys.length) cap E
 let rest:=(Builtin.zeroCells z.cells (nc-(xs.length+ys.length))).toList
 refine⟨some ⟨w.heap.size,0,none⟩,nc,[(w.heap.size,.cells ((cl0++cl')++rest).toArray E (0,0))],w.drew.alloc (.cells ((cl0++cl')++rest).toArray E),?_,?_,?_⟩
 .subst hx'
  rw[←hsz]at hf0 hf'
  simp[Builtin.append_,run_underlying hT,sizeOf,typeInfo,zeroValue,hi,hzz,Builtin.lenOf,hroom,h63',h48',Question.forced,hf0,hf',newRow,grownCap,nc,rest]
  congr 2
  apply aAs
  simp
 .refine .inr ⟨w.heap.size,cl0++cl',rest,rfl,bI.app hc' hc0,?_,by rw[hnewlen];exact hge,by rw[hnewlen];exact hb2,rfl⟩
  have:rest.length=(nc-(xs.length+ys.length))*R.sz:=by
   simp[rest,Builtin.zeroCells,hzc,hzl]
  simp only[jA,this,hc0.len,hc'.len,←Nat.add_mul]
  congr 1
  omega
 .exact hwd.alloc (.cells ((cl0++cl')++rest).toArray E (0,0))
section steps3
variable {P:Program} {b:Frame} {n:Nat} {ops:Array Oper} {F:List Frame->(Machine->Prop)->Prop} {e:Env} {ds:List Deferred} {X:Cx} {h:HF} {L:LH} {K:Env->HF->LH->Prop}
variable {d:Option Nat} {ty:TypeId} {pos:String} {af:Array Edge} {g:Option (Nat×Bool)}
theorem GO{α : Type}{R:Rp α}{t E:TypeId}{s y:Operand}{xs ys:List α}{base:Option Addr}{cap:Nat}{m Aq:Nat}{a:Bool}{zs:List Value}(hT:P.underlying t=some (.slice E))(hS:tySz P E=some (R.sz,a))(hz:zeroC P E=some zs)(hzl:zs.length=R.sz)(hby:bytesOf P E=some Aq)(hs1:Src R h L (.slice base xs.length cap) xs)(hx:e.ev s=.slice base m cap)(hm:m=xs.length)(hsrc:Src R h L (e.ev y) ys)(hcap:cap<xs.length+ys.length)(hb:(xs.length+ys.length)*Aq<=140737488355328)(hb2:xs.length+ys.length<=9223372036854775807)(t':∀base' cap' G',dG R E h (xs++ys) base' cap' G'->K (pute e d (.slice base' (xs++ys).length cap')) h (G'++L))(hgd:guardB ops e ⟨d,.call ⟨.builtin .append,#[s,y],#[t,t]⟩,ty,pos,af,g⟩=true:=by rfl):Stp P b n ops F ds X ⟨d,.call ⟨.builtin .append,#[s,y],#[t,t]⟩,ty,pos,af,g⟩ e h L K:=
 iM hgd λw hw=>by
  subst hm
  obtain⟨base',cap',G',w',hr,hG',hst⟩:=IV (P:=P) (ty:=ty) hw hT hS hz hzl hby hs1 hsrc hcap hb hb2
  refine⟨_,w',h,_,?_,hst,t' _ _ _ hG'⟩
  simp[execOp,resolve,invoke,builtin,hx,hr]
theorem ME{t E:TypeId}{len sz:Nat}{a:Bool}{parts:Array (Nat×Operand)}{zs cells:List Value}(hXM:∀b∈X.M,b<X.w0.heap.size)(hT:P.underlying t=some (.slice E))(hS:tySz P E=some (sz,a))(hz:zeroC P E=some zs)(hpos:kR 0 (len*sz)=true)(hlt:Nat.ble (len*sz) 16777216=true)(hc:Instr.fill (λi=>some (i*sz,sz)) ((Array.range (len*sz)).map (zs.toArray[·%zs.toArray.size]!)) (parts.toList.map λp=>(p.1,e.ev p.2))=some cells.toArray)(t':∀bk,bk∉X.M->K (pute e d (.slice (some ⟨bk,0,none⟩) len len)) h ((bk,.cells cells.toArray E (0,0))::L))(hg:guardB ops e ⟨d,.buildSlice t len parts,ty,pos,af,g⟩=true:=by rfl):Stp P b n ops F ds X ⟨d,.buildSlice t len parts,ty,pos,af,g⟩ e h L K:=
 iM hg λw hw=>by
  obtain⟨z,h1,h2⟩:=rL hz w
  have hp:=oB hpos
  have hl:=vQ hlt
  have hparts:(parts.map λx=>(x.1,e.ev x.2)).toList=parts.toList.map λp=>(p.1,e.ev p.2):=by simp
  refine⟨_,_,h,_,?_,hw.alloc _,t' _ (λhm=>by have:=hXM _ hm;have:=hw.size;omega)⟩
  have hne:¬len*sz=0:=by omega
  have hnl:¬len*sz>2 ^ 24:=by omega
  simp only[execOp,Instr.buildSlice,xP,run_underlying hT,Result.andThen_ok,gD hS,hnl,hne,if_false,h1,h2,Sem.run_pure,hparts]
  rw[hc]
  simp[newRow]
theorem HE(A Q:LH){t:Nat}{ass:Array Operand}{ats:Array TypeId}{fv:Value}{vs:List Value}{Φ : LH->Prop}(hL:L.Perm (A++Q))(hs:mr P fv vs.toArray h A (λx h' B=>x=.returned (.tuple #[])/\h'=h/\Φ B))(hf:e t=fv)(hvs:ass.toList.map e.ev=vs)(t':∀B,Φ B->K (pute e d (.tuple #[])) h (B++Q))(hg:guardB ops e ⟨d,.call ⟨.value (.tmp t),ass,ats⟩,ty,pos,af,g⟩=true:=by rfl):Stp P b n ops F ds X ⟨d,.call ⟨.value (.tmp t),ass,ats⟩,ty,pos,af,g⟩ e h L K:=by
 unfold Stp
 rw[if_pos hg]
 intro w hw
 have hw':=hw.perm hL
 have harr:ass.map e.ev=vs.toArray:=aAs (by simp[←hvs])
 obtain⟨nx,hrun,hcall⟩:=hs w (Pre.left (A:=A) hw'.pre)
 have hr:(execOp e.ev ⟨d,.call ⟨.value (.tmp t),ass,ats⟩,ty,pos,af,g⟩).run P w=.ok nx w:=by
  rw[←hrun]
  simp[execOp,resolve,aB6,harr,hf]
 rw[hr]
 refine lP (mV hcall) (hcall.mono ?_)
 rintro x w' ⟨h',B,hst,rfl,rfl,hB⟩
 exact⟨h',_,aBq (A:=A) (F:=Q) hw' hst,t' B hB⟩
theorem Ef{o:Oper}{L':LH}(hp:L.Perm L')(t:Stp P b n ops F ds X o e h L' K)(hg:guardB ops e o=true:=by rfl):Stp P b n ops F ds X o e h L K:=by
 unfold Stp at t ⊢
 rw[if_pos hg]at t ⊢
 exact λw hw=>t w (hw.perm hp)
end steps3
section runs3
variable {P:Program} {e:Env} {X:Cx} {h:HF} {L:LH} {d:Option Nat} {ty:TypeId} {pos:String} {af:Array Edge} {g:Option (Nat×Bool)}
theorem Qw{t E:TypeId}{x hi mx:Operand}{sz n cap:Nat}{a:Bool}{base:Option Addr}(hT:P.underlying t=some (.slice E))(hS:tySz P E=some (sz,a))(hx:e.ev x=.slice base n cap)(hhi:e.ev hi=.int .i64 (n:Nat))(hmx:e.ev mx=.int .i64 (n:Nat))(hc:n<=cap):
  ∀w,St X h L w->(execOp e.ev ⟨d,.slice t x none (some hi) (some mx),ty,pos,af,g⟩).run P w=.ok (.value (.slice base n n)) w:=λw hw=>by
 by_cases h0:n=0
 .subst h0
  simp[execOp,Instr.sliceAt,Instr.slice,Instr.sliceBounds,Instr.sliceBound,hx,hhi,hmx,asIntOf,run_underlying hT,gD hS,hc]
 .simp[execOp,Instr.sliceAt,Instr.slice,Instr.sliceBounds,Instr.sliceBound,hx,hhi,hmx,asIntOf,run_underlying hT,gD hS,hc,h0,jT]
end runs3
theorem oK.del{κ α : Type}{enc:κ->Value}{V:HF->Value->α->Prop}{h:HF}[DecidableEq κ]{k:κ}:∀{es:List MapEntry}{m:List (κ×α)}(j:Nat),oK enc V h es m ->
  match findIn k (m.map (·.1)) es j with
  |some (i,_)=>j<=i/\i-j<es.length/\oK enc V h (es.eraseIdx (i-j)) (mdel m k)
  |none=>oK enc V h es (mdel m k)
 |[],[],_,_=>trivial
 |e::es,(k',v)::m,j,⟨a,b,c⟩=>by
  simp only[xK,findIn,mdel]
  by_cases hk:k=k'
  .simp only[hk,if_true]
   refine⟨Nat.le_refl _,by simp,?_⟩
   rw[Nat.sub_self];exact c
  .simp only[hk,if_false]
   have ih:=oK.del (k:=k) (j+1) c
   cases hf:findIn k (m.map (·.1)) es (j+1)with
   |none=>rw[hf]at ih;exact⟨a,b,ih⟩
   |some p=>
    obtain⟨i,u⟩:=p
    rw[hf]at ih
    obtain⟨h1,h2,h3⟩:=ih
    have e1:i-j=(i-(j+1))+1:=by omega
    refine⟨by omega,by simp;omega,?_⟩
    rw[e1,List.eraseIdx_cons_succ];exact⟨a,b,h3⟩
 |[],_::_,_,x=>x.elim
 |_::_,[],_,x=>x.elim
section del
variable {P:Program} {b:Frame} {n:Nat} {ops:Array Oper} {F:List Frame->(Machine->Prop)->Prop} {e:Env} {ds:List Deferred} {X:Cx} {h:HF} {L:LH} {K:Env->HF->LH->Prop}
variable {d:Option Nat} {ty:TypeId} {pos:String} {af:Array Edge} {g:Option (Nat×Bool)} {κ α : Type} {enc:κ->Value} {V:HF->Value->α->Prop} [DecidableEq κ]
end del
theorem BW{α : Type}[DecidableEq α]:∀{a b:List α},a.Nodup->(∀x∈a,x∈b)->a.length<=b.length
 |[],b,_,_=>jL _
 |x::a,b,hn,hs=>by
  rw[xR]at hn
  have hx:x∈b:=hs x (zB ..)
  have ih:=BW (b:=b.erase x) hn.2 (λy hy=>by
   have hne:y≠x:=λe=>hn.1 (e▸hy)
   rw[List.mem_erase_of_ne hne];exact hs y (vA _ hy))
  rw[List.length_erase_of_mem hx]at ih
  have:=List.length_pos_of_mem hx
  simp only[zA]
  omega
section frz
variable {P:Program} {b:Frame} {n:Nat} {k:List Item} {F:List Frame->(Machine->Prop)->Prop} {e:Env} {ds:List Deferred} {X:Cx} {h:HF} {L:LH}
theorem D1{todo:List Item}(A G Q:LH)(hL:L=A++(G++Q))(hM:X.M=[])(t:∀h2,h.le h2->(∀p∈G,h2 p.1=some p.2)->TT P b n todo F e ds X h2 (A++Q)):TT P b n todo F e ds X h L:=by
 subst hL
 intro w hw
 obtain⟨h1,h2,h3⟩:=hw.freezeMid hM
 exact t _ h2 h3 w h1
theorem Pj{c:Code}{ι : Type}(sl:ι->List (Nat×Value))(hh:ι->HF)(LL:ι->LH)(I:ι->Prop)(hk:∀i,I i->∀e',TT P b n k F (upds e' (sl i)) ds X (hh i) (LL i))(t':(∀i e',I i->jd e' (sl i)->TT P b n k F e' ds X (hh i) (LL i))->TT P b n (.code c::k) F e ds X h L):TT P b n (.code c::k) F e ds X h L:=
 t' λi e' hI hr=>by have:=hk i hI e';rw[hr.upds]at this;exact this
end frz
end Go.Sg

namespace Go.Sg
def attR:Except Int Unit->Int
 |.ok _=>0
 |.error e=>e
def idxByte(s:ByteArray)(c:Int):Int:=match(List.range s.size).find? (λi=>s[i]! == UInt8.ofNat c.toNat)with
 |some i=>(i:Nat)
 |none=>-1
def bsI(xs:List Int)(t:Int):Int:=((xs.countP (·<t):Nat):Int)
def slices_BinarySearch_int(x:List Int)(target:Int):Int×Bool:=(bsI x target,x.contains target)
def insI(x:Int):List Int->List Int
 |[]=>[x]
 |y::l=>bif decide (x<=y)then x::y::l else y::insI x l
def sortI:List Int->List Int
 |[]=>[]
 |x::l=>insI x (sortI l)
theorem Cj(x:Int):∀l,(insI x l).Perm (x::l)
 |[]=>List.Perm.refl _
 |y::l=>by
  simp only[insI,Bool.cond_eq_ite]
  split
  .exact List.Perm.refl _
  .exact(List.Perm.cons y (Cj x l)).trans (List.Perm.swap x y l)
theorem kz:∀xs,(sortI xs).Perm xs
 |[]=>List.Perm.refl _
 |x::l=>(Cj x _).trans (List.Perm.cons x (kz l))
theorem iw(xs:List Int):(sortI xs).length=xs.length:=(kz xs).length_eq
theorem CZ(x:Int):∀l:List Int,l.Pairwise (·<=·)->(insI x l).Pairwise (·<=·)
 |[],_=>by simp[insI]
 |y::l,h=>by
  rw[List.pairwise_cons]at h
  simp only[insI,Bool.cond_eq_ite,decide_eq_true_eq]
  split
  .next hxy=>
   rw[List.pairwise_cons]
   refine⟨λz hz=>?_,List.pairwise_cons.2 h⟩
   rcases kB.1 hz with rfl|hz
   .exact hxy
   .exact Int.le_trans hxy (h.1 z hz)
  .next hxy=>
   rw[List.pairwise_cons]
   refine⟨λz hz=>?_,CZ x l h.2⟩
   rcases kB.1 ((Cj x l).mem_iff.1 hz)with rfl|hz
   .omega
   .exact h.1 z hz
theorem lJ:∀xs,(sortI xs).Pairwise (·<=·)
 |[]=>List.Pairwise.nil
 |x::l=>CZ x _ (lJ l)
theorem wL:∀{a b:List Int},a.Pairwise (·<=·)->b.Pairwise (·<=·)->a.Perm b->a=b
 |[],b,_,_,p=>(List.Perm.nil_eq p)
 |x::a,[],_,_,p=>absurd p.length_eq (by simp)
 |x::a,y::b,ha,hb,p=>by
  have hx:x=y:=by
   have h1:x∈y::b:=p.mem_iff.1 (zB ..)
   have h2:y∈x::a:=p.mem_iff.2 (zB ..)
   rw[List.pairwise_cons]at ha hb
   rcases kB.1 h1 with e|h1
   .exact e
   .rcases kB.1 h2 with e|h2
    .exact e.symm
    .have:=ha.1 y h2;have:=hb.1 x h1;omega
  subst hx
  rw[List.pairwise_cons]at ha hb
  rw[wL ha.2 hb.2 (List.Perm.cons_inv p)]
theorem IK{xs ys:List Int}(p:xs.Perm ys):sortI xs=sortI ys:=
 wL (lJ _) (lJ _) ((kz xs).trans (p.trans (kz ys).symm))
def insS(x:OSeat):List OSeat->List OSeat
 |[]=>[x]
 |y::l=>bif decide (x.person<=y.person)then x::y::l else y::insS x l
def seatS:List OSeat->List OSeat
 |[]=>[]
 |x::l=>insS x (seatS l)
theorem Ch(x:OSeat):∀l,(insS x l).Perm (x::l)
 |[]=>List.Perm.refl _
 |y::l=>by
  simp only[insS,Bool.cond_eq_ite]
  split
  .exact List.Perm.refl _
  .exact(List.Perm.cons y (Ch x l)).trans (List.Perm.swap x y l)
theorem uT:∀xs,(seatS xs).Perm xs
 |[]=>List.Perm.refl _
 |x::l=>(Ch x _).trans (List.Perm.cons x (uT l))
theorem CY(x:OSeat):∀l:List OSeat,l.Pairwise (λa b=>a.person<=b.person)->(insS x l).Pairwise (λa b=>a.person<=b.person)
 |[],_=>by simp[insS]
 |y::l,h=>by
  rw[List.pairwise_cons]at h
  simp only[insS,Bool.cond_eq_ite,decide_eq_true_eq]
  split
  .next hxy=>
   rw[List.pairwise_cons]
   refine⟨λz hz=>?_,List.pairwise_cons.2 h⟩
   rcases kB.1 hz with rfl|hz
   .exact hxy
   .exact Int.le_trans hxy (h.1 z hz)
  .next hxy=>
   rw[List.pairwise_cons]
   refine⟨λz hz=>?_,CY x l h.2⟩
   rcases kB.1 ((Ch x l).mem_iff.1 hz)with rfl|hz
   .omega
   .exact h.1 z hz
theorem AH:∀xs,(seatS xs).Pairwise (λa b=>a.person<=b.person)
 |[]=>List.Pairwise.nil
 |x::l=>CY x _ (AH l)
theorem H3(xs:List Int):(xs.mergeSort λx y=>decide (x<=y))=sortI xs:=by
 have h:=List.pairwise_mergeSort (le:=λx y:Int=>decide (x<=y)) (λa b c h1 h2=>by simp at *;omega) (λa b=>by simp;omega) xs
 exact wL (h.imp (λh=>by simpa using h)) (lJ _) ((List.mergeSort_perm _ _).trans (kz xs).symm)
theorem uy{κ α : Type}[DecidableEq κ]{P:α->Prop}:∀{m:List (κ×α)}(k:κ){v:α},(∀p∈m,P p.2)->P v->∀p∈mput m k v,P p.2
 |[],k,v,_,hv,p,hp=>by simp[mput]at hp;subst hp;exact hv
 |(k',v')::m,k,v,h,hv,p,hp=>by
  simp only[mput]at hp
  split at hp
  .rcases kB.1 hp with rfl|hp
   .exact hv
   .exact h p (vA _ hp)
  .rcases kB.1 hp with rfl|hp
   .exact h _ (zB ..)
   .exact uy k (λq hq=>h q (vA _ hq)) hv p hp
theorem Jh{κ α : Type}[DecidableEq κ]{P:α->Prop}:∀{m:List (κ×α)}(k:κ){v:α},(∀p∈m,P p.2)->mget? m k=some v->P v
 |[],k,v,_,h=>by simp[mget?]at h
 |(k',v')::m,k,v,h,hg=>by
  simp only[mget?]at hg
  split at hg
  .cases hg;exact h (k',v') (zB ..)
  .exact Jh k (λq hq=>h q (vA _ hq)) hg
theorem yk{κ α : Type}[DecidableEq κ]{P:α->Prop}{m:List (κ×α)}(k:κ){z:α}(h:∀p∈m,P p.2)(hz:P z):P (mgetD m k z):=by
 unfold mgetD
 cases hg:mget? m k with
 |none=>exact hz
 |some v=>exact Jh k h hg
def compStep(out:List Int)(x:Int):List Int:=if out.getLast? = some x then out else out++[x]
def compI(xs:List Int):List Int:=xs.foldl compStep []
def slices_Compact_int(xs:List Int):List Int:=compI xs
end Go.Sg

namespace Go.Sg
def RdN{α : Type}(l:Nat)(lp:Loop)(I:List α->HF->LH->Prop)(J:Code->HF->LH->Prop)(Pn:List PanicEntry->HF->LH->Prop)(done:List α)(x:α)(r':Ending)(h:HF)(B:LH):Prop:=
 (r'=.returned (.bool true)/\∃L',B=(l,.loop { lp with state:=.ready,pending:=none })::L'/\I (done++[x]) h L') \/
 (r'=.returned (.bool false)/\∃c L',B=(l,.loop { lp with state:=.done,pending:=some c })::L'/\J c h L') \/
 (∃ch,r'=.panicked ch/\∃lp' L',B=(l,.loop lp')::L'/\Pn ch h L')
section
variable {α : Type} {P:Program} {l:Nat} {f:FuncId} {n:Nat} {k:List Item} {e:Env} {X:Cx} {h:HF} {L:LH} {lp lp':Loop} {fn:Func} {I:List α->HF->LH->Prop} {J:Code->HF->LH->Prop} {Pn:List PanicEntry->HF->LH->Prop} {done:List α} {x:α}
theorem Lx(hlp:lp'={ lp with state:=.busy })(hI:I (done++[x]) h L):TT P (roundFrame l f) n [] (lS P X (RdN l lp I J Pn done x)) e [] X h ((l,.loop lp')::L):=
 Ln 0 rfl (.inl ⟨rfl,L,by rw[hlp];rfl,hI⟩)
end
theorem Mx{α : Type}{P:Program}{l0:Nat}{lp0:Loop}{f:FuncId}{n:Nat}{k:List Item}{F:List Frame->(Machine->Prop)->Prop}{e:Env}{ds:List Deferred}{X:Cx}{h:HF}{L:LH}{g:Operand}{ps:List Tmp}{assign body:Code}{val:α->HF->List Value->Prop}{xs:List α}{it:Value}(i0:Nat)(hl0:nth L i0=some (l0,.loop lp0))(I:List α->HF->LH->Prop)(hgv:e.ev g=it)(hit:Itr P it val xs h)(hps:ps.all (λp=>kR p n)=true)(hval:∀x h vs,val x h vs->vs.length=ps.length)(hIm:∀done h1 h2 B,HF.le h1 h2->I done h1 B->I done h2 B)(h0:I [] h L)(round:∀l lp done x rest vs h' L' X',xs=done++x::rest->h.le h'->I done h' L'->val x h' vs->lp.state=.ready->X'.h0=h'->(∀b∈X'.M,b<X'.w0.heap.size) ->
   TT P (roundFrame l f) n [.code assign,.beginRound,.code body] (lS P X' (RdN l lp I (λ_ _ _=>False) (λ_ _ _=>False) done x)) (setParams e ps vs) [] X' h' ((l,.loop lp)::L'))(next:∀h' L',h.le h'->I xs h' L'->TT P (roundFrame l0 f) n k F e ds X h' L'):
  TT P (roundFrame l0 f) n (.code (.rangeFunc g ps.toArray assign body)::k) F e ds X h L:=by
 obtain⟨f0,cap,rfl,hc0,hit⟩:=hit
 intro w hw a cs Φ hn he hds hF
 let l:=w.heap.size
 have hb0:w.heap[l0]? = some (.loop lp0):=qh hw hl0
 let lp:Loop:={ state:=.ready,pending:=none,fn:=f,tmps:=a.tmps,params:=ps.toArray,assign,body,defers:=lp0.defers }
 let w2:World:={ w with heap:=w.heap.push (.loop lp) }
 have hw2:St X h ((l,.loop lp)::L) w2:=hw.alloc _
 have henter:(Instr.enterLoop (roundFrame l0 f).fn a.tmps ps.toArray assign body (roundFrame l0 f).roundOf).run P w=.ok (l,[]) w2:=by
  have:=run_enterLoop_inner (P:=P) hb0 f a.tmps ps.toArray assign body
  exact this
 let C:List α->HF->LH->Prop:=λdone h' B=>∃L',B=(l,.loop lp)::L'/\I done h' L'
 let Sp:HF->LH->Prop:=λ_ _=>False
 let Pm:List PanicEntry->HF->LH->Prop:=λ_ _ _=>False
 have hps':∀p∈ps,p<n:=λp hp=>oB (List.all_eq_true.1 hps p hp)
 have hy:∀done x rest vs h'' B,xs=done++x::rest->h.le h''->C done h'' B->val x h'' vs->mr P (.func (.yield l) #[] #[]) vs.toArray h'' B (YR C Sp Pm done x):=by
  rintro done x rest vs h'' B hxs hle ⟨L',rfl,hI⟩ hv
  refine mr.mono (R:=RdN l lp I (λ_ _ _=>False) (λ_ _ _=>False) done x) (wK (i:=0) (lp:=lp) rfl (by simp[lp];exact hval x h'' vs hv) ?_) ?_
  .intro X' _ hX' hXM'
   have henv:envOf { tmps:=(ps.toArray.zip vs.toArray).foldl (λtmps p=>tmps.setIfInBounds p.1 p.2) a.tmps,defers:=[] }=setParams e ps vs:=by
    have:=rA ps vs a.tmps a.defers hn hps'
    rw[←he]
    rw[←Array.foldl_toList]
    simpa using this
   have:=round l lp done x rest vs h'' L' X' hxs hle hI hv rfl hX' hXM'
   rw[←henv,←hn]at this
   exact this
  .rintro x' h3 B' _ (⟨e1,L2,e2,h2⟩|⟨e1,c,L2,e2,h2⟩|⟨ch,e1,lp',L2,e2,h2⟩)
   .exact .inl ⟨e1,L2,e2,h2⟩
   .exact h2.elim
   .exact h2.elim
 have hs:=hit (.yield l) #[] #[] C Sp Pm h ((l,.loop lp)::L) (qP h) (λ_ _ _ _ hl⟨L',e1,hi⟩=>⟨L',e1,hIm _ _ _ _ hl hi⟩) (λ_ _ _ _ hi=>hi) (λ_ _ _ _ _ hi=>hi) ⟨L,rfl,h0⟩ hy
 obtain⟨nx,hrun,hcall⟩:=hs w2 hw2.pre
 have hev:a.eval g=e.ev g:=by rw[jZ,he]
 have hnx:nx=.enter f0 (Value.func (.yield l) #[] #[]::cap).toArray:=by
  simp[kJ,invoke,hc0]at hrun
  simpa using hrun.symm
 subst hnx
 have hres:(resolve a.eval (rangeCall g l) 0).run P w2=.ok { target:=.fn (.func f0) cap.toArray,args:=#[.func (.yield l) #[] #[]] } w2:=by
  have hcst:∀v,a.eval (.const v)=v:=λ_=>rfl
  simp[resolve,rangeCall,hev,hgv,hcst,kJ]
 have hinv:(invoke (.fn (.func f0) cap.toArray) #[.func (.yield l) #[] #[]]).run P w2=.ok (.enter f0 (Value.func (.yield l) #[] #[]::cap).toArray) w2:=by
  simp[invoke,hc0]
 have hback:∀v w3,(∃h' B,St ⟨w2,h,((l,Obj.loop lp)::L).map (·.1)⟩ h' B w3/\ItR C Sp Pm xs (.returned v) h' B) ->
   To P Φ (lone (((roundFrame l0 f).atR { a with defers:=[]++a.defers } (.inRangeFunc l::k)).finish v) cs w3):=by
  rintro v w3 ⟨h',B,hst,hR⟩
  rw[finish_atR_inRangeFunc]
  have hS3:St X h' B w3:=by
   have:=aBq (A:=(l,.loop lp)::L) (F:=[]) (by simpa using hw2) hst
   simpa using this
  have hle:=hst.le
  rcases hR with⟨_,hCS⟩|⟨ch,hx,_⟩
  .rcases hCS with⟨L',rfl,hI⟩|hF
   .have hb:w3.heap[l]? = some (.loop lp):=hS3.own _ (zB ..)
    have hend:(Instr.endLoop l).run P w3=.ok none { w3 with heap:=w3.heap.setIfInBounds l (.loop { lp with state:=.exhausted }) }:=by
     simp[Instr.endLoop,Instr.getLoop,getObj,setObj,Sem.run,hb,lp]
    refine .step (stepR_endRangeFunc hend) ?_
    have hS4:=hS3.write (i:=0) rfl (.loop { lp with state:=.exhausted })
    exact next h' L' hle hI _ (hS4.sub (List.sublist_cons_self ..)) a cs Φ hn he hds hF
   .exact hF.elim
  .cases hx
 have hraise:∀ch w3,(∃h' B,St ⟨w2,h,((l,Obj.loop lp)::L).map (·.1)⟩ h' B w3/\ItR C Sp Pm xs (.panicked ch) h' B) ->
   To P Φ (lone (((roundFrame l0 f).atR { a with defers:=[]++a.defers } (.inRangeFunc l::k)).raise ch) cs w3):=by
  rintro ch w3 ⟨h',B,hst,hR⟩
  rcases hR with⟨hx,_⟩|⟨ch',hx,hP⟩
  .cases hx
  .exact hP.elim
 refine .step (stepR_rangeFunc henter hres hinv) ?_
 exact hcall _ cs Φ hback hraise
def HF.lend(h:HF)(L:LH):HF:=λb=>match L.find? (λp=>p.1==b)with|some p=>some p.2|none=>h b
theorem HF.Jk{h:HF}:∀{L:LH},(L.map (·.1)).Nodup->∀p∈L,h.lend L p.1=some p.2
 |[],_,p,hp=>(kA hp).elim
 |q::L,hd,p,hp=>by
  rw[xK,xR]at hd
  rcases kB.1 hp with rfl|hp
  .simp[HF.lend]
  .have hne:(q.1==p.1)=false:=by
    rw[beq_eq_false_iff_ne];intro e;exact hd.1 (e▸List.mem_map_of_mem hp)
   have:=HF.Jk (h:=h) hd.2 p hp
   simpa[HF.lend,List.find?_cons,hne]using this
theorem HF.PE{h:HF}{L:LH}(hf:∀p∈L,h p.1=none):h.le (h.lend L):=λb o hb=>by
 unfold HF.lend
 cases hq:L.find? (λp=>p.1==b)with
 |none=>exact hb
 |some p=>
  have h1:=List.mem_of_find?_eq_some hq
  have h2:p.1=b:=by simpa using List.find?_some hq
  rw[←h2,hf p h1]at hb;cases hb
section steps
variable {P:Program} {b:Frame} {n:Nat} {ops:Array Oper} {F:List Frame->(Machine->Prop)->Prop} {e:Env} {ds:List Deferred} {X:Cx} {h:HF} {L:LH} {K:Env->HF->LH->Prop}
variable {d:Option Nat} {ty:TypeId} {pos:String} {af:Array Edge} {g:Option (Nat×Bool)}
theorem N3{f:FuncId}{ass:Array Operand}{ats:Array TypeId}{vs:List Value}{v:Value}(hc:∀args w,(callFunc f args).run P w=.ok (.enter f args) w)(hs:∀h1,h.le h1->(∀p∈L,h1 p.1=some p.2)->Ret P f vs h1 v)(hvs:ass.toList.map e.ev=vs)(t':K (pute e d v) h L)(hg:guardB ops e ⟨d,.call ⟨.value (.func f),ass,ats⟩,ty,pos,af,g⟩=true:=by rfl):
  Stp P b n ops F ds X ⟨d,.call ⟨.value (.func f),ass,ats⟩,ty,pos,af,g⟩ e h L K:=by
 unfold Stp
 rw[if_pos hg]
 intro w hw
 have harr:ass.map e.ev=vs.toArray:=aAs (by simp[←hvs])
 have hr:(execOp e.ev ⟨d,.call ⟨.value (.func f),ass,ats⟩,ty,pos,af,g⟩).run P w=.ok (.enter f vs.toArray) w:=by
  simp[execOp,resolve,aB6,kJ,invoke,harr,hc]
 rw[hr]
 have hp1:Pre (h.lend L) [] w:=⟨λk o hk=>by
  unfold HF.lend at hk
  cases hq:L.find? (λp=>p.1==k)with
  |none=>rw[hq]at hk;exact hw.imm k o hk
  |some p=>
   rw[hq]at hk
   have h2:p.1=k:=by simpa using List.find?_some hq
   have h3:p.2=o:=by simpa using hk
   rw[←h2,←h3];exact hw.own p (List.mem_of_find?_eq_some hq),λ_ hp=>(kA hp).elim,aAI,λ_ hp=>(kA hp).elim⟩
 refine lP (by simp) (j7 (rq.mono (hs _ (HF.PE hw.free) (HF.Jk hw.dis) w hp1) ?_))
 rintro x w' ⟨h',B,hst,rfl,rfl,rfl⟩
 refine⟨h,L,⟨hst.os.trans hw.os,hst.tape.trans hw.tape,hst.output.trans hw.output,xS hw.size hst.size,λb' hb' hM=>?_,hw.le,hw.old,λb' o hb'=>?_,λp hp=>?_,hw.dis,hw.free,hw.new⟩,t'⟩
 .rw[hst.keep b' (aBC hb' hw.size) (by simp)];exact hw.keep b' hb' hM
 .rw[hst.keep b' (ib (hw.imm b' o hb')) (by simp)];exact hw.imm b' o hb'
 .rw[hst.keep p.1 (ib (hw.own p hp)) (by simp)];exact hw.own p hp
end steps
section
variable {P:Program} {b:Frame} {n:Nat} {k:List Item} {F:List Frame->(Machine->Prop)->Prop} {e:Env} {ds:List Deferred} {X:Cx} {h:HF} {L:LH} {ops:Array Oper} {l:List Oper} {ty:TypeId} {pos:String} {af:Array Edge} {g:Option (Nat×Bool)}
theorem GG{f:FuncId}{as:Array Operand}{ats:Array TypeId}{vs:List Value}(hro:b.roundOf=none)(hvs:as.toList.map e.ev=vs)(t':TO P b n ops l k F e ({ target:=.fn (.func f) #[],args:=vs.toArray }::ds) X h L)(hg:guardB ops e ⟨none,.defer ⟨.value (.func f),as,ats⟩,ty,pos,af,g⟩=true:=by rfl):TO P b n ops (⟨none,.defer ⟨.value (.func f),as,ats⟩,ty,pos,af,g⟩::l) k F e ds X h L:=by
 intro w hw is hi a cs Φ hn he hds hF
 obtain⟨i,js,rfl,ho,hj⟩:=oZ hi
 have hwt:=(fK (ops:=ops) he).trans hg
 have hst:=stepGR_op (P:=P) (b:=b) (k:=k) (cs:=cs) (w:=w) (rest:=js) ho hwt
 have harr:as.map e.ev=vs.toArray:=aAs (by simp[←hvs])
 have hr:(execOp a.eval ⟨none,.defer ⟨.value (.func f),as,ats⟩,ty,pos,af,g⟩).run P w=.ok (.defer { target:=.fn (.func f) #[],args:=vs.toArray }) w:=by
  rw[jZ,he]
  simp[execOp,resolve,aB6,kJ,harr]
 have hs:Oper.semAt b.roundOf a.eval ⟨none,.defer ⟨.value (.func f),as,ats⟩,ty,pos,af,g⟩=execOp a.eval ⟨none,.defer ⟨.value (.func f),as,ats⟩,ty,pos,af,g⟩:=by rw[hro];rfl
 refine .step (m₁:=lone (b.atR { a with defers:={ target:=.fn (.func f) #[],args:=vs.toArray }::a.defers } (.inRegion ops js::k)) cs w) ?_ (t' w hw js hj { a with defers:={ target:=.fn (.func f) #[],args:=vs.toArray }::a.defers } cs Φ hn he (by rw[hds]) hF)
 refine step_lone_go ?_
 have hfin:=gQ (b:=b) { a with defers:={ target:=.fn (.func f) #[],args:=vs.toArray }::a.defers } js k ho undef
 rw[hst,hs]
 simp only[stepG.apply,Sem.runT_eq,hr,GStep.bare_after]
 exact congrArg (λfr=>GStep.go { frame:=fr,callers:=cs,status:=.running,dying:=none } w) hfin
end
theorem IE{P:Program}{f g:FuncId}{n m:Nat}{k:List Item}{e:Env}{X:Cx}{h:HF}{L A Fr:LH}{cap:List Value}{c:Code}{fn gn:Func}{R:Ending->HF->LH->Prop}{R':HF->LH->Prop}(hf:P.funcs[f]? = some fn)(hg:P.funcs[g]? = some gn)(hb:gn.body=some c)(hm:gn.ntmps=m)(hle:Nat.ble cap.length m=true)(hc:∀args w,(callFunc g args).run P w=.ok (.enter g args) w)(t:∀X':Cx,X'.h0=h->TT P (deferFrame g) m [.code c] (FT P X' .returning R') (envArgs cap) [] X' h A)(hL:L=A++Fr)(fin:∀h' B,h.le h'->R' h' B->∀a:Act,envOf a=e->∀w,St X h' (B++Fr) w->∃v h2 B2,(results fn a.tmps).run P w=.ok v w/\St X h2 B2 w/\R (.returned v) h2 B2):
  TT P (bodyFrame f) n (.code .ret::k) (lS P X R) e [{ target:=.fn (.func g) #[],args:=cap.toArray }] X h L:=by
 intro w hw a cs Φ hn he hds hF
 obtain⟨cc,cs',rfl,h1,_⟩:=hF
 subst hL
 refine .step (stepR_ret rfl) ?_
 have hinv:(invoke (.fn (.func g) #[]) cap.toArray).run P w=.ok (.enter g cap.toArray) w:=by simp[invoke,hc]
 refine .step (step_defer (fr:={ (bodyFrame f).atR a (.code .ret::k)with mode:=.returning }) (by simp) hds rfl hinv) ?_
 have hle':=vQ hle
 have henter:aAb P g cap.toArray .deferred=(deferFrame g).atR { tmps:=cap.toArray++aAL (m-cap.length) undef,defers:=[] } [.code c]:=by
  simp[aAb,Frame.atR,hg,hb,hm,deferFrame]
 rw[henter]
 refine t ⟨w,h,A.map (·.1)⟩ rfl w (St.start hw.pre.left) _ _ Φ (by simp;omega) (oz _ _) rfl ⟨_,cc::cs',rfl,rfl,?_⟩
 rintro w' ⟨h',B,hst,hR'⟩
 obtain⟨v,h2,B2,hv,hs2,hR⟩:=fin h' B hst.le hR' a he w' (hw.after hst)
 refine .step (ip (fn:=fn) (v:=v) rfl rfl rfl hf hv) ?_
 exact h1 v w' ⟨h2,B2,hs2,hR⟩
theorem D2{P:Program}{f g:FuncId}{n m:Nat}{e:Env}{X:Cx}{h:HF}{L A Fr:LH}{cap:List Value}{c:Code}{fn gn:Func}{R:Ending->HF->LH->Prop}{R':HF->LH->Prop}{pv:Value}(hf:P.funcs[f]? = some fn)(hg:P.funcs[g]? = some gn)(hb:gn.body=some c)(hm:gn.ntmps=m)(hle:Nat.ble cap.length m=true)(hc:∀args w,(callFunc g args).run P w=.ok (.enter g args) w)(t:∀X':Cx,X'.h0=h->TT P (deferFrame g) m [.code c] (λcs Φ=>∃c rest,cs=c::rest/\c.mode=.panicking [{ v:=pv,recovered:=false }]/\FT P X' (.panicking [{ v:=pv,recovered:=true }]) R' ({ c with mode:=.panicking [{ v:=pv,recovered:=true }] }::rest) Φ) (envArgs cap) [] X' h A)(hL:L=A++Fr)(fin:∀h' B,h.le h'->R' h' B->∀a:Act,envOf a=e->∀w,St X h' (B++Fr) w->∃v h2 B2,(results fn a.tmps).run P w=.ok v w/\St X h2 B2 w/\R (.returned v) h2 B2):
  TP P (bodyFrame f) n [{ v:=pv,recovered:=false }] (lS P X R) e [{ target:=.fn (.func g) #[],args:=cap.toArray }] X h L:=by
 intro w hw a cs Φ todo hn he hds hF
 obtain⟨cc,cs',rfl,h1,_⟩:=hF
 subst hL
 have hinv:(invoke (.fn (.func g) #[]) cap.toArray).run P w=.ok (.enter g cap.toArray) w:=by simp[invoke,hc]
 refine .step (step_defer (fr:={ (bodyFrame f).atR a todo with mode:=.panicking [{ v:=pv,recovered:=false }] }) (by simp) hds rfl hinv) ?_
 have hle':=vQ hle
 have henter:aAb P g cap.toArray .deferred=(deferFrame g).atR { tmps:=cap.toArray++aAL (m-cap.length) undef,defers:=[] } [.code c]:=by
  simp[aAb,Frame.atR,hg,hb,hm,deferFrame]
 rw[henter]
 refine t ⟨w,h,A.map (·.1)⟩ rfl w (St.start hw.pre.left) _ _ Φ (by simp;omega) (oz _ _) rfl ⟨_,cc::cs',rfl,rfl,_,cc::cs',rfl,rfl,?_⟩
 rintro w' ⟨h',B,hst,hR'⟩
 obtain⟨v,h2,B2,hv,hs2,hR⟩:=fin h' B hst.le hR' a he w' (hw.after hst)
 refine .step (ip (fn:=fn) (v:=v) rfl rfl rfl hf hv) ?_
 exact h1 v w' ⟨h2,B2,hs2,hR⟩
section
variable {P:Program} {b:Frame} {n:Nat} {k:List Item} {F:List Frame->(Machine->Prop)->Prop} {e:Env} {ds:List Deferred} {X:Cx} {h:HF} {L:LH}
theorem D0{c:Code}(t:TT P b n (.code c::.inLoop c::k) F e ds X h L):TT P b n (.code (.loop c)::k) F e ds X h L:=
 λw hw a cs Φ h1 h2 h3 h4=>.step stepR_loop (t w hw a cs Φ h1 h2 h3 h4)
theorem Az{c:Code}(t:TT P b n (.code c::.inLoop c::k) F e ds X h L):TT P b n (.inLoop c::k) F e ds X h L:=
 λw hw a cs Φ h1 h2 h3 h4=>.step stepR_inLoop (t w hw a cs Φ h1 h2 h3 h4)
end
def XRH{ρ : Type}(pe:Int->Value)(x:Except Int ρ)(φ : ρ->Value->HF->Prop)(r:Ending)(h':HF)(B:LH):Prop:=
 B=[]/\match x with
  |.ok u=>∃v,r=.returned v/\φ u v h'
  |.error p=>r=.panicked [{ v:=pe p,recovered:=false }]
abbrev Hr{ρ : Type}(P:Program)(f:FuncId)(args:List Value)(h:HF)(pe:Int->Value)(x:Except Int ρ)(φ : ρ->Value->HF->Prop):Prop:=od P f args.toArray h [] (XRH pe x φ)
def exD{ρ : Type}[Inhabited ρ]:Except Int ρ->ρ
 |.ok r=>r
 |.error _=>default
def exOk{ρ : Type}:Except Int ρ->Prop
 |.ok _=>True
 |.error _=>False
theorem PZ{ρ : Type}[Inhabited ρ]{x:Except Int ρ}(h:exOk x):x=.ok (exD x):=by cases x with
 |ok r=>rfl
 |error p=>exact h.elim
section
variable {P:Program} {f:FuncId} {n:Nat} {k:List Item} {e:Env} {X:Cx} {h:HF} {L:LH} {fn:Func} {ρ : Type} {pe:Int->Value} {x:Except Int ρ} {φ : ρ->Value->HF->Prop}
theorem ID(ms:List Nat){rs:List ResultVar}{u:ρ}(vs:List Value)(hf:P.funcs[f]? = some fn)(hr:fn.results=rs.toArray)(hv:tJ P e L rs vs)(hx:x=.ok u)(hφ : φ u (retVal vs) h):
  TT P (bodyFrame f) n (.code .ret::k) (lS P X (XRH pe x φ)) e (marks ms) X h (L++markB ms):=
 uO ms (v:=retVal vs) hf (λa he w hw=>mA hr hv a he w hw) (λ_ hw=>hw.sub (List.nil_sublist _)) (by subst hx;exact⟨rfl,_,rfl,hφ⟩)
theorem IG(ms:List Nat){p:Int}(hf:P.funcs[f]? = some fn)(hx:x=.error p):
  TP P (bodyFrame f) n [{ v:=pe p,recovered:=false }] (lS P X (XRH pe x φ)) e (marks ms) X h (L++markB ms):=
 Hx ms hf (λ_ hw=>hw.sub (List.nil_sublist _)) (by subst hx;exact⟨rfl,rfl⟩)
end
section
variable {P:Program} {b:Frame} {n:Nat} {ops:Array Oper} {F:List Frame->(Machine->Prop)->Prop} {e:Env} {ds:List Deferred} {X:Cx} {h:HF} {L:LH} {K:Env->HF->LH->Prop}
variable {d:Option Nat} {ty:TypeId} {pos:String} {af:Array Edge} {g:Option (Nat×Bool)} {ρ : Type} {pe:Int->Value} {x:Except Int ρ} {φ : ρ->Value->HF->Prop}
theorem N2{f:FuncId}{as:Array Operand}{ats:Array TypeId}{vs:List Value}(hc:∀args w,(callFunc f args).run P w=.ok (.enter f args) w)(hs:Hr P f vs h pe x φ)(hvs:as.toList.map e.ev=vs)(t':∀u v h',x=.ok u->h.le h'->φ u v h'->K (pute e d v) h' L)(tp:∀p h',x=.error p->h.le h'->∀e',TP P b n [{ v:=pe p,recovered:=false }] F e' ds X h' L)(hg:guardB ops e ⟨d,.call ⟨.value (.func f),as,ats⟩,ty,pos,af,g⟩=true:=by rfl):
  Stp P b n ops F ds X ⟨d,.call ⟨.value (.func f),as,ats⟩,ty,pos,af,g⟩ e h L K:=
 mO (A:=[]) (Fr:=L) hc hvs hs rfl (λv' h' B hle hR=>by
   obtain⟨rfl,hv⟩:=hR
   cases x with
   |ok u=>obtain⟨v,hv,hφ⟩:=hv;cases hv;exact t' _ _ _ rfl hle hφ
   |error p=>cases hv)
  (λch h' B hle hR=>by
   obtain⟨rfl,hv⟩:=hR
   cases x with
   |ok u=>obtain⟨v,hv,_⟩:=hv;cases hv
   |error p=>cases hv;exact tp _ _ rfl hle) hg
theorem GN[Inhabited ρ]{f:FuncId}{as:Array Operand}{ats:Array TypeId}{vs:List Value}(hc:∀args w,(callFunc f args).run P w=.ok (.enter f args) w)(hs:Hr P f vs h pe x φ)(hok:exOk x)(hvs:as.toList.map e.ev=vs)(t':∀v h',h.le h'->φ (exD x) v h'->K (pute e d v) h' L)(hg:guardB ops e ⟨d,.call ⟨.value (.func f),as,ats⟩,ty,pos,af,g⟩=true:=by rfl):
  Stp P b n ops F ds X ⟨d,.call ⟨.value (.func f),as,ats⟩,ty,pos,af,g⟩ e h L K:=
 N2 hc hs hvs (λu v h' hx hl hφ=>by subst hx;exact t' v h' hl hφ) (λp h' hx=>by subst hx;exact hok.elim) hg
theorem nY[Inhabited ρ]{f:FuncId}{as:Array Operand}{ats:Array TypeId}{vs:List Value}{enc:ρ->Value}(hc:∀args w,(callFunc f args).run P w=.ok (.enter f args) w)(hs:Gu P f vs h (exW pe enc x))(hok:exOk x)(hvs:as.toList.map e.ev=vs)(t':K (pute e d (enc (exD x))) h L)(hg:guardB ops e ⟨d,.call ⟨.value (.func f),as,ats⟩,ty,pos,af,g⟩=true:=by rfl):
  Stp P b n ops F ds X ⟨d,.call ⟨.value (.func f),as,ats⟩,ty,pos,af,g⟩ e h L K:=
 my hc hs hvs (λu hu=>by
  obtain⟨r,hr,rfl⟩:=oy hu
  subst hr;exact t') (λp hp=>by
  obtain⟨q,hq,_⟩:=mG hp
  subst hq;exact hok.elim) hg
end
abbrev Q8{α : Type}(P:Program)(f:FuncId)(args:List Value)(h:HF)(R:Rp α)(E:TypeId)(xs:List α):Prop:=
 od P f args.toArray h [] (λr h' G=>h'=h/\∃b c,r=.returned (.slice b xs.length c)/\dG R E h xs b c G)
section
variable {P:Program} {f:FuncId} {n:Nat} {k:List Item} {e:Env} {X:Cx} {h hh:HF} {L A G Q:LH} {fn:Func} {α : Type} {R:Rp α} {E:TypeId} {xs ys:List α} {base:Option Addr} {cap:Nat}
theorem St.forgetG{w:World}(s:St X h (A++(G++Q)) w):St X X.h0 G w:=
 (s.sub (L':=G) ((List.sublist_append_left G Q).trans (List.sublist_append_right A _))).lower
theorem Pg(ms:List Nat){rs:List ResultVar}(hf:P.funcs[f]? = some fn)(hr:fn.results=rs.toArray)(hX:X.h0=hh)(hL:L=A++(G++Q))(hG:∀h1,dG R E h1 xs base cap G)(hv:tJ P e L rs [.slice base xs.length cap])(hs:ys=xs):
  TT P (bodyFrame f) n (.code .ret::k) (lS P X (λr h' G=>h'=hh/\∃b c,r=.returned (.slice b ys.length c)/\dG R E hh ys b c G)) e (marks ms) X h (L++markB ms):=by
 subst hs hL
 exact uO ms (v:=.slice base ys.length cap) hf (λa he w hw=>mA hr hv a he w hw) (λw hw=>hw.forgetG) ⟨hX,_,_,rfl,hG _⟩
end
theorem dG.flat{α : Type}{R:Rp α}{E:TypeId}{h h1:HF}{xs:List α}{base:Option Addr}{cap:Nat}{G:LH}(hR:∀h h' cs x,R.rep h cs x->R.rep h' cs x)(g:dG R E h xs base cap G):dG R E h1 xs base cap G:=by
 have hc:∀{xs:List α}{cl:List Value},bI R h cl xs->bI R h1 cl xs:=by
  intro xs
  induction xs with
  |nil=>intro cl e;exact e
  |cons x xs ih=>rintro cl ⟨cs,rest,e,hl,hr,ht⟩;exact⟨cs,rest,e,hl,hR _ _ _ _ hr,ih ht⟩
 rcases g with g|⟨bk,cl,sp,e1,e2,e3⟩
 .exact .inl g
 .exact .inr ⟨bk,cl,sp,e1,hc e2,e3⟩
theorem IZ{P:Program}{f:FuncId}{fl args cap:List Value}{h:HF}{A:LH}{v:Value}(hc:∀args w,(callFunc f args).run P w=.ok (.enter f args) w)(hr:Q9 P f (fl++args++cap) h A v):
  um P (.func (.func f) fl.toArray cap.toArray) args h A v:=by
 intro w hp
 refine⟨.enter f (fl++args++cap).toArray,?_,j7 (hr w hp)⟩
 simp[kJ,invoke,hc]
section
variable {P:Program} {e:Env} {X:Cx} {h:HF} {L:LH} {d:Option Nat} {ty:TypeId} {pos:String} {af:Array Edge} {g:Option (Nat×Bool)}
theorem CO{t u:TypeId}{x y:Operand}{a c:Int}(hx:e.ev x=.int .i64 a)(hy:e.ev y=.int .i64 c)(hc:c≠0):
  ∀w,St X h L w->(execOp e.ev ⟨d,.binOp .quo t x y u,ty,pos,af,g⟩).run P w=.ok (.value (.int .i64 (IntKind.wrap .i64 (a.tdiv c)))) w:=λw _=>by
 simp[execOp,hx,hy,eqGuard,binOp,Op.intDiv,hc]
end
theorem Ih{N i:Nat}(h:i<N)(hb:N<=9223372036854775807):Value.int .i64 (IntKind.i64.wrap (((N-i:Nat):Int)-1))=.int .i64 (((N-(i+1):Nat)):Int):=by
 rw[jv (by omega)]
 congr 1;omega
section
variable {P:Program} {e:Env} {X:Cx} {h:HF} {L:LH} {d:Option Nat} {ty:TypeId} {pos:String} {af:Array Edge} {g:Option (Nat×Bool)}
theorem fW{x:Operand}{q:Addr}(hx:e.ev x=.pointer (some q)):
  ∀w,St X h L w->(execOp e.ev ⟨d,.nilCheck x,ty,pos,af,g⟩).run P w=.ok (.value (.pointer (some q))) w:=λw _=>by
 simp[execOp,hx]
end
theorem Mk:∀(c A R:List Value),cut (A++(c++R)) A.length c.length=some c
 |[],A,R=>rfl
 |v::c,A,R=>by
  have h1:nth (A++(v::c++R)) A.length=some v:=by rw[im];simp
  have h2:=Mk c (A++[v]) R
  simp only[jA,zA,List.length_nil,qE,List.cons_append,List.nil_append]at h2
  simp only[zA,cut,h1]
  rw[show A++(v::c++R)=A++v::(c++R)from rfl,h2]
theorem Ac{α : Type}{C:α->List Value}{sz:Nat}(hC:∀x,(C x).length=sz):∀{xs:List α}{i:Nat}{y:α},xs[i]? = some y->∃a b,xs=a++y::b/\a.length=i/\(a.flatMap C).length=i*sz
 |[],i,y,h=>by simp at h
 |x::xs,0,y,h=>by simp at h;subst h;exact⟨[],xs,rfl,rfl,by simp⟩
 |x::xs,i+1,y,h=>by
  obtain⟨a,b,e,h1,h2⟩:=Ac hC (xs:=xs) (i:=i) (y:=y) (by simpa using h)
  refine⟨x::a,b,by rw[e];rfl,by simp[h1],?_⟩
  rw[List.flatMap_cons,jA,hC,h2,Nat.add_mul];omega
theorem O1{α : Type}{C:α->List Value}{sz:Nat}(hC:∀x,(C x).length=sz){xs:List α}{sp:List Value}{i:Nat}{y:α}(h:xs[i]? = some y):cut (xs.flatMap C++sp) (i*sz) sz=some (C y):=by
 obtain⟨a,b,rfl,_,h2⟩:=Ac hC h
 have:=Mk (C y) (a.flatMap C) (b.flatMap C++sp)
 rw[h2,hC]at this
 simpa using this
theorem IJ{α : Type}{C:α->List Value}{sz:Nat}(hC:∀x,(C x).length=sz){xs:List α}{sp:List Value}{i:Nat}{u y:α}(h:xs[i]? = some u):splice (xs.flatMap C++sp) (i*sz) (C y)=(xs.set i y).flatMap C++sp:=by
 obtain⟨a,b,rfl,h1,h2⟩:=Ac hC h
 have h3:((a++u::b).set i y)=a++y::b:=by rw[←h1];simp
 have:=ye (C y) (a.flatMap C) (C u++(b.flatMap C++sp)) (by simp[hC])
 rw[h2]at this
 rw[h3]
 have h4:(C u++(b.flatMap C++sp)).drop (C y).length=b.flatMap C++sp:=by
  rw[hC,←hC u];simp
 rw[h4]at this
 simpa using this
theorem Aj{α : Type}{R:Rp α}{C:α->List Value}(hR:∀h cs x,R.rep h cs x->cs=C x){h:HF}:∀{xs:List α}{cl:List Value},bI R h cl xs->cl=xs.flatMap C
 |[],cl,e=>e
 |x::xs,cl,⟨cs,rest,e,_,hr,ht⟩=>by rw[e,hR _ _ _ hr,Aj hR ht];rfl
theorem Fw{α : Type}{R:Rp α}{C:α->List Value}(hR:∀h x,R.rep h (C x) x)(hC:∀x,(C x).length=R.sz)(h:HF):∀(xs:List α),bI R h (xs.flatMap C) xs
 |[]=>rfl
 |x::xs=>⟨C x,xs.flatMap C,rfl,hC x,hR h x,Fw hR hC h xs⟩
theorem sO{α : Type}{C:α->List Value}{sz:Nat}(hC:∀x,(C x).length=sz):∀(xs:List α),(xs.flatMap C).length=xs.length*sz
 |[]=>by simp
 |x::xs=>by rw[List.flatMap_cons,jA,hC,sO hC xs,zA,Nat.add_mul];omega
theorem Kq{P:Program}{t E:TypeId}{sz:Nat}{z:Value}{zs:List Value}(hT:P.underlying t=some (.slice E))(hz:∀w,(zeroValue E).run P w=.ok z w)(hzc:z.cells=zs.toArray)(hzl:zs.length=sz)(h1:∀v∈zs,one v=true)(hs0:0<sz){w:World}{bk off n cc:Nat}{cl:List Value}(hb:w.heap[bk]? = some (.cells cl.toArray E (0,0)))(hle:off+(n+1)*sz<=cl.length)(ty:TypeId):
  ∃vs,vs.length=(n+1)*sz/\(Builtin.clear_ #[t] ty #[.slice (some ⟨bk,off,none⟩) (n+1) cc]).run P w=.ok (.tuple #[]) { w with heap:=w.heap.setIfInBounds bk (.cells (splice cl off vs).toArray E (0,0)) }:=by
 refine⟨(Builtin.zeroCells z.cells (n+1)).toList,?_,?_⟩
 .simp[Builtin.zeroCells,hzc,hzl]
 .have hlen:(Builtin.zeroCells z.cells (n+1)).toList.length=(n+1)*sz:=by simp[Builtin.zeroCells,hzc,hzl]
  have h9:=mz (P:=P) off (Builtin.zeroCells z.cells (n+1)).toList 0 cl w hb (by rw[hlen];simpa using hle) (λv hv=>by
   simp only[Builtin.zeroCells,Array.toList_map,List.mem_map]at hv
   obtain⟨j,_,rfl⟩:=hv
   rw[hzc]
   have hj:j%zs.length<zs.length:=Nat.mod_lt _ (by omega)
   simp only[List.size_toArray]
   rw[getElem!_pos zs.toArray (j%zs.length) (by simpa using hj)]
   exact h1 _ (by simp))
  rw[Nat.add_zero]at h9
  simp only[Builtin.clear_,xP]
  simp[run_underlying hT,hz,h9]
section
variable {P:Program} {b:Frame} {n:Nat} {ops:Array Oper} {F:List Frame->(Machine->Prop)->Prop} {e:Env} {ds:List Deferred} {X:Cx} {h:HF} {L:LH} {K:Env->HF->LH->Prop}
variable {d:Option Nat} {ty:TypeId} {pos:String} {af:Array Edge} {g:Option (Nat×Bool)}
theorem Kv{t E:TypeId}{x lo:Operand}{sz bk n m cap i:Nat}{a:Bool}(hT:P.underlying t=some (.slice E))(hS:tySz P E=some (sz,a))(hx:e.ev x=.slice (some ⟨bk,0,none⟩) n cap)(hlo:e.ev lo=.int .i64 (i:Nat))(hi:i<n)(hc:n<=cap)(hm:n-i=m):
  ∀w,St X h L w->(execOp e.ev ⟨d,.slice t x (some lo) none none,ty,pos,af,g⟩).run P w=.ok (.value (.slice (some ⟨bk,i*sz,none⟩) m (cap-i))) w:=λw hw=>by
 subst hm
 have h2:¬(cap=i):=by omega
 have h3:(⟨bk,0,none⟩:Addr).add (i*sz)=⟨bk,i*sz,none⟩:=qz bk (i*sz)
 simp[execOp,Instr.sliceAt,Instr.slice,Instr.sliceBounds,Instr.sliceBound,hx,hlo,asIntOf,run_underlying hT,gD hS,h2,h3,Nat.le_of_lt hi]
theorem MA(i:Nat){t E:TypeId}{x:Operand}{sz off m cc bk:Nat}{z:Value}{zs cl:List Value}(hT:P.underlying t=some (.slice E))(hz:∀w,(zeroValue E).run P w=.ok z w)(hzc:z.cells=zs.toArray)(hzl:zs.length=sz)(h1:∀v∈zs,one v=true)(hs0:0<sz)(hL:nth L i=some (bk,.cells cl.toArray E (0,0)))(hx:e.ev x=.slice (some ⟨bk,off,none⟩) (m+1) cc)(hle:off+(m+1)*sz<=cl.length)(t':∀vs,vs.length=(m+1)*sz->K (pute e d (.tuple #[])) h (setNth L i (bk,.cells (splice cl off vs).toArray E (0,0))))(hg:guardB ops e ⟨d,.call ⟨.builtin .clear,#[x],#[t]⟩,ty,pos,af,g⟩=true:=by rfl):Stp P b n ops F ds X ⟨d,.call ⟨.builtin .clear,#[x],#[t]⟩,ty,pos,af,g⟩ e h L K:=
 iM hg λw hw=>by
  have hb:w.heap[bk]? = some (.cells cl.toArray E (0,0)):=by
   have h2:=hL
   rw[im]at h2
   exact hw.own _ (xE h2)
  obtain⟨vs,hvl,hr⟩:=Kq (P:=P) (cc:=cc) hT hz hzc hzl h1 hs0 hb hle ty
  refine⟨.tuple #[],_,h,_,?_,hw.write hL _,t' vs hvl⟩
  simp only[execOp,resolve,invoke,builtin]
  simp[hx,hr]
end
section
variable {P:Program} {b:Frame} {n:Nat} {ops:Array Oper} {F:List Frame->(Machine->Prop)->Prop} {e:Env} {ds:List Deferred} {X:Cx} {h:HF} {L:LH} {K:Env->HF->LH->Prop}
variable {d:Option Nat} {ty:TypeId} {pos:String} {af:Array Edge} {g:Option (Nat×Bool)}
theorem Pt{α : Type}{R:Rp α}{E:TypeId}{xs:List α}{f:FuncId}{ass:Array Operand}{ats:Array TypeId}{vs:List Value}(hc:∀args w,(callFunc f args).run P w=.ok (.enter f args) w)(hs:Q8 P f vs h R E xs)(hvs:ass.toList.map e.ev=vs)(t':∀bb c G,dG R E h xs bb c G->K (pute e d (.slice bb xs.length c)) h (L++G))(hg:guardB ops e ⟨d,.call ⟨.value (.func f),ass,ats⟩,ty,pos,af,g⟩=true:=by rfl):
  Stp P b n ops F ds X ⟨d,.call ⟨.value (.func f),ass,ats⟩,ty,pos,af,g⟩ e h L K:=by
 unfold Stp
 rw[if_pos hg]
 intro w hw
 have harr:ass.map e.ev=vs.toArray:=aAs (by simp[←hvs])
 have hr:(execOp e.ev ⟨d,.call ⟨.value (.func f),ass,ats⟩,ty,pos,af,g⟩).run P w=.ok (.enter f vs.toArray) w:=by
  simp[execOp,resolve,aB6,kJ,invoke,harr,hc]
 rw[hr]
 refine lP (by simp) (j7 (rq.mono (hs w (hw.sub (List.nil_sublist _)).pre) ?_))
 rintro x w' ⟨h',B,hst,rfl,bb,c,rfl,hG⟩
 exact⟨h',_,(aBq (A:=[]) (F:=L) hw hst).perm List.perm_append_comm,t' bb c B hG⟩
end
section
variable {P:Program} {b:Frame} {n:Nat} {k:List Item} {F:List Frame->(Machine->Prop)->Prop} {ds:List Deferred} {X:Cx}
theorem Qn{σ : Type}{l:List Oper}{J:HF->LH->Prop}(m0:Nat)(Inv:σ->Env->HF->LH->Prop)(μ : σ->Nat)(dn:σ->List Nat)(fin:∀s e h L,Inv s e h L->μ s=0->TA P b n l.toArray k F ds X J m0 (dn s) e h L)(step:∀s e h L,Inv s e h L->μ s≠0->nexts l.toArray (dn s)≠[]/\∀i∈nexts l.toArray (dn s),∀o,nth l i=some o->Stp P b n l.toArray F ds X o e h L (λe' h' L'=>J h' L'/\∃s',μ s=μ s'+1/\(i::dn s).Perm (dn s')/\Inv s' e' h' L')):
  ∀(m:Nat)(s:σ)(e:Env)(h:HF)(L:LH),μ s=m->Inv s e h L->TA P b n l.toArray k F ds X J (m+m0) (dn s) e h L:=by
 intro m
 induction m with
 |zero=>intro s e h L hm hI;rw[Nat.zero_add];exact fin s e h L hI hm
 |succ m ih=>
  intro s e h L hm hI
  obtain⟨h0,h1⟩:=step s e h L hI (by omega)
  rw[show m+1+m0=(m+m0)+1 from by omega]
  refine⟨λhn=>absurd hn h0,λi hi o ho=>Stp.mono ?_ (h1 i hi o (by rw[im];simpa using ho))⟩
  rintro e' h' L' ⟨hj,s',hs,hp,hI'⟩
  exact⟨hj,TA.perm (λx=>hp.mem_iff.symm) (ih s' e' h' L' (by omega) hI')⟩
theorem Pr{l:List Oper}{dn:List Nat}{e:Env}{h:HF}{L:LH}{Q:Nat->Env->HF->LH->Prop}(is:List Nat)(hn:nexts l.toArray dn=is)(h0:is≠[])(t:∀i∈is,∀o,nth l i=some o->Stp P b n l.toArray F ds X o e h L (Q i)):nexts l.toArray dn≠[]/\∀i∈nexts l.toArray dn,∀o,nth l i=some o->Stp P b n l.toArray F ds X o e h L (Q i):=by
 rw[hn];exact⟨h0,t⟩
end
theorem pmid{α : Type}{T X X':List α}{i:α}(h:(i::X).Perm X'):(i::(T++X)).Perm (T++X'):=List.perm_middle.symm.trans (List.Perm.append_left T h)
section
variable {P:Program} {b:Frame} {n:Nat} {ops:Array Oper} {F:List Frame->(Machine->Prop)->Prop} {e:Env} {ds:List Deferred} {X:Cx} {h:HF} {L:LH} {K:Env->HF->LH->Prop}
variable {d:Option Nat} {ty:TypeId} {pos:String} {af:Array Edge} {g:Option (Nat×Bool)}
theorem GL{t E:TypeId}{ln cp:Operand}{m Aq:Nat}{z:Value}{a:Bool}(hT:P.underlying t=some (.slice E))(hz:zeroC P E=some [z])(hS:tySz P E=some (1,a))(hby:bytesOf P E=some Aq)(hl:e.ev ln=.int .i64 (m:Nat))(hc:e.ev cp=.int .i64 (m:Nat))(hb:Aq*m<=281474976710656)(h63:m<=9223372036854775807)(t':∀bk,K (pute e d (.slice (some ⟨bk,0,none⟩) m m)) h ((bk,.cells (List.replicate m z).toArray E (0,0))::L))(hg:guardB ops e ⟨d,.makeSlice t ln cp,ty,pos,af,g⟩=true:=by rfl):Stp P b n ops F ds X ⟨d,.makeSlice t ln cp,ty,pos,af,g⟩ e h L K:=
 iM hg λw hw=>by
  obtain⟨i,hi,hby'⟩:∃i,P.info? E=some i/\i.bytes=Aq:=by
   unfold bytesOf at hby
   cases hi:P.info? E with
   |none=>simp[hi]at hby
   |some i=>exact⟨i,rfl,by simpa[hi]using hby⟩
  have hsz:i.size=1:=by
   have:=gD hS w
   simpa[sizeOf,typeInfo,hi]using this
  obtain⟨zv,hzz,hzc⟩:∃zv,i.zero=some zv/\zv.cells=#[z]:=by
   unfold zeroC at hz
   cases hzz:i.zero with
   |none=>simp[hi,hzz]at hz
   |some zv=>exact⟨zv,rfl,by simp[hi,hzz]at hz;rw[lY,hz]⟩
  have hr:=run_make (P:=P) w t E i zv hT hi hzz .i64 .i64 (m:Int) (m:Int) (by omega) (Int.le_refl _) (by rw[hby'];omega) (by omega)
  have hcells:madeCells zv.cells ((m:Int).toNat*i.size)=(List.replicate m z).toArray:=by
   rw[hzc,hsz]
   apply Array.ext
   .simp[madeCells]
   .intro j h1 h2;simp[madeCells,Nat.mod_one]
  rw[hcells]at hr
  simp only[Int.toNat_natCast]at hr
  refine⟨_,_,h,_,?_,hw.alloc _,t' _⟩
  have e1:w.alloc (.cells (List.replicate m z).toArray E)={ w with heap:=w.heap.push (.cells (List.replicate m z).toArray E (0,0)) }:=rfl
  rw[e1]at hr
  simp[execOp,hl,hc,hr]
end
theorem HB{P:Program}{b:Frame}{n:Nat}{ops:Array Oper}{F:List Frame->(Machine->Prop)->Prop}{e:Env}{ds:List Deferred}{X:Cx}{h:HF}{L:LH}{K:Env->HF->LH->Prop}{o:Oper}(sl:List (Nat×Value))(hr:jd e sl)(t:Stp P b n ops F ds X o (upds e sl) h L K):Stp P b n ops F ds X o e h L K:=by
 rw[hr.upds]at t;exact t
theorem Ql{P:Program}{b:Frame}{n:Nat}{k:List Item}{F:List Frame->(Machine->Prop)->Prop}{e:Env}{ds:List Deferred}{X:Cx}{h:HF}{L:LH}(sl:List (Nat×Value))(hr:jd e sl)(t:TT P b n k F (upds e sl) ds X h L):TT P b n k F e ds X h L:=by
 rw[hr.upds]at t;exact t
section
variable {P:Program} {b:Frame} {n:Nat} {k:List Item} {F:List Frame->(Machine->Prop)->Prop} {e:Env} {ds:List Deferred} {X:Cx} {h:HF} {L:LH}
theorem lp3{α γ ρ : Type}{id:Nat}{c:Code}{x0:ρ}(xs:List α)(sl:Nat->γ->List (Nat×Value))(hh:γ->HF)(LL:γ->LH)(J JX:Nat->γ->Prop)(hJX:∀i g,J i g->JX i g)(Lf:List α->Nat->γ->ρ)(g0:γ)(hb:xs.length<=9223372036854775807)(hs:x0=Lf xs 0 g0)(hJ:J 0 g0)(after:∀i g,i<=xs.length->x0=Lf [] i g->JX i g->∀e',TT P b n k F (upds e' (sl i g)) ds X (hh g) (LL g))(cons:∀i g y r,xs.drop i=y::r->decide ((i:Int)<(xs.length:Int))=true->xs[i]? = some y->i<xs.length->xs.length<=9223372036854775807->x0=Lf (y::r) i g->J i g ->
   (∀i' g' {e'},x0=Lf [] i' g'->JX i' g'->(hi:i'<=xs.length:=by omega)->(hr:jd e' (sl i' g'):=by exact rds)->TT P b n k F e' ds X (hh g') (LL g')) ->
   (∀g' {e'},x0=Lf r (i+1) g'->J (i+1) g'->(hr:jd e' (sl (i+1) g'):=by exact rds)->TT P b n (.inLoop c::.inBlock id::k) F e' ds X (hh g') (LL g')) ->
   ∀e',TT P b n (.code c::.inLoop c::.inBlock id::k) F (upds e' (sl i g)) ds X (hh g) (LL g))(nil:∀i g,xs.drop i=[]->decide ((i:Int)<(xs.length:Int))=false->(∀e',jd e' (sl i g)->TT P b n k F e' ds X (hh g) (LL g)) ->
   ∀e',TT P b n (.code c::.inLoop c::.inBlock id::k) F (upds e' (sl i g)) ds X (hh g) (LL g):=by exact ndA)(h0:jd e (sl 0 g0):=by exact rds)(hw:∀w,St X h L w->St X (hh g0) (LL g0) w:=by exact sws):
  TT P b n (.code (.block id (.loop c))::k) F e ds X h L:=by
 refine iL (ι:=Nat×γ) (λi=>sl i.1 i.2) (λi=>hh i.2) (λi=>LL i.2) (λi=>i.1<=xs.length/\x0=Lf [] i.1 i.2/\JX i.1 i.2) ?_ (λhx=>?_)
 .rintro⟨i,g⟩ ⟨h1,h2,h3⟩ e'
  exact after i g h1 h2 h3 e'
 .refine kg (ι:=Nat×γ×List α) (λi=>sl i.1 i.2.1) (λi=>hh i.2.1) (λi=>LL i.2.1) (λi=>xs.drop i.1=i.2.2/\i.1<=xs.length/\x0=Lf i.2.2 i.1 i.2.1/\J i.1 i.2.1) (λi=>i.2.2.length) (0,g0,xs) h0 hw ⟨rfl,jL _,hs,hJ⟩ ?_
  rintro⟨i,g,s⟩ ⟨hd,hi,hs,hJ⟩ ag e'
  dsimp only at hd hi hs hJ
  rcases s with _|⟨y,r⟩
  .exact nil i g hd (mR hd) (λe'' hr=>hx (i,g) e'' ⟨hi,hs,hJX _ _ hJ⟩ hr) e'
  .exact cons i g y r hd (sQ hd) (rg hd) (io hd) hb hs hJ (λi' g' e'' a b c d=>hx (i',g') e'' ⟨c,a,b⟩ d)
    (λg' e'' a b hr=>ag (i+1,g',r) e'' (Nat.lt_succ_self _) ⟨kx hd,io hd,a,b⟩ hr) e'
end
end Go.Sg
