import Derived.LaidHandle
import Derived.WordedOn
import Derived.ChangeSame
import Derived.Carry
import Derived.Test.YtngiefchigcphaaGreatDoorW5
/- A part of the proof of AsofSpec. -/
set_option linter.unusedVariables false
set_option linter.unusedSimpArgs false
set_option maxRecDepth 100000
namespace Go.Sg
open Go.Proofs Go.Proofs.Tryz
theorem GE {P:Program} {w:World} {sp:Nat→Bool} {m:Nat} {E:TypeId} {ps rs:Array TypeId} {vd:Bool} {c:List Value} {b:UInt8} {r:List UInt8} {p:List MemPlace} (hE:P.underlying E=some (.func ps rs vd))
  (h:DataW.trod (funcToken P) P w 0 sp true m E c=some (.held (b::r),p)):∃ f fn,c=[.func (.func f) #[] #[]]∧P.funcs[f]? = some fn∧P.funcNamed fn.name=some f∧fn.name.toUTF8.data.toList=b::r:=by
 cases m with
 | zero=>simp [DataW.trod] at h
 | succ m=>
  unfold DataW.trod at h
  rw [hE] at h
  split at h <;> try (simp_all;done)
  next fn fi ca _ _=>
   simp only [if_true,Option.some.injEq,Prod.mk.injEq,DataW.held.injEq] at h
   obtain ⟨f,g,e,h1,h2,h3⟩:=funcToken_tells h.1
   exact ⟨f,g,by rw [e],h1,h2,h3⟩
theorem Jl {P:Program} {k:FuncId} {g:Func} {f:FuncId} {fn:Func} {l:List UInt8} (hg:P.funcNamed g.name=some k) (hl:g.name.toUTF8.data.toList=l) (h2:P.funcNamed fn.name=some f) (h3:fn.name.toUTF8.data.toList=l):f=k:=by
 have:fn.name=g.name:=bytes_inj (h3.trans hl.symm)
 rw [this,hg] at h2
 exact (Option.some.inj h2).symm
theorem Ht {α : Type} {l:List α} {i:Nat} {x:α} (h:(l.drop i).take 1=[x]):l[i]? = some x:=by
 have:=congrArg (·[0]?) h
 simpa using this
theorem kinds_of {W:World} (hL:laidMetH prog YtngiefchigcphaaGreatDoor.Rows.asofEveryUptoRow.laid W):Kinds (hOf W):=by
 obtain ⟨d, hd⟩ : ∃ d, (YtngiefchigcphaaGreatDoor.Rows.laid_signatory_policies_kinds : DataW Unit) = .iface "func table" d := ⟨_, rfl⟩
 obtain ⟨g,t,cs,fuel,p,hg,ht,hv,hr⟩:=hL.funcs (d:=d) (by rw [← hd];exact List.mem_cons_self ..)
 unfold World.var? at hv
 rw [hg] at hv
 obtain rfl:g=0:=Option.some.inj (hg.symm.trans (by kernel_rfl))
 obtain rfl:t=284:=Option.some.inj (ht.symm.trans (by kernel_rfl))
 obtain ⟨xs,m,_,hx,hl,hlen,hf⟩:=DataW.trod_array (n:=5) (e:=165) (by kernel_rfl) hr
 rw [show prog.cellsOf 284=5 by kernel_rfl] at hl
 rw [show prog.cellsOf 165=1 by kernel_rfl] at hf
 unfold YtngiefchigcphaaGreatDoor.Rows.laid_signatory_policies_kinds at hd
 cases hd
 simp only [DataW.funcsOut,DataW.funcsOutAll,Prod.mk.injEq] at hx
 match xs,hlen with
 | [x0,x1,x2,x3,x4],_=>
  simp only [List.map_cons,List.map_nil,beq_self_eq_true,if_true,DataW.agg.injEq,List.cons.injEq,and_true] at hx
  have key:∀ (i:Nat) (x:DataW (List UInt8)×List MemPlace) (b:UInt8) (r:List UInt8) (k:FuncId) (fk:Func),i < 5→[x0,x1,x2,x3,x4][i]? = some x→DataW.held (b::r)=x.1→prog.funcNamed fk.name=some k→fk.name.toUTF8.data.toList=b::r→cs.toList[i]? = some (.func (.func k) #[] #[]):=by
   intro i x b r k fk hi hxi hb hk hn
   have h0:=hf i hi
   rw [hxi,Nat.mul_one] at h0
   obtain ⟨f,fn,e,_,h2,h3⟩:=GE (P:=prog) (E:=165) underlying165 (h0.trans (show some x=some (DataW.held (b::r),x.2) by rw [hb]))
   obtain rfl:=Jl hk hn h2 h3
   exact Ht e
  obtain ⟨⟨e0,e1,e2,e3,e4⟩,_⟩:=hx
  have k0:=key 0 x0 _ _ 299 Tryz.f299 (by omega) rfl e0 (by kernel_rfl) (by kernel_rfl)
  have k1:=key 1 x1 _ _ 300 Tryz.f300 (by omega) rfl e1 (by kernel_rfl) (by kernel_rfl)
  have k2:=key 2 x2 _ _ 301 Tryz.f301 (by omega) rfl e2 (by kernel_rfl) (by kernel_rfl)
  have k3:=key 3 x3 _ _ 302 Tryz.f302 (by omega) rfl e3 (by kernel_rfl) (by kernel_rfl)
  have k4:=key 4 x4 _ _ 303 Tryz.f303 (by omega) rfl e4 (by kernel_rfl) (by kernel_rfl)
  have hcs:cs=kindsC.toArray:=by
   apply Array.toList_inj.1
   apply List.ext_getElem?
   intro i
   match i with
   | 0=>exact k0
   | 1=>exact k1
   | 2=>exact k2
   | 3=>exact k3
   | 4=>exact k4
   | i+5=>rw [List.getElem?_eq_none (by omega)];rfl
  simp only [Option.bind_some] at hv
  split at hv
  ·next c T fz e=>
   cases hv
   exact ⟨T,fz,by rw [← hcs];exact e⟩
  ·cases hv
end Go.Sg
namespace Go.Sg
open Go.ChangeShapes Go.WideShapes Go.RowKit
variable {H:Type} {enc:TypeId×Value→H} {P:Program}
theorem post_below {f:Func} {s:ChangeSpec} {apart fresh handsOn again:Bool} {W W':World} {args:Array Value} {v:Value} {ds gs:List (DataW H)} {before pa pv:List MemPlace}
  (hW:DataW.Whole enc P f.params.toList s.vars apart W args.toList ds gs before)
  (hres:∀ (b:Nat) (sp:Nat→Bool) (hd:Bool),DataW.TrodAll enc P W' b sp hd f.resultTypes.toList (v.resultList f.resultTypes.size) (s.fn H (ds++gs)).results [])
  (hargs:∀ sp:Nat→Bool,(∀ p∈before,sp p.block=true)→DataW.TrodAll enc P W' 0 sp true f.params.toList args.toList (s.fn H (ds++gs)).args pa)
  (hvars:∀ sp:Nat→Bool,(∀ p∈before,sp p.block=true)→DataW.TrodVars enc P W' sp s.vars (s.fn H (ds++gs)).vars pv)
  (hps:before=pa++pv) (hb:Below W.heap.size W W')
  (hok:∀ (j:Nat) (t:TypeId) (r:Value),f.resultTypes[j]? = some t→(v.resultList f.resultTypes.size)[j]? = some r→Value.okWide P W' .any 0 t r):
  s.post enc P f apart fresh handsOn again W args v W':=by
 have hlt:=hW.lt
 have hold:∀ p∈before,(fun b=>decide (b < W.heap.size)) p.block=true:=fun p hp=>by simpa using hlt p hp
 refine ⟨ds,gs,before,[],pa,pv,hW,hres _ _ _,hargs _ hold,hvars _ hold,World.keptBut_mono (fun p hp=>⟨hp,?_⟩) (hb.frame (·∈before)),fun _=>?_⟩
 ·rw [hps,List.mem_append] at hp
  exact Or.inr hp
 ·obtain ⟨_,_,_,_,_,hz,hn⟩:=hW
  refine ⟨hok,_,_,([]++pa)++pv,⟨[]++pa,pv,trodAll_append (hargs _ (fun _ _=>rfl)) (hres _ _ _),hvars _ (fun _ _=>rfl),rfl,?_,?_⟩,?_⟩
  ·intro b off hp
   have hp':MemPlace.cell b off∈before:=by rw [hps];simpa using hp
   rw [hb.frozen (p:=⟨b,off,none⟩) (hlt _ hp')]
   exact hz b off hp'
  ·intro ha
   have:=hn ha
   rw [hps] at this
   simpa using this
  ·intro p hp _
   rw [hps]
   simpa using hp
theorem stays {t:TypeId} (hl:laidOutB P=true) (hr:P.readableRec t=true) (hrow:decide (t < P.types.size)=true) {W W':World} {v:Value} {d:DataW H} {ps before:List MemPlace} (h:DataW.Trod enc P W 0 (fun _=>true) true t v d ps)
  (hb:Below W.heap.size W W') (hlt:∀ x∈before,x.block < W.heap.size) (hm:∀ x∈ps,x∈before) {sp:Nat→Bool} (hsp:∀ p∈before,sp p.block=true):DataW.Trod enc P W' 0 sp true t v d ps:=
 WideElems.Trod_stays hl hr (of_decide_eq_true hrow) h (fun x hx=>hb.same (hlt x (hm x hx))) (fun x hx=>hsp _ (hm x hx))
end Go.Sg
namespace Go.Sg
open Go.Proofs Go.Proofs.Tryz
theorem ty120:tySz prog 120=some (1,false):=kr
theorem ty203:tySz prog 203=some (1,false):=kr
theorem ty159:tySz prog 159=some (1,false):=kr
theorem ty212:tySz prog 212=some (2,true):=kr
theorem ty31:tySz prog 31=some (1,false):=kr
theorem ty215:tySz prog 215=some (1,false):=kr
theorem ty3:tySz prog 3=some (1,false):=kr
theorem zc212:zeroC prog 212=some [.int .i64 0,.int .i64 0]:=kr
theorem bytes212:bytesOf prog 212=some 16:=kr
theorem zc3:zeroC prog 3=some [.int .i64 0]:=kr
theorem bytes3:bytesOf prog 3=some 8:=kr
theorem zc35:zeroC prog 35=some [.int .i64 0]:=kr
theorem ty35:tySz prog 35=some (1,false):=kr
theorem zc277:zeroC prog 277=some [.int .i64 0]:=kr
theorem ty277:tySz prog 277=some (1,true):=kr
theorem Ix:fldOf prog 277 0=some 0:=kr
theorem ty148:tySz prog 148=some (2,true):=kr
theorem ty146:tySz prog 146=some (1,false):=kr
theorem ty145:tySz prog 145=some (1,false):=kr
theorem ty149:tySz prog 149=some (1,false):=kr
theorem ty61:tySz prog 61=some (7,true):=kr
theorem ty24:tySz prog 24=some (1,false):=kr
theorem ty4:tySz prog 4=some (1,false):=kr
theorem ty26:tySz prog 26=some (1,false):=kr
theorem ty34:tySz prog 34=some (1,false):=kr
theorem ty46:tySz prog 46=some (2,true):=kr
theorem ty90:tySz prog 90=some (1,false):=kr
theorem ty77:tySz prog 77=some (49,true):=kr
theorem zc148:zeroC prog 148=some [.slice none 0 0,.int .i64 0]:=kr
theorem zc61:zeroC prog 61=some [.int .i64 0,.int .i64 0,.int .i64 0,.int .i64 0,.int .i64 0,.bool false,.bool false]:=kr
theorem zc145:zeroC prog 145=some [.map none]:=kr
theorem zc120:zeroC prog 120=some [.map none]:=kr
theorem zc146:zeroC prog 146=some [.chan none]:=kr
theorem zc149:zeroC prog 149=some [.nilFunc]:=kr
theorem zc34:zeroC prog 34=some [.slice none 0 0]:=kr
theorem zc46:zeroC prog 46=some [.int .i64 0,.int .i64 0]:=kr
theorem zc90:zeroC prog 90=some [.nilFunc]:=kr
theorem zc31:zeroC prog 31=some [.slice none 0 0]:=kr
theorem zc77:zeroC prog 77=some (.slice none 0 0::.slice none 0 0::.slice none 0 0::.slice none 0 0::.slice none 0 0::.slice none 0 0::.slice none 0 0::.int .i64 0::.int .i64 0::.int .i64 0::.int .i64 0::.int .i64 0::.int .i64 0::.slice none 0 0::.slice none 0 0::.slice none 0 0::.int .u8 0::.int .u8 0::.int .u8 0::.int .u8 0::.int .u8 0::.int .u8 0::.int .u8 0::.int .u8 0::.int .u8 0::.int .u8 0::.int .u8 0::.int .u8 0::.int .u8 0::.int .u8 0::.int .u8 0::.int .u8 0::.int .u8 0::.int .u8 0::.int .u8 0::.int .u8 0::.int .u8 0::.int .u8 0::.int .u8 0::.int .u8 0::.int .u8 0::.int .u8 0::.int .u8 0::.int .u8 0::.int .u8 0::.int .u8 0::.int .u8 0::.int .u8 0::.int .i64 0::[]):=kr
theorem zv4:zeroV prog 4=some (.bool false):=kr
theorem zv24:zeroV prog 24=some (.slice none 0 0):=kr
theorem zv148:zeroV prog 148=some (.agg (List.toArray [.slice none 0 0,.int .i64 0])):=kr
theorem bytes61:bytesOf prog 61=some 48:=kr
theorem bytes46:bytesOf prog 46=some 16:=kr
theorem bytes148:bytesOf prog 148=some 32:=kr
theorem Iy:fldOf prog 148 0=some 0:=kr
theorem Jp:fldOf prog 61 0=some 0:=kr
theorem F5:fldOf prog 61 3=some 3:=kr
theorem Jo:fldOf prog 61 4=some 4:=kr
theorem Iz:fldOf prog 133 1=some 1:=kr
theorem ty270:tySz prog 270=some (2,true):=kr
theorem zc270:zeroC prog 270=some [.slice none 0 0,.int .i64 0]:=kr
theorem bytes270:bytesOf prog 270=some 32:=kr
theorem Eh:fldOf prog 270 1=some 1:=kr
theorem Jq:fldOf prog 59 2=some 2:=kr
theorem ty59:tySz prog 59=some (7,true):=kr
theorem zc59:zeroC prog 59=some [.int .i64 0,.int .i64 0,.int .i64 0,.int .i64 0,.int .i64 0,.int .i64 0,.bool false]:=kr
theorem ty169:tySz prog 169=some (10,true):=kr
theorem zc169:zeroC prog 169=some [.int .i64 0,.int .i64 0,.int .i64 0,.int .i64 0,.int .i64 0,.int .i64 0,.int .i64 0,.int .i64 0,.int .i64 0,.bool false]:=kr
theorem ty173:tySz prog 173=some (8,true):=kr
theorem zc173:zeroC prog 173=some [.int .i64 0,.int .i64 0,.int .i64 0,.int .i64 0,.int .i64 0,.int .i64 0,.int .i64 0,.bool false]:=kr
theorem ty66:tySz prog 66=some (5,true):=kr
theorem zc258:zeroC prog 258=some [.int .i64 0,.int .i64 0,.int .i64 0,.string (⟨#[]⟩:ByteArray),.slice none 0 0,.int .i64 0]:=kr
theorem ty64:tySz prog 64=some (1,false):=kr
theorem zc66:zeroC prog 66=some [.int .i64 0,.int .i64 0,.int .i64 0,.string (⟨#[]⟩:ByteArray),.slice none 0 0]:=kr
theorem ty258:tySz prog 258=some (6,true):=kr
theorem ty63:tySz prog 63=some (1,false):=kr
theorem ty107:tySz prog 107=some (8,true):=kr
theorem zc107:zeroC prog 107=some [.string (⟨#[]⟩:ByteArray),.int .i64 0,.int .i64 0,.int .i64 0,.int .i64 0,.int .i64 0,.string (⟨#[]⟩:ByteArray),.slice none 0 0]:=kr
theorem IA:fldOf prog 107 3=some 3:=kr
theorem bytes66:bytesOf prog 66=some 64:=kr
theorem ty62:tySz prog 62=some (1,false):=kr
theorem ty68:tySz prog 68=some (10,true):=kr
theorem ty9:tySz prog 9=some (1,false):=kr
theorem Ei:fldOf prog 107 2=some 2:=kr
theorem zc64:zeroC prog 64=some [.slice none 0 0]:=kr
theorem ty165:tySz prog 165=some (1,false):=kr
theorem zc68:zeroC prog 68=some [.string (⟨#[]⟩:ByteArray),.slice none 0 0,.slice none 0 0,.slice none 0 0,.int .i64 0,.int .i64 0,.int .i64 0,.string (⟨#[]⟩:ByteArray),.slice none 0 0,.int .i64 0]:=kr
theorem bytes107:bytesOf prog 107=some 96:=kr
theorem zc4:zeroC prog 4=some [.bool false]:=kr
theorem ty70:tySz prog 70=some (13,true):=kr
theorem zc70:zeroC prog 70=some [.int .i64 0,.int .i64 0,.int .i64 0,.string (⟨#[]⟩:ByteArray),.slice none 0 0,.slice none 0 0,.slice none 0 0,.int .i64 0,.int .i64 0,.int .i64 0,.string (⟨#[]⟩:ByteArray),.slice none 0 0,.int .i64 0]:=kr
theorem Jn:fldOf prog 70 1=some 1:=kr
theorem F4:fldOf prog 70 3=some 3:=kr
theorem zc178:zeroC prog 178=some [.slice none 0 0,.map none]:=kr
theorem ty178:tySz prog 178=some (2,true):=kr
theorem ty52:tySz prog 52=some (41,true):=kr
theorem zc52:zeroC prog 52=some (.int .i64 0::.int .i64 0::.int .i64 0::.int .i64 0::.int .i64 0::.int .i64 0::.slice none 0 0::.slice none 0 0::.slice none 0 0::.int .u8 0::.int .u8 0::.int .u8 0::.int .u8 0::.int .u8 0::.int .u8 0::.int .u8 0::.int .u8 0::.int .u8 0::.int .u8 0::.int .u8 0::.int .u8 0::.int .u8 0::.int .u8 0::.int .u8 0::.int .u8 0::.int .u8 0::.int .u8 0::.int .u8 0::.int .u8 0::.int .u8 0::.int .u8 0::.int .u8 0::.int .u8 0::.int .u8 0::.int .u8 0::.int .u8 0::.int .u8 0::.int .u8 0::.int .u8 0::.int .u8 0::.int .u8 0::[]):=kr
theorem ty176:tySz prog 176=some (1,false):=kr
theorem F6:fldOf prog 52 8=some 8:=kr
theorem zv3:zeroV prog 3=some (.int .i64 0):=kr
theorem ty181:tySz prog 181=some (8,true):=kr
theorem zc181:zeroC prog 181=some [.int .i64 0,.int .i64 0,.int .i64 0,.int .i64 0,.int .i64 0,.int .i64 0,.int .i64 0,.bool false]:=kr
theorem ty22:tySz prog 22=some (1,false):=kr
theorem ty23:tySz prog 23=some (1,false):=kr
theorem ty25:tySz prog 25=some (1,false):=kr
theorem ty27:tySz prog 27=some (1,false):=kr
theorem ty28:tySz prog 28=some (1,false):=kr
theorem ty30:tySz prog 30=some (7,true):=kr
theorem ty101:tySz prog 101=some (1,false):=kr
theorem ty133:tySz prog 133=some (2,true):=kr
theorem zc133:zeroC prog 133=some [.int .i64 0,.int .i64 0]:=kr
theorem ty100:tySz prog 100=some (1,false):=kr
theorem ty164:tySz prog 164=some (3,true):=kr
theorem zc261:zeroC prog 261=some [.nilFunc]:=kr
theorem ty261:tySz prog 261=some (1,false):=kr
theorem zc227:zeroC prog 227=some [.nilFunc,.nilFunc,.nilFunc,.nilFunc,.nilFunc]:=kr
theorem ty226:tySz prog 226=some (1,false):=kr
theorem ty227:tySz prog 227=some (5,true):=kr
theorem zc164:zeroC prog 164=some [.int .i64 0,.slice none 0 0,.slice none 0 0]:=kr
theorem zv141:zeroV prog 141=some (.nilFunc):=kr
theorem ty205:tySz prog 205=some (1,false):=kr
theorem zc207:zeroC prog 207=some [.int .i64 0,.int .i64 0,.bool false]:=kr
theorem zv61:zeroV prog 61=some (.agg (List.toArray [.int .i64 0,.int .i64 0,.int .i64 0,.int .i64 0,.int .i64 0,.bool false,.bool false])):=kr
theorem eqg61:prog.eqGuardType prog.depth 61=false:=kr
theorem zc205:zeroC prog 205=some [.map none]:=kr
theorem ty207:tySz prog 207=some (3,true):=kr
theorem zv70:zeroV prog 70=some (.agg (List.toArray [.int .i64 0,.int .i64 0,.int .i64 0,.string (⟨#[]⟩:ByteArray),.slice none 0 0,.slice none 0 0,.slice none 0 0,.int .i64 0,.int .i64 0,.int .i64 0,.string (⟨#[]⟩:ByteArray),.slice none 0 0,.int .i64 0])):=kr
theorem zc26:zeroC prog 26=some [.slice none 0 0]:=kr
theorem bytes70:bytesOf prog 70=some 184:=kr
theorem bytes68:bytesOf prog 68=some 160:=kr
theorem bytes133:bytesOf prog 133=some 16:=kr
theorem zv59:zeroV prog 59=some (.agg (List.toArray [.int .i64 0,.int .i64 0,.int .i64 0,.int .i64 0,.int .i64 0,.int .i64 0,.bool false])):=kr
theorem zc101:zeroC prog 101=some [.slice none 0 0]:=kr
theorem bytes101:bytesOf prog 101=some 24:=kr
theorem bytes4:bytesOf prog 4=some 1:=kr
theorem zc30:zeroC prog 30=some [.slice none 0 0,.slice none 0 0,.slice none 0 0,.slice none 0 0,.slice none 0 0,.slice none 0 0,.slice none 0 0]:=kr
theorem zc9:zeroC prog 9=some [.string (⟨#[]⟩:ByteArray)]:=kr
theorem eqg46:prog.eqGuardType prog.depth 46=false:=kr
theorem Jr:fldT prog 70 3=some (68,3):=kr
def pU (x:fB) (h:HF) (vs:List Go.Value):Prop:=∃ (r0:wI),vs=[.agg (fB.cells x r0).toArray]∧fB.ok h x r0
theorem lY (x:fB) (h:HF) (vs:List Go.Value) (e:pU x h vs):vs.length=1:=by
 obtain ⟨_,e,_⟩:=e;rw [e];rfl
def zp (x:Span) (h:HF) (vs:List Go.Value):Prop:=vs=[.agg (Span.cells x).toArray]
theorem Ct (x:Span) (h:HF) (vs:List Go.Value) (e:zp x h vs):vs.length=1:=by
 rw [e];rfl
def mq (x:Holder) (h:HF) (vs:List Go.Value):Prop:=vs=[.agg (Holder.cells x).toArray]
theorem oC (x:Holder) (h:HF) (vs:List Go.Value) (e:mq x h vs):vs.length=1:=by
 rw [e];rfl
def qJ (x:Interest) (h:HF) (vs:List Go.Value):Prop:=vs=[.agg (Interest.cells x).toArray]
theorem wm (x:Interest) (h:HF) (vs:List Go.Value) (e:qJ x h vs):vs.length=1:=by
 rw [e];rfl
def nD (x:(Int×Version)) (h:HF) (vs:List Go.Value):Prop:=∃ (r0:lC),vs=[.int .i64 x.1,.agg (Version.cells x.2 r0).toArray]∧Version.ok h x.2 r0
theorem tx (x:(Int×Version)) (h:HF) (vs:List Go.Value) (e:nD x h vs):vs.length=2:=by
 obtain ⟨_,e,_⟩:=e;rw [e];rfl
theorem IC (a b:Span) (w:World):(Op.equal 46 (Span.enc a) (Span.enc b)).run prog w=.ok (decide (a=b)) w:=
 xT wQ (by kernel_rfl) (by kernel_rfl) (by rw [Bool.eq_iff_iff];cases a;cases b;simp [eqv,nth,Span.cells]) w
theorem CA (a b:Interest) (w:World):(Op.equal 61 (Interest.enc a) (Interest.enc b)).run prog w=.ok (decide (a=b)) w:=
 xT Hk (by kernel_rfl) (by kernel_rfl) (by rw [Bool.eq_iff_iff];cases a;cases b;simp [eqv,nth,Interest.cells]) w
theorem CB (a b:cm) (w:World):(Op.equal 207 (cm.enc a) (cm.enc b)).run prog w=.ok (decide (a=b)) w:=
 xT Fs (by kernel_rfl) (by kernel_rfl) (by rw [Bool.eq_iff_iff];cases a;cases b;simp [eqv,nth,cm.cells]) w
theorem pG:tA prog 207 cm.enc:=DH Fs (fun e a w=>yz e Fs (by kernel_rfl) w) CB (fun a=>by
 show Instr.sameBits (9999+1) _ _=true
 simp [Instr.sameBits,cm.enc,cm.cells])
theorem GH (a b:OSeat) (w:World):(Op.equal 212 (OSeat.enc a) (OSeat.enc b)).run prog w=.ok (decide (a=b)) w:=
 xT Fq (by kernel_rfl) (by kernel_rfl) (by rw [Bool.eq_iff_iff];cases a;cases b;simp [eqv,nth,OSeat.cells]) w
theorem us:tA prog 212 OSeat.enc:=DH Fq (fun e a w=>yz e Fq (by kernel_rfl) w) GH (fun a=>by
 show Instr.sameBits (9999+1) _ _=true
 simp [Instr.sameBits,OSeat.enc,OSeat.cells])
def tabF:List (Nat×Nat×Nat):=(277,0,0)::(148,0,0)::(148,1,1)::(61,0,0)::(61,3,3)::(61,4,4)::(61,5,5)::(46,0,0)::(46,1,1)::(133,1,1)::(270,0,0)::(270,1,1)::(59,6,6)::(59,0,0)::(59,1,1)::(59,2,2)::(59,3,3)::(59,4,4)::(59,5,5)::(169,0,0)::(169,1,1)::(169,2,2)::(169,4,4)::(169,5,5)::(169,6,6)::(169,7,7)::(169,9,9)::(169,3,3)::(169,8,8)::(61,1,1)::(61,2,2)::(173,7,7)::(173,0,0)::(173,1,1)::(173,2,2)::(173,3,3)::(173,4,4)::(173,5,5)::(173,6,6)::(66,4,4)::(68,3,3)::(107,3,3)::(68,4,4)::(68,2,2)::(68,1,1)::(258,1,5)::(66,0,0)::(68,0,0)::(258,0,0)::(66,3,3)::(66,1,1)::(68,5,9)::(107,0,0)::(107,2,2)::(66,2,2)::(107,1,1)::(70,0,0)::(70,1,1)::(70,2,2)::(70,3,3)::(178,1,1)::(52,0,0)::(52,1,1)::(52,2,2)::(52,3,3)::(52,4,4)::(52,5,5)::(52,6,6)::(52,7,7)::(52,8,8)::(181,0,0)::(181,1,1)::(181,2,2)::(181,3,3)::(181,4,4)::(181,5,5)::(181,6,6)::(30,0,0)::(30,1,1)::(30,2,2)::(30,3,3)::(30,4,4)::(30,5,5)::(30,6,6)::(77,1,7)::(77,0,0)::(133,0,0)::(164,1,1)::(164,2,2)::(164,0,0)::(61,6,6)::(77,2,48)::(212,1,1)::(212,0,0)::[]
def tabY:List Nat:=120::203::159::31::215::3::35::146::145::149::24::4::26::34::90::285::64::63::62::9::165::176::22::23::25::27::28::101::100::261::226::205::[]
def tabS:List Nat:=22::23::24::25::26::27::28::31::34::62::63::64::93::98::100::101::117::127::215::267::[]
theorem tabs:tabOk prog tabF tabY tabS=true:=kr
theorem qK (m:Nat) (is:List Nat) {b:Frame} {n:Nat} {k:List Item} {F:List Frame→(Machine→Prop)→Prop} {e:Env} {ds:List Deferred} {X:Cx} {h:HF} {L:LH} {s:Qs} {q:List (Nat×Nat)} (hr:runL tabF tabY tabS n L m is (.tt k e)=some (s,q)) (t:s.holds prog b n F ds X h L) (hq:Jw q:=by repeat (first | exact trivial | refine ⟨rfl,?_⟩)):TT prog b n k F e ds X h L:=nR tabs m is _ hr hq t
theorem qL (m:Nat) (is:List Nat) {ops:Array Oper} {l:List Oper} {b:Frame} {n:Nat} {k:List Item} {F:List Frame→(Machine→Prop)→Prop} {e:Env} {ds:List Deferred} {X:Cx} {h:HF} {L:LH} {s:Qs} {q:List (Nat×Nat)} (hr:runL tabF tabY tabS n L m is (.to ops l k e)=some (s,q)) (t:s.holds prog b n F ds X h L) (hq:Jw q:=by repeat (first | exact trivial | refine ⟨rfl,?_⟩)):TO prog b n ops l k F e ds X h L:=nR tabs m is _ hr hq t
theorem tabsF:(tabF.all fun x=>fldOf prog x.1 x.2.1==some x.2.2)=true:=kr
theorem qB (is:List Nat) {l:List Oper} {h1:HF} {K:LH} {m:Nat} {dn:List Nat} {m':Nat} {dn':List Nat} {e':Env} {b:Frame} {n:Nat} {k:List Item} {F:List Frame→(Machine→Prop)→Prop} {e:Env} {ds:List Deferred} {X:Cx} {h:HF} {L:LH} (hr:runB tabF l is m dn e=some (m',dn',e')) (t:TA prog b n l.toArray k F ds X (Jst h1 K) m' dn' e' h L) (hsep:sepAll l.toArray=true:=by assumption) (hJ:Jst h1 K h L:=by exact jn) (hn:allNext l is dn=true:=by kernel_rfl):TA prog b n l.toArray k F ds X (Jst h1 K) m dn e h L:=xV tabsF hsep hJ is m dn e hr hn t
theorem qD (a c:Nat) {l:List Oper} {h1:HF} {K:LH} {m:Nat} {dn:List Nat} {m':Nat} {dn':List Nat} {e':Env} {b:Frame} {n:Nat} {k:List Item} {F:List Frame→(Machine→Prop)→Prop} {e:Env} {ds:List Deferred} {X:Cx} {h:HF} {L:LH} (hr:runB tabF l (List.range' a c) m dn e=some (m',dn',e')) (t:TA prog b n l.toArray k F ds X (Jst h1 K) m' dn' e' h L) (hsep:sepAll l.toArray=true:=by assumption) (hJ:Jst h1 K h L:=by exact jn) (hn:allNext l (List.range' a c) dn=true:=by kernel_rfl):TA prog b n l.toArray k F ds X (Jst h1 K) m dn e h L:=xV tabsF hsep hJ _ m dn e hr hn t
theorem mixed:prog.follows .mixedOrders=true:=kr
end Go.Sg
namespace Go.Sg
open Go.Proofs Go.Proofs.Tryz
set_option maxHeartbeats 2000000
theorem iF (h:HF) (dK:Int) (low:Int) (high:Int)  : Ret prog 148 [I dK,I low,I high] h (.bool (dv dK low high)):=by
 refine sT func148 U ntmps148 U fun X hM hX hF=>?_
 have hs0:dv dK low high=dv dK low high:=rfl
 refine qT 10 U (bz 4 [10,11,12,13,14] 10 14 (decide (dK≤high)) U (fun c1 hk1=>?_) (fun e=>?_))
 ·exact aj (qO 3 U (hk1 _ U))
 exact an (nretP [.bool (decide (low≤dK)&&decide (dK≤high))] (cs hs0))
theorem lR (h:HF) (dK:Int)  : Ret prog 89 [I dK] h (.bool (e6 dK)):=by
 refine sT func89 U ntmps89 U fun X hM hX hF=>?_
 have hs0:e6 dK=e6 dK:=rfl
 exact sr (qO 5 U (ah AV (iF h dK 0 31) U (an (nretP [.bool (dv dK 0 31)] (cs hs0)))))
theorem jk (h:HF) (dK:Int)  : Ret prog 90 [I dK] h (.bool (cN dK)):=by
 refine sT func90 U ntmps90 U fun X hM hX hF=>?_
 have hs0:cN dK=cN dK:=rfl
 exact sr (qO 5 U (ah AV (iF h dK 0 1099511627775) U (an (nretP [.bool (dv dK 0 1099511627775)] (cs hs0)))))
theorem nJ (h:HF) (dK:Int)  : Ret prog 168 [I dK] h (.bool (gf dK)):=by
 refine sT func168 U ntmps168 U fun X hM hX hF=>?_
 have hs0:gf dK=gf dK:=rfl
 exact sr (qO 5 U (ah AV (iF h dK 0 63) U (an (nretP [.bool (dv dK 0 63)] (cs hs0)))))
theorem wj (h:HF) (x:Appoint)  : Ret prog 99 [.agg (Appoint.cells x).toArray] h (.bool (jB x)):=by
 refine sT func99 U ntmps99 U fun X hM hX hF=>?_
 have hs0:jB x=jB x:=rfl
 refine sr (cy (fun b1=>qL 13 [0] U (ac hs0 U (fun c1 hs1=>?_) (fun c1 hs2=>?_))))
 ·refine qK 8 [0] U (ah AV (iF h x.No 0 1048576) U (aj (bz 4 [10,11,12,13,14] 10 14 (cN x.At) U (fun c2 hk1=>?_) (fun e=>?_))))
  ·exact qL 2 [0] U (ah CY (jk h x.At) U (ew U (hk1 _ U)))
  refine aj (bz 4 [15,16,17,18,19] 15 19 (cN x.Known) U (fun c3 hk2=>?_) (fun e=>?_))
  ·exact qL 2 [0] U (ah CY (jk h x.Known) U (ew U (hk2 _ U)))
  refine aj (bz 4 [20,21,22,23,24] 20 24 (e6 x.Office) U (fun c4 hk3=>?_) (fun e=>?_))
  ·exact qL 2 [0] U (ah call89 (lR h x.Office) U (ew U (hk3 _ U)))
  refine aj (bz 4 [25,26,27,28,29] 25 29 (gf x.Person) U (fun c5 hk4=>?_) (fun e=>?_))
  ·exact qL 2 [0] U (ah call168 (nJ h x.Person) U (ew U (hk4 _ U)))
  refine aj (bz 6 [30,31,32,33,34,35,36] 30 36 (dv x.Weight 0 0) U (fun c6 hk5=>?_) (fun e=>?_))
  ·exact qL 4 [0] U (ah AV (iF h x.Weight 0 0) U (ew U (hk5 _ U)))
  exact an (nretP [.bool ((((((dv x.No 0 1048576)&&(cN x.At))&&(cN x.Known))&&(e6 x.Office))&&(gf x.Person))&&(dv x.Weight 0 0))] (cs hs1))
 ·refine qK 5 [0] U (ah AV (iF h x.No 0 1048576) U (aj (bz 4 [10,11,12,13,14] 10 14 (cN x.At) U (fun c7 hk6=>?_) (fun e=>?_))))
  ·exact qL 2 [0] U (ah CY (jk h x.At) U (ew U (hk6 _ U)))
  refine aj (bz 4 [15,16,17,18,19] 15 19 (cN x.Known) U (fun c8 hk7=>?_) (fun e=>?_))
  ·exact qL 2 [0] U (ah CY (jk h x.Known) U (ew U (hk7 _ U)))
  refine aj (bz 4 [20,21,22,23,24] 20 24 (e6 x.Office) U (fun c9 hk8=>?_) (fun e=>?_))
  ·exact qL 2 [0] U (ah call89 (lR h x.Office) U (ew U (hk8 _ U)))
  refine aj (bz 4 [25,26,27,28,29] 25 29 (gf x.Person) U (fun c10 hk9=>?_) (fun e=>?_))
  ·exact qL 2 [0] U (ah call168 (nJ h x.Person) U (ew U (hk9 _ U)))
  refine aj (bz 6 [30,31,32,33,34,35,36] 30 36 (dv x.Weight 1 64) U (fun c11 hk10=>?_) (fun e=>?_))
  ·exact qL 4 [0] U (ah AV (iF h x.Weight 1 64) U (ew U (hk10 _ U)))
  exact an (nretP [.bool ((((((dv x.No 0 1048576)&&(cN x.At))&&(cN x.Known))&&(e6 x.Office))&&(gf x.Person))&&(dv x.Weight 1 64))] (cs hs2))
theorem pT (h:HF) (l:List Appoint) (eE:Option Addr) (eD:Nat) (hl:SlC Appoint.rp h eE eD l):Ret prog 51 [.slice eE l.length eD] h (I (co l)):=by
 refine sT func51 U ntmps51 U fun X hM hX hF=>?_
 have hs0:co l=co l:=rfl
 refine qK 11 [] U (ac hs0 U (fun c1 hs1=>?_) (fun c1 hs2=>?_))
 ·have c1p:=of_decide_eq_true c1
  exact sr (an (nretP [I 2] (ci hs1)))
 ·have c1p:=of_decide_eq_false c1
  refine qK 12 [] U ?_
  refine lp1 l (fun i w=>[(3,I w),(9,.slice eE l.length eD),(10,I (l.length:Int)),(11,I (i:Int))]) ([]) (fun s1 i w=>(co.L1 (co.K1)) s1 w) (-1) hl.1.1 hs2 ?_ ?_
  ·rintro i1 gH eR hs4 e
   exact sr (an (nretP [I 0] (ci hs4)))
  ·rintro i1 gH y1 rz1 hd1 cz ar dF fF hs6 hx1 ag1 e
   refine sr (ae (v':=.bool true) U (cb cz) (qO 8 U (az (ef (enc:=Appoint.cells) ei nG ty59 hl.1 (nthZ ar) (au ar) U U U (fun q2 A2=>dg ty59 A2 U U (bG zc59 (fun b2=>bC 0 ty59 U U U U U U (qO 4 U (cM 0 ty59 U U U (ah call99 (wj h y1) U (qO 2 U (cf 5 [18,19,20,21,22,23] 18 23 (decide (y1.No≤gH)) U (fun c2 hk1=>?_) (fun e=>?_)))))))))))))
   ·exact qL 5 [0] U (hk1 _ U)
   refine aN (ac hs6 U (fun c3 hs7=>?_) (fun c3 hs8=>?_))
   ·exact sr (an (nretP [I 150] (ci hs7)))
   ·exact qK 8 [0] U (ae (v':=I (((i1+1):Nat):Int)) U (aL ob) (qO 2 U (bY (L':=[]) js (ag1 y1.No hs8))))
theorem iZ (h:HF) (dK:Int) (low:Int) (high:Int)  : Ret prog 169 [I dK,I low,I high] h (.bool (eV dK low high)):=by
 refine sT func169 U ntmps169 U fun X hM hX hF=>?_
 have hs0:eV dK low high=eV dK low high:=rfl
 refine qT 10 U (bz 4 [10,11,12,13,14] 10 14 (decide (dK≤high)) U (fun c1 hk1=>?_) (fun e=>?_))
 ·exact aj (qO 3 U (hk1 _ U))
 exact an (nretP [.bool (decide (low≤dK)&&decide (dK≤high))] (cs hs0))
theorem oP (h:HF) (dK:Int)  : Ret prog 170 [I dK] h (.bool (iO dK)):=by
 refine sT func170 U ntmps170 U fun X hM hX hF=>?_
 have hs0:iO dK=iO dK:=rfl
 exact sr (qO 5 U (ah CX (iZ h dK 0 1099511627775) U (an (nretP [.bool (eV dK 0 1099511627775)] (cs hs0)))))
theorem nz (h:HF) (dK:Int)  : Ret prog 171 [I dK] h (.bool (gX dK)):=by
 refine sT func171 U ntmps171 U fun X hM hX hF=>?_
 have hs0:gX dK=gX dK:=rfl
 exact sr (qO 5 U (ah CX (iZ h dK 0 63) U (an (nretP [.bool (eV dK 0 63)] (cs hs0)))))
theorem vA (h:HF) (x:Deputy)  : Ret prog 100 [.agg (Deputy.cells x).toArray] h (.bool (kv x)):=by
 refine sT func100 U ntmps100 U fun X hM hX hF=>?_
 have hs0:kv x=kv x:=rfl
 refine sr (cy (fun b1=>qL 7 [0] U (ah CX (iZ h x.No 0 1048576) U (qO 2 U (cf 5 [7,8,9,10,11,12] 7 12 (!(iO x.At)) U (fun c1 hk1=>?_) (fun e=>?_))))))
 ·exact qL 2 [0] U (ah call170 (oP h x.At) U (qO 2 U (hk1 _ U)))
 refine aj (cf 5 [13,14,15,16,17,18] 13 18 (!(iO x.Known)) U (fun c2 hk2=>?_) (fun e=>?_))
 ·exact qL 2 [0] U (ah call170 (oP h x.Known) U (qO 2 U (hk2 _ U)))
 refine aj (cf 5 [19,20,21,22,23,24] 19 24 (!(gX x.From)) U (fun c3 hk3=>?_) (fun e=>?_))
 ·exact qL 2 [0] U (ah call171 (nz h x.From) U (qO 2 U (hk3 _ U)))
 refine aj (cf 5 [25,26,27,28,29,30] 25 30 (!(gX x.To)) U (fun c4 hk4=>?_) (fun e=>?_))
 ·exact qL 2 [0] U (ah call171 (nz h x.To) U (qO 2 U (hk4 _ U)))
 refine aj (cf 6 [31,32,33,34,35,36,37] 31 37 (x.From==x.To) U (fun c5 hk5=>?_) (fun e=>?_))
 ·exact qL 6 [0,0] U (hk5 _ U)
 refine aj (cf 5 [38,39,40,41,42,43] 38 43 (!(eV x.Office 0 31)) U (fun c6 hk6=>?_) (fun e=>?_))
 ·exact qL 2 [0] U (ah CX (iZ h x.Office 0 31) U (qO 2 U (hk6 _ U)))
 refine aj (cf 5 [44,45,46,47,48,49] 44 49 (!(eV x.Kind (-1) 15)) U (fun c7 hk7=>?_) (fun e=>?_))
 ·exact qL 2 [0] U (ah CX (iZ h x.Kind (-1) 15) U (qO 2 U (hk7 _ U)))
 refine aN (ac hs0 U (fun c8 hs1=>?_) (fun c8 hs2=>?_))
 ·exact sr (an (nretP [.bool false] (cs hs1)))
 ·refine qK 7 [0] U (ac hs2 U (fun c9 hs4=>?_) (fun c9 hs5=>?_))
  ·refine qK 6 [0] U (bz 4 [55,56,57,58,59] 55 59 (x.Most==0) U (fun c10 hk8=>?_) (fun e=>?_))
   ·exact qL 4 [0] U (hk8 _ U)
   exact an (nretP [.bool ((x.Until==0)&&(x.Most==0))] (cs hs4))
  ·refine qK 9 [0,0] U (bz 4 [65,66,67,68,69] 65 69 (decide (x.Until≤1099511627776)) U (fun c11 hk9=>?_) (fun e=>?_))
   ·exact qL 4 [0] U (hk9 _ U)
   refine aj (bz 4 [70,71,72,73,74] 70 74 (eV x.Most 0 1099511627776) U (fun c12 hk10=>?_) (fun e=>?_))
   ·exact qL 2 [0] U (ah CX (iZ h x.Most 0 1099511627776) U (ew U (hk10 _ U)))
   exact an (nretP [.bool ((decide (x.At < x.Until)&&decide (x.Until≤1099511627776))&&(eV x.Most 0 1099511627776))] (cs hs5))
theorem vC (h:HF) (l:List Deputy) (eE:Option Addr) (eD:Nat) (hl:SlC Deputy.rp h eE eD l):Ret prog 52 [.slice eE l.length eD] h (I (dj l)):=by
 refine sT func52 U ntmps52 U fun X hM hX hF=>?_
 have hs0:dj l=dj l:=rfl
 refine qK 11 [] U (ac hs0 U (fun c1 hs1=>?_) (fun c1 hs2=>?_))
 ·have c1p:=of_decide_eq_true c1
  exact sr (an (nretP [I 2] (ci hs1)))
 ·have c1p:=of_decide_eq_false c1
  refine qK 12 [] U ?_
  refine lp1 l (fun i w=>[(3,I w),(9,.slice eE l.length eD),(10,I (l.length:Int)),(11,I (i:Int))]) ([]) (fun s1 i w=>(dj.L1 (dj.K1)) s1 w) (-1) hl.1.1 hs2 ?_ ?_
  ·rintro i1 gH eR hs4 e
   exact sr (an (nretP [I 0] (ci hs4)))
  ·rintro i1 gH y1 rz1 hd1 cz ar dF fF hs6 hx1 ag1 e
   refine sr (ae (v':=.bool true) U (cb cz) (qO 8 U (az (ef (enc:=Deputy.cells) ei Fv ty169 hl.1 (nthZ ar) (au ar) U U U (fun q2 A2=>dg ty169 A2 U U (bG zc169 (fun b2=>bC 0 ty169 U U U U U U (qO 4 U (cM 0 ty169 U U U (ah call100 (vA h y1) U (qO 2 U (cf 5 [18,19,20,21,22,23] 18 23 (decide (y1.No≤gH)) U (fun c2 hk1=>?_) (fun e=>?_)))))))))))))
   ·exact qL 5 [0] U (hk1 _ U)
   refine aN (ac hs6 U (fun c3 hs7=>?_) (fun c3 hs8=>?_))
   ·exact sr (an (nretP [I 160] (ci hs7)))
   ·exact qK 8 [0] U (ae (v':=I (((i1+1):Nat):Int)) U (aL ob) (qO 2 U (bY (L':=[]) js (ag1 y1.No hs8))))
theorem fV (h:HF) (dK:Int) (limit:Int)  : Ret prog 145 [I dK,I limit] h (.bool (aO dK limit)):=by
 refine sT func145 U ntmps145 U fun X hM hX hF=>?_
 have hs0:aO dK limit=aO dK limit:=rfl
 refine qT 9 U (bz 4 [7,8,9,10,11] 7 11 (decide (dK < limit)) U (fun c1 hk1=>?_) (fun e=>?_))
 ·exact aj (qO 3 U (hk1 _ U))
 exact an (nretP [.bool (decide (0≤dK)&&decide (dK < limit))] (cs hs0))
theorem uy (h:HF) (x:Interest)  : Ret prog 101 [.agg (Interest.cells x).toArray] h (.bool (jp x)):=by
 refine sT func101 U ntmps101 U fun X hM hX hF=>?_
 have hs0:jp x=jp x:=rfl
 refine sr (cy (fun b1=>qL 6 [0] U (ah wP (fV h x.No 1048577) U (aj (bz 4 [7,8,9,10,11] 7 11 (aO x.At 1099511627776) U (fun c1 hk1=>?_) (fun e=>?_))))))
 ·exact qL 2 [0] U (ah wP (fV h x.At 1099511627776) U (ew U (hk1 _ U)))
 refine aj (bz 4 [12,13,14,15,16] 12 16 (aO x.Known 1099511627776) U (fun c2 hk2=>?_) (fun e=>?_))
 ·exact qL 2 [0] U (ah wP (fV h x.Known 1099511627776) U (ew U (hk2 _ U)))
 refine aj (bz 4 [17,18,19,20,21] 17 21 (aO x.Party 1048577) U (fun c3 hk3=>?_) (fun e=>?_))
 ·exact qL 2 [0] U (ah wP (fV h x.Party 1048577) U (ew U (hk3 _ U)))
 refine qL 8 [0] U (ac hs0 U (fun c4 hs1=>?_) (fun c4 hs2=>?_))
 ·refine qT 4 U (bz 4 [25,26,27,28,29] 25 29 (aO x.Person 1048577) U (fun c5 hk4=>?_) (fun e=>?_))
  ·exact qL 2 [0] U (ah wP (fV h x.Person 1048577) U (ew U (hk4 _ U)))
  refine aj (bz 6 [30,31,32,33,34,35,36] 30 36 (x.Person != x.Party) U (fun c6 hk5=>?_) (fun e=>?_))
  ·exact qL 6 [0,0] U (hk5 _ U)
  exact an (nretP [.bool ((((((aO x.No 1048577)&&(aO x.At 1099511627776))&&(aO x.Known 1099511627776))&&(aO x.Party 1048577))&&(aO x.Person 1048577))&&(x.Person != x.Party))] (cs hs1))
 ·refine qT 5 U (bz 4 [38,39,40,41,42] 38 42 (aO x.Person 64) U (fun c7 hk6=>?_) (fun e=>?_))
  ·exact qL 2 [0] U (ah wP (fV h x.Person 64) U (ew U (hk6 _ U)))
  exact an (nretP [.bool (((((aO x.No 1048577)&&(aO x.At 1099511627776))&&(aO x.Known 1099511627776))&&(aO x.Party 1048577))&&(aO x.Person 64))] (cs hs2))
theorem oD (h:HF) (l:List Interest) (eE:Option Addr) (eD:Nat) (hl:SlC Interest.rp h eE eD l):Ret prog 53 [.slice eE l.length eD] h (I (bK l)):=by
 refine sT func53 U ntmps53 U fun X hM hX hF=>?_
 have hs0:bK l=bK l:=rfl
 refine qK 11 [] U (ac hs0 U (fun c1 hs1=>?_) (fun c1 hs2=>?_))
 ·have c1p:=of_decide_eq_true c1
  exact sr (an (nretP [I 2] (ci hs1)))
 ·have c1p:=of_decide_eq_false c1
  refine qK 12 [] U ?_
  refine lp1 l (fun i w=>[(3,I w),(9,.slice eE l.length eD),(10,I (l.length:Int)),(11,I (i:Int))]) ([]) (fun s1 i w=>(bK.L1 (bK.K1)) s1 w) (-1) hl.1.1 hs2 ?_ ?_
  ·rintro i1 gH eR hs4 e
   exact sr (an (nretP [I 0] (ci hs4)))
  ·rintro i1 gH y1 rz1 hd1 cz ar dF fF hs6 hx1 ag1 e
   refine sr (ae (v':=.bool true) U (cb cz) (qO 8 U (az (ef (enc:=Interest.cells) ei lT ty61 hl.1 (nthZ ar) (au ar) U U U (fun q2 A2=>dg ty61 A2 U U (bG zc61 (fun b2=>bC 0 ty61 U U U U U U (qO 4 U (cM 0 ty61 U U U (ah call101 (uy h y1) U (qO 2 U (cf 5 [18,19,20,21,22,23] 18 23 (decide (y1.No≤gH)) U (fun c2 hk1=>?_) (fun e=>?_)))))))))))))
   ·exact qL 5 [0] U (hk1 _ U)
   refine aN (ac hs6 U (fun c3 hs7=>?_) (fun c3 hs8=>?_))
   ·exact sr (an (nretP [I 290] (ci hs7)))
   ·exact qK 8 [0] U (ae (v':=I (((i1+1):Nat):Int)) U (aL ob) (qO 2 U (bY (L':=[]) js (ag1 y1.No hs8))))
theorem mu (h:HF) (s:List Int) (tG:Option Addr) (sL:Nat) (f:(Int→Bool)) (f_v:Value) (hs:SlC Rp.int h tG sL s) (hf:∀ (h':HF) (dX:Int),HF.le h h'→wH prog f_v [I dX] h' [] (.bool (f dX))):Ret prog 110 [.slice tG s.length sL,f_v] h (I (bT s f)):=by
 refine sT func110 U ntmps110 U fun X hM hX hF=>?_
 have hs0:bT s f=bT s f:=rfl
 refine qK 11 [] U ?_
 refine lp0 s (fun i=>[(0,.slice tG s.length sL),(1,f_v),(7,I (s.length:Int)),(8,I (i:Int))]) ([]) (fun s1 i=>(bT.L1 f (bT.K1)) s1 i) hs.1.1 hs0 ?_ ?_
 ·rintro i1 eR hs1 e
  exact sr (an (nretP [I (-1)] (ci hs1)))
 ·rintro i1 y1 rz1 hd1 cz ar dF fF hs3 hx1 ag1 e
  refine sr (ae (v':=.bool true) U (cb cz) (qO 16 U (az (ef (enc:=fun y=>[I y]) ei cR ty3 hs.1 (nthZ ar) (au ar) U U U (fun q2 A2=>cL ty3 A2 U (az (nQ (v:=.bool (f y1)) [] (List.nil_sublist _) (hf h y1 lf) U U (aN (ac hs3 U (fun c2 hs4=>?_) (fun c2 hs5=>?_))))))))))
  ·exact sr (qO 3 U (nretP [I (i1:Int)] (ci hs4)))
  ·exact aG (qT 2 U (ae (v':=I (((i1+1):Nat):Int)) U (aL ob) (qO 2 U (ag1 hs5))))
theorem iy (h:HF) (s:List Int) (tG:Option Addr) (sL:Nat) (f:(Int→Bool)) (f_v:Value) (hs:SlC Rp.int h tG sL s) (hf:∀ (h':HF) (dX:Int),HF.le h h'→wH prog f_v [I dX] h' [] (.bool (f dX))):Ret prog 176 [.slice tG s.length sL,f_v] h (.bool (cU s f)):=by
 refine sT func176 U ntmps176 U fun X hM hX hF=>?_
 have hs0:cU s f=cU s f:=rfl
 exact sr (qO 6 U (ah call110 (mu _ _ _ _ f f_v hs hf) U (qO 3 U (nretP [.bool (decide (0≤(bT s f)))] (cs hs0)))))
theorem sG (h:HF) (dK:Int) (v0:Int) (v0_q:Addr) (v1:Int) (v1_q:Addr) (av0:At h v0_q [I v0]) (av1:At h v1_q [I v1]):Ret prog 225 [I dK,.pointer (some v0_q),.pointer (some v1_q)] h (.bool (iI dK v0 v1)):=by
 refine sT func225 U ntmps225 U fun X hM hX hF=>?_
 have hs0:iI dK v0 v1=iI dK v0 v1:=rfl
 refine qT 7 U (cL ty3 av0 U (qO 2 U (cf 4 [8,9,10,11,12] 8 12 (decide (v1 < dK)) U (fun c1 hk1=>?_) (fun e=>?_))))
 ·exact aj (cL ty3 av1 U (qO 2 U (hk1 _ U)))
 exact an (nretP [.bool (decide (dK < v0)||decide (v1 < dK))] (cs hs0))
theorem fa (h:HF) (least:Int) (most:Int) (l:List Int) (eE:Option Addr) (eD:Nat) (hl:SlC Rp.int h eE eD l):Ret prog 172 [I least,I most,.slice eE l.length eD] h (.bool (bL least most l)):=by
 refine sT func172 U ntmps172 U fun X hM hX hF=>?_
 have hs0:bL least most l=bL least most l:=rfl
 exact sr (cy (fun b1=>cy (fun b2=>qO 5 U (bO 1 U hM (fun h1 hle1 hb1=>bO 0 U hM (fun h2 hle2 hb2=>az (fX U U (ah Hj (iy _ _ _ _ (fun dX=>iI dX least most) (.func (.func 225) #[] #[Q b1,Q b2]) (hl.mono Rp.aW (hle1.t hle2)) (fun h' dX hle =>i0 call225 (sG h' dX least ⟨b1,0,none⟩ most ⟨b2,0,none⟩  (((dq hb1).mono hle2).mono hle) ((dq hb2).mono hle)))) U (qO 3 U (nretP [.bool (!(cU l (fun dX=>iI dX least most)))] (cs hs0)))))))))))
theorem wE (h:HF) (x:Budget)  : Ret prog 102 [.agg (Budget.cells x).toArray] h (.bool (kR x)):=by
 refine sT func102 U ntmps102 U fun X hM hX hF=>?_
 have hs0:kR x=kR x:=rfl
 refine sr (cy (fun b1=>qL 13 [0] U (ac hs0 U (fun c1 hs1=>?_) (fun c1 hs2=>?_))))
 ·refine qK 8 [0] U (az (bd (cells:=[I x.No]) cR ty3 zc3 U U kr (fun b2=>bO 0 U hM (fun h1 hle1 hb1=>?_))))
  have sl1:SlC Rp.int h1 (some ⟨b2,0,none⟩) 1 ([x.No]):=aT.slB0 (T:=3) (fz:=(0,0)) ((show aT Rp.int h [I x.No] ([x.No]) from ⟨[I x.No],[],rfl,rfl,rfl,rfl⟩).mono Rp.aW hle1) hb1
  refine ah rH (fa _ 0 1048576 _ _ _ sl1) U (aj (bz 7 [11,12,13,14,15,16,17,18] 11 18 (bL 0 1099511627775 ([x.At,x.Known])) U (fun c2 hk1=>?_) (fun e=>?_)))
  ·refine qL 4 [0,0] U (az (bd (cells:=[I x.At,I x.Known]) cR ty3 zc3 U U kr (fun b3=>bO 0 U hM (fun h2 hle2 hb2=>?_))))
   have sl2:SlC Rp.int h2 (some ⟨b3,0,none⟩) 2 ([x.At,x.Known]):=aT.slB0 (T:=3) (fz:=(0,0)) ((show aT Rp.int h1 [I x.At,I x.Known] ([x.At,x.Known]) from ⟨[I x.At],[I x.Known],rfl,rfl,rfl,⟨[I x.Known],[],rfl,rfl,rfl,rfl⟩⟩).mono Rp.aW hle2) hb2
   exact ah rH (fa _ 0 1099511627775 _ _ _ sl2) U (ew U (kU (h:=h1) hle2 hX hle1 (hk1 _ U)))
  refine aj (bz 5 [19,20,21,22,23,24] 19 24 (bL (-1) 15 ([x.Kind])) U (fun c3 hk2=>?_) (fun e=>?_))
  ·refine qL 2 [0] U (az (bd (cells:=[I x.Kind]) cR ty3 zc3 U U kr (fun b4=>bO 0 U hM (fun h3 hle3 hb3=>?_))))
   have sl3:SlC Rp.int h3 (some ⟨b4,0,none⟩) 1 ([x.Kind]):=aT.slB0 (T:=3) (fz:=(0,0)) ((show aT Rp.int h1 [I x.Kind] ([x.Kind]) from ⟨[I x.Kind],[],rfl,rfl,rfl,rfl⟩).mono Rp.aW hle3) hb3
   exact ah rH (fa _ (-1) 15 _ _ _ sl3) U (ew U (kU (h:=h1) hle3 hX hle1 (hk2 _ U)))
  refine aj (bz 5 [25,26,27,28,29,30] 25 30 (bL 1 1099511627776 ([x.Period])) U (fun c4 hk3=>?_) (fun e=>?_))
  ·refine qL 2 [0] U (az (bd (cells:=[I x.Period]) cR ty3 zc3 U U kr (fun b5=>bO 0 U hM (fun h4 hle4 hb4=>?_))))
   have sl4:SlC Rp.int h4 (some ⟨b5,0,none⟩) 1 ([x.Period]):=aT.slB0 (T:=3) (fz:=(0,0)) ((show aT Rp.int h1 [I x.Period] ([x.Period]) from ⟨[I x.Period],[],rfl,rfl,rfl,rfl⟩).mono Rp.aW hle4) hb4
   exact ah rH (fa _ 1 1099511627776 _ _ _ sl4) U (ew U (kU (h:=h1) hle4 hX hle1 (hk3 _ U)))
  refine aj (bz 6 [31,32,33,34,35,36,37] 31 37 (bL 0 0 ([x.Count])) U (fun c5 hk4=>?_) (fun e=>?_))
  ·refine qL 3 [0] U (az (bd (cells:=[I x.Count]) cR ty3 zc3 U U kr (fun b6=>bO 0 U hM (fun h5 hle5 hb5=>?_))))
   have sl5:SlC Rp.int h5 (some ⟨b6,0,none⟩) 1 ([x.Count]):=aT.slB0 (T:=3) (fz:=(0,0)) ((show aT Rp.int h1 [I x.Count] ([x.Count]) from ⟨[I x.Count],[],rfl,rfl,rfl,rfl⟩).mono Rp.aW hle5) hb5
   exact ah rH (fa _ 0 0 _ _ _ sl5) U (ew U (kU (h:=h1) hle5 hX hle1 (hk4 _ U)))
  refine aj (bz 6 [38,39,40,41,42,43,44] 38 44 (bL 0 0 ([x.Value])) U (fun c6 hk5=>?_) (fun e=>?_))
  ·refine qL 3 [0] U (az (bd (cells:=[I x.Value]) cR ty3 zc3 U U kr (fun b7=>bO 0 U hM (fun h6 hle6 hb6=>?_))))
   have sl6:SlC Rp.int h6 (some ⟨b7,0,none⟩) 1 ([x.Value]):=aT.slB0 (T:=3) (fz:=(0,0)) ((show aT Rp.int h1 [I x.Value] ([x.Value]) from ⟨[I x.Value],[],rfl,rfl,rfl,rfl⟩).mono Rp.aW hle6) hb6
   exact ah rH (fa _ 0 0 _ _ _ sl6) U (ew U (kU (h:=h1) hle6 hX hle1 (hk5 _ U)))
  exact an (nretP [.bool ((((((bL 0 1048576 ([x.No]))&&(bL 0 1099511627775 ([x.At,x.Known])))&&(bL (-1) 15 ([x.Kind])))&&(bL 1 1099511627776 ([x.Period])))&&(bL 0 0 ([x.Count])))&&(bL 0 0 ([x.Value])))] (cs hs1))
 ·refine qK 5 [0] U (az (bd (cells:=[I x.No]) cR ty3 zc3 U U kr (fun b8=>bO 0 U hM (fun h7 hle7 hb7=>?_))))
  have sl7:SlC Rp.int h7 (some ⟨b8,0,none⟩) 1 ([x.No]):=aT.slB0 (T:=3) (fz:=(0,0)) ((show aT Rp.int h [I x.No] ([x.No]) from ⟨[I x.No],[],rfl,rfl,rfl,rfl⟩).mono Rp.aW hle7) hb7
  refine ah rH (fa _ 0 1048576 _ _ _ sl7) U (aj (bz 7 [11,12,13,14,15,16,17,18] 11 18 (bL 0 1099511627775 ([x.At,x.Known])) U (fun c7 hk6=>?_) (fun e=>?_)))
  ·refine qL 4 [0,0] U (az (bd (cells:=[I x.At,I x.Known]) cR ty3 zc3 U U kr (fun b9=>bO 0 U hM (fun h8 hle8 hb8=>?_))))
   have sl8:SlC Rp.int h8 (some ⟨b9,0,none⟩) 2 ([x.At,x.Known]):=aT.slB0 (T:=3) (fz:=(0,0)) ((show aT Rp.int h7 [I x.At,I x.Known] ([x.At,x.Known]) from ⟨[I x.At],[I x.Known],rfl,rfl,rfl,⟨[I x.Known],[],rfl,rfl,rfl,rfl⟩⟩).mono Rp.aW hle8) hb8
   exact ah rH (fa _ 0 1099511627775 _ _ _ sl8) U (ew U (kU (h:=h7) hle8 hX hle7 (hk6 _ U)))
  refine aj (bz 5 [19,20,21,22,23,24] 19 24 (bL (-1) 15 ([x.Kind])) U (fun c8 hk7=>?_) (fun e=>?_))
  ·refine qL 2 [0] U (az (bd (cells:=[I x.Kind]) cR ty3 zc3 U U kr (fun b10=>bO 0 U hM (fun h9 hle9 hb9=>?_))))
   have sl9:SlC Rp.int h9 (some ⟨b10,0,none⟩) 1 ([x.Kind]):=aT.slB0 (T:=3) (fz:=(0,0)) ((show aT Rp.int h7 [I x.Kind] ([x.Kind]) from ⟨[I x.Kind],[],rfl,rfl,rfl,rfl⟩).mono Rp.aW hle9) hb9
   exact ah rH (fa _ (-1) 15 _ _ _ sl9) U (ew U (kU (h:=h7) hle9 hX hle7 (hk7 _ U)))
  refine aj (bz 5 [25,26,27,28,29,30] 25 30 (bL 1 1099511627776 ([x.Period])) U (fun c9 hk8=>?_) (fun e=>?_))
  ·refine qL 2 [0] U (az (bd (cells:=[I x.Period]) cR ty3 zc3 U U kr (fun b11=>bO 0 U hM (fun h10 hle10 hb10=>?_))))
   have sl10:SlC Rp.int h10 (some ⟨b11,0,none⟩) 1 ([x.Period]):=aT.slB0 (T:=3) (fz:=(0,0)) ((show aT Rp.int h7 [I x.Period] ([x.Period]) from ⟨[I x.Period],[],rfl,rfl,rfl,rfl⟩).mono Rp.aW hle10) hb10
   exact ah rH (fa _ 1 1099511627776 _ _ _ sl10) U (ew U (kU (h:=h7) hle10 hX hle7 (hk8 _ U)))
  refine aj (bz 6 [31,32,33,34,35,36,37] 31 37 (bL 0 1048576 ([x.Count])) U (fun c10 hk9=>?_) (fun e=>?_))
  ·refine qL 3 [0] U (az (bd (cells:=[I x.Count]) cR ty3 zc3 U U kr (fun b12=>bO 0 U hM (fun h11 hle11 hb11=>?_))))
   have sl11:SlC Rp.int h11 (some ⟨b12,0,none⟩) 1 ([x.Count]):=aT.slB0 (T:=3) (fz:=(0,0)) ((show aT Rp.int h7 [I x.Count] ([x.Count]) from ⟨[I x.Count],[],rfl,rfl,rfl,rfl⟩).mono Rp.aW hle11) hb11
   exact ah rH (fa _ 0 1048576 _ _ _ sl11) U (ew U (kU (h:=h7) hle11 hX hle7 (hk9 _ U)))
  refine aj (bz 6 [38,39,40,41,42,43,44] 38 44 (bL 0 1099511627776 ([x.Value])) U (fun c11 hk10=>?_) (fun e=>?_))
  ·refine qL 3 [0] U (az (bd (cells:=[I x.Value]) cR ty3 zc3 U U kr (fun b13=>bO 0 U hM (fun h12 hle12 hb12=>?_))))
   have sl12:SlC Rp.int h12 (some ⟨b13,0,none⟩) 1 ([x.Value]):=aT.slB0 (T:=3) (fz:=(0,0)) ((show aT Rp.int h7 [I x.Value] ([x.Value]) from ⟨[I x.Value],[],rfl,rfl,rfl,rfl⟩).mono Rp.aW hle12) hb12
   exact ah rH (fa _ 0 1099511627776 _ _ _ sl12) U (ew U (kU (h:=h7) hle12 hX hle7 (hk10 _ U)))
  exact an (nretP [.bool ((((((bL 0 1048576 ([x.No]))&&(bL 0 1099511627775 ([x.At,x.Known])))&&(bL (-1) 15 ([x.Kind])))&&(bL 1 1099511627776 ([x.Period])))&&(bL 0 1048576 ([x.Count])))&&(bL 0 1099511627776 ([x.Value])))] (cs hs2))
theorem wF (h:HF) (l:List Budget) (eE:Option Addr) (eD:Nat) (hl:SlC Budget.rp h eE eD l):Ret prog 54 [.slice eE l.length eD] h (I (dl l)):=by
 refine sT func54 U ntmps54 U fun X hM hX hF=>?_
 have hs0:dl l=dl l:=rfl
 refine qK 11 [] U (ac hs0 U (fun c1 hs1=>?_) (fun c1 hs2=>?_))
 ·have c1p:=of_decide_eq_true c1
  exact sr (an (nretP [I 2] (ci hs1)))
 ·have c1p:=of_decide_eq_false c1
  refine qK 12 [] U ?_
  refine lp1 l (fun i w=>[(3,I w),(9,.slice eE l.length eD),(10,I (l.length:Int)),(11,I (i:Int))]) ([]) (fun s1 i w=>(dl.L1 (dl.K1)) s1 w) (-1) hl.1.1 hs2 ?_ ?_
  ·rintro i1 gH eR hs4 e
   exact sr (an (nretP [I 0] (ci hs4)))
  ·rintro i1 gH y1 rz1 hd1 cz ar dF fF hs6 hx1 ag1 e
   refine sr (ae (v':=.bool true) U (cb cz) (qO 8 U (az (ef (enc:=Budget.cells) ei Fu ty173 hl.1 (nthZ ar) (au ar) U U U (fun q2 A2=>dg ty173 A2 U U (bG zc173 (fun b2=>bC 0 ty173 U U U U U U (qO 4 U (cM 0 ty173 U U U (ah call102 (wE h y1) U (qO 2 U (cf 5 [18,19,20,21,22,23] 18 23 (decide (y1.No≤gH)) U (fun c2 hk1=>?_) (fun e=>?_)))))))))))))
   ·exact qL 5 [0] U (hk1 _ U)
   refine aN (ac hs6 U (fun c3 hs7=>?_) (fun c3 hs8=>?_))
   ·exact sr (an (nretP [I 180] (ci hs7)))
   ·exact qK 8 [0] U (ae (v':=I (((i1+1):Nat):Int)) U (aL ob) (qO 2 U (bY (L':=[]) js (ag1 y1.No hs8))))
theorem rW (rec:Expr→Int→List fB) (h:HF) (x:Expr) (eQ:ce) (x_q:Addr) (depth:Int) (depth_q:Addr) (hrec:∀ (h:HF) (qx:Expr) (iT:ce) (qdepth:Int) (_:Expr.ok h qx iT) (_:0≤qdepth∧qdepth+qx.dep≤2000000) (_:qx.dep < x.dep),iW prog 219 [.agg (Expr.cells qx iT).toArray,I qdepth] h (fun v h'=>∃ rv0:Value,v=rv0∧Itr prog rv0 pU (rec qx qdepth) h')) (hx:Expr.ok h x eQ) (ax:At h x_q (Expr.cells x eQ)) (adepth:At h depth_q [I depth]) (hb:0≤depth∧depth+x.dep≤2000000):Itr prog (.func (.func 247) #[] (List.toArray [.pointer (some x_q),.pointer (some depth_q)])) pU (aE.F rec x depth) h:=by
 refine wn call247 ?_
 intro yf ya yb C Sp Pn h1 A hle m1 m2 m3 hC hy
 refine jS AU U ntmps247 U fun X hXM hX=>?_
 have hs0:aE.F rec x depth=[]++aE.F rec x depth:=rfl
 refine sr (cy (fun b1=>qL 5 [0] U (dg ty66 (ax.mono hle) U U (cL ty3 (adepth.mono hle) U (az (em (cells:=[I x.Kind,I x.N,I x.No,.string x.Name,.slice eQ.iM x.L.length eQ.iP,I depth]) (places:=[(0,5),(5,1)]) underlying258 zc258 kr kr ?_))))))
 have hx1:aE.F rec x depth=[]++((fB.mk (Expr.mk x.Kind x.N x.No x.Name x.L) depth)::((aE.L1 rec depth (aE.K1)) x.L)):=hs0
 let z1:Nat×Obj:=(b1,O [.func yf ya yb] 285)
 refine az (me ([z1]) A ap (hy [] (fB.mk (Expr.mk x.Kind x.N x.No x.Name x.L) depth) _ _ _ _ hx1 lf hC ⟨(wI.mk (ce.mk eQ.iM eQ.iP)),U,(show fB.ok h1 (fB.mk (Expr.mk x.Kind x.N x.No x.Name x.L) depth) (wI.mk (ce.mk eQ.iM eQ.iP)) from ⟨(show Expr.ok h1 (Expr.mk x.Kind x.N x.No x.Name x.L) (ce.mk eQ.iM eQ.iP) from Expr.ok.of (hx.list.mono Expr.ak hle))⟩)⟩) U U (fun h2 A1 hle1 hC1=>?_) (fun h3 A2 hle2 hS1=>?_) (fun ch1 h4 A3 hle3 hP1 e=>ja (qN [] (A:=A3) AU (List.sublist_append_right _ _) hP1)))
 ·have hs1:aE.F rec x depth=[(fB.mk (Expr.mk x.Kind x.N x.No x.Name x.L) depth)]++(((aE.L1 rec depth (aE.K1)) x.L)):=hx1.trans ap
  refine qL 7 [] U (jm (j:=4) ty64 (ax.mono (hle.t hle1)) U U (qL 3 [] U (gl (cS (L':=[z1]++(A1++(markB []))) ap ?_))))
  refine qk (ι:=Nat×List fB×LH×List Nat×HF) (fun i=>[]) (fun i=>marks i.2.2.2.1) (fun i=>i.2.2.2.2) (fun i=>[z1]++(i.2.2.1++(markB i.2.2.2.1))) (fun i=>i.1≤x.L.length∧aE.F rec x depth=i.2.1++((aE.K1))∧C i.2.1 i.2.2.2.2 i.2.2.1∧HF.le h2 i.2.2.2.2) ?_ (fun hx1=>?_)
  ·rintro ⟨i1,dn1,A1_,rs1,hh1⟩ ⟨eR,hs2,hC1_,hl1⟩ e
   refine cS (L':=([z1]++(A1_))++markB rs1) ap ?_
   have hs3:aE.F rec x depth=dn1:=hs2.trans (List.append_nil _)
   exact wo rs1 (A:=A1_) AU U js (.inl (hs3 ▸ hC1_))
  ·refine uU (ι:=Nat×List fB×LH×List Nat×HF×List Expr) (fun i=>[(2,.pointer (some depth_q)),(3,Q b1),(14,.slice eQ.iM x.L.length eQ.iP),(15,I (x.L.length:Int)),(16,I (i.1:Int))]) (fun i=>marks i.2.2.2.1) (fun i=>i.2.2.2.2.1) (fun i=>[z1]++(i.2.2.1++(markB i.2.2.2.1))) (fun i=>x.L.drop i.1=i.2.2.2.2.2∧i.1≤x.L.length∧aE.F rec x depth=i.2.1++((aE.L1 rec depth (aE.K1)) i.2.2.2.2.2)∧C i.2.1 i.2.2.2.2.1 i.2.2.1∧HF.le h2 i.2.2.2.2.1) (fun i=>i.2.2.2.2.2.length) (0,[(fB.mk (Expr.mk x.Kind x.N x.No x.Name x.L) depth)],A1,[],h2,x.L) U rd sw ⟨U,Nat.zero_le _,hs1,hC1,lf⟩ ?_
   rintro ⟨i1,dn1,A1_,rs1,hh1,s1⟩ ⟨hd1,eR,hs4,hC1_,hl1⟩ ag1 e
   rcases s1 with _ | ⟨y1,rz1⟩
   ·have eM:=pH hd1
    exact sr (ae (v':=.bool false) U (cb eM) (qO 4 U (hx1 (i1,dn1,A1_,rs1,hh1) _ ⟨eR,hs4,hC1_,hl1⟩ trivial)))
   ·have cz:=tU hd1
    have ar:=uI hd1
    have dF:=j2 hd1
    have fF:=(hx.list.mono Expr.ak (hle.t hle1)).1.1
    have hdy:=Expr.gk (fA hd1)
    refine sr (ae (v':=.bool true) U (cb cz) (qO 8 U (az (dU jh ty66 (hx.list.mono Expr.ak ((hle.t hle1).t hl1)).1 (nthZ ar) (au ar) U U U (fun _ _ _ e=>e) (fun q2 r2 A8 ok2=>dg ty66 A8 U U (bG zc66 (fun b4=>bC 0 ty66 U U U U U U (iw (L':=[(b4,O (Expr.cells y1 r2) 66),z1]++(A1_++(markB rs1))) U (qO 3 U (cM 0 ty66 U U U (cL ty3 (adepth.mono ((hle.t hle1).t hl1)) U (ae (v':=I (depth+1)) U (gz ob) (az (cg Fp (hrec _ _ _ (depth+1) ok2 ob (Expr.gk (fA hd1))) U (fun v2 h9 hle8 hp2=>?_)))))))))))))))
    obtain ⟨_,rfl,mo2⟩:=hp2
    refine qO 2 U ?_
    let z2:Nat×Obj:=(b4,O (Expr.cells y1 r2) 66)
    refine cS (L':=([z2,z1]++(A1_))++markB rs1) ap ?_
    refine kb (it:=v2) (xs:=(rec y1 (depth+1))) (ι:=List fB×LH×HF) rs1 (fun i=>i.2.2) (fun i=>[z2,z1]++(i.2.1)) (fun s i=>aE.F rec x depth=i.1++((aE.L3 ((aE.L1 rec depth (aE.K1) rz1))) s)∧C i.1 i.2.2 i.2.1∧HF.le h9 i.2.2) (fun i=>Sp i.2.2 i.2.1∧HF.le h9 i.2.2) (fun _=>False) 0 (fun ch h L=>∃ B,B.Sublist L∧Pn ch h B) (dn1,A1_,h9) AU U mo2 U lY (fun _ _ _ _ hl ⟨B,hs,hp⟩=>⟨B,hs,m3 _ _ _ _ hl hp⟩) U (show [z2,z1]++(A1_)=_ from U) ⟨hs4,(m1 _ _ _ _ hle8 hC1_),lf⟩ ?_ ?_ ?_ ?_ ?_
    ·rintro l3 dm3 lp3 y3 rz3 vs3 ⟨dn3,A3_,hh3⟩ hr3 X hFR3 ⟨hs6,hC3_,hl3⟩ hl03 hlr3 hv3 hX hXM hlp3 nx3 rt3 ex3 pn3
     obtain ⟨rr3_0,rfl,ok3_0⟩:=hv3
     let z3:Nat×Obj:=(dm3,.deferred (some []))
     refine cS (L':=[(l3,.loop lp3),z3,z2,z1]++(A3_++(markB rs1))) ap (bh (bG zc258 (fun b6=>bC 0 ty258 U U U U U U (iw (L':=[(b6,O (fB.cells y3 rr3_0) 258),(l3,.loop lp3),z3,z2,z1]++(A3_++(markB rs1))) U (aN (kc 1 U hlp3 (qK 4 [4] U (cM 0 ty258 U U U ?_))))))))
     have hx4:aE.F rec x depth=dn3++(y3::((aE.L3 ((aE.L1 rec depth (aE.K1) rz1))) rz3)):=hs6
     let z4:Nat×Obj:=(l3,.loop { lp3 with state:=.busy })
     refine az (Hy ([(b6,O (fB.cells y3 rr3_0) 258),z4,z3,z2,z1]) A3_ (markB rs1) ap (hy dn3 y3 _ _ _ _ hx4 ((((hle1.t hl1).t hle8).t hl3).t hlr3) (m1 _ _ _ _ hlr3 hC3_) ⟨rr3_0,U,ok3_0⟩) U U (fun h13 A12 hle12 hC4=>?_) (fun h14 A13 hle13 hS4=>?_) (fun ch4 h15 A14 hle14 hP4 e=>ue (L':=[z4,z3]++(A14++(markB rs1))) js (pn3 _ _ _ A14 ⟨A14,List.Sublist.refl _,hP4⟩)))
     ·have hs7:aE.F rec x depth=(dn3++[y3])++(((aE.L3 ((aE.L1 rec depth (aE.K1) rz1))) rz3)):=hx4.trans ap
      exact lX U (qO 4 U (bY (L':=[z4,z3,z2,z1]++(A12++(markB rs1))) js (cS (L':=rdH l3 dm3 lp3 (([z2,z1]++(A12))++markB rs1)) ap (nx3 ((dn3++[y3]),A12,h13) _ _ ⟨hs7,hC4,((hl3.t hlr3).t hle12)⟩ lf))))
     ·exact lX U (qO 2 U (bY (L':=[z4,z3,z2,z1]++(A13++(markB rs1))) js (cS (L':=rdH l3 dm3 lp3 (([z2,z1]++(A13))++markB rs1)) ap (rt3 (dn3,A13,h14) _ _ _ ⟨hS4,((hl3.t hlr3).t hle13)⟩ lf))))
    ·rintro dm3 ⟨dn3,A3_,hh3⟩ hn3 ⟨hs8,hC3_,hl3⟩ hln3 hl03
     exact cS (L':=[z2,z1]++(A3_++(markB (dm3::rs1)))) ap (qT 3 U (ae (v':=I (((i1+1):Nat):Int)) U (aL ob) (qO 2 U (bY (L':=[z1]++(A3_++(markB (dm3::rs1)))) js (ag1 ((i1+1),dn3,A3_,(dm3::rs1),hn3,rz1) _ (Nat.lt_succ_self _) ⟨mX hd1,j2 hd1,hs8,(m1 _ _ _ _ hln3 hC3_),(((hl1.t hle8).t hl3).t hln3)⟩ rd)))))
    ·rintro dm3 ⟨dn3,A3_,hh3⟩ hn3 ⟨hS5,hl3⟩ hln3 hl03
     exact cS (L':=[z2,z1]++(A3_++(markB (dm3::rs1)))) ap (cS (L':=([z2,z1]++(A3_))++markB (dm3::rs1)) ap (qM (dm3::rs1) (A:=A3_) AU U js (.inr (m2 _ _ _ hln3 hS5))))
    ·exact xf
    ·rintro dm3 ch hn3 L0 ⟨B,hB,hp⟩ hl03
     exact qN (dm3::rs1) AU hB hp
 ·exact lX U (qO 2 U (gl (qM [] (A:=A2) AU U js (.inr hS1))))
theorem nq:∀ (m:Nat) (h:HF) (x:Expr) (eQ:ce) (depth:Int) (_:Expr.ok h x eQ) (_:0≤depth∧depth+x.dep≤2000000) (_:x.dep≤m),iW prog 219 [.agg (Expr.cells x eQ).toArray,I depth] h (fun v h'=>∃ rv0:Value,v=rv0∧Itr prog rv0 pU (aE.go m x depth) h')
 | 0,h,x,eQ,depth,hx,hb,hd=>absurd hd (Nat.not_le.2 (Expr.jK _))
 | m+1,h,x,eQ,depth,hx,hb,hd=>by
  exact cT func219 U ntmps219 U fun X hM hX=>sr (cy (fun b1=>cy (fun b2=>qO 4 U (bO 1 U hM (fun h2 hle2 hb2=>bO 0 U hM (fun h3 hle3 hb3=>az (fX U U (an (fS [.func (.func 247) #[] #[Q b1,Q b2]] func219 U rd ⟨_,U,rW (aE.go m) h3 x eQ ⟨b1,0,none⟩ depth ⟨b2,0,none⟩ (fun h' y La d' hy hb' hl=>nq m h' y La d' hy hb' ob) (hx.mono (hle2.t hle3)) ((dq hb2).mono hle3) (dq hb3) hb⟩)))))))))
theorem kX (h:HF) (x:Expr) (eQ:ce) (depth:Int) (hx:Expr.ok h x eQ) (hb:0≤depth∧depth+x.dep≤2000000):iW prog 219 [.agg (Expr.cells x eQ).toArray,I depth] h (fun v h'=>∃ rv0:Value,v=rv0∧Itr prog rv0 pU (aY x depth) h'):=nq _ h x eQ depth hx hb (Nat.le_refl _)
theorem fZ (h:HF) (ok:Bool) (JL:Int)  : GK prog 242 [.bool ok,I JL] h (exW stopV (fun r:Unit=>(.tuple #[]:Value)) (dZ ok JL)):=by
 refine cT func242 U ntmps242 U fun X hM hX=>?_
 have hs0:dZ ok JL=dZ ok JL:=rfl
 refine qT 5 U (ac hs0 U (fun c1 hs1=>?_) (fun c1 hs2=>?_))
 ·exact bh (aj (az (em (cells:=[I JL]) (places:=[(0,1)]) underlying277 zc277 kr kr (az (fy (Je underlying277 U U) (az (I8 U Gs (fun e=>ja (md [] func242 hX (congrArg (exW stopV (fun r:Unit=>(.tuple #[]:Value))) hs1))))))))))
 ·refine aG ?_
  have hs3:dZ ok JL=(Except.ok ()):=hs2
  exact gl (uV [] [] func242 U hX trivial (congrArg (exW stopV (fun r:Unit=>(.tuple #[]:Value))) hs3))
theorem GA {c:Bool} {e:Int} {u:Unit} (h:dZ c e=.ok u):c=true:=by
 cases c with
 | true=>rfl
 | false=>simp [dZ] at h
theorem ki (h:HF) (p:Policy) (gq:dY) (hp:Policy.ok h p gq) (hsz0:p.Rules.length≤2000000):iW prog 243 [.agg (Policy.cells p gq).toArray] h (fun v h'=>∃ (rb0:Option Addr) (rc0:Nat),v=.slice rb0 (ai p).length rc0∧SlC Expr.rp h' rb0 rc0 (ai p)):=by
 refine sT func243 U ntmps243 U fun X hM hX hF=>?_
 have hs0:ai p=ai p:=rfl
 refine sr (cy (fun b1=>qL 10 [0] U ?_))
 let z3:Nat×Obj:=(b1,O (Policy.cells p gq) 68)
 refine lp2 p.Rules (fun i w=>[(1,Q b1),(2,.slice w.2.1 w.1.length w.2.2.1),(6,.slice gq.ka p.Rules.length gq.j9),(7,I (p.Rules.length:Int)),(8,I (i:Int))]) (fun _=>h) (fun w=>[z3]++(w.2.2.2)) (fun i w=>cJ Expr.rp 66 h w.1 w.2.1 w.2.2.1 w.2.2.2∧w.1.length≤0+i) (fun s1 i w=>(ai.L1 (ai.K1 p)) s1 w.1) ([],none,0,[]) hp.Rules.1.1 hs0 ⟨cJ.nil,lo⟩ ?_ ?_
 ·rintro i1 ⟨AI,KL,KK,JK⟩ eR hs1 ⟨Ee,Ir⟩ e
  try dsimp only at Ee Ir
  refine qK 4 [] U (cM 0 ty66 U U U (az (bd (cells:=[I p.Change.Kind,I p.Change.N,I p.Change.No,.string p.Change.Name,.slice gq.Change.iM p.Change.L.length gq.Change.iP]) jh ty66 zc66 U U kr (fun b5=>?_))))
  let z1:Nat×Obj:=(b5,O [I p.Change.Kind,I p.Change.N,I p.Change.No,.string p.Change.Name,.slice gq.Change.iM p.Change.L.length gq.Change.iP] 66)
  refine az (bR Expr.ey ([z1,z3]) ([]) (fun G=>[z1,z3]++G) ap (fun _=>ap) jh ty66 zc66 U bytes66 Ee U U (dr 0 U (show aT Expr.rp h [I p.Change.Kind,I p.Change.N,I p.Change.No,.string p.Change.Name,.slice gq.Change.iM p.Change.L.length gq.Change.iP] ([p.Change]) from ⟨[I p.Change.Kind,I p.Change.N,I p.Change.No,.string p.Change.Name,.slice gq.Change.iM p.Change.L.length gq.Change.iP],[],U,U,⟨gq.Change,U,hp.Change⟩,U⟩)) lo lo (fun ob3 oc3 G3 gr3=>an (eK Expr.ak ([z1,z3]) G3 ([]) ap hM gr3 (fun h2 hle2 sl2=>?_))))
  have hs2:ai p=(AI++[p.Change]):=hs1
  exact nretH [.slice ob3 ((AI++[p.Change]).length) oc3] ⟨ob3,oc3,congrArg (fun r:List Expr=>(.slice ob3 r.length oc3:Value)) hs2.symm,(by rw [hs2];exact sl2)⟩
 ·rintro i1 ⟨AI,KL,KK,JK⟩ y1 rz1 hd1 cz ar dF fF hs3 ⟨Ee,Ir⟩ hx1 ag1 e
  try dsimp only at Ee Ir
  refine sr (ae (v':=.bool true) U (cb cz) (qO 8 U (az (dU nO ty107 hp.Rules.1 (nthZ ar) (au ar) U U U (fun _ _ _ e=>e) (fun q2 r2 A2 ok2=>dg ty107 A2 U U (bG zc107 (fun b6=>bC 0 ty107 U U U U U U (iw (L':=[(b6,O (Rule.cells y1 r2) 107),z3]++(JK)) U (qL 4 [] U (cM 0 ty66 U U U (az (bd (cells:=[I y1.Expr.Kind,I y1.Expr.N,I y1.Expr.No,.string y1.Expr.Name,.slice r2.Expr.iM y1.Expr.L.length r2.Expr.iP]) jh ty66 zc66 U U kr (fun b7=>?_)))))))))))))
  let z2:Nat×Obj:=(b7,O [I y1.Expr.Kind,I y1.Expr.N,I y1.Expr.No,.string y1.Expr.Name,.slice r2.Expr.iM y1.Expr.L.length r2.Expr.iP] 66)
  exact az (bR Expr.ey ([z2,(b6,O (Rule.cells y1 r2) 107),z3]) ([]) (fun G=>[z2,(b6,O (Rule.cells y1 r2) 107),z3]++G) ap (fun _=>ap) jh ty66 zc66 U bytes66 Ee U U (dr 0 U (show aT Expr.rp h [I y1.Expr.Kind,I y1.Expr.N,I y1.Expr.No,.string y1.Expr.Name,.slice r2.Expr.iM y1.Expr.L.length r2.Expr.iP] ([y1.Expr]) from ⟨[I y1.Expr.Kind,I y1.Expr.N,I y1.Expr.No,.string y1.Expr.Name,.slice r2.Expr.iM y1.Expr.L.length r2.Expr.iP],[],U,U,⟨r2.Expr,U,ok2.Expr⟩,U⟩)) lo lo (fun ob4 oc4 G4 gr4=>qO 4 U (ae (v':=I (((i1+1):Nat):Int)) U (aL ob) (qO 2 U (bY (L':=[z3]++G4) js (ag1 ((AI++[y1.Expr]),ob4,oc4,G4) hs3 ⟨gr4,lo⟩))))))
theorem F7 (p:Policy):∀ (l:List Rule) (g:List Expr),ai.L1 (ai.K1 p) l g=g++(l.map (·.Expr)++[p.Change])
 | [],g=>by simp [ai.L1,ai.K1]
 | y::l,g=>by simp [ai.L1,F7 p l]
theorem IB (p:Policy):ai p=p.Rules.map (·.Expr)++[p.Change]:=by
 unfold ai;rw [F7];simp
theorem vy {p:Policy} (h:smP p) {y:Expr} (hy:y∈ai p):y.dep≤1500000:=by
 rw [IB] at hy
 rcases List.mem_append.1 hy with hy | hy
 ·obtain ⟨r,hr,rfl⟩:=List.mem_map.1 hy;exact h.2.1 r hr
 ·rw [List.mem_singleton.1 hy];exact h.2.2.1
theorem vh (h:HF) (p:Policy) (gq:dY) (hp:Policy.ok h p gq) (hsm:smP p):GK prog 215 [.agg (Policy.cells p gq).toArray] h (exW stopV (fun r:Unit=>(.tuple #[]:Value)) (bU p)):=by
 refine cT Fo U ntmps215 U fun X hM hX=>?_
 have hs0:bU p=bU p:=rfl
 have hsr:=hsm.rules
 have hsc:=hsm.change
 refine sr (cy (fun b1=>qL 8 [0] U (bz 5 [10,11,12,13,14,15] 10 15 (decide ((p.Kinds.length:Int)≤16)) U (fun c1 hk1=>?_) (fun e=>?_))))
 ·exact qL 5 [0] U (hk1 _ U)
 refine aj (bz 5 [16,17,18,19,20,21] 16 21 (decide ((p.Rules.length:Int)≤16)) U (fun c2 hk2=>?_) (fun e=>?_))
 ·exact qL 5 [0] U (hk2 _ U)
 refine az (kW tD (fZ h ((decide ((p.Offices.length:Int)≤32)&&decide ((p.Kinds.length:Int)≤16))&&decide ((p.Rules.length:Int)≤16)) 2) U (fun u1 hu1=>?_) (fun pv1 hpv1 e=>?_))
 ·obtain ⟨rx1,hrx1,rfl⟩:=mU hu1
  have hs1:=hs0.trans (mT hrx1)
  cases rx1
  refine qO 3 U (cM 0 ty68 U U U (az (cg call243 (ki _ _ _ hp ob) U (fun v1 h1 hle1 hp1=>?_))))
  obtain ⟨rb1,rc1,rfl,sl1⟩:=hp1
  refine qL 3 [] U (gl ?_)
  let z1:Nat×Obj:=(b1,O (Policy.cells p gq) 68)
  refine cS (L':=[z1]++(markB [])) ap ?_
  refine qk (ι:=Nat×List Nat×HF) (fun i=>[]) (fun i=>marks i.2.1) (fun i=>i.2.2) (fun i=>[z1]++(markB i.2.1)) (fun i=>i.1≤(ai p).length∧bU p=((bU.K1))∧HF.le h1 i.2.2) ?_ (fun hx1=>?_)
  ·rintro ⟨i1,rs1,hh1⟩ ⟨eR,hs2,hl1⟩ e
   have hs3:bU p=(Except.ok ()):=hs2
   exact cS (L':=([z1])++markB rs1) ap (uV rs1 [] Fo U hX trivial (congrArg (exW stopV (fun r:Unit=>(.tuple #[]:Value))) hs3))
  ·refine uU (ι:=Nat×List Nat×HF×List Expr) (fun i=>[(24,.slice rb1 ((ai p).length) rc1),(25,I ((ai p).length:Int)),(26,I (i.1:Int))]) (fun i=>marks i.2.1) (fun i=>i.2.2.1) (fun i=>[z1]++(markB i.2.1)) (fun i=>(ai p).drop i.1=i.2.2.2∧i.1≤(ai p).length∧bU p=((bU.L1 (bU.K1)) i.2.2.2)∧HF.le h1 i.2.2.1) (fun i=>i.2.2.2.length) (0,[],h1,(ai p)) U rd sw ⟨U,Nat.zero_le _,hs1,lf⟩ ?_
   rintro ⟨i1,rs1,hh1,s1⟩ ⟨hd1,eR,hs4,hl1⟩ ag1 e
   rcases s1 with _ | ⟨y1,rz1⟩
   ·have eM:=pH hd1
    exact sr (ae (v':=.bool false) U (cb eM) (qO 4 U (hx1 (i1,rs1,hh1) _ ⟨eR,hs4,hl1⟩ trivial)))
   ·have cz:=tU hd1
    have ar:=uI hd1
    have dF:=j2 hd1
    have fF:=sl1.1.1
    try have hsy:=vy hsm (fA hd1)
    refine sr (ae (v':=.bool true) U (cb cz) (qO 8 U (az (dU jh ty66 (sl1.mono Expr.ak hl1).1 (nthZ ar) (au ar) U U U (fun _ _ _ e=>e) (fun q2 r2 A2 ok2=>dg ty66 A2 U U (bG zc66 (fun b5=>bC 0 ty66 U U U U U U (qO 3 U (bG zc3 (fun b6=>dw 0 ty3 U U U U U U (qO 3 U (cM 1 ty66 U U U (az (cg Fp (kX _ _ _ 1 ok2 ob) U (fun v3 h3 hle3 hp3=>?_)))))))))))))))
    obtain ⟨_,rfl,mo2⟩:=hp3
    refine qO 2 U ?_
    let z2:Nat×Obj:=(b5,O (Expr.cells y1 r2) 66)
    refine cS (L':=([(b6,O [I 0] 3),z2,z1])++markB rs1) ap ?_
    refine kb (it:=v3) (xs:=(aY y1 1)) (ι:=Int×HF) rs1 (fun i=>i.2) (fun i=>[(b6,O [I i.1] 3),z2,z1]) (fun s i=>bU p=((bU.L3 (fun zg3_b6_0=>(bU.L1 (bU.K1) rz1))) s i.1)∧HF.le h3 i.2) (fun _=>False) (fun _=>False) 0 (fun ch _ _=>∃ pv_,ch=[{ v:=stopV pv_,recovered:=false }]∧bU p=.error pv_) (0,h3) Fo U mo2 U lY (fun _ _ _ _ _ hq=>hq) U (show [(b6,O [I 0] 3),z2,z1]=_ from U) ⟨hs4,lf⟩ ?_ ?_ ?_ ?_ ?_
    ·rintro l3 dm3 lp3 y3 rz3 vs3 ⟨sU,hh3⟩ hr3 X hFR3 ⟨hs6,hl3⟩ hl03 hlr3 hv3 hX hXM hlp3 nx3 rt3 ex3 pn3
     obtain ⟨rr3_0,rfl,ok3_0⟩:=hv3
     let z4:Nat×Obj:=(dm3,.deferred (some []))
     refine cS (L':=[(l3,.loop lp3),z4,(b6,O [I sU] 3),z2,z1]++(markB rs1)) ap (bh (bG zc258 (fun b8=>bC 0 ty258 U U U U U U (aN (kc 1 U hlp3 (qK 5 [3] U (dw 3 ty3 U U U U U U (qL 5 [3] U (bz 4 [37,38,39,40,41] 37 41 (decide (y3.depth≤16)) U (fun c3 hk3=>?_) (fun e=>?_))))))))))
     ·exact qL 4 [0] U (hk3 _ U)
     refine az (kW tD (fZ hr3 (decide ((IntKind.wrap .i64 (sU+1))≤256)&&decide (y3.depth≤16)) 2) U (fun u2 hu2=>?_) (fun pv2 hpv2 e=>?_))
     ·obtain ⟨rx2,hrx2,rfl⟩:=mU hu2
      have hs7:=hs6.trans (mT hrx2)
      cases rx2
      refine qO 2 U ?_
      let z3:Nat×Obj:=(b6,O [I (IntKind.wrap .i64 (sU+1))] 3)
      exact bY (L':=[(l3,.loop { lp3 with state:=.busy }),z4,z3,z2,z1]++(markB rs1)) js (cS (L':=rdH l3 dm3 lp3 (([z3,z2,z1])++markB rs1)) ap (nx3 ((IntKind.wrap .i64 (sU+1)),hr3) _ _ ⟨hs7,(hl3.t hlr3)⟩ lf))
     ·obtain ⟨pv2e,hpv2e,rfl⟩:=lb hpv2
      have hs8:=hs6.trans (la hpv2e)
      exact ue (L':=[(l3,.loop { lp3 with state:=.busy }),z4]++(markB rs1)) js (pn3 _ _ _ [] ⟨_,U,hs8⟩)
    ·rintro dm3 ⟨sU,hh3⟩ hn3 ⟨hs9,hl3⟩ hln3 hl03
     exact cS (L':=[(b6,O [I sU] 3),z2,z1]++(markB (dm3::rs1))) ap (qT 3 U (ae (v':=I (((i1+1):Nat):Int)) U (aL ob) (qO 2 U (bY (L':=[z1]++(markB (dm3::rs1))) js (ag1 ((i1+1),(dm3::rs1),hn3,rz1) _ (Nat.lt_succ_self _) ⟨mX hd1,j2 hd1,hs9,(((hl1.t hle3).t hl3).t hln3)⟩ rd)))))
    ·exact xf
    ·exact xf
    ·rintro dm3 ch hn3 L0 ⟨pv_,rfl,hpv_⟩ hl03
     exact md (dm3::rs1) Fo hX (congrArg (exW stopV (fun r:Unit=>(.tuple #[]:Value))) hpv_)
 ·obtain ⟨pv1e,hpv1e,rfl⟩:=lb hpv1
  have hs10:=hs0.trans (la hpv1e)
  exact ja (md [] Fo hX (congrArg (exW stopV (fun r:Unit=>(.tuple #[]:Value))) hs10))
end Go.Sg
namespace Go.Sg
open Go.Proofs Go.Proofs.Tryz
theorem ext282:Extern.find Tryz.f282=some Extern.BytealgIndexByte.indexByte:=by kernel_rfl
theorem ext282n:Extern.findNext Tryz.f282=none:=by kernel_rfl
theorem run282 (s:ByteArray) (c:Int) (w:World):(Extern.BytealgIndexByte.indexByte #[.string s,.int .u8 c]).run prog w=.ok (.int .i64 (idxByte s c)) w:=by
 show (do
  let b ← Extern.Bytes.bytesOf (.string s)
  let c ← Extern.Bytes.asByte (.int .u8 c)
  match (List.range b.size).find? fun i=>b[i]! == c with
  | some i=>pure (goInt i)
  | none=>pure (goInt (-1)):Sem Value).run prog w=_
 simp only [Extern.Bytes.bytesOf,Extern.Bytes.asByte,Sem.run_bind,Sem.run_pure,Result.andThen_ok,idxByte,goInt]
 cases hf:(List.range s.size).find? (fun i=>s[i]! == UInt8.ofNat c.toNat) with
 | none=>simp only [show c.toNat.toUInt8=UInt8.ofNat c.toNat from rfl,hf];simp
 | some i=>simp only [show c.toNat.toUInt8=UInt8.ofNat c.toNat from rfl,hf];simp
theorem call282 (s:ByteArray) (c:Int) (w:World):(callFunc 282 #[.string s,.int .u8 c]).run prog w=.ok (.value (.int .i64 (idxByte s c))) w:=by
 have hb:Tryz.f282.body.isNone=true:=by kernel_rfl
 have hn : (Tryz.f282.name == "runtime.NumGoroutine") = false := by kernel_rfl
 simp only [callFunc,Sem.run_bind,run_program,Result.andThen_ok,func282,hn,hb,ext282,ext282n]
 simp [run282]
theorem HN {e:Env} {X:Cx} {h:HF} {L:LH} {d:Option Nat} {ty:TypeId} {pos:String} {af:Array Edge} {g:Option (Nat×Bool)} {x y:Operand} {ats:Array TypeId} {s:ByteArray} {c:Int} (hx:e.ev x=.string s) (hy:e.ev y=.int .u8 c):
  ∀ w,St X h L w→(execOp e.ev ⟨d,.call ⟨.value (.func 282),#[x,y],ats⟩,ty,pos,af,g⟩).run prog w=.ok (.value (.int .i64 (idxByte s c))) w:=
 fun w _=>by
  have hf:e.ev (.func 282)=.func (.func 282) #[] #[]:=rfl
  simp [execOp,resolve,hf,Deferred.ofValue,invoke,hx,hy,call282]
end Go.Sg
namespace Go.Sg
open Go.Proofs Go.Proofs.Tryz
set_option maxHeartbeats 2000000
theorem lQ (h:HF) (x:Expr) (eQ:ce) (hx:Expr.ok h x eQ):Ret prog 220 [.agg (Expr.cells x eQ).toArray] h (.bool (cA x)):=by
 refine sT func220 U ntmps220 U fun X hM hX hF=>?_
 have hs0:cA x=cA x:=rfl
 refine sr (cy (fun b1=>qL 8 [0] U (cf 4 [6,7,8,9,10] 6 10 (x.Kind==2) U (fun c1 hk1=>?_) (fun e=>?_))))
 ·exact qL 4 [0] U (hk1 _ U)
 exact an (nretP [.bool ((x.Kind==1)||(x.Kind==2))] (cs hs0))
theorem mD (h:HF) (s:ByteArray) (c:Int)  : Ret prog 281 [.string s,Y c] h (I (gg s c)):=by
 refine sT func281 U ntmps281 U fun X hM hX hF=>?_
 have hs0:gg s c=gg s c:=rfl
 exact sr (qO 6 U (az (fy (HN U U) (an (nretP [I (idxByte s c)] (ci hs0))))))
theorem rJ (h:HF) (s:ByteArray) (c:Int)  : Ret prog 279 [.string s,Y c] h (I (strings_IndexByte s c)):=by
 refine sT func279 U ntmps279 U fun X hM hX hF=>?_
 have hs0:strings_IndexByte s c=strings_IndexByte s c:=rfl
 exact sr (qO 6 U (ah call281 (mD h s c) U (an (nretP [I (gg s c)] (ci hs0)))))
theorem vm (h:HF) (c:Int)  : Ret prog 275 [Y c] h (I (iL c)):=by
 refine sT func275 U ntmps275 U fun X hM hX hF=>?_
 have hs0:iL c=iL c:=rfl
 refine qT 11 U (bz 3 [6,7,8,9] 6 9 (decide (c≤122)) U (fun c1 hk1=>?_) (fun e=>?_))
 ·exact aj (qO 2 U (hk1 _ U))
 refine aj (cf 7 [10,11,12,13,14,15,16,17] 10 17 (decide (65≤c)&&decide (c≤90)) U (fun c2 hk2=>?_) (fun e=>?_))
 ·refine qO 3 U (bz 3 [13,14,15,16] 13 16 (decide (c≤90)) U (fun c3 hk3=>?_) (fun e=>?_))
  ·exact aj (qO 2 U (hk3 _ U))
  exact ew U (hk2 _ U)
 refine an (ac hs0 U (fun c4 hs1=>?_) (fun c4 hs2=>?_))
 ·exact sr (an (nretP [I 2] (ci hs1)))
 ·refine qT 5 U (bz 3 [21,22,23,24] 21 24 (decide (c≤57)) U (fun c5 hk4=>?_) (fun e=>?_))
  ·exact aj (qO 2 U (hk4 _ U))
  refine an (ac hs2 U (fun c6 hs4=>?_) (fun c6 hs5=>?_))
  ·exact sr (an (nretP [I 3] (ci hs4)))
  ·refine qT 6 U (ac hs5 U (fun c7 hs7=>?_) (fun c7 hs8=>?_))
   ·exact sr (an (nretP [I 5] (ci hs7)))
   ·refine qT 5 U (cf 3 [31,32,33,34] 31 34 (c==9) U (fun c8 hk5=>?_) (fun e=>?_))
    ·exact aj (qO 2 U (hk5 _ U))
    refine aj (cf 3 [35,36,37,38] 35 38 (c==10) U (fun c9 hk6=>?_) (fun e=>?_))
    ·exact aj (qO 2 U (hk6 _ U))
    refine aj (cf 3 [39,40,41,42] 39 42 (c==13) U (fun c10 hk7=>?_) (fun e=>?_))
    ·exact aj (qO 2 U (hk7 _ U))
    refine an (ac hs8 U (fun c11 hs10=>?_) (fun c11 hs11=>?_))
    ·exact sr (an (nretP [I 1] (ci hs10)))
    ·refine qT 3 U (ah call279 (rJ h (⟨#[123,125,40,41,59,44,61,58,46,60,62,33,43,45,42,47]⟩:ByteArray) c) U (qO 3 U (ac hs11 U (fun c12 hs13=>?_) (fun c12 hs14=>?_))))
     ·have c12p:=of_decide_eq_true c12
      exact sr (an (nretP [I 4] (ci hs13)))
     ·have c12p:=of_decide_eq_false c12
      exact aG (qT 5 U (nretP [I 0] (ci hs14)))
theorem gE (h:HF) (s:ByteArray)  : Ret prog 265 [.string s] h (.bool (de s)):=by
 refine sT func265 U ntmps265 U fun X hM hX hF=>?_
 have hs0:de s=de s:=rfl
 refine qT 10 U (cf 4 [7,8,9,10,11] 7 11 (decide (32 < (s.size:Int))) U (fun c1 hk1=>?_) (fun e=>?_))
 ·exact aj (az (fy (we uR U) (qO 2 U (hk1 _ U))))
 refine aj (cf 5 [12,13,14,15,16,17] 12 17 ((iL ((s.data.getD (0:Int).toNat 0).toNat:Int)) != 2) U (fun c2 hk2=>?_) (fun e=>?_))
 ·refine aj ?_
  have ho1:0≤(0:Int)∧(0:Int) < (s.size:Int):=(by have:=I3 (Bool.or_eq_false_iff.1 ob).1;omega)
  exact az (fy (Ca uR U U ho1) (ah call275 (vm h ((s.data.getD (0:Int).toNat 0).toNat:Int)) U (qO 2 U (hk2 _ U))))
 refine aN (ac hs0 U (fun c3 hs1=>?_) (fun c3 hs2=>?_))
 ·exact sr (an (nretP [.bool false] (cs hs1)))
 ·refine qT 5 U (az (fy (we uR U) (qO 2 U ?_)))
  refine ji (ι:=Nat) (fun i=>[]) (fun i=>h) (fun i=>[]) (fun i=>i≤(List.range s.size).length∧de s=((de.K1))) ?_ (fun hx1=>?_)
  ·rintro i1 ⟨eR,hs4⟩ e
   exact sr (an (nretP [.bool true] (cs hs4)))
  ·refine kT (ι:=Nat×List Nat) (fun i=>[(0,.string s),(19,I (s.size:Int)),(20,I (i.1:Int))]) (fun i=>h) (fun i=>[]) (fun i=>(List.range s.size).drop i.1=i.2∧i.1≤(List.range s.size).length∧de s=((de.L1 s (de.K1)) i.2 i.1)) (fun i=>i.2.length) (0,(List.range s.size)) rd sw ⟨U,Nat.zero_le _,hs2⟩ ?_
   rintro ⟨i1,s1⟩ ⟨hd1,eR,hs6⟩ ag1 e
   rcases s1 with _ | ⟨y1,rz1⟩
   ·have eM:decide ((i1:Int) < (s.size:Int))=false:=by simpa using pH hd1
    exact sr (ae (v':=.bool false) U (cb eM) (qO 4 U (hx1 i1 _ ⟨eR,hs6⟩ trivial)))
   ·have cz:decide ((i1:Int) < (s.size:Int))=true:=by simpa using tU hd1
    have dF:i1 < s.size:=by simpa using j2 hd1
    refine sr (ae (v':=.bool true) U (cb cz) (qO 15 U ?_))
    have ho3:0≤((i1:Int):Int)∧((i1:Int):Int) < (s.size:Int):=ob
    refine az (fy (Ca uR U U ho3) (ah call275 (vm h ((s.data.getD ((i1:Int):Int).toNat 0).toNat:Int)) U (qO 7 U (bz 3 [29,30,31,32] 29 32 ((iL ((s.data.getD ((i1:Int):Int).toNat 0).toNat:Int)) != 3) U (fun c4 hk3=>?_) (fun e=>?_)))))
    ·exact aj (qO 2 U (hk3 _ U))
    refine aj (bz 3 [33,34,35,36] 33 36 ((iL ((s.data.getD ((i1:Int):Int).toNat 0).toNat:Int)) != 5) U (fun c5 hk4=>?_) (fun e=>?_))
    ·exact aj (qO 2 U (hk4 _ U))
    refine aN (ac hs6 U (fun c6 hs8=>?_) (fun c6 hs9=>?_))
    ·exact sr (an (nretP [.bool false] (cs hs8)))
    ·exact aG (qT 2 U (ae (v':=I (((i1+1):Nat):Int)) U (aL ob) (qO 2 U (ag1 ((i1+1),rz1) _ (Nat.lt_succ_self _) ⟨mX hd1,j2 hd1,hs9⟩ rd))))
theorem mp (h:HF) (s:ByteArray)  : Ret prog 244 [.string s] h (.bool (db s)):=by
 refine sT func244 U ntmps244 U fun X hM hX hF=>?_
 have hs0:db s=db s:=rfl
 refine qT 16 U (ac hs0 U (fun c1 hs1=>?_) (fun c1 hs2=>?_))
 ·refine aG (ac hs1 U (fun c2 hs3=>?_) (fun c2 hs4=>?_))
  ·exact sr (an (nretP [.bool false] (cs hs3)))
  ·exact aG (qT 4 U (ah oa (gE h s) U (an (nretP [.bool (de s)] (cs hs4)))))
 ·refine qT 5 U (ac hs2 U (fun c3 hs7=>?_) (fun c3 hs8=>?_))
  ·refine aG (ac hs7 U (fun c4 hs9=>?_) (fun c4 hs10=>?_))
   ·exact sr (an (nretP [.bool false] (cs hs9)))
   ·exact aG (qT 4 U (ah oa (gE h s) U (an (nretP [.bool (de s)] (cs hs10)))))
  ·refine qT 5 U (ac hs8 U (fun c5 hs13=>?_) (fun c5 hs14=>?_))
   ·refine aG (ac hs13 U (fun c6 hs15=>?_) (fun c6 hs16=>?_))
    ·exact sr (an (nretP [.bool false] (cs hs15)))
    ·exact aG (qT 4 U (ah oa (gE h s) U (an (nretP [.bool (de s)] (cs hs16)))))
   ·refine qT 5 U (ac hs14 U (fun c7 hs19=>?_) (fun c7 hs20=>?_))
    ·refine aG (ac hs19 U (fun c8 hs21=>?_) (fun c8 hs22=>?_))
     ·exact sr (an (nretP [.bool false] (cs hs21)))
     ·exact aG (qT 4 U (ah oa (gE h s) U (an (nretP [.bool (de s)] (cs hs22)))))
    ·refine qT 5 U (ac hs20 U (fun c9 hs25=>?_) (fun c9 hs26=>?_))
     ·refine aG (ac hs25 U (fun c10 hs27=>?_) (fun c10 hs28=>?_))
      ·exact sr (an (nretP [.bool false] (cs hs27)))
      ·exact aG (qT 4 U (ah oa (gE h s) U (an (nretP [.bool (de s)] (cs hs28)))))
     ·refine qT 5 U (ac hs26 U (fun c11 hs31=>?_) (fun c11 hs32=>?_))
      ·refine aG (ac hs31 U (fun c12 hs33=>?_) (fun c12 hs34=>?_))
       ·exact sr (an (nretP [.bool false] (cs hs33)))
       ·exact aG (qT 4 U (ah oa (gE h s) U (an (nretP [.bool (de s)] (cs hs34)))))
      ·refine qT 5 U (ac hs32 U (fun c13 hs37=>?_) (fun c13 hs38=>?_))
       ·refine aG (ac hs37 U (fun c14 hs39=>?_) (fun c14 hs40=>?_))
        ·exact sr (an (nretP [.bool false] (cs hs39)))
        ·exact aG (qT 4 U (ah oa (gE h s) U (an (nretP [.bool (de s)] (cs hs40)))))
       ·refine qT 5 U (ac hs38 U (fun c15 hs43=>?_) (fun c15 hs44=>?_))
        ·refine aG (ac hs43 U (fun c16 hs45=>?_) (fun c16 hs46=>?_))
         ·exact sr (an (nretP [.bool false] (cs hs45)))
         ·exact aG (qT 4 U (ah oa (gE h s) U (an (nretP [.bool (de s)] (cs hs46)))))
        ·refine qT 5 U (ac hs44 U (fun c17 hs49=>?_) (fun c17 hs50=>?_))
         ·refine aG (ac hs49 U (fun c18 hs51=>?_) (fun c18 hs52=>?_))
          ·exact sr (an (nretP [.bool false] (cs hs51)))
          ·exact aG (qT 4 U (ah oa (gE h s) U (an (nretP [.bool (de s)] (cs hs52)))))
         ·refine qT 5 U (ac hs50 U (fun c19 hs55=>?_) (fun c19 hs56=>?_))
          ·refine aG (ac hs55 U (fun c20 hs57=>?_) (fun c20 hs58=>?_))
           ·exact sr (an (nretP [.bool false] (cs hs57)))
           ·exact aG (qT 4 U (ah oa (gE h s) U (an (nretP [.bool (de s)] (cs hs58)))))
          ·refine qT 5 U (ac hs56 U (fun c21 hs61=>?_) (fun c21 hs62=>?_))
           ·refine aG (ac hs61 U (fun c22 hs63=>?_) (fun c22 hs64=>?_))
            ·exact sr (an (nretP [.bool false] (cs hs63)))
            ·exact aG (qT 4 U (ah oa (gE h s) U (an (nretP [.bool (de s)] (cs hs64)))))
           ·refine qT 5 U (ac hs62 U (fun c23 hs67=>?_) (fun c23 hs68=>?_))
            ·refine aG (ac hs67 U (fun c24 hs69=>?_) (fun c24 hs70=>?_))
             ·exact sr (an (nretP [.bool false] (cs hs69)))
             ·exact aG (qT 4 U (ah oa (gE h s) U (an (nretP [.bool (de s)] (cs hs70)))))
            ·refine qT 5 U (ac hs68 U (fun c25 hs73=>?_) (fun c25 hs74=>?_))
             ·refine aG (ac hs73 U (fun c26 hs75=>?_) (fun c26 hs76=>?_))
              ·exact sr (an (nretP [.bool false] (cs hs75)))
              ·exact aG (qT 4 U (ah oa (gE h s) U (an (nretP [.bool (de s)] (cs hs76)))))
             ·refine qT 5 U (ac hs74 U (fun c27 hs79=>?_) (fun c27 hs80=>?_))
              ·refine aG (ac hs79 U (fun c28 hs81=>?_) (fun c28 hs82=>?_))
               ·exact sr (an (nretP [.bool false] (cs hs81)))
               ·exact aG (qT 4 U (ah oa (gE h s) U (an (nretP [.bool (de s)] (cs hs82)))))
              ·refine qT 5 U (ac hs80 U (fun c29 hs85=>?_) (fun c29 hs86=>?_))
               ·refine aG (ac hs85 U (fun c30 hs87=>?_) (fun c30 hs88=>?_))
                ·exact sr (an (nretP [.bool false] (cs hs87)))
                ·exact aG (qT 4 U (ah oa (gE h s) U (an (nretP [.bool (de s)] (cs hs88)))))
               ·refine qT 4 U (ac hs86 U (fun c31 hs91=>?_) (fun c31 hs92=>?_))
                ·exact sr (an (nretP [.bool false] (cs hs91)))
                ·exact aG (qT 4 U (ah oa (gE h s) U (an (nretP [.bool (de s)] (cs hs92)))))
theorem jv (h:HF) (s:List ByteArray) (tG:Option Addr) (sL:Nat) (v:ByteArray) (hs:SlC Rp.str h tG sL s):Ret prog 221 [.slice tG s.length sL,.string v] h (I (aJ s v)):=by
 refine sT func221 U ntmps221 U fun X hM hX hF=>?_
 have hs0:aJ s v=aJ s v:=rfl
 refine qK 11 [] U ?_
 refine lp0 s (fun i=>[(0,.slice tG s.length sL),(1,.string v),(7,I (s.length:Int)),(8,I (i:Int))]) ([]) (fun s1 i=>(aJ.L1 v (aJ.K1)) s1 i) hs.1.1 hs0 ?_ ?_
 ·rintro i1 eR hs1 e
  exact sr (an (nretP [I (-1)] (ci hs1)))
 ·rintro i1 y1 rz1 hd1 cz ar dF fF hs3 hx1 ag1 e
  refine sr (ae (v':=.bool true) U (cb cz) (qO 16 U (az (ef (enc:=fun y=>[.string y]) ei pK ty9 hs.1 (nthZ ar) (au ar) U U U (fun q2 A2=>cL ty9 A2 U (qO 2 U (ac hs3 U (fun c2 hs4=>?_) (fun c2 hs5=>?_))))))))
  ·exact sr (qO 3 U (nretP [I (i1:Int)] (ci hs4)))
  ·exact aG (qT 2 U (ae (v':=I (((i1+1):Nat):Int)) U (aL ob) (qO 2 U (ag1 hs5))))
theorem kY (h:HF) (l:List ByteArray) (eE:Option Addr) (eD:Nat) (ok:(ByteArray→Bool)) (ok_v:Value) (hl:SlC Rp.str h eE eD l) (hok:∀ (h':HF) (dX:ByteArray),HF.le h h'→wH prog ok_v [.string dX] h' [] (.bool (ok dX))):Ret prog 245 [.slice eE l.length eD,ok_v] h (.bool (bn l ok)):=by
 refine sT func245 U ntmps245 U fun X hM hX hF=>?_
 have hs0:bn l ok=bn l ok:=rfl
 refine qK 11 [] U ?_
 refine lp0 l (fun i=>[(0,.slice eE l.length eD),(1,ok_v),(7,.slice eE l.length eD),(8,I (l.length:Int)),(9,I (i:Int))]) ([]) (fun s1 i=>(bn.L1 l ok (bn.K1)) s1 i) hl.1.1 hs0 ?_ ?_
 ·rintro i1 eR hs1 e
  exact sr (an (nretP [.bool true] (cs hs1)))
 ·rintro i1 y1 rz1 hd1 cz ar dF fF hs3 hx1 ag1 e
  refine sr (ae (v':=.bool true) U (cb cz) (qO 9 U (az (ef (enc:=fun y=>[.string y]) ei pK ty9 hl.1 (nthZ ar) (au ar) U U U (fun q2 A2=>cL ty9 A2 U (qO 7 U (az (nQ (v:=.bool (ok y1)) [] (List.nil_sublist _) (hok h y1 lf) U U (qO 2 U (cf 6 [18,19,20,21,22,23,24] 18 24 ((aJ l y1) != (i1:Int)) U (fun c1 hk1=>?_) (fun e=>?_)))))))))))
  ·exact aj (aj (ah Hi (jv _ _ _ _ y1 hl) U (qO 3 U (hk1 _ U))))
  refine aN (ac hs3 U (fun c2 hs4=>?_) (fun c2 hs5=>?_))
  ·exact sr (an (nretP [.bool false] (cs hs4)))
  ·exact aG (qT 2 U (ae (v':=I (((i1+1):Nat):Int)) U (aL ob) (qO 2 U (ag1 hs5))))
theorem oT (h:HF) (s:List ByteArray) (tG:Option Addr) (sL:Nat) (v:ByteArray) (hs:SlC Rp.str h tG sL s):Ret prog 246 [.slice tG s.length sL,.string v] h (.bool (cq s v)):=by
 refine sT func246 U ntmps246 U fun X hM hX hF=>?_
 have hs0:cq s v=cq s v:=rfl
 exact sr (qO 6 U (ah Hi (jv _ _ _ _ v hs) U (qO 3 U (nretP [.bool (decide (0≤(aJ s v)))] (cs hs0)))))
theorem vi (h:HF) (p:Policy) (gq:dY) (hp:Policy.ok h p gq) (hsm:smP p):GK prog 216 [.agg (Policy.cells p gq).toArray] h (exW stopV (fun r:Unit=>(.tuple #[]:Value)) (bV p)):=by
 refine cT Fm U ntmps216 U fun X hM hX=>?_
 have hs0:bV p=bV p:=rfl
 have hsr:=hsm.rules
 refine sr (cy (fun b1=>qL 5 [0] U (ah call244 (mp h p.Name) U (aj (bz 4 [8,9,10,11,12] 8 12 (bn p.Offices db) U (fun c1 hk1=>?_) (fun e=>?_))))))
 ·exact qL 2 [0] U (ah call245 (kY _ _ _ _ db (.func (.func 244) #[] #[]) hp.Offices (fun h' dX hle =>i0 call244 (mp h' dX))) U (ew U (hk1 _ U)))
 refine aj (bz 4 [13,14,15,16,17] 13 17 (bn p.Kinds db) U (fun c2 hk2=>?_) (fun e=>?_))
 ·exact qL 2 [0] U (ah call245 (kY _ _ _ _ db (.func (.func 244) #[] #[]) hp.Kinds (fun h' dX hle =>i0 call244 (mp h' dX))) U (ew U (hk2 _ U)))
 refine az (kW tD (fZ h (((db p.Name)&&(bn p.Offices db))&&(bn p.Kinds db)) 201) U (fun u1 hu1=>?_) (fun pv1 hpv1 e=>?_))
 ·obtain ⟨rx1,hrx1,rfl⟩:=mU hu1
  have hs1:=hs0.trans (mT hrx1)
  cases rx1
  refine qO 3 U (cM 0 ty68 U U U (az (cg call243 (ki _ _ _ hp ob) U (fun v1 h1 hle1 hp1=>?_))))
  obtain ⟨rb1,rc1,rfl,sl1⟩:=hp1
  refine qL 3 [] U (gl ?_)
  let z1:Nat×Obj:=(b1,O (Policy.cells p gq) 68)
  refine cS (L':=[z1]++(markB [])) ap ?_
  refine qk (ι:=Nat×List Nat×HF) (fun i=>[]) (fun i=>marks i.2.1) (fun i=>i.2.2) (fun i=>[z1]++(markB i.2.1)) (fun i=>i.1≤(ai p).length∧bV p=((bV.K1))∧HF.le h1 i.2.2) ?_ (fun hx1=>?_)
  ·rintro ⟨i1,rs1,hh1⟩ ⟨eR,hs2,hl1⟩ e
   have hs3:bV p=(Except.ok ()):=hs2
   exact cS (L':=([z1])++markB rs1) ap (uV rs1 [] Fm U hX trivial (congrArg (exW stopV (fun r:Unit=>(.tuple #[]:Value))) hs3))
  ·refine uU (ι:=Nat×List Nat×HF×List Expr) (fun i=>[(1,Q b1),(20,.slice rb1 ((ai p).length) rc1),(21,I ((ai p).length:Int)),(22,I (i.1:Int))]) (fun i=>marks i.2.1) (fun i=>i.2.2.1) (fun i=>[z1]++(markB i.2.1)) (fun i=>(ai p).drop i.1=i.2.2.2∧i.1≤(ai p).length∧bV p=((bV.L1 p (bV.K1)) i.2.2.2)∧HF.le h1 i.2.2.1) (fun i=>i.2.2.2.length) (0,[],h1,(ai p)) U rd sw ⟨U,Nat.zero_le _,hs1,lf⟩ ?_
   rintro ⟨i1,rs1,hh1,s1⟩ ⟨hd1,eR,hs4,hl1⟩ ag1 e
   rcases s1 with _ | ⟨y1,rz1⟩
   ·have eM:=pH hd1
    exact sr (ae (v':=.bool false) U (cb eM) (qO 4 U (hx1 (i1,rs1,hh1) _ ⟨eR,hs4,hl1⟩ trivial)))
   ·have cz:=tU hd1
    have ar:=uI hd1
    have dF:=j2 hd1
    have fF:=sl1.1.1
    try have hsy:=vy hsm (fA hd1)
    refine sr (ae (v':=.bool true) U (cb cz) (qO 8 U (az (dU jh ty66 (sl1.mono Expr.ak hl1).1 (nthZ ar) (au ar) U U U (fun _ _ _ e=>e) (fun q2 r2 A2 ok2=>dg ty66 A2 U U (bG zc66 (fun b4=>bC 0 ty66 U U U U U U (qO 3 U (cM 0 ty66 U U U (az (cg Fp (kX _ _ _ 1 ok2 ob) U (fun v3 h3 hle3 hp3=>?_))))))))))))
    obtain ⟨_,rfl,mo2⟩:=hp3
    refine qO 2 U ?_
    let z2:Nat×Obj:=(b4,O (Expr.cells y1 r2) 66)
    refine cS (L':=([z2,z1])++markB rs1) ap ?_
    refine kb (it:=v3) (xs:=(aY y1 1)) (ι:=HF) rs1 (fun i=>i) (fun i=>[z2,z1]) (fun s i=>bV p=((bV.L3 p ((bV.L1 p (bV.K1) rz1))) s)∧HF.le h3 i) (fun _=>False) (fun _=>False) 0 (fun ch _ _=>∃ pv_,ch=[{ v:=stopV pv_,recovered:=false }]∧bV p=.error pv_) h3 Fm U mo2 U lY (fun _ _ _ _ _ hq=>hq) U (show [z2,z1]=_ from U) ⟨hs4,lf⟩ ?_ ?_ ?_ ?_ ?_
    ·rintro l3 dm3 lp3 y3 rz3 vs3 hh3 hr3 X hFR3 ⟨hs6,hl3⟩ hl03 hlr3 hv3 hX hXM hlp3 nx3 rt3 ex3 pn3
     obtain ⟨rr3_0,rfl,ok3_0⟩:=hv3
     let z3:Nat×Obj:=(dm3,.deferred (some []))
     refine cS (L':=[(l3,.loop lp3),z3,z2,z1]++(markB rs1)) ap (bh (bG zc258 (fun b6=>bC 0 ty258 U U U U U U (aN (kc 1 U hlp3 (qK 3 [] U (cM 0 ty66 U U U (ah call220 (lQ _ _ _ ok3_0.x) U (qO 2 U (cf 7 [33,34,35,36,37,38,39,40] 33 40 (cq p.Offices y3.x.Name) U (fun c3 hk3=>?_) (fun e=>?_)))))))))))
     ·exact qL 5 [4,0] U (ah call246 (oT _ _ _ _ y3.x.Name (hp.Offices.mono Rp.gm ((((hle1.t hl1).t hle3).t hl3).t hlr3))) U (ew U (hk3 _ U)))
     refine az (kW tD (fZ hr3 ((!(cA y3.x))||(cq p.Offices y3.x.Name)) 201) U (fun u2 hu2=>?_) (fun pv2 hpv2 e=>?_))
     ·obtain ⟨rx2,hrx2,rfl⟩:=mU hu2
      have hs7:=hs6.trans (mT hrx2)
      cases rx2
      exact aN (e8 (bY (L':=[(l3,.loop { lp3 with state:=.busy }),z3,z2,z1]++(markB rs1)) js (cS (L':=rdH l3 dm3 lp3 (([z2,z1])++markB rs1)) ap (nx3 hr3 _ _ ⟨hs7,(hl3.t hlr3)⟩ lf))))
     ·obtain ⟨pv2e,hpv2e,rfl⟩:=lb hpv2
      have hs8:=hs6.trans (la hpv2e)
      exact ue (L':=[(l3,.loop { lp3 with state:=.busy }),z3]++(markB rs1)) js (pn3 _ _ _ [] ⟨_,U,hs8⟩)
    ·rintro dm3 hh3 hn3 ⟨hs9,hl3⟩ hln3 hl03
     exact cS (L':=[z2,z1]++(markB (dm3::rs1))) ap (qT 3 U (ae (v':=I (((i1+1):Nat):Int)) U (aL ob) (qO 2 U (bY (L':=[z1]++(markB (dm3::rs1))) js (ag1 ((i1+1),(dm3::rs1),hn3,rz1) _ (Nat.lt_succ_self _) ⟨mX hd1,j2 hd1,hs9,(((hl1.t hle3).t hl3).t hln3)⟩ rd)))))
    ·exact xf
    ·exact xf
    ·rintro dm3 ch hn3 L0 ⟨pv_,rfl,hpv_⟩ hl03
     exact md (dm3::rs1) Fm hX (congrArg (exW stopV (fun r:Unit=>(.tuple #[]:Value))) hpv_)
 ·obtain ⟨pv1e,hpv1e,rfl⟩:=lb hpv1
  have hs10:=hs0.trans (la hpv1e)
  exact ja (md [] Fm hX (congrArg (exW stopV (fun r:Unit=>(.tuple #[]:Value))) hs10))
theorem fL (h:HF) (dK:Int) (low:Int) (high:Int)  : Ret prog 103 [I dK,I low,I high] h (.bool (aH dK low high)):=by
 refine sT func103 U ntmps103 U fun X hM hX hF=>?_
 have hs0:aH dK low high=aH dK low high:=rfl
 refine qT 10 U (bz 4 [10,11,12,13,14] 10 14 (decide (dK≤high)) U (fun c1 hk1=>?_) (fun e=>?_))
 ·exact aj (qO 3 U (hk1 _ U))
 exact an (nretP [.bool (decide (low≤dK)&&decide (dK≤high))] (cs hs0))
theorem Gj {n a b:Int} (h:aH n a b=true):a≤n∧n≤b:=by simpa [aH] using h
theorem tj (h:HF) (x0:Expr) (Kw:ce) (hx0:Expr.ok h x0 Kw):Ret prog 299 [.agg (Expr.cells x0 Kw).toArray] h (.bool (lK x0)):=by
 refine sT func299 U ntmps299 U fun X hM hX hF=>?_
 have hs0:lK x0=lK x0:=rfl
 exact sr (cy (fun b1=>qO 6 U (nretP [.bool false] (cs hs0))))
theorem th (h:HF) (x:Expr) (eQ:ce) (hx:Expr.ok h x eQ):Ret prog 300 [.agg (Expr.cells x eQ).toArray] h (.bool (ir x)):=by
 refine sT func300 U ntmps300 U fun X hM hX hF=>?_
 have hs0:ir x=ir x:=rfl
 refine sr (cy (fun b1=>qL 8 [0] U (bz 5 [6,7,8,9,10,11] 6 11 ((x.L.length:Int)==0) U (fun c1 hk1=>?_) (fun e=>?_))))
 ·exact qL 5 [0] U (hk1 _ U)
 exact an (nretP [.bool ((x.N==0)&&((x.L.length:Int)==0))] (cs hs0))
theorem tg (h:HF) (x:Expr) (eQ:ce) (hx:Expr.ok h x eQ):Ret prog 301 [.agg (Expr.cells x eQ).toArray] h (.bool (iq x)):=by
 refine sT func301 U ntmps301 U fun X hM hX hF=>?_
 have hs0:iq x=iq x:=rfl
 refine sr (cy (fun b1=>qL 6 [0] U (ah uQ (fL h x.N 1 4096) U (aj (bz 5 [6,7,8,9,10,11] 6 11 ((x.L.length:Int)==0) U (fun c1 hk1=>?_) (fun e=>?_))))))
 ·exact qL 5 [0] U (hk1 _ U)
 exact an (nretP [.bool ((aH x.N 1 4096)&&((x.L.length:Int)==0))] (cs hs0))
theorem te (h:HF) (x:Expr) (eQ:ce) (hx:Expr.ok h x eQ):Ret prog 302 [.agg (Expr.cells x eQ).toArray] h (.bool (ip x)):=by
 refine sT func302 U ntmps302 U fun X hM hX hF=>?_
 have hs0:ip x=ip x:=rfl
 refine sr (cy (fun b1=>qL 8 [0] U (bz 5 [6,7,8,9,10,11] 6 11 (aH (x.L.length:Int) 1 16) U (fun c1 hk1=>?_) (fun e=>?_))))
 ·exact qL 3 [0] U (ah uQ (fL h (x.L.length:Int) 1 16) U (ew U (hk1 _ U)))
 refine aj (bz 7 [12,13,14,15,16,17,18,19] 12 19 (aH x.N 1 (x.L.length:Int)) U (fun c2 hk2=>?_) (fun e=>?_))
 ·exact qL 5 [0,0] U (ah uQ (fL h x.N 1 (x.L.length:Int)) U (ew U (hk2 _ U)))
 exact an (nretP [.bool (((x.Name.toList==(⟨#[]⟩:ByteArray).toList)&&(aH (x.L.length:Int) 1 16))&&(aH x.N 1 (x.L.length:Int)))] (cs hs0))
theorem td (h:HF) (x:Expr) (eQ:ce) (hx:Expr.ok h x eQ):Ret prog 303 [.agg (Expr.cells x eQ).toArray] h (.bool (gQ x)):=by
 refine sT func303 U ntmps303 U fun X hM hX hF=>?_
 have hs0:gQ x=gQ x:=rfl
 refine sr (cy (fun b1=>qL 8 [0] U (bz 5 [6,7,8,9,10,11] 6 11 ((x.L.length:Int)==2) U (fun c1 hk1=>?_) (fun e=>?_))))
 ·exact qL 5 [0] U (hk1 _ U)
 refine aj (bz 4 [12,13,14,15,16] 12 16 (aH x.N 0 1099511627776) U (fun c2 hk2=>?_) (fun e=>?_))
 ·exact qL 2 [0] U (ah uQ (fL h x.N 0 1099511627776) U (ew U (hk2 _ U)))
 exact an (nretP [.bool (((x.Name.toList==(⟨#[]⟩:ByteArray).toList)&&((x.L.length:Int)==2))&&(aH x.N 0 1099511627776))] (cs hs0))
theorem EX (h:HF) (i:Int) (hi:0≤i∧i < 5) (x:Expr) (eQ:ce) (hx:Expr.ok h x eQ):wH prog (kfun i) [.agg (Expr.cells x eQ).toArray] h [] (.bool (kindsP i x)):=by
 have:i=0∨i=1∨i=2∨i=3∨i=4:=by omega
 rcases this with rfl | rfl | rfl | rfl | rfl
 ·exact i0 (cap:=[]) call299 (tj h x eQ hx)
 ·exact i0 (cap:=[]) call300 (th h x eQ hx)
 ·exact i0 (cap:=[]) call301 (tg h x eQ hx)
 ·exact i0 (cap:=[]) call302 (te h x eQ hx)
 ·exact i0 (cap:=[]) call303 (td h x eQ hx)
end Go.Sg
namespace Go.Sg
open Go.Proofs Go.Proofs.Tryz
section runs
variable {P:Program} {e:Env} {X:Cx} {h:HF} {L:LH} {d:Option Nat} {ty:TypeId} {pos:String} {af:Array Edge} {g:Option (Nat×Bool)}
theorem Jd {t u:TypeId} {x:Operand} (hT:∃ ms,P.underlying t=some (.interface ms)) (hx:e.ev x=.nilIface):∀ w,St X h L w→(execOp e.ev ⟨d,.binOp .neq t x (.const .nilIface) u,ty,pos,af,g⟩).run P w=.ok (.value (.bool false)) w:=
 fun w _=>by
  obtain ⟨ms,hT⟩:=hT
  have hc:e.ev (.const .nilIface)=.nilIface:=rfl
  have he:(Op.equal t .nilIface .nilIface).run P w=.ok true w:=by
   rw [Op.equal,Op.maxDepth,show (10000:Nat)=9999+1 from rfl,Op.equalIn];simp [run_underlying hT]
  simp [execOp,hx,hc,eqGuard,binOp,he]
theorem Jc {t u:TypeId} {x:Operand} {T:TypeId} {v:Value} (hT:∃ ms,P.underlying t=some (.interface ms)) (hx:e.ev x=.iface T v):∀ w,St X h L w→(execOp e.ev ⟨d,.binOp .neq t x (.const .nilIface) u,ty,pos,af,g⟩).run P w=.ok (.value (.bool true)) w:=
 fun w _=>by
  obtain ⟨ms,hT⟩:=hT
  have hc:e.ev (.const .nilIface)=.nilIface:=rfl
  have he:(Op.equal t (.iface T v) .nilIface).run P w=.ok false w:=by
   rw [Op.equal,Op.maxDepth,show (10000:Nat)=9999+1 from rfl,Op.equalIn];simp [run_underlying hT]
  simp [execOp,hx,hc,eqGuard,binOp,he]
theorem Gu {x:Operand} {xt T:TypeId} {fs:Array Field} {v:Value} (hT:P.underlying T=some (.struct fs)) (hx:e.ev x=.iface T v):∀ w,St X h L w→(execOp e.ev ⟨d,.typeAssert x xt T true,ty,pos,af,g⟩).run P w=.ok (.value (.tuple #[v,.bool true])) w:=
 fun w _=>by simp [execOp,hx,Instr.typeAssert,run_underlying hT]
end runs
def bodyOf (f:Func):Code:=f.body.getD .skip
theorem EM {P:Program} {e:Env} {d:Option Nat} {ty:TypeId} {pos:String} {af:Array Edge} {g:Option (Nat×Bool)} {t:Nat} {fv:Value} {ats:Array TypeId} (hf:e t=fv) (w:World):
  (execOp e.ev ⟨d,.call ⟨.value (.tmp t),#[],ats⟩,ty,pos,af,g⟩).run P w=(do let d ← Deferred.ofValue fv #[];invoke d.target d.args:Sem Next).run P w:=by
 subst hf;simp [execOp,resolve,Env.ev]
theorem AL (h:HF) (b1:Nat) (X':Cx):TT prog (deferFrame 241) 17 [.code (bodyOf Tryz.f241)] (GN prog X' .returning (fun h' B=>h'=h∧B=[(b1,Obj.cells (List.toArray [.int .i64 0]) 35 (0,0))])) (envArgs [.pointer (some ⟨b1,0,none⟩)]) [] X' h [(b1,Obj.cells (List.toArray [.int .i64 0]) 35 (0,0))]:=by
 refine dB (bh (?_))
 refine C0 (fun cs Φ ⟨c,rest,hcs,hm,_⟩=>by subst hcs;simp [recoverD,hm]) ?_
 refine fj (aN (dB (bh (aj (az (fy (Jd ⟨_,underlying20⟩ rfl) (aN (?_))))))))
 exact lg rfl (aG (Hs Hh rfl ⟨rfl,rfl⟩))
theorem AM (h:HF) (b1:Nat) (ee:Int) (X':Cx):TT prog (deferFrame 241) 17 [.code (bodyOf Tryz.f241)]
  (fun cs Φ=>∃ c rest,cs=c::rest∧c.mode=.panicking [{ v:=stopV ee,recovered:=false }]∧GN prog X' (.panicking [{ v:=stopV ee,recovered:=true }]) (fun h' B=>h'=h∧∃ B0,B=B0++[(b1,Obj.cells (List.toArray [.int .i64 ee]) 35 (0,0))]) ({ c with mode:=(.panicking [{ v:=stopV ee,recovered:=true }]) }::rest) Φ)
  (envArgs [.pointer (some ⟨b1,0,none⟩)]) [] X' h [(b1,Obj.cells (List.toArray [.int .i64 0]) 35 (0,0))]:=by
 refine dB (bh (?_))
 refine EG (F':=GN prog X' (.panicking [{ v:=stopV ee,recovered:=true }]) (fun h' B=>h'=h∧∃ B0,B=B0++[(b1,Obj.cells (List.toArray [.int .i64 ee]) 35 (0,0))])) (stopV ee) (fun cs Φ ⟨c,rest,hcs,hm,hF⟩=>⟨_,by subst hcs;simp [recoverD,hm],hF⟩) ?_
 refine fj (aN (dB (bh (aj (az (fy (Jc ⟨_,underlying20⟩ rfl) (aN (?_))))))))
 refine lU rfl (dB (bh (aj (az (fy (Gu underlying277 rfl) (aj (kj rfl rfl (kj rfl rfl (bG zc277 (fun b2=>?_))))))))))
 refine bC 0 ty277 rfl rfl rfl rfl rfl rfl (fj (aN (?_)))
 refine dB (dB (bh (aj (lX rfl (aN (?_))))))
 refine lg rfl (aG (?_))
 refine bh (HX Ix rfl (?_))
 refine DA 0 ty35 rfl rfl rfl (?_)
 refine dw 1 ty35 rfl rfl rfl rfl rfl rfl (aN (?_))
 exact Hs Hh rfl ⟨rfl,[(b2,_)],rfl⟩
theorem tl (h:HF) (fv:Value) (x:Except Int Unit) (hf:ld prog fv #[] h [] (XR (exW stopV (fun _:Unit=>.tuple #[]) x) h)):Ret prog 213 [fv] h (.int .i64 (attR x)):=by
 refine cT func213 rfl ntmps213 rfl fun X hM hX=>?_
 refine dB (bh (bG zc35 (fun b1=>aN (dB (bh (az (fX rfl rfl (Hq rfl rfl (aN (dB (bh (aj (?_)))))))))))))
 have fin:∀ (r:Int) (B:LH),attR x=r→(∃ B0,B=B0++[(b1,Obj.cells (List.toArray [.int .i64 r]) 35 (0,0))])→∀ (e:Env),e 2=.pointer (some ⟨b1,0,none⟩)→∀ a:Act,envOf a=e→∀ w,St X h (B++[]) w →
   ∃ v h2 B2,(results Tryz.f213 a.tmps).run prog w=.ok v w∧St X h2 B2 w∧v=.int .i64 (attR x)∧h2=h∧B2=[]:=by
  rintro r B hr ⟨B0,rfl⟩ e he a ha w hw
  have hw':=hw.sub (L':=[(b1,Obj.cells (List.toArray [.int .i64 r]) 35 (0,0))]) (by simp)
  exact ⟨_,h,[],qv (rs:=[.cell 2 35]) (vs:=[.int .i64 r]) rfl ⟨⟨0,b1,[.int .i64 r],35,(0,0),rfl,he,.inr ⟨_,ty35,rfl⟩⟩,trivial⟩ a ha w hw',hw'.sub (List.nil_sublist _),by rw [hr];rfl,rfl,rfl⟩
 refine FD rfl (by decide) rfl rfl (fun w hw=>?_)
 have hpre:Pre h [] w:=(hw.sub (List.nil_sublist _)).pre
 obtain ⟨nx,hrun,hcall⟩:=hf w hpre
 refine ⟨nx,w,?_,hcall.mono ?_⟩
 ·rw [← hrun];exact EM rfl w
 rintro y w' ⟨h',B,hst,rfl,rfl,hv⟩
 have hw2:=St.after (A:=[]) (B:=[]) (F:=[(b1,Obj.cells (List.toArray [.int .i64 0]) 35 (0,0))]) hw hst
 cases y with
 | outgrown=>trivial
 | returned v=>
  refine ⟨h',_,hw2,?_⟩
  have hx:∃ u,x=.ok u:=by cases x with
   | ok u=>exact ⟨u,rfl⟩
   | error p=>simp [exW] at hv
  obtain ⟨u,rfl⟩:=hx
  refine aN (dB (bh (dw 0 ty35 rfl rfl rfl rfl rfl rfl (aN (?_)))))
  refine IW (c:=bodyOf Tryz.f241) (cap:=[.pointer (some ⟨b1,0,none⟩)]) (A:=[(b1,Obj.cells (List.toArray [.int .i64 0]) 35 (0,0))]) (R':=fun h'' B=>h''=h'∧B=[(b1,Obj.cells (List.toArray [.int .i64 0]) 35 (0,0))]) func213 Hh rfl ntmps241 rfl call241 (fun X' _=>AL h' b1 X') (Fr:=[]) rfl ?_
  rintro h'' B _ ⟨rfl,rfl⟩ a ha w hw
  obtain ⟨v,h2,B2,h3,h4,rfl,rfl,rfl⟩:=fin 0 _ rfl ⟨[],rfl⟩ _ rfl a ha w hw
  exact ⟨_,_,_,h3,h4,rfl,rfl,rfl⟩
 | panicked ch=>
  refine ⟨h',_,hw2,?_⟩
  have hx:∃ ee,x=.error ee:=by cases x with
   | ok u=>simp [exW] at hv
   | error p=>exact ⟨p,rfl⟩
  obtain ⟨ee,rfl⟩:=hx
  simp only [exW] at hv
  cases hv
  refine I0 (c:=bodyOf Tryz.f241) (cap:=[.pointer (some ⟨b1,0,none⟩)]) (A:=[(b1,Obj.cells (List.toArray [.int .i64 0]) 35 (0,0))]) (R':=fun h'' B=>h''=h'∧∃ B0,B=B0++[(b1,Obj.cells (List.toArray [.int .i64 ee]) 35 (0,0))]) func213 Hh rfl ntmps241 rfl call241 (fun X' _=>AM h' b1 ee X') (Fr:=[]) rfl ?_
  rintro h'' B _ ⟨rfl,hB⟩ a ha w hw
  obtain ⟨v,h2,B2,h3,h4,rfl,rfl,rfl⟩:=fin ee _ rfl hB _ rfl a ha w hw
  exact ⟨_,_,_,h3,h4,rfl,rfl,rfl⟩
end Go.Sg
namespace Go.Sg
open Go.Proofs Go.Proofs.Tryz
set_option maxHeartbeats 2000000
theorem wh (h:HF) (p:Policy) (gq:dY) (hp:Policy.ok h p gq) (hsm:smP p) (hk:Kinds h):GK prog 217 [.agg (Policy.cells p gq).toArray] h (exW stopV (fun r:Unit=>(.tuple #[]:Value)) (aX p)):=by
 refine cT AT U ntmps217 U fun X hM hX=>?_
 have hs0:aX p=aX p:=rfl
 have hsr:=hsm.rules
 refine sr (cy (fun b1=>qL 8 [0] U (bz 8 [12,13,14,15,16,17,18,19,20] 12 20 ((p.Rules.length:Int)==(p.Kinds.length:Int)) U (fun c1 hk1=>?_) (fun e=>?_))))
 ·exact qL 8 [0,0] U (hk1 _ U)
 refine aj (bz 4 [21,22,23,24,25] 21 25 (aH p.Mode 1 4) U (fun c2 hk2=>?_) (fun e=>?_))
 ·exact qL 2 [0] U (ah uQ (fL h p.Mode 1 4) U (ew U (hk2 _ U)))
 refine az (kW tD (fZ h ((decide (0 < (p.Kinds.length:Int))&&((p.Rules.length:Int)==(p.Kinds.length:Int)))&&(aH p.Mode 1 4)) 200) U (fun u1 hu1=>?_) (fun pv1 hpv1 e=>?_))
 ·obtain ⟨rx1,hrx1,rfl⟩:=mU hu1
  have hs1:=hs0.trans (mT hrx1)
  cases rx1
  refine qL 9 [0] U ?_
  let z2:Nat×Obj:=(b1,O (Policy.cells p gq) 68)
  refine lp0 p.Rules (fun i=>[(1,Q b1),(28,.slice gq.ka p.Rules.length gq.j9),(29,I (p.Rules.length:Int)),(30,I (i:Int))]) ([z2]) (fun s1 i=>(aX.L1 p (aX.K1 p)) s1 i) hp.Rules.1.1 hs1 ?_ ?_
  ·rintro i1 eR hs2 e
   refine sr (cM 0 ty68 U U U (az (cg call243 (ki _ _ _ hp ob) U (fun v1 h1 hle1 hp1=>?_))))
   obtain ⟨rb1,rc1,rfl,sl1⟩:=hp1
   refine bG zc64 (fun b3=>dw 0 ty64 U U U U U U (qL 7 [0] U (gl ?_)))
   let z1:Nat×Obj:=(b3,O [.slice rb1 ((ai p).length) rc1] 64)
   refine cS (L':=[z1,z2]++(markB [])) ap ?_
   refine qk (ι:=Nat×List Nat×HF) (fun i=>[]) (fun i=>marks i.2.1) (fun i=>i.2.2) (fun i=>[z1,z2]++(markB i.2.1)) (fun i=>i.1≤(ai p).length∧aX p=((aX.K2))∧HF.le h1 i.2.2) ?_ (fun hx2=>?_)
   ·rintro ⟨i2,rs2,hh2⟩ ⟨uA,hs3,hl2⟩ e
    have hs4:aX p=(Except.ok ()):=hs3
    exact cS (L':=([z1,z2])++markB rs2) ap (uV rs2 [] AT U hX trivial (congrArg (exW stopV (fun r:Unit=>(.tuple #[]:Value))) hs4))
   ·refine uU (ι:=Nat×List Nat×HF×List Expr) (fun i=>[(4,Q b3),(52,.slice rb1 ((ai p).length) rc1),(53,I ((ai p).length:Int)),(54,I (i.1:Int))]) (fun i=>marks i.2.1) (fun i=>i.2.2.1) (fun i=>[z1,z2]++(markB i.2.1)) (fun i=>(ai p).drop i.1=i.2.2.2∧i.1≤(ai p).length∧aX p=((aX.L2 p (aX.K2)) i.2.2.2 i.1)∧HF.le h1 i.2.2.1) (fun i=>i.2.2.2.length) (0,[],h1,(ai p)) U rd sw ⟨U,Nat.zero_le _,hs2,lf⟩ ?_
    rintro ⟨i2,rs2,hh2,s2⟩ ⟨hd2,uA,hs5,hl2⟩ ag1 e
    rcases s2 with _ | ⟨y2,rz2⟩
    ·have xL:=pH hd2
     exact sr (ae (v':=.bool false) U (cb xL) (qO 4 U (hx2 (i2,rs2,hh2) _ ⟨uA,hs5,hl2⟩ trivial)))
    ·have nE:=tU hd2
     have jq:=uI hd2
     have tO:=j2 hd2
     have Cv:=sl1.1.1
     try have hsy:=vy hsm (fA hd2)
     refine sr (ae (v':=.bool true) U (cb nE) (qO 9 U (az (dU jh ty66 (sl1.mono Expr.ak hl2).1 (nthZ jq) (au jq) U U U (fun _ _ _ e=>e) (fun q4 r3 A5 ok3=>dg ty66 A5 U U (bG zc3 (fun b7=>bG zc66 (fun b8=>dw 1 ty3 U U U U U U (bC 0 ty66 U U U U U U (qO 3 U (cM 0 ty66 U U U (az (cg Fp (kX _ _ _ 1 ok3 ob) U (fun v3 h3 hle3 hp3=>?_))))))))))))))
     obtain ⟨_,rfl,mo2⟩:=hp3
     refine qO 2 U ?_
     let z3:Nat×Obj:=(b7,O [I (i2:Int)] 3)
     let z5:Nat×Obj:=(b8,O (Expr.cells y2 r3) 66)
     refine cS (L':=([z5,z3,z1,z2])++markB rs2) ap ?_
     refine kb (it:=v3) (xs:=(aY y2 1)) (ι:=HF) rs2 (fun i=>i) (fun i=>[z5,z3,z1,z2]) (fun s i=>aX p=((aX.L4 p i2 ((aX.L2 p (aX.K2) rz2 (i2+1)))) s)∧HF.le h3 i) (fun _=>False) (fun _=>False) 0 (fun ch _ _=>∃ pv_,ch=[{ v:=stopV pv_,recovered:=false }]∧aX p=.error pv_) h3 AT U mo2 U lY (fun _ _ _ _ _ hq=>hq) U (show [z5,z3,z1,z2]=_ from U) ⟨hs5,lf⟩ ?_ ?_ ?_ ?_ ?_
     ·rintro l4 dm4 lp4 y4 rz4 vs4 hh4 hr4 X hFR4 ⟨hs7,hl4⟩ hl04 hlr4 hv4 hX hXM hlp4 nx4 rt4 ex4 pn4
      obtain ⟨rr4_0,rfl,ok4_0⟩:=hv4
      let z6:Nat×Obj:=(dm4,.deferred (some []))
      refine cS (L':=[(l4,.loop lp4),z6,z5,z3,z1,z2]++(markB rs2)) ap (bh (bG zc258 (fun b10=>bC 0 ty258 U U U U U U (aN (kc 1 U hlp4 (qT 2 U ?_))))))
      let z4:Nat×Obj:=(l4,.loop { lp4 with state:=.busy })
      let z8:Nat×Obj:=(b10,O (fB.cells y4 rr4_0) 258)
      refine eA ([z8,z4,z6,z5,z3,z1,z2]) mixed kr jn (fun cI _=>?_)
      refine qB [0,1] U (tf 2 U U (fun _ _ hj=>fw ty3 U (hj.nth (i:=0) U) U) (tn 3 U (eO uQ (fL hr4 y4.x.Kind 1 4) U (⟨jn,tm 4 U ?_⟩))))
      refine ct 66 U (fun c3=>?_) (fun c3=>?_)
      ·refine qB [5,6] U (tf 7 U U (fun _ _ hj=>fw ty3 U (hj.nth (i:=0) U) U) ?_)
       have ho4:0≤(y4.x.Kind:Int)∧(y4.x.Kind:Int) < 5:=(by have:=Gj ob;omega)
       have A7:=(hk.mono ((((hle1.t hl2).t hle3).t hl4).t hlr4)).at ho4
       refine tf 8 U U (fun _ _ _=>HK underlying284 ty165 U U ho4) (tf 9 U U (fun _ _ hj=>eL ty165 (A7.mono hj.1) U) (qB [10] U (tf 11 U U (fun _ _ hj=>jA ty66 U (hj.nth (i:=0) U) U) (tn 12 U (nQ (v:=.bool (kindsP y4.x.Kind y4.x)) [] (List.nil_sublist _) (EX hr4 y4.x.Kind ho4 y4.x rr4_0.x ok4_0.x) U U (⟨jn,tf 13 U U (fun _ _ _=>sN U (cb (show (kindsP y4.x.Kind y4.x)=((aH y4.x.Kind 1 4)&&(kindsP y4.x.Kind y4.x)) from by first | (rw [c3];rfl) | (rw [c3];rfl) | simp [c3]))) ?_⟩))))))
       refine tn 14 U (kW tD (fZ hr4 ((aH y4.x.Kind 1 4)&&(kindsP y4.x.Kind y4.x)) 200) U (fun u2 hu2=>?_) (fun pv2 hpv2 e=>?_))
       ·obtain ⟨rx2,hrx2,rfl⟩:=mU hu2
        have hs8:=hs7.trans (mT hrx2)
        cases rx2
        refine ⟨jn,aI kr (qK 7 [4,5] U (cf 5 [82,83,84,85,86,87] 82 87 (y4.x.Kind != 4) U (fun c4 hk3=>?_) (fun e=>?_)))⟩
        ·exact qL 5 [0] U (hk3 _ U)
        refine az (kW tD (fZ hr4 (decide ((i2:Int) < (IntKind.wrap .i64 (((ai p).length:Int) - 1)))||(y4.x.Kind != 4)) 200) U (fun u3 hu3=>?_) (fun pv3 hpv3 e=>?_))
        ·obtain ⟨rx3,hrx3,rfl⟩:=mU hu3
         have hs9:=hs8.trans (mT hrx3)
         cases rx3
         exact aN (e8 (bY (L':=[z4,z6,z5,z3,z1,z2]++(markB rs2)) js (cS (L':=rdH l4 dm4 lp4 (([z5,z3,z1,z2])++markB rs2)) ap (nx4 hr4 _ _ ⟨hs9,(hl4.t hlr4)⟩ lf))))
        ·obtain ⟨pv3e,hpv3e,rfl⟩:=lb hpv3
         have hs10:=hs8.trans (la hpv3e)
         exact ue (L':=[z4,z6]++(markB rs2)) js (pn4 _ _ _ [] ⟨_,U,hs10⟩)
       ·obtain ⟨pv2e,hpv2e,rfl⟩:=lb hpv2
        have hs11:=hs7.trans (la hpv2e)
        exact ue (L':=[z4,z6]++(markB rs2)) js (pn4 _ _ _ [] ⟨_,U,hs11⟩)
      ·refine qR 5 8 U (tf 13 U U (fun _ _ _=>sN U (cb (show false=((aH y4.x.Kind 1 4)&&(kindsP y4.x.Kind y4.x)) from by first | (rw [c3];rfl) | (rw [c3];rfl) | simp [c3]))) ?_)
       refine tn 14 U (kW tD (fZ hr4 ((aH y4.x.Kind 1 4)&&(kindsP y4.x.Kind y4.x)) 200) U (fun u4 hu4=>?_) (fun pv4 hpv4 e=>?_))
       ·obtain ⟨rx4,hrx4,rfl⟩:=mU hu4
        have hs12:=hs7.trans (mT hrx4)
        cases rx4
        refine ⟨jn,aI kr (qK 7 [4,5] U (cf 5 [82,83,84,85,86,87] 82 87 (y4.x.Kind != 4) U (fun c5 hk4=>?_) (fun e=>?_)))⟩
        ·exact qL 5 [0] U (hk4 _ U)
        refine az (kW tD (fZ hr4 (decide ((i2:Int) < (IntKind.wrap .i64 (((ai p).length:Int) - 1)))||(y4.x.Kind != 4)) 200) U (fun u5 hu5=>?_) (fun pv5 hpv5 e=>?_))
        ·obtain ⟨rx5,hrx5,rfl⟩:=mU hu5
         have hs13:=hs12.trans (mT hrx5)
         cases rx5
         exact aN (e8 (bY (L':=[z4,z6,z5,z3,z1,z2]++(markB rs2)) js (cS (L':=rdH l4 dm4 lp4 (([z5,z3,z1,z2])++markB rs2)) ap (nx4 hr4 _ _ ⟨hs13,(hl4.t hlr4)⟩ lf))))
        ·obtain ⟨pv5e,hpv5e,rfl⟩:=lb hpv5
         have hs14:=hs12.trans (la hpv5e)
         exact ue (L':=[z4,z6]++(markB rs2)) js (pn4 _ _ _ [] ⟨_,U,hs14⟩)
       ·obtain ⟨pv4e,hpv4e,rfl⟩:=lb hpv4
        have hs15:=hs7.trans (la hpv4e)
        exact ue (L':=[z4,z6]++(markB rs2)) js (pn4 _ _ _ [] ⟨_,U,hs15⟩)
     ·rintro dm4 hh4 hn4 ⟨hs16,hl4⟩ hln4 hl04
      exact cS (L':=[z5,z3,z1,z2]++(markB (dm4::rs2))) ap (qT 3 U (ae (v':=I (((i2+1):Nat):Int)) U (aL ob) (qO 2 U (bY (L':=[z1,z2]++(markB (dm4::rs2))) js (ag1 ((i2+1),(dm4::rs2),hn4,rz2) _ (Nat.lt_succ_self _) ⟨mX hd2,j2 hd2,hs16,(((hl2.t hle3).t hl4).t hln4)⟩ rd)))))
     ·exact xf
     ·exact xf
     ·rintro dm4 ch hn4 L0 ⟨pv_,rfl,hpv_⟩ hl04
      exact md (dm4::rs2) AT hX (congrArg (exW stopV (fun r:Unit=>(.tuple #[]:Value))) hpv_)
  ·rintro i1 y1 rz1 hd1 cz ar dF fF hs17 hx1 ag2 e
   try have hsy:=vy hsm (fA hd1)
   refine sr (ae (v':=.bool true) U (cb cz) (qO 9 U (az (dU nO ty107 hp.Rules.1 (nthZ ar) (au ar) U U U (fun _ _ _ e=>e) (fun q5 r4 A8 ok4=>dg ty107 A8 U U (bG zc107 (fun b11=>fj (bC 0 ty107 U U U U U U (aN ?_)))))))))
   let z7:Nat×Obj:=(b11,O (Rule.cells y1 r4) 107)
   refine eA ([z7,z2]) mixed kr jn (fun nK _=>?_)
   refine qB [0] U (tf 1 U U (fun _ _ hj=>fw ty9 U (hj.nth (i:=0) U) U) (qB [2] U (tf 3 U U (fun _ _ hj=>fw ty62 U (hj.nth (i:=1) U) U) (tm 4 U ?_))))
   have ho5:0≤((i1:Int):Int)∧((i1:Int):Int) < ((p.Kinds).length:Int):=(by have hm:=GA hrx1;simp only [decide_eq_true_eq,decide_eq_false_iff_not,Bool.and_eq_true,Bool.or_eq_true,Bool.not_eq_true',Bool.not_eq_false',Bool.and_eq_false_iff,Bool.or_eq_false_iff,beq_iff_eq,beq_eq_false_iff_ne,bne_iff_ne,bne_eq_false_iff_eq,List.length_append,List.length_cons,List.length_nil,List.length_drop] at hm;omega)
   refine cC 5 (enc:=fun y=>[.string y]) nK jn ei pK ty9 hp.Kinds.1 ho5 (bJ ho5) U U U U kr (fun q6 A9=>tf 6 U U (fun _ _ hj=>eL ty9 (A9.mono hj.1) U) (qA [7,8] U ?_))
   refine ct 43 U (fun c6=>?_) (fun c6=>?_)
   ·refine qB [9] U (tf 10 U U (fun _ _ hj=>fw ty3 U (hj.nth (i:=0) U) U) (tn 11 U (eO uQ (fL h y1.Think 0 1099511627775) U (⟨jn,tf 12 U U (fun _ _ _=>sN U (cb (show (aH y1.Think 0 1099511627775)=((y1.Kind.toList==(nthI p.Kinds (i1:Int)).toList)&&(aH y1.Think 0 1099511627775)) from by first | (rw [c6];rfl) | (rw [c6];rfl) | simp [c6]))) ?_⟩))))
    refine tn 13 U (kW tD (fZ h ((y1.Kind.toList==(nthI p.Kinds (i1:Int)).toList)&&(aH y1.Think 0 1099511627775)) 200) U (fun u6 hu6=>?_) (fun pv6 hpv6 e=>?_))
    ·obtain ⟨rx6,hrx6,rfl⟩:=mU hu6
     have hs18:=hs17.trans (mT hrx6)
     cases rx6
     exact ⟨jn,(aI kr (qT 2 U (ae (v':=I (((i1+1):Nat):Int)) U (aL ob) (qO 2 U (bY (L':=[z2]) js (ag2 hs18))))))⟩
    ·obtain ⟨pv6e,hpv6e,rfl⟩:=lb hpv6
     have hs19:=hs17.trans (la hpv6e)
     exact ja (md [] AT hX (congrArg (exW stopV (fun r:Unit=>(.tuple #[]:Value))) hs19))
   ·refine qR 9 3 U (tf 12 U U (fun _ _ _=>sN U (cb (show false=((y1.Kind.toList==(nthI p.Kinds (i1:Int)).toList)&&(aH y1.Think 0 1099511627775)) from by first | (rw [c6];rfl) | (rw [c6];rfl) | simp [c6]))) ?_)
    refine tn 13 U (kW tD (fZ h ((y1.Kind.toList==(nthI p.Kinds (i1:Int)).toList)&&(aH y1.Think 0 1099511627775)) 200) U (fun u7 hu7=>?_) (fun pv7 hpv7 e=>?_))
    ·obtain ⟨rx7,hrx7,rfl⟩:=mU hu7
     have hs20:=hs17.trans (mT hrx7)
     cases rx7
     exact ⟨jn,(aI kr (qT 2 U (ae (v':=I (((i1+1):Nat):Int)) U (aL ob) (qO 2 U (bY (L':=[z2]) js (ag2 hs20))))))⟩
    ·obtain ⟨pv7e,hpv7e,rfl⟩:=lb hpv7
     have hs21:=hs17.trans (la hpv7e)
     exact ja (md [] AT hX (congrArg (exW stopV (fun r:Unit=>(.tuple #[]:Value))) hs21))
 ·obtain ⟨pv1e,hpv1e,rfl⟩:=lb hpv1
  have hs22:=hs0.trans (la hpv1e)
  exact ja (md [] AT hX (congrArg (exW stopV (fun r:Unit=>(.tuple #[]:Value))) hs22))
theorem rm (h:HF) (p:Policy) (gq:dY) (p_q:Addr) (hp:Policy.ok h p gq) (ap:At h p_q (Policy.cells p gq)) (hsm:smP p) (hk:Kinds h):GK prog 214 [.pointer (some p_q)] h (exW stopV (fun r:Unit=>(.tuple #[]:Value)) (cK p)):=by
 refine cT Fl U ntmps214 U fun X hM hX=>?_
 have hs0:cK p=cK p:=rfl
 refine sr (dg ty68 ap U U ?_)
 refine az (kW call215 (vh h p gq hp ob) U (fun u1 hu1=>?_) (fun pv1 hpv1 e=>?_))
 ·obtain ⟨rx1,hrx1,rfl⟩:=mU hu1
  have hs1:=hs0.trans (mT hrx1)
  cases rx1
  refine qO 3 U (dg ty68 ap U U ?_)
  refine az (kW call216 (vi h p gq hp ob) U (fun u2 hu2=>?_) (fun pv2 hpv2 e=>?_))
  ·obtain ⟨rx2,hrx2,rfl⟩:=mU hu2
   have hs2:=hs1.trans (mT hrx2)
   cases rx2
   refine qO 2 U (dg ty68 ap U U ?_)
   refine az (kW call217 (wh h p gq hp ob hk) U (fun u3 hu3=>?_) (fun pv3 hpv3 e=>?_))
   ·obtain ⟨rx3,hrx3,rfl⟩:=mU hu3
    have hs3:=hs2.trans (mT hrx3)
    cases rx3
    refine aN ?_
    have hs4:cK p=(Except.ok ()):=hs3
    exact gl (uV [] [] Fl U hX trivial (congrArg (exW stopV (fun r:Unit=>(.tuple #[]:Value))) hs4))
   ·obtain ⟨pv3e,hpv3e,rfl⟩:=lb hpv3
    have hs5:=hs2.trans (la hpv3e)
    exact ja (md [] Fl hX (congrArg (exW stopV (fun r:Unit=>(.tuple #[]:Value))) hs5))
  ·obtain ⟨pv2e,hpv2e,rfl⟩:=lb hpv2
   have hs6:=hs1.trans (la hpv2e)
   exact ja (md [] Fl hX (congrArg (exW stopV (fun r:Unit=>(.tuple #[]:Value))) hs6))
 ·obtain ⟨pv1e,hpv1e,rfl⟩:=lb hpv1
  have hs7:=hs0.trans (la hpv1e)
  exact ja (md [] Fl hX (congrArg (exW stopV (fun r:Unit=>(.tuple #[]:Value))) hs7))
theorem rV (rec:List ByteArray→Expr→Expr) (h:HF) (offices:List ByteArray) (cW:Option Addr) (cV:Nat) (x:Expr) (eQ:ce) (hrec:∀ (h:HF) (qoffices:List ByteArray) (iE:Option Addr) (iD:Nat) (qx:Expr) (iT:ce) (hqoffices:SlC Rp.str h iE iD qoffices) (hqx:Expr.ok h qx iT) (hsz:qx.dep≤2000000) (_:qx.dep < x.dep),iW prog 218 [.slice iE qoffices.length iD,.agg (Expr.cells qx iT).toArray] h (fun v h'=>∃ (rr0:ce),v=.agg (Expr.cells (rec qoffices qx) rr0).toArray∧Expr.ok h' (rec qoffices qx) rr0)) (hoffices:SlC Rp.str h cW cV offices) (hx:Expr.ok h x eQ) (hsz:x.dep≤2000000):iW prog 218 [.slice cW offices.length cV,.agg (Expr.cells x eQ).toArray] h (fun v h'=>∃ (rr0:ce),v=.agg (Expr.cells (ad.F rec offices x) rr0).toArray∧Expr.ok h' (ad.F rec offices x) rr0):=by
 refine cT func218 U ntmps218 U fun X hM hX=>?_
 have hs0:ad.F rec offices x=ad.F rec offices x:=rfl
 have hln:=Expr.EV x
 refine sr (cy (fun b1=>bG zc66 (fun b2=>qL 4 [] U (dw 1 ty3 U U U U U U (qO 4 U (cM 1 ty66 U U U (ah call220 (lQ _ _ _ (show Expr.ok h (Expr.mk x.Kind x.N 0 x.Name x.L) (ce.mk eQ.iM eQ.iP) from Expr.ok.of hx.list)) U (aN (ac hs0 U (fun c1 hs1=>?_) (fun c1 hs2=>?_))))))))))
 ·refine qK 4 [1] U (ah Hi (jv _ _ _ _ x.Name hoffices) U (qL 1 [] U (dw 1 ty3 U U U U U U (qL 10 [1] U (dw 1 ty64 U U U U U U (qL 8 [] U ?_))))))
  let z1:Nat×Obj:=(b2,O [I 0,I 0,I 0,.string (⟨#[]⟩:ByteArray),.slice none 0 0] 66)
  refine lp2 x.L (fun i w=>[(0,.slice cW offices.length cV),(3,Q b1),(4,Q b2),(19,.slice eQ.iM x.L.length eQ.iP),(20,I (x.L.length:Int)),(21,I (i:Int))]) (fun w=>w.2.2.2.2) (fun w=>[z1,(b1,O [I x.Kind,I x.N,I (aJ offices x.Name),.string x.Name,.slice w.2.1 w.1.length w.2.2.1] 66)]++(w.2.2.2.1)) (fun i w=>cJ Expr.rp 66 w.2.2.2.2 w.1 w.2.1 w.2.2.1 w.2.2.2.1∧w.1.length≤0+i∧HF.le h w.2.2.2.2) (fun s1 i w=>(ad.L1 rec offices (ad.K1 offices x)) s1 w.1) ([],none,0,[],h) hx.list.1.1 hs1 ⟨cJ.nil,lo,lf⟩ ?_ ?_
  ·rintro i1 ⟨jz,ny,nw,vt,hh1⟩ eR hs3 ⟨oL,zI,hl1⟩ e
   try dsimp only at oL zI hl1
   let z3:Nat×Obj:=(b1,O [I x.Kind,I x.N,I (aJ offices x.Name),.string x.Name,.slice ny jz.length nw] 66)
   let z15:Nat×Obj:=(b2,O [I x.Kind,I x.N,I (aJ offices x.Name),.string x.Name,.slice ny jz.length nw] 66)
   refine sr (cM 1 ty66 U U U (bC 0 ty66 U U U U U U (iw (L':=[z15,z3]++(vt)) U (aN (eK Expr.ak ([z15,z3]) vt ([]) ap hM oL (fun h3 hle3 sl2=>?_))))))
   have hs4:ad.F rec offices x=(Expr.mk x.Kind x.N (aJ offices x.Name) x.Name jz):=hs3
   exact fS [.agg (List.toArray [I x.Kind,I x.N,I (aJ offices x.Name),.string x.Name,.slice ny jz.length nw])] func218 U ⟨⟨0,_,_,_,_,U,U,.inl ⟨ty66,U⟩⟩,trivial⟩ ⟨(ce.mk ny nw),congrArg (fun r:Expr=>(.agg (Expr.cells r (ce.mk ny nw)).toArray:Value)) hs4.symm,(by rw [hs4];exact (show Expr.ok h3 (Expr.mk x.Kind x.N (aJ offices x.Name) x.Name jz) (ce.mk ny nw) from Expr.ok.of sl2))⟩
  ·rintro i1 ⟨jz,ny,nw,vt,hh1⟩ y1 rz1 hd1 cz ar dF fF hs5 ⟨oL,zI,hl1⟩ hx1 ag1 e
   try dsimp only at oL zI hl1
   have hdy:=Expr.gk (fA hd1)
   refine sr (ae (v':=.bool true) U (cb cz) (qO 8 U (az (dU jh ty66 (hx.list.mono Expr.ak hl1).1 (nthZ ar) (au ar) U U U (fun _ _ _ e=>e) (fun q2 r2 A2 ok3=>?_)))))
   let z4:Nat×Obj:=(b1,O [I x.Kind,I x.N,I (aJ offices x.Name),.string x.Name,.slice ny jz.length nw] 66)
   refine dg ty66 A2 U U (bG zc66 (fun b5=>bC 0 ty66 U U U U U U (iw (L':=[(b5,O (Expr.cells y1 r2) 66),z1,z4]++(vt)) U (aN ?_))))
   let z8:Nat×Obj:=(b5,O (Expr.cells y1 r2) 66)
   refine eA ([z8,z1]) mixed kr jn (fun cI _=>?_)
   refine qB [0,2] U (tf 3 U U (fun _ _ hj=>jA ty66 U (hj.nth (i:=0) U) U) ?_)
   refine ju 1 4 kr U U ?_ ?_ 
   ·refine fy (fw ty64 U (mf (i:=2) U) U) (⟨jn,tn 4 U (cg CW (hrec _ _ _ _ _ _ (hoffices.mono Rp.gm hl1) ok3 ob (Expr.gk (fA hd1))) U (fun v2 h4 hle4 hp2=>?_))⟩)
    obtain ⟨rr4,rfl,ok4⟩:=hp2
    refine ⟨jl hle4,tu hle4 (tn 5 U (bd (cells:=[I ((rec offices y1).Kind),I ((rec offices y1).N),I ((rec offices y1).No),.string ((rec offices y1).Name),.slice rr4.iM ((rec offices y1).L.length) rr4.iP]) jh ty66 zc66 U U kr (fun b6=>⟨jn,?_⟩)))⟩
    let z12:Nat×Obj:=(b6,O [I ((rec offices y1).Kind),I ((rec offices y1).N),I ((rec offices y1).No),.string ((rec offices y1).Name),.slice rr4.iM ((rec offices y1).L.length) rr4.iP] 66)
    exact tn 6 U (bR Expr.ey ([z12,z8,z1,z4]) ([]) (fun G=>[z12,z8,z1,z4]++G) ap (fun _=>ap) jh ty66 zc66 U bytes66 (oL.mono Expr.ak hle4) U U (dr 0 U (show aT Expr.rp h4 [I ((rec offices y1).Kind),I ((rec offices y1).N),I ((rec offices y1).No),.string ((rec offices y1).Name),.slice rr4.iM ((rec offices y1).L.length) rr4.iP] ([(rec offices y1)]) from ⟨[I ((rec offices y1).Kind),I ((rec offices y1).N),I ((rec offices y1).No),.string ((rec offices y1).Name),.slice rr4.iM ((rec offices y1).L.length) rr4.iP],[],U,U,⟨rr4,U,ok4⟩,U⟩)) lo lo (fun ob2 oc2 G2 gr2=>⟨jn,qB [7] U (tn 8 U (j7 3 ty64 U U U U U U (⟨jn,aI kr (qT 2 U (ae (v':=I (((i1+1):Nat):Int)) U (aL ob) (qO 2 U (bY (L':=[z1,(b1,O [I x.Kind,I x.N,I (aJ offices x.Name),.string x.Name,.slice ob2 ((jz++[(rec offices y1)]).length) oc2] 66)]++G2) js (ag1 ((jz++[(rec offices y1)]),ob2,oc2,G2,h4) hs5 ⟨gr2,lo,(hl1.t hle4)⟩)))))⟩)))⟩))
   ·refine cg CW (hrec _ _ _ _ _ _ (hoffices.mono Rp.gm hl1) ok3 ob (Expr.gk (fA hd1))) U (fun v3 h5 hle5 hp3=>?_)
    obtain ⟨rr5,rfl,ok5⟩:=hp3
    refine ⟨jl hle5,tu hle5 ?_⟩
    refine ju 1 5 kr U U ?_ ?_ 
    ·refine fy (fw ty64 U (mf (i:=2) U) U) (⟨jn,tn 5 U (bd (cells:=[I ((rec offices y1).Kind),I ((rec offices y1).N),I ((rec offices y1).No),.string ((rec offices y1).Name),.slice rr5.iM ((rec offices y1).L.length) rr5.iP]) jh ty66 zc66 U U kr (fun b7=>⟨jn,?_⟩))⟩)
     let z13:Nat×Obj:=(b7,O [I ((rec offices y1).Kind),I ((rec offices y1).N),I ((rec offices y1).No),.string ((rec offices y1).Name),.slice rr5.iM ((rec offices y1).L.length) rr5.iP] 66)
     exact tn 6 U (bR Expr.ey ([z13,z8,z1,z4]) ([]) (fun G=>[z13,z8,z1,z4]++G) ap (fun _=>ap) jh ty66 zc66 U bytes66 (oL.mono Expr.ak hle5) U U (dr 0 U (show aT Expr.rp h5 [I ((rec offices y1).Kind),I ((rec offices y1).N),I ((rec offices y1).No),.string ((rec offices y1).Name),.slice rr5.iM ((rec offices y1).L.length) rr5.iP] ([(rec offices y1)]) from ⟨[I ((rec offices y1).Kind),I ((rec offices y1).N),I ((rec offices y1).No),.string ((rec offices y1).Name),.slice rr5.iM ((rec offices y1).L.length) rr5.iP],[],U,U,⟨rr5,U,ok5⟩,U⟩)) lo lo (fun ob3 oc3 G3 gr3=>⟨jn,qB [7] U (tn 8 U (j7 3 ty64 U U U U U U (⟨jn,aI kr (qT 2 U (ae (v':=I (((i1+1):Nat):Int)) U (aL ob) (qO 2 U (bY (L':=[z1,(b1,O [I x.Kind,I x.N,I (aJ offices x.Name),.string x.Name,.slice ob3 ((jz++[(rec offices y1)]).length) oc3] 66)]++G3) js (ag1 ((jz++[(rec offices y1)]),ob3,oc3,G3,h5) hs5 ⟨gr3,lo,(hl1.t hle5)⟩)))))⟩)))⟩))
    ·refine bd (cells:=[I ((rec offices y1).Kind),I ((rec offices y1).N),I ((rec offices y1).No),.string ((rec offices y1).Name),.slice rr5.iM ((rec offices y1).L.length) rr5.iP]) jh ty66 zc66 U U kr (fun b8=>⟨jn,tn 1 U (fy (fw ty64 U (mf (i:=3) U) U) (⟨jn,?_⟩))⟩)
     let z14:Nat×Obj:=(b8,O [I ((rec offices y1).Kind),I ((rec offices y1).N),I ((rec offices y1).No),.string ((rec offices y1).Name),.slice rr5.iM ((rec offices y1).L.length) rr5.iP] 66)
     exact tn 6 U (bR Expr.ey ([z14,z8,z1,z4]) ([]) (fun G=>[z14,z8,z1,z4]++G) ap (fun _=>ap) jh ty66 zc66 U bytes66 (oL.mono Expr.ak hle5) U U (dr 0 U (show aT Expr.rp h5 [I ((rec offices y1).Kind),I ((rec offices y1).N),I ((rec offices y1).No),.string ((rec offices y1).Name),.slice rr5.iM ((rec offices y1).L.length) rr5.iP] ([(rec offices y1)]) from ⟨[I ((rec offices y1).Kind),I ((rec offices y1).N),I ((rec offices y1).No),.string ((rec offices y1).Name),.slice rr5.iM ((rec offices y1).L.length) rr5.iP],[],U,U,⟨rr5,U,ok5⟩,U⟩)) lo lo (fun ob4 oc4 G4 gr4=>⟨jn,qB [7] U (tn 8 U (j7 3 ty64 U U U U U U (⟨jn,aI kr (qT 2 U (ae (v':=I (((i1+1):Nat):Int)) U (aL ob) (qO 2 U (bY (L':=[z1,(b1,O [I x.Kind,I x.N,I (aJ offices x.Name),.string x.Name,.slice ob4 ((jz++[(rec offices y1)]).length) oc4] 66)]++G4) js (ag1 ((jz++[(rec offices y1)]),ob4,oc4,G4,h5) hs5 ⟨gr4,lo,(hl1.t hle5)⟩)))))⟩)))⟩))
 ·refine qK 10 [1] U (dw 1 ty64 U U U U U U (qL 8 [] U ?_))
  let z2:Nat×Obj:=(b2,O [I 0,I 0,I 0,.string (⟨#[]⟩:ByteArray),.slice none 0 0] 66)
  refine lp2 x.L (fun i w=>[(0,.slice cW offices.length cV),(3,Q b1),(4,Q b2),(19,.slice eQ.iM x.L.length eQ.iP),(20,I (x.L.length:Int)),(21,I (i:Int))]) (fun w=>w.2.2.2.2) (fun w=>[z2,(b1,O [I x.Kind,I x.N,I 0,.string x.Name,.slice w.2.1 w.1.length w.2.2.1] 66)]++(w.2.2.2.1)) (fun i w=>cJ Expr.rp 66 w.2.2.2.2 w.1 w.2.1 w.2.2.1 w.2.2.2.1∧w.1.length≤0+i∧HF.le h w.2.2.2.2) (fun s2 i w=>(ad.L2 rec offices (ad.K2 x)) s2 w.1) ([],none,0,[],h) hx.list.1.1 hs2 ⟨cJ.nil,lo,lf⟩ ?_ ?_
  ·rintro i2 ⟨jy,nv,nu,vp,hh2⟩ uA hs6 ⟨oH,zD,hl2⟩ e
   try dsimp only at oH zD hl2
   let z5:Nat×Obj:=(b1,O [I x.Kind,I x.N,I 0,.string x.Name,.slice nv jy.length nu] 66)
   let z16:Nat×Obj:=(b2,O [I x.Kind,I x.N,I 0,.string x.Name,.slice nv jy.length nu] 66)
   refine sr (cM 1 ty66 U U U (bC 0 ty66 U U U U U U (iw (L':=[z16,z5]++(vp)) U (aN (eK Expr.ak ([z16,z5]) vp ([]) ap hM oH (fun h8 hle8 sl4=>?_))))))
   have hs7:ad.F rec offices x=(Expr.mk x.Kind x.N 0 x.Name jy):=hs6
   exact fS [.agg (List.toArray [I x.Kind,I x.N,I 0,.string x.Name,.slice nv jy.length nu])] func218 U ⟨⟨0,_,_,_,_,U,U,.inl ⟨ty66,U⟩⟩,trivial⟩ ⟨(ce.mk nv nu),congrArg (fun r:Expr=>(.agg (Expr.cells r (ce.mk nv nu)).toArray:Value)) hs7.symm,(by rw [hs7];exact (show Expr.ok h8 (Expr.mk x.Kind x.N 0 x.Name jy) (ce.mk nv nu) from Expr.ok.of sl4))⟩
  ·rintro i2 ⟨jy,nv,nu,vp,hh2⟩ y2 rz2 hd2 nE jq tO Cv hs8 ⟨oH,zD,hl2⟩ hx2 ag2 e
   try dsimp only at oH zD hl2
   have hdy:=Expr.gk (fA hd2)
   refine sr (ae (v':=.bool true) U (cb nE) (qO 8 U (az (dU jh ty66 (hx.list.mono Expr.ak hl2).1 (nthZ jq) (au jq) U U U (fun _ _ _ e=>e) (fun q4 r4 A4 ok8=>?_)))))
   let z6:Nat×Obj:=(b1,O [I x.Kind,I x.N,I 0,.string x.Name,.slice nv jy.length nu] 66)
   refine dg ty66 A4 U U (bG zc66 (fun b11=>bC 0 ty66 U U U U U U (iw (L':=[(b11,O (Expr.cells y2 r4) 66),z2,z6]++(vp)) U (aN ?_))))
   let z7:Nat×Obj:=(b11,O (Expr.cells y2 r4) 66)
   refine eA ([z7,z2]) mixed kr jn (fun nK _=>?_)
   refine qB [0,2] U (tf 3 U U (fun _ _ hj=>jA ty66 U (hj.nth (i:=0) U) U) ?_)
   refine ju 1 4 kr U U ?_ ?_ 
   ·refine fy (fw ty64 U (mf (i:=2) U) U) (⟨jn,tn 4 U (cg CW (hrec _ _ _ _ _ _ (hoffices.mono Rp.gm hl2) ok8 ob (Expr.gk (fA hd2))) U (fun v5 h9 hle9 hp5=>?_))⟩)
    obtain ⟨rr9,rfl,ok9⟩:=hp5
    refine ⟨jl hle9,tu hle9 (tn 5 U (bd (cells:=[I ((rec offices y2).Kind),I ((rec offices y2).N),I ((rec offices y2).No),.string ((rec offices y2).Name),.slice rr9.iM ((rec offices y2).L.length) rr9.iP]) jh ty66 zc66 U U kr (fun b12=>⟨jn,?_⟩)))⟩
    let z11:Nat×Obj:=(b12,O [I ((rec offices y2).Kind),I ((rec offices y2).N),I ((rec offices y2).No),.string ((rec offices y2).Name),.slice rr9.iM ((rec offices y2).L.length) rr9.iP] 66)
    exact tn 6 U (bR Expr.ey ([z11,z7,z2,z6]) ([]) (fun G=>[z11,z7,z2,z6]++G) ap (fun _=>ap) jh ty66 zc66 U bytes66 (oH.mono Expr.ak hle9) U U (dr 0 U (show aT Expr.rp h9 [I ((rec offices y2).Kind),I ((rec offices y2).N),I ((rec offices y2).No),.string ((rec offices y2).Name),.slice rr9.iM ((rec offices y2).L.length) rr9.iP] ([(rec offices y2)]) from ⟨[I ((rec offices y2).Kind),I ((rec offices y2).N),I ((rec offices y2).No),.string ((rec offices y2).Name),.slice rr9.iM ((rec offices y2).L.length) rr9.iP],[],U,U,⟨rr9,U,ok9⟩,U⟩)) lo lo (fun ob6 oc6 G6 gr6=>⟨jn,qB [7] U (tn 8 U (j7 3 ty64 U U U U U U (⟨jn,aI kr (qT 2 U (ae (v':=I (((i2+1):Nat):Int)) U (aL ob) (qO 2 U (bY (L':=[z2,(b1,O [I x.Kind,I x.N,I 0,.string x.Name,.slice ob6 ((jy++[(rec offices y2)]).length) oc6] 66)]++G6) js (ag2 ((jy++[(rec offices y2)]),ob6,oc6,G6,h9) hs8 ⟨gr6,lo,(hl2.t hle9)⟩)))))⟩)))⟩))
   ·refine cg CW (hrec _ _ _ _ _ _ (hoffices.mono Rp.gm hl2) ok8 ob (Expr.gk (fA hd2))) U (fun v6 h10 hle10 hp6=>?_)
    obtain ⟨rr10,rfl,ok10⟩:=hp6
    refine ⟨jl hle10,tu hle10 ?_⟩
    refine ju 1 5 kr U U ?_ ?_ 
    ·refine fy (fw ty64 U (mf (i:=2) U) U) (⟨jn,tn 5 U (bd (cells:=[I ((rec offices y2).Kind),I ((rec offices y2).N),I ((rec offices y2).No),.string ((rec offices y2).Name),.slice rr10.iM ((rec offices y2).L.length) rr10.iP]) jh ty66 zc66 U U kr (fun b13=>⟨jn,?_⟩))⟩)
     let z9:Nat×Obj:=(b13,O [I ((rec offices y2).Kind),I ((rec offices y2).N),I ((rec offices y2).No),.string ((rec offices y2).Name),.slice rr10.iM ((rec offices y2).L.length) rr10.iP] 66)
     exact tn 6 U (bR Expr.ey ([z9,z7,z2,z6]) ([]) (fun G=>[z9,z7,z2,z6]++G) ap (fun _=>ap) jh ty66 zc66 U bytes66 (oH.mono Expr.ak hle10) U U (dr 0 U (show aT Expr.rp h10 [I ((rec offices y2).Kind),I ((rec offices y2).N),I ((rec offices y2).No),.string ((rec offices y2).Name),.slice rr10.iM ((rec offices y2).L.length) rr10.iP] ([(rec offices y2)]) from ⟨[I ((rec offices y2).Kind),I ((rec offices y2).N),I ((rec offices y2).No),.string ((rec offices y2).Name),.slice rr10.iM ((rec offices y2).L.length) rr10.iP],[],U,U,⟨rr10,U,ok10⟩,U⟩)) lo lo (fun ob7 oc7 G7 gr7=>⟨jn,qB [7] U (tn 8 U (j7 3 ty64 U U U U U U (⟨jn,aI kr (qT 2 U (ae (v':=I (((i2+1):Nat):Int)) U (aL ob) (qO 2 U (bY (L':=[z2,(b1,O [I x.Kind,I x.N,I 0,.string x.Name,.slice ob7 ((jy++[(rec offices y2)]).length) oc7] 66)]++G7) js (ag2 ((jy++[(rec offices y2)]),ob7,oc7,G7,h10) hs8 ⟨gr7,lo,(hl2.t hle10)⟩)))))⟩)))⟩))
    ·refine bd (cells:=[I ((rec offices y2).Kind),I ((rec offices y2).N),I ((rec offices y2).No),.string ((rec offices y2).Name),.slice rr10.iM ((rec offices y2).L.length) rr10.iP]) jh ty66 zc66 U U kr (fun b14=>⟨jn,tn 1 U (fy (fw ty64 U (mf (i:=3) U) U) (⟨jn,?_⟩))⟩)
     let z10:Nat×Obj:=(b14,O [I ((rec offices y2).Kind),I ((rec offices y2).N),I ((rec offices y2).No),.string ((rec offices y2).Name),.slice rr10.iM ((rec offices y2).L.length) rr10.iP] 66)
     exact tn 6 U (bR Expr.ey ([z10,z7,z2,z6]) ([]) (fun G=>[z10,z7,z2,z6]++G) ap (fun _=>ap) jh ty66 zc66 U bytes66 (oH.mono Expr.ak hle10) U U (dr 0 U (show aT Expr.rp h10 [I ((rec offices y2).Kind),I ((rec offices y2).N),I ((rec offices y2).No),.string ((rec offices y2).Name),.slice rr10.iM ((rec offices y2).L.length) rr10.iP] ([(rec offices y2)]) from ⟨[I ((rec offices y2).Kind),I ((rec offices y2).N),I ((rec offices y2).No),.string ((rec offices y2).Name),.slice rr10.iM ((rec offices y2).L.length) rr10.iP],[],U,U,⟨rr10,U,ok10⟩,U⟩)) lo lo (fun ob8 oc8 G8 gr8=>⟨jn,qB [7] U (tn 8 U (j7 3 ty64 U U U U U U (⟨jn,aI kr (qT 2 U (ae (v':=I (((i2+1):Nat):Int)) U (aL ob) (qO 2 U (bY (L':=[z2,(b1,O [I x.Kind,I x.N,I 0,.string x.Name,.slice ob8 ((jy++[(rec offices y2)]).length) oc8] 66)]++G8) js (ag2 ((jy++[(rec offices y2)]),ob8,oc8,G8,h10) hs8 ⟨gr8,lo,(hl2.t hle10)⟩)))))⟩)))⟩))
theorem mO:∀ (m:Nat) (h:HF) (offices:List ByteArray) (cW:Option Addr) (cV:Nat) (x:Expr) (eQ:ce) (_:x.dep≤m) (hoffices:SlC Rp.str h cW cV offices) (hx:Expr.ok h x eQ) (hsz:x.dep≤2000000),iW prog 218 [.slice cW offices.length cV,.agg (Expr.cells x eQ).toArray] h (fun v h'=>∃ (rr0:ce),v=.agg (Expr.cells (ad.go m offices x) rr0).toArray∧Expr.ok h' (ad.go m offices x) rr0)
 | 0,h,offices,cW,cV,x,eQ,hd,hoffices,hx,hsz=>absurd hd (Nat.not_le.2 (Expr.jK _))
 | m+1,h,offices,cW,cV,x,eQ,hd,hoffices,hx,hsz=>rV (ad.go m) h offices cW cV x eQ (fun qh_ qoffices iE iD qx iT qhoffices qhx qhsz qd=>mO m qh_ qoffices iE iD qx iT ob qhoffices qhx qhsz) hoffices hx hsz
theorem nI (h:HF) (offices:List ByteArray) (cW:Option Addr) (cV:Nat) (x:Expr) (eQ:ce) (hoffices:SlC Rp.str h cW cV offices) (hx:Expr.ok h x eQ) (hsz:x.dep≤2000000):iW prog 218 [.slice cW offices.length cV,.agg (Expr.cells x eQ).toArray] h (fun v h'=>∃ (rr0:ce),v=.agg (Expr.cells (ad offices x) rr0).toArray∧Expr.ok h' (ad offices x) rr0):=mO _ h offices cW cV x eQ (Nat.le_refl _) hoffices hx hsz
theorem tr (h:HF) (p:Policy) (gq:dY) (hp:Policy.ok h p gq) (hsm:smP p) (hk:Kinds h):iW prog 158 [.agg (Policy.cells p gq).toArray] h (fun v h'=>∃ (rr0:dY),v=.tuple #[.agg (Policy.cells ((dk p).1) rr0).toArray,I ((dk p).2)]∧Policy.ok h' ((dk p).1) rr0):=by
 refine cT func158 U ntmps158 U fun X hM hX=>?_
 have hs0:dk p=dk p:=rfl
 have hsc:=hsm.change
 have hsr:=hsm.rules
 refine sr (cy (fun b1=>bG zc68 (fun b2=>qO 4 U (bO 1 U hM (fun h1 hle1 hb1=>az (fX U U (ah (v:=I (attR (cK p))) call213 (tl h1 (.func (.func 214) #[] #[Q b1]) (cK p) (kL (args:=[]) (cap:=[Q b1]) call214 (rm h1 p gq ⟨b1,0,none⟩ (hp.mono hle1) (dq hb1) (by first | assumption | omega) (hk.mono hle1)))) U (qO 8 U (ac hs0 U (fun c1 hs1=>?_) (fun c1 hs2=>?_))))))))))
 ·refine sr (cM 0 ty68 U U U (aj (bC 0 ty68 U U U U U U (an ?_))))
  have hs3:dk p=((Policy.mk (⟨#[]⟩:ByteArray) ([]) ([]) ([]) (Expr.mk 0 0 0 (⟨#[]⟩:ByteArray) ([])) 0),(attR (cK p))):=hs1
  exact fS [.agg (List.toArray [.string (⟨#[]⟩:ByteArray),.slice none 0 0,.slice none 0 0,.slice none 0 0,I 0,I 0,I 0,.string (⟨#[]⟩:ByteArray),.slice none 0 0,I 0]),I (attR (cK p))] func158 U ⟨⟨0,_,_,_,_,U,U,.inl ⟨ty68,U⟩⟩,U,trivial⟩ ⟨(dY.mk none 0 none 0 none 0 (ce.mk none 0)),congrArg (fun r:(Policy×Int)=>(.tuple #[.agg (Policy.cells r.1 (dY.mk none 0 none 0 none 0 (ce.mk none 0))).toArray,I r.2]:Value)) hs3.symm,(by rw [hs3];exact (show Policy.ok h1 (Policy.mk (⟨#[]⟩:ByteArray) ([]) ([]) ([]) (Expr.mk 0 0 0 (⟨#[]⟩:ByteArray) ([])) 0) (dY.mk none 0 none 0 none 0 (ce.mk none 0)) from ⟨SlC.nil,SlC.nil,SlC.nil,(show Expr.ok h1 (Expr.mk 0 0 0 (⟨#[]⟩:ByteArray) ([])) (ce.mk none 0) from Expr.ok.of SlC.nil)⟩))⟩
 ·refine qT 3 U (dg ty68 (dq hb1) U U (bC 0 ty68 U U U U U U (qL 4 [] U (dw 0 ty63 U U U U U U (qL 5 [] U (jm (j:=3) ty63 (dq hb1) U U (qL 3 [] U ?_)))))))
  refine lp2 p.Rules (fun i w=>[(1,Q b1),(2,Q b2),(15,.slice gq.ka p.Rules.length gq.j9),(16,I (p.Rules.length:Int)),(17,I (i:Int))]) (fun w=>w.2.2.2.2) (fun w=>[(b2,O [.string p.Name,.slice gq.gJ p.Kinds.length gq.gI,.slice gq.fe p.Offices.length gq.fd,.slice w.2.1 w.1.length w.2.2.1,I p.Change.Kind,I p.Change.N,I p.Change.No,.string p.Change.Name,.slice gq.Change.iM p.Change.L.length gq.Change.iP,I p.Mode] 68)]++(w.2.2.2.1)) (fun i w=>cJ Rule.rp 107 w.2.2.2.2 w.1 w.2.1 w.2.2.1 w.2.2.2.1∧w.1.length≤0+i∧HF.le h1 w.2.2.2.2) (fun s1 i w=>(dk.L1 p (dk.K1 p)) s1 i w.1) ([],none,0,[],h1) ((hp.Rules.mono Rule.ak hle1).1.1) hs2 ⟨cJ.nil,lo,lf⟩ ?_ ?_
  ·rintro i1 ⟨k9,oK,oJ,vr,hh1⟩ eR hs4 ⟨sB,zH,hl1⟩ e
   try dsimp only at sB zH hl1
   refine qK 3 [] U (jm (j:=2) ty62 ((dq hb1).mono hl1) U U (qL 1 [] U (uq (j:=4) ty66 ((dq hb1).mono hl1) U U (az (cg CW (nI _ _ _ _ _ _ (hp.Offices.mono Rp.gm (hle1.t hl1)) (hp.Change.mono (hle1.t hl1)) ob) U (fun v3 h5 hle5 hp3=>?_))))))
   obtain ⟨rr4,rfl,ok4⟩:=hp3
   let z2:Nat×Obj:=(b2,O [.string p.Name,.slice gq.gJ p.Kinds.length gq.gI,.slice gq.fe p.Offices.length gq.fd,.slice oK k9.length oJ,I ((ad p.Offices p.Change).Kind),I ((ad p.Offices p.Change).N),I ((ad p.Offices p.Change).No),.string ((ad p.Offices p.Change).Name),.slice rr4.iM ((ad p.Offices p.Change).L.length) rr4.iP,I p.Mode] 68)
   refine qL 1 [] U (dw 0 ty66 U U U U U U (qO 3 U (cM 0 ty68 U U U (bC 0 ty68 U U U U U U (iw (L':=[z2]++(vr)) U (an (eK Rule.ak ([z2]) vr ([]) ap hM (sB.mono Rule.ak hle5) (fun h6 hle6 sl2=>?_))))))))
   have hs5:dk p=((Policy.mk p.Name p.Kinds p.Offices k9 (Expr.mk ((ad p.Offices p.Change).Kind) ((ad p.Offices p.Change).N) ((ad p.Offices p.Change).No) ((ad p.Offices p.Change).Name) ((ad p.Offices p.Change).L)) p.Mode),0):=hs4
   exact fS [.agg (Policy.cells (Policy.mk p.Name p.Kinds p.Offices k9 (Expr.mk ((ad p.Offices p.Change).Kind) ((ad p.Offices p.Change).N) ((ad p.Offices p.Change).No) ((ad p.Offices p.Change).Name) ((ad p.Offices p.Change).L)) p.Mode) (dY.mk gq.gJ gq.gI gq.fe gq.fd oK oJ (ce.mk rr4.iM rr4.iP))).toArray,I 0] func158 U ⟨⟨0,_,_,_,_,U,U,.inl ⟨ty68,U⟩⟩,U,trivial⟩ ⟨(dY.mk gq.gJ gq.gI gq.fe gq.fd oK oJ (ce.mk rr4.iM rr4.iP)),congrArg (fun r:(Policy×Int)=>(.tuple #[.agg (Policy.cells r.1 (dY.mk gq.gJ gq.gI gq.fe gq.fd oK oJ (ce.mk rr4.iM rr4.iP))).toArray,I r.2]:Value)) hs5.symm,(by rw [hs5];exact (show Policy.ok h6 (Policy.mk p.Name p.Kinds p.Offices k9 (Expr.mk ((ad p.Offices p.Change).Kind) ((ad p.Offices p.Change).N) ((ad p.Offices p.Change).No) ((ad p.Offices p.Change).Name) ((ad p.Offices p.Change).L)) p.Mode) (dY.mk gq.gJ gq.gI gq.fe gq.fd oK oJ (ce.mk rr4.iM rr4.iP)) from ⟨(hp.Kinds.mono Rp.gm (((hle1.t hl1).t hle5).t hle6)),(hp.Offices.mono Rp.gm (((hle1.t hl1).t hle5).t hle6)),sl2,(show Expr.ok h6 (Expr.mk ((ad p.Offices p.Change).Kind) ((ad p.Offices p.Change).N) ((ad p.Offices p.Change).No) ((ad p.Offices p.Change).Name) ((ad p.Offices p.Change).L)) (ce.mk rr4.iM rr4.iP) from Expr.ok.of (ok4.list.mono Expr.ak hle6))⟩))⟩
  ·rintro i1 ⟨k9,oK,oJ,vr,hh1⟩ y1 rz1 hd1 cz ar dF fF hs6 ⟨sB,zH,hl1⟩ hx1 ag1 e
   try dsimp only at sB zH hl1
   have hsy:=hsm.2.1 y1 (fA hd1)
   refine sr (ae (v':=.bool true) U (cb cz) (qO 9 U (az (dU nO ty107 (hp.Rules.mono Rule.ak (hle1.t hl1)).1 (nthZ ar) (au ar) U U U (fun _ _ _ e=>e) (fun q2 r2 A2 ok5=>?_)))))
   let z1:Nat×Obj:=(b2,O [.string p.Name,.slice gq.gJ p.Kinds.length gq.gI,.slice gq.fe p.Offices.length gq.fd,.slice oK k9.length oJ,I p.Change.Kind,I p.Change.N,I p.Change.No,.string p.Change.Name,.slice gq.Change.iM p.Change.L.length gq.Change.iP,I p.Mode] 68)
   refine dg ty107 A2 U U (bG zc107 (fun b5=>fj (bC 0 ty107 U U U U U U (iw (L':=[(b5,O (Rule.cells y1 r2) 107),z1]++(vr)) U (qL 5 [] U (jm (j:=2) ty62 ((dq hb1).mono hl1) U U (qL 1 [] U (cM 0 ty66 U U U (az (cg CW (nI _ _ _ _ _ _ (hp.Offices.mono Rp.gm (hle1.t hl1)) ok5.Expr ob) U (fun v4 h7 hle7 hp4=>?_)))))))))))
   obtain ⟨rr6,rfl,ok6⟩:=hp4
   refine qL 1 [] U (dw 0 ty3 U U U U U U (qL 1 [] U (dw 0 ty66 U U U U U U (qL 4 [1] U (cM 0 ty107 U U U (az (bd (cells:=[.string y1.Kind,I (i1:Int),I y1.Think,I ((ad p.Offices y1.Expr).Kind),I ((ad p.Offices y1.Expr).N),I ((ad p.Offices y1.Expr).No),.string ((ad p.Offices y1.Expr).Name),.slice rr6.iM ((ad p.Offices y1.Expr).L.length) rr6.iP]) nO ty107 zc107 U U kr (fun b6=>?_))))))))
   let z3:Nat×Obj:=(b6,O [.string y1.Kind,I (i1:Int),I y1.Think,I ((ad p.Offices y1.Expr).Kind),I ((ad p.Offices y1.Expr).N),I ((ad p.Offices y1.Expr).No),.string ((ad p.Offices y1.Expr).Name),.slice rr6.iM ((ad p.Offices y1.Expr).L.length) rr6.iP] 107)
   let z4:Nat×Obj:=(b5,O [.string y1.Kind,I (i1:Int),I y1.Think,I ((ad p.Offices y1.Expr).Kind),I ((ad p.Offices y1.Expr).N),I ((ad p.Offices y1.Expr).No),.string ((ad p.Offices y1.Expr).Name),.slice rr6.iM ((ad p.Offices y1.Expr).L.length) rr6.iP] 107)
   refine az (bR Rule.ey ([z3,z4,z1]) ([]) (fun G=>[z3,z4,z1]++G) ap (fun _=>ap) nO ty107 zc107 U bytes107 (sB.mono Rule.ak hle7) U U (dr 0 U (show aT Rule.rp h7 [.string y1.Kind,I (i1:Int),I y1.Think,I ((ad p.Offices y1.Expr).Kind),I ((ad p.Offices y1.Expr).N),I ((ad p.Offices y1.Expr).No),.string ((ad p.Offices y1.Expr).Name),.slice rr6.iM ((ad p.Offices y1.Expr).L.length) rr6.iP] ([(Rule.mk y1.Kind (i1:Int) y1.Think (Expr.mk ((ad p.Offices y1.Expr).Kind) ((ad p.Offices y1.Expr).N) ((ad p.Offices y1.Expr).No) ((ad p.Offices y1.Expr).Name) ((ad p.Offices y1.Expr).L)))]) from ⟨[.string y1.Kind,I (i1:Int),I y1.Think,I ((ad p.Offices y1.Expr).Kind),I ((ad p.Offices y1.Expr).N),I ((ad p.Offices y1.Expr).No),.string ((ad p.Offices y1.Expr).Name),.slice rr6.iM ((ad p.Offices y1.Expr).L.length) rr6.iP],[],U,U,⟨(vN.mk (ce.mk rr6.iM rr6.iP)),U,(show Rule.ok h7 (Rule.mk y1.Kind (i1:Int) y1.Think (Expr.mk ((ad p.Offices y1.Expr).Kind) ((ad p.Offices y1.Expr).N) ((ad p.Offices y1.Expr).No) ((ad p.Offices y1.Expr).Name) ((ad p.Offices y1.Expr).L))) (vN.mk (ce.mk rr6.iM rr6.iP)) from ⟨(show Expr.ok h7 (Expr.mk ((ad p.Offices y1.Expr).Kind) ((ad p.Offices y1.Expr).N) ((ad p.Offices y1.Expr).No) ((ad p.Offices y1.Expr).Name) ((ad p.Offices y1.Expr).L)) (ce.mk rr6.iM rr6.iP) from Expr.ok.of ok6.list)⟩)⟩,U⟩)) lo lo (fun ob2 oc2 G2 gr2=>qL 1 [] U (dw 2 ty63 U U U U U U (qO 3 U (ae (v':=I (((i1+1):Nat):Int)) U (aL ob) (qO 2 U (bY (L':=[(b2,O [.string p.Name,.slice gq.gJ p.Kinds.length gq.gI,.slice gq.fe p.Offices.length gq.fd,.slice ob2 ((k9++[(Rule.mk y1.Kind (i1:Int) y1.Think (Expr.mk ((ad p.Offices y1.Expr).Kind) ((ad p.Offices y1.Expr).N) ((ad p.Offices y1.Expr).No) ((ad p.Offices y1.Expr).Name) ((ad p.Offices y1.Expr).L)))]).length) oc2,I p.Change.Kind,I p.Change.N,I p.Change.No,.string p.Change.Name,.slice gq.Change.iM p.Change.L.length gq.Change.iP,I p.Mode] 68)]++G2) js ?_)))))))
   exact ag1 ((k9++[(Rule.mk y1.Kind (i1:Int) y1.Think (Expr.mk ((ad p.Offices y1.Expr).Kind) ((ad p.Offices y1.Expr).N) ((ad p.Offices y1.Expr).No) ((ad p.Offices y1.Expr).Name) ((ad p.Offices y1.Expr).L)))]),ob2,oc2,G2,h7) hs6 ⟨gr2,lo,(hl1.t hle7)⟩
theorem np (h:HF) (offices:List ByteArray) (cW:Option Addr) (cV:Nat) (x:Expr) (eQ:ce) (hoffices:SlC Rp.str h cW cV offices) (hx:Expr.ok h x eQ) (hsz:x.dep≤1500000):Ret prog 159 [.slice cW offices.length cV,.agg (Expr.cells x eQ).toArray] h (.bool (bD offices x)):=by
 refine cT Hg U ntmps159 U fun X hM hX=>?_
 have hs0:bD offices x=bD offices x:=rfl
 refine sr (cy (fun b1=>cy (fun b2=>bG zc4 (fun b3=>qO 4 U (cM 1 ty66 U U U (az (cg Fp (kX _ _ _ 1 hx ob) U (fun v1 h1 hle1 hp1=>?_))))))))
 obtain ⟨_,rfl,mo1⟩:=hp1
 refine qO 2 U (gl ?_)
 let z1:Nat×Obj:=(b1,O [.slice cW offices.length cV] 62)
 let z2:Nat×Obj:=(b2,O (Expr.cells x eQ) 66)
 refine cS (L':=([(b3,O [.bool false] 4),z2,z1])++markB []) ap ?_
 refine kb (it:=v1) (xs:=(aY x 1)) (ι:=HF) [] (fun i=>i) (fun i=>[(b3,O [.bool false] 4),z2,z1]) (fun s i=>bD offices x=((bD.L1 offices (bD.K1)) s)∧HF.le h1 i) (fun i=>bD offices x=false∧HF.le h1 i) (fun _=>False) 0 (fun _ _ _=>False) h1 Hg U mo1 U lY (fun _ _ _ _ _ hq=>hq) U (show [(b3,O [.bool false] 4),z2,z1]=_ from U) ⟨hs0,lf⟩ ?_ ?_ ?_ ?_ ?_
 ·rintro l1 dm1 lp1 y1 rz1 vs1 hh1 hr1 X hFR1 ⟨hs1,hl1⟩ hl01 hlr1 hv1 hX hXM hlp1 nx1 rt1 ex1 pn1
  try dsimp only at hl1 hlr1
  obtain ⟨rr1_0,rfl,ok1_0⟩:=hv1
  let z3:Nat×Obj:=(dm1,.deferred (some []))
  refine cS (L':=[(l1,.loop lp1),z3,(b3,O [.bool false] 4),z2,z1]++(markB [])) ap (bh (bG zc258 (fun b5=>bC 0 ty258 U U U U U U (aN (kc 1 U hlp1 (qK 9 [] U (cM 0 ty66 U U U (ah call220 (lQ _ _ _ ok1_0.x) U (aN (ac hs1 U (fun c4 hs2=>?_) (fun c4 hs3=>?_)))))))))))
  ·refine qK 5 [5,0] U (ah Hi (jv _ _ _ _ y1.x.Name (hoffices.mono Rp.gm ((hle1.t hl1).t hlr1))) U (qL 10 [0] U (ac hs2 U (fun c5 hs4=>?_) (fun c5 hs5=>?_))))
   ·exact sr (dw 3 ty4 U U U U U U (aN (bY (L':=[(l1,.loop { lp1 with state:=.busy }),z3,(b3,O [.bool false] 4),z2,z1]++(markB [])) js (cS (L':=rdH l1 dm1 lp1 (([(b3,O [.bool false] 4),z2,z1])++markB [])) ap (rt1 hr1 _ _ _ ⟨hs4,(hl1.t hlr1)⟩ lf)))))
   ·exact aG (e8 (bY (L':=[(l1,.loop { lp1 with state:=.busy }),z3,(b3,O [.bool false] 4),z2,z1]++(markB [])) js (cS (L':=rdH l1 dm1 lp1 (([(b3,O [.bool false] 4),z2,z1])++markB [])) ap (nx1 hr1 _ _ ⟨hs5,(hl1.t hlr1)⟩ lf))))
  ·refine qK 9 [0] U (ac hs3 U (fun c6 hs6=>?_) (fun c6 hs7=>?_))
   ·exact sr (dw 3 ty4 U U U U U U (aN (bY (L':=[(l1,.loop { lp1 with state:=.busy }),z3,(b3,O [.bool false] 4),z2,z1]++(markB [])) js (cS (L':=rdH l1 dm1 lp1 (([(b3,O [.bool false] 4),z2,z1])++markB [])) ap (rt1 hr1 _ _ _ ⟨hs6,(hl1.t hlr1)⟩ lf)))))
   ·exact aG (e8 (bY (L':=[(l1,.loop { lp1 with state:=.busy }),z3,(b3,O [.bool false] 4),z2,z1]++(markB [])) js (cS (L':=rdH l1 dm1 lp1 (([(b3,O [.bool false] 4),z2,z1])++markB [])) ap (nx1 hr1 _ _ ⟨hs7,(hl1.t hlr1)⟩ lf))))
 ·rintro dm1 hh1 hn1 ⟨hs8,hl1⟩ hln1 hl01
  try dsimp only at hl1 hln1
  refine cS (L':=[(b3,O [.bool false] 4),z2,z1]++(markB (dm1::[]))) ap (qT 3 U (dw 0 ty4 U U U U U U (aN ?_)))
  have hs9:bD offices x=true:=hs8
  exact cS (L':=([(b3,O [.bool true] 4),z2,z1])++markB (dm1::[])) ap (rI (dm1::[]) [.bool true] Hg U hX ⟨⟨0,_,_,_,_,U,U,.inr ⟨_,ty4,U⟩⟩,trivial⟩ (cs hs9))
 ·rintro dm1 hh1 hn1 ⟨hs10,hl1⟩ hln1 hl01
  try dsimp only at hl1 hln1
  refine cS (L':=[(b3,O [.bool false] 4),z2,z1]++(markB (dm1::[]))) ap ?_
  have hs11:bD offices x=false:=hs10
  exact cS (L':=([(b3,O [.bool false] 4),z2,z1])++markB (dm1::[])) ap (rI (dm1::[]) [.bool false] Hg U hX ⟨⟨0,_,_,_,_,U,U,.inr ⟨_,ty4,U⟩⟩,trivial⟩ (cs hs11))
 ·exact xf
 ·exact xf
theorem pk (h:HF) (p:Policy) (gq:dY) (hp:Policy.ok h p gq) (hsm:smP p) (hk:Kinds h):Ret prog 94 [.agg (Policy.cells p gq).toArray] h (I (bZ p)):=by
 refine sT func94 U ntmps94 U fun X hM hX hF=>?_
 have hs0:bZ p=bZ p:=rfl
 have hsc:=hsm.change
 refine sr (cy (fun b1=>qO 5 U (cM 0 ty68 U U U (az (cg call158 (tr _ _ _ hp ob hk) U (fun v1 h1 hle1 hp1=>?_))))))
 obtain ⟨rr1,rfl,ok1⟩:=hp1
 refine qO 10 U (ac hs0 U (fun c1 hs1=>?_) (fun c1 hs2=>?_))
 ·exact sr (qO 3 U (nretP [I ((dk p).2)] (ci hs1)))
 ·refine qK 9 [0] U ?_
  refine lp0 p.Rules (fun i=>[(1,Q b1),(14,.slice gq.ka p.Rules.length gq.j9),(15,I (p.Rules.length:Int)),(16,I (i:Int))]) ([(b1,O (Policy.cells p gq) 68)]) (fun s1 i=>(bZ.L1 p (bZ.K1 p)) s1 i) ((hp.Rules.mono Rule.ak hle1).1.1) hs2 ?_ ?_
  ·rintro i1 eR hs4 e
   refine qK 6 [0] U (cM 0 ty66 U U U (ah call159 (np _ _ _ _ _ _ (hp.Offices.mono Rp.gm hle1) (hp.Change.mono hle1) ob) U (qO 2 U (ac hs4 U (fun c2 hs5=>?_) (fun c2 hs6=>?_)))))
   ·exact sr (an (nretP [I 200] (ci hs5)))
   ·exact aG (qT 4 U (nretP [I 0] (ci hs6)))
  ·rintro i1 y1 rz1 hd1 cz ar dF fF hs9 hx1 ag1 e
   have hsy:=hsm.2.1 y1 (fA hd1)
   refine sr (ae (v':=.bool true) U (cb cz) (qO 9 U (az (dU nO ty107 (hp.Rules.mono Rule.ak hle1).1 (nthZ ar) (au ar) U U U (fun _ _ _ e=>e) (fun q2 r2 A2 ok3=>dg ty107 A2 U U (bG zc107 (fun b3=>fj (bC 0 ty107 U U U U U U (qL 8 [0] U (cf 7 [25,26,27,28,29,30,31,32] 25 32 (!(bD p.Offices y1.Expr)) U (fun c3 hk1=>?_) (fun e=>?_)))))))))))
   ·exact qL 3 [1] U (cM 0 ty66 U U U (ah call159 (np _ _ _ _ _ _ (hp.Offices.mono Rp.gm hle1) ok3.Expr ob) U (qO 2 U (hk1 _ U))))
   refine aN (ac hs9 U (fun c4 hs10=>?_) (fun c4 hs11=>?_))
   ·exact sr (an (nretP [I 200] (ci hs10)))
   ·exact aG (qT 2 U (ae (v':=I (((i1+1):Nat):Int)) U (aL ob) (qO 2 U (bY (L':=[(b1,O (Policy.cells p gq) 68)]) js (ag1 hs11)))))
theorem nr (h:HF) (l:List Version) (eE:Option Addr) (eD:Nat) (hl:SlC Version.rp h eE eD l) (hsm:smV l) (hk:Kinds h):Ret prog 55 [.slice eE l.length eD] h (I (bg l)):=by
 refine sT func55 U ntmps55 U fun X hM hX hF=>?_
 have hs0:bg l=bg l:=rfl
 have hsl:=hsm.len
 refine qK 11 [] U (ac hs0 U (fun c1 hs1=>?_) (fun c1 hs2=>?_))
 ·have c1p:=of_decide_eq_true c1
  exact sr (an (nretP [I 2] (ci hs1)))
 ·have c1p:=of_decide_eq_false c1
  refine qK 12 [] U ?_
  refine lp1 l (fun i w=>[(3,I w),(9,.slice eE l.length eD),(10,I (l.length:Int)),(11,I (i:Int))]) ([]) (fun s1 i w=>(bg.L1 (bg.K1)) s1 w) (-1) hl.1.1 hs2 ?_ ?_
  ·rintro i1 gH eR hs4 e
   exact sr (an (nretP [I 0] (ci hs4)))
  ·rintro i1 gH y1 rz1 hd1 cz ar dF fF hs6 hx1 ag1 e
   have hsy:=hsm.2 y1 (fA hd1)
   refine sr (ae (v':=.bool true) U (cb cz) (qO 8 U (az (dU kJ ty70 hl.1 (nthZ ar) (au ar) U U U (fun _ _ _ e=>e) (fun q2 r2 A2 ok2=>dg ty70 A2 U U (bG zc70 (fun b2=>bC 0 ty70 U U U U U U (qL 8 [0] U (ah uQ (fL h y1.No (IntKind.wrap .i64 (gH+1)) 1048576) U (qO 2 U (cf 5 [21,22,23,24,25,26] 21 26 (!(aH y1.At 0 1099511627775)) U (fun c2 hk1=>?_) (fun e=>?_))))))))))))
   ·exact qL 2 [0] U (ah uQ (fL h y1.At 0 1099511627775) U (qO 2 U (hk1 _ U)))
   refine aj (cf 5 [27,28,29,30,31,32] 27 32 (!(aH y1.Known 0 1099511627775)) U (fun c3 hk2=>?_) (fun e=>?_))
   ·exact qL 2 [0] U (ah uQ (fL h y1.Known 0 1099511627775) U (qO 2 U (hk2 _ U)))
   refine aj (cf 5 [33,34,35,36,37,38] 33 38 ((bZ y1.Policy) != 0) U (fun c4 hk3=>?_) (fun e=>?_))
   ·exact qL 1 [] U (cM 0 ty68 U U U (ah call94 (pk _ _ _ ok2.Policy ob hk) U (qO 2 U (hk3 _ U))))
   refine aN (ac hs6 U (fun c5 hs7=>?_) (fun c5 hs8=>?_))
   ·exact sr (an (nretP [I 200] (ci hs7)))
   ·exact qK 8 [0] U (ae (v':=I (((i1+1):Nat):Int)) U (aL ob) (qO 2 U (bY (L':=[]) js (ag1 y1.No hs8))))
theorem rx (h:HF) (l:List Document) (eE:Option Addr) (eD:Nat) (hl:SlC Document.rp h eE eD l):iW prog 104 [.slice eE l.length eD] h (fun v h'=>∃ (rr0:nX),v=.agg (gv.cells (bi l) rr0).toArray∧gv.ok h' (bi l) rr0):=by
 refine cT func104 U ntmps104 U fun X hM hX=>?_
 have hs0:bi l=bi l:=rfl
 refine sr (bG zc178 (fun b1=>qO 4 U (az (oX (fun b2=>az (em (cells:=[.slice eE l.length eD,.map (some b2)]) (places:=[(0,1),(1,1)]) underlying178 zc178 kr kr (bG zc178 (fun b3=>bC 0 ty178 U U U U U U (qL 8 [] U ?_)))))))))
 let z1:Nat×Obj:=(b3,O [.slice eE l.length eD,.map (some b2)] 178)
 refine lp2 l (fun i w=>[(2,Q b1),(3,Q b3),(9,.slice eE l.length eD),(10,I (l.length:Int)),(11,I (i:Int))]) (fun _=>h) (fun w=>[z1,(b2,w.2),(b1,O [.slice none 0 0,.map none] 178)]) (fun i w=>hY (Value.int .i64) CG h w.2 w.1∧w.1.length≤0+i) (fun s1 i w=>(bi.L1 (bi.K1 l)) s1 i w.1) ([],.map #[] 0) hl.1.1 hs0 ⟨(hY.nil (enc:=(Value.int .i64)) (V:=CG) (h:=h)),lc⟩ ?_ ?_
 ·rintro i1 ⟨dt,kp⟩ eR hs1 ⟨gR,lz⟩ e
  refine sr (cM 0 ty178 U U U (bC 2 ty178 U U U U U U (aN (ff 1 U hM (fun h2 hle2 hb2=>?_)))))
  have mc2:oS (Value.int .i64) CG h2 b2 dt:=⟨_,hb2,gR.mono CG.mono hle2⟩
  have hs2:bi l=(gv.mk l dt):=hs1
  exact fS [.agg (List.toArray [.slice eE l.length eD,.map (some b2)])] func104 U ⟨⟨1,_,_,_,_,U,U,.inl ⟨ty178,U⟩⟩,trivial⟩ ⟨(nX.mk eE eD b2),congrArg (fun r:gv=>(.agg (gv.cells r (nX.mk eE eD b2)).toArray:Value)) hs2.symm,(by rw [hs2];exact (show gv.ok h2 (gv.mk l dt) (nX.mk eE eD b2) from ⟨(hl.mono Document.ak hle2),mc2⟩))⟩
 ·rintro i1 ⟨dt,kp⟩ y1 rz1 hd1 cz ar dF fF hs3 ⟨gR,lz⟩ hx1 ag1 e
  exact sr (ae (v':=.bool true) U (cb cz) (qO 9 U (az (dU pz ty52 hl.1 (nthZ ar) (au ar) U U U (fun _ _ _ e=>e) (fun q2 r2 A2 ok2=>dg ty52 A2 U U (bG zc52 (fun b5=>fj (bC 0 ty52 U U U U U U (qL 7 [1,0] U (az (ke 2 (k:=y1.No) (x:=(i1:Int)) underlying176 (eJ kK) U gR U U U (fun mo2 hm2=>qO 3 U (ae (v':=I (((i1+1):Nat):Int)) U (aL ob) (qO 2 U (bY (L':=[z1,(b2,mo2),(b1,O [.slice none 0 0,.map none] 178)]) js (ag1 ((mput dt y1.No (i1:Int)),mo2) hs3 ⟨hm2,(by have:=gr dt y1.No (i1:Int);first | omega | (simp only [List.length_nil,List.length_cons] at *;omega))⟩))))))))))))))))
theorem vz (h:HF) (t:Int)  : Ret prog 173 [I t] h (.bool (jd t)):=by
 refine sT func173 U ntmps173 U fun X hM hX hF=>?_
 have hs0:jd t=jd t:=rfl
 refine qT 9 U (bz 3 [5,6,7,8] 5 8 (decide (t < 1099511627776)) U (fun c1 hk1=>?_) (fun e=>?_))
 ·exact aj (qO 2 U (hk1 _ U))
 exact an (nretP [.bool (decide (0≤t)&&decide (t < 1099511627776))] (cs hs0))
theorem mW (h:HF) (l:List Int) (eE:Option Addr) (eD:Nat) (limit:Int) (hl:SlC Rp.int h eE eD l):Ret prog 174 [.slice eE l.length eD,I limit] h (.bool (cY l limit)):=by
 refine sT func174 U ntmps174 U fun X hM hX hF=>?_
 have hs0:cY l limit=cY l limit:=rfl
 refine qK 15 [] U ?_
 refine lp1 l (fun i w=>[(0,.slice eE l.length eD),(1,I limit),(5,I w),(8,.slice eE l.length eD),(9,I (l.length:Int)),(10,I (i:Int))]) ([]) (fun s1 i w=>(cY.L1 limit (cY.K1 l)) s1 w) (-1) hl.1.1 hs0 ?_ ?_
 ·rintro i1 gY eR hs1 e
  exact qK 7 [] U (nretP [.bool (decide ((l.length:Int)≤16))] (cs hs1))
 ·rintro i1 gY y1 rz1 hd1 cz ar dF fF hs3 hx1 ag1 e
  refine sr (ae (v':=.bool true) U (cb cz) (qO 8 U (az (ef (enc:=fun y=>[I y]) ei cR ty3 hl.1 (nthZ ar) (au ar) U U U (fun q2 A2=>cL ty3 A2 U (qO 9 U (cf 4 [17,18,19,20,21] 17 21 (decide (limit≤y1)) U (fun c1 hk1=>?_) (fun e=>?_))))))))
  ·exact aj (qO 3 U (hk1 _ U))
  refine aN (ac hs3 U (fun c2 hs4=>?_) (fun c2 hs5=>?_))
  ·exact sr (an (nretP [.bool false] (cs hs4)))
  ·exact aG (qT 6 U (ae (v':=I (((i1+1):Nat):Int)) U (aL ob) (qO 2 U (ag1 y1 hs5))))
theorem uG (h:HF) (d:Document) (vP:gG) (hd:Document.ok h d vP):Ret prog 105 [.agg (Document.cells d vP).toArray] h (.bool (fG d)):=by
 refine sT func105 U ntmps105 U fun X hM hX hF=>?_
 have hs0:fG d=fG d:=rfl
 refine sr (cy (fun b1=>qL 8 [0] U (bz 4 [7,8,9,10,11] 7 11 (decide (d.No < 4096)) U (fun c1 hk1=>?_) (fun e=>?_))))
 ·exact qL 4 [0] U (hk1 _ U)
 refine aj (bz 4 [12,13,14,15,16] 12 16 (jd d.At) U (fun c2 hk2=>?_) (fun e=>?_))
 ·exact qL 2 [0] U (ah call173 (vz h d.At) U (ew U (hk2 _ U)))
 refine aj (bz 4 [17,18,19,20,21] 17 21 (decide (0≤d.Kind)) U (fun c3 hk3=>?_) (fun e=>?_))
 ·exact qL 4 [0] U (hk3 _ U)
 refine aj (bz 4 [22,23,24,25,26] 22 26 (decide (d.Kind < 16)) U (fun c4 hk4=>?_) (fun e=>?_))
 ·exact qL 4 [0] U (hk4 _ U)
 refine aj (bz 4 [27,28,29,30,31] 27 31 (decide (0≤d.Value)) U (fun c5 hk5=>?_) (fun e=>?_))
 ·exact qL 4 [0] U (hk5 _ U)
 refine aj (bz 4 [32,33,34,35,36] 32 36 (decide (d.Value≤1099511627776)) U (fun c6 hk6=>?_) (fun e=>?_))
 ·exact qL 4 [0] U (hk6 _ U)
 refine qO 6 U (bz 4 [38,39,40,41,42] 38 42 (decide (0≤d.From)) U (fun c7 hk7=>?_) (fun e=>?_))
 ·exact qL 4 [0] U (hk7 _ U)
 refine aj (bz 6 [43,44,45,46,47,48,49] 43 49 (decide (d.From < d.Until)) U (fun c8 hk8=>?_) (fun e=>?_))
 ·exact qL 6 [0,0] U (hk8 _ U)
 refine aj (bz 4 [50,51,52,53,54] 50 54 (decide (d.Until≤1099511627776)) U (fun c9 hk9=>?_) (fun e=>?_))
 ·exact qL 4 [0] U (hk9 _ U)
 refine aj (bz 4 [55,56,57,58,59] 55 59 (cY d.Parties 1048577) U (fun c10 hk10=>?_) (fun e=>?_))
 ·exact qL 2 [0] U (ah call174 (mW _ _ _ _ 1048577 hd.Parties) U (ew U (hk10 _ U)))
 refine aj (bz 6 [60,61,62,63,64,65,66] 60 66 (cY d.Revokes d.No) U (fun c11 hk11=>?_) (fun e=>?_))
 ·exact qL 4 [0,0] U (ah call174 (mW _ _ _ _ d.No hd.Revokes) U (ew U (hk11 _ U)))
 refine aj (bz 6 [67,68,69,70,71,72,73] 67 73 (cY d.Needs d.No) U (fun c12 hk12=>?_) (fun e=>?_))
 ·exact qL 4 [0,0] U (ah call174 (mW _ _ _ _ d.No hd.Needs) U (ew U (hk12 _ U)))
 exact an (nretP [.bool ((((((((((((decide (0≤d.No)&&decide (d.No < 4096))&&(jd d.At))&&decide (0≤d.Kind))&&decide (d.Kind < 16))&&decide (0≤d.Value))&&decide (d.Value≤1099511627776))&&decide (0≤d.From))&&decide (d.From < d.Until))&&decide (d.Until≤1099511627776))&&(cY d.Parties 1048577))&&(cY d.Revokes d.No))&&(cY d.Needs d.No))] (cs hs0))
theorem lZ (h:HF) (no:Int) (v0:gv) (Ky:nX) (v0_q:Addr) (hv0:gv.ok h v0 Ky) (av0:At h v0_q (gv.cells v0 Ky)):Ret prog 175 [I no,.pointer (some v0_q)] h (.bool (dI no v0)):=by
 refine sT func175 U ntmps175 U fun X hM hX hF=>?_
 have hs0:dI no v0=dI no v0:=rfl
 refine qK 7 [] U (jm (j:=1) ty176 av0 U U (aj ?_))
 obtain ⟨o1,hb1,hm1⟩:=hv0.at_
 refine az (wW (k:=no) underlying176 (eJ kK) hb1 hm1 (jj zv3) (show CG _ (I 0) 0 from U) U U (fun v1 hv1=>?_))
 obtain rfl:=hv1
 exact aj (qO 11 U (nretP [.bool (!(mhas v0.at_ no))] (cs hs0)))
theorem mV (h:HF) (s:gv) (KQ:nX) (d:Document) (vP:gG) (hs:gv.ok h s KQ) (hd:Document.ok h d vP):Ret prog 106 [.agg (gv.cells s KQ).toArray,.agg (Document.cells d vP).toArray] h (.bool (dT s d)):=by
 refine sT func106 U ntmps106 U fun X hM hX hF=>?_
 have hs0:dT s d=dT s d:=rfl
 refine sr (cy (fun b1=>cy (fun b2=>qO 4 U (bO 1 U hM (fun h1 hle1 hb1=>az (fX U U (qL 7 [0] U (ah Hj (iy _ _ _ _ (fun dX=>dI dX s) (.func (.func 175) #[] #[Q b1]) (hd.Revokes.mono Rp.aW hle1) (fun h' dX hle =>i0 call175 (lZ h' dX s KQ ⟨b1,0,none⟩  ((hs.mono hle1).mono hle) ((dq hb1).mono hle)))) U (qO 2 U (bz 6 [12,13,14,15,16,17,18] 12 18 (!(cU d.Needs (fun dX=>dI dX s))) U (fun c1 hk1=>?_) (fun e=>?_)))))))))))
 ·exact qL 3 [0] U (ah Hj (iy _ _ _ _ (fun dX=>dI dX s) (.func (.func 175) #[] #[Q b1]) (hd.Needs.mono Rp.aW hle1) (fun h' dX hle =>i0 call175 (lZ h' dX s KQ ⟨b1,0,none⟩  ((hs.mono hle1).mono hle) ((dq hb1).mono hle)))) U (qO 2 U (hk1 _ U)))
 exact an (nretP [.bool ((!(cU d.Revokes (fun dX=>dI dX s)))&&(!(cU d.Needs (fun dX=>dI dX s))))] (cs hs0))
theorem uH (h:HF) (l:List Document) (eE:Option Addr) (eD:Nat) (hl:SlC Document.rp h eE eD l):Ret prog 56 [.slice eE l.length eD] h (I (bH l)):=by
 refine sT func56 U ntmps56 U fun X hM hX hF=>?_
 have hs0:bH l=bH l:=rfl
 refine qK 11 [] U (ac hs0 U (fun c1 hs1=>?_) (fun c1 hs2=>?_))
 ·have c1p:=of_decide_eq_true c1
  exact sr (an (nretP [I 2] (ci hs1)))
 ·have c1p:=of_decide_eq_false c1
  refine qT 4 U (az (cg call104 (rx _ _ _ _ hl) U (fun v1 h1 hle1 hp1=>?_)))
  obtain ⟨rr1,rfl,ok1⟩:=hp1
  refine bG zc178 (fun b1=>bC 0 ty178 U U U U U U (qL 8 [] U ?_))
  let z1:Nat×Obj:=(b1,O (gv.cells (bi l) rr1) 178)
  refine lp0 l (fun i=>[(0,.slice eE l.length eD),(3,Q b1),(11,.slice eE l.length eD),(12,I (l.length:Int)),(13,I (i:Int))]) ([z1]) (fun s1 i=>(bH.L1 l (bH.K1)) s1 i) ((hl.mono Document.ak hle1).1.1) hs2 ?_ ?_
  ·rintro i1 eR hs4 e
   exact sr (an (nretP [I 0] (ci hs4)))
  ·rintro i1 y1 rz1 hd1 cz ar dF fF hs6 hx1 ag1 e
   refine sr (ae (v':=.bool true) U (cb cz) (qO 9 U (az (dU pz ty52 (hl.mono Document.ak hle1).1 (nthZ ar) (au ar) U U U (fun _ _ _ e=>e) (fun q3 r3 A3 ok4=>dg ty52 A3 U U (bG zc52 (fun b3=>fj (bC 0 ty52 U U U U U U (qO 2 U ?_)))))))))
   refine jM [(0,.slice eE l.length eD),(3,Q b1),(11,.slice eE l.length eD),(12,I (l.length:Int)),(13,I (i1:Int)),(41,.bool (((!(fG y1))||(decide (0 < (i1:Int))&&decide (y1.No≤(nthI l ((i1:Int) - 1)).No)))||(!(dT (bi l) y1))))] (fun e=>?_) (fun hk1=>?_)
   rotate_left
   ·let z2:Nat×Obj:=(b3,O (Document.cells y1 r3) 52)
    refine eA ([z2,z1]) mixed kr jn (fun cI _=>?_)
    refine tf 0 U U (fun _ _ hj=>jA ty52 U (hj.nth (i:=0) U) U) (tn 1 U (eO call105 (uG _ _ _ ok4) U (⟨jn,qA [2,3] U ?_⟩)))
    refine ct 21 U (fun c2=>?_) (fun c2=>?_)
    ·exact tk 4 U U (qR 5 19 U (aI kr (hk1 _ ⟨U,U,U,U,U,(cb (show true=(((!(fG y1))||(decide (0 < (i1:Int))&&decide (y1.No≤(nthI l ((i1:Int) - 1)).No)))||(!(dT (bi l) y1))) from by rw [c2] <;> rfl)),trivial⟩)))
    ·refine qR 4 3 U ?_
     refine ct 24 U (fun c3=>?_) (fun c3=>?_)
     ·have c3p:=of_decide_eq_true c3
      refine qB [7] U (tf 8 U U (fun _ _ hj=>fw ty3 U (hj.nth (i:=0) U) U) (qA [9,10] U (tf 11 U U (fun _ _ _=>kS (v':=I ((i1:Int) - 1)) U (gz ob)) ?_)))
      have ho2:0≤(((i1:Int) - 1):Int)∧(((i1:Int) - 1):Int) < ((l).length:Int):=ob
      refine gA 12 cI jn pz ty52 (hl.mono Document.ak hle1).1 ho2 (bJ ho2) U U U U kr (fun q4 cs4 A4 ln4 rr5=>?_)
      obtain ⟨r4,rfl,ok5⟩:=rr5
      refine qB [13] U (tf 14 U U (fun _ _ hj=>eL ty3 (A4.mono hj.1) U) (qR 15 4 U ?_))
      refine ct 36 U (fun c4=>?_) (fun c4=>?_)
      ·have c4p:=of_decide_eq_true c4
       exact tk 19 U U (qR 20 4 U (aI kr (hk1 _ ⟨U,U,U,U,U,(cb (show true=(((!(fG y1))||(decide (0 < (i1:Int))&&decide (y1.No≤(nthI l ((i1:Int) - 1)).No)))||(!(dT (bi l) y1))) from by rw [c2,c3,c4] <;> rfl)),trivial⟩)))
      ·have c4p:=of_decide_eq_false c4
       exact tf 19 U U (fun _ _ hj=>jA ty178 U (hj.nth (i:=1) U) U) (tf 20 U U (fun _ _ hj=>jA ty52 U (hj.nth (i:=0) U) U) (tn 21 U (eO call106 (mV _ _ _ _ _ ok1 ok4) U (⟨jn,qA [22,23] U (aI kr (hk1 _ ⟨U,U,U,U,U,(cb (show (!(dT (bi l) y1))=(((!(fG y1))||(decide (0 < (i1:Int))&&decide (y1.No≤(nthI l ((i1:Int) - 1)).No)))||(!(dT (bi l) y1))) from by rw [c2,c3,c4] <;> rfl)),trivial⟩))⟩))))
     ·have c3p:=of_decide_eq_false c3
      exact tk 7 U U (qR 8 11 U (tf 19 U U (fun _ _ hj=>jA ty178 U (hj.nth (i:=1) U) U) (tf 20 U U (fun _ _ hj=>jA ty52 U (hj.nth (i:=0) U) U) (tn 21 U (eO call106 (mV _ _ _ _ _ ok1 ok4) U (⟨jn,qA [22,23] U (aI kr (hk1 _ ⟨U,U,U,U,U,(cb (show (!(dT (bi l) y1))=(((!(fG y1))||(decide (0 < (i1:Int))&&decide (y1.No≤(nthI l ((i1:Int) - 1)).No)))||(!(dT (bi l) y1))) from by rw [c2,c3] <;> rfl)),trivial⟩))⟩))))))
   refine ac hs6 U (fun c5 hs7=>?_) (fun c5 hs8=>?_)
   ·exact sr (an (nretP [I 170] (ci hs7)))
   ·exact aG (qT 2 U (ae (v':=I (((i1+1):Nat):Int)) U (aL ob) (qO 2 U (bY (L':=[z1]) js (ag1 hs8)))))
theorem rA (h:HF) (dK:Int) (v0:Int) (v0_q:Addr) (av0:At h v0_q [I v0]):Ret prog 226 [I dK,.pointer (some v0_q)] h (.bool (ie dK v0)):=by
 refine sT func226 U ntmps226 U fun X hM hX hF=>?_
 have hs0:ie dK v0=ie dK v0:=rfl
 refine qT 9 U (cf 4 [6,7,8,9,10] 6 10 (decide (v0 < dK)) U (fun c1 hk1=>?_) (fun e=>?_))
 ·exact aj (cL ty3 av0 U (qO 2 U (hk1 _ U)))
 exact an (nretP [.bool (decide (dK < 0)||decide (v0 < dK))] (cs hs0))
theorem jt (h:HF) (most:Int) (l:List Int) (eE:Option Addr) (eD:Nat) (hl:SlC Rp.int h eE eD l):Ret prog 177 [I most,.slice eE l.length eD] h (.bool (dW most l)):=by
 refine sT func177 U ntmps177 U fun X hM hX hF=>?_
 have hs0:dW most l=dW most l:=rfl
 exact sr (cy (fun b1=>qO 5 U (bO 0 U hM (fun h1 hle1 hb1=>az (fX U U (ah Hj (iy _ _ _ _ (fun dX=>ie dX most) (.func (.func 226) #[] #[Q b1]) (hl.mono Rp.aW hle1) (fun h' dX hle =>i0 call226 (rA h' dX most ⟨b1,0,none⟩  ((dq hb1).mono hle)))) U (qO 3 U (nretP [.bool (!(cU l (fun dX=>ie dX most)))] (cs hs0)))))))))
end Go.Sg
