import Derived.ChangeSame
import Derived.Carry
import Derived.KernelRfl
import Derived.Test.YtngiefchigcphaaGreatDoorProg
import Derived.Test.YtngiefchigcphaaGreatDoorW1
import Derived.Test.YtngiefchigcphaaGreatDoorW2
import Derived.Test.YtngiefchigcphaaGreatDoorW3
import Derived.Test.YtngiefchigcphaaGreatDoorW4
import Derived.Test.YtngiefchigcphaaGreatDoorW5
/- A part of the proof of the law AsofEvery: where what it reads holds at most 1048576 values and letters, the call returns true and its arguments read as they did. Conditions: that bound, and that the listed table starts as the program lays it. -/
set_option linter.unusedVariables false
set_option linter.unusedSimpArgs false
namespace Go.Sg
open Go.ChangeShapes Go.WideShapes Go.RowKit
variable {H:Type} {enc:TypeId×Value→H} {P:Program}
theorem post_below {f:Func} {s:ChangeSpec} {apart fresh handsOn again:Bool} {W W':World} {args:Array Value} {v:Value} {ds gs:List (DataW H)} {before pa pv:List MemPlace}
  (hW:DataW.Whole enc P f.params.toList s.vars apart W args.toList ds gs before)
  (hres:∀ (b:Nat) (sp:Nat→Bool) (hd:Bool),DataW.TrodAll enc P W' b sp hd f.resultTypes.toList (v.resultList f.resultTypes.size) (s.fn H (ds++gs)).results [])
  (hargs:∀ sp:Nat→Bool,(∀ p∈before,sp p.block=true)→DataW.TrodAll enc P W' 0 sp true f.params.toList args.toList (s.fn H (ds++gs)).args pa)
  (hvars:∀ sp:Nat→Bool,(∀ p∈before,sp p.block=true)→DataW.TrodVars enc P W' sp s.vars (s.fn H (ds++gs)).vars pv)
  (hps:before=pa++pv) (hb:Below W.heap.size W W')
  (hok:∀ (j:Nat) (t:TypeId) (r:Value),f.resultTypes[j]? = some t→(v.resultList f.resultTypes.size)[j]? = some r→Value.okWide P W' .any 0 t r):
  s.post enc P f apart fresh handsOn again W args v W':=by
 have hlt:=hW.lt
 have hold:∀ p∈before,(fun b=>decide (b < W.heap.size)) p.block=true:=fun p hp=>by simpa using hlt p hp
 refine ⟨ds,gs,before,[],pa,pv,hW,hres _ _ _,hargs _ hold,hvars _ hold,World.keptBut_mono (fun p hp=>⟨hp,?_⟩) (hb.frame (·∈before)),fun _=>?_⟩
 ·rw [hps,List.mem_append] at hp
  exact Or.inr hp
 ·obtain ⟨_,_,_,_,_,hz,hn⟩:=hW
  refine ⟨hok,_,_,([]++pa)++pv,⟨[]++pa,pv,trodAll_append (hargs _ (fun _ _=>rfl)) (hres _ _ _),hvars _ (fun _ _=>rfl),rfl,?_,?_⟩,?_⟩
  ·intro b off hp
   have hp':MemPlace.cell b off∈before:=by rw [hps];simpa using hp
   rw [hb.frozen (p:=⟨b,off,none⟩) (hlt _ hp')]
   exact hz b off hp'
  ·intro ha
   have:=hn ha
   rw [hps] at this
   simpa using this
  ·intro p hp _
   rw [hps]
   simpa using hp
theorem stays {t:TypeId} (hl:laidOutB P=true) (hr:P.readableRec t=true) (hrow:decide (t < P.types.size)=true) {W W':World} {v:Value} {d:DataW H} {ps before:List MemPlace} (h:DataW.Trod enc P W 0 (fun _=>true) true t v d ps)
  (hb:Below W.heap.size W W') (hlt:∀ x∈before,x.block < W.heap.size) (hm:∀ x∈ps,x∈before) {sp:Nat→Bool} (hsp:∀ p∈before,sp p.block=true):DataW.Trod enc P W' 0 sp true t v d ps:=
 WideElems.Trod_stays hl hr (of_decide_eq_true hrow) h (fun x hx=>hb.same (hlt x (hm x hx))) (fun x hx=>hsp _ (hm x hx))
end Go.Sg
namespace Go.Sg
open Go.Proofs
set_option maxRecDepth 100000
set_option linter.unusedVariables false
theorem ty120:tySz Tryz.prog 120=some (1,false):=by kernel_rfl
theorem ty203:tySz Tryz.prog 203=some (1,false):=by kernel_rfl
theorem ty159:tySz Tryz.prog 159=some (1,false):=by kernel_rfl
theorem ty212:tySz Tryz.prog 212=some (2,true):=by kernel_rfl
theorem ty31:tySz Tryz.prog 31=some (1,false):=by kernel_rfl
theorem ty215:tySz Tryz.prog 215=some (1,false):=by kernel_rfl
theorem ty3:tySz Tryz.prog 3=some (1,false):=by kernel_rfl
theorem zc212:zeroC Tryz.prog 212=some [.int .i64 0,.int .i64 0]:=by kernel_rfl
theorem bytes212:bytesOf Tryz.prog 212=some 16:=by kernel_rfl
theorem zc3:zeroC Tryz.prog 3=some [.int .i64 0]:=by kernel_rfl
theorem bytes3:bytesOf Tryz.prog 3=some 8:=by kernel_rfl
theorem zc35:zeroC Tryz.prog 35=some [.int .i64 0]:=by kernel_rfl
theorem ty35:tySz Tryz.prog 35=some (1,false):=by kernel_rfl
theorem zc277:zeroC Tryz.prog 277=some [.int .i64 0]:=by kernel_rfl
theorem ty277:tySz Tryz.prog 277=some (1,true):=by kernel_rfl
theorem Ge:fldOf Tryz.prog 277 0=some 0:=by kernel_rfl
theorem ty148:tySz Tryz.prog 148=some (2,true):=by kernel_rfl
theorem ty146:tySz Tryz.prog 146=some (1,false):=by kernel_rfl
theorem ty145:tySz Tryz.prog 145=some (1,false):=by kernel_rfl
theorem ty149:tySz Tryz.prog 149=some (1,false):=by kernel_rfl
theorem ty61:tySz Tryz.prog 61=some (7,true):=by kernel_rfl
theorem ty24:tySz Tryz.prog 24=some (1,false):=by kernel_rfl
theorem ty4:tySz Tryz.prog 4=some (1,false):=by kernel_rfl
theorem ty26:tySz Tryz.prog 26=some (1,false):=by kernel_rfl
theorem ty34:tySz Tryz.prog 34=some (1,false):=by kernel_rfl
theorem ty46:tySz Tryz.prog 46=some (2,true):=by kernel_rfl
theorem ty90:tySz Tryz.prog 90=some (1,false):=by kernel_rfl
theorem ty77:tySz Tryz.prog 77=some (49,true):=by kernel_rfl
theorem zc148:zeroC Tryz.prog 148=some [.slice none 0 0,.int .i64 0]:=by kernel_rfl
theorem zc61:zeroC Tryz.prog 61=some [.int .i64 0,.int .i64 0,.int .i64 0,.int .i64 0,.int .i64 0,.bool false,.bool false]:=by kernel_rfl
theorem zc145:zeroC Tryz.prog 145=some [.map none]:=by kernel_rfl
theorem zc120:zeroC Tryz.prog 120=some [.map none]:=by kernel_rfl
theorem zc146:zeroC Tryz.prog 146=some [.chan none]:=by kernel_rfl
theorem zc149:zeroC Tryz.prog 149=some [.nilFunc]:=by kernel_rfl
theorem zc34:zeroC Tryz.prog 34=some [.slice none 0 0]:=by kernel_rfl
theorem zc46:zeroC Tryz.prog 46=some [.int .i64 0,.int .i64 0]:=by kernel_rfl
theorem zc90:zeroC Tryz.prog 90=some [.nilFunc]:=by kernel_rfl
theorem zc31:zeroC Tryz.prog 31=some [.slice none 0 0]:=by kernel_rfl
theorem zc77:zeroC Tryz.prog 77=some (.slice none 0 0::.slice none 0 0::.slice none 0 0::.slice none 0 0::.slice none 0 0::.slice none 0 0::.slice none 0 0::.int .i64 0::.int .i64 0::.int .i64 0::.int .i64 0::.int .i64 0::.int .i64 0::.slice none 0 0::.slice none 0 0::.slice none 0 0::.int .u8 0::.int .u8 0::.int .u8 0::.int .u8 0::.int .u8 0::.int .u8 0::.int .u8 0::.int .u8 0::.int .u8 0::.int .u8 0::.int .u8 0::.int .u8 0::.int .u8 0::.int .u8 0::.int .u8 0::.int .u8 0::.int .u8 0::.int .u8 0::.int .u8 0::.int .u8 0::.int .u8 0::.int .u8 0::.int .u8 0::.int .u8 0::.int .u8 0::.int .u8 0::.int .u8 0::.int .u8 0::.int .u8 0::.int .u8 0::.int .u8 0::.int .u8 0::.int .i64 0::[]):=by kernel_rfl
theorem zv4:zeroV Tryz.prog 4=some (.bool false):=by kernel_rfl
theorem zv24:zeroV Tryz.prog 24=some (.slice none 0 0):=by kernel_rfl
theorem zv148:zeroV Tryz.prog 148=some (.agg (List.toArray [.slice none 0 0,.int .i64 0])):=by kernel_rfl
theorem bytes61:bytesOf Tryz.prog 61=some 48:=by kernel_rfl
theorem bytes46:bytesOf Tryz.prog 46=some 16:=by kernel_rfl
theorem bytes148:bytesOf Tryz.prog 148=some 32:=by kernel_rfl
theorem xF:fldOf Tryz.prog 148 0=some 0:=by kernel_rfl
theorem ua:fldOf Tryz.prog 148 1=some 1:=by kernel_rfl
theorem nu:fldOf Tryz.prog 61 0=some 0:=by kernel_rfl
theorem mj:fldOf Tryz.prog 61 3=some 3:=by kernel_rfl
theorem oF:fldOf Tryz.prog 61 4=some 4:=by kernel_rfl
theorem tT:fldOf Tryz.prog 61 5=some 5:=by kernel_rfl
theorem tW:fldOf Tryz.prog 46 0=some 0:=by kernel_rfl
theorem pY:fldOf Tryz.prog 46 1=some 1:=by kernel_rfl
theorem xG:fldOf Tryz.prog 133 1=some 1:=by kernel_rfl
theorem zR:fldOf Tryz.prog 59 6=some 6:=by kernel_rfl
theorem oG:fldOf Tryz.prog 59 0=some 0:=by kernel_rfl
theorem pW:fldOf Tryz.prog 59 1=some 1:=by kernel_rfl
theorem vX:fldOf Tryz.prog 59 2=some 2:=by kernel_rfl
theorem vW:fldOf Tryz.prog 59 3=some 3:=by kernel_rfl
theorem tU:fldOf Tryz.prog 59 4=some 4:=by kernel_rfl
theorem rK:fldOf Tryz.prog 59 5=some 5:=by kernel_rfl
theorem ty59:tySz Tryz.prog 59=some (7,true):=by kernel_rfl
theorem zc59:zeroC Tryz.prog 59=some [.int .i64 0,.int .i64 0,.int .i64 0,.int .i64 0,.int .i64 0,.int .i64 0,.bool false]:=by kernel_rfl
theorem pp:fldOf Tryz.prog 169 0=some 0:=by kernel_rfl
theorem t8:fldOf Tryz.prog 169 1=some 1:=by kernel_rfl
theorem B1:fldOf Tryz.prog 169 2=some 2:=by kernel_rfl
theorem t7:fldOf Tryz.prog 169 4=some 4:=by kernel_rfl
theorem t6:fldOf Tryz.prog 169 5=some 5:=by kernel_rfl
theorem BZ:fldOf Tryz.prog 169 6=some 6:=by kernel_rfl
theorem BY:fldOf Tryz.prog 169 7=some 7:=by kernel_rfl
theorem BX:fldOf Tryz.prog 169 9=some 9:=by kernel_rfl
theorem po:fldOf Tryz.prog 169 3=some 3:=by kernel_rfl
theorem tZ:fldOf Tryz.prog 169 8=some 8:=by kernel_rfl
theorem ty169:tySz Tryz.prog 169=some (10,true):=by kernel_rfl
theorem zc169:zeroC Tryz.prog 169=some [.int .i64 0,.int .i64 0,.int .i64 0,.int .i64 0,.int .i64 0,.int .i64 0,.int .i64 0,.int .i64 0,.int .i64 0,.bool false]:=by kernel_rfl
theorem rJ:fldOf Tryz.prog 61 1=some 1:=by kernel_rfl
theorem zQ:fldOf Tryz.prog 61 2=some 2:=by kernel_rfl
theorem BW:fldOf Tryz.prog 173 7=some 7:=by kernel_rfl
theorem nU:fldOf Tryz.prog 173 0=some 0:=by kernel_rfl
theorem xE:fldOf Tryz.prog 173 1=some 1:=by kernel_rfl
theorem xD:fldOf Tryz.prog 173 2=some 2:=by kernel_rfl
theorem xC:fldOf Tryz.prog 173 3=some 3:=by kernel_rfl
theorem xB:fldOf Tryz.prog 173 4=some 4:=by kernel_rfl
theorem tY:fldOf Tryz.prog 173 5=some 5:=by kernel_rfl
theorem tX:fldOf Tryz.prog 173 6=some 6:=by kernel_rfl
theorem ty173:tySz Tryz.prog 173=some (8,true):=by kernel_rfl
theorem zc173:zeroC Tryz.prog 173=some [.int .i64 0,.int .i64 0,.int .i64 0,.int .i64 0,.int .i64 0,.int .i64 0,.int .i64 0,.bool false]:=by kernel_rfl
theorem ty285:tySz Tryz.prog 285=some (1,false):=by kernel_rfl
theorem ty66:tySz Tryz.prog 66=some (5,true):=by kernel_rfl
theorem zc258:zeroC Tryz.prog 258=some [.int .i64 0,.int .i64 0,.int .i64 0,.string (⟨#[]⟩:ByteArray),.slice none 0 0,.int .i64 0]:=by kernel_rfl
theorem dE:fldOf Tryz.prog 66 4=some 4:=by kernel_rfl
theorem ty64:tySz Tryz.prog 64=some (1,false):=by kernel_rfl
theorem zc66:zeroC Tryz.prog 66=some [.int .i64 0,.int .i64 0,.int .i64 0,.string (⟨#[]⟩:ByteArray),.slice none 0 0]:=by kernel_rfl
theorem ty258:tySz Tryz.prog 258=some (6,true):=by kernel_rfl
theorem e9:fldOf Tryz.prog 68 3=some 3:=by kernel_rfl
theorem ty63:tySz Tryz.prog 63=some (1,false):=by kernel_rfl
theorem ty107:tySz Tryz.prog 107=some (8,true):=by kernel_rfl
theorem zc107:zeroC Tryz.prog 107=some [.string (⟨#[]⟩:ByteArray),.int .i64 0,.int .i64 0,.int .i64 0,.int .i64 0,.int .i64 0,.string (⟨#[]⟩:ByteArray),.slice none 0 0]:=by kernel_rfl
theorem ka:fldOf Tryz.prog 107 3=some 3:=by kernel_rfl
theorem bytes66:bytesOf Tryz.prog 66=some 64:=by kernel_rfl
theorem lC:fldOf Tryz.prog 68 4=some 4:=by kernel_rfl
theorem jv:fldOf Tryz.prog 68 2=some 2:=by kernel_rfl
theorem ty62:tySz Tryz.prog 62=some (1,false):=by kernel_rfl
theorem kD:fldOf Tryz.prog 68 1=some 1:=by kernel_rfl
theorem ty68:tySz Tryz.prog 68=some (10,true):=by kernel_rfl
theorem Gg:fldOf Tryz.prog 258 1=some 5:=by kernel_rfl
theorem kE:fldOf Tryz.prog 66 0=some 0:=by kernel_rfl
theorem ty9:tySz Tryz.prog 9=some (1,false):=by kernel_rfl
theorem vV:fldOf Tryz.prog 68 0=some 0:=by kernel_rfl
theorem kV:fldOf Tryz.prog 258 0=some 0:=by kernel_rfl
theorem mi:fldOf Tryz.prog 66 3=some 3:=by kernel_rfl
theorem j0:fldOf Tryz.prog 66 1=some 1:=by kernel_rfl
theorem rI:fldOf Tryz.prog 68 5=some 9:=by kernel_rfl
theorem ub:fldOf Tryz.prog 107 0=some 0:=by kernel_rfl
theorem mX:fldOf Tryz.prog 107 2=some 2:=by kernel_rfl
theorem zc64:zeroC Tryz.prog 64=some [.slice none 0 0]:=by kernel_rfl
theorem ty165:tySz Tryz.prog 165=some (1,false):=by kernel_rfl
theorem mI:fldOf Tryz.prog 66 2=some 2:=by kernel_rfl
theorem zc68:zeroC Tryz.prog 68=some [.string (⟨#[]⟩:ByteArray),.slice none 0 0,.slice none 0 0,.slice none 0 0,.int .i64 0,.int .i64 0,.int .i64 0,.string (⟨#[]⟩:ByteArray),.slice none 0 0,.int .i64 0]:=by kernel_rfl
theorem rv:fldOf Tryz.prog 107 1=some 1:=by kernel_rfl
theorem bytes107:bytesOf Tryz.prog 107=some 96:=by kernel_rfl
theorem zc4:zeroC Tryz.prog 4=some [.bool false]:=by kernel_rfl
theorem ty70:tySz Tryz.prog 70=some (13,true):=by kernel_rfl
theorem zc70:zeroC Tryz.prog 70=some [.int .i64 0,.int .i64 0,.int .i64 0,.string (⟨#[]⟩:ByteArray),.slice none 0 0,.slice none 0 0,.slice none 0 0,.int .i64 0,.int .i64 0,.int .i64 0,.string (⟨#[]⟩:ByteArray),.slice none 0 0,.int .i64 0]:=by kernel_rfl
theorem nt:fldOf Tryz.prog 70 0=some 0:=by kernel_rfl
theorem tS:fldOf Tryz.prog 70 1=some 1:=by kernel_rfl
theorem vU:fldOf Tryz.prog 70 2=some 2:=by kernel_rfl
theorem pV:fldOf Tryz.prog 70 3=some 3:=by kernel_rfl
theorem zc178:zeroC Tryz.prog 178=some [.slice none 0 0,.map none]:=by kernel_rfl
theorem ty178:tySz Tryz.prog 178=some (2,true):=by kernel_rfl
theorem ty52:tySz Tryz.prog 52=some (41,true):=by kernel_rfl
theorem zc52:zeroC Tryz.prog 52=some (.int .i64 0::.int .i64 0::.int .i64 0::.int .i64 0::.int .i64 0::.int .i64 0::.slice none 0 0::.slice none 0 0::.slice none 0 0::.int .u8 0::.int .u8 0::.int .u8 0::.int .u8 0::.int .u8 0::.int .u8 0::.int .u8 0::.int .u8 0::.int .u8 0::.int .u8 0::.int .u8 0::.int .u8 0::.int .u8 0::.int .u8 0::.int .u8 0::.int .u8 0::.int .u8 0::.int .u8 0::.int .u8 0::.int .u8 0::.int .u8 0::.int .u8 0::.int .u8 0::.int .u8 0::.int .u8 0::.int .u8 0::.int .u8 0::.int .u8 0::.int .u8 0::.int .u8 0::.int .u8 0::.int .u8 0::[]):=by kernel_rfl
theorem BV:fldOf Tryz.prog 178 1=some 1:=by kernel_rfl
theorem ty176:tySz Tryz.prog 176=some (1,false):=by kernel_rfl
theorem j1:fldOf Tryz.prog 52 0=some 0:=by kernel_rfl
theorem ml:fldOf Tryz.prog 52 1=some 1:=by kernel_rfl
theorem oH:fldOf Tryz.prog 52 2=some 2:=by kernel_rfl
theorem rN:fldOf Tryz.prog 52 3=some 3:=by kernel_rfl
theorem vY:fldOf Tryz.prog 52 4=some 4:=by kernel_rfl
theorem pX:fldOf Tryz.prog 52 5=some 5:=by kernel_rfl
theorem tV:fldOf Tryz.prog 52 6=some 6:=by kernel_rfl
theorem rM:fldOf Tryz.prog 52 7=some 7:=by kernel_rfl
theorem rL:fldOf Tryz.prog 52 8=some 8:=by kernel_rfl
theorem zv3:zeroV Tryz.prog 3=some (.int .i64 0):=by kernel_rfl
theorem pm:fldOf Tryz.prog 181 0=some 0:=by kernel_rfl
theorem BU:fldOf Tryz.prog 181 1=some 1:=by kernel_rfl
theorem BT:fldOf Tryz.prog 181 2=some 2:=by kernel_rfl
theorem BS:fldOf Tryz.prog 181 3=some 3:=by kernel_rfl
theorem BR:fldOf Tryz.prog 181 4=some 4:=by kernel_rfl
theorem BQ:fldOf Tryz.prog 181 5=some 5:=by kernel_rfl
theorem BP:fldOf Tryz.prog 181 6=some 6:=by kernel_rfl
theorem ty181:tySz Tryz.prog 181=some (8,true):=by kernel_rfl
theorem zc181:zeroC Tryz.prog 181=some [.int .i64 0,.int .i64 0,.int .i64 0,.int .i64 0,.int .i64 0,.int .i64 0,.int .i64 0,.bool false]:=by kernel_rfl
theorem rO:fldOf Tryz.prog 30 0=some 0:=by kernel_rfl
theorem ty22:tySz Tryz.prog 22=some (1,false):=by kernel_rfl
theorem zU:fldOf Tryz.prog 30 1=some 1:=by kernel_rfl
theorem ty23:tySz Tryz.prog 23=some (1,false):=by kernel_rfl
theorem pZ:fldOf Tryz.prog 30 2=some 2:=by kernel_rfl
theorem zT:fldOf Tryz.prog 30 3=some 3:=by kernel_rfl
theorem ty25:tySz Tryz.prog 25=some (1,false):=by kernel_rfl
theorem lD:fldOf Tryz.prog 30 4=some 4:=by kernel_rfl
theorem kF:fldOf Tryz.prog 30 5=some 5:=by kernel_rfl
theorem ty27:tySz Tryz.prog 27=some (1,false):=by kernel_rfl
theorem zS:fldOf Tryz.prog 30 6=some 6:=by kernel_rfl
theorem ty28:tySz Tryz.prog 28=some (1,false):=by kernel_rfl
theorem ty30:tySz Tryz.prog 30=some (7,true):=by kernel_rfl
theorem mh:fldOf Tryz.prog 77 1=some 7:=by kernel_rfl
theorem pU:fldOf Tryz.prog 77 0=some 0:=by kernel_rfl
theorem ty101:tySz Tryz.prog 101=some (1,false):=by kernel_rfl
theorem ty133:tySz Tryz.prog 133=some (2,true):=by kernel_rfl
theorem zc133:zeroC Tryz.prog 133=some [.int .i64 0,.int .i64 0]:=by kernel_rfl
theorem xH:fldOf Tryz.prog 133 0=some 0:=by kernel_rfl
theorem Gj:fldOf Tryz.prog 164 1=some 1:=by kernel_rfl
theorem ty100:tySz Tryz.prog 100=some (1,false):=by kernel_rfl
theorem Gi:fldOf Tryz.prog 164 2=some 2:=by kernel_rfl
theorem ty164:tySz Tryz.prog 164=some (3,true):=by kernel_rfl
theorem zc261:zeroC Tryz.prog 261=some [.nilFunc]:=by kernel_rfl
theorem ty261:tySz Tryz.prog 261=some (1,false):=by kernel_rfl
theorem Gk:fldOf Tryz.prog 164 0=some 0:=by kernel_rfl
theorem zc227:zeroC Tryz.prog 227=some [.nilFunc,.nilFunc,.nilFunc,.nilFunc,.nilFunc]:=by kernel_rfl
theorem ty226:tySz Tryz.prog 226=some (1,false):=by kernel_rfl
theorem ty227:tySz Tryz.prog 227=some (5,true):=by kernel_rfl
theorem zc164:zeroC Tryz.prog 164=some [.int .i64 0,.slice none 0 0,.slice none 0 0]:=by kernel_rfl
theorem zv141:zeroV Tryz.prog 141=some (.nilFunc):=by kernel_rfl
theorem Hl:fldOf Tryz.prog 61 6=some 6:=by kernel_rfl
theorem ty205:tySz Tryz.prog 205=some (1,false):=by kernel_rfl
theorem zc207:zeroC Tryz.prog 207=some [.int .i64 0,.int .i64 0,.bool false]:=by kernel_rfl
theorem zv61:zeroV Tryz.prog 61=some (.agg (List.toArray [.int .i64 0,.int .i64 0,.int .i64 0,.int .i64 0,.int .i64 0,.bool false,.bool false])):=by kernel_rfl
theorem eqg61:Tryz.prog.eqGuardType Tryz.prog.depth 61=false:=by kernel_rfl
theorem zc205:zeroC Tryz.prog 205=some [.map none]:=by kernel_rfl
theorem ty207:tySz Tryz.prog 207=some (3,true):=by kernel_rfl
theorem zP:fldOf Tryz.prog 77 2=some 48:=by kernel_rfl
theorem zv70:zeroV Tryz.prog 70=some (.agg (List.toArray [.int .i64 0,.int .i64 0,.int .i64 0,.string (⟨#[]⟩:ByteArray),.slice none 0 0,.slice none 0 0,.slice none 0 0,.int .i64 0,.int .i64 0,.int .i64 0,.string (⟨#[]⟩:ByteArray),.slice none 0 0,.int .i64 0])):=by kernel_rfl
theorem zc26:zeroC Tryz.prog 26=some [.slice none 0 0]:=by kernel_rfl
theorem bytes70:bytesOf Tryz.prog 70=some 184:=by kernel_rfl
theorem bytes68:bytesOf Tryz.prog 68=some 160:=by kernel_rfl
theorem bytes133:bytesOf Tryz.prog 133=some 16:=by kernel_rfl
theorem zv59:zeroV Tryz.prog 59=some (.agg (List.toArray [.int .i64 0,.int .i64 0,.int .i64 0,.int .i64 0,.int .i64 0,.int .i64 0,.bool false])):=by kernel_rfl
theorem Gh:fldOf Tryz.prog 212 0=some 0:=by kernel_rfl
theorem zc101:zeroC Tryz.prog 101=some [.slice none 0 0]:=by kernel_rfl
theorem bytes101:bytesOf Tryz.prog 101=some 24:=by kernel_rfl
theorem bytes4:bytesOf Tryz.prog 4=some 1:=by kernel_rfl
theorem zc30:zeroC Tryz.prog 30=some [.slice none 0 0,.slice none 0 0,.slice none 0 0,.slice none 0 0,.slice none 0 0,.slice none 0 0,.slice none 0 0]:=by kernel_rfl
theorem zc9:zeroC Tryz.prog 9=some [.string (⟨#[]⟩:ByteArray)]:=by kernel_rfl
theorem eqg46:Tryz.prog.eqGuardType Tryz.prog.depth 46=false:=by kernel_rfl
theorem Hm:fldT Tryz.prog 70 3=some (68,3):=by kernel_rfl
def pb (x:fC) (h:HF) (vs:List Go.Value):Prop:=∃ (r0:uP),vs=[.agg (fC.cells x r0).toArray]∧fC.ok h x r0
theorem ls (x:fC) (h:HF) (vs:List Go.Value) (e:pb x h vs):vs.length=1:=by
 obtain ⟨_,e,_⟩:=e;rw [e];rfl
def w4 (x:Span) (h:HF) (vs:List Go.Value):Prop:=vs=[.agg (Span.cells x).toArray]
theorem zL (x:Span) (h:HF) (vs:List Go.Value) (e:w4 x h vs):vs.length=1:=by
 rw [e];rfl
def lK (x:Holder) (h:HF) (vs:List Go.Value):Prop:=vs=[.agg (Holder.cells x).toArray]
theorem nP (x:Holder) (h:HF) (vs:List Go.Value) (e:lK x h vs):vs.length=1:=by
 rw [e];rfl
def pK (x:Interest) (h:HF) (vs:List Go.Value):Prop:=vs=[.agg (Interest.cells x).toArray]
theorem uC (x:Interest) (h:HF) (vs:List Go.Value) (e:pK x h vs):vs.length=1:=by
 rw [e];rfl
def m7 (x:(Int×Version)) (h:HF) (vs:List Go.Value):Prop:=∃ (r0:kX),vs=[.int .i64 x.1,.agg (Version.cells x.2 r0).toArray]∧Version.ok h x.2 r0
theorem sb (x:(Int×Version)) (h:HF) (vs:List Go.Value) (e:m7 x h vs):vs.length=2:=by
 obtain ⟨_,e,_⟩:=e;rw [e];rfl
theorem Gn (a b:Span) (w:World):(Op.equal 46 (Span.enc a) (Span.enc b)).run Tryz.prog w=.ok (decide (a=b)) w:=
 vQ yG (by kernel_rfl) (by kernel_rfl) (by rw [Bool.eq_iff_iff];cases a;cases b;simp [eqv,nth,Span.cells]) w
theorem zV (a b:Interest) (w:World):(Op.equal 61 (Interest.enc a) (Interest.enc b)).run Tryz.prog w=.ok (decide (a=b)) w:=
 vQ Fd (by kernel_rfl) (by kernel_rfl) (by rw [Bool.eq_iff_iff];cases a;cases b;simp [eqv,nth,Interest.cells]) w
theorem zW (a b:dA) (w:World):(Op.equal 207 (dA.enc a) (dA.enc b)).run Tryz.prog w=.ok (decide (a=b)) w:=
 vQ DL (by kernel_rfl) (by kernel_rfl) (by rw [Bool.eq_iff_iff];cases a;cases b;simp [eqv,nth,dA.cells]) w
theorem oP:se Tryz.prog 207 dA.enc:=Bi DL (fun e a w=>wt e DL (by kernel_rfl) w) zW (fun a=>by
 show Instr.sameBits (9999+1) _ _=true
 simp [Instr.sameBits,dA.enc,dA.cells])
theorem EH (a b:OSeat) (w:World):(Op.equal 212 (OSeat.enc a) (OSeat.enc b)).run Tryz.prog w=.ok (decide (a=b)) w:=
 vQ DK (by kernel_rfl) (by kernel_rfl) (by rw [Bool.eq_iff_iff];cases a;cases b;simp [eqv,nth,OSeat.cells]) w
theorem sM:se Tryz.prog 212 OSeat.enc:=Bi DK (fun e a w=>wt e DK (by kernel_rfl) w) EH (fun a=>by
 show Instr.sameBits (9999+1) _ _=true
 simp [Instr.sameBits,OSeat.enc,OSeat.cells])
theorem mixed:Tryz.prog.follows .mixedOrders=true:=by kernel_rfl
end Go.Sg
namespace Go.Sg
open Go.Proofs
set_option maxHeartbeats 2000000
set_option maxRecDepth 100000
set_option linter.unusedVariables false
theorem iD (h:HF) (dQ:Int) (low:Int) (high:Int)  : Ret Tryz.prog 148 [I dQ,I low,I high] h (.bool (cr dQ low high)):=by
 refine ay Tryz.func148 U Tryz.ntmps148 U fun X hM hX=>?_
 have hs0:cr dQ low high=cr dQ low high:=rfl
 refine sr (an (sr (aa (aa (aJ U (aa ?_))))))
 refine tq 4 [(14,.bool (decide (low≤dQ)&&decide (dQ≤high)))] (fun hk1=>?_) (fun e=>?_)
 ·refine ar 10 U (fun c1=>?_) (fun c1=>?_)
  ·refine aa (aa (aJ U (ah U ?_)))
   exact hk1 _ ⟨(cb (cW c1)),trivial⟩
  ·refine kq (bP (ah U ?_))
   exact hk1 _ ⟨(cb (cX c1)),trivial⟩
 refine an ?_
 exact aw [.bool (decide (low≤dQ)&&decide (dQ≤high))] Tryz.func148 U hX rd (cs hs0)
theorem lh (h:HF) (dQ:Int)  : Ret Tryz.prog 89 [I dQ] h (.bool (dx dQ)):=by
 refine ay Tryz.func89 U Tryz.ntmps89 U fun X hM hX=>?_
 have hs0:dx dQ=dx dQ:=rfl
 refine sr (an (sr (aa (aG (v:=.bool (cr dQ 0 31)) yF (iD h dQ 0 31 ) U (an ?_)))))
 exact aw [.bool (cr dQ 0 31)] Tryz.func89 U hX rd (cs hs0)
theorem jf (h:HF) (dQ:Int)  : Ret Tryz.prog 90 [I dQ] h (.bool (bI dQ)):=by
 refine ay Tryz.func90 U Tryz.ntmps90 U fun X hM hX=>?_
 have hs0:bI dQ=bI dQ:=rfl
 refine sr (an (sr (aa (aG (v:=.bool (cr dQ 0 1099511627775)) yF (iD h dQ 0 1099511627775 ) U (an ?_)))))
 exact aw [.bool (cr dQ 0 1099511627775)] Tryz.func90 U hX rd (cs hs0)
theorem ng (h:HF) (dQ:Int)  : Ret Tryz.prog 168 [I dQ] h (.bool (fc dQ)):=by
 refine ay Tryz.func168 U Tryz.ntmps168 U fun X hM hX=>?_
 have hs0:fc dQ=fc dQ:=rfl
 refine sr (an (sr (aa (aG (v:=.bool (cr dQ 0 63)) yF (iD h dQ 0 63 ) U (an ?_)))))
 exact aw [.bool (cr dQ 0 63)] Tryz.func168 U hX rd (cs hs0)
theorem uy (h:HF) (x:Appoint)  : Ret Tryz.prog 99 [.agg (Appoint.cells x).toArray] h (.bool (jw x)):=by
 refine ay Tryz.func99 U Tryz.ntmps99 U fun X hM hX=>?_
 have hs0:jw x=jw x:=rfl
 refine sr (dy (fun b1=>an (sr (ba (an (ae (sr (az zR U (aO 0 ty4 U U U (ac ?_))))))))))
 refine aE U (fun c1=>?_) (fun c1=>?_)
 ·have hs1:=hs0.trans (bt c1)
  refine ai (ba (an (sr (az oG U (aO 0 ty3 U U U (aG (v:=.bool (cr x.No 0 1048576)) yF (iD h x.No 0 1048576 ) U (aa ?_)))))))
  refine tq 4 [(1,Q b1),(3,I 0),(4,I 0),(14,.bool ((cr x.No 0 1048576)&&(bI x.At)))] (fun hk1=>?_) (fun e=>?_)
  ·refine ar 10 U (fun c2=>?_) (fun c2=>?_)
   ·refine az pW U (aO 0 ty3 U U U (aG (v:=.bool (bI x.At)) Au (jf h x.At ) U (ah U ?_)))
    exact hk1 _ ⟨U,U,U,(cb (cW c2)),trivial⟩
   ·refine kq (bP (ah U ?_))
    exact hk1 _ ⟨U,U,U,(cb (cX c2)),trivial⟩
  refine aa ?_
  refine tq 4 [(1,Q b1),(3,I 0),(4,I 0),(19,.bool (((cr x.No 0 1048576)&&(bI x.At))&&(bI x.Known)))] (fun hk2=>?_) (fun e=>?_)
  ·refine ar 15 U (fun c3=>?_) (fun c3=>?_)
   ·refine az vX U (aO 0 ty3 U U U (aG (v:=.bool (bI x.Known)) Au (jf h x.Known ) U (ah U ?_)))
    exact hk2 _ ⟨U,U,U,(cb (cW c3)),trivial⟩
   ·refine kq (bP (ah U ?_))
    exact hk2 _ ⟨U,U,U,(cb (cX c3)),trivial⟩
  refine aa ?_
  refine tq 4 [(1,Q b1),(3,I 0),(4,I 0),(24,.bool ((((cr x.No 0 1048576)&&(bI x.At))&&(bI x.Known))&&(dx x.Office)))] (fun hk3=>?_) (fun e=>?_)
  ·refine ar 20 U (fun c4=>?_) (fun c4=>?_)
   ·refine az vW U (aO 0 ty3 U U U (aG (v:=.bool (dx x.Office)) Tryz.call89 (lh h x.Office ) U (ah U ?_)))
    exact hk3 _ ⟨U,U,U,(cb (cW c4)),trivial⟩
   ·refine kq (bP (ah U ?_))
    exact hk3 _ ⟨U,U,U,(cb (cX c4)),trivial⟩
  refine aa ?_
  refine tq 4 [(1,Q b1),(3,I 0),(4,I 0),(29,.bool (((((cr x.No 0 1048576)&&(bI x.At))&&(bI x.Known))&&(dx x.Office))&&(fc x.Person)))] (fun hk4=>?_) (fun e=>?_)
  ·refine ar 25 U (fun c5=>?_) (fun c5=>?_)
   ·refine az tU U (aO 0 ty3 U U U (aG (v:=.bool (fc x.Person)) Tryz.call168 (ng h x.Person ) U (ah U ?_)))
    exact hk4 _ ⟨U,U,U,(cb (cW c5)),trivial⟩
   ·refine kq (bP (ah U ?_))
    exact hk4 _ ⟨U,U,U,(cb (cX c5)),trivial⟩
  refine aa ?_
  refine tq 6 [(36,.bool ((((((cr x.No 0 1048576)&&(bI x.At))&&(bI x.Known))&&(dx x.Office))&&(fc x.Person))&&(cr x.Weight 0 0)))] (fun hk5=>?_) (fun e=>?_)
  ·refine ar 30 U (fun c6=>?_) (fun c6=>?_)
   ·refine az rK U (aO 0 ty3 U U U (aa (aa (aG (v:=.bool (cr x.Weight 0 0)) yF (iD h x.Weight 0 0 ) U (ah U ?_)))))
    exact hk5 _ ⟨(cb (cW c6)),trivial⟩
   ·refine kq (kq (bP (ah U ?_)))
    exact hk5 _ ⟨(cb (cX c6)),trivial⟩
  refine an ?_
  exact aw [.bool ((((((cr x.No 0 1048576)&&(bI x.At))&&(bI x.Known))&&(dx x.Office))&&(fc x.Person))&&(cr x.Weight 0 0))] Tryz.func99 U hX rd (cs hs1)
 ·have hs3:=hs0.trans (bf c1)
  refine ao (sr (az oG U (aO 0 ty3 U U U (aG (v:=.bool (cr x.No 0 1048576)) yF (iD h x.No 0 1048576 ) U (aa ?_)))))
  refine tq 4 [(1,Q b1),(3,I 1),(4,I 64),(14,.bool ((cr x.No 0 1048576)&&(bI x.At)))] (fun hk6=>?_) (fun e=>?_)
  ·refine ar 10 U (fun c7=>?_) (fun c7=>?_)
   ·refine az pW U (aO 0 ty3 U U U (aG (v:=.bool (bI x.At)) Au (jf h x.At ) U (ah U ?_)))
    exact hk6 _ ⟨U,U,U,(cb (cW c7)),trivial⟩
   ·refine kq (bP (ah U ?_))
    exact hk6 _ ⟨U,U,U,(cb (cX c7)),trivial⟩
  refine aa ?_
  refine tq 4 [(1,Q b1),(3,I 1),(4,I 64),(19,.bool (((cr x.No 0 1048576)&&(bI x.At))&&(bI x.Known)))] (fun hk7=>?_) (fun e=>?_)
  ·refine ar 15 U (fun c8=>?_) (fun c8=>?_)
   ·refine az vX U (aO 0 ty3 U U U (aG (v:=.bool (bI x.Known)) Au (jf h x.Known ) U (ah U ?_)))
    exact hk7 _ ⟨U,U,U,(cb (cW c8)),trivial⟩
   ·refine kq (bP (ah U ?_))
    exact hk7 _ ⟨U,U,U,(cb (cX c8)),trivial⟩
  refine aa ?_
  refine tq 4 [(1,Q b1),(3,I 1),(4,I 64),(24,.bool ((((cr x.No 0 1048576)&&(bI x.At))&&(bI x.Known))&&(dx x.Office)))] (fun hk8=>?_) (fun e=>?_)
  ·refine ar 20 U (fun c9=>?_) (fun c9=>?_)
   ·refine az vW U (aO 0 ty3 U U U (aG (v:=.bool (dx x.Office)) Tryz.call89 (lh h x.Office ) U (ah U ?_)))
    exact hk8 _ ⟨U,U,U,(cb (cW c9)),trivial⟩
   ·refine kq (bP (ah U ?_))
    exact hk8 _ ⟨U,U,U,(cb (cX c9)),trivial⟩
  refine aa ?_
  refine tq 4 [(1,Q b1),(3,I 1),(4,I 64),(29,.bool (((((cr x.No 0 1048576)&&(bI x.At))&&(bI x.Known))&&(dx x.Office))&&(fc x.Person)))] (fun hk9=>?_) (fun e=>?_)
  ·refine ar 25 U (fun c10=>?_) (fun c10=>?_)
   ·refine az tU U (aO 0 ty3 U U U (aG (v:=.bool (fc x.Person)) Tryz.call168 (ng h x.Person ) U (ah U ?_)))
    exact hk9 _ ⟨U,U,U,(cb (cW c10)),trivial⟩
   ·refine kq (bP (ah U ?_))
    exact hk9 _ ⟨U,U,U,(cb (cX c10)),trivial⟩
  refine aa ?_
  refine tq 6 [(36,.bool ((((((cr x.No 0 1048576)&&(bI x.At))&&(bI x.Known))&&(dx x.Office))&&(fc x.Person))&&(cr x.Weight 1 64)))] (fun hk10=>?_) (fun e=>?_)
  ·refine ar 30 U (fun c11=>?_) (fun c11=>?_)
   ·refine az rK U (aO 0 ty3 U U U (aa (aa (aG (v:=.bool (cr x.Weight 1 64)) yF (iD h x.Weight 1 64 ) U (ah U ?_)))))
    exact hk10 _ ⟨(cb (cW c11)),trivial⟩
   ·refine kq (kq (bP (ah U ?_)))
    exact hk10 _ ⟨(cb (cX c11)),trivial⟩
  refine an ?_
  exact aw [.bool ((((((cr x.No 0 1048576)&&(bI x.At))&&(bI x.Known))&&(dx x.Office))&&(fc x.Person))&&(cr x.Weight 1 64))] Tryz.func99 U hX rd (cs hs3)
theorem o9 (h:HF) (l:(List Appoint)) (eW:Option Addr) (eV:Nat) (hl:SlC Appoint.rp h eW eV l):Ret Tryz.prog 51 [.slice eW l.length eV] h (I (cQ l)):=by
 refine ay Fc U Tryz.ntmps51 U fun X hM hX=>?_
 have hs0:cQ l=cQ l:=rfl
 refine sr (an (ae (sr (aa (bC na U (aJ U (ac ?_)))))))
 refine aE U (fun c1=>?_) (fun c1=>?_)
 ·have c1p:=of_decide_eq_true c1
  have hs1:=hs0.trans (bt c1)
  refine sr (an ?_)
  exact aw [I 2] Fc U hX rd (ci hs1)
 ·have c1p:=of_decide_eq_false c1
  have hs3:=hs0.trans (bf c1)
  refine ao (sr (an (ae (sr (aa (bC na U (aa (ac ?_))))))))
  refine br (ι:=Nat×Int) (fun i=>[]) (fun i=>h) (fun i=>[]) (fun i=>i.1≤l.length∧cQ l=((cQ.K1) i.2)) ?_ (fun hx1=>?_)
  ·rintro ⟨i1,fP⟩ ⟨bd,hs4⟩ e
   try dsimp only at bd
   try dsimp only
   refine sr (an ?_)
   exact aw [I 0] Fc U hX rd (ci hs4)
  ·refine cp (ι:=Nat×Int×List Appoint) (fun i=>[(3,I i.2.1),(9,.slice eW l.length eV),(10,I ((l.length:Nat):Int)),(11,I ((i.1:Nat):Int))]) (fun i=>h) (fun i=>[]) (fun i=>l.drop i.1=i.2.2∧i.1≤l.length∧cQ l=((cQ.L1 (cQ.K1)) i.2.2 i.2.1)) (fun i=>i.2.2.length) (0,(-1),l) rd sw ⟨U,Nat.zero_le _,hs3⟩ ?_
   rintro ⟨i1,fP,s1⟩ ⟨hd1,bd,hs6⟩ ag1 e
   try dsimp only at hd1 bd
   rcases s1 with _ | ⟨y1,rz1⟩
   ·have dI:=cU hd1
    try dsimp only
    refine sr (aB (v':=.bool false) U (cb dI) (ac (ae (bg U (bO U ?_)))))
    exact hx1 (i1,fP) _ ⟨bd,hs6⟩ trivial
   ·have dH:=dY hd1
    have bh:=cY hd1
    have eT:=aT hd1
    have gx:=hl.1.1
    try dsimp only
    refine sr (aB (v':=.bool true) U (cb dH) (ac (ae (bn U (ao (ae (aW (sr (a8 (fQ (enc:=Appoint.cells) (fun _ _ _ e=>e) na ty59 hl.1 (nthZ bh) (bB bh) U U U (fun q2 A2=>?_)))))))))))
    refine ed ty59 A2 U U (bX zc59 (fun b2=>bN 0 ty59 U U U U U U (ac (ae (sr (dq 0 ty59 U U U (aG (v:=.bool (jw y1)) Tryz.call99 (uy h y1 ) U (cV U (aa ?_)))))))))
    refine tq 5 [(5,Q b2),(9,.slice eW l.length eV),(10,I ((l.length:Nat):Int)),(11,I ((i1:Nat):Int)),(23,.bool ((!(jw y1))||decide (y1.No≤fP)))] (fun hk1=>?_) (fun e=>?_)
    ·refine ar 18 U (fun c2=>?_) (fun c2=>?_)
     ·refine kq (kq (ah U ?_))
      exact hk1 _ ⟨U,U,U,U,(cb (dL c2)),trivial⟩
     ·refine az oG U (aO 0 ty3 U U U (aa (aJ U (ah U ?_))))
      exact hk1 _ ⟨U,U,U,U,(cb (dM c2)),trivial⟩
    refine ac ?_
    refine aE U (fun c3=>?_) (fun c3=>?_)
    ·have hs8:=hs6.trans (bt c3)
     refine sr (an ?_)
     exact aw [I 150] Fc U hX rd (ci hs8)
    ·have hs10:=hs6.trans (bf c3)
     refine ao (ai (az oG U (aO 0 ty3 U U U (an (av (ai (aB (v':=I (((i1+1):Nat):Int)) U (bW ob) (aa (ac ?_)))))))))
     refine cE (L':=[]) js ?_
     exact ag1 ((i1+1),y1.No,rz1) _ (Nat.lt_succ_self _) ⟨bF hd1,aT hd1,hs10⟩ rd
theorem iV (h:HF) (dQ:Int) (low:Int) (high:Int)  : Ret Tryz.prog 169 [I dQ,I low,I high] h (.bool (cS dQ low high)):=by
 refine ay Tryz.func169 U Tryz.ntmps169 U fun X hM hX=>?_
 have hs0:cS dQ low high=cS dQ low high:=rfl
 refine sr (an (sr (aa (aa (aJ U (aa ?_))))))
 refine tq 4 [(14,.bool (decide (low≤dQ)&&decide (dQ≤high)))] (fun hk1=>?_) (fun e=>?_)
 ·refine ar 10 U (fun c1=>?_) (fun c1=>?_)
  ·refine aa (aa (aJ U (ah U ?_)))
   exact hk1 _ ⟨(cb (cW c1)),trivial⟩
  ·refine kq (bP (ah U ?_))
   exact hk1 _ ⟨(cb (cX c1)),trivial⟩
 refine an ?_
 exact aw [.bool (decide (low≤dQ)&&decide (dQ≤high))] Tryz.func169 U hX rd (cs hs0)
theorem nW (h:HF) (dQ:Int)  : Ret Tryz.prog 170 [I dQ] h (.bool (em dQ)):=by
 refine ay Tryz.func170 U Tryz.ntmps170 U fun X hM hX=>?_
 have hs0:em dQ=em dQ:=rfl
 refine sr (an (sr (aa (aG (v:=.bool (cS dQ 0 1099511627775)) As (iV h dQ 0 1099511627775 ) U (an ?_)))))
 exact aw [.bool (cS dQ 0 1099511627775)] Tryz.func170 U hX rd (cs hs0)
end Go.Sg
namespace Go.Sg
open Go.Proofs
set_option maxHeartbeats 2000000
set_option maxRecDepth 100000
set_option linter.unusedVariables false
theorem mY (h:HF) (dQ:Int)  : Ret Tryz.prog 171 [I dQ] h (.bool (eB dQ)):=by
 refine ay Tryz.func171 U Tryz.ntmps171 U fun X hM hX=>?_
 have hs0:eB dQ=eB dQ:=rfl
 refine sr (an (sr (aa (aG (v:=.bool (cS dQ 0 63)) As (iV h dQ 0 63 ) U (an ?_)))))
 exact aw [.bool (cS dQ 0 63)] Tryz.func171 U hX rd (cs hs0)
theorem ue (h:HF) (x:Deputy)  : Ret Tryz.prog 100 [.agg (Deputy.cells x).toArray] h (.bool (jd x)):=by
 refine ay Fb U Tryz.ntmps100 U fun X hM hX=>?_
 have hs0:jd x=jd x:=rfl
 refine sr (dy (fun b1=>an (ae (sr (az pp U (aO 0 ty3 U U U (aG (v:=.bool (cS x.No 0 1048576)) As (iV h x.No 0 1048576 ) U (cV U (aa ?_)))))))))
 refine tq 5 [(1,Q b1),(12,.bool ((!(cS x.No 0 1048576))||(!(em x.At))))] (fun hk1=>?_) (fun e=>?_)
 ·refine ar 7 U (fun c1=>?_) (fun c1=>?_)
  ·refine kq (kq (ah U ?_))
   exact hk1 _ ⟨U,(cb (dL c1)),trivial⟩
  ·refine az t8 U (aO 0 ty3 U U U (aG (v:=.bool (em x.At)) Tryz.call170 (nW h x.At ) U (cV U (ah U ?_))))
   exact hk1 _ ⟨U,(cb (dM c1)),trivial⟩
 refine aa ?_
 refine tq 5 [(1,Q b1),(18,.bool (((!(cS x.No 0 1048576))||(!(em x.At)))||(!(em x.Known))))] (fun hk2=>?_) (fun e=>?_)
 ·refine ar 13 U (fun c2=>?_) (fun c2=>?_)
  ·refine kq (kq (ah U ?_))
   exact hk2 _ ⟨U,(cb (dL c2)),trivial⟩
  ·refine az B1 U (aO 0 ty3 U U U (aG (v:=.bool (em x.Known)) Tryz.call170 (nW h x.Known ) U (cV U (ah U ?_))))
   exact hk2 _ ⟨U,(cb (dM c2)),trivial⟩
 refine aa ?_
 refine tq 5 [(1,Q b1),(24,.bool ((((!(cS x.No 0 1048576))||(!(em x.At)))||(!(em x.Known)))||(!(eB x.From))))] (fun hk3=>?_) (fun e=>?_)
 ·refine ar 19 U (fun c3=>?_) (fun c3=>?_)
  ·refine kq (kq (ah U ?_))
   exact hk3 _ ⟨U,(cb (dL c3)),trivial⟩
  ·refine az t7 U (aO 0 ty3 U U U (aG (v:=.bool (eB x.From)) Tryz.call171 (mY h x.From ) U (cV U (ah U ?_))))
   exact hk3 _ ⟨U,(cb (dM c3)),trivial⟩
 refine aa ?_
 refine tq 5 [(1,Q b1),(30,.bool (((((!(cS x.No 0 1048576))||(!(em x.At)))||(!(em x.Known)))||(!(eB x.From)))||(!(eB x.To))))] (fun hk4=>?_) (fun e=>?_)
 ·refine ar 25 U (fun c4=>?_) (fun c4=>?_)
  ·refine kq (kq (ah U ?_))
   exact hk4 _ ⟨U,(cb (dL c4)),trivial⟩
  ·refine az t6 U (aO 0 ty3 U U U (aG (v:=.bool (eB x.To)) Tryz.call171 (mY h x.To ) U (cV U (ah U ?_))))
   exact hk4 _ ⟨U,(cb (dM c4)),trivial⟩
 refine aa ?_
 refine tq 6 [(1,Q b1),(37,.bool ((((((!(cS x.No 0 1048576))||(!(em x.At)))||(!(em x.Known)))||(!(eB x.From)))||(!(eB x.To)))||(x.From==x.To)))] (fun hk5=>?_) (fun e=>?_)
 ·refine ar 31 U (fun c5=>?_) (fun c5=>?_)
  ·refine kq (kq (bP (ah U ?_)))
   exact hk5 _ ⟨U,(cb (dL c5)),trivial⟩
  ·refine az t7 U (aO 0 ty3 U U U (az t6 U (aO 0 ty3 U U U (aJ U (ah U ?_)))))
   exact hk5 _ ⟨U,(cb (dM c5)),trivial⟩
 refine aa ?_
 refine tq 5 [(1,Q b1),(43,.bool (((((((!(cS x.No 0 1048576))||(!(em x.At)))||(!(em x.Known)))||(!(eB x.From)))||(!(eB x.To)))||(x.From==x.To))||(!(cS x.Office 0 31))))] (fun hk6=>?_) (fun e=>?_)
 ·refine ar 38 U (fun c6=>?_) (fun c6=>?_)
  ·refine kq (kq (ah U ?_))
   exact hk6 _ ⟨U,(cb (dL c6)),trivial⟩
  ·refine az BZ U (aO 0 ty3 U U U (aG (v:=.bool (cS x.Office 0 31)) As (iV h x.Office 0 31 ) U (cV U (ah U ?_))))
   exact hk6 _ ⟨U,(cb (dM c6)),trivial⟩
 refine aa ?_
 refine tq 5 [(1,Q b1),(49,.bool ((((((((!(cS x.No 0 1048576))||(!(em x.At)))||(!(em x.Known)))||(!(eB x.From)))||(!(eB x.To)))||(x.From==x.To))||(!(cS x.Office 0 31)))||(!(cS x.Kind (-1) 15))))] (fun hk7=>?_) (fun e=>?_)
 ·refine ar 44 U (fun c7=>?_) (fun c7=>?_)
  ·refine kq (kq (ah U ?_))
   exact hk7 _ ⟨U,(cb (dL c7)),trivial⟩
  ·refine az BY U (aO 0 ty3 U U U (aG (v:=.bool (cS x.Kind (-1) 15)) As (iV h x.Kind (-1) 15 ) U (cV U (ah U ?_))))
   exact hk7 _ ⟨U,(cb (dM c7)),trivial⟩
 refine ac ?_
 refine aE U (fun c8=>?_) (fun c8=>?_)
 ·have hs1:=hs0.trans (bt c8)
  refine sr (an ?_)
  exact aw [.bool false] Fb U hX rd (cs hs1)
 ·have hs3:=hs0.trans (bf c8)
  refine ao (ae (sr (az BX U (aO 0 ty4 U U U (ac ?_)))))
  refine aE U (fun c9=>?_) (fun c9=>?_)
  ·have hs4:=hs3.trans (bt c9)
   refine sr (az po U (aO 0 ty3 U U U (aJ U (aa ?_))))
   refine tq 4 [(59,.bool ((x.Until==0)&&(x.Most==0)))] (fun hk8=>?_) (fun e=>?_)
   ·refine ar 55 U (fun c10=>?_) (fun c10=>?_)
    ·refine az tZ U (aO 0 ty3 U U U (aJ U (ah U ?_)))
     exact hk8 _ ⟨(cb (cW c10)),trivial⟩
    ·refine kq (bP (ah U ?_))
     exact hk8 _ ⟨(cb (cX c10)),trivial⟩
   refine an ?_
   exact aw [.bool ((x.Until==0)&&(x.Most==0))] Fb U hX rd (cs hs4)
  ·have hs6:=hs3.trans (bf c9)
   refine ao (sr (az t8 U (aO 0 ty3 U U U (az po U (aO 0 ty3 U U U (aJ U (aa ?_)))))))
   refine tq 4 [(1,Q b1),(69,.bool (decide (x.At < x.Until)&&decide (x.Until≤1099511627776)))] (fun hk9=>?_) (fun e=>?_)
   ·refine ar 65 U (fun c11=>?_) (fun c11=>?_)
    ·refine az po U (aO 0 ty3 U U U (aJ U (ah U ?_)))
     exact hk9 _ ⟨U,(cb (cW c11)),trivial⟩
    ·refine kq (bP (ah U ?_))
     exact hk9 _ ⟨U,(cb (cX c11)),trivial⟩
   refine aa ?_
   refine tq 4 [(74,.bool ((decide (x.At < x.Until)&&decide (x.Until≤1099511627776))&&(cS x.Most 0 1099511627776)))] (fun hk10=>?_) (fun e=>?_)
   ·refine ar 70 U (fun c12=>?_) (fun c12=>?_)
    ·refine az tZ U (aO 0 ty3 U U U (aG (v:=.bool (cS x.Most 0 1099511627776)) As (iV h x.Most 0 1099511627776 ) U (ah U ?_)))
     exact hk10 _ ⟨(cb (cW c12)),trivial⟩
    ·refine kq (bP (ah U ?_))
     exact hk10 _ ⟨(cb (cX c12)),trivial⟩
   refine an ?_
   exact aw [.bool ((decide (x.At < x.Until)&&decide (x.Until≤1099511627776))&&(cS x.Most 0 1099511627776))] Fb U hX rd (cs hs6)
theorem uf (h:HF) (l:(List Deputy)) (eW:Option Addr) (eV:Nat) (hl:SlC Deputy.rp h eW eV l):Ret Tryz.prog 52 [.slice eW l.length eV] h (I (df l)):=by
 refine ay Fa U Tryz.ntmps52 U fun X hM hX=>?_
 have hs0:df l=df l:=rfl
 refine sr (an (ae (sr (aa (bC sj U (aJ U (ac ?_)))))))
 refine aE U (fun c1=>?_) (fun c1=>?_)
 ·have c1p:=of_decide_eq_true c1
  have hs1:=hs0.trans (bt c1)
  refine sr (an ?_)
  exact aw [I 2] Fa U hX rd (ci hs1)
 ·have c1p:=of_decide_eq_false c1
  have hs3:=hs0.trans (bf c1)
  refine ao (sr (an (ae (sr (aa (bC sj U (aa (ac ?_))))))))
  refine br (ι:=Nat×Int) (fun i=>[]) (fun i=>h) (fun i=>[]) (fun i=>i.1≤l.length∧df l=((df.K1) i.2)) ?_ (fun hx1=>?_)
  ·rintro ⟨i1,fP⟩ ⟨bd,hs4⟩ e
   try dsimp only at bd
   try dsimp only
   refine sr (an ?_)
   exact aw [I 0] Fa U hX rd (ci hs4)
  ·refine cp (ι:=Nat×Int×List Deputy) (fun i=>[(3,I i.2.1),(9,.slice eW l.length eV),(10,I ((l.length:Nat):Int)),(11,I ((i.1:Nat):Int))]) (fun i=>h) (fun i=>[]) (fun i=>l.drop i.1=i.2.2∧i.1≤l.length∧df l=((df.L1 (df.K1)) i.2.2 i.2.1)) (fun i=>i.2.2.length) (0,(-1),l) rd sw ⟨U,Nat.zero_le _,hs3⟩ ?_
   rintro ⟨i1,fP,s1⟩ ⟨hd1,bd,hs6⟩ ag1 e
   try dsimp only at hd1 bd
   rcases s1 with _ | ⟨y1,rz1⟩
   ·have dI:=cU hd1
    try dsimp only
    refine sr (aB (v':=.bool false) U (cb dI) (ac (ae (bg U (bO U ?_)))))
    exact hx1 (i1,fP) _ ⟨bd,hs6⟩ trivial
   ·have dH:=dY hd1
    have bh:=cY hd1
    have eT:=aT hd1
    have gx:=hl.1.1
    try dsimp only
    refine sr (aB (v':=.bool true) U (cb dH) (ac (ae (bn U (ao (ae (aW (sr (a8 (fQ (enc:=Deputy.cells) (fun _ _ _ e=>e) sj ty169 hl.1 (nthZ bh) (bB bh) U U U (fun q2 A2=>?_)))))))))))
    refine ed ty169 A2 U U (bX zc169 (fun b2=>bN 0 ty169 U U U U U U (ac (ae (sr (dq 0 ty169 U U U (aG (v:=.bool (jd y1)) Tryz.call100 (ue h y1 ) U (cV U (aa ?_)))))))))
    refine tq 5 [(5,Q b2),(9,.slice eW l.length eV),(10,I ((l.length:Nat):Int)),(11,I ((i1:Nat):Int)),(23,.bool ((!(jd y1))||decide (y1.No≤fP)))] (fun hk1=>?_) (fun e=>?_)
    ·refine ar 18 U (fun c2=>?_) (fun c2=>?_)
     ·refine kq (kq (ah U ?_))
      exact hk1 _ ⟨U,U,U,U,(cb (dL c2)),trivial⟩
     ·refine az pp U (aO 0 ty3 U U U (aa (aJ U (ah U ?_))))
      exact hk1 _ ⟨U,U,U,U,(cb (dM c2)),trivial⟩
    refine ac ?_
    refine aE U (fun c3=>?_) (fun c3=>?_)
    ·have hs8:=hs6.trans (bt c3)
     refine sr (an ?_)
     exact aw [I 160] Fa U hX rd (ci hs8)
    ·have hs10:=hs6.trans (bf c3)
     refine ao (ai (az pp U (aO 0 ty3 U U U (an (av (ai (aB (v':=I (((i1+1):Nat):Int)) U (bW ob) (aa (ac ?_)))))))))
     refine cE (L':=[]) js ?_
     exact ag1 ((i1+1),y1.No,rz1) _ (Nat.lt_succ_self _) ⟨bF hd1,aT hd1,hs10⟩ rd
theorem fU (h:HF) (dQ:Int) (limit:Int)  : Ret Tryz.prog 145 [I dQ,I limit] h (.bool (aL dQ limit)):=by
 refine ay Tryz.func145 U Tryz.ntmps145 U fun X hM hX=>?_
 have hs0:aL dQ limit=aL dQ limit:=rfl
 refine sr (an (sr (aa (aJ U (aa ?_)))))
 refine tq 4 [(11,.bool (decide (0≤dQ)&&decide (dQ < limit)))] (fun hk1=>?_) (fun e=>?_)
 ·refine ar 7 U (fun c1=>?_) (fun c1=>?_)
  ·refine aa (aa (aJ U (ah U ?_)))
   exact hk1 _ ⟨(cb (cW c1)),trivial⟩
  ·refine kq (bP (ah U ?_))
   exact hk1 _ ⟨(cb (cX c1)),trivial⟩
 refine an ?_
 exact aw [.bool (decide (0≤dQ)&&decide (dQ < limit))] Tryz.func145 U hX rd (cs hs0)
theorem sS (h:HF) (x:Interest)  : Ret Tryz.prog 101 [.agg (Interest.cells x).toArray] h (.bool (iK x)):=by
 refine ay Tryz.func101 U Tryz.ntmps101 U fun X hM hX=>?_
 have hs0:iK x=iK x:=rfl
 refine sr (dy (fun b1=>an (sr (az nu U (aO 0 ty3 U U U (aG (v:=.bool (aL x.No 1048577)) uT (fU h x.No 1048577 ) U (aa ?_)))))))
 refine tq 4 [(1,Q b1),(11,.bool ((aL x.No 1048577)&&(aL x.At 1099511627776)))] (fun hk1=>?_) (fun e=>?_)
 ·refine ar 7 U (fun c1=>?_) (fun c1=>?_)
  ·refine az rJ U (aO 0 ty3 U U U (aG (v:=.bool (aL x.At 1099511627776)) uT (fU h x.At 1099511627776 ) U (ah U ?_)))
   exact hk1 _ ⟨U,(cb (cW c1)),trivial⟩
  ·refine kq (bP (ah U ?_))
   exact hk1 _ ⟨U,(cb (cX c1)),trivial⟩
 refine aa ?_
 refine tq 4 [(1,Q b1),(16,.bool (((aL x.No 1048577)&&(aL x.At 1099511627776))&&(aL x.Known 1099511627776)))] (fun hk2=>?_) (fun e=>?_)
 ·refine ar 12 U (fun c2=>?_) (fun c2=>?_)
  ·refine az zQ U (aO 0 ty3 U U U (aG (v:=.bool (aL x.Known 1099511627776)) uT (fU h x.Known 1099511627776 ) U (ah U ?_)))
   exact hk2 _ ⟨U,(cb (cW c2)),trivial⟩
  ·refine kq (bP (ah U ?_))
   exact hk2 _ ⟨U,(cb (cX c2)),trivial⟩
 refine aa ?_
 refine tq 4 [(1,Q b1),(21,.bool ((((aL x.No 1048577)&&(aL x.At 1099511627776))&&(aL x.Known 1099511627776))&&(aL x.Party 1048577)))] (fun hk3=>?_) (fun e=>?_)
 ·refine ar 17 U (fun c3=>?_) (fun c3=>?_)
  ·refine az oF U (aO 0 ty3 U U U (aG (v:=.bool (aL x.Party 1048577)) uT (fU h x.Party 1048577 ) U (ah U ?_)))
   exact hk3 _ ⟨U,(cb (cW c3)),trivial⟩
  ·refine kq (bP (ah U ?_))
   exact hk3 _ ⟨U,(cb (cX c3)),trivial⟩
 refine an (ae (sr (az tT U (aO 0 ty4 U U U (ac ?_)))))
 refine aE U (fun c4=>?_) (fun c4=>?_)
 ·have hs1:=hs0.trans (bt c4)
  refine sr (aa (aa ?_))
  refine tq 4 [(1,Q b1),(29,.bool (((((aL x.No 1048577)&&(aL x.At 1099511627776))&&(aL x.Known 1099511627776))&&(aL x.Party 1048577))&&(aL x.Person 1048577)))] (fun hk4=>?_) (fun e=>?_)
  ·refine ar 25 U (fun c5=>?_) (fun c5=>?_)
   ·refine az mj U (aO 0 ty3 U U U (aG (v:=.bool (aL x.Person 1048577)) uT (fU h x.Person 1048577 ) U (ah U ?_)))
    exact hk4 _ ⟨U,(cb (cW c5)),trivial⟩
   ·refine kq (bP (ah U ?_))
    exact hk4 _ ⟨U,(cb (cX c5)),trivial⟩
  refine aa ?_
  refine tq 6 [(36,.bool ((((((aL x.No 1048577)&&(aL x.At 1099511627776))&&(aL x.Known 1099511627776))&&(aL x.Party 1048577))&&(aL x.Person 1048577))&&(x.Person != x.Party)))] (fun hk5=>?_) (fun e=>?_)
  ·refine ar 30 U (fun c6=>?_) (fun c6=>?_)
   ·refine az mj U (aO 0 ty3 U U U (az oF U (aO 0 ty3 U U U (aJ U (ah U ?_)))))
    exact hk5 _ ⟨(cb (cW c6)),trivial⟩
   ·refine kq (kq (bP (ah U ?_)))
    exact hk5 _ ⟨(cb (cX c6)),trivial⟩
  refine an ?_
  exact aw [.bool ((((((aL x.No 1048577)&&(aL x.At 1099511627776))&&(aL x.Known 1099511627776))&&(aL x.Party 1048577))&&(aL x.Person 1048577))&&(x.Person != x.Party))] Tryz.func101 U hX rd (cs hs1)
 ·have hs3:=hs0.trans (bf c4)
  refine ao (sr (aa (aa ?_)))
  refine tq 4 [(42,.bool (((((aL x.No 1048577)&&(aL x.At 1099511627776))&&(aL x.Known 1099511627776))&&(aL x.Party 1048577))&&(aL x.Person 64)))] (fun hk6=>?_) (fun e=>?_)
  ·refine ar 38 U (fun c7=>?_) (fun c7=>?_)
   ·refine az mj U (aO 0 ty3 U U U (aG (v:=.bool (aL x.Person 64)) uT (fU h x.Person 64 ) U (ah U ?_)))
    exact hk6 _ ⟨(cb (cW c7)),trivial⟩
   ·refine kq (bP (ah U ?_))
    exact hk6 _ ⟨(cb (cX c7)),trivial⟩
  refine an ?_
  exact aw [.bool (((((aL x.No 1048577)&&(aL x.At 1099511627776))&&(aL x.Known 1099511627776))&&(aL x.Party 1048577))&&(aL x.Person 64))] Tryz.func101 U hX rd (cs hs3)
theorem nQ (h:HF) (l:(List Interest)) (eW:Option Addr) (eV:Nat) (hl:SlC Interest.rp h eW eV l):Ret Tryz.prog 53 [.slice eW l.length eV] h (I (cv l)):=by
 refine ay E9 U Tryz.ntmps53 U fun X hM hX=>?_
 have hs0:cv l=cv l:=rfl
 refine sr (an (ae (sr (aa (bC nj U (aJ U (ac ?_)))))))
 refine aE U (fun c1=>?_) (fun c1=>?_)
 ·have c1p:=of_decide_eq_true c1
  have hs1:=hs0.trans (bt c1)
  refine sr (an ?_)
  exact aw [I 2] E9 U hX rd (ci hs1)
 ·have c1p:=of_decide_eq_false c1
  have hs3:=hs0.trans (bf c1)
  refine ao (sr (an (ae (sr (aa (bC nj U (aa (ac ?_))))))))
  refine br (ι:=Nat×Int) (fun i=>[]) (fun i=>h) (fun i=>[]) (fun i=>i.1≤l.length∧cv l=((cv.K1) i.2)) ?_ (fun hx1=>?_)
  ·rintro ⟨i1,fP⟩ ⟨bd,hs4⟩ e
   try dsimp only at bd
   try dsimp only
   refine sr (an ?_)
   exact aw [I 0] E9 U hX rd (ci hs4)
  ·refine cp (ι:=Nat×Int×List Interest) (fun i=>[(3,I i.2.1),(9,.slice eW l.length eV),(10,I ((l.length:Nat):Int)),(11,I ((i.1:Nat):Int))]) (fun i=>h) (fun i=>[]) (fun i=>l.drop i.1=i.2.2∧i.1≤l.length∧cv l=((cv.L1 (cv.K1)) i.2.2 i.2.1)) (fun i=>i.2.2.length) (0,(-1),l) rd sw ⟨U,Nat.zero_le _,hs3⟩ ?_
   rintro ⟨i1,fP,s1⟩ ⟨hd1,bd,hs6⟩ ag1 e
   try dsimp only at hd1 bd
   rcases s1 with _ | ⟨y1,rz1⟩
   ·have dI:=cU hd1
    try dsimp only
    refine sr (aB (v':=.bool false) U (cb dI) (ac (ae (bg U (bO U ?_)))))
    exact hx1 (i1,fP) _ ⟨bd,hs6⟩ trivial
   ·have dH:=dY hd1
    have bh:=cY hd1
    have eT:=aT hd1
    have gx:=hl.1.1
    try dsimp only
    refine sr (aB (v':=.bool true) U (cb dH) (ac (ae (bn U (ao (ae (aW (sr (a8 (fQ (enc:=Interest.cells) (fun _ _ _ e=>e) nj ty61 hl.1 (nthZ bh) (bB bh) U U U (fun q2 A2=>?_)))))))))))
    refine ed ty61 A2 U U (bX zc61 (fun b2=>bN 0 ty61 U U U U U U (ac (ae (sr (dq 0 ty61 U U U (aG (v:=.bool (iK y1)) Tryz.call101 (sS h y1 ) U (cV U (aa ?_)))))))))
    refine tq 5 [(5,Q b2),(9,.slice eW l.length eV),(10,I ((l.length:Nat):Int)),(11,I ((i1:Nat):Int)),(23,.bool ((!(iK y1))||decide (y1.No≤fP)))] (fun hk1=>?_) (fun e=>?_)
    ·refine ar 18 U (fun c2=>?_) (fun c2=>?_)
     ·refine kq (kq (ah U ?_))
      exact hk1 _ ⟨U,U,U,U,(cb (dL c2)),trivial⟩
     ·refine az nu U (aO 0 ty3 U U U (aa (aJ U (ah U ?_))))
      exact hk1 _ ⟨U,U,U,U,(cb (dM c2)),trivial⟩
    refine ac ?_
    refine aE U (fun c3=>?_) (fun c3=>?_)
    ·have hs8:=hs6.trans (bt c3)
     refine sr (an ?_)
     exact aw [I 290] E9 U hX rd (ci hs8)
    ·have hs10:=hs6.trans (bf c3)
     refine ao (ai (az nu U (aO 0 ty3 U U U (an (av (ai (aB (v':=I (((i1+1):Nat):Int)) U (bW ob) (aa (ac ?_)))))))))
     refine cE (L':=[]) js ?_
     exact ag1 ((i1+1),y1.No,rz1) _ (Nat.lt_succ_self _) ⟨bF hd1,aT hd1,hs10⟩ rd
theorem lN (h:HF) (s:(List Int)) (pz:Option Addr) (oS:Nat) (f:(Int→Bool)) (f_v:Value) (hs:SlC Rp.int h pz oS s) (hf:∀ (h':HF) (cG:Int),HF.le h h'→uO Tryz.prog f_v [I cG] h' [] (.bool (f cG))):Ret Tryz.prog 110 [.slice pz s.length oS,f_v] h (I (bS s f)):=by
 refine ay Tryz.func110 U Tryz.ntmps110 U fun X hM hX=>?_
 have hs0:bS s f=bS s f:=rfl
 refine sr (an (ae (sr (aa (bC eL U (aa (ac ?_)))))))
 refine br (ι:=Nat) (fun i=>[]) (fun i=>h) (fun i=>[]) (fun i=>i≤s.length∧bS s f=((bS.K1))) ?_ (fun hx1=>?_)
 ·rintro i1 ⟨bd,hs1⟩ e
  try dsimp only at bd
  try dsimp only
  refine sr (an ?_)
  exact aw [I (-1)] Tryz.func110 U hX rd (ci hs1)
 ·refine cp (ι:=Nat×List Int) (fun i=>[(0,.slice pz s.length oS),(1,f_v),(7,I ((s.length:Nat):Int)),(8,I ((i.1:Nat):Int))]) (fun i=>h) (fun i=>[]) (fun i=>s.drop i.1=i.2∧i.1≤s.length∧bS s f=((bS.L1 f (bS.K1)) i.2 i.1)) (fun i=>i.2.length) (0,s) rd sw ⟨U,Nat.zero_le _,hs0⟩ ?_
  rintro ⟨i1,s1⟩ ⟨hd1,bd,hs3⟩ ag1 e
  try dsimp only at hd1 bd
  rcases s1 with _ | ⟨y1,rz1⟩
  ·have dI:=cU hd1
   try dsimp only
   refine sr (aB (v':=.bool false) U (cb dI) (ac (ae (bg U (bO U ?_)))))
   exact hx1 i1 _ ⟨bd,hs3⟩ trivial
  ·have dH:=dY hd1
   have bh:=cY hd1
   have eT:=aT hd1
   have gx:=hs.1.1
   try dsimp only
   refine sr (aB (v':=.bool true) U (cb dH) (ac (ae (bn U (ao (ae (aW (sr (aa (an (sr (aa (aa (aa (a8 (fQ (enc:=fun y=>[I y]) (fun _ _ _ e=>e) eL ty3 hs.1 (nthZ bh) (bB bh) U U U (fun q2 A2=>?_)))))))))))))))))
   refine eC ty3 A2 U (a8 (nl (v:=.bool (f y1)) [] (List.nil_sublist _) (hf h y1 (HF.le_refl _)) U U (ac ?_)))
   refine aE U (fun c2=>?_) (fun c2=>?_)
   ·have hs5:=hs3.trans (bt c2)
    refine sr (aa (an ?_))
    exact aw [I ((i1:Nat):Int)] Tryz.func110 U hX rd (ci hs5)
   ·have hs7:=hs3.trans (bf c2)
    refine ao (av (ai (aB (v':=I (((i1+1):Nat):Int)) U (bW ob) (aa (ac ?_)))))
    exact ag1 ((i1+1),rz1) _ (Nat.lt_succ_self _) ⟨bF hd1,aT hd1,hs7⟩ rd
theorem iw (h:HF) (s:(List Int)) (pz:Option Addr) (oS:Nat) (f:(Int→Bool)) (f_v:Value) (hs:SlC Rp.int h pz oS s) (hf:∀ (h':HF) (cG:Int),HF.le h h'→uO Tryz.prog f_v [I cG] h' [] (.bool (f cG))):Ret Tryz.prog 176 [.slice pz s.length oS,f_v] h (.bool (cJ s f)):=by
 refine ay Tryz.func176 U Tryz.ntmps176 U fun X hM hX=>?_
 have hs0:cJ s f=cJ s f:=rfl
 refine sr (an (sr (aa (aa (aG (v:=I (bS s f)) Tryz.call110 (lN h s pz oS f f_v hs hf) U (aJ U (an ?_)))))))
 exact aw [.bool (decide (0≤(bS s f)))] Tryz.func176 U hX rd (cs hs0)
end Go.Sg
namespace Go.Sg
open Go.Proofs
set_option maxRecDepth 100000
section runs
variable {P:Program} {e:Env} {X:Cx} {h:HF} {L:LH} {d:Option Nat} {ty:TypeId} {pos:String} {af:Array Edge} {g:Option (Nat×Bool)}
theorem Hb {t u:TypeId} {x:Operand} (hT:∃ ms,P.underlying t=some (.interface ms)) (hx:e.ev x=.nilIface):∀ w,St X h L w→(execOp e.ev ⟨d,.binOp .neq t x (.const .nilIface) u,ty,pos,af,g⟩).run P w=.ok (.value (.bool false)) w:=
 fun w _=>by
  obtain ⟨ms,hT⟩:=hT
  have hc:e.ev (.const .nilIface)=.nilIface:=rfl
  have he:(Op.equal t .nilIface .nilIface).run P w=.ok true w:=by
   rw [Op.equal,Op.maxDepth,show (10000:Nat)=9999+1 from rfl,Op.equalIn];simp [run_underlying hT]
  simp [execOp,hx,hc,eqGuard,binOp,he]
theorem Ha {t u:TypeId} {x:Operand} {T:TypeId} {v:Value} (hT:∃ ms,P.underlying t=some (.interface ms)) (hx:e.ev x=.iface T v):∀ w,St X h L w→(execOp e.ev ⟨d,.binOp .neq t x (.const .nilIface) u,ty,pos,af,g⟩).run P w=.ok (.value (.bool true)) w:=
 fun w _=>by
  obtain ⟨ms,hT⟩:=hT
  have hc:e.ev (.const .nilIface)=.nilIface:=rfl
  have he:(Op.equal t (.iface T v) .nilIface).run P w=.ok false w:=by
   rw [Op.equal,Op.maxDepth,show (10000:Nat)=9999+1 from rfl,Op.equalIn];simp [run_underlying hT]
  simp [execOp,hx,hc,eqGuard,binOp,he]
theorem Eu {x:Operand} {xt T:TypeId} {fs:Array Field} {v:Value} (hT:P.underlying T=some (.struct fs)) (hx:e.ev x=.iface T v):∀ w,St X h L w→(execOp e.ev ⟨d,.typeAssert x xt T true,ty,pos,af,g⟩).run P w=.ok (.value (.tuple #[v,.bool true])) w:=
 fun w _=>by simp [execOp,hx,Instr.typeAssert,run_underlying hT]
end runs
def bodyOf (f:Func):Code:=f.body.getD .skip
theorem CZ {P:Program} {e:Env} {d:Option Nat} {ty:TypeId} {pos:String} {af:Array Edge} {g:Option (Nat×Bool)} {t:Nat} {fv:Value} {ats:Array TypeId} (hf:e t=fv) (w:World):
  (execOp e.ev ⟨d,.call ⟨.value (.tmp t),#[],ats⟩,ty,pos,af,g⟩).run P w=(do let d ← Deferred.ofValue fv #[];invoke d.target d.args:Sem Next).run P w:=by
 subst hf;simp [execOp,resolve,Env.ev]
theorem yt (h:HF) (b1:Nat) (X':Cx):TT Tryz.prog (deferFrame 241) 17 [.code (bodyOf Tryz.f241)] (EO Tryz.prog X' .returning (fun h' B=>h'=h∧B=[(b1,Obj.cells (List.toArray [.int .i64 0]) 35 (0,0))])) (envArgs [.pointer (some ⟨b1,0,none⟩)]) [] X' h [(b1,Obj.cells (List.toArray [.int .i64 0]) 35 (0,0))]:=by
 refine ae (ai (?_))
 refine Ay (fun cs Φ ⟨c,rest,hcs,hm,_⟩=>by subst hcs;simp [recoverD,hm]) ?_
 refine ba (ac (ae (ai (aa (a8 (gH (Hb ⟨_,Tryz.underlying20⟩ rfl) (ac (?_))))))))
 exact bg rfl (ao (Fk E8 rfl ⟨rfl,rfl⟩))
theorem yu (h:HF) (b1:Nat) (ee:Int) (X':Cx):TT Tryz.prog (deferFrame 241) 17 [.code (bodyOf Tryz.f241)]
  (fun cs Φ=>∃ c rest,cs=c::rest∧c.mode=.panicking [{ v:=stopV ee,recovered:=false }]∧EO Tryz.prog X' (.panicking [{ v:=stopV ee,recovered:=true }]) (fun h' B=>h'=h∧∃ B0,B=B0++[(b1,Obj.cells (List.toArray [.int .i64 ee]) 35 (0,0))]) ({ c with mode:=(.panicking [{ v:=stopV ee,recovered:=true }]) }::rest) Φ)
  (envArgs [.pointer (some ⟨b1,0,none⟩)]) [] X' h [(b1,Obj.cells (List.toArray [.int .i64 0]) 35 (0,0))]:=by
 refine ae (ai (?_))
 refine CU (F':=EO Tryz.prog X' (.panicking [{ v:=stopV ee,recovered:=true }]) (fun h' B=>h'=h∧∃ B0,B=B0++[(b1,Obj.cells (List.toArray [.int .i64 ee]) 35 (0,0))])) (stopV ee) (fun cs Φ ⟨c,rest,hcs,hm,hF⟩=>⟨_,by subst hcs;simp [recoverD,hm],hF⟩) ?_
 refine ba (ac (ae (ai (aa (a8 (gH (Ha ⟨_,Tryz.underlying20⟩ rfl) (ac (?_))))))))
 refine bn rfl (ae (ai (aa (a8 (gH (Eu Tryz.underlying277 rfl) (aa (bG rfl rfl (bG rfl rfl (bX zc277 (fun b2=>?_))))))))))
 refine bN 0 ty277 rfl rfl rfl rfl rfl rfl (ba (ac (?_)))
 refine ae (ae (ai (aa (cV rfl (ac (?_))))))
 refine bg rfl (ao (?_))
 refine ai (az Ge rfl (?_))
 refine aO 0 ty35 rfl rfl rfl (?_)
 refine dW 1 ty35 rfl rfl rfl rfl rfl rfl (ac (?_))
 exact Fk E8 rfl ⟨rfl,[(b2,_)],rfl⟩
theorem rX (h:HF) (fv:Value) (x:Except Int Unit) (hf:kI Tryz.prog fv #[] h [] (XR (exW stopV (fun _:Unit=>.tuple #[]) x) h)):Ret Tryz.prog 213 [fv] h (.int .i64 (attR x)):=by
 refine ay Tryz.func213 rfl Tryz.ntmps213 rfl fun X hM hX=>?_
 refine ae (ai (bX zc35 (fun b1=>ac (ae (ai (a8 (fV rfl rfl (Fj rfl rfl (ac (ae (ai (aa (?_)))))))))))))
 have fin:∀ (r:Int) (B:LH),attR x=r→(∃ B0,B=B0++[(b1,Obj.cells (List.toArray [.int .i64 r]) 35 (0,0))])→∀ (e:Env),e 2=.pointer (some ⟨b1,0,none⟩)→∀ a:Act,envOf a=e→∀ w,St X h (B++[]) w →
   ∃ v h2 B2,(results Tryz.f213 a.tmps).run Tryz.prog w=.ok v w∧St X h2 B2 w∧v=.int .i64 (attR x)∧h2=h∧B2=[]:=by
  rintro r B hr ⟨B0,rfl⟩ e he a ha w hw
  have hw':=hw.sub (L':=[(b1,Obj.cells (List.toArray [.int .i64 r]) 35 (0,0))]) (by simp)
  exact ⟨_,h,[],pG (rs:=[.cell 2 35]) (vs:=[.int .i64 r]) rfl ⟨⟨0,b1,[.int .i64 r],35,(0,0),rfl,he,.inr ⟨_,ty35,rfl⟩⟩,trivial⟩ a ha w hw',hw'.sub (List.nil_sublist _),by rw [hr];rfl,rfl,rfl⟩
 refine DS rfl (by decide) rfl rfl (fun w hw=>?_)
 have hpre:Pre h [] w:=(hw.sub (List.nil_sublist _)).pre
 obtain ⟨nx,hrun,hcall⟩:=hf w hpre
 refine ⟨nx,w,?_,hcall.mono ?_⟩
 ·rw [← hrun];exact CZ rfl w
 rintro y w' ⟨h',B,hst,rfl,rfl,hv⟩
 have hw2:=St.after (A:=[]) (B:=[]) (F:=[(b1,Obj.cells (List.toArray [.int .i64 0]) 35 (0,0))]) hw hst
 cases y with
 | outgrown=>trivial
 | returned v=>
  refine ⟨h',_,hw2,?_⟩
  have hx:∃ u,x=.ok u:=by cases x with
   | ok u=>exact ⟨u,rfl⟩
   | error p=>simp [exW] at hv
  obtain ⟨u,rfl⟩:=hx
  refine ac (ae (ai (dW 0 ty35 rfl rfl rfl rfl rfl rfl (ac (?_)))))
  refine GK (c:=bodyOf Tryz.f241) (cap:=[.pointer (some ⟨b1,0,none⟩)]) (A:=[(b1,Obj.cells (List.toArray [.int .i64 0]) 35 (0,0))]) (R':=fun h'' B=>h''=h'∧B=[(b1,Obj.cells (List.toArray [.int .i64 0]) 35 (0,0))]) Tryz.func213 E8 rfl Tryz.ntmps241 rfl Tryz.call241 (fun X' _=>yt h' b1 X') (Fr:=[]) rfl ?_
  rintro h'' B _ ⟨rfl,rfl⟩ a ha w hw
  obtain ⟨v,h2,B2,h3,h4,rfl,rfl,rfl⟩:=fin 0 _ rfl ⟨[],rfl⟩ _ rfl a ha w hw
  exact ⟨_,_,_,h3,h4,rfl,rfl,rfl⟩
 | panicked ch=>
  refine ⟨h',_,hw2,?_⟩
  have hx:∃ ee,x=.error ee:=by cases x with
   | ok u=>simp [exW] at hv
   | error p=>exact ⟨p,rfl⟩
  obtain ⟨ee,rfl⟩:=hx
  simp only [exW] at hv
  cases hv
  refine GO (c:=bodyOf Tryz.f241) (cap:=[.pointer (some ⟨b1,0,none⟩)]) (A:=[(b1,Obj.cells (List.toArray [.int .i64 0]) 35 (0,0))]) (R':=fun h'' B=>h''=h'∧∃ B0,B=B0++[(b1,Obj.cells (List.toArray [.int .i64 ee]) 35 (0,0))]) Tryz.func213 E8 rfl Tryz.ntmps241 rfl Tryz.call241 (fun X' _=>yu h' b1 ee X') (Fr:=[]) rfl ?_
  rintro h'' B _ ⟨rfl,hB⟩ a ha w hw
  obtain ⟨v,h2,B2,h3,h4,rfl,rfl,rfl⟩:=fin ee _ rfl hB _ rfl a ha w hw
  exact ⟨_,_,_,h3,h4,rfl,rfl,rfl⟩
end Go.Sg
namespace Go.Sg
open Go.Proofs
set_option maxHeartbeats 2000000
set_option maxRecDepth 100000
set_option linter.unusedVariables false
theorem ry (h:HF) (dQ:Int) (v0:Int) (v0_q:Addr) (v1:Int) (v1_q:Addr) (av0:At h v0_q [I v0]) (av1:At h v1_q [I v1]):Ret Tryz.prog 225 [I dQ,.pointer (some v0_q),.pointer (some v1_q)] h (.bool (hZ dQ v0 v1)):=by
 refine ay Tryz.func225 U Tryz.ntmps225 U fun X hM hX=>?_
 have hs0:hZ dQ v0 v1=hZ dQ v0 v1:=rfl
 refine sr (an (sr (aa (eC ty3 av0 U (aJ U (aa ?_))))))
 refine tq 4 [(12,.bool (decide (dQ < v0)||decide (v1 < dQ)))] (fun hk1=>?_) (fun e=>?_)
 ·refine ar 8 U (fun c1=>?_) (fun c1=>?_)
  ·refine kq (bP (ah U ?_))
   exact hk1 _ ⟨(cb (dL c1)),trivial⟩
  ·refine aa (eC ty3 av1 U (aJ U (ah U ?_)))
   exact hk1 _ ⟨(cb (dM c1)),trivial⟩
 refine an ?_
 exact aw [.bool (decide (dQ < v0)||decide (v1 < dQ))] Tryz.func225 U hX rd (cs hs0)
theorem ff (h:HF) (least:Int) (most:Int) (l:(List Int)) (eW:Option Addr) (eV:Nat) (hl:SlC Rp.int h eW eV l):Ret Tryz.prog 172 [I least,I most,.slice eW l.length eV] h (.bool (aM least most l)):=by
 refine ay Tryz.func172 U Tryz.ntmps172 U fun X hM hX=>?_
 have hs0:aM least most l=aM least most l:=rfl
 refine sr (dy (fun b1=>dy (fun b2=>an (sr (aa (cq 1 U hM (fun h1 hle1 hb1=>cq 0 U hM (fun h2 hle2 hb2=>a8 (fV U U (aG (v:=.bool (cJ l (fun cG=>hZ cG least most))) E7 (iw h2 l eW eV (fun cG=>hZ cG least most) (.func (.func 225) #[] #[Q b1,Q b2]) (hl.mono Rp.ce (hle1.t hle2)) (fun h' cG hle =>iZ Tryz.call225 (ry h' cG least ⟨b1,0,none⟩ most ⟨b2,0,none⟩  (((dR hb1).mono hle2).mono hle) ((dR hb2).mono hle)))) U ?_))))))))))
 refine cV U (an ?_)
 exact aw [.bool (!(cJ l (fun cG=>hZ cG least most)))] Tryz.func172 U hX rd (cs hs0)
theorem uL (h:HF) (x:Budget)  : Ret Tryz.prog 102 [.agg (Budget.cells x).toArray] h (.bool (jy x)):=by
 refine ay Tryz.func102 U Tryz.ntmps102 U fun X hM hX=>?_
 have hs0:jy x=jy x:=rfl
 refine sr (dy (fun b1=>an (sr (ba (an (ae (sr (az BW U (aO 0 ty4 U U U (ac ?_))))))))))
 refine aE U (fun c1=>?_) (fun c1=>?_)
 ·have hs1:=hs0.trans (bt c1)
  refine ai (ba (an (sr (az nU U (aO 0 ty3 U U U (a8 (ck (cells:=[I x.No]) eL ty3 zc3 U U kr (fun b2=>cq 0 U hM (fun h1 hle1 hb1=>?_)))))))))
  have sl1:SlC Rp.int h1 (some ⟨b2,0,none⟩) 1 ([x.No]):=bV.slB0 (T:=3) (fz:=(0,0)) ((show bV Rp.int h [I x.No] ([x.No]) from ⟨[I x.No],[],rfl,rfl,rfl,rfl⟩).mono Rp.ce hle1) hb1
  refine aG (v:=.bool (aM 0 1048576 ([x.No]))) qD (ff h1 0 1048576 ([x.No]) (some ⟨b2,0,none⟩) 1 sl1) U (aa ?_)
  refine tq 7 [(1,Q b1),(3,I 0),(4,I 0),(18,.bool ((aM 0 1048576 ([x.No]))&&(aM 0 1099511627775 ([x.At,x.Known]))))] (fun hk1=>?_) (fun e=>?_)
  ·refine ar 11 U (fun c2=>?_) (fun c2=>?_)
   ·refine az xE U (aO 0 ty3 U U U (az xD U (aO 0 ty3 U U U (a8 (ck (cells:=[I x.At,I x.Known]) eL ty3 zc3 U U kr (fun b3=>cq 0 U hM (fun h2 hle2 hb2=>?_)))))))
    have sl2:SlC Rp.int h2 (some ⟨b3,0,none⟩) 2 ([x.At,x.Known]):=bV.slB0 (T:=3) (fz:=(0,0)) ((show bV Rp.int h1 [I x.At,I x.Known] ([x.At,x.Known]) from ⟨[I x.At],[I x.Known],rfl,rfl,rfl,⟨[I x.Known],[],rfl,rfl,rfl,rfl⟩⟩).mono Rp.ce hle2) hb2
    refine aG (v:=.bool (aM 0 1099511627775 ([x.At,x.Known]))) qD (ff h2 0 1099511627775 ([x.At,x.Known]) (some ⟨b3,0,none⟩) 2 sl2) U (ah U (jI (h:=h1) hle2 hX hle1 ?_))
    exact hk1 _ ⟨U,U,U,(cb (cW c2)),trivial⟩
   ·refine kq (kq (kq (ah U ?_)))
    exact hk1 _ ⟨U,U,U,(cb (cX c2)),trivial⟩
  refine aa ?_
  refine tq 5 [(1,Q b1),(3,I 0),(4,I 0),(24,.bool (((aM 0 1048576 ([x.No]))&&(aM 0 1099511627775 ([x.At,x.Known])))&&(aM (-1) 15 ([x.Kind]))))] (fun hk2=>?_) (fun e=>?_)
  ·refine ar 19 U (fun c3=>?_) (fun c3=>?_)
   ·refine az xC U (aO 0 ty3 U U U (a8 (ck (cells:=[I x.Kind]) eL ty3 zc3 U U kr (fun b4=>cq 0 U hM (fun h3 hle3 hb3=>?_)))))
    have sl3:SlC Rp.int h3 (some ⟨b4,0,none⟩) 1 ([x.Kind]):=bV.slB0 (T:=3) (fz:=(0,0)) ((show bV Rp.int h1 [I x.Kind] ([x.Kind]) from ⟨[I x.Kind],[],rfl,rfl,rfl,rfl⟩).mono Rp.ce hle3) hb3
    refine aG (v:=.bool (aM (-1) 15 ([x.Kind]))) qD (ff h3 (-1) 15 ([x.Kind]) (some ⟨b4,0,none⟩) 1 sl3) U (ah U (jI (h:=h1) hle3 hX hle1 ?_))
    exact hk2 _ ⟨U,U,U,(cb (cW c3)),trivial⟩
   ·refine kq (kq (ah U ?_))
    exact hk2 _ ⟨U,U,U,(cb (cX c3)),trivial⟩
  refine aa ?_
  refine tq 5 [(1,Q b1),(3,I 0),(4,I 0),(30,.bool ((((aM 0 1048576 ([x.No]))&&(aM 0 1099511627775 ([x.At,x.Known])))&&(aM (-1) 15 ([x.Kind])))&&(aM 1 1099511627776 ([x.Period]))))] (fun hk3=>?_) (fun e=>?_)
  ·refine ar 25 U (fun c4=>?_) (fun c4=>?_)
   ·refine az xB U (aO 0 ty3 U U U (a8 (ck (cells:=[I x.Period]) eL ty3 zc3 U U kr (fun b5=>cq 0 U hM (fun h4 hle4 hb4=>?_)))))
    have sl4:SlC Rp.int h4 (some ⟨b5,0,none⟩) 1 ([x.Period]):=bV.slB0 (T:=3) (fz:=(0,0)) ((show bV Rp.int h1 [I x.Period] ([x.Period]) from ⟨[I x.Period],[],rfl,rfl,rfl,rfl⟩).mono Rp.ce hle4) hb4
    refine aG (v:=.bool (aM 1 1099511627776 ([x.Period]))) qD (ff h4 1 1099511627776 ([x.Period]) (some ⟨b5,0,none⟩) 1 sl4) U (ah U (jI (h:=h1) hle4 hX hle1 ?_))
    exact hk3 _ ⟨U,U,U,(cb (cW c4)),trivial⟩
   ·refine kq (kq (ah U ?_))
    exact hk3 _ ⟨U,U,U,(cb (cX c4)),trivial⟩
  refine aa ?_
  refine tq 6 [(1,Q b1),(4,I 0),(37,.bool (((((aM 0 1048576 ([x.No]))&&(aM 0 1099511627775 ([x.At,x.Known])))&&(aM (-1) 15 ([x.Kind])))&&(aM 1 1099511627776 ([x.Period])))&&(aM 0 0 ([x.Count]))))] (fun hk4=>?_) (fun e=>?_)
  ·refine ar 31 U (fun c5=>?_) (fun c5=>?_)
   ·refine aa (az tY U (aO 0 ty3 U U U (a8 (ck (cells:=[I x.Count]) eL ty3 zc3 U U kr (fun b6=>cq 0 U hM (fun h5 hle5 hb5=>?_))))))
    have sl5:SlC Rp.int h5 (some ⟨b6,0,none⟩) 1 ([x.Count]):=bV.slB0 (T:=3) (fz:=(0,0)) ((show bV Rp.int h1 [I x.Count] ([x.Count]) from ⟨[I x.Count],[],rfl,rfl,rfl,rfl⟩).mono Rp.ce hle5) hb5
    refine aG (v:=.bool (aM 0 0 ([x.Count]))) qD (ff h5 0 0 ([x.Count]) (some ⟨b6,0,none⟩) 1 sl5) U (ah U (jI (h:=h1) hle5 hX hle1 ?_))
    exact hk4 _ ⟨U,U,(cb (cW c5)),trivial⟩
   ·refine kq (kq (bP (ah U ?_)))
    exact hk4 _ ⟨U,U,(cb (cX c5)),trivial⟩
  refine aa ?_
  refine tq 6 [(44,.bool ((((((aM 0 1048576 ([x.No]))&&(aM 0 1099511627775 ([x.At,x.Known])))&&(aM (-1) 15 ([x.Kind])))&&(aM 1 1099511627776 ([x.Period])))&&(aM 0 0 ([x.Count])))&&(aM 0 0 ([x.Value]))))] (fun hk5=>?_) (fun e=>?_)
  ·refine ar 38 U (fun c6=>?_) (fun c6=>?_)
   ·refine aa (az tX U (aO 0 ty3 U U U (a8 (ck (cells:=[I x.Value]) eL ty3 zc3 U U kr (fun b7=>cq 0 U hM (fun h6 hle6 hb6=>?_))))))
    have sl6:SlC Rp.int h6 (some ⟨b7,0,none⟩) 1 ([x.Value]):=bV.slB0 (T:=3) (fz:=(0,0)) ((show bV Rp.int h1 [I x.Value] ([x.Value]) from ⟨[I x.Value],[],rfl,rfl,rfl,rfl⟩).mono Rp.ce hle6) hb6
    refine aG (v:=.bool (aM 0 0 ([x.Value]))) qD (ff h6 0 0 ([x.Value]) (some ⟨b7,0,none⟩) 1 sl6) U (ah U (jI (h:=h1) hle6 hX hle1 ?_))
    exact hk5 _ ⟨(cb (cW c6)),trivial⟩
   ·refine kq (kq (bP (ah U ?_)))
    exact hk5 _ ⟨(cb (cX c6)),trivial⟩
  refine an ?_
  exact aw [.bool ((((((aM 0 1048576 ([x.No]))&&(aM 0 1099511627775 ([x.At,x.Known])))&&(aM (-1) 15 ([x.Kind])))&&(aM 1 1099511627776 ([x.Period])))&&(aM 0 0 ([x.Count])))&&(aM 0 0 ([x.Value])))] Tryz.func102 U hX rd (cs hs1)
 ·have hs3:=hs0.trans (bf c1)
  refine ao (sr (az nU U (aO 0 ty3 U U U (a8 (ck (cells:=[I x.No]) eL ty3 zc3 U U kr (fun b8=>cq 0 U hM (fun h7 hle7 hb7=>?_)))))))
  have sl7:SlC Rp.int h7 (some ⟨b8,0,none⟩) 1 ([x.No]):=bV.slB0 (T:=3) (fz:=(0,0)) ((show bV Rp.int h [I x.No] ([x.No]) from ⟨[I x.No],[],rfl,rfl,rfl,rfl⟩).mono Rp.ce hle7) hb7
  refine aG (v:=.bool (aM 0 1048576 ([x.No]))) qD (ff h7 0 1048576 ([x.No]) (some ⟨b8,0,none⟩) 1 sl7) U (aa ?_)
  refine tq 7 [(1,Q b1),(3,I 1048576),(4,I 1099511627776),(18,.bool ((aM 0 1048576 ([x.No]))&&(aM 0 1099511627775 ([x.At,x.Known]))))] (fun hk6=>?_) (fun e=>?_)
  ·refine ar 11 U (fun c7=>?_) (fun c7=>?_)
   ·refine az xE U (aO 0 ty3 U U U (az xD U (aO 0 ty3 U U U (a8 (ck (cells:=[I x.At,I x.Known]) eL ty3 zc3 U U kr (fun b9=>cq 0 U hM (fun h8 hle8 hb8=>?_)))))))
    have sl8:SlC Rp.int h8 (some ⟨b9,0,none⟩) 2 ([x.At,x.Known]):=bV.slB0 (T:=3) (fz:=(0,0)) ((show bV Rp.int h7 [I x.At,I x.Known] ([x.At,x.Known]) from ⟨[I x.At],[I x.Known],rfl,rfl,rfl,⟨[I x.Known],[],rfl,rfl,rfl,rfl⟩⟩).mono Rp.ce hle8) hb8
    refine aG (v:=.bool (aM 0 1099511627775 ([x.At,x.Known]))) qD (ff h8 0 1099511627775 ([x.At,x.Known]) (some ⟨b9,0,none⟩) 2 sl8) U (ah U (jI (h:=h7) hle8 hX hle7 ?_))
    exact hk6 _ ⟨U,U,U,(cb (cW c7)),trivial⟩
   ·refine kq (kq (kq (ah U ?_)))
    exact hk6 _ ⟨U,U,U,(cb (cX c7)),trivial⟩
  refine aa ?_
  refine tq 5 [(1,Q b1),(3,I 1048576),(4,I 1099511627776),(24,.bool (((aM 0 1048576 ([x.No]))&&(aM 0 1099511627775 ([x.At,x.Known])))&&(aM (-1) 15 ([x.Kind]))))] (fun hk7=>?_) (fun e=>?_)
  ·refine ar 19 U (fun c8=>?_) (fun c8=>?_)
   ·refine az xC U (aO 0 ty3 U U U (a8 (ck (cells:=[I x.Kind]) eL ty3 zc3 U U kr (fun b10=>cq 0 U hM (fun h9 hle9 hb9=>?_)))))
    have sl9:SlC Rp.int h9 (some ⟨b10,0,none⟩) 1 ([x.Kind]):=bV.slB0 (T:=3) (fz:=(0,0)) ((show bV Rp.int h7 [I x.Kind] ([x.Kind]) from ⟨[I x.Kind],[],rfl,rfl,rfl,rfl⟩).mono Rp.ce hle9) hb9
    refine aG (v:=.bool (aM (-1) 15 ([x.Kind]))) qD (ff h9 (-1) 15 ([x.Kind]) (some ⟨b10,0,none⟩) 1 sl9) U (ah U (jI (h:=h7) hle9 hX hle7 ?_))
    exact hk7 _ ⟨U,U,U,(cb (cW c8)),trivial⟩
   ·refine kq (kq (ah U ?_))
    exact hk7 _ ⟨U,U,U,(cb (cX c8)),trivial⟩
  refine aa ?_
  refine tq 5 [(1,Q b1),(3,I 1048576),(4,I 1099511627776),(30,.bool ((((aM 0 1048576 ([x.No]))&&(aM 0 1099511627775 ([x.At,x.Known])))&&(aM (-1) 15 ([x.Kind])))&&(aM 1 1099511627776 ([x.Period]))))] (fun hk8=>?_) (fun e=>?_)
  ·refine ar 25 U (fun c9=>?_) (fun c9=>?_)
   ·refine az xB U (aO 0 ty3 U U U (a8 (ck (cells:=[I x.Period]) eL ty3 zc3 U U kr (fun b11=>cq 0 U hM (fun h10 hle10 hb10=>?_)))))
    have sl10:SlC Rp.int h10 (some ⟨b11,0,none⟩) 1 ([x.Period]):=bV.slB0 (T:=3) (fz:=(0,0)) ((show bV Rp.int h7 [I x.Period] ([x.Period]) from ⟨[I x.Period],[],rfl,rfl,rfl,rfl⟩).mono Rp.ce hle10) hb10
    refine aG (v:=.bool (aM 1 1099511627776 ([x.Period]))) qD (ff h10 1 1099511627776 ([x.Period]) (some ⟨b11,0,none⟩) 1 sl10) U (ah U (jI (h:=h7) hle10 hX hle7 ?_))
    exact hk8 _ ⟨U,U,U,(cb (cW c9)),trivial⟩
   ·refine kq (kq (ah U ?_))
    exact hk8 _ ⟨U,U,U,(cb (cX c9)),trivial⟩
  refine aa ?_
  refine tq 6 [(1,Q b1),(4,I 1099511627776),(37,.bool (((((aM 0 1048576 ([x.No]))&&(aM 0 1099511627775 ([x.At,x.Known])))&&(aM (-1) 15 ([x.Kind])))&&(aM 1 1099511627776 ([x.Period])))&&(aM 0 1048576 ([x.Count]))))] (fun hk9=>?_) (fun e=>?_)
  ·refine ar 31 U (fun c10=>?_) (fun c10=>?_)
   ·refine aa (az tY U (aO 0 ty3 U U U (a8 (ck (cells:=[I x.Count]) eL ty3 zc3 U U kr (fun b12=>cq 0 U hM (fun h11 hle11 hb11=>?_))))))
    have sl11:SlC Rp.int h11 (some ⟨b12,0,none⟩) 1 ([x.Count]):=bV.slB0 (T:=3) (fz:=(0,0)) ((show bV Rp.int h7 [I x.Count] ([x.Count]) from ⟨[I x.Count],[],rfl,rfl,rfl,rfl⟩).mono Rp.ce hle11) hb11
    refine aG (v:=.bool (aM 0 1048576 ([x.Count]))) qD (ff h11 0 1048576 ([x.Count]) (some ⟨b12,0,none⟩) 1 sl11) U (ah U (jI (h:=h7) hle11 hX hle7 ?_))
    exact hk9 _ ⟨U,U,(cb (cW c10)),trivial⟩
   ·refine kq (kq (bP (ah U ?_)))
    exact hk9 _ ⟨U,U,(cb (cX c10)),trivial⟩
  refine aa ?_
  refine tq 6 [(44,.bool ((((((aM 0 1048576 ([x.No]))&&(aM 0 1099511627775 ([x.At,x.Known])))&&(aM (-1) 15 ([x.Kind])))&&(aM 1 1099511627776 ([x.Period])))&&(aM 0 1048576 ([x.Count])))&&(aM 0 1099511627776 ([x.Value]))))] (fun hk10=>?_) (fun e=>?_)
  ·refine ar 38 U (fun c11=>?_) (fun c11=>?_)
   ·refine aa (az tX U (aO 0 ty3 U U U (a8 (ck (cells:=[I x.Value]) eL ty3 zc3 U U kr (fun b13=>cq 0 U hM (fun h12 hle12 hb12=>?_))))))
    have sl12:SlC Rp.int h12 (some ⟨b13,0,none⟩) 1 ([x.Value]):=bV.slB0 (T:=3) (fz:=(0,0)) ((show bV Rp.int h7 [I x.Value] ([x.Value]) from ⟨[I x.Value],[],rfl,rfl,rfl,rfl⟩).mono Rp.ce hle12) hb12
    refine aG (v:=.bool (aM 0 1099511627776 ([x.Value]))) qD (ff h12 0 1099511627776 ([x.Value]) (some ⟨b13,0,none⟩) 1 sl12) U (ah U (jI (h:=h7) hle12 hX hle7 ?_))
    exact hk10 _ ⟨(cb (cW c11)),trivial⟩
   ·refine kq (kq (bP (ah U ?_)))
    exact hk10 _ ⟨(cb (cX c11)),trivial⟩
  refine an ?_
  exact aw [.bool ((((((aM 0 1048576 ([x.No]))&&(aM 0 1099511627775 ([x.At,x.Known])))&&(aM (-1) 15 ([x.Kind])))&&(aM 1 1099511627776 ([x.Period])))&&(aM 0 1048576 ([x.Count])))&&(aM 0 1099511627776 ([x.Value])))] Tryz.func102 U hX rd (cs hs3)
theorem uM (h:HF) (l:(List Budget)) (eW:Option Addr) (eV:Nat) (hl:SlC Budget.rp h eW eV l):Ret Tryz.prog 54 [.slice eW l.length eV] h (I (dj l)):=by
 refine ay E6 U Tryz.ntmps54 U fun X hM hX=>?_
 have hs0:dj l=dj l:=rfl
 refine sr (an (ae (sr (aa (bC si U (aJ U (ac ?_)))))))
 refine aE U (fun c1=>?_) (fun c1=>?_)
 ·have c1p:=of_decide_eq_true c1
  have hs1:=hs0.trans (bt c1)
  refine sr (an ?_)
  exact aw [I 2] E6 U hX rd (ci hs1)
 ·have c1p:=of_decide_eq_false c1
  have hs3:=hs0.trans (bf c1)
  refine ao (sr (an (ae (sr (aa (bC si U (aa (ac ?_))))))))
  refine br (ι:=Nat×Int) (fun i=>[]) (fun i=>h) (fun i=>[]) (fun i=>i.1≤l.length∧dj l=((dj.K1) i.2)) ?_ (fun hx1=>?_)
  ·rintro ⟨i1,fP⟩ ⟨bd,hs4⟩ e
   try dsimp only at bd
   try dsimp only
   refine sr (an ?_)
   exact aw [I 0] E6 U hX rd (ci hs4)
  ·refine cp (ι:=Nat×Int×List Budget) (fun i=>[(3,I i.2.1),(9,.slice eW l.length eV),(10,I ((l.length:Nat):Int)),(11,I ((i.1:Nat):Int))]) (fun i=>h) (fun i=>[]) (fun i=>l.drop i.1=i.2.2∧i.1≤l.length∧dj l=((dj.L1 (dj.K1)) i.2.2 i.2.1)) (fun i=>i.2.2.length) (0,(-1),l) rd sw ⟨U,Nat.zero_le _,hs3⟩ ?_
   rintro ⟨i1,fP,s1⟩ ⟨hd1,bd,hs6⟩ ag1 e
   try dsimp only at hd1 bd
   rcases s1 with _ | ⟨y1,rz1⟩
   ·have dI:=cU hd1
    try dsimp only
    refine sr (aB (v':=.bool false) U (cb dI) (ac (ae (bg U (bO U ?_)))))
    exact hx1 (i1,fP) _ ⟨bd,hs6⟩ trivial
   ·have dH:=dY hd1
    have bh:=cY hd1
    have eT:=aT hd1
    have gx:=hl.1.1
    try dsimp only
    refine sr (aB (v':=.bool true) U (cb dH) (ac (ae (bn U (ao (ae (aW (sr (a8 (fQ (enc:=Budget.cells) (fun _ _ _ e=>e) si ty173 hl.1 (nthZ bh) (bB bh) U U U (fun q2 A2=>?_)))))))))))
    refine ed ty173 A2 U U (bX zc173 (fun b2=>bN 0 ty173 U U U U U U (ac (ae (sr (dq 0 ty173 U U U (aG (v:=.bool (jy y1)) Tryz.call102 (uL h y1 ) U (cV U (aa ?_)))))))))
    refine tq 5 [(5,Q b2),(9,.slice eW l.length eV),(10,I ((l.length:Nat):Int)),(11,I ((i1:Nat):Int)),(23,.bool ((!(jy y1))||decide (y1.No≤fP)))] (fun hk1=>?_) (fun e=>?_)
    ·refine ar 18 U (fun c2=>?_) (fun c2=>?_)
     ·refine kq (kq (ah U ?_))
      exact hk1 _ ⟨U,U,U,U,(cb (dL c2)),trivial⟩
     ·refine az nU U (aO 0 ty3 U U U (aa (aJ U (ah U ?_))))
      exact hk1 _ ⟨U,U,U,U,(cb (dM c2)),trivial⟩
    refine ac ?_
    refine aE U (fun c3=>?_) (fun c3=>?_)
    ·have hs8:=hs6.trans (bt c3)
     refine sr (an ?_)
     exact aw [I 180] E6 U hX rd (ci hs8)
    ·have hs10:=hs6.trans (bf c3)
     refine ao (ai (az nU U (aO 0 ty3 U U U (an (av (ai (aB (v':=I (((i1+1):Nat):Int)) U (bW ob) (aa (ac ?_)))))))))
     refine cE (L':=[]) js ?_
     exact ag1 ((i1+1),y1.No,rz1) _ (Nat.lt_succ_self _) ⟨bF hd1,aT hd1,hs10⟩ rd
theorem qS (rec:Expr→Int→List fC) (h:HF) (x:Expr) (fe:cI) (x_q:Addr) (depth:Int) (depth_q:Addr) (hrec:∀ (h:HF) (qx:Expr) (jq:cI) (qdepth:Int) (_:Expr.ok h qx jq) (_:0≤qdepth∧qdepth+qx.dep≤2000000) (_:qx.dep < x.dep),jK Tryz.prog 219 [.agg (Expr.cells qx jq).toArray,I qdepth] h (fun v h'=>∃ rv0:Value,v=rv0∧Itr Tryz.prog rv0 pb (rec qx qdepth) h')) (hx:Expr.ok h x fe) (ax:At h x_q (Expr.cells x fe)) (adepth:At h depth_q [I depth]) (hb:0≤depth∧depth+x.dep≤2000000):Itr Tryz.prog (.func (.func 247) #[] (List.toArray [.pointer (some x_q),.pointer (some depth_q)])) pb (aZ.F rec x depth) h:=by
 refine uD Tryz.call247 ?_
 intro yf ya yb C Sp Pn h1 A hle m1 m2 m3 hC hy
 refine jN yE U Tryz.ntmps247 U fun X hXM hX=>?_
 have hs0:aZ.F rec x depth=[]++aZ.F rec x depth:=rfl
 refine sr (dy (fun b1=>ac (ae (sr (aO 0 ty285 U U U (ed ty66 (ax.mono hle) U U (eC ty3 (adepth.mono hle) U (a8 (fw (cells:=[I x.Kind,I x.N,I x.No,.string x.Name,.slice fe.ir x.L.length fe.iE,I depth]) (places:=[(0,5),(5,1)]) Tryz.underlying258 zc258 kr kr ?_)))))))))
 have hx1:aZ.F rec x depth=[]++((fC.mk (Expr.mk x.Kind x.N x.No x.Name x.L) depth)::((aZ.L1 rec depth (aZ.K1)) x.L )):=hs0
 let z1:Nat×Obj:=(b1,O [.func yf ya yb] 285)
 refine a8 (lA ([z1]) A ap (hy [] (fC.mk (Expr.mk x.Kind x.N x.No x.Name x.L) depth) _ _ _ _ hx1 (HF.le_refl _) hC ⟨(uP.mk (cI.mk fe.ir fe.iE)),U,(show fC.ok h1 (fC.mk (Expr.mk x.Kind x.N x.No x.Name x.L) depth) (uP.mk (cI.mk fe.ir fe.iE)) from ⟨(show Expr.ok h1 (Expr.mk x.Kind x.N x.No x.Name x.L) (cI.mk fe.ir fe.iE) from Expr.ok.of (hx.list.mono Expr.aN hle))⟩)⟩) U U (fun h2 A1 hle1 hC1=>?_) (fun h3 A2 hle2 hS1=>?_) (fun ch1 h4 A3 hle3 hP1 e=>i6 (pM [] (A:=A3) yE (List.sublist_append_right _ _) hP1)))
 ·have hs1:aZ.F rec x depth=[(fC.mk (Expr.mk x.Kind x.N x.No x.Name x.L) depth)]++(((aZ.L1 rec depth (aZ.K1)) x.L )):=hx1.trans ap
  refine cV U (ac (bg U (ao (sr (az dE U (nh (j:=4) ty64 (ax.mono (hle.t hle1)) U U (bC fT U (aa (ac ?_)))))))))
  refine gf ?_
  refine dX (L':=[z1]++(A1++(markB []))) ap ?_
  refine pA (ι:=Nat×List fC×LH×List Nat×HF) (fun i=>[]) (fun i=>marks i.2.2.2.1) (fun i=>i.2.2.2.2) (fun i=>[z1]++(i.2.2.1++(markB i.2.2.2.1))) (fun i=>i.1≤x.L.length∧aZ.F rec x depth=i.2.1++((aZ.K1))∧C i.2.1 i.2.2.2.2 i.2.2.1∧HF.le h2 i.2.2.2.2) ?_ (fun hx1=>?_)
  ·rintro ⟨i1,dn1,A1_,rs1,hh1⟩ ⟨bd,hs2,hC1_,hl1⟩ e
   try dsimp only at bd hC1_ hl1
   try dsimp only
   refine dX (L':=([z1]++(A1_))++markB rs1) ap ?_
   have hs3:aZ.F rec x depth=dn1:=hs2.trans (List.append_nil _)
   exact uE rs1 (A:=A1_) yE U js (.inl (hs3 ▸ hC1_))
  ·refine tr (ι:=Nat×List fC×LH×List Nat×HF×List Expr) (fun i=>[(2,.pointer (some depth_q)),(3,Q b1),(14,.slice fe.ir x.L.length fe.iE),(15,I ((x.L.length:Nat):Int)),(16,I ((i.1:Nat):Int))]) (fun i=>marks i.2.2.2.1) (fun i=>i.2.2.2.2.1) (fun i=>[z1]++(i.2.2.1++(markB i.2.2.2.1))) (fun i=>x.L.drop i.1=i.2.2.2.2.2∧i.1≤x.L.length∧aZ.F rec x depth=i.2.1++((aZ.L1 rec depth (aZ.K1)) i.2.2.2.2.2 )∧C i.2.1 i.2.2.2.2.1 i.2.2.1∧HF.le h2 i.2.2.2.2.1) (fun i=>i.2.2.2.2.2.length) (0,[(fC.mk (Expr.mk x.Kind x.N x.No x.Name x.L) depth)],A1,[],h2,x.L) U rd sw ⟨U,Nat.zero_le _,hs1,hC1,(HF.le_refl h2)⟩ ?_
   rintro ⟨i1,dn1,A1_,rs1,hh1,s1⟩ ⟨hd1,bd,hs4,hC1_,hl1⟩ ag1 e
   try dsimp only at hd1 bd hC1_ hl1
   rcases s1 with _ | ⟨y1,rz1⟩
   ·have dI:=cU hd1
    try dsimp only
    refine sr (aB (v':=.bool false) U (cb dI) (ac (ae (bg U (bO U ?_)))))
    exact hx1 (i1,dn1,A1_,rs1,hh1) _ ⟨bd,hs4,hC1_,hl1⟩ trivial
   ·have dH:=dY hd1
    have bh:=cY hd1
    have eT:=aT hd1
    have gx:=(hx.list.mono Expr.aN (hle.t hle1)).1.1
    have hdy:=Expr.iq (gm hd1)
    try dsimp only
    refine sr (aB (v':=.bool true) U (cb dH) (ac (ae (bn U (ao (ae (aW (sr (a8 (gL fT ty66 (hx.list.mono Expr.aN ((hle.t hle1).t hl1)).1 (nthZ bh) (bB bh) U U U (fun q2 cs2 A8 ln2 rr2=>?_)))))))))))
    obtain ⟨r2,rfl,ok2⟩:=rr2
    refine ed ty66 A8 U U (bX zc66 (fun b4=>bN 0 ty66 U U U U U U (iv (L':=[(b4,O (Expr.cells y1 r2) 66),z1]++(A1_++(markB rs1))) U (ac (ae ?_)))))
    refine ai (dq 0 ty66 U U U (eC ty3 (adepth.mono ((hle.t hle1).t hl1)) U (aB (v':=I (depth+1)) U (iu ob) (a8 (dg DJ (hrec hh1 y1 r2 (depth+1) ok2 ob (Expr.iq (gm hd1))) U (fun v2 h9 hle8 hp2=>?_))))))
    obtain ⟨_,rfl,mo2⟩:=hp2
    refine ac (aW ?_)
    let z2:Nat×Obj:=(b4,O (Expr.cells y1 r2) 66)
    refine dX (L':=([z2,z1]++(A1_))++markB rs1) ap ?_
    refine j2 (it:=v2) (xs:=(rec y1 (depth+1))) (ι:=List fC×LH×HF) rs1 (fun i=>i.2.2) (fun i=>[z2,z1]++(i.2.1)) (fun s i=>aZ.F rec x depth=i.1++((aZ.L3 ((aZ.L1 rec depth (aZ.K1) rz1 ))) s )∧C i.1 i.2.2 i.2.1∧HF.le h9 i.2.2) (fun i=>Sp i.2.2 i.2.1∧HF.le h9 i.2.2) (fun _=>False) 0 (fun ch h L=>∃ B,B.Sublist L∧Pn ch h B) (dn1,A1_,h9) yE U mo2 U ls (fun _ _ _ _ hl ⟨B,hs,hp⟩=>⟨B,hs,m3 _ _ _ _ hl hp⟩) U (show [z2,z1]++(A1_)=_ from U) ⟨hs4,(m1 _ _ _ _ hle8 hC1_),(HF.le_refl h9)⟩ ?_ ?_ ?_ ?_ ?_
    ·rintro l3 dm3 lp3 y3 rz3 vs3 ⟨dn3,A3_,hh3⟩ hr3 X hFR3 ⟨hs6,hC3_,hl3⟩ hl03 hlr3 hv3 hX hXM hlp3 nx3 rt3 ex3 pn3
     try dsimp only at hC3_ hl3 hlr3
     obtain ⟨rr3_0,rfl,ok3_0⟩:=hv3
     let z3:Nat×Obj:=(dm3,.deferred (some []))
     refine dX (L':=[(l3,.loop lp3),z3,z2,z1]++(A3_++(markB rs1))) ap ?_
     refine ai (bX zc258 (fun b6=>bN 0 ty258 U U U U U U (iv (L':=[(b6,O (fC.cells y3 rr3_0) 258),(l3,.loop lp3),z3,z2,z1]++(A3_++(markB rs1))) U ?_)))
     refine ac (j3 1 U hlp3 (aW (sr (aO 4 ty285 U U U (dq 0 ty258 U U U ?_)))))
     have hx4:aZ.F rec x depth=dn3++(y3::((aZ.L3 ((aZ.L1 rec depth (aZ.K1) rz1 ))) rz3 )):=hs6
     let z4:Nat×Obj:=(l3,.loop { lp3 with state:=.busy })
     refine a8 (Fv ([(b6,O (fC.cells y3 rr3_0) 258),z4,z3,z2,z1]) A3_ (markB rs1) ap (hy dn3 y3 _ _ _ _ hx4 ((((hle1.t hl1).t hle8).t hl3).t hlr3) (m1 _ _ _ _ hlr3 hC3_) ⟨rr3_0,U,ok3_0⟩) U U (fun h13 A12 hle12 hC4=>?_) (fun h14 A13 hle13 hS4=>?_) (fun ch4 h15 A14 hle14 hP4 e=>sF (L':=[z4,z3]++(A14++(markB rs1))) js (pn3 _ _ _ A14 ⟨A14,List.Sublist.refl _,hP4⟩)))
     ·have hs7:aZ.F rec x depth=(dn3++[y3])++(((aZ.L3 ((aZ.L1 rec depth (aZ.K1) rz1 ))) rz3 )):=hx4.trans ap
      refine cV U (ac (bg U (ao (av ?_))))
      refine cE (L':=[z4,z3,z2,z1]++(A12++(markB rs1))) js ?_
      refine dX (L':=rdH l3 dm3 lp3 (([z2,z1]++(A12))++markB rs1)) ap ?_
      exact nx3 ((dn3++[y3]),A12,h13) _ _ ⟨hs7,hC4,((hl3.t hlr3).t hle12)⟩ (HF.le_refl _)
     ·refine cV U (ac (bn U ?_))
      refine cE (L':=[z4,z3,z2,z1]++(A13++(markB rs1))) js ?_
      refine dX (L':=rdH l3 dm3 lp3 (([z2,z1]++(A13))++markB rs1)) ap ?_
      exact rt3 (dn3,A13,h14) _ _ _ ⟨hS4,((hl3.t hlr3).t hle13)⟩ (HF.le_refl _)
    ·rintro dm3 ⟨dn3,A3_,hh3⟩ hn3 ⟨hs8,hC3_,hl3⟩ hln3 hl03
     try dsimp only at hC3_ hl3 hln3
     refine dX (L':=[z2,z1]++(A3_++(markB (dm3::rs1)))) ap ?_
     refine av (av (ai (aB (v':=I (((i1+1):Nat):Int)) U (bW ob) (aa (ac ?_)))))
     refine cE (L':=[z1]++(A3_++(markB (dm3::rs1)))) js ?_
     exact ag1 ((i1+1),dn3,A3_,(dm3::rs1),hn3,rz1) _ (Nat.lt_succ_self _) ⟨bF hd1,aT hd1,hs8,(m1 _ _ _ _ hln3 hC3_),(((hl1.t hle8).t hl3).t hln3)⟩ rd
    ·rintro dm3 ⟨dn3,A3_,hh3⟩ hn3 ⟨hS5,hl3⟩ hln3 hl03
     try dsimp only at hS5 hl3 hln3
     refine dX (L':=[z2,z1]++(A3_++(markB (dm3::rs1)))) ap ?_
     refine dX (L':=([z2,z1]++(A3_))++markB (dm3::rs1)) ap ?_
     exact pL (dm3::rs1) (A:=A3_) yE U js (.inr (m2 _ _ _ hln3 hS5))
    ·exact fun _ _ _ hF=>hF.elim
    ·rintro dm3 ch hn3 L0 ⟨B,hB,hp⟩ hl03
     exact pM (dm3::rs1) yE hB hp
 ·refine cV U (ac (bn U ?_))
  refine gf ?_
  exact pL [] (A:=A2) yE U js (.inr hS1)
theorem mP:∀ (m:Nat) (h:HF) (x:Expr) (fe:cI) (depth:Int) (_:Expr.ok h x fe) (_:0≤depth∧depth+x.dep≤2000000) (_:x.dep≤m),jK Tryz.prog 219 [.agg (Expr.cells x fe).toArray,I depth] h (fun v h'=>∃ rv0:Value,v=rv0∧Itr Tryz.prog rv0 pb (aZ.go m x depth) h')
 | 0,h,x,fe,depth,hx,hb,hd=>absurd hd (Nat.not_le.2 (Expr.jR _))
 | m+1,h,x,fe,depth,hx,hb,hd=>by
  refine ay Tryz.func219 U Tryz.ntmps219 U fun X hM hX=>?_
  refine sr (dy (fun b1=>dy (fun b2=>an (sr ?_))))
  refine cq 1 U hM (fun h2 hle2 hb2=>cq 0 U hM (fun h3 hle3 hb3=>a8 (fV U U (an ?_))))
  refine dS [.func (.func 247) #[] #[Q b1,Q b2]] Tryz.func219 U rd ⟨_,U,?_⟩
  exact qS (aZ.go m) h3 x fe ⟨b1,0,none⟩ depth ⟨b2,0,none⟩ (fun h' y Iq_ d' hy hb' hl=>mP m h' y Iq_ d' hy hb' ob) (hx.mono (hle2.t hle3)) ((dR hb2).mono hle3) (dR hb3) hb
theorem kz (h:HF) (x:Expr) (fe:cI) (depth:Int) (hx:Expr.ok h x fe) (hb:0≤depth∧depth+x.dep≤2000000):jK Tryz.prog 219 [.agg (Expr.cells x fe).toArray,I depth] h (fun v h'=>∃ rv0:Value,v=rv0∧Itr Tryz.prog rv0 pb (cg x depth) h'):=mP _ h x fe depth hx hb (Nat.le_refl _)
theorem fW (h:HF) (ok:Bool) (Hy:Int)  : EK Tryz.prog 242 [.bool ok,I Hy] h (exW stopV (fun r:Unit=>(.tuple #[]:Value)) (eD ok Hy)):=by
 refine ay Tryz.func242 U Tryz.ntmps242 U fun X hM hX=>?_
 have hs0:eD ok Hy=eD ok Hy:=rfl
 refine sr (aa (cV U (ac ?_)))
 refine aE U (fun c1=>?_) (fun c1=>?_)
 ·have hs1:=hs0.trans (bt c1)
  refine ai (aa (a8 (fw (cells:=[I Hy]) (places:=[(0,1)]) Tryz.underlying277 zc277 kr kr (a8 (gH (Hc Tryz.underlying277 U U) ?_)))))
  refine a8 (GY U Es (fun e=>?_))
  refine i6 ?_
  exact lz [] Tryz.func242 hX (congrArg (exW stopV (fun r:Unit=>(.tuple #[]:Value))) hs1)
 ·have hs2:=hs0.trans (bf c1)
  refine ao ?_
  have hs3:eD ok Hy=(Except.ok ()):=hs2
  refine gf ?_
  exact tv [] [] Tryz.func242 U hX trivial (congrArg (exW stopV (fun r:Unit=>(.tuple #[]:Value))) hs3)
theorem EA {c:Bool} {e:Int} {u:Unit} (h:eD c e=.ok u):c=true:=by
 cases c with
 | true=>rfl
 | false=>simp [eD] at h
theorem j6 (h:HF) (p:Policy) (fb:eO) (hp:Policy.ok h p fb) (hsz0:p.Rules.length≤2000000):jK Tryz.prog 243 [.agg (Policy.cells p fb).toArray] h (fun v h'=>∃ (rb0:Option Addr) (rc0:Nat),v=.slice rb0 (aF p).length rc0∧SlC Expr.rp h' rb0 rc0 (aF p)):=by
 refine ay Tryz.func243 U Tryz.ntmps243 U fun X hM hX=>?_
 have hs0:aF p=aF p:=rfl
 refine sr (dy (fun b1=>an (ae (sr (az e9 U (aO 0 ty63 U U U (bC jJ U (aa (ac ?_)))))))))
 let z2:Nat×Obj:=(b1,O (Policy.cells p fb) 68)
 refine br (ι:=Nat×(List Expr)×Option Addr×Nat×LH) (fun i=>[(1,Q b1),(2,.slice i.2.2.1 i.2.1.length i.2.2.2.1)]) (fun i=>h) (fun i=>[z2]++(i.2.2.2.2)) (fun i=>i.1≤p.Rules.length∧aF p=((aF.K1 p) i.2.1)∧ep Expr.rp 66 h i.2.1 i.2.2.1 i.2.2.2.1 i.2.2.2.2∧i.2.1.length≤0+i.1) ?_ (fun hx1=>?_)
 ·rintro ⟨i1,xy,Hx,Hw,Gc⟩ ⟨bd,hs1,zj,Gb⟩ e
  try dsimp only at bd zj Gb
  try dsimp only
  refine sr (aa (az lC U (dq 0 ty66 U U U (a8 (ck (cells:=[I p.Change.Kind,I p.Change.N,I p.Change.No,.string p.Change.Name,.slice fb.Change.ir p.Change.L.length fb.Change.iE]) fT ty66 zc66 U U kr (fun b5=>?_))))))
  let z1:Nat×Obj:=(b5,O [I p.Change.Kind,I p.Change.N,I p.Change.No,.string p.Change.Name,.slice fb.Change.ir p.Change.L.length fb.Change.iE] 66)
  refine a8 (eK Expr.e5 ([z1,z2]) ([]) (fun G=>[z1,z2]++(G)) ap (fun _=>ap) fT ty66 zc66 U bytes66 zj U U (eZ 0 U (show bV Expr.rp h [I p.Change.Kind,I p.Change.N,I p.Change.No,.string p.Change.Name,.slice fb.Change.ir p.Change.L.length fb.Change.iE] ([p.Change]) from ⟨[I p.Change.Kind,I p.Change.N,I p.Change.No,.string p.Change.Name,.slice fb.Change.ir p.Change.L.length fb.Change.iE],[],U,U,⟨fb.Change,U,hp.Change⟩,U⟩)) lo lo (fun ob3 oc3 G3 gr3=>?_))
  refine an ?_
  refine gj Expr.aN ([z1,z2]) G3 ([]) ap hM gr3 (fun h2 hle2 sl2=>?_)
  have hs2:aF p=(xy++[p.Change]):=hs1
  exact dS [.slice ob3 ((xy++[p.Change]).length) oc3] Tryz.func243 U rd ⟨ob3,oc3,congrArg (fun r:(List Expr)=>(.slice ob3 r.length oc3:Value)) hs2.symm,(by rw [hs2];exact sl2)⟩
 ·refine cp (ι:=Nat×(List Expr)×Option Addr×Nat×LH×List Rule) (fun i=>[(1,Q b1),(2,.slice i.2.2.1 i.2.1.length i.2.2.2.1),(6,.slice fb.jT p.Rules.length fb.jS),(7,I ((p.Rules.length:Nat):Int)),(8,I ((i.1:Nat):Int))]) (fun i=>h) (fun i=>[z2]++(i.2.2.2.2.1)) (fun i=>p.Rules.drop i.1=i.2.2.2.2.2∧i.1≤p.Rules.length∧aF p=((aF.L1 (aF.K1 p)) i.2.2.2.2.2 i.2.1)∧ep Expr.rp 66 h i.2.1 i.2.2.1 i.2.2.2.1 i.2.2.2.2.1∧i.2.1.length≤0+i.1) (fun i=>i.2.2.2.2.2.length) (0,[],none,0,[],p.Rules) rd sw ⟨U,Nat.zero_le _,hs0,ep.nil,lo⟩ ?_
  rintro ⟨i1,xy,Hx,Hw,Gc,s1⟩ ⟨hd1,bd,hs3,zj,Gb⟩ ag1 e
  try dsimp only at hd1 bd zj Gb
  rcases s1 with _ | ⟨y1,rz1⟩
  ·have dI:=cU hd1
   try dsimp only
   refine sr (aB (v':=.bool false) U (cb dI) (ac (ae (bg U (bO U ?_)))))
   exact hx1 (i1,xy,Hx,Hw,Gc) _ ⟨bd,hs3,zj,lo⟩ rd
  ·have dH:=dY hd1
   have bh:=cY hd1
   have eT:=aT hd1
   have gx:=hp.Rules.1.1
   try dsimp only
   refine sr (aB (v':=.bool true) U (cb dH) (ac (ae (bn U (ao (ae (aW (sr (a8 (gL jJ ty107 hp.Rules.1 (nthZ bh) (bB bh) U U U (fun q2 cs2 A2 ln2 rr2=>?_)))))))))))
   obtain ⟨r2,rfl,ok2⟩:=rr2
   refine ed ty107 A2 U U (bX zc107 (fun b6=>bN 0 ty107 U U U U U U (iv (L':=[(b6,O (Rule.cells y1 r2) 107),z2]++(Gc)) U (ac (ai (aa ?_))))))
   refine az ka U (dq 0 ty66 U U U (a8 (ck (cells:=[I y1.Expr.Kind,I y1.Expr.N,I y1.Expr.No,.string y1.Expr.Name,.slice r2.Expr.ir y1.Expr.L.length r2.Expr.iE]) fT ty66 zc66 U U kr (fun b7=>?_))))
   let z3:Nat×Obj:=(b7,O [I y1.Expr.Kind,I y1.Expr.N,I y1.Expr.No,.string y1.Expr.Name,.slice r2.Expr.ir y1.Expr.L.length r2.Expr.iE] 66)
   refine a8 (eK Expr.e5 ([z3,(b6,O (Rule.cells y1 r2) 107),z2]) ([]) (fun G=>[z3,(b6,O (Rule.cells y1 r2) 107),z2]++(G)) ap (fun _=>ap) fT ty66 zc66 U bytes66 zj U U (eZ 0 U (show bV Expr.rp h [I y1.Expr.Kind,I y1.Expr.N,I y1.Expr.No,.string y1.Expr.Name,.slice r2.Expr.ir y1.Expr.L.length r2.Expr.iE] ([y1.Expr]) from ⟨[I y1.Expr.Kind,I y1.Expr.N,I y1.Expr.No,.string y1.Expr.Name,.slice r2.Expr.ir y1.Expr.L.length r2.Expr.iE],[],U,U,⟨r2.Expr,U,ok2.Expr⟩,U⟩)) lo lo (fun ob4 oc4 G4 gr4=>?_))
   refine an (av (ai (aB (v':=I (((i1+1):Nat):Int)) U (bW ob) (aa (ac ?_)))))
   refine cE (L':=[z2]++(G4)) js ?_
   exact ag1 ((i1+1),(xy++[y1.Expr]),ob4,oc4,G4,rz1) _ (Nat.lt_succ_self _) ⟨bF hd1,aT hd1,hs3,gr4,lo⟩ rd
theorem Ea (p:Policy):∀ (l:List Rule) (g:List Expr),aF.L1 (aF.K1 p) l g=g++(l.map (·.Expr)++[p.Change])
 | [],g=>by simp [aF.L1,aF.K1]
 | y::l,g=>by simp [aF.L1,Ea p l]
theorem Gl (p:Policy):aF p=p.Rules.map (·.Expr)++[p.Change]:=by
 unfold aF;rw [Ea];simp
theorem uc {p:Policy} (h:smP p) {y:Expr} (hy:y∈aF p):y.dep≤1500000:=by
 rw [Gl] at hy
 rcases List.mem_append.1 hy with hy | hy
 ·obtain ⟨r,hr,rfl⟩:=List.mem_map.1 hy;exact h.2.1 r hr
 ·rw [List.mem_singleton.1 hy];exact h.2.2.1
theorem tI (h:HF) (p:Policy) (fb:eO) (hp:Policy.ok h p fb) (hsm:smP p):EK Tryz.prog 215 [.agg (Policy.cells p fb).toArray] h (exW stopV (fun r:Unit=>(.tuple #[]:Value)) (cx p)):=by
 refine ay DI U Tryz.ntmps215 U fun X hM hX=>?_
 have hs0:cx p=cx p:=rfl
 have hsr:=hsm.rules
 have hsc:=hsm.change
 refine sr (dy (fun b1=>ac (sr (az jv U (aO 0 ty62 U U U (bC kL U (aJ U (aa ?_))))))))
 refine tq 5 [(1,Q b1),(15,.bool (decide (((p.Offices.length:Nat):Int)≤32)&&decide (((p.Kinds.length:Nat):Int)≤16)))] (fun hk1=>?_) (fun e=>?_)
 ·refine ar 10 U (fun c1=>?_) (fun c1=>?_)
  ·refine az kD U (aO 0 ty62 U U U (bC kL U (aJ U (ah U ?_))))
   exact hk1 _ ⟨U,(cb (cW c1)),trivial⟩
  ·refine kq (kq (ah U ?_))
   exact hk1 _ ⟨U,(cb (cX c1)),trivial⟩
 refine aa ?_
 refine tq 5 [(1,Q b1),(21,.bool ((decide (((p.Offices.length:Nat):Int)≤32)&&decide (((p.Kinds.length:Nat):Int)≤16))&&decide (((p.Rules.length:Nat):Int)≤16)))] (fun hk2=>?_) (fun e=>?_)
 ·refine ar 16 U (fun c2=>?_) (fun c2=>?_)
  ·refine az e9 U (aO 0 ty63 U U U (bC jJ U (aJ U (ah U ?_))))
   exact hk2 _ ⟨U,(cb (cW c2)),trivial⟩
  ·refine kq (kq (ah U ?_))
   exact hk2 _ ⟨U,(cb (cX c2)),trivial⟩
 refine a8 (kx sf (fW h ((decide (((p.Offices.length:Nat):Int)≤32)&&decide (((p.Kinds.length:Nat):Int)≤16))&&decide (((p.Rules.length:Nat):Int)≤16)) 2 ) U (fun u1 hu1=>?_) (fun pv1 hpv1 e=>?_))
 ·obtain ⟨rx1,hrx1,rfl⟩:=mn hu1
  have hs1:=hs0.trans (mm hrx1)
  cases rx1
  refine ac (sr (dq 0 ty68 U U U (a8 (dg Tryz.call243 (j6 h p fb hp ob) U (fun v1 h1 hle1 hp1=>?_)))))
  obtain ⟨rb1,rc1,rfl,sl1⟩:=hp1
  refine bC fT U (aa (ac ?_))
  refine gf ?_
  let z1:Nat×Obj:=(b1,O (Policy.cells p fb) 68)
  refine dX (L':=[z1]++(markB [])) ap ?_
  refine pA (ι:=Nat×List Nat×HF) (fun i=>[]) (fun i=>marks i.2.1) (fun i=>i.2.2) (fun i=>[z1]++(markB i.2.1)) (fun i=>i.1≤(aF p).length∧cx p=((cx.K1))∧HF.le h1 i.2.2) ?_ (fun hx1=>?_)
  ·rintro ⟨i1,rs1,hh1⟩ ⟨bd,hs2,hl1⟩ e
   try dsimp only at bd hl1
   try dsimp only
   have hs3:cx p=(Except.ok ()):=hs2
   refine dX (L':=([z1])++markB rs1) ap ?_
   exact tv rs1 [] DI U hX trivial (congrArg (exW stopV (fun r:Unit=>(.tuple #[]:Value))) hs3)
  ·refine tr (ι:=Nat×List Nat×HF×List Expr) (fun i=>[(24,.slice rb1 ((aF p).length) rc1),(25,I (((aF p).length:Nat):Int)),(26,I ((i.1:Nat):Int))]) (fun i=>marks i.2.1) (fun i=>i.2.2.1) (fun i=>[z1]++(markB i.2.1)) (fun i=>(aF p).drop i.1=i.2.2.2∧i.1≤(aF p).length∧cx p=((cx.L1 (cx.K1)) i.2.2.2 )∧HF.le h1 i.2.2.1) (fun i=>i.2.2.2.length) (0,[],h1,(aF p)) U rd sw ⟨U,Nat.zero_le _,hs1,(HF.le_refl h1)⟩ ?_
   rintro ⟨i1,rs1,hh1,s1⟩ ⟨hd1,bd,hs4,hl1⟩ ag1 e
   try dsimp only at hd1 bd hl1
   rcases s1 with _ | ⟨y1,rz1⟩
   ·have dI:=cU hd1
    try dsimp only
    refine sr (aB (v':=.bool false) U (cb dI) (ac (ae (bg U (bO U ?_)))))
    exact hx1 (i1,rs1,hh1) _ ⟨bd,hs4,hl1⟩ trivial
   ·have dH:=dY hd1
    have bh:=cY hd1
    have eT:=aT hd1
    have gx:=sl1.1.1
    try have hsy:=uc hsm (gm hd1)
    try dsimp only
    refine sr (aB (v':=.bool true) U (cb dH) (ac (ae (bn U (ao (ae (aW (sr (a8 (gL fT ty66 (sl1.mono Expr.aN hl1).1 (nthZ bh) (bB bh) U U U (fun q2 cs2 A2 ln2 rr2=>?_)))))))))))
    obtain ⟨r2,rfl,ok2⟩:=rr2
    refine ed ty66 A2 U U (bX zc66 (fun b5=>bN 0 ty66 U U U U U U (ac (sr (bX zc3 (fun b6=>dW 0 ty3 U U U U U U (ac (sr (dq 1 ty66 U U U (a8 (dg DJ (kz hh1 y1 r2 1 ok2 ob) U (fun v3 h3 hle3 hp3=>?_))))))))))))
    obtain ⟨_,rfl,mo2⟩:=hp3
    refine ac (aW ?_)
    let z2:Nat×Obj:=(b5,O (Expr.cells y1 r2) 66)
    refine dX (L':=([(b6,O [I 0] 3),z2,z1])++markB rs1) ap ?_
    refine j2 (it:=v3) (xs:=(cg y1 1)) (ι:=Int×HF) rs1 (fun i=>i.2) (fun i=>[(b6,O [I i.1] 3),z2,z1]) (fun s i=>cx p=((cx.L3 (fun zg3_b6_0=>(cx.L1 (cx.K1) rz1 ))) s i.1)∧HF.le h3 i.2) (fun _=>False) (fun _=>False) 0 (fun ch _ _=>∃ pv_,ch=[{ v:=stopV pv_,recovered:=false }]∧cx p=.error pv_) (0,h3) DI U mo2 U ls (fun _ _ _ _ _ hq=>hq) U (show [(b6,O [I 0] 3),z2,z1]=_ from U) ⟨hs4,(HF.le_refl h3)⟩ ?_ ?_ ?_ ?_ ?_
    ·rintro l3 dm3 lp3 y3 rz3 vs3 ⟨pQ,hh3⟩ hr3 X hFR3 ⟨hs6,hl3⟩ hl03 hlr3 hv3 hX hXM hlp3 nx3 rt3 ex3 pn3
     try dsimp only at hl3 hlr3
     obtain ⟨rr3_0,rfl,ok3_0⟩:=hv3
     let z4:Nat×Obj:=(dm3,.deferred (some []))
     refine dX (L':=[(l3,.loop lp3),z4,(b6,O [I pQ] 3),z2,z1]++(markB rs1)) ap ?_
     refine ai (bX zc258 (fun b8=>bN 0 ty258 U U U U U U (ac (j3 1 U hlp3 (aW (sr (aO 3 ty3 U U U (aJ U (dW 3 ty3 U U U U U U (ac (ai (aO 3 ty3 U U U (aJ U ?_)))))))))))))
     refine aa ?_
     refine tq 4 [(41,.bool (decide ((IntKind.wrap .i64 (pQ+1))≤256)&&decide (y3.depth≤16)))] (fun hk3=>?_) (fun e=>?_)
     ·refine ar 37 U (fun c3=>?_) (fun c3=>?_)
      ·refine az Gg U (aO 0 ty3 U U U (aJ U (ah U ?_)))
       exact hk3 _ ⟨(cb (cW c3)),trivial⟩
      ·refine kq (bP (ah U ?_))
       exact hk3 _ ⟨(cb (cX c3)),trivial⟩
     refine a8 (kx sf (fW hr3 (decide ((IntKind.wrap .i64 (pQ+1))≤256)&&decide (y3.depth≤16)) 2 ) U (fun u2 hu2=>?_) (fun pv2 hpv2 e=>?_))
     ·obtain ⟨rx2,hrx2,rfl⟩:=mn hu2
      have hs7:=hs6.trans (mm hrx2)
      cases rx2
      refine ac (av ?_)
      let z3:Nat×Obj:=(b6,O [I (IntKind.wrap .i64 (pQ+1))] 3)
      refine cE (L':=[(l3,.loop { lp3 with state:=.busy }),z4,z3,z2,z1]++(markB rs1)) js ?_
      refine dX (L':=rdH l3 dm3 lp3 (([z3,z2,z1])++markB rs1)) ap ?_
      exact nx3 ((IntKind.wrap .i64 (pQ+1)),hr3) _ _ ⟨hs7,(hl3.t hlr3)⟩ (HF.le_refl _)
     ·obtain ⟨pv2e,hpv2e,rfl⟩:=kH hpv2
      have hs8:=hs6.trans (kG hpv2e)
      refine sF (L':=[(l3,.loop { lp3 with state:=.busy }),z4]++(markB rs1)) js ?_
      exact pn3 _ _ _ [] ⟨_,U,hs8⟩
    ·rintro dm3 ⟨pQ,hh3⟩ hn3 ⟨hs9,hl3⟩ hln3 hl03
     try dsimp only at hl3 hln3
     refine dX (L':=[(b6,O [I pQ] 3),z2,z1]++(markB (dm3::rs1))) ap ?_
     refine av (av (ai (aB (v':=I (((i1+1):Nat):Int)) U (bW ob) (aa (ac ?_)))))
     refine cE (L':=[z1]++(markB (dm3::rs1))) js ?_
     exact ag1 ((i1+1),(dm3::rs1),hn3,rz1) _ (Nat.lt_succ_self _) ⟨bF hd1,aT hd1,hs9,(((hl1.t hle3).t hl3).t hln3)⟩ rd
    ·exact fun _ _ _ hF=>hF.elim
    ·exact fun _ _ _ hF=>hF.elim
    ·rintro dm3 ch hn3 L0 ⟨pv_,rfl,hpv_⟩ hl03
     exact lz (dm3::rs1) DI hX (congrArg (exW stopV (fun r:Unit=>(.tuple #[]:Value))) hpv_)
 ·obtain ⟨pv1e,hpv1e,rfl⟩:=kH hpv1
  have hs10:=hs0.trans (kG hpv1e)
  refine i6 ?_
  exact lz [] DI hX (congrArg (exW stopV (fun r:Unit=>(.tuple #[]:Value))) hs10)
end Go.Sg
namespace Go.Sg
open Go.Proofs
theorem ext282:Extern.find Tryz.f282=some Extern.BytealgIndexByte.indexByte:=by kernel_rfl
theorem ext282n:Extern.findNext Tryz.f282=none:=by kernel_rfl
theorem run282 (s:ByteArray) (c:Int) (w:World):(Extern.BytealgIndexByte.indexByte #[.string s,.int .u8 c]).run Tryz.prog w=.ok (.int .i64 (idxByte s c)) w:=by
 show (do
  let b ← Extern.Bytes.bytesOf (.string s)
  let c ← Extern.Bytes.asByte (.int .u8 c)
  match (List.range b.size).find? fun i=>b[i]! == c with
  | some i=>pure (goInt i)
  | none=>pure (goInt (-1)):Sem Value).run Tryz.prog w=_
 simp only [Extern.Bytes.bytesOf,Extern.Bytes.asByte,Sem.run_bind,Sem.run_pure,Result.andThen_ok,idxByte,goInt]
 cases hf:(List.range s.size).find? (fun i=>s[i]! == UInt8.ofNat c.toNat) with
 | none=>simp only [show c.toNat.toUInt8=UInt8.ofNat c.toNat from rfl,hf];simp
 | some i=>simp only [show c.toNat.toUInt8=UInt8.ofNat c.toNat from rfl,hf];simp
theorem call282 (s:ByteArray) (c:Int) (w:World):(callFunc 282 #[.string s,.int .u8 c]).run Tryz.prog w=.ok (.value (.int .i64 (idxByte s c))) w:=by
 have hb:Tryz.f282.body.isNone=true:=by kernel_rfl
 have hn : (Tryz.f282.name == "runtime.NumGoroutine") = false := by kernel_rfl
 simp only [callFunc,Sem.run_bind,run_program,Result.andThen_ok,Tryz.func282,hn,hb,ext282,ext282n]
 simp [run282]
theorem FK {e:Env} {X:Cx} {h:HF} {L:LH} {d:Option Nat} {ty:TypeId} {pos:String} {af:Array Edge} {g:Option (Nat×Bool)} {x y:Operand} {ats:Array TypeId} {s:ByteArray} {c:Int} (hx:e.ev x=.string s) (hy:e.ev y=.int .u8 c):
  ∀ w,St X h L w→(execOp e.ev ⟨d,.call ⟨.value (.func 282),#[x,y],ats⟩,ty,pos,af,g⟩).run Tryz.prog w=.ok (.value (.int .i64 (idxByte s c))) w:=
 fun w _=>by
  have hf:e.ev (.func 282)=.func (.func 282) #[] #[]:=rfl
  simp [execOp,resolve,hf,Deferred.ofValue,invoke,hx,hy,call282]
end Go.Sg
namespace Go.Sg
open Go.Proofs
set_option maxHeartbeats 2000000
set_option maxRecDepth 100000
set_option linter.unusedVariables false
theorem lg (h:HF) (x:Expr) (fe:cI) (hx:Expr.ok h x fe):Ret Tryz.prog 220 [.agg (Expr.cells x fe).toArray] h (.bool (da x)):=by
 refine ay Tryz.func220 U Tryz.ntmps220 U fun X hM hX=>?_
 have hs0:da x=da x:=rfl
 refine sr (dy (fun b1=>an (sr (az kE U (aO 0 ty3 U U U (aJ U (aa ?_)))))))
 refine tq 4 [(10,.bool ((x.Kind==1)||(x.Kind==2)))] (fun hk1=>?_) (fun e=>?_)
 ·refine ar 6 U (fun c1=>?_) (fun c1=>?_)
  ·refine kq (bP (ah U ?_))
   exact hk1 _ ⟨(cb (dL c1)),trivial⟩
  ·refine az kE U (aO 0 ty3 U U U (aJ U (ah U ?_)))
   exact hk1 _ ⟨(cb (dM c1)),trivial⟩
 refine an ?_
 exact aw [.bool ((x.Kind==1)||(x.Kind==2))] Tryz.func220 U hX rd (cs hs0)
theorem lR (h:HF) (s:ByteArray) (c:Int)  : Ret Tryz.prog 281 [.string s,Y c] h (I (ft s c)):=by
 refine ay Tryz.func281 U Tryz.ntmps281 U fun X hM hX=>?_
 have hs0:ft s c=ft s c:=rfl
 refine sr (an (sr (aa (aa (a8 (gH (FK U U) (an ?_)))))))
 exact aw [I (idxByte s c)] Tryz.func281 U hX rd (ci hs0)
theorem qG (h:HF) (s:ByteArray) (c:Int)  : Ret Tryz.prog 279 [.string s,Y c] h (I (strings_IndexByte s c)):=by
 refine ay Tryz.func279 U Tryz.ntmps279 U fun X hM hX=>?_
 have hs0:strings_IndexByte s c=strings_IndexByte s c:=rfl
 refine sr (an (sr (aa (aa (aG (v:=I (ft s c)) Tryz.call281 (lR h s c ) U (an ?_))))))
 exact aw [I (ft s c)] Tryz.func279 U hX rd (ci hs0)
theorem tM (h:HF) (c:Int)  : Ret Tryz.prog 275 [Y c] h (I (gi c)):=by
 refine ay yD U Tryz.ntmps275 U fun X hM hX=>?_
 have hs0:gi c=gi c:=rfl
 refine sr (an (ae (aW (sr (aa (aJ U (aa ?_)))))))
 refine tq 3 [(0,Y c),(9,.bool (decide (97≤c)&&decide (c≤122)))] (fun hk1=>?_) (fun e=>?_)
 ·refine ar 6 U (fun c1=>?_) (fun c1=>?_)
  ·refine aa (aJ U (ah U ?_))
   exact hk1 _ ⟨U,(cb (cW c1)),trivial⟩
  ·refine kq (ah U ?_)
   exact hk1 _ ⟨U,(cb (cX c1)),trivial⟩
 refine aa ?_
 refine tq 7 [(0,Y c),(17,.bool ((decide (97≤c)&&decide (c≤122))||(decide (65≤c)&&decide (c≤90))))] (fun hk2=>?_) (fun e=>?_)
 ·refine ar 10 U (fun c2=>?_) (fun c2=>?_)
  ·refine kq (kq (kq (ah U ?_)))
   exact hk2 _ ⟨U,(cb (dL c2)),trivial⟩
  ·refine aa (aJ U (aa ?_))
   refine tq 3 [(0,Y c),(10,.bool false),(16,.bool (decide (65≤c)&&decide (c≤90)))] (fun hk3=>?_) (fun e=>?_)
   ·refine ar 13 U (fun c3=>?_) (fun c3=>?_)
    ·refine aa (aJ U (ah U ?_))
     exact hk3 _ ⟨U,U,(cb (cW c3)),trivial⟩
    ·refine kq (ah U ?_)
     exact hk3 _ ⟨U,U,(cb (cX c3)),trivial⟩
   refine ah U ?_
   exact hk2 _ ⟨U,(cb (dM c2)),trivial⟩
 refine an ?_
 refine aE U (fun c4=>?_) (fun c4=>?_)
 ·have hs1:=hs0.trans (bt c4)
  refine sr (an ?_)
  exact aw [I 2] yD U hX rd (ci hs1)
 ·have hs3:=hs0.trans (bf c4)
  refine sr (aa (aJ U (aa ?_)))
  refine tq 3 [(0,Y c),(24,.bool (decide (48≤c)&&decide (c≤57)))] (fun hk4=>?_) (fun e=>?_)
  ·refine ar 21 U (fun c5=>?_) (fun c5=>?_)
   ·refine aa (aJ U (ah U ?_))
    exact hk4 _ ⟨U,(cb (cW c5)),trivial⟩
   ·refine kq (ah U ?_)
    exact hk4 _ ⟨U,(cb (cX c5)),trivial⟩
  refine an ?_
  refine aE U (fun c6=>?_) (fun c6=>?_)
  ·have hs4:=hs3.trans (bt c6)
   refine sr (an ?_)
   exact aw [I 3] yD U hX rd (ci hs4)
  ·have hs6:=hs3.trans (bf c6)
   refine sr (aa (aJ U (an ?_)))
   refine aE U (fun c7=>?_) (fun c7=>?_)
   ·have hs7:=hs6.trans (bt c7)
    refine sr (an ?_)
    exact aw [I 5] yD U hX rd (ci hs7)
   ·have hs9:=hs6.trans (bf c7)
    refine sr (aa (aJ U (aa ?_)))
    refine tq 3 [(0,Y c),(34,.bool ((c==32)||(c==9)))] (fun hk5=>?_) (fun e=>?_)
    ·refine ar 31 U (fun c8=>?_) (fun c8=>?_)
     ·refine kq (ah U ?_)
      exact hk5 _ ⟨U,(cb (dL c8)),trivial⟩
     ·refine aa (aJ U (ah U ?_))
      exact hk5 _ ⟨U,(cb (dM c8)),trivial⟩
    refine aa ?_
    refine tq 3 [(0,Y c),(38,.bool (((c==32)||(c==9))||(c==10)))] (fun hk6=>?_) (fun e=>?_)
    ·refine ar 35 U (fun c9=>?_) (fun c9=>?_)
     ·refine kq (ah U ?_)
      exact hk6 _ ⟨U,(cb (dL c9)),trivial⟩
     ·refine aa (aJ U (ah U ?_))
      exact hk6 _ ⟨U,(cb (dM c9)),trivial⟩
    refine aa ?_
    refine tq 3 [(0,Y c),(42,.bool ((((c==32)||(c==9))||(c==10))||(c==13)))] (fun hk7=>?_) (fun e=>?_)
    ·refine ar 39 U (fun c10=>?_) (fun c10=>?_)
     ·refine kq (ah U ?_)
      exact hk7 _ ⟨U,(cb (dL c10)),trivial⟩
     ·refine aa (aJ U (ah U ?_))
      exact hk7 _ ⟨U,(cb (dM c10)),trivial⟩
    refine an ?_
    refine aE U (fun c11=>?_) (fun c11=>?_)
    ·have hs10:=hs9.trans (bt c11)
     refine sr (an ?_)
     exact aw [I 1] yD U hX rd (ci hs10)
    ·have hs12:=hs9.trans (bf c11)
     refine sr (aa (aG (v:=I (strings_IndexByte (⟨#[123,125,40,41,59,44,61,58,46,60,62,33,43,45,42,47]⟩:ByteArray) c)) Tryz.call279 (qG h (⟨#[123,125,40,41,59,44,61,58,46,60,62,33,43,45,42,47]⟩:ByteArray) c ) U ?_))
     refine aJ U (an ?_)
     refine aE U (fun c12=>?_) (fun c12=>?_)
     ·have c12p:=of_decide_eq_true c12
      have hs13:=hs12.trans (bt c12)
      refine sr (an ?_)
      exact aw [I 4] yD U hX rd (ci hs13)
     ·have c12p:=of_decide_eq_false c12
      have hs15:=hs12.trans (bf c12)
      refine ao (av (sr (an ?_)))
      exact aw [I 0] yD U hX rd (ci hs15)
theorem gz (h:HF) (s:ByteArray)  : Ret Tryz.prog 265 [.string s] h (.bool (cN s)):=by
 refine ay E5 U Tryz.ntmps265 U fun X hM hX=>?_
 have hs0:cN s=cN s:=rfl
 refine sr (an (ae (sr (aa (aJ U (aa ?_))))))
 refine tq 4 [(0,.string s),(11,.bool ((s.toList==(⟨#[]⟩:ByteArray).toList)||decide (32 < ((s.size:Nat):Int))))] (fun hk1=>?_) (fun e=>?_)
 ·refine ar 7 U (fun c1=>?_) (fun c1=>?_)
  ·refine kq (bP (ah U ?_))
   exact hk1 _ ⟨U,(cb (dL c1)),trivial⟩
  ·refine aa (a8 (gH (uu th U) (aJ U (ah U ?_))))
   exact hk1 _ ⟨U,(cb (dM c1)),trivial⟩
 refine aa ?_
 refine tq 5 [(0,.string s),(17,.bool (((s.toList==(⟨#[]⟩:ByteArray).toList)||decide (32 < ((s.size:Nat):Int)))||((gi ((s.data.getD (0:Int).toNat 0).toNat:Int)) != 2)))] (fun hk2=>?_) (fun e=>?_)
 ·refine ar 12 U (fun c2=>?_) (fun c2=>?_)
  ·refine kq (kq (ah U ?_))
   exact hk2 _ ⟨U,(cb (dL c2)),trivial⟩
  ·refine aa ?_
   have ho1:0≤(0:Int)∧(0:Int) < (s.size:Int):=(by have:=GS (Bool.or_eq_false_iff.1 ob).1;omega)
   refine a8 (gH (zy th U U ho1) (aG (v:=I (gi ((s.data.getD (0:Int).toNat 0).toNat:Int))) Tryz.call275 (tM h ((s.data.getD (0:Int).toNat 0).toNat:Int)) U (aJ U (ah U ?_))))
   exact hk2 _ ⟨U,(cb (dM c2)),trivial⟩
 refine ac ?_
 refine aE U (fun c3=>?_) (fun c3=>?_)
 ·have hs1:=hs0.trans (bt c3)
  refine sr (an ?_)
  exact aw [.bool false] E5 U hX rd (cs hs1)
 ·have hs3:=hs0.trans (bf c3)
  refine ao (ae (sr (aa (a8 (gH (uu th U) (aa (ac ?_)))))))
  refine br (ι:=Nat) (fun i=>[]) (fun i=>h) (fun i=>[]) (fun i=>i≤(List.range s.size).length∧cN s=((cN.K1))) ?_ (fun hx1=>?_)
  ·rintro i1 ⟨bd,hs4⟩ e
   try dsimp only at bd
   try dsimp only
   refine sr (an ?_)
   exact aw [.bool true] E5 U hX rd (cs hs4)
  ·refine cp (ι:=Nat×List Nat) (fun i=>[(0,.string s),(19,I ((s.size:Nat):Int)),(20,I ((i.1:Nat):Int))]) (fun i=>h) (fun i=>[]) (fun i=>(List.range s.size).drop i.1=i.2∧i.1≤(List.range s.size).length∧cN s=((cN.L1 s (cN.K1)) i.2 i.1)) (fun i=>i.2.length) (0,(List.range s.size)) rd sw ⟨U,Nat.zero_le _,hs3⟩ ?_
   rintro ⟨i1,s1⟩ ⟨hd1,bd,hs6⟩ ag1 e
   try dsimp only at hd1 bd
   rcases s1 with _ | ⟨y1,rz1⟩
   ·have dI:decide (((i1:Nat):Int) < ((s.size:Nat):Int))=false:=by simpa using cU hd1
    try dsimp only
    refine sr (aB (v':=.bool false) U (cb dI) (ac (ae (bg U (bO U ?_)))))
    exact hx1 i1 _ ⟨bd,hs6⟩ trivial
   ·have dH:decide (((i1:Nat):Int) < ((s.size:Nat):Int))=true:=by simpa using dY hd1
    have eT:i1 < s.size:=by simpa using aT hd1
    try dsimp only
    refine sr (aB (v':=.bool true) U (cb dH) (ac (ae (bn U (ao (ae (aW (sr (aa (an (sr (aa (aa ?_)))))))))))))
    have ho3:0≤(((i1:Nat):Int):Int)∧(((i1:Nat):Int):Int) < (s.size:Int):=ob
    refine a8 (gH (zy th U U ho3) (aG (v:=I (gi ((s.data.getD (((i1:Nat):Int):Int).toNat 0).toNat:Int))) Tryz.call275 (tM h ((s.data.getD (((i1:Nat):Int):Int).toNat 0).toNat:Int)) U (an ?_)))
    refine sr (aa (aJ U (aa ?_)))
    refine tq 3 [(0,.string s),(4,I (gi ((s.data.getD (((i1:Nat):Int):Int).toNat 0).toNat:Int))),(19,I ((s.size:Nat):Int)),(20,I ((i1:Nat):Int)),(32,.bool (((gi ((s.data.getD (((i1:Nat):Int):Int).toNat 0).toNat:Int)) != 2)&&((gi ((s.data.getD (((i1:Nat):Int):Int).toNat 0).toNat:Int)) != 3)))] (fun hk3=>?_) (fun e=>?_)
    ·refine ar 29 U (fun c4=>?_) (fun c4=>?_)
     ·refine aa (aJ U (ah U ?_))
      exact hk3 _ ⟨U,U,U,U,(cb (cW c4)),trivial⟩
     ·refine kq (ah U ?_)
      exact hk3 _ ⟨U,U,U,U,(cb (cX c4)),trivial⟩
    refine aa ?_
    refine tq 3 [(0,.string s),(19,I ((s.size:Nat):Int)),(20,I ((i1:Nat):Int)),(36,.bool ((((gi ((s.data.getD (((i1:Nat):Int):Int).toNat 0).toNat:Int)) != 2)&&((gi ((s.data.getD (((i1:Nat):Int):Int).toNat 0).toNat:Int)) != 3))&&((gi ((s.data.getD (((i1:Nat):Int):Int).toNat 0).toNat:Int)) != 5)))] (fun hk4=>?_) (fun e=>?_)
    ·refine ar 33 U (fun c5=>?_) (fun c5=>?_)
     ·refine aa (aJ U (ah U ?_))
      exact hk4 _ ⟨U,U,U,(cb (cW c5)),trivial⟩
     ·refine kq (ah U ?_)
      exact hk4 _ ⟨U,U,U,(cb (cX c5)),trivial⟩
    refine ac ?_
    refine aE U (fun c6=>?_) (fun c6=>?_)
    ·have hs8:=hs6.trans (bt c6)
     refine sr (an ?_)
     exact aw [.bool false] E5 U hX rd (cs hs8)
    ·have hs10:=hs6.trans (bf c6)
     refine ao (av (ai (aB (v':=I (((i1+1):Nat):Int)) U (bW ob) ?_)))
     refine aa (ac ?_)
     exact ag1 ((i1+1),rz1) _ (Nat.lt_succ_self _) ⟨bF hd1,aT hd1,hs10⟩ rd
theorem lJ (h:HF) (s:ByteArray)  : Ret Tryz.prog 244 [.string s] h (.bool (dc s)):=by
 refine ay ll U Tryz.ntmps244 U fun X hM hX=>?_
 have hs0:dc s=dc s:=rfl
 refine sr (an (ae (sr (aa (ac (aW (ae (sr (aJ U (an ?_))))))))))
 refine aE U (fun c1=>?_) (fun c1=>?_)
 ·have hs1:=hs0.trans (bt c1)
  refine ao ?_
  refine aE U (fun c2=>?_) (fun c2=>?_)
  ·have hs2:=hs1.trans (bt c2)
   refine sr (an ?_)
   exact aw [.bool false] ll U hX rd (cs hs2)
  ·have hs4:=hs1.trans (bf c2)
   refine ao (av (sr (aa (aG (v:=.bool (cN s)) nE (gz h s ) U (an ?_)))))
   exact aw [.bool (cN s)] ll U hX rd (cs hs4)
 ·have hs6:=hs0.trans (bf c1)
  refine sr (aJ U (an ?_))
  refine aE U (fun c3=>?_) (fun c3=>?_)
  ·have hs7:=hs6.trans (bt c3)
   refine ao ?_
   refine aE U (fun c4=>?_) (fun c4=>?_)
   ·have hs8:=hs7.trans (bt c4)
    refine sr (an ?_)
    exact aw [.bool false] ll U hX rd (cs hs8)
   ·have hs10:=hs7.trans (bf c4)
    refine ao (av (sr (aa (aG (v:=.bool (cN s)) nE (gz h s ) U (an ?_)))))
    exact aw [.bool (cN s)] ll U hX rd (cs hs10)
  ·have hs12:=hs6.trans (bf c3)
   refine sr (aJ U (an ?_))
   refine aE U (fun c5=>?_) (fun c5=>?_)
   ·have hs13:=hs12.trans (bt c5)
    refine ao ?_
    refine aE U (fun c6=>?_) (fun c6=>?_)
    ·have hs14:=hs13.trans (bt c6)
     refine sr (an ?_)
     exact aw [.bool false] ll U hX rd (cs hs14)
    ·have hs16:=hs13.trans (bf c6)
     refine ao (av (sr (aa (aG (v:=.bool (cN s)) nE (gz h s ) U (an ?_)))))
     exact aw [.bool (cN s)] ll U hX rd (cs hs16)
   ·have hs18:=hs12.trans (bf c5)
    refine sr (aJ U (an ?_))
    refine aE U (fun c7=>?_) (fun c7=>?_)
    ·have hs19:=hs18.trans (bt c7)
     refine ao ?_
     refine aE U (fun c8=>?_) (fun c8=>?_)
     ·have hs20:=hs19.trans (bt c8)
      refine sr (an ?_)
      exact aw [.bool false] ll U hX rd (cs hs20)
     ·have hs22:=hs19.trans (bf c8)
      refine ao (av (sr (aa (aG (v:=.bool (cN s)) nE (gz h s ) U (an ?_)))))
      exact aw [.bool (cN s)] ll U hX rd (cs hs22)
    ·have hs24:=hs18.trans (bf c7)
     refine sr (aJ U (an ?_))
     refine aE U (fun c9=>?_) (fun c9=>?_)
     ·have hs25:=hs24.trans (bt c9)
      refine ao ?_
      refine aE U (fun c10=>?_) (fun c10=>?_)
      ·have hs26:=hs25.trans (bt c10)
       refine sr (an ?_)
       exact aw [.bool false] ll U hX rd (cs hs26)
      ·have hs28:=hs25.trans (bf c10)
       refine ao (av (sr (aa (aG (v:=.bool (cN s)) nE (gz h s ) U (an ?_)))))
       exact aw [.bool (cN s)] ll U hX rd (cs hs28)
     ·have hs30:=hs24.trans (bf c9)
      refine sr (aJ U (an ?_))
      refine aE U (fun c11=>?_) (fun c11=>?_)
      ·have hs31:=hs30.trans (bt c11)
       refine ao ?_
       refine aE U (fun c12=>?_) (fun c12=>?_)
       ·have hs32:=hs31.trans (bt c12)
        refine sr (an ?_)
        exact aw [.bool false] ll U hX rd (cs hs32)
       ·have hs34:=hs31.trans (bf c12)
        refine ao (av (sr (aa (aG (v:=.bool (cN s)) nE (gz h s ) U (an ?_)))))
        exact aw [.bool (cN s)] ll U hX rd (cs hs34)
      ·have hs36:=hs30.trans (bf c11)
       refine sr (aJ U (an ?_))
       refine aE U (fun c13=>?_) (fun c13=>?_)
       ·have hs37:=hs36.trans (bt c13)
        refine ao ?_
        refine aE U (fun c14=>?_) (fun c14=>?_)
        ·have hs38:=hs37.trans (bt c14)
         refine sr (an ?_)
         exact aw [.bool false] ll U hX rd (cs hs38)
        ·have hs40:=hs37.trans (bf c14)
         refine ao (av (sr (aa (aG (v:=.bool (cN s)) nE (gz h s ) U (an ?_)))))
         exact aw [.bool (cN s)] ll U hX rd (cs hs40)
       ·have hs42:=hs36.trans (bf c13)
        refine sr (aJ U (an ?_))
        refine aE U (fun c15=>?_) (fun c15=>?_)
        ·have hs43:=hs42.trans (bt c15)
         refine ao ?_
         refine aE U (fun c16=>?_) (fun c16=>?_)
         ·have hs44:=hs43.trans (bt c16)
          refine sr (an ?_)
          exact aw [.bool false] ll U hX rd (cs hs44)
         ·have hs46:=hs43.trans (bf c16)
          refine ao (av (sr (aa (aG (v:=.bool (cN s)) nE (gz h s ) U (an ?_)))))
          exact aw [.bool (cN s)] ll U hX rd (cs hs46)
        ·have hs48:=hs42.trans (bf c15)
         refine sr (aJ U (an ?_))
         refine aE U (fun c17=>?_) (fun c17=>?_)
         ·have hs49:=hs48.trans (bt c17)
          refine ao ?_
          refine aE U (fun c18=>?_) (fun c18=>?_)
          ·have hs50:=hs49.trans (bt c18)
           refine sr (an ?_)
           exact aw [.bool false] ll U hX rd (cs hs50)
          ·have hs52:=hs49.trans (bf c18)
           refine ao (av (sr (aa (aG (v:=.bool (cN s)) nE (gz h s ) U (an ?_)))))
           exact aw [.bool (cN s)] ll U hX rd (cs hs52)
         ·have hs54:=hs48.trans (bf c17)
          refine sr (aJ U (an ?_))
          refine aE U (fun c19=>?_) (fun c19=>?_)
          ·have hs55:=hs54.trans (bt c19)
           refine ao ?_
           refine aE U (fun c20=>?_) (fun c20=>?_)
           ·have hs56:=hs55.trans (bt c20)
            refine sr (an ?_)
            exact aw [.bool false] ll U hX rd (cs hs56)
           ·have hs58:=hs55.trans (bf c20)
            refine ao (av (sr (aa (aG (v:=.bool (cN s)) nE (gz h s ) U (an ?_)))))
            exact aw [.bool (cN s)] ll U hX rd (cs hs58)
          ·have hs60:=hs54.trans (bf c19)
           refine sr (aJ U (an ?_))
           refine aE U (fun c21=>?_) (fun c21=>?_)
           ·have hs61:=hs60.trans (bt c21)
            refine ao ?_
            refine aE U (fun c22=>?_) (fun c22=>?_)
            ·have hs62:=hs61.trans (bt c22)
             refine sr (an ?_)
             exact aw [.bool false] ll U hX rd (cs hs62)
            ·have hs64:=hs61.trans (bf c22)
             refine ao (av (sr (aa (aG (v:=.bool (cN s)) nE (gz h s ) U (an ?_)))))
             exact aw [.bool (cN s)] ll U hX rd (cs hs64)
           ·have hs66:=hs60.trans (bf c21)
            refine sr (aJ U (an ?_))
            refine aE U (fun c23=>?_) (fun c23=>?_)
            ·have hs67:=hs66.trans (bt c23)
             refine ao ?_
             refine aE U (fun c24=>?_) (fun c24=>?_)
             ·have hs68:=hs67.trans (bt c24)
              refine sr (an ?_)
              exact aw [.bool false] ll U hX rd (cs hs68)
             ·have hs70:=hs67.trans (bf c24)
              refine ao (av (sr (aa (aG (v:=.bool (cN s)) nE (gz h s ) U (an ?_)))))
              exact aw [.bool (cN s)] ll U hX rd (cs hs70)
            ·have hs72:=hs66.trans (bf c23)
             refine sr (aJ U (an ?_))
             refine aE U (fun c25=>?_) (fun c25=>?_)
             ·have hs73:=hs72.trans (bt c25)
              refine ao ?_
              refine aE U (fun c26=>?_) (fun c26=>?_)
              ·have hs74:=hs73.trans (bt c26)
               refine sr (an ?_)
               exact aw [.bool false] ll U hX rd (cs hs74)
              ·have hs76:=hs73.trans (bf c26)
               refine ao (av (sr (aa (aG (v:=.bool (cN s)) nE (gz h s ) U (an ?_)))))
               exact aw [.bool (cN s)] ll U hX rd (cs hs76)
             ·have hs78:=hs72.trans (bf c25)
              refine sr (aJ U (an ?_))
              refine aE U (fun c27=>?_) (fun c27=>?_)
              ·have hs79:=hs78.trans (bt c27)
               refine ao ?_
               refine aE U (fun c28=>?_) (fun c28=>?_)
               ·have hs80:=hs79.trans (bt c28)
                refine sr (an ?_)
                exact aw [.bool false] ll U hX rd (cs hs80)
               ·have hs82:=hs79.trans (bf c28)
                refine ao (av (sr (aa (aG (v:=.bool (cN s)) nE (gz h s ) U (an ?_)))))
                exact aw [.bool (cN s)] ll U hX rd (cs hs82)
              ·have hs84:=hs78.trans (bf c27)
               refine sr (aJ U (an ?_))
               refine aE U (fun c29=>?_) (fun c29=>?_)
               ·have hs85:=hs84.trans (bt c29)
                refine ao ?_
                refine aE U (fun c30=>?_) (fun c30=>?_)
                ·have hs86:=hs85.trans (bt c30)
                 refine sr (an ?_)
                 exact aw [.bool false] ll U hX rd (cs hs86)
                ·have hs88:=hs85.trans (bf c30)
                 refine ao (av (sr (aa (aG (v:=.bool (cN s)) nE (gz h s ) U (an ?_)))))
                 exact aw [.bool (cN s)] ll U hX rd (cs hs88)
               ·have hs90:=hs84.trans (bf c29)
                refine ai (aJ U (an ?_))
                refine aE U (fun c31=>?_) (fun c31=>?_)
                ·have hs91:=hs90.trans (bt c31)
                 refine sr (an ?_)
                 exact aw [.bool false] ll U hX rd (cs hs91)
                ·have hs93:=hs90.trans (bf c31)
                 refine ao (av (sr (aa (aG (v:=.bool (cN s)) nE (gz h s ) U (an ?_)))))
                 exact aw [.bool (cN s)] ll U hX rd (cs hs93)
theorem jt (h:HF) (s:(List ByteArray)) (pz:Option Addr) (oS:Nat) (v:ByteArray) (hs:SlC Rp.str h pz oS s):Ret Tryz.prog 221 [.slice pz s.length oS,.string v] h (I (aQ s v)):=by
 refine ay Tryz.func221 U Tryz.ntmps221 U fun X hM hX=>?_
 have hs0:aQ s v=aQ s v:=rfl
 refine sr (an (ae (sr (aa (bC kL U (aa (ac ?_)))))))
 refine br (ι:=Nat) (fun i=>[]) (fun i=>h) (fun i=>[]) (fun i=>i≤s.length∧aQ s v=((aQ.K1))) ?_ (fun hx1=>?_)
 ·rintro i1 ⟨bd,hs1⟩ e
  try dsimp only at bd
  try dsimp only
  refine sr (an ?_)
  exact aw [I (-1)] Tryz.func221 U hX rd (ci hs1)
 ·refine cp (ι:=Nat×List ByteArray) (fun i=>[(0,.slice pz s.length oS),(1,.string v),(7,I ((s.length:Nat):Int)),(8,I ((i.1:Nat):Int))]) (fun i=>h) (fun i=>[]) (fun i=>s.drop i.1=i.2∧i.1≤s.length∧aQ s v=((aQ.L1 v (aQ.K1)) i.2 i.1)) (fun i=>i.2.length) (0,s) rd sw ⟨U,Nat.zero_le _,hs0⟩ ?_
  rintro ⟨i1,s1⟩ ⟨hd1,bd,hs3⟩ ag1 e
  try dsimp only at hd1 bd
  rcases s1 with _ | ⟨y1,rz1⟩
  ·have dI:=cU hd1
   try dsimp only
   refine sr (aB (v':=.bool false) U (cb dI) (ac (ae (bg U (bO U ?_)))))
   exact hx1 i1 _ ⟨bd,hs3⟩ trivial
  ·have dH:=dY hd1
   have bh:=cY hd1
   have eT:=aT hd1
   have gx:=hs.1.1
   try dsimp only
   refine sr (aB (v':=.bool true) U (cb dH) (ac (ae (bn U (ao (ae (aW (sr (aa (an (sr (aa (aa (aa (a8 (fQ (enc:=fun y=>[.string y]) (fun _ _ _ e=>e) kL ty9 hs.1 (nthZ bh) (bB bh) U U U (fun q2 A2=>?_)))))))))))))))))
   refine eC ty9 A2 U (aJ U (ac ?_))
   refine aE U (fun c2=>?_) (fun c2=>?_)
   ·have hs5:=hs3.trans (bt c2)
    refine sr (aa (an ?_))
    exact aw [I ((i1:Nat):Int)] Tryz.func221 U hX rd (ci hs5)
   ·have hs7:=hs3.trans (bf c2)
    refine ao (av (ai (aB (v':=I (((i1+1):Nat):Int)) U (bW ob) (aa (ac ?_)))))
    exact ag1 ((i1+1),rz1) _ (Nat.lt_succ_self _) ⟨bF hd1,aT hd1,hs7⟩ rd
theorem kA (h:HF) (l:(List ByteArray)) (eW:Option Addr) (eV:Nat) (ok:(ByteArray→Bool)) (ok_v:Value) (hl:SlC Rp.str h eW eV l) (hok:∀ (h':HF) (cG:ByteArray),HF.le h h'→uO Tryz.prog ok_v [.string cG] h' [] (.bool (ok cG))):Ret Tryz.prog 245 [.slice eW l.length eV,ok_v] h (.bool (bE l ok)):=by
 refine ay Tryz.func245 U Tryz.ntmps245 U fun X hM hX=>?_
 have hs0:bE l ok=bE l ok:=rfl
 refine sr (an (ae (sr (aa (bC kL U (aa (ac ?_)))))))
 refine br (ι:=Nat) (fun i=>[]) (fun i=>h) (fun i=>[]) (fun i=>i≤l.length∧bE l ok=((bE.K1))) ?_ (fun hx1=>?_)
 ·rintro i1 ⟨bd,hs1⟩ e
  try dsimp only at bd
  try dsimp only
  refine sr (an ?_)
  exact aw [.bool true] Tryz.func245 U hX rd (cs hs1)
 ·refine cp (ι:=Nat×List ByteArray) (fun i=>[(0,.slice eW l.length eV),(1,ok_v),(7,.slice eW l.length eV),(8,I ((l.length:Nat):Int)),(9,I ((i.1:Nat):Int))]) (fun i=>h) (fun i=>[]) (fun i=>l.drop i.1=i.2∧i.1≤l.length∧bE l ok=((bE.L1 l ok (bE.K1)) i.2 i.1)) (fun i=>i.2.length) (0,l) rd sw ⟨U,Nat.zero_le _,hs0⟩ ?_
  rintro ⟨i1,s1⟩ ⟨hd1,bd,hs3⟩ ag1 e
  try dsimp only at hd1 bd
  rcases s1 with _ | ⟨y1,rz1⟩
  ·have dI:=cU hd1
   try dsimp only
   refine sr (aB (v':=.bool false) U (cb dI) (ac (ae (bg U (bO U ?_)))))
   exact hx1 i1 _ ⟨bd,hs3⟩ trivial
  ·have dH:=dY hd1
   have bh:=cY hd1
   have eT:=aT hd1
   have gx:=hl.1.1
   try dsimp only
   refine sr (aB (v':=.bool true) U (cb dH) (ac (ae (bn U (ao (ae (aW (sr (aa (a8 (fQ (enc:=fun y=>[.string y]) (fun _ _ _ e=>e) kL ty9 hl.1 (nthZ bh) (bB bh) U U U (fun q2 A2=>?_))))))))))))
   refine eC ty9 A2 U (ba (an (sr (aa (aa (a8 (nl (v:=.bool (ok y1)) [] (List.nil_sublist _) (hok h y1 (HF.le_refl _)) U U (cV U (aa ?_)))))))))
   refine tq 6 [(0,.slice eW l.length eV),(1,ok_v),(7,.slice eW l.length eV),(8,I ((l.length:Nat):Int)),(9,I ((i1:Nat):Int)),(24,.bool ((!(ok y1))||((aQ l y1) != ((i1:Nat):Int))))] (fun hk1=>?_) (fun e=>?_)
   ·refine ar 18 U (fun c1=>?_) (fun c1=>?_)
    ·refine kq (kq (bP (ah U ?_)))
     exact hk1 _ ⟨U,U,U,U,U,(cb (dL c1)),trivial⟩
    ·refine aa (aa (aG (v:=I (aQ l y1)) E4 (jt h l eW eV y1 hl) U (aa (aJ U (ah U ?_)))))
     exact hk1 _ ⟨U,U,U,U,U,(cb (dM c1)),trivial⟩
   refine ac ?_
   refine aE U (fun c2=>?_) (fun c2=>?_)
   ·have hs5:=hs3.trans (bt c2)
    refine sr (an ?_)
    exact aw [.bool false] Tryz.func245 U hX rd (cs hs5)
   ·have hs7:=hs3.trans (bf c2)
    refine ao (av (ai (aB (v':=I (((i1+1):Nat):Int)) U (bW ob) (aa (ac ?_)))))
    exact ag1 ((i1+1),rz1) _ (Nat.lt_succ_self _) ⟨bF hd1,aT hd1,hs7⟩ rd
end Go.Sg
