import Derived.Shelf.SlSortCmp.WholeK
import Derived.Ground.SlsfProg
import Derived.Shelf.Small.Bits
import Derived.Shelf.Small.Strs
import Derived.Shelf.Strconv.Itoa0
import Derived.Shelf.Strings.Search1
import Derived.Shelf.Sort.Plain
import Derived.Ground.Names2Prog
import Derived.Shelf.Slices.CompactI
import Derived.Shelf.Slices.SearchI
import Derived.Shelf.Slices.In.SortNone
import Derived.Shelf.Slices.Empties
import Derived.Ground.SlgcProg
import Derived.Shelf.SlicesG.Cmp
import Derived.Sort.OwnSortedInts
import Derived.Test.YtpplkjhgggjaoaaGreatDoorW4
/- A part of the proof of JudgePeopleSpec. -/
set_option linter.unusedVariables false
set_option linter.unusedSimpArgs false
set_option maxRecDepth 100000
open List renaming length_cons→xA,length_append→xB,toArray→vB,mem_singleton→qC,length_nil→jC,append_assoc→vD,getElem?_eq_getElem→zG,range→zK
open Bool renaming and_eq_true→jA,or_eq_true→kC,not_eq_true'→kD,eq_iff_iff→jK
open Go.Sg.Rp renaming int→kB,aL→xH,str→Ta,iq→TW
open Go.Sg.Approval renaming cells→zC
open Go.Sg.Interest renaming cells→xC
open Go.Sg.Expr renaming cells→vC,ok→kG,mk→qH,jx→Sz,aj→SC,rp→S2,eo→Ua
open Go.Value renaming int→zD
open Go.IntKind renaming wrap→qE
open Go.Sg.Policy renaming cells→xE,ok→kN,mk→zP
open Go.Sg.SlC renaming nil→vE
open Go.Sg.OSeat renaming cells→xF,enc→SE
open Go.Sg.Deputy renaming cells→jG
open Nat renaming le_refl→vG,zero_le→qM
open Go.Obj renaming cells→zJ
open Go.Deferred renaming ofValue→xJ
open Go.Sg.Register renaming cells→vK,ok→xV
open Go.Sg.Appoint renaming cells→xL
open Go.Sg.Document renaming aj→vL,cells→qP,rp→kV,ok→SG
open Go.Sg.HF renaming le→xM
open Go.Result renaming andThen_ok→vM
open Go.Sem renaming run_bind→jP
open Go.Sg.Budget renaming cells→zS
open Go.Addr renaming add→xT
open Go.Sg.Expr.ok renaming of→SH
open Go.Sg.St renaming start→Tz
open Go.Sg.Rule renaming mk→TE,aj→TY,cells→Ue

namespace Go.Sg
variable {X:Cx}{b:Frame}{dn dn':List Nat}{ds:List Deferred}{e e':Env}{h:HF}{k:List Item}{l:List Oper}{m' n:Nat}{q:List (Nat×Nat)}
section
open Go.Proofs Go.Proofs.Tryz
theorem ty56:tySz prog 56=some (1,false):=kr
theorem ty240:tySz prog 240=some (1,false):=kr
theorem ty162:tySz prog 162=some (1,false):=kr
theorem ty182:tySz prog 182=some (2,true):=kr
theorem ty31:tySz prog 31=some (1,false):=kr
theorem ty249:tySz prog 249=some (1,false):=kr
theorem ty3:tySz prog 3=some (1,false):=kr
theorem zc182:zeroC prog 182=some [.int .i64 0,.int .i64 0]:=kr
theorem bytes182:bytesOf prog 182=some 16:=kr
theorem zc3:zeroC prog 3=some [.int .i64 0]:=kr
theorem bytes3:bytesOf prog 3=some 8:=kr
theorem zc37:zeroC prog 37=some [.int .i64 0]:=kr
theorem ty37:tySz prog 37=some (1,false):=kr
theorem zc358:zeroC prog 358=some [.int .i64 0]:=kr
theorem ty358:tySz prog 358=some (1,true):=kr
theorem PG:fldOf prog 358 0=some 0:=kr
theorem ty196:tySz prog 196=some (2,true):=kr
theorem ty194:tySz prog 194=some (1,false):=kr
theorem ty193:tySz prog 193=some (1,false):=kr
theorem ty197:tySz prog 197=some (1,false):=kr
theorem ty97:tySz prog 97=some (7,true):=kr
theorem ty24:tySz prog 24=some (1,false):=kr
theorem ty4:tySz prog 4=some (1,false):=kr
theorem ty26:tySz prog 26=some (1,false):=kr
theorem zc196:zeroC prog 196=some [.slice none 0 0,.int .i64 0]:=kr
theorem zc97:zeroC prog 97=some [.int .i64 0,.int .i64 0,.int .i64 0,.int .i64 0,.int .i64 0,.bool false,.bool false]:=kr
theorem zc193:zeroC prog 193=some [.map none]:=kr
theorem zc56:zeroC prog 56=some [.map none]:=kr
theorem zc194:zeroC prog 194=some [.chan none]:=kr
theorem zc197:zeroC prog 197=some [.nilFunc]:=kr
theorem zc31:zeroC prog 31=some [.slice none 0 0]:=kr
theorem zv4:zeroV prog 4=some (.bool false):=kr
theorem zv24:zeroV prog 24=some (.slice none 0 0):=kr
theorem zv196:zeroV prog 196=some (.agg (vB [.slice none 0 0,.int .i64 0])):=kr
theorem bytes97:bytesOf prog 97=some 48:=kr
theorem bytes196:bytesOf prog 196=some 32:=kr
theorem PI:fldOf prog 196 0=some 0:=kr
theorem QF:fldOf prog 97 0=some 0:=kr
theorem MT:fldOf prog 97 3=some 3:=kr
theorem QE:fldOf prog 97 4=some 4:=kr
theorem PJ:fldOf prog 158 1=some 1:=kr
theorem ty381:tySz prog 381=some (2,true):=kr
theorem zc381:zeroC prog 381=some [.slice none 0 0,.int .i64 0]:=kr
theorem bytes381:bytesOf prog 381=some 32:=kr
theorem KA:fldOf prog 381 1=some 1:=kr
theorem zc238:zeroC prog 238=some [.slice none 0 0,.map none,.slice none 0 0,.slice none 0 0,.slice none 0 0,.map none]:=kr
theorem ty211:tySz prog 211=some (1,false):=kr
theorem zc211:zeroC prog 211=some [.pointer none]:=kr
theorem ty236:tySz prog 236=some (1,false):=kr
theorem ty57:tySz prog 57=some (1,false):=kr
theorem ty228:tySz prog 228=some (2,true):=kr
theorem zc228:zeroC prog 228=some [.slice none 0 0,.map none]:=kr
theorem ty51:tySz prog 51=some (41,true):=kr
theorem zc51:zeroC prog 51=some (.int .i64 0::.int .i64 0::.int .i64 0::.int .i64 0::.int .i64 0::.int .i64 0::.slice none 0 0::.slice none 0 0::.slice none 0 0::.int .u8 0::.int .u8 0::.int .u8 0::.int .u8 0::.int .u8 0::.int .u8 0::.int .u8 0::.int .u8 0::.int .u8 0::.int .u8 0::.int .u8 0::.int .u8 0::.int .u8 0::.int .u8 0::.int .u8 0::.int .u8 0::.int .u8 0::.int .u8 0::.int .u8 0::.int .u8 0::.int .u8 0::.int .u8 0::.int .u8 0::.int .u8 0::.int .u8 0::.int .u8 0::.int .u8 0::.int .u8 0::.int .u8 0::.int .u8 0::.int .u8 0::.int .u8 0::[]):=kr
theorem ty190:tySz prog 190=some (1,false):=kr
theorem bytes4:bytesOf prog 4=some 1:=kr
theorem PH:fldOf prog 238 3=some 4:=kr
theorem QI:fldOf prog 51 7=some 7:=kr
theorem Iq_:fldOf prog 51 8=some 8:=kr
theorem BN:fldOf prog 36 0=some 0:=kr
theorem MU:fldOf prog 36 1=some 1:=kr
theorem QM:fldOf prog 36 2=some 2:=kr
theorem BM:fldOf prog 36 3=some 3:=kr
theorem BP:fldOf prog 126 0=some 0:=kr
theorem BO:fldOf prog 126 1=some 1:=kr
theorem ty36:tySz prog 36=some (4,true):=kr
theorem ty126:tySz prog 126=some (2,true):=kr
theorem ty33:tySz prog 33=some (1,false):=kr
theorem ty123:tySz prog 123=some (50,true):=kr
theorem ty25:tySz prog 25=some (1,false):=kr
theorem ty32:tySz prog 32=some (1,false):=kr
theorem ty64:tySz prog 64=some (10,true):=kr
theorem zc36:zeroC prog 36=some [.int .i64 0,.int .i64 0,.slice none 0 0,.slice none 0 0]:=kr
theorem zc126:zeroC prog 126=some [.int .i64 0,.nilFunc]:=kr
theorem zc123:zeroC prog 123=some (.slice none 0 0::.slice none 0 0::.slice none 0 0::.slice none 0 0::.slice none 0 0::.slice none 0 0::.slice none 0 0::.int .i64 0::.int .i64 0::.int .i64 0::.int .i64 0::.int .i64 0::.int .i64 0::.slice none 0 0::.slice none 0 0::.slice none 0 0::.int .u8 0::.int .u8 0::.int .u8 0::.int .u8 0::.int .u8 0::.int .u8 0::.int .u8 0::.int .u8 0::.int .u8 0::.int .u8 0::.int .u8 0::.int .u8 0::.int .u8 0::.int .u8 0::.int .u8 0::.int .u8 0::.int .u8 0::.int .u8 0::.int .u8 0::.int .u8 0::.int .u8 0::.int .u8 0::.int .u8 0::.int .u8 0::.int .u8 0::.int .u8 0::.int .u8 0::.int .u8 0::.int .u8 0::.int .u8 0::.int .u8 0::.int .u8 0::.int .i64 0::.int .i64 0::[]):=kr
theorem zc64:zeroC prog 64=some [.string (⟨#[]⟩:ByteArray),.slice none 0 0,.slice none 0 0,.slice none 0 0,.int .i64 0,.int .i64 0,.int .i64 0,.string (⟨#[]⟩:ByteArray),.slice none 0 0,.int .i64 0]:=kr
theorem zc4:zeroC prog 4=some [.bool false]:=kr
theorem MV:fldOf prog 30 3=some 3:=kr
theorem QO:fldOf prog 30 4=some 4:=kr
theorem QN:fldOf prog 30 5=some 5:=kr
theorem PM:fldOf prog 123 0=some 0:=kr
theorem FY:fldOf prog 123 1=some 7:=kr
theorem PL:fldOf prog 123 2=some 48:=kr
theorem PK:fldOf prog 123 3=some 49:=kr
theorem QL:fldOf prog 51 1=some 1:=kr
theorem QK:fldOf prog 51 2=some 2:=kr
theorem QJ:fldOf prog 51 3=some 3:=kr
theorem QG:fldOf prog 89 2=some 2:=kr
theorem ty89:tySz prog 89=some (7,true):=kr
theorem zc89:zeroC prog 89=some [.int .i64 0,.int .i64 0,.int .i64 0,.int .i64 0,.int .i64 0,.int .i64 0,.bool false]:=kr
theorem ty93:tySz prog 93=some (10,true):=kr
theorem zc93:zeroC prog 93=some [.int .i64 0,.int .i64 0,.int .i64 0,.int .i64 0,.int .i64 0,.int .i64 0,.int .i64 0,.int .i64 0,.int .i64 0,.bool false]:=kr
theorem ty101:tySz prog 101=some (8,true):=kr
theorem zc101:zeroC prog 101=some [.int .i64 0,.int .i64 0,.int .i64 0,.int .i64 0,.int .i64 0,.int .i64 0,.int .i64 0,.bool false]:=kr
theorem ty62:tySz prog 62=some (5,true):=kr
theorem zc327:zeroC prog 327=some [.int .i64 0,.int .i64 0,.int .i64 0,.string (⟨#[]⟩:ByteArray),.slice none 0 0,.int .i64 0]:=kr
theorem ty60:tySz prog 60=some (1,false):=kr
theorem zc62:zeroC prog 62=some [.int .i64 0,.int .i64 0,.int .i64 0,.string (⟨#[]⟩:ByteArray),.slice none 0 0]:=kr
theorem ty327:tySz prog 327=some (6,true):=kr
theorem ty59:tySz prog 59=some (1,false):=kr
theorem ty79:tySz prog 79=some (8,true):=kr
theorem zc79:zeroC prog 79=some [.string (⟨#[]⟩:ByteArray),.int .i64 0,.int .i64 0,.int .i64 0,.int .i64 0,.int .i64 0,.string (⟨#[]⟩:ByteArray),.slice none 0 0]:=kr
theorem QH:fldOf prog 79 3=some 3:=kr
theorem bytes62:bytesOf prog 62=some 64:=kr
theorem ty58:tySz prog 58=some (1,false):=kr
theorem ty9:tySz prog 9=some (1,false):=kr
theorem zc60:zeroC prog 60=some [.slice none 0 0]:=kr
theorem ty168:tySz prog 168=some (1,false):=kr
theorem bytes79:bytesOf prog 79=some 96:=kr
theorem ty105:tySz prog 105=some (13,true):=kr
theorem zc105:zeroC prog 105=some [.int .i64 0,.int .i64 0,.int .i64 0,.string (⟨#[]⟩:ByteArray),.slice none 0 0,.slice none 0 0,.slice none 0 0,.int .i64 0,.int .i64 0,.int .i64 0,.string (⟨#[]⟩:ByteArray),.slice none 0 0,.int .i64 0]:=kr
theorem KB:fldOf prog 105 3=some 3:=kr
theorem zv3:zeroV prog 3=some (.int .i64 0):=kr
theorem ty81:tySz prog 81=some (8,true):=kr
theorem zc81:zeroC prog 81=some [.int .i64 0,.int .i64 0,.int .i64 0,.int .i64 0,.int .i64 0,.int .i64 0,.int .i64 0,.bool false]:=kr
theorem ty22:tySz prog 22=some (1,false):=kr
theorem ty23:tySz prog 23=some (1,false):=kr
theorem ty27:tySz prog 27=some (1,false):=kr
theorem ty28:tySz prog 28=some (1,false):=kr
theorem ty30:tySz prog 30=some (7,true):=kr
theorem zc274:zeroC prog 274=some [.int .i64 0,.int .i64 0,.int .i64 0,.int .i64 0]:=kr
theorem ty274:tySz prog 274=some (4,true):=kr
theorem zc28:zeroC prog 28=some [.slice none 0 0]:=kr
theorem zc270:zeroC prog 270=some [.map none]:=kr
theorem ty270:tySz prog 270=some (1,false):=kr
theorem zv81:zeroV prog 81=some (.agg (vB [.int .i64 0,.int .i64 0,.int .i64 0,.int .i64 0,.int .i64 0,.int .i64 0,.int .i64 0,.bool false])):=kr
theorem eqg81:prog.eqGuardType prog.depth 81=false:=kr
theorem bytes81:bytesOf prog 81=some 64:=kr
theorem zv89:zeroV prog 89=some (.agg (vB [.int .i64 0,.int .i64 0,.int .i64 0,.int .i64 0,.int .i64 0,.int .i64 0,.bool false])):=kr
theorem bytes93:bytesOf prog 93=some 80:=kr
theorem ty277:tySz prog 277=some (1,false):=kr
theorem zc279:zeroC prog 279=some [.int .i64 0,.int .i64 0,.int .i64 0,.int .i64 0]:=kr
theorem zv93:zeroV prog 93=some (.agg (vB [.int .i64 0,.int .i64 0,.int .i64 0,.int .i64 0,.int .i64 0,.int .i64 0,.int .i64 0,.int .i64 0,.int .i64 0,.bool false])):=kr
theorem eqg93:prog.eqGuardType prog.depth 93=false:=kr
theorem ty223:tySz prog 223=some (1,false):=kr
theorem ty184:tySz prog 184=some (5,true):=kr
theorem zc223:zeroC prog 223=some [.nilFunc]:=kr
theorem zc277:zeroC prog 277=some [.map none]:=kr
theorem ty279:tySz prog 279=some (4,true):=kr
theorem zc184:zeroC prog 184=some [.int .i64 0,.int .i64 0,.int .i64 0,.int .i64 0,.int .i64 0]:=kr
theorem ty282:tySz prog 282=some (1,false):=kr
theorem zc284:zeroC prog 284=some [.int .i64 0,.int .i64 0,.bool false]:=kr
theorem zv97:zeroV prog 97=some (.agg (vB [.int .i64 0,.int .i64 0,.int .i64 0,.int .i64 0,.int .i64 0,.bool false,.bool false])):=kr
theorem eqg97:prog.eqGuardType prog.depth 97=false:=kr
theorem zc282:zeroC prog 282=some [.map none]:=kr
theorem ty284:tySz prog 284=some (3,true):=kr
theorem zv105:zeroV prog 105=some (.agg (vB [.int .i64 0,.int .i64 0,.int .i64 0,.string (⟨#[]⟩:ByteArray),.slice none 0 0,.slice none 0 0,.slice none 0 0,.int .i64 0,.int .i64 0,.int .i64 0,.string (⟨#[]⟩:ByteArray),.slice none 0 0,.int .i64 0])):=kr
theorem zc26:zeroC prog 26=some [.slice none 0 0]:=kr
theorem bytes105:bytesOf prog 105=some 184:=kr
theorem zv152:zeroV prog 152=some (.nilFunc):=kr
theorem ty111:tySz prog 111=some (5,true):=kr
theorem zc111:zeroC prog 111=some [.int .i64 0,.int .i64 0,.int .i64 0,.int .i64 0,.int .i64 0]:=kr
theorem zc267:zeroC prog 267=some [.int .i64 0,.int .i64 0]:=kr
theorem ty267:tySz prog 267=some (2,true):=kr
theorem zv101:zeroV prog 101=some (.agg (vB [.int .i64 0,.int .i64 0,.int .i64 0,.int .i64 0,.int .i64 0,.int .i64 0,.int .i64 0,.bool false])):=kr
theorem eqg101:prog.eqGuardType prog.depth 101=false:=kr
theorem bytes101:bytesOf prog 101=some 64:=kr
theorem zv31:zeroV prog 31=some (.slice none 0 0):=kr
theorem zc158:zeroC prog 158=some [.int .i64 0,.int .i64 0]:=kr
theorem ty158:tySz prog 158=some (2,true):=kr
theorem ty68:tySz prog 68=some (1,false):=kr
theorem bytes158:bytesOf prog 158=some 16:=kr
theorem ty67:tySz prog 67=some (1,false):=kr
theorem ty167:tySz prog 167=some (3,true):=kr
theorem zc330:zeroC prog 330=some [.nilFunc]:=kr
theorem ty330:tySz prog 330=some (1,false):=kr
theorem zc261:zeroC prog 261=some [.nilFunc,.nilFunc,.nilFunc,.nilFunc,.nilFunc]:=kr
theorem ty260:tySz prog 260=some (1,false):=kr
theorem ty261:tySz prog 261=some (5,true):=kr
theorem zc167:zeroC prog 167=some [.int .i64 0,.slice none 0 0,.slice none 0 0]:=kr
theorem zc68:zeroC prog 68=some [.slice none 0 0]:=kr
theorem bytes68:bytesOf prog 68=some 24:=kr
theorem zc9:zeroC prog 9=some [.string (⟨#[]⟩:ByteArray)]:=kr
theorem zc30:zeroC prog 30=some [.slice none 0 0,.slice none 0 0,.slice none 0 0,.slice none 0 0,.slice none 0 0,.slice none 0 0,.slice none 0 0]:=kr
def uX(x:gH)(h:HF)(vs:List Go.Value):Prop:=∃(r0:CV),vs=[.agg (gH.cells x r0).toArray]/\gH.ok h x r0
theorem oH(x:gH)(h:HF)(vs:List Go.Value)(e:uX x h vs):vs.length=1:=by
 obtain⟨_,e,_⟩:=e;rw[e];rfl
def ym(x:(Int×Int))(h:HF)(vs:List Go.Value):Prop:=vs=[.int .i64 x.1,.int .i64 x.2]
theorem DV(x:(Int×Int))(h:HF)(vs:List Go.Value)(e:ym x h vs):vs.length=2:=by
 rw[e];rfl
def pA(x:Approval)(h:HF)(vs:List Go.Value):Prop:=vs=[.agg (zC x).toArray]
theorem qj(x:Approval)(h:HF)(vs:List Go.Value)(e:pA x h vs):vs.length=1:=by
 rw[e];rfl
def tl(x:Deputy)(h:HF)(vs:List Go.Value):Prop:=vs=[.agg (jG x).toArray]
theorem Fs(x:Deputy)(h:HF)(vs:List Go.Value)(e:tl x h vs):vs.length=1:=by
 rw[e];rfl
def we(x:Interest)(h:HF)(vs:List Go.Value):Prop:=vs=[.agg (xC x).toArray]
theorem CA(x:Interest)(h:HF)(vs:List Go.Value)(e:we x h vs):vs.length=1:=by
 rw[e];rfl
def yT(x:Int)(h:HF)(vs:List Go.Value):Prop:=vs=[.int .i64 x]
theorem Dk(x:Int)(h:HF)(vs:List Go.Value)(e:yT x h vs):vs.length=1:=by
 rw[e];rfl
def rQ(x:(Int×Version))(h:HF)(vs:List Go.Value):Prop:=∃(r0:pM),vs=[.int .i64 x.1,.agg (Version.cells x.2 r0).toArray]/\Version.ok h x.2 r0
theorem zu(x:(Int×Version))(h:HF)(vs:List Go.Value)(e:rQ x h vs):vs.length=2:=by
 obtain⟨_,e,_⟩:=e;rw[e];rfl
def oU(x:Holder)(h:HF)(vs:List Go.Value):Prop:=vs=[.agg (Holder.cells x).toArray]
theorem tj(x:Holder)(h:HF)(vs:List Go.Value)(e:oU x h vs):vs.length=1:=by
 rw[e];rfl
theorem IS(a b:Approval)(w:World):(Op.equal 81 (Approval.enc a) (Approval.enc b)).run prog w=.ok (decide (a=b)) w:=
 sn underlying81 (by kernel_rfl) (by kernel_rfl) (by rw[jK];cases a;cases b;simp[eqv,nth,zC]) w
theorem LJ(a b:Deputy)(w:World):(Op.equal 93 (Deputy.enc a) (Deputy.enc b)).run prog w=.ok (decide (a=b)) w:=
 sn underlying93 (by kernel_rfl) (by kernel_rfl) (by rw[jK];cases a;cases b;simp[eqv,nth,jG]) w
theorem IP(a b:Interest)(w:World):(Op.equal 97 (Interest.enc a) (Interest.enc b)).run prog w=.ok (decide (a=b)) w:=
 sn underlying97 (by kernel_rfl) (by kernel_rfl) (by rw[jK];cases a;cases b;simp[eqv,nth,xC]) w
theorem LK(a b:Budget)(w:World):(Op.equal 101 (Budget.enc a) (Budget.enc b)).run prog w=.ok (decide (a=b)) w:=
 sn underlying101 (by kernel_rfl) (by kernel_rfl) (by rw[jK];cases a;cases b;simp[eqv,nth,zS]) w
theorem NQ(a b:OSeat)(w:World):(Op.equal 182 (SE a) (SE b)).run prog w=.ok (decide (a=b)) w:=
 sn Jf (by kernel_rfl) (by kernel_rfl) (by rw[jK];cases a;cases b;simp[eqv,nth,xF]) w
theorem vX:w5 prog 182 SE:=yg Jf (λe a w=>sZ e Jf (by kernel_rfl) w) NQ (λa=>by
 show Instr.sameBits (9999+1) _ _=true
 simp[Instr.sameBits,SE,xF])
theorem LM(a b:gO)(w:World):(Op.equal 267 (gO.enc a) (gO.enc b)).run prog w=.ok (decide (a=b)) w:=
 sn Ml (by kernel_rfl) (by kernel_rfl) (by rw[jK];cases a;cases b;simp[eqv,nth,gO.cells]) w
theorem yh:w5 prog 267 gO.enc:=yg Ml (λe a w=>sZ e Ml (by kernel_rfl) w) LM (λa=>by
 show Instr.sameBits (9999+1) _ _=true
 simp[Instr.sameBits,gO.enc,gO.cells])
theorem IT(a b:eG)(w:World):(Op.equal 274 (eG.enc a) (eG.enc b)).run prog w=.ok (decide (a=b)) w:=
 sn Oz (by kernel_rfl) (by kernel_rfl) (by rw[jK];cases a;cases b;simp[eqv,nth,eG.cells]) w
theorem mA:w5 prog 274 eG.enc:=yg Oz (λe a w=>sZ e Oz (by kernel_rfl) w) IT (λa=>by
 show Instr.sameBits (9999+1) _ _=true
 simp[Instr.sameBits,eG.enc,eG.cells])
theorem IR(a b:dL)(w:World):(Op.equal 279 (dL.enc a) (dL.enc b)).run prog w=.ok (decide (a=b)) w:=
 sn Mk (by kernel_rfl) (by kernel_rfl) (by rw[jK];cases a;cases b;simp[eqv,nth,dL.cells]) w
theorem uH:w5 prog 279 dL.enc:=yg Mk (λe a w=>sZ e Mk (by kernel_rfl) w) IR (λa=>by
 show Instr.sameBits (9999+1) _ _=true
 simp[Instr.sameBits,dL.enc,dL.cells])
theorem IQ(a b:cS)(w:World):(Op.equal 284 (cS.enc a) (cS.enc b)).run prog w=.ok (decide (a=b)) w:=
 sn Mj (by kernel_rfl) (by kernel_rfl) (by rw[jK];cases a;cases b;simp[eqv,nth,cS.cells]) w
theorem uG:w5 prog 284 cS.enc:=yg Mj (λe a w=>sZ e Mj (by kernel_rfl) w) IQ (λa=>by
 show Instr.sameBits (9999+1) _ _=true
 simp[Instr.sameBits,cS.enc,cS.cells])
def tabF:List (Nat×Nat×Nat):=(358,0,0)::(196,0,0)::(196,1,1)::(97,0,0)::(97,3,3)::(97,4,4)::(97,5,5)::(158,1,1)::(381,0,0)::(381,1,1)::(238,0,0)::(238,1,2)::(238,2,3)::(238,3,4)::(238,4,5)::(228,0,0)::(228,1,1)::(51,0,0)::(51,7,7)::(51,8,8)::(36,0,0)::(36,1,1)::(36,2,2)::(36,3,3)::(126,0,0)::(126,1,1)::(30,3,3)::(30,4,4)::(30,5,5)::(123,0,0)::(123,1,7)::(123,2,48)::(123,3,49)::(51,1,1)::(51,2,2)::(51,3,3)::(89,6,6)::(89,0,0)::(89,1,1)::(89,2,2)::(89,3,3)::(89,4,4)::(89,5,5)::(93,0,0)::(93,1,1)::(93,2,2)::(93,4,4)::(93,5,5)::(93,6,6)::(93,7,7)::(93,9,9)::(93,3,3)::(93,8,8)::(97,1,1)::(97,2,2)::(101,7,7)::(101,0,0)::(101,1,1)::(101,2,2)::(101,3,3)::(101,4,4)::(101,5,5)::(101,6,6)::(62,4,4)::(64,3,3)::(79,3,3)::(64,4,4)::(64,2,2)::(64,1,1)::(327,1,5)::(62,0,0)::(64,0,0)::(327,0,0)::(62,3,3)::(62,1,1)::(64,5,9)::(79,0,0)::(79,2,2)::(62,2,2)::(79,1,1)::(105,0,0)::(105,1,1)::(105,2,2)::(105,3,3)::(51,4,4)::(51,5,5)::(51,6,6)::(81,0,0)::(81,1,1)::(81,2,2)::(81,3,3)::(81,4,4)::(81,5,5)::(81,6,6)::(30,0,0)::(30,1,1)::(30,2,2)::(30,6,6)::(81,7,7)::(184,0,0)::(184,1,1)::(184,2,2)::(184,3,3)::(184,4,4)::(97,6,6)::(111,0,0)::(111,1,1)::(111,2,2)::(111,3,3)::(111,4,4)::(182,1,1)::(182,0,0)::(158,0,0)::(167,1,1)::(167,2,2)::(167,0,0)::[]
def tabY:List Nat:=56::240::162::31::249::3::37::194::193::197::24::4::26::281::211::236::57::190::33::25::32::366::60::59::58::9::168::22::23::27::28::270::277::223::282::68::67::330::260::[]
def tabS:List Nat:=22::23::24::25::26::27::28::31::32::57::58::59::60::67::68::129::141::249::378::[]
theorem tabs:tabOk prog tabF tabY tabS=true:=kr
theorem qK(m:Nat)(is:List Nat){F:List Frame->(Machine->Prop)->Prop}{L:LH}{s:Qs}(hr:runL tabF tabY tabS n L m is (.tt k e)=some (s,q))(t:s.holds prog b n F ds X h L)(hq:QT q:=by repeat (first|exact trivial|refine⟨rfl,?_⟩)):TT prog b n k F e ds X h L:=so tabs m is _ hr hq t
theorem qL(m:Nat)(is:List Nat){ops:Array Oper}{F:List Frame->(Machine->Prop)->Prop}{L:LH}{s:Qs}(hr:runL tabF tabY tabS n L m is (.to ops l k e)=some (s,q))(t:s.holds prog b n F ds X h L)(hq:QT q:=by repeat (first|exact trivial|refine⟨rfl,?_⟩)):TO prog b n ops l k F e ds X h L:=so tabs m is _ hr hq t
theorem tabsF:(tabF.all λx=>fldOf prog x.1 x.2.1==some x.2.2)=true:=kr
theorem qB(is:List Nat){h1:HF}{K:LH}{m:Nat}{F:List Frame->(Machine->Prop)->Prop}{L:LH}(hr:runB tabF l is m dn e=some (m',dn',e'))(t:TA prog b n l.toArray k F ds X (Jst h1 K) m' dn' e' h L)(hsep:sepAll l.toArray=true:=by assumption)(hJ:Jst h1 K h L:=by exact jn)(hn:allNext l is dn=true:=by kernel_rfl):TA prog b n l.toArray k F ds X (Jst h1 K) m dn e h L:=D7 tabsF hsep hJ is m dn e hr hn t
theorem qD(a c:Nat){h1:HF}{K:LH}{m:Nat}{F:List Frame->(Machine->Prop)->Prop}{L:LH}(hr:runB tabF l (List.range' a c) m dn e=some (m',dn',e'))(t:TA prog b n l.toArray k F ds X (Jst h1 K) m' dn' e' h L)(hsep:sepAll l.toArray=true:=by assumption)(hJ:Jst h1 K h L:=by exact jn)(hn:allNext l (List.range' a c) dn=true:=by kernel_rfl):TA prog b n l.toArray k F ds X (Jst h1 K) m dn e h L:=D7 tabsF hsep hJ _ m dn e hr hn t
theorem mixed:prog.follows .mixedOrders=true:=kr
end
section
open Go.Proofs Go.Proofs.Tryz
set_option maxHeartbeats 2000000
theorem j7(h:HF)(eW:Int)(low:Int)(high:Int)  : Ret prog 175 [I eW,I low,I high] h (.bool (dI eW low high)):=by
 refine sT func175 U ntmps175 U λX hM hX hF=>?_
 have hs0:=@rfl _ (dI eW low high)
 refine qT 10 U (aU 4 [10,11,12,13,14] 10 14 (decide (eW<=high)) U (λc1 hk1=>?_) (λe=>?_))
 .exact av (qO 3 U (hk1 _ U))
 exact an (nretP [.bool (decide (low<=eW)&&decide (eW<=high))] (cs hs0))
theorem mH(h:HF)(eW:Int)  : Ret prog 89 [I eW] h (.bool (eN eW)):=by
 refine sT func89 U ntmps89 U λX hM hX hF=>?_
 have hs0:=@rfl _ (eN eW)
 exact sr (qO 5 U (ai Hg (j7 h eW 0 31) U (an (nretP [.bool (dI eW 0 31)] (cs hs0)))))
theorem jg(h:HF)(eW:Int)  : Ret prog 90 [I eW] h (.bool (di eW)):=by
 refine sT func90 U ntmps90 U λX hM hX hF=>?_
 have hs0:=@rfl _ (di eW)
 exact sr (qO 5 U (ai Hg (j7 h eW 0 1099511627775) U (an (nretP [.bool (dI eW 0 1099511627775)] (cs hs0)))))
theorem oA(h:HF)(eW:Int)  : Ret prog 107 [I eW] h (.bool (fE eW)):=by
 refine sT func107 U ntmps107 U λX hM hX hF=>?_
 have hs0:=@rfl _ (fE eW)
 exact sr (qO 5 U (ai Hg (j7 h eW 0 63) U (an (nretP [.bool (dI eW 0 63)] (cs hs0)))))
theorem Cq(h:HF)(x:Appoint)  : Ret prog 145 [.agg (xL x).toArray] h (.bool (oG x)):=by
 refine sT func145 U ntmps145 U λX hM hX hF=>?_
 have hs0:=@rfl _ (oG x)
 refine sr (bS (λb1=>qL 13 [0] U (ae hs0 U (λc1 hs1=>?_) (λc1 hs2=>?_))))
 .refine qK 8 [0] U (ai Hg (j7 h x.No 0 1048576) U (av (aU 4 [10,11,12,13,14] 10 14 (di x.At) U (λc2 hk1=>?_) (λe=>?_))))
  .exact qL 2 [0] U (ai Eo (jg h x.At) U (eE U (hk1 _ U)))
  refine av (aU 4 [15,16,17,18,19] 15 19 (di x.Known) U (λc3 hk2=>?_) (λe=>?_))
  .exact qL 2 [0] U (ai Eo (jg h x.Known) U (eE U (hk2 _ U)))
  refine av (aU 4 [20,21,22,23,24] 20 24 (eN x.Office) U (λc4 hk3=>?_) (λe=>?_))
  .exact qL 2 [0] U (ai Oy (mH h x.Office) U (eE U (hk3 _ U)))
  refine av (aU 4 [25,26,27,28,29] 25 29 (fE x.Person) U (λc5 hk4=>?_) (λe=>?_))
  .exact qL 2 [0] U (ai call107 (oA h x.Person) U (eE U (hk4 _ U)))
  refine av (aU 6 [30,31,32,33,34,35,36] 30 36 (dI x.Weight 0 0) U (λc6 hk5=>?_) (λe=>?_))
  .exact qL 4 [0] U (ai Hg (j7 h x.Weight 0 0) U (eE U (hk5 _ U)))
  exact an (nretP [.bool ((((((dI x.No 0 1048576)&&(di x.At))&&(di x.Known))&&(eN x.Office))&&(fE x.Person))&&(dI x.Weight 0 0))] (cs hs1))
 refine qK 5 [0] U (ai Hg (j7 h x.No 0 1048576) U (av (aU 4 [10,11,12,13,14] 10 14 (di x.At) U (λc7 hk6=>?_) (λe=>?_))))
 .exact qL 2 [0] U (ai Eo (jg h x.At) U (eE U (hk6 _ U)))
 refine av (aU 4 [15,16,17,18,19] 15 19 (di x.Known) U (λc8 hk7=>?_) (λe=>?_))
 .exact qL 2 [0] U (ai Eo (jg h x.Known) U (eE U (hk7 _ U)))
 refine av (aU 4 [20,21,22,23,24] 20 24 (eN x.Office) U (λc9 hk8=>?_) (λe=>?_))
 .exact qL 2 [0] U (ai Oy (mH h x.Office) U (eE U (hk8 _ U)))
 refine av (aU 4 [25,26,27,28,29] 25 29 (fE x.Person) U (λc10 hk9=>?_) (λe=>?_))
 .exact qL 2 [0] U (ai call107 (oA h x.Person) U (eE U (hk9 _ U)))
 refine av (aU 6 [30,31,32,33,34,35,36] 30 36 (dI x.Weight 1 64) U (λc11 hk10=>?_) (λe=>?_))
 .exact qL 4 [0] U (ai Hg (j7 h x.Weight 1 64) U (eE U (hk10 _ U)))
 exact an (nretP [.bool ((((((dI x.No 0 1048576)&&(di x.At))&&(di x.Known))&&(eN x.Office))&&(fE x.Person))&&(dI x.Weight 1 64))] (cs hs2))
theorem qh(h:HF)(l:List Appoint)(dU:Option Addr)(dT:Nat)(hl:SlC Appoint.rp h dU dT l):Ret prog 65 [.slice dU l.length dT] h (I (df l)):=by
 refine sT func65 U ntmps65 U λX hM hX hF=>?_
 have hs0:=@rfl _ (df l)
 refine qK 11 [] U (ae hs0 U (λc1 hs1=>?_) (λc1 hs2=>?_))
 .have c1p:=of_decide_eq_true c1
  exact sr (an (nretP [I 2] (ci hs1)))
 have c1p:=of_decide_eq_false c1
 refine qK 12 [] U ?_
 refine lp1 l (λi w=>[(3,I w),(9,.slice dU l.length dT),(10,I (l.length:Int)),(11,I (i:Int))]) ([]) (λs1 i w=>(df.L1 (df.K1)) s1 w) (-1) hl.1.1 hs2 ?_ ?_
 .rintro i1 iC ft hs4 e
  exact sr (an (nretP [I 0] (ci hs4)))
 rintro i1 iC y1 rz1 hd1 cY aJ dY gy hs6 hx1 ag1 e
 refine sr (tO cY U (qO 8 U (aA (iF xL sO ty89 hl.1 aJ U U U (λq2 A2=>dv ty89 A2 U U (aS zc89 (λb2=>aR 0 ty89 U U U U U U (qO 4 U (cN 0 ty89 U U U (ai call145 (Cq h y1) U (qO 2 U (bL 5 [18,19,20,21,22,23] 18 23 (decide (y1.No<=iC)) U (λc2 hk1=>?_) (λe=>?_)))))))))))))
 .exact qL 5 [0] U (hk1 _ U)
 refine aI (ae hs6 U (λc3 hs7=>?_) (λc3 hs8=>?_))
 .exact sr (an (nretP [I 150] (ci hs7)))
 exact qK 8 [0] U (oi i1 U (qO 2 U (ba (L':=[]) js (ag1 y1.No hs8))))
theorem iB(h:HF)(eW:Int)(low:Int)(high:Int)  : Ret prog 201 [I eW,I low,I high] h (.bool (bV eW low high)):=by
 refine sT func201 U ntmps201 U λX hM hX hF=>?_
 have hs0:=@rfl _ (bV eW low high)
 refine qT 10 U (aU 4 [10,11,12,13,14] 10 14 (decide (eW<=high)) U (λc1 hk1=>?_) (λe=>?_))
 .exact av (qO 3 U (hk1 _ U))
 exact an (nretP [.bool (decide (low<=eW)&&decide (eW<=high))] (cs hs0))
theorem mv(h:HF)(eW:Int)  : Ret prog 200 [I eW] h (.bool (fD eW)):=by
 refine sT func200 U ntmps200 U λX hM hX hF=>?_
 have hs0:=@rfl _ (fD eW)
 exact sr (qO 5 U (ai C3 (iB h eW 0 63) U (an (nretP [.bool (bV eW 0 63)] (cs hs0)))))
theorem nq(h:HF)(eW:Int)  : Ret prog 202 [I eW] h (.bool (fX eW)):=by
 refine sT func202 U ntmps202 U λX hM hX hF=>?_
 have hs0:=@rfl _ (fX eW)
 exact sr (qO 5 U (ai C3 (iB h eW 0 1099511627775) U (an (nretP [.bool (bV eW 0 1099511627775)] (cs hs0)))))
theorem BR(h:HF)(x:Deputy)  : Ret prog 146 [.agg (jG x).toArray] h (.bool (mZ x)):=by
 refine sT func146 U ntmps146 U λX hM hX hF=>?_
 have hs0:=@rfl _ (mZ x)
 refine sr (bS (λb1=>qL 7 [0] U (ai C3 (iB h x.No 0 1048576) U (qO 2 U (bL 5 [7,8,9,10,11,12] 7 12 (!(fX x.At)) U (λc1 hk1=>?_) (λe=>?_))))))
 .exact qL 2 [0] U (ai Ox (nq h x.At) U (qO 2 U (hk1 _ U)))
 refine av (bL 5 [13,14,15,16,17,18] 13 18 (!(fX x.Known)) U (λc2 hk2=>?_) (λe=>?_))
 .exact qL 2 [0] U (ai Ox (nq h x.Known) U (qO 2 U (hk2 _ U)))
 refine av (bL 5 [19,20,21,22,23,24] 19 24 (!(fD x.From)) U (λc3 hk3=>?_) (λe=>?_))
 .exact qL 2 [0] U (ai Ow (mv h x.From) U (qO 2 U (hk3 _ U)))
 refine av (bL 5 [25,26,27,28,29,30] 25 30 (!(fD x.To)) U (λc4 hk4=>?_) (λe=>?_))
 .exact qL 2 [0] U (ai Ow (mv h x.To) U (qO 2 U (hk4 _ U)))
 refine av (bL 6 [31,32,33,34,35,36,37] 31 37 (x.From==x.To) U (λc5 hk5=>?_) (λe=>?_))
 .exact qL 6 [0,0] U (hk5 _ U)
 refine av (bL 5 [38,39,40,41,42,43] 38 43 (!(bV x.Office 0 31)) U (λc6 hk6=>?_) (λe=>?_))
 .exact qL 2 [0] U (ai C3 (iB h x.Office 0 31) U (qO 2 U (hk6 _ U)))
 refine av (bL 5 [44,45,46,47,48,49] 44 49 (!(bV x.Kind (-1) 15)) U (λc7 hk7=>?_) (λe=>?_))
 .exact qL 2 [0] U (ai C3 (iB h x.Kind (-1) 15) U (qO 2 U (hk7 _ U)))
 refine aI (ae hs0 U (λc8 hs1=>?_) (λc8 hs2=>?_))
 .exact sr (an (nretP [.bool false] (cs hs1)))
 refine qK 7 [0] U (ae hs2 U (λc9 hs4=>?_) (λc9 hs5=>?_))
 .refine qK 6 [0] U (aU 4 [55,56,57,58,59] 55 59 (x.Most==0) U (λc10 hk8=>?_) (λe=>?_))
  .exact qL 4 [0] U (hk8 _ U)
  exact an (nretP [.bool ((x.Until==0)&&(x.Most==0))] (cs hs4))
 refine qK 9 [0,0] U (aU 4 [65,66,67,68,69] 65 69 (decide (x.Until<=1099511627776)) U (λc11 hk9=>?_) (λe=>?_))
 .exact qL 4 [0] U (hk9 _ U)
 refine av (aU 4 [70,71,72,73,74] 70 74 (bV x.Most 0 1099511627776) U (λc12 hk10=>?_) (λe=>?_))
 .exact qL 2 [0] U (ai C3 (iB h x.Most 0 1099511627776) U (eE U (hk10 _ U)))
 exact an (nretP [.bool ((decide (x.At<x.Until)&&decide (x.Until<=1099511627776))&&(bV x.Most 0 1099511627776))] (cs hs5))
theorem um(h:HF)(l:List Deputy)(dU:Option Addr)(dT:Nat)(hl:SlC Deputy.rp h dU dT l):Ret prog 66 [.slice dU l.length dT] h (I (dk l)):=by
 refine sT func66 U ntmps66 U λX hM hX hF=>?_
 have hs0:=@rfl _ (dk l)
 refine qK 11 [] U (ae hs0 U (λc1 hs1=>?_) (λc1 hs2=>?_))
 .have c1p:=of_decide_eq_true c1
  exact sr (an (nretP [I 2] (ci hs1)))
 have c1p:=of_decide_eq_false c1
 refine qK 12 [] U ?_
 refine lp1 l (λi w=>[(3,I w),(9,.slice dU l.length dT),(10,I (l.length:Int)),(11,I (i:Int))]) ([]) (λs1 i w=>(dk.L1 (dk.K1)) s1 w) (-1) hl.1.1 hs2 ?_ ?_
 .rintro i1 iC ft hs4 e
  exact sr (an (nretP [I 0] (ci hs4)))
 rintro i1 iC y1 rz1 hd1 cY aJ dY gy hs6 hx1 ag1 e
 refine sr (tO cY U (qO 8 U (aA (iF jG nr ty93 hl.1 aJ U U U (λq2 A2=>dv ty93 A2 U U (aS zc93 (λb2=>aR 0 ty93 U U U U U U (qO 4 U (cN 0 ty93 U U U (ai call146 (BR h y1) U (qO 2 U (bL 5 [18,19,20,21,22,23] 18 23 (decide (y1.No<=iC)) U (λc2 hk1=>?_) (λe=>?_)))))))))))))
 .exact qL 5 [0] U (hk1 _ U)
 refine aI (ae hs6 U (λc3 hs7=>?_) (λc3 hs8=>?_))
 .exact sr (an (nretP [I 160] (ci hs7)))
 exact qK 8 [0] U (oi i1 U (qO 2 U (ba (L':=[]) js (ag1 y1.No hs8))))
theorem hY(h:HF)(eW:Int)(limit:Int)  : Ret prog 207 [I eW,I limit] h (.bool (aW eW limit)):=by
 refine sT func207 U ntmps207 U λX hM hX hF=>?_
 have hs0:=@rfl _ (aW eW limit)
 refine qT 9 U (aU 4 [7,8,9,10,11] 7 11 (decide (eW<limit)) U (λc1 hk1=>?_) (λe=>?_))
 .exact av (qO 3 U (hk1 _ U))
 exact an (nretP [.bool (decide (0<=eW)&&decide (eW<limit))] (cs hs0))
theorem AE(h:HF)(x:Interest)  : Ret prog 147 [.agg (xC x).toArray] h (.bool (mn x)):=by
 refine sT func147 U ntmps147 U λX hM hX hF=>?_
 have hs0:=@rfl _ (mn x)
 refine sr (bS (λb1=>qL 6 [0] U (ai C2 (hY h x.No 1048577) U (av (aU 4 [7,8,9,10,11] 7 11 (aW x.At 1099511627776) U (λc1 hk1=>?_) (λe=>?_))))))
 .exact qL 2 [0] U (ai C2 (hY h x.At 1099511627776) U (eE U (hk1 _ U)))
 refine av (aU 4 [12,13,14,15,16] 12 16 (aW x.Known 1099511627776) U (λc2 hk2=>?_) (λe=>?_))
 .exact qL 2 [0] U (ai C2 (hY h x.Known 1099511627776) U (eE U (hk2 _ U)))
 refine av (aU 4 [17,18,19,20,21] 17 21 (aW x.Party 1048577) U (λc3 hk3=>?_) (λe=>?_))
 .exact qL 2 [0] U (ai C2 (hY h x.Party 1048577) U (eE U (hk3 _ U)))
 refine qL 8 [0] U (ae hs0 U (λc4 hs1=>?_) (λc4 hs2=>?_))
 .refine qT 4 U (aU 4 [25,26,27,28,29] 25 29 (aW x.Person 1048577) U (λc5 hk4=>?_) (λe=>?_))
  .exact qL 2 [0] U (ai C2 (hY h x.Person 1048577) U (eE U (hk4 _ U)))
  refine av (aU 6 [30,31,32,33,34,35,36] 30 36 (x.Person != x.Party) U (λc6 hk5=>?_) (λe=>?_))
  .exact qL 6 [0,0] U (hk5 _ U)
  exact an (nretP [.bool ((((((aW x.No 1048577)&&(aW x.At 1099511627776))&&(aW x.Known 1099511627776))&&(aW x.Party 1048577))&&(aW x.Person 1048577))&&(x.Person != x.Party))] (cs hs1))
 refine qT 5 U (aU 4 [38,39,40,41,42] 38 42 (aW x.Person 64) U (λc7 hk6=>?_) (λe=>?_))
 .exact qL 2 [0] U (ai C2 (hY h x.Person 64) U (eE U (hk6 _ U)))
 exact an (nretP [.bool (((((aW x.No 1048577)&&(aW x.At 1099511627776))&&(aW x.Known 1099511627776))&&(aW x.Party 1048577))&&(aW x.Person 64))] (cs hs2))
theorem tv(h:HF)(l:List Interest)(dU:Option Addr)(dT:Nat)(hl:SlC Interest.rp h dU dT l):Ret prog 67 [.slice dU l.length dT] h (I (cm l)):=by
 refine sT func67 U ntmps67 U λX hM hX hF=>?_
 have hs0:=@rfl _ (cm l)
 refine qK 11 [] U (ae hs0 U (λc1 hs1=>?_) (λc1 hs2=>?_))
 .have c1p:=of_decide_eq_true c1
  exact sr (an (nretP [I 2] (ci hs1)))
 have c1p:=of_decide_eq_false c1
 refine qK 12 [] U ?_
 refine lp1 l (λi w=>[(3,I w),(9,.slice dU l.length dT),(10,I (l.length:Int)),(11,I (i:Int))]) ([]) (λs1 i w=>(cm.L1 (cm.K1)) s1 w) (-1) hl.1.1 hs2 ?_ ?_
 .rintro i1 iC ft hs4 e
  exact sr (an (nretP [I 0] (ci hs4)))
 rintro i1 iC y1 rz1 hd1 cY aJ dY gy hs6 hx1 ag1 e
 refine sr (tO cY U (qO 8 U (aA (iF xC pg ty97 hl.1 aJ U U U (λq2 A2=>dv ty97 A2 U U (aS zc97 (λb2=>aR 0 ty97 U U U U U U (qO 4 U (cN 0 ty97 U U U (ai call147 (AE h y1) U (qO 2 U (bL 5 [18,19,20,21,22,23] 18 23 (decide (y1.No<=iC)) U (λc2 hk1=>?_) (λe=>?_)))))))))))))
 .exact qL 5 [0] U (hk1 _ U)
 refine aI (ae hs6 U (λc3 hs7=>?_) (λc3 hs8=>?_))
 .exact sr (an (nretP [I 290] (ci hs7)))
 exact qK 8 [0] U (oi i1 U (qO 2 U (ba (L':=[]) js (ag1 y1.No hs8))))
theorem uQ(h:HF)(s:List Int)(sY:Option Addr)(sX:Nat)(f:(Int->Bool))(f_v:Value)(hs:SlC kB h sY sX s)(hf:∀(h':HF)(dE:Int),xM h h'->uL prog f_v [I dE] h' [] (.bool (f dE))):Ret prog 220 [.slice sY s.length sX,f_v] h (I (dW s f)):=by
 refine sT func220 U ntmps220 U λX hM hX hF=>?_
 have hs0:=@rfl _ (dW s f)
 refine qK 11 [] U ?_
 refine lp0 s (λi=>[(0,.slice sY s.length sX),(1,f_v),(7,I (s.length:Int)),(8,I (i:Int))]) ([]) (λs1 i=>(dW.L1 f (dW.K1)) s1 i) hs.1.1 hs0 ?_ ?_
 .rintro i1 ft hs1 e
  exact sr (an (nretP [I (-1)] (ci hs1)))
 rintro i1 y1 rz1 hd1 cY aJ dY gy hs3 hx1 ag1 e
 refine sr (tO cY U (qO 16 U (aA (iF (λy=>[I y]) dy ty3 hs.1 aJ U U U (λq2 A2=>dD ty3 A2 U (aA (mG (v:=.bool (f y1)) [] (List.nil_sublist _) (hf h y1 lf) U U (aI (ae hs3 U (λc2 hs4=>?_) (λc2 hs5=>?_))))))))))
 .exact sr (qO 3 U (nretP [I (i1:Int)] (ci hs4)))
 exact aH (qT 2 U (oi i1 U (qO 2 U (ag1 hs5))))
theorem ie(h:HF)(s:List Int)(sY:Option Addr)(sX:Nat)(f:(Int->Bool))(f_v:Value)(hs:SlC kB h sY sX s)(hf:∀(h':HF)(dE:Int),xM h h'->uL prog f_v [I dE] h' [] (.bool (f dE))):Ret prog 132 [.slice sY s.length sX,f_v] h (.bool (cI s f)):=by
 refine sT func132 U ntmps132 U λX hM hX hF=>?_
 have hs0:=@rfl _ (cI s f)
 exact sr (qO 6 U (ai call220 (uQ _ _ _ _ f f_v hs hf) U (qO 3 U (nretP [.bool (decide (0<=(dW s f)))] (cs hs0)))))
theorem yD(h:HF)(eW:Int)(v0:Int)(v0_q:Addr)(v1:Int)(v1_q:Addr)(av0:At h v0_q [I v0])(av1:At h v1_q [I v1]):Ret prog 194 [I eW,.pointer (some v0_q),.pointer (some v1_q)] h (.bool (iN eW v0 v1)):=by
 refine sT func194 U ntmps194 U λX hM hX hF=>?_
 have hs0:=@rfl _ (iN eW v0 v1)
 refine qT 7 U (dD ty3 av0 U (qO 2 U (bL 4 [8,9,10,11,12] 8 12 (decide (v1<eW)) U (λc1 hk1=>?_) (λe=>?_))))
 .exact av (dD ty3 av1 U (qO 2 U (hk1 _ U)))
 exact an (nretP [.bool (decide (eW<v0)||decide (v1<eW))] (cs hs0))
theorem dN(h:HF)(least:Int)(most:Int)(l:List Int)(dU:Option Addr)(dT:Nat)(hl:SlC kB h dU dT l):Ret prog 100 [I least,I most,.slice dU l.length dT] h (.bool (aQ least most l)):=by
 refine sT func100 U ntmps100 U λX hM hX hF=>?_
 have hs0:=@rfl _ (aQ least most l)
 exact sr (bS (λb1=>bS (λb2=>qO 5 U (aO 1 U hM (λh1 hle1 hb1=>aO 0 U hM (λh2 hle2 hb2=>aA (eI U U (ai Je (ie _ _ _ _ (λdE=>iN dE least most) (.func (.func 194) #[] #[Q b1,Q b2]) (hl.mono xH (hle1.t hle2)) (λh' dE hle=>iK call194 (yD h' dE least ⟨b1,0,none⟩ most ⟨b2,0,none⟩  (((cz hb1).mono hle2).mono hle) ((cz hb2).mono hle)))) U (qO 3 U (nretP [.bool (!(cI l (λdE=>iN dE least most)))] (cs hs0)))))))))))
theorem CT(h:HF)(x:Budget)  : Ret prog 148 [.agg (zS x).toArray] h (.bool (li x)):=by
 refine sT func148 U ntmps148 U λX hM hX hF=>?_
 have hs0:=@rfl _ (li x)
 refine sr (bS (λb1=>qL 13 [0] U (ae hs0 U (λc1 hs1=>?_) (λc1 hs2=>?_))))
 .refine qK 8 [0] U (aA (aV (cells:=[I x.No]) dy ty3 zc3 U U kr (λb2=>aO 0 U hM (λh1 hle1 hb1=>?_))))
  have sl1:SlC kB h1 (some ⟨b2,0,none⟩) 1 ([x.No]):=aY.slB0 (T:=3) (fz:=(0,0)) ((show aY kB h [I x.No] ([x.No])from⟨[I x.No],[],rfl,rfl,rfl,rfl⟩).mono xH hle1) hb1
  refine ai wP (dN _ 0 1048576 _ _ _ sl1) U (av (aU 7 [11,12,13,14,15,16,17,18] 11 18 (aQ 0 1099511627775 ([x.At,x.Known])) U (λc2 hk1=>?_) (λe=>?_)))
  .refine qL 4 [0,0] U (aA (aV (cells:=[I x.At,I x.Known]) dy ty3 zc3 U U kr (λb3=>aO 0 U hM (λh2 hle2 hb2=>?_))))
   have sl2:SlC kB h2 (some ⟨b3,0,none⟩) 2 ([x.At,x.Known]):=aY.slB0 (T:=3) (fz:=(0,0)) ((show aY kB h1 [I x.At,I x.Known] ([x.At,x.Known])from⟨[I x.At],[I x.Known],rfl,rfl,rfl,⟨[I x.Known],[],rfl,rfl,rfl,rfl⟩⟩).mono xH hle2) hb2
   exact ai wP (dN _ 0 1099511627775 _ _ _ sl2) U (eE U (lg (h:=h1) hle2 hX hle1 (hk1 _ U)))
  refine av (aU 5 [19,20,21,22,23,24] 19 24 (aQ (-1) 15 ([x.Kind])) U (λc3 hk2=>?_) (λe=>?_))
  .refine qL 2 [0] U (aA (aV (cells:=[I x.Kind]) dy ty3 zc3 U U kr (λb4=>aO 0 U hM (λh3 hle3 hb3=>?_))))
   have sl3:SlC kB h3 (some ⟨b4,0,none⟩) 1 ([x.Kind]):=aY.slB0 (T:=3) (fz:=(0,0)) ((show aY kB h1 [I x.Kind] ([x.Kind])from⟨[I x.Kind],[],rfl,rfl,rfl,rfl⟩).mono xH hle3) hb3
   exact ai wP (dN _ (-1) 15 _ _ _ sl3) U (eE U (lg (h:=h1) hle3 hX hle1 (hk2 _ U)))
  refine av (aU 5 [25,26,27,28,29,30] 25 30 (aQ 1 1099511627776 ([x.Period])) U (λc4 hk3=>?_) (λe=>?_))
  .refine qL 2 [0] U (aA (aV (cells:=[I x.Period]) dy ty3 zc3 U U kr (λb5=>aO 0 U hM (λh4 hle4 hb4=>?_))))
   have sl4:SlC kB h4 (some ⟨b5,0,none⟩) 1 ([x.Period]):=aY.slB0 (T:=3) (fz:=(0,0)) ((show aY kB h1 [I x.Period] ([x.Period])from⟨[I x.Period],[],rfl,rfl,rfl,rfl⟩).mono xH hle4) hb4
   exact ai wP (dN _ 1 1099511627776 _ _ _ sl4) U (eE U (lg (h:=h1) hle4 hX hle1 (hk3 _ U)))
  refine av (aU 6 [31,32,33,34,35,36,37] 31 37 (aQ 0 0 ([x.Count])) U (λc5 hk4=>?_) (λe=>?_))
  .refine qL 3 [0] U (aA (aV (cells:=[I x.Count]) dy ty3 zc3 U U kr (λb6=>aO 0 U hM (λh5 hle5 hb5=>?_))))
   have sl5:SlC kB h5 (some ⟨b6,0,none⟩) 1 ([x.Count]):=aY.slB0 (T:=3) (fz:=(0,0)) ((show aY kB h1 [I x.Count] ([x.Count])from⟨[I x.Count],[],rfl,rfl,rfl,rfl⟩).mono xH hle5) hb5
   exact ai wP (dN _ 0 0 _ _ _ sl5) U (eE U (lg (h:=h1) hle5 hX hle1 (hk4 _ U)))
  refine av (aU 6 [38,39,40,41,42,43,44] 38 44 (aQ 0 0 ([x.Value])) U (λc6 hk5=>?_) (λe=>?_))
  .refine qL 3 [0] U (aA (aV (cells:=[I x.Value]) dy ty3 zc3 U U kr (λb7=>aO 0 U hM (λh6 hle6 hb6=>?_))))
   have sl6:SlC kB h6 (some ⟨b7,0,none⟩) 1 ([x.Value]):=aY.slB0 (T:=3) (fz:=(0,0)) ((show aY kB h1 [I x.Value] ([x.Value])from⟨[I x.Value],[],rfl,rfl,rfl,rfl⟩).mono xH hle6) hb6
   exact ai wP (dN _ 0 0 _ _ _ sl6) U (eE U (lg (h:=h1) hle6 hX hle1 (hk5 _ U)))
  exact an (nretP [.bool ((((((aQ 0 1048576 ([x.No]))&&(aQ 0 1099511627775 ([x.At,x.Known])))&&(aQ (-1) 15 ([x.Kind])))&&(aQ 1 1099511627776 ([x.Period])))&&(aQ 0 0 ([x.Count])))&&(aQ 0 0 ([x.Value])))] (cs hs1))
 refine qK 5 [0] U (aA (aV (cells:=[I x.No]) dy ty3 zc3 U U kr (λb8=>aO 0 U hM (λh7 hle7 hb7=>?_))))
 have sl7:SlC kB h7 (some ⟨b8,0,none⟩) 1 ([x.No]):=aY.slB0 (T:=3) (fz:=(0,0)) ((show aY kB h [I x.No] ([x.No])from⟨[I x.No],[],rfl,rfl,rfl,rfl⟩).mono xH hle7) hb7
 refine ai wP (dN _ 0 1048576 _ _ _ sl7) U (av (aU 7 [11,12,13,14,15,16,17,18] 11 18 (aQ 0 1099511627775 ([x.At,x.Known])) U (λc7 hk6=>?_) (λe=>?_)))
 .refine qL 4 [0,0] U (aA (aV (cells:=[I x.At,I x.Known]) dy ty3 zc3 U U kr (λb9=>aO 0 U hM (λh8 hle8 hb8=>?_))))
  have sl8:SlC kB h8 (some ⟨b9,0,none⟩) 2 ([x.At,x.Known]):=aY.slB0 (T:=3) (fz:=(0,0)) ((show aY kB h7 [I x.At,I x.Known] ([x.At,x.Known])from⟨[I x.At],[I x.Known],rfl,rfl,rfl,⟨[I x.Known],[],rfl,rfl,rfl,rfl⟩⟩).mono xH hle8) hb8
  exact ai wP (dN _ 0 1099511627775 _ _ _ sl8) U (eE U (lg (h:=h7) hle8 hX hle7 (hk6 _ U)))
 refine av (aU 5 [19,20,21,22,23,24] 19 24 (aQ (-1) 15 ([x.Kind])) U (λc8 hk7=>?_) (λe=>?_))
 .refine qL 2 [0] U (aA (aV (cells:=[I x.Kind]) dy ty3 zc3 U U kr (λb10=>aO 0 U hM (λh9 hle9 hb9=>?_))))
  have sl9:SlC kB h9 (some ⟨b10,0,none⟩) 1 ([x.Kind]):=aY.slB0 (T:=3) (fz:=(0,0)) ((show aY kB h7 [I x.Kind] ([x.Kind])from⟨[I x.Kind],[],rfl,rfl,rfl,rfl⟩).mono xH hle9) hb9
  exact ai wP (dN _ (-1) 15 _ _ _ sl9) U (eE U (lg (h:=h7) hle9 hX hle7 (hk7 _ U)))
 refine av (aU 5 [25,26,27,28,29,30] 25 30 (aQ 1 1099511627776 ([x.Period])) U (λc9 hk8=>?_) (λe=>?_))
 .refine qL 2 [0] U (aA (aV (cells:=[I x.Period]) dy ty3 zc3 U U kr (λb11=>aO 0 U hM (λh10 hle10 hb10=>?_))))
  have sl10:SlC kB h10 (some ⟨b11,0,none⟩) 1 ([x.Period]):=aY.slB0 (T:=3) (fz:=(0,0)) ((show aY kB h7 [I x.Period] ([x.Period])from⟨[I x.Period],[],rfl,rfl,rfl,rfl⟩).mono xH hle10) hb10
  exact ai wP (dN _ 1 1099511627776 _ _ _ sl10) U (eE U (lg (h:=h7) hle10 hX hle7 (hk8 _ U)))
 refine av (aU 6 [31,32,33,34,35,36,37] 31 37 (aQ 0 1048576 ([x.Count])) U (λc10 hk9=>?_) (λe=>?_))
 .refine qL 3 [0] U (aA (aV (cells:=[I x.Count]) dy ty3 zc3 U U kr (λb12=>aO 0 U hM (λh11 hle11 hb11=>?_))))
  have sl11:SlC kB h11 (some ⟨b12,0,none⟩) 1 ([x.Count]):=aY.slB0 (T:=3) (fz:=(0,0)) ((show aY kB h7 [I x.Count] ([x.Count])from⟨[I x.Count],[],rfl,rfl,rfl,rfl⟩).mono xH hle11) hb11
  exact ai wP (dN _ 0 1048576 _ _ _ sl11) U (eE U (lg (h:=h7) hle11 hX hle7 (hk9 _ U)))
 refine av (aU 6 [38,39,40,41,42,43,44] 38 44 (aQ 0 1099511627776 ([x.Value])) U (λc11 hk10=>?_) (λe=>?_))
 .refine qL 3 [0] U (aA (aV (cells:=[I x.Value]) dy ty3 zc3 U U kr (λb13=>aO 0 U hM (λh12 hle12 hb12=>?_))))
  have sl12:SlC kB h12 (some ⟨b13,0,none⟩) 1 ([x.Value]):=aY.slB0 (T:=3) (fz:=(0,0)) ((show aY kB h7 [I x.Value] ([x.Value])from⟨[I x.Value],[],rfl,rfl,rfl,rfl⟩).mono xH hle12) hb12
  exact ai wP (dN _ 0 1099511627776 _ _ _ sl12) U (eE U (lg (h:=h7) hle12 hX hle7 (hk10 _ U)))
 exact an (nretP [.bool ((((((aQ 0 1048576 ([x.No]))&&(aQ 0 1099511627775 ([x.At,x.Known])))&&(aQ (-1) 15 ([x.Kind])))&&(aQ 1 1099511627776 ([x.Period])))&&(aQ 0 1048576 ([x.Count])))&&(aQ 0 1099511627776 ([x.Value])))] (cs hs2))
theorem vi(h:HF)(l:List Budget)(dU:Option Addr)(dT:Nat)(hl:SlC Budget.rp h dU dT l):Ret prog 68 [.slice dU l.length dT] h (I (cG l)):=by
 refine sT func68 U ntmps68 U λX hM hX hF=>?_
 have hs0:=@rfl _ (cG l)
 refine qK 11 [] U (ae hs0 U (λc1 hs1=>?_) (λc1 hs2=>?_))
 .have c1p:=of_decide_eq_true c1
  exact sr (an (nretP [I 2] (ci hs1)))
 have c1p:=of_decide_eq_false c1
 refine qK 12 [] U ?_
 refine lp1 l (λi w=>[(3,I w),(9,.slice dU l.length dT),(10,I (l.length:Int)),(11,I (i:Int))]) ([]) (λs1 i w=>(cG.L1 (cG.K1)) s1 w) (-1) hl.1.1 hs2 ?_ ?_
 .rintro i1 iC ft hs4 e
  exact sr (an (nretP [I 0] (ci hs4)))
 rintro i1 iC y1 rz1 hd1 cY aJ dY gy hs6 hx1 ag1 e
 refine sr (tO cY U (qO 8 U (aA (iF zS zI ty101 hl.1 aJ U U U (λq2 A2=>dv ty101 A2 U U (aS zc101 (λb2=>aR 0 ty101 U U U U U U (qO 4 U (cN 0 ty101 U U U (ai call148 (CT h y1) U (qO 2 U (bL 5 [18,19,20,21,22,23] 18 23 (decide (y1.No<=iC)) U (λc2 hk1=>?_) (λe=>?_)))))))))))))
 .exact qL 5 [0] U (hk1 _ U)
 refine aI (ae hs6 U (λc3 hs7=>?_) (λc3 hs8=>?_))
 .exact sr (an (nretP [I 180] (ci hs7)))
 exact qK 8 [0] U (oi i1 U (qO 2 U (ba (L':=[]) js (ag1 y1.No hs8))))
theorem xU(rec:Expr->Int->List gH)(h:HF)(x:Expr)(fY:cR)(x_q:Addr)(depth:Int)(depth_q:Addr)(hrec:∀(h:HF)(qx:Expr)(lE:cR)(qdepth:Int)(_:kG h qx lE)(_:0<=qdepth/\qdepth+qx.dep<=2000000)(_:qx.dep<x.dep),i9 prog 282 [.agg (vC qx lE).toArray,I qdepth] h (λv h'=>∃rv0:Value,v=rv0/\Itr prog rv0 uX (rec qx qdepth) h'))(hx:kG h x fY)(ax:At h x_q (vC x fY))(adepth:At h depth_q [I depth])(hb:0<=depth/\depth+x.dep<=2000000):Itr prog (.func (.func 329) #[] (vB [.pointer (some x_q),.pointer (some depth_q)])) uX (aK.F rec x depth) h:=by
 refine tq call329 ?_
 intro yf ya yb C Sp Pn h1 A hle m1 m2 m3 hC hy
 refine jz Hf U ntmps329 U λX hXM hX=>?_
 have hs0:aK.F rec x depth=[]++aK.F rec x depth:=rfl
 refine sr (bS (λb1=>qL 5 [0] U (dv ty62 (ax.mono hle) U U (dD ty3 (adepth.mono hle) U (aA (e9 (cells:=[I x.Kind,I x.N,I x.No,.string x.Name,.slice fY.mL x.L.length fY.m4,I depth]) (places:=[(0,5),(5,1)]) underlying327 zc327 kr kr ?_))))))
 have hx1:aK.F rec x depth=[]++((gH.mk (qH x.Kind x.N x.No x.Name x.L) depth)::((aK.L1 rec depth (aK.K1)) x.L)):=hs0
 let z1:Nat×Obj:=(b1,O [.func yf ya yb] 366)
 refine aA (lv ([z1]) A ap (hy [] (gH.mk (qH x.Kind x.N x.No x.Name x.L) depth) _ _ _ _ hx1 lf hC ⟨(CV.mk (cR.mk fY.mL fY.m4)),U,(show gH.ok h1 (gH.mk (qH x.Kind x.N x.No x.Name x.L) depth) (CV.mk (cR.mk fY.mL fY.m4))from⟨(show kG h1 (qH x.Kind x.N x.No x.Name x.L) (cR.mk fY.mL fY.m4)from SH (hx.list.mono SC hle))⟩)⟩) U U (λh2 A1 hle1 hC1=>?_) (λh3 A2 hle2 hS1=>?_) (λch1 h4 A3 hle3 hP1 e=>gK (nC [] (A:=A3) Hf (List.sublist_append_right _ _) hP1)))
 .have hs1:aK.F rec x depth=[(gH.mk (qH x.Kind x.N x.No x.Name x.L) depth)]++(((aK.L1 rec depth (aK.K1)) x.L)):=hx1.trans ap
  refine qL 7 [] U (jk (j:=4) ty60 (ax.mono (hle.t hle1)) U U (qL 3 [] U (ej (bW (L':=[z1]++(A1++(markB []))) ap ?_))))
  refine sQ (ι:=Nat×List gH×LH×List Nat×HF) (λi=>[]) (λi=>marks i.2.2.2.1) (λi=>i.2.2.2.2) (λi=>[z1]++(i.2.2.1++(markB i.2.2.2.1))) (λi=>i.1<=x.L.length/\aK.F rec x depth=i.2.1++((aK.K1))/\C i.2.1 i.2.2.2.2 i.2.2.1/\xM h2 i.2.2.2.2) ?_ (λhx1=>?_)
  .rintro⟨i1,dn1,A1_,rs1,hh1⟩ ⟨ft,hs2,hC1_,hl1⟩ e
   refine bW (L':=([z1]++(A1_))++markB rs1) ap ?_
   have hs3:aK.F rec x depth=dn1:=hs2.trans (List.append_nil _)
   exact tr rs1 (A:=A1_) Hf U js (.inl (hs3▸hC1_))
  refine xh (ι:=Nat×List gH×LH×List Nat×HF×List Expr) (λi=>[(2,.pointer (some depth_q)),(3,Q b1),(14,.slice fY.mL x.L.length fY.m4),(15,I (x.L.length:Int)),(16,I (i.1:Int))]) (λi=>marks i.2.2.2.1) (λi=>i.2.2.2.2.1) (λi=>[z1]++(i.2.2.1++(markB i.2.2.2.1))) (λi=>x.L.drop i.1=i.2.2.2.2.2/\i.1<=x.L.length/\aK.F rec x depth=i.2.1++((aK.L1 rec depth (aK.K1)) i.2.2.2.2.2)/\C i.2.1 i.2.2.2.2.1 i.2.2.1/\xM h2 i.2.2.2.2.1) (λi=>i.2.2.2.2.2.length) (0,[(gH.mk (qH x.Kind x.N x.No x.Name x.L) depth)],A1,[],h2,x.L) U rd sw ⟨U,qM _,hs1,hC1,lf⟩ ?_
  rintro⟨i1,dn1,A1_,rs1,hh1,s1⟩ ⟨hd1,ft,hs4,hC1_,hl1⟩ ag1 e
  rcases s1 with _|⟨y1,rz1⟩
  .have fL:=oC hd1
   exact sr (fO fL U (qO 4 U (hx1 (i1,dn1,A1_,rs1,hh1) _ ⟨ft,hs4,hC1_,hl1⟩ trivial)))
  have cY:=ul hd1
  have aJ:=tG hd1
  have dY:=iX hd1
  have gy:=(hx.list.mono SC (hle.t hle1)).1.1
  have hdy:=Sz (gj hd1)
  refine sr (tO cY U (qO 8 U (aA (iR mi ty62 (hx.list.mono SC ((hle.t hle1).t hl1)).1 aJ U U U (λ_ _ _ e=>e) (λq2 r2 A8 ok2=>dv ty62 A8 U U (aS zc62 (λb4=>aR 0 ty62 U U U U U U (iO (L':=[(b4,O (vC y1 r2) 62),z1]++(A1_++(markB rs1))) U (qO 3 U (cN 0 ty62 U U U (dD ty3 (adepth.mono ((hle.t hle1).t hl1)) U (j9 (v':=I (depth+1)) U (j0 ob) (aA (cC Mi (hrec _ _ _ (depth+1) ok2 ob (Sz (gj hd1))) U (λv2 h9 hle8 hp2=>?_)))))))))))))))
  obtain⟨_,rfl,mo2⟩:=hp2
  refine qO 2 U ?_
  let z2:Nat×Obj:=(b4,O (vC y1 r2) 62)
  refine bW (L':=([z2,z1]++(A1_))++markB rs1) ap ?_
  refine ke (it:=v2) (xs:=(rec y1 (depth+1))) (ι:=List gH×LH×HF) rs1 (λi=>i.2.2) (λi=>[z2,z1]++(i.2.1)) (λs i=>aK.F rec x depth=i.1++((aK.L3 ((aK.L1 rec depth (aK.K1) rz1))) s)/\C i.1 i.2.2 i.2.1/\xM h9 i.2.2) (λi=>Sp i.2.2 i.2.1/\xM h9 i.2.2) (λ_=>False) 0 (λch h L=>∃B,B.Sublist L/\Pn ch h B) (dn1,A1_,h9) Hf U mo2 U oH (λ_ _ _ _ hl⟨B,hs,hp⟩=>⟨B,hs,m3 _ _ _ _ hl hp⟩) U (show[z2,z1]++(A1_)=_ from U) ⟨hs4,(m1 _ _ _ _ hle8 hC1_),lf⟩ ?_ ?_ ?_ ?_ ?_
  .rintro l3 dm3 lp3 y3 rz3 vs3 ⟨dn3,A3_,hh3⟩ hr3 X hFR3 ⟨hs6,hC3_,hl3⟩ hl03 hlr3 hv3 hX hXM hlp3 nx3 rt3 ex3 pn3
   obtain⟨rr3_0,rfl,ok3_0⟩:=hv3
   let z3:Nat×Obj:=(dm3,.deferred (some []))
   refine bW (L':=[(l3,.loop lp3),z3,z2,z1]++(A3_++(markB rs1))) ap (bC (aS zc327 (λb6=>aR 0 ty327 U U U U U U (iO (L':=[(b6,O (gH.cells y3 rr3_0) 327),(l3,.loop lp3),z3,z2,z1]++(A3_++(markB rs1))) U (aI (j2 1 U hlp3 (qK 4 [4] U (cN 0 ty327 U U U ?_))))))))
   have hx4:aK.F rec x depth=dn3++(y3::((aK.L3 ((aK.L1 rec depth (aK.K1) rz1))) rz3)):=hs6
   let z4:Nat×Obj:=(l3,.loop { lp3 with state:=.busy })
   refine aA (OP ([(b6,O (gH.cells y3 rr3_0) 327),z4,z3,z2,z1]) A3_ (markB rs1) ap (hy dn3 y3 _ _ _ _ hx4 ((((hle1.t hl1).t hle8).t hl3).t hlr3) (m1 _ _ _ _ hlr3 hC3_) ⟨rr3_0,U,ok3_0⟩) U U (λh13 A12 hle12 hC4=>?_) (λh14 A13 hle13 hS4=>?_) (λch4 h15 A14 hle14 hP4 e=>Aj (L':=[z4,z3]++(A14++(markB rs1))) js (pn3 _ _ _ A14 ⟨A14,List.Sublist.refl _,hP4⟩)))
   .have hs7:aK.F rec x depth=(dn3++[y3])++(((aK.L3 ((aK.L1 rec depth (aK.K1) rz1))) rz3)):=hx4.trans ap
    exact nF U (qO 4 U (ba (L':=[z4,z3,z2,z1]++(A12++(markB rs1))) js (bW (L':=rdH l3 dm3 lp3 (([z2,z1]++(A12))++markB rs1)) ap (nx3 ((dn3++[y3]),A12,h13) _ _ ⟨hs7,hC4,((hl3.t hlr3).t hle12)⟩ lf))))
   exact nF U (qO 2 U (ba (L':=[z4,z3,z2,z1]++(A13++(markB rs1))) js (bW (L':=rdH l3 dm3 lp3 (([z2,z1]++(A13))++markB rs1)) ap (rt3 (dn3,A13,h14) _ _ _ ⟨hS4,((hl3.t hlr3).t hle13)⟩ lf))))
  .rintro dm3 ⟨dn3,A3_,hh3⟩ hn3 ⟨hs8,hC3_,hl3⟩ hln3 hl03
   exact bW (L':=[z2,z1]++(A3_++(markB (dm3::rs1)))) ap (qT 3 U (oi i1 U (qO 2 U (ba (L':=[z1]++(A3_++(markB (dm3::rs1)))) js (ag1 ((i1+1),dn3,A3_,(dm3::rs1),hn3,rz1) _ (Nat.lt_succ_self _) ⟨mK hd1,iX hd1,hs8,(m1 _ _ _ _ hln3 hC3_),(((hl1.t hle8).t hl3).t hln3)⟩ rd)))))
  .rintro dm3 ⟨dn3,A3_,hh3⟩ hn3 ⟨hS5,hl3⟩ hln3 hl03
   exact bW (L':=[z2,z1]++(A3_++(markB (dm3::rs1)))) ap (bW (L':=([z2,z1]++(A3_))++markB (dm3::rs1)) ap (nn (dm3::rs1) (A:=A3_) Hf U js (.inr (m2 _ _ _ hln3 hS5))))
  .exact xf
  rintro dm3 ch hn3 L0 ⟨B,hB,hp⟩ hl03
  exact nC (dm3::rs1) Hf hB hp
 exact nF U (qO 2 U (ej (nn [] (A:=A2) Hf U js (.inr hS1))))
theorem rq:∀(m:Nat)(h:HF)(x:Expr)(fY:cR)(depth:Int)(_:kG h x fY)(_:0<=depth/\depth+x.dep<=2000000)(_:x.dep<=m),i9 prog 282 [.agg (vC x fY).toArray,I depth] h (λv h'=>∃rv0:Value,v=rv0/\Itr prog rv0 uX (aK.go m x depth) h')
 |0,h,x,fY,depth,hx,hb,hd=>absurd hd (Nat.not_le.2 (Expr.mw _))
 |m+1,h,x,fY,depth,hx,hb,hd=>by
  exact cH func282 U ntmps282 U λX hM hX=>sr (bS (λb1=>bS (λb2=>qO 4 U (aO 1 U hM (λh2 hle2 hb2=>aO 0 U hM (λh3 hle3 hb3=>aA (eI U U (an (ld [.func (.func 329) #[] #[Q b1,Q b2]] func282 U rd ⟨_,U,xU (aK.go m) h3 x fY ⟨b1,0,none⟩ depth ⟨b2,0,none⟩ (λh' y Sl d' hy hb' hl=>rq m h' y Sl d' hy hb' ob) (hx.mono (hle2.t hle3)) ((cz hb2).mono hle3) (cz hb3) hb⟩)))))))))
theorem nD(h:HF)(x:Expr)(fY:cR)(depth:Int)(hx:kG h x fY)(hb:0<=depth/\depth+x.dep<=2000000):i9 prog 282 [.agg (vC x fY).toArray,I depth] h (λv h'=>∃rv0:Value,v=rv0/\Itr prog rv0 uX (bp x depth) h'):=rq _ h x fY depth hx hb (vG _)
theorem ig(h:HF)(ok:Bool)(Rw:Int)  : GZ prog 324 [.bool ok,I Rw] h (exW stopV (λr:Unit=>(.tuple #[]:Value)) (fe ok Rw)):=by
 refine cH func324 U ntmps324 U λX hM hX=>?_
 have hs0:=@rfl _ (fe ok Rw)
 refine qT 5 U (ae hs0 U (λc1 hs1=>?_) (λc1 hs2=>?_))
 .exact bC (av (aA (e9 (cells:=[I Rw]) (places:=[(0,1)]) underlying358 zc358 kr kr (aA (fj (D9 underlying358 U U) (aA (D5 U yK (λe=>gK (oa [] func324 hX (congrArg (exW stopV (λr:Unit=>(.tuple #[]:Value))) hs1))))))))))
 refine aH ?_
 have hs3:fe ok Rw=(Except.ok ()):=hs2
 exact ej (yG [] [] func324 U hX trivial (congrArg (exW stopV (λr:Unit=>(.tuple #[]:Value))) hs3))
theorem NC{c:Bool}{e:Int}{u:Unit}(h:fe c e=.ok u):c=true:=by
 cases c with
 |true=>rfl
 |false=>simp[fe]at h
theorem mS(h:HF)(p:Policy)(gQ:eQ)(hp:kN h p gQ)(hsz0:p.Rules.length<=2000000):i9 prog 325 [.agg (xE p gQ).toArray] h (λv h'=>∃(rb0:Option Addr)(rc0:Nat),v=.slice rb0 (aw p).length rc0/\SlC S2 h' rb0 rc0 (aw p)):=by
 refine sT func325 U ntmps325 U λX hM hX hF=>?_
 have hs0:=@rfl _ (aw p)
 refine sr (bS (λb1=>qL 10 [0] U ?_))
 let z2:Nat×Obj:=(b1,O (xE p gQ) 64)
 refine lp2 p.Rules (λi w=>[(1,Q b1),(2,.slice w.2.1 w.1.length w.2.2.1),(6,.slice gQ.ot p.Rules.length gQ.oq),(7,I (p.Rules.length:Int)),(8,I (i:Int))]) (λ_=>h) (λw=>[z2]++(w.2.2.2)) (λi w=>cZ S2 62 h w.1 w.2.1 w.2.2.1 w.2.2.2/\w.1.length<=0+i) (λs1 i w=>(aw.L1 (aw.K1 p)) s1 w.1) ([],none,0,[]) hp.Rules.1.1 hs0 ⟨cZ.nil,lo⟩ ?_ ?_
 .rintro i1 ⟨GP,RQ,RP,Q4⟩ ft hs1 ⟨Kz,PE⟩ e
  try dsimp only at Kz PE
  refine qK 4 [] U (cN 0 ty62 U U U (aA (aV (cells:=[I p.Change.Kind,I p.Change.N,I p.Change.No,.string p.Change.Name,.slice gQ.Change.mL p.Change.L.length gQ.Change.m4]) mi ty62 zc62 U U kr (λb5=>?_))))
  let z1:Nat×Obj:=(b5,O [I p.Change.Kind,I p.Change.N,I p.Change.No,.string p.Change.Name,.slice gQ.Change.mL p.Change.L.length gQ.Change.m4] 62)
  refine aA (cd Ua ([z1,z2]) ([]) (λG=>[z1,z2]++G) ap (λ_=>ap) mi ty62 zc62 U bytes62 Kz U U (dX 0 U (cE (R:=S2) (p.Change) U ⟨gQ.Change,U,hp.Change⟩)) lo lo (λob3 oc3 G3 gr3=>an (eY SC ([z1,z2]) G3 ([]) ap hM gr3 (λh2 hle2 sl2=>?_))))
  have hs2:aw p=(GP++[p.Change]):=hs1
  exact nretH [.slice ob3 ((GP++[p.Change]).length) oc3] ⟨ob3,oc3,congrArg (λr:List Expr=>(.slice ob3 r.length oc3:Value)) hs2.symm,(by rw[hs2];exact sl2)⟩
 rintro i1 ⟨GP,RQ,RP,Q4⟩ y1 rz1 hd1 cY aJ dY gy hs3 ⟨Kz,PE⟩ hx1 ag1 e
 try dsimp only at Kz PE
 exact sr (tO cY U (qO 8 U (aA (iR vq ty79 hp.Rules.1 aJ U U U (λ_ _ _ e=>e) (λq2 r2 A2 ok2=>dv ty79 A2 U U (aS zc79 (λb6=>aR 0 ty79 U U U U U U (iO (L':=[(b6,O (Ue y1 r2) 79),z2]++(Q4)) U (qL 4 [] U (cN 0 ty62 U U U (aA (aV (cells:=[I y1.Expr.Kind,I y1.Expr.N,I y1.Expr.No,.string y1.Expr.Name,.slice r2.Expr.mL y1.Expr.L.length r2.Expr.m4]) mi ty62 zc62 U U kr (λb7=>aA (cd Ua ([(b7,O [I y1.Expr.Kind,I y1.Expr.N,I y1.Expr.No,.string y1.Expr.Name,.slice r2.Expr.mL y1.Expr.L.length r2.Expr.m4] 62),(b6,O (Ue y1 r2) 79),z2]) ([]) (λG=>[(b7,O [I y1.Expr.Kind,I y1.Expr.N,I y1.Expr.No,.string y1.Expr.Name,.slice r2.Expr.mL y1.Expr.L.length r2.Expr.m4] 62),(b6,O (Ue y1 r2) 79),z2]++G) ap (λ_=>ap) mi ty62 zc62 U bytes62 Kz U U (dX 0 U (cE (R:=S2) (y1.Expr) U ⟨r2.Expr,U,ok2.Expr⟩)) lo lo (λob4 oc4 G4 gr4=>qO 4 U (oi i1 U (qO 2 U (ba (L':=[z2]++G4) js (ag1 ((GP++[y1.Expr]),ob4,oc4,G4) hs3 ⟨gr4,lo⟩)))))))))))))))))))
theorem MX(p:Policy):∀(l:List Rule)(g:List Expr),aw.L1 (aw.K1 p) l g=g++(l.map (·.Expr)++[p.Change])
 |[],g=>by simp[aw.L1,aw.K1]
 |y::l,g=>by simp[aw.L1,MX p l]
theorem PN(p:Policy):aw p=p.Rules.map (·.Expr)++[p.Change]:=by
 unfold aw;rw[MX];simp
theorem BQ{p:Policy}(h:smP p){y:Expr}(hy:y∈aw p):y.dep<=1500000:=by
 rw[PN]at hy
 rcases List.mem_append.1 hy with hy|hy
 .obtain⟨r,hr,rfl⟩:=List.mem_map.1 hy;exact h.2.1 r hr
 rw[qC.1 hy];exact h.2.2.1
theorem Bv(h:HF)(p:Policy)(gQ:eQ)(hp:kN h p gQ)(hsm:smP p):GZ prog 278 [.agg (xE p gQ).toArray] h (exW stopV (λr:Unit=>(.tuple #[]:Value)) (cw p)):=by
 refine cH Mh U ntmps278 U λX hM hX=>?_
 have hs0:=@rfl _ (cw p)
 have hsr:=hsm.rules
 have hsc:=hsm.change
 refine sr (bS (λb1=>qL 8 [0] U (aU 5 [10,11,12,13,14,15] 10 15 (decide ((p.Kinds.length:Int)<=16)) U (λc1 hk1=>?_) (λe=>?_))))
 .exact qL 5 [0] U (hk1 _ U)
 refine av (aU 5 [16,17,18,19,20,21] 16 21 (decide ((p.Rules.length:Int)<=16)) U (λc2 hk2=>?_) (λe=>?_))
 .exact qL 5 [0] U (hk2 _ U)
 refine aA (ng zz (ig h ((decide ((p.Offices.length:Int)<=32)&&decide ((p.Kinds.length:Int)<=16))&&decide ((p.Rules.length:Int)<=16)) 2) U (λu1 hu1=>?_) (λpv1 hpv1 e=>?_))
 .obtain⟨rx1,hrx1,rfl⟩:=oV hu1
  have hs1:=hs0.trans (pH hrx1)
  cases rx1
  refine qO 3 U (cN 0 ty64 U U U (aA (cC call325 (mS _ _ _ hp ob) U (λv1 h1 hle1 hp1=>?_))))
  obtain⟨rb1,rc1,rfl,sl1⟩:=hp1
  refine qL 3 [] U (ej ?_)
  let z1:Nat×Obj:=(b1,O (xE p gQ) 64)
  refine bW (L':=[z1]++(markB [])) ap ?_
  refine sQ (ι:=Nat×List Nat×HF) (λi=>[]) (λi=>marks i.2.1) (λi=>i.2.2) (λi=>[z1]++(markB i.2.1)) (λi=>i.1<=(aw p).length/\cw p=((cw.K1))/\xM h1 i.2.2) ?_ (λhx1=>?_)
  .rintro⟨i1,rs1,hh1⟩ ⟨ft,hs2,hl1⟩ e
   have hs3:cw p=(Except.ok ()):=hs2
   exact bW (L':=([z1])++markB rs1) ap (yG rs1 [] Mh U hX trivial (congrArg (exW stopV (λr:Unit=>(.tuple #[]:Value))) hs3))
  refine xh (ι:=Nat×List Nat×HF×List Expr) (λi=>[(24,.slice rb1 ((aw p).length) rc1),(25,I ((aw p).length:Int)),(26,I (i.1:Int))]) (λi=>marks i.2.1) (λi=>i.2.2.1) (λi=>[z1]++(markB i.2.1)) (λi=>(aw p).drop i.1=i.2.2.2/\i.1<=(aw p).length/\cw p=((cw.L1 (cw.K1)) i.2.2.2)/\xM h1 i.2.2.1) (λi=>i.2.2.2.length) (0,[],h1,(aw p)) U rd sw ⟨U,qM _,hs1,lf⟩ ?_
  rintro⟨i1,rs1,hh1,s1⟩ ⟨hd1,ft,hs4,hl1⟩ ag1 e
  rcases s1 with _|⟨y1,rz1⟩
  .have fL:=oC hd1
   exact sr (fO fL U (qO 4 U (hx1 (i1,rs1,hh1) _ ⟨ft,hs4,hl1⟩ trivial)))
  have cY:=ul hd1
  have aJ:=tG hd1
  have dY:=iX hd1
  have gy:=sl1.1.1
  try have hsy:=BQ hsm (gj hd1)
  refine sr (tO cY U (qO 8 U (aA (iR mi ty62 (sl1.mono SC hl1).1 aJ U U U (λ_ _ _ e=>e) (λq2 r2 A2 ok2=>dv ty62 A2 U U (aS zc62 (λb5=>aR 0 ty62 U U U U U U (qO 3 U (aS zc3 (λb6=>cK 0 ty3 U U U U U U (qO 3 U (cN 1 ty62 U U U (aA (cC Mi (nD _ _ _ 1 ok2 ob) U (λv3 h3 hle3 hp3=>?_)))))))))))))))
  obtain⟨_,rfl,mo2⟩:=hp3
  refine qO 2 U ?_
  let z2:Nat×Obj:=(b5,O (vC y1 r2) 62)
  refine bW (L':=([(b6,O [I 0] 3),z2,z1])++markB rs1) ap ?_
  refine ke (it:=v3) (xs:=(bp y1 1)) (ι:=Int×HF) rs1 (λi=>i.2) (λi=>[(b6,O [I i.1] 3),z2,z1]) (λs i=>cw p=((cw.L3 (λzg3_b6_0=>(cw.L1 (cw.K1) rz1))) s i.1)/\xM h3 i.2) (λ_=>False) (λ_=>False) 0 (λch _ _=>∃pv_,ch=[{ v:=stopV pv_,recovered:=false }]/\cw p=.error pv_) (0,h3) Mh U mo2 U oH (λ_ _ _ _ _ hq=>hq) U (show[(b6,O [I 0] 3),z2,z1]=_ from U) ⟨hs4,lf⟩ ?_ ?_ ?_ ?_ ?_
  .rintro l3 dm3 lp3 y3 rz3 vs3 ⟨qX,hh3⟩ hr3 X hFR3 ⟨hs6,hl3⟩ hl03 hlr3 hv3 hX hXM hlp3 nx3 rt3 ex3 pn3
   obtain⟨rr3_0,rfl,ok3_0⟩:=hv3
   let z4:Nat×Obj:=(dm3,.deferred (some []))
   refine bW (L':=[(l3,.loop lp3),z4,(b6,O [I qX] 3),z2,z1]++(markB rs1)) ap (bC (aS zc327 (λb8=>aR 0 ty327 U U U U U U (aI (j2 1 U hlp3 (qK 5 [3] U (cK 3 ty3 U U U U U U (qL 5 [3] U (aU 4 [37,38,39,40,41] 37 41 (decide (y3.depth<=16)) U (λc3 hk3=>?_) (λe=>?_))))))))))
   .exact qL 4 [0] U (hk3 _ U)
   refine aA (ng zz (ig hr3 (decide ((qE .i64 (qX+1))<=256)&&decide (y3.depth<=16)) 2) U (λu2 hu2=>?_) (λpv2 hpv2 e=>?_))
   .obtain⟨rx2,hrx2,rfl⟩:=oV hu2
    have hs7:=hs6.trans (pH hrx2)
    cases rx2
    refine qO 2 U ?_
    let z3:Nat×Obj:=(b6,O [I (qE .i64 (qX+1))] 3)
    exact ba (L':=[(l3,.loop { lp3 with state:=.busy }),z4,z3,z2,z1]++(markB rs1)) js (bW (L':=rdH l3 dm3 lp3 (([z3,z2,z1])++markB rs1)) ap (nx3 ((qE .i64 (qX+1)),hr3) _ _ ⟨hs7,(hl3.t hlr3)⟩ lf))
   obtain⟨pv2e,hpv2e,rfl⟩:=np hpv2
   have hs8:=hs6.trans (nL hpv2e)
   exact Aj (L':=[(l3,.loop { lp3 with state:=.busy }),z4]++(markB rs1)) js (pn3 _ _ _ [] ⟨_,U,hs8⟩)
  .rintro dm3 ⟨qX,hh3⟩ hn3 ⟨hs9,hl3⟩ hln3 hl03
   exact bW (L':=[(b6,O [I qX] 3),z2,z1]++(markB (dm3::rs1))) ap (qT 3 U (oi i1 U (qO 2 U (ba (L':=[z1]++(markB (dm3::rs1))) js (ag1 ((i1+1),(dm3::rs1),hn3,rz1) _ (Nat.lt_succ_self _) ⟨mK hd1,iX hd1,hs9,(((hl1.t hle3).t hl3).t hln3)⟩ rd)))))
  .exact xf
  .exact xf
  rintro dm3 ch hn3 L0 ⟨pv_,rfl,hpv_⟩ hl03
  exact oa (dm3::rs1) Mh hX (congrArg (exW stopV (λr:Unit=>(.tuple #[]:Value))) hpv_)
 obtain⟨pv1e,hpv1e,rfl⟩:=np hpv1
 have hs10:=hs0.trans (nL hpv1e)
 exact gK (oa [] Mh hX (congrArg (exW stopV (λr:Unit=>(.tuple #[]:Value))) hs10))
end
variable {af:Array Edge}{ats:Array TypeId}{d:Option Nat}{g:Option (Nat×Bool)}{pos:String}{ty:TypeId}{x:Operand}
section
open Go.Proofs Go.Proofs.Tryz
theorem ext282:Extern.find Tryz.f388=some Extern.BytealgIndexByte.indexByte:=by kernel_rfl
theorem ext282n:Extern.findNext Tryz.f388=none:=by kernel_rfl
theorem run282(s:ByteArray)(c:Int)(w:World):(Extern.BytealgIndexByte.indexByte #[.string s,.int .u8 c]).run prog w=.ok (.int .i64 (idxByte s c)) w:=by
 show(do
  let b ←Extern.Bytes.bytesOf (.string s)
  let c ←Extern.Bytes.asByte (.int .u8 c)
  match(zK b.size).find? λi=>b[i]! == c with
  |some i=>pure (goInt i)
  |none=>pure (goInt (-1)):Sem Value).run prog w=_
 simp only[Extern.Bytes.bytesOf,Extern.Bytes.asByte,jP,Sem.run_pure,vM,idxByte,goInt]
 cases hf:(zK s.size).find? (λi=>s[i]! == UInt8.ofNat c.toNat)with
 |none=>simp only[show c.toNat.toUInt8=UInt8.ofNat c.toNat from rfl,hf];simp
 |some i=>simp only[show c.toNat.toUInt8=UInt8.ofNat c.toNat from rfl,hf];simp
theorem call282(s:ByteArray)(c:Int)(w:World):(callFunc 388 #[.string s,.int .u8 c]).run prog w=.ok (.value (.int .i64 (idxByte s c))) w:=by
 have hb:Tryz.f388.body.isNone=true:=by kernel_rfl
 have hn : (Tryz.f388.name == "runtime.NumGoroutine") = false := by kernel_rfl
 simp only[callFunc,jP,run_program,vM,func388,hn,hb,ext282,ext282n]
 simp[run282]
theorem O2{L:LH}{y:Operand}{s:ByteArray}{c:Int}(hx:e.ev x=.string s)(hy:e.ev y=.int .u8 c):
  ∀w,St X h L w->(execOp e.ev ⟨d,.call ⟨.value (.func 388),#[x,y],ats⟩,ty,pos,af,g⟩).run prog w=.ok (.value (.int .i64 (idxByte s c))) w:=
 λw _=>by
  have hf:e.ev (.func 388)=.func (.func 388) #[] #[]:=rfl
  simp[execOp,resolve,hf,xJ,invoke,hx,hy,call282]
end
section
open Go.Proofs Go.Proofs.Tryz
set_option maxHeartbeats 2000000
theorem oz(h:HF)(x:Expr)(fY:cR)(hx:kG h x fY):Ret prog 283 [.agg (vC x fY).toArray] h (.bool (dw x)):=by
 refine sT func283 U ntmps283 U λX hM hX hF=>?_
 have hs0:=@rfl _ (dw x)
 refine sr (bS (λb1=>qL 8 [0] U (bL 4 [6,7,8,9,10] 6 10 (x.Kind==2) U (λc1 hk1=>?_) (λe=>?_))))
 .exact qL 4 [0] U (hk1 _ U)
 exact an (nretP [.bool ((x.Kind==1)||(x.Kind==2))] (cs hs0))
theorem ph(h:HF)(s:ByteArray)(c:Int)  : Ret prog 387 [.string s,Y c] h (I (iW s c)):=by
 refine sT func387 U ntmps387 U λX hM hX hF=>?_
 have hs0:=@rfl _ (iW s c)
 exact sr (qO 6 U (aA (fj (O2 U U) (an (nretP [I (idxByte s c)] (ci hs0))))))
theorem xj(h:HF)(s:ByteArray)(c:Int)  : Ret prog 384 [.string s,Y c] h (I (strings_IndexByte s c)):=by
 refine sT func384 U ntmps384 U λX hM hX hF=>?_
 have hs0:=@rfl _ (strings_IndexByte s c)
 exact sr (qO 6 U (ai call387 (ph h s c) U (an (nretP [I (iW s c)] (ci hs0)))))
theorem Bz(h:HF)(c:Int)  : Ret prog 377 [Y c] h (I (kZ c)):=by
 refine sT func377 U ntmps377 U λX hM hX hF=>?_
 have hs0:=@rfl _ (kZ c)
 refine qT 11 U (aU 3 [6,7,8,9] 6 9 (decide (c<=122)) U (λc1 hk1=>?_) (λe=>?_))
 .exact av (qO 2 U (hk1 _ U))
 refine av (bL 7 [10,11,12,13,14,15,16,17] 10 17 (decide (65<=c)&&decide (c<=90)) U (λc2 hk2=>?_) (λe=>?_))
 .refine qO 3 U (aU 3 [13,14,15,16] 13 16 (decide (c<=90)) U (λc3 hk3=>?_) (λe=>?_))
  .exact av (qO 2 U (hk3 _ U))
  exact eE U (hk2 _ U)
 refine an (ae hs0 U (λc4 hs1=>?_) (λc4 hs2=>?_))
 .exact sr (an (nretP [I 2] (ci hs1)))
 refine qT 5 U (aU 3 [21,22,23,24] 21 24 (decide (c<=57)) U (λc5 hk4=>?_) (λe=>?_))
 .exact av (qO 2 U (hk4 _ U))
 refine an (ae hs2 U (λc6 hs4=>?_) (λc6 hs5=>?_))
 .exact sr (an (nretP [I 3] (ci hs4)))
 refine qT 6 U (ae hs5 U (λc7 hs7=>?_) (λc7 hs8=>?_))
 .exact sr (an (nretP [I 5] (ci hs7)))
 refine qT 5 U (bL 3 [31,32,33,34] 31 34 (c==9) U (λc8 hk5=>?_) (λe=>?_))
 .exact av (qO 2 U (hk5 _ U))
 refine av (bL 3 [35,36,37,38] 35 38 (c==10) U (λc9 hk6=>?_) (λe=>?_))
 .exact av (qO 2 U (hk6 _ U))
 refine av (bL 3 [39,40,41,42] 39 42 (c==13) U (λc10 hk7=>?_) (λe=>?_))
 .exact av (qO 2 U (hk7 _ U))
 refine an (ae hs8 U (λc11 hs10=>?_) (λc11 hs11=>?_))
 .exact sr (an (nretP [I 1] (ci hs10)))
 refine qT 3 U (ai call384 (xj h (⟨#[123,125,40,41,59,44,61,58,46,60,62,33,43,45,42,47]⟩:ByteArray) c) U (qO 3 U (ae hs11 U (λc12 hs13=>?_) (λc12 hs14=>?_))))
 .have c12p:=of_decide_eq_true c12
  exact sr (an (nretP [I 4] (ci hs13)))
 have c12p:=of_decide_eq_false c12
 exact aH (qT 5 U (nretP [I 0] (ci hs14)))
theorem iD(h:HF)(s:ByteArray)  : Ret prog 363 [.string s] h (.bool (dO s)):=by
 refine sT func363 U ntmps363 U λX hM hX hF=>?_
 have hs0:=@rfl _ (dO s)
 refine qT 10 U (bL 4 [7,8,9,10,11] 7 11 (decide (32<(s.size:Int))) U (λc1 hk1=>?_) (λe=>?_))
 .exact av (aA (fj (Cm AU U) (qO 2 U (hk1 _ U))))
 refine av (bL 5 [12,13,14,15,16,17] 12 17 ((kZ ((s.data.getD (0:Int).toNat 0).toNat:Int)) != 2) U (λc2 hk2=>?_) (λe=>?_))
 .refine av ?_
  have ho1:0<=(0:Int)/\(0:Int)<(s.size:Int):=(by have:=Qf (Bool.or_eq_false_iff.1 ob).1;omega)
  exact aA (fj (In AU U U ho1) (ai call377 (Bz h ((s.data.getD (0:Int).toNat 0).toNat:Int)) U (qO 2 U (hk2 _ U))))
 refine aI (ae hs0 U (λc3 hs1=>?_) (λc3 hs2=>?_))
 .exact sr (an (nretP [.bool false] (cs hs1)))
 refine qT 5 U (aA (fj (Cm AU U) (qO 2 U ?_)))
 refine iT (ι:=Nat) (λi=>[]) (λi=>h) (λi=>[]) (λi=>i<=(zK s.size).length/\dO s=((dO.K1))) ?_ (λhx1=>?_)
 .rintro i1 ⟨ft,hs4⟩ e
  exact sr (an (nretP [.bool true] (cs hs4)))
 refine ls (ι:=Nat×List Nat) (λi=>[(0,.string s),(19,I (s.size:Int)),(20,I (i.1:Int))]) (λi=>h) (λi=>[]) (λi=>(zK s.size).drop i.1=i.2/\i.1<=(zK s.size).length/\dO s=((dO.L1 s (dO.K1)) i.2 i.1)) (λi=>i.2.length) (0,(zK s.size)) rd sw ⟨U,qM _,hs2⟩ ?_
 rintro⟨i1,s1⟩ ⟨hd1,ft,hs6⟩ ag1 e
 rcases s1 with _|⟨y1,rz1⟩
 .have fL:decide ((i1:Int)<(s.size:Int))=false:=by simpa using oC hd1
  exact sr (fO fL U (qO 4 U (hx1 i1 _ ⟨ft,hs6⟩ trivial)))
 have cY:decide ((i1:Int)<(s.size:Int))=true:=by simpa using ul hd1
 have dY:i1<s.size:=by simpa using iX hd1
 refine sr (tO cY U (qO 15 U ?_))
 have ho3:0<=((i1:Int):Int)/\((i1:Int):Int)<(s.size:Int):=ob
 refine aA (fj (In AU U U ho3) (ai call377 (Bz h ((s.data.getD ((i1:Int):Int).toNat 0).toNat:Int)) U (qO 7 U (aU 3 [29,30,31,32] 29 32 ((kZ ((s.data.getD ((i1:Int):Int).toNat 0).toNat:Int)) != 3) U (λc4 hk3=>?_) (λe=>?_)))))
 .exact av (qO 2 U (hk3 _ U))
 refine av (aU 3 [33,34,35,36] 33 36 ((kZ ((s.data.getD ((i1:Int):Int).toNat 0).toNat:Int)) != 5) U (λc5 hk4=>?_) (λe=>?_))
 .exact av (qO 2 U (hk4 _ U))
 refine aI (ae hs6 U (λc6 hs8=>?_) (λc6 hs9=>?_))
 .exact sr (an (nretP [.bool false] (cs hs8)))
 exact aH (qT 2 U (oi i1 U (qO 2 U (ag1 ((i1+1),rz1) _ (Nat.lt_succ_self _) ⟨mK hd1,iX hd1,hs9⟩ rd))))
theorem oT(h:HF)(s:ByteArray)  : Ret prog 326 [.string s] h (.bool (dR s)):=by
 refine sT func326 U ntmps326 U λX hM hX hF=>?_
 have hs0:=@rfl _ (dR s)
 refine qT 16 U (ae hs0 U (λc1 hs1=>?_) (λc1 hs2=>?_))
 .refine aH (ae hs1 U (λc2 hs3=>?_) (λc2 hs4=>?_))
  .exact sr (an (nretP [.bool false] (cs hs3)))
  exact aH (qT 4 U (ai sN (iD h s) U (an (nretP [.bool (dO s)] (cs hs4)))))
 refine qT 5 U (ae hs2 U (λc3 hs7=>?_) (λc3 hs8=>?_))
 .refine aH (ae hs7 U (λc4 hs9=>?_) (λc4 hs10=>?_))
  .exact sr (an (nretP [.bool false] (cs hs9)))
  exact aH (qT 4 U (ai sN (iD h s) U (an (nretP [.bool (dO s)] (cs hs10)))))
 refine qT 5 U (ae hs8 U (λc5 hs13=>?_) (λc5 hs14=>?_))
 .refine aH (ae hs13 U (λc6 hs15=>?_) (λc6 hs16=>?_))
  .exact sr (an (nretP [.bool false] (cs hs15)))
  exact aH (qT 4 U (ai sN (iD h s) U (an (nretP [.bool (dO s)] (cs hs16)))))
 refine qT 5 U (ae hs14 U (λc7 hs19=>?_) (λc7 hs20=>?_))
 .refine aH (ae hs19 U (λc8 hs21=>?_) (λc8 hs22=>?_))
  .exact sr (an (nretP [.bool false] (cs hs21)))
  exact aH (qT 4 U (ai sN (iD h s) U (an (nretP [.bool (dO s)] (cs hs22)))))
 refine qT 5 U (ae hs20 U (λc9 hs25=>?_) (λc9 hs26=>?_))
 .refine aH (ae hs25 U (λc10 hs27=>?_) (λc10 hs28=>?_))
  .exact sr (an (nretP [.bool false] (cs hs27)))
  exact aH (qT 4 U (ai sN (iD h s) U (an (nretP [.bool (dO s)] (cs hs28)))))
 refine qT 5 U (ae hs26 U (λc11 hs31=>?_) (λc11 hs32=>?_))
 .refine aH (ae hs31 U (λc12 hs33=>?_) (λc12 hs34=>?_))
  .exact sr (an (nretP [.bool false] (cs hs33)))
  exact aH (qT 4 U (ai sN (iD h s) U (an (nretP [.bool (dO s)] (cs hs34)))))
 refine qT 5 U (ae hs32 U (λc13 hs37=>?_) (λc13 hs38=>?_))
 .refine aH (ae hs37 U (λc14 hs39=>?_) (λc14 hs40=>?_))
  .exact sr (an (nretP [.bool false] (cs hs39)))
  exact aH (qT 4 U (ai sN (iD h s) U (an (nretP [.bool (dO s)] (cs hs40)))))
 refine qT 5 U (ae hs38 U (λc15 hs43=>?_) (λc15 hs44=>?_))
 .refine aH (ae hs43 U (λc16 hs45=>?_) (λc16 hs46=>?_))
  .exact sr (an (nretP [.bool false] (cs hs45)))
  exact aH (qT 4 U (ai sN (iD h s) U (an (nretP [.bool (dO s)] (cs hs46)))))
 refine qT 5 U (ae hs44 U (λc17 hs49=>?_) (λc17 hs50=>?_))
 .refine aH (ae hs49 U (λc18 hs51=>?_) (λc18 hs52=>?_))
  .exact sr (an (nretP [.bool false] (cs hs51)))
  exact aH (qT 4 U (ai sN (iD h s) U (an (nretP [.bool (dO s)] (cs hs52)))))
 refine qT 5 U (ae hs50 U (λc19 hs55=>?_) (λc19 hs56=>?_))
 .refine aH (ae hs55 U (λc20 hs57=>?_) (λc20 hs58=>?_))
  .exact sr (an (nretP [.bool false] (cs hs57)))
  exact aH (qT 4 U (ai sN (iD h s) U (an (nretP [.bool (dO s)] (cs hs58)))))
 refine qT 5 U (ae hs56 U (λc21 hs61=>?_) (λc21 hs62=>?_))
 .refine aH (ae hs61 U (λc22 hs63=>?_) (λc22 hs64=>?_))
  .exact sr (an (nretP [.bool false] (cs hs63)))
  exact aH (qT 4 U (ai sN (iD h s) U (an (nretP [.bool (dO s)] (cs hs64)))))
 refine qT 5 U (ae hs62 U (λc23 hs67=>?_) (λc23 hs68=>?_))
 .refine aH (ae hs67 U (λc24 hs69=>?_) (λc24 hs70=>?_))
  .exact sr (an (nretP [.bool false] (cs hs69)))
  exact aH (qT 4 U (ai sN (iD h s) U (an (nretP [.bool (dO s)] (cs hs70)))))
 refine qT 5 U (ae hs68 U (λc25 hs73=>?_) (λc25 hs74=>?_))
 .refine aH (ae hs73 U (λc26 hs75=>?_) (λc26 hs76=>?_))
  .exact sr (an (nretP [.bool false] (cs hs75)))
  exact aH (qT 4 U (ai sN (iD h s) U (an (nretP [.bool (dO s)] (cs hs76)))))
 refine qT 5 U (ae hs74 U (λc27 hs79=>?_) (λc27 hs80=>?_))
 .refine aH (ae hs79 U (λc28 hs81=>?_) (λc28 hs82=>?_))
  .exact sr (an (nretP [.bool false] (cs hs81)))
  exact aH (qT 4 U (ai sN (iD h s) U (an (nretP [.bool (dO s)] (cs hs82)))))
 refine qT 5 U (ae hs80 U (λc29 hs85=>?_) (λc29 hs86=>?_))
 .refine aH (ae hs85 U (λc30 hs87=>?_) (λc30 hs88=>?_))
  .exact sr (an (nretP [.bool false] (cs hs87)))
  exact aH (qT 4 U (ai sN (iD h s) U (an (nretP [.bool (dO s)] (cs hs88)))))
 refine qT 4 U (ae hs86 U (λc31 hs91=>?_) (λc31 hs92=>?_))
 .exact sr (an (nretP [.bool false] (cs hs91)))
 exact aH (qT 4 U (ai sN (iD h s) U (an (nretP [.bool (dO s)] (cs hs92)))))
theorem lN(h:HF)(s:List ByteArray)(sY:Option Addr)(sX:Nat)(v:ByteArray)(hs:SlC Ta h sY sX s):Ret prog 284 [.slice sY s.length sX,.string v] h (I (aP s v)):=by
 refine sT func284 U ntmps284 U λX hM hX hF=>?_
 have hs0:=@rfl _ (aP s v)
 refine qK 11 [] U ?_
 refine lp0 s (λi=>[(0,.slice sY s.length sX),(1,.string v),(7,I (s.length:Int)),(8,I (i:Int))]) ([]) (λs1 i=>(aP.L1 v (aP.K1)) s1 i) hs.1.1 hs0 ?_ ?_
 .rintro i1 ft hs1 e
  exact sr (an (nretP [I (-1)] (ci hs1)))
 rintro i1 y1 rz1 hd1 cY aJ dY gy hs3 hx1 ag1 e
 refine sr (tO cY U (qO 16 U (aA (iF (λy=>[.string y]) wy ty9 hs.1 aJ U U U (λq2 A2=>dD ty9 A2 U (qO 2 U (ae hs3 U (λc2 hs4=>?_) (λc2 hs5=>?_))))))))
 .exact sr (qO 3 U (nretP [I (i1:Int)] (ci hs4)))
 exact aH (qT 2 U (oi i1 U (qO 2 U (ag1 hs5))))
theorem nE(h:HF)(l:List ByteArray)(dU:Option Addr)(dT:Nat)(ok:(ByteArray->Bool))(ok_v:Value)(hl:SlC Ta h dU dT l)(hok:∀(h':HF)(dE:ByteArray),xM h h'->uL prog ok_v [.string dE] h' [] (.bool (ok dE))):Ret prog 327 [.slice dU l.length dT,ok_v] h (.bool (bF l ok)):=by
 refine sT func327 U ntmps327 U λX hM hX hF=>?_
 have hs0:=@rfl _ (bF l ok)
 refine qK 11 [] U ?_
 refine lp0 l (λi=>[(0,.slice dU l.length dT),(1,ok_v),(7,.slice dU l.length dT),(8,I (l.length:Int)),(9,I (i:Int))]) ([]) (λs1 i=>(bF.L1 l ok (bF.K1)) s1 i) hl.1.1 hs0 ?_ ?_
 .rintro i1 ft hs1 e
  exact sr (an (nretP [.bool true] (cs hs1)))
 rintro i1 y1 rz1 hd1 cY aJ dY gy hs3 hx1 ag1 e
 refine sr (tO cY U (qO 9 U (aA (iF (λy=>[.string y]) wy ty9 hl.1 aJ U U U (λq2 A2=>dD ty9 A2 U (qO 7 U (aA (mG (v:=.bool (ok y1)) [] (List.nil_sublist _) (hok h y1 lf) U U (qO 2 U (bL 6 [18,19,20,21,22,23,24] 18 24 ((aP l y1) != (i1:Int)) U (λc1 hk1=>?_) (λe=>?_)))))))))))
 .exact av (av (ai Ov (lN _ _ _ _ y1 hl) U (qO 3 U (hk1 _ U))))
 refine aI (ae hs3 U (λc2 hs4=>?_) (λc2 hs5=>?_))
 .exact sr (an (nretP [.bool false] (cs hs4)))
 exact aH (qT 2 U (oi i1 U (qO 2 U (ag1 hs5))))
theorem tM(h:HF)(s:List ByteArray)(sY:Option Addr)(sX:Nat)(v:ByteArray)(hs:SlC Ta h sY sX s):Ret prog 328 [.slice sY s.length sX,.string v] h (.bool (dl s v)):=by
 refine sT func328 U ntmps328 U λX hM hX hF=>?_
 have hs0:=@rfl _ (dl s v)
 exact sr (qO 6 U (ai Ov (lN _ _ _ _ v hs) U (qO 3 U (nretP [.bool (decide (0<=(aP s v)))] (cs hs0)))))
theorem Bw(h:HF)(p:Policy)(gQ:eQ)(hp:kN h p gQ)(hsm:smP p):GZ prog 279 [.agg (xE p gQ).toArray] h (exW stopV (λr:Unit=>(.tuple #[]:Value)) (cx p)):=by
 refine cH Mg U ntmps279 U λX hM hX=>?_
 have hs0:=@rfl _ (cx p)
 have hsr:=hsm.rules
 refine sr (bS (λb1=>qL 5 [0] U (ai call326 (oT h p.Name) U (av (aU 4 [8,9,10,11,12] 8 12 (bF p.Offices dR) U (λc1 hk1=>?_) (λe=>?_))))))
 .exact qL 2 [0] U (ai call327 (nE _ _ _ _ dR (.func (.func 326) #[] #[]) hp.Offices (λh' dE hle=>iK call326 (oT h' dE))) U (eE U (hk1 _ U)))
 refine av (aU 4 [13,14,15,16,17] 13 17 (bF p.Kinds dR) U (λc2 hk2=>?_) (λe=>?_))
 .exact qL 2 [0] U (ai call327 (nE _ _ _ _ dR (.func (.func 326) #[] #[]) hp.Kinds (λh' dE hle=>iK call326 (oT h' dE))) U (eE U (hk2 _ U)))
 refine aA (ng zz (ig h (((dR p.Name)&&(bF p.Offices dR))&&(bF p.Kinds dR)) 201) U (λu1 hu1=>?_) (λpv1 hpv1 e=>?_))
 .obtain⟨rx1,hrx1,rfl⟩:=oV hu1
  have hs1:=hs0.trans (pH hrx1)
  cases rx1
  refine qO 3 U (cN 0 ty64 U U U (aA (cC call325 (mS _ _ _ hp ob) U (λv1 h1 hle1 hp1=>?_))))
  obtain⟨rb1,rc1,rfl,sl1⟩:=hp1
  refine qL 3 [] U (ej ?_)
  let z1:Nat×Obj:=(b1,O (xE p gQ) 64)
  refine bW (L':=[z1]++(markB [])) ap ?_
  refine sQ (ι:=Nat×List Nat×HF) (λi=>[]) (λi=>marks i.2.1) (λi=>i.2.2) (λi=>[z1]++(markB i.2.1)) (λi=>i.1<=(aw p).length/\cx p=((cx.K1))/\xM h1 i.2.2) ?_ (λhx1=>?_)
  .rintro⟨i1,rs1,hh1⟩ ⟨ft,hs2,hl1⟩ e
   have hs3:cx p=(Except.ok ()):=hs2
   exact bW (L':=([z1])++markB rs1) ap (yG rs1 [] Mg U hX trivial (congrArg (exW stopV (λr:Unit=>(.tuple #[]:Value))) hs3))
  refine xh (ι:=Nat×List Nat×HF×List Expr) (λi=>[(1,Q b1),(20,.slice rb1 ((aw p).length) rc1),(21,I ((aw p).length:Int)),(22,I (i.1:Int))]) (λi=>marks i.2.1) (λi=>i.2.2.1) (λi=>[z1]++(markB i.2.1)) (λi=>(aw p).drop i.1=i.2.2.2/\i.1<=(aw p).length/\cx p=((cx.L1 p (cx.K1)) i.2.2.2)/\xM h1 i.2.2.1) (λi=>i.2.2.2.length) (0,[],h1,(aw p)) U rd sw ⟨U,qM _,hs1,lf⟩ ?_
  rintro⟨i1,rs1,hh1,s1⟩ ⟨hd1,ft,hs4,hl1⟩ ag1 e
  rcases s1 with _|⟨y1,rz1⟩
  .have fL:=oC hd1
   exact sr (fO fL U (qO 4 U (hx1 (i1,rs1,hh1) _ ⟨ft,hs4,hl1⟩ trivial)))
  have cY:=ul hd1
  have aJ:=tG hd1
  have dY:=iX hd1
  have gy:=sl1.1.1
  try have hsy:=BQ hsm (gj hd1)
  refine sr (tO cY U (qO 8 U (aA (iR mi ty62 (sl1.mono SC hl1).1 aJ U U U (λ_ _ _ e=>e) (λq2 r2 A2 ok2=>dv ty62 A2 U U (aS zc62 (λb4=>aR 0 ty62 U U U U U U (qO 3 U (cN 0 ty62 U U U (aA (cC Mi (nD _ _ _ 1 ok2 ob) U (λv3 h3 hle3 hp3=>?_))))))))))))
  obtain⟨_,rfl,mo2⟩:=hp3
  refine qO 2 U ?_
  let z2:Nat×Obj:=(b4,O (vC y1 r2) 62)
  refine bW (L':=([z2,z1])++markB rs1) ap ?_
  refine ke (it:=v3) (xs:=(bp y1 1)) (ι:=HF) rs1 (λi=>i) (λi=>[z2,z1]) (λs i=>cx p=((cx.L3 p ((cx.L1 p (cx.K1) rz1))) s)/\xM h3 i) (λ_=>False) (λ_=>False) 0 (λch _ _=>∃pv_,ch=[{ v:=stopV pv_,recovered:=false }]/\cx p=.error pv_) h3 Mg U mo2 U oH (λ_ _ _ _ _ hq=>hq) U (show[z2,z1]=_ from U) ⟨hs4,lf⟩ ?_ ?_ ?_ ?_ ?_
  .rintro l3 dm3 lp3 y3 rz3 vs3 hh3 hr3 X hFR3 ⟨hs6,hl3⟩ hl03 hlr3 hv3 hX hXM hlp3 nx3 rt3 ex3 pn3
   obtain⟨rr3_0,rfl,ok3_0⟩:=hv3
   let z3:Nat×Obj:=(dm3,.deferred (some []))
   refine bW (L':=[(l3,.loop lp3),z3,z2,z1]++(markB rs1)) ap (bC (aS zc327 (λb6=>aR 0 ty327 U U U U U U (aI (j2 1 U hlp3 (qK 3 [] U (cN 0 ty62 U U U (ai call283 (oz _ _ _ ok3_0.x) U (qO 2 U (bL 7 [33,34,35,36,37,38,39,40] 33 40 (dl p.Offices y3.x.Name) U (λc3 hk3=>?_) (λe=>?_)))))))))))
   .exact qL 5 [4,0] U (ai call328 (tM _ _ _ _ y3.x.Name (hp.Offices.mono TW ((((hle1.t hl1).t hle3).t hl3).t hlr3))) U (eE U (hk3 _ U)))
   refine aA (ng zz (ig hr3 ((!(dw y3.x))||(dl p.Offices y3.x.Name)) 201) U (λu2 hu2=>?_) (λpv2 hpv2 e=>?_))
   .obtain⟨rx2,hrx2,rfl⟩:=oV hu2
    have hs7:=hs6.trans (pH hrx2)
    cases rx2
    exact aI (eX (ba (L':=[(l3,.loop { lp3 with state:=.busy }),z3,z2,z1]++(markB rs1)) js (bW (L':=rdH l3 dm3 lp3 (([z2,z1])++markB rs1)) ap (nx3 hr3 _ _ ⟨hs7,(hl3.t hlr3)⟩ lf))))
   obtain⟨pv2e,hpv2e,rfl⟩:=np hpv2
   have hs8:=hs6.trans (nL hpv2e)
   exact Aj (L':=[(l3,.loop { lp3 with state:=.busy }),z3]++(markB rs1)) js (pn3 _ _ _ [] ⟨_,U,hs8⟩)
  .rintro dm3 hh3 hn3 ⟨hs9,hl3⟩ hln3 hl03
   exact bW (L':=[z2,z1]++(markB (dm3::rs1))) ap (qT 3 U (oi i1 U (qO 2 U (ba (L':=[z1]++(markB (dm3::rs1))) js (ag1 ((i1+1),(dm3::rs1),hn3,rz1) _ (Nat.lt_succ_self _) ⟨mK hd1,iX hd1,hs9,(((hl1.t hle3).t hl3).t hln3)⟩ rd)))))
  .exact xf
  .exact xf
  rintro dm3 ch hn3 L0 ⟨pv_,rfl,hpv_⟩ hl03
  exact oa (dm3::rs1) Mg hX (congrArg (exW stopV (λr:Unit=>(.tuple #[]:Value))) hpv_)
 obtain⟨pv1e,hpv1e,rfl⟩:=np hpv1
 have hs10:=hs0.trans (nL hpv1e)
 exact gK (oa [] Mg hX (congrArg (exW stopV (λr:Unit=>(.tuple #[]:Value))) hs10))
theorem gT(h:HF)(eW:Int)(low:Int)(high:Int)  : Ret prog 149 [I eW,I low,I high] h (.bool (aM eW low high)):=by
 refine sT func149 U ntmps149 U λX hM hX hF=>?_
 have hs0:=@rfl _ (aM eW low high)
 refine qT 10 U (aU 4 [10,11,12,13,14] 10 14 (decide (eW<=high)) U (λc1 hk1=>?_) (λe=>?_))
 .exact av (qO 3 U (hk1 _ U))
 exact an (nretP [.bool (decide (low<=eW)&&decide (eW<=high))] (cs hs0))
theorem Nf{n a b:Int}(h:aM n a b=true):a<=n/\n<=b:=by simpa[aM]using h
theorem zo(h:HF)(x0:Expr)(RF:cR)(hx0:kG h x0 RF):Ret prog 405 [.agg (vC x0 RF).toArray] h (.bool (qg x0)):=by
 refine sT func405 U ntmps405 U λX hM hX hF=>?_
 have hs0:=@rfl _ (qg x0)
 exact sr (bS (λb1=>qO 6 U (nretP [.bool false] (cs hs0))))
theorem zm(h:HF)(x:Expr)(fY:cR)(hx:kG h x fY):Ret prog 406 [.agg (vC x fY).toArray] h (.bool (kY x)):=by
 refine sT func406 U ntmps406 U λX hM hX hF=>?_
 have hs0:=@rfl _ (kY x)
 refine sr (bS (λb1=>qL 8 [0] U (aU 5 [6,7,8,9,10,11] 6 11 ((x.L.length:Int)==0) U (λc1 hk1=>?_) (λe=>?_))))
 .exact qL 5 [0] U (hk1 _ U)
 exact an (nretP [.bool ((x.N==0)&&((x.L.length:Int)==0))] (cs hs0))
theorem zk(h:HF)(x:Expr)(fY:cR)(hx:kG h x fY):Ret prog 407 [.agg (vC x fY).toArray] h (.bool (kX x)):=by
 refine sT func407 U ntmps407 U λX hM hX hF=>?_
 have hs0:=@rfl _ (kX x)
 refine sr (bS (λb1=>qL 6 [0] U (ai AT (gT h x.N 1 4096) U (av (aU 5 [6,7,8,9,10,11] 6 11 ((x.L.length:Int)==0) U (λc1 hk1=>?_) (λe=>?_))))))
 .exact qL 5 [0] U (hk1 _ U)
 exact an (nretP [.bool ((aM x.N 1 4096)&&((x.L.length:Int)==0))] (cs hs0))
theorem zj(h:HF)(x:Expr)(fY:cR)(hx:kG h x fY):Ret prog 408 [.agg (vC x fY).toArray] h (.bool (kW x)):=by
 refine sT func408 U ntmps408 U λX hM hX hF=>?_
 have hs0:=@rfl _ (kW x)
 refine sr (bS (λb1=>qL 8 [0] U (aU 5 [6,7,8,9,10,11] 6 11 (aM (x.L.length:Int) 1 16) U (λc1 hk1=>?_) (λe=>?_))))
 .exact qL 3 [0] U (ai AT (gT h (x.L.length:Int) 1 16) U (eE U (hk1 _ U)))
 refine av (aU 7 [12,13,14,15,16,17,18,19] 12 19 (aM x.N 1 (x.L.length:Int)) U (λc2 hk2=>?_) (λe=>?_))
 .exact qL 5 [0,0] U (ai AT (gT h x.N 1 (x.L.length:Int)) U (eE U (hk2 _ U)))
 exact an (nretP [.bool (((x.Name.toList==(⟨#[]⟩:ByteArray).toList)&&(aM (x.L.length:Int) 1 16))&&(aM x.N 1 (x.L.length:Int)))] (cs hs0))
theorem zh(h:HF)(x:Expr)(fY:cR)(hx:kG h x fY):Ret prog 409 [.agg (vC x fY).toArray] h (.bool (jU x)):=by
 refine sT func409 U ntmps409 U λX hM hX hF=>?_
 have hs0:=@rfl _ (jU x)
 refine sr (bS (λb1=>qL 8 [0] U (aU 5 [6,7,8,9,10,11] 6 11 ((x.L.length:Int)==2) U (λc1 hk1=>?_) (λe=>?_))))
 .exact qL 5 [0] U (hk1 _ U)
 refine av (aU 4 [12,13,14,15,16] 12 16 (aM x.N 0 1099511627776) U (λc2 hk2=>?_) (λe=>?_))
 .exact qL 2 [0] U (ai AT (gT h x.N 0 1099511627776) U (eE U (hk2 _ U)))
 exact an (nretP [.bool (((x.Name.toList==(⟨#[]⟩:ByteArray).toList)&&((x.L.length:Int)==2))&&(aM x.N 0 1099511627776))] (cs hs0))
theorem Ly(h:HF)(i:Int)(hi:0<=i/\i<5)(x:Expr)(fY:cR)(hx:kG h x fY):uL prog (kfun i) [.agg (vC x fY).toArray] h [] (.bool (kindsP i x)):=by
 have:i=0\/i=1\/i=2\/i=3\/i=4:=by omega
 rcases this with rfl|rfl|rfl|rfl|rfl
 .exact iK (cap:=[]) call405 (zo h x fY hx)
 .exact iK (cap:=[]) call406 (zm h x fY hx)
 .exact iK (cap:=[]) call407 (zk h x fY hx)
 .exact iK (cap:=[]) call408 (zj h x fY hx)
 exact iK (cap:=[]) call409 (zh h x fY hx)
end
variable {v:Go.Value}
section
open Go.Proofs Go.Proofs.Tryz
section runs
variable {P:Program} {e:Env} {X:Cx} {h:HF} {L:LH} {d:Option Nat} {ty:TypeId} {pos:String} {af:Array Edge} {g:Option (Nat×Bool)}
theorem Qm{t u:TypeId}(hT:∃ms,P.underlying t=some (.interface ms))(hx:e.ev x=.nilIface):∀w,St X h L w->(execOp e.ev ⟨d,.binOp .neq t x (.const .nilIface) u,ty,pos,af,g⟩).run P w=.ok (.value (.bool false)) w:=
 λw _=>by
  obtain⟨ms,hT⟩:=hT
  have hc:e.ev (.const .nilIface)=.nilIface:=rfl
  have he:(Op.equal t .nilIface .nilIface).run P w=.ok true w:=by
   rw[Op.equal,Op.maxDepth,show(10000:Nat)=9999+1 from rfl,Op.equalIn];simp[run_underlying hT]
  simp[execOp,hx,hc,eqGuard,binOp,he]
theorem Ql{t u:TypeId}{T:TypeId}(hT:∃ms,P.underlying t=some (.interface ms))(hx:e.ev x=.iface T v):∀w,St X h L w->(execOp e.ev ⟨d,.binOp .neq t x (.const .nilIface) u,ty,pos,af,g⟩).run P w=.ok (.value (.bool true)) w:=
 λw _=>by
  obtain⟨ms,hT⟩:=hT
  have hc:e.ev (.const .nilIface)=.nilIface:=rfl
  have he:(Op.equal t (.iface T v) .nilIface).run P w=.ok false w:=by
   rw[Op.equal,Op.maxDepth,show(10000:Nat)=9999+1 from rfl,Op.equalIn];simp[run_underlying hT]
  simp[execOp,hx,hc,eqGuard,binOp,he]
theorem Nw{xt T:TypeId}{fs:Array Field}(hT:P.underlying T=some (.struct fs))(hx:e.ev x=.iface T v):∀w,St X h L w->(execOp e.ev ⟨d,.typeAssert x xt T true,ty,pos,af,g⟩).run P w=.ok (.value (.tuple #[v,.bool true])) w:=
 λw _=>by simp[execOp,hx,Instr.typeAssert,run_underlying hT]
end runs
def bodyOf(f:Func):Code:=f.body.getD .skip
theorem Lk{P:Program}{t:Nat}{fv:Value}(hf:e t=fv)(w:World):
  (execOp e.ev ⟨d,.call ⟨.value (.tmp t),#[],ats⟩,ty,pos,af,g⟩).run P w=(do let d ←xJ fv #[];invoke d.target d.args:Sem Next).run P w:=by
 subst hf;simp[execOp,resolve,Env.ev]
theorem GX(h:HF)(b1:Nat)(X':Cx):TT prog (deferFrame 323) 17 [.code (bodyOf Tryz.f323)] (Gn prog X' .returning (λh' B=>h'=h/\B=[(b1,zJ (vB [.int .i64 0]) 37 (0,0))])) (envArgs [.pointer (some ⟨b1,0,none⟩)]) [] X' h [(b1,zJ (vB [.int .i64 0]) 37 (0,0))]:=by
 refine ew (bC (?_))
 refine C4 (λcs Φ⟨c,rest,hcs,hm,_⟩=>by subst hcs;simp[recoverD,hm]) ?_
 refine gu (aI (ew (bC (av (aA (fj (Qm ⟨_,Ou⟩ rfl) (aI (?_))))))))
 exact pi rfl (aH (Ib Ot rfl ⟨rfl,rfl⟩))
theorem GY(h:HF)(b1:Nat)(ee:Int)(X':Cx):TT prog (deferFrame 323) 17 [.code (bodyOf Tryz.f323)]
  (λcs Φ=>∃c rest,cs=c::rest/\c.mode=.panicking [{ v:=stopV ee,recovered:=false }]/\Gn prog X' (.panicking [{ v:=stopV ee,recovered:=true }]) (λh' B=>h'=h/\∃B0,B=B0++[(b1,zJ (vB [.int .i64 ee]) 37 (0,0))]) ({ c with mode:=(.panicking [{ v:=stopV ee,recovered:=true }]) }::rest) Φ)
  (envArgs [.pointer (some ⟨b1,0,none⟩)]) [] X' h [(b1,zJ (vB [.int .i64 0]) 37 (0,0))]:=by
 refine ew (bC (?_))
 refine Ev (F':=Gn prog X' (.panicking [{ v:=stopV ee,recovered:=true }]) (λh' B=>h'=h/\∃B0,B=B0++[(b1,zJ (vB [.int .i64 ee]) 37 (0,0))])) (stopV ee) (λcs Φ⟨c,rest,hcs,hm,hF⟩=>⟨_,by subst hcs;simp[recoverD,hm],hF⟩) ?_
 refine gu (aI (ew (bC (av (aA (fj (Ql ⟨_,Ou⟩ rfl) (aI (?_))))))))
 refine lX rfl (ew (bC (av (aA (fj (Nw underlying358 rfl) (av (pd rfl rfl (pd rfl rfl (aS zc358 (λb2=>?_))))))))))
 refine aR 0 ty358 rfl rfl rfl rfl rfl rfl (gu (aI (?_)))
 refine ew (ew (bC (av (nF rfl (aI (?_))))))
 refine pi rfl (aH (?_))
 refine bC (j8 PG rfl (?_))
 refine oB 0 ty37 rfl rfl rfl (?_)
 refine cK 1 ty37 rfl rfl rfl rfl rfl rfl (aI (?_))
 exact Ib Ot rfl ⟨rfl,[(b2,_)],rfl⟩
theorem zp(h:HF)(fv:Value)(x:Except Int Unit)(hf:m7 prog fv #[] h [] (XR (exW stopV (λ_:Unit=>.tuple #[]) x) h)):Ret prog 276 [fv] h (.int .i64 (attR x)):=by
 refine cH func276 rfl ntmps276 rfl λX hM hX=>?_
 refine ew (bC (aS zc37 (λb1=>aI (ew (bC (aA (eI rfl rfl (OH rfl rfl (aI (ew (bC (av (?_)))))))))))))
 have fin:∀(r:Int)(B:LH),attR x=r->(∃B0,B=B0++[(b1,zJ (vB [.int .i64 r]) 37 (0,0))])->∀(e:Env),e 2=.pointer (some ⟨b1,0,none⟩)->∀a:Act,envOf a=e->∀w,St X h (B++[]) w ->
   ∃v h2 B2,(results Tryz.f276 a.tmps).run prog w=.ok v w/\St X h2 B2 w/\v=.int .i64 (attR x)/\h2=h/\B2=[]:=by
  rintro r B hr ⟨B0,rfl⟩ e he a ha w hw
  have hw':=hw.sub (L':=[(b1,zJ (vB [.int .i64 r]) 37 (0,0))]) (by simp)
  exact⟨_,h,[],ni (rs:=[.cell 2 37]) (vs:=[.int .i64 r]) rfl ⟨⟨0,b1,[.int .i64 r],37,(0,0),rfl,he,.inr ⟨_,ty37,rfl⟩⟩,trivial⟩ a ha w hw',hw'.sub (List.nil_sublist _),by rw[hr];rfl,rfl,rfl⟩
 refine Ia rfl (by decide) rfl rfl (λw hw=>?_)
 have hpre:Pre h [] w:=(hw.sub (List.nil_sublist _)).pre
 obtain⟨nx,hrun,hcall⟩:=hf w hpre
 refine⟨nx,w,?_,hcall.mono ?_⟩
 .rw[←hrun];exact Lk rfl w
 rintro y w' ⟨h',B,hst,rfl,rfl,hv⟩
 have hw2:=St.after (A:=[]) (B:=[]) (F:=[(b1,zJ (vB [.int .i64 0]) 37 (0,0))]) hw hst
 cases y with
 |outgrown=>trivial
 |returned v=>
  refine⟨h',_,hw2,?_⟩
  have hx:∃u,x=.ok u:=by cases x with
   |ok u=>exact⟨u,rfl⟩
   |error p=>simp[exW]at hv
  obtain⟨u,rfl⟩:=hx
  refine aI (ew (bC (cK 0 ty37 rfl rfl rfl rfl rfl rfl (aI (?_)))))
  refine P9 (c:=bodyOf Tryz.f323) (cap:=[.pointer (some ⟨b1,0,none⟩)]) (A:=[(b1,zJ (vB [.int .i64 0]) 37 (0,0))]) (R':=λh'' B=>h''=h'/\B=[(b1,zJ (vB [.int .i64 0]) 37 (0,0))]) func276 Ot rfl ntmps323 rfl call323 (λX' _=>GX h' b1 X') (Fr:=[]) rfl ?_
  rintro h'' B _ ⟨rfl,rfl⟩ a ha w hw
  obtain⟨v,h2,B2,h3,h4,rfl,rfl,rfl⟩:=fin 0 _ rfl ⟨[],rfl⟩ _ rfl a ha w hw
  exact⟨_,_,_,h3,h4,rfl,rfl,rfl⟩
 |panicked ch=>
  refine⟨h',_,hw2,?_⟩
  have hx:∃ee,x=.error ee:=by cases x with
   |ok u=>simp[exW]at hv
   |error p=>exact⟨p,rfl⟩
  obtain⟨ee,rfl⟩:=hx
  simp only[exW]at hv
  cases hv
  refine Qc (c:=bodyOf Tryz.f323) (cap:=[.pointer (some ⟨b1,0,none⟩)]) (A:=[(b1,zJ (vB [.int .i64 0]) 37 (0,0))]) (R':=λh'' B=>h''=h'/\∃B0,B=B0++[(b1,zJ (vB [.int .i64 ee]) 37 (0,0))]) func276 Ot rfl ntmps323 rfl call323 (λX' _=>GY h' b1 ee X') (Fr:=[]) rfl ?_
  rintro h'' B _ ⟨rfl,hB⟩ a ha w hw
  obtain⟨v,h2,B2,h3,h4,rfl,rfl,rfl⟩:=fin ee _ rfl hB _ rfl a ha w hw
  exact⟨_,_,_,h3,h4,rfl,rfl,rfl⟩
end
section
open Go.Proofs Go.Proofs.Tryz
set_option maxHeartbeats 2000000
theorem Co(h:HF)(p:Policy)(gQ:eQ)(hp:kN h p gQ)(hsm:smP p)(hk:Kinds h):GZ prog 280 [.agg (xE p gQ).toArray] h (exW stopV (λr:Unit=>(.tuple #[]:Value)) (bq p)):=by
 refine cH He U ntmps280 U λX hM hX=>?_
 have hs0:=@rfl _ (bq p)
 have hsr:=hsm.rules
 refine sr (bS (λb1=>qL 8 [0] U (aU 8 [12,13,14,15,16,17,18,19,20] 12 20 ((p.Rules.length:Int)==(p.Kinds.length:Int)) U (λc1 hk1=>?_) (λe=>?_))))
 .exact qL 8 [0,0] U (hk1 _ U)
 refine av (aU 4 [21,22,23,24,25] 21 25 (aM p.Mode 1 4) U (λc2 hk2=>?_) (λe=>?_))
 .exact qL 2 [0] U (ai AT (gT h p.Mode 1 4) U (eE U (hk2 _ U)))
 refine aA (ng zz (ig h ((decide (0<(p.Kinds.length:Int))&&((p.Rules.length:Int)==(p.Kinds.length:Int)))&&(aM p.Mode 1 4)) 200) U (λu1 hu1=>?_) (λpv1 hpv1 e=>?_))
 .obtain⟨rx1,hrx1,rfl⟩:=oV hu1
  have hs1:=hs0.trans (pH hrx1)
  cases rx1
  refine qL 9 [0] U ?_
  let z2:Nat×Obj:=(b1,O (xE p gQ) 64)
  refine lp0 p.Rules (λi=>[(1,Q b1),(28,.slice gQ.ot p.Rules.length gQ.oq),(29,I (p.Rules.length:Int)),(30,I (i:Int))]) ([z2]) (λs1 i=>(bq.L1 p (bq.K1 p)) s1 i) hp.Rules.1.1 hs1 ?_ ?_
  .rintro i1 ft hs2 e
   refine sr (cN 0 ty64 U U U (aA (cC call325 (mS _ _ _ hp ob) U (λv1 h1 hle1 hp1=>?_))))
   obtain⟨rb1,rc1,rfl,sl1⟩:=hp1
   refine aS zc60 (λb3=>cK 0 ty60 U U U U U U (qL 7 [0] U (ej ?_)))
   let z1:Nat×Obj:=(b3,O [.slice rb1 ((aw p).length) rc1] 60)
   refine bW (L':=[z1,z2]++(markB [])) ap ?_
   refine sQ (ι:=Nat×List Nat×HF) (λi=>[]) (λi=>marks i.2.1) (λi=>i.2.2) (λi=>[z1,z2]++(markB i.2.1)) (λi=>i.1<=(aw p).length/\bq p=((bq.K2))/\xM h1 i.2.2) ?_ (λhx2=>?_)
   .rintro⟨i2,rs2,hh2⟩ ⟨CG,hs3,hl2⟩ e
    have hs4:bq p=(Except.ok ()):=hs3
    exact bW (L':=([z1,z2])++markB rs2) ap (yG rs2 [] He U hX trivial (congrArg (exW stopV (λr:Unit=>(.tuple #[]:Value))) hs4))
   refine xh (ι:=Nat×List Nat×HF×List Expr) (λi=>[(4,Q b3),(52,.slice rb1 ((aw p).length) rc1),(53,I ((aw p).length:Int)),(54,I (i.1:Int))]) (λi=>marks i.2.1) (λi=>i.2.2.1) (λi=>[z1,z2]++(markB i.2.1)) (λi=>(aw p).drop i.1=i.2.2.2/\i.1<=(aw p).length/\bq p=((bq.L2 p (bq.K2)) i.2.2.2 i.1)/\xM h1 i.2.2.1) (λi=>i.2.2.2.length) (0,[],h1,(aw p)) U rd sw ⟨U,qM _,hs2,lf⟩ ?_
   rintro⟨i2,rs2,hh2,s2⟩ ⟨hd2,CG,hs5,hl2⟩ ag1 e
   rcases s2 with _|⟨y2,rz2⟩
   .have NI:=oC hd2
    exact sr (fO NI U (qO 4 U (hx2 (i2,rs2,hh2) _ ⟨CG,hs5,hl2⟩ trivial)))
   have wX:=ul hd2
   have uZ:=tG hd2
   have Fz:=iX hd2
   have NJ:=sl1.1.1
   try have hsy:=BQ hsm (gj hd2)
   refine sr (tO wX U (qO 9 U (aA (iR mi ty62 (sl1.mono SC hl2).1 uZ U U U (λ_ _ _ e=>e) (λq4 r3 A5 ok3=>dv ty62 A5 U U (aS zc3 (λb7=>aS zc62 (λb8=>cK 1 ty3 U U U U U U (aR 0 ty62 U U U U U U (qO 3 U (cN 0 ty62 U U U (aA (cC Mi (nD _ _ _ 1 ok3 ob) U (λv3 h3 hle3 hp3=>?_))))))))))))))
   obtain⟨_,rfl,mo2⟩:=hp3
   refine qO 2 U ?_
   let z3:Nat×Obj:=(b7,O [I (i2:Int)] 3)
   let z5:Nat×Obj:=(b8,O (vC y2 r3) 62)
   refine bW (L':=([z5,z3,z1,z2])++markB rs2) ap ?_
   refine ke (it:=v3) (xs:=(bp y2 1)) (ι:=HF) rs2 (λi=>i) (λi=>[z5,z3,z1,z2]) (λs i=>bq p=((bq.L4 p i2 ((bq.L2 p (bq.K2) rz2 (i2+1)))) s)/\xM h3 i) (λ_=>False) (λ_=>False) 0 (λch _ _=>∃pv_,ch=[{ v:=stopV pv_,recovered:=false }]/\bq p=.error pv_) h3 He U mo2 U oH (λ_ _ _ _ _ hq=>hq) U (show[z5,z3,z1,z2]=_ from U) ⟨hs5,lf⟩ ?_ ?_ ?_ ?_ ?_
   .rintro l4 dm4 lp4 y4 rz4 vs4 hh4 hr4 X hFR4 ⟨hs7,hl4⟩ hl04 hlr4 hv4 hX hXM hlp4 nx4 rt4 ex4 pn4
    obtain⟨rr4_0,rfl,ok4_0⟩:=hv4
    let z6:Nat×Obj:=(dm4,.deferred (some []))
    refine bW (L':=[(l4,.loop lp4),z6,z5,z3,z1,z2]++(markB rs2)) ap (bC (aS zc327 (λb10=>aR 0 ty327 U U U U U U (aI (j2 1 U hlp4 (qT 2 U ?_))))))
    let z4:Nat×Obj:=(l4,.loop { lp4 with state:=.busy })
    let z8:Nat×Obj:=(b10,O (gH.cells y4 rr4_0) 327)
    refine eh ([z8,z4,z6,z5,z3,z1,z2]) mixed kr jn (λdt _=>?_)
    refine qB [0,1] U (tf 2 U U (rj 0 ty3 U U U) (tn 3 U (et AT (gT hr4 y4.x.Kind 1 4) U (⟨jn,tm 4 U ?_⟩))))
    refine cB 66 U (λc3=>?_) (λc3=>?_)
    .refine qB [5,6] U (tf 7 U U (rj 0 ty3 U U U) ?_)
     have ho4:0<=(y4.x.Kind:Int)/\(y4.x.Kind:Int)<5:=(by have:=Nf ob;omega)
     have A7:=(hk.mono ((((hle1.t hl2).t hle3).t hl4).t hlr4)).at ho4
     refine tf 8 U U (λ_ _ _=>O1 underlying365 ty168 U U ho4) (tf 9 U U (rh ty168 A7 U) (qB [10] U (tf 11 U U (λ_ _ hj=>i7 ty62 U (hj.nth (i:=0) U) U) (tn 12 U (mG (v:=.bool (kindsP y4.x.Kind y4.x)) [] (List.nil_sublist _) (Ly hr4 y4.x.Kind ho4 y4.x rr4_0.x ok4_0.x) U U (⟨jn,tf 13 U U (λ_ _ _=>oh U (cb (show(kindsP y4.x.Kind y4.x)=((aM y4.x.Kind 1 4)&&(kindsP y4.x.Kind y4.x))from by first|(rw[c3];rfl)|(rw[c3];rfl)|simp[c3]))) ?_⟩))))))
     refine tn 14 U (ng zz (ig hr4 ((aM y4.x.Kind 1 4)&&(kindsP y4.x.Kind y4.x)) 200) U (λu2 hu2=>?_) (λpv2 hpv2 e=>?_))
     .obtain⟨rx2,hrx2,rfl⟩:=oV hu2
      have hs8:=hs7.trans (pH hrx2)
      cases rx2
      refine⟨jn,aG kr (qK 7 [4,5] U (bL 5 [82,83,84,85,86,87] 82 87 (y4.x.Kind != 4) U (λc4 hk3=>?_) (λe=>?_)))⟩
      .exact qL 5 [0] U (hk3 _ U)
      refine aA (ng zz (ig hr4 (decide ((i2:Int)<(qE .i64 (((aw p).length:Int)-1)))||(y4.x.Kind != 4)) 200) U (λu3 hu3=>?_) (λpv3 hpv3 e=>?_))
      .obtain⟨rx3,hrx3,rfl⟩:=oV hu3
       have hs9:=hs8.trans (pH hrx3)
       cases rx3
       exact aI (eX (ba (L':=[z4,z6,z5,z3,z1,z2]++(markB rs2)) js (bW (L':=rdH l4 dm4 lp4 (([z5,z3,z1,z2])++markB rs2)) ap (nx4 hr4 _ _ ⟨hs9,(hl4.t hlr4)⟩ lf))))
      obtain⟨pv3e,hpv3e,rfl⟩:=np hpv3
      have hs10:=hs8.trans (nL hpv3e)
      exact Aj (L':=[z4,z6]++(markB rs2)) js (pn4 _ _ _ [] ⟨_,U,hs10⟩)
     obtain⟨pv2e,hpv2e,rfl⟩:=np hpv2
     have hs11:=hs7.trans (nL hpv2e)
     exact Aj (L':=[z4,z6]++(markB rs2)) js (pn4 _ _ _ [] ⟨_,U,hs11⟩)
    refine qR 5 8 U (tf 13 U U (λ_ _ _=>oh U (cb (show false=((aM y4.x.Kind 1 4)&&(kindsP y4.x.Kind y4.x))from by first|(rw[c3];rfl)|(rw[c3];rfl)|simp[c3]))) ?_)
    refine tn 14 U (ng zz (ig hr4 ((aM y4.x.Kind 1 4)&&(kindsP y4.x.Kind y4.x)) 200) U (λu4 hu4=>?_) (λpv4 hpv4 e=>?_))
    .obtain⟨rx4,hrx4,rfl⟩:=oV hu4
     have hs12:=hs7.trans (pH hrx4)
     cases rx4
     refine⟨jn,aG kr (qK 7 [4,5] U (bL 5 [82,83,84,85,86,87] 82 87 (y4.x.Kind != 4) U (λc5 hk4=>?_) (λe=>?_)))⟩
     .exact qL 5 [0] U (hk4 _ U)
     refine aA (ng zz (ig hr4 (decide ((i2:Int)<(qE .i64 (((aw p).length:Int)-1)))||(y4.x.Kind != 4)) 200) U (λu5 hu5=>?_) (λpv5 hpv5 e=>?_))
     .obtain⟨rx5,hrx5,rfl⟩:=oV hu5
      have hs13:=hs12.trans (pH hrx5)
      cases rx5
      exact aI (eX (ba (L':=[z4,z6,z5,z3,z1,z2]++(markB rs2)) js (bW (L':=rdH l4 dm4 lp4 (([z5,z3,z1,z2])++markB rs2)) ap (nx4 hr4 _ _ ⟨hs13,(hl4.t hlr4)⟩ lf))))
     obtain⟨pv5e,hpv5e,rfl⟩:=np hpv5
     have hs14:=hs12.trans (nL hpv5e)
     exact Aj (L':=[z4,z6]++(markB rs2)) js (pn4 _ _ _ [] ⟨_,U,hs14⟩)
    obtain⟨pv4e,hpv4e,rfl⟩:=np hpv4
    have hs15:=hs7.trans (nL hpv4e)
    exact Aj (L':=[z4,z6]++(markB rs2)) js (pn4 _ _ _ [] ⟨_,U,hs15⟩)
   .rintro dm4 hh4 hn4 ⟨hs16,hl4⟩ hln4 hl04
    exact bW (L':=[z5,z3,z1,z2]++(markB (dm4::rs2))) ap (qT 3 U (oi i2 U (qO 2 U (ba (L':=[z1,z2]++(markB (dm4::rs2))) js (ag1 ((i2+1),(dm4::rs2),hn4,rz2) _ (Nat.lt_succ_self _) ⟨mK hd2,iX hd2,hs16,(((hl2.t hle3).t hl4).t hln4)⟩ rd)))))
   .exact xf
   .exact xf
   rintro dm4 ch hn4 L0 ⟨pv_,rfl,hpv_⟩ hl04
   exact oa (dm4::rs2) He hX (congrArg (exW stopV (λr:Unit=>(.tuple #[]:Value))) hpv_)
  rintro i1 y1 rz1 hd1 cY aJ dY gy hs17 hx1 ag2 e
  try have hsy:=BQ hsm (gj hd1)
  refine sr (tO cY U (qO 9 U (aA (iR vq ty79 hp.Rules.1 aJ U U U (λ_ _ _ e=>e) (λq5 r4 A8 ok4=>dv ty79 A8 U U (aS zc79 (λb11=>gu (aR 0 ty79 U U U U U U (aI ?_)))))))))
  let z7:Nat×Obj:=(b11,O (Ue y1 r4) 79)
  refine eh ([z7,z2]) mixed kr jn (λmF _=>?_)
  refine qB [0] U (tf 1 U U (rj 0 ty9 U U U) (qB [2] U (tf 3 U U (rj 1 ty58 U U U) (tm 4 U ?_))))
  have ho5:0<=((i1:Int):Int)/\((i1:Int):Int)<((p.Kinds).length:Int):=(by have hm:=NC hrx1;simp only[decide_eq_true_eq,decide_eq_false_iff_not,jA,kC,kD,Bool.not_eq_false',Bool.and_eq_false_iff,Bool.or_eq_false_iff,beq_iff_eq,beq_eq_false_iff_ne,bne_iff_ne,bne_eq_false_iff_eq,xB,xA,jC,List.length_drop]at hm;omega)
  refine cU 5 (enc:=λy=>[.string y]) mF jn ei wy ty9 hp.Kinds.1 ho5 (de ho5) U U U U kr (λq6 A9=>tf 6 U U (rh ty9 A9 U) (qA [7,8] U ?_))
  refine cB 43 U (λc6=>?_) (λc6=>?_)
  .refine qB [9] U (tf 10 U U (rj 0 ty3 U U U) (tn 11 U (et AT (gT h y1.Think 0 1099511627775) U (⟨jn,tf 12 U U (λ_ _ _=>oh U (cb (show(aM y1.Think 0 1099511627775)=((y1.Kind.toList==(nthI p.Kinds (i1:Int)).toList)&&(aM y1.Think 0 1099511627775))from by first|(rw[c6];rfl)|(rw[c6];rfl)|simp[c6]))) ?_⟩))))
   refine tn 13 U (ng zz (ig h ((y1.Kind.toList==(nthI p.Kinds (i1:Int)).toList)&&(aM y1.Think 0 1099511627775)) 200) U (λu6 hu6=>?_) (λpv6 hpv6 e=>?_))
   .obtain⟨rx6,hrx6,rfl⟩:=oV hu6
    have hs18:=hs17.trans (pH hrx6)
    cases rx6
    exact⟨jn,(aG kr (qT 2 U (oi i1 U (qO 2 U (ba (L':=[z2]) js (ag2 hs18))))))⟩
   obtain⟨pv6e,hpv6e,rfl⟩:=np hpv6
   have hs19:=hs17.trans (nL hpv6e)
   exact gK (oa [] He hX (congrArg (exW stopV (λr:Unit=>(.tuple #[]:Value))) hs19))
  refine qR 9 3 U (tf 12 U U (λ_ _ _=>oh U (cb (show false=((y1.Kind.toList==(nthI p.Kinds (i1:Int)).toList)&&(aM y1.Think 0 1099511627775))from by first|(rw[c6];rfl)|(rw[c6];rfl)|simp[c6]))) ?_)
  refine tn 13 U (ng zz (ig h ((y1.Kind.toList==(nthI p.Kinds (i1:Int)).toList)&&(aM y1.Think 0 1099511627775)) 200) U (λu7 hu7=>?_) (λpv7 hpv7 e=>?_))
  .obtain⟨rx7,hrx7,rfl⟩:=oV hu7
   have hs20:=hs17.trans (pH hrx7)
   cases rx7
   exact⟨jn,(aG kr (qT 2 U (oi i1 U (qO 2 U (ba (L':=[z2]) js (ag2 hs20))))))⟩
  obtain⟨pv7e,hpv7e,rfl⟩:=np hpv7
  have hs21:=hs17.trans (nL hpv7e)
  exact gK (oa [] He hX (congrArg (exW stopV (λr:Unit=>(.tuple #[]:Value))) hs21))
 obtain⟨pv1e,hpv1e,rfl⟩:=np hpv1
 have hs22:=hs0.trans (nL hpv1e)
 exact gK (oa [] He hX (congrArg (exW stopV (λr:Unit=>(.tuple #[]:Value))) hs22))
theorem wQ(h:HF)(p:Policy)(gQ:eQ)(p_q:Addr)(hp:kN h p gQ)(ap_z:At h p_q (xE p gQ))(hsm:smP p)(hk:Kinds h):GZ prog 277 [.pointer (some p_q)] h (exW stopV (λr:Unit=>(.tuple #[]:Value)) (dH p)):=by
 refine cH Mf U ntmps277 U λX hM hX=>?_
 have hs0:=@rfl _ (dH p)
 refine sr (dv ty64 ap_z U U ?_)
 refine aA (ng call278 (Bv h p gQ hp ob) U (λu1 hu1=>?_) (λpv1 hpv1 e=>?_))
 .obtain⟨rx1,hrx1,rfl⟩:=oV hu1
  have hs1:=hs0.trans (pH hrx1)
  cases rx1
  refine qO 3 U (dv ty64 ap_z U U ?_)
  refine aA (ng call279 (Bw h p gQ hp ob) U (λu2 hu2=>?_) (λpv2 hpv2 e=>?_))
  .obtain⟨rx2,hrx2,rfl⟩:=oV hu2
   have hs2:=hs1.trans (pH hrx2)
   cases rx2
   refine qO 2 U (dv ty64 ap_z U U ?_)
   refine aA (ng call280 (Co h p gQ hp ob hk) U (λu3 hu3=>?_) (λpv3 hpv3 e=>?_))
   .obtain⟨rx3,hrx3,rfl⟩:=oV hu3
    have hs3:=hs2.trans (pH hrx3)
    cases rx3
    refine aI ?_
    have hs4:dH p=(Except.ok ()):=hs3
    exact ej (yG [] [] Mf U hX trivial (congrArg (exW stopV (λr:Unit=>(.tuple #[]:Value))) hs4))
   obtain⟨pv3e,hpv3e,rfl⟩:=np hpv3
   have hs5:=hs2.trans (nL hpv3e)
   exact gK (oa [] Mf hX (congrArg (exW stopV (λr:Unit=>(.tuple #[]:Value))) hs5))
  obtain⟨pv2e,hpv2e,rfl⟩:=np hpv2
  have hs6:=hs1.trans (nL hpv2e)
  exact gK (oa [] Mf hX (congrArg (exW stopV (λr:Unit=>(.tuple #[]:Value))) hs6))
 obtain⟨pv1e,hpv1e,rfl⟩:=np hpv1
 have hs7:=hs0.trans (nL hpv1e)
 exact gK (oa [] Mf hX (congrArg (exW stopV (λr:Unit=>(.tuple #[]:Value))) hs7))
theorem xO(rec:List ByteArray->Expr->Expr)(h:HF)(offices:List ByteArray)(dK:Option Addr)(dJ:Nat)(x:Expr)(fY:cR)(hrec:∀(h:HF)(qoffices:List ByteArray)(j6:Option Addr)(j5:Nat)(qx:Expr)(lE:cR)(hqoffices:SlC Ta h j6 j5 qoffices)(hqx:kG h qx lE)(hsz:qx.dep<=2000000)(_:qx.dep<x.dep),i9 prog 281 [.slice j6 qoffices.length j5,.agg (vC qx lE).toArray] h (λv h'=>∃(rr0:cR),v=.agg (vC (rec qoffices qx) rr0).toArray/\kG h' (rec qoffices qx) rr0))(hoffices:SlC Ta h dK dJ offices)(hx:kG h x fY)(hsz:x.dep<=2000000):i9 prog 281 [.slice dK offices.length dJ,.agg (vC x fY).toArray] h (λv h'=>∃(rr0:cR),v=.agg (vC (ao.F rec offices x) rr0).toArray/\kG h' (ao.F rec offices x) rr0):=by
 refine cH func281 U ntmps281 U λX hM hX=>?_
 have hs0:=@rfl _ (ao.F rec offices x)
 have hln:=Expr.Pc x
 refine sr (bS (λb1=>aS zc62 (λb2=>qL 4 [] U (cK 1 ty3 U U U U U U (qO 4 U (cN 1 ty62 U U U (ai call283 (oz _ _ _ (show kG h (qH x.Kind x.N 0 x.Name x.L) (cR.mk fY.mL fY.m4)from SH hx.list)) U (aI (ae hs0 U (λc1 hs1=>?_) (λc1 hs2=>?_))))))))))
 .refine qK 4 [1] U (ai Ov (lN _ _ _ _ x.Name hoffices) U (qL 1 [] U (cK 1 ty3 U U U U U U (qL 10 [1] U (cK 1 ty60 U U U U U U (qL 8 [] U ?_))))))
  let z1:Nat×Obj:=(b2,O [I 0,I 0,I 0,.string (⟨#[]⟩:ByteArray),.slice none 0 0] 62)
  refine lp2 x.L (λi w=>[(0,.slice dK offices.length dJ),(3,Q b1),(4,Q b2),(19,.slice fY.mL x.L.length fY.m4),(20,I (x.L.length:Int)),(21,I (i:Int))]) (λw=>w.2.2.2.2) (λw=>[z1,(b1,O [I x.Kind,I x.N,I (aP offices x.Name),.string x.Name,.slice w.2.1 w.1.length w.2.2.1] 62)]++(w.2.2.2.1)) (λi w=>cZ S2 62 w.2.2.2.2 w.1 w.2.1 w.2.2.1 w.2.2.2.1/\w.1.length<=0+i/\xM h w.2.2.2.2) (λs1 i w=>(ao.L1 rec offices (ao.K1 offices x)) s1 w.1) ([],none,0,[],h) hx.list.1.1 hs1 ⟨cZ.nil,lo,lf⟩ ?_ ?_
  .rintro i1 ⟨lS,rD,rC,BK,hh1⟩ ft hs3 ⟨tC,FN,hl1⟩ e
   try dsimp only at tC FN hl1
   let z3:Nat×Obj:=(b1,O [I x.Kind,I x.N,I (aP offices x.Name),.string x.Name,.slice rD lS.length rC] 62)
   let z15:Nat×Obj:=(b2,O [I x.Kind,I x.N,I (aP offices x.Name),.string x.Name,.slice rD lS.length rC] 62)
   refine sr (cN 1 ty62 U U U (aR 0 ty62 U U U U U U (iO (L':=[z15,z3]++(BK)) U (aI (eY SC ([z15,z3]) BK ([]) ap hM tC (λh3 hle3 sl2=>?_))))))
   have hs4:ao.F rec offices x=(qH x.Kind x.N (aP offices x.Name) x.Name lS):=hs3
   exact ld [.agg (vB [I x.Kind,I x.N,I (aP offices x.Name),.string x.Name,.slice rD lS.length rC])] func281 U ⟨⟨0,_,_,_,_,U,U,.inl ⟨ty62,U⟩⟩,trivial⟩ ⟨(cR.mk rD rC),congrArg (λr:Expr=>(.agg (vC r (cR.mk rD rC)).toArray:Value)) hs4.symm,(by rw[hs4];exact(show kG h3 (qH x.Kind x.N (aP offices x.Name) x.Name lS) (cR.mk rD rC)from SH sl2))⟩
  rintro i1 ⟨lS,rD,rC,BK,hh1⟩ y1 rz1 hd1 cY aJ dY gy hs5 ⟨tC,FN,hl1⟩ hx1 ag1 e
  try dsimp only at tC FN hl1
  have hdy:=Sz (gj hd1)
  refine sr (tO cY U (qO 8 U (aA (iR mi ty62 (hx.list.mono SC hl1).1 aJ U U U (λ_ _ _ e=>e) (λq2 r2 A2 ok3=>?_)))))
  let z4:Nat×Obj:=(b1,O [I x.Kind,I x.N,I (aP offices x.Name),.string x.Name,.slice rD lS.length rC] 62)
  refine dv ty62 A2 U U (aS zc62 (λb5=>aR 0 ty62 U U U U U U (iO (L':=[(b5,O (vC y1 r2) 62),z1,z4]++(BK)) U (aI ?_))))
  let z8:Nat×Obj:=(b5,O (vC y1 r2) 62)
  refine eh ([z8,z1]) mixed kr jn (λdt _=>?_)
  refine qB [0,2] U (tf 3 U U (λ_ _ hj=>i7 ty62 U (hj.nth (i:=0) U) U) ?_)
  refine lY 1 4 kr U U ?_ ?_ 
  .refine fj (zg ty60 U (oM (i:=2) U) U) (⟨jn,tn 4 U (cC Jd (hrec _ _ _ _ _ _ (hoffices.mono TW hl1) ok3 ob (Sz (gj hd1))) U (λv2 h4 hle4 hp2=>?_))⟩)
   obtain⟨rr4,rfl,ok4⟩:=hp2
   refine⟨jl hle4,tu hle4 (tn 5 U (aV (cells:=[I ((rec offices y1).Kind),I ((rec offices y1).N),I ((rec offices y1).No),.string ((rec offices y1).Name),.slice rr4.mL ((rec offices y1).L.length) rr4.m4]) mi ty62 zc62 U U kr (λb6=>⟨jn,?_⟩)))⟩
   let z12:Nat×Obj:=(b6,O [I ((rec offices y1).Kind),I ((rec offices y1).N),I ((rec offices y1).No),.string ((rec offices y1).Name),.slice rr4.mL ((rec offices y1).L.length) rr4.m4] 62)
   exact tn 6 U (cd Ua ([z12,z8,z1,z4]) ([]) (λG=>[z12,z8,z1,z4]++G) ap (λ_=>ap) mi ty62 zc62 U bytes62 (tC.mono SC hle4) U U (dX 0 U (cE (R:=S2) (rec offices y1) U ⟨rr4,U,ok4⟩)) lo lo (λob2 oc2 G2 gr2=>⟨jn,qB [7] U (tn 8 U (lx 3 ty60 U U U U U U (⟨jn,aG kr (qT 2 U (oi i1 U (qO 2 U (ba (L':=[z1,(b1,O [I x.Kind,I x.N,I (aP offices x.Name),.string x.Name,.slice ob2 ((lS++[(rec offices y1)]).length) oc2] 62)]++G2) js (ag1 ((lS++[(rec offices y1)]),ob2,oc2,G2,h4) hs5 ⟨gr2,lo,(hl1.t hle4)⟩)))))⟩)))⟩))
  refine cC Jd (hrec _ _ _ _ _ _ (hoffices.mono TW hl1) ok3 ob (Sz (gj hd1))) U (λv3 h5 hle5 hp3=>?_)
  obtain⟨rr5,rfl,ok5⟩:=hp3
  refine⟨jl hle5,tu hle5 ?_⟩
  refine lY 1 5 kr U U ?_ ?_ 
  .refine fj (zg ty60 U (oM (i:=2) U) U) (⟨jn,tn 5 U (aV (cells:=[I ((rec offices y1).Kind),I ((rec offices y1).N),I ((rec offices y1).No),.string ((rec offices y1).Name),.slice rr5.mL ((rec offices y1).L.length) rr5.m4]) mi ty62 zc62 U U kr (λb7=>⟨jn,?_⟩))⟩)
   let z13:Nat×Obj:=(b7,O [I ((rec offices y1).Kind),I ((rec offices y1).N),I ((rec offices y1).No),.string ((rec offices y1).Name),.slice rr5.mL ((rec offices y1).L.length) rr5.m4] 62)
   exact tn 6 U (cd Ua ([z13,z8,z1,z4]) ([]) (λG=>[z13,z8,z1,z4]++G) ap (λ_=>ap) mi ty62 zc62 U bytes62 (tC.mono SC hle5) U U (dX 0 U (cE (R:=S2) (rec offices y1) U ⟨rr5,U,ok5⟩)) lo lo (λob3 oc3 G3 gr3=>⟨jn,qB [7] U (tn 8 U (lx 3 ty60 U U U U U U (⟨jn,aG kr (qT 2 U (oi i1 U (qO 2 U (ba (L':=[z1,(b1,O [I x.Kind,I x.N,I (aP offices x.Name),.string x.Name,.slice ob3 ((lS++[(rec offices y1)]).length) oc3] 62)]++G3) js (ag1 ((lS++[(rec offices y1)]),ob3,oc3,G3,h5) hs5 ⟨gr3,lo,(hl1.t hle5)⟩)))))⟩)))⟩))
  refine aV (cells:=[I ((rec offices y1).Kind),I ((rec offices y1).N),I ((rec offices y1).No),.string ((rec offices y1).Name),.slice rr5.mL ((rec offices y1).L.length) rr5.m4]) mi ty62 zc62 U U kr (λb8=>⟨jn,tn 1 U (fj (zg ty60 U (oM (i:=3) U) U) (⟨jn,?_⟩))⟩)
  let z14:Nat×Obj:=(b8,O [I ((rec offices y1).Kind),I ((rec offices y1).N),I ((rec offices y1).No),.string ((rec offices y1).Name),.slice rr5.mL ((rec offices y1).L.length) rr5.m4] 62)
  exact tn 6 U (cd Ua ([z14,z8,z1,z4]) ([]) (λG=>[z14,z8,z1,z4]++G) ap (λ_=>ap) mi ty62 zc62 U bytes62 (tC.mono SC hle5) U U (dX 0 U (cE (R:=S2) (rec offices y1) U ⟨rr5,U,ok5⟩)) lo lo (λob4 oc4 G4 gr4=>⟨jn,qB [7] U (tn 8 U (lx 3 ty60 U U U U U U (⟨jn,aG kr (qT 2 U (oi i1 U (qO 2 U (ba (L':=[z1,(b1,O [I x.Kind,I x.N,I (aP offices x.Name),.string x.Name,.slice ob4 ((lS++[(rec offices y1)]).length) oc4] 62)]++G4) js (ag1 ((lS++[(rec offices y1)]),ob4,oc4,G4,h5) hs5 ⟨gr4,lo,(hl1.t hle5)⟩)))))⟩)))⟩))
 refine qK 10 [1] U (cK 1 ty60 U U U U U U (qL 8 [] U ?_))
 let z2:Nat×Obj:=(b2,O [I 0,I 0,I 0,.string (⟨#[]⟩:ByteArray),.slice none 0 0] 62)
 refine lp2 x.L (λi w=>[(0,.slice dK offices.length dJ),(3,Q b1),(4,Q b2),(19,.slice fY.mL x.L.length fY.m4),(20,I (x.L.length:Int)),(21,I (i:Int))]) (λw=>w.2.2.2.2) (λw=>[z2,(b1,O [I x.Kind,I x.N,I 0,.string x.Name,.slice w.2.1 w.1.length w.2.2.1] 62)]++(w.2.2.2.1)) (λi w=>cZ S2 62 w.2.2.2.2 w.1 w.2.1 w.2.2.1 w.2.2.2.1/\w.1.length<=0+i/\xM h w.2.2.2.2) (λs2 i w=>(ao.L2 rec offices (ao.K2 x)) s2 w.1) ([],none,0,[],h) hx.list.1.1 hs2 ⟨cZ.nil,lo,lf⟩ ?_ ?_
 .rintro i2 ⟨lR,rB,rA,BE,hh2⟩ CG hs6 ⟨tx,FG,hl2⟩ e
  try dsimp only at tx FG hl2
  let z5:Nat×Obj:=(b1,O [I x.Kind,I x.N,I 0,.string x.Name,.slice rB lR.length rA] 62)
  let z16:Nat×Obj:=(b2,O [I x.Kind,I x.N,I 0,.string x.Name,.slice rB lR.length rA] 62)
  refine sr (cN 1 ty62 U U U (aR 0 ty62 U U U U U U (iO (L':=[z16,z5]++(BE)) U (aI (eY SC ([z16,z5]) BE ([]) ap hM tx (λh8 hle8 sl4=>?_))))))
  have hs7:ao.F rec offices x=(qH x.Kind x.N 0 x.Name lR):=hs6
  exact ld [.agg (vB [I x.Kind,I x.N,I 0,.string x.Name,.slice rB lR.length rA])] func281 U ⟨⟨0,_,_,_,_,U,U,.inl ⟨ty62,U⟩⟩,trivial⟩ ⟨(cR.mk rB rA),congrArg (λr:Expr=>(.agg (vC r (cR.mk rB rA)).toArray:Value)) hs7.symm,(by rw[hs7];exact(show kG h8 (qH x.Kind x.N 0 x.Name lR) (cR.mk rB rA)from SH sl4))⟩
 rintro i2 ⟨lR,rB,rA,BE,hh2⟩ y2 rz2 hd2 wX uZ Fz NJ hs8 ⟨tx,FG,hl2⟩ hx2 ag2 e
 try dsimp only at tx FG hl2
 have hdy:=Sz (gj hd2)
 refine sr (tO wX U (qO 8 U (aA (iR mi ty62 (hx.list.mono SC hl2).1 uZ U U U (λ_ _ _ e=>e) (λq4 r4 A4 ok8=>?_)))))
 let z6:Nat×Obj:=(b1,O [I x.Kind,I x.N,I 0,.string x.Name,.slice rB lR.length rA] 62)
 refine dv ty62 A4 U U (aS zc62 (λb11=>aR 0 ty62 U U U U U U (iO (L':=[(b11,O (vC y2 r4) 62),z2,z6]++(BE)) U (aI ?_))))
 let z7:Nat×Obj:=(b11,O (vC y2 r4) 62)
 refine eh ([z7,z2]) mixed kr jn (λmF _=>?_)
 refine qB [0,2] U (tf 3 U U (λ_ _ hj=>i7 ty62 U (hj.nth (i:=0) U) U) ?_)
 refine lY 1 4 kr U U ?_ ?_ 
 .refine fj (zg ty60 U (oM (i:=2) U) U) (⟨jn,tn 4 U (cC Jd (hrec _ _ _ _ _ _ (hoffices.mono TW hl2) ok8 ob (Sz (gj hd2))) U (λv5 h9 hle9 hp5=>?_))⟩)
  obtain⟨rr9,rfl,ok9⟩:=hp5
  refine⟨jl hle9,tu hle9 (tn 5 U (aV (cells:=[I ((rec offices y2).Kind),I ((rec offices y2).N),I ((rec offices y2).No),.string ((rec offices y2).Name),.slice rr9.mL ((rec offices y2).L.length) rr9.m4]) mi ty62 zc62 U U kr (λb12=>⟨jn,?_⟩)))⟩
  let z11:Nat×Obj:=(b12,O [I ((rec offices y2).Kind),I ((rec offices y2).N),I ((rec offices y2).No),.string ((rec offices y2).Name),.slice rr9.mL ((rec offices y2).L.length) rr9.m4] 62)
  exact tn 6 U (cd Ua ([z11,z7,z2,z6]) ([]) (λG=>[z11,z7,z2,z6]++G) ap (λ_=>ap) mi ty62 zc62 U bytes62 (tx.mono SC hle9) U U (dX 0 U (cE (R:=S2) (rec offices y2) U ⟨rr9,U,ok9⟩)) lo lo (λob6 oc6 G6 gr6=>⟨jn,qB [7] U (tn 8 U (lx 3 ty60 U U U U U U (⟨jn,aG kr (qT 2 U (oi i2 U (qO 2 U (ba (L':=[z2,(b1,O [I x.Kind,I x.N,I 0,.string x.Name,.slice ob6 ((lR++[(rec offices y2)]).length) oc6] 62)]++G6) js (ag2 ((lR++[(rec offices y2)]),ob6,oc6,G6,h9) hs8 ⟨gr6,lo,(hl2.t hle9)⟩)))))⟩)))⟩))
 refine cC Jd (hrec _ _ _ _ _ _ (hoffices.mono TW hl2) ok8 ob (Sz (gj hd2))) U (λv6 h10 hle10 hp6=>?_)
 obtain⟨rr10,rfl,ok10⟩:=hp6
 refine⟨jl hle10,tu hle10 ?_⟩
 refine lY 1 5 kr U U ?_ ?_ 
 .refine fj (zg ty60 U (oM (i:=2) U) U) (⟨jn,tn 5 U (aV (cells:=[I ((rec offices y2).Kind),I ((rec offices y2).N),I ((rec offices y2).No),.string ((rec offices y2).Name),.slice rr10.mL ((rec offices y2).L.length) rr10.m4]) mi ty62 zc62 U U kr (λb13=>⟨jn,?_⟩))⟩)
  let z9:Nat×Obj:=(b13,O [I ((rec offices y2).Kind),I ((rec offices y2).N),I ((rec offices y2).No),.string ((rec offices y2).Name),.slice rr10.mL ((rec offices y2).L.length) rr10.m4] 62)
  exact tn 6 U (cd Ua ([z9,z7,z2,z6]) ([]) (λG=>[z9,z7,z2,z6]++G) ap (λ_=>ap) mi ty62 zc62 U bytes62 (tx.mono SC hle10) U U (dX 0 U (cE (R:=S2) (rec offices y2) U ⟨rr10,U,ok10⟩)) lo lo (λob7 oc7 G7 gr7=>⟨jn,qB [7] U (tn 8 U (lx 3 ty60 U U U U U U (⟨jn,aG kr (qT 2 U (oi i2 U (qO 2 U (ba (L':=[z2,(b1,O [I x.Kind,I x.N,I 0,.string x.Name,.slice ob7 ((lR++[(rec offices y2)]).length) oc7] 62)]++G7) js (ag2 ((lR++[(rec offices y2)]),ob7,oc7,G7,h10) hs8 ⟨gr7,lo,(hl2.t hle10)⟩)))))⟩)))⟩))
 refine aV (cells:=[I ((rec offices y2).Kind),I ((rec offices y2).N),I ((rec offices y2).No),.string ((rec offices y2).Name),.slice rr10.mL ((rec offices y2).L.length) rr10.m4]) mi ty62 zc62 U U kr (λb14=>⟨jn,tn 1 U (fj (zg ty60 U (oM (i:=3) U) U) (⟨jn,?_⟩))⟩)
 let z10:Nat×Obj:=(b14,O [I ((rec offices y2).Kind),I ((rec offices y2).N),I ((rec offices y2).No),.string ((rec offices y2).Name),.slice rr10.mL ((rec offices y2).L.length) rr10.m4] 62)
 exact tn 6 U (cd Ua ([z10,z7,z2,z6]) ([]) (λG=>[z10,z7,z2,z6]++G) ap (λ_=>ap) mi ty62 zc62 U bytes62 (tx.mono SC hle10) U U (dX 0 U (cE (R:=S2) (rec offices y2) U ⟨rr10,U,ok10⟩)) lo lo (λob8 oc8 G8 gr8=>⟨jn,qB [7] U (tn 8 U (lx 3 ty60 U U U U U U (⟨jn,aG kr (qT 2 U (oi i2 U (qO 2 U (ba (L':=[z2,(b1,O [I x.Kind,I x.N,I 0,.string x.Name,.slice ob8 ((lR++[(rec offices y2)]).length) oc8] 62)]++G8) js (ag2 ((lR++[(rec offices y2)]),ob8,oc8,G8,h10) hs8 ⟨gr8,lo,(hl2.t hle10)⟩)))))⟩)))⟩))
theorem pw:∀(m:Nat)(h:HF)(offices:List ByteArray)(dK:Option Addr)(dJ:Nat)(x:Expr)(fY:cR)(_:x.dep<=m)(hoffices:SlC Ta h dK dJ offices)(hx:kG h x fY)(hsz:x.dep<=2000000),i9 prog 281 [.slice dK offices.length dJ,.agg (vC x fY).toArray] h (λv h'=>∃(rr0:cR),v=.agg (vC (ao.go m offices x) rr0).toArray/\kG h' (ao.go m offices x) rr0)
 |0,h,offices,dK,dJ,x,fY,hd,hoffices,hx,hsz=>absurd hd (Nat.not_le.2 (Expr.mw _))
 |m+1,h,offices,dK,dJ,x,fY,hd,hoffices,hx,hsz=>xO (ao.go m) h offices dK dJ x fY (λqh_ qoffices j6 j5 qx lE qhoffices qhx qhsz qd=>pw m qh_ qoffices j6 j5 qx lE ob qhoffices qhx qhsz) hoffices hx hsz
theorem rY(h:HF)(offices:List ByteArray)(dK:Option Addr)(dJ:Nat)(x:Expr)(fY:cR)(hoffices:SlC Ta h dK dJ offices)(hx:kG h x fY)(hsz:x.dep<=2000000):i9 prog 281 [.slice dK offices.length dJ,.agg (vC x fY).toArray] h (λv h'=>∃(rr0:cR),v=.agg (vC (ao offices x) rr0).toArray/\kG h' (ao offices x) rr0):=pw _ h offices dK dJ x fY (vG _) hoffices hx hsz
theorem zq(h:HF)(p:Policy)(gQ:eQ)(hp:kN h p gQ)(hsm:smP p)(hk:Kinds h):i9 prog 184 [.agg (xE p gQ).toArray] h (λv h'=>∃(rr0:eQ),v=.tuple #[.agg (xE ((ek p).1) rr0).toArray,I ((ek p).2)]/\kN h' ((ek p).1) rr0):=by
 refine cH func184 U ntmps184 U λX hM hX=>?_
 have hs0:=@rfl _ (ek p)
 have hsc:=hsm.change
 have hsr:=hsm.rules
 refine sr (bS (λb1=>aS zc64 (λb2=>qO 4 U (aO 1 U hM (λh1 hle1 hb1=>aA (eI U U (ai (v:=I (attR (dH p))) call276 (zp h1 (.func (.func 277) #[] #[Q b1]) (dH p) (nO (args:=[]) (cap:=[Q b1]) call277 (wQ h1 p gQ ⟨b1,0,none⟩ (hp.mono hle1) (cz hb1) (by first|assumption|omega) (hk.mono hle1)))) U (qO 8 U (ae hs0 U (λc1 hs1=>?_) (λc1 hs2=>?_))))))))))
 .refine sr (cN 0 ty64 U U U (av (aR 0 ty64 U U U U U U (an ?_))))
  have hs3:ek p=((zP (⟨#[]⟩:ByteArray) ([]) ([]) ([]) (qH 0 0 0 (⟨#[]⟩:ByteArray) ([])) 0),(attR (dH p))):=hs1
  exact ld [.agg (vB [.string (⟨#[]⟩:ByteArray),.slice none 0 0,.slice none 0 0,.slice none 0 0,I 0,I 0,I 0,.string (⟨#[]⟩:ByteArray),.slice none 0 0,I 0]),I (attR (dH p))] func184 U ⟨⟨0,_,_,_,_,U,U,.inl ⟨ty64,U⟩⟩,U,trivial⟩ ⟨(eQ.mk none 0 none 0 none 0 (cR.mk none 0)),congrArg (λr:(Policy×Int)=>(.tuple #[.agg (xE r.1 (eQ.mk none 0 none 0 none 0 (cR.mk none 0))).toArray,I r.2]:Value)) hs3.symm,(by rw[hs3];exact(show kN h1 (zP (⟨#[]⟩:ByteArray) ([]) ([]) ([]) (qH 0 0 0 (⟨#[]⟩:ByteArray) ([])) 0) (eQ.mk none 0 none 0 none 0 (cR.mk none 0))from⟨vE,vE,vE,(show kG h1 (qH 0 0 0 (⟨#[]⟩:ByteArray) ([])) (cR.mk none 0)from SH vE)⟩))⟩
 refine qT 3 U (dv ty64 (cz hb1) U U (aR 0 ty64 U U U U U U (qL 4 [] U (cK 0 ty59 U U U U U U (qL 5 [] U (jk (j:=3) ty59 (cz hb1) U U (qL 3 [] U ?_)))))))
 refine lp2 p.Rules (λi w=>[(1,Q b1),(2,Q b2),(15,.slice gQ.ot p.Rules.length gQ.oq),(16,I (p.Rules.length:Int)),(17,I (i:Int))]) (λw=>w.2.2.2.2) (λw=>[(b2,O [.string p.Name,.slice gQ.jj p.Kinds.length gQ.ji,.slice gQ.gE p.Offices.length gQ.gD,.slice w.2.1 w.1.length w.2.2.1,I p.Change.Kind,I p.Change.N,I p.Change.No,.string p.Change.Name,.slice gQ.Change.mL p.Change.L.length gQ.Change.m4,I p.Mode] 64)]++(w.2.2.2.1)) (λi w=>cZ Rule.rp 79 w.2.2.2.2 w.1 w.2.1 w.2.2.1 w.2.2.2.1/\w.1.length<=0+i/\xM h1 w.2.2.2.2) (λs1 i w=>(ek.L1 p (ek.K1 p)) s1 i w.1) ([],none,0,[],h1) ((hp.Rules.mono TY hle1).1.1) hs2 ⟨cZ.nil,lo,lf⟩ ?_ ?_
 .rintro i1 ⟨nK,tB,tA,BJ,hh1⟩ ft hs4 ⟨yw,FL,hl1⟩ e
  try dsimp only at yw FL hl1
  refine qK 3 [] U (jk (j:=2) ty58 ((cz hb1).mono hl1) U U (qL 1 [] U (Ay (j:=4) ty62 ((cz hb1).mono hl1) U U (aA (cC Jd (rY _ _ _ _ _ _ (hp.Offices.mono TW (hle1.t hl1)) (hp.Change.mono (hle1.t hl1)) ob) U (λv3 h5 hle5 hp3=>?_))))))
  obtain⟨rr4,rfl,ok4⟩:=hp3
  let z2:Nat×Obj:=(b2,O [.string p.Name,.slice gQ.jj p.Kinds.length gQ.ji,.slice gQ.gE p.Offices.length gQ.gD,.slice tB nK.length tA,I ((ao p.Offices p.Change).Kind),I ((ao p.Offices p.Change).N),I ((ao p.Offices p.Change).No),.string ((ao p.Offices p.Change).Name),.slice rr4.mL ((ao p.Offices p.Change).L.length) rr4.m4,I p.Mode] 64)
  refine qL 1 [] U (cK 0 ty62 U U U U U U (qO 3 U (cN 0 ty64 U U U (aR 0 ty64 U U U U U U (iO (L':=[z2]++(BJ)) U (an (eY TY ([z2]) BJ ([]) ap hM (yw.mono TY hle5) (λh6 hle6 sl2=>?_))))))))
  have hs5:ek p=((zP p.Name p.Kinds p.Offices nK (qH ((ao p.Offices p.Change).Kind) ((ao p.Offices p.Change).N) ((ao p.Offices p.Change).No) ((ao p.Offices p.Change).Name) ((ao p.Offices p.Change).L)) p.Mode),0):=hs4
  exact ld [.agg (xE (zP p.Name p.Kinds p.Offices nK (qH ((ao p.Offices p.Change).Kind) ((ao p.Offices p.Change).N) ((ao p.Offices p.Change).No) ((ao p.Offices p.Change).Name) ((ao p.Offices p.Change).L)) p.Mode) (eQ.mk gQ.jj gQ.ji gQ.gE gQ.gD tB tA (cR.mk rr4.mL rr4.m4))).toArray,I 0] func184 U ⟨⟨0,_,_,_,_,U,U,.inl ⟨ty64,U⟩⟩,U,trivial⟩ ⟨(eQ.mk gQ.jj gQ.ji gQ.gE gQ.gD tB tA (cR.mk rr4.mL rr4.m4)),congrArg (λr:(Policy×Int)=>(.tuple #[.agg (xE r.1 (eQ.mk gQ.jj gQ.ji gQ.gE gQ.gD tB tA (cR.mk rr4.mL rr4.m4))).toArray,I r.2]:Value)) hs5.symm,(by rw[hs5];exact(show kN h6 (zP p.Name p.Kinds p.Offices nK (qH ((ao p.Offices p.Change).Kind) ((ao p.Offices p.Change).N) ((ao p.Offices p.Change).No) ((ao p.Offices p.Change).Name) ((ao p.Offices p.Change).L)) p.Mode) (eQ.mk gQ.jj gQ.ji gQ.gE gQ.gD tB tA (cR.mk rr4.mL rr4.m4))from⟨(hp.Kinds.mono TW (((hle1.t hl1).t hle5).t hle6)),(hp.Offices.mono TW (((hle1.t hl1).t hle5).t hle6)),sl2,(show kG h6 (qH ((ao p.Offices p.Change).Kind) ((ao p.Offices p.Change).N) ((ao p.Offices p.Change).No) ((ao p.Offices p.Change).Name) ((ao p.Offices p.Change).L)) (cR.mk rr4.mL rr4.m4)from SH (ok4.list.mono SC hle6))⟩))⟩
 rintro i1 ⟨nK,tB,tA,BJ,hh1⟩ y1 rz1 hd1 cY aJ dY gy hs6 ⟨yw,FL,hl1⟩ hx1 ag1 e
 try dsimp only at yw FL hl1
 have hsy:=hsm.2.1 y1 (gj hd1)
 refine sr (tO cY U (qO 9 U (aA (iR vq ty79 (hp.Rules.mono TY (hle1.t hl1)).1 aJ U U U (λ_ _ _ e=>e) (λq2 r2 A2 ok5=>?_)))))
 let z1:Nat×Obj:=(b2,O [.string p.Name,.slice gQ.jj p.Kinds.length gQ.ji,.slice gQ.gE p.Offices.length gQ.gD,.slice tB nK.length tA,I p.Change.Kind,I p.Change.N,I p.Change.No,.string p.Change.Name,.slice gQ.Change.mL p.Change.L.length gQ.Change.m4,I p.Mode] 64)
 refine dv ty79 A2 U U (aS zc79 (λb5=>gu (aR 0 ty79 U U U U U U (iO (L':=[(b5,O (Ue y1 r2) 79),z1]++(BJ)) U (qL 5 [] U (jk (j:=2) ty58 ((cz hb1).mono hl1) U U (qL 1 [] U (cN 0 ty62 U U U (aA (cC Jd (rY _ _ _ _ _ _ (hp.Offices.mono TW (hle1.t hl1)) ok5.Expr ob) U (λv4 h7 hle7 hp4=>?_)))))))))))
 obtain⟨rr6,rfl,ok6⟩:=hp4
 refine qL 1 [] U (cK 0 ty3 U U U U U U (qL 1 [] U (cK 0 ty62 U U U U U U (qL 4 [1] U (cN 0 ty79 U U U (aA (aV (cells:=[.string y1.Kind,I (i1:Int),I y1.Think,I ((ao p.Offices y1.Expr).Kind),I ((ao p.Offices y1.Expr).N),I ((ao p.Offices y1.Expr).No),.string ((ao p.Offices y1.Expr).Name),.slice rr6.mL ((ao p.Offices y1.Expr).L.length) rr6.m4]) vq ty79 zc79 U U kr (λb6=>?_))))))))
 let z3:Nat×Obj:=(b6,O [.string y1.Kind,I (i1:Int),I y1.Think,I ((ao p.Offices y1.Expr).Kind),I ((ao p.Offices y1.Expr).N),I ((ao p.Offices y1.Expr).No),.string ((ao p.Offices y1.Expr).Name),.slice rr6.mL ((ao p.Offices y1.Expr).L.length) rr6.m4] 79)
 let z4:Nat×Obj:=(b5,O [.string y1.Kind,I (i1:Int),I y1.Think,I ((ao p.Offices y1.Expr).Kind),I ((ao p.Offices y1.Expr).N),I ((ao p.Offices y1.Expr).No),.string ((ao p.Offices y1.Expr).Name),.slice rr6.mL ((ao p.Offices y1.Expr).L.length) rr6.m4] 79)
 refine aA (cd Rule.eo ([z3,z4,z1]) ([]) (λG=>[z3,z4,z1]++G) ap (λ_=>ap) vq ty79 zc79 U bytes79 (yw.mono TY hle7) U U (dX 0 U (cE (R:=Rule.rp) (TE y1.Kind (i1:Int) y1.Think (qH ((ao p.Offices y1.Expr).Kind) ((ao p.Offices y1.Expr).N) ((ao p.Offices y1.Expr).No) ((ao p.Offices y1.Expr).Name) ((ao p.Offices y1.Expr).L))) U ⟨(Ce.mk (cR.mk rr6.mL rr6.m4)),U,(show Rule.ok h7 (TE y1.Kind (i1:Int) y1.Think (qH ((ao p.Offices y1.Expr).Kind) ((ao p.Offices y1.Expr).N) ((ao p.Offices y1.Expr).No) ((ao p.Offices y1.Expr).Name) ((ao p.Offices y1.Expr).L))) (Ce.mk (cR.mk rr6.mL rr6.m4))from⟨(show kG h7 (qH ((ao p.Offices y1.Expr).Kind) ((ao p.Offices y1.Expr).N) ((ao p.Offices y1.Expr).No) ((ao p.Offices y1.Expr).Name) ((ao p.Offices y1.Expr).L)) (cR.mk rr6.mL rr6.m4)from SH ok6.list)⟩)⟩)) lo lo (λob2 oc2 G2 gr2=>qL 1 [] U (cK 2 ty59 U U U U U U (qO 3 U (oi i1 U (qO 2 U (ba (L':=[(b2,O [.string p.Name,.slice gQ.jj p.Kinds.length gQ.ji,.slice gQ.gE p.Offices.length gQ.gD,.slice ob2 ((nK++[(TE y1.Kind (i1:Int) y1.Think (qH ((ao p.Offices y1.Expr).Kind) ((ao p.Offices y1.Expr).N) ((ao p.Offices y1.Expr).No) ((ao p.Offices y1.Expr).Name) ((ao p.Offices y1.Expr).L)))]).length) oc2,I p.Change.Kind,I p.Change.N,I p.Change.No,.string p.Change.Name,.slice gQ.Change.mL p.Change.L.length gQ.Change.m4,I p.Mode] 64)]++G2) js ?_)))))))
 exact ag1 ((nK++[(TE y1.Kind (i1:Int) y1.Think (qH ((ao p.Offices y1.Expr).Kind) ((ao p.Offices y1.Expr).N) ((ao p.Offices y1.Expr).No) ((ao p.Offices y1.Expr).Name) ((ao p.Offices y1.Expr).L)))]),ob2,oc2,G2,h7) hs6 ⟨gr2,lo,(hl1.t hle7)⟩
theorem rn(h:HF)(offices:List ByteArray)(dK:Option Addr)(dJ:Nat)(x:Expr)(fY:cR)(hoffices:SlC Ta h dK dJ offices)(hx:kG h x fY)(hsz:x.dep<=1500000):Ret prog 185 [.slice dK offices.length dJ,.agg (vC x fY).toArray] h (.bool (bO offices x)):=by
 refine cH Oq U ntmps185 U λX hM hX=>?_
 have hs0:=@rfl _ (bO offices x)
 refine sr (bS (λb1=>bS (λb2=>aS zc4 (λb3=>qO 4 U (cN 1 ty62 U U U (aA (cC Mi (nD _ _ _ 1 hx ob) U (λv1 h1 hle1 hp1=>?_))))))))
 obtain⟨_,rfl,mo1⟩:=hp1
 refine qO 2 U (ej ?_)
 let z1:Nat×Obj:=(b1,O [.slice dK offices.length dJ] 58)
 let z2:Nat×Obj:=(b2,O (vC x fY) 62)
 refine bW (L':=([(b3,O [.bool false] 4),z2,z1])++markB []) ap ?_
 refine ke (it:=v1) (xs:=(bp x 1)) (ι:=HF) [] (λi=>i) (λi=>[(b3,O [.bool false] 4),z2,z1]) (λs i=>bO offices x=((bO.L1 offices (bO.K1)) s)/\xM h1 i) (λi=>bO offices x=false/\xM h1 i) (λ_=>False) 0 (λ_ _ _=>False) h1 Oq U mo1 U oH (λ_ _ _ _ _ hq=>hq) U (show[(b3,O [.bool false] 4),z2,z1]=_ from U) ⟨hs0,lf⟩ ?_ ?_ ?_ ?_ ?_
 .rintro l1 dm1 lp1 y1 rz1 vs1 hh1 hr1 X hFR1 ⟨hs1,hl1⟩ hl01 hlr1 hv1 hX hXM hlp1 nx1 rt1 ex1 pn1
  try dsimp only at hl1 hlr1
  obtain⟨rr1_0,rfl,ok1_0⟩:=hv1
  let z3:Nat×Obj:=(dm1,.deferred (some []))
  refine bW (L':=[(l1,.loop lp1),z3,(b3,O [.bool false] 4),z2,z1]++(markB [])) ap (bC (aS zc327 (λb5=>aR 0 ty327 U U U U U U (aI (j2 1 U hlp1 (qK 9 [] U (cN 0 ty62 U U U (ai call283 (oz _ _ _ ok1_0.x) U (aI (ae hs1 U (λc4 hs2=>?_) (λc4 hs3=>?_)))))))))))
  .refine qK 5 [5,0] U (ai Ov (lN _ _ _ _ y1.x.Name (hoffices.mono TW ((hle1.t hl1).t hlr1))) U (qL 10 [0] U (ae hs2 U (λc5 hs4=>?_) (λc5 hs5=>?_))))
   .exact sr (cK 3 ty4 U U U U U U (aI (ba (L':=[(l1,.loop { lp1 with state:=.busy }),z3,(b3,O [.bool false] 4),z2,z1]++(markB [])) js (bW (L':=rdH l1 dm1 lp1 (([(b3,O [.bool false] 4),z2,z1])++markB [])) ap (rt1 hr1 _ _ _ ⟨hs4,(hl1.t hlr1)⟩ lf)))))
   exact aH (eX (ba (L':=[(l1,.loop { lp1 with state:=.busy }),z3,(b3,O [.bool false] 4),z2,z1]++(markB [])) js (bW (L':=rdH l1 dm1 lp1 (([(b3,O [.bool false] 4),z2,z1])++markB [])) ap (nx1 hr1 _ _ ⟨hs5,(hl1.t hlr1)⟩ lf))))
  refine qK 9 [0] U (ae hs3 U (λc6 hs6=>?_) (λc6 hs7=>?_))
  .exact sr (cK 3 ty4 U U U U U U (aI (ba (L':=[(l1,.loop { lp1 with state:=.busy }),z3,(b3,O [.bool false] 4),z2,z1]++(markB [])) js (bW (L':=rdH l1 dm1 lp1 (([(b3,O [.bool false] 4),z2,z1])++markB [])) ap (rt1 hr1 _ _ _ ⟨hs6,(hl1.t hlr1)⟩ lf)))))
  exact aH (eX (ba (L':=[(l1,.loop { lp1 with state:=.busy }),z3,(b3,O [.bool false] 4),z2,z1]++(markB [])) js (bW (L':=rdH l1 dm1 lp1 (([(b3,O [.bool false] 4),z2,z1])++markB [])) ap (nx1 hr1 _ _ ⟨hs7,(hl1.t hlr1)⟩ lf))))
 .rintro dm1 hh1 hn1 ⟨hs8,hl1⟩ hln1 hl01
  try dsimp only at hl1 hln1
  refine bW (L':=[(b3,O [.bool false] 4),z2,z1]++(markB (dm1::[]))) ap (qT 3 U (cK 0 ty4 U U U U U U (aI ?_)))
  have hs9:bO offices x=true:=hs8
  exact bW (L':=([(b3,O [.bool true] 4),z2,z1])++markB (dm1::[])) ap (sP (dm1::[]) [.bool true] Oq U hX ⟨⟨0,_,_,_,_,U,U,.inr ⟨_,ty4,U⟩⟩,trivial⟩ (cs hs9))
 .rintro dm1 hh1 hn1 ⟨hs10,hl1⟩ hln1 hl01
  try dsimp only at hl1 hln1
  refine bW (L':=[(b3,O [.bool false] 4),z2,z1]++(markB (dm1::[]))) ap ?_
  have hs11:bO offices x=false:=hs10
  exact bW (L':=([(b3,O [.bool false] 4),z2,z1])++markB (dm1::[])) ap (sP (dm1::[]) [.bool false] Oq U hX ⟨⟨0,_,_,_,_,U,U,.inr ⟨_,ty4,U⟩⟩,trivial⟩ (cs hs11))
 .exact xf
 exact xf
theorem ug(h:HF)(p:Policy)(gQ:eQ)(hp:kN h p gQ)(hsm:smP p)(hk:Kinds h):Ret prog 94 [.agg (xE p gQ).toArray] h (I (dh p)):=by
 refine sT func94 U ntmps94 U λX hM hX hF=>?_
 have hs0:=@rfl _ (dh p)
 have hsc:=hsm.change
 refine sr (bS (λb1=>qO 5 U (cN 0 ty64 U U U (aA (cC call184 (zq _ _ _ hp ob hk) U (λv1 h1 hle1 hp1=>?_))))))
 obtain⟨rr1,rfl,ok1⟩:=hp1
 refine qO 10 U (ae hs0 U (λc1 hs1=>?_) (λc1 hs2=>?_))
 .exact sr (qO 3 U (nretP [I ((ek p).2)] (ci hs1)))
 refine qK 9 [0] U ?_
 refine lp0 p.Rules (λi=>[(1,Q b1),(14,.slice gQ.ot p.Rules.length gQ.oq),(15,I (p.Rules.length:Int)),(16,I (i:Int))]) ([(b1,O (xE p gQ) 64)]) (λs1 i=>(dh.L1 p (dh.K1 p)) s1 i) ((hp.Rules.mono TY hle1).1.1) hs2 ?_ ?_
 .rintro i1 ft hs4 e
  refine qK 6 [0] U (cN 0 ty62 U U U (ai call185 (rn _ _ _ _ _ _ (hp.Offices.mono TW hle1) (hp.Change.mono hle1) ob) U (qO 2 U (ae hs4 U (λc2 hs5=>?_) (λc2 hs6=>?_)))))
  .exact sr (an (nretP [I 200] (ci hs5)))
  exact aH (qT 4 U (nretP [I 0] (ci hs6)))
 rintro i1 y1 rz1 hd1 cY aJ dY gy hs9 hx1 ag1 e
 have hsy:=hsm.2.1 y1 (gj hd1)
 refine sr (tO cY U (qO 9 U (aA (iR vq ty79 (hp.Rules.mono TY hle1).1 aJ U U U (λ_ _ _ e=>e) (λq2 r2 A2 ok3=>dv ty79 A2 U U (aS zc79 (λb3=>gu (aR 0 ty79 U U U U U U (qL 8 [0] U (bL 7 [25,26,27,28,29,30,31,32] 25 32 (!(bO p.Offices y1.Expr)) U (λc3 hk1=>?_) (λe=>?_)))))))))))
 .exact qL 3 [1] U (cN 0 ty62 U U U (ai call185 (rn _ _ _ _ _ _ (hp.Offices.mono TW hle1) ok3.Expr ob) U (qO 2 U (hk1 _ U))))
 refine aI (ae hs9 U (λc4 hs10=>?_) (λc4 hs11=>?_))
 .exact sr (an (nretP [I 200] (ci hs10)))
 exact aH (qT 2 U (oi i1 U (qO 2 U (ba (L':=[(b1,O (xE p gQ) 64)]) js (ag1 hs11)))))
theorem ru(h:HF)(l:List Version)(dU:Option Addr)(dT:Nat)(hl:SlC Version.rp h dU dT l)(hsm:smV l)(hk:Kinds h):Ret prog 69 [.slice dU l.length dT] h (I (bG l)):=by
 refine sT func69 U ntmps69 U λX hM hX hF=>?_
 have hs0:=@rfl _ (bG l)
 have hsl:=hsm.len
 refine qK 11 [] U (ae hs0 U (λc1 hs1=>?_) (λc1 hs2=>?_))
 .have c1p:=of_decide_eq_true c1
  exact sr (an (nretP [I 2] (ci hs1)))
 have c1p:=of_decide_eq_false c1
 refine qK 12 [] U ?_
 refine lp1 l (λi w=>[(3,I w),(9,.slice dU l.length dT),(10,I (l.length:Int)),(11,I (i:Int))]) ([]) (λs1 i w=>(bG.L1 (bG.K1)) s1 w) (-1) hl.1.1 hs2 ?_ ?_
 .rintro i1 iC ft hs4 e
  exact sr (an (nretP [I 0] (ci hs4)))
 rintro i1 iC y1 rz1 hd1 cY aJ dY gy hs6 hx1 ag1 e
 have hsy:=hsm.2 y1 (gj hd1)
 refine sr (tO cY U (qO 8 U (aA (iR xg ty105 hl.1 aJ U U U (λ_ _ _ e=>e) (λq2 r2 A2 ok2=>dv ty105 A2 U U (aS zc105 (λb2=>aR 0 ty105 U U U U U U (qL 8 [0] U (ai AT (gT h y1.No (qE .i64 (iC+1)) 1048576) U (qO 2 U (bL 5 [21,22,23,24,25,26] 21 26 (!(aM y1.At 0 1099511627775)) U (λc2 hk1=>?_) (λe=>?_))))))))))))
 .exact qL 2 [0] U (ai AT (gT h y1.At 0 1099511627775) U (qO 2 U (hk1 _ U)))
 refine av (bL 5 [27,28,29,30,31,32] 27 32 (!(aM y1.Known 0 1099511627775)) U (λc3 hk2=>?_) (λe=>?_))
 .exact qL 2 [0] U (ai AT (gT h y1.Known 0 1099511627775) U (qO 2 U (hk2 _ U)))
 refine av (bL 5 [33,34,35,36,37,38] 33 38 ((dh y1.Policy) != 0) U (λc4 hk3=>?_) (λe=>?_))
 .exact qL 1 [] U (cN 0 ty64 U U U (ai call94 (ug _ _ _ ok2.Policy ob hk) U (qO 2 U (hk3 _ U))))
 refine aI (ae hs6 U (λc5 hs7=>?_) (λc5 hs8=>?_))
 .exact sr (an (nretP [I 200] (ci hs7)))
 exact qK 8 [0] U (oi i1 U (qO 2 U (ba (L':=[]) js (ag1 y1.No hs8))))
theorem pX(h:HF)(l:List Document)(dU:Option Addr)(dT:Nat)(hl:SlC kV h dU dT l):i9 prog 150 [.slice dU l.length dT] h (λv h'=>∃(rr0:ou),v=.agg (gN.cells (ay l) rr0).toArray/\gN.ok h' (ay l) rr0):=by
 refine cH func150 U ntmps150 U λX hM hX=>?_
 have hs0:=@rfl _ (ay l)
 refine sr (aS zc228 (λb1=>qO 4 U (aA (oK (λb2=>aA (e9 (cells:=[.slice dU l.length dT,.map (some b2)]) (places:=[(0,1),(1,1)]) underlying228 zc228 kr kr (aS zc228 (λb3=>aR 0 ty228 U U U U U U (qL 8 [] U ?_)))))))))
 let z1:Nat×Obj:=(b3,O [.slice dU l.length dT,.map (some b2)] 228)
 refine lp2 l (λi w=>[(2,Q b1),(3,Q b3),(9,.slice dU l.length dT),(10,I (l.length:Int)),(11,I (i:Int))]) (λ_=>h) (λw=>[z1,(b2,w.2),(b1,O [.slice none 0 0,.map none] 228)]) (λi w=>jY (zD .i64) wm h w.2 w.1/\w.1.length<=0+i) (λs1 i w=>(ay.L1 (ay.K1 l)) s1 i w.1) ([],.map #[] 0) hl.1.1 hs0 ⟨(jY.nil (enc:=(zD .i64)) (V:=wm) (h:=h)),lc⟩ ?_ ?_
 .rintro i1 ⟨bN,dS⟩ ft hs1 ⟨gG,FM⟩ e
  refine sr (cN 0 ty228 U U U (aR 2 ty228 U U U U U U (aI (eC 1 U hM (λh2 hle2 hb2=>?_)))))
  have mc2:tQ (zD .i64) wm h2 b2 bN:=⟨_,hb2,gG.mono wm.mono hle2⟩
  have hs2:ay l=(gN.mk l bN):=hs1
  exact ld [.agg (vB [.slice dU l.length dT,.map (some b2)])] func150 U ⟨⟨1,_,_,_,_,U,U,.inl ⟨ty228,U⟩⟩,trivial⟩ ⟨(ou.mk dU dT b2),congrArg (λr:gN=>(.agg (gN.cells r (ou.mk dU dT b2)).toArray:Value)) hs2.symm,(by rw[hs2];exact(show gN.ok h2 (gN.mk l bN) (ou.mk dU dT b2)from⟨(hl.mono vL hle2),mc2⟩))⟩
 rintro i1 ⟨bN,dS⟩ y1 rz1 hd1 cY aJ dY gy hs3 ⟨gG,FM⟩ hx1 ag1 e
 exact sr (tO cY U (qO 9 U (aA (iR sf ty51 hl.1 aJ U U U (λ_ _ _ e=>e) (λq2 r2 A2 ok2=>dv ty51 A2 U U (aS zc51 (λb5=>gu (aR 0 ty51 U U U U U U (qL 7 [1,0] U (aA (ll 2 (k:=y1.No) (x:=(i1:Int)) AS (fU ox) U gG U U U (λmo2 hm2=>qO 3 U (oi i1 U (qO 2 U (ba (L':=[z1,(b2,mo2),(b1,O [.slice none 0 0,.map none] 228)]) js (ag1 ((mput bN y1.No (i1:Int)),mo2) hs3 ⟨hm2,(by have:=nu bN y1.No (i1:Int);first|omega|(simp only[jC,xA]at *;omega))⟩))))))))))))))))
theorem nM(h:HF)(t:Int)  : Ret prog 125 [I t] h (.bool (ga t)):=by
 refine sT func125 U ntmps125 U λX hM hX hF=>?_
 have hs0:=@rfl _ (ga t)
 refine qT 9 U (aU 3 [5,6,7,8] 5 8 (decide (t<1099511627776)) U (λc1 hk1=>?_) (λe=>?_))
 .exact av (qO 2 U (hk1 _ U))
 exact an (nretP [.bool (decide (0<=t)&&decide (t<1099511627776))] (cs hs0))
theorem pJ(h:HF)(l:List Int)(dU:Option Addr)(dT:Nat)(limit:Int)(hl:SlC kB h dU dT l):Ret prog 238 [.slice dU l.length dT,I limit] h (.bool (dM l limit)):=by
 refine sT func238 U ntmps238 U λX hM hX hF=>?_
 have hs0:=@rfl _ (dM l limit)
 refine qK 15 [] U ?_
 refine lp1 l (λi w=>[(0,.slice dU l.length dT),(1,I limit),(5,I w),(8,.slice dU l.length dT),(9,I (l.length:Int)),(10,I (i:Int))]) ([]) (λs1 i w=>(dM.L1 limit (dM.K1 l)) s1 w) (-1) hl.1.1 hs0 ?_ ?_
 .rintro i1 jm ft hs1 e
  exact qK 7 [] U (nretP [.bool (decide ((l.length:Int)<=16))] (cs hs1))
 rintro i1 jm y1 rz1 hd1 cY aJ dY gy hs3 hx1 ag1 e
 refine sr (tO cY U (qO 8 U (aA (iF (λy=>[I y]) dy ty3 hl.1 aJ U U U (λq2 A2=>dD ty3 A2 U (qO 9 U (bL 4 [17,18,19,20,21] 17 21 (decide (limit<=y1)) U (λc1 hk1=>?_) (λe=>?_))))))))
 .exact av (qO 3 U (hk1 _ U))
 refine aI (ae hs3 U (λc2 hs4=>?_) (λc2 hs5=>?_))
 .exact sr (an (nretP [.bool false] (cs hs4)))
 exact aH (qT 6 U (oi i1 U (qO 2 U (ag1 y1 hs5))))
theorem AK(h:HF)(d:Document)(CR:jZ)(hd:SG h d CR):Ret prog 151 [.agg (qP d CR).toArray] h (.bool (ib d)):=by
 refine sT func151 U ntmps151 U λX hM hX hF=>?_
 have hs0:=@rfl _ (ib d)
 refine sr (bS (λb1=>qL 8 [0] U (aU 4 [7,8,9,10,11] 7 11 (decide (d.No<4096)) U (λc1 hk1=>?_) (λe=>?_))))
 .exact qL 4 [0] U (hk1 _ U)
 refine av (aU 4 [12,13,14,15,16] 12 16 (ga d.At) U (λc2 hk2=>?_) (λe=>?_))
 .exact qL 2 [0] U (ai Oo (nM h d.At) U (eE U (hk2 _ U)))
 refine av (aU 4 [17,18,19,20,21] 17 21 (decide (0<=d.Kind)) U (λc3 hk3=>?_) (λe=>?_))
 .exact qL 4 [0] U (hk3 _ U)
 refine av (aU 4 [22,23,24,25,26] 22 26 (decide (d.Kind<16)) U (λc4 hk4=>?_) (λe=>?_))
 .exact qL 4 [0] U (hk4 _ U)
 refine av (aU 4 [27,28,29,30,31] 27 31 (decide (0<=d.Value)) U (λc5 hk5=>?_) (λe=>?_))
 .exact qL 4 [0] U (hk5 _ U)
 refine av (aU 4 [32,33,34,35,36] 32 36 (decide (d.Value<=1099511627776)) U (λc6 hk6=>?_) (λe=>?_))
 .exact qL 4 [0] U (hk6 _ U)
 refine qO 6 U (aU 4 [38,39,40,41,42] 38 42 (decide (0<=d.From)) U (λc7 hk7=>?_) (λe=>?_))
 .exact qL 4 [0] U (hk7 _ U)
 refine av (aU 6 [43,44,45,46,47,48,49] 43 49 (decide (d.From<d.Until)) U (λc8 hk8=>?_) (λe=>?_))
 .exact qL 6 [0,0] U (hk8 _ U)
 refine av (aU 4 [50,51,52,53,54] 50 54 (decide (d.Until<=1099511627776)) U (λc9 hk9=>?_) (λe=>?_))
 .exact qL 4 [0] U (hk9 _ U)
 refine av (aU 4 [55,56,57,58,59] 55 59 (dM d.Parties 1048577) U (λc10 hk10=>?_) (λe=>?_))
 .exact qL 2 [0] U (ai call238 (pJ _ _ _ _ 1048577 hd.Parties) U (eE U (hk10 _ U)))
 refine av (aU 6 [60,61,62,63,64,65,66] 60 66 (dM d.Revokes d.No) U (λc11 hk11=>?_) (λe=>?_))
 .exact qL 4 [0,0] U (ai call238 (pJ _ _ _ _ d.No hd.Revokes) U (eE U (hk11 _ U)))
 refine av (aU 6 [67,68,69,70,71,72,73] 67 73 (dM d.Needs d.No) U (λc12 hk12=>?_) (λe=>?_))
 .exact qL 4 [0,0] U (ai call238 (pJ _ _ _ _ d.No hd.Needs) U (eE U (hk12 _ U)))
 exact an (nretP [.bool ((((((((((((decide (0<=d.No)&&decide (d.No<4096))&&(ga d.At))&&decide (0<=d.Kind))&&decide (d.Kind<16))&&decide (0<=d.Value))&&decide (d.Value<=1099511627776))&&decide (0<=d.From))&&decide (d.From<d.Until))&&decide (d.Until<=1099511627776))&&(dM d.Parties 1048577))&&(dM d.Revokes d.No))&&(dM d.Needs d.No))] (cs hs0))
theorem oI(h:HF)(no:Int)(v0:gN)(N5:ou)(v0_q:Addr)(hv0:gN.ok h v0 N5)(av0:At h v0_q (gN.cells v0 N5)):Ret prog 239 [I no,.pointer (some v0_q)] h (.bool (eO no v0)):=by
 refine sT func239 U ntmps239 U λX hM hX hF=>?_
 have hs0:=@rfl _ (eO no v0)
 refine qK 7 [] U (jk (j:=1) ty190 av0 U U (av ?_))
 obtain⟨o1,hb1,hm1⟩:=hv0.at_
 refine aA (tT (k:=no) AS (fU ox) hb1 hm1 (fp zv3) (show wm _ (I 0) 0 from U) U U (λv1 hv1=>?_))
 obtain rfl:=hv1
 exact av (qO 11 U (nretP [.bool (!(mhas v0.at_ no))] (cs hs0)))
theorem pI(h:HF)(s:gN)(RV:ou)(d:Document)(CR:jZ)(hs:gN.ok h s RV)(hd:SG h d CR):Ret prog 152 [.agg (gN.cells s RV).toArray,.agg (qP d CR).toArray] h (.bool (fd s d)):=by
 refine sT func152 U ntmps152 U λX hM hX hF=>?_
 have hs0:=@rfl _ (fd s d)
 refine sr (bS (λb1=>bS (λb2=>qO 4 U (aO 1 U hM (λh1 hle1 hb1=>aA (eI U U (qL 7 [0] U (ai Je (ie _ _ _ _ (λdE=>eO dE s) (.func (.func 239) #[] #[Q b1]) (hd.Revokes.mono xH hle1) (λh' dE hle=>iK call239 (oI h' dE s RV ⟨b1,0,none⟩  ((hs.mono hle1).mono hle) ((cz hb1).mono hle)))) U (qO 2 U (aU 6 [12,13,14,15,16,17,18] 12 18 (!(cI d.Needs (λdE=>eO dE s))) U (λc1 hk1=>?_) (λe=>?_)))))))))))
 .exact qL 3 [0] U (ai Je (ie _ _ _ _ (λdE=>eO dE s) (.func (.func 239) #[] #[Q b1]) (hd.Needs.mono xH hle1) (λh' dE hle=>iK call239 (oI h' dE s RV ⟨b1,0,none⟩  ((hs.mono hle1).mono hle) ((cz hb1).mono hle)))) U (qO 2 U (hk1 _ U)))
 exact an (nretP [.bool ((!(cI d.Revokes (λdE=>eO dE s)))&&(!(cI d.Needs (λdE=>eO dE s))))] (cs hs0))
theorem oX(h:HF)(l:List Document)(dU:Option Addr)(dT:Nat)(hl:SlC kV h dU dT l):Ret prog 70 [.slice dU l.length dT] h (I (aT l)):=by
 refine sT func70 U ntmps70 U λX hM hX hF=>?_
 have hs0:=@rfl _ (aT l)
 refine qK 11 [] U (ae hs0 U (λc1 hs1=>?_) (λc1 hs2=>?_))
 .have c1p:=of_decide_eq_true c1
  exact sr (an (nretP [I 2] (ci hs1)))
 have c1p:=of_decide_eq_false c1
 refine qT 4 U (aA (cC call150 (pX _ _ _ _ hl) U (λv1 h1 hle1 hp1=>?_)))
 obtain⟨rr1,rfl,ok1⟩:=hp1
 refine aS zc228 (λb1=>aR 0 ty228 U U U U U U (qL 8 [] U ?_))
 let z1:Nat×Obj:=(b1,O (gN.cells (ay l) rr1) 228)
 refine lp0 l (λi=>[(0,.slice dU l.length dT),(3,Q b1),(11,.slice dU l.length dT),(12,I (l.length:Int)),(13,I (i:Int))]) ([z1]) (λs1 i=>(aT.L1 l (aT.K1)) s1 i) ((hl.mono vL hle1).1.1) hs2 ?_ ?_
 .rintro i1 ft hs4 e
  exact sr (an (nretP [I 0] (ci hs4)))
 rintro i1 y1 rz1 hd1 cY aJ dY gy hs6 hx1 ag1 e
 refine sr (tO cY U (qO 9 U (aA (iR sf ty51 (hl.mono vL hle1).1 aJ U U U (λ_ _ _ e=>e) (λq3 r3 A3 ok4=>dv ty51 A3 U U (aS zc51 (λb3=>gu (aR 0 ty51 U U U U U U (qO 2 U ?_)))))))))
 refine m8 [(0,.slice dU l.length dT),(3,Q b1),(11,.slice dU l.length dT),(12,I (l.length:Int)),(13,I (i1:Int)),(41,.bool (((!(ib y1))||(decide (0<(i1:Int))&&decide (y1.No<=(nthI l ((i1:Int)-1)).No)))||(!(fd (ay l) y1))))] (λe=>?_) (λhk1=>?_)
 rotate_left
 .let z2:Nat×Obj:=(b3,O (qP y1 r3) 51)
  refine eh ([z2,z1]) mixed kr jn (λdt _=>?_)
  refine tf 0 U U (λ_ _ hj=>i7 ty51 U (hj.nth (i:=0) U) U) (tn 1 U (et call151 (AK _ _ _ ok4) U (⟨jn,qA [2,3] U ?_⟩)))
  refine cB 21 U (λc2=>?_) (λc2=>?_)
  .exact tk 4 U U (qR 5 19 U (aG kr (hk1 _ ⟨U,U,U,U,U,(cb (show true=(((!(ib y1))||(decide (0<(i1:Int))&&decide (y1.No<=(nthI l ((i1:Int)-1)).No)))||(!(fd (ay l) y1)))from by rw[c2]<;>rfl)),trivial⟩)))
  refine qR 4 3 U ?_
  refine cB 24 U (λc3=>?_) (λc3=>?_)
  .have c3p:=of_decide_eq_true c3
   refine qB [7] U (tf 8 U U (rj 0 ty3 U U U) (qA [9,10] U (tf 11 U U (λ_ _ _=>oy (v':=I ((i1:Int)-1)) U (j0 ob)) ?_)))
   have ho2:0<=(((i1:Int)-1):Int)/\(((i1:Int)-1):Int)<((l).length:Int):=ob
   refine j3 12 dt jn sf ty51 (hl.mono vL hle1).1 ho2 (de ho2) U U U U kr (λq4 cs4 A4 ln4 rr5=>?_)
   obtain⟨r4,rfl,ok5⟩:=rr5
   refine qB [13] U (tf 14 U U (rh ty3 A4 U) (qR 15 4 U ?_))
   refine cB 36 U (λc4=>?_) (λc4=>?_)
   .have c4p:=of_decide_eq_true c4
    exact tk 19 U U (qR 20 4 U (aG kr (hk1 _ ⟨U,U,U,U,U,(cb (show true=(((!(ib y1))||(decide (0<(i1:Int))&&decide (y1.No<=(nthI l ((i1:Int)-1)).No)))||(!(fd (ay l) y1)))from by rw[c2,c3,c4]<;>rfl)),trivial⟩)))
   have c4p:=of_decide_eq_false c4
   exact tf 19 U U (λ_ _ hj=>i7 ty228 U (hj.nth (i:=1) U) U) (tf 20 U U (λ_ _ hj=>i7 ty51 U (hj.nth (i:=0) U) U) (tn 21 U (et call152 (pI _ _ _ _ _ ok1 ok4) U (⟨jn,qA [22,23] U (aG kr (hk1 _ ⟨U,U,U,U,U,(cb (show(!(fd (ay l) y1))=(((!(ib y1))||(decide (0<(i1:Int))&&decide (y1.No<=(nthI l ((i1:Int)-1)).No)))||(!(fd (ay l) y1)))from by rw[c2,c3,c4]<;>rfl)),trivial⟩))⟩))))
  have c3p:=of_decide_eq_false c3
  exact tk 7 U U (qR 8 11 U (tf 19 U U (λ_ _ hj=>i7 ty228 U (hj.nth (i:=1) U) U) (tf 20 U U (λ_ _ hj=>i7 ty51 U (hj.nth (i:=0) U) U) (tn 21 U (et call152 (pI _ _ _ _ _ ok1 ok4) U (⟨jn,qA [22,23] U (aG kr (hk1 _ ⟨U,U,U,U,U,(cb (show(!(fd (ay l) y1))=(((!(ib y1))||(decide (0<(i1:Int))&&decide (y1.No<=(nthI l ((i1:Int)-1)).No)))||(!(fd (ay l) y1)))from by rw[c2,c3]<;>rfl)),trivial⟩))⟩))))))
 refine ae hs6 U (λc5 hs7=>?_) (λc5 hs8=>?_)
 .exact sr (an (nretP [I 170] (ci hs7)))
 exact aH (qT 2 U (oi i1 U (qO 2 U (ba (L':=[z1]) js (ag1 hs8)))))
theorem wY(h:HF)(eW:Int)(v0:Int)(v0_q:Addr)(av0:At h v0_q [I v0]):Ret prog 196 [I eW,.pointer (some v0_q)] h (.bool (gv eW v0)):=by
 refine sT func196 U ntmps196 U λX hM hX hF=>?_
 have hs0:=@rfl _ (gv eW v0)
 refine qT 9 U (bL 4 [6,7,8,9,10] 6 10 (decide (v0<eW)) U (λc1 hk1=>?_) (λe=>?_))
 .exact av (dD ty3 av0 U (qO 2 U (hk1 _ U)))
 exact an (nretP [.bool (decide (eW<0)||decide (v0<eW))] (cs hs0))
theorem ja(h:HF)(most:Int)(l:List Int)(dU:Option Addr)(dT:Nat)(hl:SlC kB h dU dT l):Ret prog 103 [I most,.slice dU l.length dT] h (.bool (cJ most l)):=by
 refine sT func103 U ntmps103 U λX hM hX hF=>?_
 have hs0:=@rfl _ (cJ most l)
 exact sr (bS (λb1=>qO 5 U (aO 0 U hM (λh1 hle1 hb1=>aA (eI U U (ai Je (ie _ _ _ _ (λdE=>gv dE most) (.func (.func 196) #[] #[Q b1]) (hl.mono xH hle1) (λh' dE hle=>iK call196 (wY h' dE most ⟨b1,0,none⟩  ((cz hb1).mono hle)))) U (qO 3 U (nretP [.bool (!(cI l (λdE=>gv dE most)))] (cs hs0)))))))))
theorem AN(h:HF)(x:Approval)  : Ret prog 119 [.agg (zC x).toArray] h (.bool (ju x)):=by
 refine sT func119 U ntmps119 U λX hM hX hF=>?_
 have hs0:=@rfl _ (ju x)
 refine sr (bS (λb1=>qL 6 [0] U (aA (aV (cells:=[I x.No]) dy ty3 zc3 U U kr (λb2=>aO 0 U hM (λh1 hle1 hb1=>?_))))))
 have sl1:SlC kB h1 (some ⟨b2,0,none⟩) 1 ([x.No]):=aY.slB0 (T:=3) (fz:=(0,0)) ((show aY kB h [I x.No] ([x.No])from⟨[I x.No],[],rfl,rfl,rfl,rfl⟩).mono xH hle1) hb1
 refine ai Hd (ja _ 1048576 _ _ _ sl1) U (av (aU 7 [7,8,9,10,11,12,13,14] 7 14 (cJ 1099511627775 ([x.At,x.Known])) U (λc1 hk1=>?_) (λe=>?_)))
 .refine qL 4 [0,0] U (aA (aV (cells:=[I x.At,I x.Known]) dy ty3 zc3 U U kr (λb3=>aO 0 U hM (λh2 hle2 hb2=>?_))))
  have sl2:SlC kB h2 (some ⟨b3,0,none⟩) 2 ([x.At,x.Known]):=aY.slB0 (T:=3) (fz:=(0,0)) ((show aY kB h1 [I x.At,I x.Known] ([x.At,x.Known])from⟨[I x.At],[I x.Known],rfl,rfl,rfl,⟨[I x.Known],[],rfl,rfl,rfl,rfl⟩⟩).mono xH hle2) hb2
  exact ai Hd (ja _ 1099511627775 _ _ _ sl2) U (eE U (lg (h:=h1) hle2 hX hle1 (hk1 _ U)))
 refine av (aU 5 [15,16,17,18,19,20] 15 20 (cJ 4095 ([x.Doc])) U (λc2 hk2=>?_) (λe=>?_))
 .refine qL 2 [0] U (aA (aV (cells:=[I x.Doc]) dy ty3 zc3 U U kr (λb4=>aO 0 U hM (λh3 hle3 hb3=>?_))))
  have sl3:SlC kB h3 (some ⟨b4,0,none⟩) 1 ([x.Doc]):=aY.slB0 (T:=3) (fz:=(0,0)) ((show aY kB h1 [I x.Doc] ([x.Doc])from⟨[I x.Doc],[],rfl,rfl,rfl,rfl⟩).mono xH hle3) hb3
  exact ai Hd (ja _ 4095 _ _ _ sl3) U (eE U (lg (h:=h1) hle3 hX hle1 (hk2 _ U)))
 refine av (aU 7 [21,22,23,24,25,26,27,28] 21 28 (cJ 63 ([x.By,x.For])) U (λc3 hk3=>?_) (λe=>?_))
 .refine qL 4 [0,0] U (aA (aV (cells:=[I x.By,I x.For]) dy ty3 zc3 U U kr (λb5=>aO 0 U hM (λh4 hle4 hb4=>?_))))
  have sl4:SlC kB h4 (some ⟨b5,0,none⟩) 2 ([x.By,x.For]):=aY.slB0 (T:=3) (fz:=(0,0)) ((show aY kB h1 [I x.By,I x.For] ([x.By,x.For])from⟨[I x.By],[I x.For],rfl,rfl,rfl,⟨[I x.For],[],rfl,rfl,rfl,rfl⟩⟩).mono xH hle4) hb4
  exact ai Hd (ja _ 63 _ _ _ sl4) U (eE U (lg (h:=h1) hle4 hX hle1 (hk3 _ U)))
 refine av (aU 5 [29,30,31,32,33,34] 29 34 (cJ 31 ([x.Office])) U (λc4 hk4=>?_) (λe=>?_))
 .refine qL 2 [0] U (aA (aV (cells:=[I x.Office]) dy ty3 zc3 U U kr (λb6=>aO 0 U hM (λh5 hle5 hb5=>?_))))
  have sl5:SlC kB h5 (some ⟨b6,0,none⟩) 1 ([x.Office]):=aY.slB0 (T:=3) (fz:=(0,0)) ((show aY kB h1 [I x.Office] ([x.Office])from⟨[I x.Office],[],rfl,rfl,rfl,rfl⟩).mono xH hle5) hb5
  exact ai Hd (ja _ 31 _ _ _ sl5) U (eE U (lg (h:=h1) hle5 hX hle1 (hk4 _ U)))
 exact an (nretP [.bool (((((cJ 1048576 ([x.No]))&&(cJ 1099511627775 ([x.At,x.Known])))&&(cJ 4095 ([x.Doc])))&&(cJ 63 ([x.By,x.For])))&&(cJ 31 ([x.Office])))] (cs hs0))
theorem tI(h:HF)(l:List Approval)(dU:Option Addr)(dT:Nat)(hl:SlC Approval.rp h dU dT l):Ret prog 71 [.slice dU l.length dT] h (I (bJ l)):=by
 refine sT func71 U ntmps71 U λX hM hX hF=>?_
 have hs0:=@rfl _ (bJ l)
 refine qK 11 [] U (ae hs0 U (λc1 hs1=>?_) (λc1 hs2=>?_))
 .have c1p:=of_decide_eq_true c1
  exact sr (an (nretP [I 2] (ci hs1)))
 have c1p:=of_decide_eq_false c1
 refine qK 12 [] U ?_
 refine lp1 l (λi w=>[(3,I w),(9,.slice dU l.length dT),(10,I (l.length:Int)),(11,I (i:Int))]) ([]) (λs1 i w=>(bJ.L1 (bJ.K1)) s1 w) (-1) hl.1.1 hs2 ?_ ?_
 .rintro i1 iC ft hs4 e
  exact sr (an (nretP [I 0] (ci hs4)))
 rintro i1 iC y1 rz1 hd1 cY aJ dY gy hs6 hx1 ag1 e
 refine sr (tO cY U (qO 8 U (aA (iF zC oD ty81 hl.1 aJ U U U (λq2 A2=>dv ty81 A2 U U (aS zc81 (λb2=>aR 0 ty81 U U U U U U (qO 4 U (cN 0 ty81 U U U (ai call119 (AN h y1) U (qO 2 U (bL 5 [18,19,20,21,22,23] 18 23 (decide (y1.No<=iC)) U (λc2 hk1=>?_) (λe=>?_)))))))))))))
 .exact qL 5 [0] U (hk1 _ U)
 refine aI (ae hs6 U (λc3 hs7=>?_) (λc3 hs8=>?_))
 .exact sr (an (nretP [I 280] (ci hs7)))
 exact qK 8 [0] U (oi i1 U (qO 2 U (ba (L':=[]) js (ag1 y1.No hs8))))
theorem pz(h:HF)(cv:Register)(fF:fq)(jw:xV h cv fF)(hsm:smR cv)(hk:Kinds h):Ret prog 13 [.agg (vK cv fF).toArray] h (I (dC cv)):=by
 refine sT func13 U ntmps13 U λX hM hX hF=>?_
 have hs0:=@rfl _ (dC cv)
 have hsv:=hsm.vers
 refine sr (bS (λb1=>qO 4 U ?_))
 let z1:Nat×Obj:=(b1,O (vK cv fF) 30)
 refine eh ([z1]) mixed kr jn (λdt _=>?_)
 refine qB [0] U (tf 1 U U (rj 0 ty22 U U U) (qB [3] U (tf 4 U U (rj 0 ty23 U U U) (qB [6] U (tf 7 U U (rj 0 ty24 U U U) (qB [9] U (tf 10 U U (rj 0 ty25 U U U) (qB [12] U (tf 13 U U (rj 0 ty26 U U U) (qB [15] U (tf 16 U U (rj 0 ty27 U U U) (qB [18] U (tf 19 U U (rj 0 ty28 U U U) (tm 23 U (tn 2 U (et call65 (qh _ _ _ _ jw.Appoints) U (⟨jn,tn 5 U (et call66 (um _ _ _ _ jw.Deputies) U (⟨jn,tn 8 U (et call67 (tv _ _ _ _ jw.Interests) U (⟨jn,tn 11 U (et call68 (vi _ _ _ _ jw.Budgets) U (⟨jn,tn 14 U (et call69 (ru _ _ _ _ jw.Versions ob hk) U (⟨jn,(tn 17 U (et call70 (oX _ _ _ _ jw.Docs) U (⟨jn,(tn 20 U (et call71 (tI _ _ _ _ jw.Approvals) U (⟨jn,(tn 21 U (aV (cells:=[I (df cv.Appoints),I (dk cv.Deputies),I (cm cv.Interests),I (cG cv.Budgets),I (bG cv.Versions),I (aT cv.Docs),I (bJ cv.Approvals)]) underlying141 ty37 zc37 U U kr (λb2=>⟨jn,(tf 22 U U (λ_ _ _=>JQ underlying141 U) (aG kr (eC 0 U hM (λh1 hle1 hb1=>?_))))⟩)))⟩)))⟩)))⟩))⟩))⟩))⟩))⟩)))))))))))))))))
 have sl1:SlC kB h1 (some ⟨b2,0,none⟩) 7 ([(df cv.Appoints),(dk cv.Deputies),(cm cv.Interests),(cG cv.Budgets),(bG cv.Versions),(aT cv.Docs),(bJ cv.Approvals)]):=aY.slB0 (T:=37) (fz:=(0,0)) ((show aY kB h [I (df cv.Appoints),I (dk cv.Deputies),I (cm cv.Interests),I (cG cv.Budgets),I (bG cv.Versions),I (aT cv.Docs),I (bJ cv.Approvals)] ([(df cv.Appoints),(dk cv.Deputies),(cm cv.Interests),(cG cv.Budgets),(bG cv.Versions),(aT cv.Docs),(bJ cv.Approvals)])from⟨[I (df cv.Appoints)],[I (dk cv.Deputies),I (cm cv.Interests),I (cG cv.Budgets),I (bG cv.Versions),I (aT cv.Docs),I (bJ cv.Approvals)],rfl,rfl,rfl,⟨[I (dk cv.Deputies)],[I (cm cv.Interests),I (cG cv.Budgets),I (bG cv.Versions),I (aT cv.Docs),I (bJ cv.Approvals)],rfl,rfl,rfl,⟨[I (cm cv.Interests)],[I (cG cv.Budgets),I (bG cv.Versions),I (aT cv.Docs),I (bJ cv.Approvals)],rfl,rfl,rfl,⟨[I (cG cv.Budgets)],[I (bG cv.Versions),I (aT cv.Docs),I (bJ cv.Approvals)],rfl,rfl,rfl,⟨[I (bG cv.Versions)],[I (aT cv.Docs),I (bJ cv.Approvals)],rfl,rfl,rfl,⟨[I (aT cv.Docs)],[I (bJ cv.Approvals)],rfl,rfl,rfl,⟨[I (bJ cv.Approvals)],[],rfl,rfl,rfl,rfl⟩⟩⟩⟩⟩⟩⟩).mono xH hle1) hb1
 refine iT (ι:=Nat) (λi=>[]) (λi=>h1) (λi=>[z1]) (λi=>i<=(zK 7).length/\dC cv=((dC.K1))) ?_ (λhx1=>?_)
 .rintro i1 ⟨ft,hs1⟩ e
  exact sr (an (nretP [I 0] (ci hs1)))
 refine ls (ι:=Nat×List Nat) (λi=>[(26,.slice (some ⟨b2,0,none⟩) 7 7),(27,I 7),(28,I (i.1:Int))]) (λi=>h1) (λi=>[z1]) (λi=>(zK 7).drop i.1=i.2/\i.1<=(zK 7).length/\dC cv=((dC.L1 cv (dC.K1)) i.2 i.1)) (λi=>i.2.length) (0,(zK 7)) rd sw ⟨U,qM _,hs0⟩ ?_
 rintro⟨i1,s1⟩ ⟨hd1,ft,hs3⟩ ag1 e
 rcases s1 with _|⟨y1,rz1⟩
 .have fL:decide ((i1:Int)<7)=false:=by simpa using oC hd1
  exact sr (fO fL U (qO 4 U (hx1 i1 _ ⟨ft,hs3⟩ trivial)))
 have cY:decide ((i1:Int)<7)=true:=by simpa using ul hd1
 have dY:i1<7:=by simpa using iX hd1
 refine sr (tO cY U (qO 8 U ?_))
 have ho2:0<=((i1:Int):Int)/\((i1:Int):Int)<(([(df cv.Appoints),(dk cv.Deputies),(cm cv.Interests),(cG cv.Budgets),(bG cv.Versions),(aT cv.Docs),(bJ cv.Approvals)]).length:Int):=ob
 refine aA (rO (enc:=λy=>[I y]) ei underlying141 ty37 sl1.1 ho2 (de ho2) U U U (λq2 A2=>dD ty37 A2 U (qO 7 U (ae hs3 U (λc2 hs5=>?_) (λc2 hs6=>?_)))))
 .exact sr (an (nretP [I 300] (ci hs5)))
 exact aH (qT 2 U (oi i1 U (qO 2 U (ag1 ((i1+1),rz1) _ (Nat.lt_succ_self _) ⟨mK hd1,iX hd1,hs6⟩ rd))))
theorem io(h:HF)(Rx:Int)  : GZ prog 51 [I Rx] h (exW errV (λr:Unit=>(.tuple #[]:Value)) (mB Rx)):=by
 refine cH func51 U ntmps51 U λX hM hX=>?_
 have hs0:=@rfl _ (mB Rx)
 refine qT 5 U (ae hs0 U (λc1 hs1=>?_) (λc1 hs2=>?_))
 .exact bC (av (aA (fj (D9 On U U) (aA (D5 U yK (λe=>gK (oa [] func51 hX (congrArg (exW errV (λr:Unit=>(.tuple #[]:Value))) hs1))))))))
 refine aH ?_
 have hs3:mB Rx=(Except.ok ()):=hs2
 exact ej (yG [] [] func51 U hX trivial (congrArg (exW errV (λr:Unit=>(.tuple #[]:Value))) hs3))
theorem lD(h:HF)(s:List Document)(sY:Option Addr)(sX:Nat)(f:(Document->Bool))(f_v:Value)(hs:SlC kV h sY sX s)(hf:∀(h':HF)(dE:Document)(zy:jZ),xM h h'->dE∈s->SG h' dE zy->uL prog f_v [.agg (qP dE zy).toArray] h' [] (.bool (f dE))):Ret prog 128 [.slice sY s.length sX,f_v] h (I (ad s f)):=by
 refine sT func128 U ntmps128 U λX hM hX hF=>?_
 have hs0:=@rfl _ (ad s f)
 refine qK 11 [] U ?_
 refine lp0 s (λi=>[(0,.slice sY s.length sX),(1,f_v),(7,I (s.length:Int)),(8,I (i:Int))]) ([]) (λs1 i=>(ad.L1 f (ad.K1)) s1 i) hs.1.1 hs0 ?_ ?_
 .rintro i1 ft hs1 e
  exact sr (an (nretP [I (-1)] (ci hs1)))
 rintro i1 y1 rz1 hd1 cY aJ dY gy hs3 hx1 ag1 e
 refine sr (tO cY U (qO 16 U (aA (iR sf ty51 hs.1 aJ U U U (λ_ _ _ e=>e) (λq2 r2 A2 ok2=>dv ty51 A2 U U (aA (mG (v:=.bool (f y1)) [] (List.nil_sublist _) (hf h y1 r2 lf (gj hd1) ok2) U U (aI (ae hs3 U (λc2 hs4=>?_) (λc2 hs5=>?_))))))))))
 .exact sr (qO 3 U (nretP [I (i1:Int)] (ci hs4)))
 exact aH (qT 2 U (oi i1 U (qO 2 U (ag1 hs5))))
theorem CE(s:List Document)(f:Document->Bool):ad s f<(s.length:Int):=by
 have key:∀(l:List Document)(i:Nat),ad.L1 f ad.K1 l i<((i+l.length:Nat):Int):=by
  intro l
  induction l with
  |nil=>intro i;simp only[ad.L1,ad.K1];omega
  |cons y l ih=>
   intro i
   simp only[ad.L1,Bool.cond_eq_ite,xA]
   split
   .omega
   have:=ih (i+1);omega
 have:=key s 0
 simpa[ad]using this
theorem DU(h:HF)(d:Document)(CR:jZ)(v0:Int)(v0_q:Addr)(hd:SG h d CR)(av0:At h v0_q [I v0]):Ret prog 129 [.agg (qP d CR).toArray,.pointer (some v0_q)] h (.bool (bu d v0)):=by
 refine sT func129 U ntmps129 U λX hM hX hF=>?_
 have hs0:=@rfl _ (bu d v0)
 exact sr (bS (λb1=>qL 6 [0] U (dD ty3 av0 U (qO 3 U (nretP [.bool (d.No==v0)] (cs hs0))))))
theorem zY(h:HF)(cv:Register)(fF:fq)(doc:Int)(bI:Int)(known:Int)(jw:xV h cv fF):H0 prog 53 [.agg (vK cv fF).toArray,I doc,I bI,I known] h errV (ma cv doc bI known) (λ(r:bK)v h'=>∃(rr0:kc),v=.agg (bK.cells r rr0).toArray/\bK.ok h' r rr0):=by
 refine cH func53 U ntmps53 U λX hM hX=>?_
 have hs0:=@rfl _ (ma cv doc bI known)
 refine sr (bS (λb1=>bS (λb2=>aS zc123 (λb3=>qL 5 [2] U (aO 1 U hM (λh1 hle1 hb1=>aA (eI U U (ai call128 (lD _ _ _ _ (λdE=>bu dE doc) (.func (.func 129) #[] #[Q b2]) (jw.Docs.mono vL hle1) (λh' dE zy hle Pf a0_o=>iK call129 (DU h' dE zy doc ⟨b2,0,none⟩ a0_o ((cz hb1).mono hle)))) U (qO 8 U (bL 5 [16,17,18,19,20,21] 16 21 (decide ((min bI known)<0)) U (λc1 hk1=>?_) (λe=>?_)))))))))))
 .exact av (av (aA (fj (QW U U) (qO 2 U (hk1 _ U)))))
 refine av (bL 5 [22,23,24,25,26,27] 22 27 (decide (1099511627776<=(max bI known))) U (λc2 hk2=>?_) (λe=>?_))
 .exact av (av (aA (fj (QX U U) (qO 2 U (hk2 _ U)))))
 refine aI (ae hs0 U (λc3 hs1=>?_) (λc3 hs2=>?_))
 .exact bC (aA (fj (D9 On U U) (aA (D5 U yK (λe=>gK (Jj [] func53 hs1))))))
 refine qT 2 U ?_
 let z1:Nat×Obj:=(b1,O (vK cv fF) 30)
 refine eh ([z1]) mixed kr jn (λdt _=>?_)
 refine tf 0 U U (λ_ _ hj=>i7 ty30 U (hj.nth (i:=0) U) U) (qB [1] U (tf 2 U U (rj 0 ty27 U U U) (tm 3 U ?_)))
 have ho1:0<=((ad cv.Docs (λdE=>bu dE doc)):Int)/\((ad cv.Docs (λdE=>bu dE doc)):Int)<((cv.Docs).length:Int):=(by have hq:=CE cv.Docs (λdE=>bu dE doc);simp only[decide_eq_true_eq,decide_eq_false_iff_not,jA,kC,kD,Bool.not_eq_false',Bool.and_eq_false_iff,Bool.or_eq_false_iff,beq_iff_eq,beq_eq_false_iff_ne,bne_iff_ne,bne_eq_false_iff_eq,xB,xA,jC,List.length_drop]at *;omega)
 refine j3 4 dt jn sf ty51 (jw.Docs.mono vL hle1).1 ho1 (de ho1) U U U U kr (λq1 cs1 A1 ln1 rr1=>?_)
 obtain⟨r1,rfl,ok1⟩:=rr1
 refine tf 5 U U (λ_ _ hj=>iP ty51 (A1.mono hj.1) U U) (qA [6,7] U (tn 8 U (e9 (cells:=[.slice fF.wu cv.Appoints.length fF.wq,.slice fF.wp cv.Deputies.length fF.wo,.slice fF.ur cv.Interests.length fF.uq,.slice fF.zb cv.Budgets.length fF.za,.slice fF.me cv.Versions.length fF.md,.slice fF.IZ cv.Docs.length fF.IY,.slice fF.ut cv.Approvals.length fF.us,I ((nthI cv.Docs (ad cv.Docs (λdE=>bu dE doc))).No),I ((nthI cv.Docs (ad cv.Docs (λdE=>bu dE doc))).At),I ((nthI cv.Docs (ad cv.Docs (λdE=>bu dE doc))).Kind),I ((nthI cv.Docs (ad cv.Docs (λdE=>bu dE doc))).Value),I ((nthI cv.Docs (ad cv.Docs (λdE=>bu dE doc))).From),I ((nthI cv.Docs (ad cv.Docs (λdE=>bu dE doc))).Until),.slice r1.yZ ((nthI cv.Docs (ad cv.Docs (λdE=>bu dE doc))).Parties.length) r1.yY,.slice r1.sJ ((nthI cv.Docs (ad cv.Docs (λdE=>bu dE doc))).Revokes.length) r1.sI,.slice r1.Eh ((nthI cv.Docs (ad cv.Docs (λdE=>bu dE doc))).Needs.length) r1.Eg,Y ((nthI cv.Docs (ad cv.Docs (λdE=>bu dE doc))).Text 0),Y ((nthI cv.Docs (ad cv.Docs (λdE=>bu dE doc))).Text 1),Y ((nthI cv.Docs (ad cv.Docs (λdE=>bu dE doc))).Text 2),Y ((nthI cv.Docs (ad cv.Docs (λdE=>bu dE doc))).Text 3),Y ((nthI cv.Docs (ad cv.Docs (λdE=>bu dE doc))).Text 4),Y ((nthI cv.Docs (ad cv.Docs (λdE=>bu dE doc))).Text 5),Y ((nthI cv.Docs (ad cv.Docs (λdE=>bu dE doc))).Text 6),Y ((nthI cv.Docs (ad cv.Docs (λdE=>bu dE doc))).Text 7),Y ((nthI cv.Docs (ad cv.Docs (λdE=>bu dE doc))).Text 8),Y ((nthI cv.Docs (ad cv.Docs (λdE=>bu dE doc))).Text 9),Y ((nthI cv.Docs (ad cv.Docs (λdE=>bu dE doc))).Text 10),Y ((nthI cv.Docs (ad cv.Docs (λdE=>bu dE doc))).Text 11),Y ((nthI cv.Docs (ad cv.Docs (λdE=>bu dE doc))).Text 12),Y ((nthI cv.Docs (ad cv.Docs (λdE=>bu dE doc))).Text 13),Y ((nthI cv.Docs (ad cv.Docs (λdE=>bu dE doc))).Text 14),Y ((nthI cv.Docs (ad cv.Docs (λdE=>bu dE doc))).Text 15),Y ((nthI cv.Docs (ad cv.Docs (λdE=>bu dE doc))).Text 16),Y ((nthI cv.Docs (ad cv.Docs (λdE=>bu dE doc))).Text 17),Y ((nthI cv.Docs (ad cv.Docs (λdE=>bu dE doc))).Text 18),Y ((nthI cv.Docs (ad cv.Docs (λdE=>bu dE doc))).Text 19),Y ((nthI cv.Docs (ad cv.Docs (λdE=>bu dE doc))).Text 20),Y ((nthI cv.Docs (ad cv.Docs (λdE=>bu dE doc))).Text 21),Y ((nthI cv.Docs (ad cv.Docs (λdE=>bu dE doc))).Text 22),Y ((nthI cv.Docs (ad cv.Docs (λdE=>bu dE doc))).Text 23),Y ((nthI cv.Docs (ad cv.Docs (λdE=>bu dE doc))).Text 24),Y ((nthI cv.Docs (ad cv.Docs (λdE=>bu dE doc))).Text 25),Y ((nthI cv.Docs (ad cv.Docs (λdE=>bu dE doc))).Text 26),Y ((nthI cv.Docs (ad cv.Docs (λdE=>bu dE doc))).Text 27),Y ((nthI cv.Docs (ad cv.Docs (λdE=>bu dE doc))).Text 28),Y ((nthI cv.Docs (ad cv.Docs (λdE=>bu dE doc))).Text 29),Y ((nthI cv.Docs (ad cv.Docs (λdE=>bu dE doc))).Text 30),Y ((nthI cv.Docs (ad cv.Docs (λdE=>bu dE doc))).Text 31),I bI,I known]) (places:=[(0,7),(7,41),(48,1),(49,1)]) underlying123 zc123 kr kr ?_)))
 refine⟨jn,(tn 9 U (sW 0 ty123 U U U U U U (⟨jn,(aG kr ?_)⟩)))⟩
 have hs3:ma cv doc bI known=(Except.ok (bK.mk cv (nthI cv.Docs (ad cv.Docs (λdE=>bu dE doc))) bI known)):=hs2
 exact ej (Jg [] [.agg (bK.cells (bK.mk cv (nthI cv.Docs (ad cv.Docs (λdE=>bu dE doc))) bI known) (kc.mk fF r1)).toArray] func53 U ⟨⟨0,_,_,_,_,U,U,.inl ⟨ty123,U⟩⟩,trivial⟩ hs3 ⟨(kc.mk fF r1),U,(show bK.ok h1 (bK.mk cv (nthI cv.Docs (ad cv.Docs (λdE=>bu dE doc))) bI known) (kc.mk fF r1)from⟨(jw.mono hle1),ok1⟩)⟩)
theorem vh(h:HF)(x:Int)  : Ret prog 211 [I x] h (.bool (cmp_isNaN_int x)):=by
 refine sT Sb U ntmps211 U λX hM hX hF=>?_
 have hs0:=@rfl _ (cmp_isNaN_int x)
 exact sr (qO 9 U (nretP [.bool (x != x)] (cs hs0)))
end
end Go.Sg

namespace Go.Proofs
open Go.Shelf
def Tryz.Kf:Go.Shelf.Ren:=⟨λ| 137=>384|217=>387|266=>388|n=>n,λ| 9=>9|5=>5|3=>3|n=>n,λ| n=>n⟩
theorem Tryz.lays137:Go.Proofs.Lays.n137 Tryz.prog Tryz.Kf:={
 mixed:=by kernel_rfl
 f137:=Tryz.func384.trans (congrArg some (by kernel_rfl))
 f217:=Tryz.func387.trans (congrArg some (by kernel_rfl))
 f266:=Tryz.func388.trans (congrArg some (by kernel_rfl))
 t3:=Tryz.underlying3
 a3:=Tryz.isAgg3
 z3:=Tryz.sizeOf3
 v3:=Tryz.zeroValue3
 t5:=Tryz.underlying5
 a5:=Tryz.isAgg5
 z5:=Tryz.sizeOf5
 v5:=Tryz.zeroValue5
 t9:=Tryz.underlying9
 a9:=Tryz.isAgg9
 z9:=Tryz.sizeOf9
 v9:=Tryz.zeroValue9 }
open Go.RowKit in
theorem Tryz.strings_IndexByte(s:ByteArray)(c:Int)(w:World):
  Calls Tryz.prog 384 #[.string s,.int .u8 c] w λe w'=>e=.returned (.int .i64 (Lib.indexByte s.data.toList c.toNat.toUInt8))/\w'=w:=Any.strings_IndexByte Tryz.lays137 s c w
open Go.RowKit Go.Lib in
def Tryz.Ke:Go.Shelf.Ren:=⟨λ| 189=>88|125=>174|257=>173|128=>271|129=>272|294=>263|295=>264|296=>265|297=>266|298=>267|299=>268|216=>209|300=>269|301=>270|328=>316|329=>317|330=>318|331=>319|332=>320|215=>211|343=>354|n=>n,λ| 28=>31|3=>3|46=>245|0=>0|51=>313|53=>315|4=>4|183=>307|182=>306|131=>191|5=>5|9=>9|218=>349|222=>353|228=>382|229=>213|n=>n,λ| n=>n⟩
theorem Tryz.lays189:Go.Proofs.Lays.n189 Tryz.prog Tryz.Ke:={
 mixed:=by kernel_rfl
 f125:=Tryz.func174.trans (congrArg some (by kernel_rfl))
 f128:=Tryz.func271.trans (congrArg some (by kernel_rfl))
 f129:=Tryz.func272.trans (congrArg some (by kernel_rfl))
 f189:=Tryz.func88.trans (congrArg some (by kernel_rfl))
 f215:=Tryz.func211.trans (congrArg some (by kernel_rfl))
 f216:=Tryz.func209.trans (congrArg some (by kernel_rfl))
 f257:=Tryz.func173.trans (congrArg some (by kernel_rfl))
 f294:=Tryz.func263.trans (congrArg some (by kernel_rfl))
 f295:=Tryz.func264.trans (congrArg some (by kernel_rfl))
 f296:=Tryz.func265.trans (congrArg some (by kernel_rfl))
 f297:=Tryz.func266.trans (congrArg some (by kernel_rfl))
 f298:=Tryz.func267.trans (congrArg some (by kernel_rfl))
 f299:=Tryz.func268.trans (congrArg some (by kernel_rfl))
 f300:=Tryz.func269.trans (congrArg some (by kernel_rfl))
 f301:=Tryz.func270.trans (congrArg some (by kernel_rfl))
 f328:=Tryz.func316.trans (congrArg some (by kernel_rfl))
 f329:=Tryz.func317.trans (congrArg some (by kernel_rfl))
 f330:=Tryz.func318.trans (congrArg some (by kernel_rfl))
 f331:=Tryz.func319.trans (congrArg some (by kernel_rfl))
 f332:=Tryz.func320.trans (congrArg some (by kernel_rfl))
 f343:=Tryz.func354.trans (congrArg some (by kernel_rfl))
 t0:=Tryz.underlying0
 a0:=Tryz.isAgg0
 z0:=Tryz.sizeOf0
 v0:=Tryz.zeroValue0
 t3:=Tryz.underlying3
 a3:=Tryz.isAgg3
 z3:=Tryz.sizeOf3
 v3:=Tryz.zeroValue3
 t4:=Tryz.underlying4
 a4:=Tryz.isAgg4
 z4:=Tryz.sizeOf4
 v4:=Tryz.zeroValue4
 t5:=Tryz.underlying5
 a5:=Tryz.isAgg5
 z5:=Tryz.sizeOf5
 v5:=Tryz.zeroValue5
 t9:=Tryz.underlying9
 a9:=Tryz.isAgg9
 z9:=Tryz.sizeOf9
 v9:=Tryz.zeroValue9
 t28:=Tryz.underlying31
 a28:=Tryz.isAgg31
 z28:=Tryz.sizeOf31
 v28:=Tryz.zeroValue31
 t46:=Tryz.underlying245
 a46:=Tryz.isAgg245
 z46:=Tryz.sizeOf245
 v46:=Tryz.zeroValue245
 t51:=Tryz.underlying313
 a51:=Tryz.isAgg313
 z51:=Tryz.sizeOf313
 v51:=Tryz.zeroValue313
 t53:=Tryz.underlying315
 a53:=Tryz.isAgg315
 z53:=Tryz.sizeOf315
 v53:=Tryz.zeroValue315
 t131:=Tryz.underlying191
 a131:=Tryz.isAgg191
 z131:=Tryz.sizeOf191
 v131:=Tryz.zeroValue191
 t182:=Tryz.underlying306
 a182:=Tryz.isAgg306
 z182:=Tryz.sizeOf306
 v182:=Tryz.zeroValue306
 t183:=Tryz.underlying307
 a183:=Tryz.isAgg307
 z183:=Tryz.sizeOf307
 v183:=Tryz.zeroValue307
 t218:=Tryz.underlying349
 a218:=Tryz.isAgg349
 z218:=Tryz.sizeOf349
 v218:=Tryz.zeroValue349
 t222:=Tryz.underlying353
 a222:=Tryz.isAgg353
 z222:=Tryz.sizeOf353
 v222:=Tryz.zeroValue353
 t228:=Tryz.underlying382
 a228:=Tryz.isAgg382
 z228:=Tryz.sizeOf382
 v228:=Tryz.zeroValue382
 t229:=Tryz.underlying213
 a229:=Tryz.isAgg213
 z229:=Tryz.sizeOf213
 v229:=Tryz.zeroValue213 }
open Go.Sort Go.RowKit in
theorem Tryz.slices_Sort_int(blk off cap:Nat)(zs:List Int)(w:World)(hH:Holds (Value.int .i64) w blk off zs.toArray)(hblk:blk<w.heap.size)(hsz:zs.length<4611686018427387904):
  Calls Tryz.prog 88 #[.slice (some ⟨blk,off,none⟩) zs.length cap] w λe w'=>
   e=.returned (.tuple #[])/\∃n os,w'=grow (putRow (Value.int .i64) (Sort.ahead w n) blk off (zs.mergeSort λx y=>decide (x<=y)).toArray) os:=Any.slices_Sort_int Tryz.lays189 blk off cap zs w hH hblk hsz
def Tryz.GI:Go.Shelf.Ren:=⟨λ| 20=>136|n=>n,λ| 22=>31|3=>3|4=>4|0=>0|n=>n,λ| n=>n⟩
theorem Tryz.laysNm220:Go.Proofs.Lays2.n20 Tryz.prog Tryz.GI:={
 mixed:=by kernel_rfl
 f20:=Tryz.func136.trans (congrArg some (by kernel_rfl))
 t0:=Tryz.underlying0
 a0:=Tryz.isAgg0
 z0:=Tryz.sizeOf0
 v0:=Tryz.zeroValue0
 t3:=Tryz.underlying3
 a3:=Tryz.isAgg3
 z3:=Tryz.sizeOf3
 v3:=Tryz.zeroValue3
 t4:=Tryz.underlying4
 a4:=Tryz.isAgg4
 z4:=Tryz.sizeOf4
 v4:=Tryz.zeroValue4
 t22:=Tryz.underlying31
 a22:=Tryz.isAgg31
 z22:=Tryz.sizeOf31
 v22:=Tryz.zeroValue31
 i3:=by kernel_rfl }
open Go.RowKit Go.Lib Go.Sort in
open Go.RowKit Go.Lib Go.Sort in
theorem Tryz.slices_Compact_int(blk off cap:Nat)(zs:List Int)(w:World)(hH:Holds (Value.int .i64) w blk off zs.toArray)(hsz:zs.length<=9223372036854775807)(hcap:zs.length<=cap):
  Calls Tryz.prog 136 #[.slice (some ⟨blk,off,none⟩) zs.length cap] w λe w'=>e=.returned (.slice (some ⟨blk,off,none⟩) (Lib.compact zs).length cap)/\∃q,w'=putRow (Value.int .i64) (Sort.ahead w q) blk off (Lib.compact zs++List.replicate (zs.length-(Lib.compact zs).length) 0).toArray:=Any.slices_Compact_int Tryz.laysNm220 blk off cap zs w hH hsz hcap
open Go.RowKit Go.Lib Go.Sort in
theorem Tryz.slices_Compact_int_empty(a:Option Addr)(cap:Nat)(w:World):
  Calls Tryz.prog 136 #[.slice a 0 cap] w λe w'=>e=.returned (.slice a 0 cap)/\w'=w:=Any.slices_Compact_int_empty Tryz.laysNm220 a cap w
open Go.RowKit Go.Lib in
open Go.RowKit Go.Lib in
open Go.RowKit Go.Lib in
def Tryz.GH:Go.Shelf.Ren:=⟨λ| 25=>114|31=>209|32=>210|37=>211|n=>n,λ| 22=>31|3=>3|4=>4|40=>245|0=>0|n=>n,λ| n=>n⟩
theorem Tryz.laysNm225:Go.Proofs.Lays2.n25 Tryz.prog Tryz.GH:={
 mixed:=by kernel_rfl
 f25:=Tryz.func114.trans (congrArg some (by kernel_rfl))
 f31:=Tryz.func209.trans (congrArg some (by kernel_rfl))
 f32:=Tryz.func210.trans (congrArg some (by kernel_rfl))
 f37:=Tryz.func211.trans (congrArg some (by kernel_rfl))
 t0:=Tryz.underlying0
 a0:=Tryz.isAgg0
 z0:=Tryz.sizeOf0
 v0:=Tryz.zeroValue0
 t3:=Tryz.underlying3
 a3:=Tryz.isAgg3
 z3:=Tryz.sizeOf3
 v3:=Tryz.zeroValue3
 t4:=Tryz.underlying4
 a4:=Tryz.isAgg4
 z4:=Tryz.sizeOf4
 v4:=Tryz.zeroValue4
 t22:=Tryz.underlying31
 a22:=Tryz.isAgg31
 z22:=Tryz.sizeOf31
 v22:=Tryz.zeroValue31
 t40:=Tryz.underlying245
 a40:=Tryz.isAgg245
 z40:=Tryz.sizeOf245
 v40:=Tryz.zeroValue245 }
open Go.RowKit Go.Lib in
theorem Tryz.slices_BinarySearch_int(b off n c:Nat)(zs:List Int)(x:Int)(w:World)(hz:n<=zs.length)(hbig:n<4611686018427387904)(hc:∀j,j<zs.length->w.cell? ⟨b,off+j,none⟩=some (.int .i64 (zs.getD j 0)))(hs:(zs.take n).Pairwise (·<=·)):
  Calls Tryz.prog 114 #[.slice (some ⟨b,off,none⟩) n c,.int .i64 x] w λe w'=>e=.returned (.tuple #[.int .i64 ((zs.take n).countP (·<x):Nat),.bool ((zs.take n).contains x)])/\∃q,w'=w.drewN q:=Any.slices_BinarySearch_int Tryz.laysNm225 b off n c zs x w hz hbig hc hs
open Go.RowKit Go.Sort in
theorem Tryz.slices_Sort_int_none(p:Option Addr)(cap:Nat)(w:World):
  Calls Tryz.prog 88 #[.slice p 0 cap] w λe w'=>e=.returned (.tuple #[])/\w'=w:=Any.slices_Sort_int_none Tryz.lays189 p cap w
open Go.RowKit Go.Lib in
theorem Tryz.slices_BinarySearch_int_empty(a:Option Addr)(c:Nat)(x:Int)(w:World):
  Calls Tryz.prog 114 #[.slice a 0 c,.int .i64 x] w λe w'=>e=.returned (.tuple #[.int .i64 0,.bool false])/\w'=w:=Any.slices_BinarySearch_int_empty Tryz.laysNm225 a c x w
def Tryz.AB:Go.Shelf.Ren:=⟨λ| 7=>211|n=>n,λ| 22=>3|4=>4|n=>n,λ| n=>n⟩
theorem Tryz.Fo:Go.Proofs.SlLaysC2.n7 Tryz.prog Tryz.AB:={
 mixed:=by kernel_rfl
 f7:=⟨Tryz.f211.name,by decide,Tryz.func211.trans (congrArg some (by kernel_rfl))⟩
 t4:=Tryz.underlying4
 a4:=Tryz.isAgg4
 z4:=Tryz.sizeOf4
 v4:=Tryz.zeroValue4
 t22:=Tryz.underlying3
 a22:=Tryz.isAgg3
 z22:=Tryz.sizeOf3
 v22:=Tryz.zeroValue3 }
open Go.Lib in
theorem Tryz.cmp_isNaN_int(x:Int)(w:World):
  Calls Tryz.prog 211 #[.int .i64 x] w λe w'=>e=.returned (.bool false)/\w'=w:=AnyG.cmp_isNaN_int Tryz.Fo x w
def Tryz.AC:Go.Shelf.Ren:=⟨λ| 5=>118|7=>211|n=>n,λ| 22=>3|3=>3|4=>4|n=>n,λ| n=>n⟩
theorem Tryz.Fp:Go.Proofs.SlLaysC2.n5 Tryz.prog Tryz.AC:={
 mixed:=by kernel_rfl
 f5:=⟨Tryz.f118.name,by decide,Tryz.func118.trans (congrArg some (by kernel_rfl))⟩
 f7:=⟨Tryz.f211.name,by decide,Tryz.func211.trans (congrArg some (by kernel_rfl))⟩
 t3:=Tryz.underlying3
 a3:=Tryz.isAgg3
 z3:=Tryz.sizeOf3
 v3:=Tryz.zeroValue3
 t4:=Tryz.underlying4
 a4:=Tryz.isAgg4
 z4:=Tryz.sizeOf4
 v4:=Tryz.zeroValue4
 t22:=Tryz.underlying3
 a22:=Tryz.isAgg3
 z22:=Tryz.sizeOf3
 v22:=Tryz.zeroValue3 }
open Go.Lib in
theorem Tryz.cmp_Compare_int(x y:Int)(w:World):
  Calls Tryz.prog 118 #[.int .i64 x,.int .i64 y] w λe w'=>e=.returned (.int .i64 (Lib.compareInt x y))/\w'=w:=AnyG.cmp_Compare_int Tryz.Fp x y w
def Tryz.If:Go.Shelf.Ren:=⟨λ| 6=>274|15=>174|14=>322|28=>271|29=>272|20=>355|21=>356|22=>357|23=>358|24=>359|25=>360|26=>361|27=>362|46=>374|47=>317|48=>318|49=>375|50=>376|57=>383|n=>n,λ| 22=>249|24=>182|25=>248|3=>3|39=>245|0=>0|53=>313|55=>315|4=>4|46=>307|45=>306|50=>191|5=>5|9=>9|66=>349|70=>353|76=>382|77=>213|n=>n,λ| n=>n⟩
theorem Tryz.sortSeat:Go.Proofs.SlLaysF0.n6 Tryz.prog Tryz.If:={
 mixed:=by kernel_rfl
 f6:=⟨Tryz.f274.name,by decide,Tryz.func274.trans (congrArg some (by kernel_rfl))⟩
 f14:=⟨Tryz.f322.name,by decide,Tryz.func322.trans (congrArg some (by kernel_rfl))⟩
 f15:=Tryz.func174.trans (congrArg some (by kernel_rfl))
 f20:=⟨Tryz.f355.name,by decide,Tryz.func355.trans (congrArg some (by kernel_rfl))⟩
 f21:=⟨Tryz.f356.name,by decide,Tryz.func356.trans (congrArg some (by kernel_rfl))⟩
 f22:=⟨Tryz.f357.name,by decide,Tryz.func357.trans (congrArg some (by kernel_rfl))⟩
 f23:=⟨Tryz.f358.name,by decide,Tryz.func358.trans (congrArg some (by kernel_rfl))⟩
 f24:=⟨Tryz.f359.name,by decide,Tryz.func359.trans (congrArg some (by kernel_rfl))⟩
 f25:=⟨Tryz.f360.name,by decide,Tryz.func360.trans (congrArg some (by kernel_rfl))⟩
 f26:=⟨Tryz.f361.name,by decide,Tryz.func361.trans (congrArg some (by kernel_rfl))⟩
 f27:=⟨Tryz.f362.name,by decide,Tryz.func362.trans (congrArg some (by kernel_rfl))⟩
 f28:=Tryz.func271.trans (congrArg some (by kernel_rfl))
 f29:=Tryz.func272.trans (congrArg some (by kernel_rfl))
 f46:=⟨Tryz.f374.name,by decide,Tryz.func374.trans (congrArg some (by kernel_rfl))⟩
 f47:=Tryz.func317.trans (congrArg some (by kernel_rfl))
 f48:=Tryz.func318.trans (congrArg some (by kernel_rfl))
 f49:=⟨Tryz.f375.name,by decide,Tryz.func375.trans (congrArg some (by kernel_rfl))⟩
 f50:=⟨Tryz.f376.name,by decide,Tryz.func376.trans (congrArg some (by kernel_rfl))⟩
 f57:=⟨Tryz.f383.name,by decide,Tryz.func383.trans (congrArg some (by kernel_rfl))⟩
 t0:=Tryz.underlying0
 a0:=Tryz.isAgg0
 z0:=Tryz.sizeOf0
 v0:=Tryz.zeroValue0
 t3:=Tryz.underlying3
 a3:=Tryz.isAgg3
 z3:=Tryz.sizeOf3
 v3:=Tryz.zeroValue3
 t4:=Tryz.underlying4
 a4:=Tryz.isAgg4
 z4:=Tryz.sizeOf4
 v4:=Tryz.zeroValue4
 t5:=Tryz.underlying5
 a5:=Tryz.isAgg5
 z5:=Tryz.sizeOf5
 v5:=Tryz.zeroValue5
 t9:=Tryz.underlying9
 a9:=Tryz.isAgg9
 z9:=Tryz.sizeOf9
 v9:=Tryz.zeroValue9
 t22:=Tryz.underlying249
 a22:=Tryz.isAgg249
 z22:=Tryz.sizeOf249
 v22:=Tryz.zeroValue249
 t25:=Tryz.underlying248
 a25:=Tryz.isAgg248
 z25:=Tryz.sizeOf248
 v25:=Tryz.zeroValue248
 t39:=Tryz.underlying245
 a39:=Tryz.isAgg245
 z39:=Tryz.sizeOf245
 v39:=Tryz.zeroValue245
 t45:=Tryz.underlying306
 a45:=Tryz.isAgg306
 z45:=Tryz.sizeOf306
 v45:=Tryz.zeroValue306
 t46:=Tryz.underlying307
 a46:=Tryz.isAgg307
 z46:=Tryz.sizeOf307
 v46:=Tryz.zeroValue307
 t50:=Tryz.underlying191
 a50:=Tryz.isAgg191
 z50:=Tryz.sizeOf191
 v50:=Tryz.zeroValue191
 t53:=Tryz.underlying313
 a53:=Tryz.isAgg313
 z53:=Tryz.sizeOf313
 v53:=Tryz.zeroValue313
 t55:=Tryz.underlying315
 a55:=Tryz.isAgg315
 z55:=Tryz.sizeOf315
 v55:=Tryz.zeroValue315
 t66:=Tryz.underlying349
 a66:=Tryz.isAgg349
 z66:=Tryz.sizeOf349
 v66:=Tryz.zeroValue349
 t70:=Tryz.underlying353
 a70:=Tryz.isAgg353
 z70:=Tryz.sizeOf353
 v70:=Tryz.zeroValue353
 t76:=Tryz.underlying382
 a76:=Tryz.isAgg382
 z76:=Tryz.sizeOf382
 v76:=Tryz.zeroValue382
 t77:=Tryz.underlying213
 a77:=Tryz.isAgg213
 z77:=Tryz.sizeOf213
 v77:=Tryz.zeroValue213 }
end Go.Proofs
namespace Go.Sg
open Go.Proofs Go.Proofs.Tryz Go.RowKit
theorem Qy{h:HF}{b:Option Addr}{xs:List Int}(hs:SlB kB h b xs)(hne:xs≠[]):∃g off,b=some ⟨g,off,none⟩/\∀w,Pre h [] w->∀j,j<xs.length->w.cell? ⟨g,off+j,none⟩=some (.int .i64 (xs.getD j 0)):=by
 obtain⟨x0,r,rfl⟩:∃x r,xs=x::r:=by cases xs with
  |nil=>exact(hne rfl).elim
  |cons x r=>exact⟨x,r,rfl⟩
 obtain⟨p,cs,rfl,hA,_,_⟩:=hs.2 0 x0 rfl
 have hsp:p.spot=none:=by
  obtain⟨_,_,_,_,h2,_⟩:=hA
  simpa[xT]using h2
 obtain⟨g,off,sp⟩:=p
 simp only at hsp
 subst hsp
 refine⟨g,off,rfl,λw hp j hj=>?_⟩
 obtain⟨p',cs',e,hA',hl,hr⟩:=hs.2 j ((x0::r)[j]) (by rw[zG hj])
 cases e
 have hcs:cs'=[.int .i64 ((x0::r)[j])]:=hr
 subst hcs
 have hc:=hA'.cell (X:=⟨w,h,[]⟩) (L:=[]) (Tz hp) (j:=0) (v:=.int .i64 ((x0::r)[j])) rfl
 have ha:((⟨g,off,none⟩:Addr).add (j*Rp.int.sz)).add 0=⟨g,off+j,none⟩:=by
  have h1:j*Rp.int.sz=j:=Nat.mul_one j
  rw[h1]
  by_cases e0:j=0
  .subst e0;simp[xT]
  .simp[xT,e0]
 rw[ha]at hc
 rw[hc]
 simp[List.getD,zG hj]
theorem nP(h:HF)(x:List Int)(Q7:Option Addr)(QU:Nat)(target:Int)(hx:SlC kB h Q7 QU x)(hs:x.Pairwise (·<=·))(hsz:x.length<=2000000):
  Ret prog 114 [.slice Q7 x.length QU,.int .i64 target] h (.tuple #[.int .i64 (slices_BinarySearch_int x target).1,.bool (slices_BinarySearch_int x target).2]):=by
 intro w hp
 by_cases hne:x=[]
 .subst hne
  refine(lr (Tryz.slices_BinarySearch_int_empty Q7 QU target w) (λw' hw=>by cases hw.1)).mono ?_
  rintro e w' ⟨rfl,rfl⟩
  exact⟨h,[],Tz hp,rfl,rfl,rfl⟩
 .obtain⟨g,off,rfl,hc⟩:=Qy hx.1 hne
  refine(lr (Tryz.slices_BinarySearch_int g off x.length QU x target w (vG _) (by omega) (hc w hp) (by simpa using hs)) (λw' hw=>by cases hw.1)).mono ?_
  rintro e w' ⟨rfl,q,rfl⟩
  refine⟨h,[],(Tz hp).drew _,?_,rfl,rfl⟩
  simp[bsI,slices_BinarySearch_int]
theorem nf(h:HF)(xs:List Int)(b:Option Addr)(c:Nat)(G:LH)(hG:cZ kB 3 h xs b c G)(hsz:xs.length<=1000000000000):
  oo prog 88 [.slice b xs.length c].toArray h G (λr h' G'=>h'=h/\r=.returned (.tuple #[])/\cZ kB 3 h (sortI xs) b c G'):=by
 intro w hp
 rcases hG with⟨rfl,rfl,rfl,rfl⟩|⟨bk,cl,sp,rfl,hcl,hlen,hcap,hmax,rfl⟩
 .refine(lr (Tryz.slices_Sort_int_none none 0 w) (λw' hw=>by cases hw.1)).mono ?_
  rintro e w' ⟨rfl,rfl⟩
  exact⟨h,[],Tz hp,rfl,rfl,by rw[show sortI []=[]from by simp[sortI]];exact cZ.nil⟩
 .have hb:=hp.own _ (qC.2 rfl)
  simp only at hb
  have hcl':cl=xs.map (zD .i64):=by
   clear hlen hb hp hcap hmax hsz
   induction xs generalizing cl with
   |nil=>exact hcl
   |cons y l ih=>
    obtain⟨cs,r,rfl,_,hr,hl⟩:=hcl
    have:cs=[.int .i64 y]:=hr
    rw[this,ih r hl];rfl
  subst hcl'
  have hH:Sort.Holds (zD .i64) w bk 0 xs.toArray:=by
   refine holds_of_blockI (cur:=(xs.map (zD .i64)++sp).toArray) (e:=3) hb ?_
   simp
  refine(lr (Tryz.slices_Sort_int bk 0 c xs w hH (ik hb) (by omega)) (λw' hw=>by cases hw.1)).mono ?_
  rw[IA]
  rintro e w' ⟨rfl,n,os,rfl⟩
  obtain⟨g1,g2,g3,g4,g5⟩:=grownBy_sortedI (w:=w) (g:=bk) (n:=n) (os:=os) (sortI xs).toArray
  have hnew:=heap_sortedI (w:=w) (g:=bk) (n:=n) (os:=os) (sortI xs).toArray hb
  have htake:=take_putCellsI (xs.map (zD .i64)++sp).toArray (sortI xs) (by rw[iV];simp)
  refine⟨h,[(bk,.cells (Sort.putCells (zD .i64) 0 (sortI xs).toArray (xs.map (zD .i64)++sp).toArray) 3 (0,0))],⟨g1,g2,g3,g4,λk hk hM=>g5 k hk (λe=>hM (by cases e;simp)),λ_ _ e=>e,λ_ _=>rfl,λk o e=>?_,λq hq=>?_,?_,?_,?_⟩,rfl,rfl,?_⟩
  .have hne:k≠bk:=λe'=>by
    have:=hp.free _ (qC.2 rfl)
    simp only at this
    rw[e',this]at e;cases e
   exact(g5 k (ik (hp.imm k o e)) (λe'=>by cases e';exact hne rfl)).trans (hp.imm k o e)
  .rw[qC.1 hq];exact hnew
  .simp
  .intro q hq;rw[qC.1 hq];exact hp.free (bk,zJ (xs.map (zD .i64)++sp).toArray 3 (0,0)) (qC.2 rfl)
  .intro q hq;rw[qC.1 hq];exact .inr (by simp)
  .refine .inr ⟨bk,(sortI xs).map (zD .i64),(Sort.putCells (zD .i64) 0 (sortI xs).toArray (xs.map (zD .i64)++sp).toArray).toList.drop xs.length,rfl,?_,?_,by rw[iV];exact hcap,by rw[iV];exact hmax,?_⟩
   .have:∀l:List Int,aY kB h (l.map (zD .i64)) l:=by
     intro l
     induction l with
     |nil=>rfl
     |cons y l ih=>exact⟨[.int .i64 y],l.map (zD .i64),rfl,rfl,rfl,ih⟩
    exact this _
   .rw[←htake,iV,List.take_append_drop]
    simpa[Sort.putCells]using hlen
   .rw[←htake,iV,List.take_append_drop]
section steps
variable {P:Program} {b:Frame} {n:Nat} {ops:Array Oper} {F:List Frame->(Machine->Prop)->Prop} {e:Env} {ds:List Deferred} {X:Cx} {h:HF} {L:LH} {K:Env->HF->LH->Prop}
variable {d:Option Nat} {ty:TypeId} {pos:String} {af:Array Edge} {g:Option (Nat×Bool)}
theorem nQ(A0 G Q:LH){v:Value}{Φ : LH->Prop}{f:FuncId}{ass:Array Operand}{ats:Array TypeId}{vs:List Value}(hc:∀args w,(callFunc f args).run P w=.ok (.enter f args) w)(hs:oo P f vs.toArray h G (λr h' G'=>h'=h/\r=.returned v/\Φ G'))(hL:L=A0++(G++Q))(hvs:ass.toList.map e.ev=vs)(t':∀G',Φ G'->K (pute e d v) h (A0++(G'++Q)))(hg:guardB ops e ⟨d,.call ⟨.value (.func f),ass,ats⟩,ty,pos,af,g⟩=true:=by rfl):
  Stp P b n ops F ds X ⟨d,.call ⟨.value (.func f),ass,ats⟩,ty,pos,af,g⟩ e h L K:=by
 unfold Stp
 rw[if_pos hg]
 intro w hw
 subst hL
 have hp:∀G:LH,(A0++(G++Q)).Perm (G++(A0++Q)):=λG=>by
  rw[←vD,←vD];exact List.Perm.append_right Q List.perm_append_comm
 have hw':=hw.perm (hp G)
 have harr:ass.map e.ev=vs.toArray:=Array.ext' (by simp[←hvs])
 have hr:(execOp e.ev ⟨d,.call ⟨.value (.func f),ass,ats⟩,ty,pos,af,g⟩).run P w=.ok (.enter f vs.toArray) w:=by
  simp[execOp,resolve,Env.ev,xJ,invoke,harr,hc]
 rw[hr]
 refine lW (by simp) (jX (rL.mono (hs w hw'.pre.left) ?_))
 rintro x w' ⟨h',B,hst,rfl,rfl,hG⟩
 exact⟨h',_,(St.after (A:=G) (F:=A0++Q) hw' hst).perm (hp B).symm,t' B hG⟩
end steps
end Go.Sg
