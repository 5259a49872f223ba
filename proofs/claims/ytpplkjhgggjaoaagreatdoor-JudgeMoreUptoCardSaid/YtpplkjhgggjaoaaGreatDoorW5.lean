import Derived.Shelf.SlSortCmp.WholeK
import Derived.Ground.SlsfProg
import Derived.Shelf.Small.Strs
import Derived.Shelf.Strconv.Itoa0
import Derived.Shelf.Strings.Search1
import Derived.Shelf.Sort.Plain
import Derived.Ground.Names2Prog
import Derived.Shelf.Slices.CompactI
import Derived.Shelf.Slices.SearchI
import Derived.Shelf.Slices.In.SortNone
import Derived.Shelf.Slices.Empties
import Derived.Ground.SlgcProg
import Derived.Shelf.SlicesG.Cmp
import Derived.Sort.OwnSortedInts
import Derived.Test.YtpplkjhgggjaoaaGreatDoorW4
/- A part of the proof of JudgeMore. -/
set_option linter.unusedVariables false
set_option linter.unusedSimpArgs false
set_option maxRecDepth 100000
open List renaming length_cons→xA,length_append→jA,length_nil→vB,toArray→kB,mem_singleton→xC,append_assoc→kC,getElem?_eq_getElem→qF,range→qH
open Go.Sg.Approval renaming cells→vA
open Bool renaming and_eq_true→zB,or_eq_true→xD,not_eq_true'→qE,eq_iff_iff→vM
open Go.Sg.Rp renaming int→zC,aM→xH,str→SO,hZ→Ty
open Go.IntKind renaming wrap→jC
open Go.Sg.Expr renaming cells→vC,ok→zG,mk→vG,iS→R3,aj→Sh,rp→SG,ew→TQ
open Go.Value renaming int→zD
open Go.Sg.Interest renaming cells→vD
open Go.Sg.Policy renaming cells→xE,mk→kN,ok→vP
open Go.Sg.OSeat renaming cells→vE,enc→Sk
open Go.Sg.SlC renaming nil→kE
open Nat renaming le_refl→jG,zero_le→qM
open Go.Sg.Document renaming aj→jH,rp→kR,cells→zT,ok→SC
open Go.Deferred renaming ofValue→xJ
open Go.Obj renaming cells→jJ
open Go.Sg.Budget renaming cells→kK
open Go.Result renaming andThen_ok→zM
open Go.Sg.HF renaming le→xN
open Go.Sg.Register renaming cells→vN,ok→Sa
open Go.Sg.Deputy renaming cells→zP
open Go.Sem renaming run_bind→xP
open Go.Sg.Appoint renaming cells→jR
open Go.Addr renaming add→vS
open Go.Sg.Expr.ok renaming of→Sm
open Go.Sg.St renaming start→Tf
open Go.Sg.Rule renaming mk→Ti,aj→TC,cells→TU

namespace Go.Sg
variable {X:Cx}{b:Frame}{dn dn':List Nat}{ds:List Deferred}{e e':Env}{h:HF}{k:List Item}{l:List Oper}{m' n:Nat}{q:List (Nat×Nat)}
section
open Go.Proofs Go.Proofs.Tryz
theorem ty56:tySz prog 56=some (1,false):=kr
theorem ty240:tySz prog 240=some (1,false):=kr
theorem ty162:tySz prog 162=some (1,false):=kr
theorem ty182:tySz prog 182=some (2,true):=kr
theorem ty31:tySz prog 31=some (1,false):=kr
theorem ty249:tySz prog 249=some (1,false):=kr
theorem ty3:tySz prog 3=some (1,false):=kr
theorem zc182:zeroC prog 182=some [.int .i64 0,.int .i64 0]:=kr
theorem bytes182:bytesOf prog 182=some 16:=kr
theorem zc3:zeroC prog 3=some [.int .i64 0]:=kr
theorem bytes3:bytesOf prog 3=some 8:=kr
theorem zc37:zeroC prog 37=some [.int .i64 0]:=kr
theorem ty37:tySz prog 37=some (1,false):=kr
theorem zc358:zeroC prog 358=some [.int .i64 0]:=kr
theorem ty358:tySz prog 358=some (1,true):=kr
theorem O5:fldOf prog 358 0=some 0:=kr
theorem ty196:tySz prog 196=some (2,true):=kr
theorem ty194:tySz prog 194=some (1,false):=kr
theorem ty193:tySz prog 193=some (1,false):=kr
theorem ty197:tySz prog 197=some (1,false):=kr
theorem ty97:tySz prog 97=some (7,true):=kr
theorem ty24:tySz prog 24=some (1,false):=kr
theorem ty4:tySz prog 4=some (1,false):=kr
theorem ty26:tySz prog 26=some (1,false):=kr
theorem zc196:zeroC prog 196=some [.slice none 0 0,.int .i64 0]:=kr
theorem zc97:zeroC prog 97=some [.int .i64 0,.int .i64 0,.int .i64 0,.int .i64 0,.int .i64 0,.bool false,.bool false]:=kr
theorem zc193:zeroC prog 193=some [.map none]:=kr
theorem zc56:zeroC prog 56=some [.map none]:=kr
theorem zc194:zeroC prog 194=some [.chan none]:=kr
theorem zc197:zeroC prog 197=some [.nilFunc]:=kr
theorem zc31:zeroC prog 31=some [.slice none 0 0]:=kr
theorem zv4:zeroV prog 4=some (.bool false):=kr
theorem zv24:zeroV prog 24=some (.slice none 0 0):=kr
theorem zv196:zeroV prog 196=some (.agg (kB [.slice none 0 0,.int .i64 0])):=kr
theorem bytes97:bytesOf prog 97=some 48:=kr
theorem bytes196:bytesOf prog 196=some 32:=kr
theorem O7:fldOf prog 196 0=some 0:=kr
theorem Qa:fldOf prog 97 0=some 0:=kr
theorem Mp:fldOf prog 97 3=some 3:=kr
theorem P9:fldOf prog 97 4=some 4:=kr
theorem O8:fldOf prog 158 1=some 1:=kr
theorem zc238:zeroC prog 238=some [.slice none 0 0,.map none,.slice none 0 0,.slice none 0 0,.slice none 0 0,.map none]:=kr
theorem ty211:tySz prog 211=some (1,false):=kr
theorem zc211:zeroC prog 211=some [.pointer none]:=kr
theorem ty236:tySz prog 236=some (1,false):=kr
theorem ty57:tySz prog 57=some (1,false):=kr
theorem ty228:tySz prog 228=some (2,true):=kr
theorem zc228:zeroC prog 228=some [.slice none 0 0,.map none]:=kr
theorem ty51:tySz prog 51=some (41,true):=kr
theorem zc51:zeroC prog 51=some (.int .i64 0::.int .i64 0::.int .i64 0::.int .i64 0::.int .i64 0::.int .i64 0::.slice none 0 0::.slice none 0 0::.slice none 0 0::.int .u8 0::.int .u8 0::.int .u8 0::.int .u8 0::.int .u8 0::.int .u8 0::.int .u8 0::.int .u8 0::.int .u8 0::.int .u8 0::.int .u8 0::.int .u8 0::.int .u8 0::.int .u8 0::.int .u8 0::.int .u8 0::.int .u8 0::.int .u8 0::.int .u8 0::.int .u8 0::.int .u8 0::.int .u8 0::.int .u8 0::.int .u8 0::.int .u8 0::.int .u8 0::.int .u8 0::.int .u8 0::.int .u8 0::.int .u8 0::.int .u8 0::.int .u8 0::[]):=kr
theorem ty190:tySz prog 190=some (1,false):=kr
theorem bytes4:bytesOf prog 4=some 1:=kr
theorem O6:fldOf prog 238 3=some 4:=kr
theorem Qh:fldOf prog 51 0=some 0:=kr
theorem Qd:fldOf prog 51 7=some 7:=kr
theorem Ip:fldOf prog 51 8=some 8:=kr
theorem Bw:fldOf prog 36 0=some 0:=kr
theorem Mq:fldOf prog 36 1=some 1:=kr
theorem Qi:fldOf prog 36 2=some 2:=kr
theorem Bv:fldOf prog 36 3=some 3:=kr
theorem Bz:fldOf prog 126 0=some 0:=kr
theorem Bx:fldOf prog 126 1=some 1:=kr
theorem ty36:tySz prog 36=some (4,true):=kr
theorem ty126:tySz prog 126=some (2,true):=kr
theorem ty33:tySz prog 33=some (1,false):=kr
theorem ty123:tySz prog 123=some (50,true):=kr
theorem ty25:tySz prog 25=some (1,false):=kr
theorem ty32:tySz prog 32=some (1,false):=kr
theorem ty64:tySz prog 64=some (10,true):=kr
theorem zc36:zeroC prog 36=some [.int .i64 0,.int .i64 0,.slice none 0 0,.slice none 0 0]:=kr
theorem zc126:zeroC prog 126=some [.int .i64 0,.nilFunc]:=kr
theorem zc123:zeroC prog 123=some (.slice none 0 0::.slice none 0 0::.slice none 0 0::.slice none 0 0::.slice none 0 0::.slice none 0 0::.slice none 0 0::.int .i64 0::.int .i64 0::.int .i64 0::.int .i64 0::.int .i64 0::.int .i64 0::.slice none 0 0::.slice none 0 0::.slice none 0 0::.int .u8 0::.int .u8 0::.int .u8 0::.int .u8 0::.int .u8 0::.int .u8 0::.int .u8 0::.int .u8 0::.int .u8 0::.int .u8 0::.int .u8 0::.int .u8 0::.int .u8 0::.int .u8 0::.int .u8 0::.int .u8 0::.int .u8 0::.int .u8 0::.int .u8 0::.int .u8 0::.int .u8 0::.int .u8 0::.int .u8 0::.int .u8 0::.int .u8 0::.int .u8 0::.int .u8 0::.int .u8 0::.int .u8 0::.int .u8 0::.int .u8 0::.int .u8 0::.int .i64 0::.int .i64 0::[]):=kr
theorem zc64:zeroC prog 64=some [.string (⟨#[]⟩:ByteArray),.slice none 0 0,.slice none 0 0,.slice none 0 0,.int .i64 0,.int .i64 0,.int .i64 0,.string (⟨#[]⟩:ByteArray),.slice none 0 0,.int .i64 0]:=kr
theorem zc4:zeroC prog 4=some [.bool false]:=kr
theorem Mr:fldOf prog 30 3=some 3:=kr
theorem Qk:fldOf prog 30 4=some 4:=kr
theorem Qj:fldOf prog 30 5=some 5:=kr
theorem Pb:fldOf prog 123 0=some 0:=kr
theorem FG:fldOf prog 123 1=some 7:=kr
theorem Pa:fldOf prog 123 2=some 48:=kr
theorem O9:fldOf prog 123 3=some 49:=kr
theorem Qg:fldOf prog 51 1=some 1:=kr
theorem Qf:fldOf prog 51 2=some 2:=kr
theorem Qe:fldOf prog 51 3=some 3:=kr
theorem Qb:fldOf prog 89 2=some 2:=kr
theorem ty89:tySz prog 89=some (7,true):=kr
theorem zc89:zeroC prog 89=some [.int .i64 0,.int .i64 0,.int .i64 0,.int .i64 0,.int .i64 0,.int .i64 0,.bool false]:=kr
theorem ty93:tySz prog 93=some (10,true):=kr
theorem zc93:zeroC prog 93=some [.int .i64 0,.int .i64 0,.int .i64 0,.int .i64 0,.int .i64 0,.int .i64 0,.int .i64 0,.int .i64 0,.int .i64 0,.bool false]:=kr
theorem ty101:tySz prog 101=some (8,true):=kr
theorem zc101:zeroC prog 101=some [.int .i64 0,.int .i64 0,.int .i64 0,.int .i64 0,.int .i64 0,.int .i64 0,.int .i64 0,.bool false]:=kr
theorem ty62:tySz prog 62=some (5,true):=kr
theorem zc327:zeroC prog 327=some [.int .i64 0,.int .i64 0,.int .i64 0,.string (⟨#[]⟩:ByteArray),.slice none 0 0,.int .i64 0]:=kr
theorem ty60:tySz prog 60=some (1,false):=kr
theorem zc62:zeroC prog 62=some [.int .i64 0,.int .i64 0,.int .i64 0,.string (⟨#[]⟩:ByteArray),.slice none 0 0]:=kr
theorem ty327:tySz prog 327=some (6,true):=kr
theorem ty59:tySz prog 59=some (1,false):=kr
theorem ty79:tySz prog 79=some (8,true):=kr
theorem zc79:zeroC prog 79=some [.string (⟨#[]⟩:ByteArray),.int .i64 0,.int .i64 0,.int .i64 0,.int .i64 0,.int .i64 0,.string (⟨#[]⟩:ByteArray),.slice none 0 0]:=kr
theorem Qc:fldOf prog 79 3=some 3:=kr
theorem bytes62:bytesOf prog 62=some 64:=kr
theorem ty58:tySz prog 58=some (1,false):=kr
theorem ty9:tySz prog 9=some (1,false):=kr
theorem zc60:zeroC prog 60=some [.slice none 0 0]:=kr
theorem ty168:tySz prog 168=some (1,false):=kr
theorem bytes79:bytesOf prog 79=some 96:=kr
theorem ty105:tySz prog 105=some (13,true):=kr
theorem zc105:zeroC prog 105=some [.int .i64 0,.int .i64 0,.int .i64 0,.string (⟨#[]⟩:ByteArray),.slice none 0 0,.slice none 0 0,.slice none 0 0,.int .i64 0,.int .i64 0,.int .i64 0,.string (⟨#[]⟩:ByteArray),.slice none 0 0,.int .i64 0]:=kr
theorem Ke:fldOf prog 105 3=some 3:=kr
theorem zv3:zeroV prog 3=some (.int .i64 0):=kr
theorem ty81:tySz prog 81=some (8,true):=kr
theorem zc81:zeroC prog 81=some [.int .i64 0,.int .i64 0,.int .i64 0,.int .i64 0,.int .i64 0,.int .i64 0,.int .i64 0,.bool false]:=kr
theorem ty22:tySz prog 22=some (1,false):=kr
theorem ty23:tySz prog 23=some (1,false):=kr
theorem ty27:tySz prog 27=some (1,false):=kr
theorem ty28:tySz prog 28=some (1,false):=kr
theorem ty30:tySz prog 30=some (7,true):=kr
theorem zc274:zeroC prog 274=some [.int .i64 0,.int .i64 0,.int .i64 0,.int .i64 0]:=kr
theorem ty274:tySz prog 274=some (4,true):=kr
theorem zc28:zeroC prog 28=some [.slice none 0 0]:=kr
theorem zc270:zeroC prog 270=some [.map none]:=kr
theorem ty270:tySz prog 270=some (1,false):=kr
theorem zv81:zeroV prog 81=some (.agg (kB [.int .i64 0,.int .i64 0,.int .i64 0,.int .i64 0,.int .i64 0,.int .i64 0,.int .i64 0,.bool false])):=kr
theorem eqg81:prog.eqGuardType prog.depth 81=false:=kr
theorem bytes81:bytesOf prog 81=some 64:=kr
theorem zv89:zeroV prog 89=some (.agg (kB [.int .i64 0,.int .i64 0,.int .i64 0,.int .i64 0,.int .i64 0,.int .i64 0,.bool false])):=kr
theorem bytes93:bytesOf prog 93=some 80:=kr
theorem ty277:tySz prog 277=some (1,false):=kr
theorem zc279:zeroC prog 279=some [.int .i64 0,.int .i64 0,.int .i64 0,.int .i64 0]:=kr
theorem zv93:zeroV prog 93=some (.agg (kB [.int .i64 0,.int .i64 0,.int .i64 0,.int .i64 0,.int .i64 0,.int .i64 0,.int .i64 0,.int .i64 0,.int .i64 0,.bool false])):=kr
theorem eqg93:prog.eqGuardType prog.depth 93=false:=kr
theorem ty223:tySz prog 223=some (1,false):=kr
theorem ty184:tySz prog 184=some (5,true):=kr
theorem zc223:zeroC prog 223=some [.nilFunc]:=kr
theorem zc277:zeroC prog 277=some [.map none]:=kr
theorem ty279:tySz prog 279=some (4,true):=kr
theorem zc184:zeroC prog 184=some [.int .i64 0,.int .i64 0,.int .i64 0,.int .i64 0,.int .i64 0]:=kr
theorem ty282:tySz prog 282=some (1,false):=kr
theorem zc284:zeroC prog 284=some [.int .i64 0,.int .i64 0,.bool false]:=kr
theorem zv97:zeroV prog 97=some (.agg (kB [.int .i64 0,.int .i64 0,.int .i64 0,.int .i64 0,.int .i64 0,.bool false,.bool false])):=kr
theorem eqg97:prog.eqGuardType prog.depth 97=false:=kr
theorem zc282:zeroC prog 282=some [.map none]:=kr
theorem ty284:tySz prog 284=some (3,true):=kr
theorem zv105:zeroV prog 105=some (.agg (kB [.int .i64 0,.int .i64 0,.int .i64 0,.string (⟨#[]⟩:ByteArray),.slice none 0 0,.slice none 0 0,.slice none 0 0,.int .i64 0,.int .i64 0,.int .i64 0,.string (⟨#[]⟩:ByteArray),.slice none 0 0,.int .i64 0])):=kr
theorem zc26:zeroC prog 26=some [.slice none 0 0]:=kr
theorem bytes105:bytesOf prog 105=some 184:=kr
theorem zv152:zeroV prog 152=some (.nilFunc):=kr
theorem ty111:tySz prog 111=some (5,true):=kr
theorem zc111:zeroC prog 111=some [.int .i64 0,.int .i64 0,.int .i64 0,.int .i64 0,.int .i64 0]:=kr
theorem zc267:zeroC prog 267=some [.int .i64 0,.int .i64 0]:=kr
theorem ty267:tySz prog 267=some (2,true):=kr
theorem zv101:zeroV prog 101=some (.agg (kB [.int .i64 0,.int .i64 0,.int .i64 0,.int .i64 0,.int .i64 0,.int .i64 0,.int .i64 0,.bool false])):=kr
theorem eqg101:prog.eqGuardType prog.depth 101=false:=kr
theorem bytes101:bytesOf prog 101=some 64:=kr
theorem zv31:zeroV prog 31=some (.slice none 0 0):=kr
theorem zc158:zeroC prog 158=some [.int .i64 0,.int .i64 0]:=kr
theorem ty158:tySz prog 158=some (2,true):=kr
theorem ty68:tySz prog 68=some (1,false):=kr
theorem bytes158:bytesOf prog 158=some 16:=kr
theorem ty67:tySz prog 67=some (1,false):=kr
theorem ty167:tySz prog 167=some (3,true):=kr
theorem zc330:zeroC prog 330=some [.nilFunc]:=kr
theorem ty330:tySz prog 330=some (1,false):=kr
theorem zc261:zeroC prog 261=some [.nilFunc,.nilFunc,.nilFunc,.nilFunc,.nilFunc]:=kr
theorem ty260:tySz prog 260=some (1,false):=kr
theorem ty261:tySz prog 261=some (5,true):=kr
theorem zc167:zeroC prog 167=some [.int .i64 0,.slice none 0 0,.slice none 0 0]:=kr
theorem zc68:zeroC prog 68=some [.slice none 0 0]:=kr
theorem bytes68:bytesOf prog 68=some 24:=kr
theorem zc9:zeroC prog 9=some [.string (⟨#[]⟩:ByteArray)]:=kr
theorem zc30:zeroC prog 30=some [.slice none 0 0,.slice none 0 0,.slice none 0 0,.slice none 0 0,.slice none 0 0,.slice none 0 0,.slice none 0 0]:=kr
def uJ(x:gq)(h:HF)(vs:List Go.Value):Prop:=∃(r0:CA),vs=[.agg (gq.cells x r0).toArray]/\gq.ok h x r0
theorem nW(x:gq)(h:HF)(vs:List Go.Value)(e:uJ x h vs):vs.length=1:=by
 obtain⟨_,e,_⟩:=e;rw[e];rfl
def xu(x:(Int×Int))(h:HF)(vs:List Go.Value):Prop:=vs=[.int .i64 x.1,.int .i64 x.2]
theorem DH(x:(Int×Int))(h:HF)(vs:List Go.Value)(e:xu x h vs):vs.length=2:=by
 rw[e];rfl
def pf(x:Approval)(h:HF)(vs:List Go.Value):Prop:=vs=[.agg (vA x).toArray]
theorem pV(x:Approval)(h:HF)(vs:List Go.Value)(e:pf x h vs):vs.length=1:=by
 rw[e];rfl
def sQ(x:Deputy)(h:HF)(vs:List Go.Value):Prop:=vs=[.agg (zP x).toArray]
theorem Fb(x:Deputy)(h:HF)(vs:List Go.Value)(e:sQ x h vs):vs.length=1:=by
 rw[e];rfl
def vo(x:Interest)(h:HF)(vs:List Go.Value):Prop:=vs=[.agg (vD x).toArray]
theorem Cl(x:Interest)(h:HF)(vs:List Go.Value)(e:vo x h vs):vs.length=1:=by
 rw[e];rfl
def yw(x:Int)(h:HF)(vs:List Go.Value):Prop:=vs=[.int .i64 x]
theorem C3(x:Int)(h:HF)(vs:List Go.Value)(e:yw x h vs):vs.length=1:=by
 rw[e];rfl
def rB(x:(Int×Version))(h:HF)(vs:List Go.Value):Prop:=∃(r0:pA),vs=[.int .i64 x.1,.agg (Version.cells x.2 r0).toArray]/\Version.ok h x.2 r0
theorem yO(x:(Int×Version))(h:HF)(vs:List Go.Value)(e:rB x h vs):vs.length=2:=by
 obtain⟨_,e,_⟩:=e;rw[e];rfl
def ou(x:Holder)(h:HF)(vs:List Go.Value):Prop:=vs=[.agg (Holder.cells x).toArray]
theorem sP(x:Holder)(h:HF)(vs:List Go.Value)(e:ou x h vs):vs.length=1:=by
 rw[e];rfl
theorem It(a b:Approval)(w:World):(Op.equal 81 (Approval.enc a) (Approval.enc b)).run prog w=.ok (decide (a=b)) w:=
 rT Qr (by kernel_rfl) (by kernel_rfl) (by rw[vM];cases a;cases b;simp[eqv,nth,vA]) w
theorem Lp(a b:Deputy)(w:World):(Op.equal 93 (Deputy.enc a) (Deputy.enc b)).run prog w=.ok (decide (a=b)) w:=
 rT underlying93 (by kernel_rfl) (by kernel_rfl) (by rw[vM];cases a;cases b;simp[eqv,nth,zP]) w
theorem Iq(a b:Interest)(w:World):(Op.equal 97 (Interest.enc a) (Interest.enc b)).run prog w=.ok (decide (a=b)) w:=
 rT underlying97 (by kernel_rfl) (by kernel_rfl) (by rw[vM];cases a;cases b;simp[eqv,nth,vD]) w
theorem Lq(a b:Budget)(w:World):(Op.equal 101 (Budget.enc a) (Budget.enc b)).run prog w=.ok (decide (a=b)) w:=
 rT underlying101 (by kernel_rfl) (by kernel_rfl) (by rw[vM];cases a;cases b;simp[eqv,nth,kK]) w
theorem Nd(a b:OSeat)(w:World):(Op.equal 182 (Sk a) (Sk b)).run prog w=.ok (decide (a=b)) w:=
 rT IU (by kernel_rfl) (by kernel_rfl) (by rw[vM];cases a;cases b;simp[eqv,nth,vE]) w
theorem vh:wG prog 182 Sk:=xl IU (λe a w=>sJ e IU (by kernel_rfl) w) Nd (λa=>by
 show Instr.sameBits (9999+1) _ _=true
 simp[Instr.sameBits,Sk,vE])
theorem Lr(a b:gH)(w:World):(Op.equal 267 (gH.enc a) (gH.enc b)).run prog w=.ok (decide (a=b)) w:=
 rT LP (by kernel_rfl) (by kernel_rfl) (by rw[vM];cases a;cases b;simp[eqv,nth,gH.cells]) w
theorem xm:wG prog 267 gH.enc:=xl LP (λe a w=>sJ e LP (by kernel_rfl) w) Lr (λa=>by
 show Instr.sameBits (9999+1) _ _=true
 simp[Instr.sameBits,gH.enc,gH.cells])
theorem Iu(a b:eu)(w:World):(Op.equal 274 (eu.enc a) (eu.enc b)).run prog w=.ok (decide (a=b)) w:=
 rT NS (by kernel_rfl) (by kernel_rfl) (by rw[vM];cases a;cases b;simp[eqv,nth,eu.cells]) w
theorem lU:wG prog 274 eu.enc:=xl NS (λe a w=>sJ e NS (by kernel_rfl) w) Iu (λa=>by
 show Instr.sameBits (9999+1) _ _=true
 simp[Instr.sameBits,eu.enc,eu.cells])
theorem Is(a b:dZ)(w:World):(Op.equal 279 (dZ.enc a) (dZ.enc b)).run prog w=.ok (decide (a=b)) w:=
 rT LO (by kernel_rfl) (by kernel_rfl) (by rw[vM];cases a;cases b;simp[eqv,nth,dZ.cells]) w
theorem ur:wG prog 279 dZ.enc:=xl LO (λe a w=>sJ e LO (by kernel_rfl) w) Is (λa=>by
 show Instr.sameBits (9999+1) _ _=true
 simp[Instr.sameBits,dZ.enc,dZ.cells])
theorem Ir(a b:dP)(w:World):(Op.equal 284 (dP.enc a) (dP.enc b)).run prog w=.ok (decide (a=b)) w:=
 rT LN (by kernel_rfl) (by kernel_rfl) (by rw[vM];cases a;cases b;simp[eqv,nth,dP.cells]) w
theorem uq:wG prog 284 dP.enc:=xl LN (λe a w=>sJ e LN (by kernel_rfl) w) Ir (λa=>by
 show Instr.sameBits (9999+1) _ _=true
 simp[Instr.sameBits,dP.enc,dP.cells])
def tabF:List (Nat×Nat×Nat):=(358,0,0)::(196,0,0)::(196,1,1)::(97,0,0)::(97,3,3)::(97,4,4)::(97,5,5)::(158,1,1)::(381,0,0)::(381,1,1)::(238,0,0)::(238,1,2)::(238,2,3)::(238,3,4)::(238,4,5)::(228,0,0)::(228,1,1)::(51,0,0)::(51,7,7)::(51,8,8)::(36,0,0)::(36,1,1)::(36,2,2)::(36,3,3)::(126,0,0)::(126,1,1)::(30,3,3)::(30,4,4)::(30,5,5)::(123,0,0)::(123,1,7)::(123,2,48)::(123,3,49)::(51,1,1)::(51,2,2)::(51,3,3)::(89,6,6)::(89,0,0)::(89,1,1)::(89,2,2)::(89,3,3)::(89,4,4)::(89,5,5)::(93,0,0)::(93,1,1)::(93,2,2)::(93,4,4)::(93,5,5)::(93,6,6)::(93,7,7)::(93,9,9)::(93,3,3)::(93,8,8)::(97,1,1)::(97,2,2)::(101,7,7)::(101,0,0)::(101,1,1)::(101,2,2)::(101,3,3)::(101,4,4)::(101,5,5)::(101,6,6)::(62,4,4)::(64,3,3)::(79,3,3)::(64,4,4)::(64,2,2)::(64,1,1)::(327,1,5)::(62,0,0)::(64,0,0)::(327,0,0)::(62,3,3)::(62,1,1)::(64,5,9)::(79,0,0)::(79,2,2)::(62,2,2)::(79,1,1)::(105,0,0)::(105,1,1)::(105,2,2)::(105,3,3)::(51,4,4)::(51,5,5)::(51,6,6)::(81,0,0)::(81,1,1)::(81,2,2)::(81,3,3)::(81,4,4)::(81,5,5)::(81,6,6)::(30,0,0)::(30,1,1)::(30,2,2)::(30,6,6)::(81,7,7)::(184,0,0)::(184,1,1)::(184,2,2)::(184,3,3)::(184,4,4)::(97,6,6)::(111,0,0)::(111,1,1)::(111,2,2)::(111,3,3)::(111,4,4)::(182,1,1)::(182,0,0)::(158,0,0)::(167,1,1)::(167,2,2)::(167,0,0)::[]
def tabY:List Nat:=56::240::162::31::249::3::37::194::193::197::24::4::26::281::211::236::57::190::33::25::32::366::60::59::58::9::168::22::23::27::28::270::277::223::282::68::67::330::260::[]
def tabS:List Nat:=22::23::24::25::26::27::28::31::32::57::58::59::60::67::68::129::141::249::378::[]
theorem tabs:tabOk prog tabF tabY tabS=true:=kr
theorem qK(m:Nat)(is:List Nat){F:List Frame->(Machine->Prop)->Prop}{L:LH}{s:Qs}(hr:runL tabF tabY tabS n L m is (.tt k e)=some (s,q))(t:s.holds prog b n F ds X h L)(hq:Qo q:=by repeat (first|exact trivial|refine⟨rfl,?_⟩)):TT prog b n k F e ds X h L:=rU tabs m is _ hr hq t
theorem qL(m:Nat)(is:List Nat){ops:Array Oper}{F:List Frame->(Machine->Prop)->Prop}{L:LH}{s:Qs}(hr:runL tabF tabY tabS n L m is (.to ops l k e)=some (s,q))(t:s.holds prog b n F ds X h L)(hq:Qo q:=by repeat (first|exact trivial|refine⟨rfl,?_⟩)):TO prog b n ops l k F e ds X h L:=rU tabs m is _ hr hq t
theorem tabsF:(tabF.all λx=>fldOf prog x.1 x.2.1==some x.2.2)=true:=kr
theorem qB(is:List Nat){h1:HF}{K:LH}{m:Nat}{F:List Frame->(Machine->Prop)->Prop}{L:LH}(hr:runB tabF l is m dn e=some (m',dn',e'))(t:TA prog b n l.toArray k F ds X (Jst h1 K) m' dn' e' h L)(hsep:sepAll l.toArray=true:=by assumption)(hJ:Jst h1 K h L:=by exact jn)(hn:allNext l is dn=true:=by kernel_rfl):TA prog b n l.toArray k F ds X (Jst h1 K) m dn e h L:=DT tabsF hsep hJ is m dn e hr hn t
theorem qD(a c:Nat){h1:HF}{K:LH}{m:Nat}{F:List Frame->(Machine->Prop)->Prop}{L:LH}(hr:runB tabF l (List.range' a c) m dn e=some (m',dn',e'))(t:TA prog b n l.toArray k F ds X (Jst h1 K) m' dn' e' h L)(hsep:sepAll l.toArray=true:=by assumption)(hJ:Jst h1 K h L:=by exact jn)(hn:allNext l (List.range' a c) dn=true:=by kernel_rfl):TA prog b n l.toArray k F ds X (Jst h1 K) m dn e h L:=DT tabsF hsep hJ _ m dn e hr hn t
theorem mixed:prog.follows .mixedOrders=true:=kr
end
section
open Go.Proofs Go.Proofs.Tryz
set_option maxHeartbeats 2000000
theorem jp(h:HF)(eE:Int)(low:Int)(high:Int)  : Ret prog 175 [I eE,I low,I high] h (.bool (dX eE low high)):=by
 refine sT func175 U ntmps175 U λX hM hX hF=>?_
 have hs0:=@rfl _ (dX eE low high)
 refine qT 10 U (bp 4 [10,11,12,13,14] 10 14 (decide (eE<=high)) U (λc1 hk1=>?_) (λe=>?_))
 .exact av (qO 3 U (hk1 _ U))
 exact an (nretP [.bool (decide (low<=eE)&&decide (eE<=high))] (cs hs0))
theorem lY(h:HF)(eE:Int)  : Ret prog 89 [I eE] h (.bool (fg eE)):=by
 refine sT func89 U ntmps89 U λX hM hX hF=>?_
 have hs0:=@rfl _ (fg eE)
 exact sr (qO 5 U (ai GU (jp h eE 0 31) U (an (nretP [.bool (dX eE 0 31)] (cs hs0)))))
theorem iW(h:HF)(eE:Int)  : Ret prog 90 [I eE] h (.bool (dq eE)):=by
 refine sT func90 U ntmps90 U λX hM hX hF=>?_
 have hs0:=@rfl _ (dq eE)
 exact sr (qO 5 U (ai GU (jp h eE 0 1099511627775) U (an (nretP [.bool (dX eE 0 1099511627775)] (cs hs0)))))
theorem nM(h:HF)(eE:Int)  : Ret prog 107 [I eE] h (.bool (fY eE)):=by
 refine sT func107 U ntmps107 U λX hM hX hF=>?_
 have hs0:=@rfl _ (fY eE)
 exact sr (qO 5 U (ai GU (jp h eE 0 63) U (an (nretP [.bool (dX eE 0 63)] (cs hs0)))))
theorem Cd(h:HF)(x:Appoint)  : Ret prog 145 [.agg (jR x).toArray] h (.bool (nU x)):=by
 refine sT func145 U ntmps145 U λX hM hX hF=>?_
 have hs0:=@rfl _ (nU x)
 refine sr (cv (λb1=>qL 13 [0] U (ae hs0 U (λc1 hs1=>?_) (λc1 hs2=>?_))))
 .refine qK 8 [0] U (ai GU (jp h x.No 0 1048576) U (av (bp 4 [10,11,12,13,14] 10 14 (dq x.At) U (λc2 hk1=>?_) (λe=>?_))))
  .exact qL 2 [0] U (ai Ea (iW h x.At) U (eB U (hk1 _ U)))
  refine av (bp 4 [15,16,17,18,19] 15 19 (dq x.Known) U (λc3 hk2=>?_) (λe=>?_))
  .exact qL 2 [0] U (ai Ea (iW h x.Known) U (eB U (hk2 _ U)))
  refine av (bp 4 [20,21,22,23,24] 20 24 (fg x.Office) U (λc4 hk3=>?_) (λe=>?_))
  .exact qL 2 [0] U (ai NR (lY h x.Office) U (eB U (hk3 _ U)))
  refine av (bp 4 [25,26,27,28,29] 25 29 (fY x.Person) U (λc5 hk4=>?_) (λe=>?_))
  .exact qL 2 [0] U (ai call107 (nM h x.Person) U (eB U (hk4 _ U)))
  refine av (bp 6 [30,31,32,33,34,35,36] 30 36 (dX x.Weight 0 0) U (λc6 hk5=>?_) (λe=>?_))
  .exact qL 4 [0] U (ai GU (jp h x.Weight 0 0) U (eB U (hk5 _ U)))
  exact an (nretP [.bool ((((((dX x.No 0 1048576)&&(dq x.At))&&(dq x.Known))&&(fg x.Office))&&(fY x.Person))&&(dX x.Weight 0 0))] (cs hs1))
 refine qK 5 [0] U (ai GU (jp h x.No 0 1048576) U (av (bp 4 [10,11,12,13,14] 10 14 (dq x.At) U (λc7 hk6=>?_) (λe=>?_))))
 .exact qL 2 [0] U (ai Ea (iW h x.At) U (eB U (hk6 _ U)))
 refine av (bp 4 [15,16,17,18,19] 15 19 (dq x.Known) U (λc8 hk7=>?_) (λe=>?_))
 .exact qL 2 [0] U (ai Ea (iW h x.Known) U (eB U (hk7 _ U)))
 refine av (bp 4 [20,21,22,23,24] 20 24 (fg x.Office) U (λc9 hk8=>?_) (λe=>?_))
 .exact qL 2 [0] U (ai NR (lY h x.Office) U (eB U (hk8 _ U)))
 refine av (bp 4 [25,26,27,28,29] 25 29 (fY x.Person) U (λc10 hk9=>?_) (λe=>?_))
 .exact qL 2 [0] U (ai call107 (nM h x.Person) U (eB U (hk9 _ U)))
 refine av (bp 6 [30,31,32,33,34,35,36] 30 36 (dX x.Weight 1 64) U (λc11 hk10=>?_) (λe=>?_))
 .exact qL 4 [0] U (ai GU (jp h x.Weight 1 64) U (eB U (hk10 _ U)))
 exact an (nretP [.bool ((((((dX x.No 0 1048576)&&(dq x.At))&&(dq x.Known))&&(fg x.Office))&&(fY x.Person))&&(dX x.Weight 1 64))] (cs hs2))
theorem pT(h:HF)(l:List Appoint)(ep:Option Addr)(eo:Nat)(hl:SlC Appoint.rp h ep eo l):Ret prog 65 [.slice ep l.length eo] h (I (dg l)):=by
 refine sT func65 U ntmps65 U λX hM hX hF=>?_
 have hs0:=@rfl _ (dg l)
 refine qK 11 [] U (ae hs0 U (λc1 hs1=>?_) (λc1 hs2=>?_))
 .have c1p:=of_decide_eq_true c1
  exact sr (an (nretP [I 2] (ci hs1)))
 have c1p:=of_decide_eq_false c1
 refine qK 12 [] U ?_
 refine lp1 l (λi w=>[(3,I w),(9,.slice ep l.length eo),(10,I (l.length:Int)),(11,I (i:Int))]) ([]) (λs1 i w=>(dg.L1 (dg.K1)) s1 w) (-1) hl.1.1 hs2 ?_ ?_
 .rintro i1 iu fm hs4 e
  exact sr (an (nretP [I 0] (ci hs4)))
 rintro i1 iu y1 rz1 hd1 df aS ek gu hs6 hx1 ag1 e
 refine sr (tO df U (qO 8 U (aA (iF jR Eb ty89 hl.1 aS U U U (λq2 A2=>dt ty89 A2 U U (aT zc89 (λb2=>aO 0 ty89 U U U U U U (qO 4 U (cM 0 ty89 U U U (ai call145 (Cd h y1) U (qO 2 U (bT 5 [18,19,20,21,22,23] 18 23 (decide (y1.No<=iu)) U (λc2 hk1=>?_) (λe=>?_)))))))))))))
 .exact qL 5 [0] U (hk1 _ U)
 refine aF (ae hs6 U (λc3 hs7=>?_) (λc3 hs8=>?_))
 .exact sr (an (nretP [I 150] (ci hs7)))
 exact qK 8 [0] U (oi i1 U (qO 2 U (bo (L':=[]) js (ag1 y1.No hs8))))
theorem ik(h:HF)(eE:Int)(low:Int)(high:Int)  : Ret prog 201 [I eE,I low,I high] h (.bool (cY eE low high)):=by
 refine sT func201 U ntmps201 U λX hM hX hF=>?_
 have hs0:=@rfl _ (cY eE low high)
 refine qT 10 U (bp 4 [10,11,12,13,14] 10 14 (decide (eE<=high)) U (λc1 hk1=>?_) (λe=>?_))
 .exact av (qO 3 U (hk1 _ U))
 exact an (nretP [.bool (decide (low<=eE)&&decide (eE<=high))] (cs hs0))
theorem lN(h:HF)(eE:Int)  : Ret prog 200 [I eE] h (.bool (fZ eE)):=by
 refine sT func200 U ntmps200 U λX hM hX hF=>?_
 have hs0:=@rfl _ (fZ eE)
 exact sr (qO 5 U (ai CH (ik h eE 0 63) U (an (nretP [.bool (cY eE 0 63)] (cs hs0)))))
theorem mG(h:HF)(eE:Int)  : Ret prog 202 [I eE] h (.bool (gx eE)):=by
 refine sT func202 U ntmps202 U λX hM hX hF=>?_
 have hs0:=@rfl _ (gx eE)
 exact sr (qO 5 U (ai CH (ik h eE 0 1099511627775) U (an (nretP [.bool (cY eE 0 1099511627775)] (cs hs0)))))
theorem BB(h:HF)(x:Deputy)  : Ret prog 146 [.agg (zP x).toArray] h (.bool (nt x)):=by
 refine sT func146 U ntmps146 U λX hM hX hF=>?_
 have hs0:=@rfl _ (nt x)
 refine sr (cv (λb1=>qL 7 [0] U (ai CH (ik h x.No 0 1048576) U (qO 2 U (bT 5 [7,8,9,10,11,12] 7 12 (!(gx x.At)) U (λc1 hk1=>?_) (λe=>?_))))))
 .exact qL 2 [0] U (ai NQ (mG h x.At) U (qO 2 U (hk1 _ U)))
 refine av (bT 5 [13,14,15,16,17,18] 13 18 (!(gx x.Known)) U (λc2 hk2=>?_) (λe=>?_))
 .exact qL 2 [0] U (ai NQ (mG h x.Known) U (qO 2 U (hk2 _ U)))
 refine av (bT 5 [19,20,21,22,23,24] 19 24 (!(fZ x.From)) U (λc3 hk3=>?_) (λe=>?_))
 .exact qL 2 [0] U (ai NP (lN h x.From) U (qO 2 U (hk3 _ U)))
 refine av (bT 5 [25,26,27,28,29,30] 25 30 (!(fZ x.To)) U (λc4 hk4=>?_) (λe=>?_))
 .exact qL 2 [0] U (ai NP (lN h x.To) U (qO 2 U (hk4 _ U)))
 refine av (bT 6 [31,32,33,34,35,36,37] 31 37 (x.From==x.To) U (λc5 hk5=>?_) (λe=>?_))
 .exact qL 6 [0,0] U (hk5 _ U)
 refine av (bT 5 [38,39,40,41,42,43] 38 43 (!(cY x.Office 0 31)) U (λc6 hk6=>?_) (λe=>?_))
 .exact qL 2 [0] U (ai CH (ik h x.Office 0 31) U (qO 2 U (hk6 _ U)))
 refine av (bT 5 [44,45,46,47,48,49] 44 49 (!(cY x.Kind (-1) 15)) U (λc7 hk7=>?_) (λe=>?_))
 .exact qL 2 [0] U (ai CH (ik h x.Kind (-1) 15) U (qO 2 U (hk7 _ U)))
 refine aF (ae hs0 U (λc8 hs1=>?_) (λc8 hs2=>?_))
 .exact sr (an (nretP [.bool false] (cs hs1)))
 refine qK 7 [0] U (ae hs2 U (λc9 hs4=>?_) (λc9 hs5=>?_))
 .refine qK 6 [0] U (bp 4 [55,56,57,58,59] 55 59 (x.Most==0) U (λc10 hk8=>?_) (λe=>?_))
  .exact qL 4 [0] U (hk8 _ U)
  exact an (nretP [.bool ((x.Until==0)&&(x.Most==0))] (cs hs4))
 refine qK 9 [0,0] U (bp 4 [65,66,67,68,69] 65 69 (decide (x.Until<=1099511627776)) U (λc11 hk9=>?_) (λe=>?_))
 .exact qL 4 [0] U (hk9 _ U)
 refine av (bp 4 [70,71,72,73,74] 70 74 (cY x.Most 0 1099511627776) U (λc12 hk10=>?_) (λe=>?_))
 .exact qL 2 [0] U (ai CH (ik h x.Most 0 1099511627776) U (eB U (hk10 _ U)))
 exact an (nretP [.bool ((decide (x.At<x.Until)&&decide (x.Until<=1099511627776))&&(cY x.Most 0 1099511627776))] (cs hs5))
theorem tW(h:HF)(l:List Deputy)(ep:Option Addr)(eo:Nat)(hl:SlC Deputy.rp h ep eo l):Ret prog 66 [.slice ep l.length eo] h (I (dB l)):=by
 refine sT func66 U ntmps66 U λX hM hX hF=>?_
 have hs0:=@rfl _ (dB l)
 refine qK 11 [] U (ae hs0 U (λc1 hs1=>?_) (λc1 hs2=>?_))
 .have c1p:=of_decide_eq_true c1
  exact sr (an (nretP [I 2] (ci hs1)))
 have c1p:=of_decide_eq_false c1
 refine qK 12 [] U ?_
 refine lp1 l (λi w=>[(3,I w),(9,.slice ep l.length eo),(10,I (l.length:Int)),(11,I (i:Int))]) ([]) (λs1 i w=>(dB.L1 (dB.K1)) s1 w) (-1) hl.1.1 hs2 ?_ ?_
 .rintro i1 iu fm hs4 e
  exact sr (an (nretP [I 0] (ci hs4)))
 rintro i1 iu y1 rz1 hd1 df aS ek gu hs6 hx1 ag1 e
 refine sr (tO df U (qO 8 U (aA (iF zP wM ty93 hl.1 aS U U U (λq2 A2=>dt ty93 A2 U U (aT zc93 (λb2=>aO 0 ty93 U U U U U U (qO 4 U (cM 0 ty93 U U U (ai call146 (BB h y1) U (qO 2 U (bT 5 [18,19,20,21,22,23] 18 23 (decide (y1.No<=iu)) U (λc2 hk1=>?_) (λe=>?_)))))))))))))
 .exact qL 5 [0] U (hk1 _ U)
 refine aF (ae hs6 U (λc3 hs7=>?_) (λc3 hs8=>?_))
 .exact sr (an (nretP [I 160] (ci hs7)))
 exact qK 8 [0] U (oi i1 U (qO 2 U (bo (L':=[]) js (ag1 y1.No hs8))))
theorem gQ(h:HF)(eE:Int)(limit:Int)  : Ret prog 207 [I eE,I limit] h (.bool (bH eE limit)):=by
 refine sT func207 U ntmps207 U λX hM hX hF=>?_
 have hs0:=@rfl _ (bH eE limit)
 refine qT 9 U (bp 4 [7,8,9,10,11] 7 11 (decide (eE<limit)) U (λc1 hk1=>?_) (λe=>?_))
 .exact av (qO 3 U (hk1 _ U))
 exact an (nretP [.bool (decide (0<=eE)&&decide (eE<limit))] (cs hs0))
theorem Ak(h:HF)(x:Interest)  : Ret prog 147 [.agg (vD x).toArray] h (.bool (mI x)):=by
 refine sT func147 U ntmps147 U λX hM hX hF=>?_
 have hs0:=@rfl _ (mI x)
 refine sr (cv (λb1=>qL 6 [0] U (ai CG (gQ h x.No 1048577) U (av (bp 4 [7,8,9,10,11] 7 11 (bH x.At 1099511627776) U (λc1 hk1=>?_) (λe=>?_))))))
 .exact qL 2 [0] U (ai CG (gQ h x.At 1099511627776) U (eB U (hk1 _ U)))
 refine av (bp 4 [12,13,14,15,16] 12 16 (bH x.Known 1099511627776) U (λc2 hk2=>?_) (λe=>?_))
 .exact qL 2 [0] U (ai CG (gQ h x.Known 1099511627776) U (eB U (hk2 _ U)))
 refine av (bp 4 [17,18,19,20,21] 17 21 (bH x.Party 1048577) U (λc3 hk3=>?_) (λe=>?_))
 .exact qL 2 [0] U (ai CG (gQ h x.Party 1048577) U (eB U (hk3 _ U)))
 refine qL 8 [0] U (ae hs0 U (λc4 hs1=>?_) (λc4 hs2=>?_))
 .refine qT 4 U (bp 4 [25,26,27,28,29] 25 29 (bH x.Person 1048577) U (λc5 hk4=>?_) (λe=>?_))
  .exact qL 2 [0] U (ai CG (gQ h x.Person 1048577) U (eB U (hk4 _ U)))
  refine av (bp 6 [30,31,32,33,34,35,36] 30 36 (x.Person != x.Party) U (λc6 hk5=>?_) (λe=>?_))
  .exact qL 6 [0,0] U (hk5 _ U)
  exact an (nretP [.bool ((((((bH x.No 1048577)&&(bH x.At 1099511627776))&&(bH x.Known 1099511627776))&&(bH x.Party 1048577))&&(bH x.Person 1048577))&&(x.Person != x.Party))] (cs hs1))
 refine qT 5 U (bp 4 [38,39,40,41,42] 38 42 (bH x.Person 64) U (λc7 hk6=>?_) (λe=>?_))
 .exact qL 2 [0] U (ai CG (gQ h x.Person 64) U (eB U (hk6 _ U)))
 exact an (nretP [.bool (((((bH x.No 1048577)&&(bH x.At 1099511627776))&&(bH x.Known 1099511627776))&&(bH x.Party 1048577))&&(bH x.Person 64))] (cs hs2))
theorem sU(h:HF)(l:List Interest)(ep:Option Addr)(eo:Nat)(hl:SlC Interest.rp h ep eo l):Ret prog 67 [.slice ep l.length eo] h (I (cX l)):=by
 refine sT func67 U ntmps67 U λX hM hX hF=>?_
 have hs0:=@rfl _ (cX l)
 refine qK 11 [] U (ae hs0 U (λc1 hs1=>?_) (λc1 hs2=>?_))
 .have c1p:=of_decide_eq_true c1
  exact sr (an (nretP [I 2] (ci hs1)))
 have c1p:=of_decide_eq_false c1
 refine qK 12 [] U ?_
 refine lp1 l (λi w=>[(3,I w),(9,.slice ep l.length eo),(10,I (l.length:Int)),(11,I (i:Int))]) ([]) (λs1 i w=>(cX.L1 (cX.K1)) s1 w) (-1) hl.1.1 hs2 ?_ ?_
 .rintro i1 iu fm hs4 e
  exact sr (an (nretP [I 0] (ci hs4)))
 rintro i1 iu y1 rz1 hd1 df aS ek gu hs6 hx1 ag1 e
 refine sr (tO df U (qO 8 U (aA (iF vD vX ty97 hl.1 aS U U U (λq2 A2=>dt ty97 A2 U U (aT zc97 (λb2=>aO 0 ty97 U U U U U U (qO 4 U (cM 0 ty97 U U U (ai call147 (Ak h y1) U (qO 2 U (bT 5 [18,19,20,21,22,23] 18 23 (decide (y1.No<=iu)) U (λc2 hk1=>?_) (λe=>?_)))))))))))))
 .exact qL 5 [0] U (hk1 _ U)
 refine aF (ae hs6 U (λc3 hs7=>?_) (λc3 hs8=>?_))
 .exact sr (an (nretP [I 290] (ci hs7)))
 exact qK 8 [0] U (oi i1 U (qO 2 U (bo (L':=[]) js (ag1 y1.No hs8))))
theorem uB(h:HF)(s:List Int)(sI:Option Addr)(sH:Nat)(f:(Int->Bool))(f_v:Value)(hs:SlC zC h sI sH s)(hf:∀(h':HF)(dC:Int),xN h h'->tv prog f_v [I dC] h' [] (.bool (f dC))):Ret prog 220 [.slice sI s.length sH,f_v] h (I (dR s f)):=by
 refine sT func220 U ntmps220 U λX hM hX hF=>?_
 have hs0:=@rfl _ (dR s f)
 refine qK 11 [] U ?_
 refine lp0 s (λi=>[(0,.slice sI s.length sH),(1,f_v),(7,I (s.length:Int)),(8,I (i:Int))]) ([]) (λs1 i=>(dR.L1 f (dR.K1)) s1 i) hs.1.1 hs0 ?_ ?_
 .rintro i1 fm hs1 e
  exact sr (an (nretP [I (-1)] (ci hs1)))
 rintro i1 y1 rz1 hd1 df aS ek gu hs3 hx1 ag1 e
 refine sr (tO df U (qO 16 U (aA (iF (λy=>[I y]) ec ty3 hs.1 aS U U U (λq2 A2=>dj ty3 A2 U (aA (lA (v:=.bool (f y1)) [] (List.nil_sublist _) (hf h y1 lf) U U (aF (ae hs3 U (λc2 hs4=>?_) (λc2 hs5=>?_))))))))))
 .exact sr (qO 3 U (nretP [I (i1:Int)] (ci hs4)))
 exact aI (qT 2 U (oi i1 U (qO 2 U (ag1 hs5))))
theorem gV(h:HF)(s:List Int)(sI:Option Addr)(sH:Nat)(f:(Int->Bool))(f_v:Value)(hs:SlC zC h sI sH s)(hf:∀(h':HF)(dC:Int),xN h h'->tv prog f_v [I dC] h' [] (.bool (f dC))):Ret prog 132 [.slice sI s.length sH,f_v] h (.bool (cH s f)):=by
 refine sT func132 U ntmps132 U λX hM hX hF=>?_
 have hs0:=@rfl _ (cH s f)
 exact sr (qO 6 U (ai call220 (uB _ _ _ _ f f_v hs hf) U (qO 3 U (nretP [.bool (decide (0<=(dR s f)))] (cs hs0)))))
theorem yi(h:HF)(eE:Int)(v0:Int)(v0_q:Addr)(v1:Int)(v1_q:Addr)(av0:At h v0_q [I v0])(av1:At h v1_q [I v1]):Ret prog 194 [I eE,.pointer (some v0_q),.pointer (some v1_q)] h (.bool (iE eE v0 v1)):=by
 refine sT func194 U ntmps194 U λX hM hX hF=>?_
 have hs0:=@rfl _ (iE eE v0 v1)
 refine qT 7 U (dj ty3 av0 U (qO 2 U (bT 4 [8,9,10,11,12] 8 12 (decide (v1<eE)) U (λc1 hk1=>?_) (λe=>?_))))
 .exact av (dj ty3 av1 U (qO 2 U (hk1 _ U)))
 exact an (nretP [.bool (decide (eE<v0)||decide (v1<eE))] (cs hs0))
theorem dH(h:HF)(least:Int)(most:Int)(l:List Int)(ep:Option Addr)(eo:Nat)(hl:SlC zC h ep eo l):Ret prog 100 [I least,I most,.slice ep l.length eo] h (.bool (aN least most l)):=by
 refine sT func100 U ntmps100 U λX hM hX hF=>?_
 have hs0:=@rfl _ (aN least most l)
 exact sr (cv (λb1=>cv (λb2=>qO 5 U (aQ 1 U hM (λh1 hle1 hb1=>aQ 0 U hM (λh2 hle2 hb2=>aA (eA U U (ai IT (gV _ _ _ _ (λdC=>iE dC least most) (.func (.func 194) #[] #[Q b1,Q b2]) (hl.mono xH (hle1.t hle2)) (λh' dC hle=>iq call194 (yi h' dC least ⟨b1,0,none⟩ most ⟨b2,0,none⟩  (((cx hb1).mono hle2).mono hle) ((cx hb2).mono hle)))) U (qO 3 U (nretP [.bool (!(cH l (λdC=>iE dC least most)))] (cs hs0)))))))))))
theorem Cy(h:HF)(x:Budget)  : Ret prog 148 [.agg (kK x).toArray] h (.bool (kh x)):=by
 refine sT func148 U ntmps148 U λX hM hX hF=>?_
 have hs0:=@rfl _ (kh x)
 refine sr (cv (λb1=>qL 13 [0] U (ae hs0 U (λc1 hs1=>?_) (λc1 hs2=>?_))))
 .refine qK 8 [0] U (aA (bE (cells:=[I x.No]) ec ty3 zc3 U U kr (λb2=>aQ 0 U hM (λh1 hle1 hb1=>?_))))
  have sl1:SlC zC h1 (some ⟨b2,0,none⟩) 1 ([x.No]):=bz.slB0 (T:=3) (fz:=(0,0)) ((show bz zC h [I x.No] ([x.No])from⟨[I x.No],[],rfl,rfl,rfl,rfl⟩).mono xH hle1) hb1
  refine ai wq (dH _ 0 1048576 _ _ _ sl1) U (av (bp 7 [11,12,13,14,15,16,17,18] 11 18 (aN 0 1099511627775 ([x.At,x.Known])) U (λc2 hk1=>?_) (λe=>?_)))
  .refine qL 4 [0,0] U (aA (bE (cells:=[I x.At,I x.Known]) ec ty3 zc3 U U kr (λb3=>aQ 0 U hM (λh2 hle2 hb2=>?_))))
   have sl2:SlC zC h2 (some ⟨b3,0,none⟩) 2 ([x.At,x.Known]):=bz.slB0 (T:=3) (fz:=(0,0)) ((show bz zC h1 [I x.At,I x.Known] ([x.At,x.Known])from⟨[I x.At],[I x.Known],rfl,rfl,rfl,⟨[I x.Known],[],rfl,rfl,rfl,rfl⟩⟩).mono xH hle2) hb2
   exact ai wq (dH _ 0 1099511627775 _ _ _ sl2) U (eB U (kg (h:=h1) hle2 hX hle1 (hk1 _ U)))
  refine av (bp 5 [19,20,21,22,23,24] 19 24 (aN (-1) 15 ([x.Kind])) U (λc3 hk2=>?_) (λe=>?_))
  .refine qL 2 [0] U (aA (bE (cells:=[I x.Kind]) ec ty3 zc3 U U kr (λb4=>aQ 0 U hM (λh3 hle3 hb3=>?_))))
   have sl3:SlC zC h3 (some ⟨b4,0,none⟩) 1 ([x.Kind]):=bz.slB0 (T:=3) (fz:=(0,0)) ((show bz zC h1 [I x.Kind] ([x.Kind])from⟨[I x.Kind],[],rfl,rfl,rfl,rfl⟩).mono xH hle3) hb3
   exact ai wq (dH _ (-1) 15 _ _ _ sl3) U (eB U (kg (h:=h1) hle3 hX hle1 (hk2 _ U)))
  refine av (bp 5 [25,26,27,28,29,30] 25 30 (aN 1 1099511627776 ([x.Period])) U (λc4 hk3=>?_) (λe=>?_))
  .refine qL 2 [0] U (aA (bE (cells:=[I x.Period]) ec ty3 zc3 U U kr (λb5=>aQ 0 U hM (λh4 hle4 hb4=>?_))))
   have sl4:SlC zC h4 (some ⟨b5,0,none⟩) 1 ([x.Period]):=bz.slB0 (T:=3) (fz:=(0,0)) ((show bz zC h1 [I x.Period] ([x.Period])from⟨[I x.Period],[],rfl,rfl,rfl,rfl⟩).mono xH hle4) hb4
   exact ai wq (dH _ 1 1099511627776 _ _ _ sl4) U (eB U (kg (h:=h1) hle4 hX hle1 (hk3 _ U)))
  refine av (bp 6 [31,32,33,34,35,36,37] 31 37 (aN 0 0 ([x.Count])) U (λc5 hk4=>?_) (λe=>?_))
  .refine qL 3 [0] U (aA (bE (cells:=[I x.Count]) ec ty3 zc3 U U kr (λb6=>aQ 0 U hM (λh5 hle5 hb5=>?_))))
   have sl5:SlC zC h5 (some ⟨b6,0,none⟩) 1 ([x.Count]):=bz.slB0 (T:=3) (fz:=(0,0)) ((show bz zC h1 [I x.Count] ([x.Count])from⟨[I x.Count],[],rfl,rfl,rfl,rfl⟩).mono xH hle5) hb5
   exact ai wq (dH _ 0 0 _ _ _ sl5) U (eB U (kg (h:=h1) hle5 hX hle1 (hk4 _ U)))
  refine av (bp 6 [38,39,40,41,42,43,44] 38 44 (aN 0 0 ([x.Value])) U (λc6 hk5=>?_) (λe=>?_))
  .refine qL 3 [0] U (aA (bE (cells:=[I x.Value]) ec ty3 zc3 U U kr (λb7=>aQ 0 U hM (λh6 hle6 hb6=>?_))))
   have sl6:SlC zC h6 (some ⟨b7,0,none⟩) 1 ([x.Value]):=bz.slB0 (T:=3) (fz:=(0,0)) ((show bz zC h1 [I x.Value] ([x.Value])from⟨[I x.Value],[],rfl,rfl,rfl,rfl⟩).mono xH hle6) hb6
   exact ai wq (dH _ 0 0 _ _ _ sl6) U (eB U (kg (h:=h1) hle6 hX hle1 (hk5 _ U)))
  exact an (nretP [.bool ((((((aN 0 1048576 ([x.No]))&&(aN 0 1099511627775 ([x.At,x.Known])))&&(aN (-1) 15 ([x.Kind])))&&(aN 1 1099511627776 ([x.Period])))&&(aN 0 0 ([x.Count])))&&(aN 0 0 ([x.Value])))] (cs hs1))
 refine qK 5 [0] U (aA (bE (cells:=[I x.No]) ec ty3 zc3 U U kr (λb8=>aQ 0 U hM (λh7 hle7 hb7=>?_))))
 have sl7:SlC zC h7 (some ⟨b8,0,none⟩) 1 ([x.No]):=bz.slB0 (T:=3) (fz:=(0,0)) ((show bz zC h [I x.No] ([x.No])from⟨[I x.No],[],rfl,rfl,rfl,rfl⟩).mono xH hle7) hb7
 refine ai wq (dH _ 0 1048576 _ _ _ sl7) U (av (bp 7 [11,12,13,14,15,16,17,18] 11 18 (aN 0 1099511627775 ([x.At,x.Known])) U (λc7 hk6=>?_) (λe=>?_)))
 .refine qL 4 [0,0] U (aA (bE (cells:=[I x.At,I x.Known]) ec ty3 zc3 U U kr (λb9=>aQ 0 U hM (λh8 hle8 hb8=>?_))))
  have sl8:SlC zC h8 (some ⟨b9,0,none⟩) 2 ([x.At,x.Known]):=bz.slB0 (T:=3) (fz:=(0,0)) ((show bz zC h7 [I x.At,I x.Known] ([x.At,x.Known])from⟨[I x.At],[I x.Known],rfl,rfl,rfl,⟨[I x.Known],[],rfl,rfl,rfl,rfl⟩⟩).mono xH hle8) hb8
  exact ai wq (dH _ 0 1099511627775 _ _ _ sl8) U (eB U (kg (h:=h7) hle8 hX hle7 (hk6 _ U)))
 refine av (bp 5 [19,20,21,22,23,24] 19 24 (aN (-1) 15 ([x.Kind])) U (λc8 hk7=>?_) (λe=>?_))
 .refine qL 2 [0] U (aA (bE (cells:=[I x.Kind]) ec ty3 zc3 U U kr (λb10=>aQ 0 U hM (λh9 hle9 hb9=>?_))))
  have sl9:SlC zC h9 (some ⟨b10,0,none⟩) 1 ([x.Kind]):=bz.slB0 (T:=3) (fz:=(0,0)) ((show bz zC h7 [I x.Kind] ([x.Kind])from⟨[I x.Kind],[],rfl,rfl,rfl,rfl⟩).mono xH hle9) hb9
  exact ai wq (dH _ (-1) 15 _ _ _ sl9) U (eB U (kg (h:=h7) hle9 hX hle7 (hk7 _ U)))
 refine av (bp 5 [25,26,27,28,29,30] 25 30 (aN 1 1099511627776 ([x.Period])) U (λc9 hk8=>?_) (λe=>?_))
 .refine qL 2 [0] U (aA (bE (cells:=[I x.Period]) ec ty3 zc3 U U kr (λb11=>aQ 0 U hM (λh10 hle10 hb10=>?_))))
  have sl10:SlC zC h10 (some ⟨b11,0,none⟩) 1 ([x.Period]):=bz.slB0 (T:=3) (fz:=(0,0)) ((show bz zC h7 [I x.Period] ([x.Period])from⟨[I x.Period],[],rfl,rfl,rfl,rfl⟩).mono xH hle10) hb10
  exact ai wq (dH _ 1 1099511627776 _ _ _ sl10) U (eB U (kg (h:=h7) hle10 hX hle7 (hk8 _ U)))
 refine av (bp 6 [31,32,33,34,35,36,37] 31 37 (aN 0 1048576 ([x.Count])) U (λc10 hk9=>?_) (λe=>?_))
 .refine qL 3 [0] U (aA (bE (cells:=[I x.Count]) ec ty3 zc3 U U kr (λb12=>aQ 0 U hM (λh11 hle11 hb11=>?_))))
  have sl11:SlC zC h11 (some ⟨b12,0,none⟩) 1 ([x.Count]):=bz.slB0 (T:=3) (fz:=(0,0)) ((show bz zC h7 [I x.Count] ([x.Count])from⟨[I x.Count],[],rfl,rfl,rfl,rfl⟩).mono xH hle11) hb11
  exact ai wq (dH _ 0 1048576 _ _ _ sl11) U (eB U (kg (h:=h7) hle11 hX hle7 (hk9 _ U)))
 refine av (bp 6 [38,39,40,41,42,43,44] 38 44 (aN 0 1099511627776 ([x.Value])) U (λc11 hk10=>?_) (λe=>?_))
 .refine qL 3 [0] U (aA (bE (cells:=[I x.Value]) ec ty3 zc3 U U kr (λb13=>aQ 0 U hM (λh12 hle12 hb12=>?_))))
  have sl12:SlC zC h12 (some ⟨b13,0,none⟩) 1 ([x.Value]):=bz.slB0 (T:=3) (fz:=(0,0)) ((show bz zC h7 [I x.Value] ([x.Value])from⟨[I x.Value],[],rfl,rfl,rfl,rfl⟩).mono xH hle12) hb12
  exact ai wq (dH _ 0 1099511627776 _ _ _ sl12) U (eB U (kg (h:=h7) hle12 hX hle7 (hk10 _ U)))
 exact an (nretP [.bool ((((((aN 0 1048576 ([x.No]))&&(aN 0 1099511627775 ([x.At,x.Known])))&&(aN (-1) 15 ([x.Kind])))&&(aN 1 1099511627776 ([x.Period])))&&(aN 0 1048576 ([x.Count])))&&(aN 0 1099511627776 ([x.Value])))] (cs hs2))
theorem uP(h:HF)(l:List Budget)(ep:Option Addr)(eo:Nat)(hl:SlC Budget.rp h ep eo l):Ret prog 68 [.slice ep l.length eo] h (I (cu l)):=by
 refine sT func68 U ntmps68 U λX hM hX hF=>?_
 have hs0:=@rfl _ (cu l)
 refine qK 11 [] U (ae hs0 U (λc1 hs1=>?_) (λc1 hs2=>?_))
 .have c1p:=of_decide_eq_true c1
  exact sr (an (nretP [I 2] (ci hs1)))
 have c1p:=of_decide_eq_false c1
 refine qK 12 [] U ?_
 refine lp1 l (λi w=>[(3,I w),(9,.slice ep l.length eo),(10,I (l.length:Int)),(11,I (i:Int))]) ([]) (λs1 i w=>(cu.L1 (cu.K1)) s1 w) (-1) hl.1.1 hs2 ?_ ?_
 .rintro i1 iu fm hs4 e
  exact sr (an (nretP [I 0] (ci hs4)))
 rintro i1 iu y1 rz1 hd1 df aS ek gu hs6 hx1 ag1 e
 refine sr (tO df U (qO 8 U (aA (iF kK uv ty101 hl.1 aS U U U (λq2 A2=>dt ty101 A2 U U (aT zc101 (λb2=>aO 0 ty101 U U U U U U (qO 4 U (cM 0 ty101 U U U (ai call148 (Cy h y1) U (qO 2 U (bT 5 [18,19,20,21,22,23] 18 23 (decide (y1.No<=iu)) U (λc2 hk1=>?_) (λe=>?_)))))))))))))
 .exact qL 5 [0] U (hk1 _ U)
 refine aF (ae hs6 U (λc3 hs7=>?_) (λc3 hs8=>?_))
 .exact sr (an (nretP [I 180] (ci hs7)))
 exact qK 8 [0] U (oi i1 U (qO 2 U (bo (L':=[]) js (ag1 y1.No hs8))))
theorem xe(rec:Expr->Int->List gq)(h:HF)(x:Expr)(fT:cN)(x_q:Addr)(depth:Int)(depth_q:Addr)(hrec:∀(h:HF)(qx:Expr)(kz:cN)(qdepth:Int)(_:zG h qx kz)(_:0<=qdepth/\qdepth+qx.dep<=2000000)(_:qx.dep<x.dep),ju prog 282 [.agg (vC qx kz).toArray,I qdepth] h (λv h'=>∃rv0:Value,v=rv0/\Itr prog rv0 uJ (rec qx qdepth) h'))(hx:zG h x fT)(ax:At h x_q (vC x fT))(adepth:At h depth_q [I depth])(hb:0<=depth/\depth+x.dep<=2000000):Itr prog (.func (.func 329) #[] (kB [.pointer (some x_q),.pointer (some depth_q)])) uJ (aH.F rec x depth) h:=by
 refine sR call329 ?_
 intro yf ya yb C Sp Pn h1 A hle m1 m2 m3 hC hy
 refine jb GT U ntmps329 U λX hXM hX=>?_
 have hs0:aH.F rec x depth=[]++aH.F rec x depth:=rfl
 refine sr (cv (λb1=>qL 5 [0] U (dt ty62 (ax.mono hle) U U (dj ty3 (adepth.mono hle) U (aA (fI (cells:=[I x.Kind,I x.N,I x.No,.string x.Name,.slice fT.mb x.L.length fT.mq,I depth]) (places:=[(0,5),(5,1)]) underlying327 zc327 kr kr ?_))))))
 have hx1:aH.F rec x depth=[]++((gq.mk (vG x.Kind x.N x.No x.Name x.L) depth)::((aH.L1 rec depth (aH.K1)) x.L)):=hs0
 let z1:Nat×Obj:=(b1,O [.func yf ya yb] 366)
 refine aA (kp ([z1]) A ap (hy [] (gq.mk (vG x.Kind x.N x.No x.Name x.L) depth) _ _ _ _ hx1 lf hC ⟨(CA.mk (cN.mk fT.mb fT.mq)),U,(show gq.ok h1 (gq.mk (vG x.Kind x.N x.No x.Name x.L) depth) (CA.mk (cN.mk fT.mb fT.mq))from⟨(show zG h1 (vG x.Kind x.N x.No x.Name x.L) (cN.mk fT.mb fT.mq)from Sm (hx.list.mono Sh hle))⟩)⟩) U U (λh2 A1 hle1 hC1=>?_) (λh3 A2 hle2 hS1=>?_) (λch1 h4 A3 hle3 hP1 e=>gy (mP [] (A:=A3) GT (List.sublist_append_right _ _) hP1)))
 .have hs1:aH.F rec x depth=[(gq.mk (vG x.Kind x.N x.No x.Name x.L) depth)]++(((aH.L1 rec depth (aH.K1)) x.L)):=hx1.trans ap
  refine qL 7 [] U (iZ (j:=4) ty60 (ax.mono (hle.t hle1)) U U (qL 3 [] U (ef (cg (L':=[z1]++(A1++(markB []))) ap ?_))))
  refine sC (ι:=Nat×List gq×LH×List Nat×HF) (λi=>[]) (λi=>marks i.2.2.2.1) (λi=>i.2.2.2.2) (λi=>[z1]++(i.2.2.1++(markB i.2.2.2.1))) (λi=>i.1<=x.L.length/\aH.F rec x depth=i.2.1++((aH.K1))/\C i.2.1 i.2.2.2.2 i.2.2.1/\xN h2 i.2.2.2.2) ?_ (λhx1=>?_)
  .rintro⟨i1,dn1,A1_,rs1,hh1⟩ ⟨fm,hs2,hC1_,hl1⟩ e
   refine cg (L':=([z1]++(A1_))++markB rs1) ap ?_
   have hs3:aH.F rec x depth=dn1:=hs2.trans (List.append_nil _)
   exact sS rs1 (A:=A1_) GT U js (.inl (hs3▸hC1_))
  refine wN (ι:=Nat×List gq×LH×List Nat×HF×List Expr) (λi=>[(2,.pointer (some depth_q)),(3,Q b1),(14,.slice fT.mb x.L.length fT.mq),(15,I (x.L.length:Int)),(16,I (i.1:Int))]) (λi=>marks i.2.2.2.1) (λi=>i.2.2.2.2.1) (λi=>[z1]++(i.2.2.1++(markB i.2.2.2.1))) (λi=>x.L.drop i.1=i.2.2.2.2.2/\i.1<=x.L.length/\aH.F rec x depth=i.2.1++((aH.L1 rec depth (aH.K1)) i.2.2.2.2.2)/\C i.2.1 i.2.2.2.2.1 i.2.2.1/\xN h2 i.2.2.2.2.1) (λi=>i.2.2.2.2.2.length) (0,[(gq.mk (vG x.Kind x.N x.No x.Name x.L) depth)],A1,[],h2,x.L) U rd sw ⟨U,qM _,hs1,hC1,lf⟩ ?_
  rintro⟨i1,dn1,A1_,rs1,hh1,s1⟩ ⟨hd1,fm,hs4,hC1_,hl1⟩ ag1 e
  rcases s1 with _|⟨y1,rz1⟩
  .have fS:=mR hd1
   exact sr (fO fS U (qO 4 U (hx1 (i1,dn1,A1_,rs1,hh1) _ ⟨fm,hs4,hC1_,hl1⟩ trivial)))
  have df:=s8 hd1
  have aS:=rE hd1
  have ek:=hY hd1
  have gu:=(hx.list.mono Sh (hle.t hle1)).1.1
  have hdy:=R3 (fN hd1)
  refine sr (tO df U (qO 8 U (aA (iR lB ty62 (hx.list.mono Sh ((hle.t hle1).t hl1)).1 aS U U U (λ_ _ _ e=>e) (λq2 r2 A8 ok2=>dt ty62 A8 U U (aT zc62 (λb4=>aO 0 ty62 U U U U U U (im (L':=[(b4,O (vC y1 r2) 62),z1]++(A1_++(markB rs1))) U (qO 3 U (cM 0 ty62 U U U (dj ty3 (adepth.mono ((hle.t hle1).t hl1)) U (io (v':=I (depth+1)) U (jh ob) (aA (cR LM (hrec _ _ _ (depth+1) ok2 ob (R3 (fN hd1))) U (λv2 h9 hle8 hp2=>?_)))))))))))))))
  obtain⟨_,rfl,mo2⟩:=hp2
  refine qO 2 U ?_
  let z2:Nat×Obj:=(b4,O (vC y1 r2) 62)
  refine cg (L':=([z2,z1]++(A1_))++markB rs1) ap ?_
  refine jw (it:=v2) (xs:=(rec y1 (depth+1))) (ι:=List gq×LH×HF) rs1 (λi=>i.2.2) (λi=>[z2,z1]++(i.2.1)) (λs i=>aH.F rec x depth=i.1++((aH.L3 ((aH.L1 rec depth (aH.K1) rz1))) s)/\C i.1 i.2.2 i.2.1/\xN h9 i.2.2) (λi=>Sp i.2.2 i.2.1/\xN h9 i.2.2) (λ_=>False) 0 (λch h L=>∃B,B.Sublist L/\Pn ch h B) (dn1,A1_,h9) GT U mo2 U nW (λ_ _ _ _ hl⟨B,hs,hp⟩=>⟨B,hs,m3 _ _ _ _ hl hp⟩) U (show[z2,z1]++(A1_)=_ from U) ⟨hs4,(m1 _ _ _ _ hle8 hC1_),lf⟩ ?_ ?_ ?_ ?_ ?_
  .rintro l3 dm3 lp3 y3 rz3 vs3 ⟨dn3,A3_,hh3⟩ hr3 X hFR3 ⟨hs6,hC3_,hl3⟩ hl03 hlr3 hv3 hX hXM hlp3 nx3 rt3 ex3 pn3
   obtain⟨rr3_0,rfl,ok3_0⟩:=hv3
   let z3:Nat×Obj:=(dm3,.deferred (some []))
   refine cg (L':=[(l3,.loop lp3),z3,z2,z1]++(A3_++(markB rs1))) ap (bC (aT zc327 (λb6=>aO 0 ty327 U U U U U U (im (L':=[(b6,O (gq.cells y3 rr3_0) 327),(l3,.loop lp3),z3,z2,z1]++(A3_++(markB rs1))) U (aF (ji 1 U hlp3 (qK 4 [4] U (cM 0 ty327 U U U ?_))))))))
   have hx4:aH.F rec x depth=dn3++(y3::((aH.L3 ((aH.L1 rec depth (aH.K1) rz1))) rz3)):=hs6
   let z4:Nat×Obj:=(l3,.loop { lp3 with state:=.busy })
   refine aA (N6 ([(b6,O (gq.cells y3 rr3_0) 327),z4,z3,z2,z1]) A3_ (markB rs1) ap (hy dn3 y3 _ _ _ _ hx4 ((((hle1.t hl1).t hle8).t hl3).t hlr3) (m1 _ _ _ _ hlr3 hC3_) ⟨rr3_0,U,ok3_0⟩) U U (λh13 A12 hle12 hC4=>?_) (λh14 A13 hle13 hS4=>?_) (λch4 h15 A14 hle14 hP4 e=>zy (L':=[z4,z3]++(A14++(markB rs1))) js (pn3 _ _ _ A14 ⟨A14,List.Sublist.refl _,hP4⟩)))
   .have hs7:aH.F rec x depth=(dn3++[y3])++(((aH.L3 ((aH.L1 rec depth (aH.K1) rz1))) rz3)):=hx4.trans ap
    exact mU U (qO 4 U (bo (L':=[z4,z3,z2,z1]++(A12++(markB rs1))) js (cg (L':=rdH l3 dm3 lp3 (([z2,z1]++(A12))++markB rs1)) ap (nx3 ((dn3++[y3]),A12,h13) _ _ ⟨hs7,hC4,((hl3.t hlr3).t hle12)⟩ lf))))
   exact mU U (qO 2 U (bo (L':=[z4,z3,z2,z1]++(A13++(markB rs1))) js (cg (L':=rdH l3 dm3 lp3 (([z2,z1]++(A13))++markB rs1)) ap (rt3 (dn3,A13,h14) _ _ _ ⟨hS4,((hl3.t hlr3).t hle13)⟩ lf))))
  .rintro dm3 ⟨dn3,A3_,hh3⟩ hn3 ⟨hs8,hC3_,hl3⟩ hln3 hl03
   exact cg (L':=[z2,z1]++(A3_++(markB (dm3::rs1)))) ap (qT 3 U (oi i1 U (qO 2 U (bo (L':=[z1]++(A3_++(markB (dm3::rs1)))) js (ag1 ((i1+1),dn3,A3_,(dm3::rs1),hn3,rz1) _ (Nat.lt_succ_self _) ⟨kw hd1,hY hd1,hs8,(m1 _ _ _ _ hln3 hC3_),(((hl1.t hle8).t hl3).t hln3)⟩ rd)))))
  .rintro dm3 ⟨dn3,A3_,hh3⟩ hn3 ⟨hS5,hl3⟩ hln3 hl03
   exact cg (L':=[z2,z1]++(A3_++(markB (dm3::rs1)))) ap (cg (L':=([z2,z1]++(A3_))++markB (dm3::rs1)) ap (mE (dm3::rs1) (A:=A3_) GT U js (.inr (m2 _ _ _ hln3 hS5))))
  .exact xf
  rintro dm3 ch hn3 L0 ⟨B,hB,hp⟩ hl03
  exact mP (dm3::rs1) GT hB hp
 exact mU U (qO 2 U (ef (mE [] (A:=A2) GT U js (.inr hS1))))
theorem qz:∀(m:Nat)(h:HF)(x:Expr)(fT:cN)(depth:Int)(_:zG h x fT)(_:0<=depth/\depth+x.dep<=2000000)(_:x.dep<=m),ju prog 282 [.agg (vC x fT).toArray,I depth] h (λv h'=>∃rv0:Value,v=rv0/\Itr prog rv0 uJ (aH.go m x depth) h')
 |0,h,x,fT,depth,hx,hb,hd=>absurd hd (Nat.not_le.2 (Expr.lP _))
 |m+1,h,x,fT,depth,hx,hb,hd=>by
  exact cB func282 U ntmps282 U λX hM hX=>sr (cv (λb1=>cv (λb2=>qO 4 U (aQ 1 U hM (λh2 hle2 hb2=>aQ 0 U hM (λh3 hle3 hb3=>aA (eA U U (an (jY [.func (.func 329) #[] #[Q b1,Q b2]] func282 U rd ⟨_,U,xe (aH.go m) h3 x fT ⟨b1,0,none⟩ depth ⟨b2,0,none⟩ (λh' y RW d' hy hb' hl=>qz m h' y RW d' hy hb' ob) (hx.mono (hle2.t hle3)) ((cx hb2).mono hle3) (cx hb3) hb⟩)))))))))
theorem mS(h:HF)(x:Expr)(fT:cN)(depth:Int)(hx:zG h x fT)(hb:0<=depth/\depth+x.dep<=2000000):ju prog 282 [.agg (vC x fT).toArray,I depth] h (λv h'=>∃rv0:Value,v=rv0/\Itr prog rv0 uJ (bj x depth) h'):=qz _ h x fT depth hx hb (jG _)
theorem gX(h:HF)(ok:Bool)(Q7:Int)  : GK prog 324 [.bool ok,I Q7] h (exW stopV (λr:Unit=>(.tuple #[]:Value)) (eW ok Q7)):=by
 refine cB func324 U ntmps324 U λX hM hX=>?_
 have hs0:=@rfl _ (eW ok Q7)
 refine qT 5 U (ae hs0 U (λc1 hs1=>?_) (λc1 hs2=>?_))
 .exact bC (av (aA (fI (cells:=[I Q7]) (places:=[(0,1)]) underlying358 zc358 kr kr (aA (eT (DV underlying358 U U) (aA (DR U yo (λe=>gy (nv [] func324 hX (congrArg (exW stopV (λr:Unit=>(.tuple #[]:Value))) hs1))))))))))
 refine aI ?_
 have hs3:eW ok Q7=(Except.ok ()):=hs2
 exact ef (yl [] [] func324 U hX trivial (congrArg (exW stopV (λr:Unit=>(.tuple #[]:Value))) hs3))
theorem M2{c:Bool}{e:Int}{u:Unit}(h:eW c e=.ok u):c=true:=by
 cases c with
 |true=>rfl
 |false=>simp[eW]at h
theorem mi(h:HF)(p:Policy)(gM:eR)(hp:vP h p gM)(hsz0:p.Rules.length<=2000000):ju prog 325 [.agg (xE p gM).toArray] h (λv h'=>∃(rb0:Option Addr)(rc0:Nat),v=.slice rb0 (aw p).length rc0/\SlC SG h' rb0 rc0 (aw p)):=by
 refine sT func325 U ntmps325 U λX hM hX hF=>?_
 have hs0:=@rfl _ (aw p)
 refine sr (cv (λb1=>qL 10 [0] U ?_))
 let z2:Nat×Obj:=(b1,O (xE p gM) 64)
 refine lp2 p.Rules (λi w=>[(1,Q b1),(2,.slice w.2.1 w.1.length w.2.2.1),(6,.slice gM.nF p.Rules.length gM.nE),(7,I (p.Rules.length:Int)),(8,I (i:Int))]) (λ_=>h) (λw=>[z2]++(w.2.2.2)) (λi w=>du SG 62 h w.1 w.2.1 w.2.2.1 w.2.2.2/\w.1.length<=0+i) (λs1 i w=>(aw.L1 (aw.K1 p)) s1 w.1) ([],none,0,[]) hp.Rules.1.1 hs0 ⟨du.nil,lo⟩ ?_ ?_
 .rintro i1 ⟨GB,Rv,Ru,QB⟩ fm hs1 ⟨Kd,O1⟩ e
  try dsimp only at Kd O1
  refine qK 4 [] U (cM 0 ty62 U U U (aA (bE (cells:=[I p.Change.Kind,I p.Change.N,I p.Change.No,.string p.Change.Name,.slice gM.Change.mb p.Change.L.length gM.Change.mq]) lB ty62 zc62 U U kr (λb5=>?_))))
  let z1:Nat×Obj:=(b5,O [I p.Change.Kind,I p.Change.N,I p.Change.No,.string p.Change.Name,.slice gM.Change.mb p.Change.L.length gM.Change.mq] 62)
  refine aA (dE TQ ([z1,z2]) ([]) (λG=>[z1,z2]++G) ap (λ_=>ap) lB ty62 zc62 U bytes62 Kd U U (e8 0 U (cE (R:=SG) (p.Change) U ⟨gM.Change,U,hp.Change⟩)) lo lo (λob3 oc3 G3 gr3=>an (fx Sh ([z1,z2]) G3 ([]) ap hM gr3 (λh2 hle2 sl2=>?_))))
  have hs2:aw p=(GB++[p.Change]):=hs1
  exact nretH [.slice ob3 ((GB++[p.Change]).length) oc3] ⟨ob3,oc3,congrArg (λr:List Expr=>(.slice ob3 r.length oc3:Value)) hs2.symm,(by rw[hs2];exact sl2)⟩
 rintro i1 ⟨GB,Rv,Ru,QB⟩ y1 rz1 hd1 df aS ek gu hs3 ⟨Kd,O1⟩ hx1 ag1 e
 try dsimp only at Kd O1
 exact sr (tO df U (qO 8 U (aA (iR wu ty79 hp.Rules.1 aS U U U (λ_ _ _ e=>e) (λq2 r2 A2 ok2=>dt ty79 A2 U U (aT zc79 (λb6=>aO 0 ty79 U U U U U U (im (L':=[(b6,O (TU y1 r2) 79),z2]++(QB)) U (qL 4 [] U (cM 0 ty62 U U U (aA (bE (cells:=[I y1.Expr.Kind,I y1.Expr.N,I y1.Expr.No,.string y1.Expr.Name,.slice r2.Expr.mb y1.Expr.L.length r2.Expr.mq]) lB ty62 zc62 U U kr (λb7=>aA (dE TQ ([(b7,O [I y1.Expr.Kind,I y1.Expr.N,I y1.Expr.No,.string y1.Expr.Name,.slice r2.Expr.mb y1.Expr.L.length r2.Expr.mq] 62),(b6,O (TU y1 r2) 79),z2]) ([]) (λG=>[(b7,O [I y1.Expr.Kind,I y1.Expr.N,I y1.Expr.No,.string y1.Expr.Name,.slice r2.Expr.mb y1.Expr.L.length r2.Expr.mq] 62),(b6,O (TU y1 r2) 79),z2]++G) ap (λ_=>ap) lB ty62 zc62 U bytes62 Kd U U (e8 0 U (cE (R:=SG) (y1.Expr) U ⟨r2.Expr,U,ok2.Expr⟩)) lo lo (λob4 oc4 G4 gr4=>qO 4 U (oi i1 U (qO 2 U (bo (L':=[z2]++G4) js (ag1 ((GB++[y1.Expr]),ob4,oc4,G4) hs3 ⟨gr4,lo⟩)))))))))))))))))))
theorem Ms(p:Policy):∀(l:List Rule)(g:List Expr),aw.L1 (aw.K1 p) l g=g++(l.map (·.Expr)++[p.Change])
 |[],g=>by simp[aw.L1,aw.K1]
 |y::l,g=>by simp[aw.L1,Ms p l]
theorem Pc(p:Policy):aw p=p.Rules.map (·.Expr)++[p.Change]:=by
 unfold aw;rw[Ms];simp
theorem BA{p:Policy}(h:smP p){y:Expr}(hy:y∈aw p):y.dep<=1500000:=by
 rw[Pc]at hy
 rcases List.mem_append.1 hy with hy|hy
 .obtain⟨r,hr,rfl⟩:=List.mem_map.1 hy;exact h.2.1 r hr
 rw[xC.1 hy];exact h.2.2.1
theorem Bb(h:HF)(p:Policy)(gM:eR)(hp:vP h p gM)(hsm:smP p):GK prog 278 [.agg (xE p gM).toArray] h (exW stopV (λr:Unit=>(.tuple #[]:Value)) (cq p)):=by
 refine cB LK U ntmps278 U λX hM hX=>?_
 have hs0:=@rfl _ (cq p)
 have hsr:=hsm.rules
 have hsc:=hsm.change
 refine sr (cv (λb1=>qL 8 [0] U (bp 5 [10,11,12,13,14,15] 10 15 (decide ((p.Kinds.length:Int)<=16)) U (λc1 hk1=>?_) (λe=>?_))))
 .exact qL 5 [0] U (hk1 _ U)
 refine av (bp 5 [16,17,18,19,20,21] 16 21 (decide ((p.Rules.length:Int)<=16)) U (λc2 hk2=>?_) (λe=>?_))
 .exact qL 5 [0] U (hk2 _ U)
 refine aA (mA yT (gX h ((decide ((p.Offices.length:Int)<=32)&&decide ((p.Kinds.length:Int)<=16))&&decide ((p.Rules.length:Int)<=16)) 2) U (λu1 hu1=>?_) (λpv1 hpv1 e=>?_))
 .obtain⟨rx1,hrx1,rfl⟩:=ov hu1
  have hs1:=hs0.trans (pq hrx1)
  cases rx1
  refine qO 3 U (cM 0 ty64 U U U (aA (cR call325 (mi _ _ _ hp ob) U (λv1 h1 hle1 hp1=>?_))))
  obtain⟨rb1,rc1,rfl,sl1⟩:=hp1
  refine qL 3 [] U (ef ?_)
  let z1:Nat×Obj:=(b1,O (xE p gM) 64)
  refine cg (L':=[z1]++(markB [])) ap ?_
  refine sC (ι:=Nat×List Nat×HF) (λi=>[]) (λi=>marks i.2.1) (λi=>i.2.2) (λi=>[z1]++(markB i.2.1)) (λi=>i.1<=(aw p).length/\cq p=((cq.K1))/\xN h1 i.2.2) ?_ (λhx1=>?_)
  .rintro⟨i1,rs1,hh1⟩ ⟨fm,hs2,hl1⟩ e
   have hs3:cq p=(Except.ok ()):=hs2
   exact cg (L':=([z1])++markB rs1) ap (yl rs1 [] LK U hX trivial (congrArg (exW stopV (λr:Unit=>(.tuple #[]:Value))) hs3))
  refine wN (ι:=Nat×List Nat×HF×List Expr) (λi=>[(24,.slice rb1 ((aw p).length) rc1),(25,I ((aw p).length:Int)),(26,I (i.1:Int))]) (λi=>marks i.2.1) (λi=>i.2.2.1) (λi=>[z1]++(markB i.2.1)) (λi=>(aw p).drop i.1=i.2.2.2/\i.1<=(aw p).length/\cq p=((cq.L1 (cq.K1)) i.2.2.2)/\xN h1 i.2.2.1) (λi=>i.2.2.2.length) (0,[],h1,(aw p)) U rd sw ⟨U,qM _,hs1,lf⟩ ?_
  rintro⟨i1,rs1,hh1,s1⟩ ⟨hd1,fm,hs4,hl1⟩ ag1 e
  rcases s1 with _|⟨y1,rz1⟩
  .have fS:=mR hd1
   exact sr (fO fS U (qO 4 U (hx1 (i1,rs1,hh1) _ ⟨fm,hs4,hl1⟩ trivial)))
  have df:=s8 hd1
  have aS:=rE hd1
  have ek:=hY hd1
  have gu:=sl1.1.1
  try have hsy:=BA hsm (fN hd1)
  refine sr (tO df U (qO 8 U (aA (iR lB ty62 (sl1.mono Sh hl1).1 aS U U U (λ_ _ _ e=>e) (λq2 r2 A2 ok2=>dt ty62 A2 U U (aT zc62 (λb5=>aO 0 ty62 U U U U U U (qO 3 U (aT zc3 (λb6=>cJ 0 ty3 U U U U U U (qO 3 U (cM 1 ty62 U U U (aA (cR LM (mS _ _ _ 1 ok2 ob) U (λv3 h3 hle3 hp3=>?_)))))))))))))))
  obtain⟨_,rfl,mo2⟩:=hp3
  refine qO 2 U ?_
  let z2:Nat×Obj:=(b5,O (vC y1 r2) 62)
  refine cg (L':=([(b6,O [I 0] 3),z2,z1])++markB rs1) ap ?_
  refine jw (it:=v3) (xs:=(bj y1 1)) (ι:=Int×HF) rs1 (λi=>i.2) (λi=>[(b6,O [I i.1] 3),z2,z1]) (λs i=>cq p=((cq.L3 (λzg3_b6_0=>(cq.L1 (cq.K1) rz1))) s i.1)/\xN h3 i.2) (λ_=>False) (λ_=>False) 0 (λch _ _=>∃pv_,ch=[{ v:=stopV pv_,recovered:=false }]/\cq p=.error pv_) (0,h3) LK U mo2 U nW (λ_ _ _ _ _ hq=>hq) U (show[(b6,O [I 0] 3),z2,z1]=_ from U) ⟨hs4,lf⟩ ?_ ?_ ?_ ?_ ?_
  .rintro l3 dm3 lp3 y3 rz3 vs3 ⟨qi,hh3⟩ hr3 X hFR3 ⟨hs6,hl3⟩ hl03 hlr3 hv3 hX hXM hlp3 nx3 rt3 ex3 pn3
   obtain⟨rr3_0,rfl,ok3_0⟩:=hv3
   let z4:Nat×Obj:=(dm3,.deferred (some []))
   refine cg (L':=[(l3,.loop lp3),z4,(b6,O [I qi] 3),z2,z1]++(markB rs1)) ap (bC (aT zc327 (λb8=>aO 0 ty327 U U U U U U (aF (ji 1 U hlp3 (qK 5 [3] U (cJ 3 ty3 U U U U U U (qL 5 [3] U (bp 4 [37,38,39,40,41] 37 41 (decide (y3.depth<=16)) U (λc3 hk3=>?_) (λe=>?_))))))))))
   .exact qL 4 [0] U (hk3 _ U)
   refine aA (mA yT (gX hr3 (decide ((jC .i64 (qi+1))<=256)&&decide (y3.depth<=16)) 2) U (λu2 hu2=>?_) (λpv2 hpv2 e=>?_))
   .obtain⟨rx2,hrx2,rfl⟩:=ov hu2
    have hs7:=hs6.trans (pq hrx2)
    cases rx2
    refine qO 2 U ?_
    let z3:Nat×Obj:=(b6,O [I (jC .i64 (qi+1))] 3)
    exact bo (L':=[(l3,.loop { lp3 with state:=.busy }),z4,z3,z2,z1]++(markB rs1)) js (cg (L':=rdH l3 dm3 lp3 (([z3,z2,z1])++markB rs1)) ap (nx3 ((jC .i64 (qi+1)),hr3) _ _ ⟨hs7,(hl3.t hlr3)⟩ lf))
   obtain⟨pv2e,hpv2e,rfl⟩:=mF hpv2
   have hs8:=hs6.trans (mZ hpv2e)
   exact zy (L':=[(l3,.loop { lp3 with state:=.busy }),z4]++(markB rs1)) js (pn3 _ _ _ [] ⟨_,U,hs8⟩)
  .rintro dm3 ⟨qi,hh3⟩ hn3 ⟨hs9,hl3⟩ hln3 hl03
   exact cg (L':=[(b6,O [I qi] 3),z2,z1]++(markB (dm3::rs1))) ap (qT 3 U (oi i1 U (qO 2 U (bo (L':=[z1]++(markB (dm3::rs1))) js (ag1 ((i1+1),(dm3::rs1),hn3,rz1) _ (Nat.lt_succ_self _) ⟨kw hd1,hY hd1,hs9,(((hl1.t hle3).t hl3).t hln3)⟩ rd)))))
  .exact xf
  .exact xf
  rintro dm3 ch hn3 L0 ⟨pv_,rfl,hpv_⟩ hl03
  exact nv (dm3::rs1) LK hX (congrArg (exW stopV (λr:Unit=>(.tuple #[]:Value))) hpv_)
 obtain⟨pv1e,hpv1e,rfl⟩:=mF hpv1
 have hs10:=hs0.trans (mZ hpv1e)
 exact gy (nv [] LK hX (congrArg (exW stopV (λr:Unit=>(.tuple #[]:Value))) hs10))
end
variable {af:Array Edge}{ats:Array TypeId}{d:Option Nat}{g:Option (Nat×Bool)}{pos:String}{ty:TypeId}{x:Operand}
section
open Go.Proofs Go.Proofs.Tryz
theorem ext282:Extern.find Tryz.f388=some Extern.BytealgIndexByte.indexByte:=by kernel_rfl
theorem ext282n:Extern.findNext Tryz.f388=none:=by kernel_rfl
theorem run282(s:ByteArray)(c:Int)(w:World):(Extern.BytealgIndexByte.indexByte #[.string s,.int .u8 c]).run prog w=.ok (.int .i64 (idxByte s c)) w:=by
 show(do
  let b ←Extern.Bytes.bytesOf (.string s)
  let c ←Extern.Bytes.asByte (.int .u8 c)
  match(qH b.size).find? λi=>b[i]! == c with
  |some i=>pure (goInt i)
  |none=>pure (goInt (-1)):Sem Value).run prog w=_
 simp only[Extern.Bytes.bytesOf,Extern.Bytes.asByte,xP,Sem.run_pure,zM,idxByte,goInt]
 cases hf:(qH s.size).find? (λi=>s[i]! == UInt8.ofNat c.toNat)with
 |none=>simp only[show c.toNat.toUInt8=UInt8.ofNat c.toNat from rfl,hf];simp
 |some i=>simp only[show c.toNat.toUInt8=UInt8.ofNat c.toNat from rfl,hf];simp
theorem call282(s:ByteArray)(c:Int)(w:World):(callFunc 388 #[.string s,.int .u8 c]).run prog w=.ok (.value (.int .i64 (idxByte s c))) w:=by
 have hb:Tryz.f388.body.isNone=true:=by kernel_rfl
 have hn : (Tryz.f388.name == "runtime.NumGoroutine") = false := by kernel_rfl
 simp only[callFunc,xP,run_program,zM,func388,hn,hb,ext282,ext282n]
 simp[run282]
theorem Om{L:LH}{y:Operand}{s:ByteArray}{c:Int}(hx:e.ev x=.string s)(hy:e.ev y=.int .u8 c):
  ∀w,St X h L w->(execOp e.ev ⟨d,.call ⟨.value (.func 388),#[x,y],ats⟩,ty,pos,af,g⟩).run prog w=.ok (.value (.int .i64 (idxByte s c))) w:=
 λw _=>by
  have hf:e.ev (.func 388)=.func (.func 388) #[] #[]:=rfl
  simp[execOp,resolve,hf,xJ,invoke,hx,hy,call282]
end
section
open Go.Proofs Go.Proofs.Tryz
set_option maxHeartbeats 2000000
theorem nL(h:HF)(x:Expr)(fT:cN)(hx:zG h x fT):Ret prog 283 [.agg (vC x fT).toArray] h (.bool (dk x)):=by
 refine sT func283 U ntmps283 U λX hM hX hF=>?_
 have hs0:=@rfl _ (dk x)
 refine sr (cv (λb1=>qL 8 [0] U (bT 4 [6,7,8,9,10] 6 10 (x.Kind==2) U (λc1 hk1=>?_) (λe=>?_))))
 .exact qL 4 [0] U (hk1 _ U)
 exact an (nretP [.bool ((x.Kind==1)||(x.Kind==2))] (cs hs0))
theorem oL(h:HF)(s:ByteArray)(c:Int)  : Ret prog 387 [.string s,Y c] h (I (iN s c)):=by
 refine sT func387 U ntmps387 U λX hM hX hF=>?_
 have hs0:=@rfl _ (iN s c)
 exact sr (qO 6 U (aA (eT (Om U U) (an (nretP [I (idxByte s c)] (ci hs0))))))
theorem wQ(h:HF)(s:ByteArray)(c:Int)  : Ret prog 384 [.string s,Y c] h (I (strings_IndexByte s c)):=by
 refine sT func384 U ntmps384 U λX hM hX hF=>?_
 have hs0:=@rfl _ (strings_IndexByte s c)
 exact sr (qO 6 U (ai call387 (oL h s c) U (an (nretP [I (iN s c)] (ci hs0)))))
theorem Bg(h:HF)(c:Int)  : Ret prog 377 [Y c] h (I (kc c)):=by
 refine sT func377 U ntmps377 U λX hM hX hF=>?_
 have hs0:=@rfl _ (kc c)
 refine qT 11 U (bp 3 [6,7,8,9] 6 9 (decide (c<=122)) U (λc1 hk1=>?_) (λe=>?_))
 .exact av (qO 2 U (hk1 _ U))
 refine av (bT 7 [10,11,12,13,14,15,16,17] 10 17 (decide (65<=c)&&decide (c<=90)) U (λc2 hk2=>?_) (λe=>?_))
 .refine qO 3 U (bp 3 [13,14,15,16] 13 16 (decide (c<=90)) U (λc3 hk3=>?_) (λe=>?_))
  .exact av (qO 2 U (hk3 _ U))
  exact eB U (hk2 _ U)
 refine an (ae hs0 U (λc4 hs1=>?_) (λc4 hs2=>?_))
 .exact sr (an (nretP [I 2] (ci hs1)))
 refine qT 5 U (bp 3 [21,22,23,24] 21 24 (decide (c<=57)) U (λc5 hk4=>?_) (λe=>?_))
 .exact av (qO 2 U (hk4 _ U))
 refine an (ae hs2 U (λc6 hs4=>?_) (λc6 hs5=>?_))
 .exact sr (an (nretP [I 3] (ci hs4)))
 refine qT 6 U (ae hs5 U (λc7 hs7=>?_) (λc7 hs8=>?_))
 .exact sr (an (nretP [I 5] (ci hs7)))
 refine qT 5 U (bT 3 [31,32,33,34] 31 34 (c==9) U (λc8 hk5=>?_) (λe=>?_))
 .exact av (qO 2 U (hk5 _ U))
 refine av (bT 3 [35,36,37,38] 35 38 (c==10) U (λc9 hk6=>?_) (λe=>?_))
 .exact av (qO 2 U (hk6 _ U))
 refine av (bT 3 [39,40,41,42] 39 42 (c==13) U (λc10 hk7=>?_) (λe=>?_))
 .exact av (qO 2 U (hk7 _ U))
 refine an (ae hs8 U (λc11 hs10=>?_) (λc11 hs11=>?_))
 .exact sr (an (nretP [I 1] (ci hs10)))
 refine qT 3 U (ai call384 (wQ h (⟨#[123,125,40,41,59,44,61,58,46,60,62,33,43,45,42,47]⟩:ByteArray) c) U (qO 3 U (ae hs11 U (λc12 hs13=>?_) (λc12 hs14=>?_))))
 .have c12p:=of_decide_eq_true c12
  exact sr (an (nretP [I 4] (ci hs13)))
 have c12p:=of_decide_eq_false c12
 exact aI (qT 5 U (nretP [I 0] (ci hs14)))
theorem iy(h:HF)(s:ByteArray)  : Ret prog 363 [.string s] h (.bool (dJ s)):=by
 refine sT func363 U ntmps363 U λX hM hX hF=>?_
 have hs0:=@rfl _ (dJ s)
 refine qT 10 U (bT 4 [7,8,9,10,11] 7 11 (decide (32<(s.size:Int))) U (λc1 hk1=>?_) (λe=>?_))
 .exact av (aA (eT (BY AD U) (qO 2 U (hk1 _ U))))
 refine av (bT 5 [12,13,14,15,16,17] 12 17 ((kc ((s.data.getD (0:Int).toNat 0).toNat:Int)) != 2) U (λc2 hk2=>?_) (λe=>?_))
 .refine av ?_
  have ho1:0<=(0:Int)/\(0:Int)<(s.size:Int):=(by have:=PJ (Bool.or_eq_false_iff.1 ob).1;omega)
  exact aA (eT (H6 AD U U ho1) (ai call377 (Bg h ((s.data.getD (0:Int).toNat 0).toNat:Int)) U (qO 2 U (hk2 _ U))))
 refine aF (ae hs0 U (λc3 hs1=>?_) (λc3 hs2=>?_))
 .exact sr (an (nretP [.bool false] (cs hs1)))
 refine qT 5 U (aA (eT (BY AD U) (qO 2 U ?_)))
 refine ir (ι:=Nat) (λi=>[]) (λi=>h) (λi=>[]) (λi=>i<=(qH s.size).length/\dJ s=((dJ.K1))) ?_ (λhx1=>?_)
 .rintro i1 ⟨fm,hs4⟩ e
  exact sr (an (nretP [.bool true] (cs hs4)))
 refine jZ (ι:=Nat×List Nat) (λi=>[(0,.string s),(19,I (s.size:Int)),(20,I (i.1:Int))]) (λi=>h) (λi=>[]) (λi=>(qH s.size).drop i.1=i.2/\i.1<=(qH s.size).length/\dJ s=((dJ.L1 s (dJ.K1)) i.2 i.1)) (λi=>i.2.length) (0,(qH s.size)) rd sw ⟨U,qM _,hs2⟩ ?_
 rintro⟨i1,s1⟩ ⟨hd1,fm,hs6⟩ ag1 e
 rcases s1 with _|⟨y1,rz1⟩
 .have fS:decide ((i1:Int)<(s.size:Int))=false:=by simpa using mR hd1
  exact sr (fO fS U (qO 4 U (hx1 i1 _ ⟨fm,hs6⟩ trivial)))
 have df:decide ((i1:Int)<(s.size:Int))=true:=by simpa using s8 hd1
 have ek:i1<s.size:=by simpa using hY hd1
 refine sr (tO df U (qO 15 U ?_))
 have ho3:0<=((i1:Int):Int)/\((i1:Int):Int)<(s.size:Int):=ob
 refine aA (eT (H6 AD U U ho3) (ai call377 (Bg h ((s.data.getD ((i1:Int):Int).toNat 0).toNat:Int)) U (qO 7 U (bp 3 [29,30,31,32] 29 32 ((kc ((s.data.getD ((i1:Int):Int).toNat 0).toNat:Int)) != 3) U (λc4 hk3=>?_) (λe=>?_)))))
 .exact av (qO 2 U (hk3 _ U))
 refine av (bp 3 [33,34,35,36] 33 36 ((kc ((s.data.getD ((i1:Int):Int).toNat 0).toNat:Int)) != 5) U (λc5 hk4=>?_) (λe=>?_))
 .exact av (qO 2 U (hk4 _ U))
 refine aF (ae hs6 U (λc6 hs8=>?_) (λc6 hs9=>?_))
 .exact sr (an (nretP [.bool false] (cs hs8)))
 exact aI (qT 2 U (oi i1 U (qO 2 U (ag1 ((i1+1),rz1) _ (Nat.lt_succ_self _) ⟨kw hd1,hY hd1,hs9⟩ rd))))
theorem ot(h:HF)(s:ByteArray)  : Ret prog 326 [.string s] h (.bool (dN s)):=by
 refine sT func326 U ntmps326 U λX hM hX hF=>?_
 have hs0:=@rfl _ (dN s)
 refine qT 16 U (ae hs0 U (λc1 hs1=>?_) (λc1 hs2=>?_))
 .refine aI (ae hs1 U (λc2 hs3=>?_) (λc2 hs4=>?_))
  .exact sr (an (nretP [.bool false] (cs hs3)))
  exact aI (qT 4 U (ai zw (iy h s) U (an (nretP [.bool (dJ s)] (cs hs4)))))
 refine qT 5 U (ae hs2 U (λc3 hs7=>?_) (λc3 hs8=>?_))
 .refine aI (ae hs7 U (λc4 hs9=>?_) (λc4 hs10=>?_))
  .exact sr (an (nretP [.bool false] (cs hs9)))
  exact aI (qT 4 U (ai zw (iy h s) U (an (nretP [.bool (dJ s)] (cs hs10)))))
 refine qT 5 U (ae hs8 U (λc5 hs13=>?_) (λc5 hs14=>?_))
 .refine aI (ae hs13 U (λc6 hs15=>?_) (λc6 hs16=>?_))
  .exact sr (an (nretP [.bool false] (cs hs15)))
  exact aI (qT 4 U (ai zw (iy h s) U (an (nretP [.bool (dJ s)] (cs hs16)))))
 refine qT 5 U (ae hs14 U (λc7 hs19=>?_) (λc7 hs20=>?_))
 .refine aI (ae hs19 U (λc8 hs21=>?_) (λc8 hs22=>?_))
  .exact sr (an (nretP [.bool false] (cs hs21)))
  exact aI (qT 4 U (ai zw (iy h s) U (an (nretP [.bool (dJ s)] (cs hs22)))))
 refine qT 5 U (ae hs20 U (λc9 hs25=>?_) (λc9 hs26=>?_))
 .refine aI (ae hs25 U (λc10 hs27=>?_) (λc10 hs28=>?_))
  .exact sr (an (nretP [.bool false] (cs hs27)))
  exact aI (qT 4 U (ai zw (iy h s) U (an (nretP [.bool (dJ s)] (cs hs28)))))
 refine qT 5 U (ae hs26 U (λc11 hs31=>?_) (λc11 hs32=>?_))
 .refine aI (ae hs31 U (λc12 hs33=>?_) (λc12 hs34=>?_))
  .exact sr (an (nretP [.bool false] (cs hs33)))
  exact aI (qT 4 U (ai zw (iy h s) U (an (nretP [.bool (dJ s)] (cs hs34)))))
 refine qT 5 U (ae hs32 U (λc13 hs37=>?_) (λc13 hs38=>?_))
 .refine aI (ae hs37 U (λc14 hs39=>?_) (λc14 hs40=>?_))
  .exact sr (an (nretP [.bool false] (cs hs39)))
  exact aI (qT 4 U (ai zw (iy h s) U (an (nretP [.bool (dJ s)] (cs hs40)))))
 refine qT 5 U (ae hs38 U (λc15 hs43=>?_) (λc15 hs44=>?_))
 .refine aI (ae hs43 U (λc16 hs45=>?_) (λc16 hs46=>?_))
  .exact sr (an (nretP [.bool false] (cs hs45)))
  exact aI (qT 4 U (ai zw (iy h s) U (an (nretP [.bool (dJ s)] (cs hs46)))))
 refine qT 5 U (ae hs44 U (λc17 hs49=>?_) (λc17 hs50=>?_))
 .refine aI (ae hs49 U (λc18 hs51=>?_) (λc18 hs52=>?_))
  .exact sr (an (nretP [.bool false] (cs hs51)))
  exact aI (qT 4 U (ai zw (iy h s) U (an (nretP [.bool (dJ s)] (cs hs52)))))
 refine qT 5 U (ae hs50 U (λc19 hs55=>?_) (λc19 hs56=>?_))
 .refine aI (ae hs55 U (λc20 hs57=>?_) (λc20 hs58=>?_))
  .exact sr (an (nretP [.bool false] (cs hs57)))
  exact aI (qT 4 U (ai zw (iy h s) U (an (nretP [.bool (dJ s)] (cs hs58)))))
 refine qT 5 U (ae hs56 U (λc21 hs61=>?_) (λc21 hs62=>?_))
 .refine aI (ae hs61 U (λc22 hs63=>?_) (λc22 hs64=>?_))
  .exact sr (an (nretP [.bool false] (cs hs63)))
  exact aI (qT 4 U (ai zw (iy h s) U (an (nretP [.bool (dJ s)] (cs hs64)))))
 refine qT 5 U (ae hs62 U (λc23 hs67=>?_) (λc23 hs68=>?_))
 .refine aI (ae hs67 U (λc24 hs69=>?_) (λc24 hs70=>?_))
  .exact sr (an (nretP [.bool false] (cs hs69)))
  exact aI (qT 4 U (ai zw (iy h s) U (an (nretP [.bool (dJ s)] (cs hs70)))))
 refine qT 5 U (ae hs68 U (λc25 hs73=>?_) (λc25 hs74=>?_))
 .refine aI (ae hs73 U (λc26 hs75=>?_) (λc26 hs76=>?_))
  .exact sr (an (nretP [.bool false] (cs hs75)))
  exact aI (qT 4 U (ai zw (iy h s) U (an (nretP [.bool (dJ s)] (cs hs76)))))
 refine qT 5 U (ae hs74 U (λc27 hs79=>?_) (λc27 hs80=>?_))
 .refine aI (ae hs79 U (λc28 hs81=>?_) (λc28 hs82=>?_))
  .exact sr (an (nretP [.bool false] (cs hs81)))
  exact aI (qT 4 U (ai zw (iy h s) U (an (nretP [.bool (dJ s)] (cs hs82)))))
 refine qT 5 U (ae hs80 U (λc29 hs85=>?_) (λc29 hs86=>?_))
 .refine aI (ae hs85 U (λc30 hs87=>?_) (λc30 hs88=>?_))
  .exact sr (an (nretP [.bool false] (cs hs87)))
  exact aI (qT 4 U (ai zw (iy h s) U (an (nretP [.bool (dJ s)] (cs hs88)))))
 refine qT 4 U (ae hs86 U (λc31 hs91=>?_) (λc31 hs92=>?_))
 .exact sr (an (nretP [.bool false] (cs hs91)))
 exact aI (qT 4 U (ai zw (iy h s) U (an (nretP [.bool (dJ s)] (cs hs92)))))
theorem ld(h:HF)(s:List ByteArray)(sI:Option Addr)(sH:Nat)(v:ByteArray)(hs:SlC SO h sI sH s):Ret prog 284 [.slice sI s.length sH,.string v] h (I (aP s v)):=by
 refine sT func284 U ntmps284 U λX hM hX hF=>?_
 have hs0:=@rfl _ (aP s v)
 refine qK 11 [] U ?_
 refine lp0 s (λi=>[(0,.slice sI s.length sH),(1,.string v),(7,I (s.length:Int)),(8,I (i:Int))]) ([]) (λs1 i=>(aP.L1 v (aP.K1)) s1 i) hs.1.1 hs0 ?_ ?_
 .rintro i1 fm hs1 e
  exact sr (an (nretP [I (-1)] (ci hs1)))
 rintro i1 y1 rz1 hd1 df aS ek gu hs3 hx1 ag1 e
 refine sr (tO df U (qO 16 U (aA (iF (λy=>[.string y]) vY ty9 hs.1 aS U U U (λq2 A2=>dj ty9 A2 U (qO 2 U (ae hs3 U (λc2 hs4=>?_) (λc2 hs5=>?_))))))))
 .exact sr (qO 3 U (nretP [I (i1:Int)] (ci hs4)))
 exact aI (qT 2 U (oi i1 U (qO 2 U (ag1 hs5))))
theorem mT(h:HF)(l:List ByteArray)(ep:Option Addr)(eo:Nat)(ok:(ByteArray->Bool))(ok_v:Value)(hl:SlC SO h ep eo l)(hok:∀(h':HF)(dC:ByteArray),xN h h'->tv prog ok_v [.string dC] h' [] (.bool (ok dC))):Ret prog 327 [.slice ep l.length eo,ok_v] h (.bool (bD l ok)):=by
 refine sT func327 U ntmps327 U λX hM hX hF=>?_
 have hs0:=@rfl _ (bD l ok)
 refine qK 11 [] U ?_
 refine lp0 l (λi=>[(0,.slice ep l.length eo),(1,ok_v),(7,.slice ep l.length eo),(8,I (l.length:Int)),(9,I (i:Int))]) ([]) (λs1 i=>(bD.L1 l ok (bD.K1)) s1 i) hl.1.1 hs0 ?_ ?_
 .rintro i1 fm hs1 e
  exact sr (an (nretP [.bool true] (cs hs1)))
 rintro i1 y1 rz1 hd1 df aS ek gu hs3 hx1 ag1 e
 refine sr (tO df U (qO 9 U (aA (iF (λy=>[.string y]) vY ty9 hl.1 aS U U U (λq2 A2=>dj ty9 A2 U (qO 7 U (aA (lA (v:=.bool (ok y1)) [] (List.nil_sublist _) (hok h y1 lf) U U (qO 2 U (bT 6 [18,19,20,21,22,23,24] 18 24 ((aP l y1) != (i1:Int)) U (λc1 hk1=>?_) (λe=>?_)))))))))))
 .exact av (av (ai NO (ld _ _ _ _ y1 hl) U (qO 3 U (hk1 _ U))))
 refine aF (ae hs3 U (λc2 hs4=>?_) (λc2 hs5=>?_))
 .exact sr (an (nretP [.bool false] (cs hs4)))
 exact aI (qT 2 U (oi i1 U (qO 2 U (ag1 hs5))))
theorem tj(h:HF)(s:List ByteArray)(sI:Option Addr)(sH:Nat)(v:ByteArray)(hs:SlC SO h sI sH s):Ret prog 328 [.slice sI s.length sH,.string v] h (.bool (da s v)):=by
 refine sT func328 U ntmps328 U λX hM hX hF=>?_
 have hs0:=@rfl _ (da s v)
 exact sr (qO 6 U (ai NO (ld _ _ _ _ v hs) U (qO 3 U (nretP [.bool (decide (0<=(aP s v)))] (cs hs0)))))
theorem Bc(h:HF)(p:Policy)(gM:eR)(hp:vP h p gM)(hsm:smP p):GK prog 279 [.agg (xE p gM).toArray] h (exW stopV (λr:Unit=>(.tuple #[]:Value)) (ct p)):=by
 refine cB LJ U ntmps279 U λX hM hX=>?_
 have hs0:=@rfl _ (ct p)
 have hsr:=hsm.rules
 refine sr (cv (λb1=>qL 5 [0] U (ai call326 (ot h p.Name) U (av (bp 4 [8,9,10,11,12] 8 12 (bD p.Offices dN) U (λc1 hk1=>?_) (λe=>?_))))))
 .exact qL 2 [0] U (ai call327 (mT _ _ _ _ dN (.func (.func 326) #[] #[]) hp.Offices (λh' dC hle=>iq call326 (ot h' dC))) U (eB U (hk1 _ U)))
 refine av (bp 4 [13,14,15,16,17] 13 17 (bD p.Kinds dN) U (λc2 hk2=>?_) (λe=>?_))
 .exact qL 2 [0] U (ai call327 (mT _ _ _ _ dN (.func (.func 326) #[] #[]) hp.Kinds (λh' dC hle=>iq call326 (ot h' dC))) U (eB U (hk2 _ U)))
 refine aA (mA yT (gX h (((dN p.Name)&&(bD p.Offices dN))&&(bD p.Kinds dN)) 201) U (λu1 hu1=>?_) (λpv1 hpv1 e=>?_))
 .obtain⟨rx1,hrx1,rfl⟩:=ov hu1
  have hs1:=hs0.trans (pq hrx1)
  cases rx1
  refine qO 3 U (cM 0 ty64 U U U (aA (cR call325 (mi _ _ _ hp ob) U (λv1 h1 hle1 hp1=>?_))))
  obtain⟨rb1,rc1,rfl,sl1⟩:=hp1
  refine qL 3 [] U (ef ?_)
  let z1:Nat×Obj:=(b1,O (xE p gM) 64)
  refine cg (L':=[z1]++(markB [])) ap ?_
  refine sC (ι:=Nat×List Nat×HF) (λi=>[]) (λi=>marks i.2.1) (λi=>i.2.2) (λi=>[z1]++(markB i.2.1)) (λi=>i.1<=(aw p).length/\ct p=((ct.K1))/\xN h1 i.2.2) ?_ (λhx1=>?_)
  .rintro⟨i1,rs1,hh1⟩ ⟨fm,hs2,hl1⟩ e
   have hs3:ct p=(Except.ok ()):=hs2
   exact cg (L':=([z1])++markB rs1) ap (yl rs1 [] LJ U hX trivial (congrArg (exW stopV (λr:Unit=>(.tuple #[]:Value))) hs3))
  refine wN (ι:=Nat×List Nat×HF×List Expr) (λi=>[(1,Q b1),(20,.slice rb1 ((aw p).length) rc1),(21,I ((aw p).length:Int)),(22,I (i.1:Int))]) (λi=>marks i.2.1) (λi=>i.2.2.1) (λi=>[z1]++(markB i.2.1)) (λi=>(aw p).drop i.1=i.2.2.2/\i.1<=(aw p).length/\ct p=((ct.L1 p (ct.K1)) i.2.2.2)/\xN h1 i.2.2.1) (λi=>i.2.2.2.length) (0,[],h1,(aw p)) U rd sw ⟨U,qM _,hs1,lf⟩ ?_
  rintro⟨i1,rs1,hh1,s1⟩ ⟨hd1,fm,hs4,hl1⟩ ag1 e
  rcases s1 with _|⟨y1,rz1⟩
  .have fS:=mR hd1
   exact sr (fO fS U (qO 4 U (hx1 (i1,rs1,hh1) _ ⟨fm,hs4,hl1⟩ trivial)))
  have df:=s8 hd1
  have aS:=rE hd1
  have ek:=hY hd1
  have gu:=sl1.1.1
  try have hsy:=BA hsm (fN hd1)
  refine sr (tO df U (qO 8 U (aA (iR lB ty62 (sl1.mono Sh hl1).1 aS U U U (λ_ _ _ e=>e) (λq2 r2 A2 ok2=>dt ty62 A2 U U (aT zc62 (λb4=>aO 0 ty62 U U U U U U (qO 3 U (cM 0 ty62 U U U (aA (cR LM (mS _ _ _ 1 ok2 ob) U (λv3 h3 hle3 hp3=>?_))))))))))))
  obtain⟨_,rfl,mo2⟩:=hp3
  refine qO 2 U ?_
  let z2:Nat×Obj:=(b4,O (vC y1 r2) 62)
  refine cg (L':=([z2,z1])++markB rs1) ap ?_
  refine jw (it:=v3) (xs:=(bj y1 1)) (ι:=HF) rs1 (λi=>i) (λi=>[z2,z1]) (λs i=>ct p=((ct.L3 p ((ct.L1 p (ct.K1) rz1))) s)/\xN h3 i) (λ_=>False) (λ_=>False) 0 (λch _ _=>∃pv_,ch=[{ v:=stopV pv_,recovered:=false }]/\ct p=.error pv_) h3 LJ U mo2 U nW (λ_ _ _ _ _ hq=>hq) U (show[z2,z1]=_ from U) ⟨hs4,lf⟩ ?_ ?_ ?_ ?_ ?_
  .rintro l3 dm3 lp3 y3 rz3 vs3 hh3 hr3 X hFR3 ⟨hs6,hl3⟩ hl03 hlr3 hv3 hX hXM hlp3 nx3 rt3 ex3 pn3
   obtain⟨rr3_0,rfl,ok3_0⟩:=hv3
   let z3:Nat×Obj:=(dm3,.deferred (some []))
   refine cg (L':=[(l3,.loop lp3),z3,z2,z1]++(markB rs1)) ap (bC (aT zc327 (λb6=>aO 0 ty327 U U U U U U (aF (ji 1 U hlp3 (qK 3 [] U (cM 0 ty62 U U U (ai call283 (nL _ _ _ ok3_0.x) U (qO 2 U (bT 7 [33,34,35,36,37,38,39,40] 33 40 (da p.Offices y3.x.Name) U (λc3 hk3=>?_) (λe=>?_)))))))))))
   .exact qL 5 [4,0] U (ai call328 (tj _ _ _ _ y3.x.Name (hp.Offices.mono Ty ((((hle1.t hl1).t hle3).t hl3).t hlr3))) U (eB U (hk3 _ U)))
   refine aA (mA yT (gX hr3 ((!(dk y3.x))||(da p.Offices y3.x.Name)) 201) U (λu2 hu2=>?_) (λpv2 hpv2 e=>?_))
   .obtain⟨rx2,hrx2,rfl⟩:=ov hu2
    have hs7:=hs6.trans (pq hrx2)
    cases rx2
    exact aF (eS (bo (L':=[(l3,.loop { lp3 with state:=.busy }),z3,z2,z1]++(markB rs1)) js (cg (L':=rdH l3 dm3 lp3 (([z2,z1])++markB rs1)) ap (nx3 hr3 _ _ ⟨hs7,(hl3.t hlr3)⟩ lf))))
   obtain⟨pv2e,hpv2e,rfl⟩:=mF hpv2
   have hs8:=hs6.trans (mZ hpv2e)
   exact zy (L':=[(l3,.loop { lp3 with state:=.busy }),z3]++(markB rs1)) js (pn3 _ _ _ [] ⟨_,U,hs8⟩)
  .rintro dm3 hh3 hn3 ⟨hs9,hl3⟩ hln3 hl03
   exact cg (L':=[z2,z1]++(markB (dm3::rs1))) ap (qT 3 U (oi i1 U (qO 2 U (bo (L':=[z1]++(markB (dm3::rs1))) js (ag1 ((i1+1),(dm3::rs1),hn3,rz1) _ (Nat.lt_succ_self _) ⟨kw hd1,hY hd1,hs9,(((hl1.t hle3).t hl3).t hln3)⟩ rd)))))
  .exact xf
  .exact xf
  rintro dm3 ch hn3 L0 ⟨pv_,rfl,hpv_⟩ hl03
  exact nv (dm3::rs1) LJ hX (congrArg (exW stopV (λr:Unit=>(.tuple #[]:Value))) hpv_)
 obtain⟨pv1e,hpv1e,rfl⟩:=mF hpv1
 have hs10:=hs0.trans (mZ hpv1e)
 exact gy (nv [] LJ hX (congrArg (exW stopV (λr:Unit=>(.tuple #[]:Value))) hs10))
theorem gJ(h:HF)(eE:Int)(low:Int)(high:Int)  : Ret prog 149 [I eE,I low,I high] h (.bool (aK eE low high)):=by
 refine sT func149 U ntmps149 U λX hM hX hF=>?_
 have hs0:=@rfl _ (aK eE low high)
 refine qT 10 U (bp 4 [10,11,12,13,14] 10 14 (decide (eE<=high)) U (λc1 hk1=>?_) (λe=>?_))
 .exact av (qO 3 U (hk1 _ U))
 exact an (nretP [.bool (decide (low<=eE)&&decide (eE<=high))] (cs hs0))
theorem MI{n a b:Int}(h:aK n a b=true):a<=n/\n<=b:=by simpa[aK]using h
theorem yK(h:HF)(x0:Expr)(Rg:cN)(hx0:zG h x0 Rg):Ret prog 405 [.agg (vC x0 Rg).toArray] h (.bool (pS x0)):=by
 refine sT func405 U ntmps405 U λX hM hX hF=>?_
 have hs0:=@rfl _ (pS x0)
 exact sr (cv (λb1=>qO 6 U (nretP [.bool false] (cs hs0))))
theorem yJ(h:HF)(x:Expr)(fT:cN)(hx:zG h x fT):Ret prog 406 [.agg (vC x fT).toArray] h (.bool (ka x)):=by
 refine sT func406 U ntmps406 U λX hM hX hF=>?_
 have hs0:=@rfl _ (ka x)
 refine sr (cv (λb1=>qL 8 [0] U (bp 5 [6,7,8,9,10,11] 6 11 ((x.L.length:Int)==0) U (λc1 hk1=>?_) (λe=>?_))))
 .exact qL 5 [0] U (hk1 _ U)
 exact an (nretP [.bool ((x.N==0)&&((x.L.length:Int)==0))] (cs hs0))
theorem yI(h:HF)(x:Expr)(fT:cN)(hx:zG h x fT):Ret prog 407 [.agg (vC x fT).toArray] h (.bool (j9 x)):=by
 refine sT func407 U ntmps407 U λX hM hX hF=>?_
 have hs0:=@rfl _ (j9 x)
 refine sr (cv (λb1=>qL 6 [0] U (ai AC (gJ h x.N 1 4096) U (av (bp 5 [6,7,8,9,10,11] 6 11 ((x.L.length:Int)==0) U (λc1 hk1=>?_) (λe=>?_))))))
 .exact qL 5 [0] U (hk1 _ U)
 exact an (nretP [.bool ((aK x.N 1 4096)&&((x.L.length:Int)==0))] (cs hs0))
theorem yH(h:HF)(x:Expr)(fT:cN)(hx:zG h x fT):Ret prog 408 [.agg (vC x fT).toArray] h (.bool (j8 x)):=by
 refine sT func408 U ntmps408 U λX hM hX hF=>?_
 have hs0:=@rfl _ (j8 x)
 refine sr (cv (λb1=>qL 8 [0] U (bp 5 [6,7,8,9,10,11] 6 11 (aK (x.L.length:Int) 1 16) U (λc1 hk1=>?_) (λe=>?_))))
 .exact qL 3 [0] U (ai AC (gJ h (x.L.length:Int) 1 16) U (eB U (hk1 _ U)))
 refine av (bp 7 [12,13,14,15,16,17,18,19] 12 19 (aK x.N 1 (x.L.length:Int)) U (λc2 hk2=>?_) (λe=>?_))
 .exact qL 5 [0,0] U (ai AC (gJ h x.N 1 (x.L.length:Int)) U (eB U (hk2 _ U)))
 exact an (nretP [.bool (((x.Name.toList==(⟨#[]⟩:ByteArray).toList)&&(aK (x.L.length:Int) 1 16))&&(aK x.N 1 (x.L.length:Int)))] (cs hs0))
theorem yG(h:HF)(x:Expr)(fT:cN)(hx:zG h x fT):Ret prog 409 [.agg (vC x fT).toArray] h (.bool (jd x)):=by
 refine sT func409 U ntmps409 U λX hM hX hF=>?_
 have hs0:=@rfl _ (jd x)
 refine sr (cv (λb1=>qL 8 [0] U (bp 5 [6,7,8,9,10,11] 6 11 ((x.L.length:Int)==2) U (λc1 hk1=>?_) (λe=>?_))))
 .exact qL 5 [0] U (hk1 _ U)
 refine av (bp 4 [12,13,14,15,16] 12 16 (aK x.N 0 1099511627776) U (λc2 hk2=>?_) (λe=>?_))
 .exact qL 2 [0] U (ai AC (gJ h x.N 0 1099511627776) U (eB U (hk2 _ U)))
 exact an (nretP [.bool (((x.Name.toList==(⟨#[]⟩:ByteArray).toList)&&((x.L.length:Int)==2))&&(aK x.N 0 1099511627776))] (cs hs0))
theorem Le(h:HF)(i:Int)(hi:0<=i/\i<5)(x:Expr)(fT:cN)(hx:zG h x fT):tv prog (kfun i) [.agg (vC x fT).toArray] h [] (.bool (kindsP i x)):=by
 have:i=0\/i=1\/i=2\/i=3\/i=4:=by omega
 rcases this with rfl|rfl|rfl|rfl|rfl
 .exact iq (cap:=[]) call405 (yK h x fT hx)
 .exact iq (cap:=[]) call406 (yJ h x fT hx)
 .exact iq (cap:=[]) call407 (yI h x fT hx)
 .exact iq (cap:=[]) call408 (yH h x fT hx)
 exact iq (cap:=[]) call409 (yG h x fT hx)
end
variable {v:Go.Value}
section
open Go.Proofs Go.Proofs.Tryz
section runs
variable {P:Program} {e:Env} {X:Cx} {h:HF} {L:LH} {d:Option Nat} {ty:TypeId} {pos:String} {af:Array Edge} {g:Option (Nat×Bool)}
theorem PR{t u:TypeId}(hT:∃ms,P.underlying t=some (.interface ms))(hx:e.ev x=.nilIface):∀w,St X h L w->(execOp e.ev ⟨d,.binOp .neq t x (.const .nilIface) u,ty,pos,af,g⟩).run P w=.ok (.value (.bool false)) w:=
 λw _=>by
  obtain⟨ms,hT⟩:=hT
  have hc:e.ev (.const .nilIface)=.nilIface:=rfl
  have he:(Op.equal t .nilIface .nilIface).run P w=.ok true w:=by
   rw[Op.equal,Op.maxDepth,show(10000:Nat)=9999+1 from rfl,Op.equalIn];simp[run_underlying hT]
  simp[execOp,hx,hc,eqGuard,binOp,he]
theorem PQ{t u:TypeId}{T:TypeId}(hT:∃ms,P.underlying t=some (.interface ms))(hx:e.ev x=.iface T v):∀w,St X h L w->(execOp e.ev ⟨d,.binOp .neq t x (.const .nilIface) u,ty,pos,af,g⟩).run P w=.ok (.value (.bool true)) w:=
 λw _=>by
  obtain⟨ms,hT⟩:=hT
  have hc:e.ev (.const .nilIface)=.nilIface:=rfl
  have he:(Op.equal t (.iface T v) .nilIface).run P w=.ok false w:=by
   rw[Op.equal,Op.maxDepth,show(10000:Nat)=9999+1 from rfl,Op.equalIn];simp[run_underlying hT]
  simp[execOp,hx,hc,eqGuard,binOp,he]
theorem MX{xt T:TypeId}{fs:Array Field}(hT:P.underlying T=some (.struct fs))(hx:e.ev x=.iface T v):∀w,St X h L w->(execOp e.ev ⟨d,.typeAssert x xt T true,ty,pos,af,g⟩).run P w=.ok (.value (.tuple #[v,.bool true])) w:=
 λw _=>by simp[execOp,hx,Instr.typeAssert,run_underlying hT]
end runs
def bodyOf(f:Func):Code:=f.body.getD .skip
theorem KY{P:Program}{t:Nat}{fv:Value}(hf:e t=fv)(w:World):
  (execOp e.ev ⟨d,.call ⟨.value (.tmp t),#[],ats⟩,ty,pos,af,g⟩).run P w=(do let d ←xJ fv #[];invoke d.target d.args:Sem Next).run P w:=by
 subst hf;simp[execOp,resolve,Env.ev]
theorem GH(h:HF)(b1:Nat)(X':Cx):TT prog (deferFrame 323) 17 [.code (bodyOf Tryz.f323)] (F9 prog X' .returning (λh' B=>h'=h/\B=[(b1,jJ (kB [.int .i64 0]) 37 (0,0))])) (envArgs [.pointer (some ⟨b1,0,none⟩)]) [] X' h [(b1,jJ (kB [.int .i64 0]) 37 (0,0))]:=by
 refine dK (bC (?_))
 refine CI (λcs Φ⟨c,rest,hcs,hm,_⟩=>by subst hcs;simp[recoverD,hm]) ?_
 refine gg (aF (dK (bC (av (aA (eT (PR ⟨_,NN⟩ rfl) (aF (?_))))))))
 exact oM rfl (aI (HR NM rfl ⟨rfl,rfl⟩))
theorem GI(h:HF)(b1:Nat)(ee:Int)(X':Cx):TT prog (deferFrame 323) 17 [.code (bodyOf Tryz.f323)]
  (λcs Φ=>∃c rest,cs=c::rest/\c.mode=.panicking [{ v:=stopV ee,recovered:=false }]/\F9 prog X' (.panicking [{ v:=stopV ee,recovered:=true }]) (λh' B=>h'=h/\∃B0,B=B0++[(b1,jJ (kB [.int .i64 ee]) 37 (0,0))]) ({ c with mode:=(.panicking [{ v:=stopV ee,recovered:=true }]) }::rest) Φ)
  (envArgs [.pointer (some ⟨b1,0,none⟩)]) [] X' h [(b1,jJ (kB [.int .i64 0]) 37 (0,0))]:=by
 refine dK (bC (?_))
 refine Eh (F':=F9 prog X' (.panicking [{ v:=stopV ee,recovered:=true }]) (λh' B=>h'=h/\∃B0,B=B0++[(b1,jJ (kB [.int .i64 ee]) 37 (0,0))])) (stopV ee) (λcs Φ⟨c,rest,hcs,hm,hF⟩=>⟨_,by subst hcs;simp[recoverD,hm],hF⟩) ?_
 refine gg (aF (dK (bC (av (aA (eT (PQ ⟨_,NN⟩ rfl) (aF (?_))))))))
 refine ls rfl (dK (bC (av (aA (eT (MX underlying358 rfl) (av (mL rfl rfl (mL rfl rfl (aT zc358 (λb2=>?_))))))))))
 refine aO 0 ty358 rfl rfl rfl rfl rfl rfl (gg (aF (?_)))
 refine dK (dK (bC (av (mU rfl (aF (?_))))))
 refine oM rfl (aI (?_))
 refine bC (jq O5 rfl (?_))
 refine nN 0 ty37 rfl rfl rfl (?_)
 refine cJ 1 ty37 rfl rfl rfl rfl rfl rfl (aF (?_))
 exact HR NM rfl ⟨rfl,[(b2,_)],rfl⟩
theorem yL(h:HF)(fv:Value)(x:Except Int Unit)(hf:mu prog fv #[] h [] (XR (exW stopV (λ_:Unit=>.tuple #[]) x) h)):Ret prog 276 [fv] h (.int .i64 (attR x)):=by
 refine cB func276 rfl ntmps276 rfl λX hM hX=>?_
 refine dK (bC (aT zc37 (λb1=>aF (dK (bC (aA (eA rfl rfl (N0 rfl rfl (aF (dK (bC (av (?_)))))))))))))
 have fin:∀(r:Int)(B:LH),attR x=r->(∃B0,B=B0++[(b1,jJ (kB [.int .i64 r]) 37 (0,0))])->∀(e:Env),e 2=.pointer (some ⟨b1,0,none⟩)->∀a:Act,envOf a=e->∀w,St X h (B++[]) w ->
   ∃v h2 B2,(results Tryz.f276 a.tmps).run prog w=.ok v w/\St X h2 B2 w/\v=.int .i64 (attR x)/\h2=h/\B2=[]:=by
  rintro r B hr ⟨B0,rfl⟩ e he a ha w hw
  have hw':=hw.sub (L':=[(b1,jJ (kB [.int .i64 r]) 37 (0,0))]) (by simp)
  exact⟨_,h,[],mB (rs:=[.cell 2 37]) (vs:=[.int .i64 r]) rfl ⟨⟨0,b1,[.int .i64 r],37,(0,0),rfl,he,.inr ⟨_,ty37,rfl⟩⟩,trivial⟩ a ha w hw',hw'.sub (List.nil_sublist _),by rw[hr];rfl,rfl,rfl⟩
 refine HQ rfl (by decide) rfl rfl (λw hw=>?_)
 have hpre:Pre h [] w:=(hw.sub (List.nil_sublist _)).pre
 obtain⟨nx,hrun,hcall⟩:=hf w hpre
 refine⟨nx,w,?_,hcall.mono ?_⟩
 .rw[←hrun];exact KY rfl w
 rintro y w' ⟨h',B,hst,rfl,rfl,hv⟩
 have hw2:=St.after (A:=[]) (B:=[]) (F:=[(b1,jJ (kB [.int .i64 0]) 37 (0,0))]) hw hst
 cases y with
 |outgrown=>trivial
 |returned v=>
  refine⟨h',_,hw2,?_⟩
  have hx:∃u,x=.ok u:=by cases x with
   |ok u=>exact⟨u,rfl⟩
   |error p=>simp[exW]at hv
  obtain⟨u,rfl⟩:=hx
  refine aF (dK (bC (cJ 0 ty37 rfl rfl rfl rfl rfl rfl (aF (?_)))))
  refine PC (c:=bodyOf Tryz.f323) (cap:=[.pointer (some ⟨b1,0,none⟩)]) (A:=[(b1,jJ (kB [.int .i64 0]) 37 (0,0))]) (R':=λh'' B=>h''=h'/\B=[(b1,jJ (kB [.int .i64 0]) 37 (0,0))]) func276 NM rfl ntmps323 rfl call323 (λX' _=>GH h' b1 X') (Fr:=[]) rfl ?_
  rintro h'' B _ ⟨rfl,rfl⟩ a ha w hw
  obtain⟨v,h2,B2,h3,h4,rfl,rfl,rfl⟩:=fin 0 _ rfl ⟨[],rfl⟩ _ rfl a ha w hw
  exact⟨_,_,_,h3,h4,rfl,rfl,rfl⟩
 |panicked ch=>
  refine⟨h',_,hw2,?_⟩
  have hx:∃ee,x=.error ee:=by cases x with
   |ok u=>simp[exW]at hv
   |error p=>exact⟨p,rfl⟩
  obtain⟨ee,rfl⟩:=hx
  simp only[exW]at hv
  cases hv
  refine PF (c:=bodyOf Tryz.f323) (cap:=[.pointer (some ⟨b1,0,none⟩)]) (A:=[(b1,jJ (kB [.int .i64 0]) 37 (0,0))]) (R':=λh'' B=>h''=h'/\∃B0,B=B0++[(b1,jJ (kB [.int .i64 ee]) 37 (0,0))]) func276 NM rfl ntmps323 rfl call323 (λX' _=>GI h' b1 ee X') (Fr:=[]) rfl ?_
  rintro h'' B _ ⟨rfl,hB⟩ a ha w hw
  obtain⟨v,h2,B2,h3,h4,rfl,rfl,rfl⟩:=fin ee _ rfl hB _ rfl a ha w hw
  exact⟨_,_,_,h3,h4,rfl,rfl,rfl⟩
end
section
open Go.Proofs Go.Proofs.Tryz
set_option maxHeartbeats 2000000
theorem Ca(h:HF)(p:Policy)(gM:eR)(hp:vP h p gM)(hsm:smP p)(hk:Kinds h):GK prog 280 [.agg (xE p gM).toArray] h (exW stopV (λr:Unit=>(.tuple #[]:Value)) (bq p)):=by
 refine cB GS U ntmps280 U λX hM hX=>?_
 have hs0:=@rfl _ (bq p)
 have hsr:=hsm.rules
 refine sr (cv (λb1=>qL 8 [0] U (bp 8 [12,13,14,15,16,17,18,19,20] 12 20 ((p.Rules.length:Int)==(p.Kinds.length:Int)) U (λc1 hk1=>?_) (λe=>?_))))
 .exact qL 8 [0,0] U (hk1 _ U)
 refine av (bp 4 [21,22,23,24,25] 21 25 (aK p.Mode 1 4) U (λc2 hk2=>?_) (λe=>?_))
 .exact qL 2 [0] U (ai AC (gJ h p.Mode 1 4) U (eB U (hk2 _ U)))
 refine aA (mA yT (gX h ((decide (0<(p.Kinds.length:Int))&&((p.Rules.length:Int)==(p.Kinds.length:Int)))&&(aK p.Mode 1 4)) 200) U (λu1 hu1=>?_) (λpv1 hpv1 e=>?_))
 .obtain⟨rx1,hrx1,rfl⟩:=ov hu1
  have hs1:=hs0.trans (pq hrx1)
  cases rx1
  refine qL 9 [0] U ?_
  let z2:Nat×Obj:=(b1,O (xE p gM) 64)
  refine lp0 p.Rules (λi=>[(1,Q b1),(28,.slice gM.nF p.Rules.length gM.nE),(29,I (p.Rules.length:Int)),(30,I (i:Int))]) ([z2]) (λs1 i=>(bq.L1 p (bq.K1 p)) s1 i) hp.Rules.1.1 hs1 ?_ ?_
  .rintro i1 fm hs2 e
   refine sr (cM 0 ty64 U U U (aA (cR call325 (mi _ _ _ hp ob) U (λv1 h1 hle1 hp1=>?_))))
   obtain⟨rb1,rc1,rfl,sl1⟩:=hp1
   refine aT zc60 (λb3=>cJ 0 ty60 U U U U U U (qL 7 [0] U (ef ?_)))
   let z1:Nat×Obj:=(b3,O [.slice rb1 ((aw p).length) rc1] 60)
   refine cg (L':=[z1,z2]++(markB [])) ap ?_
   refine sC (ι:=Nat×List Nat×HF) (λi=>[]) (λi=>marks i.2.1) (λi=>i.2.2) (λi=>[z1,z2]++(markB i.2.1)) (λi=>i.1<=(aw p).length/\bq p=((bq.K2))/\xN h1 i.2.2) ?_ (λhx2=>?_)
   .rintro⟨i2,rs2,hh2⟩ ⟨yP,hs3,hl2⟩ e
    have hs4:bq p=(Except.ok ()):=hs3
    exact cg (L':=([z1,z2])++markB rs2) ap (yl rs2 [] GS U hX trivial (congrArg (exW stopV (λr:Unit=>(.tuple #[]:Value))) hs4))
   refine wN (ι:=Nat×List Nat×HF×List Expr) (λi=>[(4,Q b3),(52,.slice rb1 ((aw p).length) rc1),(53,I ((aw p).length:Int)),(54,I (i.1:Int))]) (λi=>marks i.2.1) (λi=>i.2.2.1) (λi=>[z1,z2]++(markB i.2.1)) (λi=>(aw p).drop i.1=i.2.2.2/\i.1<=(aw p).length/\bq p=((bq.L2 p (bq.K2)) i.2.2.2 i.1)/\xN h1 i.2.2.1) (λi=>i.2.2.2.length) (0,[],h1,(aw p)) U rd sw ⟨U,qM _,hs2,lf⟩ ?_
   rintro⟨i2,rs2,hh2,s2⟩ ⟨hd2,yP,hs5,hl2⟩ ag1 e
   rcases s2 with _|⟨y2,rz2⟩
   .have OH:=mR hd2
    exact sr (fO OH U (qO 4 U (hx2 (i2,rs2,hh2) _ ⟨yP,hs5,hl2⟩ trivial)))
   have vq:=s8 hd2
   have qU:=rE hd2
   have Dc:=hY hd2
   have J3:=sl1.1.1
   try have hsy:=BA hsm (fN hd2)
   refine sr (tO vq U (qO 9 U (aA (iR lB ty62 (sl1.mono Sh hl2).1 qU U U U (λ_ _ _ e=>e) (λq4 r3 A5 ok3=>dt ty62 A5 U U (aT zc3 (λb7=>aT zc62 (λb8=>cJ 1 ty3 U U U U U U (aO 0 ty62 U U U U U U (qO 3 U (cM 0 ty62 U U U (aA (cR LM (mS _ _ _ 1 ok3 ob) U (λv3 h3 hle3 hp3=>?_))))))))))))))
   obtain⟨_,rfl,mo2⟩:=hp3
   refine qO 2 U ?_
   let z3:Nat×Obj:=(b7,O [I (i2:Int)] 3)
   let z5:Nat×Obj:=(b8,O (vC y2 r3) 62)
   refine cg (L':=([z5,z3,z1,z2])++markB rs2) ap ?_
   refine jw (it:=v3) (xs:=(bj y2 1)) (ι:=HF) rs2 (λi=>i) (λi=>[z5,z3,z1,z2]) (λs i=>bq p=((bq.L4 p i2 ((bq.L2 p (bq.K2) rz2 (i2+1)))) s)/\xN h3 i) (λ_=>False) (λ_=>False) 0 (λch _ _=>∃pv_,ch=[{ v:=stopV pv_,recovered:=false }]/\bq p=.error pv_) h3 GS U mo2 U nW (λ_ _ _ _ _ hq=>hq) U (show[z5,z3,z1,z2]=_ from U) ⟨hs5,lf⟩ ?_ ?_ ?_ ?_ ?_
   .rintro l4 dm4 lp4 y4 rz4 vs4 hh4 hr4 X hFR4 ⟨hs7,hl4⟩ hl04 hlr4 hv4 hX hXM hlp4 nx4 rt4 ex4 pn4
    obtain⟨rr4_0,rfl,ok4_0⟩:=hv4
    let z6:Nat×Obj:=(dm4,.deferred (some []))
    refine cg (L':=[(l4,.loop lp4),z6,z5,z3,z1,z2]++(markB rs2)) ap (bC (aT zc327 (λb10=>aO 0 ty327 U U U U U U (aF (ji 1 U hlp4 (qT 2 U ?_))))))
    let z4:Nat×Obj:=(l4,.loop { lp4 with state:=.busy })
    let z8:Nat×Obj:=(b10,O (gq.cells y4 rr4_0) 327)
    refine er ([z8,z4,z6,z5,z3,z1,z2]) mixed kr jn (λdY _=>?_)
    refine qB [0,1] U (tf 2 U U (rj 0 ty3 U U U) (tn 3 U (eZ AC (gJ hr4 y4.x.Kind 1 4) U (⟨jn,tm 4 U ?_⟩))))
    refine dh 66 U (λc3=>?_) (λc3=>?_)
    .refine qB [5,6] U (tf 7 U U (rj 0 ty3 U U U) ?_)
     have ho4:0<=(y4.x.Kind:Int)/\(y4.x.Kind:Int)<5:=(by have:=MI ob;omega)
     have A7:=(hk.mono ((((hle1.t hl2).t hle3).t hl4).t hlr4)).at ho4
     refine tf 8 U U (λ_ _ _=>Ol underlying365 ty168 U U ho4) (tf 9 U U (rh ty168 A7 U) (qB [10] U (tf 11 U U (λ_ _ hj=>jg ty62 U (hj.nth (i:=0) U) U) (tn 12 U (lA (v:=.bool (kindsP y4.x.Kind y4.x)) [] (List.nil_sublist _) (Le hr4 y4.x.Kind ho4 y4.x rr4_0.x ok4_0.x) U U (⟨jn,tf 13 U U (λ_ _ _=>nC U (cb (show(kindsP y4.x.Kind y4.x)=((aK y4.x.Kind 1 4)&&(kindsP y4.x.Kind y4.x))from by first|(rw[c3];rfl)|(rw[c3];rfl)|simp[c3]))) ?_⟩))))))
     refine tn 14 U (mA yT (gX hr4 ((aK y4.x.Kind 1 4)&&(kindsP y4.x.Kind y4.x)) 200) U (λu2 hu2=>?_) (λpv2 hpv2 e=>?_))
     .obtain⟨rx2,hrx2,rfl⟩:=ov hu2
      have hs8:=hs7.trans (pq hrx2)
      cases rx2
      refine⟨jn,aJ kr (qK 7 [4,5] U (bT 5 [82,83,84,85,86,87] 82 87 (y4.x.Kind != 4) U (λc4 hk3=>?_) (λe=>?_)))⟩
      .exact qL 5 [0] U (hk3 _ U)
      refine aA (mA yT (gX hr4 (decide ((i2:Int)<(jC .i64 (((aw p).length:Int)-1)))||(y4.x.Kind != 4)) 200) U (λu3 hu3=>?_) (λpv3 hpv3 e=>?_))
      .obtain⟨rx3,hrx3,rfl⟩:=ov hu3
       have hs9:=hs8.trans (pq hrx3)
       cases rx3
       exact aF (eS (bo (L':=[z4,z6,z5,z3,z1,z2]++(markB rs2)) js (cg (L':=rdH l4 dm4 lp4 (([z5,z3,z1,z2])++markB rs2)) ap (nx4 hr4 _ _ ⟨hs9,(hl4.t hlr4)⟩ lf))))
      obtain⟨pv3e,hpv3e,rfl⟩:=mF hpv3
      have hs10:=hs8.trans (mZ hpv3e)
      exact zy (L':=[z4,z6]++(markB rs2)) js (pn4 _ _ _ [] ⟨_,U,hs10⟩)
     obtain⟨pv2e,hpv2e,rfl⟩:=mF hpv2
     have hs11:=hs7.trans (mZ hpv2e)
     exact zy (L':=[z4,z6]++(markB rs2)) js (pn4 _ _ _ [] ⟨_,U,hs11⟩)
    refine qR 5 8 U (tf 13 U U (λ_ _ _=>nC U (cb (show false=((aK y4.x.Kind 1 4)&&(kindsP y4.x.Kind y4.x))from by first|(rw[c3];rfl)|(rw[c3];rfl)|simp[c3]))) ?_)
    refine tn 14 U (mA yT (gX hr4 ((aK y4.x.Kind 1 4)&&(kindsP y4.x.Kind y4.x)) 200) U (λu4 hu4=>?_) (λpv4 hpv4 e=>?_))
    .obtain⟨rx4,hrx4,rfl⟩:=ov hu4
     have hs12:=hs7.trans (pq hrx4)
     cases rx4
     refine⟨jn,aJ kr (qK 7 [4,5] U (bT 5 [82,83,84,85,86,87] 82 87 (y4.x.Kind != 4) U (λc5 hk4=>?_) (λe=>?_)))⟩
     .exact qL 5 [0] U (hk4 _ U)
     refine aA (mA yT (gX hr4 (decide ((i2:Int)<(jC .i64 (((aw p).length:Int)-1)))||(y4.x.Kind != 4)) 200) U (λu5 hu5=>?_) (λpv5 hpv5 e=>?_))
     .obtain⟨rx5,hrx5,rfl⟩:=ov hu5
      have hs13:=hs12.trans (pq hrx5)
      cases rx5
      exact aF (eS (bo (L':=[z4,z6,z5,z3,z1,z2]++(markB rs2)) js (cg (L':=rdH l4 dm4 lp4 (([z5,z3,z1,z2])++markB rs2)) ap (nx4 hr4 _ _ ⟨hs13,(hl4.t hlr4)⟩ lf))))
     obtain⟨pv5e,hpv5e,rfl⟩:=mF hpv5
     have hs14:=hs12.trans (mZ hpv5e)
     exact zy (L':=[z4,z6]++(markB rs2)) js (pn4 _ _ _ [] ⟨_,U,hs14⟩)
    obtain⟨pv4e,hpv4e,rfl⟩:=mF hpv4
    have hs15:=hs7.trans (mZ hpv4e)
    exact zy (L':=[z4,z6]++(markB rs2)) js (pn4 _ _ _ [] ⟨_,U,hs15⟩)
   .rintro dm4 hh4 hn4 ⟨hs16,hl4⟩ hln4 hl04
    exact cg (L':=[z5,z3,z1,z2]++(markB (dm4::rs2))) ap (qT 3 U (oi i2 U (qO 2 U (bo (L':=[z1,z2]++(markB (dm4::rs2))) js (ag1 ((i2+1),(dm4::rs2),hn4,rz2) _ (Nat.lt_succ_self _) ⟨kw hd2,hY hd2,hs16,(((hl2.t hle3).t hl4).t hln4)⟩ rd)))))
   .exact xf
   .exact xf
   rintro dm4 ch hn4 L0 ⟨pv_,rfl,hpv_⟩ hl04
   exact nv (dm4::rs2) GS hX (congrArg (exW stopV (λr:Unit=>(.tuple #[]:Value))) hpv_)
  rintro i1 y1 rz1 hd1 df aS ek gu hs17 hx1 ag2 e
  try have hsy:=BA hsm (fN hd1)
  refine sr (tO df U (qO 9 U (aA (iR wu ty79 hp.Rules.1 aS U U U (λ_ _ _ e=>e) (λq5 r4 A8 ok4=>dt ty79 A8 U U (aT zc79 (λb11=>gg (aO 0 ty79 U U U U U U (aF ?_)))))))))
  let z7:Nat×Obj:=(b11,O (TU y1 r4) 79)
  refine er ([z7,z2]) mixed kr jn (λmt _=>?_)
  refine qB [0] U (tf 1 U U (rj 0 ty9 U U U) (qB [2] U (tf 3 U U (rj 1 ty58 U U U) (tm 4 U ?_))))
  have ho5:0<=((i1:Int):Int)/\((i1:Int):Int)<((p.Kinds).length:Int):=(by have hm:=M2 hrx1;simp only[decide_eq_true_eq,decide_eq_false_iff_not,zB,xD,qE,Bool.not_eq_false',Bool.and_eq_false_iff,Bool.or_eq_false_iff,beq_iff_eq,beq_eq_false_iff_ne,bne_iff_ne,bne_eq_false_iff_eq,jA,xA,vB,List.length_drop]at hm;omega)
  refine eJ 5 (enc:=λy=>[.string y]) mt jn ei vY ty9 hp.Kinds.1 ho5 (cV ho5) U U U U kr (λq6 A9=>tf 6 U U (rh ty9 A9 U) (qA [7,8] U ?_))
  refine dh 43 U (λc6=>?_) (λc6=>?_)
  .refine qB [9] U (tf 10 U U (rj 0 ty3 U U U) (tn 11 U (eZ AC (gJ h y1.Think 0 1099511627775) U (⟨jn,tf 12 U U (λ_ _ _=>nC U (cb (show(aK y1.Think 0 1099511627775)=((y1.Kind.toList==(nthI p.Kinds (i1:Int)).toList)&&(aK y1.Think 0 1099511627775))from by first|(rw[c6];rfl)|(rw[c6];rfl)|simp[c6]))) ?_⟩))))
   refine tn 13 U (mA yT (gX h ((y1.Kind.toList==(nthI p.Kinds (i1:Int)).toList)&&(aK y1.Think 0 1099511627775)) 200) U (λu6 hu6=>?_) (λpv6 hpv6 e=>?_))
   .obtain⟨rx6,hrx6,rfl⟩:=ov hu6
    have hs18:=hs17.trans (pq hrx6)
    cases rx6
    exact⟨jn,(aJ kr (qT 2 U (oi i1 U (qO 2 U (bo (L':=[z2]) js (ag2 hs18))))))⟩
   obtain⟨pv6e,hpv6e,rfl⟩:=mF hpv6
   have hs19:=hs17.trans (mZ hpv6e)
   exact gy (nv [] GS hX (congrArg (exW stopV (λr:Unit=>(.tuple #[]:Value))) hs19))
  refine qR 9 3 U (tf 12 U U (λ_ _ _=>nC U (cb (show false=((y1.Kind.toList==(nthI p.Kinds (i1:Int)).toList)&&(aK y1.Think 0 1099511627775))from by first|(rw[c6];rfl)|(rw[c6];rfl)|simp[c6]))) ?_)
  refine tn 13 U (mA yT (gX h ((y1.Kind.toList==(nthI p.Kinds (i1:Int)).toList)&&(aK y1.Think 0 1099511627775)) 200) U (λu7 hu7=>?_) (λpv7 hpv7 e=>?_))
  .obtain⟨rx7,hrx7,rfl⟩:=ov hu7
   have hs20:=hs17.trans (pq hrx7)
   cases rx7
   exact⟨jn,(aJ kr (qT 2 U (oi i1 U (qO 2 U (bo (L':=[z2]) js (ag2 hs20))))))⟩
  obtain⟨pv7e,hpv7e,rfl⟩:=mF hpv7
  have hs21:=hs17.trans (mZ hpv7e)
  exact gy (nv [] GS hX (congrArg (exW stopV (λr:Unit=>(.tuple #[]:Value))) hs21))
 obtain⟨pv1e,hpv1e,rfl⟩:=mF hpv1
 have hs22:=hs0.trans (mZ hpv1e)
 exact gy (nv [] GS hX (congrArg (exW stopV (λr:Unit=>(.tuple #[]:Value))) hs22))
theorem wv(h:HF)(p:Policy)(gM:eR)(p_q:Addr)(hp:vP h p gM)(ap_z:At h p_q (xE p gM))(hsm:smP p)(hk:Kinds h):GK prog 277 [.pointer (some p_q)] h (exW stopV (λr:Unit=>(.tuple #[]:Value)) (dy p)):=by
 refine cB LI U ntmps277 U λX hM hX=>?_
 have hs0:=@rfl _ (dy p)
 refine sr (dt ty64 ap_z U U ?_)
 refine aA (mA call278 (Bb h p gM hp ob) U (λu1 hu1=>?_) (λpv1 hpv1 e=>?_))
 .obtain⟨rx1,hrx1,rfl⟩:=ov hu1
  have hs1:=hs0.trans (pq hrx1)
  cases rx1
  refine qO 3 U (dt ty64 ap_z U U ?_)
  refine aA (mA call279 (Bc h p gM hp ob) U (λu2 hu2=>?_) (λpv2 hpv2 e=>?_))
  .obtain⟨rx2,hrx2,rfl⟩:=ov hu2
   have hs2:=hs1.trans (pq hrx2)
   cases rx2
   refine qO 2 U (dt ty64 ap_z U U ?_)
   refine aA (mA call280 (Ca h p gM hp ob hk) U (λu3 hu3=>?_) (λpv3 hpv3 e=>?_))
   .obtain⟨rx3,hrx3,rfl⟩:=ov hu3
    have hs3:=hs2.trans (pq hrx3)
    cases rx3
    refine aF ?_
    have hs4:dy p=(Except.ok ()):=hs3
    exact ef (yl [] [] LI U hX trivial (congrArg (exW stopV (λr:Unit=>(.tuple #[]:Value))) hs4))
   obtain⟨pv3e,hpv3e,rfl⟩:=mF hpv3
   have hs5:=hs2.trans (mZ hpv3e)
   exact gy (nv [] LI hX (congrArg (exW stopV (λr:Unit=>(.tuple #[]:Value))) hs5))
  obtain⟨pv2e,hpv2e,rfl⟩:=mF hpv2
  have hs6:=hs1.trans (mZ hpv2e)
  exact gy (nv [] LI hX (congrArg (exW stopV (λr:Unit=>(.tuple #[]:Value))) hs6))
 obtain⟨pv1e,hpv1e,rfl⟩:=mF hpv1
 have hs7:=hs0.trans (mZ hpv1e)
 exact gy (nv [] LI hX (congrArg (exW stopV (λr:Unit=>(.tuple #[]:Value))) hs7))
theorem xd(rec:List ByteArray->Expr->Expr)(h:HF)(offices:List ByteArray)(dA:Option Addr)(dz:Nat)(x:Expr)(fT:cN)(hrec:∀(h:HF)(qoffices:List ByteArray)(jo:Option Addr)(jm:Nat)(qx:Expr)(kz:cN)(hqoffices:SlC SO h jo jm qoffices)(hqx:zG h qx kz)(hsz:qx.dep<=2000000)(_:qx.dep<x.dep),ju prog 281 [.slice jo qoffices.length jm,.agg (vC qx kz).toArray] h (λv h'=>∃(rr0:cN),v=.agg (vC (rec qoffices qx) rr0).toArray/\zG h' (rec qoffices qx) rr0))(hoffices:SlC SO h dA dz offices)(hx:zG h x fT)(hsz:x.dep<=2000000):ju prog 281 [.slice dA offices.length dz,.agg (vC x fT).toArray] h (λv h'=>∃(rr0:cN),v=.agg (vC (ao.F rec offices x) rr0).toArray/\zG h' (ao.F rec offices x) rr0):=by
 refine cB func281 U ntmps281 U λX hM hX=>?_
 have hs0:=@rfl _ (ao.F rec offices x)
 have hln:=Expr.Lc x
 refine sr (cv (λb1=>aT zc62 (λb2=>qL 4 [] U (cJ 1 ty3 U U U U U U (qO 4 U (cM 1 ty62 U U U (ai call283 (nL _ _ _ (show zG h (vG x.Kind x.N 0 x.Name x.L) (cN.mk fT.mb fT.mq)from Sm hx.list)) U (aF (ae hs0 U (λc1 hs1=>?_) (λc1 hs2=>?_))))))))))
 .refine qK 4 [1] U (ai NO (ld _ _ _ _ x.Name hoffices) U (qL 1 [] U (cJ 1 ty3 U U U U U U (qL 10 [1] U (cJ 1 ty60 U U U U U U (qL 8 [] U ?_))))))
  let z1:Nat×Obj:=(b2,O [I 0,I 0,I 0,.string (⟨#[]⟩:ByteArray),.slice none 0 0] 62)
  refine lp2 x.L (λi w=>[(0,.slice dA offices.length dz),(3,Q b1),(4,Q b2),(19,.slice fT.mb x.L.length fT.mq),(20,I (x.L.length:Int)),(21,I (i:Int))]) (λw=>w.2.2.2.2) (λw=>[z1,(b1,O [I x.Kind,I x.N,I (aP offices x.Name),.string x.Name,.slice w.2.1 w.1.length w.2.2.1] 62)]++(w.2.2.2.1)) (λi w=>du SG 62 w.2.2.2.2 w.1 w.2.1 w.2.2.1 w.2.2.2.1/\w.1.length<=0+i/\xN h w.2.2.2.2) (λs1 i w=>(ao.L1 rec offices (ao.K1 offices x)) s1 w.1) ([],none,0,[],h) hx.list.1.1 hs1 ⟨du.nil,lo,lf⟩ ?_ ?_
  .rintro i1 ⟨lj,rf,re,Bt,hh1⟩ fm hs3 ⟨s5,FA,hl1⟩ e
   try dsimp only at s5 FA hl1
   let z3:Nat×Obj:=(b1,O [I x.Kind,I x.N,I (aP offices x.Name),.string x.Name,.slice rf lj.length re] 62)
   let z15:Nat×Obj:=(b2,O [I x.Kind,I x.N,I (aP offices x.Name),.string x.Name,.slice rf lj.length re] 62)
   refine sr (cM 1 ty62 U U U (aO 0 ty62 U U U U U U (im (L':=[z15,z3]++(Bt)) U (aF (fx Sh ([z15,z3]) Bt ([]) ap hM s5 (λh3 hle3 sl2=>?_))))))
   have hs4:ao.F rec offices x=(vG x.Kind x.N (aP offices x.Name) x.Name lj):=hs3
   exact jY [.agg (kB [I x.Kind,I x.N,I (aP offices x.Name),.string x.Name,.slice rf lj.length re])] func281 U ⟨⟨0,_,_,_,_,U,U,.inl ⟨ty62,U⟩⟩,trivial⟩ ⟨(cN.mk rf re),congrArg (λr:Expr=>(.agg (vC r (cN.mk rf re)).toArray:Value)) hs4.symm,(by rw[hs4];exact(show zG h3 (vG x.Kind x.N (aP offices x.Name) x.Name lj) (cN.mk rf re)from Sm sl2))⟩
  rintro i1 ⟨lj,rf,re,Bt,hh1⟩ y1 rz1 hd1 df aS ek gu hs5 ⟨s5,FA,hl1⟩ hx1 ag1 e
  try dsimp only at s5 FA hl1
  have hdy:=R3 (fN hd1)
  refine sr (tO df U (qO 8 U (aA (iR lB ty62 (hx.list.mono Sh hl1).1 aS U U U (λ_ _ _ e=>e) (λq2 r2 A2 ok3=>?_)))))
  let z4:Nat×Obj:=(b1,O [I x.Kind,I x.N,I (aP offices x.Name),.string x.Name,.slice rf lj.length re] 62)
  refine dt ty62 A2 U U (aT zc62 (λb5=>aO 0 ty62 U U U U U U (im (L':=[(b5,O (vC y1 r2) 62),z1,z4]++(Bt)) U (aF ?_))))
  let z8:Nat×Obj:=(b5,O (vC y1 r2) 62)
  refine er ([z8,z1]) mixed kr jn (λdY _=>?_)
  refine qB [0,2] U (tf 3 U U (λ_ _ hj=>jg ty62 U (hj.nth (i:=0) U) U) ?_)
  refine m6 1 4 kr U U ?_ ?_ 
  .refine eT (zZ ty60 U (n8 (i:=2) U) U) (⟨jn,tn 4 U (cR IS (hrec _ _ _ _ _ _ (hoffices.mono Ty hl1) ok3 ob (R3 (fN hd1))) U (λv2 h4 hle4 hp2=>?_))⟩)
   obtain⟨rr4,rfl,ok4⟩:=hp2
   refine⟨jl hle4,tu hle4 (tn 5 U (bE (cells:=[I ((rec offices y1).Kind),I ((rec offices y1).N),I ((rec offices y1).No),.string ((rec offices y1).Name),.slice rr4.mb ((rec offices y1).L.length) rr4.mq]) lB ty62 zc62 U U kr (λb6=>⟨jn,?_⟩)))⟩
   let z12:Nat×Obj:=(b6,O [I ((rec offices y1).Kind),I ((rec offices y1).N),I ((rec offices y1).No),.string ((rec offices y1).Name),.slice rr4.mb ((rec offices y1).L.length) rr4.mq] 62)
   exact tn 6 U (dE TQ ([z12,z8,z1,z4]) ([]) (λG=>[z12,z8,z1,z4]++G) ap (λ_=>ap) lB ty62 zc62 U bytes62 (s5.mono Sh hle4) U U (e8 0 U (cE (R:=SG) (rec offices y1) U ⟨rr4,U,ok4⟩)) lo lo (λob2 oc2 G2 gr2=>⟨jn,qB [7] U (tn 8 U (kt 3 ty60 U U U U U U (⟨jn,aJ kr (qT 2 U (oi i1 U (qO 2 U (bo (L':=[z1,(b1,O [I x.Kind,I x.N,I (aP offices x.Name),.string x.Name,.slice ob2 ((lj++[(rec offices y1)]).length) oc2] 62)]++G2) js (ag1 ((lj++[(rec offices y1)]),ob2,oc2,G2,h4) hs5 ⟨gr2,lo,(hl1.t hle4)⟩)))))⟩)))⟩))
  refine cR IS (hrec _ _ _ _ _ _ (hoffices.mono Ty hl1) ok3 ob (R3 (fN hd1))) U (λv3 h5 hle5 hp3=>?_)
  obtain⟨rr5,rfl,ok5⟩:=hp3
  refine⟨jl hle5,tu hle5 ?_⟩
  refine m6 1 5 kr U U ?_ ?_ 
  .refine eT (zZ ty60 U (n8 (i:=2) U) U) (⟨jn,tn 5 U (bE (cells:=[I ((rec offices y1).Kind),I ((rec offices y1).N),I ((rec offices y1).No),.string ((rec offices y1).Name),.slice rr5.mb ((rec offices y1).L.length) rr5.mq]) lB ty62 zc62 U U kr (λb7=>⟨jn,?_⟩))⟩)
   let z13:Nat×Obj:=(b7,O [I ((rec offices y1).Kind),I ((rec offices y1).N),I ((rec offices y1).No),.string ((rec offices y1).Name),.slice rr5.mb ((rec offices y1).L.length) rr5.mq] 62)
   exact tn 6 U (dE TQ ([z13,z8,z1,z4]) ([]) (λG=>[z13,z8,z1,z4]++G) ap (λ_=>ap) lB ty62 zc62 U bytes62 (s5.mono Sh hle5) U U (e8 0 U (cE (R:=SG) (rec offices y1) U ⟨rr5,U,ok5⟩)) lo lo (λob3 oc3 G3 gr3=>⟨jn,qB [7] U (tn 8 U (kt 3 ty60 U U U U U U (⟨jn,aJ kr (qT 2 U (oi i1 U (qO 2 U (bo (L':=[z1,(b1,O [I x.Kind,I x.N,I (aP offices x.Name),.string x.Name,.slice ob3 ((lj++[(rec offices y1)]).length) oc3] 62)]++G3) js (ag1 ((lj++[(rec offices y1)]),ob3,oc3,G3,h5) hs5 ⟨gr3,lo,(hl1.t hle5)⟩)))))⟩)))⟩))
  refine bE (cells:=[I ((rec offices y1).Kind),I ((rec offices y1).N),I ((rec offices y1).No),.string ((rec offices y1).Name),.slice rr5.mb ((rec offices y1).L.length) rr5.mq]) lB ty62 zc62 U U kr (λb8=>⟨jn,tn 1 U (eT (zZ ty60 U (n8 (i:=3) U) U) (⟨jn,?_⟩))⟩)
  let z14:Nat×Obj:=(b8,O [I ((rec offices y1).Kind),I ((rec offices y1).N),I ((rec offices y1).No),.string ((rec offices y1).Name),.slice rr5.mb ((rec offices y1).L.length) rr5.mq] 62)
  exact tn 6 U (dE TQ ([z14,z8,z1,z4]) ([]) (λG=>[z14,z8,z1,z4]++G) ap (λ_=>ap) lB ty62 zc62 U bytes62 (s5.mono Sh hle5) U U (e8 0 U (cE (R:=SG) (rec offices y1) U ⟨rr5,U,ok5⟩)) lo lo (λob4 oc4 G4 gr4=>⟨jn,qB [7] U (tn 8 U (kt 3 ty60 U U U U U U (⟨jn,aJ kr (qT 2 U (oi i1 U (qO 2 U (bo (L':=[z1,(b1,O [I x.Kind,I x.N,I (aP offices x.Name),.string x.Name,.slice ob4 ((lj++[(rec offices y1)]).length) oc4] 62)]++G4) js (ag1 ((lj++[(rec offices y1)]),ob4,oc4,G4,h5) hs5 ⟨gr4,lo,(hl1.t hle5)⟩)))))⟩)))⟩))
 refine qK 10 [1] U (cJ 1 ty60 U U U U U U (qL 8 [] U ?_))
 let z2:Nat×Obj:=(b2,O [I 0,I 0,I 0,.string (⟨#[]⟩:ByteArray),.slice none 0 0] 62)
 refine lp2 x.L (λi w=>[(0,.slice dA offices.length dz),(3,Q b1),(4,Q b2),(19,.slice fT.mb x.L.length fT.mq),(20,I (x.L.length:Int)),(21,I (i:Int))]) (λw=>w.2.2.2.2) (λw=>[z2,(b1,O [I x.Kind,I x.N,I 0,.string x.Name,.slice w.2.1 w.1.length w.2.2.1] 62)]++(w.2.2.2.1)) (λi w=>du SG 62 w.2.2.2.2 w.1 w.2.1 w.2.2.1 w.2.2.2.1/\w.1.length<=0+i/\xN h w.2.2.2.2) (λs2 i w=>(ao.L2 rec offices (ao.K2 x)) s2 w.1) ([],none,0,[],h) hx.list.1.1 hs2 ⟨du.nil,lo,lf⟩ ?_ ?_
 .rintro i2 ⟨li,ra,qZ,Bn,hh2⟩ yP hs6 ⟨sW,Fs,hl2⟩ e
  try dsimp only at sW Fs hl2
  let z5:Nat×Obj:=(b1,O [I x.Kind,I x.N,I 0,.string x.Name,.slice ra li.length qZ] 62)
  let z16:Nat×Obj:=(b2,O [I x.Kind,I x.N,I 0,.string x.Name,.slice ra li.length qZ] 62)
  refine sr (cM 1 ty62 U U U (aO 0 ty62 U U U U U U (im (L':=[z16,z5]++(Bn)) U (aF (fx Sh ([z16,z5]) Bn ([]) ap hM sW (λh8 hle8 sl4=>?_))))))
  have hs7:ao.F rec offices x=(vG x.Kind x.N 0 x.Name li):=hs6
  exact jY [.agg (kB [I x.Kind,I x.N,I 0,.string x.Name,.slice ra li.length qZ])] func281 U ⟨⟨0,_,_,_,_,U,U,.inl ⟨ty62,U⟩⟩,trivial⟩ ⟨(cN.mk ra qZ),congrArg (λr:Expr=>(.agg (vC r (cN.mk ra qZ)).toArray:Value)) hs7.symm,(by rw[hs7];exact(show zG h8 (vG x.Kind x.N 0 x.Name li) (cN.mk ra qZ)from Sm sl4))⟩
 rintro i2 ⟨li,ra,qZ,Bn,hh2⟩ y2 rz2 hd2 vq qU Dc J3 hs8 ⟨sW,Fs,hl2⟩ hx2 ag2 e
 try dsimp only at sW Fs hl2
 have hdy:=R3 (fN hd2)
 refine sr (tO vq U (qO 8 U (aA (iR lB ty62 (hx.list.mono Sh hl2).1 qU U U U (λ_ _ _ e=>e) (λq4 r4 A4 ok8=>?_)))))
 let z6:Nat×Obj:=(b1,O [I x.Kind,I x.N,I 0,.string x.Name,.slice ra li.length qZ] 62)
 refine dt ty62 A4 U U (aT zc62 (λb11=>aO 0 ty62 U U U U U U (im (L':=[(b11,O (vC y2 r4) 62),z2,z6]++(Bn)) U (aF ?_))))
 let z7:Nat×Obj:=(b11,O (vC y2 r4) 62)
 refine er ([z7,z2]) mixed kr jn (λmt _=>?_)
 refine qB [0,2] U (tf 3 U U (λ_ _ hj=>jg ty62 U (hj.nth (i:=0) U) U) ?_)
 refine m6 1 4 kr U U ?_ ?_ 
 .refine eT (zZ ty60 U (n8 (i:=2) U) U) (⟨jn,tn 4 U (cR IS (hrec _ _ _ _ _ _ (hoffices.mono Ty hl2) ok8 ob (R3 (fN hd2))) U (λv5 h9 hle9 hp5=>?_))⟩)
  obtain⟨rr9,rfl,ok9⟩:=hp5
  refine⟨jl hle9,tu hle9 (tn 5 U (bE (cells:=[I ((rec offices y2).Kind),I ((rec offices y2).N),I ((rec offices y2).No),.string ((rec offices y2).Name),.slice rr9.mb ((rec offices y2).L.length) rr9.mq]) lB ty62 zc62 U U kr (λb12=>⟨jn,?_⟩)))⟩
  let z11:Nat×Obj:=(b12,O [I ((rec offices y2).Kind),I ((rec offices y2).N),I ((rec offices y2).No),.string ((rec offices y2).Name),.slice rr9.mb ((rec offices y2).L.length) rr9.mq] 62)
  exact tn 6 U (dE TQ ([z11,z7,z2,z6]) ([]) (λG=>[z11,z7,z2,z6]++G) ap (λ_=>ap) lB ty62 zc62 U bytes62 (sW.mono Sh hle9) U U (e8 0 U (cE (R:=SG) (rec offices y2) U ⟨rr9,U,ok9⟩)) lo lo (λob6 oc6 G6 gr6=>⟨jn,qB [7] U (tn 8 U (kt 3 ty60 U U U U U U (⟨jn,aJ kr (qT 2 U (oi i2 U (qO 2 U (bo (L':=[z2,(b1,O [I x.Kind,I x.N,I 0,.string x.Name,.slice ob6 ((li++[(rec offices y2)]).length) oc6] 62)]++G6) js (ag2 ((li++[(rec offices y2)]),ob6,oc6,G6,h9) hs8 ⟨gr6,lo,(hl2.t hle9)⟩)))))⟩)))⟩))
 refine cR IS (hrec _ _ _ _ _ _ (hoffices.mono Ty hl2) ok8 ob (R3 (fN hd2))) U (λv6 h10 hle10 hp6=>?_)
 obtain⟨rr10,rfl,ok10⟩:=hp6
 refine⟨jl hle10,tu hle10 ?_⟩
 refine m6 1 5 kr U U ?_ ?_ 
 .refine eT (zZ ty60 U (n8 (i:=2) U) U) (⟨jn,tn 5 U (bE (cells:=[I ((rec offices y2).Kind),I ((rec offices y2).N),I ((rec offices y2).No),.string ((rec offices y2).Name),.slice rr10.mb ((rec offices y2).L.length) rr10.mq]) lB ty62 zc62 U U kr (λb13=>⟨jn,?_⟩))⟩)
  let z9:Nat×Obj:=(b13,O [I ((rec offices y2).Kind),I ((rec offices y2).N),I ((rec offices y2).No),.string ((rec offices y2).Name),.slice rr10.mb ((rec offices y2).L.length) rr10.mq] 62)
  exact tn 6 U (dE TQ ([z9,z7,z2,z6]) ([]) (λG=>[z9,z7,z2,z6]++G) ap (λ_=>ap) lB ty62 zc62 U bytes62 (sW.mono Sh hle10) U U (e8 0 U (cE (R:=SG) (rec offices y2) U ⟨rr10,U,ok10⟩)) lo lo (λob7 oc7 G7 gr7=>⟨jn,qB [7] U (tn 8 U (kt 3 ty60 U U U U U U (⟨jn,aJ kr (qT 2 U (oi i2 U (qO 2 U (bo (L':=[z2,(b1,O [I x.Kind,I x.N,I 0,.string x.Name,.slice ob7 ((li++[(rec offices y2)]).length) oc7] 62)]++G7) js (ag2 ((li++[(rec offices y2)]),ob7,oc7,G7,h10) hs8 ⟨gr7,lo,(hl2.t hle10)⟩)))))⟩)))⟩))
 refine bE (cells:=[I ((rec offices y2).Kind),I ((rec offices y2).N),I ((rec offices y2).No),.string ((rec offices y2).Name),.slice rr10.mb ((rec offices y2).L.length) rr10.mq]) lB ty62 zc62 U U kr (λb14=>⟨jn,tn 1 U (eT (zZ ty60 U (n8 (i:=3) U) U) (⟨jn,?_⟩))⟩)
 let z10:Nat×Obj:=(b14,O [I ((rec offices y2).Kind),I ((rec offices y2).N),I ((rec offices y2).No),.string ((rec offices y2).Name),.slice rr10.mb ((rec offices y2).L.length) rr10.mq] 62)
 exact tn 6 U (dE TQ ([z10,z7,z2,z6]) ([]) (λG=>[z10,z7,z2,z6]++G) ap (λ_=>ap) lB ty62 zc62 U bytes62 (sW.mono Sh hle10) U U (e8 0 U (cE (R:=SG) (rec offices y2) U ⟨rr10,U,ok10⟩)) lo lo (λob8 oc8 G8 gr8=>⟨jn,qB [7] U (tn 8 U (kt 3 ty60 U U U U U U (⟨jn,aJ kr (qT 2 U (oi i2 U (qO 2 U (bo (L':=[z2,(b1,O [I x.Kind,I x.N,I 0,.string x.Name,.slice ob8 ((li++[(rec offices y2)]).length) oc8] 62)]++G8) js (ag2 ((li++[(rec offices y2)]),ob8,oc8,G8,h10) hs8 ⟨gr8,lo,(hl2.t hle10)⟩)))))⟩)))⟩))
theorem oZ:∀(m:Nat)(h:HF)(offices:List ByteArray)(dA:Option Addr)(dz:Nat)(x:Expr)(fT:cN)(_:x.dep<=m)(hoffices:SlC SO h dA dz offices)(hx:zG h x fT)(hsz:x.dep<=2000000),ju prog 281 [.slice dA offices.length dz,.agg (vC x fT).toArray] h (λv h'=>∃(rr0:cN),v=.agg (vC (ao.go m offices x) rr0).toArray/\zG h' (ao.go m offices x) rr0)
 |0,h,offices,dA,dz,x,fT,hd,hoffices,hx,hsz=>absurd hd (Nat.not_le.2 (Expr.lP _))
 |m+1,h,offices,dA,dz,x,fT,hd,hoffices,hx,hsz=>xd (ao.go m) h offices dA dz x fT (λqh_ qoffices jo jm qx kz qhoffices qhx qhsz qd=>oZ m qh_ qoffices jo jm qx kz ob qhoffices qhx qhsz) hoffices hx hsz
theorem rG(h:HF)(offices:List ByteArray)(dA:Option Addr)(dz:Nat)(x:Expr)(fT:cN)(hoffices:SlC SO h dA dz offices)(hx:zG h x fT)(hsz:x.dep<=2000000):ju prog 281 [.slice dA offices.length dz,.agg (vC x fT).toArray] h (λv h'=>∃(rr0:cN),v=.agg (vC (ao offices x) rr0).toArray/\zG h' (ao offices x) rr0):=oZ _ h offices dA dz x fT (jG _) hoffices hx hsz
theorem yM(h:HF)(p:Policy)(gM:eR)(hp:vP h p gM)(hsm:smP p)(hk:Kinds h):ju prog 184 [.agg (xE p gM).toArray] h (λv h'=>∃(rr0:eR),v=.tuple #[.agg (xE ((eh p).1) rr0).toArray,I ((eh p).2)]/\vP h' ((eh p).1) rr0):=by
 refine cB func184 U ntmps184 U λX hM hX=>?_
 have hs0:=@rfl _ (eh p)
 have hsc:=hsm.change
 have hsr:=hsm.rules
 refine sr (cv (λb1=>aT zc64 (λb2=>qO 4 U (aQ 1 U hM (λh1 hle1 hb1=>aA (eA U U (ai (v:=I (attR (dy p))) call276 (yL h1 (.func (.func 277) #[] #[Q b1]) (dy p) (m7 (args:=[]) (cap:=[Q b1]) call277 (wv h1 p gM ⟨b1,0,none⟩ (hp.mono hle1) (cx hb1) (by first|assumption|omega) (hk.mono hle1)))) U (qO 8 U (ae hs0 U (λc1 hs1=>?_) (λc1 hs2=>?_))))))))))
 .refine sr (cM 0 ty64 U U U (av (aO 0 ty64 U U U U U U (an ?_))))
  have hs3:eh p=((kN (⟨#[]⟩:ByteArray) ([]) ([]) ([]) (vG 0 0 0 (⟨#[]⟩:ByteArray) ([])) 0),(attR (dy p))):=hs1
  exact jY [.agg (kB [.string (⟨#[]⟩:ByteArray),.slice none 0 0,.slice none 0 0,.slice none 0 0,I 0,I 0,I 0,.string (⟨#[]⟩:ByteArray),.slice none 0 0,I 0]),I (attR (dy p))] func184 U ⟨⟨0,_,_,_,_,U,U,.inl ⟨ty64,U⟩⟩,U,trivial⟩ ⟨(eR.mk none 0 none 0 none 0 (cN.mk none 0)),congrArg (λr:(Policy×Int)=>(.tuple #[.agg (xE r.1 (eR.mk none 0 none 0 none 0 (cN.mk none 0))).toArray,I r.2]:Value)) hs3.symm,(by rw[hs3];exact(show vP h1 (kN (⟨#[]⟩:ByteArray) ([]) ([]) ([]) (vG 0 0 0 (⟨#[]⟩:ByteArray) ([])) 0) (eR.mk none 0 none 0 none 0 (cN.mk none 0))from⟨kE,kE,kE,(show zG h1 (vG 0 0 0 (⟨#[]⟩:ByteArray) ([])) (cN.mk none 0)from Sm kE)⟩))⟩
 refine qT 3 U (dt ty64 (cx hb1) U U (aO 0 ty64 U U U U U U (qL 4 [] U (cJ 0 ty59 U U U U U U (qL 5 [] U (iZ (j:=3) ty59 (cx hb1) U U (qL 3 [] U ?_)))))))
 refine lp2 p.Rules (λi w=>[(1,Q b1),(2,Q b2),(15,.slice gM.nF p.Rules.length gM.nE),(16,I (p.Rules.length:Int)),(17,I (i:Int))]) (λw=>w.2.2.2.2) (λw=>[(b2,O [.string p.Name,.slice gM.iY p.Kinds.length gM.iX,.slice gM.gm p.Offices.length gM.gl,.slice w.2.1 w.1.length w.2.2.1,I p.Change.Kind,I p.Change.N,I p.Change.No,.string p.Change.Name,.slice gM.Change.mb p.Change.L.length gM.Change.mq,I p.Mode] 64)]++(w.2.2.2.1)) (λi w=>du Rule.rp 79 w.2.2.2.2 w.1 w.2.1 w.2.2.1 w.2.2.2.1/\w.1.length<=0+i/\xN h1 w.2.2.2.2) (λs1 i w=>(eh.L1 p (eh.K1 p)) s1 i w.1) ([],none,0,[],h1) ((hp.Rules.mono TC hle1).1.1) hs2 ⟨du.nil,lo,lf⟩ ?_ ?_
 .rintro i1 ⟨mY,sZ,sY,Bs,hh1⟩ fm hs4 ⟨xX,Fy,hl1⟩ e
  try dsimp only at xX Fy hl1
  refine qK 3 [] U (iZ (j:=2) ty58 ((cx hb1).mono hl1) U U (qL 1 [] U (Af (j:=4) ty62 ((cx hb1).mono hl1) U U (aA (cR IS (rG _ _ _ _ _ _ (hp.Offices.mono Ty (hle1.t hl1)) (hp.Change.mono (hle1.t hl1)) ob) U (λv3 h5 hle5 hp3=>?_))))))
  obtain⟨rr4,rfl,ok4⟩:=hp3
  let z2:Nat×Obj:=(b2,O [.string p.Name,.slice gM.iY p.Kinds.length gM.iX,.slice gM.gm p.Offices.length gM.gl,.slice sZ mY.length sY,I ((ao p.Offices p.Change).Kind),I ((ao p.Offices p.Change).N),I ((ao p.Offices p.Change).No),.string ((ao p.Offices p.Change).Name),.slice rr4.mb ((ao p.Offices p.Change).L.length) rr4.mq,I p.Mode] 64)
  refine qL 1 [] U (cJ 0 ty62 U U U U U U (qO 3 U (cM 0 ty64 U U U (aO 0 ty64 U U U U U U (im (L':=[z2]++(Bs)) U (an (fx TC ([z2]) Bs ([]) ap hM (xX.mono TC hle5) (λh6 hle6 sl2=>?_))))))))
  have hs5:eh p=((kN p.Name p.Kinds p.Offices mY (vG ((ao p.Offices p.Change).Kind) ((ao p.Offices p.Change).N) ((ao p.Offices p.Change).No) ((ao p.Offices p.Change).Name) ((ao p.Offices p.Change).L)) p.Mode),0):=hs4
  exact jY [.agg (xE (kN p.Name p.Kinds p.Offices mY (vG ((ao p.Offices p.Change).Kind) ((ao p.Offices p.Change).N) ((ao p.Offices p.Change).No) ((ao p.Offices p.Change).Name) ((ao p.Offices p.Change).L)) p.Mode) (eR.mk gM.iY gM.iX gM.gm gM.gl sZ sY (cN.mk rr4.mb rr4.mq))).toArray,I 0] func184 U ⟨⟨0,_,_,_,_,U,U,.inl ⟨ty64,U⟩⟩,U,trivial⟩ ⟨(eR.mk gM.iY gM.iX gM.gm gM.gl sZ sY (cN.mk rr4.mb rr4.mq)),congrArg (λr:(Policy×Int)=>(.tuple #[.agg (xE r.1 (eR.mk gM.iY gM.iX gM.gm gM.gl sZ sY (cN.mk rr4.mb rr4.mq))).toArray,I r.2]:Value)) hs5.symm,(by rw[hs5];exact(show vP h6 (kN p.Name p.Kinds p.Offices mY (vG ((ao p.Offices p.Change).Kind) ((ao p.Offices p.Change).N) ((ao p.Offices p.Change).No) ((ao p.Offices p.Change).Name) ((ao p.Offices p.Change).L)) p.Mode) (eR.mk gM.iY gM.iX gM.gm gM.gl sZ sY (cN.mk rr4.mb rr4.mq))from⟨(hp.Kinds.mono Ty (((hle1.t hl1).t hle5).t hle6)),(hp.Offices.mono Ty (((hle1.t hl1).t hle5).t hle6)),sl2,(show zG h6 (vG ((ao p.Offices p.Change).Kind) ((ao p.Offices p.Change).N) ((ao p.Offices p.Change).No) ((ao p.Offices p.Change).Name) ((ao p.Offices p.Change).L)) (cN.mk rr4.mb rr4.mq)from Sm (ok4.list.mono Sh hle6))⟩))⟩
 rintro i1 ⟨mY,sZ,sY,Bs,hh1⟩ y1 rz1 hd1 df aS ek gu hs6 ⟨xX,Fy,hl1⟩ hx1 ag1 e
 try dsimp only at xX Fy hl1
 have hsy:=hsm.2.1 y1 (fN hd1)
 refine sr (tO df U (qO 9 U (aA (iR wu ty79 (hp.Rules.mono TC (hle1.t hl1)).1 aS U U U (λ_ _ _ e=>e) (λq2 r2 A2 ok5=>?_)))))
 let z1:Nat×Obj:=(b2,O [.string p.Name,.slice gM.iY p.Kinds.length gM.iX,.slice gM.gm p.Offices.length gM.gl,.slice sZ mY.length sY,I p.Change.Kind,I p.Change.N,I p.Change.No,.string p.Change.Name,.slice gM.Change.mb p.Change.L.length gM.Change.mq,I p.Mode] 64)
 refine dt ty79 A2 U U (aT zc79 (λb5=>gg (aO 0 ty79 U U U U U U (im (L':=[(b5,O (TU y1 r2) 79),z1]++(Bs)) U (qL 5 [] U (iZ (j:=2) ty58 ((cx hb1).mono hl1) U U (qL 1 [] U (cM 0 ty62 U U U (aA (cR IS (rG _ _ _ _ _ _ (hp.Offices.mono Ty (hle1.t hl1)) ok5.Expr ob) U (λv4 h7 hle7 hp4=>?_)))))))))))
 obtain⟨rr6,rfl,ok6⟩:=hp4
 refine qL 1 [] U (cJ 0 ty3 U U U U U U (qL 1 [] U (cJ 0 ty62 U U U U U U (qL 4 [1] U (cM 0 ty79 U U U (aA (bE (cells:=[.string y1.Kind,I (i1:Int),I y1.Think,I ((ao p.Offices y1.Expr).Kind),I ((ao p.Offices y1.Expr).N),I ((ao p.Offices y1.Expr).No),.string ((ao p.Offices y1.Expr).Name),.slice rr6.mb ((ao p.Offices y1.Expr).L.length) rr6.mq]) wu ty79 zc79 U U kr (λb6=>?_))))))))
 let z3:Nat×Obj:=(b6,O [.string y1.Kind,I (i1:Int),I y1.Think,I ((ao p.Offices y1.Expr).Kind),I ((ao p.Offices y1.Expr).N),I ((ao p.Offices y1.Expr).No),.string ((ao p.Offices y1.Expr).Name),.slice rr6.mb ((ao p.Offices y1.Expr).L.length) rr6.mq] 79)
 let z4:Nat×Obj:=(b5,O [.string y1.Kind,I (i1:Int),I y1.Think,I ((ao p.Offices y1.Expr).Kind),I ((ao p.Offices y1.Expr).N),I ((ao p.Offices y1.Expr).No),.string ((ao p.Offices y1.Expr).Name),.slice rr6.mb ((ao p.Offices y1.Expr).L.length) rr6.mq] 79)
 refine aA (dE Rule.ew ([z3,z4,z1]) ([]) (λG=>[z3,z4,z1]++G) ap (λ_=>ap) wu ty79 zc79 U bytes79 (xX.mono TC hle7) U U (e8 0 U (cE (R:=Rule.rp) (Ti y1.Kind (i1:Int) y1.Think (vG ((ao p.Offices y1.Expr).Kind) ((ao p.Offices y1.Expr).N) ((ao p.Offices y1.Expr).No) ((ao p.Offices y1.Expr).Name) ((ao p.Offices y1.Expr).L))) U ⟨(BQ.mk (cN.mk rr6.mb rr6.mq)),U,(show Rule.ok h7 (Ti y1.Kind (i1:Int) y1.Think (vG ((ao p.Offices y1.Expr).Kind) ((ao p.Offices y1.Expr).N) ((ao p.Offices y1.Expr).No) ((ao p.Offices y1.Expr).Name) ((ao p.Offices y1.Expr).L))) (BQ.mk (cN.mk rr6.mb rr6.mq))from⟨(show zG h7 (vG ((ao p.Offices y1.Expr).Kind) ((ao p.Offices y1.Expr).N) ((ao p.Offices y1.Expr).No) ((ao p.Offices y1.Expr).Name) ((ao p.Offices y1.Expr).L)) (cN.mk rr6.mb rr6.mq)from Sm ok6.list)⟩)⟩)) lo lo (λob2 oc2 G2 gr2=>qL 1 [] U (cJ 2 ty59 U U U U U U (qO 3 U (oi i1 U (qO 2 U (bo (L':=[(b2,O [.string p.Name,.slice gM.iY p.Kinds.length gM.iX,.slice gM.gm p.Offices.length gM.gl,.slice ob2 ((mY++[(Ti y1.Kind (i1:Int) y1.Think (vG ((ao p.Offices y1.Expr).Kind) ((ao p.Offices y1.Expr).N) ((ao p.Offices y1.Expr).No) ((ao p.Offices y1.Expr).Name) ((ao p.Offices y1.Expr).L)))]).length) oc2,I p.Change.Kind,I p.Change.N,I p.Change.No,.string p.Change.Name,.slice gM.Change.mb p.Change.L.length gM.Change.mq,I p.Mode] 64)]++G2) js ?_)))))))
 exact ag1 ((mY++[(Ti y1.Kind (i1:Int) y1.Think (vG ((ao p.Offices y1.Expr).Kind) ((ao p.Offices y1.Expr).N) ((ao p.Offices y1.Expr).No) ((ao p.Offices y1.Expr).Name) ((ao p.Offices y1.Expr).L)))]),ob2,oc2,G2,h7) hs6 ⟨gr2,lo,(hl1.t hle7)⟩
theorem qy(h:HF)(offices:List ByteArray)(dA:Option Addr)(dz:Nat)(x:Expr)(fT:cN)(hoffices:SlC SO h dA dz offices)(hx:zG h x fT)(hsz:x.dep<=1500000):Ret prog 185 [.slice dA offices.length dz,.agg (vC x fT).toArray] h (.bool (bO offices x)):=by
 refine cB NL U ntmps185 U λX hM hX=>?_
 have hs0:=@rfl _ (bO offices x)
 refine sr (cv (λb1=>cv (λb2=>aT zc4 (λb3=>qO 4 U (cM 1 ty62 U U U (aA (cR LM (mS _ _ _ 1 hx ob) U (λv1 h1 hle1 hp1=>?_))))))))
 obtain⟨_,rfl,mo1⟩:=hp1
 refine qO 2 U (ef ?_)
 let z1:Nat×Obj:=(b1,O [.slice dA offices.length dz] 58)
 let z2:Nat×Obj:=(b2,O (vC x fT) 62)
 refine cg (L':=([(b3,O [.bool false] 4),z2,z1])++markB []) ap ?_
 refine jw (it:=v1) (xs:=(bj x 1)) (ι:=HF) [] (λi=>i) (λi=>[(b3,O [.bool false] 4),z2,z1]) (λs i=>bO offices x=((bO.L1 offices (bO.K1)) s)/\xN h1 i) (λi=>bO offices x=false/\xN h1 i) (λ_=>False) 0 (λ_ _ _=>False) h1 NL U mo1 U nW (λ_ _ _ _ _ hq=>hq) U (show[(b3,O [.bool false] 4),z2,z1]=_ from U) ⟨hs0,lf⟩ ?_ ?_ ?_ ?_ ?_
 .rintro l1 dm1 lp1 y1 rz1 vs1 hh1 hr1 X hFR1 ⟨hs1,hl1⟩ hl01 hlr1 hv1 hX hXM hlp1 nx1 rt1 ex1 pn1
  try dsimp only at hl1 hlr1
  obtain⟨rr1_0,rfl,ok1_0⟩:=hv1
  let z3:Nat×Obj:=(dm1,.deferred (some []))
  refine cg (L':=[(l1,.loop lp1),z3,(b3,O [.bool false] 4),z2,z1]++(markB [])) ap (bC (aT zc327 (λb5=>aO 0 ty327 U U U U U U (aF (ji 1 U hlp1 (qK 9 [] U (cM 0 ty62 U U U (ai call283 (nL _ _ _ ok1_0.x) U (aF (ae hs1 U (λc4 hs2=>?_) (λc4 hs3=>?_)))))))))))
  .refine qK 5 [5,0] U (ai NO (ld _ _ _ _ y1.x.Name (hoffices.mono Ty ((hle1.t hl1).t hlr1))) U (qL 10 [0] U (ae hs2 U (λc5 hs4=>?_) (λc5 hs5=>?_))))
   .exact sr (cJ 3 ty4 U U U U U U (aF (bo (L':=[(l1,.loop { lp1 with state:=.busy }),z3,(b3,O [.bool false] 4),z2,z1]++(markB [])) js (cg (L':=rdH l1 dm1 lp1 (([(b3,O [.bool false] 4),z2,z1])++markB [])) ap (rt1 hr1 _ _ _ ⟨hs4,(hl1.t hlr1)⟩ lf)))))
   exact aI (eS (bo (L':=[(l1,.loop { lp1 with state:=.busy }),z3,(b3,O [.bool false] 4),z2,z1]++(markB [])) js (cg (L':=rdH l1 dm1 lp1 (([(b3,O [.bool false] 4),z2,z1])++markB [])) ap (nx1 hr1 _ _ ⟨hs5,(hl1.t hlr1)⟩ lf))))
  refine qK 9 [0] U (ae hs3 U (λc6 hs6=>?_) (λc6 hs7=>?_))
  .exact sr (cJ 3 ty4 U U U U U U (aF (bo (L':=[(l1,.loop { lp1 with state:=.busy }),z3,(b3,O [.bool false] 4),z2,z1]++(markB [])) js (cg (L':=rdH l1 dm1 lp1 (([(b3,O [.bool false] 4),z2,z1])++markB [])) ap (rt1 hr1 _ _ _ ⟨hs6,(hl1.t hlr1)⟩ lf)))))
  exact aI (eS (bo (L':=[(l1,.loop { lp1 with state:=.busy }),z3,(b3,O [.bool false] 4),z2,z1]++(markB [])) js (cg (L':=rdH l1 dm1 lp1 (([(b3,O [.bool false] 4),z2,z1])++markB [])) ap (nx1 hr1 _ _ ⟨hs7,(hl1.t hlr1)⟩ lf))))
 .rintro dm1 hh1 hn1 ⟨hs8,hl1⟩ hln1 hl01
  try dsimp only at hl1 hln1
  refine cg (L':=[(b3,O [.bool false] 4),z2,z1]++(markB (dm1::[]))) ap (qT 3 U (cJ 0 ty4 U U U U U U (aF ?_)))
  have hs9:bO offices x=true:=hs8
  exact cg (L':=([(b3,O [.bool true] 4),z2,z1])++markB (dm1::[])) ap (sA (dm1::[]) [.bool true] NL U hX ⟨⟨0,_,_,_,_,U,U,.inr ⟨_,ty4,U⟩⟩,trivial⟩ (cs hs9))
 .rintro dm1 hh1 hn1 ⟨hs10,hl1⟩ hln1 hl01
  try dsimp only at hl1 hln1
  refine cg (L':=[(b3,O [.bool false] 4),z2,z1]++(markB (dm1::[]))) ap ?_
  have hs11:bO offices x=false:=hs10
  exact cg (L':=([(b3,O [.bool false] 4),z2,z1])++markB (dm1::[])) ap (sA (dm1::[]) [.bool false] NL U hX ⟨⟨0,_,_,_,_,U,U,.inr ⟨_,ty4,U⟩⟩,trivial⟩ (cs hs11))
 .exact xf
 exact xf
theorem tM(h:HF)(p:Policy)(gM:eR)(hp:vP h p gM)(hsm:smP p)(hk:Kinds h):Ret prog 94 [.agg (xE p gM).toArray] h (I (cQ p)):=by
 refine sT func94 U ntmps94 U λX hM hX hF=>?_
 have hs0:=@rfl _ (cQ p)
 have hsc:=hsm.change
 refine sr (cv (λb1=>qO 5 U (cM 0 ty64 U U U (aA (cR call184 (yM _ _ _ hp ob hk) U (λv1 h1 hle1 hp1=>?_))))))
 obtain⟨rr1,rfl,ok1⟩:=hp1
 refine qO 10 U (ae hs0 U (λc1 hs1=>?_) (λc1 hs2=>?_))
 .exact sr (qO 3 U (nretP [I ((eh p).2)] (ci hs1)))
 refine qK 9 [0] U ?_
 refine lp0 p.Rules (λi=>[(1,Q b1),(14,.slice gM.nF p.Rules.length gM.nE),(15,I (p.Rules.length:Int)),(16,I (i:Int))]) ([(b1,O (xE p gM) 64)]) (λs1 i=>(cQ.L1 p (cQ.K1 p)) s1 i) ((hp.Rules.mono TC hle1).1.1) hs2 ?_ ?_
 .rintro i1 fm hs4 e
  refine qK 6 [0] U (cM 0 ty62 U U U (ai call185 (qy _ _ _ _ _ _ (hp.Offices.mono Ty hle1) (hp.Change.mono hle1) ob) U (qO 2 U (ae hs4 U (λc2 hs5=>?_) (λc2 hs6=>?_)))))
  .exact sr (an (nretP [I 200] (ci hs5)))
  exact aI (qT 4 U (nretP [I 0] (ci hs6)))
 rintro i1 y1 rz1 hd1 df aS ek gu hs9 hx1 ag1 e
 have hsy:=hsm.2.1 y1 (fN hd1)
 refine sr (tO df U (qO 9 U (aA (iR wu ty79 (hp.Rules.mono TC hle1).1 aS U U U (λ_ _ _ e=>e) (λq2 r2 A2 ok3=>dt ty79 A2 U U (aT zc79 (λb3=>gg (aO 0 ty79 U U U U U U (qL 8 [0] U (bT 7 [25,26,27,28,29,30,31,32] 25 32 (!(bO p.Offices y1.Expr)) U (λc3 hk1=>?_) (λe=>?_)))))))))))
 .exact qL 3 [1] U (cM 0 ty62 U U U (ai call185 (qy _ _ _ _ _ _ (hp.Offices.mono Ty hle1) ok3.Expr ob) U (qO 2 U (hk1 _ U))))
 refine aF (ae hs9 U (λc4 hs10=>?_) (λc4 hs11=>?_))
 .exact sr (an (nretP [I 200] (ci hs10)))
 exact aI (qT 2 U (oi i1 U (qO 2 U (bo (L':=[(b1,O (xE p gM) 64)]) js (ag1 hs11)))))
theorem qI(h:HF)(l:List Version)(ep:Option Addr)(eo:Nat)(hl:SlC Version.rp h ep eo l)(hsm:smV l)(hk:Kinds h):Ret prog 69 [.slice ep l.length eo] h (I (bF l)):=by
 refine sT func69 U ntmps69 U λX hM hX hF=>?_
 have hs0:=@rfl _ (bF l)
 have hsl:=hsm.len
 refine qK 11 [] U (ae hs0 U (λc1 hs1=>?_) (λc1 hs2=>?_))
 .have c1p:=of_decide_eq_true c1
  exact sr (an (nretP [I 2] (ci hs1)))
 have c1p:=of_decide_eq_false c1
 refine qK 12 [] U ?_
 refine lp1 l (λi w=>[(3,I w),(9,.slice ep l.length eo),(10,I (l.length:Int)),(11,I (i:Int))]) ([]) (λs1 i w=>(bF.L1 (bF.K1)) s1 w) (-1) hl.1.1 hs2 ?_ ?_
 .rintro i1 iu fm hs4 e
  exact sr (an (nretP [I 0] (ci hs4)))
 rintro i1 iu y1 rz1 hd1 df aS ek gu hs6 hx1 ag1 e
 have hsy:=hsm.2 y1 (fN hd1)
 refine sr (tO df U (qO 8 U (aA (iR zx ty105 hl.1 aS U U U (λ_ _ _ e=>e) (λq2 r2 A2 ok2=>dt ty105 A2 U U (aT zc105 (λb2=>aO 0 ty105 U U U U U U (qL 8 [0] U (ai AC (gJ h y1.No (jC .i64 (iu+1)) 1048576) U (qO 2 U (bT 5 [21,22,23,24,25,26] 21 26 (!(aK y1.At 0 1099511627775)) U (λc2 hk1=>?_) (λe=>?_))))))))))))
 .exact qL 2 [0] U (ai AC (gJ h y1.At 0 1099511627775) U (qO 2 U (hk1 _ U)))
 refine av (bT 5 [27,28,29,30,31,32] 27 32 (!(aK y1.Known 0 1099511627775)) U (λc3 hk2=>?_) (λe=>?_))
 .exact qL 2 [0] U (ai AC (gJ h y1.Known 0 1099511627775) U (qO 2 U (hk2 _ U)))
 refine av (bT 5 [33,34,35,36,37,38] 33 38 ((cQ y1.Policy) != 0) U (λc4 hk3=>?_) (λe=>?_))
 .exact qL 1 [] U (cM 0 ty64 U U U (ai call94 (tM _ _ _ ok2.Policy ob hk) U (qO 2 U (hk3 _ U))))
 refine aF (ae hs6 U (λc5 hs7=>?_) (λc5 hs8=>?_))
 .exact sr (an (nretP [I 200] (ci hs7)))
 exact qK 8 [0] U (oi i1 U (qO 2 U (bo (L':=[]) js (ag1 y1.No hs8))))
theorem pL(h:HF)(l:List Document)(ep:Option Addr)(eo:Nat)(hl:SlC kR h ep eo l):ju prog 150 [.slice ep l.length eo] h (λv h'=>∃(rr0:nG),v=.agg (gG.cells (ay l) rr0).toArray/\gG.ok h' (ay l) rr0):=by
 refine cB func150 U ntmps150 U λX hM hX=>?_
 have hs0:=@rfl _ (ay l)
 refine sr (aT zc228 (λb1=>qO 4 U (aA (nw (λb2=>aA (fI (cells:=[.slice ep l.length eo,.map (some b2)]) (places:=[(0,1),(1,1)]) underlying228 zc228 kr kr (aT zc228 (λb3=>aO 0 ty228 U U U U U U (qL 8 [] U ?_)))))))))
 let z1:Nat×Obj:=(b3,O [.slice ep l.length eo,.map (some b2)] 228)
 refine lp2 l (λi w=>[(2,Q b1),(3,Q b3),(9,.slice ep l.length eo),(10,I (l.length:Int)),(11,I (i:Int))]) (λ_=>h) (λw=>[z1,(b2,w.2),(b1,O [.slice none 0 0,.map none] 228)]) (λi w=>i9 (zD .i64) vI h w.2 w.1/\w.1.length<=0+i) (λs1 i w=>(ay.L1 (ay.K1 l)) s1 i w.1) ([],.map #[] 0) hl.1.1 hs0 ⟨(i9.nil (enc:=(zD .i64)) (V:=vI) (h:=h)),lc⟩ ?_ ?_
 .rintro i1 ⟨bL,dO⟩ fm hs1 ⟨gp,Fz⟩ e
  refine sr (cM 0 ty228 U U U (aO 2 ty228 U U U U U U (aF (eI 1 U hM (λh2 hle2 hb2=>?_)))))
  have mc2:tw (zD .i64) vI h2 b2 bL:=⟨_,hb2,gp.mono vI.mono hle2⟩
  have hs2:ay l=(gG.mk l bL):=hs1
  exact jY [.agg (kB [.slice ep l.length eo,.map (some b2)])] func150 U ⟨⟨1,_,_,_,_,U,U,.inl ⟨ty228,U⟩⟩,trivial⟩ ⟨(nG.mk ep eo b2),congrArg (λr:gG=>(.agg (gG.cells r (nG.mk ep eo b2)).toArray:Value)) hs2.symm,(by rw[hs2];exact(show gG.ok h2 (gG.mk l bL) (nG.mk ep eo b2)from⟨(hl.mono jH hle2),mc2⟩))⟩
 rintro i1 ⟨bL,dO⟩ y1 rz1 hd1 df aS ek gu hs3 ⟨gp,Fz⟩ hx1 ag1 e
 exact sr (tO df U (qO 9 U (aA (iR nP ty51 hl.1 aS U U U (λ_ _ _ e=>e) (λq2 r2 A2 ok2=>dt ty51 A2 U U (aT zc51 (λb5=>gg (aO 0 ty51 U U U U U U (qL 7 [1,0] U (aA (j3 2 (k:=y1.No) (x:=(i1:Int)) AB (fA mH) U gp U U U (λmo2 hm2=>qO 3 U (oi i1 U (qO 2 U (bo (L':=[z1,(b2,mo2),(b1,O [.slice none 0 0,.map none] 228)]) js (ag1 ((mput bL y1.No (i1:Int)),mo2) hs3 ⟨hm2,(by have:=mj bL y1.No (i1:Int);first|omega|(simp only[vB,xA]at *;omega))⟩))))))))))))))))
theorem m4(h:HF)(t:Int)  : Ret prog 125 [I t] h (.bool (fM t)):=by
 refine sT func125 U ntmps125 U λX hM hX hF=>?_
 have hs0:=@rfl _ (fM t)
 refine qT 9 U (bp 3 [5,6,7,8] 5 8 (decide (t<1099511627776)) U (λc1 hk1=>?_) (λe=>?_))
 .exact av (qO 2 U (hk1 _ U))
 exact an (nretP [.bool (decide (0<=t)&&decide (t<1099511627776))] (cs hs0))
theorem pw(h:HF)(l:List Int)(ep:Option Addr)(eo:Nat)(limit:Int)(hl:SlC zC h ep eo l):Ret prog 238 [.slice ep l.length eo,I limit] h (.bool (dF l limit)):=by
 refine sT func238 U ntmps238 U λX hM hX hF=>?_
 have hs0:=@rfl _ (dF l limit)
 refine qK 15 [] U ?_
 refine lp1 l (λi w=>[(0,.slice ep l.length eo),(1,I limit),(5,I w),(8,.slice ep l.length eo),(9,I (l.length:Int)),(10,I (i:Int))]) ([]) (λs1 i w=>(dF.L1 limit (dF.K1 l)) s1 w) (-1) hl.1.1 hs0 ?_ ?_
 .rintro i1 eO fm hs1 e
  exact qK 7 [] U (nretP [.bool (decide ((l.length:Int)<=16))] (cs hs1))
 rintro i1 eO y1 rz1 hd1 df aS ek gu hs3 hx1 ag1 e
 refine sr (tO df U (qO 8 U (aA (iF (λy=>[I y]) ec ty3 hl.1 aS U U U (λq2 A2=>dj ty3 A2 U (qO 9 U (bT 4 [17,18,19,20,21] 17 21 (decide (limit<=y1)) U (λc1 hk1=>?_) (λe=>?_))))))))
 .exact av (qO 3 U (hk1 _ U))
 refine aF (ae hs3 U (λc2 hs4=>?_) (λc2 hs5=>?_))
 .exact sr (an (nretP [.bool false] (cs hs4)))
 exact aI (qT 6 U (oi i1 U (qO 2 U (ag1 y1 hs5))))
theorem As(h:HF)(d:Document)(Kk:kx)(hd:SC h d Kk):Ret prog 151 [.agg (zT d Kk).toArray] h (.bool (gS d)):=by
 refine sT func151 U ntmps151 U λX hM hX hF=>?_
 have hs0:=@rfl _ (gS d)
 refine sr (cv (λb1=>qL 8 [0] U (bp 4 [7,8,9,10,11] 7 11 (decide (d.No<4096)) U (λc1 hk1=>?_) (λe=>?_))))
 .exact qL 4 [0] U (hk1 _ U)
 refine av (bp 4 [12,13,14,15,16] 12 16 (fM d.At) U (λc2 hk2=>?_) (λe=>?_))
 .exact qL 2 [0] U (ai NK (m4 h d.At) U (eB U (hk2 _ U)))
 refine av (bp 4 [17,18,19,20,21] 17 21 (decide (0<=d.Kind)) U (λc3 hk3=>?_) (λe=>?_))
 .exact qL 4 [0] U (hk3 _ U)
 refine av (bp 4 [22,23,24,25,26] 22 26 (decide (d.Kind<16)) U (λc4 hk4=>?_) (λe=>?_))
 .exact qL 4 [0] U (hk4 _ U)
 refine av (bp 4 [27,28,29,30,31] 27 31 (decide (0<=d.Value)) U (λc5 hk5=>?_) (λe=>?_))
 .exact qL 4 [0] U (hk5 _ U)
 refine av (bp 4 [32,33,34,35,36] 32 36 (decide (d.Value<=1099511627776)) U (λc6 hk6=>?_) (λe=>?_))
 .exact qL 4 [0] U (hk6 _ U)
 refine qO 6 U (bp 4 [38,39,40,41,42] 38 42 (decide (0<=d.From)) U (λc7 hk7=>?_) (λe=>?_))
 .exact qL 4 [0] U (hk7 _ U)
 refine av (bp 6 [43,44,45,46,47,48,49] 43 49 (decide (d.From<d.Until)) U (λc8 hk8=>?_) (λe=>?_))
 .exact qL 6 [0,0] U (hk8 _ U)
 refine av (bp 4 [50,51,52,53,54] 50 54 (decide (d.Until<=1099511627776)) U (λc9 hk9=>?_) (λe=>?_))
 .exact qL 4 [0] U (hk9 _ U)
 refine av (bp 4 [55,56,57,58,59] 55 59 (dF d.Parties 1048577) U (λc10 hk10=>?_) (λe=>?_))
 .exact qL 2 [0] U (ai call238 (pw _ _ _ _ 1048577 hd.Parties) U (eB U (hk10 _ U)))
 refine av (bp 6 [60,61,62,63,64,65,66] 60 66 (dF d.Revokes d.No) U (λc11 hk11=>?_) (λe=>?_))
 .exact qL 4 [0,0] U (ai call238 (pw _ _ _ _ d.No hd.Revokes) U (eB U (hk11 _ U)))
 refine av (bp 6 [67,68,69,70,71,72,73] 67 73 (dF d.Needs d.No) U (λc12 hk12=>?_) (λe=>?_))
 .exact qL 4 [0,0] U (ai call238 (pw _ _ _ _ d.No hd.Needs) U (eB U (hk12 _ U)))
 exact an (nretP [.bool ((((((((((((decide (0<=d.No)&&decide (d.No<4096))&&(fM d.At))&&decide (0<=d.Kind))&&decide (d.Kind<16))&&decide (0<=d.Value))&&decide (d.Value<=1099511627776))&&decide (0<=d.From))&&decide (d.From<d.Until))&&decide (d.Until<=1099511627776))&&(dF d.Parties 1048577))&&(dF d.Revokes d.No))&&(dF d.Needs d.No))] (cs hs0))
theorem nY(h:HF)(no:Int)(v0:gG)(Nr:nG)(v0_q:Addr)(hv0:gG.ok h v0 Nr)(av0:At h v0_q (gG.cells v0 Nr)):Ret prog 239 [I no,.pointer (some v0_q)] h (.bool (eH no v0)):=by
 refine sT func239 U ntmps239 U λX hM hX hF=>?_
 have hs0:=@rfl _ (eH no v0)
 refine qK 7 [] U (iZ (j:=1) ty190 av0 U U (av ?_))
 obtain⟨o1,hb1,hm1⟩:=hv0.at_
 refine aA (tz (k:=no) AB (fA mH) hb1 hm1 (eX zv3) (show vI _ (I 0) 0 from U) U U (λv1 hv1=>?_))
 obtain rfl:=hv1
 exact av (qO 11 U (nretP [.bool (!(mhas v0.at_ no))] (cs hs0)))
theorem pu(h:HF)(s:gG)(RA:nG)(d:Document)(Kk:kx)(hs:gG.ok h s RA)(hd:SC h d Kk):Ret prog 152 [.agg (gG.cells s RA).toArray,.agg (zT d Kk).toArray] h (.bool (eV s d)):=by
 refine sT func152 U ntmps152 U λX hM hX hF=>?_
 have hs0:=@rfl _ (eV s d)
 refine sr (cv (λb1=>cv (λb2=>qO 4 U (aQ 1 U hM (λh1 hle1 hb1=>aA (eA U U (qL 7 [0] U (ai IT (gV _ _ _ _ (λdC=>eH dC s) (.func (.func 239) #[] #[Q b1]) (hd.Revokes.mono xH hle1) (λh' dC hle=>iq call239 (nY h' dC s RA ⟨b1,0,none⟩  ((hs.mono hle1).mono hle) ((cx hb1).mono hle)))) U (qO 2 U (bp 6 [12,13,14,15,16,17,18] 12 18 (!(cH d.Needs (λdC=>eH dC s))) U (λc1 hk1=>?_) (λe=>?_)))))))))))
 .exact qL 3 [0] U (ai IT (gV _ _ _ _ (λdC=>eH dC s) (.func (.func 239) #[] #[Q b1]) (hd.Needs.mono xH hle1) (λh' dC hle=>iq call239 (nY h' dC s RA ⟨b1,0,none⟩  ((hs.mono hle1).mono hle) ((cx hb1).mono hle)))) U (qO 2 U (hk1 _ U)))
 exact an (nretP [.bool ((!(cH d.Revokes (λdC=>eH dC s)))&&(!(cH d.Needs (λdC=>eH dC s))))] (cs hs0))
theorem ox(h:HF)(l:List Document)(ep:Option Addr)(eo:Nat)(hl:SlC kR h ep eo l):Ret prog 70 [.slice ep l.length eo] h (I (aU l)):=by
 refine sT func70 U ntmps70 U λX hM hX hF=>?_
 have hs0:=@rfl _ (aU l)
 refine qK 11 [] U (ae hs0 U (λc1 hs1=>?_) (λc1 hs2=>?_))
 .have c1p:=of_decide_eq_true c1
  exact sr (an (nretP [I 2] (ci hs1)))
 have c1p:=of_decide_eq_false c1
 refine qT 4 U (aA (cR call150 (pL _ _ _ _ hl) U (λv1 h1 hle1 hp1=>?_)))
 obtain⟨rr1,rfl,ok1⟩:=hp1
 refine aT zc228 (λb1=>aO 0 ty228 U U U U U U (qL 8 [] U ?_))
 let z1:Nat×Obj:=(b1,O (gG.cells (ay l) rr1) 228)
 refine lp0 l (λi=>[(0,.slice ep l.length eo),(3,Q b1),(11,.slice ep l.length eo),(12,I (l.length:Int)),(13,I (i:Int))]) ([z1]) (λs1 i=>(aU.L1 l (aU.K1)) s1 i) ((hl.mono jH hle1).1.1) hs2 ?_ ?_
 .rintro i1 fm hs4 e
  exact sr (an (nretP [I 0] (ci hs4)))
 rintro i1 y1 rz1 hd1 df aS ek gu hs6 hx1 ag1 e
 refine sr (tO df U (qO 9 U (aA (iR nP ty51 (hl.mono jH hle1).1 aS U U U (λ_ _ _ e=>e) (λq3 r3 A3 ok4=>dt ty51 A3 U U (aT zc51 (λb3=>gg (aO 0 ty51 U U U U U U (qO 2 U ?_)))))))))
 refine oa [(0,.slice ep l.length eo),(3,Q b1),(11,.slice ep l.length eo),(12,I (l.length:Int)),(13,I (i1:Int)),(41,.bool (((!(gS y1))||(decide (0<(i1:Int))&&decide (y1.No<=(nthI l ((i1:Int)-1)).No)))||(!(eV (ay l) y1))))] (λe=>?_) (λhk1=>?_)
 rotate_left
 .let z2:Nat×Obj:=(b3,O (zT y1 r3) 51)
  refine er ([z2,z1]) mixed kr jn (λdY _=>?_)
  refine tf 0 U U (λ_ _ hj=>jg ty51 U (hj.nth (i:=0) U) U) (tn 1 U (eZ call151 (As _ _ _ ok4) U (⟨jn,qA [2,3] U ?_⟩)))
  refine dh 21 U (λc2=>?_) (λc2=>?_)
  .exact tk 4 U U (qR 5 19 U (aJ kr (hk1 _ ⟨U,U,U,U,U,(cb (show true=(((!(gS y1))||(decide (0<(i1:Int))&&decide (y1.No<=(nthI l ((i1:Int)-1)).No)))||(!(eV (ay l) y1)))from by rw[c2]<;>rfl)),trivial⟩)))
  refine qR 4 3 U ?_
  refine dh 24 U (λc3=>?_) (λc3=>?_)
  .have c3p:=of_decide_eq_true c3
   refine qB [7] U (tf 8 U U (rj 0 ty3 U U U) (qA [9,10] U (tf 11 U U (λ_ _ _=>ng (v':=I ((i1:Int)-1)) U (jh ob)) ?_)))
   have ho2:0<=(((i1:Int)-1):Int)/\(((i1:Int)-1):Int)<((l).length:Int):=ob
   refine jf 12 dY jn nP ty51 (hl.mono jH hle1).1 ho2 (cV ho2) U U U U kr (λq4 cs4 A4 ln4 rr5=>?_)
   obtain⟨r4,rfl,ok5⟩:=rr5
   refine qB [13] U (tf 14 U U (rh ty3 A4 U) (qR 15 4 U ?_))
   refine dh 36 U (λc4=>?_) (λc4=>?_)
   .have c4p:=of_decide_eq_true c4
    exact tk 19 U U (qR 20 4 U (aJ kr (hk1 _ ⟨U,U,U,U,U,(cb (show true=(((!(gS y1))||(decide (0<(i1:Int))&&decide (y1.No<=(nthI l ((i1:Int)-1)).No)))||(!(eV (ay l) y1)))from by rw[c2,c3,c4]<;>rfl)),trivial⟩)))
   have c4p:=of_decide_eq_false c4
   exact tf 19 U U (λ_ _ hj=>jg ty228 U (hj.nth (i:=1) U) U) (tf 20 U U (λ_ _ hj=>jg ty51 U (hj.nth (i:=0) U) U) (tn 21 U (eZ call152 (pu _ _ _ _ _ ok1 ok4) U (⟨jn,qA [22,23] U (aJ kr (hk1 _ ⟨U,U,U,U,U,(cb (show(!(eV (ay l) y1))=(((!(gS y1))||(decide (0<(i1:Int))&&decide (y1.No<=(nthI l ((i1:Int)-1)).No)))||(!(eV (ay l) y1)))from by rw[c2,c3,c4]<;>rfl)),trivial⟩))⟩))))
  have c3p:=of_decide_eq_false c3
  exact tk 7 U U (qR 8 11 U (tf 19 U U (λ_ _ hj=>jg ty228 U (hj.nth (i:=1) U) U) (tf 20 U U (λ_ _ hj=>jg ty51 U (hj.nth (i:=0) U) U) (tn 21 U (eZ call152 (pu _ _ _ _ _ ok1 ok4) U (⟨jn,qA [22,23] U (aJ kr (hk1 _ ⟨U,U,U,U,U,(cb (show(!(eV (ay l) y1))=(((!(gS y1))||(decide (0<(i1:Int))&&decide (y1.No<=(nthI l ((i1:Int)-1)).No)))||(!(eV (ay l) y1)))from by rw[c2,c3]<;>rfl)),trivial⟩))⟩))))))
 refine ae hs6 U (λc5 hs7=>?_) (λc5 hs8=>?_)
 .exact sr (an (nretP [I 170] (ci hs7)))
 exact aI (qT 2 U (oi i1 U (qO 2 U (bo (L':=[z1]) js (ag1 hs8)))))
theorem wD(h:HF)(eE:Int)(v0:Int)(v0_q:Addr)(av0:At h v0_q [I v0]):Ret prog 196 [I eE,.pointer (some v0_q)] h (.bool (gh eE v0)):=by
 refine sT func196 U ntmps196 U λX hM hX hF=>?_
 have hs0:=@rfl _ (gh eE v0)
 refine qT 9 U (bT 4 [6,7,8,9,10] 6 10 (decide (v0<eE)) U (λc1 hk1=>?_) (λe=>?_))
 .exact av (dj ty3 av0 U (qO 2 U (hk1 _ U)))
 exact an (nretP [.bool (decide (eE<0)||decide (v0<eE))] (cs hs0))
theorem iT(h:HF)(most:Int)(l:List Int)(ep:Option Addr)(eo:Nat)(hl:SlC zC h ep eo l):Ret prog 103 [I most,.slice ep l.length eo] h (.bool (cy most l)):=by
 refine sT func103 U ntmps103 U λX hM hX hF=>?_
 have hs0:=@rfl _ (cy most l)
 exact sr (cv (λb1=>qO 5 U (aQ 0 U hM (λh1 hle1 hb1=>aA (eA U U (ai IT (gV _ _ _ _ (λdC=>gh dC most) (.func (.func 196) #[] #[Q b1]) (hl.mono xH hle1) (λh' dC hle=>iq call196 (wD h' dC most ⟨b1,0,none⟩  ((cx hb1).mono hle)))) U (qO 3 U (nretP [.bool (!(cH l (λdC=>gh dC most)))] (cs hs0)))))))))
theorem tc(h:HF)(x:Approval)  : Ret prog 119 [.agg (vA x).toArray] h (.bool (fC x)):=by
 refine sT func119 U ntmps119 U λX hM hX hF=>?_
 have hs0:=@rfl _ (fC x)
 refine sr (cv (λb1=>qL 6 [0] U (aA (bE (cells:=[I x.No]) ec ty3 zc3 U U kr (λb2=>aQ 0 U hM (λh1 hle1 hb1=>?_))))))
 have sl1:SlC zC h1 (some ⟨b2,0,none⟩) 1 ([x.No]):=bz.slB0 (T:=3) (fz:=(0,0)) ((show bz zC h [I x.No] ([x.No])from⟨[I x.No],[],rfl,rfl,rfl,rfl⟩).mono xH hle1) hb1
 refine ai GR (iT _ 1048576 _ _ _ sl1) U (av (bp 7 [7,8,9,10,11,12,13,14] 7 14 (cy 1099511627775 ([x.At,x.Known])) U (λc1 hk1=>?_) (λe=>?_)))
 .refine qL 4 [0,0] U (aA (bE (cells:=[I x.At,I x.Known]) ec ty3 zc3 U U kr (λb3=>aQ 0 U hM (λh2 hle2 hb2=>?_))))
  have sl2:SlC zC h2 (some ⟨b3,0,none⟩) 2 ([x.At,x.Known]):=bz.slB0 (T:=3) (fz:=(0,0)) ((show bz zC h1 [I x.At,I x.Known] ([x.At,x.Known])from⟨[I x.At],[I x.Known],rfl,rfl,rfl,⟨[I x.Known],[],rfl,rfl,rfl,rfl⟩⟩).mono xH hle2) hb2
  exact ai GR (iT _ 1099511627775 _ _ _ sl2) U (eB U (kg (h:=h1) hle2 hX hle1 (hk1 _ U)))
 refine av (bp 5 [15,16,17,18,19,20] 15 20 (cy 4095 ([x.Doc])) U (λc2 hk2=>?_) (λe=>?_))
 .refine qL 2 [0] U (aA (bE (cells:=[I x.Doc]) ec ty3 zc3 U U kr (λb4=>aQ 0 U hM (λh3 hle3 hb3=>?_))))
  have sl3:SlC zC h3 (some ⟨b4,0,none⟩) 1 ([x.Doc]):=bz.slB0 (T:=3) (fz:=(0,0)) ((show bz zC h1 [I x.Doc] ([x.Doc])from⟨[I x.Doc],[],rfl,rfl,rfl,rfl⟩).mono xH hle3) hb3
  exact ai GR (iT _ 4095 _ _ _ sl3) U (eB U (kg (h:=h1) hle3 hX hle1 (hk2 _ U)))
 refine av (bp 7 [21,22,23,24,25,26,27,28] 21 28 (cy 63 ([x.By,x.For])) U (λc3 hk3=>?_) (λe=>?_))
 .refine qL 4 [0,0] U (aA (bE (cells:=[I x.By,I x.For]) ec ty3 zc3 U U kr (λb5=>aQ 0 U hM (λh4 hle4 hb4=>?_))))
  have sl4:SlC zC h4 (some ⟨b5,0,none⟩) 2 ([x.By,x.For]):=bz.slB0 (T:=3) (fz:=(0,0)) ((show bz zC h1 [I x.By,I x.For] ([x.By,x.For])from⟨[I x.By],[I x.For],rfl,rfl,rfl,⟨[I x.For],[],rfl,rfl,rfl,rfl⟩⟩).mono xH hle4) hb4
  exact ai GR (iT _ 63 _ _ _ sl4) U (eB U (kg (h:=h1) hle4 hX hle1 (hk3 _ U)))
 refine av (bp 5 [29,30,31,32,33,34] 29 34 (cy 31 ([x.Office])) U (λc4 hk4=>?_) (λe=>?_))
 .refine qL 2 [0] U (aA (bE (cells:=[I x.Office]) ec ty3 zc3 U U kr (λb6=>aQ 0 U hM (λh5 hle5 hb5=>?_))))
  have sl5:SlC zC h5 (some ⟨b6,0,none⟩) 1 ([x.Office]):=bz.slB0 (T:=3) (fz:=(0,0)) ((show bz zC h1 [I x.Office] ([x.Office])from⟨[I x.Office],[],rfl,rfl,rfl,rfl⟩).mono xH hle5) hb5
  exact ai GR (iT _ 31 _ _ _ sl5) U (eB U (kg (h:=h1) hle5 hX hle1 (hk4 _ U)))
 exact an (nretP [.bool (((((cy 1048576 ([x.No]))&&(cy 1099511627775 ([x.At,x.Known])))&&(cy 4095 ([x.Doc])))&&(cy 63 ([x.By,x.For])))&&(cy 31 ([x.Office])))] (cs hs0))
theorem oz(h:HF)(l:List Approval)(ep:Option Addr)(eo:Nat)(hl:SlC Approval.rp h ep eo l):Ret prog 71 [.slice ep l.length eo] h (I (aX l)):=by
 refine sT func71 U ntmps71 U λX hM hX hF=>?_
 have hs0:=@rfl _ (aX l)
 refine qK 11 [] U (ae hs0 U (λc1 hs1=>?_) (λc1 hs2=>?_))
 .have c1p:=of_decide_eq_true c1
  exact sr (an (nretP [I 2] (ci hs1)))
 have c1p:=of_decide_eq_false c1
 refine qK 12 [] U ?_
 refine lp1 l (λi w=>[(3,I w),(9,.slice ep l.length eo),(10,I (l.length:Int)),(11,I (i:Int))]) ([]) (λs1 i w=>(aX.L1 (aX.K1)) s1 w) (-1) hl.1.1 hs2 ?_ ?_
 .rintro i1 iu fm hs4 e
  exact sr (an (nretP [I 0] (ci hs4)))
 rintro i1 iu y1 rz1 hd1 df aS ek gu hs6 hx1 ag1 e
 refine sr (tO df U (qO 8 U (aA (iF vA md ty81 hl.1 aS U U U (λq2 A2=>dt ty81 A2 U U (aT zc81 (λb2=>aO 0 ty81 U U U U U U (qO 4 U (cM 0 ty81 U U U (ai call119 (tc h y1) U (qO 2 U (bT 5 [18,19,20,21,22,23] 18 23 (decide (y1.No<=iu)) U (λc2 hk1=>?_) (λe=>?_)))))))))))))
 .exact qL 5 [0] U (hk1 _ U)
 refine aF (ae hs6 U (λc3 hs7=>?_) (λc3 hs8=>?_))
 .exact sr (an (nretP [I 280] (ci hs7)))
 exact qK 8 [0] U (oi i1 U (qO 2 U (bo (L':=[]) js (ag1 y1.No hs8))))
theorem pd(h:HF)(bN:Register)(eN:fq)(jr:Sa h bN eN)(hsm:smR bN)(hk:Kinds h):Ret prog 13 [.agg (vN bN eN).toArray] h (I (dD bN)):=by
 refine sT func13 U ntmps13 U λX hM hX hF=>?_
 have hs0:=@rfl _ (dD bN)
 have hsv:=hsm.vers
 refine sr (cv (λb1=>qO 4 U ?_))
 let z1:Nat×Obj:=(b1,O (vN bN eN) 30)
 refine er ([z1]) mixed kr jn (λdY _=>?_)
 refine qB [0] U (tf 1 U U (rj 0 ty22 U U U) (qB [3] U (tf 4 U U (rj 0 ty23 U U U) (qB [6] U (tf 7 U U (rj 0 ty24 U U U) (qB [9] U (tf 10 U U (rj 0 ty25 U U U) (qB [12] U (tf 13 U U (rj 0 ty26 U U U) (qB [15] U (tf 16 U U (rj 0 ty27 U U U) (qB [18] U (tf 19 U U (rj 0 ty28 U U U) (tm 23 U (tn 2 U (eZ call65 (pT _ _ _ _ jr.Appoints) U (⟨jn,tn 5 U (eZ call66 (tW _ _ _ _ jr.Deputies) U (⟨jn,tn 8 U (eZ call67 (sU _ _ _ _ jr.Interests) U (⟨jn,tn 11 U (eZ call68 (uP _ _ _ _ jr.Budgets) U (⟨jn,tn 14 U (eZ call69 (qI _ _ _ _ jr.Versions ob hk) U (⟨jn,(tn 17 U (eZ call70 (ox _ _ _ _ jr.Docs) U (⟨jn,(tn 20 U (eZ call71 (oz _ _ _ _ jr.Approvals) U (⟨jn,(tn 21 U (bE (cells:=[I (dg bN.Appoints),I (dB bN.Deputies),I (cX bN.Interests),I (cu bN.Budgets),I (bF bN.Versions),I (aU bN.Docs),I (aX bN.Approvals)]) underlying141 ty37 zc37 U U kr (λb2=>⟨jn,(tf 22 U U (λ_ _ _=>Jn underlying141 U) (aJ kr (eI 0 U hM (λh1 hle1 hb1=>?_))))⟩)))⟩)))⟩)))⟩))⟩))⟩))⟩))⟩)))))))))))))))))
 have sl1:SlC zC h1 (some ⟨b2,0,none⟩) 7 ([(dg bN.Appoints),(dB bN.Deputies),(cX bN.Interests),(cu bN.Budgets),(bF bN.Versions),(aU bN.Docs),(aX bN.Approvals)]):=bz.slB0 (T:=37) (fz:=(0,0)) ((show bz zC h [I (dg bN.Appoints),I (dB bN.Deputies),I (cX bN.Interests),I (cu bN.Budgets),I (bF bN.Versions),I (aU bN.Docs),I (aX bN.Approvals)] ([(dg bN.Appoints),(dB bN.Deputies),(cX bN.Interests),(cu bN.Budgets),(bF bN.Versions),(aU bN.Docs),(aX bN.Approvals)])from⟨[I (dg bN.Appoints)],[I (dB bN.Deputies),I (cX bN.Interests),I (cu bN.Budgets),I (bF bN.Versions),I (aU bN.Docs),I (aX bN.Approvals)],rfl,rfl,rfl,⟨[I (dB bN.Deputies)],[I (cX bN.Interests),I (cu bN.Budgets),I (bF bN.Versions),I (aU bN.Docs),I (aX bN.Approvals)],rfl,rfl,rfl,⟨[I (cX bN.Interests)],[I (cu bN.Budgets),I (bF bN.Versions),I (aU bN.Docs),I (aX bN.Approvals)],rfl,rfl,rfl,⟨[I (cu bN.Budgets)],[I (bF bN.Versions),I (aU bN.Docs),I (aX bN.Approvals)],rfl,rfl,rfl,⟨[I (bF bN.Versions)],[I (aU bN.Docs),I (aX bN.Approvals)],rfl,rfl,rfl,⟨[I (aU bN.Docs)],[I (aX bN.Approvals)],rfl,rfl,rfl,⟨[I (aX bN.Approvals)],[],rfl,rfl,rfl,rfl⟩⟩⟩⟩⟩⟩⟩).mono xH hle1) hb1
 refine ir (ι:=Nat) (λi=>[]) (λi=>h1) (λi=>[z1]) (λi=>i<=(qH 7).length/\dD bN=((dD.K1))) ?_ (λhx1=>?_)
 .rintro i1 ⟨fm,hs1⟩ e
  exact sr (an (nretP [I 0] (ci hs1)))
 refine jZ (ι:=Nat×List Nat) (λi=>[(26,.slice (some ⟨b2,0,none⟩) 7 7),(27,I 7),(28,I (i.1:Int))]) (λi=>h1) (λi=>[z1]) (λi=>(qH 7).drop i.1=i.2/\i.1<=(qH 7).length/\dD bN=((dD.L1 bN (dD.K1)) i.2 i.1)) (λi=>i.2.length) (0,(qH 7)) rd sw ⟨U,qM _,hs0⟩ ?_
 rintro⟨i1,s1⟩ ⟨hd1,fm,hs3⟩ ag1 e
 rcases s1 with _|⟨y1,rz1⟩
 .have fS:decide ((i1:Int)<7)=false:=by simpa using mR hd1
  exact sr (fO fS U (qO 4 U (hx1 i1 _ ⟨fm,hs3⟩ trivial)))
 have df:decide ((i1:Int)<7)=true:=by simpa using s8 hd1
 have ek:i1<7:=by simpa using hY hd1
 refine sr (tO df U (qO 8 U ?_))
 have ho2:0<=((i1:Int):Int)/\((i1:Int):Int)<(([(dg bN.Appoints),(dB bN.Deputies),(cX bN.Interests),(cu bN.Budgets),(bF bN.Versions),(aU bN.Docs),(aX bN.Approvals)]).length:Int):=ob
 refine aA (oP (enc:=λy=>[I y]) ei underlying141 ty37 sl1.1 ho2 (cV ho2) U U U (λq2 A2=>dj ty37 A2 U (qO 7 U (ae hs3 U (λc2 hs5=>?_) (λc2 hs6=>?_)))))
 .exact sr (an (nretP [I 300] (ci hs5)))
 exact aI (qT 2 U (oi i1 U (qO 2 U (ag1 ((i1+1),rz1) _ (Nat.lt_succ_self _) ⟨kw hd1,hY hd1,hs6⟩ rd))))
theorem hU(h:HF)(Q8:Int)  : GK prog 51 [I Q8] h (exW errV (λr:Unit=>(.tuple #[]:Value)) (lW Q8)):=by
 refine cB func51 U ntmps51 U λX hM hX=>?_
 have hs0:=@rfl _ (lW Q8)
 refine qT 5 U (ae hs0 U (λc1 hs1=>?_) (λc1 hs2=>?_))
 .exact bC (av (aA (eT (DV NJ U U) (aA (DR U yo (λe=>gy (nv [] func51 hX (congrArg (exW errV (λr:Unit=>(.tuple #[]:Value))) hs1))))))))
 refine aI ?_
 have hs3:lW Q8=(Except.ok ()):=hs2
 exact ef (yl [] [] func51 U hX trivial (congrArg (exW errV (λr:Unit=>(.tuple #[]:Value))) hs3))
theorem ky(h:HF)(s:List Document)(sI:Option Addr)(sH:Nat)(f:(Document->Bool))(f_v:Value)(hs:SlC kR h sI sH s)(hf:∀(h':HF)(dC:Document)(yS:kx),xN h h'->dC∈s->SC h' dC yS->tv prog f_v [.agg (zT dC yS).toArray] h' [] (.bool (f dC))):Ret prog 128 [.slice sI s.length sH,f_v] h (I (ad s f)):=by
 refine sT func128 U ntmps128 U λX hM hX hF=>?_
 have hs0:=@rfl _ (ad s f)
 refine qK 11 [] U ?_
 refine lp0 s (λi=>[(0,.slice sI s.length sH),(1,f_v),(7,I (s.length:Int)),(8,I (i:Int))]) ([]) (λs1 i=>(ad.L1 f (ad.K1)) s1 i) hs.1.1 hs0 ?_ ?_
 .rintro i1 fm hs1 e
  exact sr (an (nretP [I (-1)] (ci hs1)))
 rintro i1 y1 rz1 hd1 df aS ek gu hs3 hx1 ag1 e
 refine sr (tO df U (qO 16 U (aA (iR nP ty51 hs.1 aS U U U (λ_ _ _ e=>e) (λq2 r2 A2 ok2=>dt ty51 A2 U U (aA (lA (v:=.bool (f y1)) [] (List.nil_sublist _) (hf h y1 r2 lf (fN hd1) ok2) U U (aF (ae hs3 U (λc2 hs4=>?_) (λc2 hs5=>?_))))))))))
 .exact sr (qO 3 U (nretP [I (i1:Int)] (ci hs4)))
 exact aI (qT 2 U (oi i1 U (qO 2 U (ag1 hs5))))
theorem Cq(s:List Document)(f:Document->Bool):ad s f<(s.length:Int):=by
 have key:∀(l:List Document)(i:Nat),ad.L1 f ad.K1 l i<((i+l.length:Nat):Int):=by
  intro l
  induction l with
  |nil=>intro i;simp only[ad.L1,ad.K1];omega
  |cons y l ih=>
   intro i
   simp only[ad.L1,Bool.cond_eq_ite,xA]
   split
   .omega
   have:=ih (i+1);omega
 have:=key s 0
 simpa[ad]using this
theorem DG(h:HF)(d:Document)(Kk:kx)(v0:Int)(v0_q:Addr)(hd:SC h d Kk)(av0:At h v0_q [I v0]):Ret prog 129 [.agg (zT d Kk).toArray,.pointer (some v0_q)] h (.bool (bA d v0)):=by
 refine sT func129 U ntmps129 U λX hM hX hF=>?_
 have hs0:=@rfl _ (bA d v0)
 exact sr (cv (λb1=>qL 6 [0] U (dj ty3 av0 U (qO 3 U (nretP [.bool (d.No==v0)] (cs hs0))))))
theorem zc(h:HF)(bN:Register)(eN:fq)(doc:Int)(ba:Int)(known:Int)(jr:Sa h bN eN):HG prog 53 [.agg (vN bN eN).toArray,I doc,I ba,I known] h errV (lV bN doc ba known) (λ(r:bI)v h'=>∃(rr0:jv),v=.agg (bI.cells r rr0).toArray/\bI.ok h' r rr0):=by
 refine cB func53 U ntmps53 U λX hM hX=>?_
 have hs0:=@rfl _ (lV bN doc ba known)
 refine sr (cv (λb1=>cv (λb2=>aT zc123 (λb3=>qL 5 [2] U (aQ 1 U hM (λh1 hle1 hb1=>aA (eA U U (ai call128 (ky _ _ _ _ (λdC=>bA dC doc) (.func (.func 129) #[] #[Q b2]) (jr.Docs.mono jH hle1) (λh' dC yS hle OF a0_o=>iq call129 (DG h' dC yS doc ⟨b2,0,none⟩ a0_o ((cx hb1).mono hle)))) U (qO 8 U (bT 5 [16,17,18,19,20,21] 16 21 (decide ((min ba known)<0)) U (λc1 hk1=>?_) (λe=>?_)))))))))))
 .exact av (av (aA (eT (Qu U U) (qO 2 U (hk1 _ U)))))
 refine av (bT 5 [22,23,24,25,26,27] 22 27 (decide (1099511627776<=(max ba known))) U (λc2 hk2=>?_) (λe=>?_))
 .exact av (av (aA (eT (Qv U U) (qO 2 U (hk2 _ U)))))
 refine aF (ae hs0 U (λc3 hs1=>?_) (λc3 hs2=>?_))
 .exact bC (aA (eT (DV NJ U U) (aA (DR U yo (λe=>gy (IY [] func53 hs1))))))
 refine qT 2 U ?_
 let z1:Nat×Obj:=(b1,O (vN bN eN) 30)
 refine er ([z1]) mixed kr jn (λdY _=>?_)
 refine tf 0 U U (λ_ _ hj=>jg ty30 U (hj.nth (i:=0) U) U) (qB [1] U (tf 2 U U (rj 0 ty27 U U U) (tm 3 U ?_)))
 have ho1:0<=((ad bN.Docs (λdC=>bA dC doc)):Int)/\((ad bN.Docs (λdC=>bA dC doc)):Int)<((bN.Docs).length:Int):=(by have hq:=Cq bN.Docs (λdC=>bA dC doc);simp only[decide_eq_true_eq,decide_eq_false_iff_not,zB,xD,qE,Bool.not_eq_false',Bool.and_eq_false_iff,Bool.or_eq_false_iff,beq_iff_eq,beq_eq_false_iff_ne,bne_iff_ne,bne_eq_false_iff_eq,jA,xA,vB,List.length_drop]at *;omega)
 refine jf 4 dY jn nP ty51 (jr.Docs.mono jH hle1).1 ho1 (cV ho1) U U U U kr (λq1 cs1 A1 ln1 rr1=>?_)
 obtain⟨r1,rfl,ok1⟩:=rr1
 refine tf 5 U U (λ_ _ hj=>lL ty51 (A1.mono hj.1) U U) (qA [6,7] U (tn 8 U (fI (cells:=[.slice eN.qb bN.Appoints.length eN.pZ,.slice eN.pY bN.Deputies.length eN.pX,.slice eN.oK bN.Interests.length eN.oJ,.slice eN.ss bN.Budgets.length eN.so,.slice eN.ke bN.Versions.length eN.kd,.slice eN.CD bN.Docs.length eN.CC,.slice eN.rx bN.Approvals.length eN.ru,I ((nthI bN.Docs (ad bN.Docs (λdC=>bA dC doc))).No),I ((nthI bN.Docs (ad bN.Docs (λdC=>bA dC doc))).At),I ((nthI bN.Docs (ad bN.Docs (λdC=>bA dC doc))).Kind),I ((nthI bN.Docs (ad bN.Docs (λdC=>bA dC doc))).Value),I ((nthI bN.Docs (ad bN.Docs (λdC=>bA dC doc))).From),I ((nthI bN.Docs (ad bN.Docs (λdC=>bA dC doc))).Until),.slice r1.yC ((nthI bN.Docs (ad bN.Docs (λdC=>bA dC doc))).Parties.length) r1.yB,.slice r1.sk ((nthI bN.Docs (ad bN.Docs (λdC=>bA dC doc))).Revokes.length) r1.sj,.slice r1.D5 ((nthI bN.Docs (ad bN.Docs (λdC=>bA dC doc))).Needs.length) r1.D4,Y ((nthI bN.Docs (ad bN.Docs (λdC=>bA dC doc))).Text 0),Y ((nthI bN.Docs (ad bN.Docs (λdC=>bA dC doc))).Text 1),Y ((nthI bN.Docs (ad bN.Docs (λdC=>bA dC doc))).Text 2),Y ((nthI bN.Docs (ad bN.Docs (λdC=>bA dC doc))).Text 3),Y ((nthI bN.Docs (ad bN.Docs (λdC=>bA dC doc))).Text 4),Y ((nthI bN.Docs (ad bN.Docs (λdC=>bA dC doc))).Text 5),Y ((nthI bN.Docs (ad bN.Docs (λdC=>bA dC doc))).Text 6),Y ((nthI bN.Docs (ad bN.Docs (λdC=>bA dC doc))).Text 7),Y ((nthI bN.Docs (ad bN.Docs (λdC=>bA dC doc))).Text 8),Y ((nthI bN.Docs (ad bN.Docs (λdC=>bA dC doc))).Text 9),Y ((nthI bN.Docs (ad bN.Docs (λdC=>bA dC doc))).Text 10),Y ((nthI bN.Docs (ad bN.Docs (λdC=>bA dC doc))).Text 11),Y ((nthI bN.Docs (ad bN.Docs (λdC=>bA dC doc))).Text 12),Y ((nthI bN.Docs (ad bN.Docs (λdC=>bA dC doc))).Text 13),Y ((nthI bN.Docs (ad bN.Docs (λdC=>bA dC doc))).Text 14),Y ((nthI bN.Docs (ad bN.Docs (λdC=>bA dC doc))).Text 15),Y ((nthI bN.Docs (ad bN.Docs (λdC=>bA dC doc))).Text 16),Y ((nthI bN.Docs (ad bN.Docs (λdC=>bA dC doc))).Text 17),Y ((nthI bN.Docs (ad bN.Docs (λdC=>bA dC doc))).Text 18),Y ((nthI bN.Docs (ad bN.Docs (λdC=>bA dC doc))).Text 19),Y ((nthI bN.Docs (ad bN.Docs (λdC=>bA dC doc))).Text 20),Y ((nthI bN.Docs (ad bN.Docs (λdC=>bA dC doc))).Text 21),Y ((nthI bN.Docs (ad bN.Docs (λdC=>bA dC doc))).Text 22),Y ((nthI bN.Docs (ad bN.Docs (λdC=>bA dC doc))).Text 23),Y ((nthI bN.Docs (ad bN.Docs (λdC=>bA dC doc))).Text 24),Y ((nthI bN.Docs (ad bN.Docs (λdC=>bA dC doc))).Text 25),Y ((nthI bN.Docs (ad bN.Docs (λdC=>bA dC doc))).Text 26),Y ((nthI bN.Docs (ad bN.Docs (λdC=>bA dC doc))).Text 27),Y ((nthI bN.Docs (ad bN.Docs (λdC=>bA dC doc))).Text 28),Y ((nthI bN.Docs (ad bN.Docs (λdC=>bA dC doc))).Text 29),Y ((nthI bN.Docs (ad bN.Docs (λdC=>bA dC doc))).Text 30),Y ((nthI bN.Docs (ad bN.Docs (λdC=>bA dC doc))).Text 31),I ba,I known]) (places:=[(0,7),(7,41),(48,1),(49,1)]) underlying123 zc123 kr kr ?_)))
 refine⟨jn,(tn 9 U (sG 0 ty123 U U U U U U (⟨jn,(aJ kr ?_)⟩)))⟩
 have hs3:lV bN doc ba known=(Except.ok (bI.mk bN (nthI bN.Docs (ad bN.Docs (λdC=>bA dC doc))) ba known)):=hs2
 exact ef (IV [] [.agg (bI.cells (bI.mk bN (nthI bN.Docs (ad bN.Docs (λdC=>bA dC doc))) ba known) (jv.mk eN r1)).toArray] func53 U ⟨⟨0,_,_,_,_,U,U,.inl ⟨ty123,U⟩⟩,trivial⟩ hs3 ⟨(jv.mk eN r1),U,(show bI.ok h1 (bI.mk bN (nthI bN.Docs (ad bN.Docs (λdC=>bA dC doc))) ba known) (jv.mk eN r1)from⟨(jr.mono hle1),ok1⟩)⟩)
theorem uN(h:HF)(x:Int)  : Ret prog 211 [I x] h (.bool (cmp_isNaN_int x)):=by
 refine sT RN U ntmps211 U λX hM hX hF=>?_
 have hs0:=@rfl _ (cmp_isNaN_int x)
 exact sr (qO 9 U (nretP [.bool (x != x)] (cs hs0)))
end
end Go.Sg

namespace Go.Proofs
open Go.Shelf
def Tryz.JN:Go.Shelf.Ren:=⟨λ| 137=>384|217=>387|266=>388|n=>n,λ| 9=>9|5=>5|3=>3|n=>n,λ| n=>n⟩
theorem Tryz.lays137:Go.Proofs.Lays.n137 Tryz.prog Tryz.JN:={
 mixed:=by kernel_rfl
 f137:=Tryz.func384.trans (congrArg some (by kernel_rfl))
 f217:=Tryz.func387.trans (congrArg some (by kernel_rfl))
 f266:=Tryz.func388.trans (congrArg some (by kernel_rfl))
 t3:=Tryz.underlying3
 a3:=Tryz.isAgg3
 z3:=Tryz.sizeOf3
 v3:=Tryz.zeroValue3
 t5:=Tryz.underlying5
 a5:=Tryz.isAgg5
 z5:=Tryz.sizeOf5
 v5:=Tryz.zeroValue5
 t9:=Tryz.underlying9
 a9:=Tryz.isAgg9
 z9:=Tryz.sizeOf9
 v9:=Tryz.zeroValue9 }
open Go.RowKit in
theorem Tryz.strings_IndexByte(s:ByteArray)(c:Int)(w:World):
  Calls Tryz.prog 384 #[.string s,.int .u8 c] w λe w'=>e=.returned (.int .i64 (Lib.indexByte s.data.toList c.toNat.toUInt8))/\w'=w:=Any.strings_IndexByte Tryz.lays137 s c w
open Go.RowKit Go.Lib in
def Tryz.JM:Go.Shelf.Ren:=⟨λ| 189=>88|125=>174|257=>173|128=>271|129=>272|294=>263|295=>264|296=>265|297=>266|298=>267|299=>268|216=>209|300=>269|301=>270|328=>316|329=>317|330=>318|331=>319|332=>320|215=>211|343=>354|n=>n,λ| 28=>31|3=>3|46=>245|0=>0|51=>313|53=>315|4=>4|183=>307|182=>306|131=>191|5=>5|9=>9|218=>349|222=>353|228=>382|229=>213|n=>n,λ| n=>n⟩
theorem Tryz.lays189:Go.Proofs.Lays.n189 Tryz.prog Tryz.JM:={
 mixed:=by kernel_rfl
 f125:=Tryz.func174.trans (congrArg some (by kernel_rfl))
 f128:=Tryz.func271.trans (congrArg some (by kernel_rfl))
 f129:=Tryz.func272.trans (congrArg some (by kernel_rfl))
 f189:=Tryz.func88.trans (congrArg some (by kernel_rfl))
 f215:=Tryz.func211.trans (congrArg some (by kernel_rfl))
 f216:=Tryz.func209.trans (congrArg some (by kernel_rfl))
 f257:=Tryz.func173.trans (congrArg some (by kernel_rfl))
 f294:=Tryz.func263.trans (congrArg some (by kernel_rfl))
 f295:=Tryz.func264.trans (congrArg some (by kernel_rfl))
 f296:=Tryz.func265.trans (congrArg some (by kernel_rfl))
 f297:=Tryz.func266.trans (congrArg some (by kernel_rfl))
 f298:=Tryz.func267.trans (congrArg some (by kernel_rfl))
 f299:=Tryz.func268.trans (congrArg some (by kernel_rfl))
 f300:=Tryz.func269.trans (congrArg some (by kernel_rfl))
 f301:=Tryz.func270.trans (congrArg some (by kernel_rfl))
 f328:=Tryz.func316.trans (congrArg some (by kernel_rfl))
 f329:=Tryz.func317.trans (congrArg some (by kernel_rfl))
 f330:=Tryz.func318.trans (congrArg some (by kernel_rfl))
 f331:=Tryz.func319.trans (congrArg some (by kernel_rfl))
 f332:=Tryz.func320.trans (congrArg some (by kernel_rfl))
 f343:=Tryz.func354.trans (congrArg some (by kernel_rfl))
 t0:=Tryz.underlying0
 a0:=Tryz.isAgg0
 z0:=Tryz.sizeOf0
 v0:=Tryz.zeroValue0
 t3:=Tryz.underlying3
 a3:=Tryz.isAgg3
 z3:=Tryz.sizeOf3
 v3:=Tryz.zeroValue3
 t4:=Tryz.underlying4
 a4:=Tryz.isAgg4
 z4:=Tryz.sizeOf4
 v4:=Tryz.zeroValue4
 t5:=Tryz.underlying5
 a5:=Tryz.isAgg5
 z5:=Tryz.sizeOf5
 v5:=Tryz.zeroValue5
 t9:=Tryz.underlying9
 a9:=Tryz.isAgg9
 z9:=Tryz.sizeOf9
 v9:=Tryz.zeroValue9
 t28:=Tryz.underlying31
 a28:=Tryz.isAgg31
 z28:=Tryz.sizeOf31
 v28:=Tryz.zeroValue31
 t46:=Tryz.underlying245
 a46:=Tryz.isAgg245
 z46:=Tryz.sizeOf245
 v46:=Tryz.zeroValue245
 t51:=Tryz.underlying313
 a51:=Tryz.isAgg313
 z51:=Tryz.sizeOf313
 v51:=Tryz.zeroValue313
 t53:=Tryz.underlying315
 a53:=Tryz.isAgg315
 z53:=Tryz.sizeOf315
 v53:=Tryz.zeroValue315
 t131:=Tryz.underlying191
 a131:=Tryz.isAgg191
 z131:=Tryz.sizeOf191
 v131:=Tryz.zeroValue191
 t182:=Tryz.underlying306
 a182:=Tryz.isAgg306
 z182:=Tryz.sizeOf306
 v182:=Tryz.zeroValue306
 t183:=Tryz.underlying307
 a183:=Tryz.isAgg307
 z183:=Tryz.sizeOf307
 v183:=Tryz.zeroValue307
 t218:=Tryz.underlying349
 a218:=Tryz.isAgg349
 z218:=Tryz.sizeOf349
 v218:=Tryz.zeroValue349
 t222:=Tryz.underlying353
 a222:=Tryz.isAgg353
 z222:=Tryz.sizeOf353
 v222:=Tryz.zeroValue353
 t228:=Tryz.underlying382
 a228:=Tryz.isAgg382
 z228:=Tryz.sizeOf382
 v228:=Tryz.zeroValue382
 t229:=Tryz.underlying213
 a229:=Tryz.isAgg213
 z229:=Tryz.sizeOf213
 v229:=Tryz.zeroValue213 }
open Go.Sort Go.RowKit in
theorem Tryz.slices_Sort_int(blk off cap:Nat)(zs:List Int)(w:World)(hH:Holds (Value.int .i64) w blk off zs.toArray)(hblk:blk<w.heap.size)(hsz:zs.length<4611686018427387904):
  Calls Tryz.prog 88 #[.slice (some ⟨blk,off,none⟩) zs.length cap] w λe w'=>
   e=.returned (.tuple #[])/\∃n os,w'=grow (putRow (Value.int .i64) (Sort.ahead w n) blk off (zs.mergeSort λx y=>decide (x<=y)).toArray) os:=Any.slices_Sort_int Tryz.lays189 blk off cap zs w hH hblk hsz
def Tryz.Gt:Go.Shelf.Ren:=⟨λ| 20=>136|n=>n,λ| 22=>31|3=>3|4=>4|0=>0|n=>n,λ| n=>n⟩
theorem Tryz.laysNm220:Go.Proofs.Lays2.n20 Tryz.prog Tryz.Gt:={
 mixed:=by kernel_rfl
 f20:=Tryz.func136.trans (congrArg some (by kernel_rfl))
 t0:=Tryz.underlying0
 a0:=Tryz.isAgg0
 z0:=Tryz.sizeOf0
 v0:=Tryz.zeroValue0
 t3:=Tryz.underlying3
 a3:=Tryz.isAgg3
 z3:=Tryz.sizeOf3
 v3:=Tryz.zeroValue3
 t4:=Tryz.underlying4
 a4:=Tryz.isAgg4
 z4:=Tryz.sizeOf4
 v4:=Tryz.zeroValue4
 t22:=Tryz.underlying31
 a22:=Tryz.isAgg31
 z22:=Tryz.sizeOf31
 v22:=Tryz.zeroValue31
 i3:=by kernel_rfl }
open Go.RowKit Go.Lib Go.Sort in
open Go.RowKit Go.Lib Go.Sort in
theorem Tryz.slices_Compact_int(blk off cap:Nat)(zs:List Int)(w:World)(hH:Holds (Value.int .i64) w blk off zs.toArray)(hsz:zs.length<=9223372036854775807)(hcap:zs.length<=cap):
  Calls Tryz.prog 136 #[.slice (some ⟨blk,off,none⟩) zs.length cap] w λe w'=>e=.returned (.slice (some ⟨blk,off,none⟩) (Lib.compact zs).length cap)/\∃q,w'=putRow (Value.int .i64) (Sort.ahead w q) blk off (Lib.compact zs++List.replicate (zs.length-(Lib.compact zs).length) 0).toArray:=Any.slices_Compact_int Tryz.laysNm220 blk off cap zs w hH hsz hcap
open Go.RowKit Go.Lib Go.Sort in
theorem Tryz.slices_Compact_int_empty(a:Option Addr)(cap:Nat)(w:World):
  Calls Tryz.prog 136 #[.slice a 0 cap] w λe w'=>e=.returned (.slice a 0 cap)/\w'=w:=Any.slices_Compact_int_empty Tryz.laysNm220 a cap w
open Go.RowKit Go.Lib in
open Go.RowKit Go.Lib in
open Go.RowKit Go.Lib in
def Tryz.Gs:Go.Shelf.Ren:=⟨λ| 25=>114|31=>209|32=>210|37=>211|n=>n,λ| 22=>31|3=>3|4=>4|40=>245|0=>0|n=>n,λ| n=>n⟩
theorem Tryz.laysNm225:Go.Proofs.Lays2.n25 Tryz.prog Tryz.Gs:={
 mixed:=by kernel_rfl
 f25:=Tryz.func114.trans (congrArg some (by kernel_rfl))
 f31:=Tryz.func209.trans (congrArg some (by kernel_rfl))
 f32:=Tryz.func210.trans (congrArg some (by kernel_rfl))
 f37:=Tryz.func211.trans (congrArg some (by kernel_rfl))
 t0:=Tryz.underlying0
 a0:=Tryz.isAgg0
 z0:=Tryz.sizeOf0
 v0:=Tryz.zeroValue0
 t3:=Tryz.underlying3
 a3:=Tryz.isAgg3
 z3:=Tryz.sizeOf3
 v3:=Tryz.zeroValue3
 t4:=Tryz.underlying4
 a4:=Tryz.isAgg4
 z4:=Tryz.sizeOf4
 v4:=Tryz.zeroValue4
 t22:=Tryz.underlying31
 a22:=Tryz.isAgg31
 z22:=Tryz.sizeOf31
 v22:=Tryz.zeroValue31
 t40:=Tryz.underlying245
 a40:=Tryz.isAgg245
 z40:=Tryz.sizeOf245
 v40:=Tryz.zeroValue245 }
open Go.RowKit Go.Lib in
theorem Tryz.slices_BinarySearch_int(b off n c:Nat)(zs:List Int)(x:Int)(w:World)(hz:n<=zs.length)(hbig:n<4611686018427387904)(hc:∀j,j<zs.length->w.cell? ⟨b,off+j,none⟩=some (.int .i64 (zs.getD j 0)))(hs:(zs.take n).Pairwise (·<=·)):
  Calls Tryz.prog 114 #[.slice (some ⟨b,off,none⟩) n c,.int .i64 x] w λe w'=>e=.returned (.tuple #[.int .i64 ((zs.take n).countP (·<x):Nat),.bool ((zs.take n).contains x)])/\∃q,w'=w.drewN q:=Any.slices_BinarySearch_int Tryz.laysNm225 b off n c zs x w hz hbig hc hs
open Go.RowKit Go.Sort in
theorem Tryz.slices_Sort_int_none(p:Option Addr)(cap:Nat)(w:World):
  Calls Tryz.prog 88 #[.slice p 0 cap] w λe w'=>e=.returned (.tuple #[])/\w'=w:=Any.slices_Sort_int_none Tryz.lays189 p cap w
open Go.RowKit Go.Lib in
theorem Tryz.slices_BinarySearch_int_empty(a:Option Addr)(c:Nat)(x:Int)(w:World):
  Calls Tryz.prog 114 #[.slice a 0 c,.int .i64 x] w λe w'=>e=.returned (.tuple #[.int .i64 0,.bool false])/\w'=w:=Any.slices_BinarySearch_int_empty Tryz.laysNm225 a c x w
def Tryz.Ah:Go.Shelf.Ren:=⟨λ| 7=>211|n=>n,λ| 22=>3|4=>4|n=>n,λ| n=>n⟩
theorem Tryz.E7:Go.Proofs.SlLaysC2.n7 Tryz.prog Tryz.Ah:={
 mixed:=by kernel_rfl
 f7:=⟨Tryz.f211.name,by decide,Tryz.func211.trans (congrArg some (by kernel_rfl))⟩
 t4:=Tryz.underlying4
 a4:=Tryz.isAgg4
 z4:=Tryz.sizeOf4
 v4:=Tryz.zeroValue4
 t22:=Tryz.underlying3
 a22:=Tryz.isAgg3
 z22:=Tryz.sizeOf3
 v22:=Tryz.zeroValue3 }
open Go.Lib in
theorem Tryz.cmp_isNaN_int(x:Int)(w:World):
  Calls Tryz.prog 211 #[.int .i64 x] w λe w'=>e=.returned (.bool false)/\w'=w:=AnyG.cmp_isNaN_int Tryz.E7 x w
def Tryz.Ai:Go.Shelf.Ren:=⟨λ| 5=>118|7=>211|n=>n,λ| 22=>3|3=>3|4=>4|n=>n,λ| n=>n⟩
theorem Tryz.E8:Go.Proofs.SlLaysC2.n5 Tryz.prog Tryz.Ai:={
 mixed:=by kernel_rfl
 f5:=⟨Tryz.f118.name,by decide,Tryz.func118.trans (congrArg some (by kernel_rfl))⟩
 f7:=⟨Tryz.f211.name,by decide,Tryz.func211.trans (congrArg some (by kernel_rfl))⟩
 t3:=Tryz.underlying3
 a3:=Tryz.isAgg3
 z3:=Tryz.sizeOf3
 v3:=Tryz.zeroValue3
 t4:=Tryz.underlying4
 a4:=Tryz.isAgg4
 z4:=Tryz.sizeOf4
 v4:=Tryz.zeroValue4
 t22:=Tryz.underlying3
 a22:=Tryz.isAgg3
 z22:=Tryz.sizeOf3
 v22:=Tryz.zeroValue3 }
open Go.Lib in
theorem Tryz.cmp_Compare_int(x y:Int)(w:World):
  Calls Tryz.prog 118 #[.int .i64 x,.int .i64 y] w λe w'=>e=.returned (.int .i64 (Lib.compareInt x y))/\w'=w:=AnyG.cmp_Compare_int Tryz.E8 x y w
def Tryz.HV:Go.Shelf.Ren:=⟨λ| 6=>274|15=>174|14=>322|28=>271|29=>272|20=>355|21=>356|22=>357|23=>358|24=>359|25=>360|26=>361|27=>362|46=>374|47=>317|48=>318|49=>375|50=>376|57=>383|n=>n,λ| 22=>249|24=>182|25=>248|3=>3|39=>245|0=>0|53=>313|55=>315|4=>4|46=>307|45=>306|50=>191|5=>5|9=>9|66=>349|70=>353|76=>382|77=>213|n=>n,λ| n=>n⟩
theorem Tryz.sortSeat:Go.Proofs.SlLaysF0.n6 Tryz.prog Tryz.HV:={
 mixed:=by kernel_rfl
 f6:=⟨Tryz.f274.name,by decide,Tryz.func274.trans (congrArg some (by kernel_rfl))⟩
 f14:=⟨Tryz.f322.name,by decide,Tryz.func322.trans (congrArg some (by kernel_rfl))⟩
 f15:=Tryz.func174.trans (congrArg some (by kernel_rfl))
 f20:=⟨Tryz.f355.name,by decide,Tryz.func355.trans (congrArg some (by kernel_rfl))⟩
 f21:=⟨Tryz.f356.name,by decide,Tryz.func356.trans (congrArg some (by kernel_rfl))⟩
 f22:=⟨Tryz.f357.name,by decide,Tryz.func357.trans (congrArg some (by kernel_rfl))⟩
 f23:=⟨Tryz.f358.name,by decide,Tryz.func358.trans (congrArg some (by kernel_rfl))⟩
 f24:=⟨Tryz.f359.name,by decide,Tryz.func359.trans (congrArg some (by kernel_rfl))⟩
 f25:=⟨Tryz.f360.name,by decide,Tryz.func360.trans (congrArg some (by kernel_rfl))⟩
 f26:=⟨Tryz.f361.name,by decide,Tryz.func361.trans (congrArg some (by kernel_rfl))⟩
 f27:=⟨Tryz.f362.name,by decide,Tryz.func362.trans (congrArg some (by kernel_rfl))⟩
 f28:=Tryz.func271.trans (congrArg some (by kernel_rfl))
 f29:=Tryz.func272.trans (congrArg some (by kernel_rfl))
 f46:=⟨Tryz.f374.name,by decide,Tryz.func374.trans (congrArg some (by kernel_rfl))⟩
 f47:=Tryz.func317.trans (congrArg some (by kernel_rfl))
 f48:=Tryz.func318.trans (congrArg some (by kernel_rfl))
 f49:=⟨Tryz.f375.name,by decide,Tryz.func375.trans (congrArg some (by kernel_rfl))⟩
 f50:=⟨Tryz.f376.name,by decide,Tryz.func376.trans (congrArg some (by kernel_rfl))⟩
 f57:=⟨Tryz.f383.name,by decide,Tryz.func383.trans (congrArg some (by kernel_rfl))⟩
 t0:=Tryz.underlying0
 a0:=Tryz.isAgg0
 z0:=Tryz.sizeOf0
 v0:=Tryz.zeroValue0
 t3:=Tryz.underlying3
 a3:=Tryz.isAgg3
 z3:=Tryz.sizeOf3
 v3:=Tryz.zeroValue3
 t4:=Tryz.underlying4
 a4:=Tryz.isAgg4
 z4:=Tryz.sizeOf4
 v4:=Tryz.zeroValue4
 t5:=Tryz.underlying5
 a5:=Tryz.isAgg5
 z5:=Tryz.sizeOf5
 v5:=Tryz.zeroValue5
 t9:=Tryz.underlying9
 a9:=Tryz.isAgg9
 z9:=Tryz.sizeOf9
 v9:=Tryz.zeroValue9
 t22:=Tryz.underlying249
 a22:=Tryz.isAgg249
 z22:=Tryz.sizeOf249
 v22:=Tryz.zeroValue249
 t25:=Tryz.underlying248
 a25:=Tryz.isAgg248
 z25:=Tryz.sizeOf248
 v25:=Tryz.zeroValue248
 t39:=Tryz.underlying245
 a39:=Tryz.isAgg245
 z39:=Tryz.sizeOf245
 v39:=Tryz.zeroValue245
 t45:=Tryz.underlying306
 a45:=Tryz.isAgg306
 z45:=Tryz.sizeOf306
 v45:=Tryz.zeroValue306
 t46:=Tryz.underlying307
 a46:=Tryz.isAgg307
 z46:=Tryz.sizeOf307
 v46:=Tryz.zeroValue307
 t50:=Tryz.underlying191
 a50:=Tryz.isAgg191
 z50:=Tryz.sizeOf191
 v50:=Tryz.zeroValue191
 t53:=Tryz.underlying313
 a53:=Tryz.isAgg313
 z53:=Tryz.sizeOf313
 v53:=Tryz.zeroValue313
 t55:=Tryz.underlying315
 a55:=Tryz.isAgg315
 z55:=Tryz.sizeOf315
 v55:=Tryz.zeroValue315
 t66:=Tryz.underlying349
 a66:=Tryz.isAgg349
 z66:=Tryz.sizeOf349
 v66:=Tryz.zeroValue349
 t70:=Tryz.underlying353
 a70:=Tryz.isAgg353
 z70:=Tryz.sizeOf353
 v70:=Tryz.zeroValue353
 t76:=Tryz.underlying382
 a76:=Tryz.isAgg382
 z76:=Tryz.sizeOf382
 v76:=Tryz.zeroValue382
 t77:=Tryz.underlying213
 a77:=Tryz.isAgg213
 z77:=Tryz.sizeOf213
 v77:=Tryz.zeroValue213 }
end Go.Proofs
namespace Go.Sg
open Go.Proofs Go.Proofs.Tryz Go.RowKit
theorem P0{h:HF}{b:Option Addr}{xs:List Int}(hs:SlB zC h b xs)(hne:xs≠[]):∃g off,b=some ⟨g,off,none⟩/\∀w,Pre h [] w->∀j,j<xs.length->w.cell? ⟨g,off+j,none⟩=some (.int .i64 (xs.getD j 0)):=by
 obtain⟨x0,r,rfl⟩:∃x r,xs=x::r:=by cases xs with
  |nil=>exact(hne rfl).elim
  |cons x r=>exact⟨x,r,rfl⟩
 obtain⟨p,cs,rfl,hA,_,_⟩:=hs.2 0 x0 rfl
 have hsp:p.spot=none:=by
  obtain⟨_,_,_,_,h2,_⟩:=hA
  simpa[vS]using h2
 obtain⟨g,off,sp⟩:=p
 simp only at hsp
 subst hsp
 refine⟨g,off,rfl,λw hp j hj=>?_⟩
 obtain⟨p',cs',e,hA',hl,hr⟩:=hs.2 j ((x0::r)[j]) (by rw[qF hj])
 cases e
 have hcs:cs'=[.int .i64 ((x0::r)[j])]:=hr
 subst hcs
 have hc:=hA'.cell (X:=⟨w,h,[]⟩) (L:=[]) (Tf hp) (j:=0) (v:=.int .i64 ((x0::r)[j])) rfl
 have ha:((⟨g,off,none⟩:Addr).add (j*Rp.int.sz)).add 0=⟨g,off+j,none⟩:=by
  have h1:j*Rp.int.sz=j:=Nat.mul_one j
  rw[h1]
  by_cases e0:j=0
  .subst e0;simp[vS]
  .simp[vS,e0]
 rw[ha]at hc
 rw[hc]
 simp[List.getD,qF hj]
theorem m8(h:HF)(x:List Int)(QF:Option Addr)(Qp:Nat)(target:Int)(hx:SlC zC h QF Qp x)(hs:x.Pairwise (·<=·))(hsz:x.length<=2000000):
  Ret prog 114 [.slice QF x.length Qp,.int .i64 target] h (.tuple #[.int .i64 (slices_BinarySearch_int x target).1,.bool (slices_BinarySearch_int x target).2]):=by
 intro w hp
 by_cases hne:x=[]
 .subst hne
  refine(kj (Tryz.slices_BinarySearch_int_empty QF Qp target w) (λw' hw=>by cases hw.1)).mono ?_
  rintro e w' ⟨rfl,rfl⟩
  exact⟨h,[],Tf hp,rfl,rfl,rfl⟩
 .obtain⟨g,off,rfl,hc⟩:=P0 hx.1 hne
  refine(kj (Tryz.slices_BinarySearch_int g off x.length Qp x target w (jG _) (by omega) (hc w hp) (by simpa using hs)) (λw' hw=>by cases hw.1)).mono ?_
  rintro e w' ⟨rfl,q,rfl⟩
  refine⟨h,[],(Tf hp).drew _,?_,rfl,rfl⟩
  simp[bsI,slices_BinarySearch_int]
theorem mz(h:HF)(xs:List Int)(b:Option Addr)(c:Nat)(G:LH)(hG:du zC 3 h xs b c G)(hsz:xs.length<=1000000000000):
  nu prog 88 [.slice b xs.length c].toArray h G (λr h' G'=>h'=h/\r=.returned (.tuple #[])/\du zC 3 h (sortI xs) b c G'):=by
 intro w hp
 rcases hG with⟨rfl,rfl,rfl,rfl⟩|⟨bk,cl,sp,rfl,hcl,hlen,hcap,hmax,rfl⟩
 .refine(kj (Tryz.slices_Sort_int_none none 0 w) (λw' hw=>by cases hw.1)).mono ?_
  rintro e w' ⟨rfl,rfl⟩
  exact⟨h,[],Tf hp,rfl,rfl,by rw[show sortI []=[]from by simp[sortI]];exact du.nil⟩
 .have hb:=hp.own _ (xC.2 rfl)
  simp only at hb
  have hcl':cl=xs.map (zD .i64):=by
   clear hlen hb hp hcap hmax hsz
   induction xs generalizing cl with
   |nil=>exact hcl
   |cons y l ih=>
    obtain⟨cs,r,rfl,_,hr,hl⟩:=hcl
    have:cs=[.int .i64 y]:=hr
    rw[this,ih r hl];rfl
  subst hcl'
  have hH:Sort.Holds (zD .i64) w bk 0 xs.toArray:=by
   refine holds_of_blockI (cur:=(xs.map (zD .i64)++sp).toArray) (e:=3) hb ?_
   simp
  refine(kj (Tryz.slices_Sort_int bk 0 c xs w hH (gY hb) (by omega)) (λw' hw=>by cases hw.1)).mono ?_
  rw[Ii]
  rintro e w' ⟨rfl,n,os,rfl⟩
  obtain⟨g1,g2,g3,g4,g5⟩:=grownBy_sortedI (w:=w) (g:=bk) (n:=n) (os:=os) (sortI xs).toArray
  have hnew:=heap_sortedI (w:=w) (g:=bk) (n:=n) (os:=os) (sortI xs).toArray hb
  have htake:=take_putCellsI (xs.map (zD .i64)++sp).toArray (sortI xs) (by rw[iM];simp)
  refine⟨h,[(bk,.cells (Sort.putCells (zD .i64) 0 (sortI xs).toArray (xs.map (zD .i64)++sp).toArray) 3 (0,0))],⟨g1,g2,g3,g4,λk hk hM=>g5 k hk (λe=>hM (by cases e;simp)),λ_ _ e=>e,λ_ _=>rfl,λk o e=>?_,λq hq=>?_,?_,?_,?_⟩,rfl,rfl,?_⟩
  .have hne:k≠bk:=λe'=>by
    have:=hp.free _ (xC.2 rfl)
    simp only at this
    rw[e',this]at e;cases e
   exact(g5 k (gY (hp.imm k o e)) (λe'=>by cases e';exact hne rfl)).trans (hp.imm k o e)
  .rw[xC.1 hq];exact hnew
  .simp
  .intro q hq;rw[xC.1 hq];exact hp.free (bk,jJ (xs.map (zD .i64)++sp).toArray 3 (0,0)) (xC.2 rfl)
  .intro q hq;rw[xC.1 hq];exact .inr (by simp)
  .refine .inr ⟨bk,(sortI xs).map (zD .i64),(Sort.putCells (zD .i64) 0 (sortI xs).toArray (xs.map (zD .i64)++sp).toArray).toList.drop xs.length,rfl,?_,?_,by rw[iM];exact hcap,by rw[iM];exact hmax,?_⟩
   .have:∀l:List Int,bz zC h (l.map (zD .i64)) l:=by
     intro l
     induction l with
     |nil=>rfl
     |cons y l ih=>exact⟨[.int .i64 y],l.map (zD .i64),rfl,rfl,rfl,ih⟩
    exact this _
   .rw[←htake,iM,List.take_append_drop]
    simpa[Sort.putCells]using hlen
   .rw[←htake,iM,List.take_append_drop]
section steps
variable {P:Program} {b:Frame} {n:Nat} {ops:Array Oper} {F:List Frame->(Machine->Prop)->Prop} {e:Env} {ds:List Deferred} {X:Cx} {h:HF} {L:LH} {K:Env->HF->LH->Prop}
variable {d:Option Nat} {ty:TypeId} {pos:String} {af:Array Edge} {g:Option (Nat×Bool)}
theorem m9(A0 G Q:LH){v:Value}{Φ : LH->Prop}{f:FuncId}{ass:Array Operand}{ats:Array TypeId}{vs:List Value}(hc:∀args w,(callFunc f args).run P w=.ok (.enter f args) w)(hs:nu P f vs.toArray h G (λr h' G'=>h'=h/\r=.returned v/\Φ G'))(hL:L=A0++(G++Q))(hvs:ass.toList.map e.ev=vs)(t':∀G',Φ G'->K (pute e d v) h (A0++(G'++Q)))(hg:guardB ops e ⟨d,.call ⟨.value (.func f),ass,ats⟩,ty,pos,af,g⟩=true:=by rfl):
  Stp P b n ops F ds X ⟨d,.call ⟨.value (.func f),ass,ats⟩,ty,pos,af,g⟩ e h L K:=by
 unfold Stp
 rw[if_pos hg]
 intro w hw
 subst hL
 have hp:∀G:LH,(A0++(G++Q)).Perm (G++(A0++Q)):=λG=>by
  rw[←kC,←kC];exact List.Perm.append_right Q List.perm_append_comm
 have hw':=hw.perm (hp G)
 have harr:ass.map e.ev=vs.toArray:=Array.ext' (by simp[←hvs])
 have hr:(execOp e.ev ⟨d,.call ⟨.value (.func f),ass,ats⟩,ty,pos,af,g⟩).run P w=.ok (.enter f vs.toArray) w:=by
  simp[execOp,resolve,Env.ev,xJ,invoke,harr,hc]
 rw[hr]
 refine lr (by simp) (je (rq.mono (hs w hw'.pre.left) ?_))
 rintro x w' ⟨h',B,hst,rfl,rfl,hG⟩
 exact⟨h',_,(St.after (A:=G) (F:=A0++Q) hw' hst).perm (hp B).symm,t' B hG⟩
end steps
end Go.Sg
